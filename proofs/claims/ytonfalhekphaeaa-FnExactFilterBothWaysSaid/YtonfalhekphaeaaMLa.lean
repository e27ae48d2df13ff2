/- The value of a lane at a place. -/
import Derived.Test.YtonfalhekphaeaaMB
import Derived.Test.YtonfalhekphaeaaMSh
set_option linter.unusedVariables false
set_option linter.unusedSimpArgs false
namespace Go.E
open Go
def L83 : LFn := ⟨2, (.seq (.reg [⟨(.some 4), (.mv (.c (.lf (.flt .f32 0)))), none⟩])
 (.seq (.seq (.reg [⟨(.some 9), (.mv (.t 1)), none⟩, ⟨(.some 10), (.mv (.t 0)), none⟩, ⟨(.some 11), (.iaddr 2 (.t 10) (.c (.lf (.int .i64 0)))), none⟩, ⟨(.some 12), (.faddr 0 (.t 11)), none⟩, ⟨(.some 13), (.load false 1 (.t 12)), none⟩, ⟨(.some 14), (.bin .leq (.t 9) (.t 13)), none⟩])
 (.cond (.t 14) (.seq (.reg [⟨(.some 15), (.mv (.t 0)), none⟩, ⟨(.some 16), (.iaddr 2 (.t 15) (.c (.lf (.int .i64 0)))), none⟩, ⟨(.some 17), (.faddr 1 (.t 16)), none⟩, ⟨(.some 18), (.load false 1 (.t 17)), none⟩, ⟨(.some 4), (.mv (.t 18)), none⟩])
 .ret) .skip))
 (.seq (.seq (.reg [⟨(.some 5), (.mv (.c (.lf (.int .i64 1)))), none⟩])
 (.block 0 (.loop (.seq (.seq (.reg [⟨(.some 19), (.mv (.t 5)), none⟩, ⟨(.some 20), (.mv (.t 0)), none⟩, ⟨(.some 21), (.len (.t 20)), none⟩, ⟨(.some 22), (.bin .lss (.t 19) (.t 21)), none⟩])
 (.cond (.t 22) .skip (.exit 0)))
 (.seq (.block 1 (.seq (.reg [⟨(.some 25), (.mv (.t 0)), none⟩, ⟨(.some 26), (.mv (.t 5)), none⟩, ⟨(.some 27), (.bin .sub (.t 26) (.c (.lf (.int .i64 1)))), none⟩, ⟨(.some 28), (.iaddr 2 (.t 25) (.t 27)), none⟩, ⟨(.some 29), (.load true 2 (.t 28)), none⟩, ⟨(.some 6), (.alloc 111 [(.int .i64 0), (.flt .f32 0)]), none⟩, ⟨none, (.store 2 (.t 6) (.t 29)), none⟩])
 (.seq (.reg [⟨(.some 30), (.mv (.t 0)), none⟩, ⟨(.some 31), (.mv (.t 5)), none⟩, ⟨(.some 32), (.iaddr 2 (.t 30) (.t 31)), none⟩, ⟨(.some 33), (.load true 2 (.t 32)), none⟩, ⟨(.some 7), (.alloc 111 [(.int .i64 0), (.flt .f32 0)]), none⟩, ⟨none, (.store 2 (.t 7) (.t 33)), none⟩])
 (.seq (.reg [⟨(.some 34), (.mv (.t 1)), none⟩, ⟨(.some 35), (.faddr 0 (.t 7)), none⟩, ⟨(.some 36), (.load false 1 (.t 35)), none⟩, ⟨(.some 37), (.bin .lss (.t 34) (.t 36)), none⟩])
 (.cond (.t 37) (.seq (.seq (.reg [⟨(.some 38), (.mv (.t 1)), none⟩, ⟨(.some 39), (.faddr 0 (.t 6)), none⟩, ⟨(.some 40), (.load false 1 (.t 39)), none⟩, ⟨(.some 41), (.bin .eql (.t 38) (.t 40)), none⟩])
 (.cond (.t 41) (.seq (.reg [⟨(.some 42), (.faddr 1 (.t 6)), none⟩, ⟨(.some 43), (.load false 1 (.t 42)), none⟩, ⟨(.some 4), (.mv (.t 43)), none⟩])
 .ret) .skip))
 (.seq (.reg [⟨(.some 44), (.mv (.t 1)), none⟩, ⟨(.some 45), (.faddr 0 (.t 6)), none⟩, ⟨(.some 46), (.load false 1 (.t 45)), none⟩, ⟨(.some 47), (.bin .sub (.t 44) (.t 46)), none⟩, ⟨(.some 48), (.toflt .f32 (.t 47)), none⟩, ⟨(.some 49), (.faddr 0 (.t 7)), none⟩, ⟨(.some 50), (.load false 1 (.t 49)), none⟩, ⟨(.some 51), (.faddr 0 (.t 6)), none⟩, ⟨(.some 52), (.load false 1 (.t 51)), none⟩, ⟨(.some 53), (.bin .sub (.t 50) (.t 52)), none⟩, ⟨(.some 54), (.toflt .f32 (.t 53)), none⟩, ⟨(.some 55), (.bin .quo (.t 48) (.t 54)), none⟩, ⟨(.some 8), (.mv (.t 55)), none⟩])
 (.seq (.reg [⟨(.some 56), (.faddr 1 (.t 6)), none⟩, ⟨(.some 57), (.load false 1 (.t 56)), none⟩, ⟨(.some 58), (.faddr 1 (.t 7)), none⟩, ⟨(.some 59), (.load false 1 (.t 58)), none⟩, ⟨(.some 60), (.faddr 1 (.t 6)), none⟩, ⟨(.some 61), (.load false 1 (.t 60)), none⟩, ⟨(.some 62), (.bin .sub (.t 59) (.t 61)), none⟩, ⟨(.some 63), (.mv (.t 8)), none⟩, ⟨(.some 64), (.bin .mul (.t 62) (.t 63)), none⟩, ⟨(.some 65), (.bin .add (.t 57) (.t 64)), none⟩, ⟨(.some 4), (.mv (.t 65)), none⟩])
 .ret))) .skip)))))
 (.reg [⟨(.some 23), (.mv (.t 5)), none⟩, ⟨(.some 24), (.bin .add (.t 23) (.c (.lf (.int .i64 1)))), none⟩, ⟨(.some 5), (.mv (.t 24)), none⟩]))))))
 (.seq (.reg [⟨(.some 66), (.mv (.t 0)), none⟩, ⟨(.some 67), (.mv (.t 0)), none⟩, ⟨(.some 68), (.len (.t 67)), none⟩, ⟨(.some 69), (.bin .sub (.t 68) (.c (.lf (.int .i64 1)))), none⟩, ⟨(.some 70), (.iaddr 2 (.t 66) (.t 69)), none⟩, ⟨(.some 71), (.faddr 1 (.t 70)), none⟩, ⟨(.some 72), (.load false 1 (.t 71)), none⟩, ⟨(.some 4), (.mv (.t 72)), none⟩])
 .ret)))), [(.tmp 4)]⟩
def L88 : LFn := ⟨2, (.seq (.reg [⟨(.some 4), (.mv (.c (.lf (.flt .f32 0)))), none⟩])
 (.seq (.seq (.reg [⟨(.some 8), (.mv (.t 1)), none⟩, ⟨(.some 9), (.mv (.t 0)), none⟩, ⟨(.some 10), (.iaddr 2 (.t 9) (.c (.lf (.int .i64 0)))), none⟩, ⟨(.some 11), (.faddr 0 (.t 10)), none⟩, ⟨(.some 12), (.load false 1 (.t 11)), none⟩, ⟨(.some 13), (.bin .leq (.t 8) (.t 12)), none⟩])
 (.cond (.t 13) (.seq (.reg [⟨(.some 14), (.mv (.t 0)), none⟩, ⟨(.some 15), (.iaddr 2 (.t 14) (.c (.lf (.int .i64 0)))), none⟩, ⟨(.some 16), (.faddr 1 (.t 15)), none⟩, ⟨(.some 17), (.load false 1 (.t 16)), none⟩, ⟨(.some 4), (.mv (.t 17)), none⟩])
 .ret) .skip))
 (.seq (.seq (.reg [⟨(.some 5), (.mv (.c (.lf (.int .i64 1)))), none⟩])
 (.block 0 (.loop (.seq (.seq (.reg [⟨(.some 18), (.mv (.t 5)), none⟩, ⟨(.some 19), (.mv (.t 0)), none⟩, ⟨(.some 20), (.len (.t 19)), none⟩, ⟨(.some 21), (.bin .lss (.t 18) (.t 20)), none⟩])
 (.cond (.t 21) .skip (.exit 0)))
 (.seq (.block 1 (.seq (.any (.op ⟨(.some 24), (.mv (.t 0)), none⟩ (.op ⟨(.some 25), (.mv (.t 5)), none⟩ (.op ⟨(.some 26), (.bin .sub (.t 25) (.c (.lf (.int .i64 1)))), none⟩ (.op ⟨(.some 27), (.iaddr 2 (.t 24) (.t 26)), none⟩ (.op ⟨(.some 28), (.load true 2 (.t 27)), none⟩ (.op ⟨(.some 29), (.mv (.t 0)), none⟩ (.op ⟨(.some 30), (.mv (.t 5)), none⟩ (.op ⟨(.some 31), (.iaddr 2 (.t 29) (.t 30)), none⟩ (.alt (.op ⟨(.some 32), (.load true 2 (.t 31)), none⟩ (.alt (.op ⟨(.some 6), (.alloc 111 [(.int .i64 0), (.flt .f32 0)]), none⟩ (.op ⟨(.some 7), (.alloc 111 [(.int .i64 0), (.flt .f32 0)]), none⟩ (.op ⟨none, (.store 2 (.t 6) (.t 28)), none⟩ (.op ⟨none, (.store 2 (.t 7) (.t 32)), none⟩ .nil)))) (.op ⟨(.some 7), (.alloc 111 [(.int .i64 0), (.flt .f32 0)]), none⟩ (.op ⟨(.some 6), (.alloc 111 [(.int .i64 0), (.flt .f32 0)]), none⟩ (.op ⟨none, (.store 2 (.t 6) (.t 28)), none⟩ (.op ⟨none, (.store 2 (.t 7) (.t 32)), none⟩ .nil)))))) (.alt (.op ⟨(.some 6), (.alloc 111 [(.int .i64 0), (.flt .f32 0)]), none⟩ (.alt (.op ⟨(.some 32), (.load true 2 (.t 31)), none⟩ (.op ⟨(.some 7), (.alloc 111 [(.int .i64 0), (.flt .f32 0)]), none⟩ (.op ⟨none, (.store 2 (.t 6) (.t 28)), none⟩ (.op ⟨none, (.store 2 (.t 7) (.t 32)), none⟩ .nil)))) (.op ⟨(.some 7), (.alloc 111 [(.int .i64 0), (.flt .f32 0)]), none⟩ (.alt (.op ⟨(.some 32), (.load true 2 (.t 31)), none⟩ (.op ⟨none, (.store 2 (.t 6) (.t 28)), none⟩ (.op ⟨none, (.store 2 (.t 7) (.t 32)), none⟩ .nil))) (.op ⟨none, (.store 2 (.t 6) (.t 28)), none⟩ (.op ⟨(.some 32), (.load true 2 (.t 31)), none⟩ (.op ⟨none, (.store 2 (.t 7) (.t 32)), none⟩ .nil))))))) (.op ⟨(.some 7), (.alloc 111 [(.int .i64 0), (.flt .f32 0)]), none⟩ (.alt (.op ⟨(.some 32), (.load true 2 (.t 31)), none⟩ (.op ⟨(.some 6), (.alloc 111 [(.int .i64 0), (.flt .f32 0)]), none⟩ (.op ⟨none, (.store 2 (.t 6) (.t 28)), none⟩ (.op ⟨none, (.store 2 (.t 7) (.t 32)), none⟩ .nil)))) (.op ⟨(.some 6), (.alloc 111 [(.int .i64 0), (.flt .f32 0)]), none⟩ (.alt (.op ⟨(.some 32), (.load true 2 (.t 31)), none⟩ (.op ⟨none, (.store 2 (.t 6) (.t 28)), none⟩ (.op ⟨none, (.store 2 (.t 7) (.t 32)), none⟩ .nil))) (.op ⟨none, (.store 2 (.t 6) (.t 28)), none⟩ (.op ⟨(.some 32), (.load true 2 (.t 31)), none⟩ (.op ⟨none, (.store 2 (.t 7) (.t 32)), none⟩ .nil))))))))))))))))))
 (.block 2 (.seq (.reg [⟨(.some 34), (.mv (.t 1)), none⟩, ⟨(.some 35), (.faddr 0 (.t 7)), none⟩, ⟨(.some 36), (.load false 1 (.t 35)), none⟩, ⟨(.some 37), (.bin .eql (.t 34) (.t 36)), none⟩, ⟨(.some 33), (.mv (.t 37)), none⟩])
 (.cond (.t 33) (.seq (.reg [⟨(.some 38), (.faddr 1 (.t 7)), none⟩, ⟨(.some 39), (.load false 1 (.t 38)), none⟩, ⟨(.some 4), (.mv (.t 39)), none⟩])
 .ret) (.seq (.reg [⟨(.some 41), (.mv (.t 1)), none⟩, ⟨(.some 42), (.faddr 0 (.t 7)), none⟩, ⟨(.some 43), (.load false 1 (.t 42)), none⟩, ⟨(.some 44), (.bin .lss (.t 41) (.t 43)), none⟩, ⟨(.some 40), (.mv (.t 44)), none⟩])
 (.cond (.t 40) (.seq (.reg [⟨(.some 45), (.faddr 1 (.t 6)), none⟩, ⟨(.some 46), (.load false 1 (.t 45)), none⟩, ⟨(.some 47), (.faddr 1 (.t 7)), none⟩, ⟨(.some 48), (.load false 1 (.t 47)), none⟩, ⟨(.some 49), (.faddr 1 (.t 6)), none⟩, ⟨(.some 50), (.load false 1 (.t 49)), none⟩, ⟨(.some 51), (.bin .sub (.t 48) (.t 50)), none⟩, ⟨(.some 52), (.mv (.t 1)), none⟩, ⟨(.some 53), (.faddr 0 (.t 6)), none⟩, ⟨(.some 54), (.load false 1 (.t 53)), none⟩, ⟨(.some 55), (.bin .sub (.t 52) (.t 54)), none⟩, ⟨(.some 56), (.faddr 0 (.t 7)), none⟩, ⟨(.some 57), (.load false 1 (.t 56)), none⟩, ⟨(.some 58), (.faddr 0 (.t 6)), none⟩, ⟨(.some 59), (.load false 1 (.t 58)), none⟩, ⟨(.some 60), (.bin .sub (.t 57) (.t 59)), none⟩, ⟨(.some 61), (.call true 134 [(.t 55), (.t 60)]), none⟩, ⟨(.some 62), (.bin .mul (.t 51) (.t 61)), none⟩, ⟨(.some 63), (.bin .add (.t 46) (.t 62)), none⟩, ⟨(.some 4), (.mv (.t 63)), none⟩])
 .ret) .skip)))))))
 (.reg [⟨(.some 22), (.mv (.t 5)), none⟩, ⟨(.some 23), (.bin .add (.t 22) (.c (.lf (.int .i64 1)))), none⟩, ⟨(.some 5), (.mv (.t 23)), none⟩]))))))
 (.seq (.reg [⟨(.some 64), (.mv (.t 0)), none⟩, ⟨(.some 65), (.mv (.t 0)), none⟩, ⟨(.some 66), (.len (.t 65)), none⟩, ⟨(.some 67), (.bin .sub (.t 66) (.c (.lf (.int .i64 1)))), none⟩, ⟨(.some 68), (.iaddr 2 (.t 64) (.t 67)), none⟩, ⟨(.some 69), (.faddr 1 (.t 68)), none⟩, ⟨(.some 70), (.load false 1 (.t 69)), none⟩, ⟨(.some 4), (.mv (.t 70)), none⟩])
 .ret)))), [(.tmp 4)]⟩
class HasLa (S : Sys) : Prop extends HasB S, HasShr S where
  f83 : S.fs 83 = some L83
  f88 : S.fs 88 = some L88
def lerp (p q : Pt) (x : Int) : Nat := fbin .add .f32 p.gain (fbin .mul .f32 (fbin .sub .f32 q.gain p.gain) (shareF (x - p.at_) (q.at_ - p.at_)))
def laneVal (x : Int) : Pt → List Pt → Nat
  | p, [] => p.gain
  | p, q :: r => if x = q.at_ then q.gain else if x < q.at_ then lerp p q x else laneVal x q r
def laneAt (ps : List Pt) (x : Int) : Nat := match ps with | [] => 0 | p :: r => if x ≤ p.at_ then p.gain else laneVal x p r
noncomputable def okLa (ps : List Pt) (x : Int) : Bool := decide (isLane ps) && decide (0 ≤ x ∧ x ≤ 100000)
noncomputable def laneAtT (ps : List Pt) (x : Int) : CV := .tup [.lf (.flt .f32 (if okLa ps x = true then laneAt ps x else 0)), .lf (.bool (okLa ps x))]
theorem laneAt_0 {ps : List Pt} {x : Int} (hp : 0 < ps.length) : laneAt ps x = if x ≤ ps[0].at_ then ps[0].gain else laneVal x ps[0] (ps.drop 1) := by
  cases ps with
  | nil => simp at hp
  | cons p r => rfl
theorem laneVal_step {ps : List Pt} {x : Int} {i : Nat} (hi : i + 1 < ps.length) : laneVal x ps[i] (ps.drop (i + 1)) = if x = ps[i + 1].at_ then ps[i + 1].gain else if x < ps[i + 1].at_ then lerp ps[i] ps[i + 1] x else laneVal x ps[i + 1] (ps.drop (i + 2)) := by
  rw [List.drop_eq_getElem_cons hi]; rfl
theorem laneVal_end {ps : List Pt} {x : Int} {i : Nat} (hi : i + 1 = ps.length) : laneVal x (ps[i]'(by omega)) (ps.drop (i + 1)) = (ps[i]'(by omega)).gain := by
  rw [List.drop_eq_nil_of_le (by omega)]; rfl
section
variable {S : Sys} {lim : Nat} {h : Hp} {K : CV → Hp → Prop} [HasLa S] {l : Lf} {ps : List Pt}
theorem c_l07At {x : Int} (hA : Arr h l 2 (ps.map Pt.cells)) (hp : isLane ps) (hx : 0 ≤ x ∧ x ≤ 100000) : CallT S true 83 [.lf l, .lf (.int .i64 x)] h lim K = K (.lf (.flt .f32 (laneAt ps x))) h := by
  have h0 : 0 < ps.length := hp.1
  have hb := hA.bound
  have hr := hp.2.2
  have h12 := hp.2.1
  have e0 : Hid _ := laneAt_0 (x := x) h0
  generalize laneAt ps x = V at e0
  refine CallT_pure (F := L83) (HasLa.f83) rfl (by first | rfl | (split <;> rfl) | simp) ?_; unfold L83; dsimp only []
  repeat' (first | (simp (disch := first | omega | assumption | (simp only [List.length_set]; omega) | (simp [*] <;> fail) | assumption) [-Bool.decide_and, -Bool.decide_or, -Bool.not_and, -Bool.not_or, toNat_pred, toNat_succ, wrap64, wr_new, wr_new0, ok_if, ok_ifn, iadV_sl, makeV_int, decT, decF, over_at, *, hA.len, hA.at_, hA.at_', hA.rd, hA.rdIn, hA.rdIn0, hA.rdA, hA.rdInA, hA.rdIn0A, hA.at0, hA.rd0, hA.rd0j, hA.rd0A, hA.rd0jA, Pt.cells]) | (with_reducible refine Gd_split (fun hc => ?_) (fun hc => ?_) <;> (have hc2 := hc; try simp at hc2)) | (with_reducible refine Br_split (fun hc => ?_) (fun hc => ?_) <;> (have hc2 := hc; try simp at hc2)) | (with_reducible refine GdT_split (fun hc => ?_) (fun hc => ?_) <;> (have hc2 := hc; try simp at hc2)) | (with_reducible refine WT_alt ?_ ?_) | omega)
  · rw [e0, if_pos (by omega)]
  refine WL_forM 73786976294837682672 (by decide +kernel) (ps.length) (fun i b g => i + 1 ≤ ps.length ∧ b 5 = .lf (.int .i64 (i + 1)) ∧ Kept h g ∧ Hid (∀ hi : i < ps.length, ps[i].at_ ≤ x ∧ V = if x = ps[i].at_ then ps[i].gain else laneVal x ps[i] (ps.drop (i + 1)))) (fun _ _ _ hi => by omega) ⟨by omega, by simp, Kept.refl h, fun hi => ⟨by omega, by rw [e0, if_neg (by omega), if_neg (by omega)]⟩⟩ ?_
  rintro i b g ⟨hi, e5, hk, hv⟩
  have hk1 := hk.1
  replace hA := hA.kept hk
  have b1 := hr i (by omega) (by omega)
  by_cases hlt : i + 1 < ps.length
  · have b2 := hr (i + 1) (by omega) (by omega)
    have hv3 : Hid _ := laneVal_step (x := x) hlt
    have hx2 := (hv (by omega)).1
    repeat' (first | (simp (disch := first | omega | assumption | (simp only [List.length_set]; omega) | (simp [*] <;> fail) | assumption) [-Bool.decide_and, -Bool.decide_or, -Bool.not_and, -Bool.not_or, toNat_pred, toNat_succ, wrap64, wr_new, wr_new0, ok_if, ok_ifn, iadV_sl, makeV_int, decT, decF, over_at, *, hA.len, hA.at_, hA.at_', hA.rd, hA.rdIn, hA.rdIn0, hA.rdA, hA.rdInA, hA.rdIn0A, Pt.cells]) | (with_reducible refine Gd_split (fun hc => ?_) (fun hc => ?_) <;> (have hc2 := hc; try simp at hc2)) | (with_reducible refine Br_split (fun hc => ?_) (fun hc => ?_) <;> (have hc2 := hc; try simp at hc2)) | (with_reducible refine GdT_split (fun hc => ?_) (fun hc => ?_) <;> (have hc2 := hc; try simp at hc2)) | (with_reducible refine WT_alt ?_ ?_) | omega)
    · rw [(hv (by omega)).2, if_pos (by omega)]
    · rw [(hv (by omega)).2, if_neg (by omega), hv3, if_neg (by omega), if_pos (by omega)]; rfl
    · have b3 := b2.2.2 (by omega)
      simp only [Nat.add_sub_cancel] at b3
      have e : V = if x = ps[i + 1].at_ then ps[i + 1].gain else laneVal x ps[i + 1] (ps.drop (i + 2)) := by
        rw [(hv (by omega)).2, if_neg (by omega), hv3]
        split
        · rfl
        · rw [if_neg (by omega)]
      refine ⟨by omega, fun hi => ?_⟩
      first | exact e | exact ⟨by omega, e⟩
  · have e : i = ps.length - 1 := by omega
    subst e
    repeat' (first | (simp (disch := first | omega | assumption | (simp only [List.length_set]; omega) | (simp [*] <;> fail) | assumption) [-Bool.decide_and, -Bool.decide_or, -Bool.not_and, -Bool.not_or, toNat_pred, toNat_succ, wrap64, wr_new, wr_new0, ok_if, ok_ifn, iadV_sl, makeV_int, decT, decF, over_at, *, hA.len, hA.at_, hA.at_', hA.rd, hA.rdIn, hA.rdIn0, hA.rdA, hA.rdInA, hA.rdIn0A, Pt.cells]) | (with_reducible refine Gd_split (fun hc => ?_) (fun hc => ?_) <;> (have hc2 := hc; try simp at hc2)) | (with_reducible refine Br_split (fun hc => ?_) (fun hc => ?_) <;> (have hc2 := hc; try simp at hc2)) | (with_reducible refine GdT_split (fun hc => ?_) (fun hc => ?_) <;> (have hc2 := hc; try simp at hc2)) | (with_reducible refine WT_alt ?_ ?_) | omega)
    rw [(hv (by omega)).2, laneVal_end (by omega)]; simp
theorem c_implLaneAt {x : Int} (hA : Arr h l 2 (ps.map Pt.cells)) (hp : isLane ps) (hx : 0 ≤ x ∧ x ≤ 100000) : CallT S true 88 [.lf l, .lf (.int .i64 x)] h lim K = K (.lf (.flt .f32 (laneAt ps x))) h := by
  have h0 : 0 < ps.length := hp.1
  have hb := hA.bound
  have hr := hp.2.2
  have h12 := hp.2.1
  have e0 : Hid _ := laneAt_0 (x := x) h0
  generalize laneAt ps x = V at e0
  refine CallT_pure (F := L88) (HasLa.f88) rfl (by first | rfl | (split <;> rfl) | simp) ?_; unfold L88; dsimp only []
  repeat' (first | (simp (disch := first | omega | assumption | (simp only [List.length_set]; omega) | (simp [*] <;> fail) | assumption) [-Bool.decide_and, -Bool.decide_or, -Bool.not_and, -Bool.not_or, toNat_pred, toNat_succ, wrap64, wr_new, wr_new0, ok_if, ok_ifn, iadV_sl, makeV_int, decT, decF, over_at, *, hA.len, hA.at_, hA.at_', hA.rd, hA.rdIn, hA.rdIn0, hA.rdA, hA.rdInA, hA.rdIn0A, hA.at0, hA.rd0, hA.rd0j, hA.rd0A, hA.rd0jA, Pt.cells]) | (with_reducible refine Gd_split (fun hc => ?_) (fun hc => ?_) <;> (have hc2 := hc; try simp at hc2)) | (with_reducible refine Br_split (fun hc => ?_) (fun hc => ?_) <;> (have hc2 := hc; try simp at hc2)) | (with_reducible refine GdT_split (fun hc => ?_) (fun hc => ?_) <;> (have hc2 := hc; try simp at hc2)) | (with_reducible refine WT_alt ?_ ?_) | omega)
  · rw [e0, if_pos (by omega)]
  refine WL_forM 18446744073709289712 (by decide +kernel) (ps.length) (fun i b g => i + 1 ≤ ps.length ∧ b 5 = .lf (.int .i64 (i + 1)) ∧ Kept h g ∧ Hid (∀ hi : i < ps.length, ps[i].at_ < x ∧ V = laneVal x ps[i] (ps.drop (i + 1)))) (fun _ _ _ hi => by omega) ⟨by omega, by simp, Kept.refl h, fun hi => ⟨by omega, by rw [e0, if_neg (by omega)]⟩⟩ ?_
  rintro i b g ⟨hi, e5, hk, hv⟩
  have hk1 := hk.1
  replace hA := hA.kept hk
  have b1 := hr i (by omega) (by omega)
  by_cases hlt : i + 1 < ps.length
  · have b2 := hr (i + 1) (by omega) (by omega)
    have hv3 : Hid _ := laneVal_step (x := x) hlt
    have hx2 := (hv (by omega)).1
    repeat' (first | (simp (disch := first | omega | assumption | (simp only [List.length_set]; omega) | (simp [*] <;> fail) | assumption) [-Bool.decide_and, -Bool.decide_or, -Bool.not_and, -Bool.not_or, toNat_pred, toNat_succ, wrap64, wr_new, wr_new0, ok_if, ok_ifn, iadV_sl, makeV_int, decT, decF, over_at, *, hA.len, hA.at_, hA.at_', hA.rd, hA.rdIn, hA.rdIn0, hA.rdA, hA.rdInA, hA.rdIn0A, Pt.cells]) | (with_reducible refine Gd_split (fun hc => ?_) (fun hc => ?_) <;> (have hc2 := hc; try simp at hc2)) | (with_reducible refine Br_split (fun hc => ?_) (fun hc => ?_) <;> (have hc2 := hc; try simp at hc2)) | (with_reducible refine GdT_split (fun hc => ?_) (fun hc => ?_) <;> (have hc2 := hc; try simp at hc2)) | (with_reducible refine WT_alt ?_ ?_) | omega)
    all_goals first
      | (rw [(hv (by omega)).2, hv3, if_pos (by omega)]; done)
      | (rw [(hv (by omega)).2, hv3, if_neg (by omega), if_pos (by omega)]; rfl)
      | (have e : V = laneVal x ps[i + 1] (ps.drop (i + 2)) := by rw [(hv (by omega)).2, hv3, if_neg (by omega), if_neg (by omega)]
         refine ⟨by omega, fun hi => ?_⟩
         first | exact e | exact ⟨by omega, e⟩)
  · have e : i = ps.length - 1 := by omega
    subst e
    repeat' (first | (simp (disch := first | omega | assumption | (simp only [List.length_set]; omega) | (simp [*] <;> fail) | assumption) [-Bool.decide_and, -Bool.decide_or, -Bool.not_and, -Bool.not_or, toNat_pred, toNat_succ, wrap64, wr_new, wr_new0, ok_if, ok_ifn, iadV_sl, makeV_int, decT, decF, over_at, *, hA.len, hA.at_, hA.at_', hA.rd, hA.rdIn, hA.rdIn0, hA.rdA, hA.rdInA, hA.rdIn0A, Pt.cells]) | (with_reducible refine Gd_split (fun hc => ?_) (fun hc => ?_) <;> (have hc2 := hc; try simp at hc2)) | (with_reducible refine Br_split (fun hc => ?_) (fun hc => ?_) <;> (have hc2 := hc; try simp at hc2)) | (with_reducible refine GdT_split (fun hc => ?_) (fun hc => ?_) <;> (have hc2 := hc; try simp at hc2)) | (with_reducible refine WT_alt ?_ ?_) | omega)
    rw [(hv (by omega)).2, laneVal_end (by omega)]
end
end Go.E
