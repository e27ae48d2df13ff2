/- The samples of a track of a session, both sides. -/
import Derived.Test.YtclbkfmelhheaaaMSv
import Derived.Test.YtclbkfmelhheaaaMN
import Derived.Test.YtclbkfmelhheaaaMH
set_option linter.unusedVariables false
set_option linter.unusedSimpArgs false
namespace Go.E
open Go
def L116 : LFn := ⟨1, (.seq (.reg [⟨(.some 2), (.mv (.c (.lf (.bool false)))), none⟩])
 (.seq (.reg [⟨(.some 3), (.mv (.t 0)), none⟩, ⟨(.some 4), (.call true 85 [(.t 3), (.c (.lf (.int .i64 0))), (.c (.lf (.int .i64 256)))]), none⟩, ⟨(.some 2), (.mv (.t 4)), none⟩])
 .ret)), [(.tmp 2)]⟩
def L117 : LFn := ⟨3, (.seq (.reg [⟨(.some 6), (.mv (.c (.lf .nils))), none⟩])
 (.seq (.reg [⟨(.some 12), (.mv (.t 2)), none⟩, ⟨(.some 13), (.make 22 1 4 [(.flt .f32 0)] (.t 12) (.t 12)), none⟩, ⟨(.some 7), (.mv (.t 13)), none⟩])
 (.seq (.seq (.reg [⟨(.some 14), (.mv (.t 0)), none⟩, ⟨(.some 15), (.nilck (.t 14)), none⟩, ⟨(.some 16), (.faddr 0 (.t 15)), none⟩, ⟨(.some 17), (.load false 1 (.t 16)), none⟩, ⟨(.some 18), (.len (.t 17)), none⟩, ⟨(.some 19), (.mv (.c (.lf (.int .i64 0)))), none⟩])
 (.block 0 (.loop (.seq (.reg [⟨(.some 20), (.bin .lss (.t 19) (.t 18)), none⟩])
 (.seq (.cond (.t 20) .skip (.exit 0))
 (.seq (.block 1 (.seq (.reg [⟨(.some 21), (.mv (.t 19)), none⟩, ⟨(.some 8), (.mv (.t 21)), none⟩])
 (.seq (.reg [⟨(.some 22), (.mv (.t 0)), none⟩, ⟨(.some 23), (.nilck (.t 22)), none⟩, ⟨(.some 24), (.faddr 0 (.t 23)), none⟩, ⟨(.some 25), (.load false 1 (.t 24)), none⟩, ⟨(.some 26), (.mv (.t 8)), none⟩, ⟨(.some 27), (.iaddr 3 (.t 25) (.t 26)), none⟩, ⟨(.some 28), (.load true 3 (.t 27)), none⟩, ⟨(.some 9), (.alloc 118 [(.int .i64 0), (.int .i64 0), .nils]), none⟩, ⟨none, (.store 3 (.t 9) (.t 28)), none⟩])
 (.seq (.seq (.reg [⟨(.some 29), (.faddr 0 (.t 9)), none⟩, ⟨(.some 30), (.load false 1 (.t 29)), none⟩, ⟨(.some 31), (.mv (.t 1)), none⟩, ⟨(.some 32), (.bin .neq (.t 30) (.t 31)), none⟩])
 (.cond (.t 32) (.exit 1) .skip))
 (.seq (.reg [⟨(.some 33), (.faddr 2 (.t 9)), none⟩, ⟨(.some 34), (.load false 1 (.t 33)), none⟩, ⟨(.some 35), (.len (.t 34)), none⟩, ⟨(.some 36), (.mv (.c (.lf (.int .i64 0)))), none⟩])
 (.block 2 (.loop (.seq (.reg [⟨(.some 37), (.bin .lss (.t 36) (.t 35)), none⟩])
 (.seq (.cond (.t 37) .skip (.exit 2))
 (.seq (.block 3 (.seq (.reg [⟨(.some 38), (.mv (.t 36)), none⟩, ⟨(.some 10), (.mv (.t 38)), none⟩])
 (.seq (.reg [⟨(.some 39), (.faddr 1 (.t 9)), none⟩, ⟨(.some 40), (.load false 1 (.t 39)), none⟩, ⟨(.some 41), (.mv (.t 10)), none⟩, ⟨(.some 42), (.bin .add (.t 40) (.t 41)), none⟩, ⟨(.some 11), (.mv (.t 42)), none⟩])
 (.seq (.reg [⟨(.some 43), (.mv (.t 11)), none⟩, ⟨(.some 44), (.mv (.t 2)), none⟩, ⟨(.some 45), (.bin .lss (.t 43) (.t 44)), none⟩])
 (.cond (.t 45) (.reg [⟨(.some 46), (.mv (.t 7)), none⟩, ⟨(.some 47), (.mv (.t 11)), none⟩, ⟨(.some 48), (.mv (.t 7)), none⟩, ⟨(.some 49), (.mv (.t 11)), none⟩, ⟨(.some 50), (.iaddr 1 (.t 48) (.t 49)), none⟩, ⟨(.some 51), (.load false 1 (.t 50)), none⟩, ⟨(.some 52), (.faddr 2 (.t 9)), none⟩, ⟨(.some 53), (.load false 1 (.t 52)), none⟩, ⟨(.some 54), (.mv (.t 10)), none⟩, ⟨(.some 55), (.iaddr 1 (.t 53) (.t 54)), none⟩, ⟨(.some 56), (.load false 1 (.t 55)), none⟩, ⟨(.some 57), (.bin .add (.t 51) (.t 56)), none⟩, ⟨(.some 58), (.iaddr 1 (.t 46) (.t 47)), none⟩, ⟨none, (.store 1 (.t 58) (.t 57)), none⟩]) .skip)))))
 (.reg [⟨(.some 59), (.bin .add (.t 36) (.c (.lf (.int .i64 1)))), none⟩, ⟨(.some 36), (.mv (.t 59)), none⟩])))))))))))
 (.reg [⟨(.some 60), (.bin .add (.t 19) (.c (.lf (.int .i64 1)))), none⟩, ⟨(.some 19), (.mv (.t 60)), none⟩])))))))
 (.seq (.reg [⟨(.some 61), (.mv (.t 7)), none⟩, ⟨(.some 6), (.mv (.t 61)), none⟩])
 .ret)))), [(.tmp 6)]⟩
def L48 : LFn := ⟨3, (.seq (.reg [⟨(.some 3), (.box 46 (.t 0)), none⟩, ⟨(.some 6), (.mv (.c (.lf .nils))), none⟩, ⟨(.some 7), (.mv (.c (.lf (.bool false)))), none⟩])
 (.seq (.seq (.reg [⟨(.some 8), (.call true 70 [(.t 3)]), none⟩, ⟨(.some 9), (.una .not (.t 8)), none⟩, ⟨(.some 10), (.mv (.t 9)), none⟩, ⟨(.some 11), (.mv (.t 1)), (.some (10, false))⟩, ⟨(.some 12), (.faddr 1 (.t 3)), (.some (10, false))⟩, ⟨(.some 13), (.load false 1 (.t 12)), (.some (10, false))⟩, ⟨(.some 14), (.len (.t 13)), (.some (10, false))⟩, ⟨(.some 15), (.bin .sub (.t 14) (.c (.lf (.int .i64 1)))), (.some (10, false))⟩, ⟨(.some 16), (.call true 85 [(.t 11), (.c (.lf (.int .i64 0))), (.t 15)]), (.some (10, false))⟩, ⟨(.some 17), (.una .not (.t 16)), (.some (10, false))⟩, ⟨(.some 18), (.pick (.t 10) (.c (.lf (.bool true))) (.t 17)), none⟩, ⟨(.some 19), (.mv (.t 18)), none⟩, ⟨(.some 20), (.mv (.t 2)), (.some (19, false))⟩, ⟨(.some 21), (.call true 116 [(.t 20)]), (.some (19, false))⟩, ⟨(.some 22), (.una .not (.t 21)), (.some (19, false))⟩, ⟨(.some 23), (.pick (.t 19) (.c (.lf (.bool true))) (.t 22)), none⟩])
 (.cond (.t 23) (.seq (.reg [⟨(.some 6), (.mv (.c (.lf .nils))), none⟩, ⟨(.some 7), (.mv (.c (.lf (.bool false)))), none⟩])
 .ret) .skip))
 (.seq (.reg [⟨(.some 24), (.mv (.t 1)), none⟩, ⟨(.some 25), (.mv (.t 2)), none⟩, ⟨(.some 26), (.call false 117 [(.t 3), (.t 24), (.t 25)]), none⟩, ⟨(.some 6), (.mv (.t 26)), none⟩, ⟨(.some 7), (.mv (.c (.lf (.bool true)))), none⟩])
 .ret))), [(.tmp 6), (.tmp 7)]⟩
def L118 : LFn := ⟨3, (.seq (.reg [⟨(.some 3), (.box 46 (.t 0)), none⟩, ⟨(.some 6), (.mv (.c (.lf (.bool false)))), none⟩])
 (.seq (.reg [⟨(.some 7), (.load true 2 (.t 3)), none⟩, ⟨(.some 8), (.call true 22 [(.t 7)]), none⟩, ⟨(.some 9), (.mv (.t 8)), none⟩, ⟨(.some 10), (.mv (.t 1)), (.some (9, true))⟩, ⟨(.some 11), (.faddr 1 (.t 3)), (.some (9, true))⟩, ⟨(.some 12), (.load false 1 (.t 11)), (.some (9, true))⟩, ⟨(.some 13), (.len (.t 12)), (.some (9, true))⟩, ⟨(.some 14), (.call true 78 [(.t 10), (.t 13)]), (.some (9, true))⟩, ⟨(.some 15), (.pick (.t 9) (.t 14) (.c (.lf (.bool false)))), none⟩, ⟨(.some 16), (.mv (.t 15)), none⟩, ⟨(.some 17), (.mv (.t 2)), (.some (16, true))⟩, ⟨(.some 18), (.call true 65 [(.t 17)]), (.some (16, true))⟩, ⟨(.some 19), (.pick (.t 16) (.t 18) (.c (.lf (.bool false)))), none⟩, ⟨(.some 6), (.mv (.t 19)), none⟩])
 .ret)), [(.tmp 6)]⟩
def L119 : LFn := ⟨4, (.seq (.reg [⟨(.some 4), (.box 46 (.t 0)), none⟩, ⟨(.some 8), (.mv (.c (.lf .nils))), none⟩])
 (.seq (.reg [⟨(.some 15), (.mv (.t 3)), none⟩, ⟨(.some 16), (.call false 125 [(.t 15)]), none⟩, ⟨(.some 9), (.mv (.t 16)), none⟩])
 (.seq (.seq (.reg [⟨(.some 17), (.faddr 0 (.t 4)), none⟩, ⟨(.some 18), (.load false 1 (.t 17)), none⟩, ⟨(.some 19), (.len (.t 18)), none⟩, ⟨(.some 20), (.mv (.c (.lf (.int .i64 0)))), none⟩])
 (.block 0 (.loop (.seq (.reg [⟨(.some 21), (.bin .lss (.t 20) (.t 19)), none⟩])
 (.seq (.cond (.t 21) .skip (.exit 0))
 (.seq (.block 1 (.seq (.reg [⟨(.some 22), (.iaddr 3 (.t 18) (.t 20)), none⟩, ⟨(.some 23), (.load true 3 (.t 22)), none⟩, ⟨(.some 11), (.alloc 118 [(.int .i64 0), (.int .i64 0), .nils]), none⟩, ⟨none, (.store 3 (.t 11) (.t 23)), none⟩])
 (.seq (.seq (.reg [⟨(.some 24), (.faddr 0 (.t 11)), none⟩, ⟨(.some 25), (.load false 1 (.t 24)), none⟩, ⟨(.some 26), (.mv (.t 1)), none⟩, ⟨(.some 27), (.bin .neq (.t 25) (.t 26)), none⟩])
 (.cond (.t 27) (.exit 1) .skip))
 (.seq (.reg [⟨(.some 28), (.faddr 2 (.t 11)), none⟩, ⟨(.some 29), (.load false 1 (.t 28)), none⟩, ⟨(.some 30), (.len (.t 29)), none⟩, ⟨(.some 31), (.mv (.c (.lf (.int .i64 0)))), none⟩])
 (.block 2 (.loop (.seq (.reg [⟨(.some 32), (.bin .lss (.t 31) (.t 30)), none⟩])
 (.seq (.cond (.t 32) .skip (.exit 2))
 (.seq (.block 3 (.seq (.reg [⟨(.some 33), (.mv (.t 31)), none⟩, ⟨(.some 34), (.iaddr 1 (.t 29) (.t 31)), none⟩, ⟨(.some 35), (.load false 1 (.t 34)), none⟩, ⟨(.some 12), (.mv (.t 33)), none⟩, ⟨(.some 13), (.mv (.t 35)), none⟩])
 (.seq (.reg [⟨(.some 36), (.faddr 1 (.t 11)), none⟩, ⟨(.some 37), (.load false 1 (.t 36)), none⟩, ⟨(.some 38), (.mv (.t 12)), none⟩, ⟨(.some 39), (.bin .add (.t 37) (.t 38)), none⟩, ⟨(.some 40), (.mv (.t 2)), none⟩, ⟨(.some 41), (.bin .sub (.t 39) (.t 40)), none⟩, ⟨(.some 14), (.mv (.t 41)), none⟩])
 (.seq (.reg [⟨(.some 42), (.mv (.t 14)), none⟩, ⟨(.some 43), (.mv (.t 3)), none⟩, ⟨(.some 44), (.bin .sub (.t 43) (.c (.lf (.int .i64 1)))), none⟩, ⟨(.some 45), (.call true 91 [(.t 42), (.c (.lf (.int .i64 0))), (.t 44)]), none⟩])
 (.cond (.t 45) (.reg [⟨(.some 46), (.mv (.t 9)), none⟩, ⟨(.some 47), (.mv (.t 14)), none⟩, ⟨(.some 48), (.iaddr 1 (.t 46) (.t 47)), none⟩, ⟨(.some 49), (.load false 1 (.t 48)), none⟩, ⟨(.some 50), (.mv (.t 13)), none⟩, ⟨(.some 51), (.bin .add (.t 49) (.t 50)), none⟩, ⟨(.some 52), (.iaddr 1 (.t 46) (.t 47)), none⟩, ⟨none, (.store 1 (.t 52) (.t 51)), none⟩]) .skip)))))
 (.reg [⟨(.some 53), (.bin .add (.t 31) (.c (.lf (.int .i64 1)))), none⟩, ⟨(.some 31), (.mv (.t 53)), none⟩]))))))))))
 (.reg [⟨(.some 54), (.bin .add (.t 20) (.c (.lf (.int .i64 1)))), none⟩, ⟨(.some 20), (.mv (.t 54)), none⟩])))))))
 (.seq (.reg [⟨(.some 55), (.mv (.t 9)), none⟩, ⟨(.some 8), (.mv (.t 55)), none⟩])
 .ret)))), [(.tmp 8)]⟩
def L49 : LFn := ⟨3, (.seq (.reg [⟨(.some 3), (.box 46 (.t 0)), none⟩, ⟨(.some 6), (.mv (.c (.lf .nils))), none⟩, ⟨(.some 7), (.mv (.c (.lf (.bool false)))), none⟩])
 (.seq (.seq (.reg [⟨(.some 8), (.load true 2 (.t 3)), none⟩, ⟨(.some 9), (.mv (.t 1)), none⟩, ⟨(.some 10), (.mv (.t 2)), none⟩, ⟨(.some 11), (.call true 118 [(.t 8), (.t 9), (.t 10)]), none⟩, ⟨(.some 12), (.una .not (.t 11)), none⟩])
 (.cond (.t 12) (.seq (.reg [⟨(.some 6), (.mv (.c (.lf .nils))), none⟩, ⟨(.some 7), (.mv (.c (.lf (.bool false)))), none⟩])
 .ret) .skip))
 (.seq (.reg [⟨(.some 13), (.load true 2 (.t 3)), none⟩, ⟨(.some 14), (.mv (.t 1)), none⟩, ⟨(.some 15), (.mv (.t 2)), none⟩, ⟨(.some 16), (.call false 119 [(.t 13), (.t 14), (.c (.lf (.int .i64 0))), (.t 15)]), none⟩, ⟨(.some 6), (.mv (.t 16)), none⟩, ⟨(.some 7), (.mv (.c (.lf (.bool true)))), none⟩])
 .ret))), [(.tmp 6), (.tmp 7)]⟩
class HasTo (S : Sys) : Prop extends HasSv S, HasN S where
  f116 : S.fs 116 = some L116
  f117 : S.fs 117 = some L117
  f48 : S.fs 48 = some L48
  f118 : S.fs 118 = some L118
  f119 : S.fs 119 = some L119
  f49 : S.fs 49 = some L49
/-- The list, to which the first i numbers of another one are added from a place on. -/
def putTo (a : Nat) (ys out : List Nat) : Nat → List Nat
  | 0 => out
  | i + 1 => if a + i < out.length then (putTo a ys out i).set (a + i) (fbin .add .f32 ((putTo a ys out i).getD (a + i) 0) (ys.getD i 0)) else putTo a ys out i
@[simp] theorem putTo_len {a : Nat} {ys out : List Nat} {i : Nat} : (putTo a ys out i).length = out.length := by
  induction i with
  | zero => rfl
  | succ i ih => unfold putTo; split <;> simp [ih]
theorem putTo_yes {a j : Nat} {ys out : List Nat} (h : a + j < out.length) (hj : j < ys.length) : putTo a ys out (j + 1) = (putTo a ys out j).set (a + j) (fbin .add .f32 ((putTo a ys out j)[a + j]'(by simpa using h)) ys[j]) := by
  rw [putTo, if_pos h]
  congr 2
  · simp [h]
  · simp [hj]
theorem putTo_no {a j : Nat} {ys out : List Nat} (h : ¬ a + j < out.length) : putTo a ys out (j + 1) = putTo a ys out j := by rw [putTo, if_neg h]
/-- What the first k clips of a track make. -/
def trkTo (t : Int) (cs : List Eff) (n : Nat) : Nat → List Nat
  | 0 => List.replicate n 0
  | k + 1 => if (cs.getD k ⟨0, 0, []⟩).kind = t then putTo (cs.getD k ⟨0, 0, []⟩).len.toNat (cs.getD k ⟨0, 0, []⟩).nums (trkTo t cs n k) (cs.getD k ⟨0, 0, []⟩).nums.length else trkTo t cs n k
@[simp] theorem trkTo_len {t : Int} {cs : List Eff} {n k : Nat} : (trkTo t cs n k).length = n := by
  induction k with
  | zero => simp [trkTo]
  | succ k ih => unfold trkTo; split <;> simp [ih]
theorem trkTo_yes {t : Int} {cs : List Eff} {n k : Nat} (hk : k < cs.length) (h : cs[k].kind = t) : trkTo t cs n (k + 1) = putTo cs[k].len.toNat cs[k].nums (trkTo t cs n k) cs[k].nums.length := by
  have e : cs.getD k ⟨0, 0, []⟩ = cs[k] := by simp [hk]
  rw [trkTo, e, if_pos h]
theorem trkTo_no {t : Int} {cs : List Eff} {n k : Nat} (hk : k < cs.length) (h : cs[k].kind ≠ t) : trkTo t cs n (k + 1) = trkTo t cs n k := by
  have e : cs.getD k ⟨0, 0, []⟩ = cs[k] := by simp [hk]
  rw [trkTo, e, if_neg h]
def okTo (cs : List Eff) (vs : List StrV) (t n : Int) : Prop := sesOk cs vs ∧ (0 ≤ t ∧ t ≤ vs.length - 1) ∧ 0 ≤ n ∧ n ≤ 256
noncomputable instance (cs : List Eff) (vs : List StrV) (t n : Int) : Decidable (okTo cs vs t n) := Classical.propDecidable _
noncomputable def toR (cs : List Eff) (vs : List StrV) (t n : Int) : List Nat := if okTo cs vs t n then trkTo t cs n.toNat cs.length else []
theorem toR_len {cs : List Eff} {vs : List StrV} {t n : Int} : (toR cs vs t n).length ≤ 256 := by
  unfold toR
  split
  · rename_i h
    have := h.2.2
    simp; omega
  · simp
section
variable {S : Sys} {lim : Nat} {h : Hp} {K : CV → Hp → Prop} {l l2 : Lf} {cs : List (Eff × Lf)} {ss : List (Str × Lf)} [HasTo S] {t : Int} {n : Nat}
set_option maxHeartbeats 4000000 in
theorem c_l09Track {id off : Nat} (hr0 : rdCells h id off 1 = some [l]) (hC : Arr h l 3 (cs.map Eff.cells)) (hCI : In h Eff.nums cs) (hok : ∀ c ∈ cs.map (·.1), (0 ≤ c.len ∧ c.len ≤ 256) ∧ c.nums.length ≤ 256) (hn : n ≤ 256) (hl : lim ≤ h.length)
    (hK : ∀ o g, New h g o 22 1 ((trkTo t (cs.map (·.1)) n cs.length).map fl) → K (.lf o) g) : CallT S false 117 [.lf (.ptr id off), .lf (.int .i64 t), .lf (.int .i64 n)] h lim K := by
  have hbC := hC.bound
  have q0A := fun t => (Kept.app h t).rd hr0
  have hM : New h (h ++ [⟨List.replicate n (.flt .f32 0), .own 22 1⟩]) (.sl h.length 0 n 1) 22 1 ((List.replicate n 0).map fl) := by
    have := New.of_sl (Kept.app h _) (Sl.make (h := h) (ty := 22) (sz := 1) (n := n) (z := [.flt .f32 0]) rfl) (Nat.le_refl _) (by simp; omega)
    simpa [fl] using this
  refine CallT_of_body (F := L117) (HasTo.f117) rfl ?_; unfold L117; dsimp only []
  repeat' (first | (simp (disch := first | omega | assumption | (simp only [List.length_set]; omega) | (simp [*] <;> fail) | assumption) [-Bool.decide_and, -Bool.decide_or, -Bool.not_and, -Bool.not_or, toNat_pred, toNat_succ, wrap64, wr_new, wr_new0, ok_if, ok_ifn, iadV_sl, makeV_int, decT, decF, over_at, *, hC.len, leavesAll, fillL]) | (with_reducible refine Gd_split (fun hc => ?_) (fun hc => ?_) <;> (have hc2 := hc; try simp at hc2)) | (with_reducible refine Br_split (fun hc => ?_) (fun hc => ?_) <;> (have hc2 := hc; try simp at hc2)) | (with_reducible refine GdT_split (fun hc => ?_) (fun hc => ?_) <;> (have hc2 := hc; try simp at hc2)) | (with_reducible refine WT_alt ?_ ?_) | omega)
  refine WL_forM 2305843009213173504 (by decide +kernel) (cs.length) (fun i b g => i ≤ cs.length ∧ b 19 = .lf (.int .i64 i) ∧ New h g (.sl h.length 0 n 1) 22 1 ((trkTo t (cs.map (·.1)) n i).map fl)) (fun _ _ _ hi => hi.1) ⟨by omega, by simp, hM⟩ ?_
  rintro i b g ⟨hi, e19, hN⟩
  have hk := hN.kept
  have hC1 := hC.kept hk
  have q0 := hk.rd hr0
  have hg := hk.1
  by_cases hlt : i < cs.length
  · have hI1 := (hCI i hlt).kept hk
    obtain ⟨⟨o1, o2⟩, o3⟩ := hok cs[i].1 (List.mem_map.2 ⟨cs[i], List.getElem_mem hlt, rfl⟩)
    have hgl : h.length < g.length := by simpa using (hN.lt (by simp)).2
    by_cases hkd : cs[i].1.kind = t
    · have hs := trkTo_yes (t := t) (n := n) (cs := cs.map (·.1)) (k := i) (by simpa using hlt) (by simpa using hkd)
      simp only [List.getElem_map] at hs
      obtain ⟨A, hA⟩ := Int.eq_ofNat_of_zero_le o1
      rw [hA, Int.toNat_natCast] at hs
      have hlen : (trkTo t (cs.map (·.1)) n i).length = n := trkTo_len
      generalize trkTo t (cs.map (·.1)) n i = out at *
      have hsH : Hid (trkTo t (cs.map (·.1)) n (i + 1) = putTo A cs[i].1.nums out cs[i].1.nums.length) := hs
      clear hs hK
      generalize hys : cs[i].1.nums = ys at *
      repeat' (first | (simp (disch := first | omega | assumption | (simp only [List.length_set]; omega) | (simp [*] <;> fail) | assumption) [-Bool.decide_and, -Bool.decide_or, -Bool.not_and, -Bool.not_or, toNat_pred, toNat_succ, wrap64, wr_new, wr_new0, ok_if, ok_ifn, iadV_sl, makeV_int, decT, decF, over_at, *, hC1.len, hC1.at_, hC1.at_', hC1.rd, hC1.rdIn, hC1.rdIn0, hC1.rdA, hC1.rdInA, hC1.rdIn0A, Eff.cells, leavesAll, fillL, hI1.len]) | (with_reducible refine Gd_split (fun hc => ?_) (fun hc => ?_) <;> (have hc2 := hc; try simp at hc2)) | (with_reducible refine Br_split (fun hc => ?_) (fun hc => ?_) <;> (have hc2 := hc; try simp at hc2)) | (with_reducible refine GdT_split (fun hc => ?_) (fun hc => ?_) <;> (have hc2 := hc; try simp at hc2)) | (with_reducible refine WT_alt ?_ ?_) | omega)
      refine WL_forM 1152921435887373312 (by decide +kernel) (ys.length) (fun j b' g' => j ≤ ys.length ∧ b' 36 = .lf (.int .i64 j) ∧ New h g' (.sl h.length 0 n 1) 22 1 ((putTo A ys out j).map fl) ∧ Cel g' g.length 118 [.int .i64 t, .int .i64 A, cs[i].2]) (fun _ _ _ hi => hi.1) ⟨by omega, by simp, hN.app, Cel.new⟩ ?_
      rintro j b' g' ⟨hj, e36, hN2, hc⟩
      have r1 := hc.rd (off := 1) (n := 1) (by simp)
      have r2 := hc.rd (off := 2) (n := 1) (by simp)
      simp only [List.drop_succ_cons, List.drop_zero, List.take_succ_cons, List.take_zero] at r1 r2
      have hI2 := (hCI i hlt).kept hN2.kept
      rw [hys] at hI2
      have hlen2 : (putTo A ys out j).length = n := by rw [putTo_len, hlen]
      by_cases hlt2 : j < ys.length
      · obtain ⟨P, hP⟩ : ∃ P : Nat, (A : Int) + (j : Int) = P := ⟨A + j, by omega⟩
        have hPA : A + j = P := by omega
        by_cases hat : P < n
        · have hs2 := putTo_yes (a := A) (j := j) (ys := ys) (out := out) (by omega) hlt2
          simp only [hPA] at hs2
          have hPl : P < (putTo A ys out j).length := by omega
          have hs2H : Hid (putTo A ys out (j + 1) = (putTo A ys out j).set P (fbin .add .f32 (putTo A ys out j)[P] ys[j])) := hs2
          clear hs2
          have hAr := hN2.arr
          have hat1 := hAr.at_ (k := .i64) hPl
          have hrd1 := hAr.rd1 hPl
          have hwr := fun v K => oc_wr (lim := lim) (K := K) (i := P) (c := .flt .f32 v) hN2 (by simpa using hPl) hl
          simp only [Lf.id_sl, Lf.off_sl, Nat.zero_add] at hrd1 hwr
          repeat' (first | (simp (disch := first | omega | assumption | (simp only [List.length_set]; omega) | (simp [*] <;> fail) | assumption) [-Bool.decide_and, -Bool.decide_or, -Bool.not_and, -Bool.not_or, toNat_pred, toNat_succ, wrap64, wr_new, wr_new0, ok_if, ok_ifn, iadV_sl, makeV_int, decT, decF, over_at, *, hI2.len, hI2.at_, hI2.at_', hI2.rd, hI2.rdIn, hI2.rdIn0, hI2.rdA, hI2.rdInA, hI2.rdIn0A, hI2.rd1, fl]) | (with_reducible refine Gd_split (fun hc => ?_) (fun hc => ?_) <;> (have hc2 := hc; try simp at hc2)) | (with_reducible refine Br_split (fun hc => ?_) (fun hc => ?_) <;> (have hc2 := hc; try simp at hc2)) | (with_reducible refine GdT_split (fun hc => ?_) (fun hc => ?_) <;> (have hc2 := hc; try simp at hc2)) | (with_reducible refine WT_alt ?_ ?_) | omega)
          refine hwr _ _ fun g3 hN3 hB3 => ?_
          rw [fl_set] at hN3
          have hc3 := hc.but hB3 (fun _ => by simp; omega)
          clear hwr
          repeat' (first | (simp (disch := first | omega | assumption | (simp only [List.length_set]; omega) | (simp [*] <;> fail) | assumption) [-Bool.decide_and, -Bool.decide_or, -Bool.not_and, -Bool.not_or, toNat_pred, toNat_succ, wrap64, wr_new, wr_new0, ok_if, ok_ifn, iadV_sl, makeV_int, decT, decF, over_at, *]) | (with_reducible refine Gd_split (fun hc => ?_) (fun hc => ?_) <;> (have hc2 := hc; try simp at hc2)) | (with_reducible refine Br_split (fun hc => ?_) (fun hc => ?_) <;> (have hc2 := hc; try simp at hc2)) | (with_reducible refine GdT_split (fun hc => ?_) (fun hc => ?_) <;> (have hc2 := hc; try simp at hc2)) | (with_reducible refine WT_alt ?_ ?_) | omega)
          all_goals (repeat' apply And.intro) <;> first | assumption | omega | (rw [show putTo A ys out (j + 1) = _ from hs2H]; assumption)
        · have hs2 := putTo_no (a := A) (j := j) (ys := ys) (out := out) (by omega)
          have hs2H : Hid (putTo A ys out (j + 1) = putTo A ys out j) := hs2
          clear hs2
          repeat' (first | (simp (disch := first | omega | assumption | (simp only [List.length_set]; omega) | (simp [*] <;> fail) | assumption) [-Bool.decide_and, -Bool.decide_or, -Bool.not_and, -Bool.not_or, toNat_pred, toNat_succ, wrap64, wr_new, wr_new0, ok_if, ok_ifn, iadV_sl, makeV_int, decT, decF, over_at, *]) | (with_reducible refine Gd_split (fun hc => ?_) (fun hc => ?_) <;> (have hc2 := hc; try simp at hc2)) | (with_reducible refine Br_split (fun hc => ?_) (fun hc => ?_) <;> (have hc2 := hc; try simp at hc2)) | (with_reducible refine GdT_split (fun hc => ?_) (fun hc => ?_) <;> (have hc2 := hc; try simp at hc2)) | (with_reducible refine WT_alt ?_ ?_) | omega)
          all_goals (repeat' apply And.intro) <;> first | assumption | omega | (rw [show putTo A ys out (j + 1) = _ from hs2H]; assumption)
      · have : j = ys.length := by omega
        subst this
        repeat' (first | (simp (disch := first | omega | assumption | (simp only [List.length_set]; omega) | (simp [*] <;> fail) | assumption) [-Bool.decide_and, -Bool.decide_or, -Bool.not_and, -Bool.not_or, toNat_pred, toNat_succ, wrap64, wr_new, wr_new0, ok_if, ok_ifn, iadV_sl, makeV_int, decT, decF, over_at, *]) | (with_reducible refine Gd_split (fun hc => ?_) (fun hc => ?_) <;> (have hc2 := hc; try simp at hc2)) | (with_reducible refine Br_split (fun hc => ?_) (fun hc => ?_) <;> (have hc2 := hc; try simp at hc2)) | (with_reducible refine GdT_split (fun hc => ?_) (fun hc => ?_) <;> (have hc2 := hc; try simp at hc2)) | (with_reducible refine WT_alt ?_ ?_) | omega)
        all_goals (repeat' apply And.intro) <;> first | assumption | omega | (rw [show trkTo t (cs.map (·.1)) n (i + 1) = _ from hsH]; assumption)
    · have hs := trkTo_no (t := t) (n := n) (cs := cs.map (·.1)) (k := i) (by simpa using hlt) (by simpa using hkd)
      have hsH : Hid (trkTo t (cs.map (·.1)) n (i + 1) = trkTo t (cs.map (·.1)) n i) := hs
      have hA := hN.app (t := [⟨[.int .i64 cs[i].1.kind, .int .i64 cs[i].1.len, cs[i].2], .own 118 1⟩])
      clear hs hK
      repeat' (first | (simp (disch := first | omega | assumption | (simp only [List.length_set]; omega) | (simp [*] <;> fail) | assumption) [-Bool.decide_and, -Bool.decide_or, -Bool.not_and, -Bool.not_or, toNat_pred, toNat_succ, wrap64, wr_new, wr_new0, ok_if, ok_ifn, iadV_sl, makeV_int, decT, decF, over_at, *, hC1.len, hC1.at_, hC1.at_', hC1.rd, hC1.rdIn, hC1.rdIn0, hC1.rdA, hC1.rdInA, hC1.rdIn0A, Eff.cells, leavesAll, fillL]) | (with_reducible refine Gd_split (fun hc => ?_) (fun hc => ?_) <;> (have hc2 := hc; try simp at hc2)) | (with_reducible refine Br_split (fun hc => ?_) (fun hc => ?_) <;> (have hc2 := hc; try simp at hc2)) | (with_reducible refine GdT_split (fun hc => ?_) (fun hc => ?_) <;> (have hc2 := hc; try simp at hc2)) | (with_reducible refine WT_alt ?_ ?_) | omega)
      all_goals (repeat' apply And.intro) <;> first | assumption | omega | (rw [show trkTo t (cs.map (·.1)) n (i + 1) = _ from hsH]; assumption)
  · have : i = cs.length := by omega
    subst this
    have hk2 := hK _ _ hN
    clear hK
    repeat' (first | (simp (disch := first | omega | assumption | (simp only [List.length_set]; omega) | (simp [*] <;> fail) | assumption) [-Bool.decide_and, -Bool.decide_or, -Bool.not_and, -Bool.not_or, toNat_pred, toNat_succ, wrap64, wr_new, wr_new0, ok_if, ok_ifn, iadV_sl, makeV_int, decT, decF, over_at, *, hC1.len]) | (with_reducible refine Gd_split (fun hc => ?_) (fun hc => ?_) <;> (have hc2 := hc; try simp at hc2)) | (with_reducible refine Br_split (fun hc => ?_) (fun hc => ?_) <;> (have hc2 := hc; try simp at hc2)) | (with_reducible refine GdT_split (fun hc => ?_) (fun hc => ?_) <;> (have hc2 := hc; try simp at hc2)) | (with_reducible refine WT_alt ?_ ?_) | omega)
set_option maxHeartbeats 4000000 in
theorem c_samples (hC : Arr h l 3 (cs.map Eff.cells)) (hCI : In h Eff.nums cs) (hok : ∀ c ∈ cs.map (·.1), (0 ≤ c.len ∧ c.len ≤ 256) ∧ c.nums.length ≤ 256) (hn : n ≤ 256) (hl : lim ≤ h.length)
    (hK : ∀ o g, New h g o 22 1 ((trkTo t (cs.map (·.1)) n cs.length).map fl) → K (.lf o) g) : CallT S false 119 [.agg [l, l2], .lf (.int .i64 t), .lf (.int .i64 0), .lf (.int .i64 n)] h lim K := by
  have hbC := hC.bound
  have kb := Kept.app h [⟨[l, l2], .own 46 1⟩]
  obtain ⟨hr0, _⟩ := box_rd (h := h) (l := l) (l2 := l2) (ty := 46) (t := [])
  refine CallT_of_body (F := L119) (HasTo.f119) rfl ?_; unfold L119; dsimp only []
  repeat' (first | (simp (disch := first | omega | assumption | (simp only [List.length_set]; omega) | (simp [*] <;> fail) | assumption) [-Bool.decide_and, -Bool.decide_or, -Bool.not_and, -Bool.not_or, toNat_pred, toNat_succ, wrap64, wr_new, wr_new0, ok_if, ok_ifn, iadV_sl, makeV_int, decT, decF, over_at, *]) | (with_reducible refine Gd_split (fun hc => ?_) (fun hc => ?_) <;> (have hc2 := hc; try simp at hc2)) | (with_reducible refine Br_split (fun hc => ?_) (fun hc => ?_) <;> (have hc2 := hc; try simp at hc2)) | (with_reducible refine GdT_split (fun hc => ?_) (fun hc => ?_) <;> (have hc2 := hc; try simp at hc2)) | (with_reducible refine WT_alt ?_ ?_) | omega)
  refine c_zeros (by omega) (by simp; omega) fun o g0 hM => ?_
  have hM0 := hM.kept
  have q00 := hM0.rd hr0
  have hol := hM.arr
  repeat' (first | (simp (disch := first | omega | assumption | (simp only [List.length_set]; omega) | (simp [*] <;> fail) | assumption) [-Bool.decide_and, -Bool.decide_or, -Bool.not_and, -Bool.not_or, toNat_pred, toNat_succ, wrap64, wr_new, wr_new0, ok_if, ok_ifn, iadV_sl, makeV_int, decT, decF, over_at, *, hC.len]) | (with_reducible refine Gd_split (fun hc => ?_) (fun hc => ?_) <;> (have hc2 := hc; try simp at hc2)) | (with_reducible refine Br_split (fun hc => ?_) (fun hc => ?_) <;> (have hc2 := hc; try simp at hc2)) | (with_reducible refine GdT_split (fun hc => ?_) (fun hc => ?_) <;> (have hc2 := hc; try simp at hc2)) | (with_reducible refine WT_alt ?_ ?_) | omega)
  refine WL_forM 36028797017946112 (by decide +kernel) (cs.length) (fun i b g => i ≤ cs.length ∧ b 20 = .lf (.int .i64 i) ∧ New (h ++ [⟨[l, l2], .own 46 1⟩]) g o 22 1 ((trkTo t (cs.map (·.1)) n i).map fl)) (fun _ _ _ hi => hi.1) ⟨by omega, by simp, hM⟩ ?_
  rintro i b g ⟨hi, e20, hN⟩
  have hk := kb.trans hN.kept
  have hC1 := hC.kept hk
  have hg := hk.1
  by_cases hlt : i < cs.length
  · have hI1 := (hCI i hlt).kept hk
    obtain ⟨⟨o1, o2⟩, o3⟩ := hok cs[i].1 (List.mem_map.2 ⟨cs[i], List.getElem_mem hlt, rfl⟩)
    have hgl : ∀ q : o ≠ .nils, g.length ≠ o.id := fun q => by have := (hN.lt q).2; omega
    by_cases hkd : cs[i].1.kind = t
    · have hs := trkTo_yes (t := t) (n := n) (cs := cs.map (·.1)) (k := i) (by simpa using hlt) (by simpa using hkd)
      simp only [List.getElem_map] at hs
      obtain ⟨A, hA⟩ := Int.eq_ofNat_of_zero_le o1
      rw [hA, Int.toNat_natCast] at hs
      have hlen : (trkTo t (cs.map (·.1)) n i).length = n := trkTo_len
      generalize trkTo t (cs.map (·.1)) n i = out at *
      have hsH : Hid (trkTo t (cs.map (·.1)) n (i + 1) = putTo A cs[i].1.nums out cs[i].1.nums.length) := hs
      clear hs hK
      generalize hys : cs[i].1.nums = ys at *
      repeat' (first | (simp (disch := first | omega | assumption | (simp only [List.length_set]; omega) | (simp [*] <;> fail) | assumption) [-Bool.decide_and, -Bool.decide_or, -Bool.not_and, -Bool.not_or, toNat_pred, toNat_succ, wrap64, wr_new, wr_new0, ok_if, ok_ifn, iadV_sl, makeV_int, decT, decF, over_at, *, hC1.len, hC1.at_, hC1.at_', hC1.rd, hC1.rdIn, hC1.rdIn0, hC1.rdA, hC1.rdInA, hC1.rdIn0A, Eff.cells, leavesAll, fillL, hI1.len]) | (with_reducible refine Gd_split (fun hc => ?_) (fun hc => ?_) <;> (have hc2 := hc; try simp at hc2)) | (with_reducible refine Br_split (fun hc => ?_) (fun hc => ?_) <;> (have hc2 := hc; try simp at hc2)) | (with_reducible refine GdT_split (fun hc => ?_) (fun hc => ?_) <;> (have hc2 := hc; try simp at hc2)) | (with_reducible refine WT_alt ?_ ?_) | omega)
      refine WL_forM 18014396362027008 (by decide +kernel) (ys.length) (fun j b' g' => j ≤ ys.length ∧ b' 31 = .lf (.int .i64 j) ∧ New (h ++ [⟨[l, l2], .own 46 1⟩]) g' o 22 1 ((putTo A ys out j).map fl) ∧ Cel g' g.length 118 [.int .i64 t, .int .i64 A, cs[i].2]) (fun _ _ _ hi => hi.1) ⟨by omega, by simp, hN.app, Cel.new⟩ ?_
      rintro j b' g' ⟨hj, e31, hN2, hc⟩
      have r1 := hc.rd (off := 1) (n := 1) (by simp)
      have r2 := hc.rd (off := 2) (n := 1) (by simp)
      simp only [List.drop_succ_cons, List.drop_zero, List.take_succ_cons, List.take_zero] at r1 r2
      have hI2 := (hCI i hlt).kept (kb.trans hN2.kept)
      rw [hys] at hI2
      have hlen2 : (putTo A ys out j).length = n := by rw [putTo_len, hlen]
      by_cases hlt2 : j < ys.length
      · obtain ⟨P, hP⟩ : ∃ P : Nat, (A : Int) + (j : Int) = P := ⟨A + j, by omega⟩
        have hPA : A + j = P := by omega
        by_cases hat : P < n
        · have hs2 := putTo_yes (a := A) (j := j) (ys := ys) (out := out) (by omega) hlt2
          simp only [hPA] at hs2
          have hPl : P < (putTo A ys out j).length := by omega
          have hs2H : Hid (putTo A ys out (j + 1) = (putTo A ys out j).set P (fbin .add .f32 (putTo A ys out j)[P] ys[j])) := hs2
          clear hs2
          have hAr := hN2.arr
          have hat1 := hAr.at_ (k := .i64) hPl
          have hrd1 := hAr.rd1 hPl
          have hwr := fun v K => oc_wr (lim := lim) (K := K) (i := P) (c := .flt .f32 v) hN2 (by simpa using hPl) (by simp; omega)
          repeat' (first | (simp (disch := first | omega | assumption | (simp only [List.length_set]; omega) | (simp [*] <;> fail) | assumption) [-Bool.decide_and, -Bool.decide_or, -Bool.not_and, -Bool.not_or, toNat_pred, toNat_succ, wrap64, wr_new, wr_new0, ok_if, ok_ifn, iadV_sl, makeV_int, decT, decF, over_at, *, hI2.len, hI2.at_, hI2.at_', hI2.rd, hI2.rdIn, hI2.rdIn0, hI2.rdA, hI2.rdInA, hI2.rdIn0A, hI2.rd1, fl]) | (with_reducible refine Gd_split (fun hc => ?_) (fun hc => ?_) <;> (have hc2 := hc; try simp at hc2)) | (with_reducible refine Br_split (fun hc => ?_) (fun hc => ?_) <;> (have hc2 := hc; try simp at hc2)) | (with_reducible refine GdT_split (fun hc => ?_) (fun hc => ?_) <;> (have hc2 := hc; try simp at hc2)) | (with_reducible refine WT_alt ?_ ?_) | omega)
          refine hwr _ _ fun g3 hN3 hB3 => ?_
          rw [fl_set] at hN3
          have hc3 := hc.but hB3 hgl
          clear hwr
          repeat' (first | (simp (disch := first | omega | assumption | (simp only [List.length_set]; omega) | (simp [*] <;> fail) | assumption) [-Bool.decide_and, -Bool.decide_or, -Bool.not_and, -Bool.not_or, toNat_pred, toNat_succ, wrap64, wr_new, wr_new0, ok_if, ok_ifn, iadV_sl, makeV_int, decT, decF, over_at, *]) | (with_reducible refine Gd_split (fun hc => ?_) (fun hc => ?_) <;> (have hc2 := hc; try simp at hc2)) | (with_reducible refine Br_split (fun hc => ?_) (fun hc => ?_) <;> (have hc2 := hc; try simp at hc2)) | (with_reducible refine GdT_split (fun hc => ?_) (fun hc => ?_) <;> (have hc2 := hc; try simp at hc2)) | (with_reducible refine WT_alt ?_ ?_) | omega)
          all_goals (repeat' apply And.intro) <;> first | assumption | omega | (rw [show putTo A ys out (j + 1) = _ from hs2H]; assumption)
        · have hs2 := putTo_no (a := A) (j := j) (ys := ys) (out := out) (by omega)
          have hs2H : Hid (putTo A ys out (j + 1) = putTo A ys out j) := hs2
          clear hs2
          repeat' (first | (simp (disch := first | omega | assumption | (simp only [List.length_set]; omega) | (simp [*] <;> fail) | assumption) [-Bool.decide_and, -Bool.decide_or, -Bool.not_and, -Bool.not_or, toNat_pred, toNat_succ, wrap64, wr_new, wr_new0, ok_if, ok_ifn, iadV_sl, makeV_int, decT, decF, over_at, *, hI2.len, hI2.at_, hI2.at_', hI2.rd, hI2.rdIn, hI2.rdIn0, hI2.rdA, hI2.rdInA, hI2.rdIn0A, hI2.rd1, fl]) | (with_reducible refine Gd_split (fun hc => ?_) (fun hc => ?_) <;> (have hc2 := hc; try simp at hc2)) | (with_reducible refine Br_split (fun hc => ?_) (fun hc => ?_) <;> (have hc2 := hc; try simp at hc2)) | (with_reducible refine GdT_split (fun hc => ?_) (fun hc => ?_) <;> (have hc2 := hc; try simp at hc2)) | (with_reducible refine WT_alt ?_ ?_) | omega)
          all_goals (repeat' apply And.intro) <;> first | assumption | omega | (rw [show putTo A ys out (j + 1) = _ from hs2H]; assumption)
      · have : j = ys.length := by omega
        subst this
        repeat' (first | (simp (disch := first | omega | assumption | (simp only [List.length_set]; omega) | (simp [*] <;> fail) | assumption) [-Bool.decide_and, -Bool.decide_or, -Bool.not_and, -Bool.not_or, toNat_pred, toNat_succ, wrap64, wr_new, wr_new0, ok_if, ok_ifn, iadV_sl, makeV_int, decT, decF, over_at, *]) | (with_reducible refine Gd_split (fun hc => ?_) (fun hc => ?_) <;> (have hc2 := hc; try simp at hc2)) | (with_reducible refine Br_split (fun hc => ?_) (fun hc => ?_) <;> (have hc2 := hc; try simp at hc2)) | (with_reducible refine GdT_split (fun hc => ?_) (fun hc => ?_) <;> (have hc2 := hc; try simp at hc2)) | (with_reducible refine WT_alt ?_ ?_) | omega)
        all_goals (repeat' apply And.intro) <;> first | assumption | omega | (rw [show trkTo t (cs.map (·.1)) n (i + 1) = _ from hsH]; assumption)
    · have hs := trkTo_no (t := t) (n := n) (cs := cs.map (·.1)) (k := i) (by simpa using hlt) (by simpa using hkd)
      have hsH : Hid (trkTo t (cs.map (·.1)) n (i + 1) = trkTo t (cs.map (·.1)) n i) := hs
      have hA := hN.app (t := [⟨[.int .i64 cs[i].1.kind, .int .i64 cs[i].1.len, cs[i].2], .own 118 1⟩])
      clear hs hK
      repeat' (first | (simp (disch := first | omega | assumption | (simp only [List.length_set]; omega) | (simp [*] <;> fail) | assumption) [-Bool.decide_and, -Bool.decide_or, -Bool.not_and, -Bool.not_or, toNat_pred, toNat_succ, wrap64, wr_new, wr_new0, ok_if, ok_ifn, iadV_sl, makeV_int, decT, decF, over_at, *, hC1.len, hC1.at_, hC1.at_', hC1.rd, hC1.rdIn, hC1.rdIn0, hC1.rdA, hC1.rdInA, hC1.rdIn0A, Eff.cells, leavesAll, fillL]) | (with_reducible refine Gd_split (fun hc => ?_) (fun hc => ?_) <;> (have hc2 := hc; try simp at hc2)) | (with_reducible refine Br_split (fun hc => ?_) (fun hc => ?_) <;> (have hc2 := hc; try simp at hc2)) | (with_reducible refine GdT_split (fun hc => ?_) (fun hc => ?_) <;> (have hc2 := hc; try simp at hc2)) | (with_reducible refine WT_alt ?_ ?_) | omega)
      all_goals (repeat' apply And.intro) <;> first | assumption | omega | (rw [show trkTo t (cs.map (·.1)) n (i + 1) = _ from hsH]; assumption)
  · have : i = cs.length := by omega
    subst this
    have hk2 := hK _ _ (hN.base kb)
    clear hK
    repeat' (first | (simp (disch := first | omega | assumption | (simp only [List.length_set]; omega) | (simp [*] <;> fail) | assumption) [-Bool.decide_and, -Bool.decide_or, -Bool.not_and, -Bool.not_or, toNat_pred, toNat_succ, wrap64, wr_new, wr_new0, ok_if, ok_ifn, iadV_sl, makeV_int, decT, decF, over_at, *, hC1.len]) | (with_reducible refine Gd_split (fun hc => ?_) (fun hc => ?_) <;> (have hc2 := hc; try simp at hc2)) | (with_reducible refine Br_split (fun hc => ?_) (fun hc => ?_) <;> (have hc2 := hc; try simp at hc2)) | (with_reducible refine GdT_split (fun hc => ?_) (fun hc => ?_) <;> (have hc2 := hc; try simp at hc2)) | (with_reducible refine WT_alt ?_ ?_) | omega)
@[simp] theorem c_l09Count {x : Int} : CallT S true 116 [.lf (.int .i64 x)] h lim K = K (.lf (.bool (decide (0 ≤ x ∧ x ≤ 256)))) h := by
  refine CallT_pure (F := L116) (HasTo.f116) rfl (by first | rfl | (split <;> rfl) | simp) ?_; unfold L116; dsimp only []
  repeat' (first | (simp (disch := first | omega | assumption | (simp only [List.length_set]; omega) | (simp [*] <;> fail) | assumption) [-Bool.decide_and, -Bool.decide_or, -Bool.not_and, -Bool.not_or, toNat_pred, toNat_succ, wrap64, wr_new, wr_new0, ok_if, ok_ifn, iadV_sl, makeV_int, decT, decF, over_at, *]) | (with_reducible refine Gd_split (fun hc => ?_) (fun hc => ?_) <;> (have hc2 := hc; try simp at hc2)) | (with_reducible refine Br_split (fun hc => ?_) (fun hc => ?_) <;> (have hc2 := hc; try simp at hc2)) | (with_reducible refine GdT_split (fun hc => ?_) (fun hc => ?_) <;> (have hc2 := hc; try simp at hc2)) | (with_reducible refine WT_alt ?_ ?_) | omega)
set_option maxHeartbeats 4000000 in
theorem c_specTrackOf {t n : Int} (hC : Arr h l 3 (cs.map Eff.cells)) (hCI : In h Eff.nums cs) (hS : Arr h l2 5 (ss.map Str.cells)) (hSI : InS h ss) (hl : lim ≤ h.length)
    (hK : ∀ o g, New h g o 22 1 ((toR (cs.map (·.1)) (valS ss) t n).map fl) → K (.tup [.lf o, .lf (.bool (decide (okTo (cs.map (·.1)) (valS ss) t n)))]) g) : CallT S false 48 [.agg [l, l2], .lf (.int .i64 t), .lf (.int .i64 n)] h lim K := by
  have hbS := hS.bound
  obtain ⟨hr0, hr1⟩ := box_rd (h := h) (l := l) (l2 := l2) (ty := 46) (t := [])
  have hv := fun lim K => c_l09Is (S := S) (lim := lim) (K := K) (h := h ++ [⟨[l, l2], .own 46 1⟩]) (id := h.length) (off := 0) hr0 hr1 hC.app (hCI.kept (Kept.app _ _)) hS.app (hSI.kept (Kept.app _ _))
  by_cases hok : okTo (cs.map (·.1)) (valS ss) t n
  · unfold toR at hK
    rw [if_pos hok, decide_eq_true hok] at hK
    obtain ⟨k1, k2, k3⟩ := hok
    rw [decide_eq_true k1] at hv
    rw [valS_len] at k2
    have hcl : ∀ c ∈ cs.map (·.1), (0 ≤ c.len ∧ c.len ≤ 256) ∧ c.nums.length ≤ 256 := fun c hc => (k1.2.2.2 c hc).2
    clear k1
    obtain ⟨N, rfl⟩ := Int.eq_ofNat_of_zero_le k3.1
    rw [Int.toNat_natCast, List.length_map] at hK
    refine CallT_of_body (F := L48) (HasTo.f48) rfl ?_; unfold L48; dsimp only []
    repeat' (first | (simp (disch := first | omega | assumption | (simp only [List.length_set]; omega) | (simp [*] <;> fail) | assumption) [-Bool.decide_and, -Bool.decide_or, -Bool.not_and, -Bool.not_or, toNat_pred, toNat_succ, wrap64, wr_new, wr_new0, ok_if, ok_ifn, iadV_sl, makeV_int, decT, decF, over_at, *, hS.len]) | (with_reducible refine Gd_split (fun hc => ?_) (fun hc => ?_) <;> (have hc2 := hc; try simp at hc2)) | (with_reducible refine Br_split (fun hc => ?_) (fun hc => ?_) <;> (have hc2 := hc; try simp at hc2)) | (with_reducible refine GdT_split (fun hc => ?_) (fun hc => ?_) <;> (have hc2 := hc; try simp at hc2)) | (with_reducible refine WT_alt ?_ ?_) | omega)
    refine c_l09Track hr0 hC.app (hCI.kept (Kept.app _ _)) hcl (by omega) (by simp; omega) fun o g hO => ?_
    have hk2 := hK _ _ (hO.base (Kept.app _ _))
    clear hK
    repeat' (first | (simp (disch := first | omega | assumption | (simp only [List.length_set]; omega) | (simp [*] <;> fail) | assumption) [-Bool.decide_and, -Bool.decide_or, -Bool.not_and, -Bool.not_or, toNat_pred, toNat_succ, wrap64, wr_new, wr_new0, ok_if, ok_ifn, iadV_sl, makeV_int, decT, decF, over_at, *]) | (with_reducible refine Gd_split (fun hc => ?_) (fun hc => ?_) <;> (have hc2 := hc; try simp at hc2)) | (with_reducible refine Br_split (fun hc => ?_) (fun hc => ?_) <;> (have hc2 := hc; try simp at hc2)) | (with_reducible refine GdT_split (fun hc => ?_) (fun hc => ?_) <;> (have hc2 := hc; try simp at hc2)) | (with_reducible refine WT_alt ?_ ?_) | omega)
  · have hk2 := hK .nils h (by unfold toR; rw [if_neg hok]; exact New.nil (Kept.refl h))
    have hk3 := hK .nils (h ++ [⟨[l, l2], .own 46 1⟩]) (by unfold toR; rw [if_neg hok]; exact New.nil (Kept.app _ _))
    rw [decide_eq_false hok] at hk2 hk3
    clear hK
    by_cases k1 : sesOk (cs.map (·.1)) (valS ss)
    · rw [decide_eq_true k1] at hv
      by_cases k2 : 0 ≤ t ∧ t ≤ ss.length - 1
      · have k3 : ¬ (0 ≤ n ∧ n ≤ 256) := fun q => hok ⟨k1, by rw [valS_len]; exact k2, q⟩
        clear hok k1
        refine CallT_of_body (F := L48) (HasTo.f48) rfl ?_; unfold L48; dsimp only []
        repeat' (first | (simp (disch := first | omega | assumption | (simp only [List.length_set]; omega) | (simp [*] <;> fail) | assumption) [-Bool.decide_and, -Bool.decide_or, -Bool.not_and, -Bool.not_or, toNat_pred, toNat_succ, wrap64, wr_new, wr_new0, ok_if, ok_ifn, iadV_sl, makeV_int, decT, decF, over_at, *, hS.len]) | (with_reducible refine Gd_split (fun hc => ?_) (fun hc => ?_) <;> (have hc2 := hc; try simp at hc2)) | (with_reducible refine Br_split (fun hc => ?_) (fun hc => ?_) <;> (have hc2 := hc; try simp at hc2)) | (with_reducible refine GdT_split (fun hc => ?_) (fun hc => ?_) <;> (have hc2 := hc; try simp at hc2)) | (with_reducible refine WT_alt ?_ ?_) | omega)
      · clear hok k1
        refine CallT_of_body (F := L48) (HasTo.f48) rfl ?_; unfold L48; dsimp only []
        repeat' (first | (simp (disch := first | omega | assumption | (simp only [List.length_set]; omega) | (simp [*] <;> fail) | assumption) [-Bool.decide_and, -Bool.decide_or, -Bool.not_and, -Bool.not_or, toNat_pred, toNat_succ, wrap64, wr_new, wr_new0, ok_if, ok_ifn, iadV_sl, makeV_int, decT, decF, over_at, *, hS.len]) | (with_reducible refine Gd_split (fun hc => ?_) (fun hc => ?_) <;> (have hc2 := hc; try simp at hc2)) | (with_reducible refine Br_split (fun hc => ?_) (fun hc => ?_) <;> (have hc2 := hc; try simp at hc2)) | (with_reducible refine GdT_split (fun hc => ?_) (fun hc => ?_) <;> (have hc2 := hc; try simp at hc2)) | (with_reducible refine WT_alt ?_ ?_) | omega)
    · rw [decide_eq_false k1] at hv
      clear hok k1
      refine CallT_of_body (F := L48) (HasTo.f48) rfl ?_; unfold L48; dsimp only []
      repeat' (first | (simp (disch := first | omega | assumption | (simp only [List.length_set]; omega) | (simp [*] <;> fail) | assumption) [-Bool.decide_and, -Bool.decide_or, -Bool.not_and, -Bool.not_or, toNat_pred, toNat_succ, wrap64, wr_new, wr_new0, ok_if, ok_ifn, iadV_sl, makeV_int, decT, decF, over_at, *, hS.len]) | (with_reducible refine Gd_split (fun hc => ?_) (fun hc => ?_) <;> (have hc2 := hc; try simp at hc2)) | (with_reducible refine Br_split (fun hc => ?_) (fun hc => ?_) <;> (have hc2 := hc; try simp at hc2)) | (with_reducible refine GdT_split (fun hc => ?_) (fun hc => ?_) <;> (have hc2 := hc; try simp at hc2)) | (with_reducible refine WT_alt ?_ ?_) | omega)
set_option maxHeartbeats 4000000 in
theorem c_implTrackOf {t n : Int} (hC : Arr h l 3 (cs.map Eff.cells)) (hCI : In h Eff.nums cs) (hS : Arr h l2 5 (ss.map Str.cells)) (hSI : InS h ss) (hl : lim ≤ h.length)
    (hK : ∀ o g, New h g o 22 1 ((toR (cs.map (·.1)) (valS ss) t n).map fl) → K (.tup [.lf o, .lf (.bool (decide (okTo (cs.map (·.1)) (valS ss) t n)))]) g) : CallT S false 49 [.agg [l, l2], .lf (.int .i64 t), .lf (.int .i64 n)] h lim K := by
  have hbS := hS.bound
  have hix := fun h lim K x => c_isIndex (S := S) (h := h) (lim := lim) (K := K) (x := x) (n := (ss.length : Int)) (by omega)
  have hv0 := fun h' (k : Kept h h') lim K => c_implValidSession (S := S) (lim := lim) (K := K) (h := h') (hC.kept k) (hCI.kept k) (hS.kept k) (hSI.kept k)
  have hv : ∀ h', Kept h h' → ∀ lim K, CallT S true 118 [.agg [l, l2], .lf (.int .i64 t), .lf (.int .i64 n)] h' lim K = K (.lf (.bool (decide (okTo (cs.map (·.1)) (valS ss) t n)))) h' := by
    intro h' k lim K
    have hv1 := hv0 (h' ++ [⟨[l, l2], .own 46 1⟩]) (k.trans (Kept.app _ _))
    clear hv0
    by_cases k1 : sesOk (cs.map (·.1)) (valS ss)
    · by_cases k2 : 0 ≤ t ∧ t ≤ ss.length - 1
      · by_cases k3 : 0 ≤ n ∧ n ≤ 256
        · have e := decide_eq_true (show okTo (cs.map (·.1)) (valS ss) t n from ⟨k1, by rw [valS_len]; exact k2, k3⟩)
          rw [decide_eq_true k1] at hv1
          clear k1
          refine CallT_pure (F := L118) (HasTo.f118) rfl (by first | rfl | (split <;> rfl) | simp) ?_; unfold L118; dsimp only []
          repeat' (first | (simp (disch := first | omega | assumption | (simp only [List.length_set]; omega) | (simp [*] <;> fail) | assumption) [-Bool.decide_and, -Bool.decide_or, -Bool.not_and, -Bool.not_or, toNat_pred, toNat_succ, wrap64, wr_new, wr_new0, ok_if, ok_ifn, iadV_sl, makeV_int, decT, decF, over_at, *, hS.len]) | (with_reducible refine Gd_split (fun hc => ?_) (fun hc => ?_) <;> (have hc2 := hc; try simp at hc2)) | (with_reducible refine Br_split (fun hc => ?_) (fun hc => ?_) <;> (have hc2 := hc; try simp at hc2)) | (with_reducible refine GdT_split (fun hc => ?_) (fun hc => ?_) <;> (have hc2 := hc; try simp at hc2)) | (with_reducible refine WT_alt ?_ ?_) | omega)
        · have e := decide_eq_false (show ¬ okTo (cs.map (·.1)) (valS ss) t n from fun q => k3 q.2.2)
          rw [decide_eq_true k1] at hv1
          clear k1
          refine CallT_pure (F := L118) (HasTo.f118) rfl (by first | rfl | (split <;> rfl) | simp) ?_; unfold L118; dsimp only []
          repeat' (first | (simp (disch := first | omega | assumption | (simp only [List.length_set]; omega) | (simp [*] <;> fail) | assumption) [-Bool.decide_and, -Bool.decide_or, -Bool.not_and, -Bool.not_or, toNat_pred, toNat_succ, wrap64, wr_new, wr_new0, ok_if, ok_ifn, iadV_sl, makeV_int, decT, decF, over_at, *, hS.len]) | (with_reducible refine Gd_split (fun hc => ?_) (fun hc => ?_) <;> (have hc2 := hc; try simp at hc2)) | (with_reducible refine Br_split (fun hc => ?_) (fun hc => ?_) <;> (have hc2 := hc; try simp at hc2)) | (with_reducible refine GdT_split (fun hc => ?_) (fun hc => ?_) <;> (have hc2 := hc; try simp at hc2)) | (with_reducible refine WT_alt ?_ ?_) | omega)
      · have e := decide_eq_false (show ¬ okTo (cs.map (·.1)) (valS ss) t n from fun q => k2 (by have := q.2.1; rwa [valS_len] at this))
        rw [decide_eq_true k1] at hv1
        clear k1
        refine CallT_pure (F := L118) (HasTo.f118) rfl (by first | rfl | (split <;> rfl) | simp) ?_; unfold L118; dsimp only []
        repeat' (first | (simp (disch := first | omega | assumption | (simp only [List.length_set]; omega) | (simp [*] <;> fail) | assumption) [-Bool.decide_and, -Bool.decide_or, -Bool.not_and, -Bool.not_or, toNat_pred, toNat_succ, wrap64, wr_new, wr_new0, ok_if, ok_ifn, iadV_sl, makeV_int, decT, decF, over_at, *, hS.len]) | (with_reducible refine Gd_split (fun hc => ?_) (fun hc => ?_) <;> (have hc2 := hc; try simp at hc2)) | (with_reducible refine Br_split (fun hc => ?_) (fun hc => ?_) <;> (have hc2 := hc; try simp at hc2)) | (with_reducible refine GdT_split (fun hc => ?_) (fun hc => ?_) <;> (have hc2 := hc; try simp at hc2)) | (with_reducible refine WT_alt ?_ ?_) | omega)
    · have e := decide_eq_false (show ¬ okTo (cs.map (·.1)) (valS ss) t n from fun q => k1 q.1)
      rw [decide_eq_false k1] at hv1
      clear k1
      refine CallT_pure (F := L118) (HasTo.f118) rfl (by first | rfl | (split <;> rfl) | simp) ?_; unfold L118; dsimp only []
      repeat' (first | (simp (disch := first | omega | assumption | (simp only [List.length_set]; omega) | (simp [*] <;> fail) | assumption) [-Bool.decide_and, -Bool.decide_or, -Bool.not_and, -Bool.not_or, toNat_pred, toNat_succ, wrap64, wr_new, wr_new0, ok_if, ok_ifn, iadV_sl, makeV_int, decT, decF, over_at, *, hS.len]) | (with_reducible refine Gd_split (fun hc => ?_) (fun hc => ?_) <;> (have hc2 := hc; try simp at hc2)) | (with_reducible refine Br_split (fun hc => ?_) (fun hc => ?_) <;> (have hc2 := hc; try simp at hc2)) | (with_reducible refine GdT_split (fun hc => ?_) (fun hc => ?_) <;> (have hc2 := hc; try simp at hc2)) | (with_reducible refine WT_alt ?_ ?_) | omega)
  have hv2 := hv (h ++ [⟨[l, l2], .own 46 1⟩]) (Kept.app _ _)
  clear hv hv0
  by_cases hok : okTo (cs.map (·.1)) (valS ss) t n
  · unfold toR at hK
    rw [if_pos hok, decide_eq_true hok] at hK
    rw [decide_eq_true hok] at hv2
    obtain ⟨k1, k2, k3⟩ := hok
    have hcl : ∀ c ∈ cs.map (·.1), (0 ≤ c.len ∧ c.len ≤ 256) ∧ c.nums.length ≤ 256 := fun c hc => (k1.2.2.2 c hc).2
    clear k1
    obtain ⟨N, rfl⟩ := Int.eq_ofNat_of_zero_le k3.1
    rw [Int.toNat_natCast, List.length_map] at hK
    refine CallT_of_body (F := L49) (HasTo.f49) rfl ?_; unfold L49; dsimp only []
    repeat' (first | (simp (disch := first | omega | assumption | (simp only [List.length_set]; omega) | (simp [*] <;> fail) | assumption) [-Bool.decide_and, -Bool.decide_or, -Bool.not_and, -Bool.not_or, toNat_pred, toNat_succ, wrap64, wr_new, wr_new0, ok_if, ok_ifn, iadV_sl, makeV_int, decT, decF, over_at, *]) | (with_reducible refine Gd_split (fun hc => ?_) (fun hc => ?_) <;> (have hc2 := hc; try simp at hc2)) | (with_reducible refine Br_split (fun hc => ?_) (fun hc => ?_) <;> (have hc2 := hc; try simp at hc2)) | (with_reducible refine GdT_split (fun hc => ?_) (fun hc => ?_) <;> (have hc2 := hc; try simp at hc2)) | (with_reducible refine WT_alt ?_ ?_) | omega)
    refine c_samples hC.app (hCI.kept (Kept.app _ _)) hcl (by omega) (by simp; omega) fun o g hO => ?_
    have hk2 := hK _ _ (hO.base (Kept.app _ _))
    clear hK
    repeat' (first | (simp (disch := first | omega | assumption | (simp only [List.length_set]; omega) | (simp [*] <;> fail) | assumption) [-Bool.decide_and, -Bool.decide_or, -Bool.not_and, -Bool.not_or, toNat_pred, toNat_succ, wrap64, wr_new, wr_new0, ok_if, ok_ifn, iadV_sl, makeV_int, decT, decF, over_at, *]) | (with_reducible refine Gd_split (fun hc => ?_) (fun hc => ?_) <;> (have hc2 := hc; try simp at hc2)) | (with_reducible refine Br_split (fun hc => ?_) (fun hc => ?_) <;> (have hc2 := hc; try simp at hc2)) | (with_reducible refine GdT_split (fun hc => ?_) (fun hc => ?_) <;> (have hc2 := hc; try simp at hc2)) | (with_reducible refine WT_alt ?_ ?_) | omega)
  · have hk2 := hK .nils h (by unfold toR; rw [if_neg hok]; exact New.nil (Kept.refl h))
    have hk3 := hK .nils (h ++ [⟨[l, l2], .own 46 1⟩]) (by unfold toR; rw [if_neg hok]; exact New.nil (Kept.app _ _))
    rw [decide_eq_false hok] at hk2 hk3 hv2
    clear hK hok
    refine CallT_of_body (F := L49) (HasTo.f49) rfl ?_; unfold L49; dsimp only []
    repeat' (first | (simp (disch := first | omega | assumption | (simp only [List.length_set]; omega) | (simp [*] <;> fail) | assumption) [-Bool.decide_and, -Bool.decide_or, -Bool.not_and, -Bool.not_or, toNat_pred, toNat_succ, wrap64, wr_new, wr_new0, ok_if, ok_ifn, iadV_sl, makeV_int, decT, decF, over_at, *]) | (with_reducible refine Gd_split (fun hc => ?_) (fun hc => ?_) <;> (have hc2 := hc; try simp at hc2)) | (with_reducible refine Br_split (fun hc => ?_) (fun hc => ?_) <;> (have hc2 := hc; try simp at hc2)) | (with_reducible refine GdT_split (fun hc => ?_) (fun hc => ?_) <;> (have hc2 := hc; try simp at hc2)) | (with_reducible refine WT_alt ?_ ?_) | omega)
end
end Go.E
