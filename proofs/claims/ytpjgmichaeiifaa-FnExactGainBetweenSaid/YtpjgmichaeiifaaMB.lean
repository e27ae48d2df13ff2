/- Lanes: what says whether points are a lane. -/
import Derived.Test.YtpjgmichaeiifaaMA
set_option linter.unusedVariables false
set_option linter.unusedSimpArgs false
namespace Go.E
open Go
def L85 : LFn := ⟨1, (.seq (.reg [⟨(.some 2), (.mv (.c (.lf (.bool false)))), none⟩])
 (.seq (.seq (.reg [⟨(.some 4), (.mv (.t 0)), none⟩, ⟨(.some 5), (.len (.t 4)), none⟩, ⟨(.some 6), (.mv (.c (.lf (.int .i64 0)))), none⟩])
 (.block 0 (.loop (.seq (.reg [⟨(.some 7), (.bin .lss (.t 6) (.t 5)), none⟩])
 (.seq (.cond (.t 7) .skip (.exit 0))
 (.seq (.block 1 (.seq (.reg [⟨(.some 8), (.mv (.t 6)), none⟩, ⟨(.some 3), (.mv (.t 8)), none⟩])
 (.seq (.reg [⟨(.some 9), (.mv (.t 0)), none⟩, ⟨(.some 10), (.mv (.t 3)), none⟩, ⟨(.some 11), (.iaddr 2 (.t 9) (.t 10)), none⟩, ⟨(.some 12), (.faddr 0 (.t 11)), none⟩, ⟨(.some 13), (.load false 1 (.t 12)), none⟩, ⟨(.some 14), (.call true 86 [(.t 13), (.c (.lf (.int .i64 0))), (.c (.lf (.int .i64 100000)))]), none⟩, ⟨(.some 15), (.una .not (.t 14)), none⟩, ⟨(.some 16), (.mv (.t 15)), none⟩, ⟨(.some 17), (.mv (.t 3)), (.some (16, false))⟩, ⟨(.some 18), (.bin .gtr (.t 17) (.c (.lf (.int .i64 0)))), (.some (16, false))⟩, ⟨(.some 19), (.mv (.t 18)), (.some (16, false))⟩, ⟨(.some 20), (.mv (.t 0)), (.some (19, true))⟩, ⟨(.some 21), (.mv (.t 3)), (.some (19, true))⟩, ⟨(.some 22), (.bin .sub (.t 21) (.c (.lf (.int .i64 1)))), (.some (19, true))⟩, ⟨(.some 23), (.iaddr 2 (.t 20) (.t 22)), (.some (19, true))⟩, ⟨(.some 24), (.faddr 0 (.t 23)), (.some (19, true))⟩, ⟨(.some 25), (.load false 1 (.t 24)), (.some (19, true))⟩, ⟨(.some 26), (.mv (.t 0)), (.some (19, true))⟩, ⟨(.some 27), (.mv (.t 3)), (.some (19, true))⟩, ⟨(.some 28), (.iaddr 2 (.t 26) (.t 27)), (.some (19, true))⟩, ⟨(.some 29), (.faddr 0 (.t 28)), (.some (19, true))⟩, ⟨(.some 30), (.load false 1 (.t 29)), (.some (19, true))⟩, ⟨(.some 31), (.bin .geq (.t 25) (.t 30)), (.some (19, true))⟩, ⟨(.some 32), (.pick (.t 19) (.t 31) (.c (.lf (.bool false)))), (.some (16, false))⟩, ⟨(.some 33), (.pick (.t 16) (.c (.lf (.bool true))) (.t 32)), none⟩])
 (.cond (.t 33) (.seq (.reg [⟨(.some 2), (.mv (.c (.lf (.bool false)))), none⟩])
 .ret) .skip))))
 (.reg [⟨(.some 34), (.bin .add (.t 6) (.c (.lf (.int .i64 1)))), none⟩, ⟨(.some 6), (.mv (.t 34)), none⟩])))))))
 (.seq (.reg [⟨(.some 35), (.mv (.t 0)), none⟩, ⟨(.some 36), (.len (.t 35)), none⟩, ⟨(.some 37), (.bin .geq (.t 36) (.c (.lf (.int .i64 1)))), none⟩, ⟨(.some 38), (.mv (.t 37)), none⟩, ⟨(.some 39), (.mv (.t 0)), (.some (38, true))⟩, ⟨(.some 40), (.len (.t 39)), (.some (38, true))⟩, ⟨(.some 41), (.bin .leq (.t 40) (.c (.lf (.int .i64 12)))), (.some (38, true))⟩, ⟨(.some 42), (.pick (.t 38) (.t 41) (.c (.lf (.bool false)))), none⟩, ⟨(.some 2), (.mv (.t 42)), none⟩])
 .ret))), [(.tmp 2)]⟩
def L89 : LFn := ⟨1, (.seq (.reg [⟨(.some 2), (.mv (.c (.lf (.bool false)))), none⟩])
 (.seq (.seq (.reg [⟨(.some 5), (.mv (.t 0)), none⟩, ⟨(.some 6), (.len (.t 5)), none⟩, ⟨(.some 7), (.call true 76 [(.t 6)]), none⟩, ⟨(.some 8), (.call true 127 [(.t 7), (.c (.lf (.int .i64 1))), (.c (.lf (.int .i64 12)))]), none⟩, ⟨(.some 9), (.una .not (.t 8)), none⟩])
 (.cond (.t 9) (.seq (.reg [⟨(.some 2), (.mv (.c (.lf (.bool false)))), none⟩])
 .ret) .skip))
 (.seq (.seq (.reg [⟨(.some 10), (.mv (.t 0)), none⟩, ⟨(.some 11), (.len (.t 10)), none⟩, ⟨(.some 12), (.mv (.c (.lf (.int .i64 0)))), none⟩])
 (.block 0 (.loop (.seq (.reg [⟨(.some 13), (.bin .lss (.t 12) (.t 11)), none⟩])
 (.seq (.cond (.t 13) .skip (.exit 0))
 (.seq (.block 1 (.seq (.reg [⟨(.some 14), (.mv (.t 12)), none⟩, ⟨(.some 15), (.iaddr 2 (.t 10) (.t 12)), none⟩, ⟨(.some 16), (.load true 2 (.t 15)), none⟩, ⟨(.some 4), (.alloc 111 [(.int .i64 0), (.flt .f32 0)]), none⟩, ⟨(.some 3), (.mv (.t 14)), none⟩, ⟨none, (.store 2 (.t 4) (.t 16)), none⟩])
 (.seq (.reg [⟨(.some 17), (.faddr 0 (.t 4)), none⟩, ⟨(.some 18), (.load false 1 (.t 17)), none⟩, ⟨(.some 19), (.call true 90 [(.t 18)]), none⟩, ⟨(.some 20), (.una .not (.t 19)), none⟩, ⟨(.some 21), (.mv (.t 20)), none⟩, ⟨(.some 22), (.mv (.t 3)), (.some (21, false))⟩, ⟨(.some 23), (.bin .gtr (.t 22) (.c (.lf (.int .i64 0)))), (.some (21, false))⟩, ⟨(.some 24), (.mv (.t 23)), (.some (21, false))⟩, ⟨(.some 25), (.mv (.t 0)), (.some (24, true))⟩, ⟨(.some 26), (.mv (.t 3)), (.some (24, true))⟩, ⟨(.some 27), (.bin .sub (.t 26) (.c (.lf (.int .i64 1)))), (.some (24, true))⟩, ⟨(.some 28), (.iaddr 2 (.t 25) (.t 27)), (.some (24, true))⟩, ⟨(.some 29), (.faddr 0 (.t 28)), (.some (24, true))⟩, ⟨(.some 30), (.load false 1 (.t 29)), (.some (24, true))⟩, ⟨(.some 31), (.faddr 0 (.t 4)), (.some (24, true))⟩, ⟨(.some 32), (.load false 1 (.t 31)), (.some (24, true))⟩, ⟨(.some 33), (.bin .geq (.t 30) (.t 32)), (.some (24, true))⟩, ⟨(.some 34), (.pick (.t 24) (.t 33) (.c (.lf (.bool false)))), (.some (21, false))⟩, ⟨(.some 35), (.pick (.t 21) (.c (.lf (.bool true))) (.t 34)), none⟩])
 (.cond (.t 35) (.seq (.reg [⟨(.some 2), (.mv (.c (.lf (.bool false)))), none⟩])
 .ret) .skip))))
 (.reg [⟨(.some 36), (.bin .add (.t 12) (.c (.lf (.int .i64 1)))), none⟩, ⟨(.some 12), (.mv (.t 36)), none⟩])))))))
 (.seq (.reg [⟨(.some 2), (.mv (.c (.lf (.bool true)))), none⟩])
 .ret)))), [(.tmp 2)]⟩
class HasB (S : Sys) : Prop extends HasA S where
  f85 : S.fs 85 = some L85
  f89 : S.fs 89 = some L89
/-- A point: its place and its gain. -/
structure Pt where
  at_ : Int
  gain : Nat
def Pt.cells (p : Pt) : List Lf := [.int .i64 p.at_, .flt .f32 p.gain]
/-- All places are from 0 to 100000 and they rise, from the k-th on. -/
def laneUpto (ps : List Pt) (k : Nat) : Prop := ∀ i (hi : i < ps.length), i < k → 0 ≤ ps[i].at_ ∧ ps[i].at_ ≤ 100000 ∧ (0 < i → ps[i-1].at_ < ps[i].at_)
def isLane (ps : List Pt) : Prop := 1 ≤ ps.length ∧ ps.length ≤ 12 ∧ laneUpto ps ps.length
noncomputable instance (ps : List Pt) : Decidable (isLane ps) := Classical.propDecidable _
theorem laneUpto.succ {ps : List Pt} {i : Nat} (h : laneUpto ps i) (hi : i < ps.length) (h1 : 0 ≤ ps[i].at_ ∧ ps[i].at_ ≤ 100000) (h2 : 0 < i → ps[i-1].at_ < ps[i].at_) : laneUpto ps (i + 1) := by
  intro j hj hlt
  by_cases e : j = i
  · subst e; exact ⟨h1.1, h1.2, h2⟩
  · exact h j hj (by omega)
theorem laneUpto.zero {ps : List Pt} : laneUpto ps 0 := fun i _ h => by omega
theorem not_isLane {ps : List Pt} {i : Nat} (hi : i < ps.length) (h1 : ¬ (0 ≤ ps[i].at_ ∧ ps[i].at_ ≤ 100000 ∧ (0 < i → ps[i-1].at_ < ps[i].at_))) : ¬ isLane ps := fun h => h1 (h.2.2 i hi hi)
section
variable {S : Sys} {lim : Nat} {h : Hp} {K : CV → Hp → Prop} [HasB S] {l : Lf} {ps : List Pt}
theorem c_l07Lane (hA : Arr h l 2 (ps.map Pt.cells)) : CallT S true 85 [.lf l] h lim K = K (.lf (.bool (decide (isLane ps)))) h := by
  have hb := hA.bound
  refine CallT_pure (F := L85) (HasB.f85) rfl (by first | rfl | (split <;> rfl) | simp) ?_; unfold L85; dsimp only []
  repeat' (first | (simp (disch := first | omega | assumption | (simp only [List.length_set]; omega) | (simp [*] <;> fail) | assumption) [-Bool.decide_and, -Bool.decide_or, -Bool.not_and, -Bool.not_or, toNat_pred, toNat_succ, wrap64, wr_new, wr_new0, ok_if, ok_ifn, iadV_sl, makeV_int, decT, decF, over_at, *, hA.len, hA.at_, hA.at_', hA.rd, hA.rdIn, hA.rdIn0, hA.rdA, hA.rdInA, hA.rdIn0A]) | (with_reducible refine Gd_split (fun hc => ?_) (fun hc => ?_) <;> (have hc2 := hc; try simp at hc2)) | (with_reducible refine Br_split (fun hc => ?_) (fun hc => ?_) <;> (have hc2 := hc; try simp at hc2)) | (with_reducible refine GdT_split (fun hc => ?_) (fun hc => ?_) <;> (have hc2 := hc; try simp at hc2)) | (with_reducible refine WT_alt ?_ ?_) | omega)
  refine WL_for ps.length (fun i a' h' => i ≤ ps.length ∧ a' 0 = .lf l ∧ a' 5 = .lf (.int .i64 ps.length) ∧ a' 6 = .lf (.int .i64 i) ∧ h' = h ∧ laneUpto ps i) (fun i a' h' hi => hi.1) ?_ (by simp [laneUpto.zero])
  rintro i a' h' ⟨hi, e0, e5, e6, rfl, hl⟩
  by_cases hlt : i < ps.length
  · repeat' (first | (simp (disch := first | omega | assumption | (simp only [List.length_set]; omega) | (simp [*] <;> fail) | assumption) [-Bool.decide_and, -Bool.decide_or, -Bool.not_and, -Bool.not_or, toNat_pred, toNat_succ, wrap64, wr_new, wr_new0, ok_if, ok_ifn, iadV_sl, makeV_int, decT, decF, over_at, *, hA.len, hA.at_, hA.at_', hA.rd, hA.rdIn, hA.rdIn0, hA.rdA, hA.rdInA, hA.rdIn0A, Pt.cells]) | (with_reducible refine Gd_split (fun hc => ?_) (fun hc => ?_) <;> (have hc2 := hc; try simp at hc2)) | (with_reducible refine Br_split (fun hc => ?_) (fun hc => ?_) <;> (have hc2 := hc; try simp at hc2)) | (with_reducible refine GdT_split (fun hc => ?_) (fun hc => ?_) <;> (have hc2 := hc; try simp at hc2)) | (with_reducible refine WT_alt ?_ ?_) | omega)
    · exact not_isLane hlt (by omega)
    · exact ⟨hlt, hl.succ hlt (by assumption) (fun _ => hc2)⟩
    · subst hc2
      exact ⟨hlt, hl.succ hlt (by assumption) (fun h => by omega)⟩
    · exact not_isLane hlt (by omega)
  · have : i = ps.length := by omega
    subst this
    repeat' (first | (simp (disch := first | omega | assumption | (simp only [List.length_set]; omega) | (simp [*] <;> fail) | assumption) [-Bool.decide_and, -Bool.decide_or, -Bool.not_and, -Bool.not_or, toNat_pred, toNat_succ, wrap64, wr_new, wr_new0, ok_if, ok_ifn, iadV_sl, makeV_int, decT, decF, over_at, *, hA.len, hA.at_, hA.at_', hA.rd, hA.rdIn, hA.rdIn0, hA.rdA, hA.rdInA, hA.rdIn0A]) | (with_reducible refine Gd_split (fun hc => ?_) (fun hc => ?_) <;> (have hc2 := hc; try simp at hc2)) | (with_reducible refine Br_split (fun hc => ?_) (fun hc => ?_) <;> (have hc2 := hc; try simp at hc2)) | (with_reducible refine GdT_split (fun hc => ?_) (fun hc => ?_) <;> (have hc2 := hc; try simp at hc2)) | (with_reducible refine WT_alt ?_ ?_) | omega)
    · exact ⟨fun h => ⟨by omega, by omega, hl⟩, fun h => by have := h.2.1; omega⟩
    · exact fun h => by have := h.1; omega
theorem c_isLane (hA : Arr h l 2 (ps.map Pt.cells)) : CallT S true 89 [.lf l] h lim K = K (.lf (.bool (decide (isLane ps)))) h := by
  have hb := hA.bound
  refine CallT_pure (F := L89) (HasB.f89) rfl (by first | rfl | (split <;> rfl) | simp) ?_; unfold L89; dsimp only []
  repeat' (first | (simp (disch := first | omega | assumption | (simp only [List.length_set]; omega) | (simp [*] <;> fail) | assumption) [-Bool.decide_and, -Bool.decide_or, -Bool.not_and, -Bool.not_or, toNat_pred, toNat_succ, wrap64, wr_new, wr_new0, ok_if, ok_ifn, iadV_sl, makeV_int, decT, decF, over_at, *, hA.len, hA.at_, hA.at_', hA.rd, hA.rdIn, hA.rdIn0, hA.rdA, hA.rdInA, hA.rdIn0A]) | (with_reducible refine Gd_split (fun hc => ?_) (fun hc => ?_) <;> (have hc2 := hc; try simp at hc2)) | (with_reducible refine Br_split (fun hc => ?_) (fun hc => ?_) <;> (have hc2 := hc; try simp at hc2)) | (with_reducible refine GdT_split (fun hc => ?_) (fun hc => ?_) <;> (have hc2 := hc; try simp at hc2)) | (with_reducible refine WT_alt ?_ ?_) | omega)
  · exact fun h => by have := h.1; have := h.2.1; omega
  refine WL_for ps.length (fun i a' h' => i ≤ ps.length ∧ a' 0 = .lf l ∧ a' 10 = .lf l ∧ a' 11 = .lf (.int .i64 ps.length) ∧ a' 12 = .lf (.int .i64 i) ∧ Kept h h' ∧ laneUpto ps i) (fun i a' h' hi => hi.1) ?_ (by simp [laneUpto.zero, Kept.refl])
  rintro i a' g ⟨hi, e0, e10, e11, e12, hk, hl⟩
  replace hA := hA.kept hk; have hg := hk.1
  by_cases hlt : i < ps.length
  · repeat' (first | (simp (disch := first | omega | assumption | (simp only [List.length_set]; omega) | (simp [*] <;> fail) | assumption) [-Bool.decide_and, -Bool.decide_or, -Bool.not_and, -Bool.not_or, toNat_pred, toNat_succ, wrap64, wr_new, wr_new0, ok_if, ok_ifn, iadV_sl, makeV_int, decT, decF, over_at, *, hA.len, hA.at_, hA.at_', hA.rd, hA.rdIn, hA.rdIn0, hA.rdA, hA.rdInA, hA.rdIn0A, Pt.cells]) | (with_reducible refine Gd_split (fun hc => ?_) (fun hc => ?_) <;> (have hc2 := hc; try simp at hc2)) | (with_reducible refine Br_split (fun hc => ?_) (fun hc => ?_) <;> (have hc2 := hc; try simp at hc2)) | (with_reducible refine GdT_split (fun hc => ?_) (fun hc => ?_) <;> (have hc2 := hc; try simp at hc2)) | (with_reducible refine WT_alt ?_ ?_) | omega)
    · exact not_isLane hlt (by omega)
    · exact ⟨hlt, hl.succ hlt (by assumption) (fun _ => hc2)⟩
    · subst hc2
      exact ⟨hlt, hl.succ hlt (by assumption) (fun h => by omega)⟩
    · exact not_isLane hlt (by omega)
  · have : i = ps.length := by omega
    subst this
    repeat' (first | (simp (disch := first | omega | assumption | (simp only [List.length_set]; omega) | (simp [*] <;> fail) | assumption) [-Bool.decide_and, -Bool.decide_or, -Bool.not_and, -Bool.not_or, toNat_pred, toNat_succ, wrap64, wr_new, wr_new0, ok_if, ok_ifn, iadV_sl, makeV_int, decT, decF, over_at, *, hA.len, hA.at_, hA.at_', hA.rd, hA.rdIn, hA.rdIn0, hA.rdA, hA.rdInA, hA.rdIn0A]) | (with_reducible refine Gd_split (fun hc => ?_) (fun hc => ?_) <;> (have hc2 := hc; try simp at hc2)) | (with_reducible refine Br_split (fun hc => ?_) (fun hc => ?_) <;> (have hc2 := hc; try simp at hc2)) | (with_reducible refine GdT_split (fun hc => ?_) (fun hc => ?_) <;> (have hc2 := hc; try simp at hc2)) | (with_reducible refine WT_alt ?_ ?_) | omega)
    exact ⟨by omega, by omega, hl⟩
end
end Go.E
