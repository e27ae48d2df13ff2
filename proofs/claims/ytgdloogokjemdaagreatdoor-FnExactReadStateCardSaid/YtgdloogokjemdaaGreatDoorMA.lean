/- Small things: bounds, lanes. -/
import Derived.Test.YtgdloogokjemdaaGreatDoorEB
set_option linter.unusedVariables false
set_option linter.unusedSimpArgs false
namespace Go.E
open Go
def L57 : LFn := ⟨3, (.seq (.reg [⟨(.some 6), (.mv (.c (.lf (.bool false)))), none⟩])
 (.seq (.reg [⟨(.some 7), (.mv (.t 1)), none⟩, ⟨(.some 8), (.mv (.t 0)), none⟩, ⟨(.some 9), (.bin .leq (.t 7) (.t 8)), none⟩, ⟨(.some 10), (.mv (.t 9)), none⟩, ⟨(.some 11), (.mv (.t 0)), (.some (10, true))⟩, ⟨(.some 12), (.mv (.t 2)), (.some (10, true))⟩, ⟨(.some 13), (.bin .leq (.t 11) (.t 12)), (.some (10, true))⟩, ⟨(.some 14), (.pick (.t 10) (.t 13) (.c (.lf (.bool false)))), none⟩, ⟨(.some 6), (.mv (.t 14)), none⟩])
 .ret)), [(.tmp 6)]⟩
def L48 : LFn := ⟨3, (.seq (.reg [⟨(.some 6), (.mv (.c (.lf (.bool false)))), none⟩])
 (.seq (.reg [⟨(.some 7), (.mv (.t 0)), none⟩, ⟨(.some 8), (.mv (.t 1)), none⟩, ⟨(.some 9), (.bin .geq (.t 7) (.t 8)), none⟩, ⟨(.some 10), (.mv (.t 9)), none⟩, ⟨(.some 11), (.mv (.t 0)), (.some (10, true))⟩, ⟨(.some 12), (.mv (.t 2)), (.some (10, true))⟩, ⟨(.some 13), (.bin .leq (.t 11) (.t 12)), (.some (10, true))⟩, ⟨(.some 14), (.pick (.t 10) (.t 13) (.c (.lf (.bool false)))), none⟩, ⟨(.some 6), (.mv (.t 14)), none⟩])
 .ret)), [(.tmp 6)]⟩
class HasA (S : Sys) : Prop where
  f57 : S.fs 57 = some L57
  f48 : S.fs 48 = some L48
section
variable {S : Sys} {lim : Nat} {h : Hp} {K : CV → Hp → Prop} [HasA S]
@[simp] theorem c_within {x y z : Int} : CallT S true 57 [.lf (.int .i64 x), .lf (.int .i64 y), .lf (.int .i64 z)] h lim K = K (.lf (.bool (decide (y ≤ x ∧ x ≤ z)))) h := by
  refine CallT_pure (F := L57) (HasA.f57) rfl (by first | rfl | (split <;> rfl) | simp) ?_; unfold L57; dsimp only []
  repeat' (first | (simp (disch := first | omega | assumption | (simp only [List.length_set]; omega) | (simp [*] <;> fail) | assumption) [-Bool.decide_and, -Bool.decide_or, -Bool.not_and, -Bool.not_or, toNat_pred, toNat_succ, wrap64, wr_new, wr_new0, ok_if, ok_ifn, iadV_sl, makeV_int, decT, decF, over_at, *]) | (with_reducible refine Gd_split (fun hc => ?_) (fun hc => ?_) <;> (have hc2 := hc; try simp at hc2)) | (with_reducible refine Br_split (fun hc => ?_) (fun hc => ?_) <;> (have hc2 := hc; try simp at hc2)) | (with_reducible refine GdT_split (fun hc => ?_) (fun hc => ?_) <;> (have hc2 := hc; try simp at hc2)) | (with_reducible refine WT_alt ?_ ?_) | omega)
@[simp] theorem c_l00In {x y z : Int} : CallT S true 48 [.lf (.int .i64 x), .lf (.int .i64 y), .lf (.int .i64 z)] h lim K = K (.lf (.bool (decide (y ≤ x ∧ x ≤ z)))) h := by
  refine CallT_pure (F := L48) (HasA.f48) rfl (by first | rfl | (split <;> rfl) | simp) ?_; unfold L48; dsimp only []
  repeat' (first | (simp (disch := first | omega | assumption | (simp only [List.length_set]; omega) | (simp [*] <;> fail) | assumption) [-Bool.decide_and, -Bool.decide_or, -Bool.not_and, -Bool.not_or, toNat_pred, toNat_succ, wrap64, wr_new, wr_new0, ok_if, ok_ifn, iadV_sl, makeV_int, decT, decF, over_at, *]) | (with_reducible refine Gd_split (fun hc => ?_) (fun hc => ?_) <;> (have hc2 := hc; try simp at hc2)) | (with_reducible refine Br_split (fun hc => ?_) (fun hc => ?_) <;> (have hc2 := hc; try simp at hc2)) | (with_reducible refine GdT_split (fun hc => ?_) (fun hc => ?_) <;> (have hc2 := hc; try simp at hc2)) | (with_reducible refine WT_alt ?_ ?_) | omega)
end
end Go.E
