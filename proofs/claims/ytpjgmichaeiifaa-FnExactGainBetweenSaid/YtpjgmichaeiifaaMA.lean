/- Small things: bounds, lanes. -/
import Derived.Test.YtpjgmichaeiifaaEB
set_option linter.unusedVariables false
set_option linter.unusedSimpArgs false
namespace Go.E
open Go
def L127 : LFn := ⟨3, (.seq (.reg [⟨(.some 6), (.mv (.c (.lf (.bool false)))), none⟩])
 (.seq (.reg [⟨(.some 7), (.mv (.t 1)), none⟩, ⟨(.some 8), (.mv (.t 0)), none⟩, ⟨(.some 9), (.bin .leq (.t 7) (.t 8)), none⟩, ⟨(.some 10), (.mv (.t 9)), none⟩, ⟨(.some 11), (.mv (.t 0)), (.some (10, true))⟩, ⟨(.some 12), (.mv (.t 2)), (.some (10, true))⟩, ⟨(.some 13), (.bin .leq (.t 11) (.t 12)), (.some (10, true))⟩, ⟨(.some 14), (.pick (.t 10) (.t 13) (.c (.lf (.bool false)))), none⟩, ⟨(.some 6), (.mv (.t 14)), none⟩])
 .ret)), [(.tmp 6)]⟩
def L76 : LFn := ⟨1, (.seq (.reg [⟨(.some 2), (.mv (.c (.lf (.int .i64 0)))), none⟩])
 (.seq (.reg [⟨(.some 3), (.mv (.t 0)), none⟩, ⟨(.some 2), (.mv (.t 3)), none⟩])
 .ret)), [(.tmp 2)]⟩
def L90 : LFn := ⟨1, (.seq (.reg [⟨(.some 2), (.mv (.c (.lf (.bool false)))), none⟩])
 (.seq (.reg [⟨(.some 3), (.mv (.t 0)), none⟩, ⟨(.some 4), (.call true 127 [(.t 3), (.c (.lf (.int .i64 0))), (.c (.lf (.int .i64 100000)))]), none⟩, ⟨(.some 2), (.mv (.t 4)), none⟩])
 .ret)), [(.tmp 2)]⟩
def L86 : LFn := ⟨3, (.seq (.reg [⟨(.some 6), (.mv (.c (.lf (.bool false)))), none⟩])
 (.seq (.reg [⟨(.some 7), (.mv (.t 0)), none⟩, ⟨(.some 8), (.mv (.t 1)), none⟩, ⟨(.some 9), (.bin .geq (.t 7) (.t 8)), none⟩, ⟨(.some 10), (.mv (.t 9)), none⟩, ⟨(.some 11), (.mv (.t 0)), (.some (10, true))⟩, ⟨(.some 12), (.mv (.t 2)), (.some (10, true))⟩, ⟨(.some 13), (.bin .leq (.t 11) (.t 12)), (.some (10, true))⟩, ⟨(.some 14), (.pick (.t 10) (.t 13) (.c (.lf (.bool false)))), none⟩, ⟨(.some 6), (.mv (.t 14)), none⟩])
 .ret)), [(.tmp 6)]⟩
class HasA (S : Sys) : Prop where
  f127 : S.fs 127 = some L127
  f76 : S.fs 76 = some L76
  f90 : S.fs 90 = some L90
  f86 : S.fs 86 = some L86
section
variable {S : Sys} {lim : Nat} {h : Hp} {K : CV → Hp → Prop} [HasA S]
@[simp] theorem c_within {x y z : Int} : CallT S true 127 [.lf (.int .i64 x), .lf (.int .i64 y), .lf (.int .i64 z)] h lim K = K (.lf (.bool (decide (y ≤ x ∧ x ≤ z)))) h := by
  refine CallT_pure (F := L127) (HasA.f127) rfl (by first | rfl | (split <;> rfl) | simp) ?_; unfold L127; dsimp only []
  repeat' (first | (simp (disch := first | omega | assumption | (simp only [List.length_set]; omega) | (simp [*] <;> fail) | assumption) [-Bool.decide_and, -Bool.decide_or, -Bool.not_and, -Bool.not_or, toNat_pred, toNat_succ, wrap64, wr_new, wr_new0, ok_if, ok_ifn, iadV_sl, makeV_int, decT, decF, over_at, *]) | (with_reducible refine Gd_split (fun hc => ?_) (fun hc => ?_) <;> (have hc2 := hc; try simp at hc2)) | (with_reducible refine Br_split (fun hc => ?_) (fun hc => ?_) <;> (have hc2 := hc; try simp at hc2)) | (with_reducible refine GdT_split (fun hc => ?_) (fun hc => ?_) <;> (have hc2 := hc; try simp at hc2)) | (with_reducible refine WT_alt ?_ ?_) | omega)
@[simp] theorem c_l00In {x y z : Int} : CallT S true 86 [.lf (.int .i64 x), .lf (.int .i64 y), .lf (.int .i64 z)] h lim K = K (.lf (.bool (decide (y ≤ x ∧ x ≤ z)))) h := by
  refine CallT_pure (F := L86) (HasA.f86) rfl (by first | rfl | (split <;> rfl) | simp) ?_; unfold L86; dsimp only []
  repeat' (first | (simp (disch := first | omega | assumption | (simp only [List.length_set]; omega) | (simp [*] <;> fail) | assumption) [-Bool.decide_and, -Bool.decide_or, -Bool.not_and, -Bool.not_or, toNat_pred, toNat_succ, wrap64, wr_new, wr_new0, ok_if, ok_ifn, iadV_sl, makeV_int, decT, decF, over_at, *]) | (with_reducible refine Gd_split (fun hc => ?_) (fun hc => ?_) <;> (have hc2 := hc; try simp at hc2)) | (with_reducible refine Br_split (fun hc => ?_) (fun hc => ?_) <;> (have hc2 := hc; try simp at hc2)) | (with_reducible refine GdT_split (fun hc => ?_) (fun hc => ?_) <;> (have hc2 := hc; try simp at hc2)) | (with_reducible refine WT_alt ?_ ?_) | omega)
@[simp] theorem c_size {x : Int} : CallT S true 76 [.lf (.int .i64 x)] h lim K = K (.lf (.int .i64 x)) h := by
  refine CallT_pure (F := L76) (HasA.f76) rfl (by first | rfl | (split <;> rfl) | simp) ?_; unfold L76; dsimp only []
  repeat' (first | (simp (disch := first | omega | assumption | (simp only [List.length_set]; omega) | (simp [*] <;> fail) | assumption) [-Bool.decide_and, -Bool.decide_or, -Bool.not_and, -Bool.not_or, toNat_pred, toNat_succ, wrap64, wr_new, wr_new0, ok_if, ok_ifn, iadV_sl, makeV_int, decT, decF, over_at, *]) | (with_reducible refine Gd_split (fun hc => ?_) (fun hc => ?_) <;> (have hc2 := hc; try simp at hc2)) | (with_reducible refine Br_split (fun hc => ?_) (fun hc => ?_) <;> (have hc2 := hc; try simp at hc2)) | (with_reducible refine GdT_split (fun hc => ?_) (fun hc => ?_) <;> (have hc2 := hc; try simp at hc2)) | (with_reducible refine WT_alt ?_ ?_) | omega)
@[simp] theorem c_isPlace {x : Int} : CallT S true 90 [.lf (.int .i64 x)] h lim K = K (.lf (.bool (decide (0 ≤ x ∧ x ≤ 100000)))) h := by
  refine CallT_pure (F := L90) (HasA.f90) rfl (by first | rfl | (split <;> rfl) | simp) ?_; unfold L90; dsimp only []
  repeat' (first | (simp (disch := first | omega | assumption | (simp only [List.length_set]; omega) | (simp [*] <;> fail) | assumption) [-Bool.decide_and, -Bool.decide_or, -Bool.not_and, -Bool.not_or, toNat_pred, toNat_succ, wrap64, wr_new, wr_new0, ok_if, ok_ifn, iadV_sl, makeV_int, decT, decF, over_at, *]) | (with_reducible refine Gd_split (fun hc => ?_) (fun hc => ?_) <;> (have hc2 := hc; try simp at hc2)) | (with_reducible refine Br_split (fun hc => ?_) (fun hc => ?_) <;> (have hc2 := hc; try simp at hc2)) | (with_reducible refine GdT_split (fun hc => ?_) (fun hc => ?_) <;> (have hc2 := hc; try simp at hc2)) | (with_reducible refine WT_alt ?_ ?_) | omega)
end
end Go.E
