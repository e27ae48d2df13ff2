/- A slice of zeros. -/
import Derived.Test.YtgdloogokjemdaaGreatDoorMF
set_option linter.unusedVariables false
set_option linter.unusedSimpArgs false
namespace Go.E
open Go
def L62 : LFn := ⟨1, (.seq (.reg [⟨(.some 2), (.mv (.c (.lf .nils))), none⟩])
 (.seq (.reg [⟨(.some 3), (.mv (.t 0)), none⟩, ⟨(.some 4), (.make 51 1 4 [(.flt .f32 0)] (.t 3) (.t 3)), none⟩, ⟨(.some 2), (.mv (.t 4)), none⟩])
 .ret)), [(.tmp 2)]⟩
class HasN (S : Sys) : Prop where
  f62 : S.fs 62 = some L62
section
variable {S : Sys} {lim : Nat} {h : Hp} {K : CV → Hp → Prop} [HasN S]
theorem c_zeros {n : Nat} (hn : n ≤ 16777216) (hl : lim ≤ h.length) (hK : ∀ l' g, New h g l' 51 1 ((List.replicate n 0).map fl) → K (.lf l') g) : CallT S false 62 [.lf (.int .i64 n)] h lim K := by
  refine CallT_of_body (F := L62) (HasN.f62) rfl ?_; unfold L62; dsimp only []
  repeat' (first | (simp (disch := first | omega | assumption | (simp only [List.length_set]; omega) | (simp [*] <;> fail) | assumption) [-Bool.decide_and, -Bool.decide_or, -Bool.not_and, -Bool.not_or, toNat_pred, toNat_succ, wrap64, wr_new, wr_new0, ok_if, ok_ifn, iadV_sl, makeV_int, decT, decF, over_at, *]) | (with_reducible refine Gd_split (fun hc => ?_) (fun hc => ?_) <;> (have hc2 := hc; try simp at hc2)) | (with_reducible refine Br_split (fun hc => ?_) (fun hc => ?_) <;> (have hc2 := hc; try simp at hc2)) | (with_reducible refine GdT_split (fun hc => ?_) (fun hc => ?_) <;> (have hc2 := hc; try simp at hc2)) | (with_reducible refine WT_alt ?_ ?_) | omega)
  refine hK _ _ ?_
  have := New.of_sl (Kept.app h _) (Sl.make (h := h) (ty := 51) (sz := 1) (n := n) (z := [.flt .f32 0]) rfl) (Nat.le_refl _) (by simp; omega)
  simpa [fl] using this
end
end Go.E
