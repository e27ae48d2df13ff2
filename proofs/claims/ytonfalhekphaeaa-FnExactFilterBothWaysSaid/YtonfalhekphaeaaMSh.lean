/- A quotient of two integers. -/
import Derived.Test.YtonfalhekphaeaaMA
import Derived.Test.YtonfalhekphaeaaEH
set_option linter.unusedVariables false
set_option linter.unusedSimpArgs false
namespace Go.E
open Go
def L134 : LFn := ⟨2, (.seq (.reg [⟨(.some 4), (.mv (.c (.lf (.flt .f32 0)))), none⟩])
 (.seq (.reg [⟨(.some 5), (.mv (.t 0)), none⟩, ⟨(.some 6), (.toflt .f32 (.t 5)), none⟩, ⟨(.some 7), (.mv (.t 1)), none⟩, ⟨(.some 8), (.toflt .f32 (.t 7)), none⟩, ⟨(.some 9), (.bin .quo (.t 6) (.t 8)), none⟩, ⟨(.some 4), (.mv (.t 9)), none⟩])
 .ret)), [(.tmp 4)]⟩
class HasShr (S : Sys) : Prop where
  f134 : S.fs 134 = some L134
def shareF (x y : Int) : Nat := fbin .quo .f32 (fofint .f32 x) (fofint .f32 y)
section
variable {S : Sys} {lim : Nat} {h : Hp} {K : CV → Hp → Prop} [HasShr S]
@[simp] theorem c_share {x y : Int} : CallT S true 134 [.lf (.int .i64 x), .lf (.int .i64 y)] h lim K = K (.lf (.flt .f32 (shareF x y))) h := by
  refine CallT_pure (F := L134) (HasShr.f134) rfl (by first | rfl | (split <;> rfl) | simp) ?_; unfold L134; dsimp only []
  repeat' (first | (simp (disch := first | omega | assumption | (simp only [List.length_set]; omega) | (simp [*] <;> fail) | assumption) [-Bool.decide_and, -Bool.decide_or, -Bool.not_and, -Bool.not_or, toNat_pred, toNat_succ, wrap64, wr_new, wr_new0, ok_if, ok_ifn, iadV_sl, makeV_int, decT, decF, over_at, *, shareF]) | (with_reducible refine Gd_split (fun hc => ?_) (fun hc => ?_) <;> (have hc2 := hc; try simp at hc2)) | (with_reducible refine Br_split (fun hc => ?_) (fun hc => ?_) <;> (have hc2 := hc; try simp at hc2)) | (with_reducible refine GdT_split (fun hc => ?_) (fun hc => ?_) <;> (have hc2 := hc; try simp at hc2)) | (with_reducible refine WT_alt ?_ ?_) | omega)
end
end Go.E
