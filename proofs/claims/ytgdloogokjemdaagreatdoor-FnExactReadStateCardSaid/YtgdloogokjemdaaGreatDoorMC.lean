/- The laws' own helpers for points: copying, comparing, counting. -/
import Derived.Test.YtgdloogokjemdaaGreatDoorMB
import Derived.Test.YtgdloogokjemdaaGreatDoorEC
set_option linter.unusedVariables false
set_option linter.unusedSimpArgs false
namespace Go.E
open Go
def L47 : LFn := ⟨2, (.seq (.reg [⟨(.some 4), (.mv (.c (.lf (.bool false)))), none⟩])
 (.seq (.seq (.reg [⟨(.some 5), (.mv (.t 0)), none⟩, ⟨(.some 6), (.mv (.t 0)), none⟩, ⟨(.some 7), (.bin .neq (.t 5) (.t 6)), none⟩, ⟨(.some 8), (.mv (.t 7)), none⟩, ⟨(.some 9), (.mv (.t 1)), (.some (8, false))⟩, ⟨(.some 10), (.mv (.t 1)), (.some (8, false))⟩, ⟨(.some 11), (.bin .neq (.t 9) (.t 10)), (.some (8, false))⟩, ⟨(.some 12), (.pick (.t 8) (.c (.lf (.bool true))) (.t 11)), none⟩])
 (.cond (.t 12) (.seq (.reg [⟨(.some 13), (.mv (.t 0)), none⟩, ⟨(.some 14), (.mv (.t 0)), none⟩, ⟨(.some 15), (.bin .neq (.t 13) (.t 14)), none⟩, ⟨(.some 16), (.mv (.t 15)), none⟩, ⟨(.some 17), (.mv (.t 1)), (.some (16, true))⟩, ⟨(.some 18), (.mv (.t 1)), (.some (16, true))⟩, ⟨(.some 19), (.bin .neq (.t 17) (.t 18)), (.some (16, true))⟩, ⟨(.some 20), (.pick (.t 16) (.t 19) (.c (.lf (.bool false)))), none⟩, ⟨(.some 4), (.mv (.t 20)), none⟩])
 .ret) .skip))
 (.seq (.seq (.reg [⟨(.some 21), (.mv (.t 0)), none⟩, ⟨(.some 22), (.bin .eql (.t 21) (.c (.lf (.flt .f64 0)))), none⟩, ⟨(.some 23), (.mv (.t 22)), none⟩, ⟨(.some 24), (.mv (.t 1)), (.some (23, true))⟩, ⟨(.some 25), (.bin .eql (.t 24) (.c (.lf (.flt .f64 0)))), (.some (23, true))⟩, ⟨(.some 26), (.pick (.t 23) (.t 25) (.c (.lf (.bool false)))), none⟩])
 (.cond (.t 26) (.seq (.reg [⟨(.some 27), (.mv (.t 0)), none⟩, ⟨(.some 28), (.bin .quo (.c (.lf (.flt .f64 4607182418800017408))) (.t 27)), none⟩, ⟨(.some 29), (.bin .gtr (.t 28) (.c (.lf (.flt .f64 0)))), none⟩, ⟨(.some 30), (.mv (.t 1)), none⟩, ⟨(.some 31), (.bin .quo (.c (.lf (.flt .f64 4607182418800017408))) (.t 30)), none⟩, ⟨(.some 32), (.bin .gtr (.t 31) (.c (.lf (.flt .f64 0)))), none⟩, ⟨(.some 33), (.beq false (.t 29) (.t 32)), none⟩, ⟨(.some 4), (.mv (.t 33)), none⟩])
 .ret) .skip))
 (.seq (.reg [⟨(.some 34), (.mv (.t 0)), none⟩, ⟨(.some 35), (.mv (.t 1)), none⟩, ⟨(.some 36), (.bin .eql (.t 34) (.t 35)), none⟩, ⟨(.some 4), (.mv (.t 36)), none⟩])
 .ret)))), [(.tmp 4)]⟩
class HasSame (S : Sys) : Prop where
  f47 : S.fs 47 = some L47

class HasC (S : Sys) : Prop extends HasSame S where

section
variable {S : Sys} {lim : Nat} {h : Hp} {K : CV → Hp → Prop}
@[simp] theorem c_sameFloat [HasSame S] {x : Nat} : CallT S true 47 [.lf (.flt .f64 x), .lf (.flt .f64 x)] h lim K = K (.lf (.bool true)) h := by
  refine CallT_pure (F := L47) (HasSame.f47) rfl (by first | rfl | (split <;> rfl) | simp) ?_; unfold L47; dsimp only []
  cases hn : isNaN .f64 x
  · have h1 := fcmp_self hn
    repeat' (first | (simp (disch := first | omega | assumption | (simp only [List.length_set]; omega) | (simp [*] <;> fail) | assumption) [-Bool.decide_and, -Bool.decide_or, -Bool.not_and, -Bool.not_or, toNat_pred, toNat_succ, wrap64, wr_new, wr_new0, ok_if, ok_ifn, iadV_sl, makeV_int, decT, decF, over_at, *, fcmp_neq]) | (with_reducible refine Gd_split (fun hc => ?_) (fun hc => ?_) <;> (have hc2 := hc; try simp at hc2)) | (with_reducible refine Br_split (fun hc => ?_) (fun hc => ?_) <;> (have hc2 := hc; try simp at hc2)) | (with_reducible refine GdT_split (fun hc => ?_) (fun hc => ?_) <;> (have hc2 := hc; try simp at hc2)) | (with_reducible refine WT_alt ?_ ?_) | omega)
  · have h1 := fcmp_self_nan hn
    repeat' (first | (simp (disch := first | omega | assumption | (simp only [List.length_set]; omega) | (simp [*] <;> fail) | assumption) [-Bool.decide_and, -Bool.decide_or, -Bool.not_and, -Bool.not_or, toNat_pred, toNat_succ, wrap64, wr_new, wr_new0, ok_if, ok_ifn, iadV_sl, makeV_int, decT, decF, over_at, *, fcmp_neq]) | (with_reducible refine Gd_split (fun hc => ?_) (fun hc => ?_) <;> (have hc2 := hc; try simp at hc2)) | (with_reducible refine Br_split (fun hc => ?_) (fun hc => ?_) <;> (have hc2 := hc; try simp at hc2)) | (with_reducible refine GdT_split (fun hc => ?_) (fun hc => ?_) <;> (have hc2 := hc; try simp at hc2)) | (with_reducible refine WT_alt ?_ ?_) | omega)
variable [HasC S] {l : Lf} {ps : List Pt}
end
end Go.E
