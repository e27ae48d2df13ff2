/- Numbers times a factor. -/
import Derived.Test.YteppngjkmejgaaaMH
set_option linter.unusedVariables false
set_option linter.unusedSimpArgs false
namespace Go.E
open Go
def L63 : LFn := ⟨2, (.seq (.reg [⟨(.some 4), (.mv (.c (.lf .nils))), none⟩])
 (.seq (.reg [⟨(.some 5), (.mv (.c (.lf .nils))), none⟩])
 (.seq (.seq (.reg [⟨(.some 8), (.mv (.t 0)), none⟩, ⟨(.some 9), (.len (.t 8)), none⟩, ⟨(.some 10), (.mv (.c (.lf (.int .i64 0)))), none⟩])
 (.block 0 (.loop (.seq (.reg [⟨(.some 11), (.bin .lss (.t 10) (.t 9)), none⟩])
 (.seq (.cond (.t 11) .skip (.exit 0))
 (.seq (.block 1 (.seq (.reg [⟨(.some 12), (.iaddr 1 (.t 8) (.t 10)), none⟩, ⟨(.some 13), (.load false 1 (.t 12)), none⟩, ⟨(.some 7), (.mv (.t 13)), none⟩])
 (.reg [⟨(.some 14), (.mv (.t 5)), none⟩, ⟨(.some 15), (.mv (.t 7)), none⟩, ⟨(.some 16), (.mv (.t 1)), none⟩, ⟨(.some 17), (.bin .mul (.t 15) (.t 16)), none⟩, ⟨(.some 18), (.lit 50 1 1 [(.flt .f32 0)] [(0, (1, (.t 17)))]), none⟩, ⟨(.some 19), (.app 50 1 4 (.t 14) (.t 18)), none⟩, ⟨(.some 5), (.mv (.t 19)), none⟩])))
 (.reg [⟨(.some 20), (.bin .add (.t 10) (.c (.lf (.int .i64 1)))), none⟩, ⟨(.some 10), (.mv (.t 20)), none⟩])))))))
 (.seq (.reg [⟨(.some 21), (.mv (.t 5)), none⟩, ⟨(.some 4), (.mv (.t 21)), none⟩])
 .ret)))), [(.tmp 4)]⟩
class HasSc (S : Sys) : Prop where
  f63 : S.fs 63 = some L63
def scl (y x : Nat) : Nat := fbin .mul .f32 x y
section
variable {S : Sys} {lim : Nat} {h : Hp} {K : CV → Hp → Prop} {l : Lf} {xs : List Nat}
theorem c_scaled [HasSc S] {y : Nat} (hA : Arr h l 1 (xs.map fl)) (hn : xs.length ≤ 100000) (hl : lim ≤ h.length) (hK : ∀ o g, New h g o 50 1 ((xs.map (scl y)).map fl) → K (.lf o) g) : CallT S false 63 [.lf l, .lf (.flt .f32 y)] h lim K := by
  refine CallT_of_body (F := L63) (HasSc.f63) rfl ?_; unfold L63; dsimp only []
  repeat' (first | (simp (disch := first | omega | assumption | (simp only [List.length_set]; omega) | (simp [*] <;> fail) | assumption) [-Bool.decide_and, -Bool.decide_or, -Bool.not_and, -Bool.not_or, toNat_pred, toNat_succ, wrap64, wr_new, wr_new0, ok_if, ok_ifn, iadV_sl, makeV_int, decT, decF, over_at, *, hA.len]) | (with_reducible refine Gd_split (fun hc => ?_) (fun hc => ?_) <;> (have hc2 := hc; try simp at hc2)) | (with_reducible refine Br_split (fun hc => ?_) (fun hc => ?_) <;> (have hc2 := hc; try simp at hc2)) | (with_reducible refine GdT_split (fun hc => ?_) (fun hc => ?_) <;> (have hc2 := hc; try simp at hc2)) | (with_reducible refine WT_alt ?_ ?_) | omega)
  refine WL_forM 2096288 (by decide +kernel) (xs.length) (fun i b g => i ≤ xs.length ∧ b 10 = .lf (.int .i64 i) ∧ ∃ o, b 5 = .lf o ∧ New h g o 50 1 ((mapTo (scl y) xs i).map fl)) (fun _ _ _ hi => hi.1) ⟨by simp, by simp, .nils, by simp, by simpa using New.nil (Kept.refl h)⟩ ?_
  rintro i b g ⟨hi, e10, o, e5, hN⟩
  have hl1 := mapTo_len (f := scl y) (xs := xs) (i := i)
  have hA1 := hA.kept hN.kept
  by_cases hlt : i < xs.length
  · have s1 := mapTo_fl (f := scl y) hlt
    clear hK
    repeat' (first | (simp (disch := first | omega | assumption | (simp only [List.length_set]; omega) | (simp [*] <;> fail) | assumption) [-Bool.decide_and, -Bool.decide_or, -Bool.not_and, -Bool.not_or, toNat_pred, toNat_succ, wrap64, wr_new, wr_new0, ok_if, ok_ifn, iadV_sl, makeV_int, decT, decF, over_at, *, hA1.len, hA1.at_, hA1.at_', hA1.rd, hA1.rdIn, hA1.rdIn0, hA1.rdA, hA1.rdInA, hA1.rdIn0A, hA1.rd1, fl, leavesAll, fillL]) | (with_reducible refine Gd_split (fun hc => ?_) (fun hc => ?_) <;> (have hc2 := hc; try simp at hc2)) | (with_reducible refine Br_split (fun hc => ?_) (fun hc => ?_) <;> (have hc2 := hc; try simp at hc2)) | (with_reducible refine GdT_split (fun hc => ?_) (fun hc => ?_) <;> (have hc2 := hc; try simp at hc2)) | (with_reducible refine WT_alt ?_ ?_) | omega)
    refine oc_push hN hl (by simp; omega) fun p g1 hP hC => ?_
    simp only [scl] at hP s1
    rw [← s1] at hP
    clear s1
    repeat' (first | (simp (disch := first | omega | assumption | (simp only [List.length_set]; omega) | (simp [*] <;> fail) | assumption) [-Bool.decide_and, -Bool.decide_or, -Bool.not_and, -Bool.not_or, toNat_pred, toNat_succ, wrap64, wr_new, wr_new0, ok_if, ok_ifn, iadV_sl, makeV_int, decT, decF, over_at, *]) | (with_reducible refine Gd_split (fun hc => ?_) (fun hc => ?_) <;> (have hc2 := hc; try simp at hc2)) | (with_reducible refine Br_split (fun hc => ?_) (fun hc => ?_) <;> (have hc2 := hc; try simp at hc2)) | (with_reducible refine GdT_split (fun hc => ?_) (fun hc => ?_) <;> (have hc2 := hc; try simp at hc2)) | (with_reducible refine WT_alt ?_ ?_) | omega)
    all_goals ((repeat' apply And.intro) <;> first | omega | assumption)
  · have e : i = xs.length := by omega
    subst e
    rw [mapTo_all] at hN
    repeat' (first | (simp (disch := first | omega | assumption | (simp only [List.length_set]; omega) | (simp [*] <;> fail) | assumption) [-Bool.decide_and, -Bool.decide_or, -Bool.not_and, -Bool.not_or, toNat_pred, toNat_succ, wrap64, wr_new, wr_new0, ok_if, ok_ifn, iadV_sl, makeV_int, decT, decF, over_at, *]) | (with_reducible refine Gd_split (fun hc => ?_) (fun hc => ?_) <;> (have hc2 := hc; try simp at hc2)) | (with_reducible refine Br_split (fun hc => ?_) (fun hc => ?_) <;> (have hc2 := hc; try simp at hc2)) | (with_reducible refine GdT_split (fun hc => ?_) (fun hc => ?_) <;> (have hc2 := hc; try simp at hc2)) | (with_reducible refine WT_alt ?_ ?_) | omega)
end
end Go.E
