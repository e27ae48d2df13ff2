/- Whether all numbers lie between two. -/
import Derived.Test.YtkabbddhdnddoaaMF
set_option linter.unusedVariables false
set_option linter.unusedSimpArgs false
namespace Go.E
open Go
def L41 : LFn := ⟨3, (.seq (.reg [⟨(.some 6), (.mv (.c (.lf (.bool false)))), none⟩])
 (.seq (.seq (.reg [⟨(.some 9), (.mv (.t 0)), none⟩, ⟨(.some 10), (.len (.t 9)), none⟩, ⟨(.some 11), (.mv (.c (.lf (.int .i64 0)))), none⟩])
 (.block 0 (.loop (.seq (.reg [⟨(.some 12), (.bin .lss (.t 11) (.t 10)), none⟩])
 (.seq (.cond (.t 12) .skip (.exit 0))
 (.seq (.block 1 (.seq (.reg [⟨(.some 13), (.iaddr 1 (.t 9) (.t 11)), none⟩, ⟨(.some 14), (.load false 1 (.t 13)), none⟩, ⟨(.some 8), (.mv (.t 14)), none⟩])
 (.seq (.reg [⟨(.some 15), (.mv (.t 8)), none⟩, ⟨(.some 16), (.mv (.t 1)), none⟩, ⟨(.some 17), (.mv (.t 2)), none⟩, ⟨(.some 18), (.call true 45 [(.t 15), (.t 16), (.t 17)]), none⟩, ⟨(.some 19), (.una .not (.t 18)), none⟩])
 (.cond (.t 19) (.seq (.reg [⟨(.some 6), (.mv (.c (.lf (.bool false)))), none⟩])
 .ret) .skip))))
 (.reg [⟨(.some 20), (.bin .add (.t 11) (.c (.lf (.int .i64 1)))), none⟩, ⟨(.some 11), (.mv (.t 20)), none⟩])))))))
 (.seq (.reg [⟨(.some 6), (.mv (.c (.lf (.bool true)))), none⟩])
 .ret))), [(.tmp 6)]⟩
class HasW (S : Sys) : Prop where
  f41 : S.fs 41 = some L41
/-- All are between p and q, up to the k-th. -/
def withinUpto (p q : Int) (xs : List Int) (k : Nat) : Prop := ∀ i (hi : i < xs.length), i < k → p ≤ xs[i] ∧ xs[i] ≤ q
theorem withinUpto.succ {p q : Int} {xs : List Int} {i : Nat} (h : withinUpto p q xs i) (hi : i < xs.length) (h1 : p ≤ xs[i] ∧ xs[i] ≤ q) : withinUpto p q xs (i + 1) := by
  intro j hj hlt
  by_cases e : j = i
  · subst e; exact h1
  · exact h j hj (by omega)
theorem withinUpto.zero {p q : Int} {xs : List Int} : withinUpto p q xs 0 := fun i _ h => by omega
def allIn (p q : Int) (xs : List Int) : Prop := withinUpto p q xs xs.length
noncomputable instance (p q : Int) (xs : List Int) : Decidable (allIn p q xs) := Classical.propDecidable _
theorem not_allIn {p q : Int} {xs : List Int} {i : Nat} (hi : i < xs.length) (h1 : ¬ (p ≤ xs[i] ∧ xs[i] ≤ q)) : ¬ allIn p q xs := fun h => h1 (h i hi hi)
section
variable {S : Sys} {lim : Nat} {h : Hp} {K : CV → Hp → Prop} {l : Lf} {xs : List Int}
theorem c_allWithin [HasW S] [HasA S] {p q : Int} (hA : Arr h l 1 (xs.map il)) : CallT S true 41 [.lf l, .lf (.int .i64 p), .lf (.int .i64 q)] h lim K = K (.lf (.bool (decide (allIn p q xs)))) h := by
  have hb := hA.bound
  refine CallT_pure (F := L41) (HasW.f41) rfl (by first | rfl | (split <;> rfl) | simp) ?_; unfold L41; dsimp only []
  repeat' (first | (simp (disch := first | omega | assumption | (simp only [List.length_set]; omega) | (simp [*] <;> fail) | assumption) [-Bool.decide_and, -Bool.decide_or, -Bool.not_and, -Bool.not_or, toNat_pred, toNat_succ, wrap64, wr_new, wr_new0, ok_if, ok_ifn, iadV_sl, makeV_int, decT, decF, over_at, *, hA.len, hA.at_, hA.at_', hA.rd, hA.rdIn, hA.rdIn0, hA.rdA, hA.rdInA, hA.rdIn0A]) | (with_reducible refine Gd_split (fun hc => ?_) (fun hc => ?_) <;> (have hc2 := hc; try simp at hc2)) | (with_reducible refine Br_split (fun hc => ?_) (fun hc => ?_) <;> (have hc2 := hc; try simp at hc2)) | (with_reducible refine GdT_split (fun hc => ?_) (fun hc => ?_) <;> (have hc2 := hc; try simp at hc2)) | (with_reducible refine WT_alt ?_ ?_) | omega)
  refine WL_for xs.length (fun i a' h' => i ≤ xs.length ∧ a' 1 = .lf (.int .i64 p) ∧ a' 2 = .lf (.int .i64 q) ∧ a' 9 = .lf l ∧ a' 10 = .lf (.int .i64 xs.length) ∧ a' 11 = .lf (.int .i64 i) ∧ h' = h ∧ withinUpto p q xs i) (fun i a' h' hi => hi.1) ?_ (by simp [withinUpto.zero])
  rintro i a' h' ⟨hi, e1, e2, e9, e10, e11, rfl, hl⟩
  by_cases hlt : i < xs.length
  · repeat' (first | (simp (disch := first | omega | assumption | (simp only [List.length_set]; omega) | (simp [*] <;> fail) | assumption) [-Bool.decide_and, -Bool.decide_or, -Bool.not_and, -Bool.not_or, toNat_pred, toNat_succ, wrap64, wr_new, wr_new0, ok_if, ok_ifn, iadV_sl, makeV_int, decT, decF, over_at, *, hA.len, hA.at_, hA.at_', hA.rd, hA.rdIn, hA.rdIn0, hA.rdA, hA.rdInA, hA.rdIn0A, hA.rd1, il]) | (with_reducible refine Gd_split (fun hc => ?_) (fun hc => ?_) <;> (have hc2 := hc; try simp at hc2)) | (with_reducible refine Br_split (fun hc => ?_) (fun hc => ?_) <;> (have hc2 := hc; try simp at hc2)) | (with_reducible refine GdT_split (fun hc => ?_) (fun hc => ?_) <;> (have hc2 := hc; try simp at hc2)) | (with_reducible refine WT_alt ?_ ?_) | omega)
    · exact not_allIn hlt (by omega)
    · exact ⟨hlt, hl.succ hlt (by omega)⟩
  · have : i = xs.length := by omega
    subst this
    repeat' (first | (simp (disch := first | omega | assumption | (simp only [List.length_set]; omega) | (simp [*] <;> fail) | assumption) [-Bool.decide_and, -Bool.decide_or, -Bool.not_and, -Bool.not_or, toNat_pred, toNat_succ, wrap64, wr_new, wr_new0, ok_if, ok_ifn, iadV_sl, makeV_int, decT, decF, over_at, *, hA.len, hA.at_, hA.at_', hA.rd, hA.rdIn, hA.rdIn0, hA.rdA, hA.rdInA, hA.rdIn0A]) | (with_reducible refine Gd_split (fun hc => ?_) (fun hc => ?_) <;> (have hc2 := hc; try simp at hc2)) | (with_reducible refine Br_split (fun hc => ?_) (fun hc => ?_) <;> (have hc2 := hc; try simp at hc2)) | (with_reducible refine GdT_split (fun hc => ?_) (fun hc => ?_) <;> (have hc2 := hc; try simp at hc2)) | (with_reducible refine WT_alt ?_ ?_) | omega)
    exact hl
end
end Go.E
