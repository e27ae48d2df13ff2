/- An octave doubles the step of a pitch, up to the law's share. Plain facts, by reckoning. -/
import Derived.Test.YtkabbddhdnddoaaMEx
import Derived.Test.YtkabbddhdnddoaaMWa
set_option linter.unusedVariables false
set_option linter.unusedSimpArgs false
set_option exponentiation.threshold 3000
namespace Go.E
open Go Ieee
def gapB (x y : Nat) : Nat := if fcmp .lss .f64 x y = true then fbin .sub .f64 y x else fbin .sub .f64 x y
def octB (p : Nat) : Bool := fcmp .gtr .f32 (step32 p) 0 && fcmp .lss .f64 (gapB (fbin .quo .f64 (wid (step32 (p + 12))) (wid (step32 p))) 4611686018427387904) 4547007122018943789
theorem oct_0 : ∀ p : Nat, p < 20 → octB p = true := by decide +kernel
theorem oct_1 : ∀ p : Nat, p < 20 → octB (20 + p) = true := by decide +kernel
theorem oct_2 : ∀ p : Nat, p < 20 → octB (40 + p) = true := by decide +kernel
theorem oct_3 : ∀ p : Nat, p < 20 → octB (60 + p) = true := by decide +kernel
theorem oct_4 : ∀ p : Nat, p < 20 → octB (80 + p) = true := by decide +kernel
theorem oct_all {p : Nat} (h : p < 100) : octB p = true := by
  rcases Nat.lt_or_ge p 20 with q | q
  · exact oct_0 p q
  rcases Nat.lt_or_ge p 40 with q2 | q2
  · have := oct_1 (p - 20) (by omega); rwa [show 20 + (p - 20) = p by omega] at this
  rcases Nat.lt_or_ge p 60 with q3 | q3
  · have := oct_2 (p - 40) (by omega); rwa [show 40 + (p - 40) = p by omega] at this
  rcases Nat.lt_or_ge p 80 with q4 | q4
  · have := oct_3 (p - 60) (by omega); rwa [show 60 + (p - 60) = p by omega] at this
  · have := oct_4 (p - 80) (by omega); rwa [show 80 + (p - 80) = p by omega] at this
theorem oct_parts {p : Nat} (h : p < 100) : fcmp .gtr .f32 (step32 p) 0 = true ∧ fcmp .lss .f64 (gapB (fbin .quo .f64 (wid (step32 ((p : Int) + 12))) (wid (step32 p))) 4611686018427387904) 4547007122018943789 = true := by
  have := oct_all h
  unfold octB at this
  rw [Bool.and_eq_true] at this
  exact this
end Go.E
