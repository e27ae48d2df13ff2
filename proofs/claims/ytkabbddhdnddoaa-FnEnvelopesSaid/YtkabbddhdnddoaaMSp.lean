/- The sine of turns, the reference's side. -/
import Derived.Test.YtkabbddhdnddoaaMSi
set_option linter.unusedVariables false
set_option linter.unusedSimpArgs false
set_option exponentiation.threshold 3000
namespace Go.E
open Go
def nearW (x : Nat) : Nat := if fcmp .geq .f64 (sineR x) halfD = true then fneg .f64 (valD (sineR x)) else valD (sineR x)
section
variable {S : Sys} {lim : Nat} {h : Hp} {K : CV → Hp → Prop} [HasSi S]
theorem dvN_int {i : Nat} (h : i < 8) : (2 * (8 - (i : Int))) * (2 * (8 - (i : Int)) + 1) = dvN (8 - (i : Int)) ∧ IntKind.wrap .i64 (2 * (8 - (i : Int))) = 2 * (8 - (i : Int)) ∧ 1 ≤ dvN (8 - (i : Int)) ∧ dvN (8 - (i : Int)) ≤ 300 := by
  rcases eight h with rfl | rfl | rfl | rfl | rfl | rfl | rfl | rfl <;> decide +kernel
set_option maxRecDepth 20000 in
set_option maxHeartbeats 4000000 in
end
end Go.E
