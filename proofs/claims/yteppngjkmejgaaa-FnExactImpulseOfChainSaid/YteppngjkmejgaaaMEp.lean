/- Sizes of numbers: what the reference's look at the sign finds. Plain lemmas; no condition. -/
import Derived.Test.YteppngjkmejgaaaMEa
set_option linter.unusedVariables false
set_option linter.unusedSimpArgs false
namespace Go.E
open Go Ieee
theorem fneg_top {x : Nat} (h1 : 2147483648 ≤ x) (h2 : x < 4294967296) (hn : isNaN .f32 x = false) : fneg .f32 x = fabs x := by
  have hv : fneg .f32 x = x ^^^ 2 ^ 31 := by unfold fneg; rw [hn]; rfl
  have hm : (x ^^^ 2 ^ 31) % 2 ^ 31 = x % 2 ^ 31 := by rw [Nat.xor_mod_two_pow, Nat.mod_self, Nat.xor_zero]
  have hd : (x ^^^ 2 ^ 31) / 2 ^ 31 = 0 := by
    rw [Nat.xor_div_two_pow]
    have : x / 2 ^ 31 = 1 := by omega
    rw [this]; decide
  unfold fabs
  rw [hv, hn]
  simp only [Bool.false_eq_true, if_false]
  omega
theorem fabs_low {x : Nat} (hx : CF x) (h : x < 2147483648) : fabs x = x := by
  unfold fabs
  cases hn : isNaN .f32 x
  · simp only [Bool.false_eq_true, if_false]; omega
  · rw [hx.nan hn]; decide +kernel
theorem V_0 : V 0 = 0 := by show valOf single 0 = 0; decide +kernel
theorem lss_0 {x : Nat} (hx : CF x) : fcmp .lss .f32 x 0 = decide (2147483648 < x) := by
  cases hn : isNaN .f32 x
  · have h0 : isNaN .f32 0 = false := by decide +kernel
    rw [lss32 hn h0, V_0]
    congr 1
    rcases Nat.lt_or_ge x 2147483648 with h | h
    · rw [V_pos h]
      apply propext
      omega
    · rw [V_neg h hx.1]
      have := magOf_eq_zero (f := single) (r := x - 2147483648)
      apply propext
      constructor
      · intro q
        rcases Nat.eq_zero_or_pos (x - 2147483648) with e | e
        · rw [this.2 e] at q; simp at q
        · omega
      · intro q
        have : magOf single (x - 2147483648) ≠ 0 := fun e => by have := this.1 e; omega
        omega
  · rw [hx.nan hn]; decide +kernel
theorem not_nan_top {x : Nat} (hx : CF x) (h : 2147483648 ≤ x) : isNaN .f32 x = false := by
  cases hn : isNaN .f32 x
  · rfl
  · rw [hx.nan hn] at h; omega
/-- The reference's size is the absolute value. -/
theorem size_abs {x : Nat} (hx : CF x) : (if (fcmp .lss .f32 x 0 = true ∨ (x : Int) = 2147483648) then fneg .f32 x else x) = fabs x := by
  rw [lss_0 hx]
  split
  · rename_i h
    have h1 : 2147483648 ≤ x := by
      rcases h with h | h
      · have := of_decide_eq_true h; omega
      · omega
    exact fneg_top h1 hx.1 (not_nan_top hx h1)
  · rename_i h
    refine (fabs_low hx ?_).symm
    have h1 : ¬ 2147483648 < x := fun q => h (.inl (decide_eq_true q))
    have h2 : ¬ (x : Int) = 2147483648 := fun q => h (.inr q)
    omega
end Go.E
