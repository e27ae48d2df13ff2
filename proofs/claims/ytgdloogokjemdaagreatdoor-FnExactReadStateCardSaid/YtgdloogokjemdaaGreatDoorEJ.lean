/- Facts of floats: how two stand to each other, by whole numbers. Plain theorems on the model's floats; no condition. -/
import Derived.Test.YtgdloogokjemdaaGreatDoorEI
set_option linter.unusedVariables false
set_option linter.unusedSimpArgs false
namespace Go.E
open Go Ieee

/-- The size of a rung, in units of the least place. -/
def magOf (f : Format) (r : Nat) : Nat := if r < f.binade then r else (f.binade + r % f.binade) * 2 ^ (r / f.binade - 1)
def negOf (f : Format) (x : Nat) : Bool := x / f.signWeight % 2 == 1
/-- The value of a float, in units of the least place (an infinity's is greater than all others). -/
def valOf (f : Format) (x : Nat) : Int := if negOf f x then -(magOf f (x % f.signWeight) : Int) else (magOf f (x % f.signWeight) : Int)
theorem binade_pos (f : Format) : 0 < f.binade := Nat.two_pow_pos _
theorem magOf_lt {f : Format} {r1 r2 : Nat} (h : r1 < r2) : magOf f r1 < magOf f r2 := by
  have hb := binade_pos f
  unfold magOf
  generalize f.binade = b at hb
  have d1 := Nat.div_add_mod r1 b
  have d2 := Nat.div_add_mod r2 b
  have m1 := Nat.mod_lt r1 hb
  have m2 := Nat.mod_lt r2 hb
  split
  · split
    · exact h
    · have : 1 ≤ 2 ^ (r2 / b - 1) := Nat.one_le_two_pow
      calc r1 < b := by assumption
        _ ≤ (b + r2 % b) * 1 := by omega
        _ ≤ _ := Nat.mul_le_mul_left _ this
  · have hr2 : ¬ r2 < b := by omega
    rw [if_neg hr2]
    have q1 : 1 ≤ r1 / b := (Nat.one_le_div_iff hb).2 (by omega)
    have q2 : r1 / b ≤ r2 / b := Nat.div_le_div_right (by omega)
    rcases Nat.lt_or_ge (r1 / b) (r2 / b) with hq | hq
    · have e : r2 / b - 1 = (r1 / b - 1) + 1 + (r2 / b - 1 - r1 / b) := by omega
      rw [e, Nat.pow_add, Nat.pow_succ]
      have h1 : 1 ≤ 2 ^ (r2 / b - 1 - r1 / b) := Nat.one_le_two_pow
      have hp : 0 < 2 ^ (r1 / b - 1) := Nat.two_pow_pos _
      calc (b + r1 % b) * 2 ^ (r1 / b - 1) < (2 * b) * 2 ^ (r1 / b - 1) := Nat.mul_lt_mul_of_pos_right (by omega) hp
        _ = b * (2 ^ (r1 / b - 1) * 2 * 1) := by rw [Nat.mul_one, Nat.mul_comm (2 ^ (r1 / b - 1)) 2, ← Nat.mul_assoc, Nat.mul_comm b 2]
        _ ≤ (b + r2 % b) * (2 ^ (r1 / b - 1) * 2 * 2 ^ (r2 / b - 1 - r1 / b)) := Nat.mul_le_mul (by omega) (Nat.mul_le_mul_left _ h1)
    · have e : r1 / b = r2 / b := by omega
      rw [e] at d1 ⊢
      exact Nat.mul_lt_mul_of_pos_right (by omega) (Nat.two_pow_pos _)
theorem magOf_le {f : Format} {r1 r2 : Nat} (h : r1 ≤ r2) : magOf f r1 ≤ magOf f r2 := by
  rcases Nat.eq_or_lt_of_le h with e | e
  · rw [e]; exact Nat.le_refl _
  · exact Nat.le_of_lt (magOf_lt e)
theorem magOf_lt_iff {f : Format} {r1 r2 : Nat} : magOf f r1 < magOf f r2 ↔ r1 < r2 :=
  ⟨fun h => by rcases Nat.lt_or_ge r1 r2 with h1 | h1; exact h1; exact absurd (magOf_le (f := f) h1) (by omega), magOf_lt⟩
theorem magOf_inj {f : Format} {r1 r2 : Nat} (h : magOf f r1 = magOf f r2) : r1 = r2 := by
  rcases Nat.lt_trichotomy r1 r2 with h1 | h1 | h1
  · have := magOf_lt (f := f) h1; omega
  · exact h1
  · have := magOf_lt (f := f) h1; omega
@[simp] theorem magOf_zero {f : Format} : magOf f 0 = 0 := by unfold magOf; rw [if_pos (binade_pos f)]
theorem magOf_eq_zero {f : Format} {r : Nat} : magOf f r = 0 ↔ r = 0 := ⟨fun h => magOf_inj (f := f) (by rw [h, magOf_zero]), fun h => by rw [h, magOf_zero]⟩
/-- What a word is read as, by its rung. -/
theorem read_cases (f : Format) (hf : f.binade < f.infRung) (x : Nat) (hn : (f.read x).isNaN = false) :
    (x % f.signWeight < f.infRung ∧ ∃ (m e : Nat), f.read x = .number (negOf f x) m (f.leastPlace + (e : Int)) ∧ magOf f (x % f.signWeight) = m * 2 ^ e) ∨ (x % f.signWeight = f.infRung ∧ f.read x = .infinity (negOf f x)) := by
  unfold Format.read at hn ⊢
  simp only [] at hn ⊢
  generalize hr : x % f.signWeight = r at hn
  split
  · rename_i h1
    left
    exact ⟨by omega, r, 0, by simp [negOf], by unfold magOf; rw [if_pos h1]; simp⟩
  · split
    · rename_i h1 h2
      left
      exact ⟨h2, f.binade + r % f.binade, r / f.binade - 1, by simp [negOf], by unfold magOf; rw [if_neg h1]⟩
    · split
      · rename_i h1 h2 h3; exact .inr ⟨h3, by simp [negOf]⟩
      · rename_i h1 h2 h3; rw [if_neg h1, if_neg h2, if_neg h3] at hn; cases hn
def sgn (b : Bool) (n : Nat) : Int := if b then -(n : Int) else (n : Int)
theorem valOf_sgn {f : Format} {x : Nat} : valOf f x = sgn (negOf f x) (magOf f (x % f.signWeight)) := rfl
theorem compare_mul {a b : Int} {c : Nat} (hc : 0 < c) : compare (a * c) (b * c) = compare a b := by
  have hc' : (0 : Int) < c := by omega
  rcases Int.lt_trichotomy a b with h | h | h
  · rw [Int.compare_eq_lt.2 h, Int.compare_eq_lt.2 (Int.mul_lt_mul_of_pos_right h hc')]
  · subst h; simp
  · rw [Int.compare_eq_gt.2 h, Int.compare_eq_gt.2 (Int.mul_lt_mul_of_pos_right h hc')]
theorem signed_sgn {s : Bool} {m d : Nat} : signed s m d = sgn s (m * 2 ^ d) := by unfold signed sgn; simp [Nat.shiftLeft_eq]
theorem sgn_mul {s : Bool} {n c : Nat} : sgn s (n * c) = sgn s n * (c : Int) := by unfold sgn; split <;> simp [Int.natCast_mul, Int.neg_mul]
/-- How two floats stand to each other: as their values do. -/
theorem order_val (f : Format) (hf : f.binade < f.infRung) {x y : Nat} (hx : (f.read x).isNaN = false) (hy : (f.read y).isNaN = false) : f.order x y = some (compare (valOf f x) (valOf f y)) := by
  unfold Format.order
  rw [valOf_sgn, valOf_sgn]
  rcases read_cases f hf x hx with ⟨hx1, m, e, hx2, hx3⟩ | ⟨hx1, hx2⟩ <;> rcases read_cases f hf y hy with ⟨hy1, n, e', hy2, hy3⟩ | ⟨hy1, hy2⟩
  · rw [hx2, hy2, hx3, hy3]
    simp only [Datum.order, signed_sgn, Option.some.injEq]
    have h1 : sgn (negOf f x) (m * 2 ^ e) = sgn (negOf f x) (m * 2 ^ (f.leastPlace + ↑e - min (f.leastPlace + ↑e) (f.leastPlace + ↑e')).toNat) * ((2 ^ (min e e') : Nat) : Int) := by
      rw [← sgn_mul, Nat.mul_assoc, ← Nat.pow_add]; congr 3; omega
    have h2 : sgn (negOf f y) (n * 2 ^ e') = sgn (negOf f y) (n * 2 ^ (f.leastPlace + ↑e' - min (f.leastPlace + ↑e) (f.leastPlace + ↑e')).toNat) * ((2 ^ (min e e') : Nat) : Int) := by
      rw [← sgn_mul, Nat.mul_assoc, ← Nat.pow_add]; congr 3; omega
    rw [h1, h2, compare_mul (Nat.two_pow_pos _)]
  · rw [hx2, hy2]
    have hl := magOf_lt (f := f) (show x % f.signWeight < y % f.signWeight by omega)
    simp only [Datum.order, Option.some.injEq]
    cases negOf f y
    · have : sgn (negOf f x) (magOf f (x % f.signWeight)) < sgn false (magOf f (y % f.signWeight)) := by simp only [sgn, Bool.false_eq_true, if_false, if_true]; split <;> omega
      simp [Int.compare_eq_lt.2 this]
    · have : sgn true (magOf f (y % f.signWeight)) < sgn (negOf f x) (magOf f (x % f.signWeight)) := by simp only [sgn, Bool.false_eq_true, if_false, if_true]; split <;> omega
      simp [Int.compare_eq_gt.2 this]
  · rw [hx2, hy2]
    have hl := magOf_lt (f := f) (show y % f.signWeight < x % f.signWeight by omega)
    simp only [Datum.order, Option.some.injEq]
    cases negOf f x
    · have : sgn (negOf f y) (magOf f (y % f.signWeight)) < sgn false (magOf f (x % f.signWeight)) := by simp only [sgn, Bool.false_eq_true, if_false, if_true]; split <;> omega
      simp [Int.compare_eq_gt.2 this]
    · have : sgn true (magOf f (x % f.signWeight)) < sgn (negOf f y) (magOf f (y % f.signWeight)) := by simp only [sgn, Bool.false_eq_true, if_false, if_true]; split <;> omega
      simp [Int.compare_eq_lt.2 this]
  · rw [hx2, hy2, hx1, hy1]
    have hp : 0 < magOf f f.infRung := by
      have := magOf_lt (f := f) (show 0 < f.infRung by have := binade_pos f; omega)
      simpa using this
    simp only [Datum.order, Option.some.injEq]
    cases negOf f x <;> cases negOf f y <;> simp [sgn]
    · exact (Int.compare_eq_gt.2 (by omega)).symm
    · exact (Int.compare_eq_lt.2 (by omega)).symm
theorem single_ok : single.binade < single.infRung := by decide +kernel
theorem double_ok : double.binade < double.infRung := by decide +kernel
def V (x : Nat) : Int := valOf single x
def D (x : Nat) : Int := valOf double x
theorem order32 {x y : Nat} (hx : isNaN .f32 x = false) (hy : isNaN .f32 y = false) : FloatKind.f32.format.order x y = some (compare (V x) (V y)) := order_val single single_ok hx hy
theorem order64 {x y : Nat} (hx : isNaN .f64 x = false) (hy : isNaN .f64 y = false) : FloatKind.f64.format.order x y = some (compare (D x) (D y)) := order_val double double_ok hx hy
theorem cmp_lt {a b : Int} : (some (compare a b) == some Ordering.lt) = decide (a < b) := by
  rw [Bool.eq_iff_iff]; simp [Int.compare_eq_lt]
theorem cmp_eq {a b : Int} : (some (compare a b) == some Ordering.eq) = decide (a = b) := by
  rw [Bool.eq_iff_iff]; simp
theorem cmp_gt {a b : Int} : (some (compare a b) == some Ordering.gt) = decide (b < a) := by
  rw [Bool.eq_iff_iff]; simp [Int.compare_eq_gt]
section
variable {x y : Nat}
theorem lss32 (hx : isNaN .f32 x = false) (hy : isNaN .f32 y = false) : fcmp .lss .f32 x y = decide (V x < V y) := by unfold fcmp; rw [order32 hx hy]; exact cmp_lt
theorem gtr32 (hx : isNaN .f32 x = false) (hy : isNaN .f32 y = false) : fcmp .gtr .f32 x y = decide (V y < V x) := by unfold fcmp; rw [order32 hx hy]; exact cmp_gt
theorem eql32 (hx : isNaN .f32 x = false) (hy : isNaN .f32 y = false) : fcmp .eql .f32 x y = decide (V x = V y) := by unfold fcmp; rw [order32 hx hy]; exact cmp_eq
theorem leq32 (hx : isNaN .f32 x = false) (hy : isNaN .f32 y = false) : fcmp .leq .f32 x y = decide (V x ≤ V y) := by
  unfold fcmp; rw [order32 hx hy]; simp only [cmp_lt, cmp_eq]; rw [Bool.eq_iff_iff]; simp; omega
theorem geq32 (hx : isNaN .f32 x = false) (hy : isNaN .f32 y = false) : fcmp .geq .f32 x y = decide (V y ≤ V x) := by
  unfold fcmp; rw [order32 hx hy]; simp only [cmp_gt, cmp_eq]; rw [Bool.eq_iff_iff]; simp; omega
theorem lss64 (hx : isNaN .f64 x = false) (hy : isNaN .f64 y = false) : fcmp .lss .f64 x y = decide (D x < D y) := by unfold fcmp; rw [order64 hx hy]; exact cmp_lt
theorem gtr64 (hx : isNaN .f64 x = false) (hy : isNaN .f64 y = false) : fcmp .gtr .f64 x y = decide (D y < D x) := by unfold fcmp; rw [order64 hx hy]; exact cmp_gt
theorem eql64 (hx : isNaN .f64 x = false) (hy : isNaN .f64 y = false) : fcmp .eql .f64 x y = decide (D x = D y) := by unfold fcmp; rw [order64 hx hy]; exact cmp_eq
theorem leq64 (hx : isNaN .f64 x = false) (hy : isNaN .f64 y = false) : fcmp .leq .f64 x y = decide (D x ≤ D y) := by
  unfold fcmp; rw [order64 hx hy]; simp only [cmp_lt, cmp_eq]; rw [Bool.eq_iff_iff]; simp; omega
theorem geq64 (hx : isNaN .f64 x = false) (hy : isNaN .f64 y = false) : fcmp .geq .f64 x y = decide (D y ≤ D x) := by
  unfold fcmp; rw [order64 hx hy]; simp only [cmp_gt, cmp_eq]; rw [Bool.eq_iff_iff]; simp; omega
/-- No comparison with a not-a-number holds. -/
theorem cmp_nan1 {k : FloatKind} {op : BinOp} (h : isNaN k x = true) (ho : op ≠ .neq) : fcmp op k x y = false := by
  unfold fcmp; rw [order_nan1 h]; cases op <;> simp at ho ⊢ <;> rfl
theorem cmp_nan2 {k : FloatKind} {op : BinOp} (h : isNaN k y = true) (ho : op ≠ .neq) : fcmp op k x y = false := by
  unfold fcmp; rw [order_nan2 h]; cases op <;> simp at ho ⊢ <;> rfl
end
/-- A float32 in its normal form. -/
def CF (x : Nat) : Prop := x < 4294967296 ∧ can .f32 x = x
def CD (x : Nat) : Prop := x < 18446744073709551616 ∧ can .f64 x = x
theorem CF.nan {x : Nat} (h : CF x) (hn : isNaN .f32 x = true) : x = 2143289344 := by rw [← h.2, can_of_nan hn]; decide
theorem CF_bin {op : BinOp} {x y : Nat} : CF (fbin op .f32 x y) := by
  refine ⟨?_, fbin_can _ _ _ _⟩
  unfold fbin
  cases h : floatBits op .f32 x y with
  | none => exact nanOf_lt .f32
  | some r => exact bits_lt h
theorem CD_bin {op : BinOp} {x y : Nat} : CD (fbin op .f64 x y) := by
  refine ⟨?_, fbin_can _ _ _ _⟩
  unfold fbin
  cases h : floatBits op .f64 x y with
  | none => exact nanOf_lt .f64
  | some r => exact bits_lt h
theorem CF_int {n : Int} : CF (fofint .f32 n) := ⟨FloatKind.f32.format.write_lt (.number (n < 0) n.natAbs 0), can_of_not (fofint_not_nan _ _)⟩
theorem CD_int {n : Int} : CD (fofint .f64 n) := ⟨FloatKind.f64.format.write_lt (.number (n < 0) n.natAbs 0), can_of_not (fofint_not_nan _ _)⟩
theorem isNaN32 {x : Nat} : isNaN .f32 x = decide (2139095040 < x % 2147483648) := by
  rw [isNaN_eq]
  have h1 : FloatKind.f32.format.infRung = 2139095040 := by decide +kernel
  have h2 : FloatKind.f32.format.signWeight = 2147483648 := by decide +kernel
  rw [h1, h2]
theorem isNaN64 {x : Nat} : isNaN .f64 x = decide (9218868437227405312 < x % 9223372036854775808) := by
  rw [isNaN_eq]
  have h1 : FloatKind.f64.format.infRung = 9218868437227405312 := by decide +kernel
  have h2 : FloatKind.f64.format.signWeight = 9223372036854775808 := by decide +kernel
  rw [h1, h2]
theorem sw32 : single.signWeight = 2147483648 := by decide +kernel
theorem sw64 : double.signWeight = 9223372036854775808 := by decide +kernel
theorem V_eq {x : Nat} : V x = sgn (x / 2147483648 % 2 == 1) (magOf single (x % 2147483648)) := by unfold V valOf negOf sgn; rw [sw32]
theorem D_eq {x : Nat} : D x = sgn (x / 9223372036854775808 % 2 == 1) (magOf double (x % 9223372036854775808)) := by unfold D valOf negOf sgn; rw [sw64]
theorem V_pos {x : Nat} (h : x < 2147483648) : V x = magOf single x := by
  rw [V_eq, Nat.div_eq_of_lt h, Nat.mod_eq_of_lt h]; simp [sgn]
theorem V_neg {x : Nat} (h : 2147483648 ≤ x) (h2 : x < 4294967296) : V x = -(magOf single (x - 2147483648) : Int) := by
  have e1 : x / 2147483648 = 1 := by omega
  have e2 : x % 2147483648 = x - 2147483648 := by omega
  rw [V_eq, e1, e2]; simp [sgn]
theorem D_pos {x : Nat} (h : x < 9223372036854775808) : D x = magOf double x := by
  rw [D_eq, Nat.div_eq_of_lt h, Nat.mod_eq_of_lt h]; simp [sgn]
theorem D_neg {x : Nat} (h : 9223372036854775808 ≤ x) (h2 : x < 18446744073709551616) : D x = -(magOf double (x - 9223372036854775808) : Int) := by
  have e1 : x / 9223372036854775808 = 1 := by omega
  have e2 : x % 9223372036854775808 = x - 9223372036854775808 := by omega
  rw [D_eq, e1, e2]; simp [sgn]
theorem mag_small {r : Nat} (h : r < 8388608) : magOf single r = r := by unfold magOf; have hb : single.binade = 8388608 := (by decide +kernel); rw [if_pos (by omega)]
theorem mag_big {r : Nat} (h : 8388608 ≤ r) : 8388608 ≤ magOf single r := by
  have := magOf_le (f := single) h
  have e : magOf single 8388608 = 8388608 := by decide +kernel
  omega
end Go.E
