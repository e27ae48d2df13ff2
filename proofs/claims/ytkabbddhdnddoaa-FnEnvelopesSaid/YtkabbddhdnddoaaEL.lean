/- Float64s made whole: between which numbers they lie, and what they are as integers. Plain lemmas; no condition. -/
import Derived.Test.YtkabbddhdnddoaaEK
set_option linter.unusedVariables false
set_option linter.unusedSimpArgs false
set_option exponentiation.threshold 3000
namespace Go.E
open Go Ieee
/-- A one, in the smallest steps of float64. -/
@[irreducible] def U : Nat := 2 ^ 1074
theorem U_pos : 0 < U := by unfold U; exact Nat.two_pow_pos _
theorem U_split {e : Nat} (h : e ≤ 1074) : U = 2 ^ (1074 - e) * 2 ^ e := by unfold U; rw [← Nat.pow_add]; congr 1; omega
theorem U_up {e : Nat} (h : 1074 ≤ e) : 2 ^ e = 2 ^ (e - 1074) * U := by unfold U; rw [← Nat.pow_add]; congr 1; omega
theorem rung_of {m : Nat} (h : m < 2 ^ 53) : ∃ r, r < double.infRung ∧ magOf double r = m * U := by
  obtain ⟨d1, d2, d3, d4⟩ := consts64
  by_cases h0 : m = 0
  · subst h0; exact ⟨0, by omega, by rw [magOf_zero, Nat.zero_mul]⟩
  have hL : m.log2 ≤ 52 := by have := (Nat.log2_lt h0 (k := 53)).2 h; omega
  have hL1 := Nat.log2_self_le h0
  have hL2 : m < 2 ^ (m.log2 + 1) := Nat.lt_log2_self
  generalize hk : m.log2 = k at hL hL1 hL2
  have hM1 : 4503599627370496 ≤ m * 2 ^ (52 - k) := by
    calc 4503599627370496 = 2 ^ k * 2 ^ (52 - k) := by rw [← Nat.pow_add]; have : k + (52 - k) = 52 := by omega
                                                       rw [this]
      _ ≤ _ := Nat.mul_le_mul_right _ hL1
  have hM2 : m * 2 ^ (52 - k) < 2 * 4503599627370496 := by
    calc m * 2 ^ (52 - k) < 2 ^ (k + 1) * 2 ^ (52 - k) := Nat.mul_lt_mul_of_pos_right hL2 (Nat.two_pow_pos _)
      _ = 2 * 4503599627370496 := by rw [← Nat.pow_add]; have : k + 1 + (52 - k) = 53 := by omega
                                     rw [this]
  have key : m * 2 ^ (52 - k) * 2 ^ (1022 + k) = m * U := by
    rw [Nat.mul_assoc, ← Nat.pow_add]; unfold U; congr 2; omega
  generalize m * 2 ^ (52 - k) = M at hM1 hM2 key
  refine ⟨(1022 + k) * 4503599627370496 + M, by rw [d1]; omega, ?_⟩
  unfold magOf
  rw [d2, if_neg (by omega)]
  have q1 : ((1022 + k) * 4503599627370496 + M) % 4503599627370496 = M - 4503599627370496 := by omega
  have q2 : ((1022 + k) * 4503599627370496 + M) / 4503599627370496 - 1 = 1022 + k := by omega
  have q3 : 4503599627370496 + (M - 4503599627370496) = M := by omega
  rw [q1, q2, q3, key]
theorem cut_zero {way : Toward} {neg : Bool} {n : Nat} : way.cut neg n 0 = n := by
  unfold Toward.cut
  simp only [Nat.zero_min, Nat.shiftLeft_zero, Nat.div_one, Nat.mod_one]
  cases way <;> simp
theorem cut_gap {n d : Nat} (hd : n.log2 + 2 < d) : n < 1 <<< min d (n.log2 + 2) ∧ 2 * n < 1 <<< min d (n.log2 + 2) := by
  rw [Nat.min_eq_right (by omega), Nat.shiftLeft_eq, Nat.one_mul]
  have h : n < 2 ^ (n.log2 + 1) := Nat.lt_log2_self
  have e : 2 ^ (n.log2 + 2) = 2 * 2 ^ (n.log2 + 1) := by rw [Nat.pow_succ 2 (n.log2 + 1), Nat.mul_comm]
  omega
theorem even_cut {neg : Bool} {n d c : Nat} : (c * 2 ^ d ≤ n → c ≤ Toward.even.cut neg n d) ∧ (n ≤ c * 2 ^ d → Toward.even.cut neg n d ≤ c) := by
  unfold Toward.cut
  simp only []
  have hp := Nat.two_pow_pos d
  by_cases hd : d ≤ n.log2 + 2
  · rw [Nat.min_eq_left hd, Nat.shiftLeft_eq, Nat.one_mul]
    generalize 2 ^ d = g at *
    have h1 := Nat.div_add_mod n g
    have h2 := Nat.mod_lt n hp
    refine ⟨fun h => ?_, fun h => ?_⟩
    · have := (Nat.le_div_iff_mul_le hp).2 h
      omega
    · by_cases h3 : n / g < c
      · have : (decide (g < 2 * (n % g)) || g == 2 * (n % g) && n / g % 2 == 1).toNat ≤ 1 := Bool.toNat_le _
        omega
      · have h4 : c * g ≤ n / g * g := Nat.mul_le_mul_right _ (by omega)
        rw [Nat.mul_comm] at h1
        have h5 : n % g = 0 := by omega
        have h6 : n / g = c := by
          have : n / g * g = c * g := by omega
          exact Nat.eq_of_mul_eq_mul_right hp this
        rw [h5, h6]
        have : (decide (g < 2 * 0) || g == 2 * 0 && c % 2 == 1) = false := by
          have : (g == 2 * 0) = false := by simp; omega
          simp [this]
        rw [this]; simp
  · obtain ⟨h1, h2⟩ := cut_gap (n := n) (d := d) (by omega)
    have h4 : n < 2 ^ d := by
      have : n < 2 ^ (n.log2 + 1) := Nat.lt_log2_self
      have : 2 ^ (n.log2 + 1) ≤ 2 ^ d := Nat.pow_le_pow_right (by omega) (by omega)
      omega
    generalize 1 <<< min d (n.log2 + 2) = g at h1 h2
    have e1 : n / g = 0 := Nat.div_eq_of_lt h1
    have e2 : n % g = n := Nat.mod_eq_of_lt h1
    rw [e1, e2]
    have e3 : (decide (g < 2 * n) || g == 2 * n && 0 % 2 == 1) = false := by
      have : ¬ g < 2 * n := by omega
      simp [this]
    rw [e3]
    refine ⟨fun h => ?_, fun h => by simp⟩
    have : c * 2 ^ d < 1 * 2 ^ d := by omega
    have := Nat.lt_of_mul_lt_mul_right this
    omega
theorem even_small {neg : Bool} {n d : Nat} (hn : n < 2 ^ 53) : Toward.even.cut neg n d < 2 ^ 53 ∨ d = 0 := by
  cases d with
  | zero => exact .inr rfl
  | succ d =>
    left
    have h := (even_cut (neg := neg) (n := n) (d := d + 1) (c := 2 ^ 52)).2 (by
      have : 2 ^ 52 * 2 ≤ 2 ^ 52 * 2 ^ (d + 1) := Nat.mul_le_mul_left _ (by rw [Nat.pow_succ]; have := Nat.two_pow_pos d; omega)
      omega)
    omega
theorem zero_exact {neg : Bool} {N d : Nat} : Toward.zero.cut neg (N * 2 ^ d) d = N := by
  unfold Toward.cut
  simp only [Bool.toNat_false, Nat.add_zero]
  by_cases h0 : N = 0
  · subst h0; simp
  · have : d ≤ (N * 2 ^ d).log2 := by
      rw [log2_shift h0]; omega
    rw [Nat.min_eq_left (by omega), Nat.shiftLeft_eq, Nat.one_mul]
    exact Nat.mul_div_cancel _ (Nat.two_pow_pos d)
theorem read_num {x : Nat} (hx : x % double.signWeight < double.infRung) : ∃ m e : Nat, FloatKind.f64.decode x = .number (negOf double x) m (-1074 + (e : Int)) ∧ magOf double (x % double.signWeight) = m * 2 ^ e ∧ m < 2 ^ 53 := by
  obtain ⟨d1, d2, d3, d4⟩ := consts64
  have hr : FloatKind.f64.decode x = double.read x := rfl
  rw [hr]
  unfold Format.read
  simp only []
  generalize x % double.signWeight = r at hx
  rw [d2, d3]
  split
  · rename_i h1
    exact ⟨r, 0, by simp [negOf], by unfold magOf; rw [d2, if_pos h1]; simp, by omega⟩
  · rename_i h1
    exact ⟨4503599627370496 + r % 4503599627370496, r / 4503599627370496 - 1, by simp [negOf], by unfold magOf; rw [d2, if_neg h1], by omega⟩
/-- A float64 made whole. -/
theorem even_word {x : Nat} (hx : x < 18446744073709551616) (hn : isNaN .f64 x = false) : ∃ r, r ≤ double.infRung ∧ ftow .even x = double.word (negOf double x) r ∧
    (∀ c, c * U ≤ magOf double (x % double.signWeight) → c * U ≤ magOf double r) ∧ (∀ c, magOf double (x % double.signWeight) ≤ c * U → magOf double r ≤ c * U) ∧ (r < double.infRung → ∃ N, magOf double r = N * U) := by
  obtain ⟨d1, d2, d3, d4⟩ := consts64
  have hf : ftow .even x = FloatKind.f64.encode ((FloatKind.f64.decode x).integral .even) := by unfold ftow; rw [hn]; rfl
  rw [hf]
  have hle : x % double.signWeight ≤ double.infRung := by rw [isNaN64] at hn; simp at hn; rw [d4, d1]; omega
  by_cases hfin : x % double.signWeight < double.infRung
  · obtain ⟨m, e, h1, h2, h3⟩ := read_num hfin
    rw [h1, h2]
    have hne : ∀ r N, r < double.infRung → magOf double r = N * U → FloatKind.f64.encode (.number (negOf double x) N 0) = double.word (negOf double x) r := by
      intro r N hr hN
      show double.nearest (negOf double x) N 0 = _
      refine nearest_exact double _ (a := 1074) (b := 0) (r := r) hr ?_ ?_
      · rw [hN]; unfold U; simp
      · rw [d3]; omega
    simp only [Datum.integral]
    by_cases he : 1074 ≤ e
    · have e1 : ((-1074 + (e : Int))).toNat = e - 1074 := by omega
      have e2 : (-(-1074 + (e : Int))).toNat = 0 := by omega
      rw [e1, e2, cut_zero, Nat.shiftLeft_eq]
      have hU : m * 2 ^ e = m * 2 ^ (e - 1074) * U := by rw [U_up he, Nat.mul_assoc]
      refine ⟨x % double.signWeight, by omega, hne _ _ hfin (by rw [h2, hU]), fun c hc => by rw [h2]; exact hc, fun c hc => by rw [h2]; exact hc, fun _ => ⟨_, by rw [h2, hU]⟩⟩
    · have e1 : ((-1074 + (e : Int))).toNat = 0 := by omega
      have e2 : (-(-1074 + (e : Int))).toNat = 1074 - e := by omega
      rw [e1, e2, Nat.shiftLeft_zero]
      have hs := even_small (neg := negOf double x) (d := 1074 - e) h3
      have hs2 : Toward.even.cut (negOf double x) m (1074 - e) < 2 ^ 53 := by rcases hs with h | h; exact h; omega
      obtain ⟨r, hr1, hr2⟩ := rung_of hs2
      have hUs := U_split (e := e) (by omega)
      refine ⟨r, by omega, hne _ _ hr1 hr2, fun c hc => ?_, fun c hc => ?_, fun _ => ⟨_, hr2⟩⟩
      · rw [hr2]
        refine Nat.mul_le_mul_right _ ((even_cut (c := c)).1 ?_)
        rw [hUs, ← Nat.mul_assoc] at hc
        exact Nat.le_of_mul_le_mul_right hc (Nat.two_pow_pos e)
      · rw [hr2]
        refine Nat.mul_le_mul_right _ ((even_cut (c := c)).2 ?_)
        rw [hUs, ← Nat.mul_assoc] at hc
        exact Nat.le_of_mul_le_mul_right hc (Nat.two_pow_pos e)
  · have hinf : x % double.signWeight = double.infRung := by omega
    have hd : FloatKind.f64.decode x = .infinity (negOf double x) := by
      rcases read_cases double double_ok x hn with ⟨h1, _⟩ | ⟨_, h2⟩
      · exact absurd h1 hfin
      · exact h2
    rw [hd]
    refine ⟨double.infRung, Nat.le_refl _, rfl, fun c hc => by rw [hinf] at hc; exact hc, fun c hc => by rw [hinf] at hc; exact hc, fun hlt => absurd hlt (Nat.lt_irrefl _)⟩
theorem D_word {s : Bool} {r : Nat} (hr : r ≤ double.infRung) : D (double.word s r) = sgn s (magOf double r) := by
  obtain ⟨d1, d2, d3, d4⟩ := consts64
  obtain ⟨h1, h2⟩ := word_parts double s (r := r) (by omega)
  show valOf double _ = _
  rw [valOf_sgn, h1, h2]
/-- A whole float64 as an integer. -/
theorem toint_word {s : Bool} {r N : Nat} (hr : r < double.infRung) (hN : magOf double r = N * U) (hb : N ≤ 4611686018427387904) : ftoint .f64 (double.word s r) .i64 = some (sgn s N) := by
  obtain ⟨d1, d2, d3, d4⟩ := consts64
  obtain ⟨h1, h2⟩ := word_parts double s (r := r) (by omega)
  obtain ⟨m, e, h3, h4, h5⟩ := read_num (x := double.word s r) (by rw [h1]; exact hr)
  rw [h1, hN] at h4
  rw [h2] at h3
  unfold ftoint floatToIntVal
  rw [h3]
  have key : Toward.zero.cut s (m <<< (-1074 + (e : Int)).toNat) (-(-1074 + (e : Int))).toNat = N := by
    by_cases he : 1074 ≤ e
    · have e1 : ((-1074 + (e : Int))).toNat = e - 1074 := by omega
      have e2 : (-(-1074 + (e : Int))).toNat = 0 := by omega
      rw [e1, e2, cut_zero, Nat.shiftLeft_eq]
      rw [U_up he, ← Nat.mul_assoc] at h4
      exact (Nat.eq_of_mul_eq_mul_right U_pos h4).symm
    · have e1 : ((-1074 + (e : Int))).toNat = 0 := by omega
      have e2 : (-(-1074 + (e : Int))).toNat = 1074 - e := by omega
      rw [e1, e2, Nat.shiftLeft_zero]
      rw [U_split (e := e) (by omega), ← Nat.mul_assoc] at h4
      rw [← Nat.eq_of_mul_eq_mul_right (Nat.two_pow_pos e) h4]
      exact zero_exact
  simp only [Datum.toInt, Datum.integral, key]
  have e0 : signed s N 0 = sgn s N := by rw [signed_sgn]; simp
  rw [e0]
  have hmin : IntKind.i64.min = -9223372036854775808 := by decide
  have hmax : IntKind.i64.max = 9223372036854775807 := by decide
  have hs : -4611686018427387904 ≤ sgn s N ∧ sgn s N ≤ 4611686018427387904 := by unfold sgn; split <;> omega
  rw [hmin, hmax, if_pos ⟨by omega, by omega⟩]
/-- An integer as a float64. -/
theorem int_word {n : Int} (hn : n.natAbs < 2 ^ 53) : ∃ r, r < double.infRung ∧ magOf double r = n.natAbs * U ∧ fofint .f64 n = double.word (decide (n < 0)) r := by
  obtain ⟨d1, d2, d3, d4⟩ := consts64
  obtain ⟨r, h1, h2⟩ := rung_of hn
  refine ⟨r, h1, h2, ?_⟩
  show double.nearest (decide (n < 0)) n.natAbs 0 = _
  refine nearest_exact double _ (a := 1074) (b := 0) (r := r) h1 ?_ ?_
  · rw [h2]; unfold U; simp
  · rw [d3]; omega
theorem sgn_int {n : Int} : sgn (decide (n < 0)) (n.natAbs * U) = n * U := by
  unfold sgn
  by_cases h : n < 0
  · have : (n.natAbs : Int) = -n := by omega
    simp only [h, decide_true, if_true, Int.natCast_mul, this, Int.neg_mul, Int.neg_neg]
  · have : (n.natAbs : Int) = n := by omega
    simp only [h, decide_false, Bool.false_eq_true, if_false, Int.natCast_mul, this]
theorem D_int {n : Int} (hn : n.natAbs < 2 ^ 53) : D (fofint .f64 n) = n * U := by
  obtain ⟨r, h1, h2, h3⟩ := int_word hn
  rw [h3, D_word (by omega), h2, sgn_int]
theorem toint_int {n : Int} (hn : n.natAbs < 2 ^ 53) : ftoint .f64 (fofint .f64 n) .i64 = some n := by
  obtain ⟨r, h1, h2, h3⟩ := int_word hn
  rw [h3, toint_word h1 h2 (by omega)]
  congr 1
  unfold sgn
  by_cases h : n < 0
  · simp [h]; omega
  · simp [h]; omega
end Go.E
