/- How great float64s can be: bounds by powers of two, carried through the operations. Plain lemmas; no condition. -/
import Derived.Test.YtkabbddhdnddoaaEM
set_option linter.unusedVariables false
set_option linter.unusedSimpArgs false
set_option exponentiation.threshold 3000
namespace Go.E
open Go Ieee
/-- A number (no infinity, no not-a-number) below two to the (A + 1). -/
def Lg (x : Nat) (A : Int) : Prop := ∃ (s : Bool) (m : Nat) (i : Int), FloatKind.f64.decode x = .number s m i ∧ (m = 0 ∨ i + m.log2 ≤ A)
theorem Lg.mono {x : Nat} {A B : Int} (h : Lg x A) (hab : A ≤ B) : Lg x B := by
  obtain ⟨s, m, i, h1, h2⟩ := h
  exact ⟨s, m, i, h1, h2.imp id fun q => by omega⟩
theorem mag_rung {k : Nat} (hk : 1 ≤ k) : magOf double (k * 4503599627370496) = 2 ^ (k + 51) := by
  obtain ⟨d1, d2, d3, d4⟩ := consts64
  unfold magOf
  rw [d2, if_neg (by omega)]
  have e1 : k * 4503599627370496 % 4503599627370496 = 0 := by omega
  have e2 : k * 4503599627370496 / 4503599627370496 - 1 = k - 1 := by omega
  rw [e1, e2, Nat.add_zero]
  have e3 : (4503599627370496 : Nat) = 2 ^ 52 := by decide
  rw [e3, ← Nat.pow_add]
  congr 1; omega
/-- What is written of a number below a power of two is not above it. -/
theorem Lg_nearest {neg : Bool} {mag : Nat} {place A : Int} (h : mag = 0 ∨ place + mag.log2 ≤ A) (h1 : -1000 ≤ A) (h2 : A ≤ 900) : Lg (double.nearest neg mag place) (A + 1) := by
  obtain ⟨d1, d2, d3, d4⟩ := consts64
  obtain ⟨r, hr1, hr2⟩ := nearest_bound double (neg := neg) h (by rw [d3]; have : double.fractionBits = 52 := rfl; rw [this]; omega)
  have hf : double.fractionBits = 52 := rfl
  rw [d2, d3, hf] at hr1
  have e52 : (2 : Nat) ^ (52 + 1) = 9007199254740992 := by decide
  rw [e52] at hr1
  obtain ⟨k, hk⟩ := Int.eq_ofNat_of_zero_le (show 0 ≤ A + 1024 by omega)
  have hk2 : (A - ((52 : Nat) : Int) - -1074).toNat = k - 2 := by omega
  rw [hk2] at hr1
  obtain ⟨k2, rfl⟩ : ∃ k2, k = k2 + 2 := ⟨k - 2, by omega⟩
  rw [Nat.add_sub_cancel] at hr1
  have hr3 : r ≤ (k2 + 2) * 4503599627370496 := by rw [Nat.add_mul]; exact hr1
  have hr4 : r < double.infRung := by
    have : (k2 + 2) * 4503599627370496 ≤ 1924 * 4503599627370496 := Nat.mul_le_mul_right _ (by omega)
    rw [d1]; exact Nat.lt_of_le_of_lt (Nat.le_trans hr3 this) (by decide)
  rw [hr2, Nat.min_eq_left (by omega)]
  have hp := word_parts double neg (r := r) (by omega)
  obtain ⟨m, e, q1, q2, q3⟩ := read_num (x := double.word neg r) (by rw [hp.1]; exact hr4)
  rw [hp.1] at q2
  have hmr := mag_rung (k := k2 + 2) (by omega)
  have hml := magOf_le (f := double) hr3
  rw [hmr, q2] at hml
  have hm : m * 2 ^ e ≤ 2 ^ (k2 + 2 + 51) := hml
  refine ⟨_, m, _, q1, ?_⟩
  rcases place_of hm with h0 | h0
  · exact .inl h0
  · right; omega
theorem log2_mul_le {m n : Nat} (hm : m ≠ 0) (hn : n ≠ 0) : (m * n).log2 ≤ m.log2 + n.log2 + 1 := by
  have h1 : m < 2 ^ (m.log2 + 1) := Nat.lt_log2_self
  have h2 : n < 2 ^ (n.log2 + 1) := Nat.lt_log2_self
  have h3 : m * n < 2 ^ (m.log2 + n.log2 + 2) := by
    have : m * n < 2 ^ (m.log2 + 1) * 2 ^ (n.log2 + 1) := Nat.mul_lt_mul_of_lt_of_le h1 (Nat.le_of_lt h2) (Nat.two_pow_pos _)
    rw [← Nat.pow_add] at this
    have e : m.log2 + 1 + (n.log2 + 1) = m.log2 + n.log2 + 2 := by omega
    rwa [e] at this
  have := (Nat.log2_lt (Nat.mul_ne_zero hm hn)).2 h3
  omega
theorem fbin_mul {x y : Nat} {d : Datum} (h : (FloatKind.f64.decode x).product (FloatKind.f64.decode y) = some d) : fbin .mul .f64 x y = double.write d := by
  show (Option.map double.write ((FloatKind.f64.decode x).product (FloatKind.f64.decode y))).getD _ = _
  rw [h]; rfl
theorem Lg_mul {x y : Nat} {A B : Int} (hx : Lg x A) (hy : Lg y B) (h1 : -900 ≤ A + B) (h2 : A + B ≤ 800) : Lg (fbin .mul .f64 x y) (A + B + 2) := by
  obtain ⟨s, m, i, e1, e2⟩ := hx
  obtain ⟨t, n, j, f1, f2⟩ := hy
  rw [fbin_mul (d := .number (s ^^ t) (m * n) (i + j)) (by rw [e1, f1]; rfl)]
  show Lg (double.nearest (s ^^ t) (m * n) (i + j)) _
  have := Lg_nearest (neg := s ^^ t) (mag := m * n) (place := i + j) (A := A + B + 1) (by
    by_cases hm : m = 0
    · left; rw [hm, Nat.zero_mul]
    · by_cases hn : n = 0
      · left; rw [hn, Nat.mul_zero]
      · right
        have := log2_mul_le hm hn
        have := e2.resolve_left hm
        have := f2.resolve_left hn
        omega) (by omega) (by omega)
  exact this.mono (by omega)
theorem Lg_narrow {x : Nat} {A : Int} (hx : Lg x A) (h1 : A ≤ 125) (hn : isNaN .f64 x = false) : ∃ y, fconv .f64 .f32 x = some y := by
  obtain ⟨c1, c2, c3, c4⟩ := consts32
  obtain ⟨s, m, i, e1, e2⟩ := hx
  obtain ⟨q, hq1, hq2⟩ := nearest_bound single (neg := s) (mag := m) (place := i) (B := 125) (e2.imp id fun h => by omega) (by rw [c3]; decide)
  have hf : single.fractionBits = 23 := rfl
  rw [c2, c3, hf] at hq1
  have hq3 : q ≤ 2122317824 := by simpa using hq1
  unfold fconv
  rw [if_neg (by decide), hn]
  simp only [Bool.false_eq_true, if_false]
  unfold floatToFloatBits
  rw [if_neg (by decide), e1]
  simp only []
  have henc : FloatKind.f32.encode (.number s m i) = single.word s (min q single.infRung) := hq2
  have hread : (FloatKind.f32.decode (single.word s (min q single.infRung))).isInfinity = false := read_small single s _ (by omega)
  rw [henc, hread]
  exact ⟨_, rfl⟩
theorem natAbs_signed {s : Bool} {m d : Nat} : (signed s m d).natAbs = m * 2 ^ d := by
  rw [signed_sgn]; unfold sgn
  cases s
  · exact Int.natAbs_natCast _
  · rw [if_pos rfl, Int.natAbs_neg]; exact Int.natAbs_natCast _
/-- A sum of two numbers below a power of two. -/
theorem sum_bound {s t : Bool} {m n : Nat} {i j A : Int} (h1 : m = 0 ∨ i + m.log2 ≤ A) (h2 : n = 0 ∨ j + n.log2 ≤ A) : ∃ (u : Bool) (k : Nat) (p : Int), (Datum.number s m i).sum (.number t n j) = some (.number u k p) ∧ (k = 0 ∨ p + k.log2 ≤ A + 1) := by
  refine ⟨_, _, _, rfl, ?_⟩
  generalize hb : min i j = b
  generalize hk : (signed s m (i - b).toNat + signed t n (j - b).toNat).natAbs = k
  by_cases h0 : k = 0
  · exact .inl h0
  right
  have hle : k ≤ m * 2 ^ (i - b).toNat + n * 2 ^ (j - b).toNat := by
    rw [← hk, ← natAbs_signed (s := s), ← natAbs_signed (s := t)]
    exact Int.natAbs_add_le _ _
  have hm : m * 2 ^ (i - b).toNat < 2 ^ (A - b + 1).toNat := by
    by_cases q : m = 0
    · rw [q, Nat.zero_mul]; exact Nat.two_pow_pos _
    · have h3 := h1.resolve_left q
      have h4 : m < 2 ^ (m.log2 + 1) := Nat.lt_log2_self
      calc m * 2 ^ (i - b).toNat < 2 ^ (m.log2 + 1) * 2 ^ (i - b).toNat := Nat.mul_lt_mul_of_pos_right h4 (Nat.two_pow_pos _)
        _ = 2 ^ (m.log2 + 1 + (i - b).toNat) := (Nat.pow_add 2 _ _).symm
        _ ≤ _ := Nat.pow_le_pow_right (by omega) (by omega)
  have hn : n * 2 ^ (j - b).toNat < 2 ^ (A - b + 1).toNat := by
    by_cases q : n = 0
    · rw [q, Nat.zero_mul]; exact Nat.two_pow_pos _
    · have h3 := h2.resolve_left q
      have h4 : n < 2 ^ (n.log2 + 1) := Nat.lt_log2_self
      calc n * 2 ^ (j - b).toNat < 2 ^ (n.log2 + 1) * 2 ^ (j - b).toNat := Nat.mul_lt_mul_of_pos_right h4 (Nat.two_pow_pos _)
        _ = 2 ^ (n.log2 + 1 + (j - b).toNat) := (Nat.pow_add 2 _ _).symm
        _ ≤ _ := Nat.pow_le_pow_right (by omega) (by omega)
  have hlt : k < 2 ^ ((A - b + 1).toNat + 1) := by rw [Nat.pow_succ]; omega
  have := (Nat.log2_lt h0).2 hlt
  -- where both are zero there is nothing to show
  by_cases hA : 0 ≤ A - b + 1
  · omega
  · have e : (A - b + 1).toNat = 0 := by omega
    rw [e] at hm hn
    have : m * 2 ^ (i - b).toNat = 0 := by simpa using hm
    have : n * 2 ^ (j - b).toNat = 0 := by simpa using hn
    omega
theorem Lg_sub {x y : Nat} {A : Int} (hx : Lg x A) (hy : Lg y A) (h1 : -900 ≤ A) (h2 : A ≤ 800) : Lg (fbin .sub .f64 x y) (A + 2) := by
  obtain ⟨s, m, i, e1, e2⟩ := hx
  obtain ⟨t, n, j, f1, f2⟩ := hy
  obtain ⟨u, k, p, g1, g2⟩ := sum_bound (s := s) (t := !t) e2 f2
  have hf : fbin .sub .f64 x y = double.nearest u k p := by
    show (Option.map double.write ((FloatKind.f64.decode x).sum (FloatKind.f64.decode y).opposite)).getD _ = _
    rw [e1, f1]
    show (Option.map double.write ((Datum.number s m i).sum (.number (!t) n j))).getD _ = _
    rw [g1]; rfl
  rw [hf]
  exact (Lg_nearest g2 (by omega) (by omega)).mono (by omega)
theorem Lg_add {x y : Nat} {A : Int} (hx : Lg x A) (hy : Lg y A) (h1 : -900 ≤ A) (h2 : A ≤ 800) : Lg (fbin .add .f64 x y) (A + 2) := by
  obtain ⟨s, m, i, e1, e2⟩ := hx
  obtain ⟨t, n, j, f1, f2⟩ := hy
  obtain ⟨u, k, p, g1, g2⟩ := sum_bound (s := s) (t := t) e2 f2
  have hf : fbin .add .f64 x y = double.nearest u k p := by
    show (Option.map double.write ((FloatKind.f64.decode x).sum (FloatKind.f64.decode y))).getD _ = _
    rw [e1, f1, g1]; rfl
  rw [hf]
  exact (Lg_nearest g2 (by omega) (by omega)).mono (by omega)
/-- A quotient by a number that is not below a power of two. -/
theorem Lg_quo {x y : Nat} {A C : Int} {t : Bool} {n : Nat} {j : Int} (hx : Lg x A) (hy : FloatKind.f64.decode y = .number t n j) (hn : n ≠ 0) (hC : C ≤ j + n.log2) (h1' : -900 ≤ A - C) (h2' : A - C ≤ 800) : Lg (fbin .quo .f64 x y) (A - C + 1) := by
  obtain ⟨s, m, i, e1, e2⟩ := hx
  generalize hmore : 54 + n.log2 - m.log2 = more
  have hf : fbin .quo .f64 x y = double.nearest (s ^^ t) (2 * ((m <<< more) / n) + ((m <<< more) % n != 0).toNat) (i - j - (more : Int) - 1) := by
    show (Option.map double.write ((FloatKind.f64.decode x).quotient (double.fractionBits + 2) (FloatKind.f64.decode y))).getD _ = _
    rw [e1, hy]
    unfold Datum.quotient
    simp only []
    rw [if_neg hn]
    have hfr : double.fractionBits + 2 + n.log2 - m.log2 = more := hmore
    rw [hfr]
    rfl
  rw [hf]
  refine (Lg_nearest (A := A - C) ?_ (by omega) (by omega)).mono (by omega)
  by_cases hm : m = 0
  · left; subst hm; simp
  right
  have h3 := e2.resolve_left hm
  have hb : ((m <<< more) % n != 0).toNat ≤ 1 := Bool.toNat_le _
  generalize ((m <<< more) % n != 0).toNat = bb at hb
  have hm2 : m < 2 ^ (m.log2 + 1) := Nat.lt_log2_self
  have hn2 := Nat.log2_self_le hn
  obtain ⟨E, hE⟩ : ∃ E, E + n.log2 = m.log2 + 1 + more := ⟨m.log2 + 1 + more - n.log2, by omega⟩
  have hq : (m <<< more) / n < 2 ^ E := by
    rw [Nat.div_lt_iff_lt_mul (by omega), Nat.shiftLeft_eq]
    calc m * 2 ^ more < 2 ^ (m.log2 + 1) * 2 ^ more := Nat.mul_lt_mul_of_pos_right hm2 (Nat.two_pow_pos _)
      _ = 2 ^ (E + n.log2) := by rw [hE]; exact (Nat.pow_add 2 (m.log2 + 1) more).symm
      _ = 2 ^ E * 2 ^ n.log2 := Nat.pow_add 2 _ _
      _ ≤ 2 ^ E * n := Nat.mul_le_mul_left _ hn2
  generalize (m <<< more) / n = q at hq
  by_cases h0 : 2 * q + bb = 0
  · rw [h0]
    have : Nat.log2 0 = 0 := by decide
    rw [this]; omega
  · have hlt : 2 * q + bb < 2 ^ (E + 1) := by rw [Nat.pow_succ]; omega
    have := (Nat.log2_lt h0).2 hlt
    omega
/-- A place without what lies behind its point. -/
theorem trunc_int {x b : Nat} (hx : x < 18446744073709551616) (hn : isNaN .f64 x = false) (hb : magOf double (x % double.signWeight) ≤ b * U) (hb2 : b ≤ 4503599627370496) : ∃ (N m e : Nat), N ≤ b ∧ ftoint .f64 x .i64 = some (sgn (negOf double x) N) ∧
    (N ≠ 0 → ftow .zero x = fofint .f64 (sgn (negOf double x) N)) ∧ (N = 0 → ftow .zero x = double.word (negOf double x) 0) ∧
    FloatKind.f64.decode x = .number (negOf double x) m (-1074 + (e : Int)) ∧ N * U ≤ m * 2 ^ e ∧ m * 2 ^ e < (N + 1) * U := by
  obtain ⟨d1, d2, d3, d4⟩ := consts64
  have hU := U_pos
  have hle : x % double.signWeight ≤ double.infRung := by rw [isNaN64] at hn; simp at hn; rw [d4, d1]; omega
  have hfin : x % double.signWeight < double.infRung := by
    obtain ⟨q, hq1, hq2⟩ := rung_of (m := 4503599627370496) (by decide)
    have : b * U ≤ 4503599627370496 * U := Nat.mul_le_mul_right _ hb2
    by_cases hc : x % double.signWeight < double.infRung
    · exact hc
    · have : magOf double q < magOf double (x % double.signWeight) := magOf_lt (by omega)
      omega
  obtain ⟨m, e, h1, h2, h3⟩ := read_num hfin
  have hf : ftow .zero x = FloatKind.f64.encode ((FloatKind.f64.decode x).integral .zero) := by unfold ftow; rw [hn]; rfl
  rw [h2] at hb
  have key : ∃ N : Nat, Toward.zero.cut (negOf double x) (m <<< (-1074 + (e : Int)).toNat) (-(-1074 + (e : Int))).toNat = N ∧ N * U ≤ m * 2 ^ e ∧ m * 2 ^ e < (N + 1) * U := by
    by_cases he : 1074 ≤ e
    · have e1 : ((-1074 + (e : Int))).toNat = e - 1074 := by omega
      have e2 : (-(-1074 + (e : Int))).toNat = 0 := by omega
      rw [e1, e2, Nat.shiftLeft_eq]
      refine ⟨m * 2 ^ (e - 1074), cut_zero, ?_, ?_⟩
      · rw [U_up he, ← Nat.mul_assoc]; exact Nat.le_refl _
      · rw [U_up he, ← Nat.mul_assoc, Nat.add_mul]; omega
    · have e1 : ((-1074 + (e : Int))).toNat = 0 := by omega
      have e2 : (-(-1074 + (e : Int))).toNat = 1074 - e := by omega
      rw [e1, e2, Nat.shiftLeft_zero]
      refine ⟨_, rfl, ?_, ?_⟩
      · rw [U_split (e := e) (by omega), ← Nat.mul_assoc]
        exact Nat.mul_le_mul_right _ (cut_low).1
      · rw [U_split (e := e) (by omega), ← Nat.mul_assoc]
        exact Nat.mul_lt_mul_of_pos_right (cut_low).2 (Nat.two_pow_pos e)
  obtain ⟨N, hz, hN1, hN2⟩ := key
  have hNb : N ≤ b := Nat.le_of_mul_le_mul_right (Nat.le_trans hN1 hb) hU
  have hint : (FloatKind.f64.decode x).integral .zero = .number (negOf double x) N 0 := by rw [h1]; simp only [Datum.integral, hz]
  refine ⟨N, m, e, hNb, ?_, fun hne => ?_, fun he => ?_, h1, hN1, hN2⟩
  · unfold ftoint floatToIntVal
    rw [h1]
    simp only [Datum.toInt, Datum.integral, hz]
    have e0 : signed (negOf double x) N 0 = sgn (negOf double x) N := by rw [signed_sgn]; simp
    rw [e0]
    have hmin : IntKind.i64.min = -9223372036854775808 := by decide
    have hmax : IntKind.i64.max = 9223372036854775807 := by decide
    have hs : -4503599627370496 ≤ sgn (negOf double x) N ∧ sgn (negOf double x) N ≤ 4503599627370496 := by unfold sgn; split <;> omega
    rw [hmin, hmax, if_pos ⟨by omega, by omega⟩]
  · rw [hf, hint]
    show double.nearest (negOf double x) N 0 = double.nearest (decide (sgn (negOf double x) N < 0)) (sgn (negOf double x) N).natAbs 0
    have h4 : (sgn (negOf double x) (N : Nat)).natAbs = N := by unfold sgn; split <;> omega
    have h5 : decide (sgn (negOf double x) (N : Nat) < 0) = negOf double x := by
      unfold sgn
      cases negOf double x
      · simp
      · simp; omega
    rw [h4, h5]
  · rw [hf, hint, he]
    show double.nearest _ 0 0 = _
    unfold Format.nearest; rw [if_pos rfl]
/-- What a number is: its parts and its value. -/
def Prt (x : Nat) (s : Bool) (m e : Nat) : Prop := FloatKind.f64.decode x = .number s m (-1074 + (e : Int)) ∧ D x = sgn s (m * 2 ^ e)
theorem Prt_of {x : Nat} (h : x % double.signWeight < double.infRung) : ∃ s m e, Prt x s m e := by
  obtain ⟨m, e, h1, h2, h3⟩ := read_num h
  refine ⟨_, m, e, h1, ?_⟩
  have hD : D x = sgn (negOf double x) (magOf double (x % double.signWeight)) := rfl
  rw [hD, h2]
theorem Prt_int {n : Int} (hn : n.natAbs < 2 ^ 53) : ∃ s m e, Prt (fofint .f64 n) s m e := by
  obtain ⟨d1, d2, d3, d4⟩ := consts64
  obtain ⟨r, h1, h2, h3⟩ := int_word hn
  have hp := word_parts double (decide (n < 0)) (r := r) (by omega)
  rw [← h3] at hp
  exact Prt_of (by rw [hp.1]; exact h1)
theorem sum_exact {s t : Bool} {m n e e2 : Nat} : ∃ (u : Bool) (T : Int) (b : Nat), (Datum.number s m (-1074 + (e : Int))).sum (.number t n (-1074 + (e2 : Int))) = some (.number u T.natAbs (-1074 + (b : Int))) ∧ T * (2 ^ b : Nat) = sgn s (m * 2 ^ e) + sgn t (n * 2 ^ e2) := by
  have hb : min (-1074 + (e : Int)) (-1074 + (e2 : Int)) = -1074 + ((min e e2 : Nat) : Int) := by omega
  refine ⟨if signed s m (e - min e e2) + signed t n (e2 - min e e2) = 0 then s && t else decide (signed s m (e - min e e2) + signed t n (e2 - min e e2) < 0), signed s m (e - min e e2) + signed t n (e2 - min e e2), min e e2, ?_, ?_⟩
  · unfold Datum.sum
    simp only [hb]
    have t1 : (-1074 + (e : Int) - (-1074 + ((min e e2 : Nat) : Int))).toNat = e - min e e2 := by omega
    have t2 : (-1074 + (e2 : Int) - (-1074 + ((min e e2 : Nat) : Int))).toNat = e2 - min e e2 := by omega
    rw [t1, t2]
  · rw [signed_sgn, signed_sgn, Int.add_mul, ← sgn_mul, ← sgn_mul, Nat.mul_assoc, Nat.mul_assoc, ← Nat.pow_add, ← Nat.pow_add]
    have w1 : e - min e e2 + min e e2 = e := by omega
    have w2 : e2 - min e e2 + min e e2 = e2 := by omega
    rw [w1, w2]
theorem sgn_not {s : Bool} {n : Nat} : sgn (!s) n = - sgn s n := by unfold sgn; cases s <;> simp
theorem exact_place {T : Int} {b c : Nat} (h : (T * (2 ^ b : Nat)).natAbs < 2 ^ c) : T.natAbs = 0 ∨ (-1074 + (b : Int)) + T.natAbs.log2 ≤ (c : Int) - 1075 := by
  rw [Int.natAbs_mul, Int.natAbs_natCast] at h
  rcases place_lt h with q | q
  · exact .inl q
  · right; omega
theorem Lg_diff {x y : Nat} {s t : Bool} {m n e e2 c : Nat} (hx : Prt x s m e) (hy : Prt y t n e2) (h : (D x - D y).natAbs < 2 ^ c) (h1 : 200 ≤ c) (h2 : c ≤ 1900) : Lg (fbin .sub .f64 x y) ((c : Int) - 1074) := by
  obtain ⟨u, T, b, g1, g2⟩ := sum_exact (s := s) (t := !t) (m := m) (n := n) (e := e) (e2 := e2)
  have hf : fbin .sub .f64 x y = double.nearest u T.natAbs (-1074 + (b : Int)) := by
    show (Option.map double.write ((FloatKind.f64.decode x).sum (FloatKind.f64.decode y).opposite)).getD _ = _
    rw [hx.1, hy.1]
    show (Option.map double.write ((Datum.number s m _).sum (.number (!t) n _))).getD _ = _
    rw [g1]; rfl
  rw [sgn_not, ← Int.sub_eq_add_neg, ← hx.2, ← hy.2] at g2
  rw [hf]
  rw [← g2] at h
  exact (Lg_nearest (exact_place h) (by omega) (by omega)).mono (by omega)
theorem Lg_plus {x y : Nat} {s t : Bool} {m n e e2 c : Nat} (hx : Prt x s m e) (hy : Prt y t n e2) (h : (D x + D y).natAbs < 2 ^ c) (h1 : 200 ≤ c) (h2 : c ≤ 1900) : Lg (fbin .add .f64 x y) ((c : Int) - 1074) := by
  obtain ⟨u, T, b, g1, g2⟩ := sum_exact (s := s) (t := t) (m := m) (n := n) (e := e) (e2 := e2)
  have hf : fbin .add .f64 x y = double.nearest u T.natAbs (-1074 + (b : Int)) := by
    show (Option.map double.write ((FloatKind.f64.decode x).sum (FloatKind.f64.decode y))).getD _ = _
    rw [hx.1, hy.1, g1]; rfl
  rw [← hx.2, ← hy.2] at g2
  rw [hf]
  rw [← g2] at h
  exact (Lg_nearest (exact_place h) (by omega) (by omega)).mono (by omega)
end Go.E
