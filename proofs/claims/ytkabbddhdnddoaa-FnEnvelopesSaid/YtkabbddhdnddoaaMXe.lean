/- How far a rounded product, sum or quotient of float64s lies from the exact one. Plain lemmas; no condition. -/
import Derived.Test.YtkabbddhdnddoaaMXq
set_option linter.unusedVariables false
set_option linter.unusedSimpArgs false
set_option exponentiation.threshold 3000
namespace Go.E
open Go Ieee
theorem mag_at {a c : Nat} (h1 : c ≤ 2 * 4503599627370496) (h2 : a = 0 ∨ 4503599627370496 ≤ c) : magOf double (a * 4503599627370496 + c) = c * 2 ^ a := by
  obtain ⟨d1, d2, d3, d4⟩ := consts64
  unfold magOf
  rw [d2]
  by_cases hc : c < 4503599627370496
  · have ha : a = 0 := by rcases h2 with h2 | h2 <;> omega
    subst ha
    rw [if_pos (by omega)]
    simp
  · rw [if_neg (by omega)]
    by_cases he : c = 2 * 4503599627370496
    · have q1 : (a * 4503599627370496 + c) % 4503599627370496 = 0 := by omega
      have q2 : (a * 4503599627370496 + c) / 4503599627370496 - 1 = a + 1 := by omega
      rw [q1, q2, he, Nat.pow_succ]
      simp only [Nat.add_zero]
      rw [Nat.mul_comm (2 ^ a) 2, ← Nat.mul_assoc, Nat.mul_comm 4503599627370496 2]
    · have q1 : (a * 4503599627370496 + c) % 4503599627370496 = c - 4503599627370496 := by omega
      have q2 : (a * 4503599627370496 + c) / 4503599627370496 - 1 = a := by omega
      have q3 : 4503599627370496 + (c - 4503599627370496) = c := by omega
      rw [q1, q2, q3]
/-- What is written of a number not above eight is off by not more than 2^-49. -/
theorem near_err {neg : Bool} {mag A B : Nat} (h : mag * 2 ^ A ≤ 2 ^ 1077 * 2 ^ B) : ∃ r, r < double.infRung ∧ double.nearest neg mag ((A : Int) - B - 1074) = double.word neg r ∧
    magOf double r * 2 ^ B ≤ mag * 2 ^ A + 2 ^ 1025 * 2 ^ B ∧ mag * 2 ^ A ≤ magOf double r * 2 ^ B + 2 ^ 1025 * 2 ^ B := by
  obtain ⟨d1, d2, d3, d4⟩ := consts64
  have hfr : double.fractionBits = 52 := rfl
  by_cases h0 : mag = 0
  · refine ⟨0, by rw [d1]; decide, ?_, ?_, ?_⟩
    · rw [nearest_rung]; unfold rungOf; rw [if_pos h0, Nat.zero_min]
    · rw [magOf_zero, Nat.zero_mul]; exact Nat.zero_le _
    · rw [h0, Nat.zero_mul]; exact Nat.zero_le _
  have hlog : mag.log2 + A ≤ 1077 + B := by
    have := log2_mono (Nat.mul_ne_zero h0 (Nat.ne_of_gt (Nat.two_pow_pos A))) h
    rw [log2_shift h0, ← Nat.pow_add, Nat.log2_two_pow] at this
    exact this
  obtain ⟨l, hl⟩ : ∃ l, max ((A : Int) - B - 1074 + (mag.log2 : Int) - ((52 : Nat) : Int)) (-1074) = l := ⟨_, rfl⟩
  obtain ⟨k, hk⟩ : ∃ k, ((A : Int) - B - 1074 - l).toNat = k := ⟨_, rfl⟩
  obtain ⟨d, hd⟩ : ∃ d, (l - ((A : Int) - B - 1074)).toNat = d := ⟨_, rfl⟩
  obtain ⟨a, ha⟩ : ∃ a : Nat, (l - -1074).toNat = a := ⟨_, rfl⟩
  obtain ⟨c, hc⟩ : ∃ c, Toward.even.cut neg (mag <<< k) d = c := ⟨_, rfl⟩
  have hR : rungOf double neg mag ((A : Int) - B - 1074) = a * 4503599627370496 + c := by
    unfold rungOf
    rw [if_neg h0]
    simp only []
    rw [hfr, d2, d3, hl, hk, hd, ha, hc]
  have hshift : mag <<< k = mag * 2 ^ k := Nat.shiftLeft_eq _ _
  have hm1 := Nat.log2_self_le h0
  have hm2 : mag < 2 ^ (mag.log2 + 1) := Nat.lt_log2_self
  have c1 : c ≤ 2 * 4503599627370496 := by
    rw [← hc]
    refine (even_cut).2 ?_
    have e53 : 2 * 4503599627370496 = 2 ^ 53 := by decide
    rw [e53, hshift, ← Nat.pow_add]
    calc mag * 2 ^ k ≤ 2 ^ (mag.log2 + 1) * 2 ^ k := Nat.mul_le_mul_right _ (Nat.le_of_lt hm2)
      _ = 2 ^ (mag.log2 + 1 + k) := (Nat.pow_add 2 _ _).symm
      _ ≤ _ := Nat.pow_le_pow_right (by omega) (by omega)
  have c2 : a = 0 ∨ 4503599627370496 ≤ c := by
    by_cases ha0 : a = 0
    · exact .inl ha0
    · right
      rw [← hc]
      refine (even_cut).1 ?_
      have e52 : 4503599627370496 = 2 ^ 52 := by decide
      rw [e52, hshift, ← Nat.pow_add]
      calc 2 ^ (52 + d) ≤ 2 ^ (mag.log2 + k) := Nat.pow_le_pow_right (by omega) (by omega)
        _ = 2 ^ mag.log2 * 2 ^ k := Nat.pow_add 2 _ _
        _ ≤ _ := Nat.mul_le_mul_right _ hm1
  have ha2 : a ≤ 1025 := by omega
  have hr : a * 4503599627370496 + c < double.infRung := by
    have : a * 4503599627370496 ≤ 1025 * 4503599627370496 := Nat.mul_le_mul_right _ ha2
    rw [d1]; omega
  refine ⟨a * 4503599627370496 + c, hr, ?_, ?_⟩
  · rw [nearest_rung, hR, Nat.min_eq_left (by omega)]
  rw [mag_at c1 c2]
  obtain ⟨n1, n2, _, _⟩ := cut_near (neg := neg) (n := mag <<< k) (d := d)
  rw [hc, hshift] at n1 n2
  have hab : a + B + k = A + d := by omega
  have hpa : 2 ^ a ≤ 2 ^ 1025 := Nat.pow_le_pow_right (by omega) ha2
  have hpa2 := Nat.mul_le_mul_right (2 ^ B) hpa
  have hpk := Nat.two_pow_pos k
  have e1 : 2 ^ a * 2 ^ B * 2 ^ k = 2 ^ A * 2 ^ d := by rw [← Nat.pow_add, ← Nat.pow_add, ← Nat.pow_add, hab]
  have n1' := Nat.mul_le_mul_right (2 ^ A) n1
  have n2' := Nat.mul_le_mul_right (2 ^ A) n2
  have f1 : (2 * c + 1) * 2 ^ d * 2 ^ A = (2 * c + 1) * (2 ^ a * 2 ^ B) * 2 ^ k := by rw [Nat.mul_assoc, Nat.mul_comm (2 ^ d), ← e1, Nat.mul_assoc (2 * c + 1)]
  have f2 : 2 * (mag * 2 ^ k) * 2 ^ A = 2 * (mag * 2 ^ A) * 2 ^ k := by ac_rfl
  have f3 : 2 * c * 2 ^ d * 2 ^ A = 2 * c * (2 ^ a * 2 ^ B) * 2 ^ k := by rw [Nat.mul_assoc (2 * c), Nat.mul_comm (2 ^ d), ← e1, Nat.mul_assoc (2 * c)]
  have f4 : (2 * (mag * 2 ^ k) + 2 ^ d) * 2 ^ A = (2 * (mag * 2 ^ A) + 2 ^ a * 2 ^ B) * 2 ^ k := by
    rw [Nat.add_mul, f2, Nat.add_mul, e1, Nat.mul_comm (2 ^ d)]
  rw [f2, f1] at n1'
  rw [f3, f4] at n2'
  have m1 := Nat.le_of_mul_le_mul_right n1' hpk
  have m2 := Nat.le_of_mul_le_mul_right n2' hpk
  have g1 : (2 * c + 1) * (2 ^ a * 2 ^ B) = 2 * (c * 2 ^ a * 2 ^ B) + 2 ^ a * 2 ^ B := by rw [Nat.add_mul, Nat.one_mul, Nat.mul_assoc, Nat.mul_assoc]
  have g2 : 2 * c * (2 ^ a * 2 ^ B) = 2 * (c * 2 ^ a * 2 ^ B) := by rw [Nat.mul_assoc, Nat.mul_assoc]
  rw [g1] at m1
  rw [g2] at m2
  generalize c * 2 ^ a * 2 ^ B = X at *
  generalize 2 ^ a * 2 ^ B = Y at *
  generalize mag * 2 ^ A = Z at *
  generalize 2 ^ 1025 * 2 ^ B = W at *
  omega
def FinD (x : Nat) : Prop := ∃ s m e, Prt x s m e
def eE : Int := 2 ^ 1025
theorem FinD.word {s : Bool} {r : Nat} (h : r < double.infRung) : FinD (double.word s r) ∧ D (double.word s r) = sgn s (magOf double r) := by
  obtain ⟨m, e, h1, _⟩ := Prt_word (s := s) h
  exact ⟨⟨s, m, e, h1⟩, D_word (by omega)⟩
theorem sgn_natAbs {s : Bool} {n : Nat} : (sgn s n).natAbs = n := by unfold sgn; split <;> omega
theorem mul_err {x y : Nat} (hx : FinD x) (hy : FinD y) (h : (D x * D y).natAbs ≤ 2 ^ 1077 * U) : FinD (fbin .mul .f64 x y) ∧ D (fbin .mul .f64 x y) * U ≤ D x * D y + eE * U ∧ D x * D y ≤ D (fbin .mul .f64 x y) * U + eE * U := by
  obtain ⟨s, m, e, p1, p2⟩ := hx
  obtain ⟨t, n, j, q1, q2⟩ := hy
  have hf : fbin .mul .f64 x y = double.nearest (s ^^ t) (m * n) (((e + j : Nat) : Int) - ((1074 : Nat) : Int) - 1074) := by
    rw [fbin_mul (d := .number (s ^^ t) (m * n) (-1074 + (e : Int) + (-1074 + (j : Int)))) (by rw [p1, q1]; rfl)]
    show double.nearest _ _ _ = _
    congr 1; omega
  have hv : D x * D y = sgn (s ^^ t) (m * n * 2 ^ (e + j)) := by
    rw [p2, q2, ← sgn_mul2]
    congr 1
    rw [Nat.pow_add]; ac_rfl
  rw [hv, sgn_natAbs, U_pow] at h
  obtain ⟨r, r1, r2, r3, r4⟩ := near_err (neg := s ^^ t) h
  rw [← U_pow] at r3 r4
  rw [hf, r2, hv]
  obtain ⟨w1, w2⟩ := FinD.word (s := s ^^ t) r1
  refine ⟨w1, ?_⟩
  rw [w2, ← sgn_mul]
  have hE : eE * (U : Int) = ((2 ^ 1025 * U : Nat) : Int) := by unfold eE; rw [Int.natCast_mul]; rfl
  rw [hE]
  generalize 2 ^ 1025 * U = E at *
  generalize magOf double r * U = X at *
  generalize m * n * 2 ^ (e + j) = Y at *
  unfold sgn
  split <;> omega
theorem sum_err {x y z : Nat} {s2 : Bool} {n j : Nat} {dy : Datum} (hx : FinD x) (hz : fbin .add .f64 x y = z ∨ fbin .sub .f64 x y = z) (hd : ((FloatKind.f64.decode x).sum dy).map double.write = some z) (hy : dy = .number s2 n (-1074 + (j : Int))) (h : (D x + sgn s2 (n * 2 ^ j)).natAbs ≤ 2 ^ 1077) :
    FinD z ∧ D z ≤ D x + sgn s2 (n * 2 ^ j) + eE ∧ D x + sgn s2 (n * 2 ^ j) ≤ D z + eE := by
  obtain ⟨s, m, e, p1, p2⟩ := hx
  obtain ⟨u, T, b, g1, g2, g3⟩ := sum_exactG (c := -1074) (s := s) (t := s2) (m := m) (n := n) (e := e) (e2 := j)
  rw [p1, hy, g1] at hd
  have hz2 : double.nearest u T.natAbs ((b : Int) - ((0 : Nat) : Int) - 1074) = z := by
    have hd2 : double.nearest u T.natAbs (-1074 + (b : Int)) = z := Option.some.inj hd
    rw [← hd2]; congr 1 <;> omega
  rw [p2, ← g2] at h ⊢
  have ha : T.natAbs * 2 ^ b = (T * (2 ^ b : Nat)).natAbs := by rw [Int.natAbs_mul, Int.natAbs_natCast]
  obtain ⟨r, r1, r2, r3, r4⟩ := near_err (neg := u) (mag := T.natAbs) (A := b) (B := 0) (by rw [ha, Nat.pow_zero, Nat.mul_one]; exact h)
  rw [hz2] at r2
  subst r2
  obtain ⟨w1, w2⟩ := FinD.word (s := u) r1
  refine ⟨w1, ?_⟩
  rw [w2]
  rw [ha, Nat.pow_zero, Nat.mul_one, Nat.mul_one] at r3 r4
  have hE : eE = ((2 ^ 1025 : Nat) : Int) := rfl
  rw [hE]
  have hs : T * (2 ^ b : Nat) ≠ 0 → u = decide (T * (2 ^ b : Nat) < 0) := by
    intro h0
    have hT : T ≠ 0 := fun q => h0 (by rw [q, Int.zero_mul])
    rw [g3 hT]
    have hp : (0 : Int) < ((2 ^ b : Nat) : Int) := by have := Nat.two_pow_pos b; omega
    generalize ((2 ^ b : Nat) : Int) = P at *
    by_cases hn : T < 0
    · have := Int.mul_neg_of_neg_of_pos hn hp
      simp [hn, this]
    · have := Int.mul_nonneg (show 0 ≤ T by omega) (show 0 ≤ P by omega)
      have h2 : ¬ T * P < 0 := by omega
      simp [hn, h2]
  generalize (2 ^ 1025 : Nat) = E at *
  generalize T * (2 ^ b : Nat) = Y at *
  generalize magOf double r = X at *
  unfold sgn
  by_cases h0 : Y = 0
  · split <;> omega
  · have := hs h0
    by_cases hn : Y < 0
    · rw [this]; simp only [hn, decide_true, if_true]; omega
    · rw [this]; simp only [hn, decide_false, Bool.false_eq_true, if_false]; omega
theorem add_err {x y : Nat} (hx : FinD x) (hy : FinD y) (h : (D x + D y).natAbs ≤ 2 ^ 1077) : FinD (fbin .add .f64 x y) ∧ D (fbin .add .f64 x y) ≤ D x + D y + eE ∧ D x + D y ≤ D (fbin .add .f64 x y) + eE := by
  obtain ⟨t, n, j, q1, q2⟩ := hy
  rw [q2] at h ⊢
  refine sum_err (dy := .number t n (-1074 + (j : Int))) hx (.inl rfl) ?_ rfl h
  obtain ⟨s, m, e, p1, p2⟩ := hx
  obtain ⟨u, T, b, g1, g2, g3⟩ := sum_exactG (c := -1074) (s := s) (t := t) (m := m) (n := n) (e := e) (e2 := j)
  show _ = some ((Option.map double.write ((FloatKind.f64.decode x).sum (FloatKind.f64.decode y))).getD _)
  rw [p1, q1, g1]; rfl
theorem sub_err {x y : Nat} (hx : FinD x) (hy : FinD y) (h : (D x - D y).natAbs ≤ 2 ^ 1077) : FinD (fbin .sub .f64 x y) ∧ D (fbin .sub .f64 x y) ≤ D x - D y + eE ∧ D x - D y ≤ D (fbin .sub .f64 x y) + eE := by
  obtain ⟨t, n, j, q1, q2⟩ := hy
  rw [q2, Int.sub_eq_add_neg, ← sgn_not] at h ⊢
  refine sum_err (dy := .number (!t) n (-1074 + (j : Int))) hx (.inr rfl) ?_ rfl h
  obtain ⟨s, m, e, p1, p2⟩ := hx
  obtain ⟨u, T, b, g1, g2, g3⟩ := sum_exactG (c := -1074) (s := s) (t := !t) (m := m) (n := n) (e := e) (e2 := j)
  show _ = some ((Option.map double.write ((FloatKind.f64.decode x).sum (FloatKind.f64.decode y).opposite)).getD _)
  rw [p1, q1]
  show _ = some ((Option.map double.write ((Datum.number s m _).sum (.number (!t) n _))).getD _)
  rw [g1]; rfl
theorem quo_end {s : Bool} {X Y Q W : Nat} (t3 : X ≤ Y + Q + W) (t4 : Y ≤ X + W + Q) (hp : Q ≤ W) : sgn s X ≤ sgn s Y + ((2 * W : Nat) : Int) ∧ sgn s Y ≤ sgn s X + ((2 * W : Nat) : Int) := by
  unfold sgn
  split <;> omega
/-- A quotient by a whole number. -/
theorem quo_err {x y N J : Nat} (hx : FinD x) (hy : FloatKind.f64.decode y = .number false (N * 2 ^ J) (-((J : Nat) : Int))) (hN : 1 ≤ N) (hN2 : N ≤ 1000) (h : (D x).natAbs ≤ 2 ^ 1076) :
    FinD (fbin .quo .f64 x y) ∧ D (fbin .quo .f64 x y) * N ≤ D x + eE * (2 * N) ∧ D x ≤ D (fbin .quo .f64 x y) * N + eE * (2 * N) := by
  obtain ⟨s, m, e, p1, p2⟩ := hx
  obtain ⟨n, hn⟩ : ∃ n, N * 2 ^ J = n := ⟨_, rfl⟩
  rw [hn] at hy
  have hn0 : n ≠ 0 := by rw [← hn]; exact Nat.ne_of_gt (Nat.mul_pos (by omega) (Nat.two_pow_pos J))
  have hml := log_of_decode p1
  generalize hmore : 54 + n.log2 - m.log2 = more
  have hf : fbin .quo .f64 x y = double.nearest (s ^^ false) (2 * ((m <<< more) / n) + ((m <<< more) % n != 0).toNat) (-1074 + (e : Int) - -((J : Nat) : Int) - (more : Int) - 1) := by
    show (Option.map double.write ((FloatKind.f64.decode x).quotient (double.fractionBits + 2) (FloatKind.f64.decode y))).getD _ = _
    rw [p1, hy]
    unfold Datum.quotient
    simp only []
    rw [if_neg hn0]
    have hfr : double.fractionBits + 2 + n.log2 - m.log2 = more := hmore
    rw [hfr]
    rfl
  rw [Bool.xor_false, show -1074 + (e : Int) - -((J : Nat) : Int) - (more : Int) - 1 = ((e + J : Nat) : Int) - ((more + 1 : Nat) : Int) - 1074 by omega] at hf
  obtain ⟨mag, hmag⟩ : ∃ mag, 2 * ((m <<< more) / n) + ((m <<< more) % n != 0).toNat = mag := ⟨_, rfl⟩
  rw [hmag] at hf
  -- the quotient and what is taken for it
  have hq : mag * n ≤ 2 * (m * 2 ^ more) + n ∧ 2 * (m * 2 ^ more) ≤ mag * n + n := by
    rw [← hmag, Nat.shiftLeft_eq]
    have h1 := Nat.div_add_mod (m * 2 ^ more) n
    have h2 := Nat.mod_lt (m * 2 ^ more) (Nat.pos_of_ne_zero hn0)
    generalize (m * 2 ^ more) / n = q at *
    generalize hr : (m * 2 ^ more) % n = r at *
    rw [← h1]
    have e1 : ∀ b, (2 * q + b) * n = 2 * (n * q) + b * n := fun b => by rw [Nat.add_mul, Nat.mul_assoc, Nat.mul_comm q]
    by_cases hr0 : r = 0
    · have : (r != 0).toNat = 0 := by simp [hr0]
      rw [this, e1, Nat.zero_mul]; omega
    · have : (r != 0).toNat = 1 := by simp [hr0]
      rw [this, e1, Nat.one_mul]; omega
  -- how great n is beside the dividend
  have hnb : m ≠ 0 → n * 2 ^ 54 ≤ 2 ^ (more + 1) * m := by
    intro hm
    have a1 : n < 2 ^ (n.log2 + 1) := Nat.lt_log2_self
    have a2 := Nat.log2_self_le hm
    calc n * 2 ^ 54 ≤ 2 ^ (n.log2 + 1) * 2 ^ 54 := Nat.mul_le_mul_right _ (Nat.le_of_lt a1)
      _ = 2 ^ (more + 1 + m.log2) := by rw [← Nat.pow_add]; congr 1; omega
      _ = 2 ^ (more + 1) * 2 ^ m.log2 := Nat.pow_add 2 _ _
      _ ≤ _ := Nat.mul_le_mul_left _ a2
  have hX : (D x).natAbs = m * 2 ^ e := by rw [p2, sgn_natAbs]
  rw [hX] at h
  -- everything times 2^e
  obtain ⟨B, hB⟩ : ∃ B, more + 1 = B := ⟨_, rfl⟩
  have k1 := Nat.mul_le_mul_right (2 ^ e) hq.1
  have k2 := Nat.mul_le_mul_right (2 ^ e) hq.2
  have w1 : mag * n * 2 ^ e = N * (mag * 2 ^ (e + J)) := by rw [← hn, Nat.pow_add]; ac_rfl
  have w2 : 2 * (m * 2 ^ more) * 2 ^ e = m * 2 ^ e * 2 ^ B := by rw [← hB, Nat.pow_succ]; ac_rfl
  rw [Nat.add_mul, w1, w2] at k1 k2
  have hB0 := Nat.two_pow_pos B
  have key : N * (mag * 2 ^ (e + J)) ≤ m * 2 ^ e * 2 ^ B + 2 ^ 1022 * 2 ^ B ∧ m * 2 ^ e * 2 ^ B ≤ N * (mag * 2 ^ (e + J)) + 2 ^ 1022 * 2 ^ B := by
    by_cases hm : m = 0
    · have hm0 : mag = 0 := by rw [← hmag, hm, Nat.shiftLeft_eq, Nat.zero_mul, Nat.zero_div, Nat.zero_mod]; rfl
      rw [hm0, hm]; simp
    · have b1 := Nat.mul_le_mul_right (2 ^ e) (hnb hm)
      rw [hB] at b1
      have b2 : 2 ^ B * m * 2 ^ e = m * 2 ^ e * 2 ^ B := by ac_rfl
      rw [b2] at b1
      have b3 := Nat.mul_le_mul_right (2 ^ B) h
      have b4 : n * 2 ^ 54 * 2 ^ e = n * 2 ^ e * 2 ^ 54 := by ac_rfl
      rw [b4] at b1
      have b5 : 2 ^ 1076 * 2 ^ B = 2 ^ 1022 * 2 ^ B * 2 ^ 54 := by
        rw [show 1076 = 1022 + 54 by omega, Nat.pow_add]; ac_rfl
      rw [b5] at b3
      have := Nat.le_of_mul_le_mul_right (Nat.le_trans b1 b3) (Nat.two_pow_pos 54)
      exact ⟨Nat.le_trans k1 (Nat.add_le_add_left this _), Nat.le_trans k2 (Nat.add_le_add_left this _)⟩
  obtain ⟨key1, key2⟩ := key
  have hcap : mag * 2 ^ (e + J) ≤ 2 ^ 1077 * 2 ^ B := by
    have a1 : mag * 2 ^ (e + J) ≤ N * (mag * 2 ^ (e + J)) := Nat.le_mul_of_pos_left _ (by omega)
    have a2 : m * 2 ^ e * 2 ^ B ≤ 2 ^ 1076 * 2 ^ B := Nat.mul_le_mul_right _ h
    have a3 : 2 ^ 1022 * 2 ^ B ≤ 2 ^ 1076 * 2 ^ B := Nat.mul_le_mul_right _ (Nat.pow_le_pow_right (by omega) (by omega))
    have a4 : 2 ^ 1077 * 2 ^ B = 2 ^ 1076 * 2 ^ B + 2 ^ 1076 * 2 ^ B := by rw [show 1077 = 1076 + 1 by omega, Nat.pow_succ, Nat.mul_two, Nat.add_mul]
    rw [a4]
    exact Nat.le_trans a1 (Nat.le_trans key1 (Nat.add_le_add a2 a3))
  obtain ⟨r, r1, r2, r3, r4⟩ := near_err (neg := s) hcap
  rw [← hB] at r2 
  rw [hf, r2]
  obtain ⟨v1, v2⟩ := FinD.word (s := s) r1
  refine ⟨v1, ?_⟩
  rw [v2]
  have j3 := Nat.mul_le_mul_left N r3
  have j4 := Nat.mul_le_mul_left N r4
  rw [Nat.mul_add] at j3 j4
  have s1 : N * (magOf double r * 2 ^ B) = magOf double r * N * 2 ^ B := by ac_rfl
  have s2 : N * (2 ^ 1025 * 2 ^ B) = N * 2 ^ 1025 * 2 ^ B := by ac_rfl
  rw [s1, s2] at j3 j4
  have t1 : magOf double r * N * 2 ^ B ≤ (m * 2 ^ e + 2 ^ 1022 + N * 2 ^ 1025) * 2 ^ B := by
    rw [Nat.add_mul, Nat.add_mul]; omega
  have t2 : m * 2 ^ e * 2 ^ B ≤ (magOf double r * N + N * 2 ^ 1025 + 2 ^ 1022) * 2 ^ B := by
    rw [Nat.add_mul, Nat.add_mul]; omega
  have t3 := Nat.le_of_mul_le_mul_right t1 hB0
  have t4 := Nat.le_of_mul_le_mul_right t2 hB0
  have hp : 2 ^ 1022 ≤ N * 2 ^ 1025 := Nat.le_trans (Nat.pow_le_pow_right (by omega) (by omega : 1022 ≤ 1025)) (Nat.le_mul_of_pos_left _ (by omega))
  have hE : eE * (2 * (N : Int)) = ((2 * (N * 2 ^ 1025) : Nat) : Int) := by
    unfold eE
    rw [Int.natCast_mul, Int.natCast_mul]
    show (2 ^ 1025 : Int) * (2 * (N : Int)) = 2 * ((N : Int) * (2 ^ 1025 : Int))
    rw [Int.mul_left_comm, Int.mul_comm (2 ^ 1025)]
  rw [hE, p2, ← sgn_mul]
  exact quo_end t3 t4 hp
end Go.E
