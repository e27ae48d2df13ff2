/- The sine lies from -1 to 1: its polynomial (rationals), what rounding adds, and how it narrows. Plain lemmas; no condition. -/
import Derived.Test.YtkabbddhdnddoaaMXe
import Derived.Test.YtkabbddhdnddoaaMSp
set_option linter.unusedVariables false
set_option linter.unusedSimpArgs false
set_option exponentiation.threshold 3000
namespace Go.E
open Go Ieee
def nR (i : Nat) : Rat := (((2 * (8 - (i : Int)) * (2 * (8 - (i : Int)) + 1) : Int)) : Rat)
def RR (v : Rat) : Nat → Rat
  | 0 => 1
  | i + 1 => 1 - v * RR v i / nR i
def C8 (v : Rat) : Rat := 1 - v * (1 - v * (1 - v * (1 - v * (1 - v * (1 - v * (1 - v * (1 - v / 240) / 182) / 132) / 90) / 56) / 30) / 12) / 2
def S8 (v : Rat) : Rat := 1 - v * (1 - v * (1 - v * (1 - v * (1 - v * (1 - v * (1 - v * (1 - v / 272) / 210) / 156) / 110) / 72) / 42) / 20) / 6
def E9 (v : Rat) : Rat := ((1/3201186852864000) + v * ((-1/7113748561920000) + v * ((1/93901481017344000) + v * ((-1/3073139378749440000) + v * ((1/186437122310799360000) + v * ((-1/18070059547046707200000) + v * ((1/2555622707368034304000000) + v * ((-1/496131554923714392883200000) + v * (1/126513546505547170185216000000)))))))))
theorem RR8 (v : Rat) : RR v 8 = S8 v := by
  have n0 : nR 0 = 272 := by decide +kernel
  have n1 : nR 1 = 210 := by decide +kernel
  have n2 : nR 2 = 156 := by decide +kernel
  have n3 : nR 3 = 110 := by decide +kernel
  have n4 : nR 4 = 72 := by decide +kernel
  have n5 : nR 5 = 42 := by decide +kernel
  have n6 : nR 6 = 20 := by decide +kernel
  have n7 : nR 7 = 6 := by decide +kernel
  simp only [RR, n0, n1, n2, n3, n4, n5, n6, n7, S8]
  grind
theorem sq_id (v : Rat) : v * (S8 v * S8 v) + C8 v * C8 v = 1 + v * (v * (v * (v * (v * (v * (v * (v * (v * E9 v)))))))) := by
  unfold S8 C8 E9
  grind
theorem ab_mul {a b A B : Rat} (ha : -A ≤ a ∧ a ≤ A) (hb : -B ≤ b ∧ b ≤ B) : -(A * B) ≤ a * b ∧ a * b ≤ A * B := by
  have hA : 0 ≤ A := by grind
  have hB : 0 ≤ B := by grind
  have h1 : 0 ≤ (A - a) * (B - b) := Rat.mul_nonneg (by grind) (by grind)
  have h2 : 0 ≤ (A + a) * (B + b) := Rat.mul_nonneg (by grind) (by grind)
  have h3 : 0 ≤ (A - a) * (B + b) := Rat.mul_nonneg (by grind) (by grind)
  have h4 : 0 ≤ (A + a) * (B - b) := Rat.mul_nonneg (by grind) (by grind)
  constructor <;> grind
theorem ab_add {a b A B : Rat} (ha : -A ≤ a ∧ a ≤ A) (hb : -B ≤ b ∧ b ≤ B) : -(A + B) ≤ a + b ∧ a + b ≤ A + B := by
  constructor <;> grind
theorem ab_le {a A B : Rat} (ha : -A ≤ a ∧ a ≤ A) (h : A ≤ B) : -B ≤ a ∧ a ≤ B := by
  constructor <;> grind
theorem E9_le {v : Rat} (h0 : 0 ≤ v) (h1 : v ≤ 5/2) : v * (v * (v * (v * (v * (v * (v * (v * (v * E9 v)))))))) ≤ 1/100000000000 := by
  have hv : -(5/2) ≤ v ∧ v ≤ 5/2 := by constructor <;> grind
  have k : ∀ {y c A B : Rat}, (-A ≤ y ∧ y ≤ A) → (-B ≤ c ∧ c ≤ B) → (-(B + 5/2 * A) ≤ c + v * y ∧ c + v * y ≤ B + 5/2 * A) := fun hy hc => ab_add hc (ab_mul hv hy)
  have c : ∀ {x : Rat}, 0 ≤ x → -x ≤ x ∧ x ≤ x := fun h => ⟨by grind, by grind⟩
  have d : ∀ {x : Rat}, x ≤ 0 → -(-x) ≤ x ∧ x ≤ -x := fun h => ⟨by grind, by grind⟩
  have e := k (k (k (k (k (k (k (k (c (x := 1/126513546505547170185216000000) (by decide +kernel)) (d (x := -1/496131554923714392883200000) (by decide +kernel))) (c (x := 1/2555622707368034304000000) (by decide +kernel))) (d (x := -1/18070059547046707200000) (by decide +kernel))) (c (x := 1/186437122310799360000) (by decide +kernel))) (d (x := -1/3073139378749440000) (by decide +kernel))) (c (x := 1/93901481017344000) (by decide +kernel))) (d (x := -1/7113748561920000) (by decide +kernel))) (c (x := 1/3201186852864000) (by decide +kernel))
  have w := ab_le e (B := 1/1000000000000000) (by decide +kernel)
  have m := fun {y A : Rat} (hy : -A ≤ y ∧ y ≤ A) => ab_mul hv hy
  have z := m (m (m (m (m (m (m (m (m w))))))))
  exact Rat.le_trans z.2 (by decide +kernel)
theorem sin_le {x : Rat} (h0 : -(158/100) ≤ x) (h1 : x ≤ 158/100) : -(1 + 1/100000000000) ≤ x * S8 (x * x) ∧ x * S8 (x * x) ≤ 1 + 1/100000000000 := by
  have hx := ab_mul (a := x) (b := x) ⟨h0, h1⟩ ⟨h0, h1⟩
  have hv0 : 0 ≤ x * x := by
    rcases Rat.le_total (a := 0) (b := x) with h | h
    · exact Rat.mul_nonneg h h
    · have := Rat.mul_nonneg (show 0 ≤ -x by grind) (show 0 ≤ -x by grind)
      grind
  have he := E9_le hv0 (by have := hx.2; grind)
  have hi := sq_id (x * x)
  have hc : 0 ≤ C8 (x * x) * C8 (x * x) := by
    generalize C8 (x * x) = c
    rcases Rat.le_total (a := 0) (b := c) with h | h
    · exact Rat.mul_nonneg h h
    · have := Rat.mul_nonneg (show 0 ≤ -c by grind) (show 0 ≤ -c by grind)
      grind
  generalize C8 (x * x) * C8 (x * x) = c at *
  generalize (x * x) * ((x * x) * ((x * x) * ((x * x) * ((x * x) * ((x * x) * ((x * x) * ((x * x) * ((x * x) * E9 (x * x))))))))) = e at *
  have hs : (x * S8 (x * x)) * (x * S8 (x * x)) ≤ 1 + 1/100000000000 := by grind
  generalize x * S8 (x * x) = s at *
  constructor
  · apply Rat.not_lt.1
    intro h
    have := Rat.mul_nonneg (show 0 ≤ -s - (1 + 1/100000000000) by grind) (show 0 ≤ -s - 1 by grind)
    grind
  · apply Rat.not_lt.1
    intro h
    have := Rat.mul_nonneg (show 0 ≤ s - (1 + 1/100000000000) by grind) (show 0 ≤ s - 1 by grind)
    grind
theorem rung_mono32 {s t : Bool} {m M a A : Nat} {c : Int} (h : m * 2 ^ a ≤ M * 2 ^ A) : rungOf single s m ((a : Int) - c) ≤ rungOf single t M ((A : Int) - c) := by
  obtain ⟨d1, d2, d3, d4⟩ := consts32
  have hf : single.fractionBits = 23 := rfl
  unfold rungOf
  by_cases h0 : m = 0
  · rw [if_pos h0]; exact Nat.zero_le _
  have hM : M ≠ 0 := by
    intro q
    rw [q, Nat.zero_mul] at h
    have := Nat.mul_pos (Nat.pos_of_ne_zero h0) (Nat.two_pow_pos a)
    omega
  rw [if_neg h0, if_neg hM]
  simp only []
  have hlog : m.log2 + a ≤ M.log2 + A := by
    have := log2_mono (Nat.mul_ne_zero h0 (Nat.ne_of_gt (Nat.two_pow_pos a))) h
    rwa [log2_shift h0, log2_shift hM] at this
  rw [hf, d2, d3]
  generalize hl : max ((a : Int) - c + (m.log2 : Int) - ((23 : Nat) : Int)) (-149) = l
  generalize hL : max ((A : Int) - c + (M.log2 : Int) - ((23 : Nat) : Int)) (-149) = L
  by_cases he : l = L
  · subst he
    refine Nat.add_le_add_left (cut_mono ?_) _
    rw [Nat.shiftLeft_eq, Nat.shiftLeft_eq, Nat.mul_assoc, Nat.mul_assoc, ← Nat.pow_add, ← Nat.pow_add]
    exact pow_shift h (by omega)
  · have hlt : l < L := by omega
    have hk : Toward.even.cut s (m <<< ((a : Int) - c - l).toNat) (l - ((a : Int) - c)).toNat ≤ 2 * 8388608 := by
      refine (even_cut).2 ?_
      have e24 : 2 * 8388608 = 2 ^ 24 := by decide
      rw [e24, Nat.shiftLeft_eq, ← Nat.pow_add]
      have hm : m < 2 ^ (m.log2 + 1) := Nat.lt_log2_self
      calc m * 2 ^ ((a : Int) - c - l).toNat ≤ 2 ^ (m.log2 + 1) * 2 ^ ((a : Int) - c - l).toNat := Nat.mul_le_mul_right _ (Nat.le_of_lt hm)
        _ = 2 ^ (m.log2 + 1 + ((a : Int) - c - l).toNat) := (Nat.pow_add 2 _ _).symm
        _ ≤ _ := Nat.pow_le_pow_right (by omega) (by omega)
    have hK : 8388608 ≤ Toward.even.cut t (M <<< ((A : Int) - c - L).toNat) (L - ((A : Int) - c)).toNat := by
      refine (even_cut).1 ?_
      have e23 : 8388608 = 2 ^ 23 := by decide
      rw [e23, Nat.shiftLeft_eq, ← Nat.pow_add]
      have hm := Nat.log2_self_le hM
      calc 2 ^ (23 + (L - ((A : Int) - c)).toNat) ≤ 2 ^ (M.log2 + ((A : Int) - c - L).toNat) := Nat.pow_le_pow_right (by omega) (by omega)
        _ = 2 ^ M.log2 * 2 ^ ((A : Int) - c - L).toNat := Nat.pow_add 2 _ _
        _ ≤ _ := Nat.mul_le_mul_right _ hm
    generalize Toward.even.cut s (m <<< ((a : Int) - c - l).toNat) (l - ((a : Int) - c)).toNat = k at *
    generalize Toward.even.cut t (M <<< ((A : Int) - c - L).toNat) (L - ((A : Int) - c)).toNat = K at *
    have h3 : ((l - -149).toNat + 1) * 8388608 ≤ (L - -149).toNat * 8388608 := Nat.mul_le_mul_right _ (by omega)
    omega

def vl (x : Nat) : Rat := (D x : Rat) / ((U : Int) : Rat)
def ee : Rat := 1/281474976710656
theorem UR_pos : (0 : Rat) < ((U : Int) : Rat) := by
  have h := U_pos
  have : ((0 : Int) : Rat) < ((U : Int) : Rat) := Rat.intCast_lt_intCast.2 (by omega)
  simpa using this
theorem vl_U {x : Nat} : (D x : Rat) = vl x * ((U : Int) : Rat) := by
  unfold vl
  rw [Rat.div_mul_cancel]
  have := UR_pos
  grind
theorem eE_U : (eE : Rat) = (1/562949953421312) * ((U : Int) : Rat) := by
  have h : eE * 562949953421312 = (U : Int) := by rw [U_pow]; unfold eE; decide +kernel
  have h2 : ((eE * 562949953421312 : Int) : Rat) = ((U : Int) : Rat) := by rw [h]
  rw [Rat.intCast_mul] at h2
  rw [← h2]
  grind
theorem le_U {a b : Rat} (h : a * ((U : Int) : Rat) ≤ b * ((U : Int) : Rat)) : a ≤ b := by
  have hU := UR_pos
  apply Rat.not_lt.1
  intro hlt
  have := Rat.mul_pos (show 0 < a - b by grind) hU
  grind
theorem le_U2 {a b : Rat} (h : a ≤ b) : a * ((U : Int) : Rat) ≤ b * ((U : Int) : Rat) := Rat.mul_le_mul_of_nonneg_right h (by have := UR_pos; grind)
theorem four_U : (2 : Nat) ^ 1076 = 4 * U := by rw [U_pow]
theorem abs_of {a : Int} {b : Nat} (h : -((b : Int) : Rat) ≤ (a : Rat) ∧ (a : Rat) ≤ ((b : Int) : Rat)) : a.natAbs ≤ b := by
  have h1 := Rat.intCast_le_intCast.1 h.2
  have h2 : ((-(b : Int) : Int) : Rat) ≤ (a : Rat) := by rw [Rat.intCast_neg]; exact h.1
  have h3 := Rat.intCast_le_intCast.1 h2
  omega
theorem of_le {a b : Int} (h : a ≤ b) : (a : Rat) ≤ (b : Rat) := Rat.intCast_le_intCast.2 h
def Nr (x y : Rat) : Prop := x - y ≤ ee ∧ y - x ≤ ee
theorem ap_mul {x y : Nat} (hx : FinD x) (hy : FinD y) (h : -4 ≤ vl x * vl y ∧ vl x * vl y ≤ 4) : FinD (fbin .mul .f64 x y) ∧ Nr (vl (fbin .mul .f64 x y)) (vl x * vl y) := by
  have hU := UR_pos
  have hb : (D x * D y).natAbs ≤ 2 ^ 1077 * U := by
    have h4 : (D x * D y).natAbs ≤ 4 * U * U := by
      apply abs_of
      have e : ((((4 * U * U : Nat) : Int)) : Rat) = 4 * ((U : Int) : Rat) * ((U : Int) : Rat) := by simp [Rat.intCast_mul]
      rw [e, Rat.intCast_mul, vl_U, vl_U]
      have a1 := le_U2 (le_U2 h.1)
      have a2 := le_U2 (le_U2 h.2)
      constructor <;> grind
    rw [← four_U] at h4
    exact Nat.le_trans h4 (Nat.mul_le_mul_right _ (Nat.pow_le_pow_right (by omega) (by omega)))
  obtain ⟨w, h1, h2⟩ := mul_err hx hy hb
  refine ⟨w, ?_⟩
  have h1 := of_le h1
  have h2 := of_le h2
  rw [Rat.intCast_mul, Rat.intCast_add, Rat.intCast_mul, Rat.intCast_mul, eE_U, vl_U, vl_U, vl_U] at h1
  rw [Rat.intCast_mul, Rat.intCast_add, Rat.intCast_mul, Rat.intCast_mul, eE_U, vl_U, vl_U, vl_U] at h2
  generalize vl (fbin .mul .f64 x y) = z at *
  generalize vl x = a at *
  generalize vl y = b at *
  have q1 : z ≤ a * b + 1/562949953421312 := le_U (le_U (by grind))
  have q2 : a * b ≤ z + 1/562949953421312 := le_U (le_U (by grind))
  unfold Nr ee
  constructor <;> grind
theorem ap_add {x y : Nat} (hx : FinD x) (hy : FinD y) (h : -4 ≤ vl x + vl y ∧ vl x + vl y ≤ 4) : FinD (fbin .add .f64 x y) ∧ Nr (vl (fbin .add .f64 x y)) (vl x + vl y) := by
  have hb : (D x + D y).natAbs ≤ 2 ^ 1077 := by
    have h4 : (D x + D y).natAbs ≤ 4 * U := by
      apply abs_of
      have e : ((((4 * U : Nat) : Int)) : Rat) = 4 * ((U : Int) : Rat) := by simp [Rat.intCast_mul]
      rw [e, Rat.intCast_add, vl_U, vl_U]
      have a1 := le_U2 h.1
      have a2 := le_U2 h.2
      constructor <;> grind
    rw [← four_U] at h4
    exact Nat.le_trans h4 (Nat.pow_le_pow_right (by omega) (by omega))
  obtain ⟨w, h1, h2⟩ := add_err hx hy hb
  refine ⟨w, ?_⟩
  have h1 := of_le h1
  have h2 := of_le h2
  rw [Rat.intCast_add, Rat.intCast_add, eE_U, vl_U, vl_U, vl_U] at h1
  rw [Rat.intCast_add, Rat.intCast_add, eE_U, vl_U, vl_U, vl_U] at h2
  generalize vl (fbin .add .f64 x y) = z at *
  generalize vl x = a at *
  generalize vl y = b at *
  have q1 : z ≤ a + b + 1/562949953421312 := le_U (by grind)
  have q2 : a + b ≤ z + 1/562949953421312 := le_U (by grind)
  unfold Nr ee
  constructor <;> grind
theorem ap_sub {x y : Nat} (hx : FinD x) (hy : FinD y) (h : -4 ≤ vl x - vl y ∧ vl x - vl y ≤ 4) : FinD (fbin .sub .f64 x y) ∧ Nr (vl (fbin .sub .f64 x y)) (vl x - vl y) := by
  have hb : (D x - D y).natAbs ≤ 2 ^ 1077 := by
    have h4 : (D x - D y).natAbs ≤ 4 * U := by
      apply abs_of
      have e : ((((4 * U : Nat) : Int)) : Rat) = 4 * ((U : Int) : Rat) := by simp [Rat.intCast_mul]
      rw [e, Rat.intCast_sub, vl_U, vl_U]
      have a1 := le_U2 h.1
      have a2 := le_U2 h.2
      constructor <;> grind
    rw [← four_U] at h4
    exact Nat.le_trans h4 (Nat.pow_le_pow_right (by omega) (by omega))
  obtain ⟨w, h1, h2⟩ := sub_err hx hy hb
  refine ⟨w, ?_⟩
  have h1 := of_le h1
  have h2 := of_le h2
  rw [Rat.intCast_add, Rat.intCast_sub, eE_U, vl_U, vl_U, vl_U] at h1
  rw [Rat.intCast_sub, Rat.intCast_add, eE_U, vl_U, vl_U, vl_U] at h2
  generalize vl (fbin .sub .f64 x y) = z at *
  generalize vl x = a at *
  generalize vl y = b at *
  have q1 : z ≤ a - b + 1/562949953421312 := le_U (by grind)
  have q2 : a - b ≤ z + 1/562949953421312 := le_U (by grind)
  unfold Nr ee
  constructor <;> grind
theorem ap_quo {x y N J : Nat} (hx : FinD x) (hy : FloatKind.f64.decode y = .number false (N * 2 ^ J) (-((J : Nat) : Int))) (hN : 1 ≤ N) (hN2 : N ≤ 1000) (h : -4 ≤ vl x ∧ vl x ≤ 4) :
    FinD (fbin .quo .f64 x y) ∧ Nr (vl (fbin .quo .f64 x y)) (vl x / ((N : Int) : Rat)) := by
  have hb : (D x).natAbs ≤ 2 ^ 1076 := by
    rw [four_U]
    apply abs_of
    have e : ((((4 * U : Nat) : Int)) : Rat) = 4 * ((U : Int) : Rat) := by simp [Rat.intCast_mul]
    rw [e, vl_U]
    have a1 := le_U2 h.1
    have a2 := le_U2 h.2
    constructor <;> grind
  obtain ⟨w, h1, h2⟩ := quo_err hx hy hN hN2 hb
  refine ⟨w, ?_⟩
  have h1 := of_le h1
  have h2 := of_le h2
  rw [Rat.intCast_mul, Rat.intCast_add, Rat.intCast_mul, Rat.intCast_mul, eE_U, vl_U, vl_U] at h1
  rw [Rat.intCast_add, Rat.intCast_mul, Rat.intCast_mul, Rat.intCast_mul, eE_U, vl_U, vl_U] at h2
  have hNp : (0 : Rat) < ((N : Int) : Rat) := by
    have : ((0 : Int) : Rat) < ((N : Int) : Rat) := Rat.intCast_lt_intCast.2 (by omega)
    simpa using this
  generalize vl (fbin .quo .f64 x y) = z at *
  generalize vl x = a at *
  have e2 : ((2 : Int) : Rat) = 2 := rfl
  rw [e2] at h1 h2
  generalize ((N : Int) : Rat) = n at *
  have q1 : z * n ≤ a + 1/281474976710656 * n := le_U (by grind)
  have q2 : a ≤ z * n + 1/281474976710656 * n := le_U (by grind)
  have hd : a / n * n = a := Rat.div_mul_cancel (by grind)
  generalize a / n = q at *
  subst hd
  unfold Nr ee
  constructor
  · apply Rat.not_lt.1
    intro hlt
    have := Rat.mul_pos (show 0 < z - q - 1/281474976710656 by grind) hNp
    grind
  · apply Rat.not_lt.1
    intro hlt
    have := Rat.mul_pos (show 0 < q - z - 1/281474976710656 by grind) hNp
    grind
end Go.E
