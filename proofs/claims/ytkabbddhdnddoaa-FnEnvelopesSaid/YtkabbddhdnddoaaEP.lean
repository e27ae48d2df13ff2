/- Rounding keeps the order; how great an exponential can be. Plain lemmas; no condition. -/
import Derived.Test.YtkabbddhdnddoaaEO
set_option linter.unusedVariables false
set_option linter.unusedSimpArgs false
set_option exponentiation.threshold 3000
namespace Go.E
open Go Ieee
theorem cut_near {neg : Bool} {n d : Nat} : 2 * n ≤ (2 * Toward.even.cut neg n d + 1) * 2 ^ d ∧ 2 * Toward.even.cut neg n d * 2 ^ d ≤ 2 * n + 2 ^ d ∧ (2 * n = (2 * Toward.even.cut neg n d + 1) * 2 ^ d → Toward.even.cut neg n d % 2 = 0) ∧ (2 * Toward.even.cut neg n d * 2 ^ d = 2 * n + 2 ^ d → Toward.even.cut neg n d % 2 = 0) := by
  unfold Toward.cut
  simp only []
  have hp := Nat.two_pow_pos d
  by_cases hd : d ≤ n.log2 + 2
  · rw [Nat.min_eq_left hd, Nat.shiftLeft_eq, Nat.one_mul]
    generalize 2 ^ d = g at *
    have h1 := Nat.div_add_mod n g
    have h2 := Nat.mod_lt n hp
    generalize n / g = q at *
    generalize n % g = r at *
    subst h1
    by_cases c1 : g < 2 * r
    · have e : (decide (g < 2 * r) || (g == 2 * r && q % 2 == 1)) = true := by simp [c1]
      rw [e]
      simp only [Bool.toNat_true]
      have w1 : (2 * (q + 1) + 1) * g = 2 * (g * q) + 3 * g := by rw [Nat.add_mul, Nat.mul_assoc, Nat.mul_comm (q + 1), Nat.mul_add]; omega
      have w2 : 2 * (q + 1) * g = 2 * (g * q) + 2 * g := by rw [Nat.mul_assoc, Nat.mul_comm (q + 1), Nat.mul_add]; omega
      rw [w1, w2]
      refine ⟨by omega, by omega, fun h => by omega, fun h => by omega⟩
    · by_cases c2 : g = 2 * r ∧ q % 2 = 1
      · have e : (decide (g < 2 * r) || (g == 2 * r && q % 2 == 1)) = true := by simp [c2.1, c2.2]
        rw [e]
        simp only [Bool.toNat_true]
        have w1 : (2 * (q + 1) + 1) * g = 2 * (g * q) + 3 * g := by rw [Nat.add_mul, Nat.mul_assoc, Nat.mul_comm (q + 1), Nat.mul_add]; omega
        have w2 : 2 * (q + 1) * g = 2 * (g * q) + 2 * g := by rw [Nat.mul_assoc, Nat.mul_comm (q + 1), Nat.mul_add]; omega
        rw [w1, w2]
        obtain ⟨c3, c4⟩ := c2
        refine ⟨by omega, by omega, fun h => by omega, fun h => by omega⟩
      · have e : (decide (g < 2 * r) || (g == 2 * r && q % 2 == 1)) = false := by
          rw [Bool.or_eq_false_iff]
          refine ⟨by simpa using c1, ?_⟩
          rw [Bool.and_eq_false_iff]
          by_cases c3 : g = 2 * r
          · right; have : ¬ q % 2 = 1 := fun h => c2 ⟨c3, h⟩
            simpa using this
          · left; simpa using c3
        rw [e]
        simp only [Bool.toNat_false, Nat.add_zero]
        have w1 : (2 * q + 1) * g = 2 * (g * q) + g := by rw [Nat.add_mul, Nat.mul_assoc, Nat.mul_comm q]; omega
        have w2 : 2 * q * g = 2 * (g * q) := by rw [Nat.mul_assoc, Nat.mul_comm q]
        rw [w1, w2]
        refine ⟨by omega, by omega, fun h => ?_, fun h => by omega⟩
        have : g = 2 * r := by omega
        have : ¬ q % 2 = 1 := fun h => c2 ⟨this, h⟩
        omega
  · have hlog : n < 2 ^ (n.log2 + 1) := Nat.lt_log2_self
    have hle : 2 ^ (n.log2 + 2) ≤ 2 ^ d := Nat.pow_le_pow_right (by omega) (by omega)
    rw [Nat.min_eq_right (by omega), Nat.shiftLeft_eq, Nat.one_mul]
    have e2 : 2 ^ (n.log2 + 2) = 2 * 2 ^ (n.log2 + 1) := by rw [Nat.pow_succ]; omega
    generalize 2 ^ (n.log2 + 1) = L at *
    rw [e2] at hle ⊢
    have h0 : n / (2 * L) = 0 := Nat.div_eq_of_lt (by omega)
    have h1 : n % (2 * L) = n := Nat.mod_eq_of_lt (by omega)
    rw [h0, h1]
    have e : (decide (2 * L < 2 * n) || (2 * L == 2 * n && 0 % 2 == 1)) = false := by simp; omega
    rw [e]
    simp only [Bool.toNat_false]
    generalize 2 ^ d = g at *
    refine ⟨by omega, by omega, fun _ => by simp, fun _ => by simp⟩
theorem pow_shift {m M a A b B : Nat} (h : m * 2 ^ a ≤ M * 2 ^ A) (e : a + B = A + b) : m * 2 ^ b ≤ M * 2 ^ B := by
  have h1 : m * 2 ^ a * 2 ^ b ≤ M * 2 ^ A * 2 ^ b := Nat.mul_le_mul_right _ h
  rw [Nat.mul_assoc M, ← Nat.pow_add, ← e, Nat.pow_add, Nat.mul_comm (2 ^ a) (2 ^ B), ← Nat.mul_assoc, Nat.mul_assoc m, Nat.mul_comm (2 ^ a) (2 ^ b), ← Nat.mul_assoc] at h1
  exact Nat.le_of_mul_le_mul_right h1 (Nat.two_pow_pos a)
/-- Where on the ladder of a format's numbers a number comes to lie. -/
def rungOf (f : Format) (neg : Bool) (mag : Nat) (place : Int) : Nat :=
  if mag = 0 then 0 else
  let last := max (place + mag.log2 - f.fractionBits) f.leastPlace
  (last - f.leastPlace).toNat * f.binade + Toward.even.cut neg (mag <<< (place - last).toNat) (last - place).toNat
theorem nearest_rung (f : Format) (neg : Bool) (mag : Nat) (place : Int) : f.nearest neg mag place = f.word neg (min (rungOf f neg mag place) f.infRung) := by
  unfold Format.nearest rungOf
  by_cases h0 : mag = 0
  · rw [if_pos h0, if_pos h0]; simp
  · rw [if_neg h0, if_neg h0]
theorem cut_mono {s t : Bool} {x X d D : Nat} (h : x * 2 ^ D ≤ X * 2 ^ d) : Toward.even.cut s x d ≤ Toward.even.cut t X D := by
  obtain ⟨_, a2, _, a4⟩ := cut_near (neg := s) (n := x) (d := d)
  obtain ⟨b1, _, b3, _⟩ := cut_near (neg := t) (n := X) (d := D)
  generalize Toward.even.cut s x d = k at *
  generalize Toward.even.cut t X D = K at *
  have hg := Nat.two_pow_pos d
  have hG := Nat.two_pow_pos D
  generalize 2 ^ d = g at *
  generalize 2 ^ D = G at *
  apply Nat.le_of_not_lt
  intro hlt
  have h1 : 2 * k * g * G ≤ (2 * x + g) * G := Nat.mul_le_mul_right _ a2
  have h2 : 2 * X * g ≤ (2 * K + 1) * G * g := Nat.mul_le_mul_right _ b1
  have e1 : (2 * x + g) * G = 2 * (x * G) + g * G := by rw [Nat.add_mul, Nat.mul_assoc]
  have e2 : 2 * X * g = 2 * (X * g) := Nat.mul_assoc _ _ _
  have e3 : (2 * K + 1) * G * g = 2 * (K * (g * G)) + g * G := by rw [Nat.mul_assoc, Nat.add_mul, Nat.mul_comm G g, Nat.mul_assoc]; omega
  have e4 : 2 * k * g * G = 2 * (k * (g * G)) := by rw [Nat.mul_assoc, Nat.mul_assoc]
  have h3 : (K + 1) * (g * G) ≤ k * (g * G) := Nat.mul_le_mul_right _ hlt
  rw [Nat.add_mul, Nat.one_mul] at h3
  rw [e1, e4] at h1
  rw [e2, e3] at h2
  have q1 : 2 * k * g * G = (2 * x + g) * G := by rw [e1, e4]; omega
  have q2 : 2 * X * g = (2 * K + 1) * G * g := by rw [e2, e3]; omega
  have c1 := a4 (Nat.eq_of_mul_eq_mul_right hG q1)
  have c2 := b3 (Nat.eq_of_mul_eq_mul_right hg q2)
  have q3 : k * (g * G) = (K + 1) * (g * G) := by rw [Nat.add_mul, Nat.one_mul]; omega
  have q4 := Nat.eq_of_mul_eq_mul_right (Nat.mul_pos hg hG) q3
  omega
theorem log2_mono {m n : Nat} (hm : m ≠ 0) (h : m ≤ n) : m.log2 ≤ n.log2 := by
  have h1 := Nat.log2_self_le hm
  have h2 : n < 2 ^ (n.log2 + 1) := Nat.lt_log2_self
  have := (Nat.pow_lt_pow_iff_right (a := 2) (by omega)).1 (Nat.lt_of_le_of_lt (Nat.le_trans h1 h) h2)
  omega
/-- Rounding keeps the order. -/
theorem rung_mono {s t : Bool} {m M a A : Nat} {c : Int} (h : m * 2 ^ a ≤ M * 2 ^ A) : rungOf double s m ((a : Int) - c) ≤ rungOf double t M ((A : Int) - c) := by
  obtain ⟨d1, d2, d3, d4⟩ := consts64
  have hf : double.fractionBits = 52 := rfl
  unfold rungOf
  by_cases h0 : m = 0
  · rw [if_pos h0]; exact Nat.zero_le _
  have hM : M ≠ 0 := by
    intro q
    rw [q, Nat.zero_mul] at h
    have := Nat.mul_pos (Nat.pos_of_ne_zero h0) (Nat.two_pow_pos a)
    omega
  rw [if_neg h0, if_neg hM]
  simp only []
  have hlog : m.log2 + a ≤ M.log2 + A := by
    have := log2_mono (Nat.mul_ne_zero h0 (Nat.ne_of_gt (Nat.two_pow_pos a))) h
    rwa [log2_shift h0, log2_shift hM] at this
  rw [hf, d2, d3]
  generalize hl : max ((a : Int) - c + (m.log2 : Int) - ((52 : Nat) : Int)) (-1074) = l
  generalize hL : max ((A : Int) - c + (M.log2 : Int) - ((52 : Nat) : Int)) (-1074) = L
  by_cases he : l = L
  · subst he
    refine Nat.add_le_add_left (cut_mono ?_) _
    rw [Nat.shiftLeft_eq, Nat.shiftLeft_eq, Nat.mul_assoc, Nat.mul_assoc, ← Nat.pow_add, ← Nat.pow_add]
    exact pow_shift h (by omega)
  · have hlt : l < L := by omega
    have hk : Toward.even.cut s (m <<< ((a : Int) - c - l).toNat) (l - ((a : Int) - c)).toNat ≤ 2 * 4503599627370496 := by
      refine (even_cut).2 ?_
      have e53 : 2 * 4503599627370496 = 2 ^ 53 := by decide
      rw [e53, Nat.shiftLeft_eq, ← Nat.pow_add]
      have hm : m < 2 ^ (m.log2 + 1) := Nat.lt_log2_self
      calc m * 2 ^ ((a : Int) - c - l).toNat ≤ 2 ^ (m.log2 + 1) * 2 ^ ((a : Int) - c - l).toNat := Nat.mul_le_mul_right _ (Nat.le_of_lt hm)
        _ = 2 ^ (m.log2 + 1 + ((a : Int) - c - l).toNat) := (Nat.pow_add 2 _ _).symm
        _ ≤ _ := Nat.pow_le_pow_right (by omega) (by omega)
    have hK : 4503599627370496 ≤ Toward.even.cut t (M <<< ((A : Int) - c - L).toNat) (L - ((A : Int) - c)).toNat := by
      refine (even_cut).1 ?_
      have e52 : 4503599627370496 = 2 ^ 52 := by decide
      rw [e52, Nat.shiftLeft_eq, ← Nat.pow_add]
      have hm := Nat.log2_self_le hM
      calc 2 ^ (52 + (L - ((A : Int) - c)).toNat) ≤ 2 ^ (M.log2 + ((A : Int) - c - L).toNat) := Nat.pow_le_pow_right (by omega) (by omega)
        _ = 2 ^ M.log2 * 2 ^ ((A : Int) - c - L).toNat := Nat.pow_add 2 _ _
        _ ≤ _ := Nat.mul_le_mul_right _ hm
    generalize Toward.even.cut s (m <<< ((a : Int) - c - l).toNat) (l - ((a : Int) - c)).toNat = k at *
    generalize Toward.even.cut t (M <<< ((A : Int) - c - L).toNat) (L - ((A : Int) - c)).toNat = K at *
    have h3 : ((l - -1074).toNat + 1) * 4503599627370496 ≤ (L - -1074).toNat * 4503599627370496 := Nat.mul_le_mul_right _ (by omega)
    omega
/-- Not greater than this number. -/
def Bd (x X : Nat) : Prop := ∃ s m e M E, Prt x s m e ∧ Prt X false M E ∧ m * 2 ^ e ≤ M * 2 ^ E
theorem Prt_word {s : Bool} {r : Nat} (h : r < double.infRung) : ∃ m e, Prt (double.word s r) s m e ∧ magOf double r = m * 2 ^ e := by
  obtain ⟨d1, d2, d3, d4⟩ := consts64
  have hp := word_parts double s (r := r) (by omega)
  obtain ⟨m, e, h1, h2, h3⟩ := read_num (x := double.word s r) (by rw [hp.1]; exact h)
  rw [hp.1] at h2
  rw [hp.2] at h1
  exact ⟨m, e, ⟨h1, by rw [D_word (by omega), h2]⟩, h2⟩
theorem Bd_nearest {s : Bool} {m M a A : Nat} {c : Int} (h : m * 2 ^ a ≤ M * 2 ^ A) (hf : double.nearest false M ((A : Int) - c) % double.signWeight < double.infRung) : Bd (double.nearest s m ((a : Int) - c)) (double.nearest false M ((A : Int) - c)) := by
  obtain ⟨d1, d2, d3, d4⟩ := consts64
  have hm := rung_mono (s := s) (t := false) (c := c) h
  rw [nearest_rung] at hf ⊢
  rw [nearest_rung]
  have hp := word_parts double false (r := min (rungOf double false M ((A : Int) - c)) double.infRung) (by omega)
  rw [hp.1] at hf
  have hR : rungOf double false M ((A : Int) - c) < double.infRung := by omega
  rw [Nat.min_eq_left (by omega), Nat.min_eq_left (by omega)]
  obtain ⟨m1, e1, p1, q1⟩ := Prt_word (s := s) (r := rungOf double s m ((a : Int) - c)) (by omega)
  obtain ⟨m2, e2, p2, q2⟩ := Prt_word (s := false) hR
  exact ⟨_, _, _, _, _, p1, p2, by rw [← q1, ← q2]; exact magOf_le hm⟩
theorem Bd_mul {x y X Y : Nat} (hx : Bd x X) (hy : Bd y Y) (hf : fbin .mul .f64 X Y % double.signWeight < double.infRung) : Bd (fbin .mul .f64 x y) (fbin .mul .f64 X Y) := by
  obtain ⟨s, m, e, M, E, p1, p2, p3⟩ := hx
  obtain ⟨t, n, e2, N, E2, q1, q2, q3⟩ := hy
  have f1 : fbin .mul .f64 x y = double.nearest (s ^^ t) (m * n) (((e + e2 : Nat) : Int) - 2148) := by
    rw [fbin_mul (d := .number (s ^^ t) (m * n) (-1074 + (e : Int) + (-1074 + (e2 : Int)))) (by rw [p1.1, q1.1]; rfl)]
    show double.nearest _ _ _ = _
    congr 1; omega
  have f2 : fbin .mul .f64 X Y = double.nearest false (M * N) (((E + E2 : Nat) : Int) - 2148) := by
    rw [fbin_mul (d := .number false (M * N) (-1074 + (E : Int) + (-1074 + (E2 : Int)))) (by rw [p2.1, q2.1]; rfl)]
    show double.nearest _ _ _ = _
    congr 1; omega
  rw [f2] at hf
  rw [f1, f2]
  refine Bd_nearest ?_ hf
  have := Nat.mul_le_mul p3 q3
  have r1 : m * n * 2 ^ (e + e2) = m * 2 ^ e * (n * 2 ^ e2) := by rw [Nat.pow_add]; ac_rfl
  have r2 : M * N * 2 ^ (E + E2) = M * 2 ^ E * (N * 2 ^ E2) := by rw [Nat.pow_add]; ac_rfl
  rw [r1, r2]; exact this
theorem Bd_add {x y X Y : Nat} (hx : Bd x X) (hy : Bd y Y) (hf : fbin .add .f64 X Y % double.signWeight < double.infRung) : Bd (fbin .add .f64 x y) (fbin .add .f64 X Y) := by
  obtain ⟨s, m, e, M, E, p1, p2, p3⟩ := hx
  obtain ⟨t, n, e2, N, E2, q1, q2, q3⟩ := hy
  obtain ⟨u, T, b, g1, g2⟩ := sum_exact (s := s) (t := t) (m := m) (n := n) (e := e) (e2 := e2)
  obtain ⟨v, W, B, k1, k2⟩ := sum_exact (s := false) (t := false) (m := M) (n := N) (e := E) (e2 := E2)
  have f1 : fbin .add .f64 x y = double.nearest u T.natAbs ((b : Int) - 1074) := by
    show (Option.map double.write ((FloatKind.f64.decode x).sum (FloatKind.f64.decode y))).getD _ = _
    rw [p1.1, q1.1, g1]
    show double.nearest _ _ _ = _
    congr 1 <;> omega
  have hsF : ∀ n : Nat, sgn false n = n := fun n => rfl
  rw [hsF, hsF] at k2
  have hsa : ∀ (s : Bool) (n : Nat), (sgn s n).natAbs = n := fun s n => by unfold sgn; split <;> omega
  have key : T.natAbs * 2 ^ b ≤ W.natAbs * 2 ^ B := by
    have a1 : T.natAbs * 2 ^ b = (T * (2 ^ b : Nat)).natAbs := by rw [Int.natAbs_mul, Int.natAbs_natCast]
    have a2 : W.natAbs * 2 ^ B = (W * (2 ^ B : Nat)).natAbs := by rw [Int.natAbs_mul, Int.natAbs_natCast]
    rw [a1, a2, g2, k2]
    have b1 := hsa s (m * 2 ^ e)
    have b2 := hsa t (n * 2 ^ e2)
    generalize sgn s (m * 2 ^ e) = z1 at *
    generalize sgn t (n * 2 ^ e2) = z2 at *
    omega
  have hv : W.natAbs = 0 ∨ v = false := by
    by_cases hv : v = false
    · exact .inr hv
    · left
      have hvt : v = true := by simpa using hv
      have hk : (Datum.number false M (-1074 + (E : Int))).sum (.number false N (-1074 + (E2 : Int))) = some (.number v W.natAbs (-1074 + (B : Int))) := k1
      unfold Datum.sum at hk
      simp only [Option.some.injEq, Datum.number.injEq] at hk
      obtain ⟨hk1, _, _⟩ := hk
      rw [hvt] at hk1
      have n1 : ∀ k, 0 ≤ signed false M k := fun k => by simp only [signed, Bool.false_eq_true, if_false]; exact Int.natCast_nonneg _
      have n2 : ∀ k, 0 ≤ signed false N k := fun k => by simp only [signed, Bool.false_eq_true, if_false]; exact Int.natCast_nonneg _
      exfalso
      split at hk1
      · simp at hk1
      · simp at hk1
        have a1 := n1 (-1074 + (E : Int) - (-1074 + min (E : Int) (E2 : Int))).toNat
        have a2 := n2 (-1074 + (E2 : Int) - (-1074 + min (E : Int) (E2 : Int))).toNat
        omega
  have f2 : fbin .add .f64 X Y = double.nearest false W.natAbs ((B : Int) - 1074) := by
    show (Option.map double.write ((FloatKind.f64.decode X).sum (FloatKind.f64.decode Y))).getD _ = _
    rw [p2.1, q2.1, k1]
    have hz : v = false := by
      rcases hv with h0 | h0
      · have hk : (Datum.number false M (-1074 + (E : Int))).sum (.number false N (-1074 + (E2 : Int))) = some (.number v W.natAbs (-1074 + (B : Int))) := k1
        unfold Datum.sum at hk
        simp only [Option.some.injEq, Datum.number.injEq] at hk
        obtain ⟨hk1, hk2, _⟩ := hk
        rw [h0] at hk2
        rw [if_pos (by omega)] at hk1
        simpa using hk1.symm
      · exact h0
    rw [hz]
    show double.nearest _ _ _ = _
    congr 1 <;> omega
  rw [f2] at hf
  rw [f1, f2]
  exact Bd_nearest key hf
theorem log_of_decode {x : Nat} {s : Bool} {m : Nat} {i : Int} (h : FloatKind.f64.decode x = .number s m i) : m.log2 < 53 := by
  obtain ⟨d1, d2, d3, d4⟩ := consts64
  have hb : m < 2 ^ 53 := by
    have h2 : double.read x = .number s m i := h
    unfold Format.read at h2
    simp only [] at h2
    rw [d2] at h2
    have hm := Nat.mod_lt (x % double.signWeight) (show 0 < 4503599627370496 by decide)
    split at h2
    · injection h2 with _ h3 _
      omega
    · split at h2
      · injection h2 with _ h3 _
        omega
      · split at h2 <;> cases h2
  by_cases h0 : m = 0
  · subst h0; decide
  · exact (Nat.log2_lt h0).2 hb
/-- A quotient by something not below two is not greater; by one neither. -/
theorem Bd_quo {x X y n J : Nat} {j : Int} (hx : Bd x X) (hX : X < double.infRung) (hy : FloatKind.f64.decode y = .number false n j) (hJ : j = -((J : Nat) : Int)) (h2 : 2 * 2 ^ J ≤ n ∨ (n = 2 ^ J ∧ J ≤ 53)) : Bd (fbin .quo .f64 x y) X := by
  obtain ⟨s, m, e, M, E, p1, p2, p3⟩ := hx
  have hn : n ≠ 0 := by
    have := Nat.two_pow_pos J
    rcases h2 with h2 | h2 <;> omega
  generalize hmore : 54 + n.log2 - m.log2 = more
  have hf : fbin .quo .f64 x y = double.nearest (s ^^ false) (2 * ((m <<< more) / n) + ((m <<< more) % n != 0).toNat) (-1074 + (e : Int) - j - (more : Int) - 1) := by
    show (Option.map double.write ((FloatKind.f64.decode x).quotient (double.fractionBits + 2) (FloatKind.f64.decode y))).getD _ = _
    rw [p1.1, hy]
    unfold Datum.quotient
    simp only []
    rw [if_neg hn]
    have hfr : double.fractionBits + 2 + n.log2 - m.log2 = more := hmore
    rw [hfr]
    rfl
  have hXw : double.nearest false M ((E : Int) - 1074) = X := by
    obtain ⟨d1, d2, d3, d4⟩ := consts64
    have hD := p2.2
    have hX2 : X % double.signWeight = X := Nat.mod_eq_of_lt (by omega)
    have hng : negOf double X = false := by unfold negOf; rw [d4]; have : X / 9223372036854775808 = 0 := by omega
                                            rw [this]; rfl
    have hD2 : D X = sgn (negOf double X) (magOf double (X % double.signWeight)) := rfl
    rw [hD2, hX2, hng] at hD
    have hm : magOf double X = M * 2 ^ E := by unfold sgn at hD; simp at hD; exact_mod_cast hD
    rw [nearest_exact double false (r := X) (a := E) (b := 0) hX (by rw [hm]; simp) (by rw [d3]; omega)]
    unfold Format.word; simp
  have key : (2 * ((m <<< more) / n) + ((m <<< more) % n != 0).toNat) * 2 ^ J ≤ m * 2 ^ (more + 1) := by
    rw [Nat.shiftLeft_eq]
    by_cases hm : m = 0
    · subst hm; simp
    have hw : n ≤ m * 2 ^ more := by
      have hl := Nat.log2_self_le hm
      have hnl : n < 2 ^ (n.log2 + 1) := Nat.lt_log2_self
      calc n ≤ 2 ^ (n.log2 + 1) := Nat.le_of_lt hnl
        _ ≤ 2 ^ (m.log2 + more) := Nat.pow_le_pow_right (by omega) (by omega)
        _ = 2 ^ m.log2 * 2 ^ more := Nat.pow_add 2 _ _
        _ ≤ _ := Nat.mul_le_mul_right _ hl
    rw [Nat.pow_succ, ← Nat.mul_assoc]
    have hjp := Nat.two_pow_pos J
    rcases h2 with h2 | ⟨h2, h3⟩
    · generalize m * 2 ^ more = w at *
      generalize 2 ^ J = P at *
      have h1 := Nat.div_add_mod w n
      have hb : (w % n != 0).toNat ≤ 1 := Bool.toNat_le _
      generalize (w % n != 0).toNat = b at *
      generalize w / n = q at *
      have k1 : (2 * q + b) * P = 2 * P * q + b * P := by rw [Nat.add_mul, Nat.mul_assoc, Nat.mul_assoc, Nat.mul_comm q P]
      have k2 : 2 * P * q ≤ n * q := Nat.mul_le_mul_right _ h2
      have k3 : b * P ≤ 1 * P := Nat.mul_le_mul_right _ hb
      rw [k1]
      omega
    · subst h2
      have hdv : 2 ^ J ∣ m * 2 ^ more := by
        rw [Nat.log2_two_pow] at hmore
        by_cases hmm : J ≤ more
        · exact Nat.dvd_trans (Nat.pow_dvd_pow 2 hmm) (Nat.dvd_mul_left _ _)
        · exfalso
          have hb53 : m.log2 < 53 := by
            exact log_of_decode p1.1
          omega
      rw [Nat.mod_eq_zero_of_dvd hdv]
      have := Nat.div_mul_cancel hdv
      generalize m * 2 ^ more = w at *
      generalize 2 ^ J = P at *
      simp only [bne_self_eq_false, Bool.toNat_false, Nat.add_zero]
      rw [Nat.mul_assoc, this]; omega
  rw [hf, ← hXw]
  have hpl : (-1074 + (e : Int) - j - (more : Int) - 1) = (((e + J : Nat)) : Int) - (1075 + (more : Int)) := by omega
  have hpl2 : ((E : Int) - 1074) = (((E + more + 1 : Nat)) : Int) - (1075 + (more : Int)) := by omega
  rw [hpl]
  have hfin : double.nearest false M ((E : Int) - 1074) % double.signWeight < double.infRung := by
    rw [hXw]; exact Nat.lt_of_le_of_lt (Nat.mod_le _ _) hX
  rw [hpl2] at hfin ⊢
  refine Bd_nearest ?_ hfin
  have h5 : (2 * ((m <<< more) / n) + ((m <<< more) % n != 0).toNat) * 2 ^ J * 2 ^ e ≤ m * 2 ^ (more + 1) * 2 ^ e := Nat.mul_le_mul_right _ key
  have h6 : m * 2 ^ e * 2 ^ (more + 1) ≤ M * 2 ^ E * 2 ^ (more + 1) := Nat.mul_le_mul_right _ p3
  have r1 : ∀ z : Nat, z * 2 ^ (e + J) = z * 2 ^ J * 2 ^ e := fun z => by rw [Nat.add_comm, Nat.pow_add, Nat.mul_assoc]
  have r2 : m * 2 ^ (more + 1) * 2 ^ e = m * 2 ^ e * 2 ^ (more + 1) := by ac_rfl
  have r3 : M * 2 ^ E * 2 ^ (more + 1) = M * 2 ^ (E + more + 1) := by rw [Nat.mul_assoc, ← Nat.pow_add, Nat.add_assoc]
  rw [r1, ← r3]
  omega
theorem Prt_dec {x : Nat} {s : Bool} {m : Nat} {i : Int} (h : FloatKind.f64.decode x = .number s m i) : ∃ e : Nat, i = -1074 + (e : Int) ∧ Prt x s m e := by
  obtain ⟨d1, d2, d3, d4⟩ := consts64
  have hlt : x % double.signWeight < double.infRung := by
    apply Nat.lt_of_not_le
    intro hge
    have h2 : double.read x = .number s m i := h
    unfold Format.read at h2
    simp only [] at h2
    rw [d2, if_neg (by omega), if_neg (by omega)] at h2
    split at h2 <;> cases h2
  obtain ⟨s', m', e, h3⟩ := Prt_of hlt
  have h4 := h3.1
  rw [h] at h4
  injection h4 with a1 a2 a3
  subst a1; subst a2
  exact ⟨e, a3, h3⟩
theorem Bd_lg {x X : Nat} {A : Int} (h : Bd x X) (hX : Lg X A) : Lg x A := by
  obtain ⟨s, m, e, M, E, p1, p2, p3⟩ := h
  obtain ⟨t, N, i, q1, q2⟩ := hX
  have h4 := p2.1
  rw [q1] at h4
  injection h4 with a1 a2 a3
  subst a2
  refine ⟨s, m, _, p1.1, ?_⟩
  by_cases h0 : m = 0
  · exact .inl h0
  right
  have hN : N ≠ 0 := by
    intro q
    rw [q, Nat.zero_mul] at p3
    have := Nat.mul_pos (Nat.pos_of_ne_zero h0) (Nat.two_pow_pos e)
    omega
  have := log2_mono (Nat.mul_ne_zero h0 (Nat.ne_of_gt (Nat.two_pow_pos e))) p3
  rw [log2_shift h0, log2_shift hN] at this
  have := q2.resolve_left hN
  omega
theorem Bd_not {x X : Nat} (h : Bd x X) : isNaN .f64 x = false := by
  obtain ⟨s, m, e, _, _, p1, _⟩ := h
  exact Prt_not ⟨s, m, e, p1⟩
def posB (x : Nat) : Bool := match FloatKind.f64.decode x with | .number false _ _ => true | _ => false
def lgB (x : Nat) (A : Int) : Bool := match FloatKind.f64.decode x with | .number _ m i => m == 0 || decide (i + m.log2 ≤ A) | _ => false
theorem lg_of {x : Nat} {A : Int} (h : lgB x A = true) : Lg x A := by
  unfold lgB at h
  split at h
  · rename_i s m i hd
    refine ⟨s, m, i, hd, ?_⟩
    simpa using h
  · cases h
theorem Bd_const {x : Nat} (h : posB x = true) : Bd x x := by
  unfold posB at h
  split at h
  · rename_i m i hd
    obtain ⟨e, _, he⟩ := Prt_dec hd
    exact ⟨_, m, e, m, e, he, he, Nat.le_refl _⟩
  · cases h
theorem Bd_int {n : Int} {N : Nat} (hn : n.natAbs ≤ N) (h0 : 0 < N) (hN : N < 2 ^ 53) : Bd (fofint .f64 n) (fofint .f64 (N : Int)) := by
  obtain ⟨s, m, e, h1⟩ := Prt_int (n := n) (by omega)
  obtain ⟨t, M, E, h2⟩ := Prt_int (n := (N : Int)) (by omega)
  have hU := U_pos
  have e1 := h1.2
  have e2 := h2.2
  rw [D_int (by omega)] at e1 e2
  have k1 : n.natAbs * U = m * 2 ^ e := by
    have := congrArg Int.natAbs e1
    rw [Int.natAbs_mul, Int.natAbs_natCast] at this
    rw [this]; unfold sgn; split <;> omega
  have ht : t = false := by
    cases t
    · rfl
    · exfalso
      have : (0 : Int) < (N : Int) * (U : Int) := Int.mul_pos (by omega) (by omega)
      generalize M * 2 ^ E = v at e2
      unfold sgn at e2
      rw [if_pos rfl] at e2
      omega
  subst ht
  have k2 : N * U = M * 2 ^ E := by
    have : ((N * U : Nat) : Int) = ((M * 2 ^ E : Nat) : Int) := by rw [Int.natCast_mul]; exact e2
    exact_mod_cast this
  exact ⟨s, m, e, M, E, h1, h2, by rw [← k1, ← k2]; exact Nat.mul_le_mul_right _ hn⟩
/-- The terms of an exponential, from the twelfth down; then the squares. -/
def exT (x : Nat) : Nat := fbin .quo .f64 x 4643211215818981376
def exP (t : Nat) : Nat → Nat
  | 0 => oneD
  | i + 1 => fbin .add .f64 oneD (fbin .quo .f64 (fbin .mul .f64 t (exP t i)) (fofint .f64 (12 - (i : Int))))
def exS (p : Nat) : Nat → Nat
  | 0 => p
  | i + 1 => fbin .mul .f64 (exS p i) (exS p i)
def expC (x : Nat) : Nat := exS (exP (exT x) 12) 8
def bP : Nat → Nat
  | 0 => oneD
  | i + 1 => fbin .add .f64 oneD (fbin .mul .f64 qtrD (bP i))
def eB : Nat := exS (bP 12) 8
theorem twelve {i : Nat} (h : i < 12) : i = 0 ∨ i = 1 ∨ i = 2 ∨ i = 3 ∨ i = 4 ∨ i = 5 ∨ i = 6 ∨ i = 7 ∨ i = 8 ∨ i = 9 ∨ i = 10 ∨ i = 11 := by omega
theorem twelve_dec {i : Nat} (h : i < 12) : ∃ n J : Nat, FloatKind.f64.decode (fofint .f64 (12 - (i : Int))) = .number false n (-((J : Nat) : Int)) ∧ (2 * 2 ^ J ≤ n ∨ (n = 2 ^ J ∧ J ≤ 53)) := by
  rcases twelve h with rfl | rfl | rfl | rfl | rfl | rfl | rfl | rfl | rfl | rfl | rfl | rfl
  · exact ⟨6755399441055744, 49, by decide +kernel, .inl (by decide +kernel)⟩
  · exact ⟨6192449487634432, 49, by decide +kernel, .inl (by decide +kernel)⟩
  · exact ⟨5629499534213120, 49, by decide +kernel, .inl (by decide +kernel)⟩
  · exact ⟨5066549580791808, 49, by decide +kernel, .inl (by decide +kernel)⟩
  · exact ⟨4503599627370496, 49, by decide +kernel, .inl (by decide +kernel)⟩
  · exact ⟨7881299347898368, 50, by decide +kernel, .inl (by decide +kernel)⟩
  · exact ⟨6755399441055744, 50, by decide +kernel, .inl (by decide +kernel)⟩
  · exact ⟨5629499534213120, 50, by decide +kernel, .inl (by decide +kernel)⟩
  · exact ⟨4503599627370496, 50, by decide +kernel, .inl (by decide +kernel)⟩
  · exact ⟨6755399441055744, 51, by decide +kernel, .inl (by decide +kernel)⟩
  · exact ⟨4503599627370496, 51, by decide +kernel, .inl (by decide +kernel)⟩
  · exact ⟨4503599627370496, 52, by decide +kernel, .inr ⟨by decide +kernel, by decide⟩⟩
theorem bP_fin : ∀ i, i < 12 → fbin .mul .f64 qtrD (bP i) < double.infRung ∧ bP (i + 1) % double.signWeight < double.infRung := by
  intro i h
  rcases twelve h with rfl | rfl | rfl | rfl | rfl | rfl | rfl | rfl | rfl | rfl | rfl | rfl <;> decide +kernel
theorem eB_fin : ∀ i, i < 8 → exS (bP 12) (i + 1) % double.signWeight < double.infRung := by
  intro i h
  rcases eight h with rfl | rfl | rfl | rfl | rfl | rfl | rfl | rfl <;> decide +kernel
theorem exT_lg {x : Nat} (hx : Lg x 4) : Bd (exT x) qtrD := by
  have h := Lg_quo hx (y := 4643211215818981376) (t := false) (n := 2 ^ 52) (j := -44) (C := 8) (by decide +kernel) (by decide) (by decide +kernel) (by decide) (by decide)
  obtain ⟨s, m, i, h1, h2⟩ := h
  obtain ⟨e, he, hp⟩ := Prt_dec (x := exT x) h1
  obtain ⟨E, hE, hP⟩ := Prt_dec (x := qtrD) (s := false) (m := 2 ^ 52) (i := -54) (by decide +kernel)
  refine ⟨s, m, e, _, E, hp, hP, ?_⟩
  have hE2 : E = 1020 := by omega
  subst hE2
  by_cases h0 : m = 0
  · subst h0; simp
  have h3 := h2.resolve_left h0
  have hm : m < 2 ^ (m.log2 + 1) := Nat.lt_log2_self
  calc m * 2 ^ e ≤ 2 ^ (m.log2 + 1) * 2 ^ e := Nat.mul_le_mul_right _ (Nat.le_of_lt hm)
    _ = 2 ^ (m.log2 + 1 + e) := (Nat.pow_add 2 _ _).symm
    _ ≤ 2 ^ (52 + 1020) := Nat.pow_le_pow_right (by omega) (by omega)
    _ = _ := Nat.pow_add 2 _ _
theorem Bd_one : Bd oneD oneD := Bd_const (by decide +kernel)
theorem exP_bd {t : Nat} (ht : Bd t qtrD) : ∀ {i : Nat}, i ≤ 12 → Bd (exP t i) (bP i)
  | 0, _ => Bd_one
  | i + 1, hi => by
    have ih := exP_bd ht (i := i) (by omega)
    obtain ⟨h1, h2⟩ := bP_fin i (by omega)
    obtain ⟨n, J, h3, h4⟩ := twelve_dec (i := i) (by omega)
    have hm := Bd_mul ht ih (Nat.lt_of_le_of_lt (Nat.mod_le _ _) h1)
    have hq := Bd_quo hm h1 h3 rfl h4
    exact Bd_add Bd_one hq h2
theorem exS_bd {p P : Nat} (hp : Bd p P) {n : Nat} (hf : ∀ i, i < n → exS P (i + 1) % double.signWeight < double.infRung) : ∀ {i : Nat}, i ≤ n → Bd (exS p i) (exS P i)
  | 0, _ => hp
  | i + 1, hi => by
    have ih := exS_bd hp hf (i := i) (by omega)
    exact Bd_mul ih ih (hf i (by omega))
theorem exp_bd {x : Nat} (hx : Lg x 4) : Bd (expC x) eB := exS_bd (exP_bd (exT_lg hx) (Nat.le_refl _)) eB_fin (Nat.le_refl _)
theorem exp_tests {x : Nat} (hx : Lg x 4) : fcmp .gtr .f64 x 4641240890982006784 = false ∧ fcmp .lss .f64 x 13864612927836782592 = false ∧ fcmp .eql .f64 x x = true := by
  obtain ⟨s, m, i, h1, h2⟩ := hx
  obtain ⟨e, he, hp⟩ := Prt_dec h1
  have hn := Prt_not ⟨s, m, e, hp⟩
  have hU := U_pos
  have hb : m * 2 ^ e ≤ 32 * U := by
    have e5 : 32 * U = 2 ^ 1079 := by rw [U_pow, show (32 : Nat) = 2 ^ 5 from rfl, ← Nat.pow_add]
    rw [e5]
    by_cases h0 : m = 0
    · subst h0; simp
    have h3 := h2.resolve_left h0
    have hm : m < 2 ^ (m.log2 + 1) := Nat.lt_log2_self
    calc m * 2 ^ e ≤ 2 ^ (m.log2 + 1) * 2 ^ e := Nat.mul_le_mul_right _ (Nat.le_of_lt hm)
      _ = 2 ^ (m.log2 + 1 + e) := (Nat.pow_add 2 _ _).symm
      _ ≤ _ := Nat.pow_le_pow_right (by omega) (by omega)
  have e1 : D 4641240890982006784 = 200 * U := by rw [show 4641240890982006784 = fofint .f64 200 by decide +kernel, D_int (by decide)]
  have e2 : D 13864612927836782592 = -200 * U := by rw [show 13864612927836782592 = fofint .f64 (-200) by decide +kernel, D_int (by decide)]
  have c1 : isNaN .f64 4641240890982006784 = false := by decide +kernel
  have c2 : isNaN .f64 13864612927836782592 = false := by decide +kernel
  rw [gtr64 hn c1, lss64 hn c2, eql64 hn hn, e1, e2, hp.2]
  generalize m * 2 ^ e = v at *
  refine ⟨?_, ?_, by simp⟩
  · rw [decide_eq_false_iff_not]; unfold sgn; split <;> omega
  · rw [decide_eq_false_iff_not]; unfold sgn; split <;> omega
/-- The argument of a gain, of a pitch. -/
def gainX (n : Int) : Nat := fbin .mul .f64 (fofint .f64 n) 4577790371455803420
theorem gainX_lg {n : Int} (hn : n.natAbs ≤ 2000) : Lg (gainX n) 4 :=
  Bd_lg (Bd_mul (Bd_int hn (by decide) (by decide)) (Bd_const (by decide +kernel)) (by decide +kernel)) (lg_of (by decide +kernel))
def stepX (n : Int) : Nat := fbin .mul .f64 (fofint .f64 n) 4588485240726681578
theorem stepX_lg {n : Int} (hn : n.natAbs ≤ 100) : Lg (stepX n) 4 :=
  Bd_lg (Bd_mul (Bd_int hn (by decide) (by decide)) (Bd_const (by decide +kernel)) (by decide +kernel)) (lg_of (by decide +kernel))
theorem exp_some {x : Nat} (hx : Lg x 4) : ∃ y, fconv .f64 .f32 (expC x) = some y :=
  Lg_narrow (A := 125) (Bd_lg (exp_bd hx) (lg_of (by decide +kernel))) (by decide) (Bd_not (exp_bd hx))
def stepW (x : Nat) : Nat := fbin .quo .f64 (fbin .mul .f64 (expC x) 4646448178051153920) 4676829883349860352
theorem step_some {x : Nat} (hx : Lg x 4) : ∃ y, fconv .f64 .f32 (stepW x) = some y := by
  have h := Bd_quo (y := 4676829883349860352) (n := 48000 * 2 ^ 37) (J := 37) (j := -37) (Bd_mul (exp_bd hx) (Bd_const (x := 4646448178051153920) (by decide +kernel)) (by decide +kernel)) (by decide +kernel) (by decide +kernel) rfl (.inl (by decide +kernel))
  exact Lg_narrow (A := 125) (Bd_lg h (lg_of (by decide +kernel))) (by decide) (Bd_not h)
end Go.E
