/- Sums and products of short binary fractions are exact. Plain lemmas; no condition. -/
import Derived.Test.YtkabbddhdnddoaaEP
set_option linter.unusedVariables false
set_option linter.unusedSimpArgs false
set_option exponentiation.threshold 3000
namespace Go.E
open Go Ieee
/-- The numbers of a format: least place, places. -/
structure FK (f : Format) (L fb : Nat) : Prop where
  least : f.leastPlace = -(L : Int)
  bin : f.binade = 2 ^ fb
  big : (L + 2) * f.binade ≤ f.infRung
  sw : f.infRung < f.signWeight
  one : f.binade < f.infRung
theorem fk32 : FK single 149 23 := by
  obtain ⟨a, b, c, d⟩ := consts32
  exact ⟨c, by rw [b], by rw [a, b]; decide, by rw [a, d]; decide, by rw [a, b]; decide⟩
theorem fk64 : FK double 1074 52 := by
  obtain ⟨a, b, c, d⟩ := consts64
  exact ⟨c, by rw [b], by rw [a, b]; decide, by rw [a, d]; decide, by rw [a, b]; decide⟩
/-- x is k / 2^e. -/
def Dy (f : Format) (L : Nat) (x : Nat) (k : Int) (e : Nat) : Prop := x % f.signWeight < f.infRung ∧ e ≤ L ∧ valOf f x = k * (2 ^ (L - e) : Nat)
section
variable {f : Format} {L fb : Nat}
theorem rung_at (F : FK f L fb) {n s : Nat} (h : n < 2 ^ (fb + 1)) (hs : s ≤ L) : ∃ r, r < f.infRung ∧ magOf f r = n * 2 ^ s := by
  have hbig := F.big
  have hbin := F.bin
  have hbp := Nat.two_pow_pos fb
  by_cases h0 : n = 0
  · subst h0
    refine ⟨0, by have := F.one; omega, by rw [magOf_zero, Nat.zero_mul]⟩
  have hL : n.log2 ≤ fb := by have := (Nat.log2_lt h0 (k := fb + 1)).2 h; omega
  have hL1 := Nat.log2_self_le h0
  have hL2 : n < 2 ^ (n.log2 + 1) := Nat.lt_log2_self
  generalize hk : n.log2 = k at hL hL1 hL2
  rcases Nat.lt_or_ge (k + s) fb with hc | hc
  · have h1 : n * 2 ^ s < f.binade := by
      rw [hbin]
      calc n * 2 ^ s < 2 ^ (k + 1) * 2 ^ s := Nat.mul_lt_mul_of_pos_right hL2 (Nat.two_pow_pos _)
        _ = 2 ^ (k + 1 + s) := (Nat.pow_add 2 _ _).symm
        _ ≤ 2 ^ fb := Nat.pow_le_pow_right (by omega) (by omega)
    exact ⟨n * 2 ^ s, by have := F.one; omega, by unfold magOf; rw [if_pos h1]⟩
  · have hM1 : f.binade ≤ n * 2 ^ (fb - k) := by
      rw [hbin]
      calc 2 ^ fb = 2 ^ k * 2 ^ (fb - k) := by rw [← Nat.pow_add]; congr 1; omega
        _ ≤ _ := Nat.mul_le_mul_right _ hL1
    have hM2 : n * 2 ^ (fb - k) < 2 * f.binade := by
      rw [hbin]
      calc n * 2 ^ (fb - k) < 2 ^ (k + 1) * 2 ^ (fb - k) := Nat.mul_lt_mul_of_pos_right hL2 (Nat.two_pow_pos _)
        _ = 2 ^ (fb + 1) := by rw [← Nat.pow_add]; congr 1; omega
        _ = 2 * 2 ^ fb := by rw [Nat.pow_succ]; omega
    have key : n * 2 ^ (fb - k) * 2 ^ (k + s - fb) = n * 2 ^ s := by
      rw [Nat.mul_assoc, ← Nat.pow_add]; congr 2; omega
    generalize n * 2 ^ (fb - k) = M at hM1 hM2 key
    obtain ⟨t, ht⟩ : ∃ t, k + s - fb = t := ⟨_, rfl⟩
    rw [ht] at key
    have htL : t ≤ L := by omega
    have hb0 : 0 < f.binade := by rw [hbin]; exact hbp
    obtain ⟨b, hb⟩ : ∃ b, f.binade = b := ⟨_, rfl⟩
    rw [hb] at hM1 hM2 hb0 hbig
    have htb : t * b ≤ L * b := Nat.mul_le_mul_right _ htL
    have e1 : (L + 2) * b = L * b + 2 * b := Nat.add_mul _ _ _
    refine ⟨t * b + M, by omega, ?_⟩
    unfold magOf
    rw [hb, if_neg (by omega)]
    have q1 : (t * b + M) % b = M - b := by
      have : t * b + M = (M - b) + b * (t + 1) := by rw [Nat.mul_add, Nat.mul_comm b t]; omega
      rw [this, Nat.add_mul_mod_self_left]
      exact Nat.mod_eq_of_lt (by omega)
    have q2 : (t * b + M) / b - 1 = t := by
      have : t * b + M = (M - b) + b * (t + 1) := by rw [Nat.mul_add, Nat.mul_comm b t]; omega
      rw [this, Nat.add_mul_div_left _ _ hb0, Nat.div_eq_of_lt (by omega)]
      omega
    rw [q1, q2, show b + (M - b) = M by omega, key]
theorem sgn_abs {k : Int} {s : Bool} (h : k ≠ 0 → s = decide (k < 0)) : sgn s k.natAbs = k := by
  unfold sgn
  by_cases h0 : k = 0
  · subst h0; cases s <;> rfl
  · rw [h h0]
    by_cases hk : k < 0
    · simp [hk]; omega
    · simp [hk]; omega
/-- A word whose value is k / 2^e. -/
theorem Dy_word (F : FK f L fb) {k : Int} {e r : Nat} {s : Bool} (hr : r < f.infRung) (he : e ≤ L) (hm : magOf f r = k.natAbs * 2 ^ (L - e)) (hs : k ≠ 0 → s = decide (k < 0)) : Dy f L (f.word s r) k e := by
  have hsw := F.sw
  obtain ⟨p1, p2⟩ := word_parts f s (r := r) (by omega)
  refine ⟨by rw [p1]; exact hr, he, ?_⟩
  rw [valOf_sgn, p1, p2, hm, sgn_mul, sgn_abs hs]
theorem Dy.read (F : FK f L fb) {x e : Nat} {k : Int} (h : Dy f L x k e) : ∃ (s : Bool) (m i : Nat), f.read x = .number s m (-(L : Int) + (i : Int)) ∧ sgn s (m * 2 ^ i) = k * (2 ^ (L - e) : Nat) := by
  obtain ⟨h1, h2, h3⟩ := h
  have hsw := F.sw
  have hn : (f.read x).isNaN = false := by
    unfold Format.read
    simp only []
    split
    · rfl
    · rfl
  rcases read_cases f F.one x hn with ⟨_, m, i, q1, q2⟩ | ⟨q, _⟩
  · refine ⟨negOf f x, m, i, by rw [q1, F.least], ?_⟩
    rw [← h3, valOf_sgn, q2]
  · omega
theorem Dy.up (F : FK f L fb) {x e : Nat} {k : Int} (h : Dy f L x k e) (he : e + 1 ≤ L) : Dy f L x (2 * k) (e + 1) := by
  obtain ⟨h1, h2, h3⟩ := h
  refine ⟨h1, he, ?_⟩
  rw [h3]
  obtain ⟨d, hd⟩ : ∃ d, L - e = d + 1 := ⟨L - e - 1, by omega⟩
  rw [hd, show L - (e + 1) = d by omega, Nat.pow_succ]
  generalize 2 ^ d = p
  rw [Int.natCast_mul, Int.mul_comm 2 k, Int.mul_assoc, Int.mul_comm (p : Int)]
  rfl
theorem Dy.zero (F : FK f L fb) {e : Nat} (he : e ≤ L) : Dy f L 0 0 e := by
  have h1 : valOf f 0 = 0 := by rw [valOf_sgn, Nat.zero_mod, magOf_zero]; unfold sgn; split <;> rfl
  exact ⟨by rw [Nat.zero_mod]; have := F.one; omega, he, by rw [h1, Int.zero_mul]⟩
theorem sum_exactG {c : Int} {s t : Bool} {m n e e2 : Nat} : ∃ (u : Bool) (T : Int) (b : Nat), (Datum.number s m (c + (e : Int))).sum (.number t n (c + (e2 : Int))) = some (.number u T.natAbs (c + (b : Int))) ∧ T * (2 ^ b : Nat) = sgn s (m * 2 ^ e) + sgn t (n * 2 ^ e2) ∧ (T ≠ 0 → u = decide (T < 0)) := by
  have hb : min (c + (e : Int)) (c + (e2 : Int)) = c + ((min e e2 : Nat) : Int) := by omega
  refine ⟨if signed s m (e - min e e2) + signed t n (e2 - min e e2) = 0 then s && t else decide (signed s m (e - min e e2) + signed t n (e2 - min e e2) < 0), signed s m (e - min e e2) + signed t n (e2 - min e e2), min e e2, ?_, ?_, ?_⟩
  · unfold Datum.sum
    simp only [hb]
    have t1 : (c + (e : Int) - (c + ((min e e2 : Nat) : Int))).toNat = e - min e e2 := by omega
    have t2 : (c + (e2 : Int) - (c + ((min e e2 : Nat) : Int))).toNat = e2 - min e e2 := by omega
    rw [t1, t2]
  · rw [signed_sgn, signed_sgn, Int.add_mul, ← sgn_mul, ← sgn_mul, Nat.mul_assoc, Nat.mul_assoc, ← Nat.pow_add, ← Nat.pow_add]
    have w1 : e - min e e2 + min e e2 = e := by omega
    have w2 : e2 - min e e2 + min e e2 = e2 := by omega
    rw [w1, w2]
  · intro h
    rw [if_neg h]
/-- What is written of a sum. -/
theorem Dy_sum (F : FK f L fb) {x e : Nat} {k l : Int} (hx : Dy f L x k e) {dy : Datum} {s2 : Bool} {n j : Nat} (hy : dy = .number s2 n (-(L : Int) + (j : Int))) (hv : sgn s2 (n * 2 ^ j) = l * (2 ^ (L - e) : Nat)) (hb : (k + l).natAbs < 2 ^ (fb + 1)) :
    ∃ z, ((f.read x).sum dy).map f.write = some z ∧ Dy f L z (k + l) e := by
  obtain ⟨s, m, i, q1, q2⟩ := hx.read F
  obtain ⟨u, T, b, g1, g2, g3⟩ := sum_exactG (c := -(L : Int)) (s := s) (t := s2) (m := m) (n := n) (e := i) (e2 := j)
  obtain ⟨r, r1, r2⟩ := rung_at F (s := L - e) hb (by omega)
  have hT : T * (2 ^ b : Nat) = (k + l) * (2 ^ (L - e) : Nat) := by rw [g2, q2, hv, Int.add_mul]
  have hTa : T.natAbs * 2 ^ b = (k + l).natAbs * 2 ^ (L - e) := by
    have := congrArg Int.natAbs hT
    rwa [Int.natAbs_mul, Int.natAbs_mul, Int.natAbs_natCast, Int.natAbs_natCast] at this
  have hpb := Nat.two_pow_pos b
  have hpe := Nat.two_pow_pos (L - e)
  have hne := nearest_exact f u (r := r) (m := T.natAbs) (a := b) (b := 0) (p := -(L : Int) + (b : Int)) r1 (by rw [hTa, r2, Nat.pow_zero, Nat.mul_one]) (by rw [F.least]; omega)
  refine ⟨f.word u r, ?_, Dy_word F r1 hx.2.1 r2 fun h0 => ?_⟩
  · rw [q1, hy, g1]
    show some (f.nearest u T.natAbs _) = _
    rw [hne]
  · have hT0 : T ≠ 0 := by
      intro q
      rw [q, Int.zero_mul] at hT
      have := Int.mul_eq_zero.1 hT.symm
      omega
    rw [g3 hT0]
    generalize 2 ^ b = B at *
    generalize 2 ^ (L - e) = E at *
    by_cases hn : T < 0
    · have h1 : T * (B : Int) < 0 := Int.mul_neg_of_neg_of_pos hn (by omega)
      have h2 : k + l < 0 := by
        apply Int.lt_of_not_ge
        intro h3
        have := Int.mul_nonneg h3 (show (0 : Int) ≤ (E : Int) by omega)
        omega
      simp [hn, h2]
    · have h1 : 0 ≤ T * (B : Int) := Int.mul_nonneg (by omega) (by omega)
      have h2 : ¬ k + l < 0 := by
        intro h3
        have := Int.mul_neg_of_neg_of_pos h3 (show (0 : Int) < (E : Int) by omega)
        omega
      simp [hn, h2]
theorem sgn_mul2 {s t : Bool} {a b : Nat} : sgn (s ^^ t) (a * b) = sgn s a * sgn t b := by
  unfold sgn
  cases s <;> cases t <;> simp [Int.neg_mul, Int.mul_neg]
theorem Dy_prod (F : FK f L fb) {x y e d : Nat} {k l : Int} (hx : Dy f L x k e) (hy : Dy f L y l d) (hb : (k * l).natAbs < 2 ^ (fb + 1)) (hL : e + d ≤ L) :
    ∃ z, ((f.read x).product (f.read y)).map f.write = some z ∧ Dy f L z (k * l) (e + d) := by
  obtain ⟨s, m, i, q1, q2⟩ := hx.read F
  obtain ⟨t, n, j, p1, p2⟩ := hy.read F
  obtain ⟨r, r1, r2⟩ := rung_at F (s := L - (e + d)) hb (by omega)
  have hv : sgn (s ^^ t) (m * 2 ^ i * (n * 2 ^ j)) = k * l * ((2 ^ (L - (e + d)) * 2 ^ L : Nat) : Int) := by
    rw [sgn_mul2, q2, p2]
    have e1 : 2 ^ (L - (e + d)) * 2 ^ L = 2 ^ (L - e) * 2 ^ (L - d) := by rw [← Nat.pow_add, ← Nat.pow_add]; congr 1; omega
    rw [e1, Int.natCast_mul]
    generalize ((2 ^ (L - e) : Nat) : Int) = E
    generalize ((2 ^ (L - d) : Nat) : Int) = G
    rw [Int.mul_assoc, Int.mul_assoc, Int.mul_left_comm E]
  have hab : m * n * 2 ^ (i + j) = (k * l).natAbs * 2 ^ (L - (e + d)) * 2 ^ L := by
    have h1 := congrArg Int.natAbs hv
    rw [Int.natAbs_mul, Int.natAbs_natCast] at h1
    have h2 : (sgn (s ^^ t) (m * 2 ^ i * (n * 2 ^ j))).natAbs = m * 2 ^ i * (n * 2 ^ j) := by unfold sgn; split <;> omega
    rw [h2] at h1
    rw [Nat.mul_assoc ((k * l).natAbs), ← h1, Nat.pow_add]
    ac_rfl
  have hne := nearest_exact f (s ^^ t) (r := r) (m := m * n) (a := i + j) (b := L) (p := -(L : Int) + (i : Int) + (-(L : Int) + (j : Int))) r1 (by rw [hab, r2]) (by rw [F.least]; omega)
  refine ⟨f.word (s ^^ t) r, ?_, Dy_word F r1 hL r2 fun h0 => ?_⟩
  · rw [q1, p1]
    show some (f.nearest (s ^^ t) (m * n) _) = _
    rw [hne]
  · have hp : (0 : Int) < ((2 ^ (L - (e + d)) * 2 ^ L : Nat) : Int) := by
      have := Nat.mul_pos (Nat.two_pow_pos (L - (e + d))) (Nat.two_pow_pos L)
      omega
    generalize ((2 ^ (L - (e + d)) * 2 ^ L : Nat) : Int) = P at *
    generalize m * 2 ^ i * (n * 2 ^ j) = N at *
    unfold sgn at hv
    cases hst : (s ^^ t)
    · rw [hst] at hv
      simp only [Bool.false_eq_true, if_false] at hv
      have : ¬ k * l < 0 := by
        intro h3
        have := Int.mul_neg_of_neg_of_pos h3 hp
        omega
      simp [this]
    · rw [hst] at hv
      simp only [if_true] at hv
      have : k * l < 0 := by
        apply Int.lt_of_not_ge
        intro h3
        have h4 : 0 < k * l := by omega
        have := Int.mul_pos h4 hp
        omega
      simp [this]
end
theorem Dy32.add {x y e : Nat} {k l : Int} (hx : Dy single 149 x k e) (hy : Dy single 149 y l e) (hb : (k + l).natAbs < 16777216) : Dy single 149 (fbin .add .f32 x y) (k + l) e := by
  obtain ⟨t, n, j, p1, p2⟩ := hy.read fk32
  obtain ⟨z, h1, h2⟩ := Dy_sum fk32 hx rfl p2 hb
  have : fbin .add .f32 x y = z := by
    show (Option.map single.write ((single.read x).sum (single.read y))).getD _ = _
    rw [p1, h1]; rfl
  rw [this]; exact h2
theorem Dy32.sub {x y e : Nat} {k l : Int} (hx : Dy single 149 x k e) (hy : Dy single 149 y l e) (hb : (k - l).natAbs < 16777216) : Dy single 149 (fbin .sub .f32 x y) (k - l) e := by
  obtain ⟨t, n, j, p1, p2⟩ := hy.read fk32
  obtain ⟨z, h1, h2⟩ := Dy_sum fk32 (l := -l) (s2 := !t) (n := n) (j := j) hx rfl (by rw [sgn_not, p2, Int.neg_mul]) (by rw [← Int.sub_eq_add_neg]; exact hb)
  have : fbin .sub .f32 x y = z := by
    show (Option.map single.write ((single.read x).sum (single.read y).opposite)).getD _ = _
    rw [p1]
    show (Option.map single.write ((single.read x).sum (.number (!t) n _))).getD _ = _
    rw [h1]; rfl
  rw [this, Int.sub_eq_add_neg]; exact h2
theorem Dy32.mul {x y e d : Nat} {k l : Int} (hx : Dy single 149 x k e) (hy : Dy single 149 y l d) (hb : (k * l).natAbs < 16777216) (hL : e + d ≤ 149) : Dy single 149 (fbin .mul .f32 x y) (k * l) (e + d) := by
  obtain ⟨z, h1, h2⟩ := Dy_prod fk32 hx hy hb hL
  have : fbin .mul .f32 x y = z := by
    show (Option.map single.write ((single.read x).product (single.read y))).getD _ = _
    rw [h1]; rfl
  rw [this]; exact h2
theorem Dy64.add {x y e : Nat} {k l : Int} (hx : Dy double 1074 x k e) (hy : Dy double 1074 y l e) (hb : (k + l).natAbs < 9007199254740992) : Dy double 1074 (fbin .add .f64 x y) (k + l) e := by
  obtain ⟨t, n, j, p1, p2⟩ := hy.read fk64
  obtain ⟨z, h1, h2⟩ := Dy_sum fk64 hx rfl p2 hb
  have : fbin .add .f64 x y = z := by
    show (Option.map double.write ((double.read x).sum (double.read y))).getD _ = _
    rw [p1, h1]; rfl
  rw [this]; exact h2
theorem Dy64.sub {x y e : Nat} {k l : Int} (hx : Dy double 1074 x k e) (hy : Dy double 1074 y l e) (hb : (k - l).natAbs < 9007199254740992) : Dy double 1074 (fbin .sub .f64 x y) (k - l) e := by
  obtain ⟨t, n, j, p1, p2⟩ := hy.read fk64
  obtain ⟨z, h1, h2⟩ := Dy_sum fk64 (l := -l) (s2 := !t) (n := n) (j := j) hx rfl (by rw [sgn_not, p2, Int.neg_mul]) (by rw [← Int.sub_eq_add_neg]; exact hb)
  have : fbin .sub .f64 x y = z := by
    show (Option.map double.write ((double.read x).sum (double.read y).opposite)).getD _ = _
    rw [p1]
    show (Option.map double.write ((double.read x).sum (.number (!t) n _))).getD _ = _
    rw [h1]; rfl
  rw [this, Int.sub_eq_add_neg]; exact h2
theorem Dy64.mul {x y e d : Nat} {k l : Int} (hx : Dy double 1074 x k e) (hy : Dy double 1074 y l d) (hb : (k * l).natAbs < 9007199254740992) (hL : e + d ≤ 1074) : Dy double 1074 (fbin .mul .f64 x y) (k * l) (e + d) := by
  obtain ⟨z, h1, h2⟩ := Dy_prod fk64 hx hy hb hL
  have : fbin .mul .f64 x y = z := by
    show (Option.map double.write ((double.read x).product (double.read y))).getD _ = _
    rw [h1]; rfl
  rw [this]; exact h2
theorem Dy32.not {x e : Nat} {k : Int} (h : Dy single 149 x k e) : isNaN .f32 x = false := by
  obtain ⟨a, b, c, d⟩ := consts32
  have h1 := h.1
  rw [a, d] at h1
  rw [isNaN32]; simp; omega
theorem Dy64.not {x e : Nat} {k : Int} (h : Dy double 1074 x k e) : isNaN .f64 x = false := by
  obtain ⟨a, b, c, d⟩ := consts64
  have h1 := h.1
  rw [a, d] at h1
  rw [isNaN64]; simp; omega
theorem Dy32.eq {x y e : Nat} {k : Int} (hx : Dy single 149 x k e) (hy : Dy single 149 y k e) : fcmp .neq .f32 x y = false := by
  rw [fcmp_neq, eql32 (Dy32.not hx) (Dy32.not hy)]
  have : V x = V y := hx.2.2.trans hy.2.2.symm
  rw [this]; simp
theorem Dy64.eq {x y e : Nat} {k : Int} (hx : Dy double 1074 x k e) (hy : Dy double 1074 y k e) : fcmp .neq .f64 x y = false := by
  rw [fcmp_neq, eql64 (Dy64.not hx) (Dy64.not hy)]
  have : D x = D y := hx.2.2.trans hy.2.2.symm
  rw [this]; simp
theorem Dy32.wid {x e : Nat} {k : Int} (h : Dy single 149 x k e) : Dy double 1074 (wid x) k e := by
  obtain ⟨a, b, c, d⟩ := consts32
  obtain ⟨a', b', c', d'⟩ := consts64
  obtain ⟨R, h1, h2, h3⟩ := wid_word (Dy32.not h)
  obtain ⟨g1, g2, g3⟩ := h
  rw [a, d] at g1
  obtain ⟨k1, k2⟩ := h3.1 g1
  obtain ⟨p1, p2⟩ := word_parts double (negOf single x) (r := R) (by omega)
  rw [h2]
  refine ⟨by rw [p1]; exact k1, by omega, ?_⟩
  rw [valOf_sgn, p1, p2, k2, sgn_mul]
  have g4 : sgn (negOf single x) (magOf single (x % 2147483648)) = k * (2 ^ (149 - e) : Nat) := by rw [← g3, valOf_sgn, d]
  rw [g4, Int.mul_assoc, ← Int.natCast_mul, ← Nat.pow_add, show 149 - e + 925 = 1074 - e by omega]
theorem Dy32.flush {x e : Nat} {k : Int} (h : Dy single 149 x k e) (he : e ≤ 100) : flushF x = x := by
  obtain ⟨a, b, c, d⟩ := consts32
  obtain ⟨h1, h2, h3⟩ := h
  unfold flushF
  split
  · rename_i hs
    rw [valOf_sgn] at h3
    rw [d] at h1 h3
    rw [mag_small hs] at h3
    have hp : (2 : Nat) ^ (149 - e) = 8388608 * 2 ^ (126 - e) := by rw [show (8388608 : Nat) = 2 ^ 23 by decide, ← Nat.pow_add]; congr 1; omega
    have hq := Nat.two_pow_pos (126 - e)
    have h4 : x % 2147483648 = k.natAbs * 2 ^ (149 - e) := by
      have := congrArg Int.natAbs h3
      rw [Int.natAbs_mul, Int.natAbs_natCast] at this
      rw [← this]; unfold sgn; split <;> omega
    rw [hp] at h4
    by_cases hk : k.natAbs = 0
    · rw [hk, Nat.zero_mul] at h4; omega
    · have : 1 * (8388608 * 1) ≤ k.natAbs * (8388608 * 2 ^ (126 - e)) := Nat.mul_le_mul (by omega) (Nat.mul_le_mul_left _ (by omega))
      omega
  · rfl
end Go.E
