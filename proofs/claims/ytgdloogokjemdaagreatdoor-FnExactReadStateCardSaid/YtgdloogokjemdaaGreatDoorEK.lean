/- Facts of floats: a float32 as a float64, and back; signs and bits. Plain theorems on the model's floats; no condition. -/
import Derived.Test.YtgdloogokjemdaaGreatDoorEJ
import Derived.Lib.EndianBits
set_option linter.unusedVariables false
set_option linter.unusedSimpArgs false
namespace Go.E
open Go Ieee

theorem log2_of {m k : Nat} (h1 : 2 ^ k ≤ m) (h2 : m < 2 ^ (k + 1)) : m.log2 = k := by
  have h0 : m ≠ 0 := by have := Nat.two_pow_pos k; omega
  have a := (Nat.le_log2 h0).2 h1
  have b := (Nat.log2_lt h0).2 h2
  omega
/-- A number that the format has is itself its nearest. -/
theorem nearest_mag (f : Format) (neg : Bool) {r : Nat} (hr : r < f.infRung) : f.nearest neg (magOf f r) f.leastPlace = f.word neg r := by
  have hb := binade_pos f
  unfold magOf
  split
  · rename_i h1
    unfold Format.nearest
    by_cases h0 : r = 0
    · rw [if_pos h0, h0]
    · rw [if_neg h0]
      have hl : r.log2 < f.fractionBits := (Nat.log2_lt h0).2 h1
      have e1 : max (f.leastPlace + (r.log2 : Int) - (f.fractionBits : Int)) f.leastPlace = f.leastPlace := by omega
      simp only [e1, Int.sub_self, Int.toNat_zero, Nat.shiftLeft_zero, cut_none, Nat.zero_mul, Nat.zero_add]
      rw [Nat.min_eq_left (by omega)]
  · rename_i h1
    have hq : 1 ≤ r / f.binade := (Nat.one_le_div_iff hb).2 (by omega)
    have hm := Nat.mod_lt r hb
    have hd := Nat.div_add_mod r f.binade
    have hs := nearest_scale f neg (f.binade + r % f.binade) (r / f.binade - 1) (f.leastPlace + ((r / f.binade - 1 : Nat) : Int))
    rw [Int.add_sub_cancel] at hs
    rw [hs]
    unfold Format.nearest
    have h0 : f.binade + r % f.binade ≠ 0 := by omega
    rw [if_neg h0]
    have hl : (f.binade + r % f.binade).log2 = f.fractionBits := log2_of (show 2 ^ f.fractionBits ≤ _ from Nat.le_add_right _ _) (by rw [Nat.pow_succ]; show f.binade + r % f.binade < f.binade * 2; omega)
    rw [hl]
    have e1 : max (f.leastPlace + ((r / f.binade - 1 : Nat) : Int) + (f.fractionBits : Int) - (f.fractionBits : Int)) f.leastPlace = f.leastPlace + ((r / f.binade - 1 : Nat) : Int) := by omega
    simp only [e1, Int.sub_self, Int.toNat_zero, Nat.shiftLeft_zero, cut_none]
    have e2 : (f.leastPlace + ((r / f.binade - 1 : Nat) : Int) - f.leastPlace).toNat = r / f.binade - 1 := by omega
    rw [e2]
    have e3 : (r / f.binade - 1) * f.binade + (f.binade + r % f.binade) = r := by
      have : (r / f.binade - 1) * f.binade + f.binade = (r / f.binade) * f.binade := by
        rw [← Nat.succ_mul]; congr 1; omega
      rw [← Nat.add_assoc, this, Nat.mul_comm]; exact hd
    rw [e3, Nat.min_eq_left (by omega)]
theorem nearest_exact (f : Format) (neg : Bool) {r m a b : Nat} {p : Int} (hr : r < f.infRung) (h : m * 2 ^ a = magOf f r * 2 ^ b) (hp : p - a = f.leastPlace - b) : f.nearest neg m p = f.word neg r := by
  rw [← nearest_scale f neg m a p, h, hp, nearest_scale, nearest_mag f neg hr]
theorem consts32 : single.infRung = 2139095040 ∧ single.binade = 8388608 ∧ single.leastPlace = -149 ∧ single.signWeight = 2147483648 := by refine ⟨?_, ?_, ?_, ?_⟩ <;> decide +kernel
theorem consts64 : double.infRung = 9218868437227405312 ∧ double.binade = 4503599627370496 ∧ double.leastPlace = -1074 ∧ double.signWeight = 9223372036854775808 := by refine ⟨?_, ?_, ?_, ?_⟩ <;> decide +kernel
theorem pow_cut {e k : Nat} : 2 ^ e * 2 ^ k = 2 ^ (e + k) := (Nat.pow_add 2 e k).symm
set_option exponentiation.threshold 2000 in
/-- Every float32 is a float64. -/
theorem wide_rung {r : Nat} (hr : r < single.infRung) : ∃ R, R < double.infRung ∧ magOf double R = magOf single r * 2 ^ 925 := by
  obtain ⟨c1, c2, c3, c4⟩ := consts32
  obtain ⟨d1, d2, d3, d4⟩ := consts64
  by_cases h0 : r = 0
  · subst h0; exact ⟨0, by omega, by rw [show magOf double 0 = 0 from rfl, show magOf single 0 = 0 from rfl, Nat.zero_mul]⟩
  have hm : ∃ m e, magOf single r = m * 2 ^ e ∧ m < 2 ^ 24 ∧ m ≠ 0 ∧ e ≤ 253 := by
    unfold magOf
    rw [c2]
    split
    · rename_i h1; exact ⟨r, 0, by simp, by omega, h0, by omega⟩
    · rename_i h1; exact ⟨8388608 + r % 8388608, r / 8388608 - 1, rfl, by omega, by omega, by omega⟩
  obtain ⟨m, e, hm1, hm2, hm3, hm4⟩ := hm
  have hL : m.log2 ≤ 23 := by have := (Nat.log2_lt hm3 (k := 24)).2 hm2; omega
  have hL1 := Nat.log2_self_le hm3
  have hL2 : m < 2 ^ (m.log2 + 1) := Nat.lt_log2_self
  generalize hk : m.log2 = k at hL hL1 hL2
  have hM1 : 4503599627370496 ≤ m * 2 ^ (52 - k) := by
    calc 4503599627370496 = 2 ^ k * 2 ^ (52 - k) := by rw [← Nat.pow_add]; have : k + (52 - k) = 52 := by omega
                                                       rw [this]
      _ ≤ _ := Nat.mul_le_mul_right _ hL1
  have hM2 : m * 2 ^ (52 - k) < 2 * 4503599627370496 := by
    calc m * 2 ^ (52 - k) < 2 ^ (k + 1) * 2 ^ (52 - k) := Nat.mul_lt_mul_of_pos_right hL2 (Nat.two_pow_pos _)
      _ = 2 * 4503599627370496 := by rw [← Nat.pow_add]; have : k + 1 + (52 - k) = 53 := by omega
                                     rw [this]
  have key : m * 2 ^ (52 - k) * 2 ^ (e + 925 + k - 52) = m * 2 ^ e * 2 ^ 925 := by
    rw [Nat.mul_assoc, Nat.mul_assoc, ← Nat.pow_add, ← Nat.pow_add]; congr 2; omega
  generalize m * 2 ^ (52 - k) = M at hM1 hM2 key
  refine ⟨(e + 925 + k - 52) * 4503599627370496 + M, by rw [d1]; omega, ?_⟩
  unfold magOf
  rw [d2, if_neg (by omega)]
  have q1 : ((e + 925 + k - 52) * 4503599627370496 + M) % 4503599627370496 = M - 4503599627370496 := by omega
  have q2 : ((e + 925 + k - 52) * 4503599627370496 + M) / 4503599627370496 - 1 = e + 925 + k - 52 := by omega
  have q3 : 4503599627370496 + (M - 4503599627370496) = M := by omega
  have hm1' : magOf single r = m * 2 ^ e := hm1
  unfold magOf at hm1'
  rw [q1, q2, q3, key, hm1']
theorem word_parts (f : Format) (neg : Bool) {r : Nat} (h : r < f.signWeight) : f.word neg r % f.signWeight = r ∧ negOf f (f.word neg r) = neg := by
  unfold Format.word negOf
  cases neg
  · simp [Nat.mod_eq_of_lt h, Nat.div_eq_of_lt h]
  · have hp : 0 < f.signWeight := by omega
    simp only [if_true]
    have e1 : (f.signWeight + r) % f.signWeight = r := by rw [Nat.add_mod_left]; exact Nat.mod_eq_of_lt h
    have e2 : (f.signWeight + r) / f.signWeight = 1 := by rw [Nat.add_div_left _ hp, Nat.div_eq_of_lt h]
    rw [e1, e2]; exact ⟨rfl, rfl⟩
set_option exponentiation.threshold 2000 in
/-- What a float32 is as a float64. -/
theorem wid_word {x : Nat} (hn : isNaN .f32 x = false) : ∃ R, R ≤ double.infRung ∧ wid x = double.word (negOf single x) R ∧
    (x % 2147483648 < 2139095040 → R < double.infRung ∧ magOf double R = magOf single (x % 2147483648) * 2 ^ 925) ∧ (x % 2147483648 = 2139095040 → R = double.infRung) := by
  obtain ⟨c1, c2, c3, c4⟩ := consts32
  obtain ⟨d1, d2, d3, d4⟩ := consts64
  have hc : fconv .f32 .f64 x = floatToFloatBits .f32 x .f64 := by unfold fconv; rw [if_neg (by decide), hn]; rfl
  have hw := fconv_wid x
  rw [hc] at hw
  unfold floatToFloatBits at hw
  rw [if_neg (by decide)] at hw
  rcases read_cases single single_ok x hn with ⟨h1, m, e, h2, h3⟩ | ⟨h1, h2⟩
  · have h2' : FloatKind.f32.decode x = .number (negOf single x) m (single.leastPlace + (e : Int)) := h2
    rw [h2'] at hw
    simp only [] at hw
    obtain ⟨R, hR1, hR2⟩ := wide_rung h1
    refine ⟨R, by omega, ?_, fun _ => ⟨hR1, by rw [← c4]; exact hR2⟩, fun hh => by rw [c4, c1] at h1; omega⟩
    have hnr : FloatKind.f64.encode (.number (negOf single x) m (single.leastPlace + (e : Int))) = double.word (negOf single x) R := by
      show double.nearest (negOf single x) m (single.leastPlace + (e : Int)) = _
      refine nearest_exact double _ (a := e + 925) (b := 0) (r := R) hR1 ?_ ?_
      · rw [hR2, h3, Nat.pow_zero, Nat.mul_one, Nat.mul_assoc, pow_cut]
      · rw [c3, d3]; omega
    rw [hnr] at hw
    split at hw
    · cases hw
    · injection hw with hw; exact hw.symm
  · have h2' : FloatKind.f32.decode x = .infinity (negOf single x) := h2
    rw [h2'] at hw
    simp only [] at hw
    injection hw with hw
    rw [c4, c1] at h1
    exact ⟨double.infRung, by omega, hw.symm, fun hh => by omega, fun _ => rfl⟩
theorem wid_nan {x : Nat} (hn : isNaN .f32 x = true) : wid x = nanOf .f64 := by
  have hw := fconv_wid x
  unfold fconv at hw
  rw [if_neg (by decide), hn, if_pos rfl] at hw
  injection hw with hw; exact hw.symm
theorem double_read_nan {s : Bool} {R : Nat} (h : R ≤ double.infRung) : isNaN .f64 (double.word s R) = false := by
  obtain ⟨d1, d2, d3, d4⟩ := consts64
  have := (word_parts double s (r := R) (by omega)).1
  rw [isNaN64]
  rw [d4] at this
  rw [this]; simp; omega
/-- And back. -/
theorem narrow_word {s : Bool} {R r : Nat} (h1 : r < single.infRung) (h2 : R < double.infRung) (h3 : magOf double R = magOf single r * 2 ^ 925) : fconv .f64 .f32 (double.word s R) = some (single.word s r) := by
  obtain ⟨c1, c2, c3, c4⟩ := consts32
  obtain ⟨d1, d2, d3, d4⟩ := consts64
  have hp := word_parts double s (r := R) (by omega)
  have hn := double_read_nan (s := s) (R := R) (by omega)
  unfold fconv
  rw [if_neg (by decide), hn]
  simp only [Bool.false_eq_true, if_false]
  unfold floatToFloatBits
  rw [if_neg (by decide)]
  rcases read_cases double double_ok _ hn with ⟨q1, m, e, q2, q3⟩ | ⟨q1, q2⟩
  · have q2' : FloatKind.f64.decode (double.word s R) = .number s m (double.leastPlace + (e : Int)) := by rw [hp.2] at q2; exact q2
    rw [q2']
    simp only []
    rw [hp.1] at q3
    have hnr : FloatKind.f32.encode (.number s m (double.leastPlace + (e : Int))) = single.word s r := by
      show single.nearest s m (double.leastPlace + (e : Int)) = _
      refine nearest_exact single _ (a := e) (b := 925) (r := r) h1 ?_ ?_
      · rw [← q3, h3]
      · rw [c3, d3]; omega
    rw [hnr]
    have : (single.read (single.word s r)).isInfinity = false := read_small single s r h1
    have this' : (FloatKind.f32.decode (single.word s r)).isInfinity = false := this
    rw [this']
    rfl
  · rw [hp.1] at q1; omega
theorem narrow_inf {s : Bool} : fconv .f64 .f32 (double.word s double.infRung) = some (single.word s single.infRung) := by cases s <;> decide +kernel
theorem word32 {x : Nat} (h : x < 4294967296) : single.word (negOf single x) (x % 2147483648) = x := by
  obtain ⟨c1, c2, c3, c4⟩ := consts32
  unfold Format.word negOf
  rw [c4]
  by_cases hx : x < 2147483648
  · rw [Nat.div_eq_of_lt hx, Nat.mod_eq_of_lt hx]; rfl
  · have e1 : x / 2147483648 = 1 := by omega
    rw [e1]; simp; omega
/-- The absolute value, of both kinds. -/
def fabs (x : Nat) : Nat := if isNaN .f32 x then nanOf .f32 else x % 2147483648
def fabs64 (x : Nat) : Nat := if isNaN .f64 x then nanOf .f64 else x % 9223372036854775808
theorem abs_wid (x : Nat) : fconv .f64 .f32 (fabs64 (wid x)) = some (fabs x) := by
  obtain ⟨c1, c2, c3, c4⟩ := consts32
  obtain ⟨d1, d2, d3, d4⟩ := consts64
  unfold fabs fabs64
  cases hn : isNaN .f32 x
  · obtain ⟨R, h1, h2, h3, h4⟩ := wid_word hn
    have hnw := double_read_nan (s := negOf single x) (R := R) h1
    rw [h2, hnw]
    have hp := (word_parts double (negOf single x) (r := R) (by omega)).1
    rw [d4] at hp
    simp only [Bool.false_eq_true, if_false, hp]
    rw [isNaN32] at hn
    simp at hn
    rcases Nat.lt_or_ge (x % 2147483648) 2139095040 with hlt | hge
    · obtain ⟨k1, k2⟩ := h3 hlt
      exact narrow_word (s := false) (by omega) k1 k2
    · have e : x % 2147483648 = 2139095040 := by omega
      rw [h4 e, e]
      exact narrow_inf (s := false)
  · rw [wid_nan hn]
    have : isNaN .f64 (nanOf .f64) = true := isNaN_nanOf _
    rw [this]
    simp only [if_true]
    decide +kernel
theorem CF_abs (x : Nat) : CF (fabs x) := by
  unfold fabs
  cases hn : isNaN .f32 x
  · refine ⟨by simp; omega, can_of_not ?_⟩
    simp only [Bool.false_eq_true, if_false]
    rw [isNaN32] at hn ⊢
    rw [Nat.mod_mod]; exact hn
  · simp only [if_true]; exact ⟨by decide, can_of_nan (isNaN_nanOf _)⟩
/-- A number, but a zero of its sign where it is subnormal. -/
def flushF (x : Nat) : Nat := if x % 2147483648 < 8388608 then x / 2147483648 * 2147483648 else x
theorem CF_flush {x : Nat} (h : CF x) : CF (flushF x) := by
  unfold flushF
  split
  · obtain ⟨h1, h2⟩ := h
    have : x / 2147483648 = 0 ∨ x / 2147483648 = 1 := by omega
    rcases this with e | e <;> rw [e] <;> exact ⟨by decide, by decide⟩
  · exact h
theorem wid_sign {x : Nat} (hx : x < 4294967296) (hn : isNaN .f32 x = false) : wid x / 9223372036854775808 = x / 2147483648 ∧ wid x < 18446744073709551616 := by
  obtain ⟨d1, d2, d3, d4⟩ := consts64
  obtain ⟨c1, c2, c3, c4⟩ := consts32
  obtain ⟨R, h1, h2, _, _⟩ := wid_word hn
  rw [h2]
  unfold Format.word negOf
  rw [d4, c4]
  have : x / 2147483648 = 0 ∨ x / 2147483648 = 1 := by omega
  rcases this with e | e <;> rw [e] <;> simp <;> omega
/-! ### Bits -/
theorem and_low {x a k n : Nat} (hn : x < 2 ^ n) (h : a = (2 ^ (n - k) - 1) * 2 ^ k) (hk : k ≤ n) : x &&& a = x / 2 ^ k * 2 ^ k := by
  subst h
  apply Nat.eq_of_testBit_eq
  intro i
  rw [Nat.testBit_and, ← Nat.shiftLeft_eq, ← Nat.shiftLeft_eq, Nat.testBit_shiftLeft, Nat.testBit_shiftLeft, Nat.testBit_two_pow_sub_one, Nat.testBit_div_two_pow]
  by_cases hi : k ≤ i
  · have e : i - k + k = i := by omega
    simp only [hi, decide_true, Bool.true_and, e]
    by_cases hin : i < n
    · have : i - k < n - k := by omega
      simp [this]
    · have : x.testBit i = false := Nat.testBit_lt_two_pow (Nat.lt_of_lt_of_le hn (Nat.pow_le_pow_right (by omega) (by omega)))
      simp [this]
  · simp [hi]
theorem and_exp {x : Nat} : ((x &&& 2139095040) = 0) ↔ x % 2147483648 < 8388608 := by
  have e1 : x &&& 2139095040 = (x % 2147483648) &&& 2139095040 := by
    have : (2139095040 : Nat) = 2147483647 &&& 2139095040 := by decide
    rw [this, ← Nat.and_assoc, Nat.and_comm x]
    have : (2147483647 &&& x) = x % 2147483648 := by
      rw [Nat.and_comm]; exact Nat.and_two_pow_sub_one_eq_mod x 31
    rw [this]; rfl
  rw [e1, and_low (n := 31) (k := 23) (by omega) (by decide) (by decide)]
  omega
theorem and_top {x : Nat} (hx : x < 4294967296) : x &&& 2147483648 = x / 2147483648 * 2147483648 := by
  rw [and_low (n := 32) (k := 31) (by omega) (by decide) (by decide)]
theorem and_top64 {x : Nat} (hx : x < 18446744073709551616) : x &&& 9223372036854775808 = x / 9223372036854775808 * 9223372036854775808 := by
  rw [and_low (n := 64) (k := 63) (by omega) (by decide) (by decide)]
/-- 'and' of two small numbers. -/
theorem and_i64 {x y : Nat} (hx : x < 9223372036854775808) (hy : y < 9223372036854775808) : binV .and (.lf (.int .i64 x)) (.lf (.int .i64 y)) = some (.lf (.int .i64 ((x &&& y : Nat) : Int))) := by
  have hle : x &&& y ≤ x := Nat.and_le_left
  have key : Go.bits .and .i64 x y = ((x &&& y : Nat) : Int) := by
    show IntKind.i64.wrap ((BitVec.ofInt 64 x &&& BitVec.ofInt 64 y).toNat : Int) = _
    have e1 : (BitVec.ofInt 64 (x : Int)).toNat = x := by rw [BitVec.toNat_ofInt]; omega
    have e2 : (BitVec.ofInt 64 (y : Int)).toNat = y := by rw [BitVec.toNat_ofInt]; omega
    rw [BitVec.toNat_and, e1, e2, wrap64 (by omega) (by omega)]
  simp [binV, isShift, ibin, key]
theorem and_u64 {x y : Nat} (hx : x < 18446744073709551616) (hy : y < 18446744073709551616) : binV .and (.lf (.int .u64 x)) (.lf (.int .u64 y)) = some (.lf (.int .u64 ((x &&& y : Nat) : Int))) := by
  have hle : x &&& y ≤ x := Nat.and_le_left
  have key : Go.bits .and .u64 x y = ((x &&& y : Nat) : Int) := by
    show IntKind.u64.wrap ((BitVec.ofInt 64 x &&& BitVec.ofInt 64 y).toNat : Int) = _
    have e1 : (BitVec.ofInt 64 (x : Int)).toNat = x := by rw [BitVec.toNat_ofInt]; omega
    have e2 : (BitVec.ofInt 64 (y : Int)).toNat = y := by rw [BitVec.toNat_ofInt]; omega
    rw [BitVec.toNat_and, e1, e2, IntKind.wrap_u64]; omega
  simp [binV, isShift, ibin, key]
theorem or0_u64 {y : Nat} (hy : y < 18446744073709551616) : binV .or (.lf (.int .u64 0)) (.lf (.int .u64 y)) = some (.lf (.int .u64 y)) := by
  have key : Go.bits .or .u64 0 y = (y : Int) := by
    show IntKind.u64.wrap ((BitVec.ofInt 64 0 ||| BitVec.ofInt 64 y).toNat : Int) = _
    have e1 : (BitVec.ofInt 64 (0 : Int)).toNat = 0 := by decide
    have e2 : (BitVec.ofInt 64 (y : Int)).toNat = y := by rw [BitVec.toNat_ofInt]; omega
    rw [BitVec.toNat_or, e1, e2, Nat.zero_or, IntKind.wrap_u64]; omega
  simp [binV, isShift, ibin, key]
theorem andNot_u64 {x : Nat} (hx : x < 18446744073709551616) : binV .andNot (.lf (.int .u64 x)) (.lf (.int .u64 9223372036854775808)) = some (.lf (.int .u64 ((x % 9223372036854775808 : Nat) : Int))) := by
  simp [binV, isShift, ibin, andNot_top x hx]
theorem andNot_nb : binV .andNot (.lf .nb) (.lf (.int .u64 9223372036854775808)) = some (.lf .nb) := by simp [binV]
theorem can64 {n : Nat} (h : n % 9223372036854775808 ≤ 9218868437227405312) : can .f64 n = n := can_of_not (by rw [isNaN64]; simp; omega)
end Go.E
