/- Places between samples: what lies before a float64, and what is left of it. Plain lemmas; no condition. -/
import Derived.Test.YtkabbddhdnddoaaEL
set_option linter.unusedVariables false
set_option linter.unusedSimpArgs false
set_option exponentiation.threshold 3000
namespace Go.E
open Go Ieee
theorem cut_low {neg : Bool} {n d : Nat} : Toward.zero.cut neg n d * 2 ^ d ≤ n ∧ n < (Toward.zero.cut neg n d + 1) * 2 ^ d := by
  unfold Toward.cut
  simp only [Bool.toNat_false, Nat.add_zero]
  have hp := Nat.two_pow_pos d
  by_cases hd : d ≤ n.log2 + 2
  · rw [Nat.min_eq_left hd, Nat.shiftLeft_eq, Nat.one_mul]
    exact ⟨Nat.div_mul_le_self _ _, by rw [Nat.mul_comm]; exact Nat.lt_mul_div_succ _ hp⟩
  · obtain ⟨h1, h2⟩ := cut_gap (n := n) (d := d) (by omega)
    have h4 : n < 2 ^ d := by
      have : n < 2 ^ (n.log2 + 1) := Nat.lt_log2_self
      have : 2 ^ (n.log2 + 1) ≤ 2 ^ d := Nat.pow_le_pow_right (by omega) (by omega)
      omega
    rw [Nat.div_eq_of_lt h1]
    omega
theorem cut_down {n d : Nat} : Toward.down.cut false n d = Toward.zero.cut false n d := by unfold Toward.cut; simp
theorem cut_nil {way : Toward} {neg : Bool} {d : Nat} : way.cut neg 0 d = 0 := by
  unfold Toward.cut
  have h0 : (1 <<< min d (Nat.log2 0 + 2)) ≠ 0 := by rw [Nat.shiftLeft_eq, Nat.one_mul]; exact Nat.ne_of_gt (Nat.two_pow_pos _)
  simp only [Nat.zero_div, Nat.zero_mod]
  cases way <;> simp [h0]
/-- What lies before a place that is not below nothing. -/
theorem floor_int {x : Nat} {b : Nat} (hx : x < 18446744073709551616) (hn : isNaN .f64 x = false) (h0 : 0 ≤ D x) (hb : D x ≤ (b : Int) * U) (hb2 : b ≤ 2147483648) : ∃ n : Nat, n ≤ b ∧ ftoint .f64 x .i64 = some (n : Int) ∧
    (n : Int) * U ≤ D x ∧ D x < ((n : Int) + 1) * U ∧ (n ≠ 0 → ftow .down x = fofint .f64 (n : Int)) ∧ (n = 0 → ∃ s, ftow .down x = double.word s 0) ∧
    ∃ (m e : Nat) (s : Bool), FloatKind.f64.decode x = .number s m (-1074 + (e : Int)) ∧ D x = sgn s (m * 2 ^ e) := by
  obtain ⟨d1, d2, d3, d4⟩ := consts64
  have hU := U_pos
  have hD : D x = sgn (negOf double x) (magOf double (x % double.signWeight)) := rfl
  have hle : x % double.signWeight ≤ double.infRung := by rw [isNaN64] at hn; simp at hn; rw [d4, d1]; omega
  have hmag : magOf double (x % double.signWeight) ≤ b * U := by
    rw [hD] at h0 hb
    have e : (b : Int) * (U : Int) = ((b * U : Nat) : Int) := by rw [Int.natCast_mul]
    rw [e] at hb
    unfold sgn at h0 hb
    cases hs : negOf double x <;> simp only [hs, Bool.false_eq_true, if_false, if_true] at h0 hb <;> omega
  have hfin : x % double.signWeight < double.infRung := by
    obtain ⟨q, hq1, hq2⟩ := rung_of (m := 2147483648) (by decide)
    have : b * U ≤ 2147483648 * U := Nat.mul_le_mul_right _ hb2
    by_cases hc : x % double.signWeight < double.infRung
    · exact hc
    · have : magOf double q < magOf double (x % double.signWeight) := magOf_lt (by omega)
      omega
  obtain ⟨m, e, h1, h2, h3⟩ := read_num hfin
  have hDx : D x = sgn (negOf double x) (m * 2 ^ e) := by rw [hD, h2]
  have hf : ftow .down x = FloatKind.f64.encode ((FloatKind.f64.decode x).integral .down) := by unfold ftow; rw [hn]; rfl
  rw [h2] at hmag
  -- the sign counts for nothing but zeros
  have hsm : negOf double x = true → m = 0 := by
    intro hs
    rw [hDx, hs] at h0
    unfold sgn at h0
    simp only [if_true] at h0
    have : m * 2 ^ e = 0 := by omega
    exact (Nat.mul_eq_zero.1 this).resolve_right (Nat.ne_of_gt (Nat.two_pow_pos e))
  have key : ∃ N : Nat, (∀ s, (s = true → m = 0) → Toward.zero.cut s (m <<< (-1074 + (e : Int)).toNat) (-(-1074 + (e : Int))).toNat = N ∧ Toward.down.cut s (m <<< (-1074 + (e : Int)).toNat) (-(-1074 + (e : Int))).toNat = N) ∧ N * U ≤ m * 2 ^ e ∧ m * 2 ^ e < (N + 1) * U := by
    by_cases he : 1074 ≤ e
    · have e1 : ((-1074 + (e : Int))).toNat = e - 1074 := by omega
      have e2 : (-(-1074 + (e : Int))).toNat = 0 := by omega
      rw [e1, e2, Nat.shiftLeft_eq]
      refine ⟨m * 2 ^ (e - 1074), fun s _ => ⟨cut_zero, cut_zero⟩, ?_, ?_⟩
      · rw [U_up he, ← Nat.mul_assoc]; exact Nat.le_refl _
      · rw [U_up he, ← Nat.mul_assoc, Nat.add_mul]; omega
    · have e1 : ((-1074 + (e : Int))).toNat = 0 := by omega
      have e2 : (-(-1074 + (e : Int))).toNat = 1074 - e := by omega
      rw [e1, e2, Nat.shiftLeft_zero]
      refine ⟨Toward.zero.cut false m (1074 - e), fun s hs => ?_, ?_, ?_⟩
      · cases s
        · exact ⟨rfl, cut_down⟩
        · have := hs rfl; subst this; rw [cut_nil, cut_nil, cut_nil]; exact ⟨rfl, rfl⟩
      · rw [U_split (e := e) (by omega), ← Nat.mul_assoc]
        exact Nat.mul_le_mul_right _ (cut_low).1
      · rw [U_split (e := e) (by omega), ← Nat.mul_assoc]
        exact Nat.mul_lt_mul_of_pos_right (cut_low).2 (Nat.two_pow_pos e)
  obtain ⟨N, hN, hN1, hN2⟩ := key
  obtain ⟨hz, hdn⟩ := hN _ hsm
  have hNb : N ≤ b := Nat.le_of_mul_le_mul_right (Nat.le_trans hN1 hmag) hU
  have hDpos : D x = ((m * 2 ^ e : Nat) : Int) := by
    rw [hDx]; unfold sgn
    cases hs : negOf double x
    · simp
    · have := hsm hs; subst this; simp
  have hint : (FloatKind.f64.decode x).integral .down = .number (negOf double x) N 0 := by rw [h1]; simp only [Datum.integral, hdn]
  refine ⟨N, hNb, ?_, ?_, ?_, fun hne => ?_, fun he => ?_, m, e, _, h1, hDx⟩
  · unfold ftoint floatToIntVal
    rw [h1]
    simp only [Datum.toInt, Datum.integral, hz]
    have e0 : signed (negOf double x) N 0 = (N : Int) := by
      rw [signed_sgn]; unfold sgn
      cases hs : negOf double x
      · simp
      · have := hsm hs; subst this
        have : N * U ≤ 0 := by simpa using hN1
        have : N = 0 := by
          rcases Nat.eq_zero_of_le_zero this |> Nat.mul_eq_zero.1 with h | h
          · exact h
          · omega
        subst this; simp
    rw [e0]
    have hmin : IntKind.i64.min = -9223372036854775808 := by decide
    have hmax : IntKind.i64.max = 9223372036854775807 := by decide
    rw [hmin, hmax, if_pos ⟨by omega, by omega⟩]
  · rw [hDpos, ← Int.natCast_mul]; omega
  · rw [hDpos, show ((N : Int) + 1) = ((N + 1 : Nat) : Int) by omega, ← Int.natCast_mul]; omega
  · rw [hf, hint]
    have hs : negOf double x = false := by
      cases hs : negOf double x
      · rfl
      · have := hsm hs; subst this
        have : N * U ≤ 0 := by simpa using hN1
        rcases Nat.eq_zero_of_le_zero this |> Nat.mul_eq_zero.1 with h | h
        · exact absurd h hne
        · omega
    rw [hs]
    show double.nearest false N 0 = double.nearest (decide ((N : Int) < 0)) (N : Int).natAbs 0
    have : decide ((N : Int) < 0) = false := by simp
    rw [this]; rfl
  · rw [hf, hint, he]
    exact ⟨negOf double x, by show double.nearest _ 0 0 = _; unfold Format.nearest; rw [if_pos rfl]⟩
theorem nearest_bound (f : Format) {neg : Bool} {mag : Nat} {place B : Int} (h : mag = 0 ∨ place + mag.log2 ≤ B) (hB : f.leastPlace ≤ B - f.fractionBits) : ∃ r, r ≤ (B - f.fractionBits - f.leastPlace).toNat * f.binade + 2 ^ (f.fractionBits + 1) ∧ f.nearest neg mag place = f.word neg (min r f.infRung) := by
  unfold Format.nearest
  by_cases h0 : mag = 0
  · rw [if_pos h0]; exact ⟨0, Nat.zero_le _, by simp⟩
  · rw [if_neg h0]
    simp only []
    replace h := h.resolve_left h0
    have hlog : mag < 2 ^ (mag.log2 + 1) := Nat.lt_log2_self
    generalize hlast : max (place + mag.log2 - f.fractionBits) f.leastPlace = last
    refine ⟨_, ?_, rfl⟩
    have hk : Toward.even.cut neg (mag <<< (place - last).toNat) (last - place).toNat ≤ 2 ^ (f.fractionBits + 1) := by
      refine (even_cut).2 ?_
      rw [Nat.shiftLeft_eq, ← Nat.pow_add]
      by_cases hp : last ≤ place
      · have e2 : (last - place).toNat = 0 := by omega
        rw [e2, Nat.add_zero]
        have : (place - last).toNat + mag.log2 ≤ f.fractionBits := by omega
        calc mag * 2 ^ (place - last).toNat ≤ 2 ^ (mag.log2 + 1) * 2 ^ (place - last).toNat := Nat.mul_le_mul_right _ (Nat.le_of_lt hlog)
          _ = 2 ^ (mag.log2 + 1 + (place - last).toNat) := (Nat.pow_add 2 (mag.log2 + 1) _).symm
          _ ≤ _ := Nat.pow_le_pow_right (by omega) (by omega)
      · have e1 : (place - last).toNat = 0 := by omega
        rw [e1, Nat.pow_zero, Nat.mul_one]
        calc mag ≤ 2 ^ (mag.log2 + 1) := Nat.le_of_lt hlog
          _ ≤ _ := Nat.pow_le_pow_right (by omega) (by omega)
    have hm : (last - f.leastPlace).toNat * f.binade ≤ (B - f.fractionBits - f.leastPlace).toNat * f.binade := Nat.mul_le_mul_right _ (by omega)
    omega
theorem place_of {mag e : Nat} {c : Nat} (h : mag * 2 ^ e ≤ 2 ^ c) : mag = 0 ∨ mag.log2 + e ≤ c := by
  by_cases h0 : mag = 0
  · exact .inl h0
  · right
    have h1 := Nat.log2_self_le h0
    have h2 : 2 ^ (mag.log2 + e) ≤ 2 ^ c := by rw [Nat.pow_add]; exact Nat.le_trans (Nat.mul_le_mul_right _ h1) h
    by_cases hc : mag.log2 + e ≤ c
    · exact hc
    · have := Nat.pow_lt_pow_right (a := 2) (by omega) (show c < mag.log2 + e by omega)
      omega
theorem place_lt {mag e : Nat} {c : Nat} (h : mag * 2 ^ e < 2 ^ c) : mag = 0 ∨ mag.log2 + e < c := by
  by_cases h0 : mag = 0
  · exact .inl h0
  · right
    have h1 := Nat.log2_self_le h0
    have h2 : 2 ^ (mag.log2 + e) < 2 ^ c := by rw [Nat.pow_add]; exact Nat.lt_of_le_of_lt (Nat.mul_le_mul_right _ h1) h
    exact (Nat.pow_lt_pow_iff_right (by omega)).1 h2
/-- A float64 that is not above one is a float32, rounded. -/
theorem narrow_small {s : Bool} {r : Nat} (hr : r ≤ 4607182418800017408) : ∃ y, fconv .f64 .f32 (double.word s r) = some y := by
  obtain ⟨c1, c2, c3, c4⟩ := consts32
  obtain ⟨d1, d2, d3, d4⟩ := consts64
  have hp := word_parts double s (r := r) (by omega)
  have hn := double_read_nan (s := s) (R := r) (by omega)
  obtain ⟨m, e, h1, h2, h3⟩ := read_num (x := double.word s r) (by rw [hp.1]; omega)
  rw [hp.1] at h2
  have hU : magOf double 4607182418800017408 = 2 ^ 1074 := by
    unfold magOf; rw [d2, if_neg (by omega)]
  have hm : m * 2 ^ e ≤ 2 ^ 1074 := by rw [← h2, ← hU]; exact magOf_le hr
  have hb := place_of hm
  obtain ⟨q, hq1, hq2⟩ := nearest_bound single (neg := s) (mag := m) (place := -1074 + (e : Int)) (B := 0) (by rcases hb with h | h; exact .inl h; right; omega) (by rw [c3]; decide)
  have hf : single.fractionBits = 23 := rfl
  rw [c2, c3, hf] at hq1
  have hq3 : q ≤ 1073741824 := by simpa using hq1
  unfold fconv
  rw [if_neg (by decide), hn]
  simp only [Bool.false_eq_true, if_false]
  unfold floatToFloatBits
  rw [if_neg (by decide)]
  rw [hp.2] at h1
  rw [h1]
  simp only []
  have henc : FloatKind.f32.encode (.number s m (-1074 + (e : Int))) = single.word s (min q single.infRung) := hq2
  have hread : (FloatKind.f32.decode (single.word s (min q single.infRung))).isInfinity = false := read_small single s _ (by omega)
  rw [henc, hread]
  exact ⟨_, rfl⟩
/-- What is left of a place behind the whole number before it. -/
theorem frac_some {x : Nat} {n : Nat} (hn : isNaN .f64 x = false) (hn2 : n ≤ 2147483648) (h1 : (n : Int) * U ≤ D x) (h2 : D x < ((n : Int) + 1) * U) {m e : Nat} {s : Bool} (hd : FloatKind.f64.decode x = .number s m (-1074 + (e : Int))) (hD : D x = sgn s (m * 2 ^ e)) :
    ∃ y, fconv .f64 .f32 (fbin .sub .f64 x (fofint .f64 (n : Int))) = some y := by
  obtain ⟨c1, c2, c3, c4⟩ := consts32
  obtain ⟨d1, d2, d3, d4⟩ := consts64
  obtain ⟨r2, k1, k2, k3⟩ := int_word (n := (n : Int)) (by omega)
  have hp2 := word_parts double (decide ((n : Int) < 0)) (r := r2) (by omega)
  obtain ⟨m2, e2, q1, q2, q3⟩ := read_num (x := double.word (decide ((n : Int) < 0)) r2) (by rw [hp2.1]; exact k1)
  rw [hp2.1, k2] at q2
  rw [hp2.2, ← k3] at q1
  have hneg : decide ((n : Int) < 0) = false := by simp
  rw [hneg] at q1
  have q2' : n * U = m2 * 2 ^ e2 := by simpa using q2
  have hsub : fbin .sub .f64 x (fofint .f64 (n : Int)) = (match ((FloatKind.f64.decode x).sum (FloatKind.f64.decode (fofint .f64 (n : Int))).opposite) with | some d => double.write d | none => nanOf .f64) := by
    show (Format.sub double x (fofint .f64 (n : Int))).getD _ = _
    unfold Format.sub
    show (Option.map double.write ((FloatKind.f64.decode x).sum (FloatKind.f64.decode (fofint .f64 (n : Int))).opposite)).getD _ = _
    cases ((FloatKind.f64.decode x).sum (FloatKind.f64.decode (fofint .f64 (n : Int))).opposite) <;> rfl
  rw [hsub, hd, q1]
  simp only [Datum.opposite, Datum.sum, Bool.not_false]
  generalize hbase : min (-1074 + (e : Int)) (-1074 + (e2 : Int)) = base
  obtain ⟨eb, heb⟩ : ∃ eb : Nat, base = -1074 + (eb : Int) ∧ eb ≤ e ∧ eb ≤ e2 := ⟨min e e2, by omega, by omega, by omega⟩
  obtain ⟨heb1, heb2, heb3⟩ := heb
  have t1 : (-1074 + (e : Int) - base).toNat = e - eb := by omega
  have t2 : (-1074 + (e2 : Int) - base).toNat = e2 - eb := by omega
  rw [t1, t2]
  generalize htot : signed s m (e - eb) + signed true m2 (e2 - eb) = total
  have hval : total * (2 ^ eb : Nat) = D x - n * U := by
    rw [← htot, signed_sgn, signed_sgn, Int.add_mul, ← sgn_mul, ← sgn_mul, Nat.mul_assoc, Nat.mul_assoc, ← Nat.pow_add, ← Nat.pow_add, hD]
    have w1 : e - eb + eb = e := by omega
    have w2 : e2 - eb + eb = e2 := by omega
    rw [w1, w2, ← q2']
    unfold sgn
    simp only [if_true, Int.natCast_mul]
    omega
  have hge : 0 ≤ total * (2 ^ eb : Nat) := by rw [hval]; omega
  have hlt : total * (2 ^ eb : Nat) < U := by
    rw [hval]
    have : ((n : Int) + 1) * U = n * U + U := by rw [Int.add_mul, Int.one_mul]
    omega
  have hpw : (0 : Int) < ((2 ^ eb : Nat) : Int) := by have := Nat.two_pow_pos eb; omega
  have htp : 0 ≤ total := by
    by_cases hc : 0 ≤ total
    · exact hc
    · have := Int.mul_neg_of_neg_of_pos (show total < 0 by omega) hpw
      omega
  obtain ⟨T, rfl⟩ := Int.eq_ofNat_of_zero_le htp
  have hT : T * 2 ^ eb < 2 ^ 1074 := by
    have : ((T * 2 ^ eb : Nat) : Int) < (U : Int) := by rw [Int.natCast_mul]; exact hlt
    have h3 : T * 2 ^ eb < U := by omega
    unfold U at h3; exact h3
  have hpl := place_lt hT
  generalize (if ((T : Int) = 0) then s && true else decide ((T : Int) < 0)) = sg
  have hnat : (T : Int).natAbs = T := by simp
  rw [hnat]
  obtain ⟨q, hq1, hq2⟩ := nearest_bound double (neg := sg) (mag := T) (place := base) (B := -1) (by rcases hpl with h | h; exact .inl h; right; omega) (by rw [d3]; decide)
  have hf : double.fractionBits = 52 := rfl
  rw [d2, d3, hf] at hq1
  have hq3 : q ≤ 4607182418800017408 := by simpa using hq1
  show ∃ y, fconv .f64 .f32 (double.nearest sg T base) = some y
  rw [hq2]
  exact narrow_small (by omega)
end Go.E
