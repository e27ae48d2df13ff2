/- The sine of a phase lies from -1 to 1. Plain lemmas; no condition but that of a phase. -/
import Derived.Test.YtkabbddhdnddoaaMXs
import Derived.Test.YtkabbddhdnddoaaMSq
set_option linter.unusedVariables false
set_option linter.unusedSimpArgs false
set_option exponentiation.threshold 3000
namespace Go.E
open Go Ieee
theorem vl_of {x : Nat} {p q : Int} (hq : 0 < q) (h : D x * q = p * (U : Int)) : vl x = (p : Rat) / (q : Rat) := by
  have hU := UR_pos
  have h2 : ((D x * q : Int) : Rat) = ((p * (U : Int) : Int) : Rat) := by rw [h]
  rw [Rat.intCast_mul, Rat.intCast_mul, vl_U] at h2
  have hq2 : (0 : Rat) < (q : Rat) := by
    have : ((0 : Int) : Rat) < (q : Rat) := Rat.intCast_lt_intCast.2 hq
    simpa using this
  have hd : (p : Rat) / (q : Rat) * (q : Rat) = (p : Rat) := Rat.div_mul_cancel (by grind)
  generalize (p : Rat) / (q : Rat) = w at *
  rw [← hd] at h2
  have h3 : (vl x * (q : Rat)) * ((U : Int) : Rat) = (w * (q : Rat)) * ((U : Int) : Rat) := by grind
  have a1 := le_U (show (vl x * (q : Rat)) * ((U : Int) : Rat) ≤ (w * (q : Rat)) * ((U : Int) : Rat) by grind)
  have a2 := le_U (show (w * (q : Rat)) * ((U : Int) : Rat) ≤ (vl x * (q : Rat)) * ((U : Int) : Rat) by grind)
  generalize (q : Rat) = n at *
  generalize vl x = v at *
  apply Rat.le_antisymm
  · apply Rat.not_lt.1; intro hl
    have := Rat.mul_pos (show 0 < v - w by grind) hq2
    grind
  · apply Rat.not_lt.1; intro hl
    have := Rat.mul_pos (show 0 < w - v by grind) hq2
    grind
theorem vl_one : vl oneD = 1 := by
  have := vl_of (x := oneD) (p := 1) (q := 1) (by decide) (by rw [D_one]; omega)
  rw [this]; decide +kernel
theorem vl_half : vl halfD = 1/2 := by
  have := vl_of (x := halfD) (p := 1) (q := 2) (by decide) (by rw [D_half]; omega)
  rw [this]; decide +kernel
theorem vl_qtr : vl qtrD = 1/4 := by
  have := vl_of (x := qtrD) (p := 1) (q := 4) (by decide) (by rw [D_qtr]; omega)
  rw [this]; decide +kernel
theorem D_tpi : D tpiD * 1125899906842624 = 7074237752028440 * (U : Int) := by rw [U_pow]; decide +kernel
theorem vl_tpi : vl tpiD = 7074237752028440/1125899906842624 := by
  have := vl_of (x := tpiD) (p := 7074237752028440) (q := 1125899906842624) (by decide) D_tpi
  rw [this]; decide +kernel
theorem fin_tpi : FinD tpiD := Prt_of (by decide +kernel)
theorem vl_le {x y : Nat} (h : D x ≤ D y) : vl x ≤ vl y := by
  have h2 := of_le h
  rw [vl_U, vl_U] at h2
  exact le_U h2
theorem vl_lt {x y : Nat} (h : ¬ D x ≤ D y) : vl y ≤ vl x := vl_le (by omega)
theorem nR_ge {i : Nat} (h : i < 8) : 6 ≤ nR i := by
  rcases eight h with rfl | rfl | rfl | rfl | rfl | rfl | rfl | rfl <;> decide +kernel
theorem div_b {w n : Rat} (hn : 6 ≤ n) {B : Rat} (h : -B ≤ w ∧ w ≤ B) : -(B/6) ≤ w / n ∧ w / n ≤ B / 6 := by
  have hd : w / n * n = w := Rat.div_mul_cancel (by grind)
  generalize w / n = q at *
  have hB : 0 ≤ B := by grind
  constructor
  · apply Rat.not_lt.1; intro hl
    have h1 := Rat.mul_pos (show 0 < -(B/6) - q by grind) (show 0 < n by grind)
    have h2 := Rat.mul_nonneg (show 0 ≤ n - 6 by grind) hB
    grind
  · apply Rat.not_lt.1; intro hl
    have h1 := Rat.mul_pos (show 0 < q - B/6 by grind) (show 0 < n by grind)
    have h2 := Rat.mul_nonneg (show 0 ≤ n - 6 by grind) hB
    grind
theorem div_0 {w n : Rat} (hn : 6 ≤ n) (h : 0 ≤ w) : 0 ≤ w / n := by
  have hd : w / n * n = w := Rat.div_mul_cancel (by grind)
  generalize w / n = q at *
  apply Rat.not_lt.1; intro hl
  have h1 := Rat.mul_pos (show 0 < -q by grind) (show 0 < n by grind)
  grind
theorem RR_b {v : Rat} (h0 : 0 ≤ v) (h1 : v ≤ 5/2) : ∀ {i : Nat}, i ≤ 8 → 0 ≤ RR v i ∧ RR v i ≤ 1
  | 0, _ => by simp only [RR]; decide +kernel
  | i + 1, hi => by
    obtain ⟨a, b⟩ := RR_b h0 h1 (i := i) (by omega)
    have hn := nR_ge (i := i) (by omega)
    have m0 := Rat.mul_nonneg h0 a
    have m1 := (ab_mul (a := v) (b := RR v i) (A := 5/2) (B := 1) ⟨by grind, h1⟩ ⟨by grind, b⟩)
    have d0 := div_0 hn m0
    have d1 := (div_b hn (w := v * RR v i) (B := 5/2) ⟨by grind, by grind⟩).2
    simp only [RR]
    constructor <;> grind
theorem Nr.two {x y : Rat} (h : Nr x y) : -ee ≤ x - y ∧ x - y ≤ ee := ⟨by have := h.2; grind, h.1⟩
theorem dv_dec {i : Nat} (h : i < 8) : ∃ N J : Nat, FloatKind.f64.decode (fofint .f64 (dvN (8 - (i : Int)))) = .number false (N * 2 ^ J) (-((J : Nat) : Int)) ∧ 1 ≤ N ∧ N ≤ 1000 ∧ ((N : Int) : Rat) = nR i := by
  rcases eight h with rfl | rfl | rfl | rfl | rfl | rfl | rfl | rfl
  · exact ⟨272, 44, by decide +kernel, by decide, by decide, by decide +kernel⟩
  · exact ⟨210, 45, by decide +kernel, by decide, by decide, by decide +kernel⟩
  · exact ⟨156, 45, by decide +kernel, by decide, by decide, by decide +kernel⟩
  · exact ⟨110, 46, by decide +kernel, by decide, by decide, by decide +kernel⟩
  · exact ⟨72, 46, by decide +kernel, by decide, by decide, by decide +kernel⟩
  · exact ⟨42, 47, by decide +kernel, by decide, by decide, by decide +kernel⟩
  · exact ⟨20, 48, by decide +kernel, by decide, by decide, by decide +kernel⟩
  · exact ⟨6, 50, by decide +kernel, by decide, by decide, by decide +kernel⟩
theorem ee_v : ee = 1/281474976710656 := rfl
theorem ee_le : ee ≤ 1/281474976710656 := by rw [ee_v]; exact Rat.le_refl
theorem ee_ge : 0 ≤ ee := by rw [ee_v]; decide +kernel
theorem pN_near {q : Nat} {v : Rat} (hq : FinD q) (hqv : Nr (vl q) v) (h0 : 0 ≤ v) (h1 : v ≤ 5/2) : ∀ {i : Nat}, i ≤ 8 → FinD (pN q i) ∧ -(8 * ee) ≤ vl (pN q i) - RR v i ∧ vl (pN q i) - RR v i ≤ 8 * ee
  | 0, _ => by
    refine ⟨Prt_one, ?_⟩
    show -(8 * ee) ≤ vl oneD - 1 ∧ vl oneD - 1 ≤ 8 * ee
    rw [vl_one, ee_v]
    decide +kernel
  | i + 1, hi => by
    obtain ⟨f1, g1, g2⟩ := pN_near hq hqv h0 h1 (i := i) (by omega)
    obtain ⟨r0, r1⟩ := RR_b h0 h1 (i := i) (by omega)
    have hn := nR_ge (i := i) (by omega)
    obtain ⟨N, J, k1, k2, k3, k4⟩ := dv_dec (i := i) (by omega)
    have hq2 := hqv.two
    have ev := ee_le
    have ev0 := ee_ge
    -- the product
    have up := ab_mul (a := vl q) (b := vl (pN q i)) (A := 26/10) (B := 11/10) ⟨by grind, by grind⟩ ⟨by grind, by grind⟩
    obtain ⟨f2, n2⟩ := ap_mul hq f1 ⟨by grind, by grind⟩
    have n2 := n2.two
    -- the quotient
    obtain ⟨f3, n3⟩ := ap_quo f2 k1 k2 k3 ⟨by grind, by grind⟩
    have n3 := n3.two
    rw [k4] at n3
    have b3 := div_b hn (w := vl (fbin .mul .f64 q (pN q i))) (B := 3) ⟨by grind, by grind⟩
    -- the difference
    obtain ⟨f4, n4⟩ := ap_sub Prt_one f3 (by rw [vl_one]; constructor <;> grind)
    have n4 := n4.two
    rw [vl_one] at n4
    rw [pN_succ]
    refine ⟨f4, ?_⟩
    -- what the product is off by
    have t1 := ab_mul (a := vl q - v) (b := vl (pN q i)) (A := ee) (B := 11/10) hq2 ⟨by grind, by grind⟩
    have t2 := ab_mul (a := v) (b := vl (pN q i) - RR v i) (A := 5/2) (B := 8 * ee) ⟨by grind, by grind⟩ ⟨g1, g2⟩
    have t3 : -(221/10 * ee) ≤ vl (fbin .mul .f64 q (pN q i)) - v * RR v i ∧ vl (fbin .mul .f64 q (pN q i)) - v * RR v i ≤ 221/10 * ee := by constructor <;> grind
    have t4 := div_b hn t3
    have t5 : (vl (fbin .mul .f64 q (pN q i)) - v * RR v i) / nR i = vl (fbin .mul .f64 q (pN q i)) / nR i - v * RR v i / nR i := by grind
    rw [t5] at t4
    simp only [RR]
    generalize vl (fbin .mul .f64 q (pN q i)) / nR i = a at *
    generalize v * RR v i / nR i = b at *
    constructor <;> grind
theorem val_near {f : Nat} (hf : FinD f) (h0 : -(251/1000) ≤ vl f) (h1 : vl f ≤ 251/1000) (h2 : vl f ≤ 1/4 + 4 * ee) (h3 : -(1/4 + 4 * ee) ≤ vl f) :
    ∀ z, z = fbin .mul .f64 f tpiD → FinD (fbin .mul .f64 z (pN (fbin .mul .f64 z z) 8)) ∧ -(1 + 1/10000000000) ≤ vl (fbin .mul .f64 z (pN (fbin .mul .f64 z z) 8)) ∧ vl (fbin .mul .f64 z (pN (fbin .mul .f64 z z) 8)) ≤ 1 + 1/10000000000 := by
  intro z hz
  have ev := ee_le
  have ev0 := ee_ge
  have m1 := ab_mul (a := vl f) (b := vl tpiD) (A := 251/1000) (B := 6284/1000) ⟨h0, h1⟩ (by rw [vl_tpi]; decide +kernel)
  obtain ⟨g1, n1⟩ := ap_mul hf fin_tpi ⟨by grind, by grind⟩
  have n1 := n1.two
  rw [← hz] at g1 n1
  have z0 : -(158/100) ≤ vl z := by grind
  have z1 : vl z ≤ 158/100 := by grind
  have m2 := ab_mul (a := vl z) (b := vl z) ⟨z0, z1⟩ ⟨z0, z1⟩
  have hv0 : 0 ≤ vl z * vl z := by
    rcases Rat.le_total (a := 0) (b := vl z) with h | h
    · exact Rat.mul_nonneg h h
    · have := Rat.mul_nonneg (show 0 ≤ -vl z by grind) (show 0 ≤ -vl z by grind)
      grind
  obtain ⟨g2, n2⟩ := ap_mul g1 g1 ⟨by grind, by grind⟩
  have hv1 : vl z * vl z ≤ 5/2 := by grind
  obtain ⟨g3, n3, n4⟩ := pN_near g2 n2 hv0 hv1 (i := 8) (Nat.le_refl _)
  have hs := sin_le z0 z1
  rw [RR8] at n3 n4
  have m3 := ab_mul (a := vl z) (b := vl (pN (fbin .mul .f64 z z) 8) - S8 (vl z * vl z)) (A := 158/100) (B := 8 * ee) ⟨z0, z1⟩ ⟨n3, n4⟩
  obtain ⟨g4, n5⟩ := ap_mul g1 g3 ⟨by grind, by grind⟩
  have n5 := n5.two
  refine ⟨g4, ?_⟩
  have m4 : vl z * (vl (pN (fbin .mul .f64 z z) 8) - S8 (vl z * vl z)) = vl z * vl (pN (fbin .mul .f64 z z) 8) - vl z * S8 (vl z * vl z) := by grind
  rw [m4] at m3
  clear n3 n4 m2 m4
  generalize vl z * S8 (vl z * vl z) = s at *
  generalize vl z * vl (pN (fbin .mul .f64 z z) 8) = t at *
  constructor <;> grind
/-- The part of a turn, folded. -/
theorem fold_near {r : Nat} (hr : FinD r) (h0 : -(2 * ee) ≤ vl r) (h1 : vl r ≤ 1) : FinD (foldZ (foldY r)) ∧ -(1/4 + 4 * ee) ≤ vl (foldZ (foldY r)) ∧ vl (foldZ (foldY r)) ≤ 1/4 + 4 * ee := by
  have ev := ee_le
  have ev0 := ee_ge
  have hy : FinD (foldY r) ∧ -(2 * ee) ≤ vl (foldY r) ∧ vl (foldY r) ≤ 1/2 + ee := by
    unfold foldY
    cases hg : fcmp .geq .f64 r halfD
    · rw [if_neg (by simp)]
      rw [geq64 (Prt_not hr) (Prt_not Prt_half)] at hg
      have h2 := vl_lt (of_decide_eq_false hg)
      rw [vl_half] at h2
      exact ⟨hr, h0, by grind⟩
    · rw [if_pos rfl]
      rw [geq64 (Prt_not hr) (Prt_not Prt_half)] at hg
      have h2 := vl_le (of_decide_eq_true hg)
      rw [vl_half] at h2
      obtain ⟨f, n⟩ := ap_sub hr Prt_half (by rw [vl_half]; constructor <;> grind)
      have n := n.two
      rw [vl_half] at n
      exact ⟨f, by grind, by grind⟩
  obtain ⟨y1, y2, y3⟩ := hy
  generalize foldY r = y at *
  unfold foldZ
  cases hg : fcmp .gtr .f64 y qtrD
  · rw [if_neg (by simp)]
    rw [gtr64 (Prt_not y1) (Prt_not Prt_qtr)] at hg
    have h2 := vl_le (show D y ≤ D qtrD by have := of_decide_eq_false hg; omega)
    rw [vl_qtr] at h2
    exact ⟨y1, by grind, by grind⟩
  · rw [if_pos rfl]
    rw [gtr64 (Prt_not y1) (Prt_not Prt_qtr)] at hg
    have h2 := vl_le (show D qtrD ≤ D y by have := of_decide_eq_true hg; omega)
    rw [vl_qtr] at h2
    obtain ⟨f, n⟩ := ap_sub Prt_half y1 (by rw [vl_half]; constructor <;> grind)
    have n := n.two
    rw [vl_half] at n
    exact ⟨f, by grind, by grind⟩
theorem valD_near {r : Nat} (hr : FinD r) (h0 : -(2 * ee) ≤ vl r) (h1 : vl r ≤ 1) : FinD (valD r) ∧ (D (valD r)).natAbs ≤ 2 ^ 1074 + 2 ^ 1044 := by
  obtain ⟨f1, f2, f3⟩ := fold_near hr h0 h1
  have ev := ee_le
  have ev0 := ee_ge
  obtain ⟨g1, g2, g3⟩ := val_near f1 (by grind) (by grind) f3 f2 _ rfl
  refine ⟨g1, ?_⟩
  show (D (fbin .mul .f64 _ _)).natAbs ≤ _
  apply abs_of
  have e : ((((2 ^ 1074 + 2 ^ 1044 : Nat) : Int)) : Rat) = (1 + 1/1073741824) * ((U : Int) : Rat) := by
    have h : (((2 ^ 1074 + 2 ^ 1044 : Nat) : Int)) * 1073741824 = 1073741825 * (U : Int) := by rw [U_pow]; decide +kernel
    have h2 : (((((2 ^ 1074 + 2 ^ 1044 : Nat) : Int)) * 1073741824 : Int) : Rat) = ((1073741825 * (U : Int) : Int) : Rat) := by rw [h]
    rw [Rat.intCast_mul, Rat.intCast_mul] at h2
    have e1 : ((1073741824 : Int) : Rat) = 1073741824 := rfl
    have e2 : ((1073741825 : Int) : Rat) = 1073741825 := rfl
    rw [e1, e2] at h2
    generalize ((((2 ^ 1074 + 2 ^ 1044 : Nat) : Int)) : Rat) = w at *
    grind
  rw [e, vl_U]
  have hU := UR_pos
  have a1 := le_U2 (Rat.le_trans g3 (show (1 + 1/10000000000 : Rat) ≤ 1 + 1/1073741824 by decide +kernel))
  have a2 := le_U2 (Rat.le_trans (show (-(1 + 1/1073741824) : Rat) ≤ -(1 + 1/10000000000) by decide +kernel) g2)
  constructor
  · grind
  · exact a1
theorem neg_mag {x : Nat} (hx : FinD x) : FinD (fneg .f64 x) ∧ (D (fneg .f64 x)).natAbs = (D x).natAbs := by
  obtain ⟨d1, d2, d3, d4⟩ := consts64
  have hn := Prt_not hx
  have hv : fneg .f64 x = x ^^^ 2 ^ 63 := by unfold fneg; rw [hn]; rfl
  have hmod : (x ^^^ 2 ^ 63) % double.signWeight = x % double.signWeight := by
    rw [d4, show (9223372036854775808 : Nat) = 2 ^ 63 by decide, Nat.xor_mod_two_pow]
    simp
  have hD : D x = sgn (negOf double x) (magOf double (x % double.signWeight)) := rfl
  obtain ⟨s, m, e, h1, h2⟩ := hx
  have hfin : x % double.signWeight < double.infRung := by
    rcases read_cases double double_ok x hn with ⟨q, _⟩ | ⟨_, q⟩
    · exact q
    · have q' : FloatKind.f64.decode x = .infinity (negOf double x) := q
      rw [h1] at q'; cases q'
  rw [hv]
  have hD' : D (x ^^^ 2 ^ 63) = sgn (negOf double (x ^^^ 2 ^ 63)) (magOf double ((x ^^^ 2 ^ 63) % double.signWeight)) := rfl
  refine ⟨Prt_of (by rw [hmod]; exact hfin), ?_⟩
  rw [hD', hD, hmod, sgn_natAbs, sgn_natAbs]
/-- A number not above 1 + 2^-30 narrows to one not above 1. -/
theorem narrow_one {y : Nat} (hy : FinD y) (h : (D y).natAbs ≤ 2 ^ 1074 + 2 ^ 1044) : ∃ s r, r ≤ 1065353216 ∧ fconv .f64 .f32 y = some (single.word s r) := by
  obtain ⟨c1, c2, c3, c4⟩ := consts32
  have hn := Prt_not hy
  obtain ⟨s, m, e, h1, h2⟩ := hy
  have hm : m * 2 ^ e ≤ 1073741825 * 2 ^ 1044 := by
    rw [h2, sgn_natAbs] at h
    exact Nat.le_trans h (by decide +kernel)
  have hr := rung_mono32 (s := s) (t := false) (c := 1074) hm
  have hR : rungOf single false 1073741825 (((1044 : Nat) : Int) - 1074) = 1065353216 := by decide +kernel
  rw [hR] at hr
  refine ⟨s, rungOf single s m ((e : Int) - 1074), hr, ?_⟩
  unfold fconv
  rw [if_neg (by decide), hn]
  simp only [Bool.false_eq_true, if_false]
  unfold floatToFloatBits
  rw [if_neg (by decide), h1]
  simp only []
  have henc : FloatKind.f32.encode (.number s m (-1074 + (e : Int))) = single.word s (rungOf single s m ((e : Int) - 1074)) := by
    show single.nearest s m _ = _
    rw [nearest_rung, show -1074 + (e : Int) = (e : Int) - 1074 by omega, Nat.min_eq_left (by omega)]
  have hread : (FloatKind.f32.decode (single.word s (rungOf single s m ((e : Int) - 1074)))).isInfinity = false := read_small single s _ (by omega)
  rw [henc, hread]
  rfl
/-- From -1 to 1. -/
def Unit32 (x : Nat) : Prop := isNaN .f32 x = false ∧ (V x).natAbs ≤ (V 1065353216).natAbs ∧ x < 4294967296
theorem Unit_word {s : Bool} {r : Nat} (h : r ≤ 1065353216) : Unit32 (single.word s r) := by
  obtain ⟨c1, c2, c3, c4⟩ := consts32
  have hp := word_parts single s (r := r) (by omega)
  refine ⟨?_, ?_, ?_⟩
  · rw [isNaN32]
    rw [c4] at hp
    rw [hp.1]; simp; omega
  · have e1 : V (single.word s r) = sgn (negOf single (single.word s r)) (magOf single (single.word s r % single.signWeight)) := rfl
    have e2 : V 1065353216 = sgn (negOf single 1065353216) (magOf single (1065353216 % single.signWeight)) := rfl
    rw [e1, e2, sgn_natAbs, sgn_natAbs, hp.1, c4]
    exact magOf_le h
  · unfold Format.word
    rw [c4]
    split <;> omega
theorem one_not : isNaN .f32 1065353216 = false ∧ isNaN .f32 3212836864 = false := by decide +kernel
theorem V_mone : V 3212836864 = - V 1065353216 := by decide +kernel
theorem V_one_pos : 0 < V 1065353216 := by decide +kernel
theorem Unit32.le {x : Nat} (h : Unit32 x) : fcmp .gtr .f32 x 1065353216 = false ∧ fcmp .lss .f32 x 3212836864 = false := by
  obtain ⟨h1, h2, _⟩ := h
  rw [gtr32 h1 one_not.1, lss32 h1 one_not.2, V_mone]
  have := V_one_pos
  simp only [decide_eq_false_iff_not]
  omega
theorem sub_self {w : Nat} (h : FinD w) : fcmp .eql .f64 (fbin .sub .f64 w w) 0 = true := by
  obtain ⟨d1, d2, d3, d4⟩ := consts64
  obtain ⟨s, m, e, p1, p2⟩ := h
  obtain ⟨u, T, b, g1, g2, g3⟩ := sum_exactG (c := -1074) (s := s) (t := !s) (m := m) (n := m) (e := e) (e2 := e)
  have hf : fbin .sub .f64 w w = double.nearest u T.natAbs (-1074 + (b : Int)) := by
    show (Option.map double.write ((FloatKind.f64.decode w).sum (FloatKind.f64.decode w).opposite)).getD _ = _
    rw [p1]
    show (Option.map double.write ((Datum.number s m _).sum (.number (!s) m _))).getD _ = _
    rw [g1]; rfl
  have hT : T = 0 := by
    rw [sgn_not, ← Int.sub_eq_add_neg, Int.sub_self] at g2
    rcases Int.mul_eq_zero.1 g2 with q | q
    · exact q
    · have := Nat.two_pow_pos b; omega
  rw [hf, hT, nearest_rung]
  unfold rungOf
  rw [Int.natAbs_zero, if_pos rfl, Nat.zero_min]
  have h0n : isNaN .f64 0 = false := by decide +kernel
  have hD0 : D 0 = 0 := by show valOf Ieee.double 0 = 0; decide +kernel
  rw [eql64 (double_read_nan (by omega)) h0n, D_word (by omega), hD0, magOf_zero]
  unfold sgn; split <;> rfl
theorem Unit_near {w : Nat} (hw : w < 18446744073709551616) (hf : FinD w) (h0 : 0 ≤ D w) (h1 : D w < (U : Int)) : finB w = true ∧ farB w = false ∧ Unit32 ((fconv .f64 .f32 (nearW w)).getD 0) := by
  obtain ⟨d1, d2, d3, d4⟩ := consts64
  have ev := ee_le
  have ev0 := ee_ge
  have hU := U_pos
  have hfin : finB w = true := sub_self hf
  have hwn := Prt_not hf
  have hfar : farB w = false := by
    unfold farB
    rw [geq64 hwn big_not.1, leq64 hwn big_not.2, D_big, D_negBig, Bool.or_eq_false_iff]
    constructor
    · rw [decide_eq_false_iff_not]; omega
    · rw [decide_eq_false_iff_not]; omega
  refine ⟨hfin, hfar, ?_⟩
  obtain ⟨_, hl, _⟩ := near_facts hw hfin hfar
  have hwh : wholeI w = 0 := by
    have hDw : D w = sgn (negOf double w) (magOf double (w % double.signWeight)) := rfl
    have hm : magOf double (w % double.signWeight) < U := by
      have h2 := @sgn_natAbs (negOf double w) (magOf double (w % double.signWeight))
      rw [← hDw] at h2
      omega
    obtain ⟨N, m, e, _, g2, _, _, g5, g6, g7⟩ := trunc_int (b := 1) hw hwn (by omega) (by decide)
    have hfw : w % double.signWeight < double.infRung := by
      rcases read_cases double double_ok w hwn with ⟨q, _⟩ | ⟨_, q⟩
      · exact q
      · have q' : FloatKind.f64.decode w = .infinity (negOf double w) := q
        rw [g5] at q'; cases q'
    obtain ⟨m', e', q1, q2, _⟩ := read_num hfw
    rw [g5] at q1
    injection q1 with _ a1 a2
    have a3 : e = e' := by omega
    rw [q2, ← a1, ← a3] at hm
    have hN : N = 0 := by
      rcases Nat.eq_zero_or_pos N with q | q
      · exact q
      · have : 1 * U ≤ N * U := Nat.mul_le_mul_right _ q
        omega
    unfold wholeI
    rw [g2, hN]
    unfold sgn; split <;> rfl
  have hz : fofint .f64 0 = 0 := by decide +kernel
  have f0 : FinD 0 := Prt_of (by decide +kernel)
  have v0 : vl 0 = 0 := by
    have := vl_of (x := 0) (p := 0) (q := 1) (by decide) (by have hD0 : D 0 = 0 := by { show valOf Ieee.double 0 = 0; decide +kernel }
                                                             rw [hD0]; omega)
    rw [this]; decide +kernel
  have w0 : 0 ≤ vl w := by
    have := vl_le (x := 0) (y := w) (by have hD0 : D 0 = 0 := by { show valOf Ieee.double 0 = 0; decide +kernel }
                                        rw [hD0]; exact h0)
    rwa [v0] at this
  have w1 : vl w ≤ 1 := by
    have := vl_le (x := w) (y := oneD) (by rw [D_one]; omega)
    rwa [vl_one] at this
  obtain ⟨s1, s2⟩ := ap_sub hf f0 (by rw [v0]; constructor <;> grind)
  have s2 := s2.two
  rw [v0] at s2
  have hr1 : vl (sineR w) ≤ 1 := by
    have ha := hl.abs
    rw [← U_pow] at ha
    have := vl_le (x := sineR w) (y := oneD) (by rw [D_one]; omega)
    rwa [vl_one] at this
  have hr0 : FinD (sineR w) ∧ -(2 * ee) ≤ vl (sineR w) := by
    unfold sineR restD
    rw [hwh, hz]
    cases hg : fcmp .lss .f64 (fbin .sub .f64 w 0) 0
    · rw [if_neg (by simp)]
      exact ⟨s1, by grind⟩
    · rw [if_pos rfl]
      rw [lss64 (Prt_not s1) (Prt_not f0)] at hg
      have h2 := vl_le (show D (fbin .sub .f64 w 0) ≤ D 0 by have := of_decide_eq_true hg; omega)
      rw [v0] at h2
      obtain ⟨f, n⟩ := ap_add s1 Prt_one (by rw [vl_one]; constructor <;> grind)
      have n := n.two
      rw [vl_one] at n
      exact ⟨f, by grind⟩
  obtain ⟨k1, k2⟩ := valD_near hr0.1 hr0.2 hr1
  unfold nearW
  cases hg : fcmp .geq .f64 (sineR w) halfD
  · rw [if_neg (by simp)]
    obtain ⟨s, r, h1, h2⟩ := narrow_one k1 k2
    rw [h2]; exact Unit_word h1
  · rw [if_pos rfl]
    obtain ⟨n1, n2⟩ := neg_mag k1
    obtain ⟨s, r, h1, h2⟩ := narrow_one n1 (by rw [n2]; exact k2)
    rw [h2]; exact Unit_word h1
theorem Unit_sine {x : Nat} (hx : CF x) (hp : fcmp .geq .f32 x 0 = true) (hq : fcmp .lss .f32 x 1065353216 = true) : Unit32 (sine32 x) := by
  obtain ⟨d1, d2, d3, d4⟩ := consts64
  obtain ⟨c1, c2, c3, c4⟩ := consts32
  have hx1 := hx.1
  have hn : isNaN .f32 x = false := by
    cases hn : isNaN .f32 x
    · rfl
    · rw [cmp_nan1 hn (by decide)] at hp; cases hp
  have z0 : isNaN .f32 0 = false := by decide +kernel
  rw [geq32 hn z0] at hp
  rw [lss32 hn one_not.1] at hq
  have hp := of_decide_eq_true hp
  have hq := of_decide_eq_true hq
  have v0 : V 0 = 0 := by decide +kernel
  have v1 : V 1065353216 = 2 ^ 149 := by decide +kernel
  rw [v0] at hp
  rw [v1] at hq
  have hw := wid_lt hx1
  obtain ⟨R, r1, r2, r3, r4⟩ := wid_word hn
  have hV : V x = sgn (negOf single x) (magOf single (x % 2147483648)) := by rw [← c4]; rfl
  have hVa := @sgn_natAbs (negOf single x) (magOf single (x % 2147483648))
  rw [← hV] at hVa
  have hm : magOf single (x % 2147483648) < 2 ^ 149 := by
    have e149 : ((2 : Int) ^ 149) = ((2 ^ 149 : Nat) : Int) := rfl
    rw [e149] at hq
    omega
  have hfx : x % 2147483648 < 2139095040 := by
    rcases Nat.lt_or_ge (x % 2147483648) 2139095040 with q | q
    · exact q
    · have h2 := magOf_le (f := single) q
      have h3 : 2 ^ 149 ≤ magOf single 2139095040 := by decide +kernel
      omega
  obtain ⟨k1, k2⟩ := r3 hfx
  have hwp := word_parts double (negOf single x) (r := R) (by omega)
  have hf : FinD (wid x) := Prt_of (by rw [r2, hwp.1]; exact k1)
  have hD : D (wid x) = V x * ((2 ^ 925 : Nat) : Int) := by rw [r2, D_word (by omega), k2, sgn_mul, ← hV]
  have hUe : (U : Int) = 2 ^ 149 * ((2 ^ 925 : Nat) : Int) := by rw [U_pow]; decide +kernel
  have hpos : (0 : Int) < ((2 ^ 925 : Nat) : Int) := by decide +kernel
  have h0 : 0 ≤ D (wid x) := by rw [hD]; exact Int.mul_nonneg hp (by omega)
  have h1 : D (wid x) < (U : Int) := by rw [hD, hUe]; exact Int.mul_lt_mul_of_pos_right hq hpos
  obtain ⟨a1, a2, a3⟩ := Unit_near hw hf h0 h1
  unfold sine32
  rw [a1, a2]
  exact a3
end Go.E
