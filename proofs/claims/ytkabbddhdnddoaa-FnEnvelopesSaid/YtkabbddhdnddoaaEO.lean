/- The sine's eight terms: how great they can be. Plain lemmas; no condition. -/
import Derived.Test.YtkabbddhdnddoaaEN
set_option linter.unusedVariables false
set_option linter.unusedSimpArgs false
set_option exponentiation.threshold 3000
namespace Go.E
open Go Ieee
def oneD : Nat := 4607182418800017408
def twoD : Nat := 4611686018427387904
def halfD : Nat := 4602678819172646912
def qtrD : Nat := 4598175219545276416
def tpiD : Nat := 4618760256179416344
/-- What the k-th term is divided by. -/
def dvN (k : Int) : Int := 2 * k * (2 * k + 1)
/-- The sum of the terms from the eighth down, i of them. -/
def pN (q : Nat) : Nat → Nat
  | 0 => oneD
  | i + 1 => fbin .sub .f64 oneD (fbin .quo .f64 (fbin .mul .f64 q (pN q i)) (fofint .f64 (dvN (8 - (i : Int)))))
theorem eight {i : Nat} (h : i < 8) : i = 0 ∨ i = 1 ∨ i = 2 ∨ i = 3 ∨ i = 4 ∨ i = 5 ∨ i = 6 ∨ i = 7 := by omega
theorem term_consts {i : Nat} (h : i < 8) :
    fbin .mul .f64 (fbin .mul .f64 twoD (fofint .f64 (8 - (i : Int)))) (fbin .add .f64 (fbin .mul .f64 twoD (fofint .f64 (8 - (i : Int)))) oneD) = fofint .f64 (dvN (8 - (i : Int))) ∧
    fbin .sub .f64 (fofint .f64 (8 - (i : Int))) oneD = fofint .f64 (8 - (i : Int) - 1) ∧ fcmp .geq .f64 (fofint .f64 (8 - (i : Int))) oneD = true := by
  rcases eight h with rfl | rfl | rfl | rfl | rfl | rfl | rfl | rfl <;> decide +kernel
theorem last_const : fcmp .geq .f64 (fofint .f64 0) oneD = false := by decide +kernel
def cB : Nat → Int
  | 0 => 8 | 1 => 7 | 2 => 7 | 3 => 6 | 4 => 6 | 5 => 5 | 6 => 4 | _ => 2
def pB : Nat → Int
  | 0 => 0
  | i + 1 => pB i + 17 - cB i
theorem pB_vals : pB 0 = 0 ∧ pB 1 = 9 ∧ pB 2 = 19 ∧ pB 3 = 29 ∧ pB 4 = 40 ∧ pB 5 = 51 ∧ pB 6 = 63 ∧ pB 7 = 76 ∧ pB 8 = 91 := by decide
theorem dv_decode {i : Nat} (h : i < 8) : ∃ (t : Bool) (n : Nat) (j : Int), FloatKind.f64.decode (fofint .f64 (dvN (8 - (i : Int)))) = .number t n j ∧ n ≠ 0 ∧ cB i ≤ j + n.log2 := by
  rcases eight h with rfl | rfl | rfl | rfl | rfl | rfl | rfl | rfl
  · exact ⟨false, 272 * 2 ^ 44, -44, by decide +kernel, by decide +kernel, by decide +kernel⟩
  · exact ⟨false, 210 * 2 ^ 45, -45, by decide +kernel, by decide +kernel, by decide +kernel⟩
  · exact ⟨false, 156 * 2 ^ 45, -45, by decide +kernel, by decide +kernel, by decide +kernel⟩
  · exact ⟨false, 110 * 2 ^ 46, -46, by decide +kernel, by decide +kernel, by decide +kernel⟩
  · exact ⟨false, 72 * 2 ^ 46, -46, by decide +kernel, by decide +kernel, by decide +kernel⟩
  · exact ⟨false, 42 * 2 ^ 47, -47, by decide +kernel, by decide +kernel, by decide +kernel⟩
  · exact ⟨false, 20 * 2 ^ 48, -48, by decide +kernel, by decide +kernel, by decide +kernel⟩
  · exact ⟨false, 6 * 2 ^ 50, -50, by decide +kernel, by decide +kernel, by decide +kernel⟩
theorem Lg_one : Lg oneD 0 := ⟨false, 2 ^ 52, -52, by decide +kernel, .inr (by decide +kernel)⟩
theorem Lg_tpi : Lg tpiD 2 := ⟨false, 7074237752028440, -50, by decide +kernel, .inr (by decide +kernel)⟩
theorem Lg_pN {q : Nat} (hq : Lg q 12) : ∀ {i : Nat}, i ≤ 8 → Lg (pN q i) (pB i)
  | 0, _ => Lg_one
  | i + 1, hi => by
    have ih := Lg_pN hq (i := i) (by omega)
    obtain ⟨t, n, j, h1, h2, h3⟩ := dv_decode (i := i) (by omega)
    have hp : 0 ≤ pB i ∧ pB i ≤ 91 ∧ 2 ≤ cB i ∧ cB i ≤ 8 := by
      rcases eight (show i < 8 by omega) with rfl | rfl | rfl | rfl | rfl | rfl | rfl | rfl <;> decide
    have hm := Lg_mul hq ih (by omega) (by omega)
    have hd := Lg_quo hm h1 h2 h3 (by omega) (by omega)
    have hs := Lg_sub (Lg_one.mono (B := pB i + 15 - cB i) (by omega)) (hd.mono (B := pB i + 15 - cB i) (by omega)) (by omega) (by omega)
    exact hs.mono (by show _ ≤ pB i + 17 - cB i; omega)
/-- A number not above a power of two. -/
def Ld (x c : Nat) : Prop := ∃ s m e, Prt x s m e ∧ m * 2 ^ e ≤ 2 ^ c
theorem Ld.lg {x c : Nat} (h : Ld x c) : Lg x ((c : Int) - 1074) := by
  obtain ⟨s, m, e, h1, h2⟩ := h
  refine ⟨s, m, _, h1.1, ?_⟩
  rcases place_of h2 with q | q
  · exact .inl q
  · right; omega
theorem Ld.abs {x c : Nat} (h : Ld x c) : (D x).natAbs ≤ 2 ^ c := by
  obtain ⟨s, m, e, h1, h2⟩ := h
  rw [h1.2]
  unfold sgn
  cases s
  · simp only [Bool.false_eq_true, if_false]; rw [Int.natAbs_natCast]; exact h2
  · simp only [if_true]; rw [Int.natAbs_neg, Int.natAbs_natCast]; exact h2
theorem Ld.prt {x c : Nat} (h : Ld x c) : ∃ s m e, Prt x s m e := by
  obtain ⟨s, m, e, h1, _⟩ := h
  exact ⟨s, m, e, h1⟩
theorem Ld_nearest {neg : Bool} {mag c : Nat} {place : Int} (h : mag = 0 ∨ place + mag.log2 ≤ (c : Int) - 1075) (h1 : 100 ≤ c) (h2 : c ≤ 1900) : Ld (double.nearest neg mag place) c := by
  obtain ⟨d1, d2, d3, d4⟩ := consts64
  have hf : double.fractionBits = 52 := rfl
  obtain ⟨r, hr1, hr2⟩ := nearest_bound double (neg := neg) h (by rw [d3, hf]; omega)
  rw [d2, d3, hf] at hr1
  have e52 : (2 : Nat) ^ (52 + 1) = 9007199254740992 := by decide
  rw [e52] at hr1
  obtain ⟨k, rfl⟩ : ∃ k, c = k + 53 := ⟨c - 53, by omega⟩
  have hk2 : (((k + 53 : Nat) : Int) - 1075 - ((52 : Nat) : Int) - -1074).toNat = k := by omega
  rw [hk2] at hr1
  have hr3 : r ≤ (k + 2) * 4503599627370496 := by rw [Nat.add_mul]; exact hr1
  have hr4 : r < double.infRung := by
    have : (k + 2) * 4503599627370496 ≤ 1924 * 4503599627370496 := Nat.mul_le_mul_right _ (by omega)
    rw [d1]; exact Nat.lt_of_le_of_lt (Nat.le_trans hr3 this) (by decide)
  rw [hr2, Nat.min_eq_left (by omega)]
  have hp := word_parts double neg (r := r) (by omega)
  have hlt : double.word neg r % double.signWeight < double.infRung := by rw [hp.1]; exact hr4
  obtain ⟨m, e, q1, q2, q3⟩ := read_num hlt
  have hD : D (double.word neg r) = sgn (negOf double (double.word neg r)) (magOf double (double.word neg r % double.signWeight)) := rfl
  refine ⟨_, m, e, ⟨q1, by rw [hD, q2]⟩, ?_⟩
  rw [hp.1] at q2
  have hmr := mag_rung (k := k + 2) (by omega)
  have hml := magOf_le (f := double) hr3
  rw [hmr, q2] at hml
  exact hml
theorem Ld_diff {x y c : Nat} (hx : ∃ s m e, Prt x s m e) (hy : ∃ s m e, Prt y s m e) (h : (D x - D y).natAbs < 2 ^ c) (h1 : 200 ≤ c) (h2 : c ≤ 1900) : Ld (fbin .sub .f64 x y) c := by
  obtain ⟨s, m, e, hx⟩ := hx
  obtain ⟨t, n, e2, hy⟩ := hy
  obtain ⟨u, T, b, g1, g2⟩ := sum_exact (s := s) (t := !t) (m := m) (n := n) (e := e) (e2 := e2)
  have hf : fbin .sub .f64 x y = double.nearest u T.natAbs (-1074 + (b : Int)) := by
    show (Option.map double.write ((FloatKind.f64.decode x).sum (FloatKind.f64.decode y).opposite)).getD _ = _
    rw [hx.1, hy.1]
    show (Option.map double.write ((Datum.number s m _).sum (.number (!t) n _))).getD _ = _
    rw [g1]; rfl
  rw [sgn_not, ← Int.sub_eq_add_neg, ← hx.2, ← hy.2] at g2
  rw [hf]
  rw [← g2] at h
  exact Ld_nearest (exact_place h) (by omega) h2
theorem Ld_plus {x y c : Nat} (hx : ∃ s m e, Prt x s m e) (hy : ∃ s m e, Prt y s m e) (h : (D x + D y).natAbs < 2 ^ c) (h1 : 200 ≤ c) (h2 : c ≤ 1900) : Ld (fbin .add .f64 x y) c := by
  obtain ⟨s, m, e, hx⟩ := hx
  obtain ⟨t, n, e2, hy⟩ := hy
  obtain ⟨u, T, b, g1, g2⟩ := sum_exact (s := s) (t := t) (m := m) (n := n) (e := e) (e2 := e2)
  have hf : fbin .add .f64 x y = double.nearest u T.natAbs (-1074 + (b : Int)) := by
    show (Option.map double.write ((FloatKind.f64.decode x).sum (FloatKind.f64.decode y))).getD _ = _
    rw [hx.1, hy.1, g1]; rfl
  rw [← hx.2, ← hy.2] at g2
  rw [hf]
  rw [← g2] at h
  exact Ld_nearest (exact_place h) (by omega) h2
theorem Prt_not {x : Nat} (h : ∃ s m e, Prt x s m e) : isNaN .f64 x = false := by
  obtain ⟨s, m, e, h1, _⟩ := h
  cases hn : isNaN .f64 x
  · rfl
  · obtain ⟨sg, t, q⟩ := read_nan_of hn
    have q' : FloatKind.f64.decode x = .nan sg t := q
    rw [h1] at q'; cases q'
theorem U_pow : U = 2 ^ 1074 := by unfold U; rfl
theorem D_one : D oneD = U := by
  have h : oneD = fofint .f64 1 := by decide +kernel
  rw [h, D_int (by decide), Int.one_mul]
theorem D_half : D halfD * 2 = U := by
  have h : halfD = 1022 * 4503599627370496 := by decide
  rw [D_pos (by decide), h, mag_rung (by omega), U_pow]
  have : (2 : Nat) ^ 1074 = 2 ^ (1022 + 51) * 2 := by rw [← Nat.pow_succ]
  rw [this]; rfl
theorem D_qtr : D qtrD * 4 = U := by
  have h : qtrD = 1021 * 4503599627370496 := by decide
  rw [D_pos (by decide), h, mag_rung (by omega), U_pow]
  have : (2 : Nat) ^ 1074 = 2 ^ (1021 + 51) * 4 := by rw [show (4 : Nat) = 2 ^ 2 by decide, ← Nat.pow_add]
  rw [this]; rfl
theorem Prt_one : ∃ s m e, Prt oneD s m e := by rw [show oneD = fofint .f64 1 by decide +kernel]; exact Prt_int (by decide)
theorem Prt_half : ∃ s m e, Prt halfD s m e := Prt_of (by decide +kernel)
theorem Prt_qtr : ∃ s m e, Prt qtrD s m e := Prt_of (by decide +kernel)
def restD (x : Nat) (n : Int) : Nat := if fcmp .lss .f64 (fbin .sub .f64 x (fofint .f64 n)) 0 = true then fbin .add .f64 (fbin .sub .f64 x (fofint .f64 n)) oneD else fbin .sub .f64 x (fofint .f64 n)
theorem rest_Ld {x : Nat} {n : Int} (hx : ∃ s m e, Prt x s m e) (hn : n.natAbs < 2 ^ 53) (h : (D x - n * U).natAbs < U) : Ld (restD x n) 1074 := by
  have hU := U_pos
  have hd : Ld (fbin .sub .f64 x (fofint .f64 n)) 1074 := Ld_diff hx (Prt_int hn) (by rw [D_int hn, ← U_pow]; exact h) (by omega) (by omega)
  unfold restD
  split
  · rename_i hl
    have h0n : isNaN .f64 0 = false := by decide +kernel
    have hD0 : D 0 = 0 := by show valOf Ieee.double 0 = 0; decide +kernel
    rw [lss64 (Prt_not hd.prt) h0n, hD0] at hl
    have hl2 : D (fbin .sub .f64 x (fofint .f64 n)) < 0 := by simpa using hl
    have ha := hd.abs
    rw [← U_pow] at ha
    refine Ld_plus hd.prt Prt_one ?_ (by omega) (by omega)
    rw [D_one, ← U_pow]
    omega
  · exact hd
def foldY (r : Nat) : Nat := if fcmp .geq .f64 r halfD = true then fbin .sub .f64 r halfD else r
def foldZ (y : Nat) : Nat := if fcmp .gtr .f64 y qtrD = true then fbin .sub .f64 halfD y else y
theorem foldY_Ld {r : Nat} (h : Ld r 1074) : Ld (foldY r) 1074 := by
  have hU := U_pos
  unfold foldY
  split
  · rename_i hl
    rw [geq64 (Prt_not h.prt) (Prt_not Prt_half)] at hl
    have hl2 : D halfD ≤ D r := by simpa using hl
    have ha := h.abs
    have hh := D_half
    refine Ld_diff h.prt Prt_half ?_ (by omega) (by omega)
    rw [← U_pow] at ha ⊢
    omega
  · exact h
theorem foldZ_Ld {y : Nat} (h : Ld y 1074) : Ld (foldZ y) 1074 := by
  have hU := U_pos
  unfold foldZ
  split
  · rename_i hl
    rw [gtr64 (Prt_not h.prt) (Prt_not Prt_qtr)] at hl
    have hl2 : D qtrD < D y := by simpa using hl
    have ha := h.abs
    have hh := D_half
    have hq := D_qtr
    refine Ld_diff Prt_half h.prt ?_ (by omega) (by omega)
    rw [← U_pow] at ha ⊢
    omega
  · exact h
/-- The sine's value ahead of its sign. -/
def valD (r : Nat) : Nat := fbin .mul .f64 (fbin .mul .f64 (foldZ (foldY r)) tpiD) (pN (fbin .mul .f64 (fbin .mul .f64 (foldZ (foldY r)) tpiD) (fbin .mul .f64 (foldZ (foldY r)) tpiD)) 8)
theorem val_Lg {r : Nat} (h : Ld r 1074) : Lg (valD r) 125 := by
  have hz := (foldZ_Ld (foldY_Ld h)).lg
  have ha := (Lg_mul hz Lg_tpi (by omega) (by omega)).mono (B := 5) (by omega)
  have hq := (Lg_mul ha ha (by omega) (by omega)).mono (B := 12) (by omega)
  have hp := (Lg_pN hq (i := 8) (Nat.le_refl _)).mono (B := 91) (by decide)
  exact (Lg_mul ha hp (by omega) (by omega)).mono (by omega)
theorem Ld_mul {x y c : Nat} {A B : Int} (hx : Lg x A) (hy : Lg y B) (hc : (c : Int) = A + B + 1076) (h1 : 100 ≤ c) (h2 : c ≤ 1900) : Ld (fbin .mul .f64 x y) c := by
  obtain ⟨s, m, i, e1, e2⟩ := hx
  obtain ⟨t, n, j, f1, f2⟩ := hy
  rw [fbin_mul (d := .number (s ^^ t) (m * n) (i + j)) (by rw [e1, f1]; rfl)]
  show Ld (double.nearest (s ^^ t) (m * n) (i + j)) _
  refine Ld_nearest ?_ h1 h2
  by_cases hm : m = 0
  · left; rw [hm, Nat.zero_mul]
  · by_cases hn : n = 0
    · left; rw [hn, Nat.mul_zero]
    · right
      have := log2_mul_le hm hn
      have := e2.resolve_left hm
      have := f2.resolve_left hn
      omega
theorem val_Ld {r : Nat} (h : Ld r 1074) : Ld (valD r) 1172 := by
  have hz := (foldZ_Ld (foldY_Ld h)).lg
  have ha := (Lg_mul hz Lg_tpi (by omega) (by omega)).mono (B := 5) (by omega)
  have hq := (Lg_mul ha ha (by omega) (by omega)).mono (B := 12) (by omega)
  have hp := (Lg_pN hq (i := 8) (Nat.le_refl _)).mono (B := 91) (by decide)
  exact Ld_mul ha hp (by omega) (by omega) (by omega)
theorem neg_Ld {x c : Nat} (h : Ld x c) (hc : c ≤ 1900) : Ld (fneg .f64 x) c := by
  obtain ⟨d1, d2, d3, d4⟩ := consts64
  have hn := Prt_not h.prt
  have hv : fneg .f64 x = x ^^^ 2 ^ 63 := by unfold fneg; rw [hn]; rfl
  have hmod : (x ^^^ 2 ^ 63) % double.signWeight = x % double.signWeight := by
    rw [d4, show (9223372036854775808 : Nat) = 2 ^ 63 by decide, Nat.xor_mod_two_pow]
    simp
  have ha := h.abs
  have hD : D x = sgn (negOf double x) (magOf double (x % double.signWeight)) := rfl
  have hm : magOf double (x % double.signWeight) ≤ 2 ^ c := by
    rw [hD] at ha
    unfold sgn at ha
    split at ha <;> simpa using ha
  obtain ⟨s, m, e, h1, h2⟩ := h
  have hfin : x % double.signWeight < double.infRung := by
    rcases read_cases double double_ok x hn with ⟨q, _⟩ | ⟨_, q⟩
    · exact q
    · have q' : FloatKind.f64.decode x = .infinity (negOf double x) := q
      rw [h1.1] at q'; cases q'
  rw [hv]
  obtain ⟨m', e', q1, q2, q3⟩ := read_num (x := x ^^^ 2 ^ 63) (by rw [hmod]; exact hfin)
  have hD' : D (x ^^^ 2 ^ 63) = sgn (negOf double (x ^^^ 2 ^ 63)) (magOf double ((x ^^^ 2 ^ 63) % double.signWeight)) := rfl
  refine ⟨_, m', e', ⟨q1, by rw [hD', q2]⟩, ?_⟩
  rw [← q2, hmod]; exact hm
/-- The sine narrows to a float32. -/
theorem sine_some {r : Nat} (h : Ld r 1074) : (∃ y, fconv .f64 .f32 (valD r) = some y) ∧ (∃ y, fconv .f64 .f32 (fneg .f64 (valD r)) = some y) :=
  ⟨Lg_narrow (val_Ld h).lg (by decide) (Prt_not (val_Ld h).prt), Lg_narrow (neg_Ld (val_Ld h) (by decide)).lg (by decide) (Prt_not (neg_Ld (val_Ld h) (by decide)).prt)⟩
end Go.E
