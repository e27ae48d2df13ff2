/- What the three forms give, sample by sample, where all is exact. Plain lemmas. -/
import Derived.Test.YtmmmpgggnfommaaMXf
set_option linter.unusedVariables false
set_option linter.unusedSimpArgs false
set_option exponentiation.threshold 3000
namespace Go.E
open Go Ieee
theorem out_inv {σ α : Type} {step : σ → α → Nat × σ} {s : σ} {xs : List α} {I : Nat → σ → Prop} {P : Nat → Nat → Prop} (h0 : I 0 s) (hs : ∀ i t (hi : i < xs.length), I i t → P i (step t xs[i]).1 ∧ I (i + 1) (step t xs[i]).2) :
    ∀ n, n ≤ xs.length → I n (stTo step s xs n) ∧ ∀ i v, (outTo step s xs n)[i]? = some v → P i v
  | 0, _ => ⟨by rw [stTo_zero]; exact h0, fun i v h => by simp at h⟩
  | n + 1, hn => by
    obtain ⟨h1, h2⟩ := out_inv h0 hs n (by omega)
    obtain ⟨h3, h4⟩ := hs n _ (by omega) h1
    refine ⟨by rw [stTo_succ (by omega)]; exact h4, fun i v h => ?_⟩
    have hl : (outTo step s xs n).length = n := outTo_len (by omega)
    rw [outTo_succ (by omega)] at h
    rcases Nat.lt_or_ge i n with q | q
    · rw [List.getElem?_append_left (by omega)] at h
      exact h2 i v h
    · rw [List.getElem?_append_right (by omega), hl] at h
      have : i = n := by
        have := (List.getElem?_eq_some_iff.1 h).1
        simp at this; omega
      subst this
      simp at h
      rw [← h]; exact h3
theorem scan_at {σ α : Type} {step : σ → α → Nat × σ} {s : σ} {xs : List α} {I : Nat → σ → Prop} {P : Nat → Nat → Prop} (h0 : I 0 s) (hs : ∀ i t (hi : i < xs.length), I i t → P i (step t xs[i]).1 ∧ I (i + 1) (step t xs[i]).2)
    {i : Nat} (hi : i < (scan step s xs).1.length) : P i (scan step s xs).1[i] := by
  have := (out_inv (P := P) h0 hs xs.length (Nat.le_refl _)).2 i (scan step s xs).1[i]
  rw [outTo_all] at this
  exact this (List.getElem?_eq_getElem hi)
section
variable {B : Hv} {X : Nat → Int} {f : Fil} {xs : List Nat}
structure Smp (xs : List Nat) (X : Nat → Int) : Prop where
  len : xs.length = 6
  le : ∀ i, (X i).natAbs ≤ 8
  at_ : ∀ i (h : i < xs.length), Ds xs[i] (X i) 0
theorem zeroDs {e : Nat} (h : e ≤ 149) : Ds 0 0 e := Dy.zero fk32 h
theorem dir_at (hf : Hvs f B) (hx : Smp xs X) {i : Nat} (hi : i < (scan (stepF f 0 false) Mem.zero xs).1.length) : Ds (scan (stepF f 0 false) Mem.zero xs).1[i] (YS B X (i + 1)).1 (i + 1) := by
  have hl := hx.len
  exact scan_at (P := fun i v => Ds v (YS B X (i + 1)).1 (i + 1)) (I := DI B X) ⟨zeroDs (by omega), zeroDs (by omega), zeroDs (by omega), zeroDs (by omega)⟩
    (fun j t hj ht => DI_step hf hx.le (by omega) (hx.at_ j hj) ht) hi
theorem tur_at (hf : Hvs f B) (hx : Smp xs X) {i : Nat} (hi : i < (scan (stepF f 1 false) Mem.zero xs).1.length) : Ds (scan (stepF f 1 false) Mem.zero xs).1[i] (YS B X (i + 1)).1 (i + 1) := by
  have hl := hx.len
  exact scan_at (P := fun i v => Ds v (YS B X (i + 1)).1 (i + 1)) (I := TI B X) (by
      unfold TI
      simp only [YS, xb, xc, Int.mul_zero, Int.add_zero, Int.sub_zero]
      exact ⟨zeroDs (by omega), zeroDs (by omega)⟩)
    (fun j t hj ht => TI_step hf hx.le (by omega) (hx.at_ j hj) ht) hi
theorem can_at (hf : Hvs f B) (hx : Smp xs X) {i : Nat} (hi : i < (scan (stepF f 2 true) Mem.zero xs).1.length) : Ds (scan (stepF f 2 true) Mem.zero xs).1[i] (2 * (YS B X (i + 1)).1) (i + 2) := by
  have hl := hx.len
  exact scan_at (P := fun i v => Ds v (2 * (YS B X (i + 1)).1) (i + 2)) (I := CI B X) ⟨zeroDs (by omega), zeroDs (by omega)⟩
    (fun j t hj ht => CI_step hf hx.le (by omega) (hx.at_ j hj) ht) hi
def Hv.dbl (B : Hv) : Hv := ⟨2 * B.b0, 2 * B.b1, 2 * B.b2, B.a1, B.a2⟩
theorem YS_dbl : ∀ {i : Nat}, (YS B.dbl X i).1 = 2 * (YS B X i).1 ∧ (YS B.dbl X i).2 = 2 * (YS B X i).2
  | 0 => by simp [YS]
  | i + 1 => by
    obtain ⟨h1, h2⟩ := YS_dbl (i := i)
    simp only [YS, h1, h2]
    refine ⟨?_, trivial⟩
    show 2 ^ i * (2 * B.b0 * X i) + 2 ^ i * (2 * B.b1 * xb X i) + 2 ^ i * (2 * B.b2 * xc X i) - B.a1 * (2 * (YS B X i).1) - B.a2 * (2 * (YS B X i).2) = _
    grind
/-- The sample as the law reckons it, in double precision. -/
noncomputable def ownA (f : Fil) (x0 : Nat) : Nat := fbin .mul .f64 (wid f.b0) (wid x0)
noncomputable def ownB (o : Nat) (b a x y : Nat) : Nat := fbin .add .f64 o (fbin .sub .f64 (fbin .mul .f64 (wid b) (wid x)) (fbin .mul .f64 (wid a) (wid y)))
theorem own0 (hf : Hvs f B) (hX : ∀ i, (X i).natAbs ≤ 8) {i x0 : Nat} (hi : i < 6) (h0 : Ds x0 (X i) 0) : Dd (ownA f x0) (2 ^ i * (B.b0 * X i)) (i + 1) ∧ (2 ^ i * (B.b0 * X i)).natAbs ≤ 2048 := by
  have c0 := ab hf.c0 (hX i)
  have hp := pow_le6 (i := i) (by omega)
  have t0 := ab (Nat.le_of_eq (pow_i (i := i))) c0
  have m0 := Dd.upn (Dy64.mul (Dy32.wid hf.b0) (Dy32.wid h0) (by omega) (by omega)) (n := i) (by omega)
  rw [Nat.add_zero, Nat.add_comm 1 i] at m0
  exact ⟨m0, Nat.le_trans t0 (by omega)⟩
theorem ownS {o b a x y i : Nat} {O P Q XX Y : Int} (ho : Dd o O (i + 1)) (hO : O.natAbs ≤ 1000000) (hb : Ds b P 1) (hP : P.natAbs ≤ 4) (ha : Ds a Q 1) (hQ : Q.natAbs ≤ 2) (hx : Ds x XX 0) (hX : XX.natAbs ≤ 8) (hy : Ds y Y i) (hY : Y.natAbs ≤ 193536) (hi : i < 6) :
    Dd (ownB o b a x y) (O + (2 ^ i * (P * XX) - Q * Y)) (i + 1) ∧ (O + (2 ^ i * (P * XX) - Q * Y)).natAbs ≤ O.natAbs + 389120 := by
  have hp := pow_le6 (i := i) (by omega)
  have c0 := ab hP hX
  have t0 := ab (Nat.le_of_eq (pow_i (i := i))) c0
  have t1 := ab hQ hY
  have m0 := Dd.upn (Dy64.mul (Dy32.wid hb) (Dy32.wid hx) (by omega) (by omega)) (n := i) (by omega)
  rw [Nat.add_zero, Nat.add_comm 1 i] at m0
  have m1 := Dy64.mul (Dy32.wid ha) (Dy32.wid hy) (by omega) (by omega)
  rw [Nat.add_comm 1 i] at m1
  have r1 := db t0 t1
  have r2 := sb (Nat.le_refl O.natAbs) r1
  exact ⟨Dy64.add ho (Dy64.sub m0 m1 (lb r1 (by omega))) (lb r2 (by omega)), Nat.le_trans r2 (by omega)⟩
/-- What the law compares, at one place. -/
theorem own_at0 (hf : Hvs f B) (hX : ∀ i, (X i).natAbs ≤ 8) {a x0 : Nat} (h0 : Ds x0 (X 0) 0) (ha : Ds a (YS B X 1).1 1) : fcmp .neq .f64 (wid a) (ownA f x0) = false := by
  obtain ⟨m0, _⟩ := own0 (i := 0) hf hX (by omega) h0
  refine Dy64.eq (Dy32.wid ha) ?_
  have e : (YS B X 1).1 = 2 ^ 0 * (B.b0 * X 0) := by simp [YS, xb, xc]
  rw [e]; exact m0
theorem own_at1 (hf : Hvs f B) (hX : ∀ i, (X i).natAbs ≤ 8) {a a1 x0 x1 : Nat} (h0 : Ds x0 (X 1) 0) (h1 : Ds x1 (X 0) 0) (ha : Ds a (YS B X 2).1 2) (ha1 : Ds a1 (YS B X 1).1 1) : fcmp .neq .f64 (wid a) (ownB (ownA f x0) f.b1 f.a1 x1 a1) = false := by
  obtain ⟨m0, b0⟩ := own0 (i := 1) hf hX (by omega) h0
  have hM := MB_le (i := 1) (by omega)
  have hY := (YS_le hf hX (i := 1)).1
  obtain ⟨m1, b1⟩ := ownS m0 (by omega) hf.b1 hf.c1 hf.a1 hf.d1 h1 (hX 0) ha1 (by omega) (by omega)
  refine Dy64.eq (Dy32.wid ha) ?_
  have e : (YS B X 2).1 = 2 ^ 1 * (B.b0 * X 1) + (2 ^ 1 * (B.b1 * X 0) - B.a1 * (YS B X 1).1) := by simp only [YS, xb, xc]; omega
  rw [e]; exact m1
theorem own_at2 (hf : Hvs f B) (hX : ∀ i, (X i).natAbs ≤ 8) {i a a1 a2 x0 x1 x2 : Nat} (hi : i + 2 < 6) (h0 : Ds x0 (X (i + 2)) 0) (h1 : Ds x1 (X (i + 1)) 0) (h2 : Ds x2 (X i) 0) (ha : Ds a (YS B X (i + 3)).1 (i + 3)) (ha1 : Ds a1 (YS B X (i + 2)).1 (i + 2)) (ha2 : Ds a2 (YS B X (i + 1)).1 (i + 1)) :
    fcmp .neq .f64 (wid a) (ownB (ownB (ownA f x0) f.b1 f.a1 x1 a1) f.b2 f.a2 x2 a2) = false := by
  obtain ⟨m0, b0⟩ := own0 (i := i + 2) hf hX (by omega) h0
  have hM := MB_le (i := i + 2) (by omega)
  obtain ⟨hY, hY2⟩ := YS_le hf hX (i := i + 2)
  obtain ⟨m1, b1⟩ := ownS m0 (by omega) hf.b1 hf.c1 hf.a1 hf.d1 h1 (hX (i + 1)) ha1 (by omega) (by omega)
  have ha2' : Ds a2 (YS B X (i + 2)).2 (i + 2) := ha2.up fk32 (by omega)
  obtain ⟨m2, b2⟩ := ownS m1 (by omega) hf.b2 hf.c2 hf.a2 hf.d2 h2 (hX i) ha2' (by omega) (by omega)
  refine Dy64.eq (Dy32.wid ha) ?_
  have e : (YS B X (i + 3)).1 = 2 ^ (i + 2) * (B.b0 * X (i + 2)) + (2 ^ (i + 2) * (B.b1 * X (i + 1)) - B.a1 * (YS B X (i + 2)).1) + (2 ^ (i + 2) * (B.b2 * X i) - B.a2 * (YS B X (i + 2)).2) := by
    have e0 : (YS B X (i + 3)).1 = 2 ^ (i + 2) * (B.b0 * X (i + 2)) + 2 ^ (i + 2) * (B.b1 * X (i + 1)) + 2 ^ (i + 2) * (B.b2 * X i) - B.a1 * (YS B X (i + 2)).1 - B.a2 * (YS B X (i + 2)).2 := rfl
    rw [e0]
    generalize 2 ^ (i + 2) * (B.b0 * X (i + 2)) = p0
    generalize 2 ^ (i + 2) * (B.b1 * X (i + 1)) = p1
    generalize 2 ^ (i + 2) * (B.b2 * X i) = p2
    generalize B.a1 * (YS B X (i + 2)).1 = p3
    generalize B.a2 * (YS B X (i + 2)).2 = p4
    omega
  rw [e]; exact m2
end
/-- Numbers that are drawn. -/
def halfN (v : Int) : Nat := fbin .quo .f32 (fofint .f32 (v - 2)) 1073741824
theorem half_all : ∀ v : Nat, v < 5 → Ds (halfN v) (v - 2) 1 := by unfold Ds Dy; decide +kernel
theorem whole_all : ∀ v : Nat, v < 17 → Ds (fofint .f32 ((v : Int) - 8)) (v - 8) 0 := by unfold Ds Dy; decide +kernel
theorem two_Ds : Ds 1073741824 2 0 := by unfold Ds Dy; decide +kernel
theorem half_Ds {v : Int} (h : 0 ≤ v ∧ v < 5) : Ds (halfN v) (v - 2) 1 := by
  have := half_all v.toNat (by omega)
  rwa [show ((v.toNat : Nat) : Int) = v by omega] at this
theorem whole_Ds {v : Int} (h : 0 ≤ v ∧ v < 17) : Ds (fofint .f32 (v - 8)) (v - 8) 0 := by
  have := whole_all v.toNat (by omega)
  rwa [show ((v.toNat : Nat) : Int) = v by omega] at this
end Go.E
