/- The three forms of a filter, where its numbers are halves and samples are small whole numbers: all exact. Plain lemmas. -/
import Derived.Test.YtmmmpgggnfommaaMXq
import Derived.Test.YtmmmpgggnfommaaMRf
set_option linter.unusedVariables false
set_option linter.unusedSimpArgs false
set_option exponentiation.threshold 3000
namespace Go.E
open Go Ieee
abbrev Ds (x : Nat) (k : Int) (e : Nat) : Prop := Dy single 149 x k e
abbrev Dd (x : Nat) (k : Int) (e : Nat) : Prop := Dy double 1074 x k e
theorem ab {a b : Int} {p q : Nat} (ha : a.natAbs ≤ p) (hb : b.natAbs ≤ q) : (a * b).natAbs ≤ p * q := by rw [Int.natAbs_mul]; exact Nat.mul_le_mul ha hb
theorem sb {a b : Int} {p q : Nat} (ha : a.natAbs ≤ p) (hb : b.natAbs ≤ q) : (a + b).natAbs ≤ p + q := by omega
theorem db {a b : Int} {p q : Nat} (ha : a.natAbs ≤ p) (hb : b.natAbs ≤ q) : (a - b).natAbs ≤ p + q := by omega
theorem lb {a : Int} {p n : Nat} (ha : a.natAbs ≤ p) (h : p < n) : a.natAbs < n := Nat.lt_of_le_of_lt ha h
theorem Ds.upn {x e : Nat} {k : Int} (h : Ds x k e) : ∀ {n : Nat}, e + n ≤ 149 → Ds x (2 ^ n * k) (e + n)
  | 0, _ => by rw [Int.pow_zero, Int.one_mul]; exact h
  | n + 1, hn => by
    have := (Ds.upn h (n := n) (by omega)).up fk32 (by omega)
    rw [Int.pow_succ, Int.mul_comm (2 ^ n) 2, Int.mul_assoc]
    exact this
theorem Dd.upn {x e : Nat} {k : Int} (h : Dd x k e) : ∀ {n : Nat}, e + n ≤ 1074 → Dd x (2 ^ n * k) (e + n)
  | 0, _ => by rw [Int.pow_zero, Int.one_mul]; exact h
  | n + 1, hn => by
    have := (Dd.upn h (n := n) (by omega)).up fk64 (by omega)
    rw [Int.pow_succ, Int.mul_comm (2 ^ n) 2, Int.mul_assoc]
    exact this
/-- The numbers of a filter, as halves. -/
structure Hv where
  b0 : Int
  b1 : Int
  b2 : Int
  a1 : Int
  a2 : Int
structure Hvs (f : Fil) (B : Hv) : Prop where
  b0 : Ds f.b0 B.b0 1
  b1 : Ds f.b1 B.b1 1
  b2 : Ds f.b2 B.b2 1
  a1 : Ds f.a1 B.a1 1
  a2 : Ds f.a2 B.a2 1
  c0 : B.b0.natAbs ≤ 4
  c1 : B.b1.natAbs ≤ 4
  c2 : B.b2.natAbs ≤ 4
  d1 : B.a1.natAbs ≤ 2
  d2 : B.a2.natAbs ≤ 2
def xb (X : Nat → Int) : Nat → Int
  | 0 => 0
  | i + 1 => X i
def xc (X : Nat → Int) : Nat → Int
  | 0 => 0
  | i + 1 => xb X i
/-- The last two samples of the result, in units of 2^-i. -/
def YS (B : Hv) (X : Nat → Int) : Nat → Int × Int
  | 0 => (0, 0)
  | i + 1 => (2 ^ i * (B.b0 * X i) + 2 ^ i * (B.b1 * xb X i) + 2 ^ i * (B.b2 * xc X i) - B.a1 * (YS B X i).1 - B.a2 * (YS B X i).2, 2 * (YS B X i).1)
def MB : Nat → Nat
  | 0 => 0
  | i + 1 => 96 * 2 ^ i + 4 * MB i
theorem MB_le {i : Nat} (h : i ≤ 6) : MB i ≤ 193536 := by
  rcases (show i = 0 ∨ i = 1 ∨ i = 2 ∨ i = 3 ∨ i = 4 ∨ i = 5 ∨ i = 6 by omega) with rfl | rfl | rfl | rfl | rfl | rfl | rfl <;> decide
theorem pow_i {i : Nat} : ((2 : Int) ^ i).natAbs = 2 ^ i := by rw [Int.natAbs_pow]; rfl
theorem pow_le6 {i : Nat} (h : i ≤ 6) : 2 ^ i ≤ 64 := by
  have : 2 ^ i ≤ 2 ^ 6 := Nat.pow_le_pow_right (by omega) h
  exact this
section
variable {B : Hv} {X : Nat → Int} {f : Fil}
theorem xb_le (hX : ∀ i, (X i).natAbs ≤ 8) {i : Nat} : (xb X i).natAbs ≤ 8 := by cases i <;> simp [xb]; exact hX _
theorem xc_le (hX : ∀ i, (X i).natAbs ≤ 8) {i : Nat} : (xc X i).natAbs ≤ 8 := by cases i <;> simp [xc]; exact xb_le hX
theorem YS_le (hf : Hvs f B) (hX : ∀ i, (X i).natAbs ≤ 8) : ∀ {i : Nat}, (YS B X i).1.natAbs ≤ MB i ∧ (YS B X i).2.natAbs ≤ MB i
  | 0 => by simp [YS, MB]
  | i + 1 => by
    obtain ⟨h1, h2⟩ := YS_le hf hX (i := i)
    have t0 := ab (Nat.le_of_eq (pow_i (i := i))) (ab hf.c0 (hX i))
    have t1 := ab (Nat.le_of_eq (pow_i (i := i))) (ab hf.c1 (xb_le hX (i := i)))
    have t2 := ab (Nat.le_of_eq (pow_i (i := i))) (ab hf.c2 (xc_le hX (i := i)))
    have t3 := ab hf.d1 h1
    have t4 := ab hf.d2 h2
    simp only [YS, MB]
    have r := db (db (sb (sb t0 t1) t2) t3) t4
    refine ⟨Nat.le_trans r (by omega), ?_⟩
    rw [Int.natAbs_mul]
    exact Nat.le_trans (Nat.mul_le_mul_left 2 h1) (by omega)
/-- Direct form. -/
def DI (B : Hv) (X : Nat → Int) (i : Nat) (m : Mem) : Prop := Ds m.a (xb X i) 0 ∧ Ds m.b (xc X i) 0 ∧ Ds m.c (YS B X i).1 i ∧ Ds m.d (YS B X i).2 i
theorem DI_step (hf : Hvs f B) (hX : ∀ i, (X i).natAbs ≤ 8) {i x : Nat} {m : Mem} (hi : i < 6) (hx : Ds x (X i) 0) (h : DI B X i m) : Ds (stepF f 0 false m x).1 (YS B X (i + 1)).1 (i + 1) ∧ DI B X (i + 1) (stepF f 0 false m x).2 := by
  obtain ⟨h1, h2, h3, h4⟩ := h
  obtain ⟨y1, y2⟩ := YS_le hf hX (i := i)
  have hM := MB_le (i := i) (by omega)
  have hp := pow_le6 (i := i) (by omega)
  have c0 := ab hf.c0 (hX i)
  have c1 := ab hf.c1 (xb_le hX (i := i))
  have c2 := ab hf.c2 (xc_le hX (i := i))
  have t0 := ab (Nat.le_of_eq (pow_i (i := i))) c0
  have t1 := ab (Nat.le_of_eq (pow_i (i := i))) c1
  have t2 := ab (Nat.le_of_eq (pow_i (i := i))) c2
  have t3 := ab hf.d1 y1
  have t4 := ab hf.d2 y2
  have m0 := Ds.upn (Dy32.mul hf.b0 hx (by omega) (by omega)) (n := i) (by omega)
  have m1 := Ds.upn (Dy32.mul hf.b1 h1 (by omega) (by omega)) (n := i) (by omega)
  have m2 := Ds.upn (Dy32.mul hf.b2 h2 (by omega) (by omega)) (n := i) (by omega)
  have m3 := Dy32.mul hf.a1 h3 (by omega) (by omega)
  have m4 := Dy32.mul hf.a2 h4 (by omega) (by omega)
  rw [Nat.add_zero, Nat.add_comm 1 i] at m0 m1 m2
  rw [Nat.add_comm 1 i] at m3 m4
  have hy : Ds (yDir f false m x) (YS B X (i + 1)).1 (i + 1) := by
    unfold yDir flushIf
    simp only [YS]
    have r1 := sb t0 t1
    have r2 := sb r1 t2
    have r3 := db r2 t3
    exact Dy32.sub (Dy32.sub (Dy32.add (Dy32.add m0 m1 (lb r1 (by omega))) m2 (lb r2 (by omega))) m3 (lb r3 (by omega))) m4 (lb (db r3 t4) (by omega))
  refine ⟨hy, hx, ?_, hy, ?_⟩
  · exact h1
  · exact h3.up fk32 (by omega)
/-- Turned form. -/
def TI (B : Hv) (X : Nat → Int) (i : Nat) (m : Mem) : Prop := Ds m.a (2 ^ i * (B.b1 * xb X i) + 2 ^ i * (B.b2 * xc X i) - B.a1 * (YS B X i).1 - B.a2 * (YS B X i).2) (i + 1) ∧ Ds m.b (2 ^ i * (B.b2 * xb X i) - B.a2 * (YS B X i).1) (i + 1)
theorem TI_step (hf : Hvs f B) (hX : ∀ i, (X i).natAbs ≤ 8) {i x : Nat} {m : Mem} (hi : i < 6) (hx : Ds x (X i) 0) (h : TI B X i m) : Ds (stepF f 1 false m x).1 (YS B X (i + 1)).1 (i + 1) ∧ TI B X (i + 1) (stepF f 1 false m x).2 := by
  obtain ⟨h1, h2⟩ := h
  obtain ⟨y1, y2⟩ := YS_le hf hX (i := i)
  obtain ⟨y3, y4⟩ := YS_le hf hX (i := i + 1)
  have hM := MB_le (i := i) (by omega)
  have hM2 := MB_le (i := i + 1) (by omega)
  have hp := pow_le6 (i := i) (by omega)
  have hp2 := pow_le6 (i := i + 1) (by omega)
  have c0 := ab hf.c0 (hX i)
  have c1 := ab hf.c1 (hX i)
  have c2 := ab hf.c2 (hX i)
  have d1 := ab hf.c1 (xb_le hX (i := i))
  have d2 := ab hf.c2 (xb_le hX (i := i))
  have d3 := ab hf.c2 (xc_le hX (i := i))
  have t0 := ab (Nat.le_of_eq (pow_i (i := i))) c0
  have t1 := ab (Nat.le_of_eq (pow_i (i := i + 1))) c1
  have t2 := ab (Nat.le_of_eq (pow_i (i := i + 1))) c2
  have u1 := ab (Nat.le_of_eq (pow_i (i := i))) d1
  have u2 := ab (Nat.le_of_eq (pow_i (i := i))) d2
  have u3 := ab (Nat.le_of_eq (pow_i (i := i))) d3
  have t3 := ab hf.d1 y1
  have t4 := ab hf.d2 y2
  have t5 := ab hf.d1 y3
  have t6 := ab hf.d2 y3
  have t7 := ab hf.d2 y1
  have m0 := Ds.upn (Dy32.mul hf.b0 hx (by omega) (by omega)) (n := i) (by omega)
  have m1 := Ds.upn (Dy32.mul hf.b1 hx (by omega) (by omega)) (n := i + 1) (by omega)
  have m2 := Ds.upn (Dy32.mul hf.b2 hx (by omega) (by omega)) (n := i + 1) (by omega)
  rw [Nat.add_zero, Nat.add_comm 1 i] at m0
  rw [Nat.add_zero, Nat.add_comm 1 (i + 1)] at m1 m2
  have hy : Ds (yTur f false m x) (YS B X (i + 1)).1 (i + 1) := by
    unfold yTur flushIf
    have e : (YS B X (i + 1)).1 = 2 ^ i * (B.b0 * X i) + (2 ^ i * (B.b1 * xb X i) + 2 ^ i * (B.b2 * xc X i) - B.a1 * (YS B X i).1 - B.a2 * (YS B X i).2) := by
      simp only [YS]
      generalize 2 ^ i * (B.b0 * X i) = p0
      generalize 2 ^ i * (B.b1 * xb X i) = p1
      generalize 2 ^ i * (B.b2 * xc X i) = p2
      generalize B.a1 * (YS B X i).1 = p3
      generalize B.a2 * (YS B X i).2 = p4
      omega
    rw [e]
    exact Dy32.add m0 h1 (lb (sb t0 (db (db (sb u1 u3) t3) t4)) (by omega))
  have m3 := Dy32.mul hf.a1 hy (by omega) (by omega)
  have m4 := Dy32.mul hf.a2 hy (by omega) (by omega)
  rw [Nat.add_comm 1 (i + 1)] at m3 m4
  have h2' := h2.up fk32 (by omega)
  have e1 : (2 : Int) ^ (i + 1) * (B.b2 * xb X i) = 2 * (2 ^ i * (B.b2 * xb X i)) := by rw [Int.pow_succ, Int.mul_comm (2 ^ i) 2, Int.mul_assoc]
  have e2 : B.a2 * (2 * (YS B X i).1) = 2 * (B.a2 * (YS B X i).1) := by rw [Int.mul_left_comm]
  have hxb : xb X (i + 1) = X i := rfl
  have hxc : xc X (i + 1) = xb X i := rfl
  have hy2 : (YS B X (i + 1)).2 = 2 * (YS B X i).1 := rfl
  have q2 : (2 : Nat) ^ (i + 1) = 2 * 2 ^ i := by rw [Nat.pow_succ, Nat.mul_comm]
  refine ⟨hy, ?_, ?_⟩
  · show Ds (flushIf false (ad (su (mu f.b1 x) (mu f.a1 (yTur f false m x))) m.b)) _ _
    unfold flushIf
    rw [hxb, hxc, hy2, e1, e2]
    have e3 : 2 ^ (i + 1) * (B.b1 * X i) + 2 * (2 ^ i * (B.b2 * xb X i)) - B.a1 * (YS B X (i + 1)).1 - 2 * (B.a2 * (YS B X i).1) = 2 ^ (i + 1) * (B.b1 * X i) - B.a1 * (YS B X (i + 1)).1 + 2 * (2 ^ i * (B.b2 * xb X i) - B.a2 * (YS B X i).1) := by
      generalize 2 ^ (i + 1) * (B.b1 * X i) = p0
      generalize 2 ^ i * (B.b2 * xb X i) = p1
      generalize B.a1 * (YS B X (i + 1)).1 = p3
      generalize B.a2 * (YS B X i).1 = p4
      omega
    rw [e3]
    have r1 := db t1 t5
    have r2 := ab (show Int.natAbs 2 ≤ 2 by decide) (db u2 t7)
    have r3 := sb r1 r2
    exact Dy32.add (Dy32.sub m1 m3 (lb r1 (by omega))) h2' (lb r3 (by omega))
  · show Ds (flushIf false (su (mu f.b2 x) (mu f.a2 (yTur f false m x)))) _ _
    unfold flushIf
    rw [hxb]
    exact Dy32.sub m2 m4 (lb (db t2 t6) (by omega))
/-- Canonic form: the last memories, in units of 2^-i. -/
def WS (B : Hv) (X : Nat → Int) : Nat → Int × Int × Int × Int
  | 0 => (0, 0, 0, 0)
  | i + 1 => (2 ^ (i + 1) * X i - B.a1 * (WS B X i).1 - B.a2 * (WS B X i).2.1, 2 * (WS B X i).1, 2 * (WS B X i).2.1, 2 * (WS B X i).2.2.1)
theorem WS_le (hf : Hvs f B) (hX : ∀ i, (X i).natAbs ≤ 8) : ∀ {i : Nat}, (WS B X i).1.natAbs ≤ MB i ∧ (WS B X i).2.1.natAbs ≤ MB i
  | 0 => by simp [WS, MB]
  | i + 1 => by
    obtain ⟨h1, h2⟩ := WS_le hf hX (i := i)
    have t0 := ab (Nat.le_of_eq (pow_i (i := i + 1))) (hX i)
    have t3 := ab hf.d1 h1
    have t4 := ab hf.d2 h2
    have q2 : (2 : Nat) ^ (i + 1) = 2 * 2 ^ i := by rw [Nat.pow_succ, Nat.mul_comm]
    simp only [WS, MB]
    have r := db (db t0 t3) t4
    refine ⟨Nat.le_trans r (by omega), ?_⟩
    rw [Int.natAbs_mul]
    exact Nat.le_trans (Nat.mul_le_mul_left 2 h1) (by omega)
theorem WS_rel : ∀ {i : Nat}, 2 * (YS B X i).1 = B.b0 * (WS B X i).1 + B.b1 * (WS B X i).2.1 + B.b2 * (WS B X i).2.2.1 ∧ 2 * (YS B X i).2 = B.b0 * (WS B X i).2.1 + B.b1 * (WS B X i).2.2.1 + B.b2 * (WS B X i).2.2.2 ∧
    2 * (WS B X i).1 = 2 ^ (i + 1) * xb X i - B.a1 * (WS B X i).2.1 - B.a2 * (WS B X i).2.2.1 ∧ 2 * (WS B X i).2.1 = 2 ^ (i + 1) * xc X i - B.a1 * (WS B X i).2.2.1 - B.a2 * (WS B X i).2.2.2
  | 0 => by simp [YS, WS, xb, xc]
  | i + 1 => by
    obtain ⟨r1, r2, r3, r4⟩ := WS_rel (i := i)
    have xe1 : xb X (i + 1) = X i := rfl
    have xe2 : xc X (i + 1) = xb X i := rfl
    simp only [YS, WS, xe1, xe2]
    have p1 : (2 : Int) ^ (i + 1) = 2 * 2 ^ i := by rw [Int.pow_succ, Int.mul_comm]
    have p2 : (2 : Int) ^ (i + 1 + 1) = 2 * (2 * 2 ^ i) := by rw [Int.pow_succ, p1, Int.mul_comm]
    rw [p1] at r3 r4
    rw [p2, p1]
    generalize (2 : Int) ^ i = q at *
    generalize X i = x0 at *
    generalize xb X i = x1 at *
    generalize xc X i = x2 at *
    generalize (WS B X i).1 = w1 at *
    generalize (WS B X i).2.1 = w2 at *
    generalize (WS B X i).2.2.1 = w3 at *
    generalize (WS B X i).2.2.2 = w4 at *
    generalize (YS B X i).1 = y1 at *
    generalize (YS B X i).2 = y2 at *
    generalize B.b0 = b0 at *
    generalize B.b1 = b1 at *
    generalize B.b2 = b2 at *
    generalize B.a1 = a1 at *
    generalize B.a2 = a2 at *
    refine ⟨?_, ?_, ?_, ?_⟩
    · have g1 : a1 * (2 * y1) = a1 * (b0 * w1 + b1 * w2 + b2 * w3) := by rw [r1]
      have g2 : a2 * (2 * y2) = a2 * (b0 * w2 + b1 * w3 + b2 * w4) := by rw [r2]
      have g3 : b1 * (2 * w1) = b1 * (2 * q * x1 - a1 * w2 - a2 * w3) := by rw [r3]
      have g4 : b2 * (2 * w2) = b2 * (2 * q * x2 - a1 * w3 - a2 * w4) := by rw [r4]
      grind
    · grind
    · grind
    · grind
def CI (B : Hv) (X : Nat → Int) (i : Nat) (m : Mem) : Prop := Ds m.a (WS B X i).1 i ∧ Ds m.b (WS B X i).2.1 i
theorem CI_step (hf : Hvs f B) (hX : ∀ i, (X i).natAbs ≤ 8) {i x : Nat} {m : Mem} (hi : i < 6) (hx : Ds x (X i) 0) (h : CI B X i m) : Ds (stepF f 2 true m x).1 (2 * (YS B X (i + 1)).1) (i + 2) ∧ CI B X (i + 1) (stepF f 2 true m x).2 := by
  obtain ⟨h1, h2⟩ := h
  obtain ⟨w1, w2⟩ := WS_le hf hX (i := i)
  obtain ⟨w3, w4⟩ := WS_le hf hX (i := i + 1)
  have hM := MB_le (i := i) (by omega)
  have hM2 := MB_le (i := i + 1) (by omega)
  have hp2 := pow_le6 (i := i + 1) (by omega)
  have hr := (WS_rel (B := B) (X := X) (i := i + 1)).1
  have t0 := ab (Nat.le_of_eq (pow_i (i := i + 1))) (hX i)
  have t3 := ab hf.d1 w1
  have t4 := ab hf.d2 w2
  have t5 := ab hf.c0 w3
  have t6 := ab hf.c1 w1
  have t7 := ab hf.c2 w2
  have m0 := Ds.upn hx (n := i + 1) (by omega)
  rw [Nat.zero_add] at m0
  have m1 := Dy32.mul hf.a1 h1 (by omega) (by omega)
  have m2 := Dy32.mul hf.a2 h2 (by omega) (by omega)
  rw [Nat.add_comm 1 i] at m1 m2
  have hw : Ds (wCan f true m x) (WS B X (i + 1)).1 (i + 1) := by
    have : Ds (su (su x (mu f.a1 m.a)) (mu f.a2 m.b)) (WS B X (i + 1)).1 (i + 1) := by
      simp only [WS]
      have r1 := db t0 t3
      exact Dy32.sub (Dy32.sub m0 m1 (lb r1 (by omega))) m2 (lb (db r1 t4) (by omega))
    unfold wCan flushIf
    rw [if_pos rfl, Dy32.flush this (by omega)]
    exact this
  have n0 := Dy32.mul hf.b0 hw (by omega) (by omega)
  have n1 := (Dy32.mul hf.b1 h1 (by omega) (by omega)).up fk32 (by omega)
  have n2 := (Dy32.mul hf.b2 h2 (by omega) (by omega)).up fk32 (by omega)
  have e0 : 1 + (i + 1) = i + 2 := by omega
  have e1 : 1 + i + 1 = i + 2 := by omega
  rw [e0] at n0
  rw [e1] at n1 n2
  have hy : Ds (yCan f true m (wCan f true m x)) (2 * (YS B X (i + 1)).1) (i + 2) := by
    have : Ds (ad (ad (mu f.b0 (wCan f true m x)) (mu f.b1 m.a)) (mu f.b2 m.b)) (2 * (YS B X (i + 1)).1) (i + 2) := by
      have e2 : 2 * (YS B X (i + 1)).1 = B.b0 * (WS B X (i + 1)).1 + 2 * (B.b1 * (WS B X i).1) + 2 * (B.b2 * (WS B X i).2.1) := by
        rw [hr]
        have q1 : (WS B X (i + 1)).2.1 = 2 * (WS B X i).1 := rfl
        have q2 : (WS B X (i + 1)).2.2.1 = 2 * (WS B X i).2.1 := rfl
        rw [q1, q2, Int.mul_left_comm B.b1, Int.mul_left_comm B.b2]
      rw [e2]
      have r1 := sb t5 (ab (show Int.natAbs 2 ≤ 2 by decide) t6)
      have r2 := sb r1 (ab (show Int.natAbs 2 ≤ 2 by decide) t7)
      exact Dy32.add (Dy32.add n0 n1 (lb r1 (by omega))) n2 (lb r2 (by omega))
    unfold yCan flushIf
    rw [if_pos rfl, Dy32.flush this (by omega)]
    exact this
  refine ⟨hy, ?_, ?_⟩
  · show Ds (flushIf true (wCan f true m x)) _ _
    unfold flushIf
    rw [if_pos rfl, Dy32.flush hw (by omega)]
    exact hw
  · show Ds (flushIf true m.a) _ _
    unfold flushIf
    rw [if_pos rfl, Dy32.flush h1 (by omega)]
    exact h1.up fk32 (by omega)
end
end Go.E
