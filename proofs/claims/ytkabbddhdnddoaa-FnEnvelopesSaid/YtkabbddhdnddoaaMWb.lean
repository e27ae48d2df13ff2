/- Sums and products of float32s that are not above one: they stay so. Phases and waves. Plain lemmas; no condition but that of a phase. -/
import Derived.Test.YtkabbddhdnddoaaMXt
import Derived.Test.YtkabbddhdnddoaaMOs
set_option linter.unusedVariables false
set_option linter.unusedSimpArgs false
set_option exponentiation.threshold 3000
namespace Go.E
open Go Ieee
def FinS (x : Nat) : Prop := ∃ s m e, single.read x = .number s m (-149 + ((e : Nat) : Int)) ∧ V x = sgn s (m * 2 ^ e)
/-- Not above this number. -/
def Sb (z rc : Nat) : Prop := ∃ u r, z = single.word u r ∧ r ≤ rc
theorem FinS.word {u : Bool} {r : Nat} (h : r < single.infRung) : FinS (single.word u r) ∧ V (single.word u r) = sgn u (magOf single r) ∧ isNaN .f32 (single.word u r) = false := by
  obtain ⟨c1, c2, c3, c4⟩ := consts32
  have hp := word_parts single u (r := r) (by omega)
  have hv : V (single.word u r) = sgn u (magOf single r) := by
    have : V (single.word u r) = sgn (negOf single (single.word u r)) (magOf single (single.word u r % single.signWeight)) := rfl
    rw [this, hp.1, hp.2]
  have hn : isNaN .f32 (single.word u r) = false := by
    rw [isNaN32]
    rw [c4] at hp
    rw [hp.1]; simp; omega
  refine ⟨?_, hv, hn⟩
  rcases read_cases single single_ok _ hn with ⟨_, m, i, q1, q2⟩ | ⟨q, _⟩
  · refine ⟨u, m, i, by rw [q1, hp.2, c3], ?_⟩
    rw [hv, ← q2, hp.1]
  · rw [hp.1] at q; omega
theorem Sb.fin {z rc : Nat} (h : Sb z rc) (hc : rc < single.infRung) : FinS z ∧ (V z).natAbs ≤ magOf single rc ∧ isNaN .f32 z = false := by
  obtain ⟨u, r, rfl, h2⟩ := h
  obtain ⟨a, b, c⟩ := FinS.word (u := u) (r := r) (by omega)
  refine ⟨a, ?_, c⟩
  rw [b, sgn_natAbs]
  exact magOf_le h2
theorem Sb.of_V {z rc q : Nat} (h : Sb z rc) (hc : rc < single.infRung) (hq : (V z).natAbs ≤ magOf single q) : Sb z q := by
  obtain ⟨u, r, rfl, h2⟩ := h
  obtain ⟨a, b, c⟩ := FinS.word (u := u) (r := r) (by omega)
  rw [b, sgn_natAbs] at hq
  refine ⟨u, r, rfl, ?_⟩
  apply Nat.le_of_not_lt
  intro hl
  have := magOf_lt (f := single) hl
  omega
theorem Sb.mono {z a b : Nat} (h : Sb z a) (hab : a ≤ b) : Sb z b := by
  obtain ⟨u, r, h1, h2⟩ := h
  exact ⟨u, r, h1, by omega⟩
theorem Sb.unit {z : Nat} (h : Sb z 1065353216) : Unit32 z := by
  obtain ⟨u, r, rfl, h2⟩ := h
  exact Unit_word h2
theorem Sb.of_CF {x rc : Nat} (hx : x < 4294967296) (h : x % 2147483648 ≤ rc) : Sb x rc := ⟨negOf single x, x % 2147483648, (word32 hx).symm, h⟩
theorem rung_zero {s : Bool} {p : Int} : rungOf single s 0 p = 0 := by unfold rungOf; rw [if_pos rfl]
theorem near_word {s : Bool} {m a M A rc : Nat} {c : Int} (h : m * 2 ^ a ≤ M * 2 ^ A) (hR : rungOf single false M ((A : Int) - c) = rc) (hc : rc < single.infRung) : single.nearest s m ((a : Int) - c) = single.word s (rungOf single s m ((a : Int) - c)) ∧ rungOf single s m ((a : Int) - c) ≤ rc := by
  have := rung_mono32 (s := s) (t := false) (c := c) h
  rw [hR] at this
  refine ⟨?_, this⟩
  rw [nearest_rung, Nat.min_eq_left (by omega)]
theorem sumS {x z : Nat} {s2 : Bool} {n j M A rc : Nat} {dy : Datum} (hx : FinS x) (hd : ((single.read x).sum dy).map single.write = some z) (hy : dy = .number s2 n (-149 + (j : Int))) (h : (V x + sgn s2 (n * 2 ^ j)).natAbs ≤ M * 2 ^ A) (hR : rungOf single false M ((A : Int) - 149) = rc) (hc : rc < single.infRung) :
    Sb z rc ∧ (0 ≤ V x + sgn s2 (n * 2 ^ j) → 0 ≤ V z) ∧ (V x + sgn s2 (n * 2 ^ j) ≤ 0 → V z ≤ 0) := by
  obtain ⟨s, m, e, p1, p2⟩ := hx
  obtain ⟨u, T, b, g1, g2, g3⟩ := sum_exactG (c := -149) (s := s) (t := s2) (m := m) (n := n) (e := e) (e2 := j)
  rw [p1, hy, g1] at hd
  have hz : single.nearest u T.natAbs ((b : Int) - 149) = z := by
    have hd2 : single.nearest u T.natAbs (-149 + (b : Int)) = z := Option.some.inj hd
    rw [← hd2]; congr 1 <;> omega
  rw [p2, ← g2] at h ⊢
  have ha : T.natAbs * 2 ^ b = (T * (2 ^ b : Nat)).natAbs := by rw [Int.natAbs_mul, Int.natAbs_natCast]
  obtain ⟨w1, w2⟩ := near_word (s := u) (m := T.natAbs) (a := b) (c := 149) (by rw [ha]; exact h) hR hc
  rw [hz] at w1
  obtain ⟨_, k1, _⟩ := FinS.word (u := u) (r := rungOf single u T.natAbs ((b : Int) - 149)) (by omega)
  refine ⟨⟨u, _, w1, w2⟩, ?_⟩
  rw [w1, k1]
  have hp : (0 : Int) < ((2 ^ b : Nat) : Int) := by have := Nat.two_pow_pos b; omega
  by_cases hT : T = 0
  · rw [hT, Int.natAbs_zero, rung_zero, magOf_zero]
    have : sgn u 0 = 0 := by unfold sgn; split <;> rfl
    rw [this]; simp
  · rw [g3 hT]
    generalize ((2 ^ b : Nat) : Int) = P at *
    by_cases hn : T < 0
    · have := Int.mul_neg_of_neg_of_pos hn hp
      have e : decide (T < 0) = true := by simp [hn]
      rw [e]
      unfold sgn
      simp only [if_true]
      omega
    · have := Int.mul_pos (show 0 < T by omega) hp
      have e : decide (T < 0) = false := by simp [hn]
      rw [e]
      unfold sgn
      simp only [Bool.false_eq_true, if_false]
      omega
theorem addS {x y M A rc : Nat} (hx : FinS x) (hy : FinS y) (h : (V x + V y).natAbs ≤ M * 2 ^ A) (hR : rungOf single false M ((A : Int) - 149) = rc) (hc : rc < single.infRung) :
    Sb (fbin .add .f32 x y) rc ∧ (0 ≤ V x + V y → 0 ≤ V (fbin .add .f32 x y)) ∧ (V x + V y ≤ 0 → V (fbin .add .f32 x y) ≤ 0) := by
  obtain ⟨t, n, j, q1, q2⟩ := hy
  rw [q2] at h ⊢
  refine sumS (dy := .number t n (-149 + (j : Int))) hx ?_ rfl h hR hc
  obtain ⟨s, m, e, p1, p2⟩ := hx
  obtain ⟨u, T, b, g1, g2, g3⟩ := sum_exactG (c := -149) (s := s) (t := t) (m := m) (n := n) (e := e) (e2 := j)
  show _ = some ((Option.map single.write ((single.read x).sum (single.read y))).getD _)
  rw [p1, q1, g1]; rfl
theorem subS {x y M A rc : Nat} (hx : FinS x) (hy : FinS y) (h : (V x - V y).natAbs ≤ M * 2 ^ A) (hR : rungOf single false M ((A : Int) - 149) = rc) (hc : rc < single.infRung) :
    Sb (fbin .sub .f32 x y) rc ∧ (0 ≤ V x - V y → 0 ≤ V (fbin .sub .f32 x y)) ∧ (V x - V y ≤ 0 → V (fbin .sub .f32 x y) ≤ 0) := by
  obtain ⟨t, n, j, q1, q2⟩ := hy
  rw [q2, Int.sub_eq_add_neg, ← sgn_not] at h ⊢
  refine sumS (dy := .number (!t) n (-149 + (j : Int))) hx ?_ rfl h hR hc
  obtain ⟨s, m, e, p1, p2⟩ := hx
  obtain ⟨u, T, b, g1, g2, g3⟩ := sum_exactG (c := -149) (s := s) (t := !t) (m := m) (n := n) (e := e) (e2 := j)
  show _ = some ((Option.map single.write ((single.read x).sum (single.read y).opposite)).getD _)
  rw [p1, q1]
  show _ = some ((Option.map single.write ((Datum.number s m _).sum (.number (!t) n _))).getD _)
  rw [g1]; rfl
theorem mul_form {x y : Nat} {s t : Bool} {m n e j : Nat} (p1 : single.read x = .number s m (-149 + (e : Int))) (q1 : single.read y = .number t n (-149 + (j : Int))) : fbin .mul .f32 x y = single.nearest (s ^^ t) (m * n) (((e + j : Nat) : Int) - 298) := by
  show (Option.map single.write ((single.read x).product (single.read y))).getD _ = _
  rw [p1, q1]
  show single.nearest (s ^^ t) (m * n) _ = _
  congr 1; omega
theorem prod_mag {s t : Bool} {m n e j : Nat} : sgn s (m * 2 ^ e) * sgn t (n * 2 ^ j) = sgn (s ^^ t) (m * n * 2 ^ (e + j)) := by
  rw [← sgn_mul2]; congr 1; rw [Nat.pow_add]; ac_rfl
theorem mulS {x y M A rc : Nat} (hx : FinS x) (hy : FinS y) (h : (V x * V y).natAbs ≤ M * 2 ^ A) (hR : rungOf single false M ((A : Int) - 298) = rc) (hc : rc < single.infRung) :
    Sb (fbin .mul .f32 x y) rc ∧ (0 ≤ V x → 0 ≤ V y → 0 ≤ V (fbin .mul .f32 x y)) := by
  obtain ⟨s, m, e, p1, p2⟩ := hx
  obtain ⟨t, n, j, q1, q2⟩ := hy
  have hv : V x * V y = sgn (s ^^ t) (m * n * 2 ^ (e + j)) := by rw [p2, q2, prod_mag]
  rw [hv, sgn_natAbs] at h
  obtain ⟨w1, w2⟩ := near_word (s := s ^^ t) (c := 298) h hR hc
  rw [← mul_form p1 q1] at w1
  obtain ⟨_, k1, _⟩ := FinS.word (u := s ^^ t) (r := rungOf single (s ^^ t) (m * n) (((e + j : Nat) : Int) - 298)) (by omega)
  refine ⟨⟨_, _, w1, w2⟩, fun hx0 hy0 => ?_⟩
  rw [w1, k1]
  have h0 := Int.mul_nonneg hx0 hy0
  rw [hv] at h0
  cases hst : (s ^^ t)
  · unfold sgn; simp
  · rw [hst] at h0
    unfold sgn at h0
    simp only [if_true] at h0
    have hz : m * n * 2 ^ (e + j) = 0 := by omega
    have hmn : m * n = 0 := (Nat.mul_eq_zero.1 hz).resolve_right (Nat.ne_of_gt (Nat.two_pow_pos _))
    rw [hmn, rung_zero, magOf_zero]
    unfold sgn; simp
theorem sgn_le {a b : Bool} {P Q : Nat} (h : P ≤ Q) (h0 : 0 ≤ sgn b Q) : sgn a P ≤ sgn b Q := by
  unfold sgn at *
  cases a <;> cases b <;> simp only [Bool.false_eq_true, if_false, if_true] at * <;> omega
/-- Products keep the order. -/
theorem mulS_mono {x y z M A rc : Nat} (hx : FinS x) (hy : FinS y) (hz : FinS z) (hx0 : 0 ≤ V x) (hy0 : 0 ≤ V y) (hyz : V y ≤ V z) (h : (V x * V z).natAbs ≤ M * 2 ^ A) (hR : rungOf single false M ((A : Int) - 298) = rc) (hc : rc < single.infRung) :
    V (fbin .mul .f32 x y) ≤ V (fbin .mul .f32 x z) := by
  have hz0 : 0 ≤ V z := by omega
  have hb := (mulS hx hz h hR hc).2 hx0 hz0
  obtain ⟨s, m, e, p1, p2⟩ := hx
  obtain ⟨t, n, j, q1, q2⟩ := hy
  obtain ⟨t2, n2, j2, r1, r2⟩ := hz
  have hv : V x * V y = sgn (s ^^ t) (m * n * 2 ^ (e + j)) := by rw [p2, q2, prod_mag]
  have hv2 : V x * V z = sgn (s ^^ t2) (m * n2 * 2 ^ (e + j2)) := by rw [p2, r2, prod_mag]
  have hle : m * n * 2 ^ (e + j) ≤ m * n2 * 2 ^ (e + j2) := by
    have h1 := Int.mul_le_mul_of_nonneg_left hyz hx0
    have h2 := Int.mul_nonneg hx0 hy0
    have h3 := Int.mul_nonneg hx0 hz0
    have a1 := @sgn_natAbs (s ^^ t) (m * n * 2 ^ (e + j))
    have a2 := @sgn_natAbs (s ^^ t2) (m * n2 * 2 ^ (e + j2))
    rw [← hv] at a1
    rw [← hv2] at a2
    omega
  rw [hv2, sgn_natAbs] at h
  obtain ⟨w1, w2⟩ := near_word (s := s ^^ t2) (c := 298) h hR hc
  obtain ⟨w3, w4⟩ := near_word (s := s ^^ t) (c := 298) (Nat.le_trans hle h) hR hc
  have hm := rung_mono32 (s := s ^^ t) (t := s ^^ t2) (c := 298) hle
  rw [← mul_form p1 q1] at w3
  rw [← mul_form p1 r1] at w1
  obtain ⟨_, k1, _⟩ := FinS.word (u := s ^^ t2) (r := rungOf single (s ^^ t2) (m * n2) (((e + j2 : Nat) : Int) - 298)) (by omega)
  obtain ⟨_, k3, _⟩ := FinS.word (u := s ^^ t) (r := rungOf single (s ^^ t) (m * n) (((e + j : Nat) : Int) - 298)) (by omega)
  have hmm := magOf_le (f := single) hm
  rw [w1, k1] at hb ⊢
  rw [w3, k3]
  generalize magOf single (rungOf single (s ^^ t) (m * n) (((e + j : Nat) : Int) - 298)) = P at *
  generalize magOf single (rungOf single (s ^^ t2) (m * n2) (((e + j2 : Nat) : Int) - 298)) = Q at *
  exact sgn_le hmm hb
theorem V_two : V 1073741824 = 2 ^ 150 := by decide +kernel
theorem V_four : V 1082130432 = 2 ^ 151 := by decide +kernel
theorem V_one : V 1065353216 = 2 ^ 149 := by decide +kernel
theorem V_hlf : V 1056964608 = 2 ^ 148 := by decide +kernel
theorem fin_c {x : Nat} (hx : x < 2139095040) : FinS x := by
  obtain ⟨c1, c2, c3, c4⟩ := consts32
  have h := (FinS.word (u := false) (r := x) (by omega)).1
  have e : single.word false x = x := by unfold Format.word; simp
  rwa [e] at h
theorem mag_c1 : magOf single 1065353216 = 2 ^ 149 := by decide +kernel
theorem mag_c2 : magOf single 1065353215 = 2 ^ 149 - 2 ^ 125 := by decide +kernel
theorem mag_c3 : magOf single 1073741823 = 2 ^ 150 - 2 ^ 126 := by decide +kernel
theorem mag_c4 : magOf single 1073741824 = 2 ^ 150 := by decide +kernel
theorem mag_c5 : magOf single 1056964608 = 2 ^ 148 := by decide +kernel
theorem p24 : (2 : Nat) ^ 126 = 2 * 2 ^ 125 ∧ (2 : Nat) ^ 148 = 8388608 * 2 ^ 125 ∧ (2 : Nat) ^ 149 = 16777216 * 2 ^ 125 ∧ (2 : Nat) ^ 150 = 33554432 * 2 ^ 125 := by decide +kernel
theorem p24i : (2 : Int) ^ 148 = ((8388608 * 2 ^ 125 : Nat) : Int) ∧ (2 : Int) ^ 149 = ((16777216 * 2 ^ 125 : Nat) : Int) ∧ (2 : Int) ^ 150 = ((33554432 * 2 ^ 125 : Nat) : Int) := by decide +kernel
/-- A phase. -/
def Ph (x : Nat) : Prop := Sb x 1065353215 ∧ 0 ≤ V x
theorem Ph_of {x : Nat} (hx : CF x) (h : phB x = true) : Ph x := by
  obtain ⟨c1, c2, c3, c4⟩ := consts32
  unfold phB at h
  rw [Bool.and_eq_true] at h
  obtain ⟨hp, hq⟩ := h
  have hn : isNaN .f32 x = false := by
    cases hn : isNaN .f32 x
    · rfl
    · rw [cmp_nan1 hn (by decide)] at hp; cases hp
  have z0 : isNaN .f32 0 = false := by decide +kernel
  rw [geq32 hn z0] at hp
  rw [lss32 hn one_not.1] at hq
  have hp := of_decide_eq_true hp
  have hq := of_decide_eq_true hq
  have v0 : V 0 = 0 := by decide +kernel
  rw [v0] at hp
  have hV : V x = sgn (negOf single x) (magOf single (x % 2147483648)) := by rw [← c4]; rfl
  have hVa := @sgn_natAbs (negOf single x) (magOf single (x % 2147483648))
  rw [← hV] at hVa
  have h1 : V 1065353216 = ((magOf single 1065353216 : Nat) : Int) := V_pos (by decide)
  rw [h1] at hq
  have hl := magOf_lt_iff (f := single).1 (show magOf single (x % 2147483648) < magOf single 1065353216 by omega)
  exact ⟨Sb.of_CF hx.1 (by omega), hp⟩
theorem Ph.nums {x : Nat} (h : Ph x) : FinS x ∧ 0 ≤ V x ∧ V x ≤ ((16777215 * 2 ^ 125 : Nat) : Int) ∧ isNaN .f32 x = false := by
  obtain ⟨c1, c2, c3, c4⟩ := consts32
  obtain ⟨h1, h2⟩ := h
  obtain ⟨a, b, c⟩ := h1.fin (by omega)
  rw [mag_c2] at b
  have := p24
  refine ⟨a, h2, by omega, c⟩
theorem Ph.phB {x : Nat} (h : Ph x) : phB x = true := by
  obtain ⟨a, b, c, d⟩ := h.nums
  have z0 : isNaN .f32 0 = false := by decide +kernel
  have v0 : V 0 = 0 := by decide +kernel
  have hp := Nat.two_pow_pos 125
  unfold Go.E.phB
  rw [geq32 d z0, lss32 d one_not.1, v0, V_one, p24i.2.1, Bool.and_eq_true]
  exact ⟨decide_eq_true b, decide_eq_true (by omega)⟩
theorem Ph.on {p s : Nat} (hp : Ph p) (hs : Ph s) : Ph (onP p s) := by
  obtain ⟨c1, c2, c3, c4⟩ := consts32
  obtain ⟨a1, a2, a3, a4⟩ := hp.nums
  obtain ⟨b1, b2, b3, b4⟩ := hs.nums
  have q := p24
  have qi := p24i
  have hpos := Nat.two_pow_pos 125
  obtain ⟨k1, k2, _⟩ := addS (M := 16777215) (A := 126) (rc := 1073741823) a1 b1 (by rw [q.1]; omega) (by decide +kernel) (by omega)
  have k2 := k2 (by omega)
  obtain ⟨f1, f2, f3⟩ := k1.fin (by omega)
  rw [mag_c3] at f2
  unfold onP
  cases hg : fcmp .geq .f32 (fbin .add .f32 p s) 1065353216
  · rw [if_neg (by simp)]
    rw [geq32 f3 one_not.1, V_one] at hg
    have hg := of_decide_eq_false hg
    rw [qi.2.1] at hg
    refine ⟨?_, k2⟩
    obtain ⟨u, r, w1, w2⟩ := k1
    obtain ⟨_, g1, _⟩ := FinS.word (u := u) (r := r) (by omega)
    refine ⟨u, r, w1, ?_⟩
    have : magOf single r < magOf single 1065353216 := by
      have h2 := @sgn_natAbs u (magOf single r)
      rw [← g1, ← w1] at h2
      rw [mag_c1, q.2.2.1]; omega
    have := magOf_lt_iff.1 this
    omega
  · rw [if_pos rfl]
    rw [geq32 f3 one_not.1, V_one] at hg
    have hg := of_decide_eq_true hg
    rw [qi.2.1] at hg
    obtain ⟨l1, l2, _⟩ := subS (M := 8388607) (A := 126) (rc := 1065353214) f1 (fin_c (x := 1065353216) (by decide)) (by rw [V_one, qi.2.1, q.1]; omega) (by decide +kernel) (by omega)
    exact ⟨l1.mono (by decide), l2 (by rw [V_one, qi.2.1]; omega)⟩
theorem Ph.run {s p : Nat} (hs : Ph s) (hp : Ph p) : ∀ {i : Nat}, Ph (phT s p i)
  | 0 => hp
  | i + 1 => (Ph.run hs hp (i := i)).on hs
theorem Unit_wave {k : Int} {x : Nat} (hk : 0 ≤ k ∧ k ≤ 3) (hx : CF x) (hp : Ph x) : Unit32 (wave32 k x) := by
  obtain ⟨c1, c2, c3, c4⟩ := consts32
  obtain ⟨a1, a2, a3, a4⟩ := hp.nums
  have q := p24
  have qi := p24i
  have hpos := Nat.two_pow_pos 125
  have hphi := hp.phB
  unfold phB at hphi
  rw [Bool.and_eq_true] at hphi
  rcases (show k = 0 ∨ k = 1 ∨ k = 2 ∨ k = 3 by omega) with rfl | rfl | rfl | rfl
  · rw [wave_0]; exact Unit_sine hx hphi.1 hphi.2
  · rw [wave_1]
    have hm : (V 1073741824 * V x).natAbs ≤ 1 * 2 ^ 299 := by
      rw [V_two, Int.natAbs_mul]
      have e1 : ((2 : Int) ^ 150).natAbs = 2 ^ 150 := by decide +kernel
      have e2 : (V x).natAbs ≤ 2 ^ 149 := by rw [q.2.2.1]; omega
      rw [e1]
      exact Nat.le_trans (Nat.mul_le_mul_left _ e2) (by decide +kernel)
    obtain ⟨k1, k2⟩ := mulS (rc := 1073741824) (fin_c (x := 1073741824) (by decide)) a1 hm (by decide +kernel) (by omega)
    have k2 := k2 (by rw [V_two]; decide) a2
    obtain ⟨f1, f2, f3⟩ := k1.fin (by omega)
    rw [mag_c4] at f2
    obtain ⟨l1, _, _⟩ := subS (M := 1) (A := 149) (rc := 1065353216) f1 (fin_c (x := 1065353216) (by decide)) (by rw [V_one, qi.2.1, q.2.2.1]; omega) (by decide +kernel) (by omega)
    exact l1.unit
  · rw [wave_2]
    split
    · exact ⟨one_not.1, Nat.le_refl _, by decide⟩
    · exact ⟨one_not.2, by rw [V_mone, Int.natAbs_neg]; exact Nat.le_refl _, by decide⟩
  · rw [wave_3]
    obtain ⟨l1, _, _⟩ := subS (M := 1) (A := 148) (rc := 1056964608) a1 (fin_c (x := 1056964608) (by decide)) (by rw [V_hlf, qi.1, q.2.1]; omega) (by decide +kernel) (by omega)
    have hab : Sb (fabs (fbin .sub .f32 x 1056964608)) 1056964608 ∧ 0 ≤ V (fabs (fbin .sub .f32 x 1056964608)) := by
      obtain ⟨u, r, w1, w2⟩ := l1
      rw [w1]
      have hp := word_parts single u (r := r) (by omega)
      obtain ⟨_, g1, g2⟩ := FinS.word (u := u) (r := r) (by omega)
      have e : fabs (single.word u r) = single.word false r := by
        unfold fabs
        rw [g2]
        rw [c4] at hp
        simp only [Bool.false_eq_true, if_false]
        rw [hp.1]; unfold Format.word; simp
      rw [e]
      obtain ⟨_, g3, _⟩ := FinS.word (u := false) (r := r) (by omega)
      exact ⟨⟨false, r, rfl, w2⟩, by rw [g3]; unfold sgn; simp⟩
    obtain ⟨h1, h2⟩ := hab
    obtain ⟨f1, f2, f3⟩ := h1.fin (by omega)
    rw [mag_c5] at f2
    generalize fabs (fbin .sub .f32 x 1056964608) = y at *
    have hm : (V 1082130432 * V y).natAbs ≤ 1 * 2 ^ 299 := by
      rw [V_four, Int.natAbs_mul]
      have e1 : ((2 : Int) ^ 151).natAbs = 2 ^ 151 := by decide +kernel
      rw [e1]
      exact Nat.le_trans (Nat.mul_le_mul_left _ f2) (by decide +kernel)
    obtain ⟨k1, k2⟩ := mulS (rc := 1073741824) (fin_c (x := 1082130432) (by decide)) f1 hm (by decide +kernel) (by omega)
    have k2 := k2 (by rw [V_four]; decide) h2
    obtain ⟨e1, e2, e3⟩ := k1.fin (by omega)
    rw [mag_c4] at e2
    obtain ⟨n1, _, _⟩ := subS (M := 1) (A := 149) (rc := 1065353216) e1 (fin_c (x := 1065353216) (by decide)) (by rw [V_one, qi.2.1, q.2.2.1]; omega) (by decide +kernel) (by omega)
    exact n1.unit
end Go.E
