/- Facts of floats: a number may be written at any place; half of a number. Plain theorems on the model's floats; no condition. -/
import Derived.Test.YtgdloogokjemdaaGreatDoorEC
set_option linter.unusedVariables false
set_option linter.unusedSimpArgs false
namespace Go.E
open Go Ieee

theorem log2_shift {m a : Nat} (hm : m ≠ 0) : (m * 2 ^ a).log2 = m.log2 + a := by
  have h1 := Nat.log2_self_le hm
  have h2 : m < 2 ^ (m.log2 + 1) := Nat.lt_log2_self
  have hp : 0 < 2 ^ a := Nat.two_pow_pos a
  have hne : m * 2 ^ a ≠ 0 := Nat.mul_ne_zero hm (by omega)
  have h3 : 2 ^ (m.log2 + a) ≤ m * 2 ^ a := by rw [Nat.pow_add]; exact Nat.mul_le_mul_right _ h1
  have h4 : m * 2 ^ a < 2 ^ (m.log2 + a + 1) := by
    have e : m.log2 + a + 1 = (m.log2 + 1) + a := by omega
    rw [e, Nat.pow_add]; exact Nat.mul_lt_mul_of_pos_right h2 hp
  have h5 := (Nat.le_log2 hne).2 h3
  have h6 := (Nat.log2_lt hne).2 h4
  omega
theorem cut_shift (neg : Bool) {n b d : Nat} (hn : n ≠ 0) : Toward.even.cut neg (n * 2 ^ b) (d + b) = Toward.even.cut neg n d := by
  have hp : 0 < 2 ^ b := Nat.two_pow_pos b
  unfold Toward.cut
  simp only [log2_shift hn]
  have e : min (d + b) (n.log2 + b + 2) = min d (n.log2 + 2) + b := by omega
  rw [e]
  generalize min d (n.log2 + 2) = g
  have eg : 1 <<< (g + b) = (1 <<< g) * 2 ^ b := by simp [Nat.shiftLeft_eq, Nat.pow_add]
  rw [eg]
  generalize 1 <<< g = w
  rw [Nat.mul_div_mul_right _ _ hp, Nat.mul_mod_mul_right]
  generalize n % w = r
  generalize n / w = q
  have c1 : (w * 2 ^ b < 2 * (r * 2 ^ b)) ↔ (w < 2 * r) := by
    rw [← Nat.mul_assoc]; exact Nat.mul_lt_mul_right hp
  have c2 : (w * 2 ^ b = 2 * (r * 2 ^ b)) ↔ (w = 2 * r) := by
    rw [← Nat.mul_assoc]; exact Nat.mul_right_cancel_iff hp
  simp only [decide_eq_decide.2 c1]
  congr 2
  have : (w * 2 ^ b == 2 * (r * 2 ^ b)) = (w == 2 * r) := by
    rw [Bool.eq_iff_iff]; simp only [beq_iff_eq]; exact c2
  rw [this]
/-- A number may be written at any place. -/
theorem nearest_scale (f : Format) (neg : Bool) (m a : Nat) (p : Int) : f.nearest neg (m * 2 ^ a) (p - a) = f.nearest neg m p := by
  by_cases hm : m = 0
  · subst hm; simp [Format.nearest]
  · have hp : 0 < 2 ^ a := Nat.two_pow_pos a
    have hne : m * 2 ^ a ≠ 0 := Nat.mul_ne_zero hm (by omega)
    unfold Format.nearest
    rw [if_neg hm, if_neg hne]
    simp only [log2_shift hm]
    have e : (p - (a : Int) + ((m.log2 + a : Nat) : Int) - (f.fractionBits : Int)) = (p + (m.log2 : Int) - (f.fractionBits : Int)) := by omega
    rw [e]
    generalize max (p + (m.log2 : Int) - (f.fractionBits : Int)) f.leastPlace = last
    have key : Toward.even.cut neg ((m * 2 ^ a) <<< (p - ↑a - last).toNat) (last - (p - ↑a)).toNat = Toward.even.cut neg (m <<< (p - last).toNat) (last - p).toNat := by
      by_cases h1 : (a : Int) ≤ p - last
      · have e1 : (p - last).toNat = a + (p - ↑a - last).toNat := by omega
        have e2 : (last - (p - ↑a)).toNat = 0 := by omega
        have e3 : (last - p).toNat = 0 := by omega
        rw [e1, e2, e3]
        simp only [Nat.shiftLeft_eq, Nat.pow_add, Nat.mul_assoc]
      · have e1 : (p - ↑a - last).toNat = 0 := by omega
        rw [e1]
        by_cases h2 : p - last ≤ 0
        · have e2 : (p - last).toNat = 0 := by omega
          have e3 : (last - (p - ↑a)).toNat = (last - p).toNat + a := by omega
          rw [e2, e3]
          simp only [Nat.shiftLeft_zero]
          exact cut_shift neg hm
        · have e2 : (last - p).toNat = 0 := by omega
          have e3 : (last - (p - ↑a)).toNat = 0 + (a - (p - last).toNat) := by omega
          rw [e2, e3]
          have e4 : m * 2 ^ a = (m <<< (p - last).toNat) * 2 ^ (a - (p - last).toNat) := by
            rw [Nat.shiftLeft_eq, Nat.mul_assoc, ← Nat.pow_add]; congr 2; omega
          simp only [Nat.shiftLeft_zero]
          rw [e4]
          exact cut_shift neg (by rw [Nat.shiftLeft_eq]; exact Nat.mul_ne_zero hm (by have := Nat.two_pow_pos (p - last).toNat; omega))
    rw [key]
def halfF : Nat := 1056964608
def twoF : Nat := 1073741824
/-- A product with 1/2 is a quotient by 2. -/
theorem mul_half (x : Nat) : fbin .mul .f32 x halfF = fbin .quo .f32 x twoF := by
  have hh : single.read halfF = .number false (2 ^ 23) (-24) := by decide +kernel
  have ht : single.read twoF = .number false (2 ^ 23) (-22) := by decide +kernel
  unfold fbin floatBits
  simp only []
  congr 1
  show Format.mul single x halfF = Format.div single x twoF
  unfold Format.mul Format.div
  rw [hh, ht]
  have hx := read_f32 x
  change (match single.read x with | .number _ m e => m < 2 ^ 24 ∧ -149 ≤ e ∧ e ≤ 104 | _ => True) at hx
  cases hd : single.read x with
  | nan s t => rfl
  | infinity s => simp [Datum.product, Datum.quotient]
  | number s m e =>
    rw [hd] at hx
    simp only [Datum.product, Datum.quotient]
    rw [if_neg (by decide)]
    simp only [Option.map_some, Format.write, Option.some.injEq]
    have hl : (2 ^ 23 : Nat).log2 = 23 := by decide
    have hf : single.fractionBits = 23 := rfl
    rw [hl, hf]
    have hL : m.log2 ≤ 23 := by
      by_cases h0 : m = 0
      · subst h0; decide
      · have := (Nat.log2_lt h0 (k := 24)).2 hx.1; omega
    generalize hM : 23 + 2 + 23 - m.log2 = M
    have hM2 : 25 ≤ M := by omega
    have e1 : m <<< M = (m * 2 ^ (M - 23)) * 2 ^ 23 := by
      rw [Nat.shiftLeft_eq, Nat.mul_assoc, ← Nat.pow_add]; congr 2; omega
    rw [e1, Nat.mul_div_cancel _ (by decide), Nat.mul_mod_left]
    have e2 : 2 * (m * 2 ^ (M - 23)) + ((0 : Nat) != 0).toNat = m * 2 ^ (M - 22) := by
      have : M - 22 = (M - 23) + 1 := by omega
      rw [this, Nat.pow_succ]
      simp; rw [Nat.mul_comm, Nat.mul_assoc]
    rw [e2]
    have s1 := nearest_scale single (s ^^ false) m 23 (e - 1)
    have s2 := nearest_scale single (s ^^ false) m (M - 22) (e - 1)
    have p1 : e + -24 = e - 1 - ((23 : Nat) : Int) := by omega
    have p2 : e - -22 - (M : Int) - 1 = e - 1 - ((M - 22 : Nat) : Int) := by omega
    rw [p1, p2, s1, s2]
end Go.E
