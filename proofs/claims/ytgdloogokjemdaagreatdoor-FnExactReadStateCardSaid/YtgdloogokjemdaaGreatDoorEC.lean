/- Facts of floats: a float32 is a float64 without loss of its size; what is equal to itself. Plain theorems on the model's floats; no condition. -/
import Derived.Test.YtgdloogokjemdaaGreatDoorEB
set_option linter.unusedVariables false
set_option linter.unusedSimpArgs false
namespace Go.E
open Go Ieee

theorem cut_none (neg : Bool) (n : Nat) : Toward.even.cut neg n 0 = n := by
  simp [Toward.cut, Nat.mod_one]
theorem read_small (f : Format) (neg : Bool) (r : Nat) (h : r < f.infRung) : (f.read (f.word neg r)).isInfinity = false := by
  have hs := f.infRung_lt
  have h2 : (f.word neg r) % f.signWeight = r := by
    unfold Format.word; split
    · rw [Nat.add_mod, Nat.mod_self, Nat.zero_add, Nat.mod_mod, Nat.mod_eq_of_lt (Nat.lt_trans h hs)]
    · exact Nat.mod_eq_of_lt (Nat.lt_trans h hs)
  unfold Format.read
  simp only [h2]
  split
  · rfl
  · rfl
theorem widen_fin (s : Bool) (m : Nat) (e : Int) (hm : m < 2 ^ 24) (h1 : -149 ≤ e) (h2 : e ≤ 104) : (FloatKind.f64.format.read (FloatKind.f64.format.nearest s m e)).isInfinity = false := by
  show (double.read (double.nearest s m e)).isInfinity = false
  unfold Format.nearest
  split
  · exact read_small _ _ _ (by decide +kernel)
  · rename_i h0
    have hL : m.log2 ≤ 23 := by
      have := (Nat.log2_lt h0 (k := 24)).2 hm
      omega
    have hlp : double.leastPlace = -1074 := by decide +kernel
    have hfb : (double.fractionBits : Int) = 52 := rfl
    have hlast : max (e + (m.log2 : Int) - (double.fractionBits : Int)) double.leastPlace = e + m.log2 - 52 := by rw [hlp, hfb]; omega
    simp only [hlast]
    have d0 : (e + (m.log2 : Int) - 52 - e).toNat = 0 := by omega
    have d1 : (e - (e + (m.log2 : Int) - 52)).toNat = 52 - m.log2 := by omega
    rw [d0, cut_none, d1, hlp]
    apply read_small
    have hk : m <<< (52 - m.log2) < 2 ^ 53 := by
      rw [Nat.shiftLeft_eq]
      have ha : m < 2 ^ (m.log2 + 1) := Nat.lt_log2_self
      calc m * 2 ^ (52 - m.log2) < 2 ^ (m.log2 + 1) * 2 ^ (52 - m.log2) := Nat.mul_lt_mul_of_pos_right ha (Nat.two_pow_pos _)
        _ = 2 ^ 53 := by rw [← Nat.pow_add]; congr 1; omega
    have hb : double.binade = 2 ^ 52 := rfl
    have hi : double.infRung = 2047 * 2 ^ 52 := by decide +kernel
    have hr : (e + (m.log2 : Int) - 52 - -1074).toNat ≤ 1149 := by omega
    have hx : (e + (m.log2 : Int) - 52 - -1074).toNat * 2 ^ 52 ≤ 1149 * 2 ^ 52 := Nat.mul_le_mul_right _ hr
    rw [hb, hi]
    exact Nat.lt_of_le_of_lt (Nat.min_le_left _ _) (Nat.lt_of_le_of_lt (Nat.add_le_add hx (Nat.le_of_lt hk)) (show 1149 * 2 ^ 52 + 2 ^ 53 < 2047 * 2 ^ 52 by decide))
theorem read_f32 (x : Nat) : match FloatKind.f32.format.read x with | .number _ m e => m < 2 ^ 24 ∧ -149 ≤ e ∧ e ≤ 104 | _ => True := by
  show match single.read x with | .number _ m e => m < 2 ^ 24 ∧ -149 ≤ e ∧ e ≤ 104 | _ => True
  have hlp : single.leastPlace = -149 := by decide +kernel
  have hb : single.binade = 2 ^ 23 := rfl
  have hi : single.infRung = 255 * 2 ^ 23 := by decide +kernel
  unfold Format.read
  simp only [hlp, hb, hi]
  generalize hr : x % single.signWeight = r
  split
  · rename_i heq
    split at heq
    · injection heq with e1 e2 e3; subst e2; subst e3; omega
    · split at heq
      · injection heq with e1 e2 e3; subst e2; subst e3
        have := Nat.mod_lt r (show 0 < 2 ^ 23 by decide)
        have h3 : r / 2 ^ 23 < 255 := Nat.div_lt_of_lt_mul (by omega)
        omega
      · split at heq <;> cases heq
  · trivial
/-- A float32 as a float64. -/
def wid (x : Nat) : Nat := (fconv .f32 .f64 x).getD 0
@[simp] theorem fconv_wid (x : Nat) : fconv .f32 .f64 x = some (wid x) := by
  have key : (fconv .f32 .f64 x).isSome := by
    unfold fconv
    rw [if_neg (by decide)]
    split
    · rfl
    · rename_i hn
      unfold floatToFloatBits
      rw [if_neg (by decide)]
      have hf := read_f32 x
      unfold isNaN at hn
      unfold FloatKind.decode
      cases hd : FloatKind.f32.format.read x with
      | nan s t => rw [hd] at hn; exact (hn rfl).elim
      | infinity s => rfl
      | number s m e =>
        rw [hd] at hf
        simp only []
        have := widen_fin s m e hf.1 hf.2.1 hf.2.2
        unfold FloatKind.encode Format.write
        simp only [this]
        rfl
  unfold wid
  cases h : fconv .f32 .f64 x with
  | none => rw [h] at key; cases key
  | some y => rfl
theorem compare_self' (n : Int) : compare n n = .eq := by simp
theorem order_self {k : FloatKind} {x : Nat} (h : isNaN k x = false) : k.format.order x x = some .eq := by
  unfold isNaN at h
  unfold Format.order
  cases hd : k.format.read x with
  | nan s t => rw [hd] at h; cases h
  | infinity s => simp [Datum.order]
  | number s m e => simp [Datum.order]
theorem fcmp_neq {k : FloatKind} {x y : Nat} : fcmp .neq k x y = !fcmp .eql k x y := (rfl)
theorem fcmp_self_nan {k : FloatKind} {x : Nat} (h : isNaN k x = true) : fcmp .eql k x x = false := by unfold fcmp; rw [order_nan1 h]; rfl
theorem fcmp_self {k : FloatKind} {x : Nat} (h : isNaN k x = false) : fcmp .eql k x x = true := by unfold fcmp; rw [order_self h]; rfl
end Go.E
