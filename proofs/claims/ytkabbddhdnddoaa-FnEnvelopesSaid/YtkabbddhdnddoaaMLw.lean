/- Levels of envelopes as the law draws them: from 0 to 1, rising, then falling. Plain lemmas. -/
import Derived.Test.YtkabbddhdnddoaaMWb
import Derived.Test.YtkabbddhdnddoaaMRn
set_option linter.unusedVariables false
set_option linter.unusedSimpArgs false
set_option exponentiation.threshold 3000
namespace Go.E
open Go Ieee
def shN (n a : Nat) : Nat := fbin .quo .f32 (fofint .f32 n) (fofint .f32 a)
def susN (v : Nat) : Nat := fbin .quo .f32 (fofint .f32 v) 1098907648
def decN (d v k : Nat) : Nat := fbin .sub .f32 1065353216 (fbin .mul .f32 (shN k d) (fbin .sub .f32 1065353216 (susN v)))
def relN (r k : Nat) : Nat := fbin .sub .f32 1065353216 (shN k r)
theorem sh_le : ∀ a : Nat, a < 10 → ∀ n : Nat, n < a → shN n a ≤ 1065353216 := by decide +kernel
theorem sh_up : ∀ a : Nat, a < 10 → ∀ n : Nat, n < a → shN (n - 1) a ≤ shN n a := by decide +kernel
theorem sus_le : ∀ v : Nat, v < 17 → susN v ≤ 1065353216 := by decide +kernel
theorem dec_le : ∀ d : Nat, d < 8 → ∀ v : Nat, v < 17 → ∀ k : Nat, k < d → decN d v k ≤ 1065353216 ∧ (if k + 1 < d then decN d v (k + 1) else susN v) ≤ decN d v k := by decide +kernel
theorem rel_le : ∀ r : Nat, r < 10 → ∀ k : Nat, k < r → relN r k ≤ 1065353216 ∧ (k + 1 < r → relN r (k + 1) ≤ relN r k) := by decide +kernel
/-- A level: from 0 to 1. -/
def Lvl (x : Nat) : Prop := Sb x 1065353216 ∧ 0 ≤ V x
theorem Lvl_of {x : Nat} (h : x ≤ 1065353216) : Lvl x := by
  refine ⟨Sb.of_CF (by omega) (by omega), ?_⟩
  rw [V_pos (by omega)]; omega
theorem V_bits {x y : Nat} (h : x ≤ y) (hy : y ≤ 1065353216) : V x ≤ V y := by
  rw [V_pos (by omega), V_pos (by omega)]
  have := magOf_le (f := single) h
  omega
theorem Lvl.nums {x : Nat} (h : Lvl x) : FinS x ∧ 0 ≤ V x ∧ V x ≤ 2 ^ 149 ∧ isNaN .f32 x = false := by
  obtain ⟨c1, c2, c3, c4⟩ := consts32
  obtain ⟨a, b, c⟩ := h.1.fin (by omega)
  rw [mag_c1] at b
  have e149 : ((2 : Int) ^ 149) = ((2 ^ 149 : Nat) : Int) := rfl
  refine ⟨a, h.2, ?_, c⟩
  rw [e149]; omega
theorem prod_le {x y : Int} (hx : 0 ≤ x ∧ x ≤ 2 ^ 149) (hy : 0 ≤ y ∧ y ≤ 2 ^ 149) : (x * y).natAbs ≤ 1 * 2 ^ 298 := by
  have e149 : ((2 : Int) ^ 149) = ((2 ^ 149 : Nat) : Int) := rfl
  rw [e149] at hx hy
  rw [Int.natAbs_mul]
  exact Nat.le_trans (Nat.mul_le_mul (show x.natAbs ≤ 2 ^ 149 by omega) (show y.natAbs ≤ 2 ^ 149 by omega)) (by decide +kernel)
theorem Lvl.mul {x y : Nat} (hx : Lvl x) (hy : Lvl y) : Lvl (fbin .mul .f32 x y) := by
  obtain ⟨c1, c2, c3, c4⟩ := consts32
  obtain ⟨a1, a2, a3, _⟩ := hx.nums
  obtain ⟨b1, b2, b3, _⟩ := hy.nums
  obtain ⟨k1, k2⟩ := mulS (rc := 1065353216) a1 b1 (prod_le ⟨a2, a3⟩ ⟨b2, b3⟩) (by decide +kernel) (by omega)
  exact ⟨k1, k2 a2 b2⟩
theorem Lvl.mono {x y z : Nat} (hx : Lvl x) (hy : Lvl y) (hz : Lvl z) (h : V y ≤ V z) : V (fbin .mul .f32 x y) ≤ V (fbin .mul .f32 x z) := by
  obtain ⟨c1, c2, c3, c4⟩ := consts32
  obtain ⟨a1, a2, a3, _⟩ := hx.nums
  obtain ⟨b1, b2, b3, _⟩ := hy.nums
  obtain ⟨d1, d2, d3, _⟩ := hz.nums
  exact mulS_mono (rc := 1065353216) a1 b1 d1 a2 b2 h (prod_le ⟨a2, a3⟩ ⟨d2, d3⟩) (by decide +kernel) (by omega)
theorem rung_mag {r : Nat} (h : r < single.infRung) : rungOf single false (magOf single r) (((0 : Nat) : Int) - 149) = r := by
  obtain ⟨c1, c2, c3, c4⟩ := consts32
  have h1 := nearest_mag single false h
  rw [c3, nearest_rung] at h1
  have h2 := (word_parts single false (r := min (rungOf single false (magOf single r) (-149)) single.infRung) (by omega)).1
  have h3 := (word_parts single false (r := r) (by omega)).1
  rw [h1, h3] at h2
  have e : (((0 : Nat) : Int) - 149) = -149 := by omega
  rw [e]; omega
/-- A share of a level is not above it. -/
theorem Lvl.part {x y : Nat} (hx : Lvl x) (hy : Lvl y) : V (fbin .mul .f32 x y) ≤ V x := by
  obtain ⟨c1, c2, c3, c4⟩ := consts32
  obtain ⟨a1, a2, a3, _⟩ := hx.nums
  obtain ⟨b1, b2, b3, _⟩ := hy.nums
  obtain ⟨⟨u, r, hw, hr⟩, h0⟩ := hx
  obtain ⟨_, g1, _⟩ := FinS.word (u := u) (r := r) (by omega)
  have hv : (V x).natAbs = magOf single r := by rw [hw, g1, sgn_natAbs]
  have hR : rungOf single false (magOf single r) (((149 : Nat) : Int) - 298) = r := by
    have := rung_mag (r := r) (by omega)
    rwa [show (((0 : Nat) : Int) - 149) = ((149 : Nat) : Int) - 298 by omega] at this
  have e149 : ((2 : Int) ^ 149) = ((2 ^ 149 : Nat) : Int) := rfl
  rw [e149] at b3
  obtain ⟨k1, k2⟩ := mulS (rc := r) a1 b1 (M := magOf single r) (A := 149) (by rw [Int.natAbs_mul, hv]; exact Nat.mul_le_mul_left _ (by omega)) hR (by omega)
  have k2 := k2 a2 b2
  obtain ⟨_, k3, _⟩ := k1.fin (by omega)
  omega
theorem sh_Lvl {a n : Nat} (ha : a < 10) (hn : n < a) : Lvl (shN n a) := Lvl_of (sh_le a ha n hn)
theorem rel_Lvl {r k : Nat} (hr : r < 10) (hk : k < r) : Lvl (relN r k) := Lvl_of (rel_le r hr k hk).1
section
variable {a d v r u n : Nat}
theorem hold_at (n : Nat) : holdF a d (susN v) n = if n < a then shN n a else if n - a < d then decN d v (n - a) else susN v := by
  unfold holdF
  by_cases h1 : n < a
  · rw [if_pos (by omega), if_pos h1]; rfl
  · rw [if_neg (by omega), if_neg h1]
    have e : (n : Int) - (a : Int) = ((n - a : Nat) : Int) := by omega
    rw [e]
    by_cases h2 : n - a < d
    · rw [if_pos (by omega), if_pos h2]; rfl
    · rw [if_neg (by omega), if_neg h2]
theorem hold_le (ha : a < 8) (hd : d < 8) (hv : v < 17) (n : Nat) : holdF a d (susN v) n ≤ 1065353216 := by
  rw [hold_at]
  split
  · exact sh_le a (by omega) n (by assumption)
  · split
    · exact (dec_le d hd v hv _ (by assumption)).1
    · exact sus_le v hv
/-- It falls after the attack. -/
theorem hold_fall (ha : a < 8) (hd : d < 8) (hv : v < 17) (h : a < n) : holdF a d (susN v) n ≤ holdF a d (susN v) ((n - 1 : Nat) : Int) := by
  rw [hold_at, hold_at, if_neg (show ¬ n < a by omega), if_neg (show ¬ n - 1 < a by omega)]
  have e : n - a = n - 1 - a + 1 := by omega
  rw [e]
  by_cases h1 : n - 1 - a < d
  · have := (dec_le d hd v hv _ h1).2
    rw [if_pos h1]; exact this
  · rw [if_neg h1, if_neg (by omega)]; exact Nat.le_refl _
theorem lev_at (n : Nat) : levF a d (susN v) r u n = if n < u then holdF a d (susN v) n else if r ≤ n - u then 0 else fbin .mul .f32 (holdF a d (susN v) u) (relN r (n - u)) := by
  unfold levF
  by_cases h1 : n < u
  · rw [if_pos (by omega), if_pos h1]
  · rw [if_neg (by omega), if_neg h1]
    have e : (n : Int) - (u : Int) = ((n - u : Nat) : Int) := by omega
    rw [e]
    by_cases h2 : r ≤ n - u
    · rw [if_pos (by omega), if_pos h2]
    · rw [if_neg (by omega), if_neg h2]; rfl
theorem lev_Lvl (ha : a < 8) (hd : d < 8) (hv : v < 17) (hr : r < 10) (n : Nat) : Lvl (levF a d (susN v) r u n) := by
  rw [lev_at]
  split
  · exact Lvl_of (hold_le ha hd hv n)
  · split
    · exact Lvl_of (by decide)
    · exact (Lvl_of (hold_le ha hd hv u)).mul (rel_Lvl hr (by omega))
theorem lev_rise (ha : a < 8) (hd : d < 8) (hv : v < 17) (h1 : n < u) (h2 : n < a) (h3 : 0 < n) : V (levF a d (susN v) r u ((n - 1 : Nat) : Int)) ≤ V (levF a d (susN v) r u n) := by
  rw [lev_at, lev_at, if_pos h1, if_pos (by omega), hold_at, hold_at, if_pos h2, if_pos (by omega)]
  exact V_bits (sh_up a (by omega) n h2) (sh_le a (by omega) n h2)
theorem lev_fall (ha : a < 8) (hd : d < 8) (hv : v < 17) (hr : r < 10) (h3 : 0 < n) (h : u < n ∨ a < n) : V (levF a d (susN v) r u n) ≤ V (levF a d (susN v) r u ((n - 1 : Nat) : Int)) := by
  have v0 : V 0 = 0 := by decide +kernel
  rcases Nat.lt_or_ge n u with q | q
  · rw [lev_at, lev_at, if_pos q, if_pos (by omega)]
    exact V_bits (hold_fall ha hd hv (by omega)) (hold_le ha hd hv _)
  · have hl := (lev_Lvl (u := u) ha hd hv hr (n - 1)).2
    rcases Nat.lt_or_ge (n - 1) u with q2 | q2
    · -- the first of the release
      have e : n = u := by omega
      subst e
      rw [lev_at n, if_neg (by omega)]
      split
      · rw [v0]; exact hl
      · rw [lev_at, if_pos q2]
        have k1 := (Lvl_of (hold_le ha hd hv n)).part (rel_Lvl (k := n - n) hr (by omega))
        have k2 := V_bits (hold_fall (n := n) ha hd hv (by omega)) (hold_le ha hd hv _)
        omega
    · rw [lev_at n, if_neg (by omega)]
      split
      · rw [v0]; exact hl
      · rename_i k3
        rw [lev_at, if_neg (by omega), if_neg (by omega)]
        have e : n - u = n - 1 - u + 1 := by omega
        refine (Lvl_of (hold_le ha hd hv u)).mono (rel_Lvl hr (by omega)) (rel_Lvl hr (by omega)) ?_
        have h4 := (rel_le r hr (n - 1 - u) (by omega))
        rw [e]
        exact V_bits (h4.2 (by omega)) h4.1
theorem lev_end (h : u + r ≤ n) : levF a d (susN v) r u n = 0 := by
  rw [lev_at, if_neg (by omega), if_pos (by omega)]
end
theorem Unit32.sb {x : Nat} (h : Unit32 x) : Sb x 1065353216 := by
  obtain ⟨c1, c2, c3, c4⟩ := consts32
  obtain ⟨h1, h2, h3⟩ := h
  refine Sb.of_CF h3 ?_
  have hV : V x = sgn (negOf single x) (magOf single (x % 2147483648)) := by rw [← c4]; rfl
  rw [hV, sgn_natAbs, V_pos (by decide), Int.natAbs_natCast] at h2
  apply Nat.le_of_not_lt
  intro hl
  have := magOf_lt (f := single) hl
  omega
theorem Sb.mul_unit {x y : Nat} (hx : Sb x 1065353216) (hy : Sb y 1065353216) : Sb (fbin .mul .f32 x y) 1065353216 := by
  obtain ⟨c1, c2, c3, c4⟩ := consts32
  obtain ⟨a1, a2, _⟩ := hx.fin (by omega)
  obtain ⟨b1, b2, _⟩ := hy.fin (by omega)
  rw [mag_c1] at a2 b2
  refine (mulS (M := 1) (A := 298) (rc := 1065353216) a1 b1 ?_ (by decide +kernel) (by omega)).1
  rw [Int.natAbs_mul]
  exact Nat.le_trans (Nat.mul_le_mul a2 b2) (by decide +kernel)
theorem steps_ok : ∀ p : Nat, p < 128 → phB (step32 p) = true ∧ step32 p < 4294967296 := by decide +kernel
end Go.E
