/- Bits of numbers, flushing, absolute values. -/
import Derived.Test.YtmmmpgggnfommaaMA
import Derived.Test.YtmmmpgggnfommaaEH
import Derived.Test.YtmmmpgggnfommaaEK
set_option linter.unusedVariables false
set_option linter.unusedSimpArgs false
namespace Go.E
open Go

class HasFb (S : Sys) : Prop where

def L19 : LFn := ⟨1, (.seq (.reg [⟨(.some 2), (.mv (.c (.lf (.bool false)))), none⟩])
 (.seq (.reg [⟨(.some 3), (.mv (.t 0)), none⟩, ⟨(.some 4), (.bin .neq (.t 3) (.c (.lf (.flt .f32 0)))), none⟩, ⟨(.some 5), (.mv (.t 4)), none⟩, ⟨(.some 6), (.mv (.t 0)), (.some (5, true))⟩, ⟨(.some 7), (.bin .lss (.t 6) (.c (.lf (.flt .f32 8388608)))), (.some (5, true))⟩, ⟨(.some 8), (.pick (.t 5) (.t 7) (.c (.lf (.bool false)))), none⟩, ⟨(.some 9), (.mv (.t 8)), none⟩, ⟨(.some 10), (.mv (.t 0)), (.some (9, true))⟩, ⟨(.some 11), (.bin .gtr (.t 10) (.c (.lf (.flt .f32 2155872256)))), (.some (9, true))⟩, ⟨(.some 12), (.pick (.t 9) (.t 11) (.c (.lf (.bool false)))), none⟩, ⟨(.some 2), (.mv (.t 12)), none⟩])
 .ret)), [(.tmp 2)]⟩
def L18 : LFn := ⟨1, (.seq (.reg [⟨(.some 2), (.mv (.c (.lf (.flt .f32 0)))), none⟩])
 (.seq (.seq (.reg [⟨(.some 3), (.mv (.t 0)), none⟩, ⟨(.some 4), (.call true 19 [(.t 3)]), none⟩, ⟨(.some 5), (.una .not (.t 4)), none⟩])
 (.cond (.t 5) (.seq (.reg [⟨(.some 6), (.mv (.t 0)), none⟩, ⟨(.some 2), (.mv (.t 6)), none⟩])
 .ret) .skip))
 (.seq (.reg [⟨(.some 7), (.mv (.t 0)), none⟩, ⟨(.some 8), (.toflt .f64 (.t 7)), none⟩, ⟨(.some 9), (.call true 20 [(.c (.lf (.flt .f64 0))), (.t 8)]), none⟩, ⟨(.some 10), (.toflt .f32 (.t 9)), none⟩, ⟨(.some 2), (.mv (.t 10)), none⟩])
 .ret))), [(.tmp 2)]⟩
def L20 : LFn := ⟨2, (.seq (.reg [⟨(.some 4), (.mv (.c (.lf (.flt .f64 0)))), none⟩])
 (.seq (.reg [⟨(.some 5), (.mv (.t 0)), none⟩, ⟨(.some 6), (.xop .bits64 [(.t 5)]), none⟩, ⟨(.some 7), (.bin .andNot (.t 6) (.c (.lf (.int .u64 9223372036854775808)))), none⟩, ⟨(.some 8), (.mv (.t 1)), none⟩, ⟨(.some 9), (.xop .bits64 [(.t 8)]), none⟩, ⟨(.some 10), (.bin .and (.t 9) (.c (.lf (.int .u64 9223372036854775808)))), none⟩, ⟨(.some 11), (.bin .or (.t 7) (.t 10)), none⟩, ⟨(.some 12), (.xop .from64 [(.t 11)]), none⟩, ⟨(.some 4), (.mv (.t 12)), none⟩])
 .ret)), [(.tmp 4)]⟩
class HasFf (S : Sys) : Prop extends HasFb S where
  f19 : S.fs 19 = some L19
  f18 : S.fs 18 = some L18
  f20 : S.fs 20 = some L20
def L17 : LFn := ⟨2, (.seq (.reg [⟨(.some 4), (.mv (.c (.lf (.flt .f32 0)))), none⟩])
 (.seq (.seq (.reg [⟨(.some 5), (.mv (.t 1)), none⟩])
 (.cond (.t 5) (.seq (.reg [⟨(.some 6), (.mv (.t 0)), none⟩, ⟨(.some 7), (.call true 18 [(.t 6)]), none⟩, ⟨(.some 4), (.mv (.t 7)), none⟩])
 .ret) .skip))
 (.seq (.reg [⟨(.some 8), (.mv (.t 0)), none⟩, ⟨(.some 4), (.mv (.t 8)), none⟩])
 .ret))), [(.tmp 4)]⟩
class HasFl2 (S : Sys) : Prop extends HasFf S where
  f17 : S.fs 17 = some L17

class HasFa (S : Sys) : Prop where

section
variable {S : Sys} {lim : Nat} {h : Hp} {K : CV → Hp → Prop}
theorem xop_bits32 {x : Nat} (h : isNaN .f32 x = false) : xopV .bits32 [.lf (.flt .f32 x)] = some (.lf (.int .u32 x)) := by simp [xopV, xBits32, h]
theorem xop_bits64 {x : Nat} (h : isNaN .f64 x = false) : xopV .bits64 [.lf (.flt .f64 x)] = some (.lf (.int .u64 x)) := by simp [xopV, xBits64, h]
theorem xop_bits64n {x : Nat} (h : isNaN .f64 x = true) : xopV .bits64 [.lf (.flt .f64 x)] = some (.lf .nb) := by simp [xopV, xBits64, h]
theorem xop_from32 {n : Int} (h : 0 ≤ n ∧ n < 4294967296) : xopV .from32 [.lf (.int .u32 n)] = some (.lf (.flt .f32 (can .f32 n.toNat))) := by simp [xopV, xFrom32, h]
theorem xop_from64 {n : Int} (h : 0 ≤ n ∧ n < 18446744073709551616) : xopV .from64 [.lf (.int .u64 n)] = some (.lf (.flt .f64 (can .f64 n.toNat))) := by simp [xopV, xFrom64, h]
theorem xop_from64n : xopV .from64 [.lf .nb] = some (.lf (.flt .f64 (nanOf .f64))) := (rfl)
section
variable [HasFb S]
end
section
variable [HasFf S]
theorem c_Copysign {x : Nat} (hx : x < 18446744073709551616) (hn : isNaN .f64 x = false) : CallT S true 20 [.lf (.flt .f64 0), .lf (.flt .f64 x)] h lim K = K (.lf (.flt .f64 (x / 9223372036854775808 * 9223372036854775808))) h := by
  have e1 : binV .and (.lf (.int .u64 x)) (.lf (.int .u64 9223372036854775808)) = some (.lf (.int .u64 ((x &&& 9223372036854775808 : Nat) : Int))) := and_u64 (x := x) (y := 9223372036854775808) hx (by omega)
  rw [and_top64 hx] at e1
  have e0 : binV .andNot (.lf (.int .u64 0)) (.lf (.int .u64 9223372036854775808)) = some (.lf (.int .u64 0)) := andNot_u64 (x := 0) (by omega)
  have e2 : x / 9223372036854775808 * 9223372036854775808 < 18446744073709551616 := by omega
  have e3 := or0_u64 e2
  have e4 : can .f64 (x / 9223372036854775808 * 9223372036854775808) = x / 9223372036854775808 * 9223372036854775808 := can64 (by omega)
  have e5 : isNaN .f64 0 = false := by decide
  generalize x / 9223372036854775808 * 9223372036854775808 = y at *
  have e6 := xop_from64 (n := y) (by omega)
  simp only [Int.toNat_natCast] at e6
  rw [e4] at e6
  have e7 : xopV .bits64 [.lf (.flt .f64 0)] = some (.lf (.int .u64 0)) := xop_bits64 e5
  have e8 := xop_bits64 hn
  refine CallT_pure (F := L20) (HasFf.f20) rfl (by first | rfl | (split <;> rfl) | simp) ?_; unfold L20; dsimp only []
  repeat' (first | (simp (disch := first | omega | assumption | (simp only [List.length_set]; omega) | (simp [*] <;> fail) | assumption) [-Bool.decide_and, -Bool.decide_or, -Bool.not_and, -Bool.not_or, toNat_pred, toNat_succ, wrap64, wr_new, wr_new0, ok_if, ok_ifn, iadV_sl, makeV_int, decT, decF, over_at, *]) | (with_reducible refine Gd_split (fun hc => ?_) (fun hc => ?_) <;> (have hc2 := hc; try simp at hc2)) | (with_reducible refine Br_split (fun hc => ?_) (fun hc => ?_) <;> (have hc2 := hc; try simp at hc2)) | (with_reducible refine GdT_split (fun hc => ?_) (fun hc => ?_) <;> (have hc2 := hc; try simp at hc2)) | (with_reducible refine WT_alt ?_ ?_) | omega)
theorem c_IsSubnormal {x : Nat} (hx : CF x) : CallT S true 19 [.lf (.flt .f32 x)] h lim K = K (.lf (.bool (decide (x % 2147483648 < 8388608 ∧ x % 2147483648 ≠ 0)))) h := by
  have hx1 := hx.1
  refine CallT_pure (F := L19) (HasFf.f19) rfl (by first | rfl | (split <;> rfl) | simp) ?_; unfold L19; dsimp only []
  cases hn : isNaN .f32 x
  · have k0 : isNaN .f32 0 = false := by decide
    have k1 : isNaN .f32 8388608 = false := by decide
    have k2 : isNaN .f32 2155872256 = false := by decide
    have v0 : V 0 = 0 := by decide +kernel
    have v1 : V 8388608 = 8388608 := by decide +kernel
    have v2 : V 2155872256 = -8388608 := by decide +kernel
    have c0 := eql32 hn k0
    have c1 := lss32 hn k1
    have c2 := gtr32 hn k2
    rw [v0] at c0; rw [v1] at c1; rw [v2] at c2
    have hv : (V x = 0 ↔ x % 2147483648 = 0) ∧ ((V x < 8388608 ∧ -8388608 < V x) ↔ x % 2147483648 < 8388608) := by
      rw [V_eq]
      have hz := magOf_eq_zero (f := Ieee.single) (r := x % 2147483648)
      rcases Nat.lt_or_ge (x % 2147483648) 8388608 with hs | hs
      · have := mag_small hs
        unfold sgn; split <;> omega
      · have := mag_big hs
        unfold sgn; split <;> omega
    by_cases a1 : x % 2147483648 = 0
    · have b1 := hv.1.2 a1
      repeat' (first | (simp (disch := first | omega | assumption | (simp only [List.length_set]; omega) | (simp [*] <;> fail) | assumption) [-Bool.decide_and, -Bool.decide_or, -Bool.not_and, -Bool.not_or, toNat_pred, toNat_succ, wrap64, wr_new, wr_new0, ok_if, ok_ifn, iadV_sl, makeV_int, decT, decF, over_at, *, fcmp_neq]) | (with_reducible refine Gd_split (fun hc => ?_) (fun hc => ?_) <;> (have hc2 := hc; try simp at hc2)) | (with_reducible refine Br_split (fun hc => ?_) (fun hc => ?_) <;> (have hc2 := hc; try simp at hc2)) | (with_reducible refine GdT_split (fun hc => ?_) (fun hc => ?_) <;> (have hc2 := hc; try simp at hc2)) | (with_reducible refine WT_alt ?_ ?_) | omega)
    · have b1 : ¬ V x = 0 := fun hh => a1 (hv.1.1 hh)
      by_cases a2 : x % 2147483648 < 8388608
      · have b2 := hv.2.2 a2
        repeat' (first | (simp (disch := first | omega | assumption | (simp only [List.length_set]; omega) | (simp [*] <;> fail) | assumption) [-Bool.decide_and, -Bool.decide_or, -Bool.not_and, -Bool.not_or, toNat_pred, toNat_succ, wrap64, wr_new, wr_new0, ok_if, ok_ifn, iadV_sl, makeV_int, decT, decF, over_at, *, fcmp_neq]) | (with_reducible refine Gd_split (fun hc => ?_) (fun hc => ?_) <;> (have hc2 := hc; try simp at hc2)) | (with_reducible refine Br_split (fun hc => ?_) (fun hc => ?_) <;> (have hc2 := hc; try simp at hc2)) | (with_reducible refine GdT_split (fun hc => ?_) (fun hc => ?_) <;> (have hc2 := hc; try simp at hc2)) | (with_reducible refine WT_alt ?_ ?_) | omega)
      · have b2 : ¬ (V x < 8388608 ∧ -8388608 < V x) := fun hh => a2 (hv.2.1 hh)
        by_cases a3 : V x < 8388608
        · have a4 : ¬ -8388608 < V x := fun hh => b2 ⟨a3, hh⟩
          repeat' (first | (simp (disch := first | omega | assumption | (simp only [List.length_set]; omega) | (simp [*] <;> fail) | assumption) [-Bool.decide_and, -Bool.decide_or, -Bool.not_and, -Bool.not_or, toNat_pred, toNat_succ, wrap64, wr_new, wr_new0, ok_if, ok_ifn, iadV_sl, makeV_int, decT, decF, over_at, *, fcmp_neq]) | (with_reducible refine Gd_split (fun hc => ?_) (fun hc => ?_) <;> (have hc2 := hc; try simp at hc2)) | (with_reducible refine Br_split (fun hc => ?_) (fun hc => ?_) <;> (have hc2 := hc; try simp at hc2)) | (with_reducible refine GdT_split (fun hc => ?_) (fun hc => ?_) <;> (have hc2 := hc; try simp at hc2)) | (with_reducible refine WT_alt ?_ ?_) | omega)
        · repeat' (first | (simp (disch := first | omega | assumption | (simp only [List.length_set]; omega) | (simp [*] <;> fail) | assumption) [-Bool.decide_and, -Bool.decide_or, -Bool.not_and, -Bool.not_or, toNat_pred, toNat_succ, wrap64, wr_new, wr_new0, ok_if, ok_ifn, iadV_sl, makeV_int, decT, decF, over_at, *, fcmp_neq]) | (with_reducible refine Gd_split (fun hc => ?_) (fun hc => ?_) <;> (have hc2 := hc; try simp at hc2)) | (with_reducible refine Br_split (fun hc => ?_) (fun hc => ?_) <;> (have hc2 := hc; try simp at hc2)) | (with_reducible refine GdT_split (fun hc => ?_) (fun hc => ?_) <;> (have hc2 := hc; try simp at hc2)) | (with_reducible refine WT_alt ?_ ?_) | omega)
  · have e2 := hx.nan hn
    have c1 := cmp_nan1 (y := 8388608) (op := .lss) hn (by decide)
    have c0 := cmp_nan1 (y := 0) (op := .eql) hn (by decide)
    subst e2
    repeat' (first | (simp (disch := first | omega | assumption | (simp only [List.length_set]; omega) | (simp [*] <;> fail) | assumption) [-Bool.decide_and, -Bool.decide_or, -Bool.not_and, -Bool.not_or, toNat_pred, toNat_succ, wrap64, wr_new, wr_new0, ok_if, ok_ifn, iadV_sl, makeV_int, decT, decF, over_at, *, fcmp_neq]) | (with_reducible refine Gd_split (fun hc => ?_) (fun hc => ?_) <;> (have hc2 := hc; try simp at hc2)) | (with_reducible refine Br_split (fun hc => ?_) (fun hc => ?_) <;> (have hc2 := hc; try simp at hc2)) | (with_reducible refine GdT_split (fun hc => ?_) (fun hc => ?_) <;> (have hc2 := hc; try simp at hc2)) | (with_reducible refine WT_alt ?_ ?_) | omega)
theorem c_FlushNumber {x : Nat} (hx : CF x) : CallT S true 18 [.lf (.flt .f32 x)] h lim K = K (.lf (.flt .f32 (flushF x))) h := by
  have hx1 := hx.1
  refine CallT_pure (F := L18) (HasFf.f18) rfl (by first | rfl | (split <;> rfl) | simp) ?_; unfold L18; dsimp only []
  by_cases hc : x % 2147483648 < 8388608 ∧ x % 2147483648 ≠ 0
  · have hn : isNaN .f32 x = false := by rw [isNaN32]; simp; omega
    obtain ⟨w1, w2⟩ := wid_sign hx1 hn
    have hnw : isNaN .f64 (wid x) = false := by
      obtain ⟨R, r1, r2, _⟩ := wid_word hn
      rw [r2]; exact double_read_nan r1
    have e1 := fun K => c_Copysign (S := S) (h := h) (lim := h.length) (K := K) w2 hnw
    rw [w1] at e1
    have e2 : flushF x = x / 2147483648 * 2147483648 := by simp [flushF, hc.1]
    have e3 : fconv .f64 .f32 (x / 2147483648 * 9223372036854775808) = some (x / 2147483648 * 2147483648) := by
      have : x / 2147483648 = 0 ∨ x / 2147483648 = 1 := by omega
      rcases this with e | e <;> rw [e] <;> decide +kernel
    obtain ⟨y, hy⟩ : ∃ y, y = x / 2147483648 * 9223372036854775808 := ⟨_, rfl⟩
    rw [← hy] at e1 e3
    clear hy
    repeat' (first | (simp (disch := first | omega | assumption | (simp only [List.length_set]; omega) | (simp [*] <;> fail) | assumption) [-Bool.decide_and, -Bool.decide_or, -Bool.not_and, -Bool.not_or, toNat_pred, toNat_succ, wrap64, wr_new, wr_new0, ok_if, ok_ifn, iadV_sl, makeV_int, decT, decF, over_at, *, c_IsSubnormal hx]) | (with_reducible refine Gd_split (fun hc => ?_) (fun hc => ?_) <;> (have hc2 := hc; try simp at hc2)) | (with_reducible refine Br_split (fun hc => ?_) (fun hc => ?_) <;> (have hc2 := hc; try simp at hc2)) | (with_reducible refine GdT_split (fun hc => ?_) (fun hc => ?_) <;> (have hc2 := hc; try simp at hc2)) | (with_reducible refine WT_alt ?_ ?_) | omega)
  · have e2 : flushF x = x := by unfold flushF; split <;> omega
    repeat' (first | (simp (disch := first | omega | assumption | (simp only [List.length_set]; omega) | (simp [*] <;> fail) | assumption) [-Bool.decide_and, -Bool.decide_or, -Bool.not_and, -Bool.not_or, toNat_pred, toNat_succ, wrap64, wr_new, wr_new0, ok_if, ok_ifn, iadV_sl, makeV_int, decT, decF, over_at, *, c_IsSubnormal hx]) | (with_reducible refine Gd_split (fun hc => ?_) (fun hc => ?_) <;> (have hc2 := hc; try simp at hc2)) | (with_reducible refine Br_split (fun hc => ?_) (fun hc => ?_) <;> (have hc2 := hc; try simp at hc2)) | (with_reducible refine GdT_split (fun hc => ?_) (fun hc => ?_) <;> (have hc2 := hc; try simp at hc2)) | (with_reducible refine WT_alt ?_ ?_) | omega)
end
section
variable [HasFl2 S]
def flushIf (b : Bool) (x : Nat) : Nat := if b then flushF x else x
theorem CF_flushIf {b : Bool} {x : Nat} (h : CF x) : CF (flushIf b x) := by unfold flushIf; split; exact CF_flush h; exact h
theorem c_flushed {x : Nat} {b : Bool} (hx : CF x) : CallT S true 17 [.lf (.flt .f32 x), .lf (.bool b)] h lim K = K (.lf (.flt .f32 (flushIf b x))) h := by
  refine CallT_pure (F := L17) (HasFl2.f17) rfl (by first | rfl | (split <;> rfl) | simp) ?_; unfold L17; dsimp only []
  cases b
  · repeat' (first | (simp (disch := first | omega | assumption | (simp only [List.length_set]; omega) | (simp [*] <;> fail) | assumption) [-Bool.decide_and, -Bool.decide_or, -Bool.not_and, -Bool.not_or, toNat_pred, toNat_succ, wrap64, wr_new, wr_new0, ok_if, ok_ifn, iadV_sl, makeV_int, decT, decF, over_at, *, flushIf]) | (with_reducible refine Gd_split (fun hc => ?_) (fun hc => ?_) <;> (have hc2 := hc; try simp at hc2)) | (with_reducible refine Br_split (fun hc => ?_) (fun hc => ?_) <;> (have hc2 := hc; try simp at hc2)) | (with_reducible refine GdT_split (fun hc => ?_) (fun hc => ?_) <;> (have hc2 := hc; try simp at hc2)) | (with_reducible refine WT_alt ?_ ?_) | omega)
  · repeat' (first | (simp (disch := first | omega | assumption | (simp only [List.length_set]; omega) | (simp [*] <;> fail) | assumption) [-Bool.decide_and, -Bool.decide_or, -Bool.not_and, -Bool.not_or, toNat_pred, toNat_succ, wrap64, wr_new, wr_new0, ok_if, ok_ifn, iadV_sl, makeV_int, decT, decF, over_at, *, c_FlushNumber hx, flushIf]) | (with_reducible refine Gd_split (fun hc => ?_) (fun hc => ?_) <;> (have hc2 := hc; try simp at hc2)) | (with_reducible refine Br_split (fun hc => ?_) (fun hc => ?_) <;> (have hc2 := hc; try simp at hc2)) | (with_reducible refine GdT_split (fun hc => ?_) (fun hc => ?_) <;> (have hc2 := hc; try simp at hc2)) | (with_reducible refine WT_alt ?_ ?_) | omega)
end
section
variable [HasFa S]
theorem wid_lt {x : Nat} (hx : x < 4294967296) : wid x < 18446744073709551616 := by
  cases hn : isNaN .f32 x
  · exact (wid_sign hx hn).2
  · rw [wid_nan hn]; exact nanOf_lt .f64
end
end
end Go.E
