/- Bits of numbers, flushing, absolute values. -/
import Derived.Test.YtkabbddhdnddoaaMA
import Derived.Test.YtkabbddhdnddoaaEH
import Derived.Test.YtkabbddhdnddoaaEK
set_option linter.unusedVariables false
set_option linter.unusedSimpArgs false
namespace Go.E
open Go
def L46 : LFn := ⟨1, (.seq (.reg [⟨(.some 2), (.mv (.c (.lf (.int .i64 0)))), none⟩])
 (.seq (.seq (.reg [⟨(.some 3), (.mv (.t 0)), none⟩, ⟨(.some 4), (.mv (.t 0)), none⟩, ⟨(.some 5), (.bin .neq (.t 3) (.t 4)), none⟩])
 (.cond (.t 5) (.seq (.reg [⟨(.some 2), (.mv (.c (.lf (.int .i64 2143289344)))), none⟩])
 .ret) .skip))
 (.seq (.reg [⟨(.some 6), (.mv (.t 0)), none⟩, ⟨(.some 7), (.xop .bits32 [(.t 6)]), none⟩, ⟨(.some 8), (.toint .i64 (.t 7)), none⟩, ⟨(.some 2), (.mv (.t 8)), none⟩])
 .ret))), [(.tmp 2)]⟩
class HasFb (S : Sys) : Prop where
  f46 : S.fs 46 = some L46
def L65 : LFn := ⟨2, (.seq (.reg [⟨(.some 4), (.mv (.c (.lf (.flt .f64 0)))), none⟩])
 (.seq (.reg [⟨(.some 5), (.mv (.t 0)), none⟩, ⟨(.some 6), (.xop .bits64 [(.t 5)]), none⟩, ⟨(.some 7), (.bin .andNot (.t 6) (.c (.lf (.int .u64 9223372036854775808)))), none⟩, ⟨(.some 8), (.mv (.t 1)), none⟩, ⟨(.some 9), (.xop .bits64 [(.t 8)]), none⟩, ⟨(.some 10), (.bin .and (.t 9) (.c (.lf (.int .u64 9223372036854775808)))), none⟩, ⟨(.some 11), (.bin .or (.t 7) (.t 10)), none⟩, ⟨(.some 12), (.xop .from64 [(.t 11)]), none⟩, ⟨(.some 4), (.mv (.t 12)), none⟩])
 .ret)), [(.tmp 4)]⟩
class HasFf (S : Sys) : Prop extends HasFb S where
  f65 : S.fs 65 = some L65

class HasFl2 (S : Sys) : Prop extends HasFf S where

def L57 : LFn := ⟨1, (.seq (.reg [⟨(.some 2), (.mv (.c (.lf (.flt .f64 0)))), none⟩])
 (.seq (.reg [⟨(.some 3), (.mv (.t 0)), none⟩, ⟨(.some 4), (.xop .bits64 [(.t 3)]), none⟩, ⟨(.some 5), (.bin .andNot (.t 4) (.c (.lf (.int .u64 9223372036854775808)))), none⟩, ⟨(.some 6), (.xop .from64 [(.t 5)]), none⟩, ⟨(.some 2), (.mv (.t 6)), none⟩])
 .ret)), [(.tmp 2)]⟩
def L48 : LFn := ⟨1, (.seq (.reg [⟨(.some 2), (.mv (.c (.lf (.flt .f32 0)))), none⟩])
 (.seq (.reg [⟨(.some 3), (.mv (.t 0)), none⟩, ⟨(.some 4), (.toflt .f64 (.t 3)), none⟩, ⟨(.some 5), (.call true 57 [(.t 4)]), none⟩, ⟨(.some 6), (.toflt .f32 (.t 5)), none⟩, ⟨(.some 2), (.mv (.t 6)), none⟩])
 .ret)), [(.tmp 2)]⟩
class HasFa (S : Sys) : Prop where
  f57 : S.fs 57 = some L57
  f48 : S.fs 48 = some L48
section
variable {S : Sys} {lim : Nat} {h : Hp} {K : CV → Hp → Prop}
theorem xop_bits32 {x : Nat} (h : isNaN .f32 x = false) : xopV .bits32 [.lf (.flt .f32 x)] = some (.lf (.int .u32 x)) := by simp [xopV, xBits32, h]
theorem xop_bits64 {x : Nat} (h : isNaN .f64 x = false) : xopV .bits64 [.lf (.flt .f64 x)] = some (.lf (.int .u64 x)) := by simp [xopV, xBits64, h]
theorem xop_bits64n {x : Nat} (h : isNaN .f64 x = true) : xopV .bits64 [.lf (.flt .f64 x)] = some (.lf .nb) := by simp [xopV, xBits64, h]
theorem xop_from32 {n : Int} (h : 0 ≤ n ∧ n < 4294967296) : xopV .from32 [.lf (.int .u32 n)] = some (.lf (.flt .f32 (can .f32 n.toNat))) := by simp [xopV, xFrom32, h]
theorem xop_from64 {n : Int} (h : 0 ≤ n ∧ n < 18446744073709551616) : xopV .from64 [.lf (.int .u64 n)] = some (.lf (.flt .f64 (can .f64 n.toNat))) := by simp [xopV, xFrom64, h]
theorem xop_from64n : xopV .from64 [.lf .nb] = some (.lf (.flt .f64 (nanOf .f64))) := (rfl)
section
variable [HasFb S]
theorem c_l01Bits {x : Nat} (hx : CF x) : CallT S true 46 [.lf (.flt .f32 x)] h lim K = K (.lf (.int .i64 x)) h := by
  obtain ⟨h1, h2⟩ := id hx
  refine CallT_pure (F := L46) (HasFb.f46) rfl (by first | rfl | (split <;> rfl) | simp) ?_; unfold L46; dsimp only []
  cases hn : isNaN .f32 x
  · have e1 := fcmp_self hn
    repeat' (first | (simp (disch := first | omega | assumption | (simp only [List.length_set]; omega) | (simp [*] <;> fail) | assumption) [-Bool.decide_and, -Bool.decide_or, -Bool.not_and, -Bool.not_or, toNat_pred, toNat_succ, wrap64, wr_new, wr_new0, ok_if, ok_ifn, iadV_sl, makeV_int, decT, decF, over_at, *, fcmp_neq, xop_bits32]) | (with_reducible refine Gd_split (fun hc => ?_) (fun hc => ?_) <;> (have hc2 := hc; try simp at hc2)) | (with_reducible refine Br_split (fun hc => ?_) (fun hc => ?_) <;> (have hc2 := hc; try simp at hc2)) | (with_reducible refine GdT_split (fun hc => ?_) (fun hc => ?_) <;> (have hc2 := hc; try simp at hc2)) | (with_reducible refine WT_alt ?_ ?_) | omega)
  · have e1 := fcmp_self_nan hn
    have e2 := hx.nan hn
    subst e2
    repeat' (first | (simp (disch := first | omega | assumption | (simp only [List.length_set]; omega) | (simp [*] <;> fail) | assumption) [-Bool.decide_and, -Bool.decide_or, -Bool.not_and, -Bool.not_or, toNat_pred, toNat_succ, wrap64, wr_new, wr_new0, ok_if, ok_ifn, iadV_sl, makeV_int, decT, decF, over_at, *, fcmp_neq]) | (with_reducible refine Gd_split (fun hc => ?_) (fun hc => ?_) <;> (have hc2 := hc; try simp at hc2)) | (with_reducible refine Br_split (fun hc => ?_) (fun hc => ?_) <;> (have hc2 := hc; try simp at hc2)) | (with_reducible refine GdT_split (fun hc => ?_) (fun hc => ?_) <;> (have hc2 := hc; try simp at hc2)) | (with_reducible refine WT_alt ?_ ?_) | omega)
end
section
variable [HasFf S]
theorem c_Copysign {x : Nat} (hx : x < 18446744073709551616) (hn : isNaN .f64 x = false) : CallT S true 65 [.lf (.flt .f64 0), .lf (.flt .f64 x)] h lim K = K (.lf (.flt .f64 (x / 9223372036854775808 * 9223372036854775808))) h := by
  have e1 : binV .and (.lf (.int .u64 x)) (.lf (.int .u64 9223372036854775808)) = some (.lf (.int .u64 ((x &&& 9223372036854775808 : Nat) : Int))) := and_u64 (x := x) (y := 9223372036854775808) hx (by omega)
  rw [and_top64 hx] at e1
  have e0 : binV .andNot (.lf (.int .u64 0)) (.lf (.int .u64 9223372036854775808)) = some (.lf (.int .u64 0)) := andNot_u64 (x := 0) (by omega)
  have e2 : x / 9223372036854775808 * 9223372036854775808 < 18446744073709551616 := by omega
  have e3 := or0_u64 e2
  have e4 : can .f64 (x / 9223372036854775808 * 9223372036854775808) = x / 9223372036854775808 * 9223372036854775808 := can64 (by omega)
  have e5 : isNaN .f64 0 = false := by decide
  generalize x / 9223372036854775808 * 9223372036854775808 = y at *
  have e6 := xop_from64 (n := y) (by omega)
  simp only [Int.toNat_natCast] at e6
  rw [e4] at e6
  have e7 : xopV .bits64 [.lf (.flt .f64 0)] = some (.lf (.int .u64 0)) := xop_bits64 e5
  have e8 := xop_bits64 hn
  refine CallT_pure (F := L65) (HasFf.f65) rfl (by first | rfl | (split <;> rfl) | simp) ?_; unfold L65; dsimp only []
  repeat' (first | (simp (disch := first | omega | assumption | (simp only [List.length_set]; omega) | (simp [*] <;> fail) | assumption) [-Bool.decide_and, -Bool.decide_or, -Bool.not_and, -Bool.not_or, toNat_pred, toNat_succ, wrap64, wr_new, wr_new0, ok_if, ok_ifn, iadV_sl, makeV_int, decT, decF, over_at, *]) | (with_reducible refine Gd_split (fun hc => ?_) (fun hc => ?_) <;> (have hc2 := hc; try simp at hc2)) | (with_reducible refine Br_split (fun hc => ?_) (fun hc => ?_) <;> (have hc2 := hc; try simp at hc2)) | (with_reducible refine GdT_split (fun hc => ?_) (fun hc => ?_) <;> (have hc2 := hc; try simp at hc2)) | (with_reducible refine WT_alt ?_ ?_) | omega)
end
section
variable [HasFl2 S]
def flushIf (b : Bool) (x : Nat) : Nat := if b then flushF x else x
theorem CF_flushIf {b : Bool} {x : Nat} (h : CF x) : CF (flushIf b x) := by unfold flushIf; split; exact CF_flush h; exact h
end
section
variable [HasFa S]
theorem c_Abs {x : Nat} (hx : x < 18446744073709551616) : CallT S true 57 [.lf (.flt .f64 x)] h lim K = K (.lf (.flt .f64 (fabs64 x))) h := by
  refine CallT_pure (F := L57) (HasFa.f57) rfl (by first | rfl | (split <;> rfl) | simp) ?_; unfold L57; dsimp only []
  cases hn : isNaN .f64 x
  · have e1 := xop_bits64 hn
    have e2 := andNot_u64 hx
    have e3 := xop_from64 (n := ((x % 9223372036854775808 : Nat) : Int)) (by omega)
    simp only [Int.toNat_natCast] at e3
    rw [can64 (by rw [isNaN64] at hn; simp at hn; omega)] at e3
    have e4 : fabs64 x = x % 9223372036854775808 := by simp [fabs64, hn]
    generalize x % 9223372036854775808 = y at *
    repeat' (first | (simp (disch := first | omega | assumption | (simp only [List.length_set]; omega) | (simp [*] <;> fail) | assumption) [-Bool.decide_and, -Bool.decide_or, -Bool.not_and, -Bool.not_or, toNat_pred, toNat_succ, wrap64, wr_new, wr_new0, ok_if, ok_ifn, iadV_sl, makeV_int, decT, decF, over_at, *]) | (with_reducible refine Gd_split (fun hc => ?_) (fun hc => ?_) <;> (have hc2 := hc; try simp at hc2)) | (with_reducible refine Br_split (fun hc => ?_) (fun hc => ?_) <;> (have hc2 := hc; try simp at hc2)) | (with_reducible refine GdT_split (fun hc => ?_) (fun hc => ?_) <;> (have hc2 := hc; try simp at hc2)) | (with_reducible refine WT_alt ?_ ?_) | omega)
  · have e1 := xop_bits64n hn
    have e2 := andNot_nb
    have e3 := xop_from64n
    have e4 : fabs64 x = nanOf .f64 := by simp [fabs64, hn]
    repeat' (first | (simp (disch := first | omega | assumption | (simp only [List.length_set]; omega) | (simp [*] <;> fail) | assumption) [-Bool.decide_and, -Bool.decide_or, -Bool.not_and, -Bool.not_or, toNat_pred, toNat_succ, wrap64, wr_new, wr_new0, ok_if, ok_ifn, iadV_sl, makeV_int, decT, decF, over_at, *]) | (with_reducible refine Gd_split (fun hc => ?_) (fun hc => ?_) <;> (have hc2 := hc; try simp at hc2)) | (with_reducible refine Br_split (fun hc => ?_) (fun hc => ?_) <;> (have hc2 := hc; try simp at hc2)) | (with_reducible refine GdT_split (fun hc => ?_) (fun hc => ?_) <;> (have hc2 := hc; try simp at hc2)) | (with_reducible refine WT_alt ?_ ?_) | omega)
theorem wid_lt {x : Nat} (hx : x < 4294967296) : wid x < 18446744073709551616 := by
  cases hn : isNaN .f32 x
  · exact (wid_sign hx hn).2
  · rw [wid_nan hn]; exact nanOf_lt .f64
theorem c_absolute {x : Nat} (hx : CF x) : CallT S true 48 [.lf (.flt .f32 x)] h lim K = K (.lf (.flt .f32 (fabs x))) h := by
  have e1 := abs_wid x
  have e2 := fun K => c_Abs (S := S) (h := h) (lim := h.length) (K := K) (wid_lt hx.1)
  refine CallT_pure (F := L48) (HasFa.f48) rfl (by first | rfl | (split <;> rfl) | simp) ?_; unfold L48; dsimp only []
  repeat' (first | (simp (disch := first | omega | assumption | (simp only [List.length_set]; omega) | (simp [*] <;> fail) | assumption) [-Bool.decide_and, -Bool.decide_or, -Bool.not_and, -Bool.not_or, toNat_pred, toNat_succ, wrap64, wr_new, wr_new0, ok_if, ok_ifn, iadV_sl, makeV_int, decT, decF, over_at, *]) | (with_reducible refine Gd_split (fun hc => ?_) (fun hc => ?_) <;> (have hc2 := hc; try simp at hc2)) | (with_reducible refine Br_split (fun hc => ?_) (fun hc => ?_) <;> (have hc2 := hc; try simp at hc2)) | (with_reducible refine GdT_split (fun hc => ?_) (fun hc => ?_) <;> (have hc2 := hc; try simp at hc2)) | (with_reducible refine WT_alt ?_ ?_) | omega)
end
end
end Go.E
