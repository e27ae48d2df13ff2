/- Bits of numbers, flushing, absolute values. -/
import Derived.Test.YtgdloogokjemdaaGreatDoorMA
import Derived.Test.YtgdloogokjemdaaGreatDoorEH
import Derived.Test.YtgdloogokjemdaaGreatDoorEK
set_option linter.unusedVariables false
set_option linter.unusedSimpArgs false
namespace Go.E
open Go
def L31 : LFn := ⟨1, (.seq (.reg [⟨(.some 2), (.mv (.c (.lf (.int .i64 0)))), none⟩])
 (.seq (.seq (.reg [⟨(.some 3), (.mv (.t 0)), none⟩, ⟨(.some 4), (.mv (.t 0)), none⟩, ⟨(.some 5), (.bin .neq (.t 3) (.t 4)), none⟩])
 (.cond (.t 5) (.seq (.reg [⟨(.some 2), (.mv (.c (.lf (.int .i64 2143289344)))), none⟩])
 .ret) .skip))
 (.seq (.reg [⟨(.some 6), (.mv (.t 0)), none⟩, ⟨(.some 7), (.xop .bits32 [(.t 6)]), none⟩, ⟨(.some 8), (.toint .i64 (.t 7)), none⟩, ⟨(.some 2), (.mv (.t 8)), none⟩])
 .ret))), [(.tmp 2)]⟩
def L30 : LFn := ⟨1, (.seq (.reg [⟨(.some 2), (.mv (.c (.lf (.flt .f32 0)))), none⟩])
 (.seq (.reg [⟨(.some 3), (.mv (.t 0)), none⟩, ⟨(.some 4), (.toint .u32 (.t 3)), none⟩, ⟨(.some 5), (.xop .from32 [(.t 4)]), none⟩, ⟨(.some 2), (.mv (.t 5)), none⟩])
 .ret)), [(.tmp 2)]⟩
class HasFb (S : Sys) : Prop where
  f31 : S.fs 31 = some L31
  f30 : S.fs 30 = some L30

class HasFf (S : Sys) : Prop extends HasFb S where


class HasFl2 (S : Sys) : Prop extends HasFf S where


class HasFa (S : Sys) : Prop where

section
variable {S : Sys} {lim : Nat} {h : Hp} {K : CV → Hp → Prop}
theorem xop_bits32 {x : Nat} (h : isNaN .f32 x = false) : xopV .bits32 [.lf (.flt .f32 x)] = some (.lf (.int .u32 x)) := by simp [xopV, xBits32, h]
theorem xop_bits64 {x : Nat} (h : isNaN .f64 x = false) : xopV .bits64 [.lf (.flt .f64 x)] = some (.lf (.int .u64 x)) := by simp [xopV, xBits64, h]
theorem xop_bits64n {x : Nat} (h : isNaN .f64 x = true) : xopV .bits64 [.lf (.flt .f64 x)] = some (.lf .nb) := by simp [xopV, xBits64, h]
theorem xop_from32 {n : Int} (h : 0 ≤ n ∧ n < 4294967296) : xopV .from32 [.lf (.int .u32 n)] = some (.lf (.flt .f32 (can .f32 n.toNat))) := by simp [xopV, xFrom32, h]
theorem xop_from64 {n : Int} (h : 0 ≤ n ∧ n < 18446744073709551616) : xopV .from64 [.lf (.int .u64 n)] = some (.lf (.flt .f64 (can .f64 n.toNat))) := by simp [xopV, xFrom64, h]
theorem xop_from64n : xopV .from64 [.lf .nb] = some (.lf (.flt .f64 (nanOf .f64))) := (rfl)
section
variable [HasFb S]
theorem c_l01Bits {x : Nat} (hx : CF x) : CallT S true 31 [.lf (.flt .f32 x)] h lim K = K (.lf (.int .i64 x)) h := by
  obtain ⟨h1, h2⟩ := id hx
  refine CallT_pure (F := L31) (HasFb.f31) rfl (by first | rfl | (split <;> rfl) | simp) ?_; unfold L31; dsimp only []
  cases hn : isNaN .f32 x
  · have e1 := fcmp_self hn
    repeat' (first | (simp (disch := first | omega | assumption | (simp only [List.length_set]; omega) | (simp [*] <;> fail) | assumption) [-Bool.decide_and, -Bool.decide_or, -Bool.not_and, -Bool.not_or, toNat_pred, toNat_succ, wrap64, wr_new, wr_new0, ok_if, ok_ifn, iadV_sl, makeV_int, decT, decF, over_at, *, fcmp_neq, xop_bits32]) | (with_reducible refine Gd_split (fun hc => ?_) (fun hc => ?_) <;> (have hc2 := hc; try simp at hc2)) | (with_reducible refine Br_split (fun hc => ?_) (fun hc => ?_) <;> (have hc2 := hc; try simp at hc2)) | (with_reducible refine GdT_split (fun hc => ?_) (fun hc => ?_) <;> (have hc2 := hc; try simp at hc2)) | (with_reducible refine WT_alt ?_ ?_) | omega)
  · have e1 := fcmp_self_nan hn
    have e2 := hx.nan hn
    subst e2
    repeat' (first | (simp (disch := first | omega | assumption | (simp only [List.length_set]; omega) | (simp [*] <;> fail) | assumption) [-Bool.decide_and, -Bool.decide_or, -Bool.not_and, -Bool.not_or, toNat_pred, toNat_succ, wrap64, wr_new, wr_new0, ok_if, ok_ifn, iadV_sl, makeV_int, decT, decF, over_at, *, fcmp_neq]) | (with_reducible refine Gd_split (fun hc => ?_) (fun hc => ?_) <;> (have hc2 := hc; try simp at hc2)) | (with_reducible refine Br_split (fun hc => ?_) (fun hc => ?_) <;> (have hc2 := hc; try simp at hc2)) | (with_reducible refine GdT_split (fun hc => ?_) (fun hc => ?_) <;> (have hc2 := hc; try simp at hc2)) | (with_reducible refine WT_alt ?_ ?_) | omega)
theorem c_l01From {n : Nat} (hn : n < 4294967296) : CallT S true 30 [.lf (.int .i64 n)] h lim K = K (.lf (.flt .f32 (can .f32 n))) h := by
  refine CallT_pure (F := L30) (HasFb.f30) rfl (by first | rfl | (split <;> rfl) | simp) ?_; unfold L30; dsimp only []
  have e1 : IntKind.u32.wrap (n : Int) = n := by rw [IntKind.wrap_u32]; omega
  repeat' (first | (simp (disch := first | omega | assumption | (simp only [List.length_set]; omega) | (simp [*] <;> fail) | assumption) [-Bool.decide_and, -Bool.decide_or, -Bool.not_and, -Bool.not_or, toNat_pred, toNat_succ, wrap64, wr_new, wr_new0, ok_if, ok_ifn, iadV_sl, makeV_int, decT, decF, over_at, *, e1, xop_from32]) | (with_reducible refine Gd_split (fun hc => ?_) (fun hc => ?_) <;> (have hc2 := hc; try simp at hc2)) | (with_reducible refine Br_split (fun hc => ?_) (fun hc => ?_) <;> (have hc2 := hc; try simp at hc2)) | (with_reducible refine GdT_split (fun hc => ?_) (fun hc => ?_) <;> (have hc2 := hc; try simp at hc2)) | (with_reducible refine WT_alt ?_ ?_) | omega)
end
section
variable [HasFf S]
end
section
variable [HasFl2 S]
def flushIf (b : Bool) (x : Nat) : Nat := if b then flushF x else x
theorem CF_flushIf {b : Bool} {x : Nat} (h : CF x) : CF (flushIf b x) := by unfold flushIf; split; exact CF_flush h; exact h
end
section
variable [HasFa S]
theorem wid_lt {x : Nat} (hx : x < 4294967296) : wid x < 18446744073709551616 := by
  cases hn : isNaN .f32 x
  · exact (wid_sign hx hn).2
  · rw [wid_nan hn]; exact nanOf_lt .f64
end
end
end Go.E
