/- Waves, both sides. -/
import Derived.Test.YtclbkfmelhheaaaMSq
set_option linter.unusedVariables false
set_option linter.unusedSimpArgs false
set_option exponentiation.threshold 3000
namespace Go.E
open Go
def L57 : LFn := ⟨1, (.seq (.reg [⟨(.some 2), (.mv (.c (.lf (.bool false)))), none⟩])
 (.seq (.reg [⟨(.some 3), (.mv (.t 0)), none⟩, ⟨(.some 4), (.call true 85 [(.t 3), (.c (.lf (.int .i64 0))), (.c (.lf (.int .i64 3)))]), none⟩, ⟨(.some 2), (.mv (.t 4)), none⟩])
 .ret)), [(.tmp 2)]⟩
def L177 : LFn := ⟨1, (.seq (.reg [⟨(.some 2), (.mv (.c (.lf (.flt .f32 0)))), none⟩])
 (.seq (.reg [⟨(.some 3), (.mv (.t 0)), none⟩, ⟨(.some 4), (.call true 198 [(.t 3)]), none⟩, ⟨(.some 5), (.bin .andNot (.t 4) (.c (.lf (.int .i64 2147483648)))), none⟩, ⟨(.some 6), (.call true 197 [(.t 5)]), none⟩, ⟨(.some 2), (.mv (.t 6)), none⟩])
 .ret)), [(.tmp 2)]⟩
def L130 : LFn := ⟨2, (.seq (.reg [⟨(.some 4), (.mv (.c (.lf (.flt .f32 0)))), none⟩])
 (.seq (.seq (.reg [⟨(.some 5), (.mv (.t 0)), none⟩])
 (.block 0 (.seq (.reg [⟨(.some 7), (.bin .eql (.t 5) (.c (.lf (.int .i64 0)))), none⟩, ⟨(.some 6), (.mv (.t 7)), none⟩])
 (.cond (.t 6) (.seq (.reg [⟨(.some 8), (.mv (.t 1)), none⟩, ⟨(.some 9), (.call true 176 [(.t 8)]), none⟩, ⟨(.some 4), (.mv (.t 9)), none⟩])
 .ret) (.seq (.reg [⟨(.some 11), (.bin .eql (.t 5) (.c (.lf (.int .i64 1)))), none⟩, ⟨(.some 10), (.mv (.t 11)), none⟩])
 (.cond (.t 10) (.seq (.reg [⟨(.some 12), (.mv (.t 1)), none⟩, ⟨(.some 13), (.bin .mul (.c (.lf (.flt .f32 1073741824))) (.t 12)), none⟩, ⟨(.some 14), (.bin .sub (.t 13) (.c (.lf (.flt .f32 1065353216)))), none⟩, ⟨(.some 4), (.mv (.t 14)), none⟩])
 .ret) (.seq (.reg [⟨(.some 16), (.bin .eql (.t 5) (.c (.lf (.int .i64 2)))), none⟩, ⟨(.some 15), (.mv (.t 16)), none⟩])
 (.cond (.t 15) (.seq (.seq (.reg [⟨(.some 17), (.mv (.t 1)), none⟩, ⟨(.some 18), (.bin .lss (.t 17) (.c (.lf (.flt .f32 1056964608)))), none⟩])
 (.cond (.t 18) (.seq (.reg [⟨(.some 4), (.mv (.c (.lf (.flt .f32 1065353216)))), none⟩])
 .ret) .skip))
 (.seq (.reg [⟨(.some 4), (.mv (.c (.lf (.flt .f32 3212836864)))), none⟩])
 .ret)) .skip))))))))
 (.seq (.reg [⟨(.some 19), (.mv (.t 1)), none⟩, ⟨(.some 20), (.bin .sub (.t 19) (.c (.lf (.flt .f32 1056964608)))), none⟩, ⟨(.some 21), (.call true 177 [(.t 20)]), none⟩, ⟨(.some 22), (.bin .mul (.c (.lf (.flt .f32 1082130432))) (.t 21)), none⟩, ⟨(.some 23), (.bin .sub (.t 22) (.c (.lf (.flt .f32 1065353216)))), none⟩, ⟨(.some 4), (.mv (.t 23)), none⟩])
 .ret))), [(.tmp 4)]⟩
def L62 : LFn := ⟨1, (.seq (.reg [⟨(.some 2), (.mv (.c (.lf (.bool false)))), none⟩])
 (.seq (.reg [⟨(.some 3), (.mv (.t 0)), none⟩, ⟨(.some 4), (.call true 91 [(.t 3), (.c (.lf (.int .i64 0))), (.c (.lf (.int .i64 3)))]), none⟩, ⟨(.some 2), (.mv (.t 4)), none⟩])
 .ret)), [(.tmp 2)]⟩
def L180 : LFn := ⟨2, (.seq (.reg [⟨(.some 4), (.mv (.c (.lf (.flt .f32 0)))), none⟩])
 (.seq (.seq (.reg [⟨(.some 5), (.mv (.t 0)), none⟩])
 (.block 0 (.seq (.reg [⟨(.some 7), (.bin .eql (.t 5) (.c (.lf (.int .i64 0)))), none⟩, ⟨(.some 6), (.mv (.t 7)), none⟩])
 (.cond (.t 6) (.seq (.reg [⟨(.some 8), (.mv (.t 1)), none⟩, ⟨(.some 9), (.call true 193 [(.t 8)]), none⟩, ⟨(.some 4), (.mv (.t 9)), none⟩])
 .ret) (.seq (.reg [⟨(.some 11), (.bin .eql (.t 5) (.c (.lf (.int .i64 1)))), none⟩, ⟨(.some 10), (.mv (.t 11)), none⟩])
 (.cond (.t 10) (.seq (.reg [⟨(.some 12), (.mv (.t 1)), none⟩, ⟨(.some 13), (.bin .mul (.c (.lf (.flt .f32 1073741824))) (.t 12)), none⟩, ⟨(.some 14), (.bin .sub (.t 13) (.c (.lf (.flt .f32 1065353216)))), none⟩, ⟨(.some 4), (.mv (.t 14)), none⟩])
 .ret) (.seq (.reg [⟨(.some 16), (.bin .eql (.t 5) (.c (.lf (.int .i64 2)))), none⟩, ⟨(.some 15), (.mv (.t 16)), none⟩])
 (.cond (.t 15) (.seq (.seq (.reg [⟨(.some 17), (.mv (.t 1)), none⟩, ⟨(.some 18), (.bin .lss (.t 17) (.c (.lf (.flt .f32 1056964608)))), none⟩])
 (.cond (.t 18) (.seq (.reg [⟨(.some 4), (.mv (.c (.lf (.flt .f32 1065353216)))), none⟩])
 .ret) .skip))
 (.seq (.reg [⟨(.some 4), (.mv (.c (.lf (.flt .f32 3212836864)))), none⟩])
 .ret)) .skip))))))))
 (.seq (.reg [⟨(.some 19), (.mv (.t 1)), none⟩, ⟨(.some 20), (.bin .sub (.t 19) (.c (.lf (.flt .f32 1056964608)))), none⟩, ⟨(.some 21), (.call true 199 [(.t 20)]), none⟩, ⟨(.some 22), (.bin .mul (.c (.lf (.flt .f32 1082130432))) (.t 21)), none⟩, ⟨(.some 23), (.bin .sub (.t 22) (.c (.lf (.flt .f32 1065353216)))), none⟩, ⟨(.some 4), (.mv (.t 23)), none⟩])
 .ret))), [(.tmp 4)]⟩
class HasWv (S : Sys) : Prop extends HasA S, HasSi S, HasFb S where
  f57 : S.fs 57 = some L57
  f177 : S.fs 177 = some L177
  f130 : S.fs 130 = some L130
  f62 : S.fs 62 = some L62
  f180 : S.fs 180 = some L180

class HasWa (S : Sys) : Prop extends HasWv S where

def phB (x : Nat) : Bool := fcmp .geq .f32 x 0 && fcmp .lss .f32 x 1065353216
def wave32 (k : Int) (x : Nat) : Nat := if k = 0 then sine32 x else if k = 1 then fbin .sub .f32 (fbin .mul .f32 1073741824 x) 1065353216 else if k = 2 then (if fcmp .lss .f32 x 1056964608 = true then 1065353216 else 3212836864) else fbin .sub .f32 (fbin .mul .f32 1082130432 (fabs (fbin .sub .f32 x 1056964608))) 1065353216
theorem wave_0 {x : Nat} : wave32 0 x = sine32 x := rfl
theorem wave_1 {x : Nat} : wave32 1 x = fbin .sub .f32 (fbin .mul .f32 1073741824 x) 1065353216 := rfl
theorem wave_2 {x : Nat} : wave32 2 x = if fcmp .lss .f32 x 1056964608 = true then 1065353216 else 3212836864 := rfl
theorem wave_3 {x : Nat} : wave32 3 x = fbin .sub .f32 (fbin .mul .f32 1082130432 (fabs (fbin .sub .f32 x 1056964608))) 1065353216 := rfl
theorem andNot31 {x : Nat} (hx : x < 4294967296) : binV .andNot (.lf (.int .i64 x)) (.lf (.int .i64 2147483648)) = some (.lf (.int .i64 ((x % 2147483648 : Nat) : Int))) := by
  have key : Go.bits .andNot .i64 x 2147483648 = ((x % 2147483648 : Nat) : Int) := by
    show IntKind.i64.wrap ((BitVec.ofInt 64 x &&& ~~~(BitVec.ofInt 64 2147483648)).toNat : Int) = _
    have e1 : (~~~(BitVec.ofInt 64 2147483648)).toNat = 18446744071562067967 := by decide
    have e2 : (BitVec.ofInt 64 (x : Int)).toNat = x := by rw [BitVec.toNat_ofInt]; omega
    have e3 : x &&& 18446744071562067967 = x % 2147483648 := by
      have hc : ∀ i : _root_.Fin 32, (18446744071562067967 : Nat).testBit i.1 = decide (i.1 < 31) := by decide
      apply Nat.eq_of_testBit_eq
      intro i
      rw [show (2147483648 : Nat) = 2 ^ 31 by decide, Nat.testBit_mod_two_pow, Nat.testBit_and]
      rcases Nat.lt_or_ge i 32 with hi | hi
      · rw [hc ⟨i, hi⟩, Bool.and_comm]
      · have : x.testBit i = false := Nat.testBit_lt_two_pow (Nat.lt_of_lt_of_le hx (Nat.pow_le_pow_right (n := 2) (by decide) hi))
        rw [this]; simp
    rw [BitVec.toNat_and, e1, e2, e3, wrap64 (by omega) (by omega)]
  simp [binV, isShift, ibin, key]
theorem can_abs {x : Nat} (hx : CF x) : can .f32 (x % 2147483648) = fabs x := by
  obtain ⟨h1, h2⟩ := hx
  unfold fabs
  cases hn : isNaN .f32 x
  · simp only [Bool.false_eq_true, if_false]
    refine can_of_not ?_
    rw [isNaN32] at hn ⊢
    rw [Nat.mod_mod]; exact hn
  · rw [can_of_nan hn] at h2
    subst h2
    decide +kernel
section
variable {S : Sys} {lim : Nat} {h : Hp} {K : CV → Hp → Prop}
section
variable [HasWv S]
@[simp] theorem c_l05Kind {x : Int} : CallT S true 57 [.lf (.int .i64 x)] h lim K = K (.lf (.bool (decide (0 ≤ x ∧ x ≤ 3)))) h := by
  refine CallT_pure (F := L57) (HasWv.f57) rfl (by first | rfl | (split <;> rfl) | simp) ?_; unfold L57; dsimp only []
  repeat' (first | (simp (disch := first | omega | assumption | (simp only [List.length_set]; omega) | (simp [*] <;> fail) | assumption) [-Bool.decide_and, -Bool.decide_or, -Bool.not_and, -Bool.not_or, toNat_pred, toNat_succ, wrap64, wr_new, wr_new0, ok_if, ok_ifn, iadV_sl, makeV_int, decT, decF, over_at, *]) | (with_reducible refine Gd_split (fun hc => ?_) (fun hc => ?_) <;> (have hc2 := hc; try simp at hc2)) | (with_reducible refine Br_split (fun hc => ?_) (fun hc => ?_) <;> (have hc2 := hc; try simp at hc2)) | (with_reducible refine GdT_split (fun hc => ?_) (fun hc => ?_) <;> (have hc2 := hc; try simp at hc2)) | (with_reducible refine WT_alt ?_ ?_) | omega)
@[simp] theorem c_isKind {x : Int} : CallT S true 62 [.lf (.int .i64 x)] h lim K = K (.lf (.bool (decide (0 ≤ x ∧ x ≤ 3)))) h := by
  refine CallT_pure (F := L62) (HasWv.f62) rfl (by first | rfl | (split <;> rfl) | simp) ?_; unfold L62; dsimp only []
  repeat' (first | (simp (disch := first | omega | assumption | (simp only [List.length_set]; omega) | (simp [*] <;> fail) | assumption) [-Bool.decide_and, -Bool.decide_or, -Bool.not_and, -Bool.not_or, toNat_pred, toNat_succ, wrap64, wr_new, wr_new0, ok_if, ok_ifn, iadV_sl, makeV_int, decT, decF, over_at, *]) | (with_reducible refine Gd_split (fun hc => ?_) (fun hc => ?_) <;> (have hc2 := hc; try simp at hc2)) | (with_reducible refine Br_split (fun hc => ?_) (fun hc => ?_) <;> (have hc2 := hc; try simp at hc2)) | (with_reducible refine GdT_split (fun hc => ?_) (fun hc => ?_) <;> (have hc2 := hc; try simp at hc2)) | (with_reducible refine WT_alt ?_ ?_) | omega)
theorem c_l05Abs {x : Nat} (hx : CF x) : CallT S true 177 [.lf (.flt .f32 x)] h lim K = K (.lf (.flt .f32 (fabs x))) h := by
  have e1 := andNot31 hx.1
  have e2 : ∀ K, CallT S true 197 [.lf (.int .i64 ((x : Int) % 2147483648))] h h.length K = K (.lf (.flt .f32 (fabs x))) h := fun K => by
    have := c_l01From (S := S) (h := h) (lim := h.length) (K := K) (n := x % 2147483648) (by omega)
    rw [can_abs hx] at this
    rw [← this]; congr 4
  refine CallT_pure (F := L177) (HasWv.f177) rfl (by first | rfl | (split <;> rfl) | simp) ?_; unfold L177; dsimp only []
  repeat' (first | (simp (disch := first | omega | assumption | (simp only [List.length_set]; omega) | (simp [*] <;> fail) | assumption) [-Bool.decide_and, -Bool.decide_or, -Bool.not_and, -Bool.not_or, toNat_pred, toNat_succ, wrap64, wr_new, wr_new0, ok_if, ok_ifn, iadV_sl, makeV_int, decT, decF, over_at, *, c_l01Bits hx]) | (with_reducible refine Gd_split (fun hc => ?_) (fun hc => ?_) <;> (have hc2 := hc; try simp at hc2)) | (with_reducible refine Br_split (fun hc => ?_) (fun hc => ?_) <;> (have hc2 := hc; try simp at hc2)) | (with_reducible refine GdT_split (fun hc => ?_) (fun hc => ?_) <;> (have hc2 := hc; try simp at hc2)) | (with_reducible refine WT_alt ?_ ?_) | omega)
theorem c_l05Wave {k : Int} {x : Nat} (hk : 0 ≤ k ∧ k ≤ 3) (hx : CF x) : CallT S true 130 [.lf (.int .i64 k), .lf (.flt .f32 x)] h lim K = K (.lf (.flt .f32 (wave32 k x))) h := by
  have hs := fun h lim K => c_specSine (S := S) (h := h) (lim := lim) (K := K) hx.1
  have ha := fun h lim K => c_l05Abs (S := S) (h := h) (lim := lim) (K := K) (show CF (fbin .sub .f32 x 1056964608) from CF_bin)
  rcases (show k = 0 ∨ k = 1 ∨ k = 2 ∨ k = 3 by omega) with rfl | rfl | rfl | rfl
  · rw [wave_0]
    refine CallT_pure (F := L130) (HasWv.f130) rfl (by first | rfl | (split <;> rfl) | simp) ?_; unfold L130; dsimp only []
    repeat' (first | (simp (disch := first | omega | assumption | (simp only [List.length_set]; omega) | (simp [*] <;> fail) | assumption) [-Bool.decide_and, -Bool.decide_or, -Bool.not_and, -Bool.not_or, toNat_pred, toNat_succ, wrap64, wr_new, wr_new0, ok_if, ok_ifn, iadV_sl, makeV_int, decT, decF, over_at, *]) | (with_reducible refine Gd_split (fun hc => ?_) (fun hc => ?_) <;> (have hc2 := hc; try simp at hc2)) | (with_reducible refine Br_split (fun hc => ?_) (fun hc => ?_) <;> (have hc2 := hc; try simp at hc2)) | (with_reducible refine GdT_split (fun hc => ?_) (fun hc => ?_) <;> (have hc2 := hc; try simp at hc2)) | (with_reducible refine WT_alt ?_ ?_) | omega)
  · rw [wave_1]
    refine CallT_pure (F := L130) (HasWv.f130) rfl (by first | rfl | (split <;> rfl) | simp) ?_; unfold L130; dsimp only []
    repeat' (first | (simp (disch := first | omega | assumption | (simp only [List.length_set]; omega) | (simp [*] <;> fail) | assumption) [-Bool.decide_and, -Bool.decide_or, -Bool.not_and, -Bool.not_or, toNat_pred, toNat_succ, wrap64, wr_new, wr_new0, ok_if, ok_ifn, iadV_sl, makeV_int, decT, decF, over_at, *]) | (with_reducible refine Gd_split (fun hc => ?_) (fun hc => ?_) <;> (have hc2 := hc; try simp at hc2)) | (with_reducible refine Br_split (fun hc => ?_) (fun hc => ?_) <;> (have hc2 := hc; try simp at hc2)) | (with_reducible refine GdT_split (fun hc => ?_) (fun hc => ?_) <;> (have hc2 := hc; try simp at hc2)) | (with_reducible refine WT_alt ?_ ?_) | omega)
  · rw [wave_2]
    cases hh : fcmp .lss .f32 x 1056964608
    · simp only [Bool.false_eq_true, if_false]
      refine CallT_pure (F := L130) (HasWv.f130) rfl (by first | rfl | (split <;> rfl) | simp) ?_; unfold L130; dsimp only []
      repeat' (first | (simp (disch := first | omega | assumption | (simp only [List.length_set]; omega) | (simp [*] <;> fail) | assumption) [-Bool.decide_and, -Bool.decide_or, -Bool.not_and, -Bool.not_or, toNat_pred, toNat_succ, wrap64, wr_new, wr_new0, ok_if, ok_ifn, iadV_sl, makeV_int, decT, decF, over_at, *]) | (with_reducible refine Gd_split (fun hc => ?_) (fun hc => ?_) <;> (have hc2 := hc; try simp at hc2)) | (with_reducible refine Br_split (fun hc => ?_) (fun hc => ?_) <;> (have hc2 := hc; try simp at hc2)) | (with_reducible refine GdT_split (fun hc => ?_) (fun hc => ?_) <;> (have hc2 := hc; try simp at hc2)) | (with_reducible refine WT_alt ?_ ?_) | omega)
    · simp only [if_true]
      refine CallT_pure (F := L130) (HasWv.f130) rfl (by first | rfl | (split <;> rfl) | simp) ?_; unfold L130; dsimp only []
      repeat' (first | (simp (disch := first | omega | assumption | (simp only [List.length_set]; omega) | (simp [*] <;> fail) | assumption) [-Bool.decide_and, -Bool.decide_or, -Bool.not_and, -Bool.not_or, toNat_pred, toNat_succ, wrap64, wr_new, wr_new0, ok_if, ok_ifn, iadV_sl, makeV_int, decT, decF, over_at, *]) | (with_reducible refine Gd_split (fun hc => ?_) (fun hc => ?_) <;> (have hc2 := hc; try simp at hc2)) | (with_reducible refine Br_split (fun hc => ?_) (fun hc => ?_) <;> (have hc2 := hc; try simp at hc2)) | (with_reducible refine GdT_split (fun hc => ?_) (fun hc => ?_) <;> (have hc2 := hc; try simp at hc2)) | (with_reducible refine WT_alt ?_ ?_) | omega)
  · rw [wave_3]
    refine CallT_pure (F := L130) (HasWv.f130) rfl (by first | rfl | (split <;> rfl) | simp) ?_; unfold L130; dsimp only []
    repeat' (first | (simp (disch := first | omega | assumption | (simp only [List.length_set]; omega) | (simp [*] <;> fail) | assumption) [-Bool.decide_and, -Bool.decide_or, -Bool.not_and, -Bool.not_or, toNat_pred, toNat_succ, wrap64, wr_new, wr_new0, ok_if, ok_ifn, iadV_sl, makeV_int, decT, decF, over_at, *]) | (with_reducible refine Gd_split (fun hc => ?_) (fun hc => ?_) <;> (have hc2 := hc; try simp at hc2)) | (with_reducible refine Br_split (fun hc => ?_) (fun hc => ?_) <;> (have hc2 := hc; try simp at hc2)) | (with_reducible refine GdT_split (fun hc => ?_) (fun hc => ?_) <;> (have hc2 := hc; try simp at hc2)) | (with_reducible refine WT_alt ?_ ?_) | omega)
theorem c_waveAt {k : Int} {x : Nat} (hk : 0 ≤ k ∧ k ≤ 3) (hx : CF x) : CallT S true 180 [.lf (.int .i64 k), .lf (.flt .f32 x)] h lim K = K (.lf (.flt .f32 (wave32 k x))) h := by
  have hs := fun h lim K => c_implSine (S := S) (h := h) (lim := lim) (K := K) hx.1
  have ha := fun h lim K => c_absolute (S := S) (h := h) (lim := lim) (K := K) (show CF (fbin .sub .f32 x 1056964608) from CF_bin)
  rcases (show k = 0 ∨ k = 1 ∨ k = 2 ∨ k = 3 by omega) with rfl | rfl | rfl | rfl
  · rw [wave_0]
    refine CallT_pure (F := L180) (HasWv.f180) rfl (by first | rfl | (split <;> rfl) | simp) ?_; unfold L180; dsimp only []
    repeat' (first | (simp (disch := first | omega | assumption | (simp only [List.length_set]; omega) | (simp [*] <;> fail) | assumption) [-Bool.decide_and, -Bool.decide_or, -Bool.not_and, -Bool.not_or, toNat_pred, toNat_succ, wrap64, wr_new, wr_new0, ok_if, ok_ifn, iadV_sl, makeV_int, decT, decF, over_at, *]) | (with_reducible refine Gd_split (fun hc => ?_) (fun hc => ?_) <;> (have hc2 := hc; try simp at hc2)) | (with_reducible refine Br_split (fun hc => ?_) (fun hc => ?_) <;> (have hc2 := hc; try simp at hc2)) | (with_reducible refine GdT_split (fun hc => ?_) (fun hc => ?_) <;> (have hc2 := hc; try simp at hc2)) | (with_reducible refine WT_alt ?_ ?_) | omega)
  · rw [wave_1]
    refine CallT_pure (F := L180) (HasWv.f180) rfl (by first | rfl | (split <;> rfl) | simp) ?_; unfold L180; dsimp only []
    repeat' (first | (simp (disch := first | omega | assumption | (simp only [List.length_set]; omega) | (simp [*] <;> fail) | assumption) [-Bool.decide_and, -Bool.decide_or, -Bool.not_and, -Bool.not_or, toNat_pred, toNat_succ, wrap64, wr_new, wr_new0, ok_if, ok_ifn, iadV_sl, makeV_int, decT, decF, over_at, *]) | (with_reducible refine Gd_split (fun hc => ?_) (fun hc => ?_) <;> (have hc2 := hc; try simp at hc2)) | (with_reducible refine Br_split (fun hc => ?_) (fun hc => ?_) <;> (have hc2 := hc; try simp at hc2)) | (with_reducible refine GdT_split (fun hc => ?_) (fun hc => ?_) <;> (have hc2 := hc; try simp at hc2)) | (with_reducible refine WT_alt ?_ ?_) | omega)
  · rw [wave_2]
    cases hh : fcmp .lss .f32 x 1056964608
    · simp only [Bool.false_eq_true, if_false]
      refine CallT_pure (F := L180) (HasWv.f180) rfl (by first | rfl | (split <;> rfl) | simp) ?_; unfold L180; dsimp only []
      repeat' (first | (simp (disch := first | omega | assumption | (simp only [List.length_set]; omega) | (simp [*] <;> fail) | assumption) [-Bool.decide_and, -Bool.decide_or, -Bool.not_and, -Bool.not_or, toNat_pred, toNat_succ, wrap64, wr_new, wr_new0, ok_if, ok_ifn, iadV_sl, makeV_int, decT, decF, over_at, *]) | (with_reducible refine Gd_split (fun hc => ?_) (fun hc => ?_) <;> (have hc2 := hc; try simp at hc2)) | (with_reducible refine Br_split (fun hc => ?_) (fun hc => ?_) <;> (have hc2 := hc; try simp at hc2)) | (with_reducible refine GdT_split (fun hc => ?_) (fun hc => ?_) <;> (have hc2 := hc; try simp at hc2)) | (with_reducible refine WT_alt ?_ ?_) | omega)
    · simp only [if_true]
      refine CallT_pure (F := L180) (HasWv.f180) rfl (by first | rfl | (split <;> rfl) | simp) ?_; unfold L180; dsimp only []
      repeat' (first | (simp (disch := first | omega | assumption | (simp only [List.length_set]; omega) | (simp [*] <;> fail) | assumption) [-Bool.decide_and, -Bool.decide_or, -Bool.not_and, -Bool.not_or, toNat_pred, toNat_succ, wrap64, wr_new, wr_new0, ok_if, ok_ifn, iadV_sl, makeV_int, decT, decF, over_at, *]) | (with_reducible refine Gd_split (fun hc => ?_) (fun hc => ?_) <;> (have hc2 := hc; try simp at hc2)) | (with_reducible refine Br_split (fun hc => ?_) (fun hc => ?_) <;> (have hc2 := hc; try simp at hc2)) | (with_reducible refine GdT_split (fun hc => ?_) (fun hc => ?_) <;> (have hc2 := hc; try simp at hc2)) | (with_reducible refine WT_alt ?_ ?_) | omega)
  · rw [wave_3]
    refine CallT_pure (F := L180) (HasWv.f180) rfl (by first | rfl | (split <;> rfl) | simp) ?_; unfold L180; dsimp only []
    repeat' (first | (simp (disch := first | omega | assumption | (simp only [List.length_set]; omega) | (simp [*] <;> fail) | assumption) [-Bool.decide_and, -Bool.decide_or, -Bool.not_and, -Bool.not_or, toNat_pred, toNat_succ, wrap64, wr_new, wr_new0, ok_if, ok_ifn, iadV_sl, makeV_int, decT, decF, over_at, *]) | (with_reducible refine Gd_split (fun hc => ?_) (fun hc => ?_) <;> (have hc2 := hc; try simp at hc2)) | (with_reducible refine Br_split (fun hc => ?_) (fun hc => ?_) <;> (have hc2 := hc; try simp at hc2)) | (with_reducible refine GdT_split (fun hc => ?_) (fun hc => ?_) <;> (have hc2 := hc; try simp at hc2)) | (with_reducible refine WT_alt ?_ ?_) | omega)
end
end
end Go.E
