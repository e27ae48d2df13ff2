/- Waves, both sides. -/
import Derived.Test.YtkabbddhdnddoaaMSq
set_option linter.unusedVariables false
set_option linter.unusedSimpArgs false
set_option exponentiation.threshold 3000
namespace Go.E
open Go
def L29 : LFn := ⟨1, (.seq (.reg [⟨(.some 2), (.mv (.c (.lf (.bool false)))), none⟩])
 (.seq (.reg [⟨(.some 3), (.mv (.t 0)), none⟩, ⟨(.some 4), (.call true 45 [(.t 3), (.c (.lf (.int .i64 0))), (.c (.lf (.int .i64 3)))]), none⟩, ⟨(.some 2), (.mv (.t 4)), none⟩])
 .ret)), [(.tmp 2)]⟩
def L36 : LFn := ⟨1, (.seq (.reg [⟨(.some 2), (.mv (.c (.lf (.bool false)))), none⟩])
 (.seq (.reg [⟨(.some 3), (.mv (.t 0)), none⟩, ⟨(.some 4), (.bin .geq (.t 3) (.c (.lf (.flt .f32 0)))), none⟩, ⟨(.some 5), (.mv (.t 4)), none⟩, ⟨(.some 6), (.mv (.t 0)), (.some (5, true))⟩, ⟨(.some 7), (.bin .lss (.t 6) (.c (.lf (.flt .f32 1065353216)))), (.some (5, true))⟩, ⟨(.some 8), (.pick (.t 5) (.t 7) (.c (.lf (.bool false)))), none⟩, ⟨(.some 2), (.mv (.t 8)), none⟩])
 .ret)), [(.tmp 2)]⟩
def L38 : LFn := ⟨2, (.seq (.reg [⟨(.some 4), (.mv (.c (.lf (.flt .f32 0)))), none⟩])
 (.seq (.seq (.reg [⟨(.some 5), (.mv (.t 0)), none⟩])
 (.block 0 (.seq (.reg [⟨(.some 7), (.bin .eql (.t 5) (.c (.lf (.int .i64 0)))), none⟩, ⟨(.some 6), (.mv (.t 7)), none⟩])
 (.cond (.t 6) (.seq (.reg [⟨(.some 8), (.mv (.t 1)), none⟩, ⟨(.some 9), (.call true 47 [(.t 8)]), none⟩, ⟨(.some 4), (.mv (.t 9)), none⟩])
 .ret) (.seq (.reg [⟨(.some 11), (.bin .eql (.t 5) (.c (.lf (.int .i64 1)))), none⟩, ⟨(.some 10), (.mv (.t 11)), none⟩])
 (.cond (.t 10) (.seq (.reg [⟨(.some 12), (.mv (.t 1)), none⟩, ⟨(.some 13), (.bin .mul (.c (.lf (.flt .f32 1073741824))) (.t 12)), none⟩, ⟨(.some 14), (.bin .sub (.t 13) (.c (.lf (.flt .f32 1065353216)))), none⟩, ⟨(.some 4), (.mv (.t 14)), none⟩])
 .ret) (.seq (.reg [⟨(.some 16), (.bin .eql (.t 5) (.c (.lf (.int .i64 2)))), none⟩, ⟨(.some 15), (.mv (.t 16)), none⟩])
 (.cond (.t 15) (.seq (.seq (.reg [⟨(.some 17), (.mv (.t 1)), none⟩, ⟨(.some 18), (.bin .lss (.t 17) (.c (.lf (.flt .f32 1056964608)))), none⟩])
 (.cond (.t 18) (.seq (.reg [⟨(.some 4), (.mv (.c (.lf (.flt .f32 1065353216)))), none⟩])
 .ret) .skip))
 (.seq (.reg [⟨(.some 4), (.mv (.c (.lf (.flt .f32 3212836864)))), none⟩])
 .ret)) .skip))))))))
 (.seq (.reg [⟨(.some 19), (.mv (.t 1)), none⟩, ⟨(.some 20), (.bin .sub (.t 19) (.c (.lf (.flt .f32 1056964608)))), none⟩, ⟨(.some 21), (.call true 48 [(.t 20)]), none⟩, ⟨(.some 22), (.bin .mul (.c (.lf (.flt .f32 1082130432))) (.t 21)), none⟩, ⟨(.some 23), (.bin .sub (.t 22) (.c (.lf (.flt .f32 1065353216)))), none⟩, ⟨(.some 4), (.mv (.t 23)), none⟩])
 .ret))), [(.tmp 4)]⟩
class HasWv (S : Sys) : Prop extends HasA S, HasSi S, HasFb S where
  f29 : S.fs 29 = some L29
  f36 : S.fs 36 = some L36
  f38 : S.fs 38 = some L38
def L19 : LFn := ⟨2, (.seq (.reg [⟨(.some 4), (.mv (.c (.lf (.flt .f32 0)))), none⟩, ⟨(.some 5), (.mv (.c (.lf (.bool false)))), none⟩])
 (.seq (.seq (.reg [⟨(.some 6), (.mv (.t 0)), none⟩, ⟨(.some 7), (.call true 29 [(.t 6)]), none⟩, ⟨(.some 8), (.una .not (.t 7)), none⟩, ⟨(.some 9), (.mv (.t 8)), none⟩, ⟨(.some 10), (.mv (.t 1)), (.some (9, false))⟩, ⟨(.some 11), (.call true 36 [(.t 10)]), (.some (9, false))⟩, ⟨(.some 12), (.una .not (.t 11)), (.some (9, false))⟩, ⟨(.some 13), (.pick (.t 9) (.c (.lf (.bool true))) (.t 12)), none⟩])
 (.cond (.t 13) (.seq (.reg [⟨(.some 4), (.mv (.c (.lf (.flt .f32 0)))), none⟩, ⟨(.some 5), (.mv (.c (.lf (.bool false)))), none⟩])
 .ret) .skip))
 (.seq (.reg [⟨(.some 14), (.mv (.t 0)), none⟩, ⟨(.some 15), (.mv (.t 1)), none⟩, ⟨(.some 16), (.call true 38 [(.t 14), (.t 15)]), none⟩, ⟨(.some 4), (.mv (.t 16)), none⟩, ⟨(.some 5), (.mv (.c (.lf (.bool true)))), none⟩])
 .ret))), [(.tmp 4), (.tmp 5)]⟩
class HasWa (S : Sys) : Prop extends HasWv S where
  f19 : S.fs 19 = some L19
def phB (x : Nat) : Bool := fcmp .geq .f32 x 0 && fcmp .lss .f32 x 1065353216
def wave32 (k : Int) (x : Nat) : Nat := if k = 0 then sine32 x else if k = 1 then fbin .sub .f32 (fbin .mul .f32 1073741824 x) 1065353216 else if k = 2 then (if fcmp .lss .f32 x 1056964608 = true then 1065353216 else 3212836864) else fbin .sub .f32 (fbin .mul .f32 1082130432 (fabs (fbin .sub .f32 x 1056964608))) 1065353216
theorem wave_0 {x : Nat} : wave32 0 x = sine32 x := rfl
theorem wave_1 {x : Nat} : wave32 1 x = fbin .sub .f32 (fbin .mul .f32 1073741824 x) 1065353216 := rfl
theorem wave_2 {x : Nat} : wave32 2 x = if fcmp .lss .f32 x 1056964608 = true then 1065353216 else 3212836864 := rfl
theorem wave_3 {x : Nat} : wave32 3 x = fbin .sub .f32 (fbin .mul .f32 1082130432 (fabs (fbin .sub .f32 x 1056964608))) 1065353216 := rfl
theorem andNot31 {x : Nat} (hx : x < 4294967296) : binV .andNot (.lf (.int .i64 x)) (.lf (.int .i64 2147483648)) = some (.lf (.int .i64 ((x % 2147483648 : Nat) : Int))) := by
  have key : Go.bits .andNot .i64 x 2147483648 = ((x % 2147483648 : Nat) : Int) := by
    show IntKind.i64.wrap ((BitVec.ofInt 64 x &&& ~~~(BitVec.ofInt 64 2147483648)).toNat : Int) = _
    have e1 : (~~~(BitVec.ofInt 64 2147483648)).toNat = 18446744071562067967 := by decide
    have e2 : (BitVec.ofInt 64 (x : Int)).toNat = x := by rw [BitVec.toNat_ofInt]; omega
    have e3 : x &&& 18446744071562067967 = x % 2147483648 := by
      have hc : ∀ i : _root_.Fin 32, (18446744071562067967 : Nat).testBit i.1 = decide (i.1 < 31) := by decide
      apply Nat.eq_of_testBit_eq
      intro i
      rw [show (2147483648 : Nat) = 2 ^ 31 by decide, Nat.testBit_mod_two_pow, Nat.testBit_and]
      rcases Nat.lt_or_ge i 32 with hi | hi
      · rw [hc ⟨i, hi⟩, Bool.and_comm]
      · have : x.testBit i = false := Nat.testBit_lt_two_pow (Nat.lt_of_lt_of_le hx (Nat.pow_le_pow_right (n := 2) (by decide) hi))
        rw [this]; simp
    rw [BitVec.toNat_and, e1, e2, e3, wrap64 (by omega) (by omega)]
  simp [binV, isShift, ibin, key]
theorem can_abs {x : Nat} (hx : CF x) : can .f32 (x % 2147483648) = fabs x := by
  obtain ⟨h1, h2⟩ := hx
  unfold fabs
  cases hn : isNaN .f32 x
  · simp only [Bool.false_eq_true, if_false]
    refine can_of_not ?_
    rw [isNaN32] at hn ⊢
    rw [Nat.mod_mod]; exact hn
  · rw [can_of_nan hn] at h2
    subst h2
    decide +kernel
section
variable {S : Sys} {lim : Nat} {h : Hp} {K : CV → Hp → Prop}
section
variable [HasWv S]
@[simp] theorem c_isKind {x : Int} : CallT S true 29 [.lf (.int .i64 x)] h lim K = K (.lf (.bool (decide (0 ≤ x ∧ x ≤ 3)))) h := by
  refine CallT_pure (F := L29) (HasWv.f29) rfl (by first | rfl | (split <;> rfl) | simp) ?_; unfold L29; dsimp only []
  repeat' (first | (simp (disch := first | omega | assumption | (simp only [List.length_set]; omega) | (simp [*] <;> fail) | assumption) [-Bool.decide_and, -Bool.decide_or, -Bool.not_and, -Bool.not_or, toNat_pred, toNat_succ, wrap64, wr_new, wr_new0, ok_if, ok_ifn, iadV_sl, makeV_int, decT, decF, over_at, *]) | (with_reducible refine Gd_split (fun hc => ?_) (fun hc => ?_) <;> (have hc2 := hc; try simp at hc2)) | (with_reducible refine Br_split (fun hc => ?_) (fun hc => ?_) <;> (have hc2 := hc; try simp at hc2)) | (with_reducible refine GdT_split (fun hc => ?_) (fun hc => ?_) <;> (have hc2 := hc; try simp at hc2)) | (with_reducible refine WT_alt ?_ ?_) | omega)
@[simp] theorem c_isPhase {x : Nat} : CallT S true 36 [.lf (.flt .f32 x)] h lim K = K (.lf (.bool (phB x))) h := by
  unfold phB
  refine CallT_pure (F := L36) (HasWv.f36) rfl (by first | rfl | (split <;> rfl) | simp) ?_; unfold L36; dsimp only []
  repeat' (first | (simp (disch := first | omega | assumption | (simp only [List.length_set]; omega) | (simp [*] <;> fail) | assumption) [-Bool.decide_and, -Bool.decide_or, -Bool.not_and, -Bool.not_or, toNat_pred, toNat_succ, wrap64, wr_new, wr_new0, ok_if, ok_ifn, iadV_sl, makeV_int, decT, decF, over_at, *]) | (with_reducible refine Gd_split (fun hc => ?_) (fun hc => ?_) <;> (have hc2 := hc; try simp at hc2)) | (with_reducible refine Br_split (fun hc => ?_) (fun hc => ?_) <;> (have hc2 := hc; try simp at hc2)) | (with_reducible refine GdT_split (fun hc => ?_) (fun hc => ?_) <;> (have hc2 := hc; try simp at hc2)) | (with_reducible refine WT_alt ?_ ?_) | omega)
theorem c_waveAt {k : Int} {x : Nat} (hk : 0 ≤ k ∧ k ≤ 3) (hx : CF x) : CallT S true 38 [.lf (.int .i64 k), .lf (.flt .f32 x)] h lim K = K (.lf (.flt .f32 (wave32 k x))) h := by
  have hs := fun h lim K => c_implSine (S := S) (h := h) (lim := lim) (K := K) hx.1
  have ha := fun h lim K => c_absolute (S := S) (h := h) (lim := lim) (K := K) (show CF (fbin .sub .f32 x 1056964608) from CF_bin)
  rcases (show k = 0 ∨ k = 1 ∨ k = 2 ∨ k = 3 by omega) with rfl | rfl | rfl | rfl
  · rw [wave_0]
    refine CallT_pure (F := L38) (HasWv.f38) rfl (by first | rfl | (split <;> rfl) | simp) ?_; unfold L38; dsimp only []
    repeat' (first | (simp (disch := first | omega | assumption | (simp only [List.length_set]; omega) | (simp [*] <;> fail) | assumption) [-Bool.decide_and, -Bool.decide_or, -Bool.not_and, -Bool.not_or, toNat_pred, toNat_succ, wrap64, wr_new, wr_new0, ok_if, ok_ifn, iadV_sl, makeV_int, decT, decF, over_at, *]) | (with_reducible refine Gd_split (fun hc => ?_) (fun hc => ?_) <;> (have hc2 := hc; try simp at hc2)) | (with_reducible refine Br_split (fun hc => ?_) (fun hc => ?_) <;> (have hc2 := hc; try simp at hc2)) | (with_reducible refine GdT_split (fun hc => ?_) (fun hc => ?_) <;> (have hc2 := hc; try simp at hc2)) | (with_reducible refine WT_alt ?_ ?_) | omega)
  · rw [wave_1]
    refine CallT_pure (F := L38) (HasWv.f38) rfl (by first | rfl | (split <;> rfl) | simp) ?_; unfold L38; dsimp only []
    repeat' (first | (simp (disch := first | omega | assumption | (simp only [List.length_set]; omega) | (simp [*] <;> fail) | assumption) [-Bool.decide_and, -Bool.decide_or, -Bool.not_and, -Bool.not_or, toNat_pred, toNat_succ, wrap64, wr_new, wr_new0, ok_if, ok_ifn, iadV_sl, makeV_int, decT, decF, over_at, *]) | (with_reducible refine Gd_split (fun hc => ?_) (fun hc => ?_) <;> (have hc2 := hc; try simp at hc2)) | (with_reducible refine Br_split (fun hc => ?_) (fun hc => ?_) <;> (have hc2 := hc; try simp at hc2)) | (with_reducible refine GdT_split (fun hc => ?_) (fun hc => ?_) <;> (have hc2 := hc; try simp at hc2)) | (with_reducible refine WT_alt ?_ ?_) | omega)
  · rw [wave_2]
    cases hh : fcmp .lss .f32 x 1056964608
    · simp only [Bool.false_eq_true, if_false]
      refine CallT_pure (F := L38) (HasWv.f38) rfl (by first | rfl | (split <;> rfl) | simp) ?_; unfold L38; dsimp only []
      repeat' (first | (simp (disch := first | omega | assumption | (simp only [List.length_set]; omega) | (simp [*] <;> fail) | assumption) [-Bool.decide_and, -Bool.decide_or, -Bool.not_and, -Bool.not_or, toNat_pred, toNat_succ, wrap64, wr_new, wr_new0, ok_if, ok_ifn, iadV_sl, makeV_int, decT, decF, over_at, *]) | (with_reducible refine Gd_split (fun hc => ?_) (fun hc => ?_) <;> (have hc2 := hc; try simp at hc2)) | (with_reducible refine Br_split (fun hc => ?_) (fun hc => ?_) <;> (have hc2 := hc; try simp at hc2)) | (with_reducible refine GdT_split (fun hc => ?_) (fun hc => ?_) <;> (have hc2 := hc; try simp at hc2)) | (with_reducible refine WT_alt ?_ ?_) | omega)
    · simp only [if_true]
      refine CallT_pure (F := L38) (HasWv.f38) rfl (by first | rfl | (split <;> rfl) | simp) ?_; unfold L38; dsimp only []
      repeat' (first | (simp (disch := first | omega | assumption | (simp only [List.length_set]; omega) | (simp [*] <;> fail) | assumption) [-Bool.decide_and, -Bool.decide_or, -Bool.not_and, -Bool.not_or, toNat_pred, toNat_succ, wrap64, wr_new, wr_new0, ok_if, ok_ifn, iadV_sl, makeV_int, decT, decF, over_at, *]) | (with_reducible refine Gd_split (fun hc => ?_) (fun hc => ?_) <;> (have hc2 := hc; try simp at hc2)) | (with_reducible refine Br_split (fun hc => ?_) (fun hc => ?_) <;> (have hc2 := hc; try simp at hc2)) | (with_reducible refine GdT_split (fun hc => ?_) (fun hc => ?_) <;> (have hc2 := hc; try simp at hc2)) | (with_reducible refine WT_alt ?_ ?_) | omega)
  · rw [wave_3]
    refine CallT_pure (F := L38) (HasWv.f38) rfl (by first | rfl | (split <;> rfl) | simp) ?_; unfold L38; dsimp only []
    repeat' (first | (simp (disch := first | omega | assumption | (simp only [List.length_set]; omega) | (simp [*] <;> fail) | assumption) [-Bool.decide_and, -Bool.decide_or, -Bool.not_and, -Bool.not_or, toNat_pred, toNat_succ, wrap64, wr_new, wr_new0, ok_if, ok_ifn, iadV_sl, makeV_int, decT, decF, over_at, *]) | (with_reducible refine Gd_split (fun hc => ?_) (fun hc => ?_) <;> (have hc2 := hc; try simp at hc2)) | (with_reducible refine Br_split (fun hc => ?_) (fun hc => ?_) <;> (have hc2 := hc; try simp at hc2)) | (with_reducible refine GdT_split (fun hc => ?_) (fun hc => ?_) <;> (have hc2 := hc; try simp at hc2)) | (with_reducible refine WT_alt ?_ ?_) | omega)
end
section
variable [HasWa S]
def waveOk (k : Int) (x : Nat) : Prop := (0 ≤ k ∧ k ≤ 3) ∧ phB x = true
instance {k : Int} {x : Nat} : Decidable (waveOk k x) := by unfold waveOk; infer_instance
def waveT (k : Int) (x : Nat) : CV := if waveOk k x then .tup [.lf (.flt .f32 (wave32 k x)), .lf (.bool true)] else .tup [.lf (.flt .f32 0), .lf (.bool false)]
theorem c_implWaveAt {k : Int} {x : Nat} (hx : CF x) : CallT S true 19 [.lf (.int .i64 k), .lf (.flt .f32 x)] h lim K = K (waveT k x) h := by
  by_cases hk : 0 ≤ k ∧ k ≤ 3
  · have hw := fun h lim K => c_waveAt (S := S) (h := h) (lim := lim) (K := K) hk hx
    cases hp : phB x
    · have e : waveT k x = .tup [.lf (.flt .f32 0), .lf (.bool false)] := by unfold waveT; rw [if_neg]; intro q; have := q.2; rw [hp] at this; cases this
      rw [e]
      refine CallT_pure (F := L19) (HasWa.f19) rfl (by first | rfl | (split <;> rfl) | simp) ?_; unfold L19; dsimp only []
      repeat' (first | (simp (disch := first | omega | assumption | (simp only [List.length_set]; omega) | (simp [*] <;> fail) | assumption) [-Bool.decide_and, -Bool.decide_or, -Bool.not_and, -Bool.not_or, toNat_pred, toNat_succ, wrap64, wr_new, wr_new0, ok_if, ok_ifn, iadV_sl, makeV_int, decT, decF, over_at, *]) | (with_reducible refine Gd_split (fun hc => ?_) (fun hc => ?_) <;> (have hc2 := hc; try simp at hc2)) | (with_reducible refine Br_split (fun hc => ?_) (fun hc => ?_) <;> (have hc2 := hc; try simp at hc2)) | (with_reducible refine GdT_split (fun hc => ?_) (fun hc => ?_) <;> (have hc2 := hc; try simp at hc2)) | (with_reducible refine WT_alt ?_ ?_) | omega)
    · have e : waveT k x = .tup [.lf (.flt .f32 (wave32 k x)), .lf (.bool true)] := by unfold waveT; rw [if_pos ⟨hk, hp⟩]
      rw [e]
      refine CallT_pure (F := L19) (HasWa.f19) rfl (by first | rfl | (split <;> rfl) | simp) ?_; unfold L19; dsimp only []
      repeat' (first | (simp (disch := first | omega | assumption | (simp only [List.length_set]; omega) | (simp [*] <;> fail) | assumption) [-Bool.decide_and, -Bool.decide_or, -Bool.not_and, -Bool.not_or, toNat_pred, toNat_succ, wrap64, wr_new, wr_new0, ok_if, ok_ifn, iadV_sl, makeV_int, decT, decF, over_at, *]) | (with_reducible refine Gd_split (fun hc => ?_) (fun hc => ?_) <;> (have hc2 := hc; try simp at hc2)) | (with_reducible refine Br_split (fun hc => ?_) (fun hc => ?_) <;> (have hc2 := hc; try simp at hc2)) | (with_reducible refine GdT_split (fun hc => ?_) (fun hc => ?_) <;> (have hc2 := hc; try simp at hc2)) | (with_reducible refine WT_alt ?_ ?_) | omega)
  · have e : waveT k x = .tup [.lf (.flt .f32 0), .lf (.bool false)] := by unfold waveT; rw [if_neg]; exact fun q => hk q.1
    rw [e]
    refine CallT_pure (F := L19) (HasWa.f19) rfl (by first | rfl | (split <;> rfl) | simp) ?_; unfold L19; dsimp only []
    repeat' (first | (simp (disch := first | omega | assumption | (simp only [List.length_set]; omega) | (simp [*] <;> fail) | assumption) [-Bool.decide_and, -Bool.decide_or, -Bool.not_and, -Bool.not_or, toNat_pred, toNat_succ, wrap64, wr_new, wr_new0, ok_if, ok_ifn, iadV_sl, makeV_int, decT, decF, over_at, *]) | (with_reducible refine Gd_split (fun hc => ?_) (fun hc => ?_) <;> (have hc2 := hc; try simp at hc2)) | (with_reducible refine Br_split (fun hc => ?_) (fun hc => ?_) <;> (have hc2 := hc; try simp at hc2)) | (with_reducible refine GdT_split (fun hc => ?_) (fun hc => ?_) <;> (have hc2 := hc; try simp at hc2)) | (with_reducible refine WT_alt ?_ ?_) | omega)
end
end
end Go.E
