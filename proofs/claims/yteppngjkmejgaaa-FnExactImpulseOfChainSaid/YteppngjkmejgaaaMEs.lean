/- What an effect makes of samples, the reference's side. -/
import Derived.Test.YteppngjkmejgaaaMEp
import Derived.Test.YteppngjkmejgaaaMEr
set_option linter.unusedVariables false
set_option linter.unusedSimpArgs false
namespace Go.E
open Go
def L78 : LFn := ⟨1, (.seq (.reg [⟨(.some 2), (.mv (.c (.lf (.flt .f32 0)))), none⟩])
 (.seq (.seq (.reg [⟨(.some 3), (.mv (.t 0)), none⟩, ⟨(.some 4), (.bin .lss (.t 3) (.c (.lf (.flt .f32 0)))), none⟩, ⟨(.some 5), (.mv (.t 4)), none⟩, ⟨(.some 6), (.mv (.t 0)), (.some (5, false))⟩, ⟨(.some 7), (.call true 73 [(.t 6)]), (.some (5, false))⟩, ⟨(.some 8), (.bin .eql (.t 7) (.c (.lf (.int .i64 2147483648)))), (.some (5, false))⟩, ⟨(.some 9), (.pick (.t 5) (.c (.lf (.bool true))) (.t 8)), none⟩])
 (.cond (.t 9) (.seq (.reg [⟨(.some 10), (.mv (.t 0)), none⟩, ⟨(.some 11), (.una .neg (.t 10)), none⟩, ⟨(.some 2), (.mv (.t 11)), none⟩])
 .ret) .skip))
 (.seq (.reg [⟨(.some 12), (.mv (.t 0)), none⟩, ⟨(.some 2), (.mv (.t 12)), none⟩])
 .ret))), [(.tmp 2)]⟩
def L77 : LFn := ⟨2, (.seq (.reg [⟨(.some 4), (.mv (.c (.lf (.flt .f32 0)))), none⟩])
 (.seq (.seq (.reg [⟨(.some 5), (.mv (.t 0)), none⟩, ⟨(.some 6), (.call true 78 [(.t 5)]), none⟩, ⟨(.some 7), (.mv (.t 1)), none⟩, ⟨(.some 8), (.bin .gtr (.t 6) (.t 7)), none⟩])
 (.cond (.t 8) (.seq (.seq (.reg [⟨(.some 9), (.mv (.t 0)), none⟩, ⟨(.some 10), (.bin .lss (.t 9) (.c (.lf (.flt .f32 0)))), none⟩])
 (.cond (.t 10) (.seq (.reg [⟨(.some 11), (.mv (.t 1)), none⟩, ⟨(.some 12), (.una .neg (.t 11)), none⟩, ⟨(.some 4), (.mv (.t 12)), none⟩])
 .ret) .skip))
 (.seq (.reg [⟨(.some 13), (.mv (.t 1)), none⟩, ⟨(.some 4), (.mv (.t 13)), none⟩])
 .ret)) .skip))
 (.seq (.reg [⟨(.some 14), (.mv (.t 0)), none⟩, ⟨(.some 4), (.mv (.t 14)), none⟩])
 .ret))), [(.tmp 4)]⟩
def L58 : LFn := ⟨2, (.seq (.reg [⟨(.some 4), (.mv (.c (.lf .nils))), none⟩, ⟨(.some 5), (.mv (.c (.lf (.bool false)))), none⟩])
 (.seq (.seq (.reg [⟨(.some 8), (.mv (.t 0)), none⟩, ⟨(.some 9), (.call true 40 [(.t 8)]), none⟩, ⟨(.some 10), (.una .not (.t 9)), none⟩])
 (.cond (.t 10) (.seq (.reg [⟨(.some 4), (.mv (.c (.lf .nils))), none⟩, ⟨(.some 5), (.mv (.c (.lf (.bool false)))), none⟩])
 .ret) .skip))
 (.seq (.reg [⟨(.some 11), (.lit 50 1 0 [] []), none⟩, ⟨(.some 6), (.mv (.t 11)), none⟩])
 (.seq (.seq (.reg [⟨(.some 7), (.mv (.c (.lf (.int .i64 0)))), none⟩])
 (.block 0 (.loop (.seq (.seq (.reg [⟨(.some 12), (.mv (.t 7)), none⟩, ⟨(.some 13), (.mv (.t 0)), none⟩, ⟨(.some 14), (.len (.t 13)), none⟩, ⟨(.some 15), (.bin .lss (.t 12) (.t 14)), none⟩])
 (.cond (.t 15) .skip (.exit 0)))
 (.seq (.block 1 (.reg [⟨(.some 18), (.mv (.t 6)), none⟩, ⟨(.some 19), (.mv (.t 0)), none⟩, ⟨(.some 20), (.mv (.t 7)), none⟩, ⟨(.some 21), (.iaddr 1 (.t 19) (.t 20)), none⟩, ⟨(.some 22), (.load false 1 (.t 21)), none⟩, ⟨(.some 23), (.mv (.t 1)), none⟩, ⟨(.some 24), (.call true 77 [(.t 22), (.t 23)]), none⟩, ⟨(.some 25), (.lit 50 1 1 [(.flt .f32 0)] [(0, (1, (.t 24)))]), none⟩, ⟨(.some 26), (.app 50 1 4 (.t 18) (.t 25)), none⟩, ⟨(.some 6), (.mv (.t 26)), none⟩]))
 (.reg [⟨(.some 16), (.mv (.t 7)), none⟩, ⟨(.some 17), (.bin .add (.t 16) (.c (.lf (.int .i64 1)))), none⟩, ⟨(.some 7), (.mv (.t 17)), none⟩]))))))
 (.seq (.reg [⟨(.some 27), (.mv (.t 6)), none⟩, ⟨(.some 4), (.mv (.t 27)), none⟩, ⟨(.some 5), (.mv (.c (.lf (.bool true)))), none⟩])
 .ret))))), [(.tmp 4), (.tmp 5)]⟩
class HasZs (S : Sys) : Prop extends HasP S, HasFb S where
  f78 : S.fs 78 = some L78
  f77 : S.fs 77 = some L77
  f58 : S.fs 58 = some L58
def L59 : LFn := ⟨1, (.seq (.reg [⟨(.some 2), (.mv (.c (.lf (.flt .f32 0)))), none⟩])
 (.seq (.seq (.reg [⟨(.some 4), (.mv (.t 0)), none⟩, ⟨(.some 5), (.bin .geq (.t 4) (.c (.lf (.flt .f32 1065353216)))), none⟩])
 (.cond (.t 5) (.seq (.reg [⟨(.some 2), (.mv (.c (.lf (.flt .f32 1065353216)))), none⟩])
 .ret) .skip))
 (.seq (.seq (.reg [⟨(.some 6), (.mv (.t 0)), none⟩, ⟨(.some 7), (.bin .leq (.t 6) (.c (.lf (.flt .f32 3212836864)))), none⟩])
 (.cond (.t 7) (.seq (.reg [⟨(.some 2), (.mv (.c (.lf (.flt .f32 3212836864)))), none⟩])
 .ret) .skip))
 (.seq (.reg [⟨(.some 8), (.mv (.t 0)), none⟩, ⟨(.some 9), (.mv (.t 0)), none⟩, ⟨(.some 10), (.bin .mul (.t 8) (.t 9)), none⟩, ⟨(.some 11), (.bin .mul (.c (.lf (.flt .f32 1056964608))) (.t 10)), none⟩, ⟨(.some 3), (.mv (.t 11)), none⟩])
 (.seq (.reg [⟨(.some 12), (.mv (.t 0)), none⟩, ⟨(.some 13), (.mv (.t 3)), none⟩, ⟨(.some 14), (.bin .sub (.c (.lf (.flt .f32 1069547520))) (.t 13)), none⟩, ⟨(.some 15), (.bin .mul (.t 12) (.t 14)), none⟩, ⟨(.some 2), (.mv (.t 15)), none⟩])
 .ret))))), [(.tmp 2)]⟩
def L54 : LFn := ⟨2, (.seq (.reg [⟨(.some 4), (.mv (.c (.lf .nils))), none⟩])
 (.seq (.reg [⟨(.some 7), (.lit 50 1 0 [] []), none⟩, ⟨(.some 5), (.mv (.t 7)), none⟩])
 (.seq (.seq (.reg [⟨(.some 6), (.mv (.c (.lf (.int .i64 0)))), none⟩])
 (.block 0 (.loop (.seq (.seq (.reg [⟨(.some 8), (.mv (.t 6)), none⟩, ⟨(.some 9), (.mv (.t 0)), none⟩, ⟨(.some 10), (.len (.t 9)), none⟩, ⟨(.some 11), (.bin .lss (.t 8) (.t 10)), none⟩])
 (.cond (.t 11) .skip (.exit 0)))
 (.seq (.block 1 (.reg [⟨(.some 14), (.mv (.t 5)), none⟩, ⟨(.some 15), (.mv (.t 0)), none⟩, ⟨(.some 16), (.mv (.t 6)), none⟩, ⟨(.some 17), (.iaddr 1 (.t 15) (.t 16)), none⟩, ⟨(.some 18), (.load false 1 (.t 17)), none⟩, ⟨(.some 19), (.mv (.t 1)), none⟩, ⟨(.some 20), (.bin .mul (.t 18) (.t 19)), none⟩, ⟨(.some 21), (.lit 50 1 1 [(.flt .f32 0)] [(0, (1, (.t 20)))]), none⟩, ⟨(.some 22), (.app 50 1 4 (.t 14) (.t 21)), none⟩, ⟨(.some 5), (.mv (.t 22)), none⟩]))
 (.reg [⟨(.some 12), (.mv (.t 6)), none⟩, ⟨(.some 13), (.bin .add (.t 12) (.c (.lf (.int .i64 1)))), none⟩, ⟨(.some 6), (.mv (.t 13)), none⟩]))))))
 (.seq (.reg [⟨(.some 23), (.mv (.t 5)), none⟩, ⟨(.some 4), (.mv (.t 23)), none⟩])
 .ret)))), [(.tmp 4)]⟩
class HasZb (S : Sys) : Prop where
  f59 : S.fs 59 = some L59
  f54 : S.fs 54 = some L54
def L75 : LFn := ⟨3, (.seq (.reg [⟨(.some 6), (.mv (.c (.lf (.flt .f32 0)))), none⟩])
 (.seq (.reg [⟨(.some 10), (.mv (.t 2)), none⟩, ⟨(.some 11), (.call true 78 [(.t 10)]), none⟩, ⟨(.some 7), (.mv (.t 11)), none⟩])
 (.seq (.reg [⟨(.some 12), (.mv (.t 0)), none⟩, ⟨(.some 13), (.nilck (.t 12)), none⟩, ⟨(.some 14), (.faddr 1 (.t 13)), none⟩, ⟨(.some 15), (.load false 1 (.t 14)), none⟩, ⟨(.some 8), (.mv (.t 15)), none⟩])
 (.seq (.seq (.reg [⟨(.some 16), (.mv (.t 7)), none⟩, ⟨(.some 17), (.mv (.t 1)), none⟩, ⟨(.some 18), (.bin .gtr (.t 16) (.t 17)), none⟩])
 (.cond (.t 18) (.reg [⟨(.some 19), (.mv (.t 0)), none⟩, ⟨(.some 20), (.nilck (.t 19)), none⟩, ⟨(.some 21), (.faddr 0 (.t 20)), none⟩, ⟨(.some 22), (.load false 1 (.t 21)), none⟩, ⟨(.some 8), (.mv (.t 22)), none⟩]) .skip))
 (.seq (.reg [⟨(.some 23), (.mv (.t 7)), none⟩, ⟨(.some 24), (.mv (.t 1)), none⟩, ⟨(.some 25), (.bin .sub (.t 23) (.t 24)), none⟩, ⟨(.some 9), (.mv (.t 25)), none⟩])
 (.seq (.reg [⟨(.some 26), (.mv (.t 1)), none⟩, ⟨(.some 27), (.mv (.t 8)), none⟩, ⟨(.some 28), (.mv (.t 9)), none⟩, ⟨(.some 29), (.bin .mul (.t 27) (.t 28)), none⟩, ⟨(.some 30), (.bin .add (.t 26) (.t 29)), none⟩, ⟨(.some 31), (.call true 56 [(.t 30)]), none⟩, ⟨(.some 6), (.mv (.t 31)), none⟩])
 .ret)))))), [(.tmp 6)]⟩
def L76 : LFn := ⟨3, (.seq (.reg [⟨(.some 6), (.mv (.c (.lf (.flt .f32 0)))), none⟩])
 (.seq (.seq (.reg [⟨(.some 8), (.mv (.t 0)), none⟩, ⟨(.some 9), (.mv (.t 1)), none⟩, ⟨(.some 10), (.bin .gtr (.t 8) (.t 9)), none⟩, ⟨(.some 11), (.una .not (.t 10)), none⟩])
 (.cond (.t 11) (.seq (.reg [⟨(.some 6), (.mv (.c (.lf (.flt .f32 1065353216)))), none⟩])
 .ret) .skip))
 (.seq (.reg [⟨(.some 12), (.mv (.t 0)), none⟩, ⟨(.some 13), (.mv (.t 1)), none⟩, ⟨(.some 14), (.bin .sub (.t 12) (.t 13)), none⟩, ⟨(.some 15), (.mv (.t 2)), none⟩, ⟨(.some 16), (.bin .quo (.t 14) (.t 15)), none⟩, ⟨(.some 7), (.mv (.t 16)), none⟩])
 (.seq (.reg [⟨(.some 17), (.mv (.t 1)), none⟩, ⟨(.some 18), (.mv (.t 7)), none⟩, ⟨(.some 19), (.bin .add (.t 17) (.t 18)), none⟩, ⟨(.some 20), (.mv (.t 0)), none⟩, ⟨(.some 21), (.bin .quo (.t 19) (.t 20)), none⟩, ⟨(.some 6), (.mv (.t 21)), none⟩])
 .ret)))), [(.tmp 6)]⟩
def L57 : LFn := ⟨3, (.seq (.reg [⟨(.some 3), (.box 86 (.t 0)), none⟩, ⟨(.some 6), (.mv (.c (.lf .nils))), none⟩, ⟨(.some 7), (.alloc 86 [(.flt .f32 0), (.flt .f32 0), (.flt .f32 0), (.flt .f32 0), (.flt .f32 0)]), none⟩])
 (.seq (.reg [⟨(.some 10), (.lit 50 1 0 [] []), none⟩, ⟨(.some 8), (.mv (.t 10)), none⟩])
 (.seq (.seq (.reg [⟨(.some 9), (.mv (.c (.lf (.int .i64 0)))), none⟩])
 (.block 0 (.loop (.seq (.seq (.reg [⟨(.some 11), (.mv (.t 9)), none⟩, ⟨(.some 12), (.mv (.t 1)), none⟩, ⟨(.some 13), (.len (.t 12)), none⟩, ⟨(.some 14), (.bin .lss (.t 11) (.t 13)), none⟩])
 (.cond (.t 14) .skip (.exit 0)))
 (.seq (.block 1 (.seq (.reg [⟨(.some 17), (.faddr 0 (.t 3)), none⟩, ⟨(.some 18), (.faddr 0 (.t 3)), none⟩, ⟨(.some 19), (.faddr 2 (.t 18)), none⟩, ⟨(.some 20), (.load false 1 (.t 19)), none⟩, ⟨(.some 21), (.mv (.t 2)), none⟩, ⟨(.some 22), (.mv (.t 9)), none⟩, ⟨(.some 23), (.iaddr 1 (.t 21) (.t 22)), none⟩, ⟨(.some 24), (.load false 1 (.t 23)), none⟩, ⟨(.some 25), (.call true 75 [(.t 17), (.t 20), (.t 24)]), none⟩, ⟨(.some 26), (.faddr 0 (.t 3)), none⟩, ⟨(.some 27), (.faddr 2 (.t 26)), none⟩, ⟨none, (.store 1 (.t 27) (.t 25)), none⟩])
 (.reg [⟨(.some 28), (.mv (.t 8)), none⟩, ⟨(.some 29), (.mv (.t 1)), none⟩, ⟨(.some 30), (.mv (.t 9)), none⟩, ⟨(.some 31), (.iaddr 1 (.t 29) (.t 30)), none⟩, ⟨(.some 32), (.load false 1 (.t 31)), none⟩, ⟨(.some 33), (.faddr 0 (.t 3)), none⟩, ⟨(.some 34), (.faddr 2 (.t 33)), none⟩, ⟨(.some 35), (.load false 1 (.t 34)), none⟩, ⟨(.some 36), (.faddr 3 (.t 3)), none⟩, ⟨(.some 37), (.load false 1 (.t 36)), none⟩, ⟨(.some 38), (.faddr 4 (.t 3)), none⟩, ⟨(.some 39), (.load false 1 (.t 38)), none⟩, ⟨(.some 40), (.call true 76 [(.t 35), (.t 37), (.t 39)]), none⟩, ⟨(.some 41), (.bin .mul (.t 32) (.t 40)), none⟩, ⟨(.some 42), (.lit 50 1 1 [(.flt .f32 0)] [(0, (1, (.t 41)))]), none⟩, ⟨(.some 43), (.app 50 1 4 (.t 28) (.t 42)), none⟩, ⟨(.some 8), (.mv (.t 43)), none⟩])))
 (.reg [⟨(.some 15), (.mv (.t 9)), none⟩, ⟨(.some 16), (.bin .add (.t 15) (.c (.lf (.int .i64 1)))), none⟩, ⟨(.some 9), (.mv (.t 16)), none⟩]))))))
 (.seq (.reg [⟨(.some 44), (.mv (.t 8)), none⟩, ⟨(.some 45), (.load true 5 (.t 3)), none⟩, ⟨(.some 6), (.mv (.t 44)), none⟩, ⟨none, (.store 5 (.t 7) (.t 45)), none⟩])
 .ret)))), [(.tmp 6), (.cell 7 true 5)]⟩
class HasZq (S : Sys) : Prop extends HasZs S, HasFf S where
  f75 : S.fs 75 = some L75
  f76 : S.fs 76 = some L76
  f57 : S.fs 57 = some L57

section
variable {S : Sys} {lim : Nat} {h : Hp} {K : CV → Hp → Prop} {l l2 : Lf} {xs : List Nat}
section
variable [HasZs S]
theorem c_l04Size {x : Nat} (hx : CF x) : CallT S true 78 [.lf (.flt .f32 x)] h lim K = K (.lf (.flt .f32 (fabs x))) h := by
  have hs := size_abs hx
  have hb := fun h lim K => c_l01Bits (S := S) (h := h) (lim := lim) (K := K) hx
  cases h1 : fcmp .lss .f32 x 0
  · by_cases h2 : (x : Int) = 2147483648
    · rw [if_pos (.inr h2)] at hs
      rw [← hs]
      clear hs
      refine CallT_pure (F := L78) (HasZs.f78) rfl (by first | rfl | (split <;> rfl) | simp) ?_; unfold L78; dsimp only []
      repeat' (first | (simp (disch := first | omega | assumption | (simp only [List.length_set]; omega) | (simp [*] <;> fail) | assumption) [-Bool.decide_and, -Bool.decide_or, -Bool.not_and, -Bool.not_or, toNat_pred, toNat_succ, wrap64, wr_new, wr_new0, ok_if, ok_ifn, iadV_sl, makeV_int, decT, decF, over_at, *]) | (with_reducible refine Gd_split (fun hc => ?_) (fun hc => ?_) <;> (have hc2 := hc; try simp at hc2)) | (with_reducible refine Br_split (fun hc => ?_) (fun hc => ?_) <;> (have hc2 := hc; try simp at hc2)) | (with_reducible refine GdT_split (fun hc => ?_) (fun hc => ?_) <;> (have hc2 := hc; try simp at hc2)) | (with_reducible refine WT_alt ?_ ?_) | omega)
    · rw [if_neg (by rw [h1]; simp [h2])] at hs
      rw [← hs]
      clear hs
      refine CallT_pure (F := L78) (HasZs.f78) rfl (by first | rfl | (split <;> rfl) | simp) ?_; unfold L78; dsimp only []
      repeat' (first | (simp (disch := first | omega | assumption | (simp only [List.length_set]; omega) | (simp [*] <;> fail) | assumption) [-Bool.decide_and, -Bool.decide_or, -Bool.not_and, -Bool.not_or, toNat_pred, toNat_succ, wrap64, wr_new, wr_new0, ok_if, ok_ifn, iadV_sl, makeV_int, decT, decF, over_at, *]) | (with_reducible refine Gd_split (fun hc => ?_) (fun hc => ?_) <;> (have hc2 := hc; try simp at hc2)) | (with_reducible refine Br_split (fun hc => ?_) (fun hc => ?_) <;> (have hc2 := hc; try simp at hc2)) | (with_reducible refine GdT_split (fun hc => ?_) (fun hc => ?_) <;> (have hc2 := hc; try simp at hc2)) | (with_reducible refine WT_alt ?_ ?_) | omega)
  · rw [if_pos (.inl h1)] at hs
    rw [← hs]
    clear hs
    refine CallT_pure (F := L78) (HasZs.f78) rfl (by first | rfl | (split <;> rfl) | simp) ?_; unfold L78; dsimp only []
    repeat' (first | (simp (disch := first | omega | assumption | (simp only [List.length_set]; omega) | (simp [*] <;> fail) | assumption) [-Bool.decide_and, -Bool.decide_or, -Bool.not_and, -Bool.not_or, toNat_pred, toNat_succ, wrap64, wr_new, wr_new0, ok_if, ok_ifn, iadV_sl, makeV_int, decT, decF, over_at, *]) | (with_reducible refine Gd_split (fun hc => ?_) (fun hc => ?_) <;> (have hc2 := hc; try simp at hc2)) | (with_reducible refine Br_split (fun hc => ?_) (fun hc => ?_) <;> (have hc2 := hc; try simp at hc2)) | (with_reducible refine GdT_split (fun hc => ?_) (fun hc => ?_) <;> (have hc2 := hc; try simp at hc2)) | (with_reducible refine WT_alt ?_ ?_) | omega)
theorem c_l04Clip {x y : Nat} (hx : CF x) : CallT S true 77 [.lf (.flt .f32 x), .lf (.flt .f32 y)] h lim K = K (.lf (.flt .f32 (clipF y x))) h := by
  unfold clipF
  cases h1 : fcmp .gtr .f32 (fabs x) y
  · simp only [Bool.false_eq_true, if_false]
    refine CallT_pure (F := L77) (HasZs.f77) rfl (by first | rfl | (split <;> rfl) | simp) ?_; unfold L77; dsimp only []
    repeat' (first | (simp (disch := first | omega | assumption | (simp only [List.length_set]; omega) | (simp [*] <;> fail) | assumption) [-Bool.decide_and, -Bool.decide_or, -Bool.not_and, -Bool.not_or, toNat_pred, toNat_succ, wrap64, wr_new, wr_new0, ok_if, ok_ifn, iadV_sl, makeV_int, decT, decF, over_at, *, c_l04Size hx]) | (with_reducible refine Gd_split (fun hc => ?_) (fun hc => ?_) <;> (have hc2 := hc; try simp at hc2)) | (with_reducible refine Br_split (fun hc => ?_) (fun hc => ?_) <;> (have hc2 := hc; try simp at hc2)) | (with_reducible refine GdT_split (fun hc => ?_) (fun hc => ?_) <;> (have hc2 := hc; try simp at hc2)) | (with_reducible refine WT_alt ?_ ?_) | omega)
  · simp only [if_true]
    cases h2 : fcmp .lss .f32 x 0
    · simp only [Bool.false_eq_true, if_false]
      refine CallT_pure (F := L77) (HasZs.f77) rfl (by first | rfl | (split <;> rfl) | simp) ?_; unfold L77; dsimp only []
      repeat' (first | (simp (disch := first | omega | assumption | (simp only [List.length_set]; omega) | (simp [*] <;> fail) | assumption) [-Bool.decide_and, -Bool.decide_or, -Bool.not_and, -Bool.not_or, toNat_pred, toNat_succ, wrap64, wr_new, wr_new0, ok_if, ok_ifn, iadV_sl, makeV_int, decT, decF, over_at, *, c_l04Size hx]) | (with_reducible refine Gd_split (fun hc => ?_) (fun hc => ?_) <;> (have hc2 := hc; try simp at hc2)) | (with_reducible refine Br_split (fun hc => ?_) (fun hc => ?_) <;> (have hc2 := hc; try simp at hc2)) | (with_reducible refine GdT_split (fun hc => ?_) (fun hc => ?_) <;> (have hc2 := hc; try simp at hc2)) | (with_reducible refine WT_alt ?_ ?_) | omega)
    · simp only [if_true]
      refine CallT_pure (F := L77) (HasZs.f77) rfl (by first | rfl | (split <;> rfl) | simp) ?_; unfold L77; dsimp only []
      repeat' (first | (simp (disch := first | omega | assumption | (simp only [List.length_set]; omega) | (simp [*] <;> fail) | assumption) [-Bool.decide_and, -Bool.decide_or, -Bool.not_and, -Bool.not_or, toNat_pred, toNat_succ, wrap64, wr_new, wr_new0, ok_if, ok_ifn, iadV_sl, makeV_int, decT, decF, over_at, *, c_l04Size hx]) | (with_reducible refine Gd_split (fun hc => ?_) (fun hc => ?_) <;> (have hc2 := hc; try simp at hc2)) | (with_reducible refine Br_split (fun hc => ?_) (fun hc => ?_) <;> (have hc2 := hc; try simp at hc2)) | (with_reducible refine GdT_split (fun hc => ?_) (fun hc => ?_) <;> (have hc2 := hc; try simp at hc2)) | (with_reducible refine WT_alt ?_ ?_) | omega)
theorem c_specClip {y : Nat} (hA : Arr h l 1 (xs.map fl)) (hx : ∀ x ∈ xs, CF x) (hn : xs.length ≤ 256) (hl : lim ≤ h.length) (hK : ∀ o g, New h g o 50 1 ((xs.map (clipF y)).map fl) → K (.tup [.lf o, .lf (.bool true)]) g) : CallT S false 58 [.lf l, .lf (.flt .f32 y)] h lim K := by
  refine CallT_of_body (F := L58) (HasZs.f58) rfl ?_; unfold L58; dsimp only []
  repeat' (first | (simp (disch := first | omega | assumption | (simp only [List.length_set]; omega) | (simp [*] <;> fail) | assumption) [-Bool.decide_and, -Bool.decide_or, -Bool.not_and, -Bool.not_or, toNat_pred, toNat_succ, wrap64, wr_new, wr_new0, ok_if, ok_ifn, iadV_sl, makeV_int, decT, decF, over_at, *, c_l01Few hA, leavesAll, fillL]) | (with_reducible refine Gd_split (fun hc => ?_) (fun hc => ?_) <;> (have hc2 := hc; try simp at hc2)) | (with_reducible refine Br_split (fun hc => ?_) (fun hc => ?_) <;> (have hc2 := hc; try simp at hc2)) | (with_reducible refine GdT_split (fun hc => ?_) (fun hc => ?_) <;> (have hc2 := hc; try simp at hc2)) | (with_reducible refine WT_alt ?_ ?_) | omega)
  refine WL_forM 134213824 (by decide +kernel) (xs.length) (fun i b g => i ≤ xs.length ∧ b 7 = .lf (.int .i64 i) ∧ ∃ o, b 6 = .lf o ∧ New h g o 50 1 ((mapTo (clipF y) xs i).map fl)) (fun _ _ _ hi => hi.1) ⟨by omega, by simp, .sl h.length 0 0 1, by simp, by simpa using New.lit0 (h := h)⟩ ?_
  rintro i b g ⟨hi, e14, o, e6, hN⟩
  have hl1 := mapTo_len (f := (clipF y)) (xs := xs) (i := i)
  have hA1 := hA.kept hN.kept
  by_cases hlt : i < xs.length
  · have s1 := mapTo_fl (f := (clipF y)) hlt
    have s1H : Hid ((mapTo (clipF y) xs (i + 1)).map fl = (mapTo (clipF y) xs i).map fl ++ [[.flt .f32 ((clipF y) xs[i])]]) := s1
    have hc := fun h lim K => c_l04Clip (S := S) (h := h) (lim := lim) (K := K) (y := y) (hx _ (List.getElem_mem hlt))
    clear hK s1
    repeat' (first | (simp (disch := first | omega | assumption | (simp only [List.length_set]; omega) | (simp [*] <;> fail) | assumption) [-Bool.decide_and, -Bool.decide_or, -Bool.not_and, -Bool.not_or, toNat_pred, toNat_succ, wrap64, wr_new, wr_new0, ok_if, ok_ifn, iadV_sl, makeV_int, decT, decF, over_at, *, hA1.len, hA1.at_, hA1.at_', hA1.rd, hA1.rdIn, hA1.rdIn0, hA1.rdA, hA1.rdInA, hA1.rdIn0A, hA1.rd1, fl, leavesAll, fillL]) | (with_reducible refine Gd_split (fun hc => ?_) (fun hc => ?_) <;> (have hc2 := hc; try simp at hc2)) | (with_reducible refine Br_split (fun hc => ?_) (fun hc => ?_) <;> (have hc2 := hc; try simp at hc2)) | (with_reducible refine GdT_split (fun hc => ?_) (fun hc => ?_) <;> (have hc2 := hc; try simp at hc2)) | (with_reducible refine WT_alt ?_ ?_) | omega)
    refine oc_push (bytes := 4) (r := [.flt .f32 ((clipF y) xs[i])]) hN ?_ ?_ ?_ (by decide) rfl (by decide)
    · exact hl
    · simp; omega
    intro o2 g5 hN5 hB5
    rw [← show (mapTo (clipF y) xs (i + 1)).map fl = _ from s1H] at hN5
    clear s1H
    repeat' (first | (simp (disch := first | omega | assumption | (simp only [List.length_set]; omega) | (simp [*] <;> fail) | assumption) [-Bool.decide_and, -Bool.decide_or, -Bool.not_and, -Bool.not_or, toNat_pred, toNat_succ, wrap64, wr_new, wr_new0, ok_if, ok_ifn, iadV_sl, makeV_int, decT, decF, over_at, *]) | (with_reducible refine Gd_split (fun hc => ?_) (fun hc => ?_) <;> (have hc2 := hc; try simp at hc2)) | (with_reducible refine Br_split (fun hc => ?_) (fun hc => ?_) <;> (have hc2 := hc; try simp at hc2)) | (with_reducible refine GdT_split (fun hc => ?_) (fun hc => ?_) <;> (have hc2 := hc; try simp at hc2)) | (with_reducible refine WT_alt ?_ ?_) | omega)
  · have : i = xs.length := by omega
    subst this
    rw [mapTo_all] at hN
    repeat' (first | (simp (disch := first | omega | assumption | (simp only [List.length_set]; omega) | (simp [*] <;> fail) | assumption) [-Bool.decide_and, -Bool.decide_or, -Bool.not_and, -Bool.not_or, toNat_pred, toNat_succ, wrap64, wr_new, wr_new0, ok_if, ok_ifn, iadV_sl, makeV_int, decT, decF, over_at, *, hA1.len]) | (with_reducible refine Gd_split (fun hc => ?_) (fun hc => ?_) <;> (have hc2 := hc; try simp at hc2)) | (with_reducible refine Br_split (fun hc => ?_) (fun hc => ?_) <;> (have hc2 := hc; try simp at hc2)) | (with_reducible refine GdT_split (fun hc => ?_) (fun hc => ?_) <;> (have hc2 := hc; try simp at hc2)) | (with_reducible refine WT_alt ?_ ?_) | omega)
    all_goals exact hK _ _ hN
end
section
variable [HasZb S]
theorem c_specBend {x : Nat} : CallT S true 59 [.lf (.flt .f32 x)] h lim K = K (.lf (.flt .f32 (bendF x))) h := by
  unfold bendF
  cases h1 : fcmp .geq .f32 x 1065353216
  · simp only [Bool.false_eq_true, if_false]
    cases h2 : fcmp .leq .f32 x 3212836864
    · simp only [Bool.false_eq_true, if_false]
      refine CallT_pure (F := L59) (HasZb.f59) rfl (by first | rfl | (split <;> rfl) | simp) ?_; unfold L59; dsimp only []
      repeat' (first | (simp (disch := first | omega | assumption | (simp only [List.length_set]; omega) | (simp [*] <;> fail) | assumption) [-Bool.decide_and, -Bool.decide_or, -Bool.not_and, -Bool.not_or, toNat_pred, toNat_succ, wrap64, wr_new, wr_new0, ok_if, ok_ifn, iadV_sl, makeV_int, decT, decF, over_at, *]) | (with_reducible refine Gd_split (fun hc => ?_) (fun hc => ?_) <;> (have hc2 := hc; try simp at hc2)) | (with_reducible refine Br_split (fun hc => ?_) (fun hc => ?_) <;> (have hc2 := hc; try simp at hc2)) | (with_reducible refine GdT_split (fun hc => ?_) (fun hc => ?_) <;> (have hc2 := hc; try simp at hc2)) | (with_reducible refine WT_alt ?_ ?_) | omega)
    · simp only [if_true]
      refine CallT_pure (F := L59) (HasZb.f59) rfl (by first | rfl | (split <;> rfl) | simp) ?_; unfold L59; dsimp only []
      repeat' (first | (simp (disch := first | omega | assumption | (simp only [List.length_set]; omega) | (simp [*] <;> fail) | assumption) [-Bool.decide_and, -Bool.decide_or, -Bool.not_and, -Bool.not_or, toNat_pred, toNat_succ, wrap64, wr_new, wr_new0, ok_if, ok_ifn, iadV_sl, makeV_int, decT, decF, over_at, *]) | (with_reducible refine Gd_split (fun hc => ?_) (fun hc => ?_) <;> (have hc2 := hc; try simp at hc2)) | (with_reducible refine Br_split (fun hc => ?_) (fun hc => ?_) <;> (have hc2 := hc; try simp at hc2)) | (with_reducible refine GdT_split (fun hc => ?_) (fun hc => ?_) <;> (have hc2 := hc; try simp at hc2)) | (with_reducible refine WT_alt ?_ ?_) | omega)
  · simp only [if_true]
    refine CallT_pure (F := L59) (HasZb.f59) rfl (by first | rfl | (split <;> rfl) | simp) ?_; unfold L59; dsimp only []
    repeat' (first | (simp (disch := first | omega | assumption | (simp only [List.length_set]; omega) | (simp [*] <;> fail) | assumption) [-Bool.decide_and, -Bool.decide_or, -Bool.not_and, -Bool.not_or, toNat_pred, toNat_succ, wrap64, wr_new, wr_new0, ok_if, ok_ifn, iadV_sl, makeV_int, decT, decF, over_at, *]) | (with_reducible refine Gd_split (fun hc => ?_) (fun hc => ?_) <;> (have hc2 := hc; try simp at hc2)) | (with_reducible refine Br_split (fun hc => ?_) (fun hc => ?_) <;> (have hc2 := hc; try simp at hc2)) | (with_reducible refine GdT_split (fun hc => ?_) (fun hc => ?_) <;> (have hc2 := hc; try simp at hc2)) | (with_reducible refine WT_alt ?_ ?_) | omega)
theorem c_l01Scale {y : Nat} (hA : Arr h l 1 (xs.map fl)) (hn : xs.length ≤ 256) (hl : lim ≤ h.length) (hK : ∀ o g, New h g o 50 1 ((xs.map (scl y)).map fl) → K (.lf o) g) : CallT S false 54 [.lf l, .lf (.flt .f32 y)] h lim K := by
  refine CallT_of_body (F := L54) (HasZb.f54) rfl ?_; unfold L54; dsimp only []
  repeat' (first | (simp (disch := first | omega | assumption | (simp only [List.length_set]; omega) | (simp [*] <;> fail) | assumption) [-Bool.decide_and, -Bool.decide_or, -Bool.not_and, -Bool.not_or, toNat_pred, toNat_succ, wrap64, wr_new, wr_new0, ok_if, ok_ifn, iadV_sl, makeV_int, decT, decF, over_at, *, leavesAll, fillL]) | (with_reducible refine Gd_split (fun hc => ?_) (fun hc => ?_) <;> (have hc2 := hc; try simp at hc2)) | (with_reducible refine Br_split (fun hc => ?_) (fun hc => ?_) <;> (have hc2 := hc; try simp at hc2)) | (with_reducible refine GdT_split (fun hc => ?_) (fun hc => ?_) <;> (have hc2 := hc; try simp at hc2)) | (with_reducible refine WT_alt ?_ ?_) | omega)
  refine WL_forM 8388448 (by decide +kernel) (xs.length) (fun i b g => i ≤ xs.length ∧ b 6 = .lf (.int .i64 i) ∧ ∃ o, b 5 = .lf o ∧ New h g o 50 1 ((mapTo (scl y) xs i).map fl)) (fun _ _ _ hi => hi.1) ⟨by omega, by simp, .sl h.length 0 0 1, by simp, by simpa using New.lit0 (h := h)⟩ ?_
  rintro i b g ⟨hi, e14, o, e6, hN⟩
  have hl1 := mapTo_len (f := (scl y)) (xs := xs) (i := i)
  have hA1 := hA.kept hN.kept
  by_cases hlt : i < xs.length
  · have s1 := mapTo_fl (f := (scl y)) hlt
    have s1H : Hid ((mapTo (scl y) xs (i + 1)).map fl = (mapTo (scl y) xs i).map fl ++ [[.flt .f32 ((scl y) xs[i])]]) := s1
    have hn' := hn
    clear hK s1
    repeat' (first | (simp (disch := first | omega | assumption | (simp only [List.length_set]; omega) | (simp [*] <;> fail) | assumption) [-Bool.decide_and, -Bool.decide_or, -Bool.not_and, -Bool.not_or, toNat_pred, toNat_succ, wrap64, wr_new, wr_new0, ok_if, ok_ifn, iadV_sl, makeV_int, decT, decF, over_at, *, hA1.len, hA1.at_, hA1.at_', hA1.rd, hA1.rdIn, hA1.rdIn0, hA1.rdA, hA1.rdInA, hA1.rdIn0A, hA1.rd1, fl, leavesAll, fillL]) | (with_reducible refine Gd_split (fun hc => ?_) (fun hc => ?_) <;> (have hc2 := hc; try simp at hc2)) | (with_reducible refine Br_split (fun hc => ?_) (fun hc => ?_) <;> (have hc2 := hc; try simp at hc2)) | (with_reducible refine GdT_split (fun hc => ?_) (fun hc => ?_) <;> (have hc2 := hc; try simp at hc2)) | (with_reducible refine WT_alt ?_ ?_) | omega)
    refine oc_push (bytes := 4) (r := [.flt .f32 ((scl y) xs[i])]) hN ?_ ?_ ?_ (by decide) rfl (by decide)
    · exact hl
    · simp; omega
    intro o2 g5 hN5 hB5
    rw [← show (mapTo (scl y) xs (i + 1)).map fl = _ from s1H] at hN5
    clear s1H
    repeat' (first | (simp (disch := first | omega | assumption | (simp only [List.length_set]; omega) | (simp [*] <;> fail) | assumption) [-Bool.decide_and, -Bool.decide_or, -Bool.not_and, -Bool.not_or, toNat_pred, toNat_succ, wrap64, wr_new, wr_new0, ok_if, ok_ifn, iadV_sl, makeV_int, decT, decF, over_at, *]) | (with_reducible refine Gd_split (fun hc => ?_) (fun hc => ?_) <;> (have hc2 := hc; try simp at hc2)) | (with_reducible refine Br_split (fun hc => ?_) (fun hc => ?_) <;> (have hc2 := hc; try simp at hc2)) | (with_reducible refine GdT_split (fun hc => ?_) (fun hc => ?_) <;> (have hc2 := hc; try simp at hc2)) | (with_reducible refine WT_alt ?_ ?_) | omega)
  · have : i = xs.length := by omega
    subst this
    rw [mapTo_all] at hN
    repeat' (first | (simp (disch := first | omega | assumption | (simp only [List.length_set]; omega) | (simp [*] <;> fail) | assumption) [-Bool.decide_and, -Bool.decide_or, -Bool.not_and, -Bool.not_or, toNat_pred, toNat_succ, wrap64, wr_new, wr_new0, ok_if, ok_ifn, iadV_sl, makeV_int, decT, decF, over_at, *, hA1.len]) | (with_reducible refine Gd_split (fun hc => ?_) (fun hc => ?_) <;> (have hc2 := hc; try simp at hc2)) | (with_reducible refine Br_split (fun hc => ?_) (fun hc => ?_) <;> (have hc2 := hc; try simp at hc2)) | (with_reducible refine GdT_split (fun hc => ?_) (fun hc => ?_) <;> (have hc2 := hc; try simp at hc2)) | (with_reducible refine WT_alt ?_ ?_) | omega)
    all_goals exact hK _ _ hN
end
section
variable [HasZq S]
theorem c_specGain {a b c : Nat} : CallT S true 76 [.lf (.flt .f32 a), .lf (.flt .f32 b), .lf (.flt .f32 c)] h lim K = K (.lf (.flt .f32 (gainF a b c))) h := by
  unfold gainF
  cases h1 : fcmp .gtr .f32 a b
  · simp only [Bool.false_eq_true, if_false]
    refine CallT_pure (F := L76) (HasZq.f76) rfl (by first | rfl | (split <;> rfl) | simp) ?_; unfold L76; dsimp only []
    repeat' (first | (simp (disch := first | omega | assumption | (simp only [List.length_set]; omega) | (simp [*] <;> fail) | assumption) [-Bool.decide_and, -Bool.decide_or, -Bool.not_and, -Bool.not_or, toNat_pred, toNat_succ, wrap64, wr_new, wr_new0, ok_if, ok_ifn, iadV_sl, makeV_int, decT, decF, over_at, *]) | (with_reducible refine Gd_split (fun hc => ?_) (fun hc => ?_) <;> (have hc2 := hc; try simp at hc2)) | (with_reducible refine Br_split (fun hc => ?_) (fun hc => ?_) <;> (have hc2 := hc; try simp at hc2)) | (with_reducible refine GdT_split (fun hc => ?_) (fun hc => ?_) <;> (have hc2 := hc; try simp at hc2)) | (with_reducible refine WT_alt ?_ ?_) | omega)
  · simp only [if_true]
    refine CallT_pure (F := L76) (HasZq.f76) rfl (by first | rfl | (split <;> rfl) | simp) ?_; unfold L76; dsimp only []
    repeat' (first | (simp (disch := first | omega | assumption | (simp only [List.length_set]; omega) | (simp [*] <;> fail) | assumption) [-Bool.decide_and, -Bool.decide_or, -Bool.not_and, -Bool.not_or, toNat_pred, toNat_succ, wrap64, wr_new, wr_new0, ok_if, ok_ifn, iadV_sl, makeV_int, decT, decF, over_at, *]) | (with_reducible refine Gd_split (fun hc => ?_) (fun hc => ?_) <;> (have hc2 := hc; try simp at hc2)) | (with_reducible refine Br_split (fun hc => ?_) (fun hc => ?_) <;> (have hc2 := hc; try simp at hc2)) | (with_reducible refine GdT_split (fun hc => ?_) (fun hc => ?_) <;> (have hc2 := hc; try simp at hc2)) | (with_reducible refine WT_alt ?_ ?_) | omega)
theorem c_l04Follow {id off att rel lev x : Nat} (hx : CF x) (r0 : rdCells h id off 1 = some [.flt .f32 att]) (r1 : rdCells h id (off + 1) 1 = some [.flt .f32 rel]) : CallT S true 75 [.lf (.ptr id off), .lf (.flt .f32 lev), .lf (.flt .f32 x)] h lim K = K (.lf (.flt .f32 (folF att rel lev x))) h := by
  unfold folF
  cases h1 : fcmp .gtr .f32 (fabs x) lev
  · simp only [Bool.false_eq_true, if_false]
    have hf := fun lim K => c_l01Flush (S := S) (h := h) (lim := lim) (K := K) (x := fbin .add .f32 lev (fbin .mul .f32 rel (fbin .sub .f32 (fabs x) lev))) CF_bin
    refine CallT_pure (F := L75) (HasZq.f75) rfl (by first | rfl | (split <;> rfl) | simp) ?_; unfold L75; dsimp only []
    repeat' (first | (simp (disch := first | omega | assumption | (simp only [List.length_set]; omega) | (simp [*] <;> fail) | assumption) [-Bool.decide_and, -Bool.decide_or, -Bool.not_and, -Bool.not_or, toNat_pred, toNat_succ, wrap64, wr_new, wr_new0, ok_if, ok_ifn, iadV_sl, makeV_int, decT, decF, over_at, *, c_l04Size hx]) | (with_reducible refine Gd_split (fun hc => ?_) (fun hc => ?_) <;> (have hc2 := hc; try simp at hc2)) | (with_reducible refine Br_split (fun hc => ?_) (fun hc => ?_) <;> (have hc2 := hc; try simp at hc2)) | (with_reducible refine GdT_split (fun hc => ?_) (fun hc => ?_) <;> (have hc2 := hc; try simp at hc2)) | (with_reducible refine WT_alt ?_ ?_) | omega)
  · simp only [if_true]
    have hf := fun lim K => c_l01Flush (S := S) (h := h) (lim := lim) (K := K) (x := fbin .add .f32 lev (fbin .mul .f32 att (fbin .sub .f32 (fabs x) lev))) CF_bin
    refine CallT_pure (F := L75) (HasZq.f75) rfl (by first | rfl | (split <;> rfl) | simp) ?_; unfold L75; dsimp only []
    repeat' (first | (simp (disch := first | omega | assumption | (simp only [List.length_set]; omega) | (simp [*] <;> fail) | assumption) [-Bool.decide_and, -Bool.decide_or, -Bool.not_and, -Bool.not_or, toNat_pred, toNat_succ, wrap64, wr_new, wr_new0, ok_if, ok_ifn, iadV_sl, makeV_int, decT, decF, over_at, *, c_l04Size hx]) | (with_reducible refine Gd_split (fun hc => ?_) (fun hc => ?_) <;> (have hc2 := hc; try simp at hc2)) | (with_reducible refine Br_split (fun hc => ?_) (fun hc => ?_) <;> (have hc2 := hc; try simp at hc2)) | (with_reducible refine GdT_split (fun hc => ?_) (fun hc => ?_) <;> (have hc2 := hc; try simp at hc2)) | (with_reducible refine WT_alt ?_ ?_) | omega)
set_option maxHeartbeats 4000000 in
theorem c_l04Squeeze {att rel lev thr rat : Nat} (hA : Arr h l 1 (xs.map fl)) (hx : ∀ x ∈ xs, CF x) (hn : xs.length ≤ 256) (hl : lim ≤ h.length)
    (hK : ∀ o g, New h g o 50 1 ((scan (sqzS att rel thr rat) lev xs).1.map fl) → K (.tup [.lf o, .agg [.flt .f32 att, .flt .f32 rel, .flt .f32 (scan (sqzS att rel thr rat) lev xs).2, .flt .f32 thr, .flt .f32 rat]]) g) :
    CallT S false 57 [.agg [.flt .f32 att, .flt .f32 rel, .flt .f32 lev, .flt .f32 thr, .flt .f32 rat], .lf l, .lf l] h lim K := by
  refine CallT_of_body (F := L57) (HasZq.f57) rfl ?_; unfold L57; dsimp only []
  repeat' (first | (simp (disch := first | omega | assumption | (simp only [List.length_set]; omega) | (simp [*] <;> fail) | assumption) [-Bool.decide_and, -Bool.decide_or, -Bool.not_and, -Bool.not_or, toNat_pred, toNat_succ, wrap64, wr_new, wr_new0, ok_if, ok_ifn, iadV_sl, makeV_int, decT, decF, over_at, *, leavesAll, fillL]) | (with_reducible refine Gd_split (fun hc => ?_) (fun hc => ?_) <;> (have hc2 := hc; try simp at hc2)) | (with_reducible refine Br_split (fun hc => ?_) (fun hc => ?_) <;> (have hc2 := hc; try simp at hc2)) | (with_reducible refine GdT_split (fun hc => ?_) (fun hc => ?_) <;> (have hc2 := hc; try simp at hc2)) | (with_reducible refine WT_alt ?_ ?_) | omega)
  refine WL_forM 17592186043136 (by decide +kernel) (xs.length) (fun i b g => i ≤ xs.length ∧ b 9 = .lf (.int .i64 i) ∧ Cel g h.length 86 [.flt .f32 att, .flt .f32 rel, .flt .f32 (stTo (sqzS att rel thr rat) lev xs i), .flt .f32 thr, .flt .f32 rat] ∧ Cel g (h.length + 1) 86 [.flt .f32 0, .flt .f32 0, .flt .f32 0, .flt .f32 0, .flt .f32 0] ∧ ∃ o, b 8 = .lf o ∧ New h g o 50 1 ((outTo (sqzS att rel thr rat) lev xs i).map fl) ∧ Not o h.length ∧ Not o (h.length + 1)) (fun _ _ _ hi => hi.1) ?_ ?_
  · refine ⟨by omega, by simp, by simp [Cel], by simp [Cel], .sl (h.length + 2) 0 0 1, by simp, ?_, fun _ => by simp [Lf.id], fun _ => by simp [Lf.id]⟩
    have := New.litN (h := h) (g := h ++ [⟨[.flt .f32 att, .flt .f32 rel, .flt .f32 lev, .flt .f32 thr, .flt .f32 rat], .own 86 1⟩, ⟨[.flt .f32 0, .flt .f32 0, .flt .f32 0, .flt .f32 0, .flt .f32 0], .own 86 1⟩]) (ty := 50) (sz := 1) (Kept.app _ _)
    simpa using this
  rintro i b g ⟨hi, e25, hc3, hc7, o, e9, hN, hn3, hn7⟩
  have hk := hN.kept
  have hk1 := hk.1
  have hA1 := hA.kept hk
  have hlt3 := hc3.lt
  have hlt7 := hc7.lt
  have hol := outTo_len (step := sqzS att rel thr rat) (s := lev) hi
  by_cases hlt : i < xs.length
  · have s1 := outTo_fl (step := sqzS att rel thr rat) (s := lev) hlt
    have s2 := stTo_succ (step := sqzS att rel thr rat) (s := lev) hlt
    generalize stTo (sqzS att rel thr rat) lev xs i = lv at *
    have s1H : Hid ((outTo (sqzS att rel thr rat) lev xs (i + 1)).map fl = (outTo (sqzS att rel thr rat) lev xs i).map fl ++ [[.flt .f32 (fbin .mul .f32 xs[i] (gainF (folF att rel lv xs[i]) thr rat))]]) := s1
    have s2H : Hid (stTo (sqzS att rel thr rat) lev xs (i + 1) = folF att rel lv xs[i]) := s2
    have hxi := hx _ (List.getElem_mem hlt)
    have q0 : rdCells g h.length 0 1 = some [.flt .f32 att] := by have := hc3.rd (off := 0) (n := 1) (by simp); simpa using this
    have q1 : rdCells g h.length (0 + 1) 1 = some [.flt .f32 rel] := by have := hc3.rd (off := 1) (n := 1) (by simp); simpa using this
    have q2 : rdCells g h.length (0 + 2) 1 = some [.flt .f32 lv] := by have := hc3.rd (off := 2) (n := 1) (by simp); simpa using this
    have w2 : wrCells lim g h.length (0 + 2) [.flt .f32 (folF att rel lv xs[i])] = some (g.set h.length ⟨[.flt .f32 att, .flt .f32 rel, .flt .f32 (folF att rel lv xs[i]), .flt .f32 thr, .flt .f32 rat], .own 86 1⟩) := by
      rw [wr_get1 hc3 hl (by simp)]; rfl
    have q2' : rdCells g h.length 2 1 = some [.flt .f32 lv] := q2
    have w2' : wrCells lim g h.length 2 [.flt .f32 (folF att rel lv xs[i])] = some (g.set h.length ⟨[.flt .f32 att, .flt .f32 rel, .flt .f32 (folF att rel lv xs[i]), .flt .f32 thr, .flt .f32 rat], .own 86 1⟩) := w2
    have hfo := fun lim K => c_l04Follow (S := S) (h := g) (lim := lim) (K := K) (lev := lv) hxi q0 q1
    clear hK s1 s2 q2 w2
    generalize folF att rel lv xs[i] = lv2 at *
    have hP := Cel.put (ty := 86) (new := [.flt .f32 att, .flt .f32 rel, .flt .f32 lv2, .flt .f32 thr, .flt .f32 rat]) hlt3
    have p2 : rdCells (g.set h.length ⟨[.flt .f32 att, .flt .f32 rel, .flt .f32 lv2, .flt .f32 thr, .flt .f32 rat], .own 86 1⟩) h.length 2 1 = some [.flt .f32 lv2] := by have := hP.rd (off := 2) (n := 1) (by simp); simpa using this
    have p3 : rdCells (g.set h.length ⟨[.flt .f32 att, .flt .f32 rel, .flt .f32 lv2, .flt .f32 thr, .flt .f32 rat], .own 86 1⟩) h.length 3 1 = some [.flt .f32 thr] := by have := hP.rd (off := 3) (n := 1) (by simp); simpa using this
    have p4 : rdCells (g.set h.length ⟨[.flt .f32 att, .flt .f32 rel, .flt .f32 lv2, .flt .f32 thr, .flt .f32 rat], .own 86 1⟩) h.length 4 1 = some [.flt .f32 rat] := by have := hP.rd (off := 4) (n := 1) (by simp); simpa using this
    have hN2 := hN.set_other (o := ⟨[.flt .f32 att, .flt .f32 rel, .flt .f32 lv2, .flt .f32 thr, .flt .f32 rat], .own 86 1⟩) (Nat.le_refl _) hn3
    have hc72 := hc7.set (o := ⟨[.flt .f32 att, .flt .f32 rel, .flt .f32 lv2, .flt .f32 thr, .flt .f32 rat], .own 86 1⟩) (id2 := h.length) (by omega)
    have hA3 := hA.kept hN2.kept
    clear q0 q1 hc3 hc7
    repeat' (first | (simp (disch := first | omega | assumption | (simp only [List.length_set]; omega) | (simp [*] <;> fail) | assumption) [-Bool.decide_and, -Bool.decide_or, -Bool.not_and, -Bool.not_or, toNat_pred, toNat_succ, wrap64, wr_new, wr_new0, ok_if, ok_ifn, iadV_sl, makeV_int, decT, decF, over_at, *, hA1.len, hA1.at_, hA1.at_', hA1.rd, hA1.rdIn, hA1.rdIn0, hA1.rdA, hA1.rdInA, hA1.rdIn0A, hA1.rd1, hA3.len, hA3.at_, hA3.at_', hA3.rd, hA3.rdIn, hA3.rdIn0, hA3.rdA, hA3.rdInA, hA3.rdIn0A, hA3.rd1, fl, c_specGain, leavesAll, fillL]) | (with_reducible refine Gd_split (fun hc => ?_) (fun hc => ?_) <;> (have hc2 := hc; try simp at hc2)) | (with_reducible refine Br_split (fun hc => ?_) (fun hc => ?_) <;> (have hc2 := hc; try simp at hc2)) | (with_reducible refine GdT_split (fun hc => ?_) (fun hc => ?_) <;> (have hc2 := hc; try simp at hc2)) | (with_reducible refine WT_alt ?_ ?_) | omega)
    refine oc_pushS (hN2.app (t := [⟨[.flt .f32 (fbin .mul .f32 xs[i] (gainF lv2 thr rat))], .own 50 1⟩])) (r := [.flt .f32 (fbin .mul .f32 xs[i] (gainF lv2 thr rat))]) (by simp [rdCells, List.getElem?_append_right, Ob.live]) hl (by simp; omega) fun o2 g5 hN5 hB5 => ?_
    rw [← show (outTo (sqzS att rel thr rat) lev xs (i + 1)).map fl = _ from s1H] at hN5
    have d3 := (hP.app (t := [⟨[.flt .f32 (fbin .mul .f32 xs[i] (gainF lv2 thr rat))], .own 50 1⟩])).but hB5 fun q => (hn3 q).symm
    have d7 := (hc72.app (t := [⟨[.flt .f32 (fbin .mul .f32 xs[i] (gainF lv2 thr rat))], .own 50 1⟩])).but hB5 fun q => (hn7 q).symm
    have n3 := hn3.but hB5 (by simp; omega)
    have n7 := hn7.but hB5 (by simp; omega)
    clear hB5 hP p2 p3 p4 hN2 hc72 hn3 hn7 s1H
    repeat' (first | (simp (disch := first | omega | assumption | (simp only [List.length_set]; omega) | (simp [*] <;> fail) | assumption) [-Bool.decide_and, -Bool.decide_or, -Bool.not_and, -Bool.not_or, toNat_pred, toNat_succ, wrap64, wr_new, wr_new0, ok_if, ok_ifn, iadV_sl, makeV_int, decT, decF, over_at, *]) | (with_reducible refine Gd_split (fun hc => ?_) (fun hc => ?_) <;> (have hc2 := hc; try simp at hc2)) | (with_reducible refine Br_split (fun hc => ?_) (fun hc => ?_) <;> (have hc2 := hc; try simp at hc2)) | (with_reducible refine GdT_split (fun hc => ?_) (fun hc => ?_) <;> (have hc2 := hc; try simp at hc2)) | (with_reducible refine WT_alt ?_ ?_) | omega)
    rw [show stTo (sqzS att rel thr rat) lev xs (i + 1) = lv2 from s2H]
    exact ⟨hlt, d3⟩
  · have : i = xs.length := by omega
    subst this
    rw [outTo_all] at hN
    rw [stTo_all] at hc3
    generalize (scan (sqzS att rel thr rat) lev xs).2 = lv at *
    have c3 : rdCells g h.length 0 5 = some [.flt .f32 att, .flt .f32 rel, .flt .f32 lv, .flt .f32 thr, .flt .f32 rat] := hc3.rd (by simp)
    have w7 : wrCells lim g (h.length + 1) 0 [.flt .f32 att, .flt .f32 rel, .flt .f32 lv, .flt .f32 thr, .flt .f32 rat] = some (g.set (h.length + 1) ⟨[.flt .f32 att, .flt .f32 rel, .flt .f32 lv, .flt .f32 thr, .flt .f32 rat], .own 86 1⟩) := hc7.wr (by omega) rfl
    have r7 : rdCells (g.set (h.length + 1) ⟨[.flt .f32 att, .flt .f32 rel, .flt .f32 lv, .flt .f32 thr, .flt .f32 rat], .own 86 1⟩) (h.length + 1) 0 5 = some [.flt .f32 att, .flt .f32 rel, .flt .f32 lv, .flt .f32 thr, .flt .f32 rat] := (Cel.put hlt7).rd (by simp)
    repeat' (first | (simp (disch := first | omega | assumption | (simp only [List.length_set]; omega) | (simp [*] <;> fail) | assumption) [-Bool.decide_and, -Bool.decide_or, -Bool.not_and, -Bool.not_or, toNat_pred, toNat_succ, wrap64, wr_new, wr_new0, ok_if, ok_ifn, iadV_sl, makeV_int, decT, decF, over_at, *, hA1.len]) | (with_reducible refine Gd_split (fun hc => ?_) (fun hc => ?_) <;> (have hc2 := hc; try simp at hc2)) | (with_reducible refine Br_split (fun hc => ?_) (fun hc => ?_) <;> (have hc2 := hc; try simp at hc2)) | (with_reducible refine GdT_split (fun hc => ?_) (fun hc => ?_) <;> (have hc2 := hc; try simp at hc2)) | (with_reducible refine WT_alt ?_ ?_) | omega)
    all_goals exact hK _ _ (hN.set_other (by omega) hn7)
end
end
end Go.E
