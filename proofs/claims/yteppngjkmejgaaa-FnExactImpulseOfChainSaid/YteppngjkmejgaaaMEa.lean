/- Clipping, bending and squeezing, the program's side. -/
import Derived.Test.YteppngjkmejgaaaMFl
import Derived.Test.YteppngjkmejgaaaMH
import Derived.Test.YteppngjkmejgaaaMP
import Derived.Test.YteppngjkmejgaaaMD
set_option linter.unusedVariables false
set_option linter.unusedSimpArgs false
namespace Go.E
open Go
def L84 : LFn := ⟨2, (.seq (.reg [⟨(.some 4), (.mv (.c (.lf (.flt .f32 0)))), none⟩])
 (.seq (.block 0 (.seq (.reg [⟨(.some 6), (.mv (.t 0)), none⟩, ⟨(.some 7), (.call true 94 [(.t 6)]), none⟩, ⟨(.some 8), (.mv (.t 1)), none⟩, ⟨(.some 9), (.bin .gtr (.t 7) (.t 8)), none⟩, ⟨(.some 10), (.una .not (.t 9)), none⟩, ⟨(.some 5), (.mv (.t 10)), none⟩])
 (.cond (.t 5) (.seq (.reg [⟨(.some 11), (.mv (.t 0)), none⟩, ⟨(.some 4), (.mv (.t 11)), none⟩])
 .ret) (.seq (.reg [⟨(.some 13), (.mv (.t 0)), none⟩, ⟨(.some 14), (.bin .lss (.t 13) (.c (.lf (.flt .f32 0)))), none⟩, ⟨(.some 12), (.mv (.t 14)), none⟩])
 (.cond (.t 12) (.seq (.reg [⟨(.some 15), (.mv (.t 1)), none⟩, ⟨(.some 16), (.una .neg (.t 15)), none⟩, ⟨(.some 4), (.mv (.t 16)), none⟩])
 .ret) .skip)))))
 (.seq (.reg [⟨(.some 17), (.mv (.t 1)), none⟩, ⟨(.some 4), (.mv (.t 17)), none⟩])
 .ret))), [(.tmp 4)]⟩
def L68 : LFn := ⟨2, (.seq (.reg [⟨(.some 4), (.mv (.c (.lf .nils))), none⟩, ⟨(.some 5), (.mv (.c (.lf (.bool false)))), none⟩])
 (.seq (.seq (.reg [⟨(.some 9), (.mv (.t 0)), none⟩, ⟨(.some 10), (.call true 42 [(.t 9)]), none⟩, ⟨(.some 11), (.una .not (.t 10)), none⟩])
 (.cond (.t 11) (.seq (.reg [⟨(.some 4), (.mv (.c (.lf .nils))), none⟩, ⟨(.some 5), (.mv (.c (.lf (.bool false)))), none⟩])
 .ret) .skip))
 (.seq (.reg [⟨(.some 6), (.mv (.c (.lf .nils))), none⟩])
 (.seq (.seq (.reg [⟨(.some 12), (.mv (.t 0)), none⟩, ⟨(.some 13), (.len (.t 12)), none⟩, ⟨(.some 14), (.mv (.c (.lf (.int .i64 0)))), none⟩])
 (.block 0 (.loop (.seq (.reg [⟨(.some 15), (.bin .lss (.t 14) (.t 13)), none⟩])
 (.seq (.cond (.t 15) .skip (.exit 0))
 (.seq (.block 1 (.seq (.reg [⟨(.some 16), (.iaddr 1 (.t 12) (.t 14)), none⟩, ⟨(.some 17), (.load false 1 (.t 16)), none⟩, ⟨(.some 8), (.mv (.t 17)), none⟩])
 (.reg [⟨(.some 18), (.mv (.t 6)), none⟩, ⟨(.some 19), (.mv (.t 8)), none⟩, ⟨(.some 20), (.mv (.t 1)), none⟩, ⟨(.some 21), (.call true 84 [(.t 19), (.t 20)]), none⟩, ⟨(.some 22), (.lit 50 1 1 [(.flt .f32 0)] [(0, (1, (.t 21)))]), none⟩, ⟨(.some 23), (.app 50 1 4 (.t 18) (.t 22)), none⟩, ⟨(.some 6), (.mv (.t 23)), none⟩])))
 (.reg [⟨(.some 24), (.bin .add (.t 14) (.c (.lf (.int .i64 1)))), none⟩, ⟨(.some 14), (.mv (.t 24)), none⟩])))))))
 (.seq (.reg [⟨(.some 25), (.mv (.t 6)), none⟩, ⟨(.some 4), (.mv (.t 25)), none⟩, ⟨(.some 5), (.mv (.c (.lf (.bool true)))), none⟩])
 .ret))))), [(.tmp 4), (.tmp 5)]⟩
class HasCl (S : Sys) : Prop extends HasP S, HasFa S where
  f84 : S.fs 84 = some L84
  f68 : S.fs 68 = some L68
def L69 : LFn := ⟨1, (.seq (.reg [⟨(.some 2), (.mv (.c (.lf (.flt .f32 0)))), none⟩])
 (.seq (.block 0 (.seq (.reg [⟨(.some 4), (.mv (.t 0)), none⟩, ⟨(.some 5), (.bin .geq (.t 4) (.c (.lf (.flt .f32 1065353216)))), none⟩, ⟨(.some 3), (.mv (.t 5)), none⟩])
 (.cond (.t 3) (.seq (.reg [⟨(.some 2), (.mv (.c (.lf (.flt .f32 1065353216)))), none⟩])
 .ret) (.seq (.reg [⟨(.some 7), (.mv (.t 0)), none⟩, ⟨(.some 8), (.bin .leq (.t 7) (.c (.lf (.flt .f32 3212836864)))), none⟩, ⟨(.some 6), (.mv (.t 8)), none⟩])
 (.cond (.t 6) (.seq (.reg [⟨(.some 2), (.mv (.c (.lf (.flt .f32 3212836864)))), none⟩])
 .ret) .skip)))))
 (.seq (.reg [⟨(.some 9), (.mv (.t 0)), none⟩, ⟨(.some 10), (.mv (.t 0)), none⟩, ⟨(.some 11), (.mv (.t 0)), none⟩, ⟨(.some 12), (.bin .mul (.t 10) (.t 11)), none⟩, ⟨(.some 13), (.bin .mul (.c (.lf (.flt .f32 1056964608))) (.t 12)), none⟩, ⟨(.some 14), (.bin .sub (.c (.lf (.flt .f32 1069547520))) (.t 13)), none⟩, ⟨(.some 15), (.bin .mul (.t 9) (.t 14)), none⟩, ⟨(.some 2), (.mv (.t 15)), none⟩])
 .ret))), [(.tmp 2)]⟩
class HasBe (S : Sys) : Prop where
  f69 : S.fs 69 = some L69
def L93 : LFn := ⟨3, (.seq (.reg [⟨(.some 6), (.mv (.c (.lf (.flt .f32 0)))), none⟩])
 (.seq (.seq (.reg [⟨(.some 7), (.mv (.t 0)), none⟩, ⟨(.some 8), (.mv (.t 1)), none⟩, ⟨(.some 9), (.bin .gtr (.t 7) (.t 8)), none⟩, ⟨(.some 10), (.una .not (.t 9)), none⟩])
 (.cond (.t 10) (.seq (.reg [⟨(.some 6), (.mv (.c (.lf (.flt .f32 1065353216)))), none⟩])
 .ret) .skip))
 (.seq (.reg [⟨(.some 11), (.mv (.t 1)), none⟩, ⟨(.some 12), (.mv (.t 0)), none⟩, ⟨(.some 13), (.mv (.t 1)), none⟩, ⟨(.some 14), (.bin .sub (.t 12) (.t 13)), none⟩, ⟨(.some 15), (.mv (.t 2)), none⟩, ⟨(.some 16), (.bin .quo (.t 14) (.t 15)), none⟩, ⟨(.some 17), (.bin .add (.t 11) (.t 16)), none⟩, ⟨(.some 18), (.mv (.t 0)), none⟩, ⟨(.some 19), (.bin .quo (.t 17) (.t 18)), none⟩, ⟨(.some 6), (.mv (.t 19)), none⟩])
 .ret))), [(.tmp 6)]⟩
def L92 : LFn := ⟨2, (.seq (.reg [⟨(.some 6), (.mv (.t 1)), none⟩, ⟨(.some 7), (.call true 94 [(.t 6)]), none⟩, ⟨(.some 4), (.mv (.t 7)), none⟩])
 (.seq (.reg [⟨(.some 8), (.mv (.t 0)), none⟩, ⟨(.some 9), (.nilck (.t 8)), none⟩, ⟨(.some 10), (.faddr 1 (.t 9)), none⟩, ⟨(.some 11), (.load false 1 (.t 10)), none⟩, ⟨(.some 5), (.mv (.t 11)), none⟩])
 (.seq (.seq (.reg [⟨(.some 12), (.mv (.t 4)), none⟩, ⟨(.some 13), (.mv (.t 0)), none⟩, ⟨(.some 14), (.nilck (.t 13)), none⟩, ⟨(.some 15), (.faddr 2 (.t 14)), none⟩, ⟨(.some 16), (.load false 1 (.t 15)), none⟩, ⟨(.some 17), (.bin .gtr (.t 12) (.t 16)), none⟩])
 (.cond (.t 17) (.reg [⟨(.some 18), (.mv (.t 0)), none⟩, ⟨(.some 19), (.nilck (.t 18)), none⟩, ⟨(.some 20), (.faddr 0 (.t 19)), none⟩, ⟨(.some 21), (.load false 1 (.t 20)), none⟩, ⟨(.some 5), (.mv (.t 21)), none⟩]) .skip))
 (.reg [⟨(.some 22), (.mv (.t 0)), none⟩, ⟨(.some 23), (.mv (.t 0)), none⟩, ⟨(.some 24), (.nilck (.t 23)), none⟩, ⟨(.some 25), (.faddr 2 (.t 24)), none⟩, ⟨(.some 26), (.load false 1 (.t 25)), none⟩, ⟨(.some 27), (.mv (.t 5)), none⟩, ⟨(.some 28), (.mv (.t 4)), none⟩, ⟨(.some 29), (.mv (.t 0)), none⟩, ⟨(.some 30), (.nilck (.t 29)), none⟩, ⟨(.some 31), (.faddr 2 (.t 30)), none⟩, ⟨(.some 32), (.load false 1 (.t 31)), none⟩, ⟨(.some 33), (.bin .sub (.t 28) (.t 32)), none⟩, ⟨(.some 34), (.bin .mul (.t 27) (.t 33)), none⟩, ⟨(.some 35), (.bin .add (.t 26) (.t 34)), none⟩, ⟨(.some 36), (.call true 66 [(.t 35)]), none⟩, ⟨(.some 37), (.nilck (.t 22)), none⟩, ⟨(.some 38), (.faddr 2 (.t 37)), none⟩, ⟨none, (.store 1 (.t 38) (.t 36)), none⟩])))), []⟩
def L83 : LFn := ⟨3, (.seq (.reg [⟨(.some 3), (.box 86 (.t 0)), none⟩, ⟨(.some 6), (.mv (.c (.lf .nils))), none⟩, ⟨(.some 7), (.alloc 86 [(.flt .f32 0), (.flt .f32 0), (.flt .f32 0), (.flt .f32 0), (.flt .f32 0)]), none⟩, ⟨(.some 8), (.mv (.c (.lf (.bool false)))), none⟩])
 (.seq (.seq (.reg [⟨(.some 12), (.mv (.t 1)), none⟩, ⟨(.some 13), (.call true 42 [(.t 12)]), none⟩, ⟨(.some 14), (.una .not (.t 13)), none⟩, ⟨(.some 15), (.mv (.t 14)), none⟩, ⟨(.some 16), (.mv (.t 2)), (.some (15, false))⟩, ⟨(.some 17), (.len (.t 16)), (.some (15, false))⟩, ⟨(.some 18), (.mv (.t 1)), (.some (15, false))⟩, ⟨(.some 19), (.len (.t 18)), (.some (15, false))⟩, ⟨(.some 20), (.bin .neq (.t 17) (.t 19)), (.some (15, false))⟩, ⟨(.some 21), (.pick (.t 15) (.c (.lf (.bool true))) (.t 20)), none⟩])
 (.cond (.t 21) (.seq (.reg [⟨(.some 22), (.build [(.flt .f32 0), (.flt .f32 0), (.flt .f32 0), (.flt .f32 0), (.flt .f32 0)] []), none⟩, ⟨(.some 6), (.mv (.c (.lf .nils))), none⟩, ⟨none, (.store 5 (.t 7) (.t 22)), none⟩, ⟨(.some 8), (.mv (.c (.lf (.bool false)))), none⟩])
 .ret) .skip))
 (.seq (.reg [⟨(.some 9), (.mv (.c (.lf .nils))), none⟩])
 (.seq (.seq (.reg [⟨(.some 23), (.mv (.t 1)), none⟩, ⟨(.some 24), (.len (.t 23)), none⟩, ⟨(.some 25), (.mv (.c (.lf (.int .i64 0)))), none⟩])
 (.block 0 (.loop (.seq (.reg [⟨(.some 26), (.bin .lss (.t 25) (.t 24)), none⟩])
 (.seq (.cond (.t 26) .skip (.exit 0))
 (.seq (.block 1 (.seq (.reg [⟨(.some 27), (.mv (.t 25)), none⟩, ⟨(.some 28), (.iaddr 1 (.t 23) (.t 25)), none⟩, ⟨(.some 29), (.load false 1 (.t 28)), none⟩, ⟨(.some 10), (.mv (.t 27)), none⟩, ⟨(.some 11), (.mv (.t 29)), none⟩])
 (.seq (.reg [⟨(.some 30), (.faddr 0 (.t 3)), none⟩, ⟨(.some 31), (.mv (.t 2)), none⟩, ⟨(.some 32), (.mv (.t 10)), none⟩, ⟨(.some 33), (.iaddr 1 (.t 31) (.t 32)), none⟩, ⟨(.some 34), (.load false 1 (.t 33)), none⟩, ⟨(.some 35), (.call false 92 [(.t 30), (.t 34)]), none⟩])
 (.reg [⟨(.some 36), (.mv (.t 9)), none⟩, ⟨(.some 37), (.mv (.t 11)), none⟩, ⟨(.some 38), (.faddr 0 (.t 3)), none⟩, ⟨(.some 39), (.faddr 2 (.t 38)), none⟩, ⟨(.some 40), (.load false 1 (.t 39)), none⟩, ⟨(.some 41), (.faddr 3 (.t 3)), none⟩, ⟨(.some 42), (.load false 1 (.t 41)), none⟩, ⟨(.some 43), (.faddr 4 (.t 3)), none⟩, ⟨(.some 44), (.load false 1 (.t 43)), none⟩, ⟨(.some 45), (.call true 93 [(.t 40), (.t 42), (.t 44)]), none⟩, ⟨(.some 46), (.bin .mul (.t 37) (.t 45)), none⟩, ⟨(.some 47), (.lit 50 1 1 [(.flt .f32 0)] [(0, (1, (.t 46)))]), none⟩, ⟨(.some 48), (.app 50 1 4 (.t 36) (.t 47)), none⟩, ⟨(.some 9), (.mv (.t 48)), none⟩]))))
 (.reg [⟨(.some 49), (.bin .add (.t 25) (.c (.lf (.int .i64 1)))), none⟩, ⟨(.some 25), (.mv (.t 49)), none⟩])))))))
 (.seq (.reg [⟨(.some 50), (.mv (.t 9)), none⟩, ⟨(.some 51), (.load true 5 (.t 3)), none⟩, ⟨(.some 6), (.mv (.t 50)), none⟩, ⟨none, (.store 5 (.t 7) (.t 51)), none⟩, ⟨(.some 8), (.mv (.c (.lf (.bool true)))), none⟩])
 .ret))))), [(.tmp 6), (.cell 7 true 5), (.tmp 8)]⟩
def L67 : LFn := ⟨2, (.seq (.reg [⟨(.some 2), (.box 86 (.t 0)), none⟩, ⟨(.some 4), (.mv (.c (.lf .nils))), none⟩, ⟨(.some 5), (.alloc 86 [(.flt .f32 0), (.flt .f32 0), (.flt .f32 0), (.flt .f32 0), (.flt .f32 0)]), none⟩, ⟨(.some 6), (.mv (.c (.lf (.bool false)))), none⟩])
 (.seq (.reg [⟨(.some 7), (.load true 5 (.t 2)), none⟩, ⟨(.some 8), (.mv (.t 1)), none⟩, ⟨(.some 9), (.mv (.t 1)), none⟩, ⟨(.some 10), (.call false 83 [(.t 7), (.t 8), (.t 9)]), none⟩, ⟨(.some 11), (.ext (.t 10) 0), none⟩, ⟨(.some 12), (.ext (.t 10) 1), none⟩, ⟨(.some 13), (.ext (.t 10) 2), none⟩, ⟨(.some 4), (.mv (.t 11)), none⟩, ⟨none, (.store 5 (.t 5) (.t 12)), none⟩, ⟨(.some 6), (.mv (.t 13)), none⟩])
 .ret)), [(.tmp 4), (.cell 5 true 5), (.tmp 6)]⟩
class HasSq (S : Sys) : Prop extends HasP S, HasFa S, HasFf S where
  f93 : S.fs 93 = some L93
  f92 : S.fs 92 = some L92
  f83 : S.fs 83 = some L83
  f67 : S.fs 67 = some L67
/-- A number clipped to a limit. -/
def clipF (l x : Nat) : Nat := if fcmp .gtr .f32 (fabs x) l = true then (if fcmp .lss .f32 x 0 = true then fneg .f32 l else l) else x
def bendF (x : Nat) : Nat := if fcmp .geq .f32 x 1065353216 = true then 1065353216 else if fcmp .leq .f32 x 3212836864 = true then 3212836864 else fbin .mul .f32 x (fbin .sub .f32 1069547520 (fbin .mul .f32 1056964608 (fbin .mul .f32 x x)))
def gainF (lev thr rat : Nat) : Nat := if fcmp .gtr .f32 lev thr = true then fbin .quo .f32 (fbin .add .f32 thr (fbin .quo .f32 (fbin .sub .f32 lev thr) rat)) lev else 1065353216
def folF (att rel lev x : Nat) : Nat := flushF (fbin .add .f32 lev (fbin .mul .f32 (if fcmp .gtr .f32 (fabs x) lev = true then att else rel) (fbin .sub .f32 (fabs x) lev)))
def sqzS (att rel thr rat : Nat) (lev x : Nat) : Nat × Nat := (fbin .mul .f32 x (gainF (folF att rel lev x) thr rat), folF att rel lev x)
section
variable {S : Sys} {lim : Nat} {h : Hp} {K : CV → Hp → Prop} {l l2 : Lf} {xs : List Nat}
section
variable [HasCl S]
theorem c_clipped {x y : Nat} (hx : CF x) : CallT S true 84 [.lf (.flt .f32 x), .lf (.flt .f32 y)] h lim K = K (.lf (.flt .f32 (clipF y x))) h := by
  unfold clipF
  cases h1 : fcmp .gtr .f32 (fabs x) y
  · simp only [Bool.false_eq_true, if_false]
    refine CallT_pure (F := L84) (HasCl.f84) rfl (by first | rfl | (split <;> rfl) | simp) ?_; unfold L84; dsimp only []
    repeat' (first | (simp (disch := first | omega | assumption | (simp only [List.length_set]; omega) | (simp [*] <;> fail) | assumption) [-Bool.decide_and, -Bool.decide_or, -Bool.not_and, -Bool.not_or, toNat_pred, toNat_succ, wrap64, wr_new, wr_new0, ok_if, ok_ifn, iadV_sl, makeV_int, decT, decF, over_at, *, c_absolute hx]) | (with_reducible refine Gd_split (fun hc => ?_) (fun hc => ?_) <;> (have hc2 := hc; try simp at hc2)) | (with_reducible refine Br_split (fun hc => ?_) (fun hc => ?_) <;> (have hc2 := hc; try simp at hc2)) | (with_reducible refine GdT_split (fun hc => ?_) (fun hc => ?_) <;> (have hc2 := hc; try simp at hc2)) | (with_reducible refine WT_alt ?_ ?_) | omega)
  · simp only [if_true]
    cases h2 : fcmp .lss .f32 x 0
    · simp only [Bool.false_eq_true, if_false]
      refine CallT_pure (F := L84) (HasCl.f84) rfl (by first | rfl | (split <;> rfl) | simp) ?_; unfold L84; dsimp only []
      repeat' (first | (simp (disch := first | omega | assumption | (simp only [List.length_set]; omega) | (simp [*] <;> fail) | assumption) [-Bool.decide_and, -Bool.decide_or, -Bool.not_and, -Bool.not_or, toNat_pred, toNat_succ, wrap64, wr_new, wr_new0, ok_if, ok_ifn, iadV_sl, makeV_int, decT, decF, over_at, *, c_absolute hx]) | (with_reducible refine Gd_split (fun hc => ?_) (fun hc => ?_) <;> (have hc2 := hc; try simp at hc2)) | (with_reducible refine Br_split (fun hc => ?_) (fun hc => ?_) <;> (have hc2 := hc; try simp at hc2)) | (with_reducible refine GdT_split (fun hc => ?_) (fun hc => ?_) <;> (have hc2 := hc; try simp at hc2)) | (with_reducible refine WT_alt ?_ ?_) | omega)
    · simp only [if_true]
      refine CallT_pure (F := L84) (HasCl.f84) rfl (by first | rfl | (split <;> rfl) | simp) ?_; unfold L84; dsimp only []
      repeat' (first | (simp (disch := first | omega | assumption | (simp only [List.length_set]; omega) | (simp [*] <;> fail) | assumption) [-Bool.decide_and, -Bool.decide_or, -Bool.not_and, -Bool.not_or, toNat_pred, toNat_succ, wrap64, wr_new, wr_new0, ok_if, ok_ifn, iadV_sl, makeV_int, decT, decF, over_at, *, c_absolute hx]) | (with_reducible refine Gd_split (fun hc => ?_) (fun hc => ?_) <;> (have hc2 := hc; try simp at hc2)) | (with_reducible refine Br_split (fun hc => ?_) (fun hc => ?_) <;> (have hc2 := hc; try simp at hc2)) | (with_reducible refine GdT_split (fun hc => ?_) (fun hc => ?_) <;> (have hc2 := hc; try simp at hc2)) | (with_reducible refine WT_alt ?_ ?_) | omega)
theorem c_ClipSamples {y : Nat} (hA : Arr h l 1 (xs.map fl)) (hx : ∀ x ∈ xs, CF x) (hn : xs.length ≤ 256) (hl : lim ≤ h.length) (hK : ∀ o g, New h g o 50 1 ((xs.map (clipF y)).map fl) → K (.tup [.lf o, .lf (.bool true)]) g) : CallT S false 68 [.lf l, .lf (.flt .f32 y)] h lim K := by
  refine CallT_of_body (F := L68) (HasCl.f68) rfl ?_; unfold L68; dsimp only []
  repeat' (first | (simp (disch := first | omega | assumption | (simp only [List.length_set]; omega) | (simp [*] <;> fail) | assumption) [-Bool.decide_and, -Bool.decide_or, -Bool.not_and, -Bool.not_or, toNat_pred, toNat_succ, wrap64, wr_new, wr_new0, ok_if, ok_ifn, iadV_sl, makeV_int, decT, decF, over_at, *, c_areSamples hA, hA.len]) | (with_reducible refine Gd_split (fun hc => ?_) (fun hc => ?_) <;> (have hc2 := hc; try simp at hc2)) | (with_reducible refine Br_split (fun hc => ?_) (fun hc => ?_) <;> (have hc2 := hc; try simp at hc2)) | (with_reducible refine GdT_split (fun hc => ?_) (fun hc => ?_) <;> (have hc2 := hc; try simp at hc2)) | (with_reducible refine WT_alt ?_ ?_) | omega)
  refine WL_forM 33538368 (by decide +kernel) (xs.length) (fun i b g => i ≤ xs.length ∧ b 14 = .lf (.int .i64 i) ∧ ∃ o, b 6 = .lf o ∧ New h g o 50 1 ((mapTo (clipF y) xs i).map fl)) (fun _ _ _ hi => hi.1) ⟨by omega, by simp, .nils, by simp, by simpa using New.nil (Kept.refl h)⟩ ?_
  rintro i b g ⟨hi, e14, o, e6, hN⟩
  have hl1 := mapTo_len (f := clipF y) (xs := xs) (i := i)
  have hA1 := hA.kept hN.kept
  by_cases hlt : i < xs.length
  · have s1 := mapTo_fl (f := clipF y) hlt
    have s1H : Hid ((mapTo (clipF y) xs (i + 1)).map fl = (mapTo (clipF y) xs i).map fl ++ [[.flt .f32 (clipF y xs[i])]]) := s1
    have hc := fun h lim K => c_clipped (S := S) (h := h) (lim := lim) (K := K) (y := y) (hx _ (List.getElem_mem hlt))
    clear hK s1
    repeat' (first | (simp (disch := first | omega | assumption | (simp only [List.length_set]; omega) | (simp [*] <;> fail) | assumption) [-Bool.decide_and, -Bool.decide_or, -Bool.not_and, -Bool.not_or, toNat_pred, toNat_succ, wrap64, wr_new, wr_new0, ok_if, ok_ifn, iadV_sl, makeV_int, decT, decF, over_at, *, hA1.len, hA1.at_, hA1.at_', hA1.rd, hA1.rdIn, hA1.rdIn0, hA1.rdA, hA1.rdInA, hA1.rdIn0A, hA1.rd1, fl, leavesAll, fillL]) | (with_reducible refine Gd_split (fun hc => ?_) (fun hc => ?_) <;> (have hc2 := hc; try simp at hc2)) | (with_reducible refine Br_split (fun hc => ?_) (fun hc => ?_) <;> (have hc2 := hc; try simp at hc2)) | (with_reducible refine GdT_split (fun hc => ?_) (fun hc => ?_) <;> (have hc2 := hc; try simp at hc2)) | (with_reducible refine WT_alt ?_ ?_) | omega)
    refine oc_push (bytes := 4) (r := [.flt .f32 (clipF y xs[i])]) hN ?_ ?_ ?_ (by decide) rfl (by decide)
    · exact hl
    · simp; omega
    intro o2 g5 hN5 hB5
    rw [← show (mapTo (clipF y) xs (i + 1)).map fl = _ from s1H] at hN5
    clear s1H
    repeat' (first | (simp (disch := first | omega | assumption | (simp only [List.length_set]; omega) | (simp [*] <;> fail) | assumption) [-Bool.decide_and, -Bool.decide_or, -Bool.not_and, -Bool.not_or, toNat_pred, toNat_succ, wrap64, wr_new, wr_new0, ok_if, ok_ifn, iadV_sl, makeV_int, decT, decF, over_at, *]) | (with_reducible refine Gd_split (fun hc => ?_) (fun hc => ?_) <;> (have hc2 := hc; try simp at hc2)) | (with_reducible refine Br_split (fun hc => ?_) (fun hc => ?_) <;> (have hc2 := hc; try simp at hc2)) | (with_reducible refine GdT_split (fun hc => ?_) (fun hc => ?_) <;> (have hc2 := hc; try simp at hc2)) | (with_reducible refine WT_alt ?_ ?_) | omega)
  · have : i = xs.length := by omega
    subst this
    rw [mapTo_all] at hN
    repeat' (first | (simp (disch := first | omega | assumption | (simp only [List.length_set]; omega) | (simp [*] <;> fail) | assumption) [-Bool.decide_and, -Bool.decide_or, -Bool.not_and, -Bool.not_or, toNat_pred, toNat_succ, wrap64, wr_new, wr_new0, ok_if, ok_ifn, iadV_sl, makeV_int, decT, decF, over_at, *]) | (with_reducible refine Gd_split (fun hc => ?_) (fun hc => ?_) <;> (have hc2 := hc; try simp at hc2)) | (with_reducible refine Br_split (fun hc => ?_) (fun hc => ?_) <;> (have hc2 := hc; try simp at hc2)) | (with_reducible refine GdT_split (fun hc => ?_) (fun hc => ?_) <;> (have hc2 := hc; try simp at hc2)) | (with_reducible refine WT_alt ?_ ?_) | omega)
    all_goals exact hK _ _ hN
end
theorem c_BendSample [HasBe S] {x : Nat} : CallT S true 69 [.lf (.flt .f32 x)] h lim K = K (.lf (.flt .f32 (bendF x))) h := by
  unfold bendF
  cases h1 : fcmp .geq .f32 x 1065353216
  · simp only [Bool.false_eq_true, if_false]
    cases h2 : fcmp .leq .f32 x 3212836864
    · simp only [Bool.false_eq_true, if_false]
      refine CallT_pure (F := L69) (HasBe.f69) rfl (by first | rfl | (split <;> rfl) | simp) ?_; unfold L69; dsimp only []
      repeat' (first | (simp (disch := first | omega | assumption | (simp only [List.length_set]; omega) | (simp [*] <;> fail) | assumption) [-Bool.decide_and, -Bool.decide_or, -Bool.not_and, -Bool.not_or, toNat_pred, toNat_succ, wrap64, wr_new, wr_new0, ok_if, ok_ifn, iadV_sl, makeV_int, decT, decF, over_at, *]) | (with_reducible refine Gd_split (fun hc => ?_) (fun hc => ?_) <;> (have hc2 := hc; try simp at hc2)) | (with_reducible refine Br_split (fun hc => ?_) (fun hc => ?_) <;> (have hc2 := hc; try simp at hc2)) | (with_reducible refine GdT_split (fun hc => ?_) (fun hc => ?_) <;> (have hc2 := hc; try simp at hc2)) | (with_reducible refine WT_alt ?_ ?_) | omega)
    · simp only [if_true]
      refine CallT_pure (F := L69) (HasBe.f69) rfl (by first | rfl | (split <;> rfl) | simp) ?_; unfold L69; dsimp only []
      repeat' (first | (simp (disch := first | omega | assumption | (simp only [List.length_set]; omega) | (simp [*] <;> fail) | assumption) [-Bool.decide_and, -Bool.decide_or, -Bool.not_and, -Bool.not_or, toNat_pred, toNat_succ, wrap64, wr_new, wr_new0, ok_if, ok_ifn, iadV_sl, makeV_int, decT, decF, over_at, *]) | (with_reducible refine Gd_split (fun hc => ?_) (fun hc => ?_) <;> (have hc2 := hc; try simp at hc2)) | (with_reducible refine Br_split (fun hc => ?_) (fun hc => ?_) <;> (have hc2 := hc; try simp at hc2)) | (with_reducible refine GdT_split (fun hc => ?_) (fun hc => ?_) <;> (have hc2 := hc; try simp at hc2)) | (with_reducible refine WT_alt ?_ ?_) | omega)
  · simp only [if_true]
    refine CallT_pure (F := L69) (HasBe.f69) rfl (by first | rfl | (split <;> rfl) | simp) ?_; unfold L69; dsimp only []
    repeat' (first | (simp (disch := first | omega | assumption | (simp only [List.length_set]; omega) | (simp [*] <;> fail) | assumption) [-Bool.decide_and, -Bool.decide_or, -Bool.not_and, -Bool.not_or, toNat_pred, toNat_succ, wrap64, wr_new, wr_new0, ok_if, ok_ifn, iadV_sl, makeV_int, decT, decF, over_at, *]) | (with_reducible refine Gd_split (fun hc => ?_) (fun hc => ?_) <;> (have hc2 := hc; try simp at hc2)) | (with_reducible refine Br_split (fun hc => ?_) (fun hc => ?_) <;> (have hc2 := hc; try simp at hc2)) | (with_reducible refine GdT_split (fun hc => ?_) (fun hc => ?_) <;> (have hc2 := hc; try simp at hc2)) | (with_reducible refine WT_alt ?_ ?_) | omega)
section
variable [HasSq S]
theorem c_GainFor {a b c : Nat} : CallT S true 93 [.lf (.flt .f32 a), .lf (.flt .f32 b), .lf (.flt .f32 c)] h lim K = K (.lf (.flt .f32 (gainF a b c))) h := by
  unfold gainF
  cases h1 : fcmp .gtr .f32 a b
  · simp only [Bool.false_eq_true, if_false]
    refine CallT_pure (F := L93) (HasSq.f93) rfl (by first | rfl | (split <;> rfl) | simp) ?_; unfold L93; dsimp only []
    repeat' (first | (simp (disch := first | omega | assumption | (simp only [List.length_set]; omega) | (simp [*] <;> fail) | assumption) [-Bool.decide_and, -Bool.decide_or, -Bool.not_and, -Bool.not_or, toNat_pred, toNat_succ, wrap64, wr_new, wr_new0, ok_if, ok_ifn, iadV_sl, makeV_int, decT, decF, over_at, *]) | (with_reducible refine Gd_split (fun hc => ?_) (fun hc => ?_) <;> (have hc2 := hc; try simp at hc2)) | (with_reducible refine Br_split (fun hc => ?_) (fun hc => ?_) <;> (have hc2 := hc; try simp at hc2)) | (with_reducible refine GdT_split (fun hc => ?_) (fun hc => ?_) <;> (have hc2 := hc; try simp at hc2)) | (with_reducible refine WT_alt ?_ ?_) | omega)
  · simp only [if_true]
    refine CallT_pure (F := L93) (HasSq.f93) rfl (by first | rfl | (split <;> rfl) | simp) ?_; unfold L93; dsimp only []
    repeat' (first | (simp (disch := first | omega | assumption | (simp only [List.length_set]; omega) | (simp [*] <;> fail) | assumption) [-Bool.decide_and, -Bool.decide_or, -Bool.not_and, -Bool.not_or, toNat_pred, toNat_succ, wrap64, wr_new, wr_new0, ok_if, ok_ifn, iadV_sl, makeV_int, decT, decF, over_at, *]) | (with_reducible refine Gd_split (fun hc => ?_) (fun hc => ?_) <;> (have hc2 := hc; try simp at hc2)) | (with_reducible refine Br_split (fun hc => ?_) (fun hc => ?_) <;> (have hc2 := hc; try simp at hc2)) | (with_reducible refine GdT_split (fun hc => ?_) (fun hc => ?_) <;> (have hc2 := hc; try simp at hc2)) | (with_reducible refine WT_alt ?_ ?_) | omega)
theorem c_step {id off att rel lev x : Nat} {g' : Hp} (hx : CF x) (r0 : rdCells h id off 1 = some [.flt .f32 att]) (r1 : rdCells h id (off + 1) 1 = some [.flt .f32 rel]) (r2 : rdCells h id (off + 2) 1 = some [.flt .f32 lev])
    (w2 : wrCells lim h id (off + 2) [.flt .f32 (folF att rel lev x)] = some g') (hK : K (.tup []) g') : CallT S false 92 [.lf (.ptr id off), .lf (.flt .f32 x)] h lim K := by
  unfold folF at w2
  cases h1 : fcmp .gtr .f32 (fabs x) lev
  · rw [h1] at w2
    simp only [Bool.false_eq_true, if_false] at w2
    have hf := fun lim K => c_FlushNumber (S := S) (h := h) (lim := lim) (K := K) (x := fbin .add .f32 lev (fbin .mul .f32 rel (fbin .sub .f32 (fabs x) lev))) CF_bin
    refine CallT_of_body (F := L92) (HasSq.f92) rfl ?_; unfold L92; dsimp only []
    repeat' (first | (simp (disch := first | omega | assumption | (simp only [List.length_set]; omega) | (simp [*] <;> fail) | assumption) [-Bool.decide_and, -Bool.decide_or, -Bool.not_and, -Bool.not_or, toNat_pred, toNat_succ, wrap64, wr_new, wr_new0, ok_if, ok_ifn, iadV_sl, makeV_int, decT, decF, over_at, *, c_absolute hx]) | (with_reducible refine Gd_split (fun hc => ?_) (fun hc => ?_) <;> (have hc2 := hc; try simp at hc2)) | (with_reducible refine Br_split (fun hc => ?_) (fun hc => ?_) <;> (have hc2 := hc; try simp at hc2)) | (with_reducible refine GdT_split (fun hc => ?_) (fun hc => ?_) <;> (have hc2 := hc; try simp at hc2)) | (with_reducible refine WT_alt ?_ ?_) | omega)
    exact hK
  · rw [h1] at w2
    simp only [if_true] at w2
    have hf := fun lim K => c_FlushNumber (S := S) (h := h) (lim := lim) (K := K) (x := fbin .add .f32 lev (fbin .mul .f32 att (fbin .sub .f32 (fabs x) lev))) CF_bin
    refine CallT_of_body (F := L92) (HasSq.f92) rfl ?_; unfold L92; dsimp only []
    repeat' (first | (simp (disch := first | omega | assumption | (simp only [List.length_set]; omega) | (simp [*] <;> fail) | assumption) [-Bool.decide_and, -Bool.decide_or, -Bool.not_and, -Bool.not_or, toNat_pred, toNat_succ, wrap64, wr_new, wr_new0, ok_if, ok_ifn, iadV_sl, makeV_int, decT, decF, over_at, *, c_absolute hx]) | (with_reducible refine Gd_split (fun hc => ?_) (fun hc => ?_) <;> (have hc2 := hc; try simp at hc2)) | (with_reducible refine Br_split (fun hc => ?_) (fun hc => ?_) <;> (have hc2 := hc; try simp at hc2)) | (with_reducible refine GdT_split (fun hc => ?_) (fun hc => ?_) <;> (have hc2 := hc; try simp at hc2)) | (with_reducible refine WT_alt ?_ ?_) | omega)
    exact hK
theorem lev_CF {att rel thr rat lev i : Nat} (hlev : CF lev) (hx : ∀ x ∈ xs, CF x) (hi : i ≤ xs.length) : CF (stTo (sqzS att rel thr rat) lev xs i) :=
  stTo_inv (I := fun t : Nat => CF t) hlev (fun t x ht hx' => CF_flush CF_bin) hi
set_option maxHeartbeats 4000000 in
theorem c_DuckSamples {att rel lev thr rat : Nat} (hA : Arr h l 1 (xs.map fl)) (hx : ∀ x ∈ xs, CF x) (hn : xs.length ≤ 256) (hl : lim ≤ h.length)
    (hK : ∀ o g, New h g o 50 1 ((scan (sqzS att rel thr rat) lev xs).1.map fl) → K (.tup [.lf o, .agg [.flt .f32 att, .flt .f32 rel, .flt .f32 (scan (sqzS att rel thr rat) lev xs).2, .flt .f32 thr, .flt .f32 rat], .lf (.bool true)]) g) :
    CallT S false 83 [.agg [.flt .f32 att, .flt .f32 rel, .flt .f32 lev, .flt .f32 thr, .flt .f32 rat], .lf l, .lf l] h lim K := by
  refine CallT_of_body (F := L83) (HasSq.f83) rfl ?_; unfold L83; dsimp only []
  repeat' (first | (simp (disch := first | omega | assumption | (simp only [List.length_set]; omega) | (simp [*] <;> fail) | assumption) [-Bool.decide_and, -Bool.decide_or, -Bool.not_and, -Bool.not_or, toNat_pred, toNat_succ, wrap64, wr_new, wr_new0, ok_if, ok_ifn, iadV_sl, makeV_int, decT, decF, over_at, *, c_areSamples hA.app, hA.len]) | (with_reducible refine Gd_split (fun hc => ?_) (fun hc => ?_) <;> (have hc2 := hc; try simp at hc2)) | (with_reducible refine Br_split (fun hc => ?_) (fun hc => ?_) <;> (have hc2 := hc; try simp at hc2)) | (with_reducible refine GdT_split (fun hc => ?_) (fun hc => ?_) <;> (have hc2 := hc; try simp at hc2)) | (with_reducible refine WT_alt ?_ ?_) | omega)
  refine WL_forM 1125899873291776 (by decide +kernel) (xs.length) (fun i b g => i ≤ xs.length ∧ b 25 = .lf (.int .i64 i) ∧ Cel g h.length 86 [.flt .f32 att, .flt .f32 rel, .flt .f32 (stTo (sqzS att rel thr rat) lev xs i), .flt .f32 thr, .flt .f32 rat] ∧ Cel g (h.length + 1) 86 [.flt .f32 0, .flt .f32 0, .flt .f32 0, .flt .f32 0, .flt .f32 0] ∧ ∃ o, b 9 = .lf o ∧ New h g o 50 1 ((outTo (sqzS att rel thr rat) lev xs i).map fl) ∧ Not o h.length ∧ Not o (h.length + 1)) (fun _ _ _ hi => hi.1) ?_ ?_
  · refine ⟨by omega, by simp, by simp [Cel], by simp [Cel], .nils, by simp, ?_, fun q => absurd rfl q, fun q => absurd rfl q⟩
    simpa using New.nil (ty := 50) (sz := 1) (Kept.app h _)
  rintro i b g ⟨hi, e25, hc3, hc7, o, e9, hN, hn3, hn7⟩
  have hk := hN.kept
  have hk1 := hk.1
  have hA1 := hA.kept hk
  have hlt3 := hc3.lt
  have hlt7 := hc7.lt
  have hol := outTo_len (step := sqzS att rel thr rat) (s := lev) hi
  by_cases hlt : i < xs.length
  · have s1 := outTo_fl (step := sqzS att rel thr rat) (s := lev) hlt
    have s2 := stTo_succ (step := sqzS att rel thr rat) (s := lev) hlt
    generalize stTo (sqzS att rel thr rat) lev xs i = lv at *
    have s1H : Hid ((outTo (sqzS att rel thr rat) lev xs (i + 1)).map fl = (outTo (sqzS att rel thr rat) lev xs i).map fl ++ [[.flt .f32 (fbin .mul .f32 xs[i] (gainF (folF att rel lv xs[i]) thr rat))]]) := s1
    have s2H : Hid (stTo (sqzS att rel thr rat) lev xs (i + 1) = folF att rel lv xs[i]) := s2
    have hxi := hx _ (List.getElem_mem hlt)
    have q0 : rdCells g h.length 0 1 = some [.flt .f32 att] := by have := hc3.rd (off := 0) (n := 1) (by simp); simpa using this
    have q1 : rdCells g h.length (0 + 1) 1 = some [.flt .f32 rel] := by have := hc3.rd (off := 1) (n := 1) (by simp); simpa using this
    have q2 : rdCells g h.length (0 + 2) 1 = some [.flt .f32 lv] := by have := hc3.rd (off := 2) (n := 1) (by simp); simpa using this
    have w2 : wrCells lim g h.length (0 + 2) [.flt .f32 (folF att rel lv xs[i])] = some (g.set h.length ⟨[.flt .f32 att, .flt .f32 rel, .flt .f32 (folF att rel lv xs[i]), .flt .f32 thr, .flt .f32 rat], .own 86 1⟩) := by
      rw [wr_get1 hc3 hl (by simp)]; rfl
    clear hK s1 s2
    repeat' (first | (simp (disch := first | omega | assumption | (simp only [List.length_set]; omega) | (simp [*] <;> fail) | assumption) [-Bool.decide_and, -Bool.decide_or, -Bool.not_and, -Bool.not_or, toNat_pred, toNat_succ, wrap64, wr_new, wr_new0, ok_if, ok_ifn, iadV_sl, makeV_int, decT, decF, over_at, *, hA1.len, hA1.at_, hA1.at_', hA1.rd, hA1.rdIn, hA1.rdIn0, hA1.rdA, hA1.rdInA, hA1.rdIn0A, hA1.rd1, fl]) | (with_reducible refine Gd_split (fun hc => ?_) (fun hc => ?_) <;> (have hc2 := hc; try simp at hc2)) | (with_reducible refine Br_split (fun hc => ?_) (fun hc => ?_) <;> (have hc2 := hc; try simp at hc2)) | (with_reducible refine GdT_split (fun hc => ?_) (fun hc => ?_) <;> (have hc2 := hc; try simp at hc2)) | (with_reducible refine WT_alt ?_ ?_) | omega)
    refine c_step hxi q0 q1 q2 w2 ?_
    generalize folF att rel lv xs[i] = lv2 at *
    have hP := Cel.put (ty := 86) (new := [.flt .f32 att, .flt .f32 rel, .flt .f32 lv2, .flt .f32 thr, .flt .f32 rat]) hlt3
    have p2 : rdCells (g.set h.length ⟨[.flt .f32 att, .flt .f32 rel, .flt .f32 lv2, .flt .f32 thr, .flt .f32 rat], .own 86 1⟩) h.length 2 1 = some [.flt .f32 lv2] := by have := hP.rd (off := 2) (n := 1) (by simp); simpa using this
    have p3 : rdCells (g.set h.length ⟨[.flt .f32 att, .flt .f32 rel, .flt .f32 lv2, .flt .f32 thr, .flt .f32 rat], .own 86 1⟩) h.length 3 1 = some [.flt .f32 thr] := by have := hP.rd (off := 3) (n := 1) (by simp); simpa using this
    have p4 : rdCells (g.set h.length ⟨[.flt .f32 att, .flt .f32 rel, .flt .f32 lv2, .flt .f32 thr, .flt .f32 rat], .own 86 1⟩) h.length 4 1 = some [.flt .f32 rat] := by have := hP.rd (off := 4) (n := 1) (by simp); simpa using this
    have hN2 := hN.set_other (o := ⟨[.flt .f32 att, .flt .f32 rel, .flt .f32 lv2, .flt .f32 thr, .flt .f32 rat], .own 86 1⟩) (Nat.le_refl _) hn3
    have hc72 := hc7.set (o := ⟨[.flt .f32 att, .flt .f32 rel, .flt .f32 lv2, .flt .f32 thr, .flt .f32 rat], .own 86 1⟩) (id2 := h.length) (by omega)
    clear q0 q1 q2 w2 hc3 hc7 hA1
    repeat' (first | (simp (disch := first | omega | assumption | (simp only [List.length_set]; omega) | (simp [*] <;> fail) | assumption) [-Bool.decide_and, -Bool.decide_or, -Bool.not_and, -Bool.not_or, toNat_pred, toNat_succ, wrap64, wr_new, wr_new0, ok_if, ok_ifn, iadV_sl, makeV_int, decT, decF, over_at, *, c_GainFor, leavesAll, fillL]) | (with_reducible refine Gd_split (fun hc => ?_) (fun hc => ?_) <;> (have hc2 := hc; try simp at hc2)) | (with_reducible refine Br_split (fun hc => ?_) (fun hc => ?_) <;> (have hc2 := hc; try simp at hc2)) | (with_reducible refine GdT_split (fun hc => ?_) (fun hc => ?_) <;> (have hc2 := hc; try simp at hc2)) | (with_reducible refine WT_alt ?_ ?_) | omega)
    refine oc_pushS (hN2.app (t := [⟨[.flt .f32 (fbin .mul .f32 xs[i] (gainF lv2 thr rat))], .own 50 1⟩])) (r := [.flt .f32 (fbin .mul .f32 xs[i] (gainF lv2 thr rat))]) (by simp [rdCells, List.getElem?_append_right, Ob.live]) hl (by simp; omega) fun o2 g5 hN5 hB5 => ?_
    rw [← show (outTo (sqzS att rel thr rat) lev xs (i + 1)).map fl = _ from s1H] at hN5
    have d3 := (hP.app (t := [⟨[.flt .f32 (fbin .mul .f32 xs[i] (gainF lv2 thr rat))], .own 50 1⟩])).but hB5 fun q => (hn3 q).symm
    have d7 := (hc72.app (t := [⟨[.flt .f32 (fbin .mul .f32 xs[i] (gainF lv2 thr rat))], .own 50 1⟩])).but hB5 fun q => (hn7 q).symm
    have n3 := hn3.but hB5 (by simp; omega)
    have n7 := hn7.but hB5 (by simp; omega)
    clear hB5 hP p2 p3 p4 hN2 hc72 hn3 hn7 s1H
    repeat' (first | (simp (disch := first | omega | assumption | (simp only [List.length_set]; omega) | (simp [*] <;> fail) | assumption) [-Bool.decide_and, -Bool.decide_or, -Bool.not_and, -Bool.not_or, toNat_pred, toNat_succ, wrap64, wr_new, wr_new0, ok_if, ok_ifn, iadV_sl, makeV_int, decT, decF, over_at, *]) | (with_reducible refine Gd_split (fun hc => ?_) (fun hc => ?_) <;> (have hc2 := hc; try simp at hc2)) | (with_reducible refine Br_split (fun hc => ?_) (fun hc => ?_) <;> (have hc2 := hc; try simp at hc2)) | (with_reducible refine GdT_split (fun hc => ?_) (fun hc => ?_) <;> (have hc2 := hc; try simp at hc2)) | (with_reducible refine WT_alt ?_ ?_) | omega)
    rw [show stTo (sqzS att rel thr rat) lev xs (i + 1) = lv2 from s2H]
    exact ⟨hlt, d3⟩
  · have : i = xs.length := by omega
    subst this
    rw [outTo_all] at hN
    rw [stTo_all] at hc3
    generalize (scan (sqzS att rel thr rat) lev xs).2 = lv at *
    have c3 : rdCells g h.length 0 5 = some [.flt .f32 att, .flt .f32 rel, .flt .f32 lv, .flt .f32 thr, .flt .f32 rat] := hc3.rd (by simp)
    have w7 : wrCells lim g (h.length + 1) 0 [.flt .f32 att, .flt .f32 rel, .flt .f32 lv, .flt .f32 thr, .flt .f32 rat] = some (g.set (h.length + 1) ⟨[.flt .f32 att, .flt .f32 rel, .flt .f32 lv, .flt .f32 thr, .flt .f32 rat], .own 86 1⟩) := hc7.wr (by omega) rfl
    have r7 : rdCells (g.set (h.length + 1) ⟨[.flt .f32 att, .flt .f32 rel, .flt .f32 lv, .flt .f32 thr, .flt .f32 rat], .own 86 1⟩) (h.length + 1) 0 5 = some [.flt .f32 att, .flt .f32 rel, .flt .f32 lv, .flt .f32 thr, .flt .f32 rat] := (Cel.put hlt7).rd (by simp)
    repeat' (first | (simp (disch := first | omega | assumption | (simp only [List.length_set]; omega) | (simp [*] <;> fail) | assumption) [-Bool.decide_and, -Bool.decide_or, -Bool.not_and, -Bool.not_or, toNat_pred, toNat_succ, wrap64, wr_new, wr_new0, ok_if, ok_ifn, iadV_sl, makeV_int, decT, decF, over_at, *]) | (with_reducible refine Gd_split (fun hc => ?_) (fun hc => ?_) <;> (have hc2 := hc; try simp at hc2)) | (with_reducible refine Br_split (fun hc => ?_) (fun hc => ?_) <;> (have hc2 := hc; try simp at hc2)) | (with_reducible refine GdT_split (fun hc => ?_) (fun hc => ?_) <;> (have hc2 := hc; try simp at hc2)) | (with_reducible refine WT_alt ?_ ?_) | omega)
    exact hK _ _ (hN.set_other (by omega) hn7)
theorem c_RunSqueeze {att rel lev thr rat : Nat} (hA : Arr h l 1 (xs.map fl)) (hx : ∀ x ∈ xs, CF x) (hn : xs.length ≤ 256) (hl : lim ≤ h.length)
    (hK : ∀ o g, New h g o 50 1 ((scan (sqzS att rel thr rat) lev xs).1.map fl) → K (.tup [.lf o, .agg [.flt .f32 att, .flt .f32 rel, .flt .f32 (scan (sqzS att rel thr rat) lev xs).2, .flt .f32 thr, .flt .f32 rat], .lf (.bool true)]) g) :
    CallT S false 67 [.agg [.flt .f32 att, .flt .f32 rel, .flt .f32 lev, .flt .f32 thr, .flt .f32 rat], .lf l] h lim K := by
  refine CallT_of_body (F := L67) (HasSq.f67) rfl ?_; unfold L67; dsimp only []
  repeat' (first | (simp (disch := first | omega | assumption | (simp only [List.length_set]; omega) | (simp [*] <;> fail) | assumption) [-Bool.decide_and, -Bool.decide_or, -Bool.not_and, -Bool.not_or, toNat_pred, toNat_succ, wrap64, wr_new, wr_new0, ok_if, ok_ifn, iadV_sl, makeV_int, decT, decF, over_at, *]) | (with_reducible refine Gd_split (fun hc => ?_) (fun hc => ?_) <;> (have hc2 := hc; try simp at hc2)) | (with_reducible refine Br_split (fun hc => ?_) (fun hc => ?_) <;> (have hc2 := hc; try simp at hc2)) | (with_reducible refine GdT_split (fun hc => ?_) (fun hc => ?_) <;> (have hc2 := hc; try simp at hc2)) | (with_reducible refine WT_alt ?_ ?_) | omega)
  refine c_DuckSamples hA.app hx hn (by simp; omega) fun o g hN => ?_
  generalize (scan (sqzS att rel thr rat) lev xs).2 = lv at *
  obtain ⟨t, rfl⟩ := hN.kept.split
  rw [List.append_assoc] at hN
  simp only [List.cons_append, List.nil_append, List.append_assoc] at hN ⊢
  repeat' (first | (simp (disch := first | omega | assumption | (simp only [List.length_set]; omega) | (simp [*] <;> fail) | assumption) [-Bool.decide_and, -Bool.decide_or, -Bool.not_and, -Bool.not_or, toNat_pred, toNat_succ, wrap64, wr_new, wr_new0, ok_if, ok_ifn, iadV_sl, makeV_int, decT, decF, over_at, *]) | (with_reducible refine Gd_split (fun hc => ?_) (fun hc => ?_) <;> (have hc2 := hc; try simp at hc2)) | (with_reducible refine Br_split (fun hc => ?_) (fun hc => ?_) <;> (have hc2 := hc; try simp at hc2)) | (with_reducible refine GdT_split (fun hc => ?_) (fun hc => ?_) <;> (have hc2 := hc; try simp at hc2)) | (with_reducible refine WT_alt ?_ ?_) | omega)
  exact hK _ _ hN.swap2
end
end
end Go.E
