/- The exponential, gains of decibels, both sides. -/
import Derived.Test.YtkabbddhdnddoaaMSq
import Derived.Test.YtkabbddhdnddoaaEP
set_option linter.unusedVariables false
set_option linter.unusedSimpArgs false
set_option exponentiation.threshold 3000
namespace Go.E
open Go
def L49 : LFn := ⟨1, (.seq (.reg [⟨(.some 2), (.mv (.c (.lf (.flt .f64 0)))), none⟩])
 (.seq (.block 0 (.seq (.reg [⟨(.some 8), (.mv (.t 0)), none⟩, ⟨(.some 9), (.bin .gtr (.t 8) (.c (.lf (.flt .f64 4641240890982006784)))), none⟩, ⟨(.some 7), (.mv (.t 9)), none⟩])
 (.cond (.t 7) (.seq (.reg [⟨(.some 10), (.call true 58 [(.c (.lf (.int .i64 1)))]), none⟩, ⟨(.some 2), (.mv (.t 10)), none⟩])
 .ret) (.seq (.reg [⟨(.some 12), (.mv (.t 0)), none⟩, ⟨(.some 13), (.bin .lss (.t 12) (.c (.lf (.flt .f64 13864612927836782592)))), none⟩, ⟨(.some 11), (.mv (.t 13)), none⟩])
 (.cond (.t 11) (.seq (.reg [⟨(.some 2), (.mv (.c (.lf (.flt .f64 0)))), none⟩])
 .ret) .skip)))))
 (.seq (.reg [⟨(.some 14), (.mv (.t 0)), none⟩, ⟨(.some 15), (.bin .quo (.t 14) (.c (.lf (.flt .f64 4643211215818981376)))), none⟩, ⟨(.some 3), (.mv (.t 15)), none⟩, ⟨(.some 4), (.mv (.c (.lf (.flt .f64 4607182418800017408)))), none⟩])
 (.seq (.seq (.reg [⟨(.some 5), (.mv (.c (.lf (.flt .f64 4622945017495814144)))), none⟩])
 (.block 1 (.loop (.seq (.seq (.reg [⟨(.some 16), (.mv (.t 5)), none⟩, ⟨(.some 17), (.bin .geq (.t 16) (.c (.lf (.flt .f64 4607182418800017408)))), none⟩])
 (.cond (.t 17) .skip (.exit 1)))
 (.seq (.block 2 (.reg [⟨(.some 20), (.mv (.t 3)), none⟩, ⟨(.some 21), (.mv (.t 4)), none⟩, ⟨(.some 22), (.bin .mul (.t 20) (.t 21)), none⟩, ⟨(.some 23), (.mv (.t 5)), none⟩, ⟨(.some 24), (.bin .quo (.t 22) (.t 23)), none⟩, ⟨(.some 25), (.bin .add (.c (.lf (.flt .f64 4607182418800017408))) (.t 24)), none⟩, ⟨(.some 4), (.mv (.t 25)), none⟩]))
 (.reg [⟨(.some 18), (.mv (.t 5)), none⟩, ⟨(.some 19), (.bin .sub (.t 18) (.c (.lf (.flt .f64 4607182418800017408)))), none⟩, ⟨(.some 5), (.mv (.t 19)), none⟩]))))))
 (.seq (.seq (.reg [⟨(.some 6), (.mv (.c (.lf (.int .i64 0)))), none⟩])
 (.block 3 (.loop (.seq (.seq (.reg [⟨(.some 26), (.mv (.t 6)), none⟩, ⟨(.some 27), (.bin .lss (.t 26) (.c (.lf (.int .i64 8)))), none⟩])
 (.cond (.t 27) .skip (.exit 3)))
 (.seq (.block 4 (.reg [⟨(.some 30), (.mv (.t 4)), none⟩, ⟨(.some 31), (.mv (.t 4)), none⟩, ⟨(.some 32), (.bin .mul (.t 30) (.t 31)), none⟩, ⟨(.some 4), (.mv (.t 32)), none⟩]))
 (.reg [⟨(.some 28), (.mv (.t 6)), none⟩, ⟨(.some 29), (.bin .add (.t 28) (.c (.lf (.int .i64 1)))), none⟩, ⟨(.some 6), (.mv (.t 29)), none⟩]))))))
 (.seq (.reg [⟨(.some 33), (.mv (.t 4)), none⟩, ⟨(.some 2), (.mv (.t 33)), none⟩])
 .ret)))))), [(.tmp 2)]⟩
class HasEx (S : Sys) : Prop extends HasSi S where
  f49 : S.fs 49 = some L49

class HasGn (S : Sys) : Prop extends HasEx S where

def L40 : LFn := ⟨1, (.seq (.reg [⟨(.some 2), (.mv (.c (.lf (.flt .f32 0)))), none⟩])
 (.seq (.reg [⟨(.some 3), (.mv (.t 0)), none⟩, ⟨(.some 4), (.bin .sub (.t 3) (.c (.lf (.int .i64 69)))), none⟩, ⟨(.some 5), (.toflt .f64 (.t 4)), none⟩, ⟨(.some 6), (.bin .mul (.t 5) (.c (.lf (.flt .f64 4588485240726681578)))), none⟩, ⟨(.some 7), (.call true 49 [(.t 6)]), none⟩, ⟨(.some 8), (.bin .mul (.t 7) (.c (.lf (.flt .f64 4646448178051153920)))), none⟩, ⟨(.some 9), (.bin .quo (.t 8) (.c (.lf (.flt .f64 4676829883349860352)))), none⟩, ⟨(.some 10), (.toflt .f32 (.t 9)), none⟩, ⟨(.some 2), (.mv (.t 10)), none⟩])
 .ret)), [(.tmp 2)]⟩
class HasSp (S : Sys) : Prop extends HasEx S where
  f40 : S.fs 40 = some L40
theorem term12 {i : Nat} (h : i < 12) : fbin .sub .f64 (fofint .f64 (12 - (i : Int))) oneD = fofint .f64 (12 - (i : Int) - 1) ∧ fcmp .geq .f64 (fofint .f64 (12 - (i : Int))) oneD = true := by
  rcases twelve h with rfl | rfl | rfl | rfl | rfl | rfl | rfl | rfl | rfl | rfl | rfl | rfl <;> decide +kernel
theorem exP_succ {t i : Nat} : exP t (i + 1) = fbin .add .f64 oneD (fbin .quo .f64 (fbin .mul .f64 t (exP t i)) (fofint .f64 (12 - (i : Int)))) := rfl
theorem exS_succ {p i : Nat} : exS p (i + 1) = fbin .mul .f64 (exS p i) (exS p i) := rfl
def gain32 (n : Int) : Nat := (fconv .f64 .f32 (expC (gainX n))).getD 0
theorem gain_conv {n : Int} (hn : n.natAbs ≤ 2000) : fconv .f64 .f32 (expC (gainX n)) = some (gain32 n) := by
  obtain ⟨y, hy⟩ := exp_some (gainX_lg hn)
  unfold gain32; rw [hy]; rfl
def step32 (p : Int) : Nat := (fconv .f64 .f32 (stepW (stepX (p - 69)))).getD 0
theorem step_conv {p : Int} (hp : (p - 69).natAbs ≤ 100) : fconv .f64 .f32 (stepW (stepX (p - 69))) = some (step32 p) := by
  obtain ⟨y, hy⟩ := step_some (stepX_lg hp)
  unfold step32; rw [hy]; rfl
section
variable {S : Sys} {lim : Nat} {h : Hp} {K : CV → Hp → Prop}
section
variable [HasEx S]
set_option maxRecDepth 20000 in
set_option maxHeartbeats 2000000 in
theorem c_exponential {x : Nat} (hx : Lg x 4) : CallT S true 49 [.lf (.flt .f64 x)] h lim K = K (.lf (.flt .f64 (expC x))) h := by
  obtain ⟨h1, h2, h3⟩ := exp_tests hx
  have hz12 : fofint .f64 12 = 4622945017495814144 := by decide +kernel
  have hE : Hid (expC x = exS (exP (exT x) 12) 8) := rfl
  unfold exT at hE
  clear hx
  refine CallT_pure (F := L49) (HasEx.f49) rfl (by first | rfl | (split <;> rfl) | simp) ?_; unfold L49; dsimp only []
  repeat' (first | (simp (disch := first | omega | assumption | (simp only [List.length_set]; omega) | (simp [*] <;> fail) | assumption) [-Bool.decide_and, -Bool.decide_or, -Bool.not_and, -Bool.not_or, toNat_pred, toNat_succ, wrap64, wr_new, wr_new0, ok_if, ok_ifn, iadV_sl, makeV_int, decT, decF, over_at, *]) | (with_reducible refine Gd_split (fun hc => ?_) (fun hc => ?_) <;> (have hc2 := hc; try simp at hc2)) | (with_reducible refine Br_split (fun hc => ?_) (fun hc => ?_) <;> (have hc2 := hc; try simp at hc2)) | (with_reducible refine GdT_split (fun hc => ?_) (fun hc => ?_) <;> (have hc2 := hc; try simp at hc2)) | (with_reducible refine WT_alt ?_ ?_) | omega)
  refine WL_forM 67043376 (by decide +kernel) (12) (fun i b g => i ≤ 12 ∧ b 5 = .lf (.flt .f64 (fofint .f64 (12 - i))) ∧ b 4 = .lf (.flt .f64 (exP (fbin .quo .f64 x 4643211215818981376) i)) ∧ h = g) (fun _ _ _ hi => hi.1) ⟨by simp, by simp [hz12], by simp [exP, oneD], rfl⟩ ?_
  rintro i b g ⟨hi, e5, e4, rfl⟩
  by_cases hlt : i < 12
  · obtain ⟨t1, t2⟩ := term12 hlt
    have sp := exP_succ (t := fbin .quo .f64 x 4643211215818981376) (i := i)
    unfold oneD at *
    repeat' (first | (simp (disch := first | omega | assumption | (simp only [List.length_set]; omega) | (simp [*] <;> fail) | assumption) [-Bool.decide_and, -Bool.decide_or, -Bool.not_and, -Bool.not_or, toNat_pred, toNat_succ, wrap64, wr_new, wr_new0, ok_if, ok_ifn, iadV_sl, makeV_int, decT, decF, over_at, *]) | (with_reducible refine Gd_split (fun hc => ?_) (fun hc => ?_) <;> (have hc2 := hc; try simp at hc2)) | (with_reducible refine Br_split (fun hc => ?_) (fun hc => ?_) <;> (have hc2 := hc; try simp at hc2)) | (with_reducible refine GdT_split (fun hc => ?_) (fun hc => ?_) <;> (have hc2 := hc; try simp at hc2)) | (with_reducible refine WT_alt ?_ ?_) | omega)
    exact ⟨by omega, by congr 1; omega⟩
  · have : i = 12 := by omega
    subst this
    have lc := last_const
    unfold oneD at lc
    repeat' (first | (simp (disch := first | omega | assumption | (simp only [List.length_set]; omega) | (simp [*] <;> fail) | assumption) [-Bool.decide_and, -Bool.decide_or, -Bool.not_and, -Bool.not_or, toNat_pred, toNat_succ, wrap64, wr_new, wr_new0, ok_if, ok_ifn, iadV_sl, makeV_int, decT, decF, over_at, *]) | (with_reducible refine Gd_split (fun hc => ?_) (fun hc => ?_) <;> (have hc2 := hc; try simp at hc2)) | (with_reducible refine Br_split (fun hc => ?_) (fun hc => ?_) <;> (have hc2 := hc; try simp at hc2)) | (with_reducible refine GdT_split (fun hc => ?_) (fun hc => ?_) <;> (have hc2 := hc; try simp at hc2)) | (with_reducible refine WT_alt ?_ ?_) | omega)
    refine WL_forM 8522825808 (by decide +kernel) (8) (fun k b g => k ≤ 8 ∧ b 6 = .lf (.int .i64 k) ∧ b 4 = .lf (.flt .f64 (exS (exP (fbin .quo .f64 x 4643211215818981376) 12) k)) ∧ h = g) (fun _ _ _ hi => hi.1) ⟨by simp, by simp, by simp [over_at, e4, exS], rfl⟩ ?_
    rintro k b2 g ⟨hk, e6, e42, rfl⟩
    generalize exP (fbin .quo .f64 x 4643211215818981376) 12 = p at *
    by_cases hlt : k < 8
    · have sp := exS_succ (p := p) (i := k)
      repeat' (first | (simp (disch := first | omega | assumption | (simp only [List.length_set]; omega) | (simp [*] <;> fail) | assumption) [-Bool.decide_and, -Bool.decide_or, -Bool.not_and, -Bool.not_or, toNat_pred, toNat_succ, wrap64, wr_new, wr_new0, ok_if, ok_ifn, iadV_sl, makeV_int, decT, decF, over_at, *]) | (with_reducible refine Gd_split (fun hc => ?_) (fun hc => ?_) <;> (have hc2 := hc; try simp at hc2)) | (with_reducible refine Br_split (fun hc => ?_) (fun hc => ?_) <;> (have hc2 := hc; try simp at hc2)) | (with_reducible refine GdT_split (fun hc => ?_) (fun hc => ?_) <;> (have hc2 := hc; try simp at hc2)) | (with_reducible refine WT_alt ?_ ?_) | omega)
    · have : k = 8 := by omega
      subst this
      have hE2 : exS p 8 = expC x := (show expC x = _ from hE).symm
      rw [hE2] at e42
      repeat' (first | (simp (disch := first | omega | assumption | (simp only [List.length_set]; omega) | (simp [*] <;> fail) | assumption) [-Bool.decide_and, -Bool.decide_or, -Bool.not_and, -Bool.not_or, toNat_pred, toNat_succ, wrap64, wr_new, wr_new0, ok_if, ok_ifn, iadV_sl, makeV_int, decT, decF, over_at, *]) | (with_reducible refine Gd_split (fun hc => ?_) (fun hc => ?_) <;> (have hc2 := hc; try simp at hc2)) | (with_reducible refine Br_split (fun hc => ?_) (fun hc => ?_) <;> (have hc2 := hc; try simp at hc2)) | (with_reducible refine GdT_split (fun hc => ?_) (fun hc => ?_) <;> (have hc2 := hc; try simp at hc2)) | (with_reducible refine WT_alt ?_ ?_) | omega)
set_option maxRecDepth 20000 in
set_option maxHeartbeats 2000000 in
end
section
variable [HasSp S]
theorem c_stepOf {p : Int} (hp : 0 ≤ p ∧ p ≤ 127) : CallT S true 40 [.lf (.int .i64 p)] h lim K = K (.lf (.flt .f32 (step32 p))) h := by
  have hb : (p - 69).natAbs ≤ 100 := by omega
  have he : ∀ h lim K, CallT S true 49 [.lf (.flt .f64 (fbin .mul .f64 (fofint .f64 (p - 69)) 4588485240726681578))] h lim K = K (.lf (.flt .f64 (expC (stepX (p - 69))))) h := fun h lim K => c_exponential (stepX_lg hb)
  have hs := step_conv hb
  unfold stepW at hs
  generalize expC (stepX (p - 69)) = z at *
  generalize step32 p = y at *
  refine CallT_pure (F := L40) (HasSp.f40) rfl (by first | rfl | (split <;> rfl) | simp) ?_; unfold L40; dsimp only []
  repeat' (first | (simp (disch := first | omega | assumption | (simp only [List.length_set]; omega) | (simp [*] <;> fail) | assumption) [-Bool.decide_and, -Bool.decide_or, -Bool.not_and, -Bool.not_or, toNat_pred, toNat_succ, wrap64, wr_new, wr_new0, ok_if, ok_ifn, iadV_sl, makeV_int, decT, decF, over_at, *]) | (with_reducible refine Gd_split (fun hc => ?_) (fun hc => ?_) <;> (have hc2 := hc; try simp at hc2)) | (with_reducible refine Br_split (fun hc => ?_) (fun hc => ?_) <;> (have hc2 := hc; try simp at hc2)) | (with_reducible refine GdT_split (fun hc => ?_) (fun hc => ?_) <;> (have hc2 := hc; try simp at hc2)) | (with_reducible refine WT_alt ?_ ?_) | omega)
end
end
end Go.E
