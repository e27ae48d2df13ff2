/- The exponential, gains of decibels, both sides. -/
import Derived.Test.YtclbkfmelhheaaaMSq
import Derived.Test.YtclbkfmelhheaaaEP
set_option linter.unusedVariables false
set_option linter.unusedSimpArgs false
set_option exponentiation.threshold 3000
namespace Go.E
open Go
def L174 : LFn := ⟨1, (.seq (.reg [⟨(.some 2), (.mv (.c (.lf (.flt .f64 0)))), none⟩])
 (.seq (.seq (.reg [⟨(.some 7), (.mv (.t 0)), none⟩, ⟨(.some 8), (.mv (.t 0)), none⟩, ⟨(.some 9), (.bin .neq (.t 7) (.t 8)), none⟩])
 (.cond (.t 9) (.seq (.reg [⟨(.some 10), (.mv (.t 0)), none⟩, ⟨(.some 2), (.mv (.t 10)), none⟩])
 .ret) .skip))
 (.seq (.seq (.reg [⟨(.some 11), (.mv (.t 0)), none⟩, ⟨(.some 12), (.bin .gtr (.t 11) (.c (.lf (.flt .f64 4641240890982006784)))), none⟩])
 (.cond (.t 12) (.seq (.reg [⟨(.some 13), (.call true 195 [(.c (.lf (.int .i64 1)))]), none⟩, ⟨(.some 2), (.mv (.t 13)), none⟩])
 .ret) .skip))
 (.seq (.seq (.reg [⟨(.some 14), (.mv (.t 0)), none⟩, ⟨(.some 15), (.bin .lss (.t 14) (.c (.lf (.flt .f64 13864612927836782592)))), none⟩])
 (.cond (.t 15) (.seq (.reg [⟨(.some 2), (.mv (.c (.lf (.flt .f64 0)))), none⟩])
 .ret) .skip))
 (.seq (.reg [⟨(.some 16), (.mv (.t 0)), none⟩, ⟨(.some 17), (.bin .quo (.t 16) (.c (.lf (.flt .f64 4643211215818981376)))), none⟩, ⟨(.some 3), (.mv (.t 17)), none⟩])
 (.seq (.reg [⟨(.some 4), (.mv (.c (.lf (.flt .f64 4607182418800017408)))), none⟩])
 (.seq (.seq (.reg [⟨(.some 5), (.mv (.c (.lf (.int .i64 12)))), none⟩])
 (.block 0 (.loop (.seq (.seq (.reg [⟨(.some 18), (.mv (.t 5)), none⟩, ⟨(.some 19), (.bin .geq (.t 18) (.c (.lf (.int .i64 1)))), none⟩])
 (.cond (.t 19) .skip (.exit 0)))
 (.seq (.block 1 (.reg [⟨(.some 22), (.mv (.t 3)), none⟩, ⟨(.some 23), (.mv (.t 4)), none⟩, ⟨(.some 24), (.bin .mul (.t 22) (.t 23)), none⟩, ⟨(.some 25), (.mv (.t 5)), none⟩, ⟨(.some 26), (.toflt .f64 (.t 25)), none⟩, ⟨(.some 27), (.bin .quo (.t 24) (.t 26)), none⟩, ⟨(.some 28), (.bin .add (.c (.lf (.flt .f64 4607182418800017408))) (.t 27)), none⟩, ⟨(.some 4), (.mv (.t 28)), none⟩]))
 (.reg [⟨(.some 20), (.mv (.t 5)), none⟩, ⟨(.some 21), (.bin .sub (.t 20) (.c (.lf (.int .i64 1)))), none⟩, ⟨(.some 5), (.mv (.t 21)), none⟩]))))))
 (.seq (.seq (.reg [⟨(.some 6), (.mv (.c (.lf (.int .i64 0)))), none⟩])
 (.block 2 (.loop (.seq (.seq (.reg [⟨(.some 29), (.mv (.t 6)), none⟩, ⟨(.some 30), (.bin .lss (.t 29) (.c (.lf (.int .i64 8)))), none⟩])
 (.cond (.t 30) .skip (.exit 2)))
 (.seq (.block 3 (.reg [⟨(.some 33), (.mv (.t 4)), none⟩, ⟨(.some 34), (.mv (.t 4)), none⟩, ⟨(.some 35), (.bin .mul (.t 33) (.t 34)), none⟩, ⟨(.some 4), (.mv (.t 35)), none⟩]))
 (.reg [⟨(.some 31), (.mv (.t 6)), none⟩, ⟨(.some 32), (.bin .add (.t 31) (.c (.lf (.int .i64 1)))), none⟩, ⟨(.some 6), (.mv (.t 32)), none⟩]))))))
 (.seq (.reg [⟨(.some 36), (.mv (.t 4)), none⟩, ⟨(.some 2), (.mv (.t 36)), none⟩])
 .ret))))))))), [(.tmp 2)]⟩
def L179 : LFn := ⟨1, (.seq (.reg [⟨(.some 2), (.mv (.c (.lf (.flt .f64 0)))), none⟩])
 (.seq (.block 0 (.seq (.reg [⟨(.some 8), (.mv (.t 0)), none⟩, ⟨(.some 9), (.bin .gtr (.t 8) (.c (.lf (.flt .f64 4641240890982006784)))), none⟩, ⟨(.some 7), (.mv (.t 9)), none⟩])
 (.cond (.t 7) (.seq (.reg [⟨(.some 10), (.call true 195 [(.c (.lf (.int .i64 1)))]), none⟩, ⟨(.some 2), (.mv (.t 10)), none⟩])
 .ret) (.seq (.reg [⟨(.some 12), (.mv (.t 0)), none⟩, ⟨(.some 13), (.bin .lss (.t 12) (.c (.lf (.flt .f64 13864612927836782592)))), none⟩, ⟨(.some 11), (.mv (.t 13)), none⟩])
 (.cond (.t 11) (.seq (.reg [⟨(.some 2), (.mv (.c (.lf (.flt .f64 0)))), none⟩])
 .ret) .skip)))))
 (.seq (.reg [⟨(.some 14), (.mv (.t 0)), none⟩, ⟨(.some 15), (.bin .quo (.t 14) (.c (.lf (.flt .f64 4643211215818981376)))), none⟩, ⟨(.some 3), (.mv (.t 15)), none⟩, ⟨(.some 4), (.mv (.c (.lf (.flt .f64 4607182418800017408)))), none⟩])
 (.seq (.seq (.reg [⟨(.some 5), (.mv (.c (.lf (.flt .f64 4622945017495814144)))), none⟩])
 (.block 1 (.loop (.seq (.seq (.reg [⟨(.some 16), (.mv (.t 5)), none⟩, ⟨(.some 17), (.bin .geq (.t 16) (.c (.lf (.flt .f64 4607182418800017408)))), none⟩])
 (.cond (.t 17) .skip (.exit 1)))
 (.seq (.block 2 (.reg [⟨(.some 20), (.mv (.t 3)), none⟩, ⟨(.some 21), (.mv (.t 4)), none⟩, ⟨(.some 22), (.bin .mul (.t 20) (.t 21)), none⟩, ⟨(.some 23), (.mv (.t 5)), none⟩, ⟨(.some 24), (.bin .quo (.t 22) (.t 23)), none⟩, ⟨(.some 25), (.bin .add (.c (.lf (.flt .f64 4607182418800017408))) (.t 24)), none⟩, ⟨(.some 4), (.mv (.t 25)), none⟩]))
 (.reg [⟨(.some 18), (.mv (.t 5)), none⟩, ⟨(.some 19), (.bin .sub (.t 18) (.c (.lf (.flt .f64 4607182418800017408)))), none⟩, ⟨(.some 5), (.mv (.t 19)), none⟩]))))))
 (.seq (.seq (.reg [⟨(.some 6), (.mv (.c (.lf (.int .i64 0)))), none⟩])
 (.block 3 (.loop (.seq (.seq (.reg [⟨(.some 26), (.mv (.t 6)), none⟩, ⟨(.some 27), (.bin .lss (.t 26) (.c (.lf (.int .i64 8)))), none⟩])
 (.cond (.t 27) .skip (.exit 3)))
 (.seq (.block 4 (.reg [⟨(.some 30), (.mv (.t 4)), none⟩, ⟨(.some 31), (.mv (.t 4)), none⟩, ⟨(.some 32), (.bin .mul (.t 30) (.t 31)), none⟩, ⟨(.some 4), (.mv (.t 32)), none⟩]))
 (.reg [⟨(.some 28), (.mv (.t 6)), none⟩, ⟨(.some 29), (.bin .add (.t 28) (.c (.lf (.int .i64 1)))), none⟩, ⟨(.some 6), (.mv (.t 29)), none⟩]))))))
 (.seq (.reg [⟨(.some 33), (.mv (.t 4)), none⟩, ⟨(.some 2), (.mv (.t 33)), none⟩])
 .ret)))))), [(.tmp 2)]⟩
class HasEx (S : Sys) : Prop extends HasSi S where
  f174 : S.fs 174 = some L174
  f179 : S.fs 179 = some L179
def L165 : LFn := ⟨1, (.seq (.reg [⟨(.some 2), (.mv (.c (.lf (.flt .f32 0)))), none⟩])
 (.seq (.reg [⟨(.some 3), (.mv (.t 0)), none⟩, ⟨(.some 4), (.toflt .f64 (.t 3)), none⟩, ⟨(.some 5), (.bin .mul (.t 4) (.c (.lf (.flt .f64 4577790371455803420)))), none⟩, ⟨(.some 6), (.call true 174 [(.t 5)]), none⟩, ⟨(.some 7), (.call true 175 [(.t 6)]), none⟩, ⟨(.some 2), (.mv (.t 7)), none⟩])
 .ret)), [(.tmp 2)]⟩
def L168 : LFn := ⟨1, (.seq (.reg [⟨(.some 2), (.mv (.c (.lf (.flt .f32 0)))), none⟩, ⟨(.some 3), (.mv (.c (.lf (.bool false)))), none⟩])
 (.seq (.seq (.reg [⟨(.some 4), (.mv (.t 0)), none⟩, ⟨(.some 5), (.call true 76 [(.t 4)]), none⟩, ⟨(.some 6), (.una .not (.t 5)), none⟩])
 (.cond (.t 6) (.seq (.reg [⟨(.some 2), (.mv (.c (.lf (.flt .f32 0)))), none⟩, ⟨(.some 3), (.mv (.c (.lf (.bool false)))), none⟩])
 .ret) .skip))
 (.seq (.reg [⟨(.some 7), (.mv (.t 0)), none⟩, ⟨(.some 8), (.toflt .f64 (.t 7)), none⟩, ⟨(.some 9), (.bin .mul (.t 8) (.c (.lf (.flt .f64 4577790371455803420)))), none⟩, ⟨(.some 10), (.call true 179 [(.t 9)]), none⟩, ⟨(.some 11), (.toflt .f32 (.t 10)), none⟩, ⟨(.some 2), (.mv (.t 11)), none⟩, ⟨(.some 3), (.mv (.c (.lf (.bool true)))), none⟩])
 .ret))), [(.tmp 2), (.tmp 3)]⟩
class HasGn (S : Sys) : Prop extends HasEx S where
  f165 : S.fs 165 = some L165
  f168 : S.fs 168 = some L168
def L128 : LFn := ⟨1, (.seq (.reg [⟨(.some 2), (.mv (.c (.lf (.flt .f32 0)))), none⟩])
 (.seq (.reg [⟨(.some 4), (.mv (.t 0)), none⟩, ⟨(.some 5), (.bin .sub (.t 4) (.c (.lf (.int .i64 69)))), none⟩, ⟨(.some 6), (.toflt .f64 (.t 5)), none⟩, ⟨(.some 7), (.bin .mul (.t 6) (.c (.lf (.flt .f64 4588485240726681578)))), none⟩, ⟨(.some 8), (.call true 174 [(.t 7)]), none⟩, ⟨(.some 3), (.mv (.t 8)), none⟩])
 (.seq (.reg [⟨(.some 9), (.mv (.t 3)), none⟩, ⟨(.some 10), (.bin .mul (.t 9) (.c (.lf (.flt .f64 4646448178051153920)))), none⟩, ⟨(.some 11), (.bin .quo (.t 10) (.c (.lf (.flt .f64 4676829883349860352)))), none⟩, ⟨(.some 12), (.call true 175 [(.t 11)]), none⟩, ⟨(.some 2), (.mv (.t 12)), none⟩])
 .ret))), [(.tmp 2)]⟩
def L135 : LFn := ⟨1, (.seq (.reg [⟨(.some 2), (.mv (.c (.lf (.flt .f32 0)))), none⟩])
 (.seq (.reg [⟨(.some 3), (.mv (.t 0)), none⟩, ⟨(.some 4), (.bin .sub (.t 3) (.c (.lf (.int .i64 69)))), none⟩, ⟨(.some 5), (.toflt .f64 (.t 4)), none⟩, ⟨(.some 6), (.bin .mul (.t 5) (.c (.lf (.flt .f64 4588485240726681578)))), none⟩, ⟨(.some 7), (.call true 179 [(.t 6)]), none⟩, ⟨(.some 8), (.bin .mul (.t 7) (.c (.lf (.flt .f64 4646448178051153920)))), none⟩, ⟨(.some 9), (.bin .quo (.t 8) (.c (.lf (.flt .f64 4676829883349860352)))), none⟩, ⟨(.some 10), (.toflt .f32 (.t 9)), none⟩, ⟨(.some 2), (.mv (.t 10)), none⟩])
 .ret)), [(.tmp 2)]⟩
class HasSp (S : Sys) : Prop extends HasEx S where
  f128 : S.fs 128 = some L128
  f135 : S.fs 135 = some L135
theorem term12 {i : Nat} (h : i < 12) : fbin .sub .f64 (fofint .f64 (12 - (i : Int))) oneD = fofint .f64 (12 - (i : Int) - 1) ∧ fcmp .geq .f64 (fofint .f64 (12 - (i : Int))) oneD = true := by
  rcases twelve h with rfl | rfl | rfl | rfl | rfl | rfl | rfl | rfl | rfl | rfl | rfl | rfl <;> decide +kernel
theorem exP_succ {t i : Nat} : exP t (i + 1) = fbin .add .f64 oneD (fbin .quo .f64 (fbin .mul .f64 t (exP t i)) (fofint .f64 (12 - (i : Int)))) := rfl
theorem exS_succ {p i : Nat} : exS p (i + 1) = fbin .mul .f64 (exS p i) (exS p i) := rfl
def gain32 (n : Int) : Nat := (fconv .f64 .f32 (expC (gainX n))).getD 0
theorem gain_conv {n : Int} (hn : n.natAbs ≤ 2000) : fconv .f64 .f32 (expC (gainX n)) = some (gain32 n) := by
  obtain ⟨y, hy⟩ := exp_some (gainX_lg hn)
  unfold gain32; rw [hy]; rfl
def step32 (p : Int) : Nat := (fconv .f64 .f32 (stepW (stepX (p - 69)))).getD 0
theorem step_conv {p : Int} (hp : (p - 69).natAbs ≤ 100) : fconv .f64 .f32 (stepW (stepX (p - 69))) = some (step32 p) := by
  obtain ⟨y, hy⟩ := step_some (stepX_lg hp)
  unfold step32; rw [hy]; rfl
section
variable {S : Sys} {lim : Nat} {h : Hp} {K : CV → Hp → Prop}
section
variable [HasEx S]
set_option maxRecDepth 20000 in
set_option maxHeartbeats 2000000 in
theorem c_exponential {x : Nat} (hx : Lg x 4) : CallT S true 179 [.lf (.flt .f64 x)] h lim K = K (.lf (.flt .f64 (expC x))) h := by
  obtain ⟨h1, h2, h3⟩ := exp_tests hx
  have hz12 : fofint .f64 12 = 4622945017495814144 := by decide +kernel
  have hE : Hid (expC x = exS (exP (exT x) 12) 8) := rfl
  unfold exT at hE
  clear hx
  refine CallT_pure (F := L179) (HasEx.f179) rfl (by first | rfl | (split <;> rfl) | simp) ?_; unfold L179; dsimp only []
  repeat' (first | (simp (disch := first | omega | assumption | (simp only [List.length_set]; omega) | (simp [*] <;> fail) | assumption) [-Bool.decide_and, -Bool.decide_or, -Bool.not_and, -Bool.not_or, toNat_pred, toNat_succ, wrap64, wr_new, wr_new0, ok_if, ok_ifn, iadV_sl, makeV_int, decT, decF, over_at, *]) | (with_reducible refine Gd_split (fun hc => ?_) (fun hc => ?_) <;> (have hc2 := hc; try simp at hc2)) | (with_reducible refine Br_split (fun hc => ?_) (fun hc => ?_) <;> (have hc2 := hc; try simp at hc2)) | (with_reducible refine GdT_split (fun hc => ?_) (fun hc => ?_) <;> (have hc2 := hc; try simp at hc2)) | (with_reducible refine WT_alt ?_ ?_) | omega)
  refine WL_forM 67043376 (by decide +kernel) (12) (fun i b g => i ≤ 12 ∧ b 5 = .lf (.flt .f64 (fofint .f64 (12 - i))) ∧ b 4 = .lf (.flt .f64 (exP (fbin .quo .f64 x 4643211215818981376) i)) ∧ h = g) (fun _ _ _ hi => hi.1) ⟨by simp, by simp [hz12], by simp [exP, oneD], rfl⟩ ?_
  rintro i b g ⟨hi, e5, e4, rfl⟩
  by_cases hlt : i < 12
  · obtain ⟨t1, t2⟩ := term12 hlt
    have sp := exP_succ (t := fbin .quo .f64 x 4643211215818981376) (i := i)
    unfold oneD at *
    repeat' (first | (simp (disch := first | omega | assumption | (simp only [List.length_set]; omega) | (simp [*] <;> fail) | assumption) [-Bool.decide_and, -Bool.decide_or, -Bool.not_and, -Bool.not_or, toNat_pred, toNat_succ, wrap64, wr_new, wr_new0, ok_if, ok_ifn, iadV_sl, makeV_int, decT, decF, over_at, *]) | (with_reducible refine Gd_split (fun hc => ?_) (fun hc => ?_) <;> (have hc2 := hc; try simp at hc2)) | (with_reducible refine Br_split (fun hc => ?_) (fun hc => ?_) <;> (have hc2 := hc; try simp at hc2)) | (with_reducible refine GdT_split (fun hc => ?_) (fun hc => ?_) <;> (have hc2 := hc; try simp at hc2)) | (with_reducible refine WT_alt ?_ ?_) | omega)
    exact ⟨by omega, by congr 1; omega⟩
  · have : i = 12 := by omega
    subst this
    have lc := last_const
    unfold oneD at lc
    repeat' (first | (simp (disch := first | omega | assumption | (simp only [List.length_set]; omega) | (simp [*] <;> fail) | assumption) [-Bool.decide_and, -Bool.decide_or, -Bool.not_and, -Bool.not_or, toNat_pred, toNat_succ, wrap64, wr_new, wr_new0, ok_if, ok_ifn, iadV_sl, makeV_int, decT, decF, over_at, *]) | (with_reducible refine Gd_split (fun hc => ?_) (fun hc => ?_) <;> (have hc2 := hc; try simp at hc2)) | (with_reducible refine Br_split (fun hc => ?_) (fun hc => ?_) <;> (have hc2 := hc; try simp at hc2)) | (with_reducible refine GdT_split (fun hc => ?_) (fun hc => ?_) <;> (have hc2 := hc; try simp at hc2)) | (with_reducible refine WT_alt ?_ ?_) | omega)
    refine WL_forM 8522825808 (by decide +kernel) (8) (fun k b g => k ≤ 8 ∧ b 6 = .lf (.int .i64 k) ∧ b 4 = .lf (.flt .f64 (exS (exP (fbin .quo .f64 x 4643211215818981376) 12) k)) ∧ h = g) (fun _ _ _ hi => hi.1) ⟨by simp, by simp, by simp [over_at, e4, exS], rfl⟩ ?_
    rintro k b2 g ⟨hk, e6, e42, rfl⟩
    generalize exP (fbin .quo .f64 x 4643211215818981376) 12 = p at *
    by_cases hlt : k < 8
    · have sp := exS_succ (p := p) (i := k)
      repeat' (first | (simp (disch := first | omega | assumption | (simp only [List.length_set]; omega) | (simp [*] <;> fail) | assumption) [-Bool.decide_and, -Bool.decide_or, -Bool.not_and, -Bool.not_or, toNat_pred, toNat_succ, wrap64, wr_new, wr_new0, ok_if, ok_ifn, iadV_sl, makeV_int, decT, decF, over_at, *]) | (with_reducible refine Gd_split (fun hc => ?_) (fun hc => ?_) <;> (have hc2 := hc; try simp at hc2)) | (with_reducible refine Br_split (fun hc => ?_) (fun hc => ?_) <;> (have hc2 := hc; try simp at hc2)) | (with_reducible refine GdT_split (fun hc => ?_) (fun hc => ?_) <;> (have hc2 := hc; try simp at hc2)) | (with_reducible refine WT_alt ?_ ?_) | omega)
    · have : k = 8 := by omega
      subst this
      have hE2 : exS p 8 = expC x := (show expC x = _ from hE).symm
      rw [hE2] at e42
      repeat' (first | (simp (disch := first | omega | assumption | (simp only [List.length_set]; omega) | (simp [*] <;> fail) | assumption) [-Bool.decide_and, -Bool.decide_or, -Bool.not_and, -Bool.not_or, toNat_pred, toNat_succ, wrap64, wr_new, wr_new0, ok_if, ok_ifn, iadV_sl, makeV_int, decT, decF, over_at, *]) | (with_reducible refine Gd_split (fun hc => ?_) (fun hc => ?_) <;> (have hc2 := hc; try simp at hc2)) | (with_reducible refine Br_split (fun hc => ?_) (fun hc => ?_) <;> (have hc2 := hc; try simp at hc2)) | (with_reducible refine GdT_split (fun hc => ?_) (fun hc => ?_) <;> (have hc2 := hc; try simp at hc2)) | (with_reducible refine WT_alt ?_ ?_) | omega)
set_option maxRecDepth 20000 in
set_option maxHeartbeats 2000000 in
theorem c_l01ExpWide {x : Nat} (hx : Lg x 4) : CallT S true 174 [.lf (.flt .f64 x)] h lim K = K (.lf (.flt .f64 (expC x))) h := by
  obtain ⟨h1, h2, h3⟩ := exp_tests hx
  have h4 : fcmp .neq .f64 x x = false := by rw [fcmp_neq, h3]; rfl
  have hE : Hid (expC x = exS (exP (exT x) 12) 8) := rfl
  unfold exT at hE
  clear hx h3
  refine CallT_pure (F := L174) (HasEx.f174) rfl (by first | rfl | (split <;> rfl) | simp) ?_; unfold L174; dsimp only []
  repeat' (first | (simp (disch := first | omega | assumption | (simp only [List.length_set]; omega) | (simp [*] <;> fail) | assumption) [-Bool.decide_and, -Bool.decide_or, -Bool.not_and, -Bool.not_or, toNat_pred, toNat_succ, wrap64, wr_new, wr_new0, ok_if, ok_ifn, iadV_sl, makeV_int, decT, decF, over_at, *]) | (with_reducible refine Gd_split (fun hc => ?_) (fun hc => ?_) <;> (have hc2 := hc; try simp at hc2)) | (with_reducible refine Br_split (fun hc => ?_) (fun hc => ?_) <;> (have hc2 := hc; try simp at hc2)) | (with_reducible refine GdT_split (fun hc => ?_) (fun hc => ?_) <;> (have hc2 := hc; try simp at hc2)) | (with_reducible refine WT_alt ?_ ?_) | omega)
  refine WL_forM 536608816 (by decide +kernel) (12) (fun i b g => i ≤ 12 ∧ b 5 = .lf (.int .i64 (12 - i)) ∧ b 4 = .lf (.flt .f64 (exP (fbin .quo .f64 x 4643211215818981376) i)) ∧ h = g) (fun _ _ _ hi => hi.1) ⟨by simp, by simp, by simp [exP, oneD], rfl⟩ ?_
  rintro i b g ⟨hi, e5, e4, rfl⟩
  by_cases hlt : i < 12
  · have sp := exP_succ (t := fbin .quo .f64 x 4643211215818981376) (i := i)
    unfold oneD at *
    repeat' (first | (simp (disch := first | omega | assumption | (simp only [List.length_set]; omega) | (simp [*] <;> fail) | assumption) [-Bool.decide_and, -Bool.decide_or, -Bool.not_and, -Bool.not_or, toNat_pred, toNat_succ, wrap64, wr_new, wr_new0, ok_if, ok_ifn, iadV_sl, makeV_int, decT, decF, over_at, *]) | (with_reducible refine Gd_split (fun hc => ?_) (fun hc => ?_) <;> (have hc2 := hc; try simp at hc2)) | (with_reducible refine Br_split (fun hc => ?_) (fun hc => ?_) <;> (have hc2 := hc; try simp at hc2)) | (with_reducible refine GdT_split (fun hc => ?_) (fun hc => ?_) <;> (have hc2 := hc; try simp at hc2)) | (with_reducible refine WT_alt ?_ ?_) | omega)
  · have : i = 12 := by omega
    subst this
    repeat' (first | (simp (disch := first | omega | assumption | (simp only [List.length_set]; omega) | (simp [*] <;> fail) | assumption) [-Bool.decide_and, -Bool.decide_or, -Bool.not_and, -Bool.not_or, toNat_pred, toNat_succ, wrap64, wr_new, wr_new0, ok_if, ok_ifn, iadV_sl, makeV_int, decT, decF, over_at, *]) | (with_reducible refine Gd_split (fun hc => ?_) (fun hc => ?_) <;> (have hc2 := hc; try simp at hc2)) | (with_reducible refine Br_split (fun hc => ?_) (fun hc => ?_) <;> (have hc2 := hc; try simp at hc2)) | (with_reducible refine GdT_split (fun hc => ?_) (fun hc => ?_) <;> (have hc2 := hc; try simp at hc2)) | (with_reducible refine WT_alt ?_ ?_) | omega)
    refine WL_forM 68182605904 (by decide +kernel) (8) (fun k b g => k ≤ 8 ∧ b 6 = .lf (.int .i64 k) ∧ b 4 = .lf (.flt .f64 (exS (exP (fbin .quo .f64 x 4643211215818981376) 12) k)) ∧ h = g) (fun _ _ _ hi => hi.1) ⟨by simp, by simp, by simp [over_at, e4, exS], rfl⟩ ?_
    rintro k b2 g ⟨hk, e6, e42, rfl⟩
    generalize exP (fbin .quo .f64 x 4643211215818981376) 12 = p at *
    by_cases hlt : k < 8
    · have sp := exS_succ (p := p) (i := k)
      repeat' (first | (simp (disch := first | omega | assumption | (simp only [List.length_set]; omega) | (simp [*] <;> fail) | assumption) [-Bool.decide_and, -Bool.decide_or, -Bool.not_and, -Bool.not_or, toNat_pred, toNat_succ, wrap64, wr_new, wr_new0, ok_if, ok_ifn, iadV_sl, makeV_int, decT, decF, over_at, *]) | (with_reducible refine Gd_split (fun hc => ?_) (fun hc => ?_) <;> (have hc2 := hc; try simp at hc2)) | (with_reducible refine Br_split (fun hc => ?_) (fun hc => ?_) <;> (have hc2 := hc; try simp at hc2)) | (with_reducible refine GdT_split (fun hc => ?_) (fun hc => ?_) <;> (have hc2 := hc; try simp at hc2)) | (with_reducible refine WT_alt ?_ ?_) | omega)
    · have : k = 8 := by omega
      subst this
      have hE2 : exS p 8 = expC x := (show expC x = _ from hE).symm
      rw [hE2] at e42
      repeat' (first | (simp (disch := first | omega | assumption | (simp only [List.length_set]; omega) | (simp [*] <;> fail) | assumption) [-Bool.decide_and, -Bool.decide_or, -Bool.not_and, -Bool.not_or, toNat_pred, toNat_succ, wrap64, wr_new, wr_new0, ok_if, ok_ifn, iadV_sl, makeV_int, decT, decF, over_at, *]) | (with_reducible refine Gd_split (fun hc => ?_) (fun hc => ?_) <;> (have hc2 := hc; try simp at hc2)) | (with_reducible refine Br_split (fun hc => ?_) (fun hc => ?_) <;> (have hc2 := hc; try simp at hc2)) | (with_reducible refine GdT_split (fun hc => ?_) (fun hc => ?_) <;> (have hc2 := hc; try simp at hc2)) | (with_reducible refine WT_alt ?_ ?_) | omega)
end
section
variable [HasGn S]
theorem c_l01Gain {n : Int} (hn : -2000 ≤ n ∧ n ≤ 2000) : CallT S true 165 [.lf (.int .i64 n)] h lim K = K (.lf (.flt .f32 (gain32 n))) h := by
  have hb : n.natAbs ≤ 2000 := by omega
  have he : ∀ h lim K, CallT S true 174 [.lf (.flt .f64 (fbin .mul .f64 (fofint .f64 n) 4577790371455803420))] h lim K = K (.lf (.flt .f64 (expC (gainX n)))) h := fun h lim K => c_l01ExpWide (gainX_lg hb)
  have hc := fun h lim K => c_l01Narrow (S := S) (h := h) (lim := lim) (K := K) (gain_conv hb)
  generalize expC (gainX n) = z at *
  generalize gain32 n = y at *
  refine CallT_pure (F := L165) (HasGn.f165) rfl (by first | rfl | (split <;> rfl) | simp) ?_; unfold L165; dsimp only []
  repeat' (first | (simp (disch := first | omega | assumption | (simp only [List.length_set]; omega) | (simp [*] <;> fail) | assumption) [-Bool.decide_and, -Bool.decide_or, -Bool.not_and, -Bool.not_or, toNat_pred, toNat_succ, wrap64, wr_new, wr_new0, ok_if, ok_ifn, iadV_sl, makeV_int, decT, decF, over_at, *]) | (with_reducible refine Gd_split (fun hc => ?_) (fun hc => ?_) <;> (have hc2 := hc; try simp at hc2)) | (with_reducible refine Br_split (fun hc => ?_) (fun hc => ?_) <;> (have hc2 := hc; try simp at hc2)) | (with_reducible refine GdT_split (fun hc => ?_) (fun hc => ?_) <;> (have hc2 := hc; try simp at hc2)) | (with_reducible refine WT_alt ?_ ?_) | omega)
theorem c_GainOf {n : Int} (hn : -2000 ≤ n ∧ n ≤ 2000) (ht : ∀ h lim K, CallT S true 76 [.lf (.int .i64 n)] h lim K = K (.lf (.bool true)) h) : CallT S true 168 [.lf (.int .i64 n)] h lim K = K (.tup [.lf (.flt .f32 (gain32 n)), .lf (.bool true)]) h := by
  have hb : n.natAbs ≤ 2000 := by omega
  have he : ∀ h lim K, CallT S true 179 [.lf (.flt .f64 (fbin .mul .f64 (fofint .f64 n) 4577790371455803420))] h lim K = K (.lf (.flt .f64 (expC (gainX n)))) h := fun h lim K => c_exponential (gainX_lg hb)
  have hc := gain_conv hb
  generalize expC (gainX n) = z at *
  generalize gain32 n = y at *
  refine CallT_pure (F := L168) (HasGn.f168) rfl (by first | rfl | (split <;> rfl) | simp) ?_; unfold L168; dsimp only []
  repeat' (first | (simp (disch := first | omega | assumption | (simp only [List.length_set]; omega) | (simp [*] <;> fail) | assumption) [-Bool.decide_and, -Bool.decide_or, -Bool.not_and, -Bool.not_or, toNat_pred, toNat_succ, wrap64, wr_new, wr_new0, ok_if, ok_ifn, iadV_sl, makeV_int, decT, decF, over_at, *]) | (with_reducible refine Gd_split (fun hc => ?_) (fun hc => ?_) <;> (have hc2 := hc; try simp at hc2)) | (with_reducible refine Br_split (fun hc => ?_) (fun hc => ?_) <;> (have hc2 := hc; try simp at hc2)) | (with_reducible refine GdT_split (fun hc => ?_) (fun hc => ?_) <;> (have hc2 := hc; try simp at hc2)) | (with_reducible refine WT_alt ?_ ?_) | omega)
end
section
variable [HasSp S]
theorem c_l05Step {p : Int} (hp : 0 ≤ p ∧ p ≤ 127) : CallT S true 128 [.lf (.int .i64 p)] h lim K = K (.lf (.flt .f32 (step32 p))) h := by
  have hb : (p - 69).natAbs ≤ 100 := by omega
  have he : ∀ h lim K, CallT S true 174 [.lf (.flt .f64 (fbin .mul .f64 (fofint .f64 (p - 69)) 4588485240726681578))] h lim K = K (.lf (.flt .f64 (expC (stepX (p - 69))))) h := fun h lim K => c_l01ExpWide (stepX_lg hb)
  have hs := step_conv hb
  unfold stepW at hs
  have hc := fun h lim K => c_l01Narrow (S := S) (h := h) (lim := lim) (K := K) hs
  generalize expC (stepX (p - 69)) = z at *
  generalize step32 p = y at *
  refine CallT_pure (F := L128) (HasSp.f128) rfl (by first | rfl | (split <;> rfl) | simp) ?_; unfold L128; dsimp only []
  repeat' (first | (simp (disch := first | omega | assumption | (simp only [List.length_set]; omega) | (simp [*] <;> fail) | assumption) [-Bool.decide_and, -Bool.decide_or, -Bool.not_and, -Bool.not_or, toNat_pred, toNat_succ, wrap64, wr_new, wr_new0, ok_if, ok_ifn, iadV_sl, makeV_int, decT, decF, over_at, *]) | (with_reducible refine Gd_split (fun hc => ?_) (fun hc => ?_) <;> (have hc2 := hc; try simp at hc2)) | (with_reducible refine Br_split (fun hc => ?_) (fun hc => ?_) <;> (have hc2 := hc; try simp at hc2)) | (with_reducible refine GdT_split (fun hc => ?_) (fun hc => ?_) <;> (have hc2 := hc; try simp at hc2)) | (with_reducible refine WT_alt ?_ ?_) | omega)
theorem c_stepOf {p : Int} (hp : 0 ≤ p ∧ p ≤ 127) : CallT S true 135 [.lf (.int .i64 p)] h lim K = K (.lf (.flt .f32 (step32 p))) h := by
  have hb : (p - 69).natAbs ≤ 100 := by omega
  have he : ∀ h lim K, CallT S true 179 [.lf (.flt .f64 (fbin .mul .f64 (fofint .f64 (p - 69)) 4588485240726681578))] h lim K = K (.lf (.flt .f64 (expC (stepX (p - 69))))) h := fun h lim K => c_exponential (stepX_lg hb)
  have hs := step_conv hb
  unfold stepW at hs
  generalize expC (stepX (p - 69)) = z at *
  generalize step32 p = y at *
  refine CallT_pure (F := L135) (HasSp.f135) rfl (by first | rfl | (split <;> rfl) | simp) ?_; unfold L135; dsimp only []
  repeat' (first | (simp (disch := first | omega | assumption | (simp only [List.length_set]; omega) | (simp [*] <;> fail) | assumption) [-Bool.decide_and, -Bool.decide_or, -Bool.not_and, -Bool.not_or, toNat_pred, toNat_succ, wrap64, wr_new, wr_new0, ok_if, ok_ifn, iadV_sl, makeV_int, decT, decF, over_at, *]) | (with_reducible refine Gd_split (fun hc => ?_) (fun hc => ?_) <;> (have hc2 := hc; try simp at hc2)) | (with_reducible refine Br_split (fun hc => ?_) (fun hc => ?_) <;> (have hc2 := hc; try simp at hc2)) | (with_reducible refine GdT_split (fun hc => ?_) (fun hc => ?_) <;> (have hc2 := hc; try simp at hc2)) | (with_reducible refine WT_alt ?_ ?_) | omega)
end
end
end Go.E
