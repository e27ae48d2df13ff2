/- The sine of turns, the reference's side. -/
import Derived.Test.YtclbkfmelhheaaaMSi
set_option linter.unusedVariables false
set_option linter.unusedSimpArgs false
set_option exponentiation.threshold 3000
namespace Go.E
open Go
def nearW (x : Nat) : Nat := if fcmp .geq .f64 (sineR x) halfD = true then fneg .f64 (valD (sineR x)) else valD (sineR x)
section
variable {S : Sys} {lim : Nat} {h : Hp} {K : CV → Hp → Prop} [HasSi S]
theorem dvN_int {i : Nat} (h : i < 8) : (2 * (8 - (i : Int))) * (2 * (8 - (i : Int)) + 1) = dvN (8 - (i : Int)) ∧ IntKind.wrap .i64 (2 * (8 - (i : Int))) = 2 * (8 - (i : Int)) ∧ 1 ≤ dvN (8 - (i : Int)) ∧ dvN (8 - (i : Int)) ≤ 300 := by
  rcases eight h with rfl | rfl | rfl | rfl | rfl | rfl | rfl | rfl <;> decide +kernel
set_option maxRecDepth 20000 in
set_option maxHeartbeats 4000000 in
theorem c_l01SineNear {x : Nat} (hx : x < 18446744073709551616) (hf : fcmp .eql .f64 (fbin .sub .f64 x x) 0 = true) (hfar : farB x = false) : CallT S true 196 [.lf (.flt .f64 x)] h lim K = K (.lf (.flt .f64 (nearW x))) h := by
  obtain ⟨g1, _, _⟩ := near_facts hx hf hfar
  have hfr := hfar
  unfold farB bigD negBigD at hfr
  rw [Bool.or_eq_false_iff] at hfr
  obtain ⟨f1, f2⟩ := hfr
  have hne : fcmp .neq .f64 (fbin .sub .f64 x x) 0 = false := by rw [fcmp_neq, hf]; rfl
  have hz8 : (8 : Int) - ((0 : Nat) : Int) = 8 := by decide
  obtain ⟨d, hd⟩ : ∃ d, fbin .sub .f64 x (fofint .f64 (wholeI x)) = d := ⟨_, rfl⟩
  obtain ⟨r, hr⟩ : ∃ r, sineR x = r := ⟨_, rfl⟩
  have hr2 : r = if fcmp .lss .f64 d 0 = true then fbin .add .f64 d oneD else d := by rw [← hr, ← hd]; rfl
  unfold nearW
  rw [hr]
  generalize wholeI x = n at *
  clear hr hfar hf
  have hv : valD r = fbin .mul .f64 (fbin .mul .f64 (foldZ (foldY r)) tpiD) (pN (fbin .mul .f64 (fbin .mul .f64 (foldZ (foldY r)) tpiD) (fbin .mul .f64 (foldZ (foldY r)) tpiD)) 8) := rfl
  rw [hv]
  clear hv
  cases w0 : fcmp .lss .f64 d 0
  · have hr3 : d = r := by rw [hr2, w0]; rfl
    clear hr2
    subst hr3
    cases w1 : fcmp .geq .f64 d halfD
    · have hy : foldY d = d := by unfold foldY; rw [w1]; rfl
      rw [hy]
      clear hy
      cases w2 : fcmp .gtr .f64 d qtrD
      · have hzz : foldZ d = d := by unfold foldZ; rw [w2]; rfl
        rw [hzz]
        clear hzz
        unfold halfD at w1
        unfold qtrD at w2
        unfold tpiD
        refine CallT_pure (F := L196) (HasSi.f196) rfl (by first | rfl | (split <;> rfl) | simp) ?_; unfold L196; dsimp only []
        repeat' (first | (simp (disch := first | omega | assumption | (simp only [List.length_set]; omega) | (simp [*] <;> fail) | assumption) [-Bool.decide_and, -Bool.decide_or, -Bool.not_and, -Bool.not_or, toNat_pred, toNat_succ, wrap64, wr_new, wr_new0, ok_if, ok_ifn, iadV_sl, makeV_int, decT, decF, over_at, *]) | (with_reducible refine Gd_split (fun hc => ?_) (fun hc => ?_) <;> (have hc2 := hc; try simp at hc2)) | (with_reducible refine Br_split (fun hc => ?_) (fun hc => ?_) <;> (have hc2 := hc; try simp at hc2)) | (with_reducible refine GdT_split (fun hc => ?_) (fun hc => ?_) <;> (have hc2 := hc; try simp at hc2)) | (with_reducible refine WT_alt ?_ ?_) | omega)
        refine WL_forM 576451956210401664 (by decide +kernel) (8) (fun i b g => i ≤ 8 ∧ b 8 = .lf (.int .i64 (8 - i)) ∧ b 7 = .lf (.flt .f64 (pN (fbin .mul .f64 (fbin .mul .f64 d 4618760256179416344) (fbin .mul .f64 d 4618760256179416344)) i)) ∧ h = g) (fun _ _ _ hi => hi.1) ⟨by simp, by simp, by simp [pN, oneD], rfl⟩ ?_
        rintro i b g ⟨hi, e8, e7, rfl⟩
        by_cases hlt : i < 8
        · obtain ⟨t1, t2, t3, t4⟩ := dvN_int hlt
          have sp := pN_succ (q := (fbin .mul .f64 (fbin .mul .f64 d 4618760256179416344) (fbin .mul .f64 d 4618760256179416344))) (i := i)
          unfold oneD at *
          repeat' (first | (simp (disch := first | omega | assumption | (simp only [List.length_set]; omega) | (simp [*] <;> fail) | assumption) [-Bool.decide_and, -Bool.decide_or, -Bool.not_and, -Bool.not_or, toNat_pred, toNat_succ, wrap64, wr_new, wr_new0, ok_if, ok_ifn, iadV_sl, makeV_int, decT, decF, over_at, *]) | (with_reducible refine Gd_split (fun hc => ?_) (fun hc => ?_) <;> (have hc2 := hc; try simp at hc2)) | (with_reducible refine Br_split (fun hc => ?_) (fun hc => ?_) <;> (have hc2 := hc; try simp at hc2)) | (with_reducible refine GdT_split (fun hc => ?_) (fun hc => ?_) <;> (have hc2 := hc; try simp at hc2)) | (with_reducible refine WT_alt ?_ ?_) | omega)
        · have : i = 8 := by omega
          subst this
          repeat' (first | (simp (disch := first | omega | assumption | (simp only [List.length_set]; omega) | (simp [*] <;> fail) | assumption) [-Bool.decide_and, -Bool.decide_or, -Bool.not_and, -Bool.not_or, toNat_pred, toNat_succ, wrap64, wr_new, wr_new0, ok_if, ok_ifn, iadV_sl, makeV_int, decT, decF, over_at, *]) | (with_reducible refine Gd_split (fun hc => ?_) (fun hc => ?_) <;> (have hc2 := hc; try simp at hc2)) | (with_reducible refine Br_split (fun hc => ?_) (fun hc => ?_) <;> (have hc2 := hc; try simp at hc2)) | (with_reducible refine GdT_split (fun hc => ?_) (fun hc => ?_) <;> (have hc2 := hc; try simp at hc2)) | (with_reducible refine WT_alt ?_ ?_) | omega)
      · have hzz : foldZ d = (fbin .sub .f64 4602678819172646912 d) := by unfold foldZ; rw [w2]; rfl
        rw [hzz]
        clear hzz
        unfold halfD at w1
        unfold qtrD at w2
        unfold tpiD
        refine CallT_pure (F := L196) (HasSi.f196) rfl (by first | rfl | (split <;> rfl) | simp) ?_; unfold L196; dsimp only []
        repeat' (first | (simp (disch := first | omega | assumption | (simp only [List.length_set]; omega) | (simp [*] <;> fail) | assumption) [-Bool.decide_and, -Bool.decide_or, -Bool.not_and, -Bool.not_or, toNat_pred, toNat_succ, wrap64, wr_new, wr_new0, ok_if, ok_ifn, iadV_sl, makeV_int, decT, decF, over_at, *]) | (with_reducible refine Gd_split (fun hc => ?_) (fun hc => ?_) <;> (have hc2 := hc; try simp at hc2)) | (with_reducible refine Br_split (fun hc => ?_) (fun hc => ?_) <;> (have hc2 := hc; try simp at hc2)) | (with_reducible refine GdT_split (fun hc => ?_) (fun hc => ?_) <;> (have hc2 := hc; try simp at hc2)) | (with_reducible refine WT_alt ?_ ?_) | omega)
        refine WL_forM 576451956210401664 (by decide +kernel) (8) (fun i b g => i ≤ 8 ∧ b 8 = .lf (.int .i64 (8 - i)) ∧ b 7 = .lf (.flt .f64 (pN (fbin .mul .f64 (fbin .mul .f64 (fbin .sub .f64 4602678819172646912 d) 4618760256179416344) (fbin .mul .f64 (fbin .sub .f64 4602678819172646912 d) 4618760256179416344)) i)) ∧ h = g) (fun _ _ _ hi => hi.1) ⟨by simp, by simp, by simp [pN, oneD], rfl⟩ ?_
        rintro i b g ⟨hi, e8, e7, rfl⟩
        by_cases hlt : i < 8
        · obtain ⟨t1, t2, t3, t4⟩ := dvN_int hlt
          have sp := pN_succ (q := (fbin .mul .f64 (fbin .mul .f64 (fbin .sub .f64 4602678819172646912 d) 4618760256179416344) (fbin .mul .f64 (fbin .sub .f64 4602678819172646912 d) 4618760256179416344))) (i := i)
          unfold oneD at *
          repeat' (first | (simp (disch := first | omega | assumption | (simp only [List.length_set]; omega) | (simp [*] <;> fail) | assumption) [-Bool.decide_and, -Bool.decide_or, -Bool.not_and, -Bool.not_or, toNat_pred, toNat_succ, wrap64, wr_new, wr_new0, ok_if, ok_ifn, iadV_sl, makeV_int, decT, decF, over_at, *]) | (with_reducible refine Gd_split (fun hc => ?_) (fun hc => ?_) <;> (have hc2 := hc; try simp at hc2)) | (with_reducible refine Br_split (fun hc => ?_) (fun hc => ?_) <;> (have hc2 := hc; try simp at hc2)) | (with_reducible refine GdT_split (fun hc => ?_) (fun hc => ?_) <;> (have hc2 := hc; try simp at hc2)) | (with_reducible refine WT_alt ?_ ?_) | omega)
        · have : i = 8 := by omega
          subst this
          repeat' (first | (simp (disch := first | omega | assumption | (simp only [List.length_set]; omega) | (simp [*] <;> fail) | assumption) [-Bool.decide_and, -Bool.decide_or, -Bool.not_and, -Bool.not_or, toNat_pred, toNat_succ, wrap64, wr_new, wr_new0, ok_if, ok_ifn, iadV_sl, makeV_int, decT, decF, over_at, *]) | (with_reducible refine Gd_split (fun hc => ?_) (fun hc => ?_) <;> (have hc2 := hc; try simp at hc2)) | (with_reducible refine Br_split (fun hc => ?_) (fun hc => ?_) <;> (have hc2 := hc; try simp at hc2)) | (with_reducible refine GdT_split (fun hc => ?_) (fun hc => ?_) <;> (have hc2 := hc; try simp at hc2)) | (with_reducible refine WT_alt ?_ ?_) | omega)
    · have hy : foldY d = (fbin .sub .f64 d 4602678819172646912) := by unfold foldY; rw [w1]; rfl
      rw [hy]
      clear hy
      cases w2 : fcmp .gtr .f64 (fbin .sub .f64 d 4602678819172646912) qtrD
      · have hzz : foldZ (fbin .sub .f64 d 4602678819172646912) = (fbin .sub .f64 d 4602678819172646912) := by unfold foldZ; rw [w2]; rfl
        rw [hzz]
        clear hzz
        unfold halfD at w1
        unfold qtrD at w2
        unfold tpiD
        refine CallT_pure (F := L196) (HasSi.f196) rfl (by first | rfl | (split <;> rfl) | simp) ?_; unfold L196; dsimp only []
        repeat' (first | (simp (disch := first | omega | assumption | (simp only [List.length_set]; omega) | (simp [*] <;> fail) | assumption) [-Bool.decide_and, -Bool.decide_or, -Bool.not_and, -Bool.not_or, toNat_pred, toNat_succ, wrap64, wr_new, wr_new0, ok_if, ok_ifn, iadV_sl, makeV_int, decT, decF, over_at, *]) | (with_reducible refine Gd_split (fun hc => ?_) (fun hc => ?_) <;> (have hc2 := hc; try simp at hc2)) | (with_reducible refine Br_split (fun hc => ?_) (fun hc => ?_) <;> (have hc2 := hc; try simp at hc2)) | (with_reducible refine GdT_split (fun hc => ?_) (fun hc => ?_) <;> (have hc2 := hc; try simp at hc2)) | (with_reducible refine WT_alt ?_ ?_) | omega)
        refine WL_forM 576451956210401664 (by decide +kernel) (8) (fun i b g => i ≤ 8 ∧ b 8 = .lf (.int .i64 (8 - i)) ∧ b 7 = .lf (.flt .f64 (pN (fbin .mul .f64 (fbin .mul .f64 (fbin .sub .f64 d 4602678819172646912) 4618760256179416344) (fbin .mul .f64 (fbin .sub .f64 d 4602678819172646912) 4618760256179416344)) i)) ∧ h = g) (fun _ _ _ hi => hi.1) ⟨by simp, by simp, by simp [pN, oneD], rfl⟩ ?_
        rintro i b g ⟨hi, e8, e7, rfl⟩
        by_cases hlt : i < 8
        · obtain ⟨t1, t2, t3, t4⟩ := dvN_int hlt
          have sp := pN_succ (q := (fbin .mul .f64 (fbin .mul .f64 (fbin .sub .f64 d 4602678819172646912) 4618760256179416344) (fbin .mul .f64 (fbin .sub .f64 d 4602678819172646912) 4618760256179416344))) (i := i)
          unfold oneD at *
          repeat' (first | (simp (disch := first | omega | assumption | (simp only [List.length_set]; omega) | (simp [*] <;> fail) | assumption) [-Bool.decide_and, -Bool.decide_or, -Bool.not_and, -Bool.not_or, toNat_pred, toNat_succ, wrap64, wr_new, wr_new0, ok_if, ok_ifn, iadV_sl, makeV_int, decT, decF, over_at, *]) | (with_reducible refine Gd_split (fun hc => ?_) (fun hc => ?_) <;> (have hc2 := hc; try simp at hc2)) | (with_reducible refine Br_split (fun hc => ?_) (fun hc => ?_) <;> (have hc2 := hc; try simp at hc2)) | (with_reducible refine GdT_split (fun hc => ?_) (fun hc => ?_) <;> (have hc2 := hc; try simp at hc2)) | (with_reducible refine WT_alt ?_ ?_) | omega)
        · have : i = 8 := by omega
          subst this
          repeat' (first | (simp (disch := first | omega | assumption | (simp only [List.length_set]; omega) | (simp [*] <;> fail) | assumption) [-Bool.decide_and, -Bool.decide_or, -Bool.not_and, -Bool.not_or, toNat_pred, toNat_succ, wrap64, wr_new, wr_new0, ok_if, ok_ifn, iadV_sl, makeV_int, decT, decF, over_at, *]) | (with_reducible refine Gd_split (fun hc => ?_) (fun hc => ?_) <;> (have hc2 := hc; try simp at hc2)) | (with_reducible refine Br_split (fun hc => ?_) (fun hc => ?_) <;> (have hc2 := hc; try simp at hc2)) | (with_reducible refine GdT_split (fun hc => ?_) (fun hc => ?_) <;> (have hc2 := hc; try simp at hc2)) | (with_reducible refine WT_alt ?_ ?_) | omega)
      · have hzz : foldZ (fbin .sub .f64 d 4602678819172646912) = (fbin .sub .f64 4602678819172646912 (fbin .sub .f64 d 4602678819172646912)) := by unfold foldZ; rw [w2]; rfl
        rw [hzz]
        clear hzz
        unfold halfD at w1
        unfold qtrD at w2
        unfold tpiD
        refine CallT_pure (F := L196) (HasSi.f196) rfl (by first | rfl | (split <;> rfl) | simp) ?_; unfold L196; dsimp only []
        repeat' (first | (simp (disch := first | omega | assumption | (simp only [List.length_set]; omega) | (simp [*] <;> fail) | assumption) [-Bool.decide_and, -Bool.decide_or, -Bool.not_and, -Bool.not_or, toNat_pred, toNat_succ, wrap64, wr_new, wr_new0, ok_if, ok_ifn, iadV_sl, makeV_int, decT, decF, over_at, *]) | (with_reducible refine Gd_split (fun hc => ?_) (fun hc => ?_) <;> (have hc2 := hc; try simp at hc2)) | (with_reducible refine Br_split (fun hc => ?_) (fun hc => ?_) <;> (have hc2 := hc; try simp at hc2)) | (with_reducible refine GdT_split (fun hc => ?_) (fun hc => ?_) <;> (have hc2 := hc; try simp at hc2)) | (with_reducible refine WT_alt ?_ ?_) | omega)
        refine WL_forM 576451956210401664 (by decide +kernel) (8) (fun i b g => i ≤ 8 ∧ b 8 = .lf (.int .i64 (8 - i)) ∧ b 7 = .lf (.flt .f64 (pN (fbin .mul .f64 (fbin .mul .f64 (fbin .sub .f64 4602678819172646912 (fbin .sub .f64 d 4602678819172646912)) 4618760256179416344) (fbin .mul .f64 (fbin .sub .f64 4602678819172646912 (fbin .sub .f64 d 4602678819172646912)) 4618760256179416344)) i)) ∧ h = g) (fun _ _ _ hi => hi.1) ⟨by simp, by simp, by simp [pN, oneD], rfl⟩ ?_
        rintro i b g ⟨hi, e8, e7, rfl⟩
        by_cases hlt : i < 8
        · obtain ⟨t1, t2, t3, t4⟩ := dvN_int hlt
          have sp := pN_succ (q := (fbin .mul .f64 (fbin .mul .f64 (fbin .sub .f64 4602678819172646912 (fbin .sub .f64 d 4602678819172646912)) 4618760256179416344) (fbin .mul .f64 (fbin .sub .f64 4602678819172646912 (fbin .sub .f64 d 4602678819172646912)) 4618760256179416344))) (i := i)
          unfold oneD at *
          repeat' (first | (simp (disch := first | omega | assumption | (simp only [List.length_set]; omega) | (simp [*] <;> fail) | assumption) [-Bool.decide_and, -Bool.decide_or, -Bool.not_and, -Bool.not_or, toNat_pred, toNat_succ, wrap64, wr_new, wr_new0, ok_if, ok_ifn, iadV_sl, makeV_int, decT, decF, over_at, *]) | (with_reducible refine Gd_split (fun hc => ?_) (fun hc => ?_) <;> (have hc2 := hc; try simp at hc2)) | (with_reducible refine Br_split (fun hc => ?_) (fun hc => ?_) <;> (have hc2 := hc; try simp at hc2)) | (with_reducible refine GdT_split (fun hc => ?_) (fun hc => ?_) <;> (have hc2 := hc; try simp at hc2)) | (with_reducible refine WT_alt ?_ ?_) | omega)
        · have : i = 8 := by omega
          subst this
          repeat' (first | (simp (disch := first | omega | assumption | (simp only [List.length_set]; omega) | (simp [*] <;> fail) | assumption) [-Bool.decide_and, -Bool.decide_or, -Bool.not_and, -Bool.not_or, toNat_pred, toNat_succ, wrap64, wr_new, wr_new0, ok_if, ok_ifn, iadV_sl, makeV_int, decT, decF, over_at, *]) | (with_reducible refine Gd_split (fun hc => ?_) (fun hc => ?_) <;> (have hc2 := hc; try simp at hc2)) | (with_reducible refine Br_split (fun hc => ?_) (fun hc => ?_) <;> (have hc2 := hc; try simp at hc2)) | (with_reducible refine GdT_split (fun hc => ?_) (fun hc => ?_) <;> (have hc2 := hc; try simp at hc2)) | (with_reducible refine WT_alt ?_ ?_) | omega)
  · have hr3 : (fbin .add .f64 d 4607182418800017408) = r := by rw [hr2, w0]; rfl
    clear hr2
    subst hr3
    cases w1 : fcmp .geq .f64 (fbin .add .f64 d 4607182418800017408) halfD
    · have hy : foldY (fbin .add .f64 d 4607182418800017408) = (fbin .add .f64 d 4607182418800017408) := by unfold foldY; rw [w1]; rfl
      rw [hy]
      clear hy
      cases w2 : fcmp .gtr .f64 (fbin .add .f64 d 4607182418800017408) qtrD
      · have hzz : foldZ (fbin .add .f64 d 4607182418800017408) = (fbin .add .f64 d 4607182418800017408) := by unfold foldZ; rw [w2]; rfl
        rw [hzz]
        clear hzz
        unfold halfD at w1
        unfold qtrD at w2
        unfold tpiD
        refine CallT_pure (F := L196) (HasSi.f196) rfl (by first | rfl | (split <;> rfl) | simp) ?_; unfold L196; dsimp only []
        repeat' (first | (simp (disch := first | omega | assumption | (simp only [List.length_set]; omega) | (simp [*] <;> fail) | assumption) [-Bool.decide_and, -Bool.decide_or, -Bool.not_and, -Bool.not_or, toNat_pred, toNat_succ, wrap64, wr_new, wr_new0, ok_if, ok_ifn, iadV_sl, makeV_int, decT, decF, over_at, *]) | (with_reducible refine Gd_split (fun hc => ?_) (fun hc => ?_) <;> (have hc2 := hc; try simp at hc2)) | (with_reducible refine Br_split (fun hc => ?_) (fun hc => ?_) <;> (have hc2 := hc; try simp at hc2)) | (with_reducible refine GdT_split (fun hc => ?_) (fun hc => ?_) <;> (have hc2 := hc; try simp at hc2)) | (with_reducible refine WT_alt ?_ ?_) | omega)
        refine WL_forM 576451956210401664 (by decide +kernel) (8) (fun i b g => i ≤ 8 ∧ b 8 = .lf (.int .i64 (8 - i)) ∧ b 7 = .lf (.flt .f64 (pN (fbin .mul .f64 (fbin .mul .f64 (fbin .add .f64 d 4607182418800017408) 4618760256179416344) (fbin .mul .f64 (fbin .add .f64 d 4607182418800017408) 4618760256179416344)) i)) ∧ h = g) (fun _ _ _ hi => hi.1) ⟨by simp, by simp, by simp [pN, oneD], rfl⟩ ?_
        rintro i b g ⟨hi, e8, e7, rfl⟩
        by_cases hlt : i < 8
        · obtain ⟨t1, t2, t3, t4⟩ := dvN_int hlt
          have sp := pN_succ (q := (fbin .mul .f64 (fbin .mul .f64 (fbin .add .f64 d 4607182418800017408) 4618760256179416344) (fbin .mul .f64 (fbin .add .f64 d 4607182418800017408) 4618760256179416344))) (i := i)
          unfold oneD at *
          repeat' (first | (simp (disch := first | omega | assumption | (simp only [List.length_set]; omega) | (simp [*] <;> fail) | assumption) [-Bool.decide_and, -Bool.decide_or, -Bool.not_and, -Bool.not_or, toNat_pred, toNat_succ, wrap64, wr_new, wr_new0, ok_if, ok_ifn, iadV_sl, makeV_int, decT, decF, over_at, *]) | (with_reducible refine Gd_split (fun hc => ?_) (fun hc => ?_) <;> (have hc2 := hc; try simp at hc2)) | (with_reducible refine Br_split (fun hc => ?_) (fun hc => ?_) <;> (have hc2 := hc; try simp at hc2)) | (with_reducible refine GdT_split (fun hc => ?_) (fun hc => ?_) <;> (have hc2 := hc; try simp at hc2)) | (with_reducible refine WT_alt ?_ ?_) | omega)
        · have : i = 8 := by omega
          subst this
          repeat' (first | (simp (disch := first | omega | assumption | (simp only [List.length_set]; omega) | (simp [*] <;> fail) | assumption) [-Bool.decide_and, -Bool.decide_or, -Bool.not_and, -Bool.not_or, toNat_pred, toNat_succ, wrap64, wr_new, wr_new0, ok_if, ok_ifn, iadV_sl, makeV_int, decT, decF, over_at, *]) | (with_reducible refine Gd_split (fun hc => ?_) (fun hc => ?_) <;> (have hc2 := hc; try simp at hc2)) | (with_reducible refine Br_split (fun hc => ?_) (fun hc => ?_) <;> (have hc2 := hc; try simp at hc2)) | (with_reducible refine GdT_split (fun hc => ?_) (fun hc => ?_) <;> (have hc2 := hc; try simp at hc2)) | (with_reducible refine WT_alt ?_ ?_) | omega)
      · have hzz : foldZ (fbin .add .f64 d 4607182418800017408) = (fbin .sub .f64 4602678819172646912 (fbin .add .f64 d 4607182418800017408)) := by unfold foldZ; rw [w2]; rfl
        rw [hzz]
        clear hzz
        unfold halfD at w1
        unfold qtrD at w2
        unfold tpiD
        refine CallT_pure (F := L196) (HasSi.f196) rfl (by first | rfl | (split <;> rfl) | simp) ?_; unfold L196; dsimp only []
        repeat' (first | (simp (disch := first | omega | assumption | (simp only [List.length_set]; omega) | (simp [*] <;> fail) | assumption) [-Bool.decide_and, -Bool.decide_or, -Bool.not_and, -Bool.not_or, toNat_pred, toNat_succ, wrap64, wr_new, wr_new0, ok_if, ok_ifn, iadV_sl, makeV_int, decT, decF, over_at, *]) | (with_reducible refine Gd_split (fun hc => ?_) (fun hc => ?_) <;> (have hc2 := hc; try simp at hc2)) | (with_reducible refine Br_split (fun hc => ?_) (fun hc => ?_) <;> (have hc2 := hc; try simp at hc2)) | (with_reducible refine GdT_split (fun hc => ?_) (fun hc => ?_) <;> (have hc2 := hc; try simp at hc2)) | (with_reducible refine WT_alt ?_ ?_) | omega)
        refine WL_forM 576451956210401664 (by decide +kernel) (8) (fun i b g => i ≤ 8 ∧ b 8 = .lf (.int .i64 (8 - i)) ∧ b 7 = .lf (.flt .f64 (pN (fbin .mul .f64 (fbin .mul .f64 (fbin .sub .f64 4602678819172646912 (fbin .add .f64 d 4607182418800017408)) 4618760256179416344) (fbin .mul .f64 (fbin .sub .f64 4602678819172646912 (fbin .add .f64 d 4607182418800017408)) 4618760256179416344)) i)) ∧ h = g) (fun _ _ _ hi => hi.1) ⟨by simp, by simp, by simp [pN, oneD], rfl⟩ ?_
        rintro i b g ⟨hi, e8, e7, rfl⟩
        by_cases hlt : i < 8
        · obtain ⟨t1, t2, t3, t4⟩ := dvN_int hlt
          have sp := pN_succ (q := (fbin .mul .f64 (fbin .mul .f64 (fbin .sub .f64 4602678819172646912 (fbin .add .f64 d 4607182418800017408)) 4618760256179416344) (fbin .mul .f64 (fbin .sub .f64 4602678819172646912 (fbin .add .f64 d 4607182418800017408)) 4618760256179416344))) (i := i)
          unfold oneD at *
          repeat' (first | (simp (disch := first | omega | assumption | (simp only [List.length_set]; omega) | (simp [*] <;> fail) | assumption) [-Bool.decide_and, -Bool.decide_or, -Bool.not_and, -Bool.not_or, toNat_pred, toNat_succ, wrap64, wr_new, wr_new0, ok_if, ok_ifn, iadV_sl, makeV_int, decT, decF, over_at, *]) | (with_reducible refine Gd_split (fun hc => ?_) (fun hc => ?_) <;> (have hc2 := hc; try simp at hc2)) | (with_reducible refine Br_split (fun hc => ?_) (fun hc => ?_) <;> (have hc2 := hc; try simp at hc2)) | (with_reducible refine GdT_split (fun hc => ?_) (fun hc => ?_) <;> (have hc2 := hc; try simp at hc2)) | (with_reducible refine WT_alt ?_ ?_) | omega)
        · have : i = 8 := by omega
          subst this
          repeat' (first | (simp (disch := first | omega | assumption | (simp only [List.length_set]; omega) | (simp [*] <;> fail) | assumption) [-Bool.decide_and, -Bool.decide_or, -Bool.not_and, -Bool.not_or, toNat_pred, toNat_succ, wrap64, wr_new, wr_new0, ok_if, ok_ifn, iadV_sl, makeV_int, decT, decF, over_at, *]) | (with_reducible refine Gd_split (fun hc => ?_) (fun hc => ?_) <;> (have hc2 := hc; try simp at hc2)) | (with_reducible refine Br_split (fun hc => ?_) (fun hc => ?_) <;> (have hc2 := hc; try simp at hc2)) | (with_reducible refine GdT_split (fun hc => ?_) (fun hc => ?_) <;> (have hc2 := hc; try simp at hc2)) | (with_reducible refine WT_alt ?_ ?_) | omega)
    · have hy : foldY (fbin .add .f64 d 4607182418800017408) = (fbin .sub .f64 (fbin .add .f64 d 4607182418800017408) 4602678819172646912) := by unfold foldY; rw [w1]; rfl
      rw [hy]
      clear hy
      cases w2 : fcmp .gtr .f64 (fbin .sub .f64 (fbin .add .f64 d 4607182418800017408) 4602678819172646912) qtrD
      · have hzz : foldZ (fbin .sub .f64 (fbin .add .f64 d 4607182418800017408) 4602678819172646912) = (fbin .sub .f64 (fbin .add .f64 d 4607182418800017408) 4602678819172646912) := by unfold foldZ; rw [w2]; rfl
        rw [hzz]
        clear hzz
        unfold halfD at w1
        unfold qtrD at w2
        unfold tpiD
        refine CallT_pure (F := L196) (HasSi.f196) rfl (by first | rfl | (split <;> rfl) | simp) ?_; unfold L196; dsimp only []
        repeat' (first | (simp (disch := first | omega | assumption | (simp only [List.length_set]; omega) | (simp [*] <;> fail) | assumption) [-Bool.decide_and, -Bool.decide_or, -Bool.not_and, -Bool.not_or, toNat_pred, toNat_succ, wrap64, wr_new, wr_new0, ok_if, ok_ifn, iadV_sl, makeV_int, decT, decF, over_at, *]) | (with_reducible refine Gd_split (fun hc => ?_) (fun hc => ?_) <;> (have hc2 := hc; try simp at hc2)) | (with_reducible refine Br_split (fun hc => ?_) (fun hc => ?_) <;> (have hc2 := hc; try simp at hc2)) | (with_reducible refine GdT_split (fun hc => ?_) (fun hc => ?_) <;> (have hc2 := hc; try simp at hc2)) | (with_reducible refine WT_alt ?_ ?_) | omega)
        refine WL_forM 576451956210401664 (by decide +kernel) (8) (fun i b g => i ≤ 8 ∧ b 8 = .lf (.int .i64 (8 - i)) ∧ b 7 = .lf (.flt .f64 (pN (fbin .mul .f64 (fbin .mul .f64 (fbin .sub .f64 (fbin .add .f64 d 4607182418800017408) 4602678819172646912) 4618760256179416344) (fbin .mul .f64 (fbin .sub .f64 (fbin .add .f64 d 4607182418800017408) 4602678819172646912) 4618760256179416344)) i)) ∧ h = g) (fun _ _ _ hi => hi.1) ⟨by simp, by simp, by simp [pN, oneD], rfl⟩ ?_
        rintro i b g ⟨hi, e8, e7, rfl⟩
        by_cases hlt : i < 8
        · obtain ⟨t1, t2, t3, t4⟩ := dvN_int hlt
          have sp := pN_succ (q := (fbin .mul .f64 (fbin .mul .f64 (fbin .sub .f64 (fbin .add .f64 d 4607182418800017408) 4602678819172646912) 4618760256179416344) (fbin .mul .f64 (fbin .sub .f64 (fbin .add .f64 d 4607182418800017408) 4602678819172646912) 4618760256179416344))) (i := i)
          unfold oneD at *
          repeat' (first | (simp (disch := first | omega | assumption | (simp only [List.length_set]; omega) | (simp [*] <;> fail) | assumption) [-Bool.decide_and, -Bool.decide_or, -Bool.not_and, -Bool.not_or, toNat_pred, toNat_succ, wrap64, wr_new, wr_new0, ok_if, ok_ifn, iadV_sl, makeV_int, decT, decF, over_at, *]) | (with_reducible refine Gd_split (fun hc => ?_) (fun hc => ?_) <;> (have hc2 := hc; try simp at hc2)) | (with_reducible refine Br_split (fun hc => ?_) (fun hc => ?_) <;> (have hc2 := hc; try simp at hc2)) | (with_reducible refine GdT_split (fun hc => ?_) (fun hc => ?_) <;> (have hc2 := hc; try simp at hc2)) | (with_reducible refine WT_alt ?_ ?_) | omega)
        · have : i = 8 := by omega
          subst this
          repeat' (first | (simp (disch := first | omega | assumption | (simp only [List.length_set]; omega) | (simp [*] <;> fail) | assumption) [-Bool.decide_and, -Bool.decide_or, -Bool.not_and, -Bool.not_or, toNat_pred, toNat_succ, wrap64, wr_new, wr_new0, ok_if, ok_ifn, iadV_sl, makeV_int, decT, decF, over_at, *]) | (with_reducible refine Gd_split (fun hc => ?_) (fun hc => ?_) <;> (have hc2 := hc; try simp at hc2)) | (with_reducible refine Br_split (fun hc => ?_) (fun hc => ?_) <;> (have hc2 := hc; try simp at hc2)) | (with_reducible refine GdT_split (fun hc => ?_) (fun hc => ?_) <;> (have hc2 := hc; try simp at hc2)) | (with_reducible refine WT_alt ?_ ?_) | omega)
      · have hzz : foldZ (fbin .sub .f64 (fbin .add .f64 d 4607182418800017408) 4602678819172646912) = (fbin .sub .f64 4602678819172646912 (fbin .sub .f64 (fbin .add .f64 d 4607182418800017408) 4602678819172646912)) := by unfold foldZ; rw [w2]; rfl
        rw [hzz]
        clear hzz
        unfold halfD at w1
        unfold qtrD at w2
        unfold tpiD
        refine CallT_pure (F := L196) (HasSi.f196) rfl (by first | rfl | (split <;> rfl) | simp) ?_; unfold L196; dsimp only []
        repeat' (first | (simp (disch := first | omega | assumption | (simp only [List.length_set]; omega) | (simp [*] <;> fail) | assumption) [-Bool.decide_and, -Bool.decide_or, -Bool.not_and, -Bool.not_or, toNat_pred, toNat_succ, wrap64, wr_new, wr_new0, ok_if, ok_ifn, iadV_sl, makeV_int, decT, decF, over_at, *]) | (with_reducible refine Gd_split (fun hc => ?_) (fun hc => ?_) <;> (have hc2 := hc; try simp at hc2)) | (with_reducible refine Br_split (fun hc => ?_) (fun hc => ?_) <;> (have hc2 := hc; try simp at hc2)) | (with_reducible refine GdT_split (fun hc => ?_) (fun hc => ?_) <;> (have hc2 := hc; try simp at hc2)) | (with_reducible refine WT_alt ?_ ?_) | omega)
        refine WL_forM 576451956210401664 (by decide +kernel) (8) (fun i b g => i ≤ 8 ∧ b 8 = .lf (.int .i64 (8 - i)) ∧ b 7 = .lf (.flt .f64 (pN (fbin .mul .f64 (fbin .mul .f64 (fbin .sub .f64 4602678819172646912 (fbin .sub .f64 (fbin .add .f64 d 4607182418800017408) 4602678819172646912)) 4618760256179416344) (fbin .mul .f64 (fbin .sub .f64 4602678819172646912 (fbin .sub .f64 (fbin .add .f64 d 4607182418800017408) 4602678819172646912)) 4618760256179416344)) i)) ∧ h = g) (fun _ _ _ hi => hi.1) ⟨by simp, by simp, by simp [pN, oneD], rfl⟩ ?_
        rintro i b g ⟨hi, e8, e7, rfl⟩
        by_cases hlt : i < 8
        · obtain ⟨t1, t2, t3, t4⟩ := dvN_int hlt
          have sp := pN_succ (q := (fbin .mul .f64 (fbin .mul .f64 (fbin .sub .f64 4602678819172646912 (fbin .sub .f64 (fbin .add .f64 d 4607182418800017408) 4602678819172646912)) 4618760256179416344) (fbin .mul .f64 (fbin .sub .f64 4602678819172646912 (fbin .sub .f64 (fbin .add .f64 d 4607182418800017408) 4602678819172646912)) 4618760256179416344))) (i := i)
          unfold oneD at *
          repeat' (first | (simp (disch := first | omega | assumption | (simp only [List.length_set]; omega) | (simp [*] <;> fail) | assumption) [-Bool.decide_and, -Bool.decide_or, -Bool.not_and, -Bool.not_or, toNat_pred, toNat_succ, wrap64, wr_new, wr_new0, ok_if, ok_ifn, iadV_sl, makeV_int, decT, decF, over_at, *]) | (with_reducible refine Gd_split (fun hc => ?_) (fun hc => ?_) <;> (have hc2 := hc; try simp at hc2)) | (with_reducible refine Br_split (fun hc => ?_) (fun hc => ?_) <;> (have hc2 := hc; try simp at hc2)) | (with_reducible refine GdT_split (fun hc => ?_) (fun hc => ?_) <;> (have hc2 := hc; try simp at hc2)) | (with_reducible refine WT_alt ?_ ?_) | omega)
        · have : i = 8 := by omega
          subst this
          repeat' (first | (simp (disch := first | omega | assumption | (simp only [List.length_set]; omega) | (simp [*] <;> fail) | assumption) [-Bool.decide_and, -Bool.decide_or, -Bool.not_and, -Bool.not_or, toNat_pred, toNat_succ, wrap64, wr_new, wr_new0, ok_if, ok_ifn, iadV_sl, makeV_int, decT, decF, over_at, *]) | (with_reducible refine Gd_split (fun hc => ?_) (fun hc => ?_) <;> (have hc2 := hc; try simp at hc2)) | (with_reducible refine Br_split (fun hc => ?_) (fun hc => ?_) <;> (have hc2 := hc; try simp at hc2)) | (with_reducible refine GdT_split (fun hc => ?_) (fun hc => ?_) <;> (have hc2 := hc; try simp at hc2)) | (with_reducible refine WT_alt ?_ ?_) | omega)
end
end Go.E
