/- The values of a lane at several places. -/
import Derived.Test.YtonfalhekphaeaaMLa
import Derived.Test.YtonfalhekphaeaaMH
set_option linter.unusedVariables false
set_option linter.unusedSimpArgs false
namespace Go.E
open Go
def L82 : LFn := ⟨2, (.seq (.reg [⟨(.some 4), (.mv (.c (.lf (.bool false)))), none⟩])
 (.seq (.reg [⟨(.some 5), (.mv (.t 0)), none⟩, ⟨(.some 6), (.call true 73 [(.t 5), (.c (.lf (.int .i64 0))), (.c (.lf (.int .i64 100000)))]), none⟩, ⟨(.some 7), (.mv (.t 6)), none⟩, ⟨(.some 8), (.mv (.t 1)), (.some (7, true))⟩, ⟨(.some 9), (.call true 73 [(.t 8), (.c (.lf (.int .i64 0))), (.c (.lf (.int .i64 256)))]), (.some (7, true))⟩, ⟨(.some 10), (.pick (.t 7) (.t 9) (.c (.lf (.bool false)))), none⟩, ⟨(.some 11), (.mv (.t 10)), none⟩, ⟨(.some 12), (.mv (.t 0)), (.some (11, true))⟩, ⟨(.some 13), (.mv (.t 1)), (.some (11, true))⟩, ⟨(.some 14), (.bin .add (.t 12) (.t 13)), (.some (11, true))⟩, ⟨(.some 15), (.bin .leq (.t 14) (.c (.lf (.int .i64 100001)))), (.some (11, true))⟩, ⟨(.some 16), (.pick (.t 11) (.t 15) (.c (.lf (.bool false)))), none⟩, ⟨(.some 4), (.mv (.t 16)), none⟩])
 .ret)), [(.tmp 4)]⟩
def L25 : LFn := ⟨3, (.seq (.reg [⟨(.some 6), (.mv (.c (.lf .nils))), none⟩, ⟨(.some 7), (.mv (.c (.lf (.bool false)))), none⟩])
 (.seq (.seq (.reg [⟨(.some 10), (.mv (.t 0)), none⟩, ⟨(.some 11), (.call true 81 [(.t 10)]), none⟩, ⟨(.some 12), (.una .not (.t 11)), none⟩, ⟨(.some 13), (.mv (.t 12)), none⟩, ⟨(.some 14), (.mv (.t 1)), (.some (13, false))⟩, ⟨(.some 15), (.mv (.t 2)), (.some (13, false))⟩, ⟨(.some 16), (.call true 82 [(.t 14), (.t 15)]), (.some (13, false))⟩, ⟨(.some 17), (.una .not (.t 16)), (.some (13, false))⟩, ⟨(.some 18), (.pick (.t 13) (.c (.lf (.bool true))) (.t 17)), none⟩])
 (.cond (.t 18) (.seq (.reg [⟨(.some 6), (.mv (.c (.lf .nils))), none⟩, ⟨(.some 7), (.mv (.c (.lf (.bool false)))), none⟩])
 .ret) .skip))
 (.seq (.reg [⟨(.some 19), (.lit 42 1 0 [] []), none⟩, ⟨(.some 8), (.mv (.t 19)), none⟩])
 (.seq (.seq (.reg [⟨(.some 9), (.mv (.c (.lf (.int .i64 0)))), none⟩])
 (.block 0 (.loop (.seq (.seq (.reg [⟨(.some 20), (.mv (.t 9)), none⟩, ⟨(.some 21), (.mv (.t 2)), none⟩, ⟨(.some 22), (.bin .lss (.t 20) (.t 21)), none⟩])
 (.cond (.t 22) .skip (.exit 0)))
 (.seq (.block 1 (.reg [⟨(.some 25), (.mv (.t 8)), none⟩, ⟨(.some 26), (.mv (.t 0)), none⟩, ⟨(.some 27), (.mv (.t 1)), none⟩, ⟨(.some 28), (.mv (.t 9)), none⟩, ⟨(.some 29), (.bin .add (.t 27) (.t 28)), none⟩, ⟨(.some 30), (.call true 83 [(.t 26), (.t 29)]), none⟩, ⟨(.some 31), (.lit 42 1 1 [(.flt .f32 0)] [(0, (1, (.t 30)))]), none⟩, ⟨(.some 32), (.app 42 1 4 (.t 25) (.t 31)), none⟩, ⟨(.some 8), (.mv (.t 32)), none⟩]))
 (.reg [⟨(.some 23), (.mv (.t 9)), none⟩, ⟨(.some 24), (.bin .add (.t 23) (.c (.lf (.int .i64 1)))), none⟩, ⟨(.some 9), (.mv (.t 24)), none⟩]))))))
 (.seq (.reg [⟨(.some 33), (.mv (.t 8)), none⟩, ⟨(.some 6), (.mv (.t 33)), none⟩, ⟨(.some 7), (.mv (.c (.lf (.bool true)))), none⟩])
 .ret))))), [(.tmp 6), (.tmp 7)]⟩
def L87 : LFn := ⟨1, (.seq (.reg [⟨(.some 2), (.mv (.c (.lf (.bool false)))), none⟩])
 (.seq (.reg [⟨(.some 3), (.mv (.t 0)), none⟩, ⟨(.some 4), (.call true 133 [(.t 3), (.c (.lf (.int .i64 0))), (.c (.lf (.int .i64 256)))]), none⟩, ⟨(.some 2), (.mv (.t 4)), none⟩])
 .ret)), [(.tmp 2)]⟩
def L27 : LFn := ⟨3, (.seq (.reg [⟨(.some 6), (.mv (.c (.lf .nils))), none⟩, ⟨(.some 7), (.mv (.c (.lf (.bool false)))), none⟩])
 (.seq (.seq (.reg [⟨(.some 10), (.mv (.t 0)), none⟩, ⟨(.some 11), (.call true 85 [(.t 10)]), none⟩, ⟨(.some 12), (.una .not (.t 11)), none⟩, ⟨(.some 13), (.mv (.t 12)), none⟩, ⟨(.some 14), (.mv (.t 1)), (.some (13, false))⟩, ⟨(.some 15), (.call true 86 [(.t 14)]), (.some (13, false))⟩, ⟨(.some 16), (.una .not (.t 15)), (.some (13, false))⟩, ⟨(.some 17), (.pick (.t 13) (.c (.lf (.bool true))) (.t 16)), none⟩, ⟨(.some 18), (.mv (.t 17)), none⟩, ⟨(.some 19), (.mv (.t 2)), (.some (18, false))⟩, ⟨(.some 20), (.call true 87 [(.t 19)]), (.some (18, false))⟩, ⟨(.some 21), (.una .not (.t 20)), (.some (18, false))⟩, ⟨(.some 22), (.pick (.t 18) (.c (.lf (.bool true))) (.t 21)), none⟩, ⟨(.some 23), (.mv (.t 22)), none⟩, ⟨(.some 24), (.mv (.t 1)), (.some (23, false))⟩, ⟨(.some 25), (.mv (.t 2)), (.some (23, false))⟩, ⟨(.some 26), (.bin .add (.t 24) (.t 25)), (.some (23, false))⟩, ⟨(.some 27), (.bin .sub (.t 26) (.c (.lf (.int .i64 1)))), (.some (23, false))⟩, ⟨(.some 28), (.bin .gtr (.t 27) (.c (.lf (.int .i64 100000)))), (.some (23, false))⟩, ⟨(.some 29), (.pick (.t 23) (.c (.lf (.bool true))) (.t 28)), none⟩])
 (.cond (.t 29) (.seq (.reg [⟨(.some 6), (.mv (.c (.lf .nils))), none⟩, ⟨(.some 7), (.mv (.c (.lf (.bool false)))), none⟩])
 .ret) .skip))
 (.seq (.reg [⟨(.some 8), (.mv (.c (.lf .nils))), none⟩])
 (.seq (.seq (.reg [⟨(.some 9), (.mv (.c (.lf (.int .i64 0)))), none⟩])
 (.block 0 (.loop (.seq (.seq (.reg [⟨(.some 30), (.mv (.t 9)), none⟩, ⟨(.some 31), (.mv (.t 2)), none⟩, ⟨(.some 32), (.bin .lss (.t 30) (.t 31)), none⟩])
 (.cond (.t 32) .skip (.exit 0)))
 (.seq (.block 1 (.reg [⟨(.some 35), (.mv (.t 8)), none⟩, ⟨(.some 36), (.mv (.t 0)), none⟩, ⟨(.some 37), (.mv (.t 1)), none⟩, ⟨(.some 38), (.mv (.t 9)), none⟩, ⟨(.some 39), (.bin .add (.t 37) (.t 38)), none⟩, ⟨(.some 40), (.call true 88 [(.t 36), (.t 39)]), none⟩, ⟨(.some 41), (.lit 42 1 1 [(.flt .f32 0)] [(0, (1, (.t 40)))]), none⟩, ⟨(.some 42), (.app 42 1 4 (.t 35) (.t 41)), none⟩, ⟨(.some 8), (.mv (.t 42)), none⟩]))
 (.reg [⟨(.some 33), (.mv (.t 9)), none⟩, ⟨(.some 34), (.bin .add (.t 33) (.c (.lf (.int .i64 1)))), none⟩, ⟨(.some 9), (.mv (.t 34)), none⟩]))))))
 (.seq (.reg [⟨(.some 43), (.mv (.t 8)), none⟩, ⟨(.some 6), (.mv (.t 43)), none⟩, ⟨(.some 7), (.mv (.c (.lf (.bool true)))), none⟩])
 .ret))))), [(.tmp 6), (.tmp 7)]⟩
class HasRl (S : Sys) : Prop extends HasLa S where
  f82 : S.fs 82 = some L82
  f25 : S.fs 25 = some L25
  f87 : S.fs 87 = some L87
  f27 : S.fs 27 = some L27
def okRl (ps : List Pt) (f c : Int) : Prop := isLane ps ∧ (0 ≤ f ∧ f ≤ 100000) ∧ (0 ≤ c ∧ c ≤ 256) ∧ f + c ≤ 100001
noncomputable instance {ps : List Pt} {f c : Int} : Decidable (okRl ps f c) := by unfold okRl; infer_instance
def laneN (ps : List Pt) (f : Int) (j : Nat) : Nat := laneAt ps (f + j)
noncomputable def runLane (ps : List Pt) (f c : Int) : List Nat := if okRl ps f c then tabTo (laneN ps f) c.toNat else []
theorem runLane_len {ps : List Pt} {f c : Int} : (runLane ps f c).length ≤ 256 := by
  unfold runLane; split
  · rename_i hk; unfold okRl at hk; simp only [tabTo_len]; omega
  · simp
section
variable {S : Sys} {lim : Nat} {h : Hp} {K : CV → Hp → Prop} [HasRl S] {l : Lf} {ps : List Pt}
@[simp] theorem c_isCount {x : Int} : CallT S true 87 [.lf (.int .i64 x)] h lim K = K (.lf (.bool (decide (0 ≤ x ∧ x ≤ 256)))) h := by
  refine CallT_pure (F := L87) (HasRl.f87) rfl (by first | rfl | (split <;> rfl) | simp) ?_; unfold L87; dsimp only []
  repeat' (first | (simp (disch := first | omega | assumption | (simp only [List.length_set]; omega) | (simp [*] <;> fail) | assumption) [-Bool.decide_and, -Bool.decide_or, -Bool.not_and, -Bool.not_or, toNat_pred, toNat_succ, wrap64, wr_new, wr_new0, ok_if, ok_ifn, iadV_sl, makeV_int, decT, decF, over_at, *]) | (with_reducible refine Gd_split (fun hc => ?_) (fun hc => ?_) <;> (have hc2 := hc; try simp at hc2)) | (with_reducible refine Br_split (fun hc => ?_) (fun hc => ?_) <;> (have hc2 := hc; try simp at hc2)) | (with_reducible refine GdT_split (fun hc => ?_) (fun hc => ?_) <;> (have hc2 := hc; try simp at hc2)) | (with_reducible refine WT_alt ?_ ?_) | omega)
@[simp] theorem c_l07Range {x y : Int} : CallT S true 82 [.lf (.int .i64 x), .lf (.int .i64 y)] h lim K = K (.lf (.bool (decide ((0 ≤ x ∧ x ≤ 100000) ∧ (0 ≤ y ∧ y ≤ 256) ∧ x + y ≤ 100001)))) h := by
  refine CallT_pure (F := L82) (HasRl.f82) rfl (by first | rfl | (split <;> rfl) | simp) ?_; unfold L82; dsimp only []
  repeat' (first | (simp (disch := first | omega | assumption | (simp only [List.length_set]; omega) | (simp [*] <;> fail) | assumption) [-Bool.decide_and, -Bool.decide_or, -Bool.not_and, -Bool.not_or, toNat_pred, toNat_succ, wrap64, wr_new, wr_new0, ok_if, ok_ifn, iadV_sl, makeV_int, decT, decF, over_at, *]) | (with_reducible refine Gd_split (fun hc => ?_) (fun hc => ?_) <;> (have hc2 := hc; try simp at hc2)) | (with_reducible refine Br_split (fun hc => ?_) (fun hc => ?_) <;> (have hc2 := hc; try simp at hc2)) | (with_reducible refine GdT_split (fun hc => ?_) (fun hc => ?_) <;> (have hc2 := hc; try simp at hc2)) | (with_reducible refine WT_alt ?_ ?_) | omega)
theorem c_specRunLane {f c : Int} (hA : Arr h l 2 (ps.map Pt.cells)) (hl : lim ≤ h.length) (hT : okRl ps f c → ∀ o g, New h g o 42 1 ((tabTo (laneN ps f) c.toNat).map fl) → K (.tup [.lf o, .lf (.bool true)]) g) (hF : ¬ okRl ps f c → K (.tup [.lf .nils, .lf (.bool false)]) h) :
    CallT S false 25 [.lf l, .lf (.int .i64 f), .lf (.int .i64 c)] h lim K := by
  by_cases hk : okRl ps f c
  · have hT2 := hT hk
    clear hT hF
    obtain ⟨hk1, hk2, hk3, hk4⟩ := hk
    obtain ⟨n, rfl⟩ := Int.eq_ofNat_of_zero_le hk3.1
    simp only [Int.toNat_natCast] at hT2
    refine CallT_of_body (F := L25) (HasRl.f25) rfl ?_; unfold L25; dsimp only []
    repeat' (first | (simp (disch := first | omega | assumption | (simp only [List.length_set]; omega) | (simp [*] <;> fail) | assumption) [-Bool.decide_and, -Bool.decide_or, -Bool.not_and, -Bool.not_or, toNat_pred, toNat_succ, wrap64, wr_new, wr_new0, ok_if, ok_ifn, iadV_sl, makeV_int, decT, decF, over_at, *, c_l07Lane hA, leavesAll, fillL]) | (with_reducible refine Gd_split (fun hc => ?_) (fun hc => ?_) <;> (have hc2 := hc; try simp at hc2)) | (with_reducible refine Br_split (fun hc => ?_) (fun hc => ?_) <;> (have hc2 := hc; try simp at hc2)) | (with_reducible refine GdT_split (fun hc => ?_) (fun hc => ?_) <;> (have hc2 := hc; try simp at hc2)) | (with_reducible refine WT_alt ?_ ?_) | omega)
    refine WL_forM 8588886784 (by decide +kernel) (n) (fun i b g => i ≤ n ∧ b 9 = .lf (.int .i64 i) ∧ ∃ o, b 8 = .lf o ∧ New h g o 42 1 ((tabTo (laneN ps f) i).map fl)) (fun _ _ _ hi => hi.1) ⟨by simp, by simp, .sl h.length 0 0 1, by simp, by simpa using New.lit0⟩ ?_
    rintro i b g ⟨hi, e9, o, e8, hN⟩
    have hA1 := hA.kept hN.kept
    have s1 := tabTo_fl (f := laneN ps f) (n := i)
    have hl1 := tabTo_len (f := laneN ps f) (n := i)
    by_cases hlt : i < n
    · have hc := fun K => c_l07At (S := S) (h := g) (lim := lim) (K := K) (x := f + i) hA1 hk1 (by omega)
      clear hT2
      repeat' (first | (simp (disch := first | omega | assumption | (simp only [List.length_set]; omega) | (simp [*] <;> fail) | assumption) [-Bool.decide_and, -Bool.decide_or, -Bool.not_and, -Bool.not_or, toNat_pred, toNat_succ, wrap64, wr_new, wr_new0, ok_if, ok_ifn, iadV_sl, makeV_int, decT, decF, over_at, *, hc, leavesAll, fillL]) | (with_reducible refine Gd_split (fun hc => ?_) (fun hc => ?_) <;> (have hc2 := hc; try simp at hc2)) | (with_reducible refine Br_split (fun hc => ?_) (fun hc => ?_) <;> (have hc2 := hc; try simp at hc2)) | (with_reducible refine GdT_split (fun hc => ?_) (fun hc => ?_) <;> (have hc2 := hc; try simp at hc2)) | (with_reducible refine WT_alt ?_ ?_) | omega)
      refine oc_push hN hl (by simp; omega) fun p g1 hP hC => ?_
      simp only [laneN] at hP s1
      rw [← s1] at hP
      clear s1
      repeat' (first | (simp (disch := first | omega | assumption | (simp only [List.length_set]; omega) | (simp [*] <;> fail) | assumption) [-Bool.decide_and, -Bool.decide_or, -Bool.not_and, -Bool.not_or, toNat_pred, toNat_succ, wrap64, wr_new, wr_new0, ok_if, ok_ifn, iadV_sl, makeV_int, decT, decF, over_at, *, laneN]) | (with_reducible refine Gd_split (fun hc => ?_) (fun hc => ?_) <;> (have hc2 := hc; try simp at hc2)) | (with_reducible refine Br_split (fun hc => ?_) (fun hc => ?_) <;> (have hc2 := hc; try simp at hc2)) | (with_reducible refine GdT_split (fun hc => ?_) (fun hc => ?_) <;> (have hc2 := hc; try simp at hc2)) | (with_reducible refine WT_alt ?_ ?_) | omega)
      all_goals ((repeat' apply And.intro) <;> first | omega | assumption)
    · have : i = n := by omega
      subst this
      repeat' (first | (simp (disch := first | omega | assumption | (simp only [List.length_set]; omega) | (simp [*] <;> fail) | assumption) [-Bool.decide_and, -Bool.decide_or, -Bool.not_and, -Bool.not_or, toNat_pred, toNat_succ, wrap64, wr_new, wr_new0, ok_if, ok_ifn, iadV_sl, makeV_int, decT, decF, over_at, *]) | (with_reducible refine Gd_split (fun hc => ?_) (fun hc => ?_) <;> (have hc2 := hc; try simp at hc2)) | (with_reducible refine Br_split (fun hc => ?_) (fun hc => ?_) <;> (have hc2 := hc; try simp at hc2)) | (with_reducible refine GdT_split (fun hc => ?_) (fun hc => ?_) <;> (have hc2 := hc; try simp at hc2)) | (with_reducible refine WT_alt ?_ ?_) | omega)
      all_goals ((repeat' apply And.intro) <;> first | omega | assumption | exact hT2 _ _ hN)
  · have hF2 := hF hk
    clear hT hF
    unfold okRl at hk
    refine CallT_of_body (F := L25) (HasRl.f25) rfl ?_; unfold L25; dsimp only []
    by_cases hk1 : isLane ps
    · replace hk : ¬ ((0 ≤ f ∧ f ≤ 100000) ∧ (0 ≤ c ∧ c ≤ 256) ∧ f + c ≤ 100001) := fun h => hk ⟨hk1, h⟩
      repeat' (first | (simp (disch := first | omega | assumption | (simp only [List.length_set]; omega) | (simp [*] <;> fail) | assumption) [-Bool.decide_and, -Bool.decide_or, -Bool.not_and, -Bool.not_or, toNat_pred, toNat_succ, wrap64, wr_new, wr_new0, ok_if, ok_ifn, iadV_sl, makeV_int, decT, decF, over_at, *, c_l07Lane hA]) | (with_reducible refine Gd_split (fun hc => ?_) (fun hc => ?_) <;> (have hc2 := hc; try simp at hc2)) | (with_reducible refine Br_split (fun hc => ?_) (fun hc => ?_) <;> (have hc2 := hc; try simp at hc2)) | (with_reducible refine GdT_split (fun hc => ?_) (fun hc => ?_) <;> (have hc2 := hc; try simp at hc2)) | (with_reducible refine WT_alt ?_ ?_) | omega)
    · repeat' (first | (simp (disch := first | omega | assumption | (simp only [List.length_set]; omega) | (simp [*] <;> fail) | assumption) [-Bool.decide_and, -Bool.decide_or, -Bool.not_and, -Bool.not_or, toNat_pred, toNat_succ, wrap64, wr_new, wr_new0, ok_if, ok_ifn, iadV_sl, makeV_int, decT, decF, over_at, *, c_l07Lane hA]) | (with_reducible refine Gd_split (fun hc => ?_) (fun hc => ?_) <;> (have hc2 := hc; try simp at hc2)) | (with_reducible refine Br_split (fun hc => ?_) (fun hc => ?_) <;> (have hc2 := hc; try simp at hc2)) | (with_reducible refine GdT_split (fun hc => ?_) (fun hc => ?_) <;> (have hc2 := hc; try simp at hc2)) | (with_reducible refine WT_alt ?_ ?_) | omega)
theorem c_implRunLane {f c : Int} (hA : Arr h l 2 (ps.map Pt.cells)) (hl : lim ≤ h.length) (hT : okRl ps f c → ∀ o g, New h g o 42 1 ((tabTo (laneN ps f) c.toNat).map fl) → K (.tup [.lf o, .lf (.bool true)]) g) (hF : ¬ okRl ps f c → K (.tup [.lf .nils, .lf (.bool false)]) h) :
    CallT S false 27 [.lf l, .lf (.int .i64 f), .lf (.int .i64 c)] h lim K := by
  by_cases hk : okRl ps f c
  · have hT2 := hT hk
    clear hT hF
    obtain ⟨hk1, hk2, hk3, hk4⟩ := hk
    obtain ⟨n, rfl⟩ := Int.eq_ofNat_of_zero_le hk3.1
    simp only [Int.toNat_natCast] at hT2
    refine CallT_of_body (F := L27) (HasRl.f27) rfl ?_; unfold L27; dsimp only []
    repeat' (first | (simp (disch := first | omega | assumption | (simp only [List.length_set]; omega) | (simp [*] <;> fail) | assumption) [-Bool.decide_and, -Bool.decide_or, -Bool.not_and, -Bool.not_or, toNat_pred, toNat_succ, wrap64, wr_new, wr_new0, ok_if, ok_ifn, iadV_sl, makeV_int, decT, decF, over_at, *, c_isLane hA, leavesAll, fillL]) | (with_reducible refine Gd_split (fun hc => ?_) (fun hc => ?_) <;> (have hc2 := hc; try simp at hc2)) | (with_reducible refine Br_split (fun hc => ?_) (fun hc => ?_) <;> (have hc2 := hc; try simp at hc2)) | (with_reducible refine GdT_split (fun hc => ?_) (fun hc => ?_) <;> (have hc2 := hc; try simp at hc2)) | (with_reducible refine WT_alt ?_ ?_) | omega)
    refine WL_forM 8795019281152 (by decide +kernel) (n) (fun i b g => i ≤ n ∧ b 9 = .lf (.int .i64 i) ∧ ∃ o, b 8 = .lf o ∧ New h g o 42 1 ((tabTo (laneN ps f) i).map fl)) (fun _ _ _ hi => hi.1) ⟨by simp, by simp, .nils, by simp, by simpa using New.nil (Kept.refl h)⟩ ?_
    rintro i b g ⟨hi, e9, o, e8, hN⟩
    have hA1 := hA.kept hN.kept
    have s1 := tabTo_fl (f := laneN ps f) (n := i)
    have hl1 := tabTo_len (f := laneN ps f) (n := i)
    by_cases hlt : i < n
    · have hc := fun K => c_implLaneAt (S := S) (h := g) (lim := lim) (K := K) (x := f + i) hA1 hk1 (by omega)
      clear hT2
      repeat' (first | (simp (disch := first | omega | assumption | (simp only [List.length_set]; omega) | (simp [*] <;> fail) | assumption) [-Bool.decide_and, -Bool.decide_or, -Bool.not_and, -Bool.not_or, toNat_pred, toNat_succ, wrap64, wr_new, wr_new0, ok_if, ok_ifn, iadV_sl, makeV_int, decT, decF, over_at, *, hc, leavesAll, fillL]) | (with_reducible refine Gd_split (fun hc => ?_) (fun hc => ?_) <;> (have hc2 := hc; try simp at hc2)) | (with_reducible refine Br_split (fun hc => ?_) (fun hc => ?_) <;> (have hc2 := hc; try simp at hc2)) | (with_reducible refine GdT_split (fun hc => ?_) (fun hc => ?_) <;> (have hc2 := hc; try simp at hc2)) | (with_reducible refine WT_alt ?_ ?_) | omega)
      refine oc_push hN hl (by simp; omega) fun p g1 hP hC => ?_
      simp only [laneN] at hP s1
      rw [← s1] at hP
      clear s1
      repeat' (first | (simp (disch := first | omega | assumption | (simp only [List.length_set]; omega) | (simp [*] <;> fail) | assumption) [-Bool.decide_and, -Bool.decide_or, -Bool.not_and, -Bool.not_or, toNat_pred, toNat_succ, wrap64, wr_new, wr_new0, ok_if, ok_ifn, iadV_sl, makeV_int, decT, decF, over_at, *, laneN]) | (with_reducible refine Gd_split (fun hc => ?_) (fun hc => ?_) <;> (have hc2 := hc; try simp at hc2)) | (with_reducible refine Br_split (fun hc => ?_) (fun hc => ?_) <;> (have hc2 := hc; try simp at hc2)) | (with_reducible refine GdT_split (fun hc => ?_) (fun hc => ?_) <;> (have hc2 := hc; try simp at hc2)) | (with_reducible refine WT_alt ?_ ?_) | omega)
      all_goals ((repeat' apply And.intro) <;> first | omega | assumption)
    · have : i = n := by omega
      subst this
      repeat' (first | (simp (disch := first | omega | assumption | (simp only [List.length_set]; omega) | (simp [*] <;> fail) | assumption) [-Bool.decide_and, -Bool.decide_or, -Bool.not_and, -Bool.not_or, toNat_pred, toNat_succ, wrap64, wr_new, wr_new0, ok_if, ok_ifn, iadV_sl, makeV_int, decT, decF, over_at, *]) | (with_reducible refine Gd_split (fun hc => ?_) (fun hc => ?_) <;> (have hc2 := hc; try simp at hc2)) | (with_reducible refine Br_split (fun hc => ?_) (fun hc => ?_) <;> (have hc2 := hc; try simp at hc2)) | (with_reducible refine GdT_split (fun hc => ?_) (fun hc => ?_) <;> (have hc2 := hc; try simp at hc2)) | (with_reducible refine WT_alt ?_ ?_) | omega)
      all_goals ((repeat' apply And.intro) <;> first | omega | assumption | exact hT2 _ _ hN)
  · have hF2 := hF hk
    clear hT hF
    unfold okRl at hk
    refine CallT_of_body (F := L27) (HasRl.f27) rfl ?_; unfold L27; dsimp only []
    by_cases hk1 : isLane ps
    · replace hk : ¬ ((0 ≤ f ∧ f ≤ 100000) ∧ (0 ≤ c ∧ c ≤ 256) ∧ f + c ≤ 100001) := fun h => hk ⟨hk1, h⟩
      repeat' (first | (simp (disch := first | omega | assumption | (simp only [List.length_set]; omega) | (simp [*] <;> fail) | assumption) [-Bool.decide_and, -Bool.decide_or, -Bool.not_and, -Bool.not_or, toNat_pred, toNat_succ, wrap64, wr_new, wr_new0, ok_if, ok_ifn, iadV_sl, makeV_int, decT, decF, over_at, *, c_isLane hA]) | (with_reducible refine Gd_split (fun hc => ?_) (fun hc => ?_) <;> (have hc2 := hc; try simp at hc2)) | (with_reducible refine Br_split (fun hc => ?_) (fun hc => ?_) <;> (have hc2 := hc; try simp at hc2)) | (with_reducible refine GdT_split (fun hc => ?_) (fun hc => ?_) <;> (have hc2 := hc; try simp at hc2)) | (with_reducible refine WT_alt ?_ ?_) | omega)
    · repeat' (first | (simp (disch := first | omega | assumption | (simp only [List.length_set]; omega) | (simp [*] <;> fail) | assumption) [-Bool.decide_and, -Bool.decide_or, -Bool.not_and, -Bool.not_or, toNat_pred, toNat_succ, wrap64, wr_new, wr_new0, ok_if, ok_ifn, iadV_sl, makeV_int, decT, decF, over_at, *, c_isLane hA]) | (with_reducible refine Gd_split (fun hc => ?_) (fun hc => ?_) <;> (have hc2 := hc; try simp at hc2)) | (with_reducible refine Br_split (fun hc => ?_) (fun hc => ?_) <;> (have hc2 := hc; try simp at hc2)) | (with_reducible refine GdT_split (fun hc => ?_) (fun hc => ?_) <;> (have hc2 := hc; try simp at hc2)) | (with_reducible refine WT_alt ?_ ?_) | omega)
theorem d_specRunLane {f c : Int} (hA : Arr h l 2 (ps.map Pt.cells)) (hl : lim ≤ h.length) (hK : ∀ o g, New h g o 42 1 ((runLane ps f c).map fl) → K (.tup [.lf o, .lf (.bool (decide (okRl ps f c)))]) g) :
    CallT S false 25 [.lf l, .lf (.int .i64 f), .lf (.int .i64 c)] h lim K :=
  c_specRunLane hA hl (fun hk o g hN => by simpa [hk] using hK o g (by simpa [runLane, hk] using hN)) (fun hk => by simpa [hk] using hK .nils h (by simpa [runLane, hk] using New.nil (Kept.refl h)))
theorem d_implRunLane {f c : Int} (hA : Arr h l 2 (ps.map Pt.cells)) (hl : lim ≤ h.length) (hK : ∀ o g, New h g o 42 1 ((runLane ps f c).map fl) → K (.tup [.lf o, .lf (.bool (decide (okRl ps f c)))]) g) :
    CallT S false 27 [.lf l, .lf (.int .i64 f), .lf (.int .i64 c)] h lim K :=
  c_implRunLane hA hl (fun hk o g hN => by simpa [hk] using hK o g (by simpa [runLane, hk] using hN)) (fun hk => by simpa [hk] using hK .nils h (by simpa [runLane, hk] using New.nil (Kept.refl h)))
end
end Go.E
