/- Samples multiplied by a lane. -/
import Derived.Test.YtonfalhekphaeaaMRl
set_option linter.unusedVariables false
set_option linter.unusedSimpArgs false
namespace Go.E
open Go
def L42 : LFn := ⟨3, (.seq (.reg [⟨(.some 6), (.mv (.c (.lf .nils))), none⟩, ⟨(.some 7), (.mv (.c (.lf (.bool false)))), none⟩])
 (.seq (.seq (.reg [⟨(.some 10), (.mv (.t 0)), none⟩, ⟨(.some 11), (.call true 81 [(.t 10)]), none⟩, ⟨(.some 12), (.una .not (.t 11)), none⟩, ⟨(.some 13), (.mv (.t 12)), none⟩, ⟨(.some 14), (.mv (.t 1)), (.some (13, false))⟩, ⟨(.some 15), (.mv (.t 2)), (.some (13, false))⟩, ⟨(.some 16), (.len (.t 15)), (.some (13, false))⟩, ⟨(.some 17), (.call true 82 [(.t 14), (.t 16)]), (.some (13, false))⟩, ⟨(.some 18), (.una .not (.t 17)), (.some (13, false))⟩, ⟨(.some 19), (.pick (.t 13) (.c (.lf (.bool true))) (.t 18)), none⟩])
 (.cond (.t 19) (.seq (.reg [⟨(.some 6), (.mv (.c (.lf .nils))), none⟩, ⟨(.some 7), (.mv (.c (.lf (.bool false)))), none⟩])
 .ret) .skip))
 (.seq (.reg [⟨(.some 20), (.lit 42 1 0 [] []), none⟩, ⟨(.some 8), (.mv (.t 20)), none⟩])
 (.seq (.seq (.reg [⟨(.some 21), (.mv (.t 2)), none⟩, ⟨(.some 22), (.len (.t 21)), none⟩, ⟨(.some 23), (.mv (.c (.lf (.int .i64 0)))), none⟩])
 (.block 0 (.loop (.seq (.reg [⟨(.some 24), (.bin .lss (.t 23) (.t 22)), none⟩])
 (.seq (.cond (.t 24) .skip (.exit 0))
 (.seq (.block 1 (.seq (.reg [⟨(.some 25), (.mv (.t 23)), none⟩, ⟨(.some 9), (.mv (.t 25)), none⟩])
 (.reg [⟨(.some 26), (.mv (.t 8)), none⟩, ⟨(.some 27), (.mv (.t 2)), none⟩, ⟨(.some 28), (.mv (.t 9)), none⟩, ⟨(.some 29), (.iaddr 1 (.t 27) (.t 28)), none⟩, ⟨(.some 30), (.load false 1 (.t 29)), none⟩, ⟨(.some 31), (.mv (.t 0)), none⟩, ⟨(.some 32), (.mv (.t 1)), none⟩, ⟨(.some 33), (.mv (.t 9)), none⟩, ⟨(.some 34), (.bin .add (.t 32) (.t 33)), none⟩, ⟨(.some 35), (.call true 83 [(.t 31), (.t 34)]), none⟩, ⟨(.some 36), (.bin .mul (.t 30) (.t 35)), none⟩, ⟨(.some 37), (.lit 42 1 1 [(.flt .f32 0)] [(0, (1, (.t 36)))]), none⟩, ⟨(.some 38), (.app 42 1 4 (.t 26) (.t 37)), none⟩, ⟨(.some 8), (.mv (.t 38)), none⟩])))
 (.reg [⟨(.some 39), (.bin .add (.t 23) (.c (.lf (.int .i64 1)))), none⟩, ⟨(.some 23), (.mv (.t 39)), none⟩])))))))
 (.seq (.reg [⟨(.some 40), (.mv (.t 8)), none⟩, ⟨(.some 6), (.mv (.t 40)), none⟩, ⟨(.some 7), (.mv (.c (.lf (.bool true)))), none⟩])
 .ret))))), [(.tmp 6), (.tmp 7)]⟩
def L43 : LFn := ⟨3, (.seq (.reg [⟨(.some 6), (.mv (.c (.lf .nils))), none⟩, ⟨(.some 7), (.mv (.c (.lf (.bool false)))), none⟩])
 (.seq (.reg [⟨(.some 12), (.mv (.t 0)), none⟩, ⟨(.some 13), (.mv (.t 1)), none⟩, ⟨(.some 14), (.mv (.t 2)), none⟩, ⟨(.some 15), (.len (.t 14)), none⟩, ⟨(.some 16), (.call true 106 [(.t 15)]), none⟩, ⟨(.some 17), (.call false 27 [(.t 12), (.t 13), (.t 16)]), none⟩, ⟨(.some 11), (.mv (.t 17)), none⟩, ⟨(.some 18), (.ext (.t 11) 0), none⟩, ⟨(.some 19), (.ext (.t 11) 1), none⟩, ⟨(.some 8), (.mv (.t 18)), none⟩, ⟨(.some 9), (.mv (.t 19)), none⟩])
 (.seq (.seq (.reg [⟨(.some 20), (.mv (.t 9)), none⟩, ⟨(.some 21), (.una .not (.t 20)), none⟩])
 (.cond (.t 21) (.seq (.reg [⟨(.some 6), (.mv (.c (.lf .nils))), none⟩, ⟨(.some 7), (.mv (.c (.lf (.bool false)))), none⟩])
 .ret) .skip))
 (.seq (.seq (.reg [⟨(.some 22), (.mv (.t 8)), none⟩, ⟨(.some 23), (.len (.t 22)), none⟩, ⟨(.some 24), (.mv (.c (.lf (.int .i64 0)))), none⟩])
 (.block 0 (.loop (.seq (.reg [⟨(.some 25), (.bin .lss (.t 24) (.t 23)), none⟩])
 (.seq (.cond (.t 25) .skip (.exit 0))
 (.seq (.block 1 (.seq (.reg [⟨(.some 26), (.mv (.t 24)), none⟩, ⟨(.some 10), (.mv (.t 26)), none⟩])
 (.reg [⟨(.some 27), (.mv (.t 8)), none⟩, ⟨(.some 28), (.mv (.t 10)), none⟩, ⟨(.some 29), (.mv (.t 2)), none⟩, ⟨(.some 30), (.mv (.t 10)), none⟩, ⟨(.some 31), (.iaddr 1 (.t 29) (.t 30)), none⟩, ⟨(.some 32), (.load false 1 (.t 31)), none⟩, ⟨(.some 33), (.mv (.t 8)), none⟩, ⟨(.some 34), (.mv (.t 10)), none⟩, ⟨(.some 35), (.iaddr 1 (.t 33) (.t 34)), none⟩, ⟨(.some 36), (.load false 1 (.t 35)), none⟩, ⟨(.some 37), (.bin .mul (.t 32) (.t 36)), none⟩, ⟨(.some 38), (.iaddr 1 (.t 27) (.t 28)), none⟩, ⟨none, (.store 1 (.t 38) (.t 37)), none⟩])))
 (.reg [⟨(.some 39), (.bin .add (.t 24) (.c (.lf (.int .i64 1)))), none⟩, ⟨(.some 24), (.mv (.t 39)), none⟩])))))))
 (.seq (.reg [⟨(.some 40), (.mv (.t 8)), none⟩, ⟨(.some 6), (.mv (.t 40)), none⟩, ⟨(.some 7), (.mv (.c (.lf (.bool true)))), none⟩])
 .ret))))), [(.tmp 6), (.tmp 7)]⟩
class HasAl (S : Sys) : Prop extends HasRl S where
  f42 : S.fs 42 = some L42
  f43 : S.fs 43 = some L43
def appN (ps : List Pt) (f : Int) (xs : List Nat) (j : Nat) : Nat := fbin .mul .f32 (xs.getD j 0) (laneN ps f j)
noncomputable def applyLane (ps : List Pt) (f : Int) (xs : List Nat) : List Nat := if okRl ps f xs.length then tabTo (appN ps f xs) xs.length else []
theorem applyLane_len {ps : List Pt} {f : Int} {xs : List Nat} : (applyLane ps f xs).length ≤ 256 := by
  unfold applyLane; split
  · rename_i hk; unfold okRl at hk; simp only [tabTo_len]; omega
  · simp
section
variable {S : Sys} {lim : Nat} {h : Hp} {K : CV → Hp → Prop} [HasAl S] {l l2 : Lf} {ps : List Pt} {xs : List Nat}
theorem c_implApplyLane {f : Int} (hA : Arr h l 2 (ps.map Pt.cells)) (hB : Arr h l2 1 (xs.map fl)) (hl : lim ≤ h.length) (hT : okRl ps f xs.length → ∀ o g, New h g o 42 1 ((tabTo (appN ps f xs) xs.length).map fl) → K (.tup [.lf o, .lf (.bool true)]) g) (hF : ¬ okRl ps f xs.length → ∀ g, Kept h g → K (.tup [.lf .nils, .lf (.bool false)]) g) :
    CallT S false 43 [.lf l, .lf (.int .i64 f), .lf l2] h lim K := by
  refine CallT_of_body (F := L43) (HasAl.f43) rfl ?_; unfold L43; dsimp only []
  repeat' (first | (simp (disch := first | omega | assumption | (simp only [List.length_set]; omega) | (simp [*] <;> fail) | assumption) [-Bool.decide_and, -Bool.decide_or, -Bool.not_and, -Bool.not_or, toNat_pred, toNat_succ, wrap64, wr_new, wr_new0, ok_if, ok_ifn, iadV_sl, makeV_int, decT, decF, over_at, *, hB.len]) | (with_reducible refine Gd_split (fun hc => ?_) (fun hc => ?_) <;> (have hc2 := hc; try simp at hc2)) | (with_reducible refine Br_split (fun hc => ?_) (fun hc => ?_) <;> (have hc2 := hc; try simp at hc2)) | (with_reducible refine GdT_split (fun hc => ?_) (fun hc => ?_) <;> (have hc2 := hc; try simp at hc2)) | (with_reducible refine WT_alt ?_ ?_) | omega)
  refine d_implRunLane hA hl fun o g hN => ?_
  by_cases hk : okRl ps f xs.length
  · have hT2 := hT hk
    clear hT hF
    have hn : xs.length ≤ 256 := by unfold okRl at hk; omega
    have e1 : runLane ps f xs.length = tabTo (laneN ps f) xs.length := by simp [runLane, hk]
    rw [e1] at hN
    clear e1
    simp only [hk, decide_true]
    clear hk
    generalize hz : tabTo (laneN ps f) xs.length = zs at hN
    have hzl : zs.length = xs.length := by rw [← hz, tabTo_len]
    have hzg : Hid (∀ i (hi : i < zs.length), zs[i] = laneN ps f i) := fun i hi => by subst hz; simp [tabTo]
    clear hz
    repeat' (first | (simp (disch := first | omega | assumption | (simp only [List.length_set]; omega) | (simp [*] <;> fail) | assumption) [-Bool.decide_and, -Bool.decide_or, -Bool.not_and, -Bool.not_or, toNat_pred, toNat_succ, wrap64, wr_new, wr_new0, ok_if, ok_ifn, iadV_sl, makeV_int, decT, decF, over_at, *, hN.arr.len]) | (with_reducible refine Gd_split (fun hc => ?_) (fun hc => ?_) <;> (have hc2 := hc; try simp at hc2)) | (with_reducible refine Br_split (fun hc => ?_) (fun hc => ?_) <;> (have hc2 := hc; try simp at hc2)) | (with_reducible refine GdT_split (fun hc => ?_) (fun hc => ?_) <;> (have hc2 := hc; try simp at hc2)) | (with_reducible refine WT_alt ?_ ?_) | omega)
    refine WL_forM 1099494851584 (by decide +kernel) (xs.length) (fun i b g => i ≤ xs.length ∧ b 24 = .lf (.int .i64 i) ∧ New h g o 42 1 ((updTo (appN ps f xs) zs i).map fl)) (fun _ _ _ hi => hi.1) ⟨by simp, by simp, by rw [updTo_zero]; exact hN⟩ ?_
    rintro i b g2 ⟨hi, e24, hM⟩
    have hB1 := hB.kept hM.kept
    by_cases hlt : i < xs.length
    · have hz2 := updTo_get (f := appN ps f xs) (ls := zs) (i := i) (j := i) (by omega) (Nat.le_refl _)
      have hC := hM.arr
      clear hT2
      repeat' (first | (simp (disch := first | omega | assumption | (simp only [List.length_set]; omega) | (simp [*] <;> fail) | assumption) [-Bool.decide_and, -Bool.decide_or, -Bool.not_and, -Bool.not_or, toNat_pred, toNat_succ, wrap64, wr_new, wr_new0, ok_if, ok_ifn, iadV_sl, makeV_int, decT, decF, over_at, *, hB1.len, hB1.at_, hB1.at_', hB1.rd, hB1.rdIn, hB1.rdIn0, hB1.rdA, hB1.rdInA, hB1.rdIn0A, hB1.rd1, hC.len, hC.at_, hC.at_', hC.rd, hC.rdIn, hC.rdIn0, hC.rdA, hC.rdInA, hC.rdIn0A, hC.rd1, fl]) | (with_reducible refine Gd_split (fun hc => ?_) (fun hc => ?_) <;> (have hc2 := hc; try simp at hc2)) | (with_reducible refine Br_split (fun hc => ?_) (fun hc => ?_) <;> (have hc2 := hc; try simp at hc2)) | (with_reducible refine GdT_split (fun hc => ?_) (fun hc => ?_) <;> (have hc2 := hc; try simp at hc2)) | (with_reducible refine WT_alt ?_ ?_) | omega)
      refine oc_wr hM (by simp; omega) hl fun g3 hM3 hB3 => ?_
      rw [fl_set, updTo_set (by simp [appN, hzg i (by omega), hlt])] at hM3
      repeat' (first | (simp (disch := first | omega | assumption | (simp only [List.length_set]; omega) | (simp [*] <;> fail) | assumption) [-Bool.decide_and, -Bool.decide_or, -Bool.not_and, -Bool.not_or, toNat_pred, toNat_succ, wrap64, wr_new, wr_new0, ok_if, ok_ifn, iadV_sl, makeV_int, decT, decF, over_at, *]) | (with_reducible refine Gd_split (fun hc => ?_) (fun hc => ?_) <;> (have hc2 := hc; try simp at hc2)) | (with_reducible refine Br_split (fun hc => ?_) (fun hc => ?_) <;> (have hc2 := hc; try simp at hc2)) | (with_reducible refine GdT_split (fun hc => ?_) (fun hc => ?_) <;> (have hc2 := hc; try simp at hc2)) | (with_reducible refine WT_alt ?_ ?_) | omega)
      all_goals ((repeat' apply And.intro) <;> first | omega | assumption)
    · have : i = xs.length := by omega
      subst this
      rw [updTo_all hzl.symm] at hM
      repeat' (first | (simp (disch := first | omega | assumption | (simp only [List.length_set]; omega) | (simp [*] <;> fail) | assumption) [-Bool.decide_and, -Bool.decide_or, -Bool.not_and, -Bool.not_or, toNat_pred, toNat_succ, wrap64, wr_new, wr_new0, ok_if, ok_ifn, iadV_sl, makeV_int, decT, decF, over_at, *]) | (with_reducible refine Gd_split (fun hc => ?_) (fun hc => ?_) <;> (have hc2 := hc; try simp at hc2)) | (with_reducible refine Br_split (fun hc => ?_) (fun hc => ?_) <;> (have hc2 := hc; try simp at hc2)) | (with_reducible refine GdT_split (fun hc => ?_) (fun hc => ?_) <;> (have hc2 := hc; try simp at hc2)) | (with_reducible refine WT_alt ?_ ?_) | omega)
      all_goals ((repeat' apply And.intro) <;> first | omega | assumption | exact hT2 _ _ hM)
  · have hF2 := hF hk g hN.kept
    clear hT hF
    repeat' (first | (simp (disch := first | omega | assumption | (simp only [List.length_set]; omega) | (simp [*] <;> fail) | assumption) [-Bool.decide_and, -Bool.decide_or, -Bool.not_and, -Bool.not_or, toNat_pred, toNat_succ, wrap64, wr_new, wr_new0, ok_if, ok_ifn, iadV_sl, makeV_int, decT, decF, over_at, *]) | (with_reducible refine Gd_split (fun hc => ?_) (fun hc => ?_) <;> (have hc2 := hc; try simp at hc2)) | (with_reducible refine Br_split (fun hc => ?_) (fun hc => ?_) <;> (have hc2 := hc; try simp at hc2)) | (with_reducible refine GdT_split (fun hc => ?_) (fun hc => ?_) <;> (have hc2 := hc; try simp at hc2)) | (with_reducible refine WT_alt ?_ ?_) | omega)
theorem c_specApplyLane {f : Int} (hA : Arr h l 2 (ps.map Pt.cells)) (hB : Arr h l2 1 (xs.map fl)) (hl : lim ≤ h.length) (hT : okRl ps f xs.length → ∀ o g, New h g o 42 1 ((tabTo (appN ps f xs) xs.length).map fl) → K (.tup [.lf o, .lf (.bool true)]) g) (hF : ¬ okRl ps f xs.length → K (.tup [.lf .nils, .lf (.bool false)]) h) :
    CallT S false 42 [.lf l, .lf (.int .i64 f), .lf l2] h lim K := by
  have hb := hB.bound
  by_cases hk : okRl ps f xs.length
  · have hT2 := hT hk
    clear hT hF
    obtain ⟨hk1, hk2, hk3, hk4⟩ := hk
    refine CallT_of_body (F := L42) (HasAl.f42) rfl ?_; unfold L42; dsimp only []
    repeat' (first | (simp (disch := first | omega | assumption | (simp only [List.length_set]; omega) | (simp [*] <;> fail) | assumption) [-Bool.decide_and, -Bool.decide_or, -Bool.not_and, -Bool.not_or, toNat_pred, toNat_succ, wrap64, wr_new, wr_new0, ok_if, ok_ifn, iadV_sl, makeV_int, decT, decF, over_at, *, c_l07Lane hA, hB.len, leavesAll, fillL]) | (with_reducible refine Gd_split (fun hc => ?_) (fun hc => ?_) <;> (have hc2 := hc; try simp at hc2)) | (with_reducible refine Br_split (fun hc => ?_) (fun hc => ?_) <;> (have hc2 := hc; try simp at hc2)) | (with_reducible refine GdT_split (fun hc => ?_) (fun hc => ?_) <;> (have hc2 := hc; try simp at hc2)) | (with_reducible refine WT_alt ?_ ?_) | omega)
    refine WL_forM 1099503239936 (by decide +kernel) (xs.length) (fun i b g => i ≤ xs.length ∧ b 23 = .lf (.int .i64 i) ∧ ∃ o, b 8 = .lf o ∧ New h g o 42 1 ((tabTo (appN ps f xs) i).map fl)) (fun _ _ _ hi => hi.1) ⟨by simp, by simp, .sl h.length 0 0 1, by simp, by simpa using New.lit0⟩ ?_
    rintro i b g ⟨hi, e9, o, e8, hN⟩
    have hA1 := hA.kept hN.kept
    have hB1 := hB.kept hN.kept
    have hl1 := tabTo_len (f := appN ps f xs) (n := i)
    by_cases hlt : i < xs.length
    · have s1 : ((tabTo (appN ps f xs) (i + 1)).map fl) = ((tabTo (appN ps f xs) i).map fl) ++ [[.flt .f32 (fbin .mul .f32 xs[i] (laneAt ps (f + i)))]] := by rw [tabTo_fl]; simp [appN, laneN, hlt]
      have hc := fun K => c_l07At (S := S) (h := g) (lim := lim) (K := K) (x := f + i) hA1 hk1 (by omega)
      clear hT2
      repeat' (first | (simp (disch := first | omega | assumption | (simp only [List.length_set]; omega) | (simp [*] <;> fail) | assumption) [-Bool.decide_and, -Bool.decide_or, -Bool.not_and, -Bool.not_or, toNat_pred, toNat_succ, wrap64, wr_new, wr_new0, ok_if, ok_ifn, iadV_sl, makeV_int, decT, decF, over_at, *, hc, hB1.len, hB1.at_, hB1.at_', hB1.rd, hB1.rdIn, hB1.rdIn0, hB1.rdA, hB1.rdInA, hB1.rdIn0A, hB1.rd1, fl, leavesAll, fillL]) | (with_reducible refine Gd_split (fun hc => ?_) (fun hc => ?_) <;> (have hc2 := hc; try simp at hc2)) | (with_reducible refine Br_split (fun hc => ?_) (fun hc => ?_) <;> (have hc2 := hc; try simp at hc2)) | (with_reducible refine GdT_split (fun hc => ?_) (fun hc => ?_) <;> (have hc2 := hc; try simp at hc2)) | (with_reducible refine WT_alt ?_ ?_) | omega)
      refine oc_push hN hl (by simp; omega) fun p g1 hP hC => ?_
      rw [← s1] at hP
      clear s1
      repeat' (first | (simp (disch := first | omega | assumption | (simp only [List.length_set]; omega) | (simp [*] <;> fail) | assumption) [-Bool.decide_and, -Bool.decide_or, -Bool.not_and, -Bool.not_or, toNat_pred, toNat_succ, wrap64, wr_new, wr_new0, ok_if, ok_ifn, iadV_sl, makeV_int, decT, decF, over_at, *]) | (with_reducible refine Gd_split (fun hc => ?_) (fun hc => ?_) <;> (have hc2 := hc; try simp at hc2)) | (with_reducible refine Br_split (fun hc => ?_) (fun hc => ?_) <;> (have hc2 := hc; try simp at hc2)) | (with_reducible refine GdT_split (fun hc => ?_) (fun hc => ?_) <;> (have hc2 := hc; try simp at hc2)) | (with_reducible refine WT_alt ?_ ?_) | omega)
      all_goals ((repeat' apply And.intro) <;> first | omega | assumption)
    · have : i = xs.length := by omega
      subst this
      repeat' (first | (simp (disch := first | omega | assumption | (simp only [List.length_set]; omega) | (simp [*] <;> fail) | assumption) [-Bool.decide_and, -Bool.decide_or, -Bool.not_and, -Bool.not_or, toNat_pred, toNat_succ, wrap64, wr_new, wr_new0, ok_if, ok_ifn, iadV_sl, makeV_int, decT, decF, over_at, *]) | (with_reducible refine Gd_split (fun hc => ?_) (fun hc => ?_) <;> (have hc2 := hc; try simp at hc2)) | (with_reducible refine Br_split (fun hc => ?_) (fun hc => ?_) <;> (have hc2 := hc; try simp at hc2)) | (with_reducible refine GdT_split (fun hc => ?_) (fun hc => ?_) <;> (have hc2 := hc; try simp at hc2)) | (with_reducible refine WT_alt ?_ ?_) | omega)
      all_goals ((repeat' apply And.intro) <;> first | omega | assumption | exact hT2 _ _ hN)
  · have hF2 := hF hk
    clear hT hF
    unfold okRl at hk
    refine CallT_of_body (F := L42) (HasAl.f42) rfl ?_; unfold L42; dsimp only []
    by_cases hk1 : isLane ps
    · replace hk : ¬ ((0 ≤ f ∧ f ≤ 100000) ∧ (0 ≤ (xs.length : Int) ∧ (xs.length : Int) ≤ 256) ∧ f + xs.length ≤ 100001) := fun h => hk ⟨hk1, h⟩
      repeat' (first | (simp (disch := first | omega | assumption | (simp only [List.length_set]; omega) | (simp [*] <;> fail) | assumption) [-Bool.decide_and, -Bool.decide_or, -Bool.not_and, -Bool.not_or, toNat_pred, toNat_succ, wrap64, wr_new, wr_new0, ok_if, ok_ifn, iadV_sl, makeV_int, decT, decF, over_at, *, c_l07Lane hA, hB.len]) | (with_reducible refine Gd_split (fun hc => ?_) (fun hc => ?_) <;> (have hc2 := hc; try simp at hc2)) | (with_reducible refine Br_split (fun hc => ?_) (fun hc => ?_) <;> (have hc2 := hc; try simp at hc2)) | (with_reducible refine GdT_split (fun hc => ?_) (fun hc => ?_) <;> (have hc2 := hc; try simp at hc2)) | (with_reducible refine WT_alt ?_ ?_) | omega)
    · repeat' (first | (simp (disch := first | omega | assumption | (simp only [List.length_set]; omega) | (simp [*] <;> fail) | assumption) [-Bool.decide_and, -Bool.decide_or, -Bool.not_and, -Bool.not_or, toNat_pred, toNat_succ, wrap64, wr_new, wr_new0, ok_if, ok_ifn, iadV_sl, makeV_int, decT, decF, over_at, *, c_l07Lane hA]) | (with_reducible refine Gd_split (fun hc => ?_) (fun hc => ?_) <;> (have hc2 := hc; try simp at hc2)) | (with_reducible refine Br_split (fun hc => ?_) (fun hc => ?_) <;> (have hc2 := hc; try simp at hc2)) | (with_reducible refine GdT_split (fun hc => ?_) (fun hc => ?_) <;> (have hc2 := hc; try simp at hc2)) | (with_reducible refine WT_alt ?_ ?_) | omega)
theorem d_specApplyLane {f : Int} (hA : Arr h l 2 (ps.map Pt.cells)) (hB : Arr h l2 1 (xs.map fl)) (hl : lim ≤ h.length) (hK : ∀ o g, New h g o 42 1 ((applyLane ps f xs).map fl) → K (.tup [.lf o, .lf (.bool (decide (okRl ps f xs.length)))]) g) :
    CallT S false 42 [.lf l, .lf (.int .i64 f), .lf l2] h lim K :=
  c_specApplyLane hA hB hl (fun hk o g hN => by simpa [hk] using hK o g (by simpa [applyLane, hk] using hN)) (fun hk => by simpa [hk] using hK .nils h (by simpa [applyLane, hk] using New.nil (Kept.refl h)))
theorem d_implApplyLane {f : Int} (hA : Arr h l 2 (ps.map Pt.cells)) (hB : Arr h l2 1 (xs.map fl)) (hl : lim ≤ h.length) (hK : ∀ o g, New h g o 42 1 ((applyLane ps f xs).map fl) → K (.tup [.lf o, .lf (.bool (decide (okRl ps f xs.length)))]) g) :
    CallT S false 43 [.lf l, .lf (.int .i64 f), .lf l2] h lim K :=
  c_implApplyLane hA hB hl (fun hk o g hN => by simpa [hk] using hK o g (by simpa [applyLane, hk] using hN)) (fun hk g k => by simpa [hk] using hK .nils g (by simpa [applyLane, hk] using New.nil k))
end
end Go.E
