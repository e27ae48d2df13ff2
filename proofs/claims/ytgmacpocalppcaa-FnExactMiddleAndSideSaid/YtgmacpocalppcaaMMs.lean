/- Middle and side out of left and right. -/
import Derived.Test.YtgmacpocalppcaaMLr
import Derived.Test.YtgmacpocalppcaaMSc
import Derived.Test.YtgmacpocalppcaaEI
set_option linter.unusedVariables false
set_option linter.unusedSimpArgs false
namespace Go.E
open Go
def L53 : LFn := ⟨2, (.seq (.reg [⟨(.some 4), (.mv (.c (.lf .nils))), none⟩, ⟨(.some 5), (.mv (.c (.lf .nils))), none⟩, ⟨(.some 6), (.mv (.c (.lf (.bool false)))), none⟩])
 (.seq (.seq (.reg [⟨(.some 10), (.mv (.t 0)), none⟩, ⟨(.some 11), (.call true 70 [(.t 10)]), none⟩, ⟨(.some 12), (.una .not (.t 11)), none⟩, ⟨(.some 13), (.mv (.t 12)), none⟩, ⟨(.some 14), (.mv (.t 0)), (.some (13, false))⟩, ⟨(.some 15), (.len (.t 14)), (.some (13, false))⟩, ⟨(.some 16), (.mv (.t 1)), (.some (13, false))⟩, ⟨(.some 17), (.len (.t 16)), (.some (13, false))⟩, ⟨(.some 18), (.bin .neq (.t 15) (.t 17)), (.some (13, false))⟩, ⟨(.some 19), (.pick (.t 13) (.c (.lf (.bool true))) (.t 18)), none⟩])
 (.cond (.t 19) (.seq (.reg [⟨(.some 4), (.mv (.c (.lf .nils))), none⟩, ⟨(.some 5), (.mv (.c (.lf .nils))), none⟩, ⟨(.some 6), (.mv (.c (.lf (.bool false)))), none⟩])
 .ret) .skip))
 (.seq (.reg [⟨(.some 20), (.lit 22 1 0 [] []), none⟩, ⟨(.some 7), (.mv (.t 20)), none⟩])
 (.seq (.reg [⟨(.some 21), (.lit 22 1 0 [] []), none⟩, ⟨(.some 8), (.mv (.t 21)), none⟩])
 (.seq (.seq (.reg [⟨(.some 22), (.mv (.t 0)), none⟩, ⟨(.some 23), (.len (.t 22)), none⟩, ⟨(.some 24), (.mv (.c (.lf (.int .i64 0)))), none⟩])
 (.block 0 (.loop (.seq (.reg [⟨(.some 25), (.bin .lss (.t 24) (.t 23)), none⟩])
 (.seq (.cond (.t 25) .skip (.exit 0))
 (.seq (.block 1 (.seq (.reg [⟨(.some 26), (.mv (.t 24)), none⟩, ⟨(.some 9), (.mv (.t 26)), none⟩])
 (.seq (.reg [⟨(.some 27), (.mv (.t 7)), none⟩, ⟨(.some 28), (.mv (.t 0)), none⟩, ⟨(.some 29), (.mv (.t 9)), none⟩, ⟨(.some 30), (.iaddr 1 (.t 28) (.t 29)), none⟩, ⟨(.some 31), (.load false 1 (.t 30)), none⟩, ⟨(.some 32), (.mv (.t 1)), none⟩, ⟨(.some 33), (.mv (.t 9)), none⟩, ⟨(.some 34), (.iaddr 1 (.t 32) (.t 33)), none⟩, ⟨(.some 35), (.load false 1 (.t 34)), none⟩, ⟨(.some 36), (.bin .add (.t 31) (.t 35)), none⟩, ⟨(.some 37), (.bin .quo (.t 36) (.c (.lf (.flt .f32 1073741824)))), none⟩, ⟨(.some 38), (.lit 22 1 1 [(.flt .f32 0)] [(0, (1, (.t 37)))]), none⟩, ⟨(.some 39), (.app 22 1 4 (.t 27) (.t 38)), none⟩, ⟨(.some 7), (.mv (.t 39)), none⟩])
 (.reg [⟨(.some 40), (.mv (.t 8)), none⟩, ⟨(.some 41), (.mv (.t 0)), none⟩, ⟨(.some 42), (.mv (.t 9)), none⟩, ⟨(.some 43), (.iaddr 1 (.t 41) (.t 42)), none⟩, ⟨(.some 44), (.load false 1 (.t 43)), none⟩, ⟨(.some 45), (.mv (.t 1)), none⟩, ⟨(.some 46), (.mv (.t 9)), none⟩, ⟨(.some 47), (.iaddr 1 (.t 45) (.t 46)), none⟩, ⟨(.some 48), (.load false 1 (.t 47)), none⟩, ⟨(.some 49), (.bin .sub (.t 44) (.t 48)), none⟩, ⟨(.some 50), (.bin .quo (.t 49) (.c (.lf (.flt .f32 1073741824)))), none⟩, ⟨(.some 51), (.lit 22 1 1 [(.flt .f32 0)] [(0, (1, (.t 50)))]), none⟩, ⟨(.some 52), (.app 22 1 4 (.t 40) (.t 51)), none⟩, ⟨(.some 8), (.mv (.t 52)), none⟩]))))
 (.reg [⟨(.some 53), (.bin .add (.t 24) (.c (.lf (.int .i64 1)))), none⟩, ⟨(.some 24), (.mv (.t 53)), none⟩])))))))
 (.seq (.reg [⟨(.some 54), (.mv (.t 7)), none⟩, ⟨(.some 55), (.mv (.t 8)), none⟩, ⟨(.some 4), (.mv (.t 54)), none⟩, ⟨(.some 5), (.mv (.t 55)), none⟩, ⟨(.some 6), (.mv (.c (.lf (.bool true)))), none⟩])
 .ret)))))), [(.tmp 4), (.tmp 5), (.tmp 6)]⟩
def L54 : LFn := ⟨2, (.seq (.reg [⟨(.some 4), (.mv (.c (.lf .nils))), none⟩, ⟨(.some 5), (.mv (.c (.lf .nils))), none⟩, ⟨(.some 6), (.mv (.c (.lf (.bool false)))), none⟩])
 (.seq (.reg [⟨(.some 11), (.mv (.t 0)), none⟩, ⟨(.some 12), (.mv (.t 1)), none⟩, ⟨(.some 13), (.call false 29 [(.t 11), (.t 12)]), none⟩, ⟨(.some 10), (.mv (.t 13)), none⟩, ⟨(.some 14), (.ext (.t 10) 0), none⟩, ⟨(.some 15), (.ext (.t 10) 1), none⟩, ⟨(.some 16), (.ext (.t 10) 2), none⟩, ⟨(.some 7), (.mv (.t 14)), none⟩, ⟨(.some 8), (.mv (.t 15)), none⟩, ⟨(.some 9), (.mv (.t 16)), none⟩])
 (.seq (.seq (.reg [⟨(.some 17), (.mv (.t 9)), none⟩, ⟨(.some 18), (.una .not (.t 17)), none⟩])
 (.cond (.t 18) (.seq (.reg [⟨(.some 4), (.mv (.c (.lf .nils))), none⟩, ⟨(.some 5), (.mv (.c (.lf .nils))), none⟩, ⟨(.some 6), (.mv (.c (.lf (.bool false)))), none⟩])
 .ret) .skip))
 (.seq (.reg [⟨(.some 19), (.mv (.t 7)), none⟩, ⟨(.some 20), (.call false 96 [(.t 19), (.c (.lf (.flt .f32 1056964608)))]), none⟩, ⟨(.some 21), (.mv (.t 8)), none⟩, ⟨(.some 22), (.call false 96 [(.t 21), (.c (.lf (.flt .f32 1056964608)))]), none⟩, ⟨(.some 4), (.mv (.t 20)), none⟩, ⟨(.some 5), (.mv (.t 22)), none⟩, ⟨(.some 6), (.mv (.c (.lf (.bool true)))), none⟩])
 .ret)))), [(.tmp 4), (.tmp 5), (.tmp 6)]⟩
class HasMs (S : Sys) : Prop extends HasLr S, HasSc S where
  f53 : S.fs 53 = some L53
  f54 : S.fs 54 = some L54
def half (x : Nat) : Nat := fbin .quo .f32 x twoF
theorem scl_half : scl halfF = half := by funext x; exact mul_half x
def mids (xs ys : List Nat) : List Nat := (sums xs ys).map half
def sides (xs ys : List Nat) : List Nat := (diffs xs ys).map half
theorem mids_len {xs ys : List Nat} : (mids xs ys).length ≤ 256 := by unfold mids; simpa using sums_len
theorem sides_len {xs ys : List Nat} : (sides xs ys).length ≤ 256 := by unfold sides; simpa using diffs_len
def msTo (xs ys : List Nat) (i : Nat) : List Nat := (sumsTo xs ys i).map half
def mdTo (xs ys : List Nat) (i : Nat) : List Nat := (diffsTo xs ys i).map half
@[simp] theorem msTo_zero {xs ys : List Nat} : msTo xs ys 0 = [] := by simp [msTo]
@[simp] theorem mdTo_zero {xs ys : List Nat} : mdTo xs ys 0 = [] := by simp [mdTo]
theorem msTo_len {xs ys : List Nat} {i : Nat} : (msTo xs ys i).length ≤ i := by unfold msTo; simpa using sumsTo_len
theorem mdTo_len {xs ys : List Nat} {i : Nat} : (mdTo xs ys i).length ≤ i := by unfold mdTo; simpa using diffsTo_len
theorem msum_succ {xs ys : List Nat} {i : Nat} (h1 : i < xs.length) (h2 : i < ys.length) : (msTo xs ys (i + 1)).map fl = (msTo xs ys i).map fl ++ [[.flt .f32 (fbin .quo .f32 (fbin .add .f32 xs[i] ys[i]) 1073741824)]] := by
  unfold msTo sumsTo; rw [zip_take h1 h2, List.map_append, List.map_append]; rfl
theorem mdif_succ {xs ys : List Nat} {i : Nat} (h1 : i < xs.length) (h2 : i < ys.length) : (mdTo xs ys (i + 1)).map fl = (mdTo xs ys i).map fl ++ [[.flt .f32 (fbin .quo .f32 (fbin .sub .f32 xs[i] ys[i]) 1073741824)]] := by
  unfold mdTo diffsTo; rw [zip_take h1 h2, List.map_append, List.map_append]; rfl
section
variable {S : Sys} {lim : Nat} {h : Hp} {K : CV → Hp → Prop} [HasMs S] {l1 l2 : Lf} {xs ys : List Nat}
theorem d_implMiddleAndSide (hA : Arr h l1 1 (xs.map fl)) (hB : Arr h l2 1 (ys.map fl)) (hl : lim ≤ h.length) (hK : ∀ o1 o2 g, New h g o1 22 1 ((mids xs ys).map fl) → New h g o2 22 1 ((sides xs ys).map fl) → Far o1 o2 → K (.tup [.lf o1, .lf o2, .lf (.bool (decide (okLr xs ys)))]) g) :
    CallT S false 54 [.lf l1, .lf l2] h lim K := by
  have e1 := sums_len (xs := xs) (ys := ys)
  have e2 := diffs_len (xs := xs) (ys := ys)
  refine CallT_of_body (F := L54) (HasMs.f54) rfl ?_; unfold L54; dsimp only []
  repeat' (first | (simp (disch := first | omega | assumption | (simp [*] <;> fail) | assumption) [-Bool.decide_and, -Bool.decide_or, -Bool.not_and, -Bool.not_or, toNat_pred, toNat_succ, wrap64, wr_new, wr_new0, ok_if, ok_ifn, iadV_sl, makeV_int, decT, decF, over_at, *]) | (with_reducible refine Gd_split (fun hc => ?_) (fun hc => ?_) <;> (have hc2 := hc; try simp at hc2)) | (with_reducible refine Br_split (fun hc => ?_) (fun hc => ?_) <;> (have hc2 := hc; try simp at hc2)) | (with_reducible refine GdT_split (fun hc => ?_) (fun hc => ?_) <;> (have hc2 := hc; try simp at hc2)) | (with_reducible refine WT_alt ?_ ?_) | omega)
  refine d_implLeftAndRight hA hB hl fun o1 o2 g h1 h2 hf => ?_
  have k1 := h1.kept
  by_cases hk : okLr xs ys
  · simp only [hk, decide_true] at hK
    repeat' (first | (simp (disch := first | omega | assumption | (simp [*] <;> fail) | assumption) [-Bool.decide_and, -Bool.decide_or, -Bool.not_and, -Bool.not_or, toNat_pred, toNat_succ, wrap64, wr_new, wr_new0, ok_if, ok_ifn, iadV_sl, makeV_int, decT, decF, over_at, *]) | (with_reducible refine Gd_split (fun hc => ?_) (fun hc => ?_) <;> (have hc2 := hc; try simp at hc2)) | (with_reducible refine Br_split (fun hc => ?_) (fun hc => ?_) <;> (have hc2 := hc; try simp at hc2)) | (with_reducible refine GdT_split (fun hc => ?_) (fun hc => ?_) <;> (have hc2 := hc; try simp at hc2)) | (with_reducible refine WT_alt ?_ ?_) | omega)
    refine c_scaled (y := 1056964608) h1.arr (by omega) (Nat.le_trans hl k1.1) fun p1 g1 hP1 => ?_
    repeat' (first | (simp (disch := first | omega | assumption | (simp [*] <;> fail) | assumption) [-Bool.decide_and, -Bool.decide_or, -Bool.not_and, -Bool.not_or, toNat_pred, toNat_succ, wrap64, wr_new, wr_new0, ok_if, ok_ifn, iadV_sl, makeV_int, decT, decF, over_at, *]) | (with_reducible refine Gd_split (fun hc => ?_) (fun hc => ?_) <;> (have hc2 := hc; try simp at hc2)) | (with_reducible refine Br_split (fun hc => ?_) (fun hc => ?_) <;> (have hc2 := hc; try simp at hc2)) | (with_reducible refine GdT_split (fun hc => ?_) (fun hc => ?_) <;> (have hc2 := hc; try simp at hc2)) | (with_reducible refine WT_alt ?_ ?_) | omega)
    refine c_scaled (y := 1056964608) (h2.arr.kept hP1.kept) (by omega) (Nat.le_trans hl (k1.trans hP1.kept).1) fun p2 g2 hP2 => ?_
    have ef : scl 1056964608 = half := scl_half
    rw [ef] at hP1 hP2
    repeat' (first | (simp (disch := first | omega | assumption | (simp [*] <;> fail) | assumption) [-Bool.decide_and, -Bool.decide_or, -Bool.not_and, -Bool.not_or, toNat_pred, toNat_succ, wrap64, wr_new, wr_new0, ok_if, ok_ifn, iadV_sl, makeV_int, decT, decF, over_at, *]) | (with_reducible refine Gd_split (fun hc => ?_) (fun hc => ?_) <;> (have hc2 := hc; try simp at hc2)) | (with_reducible refine Br_split (fun hc => ?_) (fun hc => ?_) <;> (have hc2 := hc; try simp at hc2)) | (with_reducible refine GdT_split (fun hc => ?_) (fun hc => ?_) <;> (have hc2 := hc; try simp at hc2)) | (with_reducible refine WT_alt ?_ ?_) | omega)
    exact hK p1 p2 g2 ((hP1.later hP2.kept).base k1) (hP2.base (k1.trans hP1.kept)) (fun q1 q2 => by have := (hP1.lt q1).2; have := (hP2.lt q2).1; omega)
  · have hK2 := hK .nils .nils g (by simpa [mids, sums, hk] using New.nil k1) (by simpa [sides, diffs, hk] using New.nil k1) Far.nil_left
    simp only [hk, decide_false] at hK2
    clear hK
    repeat' (first | (simp (disch := first | omega | assumption | (simp [*] <;> fail) | assumption) [-Bool.decide_and, -Bool.decide_or, -Bool.not_and, -Bool.not_or, toNat_pred, toNat_succ, wrap64, wr_new, wr_new0, ok_if, ok_ifn, iadV_sl, makeV_int, decT, decF, over_at, *]) | (with_reducible refine Gd_split (fun hc => ?_) (fun hc => ?_) <;> (have hc2 := hc; try simp at hc2)) | (with_reducible refine Br_split (fun hc => ?_) (fun hc => ?_) <;> (have hc2 := hc; try simp at hc2)) | (with_reducible refine GdT_split (fun hc => ?_) (fun hc => ?_) <;> (have hc2 := hc; try simp at hc2)) | (with_reducible refine WT_alt ?_ ?_) | omega)
theorem c_specMiddleAndSide (hA : Arr h l1 1 (xs.map fl)) (hB : Arr h l2 1 (ys.map fl)) (hl : lim ≤ h.length) (hT : okLr xs ys → ∀ o1 o2 g, New h g o1 22 1 ((mids xs ys).map fl) → New h g o2 22 1 ((sides xs ys).map fl) → Far o1 o2 → K (.tup [.lf o1, .lf o2, .lf (.bool true)]) g) (hF : ¬ okLr xs ys → K (.tup [.lf .nils, .lf .nils, .lf (.bool false)]) h) :
    CallT S false 53 [.lf l1, .lf l2] h lim K := by
  have hb1 := hA.bound
  have hb2 := hB.bound
  by_cases hk : okLr xs ys
  · have hT2 := hT hk
    simp only [mids, sides, sums, diffs, hk, if_true] at hT2
    clear hT hF
    unfold okLr at hk
    refine CallT_of_body (F := L53) (HasMs.f53) rfl ?_; unfold L53; dsimp only []
    repeat' (first | (simp (disch := first | omega | assumption | (simp [*] <;> fail) | assumption) [-Bool.decide_and, -Bool.decide_or, -Bool.not_and, -Bool.not_or, toNat_pred, toNat_succ, wrap64, wr_new, wr_new0, ok_if, ok_ifn, iadV_sl, makeV_int, decT, decF, over_at, *, c_l01Few hA, hA.len, hB.len, leavesAll, fillL]) | (with_reducible refine Gd_split (fun hc => ?_) (fun hc => ?_) <;> (have hc2 := hc; try simp at hc2)) | (with_reducible refine Br_split (fun hc => ?_) (fun hc => ?_) <;> (have hc2 := hc; try simp at hc2)) | (with_reducible refine GdT_split (fun hc => ?_) (fun hc => ?_) <;> (have hc2 := hc; try simp at hc2)) | (with_reducible refine WT_alt ?_ ?_) | omega)
    have hlen : xs.length = ys.length := by omega
    refine WL_forM 18014398492705664 (by decide +kernel) (xs.length) (fun i b g => i ≤ xs.length ∧ b 24 = .lf (.int .i64 i) ∧ ∃ o1 o2, b 7 = .lf o1 ∧ b 8 = .lf o2 ∧ New h g o1 22 1 ((msTo xs ys i).map fl) ∧ New h g o2 22 1 ((mdTo xs ys i).map fl) ∧ Far o1 o2) (fun _ _ _ hi => hi.1) ⟨by simp, by simp, .sl h.length 0 0 1, .sl (h.length + 1) 0 0 1, by simp, by simp, by simpa using (New.lit0 (h := h)).app, by simpa using (New.litN (h := h) (g := h ++ [⟨[], .own 22 1⟩]) (Kept.app _ _)), fun _ _ => by simp [Lf.id]⟩ ?_
    rintro i b g ⟨hi, e24, o1, o2, e7, e8, hN1, hN2, hf⟩
    have hl1 := msTo_len (xs := xs) (ys := ys) (i := i)
    have hl2 := mdTo_len (xs := xs) (ys := ys) (i := i)
    have hA1 := hA.kept hN1.kept
    have hB1 := hB.kept hN1.kept
    by_cases hlt : i < xs.length
    · have hlt2 : i < ys.length := by omega
      have s1 := msum_succ hlt hlt2
      have s2 := mdif_succ hlt hlt2
      clear hT2
      repeat' (first | (simp (disch := first | omega | assumption | (simp [*] <;> fail) | assumption) [-Bool.decide_and, -Bool.decide_or, -Bool.not_and, -Bool.not_or, toNat_pred, toNat_succ, wrap64, wr_new, wr_new0, ok_if, ok_ifn, iadV_sl, makeV_int, decT, decF, over_at, *, hA1.len, hA1.at_, hA1.at_', hA1.rd, hA1.rdIn, hA1.rdIn0, hA1.rdA, hA1.rdInA, hA1.rdIn0A, hA1.rd1, hB1.len, hB1.at_, hB1.at_', hB1.rd, hB1.rdIn, hB1.rdIn0, hB1.rdA, hB1.rdInA, hB1.rdIn0A, hB1.rd1, fl, leavesAll, fillL]) | (with_reducible refine Gd_split (fun hc => ?_) (fun hc => ?_) <;> (have hc2 := hc; try simp at hc2)) | (with_reducible refine Br_split (fun hc => ?_) (fun hc => ?_) <;> (have hc2 := hc; try simp at hc2)) | (with_reducible refine GdT_split (fun hc => ?_) (fun hc => ?_) <;> (have hc2 := hc; try simp at hc2)) | (with_reducible refine WT_alt ?_ ?_) | omega)
      refine oc_push hN1 hl (by simp; omega) fun p1 g1 hP1 hC1 => ?_
      obtain ⟨hP2, hf1⟩ := hC1.other hN1 hN2 hf
      have hA2 := hA.kept hP1.kept
      have hB2 := hB.kept hP1.kept
      repeat' (first | (simp (disch := first | omega | assumption | (simp [*] <;> fail) | assumption) [-Bool.decide_and, -Bool.decide_or, -Bool.not_and, -Bool.not_or, toNat_pred, toNat_succ, wrap64, wr_new, wr_new0, ok_if, ok_ifn, iadV_sl, makeV_int, decT, decF, over_at, *, hA2.len, hA2.at_, hA2.at_', hA2.rd, hA2.rdIn, hA2.rdIn0, hA2.rdA, hA2.rdInA, hA2.rdIn0A, hA2.rd1, hB2.len, hB2.at_, hB2.at_', hB2.rd, hB2.rdIn, hB2.rdIn0, hB2.rdA, hB2.rdInA, hB2.rdIn0A, hB2.rd1, fl, leavesAll, fillL]) | (with_reducible refine Gd_split (fun hc => ?_) (fun hc => ?_) <;> (have hc2 := hc; try simp at hc2)) | (with_reducible refine Br_split (fun hc => ?_) (fun hc => ?_) <;> (have hc2 := hc; try simp at hc2)) | (with_reducible refine GdT_split (fun hc => ?_) (fun hc => ?_) <;> (have hc2 := hc; try simp at hc2)) | (with_reducible refine WT_alt ?_ ?_) | omega)
      refine oc_push hP2 hl (by simp; omega) fun q2 g2 hQ2 hC2 => ?_
      obtain ⟨hQ1, hf2⟩ := hC2.other hP2 hP1 hf1.symm
      rw [← s1] at hQ1
      rw [← s2] at hQ2
      clear s1 s2
      repeat' (first | (simp (disch := first | omega | assumption | (simp [*] <;> fail) | assumption) [-Bool.decide_and, -Bool.decide_or, -Bool.not_and, -Bool.not_or, toNat_pred, toNat_succ, wrap64, wr_new, wr_new0, ok_if, ok_ifn, iadV_sl, makeV_int, decT, decF, over_at, *]) | (with_reducible refine Gd_split (fun hc => ?_) (fun hc => ?_) <;> (have hc2 := hc; try simp at hc2)) | (with_reducible refine Br_split (fun hc => ?_) (fun hc => ?_) <;> (have hc2 := hc; try simp at hc2)) | (with_reducible refine GdT_split (fun hc => ?_) (fun hc => ?_) <;> (have hc2 := hc; try simp at hc2)) | (with_reducible refine WT_alt ?_ ?_) | omega)
      all_goals ((repeat' apply And.intro) <;> first | omega | assumption | exact hf2.symm)
    · have e : i = xs.length := by omega
      subst e
      rw [show msTo xs ys xs.length = (List.zipWith fadd xs ys).map half by rw [msTo, sumsTo_all hlen]] at hN1
      rw [show mdTo xs ys xs.length = (List.zipWith fsub xs ys).map half by rw [mdTo, diffsTo_all hlen]] at hN2
      repeat' (first | (simp (disch := first | omega | assumption | (simp [*] <;> fail) | assumption) [-Bool.decide_and, -Bool.decide_or, -Bool.not_and, -Bool.not_or, toNat_pred, toNat_succ, wrap64, wr_new, wr_new0, ok_if, ok_ifn, iadV_sl, makeV_int, decT, decF, over_at, *]) | (with_reducible refine Gd_split (fun hc => ?_) (fun hc => ?_) <;> (have hc2 := hc; try simp at hc2)) | (with_reducible refine Br_split (fun hc => ?_) (fun hc => ?_) <;> (have hc2 := hc; try simp at hc2)) | (with_reducible refine GdT_split (fun hc => ?_) (fun hc => ?_) <;> (have hc2 := hc; try simp at hc2)) | (with_reducible refine WT_alt ?_ ?_) | omega)
      all_goals ((repeat' apply And.intro) <;> first | omega | assumption | exact hT2 o1 o2 g hN1 hN2 hf)
  · have hF2 := hF hk
    clear hT hF
    unfold okLr at hk
    refine CallT_of_body (F := L53) (HasMs.f53) rfl ?_; unfold L53; dsimp only []
    repeat' (first | (simp (disch := first | omega | assumption | (simp [*] <;> fail) | assumption) [-Bool.decide_and, -Bool.decide_or, -Bool.not_and, -Bool.not_or, toNat_pred, toNat_succ, wrap64, wr_new, wr_new0, ok_if, ok_ifn, iadV_sl, makeV_int, decT, decF, over_at, *, c_l01Few hA, hA.len, hB.len]) | (with_reducible refine Gd_split (fun hc => ?_) (fun hc => ?_) <;> (have hc2 := hc; try simp at hc2)) | (with_reducible refine Br_split (fun hc => ?_) (fun hc => ?_) <;> (have hc2 := hc; try simp at hc2)) | (with_reducible refine GdT_split (fun hc => ?_) (fun hc => ?_) <;> (have hc2 := hc; try simp at hc2)) | (with_reducible refine WT_alt ?_ ?_) | omega)
theorem d_specMiddleAndSide (hA : Arr h l1 1 (xs.map fl)) (hB : Arr h l2 1 (ys.map fl)) (hl : lim ≤ h.length) (hK : ∀ o1 o2 g, New h g o1 22 1 ((mids xs ys).map fl) → New h g o2 22 1 ((sides xs ys).map fl) → Far o1 o2 → K (.tup [.lf o1, .lf o2, .lf (.bool (decide (okLr xs ys)))]) g) :
    CallT S false 53 [.lf l1, .lf l2] h lim K :=
  c_specMiddleAndSide hA hB hl (fun hk o1 o2 g h1 h2 hf => by simpa [hk] using hK o1 o2 g h1 h2 hf) (fun hk => by simpa [hk] using hK .nils .nils h (by simpa [mids, sums, hk] using New.nil (Kept.refl h)) (by simpa [sides, diffs, hk] using New.nil (Kept.refl h)) Far.nil_left)
end
end Go.E
