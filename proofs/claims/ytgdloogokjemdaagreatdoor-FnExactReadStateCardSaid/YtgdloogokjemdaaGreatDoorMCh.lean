/- Chains: valid or not, and how late. -/
import Derived.Test.YtgdloogokjemdaaGreatDoorMEf
set_option linter.unusedVariables false
set_option linter.unusedSimpArgs false
namespace Go.E
open Go

class HasLt (S : Sys) : Prop extends HasEf S where

def late : List Eff → Int
  | [] => 0
  | e :: r => (if e.kind = 6 then e.len else 0) + late r
theorem late_take : ∀ {ps : List (Eff × Lf)} {i : Nat} (hi : i < ps.length), late ((ps.take (i + 1)).map (·.1)) = late ((ps.take i).map (·.1)) + (if ps[i].1.kind = 6 then ps[i].1.len else 0)
  | [], _, hi => by simp at hi
  | p :: ps, 0, hi => by simp [late]
  | p :: ps, i + 1, hi => by
    have := late_take (ps := ps) (i := i) (by simpa using hi)
    simp only [List.take_succ_cons, List.map_cons, late, List.getElem_cons_succ] at this ⊢
    omega
def lateI (ps : List (Eff × Lf)) (i : Nat) : Int := late ((ps.take i).map (·.1))
theorem lateI_all {ps : List (Eff × Lf)} : lateI ps ps.length = late (ps.map (·.1)) := by unfold lateI; rw [List.take_length]
theorem lateI_zero {ps : List (Eff × Lf)} : lateI ps 0 = 0 := by simp [lateI, late]
theorem lateI_succ {ps : List (Eff × Lf)} {i : Nat} (hi : i < ps.length) : lateI ps (i + 1) = lateI ps i + (if ps[i].1.kind = 6 then ps[i].1.len else 0) := late_take hi
theorem isCh_get {ps : List (Eff × Lf)} (hc : isCh (ps.map (·.1))) {i : Nat} (hi : i < ps.length) : effOk ps[i].1 := hc.2 _ (List.mem_map.2 ⟨ps[i], List.getElem_mem hi, rfl⟩)
theorem effOk.len {e : Eff} (he : effOk e) : 0 ≤ e.len ∧ e.len ≤ 32 := by
  obtain ⟨⟨w1, w2⟩, _⟩ := he
  split at w1 <;> split at w2 <;> omega
section
variable {S : Sys} {lim : Nat} {h : Hp} {K : CV → Hp → Prop} {l : Lf} {ps : List (Eff × Lf)}
section
variable [HasEf S]
set_option maxHeartbeats 1000000 in
theorem c_l08Is (hA : Arr h l 3 (ps.map Eff.cells)) (hI : In h Eff.nums ps) : CallT S true 28 [.lf l] h lim K = K (.lf (.bool (decide (isCh (ps.map (·.1)))))) h := by
  have hb := hA.bound
  by_cases hn : ps.length ≤ 8
  · have hn2 : (ps.length : Int) ≤ 8 := by omega
    refine CallT_pure (F := L28) (HasEf.f28) rfl (by first | rfl | (split <;> rfl) | simp) ?_; unfold L28; dsimp only []
    repeat' (first | (simp (disch := first | omega | assumption | (simp only [List.length_set]; omega) | (simp [*] <;> fail) | assumption) [-Bool.decide_and, -Bool.decide_or, -Bool.not_and, -Bool.not_or, toNat_pred, toNat_succ, wrap64, wr_new, wr_new0, ok_if, ok_ifn, iadV_sl, makeV_int, decT, decF, over_at, *, hA.len, hA.at_, hA.at_', hA.rd, hA.rdIn, hA.rdIn0, hA.rdA, hA.rdInA, hA.rdIn0A]) | (with_reducible refine Gd_split (fun hc => ?_) (fun hc => ?_) <;> (have hc2 := hc; try simp at hc2)) | (with_reducible refine Br_split (fun hc => ?_) (fun hc => ?_) <;> (have hc2 := hc; try simp at hc2)) | (with_reducible refine GdT_split (fun hc => ?_) (fun hc => ?_) <;> (have hc2 := hc; try simp at hc2)) | (with_reducible refine WT_alt ?_ ?_) | omega)
    refine WL_forM 1048572 (by decide +kernel) (ps.length) (fun i b g => i ≤ ps.length ∧ b 3 = .lf (.int .i64 i) ∧ h = g ∧ upto effOk ps i) (fun _ _ _ hi => hi.1) ⟨by omega, by simp, rfl, .zero⟩ ?_
    rintro i b g ⟨hi, e6, rfl, hu⟩
    by_cases hlt : i < ps.length
    · have hc := fun lim K => c_l08Effect (S := S) (lim := lim) (K := K) (h := h) (id := l.id) (off := l.off + i * 3) (e := ps[i].1) (l := ps[i].2) (fun t => hA.rdA hlt) (hI i hlt)
      by_cases k1 : effOk ps[i].1
      · have hok := hu.succ hlt k1
        have hd : decide (effOk ps[i].1) = true := decide_eq_true k1
        repeat' (first | (simp (disch := first | omega | assumption | (simp only [List.length_set]; omega) | (simp [*] <;> fail) | assumption) [-Bool.decide_and, -Bool.decide_or, -Bool.not_and, -Bool.not_or, toNat_pred, toNat_succ, wrap64, wr_new, wr_new0, ok_if, ok_ifn, iadV_sl, makeV_int, decT, decF, over_at, *, hA.len, hA.at_, hA.at_', hA.rd, hA.rdIn, hA.rdIn0, hA.rdA, hA.rdInA, hA.rdIn0A]) | (with_reducible refine Gd_split (fun hc => ?_) (fun hc => ?_) <;> (have hc2 := hc; try simp at hc2)) | (with_reducible refine Br_split (fun hc => ?_) (fun hc => ?_) <;> (have hc2 := hc; try simp at hc2)) | (with_reducible refine GdT_split (fun hc => ?_) (fun hc => ?_) <;> (have hc2 := hc; try simp at hc2)) | (with_reducible refine WT_alt ?_ ?_) | omega)
      · have hno := not_isCh hlt k1
        have hd : decide (effOk ps[i].1) = false := decide_eq_false k1
        repeat' (first | (simp (disch := first | omega | assumption | (simp only [List.length_set]; omega) | (simp [*] <;> fail) | assumption) [-Bool.decide_and, -Bool.decide_or, -Bool.not_and, -Bool.not_or, toNat_pred, toNat_succ, wrap64, wr_new, wr_new0, ok_if, ok_ifn, iadV_sl, makeV_int, decT, decF, over_at, *, hA.len, hA.at_, hA.at_', hA.rd, hA.rdIn, hA.rdIn0, hA.rdA, hA.rdInA, hA.rdIn0A]) | (with_reducible refine Gd_split (fun hc => ?_) (fun hc => ?_) <;> (have hc2 := hc; try simp at hc2)) | (with_reducible refine Br_split (fun hc => ?_) (fun hc => ?_) <;> (have hc2 := hc; try simp at hc2)) | (with_reducible refine GdT_split (fun hc => ?_) (fun hc => ?_) <;> (have hc2 := hc; try simp at hc2)) | (with_reducible refine WT_alt ?_ ?_) | omega)
    · have : i = ps.length := by omega
      subst this
      have hyes := all_isCh hn hu
      repeat' (first | (simp (disch := first | omega | assumption | (simp only [List.length_set]; omega) | (simp [*] <;> fail) | assumption) [-Bool.decide_and, -Bool.decide_or, -Bool.not_and, -Bool.not_or, toNat_pred, toNat_succ, wrap64, wr_new, wr_new0, ok_if, ok_ifn, iadV_sl, makeV_int, decT, decF, over_at, *, hA.len, hA.at_, hA.at_', hA.rd, hA.rdIn, hA.rdIn0, hA.rdA, hA.rdInA, hA.rdIn0A]) | (with_reducible refine Gd_split (fun hc => ?_) (fun hc => ?_) <;> (have hc2 := hc; try simp at hc2)) | (with_reducible refine Br_split (fun hc => ?_) (fun hc => ?_) <;> (have hc2 := hc; try simp at hc2)) | (with_reducible refine GdT_split (fun hc => ?_) (fun hc => ?_) <;> (have hc2 := hc; try simp at hc2)) | (with_reducible refine WT_alt ?_ ?_) | omega)
  · have hn2 : ¬ (ps.length : Int) ≤ 8 := by omega
    have hno := long_isCh hn
    refine CallT_pure (F := L28) (HasEf.f28) rfl (by first | rfl | (split <;> rfl) | simp) ?_; unfold L28; dsimp only []
    repeat' (first | (simp (disch := first | omega | assumption | (simp only [List.length_set]; omega) | (simp [*] <;> fail) | assumption) [-Bool.decide_and, -Bool.decide_or, -Bool.not_and, -Bool.not_or, toNat_pred, toNat_succ, wrap64, wr_new, wr_new0, ok_if, ok_ifn, iadV_sl, makeV_int, decT, decF, over_at, *, hA.len, hA.at_, hA.at_', hA.rd, hA.rdIn, hA.rdIn0, hA.rdA, hA.rdInA, hA.rdIn0A]) | (with_reducible refine Gd_split (fun hc => ?_) (fun hc => ?_) <;> (have hc2 := hc; try simp at hc2)) | (with_reducible refine Br_split (fun hc => ?_) (fun hc => ?_) <;> (have hc2 := hc; try simp at hc2)) | (with_reducible refine GdT_split (fun hc => ?_) (fun hc => ?_) <;> (have hc2 := hc; try simp at hc2)) | (with_reducible refine WT_alt ?_ ?_) | omega)
    refine WL_forM 1048572 (by decide +kernel) (0) (fun i b g => i ≤ 0 ∧ b 3 = .lf (.int .i64 0) ∧ h = g) (fun _ _ _ hi => hi.1) ⟨by omega, by simp, rfl⟩ ?_
    rintro i b g ⟨hi, e6, rfl⟩
    repeat' (first | (simp (disch := first | omega | assumption | (simp only [List.length_set]; omega) | (simp [*] <;> fail) | assumption) [-Bool.decide_and, -Bool.decide_or, -Bool.not_and, -Bool.not_or, toNat_pred, toNat_succ, wrap64, wr_new, wr_new0, ok_if, ok_ifn, iadV_sl, makeV_int, decT, decF, over_at, *, hA.len, hA.at_, hA.at_', hA.rd, hA.rdIn, hA.rdIn0, hA.rdA, hA.rdInA, hA.rdIn0A]) | (with_reducible refine Gd_split (fun hc => ?_) (fun hc => ?_) <;> (have hc2 := hc; try simp at hc2)) | (with_reducible refine Br_split (fun hc => ?_) (fun hc => ?_) <;> (have hc2 := hc; try simp at hc2)) | (with_reducible refine GdT_split (fun hc => ?_) (fun hc => ?_) <;> (have hc2 := hc; try simp at hc2)) | (with_reducible refine WT_alt ?_ ?_) | omega)
set_option maxHeartbeats 1000000 in
theorem c_implValidChain (hA : Arr h l 3 (ps.map Eff.cells)) (hI : In h Eff.nums ps) : CallT S true 38 [.lf l] h lim K = K (.lf (.bool (decide (isCh (ps.map (·.1)))))) h := by
  have hb := hA.bound
  by_cases hn : ps.length ≤ 8
  · have hn2 : ¬ (8 : Int) < ps.length := by omega
    refine CallT_pure (F := L38) (HasEf.f38) rfl (by first | rfl | (split <;> rfl) | simp) ?_; unfold L38; dsimp only []
    repeat' (first | (simp (disch := first | omega | assumption | (simp only [List.length_set]; omega) | (simp [*] <;> fail) | assumption) [-Bool.decide_and, -Bool.decide_or, -Bool.not_and, -Bool.not_or, toNat_pred, toNat_succ, wrap64, wr_new, wr_new0, ok_if, ok_ifn, iadV_sl, makeV_int, decT, decF, over_at, *, hA.len, hA.at_, hA.at_', hA.rd, hA.rdIn, hA.rdIn0, hA.rdA, hA.rdInA, hA.rdIn0A]) | (with_reducible refine Gd_split (fun hc => ?_) (fun hc => ?_) <;> (have hc2 := hc; try simp at hc2)) | (with_reducible refine Br_split (fun hc => ?_) (fun hc => ?_) <;> (have hc2 := hc; try simp at hc2)) | (with_reducible refine GdT_split (fun hc => ?_) (fun hc => ?_) <;> (have hc2 := hc; try simp at hc2)) | (with_reducible refine WT_alt ?_ ?_) | omega)
    refine WL_forM 261140 (by decide +kernel) (ps.length) (fun i b g => i ≤ ps.length ∧ b 10 = .lf (.int .i64 i) ∧ Kept h g ∧ upto effOk ps i) (fun _ _ _ hi => hi.1) ⟨by omega, by simp, Kept.refl _, .zero⟩ ?_
    rintro i b g ⟨hi, e6, hk, hu⟩
    replace hA := hA.kept hk
    replace hI := hI.kept hk
    have hg := hk.1
    by_cases hlt : i < ps.length
    · have hI1 := hI i hlt
      have hc := fun t lim K => c_implValidEffect (S := S) (lim := lim) (K := K) (h := g ++ t) (e := ps[i].1) (l := ps[i].2) hI1.app
      by_cases k1 : effOk ps[i].1
      · have hok := hu.succ hlt k1
        have hd : decide (effOk ps[i].1) = true := decide_eq_true k1
        repeat' (first | (simp (disch := first | omega | assumption | (simp only [List.length_set]; omega) | (simp [*] <;> fail) | assumption) [-Bool.decide_and, -Bool.decide_or, -Bool.not_and, -Bool.not_or, toNat_pred, toNat_succ, wrap64, wr_new, wr_new0, ok_if, ok_ifn, iadV_sl, makeV_int, decT, decF, over_at, *, hA.len, hA.at_, hA.at_', hA.rd, hA.rdIn, hA.rdIn0, hA.rdA, hA.rdInA, hA.rdIn0A, Eff.cells]) | (with_reducible refine Gd_split (fun hc => ?_) (fun hc => ?_) <;> (have hc2 := hc; try simp at hc2)) | (with_reducible refine Br_split (fun hc => ?_) (fun hc => ?_) <;> (have hc2 := hc; try simp at hc2)) | (with_reducible refine GdT_split (fun hc => ?_) (fun hc => ?_) <;> (have hc2 := hc; try simp at hc2)) | (with_reducible refine WT_alt ?_ ?_) | omega)
      · have hno := not_isCh hlt k1
        have hd : decide (effOk ps[i].1) = false := decide_eq_false k1
        repeat' (first | (simp (disch := first | omega | assumption | (simp only [List.length_set]; omega) | (simp [*] <;> fail) | assumption) [-Bool.decide_and, -Bool.decide_or, -Bool.not_and, -Bool.not_or, toNat_pred, toNat_succ, wrap64, wr_new, wr_new0, ok_if, ok_ifn, iadV_sl, makeV_int, decT, decF, over_at, *, hA.len, hA.at_, hA.at_', hA.rd, hA.rdIn, hA.rdIn0, hA.rdA, hA.rdInA, hA.rdIn0A, Eff.cells]) | (with_reducible refine Gd_split (fun hc => ?_) (fun hc => ?_) <;> (have hc2 := hc; try simp at hc2)) | (with_reducible refine Br_split (fun hc => ?_) (fun hc => ?_) <;> (have hc2 := hc; try simp at hc2)) | (with_reducible refine GdT_split (fun hc => ?_) (fun hc => ?_) <;> (have hc2 := hc; try simp at hc2)) | (with_reducible refine WT_alt ?_ ?_) | omega)
    · have : i = ps.length := by omega
      subst this
      have hyes := all_isCh hn hu
      repeat' (first | (simp (disch := first | omega | assumption | (simp only [List.length_set]; omega) | (simp [*] <;> fail) | assumption) [-Bool.decide_and, -Bool.decide_or, -Bool.not_and, -Bool.not_or, toNat_pred, toNat_succ, wrap64, wr_new, wr_new0, ok_if, ok_ifn, iadV_sl, makeV_int, decT, decF, over_at, *, hA.len, hA.at_, hA.at_', hA.rd, hA.rdIn, hA.rdIn0, hA.rdA, hA.rdInA, hA.rdIn0A]) | (with_reducible refine Gd_split (fun hc => ?_) (fun hc => ?_) <;> (have hc2 := hc; try simp at hc2)) | (with_reducible refine Br_split (fun hc => ?_) (fun hc => ?_) <;> (have hc2 := hc; try simp at hc2)) | (with_reducible refine GdT_split (fun hc => ?_) (fun hc => ?_) <;> (have hc2 := hc; try simp at hc2)) | (with_reducible refine WT_alt ?_ ?_) | omega)
  · have hno := long_isCh hn
    have hn2 : (8 : Int) < ps.length := by omega
    refine CallT_pure (F := L38) (HasEf.f38) rfl (by first | rfl | (split <;> rfl) | simp) ?_; unfold L38; dsimp only []
    repeat' (first | (simp (disch := first | omega | assumption | (simp only [List.length_set]; omega) | (simp [*] <;> fail) | assumption) [-Bool.decide_and, -Bool.decide_or, -Bool.not_and, -Bool.not_or, toNat_pred, toNat_succ, wrap64, wr_new, wr_new0, ok_if, ok_ifn, iadV_sl, makeV_int, decT, decF, over_at, *, hA.len, hA.at_, hA.at_', hA.rd, hA.rdIn, hA.rdIn0, hA.rdA, hA.rdInA, hA.rdIn0A]) | (with_reducible refine Gd_split (fun hc => ?_) (fun hc => ?_) <;> (have hc2 := hc; try simp at hc2)) | (with_reducible refine Br_split (fun hc => ?_) (fun hc => ?_) <;> (have hc2 := hc; try simp at hc2)) | (with_reducible refine GdT_split (fun hc => ?_) (fun hc => ?_) <;> (have hc2 := hc; try simp at hc2)) | (with_reducible refine WT_alt ?_ ?_) | omega)
end
section
variable [HasLt S]
noncomputable def lateT (es : List Eff) : CV := if isCh es then .tup [.lf (.int .i64 (late es)), .lf (.bool true)] else .tup [.lf (.int .i64 0), .lf (.bool false)]
set_option maxHeartbeats 1000000 in
set_option maxHeartbeats 1000000 in
end
end
end Go.E
