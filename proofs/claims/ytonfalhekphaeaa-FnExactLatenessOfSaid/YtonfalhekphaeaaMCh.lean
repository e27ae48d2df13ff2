/- Chains: valid or not, and how late. -/
import Derived.Test.YtonfalhekphaeaaMEf
set_option linter.unusedVariables false
set_option linter.unusedSimpArgs false
namespace Go.E
open Go
def L62 : LFn := ⟨1, (.seq (.reg [⟨(.some 2), (.mv (.c (.lf (.int .i64 0)))), none⟩, ⟨(.some 3), (.mv (.c (.lf (.bool false)))), none⟩])
 (.seq (.seq (.reg [⟨(.some 6), (.mv (.t 0)), none⟩, ⟨(.some 7), (.call true 97 [(.t 6)]), none⟩, ⟨(.some 8), (.una .not (.t 7)), none⟩])
 (.cond (.t 8) (.seq (.reg [⟨(.some 2), (.mv (.c (.lf (.int .i64 0)))), none⟩, ⟨(.some 3), (.mv (.c (.lf (.bool false)))), none⟩])
 .ret) .skip))
 (.seq (.reg [⟨(.some 4), (.mv (.c (.lf (.int .i64 0)))), none⟩])
 (.seq (.seq (.reg [⟨(.some 5), (.mv (.c (.lf (.int .i64 0)))), none⟩])
 (.block 0 (.loop (.seq (.seq (.reg [⟨(.some 9), (.mv (.t 5)), none⟩, ⟨(.some 10), (.mv (.t 0)), none⟩, ⟨(.some 11), (.len (.t 10)), none⟩, ⟨(.some 12), (.bin .lss (.t 9) (.t 11)), none⟩])
 (.cond (.t 12) .skip (.exit 0)))
 (.seq (.block 1 (.seq (.reg [⟨(.some 15), (.mv (.t 0)), none⟩, ⟨(.some 16), (.mv (.t 5)), none⟩, ⟨(.some 17), (.iaddr 3 (.t 15) (.t 16)), none⟩, ⟨(.some 18), (.faddr 0 (.t 17)), none⟩, ⟨(.some 19), (.load false 1 (.t 18)), none⟩, ⟨(.some 20), (.bin .eql (.t 19) (.c (.lf (.int .i64 6)))), none⟩])
 (.cond (.t 20) (.reg [⟨(.some 21), (.mv (.t 4)), none⟩, ⟨(.some 22), (.mv (.t 0)), none⟩, ⟨(.some 23), (.mv (.t 5)), none⟩, ⟨(.some 24), (.iaddr 3 (.t 22) (.t 23)), none⟩, ⟨(.some 25), (.faddr 1 (.t 24)), none⟩, ⟨(.some 26), (.load false 1 (.t 25)), none⟩, ⟨(.some 27), (.bin .add (.t 21) (.t 26)), none⟩, ⟨(.some 4), (.mv (.t 27)), none⟩]) .skip)))
 (.reg [⟨(.some 13), (.mv (.t 5)), none⟩, ⟨(.some 14), (.bin .add (.t 13) (.c (.lf (.int .i64 1)))), none⟩, ⟨(.some 5), (.mv (.t 14)), none⟩]))))))
 (.seq (.reg [⟨(.some 28), (.mv (.t 4)), none⟩, ⟨(.some 2), (.mv (.t 28)), none⟩, ⟨(.some 3), (.mv (.c (.lf (.bool true)))), none⟩])
 .ret))))), [(.tmp 2), (.tmp 3)]⟩
def L63 : LFn := ⟨1, (.seq (.reg [⟨(.some 2), (.mv (.c (.lf (.int .i64 0)))), none⟩, ⟨(.some 3), (.mv (.c (.lf (.bool false)))), none⟩])
 (.seq (.seq (.reg [⟨(.some 7), (.mv (.t 0)), none⟩, ⟨(.some 8), (.call true 37 [(.t 7)]), none⟩, ⟨(.some 9), (.una .not (.t 8)), none⟩])
 (.cond (.t 9) (.seq (.reg [⟨(.some 2), (.mv (.c (.lf (.int .i64 0)))), none⟩, ⟨(.some 3), (.mv (.c (.lf (.bool false)))), none⟩])
 .ret) .skip))
 (.seq (.reg [⟨(.some 4), (.mv (.c (.lf (.int .i64 0)))), none⟩])
 (.seq (.seq (.reg [⟨(.some 10), (.mv (.t 0)), none⟩, ⟨(.some 11), (.len (.t 10)), none⟩, ⟨(.some 12), (.mv (.c (.lf (.int .i64 0)))), none⟩])
 (.block 0 (.loop (.seq (.reg [⟨(.some 13), (.bin .lss (.t 12) (.t 11)), none⟩])
 (.seq (.cond (.t 13) .skip (.exit 0))
 (.seq (.block 1 (.seq (.reg [⟨(.some 14), (.iaddr 3 (.t 10) (.t 12)), none⟩, ⟨(.some 15), (.load true 3 (.t 14)), none⟩, ⟨(.some 6), (.alloc 120 [(.int .i64 0), (.int .i64 0), .nils]), none⟩, ⟨none, (.store 3 (.t 6) (.t 15)), none⟩])
 (.seq (.reg [⟨(.some 16), (.faddr 0 (.t 6)), none⟩, ⟨(.some 17), (.load false 1 (.t 16)), none⟩, ⟨(.some 18), (.bin .eql (.t 17) (.c (.lf (.int .i64 6)))), none⟩])
 (.cond (.t 18) (.reg [⟨(.some 19), (.mv (.t 4)), none⟩, ⟨(.some 20), (.faddr 1 (.t 6)), none⟩, ⟨(.some 21), (.load false 1 (.t 20)), none⟩, ⟨(.some 22), (.bin .add (.t 19) (.t 21)), none⟩, ⟨(.some 4), (.mv (.t 22)), none⟩]) .skip))))
 (.reg [⟨(.some 23), (.bin .add (.t 12) (.c (.lf (.int .i64 1)))), none⟩, ⟨(.some 12), (.mv (.t 23)), none⟩])))))))
 (.seq (.reg [⟨(.some 24), (.mv (.t 4)), none⟩, ⟨(.some 2), (.mv (.t 24)), none⟩, ⟨(.some 3), (.mv (.c (.lf (.bool true)))), none⟩])
 .ret))))), [(.tmp 2), (.tmp 3)]⟩
class HasLt (S : Sys) : Prop extends HasEf S where
  f62 : S.fs 62 = some L62
  f63 : S.fs 63 = some L63
def late : List Eff → Int
  | [] => 0
  | e :: r => (if e.kind = 6 then e.len else 0) + late r
theorem late_take : ∀ {ps : List (Eff × Lf)} {i : Nat} (hi : i < ps.length), late ((ps.take (i + 1)).map (·.1)) = late ((ps.take i).map (·.1)) + (if ps[i].1.kind = 6 then ps[i].1.len else 0)
  | [], _, hi => by simp at hi
  | p :: ps, 0, hi => by simp [late]
  | p :: ps, i + 1, hi => by
    have := late_take (ps := ps) (i := i) (by simpa using hi)
    simp only [List.take_succ_cons, List.map_cons, late, List.getElem_cons_succ] at this ⊢
    omega
def lateI (ps : List (Eff × Lf)) (i : Nat) : Int := late ((ps.take i).map (·.1))
theorem lateI_all {ps : List (Eff × Lf)} : lateI ps ps.length = late (ps.map (·.1)) := by unfold lateI; rw [List.take_length]
theorem lateI_zero {ps : List (Eff × Lf)} : lateI ps 0 = 0 := by simp [lateI, late]
theorem lateI_succ {ps : List (Eff × Lf)} {i : Nat} (hi : i < ps.length) : lateI ps (i + 1) = lateI ps i + (if ps[i].1.kind = 6 then ps[i].1.len else 0) := late_take hi
theorem isCh_get {ps : List (Eff × Lf)} (hc : isCh (ps.map (·.1))) {i : Nat} (hi : i < ps.length) : effOk ps[i].1 := hc.2 _ (List.mem_map.2 ⟨ps[i], List.getElem_mem hi, rfl⟩)
theorem effOk.len {e : Eff} (he : effOk e) : 0 ≤ e.len ∧ e.len ≤ 32 := by
  obtain ⟨⟨w1, w2⟩, _⟩ := he
  split at w1 <;> split at w2 <;> omega
section
variable {S : Sys} {lim : Nat} {h : Hp} {K : CV → Hp → Prop} {l : Lf} {ps : List (Eff × Lf)}
section
variable [HasEf S]
set_option maxHeartbeats 1000000 in
theorem c_l08Is (hA : Arr h l 3 (ps.map Eff.cells)) (hI : In h Eff.nums ps) : CallT S true 97 [.lf l] h lim K = K (.lf (.bool (decide (isCh (ps.map (·.1)))))) h := by
  have hb := hA.bound
  by_cases hn : ps.length ≤ 8
  · have hn2 : (ps.length : Int) ≤ 8 := by omega
    refine CallT_pure (F := L97) (HasEf.f97) rfl (by first | rfl | (split <;> rfl) | simp) ?_; unfold L97; dsimp only []
    repeat' (first | (simp (disch := first | omega | assumption | (simp only [List.length_set]; omega) | (simp [*] <;> fail) | assumption) [-Bool.decide_and, -Bool.decide_or, -Bool.not_and, -Bool.not_or, toNat_pred, toNat_succ, wrap64, wr_new, wr_new0, ok_if, ok_ifn, iadV_sl, makeV_int, decT, decF, over_at, *, hA.len, hA.at_, hA.at_', hA.rd, hA.rdIn, hA.rdIn0, hA.rdA, hA.rdInA, hA.rdIn0A]) | (with_reducible refine Gd_split (fun hc => ?_) (fun hc => ?_) <;> (have hc2 := hc; try simp at hc2)) | (with_reducible refine Br_split (fun hc => ?_) (fun hc => ?_) <;> (have hc2 := hc; try simp at hc2)) | (with_reducible refine GdT_split (fun hc => ?_) (fun hc => ?_) <;> (have hc2 := hc; try simp at hc2)) | (with_reducible refine WT_alt ?_ ?_) | omega)
    refine WL_forM 1048572 (by decide +kernel) (ps.length) (fun i b g => i ≤ ps.length ∧ b 3 = .lf (.int .i64 i) ∧ h = g ∧ upto effOk ps i) (fun _ _ _ hi => hi.1) ⟨by omega, by simp, rfl, .zero⟩ ?_
    rintro i b g ⟨hi, e6, rfl, hu⟩
    by_cases hlt : i < ps.length
    · have hc := fun lim K => c_l08Effect (S := S) (lim := lim) (K := K) (h := h) (id := l.id) (off := l.off + i * 3) (e := ps[i].1) (l := ps[i].2) (fun t => hA.rdA hlt) (hI i hlt)
      by_cases k1 : effOk ps[i].1
      · have hok := hu.succ hlt k1
        have hd : decide (effOk ps[i].1) = true := decide_eq_true k1
        repeat' (first | (simp (disch := first | omega | assumption | (simp only [List.length_set]; omega) | (simp [*] <;> fail) | assumption) [-Bool.decide_and, -Bool.decide_or, -Bool.not_and, -Bool.not_or, toNat_pred, toNat_succ, wrap64, wr_new, wr_new0, ok_if, ok_ifn, iadV_sl, makeV_int, decT, decF, over_at, *, hA.len, hA.at_, hA.at_', hA.rd, hA.rdIn, hA.rdIn0, hA.rdA, hA.rdInA, hA.rdIn0A]) | (with_reducible refine Gd_split (fun hc => ?_) (fun hc => ?_) <;> (have hc2 := hc; try simp at hc2)) | (with_reducible refine Br_split (fun hc => ?_) (fun hc => ?_) <;> (have hc2 := hc; try simp at hc2)) | (with_reducible refine GdT_split (fun hc => ?_) (fun hc => ?_) <;> (have hc2 := hc; try simp at hc2)) | (with_reducible refine WT_alt ?_ ?_) | omega)
      · have hno := not_isCh hlt k1
        have hd : decide (effOk ps[i].1) = false := decide_eq_false k1
        repeat' (first | (simp (disch := first | omega | assumption | (simp only [List.length_set]; omega) | (simp [*] <;> fail) | assumption) [-Bool.decide_and, -Bool.decide_or, -Bool.not_and, -Bool.not_or, toNat_pred, toNat_succ, wrap64, wr_new, wr_new0, ok_if, ok_ifn, iadV_sl, makeV_int, decT, decF, over_at, *, hA.len, hA.at_, hA.at_', hA.rd, hA.rdIn, hA.rdIn0, hA.rdA, hA.rdInA, hA.rdIn0A]) | (with_reducible refine Gd_split (fun hc => ?_) (fun hc => ?_) <;> (have hc2 := hc; try simp at hc2)) | (with_reducible refine Br_split (fun hc => ?_) (fun hc => ?_) <;> (have hc2 := hc; try simp at hc2)) | (with_reducible refine GdT_split (fun hc => ?_) (fun hc => ?_) <;> (have hc2 := hc; try simp at hc2)) | (with_reducible refine WT_alt ?_ ?_) | omega)
    · have : i = ps.length := by omega
      subst this
      have hyes := all_isCh hn hu
      repeat' (first | (simp (disch := first | omega | assumption | (simp only [List.length_set]; omega) | (simp [*] <;> fail) | assumption) [-Bool.decide_and, -Bool.decide_or, -Bool.not_and, -Bool.not_or, toNat_pred, toNat_succ, wrap64, wr_new, wr_new0, ok_if, ok_ifn, iadV_sl, makeV_int, decT, decF, over_at, *, hA.len, hA.at_, hA.at_', hA.rd, hA.rdIn, hA.rdIn0, hA.rdA, hA.rdInA, hA.rdIn0A]) | (with_reducible refine Gd_split (fun hc => ?_) (fun hc => ?_) <;> (have hc2 := hc; try simp at hc2)) | (with_reducible refine Br_split (fun hc => ?_) (fun hc => ?_) <;> (have hc2 := hc; try simp at hc2)) | (with_reducible refine GdT_split (fun hc => ?_) (fun hc => ?_) <;> (have hc2 := hc; try simp at hc2)) | (with_reducible refine WT_alt ?_ ?_) | omega)
  · have hn2 : ¬ (ps.length : Int) ≤ 8 := by omega
    have hno := long_isCh hn
    refine CallT_pure (F := L97) (HasEf.f97) rfl (by first | rfl | (split <;> rfl) | simp) ?_; unfold L97; dsimp only []
    repeat' (first | (simp (disch := first | omega | assumption | (simp only [List.length_set]; omega) | (simp [*] <;> fail) | assumption) [-Bool.decide_and, -Bool.decide_or, -Bool.not_and, -Bool.not_or, toNat_pred, toNat_succ, wrap64, wr_new, wr_new0, ok_if, ok_ifn, iadV_sl, makeV_int, decT, decF, over_at, *, hA.len, hA.at_, hA.at_', hA.rd, hA.rdIn, hA.rdIn0, hA.rdA, hA.rdInA, hA.rdIn0A]) | (with_reducible refine Gd_split (fun hc => ?_) (fun hc => ?_) <;> (have hc2 := hc; try simp at hc2)) | (with_reducible refine Br_split (fun hc => ?_) (fun hc => ?_) <;> (have hc2 := hc; try simp at hc2)) | (with_reducible refine GdT_split (fun hc => ?_) (fun hc => ?_) <;> (have hc2 := hc; try simp at hc2)) | (with_reducible refine WT_alt ?_ ?_) | omega)
    refine WL_forM 1048572 (by decide +kernel) (0) (fun i b g => i ≤ 0 ∧ b 3 = .lf (.int .i64 0) ∧ h = g) (fun _ _ _ hi => hi.1) ⟨by omega, by simp, rfl⟩ ?_
    rintro i b g ⟨hi, e6, rfl⟩
    repeat' (first | (simp (disch := first | omega | assumption | (simp only [List.length_set]; omega) | (simp [*] <;> fail) | assumption) [-Bool.decide_and, -Bool.decide_or, -Bool.not_and, -Bool.not_or, toNat_pred, toNat_succ, wrap64, wr_new, wr_new0, ok_if, ok_ifn, iadV_sl, makeV_int, decT, decF, over_at, *, hA.len, hA.at_, hA.at_', hA.rd, hA.rdIn, hA.rdIn0, hA.rdA, hA.rdInA, hA.rdIn0A]) | (with_reducible refine Gd_split (fun hc => ?_) (fun hc => ?_) <;> (have hc2 := hc; try simp at hc2)) | (with_reducible refine Br_split (fun hc => ?_) (fun hc => ?_) <;> (have hc2 := hc; try simp at hc2)) | (with_reducible refine GdT_split (fun hc => ?_) (fun hc => ?_) <;> (have hc2 := hc; try simp at hc2)) | (with_reducible refine WT_alt ?_ ?_) | omega)
theorem c_specValidChain (hA : Arr h l 3 (ps.map Eff.cells)) (hI : In h Eff.nums ps) : CallT S true 35 [.lf l] h lim K = K (.lf (.bool (decide (isCh (ps.map (·.1)))))) h := by
  refine CallT_pure (F := L35) (HasEf.f35) rfl (by first | rfl | (split <;> rfl) | simp) ?_; unfold L35; dsimp only []
  repeat' (first | (simp (disch := first | omega | assumption | (simp only [List.length_set]; omega) | (simp [*] <;> fail) | assumption) [-Bool.decide_and, -Bool.decide_or, -Bool.not_and, -Bool.not_or, toNat_pred, toNat_succ, wrap64, wr_new, wr_new0, ok_if, ok_ifn, iadV_sl, makeV_int, decT, decF, over_at, *, c_l08Is hA hI]) | (with_reducible refine Gd_split (fun hc => ?_) (fun hc => ?_) <;> (have hc2 := hc; try simp at hc2)) | (with_reducible refine Br_split (fun hc => ?_) (fun hc => ?_) <;> (have hc2 := hc; try simp at hc2)) | (with_reducible refine GdT_split (fun hc => ?_) (fun hc => ?_) <;> (have hc2 := hc; try simp at hc2)) | (with_reducible refine WT_alt ?_ ?_) | omega)
set_option maxHeartbeats 1000000 in
theorem c_implValidChain (hA : Arr h l 3 (ps.map Eff.cells)) (hI : In h Eff.nums ps) : CallT S true 37 [.lf l] h lim K = K (.lf (.bool (decide (isCh (ps.map (·.1)))))) h := by
  have hb := hA.bound
  by_cases hn : ps.length ≤ 8
  · have hn2 : ¬ (8 : Int) < ps.length := by omega
    refine CallT_pure (F := L37) (HasEf.f37) rfl (by first | rfl | (split <;> rfl) | simp) ?_; unfold L37; dsimp only []
    repeat' (first | (simp (disch := first | omega | assumption | (simp only [List.length_set]; omega) | (simp [*] <;> fail) | assumption) [-Bool.decide_and, -Bool.decide_or, -Bool.not_and, -Bool.not_or, toNat_pred, toNat_succ, wrap64, wr_new, wr_new0, ok_if, ok_ifn, iadV_sl, makeV_int, decT, decF, over_at, *, hA.len, hA.at_, hA.at_', hA.rd, hA.rdIn, hA.rdIn0, hA.rdA, hA.rdInA, hA.rdIn0A]) | (with_reducible refine Gd_split (fun hc => ?_) (fun hc => ?_) <;> (have hc2 := hc; try simp at hc2)) | (with_reducible refine Br_split (fun hc => ?_) (fun hc => ?_) <;> (have hc2 := hc; try simp at hc2)) | (with_reducible refine GdT_split (fun hc => ?_) (fun hc => ?_) <;> (have hc2 := hc; try simp at hc2)) | (with_reducible refine WT_alt ?_ ?_) | omega)
    refine WL_forM 261140 (by decide +kernel) (ps.length) (fun i b g => i ≤ ps.length ∧ b 10 = .lf (.int .i64 i) ∧ Kept h g ∧ upto effOk ps i) (fun _ _ _ hi => hi.1) ⟨by omega, by simp, Kept.refl _, .zero⟩ ?_
    rintro i b g ⟨hi, e6, hk, hu⟩
    replace hA := hA.kept hk
    replace hI := hI.kept hk
    have hg := hk.1
    by_cases hlt : i < ps.length
    · have hI1 := hI i hlt
      have hc := fun t lim K => c_implValidEffect (S := S) (lim := lim) (K := K) (h := g ++ t) (e := ps[i].1) (l := ps[i].2) hI1.app
      by_cases k1 : effOk ps[i].1
      · have hok := hu.succ hlt k1
        have hd : decide (effOk ps[i].1) = true := decide_eq_true k1
        repeat' (first | (simp (disch := first | omega | assumption | (simp only [List.length_set]; omega) | (simp [*] <;> fail) | assumption) [-Bool.decide_and, -Bool.decide_or, -Bool.not_and, -Bool.not_or, toNat_pred, toNat_succ, wrap64, wr_new, wr_new0, ok_if, ok_ifn, iadV_sl, makeV_int, decT, decF, over_at, *, hA.len, hA.at_, hA.at_', hA.rd, hA.rdIn, hA.rdIn0, hA.rdA, hA.rdInA, hA.rdIn0A, Eff.cells]) | (with_reducible refine Gd_split (fun hc => ?_) (fun hc => ?_) <;> (have hc2 := hc; try simp at hc2)) | (with_reducible refine Br_split (fun hc => ?_) (fun hc => ?_) <;> (have hc2 := hc; try simp at hc2)) | (with_reducible refine GdT_split (fun hc => ?_) (fun hc => ?_) <;> (have hc2 := hc; try simp at hc2)) | (with_reducible refine WT_alt ?_ ?_) | omega)
      · have hno := not_isCh hlt k1
        have hd : decide (effOk ps[i].1) = false := decide_eq_false k1
        repeat' (first | (simp (disch := first | omega | assumption | (simp only [List.length_set]; omega) | (simp [*] <;> fail) | assumption) [-Bool.decide_and, -Bool.decide_or, -Bool.not_and, -Bool.not_or, toNat_pred, toNat_succ, wrap64, wr_new, wr_new0, ok_if, ok_ifn, iadV_sl, makeV_int, decT, decF, over_at, *, hA.len, hA.at_, hA.at_', hA.rd, hA.rdIn, hA.rdIn0, hA.rdA, hA.rdInA, hA.rdIn0A, Eff.cells]) | (with_reducible refine Gd_split (fun hc => ?_) (fun hc => ?_) <;> (have hc2 := hc; try simp at hc2)) | (with_reducible refine Br_split (fun hc => ?_) (fun hc => ?_) <;> (have hc2 := hc; try simp at hc2)) | (with_reducible refine GdT_split (fun hc => ?_) (fun hc => ?_) <;> (have hc2 := hc; try simp at hc2)) | (with_reducible refine WT_alt ?_ ?_) | omega)
    · have : i = ps.length := by omega
      subst this
      have hyes := all_isCh hn hu
      repeat' (first | (simp (disch := first | omega | assumption | (simp only [List.length_set]; omega) | (simp [*] <;> fail) | assumption) [-Bool.decide_and, -Bool.decide_or, -Bool.not_and, -Bool.not_or, toNat_pred, toNat_succ, wrap64, wr_new, wr_new0, ok_if, ok_ifn, iadV_sl, makeV_int, decT, decF, over_at, *, hA.len, hA.at_, hA.at_', hA.rd, hA.rdIn, hA.rdIn0, hA.rdA, hA.rdInA, hA.rdIn0A]) | (with_reducible refine Gd_split (fun hc => ?_) (fun hc => ?_) <;> (have hc2 := hc; try simp at hc2)) | (with_reducible refine Br_split (fun hc => ?_) (fun hc => ?_) <;> (have hc2 := hc; try simp at hc2)) | (with_reducible refine GdT_split (fun hc => ?_) (fun hc => ?_) <;> (have hc2 := hc; try simp at hc2)) | (with_reducible refine WT_alt ?_ ?_) | omega)
  · have hno := long_isCh hn
    have hn2 : (8 : Int) < ps.length := by omega
    refine CallT_pure (F := L37) (HasEf.f37) rfl (by first | rfl | (split <;> rfl) | simp) ?_; unfold L37; dsimp only []
    repeat' (first | (simp (disch := first | omega | assumption | (simp only [List.length_set]; omega) | (simp [*] <;> fail) | assumption) [-Bool.decide_and, -Bool.decide_or, -Bool.not_and, -Bool.not_or, toNat_pred, toNat_succ, wrap64, wr_new, wr_new0, ok_if, ok_ifn, iadV_sl, makeV_int, decT, decF, over_at, *, hA.len, hA.at_, hA.at_', hA.rd, hA.rdIn, hA.rdIn0, hA.rdA, hA.rdInA, hA.rdIn0A]) | (with_reducible refine Gd_split (fun hc => ?_) (fun hc => ?_) <;> (have hc2 := hc; try simp at hc2)) | (with_reducible refine Br_split (fun hc => ?_) (fun hc => ?_) <;> (have hc2 := hc; try simp at hc2)) | (with_reducible refine GdT_split (fun hc => ?_) (fun hc => ?_) <;> (have hc2 := hc; try simp at hc2)) | (with_reducible refine WT_alt ?_ ?_) | omega)
end
section
variable [HasLt S]
noncomputable def lateT (es : List Eff) : CV := if isCh es then .tup [.lf (.int .i64 (late es)), .lf (.bool true)] else .tup [.lf (.int .i64 0), .lf (.bool false)]
set_option maxHeartbeats 1000000 in
theorem c_specLatenessOf (hA : Arr h l 3 (ps.map Eff.cells)) (hI : In h Eff.nums ps) : CallT S true 62 [.lf l] h lim K = K (lateT (ps.map (·.1))) h := by
  have hc := fun lim K => c_l08Is (S := S) (lim := lim) (K := K) hA hI
  unfold lateT
  by_cases hok : isCh (ps.map (·.1))
  · rw [if_pos hok]
    have hd : decide (isCh (ps.map (·.1))) = true := decide_eq_true hok
    have h8 := hok.1
    rw [List.length_map] at h8
    rw [hd] at hc
    refine CallT_pure (F := L62) (HasLt.f62) rfl (by first | rfl | (split <;> rfl) | simp) ?_; unfold L62; dsimp only []
    repeat' (first | (simp (disch := first | omega | assumption | (simp only [List.length_set]; omega) | (simp [*] <;> fail) | assumption) [-Bool.decide_and, -Bool.decide_or, -Bool.not_and, -Bool.not_or, toNat_pred, toNat_succ, wrap64, wr_new, wr_new0, ok_if, ok_ifn, iadV_sl, makeV_int, decT, decF, over_at, *]) | (with_reducible refine Gd_split (fun hc => ?_) (fun hc => ?_) <;> (have hc2 := hc; try simp at hc2)) | (with_reducible refine Br_split (fun hc => ?_) (fun hc => ?_) <;> (have hc2 := hc; try simp at hc2)) | (with_reducible refine GdT_split (fun hc => ?_) (fun hc => ?_) <;> (have hc2 := hc; try simp at hc2)) | (with_reducible refine WT_alt ?_ ?_) | omega)
    refine WL_forM 268434992 (by decide +kernel) (ps.length) (fun i b g => i ≤ ps.length ∧ b 5 = .lf (.int .i64 i) ∧ b 4 = .lf (.int .i64 (lateI ps i)) ∧ h = g ∧ 0 ≤ lateI ps i ∧ lateI ps i ≤ 32 * i) (fun _ _ _ hi => hi.1) ⟨by omega, by simp, by simp [lateI_zero], rfl, by simp [lateI_zero], by simp [lateI_zero]⟩ ?_
    rintro i b g ⟨hi, e5, e4, rfl, b1, b2⟩
    by_cases hlt : i < ps.length
    · have hs := lateI_succ hlt
      have hl := (isCh_get hok hlt).len
      by_cases h6 : ps[i].1.kind = 6
      · rw [if_pos h6] at hs
        repeat' (first | (simp (disch := first | omega | assumption | (simp only [List.length_set]; omega) | (simp [*] <;> fail) | assumption) [-Bool.decide_and, -Bool.decide_or, -Bool.not_and, -Bool.not_or, toNat_pred, toNat_succ, wrap64, wr_new, wr_new0, ok_if, ok_ifn, iadV_sl, makeV_int, decT, decF, over_at, *, hA.len, hA.at_, hA.at_', hA.rd, hA.rdIn, hA.rdIn0, hA.rdA, hA.rdInA, hA.rdIn0A, Eff.cells]) | (with_reducible refine Gd_split (fun hc => ?_) (fun hc => ?_) <;> (have hc2 := hc; try simp at hc2)) | (with_reducible refine Br_split (fun hc => ?_) (fun hc => ?_) <;> (have hc2 := hc; try simp at hc2)) | (with_reducible refine GdT_split (fun hc => ?_) (fun hc => ?_) <;> (have hc2 := hc; try simp at hc2)) | (with_reducible refine WT_alt ?_ ?_) | omega)
        all_goals (rw [hs]; exact ⟨rfl, by omega, by omega⟩)
      · rw [if_neg h6, Int.add_zero] at hs
        repeat' (first | (simp (disch := first | omega | assumption | (simp only [List.length_set]; omega) | (simp [*] <;> fail) | assumption) [-Bool.decide_and, -Bool.decide_or, -Bool.not_and, -Bool.not_or, toNat_pred, toNat_succ, wrap64, wr_new, wr_new0, ok_if, ok_ifn, iadV_sl, makeV_int, decT, decF, over_at, *, hA.len, hA.at_, hA.at_', hA.rd, hA.rdIn, hA.rdIn0, hA.rdA, hA.rdInA, hA.rdIn0A, Eff.cells]) | (with_reducible refine Gd_split (fun hc => ?_) (fun hc => ?_) <;> (have hc2 := hc; try simp at hc2)) | (with_reducible refine Br_split (fun hc => ?_) (fun hc => ?_) <;> (have hc2 := hc; try simp at hc2)) | (with_reducible refine GdT_split (fun hc => ?_) (fun hc => ?_) <;> (have hc2 := hc; try simp at hc2)) | (with_reducible refine WT_alt ?_ ?_) | omega)
    · have : i = ps.length := by omega
      subst this
      rw [lateI_all] at *
      repeat' (first | (simp (disch := first | omega | assumption | (simp only [List.length_set]; omega) | (simp [*] <;> fail) | assumption) [-Bool.decide_and, -Bool.decide_or, -Bool.not_and, -Bool.not_or, toNat_pred, toNat_succ, wrap64, wr_new, wr_new0, ok_if, ok_ifn, iadV_sl, makeV_int, decT, decF, over_at, *, hA.len, hA.at_, hA.at_', hA.rd, hA.rdIn, hA.rdIn0, hA.rdA, hA.rdInA, hA.rdIn0A]) | (with_reducible refine Gd_split (fun hc => ?_) (fun hc => ?_) <;> (have hc2 := hc; try simp at hc2)) | (with_reducible refine Br_split (fun hc => ?_) (fun hc => ?_) <;> (have hc2 := hc; try simp at hc2)) | (with_reducible refine GdT_split (fun hc => ?_) (fun hc => ?_) <;> (have hc2 := hc; try simp at hc2)) | (with_reducible refine WT_alt ?_ ?_) | omega)
  · rw [if_neg hok]
    have hd : decide (isCh (ps.map (·.1))) = false := decide_eq_false hok
    rw [hd] at hc
    refine CallT_pure (F := L62) (HasLt.f62) rfl (by first | rfl | (split <;> rfl) | simp) ?_; unfold L62; dsimp only []
    repeat' (first | (simp (disch := first | omega | assumption | (simp only [List.length_set]; omega) | (simp [*] <;> fail) | assumption) [-Bool.decide_and, -Bool.decide_or, -Bool.not_and, -Bool.not_or, toNat_pred, toNat_succ, wrap64, wr_new, wr_new0, ok_if, ok_ifn, iadV_sl, makeV_int, decT, decF, over_at, *]) | (with_reducible refine Gd_split (fun hc => ?_) (fun hc => ?_) <;> (have hc2 := hc; try simp at hc2)) | (with_reducible refine Br_split (fun hc => ?_) (fun hc => ?_) <;> (have hc2 := hc; try simp at hc2)) | (with_reducible refine GdT_split (fun hc => ?_) (fun hc => ?_) <;> (have hc2 := hc; try simp at hc2)) | (with_reducible refine WT_alt ?_ ?_) | omega)
set_option maxHeartbeats 1000000 in
theorem c_implLatenessOf (hA : Arr h l 3 (ps.map Eff.cells)) (hI : In h Eff.nums ps) : CallT S true 63 [.lf l] h lim K = K (lateT (ps.map (·.1))) h := by
  have hc := fun lim K => c_implValidChain (S := S) (lim := lim) (K := K) hA hI
  unfold lateT
  by_cases hok : isCh (ps.map (·.1))
  · rw [if_pos hok]
    have hd : decide (isCh (ps.map (·.1))) = true := decide_eq_true hok
    have h8 := hok.1
    rw [List.length_map] at h8
    rw [hd] at hc
    refine CallT_pure (F := L63) (HasLt.f63) rfl (by first | rfl | (split <;> rfl) | simp) ?_; unfold L63; dsimp only []
    repeat' (first | (simp (disch := first | omega | assumption | (simp only [List.length_set]; omega) | (simp [*] <;> fail) | assumption) [-Bool.decide_and, -Bool.decide_or, -Bool.not_and, -Bool.not_or, toNat_pred, toNat_succ, wrap64, wr_new, wr_new0, ok_if, ok_ifn, iadV_sl, makeV_int, decT, decF, over_at, *, hA.len]) | (with_reducible refine Gd_split (fun hc => ?_) (fun hc => ?_) <;> (have hc2 := hc; try simp at hc2)) | (with_reducible refine Br_split (fun hc => ?_) (fun hc => ?_) <;> (have hc2 := hc; try simp at hc2)) | (with_reducible refine GdT_split (fun hc => ?_) (fun hc => ?_) <;> (have hc2 := hc; try simp at hc2)) | (with_reducible refine WT_alt ?_ ?_) | omega)
    refine WL_forM 16773200 (by decide +kernel) (ps.length) (fun i b g => i ≤ ps.length ∧ b 12 = .lf (.int .i64 i) ∧ b 4 = .lf (.int .i64 (lateI ps i)) ∧ Kept h g ∧ 0 ≤ lateI ps i ∧ lateI ps i ≤ 32 * i) (fun _ _ _ hi => hi.1) ⟨by omega, by simp, by simp [lateI_zero], Kept.refl _, by simp [lateI_zero], by simp [lateI_zero]⟩ ?_
    rintro i b g ⟨hi, e5, e4, hk, b1, b2⟩
    replace hA := hA.kept hk
    have hg := hk.1
    by_cases hlt : i < ps.length
    · have hs := lateI_succ hlt
      have hl := (isCh_get hok hlt).len
      by_cases h6 : ps[i].1.kind = 6
      · rw [if_pos h6] at hs
        repeat' (first | (simp (disch := first | omega | assumption | (simp only [List.length_set]; omega) | (simp [*] <;> fail) | assumption) [-Bool.decide_and, -Bool.decide_or, -Bool.not_and, -Bool.not_or, toNat_pred, toNat_succ, wrap64, wr_new, wr_new0, ok_if, ok_ifn, iadV_sl, makeV_int, decT, decF, over_at, *, hA.len, hA.at_, hA.at_', hA.rd, hA.rdIn, hA.rdIn0, hA.rdA, hA.rdInA, hA.rdIn0A, Eff.cells]) | (with_reducible refine Gd_split (fun hc => ?_) (fun hc => ?_) <;> (have hc2 := hc; try simp at hc2)) | (with_reducible refine Br_split (fun hc => ?_) (fun hc => ?_) <;> (have hc2 := hc; try simp at hc2)) | (with_reducible refine GdT_split (fun hc => ?_) (fun hc => ?_) <;> (have hc2 := hc; try simp at hc2)) | (with_reducible refine WT_alt ?_ ?_) | omega)
        all_goals (rw [hs]; exact ⟨rfl, by omega, by omega⟩)
      · rw [if_neg h6, Int.add_zero] at hs
        repeat' (first | (simp (disch := first | omega | assumption | (simp only [List.length_set]; omega) | (simp [*] <;> fail) | assumption) [-Bool.decide_and, -Bool.decide_or, -Bool.not_and, -Bool.not_or, toNat_pred, toNat_succ, wrap64, wr_new, wr_new0, ok_if, ok_ifn, iadV_sl, makeV_int, decT, decF, over_at, *, hA.len, hA.at_, hA.at_', hA.rd, hA.rdIn, hA.rdIn0, hA.rdA, hA.rdInA, hA.rdIn0A, Eff.cells]) | (with_reducible refine Gd_split (fun hc => ?_) (fun hc => ?_) <;> (have hc2 := hc; try simp at hc2)) | (with_reducible refine Br_split (fun hc => ?_) (fun hc => ?_) <;> (have hc2 := hc; try simp at hc2)) | (with_reducible refine GdT_split (fun hc => ?_) (fun hc => ?_) <;> (have hc2 := hc; try simp at hc2)) | (with_reducible refine WT_alt ?_ ?_) | omega)
    · have : i = ps.length := by omega
      subst this
      rw [lateI_all] at *
      repeat' (first | (simp (disch := first | omega | assumption | (simp only [List.length_set]; omega) | (simp [*] <;> fail) | assumption) [-Bool.decide_and, -Bool.decide_or, -Bool.not_and, -Bool.not_or, toNat_pred, toNat_succ, wrap64, wr_new, wr_new0, ok_if, ok_ifn, iadV_sl, makeV_int, decT, decF, over_at, *, hA.len, hA.at_, hA.at_', hA.rd, hA.rdIn, hA.rdIn0, hA.rdA, hA.rdInA, hA.rdIn0A]) | (with_reducible refine Gd_split (fun hc => ?_) (fun hc => ?_) <;> (have hc2 := hc; try simp at hc2)) | (with_reducible refine Br_split (fun hc => ?_) (fun hc => ?_) <;> (have hc2 := hc; try simp at hc2)) | (with_reducible refine GdT_split (fun hc => ?_) (fun hc => ?_) <;> (have hc2 := hc; try simp at hc2)) | (with_reducible refine WT_alt ?_ ?_) | omega)
  · rw [if_neg hok]
    have hd : decide (isCh (ps.map (·.1))) = false := decide_eq_false hok
    rw [hd] at hc
    refine CallT_pure (F := L63) (HasLt.f63) rfl (by first | rfl | (split <;> rfl) | simp) ?_; unfold L63; dsimp only []
    repeat' (first | (simp (disch := first | omega | assumption | (simp only [List.length_set]; omega) | (simp [*] <;> fail) | assumption) [-Bool.decide_and, -Bool.decide_or, -Bool.not_and, -Bool.not_or, toNat_pred, toNat_succ, wrap64, wr_new, wr_new0, ok_if, ok_ifn, iadV_sl, makeV_int, decT, decF, over_at, *]) | (with_reducible refine Gd_split (fun hc => ?_) (fun hc => ?_) <;> (have hc2 := hc; try simp at hc2)) | (with_reducible refine Br_split (fun hc => ?_) (fun hc => ?_) <;> (have hc2 := hc; try simp at hc2)) | (with_reducible refine GdT_split (fun hc => ?_) (fun hc => ?_) <;> (have hc2 := hc; try simp at hc2)) | (with_reducible refine WT_alt ?_ ?_) | omega)
end
end
end Go.E
