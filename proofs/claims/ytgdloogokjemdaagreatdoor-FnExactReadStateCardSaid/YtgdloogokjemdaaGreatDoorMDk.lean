/- The laws' marks in lists of lists, in effects and in tracks. -/
import Derived.Test.YtgdloogokjemdaaGreatDoorMDm
set_option linter.unusedVariables false
set_option linter.unusedSimpArgs false
namespace Go.E
open Go
def L9 : LFn := ⟨2, (.seq (.reg [⟨(.some 4), (.mv (.c (.lf (.int .i64 0)))), none⟩])
 (.seq (.seq (.reg [⟨(.some 5), (.mv (.c (.lf (.int .i64 0)))), none⟩])
 (.block 0 (.loop (.seq (.seq (.reg [⟨(.some 6), (.mv (.t 5)), none⟩, ⟨(.some 7), (.mv (.t 0)), none⟩, ⟨(.some 8), (.len (.t 7)), none⟩, ⟨(.some 9), (.bin .lss (.t 6) (.t 8)), none⟩])
 (.cond (.t 9) .skip (.exit 0)))
 (.seq (.block 1 (.reg [⟨(.some 12), (.mv (.t 0)), none⟩, ⟨(.some 13), (.mv (.t 5)), none⟩, ⟨(.some 14), (.iaddr 1 (.t 12) (.t 13)), none⟩, ⟨(.some 15), (.load false 1 (.t 14)), none⟩, ⟨(.some 16), (.mv (.t 1)), none⟩, ⟨(.some 17), (.call false 25 [(.t 15), (.t 16)]), none⟩, ⟨(.some 1), (.mv (.t 17)), none⟩]))
 (.reg [⟨(.some 10), (.mv (.t 5)), none⟩, ⟨(.some 11), (.bin .add (.t 10) (.c (.lf (.int .i64 1)))), none⟩, ⟨(.some 5), (.mv (.t 11)), none⟩]))))))
 (.seq (.reg [⟨(.some 18), (.mv (.t 1)), none⟩, ⟨(.some 4), (.mv (.t 18)), none⟩])
 .ret))), [(.tmp 4)]⟩
def L11 : LFn := ⟨2, (.seq (.reg [⟨(.some 4), (.mv (.c (.lf (.int .i64 0)))), none⟩])
 (.seq (.seq (.reg [⟨(.some 5), (.mv (.c (.lf (.int .i64 0)))), none⟩])
 (.block 0 (.loop (.seq (.seq (.reg [⟨(.some 6), (.mv (.t 5)), none⟩, ⟨(.some 7), (.mv (.t 0)), none⟩, ⟨(.some 8), (.len (.t 7)), none⟩, ⟨(.some 9), (.bin .lss (.t 6) (.t 8)), none⟩])
 (.cond (.t 9) .skip (.exit 0)))
 (.seq (.block 1 (.seq (.reg [⟨(.some 12), (.mv (.t 0)), none⟩, ⟨(.some 13), (.mv (.t 5)), none⟩, ⟨(.some 14), (.iaddr 1 (.t 12) (.t 13)), none⟩, ⟨(.some 15), (.load false 1 (.t 14)), none⟩, ⟨(.some 16), (.mv (.t 1)), none⟩, ⟨(.some 17), (.call true 26 [(.t 15), (.t 16)]), none⟩, ⟨(.some 1), (.mv (.t 17)), none⟩])
 (.seq (.reg [⟨(.some 18), (.mv (.t 1)), none⟩, ⟨(.some 19), (.bin .lss (.t 18) (.c (.lf (.int .i64 0)))), none⟩])
 (.cond (.t 19) (.seq (.reg [⟨(.some 4), (.mv (.c (.lf (.int .i64 (-1))))), none⟩])
 .ret) .skip))))
 (.reg [⟨(.some 10), (.mv (.t 5)), none⟩, ⟨(.some 11), (.bin .add (.t 10) (.c (.lf (.int .i64 1)))), none⟩, ⟨(.some 5), (.mv (.t 11)), none⟩]))))))
 (.seq (.reg [⟨(.some 20), (.mv (.t 1)), none⟩, ⟨(.some 4), (.mv (.t 20)), none⟩])
 .ret))), [(.tmp 4)]⟩
class HasKSS (S : Sys) : Prop extends HasF S where
  f9 : S.fs 9 = some L9
  f11 : S.fs 11 = some L11
def L8 : LFn := ⟨2, (.seq (.reg [⟨(.some 4), (.mv (.c (.lf (.int .i64 0)))), none⟩])
 (.seq (.seq (.reg [⟨(.some 5), (.mv (.c (.lf (.int .i64 0)))), none⟩])
 (.block 0 (.loop (.seq (.seq (.reg [⟨(.some 6), (.mv (.t 5)), none⟩, ⟨(.some 7), (.mv (.t 0)), none⟩, ⟨(.some 8), (.len (.t 7)), none⟩, ⟨(.some 9), (.bin .lss (.t 6) (.t 8)), none⟩])
 (.cond (.t 9) .skip (.exit 0)))
 (.seq (.block 1 (.seq (.reg [⟨(.some 12), (.mv (.t 0)), none⟩, ⟨(.some 13), (.mv (.t 5)), none⟩, ⟨(.some 14), (.mv (.t 1)), none⟩, ⟨(.some 15), (.iaddr 3 (.t 12) (.t 13)), none⟩, ⟨(.some 16), (.faddr 0 (.t 15)), none⟩, ⟨none, (.store 1 (.t 16) (.t 14)), none⟩])
 (.seq (.reg [⟨(.some 17), (.mv (.t 1)), none⟩, ⟨(.some 18), (.bin .add (.t 17) (.c (.lf (.int .i64 1)))), none⟩, ⟨(.some 1), (.mv (.t 18)), none⟩])
 (.seq (.reg [⟨(.some 19), (.mv (.t 0)), none⟩, ⟨(.some 20), (.mv (.t 5)), none⟩, ⟨(.some 21), (.mv (.t 1)), none⟩, ⟨(.some 22), (.iaddr 3 (.t 19) (.t 20)), none⟩, ⟨(.some 23), (.faddr 1 (.t 22)), none⟩, ⟨none, (.store 1 (.t 23) (.t 21)), none⟩])
 (.seq (.reg [⟨(.some 24), (.mv (.t 1)), none⟩, ⟨(.some 25), (.bin .add (.t 24) (.c (.lf (.int .i64 1)))), none⟩, ⟨(.some 1), (.mv (.t 25)), none⟩])
 (.reg [⟨(.some 26), (.mv (.t 0)), none⟩, ⟨(.some 27), (.mv (.t 5)), none⟩, ⟨(.some 28), (.iaddr 3 (.t 26) (.t 27)), none⟩, ⟨(.some 29), (.faddr 2 (.t 28)), none⟩, ⟨(.some 30), (.load false 1 (.t 29)), none⟩, ⟨(.some 31), (.mv (.t 1)), none⟩, ⟨(.some 32), (.call false 25 [(.t 30), (.t 31)]), none⟩, ⟨(.some 1), (.mv (.t 32)), none⟩]))))))
 (.reg [⟨(.some 10), (.mv (.t 5)), none⟩, ⟨(.some 11), (.bin .add (.t 10) (.c (.lf (.int .i64 1)))), none⟩, ⟨(.some 5), (.mv (.t 11)), none⟩]))))))
 (.seq (.reg [⟨(.some 33), (.mv (.t 1)), none⟩, ⟨(.some 4), (.mv (.t 33)), none⟩])
 .ret))), [(.tmp 4)]⟩
def L10 : LFn := ⟨2, (.seq (.reg [⟨(.some 4), (.mv (.c (.lf (.int .i64 0)))), none⟩])
 (.seq (.seq (.reg [⟨(.some 5), (.mv (.c (.lf (.int .i64 0)))), none⟩])
 (.block 0 (.loop (.seq (.seq (.reg [⟨(.some 6), (.mv (.t 5)), none⟩, ⟨(.some 7), (.mv (.t 0)), none⟩, ⟨(.some 8), (.len (.t 7)), none⟩, ⟨(.some 9), (.bin .lss (.t 6) (.t 8)), none⟩])
 (.cond (.t 9) .skip (.exit 0)))
 (.seq (.block 1 (.seq (.seq (.reg [⟨(.some 12), (.mv (.t 0)), none⟩, ⟨(.some 13), (.mv (.t 5)), none⟩, ⟨(.some 14), (.iaddr 3 (.t 12) (.t 13)), none⟩, ⟨(.some 15), (.faddr 0 (.t 14)), none⟩, ⟨(.some 16), (.load false 1 (.t 15)), none⟩, ⟨(.some 17), (.mv (.t 1)), none⟩, ⟨(.some 18), (.bin .neq (.t 16) (.t 17)), none⟩])
 (.cond (.t 18) (.seq (.reg [⟨(.some 4), (.mv (.c (.lf (.int .i64 (-1))))), none⟩])
 .ret) .skip))
 (.seq (.reg [⟨(.some 19), (.mv (.t 1)), none⟩, ⟨(.some 20), (.bin .add (.t 19) (.c (.lf (.int .i64 1)))), none⟩, ⟨(.some 1), (.mv (.t 20)), none⟩])
 (.seq (.seq (.reg [⟨(.some 21), (.mv (.t 0)), none⟩, ⟨(.some 22), (.mv (.t 5)), none⟩, ⟨(.some 23), (.iaddr 3 (.t 21) (.t 22)), none⟩, ⟨(.some 24), (.faddr 1 (.t 23)), none⟩, ⟨(.some 25), (.load false 1 (.t 24)), none⟩, ⟨(.some 26), (.mv (.t 1)), none⟩, ⟨(.some 27), (.bin .neq (.t 25) (.t 26)), none⟩])
 (.cond (.t 27) (.seq (.reg [⟨(.some 4), (.mv (.c (.lf (.int .i64 (-1))))), none⟩])
 .ret) .skip))
 (.seq (.reg [⟨(.some 28), (.mv (.t 1)), none⟩, ⟨(.some 29), (.bin .add (.t 28) (.c (.lf (.int .i64 1)))), none⟩, ⟨(.some 1), (.mv (.t 29)), none⟩])
 (.seq (.reg [⟨(.some 30), (.mv (.t 0)), none⟩, ⟨(.some 31), (.mv (.t 5)), none⟩, ⟨(.some 32), (.iaddr 3 (.t 30) (.t 31)), none⟩, ⟨(.some 33), (.faddr 2 (.t 32)), none⟩, ⟨(.some 34), (.load false 1 (.t 33)), none⟩, ⟨(.some 35), (.mv (.t 1)), none⟩, ⟨(.some 36), (.call true 26 [(.t 34), (.t 35)]), none⟩, ⟨(.some 1), (.mv (.t 36)), none⟩])
 (.seq (.reg [⟨(.some 37), (.mv (.t 1)), none⟩, ⟨(.some 38), (.bin .lss (.t 37) (.c (.lf (.int .i64 0)))), none⟩])
 (.cond (.t 38) (.seq (.reg [⟨(.some 4), (.mv (.c (.lf (.int .i64 (-1))))), none⟩])
 .ret) .skip))))))))
 (.reg [⟨(.some 10), (.mv (.t 5)), none⟩, ⟨(.some 11), (.bin .add (.t 10) (.c (.lf (.int .i64 1)))), none⟩, ⟨(.some 5), (.mv (.t 11)), none⟩]))))))
 (.seq (.reg [⟨(.some 39), (.mv (.t 1)), none⟩, ⟨(.some 4), (.mv (.t 39)), none⟩])
 .ret))), [(.tmp 4)]⟩
class HasKE (S : Sys) : Prop extends HasF S where
  f8 : S.fs 8 = some L8
  f10 : S.fs 10 = some L10

class HasKT (S : Sys) : Prop extends HasF S where

def mkSS (k : Int) (a : List Nat) : List Nat := mkN k a.length
def mkE (k : Int) (a : Eff) : Eff := ⟨k, k + 1, mkN (k + 2) a.nums.length⟩
section
variable {S : Sys} {lim : Nat} {h : Hp} {K : CV → Hp → Prop} {l : Lf} {k : Int}
section
variable [HasKSS S] {ps : List (List Nat × Lf)}
theorem c_heldFloat32SS (hA : Arr h l 1 ((mkD mkSS ssRows 0 k ps ps.length).map ssCells)) (hI : In h ssRows (mkD mkSS ssRows 0 k ps ps.length)) (h0 : 0 ≤ k) (h1 : kAt ssRows 0 k ps ps.length ≤ 1099511627776) (hn : ps.length ≤ 16777216) (hn2 : szD ssRows ps ≤ 16777216) :
    CallT S true 11 [.lf l, .lf (.int .i64 k)] h lim K = K (.lf (.int .i64 (kAt ssRows 0 k ps ps.length))) h := by
  refine CallT_pure (F := L11) (HasKSS.f11) rfl (by first | rfl | (split <;> rfl) | simp) ?_; unfold L11; dsimp only []
  repeat' (first | (simp (disch := first | omega | assumption | (simp only [List.length_set]; omega) | (simp [*] <;> fail) | assumption) [-Bool.decide_and, -Bool.decide_or, -Bool.not_and, -Bool.not_or, toNat_pred, toNat_succ, wrap64, wr_new, wr_new0, ok_if, ok_ifn, iadV_sl, makeV_int, decT, decF, over_at, *, hA.len, mkD_len]) | (with_reducible refine Gd_split (fun hc => ?_) (fun hc => ?_) <;> (have hc2 := hc; try simp at hc2)) | (with_reducible refine Br_split (fun hc => ?_) (fun hc => ?_) <;> (have hc2 := hc; try simp at hc2)) | (with_reducible refine GdT_split (fun hc => ?_) (fun hc => ?_) <;> (have hc2 := hc; try simp at hc2)) | (with_reducible refine WT_alt ?_ ?_) | omega)
  refine WL_forM 1048562 (by decide +kernel) (ps.length) (fun i b g => i ≤ ps.length ∧ b 5 = .lf (.int .i64 i) ∧ b 1 = .lf (.int .i64 (kAt ssRows 0 k ps i)) ∧ h = g) (fun _ _ _ hi => hi.1) ⟨by omega, by simp, by simp [kAt_zero], rfl⟩ ?_
  rintro i b g ⟨hi, e5, e1, rfl⟩
  by_cases hlt : i < ps.length
  · have hQ : i < (mkD mkSS ssRows 0 k ps ps.length).length := by rw [mkD_len]; exact hlt
    have hg := mkD_lt (mk := mkSS) (ro := ssRows) (c := 0) (k := k) hlt (Nat.le_refl _) hlt
    have hks := kAt_succ (ro := ssRows) (c := 0) (k := k) hlt
    have hkl := kAt_le (ro := ssRows) (c := 0) (k := k) hi
    have hle := szD_get (ro := ssRows) hlt
    have hin := hI i hQ
    have hrd := hA.rd1 hQ
    have hat := hA.at_ (k := .i64) hQ
    rw [hg] at hin hrd
    simp only [mkSS, ssRows, mkN_fl, ssCells] at hin hrd
    simp only [ssRows] at hks hle
    have hh := fun K lim => c_heldFloat32S (S := S) (h := h) (lim := lim) (K := K) hin (by omega) (by omega) (by omega)
    repeat' (first | (simp (disch := first | omega | assumption | (simp only [List.length_set]; omega) | (simp [*] <;> fail) | assumption) [-Bool.decide_and, -Bool.decide_or, -Bool.not_and, -Bool.not_or, toNat_pred, toNat_succ, wrap64, wr_new, wr_new0, ok_if, ok_ifn, iadV_sl, makeV_int, decT, decF, over_at, *, hA.len, mkD_len]) | (with_reducible refine Gd_split (fun hc => ?_) (fun hc => ?_) <;> (have hc2 := hc; try simp at hc2)) | (with_reducible refine Br_split (fun hc => ?_) (fun hc => ?_) <;> (have hc2 := hc; try simp at hc2)) | (with_reducible refine GdT_split (fun hc => ?_) (fun hc => ?_) <;> (have hc2 := hc; try simp at hc2)) | (with_reducible refine WT_alt ?_ ?_) | omega)
    all_goals omega
  · have : i = ps.length := by omega
    subst this
    repeat' (first | (simp (disch := first | omega | assumption | (simp only [List.length_set]; omega) | (simp [*] <;> fail) | assumption) [-Bool.decide_and, -Bool.decide_or, -Bool.not_and, -Bool.not_or, toNat_pred, toNat_succ, wrap64, wr_new, wr_new0, ok_if, ok_ifn, iadV_sl, makeV_int, decT, decF, over_at, *, hA.len, mkD_len]) | (with_reducible refine Gd_split (fun hc => ?_) (fun hc => ?_) <;> (have hc2 := hc; try simp at hc2)) | (with_reducible refine Br_split (fun hc => ?_) (fun hc => ?_) <;> (have hc2 := hc; try simp at hc2)) | (with_reducible refine GdT_split (fun hc => ?_) (fun hc => ?_) <;> (have hc2 := hc; try simp at hc2)) | (with_reducible refine WT_alt ?_ ?_) | omega)
theorem c_markFloat32SS {g : Hp} (hN : NewD h g l 35 1 ssCells ssRows 51 ps) (h0 : 0 ≤ k) (h1 : kAt ssRows 0 k ps ps.length ≤ 1099511627776) (hn : ps.length ≤ 16777216) (hn2 : szD ssRows ps ≤ 16777216) (hl : lim ≤ h.length)
    (hK : ∀ g', NewD h g' l 35 1 ssCells ssRows 51 (mkD mkSS ssRows 0 k ps ps.length) → Buts g g' (lvs l ps) → K (.lf (.int .i64 (kAt ssRows 0 k ps ps.length))) g') : CallT S false 9 [.lf l, .lf (.int .i64 k)] g lim K := by
  refine CallT_of_body (F := L9) (HasKSS.f9) rfl ?_; unfold L9; dsimp only []
  repeat' (first | (simp (disch := first | omega | assumption | (simp only [List.length_set]; omega) | (simp [*] <;> fail) | assumption) [-Bool.decide_and, -Bool.decide_or, -Bool.not_and, -Bool.not_or, toNat_pred, toNat_succ, wrap64, wr_new, wr_new0, ok_if, ok_ifn, iadV_sl, makeV_int, decT, decF, over_at, *, hN.arr.len]) | (with_reducible refine Gd_split (fun hc => ?_) (fun hc => ?_) <;> (have hc2 := hc; try simp at hc2)) | (with_reducible refine Br_split (fun hc => ?_) (fun hc => ?_) <;> (have hc2 := hc; try simp at hc2)) | (with_reducible refine GdT_split (fun hc => ?_) (fun hc => ?_) <;> (have hc2 := hc; try simp at hc2)) | (with_reducible refine WT_alt ?_ ?_) | omega)
  refine WL_forM 262114 (by decide +kernel) (ps.length) (fun i b g' => i ≤ ps.length ∧ b 5 = .lf (.int .i64 i) ∧ b 1 = .lf (.int .i64 (kAt ssRows 0 k ps i)) ∧ NewD h g' l 35 1 ssCells ssRows 51 (mkD mkSS ssRows 0 k ps i) ∧ Buts g g' (lvs l ps)) (fun _ _ _ hi => hi.1) ⟨by omega, by simp, by simp [kAt_zero], hN, Buts.refl⟩ ?_
  rintro i b g' ⟨hi, e5, e1, hD, hB⟩
  have hA := hD.arr.len
  rw [mkD_len] at hA
  by_cases hlt : i < ps.length
  · have hQ : i < (mkD mkSS ssRows 0 k ps i).length := by rw [mkD_len]; exact hlt
    have hg := mkD_ge (mk := mkSS) (ro := ssRows) (c := 0) (k := k) (i := i) hlt (Nat.le_refl _)
    have hks := kAt_succ (ro := ssRows) (c := 0) (k := k) hlt
    have hkl := kAt_le (ro := ssRows) (c := 0) (k := k) hi
    have hle := szD_get (ro := ssRows) hlt
    have hin := hD.inn _ (List.getElem_mem hQ)
    have hrd := hD.arr.rd1 hQ
    have hat := hD.arr.at_ (k := .i64) hQ
    rw [hg] at hin hrd
    simp only [ssRows, ssCells] at hin hrd
    simp only [ssRows] at hks hle
    have hms := mkD_succ (mk := mkSS) (ro := ssRows) (c := 0) (k := k) hlt
    clear hK
    repeat' (first | (simp (disch := first | omega | assumption | (simp only [List.length_set]; omega) | (simp [*] <;> fail) | assumption) [-Bool.decide_and, -Bool.decide_or, -Bool.not_and, -Bool.not_or, toNat_pred, toNat_succ, wrap64, wr_new, wr_new0, ok_if, ok_ifn, iadV_sl, makeV_int, decT, decF, over_at, *]) | (with_reducible refine Gd_split (fun hc => ?_) (fun hc => ?_) <;> (have hc2 := hc; try simp at hc2)) | (with_reducible refine Br_split (fun hc => ?_) (fun hc => ?_) <;> (have hc2 := hc; try simp at hc2)) | (with_reducible refine GdT_split (fun hc => ?_) (fun hc => ?_) <;> (have hc2 := hc; try simp at hc2)) | (with_reducible refine WT_alt ?_ ?_) | omega)
    refine c_markFloat32S hin (by simp; omega) (by omega) (by omega) hl fun g2 hM hC => ?_
    simp only [List.length_map] at hM
    have hM' : New h g2 (mkD mkSS ssRows 0 k ps i)[i].2 51 1 ((ssRows (mkSS (kAt ssRows 0 k ps i) ps[i].1)).map fl) := by
      rw [hg]; simp only [ssRows, mkSS, mkN_fl]; exact hM
    have hP := hD.put hQ hM' (by rw [hg]; exact hC) (by rw [hg]; rfl)
    rw [hg, ← hms] at hP
    have hB2 := hB.but hC (lvs_get hlt)
    clear hms hin hM hM'
    repeat' (first | (simp (disch := first | omega | assumption | (simp only [List.length_set]; omega) | (simp [*] <;> fail) | assumption) [-Bool.decide_and, -Bool.decide_or, -Bool.not_and, -Bool.not_or, toNat_pred, toNat_succ, wrap64, wr_new, wr_new0, ok_if, ok_ifn, iadV_sl, makeV_int, decT, decF, over_at, *]) | (with_reducible refine Gd_split (fun hc => ?_) (fun hc => ?_) <;> (have hc2 := hc; try simp at hc2)) | (with_reducible refine Br_split (fun hc => ?_) (fun hc => ?_) <;> (have hc2 := hc; try simp at hc2)) | (with_reducible refine GdT_split (fun hc => ?_) (fun hc => ?_) <;> (have hc2 := hc; try simp at hc2)) | (with_reducible refine WT_alt ?_ ?_) | omega)
    all_goals omega
  · have : i = ps.length := by omega
    subst this
    repeat' (first | (simp (disch := first | omega | assumption | (simp only [List.length_set]; omega) | (simp [*] <;> fail) | assumption) [-Bool.decide_and, -Bool.decide_or, -Bool.not_and, -Bool.not_or, toNat_pred, toNat_succ, wrap64, wr_new, wr_new0, ok_if, ok_ifn, iadV_sl, makeV_int, decT, decF, over_at, *]) | (with_reducible refine Gd_split (fun hc => ?_) (fun hc => ?_) <;> (have hc2 := hc; try simp at hc2)) | (with_reducible refine Br_split (fun hc => ?_) (fun hc => ?_) <;> (have hc2 := hc; try simp at hc2)) | (with_reducible refine GdT_split (fun hc => ?_) (fun hc => ?_) <;> (have hc2 := hc; try simp at hc2)) | (with_reducible refine WT_alt ?_ ?_) | omega)
    all_goals exact hK _ hD hB
end
section
variable [HasKE S] {ps : List (Eff × Lf)}
set_option maxHeartbeats 1000000 in
theorem c_heldEffectS (hA : Arr h l 3 ((mkD mkE Eff.nums 2 k ps ps.length).map Eff.cells)) (hI : In h Eff.nums (mkD mkE Eff.nums 2 k ps ps.length)) (h0 : 0 ≤ k) (h1 : kAt Eff.nums 2 k ps ps.length ≤ 1099511627776) (hn : ps.length ≤ 16777216) (hn2 : szD Eff.nums ps ≤ 16777216) :
    CallT S true 10 [.lf l, .lf (.int .i64 k)] h lim K = K (.lf (.int .i64 (kAt Eff.nums 2 k ps ps.length))) h := by
  refine CallT_pure (F := L10) (HasKE.f10) rfl (by first | rfl | (split <;> rfl) | simp) ?_; unfold L10; dsimp only []
  repeat' (first | (simp (disch := first | omega | assumption | (simp only [List.length_set]; omega) | (simp [*] <;> fail) | assumption) [-Bool.decide_and, -Bool.decide_or, -Bool.not_and, -Bool.not_or, toNat_pred, toNat_succ, wrap64, wr_new, wr_new0, ok_if, ok_ifn, iadV_sl, makeV_int, decT, decF, over_at, *, hA.len, mkD_len]) | (with_reducible refine Gd_split (fun hc => ?_) (fun hc => ?_) <;> (have hc2 := hc; try simp at hc2)) | (with_reducible refine Br_split (fun hc => ?_) (fun hc => ?_) <;> (have hc2 := hc; try simp at hc2)) | (with_reducible refine GdT_split (fun hc => ?_) (fun hc => ?_) <;> (have hc2 := hc; try simp at hc2)) | (with_reducible refine WT_alt ?_ ?_) | omega)
  refine WL_forM 549755813874 (by decide +kernel) (ps.length) (fun i b g => i ≤ ps.length ∧ b 5 = .lf (.int .i64 i) ∧ b 1 = .lf (.int .i64 (kAt Eff.nums 2 k ps i)) ∧ h = g) (fun _ _ _ hi => hi.1) ⟨by omega, by simp, by simp [kAt_zero], rfl⟩ ?_
  rintro i b g ⟨hi, e5, e1, rfl⟩
  by_cases hlt : i < ps.length
  · have hQ : i < (mkD mkE Eff.nums 2 k ps ps.length).length := by rw [mkD_len]; exact hlt
    have hg := mkD_lt (mk := mkE) (ro := Eff.nums) (c := 2) (k := k) hlt (Nat.le_refl _) hlt
    have hks := kAt_succ (ro := Eff.nums) (c := 2) (k := k) hlt
    have hkl := kAt_le (ro := Eff.nums) (c := 2) (k := k) hi
    have hkl2 := kAt_le (ro := Eff.nums) (c := 2) (k := k) (i := i + 1) hlt
    have hle := szD_get (ro := Eff.nums) hlt
    have hin := hI i hQ
    have r0 := hA.rdIn0 (m := 1) hQ (by omega)
    have r1 := hA.rdIn (j := 1) (m := 1) hQ (by omega)
    have r2 := hA.rdIn (j := 2) (m := 1) hQ (by omega)
    have hat := hA.at_ (k := .i64) hQ
    rw [hg] at hin r0 r1 r2
    simp only [mkE, mkN_fl, Eff.cells, List.drop_zero, List.drop_succ_cons, List.take_succ_cons, List.take_zero] at hin r0 r1 r2
    have hh := fun K lim => c_heldFloat32S (S := S) (h := h) (lim := lim) (K := K) hin (by omega) (by omega) (by omega)
    generalize kAt Eff.nums 2 k ps i = q at *
    have e2 : q + 1 + 1 = q + 2 := by omega
    repeat' (first | (simp (disch := first | omega | assumption | (simp only [List.length_set]; omega) | (simp [*] <;> fail) | assumption) [-Bool.decide_and, -Bool.decide_or, -Bool.not_and, -Bool.not_or, toNat_pred, toNat_succ, wrap64, wr_new, wr_new0, ok_if, ok_ifn, iadV_sl, makeV_int, decT, decF, over_at, *, hA.len, mkD_len]) | (with_reducible refine Gd_split (fun hc => ?_) (fun hc => ?_) <;> (have hc2 := hc; try simp at hc2)) | (with_reducible refine Br_split (fun hc => ?_) (fun hc => ?_) <;> (have hc2 := hc; try simp at hc2)) | (with_reducible refine GdT_split (fun hc => ?_) (fun hc => ?_) <;> (have hc2 := hc; try simp at hc2)) | (with_reducible refine WT_alt ?_ ?_) | omega)
    all_goals omega
  · have : i = ps.length := by omega
    subst this
    repeat' (first | (simp (disch := first | omega | assumption | (simp only [List.length_set]; omega) | (simp [*] <;> fail) | assumption) [-Bool.decide_and, -Bool.decide_or, -Bool.not_and, -Bool.not_or, toNat_pred, toNat_succ, wrap64, wr_new, wr_new0, ok_if, ok_ifn, iadV_sl, makeV_int, decT, decF, over_at, *, hA.len, mkD_len]) | (with_reducible refine Gd_split (fun hc => ?_) (fun hc => ?_) <;> (have hc2 := hc; try simp at hc2)) | (with_reducible refine Br_split (fun hc => ?_) (fun hc => ?_) <;> (have hc2 := hc; try simp at hc2)) | (with_reducible refine GdT_split (fun hc => ?_) (fun hc => ?_) <;> (have hc2 := hc; try simp at hc2)) | (with_reducible refine WT_alt ?_ ?_) | omega)
set_option maxHeartbeats 1000000 in
theorem c_markEffectS {g : Hp} (hN : NewD h g l 44 3 Eff.cells Eff.nums 51 ps) (h0 : 0 ≤ k) (h1 : kAt Eff.nums 2 k ps ps.length ≤ 1099511627776) (hn : ps.length ≤ 16777216) (hn2 : szD Eff.nums ps ≤ 16777216) (hl : lim ≤ h.length)
    (hK : ∀ g', NewD h g' l 44 3 Eff.cells Eff.nums 51 (mkD mkE Eff.nums 2 k ps ps.length) → Buts g g' (lvs l ps) → K (.lf (.int .i64 (kAt Eff.nums 2 k ps ps.length))) g') : CallT S false 8 [.lf l, .lf (.int .i64 k)] g lim K := by
  refine CallT_of_body (F := L8) (HasKE.f8) rfl ?_; unfold L8; dsimp only []
  repeat' (first | (simp (disch := first | omega | assumption | (simp only [List.length_set]; omega) | (simp [*] <;> fail) | assumption) [-Bool.decide_and, -Bool.decide_or, -Bool.not_and, -Bool.not_or, toNat_pred, toNat_succ, wrap64, wr_new, wr_new0, ok_if, ok_ifn, iadV_sl, makeV_int, decT, decF, over_at, *, hN.arr.len]) | (with_reducible refine Gd_split (fun hc => ?_) (fun hc => ?_) <;> (have hc2 := hc; try simp at hc2)) | (with_reducible refine Br_split (fun hc => ?_) (fun hc => ?_) <;> (have hc2 := hc; try simp at hc2)) | (with_reducible refine GdT_split (fun hc => ?_) (fun hc => ?_) <;> (have hc2 := hc; try simp at hc2)) | (with_reducible refine WT_alt ?_ ?_) | omega)
  refine WL_forM 8589934562 (by decide +kernel) (ps.length) (fun i b g' => i ≤ ps.length ∧ b 5 = .lf (.int .i64 i) ∧ b 1 = .lf (.int .i64 (kAt Eff.nums 2 k ps i)) ∧ NewD h g' l 44 3 Eff.cells Eff.nums 51 (mkD mkE Eff.nums 2 k ps i) ∧ Buts g g' (lvs l ps)) (fun _ _ _ hi => hi.1) ⟨by omega, by simp, by simp [kAt_zero], hN, Buts.refl⟩ ?_
  rintro i b g' ⟨hi, e5, e1, hD, hB⟩
  have hA := hD.arr.len
  rw [mkD_len] at hA
  by_cases hlt : i < ps.length
  · have hms := mkD_succ (mk := mkE) (ro := Eff.nums) (c := 2) (k := k) hlt
    obtain ⟨M, hM0⟩ : ∃ M, mkD mkE Eff.nums 2 k ps i = M := ⟨_, rfl⟩
    have hQ : i < M.length := by rw [← hM0, mkD_len]; exact hlt
    have hg : M[i] = ps[i] := by subst hM0; exact mkD_ge (mk := mkE) (ro := Eff.nums) (c := 2) (k := k) (i := i) hlt (Nat.le_refl _)
    rw [hM0] at hD hms
    clear hM0
    have hks := kAt_succ (ro := Eff.nums) (c := 2) (k := k) hlt
    have hkl := kAt_le (ro := Eff.nums) (c := 2) (k := k) hi
    have hkl2 := kAt_le (ro := Eff.nums) (c := 2) (k := k) (i := i + 1) hlt
    have hle := szD_get (ro := Eff.nums) hlt
    have hat := hD.arr.at_ (k := .i64) hQ
    have hlv := lvs_get (l := l) hlt
    clear hK
    generalize hq : kAt Eff.nums 2 k ps i = q at *
    repeat' (first | (simp (disch := first | omega | assumption | (simp only [List.length_set]; omega) | (simp [*] <;> fail) | assumption) [-Bool.decide_and, -Bool.decide_or, -Bool.not_and, -Bool.not_or, toNat_pred, toNat_succ, wrap64, wr_new, wr_new0, ok_if, ok_ifn, iadV_sl, makeV_int, decT, decF, over_at, *]) | (with_reducible refine Gd_split (fun hc => ?_) (fun hc => ?_) <;> (have hc2 := hc; try simp at hc2)) | (with_reducible refine Br_split (fun hc => ?_) (fun hc => ?_) <;> (have hc2 := hc; try simp at hc2)) | (with_reducible refine GdT_split (fun hc => ?_) (fun hc => ?_) <;> (have hc2 := hc; try simp at hc2)) | (with_reducible refine WT_alt ?_ ?_) | omega)
    refine hD.cell0 (a := ⟨q, ps[i].1.len, ps[i].1.nums⟩) hQ (by rw [hg]; rfl) (by rw [hg]) (by omega) hl fun g1 hD1 hB1 => ?_
    rw [hg] at hD1
    have hA1 := hD1.arr.len
    have hat1 := hD1.arr.at_ (k := .i64) (i := i) (by simpa using hQ)
    rw [List.length_set] at hA1
    have hBa := hB.but hB1 lvs_head
    clear hat hB hB1 hD hA
    repeat' (first | (simp (disch := first | omega | assumption | (simp only [List.length_set]; omega) | (simp [*] <;> fail) | assumption) [-Bool.decide_and, -Bool.decide_or, -Bool.not_and, -Bool.not_or, toNat_pred, toNat_succ, wrap64, wr_new, wr_new0, ok_if, ok_ifn, iadV_sl, makeV_int, decT, decF, over_at, *]) | (with_reducible refine Gd_split (fun hc => ?_) (fun hc => ?_) <;> (have hc2 := hc; try simp at hc2)) | (with_reducible refine Br_split (fun hc => ?_) (fun hc => ?_) <;> (have hc2 := hc; try simp at hc2)) | (with_reducible refine GdT_split (fun hc => ?_) (fun hc => ?_) <;> (have hc2 := hc; try simp at hc2)) | (with_reducible refine WT_alt ?_ ?_) | omega)
    refine hD1.cell (off := 1) (a := ⟨q, q + 1, ps[i].1.nums⟩) (by simpa using hQ) (by simp [Eff.cells]) (by simp) (by omega) hl fun g2 hD2 hB2 => ?_
    simp only [List.set_set, List.getElem_set_self] at hD2
    have hBb := hBa.but hB2 lvs_head
    have hA2 := hD2.arr.len
    have hat2 := hD2.arr.at_ (k := .i64) (i := i) (by simpa using hQ)
    have r2 := hD2.arr.rdIn (i := i) (j := 2) (m := 1) (by simpa using hQ) (by omega)
    have hin := hD2.inn _ (List.getElem_mem (n := i) (by simpa using hQ))
    simp only [List.getElem_set_self, hg, Eff.cells, List.drop_zero, List.drop_succ_cons, List.take_succ_cons, List.take_zero] at r2 hin
    rw [List.length_set] at hA2
    clear hat1 hA1 hBa hB2 hD1
    repeat' (first | (simp (disch := first | omega | assumption | (simp only [List.length_set]; omega) | (simp [*] <;> fail) | assumption) [-Bool.decide_and, -Bool.decide_or, -Bool.not_and, -Bool.not_or, toNat_pred, toNat_succ, wrap64, wr_new, wr_new0, ok_if, ok_ifn, iadV_sl, makeV_int, decT, decF, over_at, *]) | (with_reducible refine Gd_split (fun hc => ?_) (fun hc => ?_) <;> (have hc2 := hc; try simp at hc2)) | (with_reducible refine Br_split (fun hc => ?_) (fun hc => ?_) <;> (have hc2 := hc; try simp at hc2)) | (with_reducible refine GdT_split (fun hc => ?_) (fun hc => ?_) <;> (have hc2 := hc; try simp at hc2)) | (with_reducible refine WT_alt ?_ ?_) | omega)
    refine c_markFloat32S hin (by simp; omega) (by omega) (by omega) hl fun g3 hN3 hB3 => ?_
    simp only [List.length_map] at hN3
    have hM' : New h g3 ((M.set i (⟨q, q + 1, ps[i].1.nums⟩, ps[i].2))[i]'(by simpa using hQ)).2 51 1 ((Eff.nums (mkE q ps[i].1)).map fl) := by
      rw [List.getElem_set_self]; simp only [mkE, mkN_fl]
      have e2 : q + 1 + 1 = q + 2 := by omega
      rw [e2] at hN3; exact hN3
    have hP := hD2.put (by simpa using hQ) hM' (by simp only [List.getElem_set_self]; exact hB3) (by simp only [List.getElem_set_self]; rfl)
    simp only [List.getElem_set_self, List.set_set] at hP
    rw [← hms] at hP
    have hBc := hBb.but hB3 hlv
    clear hms hin hM' hN3 hat2 hA2 r2 hBb hB3 hD2
    repeat' (first | (simp (disch := first | omega | assumption | (simp only [List.length_set]; omega) | (simp [*] <;> fail) | assumption) [-Bool.decide_and, -Bool.decide_or, -Bool.not_and, -Bool.not_or, toNat_pred, toNat_succ, wrap64, wr_new, wr_new0, ok_if, ok_ifn, iadV_sl, makeV_int, decT, decF, over_at, *]) | (with_reducible refine Gd_split (fun hc => ?_) (fun hc => ?_) <;> (have hc2 := hc; try simp at hc2)) | (with_reducible refine Br_split (fun hc => ?_) (fun hc => ?_) <;> (have hc2 := hc; try simp at hc2)) | (with_reducible refine GdT_split (fun hc => ?_) (fun hc => ?_) <;> (have hc2 := hc; try simp at hc2)) | (with_reducible refine WT_alt ?_ ?_) | omega)
    all_goals omega
  · have : i = ps.length := by omega
    subst this
    repeat' (first | (simp (disch := first | omega | assumption | (simp only [List.length_set]; omega) | (simp [*] <;> fail) | assumption) [-Bool.decide_and, -Bool.decide_or, -Bool.not_and, -Bool.not_or, toNat_pred, toNat_succ, wrap64, wr_new, wr_new0, ok_if, ok_ifn, iadV_sl, makeV_int, decT, decF, over_at, *]) | (with_reducible refine Gd_split (fun hc => ?_) (fun hc => ?_) <;> (have hc2 := hc; try simp at hc2)) | (with_reducible refine Br_split (fun hc => ?_) (fun hc => ?_) <;> (have hc2 := hc; try simp at hc2)) | (with_reducible refine GdT_split (fun hc => ?_) (fun hc => ?_) <;> (have hc2 := hc; try simp at hc2)) | (with_reducible refine WT_alt ?_ ?_) | omega)
    all_goals exact hK _ hD hB
end
end
end Go.E
