/- The laws' marks in lists of lists, in effects and in tracks. -/
import Derived.Test.YtclbkfmelhheaaaMDm
set_option linter.unusedVariables false
set_option linter.unusedSimpArgs false
namespace Go.E
open Go
def L46 : LFn := ⟨2, (.seq (.reg [⟨(.some 4), (.mv (.c (.lf (.int .i64 0)))), none⟩])
 (.seq (.seq (.reg [⟨(.some 5), (.mv (.c (.lf (.int .i64 0)))), none⟩])
 (.block 0 (.loop (.seq (.seq (.reg [⟨(.some 6), (.mv (.t 5)), none⟩, ⟨(.some 7), (.mv (.t 0)), none⟩, ⟨(.some 8), (.len (.t 7)), none⟩, ⟨(.some 9), (.bin .lss (.t 6) (.t 8)), none⟩])
 (.cond (.t 9) .skip (.exit 0)))
 (.seq (.block 1 (.reg [⟨(.some 12), (.mv (.t 0)), none⟩, ⟨(.some 13), (.mv (.t 5)), none⟩, ⟨(.some 14), (.iaddr 1 (.t 12) (.t 13)), none⟩, ⟨(.some 15), (.load false 1 (.t 14)), none⟩, ⟨(.some 16), (.mv (.t 1)), none⟩, ⟨(.some 17), (.call false 17 [(.t 15), (.t 16)]), none⟩, ⟨(.some 1), (.mv (.t 17)), none⟩]))
 (.reg [⟨(.some 10), (.mv (.t 5)), none⟩, ⟨(.some 11), (.bin .add (.t 10) (.c (.lf (.int .i64 1)))), none⟩, ⟨(.some 5), (.mv (.t 11)), none⟩]))))))
 (.seq (.reg [⟨(.some 18), (.mv (.t 1)), none⟩, ⟨(.some 4), (.mv (.t 18)), none⟩])
 .ret))), [(.tmp 4)]⟩
def L47 : LFn := ⟨2, (.seq (.reg [⟨(.some 4), (.mv (.c (.lf (.int .i64 0)))), none⟩])
 (.seq (.seq (.reg [⟨(.some 5), (.mv (.c (.lf (.int .i64 0)))), none⟩])
 (.block 0 (.loop (.seq (.seq (.reg [⟨(.some 6), (.mv (.t 5)), none⟩, ⟨(.some 7), (.mv (.t 0)), none⟩, ⟨(.some 8), (.len (.t 7)), none⟩, ⟨(.some 9), (.bin .lss (.t 6) (.t 8)), none⟩])
 (.cond (.t 9) .skip (.exit 0)))
 (.seq (.block 1 (.seq (.reg [⟨(.some 12), (.mv (.t 0)), none⟩, ⟨(.some 13), (.mv (.t 5)), none⟩, ⟨(.some 14), (.iaddr 1 (.t 12) (.t 13)), none⟩, ⟨(.some 15), (.load false 1 (.t 14)), none⟩, ⟨(.some 16), (.mv (.t 1)), none⟩, ⟨(.some 17), (.call true 18 [(.t 15), (.t 16)]), none⟩, ⟨(.some 1), (.mv (.t 17)), none⟩])
 (.seq (.reg [⟨(.some 18), (.mv (.t 1)), none⟩, ⟨(.some 19), (.bin .lss (.t 18) (.c (.lf (.int .i64 0)))), none⟩])
 (.cond (.t 19) (.seq (.reg [⟨(.some 4), (.mv (.c (.lf (.int .i64 (-1))))), none⟩])
 .ret) .skip))))
 (.reg [⟨(.some 10), (.mv (.t 5)), none⟩, ⟨(.some 11), (.bin .add (.t 10) (.c (.lf (.int .i64 1)))), none⟩, ⟨(.some 5), (.mv (.t 11)), none⟩]))))))
 (.seq (.reg [⟨(.some 20), (.mv (.t 1)), none⟩, ⟨(.some 4), (.mv (.t 20)), none⟩])
 .ret))), [(.tmp 4)]⟩
class HasKSS (S : Sys) : Prop extends HasF S where
  f46 : S.fs 46 = some L46
  f47 : S.fs 47 = some L47
def L171 : LFn := ⟨2, (.seq (.reg [⟨(.some 4), (.mv (.c (.lf (.int .i64 0)))), none⟩])
 (.seq (.seq (.reg [⟨(.some 5), (.mv (.c (.lf (.int .i64 0)))), none⟩])
 (.block 0 (.loop (.seq (.seq (.reg [⟨(.some 6), (.mv (.t 5)), none⟩, ⟨(.some 7), (.mv (.t 0)), none⟩, ⟨(.some 8), (.len (.t 7)), none⟩, ⟨(.some 9), (.bin .lss (.t 6) (.t 8)), none⟩])
 (.cond (.t 9) .skip (.exit 0)))
 (.seq (.block 1 (.seq (.reg [⟨(.some 12), (.mv (.t 0)), none⟩, ⟨(.some 13), (.mv (.t 5)), none⟩, ⟨(.some 14), (.mv (.t 1)), none⟩, ⟨(.some 15), (.iaddr 3 (.t 12) (.t 13)), none⟩, ⟨(.some 16), (.faddr 0 (.t 15)), none⟩, ⟨none, (.store 1 (.t 16) (.t 14)), none⟩])
 (.seq (.reg [⟨(.some 17), (.mv (.t 1)), none⟩, ⟨(.some 18), (.bin .add (.t 17) (.c (.lf (.int .i64 1)))), none⟩, ⟨(.some 1), (.mv (.t 18)), none⟩])
 (.seq (.reg [⟨(.some 19), (.mv (.t 0)), none⟩, ⟨(.some 20), (.mv (.t 5)), none⟩, ⟨(.some 21), (.mv (.t 1)), none⟩, ⟨(.some 22), (.iaddr 3 (.t 19) (.t 20)), none⟩, ⟨(.some 23), (.faddr 1 (.t 22)), none⟩, ⟨none, (.store 1 (.t 23) (.t 21)), none⟩])
 (.seq (.reg [⟨(.some 24), (.mv (.t 1)), none⟩, ⟨(.some 25), (.bin .add (.t 24) (.c (.lf (.int .i64 1)))), none⟩, ⟨(.some 1), (.mv (.t 25)), none⟩])
 (.reg [⟨(.some 26), (.mv (.t 0)), none⟩, ⟨(.some 27), (.mv (.t 5)), none⟩, ⟨(.some 28), (.iaddr 3 (.t 26) (.t 27)), none⟩, ⟨(.some 29), (.faddr 2 (.t 28)), none⟩, ⟨(.some 30), (.load false 1 (.t 29)), none⟩, ⟨(.some 31), (.mv (.t 1)), none⟩, ⟨(.some 32), (.call false 17 [(.t 30), (.t 31)]), none⟩, ⟨(.some 1), (.mv (.t 32)), none⟩]))))))
 (.reg [⟨(.some 10), (.mv (.t 5)), none⟩, ⟨(.some 11), (.bin .add (.t 10) (.c (.lf (.int .i64 1)))), none⟩, ⟨(.some 5), (.mv (.t 11)), none⟩]))))))
 (.seq (.reg [⟨(.some 33), (.mv (.t 1)), none⟩, ⟨(.some 4), (.mv (.t 33)), none⟩])
 .ret))), [(.tmp 4)]⟩
class HasKE (S : Sys) : Prop extends HasF S where
  f171 : S.fs 171 = some L171
def L37 : LFn := ⟨2, (.seq (.reg [⟨(.some 4), (.mv (.c (.lf (.int .i64 0)))), none⟩])
 (.seq (.seq (.reg [⟨(.some 5), (.mv (.c (.lf (.int .i64 0)))), none⟩])
 (.block 0 (.loop (.seq (.seq (.reg [⟨(.some 6), (.mv (.t 5)), none⟩, ⟨(.some 7), (.mv (.t 0)), none⟩, ⟨(.some 8), (.len (.t 7)), none⟩, ⟨(.some 9), (.bin .lss (.t 6) (.t 8)), none⟩])
 (.cond (.t 9) .skip (.exit 0)))
 (.seq (.block 1 (.seq (.reg [⟨(.some 12), (.mv (.t 0)), none⟩, ⟨(.some 13), (.mv (.t 5)), none⟩, ⟨(.some 14), (.iaddr 5 (.t 12) (.t 13)), none⟩, ⟨(.some 15), (.faddr 0 (.t 14)), none⟩, ⟨(.some 16), (.load false 1 (.t 15)), none⟩, ⟨(.some 17), (.mv (.t 1)), none⟩, ⟨(.some 18), (.call false 17 [(.t 16), (.t 17)]), none⟩, ⟨(.some 1), (.mv (.t 18)), none⟩])
 (.seq (.reg [⟨(.some 19), (.mv (.t 0)), none⟩, ⟨(.some 20), (.mv (.t 5)), none⟩, ⟨(.some 21), (.mv (.t 1)), none⟩, ⟨(.some 22), (.iaddr 5 (.t 19) (.t 20)), none⟩, ⟨(.some 23), (.faddr 1 (.t 22)), none⟩, ⟨none, (.store 1 (.t 23) (.t 21)), none⟩])
 (.seq (.reg [⟨(.some 24), (.mv (.t 1)), none⟩, ⟨(.some 25), (.bin .add (.t 24) (.c (.lf (.int .i64 1)))), none⟩, ⟨(.some 1), (.mv (.t 25)), none⟩])
 (.seq (.reg [⟨(.some 26), (.mv (.t 0)), none⟩, ⟨(.some 27), (.mv (.t 5)), none⟩, ⟨(.some 28), (.mv (.t 1)), none⟩, ⟨(.some 29), (.toflt .f32 (.t 28)), none⟩, ⟨(.some 30), (.iaddr 5 (.t 26) (.t 27)), none⟩, ⟨(.some 31), (.faddr 2 (.t 30)), none⟩, ⟨none, (.store 1 (.t 31) (.t 29)), none⟩])
 (.seq (.reg [⟨(.some 32), (.mv (.t 1)), none⟩, ⟨(.some 33), (.bin .add (.t 32) (.c (.lf (.int .i64 1)))), none⟩, ⟨(.some 1), (.mv (.t 33)), none⟩])
 (.seq (.reg [⟨(.some 34), (.mv (.t 0)), none⟩, ⟨(.some 35), (.mv (.t 5)), none⟩, ⟨(.some 36), (.mv (.t 1)), none⟩, ⟨(.some 37), (.bin .rem (.t 36) (.c (.lf (.int .i64 3)))), none⟩, ⟨(.some 38), (.bin .eql (.t 37) (.c (.lf (.int .i64 0)))), none⟩, ⟨(.some 39), (.iaddr 5 (.t 34) (.t 35)), none⟩, ⟨(.some 40), (.faddr 3 (.t 39)), none⟩, ⟨none, (.store 1 (.t 40) (.t 38)), none⟩])
 (.seq (.reg [⟨(.some 41), (.mv (.t 1)), none⟩, ⟨(.some 42), (.bin .add (.t 41) (.c (.lf (.int .i64 1)))), none⟩, ⟨(.some 1), (.mv (.t 42)), none⟩])
 (.seq (.reg [⟨(.some 43), (.mv (.t 0)), none⟩, ⟨(.some 44), (.mv (.t 5)), none⟩, ⟨(.some 45), (.mv (.t 1)), none⟩, ⟨(.some 46), (.bin .rem (.t 45) (.c (.lf (.int .i64 3)))), none⟩, ⟨(.some 47), (.bin .eql (.t 46) (.c (.lf (.int .i64 0)))), none⟩, ⟨(.some 48), (.iaddr 5 (.t 43) (.t 44)), none⟩, ⟨(.some 49), (.faddr 4 (.t 48)), none⟩, ⟨none, (.store 1 (.t 49) (.t 47)), none⟩])
 (.reg [⟨(.some 50), (.mv (.t 1)), none⟩, ⟨(.some 51), (.bin .add (.t 50) (.c (.lf (.int .i64 1)))), none⟩, ⟨(.some 1), (.mv (.t 51)), none⟩]))))))))))
 (.reg [⟨(.some 10), (.mv (.t 5)), none⟩, ⟨(.some 11), (.bin .add (.t 10) (.c (.lf (.int .i64 1)))), none⟩, ⟨(.some 5), (.mv (.t 11)), none⟩]))))))
 (.seq (.reg [⟨(.some 52), (.mv (.t 1)), none⟩, ⟨(.some 4), (.mv (.t 52)), none⟩])
 .ret))), [(.tmp 4)]⟩
class HasKT (S : Sys) : Prop extends HasF S where
  f37 : S.fs 37 = some L37
def mkSS (k : Int) (a : List Nat) : List Nat := mkN k a.length
def mkE (k : Int) (a : Eff) : Eff := ⟨k, k + 1, mkN (k + 2) a.nums.length⟩
section
variable {S : Sys} {lim : Nat} {h : Hp} {K : CV → Hp → Prop} {l : Lf} {k : Int}
section
variable [HasKSS S] {ps : List (List Nat × Lf)}
theorem c_heldFloat32SS (hA : Arr h l 1 ((mkD mkSS ssRows 0 k ps ps.length).map ssCells)) (hI : In h ssRows (mkD mkSS ssRows 0 k ps ps.length)) (h0 : 0 ≤ k) (h1 : kAt ssRows 0 k ps ps.length ≤ 1099511627776) (hn : ps.length ≤ 16777216) (hn2 : szD ssRows ps ≤ 16777216) :
    CallT S true 47 [.lf l, .lf (.int .i64 k)] h lim K = K (.lf (.int .i64 (kAt ssRows 0 k ps ps.length))) h := by
  refine CallT_pure (F := L47) (HasKSS.f47) rfl (by first | rfl | (split <;> rfl) | simp) ?_; unfold L47; dsimp only []
  repeat' (first | (simp (disch := first | omega | assumption | (simp only [List.length_set]; omega) | (simp [*] <;> fail) | assumption) [-Bool.decide_and, -Bool.decide_or, -Bool.not_and, -Bool.not_or, toNat_pred, toNat_succ, wrap64, wr_new, wr_new0, ok_if, ok_ifn, iadV_sl, makeV_int, decT, decF, over_at, *, hA.len, mkD_len]) | (with_reducible refine Gd_split (fun hc => ?_) (fun hc => ?_) <;> (have hc2 := hc; try simp at hc2)) | (with_reducible refine Br_split (fun hc => ?_) (fun hc => ?_) <;> (have hc2 := hc; try simp at hc2)) | (with_reducible refine GdT_split (fun hc => ?_) (fun hc => ?_) <;> (have hc2 := hc; try simp at hc2)) | (with_reducible refine WT_alt ?_ ?_) | omega)
  refine WL_forM 1048562 (by decide +kernel) (ps.length) (fun i b g => i ≤ ps.length ∧ b 5 = .lf (.int .i64 i) ∧ b 1 = .lf (.int .i64 (kAt ssRows 0 k ps i)) ∧ h = g) (fun _ _ _ hi => hi.1) ⟨by omega, by simp, by simp [kAt_zero], rfl⟩ ?_
  rintro i b g ⟨hi, e5, e1, rfl⟩
  by_cases hlt : i < ps.length
  · have hQ : i < (mkD mkSS ssRows 0 k ps ps.length).length := by rw [mkD_len]; exact hlt
    have hg := mkD_lt (mk := mkSS) (ro := ssRows) (c := 0) (k := k) hlt (Nat.le_refl _) hlt
    have hks := kAt_succ (ro := ssRows) (c := 0) (k := k) hlt
    have hkl := kAt_le (ro := ssRows) (c := 0) (k := k) hi
    have hle := szD_get (ro := ssRows) hlt
    have hin := hI i hQ
    have hrd := hA.rd1 hQ
    have hat := hA.at_ (k := .i64) hQ
    rw [hg] at hin hrd
    simp only [mkSS, ssRows, mkN_fl, ssCells] at hin hrd
    simp only [ssRows] at hks hle
    have hh := fun K lim => c_heldFloat32S (S := S) (h := h) (lim := lim) (K := K) hin (by omega) (by omega) (by omega)
    repeat' (first | (simp (disch := first | omega | assumption | (simp only [List.length_set]; omega) | (simp [*] <;> fail) | assumption) [-Bool.decide_and, -Bool.decide_or, -Bool.not_and, -Bool.not_or, toNat_pred, toNat_succ, wrap64, wr_new, wr_new0, ok_if, ok_ifn, iadV_sl, makeV_int, decT, decF, over_at, *, hA.len, mkD_len]) | (with_reducible refine Gd_split (fun hc => ?_) (fun hc => ?_) <;> (have hc2 := hc; try simp at hc2)) | (with_reducible refine Br_split (fun hc => ?_) (fun hc => ?_) <;> (have hc2 := hc; try simp at hc2)) | (with_reducible refine GdT_split (fun hc => ?_) (fun hc => ?_) <;> (have hc2 := hc; try simp at hc2)) | (with_reducible refine WT_alt ?_ ?_) | omega)
    all_goals omega
  · have : i = ps.length := by omega
    subst this
    repeat' (first | (simp (disch := first | omega | assumption | (simp only [List.length_set]; omega) | (simp [*] <;> fail) | assumption) [-Bool.decide_and, -Bool.decide_or, -Bool.not_and, -Bool.not_or, toNat_pred, toNat_succ, wrap64, wr_new, wr_new0, ok_if, ok_ifn, iadV_sl, makeV_int, decT, decF, over_at, *, hA.len, mkD_len]) | (with_reducible refine Gd_split (fun hc => ?_) (fun hc => ?_) <;> (have hc2 := hc; try simp at hc2)) | (with_reducible refine Br_split (fun hc => ?_) (fun hc => ?_) <;> (have hc2 := hc; try simp at hc2)) | (with_reducible refine GdT_split (fun hc => ?_) (fun hc => ?_) <;> (have hc2 := hc; try simp at hc2)) | (with_reducible refine WT_alt ?_ ?_) | omega)
theorem c_markFloat32SS {g : Hp} (hN : NewD h g l 27 1 ssCells ssRows 22 ps) (h0 : 0 ≤ k) (h1 : kAt ssRows 0 k ps ps.length ≤ 1099511627776) (hn : ps.length ≤ 16777216) (hn2 : szD ssRows ps ≤ 16777216) (hl : lim ≤ h.length)
    (hK : ∀ g', NewD h g' l 27 1 ssCells ssRows 22 (mkD mkSS ssRows 0 k ps ps.length) → Buts g g' (lvs l ps) → K (.lf (.int .i64 (kAt ssRows 0 k ps ps.length))) g') : CallT S false 46 [.lf l, .lf (.int .i64 k)] g lim K := by
  refine CallT_of_body (F := L46) (HasKSS.f46) rfl ?_; unfold L46; dsimp only []
  repeat' (first | (simp (disch := first | omega | assumption | (simp only [List.length_set]; omega) | (simp [*] <;> fail) | assumption) [-Bool.decide_and, -Bool.decide_or, -Bool.not_and, -Bool.not_or, toNat_pred, toNat_succ, wrap64, wr_new, wr_new0, ok_if, ok_ifn, iadV_sl, makeV_int, decT, decF, over_at, *, hN.arr.len]) | (with_reducible refine Gd_split (fun hc => ?_) (fun hc => ?_) <;> (have hc2 := hc; try simp at hc2)) | (with_reducible refine Br_split (fun hc => ?_) (fun hc => ?_) <;> (have hc2 := hc; try simp at hc2)) | (with_reducible refine GdT_split (fun hc => ?_) (fun hc => ?_) <;> (have hc2 := hc; try simp at hc2)) | (with_reducible refine WT_alt ?_ ?_) | omega)
  refine WL_forM 262114 (by decide +kernel) (ps.length) (fun i b g' => i ≤ ps.length ∧ b 5 = .lf (.int .i64 i) ∧ b 1 = .lf (.int .i64 (kAt ssRows 0 k ps i)) ∧ NewD h g' l 27 1 ssCells ssRows 22 (mkD mkSS ssRows 0 k ps i) ∧ Buts g g' (lvs l ps)) (fun _ _ _ hi => hi.1) ⟨by omega, by simp, by simp [kAt_zero], hN, Buts.refl⟩ ?_
  rintro i b g' ⟨hi, e5, e1, hD, hB⟩
  have hA := hD.arr.len
  rw [mkD_len] at hA
  by_cases hlt : i < ps.length
  · have hQ : i < (mkD mkSS ssRows 0 k ps i).length := by rw [mkD_len]; exact hlt
    have hg := mkD_ge (mk := mkSS) (ro := ssRows) (c := 0) (k := k) (i := i) hlt (Nat.le_refl _)
    have hks := kAt_succ (ro := ssRows) (c := 0) (k := k) hlt
    have hkl := kAt_le (ro := ssRows) (c := 0) (k := k) hi
    have hle := szD_get (ro := ssRows) hlt
    have hin := hD.inn _ (List.getElem_mem hQ)
    have hrd := hD.arr.rd1 hQ
    have hat := hD.arr.at_ (k := .i64) hQ
    rw [hg] at hin hrd
    simp only [ssRows, ssCells] at hin hrd
    simp only [ssRows] at hks hle
    have hms := mkD_succ (mk := mkSS) (ro := ssRows) (c := 0) (k := k) hlt
    clear hK
    repeat' (first | (simp (disch := first | omega | assumption | (simp only [List.length_set]; omega) | (simp [*] <;> fail) | assumption) [-Bool.decide_and, -Bool.decide_or, -Bool.not_and, -Bool.not_or, toNat_pred, toNat_succ, wrap64, wr_new, wr_new0, ok_if, ok_ifn, iadV_sl, makeV_int, decT, decF, over_at, *]) | (with_reducible refine Gd_split (fun hc => ?_) (fun hc => ?_) <;> (have hc2 := hc; try simp at hc2)) | (with_reducible refine Br_split (fun hc => ?_) (fun hc => ?_) <;> (have hc2 := hc; try simp at hc2)) | (with_reducible refine GdT_split (fun hc => ?_) (fun hc => ?_) <;> (have hc2 := hc; try simp at hc2)) | (with_reducible refine WT_alt ?_ ?_) | omega)
    refine c_markFloat32S hin (by simp; omega) (by omega) (by omega) hl fun g2 hM hC => ?_
    simp only [List.length_map] at hM
    have hM' : New h g2 (mkD mkSS ssRows 0 k ps i)[i].2 22 1 ((ssRows (mkSS (kAt ssRows 0 k ps i) ps[i].1)).map fl) := by
      rw [hg]; simp only [ssRows, mkSS, mkN_fl]; exact hM
    have hP := hD.put hQ hM' (by rw [hg]; exact hC) (by rw [hg]; rfl)
    rw [hg, ← hms] at hP
    have hB2 := hB.but hC (lvs_get hlt)
    clear hms hin hM hM'
    repeat' (first | (simp (disch := first | omega | assumption | (simp only [List.length_set]; omega) | (simp [*] <;> fail) | assumption) [-Bool.decide_and, -Bool.decide_or, -Bool.not_and, -Bool.not_or, toNat_pred, toNat_succ, wrap64, wr_new, wr_new0, ok_if, ok_ifn, iadV_sl, makeV_int, decT, decF, over_at, *]) | (with_reducible refine Gd_split (fun hc => ?_) (fun hc => ?_) <;> (have hc2 := hc; try simp at hc2)) | (with_reducible refine Br_split (fun hc => ?_) (fun hc => ?_) <;> (have hc2 := hc; try simp at hc2)) | (with_reducible refine GdT_split (fun hc => ?_) (fun hc => ?_) <;> (have hc2 := hc; try simp at hc2)) | (with_reducible refine WT_alt ?_ ?_) | omega)
    all_goals omega
  · have : i = ps.length := by omega
    subst this
    repeat' (first | (simp (disch := first | omega | assumption | (simp only [List.length_set]; omega) | (simp [*] <;> fail) | assumption) [-Bool.decide_and, -Bool.decide_or, -Bool.not_and, -Bool.not_or, toNat_pred, toNat_succ, wrap64, wr_new, wr_new0, ok_if, ok_ifn, iadV_sl, makeV_int, decT, decF, over_at, *]) | (with_reducible refine Gd_split (fun hc => ?_) (fun hc => ?_) <;> (have hc2 := hc; try simp at hc2)) | (with_reducible refine Br_split (fun hc => ?_) (fun hc => ?_) <;> (have hc2 := hc; try simp at hc2)) | (with_reducible refine GdT_split (fun hc => ?_) (fun hc => ?_) <;> (have hc2 := hc; try simp at hc2)) | (with_reducible refine WT_alt ?_ ?_) | omega)
    all_goals exact hK _ hD hB
end
section
variable [HasKE S] {ps : List (Eff × Lf)}
set_option maxHeartbeats 1000000 in
set_option maxHeartbeats 1000000 in
theorem c_markEffectS {g : Hp} (hN : NewD h g l 192 3 Eff.cells Eff.nums 22 ps) (h0 : 0 ≤ k) (h1 : kAt Eff.nums 2 k ps ps.length ≤ 1099511627776) (hn : ps.length ≤ 16777216) (hn2 : szD Eff.nums ps ≤ 16777216) (hl : lim ≤ h.length)
    (hK : ∀ g', NewD h g' l 192 3 Eff.cells Eff.nums 22 (mkD mkE Eff.nums 2 k ps ps.length) → Buts g g' (lvs l ps) → K (.lf (.int .i64 (kAt Eff.nums 2 k ps ps.length))) g') : CallT S false 171 [.lf l, .lf (.int .i64 k)] g lim K := by
  refine CallT_of_body (F := L171) (HasKE.f171) rfl ?_; unfold L171; dsimp only []
  repeat' (first | (simp (disch := first | omega | assumption | (simp only [List.length_set]; omega) | (simp [*] <;> fail) | assumption) [-Bool.decide_and, -Bool.decide_or, -Bool.not_and, -Bool.not_or, toNat_pred, toNat_succ, wrap64, wr_new, wr_new0, ok_if, ok_ifn, iadV_sl, makeV_int, decT, decF, over_at, *, hN.arr.len]) | (with_reducible refine Gd_split (fun hc => ?_) (fun hc => ?_) <;> (have hc2 := hc; try simp at hc2)) | (with_reducible refine Br_split (fun hc => ?_) (fun hc => ?_) <;> (have hc2 := hc; try simp at hc2)) | (with_reducible refine GdT_split (fun hc => ?_) (fun hc => ?_) <;> (have hc2 := hc; try simp at hc2)) | (with_reducible refine WT_alt ?_ ?_) | omega)
  refine WL_forM 8589934562 (by decide +kernel) (ps.length) (fun i b g' => i ≤ ps.length ∧ b 5 = .lf (.int .i64 i) ∧ b 1 = .lf (.int .i64 (kAt Eff.nums 2 k ps i)) ∧ NewD h g' l 192 3 Eff.cells Eff.nums 22 (mkD mkE Eff.nums 2 k ps i) ∧ Buts g g' (lvs l ps)) (fun _ _ _ hi => hi.1) ⟨by omega, by simp, by simp [kAt_zero], hN, Buts.refl⟩ ?_
  rintro i b g' ⟨hi, e5, e1, hD, hB⟩
  have hA := hD.arr.len
  rw [mkD_len] at hA
  by_cases hlt : i < ps.length
  · have hms := mkD_succ (mk := mkE) (ro := Eff.nums) (c := 2) (k := k) hlt
    obtain ⟨M, hM0⟩ : ∃ M, mkD mkE Eff.nums 2 k ps i = M := ⟨_, rfl⟩
    have hQ : i < M.length := by rw [← hM0, mkD_len]; exact hlt
    have hg : M[i] = ps[i] := by subst hM0; exact mkD_ge (mk := mkE) (ro := Eff.nums) (c := 2) (k := k) (i := i) hlt (Nat.le_refl _)
    rw [hM0] at hD hms
    clear hM0
    have hks := kAt_succ (ro := Eff.nums) (c := 2) (k := k) hlt
    have hkl := kAt_le (ro := Eff.nums) (c := 2) (k := k) hi
    have hkl2 := kAt_le (ro := Eff.nums) (c := 2) (k := k) (i := i + 1) hlt
    have hle := szD_get (ro := Eff.nums) hlt
    have hat := hD.arr.at_ (k := .i64) hQ
    have hlv := lvs_get (l := l) hlt
    clear hK
    generalize hq : kAt Eff.nums 2 k ps i = q at *
    repeat' (first | (simp (disch := first | omega | assumption | (simp only [List.length_set]; omega) | (simp [*] <;> fail) | assumption) [-Bool.decide_and, -Bool.decide_or, -Bool.not_and, -Bool.not_or, toNat_pred, toNat_succ, wrap64, wr_new, wr_new0, ok_if, ok_ifn, iadV_sl, makeV_int, decT, decF, over_at, *]) | (with_reducible refine Gd_split (fun hc => ?_) (fun hc => ?_) <;> (have hc2 := hc; try simp at hc2)) | (with_reducible refine Br_split (fun hc => ?_) (fun hc => ?_) <;> (have hc2 := hc; try simp at hc2)) | (with_reducible refine GdT_split (fun hc => ?_) (fun hc => ?_) <;> (have hc2 := hc; try simp at hc2)) | (with_reducible refine WT_alt ?_ ?_) | omega)
    refine hD.cell0 (a := ⟨q, ps[i].1.len, ps[i].1.nums⟩) hQ (by rw [hg]; rfl) (by rw [hg]) (by omega) hl fun g1 hD1 hB1 => ?_
    rw [hg] at hD1
    have hA1 := hD1.arr.len
    have hat1 := hD1.arr.at_ (k := .i64) (i := i) (by simpa using hQ)
    rw [List.length_set] at hA1
    have hBa := hB.but hB1 lvs_head
    clear hat hB hB1 hD hA
    repeat' (first | (simp (disch := first | omega | assumption | (simp only [List.length_set]; omega) | (simp [*] <;> fail) | assumption) [-Bool.decide_and, -Bool.decide_or, -Bool.not_and, -Bool.not_or, toNat_pred, toNat_succ, wrap64, wr_new, wr_new0, ok_if, ok_ifn, iadV_sl, makeV_int, decT, decF, over_at, *]) | (with_reducible refine Gd_split (fun hc => ?_) (fun hc => ?_) <;> (have hc2 := hc; try simp at hc2)) | (with_reducible refine Br_split (fun hc => ?_) (fun hc => ?_) <;> (have hc2 := hc; try simp at hc2)) | (with_reducible refine GdT_split (fun hc => ?_) (fun hc => ?_) <;> (have hc2 := hc; try simp at hc2)) | (with_reducible refine WT_alt ?_ ?_) | omega)
    refine hD1.cell (off := 1) (a := ⟨q, q + 1, ps[i].1.nums⟩) (by simpa using hQ) (by simp [Eff.cells]) (by simp) (by omega) hl fun g2 hD2 hB2 => ?_
    simp only [List.set_set, List.getElem_set_self] at hD2
    have hBb := hBa.but hB2 lvs_head
    have hA2 := hD2.arr.len
    have hat2 := hD2.arr.at_ (k := .i64) (i := i) (by simpa using hQ)
    have r2 := hD2.arr.rdIn (i := i) (j := 2) (m := 1) (by simpa using hQ) (by omega)
    have hin := hD2.inn _ (List.getElem_mem (n := i) (by simpa using hQ))
    simp only [List.getElem_set_self, hg, Eff.cells, List.drop_zero, List.drop_succ_cons, List.take_succ_cons, List.take_zero] at r2 hin
    rw [List.length_set] at hA2
    clear hat1 hA1 hBa hB2 hD1
    repeat' (first | (simp (disch := first | omega | assumption | (simp only [List.length_set]; omega) | (simp [*] <;> fail) | assumption) [-Bool.decide_and, -Bool.decide_or, -Bool.not_and, -Bool.not_or, toNat_pred, toNat_succ, wrap64, wr_new, wr_new0, ok_if, ok_ifn, iadV_sl, makeV_int, decT, decF, over_at, *]) | (with_reducible refine Gd_split (fun hc => ?_) (fun hc => ?_) <;> (have hc2 := hc; try simp at hc2)) | (with_reducible refine Br_split (fun hc => ?_) (fun hc => ?_) <;> (have hc2 := hc; try simp at hc2)) | (with_reducible refine GdT_split (fun hc => ?_) (fun hc => ?_) <;> (have hc2 := hc; try simp at hc2)) | (with_reducible refine WT_alt ?_ ?_) | omega)
    refine c_markFloat32S hin (by simp; omega) (by omega) (by omega) hl fun g3 hN3 hB3 => ?_
    simp only [List.length_map] at hN3
    have hM' : New h g3 ((M.set i (⟨q, q + 1, ps[i].1.nums⟩, ps[i].2))[i]'(by simpa using hQ)).2 22 1 ((Eff.nums (mkE q ps[i].1)).map fl) := by
      rw [List.getElem_set_self]; simp only [mkE, mkN_fl]
      have e2 : q + 1 + 1 = q + 2 := by omega
      rw [e2] at hN3; exact hN3
    have hP := hD2.put (by simpa using hQ) hM' (by simp only [List.getElem_set_self]; exact hB3) (by simp only [List.getElem_set_self]; rfl)
    simp only [List.getElem_set_self, List.set_set] at hP
    rw [← hms] at hP
    have hBc := hBb.but hB3 hlv
    clear hms hin hM' hN3 hat2 hA2 r2 hBb hB3 hD2
    repeat' (first | (simp (disch := first | omega | assumption | (simp only [List.length_set]; omega) | (simp [*] <;> fail) | assumption) [-Bool.decide_and, -Bool.decide_or, -Bool.not_and, -Bool.not_or, toNat_pred, toNat_succ, wrap64, wr_new, wr_new0, ok_if, ok_ifn, iadV_sl, makeV_int, decT, decF, over_at, *]) | (with_reducible refine Gd_split (fun hc => ?_) (fun hc => ?_) <;> (have hc2 := hc; try simp at hc2)) | (with_reducible refine Br_split (fun hc => ?_) (fun hc => ?_) <;> (have hc2 := hc; try simp at hc2)) | (with_reducible refine GdT_split (fun hc => ?_) (fun hc => ?_) <;> (have hc2 := hc; try simp at hc2)) | (with_reducible refine WT_alt ?_ ?_) | omega)
    all_goals omega
  · have : i = ps.length := by omega
    subst this
    repeat' (first | (simp (disch := first | omega | assumption | (simp only [List.length_set]; omega) | (simp [*] <;> fail) | assumption) [-Bool.decide_and, -Bool.decide_or, -Bool.not_and, -Bool.not_or, toNat_pred, toNat_succ, wrap64, wr_new, wr_new0, ok_if, ok_ifn, iadV_sl, makeV_int, decT, decF, over_at, *]) | (with_reducible refine Gd_split (fun hc => ?_) (fun hc => ?_) <;> (have hc2 := hc; try simp at hc2)) | (with_reducible refine Br_split (fun hc => ?_) (fun hc => ?_) <;> (have hc2 := hc; try simp at hc2)) | (with_reducible refine GdT_split (fun hc => ?_) (fun hc => ?_) <;> (have hc2 := hc; try simp at hc2)) | (with_reducible refine WT_alt ?_ ?_) | omega)
    all_goals exact hK _ hD hB
end
section
variable [HasKT S] {ps : List (Trk × Lf)}
set_option maxHeartbeats 2000000 in
/-- Tracks that are written over: nothing else changes. -/
theorem c_markTrackS {g : Hp} (hN : NewD h g l 151 5 Trk.cells Trk.xs 22 ps) (h0 : 0 ≤ k) (h1 : kAt Trk.xs 4 k ps ps.length ≤ 1099511627776) (hn : ps.length ≤ 16777216) (hn2 : szD Trk.xs ps ≤ 16777216) (hl : lim ≤ h.length)
    (hK : ∀ g', Buts g g' (lvs l ps) → K (.lf (.int .i64 (kAt Trk.xs 4 k ps ps.length))) g') : CallT S false 37 [.lf l, .lf (.int .i64 k)] g lim K := by
  refine CallT_of_body (F := L37) (HasKT.f37) rfl ?_; unfold L37; dsimp only []
  repeat' (first | (simp (disch := first | omega | assumption | (simp only [List.length_set]; omega) | (simp [*] <;> fail) | assumption) [-Bool.decide_and, -Bool.decide_or, -Bool.not_and, -Bool.not_or, toNat_pred, toNat_succ, wrap64, wr_new, wr_new0, ok_if, ok_ifn, iadV_sl, makeV_int, decT, decF, over_at, *, hN.arr.len]) | (with_reducible refine Gd_split (fun hc => ?_) (fun hc => ?_) <;> (have hc2 := hc; try simp at hc2)) | (with_reducible refine Br_split (fun hc => ?_) (fun hc => ?_) <;> (have hc2 := hc; try simp at hc2)) | (with_reducible refine GdT_split (fun hc => ?_) (fun hc => ?_) <;> (have hc2 := hc; try simp at hc2)) | (with_reducible refine WT_alt ?_ ?_) | omega)
  refine WL_forM 4503599627370466 (by decide +kernel) (ps.length) (fun i b g' => i ≤ ps.length ∧ b 5 = .lf (.int .i64 i) ∧ b 1 = .lf (.int .i64 (kAt Trk.xs 4 k ps i)) ∧ Buts g g' (lvs l ps) ∧ ∃ qs, NewD h g' l 151 5 Trk.cells Trk.xs 22 qs ∧ qs.length = ps.length ∧ ∀ j (q1 : j < qs.length) (q2 : j < ps.length), qs[j].2 = ps[j].2 ∧ qs[j].1.xs.length = ps[j].1.xs.length) (fun _ _ _ hi => hi.1) ⟨by omega, by simp, by simp [kAt_zero], Buts.refl, ps, hN, rfl, fun j _ _ => ⟨rfl, rfl⟩⟩ ?_
  rintro i b g' ⟨hi, e5, e1, hB, M, hD, hMl, hM0⟩
  have hA := hD.arr.len
  rw [hMl] at hA
  by_cases hlt : i < ps.length
  · have hQ : i < M.length := by omega
    obtain ⟨m1, m2⟩ := hM0 i hQ hlt
    have hks := kAt_succ (ro := Trk.xs) (c := 4) (k := k) hlt
    have hkl := kAt_le (ro := Trk.xs) (c := 4) (k := k) hi
    have hkl2 := kAt_le (ro := Trk.xs) (c := 4) (k := k) (i := i + 1) hlt
    have hle := szD_get (ro := Trk.xs) hlt
    have hat := hD.arr.at_ (k := .i64) hQ
    have hrd := hD.arr.rdIn0 (m := 1) hQ (by omega)
    have hin := hD.inn _ (List.getElem_mem hQ)
    have hlv := lvs_get (l := l) hlt
    rw [← m1] at hlv
    have mH : Hid (M[i].2 = ps[i].2 ∧ M[i].1.xs.length = ps[i].1.xs.length) := ⟨m1, m2⟩
    have hkH : Hid (kAt Trk.xs 4 k ps (i + 1) = kAt Trk.xs 4 k ps i + ((4 : Nat) : Int) + (ps[i].1.xs.length : Int)) := hks
    simp only [Trk.cells, List.take_succ_cons, List.take_zero] at hrd
    clear hK hks
    rw [← m2] at hkH hle
    have hMH : Hid (∀ j (q1 : j < M.length) (q2 : j < ps.length), M[j].2 = ps[j].2 ∧ M[j].1.xs.length = ps[j].1.xs.length) := hM0
    clear m1 m2 hM0
    generalize hq : kAt Trk.xs 4 k ps i = q at *
    repeat' (first | (simp (disch := first | omega | assumption | (simp only [List.length_set]; omega) | (simp [*] <;> fail) | assumption) [-Bool.decide_and, -Bool.decide_or, -Bool.not_and, -Bool.not_or, toNat_pred, toNat_succ, wrap64, wr_new, wr_new0, ok_if, ok_ifn, iadV_sl, makeV_int, decT, decF, over_at, *]) | (with_reducible refine Gd_split (fun hc => ?_) (fun hc => ?_) <;> (have hc2 := hc; try simp at hc2)) | (with_reducible refine Br_split (fun hc => ?_) (fun hc => ?_) <;> (have hc2 := hc; try simp at hc2)) | (with_reducible refine GdT_split (fun hc => ?_) (fun hc => ?_) <;> (have hc2 := hc; try simp at hc2)) | (with_reducible refine WT_alt ?_ ?_) | omega)
    refine c_markFloat32S hin (by simp; omega) (by omega) (by omega) hl fun g3 hN3 hB3 => ?_
    simp only [List.length_map] at hN3
    rw [← mkN_fl] at hN3
    have hP := hD.put (a := ⟨mkN q M[i].1.xs.length, M[i].1.tenths, M[i].1.pan, M[i].1.mute, M[i].1.solo⟩) hQ hN3 hB3 rfl
    have hBa := hB.but hB3 hlv
    have hat1 := hP.arr.at_ (k := .i64) (i := i) (by simpa using hQ)
    clear hat hA hin hB hB3 hD hN3 hrd
    repeat' (first | (simp (disch := first | omega | assumption | (simp only [List.length_set]; omega) | (simp [*] <;> fail) | assumption) [-Bool.decide_and, -Bool.decide_or, -Bool.not_and, -Bool.not_or, toNat_pred, toNat_succ, wrap64, wr_new, wr_new0, ok_if, ok_ifn, iadV_sl, makeV_int, decT, decF, over_at, *]) | (with_reducible refine Gd_split (fun hc => ?_) (fun hc => ?_) <;> (have hc2 := hc; try simp at hc2)) | (with_reducible refine Br_split (fun hc => ?_) (fun hc => ?_) <;> (have hc2 := hc; try simp at hc2)) | (with_reducible refine GdT_split (fun hc => ?_) (fun hc => ?_) <;> (have hc2 := hc; try simp at hc2)) | (with_reducible refine WT_alt ?_ ?_) | omega)
    refine hP.cell (off := 1) (a := ⟨mkN q M[i].1.xs.length, q + (M[i].1.xs.length : Int), M[i].1.pan, M[i].1.mute, M[i].1.solo⟩) (by simpa using hQ) (by simp [Trk.cells]) (by simp) (by omega) hl fun g4 h4 hB4 => ?_
    simp only [List.set_set, List.getElem_set_self] at h4
    have hBb := hBa.but hB4 lvs_head
    have hat2 := h4.arr.at_ (k := .i64) (i := i) (by simpa using hQ)
    clear hat1 hP hBa hB4
    repeat' (first | (simp (disch := first | omega | assumption | (simp only [List.length_set]; omega) | (simp [*] <;> fail) | assumption) [-Bool.decide_and, -Bool.decide_or, -Bool.not_and, -Bool.not_or, toNat_pred, toNat_succ, wrap64, wr_new, wr_new0, ok_if, ok_ifn, iadV_sl, makeV_int, decT, decF, over_at, *]) | (with_reducible refine Gd_split (fun hc => ?_) (fun hc => ?_) <;> (have hc2 := hc; try simp at hc2)) | (with_reducible refine Br_split (fun hc => ?_) (fun hc => ?_) <;> (have hc2 := hc; try simp at hc2)) | (with_reducible refine GdT_split (fun hc => ?_) (fun hc => ?_) <;> (have hc2 := hc; try simp at hc2)) | (with_reducible refine WT_alt ?_ ?_) | omega)
    refine h4.cell (off := 2) (a := ⟨mkN q M[i].1.xs.length, q + (M[i].1.xs.length : Int), fofint .f32 (q + (M[i].1.xs.length : Int) + 1), M[i].1.mute, M[i].1.solo⟩) (by simpa using hQ) (by simp [Trk.cells]) (by simp) (by omega) hl fun g5 h5 hB5 => ?_
    simp only [List.set_set, List.getElem_set_self] at h5
    have hBc := hBb.but hB5 lvs_head
    have hat3 := h5.arr.at_ (k := .i64) (i := i) (by simpa using hQ)
    clear hat2 h4 hBb hB5
    repeat' (first | (simp (disch := first | omega | assumption | (simp only [List.length_set]; omega) | (simp [*] <;> fail) | assumption) [-Bool.decide_and, -Bool.decide_or, -Bool.not_and, -Bool.not_or, toNat_pred, toNat_succ, wrap64, wr_new, wr_new0, ok_if, ok_ifn, iadV_sl, makeV_int, decT, decF, over_at, *]) | (with_reducible refine Gd_split (fun hc => ?_) (fun hc => ?_) <;> (have hc2 := hc; try simp at hc2)) | (with_reducible refine Br_split (fun hc => ?_) (fun hc => ?_) <;> (have hc2 := hc; try simp at hc2)) | (with_reducible refine GdT_split (fun hc => ?_) (fun hc => ?_) <;> (have hc2 := hc; try simp at hc2)) | (with_reducible refine WT_alt ?_ ?_) | omega)
    refine h5.cell (off := 3) (a := ⟨mkN q M[i].1.xs.length, q + (M[i].1.xs.length : Int), fofint .f32 (q + (M[i].1.xs.length : Int) + 1), decide ((q + (M[i].1.xs.length : Int) + 1 + 1).tmod 3 = 0), M[i].1.solo⟩) (by simpa using hQ) (by simp [Trk.cells]) (by simp) (by omega) hl fun g6 h6 hB6 => ?_
    simp only [List.set_set, List.getElem_set_self] at h6
    have hBd := hBc.but hB6 lvs_head
    have hat4 := h6.arr.at_ (k := .i64) (i := i) (by simpa using hQ)
    clear hat3 h5 hBc hB6
    repeat' (first | (simp (disch := first | omega | assumption | (simp only [List.length_set]; omega) | (simp [*] <;> fail) | assumption) [-Bool.decide_and, -Bool.decide_or, -Bool.not_and, -Bool.not_or, toNat_pred, toNat_succ, wrap64, wr_new, wr_new0, ok_if, ok_ifn, iadV_sl, makeV_int, decT, decF, over_at, *]) | (with_reducible refine Gd_split (fun hc => ?_) (fun hc => ?_) <;> (have hc2 := hc; try simp at hc2)) | (with_reducible refine Br_split (fun hc => ?_) (fun hc => ?_) <;> (have hc2 := hc; try simp at hc2)) | (with_reducible refine GdT_split (fun hc => ?_) (fun hc => ?_) <;> (have hc2 := hc; try simp at hc2)) | (with_reducible refine WT_alt ?_ ?_) | omega)
    refine h6.cell (off := 4) (a := ⟨mkN q M[i].1.xs.length, q + (M[i].1.xs.length : Int), fofint .f32 (q + (M[i].1.xs.length : Int) + 1), decide ((q + (M[i].1.xs.length : Int) + 1 + 1).tmod 3 = 0), decide ((q + (M[i].1.xs.length : Int) + 1 + 1 + 1).tmod 3 = 0)⟩) (by simpa using hQ) (by simp [Trk.cells]) (by simp) (by omega) hl fun g7 h7 hB7 => ?_
    simp only [List.set_set, List.getElem_set_self] at h7
    have hBe := hBd.but hB7 lvs_head
    clear hat4 h6 hBd hB7
    repeat' (first | (simp (disch := first | omega | assumption | (simp only [List.length_set]; omega) | (simp [*] <;> fail) | assumption) [-Bool.decide_and, -Bool.decide_or, -Bool.not_and, -Bool.not_or, toNat_pred, toNat_succ, wrap64, wr_new, wr_new0, ok_if, ok_ifn, iadV_sl, makeV_int, decT, decF, over_at, *]) | (with_reducible refine Gd_split (fun hc => ?_) (fun hc => ?_) <;> (have hc2 := hc; try simp at hc2)) | (with_reducible refine Br_split (fun hc => ?_) (fun hc => ?_) <;> (have hc2 := hc; try simp at hc2)) | (with_reducible refine GdT_split (fun hc => ?_) (fun hc => ?_) <;> (have hc2 := hc; try simp at hc2)) | (with_reducible refine WT_alt ?_ ?_) | omega)
    refine ⟨hlt, by rw [show kAt Trk.xs 4 k ps (i + 1) = _ from hkH]; omega, _, h7, by simpa using hMl, fun j q1 q2 => ?_⟩
    rw [List.length_set] at q1
    rw [List.getElem_set]
    split
    · rename_i e
      subst e
      exact ⟨mH.1, by rw [mkN_len]; exact mH.2⟩
    · exact hMH j q1 q2
  · have : i = ps.length := by omega
    subst this
    repeat' (first | (simp (disch := first | omega | assumption | (simp only [List.length_set]; omega) | (simp [*] <;> fail) | assumption) [-Bool.decide_and, -Bool.decide_or, -Bool.not_and, -Bool.not_or, toNat_pred, toNat_succ, wrap64, wr_new, wr_new0, ok_if, ok_ifn, iadV_sl, makeV_int, decT, decF, over_at, *]) | (with_reducible refine Gd_split (fun hc => ?_) (fun hc => ?_) <;> (have hc2 := hc; try simp at hc2)) | (with_reducible refine Br_split (fun hc => ?_) (fun hc => ?_) <;> (have hc2 := hc; try simp at hc2)) | (with_reducible refine GdT_split (fun hc => ?_) (fun hc => ?_) <;> (have hc2 := hc; try simp at hc2)) | (with_reducible refine WT_alt ?_ ?_) | omega)
    all_goals exact hK _ hB
end
end
end Go.E
