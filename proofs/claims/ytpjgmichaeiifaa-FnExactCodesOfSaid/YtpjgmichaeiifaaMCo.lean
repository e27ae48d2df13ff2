/- Codes of samples, both sides. -/
import Derived.Test.YtpjgmichaeiifaaMKb
import Derived.Test.YtpjgmichaeiifaaMH
set_option linter.unusedVariables false
set_option linter.unusedSimpArgs false
namespace Go.E
open Go
def L53 : LFn := ⟨2, (.seq (.reg [⟨(.some 4), (.mv (.c (.lf .nils))), none⟩, ⟨(.some 5), (.mv (.c (.lf (.bool false)))), none⟩])
 (.seq (.seq (.reg [⟨(.some 8), (.mv (.t 0)), none⟩, ⟨(.some 9), (.call true 78 [(.t 8)]), none⟩, ⟨(.some 10), (.una .not (.t 9)), none⟩, ⟨(.some 11), (.mv (.t 10)), none⟩, ⟨(.some 12), (.mv (.t 1)), (.some (11, false))⟩, ⟨(.some 13), (.call true 70 [(.t 12)]), (.some (11, false))⟩, ⟨(.some 14), (.una .not (.t 13)), (.some (11, false))⟩, ⟨(.some 15), (.pick (.t 11) (.c (.lf (.bool true))) (.t 14)), none⟩])
 (.cond (.t 15) (.seq (.reg [⟨(.some 4), (.mv (.c (.lf .nils))), none⟩, ⟨(.some 5), (.mv (.c (.lf (.bool false)))), none⟩])
 .ret) .skip))
 (.seq (.reg [⟨(.some 16), (.lit 2 1 0 [] []), none⟩, ⟨(.some 6), (.mv (.t 16)), none⟩])
 (.seq (.seq (.reg [⟨(.some 7), (.mv (.c (.lf (.int .i64 0)))), none⟩])
 (.block 0 (.loop (.seq (.seq (.reg [⟨(.some 17), (.mv (.t 7)), none⟩, ⟨(.some 18), (.mv (.t 1)), none⟩, ⟨(.some 19), (.len (.t 18)), none⟩, ⟨(.some 20), (.bin .lss (.t 17) (.t 19)), none⟩])
 (.cond (.t 20) .skip (.exit 0)))
 (.seq (.block 1 (.reg [⟨(.some 23), (.mv (.t 6)), none⟩, ⟨(.some 24), (.mv (.t 0)), none⟩, ⟨(.some 25), (.mv (.t 1)), none⟩, ⟨(.some 26), (.mv (.t 7)), none⟩, ⟨(.some 27), (.iaddr 1 (.t 25) (.t 26)), none⟩, ⟨(.some 28), (.load false 1 (.t 27)), none⟩, ⟨(.some 29), (.toflt .f64 (.t 28)), none⟩, ⟨(.some 30), (.mv (.t 0)), none⟩, ⟨(.some 31), (.call true 80 [(.t 30)]), none⟩, ⟨(.some 32), (.toflt .f64 (.t 31)), none⟩, ⟨(.some 33), (.bin .mul (.t 29) (.t 32)), none⟩, ⟨(.some 34), (.call true 114 [(.t 24), (.t 33)]), none⟩, ⟨(.some 35), (.lit 2 1 1 [(.int .i64 0)] [(0, (1, (.t 34)))]), none⟩, ⟨(.some 36), (.app 2 1 8 (.t 23) (.t 35)), none⟩, ⟨(.some 6), (.mv (.t 36)), none⟩]))
 (.reg [⟨(.some 21), (.mv (.t 7)), none⟩, ⟨(.some 22), (.bin .add (.t 21) (.c (.lf (.int .i64 1)))), none⟩, ⟨(.some 7), (.mv (.t 22)), none⟩]))))))
 (.seq (.reg [⟨(.some 37), (.mv (.t 6)), none⟩, ⟨(.some 4), (.mv (.t 37)), none⟩, ⟨(.some 5), (.mv (.c (.lf (.bool true)))), none⟩])
 .ret))))), [(.tmp 4), (.tmp 5)]⟩
def L54 : LFn := ⟨2, (.seq (.reg [⟨(.some 4), (.mv (.c (.lf .nils))), none⟩, ⟨(.some 5), (.mv (.c (.lf (.bool false)))), none⟩])
 (.seq (.seq (.reg [⟨(.some 9), (.mv (.t 0)), none⟩, ⟨(.some 10), (.call true 115 [(.t 9)]), none⟩, ⟨(.some 11), (.una .not (.t 10)), none⟩, ⟨(.some 12), (.mv (.t 11)), none⟩, ⟨(.some 13), (.mv (.t 1)), (.some (12, false))⟩, ⟨(.some 14), (.call true 66 [(.t 13)]), (.some (12, false))⟩, ⟨(.some 15), (.una .not (.t 14)), (.some (12, false))⟩, ⟨(.some 16), (.pick (.t 12) (.c (.lf (.bool true))) (.t 15)), none⟩])
 (.cond (.t 16) (.seq (.reg [⟨(.some 4), (.mv (.c (.lf .nils))), none⟩, ⟨(.some 5), (.mv (.c (.lf (.bool false)))), none⟩])
 .ret) .skip))
 (.seq (.reg [⟨(.some 6), (.mv (.c (.lf .nils))), none⟩])
 (.seq (.seq (.reg [⟨(.some 17), (.mv (.t 1)), none⟩, ⟨(.some 18), (.len (.t 17)), none⟩, ⟨(.some 19), (.mv (.c (.lf (.int .i64 0)))), none⟩])
 (.block 0 (.loop (.seq (.reg [⟨(.some 20), (.bin .lss (.t 19) (.t 18)), none⟩])
 (.seq (.cond (.t 20) .skip (.exit 0))
 (.seq (.block 1 (.seq (.reg [⟨(.some 21), (.iaddr 1 (.t 17) (.t 19)), none⟩, ⟨(.some 22), (.load false 1 (.t 21)), none⟩, ⟨(.some 8), (.mv (.t 22)), none⟩])
 (.reg [⟨(.some 23), (.mv (.t 6)), none⟩, ⟨(.some 24), (.mv (.t 0)), none⟩, ⟨(.some 25), (.mv (.t 0)), none⟩, ⟨(.some 26), (.mv (.t 8)), none⟩, ⟨(.some 27), (.call true 117 [(.t 25), (.t 26)]), none⟩, ⟨(.some 28), (.call true 116 [(.t 24), (.t 27)]), none⟩, ⟨(.some 29), (.lit 2 1 1 [(.int .i64 0)] [(0, (1, (.t 28)))]), none⟩, ⟨(.some 30), (.app 2 1 8 (.t 23) (.t 29)), none⟩, ⟨(.some 6), (.mv (.t 30)), none⟩])))
 (.reg [⟨(.some 31), (.bin .add (.t 19) (.c (.lf (.int .i64 1)))), none⟩, ⟨(.some 19), (.mv (.t 31)), none⟩])))))))
 (.seq (.reg [⟨(.some 32), (.mv (.t 6)), none⟩, ⟨(.some 4), (.mv (.t 32)), none⟩, ⟨(.some 5), (.mv (.c (.lf (.bool true)))), none⟩])
 .ret))))), [(.tmp 4), (.tmp 5)]⟩
class HasCo (S : Sys) : Prop extends HasKb S, HasP S where
  f53 : S.fs 53 = some L53
  f54 : S.fs 54 = some L54
noncomputable def cod (b : Int) (x : Nat) : Int := codeN (mst b) (fbin .mul .f64 (wid x) (fofint .f64 (mst b)))
def okCo (b : Int) (n : Nat) : Prop := (2 ≤ b ∧ b ≤ 16) ∧ n ≤ 256
instance {b : Int} {n : Nat} : Decidable (okCo b n) := by unfold okCo; infer_instance
noncomputable def codesOf (b : Int) (xs : List Nat) : List Int := if okCo b xs.length then xs.map (cod b) else []
theorem codesOf_len {b : Int} {xs : List Nat} : (codesOf b xs).length ≤ 256 := by
  unfold codesOf
  split
  · rename_i hk; have := hk.2; simpa using this
  · simp
section
variable {S : Sys} {lim : Nat} {h : Hp} {K : CV → Hp → Prop} [HasCo S] {l : Lf} {xs : List Nat}
theorem c_specCodesOf {b : Int} (hA : Arr h l 1 (xs.map fl)) (hl : lim ≤ h.length) (hT : okCo b xs.length → ∀ o g, New h g o 2 1 ((mapTo (cod b) xs xs.length).map il) → K (.tup [.lf o, .lf (.bool true)]) g) (hF : ¬ okCo b xs.length → K (.tup [.lf .nils, .lf (.bool false)]) h) :
    CallT S false 53 [.lf (.int .i64 b), .lf l] h lim K := by
  by_cases hk : okCo b xs.length
  · have hT2 := hT hk
    clear hT hF
    obtain ⟨⟨h1, h2⟩, h3⟩ := hk
    refine CallT_of_body (F := L53) (HasCo.f53) rfl ?_; unfold L53; dsimp only []
    repeat' (first | (simp (disch := first | omega | assumption | (simp only [List.length_set]; omega) | (simp [*] <;> fail) | assumption) [-Bool.decide_and, -Bool.decide_or, -Bool.not_and, -Bool.not_or, toNat_pred, toNat_succ, wrap64, wr_new, wr_new0, ok_if, ok_ifn, iadV_sl, makeV_int, decT, decF, over_at, *, c_l01Few hA, leavesAll, fillL]) | (with_reducible refine Gd_split (fun hc => ?_) (fun hc => ?_) <;> (have hc2 := hc; try simp at hc2)) | (with_reducible refine Br_split (fun hc => ?_) (fun hc => ?_) <;> (have hc2 := hc; try simp at hc2)) | (with_reducible refine GdT_split (fun hc => ?_) (fun hc => ?_) <;> (have hc2 := hc; try simp at hc2)) | (with_reducible refine WT_alt ?_ ?_) | omega)
    refine WL_forM 137438822592 (by decide +kernel) (xs.length) (fun i b' g => i ≤ xs.length ∧ b' 7 = .lf (.int .i64 i) ∧ ∃ o, b' 6 = .lf o ∧ New h g o 2 1 ((mapTo (cod b) xs i).map il)) (fun _ _ _ hi => hi.1) ⟨by simp, by simp, .sl h.length 0 0 1, by simp, by simpa using New.lit0⟩ ?_
    rintro i b' g ⟨hi, e7, o, e6, hN⟩
    have hA1 := hA.kept hN.kept
    have hlo := mapTo_len' (f := cod b) hi
    by_cases hlt : i < xs.length
    · have s1 := mapTo_il (f := cod b) hlt
      have cc := fun h K => c_l06Code (S := S) (lim := lim) (h := h) (K := K) (v := fbin .mul .f64 (wid xs[i]) (fofint .f64 (mst b))) h1 h2 CD_bin
      have hcd : codeN (mst b) (fbin .mul .f64 (wid xs[i]) (fofint .f64 (mst b))) = cod b xs[i] := rfl
      generalize cod b xs[i] = y at *
      clear hT2
      repeat' (first | (simp (disch := first | omega | assumption | (simp only [List.length_set]; omega) | (simp [*] <;> fail) | assumption) [-Bool.decide_and, -Bool.decide_or, -Bool.not_and, -Bool.not_or, toNat_pred, toNat_succ, wrap64, wr_new, wr_new0, ok_if, ok_ifn, iadV_sl, makeV_int, decT, decF, over_at, *, hA1.len, hA1.at_, hA1.at_', hA1.rd, hA1.rdIn, hA1.rdIn0, hA1.rdA, hA1.rdInA, hA1.rdIn0A, hA1.rd1, fl, c_l06Most h1 h2, leavesAll, fillL]) | (with_reducible refine Gd_split (fun hc => ?_) (fun hc => ?_) <;> (have hc2 := hc; try simp at hc2)) | (with_reducible refine Br_split (fun hc => ?_) (fun hc => ?_) <;> (have hc2 := hc; try simp at hc2)) | (with_reducible refine GdT_split (fun hc => ?_) (fun hc => ?_) <;> (have hc2 := hc; try simp at hc2)) | (with_reducible refine WT_alt ?_ ?_) | omega)
      refine oc_push hN hl (by simp; omega) fun p g1 hP hC => ?_
      rw [← s1] at hP
      clear s1
      repeat' (first | (simp (disch := first | omega | assumption | (simp only [List.length_set]; omega) | (simp [*] <;> fail) | assumption) [-Bool.decide_and, -Bool.decide_or, -Bool.not_and, -Bool.not_or, toNat_pred, toNat_succ, wrap64, wr_new, wr_new0, ok_if, ok_ifn, iadV_sl, makeV_int, decT, decF, over_at, *]) | (with_reducible refine Gd_split (fun hc => ?_) (fun hc => ?_) <;> (have hc2 := hc; try simp at hc2)) | (with_reducible refine Br_split (fun hc => ?_) (fun hc => ?_) <;> (have hc2 := hc; try simp at hc2)) | (with_reducible refine GdT_split (fun hc => ?_) (fun hc => ?_) <;> (have hc2 := hc; try simp at hc2)) | (with_reducible refine WT_alt ?_ ?_) | omega)
      all_goals ((repeat' apply And.intro) <;> first | omega | assumption)
    · have : i = xs.length := by omega
      subst this
      repeat' (first | (simp (disch := first | omega | assumption | (simp only [List.length_set]; omega) | (simp [*] <;> fail) | assumption) [-Bool.decide_and, -Bool.decide_or, -Bool.not_and, -Bool.not_or, toNat_pred, toNat_succ, wrap64, wr_new, wr_new0, ok_if, ok_ifn, iadV_sl, makeV_int, decT, decF, over_at, *, hA1.len]) | (with_reducible refine Gd_split (fun hc => ?_) (fun hc => ?_) <;> (have hc2 := hc; try simp at hc2)) | (with_reducible refine Br_split (fun hc => ?_) (fun hc => ?_) <;> (have hc2 := hc; try simp at hc2)) | (with_reducible refine GdT_split (fun hc => ?_) (fun hc => ?_) <;> (have hc2 := hc; try simp at hc2)) | (with_reducible refine WT_alt ?_ ?_) | omega)
      all_goals ((repeat' apply And.intro) <;> first | omega | assumption | exact hT2 _ _ hN)
  · have hF2 := hF hk
    clear hT hF
    refine CallT_of_body (F := L53) (HasCo.f53) rfl ?_; unfold L53; dsimp only []
    by_cases h1 : 2 ≤ b ∧ b ≤ 16
    · have h2 : ¬ ((xs.length : Int) ≤ 256) := fun q => hk ⟨h1, by omega⟩
      repeat' (first | (simp (disch := first | omega | assumption | (simp only [List.length_set]; omega) | (simp [*] <;> fail) | assumption) [-Bool.decide_and, -Bool.decide_or, -Bool.not_and, -Bool.not_or, toNat_pred, toNat_succ, wrap64, wr_new, wr_new0, ok_if, ok_ifn, iadV_sl, makeV_int, decT, decF, over_at, *, c_l01Few hA]) | (with_reducible refine Gd_split (fun hc => ?_) (fun hc => ?_) <;> (have hc2 := hc; try simp at hc2)) | (with_reducible refine Br_split (fun hc => ?_) (fun hc => ?_) <;> (have hc2 := hc; try simp at hc2)) | (with_reducible refine GdT_split (fun hc => ?_) (fun hc => ?_) <;> (have hc2 := hc; try simp at hc2)) | (with_reducible refine WT_alt ?_ ?_) | omega)
    · repeat' (first | (simp (disch := first | omega | assumption | (simp only [List.length_set]; omega) | (simp [*] <;> fail) | assumption) [-Bool.decide_and, -Bool.decide_or, -Bool.not_and, -Bool.not_or, toNat_pred, toNat_succ, wrap64, wr_new, wr_new0, ok_if, ok_ifn, iadV_sl, makeV_int, decT, decF, over_at, *, c_l01Few hA]) | (with_reducible refine Gd_split (fun hc => ?_) (fun hc => ?_) <;> (have hc2 := hc; try simp at hc2)) | (with_reducible refine Br_split (fun hc => ?_) (fun hc => ?_) <;> (have hc2 := hc; try simp at hc2)) | (with_reducible refine GdT_split (fun hc => ?_) (fun hc => ?_) <;> (have hc2 := hc; try simp at hc2)) | (with_reducible refine WT_alt ?_ ?_) | omega)
theorem c_implCodesOf {b : Int} (hA : Arr h l 1 (xs.map fl)) (hl : lim ≤ h.length) (hT : okCo b xs.length → ∀ o g, New h g o 2 1 ((mapTo (cod b) xs xs.length).map il) → K (.tup [.lf o, .lf (.bool true)]) g) (hF : ¬ okCo b xs.length → K (.tup [.lf .nils, .lf (.bool false)]) h) :
    CallT S false 54 [.lf (.int .i64 b), .lf l] h lim K := by
  by_cases hk : okCo b xs.length
  · have hT2 := hT hk
    clear hT hF
    obtain ⟨⟨h1, h2⟩, h3⟩ := hk
    refine CallT_of_body (F := L54) (HasCo.f54) rfl ?_; unfold L54; dsimp only []
    repeat' (first | (simp (disch := first | omega | assumption | (simp only [List.length_set]; omega) | (simp [*] <;> fail) | assumption) [-Bool.decide_and, -Bool.decide_or, -Bool.not_and, -Bool.not_or, toNat_pred, toNat_succ, wrap64, wr_new, wr_new0, ok_if, ok_ifn, iadV_sl, makeV_int, decT, decF, over_at, *, c_areSamples hA, hA.len]) | (with_reducible refine Gd_split (fun hc => ?_) (fun hc => ?_) <;> (have hc2 := hc; try simp at hc2)) | (with_reducible refine Br_split (fun hc => ?_) (fun hc => ?_) <;> (have hc2 := hc; try simp at hc2)) | (with_reducible refine GdT_split (fun hc => ?_) (fun hc => ?_) <;> (have hc2 := hc; try simp at hc2)) | (with_reducible refine WT_alt ?_ ?_) | omega)
    refine WL_forM 4294443328 (by decide +kernel) (xs.length) (fun i b' g => i ≤ xs.length ∧ b' 19 = .lf (.int .i64 i) ∧ ∃ o, b' 6 = .lf o ∧ New h g o 2 1 ((mapTo (cod b) xs i).map il)) (fun _ _ _ hi => hi.1) ⟨by simp, by simp, .nils, by simp, by simpa using New.nil (Kept.refl h)⟩ ?_
    rintro i b' g ⟨hi, e7, o, e6, hN⟩
    have hA1 := hA.kept hN.kept
    have hlo := mapTo_len' (f := cod b) hi
    by_cases hlt : i < xs.length
    · have s1 := mapTo_il (f := cod b) hlt
      have cc := fun h K => c_codeOf (S := S) (lim := lim) (h := h) (K := K) (v := fbin .mul .f64 (wid xs[i]) (fofint .f64 (mst b))) h1 h2 CD_bin
      have hcd : codeN (mst b) (fbin .mul .f64 (wid xs[i]) (fofint .f64 (mst b))) = cod b xs[i] := rfl
      generalize cod b xs[i] = y at *
      clear hT2
      repeat' (first | (simp (disch := first | omega | assumption | (simp only [List.length_set]; omega) | (simp [*] <;> fail) | assumption) [-Bool.decide_and, -Bool.decide_or, -Bool.not_and, -Bool.not_or, toNat_pred, toNat_succ, wrap64, wr_new, wr_new0, ok_if, ok_ifn, iadV_sl, makeV_int, decT, decF, over_at, *, hA1.len, hA1.at_, hA1.at_', hA1.rd, hA1.rdIn, hA1.rdIn0, hA1.rdA, hA1.rdInA, hA1.rdIn0A, hA1.rd1, fl, c_raised h1 h2, leavesAll, fillL]) | (with_reducible refine Gd_split (fun hc => ?_) (fun hc => ?_) <;> (have hc2 := hc; try simp at hc2)) | (with_reducible refine Br_split (fun hc => ?_) (fun hc => ?_) <;> (have hc2 := hc; try simp at hc2)) | (with_reducible refine GdT_split (fun hc => ?_) (fun hc => ?_) <;> (have hc2 := hc; try simp at hc2)) | (with_reducible refine WT_alt ?_ ?_) | omega)
      refine oc_push hN hl (by simp; omega) fun p g1 hP hC => ?_
      rw [← s1] at hP
      clear s1
      repeat' (first | (simp (disch := first | omega | assumption | (simp only [List.length_set]; omega) | (simp [*] <;> fail) | assumption) [-Bool.decide_and, -Bool.decide_or, -Bool.not_and, -Bool.not_or, toNat_pred, toNat_succ, wrap64, wr_new, wr_new0, ok_if, ok_ifn, iadV_sl, makeV_int, decT, decF, over_at, *]) | (with_reducible refine Gd_split (fun hc => ?_) (fun hc => ?_) <;> (have hc2 := hc; try simp at hc2)) | (with_reducible refine Br_split (fun hc => ?_) (fun hc => ?_) <;> (have hc2 := hc; try simp at hc2)) | (with_reducible refine GdT_split (fun hc => ?_) (fun hc => ?_) <;> (have hc2 := hc; try simp at hc2)) | (with_reducible refine WT_alt ?_ ?_) | omega)
      all_goals ((repeat' apply And.intro) <;> first | omega | assumption)
    · have : i = xs.length := by omega
      subst this
      repeat' (first | (simp (disch := first | omega | assumption | (simp only [List.length_set]; omega) | (simp [*] <;> fail) | assumption) [-Bool.decide_and, -Bool.decide_or, -Bool.not_and, -Bool.not_or, toNat_pred, toNat_succ, wrap64, wr_new, wr_new0, ok_if, ok_ifn, iadV_sl, makeV_int, decT, decF, over_at, *, hA1.len]) | (with_reducible refine Gd_split (fun hc => ?_) (fun hc => ?_) <;> (have hc2 := hc; try simp at hc2)) | (with_reducible refine Br_split (fun hc => ?_) (fun hc => ?_) <;> (have hc2 := hc; try simp at hc2)) | (with_reducible refine GdT_split (fun hc => ?_) (fun hc => ?_) <;> (have hc2 := hc; try simp at hc2)) | (with_reducible refine WT_alt ?_ ?_) | omega)
      all_goals ((repeat' apply And.intro) <;> first | omega | assumption | exact hT2 _ _ hN)
  · have hF2 := hF hk
    clear hT hF
    refine CallT_of_body (F := L54) (HasCo.f54) rfl ?_; unfold L54; dsimp only []
    by_cases h1 : 2 ≤ b ∧ b ≤ 16
    · have h2 : ¬ ((xs.length : Int) ≤ 256) := fun q => hk ⟨h1, by omega⟩
      repeat' (first | (simp (disch := first | omega | assumption | (simp only [List.length_set]; omega) | (simp [*] <;> fail) | assumption) [-Bool.decide_and, -Bool.decide_or, -Bool.not_and, -Bool.not_or, toNat_pred, toNat_succ, wrap64, wr_new, wr_new0, ok_if, ok_ifn, iadV_sl, makeV_int, decT, decF, over_at, *, c_areSamples hA]) | (with_reducible refine Gd_split (fun hc => ?_) (fun hc => ?_) <;> (have hc2 := hc; try simp at hc2)) | (with_reducible refine Br_split (fun hc => ?_) (fun hc => ?_) <;> (have hc2 := hc; try simp at hc2)) | (with_reducible refine GdT_split (fun hc => ?_) (fun hc => ?_) <;> (have hc2 := hc; try simp at hc2)) | (with_reducible refine WT_alt ?_ ?_) | omega)
    · repeat' (first | (simp (disch := first | omega | assumption | (simp only [List.length_set]; omega) | (simp [*] <;> fail) | assumption) [-Bool.decide_and, -Bool.decide_or, -Bool.not_and, -Bool.not_or, toNat_pred, toNat_succ, wrap64, wr_new, wr_new0, ok_if, ok_ifn, iadV_sl, makeV_int, decT, decF, over_at, *, c_areSamples hA]) | (with_reducible refine Gd_split (fun hc => ?_) (fun hc => ?_) <;> (have hc2 := hc; try simp at hc2)) | (with_reducible refine Br_split (fun hc => ?_) (fun hc => ?_) <;> (have hc2 := hc; try simp at hc2)) | (with_reducible refine GdT_split (fun hc => ?_) (fun hc => ?_) <;> (have hc2 := hc; try simp at hc2)) | (with_reducible refine WT_alt ?_ ?_) | omega)
theorem d_specCodesOf {b : Int} (hA : Arr h l 1 (xs.map fl)) (hl : lim ≤ h.length) (hK : ∀ o g, New h g o 2 1 ((codesOf b xs).map il) → K (.tup [.lf o, .lf (.bool (decide (okCo b xs.length)))]) g) :
    CallT S false 53 [.lf (.int .i64 b), .lf l] h lim K :=
  c_specCodesOf hA hl (fun hk o g hN => by simpa [hk] using hK o g (by rw [mapTo_all] at hN; rw [codesOf, if_pos hk]; exact hN)) (fun hk => by simpa [hk] using hK .nils h (by rw [codesOf, if_neg hk]; exact New.nil (Kept.refl h)))
theorem d_implCodesOf {b : Int} (hA : Arr h l 1 (xs.map fl)) (hl : lim ≤ h.length) (hK : ∀ o g, New h g o 2 1 ((codesOf b xs).map il) → K (.tup [.lf o, .lf (.bool (decide (okCo b xs.length)))]) g) :
    CallT S false 54 [.lf (.int .i64 b), .lf l] h lim K :=
  c_implCodesOf hA hl (fun hk o g hN => by simpa [hk] using hK o g (by rw [mapTo_all] at hN; rw [codesOf, if_pos hk]; exact hN)) (fun hk => by simpa [hk] using hK .nils h (by rw [codesOf, if_neg hk]; exact New.nil (Kept.refl h)))
end
end Go.E
