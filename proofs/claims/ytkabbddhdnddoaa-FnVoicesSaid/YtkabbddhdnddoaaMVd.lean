/- What the law of voices makes of notes: plain lemmas. -/
import Derived.Test.YtkabbddhdnddoaaMDv
set_option linter.unusedVariables false
set_option linter.unusedSimpArgs false
namespace Go.E
open Go
/-- One is added, in the first m places, from b on and ahead of e. -/
def addI (b : Nat) (e : Int) (out : List Int) (m : Nat) : List Int := tabTo (fun j => if j < m ∧ b ≤ j ∧ (j : Int) < e then out.getD j 0 + 1 else out.getD j 0) out.length
@[simp] theorem addI_len {b : Nat} {e : Int} {out : List Int} {m : Nat} : (addI b e out m).length = out.length := tabTo_len
theorem addI_get {b : Nat} {e : Int} {out : List Int} {m j : Nat} (hj : j < (addI b e out m).length) : (addI b e out m)[j] = if j < m ∧ b ≤ j ∧ (j : Int) < e then out.getD j 0 + 1 else out.getD j 0 := by simp [addI, tabTo]
theorem addI_low {b : Nat} {e : Int} {out : List Int} : addI b e out 0 = out := by
  apply List.ext_getElem
  · simp
  · intro j h1 h2
    rw [addI_get, if_neg (by omega)]
    simp [h2]
theorem addI_no {b : Nat} {e : Int} {out : List Int} {m : Nat} (h : ¬ (b ≤ m ∧ (m : Int) < e)) : addI b e out (m + 1) = addI b e out m := by
  apply List.ext_getElem
  · simp
  · intro j h1 h2
    rw [addI_get, addI_get]
    by_cases q : j < m ∧ b ≤ j ∧ (j : Int) < e
    · rw [if_pos q, if_pos (by omega)]
    · have q3 : ¬ (j < m + 1 ∧ b ≤ j ∧ (j : Int) < e) := by
        intro q2
        by_cases e2 : j = m
        · subst e2; exact h q2.2
        · exact q ⟨by omega, q2.2⟩
      rw [if_neg q, if_neg q3]
theorem addI_yes {b : Nat} {e : Int} {out : List Int} {m : Nat} (h : b ≤ m ∧ (m : Int) < e) (h1 : m < out.length) : addI b e out (m + 1) = (addI b e out m).set m ((addI b e out m)[m]'(by simpa using h1) + 1) := by
  apply List.ext_getElem
  · simp
  · intro j g1 g2
    rw [addI_get, List.getElem_set]
    by_cases e2 : m = j
    · subst e2
      rw [if_pos ⟨by omega, h⟩, if_pos rfl, addI_get, if_neg (by omega)]
    · rw [if_neg e2, addI_get]
      by_cases q : j < m ∧ b ≤ j ∧ (j : Int) < e
      · rw [if_pos q, if_pos (by omega)]
      · rw [if_neg q, if_neg (by intro q2; exact q ⟨by omega, q2.2⟩)]
def sndL (ps : List Nt) (E : List Int) (i : Nat) : List Int := tabTo (fun t => ((sndTo ps E t i : Nat) : Int)) 60
@[simp] theorem sndL_len {ps : List Nt} {E : List Int} {i : Nat} : (sndL ps E i).length = 60 := tabTo_len
theorem sndL_get {ps : List Nt} {E : List Int} {i j : Nat} (hj : j < (sndL ps E i).length) : (sndL ps E i)[j] = ((sndTo ps E j i : Nat) : Int) := by simp [sndL, tabTo]
theorem sndL_succ {ps : List Nt} {E : List Int} {i B : Nat} (hi : i < ps.length) (hB : (B : Int) = ps[i].st) : sndL ps E (i + 1) = addI B (E.getD i 0) (sndL ps E i) 60 := by
  apply List.ext_getElem
  · simp
  · intro j h1 h2
    have hj : j < 60 := by simpa using h1
    rw [sndL_get, addI_get, snd_succ hi]
    have hg : (sndL ps E i).getD j 0 = ((sndTo ps E j i : Nat) : Int) := by
      rw [List.getD_eq_getElem?_getD, List.getElem?_eq_getElem (by simpa using hj), Option.getD_some, sndL_get]
    rw [hg]
    by_cases c : ps[i].st ≤ (j : Int) ∧ (j : Int) < E.getD i 0
    · rw [if_pos c, if_pos ⟨hj, by omega, c.2⟩]; simp
    · rw [if_neg c, if_neg (fun q => c ⟨by omega, q.2.2⟩)]
theorem snd_small {ps : List Nt} {E cur3 : List Int} {i B m : Nat} {ee : Int} (hc : sndL ps E i = cur3) (hi : i ≤ 100) (hm : m < (addI B ee cur3 m).length) : 0 ≤ (addI B ee cur3 m)[m] ∧ (addI B ee cur3 m)[m] ≤ 100 := by
  subst hc
  have hm2 : m < (sndL ps E i).length := by simpa using hm
  have hle : ∀ i, sndTo ps E m i ≤ i := by
    intro i
    induction i with
    | zero => exact Nat.le_refl _
    | succ i ih =>
      simp only [sndTo]
      split
      · split <;> omega
      · omega
  rw [addI_get, if_neg (by omega), List.getD_eq_getElem?_getD, List.getElem?_eq_getElem hm2, Option.getD_some, sndL_get]
  have := hle i
  omega
section
variable {S : Sys} {lim : Nat} {h : Hp} {K : CV → Hp → Prop} [HasDr S] {l l2 : Lf} {cs ds : List Int}
theorem c_b10Long (hA : Arr h l 1 (cs.map ul)) (hB : Arr h l2 1 (ds.map ul)) : CallT S true 6 [.lf l, .lf l2] h lim K = K (.lf (.bool (decide (1048576 < (cs.length : Int)) || decide (1048576 < (ds.length : Int))))) h := by
  by_cases h1 : (1048576 : Int) < cs.length
  · rw [decide_eq_true h1, Bool.true_or]
    refine CallT_pure (F := L6) (HasDr.f6) rfl (by first | rfl | (split <;> rfl) | simp) ?_; unfold L6; dsimp only []
    repeat' (first | (simp (disch := first | omega | assumption | (simp only [List.length_set]; omega) | (simp [*] <;> fail) | assumption) [-Bool.decide_and, -Bool.decide_or, -Bool.not_and, -Bool.not_or, toNat_pred, toNat_succ, wrap64, wr_new, wr_new0, ok_if, ok_ifn, iadV_sl, makeV_int, decT, decF, over_at, *, hA.len, hB.len]) | (with_reducible refine Gd_split (fun hc => ?_) (fun hc => ?_) <;> (have hc2 := hc; try simp at hc2)) | (with_reducible refine Br_split (fun hc => ?_) (fun hc => ?_) <;> (have hc2 := hc; try simp at hc2)) | (with_reducible refine GdT_split (fun hc => ?_) (fun hc => ?_) <;> (have hc2 := hc; try simp at hc2)) | (with_reducible refine WT_alt ?_ ?_) | omega)
  · rw [decide_eq_false h1, Bool.false_or]
    refine CallT_pure (F := L6) (HasDr.f6) rfl (by first | rfl | (split <;> rfl) | simp) ?_; unfold L6; dsimp only []
    repeat' (first | (simp (disch := first | omega | assumption | (simp only [List.length_set]; omega) | (simp [*] <;> fail) | assumption) [-Bool.decide_and, -Bool.decide_or, -Bool.not_and, -Bool.not_or, toNat_pred, toNat_succ, wrap64, wr_new, wr_new0, ok_if, ok_ifn, iadV_sl, makeV_int, decT, decF, over_at, *, hA.len, hB.len]) | (with_reducible refine Gd_split (fun hc => ?_) (fun hc => ?_) <;> (have hc2 := hc; try simp at hc2)) | (with_reducible refine Br_split (fun hc => ?_) (fun hc => ?_) <;> (have hc2 := hc; try simp at hc2)) | (with_reducible refine GdT_split (fun hc => ?_) (fun hc => ?_) <;> (have hc2 := hc; try simp at hc2)) | (with_reducible refine WT_alt ?_ ?_) | omega)
theorem c_b10At {k n : Nat} (hA : Arr h l 1 (cs.map ul)) (hc : ∀ c ∈ cs, 0 ≤ c ∧ c < 256) (hn : 1 < n) (hn2 : n ≤ 200) (hk : k ≤ 100) : ∃ v : Nat, v < n ∧ ∀ g, Kept h g → ∀ lim K, CallT S true 9 [.lf l, .lf (.int .i64 k), .lf (.int .i64 n)] g lim K = K (.lf (.int .i64 v)) g := by
  have hn' : ¬ (n : Int) ≤ 1 := by omega
  have hn0 : ¬ (n : Int) = 0 := by omega
  by_cases hlt : k < cs.length
  · obtain ⟨c0, c1⟩ := hc _ (List.getElem_mem hlt)
    obtain ⟨c, hcv⟩ := Int.eq_ofNat_of_zero_le c0
    refine ⟨c % n, Nat.mod_lt _ (by omega), fun g kg lim K => ?_⟩
    have hA1 := hA.kept kg
    have ht : (c : Int).tmod (n : Int) = ((c % n : Nat) : Int) := by rw [Int.ofNat_tmod]
    have hk' : ¬ (cs.length : Int) ≤ k := by omega
    have hr := hA1.rd1 hlt
    rw [hcv] at hr
    simp only [ul] at hr
    refine CallT_pure (F := L9) (HasDr.f9) rfl (by first | rfl | (split <;> rfl) | simp) ?_; unfold L9; dsimp only []
    repeat' (first | (simp (disch := first | omega | assumption | (simp only [List.length_set]; omega) | (simp [*] <;> fail) | assumption) [-Bool.decide_and, -Bool.decide_or, -Bool.not_and, -Bool.not_or, toNat_pred, toNat_succ, wrap64, wr_new, wr_new0, ok_if, ok_ifn, iadV_sl, makeV_int, decT, decF, over_at, *, hA1.len, hA1.at_, hA1.at_', hA1.rd, hA1.rdIn, hA1.rdIn0, hA1.rdA, hA1.rdInA, hA1.rdIn0A]) | (with_reducible refine Gd_split (fun hc => ?_) (fun hc => ?_) <;> (have hc2 := hc; try simp at hc2)) | (with_reducible refine Br_split (fun hc => ?_) (fun hc => ?_) <;> (have hc2 := hc; try simp at hc2)) | (with_reducible refine GdT_split (fun hc => ?_) (fun hc => ?_) <;> (have hc2 := hc; try simp at hc2)) | (with_reducible refine WT_alt ?_ ?_) | omega)
  · refine ⟨(k * 37 + 11) % n, Nat.mod_lt _ (by omega), fun g kg lim K => ?_⟩
    have hA1 := hA.kept kg
    have hk' : (cs.length : Int) ≤ k := by omega
    have ht : ((k : Int) * 37 + 11).tmod (n : Int) = (((k * 37 + 11) % n : Nat) : Int) := by rw [show (k : Int) * 37 + 11 = ((k * 37 + 11 : Nat) : Int) by omega, Int.ofNat_tmod]
    refine CallT_pure (F := L9) (HasDr.f9) rfl (by first | rfl | (split <;> rfl) | simp) ?_; unfold L9; dsimp only []
    repeat' (first | (simp (disch := first | omega | assumption | (simp only [List.length_set]; omega) | (simp [*] <;> fail) | assumption) [-Bool.decide_and, -Bool.decide_or, -Bool.not_and, -Bool.not_or, toNat_pred, toNat_succ, wrap64, wr_new, wr_new0, ok_if, ok_ifn, iadV_sl, makeV_int, decT, decF, over_at, *, hA1.len]) | (with_reducible refine Gd_split (fun hc => ?_) (fun hc => ?_) <;> (have hc2 := hc; try simp at hc2)) | (with_reducible refine Br_split (fun hc => ?_) (fun hc => ?_) <;> (have hc2 := hc; try simp at hc2)) | (with_reducible refine GdT_split (fun hc => ?_) (fun hc => ?_) <;> (have hc2 := hc; try simp at hc2)) | (with_reducible refine WT_alt ?_ ?_) | omega)
end
end Go.E
