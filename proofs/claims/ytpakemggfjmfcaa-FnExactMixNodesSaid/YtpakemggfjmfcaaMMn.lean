/- MixNodes, both sides. -/
import Derived.Test.YtpakemggfjmfcaaMMx
import Derived.Test.YtpakemggfjmfcaaMDm
set_option linter.unusedVariables false
set_option linter.unusedSimpArgs false
namespace Go.E
open Go
def L55 : LFn := ⟨2, (.seq (.reg [⟨(.some 4), (.mv (.c (.lf .nils))), none⟩, ⟨(.some 5), (.mv (.c (.lf (.bool false)))), none⟩])
 (.seq (.seq (.reg [⟨(.some 7), (.mv (.t 0)), none⟩, ⟨(.some 8), (.len (.t 7)), none⟩, ⟨(.some 9), (.mv (.t 1)), none⟩, ⟨(.some 10), (.call true 126 [(.t 8), (.t 9)]), none⟩, ⟨(.some 11), (.una .not (.t 10)), none⟩])
 (.cond (.t 11) (.seq (.reg [⟨(.some 4), (.mv (.c (.lf .nils))), none⟩, ⟨(.some 5), (.mv (.c (.lf (.bool false)))), none⟩])
 .ret) .skip))
 (.seq (.seq (.reg [⟨(.some 12), (.mv (.t 0)), none⟩, ⟨(.some 13), (.len (.t 12)), none⟩, ⟨(.some 14), (.mv (.c (.lf (.int .i64 0)))), none⟩])
 (.block 0 (.loop (.seq (.reg [⟨(.some 15), (.bin .lss (.t 14) (.t 13)), none⟩])
 (.seq (.cond (.t 15) .skip (.exit 0))
 (.seq (.block 1 (.seq (.reg [⟨(.some 16), (.mv (.t 14)), none⟩, ⟨(.some 6), (.mv (.t 16)), none⟩])
 (.seq (.reg [⟨(.some 17), (.mv (.t 0)), none⟩, ⟨(.some 18), (.mv (.t 6)), none⟩, ⟨(.some 19), (.iaddr 1 (.t 17) (.t 18)), none⟩, ⟨(.some 20), (.load false 1 (.t 19)), none⟩, ⟨(.some 21), (.call true 86 [(.t 20)]), none⟩, ⟨(.some 22), (.una .not (.t 21)), none⟩, ⟨(.some 23), (.mv (.t 22)), none⟩, ⟨(.some 24), (.mv (.t 0)), (.some (23, false))⟩, ⟨(.some 25), (.mv (.t 6)), (.some (23, false))⟩, ⟨(.some 26), (.iaddr 1 (.t 24) (.t 25)), (.some (23, false))⟩, ⟨(.some 27), (.load false 1 (.t 26)), (.some (23, false))⟩, ⟨(.some 28), (.len (.t 27)), (.some (23, false))⟩, ⟨(.some 29), (.mv (.t 0)), (.some (23, false))⟩, ⟨(.some 30), (.iaddr 1 (.t 29) (.c (.lf (.int .i64 0)))), (.some (23, false))⟩, ⟨(.some 31), (.load false 1 (.t 30)), (.some (23, false))⟩, ⟨(.some 32), (.len (.t 31)), (.some (23, false))⟩, ⟨(.some 33), (.bin .neq (.t 28) (.t 32)), (.some (23, false))⟩, ⟨(.some 34), (.pick (.t 23) (.c (.lf (.bool true))) (.t 33)), none⟩])
 (.cond (.t 34) (.seq (.reg [⟨(.some 4), (.mv (.c (.lf .nils))), none⟩, ⟨(.some 5), (.mv (.c (.lf (.bool false)))), none⟩])
 .ret) .skip))))
 (.reg [⟨(.some 35), (.bin .add (.t 14) (.c (.lf (.int .i64 1)))), none⟩, ⟨(.some 14), (.mv (.t 35)), none⟩])))))))
 (.seq (.reg [⟨(.some 36), (.mv (.t 0)), none⟩, ⟨(.some 37), (.mv (.t 1)), none⟩, ⟨(.some 38), (.call false 127 [(.t 36), (.t 37)]), none⟩, ⟨(.some 4), (.mv (.t 38)), none⟩, ⟨(.some 5), (.mv (.c (.lf (.bool true)))), none⟩])
 .ret)))), [(.tmp 4), (.tmp 5)]⟩
def L57 : LFn := ⟨2, (.seq (.reg [⟨(.some 4), (.mv (.c (.lf .nils))), none⟩, ⟨(.some 5), (.mv (.c (.lf (.bool false)))), none⟩])
 (.seq (.seq (.reg [⟨(.some 8), (.mv (.t 0)), none⟩, ⟨(.some 9), (.len (.t 8)), none⟩, ⟨(.some 10), (.call true 130 [(.t 9)]), none⟩, ⟨(.some 11), (.mv (.t 1)), none⟩, ⟨(.some 12), (.call true 129 [(.t 10), (.t 11)]), none⟩, ⟨(.some 13), (.una .not (.t 12)), none⟩, ⟨(.some 14), (.mv (.t 13)), none⟩, ⟨(.some 15), (.mv (.t 0)), (.some (14, false))⟩, ⟨(.some 16), (.iaddr 1 (.t 15) (.c (.lf (.int .i64 0)))), (.some (14, false))⟩, ⟨(.some 17), (.load false 1 (.t 16)), (.some (14, false))⟩, ⟨(.some 18), (.call true 89 [(.t 17)]), (.some (14, false))⟩, ⟨(.some 19), (.una .not (.t 18)), (.some (14, false))⟩, ⟨(.some 20), (.pick (.t 14) (.c (.lf (.bool true))) (.t 19)), none⟩])
 (.cond (.t 20) (.seq (.reg [⟨(.some 4), (.mv (.c (.lf .nils))), none⟩, ⟨(.some 5), (.mv (.c (.lf (.bool false)))), none⟩])
 .ret) .skip))
 (.seq (.seq (.reg [⟨(.some 21), (.mv (.t 0)), none⟩, ⟨(.some 22), (.len (.t 21)), none⟩, ⟨(.some 23), (.mv (.c (.lf (.int .i64 0)))), none⟩])
 (.block 0 (.loop (.seq (.reg [⟨(.some 24), (.bin .lss (.t 23) (.t 22)), none⟩])
 (.seq (.cond (.t 24) .skip (.exit 0))
 (.seq (.block 1 (.seq (.reg [⟨(.some 25), (.iaddr 1 (.t 21) (.t 23)), none⟩, ⟨(.some 26), (.load false 1 (.t 25)), none⟩, ⟨(.some 7), (.mv (.t 26)), none⟩])
 (.seq (.reg [⟨(.some 27), (.mv (.t 7)), none⟩, ⟨(.some 28), (.len (.t 27)), none⟩, ⟨(.some 29), (.mv (.t 0)), none⟩, ⟨(.some 30), (.iaddr 1 (.t 29) (.c (.lf (.int .i64 0)))), none⟩, ⟨(.some 31), (.load false 1 (.t 30)), none⟩, ⟨(.some 32), (.len (.t 31)), none⟩, ⟨(.some 33), (.bin .neq (.t 28) (.t 32)), none⟩])
 (.cond (.t 33) (.seq (.reg [⟨(.some 4), (.mv (.c (.lf .nils))), none⟩, ⟨(.some 5), (.mv (.c (.lf (.bool false)))), none⟩])
 .ret) .skip))))
 (.reg [⟨(.some 34), (.bin .add (.t 23) (.c (.lf (.int .i64 1)))), none⟩, ⟨(.some 23), (.mv (.t 34)), none⟩])))))))
 (.seq (.reg [⟨(.some 35), (.mv (.t 0)), none⟩, ⟨(.some 36), (.mv (.t 1)), none⟩, ⟨(.some 37), (.call false 131 [(.t 35), (.t 36)]), none⟩, ⟨(.some 4), (.mv (.t 37)), none⟩, ⟨(.some 5), (.mv (.c (.lf (.bool true)))), none⟩])
 .ret)))), [(.tmp 4), (.tmp 5)]⟩
class HasMn (S : Sys) : Prop extends HasS S, HasP S, HasMx S where
  f55 : S.fs 55 = some L55
  f57 : S.fs 57 = some L57
def okMn (xss : List (List Nat)) (ss : List Snd) : Prop := areSends xss.length ss ∧ ∀ x ∈ xss, x.length ≤ 256 ∧ x.length = (xss.headD []).length
noncomputable instance (xss : List (List Nat)) (ss : List Snd) : Decidable (okMn xss ss) := Classical.propDecidable _
noncomputable def mnR (xss : List (List Nat)) (ss : List Snd) : List (List Nat) := if okMn xss ss then mixL ss xss else []
theorem mnR_small {xss : List (List Nat)} {ss : List Snd} : (mnR xss ss).length ≤ 8 ∧ ∀ x ∈ mnR xss ss, x.length ≤ 256 := by
  unfold mnR
  split
  · rename_i hok
    have h1 := hok.1.1.2
    refine ⟨by rw [mixL, mixTo_len (Nat.le_refl _)]; omega, fun x hx => ?_⟩
    have h2 := mixTo_each (ss := ss) (m := (xss.headD []).length) (fun x hx => (hok.2 x hx).2) (Nat.le_refl _) x hx
    cases xss with
    | nil =>
      simp [mixL, mixTo] at hx
    | cons y r => have := (hok.2 y (by simp)).1; simp at h2; omega
  · simp
section
variable {S : Sys} {lim : Nat} {h : Hp} {K : CV → Hp → Prop} [HasMn S] {l l2 : Lf} {ps : List (List Nat × Lf)} {ss : List Snd}
theorem headD_fst (h0 : 0 < ps.length) : (ps.map (·.1)).headD [] = ps[0].1 := by
  cases ps with
  | nil => simp at h0
  | cons p r => rfl
set_option maxHeartbeats 2000000 in
theorem c_specMixNodes (hA : Arr h l 1 (ps.map ssCells)) (hI : Sms h ssRows ps) (hB : Arr h l2 3 (ss.map Snd.cells)) (hl : lim ≤ h.length)
    (hK : ∀ o g qs, NewD h g o 27 1 ssCells ssRows 22 qs → qs.map (·.1) = mnR (ps.map (·.1)) ss → K (.tup [.lf o, .lf (.bool (decide (okMn (ps.map (·.1)) ss)))]) g) : CallT S false 55 [.lf l, .lf l2] h lim K := by
  by_cases hs : areSends ps.length ss
  · have h0 : 0 < ps.length := by have := hs.1.1; omega
    have h8 := hs.1.2
    have hsN : Hid (areSends ps.length ss) := hs
    refine CallT_of_body (F := L55) (HasMn.f55) rfl ?_; unfold L55; dsimp only []
    repeat' (first | (simp (disch := first | omega | assumption | (simp only [List.length_set]; omega) | (simp [*] <;> fail) | assumption) [-Bool.decide_and, -Bool.decide_or, -Bool.not_and, -Bool.not_or, toNat_pred, toNat_succ, wrap64, wr_new, wr_new0, ok_if, ok_ifn, iadV_sl, makeV_int, decT, decF, over_at, *, hA.len, c_l07Sends hB]) | (with_reducible refine Gd_split (fun hc => ?_) (fun hc => ?_) <;> (have hc2 := hc; try simp at hc2)) | (with_reducible refine Br_split (fun hc => ?_) (fun hc => ?_) <;> (have hc2 := hc; try simp at hc2)) | (with_reducible refine GdT_split (fun hc => ?_) (fun hc => ?_) <;> (have hc2 := hc; try simp at hc2)) | (with_reducible refine WT_alt ?_ ?_) | omega)
    clear hs
    refine WL_forM 68719460464 (by decide +kernel) (ps.length) (fun i b g => i ≤ ps.length ∧ b 14 = .lf (.int .i64 i) ∧ h = g ∧ upto (fun x : List Nat => x.length ≤ 256 ∧ x.length = ps[0].1.length) ps i) (fun _ _ _ hi => hi.1) ⟨by omega, by simp, rfl, .zero⟩ ?_
    rintro i b g ⟨hi, e14, rfl, hu⟩
    have hA0 := (hI 0 h0).arr.len
    have hr0 := hA.rd1 h0
    simp only [ssRows, ssCells, Nat.add_zero] at hA0 hr0
    by_cases hlt : i < ps.length
    · have hAi := (hI i hlt).arr
      simp only [ssRows] at hAi
      have hAl := hAi.len
      by_cases k1 : ps[i].1.length ≤ 256
      · by_cases k2 : ps[i].1.length = ps[0].1.length
        · have hok := hu.succ hlt ⟨k1, k2⟩
          clear hK
          repeat' (first | (simp (disch := first | omega | assumption | (simp only [List.length_set]; omega) | (simp [*] <;> fail) | assumption) [-Bool.decide_and, -Bool.decide_or, -Bool.not_and, -Bool.not_or, toNat_pred, toNat_succ, wrap64, wr_new, wr_new0, ok_if, ok_ifn, iadV_sl, makeV_int, decT, decF, over_at, *, hA.len, hA.at_, hA.at_', hA.rd, hA.rdIn, hA.rdIn0, hA.rdA, hA.rdInA, hA.rdIn0A, hA.at0 h0, hA.rd1, ssCells, c_l01Few hAi]) | (with_reducible refine Gd_split (fun hc => ?_) (fun hc => ?_) <;> (have hc2 := hc; try simp at hc2)) | (with_reducible refine Br_split (fun hc => ?_) (fun hc => ?_) <;> (have hc2 := hc; try simp at hc2)) | (with_reducible refine GdT_split (fun hc => ?_) (fun hc => ?_) <;> (have hc2 := hc; try simp at hc2)) | (with_reducible refine WT_alt ?_ ?_) | omega)
        · have hno : ¬ okMn (ps.map (·.1)) ss := fun q => k2 (by have := (q.2 _ (List.mem_map.2 ⟨ps[i], List.getElem_mem hlt, rfl⟩)).2; rwa [headD_fst h0] at this)
          have hk2 := hK .nils h [] (NewD.start (Kept.refl _)) (by unfold mnR; rw [if_neg hno]; rfl)
          rw [decide_eq_false hno] at hk2
          clear hK
          repeat' (first | (simp (disch := first | omega | assumption | (simp only [List.length_set]; omega) | (simp [*] <;> fail) | assumption) [-Bool.decide_and, -Bool.decide_or, -Bool.not_and, -Bool.not_or, toNat_pred, toNat_succ, wrap64, wr_new, wr_new0, ok_if, ok_ifn, iadV_sl, makeV_int, decT, decF, over_at, *, hA.len, hA.at_, hA.at_', hA.rd, hA.rdIn, hA.rdIn0, hA.rdA, hA.rdInA, hA.rdIn0A, hA.at0 h0, hA.rd1, ssCells, c_l01Few hAi]) | (with_reducible refine Gd_split (fun hc => ?_) (fun hc => ?_) <;> (have hc2 := hc; try simp at hc2)) | (with_reducible refine Br_split (fun hc => ?_) (fun hc => ?_) <;> (have hc2 := hc; try simp at hc2)) | (with_reducible refine GdT_split (fun hc => ?_) (fun hc => ?_) <;> (have hc2 := hc; try simp at hc2)) | (with_reducible refine WT_alt ?_ ?_) | omega)
      · have hno : ¬ okMn (ps.map (·.1)) ss := fun q => k1 (q.2 _ (List.mem_map.2 ⟨ps[i], List.getElem_mem hlt, rfl⟩)).1
        have hk2 := hK .nils h [] (NewD.start (Kept.refl _)) (by unfold mnR; rw [if_neg hno]; rfl)
        rw [decide_eq_false hno] at hk2
        clear hK
        repeat' (first | (simp (disch := first | omega | assumption | (simp only [List.length_set]; omega) | (simp [*] <;> fail) | assumption) [-Bool.decide_and, -Bool.decide_or, -Bool.not_and, -Bool.not_or, toNat_pred, toNat_succ, wrap64, wr_new, wr_new0, ok_if, ok_ifn, iadV_sl, makeV_int, decT, decF, over_at, *, hA.len, hA.at_, hA.at_', hA.rd, hA.rdIn, hA.rdIn0, hA.rdA, hA.rdInA, hA.rdIn0A, hA.rd1, ssCells, c_l01Few hAi]) | (with_reducible refine Gd_split (fun hc => ?_) (fun hc => ?_) <;> (have hc2 := hc; try simp at hc2)) | (with_reducible refine Br_split (fun hc => ?_) (fun hc => ?_) <;> (have hc2 := hc; try simp at hc2)) | (with_reducible refine GdT_split (fun hc => ?_) (fun hc => ?_) <;> (have hc2 := hc; try simp at hc2)) | (with_reducible refine WT_alt ?_ ?_) | omega)
    · have : i = ps.length := by omega
      subst this
      have hall := hu.all
      have hok : okMn (ps.map (·.1)) ss := ⟨by rw [List.length_map]; exact hsN, fun x hx => by rw [headD_fst h0]; exact hall x hx⟩
      unfold mnR at hK
      rw [if_pos hok, decide_eq_true hok] at hK
      have hm0 := hall _ (List.mem_map.2 ⟨ps[0], List.getElem_mem h0, rfl⟩)
      repeat' (first | (simp (disch := first | omega | assumption | (simp only [List.length_set]; omega) | (simp [*] <;> fail) | assumption) [-Bool.decide_and, -Bool.decide_or, -Bool.not_and, -Bool.not_or, toNat_pred, toNat_succ, wrap64, wr_new, wr_new0, ok_if, ok_ifn, iadV_sl, makeV_int, decT, decF, over_at, *]) | (with_reducible refine Gd_split (fun hc => ?_) (fun hc => ?_) <;> (have hc2 := hc; try simp at hc2)) | (with_reducible refine Br_split (fun hc => ?_) (fun hc => ?_) <;> (have hc2 := hc; try simp at hc2)) | (with_reducible refine GdT_split (fun hc => ?_) (fun hc => ?_) <;> (have hc2 := hc; try simp at hc2)) | (with_reducible refine WT_alt ?_ ?_) | omega)
      refine c_l07Mix (m := ps[0].1.length) hA hI hB hsN (fun x hx => (hall x hx).2) hm0.1 hl fun o g qs hD hq => ?_
      have hk2 := hK o g qs hD hq
      repeat' (first | (simp (disch := first | omega | assumption | (simp only [List.length_set]; omega) | (simp [*] <;> fail) | assumption) [-Bool.decide_and, -Bool.decide_or, -Bool.not_and, -Bool.not_or, toNat_pred, toNat_succ, wrap64, wr_new, wr_new0, ok_if, ok_ifn, iadV_sl, makeV_int, decT, decF, over_at, *]) | (with_reducible refine Gd_split (fun hc => ?_) (fun hc => ?_) <;> (have hc2 := hc; try simp at hc2)) | (with_reducible refine Br_split (fun hc => ?_) (fun hc => ?_) <;> (have hc2 := hc; try simp at hc2)) | (with_reducible refine GdT_split (fun hc => ?_) (fun hc => ?_) <;> (have hc2 := hc; try simp at hc2)) | (with_reducible refine WT_alt ?_ ?_) | omega)
  · have hno : ¬ okMn (ps.map (·.1)) ss := fun q => hs (by have := q.1; rwa [List.length_map] at this)
    have hk2 := hK .nils h [] (NewD.start (Kept.refl _)) (by unfold mnR; rw [if_neg hno]; rfl)
    rw [decide_eq_false hno] at hk2
    clear hK
    refine CallT_of_body (F := L55) (HasMn.f55) rfl ?_; unfold L55; dsimp only []
    repeat' (first | (simp (disch := first | omega | assumption | (simp only [List.length_set]; omega) | (simp [*] <;> fail) | assumption) [-Bool.decide_and, -Bool.decide_or, -Bool.not_and, -Bool.not_or, toNat_pred, toNat_succ, wrap64, wr_new, wr_new0, ok_if, ok_ifn, iadV_sl, makeV_int, decT, decF, over_at, *, hA.len, c_l07Sends hB]) | (with_reducible refine Gd_split (fun hc => ?_) (fun hc => ?_) <;> (have hc2 := hc; try simp at hc2)) | (with_reducible refine Br_split (fun hc => ?_) (fun hc => ?_) <;> (have hc2 := hc; try simp at hc2)) | (with_reducible refine GdT_split (fun hc => ?_) (fun hc => ?_) <;> (have hc2 := hc; try simp at hc2)) | (with_reducible refine WT_alt ?_ ?_) | omega)
set_option maxHeartbeats 2000000 in
theorem c_implMixNodes (hA : Arr h l 1 (ps.map ssCells)) (hI : Sms h ssRows ps) (hB : Arr h l2 3 (ss.map Snd.cells)) (hl : lim ≤ h.length)
    (hK : ∀ o g qs, NewD h g o 27 1 ssCells ssRows 22 qs → qs.map (·.1) = mnR (ps.map (·.1)) ss → K (.tup [.lf o, .lf (.bool (decide (okMn (ps.map (·.1)) ss)))]) g) : CallT S false 57 [.lf l, .lf l2] h lim K := by
  by_cases hs : areSends ps.length ss
  · have h0 : 0 < ps.length := by have := hs.1.1; omega
    have h8 := hs.1.2
    have hsN : Hid (areSends ps.length ss) := hs
    have hAi0 := (hI 0 h0).arr
    simp only [ssRows] at hAi0
    have hA0 := hAi0.len
    have hr0 := hA.rd1 h0
    simp only [ssCells, Nat.add_zero] at hr0
    by_cases k0 : ps[0].1.length ≤ 256
    · refine CallT_of_body (F := L57) (HasMn.f57) rfl ?_; unfold L57; dsimp only []
      repeat' (first | (simp (disch := first | omega | assumption | (simp only [List.length_set]; omega) | (simp [*] <;> fail) | assumption) [-Bool.decide_and, -Bool.decide_or, -Bool.not_and, -Bool.not_or, toNat_pred, toNat_succ, wrap64, wr_new, wr_new0, ok_if, ok_ifn, iadV_sl, makeV_int, decT, decF, over_at, *, hA.len, hA.at0 h0, c_implAreSends hB, c_areSamples hAi0]) | (with_reducible refine Gd_split (fun hc => ?_) (fun hc => ?_) <;> (have hc2 := hc; try simp at hc2)) | (with_reducible refine Br_split (fun hc => ?_) (fun hc => ?_) <;> (have hc2 := hc; try simp at hc2)) | (with_reducible refine GdT_split (fun hc => ?_) (fun hc => ?_) <;> (have hc2 := hc; try simp at hc2)) | (with_reducible refine WT_alt ?_ ?_) | omega)
      clear hs
      refine WL_forM 34351349936 (by decide +kernel) (ps.length) (fun i b g => i ≤ ps.length ∧ b 23 = .lf (.int .i64 i) ∧ h = g ∧ upto (fun x : List Nat => x.length ≤ 256 ∧ x.length = ps[0].1.length) ps i) (fun _ _ _ hi => hi.1) ⟨by omega, by simp, rfl, .zero⟩ ?_
      rintro i b g ⟨hi, e14, rfl, hu⟩
      by_cases hlt : i < ps.length
      · have hAi := (hI i hlt).arr
        simp only [ssRows] at hAi
        have hAl := hAi.len
        by_cases k2 : ps[i].1.length = ps[0].1.length
        · have hok := hu.succ hlt ⟨by omega, k2⟩
          clear hK
          repeat' (first | (simp (disch := first | omega | assumption | (simp only [List.length_set]; omega) | (simp [*] <;> fail) | assumption) [-Bool.decide_and, -Bool.decide_or, -Bool.not_and, -Bool.not_or, toNat_pred, toNat_succ, wrap64, wr_new, wr_new0, ok_if, ok_ifn, iadV_sl, makeV_int, decT, decF, over_at, *, hA.len, hA.at_, hA.at_', hA.rd, hA.rdIn, hA.rdIn0, hA.rdA, hA.rdInA, hA.rdIn0A, hA.at0 h0, hA.rd1, ssCells]) | (with_reducible refine Gd_split (fun hc => ?_) (fun hc => ?_) <;> (have hc2 := hc; try simp at hc2)) | (with_reducible refine Br_split (fun hc => ?_) (fun hc => ?_) <;> (have hc2 := hc; try simp at hc2)) | (with_reducible refine GdT_split (fun hc => ?_) (fun hc => ?_) <;> (have hc2 := hc; try simp at hc2)) | (with_reducible refine WT_alt ?_ ?_) | omega)
        · have hno : ¬ okMn (ps.map (·.1)) ss := fun q => k2 (by have := (q.2 _ (List.mem_map.2 ⟨ps[i], List.getElem_mem hlt, rfl⟩)).2; rwa [headD_fst h0] at this)
          have hk2 := hK .nils h [] (NewD.start (Kept.refl _)) (by unfold mnR; rw [if_neg hno]; rfl)
          rw [decide_eq_false hno] at hk2
          clear hK
          repeat' (first | (simp (disch := first | omega | assumption | (simp only [List.length_set]; omega) | (simp [*] <;> fail) | assumption) [-Bool.decide_and, -Bool.decide_or, -Bool.not_and, -Bool.not_or, toNat_pred, toNat_succ, wrap64, wr_new, wr_new0, ok_if, ok_ifn, iadV_sl, makeV_int, decT, decF, over_at, *, hA.len, hA.at_, hA.at_', hA.rd, hA.rdIn, hA.rdIn0, hA.rdA, hA.rdInA, hA.rdIn0A, hA.at0 h0, hA.rd1, ssCells]) | (with_reducible refine Gd_split (fun hc => ?_) (fun hc => ?_) <;> (have hc2 := hc; try simp at hc2)) | (with_reducible refine Br_split (fun hc => ?_) (fun hc => ?_) <;> (have hc2 := hc; try simp at hc2)) | (with_reducible refine GdT_split (fun hc => ?_) (fun hc => ?_) <;> (have hc2 := hc; try simp at hc2)) | (with_reducible refine WT_alt ?_ ?_) | omega)
      · have : i = ps.length := by omega
        subst this
        have hall := hu.all
        have hok : okMn (ps.map (·.1)) ss := ⟨by rw [List.length_map]; exact hsN, fun x hx => by rw [headD_fst h0]; exact hall x hx⟩
        unfold mnR at hK
        rw [if_pos hok, decide_eq_true hok] at hK
        repeat' (first | (simp (disch := first | omega | assumption | (simp only [List.length_set]; omega) | (simp [*] <;> fail) | assumption) [-Bool.decide_and, -Bool.decide_or, -Bool.not_and, -Bool.not_or, toNat_pred, toNat_succ, wrap64, wr_new, wr_new0, ok_if, ok_ifn, iadV_sl, makeV_int, decT, decF, over_at, *]) | (with_reducible refine Gd_split (fun hc => ?_) (fun hc => ?_) <;> (have hc2 := hc; try simp at hc2)) | (with_reducible refine Br_split (fun hc => ?_) (fun hc => ?_) <;> (have hc2 := hc; try simp at hc2)) | (with_reducible refine GdT_split (fun hc => ?_) (fun hc => ?_) <;> (have hc2 := hc; try simp at hc2)) | (with_reducible refine WT_alt ?_ ?_) | omega)
        refine c_mixNodes (m := ps[0].1.length) hA hI hB hsN (fun x hx => (hall x hx).2) k0 hl fun o g qs hD hq => ?_
        have hk2 := hK o g qs hD hq
        repeat' (first | (simp (disch := first | omega | assumption | (simp only [List.length_set]; omega) | (simp [*] <;> fail) | assumption) [-Bool.decide_and, -Bool.decide_or, -Bool.not_and, -Bool.not_or, toNat_pred, toNat_succ, wrap64, wr_new, wr_new0, ok_if, ok_ifn, iadV_sl, makeV_int, decT, decF, over_at, *]) | (with_reducible refine Gd_split (fun hc => ?_) (fun hc => ?_) <;> (have hc2 := hc; try simp at hc2)) | (with_reducible refine Br_split (fun hc => ?_) (fun hc => ?_) <;> (have hc2 := hc; try simp at hc2)) | (with_reducible refine GdT_split (fun hc => ?_) (fun hc => ?_) <;> (have hc2 := hc; try simp at hc2)) | (with_reducible refine WT_alt ?_ ?_) | omega)
    · have hno : ¬ okMn (ps.map (·.1)) ss := fun q => k0 (q.2 _ (List.mem_map.2 ⟨ps[0], List.getElem_mem h0, rfl⟩)).1
      have hk2 := hK .nils h [] (NewD.start (Kept.refl _)) (by unfold mnR; rw [if_neg hno]; rfl)
      rw [decide_eq_false hno] at hk2
      clear hK
      refine CallT_of_body (F := L57) (HasMn.f57) rfl ?_; unfold L57; dsimp only []
      repeat' (first | (simp (disch := first | omega | assumption | (simp only [List.length_set]; omega) | (simp [*] <;> fail) | assumption) [-Bool.decide_and, -Bool.decide_or, -Bool.not_and, -Bool.not_or, toNat_pred, toNat_succ, wrap64, wr_new, wr_new0, ok_if, ok_ifn, iadV_sl, makeV_int, decT, decF, over_at, *, hA.len, hA.at0 h0, c_implAreSends hB, c_areSamples hAi0]) | (with_reducible refine Gd_split (fun hc => ?_) (fun hc => ?_) <;> (have hc2 := hc; try simp at hc2)) | (with_reducible refine Br_split (fun hc => ?_) (fun hc => ?_) <;> (have hc2 := hc; try simp at hc2)) | (with_reducible refine GdT_split (fun hc => ?_) (fun hc => ?_) <;> (have hc2 := hc; try simp at hc2)) | (with_reducible refine WT_alt ?_ ?_) | omega)
  · have hno : ¬ okMn (ps.map (·.1)) ss := fun q => hs (by have := q.1; rwa [List.length_map] at this)
    have hk2 := hK .nils h [] (NewD.start (Kept.refl _)) (by unfold mnR; rw [if_neg hno]; rfl)
    rw [decide_eq_false hno] at hk2
    clear hK
    refine CallT_of_body (F := L57) (HasMn.f57) rfl ?_; unfold L57; dsimp only []
    repeat' (first | (simp (disch := first | omega | assumption | (simp only [List.length_set]; omega) | (simp [*] <;> fail) | assumption) [-Bool.decide_and, -Bool.decide_or, -Bool.not_and, -Bool.not_or, toNat_pred, toNat_succ, wrap64, wr_new, wr_new0, ok_if, ok_ifn, iadV_sl, makeV_int, decT, decF, over_at, *, hA.len, c_implAreSends hB]) | (with_reducible refine Gd_split (fun hc => ?_) (fun hc => ?_) <;> (have hc2 := hc; try simp at hc2)) | (with_reducible refine Br_split (fun hc => ?_) (fun hc => ?_) <;> (have hc2 := hc; try simp at hc2)) | (with_reducible refine GdT_split (fun hc => ?_) (fun hc => ?_) <;> (have hc2 := hc; try simp at hc2)) | (with_reducible refine WT_alt ?_ ?_) | omega)
end
end Go.E
