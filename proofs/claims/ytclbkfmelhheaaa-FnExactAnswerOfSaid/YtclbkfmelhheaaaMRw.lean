/- RunRoom, both sides. -/
import Derived.Test.YtclbkfmelhheaaaMRv
set_option linter.unusedVariables false
set_option linter.unusedSimpArgs false
namespace Go.E
open Go
def L41 : LFn := ⟨3, (.seq (.reg [⟨(.some 3), (.box 59 (.t 0)), none⟩, ⟨(.some 6), (.mv (.c (.lf .nils))), none⟩, ⟨(.some 7), (.mv (.c (.lf .nils))), none⟩, ⟨(.some 8), (.mv (.c (.lf (.bool false)))), none⟩])
 (.seq (.seq (.reg [⟨(.some 13), (.call true 84 [(.t 3)]), none⟩, ⟨(.some 14), (.una .not (.t 13)), none⟩, ⟨(.some 15), (.mv (.t 14)), none⟩, ⟨(.some 16), (.mv (.t 1)), (.some (15, false))⟩, ⟨(.some 17), (.call true 112 [(.t 3), (.t 16)]), (.some (15, false))⟩, ⟨(.some 18), (.una .not (.t 17)), (.some (15, false))⟩, ⟨(.some 19), (.pick (.t 15) (.c (.lf (.bool true))) (.t 18)), none⟩, ⟨(.some 20), (.mv (.t 19)), none⟩, ⟨(.some 21), (.mv (.t 2)), (.some (20, false))⟩, ⟨(.some 22), (.call true 113 [(.t 21)]), (.some (20, false))⟩, ⟨(.some 23), (.una .not (.t 22)), (.some (20, false))⟩, ⟨(.some 24), (.pick (.t 20) (.c (.lf (.bool true))) (.t 23)), none⟩])
 (.cond (.t 24) (.seq (.reg [⟨(.some 6), (.mv (.c (.lf .nils))), none⟩, ⟨(.some 7), (.mv (.c (.lf .nils))), none⟩, ⟨(.some 8), (.mv (.c (.lf (.bool false)))), none⟩])
 .ret) .skip))
 (.seq (.reg [⟨(.some 25), (.lit 27 1 0 [] []), none⟩, ⟨(.some 9), (.mv (.t 25)), none⟩])
 (.seq (.seq (.reg [⟨(.some 26), (.mv (.t 1)), none⟩, ⟨(.some 27), (.len (.t 26)), none⟩, ⟨(.some 28), (.mv (.c (.lf (.int .i64 0)))), none⟩])
 (.block 0 (.loop (.seq (.reg [⟨(.some 29), (.bin .lss (.t 28) (.t 27)), none⟩])
 (.seq (.cond (.t 29) .skip (.exit 0))
 (.seq (.block 1 (.seq (.reg [⟨(.some 30), (.mv (.t 28)), none⟩, ⟨(.some 10), (.mv (.t 30)), none⟩])
 (.reg [⟨(.some 31), (.mv (.t 9)), none⟩, ⟨(.some 32), (.mv (.t 1)), none⟩, ⟨(.some 33), (.mv (.t 10)), none⟩, ⟨(.some 34), (.iaddr 1 (.t 32) (.t 33)), none⟩, ⟨(.some 35), (.load false 1 (.t 34)), none⟩, ⟨(.some 36), (.call false 114 [(.t 35)]), none⟩, ⟨(.some 37), (.lit 27 1 1 [.nils] [(0, (1, (.t 36)))]), none⟩, ⟨(.some 38), (.app 27 1 24 (.t 31) (.t 37)), none⟩, ⟨(.some 9), (.mv (.t 38)), none⟩])))
 (.reg [⟨(.some 39), (.bin .add (.t 28) (.c (.lf (.int .i64 1)))), none⟩, ⟨(.some 28), (.mv (.t 39)), none⟩])))))))
 (.seq (.reg [⟨(.some 40), (.lit 22 1 0 [] []), none⟩, ⟨(.some 11), (.mv (.t 40)), none⟩])
 (.seq (.seq (.reg [⟨(.some 12), (.mv (.c (.lf (.int .i64 0)))), none⟩])
 (.block 2 (.loop (.seq (.seq (.reg [⟨(.some 41), (.mv (.t 12)), none⟩, ⟨(.some 42), (.mv (.t 2)), none⟩, ⟨(.some 43), (.len (.t 42)), none⟩, ⟨(.some 44), (.bin .lss (.t 41) (.t 43)), none⟩])
 (.cond (.t 44) .skip (.exit 2)))
 (.seq (.block 3 (.reg [⟨(.some 47), (.mv (.t 11)), none⟩, ⟨(.some 48), (.mv (.t 9)), none⟩, ⟨(.some 49), (.mv (.t 2)), none⟩, ⟨(.some 50), (.mv (.t 12)), none⟩, ⟨(.some 51), (.iaddr 1 (.t 49) (.t 50)), none⟩, ⟨(.some 52), (.load false 1 (.t 51)), none⟩, ⟨(.some 53), (.call false 87 [(.t 3), (.t 48), (.t 52)]), none⟩, ⟨(.some 54), (.lit 22 1 1 [(.flt .f32 0)] [(0, (1, (.t 53)))]), none⟩, ⟨(.some 55), (.app 22 1 4 (.t 47) (.t 54)), none⟩, ⟨(.some 11), (.mv (.t 55)), none⟩]))
 (.reg [⟨(.some 45), (.mv (.t 12)), none⟩, ⟨(.some 46), (.bin .add (.t 45) (.c (.lf (.int .i64 1)))), none⟩, ⟨(.some 12), (.mv (.t 46)), none⟩]))))))
 (.seq (.reg [⟨(.some 56), (.mv (.t 11)), none⟩, ⟨(.some 57), (.mv (.t 9)), none⟩, ⟨(.some 6), (.mv (.t 56)), none⟩, ⟨(.some 7), (.mv (.t 57)), none⟩, ⟨(.some 8), (.mv (.c (.lf (.bool true)))), none⟩])
 .ret))))))), [(.tmp 6), (.tmp 7), (.tmp 8)]⟩
def L44 : LFn := ⟨3, (.seq (.reg [⟨(.some 3), (.box 59 (.t 0)), none⟩, ⟨(.some 6), (.mv (.c (.lf .nils))), none⟩, ⟨(.some 7), (.mv (.c (.lf .nils))), none⟩, ⟨(.some 8), (.mv (.c (.lf (.bool false)))), none⟩])
 (.seq (.seq (.reg [⟨(.some 11), (.load true 4 (.t 3)), none⟩, ⟨(.some 12), (.call true 90 [(.t 11)]), none⟩, ⟨(.some 13), (.una .not (.t 12)), none⟩, ⟨(.some 14), (.mv (.t 13)), none⟩, ⟨(.some 15), (.mv (.t 2)), (.some (14, false))⟩, ⟨(.some 16), (.call true 79 [(.t 15)]), (.some (14, false))⟩, ⟨(.some 17), (.una .not (.t 16)), (.some (14, false))⟩, ⟨(.some 18), (.pick (.t 14) (.c (.lf (.bool true))) (.t 17)), none⟩, ⟨(.some 19), (.mv (.t 18)), none⟩, ⟨(.some 20), (.load true 4 (.t 3)), (.some (19, false))⟩, ⟨(.some 21), (.mv (.t 1)), (.some (19, false))⟩, ⟨(.some 22), (.call true 115 [(.t 20), (.t 21)]), (.some (19, false))⟩, ⟨(.some 23), (.una .not (.t 22)), (.some (19, false))⟩, ⟨(.some 24), (.pick (.t 19) (.c (.lf (.bool true))) (.t 23)), none⟩])
 (.cond (.t 24) (.seq (.reg [⟨(.some 6), (.mv (.c (.lf .nils))), none⟩, ⟨(.some 7), (.mv (.c (.lf .nils))), none⟩, ⟨(.some 8), (.mv (.c (.lf (.bool false)))), none⟩])
 .ret) .skip))
 (.seq (.reg [⟨(.some 26), (.load true 4 (.t 3)), none⟩, ⟨(.some 27), (.mv (.t 1)), none⟩, ⟨(.some 28), (.mv (.t 2)), none⟩, ⟨(.some 29), (.call false 92 [(.t 26), (.t 27), (.t 28)]), none⟩, ⟨(.some 25), (.mv (.t 29)), none⟩, ⟨(.some 30), (.ext (.t 25) 0), none⟩, ⟨(.some 31), (.ext (.t 25) 1), none⟩, ⟨(.some 9), (.mv (.t 30)), none⟩, ⟨(.some 10), (.mv (.t 31)), none⟩])
 (.seq (.reg [⟨(.some 32), (.mv (.t 9)), none⟩, ⟨(.some 33), (.mv (.t 10)), none⟩, ⟨(.some 6), (.mv (.t 32)), none⟩, ⟨(.some 7), (.mv (.t 33)), none⟩, ⟨(.some 8), (.mv (.c (.lf (.bool true)))), none⟩])
 .ret)))), [(.tmp 6), (.tmp 7), (.tmp 8)]⟩
class HasRw (S : Sys) : Prop extends HasRv S, HasRq S, HasP S where
  f41 : S.fs 41 = some L41
  f44 : S.fs 44 = some L44
theorem rm_small {R : Rm} (k : rmOk R) : R.ds.length ≤ 400000 ∧ R.qs.length ≤ 400000 := by have := k.2; omega
def okRr (R : Rm) (ls : List (List Nat)) (n : Nat) : Prop := rmOk R ∧ fitR R ls ∧ n ≤ 256
noncomputable instance (R : Rm) (ls : List (List Nat)) (n : Nat) : Decidable (okRr R ls n) := Classical.propDecidable _
noncomputable def rrR (R : Rm) (ls : List (List Nat)) (xs : List Nat) : List Nat × List (List Nat) := if okRr R ls xs.length then rmTo R ls xs xs.length else ([], [])
theorem rrR_small {R : Rm} {ls : List (List Nat)} {xs : List Nat} : (rrR R ls xs).1.length ≤ 256 ∧ (rrR R ls xs).2.length ≤ 8 ∧ ∀ s ∈ (rrR R ls xs).2, s.length ≤ 64 := by
  unfold rrR
  split
  · rename_i hok
    have h1 := (fit_lines hok.1 hok.2.1).same (rmTo_same (R := R) (xs := xs) (i := xs.length))
    have := hok.1.2
    exact ⟨by rw [rmTo_len]; exact hok.2.2, by rw [h1.1]; omega, fun s hs => (h1.2 s hs).2⟩
  · simp
theorem fit_no {R : Rm} {rs : List (List Nat × Lf)} {i : Nat} (h1 : i < rs.length) (h2 : i < (lensR R).length) (h3 : ¬ (rs[i].1.length : Int) = (lensR R)[i]) : decide (fitR R (rs.map (·.1))) = false :=
  decide_eq_false fun q => h3 (q.2 i _ _ (by simp [h1]) (List.getElem?_eq_getElem h2))
theorem fit_yes {R : Rm} {rs : List (List Nat × Lf)} (h1 : rs.length = (lensR R).length) (h2 : ∀ j (q1 : j < rs.length) (q2 : j < (lensR R).length), j < rs.length → (rs[j].1.length : Int) = (lensR R)[j]) : decide (fitR R (rs.map (·.1))) = true :=
  decide_eq_true ⟨by simpa using h1, fun i x n q1 q2 => by
    rw [List.getElem?_map] at q1
    obtain ⟨p, q3, rfl⟩ := Option.map_eq_some_iff.1 q1
    obtain ⟨w1, w2⟩ := List.getElem?_eq_some_iff.1 q3
    obtain ⟨w3, w4⟩ := List.getElem?_eq_some_iff.1 q2
    rw [← w2, ← w4]; exact h2 i w1 w3 w1⟩
section
variable {S : Sys} {lim : Nat} {h : Hp} {K : CV → Hp → Prop} [HasRw S] {l l2 lx sg : Lf} {R : Rm} {rs : List (List Nat × Lf)} {xs : List Nat}
set_option maxHeartbeats 2000000 in
theorem c_l03Fit {id off : Nat} (hr : rdCells h id off 4 = some (R.cells l l2)) (hA : Arr h l 5 (R.ds.map Dly.cells)) (hB : Arr h l2 2 (R.qs.map Pas.cells)) (hn : R.ds.length ≤ 400000 ∧ R.qs.length ≤ 400000) (hL : Arr h sg 1 (rs.map ssCells)) (hI : In h ssRows rs) : CallT S true 112 [.lf (.ptr id off), .lf sg] h lim K = K (.lf (.bool (decide (fitR R (rs.map (·.1)))))) h := by
  have hbL := hL.bound
  refine CallT_pure (F := L112) (HasRv.f112) rfl (by first | rfl | (split <;> rfl) | simp) ?_; unfold L112; dsimp only []
  repeat' (first | (simp (disch := first | omega | assumption | (simp only [List.length_set]; omega) | (simp [*] <;> fail) | assumption) [-Bool.decide_and, -Bool.decide_or, -Bool.not_and, -Bool.not_or, toNat_pred, toNat_succ, wrap64, wr_new, wr_new0, ok_if, ok_ifn, iadV_sl, makeV_int, decT, decF, over_at, *]) | (with_reducible refine Gd_split (fun hc => ?_) (fun hc => ?_) <;> (have hc2 := hc; try simp at hc2)) | (with_reducible refine Br_split (fun hc => ?_) (fun hc => ?_) <;> (have hc2 := hc; try simp at hc2)) | (with_reducible refine GdT_split (fun hc => ?_) (fun hc => ?_) <;> (have hc2 := hc; try simp at hc2)) | (with_reducible refine WT_alt ?_ ?_) | omega)
  refine c_l03Lengths hr hA hB hn (Nat.le_refl _) fun o g hO => ?_
  have hk := hO.kept
  have hL1 := hL.kept hk
  have hI1 := hI.kept hk
  have hOA := hO.arr
  obtain ⟨ns, hns⟩ : ∃ ns, lensR R = ns := ⟨_, rfl⟩
  by_cases hlen : rs.length = (lensR R).length
  · have hno := fun i h1 h2 h3 => fit_no (R := R) (rs := rs) (i := i) h1 h2 h3
    have hye := fit_yes hlen
    rw [hns] at hno hye hlen hOA
    generalize decide (fitR R (rs.map (·.1))) = ok at *
    have hlen' : (rs.length : Int) = ns.length := by omega
    have hOl := hOA.len
    repeat' (first | (simp (disch := first | omega | assumption | (simp only [List.length_set]; omega) | (simp [*] <;> fail) | assumption) [-Bool.decide_and, -Bool.decide_or, -Bool.not_and, -Bool.not_or, toNat_pred, toNat_succ, wrap64, wr_new, wr_new0, ok_if, ok_ifn, iadV_sl, makeV_int, decT, decF, over_at, *, hL1.len]) | (with_reducible refine Gd_split (fun hc => ?_) (fun hc => ?_) <;> (have hc2 := hc; try simp at hc2)) | (with_reducible refine Br_split (fun hc => ?_) (fun hc => ?_) <;> (have hc2 := hc; try simp at hc2)) | (with_reducible refine GdT_split (fun hc => ?_) (fun hc => ?_) <;> (have hc2 := hc; try simp at hc2)) | (with_reducible refine WT_alt ?_ ?_) | omega)
    refine WL_forM 1073676368 (by decide +kernel) (rs.length) (fun i b g' => i ≤ rs.length ∧ b 16 = .lf (.int .i64 i) ∧ g = g' ∧ ∀ j (q1 : j < rs.length) (q2 : j < ns.length), j < i → (rs[j].1.length : Int) = ns[j]) (fun _ _ _ hi => hi.1) ⟨by omega, by simp, rfl, fun j _ _ q => by omega⟩ ?_
    rintro i b g' ⟨hi, e3, rfl, hu⟩
    by_cases hlt : i < rs.length
    · have hlt2 : i < ns.length := by omega
      have hin := (hI1 i hlt).len
      simp only [ssRows] at hin
      have a1 := hOA.at_ (k := .i64) hlt2
      have d1 := hOA.rd1 hlt2
      by_cases k1 : (rs[i].1.length : Int) = ns[i]
      · have hok : ∀ j (q1 : j < rs.length) (q2 : j < ns.length), j < i + 1 → (rs[j].1.length : Int) = ns[j] := fun j q1 q2 q => by
          by_cases e : j = i
          · subst e; exact k1
          · exact hu j q1 q2 (by omega)
        have k1H : Hid ((rs[i].1.length : Int) = ns[i]) := k1
        rw [← k1] at d1
        clear hu hno hye k1
        repeat' (first | (simp (disch := first | omega | assumption | (simp only [List.length_set]; omega) | (simp [*] <;> fail) | assumption) [-Bool.decide_and, -Bool.decide_or, -Bool.not_and, -Bool.not_or, toNat_pred, toNat_succ, wrap64, wr_new, wr_new0, ok_if, ok_ifn, iadV_sl, makeV_int, decT, decF, over_at, *, hL1.len, hL1.at_, hL1.at_', hL1.rd, hL1.rdIn, hL1.rdIn0, hL1.rdA, hL1.rdInA, hL1.rdIn0A, hL1.rd1, ssCells, il]) | (with_reducible refine Gd_split (fun hc => ?_) (fun hc => ?_) <;> (have hc2 := hc; try simp at hc2)) | (with_reducible refine Br_split (fun hc => ?_) (fun hc => ?_) <;> (have hc2 := hc; try simp at hc2)) | (with_reducible refine GdT_split (fun hc => ?_) (fun hc => ?_) <;> (have hc2 := hc; try simp at hc2)) | (with_reducible refine WT_alt ?_ ?_) | omega)
        exact ⟨by omega, fun j q1 q2 q => hok j (by omega) q2 q⟩
      · have hf := hno i hlt hlt2 k1
        subst hf
        clear hu hno hye
        repeat' (first | (simp (disch := first | omega | assumption | (simp only [List.length_set]; omega) | (simp [*] <;> fail) | assumption) [-Bool.decide_and, -Bool.decide_or, -Bool.not_and, -Bool.not_or, toNat_pred, toNat_succ, wrap64, wr_new, wr_new0, ok_if, ok_ifn, iadV_sl, makeV_int, decT, decF, over_at, *, hL1.len, hL1.at_, hL1.at_', hL1.rd, hL1.rdIn, hL1.rdIn0, hL1.rdA, hL1.rdInA, hL1.rdIn0A, hL1.rd1, ssCells, il]) | (with_reducible refine Gd_split (fun hc => ?_) (fun hc => ?_) <;> (have hc2 := hc; try simp at hc2)) | (with_reducible refine Br_split (fun hc => ?_) (fun hc => ?_) <;> (have hc2 := hc; try simp at hc2)) | (with_reducible refine GdT_split (fun hc => ?_) (fun hc => ?_) <;> (have hc2 := hc; try simp at hc2)) | (with_reducible refine WT_alt ?_ ?_) | omega)
    · have : i = rs.length := by omega
      subst this
      have ht := hye hu
      subst ht
      clear hu hno hye
      repeat' (first | (simp (disch := first | omega | assumption | (simp only [List.length_set]; omega) | (simp [*] <;> fail) | assumption) [-Bool.decide_and, -Bool.decide_or, -Bool.not_and, -Bool.not_or, toNat_pred, toNat_succ, wrap64, wr_new, wr_new0, ok_if, ok_ifn, iadV_sl, makeV_int, decT, decF, over_at, *]) | (with_reducible refine Gd_split (fun hc => ?_) (fun hc => ?_) <;> (have hc2 := hc; try simp at hc2)) | (with_reducible refine Br_split (fun hc => ?_) (fun hc => ?_) <;> (have hc2 := hc; try simp at hc2)) | (with_reducible refine GdT_split (fun hc => ?_) (fun hc => ?_) <;> (have hc2 := hc; try simp at hc2)) | (with_reducible refine WT_alt ?_ ?_) | omega)
  · have hno : decide (fitR R (rs.map (·.1))) = false := decide_eq_false fun q => hlen (by have := q.1; simpa using this)
    rw [hns] at hlen hOA
    have hlen' : ¬ (rs.length : Int) = ns.length := by omega
    repeat' (first | (simp (disch := first | omega | assumption | (simp only [List.length_set]; omega) | (simp [*] <;> fail) | assumption) [-Bool.decide_and, -Bool.decide_or, -Bool.not_and, -Bool.not_or, toNat_pred, toNat_succ, wrap64, wr_new, wr_new0, ok_if, ok_ifn, iadV_sl, makeV_int, decT, decF, over_at, *, hL1.len, hOA.len]) | (with_reducible refine Gd_split (fun hc => ?_) (fun hc => ?_) <;> (have hc2 := hc; try simp at hc2)) | (with_reducible refine Br_split (fun hc => ?_) (fun hc => ?_) <;> (have hc2 := hc; try simp at hc2)) | (with_reducible refine GdT_split (fun hc => ?_) (fun hc => ?_) <;> (have hc2 := hc; try simp at hc2)) | (with_reducible refine WT_alt ?_ ?_) | omega)
set_option maxHeartbeats 2000000 in
theorem c_areLines (hA : Arr h l 5 (R.ds.map Dly.cells)) (hB : Arr h l2 2 (R.qs.map Pas.cells)) (hn : R.ds.length ≤ 400000 ∧ R.qs.length ≤ 400000) (hL : Arr h sg 1 (rs.map ssCells)) (hI : In h ssRows rs) : CallT S true 115 [.agg (R.cells l l2), .lf sg] h lim K = K (.lf (.bool (decide (fitR R (rs.map (·.1)))))) h := by
  have hbL := hL.bound
  have kb := Kept.app h [⟨R.cells l l2, .own 59 1⟩]
  have hle : (R.cells l l2).length = 4 := rfl
  have hte : List.take 4 (R.cells l l2) = R.cells l l2 := rfl
  refine CallT_pure (F := L115) (HasRv.f115) rfl (by first | rfl | (split <;> rfl) | simp) ?_; unfold L115; dsimp only []
  repeat' (first | (simp (disch := first | omega | assumption | (simp only [List.length_set]; omega) | (simp [*] <;> fail) | assumption) [-Bool.decide_and, -Bool.decide_or, -Bool.not_and, -Bool.not_or, toNat_pred, toNat_succ, wrap64, wr_new, wr_new0, ok_if, ok_ifn, iadV_sl, makeV_int, decT, decF, over_at, *]) | (with_reducible refine Gd_split (fun hc => ?_) (fun hc => ?_) <;> (have hc2 := hc; try simp at hc2)) | (with_reducible refine Br_split (fun hc => ?_) (fun hc => ?_) <;> (have hc2 := hc; try simp at hc2)) | (with_reducible refine GdT_split (fun hc => ?_) (fun hc => ?_) <;> (have hc2 := hc; try simp at hc2)) | (with_reducible refine WT_alt ?_ ?_) | omega)
  refine c_lengths (hA.kept kb) (hB.kept kb) hn (by simp) fun o g hO => ?_
  have hk := kb.trans hO.kept
  have hL1 := hL.kept hk
  have hI1 := hI.kept hk
  have hOA := hO.arr
  obtain ⟨ns, hns⟩ : ∃ ns, lensR R = ns := ⟨_, rfl⟩
  by_cases hlen : rs.length = (lensR R).length
  · have hno := fun i h1 h2 h3 => fit_no (R := R) (rs := rs) (i := i) h1 h2 h3
    have hye := fit_yes hlen
    rw [hns] at hno hye hlen hOA
    generalize decide (fitR R (rs.map (·.1))) = ok at *
    have hlen' : (rs.length : Int) = ns.length := by omega
    have hOl := hOA.len
    repeat' (first | (simp (disch := first | omega | assumption | (simp only [List.length_set]; omega) | (simp [*] <;> fail) | assumption) [-Bool.decide_and, -Bool.decide_or, -Bool.not_and, -Bool.not_or, toNat_pred, toNat_succ, wrap64, wr_new, wr_new0, ok_if, ok_ifn, iadV_sl, makeV_int, decT, decF, over_at, *, hL1.len]) | (with_reducible refine Gd_split (fun hc => ?_) (fun hc => ?_) <;> (have hc2 := hc; try simp at hc2)) | (with_reducible refine Br_split (fun hc => ?_) (fun hc => ?_) <;> (have hc2 := hc; try simp at hc2)) | (with_reducible refine GdT_split (fun hc => ?_) (fun hc => ?_) <;> (have hc2 := hc; try simp at hc2)) | (with_reducible refine WT_alt ?_ ?_) | omega)
    refine WL_forM 2147352784 (by decide +kernel) (rs.length) (fun i b g' => i ≤ rs.length ∧ b 17 = .lf (.int .i64 i) ∧ g = g' ∧ ∀ j (q1 : j < rs.length) (q2 : j < ns.length), j < i → (rs[j].1.length : Int) = ns[j]) (fun _ _ _ hi => hi.1) ⟨by omega, by simp, rfl, fun j _ _ q => by omega⟩ ?_
    rintro i b g' ⟨hi, e3, rfl, hu⟩
    by_cases hlt : i < rs.length
    · have hlt2 : i < ns.length := by omega
      have hin := (hI1 i hlt).len
      simp only [ssRows] at hin
      have a1 := hOA.at_ (k := .i64) hlt2
      have d1 := hOA.rd1 hlt2
      by_cases k1 : (rs[i].1.length : Int) = ns[i]
      · have hok : ∀ j (q1 : j < rs.length) (q2 : j < ns.length), j < i + 1 → (rs[j].1.length : Int) = ns[j] := fun j q1 q2 q => by
          by_cases e : j = i
          · subst e; exact k1
          · exact hu j q1 q2 (by omega)
        have k1H : Hid ((rs[i].1.length : Int) = ns[i]) := k1
        rw [← k1] at d1
        clear hu hno hye k1
        repeat' (first | (simp (disch := first | omega | assumption | (simp only [List.length_set]; omega) | (simp [*] <;> fail) | assumption) [-Bool.decide_and, -Bool.decide_or, -Bool.not_and, -Bool.not_or, toNat_pred, toNat_succ, wrap64, wr_new, wr_new0, ok_if, ok_ifn, iadV_sl, makeV_int, decT, decF, over_at, *, hL1.len, hL1.at_, hL1.at_', hL1.rd, hL1.rdIn, hL1.rdIn0, hL1.rdA, hL1.rdInA, hL1.rdIn0A, hL1.rd1, ssCells, il]) | (with_reducible refine Gd_split (fun hc => ?_) (fun hc => ?_) <;> (have hc2 := hc; try simp at hc2)) | (with_reducible refine Br_split (fun hc => ?_) (fun hc => ?_) <;> (have hc2 := hc; try simp at hc2)) | (with_reducible refine GdT_split (fun hc => ?_) (fun hc => ?_) <;> (have hc2 := hc; try simp at hc2)) | (with_reducible refine WT_alt ?_ ?_) | omega)
        exact ⟨by omega, fun j q1 q2 q => hok j (by omega) q2 q⟩
      · have hf := hno i hlt hlt2 k1
        subst hf
        clear hu hno hye
        repeat' (first | (simp (disch := first | omega | assumption | (simp only [List.length_set]; omega) | (simp [*] <;> fail) | assumption) [-Bool.decide_and, -Bool.decide_or, -Bool.not_and, -Bool.not_or, toNat_pred, toNat_succ, wrap64, wr_new, wr_new0, ok_if, ok_ifn, iadV_sl, makeV_int, decT, decF, over_at, *, hL1.len, hL1.at_, hL1.at_', hL1.rd, hL1.rdIn, hL1.rdIn0, hL1.rdA, hL1.rdInA, hL1.rdIn0A, hL1.rd1, ssCells, il]) | (with_reducible refine Gd_split (fun hc => ?_) (fun hc => ?_) <;> (have hc2 := hc; try simp at hc2)) | (with_reducible refine Br_split (fun hc => ?_) (fun hc => ?_) <;> (have hc2 := hc; try simp at hc2)) | (with_reducible refine GdT_split (fun hc => ?_) (fun hc => ?_) <;> (have hc2 := hc; try simp at hc2)) | (with_reducible refine WT_alt ?_ ?_) | omega)
    · have : i = rs.length := by omega
      subst this
      have ht := hye hu
      subst ht
      clear hu hno hye
      repeat' (first | (simp (disch := first | omega | assumption | (simp only [List.length_set]; omega) | (simp [*] <;> fail) | assumption) [-Bool.decide_and, -Bool.decide_or, -Bool.not_and, -Bool.not_or, toNat_pred, toNat_succ, wrap64, wr_new, wr_new0, ok_if, ok_ifn, iadV_sl, makeV_int, decT, decF, over_at, *]) | (with_reducible refine Gd_split (fun hc => ?_) (fun hc => ?_) <;> (have hc2 := hc; try simp at hc2)) | (with_reducible refine Br_split (fun hc => ?_) (fun hc => ?_) <;> (have hc2 := hc; try simp at hc2)) | (with_reducible refine GdT_split (fun hc => ?_) (fun hc => ?_) <;> (have hc2 := hc; try simp at hc2)) | (with_reducible refine WT_alt ?_ ?_) | omega)
  · have hno : decide (fitR R (rs.map (·.1))) = false := decide_eq_false fun q => hlen (by have := q.1; simpa using this)
    rw [hns] at hlen hOA
    have hlen' : ¬ (rs.length : Int) = ns.length := by omega
    repeat' (first | (simp (disch := first | omega | assumption | (simp only [List.length_set]; omega) | (simp [*] <;> fail) | assumption) [-Bool.decide_and, -Bool.decide_or, -Bool.not_and, -Bool.not_or, toNat_pred, toNat_succ, wrap64, wr_new, wr_new0, ok_if, ok_ifn, iadV_sl, makeV_int, decT, decF, over_at, *, hL1.len, hOA.len]) | (with_reducible refine Gd_split (fun hc => ?_) (fun hc => ?_) <;> (have hc2 := hc; try simp at hc2)) | (with_reducible refine Br_split (fun hc => ?_) (fun hc => ?_) <;> (have hc2 := hc; try simp at hc2)) | (with_reducible refine GdT_split (fun hc => ?_) (fun hc => ?_) <;> (have hc2 := hc; try simp at hc2)) | (with_reducible refine WT_alt ?_ ?_) | omega)
theorem c_l03Own (s : Sm h l xs) (hn : xs.length ≤ 1000000) (hl : lim ≤ h.length) (hK : ∀ l' g, New h g l' 22 1 (xs.map fl) → K (.lf l') g) : CallT S false 114 [.lf l] h lim K := by
  obtain ⟨l', g', h1, h2, h3⟩ := (New.lit0 (h := h) (ty := 22) (sz := 1)).joined (ys := []) (lim := lim) (s.kept (Kept.app h _)) hl (by simp; omega)
  rw [List.nil_append] at h2
  refine CallT_of_body (F := L114) (HasRq.f114) rfl ?_; unfold L114; dsimp only []
  repeat' (first | (simp (disch := first | omega | assumption | (simp only [List.length_set]; omega) | (simp [*] <;> fail) | assumption) [-Bool.decide_and, -Bool.decide_or, -Bool.not_and, -Bool.not_or, toNat_pred, toNat_succ, wrap64, wr_new, wr_new0, ok_if, ok_ifn, iadV_sl, makeV_int, decT, decF, over_at, *, leavesAll, fillL]) | (with_reducible refine Gd_split (fun hc => ?_) (fun hc => ?_) <;> (have hc2 := hc; try simp at hc2)) | (with_reducible refine Br_split (fun hc => ?_) (fun hc => ?_) <;> (have hc2 := hc; try simp at hc2)) | (with_reducible refine GdT_split (fun hc => ?_) (fun hc => ?_) <;> (have hc2 := hc; try simp at hc2)) | (with_reducible refine WT_alt ?_ ?_) | omega)
set_option maxHeartbeats 4000000 in
theorem c_specRunRoom (hA : Arr h l 5 (R.ds.map Dly.cells)) (hB : Arr h l2 2 (R.qs.map Pas.cells)) (hL : Arr h sg 1 (rs.map ssCells)) (hT : Sms h ssRows rs) (hI : In h ssRows rs) (hX : Arr h lx 1 (xs.map fl)) (hl : lim ≤ h.length)
    (hK : ∀ o sg rs' g, New h g o 22 1 ((rrR R (rs.map (·.1)) xs).1.map fl) → NewD h g sg 27 1 ssCells ssRows 22 rs' → rs'.map (·.1) = (rrR R (rs.map (·.1)) xs).2 → (∀ t ∈ lvs sg rs', Far o t) → K (.tup [.lf o, .lf sg, .lf (.bool (decide (okRr R (rs.map (·.1)) xs.length)))]) g) : CallT S false 41 [.agg (R.cells l l2), .lf sg, .lf lx] h lim K := by
  have kb := Kept.app h [⟨R.cells l l2, .own 59 1⟩]
  have hr : rdCells (h ++ [⟨R.cells l l2, .own 59 1⟩]) h.length 0 4 = some (R.cells l l2) := Cel.new.rd (by simp [Rm.cells])
  have hle : (R.cells l l2).length = 4 := rfl
  have hlb : (h ++ [⟨R.cells l l2, .own 59 1⟩] : Hp).length = h.length + 1 := by simp
  have hv := fun lim K => c_l03Is (S := S) (lim := lim) (K := K) hr (hA.kept kb) (hB.kept kb)
  have hf := fun (k : rmOk R) lim K => c_l03Fit (S := S) (lim := lim) (K := K) hr (hA.kept kb) (hB.kept kb) (rm_small k) (hL.kept kb) (hI.kept kb)
  have hw := fun lim K => c_l01Few (S := S) (lim := lim) (K := K) (hX.kept kb)
  by_cases hok : okRr R (rs.map (·.1)) xs.length
  · unfold rrR at hK
    rw [if_pos hok, decide_eq_true hok] at hK
    obtain ⟨k1, k2, k3⟩ := hok
    rw [decide_eq_true k1] at hv
    replace hf := hf k1
    rw [decide_eq_true k2] at hf
    rw [decide_eq_true (show (xs.length : Int) ≤ 256 by omega)] at hw
    have hlok := fit_lines k1 k2
    have hds : R.ds.length ≤ 100 ∧ R.qs.length ≤ 100 := by have := k1.2; omega
    obtain ⟨ls, hls⟩ : ∃ ls, rs.map (·.1) = ls := ⟨_, rfl⟩
    rw [hls] at hlok hK
    have hl0 : rs.length ≤ R.ds.length + R.qs.length ∧ R.ds.length + R.qs.length ≤ rs.length := by have := hlok.1; rw [← hls] at this; simp at this; omega
    have hlen0 : ∀ i (hi : i < rs.length), rs[i].1.length ≤ 64 := fun i hi => (hlok.2 _ (by rw [← hls]; exact List.mem_map.2 ⟨rs[i], List.getElem_mem hi, rfl⟩)).2
    have hTb : Sms (h ++ [⟨R.cells l l2, .own 59 1⟩]) ssRows rs := hT.kept kb
    replace hK : ∀ o sg rs' g, New (h ++ [⟨R.cells l l2, .own 59 1⟩]) g o 22 1 ((rmTo R ls xs xs.length).1.map fl) → NewD (h ++ [⟨R.cells l l2, .own 59 1⟩]) g sg 27 1 ssCells ssRows 22 rs' → rs'.map (·.1) = (rmTo R ls xs xs.length).2 → (∀ t ∈ lvs sg rs', Far o t) → K (.tup [.lf o, .lf sg, .lf (.bool true)]) g := fun o sg rs g h1 h2 h3 h4 => hK o sg rs g (h1.base kb) (h2.base kb) h3 h4
    clear k1 k2 hT hI
    have z0 : NewD (h ++ [⟨R.cells l l2, .own 59 1⟩]) (h ++ [⟨R.cells l l2, .own 59 1⟩, ⟨[], .own 27 1⟩]) (.sl (h.length + 1) 0 0 1) 27 1 ssCells ssRows 22 [] := by
      have := NewD.lit (ty := 27) (sz := 1) (ce := ssCells) (ro := ssRows) (fty := 22) (Kept.refl (h ++ [⟨R.cells l l2, .own 59 1⟩]))
      simpa using this
    refine CallT_of_body (F := L41) (HasRw.f41) rfl ?_; unfold L41; dsimp only []
    repeat' (first | (simp (disch := first | omega | assumption | (simp only [List.length_set]; omega) | (simp [*] <;> fail) | assumption) [-Bool.decide_and, -Bool.decide_or, -Bool.not_and, -Bool.not_or, toNat_pred, toNat_succ, wrap64, wr_new, wr_new0, ok_if, ok_ifn, iadV_sl, makeV_int, decT, decF, over_at, *]) | (with_reducible refine Gd_split (fun hc => ?_) (fun hc => ?_) <;> (have hc2 := hc; try simp at hc2)) | (with_reducible refine Br_split (fun hc => ?_) (fun hc => ?_) <;> (have hc2 := hc; try simp at hc2)) | (with_reducible refine GdT_split (fun hc => ?_) (fun hc => ?_) <;> (have hc2 := hc; try simp at hc2)) | (with_reducible refine WT_alt ?_ ?_) | omega)
    generalize (h ++ [⟨R.cells l l2, .own 59 1⟩] : Hp) = hb at *
    replace hA := hA.kept kb
    replace hB := hB.kept kb
    replace hL := hL.kept kb
    replace hX := hX.kept kb
    have hlb' : lim ≤ hb.length := by omega
    repeat' (first | (simp (disch := first | omega | assumption | (simp only [List.length_set]; omega) | (simp [*] <;> fail) | assumption) [-Bool.decide_and, -Bool.decide_or, -Bool.not_and, -Bool.not_or, toNat_pred, toNat_succ, wrap64, wr_new, wr_new0, ok_if, ok_ifn, iadV_sl, makeV_int, decT, decF, over_at, *, hL.len, leavesAll, fillL]) | (with_reducible refine Gd_split (fun hc => ?_) (fun hc => ?_) <;> (have hc2 := hc; try simp at hc2)) | (with_reducible refine Br_split (fun hc => ?_) (fun hc => ?_) <;> (have hc2 := hc; try simp at hc2)) | (with_reducible refine GdT_split (fun hc => ?_) (fun hc => ?_) <;> (have hc2 := hc; try simp at hc2)) | (with_reducible refine WT_alt ?_ ?_) | omega)
    refine WL_forM 1099243193856 (by decide +kernel) (rs.length) (fun i b g => i ≤ rs.length ∧ b 28 = .lf (.int .i64 i) ∧ ∃ sg rs', b 9 = .lf sg ∧ NewD hb g sg 27 1 ssCells ssRows 22 rs' ∧ rs'.map (·.1) = ls.take i) (fun _ _ _ hi => hi.1) ⟨by omega, by simp, .sl (h.length + 1) 0 0 1, [], by simp, z0, by simp⟩ ?_
    rintro i b g ⟨hi, e25, sg1, rs', e8, hD, hq⟩
    have hk := hD.kept
    have hk1 := hk.1
    have hL1 := hL.kept hk
    have hql : rs'.length = i := by have := congrArg List.length hq; rw [List.length_map, List.length_take] at this; have := hlok.1; omega
    by_cases hlt : i < rs.length
    · have hqE : ls.take (i + 1) = rs'.map (·.1) ++ [rs[i].1] := by
        rw [hq, ← hls, List.take_succ_eq_append_getElem (by simpa using hlt)]; simp
      have hqH : Hid (ls.take (i + 1) = rs'.map (·.1) ++ [rs[i].1]) := hqE
      have hl64 := hlen0 i hlt
      clear hqE hq hK
      repeat' (first | (simp (disch := first | omega | assumption | (simp only [List.length_set]; omega) | (simp [*] <;> fail) | assumption) [-Bool.decide_and, -Bool.decide_or, -Bool.not_and, -Bool.not_or, toNat_pred, toNat_succ, wrap64, wr_new, wr_new0, ok_if, ok_ifn, iadV_sl, makeV_int, decT, decF, over_at, *, hL1.len, hL1.at_, hL1.at_', hL1.rd, hL1.rdIn, hL1.rdIn0, hL1.rdA, hL1.rdInA, hL1.rdIn0A, hL1.rd1, ssCells]) | (with_reducible refine Gd_split (fun hc => ?_) (fun hc => ?_) <;> (have hc2 := hc; try simp at hc2)) | (with_reducible refine Br_split (fun hc => ?_) (fun hc => ?_) <;> (have hc2 := hc; try simp at hc2)) | (with_reducible refine GdT_split (fun hc => ?_) (fun hc => ?_) <;> (have hc2 := hc; try simp at hc2)) | (with_reducible refine WT_alt ?_ ?_) | omega)
      refine c_l03Own ((hTb i hlt).kept hk) (by simp only [ssRows]; omega) (by omega) fun c g2 hC => ?_
      obtain ⟨hf0, hf1⟩ := hD.fresh hC
      have hC1 := hC.base hk
      have hD1 := hD.later hC.kept
      have hg2 := hC.kept.1
      generalize hy : rs[i].1 = y at *
      clear hC
      repeat' (first | (simp (disch := first | omega | assumption | (simp only [List.length_set]; omega) | (simp [*] <;> fail) | assumption) [-Bool.decide_and, -Bool.decide_or, -Bool.not_and, -Bool.not_or, toNat_pred, toNat_succ, wrap64, wr_new, wr_new0, ok_if, ok_ifn, iadV_sl, makeV_int, decT, decF, over_at, *, leavesAll, fillL]) | (with_reducible refine Gd_split (fun hc => ?_) (fun hc => ?_) <;> (have hc2 := hc; try simp at hc2)) | (with_reducible refine Br_split (fun hc => ?_) (fun hc => ?_) <;> (have hc2 := hc; try simp at hc2)) | (with_reducible refine GdT_split (fun hc => ?_) (fun hc => ?_) <;> (have hc2 := hc; try simp at hc2)) | (with_reducible refine WT_alt ?_ ?_) | omega)
      refine oc_push (bytes := 24) (r := [c]) hD1.out ?_ ?_ ?_ (by decide) rfl (by decide)
      · omega
      · simp; omega
      intro o2 g5 hN5 hB5
      have hP := hD1.push (a := y) hC1 hf0 hf1 (Kept.refl _) hN5 hB5 rfl
      repeat' (first | (simp (disch := first | omega | assumption | (simp only [List.length_set]; omega) | (simp [*] <;> fail) | assumption) [-Bool.decide_and, -Bool.decide_or, -Bool.not_and, -Bool.not_or, toNat_pred, toNat_succ, wrap64, wr_new, wr_new0, ok_if, ok_ifn, iadV_sl, makeV_int, decT, decF, over_at, *]) | (with_reducible refine Gd_split (fun hc => ?_) (fun hc => ?_) <;> (have hc2 := hc; try simp at hc2)) | (with_reducible refine Br_split (fun hc => ?_) (fun hc => ?_) <;> (have hc2 := hc; try simp at hc2)) | (with_reducible refine GdT_split (fun hc => ?_) (fun hc => ?_) <;> (have hc2 := hc; try simp at hc2)) | (with_reducible refine WT_alt ?_ ?_) | omega)
      exact ⟨by omega, _, hP, by rw [show ls.take (i + 1) = _ from hqH]; simp⟩
    · have : i = rs.length := by omega
      subst this
      have hq2 : rs'.map (·.1) = ls := by rw [hq]; exact List.take_of_length_le (by rw [hlok.1]; omega)
      clear hq hTb hL hlen0 hL1
      repeat' (first | (simp (disch := first | omega | assumption | (simp only [List.length_set]; omega) | (simp [*] <;> fail) | assumption) [-Bool.decide_and, -Bool.decide_or, -Bool.not_and, -Bool.not_or, toNat_pred, toNat_succ, wrap64, wr_new, wr_new0, ok_if, ok_ifn, iadV_sl, makeV_int, decT, decF, over_at, *, (hX.kept hk).len, leavesAll, fillL]) | (with_reducible refine Gd_split (fun hc => ?_) (fun hc => ?_) <;> (have hc2 := hc; try simp at hc2)) | (with_reducible refine Br_split (fun hc => ?_) (fun hc => ?_) <;> (have hc2 := hc; try simp at hc2)) | (with_reducible refine GdT_split (fun hc => ?_) (fun hc => ?_) <;> (have hc2 := hc; try simp at hc2)) | (with_reducible refine WT_alt ?_ ?_) | omega)
      refine WL_forM 72055395014678528 (by decide +kernel) (xs.length) (fun k b2 g2 => k ≤ xs.length ∧ b2 12 = .lf (.int .i64 k) ∧ ∃ o rs2, b2 11 = .lf o ∧ New hb g2 o 22 1 ((rmTo R ls xs k).1.map fl) ∧ NewD hb g2 sg1 27 1 ssCells ssRows 22 rs2 ∧ rs2.map (·.1) = (rmTo R ls xs k).2 ∧ ∀ t ∈ lvs sg1 rs2, Far o t) (fun _ _ _ hi => hi.1) ⟨by omega, by simp, .sl g.length 0 0 1, rs', by simp, New.litN hk, hD.later (Kept.app _ _), hq2, fun t ht q1 q2 => by have := (hD.lvs_lt t ht q2).2; simp; omega⟩ ?_
      rintro k b2 g2 ⟨hkx, e37, o, rs2, e11, hO, hD2, hm2, hF⟩
      have hk2 := hD2.kept
      have hX2 := hX.kept hk2
      have hkl2 := hk2.1
      have hol := rmTo_len (R := R) (ls := ls) (xs := xs) (i := k)
      by_cases hkt : k < xs.length
      · have hokr := hlok.same (rmTo_same (R := R) (ls := ls) (xs := xs) (i := k))
        have hstep : rmTo R ls xs (k + 1) = ((rmTo R ls xs k).1 ++ [(roomS R (rmTo R ls xs k).2 xs[k]).1], (roomS R (rmTo R ls xs k).2 xs[k]).2) := by
          have e : xs.getD k 0 = xs[k] := by simp [hkt]
          rw [← e]; rfl
        generalize rmTo R ls xs k = st at *
        obtain ⟨outs, lk⟩ := st
        simp only at hO hm2 hol hokr hstep
        have hroom := fun K hK => c_l03Room (S := S) (lim := lim) (K := K) (x := xs[k]'hkt) hr hA hB hD2 (by rw [hm2]; exact hokr) hds hlb' hK
        rw [hm2] at hroom
        generalize hxk : xs[k] = x at *
        have hstepH : Hid (rmTo R ls xs (k + 1) = (outs ++ [(roomS R lk x).1], (roomS R lk x).2)) := hstep
        generalize roomS R lk x = res at *
        obtain ⟨ry, rl⟩ := res
        simp only at hroom
        clear hK hstep hq2 hD hm2
        repeat' (first | (simp (disch := first | omega | assumption | (simp only [List.length_set]; omega) | (simp [*] <;> fail) | assumption) [-Bool.decide_and, -Bool.decide_or, -Bool.not_and, -Bool.not_or, toNat_pred, toNat_succ, wrap64, wr_new, wr_new0, ok_if, ok_ifn, iadV_sl, makeV_int, decT, decF, over_at, *, hX2.len, hX2.at_, hX2.at_', hX2.rd, hX2.rdIn, hX2.rdIn0, hX2.rdA, hX2.rdInA, hX2.rdIn0A, hX2.rd1, fl]) | (with_reducible refine Gd_split (fun hc => ?_) (fun hc => ?_) <;> (have hc2 := hc; try simp at hc2)) | (with_reducible refine Br_split (fun hc => ?_) (fun hc => ?_) <;> (have hc2 := hc; try simp at hc2)) | (with_reducible refine GdT_split (fun hc => ?_) (fun hc => ?_) <;> (have hc2 := hc; try simp at hc2)) | (with_reducible refine WT_alt ?_ ?_) | omega)
        refine hroom _ fun g3 rs3 hD3 hm3 hB3 hlv => ?_
        have hlo : ∀ t ∈ lvs sg1 rs2, t ≠ .nils → hb.length ≤ t.id := fun t ht q => (hD2.lvs_lt t ht q).1
        have hO3 := hB3.new hO hlo (fun t ht => (hF t ht).symm)
        have hF3 : ∀ t ∈ lvs sg1 rs3, Far o t := by rw [hlv]; exact hF
        have hkl3 := hD3.kept.1
        have hmH : Hid (rs3.map (·.1) = rl) := hm3
        clear hroom hB3 hO hD2 hm3 hF hlv
        repeat' (first | (simp (disch := first | omega | assumption | (simp only [List.length_set]; omega) | (simp [*] <;> fail) | assumption) [-Bool.decide_and, -Bool.decide_or, -Bool.not_and, -Bool.not_or, toNat_pred, toNat_succ, wrap64, wr_new, wr_new0, ok_if, ok_ifn, iadV_sl, makeV_int, decT, decF, over_at, *, leavesAll, fillL]) | (with_reducible refine Gd_split (fun hc => ?_) (fun hc => ?_) <;> (have hc2 := hc; try simp at hc2)) | (with_reducible refine Br_split (fun hc => ?_) (fun hc => ?_) <;> (have hc2 := hc; try simp at hc2)) | (with_reducible refine GdT_split (fun hc => ?_) (fun hc => ?_) <;> (have hc2 := hc; try simp at hc2)) | (with_reducible refine WT_alt ?_ ?_) | omega)
        refine oc_push (bytes := 4) (r := [.flt .f32 ry]) hO3 ?_ ?_ ?_ (by decide) rfl (by decide)
        · omega
        · simp; omega
        intro o2 g6 hO6 hB6
        have hloc : o ≠ .nils → hb.length ≤ o.id := fun q => (hO3.lt q).1
        have hD6 := hD3.but hB6 hloc (hF3 sg1 lvs_head).symm (fun p hp => (hF3 p.2 (by unfold lvs; exact List.mem_cons_of_mem _ (List.mem_map.2 ⟨p, hp, rfl⟩))).symm)
        have hF6 : ∀ t ∈ lvs sg1 rs3, Far o2 t := fun t ht => (hB6.farR (hF3 t ht).symm (fun q => (hD3.lvs_lt t ht q).2)).symm
        clear hB6 hO3 hD3 hF3
        repeat' (first | (simp (disch := first | omega | assumption | (simp only [List.length_set]; omega) | (simp [*] <;> fail) | assumption) [-Bool.decide_and, -Bool.decide_or, -Bool.not_and, -Bool.not_or, toNat_pred, toNat_succ, wrap64, wr_new, wr_new0, ok_if, ok_ifn, iadV_sl, makeV_int, decT, decF, over_at, *]) | (with_reducible refine Gd_split (fun hc => ?_) (fun hc => ?_) <;> (have hc2 := hc; try simp at hc2)) | (with_reducible refine Br_split (fun hc => ?_) (fun hc => ?_) <;> (have hc2 := hc; try simp at hc2)) | (with_reducible refine GdT_split (fun hc => ?_) (fun hc => ?_) <;> (have hc2 := hc; try simp at hc2)) | (with_reducible refine WT_alt ?_ ?_) | omega)
        exact ⟨hkt, by rw [show rmTo R ls xs (k + 1) = _ from hstepH, List.map_append]; exact hO6, _, hD6, by rw [show rmTo R ls xs (k + 1) = _ from hstepH]; exact hmH, hF6⟩
      · have : k = xs.length := by omega
        subst this
        have hk5 := hK _ _ _ _ hO hD2 hm2 hF
        clear hK
        repeat' (first | (simp (disch := first | omega | assumption | (simp only [List.length_set]; omega) | (simp [*] <;> fail) | assumption) [-Bool.decide_and, -Bool.decide_or, -Bool.not_and, -Bool.not_or, toNat_pred, toNat_succ, wrap64, wr_new, wr_new0, ok_if, ok_ifn, iadV_sl, makeV_int, decT, decF, over_at, *, hX2.len]) | (with_reducible refine Gd_split (fun hc => ?_) (fun hc => ?_) <;> (have hc2 := hc; try simp at hc2)) | (with_reducible refine Br_split (fun hc => ?_) (fun hc => ?_) <;> (have hc2 := hc; try simp at hc2)) | (with_reducible refine GdT_split (fun hc => ?_) (fun hc => ?_) <;> (have hc2 := hc; try simp at hc2)) | (with_reducible refine WT_alt ?_ ?_) | omega)
  · have hk2 := hK .nils .nils [] _ (by unfold rrR; rw [if_neg hok]; exact New.nil kb) (NewD.start kb) (by unfold rrR; rw [if_neg hok]; rfl) (fun t _ => Far.nil_left)
    rw [decide_eq_false hok] at hk2
    clear hK
    by_cases k1 : rmOk R
    · rw [decide_eq_true k1] at hv
      replace hf := hf k1
      by_cases k2 : fitR R (rs.map (·.1))
      · rw [decide_eq_true k2] at hf
        have k3 : ¬ (xs.length : Int) ≤ 256 := fun q => hok ⟨k1, k2, by omega⟩
        rw [decide_eq_false k3] at hw
        clear hok k1 k2
        refine CallT_of_body (F := L41) (HasRw.f41) rfl ?_; unfold L41; dsimp only []
        repeat' (first | (simp (disch := first | omega | assumption | (simp only [List.length_set]; omega) | (simp [*] <;> fail) | assumption) [-Bool.decide_and, -Bool.decide_or, -Bool.not_and, -Bool.not_or, toNat_pred, toNat_succ, wrap64, wr_new, wr_new0, ok_if, ok_ifn, iadV_sl, makeV_int, decT, decF, over_at, *]) | (with_reducible refine Gd_split (fun hc => ?_) (fun hc => ?_) <;> (have hc2 := hc; try simp at hc2)) | (with_reducible refine Br_split (fun hc => ?_) (fun hc => ?_) <;> (have hc2 := hc; try simp at hc2)) | (with_reducible refine GdT_split (fun hc => ?_) (fun hc => ?_) <;> (have hc2 := hc; try simp at hc2)) | (with_reducible refine WT_alt ?_ ?_) | omega)
      · rw [decide_eq_false k2] at hf
        clear hok k1 k2
        refine CallT_of_body (F := L41) (HasRw.f41) rfl ?_; unfold L41; dsimp only []
        repeat' (first | (simp (disch := first | omega | assumption | (simp only [List.length_set]; omega) | (simp [*] <;> fail) | assumption) [-Bool.decide_and, -Bool.decide_or, -Bool.not_and, -Bool.not_or, toNat_pred, toNat_succ, wrap64, wr_new, wr_new0, ok_if, ok_ifn, iadV_sl, makeV_int, decT, decF, over_at, *]) | (with_reducible refine Gd_split (fun hc => ?_) (fun hc => ?_) <;> (have hc2 := hc; try simp at hc2)) | (with_reducible refine Br_split (fun hc => ?_) (fun hc => ?_) <;> (have hc2 := hc; try simp at hc2)) | (with_reducible refine GdT_split (fun hc => ?_) (fun hc => ?_) <;> (have hc2 := hc; try simp at hc2)) | (with_reducible refine WT_alt ?_ ?_) | omega)
    · rw [decide_eq_false k1] at hv
      clear hok hf k1
      refine CallT_of_body (F := L41) (HasRw.f41) rfl ?_; unfold L41; dsimp only []
      repeat' (first | (simp (disch := first | omega | assumption | (simp only [List.length_set]; omega) | (simp [*] <;> fail) | assumption) [-Bool.decide_and, -Bool.decide_or, -Bool.not_and, -Bool.not_or, toNat_pred, toNat_succ, wrap64, wr_new, wr_new0, ok_if, ok_ifn, iadV_sl, makeV_int, decT, decF, over_at, *]) | (with_reducible refine Gd_split (fun hc => ?_) (fun hc => ?_) <;> (have hc2 := hc; try simp at hc2)) | (with_reducible refine Br_split (fun hc => ?_) (fun hc => ?_) <;> (have hc2 := hc; try simp at hc2)) | (with_reducible refine GdT_split (fun hc => ?_) (fun hc => ?_) <;> (have hc2 := hc; try simp at hc2)) | (with_reducible refine WT_alt ?_ ?_) | omega)
set_option maxHeartbeats 4000000 in
theorem c_implRunRoom (hA : Arr h l 5 (R.ds.map Dly.cells)) (hB : Arr h l2 2 (R.qs.map Pas.cells)) (hL : Arr h sg 1 (rs.map ssCells)) (hT : Sms h ssRows rs) (hI : In h ssRows rs) (hX : Arr h lx 1 (xs.map fl)) (hl : lim ≤ h.length)
    (hK : ∀ o sg rs' g, New h g o 22 1 ((rrR R (rs.map (·.1)) xs).1.map fl) → NewD h g sg 27 1 ssCells ssRows 22 rs' → rs'.map (·.1) = (rrR R (rs.map (·.1)) xs).2 → (∀ t ∈ lvs sg rs', Far o t) → K (.tup [.lf o, .lf sg, .lf (.bool (decide (okRr R (rs.map (·.1)) xs.length)))]) g) : CallT S false 44 [.agg (R.cells l l2), .lf sg, .lf lx] h lim K := by
  have kb := Kept.app h [⟨R.cells l l2, .own 59 1⟩]
  have hle : (R.cells l l2).length = 4 := rfl
  have hte : List.take 4 (R.cells l l2) = R.cells l l2 := rfl
  have hv := fun lim K => c_ValidRoom (S := S) (lim := lim) (K := K) (hA.kept kb) (hB.kept kb)
  have hf := fun (k : rmOk R) lim K => c_areLines (S := S) (lim := lim) (K := K) (hA.kept kb) (hB.kept kb) (rm_small k) (hL.kept kb) (hI.kept kb)
  have hw := fun lim K => c_areSamples (S := S) (lim := lim) (K := K) (hX.kept kb)
  by_cases hok : okRr R (rs.map (·.1)) xs.length
  · unfold rrR at hK
    rw [if_pos hok, decide_eq_true hok] at hK
    obtain ⟨k1, k2, k3⟩ := hok
    rw [decide_eq_true k1] at hv
    replace hf := hf k1
    rw [decide_eq_true k2] at hf
    rw [decide_eq_true (show (xs.length : Int) ≤ 256 by omega)] at hw
    have hlok := fit_lines k1 k2
    have hds : R.ds.length ≤ 100 ∧ R.qs.length ≤ 100 := by have := k1.2; omega
    have hrun := fun K hK => c_rmRun (S := S) (lim := lim) (K := K) (hA.kept kb) (hB.kept kb) (hL.kept kb) (hT.kept kb) (hX.kept kb) hlok hds k3 (Nat.le_trans hl kb.1) hK
    generalize rmTo R (rs.map (·.1)) xs xs.length = y at *
    clear k1 k2 hlok
    refine CallT_of_body (F := L44) (HasRw.f44) rfl ?_; unfold L44; dsimp only []
    repeat' (first | (simp (disch := first | omega | assumption | (simp only [List.length_set]; omega) | (simp [*] <;> fail) | assumption) [-Bool.decide_and, -Bool.decide_or, -Bool.not_and, -Bool.not_or, toNat_pred, toNat_succ, wrap64, wr_new, wr_new0, ok_if, ok_ifn, iadV_sl, makeV_int, decT, decF, over_at, *]) | (with_reducible refine Gd_split (fun hc => ?_) (fun hc => ?_) <;> (have hc2 := hc; try simp at hc2)) | (with_reducible refine Br_split (fun hc => ?_) (fun hc => ?_) <;> (have hc2 := hc; try simp at hc2)) | (with_reducible refine GdT_split (fun hc => ?_) (fun hc => ?_) <;> (have hc2 := hc; try simp at hc2)) | (with_reducible refine WT_alt ?_ ?_) | omega)
    refine hrun _ fun o sg2 rs2 g h1 h2 h3 h4 => ?_
    have hk2 := hK _ _ _ _ (h1.base kb) (h2.base kb) h3 h4
    clear hK hrun h3
    repeat' (first | (simp (disch := first | omega | assumption | (simp only [List.length_set]; omega) | (simp [*] <;> fail) | assumption) [-Bool.decide_and, -Bool.decide_or, -Bool.not_and, -Bool.not_or, toNat_pred, toNat_succ, wrap64, wr_new, wr_new0, ok_if, ok_ifn, iadV_sl, makeV_int, decT, decF, over_at, *]) | (with_reducible refine Gd_split (fun hc => ?_) (fun hc => ?_) <;> (have hc2 := hc; try simp at hc2)) | (with_reducible refine Br_split (fun hc => ?_) (fun hc => ?_) <;> (have hc2 := hc; try simp at hc2)) | (with_reducible refine GdT_split (fun hc => ?_) (fun hc => ?_) <;> (have hc2 := hc; try simp at hc2)) | (with_reducible refine WT_alt ?_ ?_) | omega)
  · have hk2 := hK .nils .nils [] _ (by unfold rrR; rw [if_neg hok]; exact New.nil kb) (NewD.start kb) (by unfold rrR; rw [if_neg hok]; rfl) (fun t _ => Far.nil_left)
    rw [decide_eq_false hok] at hk2
    clear hK
    by_cases k1 : rmOk R
    · rw [decide_eq_true k1] at hv
      replace hf := hf k1
      by_cases k2 : fitR R (rs.map (·.1))
      · rw [decide_eq_true k2] at hf
        have k3 : ¬ (xs.length : Int) ≤ 256 := fun q => hok ⟨k1, k2, by omega⟩
        rw [decide_eq_false k3] at hw
        clear hok k1 k2
        refine CallT_of_body (F := L44) (HasRw.f44) rfl ?_; unfold L44; dsimp only []
        repeat' (first | (simp (disch := first | omega | assumption | (simp only [List.length_set]; omega) | (simp [*] <;> fail) | assumption) [-Bool.decide_and, -Bool.decide_or, -Bool.not_and, -Bool.not_or, toNat_pred, toNat_succ, wrap64, wr_new, wr_new0, ok_if, ok_ifn, iadV_sl, makeV_int, decT, decF, over_at, *]) | (with_reducible refine Gd_split (fun hc => ?_) (fun hc => ?_) <;> (have hc2 := hc; try simp at hc2)) | (with_reducible refine Br_split (fun hc => ?_) (fun hc => ?_) <;> (have hc2 := hc; try simp at hc2)) | (with_reducible refine GdT_split (fun hc => ?_) (fun hc => ?_) <;> (have hc2 := hc; try simp at hc2)) | (with_reducible refine WT_alt ?_ ?_) | omega)
      · rw [decide_eq_false k2] at hf
        clear hok k1
        by_cases k3 : (xs.length : Int) ≤ 256
        · rw [decide_eq_true k3] at hw
          clear k2
          refine CallT_of_body (F := L44) (HasRw.f44) rfl ?_; unfold L44; dsimp only []
          repeat' (first | (simp (disch := first | omega | assumption | (simp only [List.length_set]; omega) | (simp [*] <;> fail) | assumption) [-Bool.decide_and, -Bool.decide_or, -Bool.not_and, -Bool.not_or, toNat_pred, toNat_succ, wrap64, wr_new, wr_new0, ok_if, ok_ifn, iadV_sl, makeV_int, decT, decF, over_at, *]) | (with_reducible refine Gd_split (fun hc => ?_) (fun hc => ?_) <;> (have hc2 := hc; try simp at hc2)) | (with_reducible refine Br_split (fun hc => ?_) (fun hc => ?_) <;> (have hc2 := hc; try simp at hc2)) | (with_reducible refine GdT_split (fun hc => ?_) (fun hc => ?_) <;> (have hc2 := hc; try simp at hc2)) | (with_reducible refine WT_alt ?_ ?_) | omega)
        · rw [decide_eq_false k3] at hw
          clear k2
          refine CallT_of_body (F := L44) (HasRw.f44) rfl ?_; unfold L44; dsimp only []
          repeat' (first | (simp (disch := first | omega | assumption | (simp only [List.length_set]; omega) | (simp [*] <;> fail) | assumption) [-Bool.decide_and, -Bool.decide_or, -Bool.not_and, -Bool.not_or, toNat_pred, toNat_succ, wrap64, wr_new, wr_new0, ok_if, ok_ifn, iadV_sl, makeV_int, decT, decF, over_at, *]) | (with_reducible refine Gd_split (fun hc => ?_) (fun hc => ?_) <;> (have hc2 := hc; try simp at hc2)) | (with_reducible refine Br_split (fun hc => ?_) (fun hc => ?_) <;> (have hc2 := hc; try simp at hc2)) | (with_reducible refine GdT_split (fun hc => ?_) (fun hc => ?_) <;> (have hc2 := hc; try simp at hc2)) | (with_reducible refine WT_alt ?_ ?_) | omega)
    · rw [decide_eq_false k1] at hv
      clear hok hf k1
      refine CallT_of_body (F := L44) (HasRw.f44) rfl ?_; unfold L44; dsimp only []
      repeat' (first | (simp (disch := first | omega | assumption | (simp only [List.length_set]; omega) | (simp [*] <;> fail) | assumption) [-Bool.decide_and, -Bool.decide_or, -Bool.not_and, -Bool.not_or, toNat_pred, toNat_succ, wrap64, wr_new, wr_new0, ok_if, ok_ifn, iadV_sl, makeV_int, decT, decF, over_at, *]) | (with_reducible refine Gd_split (fun hc => ?_) (fun hc => ?_) <;> (have hc2 := hc; try simp at hc2)) | (with_reducible refine Br_split (fun hc => ?_) (fun hc => ?_) <;> (have hc2 := hc; try simp at hc2)) | (with_reducible refine GdT_split (fun hc => ?_) (fun hc => ?_) <;> (have hc2 := hc; try simp at hc2)) | (with_reducible refine WT_alt ?_ ?_) | omega)
end
end Go.E
