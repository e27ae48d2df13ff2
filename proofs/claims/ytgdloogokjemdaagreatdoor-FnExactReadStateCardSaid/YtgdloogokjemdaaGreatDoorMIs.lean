/- Chains and their states. -/
import Derived.Test.YtgdloogokjemdaaGreatDoorMCh
import Derived.Test.YtgdloogokjemdaaGreatDoorMN
import Derived.Test.YtgdloogokjemdaaGreatDoorEH
set_option linter.unusedVariables false
set_option linter.unusedSimpArgs false
namespace Go.E
open Go
def L15 : LFn := ⟨2, (.seq (.reg [⟨(.some 4), (.mv (.c (.lf (.bool false)))), none⟩])
 (.seq (.seq (.reg [⟨(.some 8), (.mv (.t 0)), none⟩, ⟨(.some 9), (.call true 28 [(.t 8)]), none⟩, ⟨(.some 10), (.una .not (.t 9)), none⟩, ⟨(.some 11), (.mv (.t 10)), none⟩, ⟨(.some 12), (.mv (.t 1)), (.some (11, false))⟩, ⟨(.some 13), (.len (.t 12)), (.some (11, false))⟩, ⟨(.some 14), (.mv (.t 0)), (.some (11, false))⟩, ⟨(.some 15), (.len (.t 14)), (.some (11, false))⟩, ⟨(.some 16), (.bin .neq (.t 13) (.t 15)), (.some (11, false))⟩, ⟨(.some 17), (.pick (.t 11) (.c (.lf (.bool true))) (.t 16)), none⟩])
 (.cond (.t 17) (.seq (.reg [⟨(.some 4), (.mv (.c (.lf (.bool false)))), none⟩])
 .ret) .skip))
 (.seq (.seq (.reg [⟨(.some 5), (.mv (.c (.lf (.int .i64 0)))), none⟩])
 (.block 0 (.loop (.seq (.seq (.reg [⟨(.some 18), (.mv (.t 5)), none⟩, ⟨(.some 19), (.mv (.t 0)), none⟩, ⟨(.some 20), (.len (.t 19)), none⟩, ⟨(.some 21), (.bin .lss (.t 18) (.t 20)), none⟩])
 (.cond (.t 21) .skip (.exit 0)))
 (.seq (.block 1 (.seq (.reg [⟨(.some 25), (.mv (.t 0)), none⟩, ⟨(.some 26), (.mv (.t 5)), none⟩, ⟨(.some 27), (.iaddr 3 (.t 25) (.t 26)), none⟩, ⟨(.some 28), (.faddr 0 (.t 27)), none⟩, ⟨(.some 29), (.load false 1 (.t 28)), none⟩, ⟨(.some 30), (.mv (.t 0)), none⟩, ⟨(.some 31), (.mv (.t 5)), none⟩, ⟨(.some 32), (.iaddr 3 (.t 30) (.t 31)), none⟩, ⟨(.some 33), (.faddr 1 (.t 32)), none⟩, ⟨(.some 34), (.load false 1 (.t 33)), none⟩, ⟨(.some 35), (.call true 32 [(.t 29), (.t 34)]), none⟩, ⟨(.some 24), (.mv (.t 35)), none⟩, ⟨(.some 36), (.ext (.t 24) 0), none⟩, ⟨(.some 37), (.ext (.t 24) 1), none⟩, ⟨(.some 6), (.mv (.t 36)), none⟩, ⟨(.some 7), (.mv (.t 37)), none⟩])
 (.seq (.reg [⟨(.some 38), (.mv (.t 1)), none⟩, ⟨(.some 39), (.mv (.t 5)), none⟩, ⟨(.some 40), (.iaddr 1 (.t 38) (.t 39)), none⟩, ⟨(.some 41), (.load false 1 (.t 40)), none⟩, ⟨(.some 42), (.len (.t 41)), none⟩, ⟨(.some 43), (.mv (.t 7)), none⟩, ⟨(.some 44), (.bin .neq (.t 42) (.t 43)), none⟩])
 (.cond (.t 44) (.seq (.reg [⟨(.some 4), (.mv (.c (.lf (.bool false)))), none⟩])
 .ret) .skip))))
 (.reg [⟨(.some 22), (.mv (.t 5)), none⟩, ⟨(.some 23), (.bin .add (.t 22) (.c (.lf (.int .i64 1)))), none⟩, ⟨(.some 5), (.mv (.t 23)), none⟩]))))))
 (.seq (.reg [⟨(.some 4), (.mv (.c (.lf (.bool true)))), none⟩])
 .ret)))), [(.tmp 4)]⟩
def L41 : LFn := ⟨1, (.seq (.reg [⟨(.some 1), (.box 44 (.t 0)), none⟩, ⟨(.some 2), (.mv (.c (.lf .nils))), none⟩])
 (.seq (.seq (.reg [⟨(.some 3), (.faddr 0 (.t 1)), none⟩, ⟨(.some 4), (.load false 1 (.t 3)), none⟩])
 (.block 0 (.seq (.reg [⟨(.some 6), (.bin .eql (.t 4) (.c (.lf (.int .i64 1)))), none⟩, ⟨(.some 5), (.mv (.t 6)), none⟩])
 (.cond (.t 5) (.seq (.reg [⟨(.some 7), (.call false 62 [(.c (.lf (.int .i64 2)))]), none⟩, ⟨(.some 2), (.mv (.t 7)), none⟩])
 .ret) (.seq (.reg [⟨(.some 9), (.bin .eql (.t 4) (.c (.lf (.int .i64 2)))), none⟩, ⟨(.some 8), (.mv (.t 9)), none⟩])
 (.cond (.t 8) (.seq (.reg [⟨(.some 10), (.faddr 1 (.t 1)), none⟩, ⟨(.some 11), (.load false 1 (.t 10)), none⟩, ⟨(.some 12), (.call false 62 [(.t 11)]), none⟩, ⟨(.some 2), (.mv (.t 12)), none⟩])
 .ret) (.seq (.reg [⟨(.some 14), (.bin .eql (.t 4) (.c (.lf (.int .i64 3)))), none⟩, ⟨(.some 13), (.mv (.t 14)), none⟩])
 (.cond (.t 13) (.seq (.reg [⟨(.some 15), (.call false 62 [(.c (.lf (.int .i64 1)))]), none⟩, ⟨(.some 2), (.mv (.t 15)), none⟩])
 .ret) (.seq (.reg [⟨(.some 17), (.bin .eql (.t 4) (.c (.lf (.int .i64 6)))), none⟩, ⟨(.some 16), (.mv (.t 17)), none⟩])
 (.cond (.t 16) (.seq (.reg [⟨(.some 18), (.lit 51 1 1 [(.flt .f32 0)] [(0, (1, (.c (.lf (.flt .f32 1065353216)))))]), none⟩, ⟨(.some 19), (.faddr 1 (.t 1)), none⟩, ⟨(.some 20), (.load false 1 (.t 19)), none⟩, ⟨(.some 21), (.call false 62 [(.t 20)]), none⟩, ⟨(.some 22), (.app 51 1 4 (.t 18) (.t 21)), none⟩, ⟨(.some 2), (.mv (.t 22)), none⟩])
 .ret) .skip))))))))))
 (.seq (.reg [⟨(.some 2), (.mv (.c (.lf .nils))), none⟩])
 .ret))), [(.tmp 2)]⟩
def L21 : LFn := ⟨2, (.seq (.reg [⟨(.some 4), (.mv (.c (.lf (.bool false)))), none⟩])
 (.seq (.seq (.reg [⟨(.some 7), (.mv (.t 0)), none⟩, ⟨(.some 8), (.call true 38 [(.t 7)]), none⟩, ⟨(.some 9), (.una .not (.t 8)), none⟩, ⟨(.some 10), (.mv (.t 9)), none⟩, ⟨(.some 11), (.mv (.t 1)), (.some (10, false))⟩, ⟨(.some 12), (.len (.t 11)), (.some (10, false))⟩, ⟨(.some 13), (.mv (.t 0)), (.some (10, false))⟩, ⟨(.some 14), (.len (.t 13)), (.some (10, false))⟩, ⟨(.some 15), (.bin .neq (.t 12) (.t 14)), (.some (10, false))⟩, ⟨(.some 16), (.pick (.t 10) (.c (.lf (.bool true))) (.t 15)), none⟩])
 (.cond (.t 16) (.seq (.reg [⟨(.some 4), (.mv (.c (.lf (.bool false)))), none⟩])
 .ret) .skip))
 (.seq (.seq (.reg [⟨(.some 17), (.mv (.t 0)), none⟩, ⟨(.some 18), (.len (.t 17)), none⟩, ⟨(.some 19), (.mv (.c (.lf (.int .i64 0)))), none⟩])
 (.block 0 (.loop (.seq (.reg [⟨(.some 20), (.bin .lss (.t 19) (.t 18)), none⟩])
 (.seq (.cond (.t 20) .skip (.exit 0))
 (.seq (.block 1 (.seq (.reg [⟨(.some 21), (.mv (.t 19)), none⟩, ⟨(.some 22), (.iaddr 3 (.t 17) (.t 19)), none⟩, ⟨(.some 23), (.load true 3 (.t 22)), none⟩, ⟨(.some 6), (.alloc 44 [(.int .i64 0), (.int .i64 0), .nils]), none⟩, ⟨(.some 5), (.mv (.t 21)), none⟩, ⟨none, (.store 3 (.t 6) (.t 23)), none⟩])
 (.seq (.any (.op ⟨(.some 24), (.mv (.t 1)), none⟩ (.op ⟨(.some 25), (.mv (.t 5)), none⟩ (.op ⟨(.some 26), (.iaddr 1 (.t 24) (.t 25)), none⟩ (.op ⟨(.some 29), (.load true 3 (.t 6)), none⟩ (.alt (.op ⟨(.some 27), (.load false 1 (.t 26)), none⟩ (.op ⟨(.some 28), (.len (.t 27)), none⟩ (.op ⟨(.some 30), (.call false 41 [(.t 29)]), none⟩ (.op ⟨(.some 31), (.len (.t 30)), none⟩ (.op ⟨(.some 32), (.bin .neq (.t 28) (.t 31)), none⟩ .nil))))) (.op ⟨(.some 30), (.call false 41 [(.t 29)]), none⟩ (.op ⟨(.some 27), (.load false 1 (.t 26)), none⟩ (.op ⟨(.some 28), (.len (.t 27)), none⟩ (.op ⟨(.some 31), (.len (.t 30)), none⟩ (.op ⟨(.some 32), (.bin .neq (.t 28) (.t 31)), none⟩ .nil)))))))))))
 (.cond (.t 32) (.seq (.reg [⟨(.some 4), (.mv (.c (.lf (.bool false)))), none⟩])
 .ret) .skip))))
 (.reg [⟨(.some 33), (.bin .add (.t 19) (.c (.lf (.int .i64 1)))), none⟩, ⟨(.some 19), (.mv (.t 33)), none⟩])))))))
 (.seq (.reg [⟨(.some 4), (.mv (.c (.lf (.bool true)))), none⟩])
 .ret)))), [(.tmp 4)]⟩
class HasIs (S : Sys) : Prop extends HasEf S, HasN S where
  f15 : S.fs 15 = some L15
  f41 : S.fs 41 = some L41
  f21 : S.fs 21 = some L21
/-- The state of an effect. -/
def stL (e : Eff) : List Nat := if e.kind = 1 then List.replicate 2 0 else if e.kind = 2 then List.replicate e.len.toNat 0 else if e.kind = 3 then List.replicate 1 0 else if e.kind = 6 then 1065353216 :: List.replicate e.len.toNat 0 else []
theorem stL_len {e : Eff} (he : effOk e) : ((stL e).length : Int) = stE e.kind e.len := by
  have hl := he.len
  obtain ⟨k, n, xs⟩ := e
  simp only at hl
  have hc := he.2.1
  rcases kinds k with rfl | rfl | rfl | rfl | rfl | rfl | rfl | ⟨k0, k4, k1, k2, k3, k5, k6⟩
  all_goals (simp [stL, stE, *] at hc ⊢ <;> try omega)
  simp [cntE, k0, k1, k2, k3, k4, k5, k6] at hc
theorem stL_le {e : Eff} (he : effOk e) : (stL e).length ≤ 33 := by
  have hl := he.len
  unfold stL
  repeat' split
  all_goals (simp; try omega)
def isFit (es : List Eff) (ss : List (List Nat)) : Prop := isCh es ∧ ss.length = es.length ∧ ∀ (i : Nat) (e : Eff) (s : List Nat), es[i]? = some e → ss[i]? = some s → (s.length : Int) = stE e.kind e.len
noncomputable instance (es : List Eff) (ss : List (List Nat)) : Decidable (isFit es ss) := Classical.propDecidable _
def fitTo (ps : List (Eff × Lf)) (qs : List (List Nat × Lf)) (k : Nat) : Prop := ∀ (i : Nat) (h1 : i < ps.length) (h2 : i < qs.length), i < k → (qs[i].1.length : Int) = stE ps[i].1.kind ps[i].1.len
theorem fitTo.zero {ps : List (Eff × Lf)} {qs : List (List Nat × Lf)} : fitTo ps qs 0 := fun i _ _ h => by omega
theorem fitTo.succ {ps : List (Eff × Lf)} {qs : List (List Nat × Lf)} {k : Nat} (h : fitTo ps qs k) (h1 : k < ps.length) (h2 : k < qs.length) (h3 : (qs[k].1.length : Int) = stE ps[k].1.kind ps[k].1.len) : fitTo ps qs (k + 1) := by
  intro i q1 q2 hlt
  by_cases e : i = k
  · subst e; exact h3
  · exact h i q1 q2 (by omega)
theorem fitTo.all {ps : List (Eff × Lf)} {qs : List (List Nat × Lf)} (hc : isCh (ps.map (·.1))) (hn : qs.length = ps.length) (h : fitTo ps qs ps.length) : isFit (ps.map (·.1)) (qs.map (·.1)) := by
  refine ⟨hc, by simpa using hn, fun i e s h1 h2 => ?_⟩
  rw [List.getElem?_map] at h1 h2
  obtain ⟨p, p1, rfl⟩ := Option.map_eq_some_iff.1 h1
  obtain ⟨q, q1, rfl⟩ := Option.map_eq_some_iff.1 h2
  obtain ⟨hp, rfl⟩ := List.getElem?_eq_some_iff.1 p1
  obtain ⟨hq, rfl⟩ := List.getElem?_eq_some_iff.1 q1
  exact h i hp hq hp
theorem fit_not {ps : List (Eff × Lf)} {qs : List (List Nat × Lf)} {k : Nat} (h1 : k < ps.length) (h2 : k < qs.length) (h3 : (qs[k].1.length : Int) ≠ stE ps[k].1.kind ps[k].1.len) : ¬ isFit (ps.map (·.1)) (qs.map (·.1)) := fun h => h3 (h.2.2 k _ _ (by simp [h1]) (by simp [h2]))
theorem fit_len {ps : List (Eff × Lf)} {qs : List (List Nat × Lf)} (h3 : qs.length ≠ ps.length) : ¬ isFit (ps.map (·.1)) (qs.map (·.1)) := fun h => h3 (by simpa using h.2.1)
theorem fit_ch {ps : List (Eff × Lf)} {qs : List (List Nat × Lf)} (h3 : ¬ isCh (ps.map (·.1))) : ¬ isFit (ps.map (·.1)) (qs.map (·.1)) := fun h => h3 h.1
section
variable {S : Sys} {lim : Nat} {h : Hp} {K : CV → Hp → Prop} [HasIs S] {l l2 : Lf} {ps : List (Eff × Lf)} {qs : List (List Nat × Lf)}
set_option maxHeartbeats 1000000 in
theorem c_l08Fit (hA : Arr h l 3 (ps.map Eff.cells)) (hI : In h Eff.nums ps) (hA2 : Arr h l2 1 (qs.map ssCells)) (hI2 : In h ssRows qs) : CallT S true 15 [.lf l, .lf l2] h lim K = K (.lf (.bool (decide (isFit (ps.map (·.1)) (qs.map (·.1)))))) h := by
  have hc := fun lim K => c_l08Is (S := S) (lim := lim) (K := K) hA hI
  by_cases hok : isCh (ps.map (·.1))
  · have hd : decide (isCh (ps.map (·.1))) = true := decide_eq_true hok
    have h8 := hok.1
    rw [List.length_map] at h8
    rw [hd] at hc
    by_cases hn : qs.length = ps.length
    · refine CallT_pure (F := L15) (HasIs.f15) rfl (by first | rfl | (split <;> rfl) | simp) ?_; unfold L15; dsimp only []
      repeat' (first | (simp (disch := first | omega | assumption | (simp only [List.length_set]; omega) | (simp [*] <;> fail) | assumption) [-Bool.decide_and, -Bool.decide_or, -Bool.not_and, -Bool.not_or, toNat_pred, toNat_succ, wrap64, wr_new, wr_new0, ok_if, ok_ifn, iadV_sl, makeV_int, decT, decF, over_at, *, hA.len, hA2.len]) | (with_reducible refine Gd_split (fun hc => ?_) (fun hc => ?_) <;> (have hc2 := hc; try simp at hc2)) | (with_reducible refine Br_split (fun hc => ?_) (fun hc => ?_) <;> (have hc2 := hc; try simp at hc2)) | (with_reducible refine GdT_split (fun hc => ?_) (fun hc => ?_) <;> (have hc2 := hc; try simp at hc2)) | (with_reducible refine WT_alt ?_ ?_) | omega)
      refine WL_forM 35184371826928 (by decide +kernel) (ps.length) (fun i b g => i ≤ ps.length ∧ b 5 = .lf (.int .i64 i) ∧ h = g ∧ fitTo ps qs i) (fun _ _ _ hi => hi.1) ⟨by omega, by simp, rfl, .zero⟩ ?_
      rintro i b g ⟨hi, e5, rfl, hu⟩
      by_cases hlt : i < ps.length
      · have hlt2 : i < qs.length := by omega
        have hl := (isCh_get hok hlt).len
        have hcn := fun h lim K => c_l08Counts (S := S) (h := h) (lim := lim) (K := K) (k := ps[i].1.kind) (n := ps[i].1.len) (by omega)
        have hI1 := (hI2 i hlt2).len
        simp only [ssRows] at hI1
        by_cases h6 : (qs[i].1.length : Int) = stE ps[i].1.kind ps[i].1.len
        · have hok2 := hu.succ hlt hlt2 h6
          repeat' (first | (simp (disch := first | omega | assumption | (simp only [List.length_set]; omega) | (simp [*] <;> fail) | assumption) [-Bool.decide_and, -Bool.decide_or, -Bool.not_and, -Bool.not_or, toNat_pred, toNat_succ, wrap64, wr_new, wr_new0, ok_if, ok_ifn, iadV_sl, makeV_int, decT, decF, over_at, *, hA.len, hA.at_, hA.at_', hA.rd, hA.rdIn, hA.rdIn0, hA.rdA, hA.rdInA, hA.rdIn0A, hA2.len, hA2.at_, hA2.at_', hA2.rd, hA2.rdIn, hA2.rdIn0, hA2.rdA, hA2.rdInA, hA2.rdIn0A, hA2.rd1, Eff.cells, ssCells]) | (with_reducible refine Gd_split (fun hc => ?_) (fun hc => ?_) <;> (have hc2 := hc; try simp at hc2)) | (with_reducible refine Br_split (fun hc => ?_) (fun hc => ?_) <;> (have hc2 := hc; try simp at hc2)) | (with_reducible refine GdT_split (fun hc => ?_) (fun hc => ?_) <;> (have hc2 := hc; try simp at hc2)) | (with_reducible refine WT_alt ?_ ?_) | omega)
        · have hno := fit_not hlt hlt2 h6
          generalize stE ps[i].1.kind ps[i].1.len = c at *
          repeat' (first | (simp (disch := first | omega | assumption | (simp only [List.length_set]; omega) | (simp [*] <;> fail) | assumption) [-Bool.decide_and, -Bool.decide_or, -Bool.not_and, -Bool.not_or, toNat_pred, toNat_succ, wrap64, wr_new, wr_new0, ok_if, ok_ifn, iadV_sl, makeV_int, decT, decF, over_at, *, hA.len, hA.at_, hA.at_', hA.rd, hA.rdIn, hA.rdIn0, hA.rdA, hA.rdInA, hA.rdIn0A, hA2.len, hA2.at_, hA2.at_', hA2.rd, hA2.rdIn, hA2.rdIn0, hA2.rdA, hA2.rdInA, hA2.rdIn0A, hA2.rd1, Eff.cells, ssCells]) | (with_reducible refine Gd_split (fun hc => ?_) (fun hc => ?_) <;> (have hc2 := hc; try simp at hc2)) | (with_reducible refine Br_split (fun hc => ?_) (fun hc => ?_) <;> (have hc2 := hc; try simp at hc2)) | (with_reducible refine GdT_split (fun hc => ?_) (fun hc => ?_) <;> (have hc2 := hc; try simp at hc2)) | (with_reducible refine WT_alt ?_ ?_) | omega)
      · have : i = ps.length := by omega
        subst this
        have hyes := hu.all hok hn
        repeat' (first | (simp (disch := first | omega | assumption | (simp only [List.length_set]; omega) | (simp [*] <;> fail) | assumption) [-Bool.decide_and, -Bool.decide_or, -Bool.not_and, -Bool.not_or, toNat_pred, toNat_succ, wrap64, wr_new, wr_new0, ok_if, ok_ifn, iadV_sl, makeV_int, decT, decF, over_at, *, hA.len, hA.at_, hA.at_', hA.rd, hA.rdIn, hA.rdIn0, hA.rdA, hA.rdInA, hA.rdIn0A]) | (with_reducible refine Gd_split (fun hc => ?_) (fun hc => ?_) <;> (have hc2 := hc; try simp at hc2)) | (with_reducible refine Br_split (fun hc => ?_) (fun hc => ?_) <;> (have hc2 := hc; try simp at hc2)) | (with_reducible refine GdT_split (fun hc => ?_) (fun hc => ?_) <;> (have hc2 := hc; try simp at hc2)) | (with_reducible refine WT_alt ?_ ?_) | omega)
    · have hno := fit_len hn
      have hn2 : ¬ (qs.length : Int) = ps.length := by omega
      refine CallT_pure (F := L15) (HasIs.f15) rfl (by first | rfl | (split <;> rfl) | simp) ?_; unfold L15; dsimp only []
      repeat' (first | (simp (disch := first | omega | assumption | (simp only [List.length_set]; omega) | (simp [*] <;> fail) | assumption) [-Bool.decide_and, -Bool.decide_or, -Bool.not_and, -Bool.not_or, toNat_pred, toNat_succ, wrap64, wr_new, wr_new0, ok_if, ok_ifn, iadV_sl, makeV_int, decT, decF, over_at, *, hA.len, hA2.len]) | (with_reducible refine Gd_split (fun hc => ?_) (fun hc => ?_) <;> (have hc2 := hc; try simp at hc2)) | (with_reducible refine Br_split (fun hc => ?_) (fun hc => ?_) <;> (have hc2 := hc; try simp at hc2)) | (with_reducible refine GdT_split (fun hc => ?_) (fun hc => ?_) <;> (have hc2 := hc; try simp at hc2)) | (with_reducible refine WT_alt ?_ ?_) | omega)
  · have hno := fit_ch (qs := qs) hok
    have hd : decide (isCh (ps.map (·.1))) = false := decide_eq_false hok
    rw [hd] at hc
    refine CallT_pure (F := L15) (HasIs.f15) rfl (by first | rfl | (split <;> rfl) | simp) ?_; unfold L15; dsimp only []
    repeat' (first | (simp (disch := first | omega | assumption | (simp only [List.length_set]; omega) | (simp [*] <;> fail) | assumption) [-Bool.decide_and, -Bool.decide_or, -Bool.not_and, -Bool.not_or, toNat_pred, toNat_succ, wrap64, wr_new, wr_new0, ok_if, ok_ifn, iadV_sl, makeV_int, decT, decF, over_at, *]) | (with_reducible refine Gd_split (fun hc => ?_) (fun hc => ?_) <;> (have hc2 := hc; try simp at hc2)) | (with_reducible refine Br_split (fun hc => ?_) (fun hc => ?_) <;> (have hc2 := hc; try simp at hc2)) | (with_reducible refine GdT_split (fun hc => ?_) (fun hc => ?_) <;> (have hc2 := hc; try simp at hc2)) | (with_reducible refine WT_alt ?_ ?_) | omega)
set_option maxHeartbeats 1000000 in
theorem c_state {e : Eff} (he : effOk e) (hl : lim ≤ h.length) (hK : ∀ l' g, New h g l' 51 1 ((stL e).map fl) → K (.lf l') g) : CallT S false 41 [.agg [.int .i64 e.kind, .int .i64 e.len, l]] h lim K := by
  have hn := he.len
  have hc := he.2.1
  obtain ⟨k, n, xs⟩ := e
  simp only at hn hc ⊢
  obtain ⟨m, rfl⟩ := Int.eq_ofNat_of_zero_le hn.1
  have hm : m ≤ 32 := by omega
  clear hn he
  rcases kinds k with rfl | rfl | rfl | rfl | rfl | rfl | rfl | ⟨k0, k4, k1, k2, k3, k5, k6⟩
  · simp [stL] at hK
    refine CallT_of_body (F := L41) (HasIs.f41) rfl ?_; unfold L41; dsimp only []
    repeat' (first | (simp (disch := first | omega | assumption | (simp only [List.length_set]; omega) | (simp [*] <;> fail) | assumption) [-Bool.decide_and, -Bool.decide_or, -Bool.not_and, -Bool.not_or, toNat_pred, toNat_succ, wrap64, wr_new, wr_new0, ok_if, ok_ifn, iadV_sl, makeV_int, decT, decF, over_at, *]) | (with_reducible refine Gd_split (fun hc => ?_) (fun hc => ?_) <;> (have hc2 := hc; try simp at hc2)) | (with_reducible refine Br_split (fun hc => ?_) (fun hc => ?_) <;> (have hc2 := hc; try simp at hc2)) | (with_reducible refine GdT_split (fun hc => ?_) (fun hc => ?_) <;> (have hc2 := hc; try simp at hc2)) | (with_reducible refine WT_alt ?_ ?_) | omega)
    exact hK _ _ (New.nil (Kept.app _ _))
  · simp [stL] at hK
    refine CallT_of_body (F := L41) (HasIs.f41) rfl ?_; unfold L41; dsimp only []
    repeat' (first | (simp (disch := first | omega | assumption | (simp only [List.length_set]; omega) | (simp [*] <;> fail) | assumption) [-Bool.decide_and, -Bool.decide_or, -Bool.not_and, -Bool.not_or, toNat_pred, toNat_succ, wrap64, wr_new, wr_new0, ok_if, ok_ifn, iadV_sl, makeV_int, decT, decF, over_at, *]) | (with_reducible refine Gd_split (fun hc => ?_) (fun hc => ?_) <;> (have hc2 := hc; try simp at hc2)) | (with_reducible refine Br_split (fun hc => ?_) (fun hc => ?_) <;> (have hc2 := hc; try simp at hc2)) | (with_reducible refine GdT_split (fun hc => ?_) (fun hc => ?_) <;> (have hc2 := hc; try simp at hc2)) | (with_reducible refine WT_alt ?_ ?_) | omega)
    exact hK _ _ (New.nil (Kept.app _ _))
  · simp [stL] at hK
    refine CallT_of_body (F := L41) (HasIs.f41) rfl ?_; unfold L41; dsimp only []
    repeat' (first | (simp (disch := first | omega | assumption | (simp only [List.length_set]; omega) | (simp [*] <;> fail) | assumption) [-Bool.decide_and, -Bool.decide_or, -Bool.not_and, -Bool.not_or, toNat_pred, toNat_succ, wrap64, wr_new, wr_new0, ok_if, ok_ifn, iadV_sl, makeV_int, decT, decF, over_at, *]) | (with_reducible refine Gd_split (fun hc => ?_) (fun hc => ?_) <;> (have hc2 := hc; try simp at hc2)) | (with_reducible refine Br_split (fun hc => ?_) (fun hc => ?_) <;> (have hc2 := hc; try simp at hc2)) | (with_reducible refine GdT_split (fun hc => ?_) (fun hc => ?_) <;> (have hc2 := hc; try simp at hc2)) | (with_reducible refine WT_alt ?_ ?_) | omega)
    refine c_zeros (n := 2) (by omega) (by simp; omega) fun l' g hN => ?_
    repeat' (first | (simp (disch := first | omega | assumption | (simp only [List.length_set]; omega) | (simp [*] <;> fail) | assumption) [-Bool.decide_and, -Bool.decide_or, -Bool.not_and, -Bool.not_or, toNat_pred, toNat_succ, wrap64, wr_new, wr_new0, ok_if, ok_ifn, iadV_sl, makeV_int, decT, decF, over_at, *]) | (with_reducible refine Gd_split (fun hc => ?_) (fun hc => ?_) <;> (have hc2 := hc; try simp at hc2)) | (with_reducible refine Br_split (fun hc => ?_) (fun hc => ?_) <;> (have hc2 := hc; try simp at hc2)) | (with_reducible refine GdT_split (fun hc => ?_) (fun hc => ?_) <;> (have hc2 := hc; try simp at hc2)) | (with_reducible refine WT_alt ?_ ?_) | omega)
    exact hK _ _ (by simpa using hN.base (Kept.app _ _))
  · simp [stL] at hK
    refine CallT_of_body (F := L41) (HasIs.f41) rfl ?_; unfold L41; dsimp only []
    repeat' (first | (simp (disch := first | omega | assumption | (simp only [List.length_set]; omega) | (simp [*] <;> fail) | assumption) [-Bool.decide_and, -Bool.decide_or, -Bool.not_and, -Bool.not_or, toNat_pred, toNat_succ, wrap64, wr_new, wr_new0, ok_if, ok_ifn, iadV_sl, makeV_int, decT, decF, over_at, *]) | (with_reducible refine Gd_split (fun hc => ?_) (fun hc => ?_) <;> (have hc2 := hc; try simp at hc2)) | (with_reducible refine Br_split (fun hc => ?_) (fun hc => ?_) <;> (have hc2 := hc; try simp at hc2)) | (with_reducible refine GdT_split (fun hc => ?_) (fun hc => ?_) <;> (have hc2 := hc; try simp at hc2)) | (with_reducible refine WT_alt ?_ ?_) | omega)
    refine c_zeros (n := m) (by omega) (by simp; omega) fun l' g hN => ?_
    repeat' (first | (simp (disch := first | omega | assumption | (simp only [List.length_set]; omega) | (simp [*] <;> fail) | assumption) [-Bool.decide_and, -Bool.decide_or, -Bool.not_and, -Bool.not_or, toNat_pred, toNat_succ, wrap64, wr_new, wr_new0, ok_if, ok_ifn, iadV_sl, makeV_int, decT, decF, over_at, *]) | (with_reducible refine Gd_split (fun hc => ?_) (fun hc => ?_) <;> (have hc2 := hc; try simp at hc2)) | (with_reducible refine Br_split (fun hc => ?_) (fun hc => ?_) <;> (have hc2 := hc; try simp at hc2)) | (with_reducible refine GdT_split (fun hc => ?_) (fun hc => ?_) <;> (have hc2 := hc; try simp at hc2)) | (with_reducible refine WT_alt ?_ ?_) | omega)
    exact hK _ _ (by simpa using hN.base (Kept.app _ _))
  · simp [stL] at hK
    refine CallT_of_body (F := L41) (HasIs.f41) rfl ?_; unfold L41; dsimp only []
    repeat' (first | (simp (disch := first | omega | assumption | (simp only [List.length_set]; omega) | (simp [*] <;> fail) | assumption) [-Bool.decide_and, -Bool.decide_or, -Bool.not_and, -Bool.not_or, toNat_pred, toNat_succ, wrap64, wr_new, wr_new0, ok_if, ok_ifn, iadV_sl, makeV_int, decT, decF, over_at, *]) | (with_reducible refine Gd_split (fun hc => ?_) (fun hc => ?_) <;> (have hc2 := hc; try simp at hc2)) | (with_reducible refine Br_split (fun hc => ?_) (fun hc => ?_) <;> (have hc2 := hc; try simp at hc2)) | (with_reducible refine GdT_split (fun hc => ?_) (fun hc => ?_) <;> (have hc2 := hc; try simp at hc2)) | (with_reducible refine WT_alt ?_ ?_) | omega)
    refine c_zeros (n := 1) (by omega) (by simp; omega) fun l' g hN => ?_
    repeat' (first | (simp (disch := first | omega | assumption | (simp only [List.length_set]; omega) | (simp [*] <;> fail) | assumption) [-Bool.decide_and, -Bool.decide_or, -Bool.not_and, -Bool.not_or, toNat_pred, toNat_succ, wrap64, wr_new, wr_new0, ok_if, ok_ifn, iadV_sl, makeV_int, decT, decF, over_at, *]) | (with_reducible refine Gd_split (fun hc => ?_) (fun hc => ?_) <;> (have hc2 := hc; try simp at hc2)) | (with_reducible refine Br_split (fun hc => ?_) (fun hc => ?_) <;> (have hc2 := hc; try simp at hc2)) | (with_reducible refine GdT_split (fun hc => ?_) (fun hc => ?_) <;> (have hc2 := hc; try simp at hc2)) | (with_reducible refine WT_alt ?_ ?_) | omega)
    exact hK _ _ (by simpa using hN.base (Kept.app _ _))
  · simp [stL] at hK
    refine CallT_of_body (F := L41) (HasIs.f41) rfl ?_; unfold L41; dsimp only []
    repeat' (first | (simp (disch := first | omega | assumption | (simp only [List.length_set]; omega) | (simp [*] <;> fail) | assumption) [-Bool.decide_and, -Bool.decide_or, -Bool.not_and, -Bool.not_or, toNat_pred, toNat_succ, wrap64, wr_new, wr_new0, ok_if, ok_ifn, iadV_sl, makeV_int, decT, decF, over_at, *]) | (with_reducible refine Gd_split (fun hc => ?_) (fun hc => ?_) <;> (have hc2 := hc; try simp at hc2)) | (with_reducible refine Br_split (fun hc => ?_) (fun hc => ?_) <;> (have hc2 := hc; try simp at hc2)) | (with_reducible refine GdT_split (fun hc => ?_) (fun hc => ?_) <;> (have hc2 := hc; try simp at hc2)) | (with_reducible refine WT_alt ?_ ?_) | omega)
    exact hK _ _ (New.nil (Kept.app _ _))
  · simp [stL] at hK
    refine CallT_of_body (F := L41) (HasIs.f41) rfl ?_; unfold L41; dsimp only []
    repeat' (first | (simp (disch := first | omega | assumption | (simp only [List.length_set]; omega) | (simp [*] <;> fail) | assumption) [-Bool.decide_and, -Bool.decide_or, -Bool.not_and, -Bool.not_or, toNat_pred, toNat_succ, wrap64, wr_new, wr_new0, ok_if, ok_ifn, iadV_sl, makeV_int, decT, decF, over_at, *, leavesAll, fillL]) | (with_reducible refine Gd_split (fun hc => ?_) (fun hc => ?_) <;> (have hc2 := hc; try simp at hc2)) | (with_reducible refine Br_split (fun hc => ?_) (fun hc => ?_) <;> (have hc2 := hc; try simp at hc2)) | (with_reducible refine GdT_split (fun hc => ?_) (fun hc => ?_) <;> (have hc2 := hc; try simp at hc2)) | (with_reducible refine WT_alt ?_ ?_) | omega)
    refine c_zeros (n := m) (by omega) (by simp; omega) fun l' g hN => ?_
    have hS : Sl (h ++ [⟨[.int .i64 6, .int .i64 m, l], .own 44 1⟩, ⟨[.flt .f32 1065353216], .own 51 1⟩]) (h.length + 1) 51 1 [fl 1065353216] := ⟨by simp [fl], fun i r hi => by
      cases i with
      | zero => simp at hi; subst hi; rfl
      | succ i => simp at hi⟩
    have hL := (New.of_sl (Kept.app h _) hS (by omega) (by simp)).later hN.kept
    repeat' (first | (simp (disch := first | omega | assumption | (simp only [List.length_set]; omega) | (simp [*] <;> fail) | assumption) [-Bool.decide_and, -Bool.decide_or, -Bool.not_and, -Bool.not_or, toNat_pred, toNat_succ, wrap64, wr_new, wr_new0, ok_if, ok_ifn, iadV_sl, makeV_int, decT, decF, over_at, *]) | (with_reducible refine Gd_split (fun hc => ?_) (fun hc => ?_) <;> (have hc2 := hc; try simp at hc2)) | (with_reducible refine Br_split (fun hc => ?_) (fun hc => ?_) <;> (have hc2 := hc; try simp at hc2)) | (with_reducible refine GdT_split (fun hc => ?_) (fun hc => ?_) <;> (have hc2 := hc; try simp at hc2)) | (with_reducible refine WT_alt ?_ ?_) | omega)
    refine oc_app hL hl hN.src (fun i r hi => (hN.arr.row i r hi).1) (by simp; omega) fun l2 g2 hN2 hB => ?_
    repeat' (first | (simp (disch := first | omega | assumption | (simp only [List.length_set]; omega) | (simp [*] <;> fail) | assumption) [-Bool.decide_and, -Bool.decide_or, -Bool.not_and, -Bool.not_or, toNat_pred, toNat_succ, wrap64, wr_new, wr_new0, ok_if, ok_ifn, iadV_sl, makeV_int, decT, decF, over_at, *]) | (with_reducible refine Gd_split (fun hc => ?_) (fun hc => ?_) <;> (have hc2 := hc; try simp at hc2)) | (with_reducible refine Br_split (fun hc => ?_) (fun hc => ?_) <;> (have hc2 := hc; try simp at hc2)) | (with_reducible refine GdT_split (fun hc => ?_) (fun hc => ?_) <;> (have hc2 := hc; try simp at hc2)) | (with_reducible refine WT_alt ?_ ?_) | omega)
    exact hK _ _ (by simpa using hN2)
  · simp [cntE, k0, k1, k2, k3, k4, k5, k6] at hc
set_option maxHeartbeats 1000000 in
theorem c_implIsState (hA : Arr h l 3 (ps.map Eff.cells)) (hI : In h Eff.nums ps) (hA2 : Arr h l2 1 (qs.map ssCells)) (hI2 : In h ssRows qs) : CallT S true 21 [.lf l, .lf l2] h lim K = K (.lf (.bool (decide (isFit (ps.map (·.1)) (qs.map (·.1)))))) h := by
  have hc := fun lim K => c_implValidChain (S := S) (lim := lim) (K := K) hA hI
  by_cases hok : isCh (ps.map (·.1))
  · have hd : decide (isCh (ps.map (·.1))) = true := decide_eq_true hok
    have h8 := hok.1
    rw [List.length_map] at h8
    rw [hd] at hc
    by_cases hn : qs.length = ps.length
    · refine CallT_pure (F := L21) (HasIs.f21) rfl (by first | rfl | (split <;> rfl) | simp) ?_; unfold L21; dsimp only []
      repeat' (first | (simp (disch := first | omega | assumption | (simp only [List.length_set]; omega) | (simp [*] <;> fail) | assumption) [-Bool.decide_and, -Bool.decide_or, -Bool.not_and, -Bool.not_or, toNat_pred, toNat_succ, wrap64, wr_new, wr_new0, ok_if, ok_ifn, iadV_sl, makeV_int, decT, decF, over_at, *, hA.len, hA2.len]) | (with_reducible refine Gd_split (fun hc => ?_) (fun hc => ?_) <;> (have hc2 := hc; try simp at hc2)) | (with_reducible refine Br_split (fun hc => ?_) (fun hc => ?_) <;> (have hc2 := hc; try simp at hc2)) | (with_reducible refine GdT_split (fun hc => ?_) (fun hc => ?_) <;> (have hc2 := hc; try simp at hc2)) | (with_reducible refine WT_alt ?_ ?_) | omega)
      refine WL_forM 17179345008 (by decide +kernel) (ps.length) (fun i b g => i ≤ ps.length ∧ b 19 = .lf (.int .i64 i) ∧ Kept h g ∧ fitTo ps qs i) (fun _ _ _ hi => hi.1) ⟨by omega, by simp, Kept.refl _, .zero⟩ ?_
      rintro i b g ⟨hi, e5, hk, hu⟩
      replace hA := hA.kept hk
      replace hI := hI.kept hk
      replace hA2 := hA2.kept hk
      replace hI2 := hI2.kept hk
      have hg := hk.1
      by_cases hlt : i < ps.length
      · have hlt2 : i < qs.length := by omega
        have he := isCh_get hok hlt
        have hst := stL_len he
        have hI1 := (hI2 i hlt2).len
        simp only [ssRows] at hI1
        repeat' (first | (simp (disch := first | omega | assumption | (simp only [List.length_set]; omega) | (simp [*] <;> fail) | assumption) [-Bool.decide_and, -Bool.decide_or, -Bool.not_and, -Bool.not_or, toNat_pred, toNat_succ, wrap64, wr_new, wr_new0, ok_if, ok_ifn, iadV_sl, makeV_int, decT, decF, over_at, *, hA.len, hA.at_, hA.at_', hA.rd, hA.rdIn, hA.rdIn0, hA.rdA, hA.rdInA, hA.rdIn0A, hA2.len, hA2.at_, hA2.at_', hA2.rd, hA2.rdIn, hA2.rdIn0, hA2.rdA, hA2.rdInA, hA2.rdIn0A, hA2.rd1, hA2.rd1A, Eff.cells, ssCells]) | (with_reducible refine Gd_split (fun hc => ?_) (fun hc => ?_) <;> (have hc2 := hc; try simp at hc2)) | (with_reducible refine Br_split (fun hc => ?_) (fun hc => ?_) <;> (have hc2 := hc; try simp at hc2)) | (with_reducible refine GdT_split (fun hc => ?_) (fun hc => ?_) <;> (have hc2 := hc; try simp at hc2)) | (with_reducible refine WT_alt ?_ ?_) | omega)
        all_goals (
          refine c_state he (by simp; omega) fun l' g2 hN => ?_
          have hA3 := hA2.app.kept hN.kept
          have hN2 := hN.arr.len
          have hk2 := (Kept.app g _).trans hN.kept
          have hk3 := hk.trans hk2
          by_cases h6 : (qs[i].1.length : Int) = stE ps[i].1.kind ps[i].1.len
          · have hok2 := hu.succ hlt hlt2 h6
            rw [← hst] at h6
            repeat' (first | (simp (disch := first | omega | assumption | (simp only [List.length_set]; omega) | (simp [*] <;> fail) | assumption) [-Bool.decide_and, -Bool.decide_or, -Bool.not_and, -Bool.not_or, toNat_pred, toNat_succ, wrap64, wr_new, wr_new0, ok_if, ok_ifn, iadV_sl, makeV_int, decT, decF, over_at, *, hA3.len, hA3.at_, hA3.at_', hA3.rd, hA3.rdIn, hA3.rdIn0, hA3.rdA, hA3.rdInA, hA3.rdIn0A, hA3.rd1, Eff.cells, ssCells]) | (with_reducible refine Gd_split (fun hc => ?_) (fun hc => ?_) <;> (have hc2 := hc; try simp at hc2)) | (with_reducible refine Br_split (fun hc => ?_) (fun hc => ?_) <;> (have hc2 := hc; try simp at hc2)) | (with_reducible refine GdT_split (fun hc => ?_) (fun hc => ?_) <;> (have hc2 := hc; try simp at hc2)) | (with_reducible refine WT_alt ?_ ?_) | omega)
          · have hno := fit_not hlt hlt2 h6
            rw [← hst] at h6
            repeat' (first | (simp (disch := first | omega | assumption | (simp only [List.length_set]; omega) | (simp [*] <;> fail) | assumption) [-Bool.decide_and, -Bool.decide_or, -Bool.not_and, -Bool.not_or, toNat_pred, toNat_succ, wrap64, wr_new, wr_new0, ok_if, ok_ifn, iadV_sl, makeV_int, decT, decF, over_at, *, hA3.len, hA3.at_, hA3.at_', hA3.rd, hA3.rdIn, hA3.rdIn0, hA3.rdA, hA3.rdInA, hA3.rdIn0A, hA3.rd1, Eff.cells, ssCells]) | (with_reducible refine Gd_split (fun hc => ?_) (fun hc => ?_) <;> (have hc2 := hc; try simp at hc2)) | (with_reducible refine Br_split (fun hc => ?_) (fun hc => ?_) <;> (have hc2 := hc; try simp at hc2)) | (with_reducible refine GdT_split (fun hc => ?_) (fun hc => ?_) <;> (have hc2 := hc; try simp at hc2)) | (with_reducible refine WT_alt ?_ ?_) | omega))
      · have : i = ps.length := by omega
        subst this
        have hyes := hu.all hok hn
        repeat' (first | (simp (disch := first | omega | assumption | (simp only [List.length_set]; omega) | (simp [*] <;> fail) | assumption) [-Bool.decide_and, -Bool.decide_or, -Bool.not_and, -Bool.not_or, toNat_pred, toNat_succ, wrap64, wr_new, wr_new0, ok_if, ok_ifn, iadV_sl, makeV_int, decT, decF, over_at, *, hA.len, hA.at_, hA.at_', hA.rd, hA.rdIn, hA.rdIn0, hA.rdA, hA.rdInA, hA.rdIn0A]) | (with_reducible refine Gd_split (fun hc => ?_) (fun hc => ?_) <;> (have hc2 := hc; try simp at hc2)) | (with_reducible refine Br_split (fun hc => ?_) (fun hc => ?_) <;> (have hc2 := hc; try simp at hc2)) | (with_reducible refine GdT_split (fun hc => ?_) (fun hc => ?_) <;> (have hc2 := hc; try simp at hc2)) | (with_reducible refine WT_alt ?_ ?_) | omega)
    · have hno := fit_len hn
      have hn2 : ¬ (qs.length : Int) = ps.length := by omega
      refine CallT_pure (F := L21) (HasIs.f21) rfl (by first | rfl | (split <;> rfl) | simp) ?_; unfold L21; dsimp only []
      repeat' (first | (simp (disch := first | omega | assumption | (simp only [List.length_set]; omega) | (simp [*] <;> fail) | assumption) [-Bool.decide_and, -Bool.decide_or, -Bool.not_and, -Bool.not_or, toNat_pred, toNat_succ, wrap64, wr_new, wr_new0, ok_if, ok_ifn, iadV_sl, makeV_int, decT, decF, over_at, *, hA.len, hA2.len]) | (with_reducible refine Gd_split (fun hc => ?_) (fun hc => ?_) <;> (have hc2 := hc; try simp at hc2)) | (with_reducible refine Br_split (fun hc => ?_) (fun hc => ?_) <;> (have hc2 := hc; try simp at hc2)) | (with_reducible refine GdT_split (fun hc => ?_) (fun hc => ?_) <;> (have hc2 := hc; try simp at hc2)) | (with_reducible refine WT_alt ?_ ?_) | omega)
  · have hno := fit_ch (qs := qs) hok
    have hd : decide (isCh (ps.map (·.1))) = false := decide_eq_false hok
    rw [hd] at hc
    refine CallT_pure (F := L21) (HasIs.f21) rfl (by first | rfl | (split <;> rfl) | simp) ?_; unfold L21; dsimp only []
    repeat' (first | (simp (disch := first | omega | assumption | (simp only [List.length_set]; omega) | (simp [*] <;> fail) | assumption) [-Bool.decide_and, -Bool.decide_or, -Bool.not_and, -Bool.not_or, toNat_pred, toNat_succ, wrap64, wr_new, wr_new0, ok_if, ok_ifn, iadV_sl, makeV_int, decT, decF, over_at, *]) | (with_reducible refine Gd_split (fun hc => ?_) (fun hc => ?_) <;> (have hc2 := hc; try simp at hc2)) | (with_reducible refine Br_split (fun hc => ?_) (fun hc => ?_) <;> (have hc2 := hc; try simp at hc2)) | (with_reducible refine GdT_split (fun hc => ?_) (fun hc => ?_) <;> (have hc2 := hc; try simp at hc2)) | (with_reducible refine WT_alt ?_ ?_) | omega)
end
end Go.E
