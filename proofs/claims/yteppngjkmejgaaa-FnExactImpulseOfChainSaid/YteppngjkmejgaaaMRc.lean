/- What a chain makes of samples, the program's side. -/
import Derived.Test.YteppngjkmejgaaaMEr
import Derived.Test.YteppngjkmejgaaaMSs
import Derived.Test.YteppngjkmejgaaaMDm
set_option linter.unusedVariables false
set_option linter.unusedSimpArgs false
namespace Go.E
open Go
def L33 : LFn := ⟨3, (.seq (.reg [⟨(.some 6), (.mv (.c (.lf .nils))), none⟩, ⟨(.some 7), (.mv (.c (.lf .nils))), none⟩])
 (.seq (.reg [⟨(.some 14), (.mv (.t 2)), none⟩, ⟨(.some 15), (.call false 49 [(.t 14)]), none⟩, ⟨(.some 8), (.mv (.t 15)), none⟩])
 (.seq (.reg [⟨(.some 9), (.mv (.c (.lf .nils))), none⟩])
 (.seq (.seq (.reg [⟨(.some 16), (.mv (.t 0)), none⟩, ⟨(.some 17), (.len (.t 16)), none⟩, ⟨(.some 18), (.mv (.c (.lf (.int .i64 0)))), none⟩])
 (.block 0 (.loop (.seq (.reg [⟨(.some 19), (.bin .lss (.t 18) (.t 17)), none⟩])
 (.seq (.cond (.t 19) .skip (.exit 0))
 (.seq (.block 1 (.seq (.reg [⟨(.some 20), (.mv (.t 18)), none⟩, ⟨(.some 21), (.iaddr 3 (.t 16) (.t 18)), none⟩, ⟨(.some 22), (.load true 3 (.t 21)), none⟩, ⟨(.some 11), (.alloc 54 [(.int .i64 0), (.int .i64 0), .nils]), none⟩, ⟨(.some 10), (.mv (.t 20)), none⟩, ⟨none, (.store 3 (.t 11) (.t 22)), none⟩])
 (.seq (.reg [⟨(.some 24), (.load true 3 (.t 11)), none⟩, ⟨(.some 25), (.mv (.t 1)), none⟩, ⟨(.some 26), (.mv (.t 10)), none⟩, ⟨(.some 27), (.iaddr 1 (.t 25) (.t 26)), none⟩, ⟨(.some 28), (.load false 1 (.t 27)), none⟩, ⟨(.some 29), (.mv (.t 8)), none⟩, ⟨(.some 30), (.call false 50 [(.t 24), (.t 28), (.t 29)]), none⟩, ⟨(.some 23), (.mv (.t 30)), none⟩, ⟨(.some 31), (.ext (.t 23) 0), none⟩, ⟨(.some 32), (.ext (.t 23) 1), none⟩, ⟨(.some 12), (.mv (.t 31)), none⟩, ⟨(.some 13), (.mv (.t 32)), none⟩])
 (.seq (.reg [⟨(.some 33), (.mv (.t 12)), none⟩, ⟨(.some 8), (.mv (.t 33)), none⟩])
 (.reg [⟨(.some 34), (.mv (.t 9)), none⟩, ⟨(.some 35), (.mv (.t 13)), none⟩, ⟨(.some 36), (.lit 24 1 1 [.nils] [(0, (1, (.t 35)))]), none⟩, ⟨(.some 37), (.app 24 1 24 (.t 34) (.t 36)), none⟩, ⟨(.some 9), (.mv (.t 37)), none⟩])))))
 (.reg [⟨(.some 38), (.bin .add (.t 18) (.c (.lf (.int .i64 1)))), none⟩, ⟨(.some 18), (.mv (.t 38)), none⟩])))))))
 (.seq (.reg [⟨(.some 39), (.mv (.t 8)), none⟩, ⟨(.some 40), (.mv (.t 9)), none⟩, ⟨(.some 6), (.mv (.t 39)), none⟩, ⟨(.some 7), (.mv (.t 40)), none⟩])
 .ret))))), [(.tmp 6), (.tmp 7)]⟩
class HasRc (S : Sys) : Prop extends HasEc S, HasSc S, HasFr S, HasCl S, HasBe S, HasSq S, HasLi S where
  f33 : S.fs 33 = some L33
theorem scan_CF {σ : Type} {step : σ → Nat → Nat × σ} {s : σ} {xs : List Nat} (hs : ∀ t x, CF (step t x).1) : ∀ y ∈ (scan step s xs).1, CF y := by
  have key : ∀ i, i ≤ xs.length → ∀ y ∈ outTo step s xs i, CF y := by
    intro i
    induction i with
    | zero => intro _ y hy; simp at hy
    | succ i ih =>
      intro hi y hy
      rw [outTo_succ (by omega)] at hy
      rcases List.mem_append.1 hy with hy | hy
      · exact ih (by omega) y hy
      · simp only [List.mem_singleton] at hy
        subst hy
        exact hs _ _
  rw [← outTo_all]
  exact key _ (Nat.le_refl _)
theorem CF_negF {x : Nat} (h : CF x) : CF (fneg .f32 x) := by
  have hf := neg_FR (FR.self (k := .f32) h.1 h.2)
  exact ⟨hf.lt, hf.can_x⟩
theorem CF_0 : CF 0 := ⟨by decide, by decide⟩
theorem getD_CF {xs : List Nat} {j : Nat} (h : ∀ x ∈ xs, CF x) : CF (xs.getD j 0) := by
  rcases Nat.lt_or_ge j xs.length with hj | hj
  · rw [List.getD_eq_getElem?_getD, List.getElem?_eq_getElem hj]; exact h _ (List.getElem_mem hj)
  · rw [List.getD_eq_getElem?_getD, List.getElem?_eq_none hj]; exact CF_0
theorem CF_clip {l x : Nat} (hl : CF l) (hx : CF x) : CF (clipF l x) := by
  unfold clipF
  split
  · split
    · exact CF_negF hl
    · exact hl
  · exact hx
theorem CF_bend {x : Nat} : CF (bendF x) := by
  unfold bendF
  split
  · exact ⟨by decide, by decide +kernel⟩
  · split
    · exact ⟨by decide, by decide +kernel⟩
    · exact CF_bin
theorem runE_CF {e : Eff} {st xs : List Nat} (hn : ∀ x ∈ e.nums, CF x) (hs : ∀ x ∈ st, CF x) (hx : ∀ x ∈ xs, CF x) : ∀ y ∈ (runE e st xs).1, CF y := by
  unfold runE
  split
  · intro y hy
    obtain ⟨x, _, rfl⟩ := List.mem_map.1 hy
    exact CF_bin
  split
  · exact CF_scan ⟨getD_CF hs, getD_CF hs, CF_0, CF_0⟩ hx
  split
  · exact scan_CF fun t x => CF_bin
  split
  · exact scan_CF fun t x => CF_bin
  split
  · intro y hy
    obtain ⟨x, h1, rfl⟩ := List.mem_map.1 hy
    exact CF_clip (getD_CF hn) (hx x h1)
  split
  · intro y hy
    obtain ⟨x, _, rfl⟩ := List.mem_map.1 hy
    exact CF_bend
  · exact scan_CF fun t x => CF_clip (getD_CF hn) CF_bin
theorem runE_len {e : Eff} {st xs : List Nat} : (runE e st xs).1.length = xs.length := by
  unfold runE
  repeat' split
  all_goals (first | (simp; done) | exact scan_len)
def rcS (st : List Nat × List (List Nat)) (p : Eff × List Nat) : List Nat × List (List Nat) := ((runE p.1 p.2 st.1).1, st.2 ++ [(runE p.1 p.2 st.1).2])
def runTo (es : List Eff) (ss : List (List Nat)) (xs : List Nat) (i : Nat) : List Nat × List (List Nat) := ((es.zip ss).take i).foldl rcS (xs, [])
/-- What a chain makes of samples, and its state then. -/
def runL (es : List Eff) (ss : List (List Nat)) (xs : List Nat) : List Nat × List (List Nat) := runTo es ss xs es.length
theorem runTo_zero {es : List Eff} {ss : List (List Nat)} {xs : List Nat} : runTo es ss xs 0 = (xs, []) := by simp [runTo]
theorem runTo_succ {es : List Eff} {ss : List (List Nat)} {xs : List Nat} {i : Nat} (h1 : i < es.length) (h2 : i < ss.length) : runTo es ss xs (i + 1) = ((runE es[i] ss[i] (runTo es ss xs i).1).1, (runTo es ss xs i).2 ++ [(runE es[i] ss[i] (runTo es ss xs i).1).2]) := by
  unfold runTo
  rw [List.take_succ_eq_append_getElem (by simp; omega), List.foldl_append]
  simp [rcS]
theorem runTo_ok {es : List Eff} {ss : List (List Nat)} {xs : List Nat} (hn : ∀ e ∈ es, ∀ x ∈ e.nums, CF x) (hs : ∀ s ∈ ss, ∀ x ∈ s, CF x) (hx : ∀ x ∈ xs, CF x) (hl : ss.length = es.length) : ∀ {i : Nat}, i ≤ es.length → (runTo es ss xs i).1.length = xs.length ∧ (∀ y ∈ (runTo es ss xs i).1, CF y) ∧ (runTo es ss xs i).2.length = i
  | 0, _ => by rw [runTo_zero]; exact ⟨rfl, hx, rfl⟩
  | i + 1, hi => by
    obtain ⟨a, b, c⟩ := runTo_ok hn hs hx hl (i := i) (by omega)
    rw [runTo_succ (by omega) (by omega)]
    exact ⟨by simp only []; rw [runE_len]; exact a, runE_CF (hn _ (List.getElem_mem _)) (hs _ (List.getElem_mem _)) b, by simp [c]⟩
section
variable {S : Sys} {lim : Nat} {h : Hp} {K : CV → Hp → Prop} [HasRc S] {l l2 l3 : Lf} {xs : List Nat} {ps : List (Eff × Lf)} {qs : List (List Nat × Lf)}
set_option maxHeartbeats 4000000 in
theorem c_runChain (hL : Arr h l 3 (ps.map Eff.cells)) (hI : In h Eff.nums ps) (hS : Arr h l2 1 (qs.map ssCells)) (hT : Sms h ssRows qs) (hfit : isFit (ps.map (·.1)) (qs.map (·.1))) (hnc : ∀ e ∈ ps.map (·.1), ∀ x ∈ e.nums, CF x) (hsc : ∀ s ∈ qs.map (·.1), ∀ x ∈ s, CF x) (hX : Sm h l3 xs) (hx : ∀ x ∈ xs, CF x) (hn : xs.length ≤ 256) (hl : lim ≤ h.length)
    (hK : ∀ o sg rs g, New h g o 50 1 ((runL (ps.map (·.1)) (qs.map (·.1)) xs).1.map fl) → NewD h g sg 24 1 ssCells ssRows 50 rs → rs.map (·.1) = (runL (ps.map (·.1)) (qs.map (·.1)) xs).2 → (∀ t ∈ lvs sg rs, Far o t) → K (.tup [.lf o, .lf sg]) g) : CallT S false 33 [.lf l, .lf l2, .lf l3] h lim K := by
  have hlen : qs.length = ps.length := by have := hfit.2.1; simpa using this
  have h8 : ps.length ≤ 8 := by have := hfit.1.1; simpa using this
  refine CallT_of_body (F := L33) (HasRc.f33) rfl ?_; unfold L33; dsimp only []
  repeat' (first | (simp (disch := first | omega | assumption | (simp only [List.length_set]; omega) | (simp [*] <;> fail) | assumption) [-Bool.decide_and, -Bool.decide_or, -Bool.not_and, -Bool.not_or, toNat_pred, toNat_succ, wrap64, wr_new, wr_new0, ok_if, ok_ifn, iadV_sl, makeV_int, decT, decF, over_at, *]) | (with_reducible refine Gd_split (fun hc => ?_) (fun hc => ?_) <;> (have hc2 := hc; try simp at hc2)) | (with_reducible refine Br_split (fun hc => ?_) (fun hc => ?_) <;> (have hc2 := hc; try simp at hc2)) | (with_reducible refine GdT_split (fun hc => ?_) (fun hc => ?_) <;> (have hc2 := hc; try simp at hc2)) | (with_reducible refine WT_alt ?_ ?_) | omega)
  refine c_copyNumbers hX (by omega) hl fun x0 g0 hC => ?_
  have hk0 := hC.kept
  have hk01 := hk0.1
  have hL0 := hL.kept hk0
  repeat' (first | (simp (disch := first | omega | assumption | (simp only [List.length_set]; omega) | (simp [*] <;> fail) | assumption) [-Bool.decide_and, -Bool.decide_or, -Bool.not_and, -Bool.not_or, toNat_pred, toNat_succ, wrap64, wr_new, wr_new0, ok_if, ok_ifn, iadV_sl, makeV_int, decT, decF, over_at, *, hL0.len]) | (with_reducible refine Gd_split (fun hc => ?_) (fun hc => ?_) <;> (have hc2 := hc; try simp at hc2)) | (with_reducible refine Br_split (fun hc => ?_) (fun hc => ?_) <;> (have hc2 := hc; try simp at hc2)) | (with_reducible refine GdT_split (fun hc => ?_) (fun hc => ?_) <;> (have hc2 := hc; try simp at hc2)) | (with_reducible refine WT_alt ?_ ?_) | omega)
  refine WL_forM 549755567872 (by decide +kernel) (ps.length) (fun i b g => i ≤ ps.length ∧ b 18 = .lf (.int .i64 i) ∧ ∃ o sg rs, b 8 = .lf o ∧ b 9 = .lf sg ∧ New h g o 50 1 ((runTo (ps.map (·.1)) (qs.map (·.1)) xs i).1.map fl) ∧ NewD h g sg 24 1 ssCells ssRows 50 rs ∧ rs.map (·.1) = (runTo (ps.map (·.1)) (qs.map (·.1)) xs i).2 ∧ ∀ t ∈ lvs sg rs, Far o t) (fun _ _ _ hi => hi.1) ⟨by omega, by simp, x0, .nils, [], by simp, by simp, by rw [runTo_zero]; exact hC, NewD.start hk0, by rw [runTo_zero]; rfl, fun t ht => by simp [lvs] at ht; subst ht; exact Far.nil_right⟩ ?_
  rintro i b g ⟨hi, e18, o, sg, rs, e8, e9, hO, hD, hr, hf⟩
  have hk := hO.kept
  have hk1 := hk.1
  have hL1 := hL.kept hk
  have hS1 := hS.kept hk
  by_cases hlt : i < ps.length
  · have hlt2 : i < qs.length := by omega
    obtain ⟨k1, k2, k3⟩ := runTo_ok (ss := qs.map (·.1)) (xs := xs) hnc hsc hx (by simpa using hlen) (i := i) (by simpa using hi)
    have hs := runTo_succ (es := ps.map (·.1)) (ss := qs.map (·.1)) (xs := xs) (i := i) (by simpa using hlt) (by simpa using hlt2)
    rw [List.getElem_map, List.getElem_map] at hs
    have he := isCh_get hfit.1 hlt
    have hst : (qs[i].1.length : Int) = stE ps[i].1.kind ps[i].1.len := hfit.2.2 i _ _ (by simp [hlt]) (by simp [hlt2])
    have hqc : ∀ x ∈ qs[i].1, CF x := hsc _ (List.mem_map.2 ⟨qs[i], List.getElem_mem hlt2, rfl⟩)
    generalize runTo (ps.map (·.1)) (qs.map (·.1)) xs i = now at *
    obtain ⟨ys, outs⟩ := now
    simp only at k1 k2 k3 hO hr hs
    have hrl : rs.length = i := by have := congrArg List.length hr; simpa [k3] using this
    have hsH : Hid (runTo (ps.map (·.1)) (qs.map (·.1)) xs (i + 1) = ((runE ps[i].1 qs[i].1 ys).1, outs ++ [(runE ps[i].1 qs[i].1 ys).2])) := hs
    have hrH : Hid (rs.map (·.1) = outs) := hr
    clear hK hs hr
    repeat' (first | (simp (disch := first | omega | assumption | (simp only [List.length_set]; omega) | (simp [*] <;> fail) | assumption) [-Bool.decide_and, -Bool.decide_or, -Bool.not_and, -Bool.not_or, toNat_pred, toNat_succ, wrap64, wr_new, wr_new0, ok_if, ok_ifn, iadV_sl, makeV_int, decT, decF, over_at, *, hL1.len, hL1.at_, hL1.at_', hL1.rd, hL1.rdIn, hL1.rdIn0, hL1.rdA, hL1.rdInA, hL1.rdIn0A, hS1.len, hS1.at_, hS1.at_', hS1.rd, hS1.rdIn, hS1.rdIn0, hS1.rdA, hS1.rdInA, hS1.rdIn0A, hS1.rd1, hS1.rd1A, Eff.cells, ssCells]) | (with_reducible refine Gd_split (fun hc => ?_) (fun hc => ?_) <;> (have hc2 := hc; try simp at hc2)) | (with_reducible refine Br_split (fun hc => ?_) (fun hc => ?_) <;> (have hc2 := hc; try simp at hc2)) | (with_reducible refine GdT_split (fun hc => ?_) (fun hc => ?_) <;> (have hc2 := hc; try simp at hc2)) | (with_reducible refine WT_alt ?_ ?_) | omega)
    have kx := Kept.app g [⟨[.int .i64 ps[i].1.kind, .int .i64 ps[i].1.len, ps[i].2], .own 54 1⟩]
    have kk := hk.trans kx
    refine c_runE he hst ((hI i hlt).kept kk) ((hT i hlt2).kept kk) hqc (hO.arr.kept kx) k2 (by omega) (by simp; omega) fun o2 s2 g2 hO2 hS2 hf2 => ?_
    have hE := (hD.later kx)
    obtain ⟨z1, z2⟩ := hE.fresh hS2
    obtain ⟨z3, z4⟩ := hE.fresh hO2
    have hE2 := hE.later hO2.kept
    have hO3 := hO2.base kk
    have hS3 := hS2.base kk
    generalize runE ps[i].1 qs[i].1 ys = r at *
    obtain ⟨r1, r2⟩ := r
    simp only at hO3 hS3
    repeat' (first | (simp (disch := first | omega | assumption | (simp only [List.length_set]; omega) | (simp [*] <;> fail) | assumption) [-Bool.decide_and, -Bool.decide_or, -Bool.not_and, -Bool.not_or, toNat_pred, toNat_succ, wrap64, wr_new, wr_new0, ok_if, ok_ifn, iadV_sl, makeV_int, decT, decF, over_at, *, leavesAll, fillL]) | (with_reducible refine Gd_split (fun hc => ?_) (fun hc => ?_) <;> (have hc2 := hc; try simp at hc2)) | (with_reducible refine Br_split (fun hc => ?_) (fun hc => ?_) <;> (have hc2 := hc; try simp at hc2)) | (with_reducible refine GdT_split (fun hc => ?_) (fun hc => ?_) <;> (have hc2 := hc; try simp at hc2)) | (with_reducible refine WT_alt ?_ ?_) | omega)
    refine oc_push (bytes := 24) (r := [s2]) hE2.out ?_ ?_ ?_ (by decide) rfl (by decide)
    · exact hl
    · simp; omega
    intro sg2 g5 hN5 hB5
    have hP := hE2.push (a := r2) hS3 z1 z2 (Kept.refl _) hN5 hB5 rfl
    obtain ⟨hO5, hf5⟩ := hB5.other hE2.out hO3 z3
    clear hE hE2 hN5 hS3 hO3
    repeat' (first | (simp (disch := first | omega | assumption | (simp only [List.length_set]; omega) | (simp [*] <;> fail) | assumption) [-Bool.decide_and, -Bool.decide_or, -Bool.not_and, -Bool.not_or, toNat_pred, toNat_succ, wrap64, wr_new, wr_new0, ok_if, ok_ifn, iadV_sl, makeV_int, decT, decF, over_at, *]) | (with_reducible refine Gd_split (fun hc => ?_) (fun hc => ?_) <;> (have hc2 := hc; try simp at hc2)) | (with_reducible refine Br_split (fun hc => ?_) (fun hc => ?_) <;> (have hc2 := hc; try simp at hc2)) | (with_reducible refine GdT_split (fun hc => ?_) (fun hc => ?_) <;> (have hc2 := hc; try simp at hc2)) | (with_reducible refine WT_alt ?_ ?_) | omega)
    refine ⟨hlt, ?_, _, hP, ?_, ?_⟩
    · rw [show runTo (ps.map (·.1)) (qs.map (·.1)) xs (i + 1) = _ from hsH]; exact hO5
    · rw [show runTo (ps.map (·.1)) (qs.map (·.1)) xs (i + 1) = _ from hsH, List.map_append, show rs.map (·.1) = outs from hrH]; rfl
    · intro t ht
      unfold lvs at ht
      rcases List.mem_cons.1 ht with rfl | ht
      · exact hf5.symm
      · rw [List.map_append] at ht
        rcases List.mem_append.1 ht with ht | ht
        · obtain ⟨p, hp, rfl⟩ := List.mem_map.1 ht
          exact (z4 p hp).symm
        · simp at ht; subst ht; exact hf2
  · have : i = ps.length := by omega
    subst this
    have hk2 := hK o sg rs g (by unfold runL; rw [List.length_map]; exact hO) hD (by unfold runL; rw [List.length_map]; exact hr) hf
    clear hK
    repeat' (first | (simp (disch := first | omega | assumption | (simp only [List.length_set]; omega) | (simp [*] <;> fail) | assumption) [-Bool.decide_and, -Bool.decide_or, -Bool.not_and, -Bool.not_or, toNat_pred, toNat_succ, wrap64, wr_new, wr_new0, ok_if, ok_ifn, iadV_sl, makeV_int, decT, decF, over_at, *]) | (with_reducible refine Gd_split (fun hc => ?_) (fun hc => ?_) <;> (have hc2 := hc; try simp at hc2)) | (with_reducible refine Br_split (fun hc => ?_) (fun hc => ?_) <;> (have hc2 := hc; try simp at hc2)) | (with_reducible refine GdT_split (fun hc => ?_) (fun hc => ?_) <;> (have hc2 := hc; try simp at hc2)) | (with_reducible refine WT_alt ?_ ?_) | omega)
end
end Go.E
