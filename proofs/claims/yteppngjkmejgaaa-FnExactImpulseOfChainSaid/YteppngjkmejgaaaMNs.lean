/- The new state of a chain, both sides. -/
import Derived.Test.YteppngjkmejgaaaMIs
import Derived.Test.YteppngjkmejgaaaMDm
set_option linter.unusedVariables false
set_option linter.unusedSimpArgs false
namespace Go.E
open Go
def L29 : LFn := ⟨1, (.seq (.reg [⟨(.some 2), (.mv (.c (.lf .nils))), none⟩])
 (.seq (.reg [⟨(.some 8), (.lit 24 1 0 [] []), none⟩, ⟨(.some 3), (.mv (.t 8)), none⟩])
 (.seq (.seq (.reg [⟨(.some 4), (.mv (.c (.lf (.int .i64 0)))), none⟩])
 (.block 0 (.loop (.seq (.seq (.reg [⟨(.some 9), (.mv (.t 4)), none⟩, ⟨(.some 10), (.mv (.t 0)), none⟩, ⟨(.some 11), (.len (.t 10)), none⟩, ⟨(.some 12), (.bin .lss (.t 9) (.t 11)), none⟩])
 (.cond (.t 12) .skip (.exit 0)))
 (.seq (.block 1 (.seq (.reg [⟨(.some 16), (.mv (.t 0)), none⟩, ⟨(.some 17), (.mv (.t 4)), none⟩, ⟨(.some 18), (.iaddr 3 (.t 16) (.t 17)), none⟩, ⟨(.some 19), (.faddr 0 (.t 18)), none⟩, ⟨(.some 20), (.load false 1 (.t 19)), none⟩, ⟨(.some 21), (.mv (.t 0)), none⟩, ⟨(.some 22), (.mv (.t 4)), none⟩, ⟨(.some 23), (.iaddr 3 (.t 21) (.t 22)), none⟩, ⟨(.some 24), (.faddr 1 (.t 23)), none⟩, ⟨(.some 25), (.load false 1 (.t 24)), none⟩, ⟨(.some 26), (.call true 46 [(.t 20), (.t 25)]), none⟩, ⟨(.some 15), (.mv (.t 26)), none⟩, ⟨(.some 27), (.ext (.t 15) 0), none⟩, ⟨(.some 28), (.ext (.t 15) 1), none⟩, ⟨(.some 5), (.mv (.t 27)), none⟩, ⟨(.some 6), (.mv (.t 28)), none⟩])
 (.seq (.reg [⟨(.some 29), (.mv (.t 6)), none⟩, ⟨(.some 30), (.make 50 1 4 [(.flt .f32 0)] (.t 29) (.t 29)), none⟩, ⟨(.some 7), (.mv (.t 30)), none⟩])
 (.seq (.seq (.reg [⟨(.some 31), (.mv (.t 0)), none⟩, ⟨(.some 32), (.mv (.t 4)), none⟩, ⟨(.some 33), (.iaddr 3 (.t 31) (.t 32)), none⟩, ⟨(.some 34), (.faddr 0 (.t 33)), none⟩, ⟨(.some 35), (.load false 1 (.t 34)), none⟩, ⟨(.some 36), (.bin .eql (.t 35) (.c (.lf (.int .i64 6)))), none⟩])
 (.cond (.t 36) (.reg [⟨(.some 37), (.mv (.t 7)), none⟩, ⟨(.some 38), (.iaddr 1 (.t 37) (.c (.lf (.int .i64 0)))), none⟩, ⟨none, (.store 1 (.t 38) (.c (.lf (.flt .f32 1065353216)))), none⟩]) .skip))
 (.reg [⟨(.some 39), (.mv (.t 3)), none⟩, ⟨(.some 40), (.mv (.t 7)), none⟩, ⟨(.some 41), (.lit 24 1 1 [.nils] [(0, (1, (.t 40)))]), none⟩, ⟨(.some 42), (.app 24 1 24 (.t 39) (.t 41)), none⟩, ⟨(.some 3), (.mv (.t 42)), none⟩])))))
 (.reg [⟨(.some 13), (.mv (.t 4)), none⟩, ⟨(.some 14), (.bin .add (.t 13) (.c (.lf (.int .i64 1)))), none⟩, ⟨(.some 4), (.mv (.t 14)), none⟩]))))))
 (.seq (.reg [⟨(.some 43), (.mv (.t 3)), none⟩, ⟨(.some 2), (.mv (.t 43)), none⟩])
 .ret)))), [(.tmp 2)]⟩
def L34 : LFn := ⟨1, (.seq (.reg [⟨(.some 2), (.mv (.c (.lf .nils))), none⟩])
 (.seq (.reg [⟨(.some 3), (.mv (.c (.lf .nils))), none⟩])
 (.seq (.seq (.reg [⟨(.some 6), (.mv (.t 0)), none⟩, ⟨(.some 7), (.len (.t 6)), none⟩, ⟨(.some 8), (.mv (.c (.lf (.int .i64 0)))), none⟩])
 (.block 0 (.loop (.seq (.reg [⟨(.some 9), (.bin .lss (.t 8) (.t 7)), none⟩])
 (.seq (.cond (.t 9) .skip (.exit 0))
 (.seq (.block 1 (.seq (.reg [⟨(.some 10), (.iaddr 3 (.t 6) (.t 8)), none⟩, ⟨(.some 11), (.load true 3 (.t 10)), none⟩, ⟨(.some 5), (.alloc 54 [(.int .i64 0), (.int .i64 0), .nils]), none⟩, ⟨none, (.store 3 (.t 5) (.t 11)), none⟩])
 (.reg [⟨(.some 12), (.mv (.t 3)), none⟩, ⟨(.some 13), (.load true 3 (.t 5)), none⟩, ⟨(.some 14), (.call false 51 [(.t 13)]), none⟩, ⟨(.some 15), (.lit 24 1 1 [.nils] [(0, (1, (.t 14)))]), none⟩, ⟨(.some 16), (.app 24 1 24 (.t 12) (.t 15)), none⟩, ⟨(.some 3), (.mv (.t 16)), none⟩])))
 (.reg [⟨(.some 17), (.bin .add (.t 8) (.c (.lf (.int .i64 1)))), none⟩, ⟨(.some 8), (.mv (.t 17)), none⟩])))))))
 (.seq (.reg [⟨(.some 18), (.mv (.t 3)), none⟩, ⟨(.some 2), (.mv (.t 18)), none⟩])
 .ret)))), [(.tmp 2)]⟩
class HasNs (S : Sys) : Prop extends HasIs S where
  f29 : S.fs 29 = some L29
  f34 : S.fs 34 = some L34

class HasNw (S : Sys) : Prop extends HasNs S where

noncomputable def nwR (es : List Eff) : List (List Nat) := if isCh es then es.map stL else []
theorem nwR_small {es : List Eff} : (nwR es).length ≤ 8 ∧ ∀ x ∈ nwR es, x.length ≤ 33 := by
  unfold nwR
  split
  · rename_i hok
    refine ⟨by rw [List.length_map]; exact hok.1, fun x hx => ?_⟩
    obtain ⟨e, he, rfl⟩ := List.mem_map.1 hx
    exact stL_le (hok.2 e he)
  · simp
theorem stL_plain {e : Eff} (h6 : e.kind ≠ 6) : stL e = List.replicate (stL e).length 0 := by
  unfold stL
  repeat' split
  all_goals (first | (simp; done) | omega)
theorem New.fls2 {h g : Hp} {xs : List Nat} {m ty ty2 : Nat} (hk : Kept h g) (hb : xs.length ≤ 1000) (hm : m = xs.length) : New h (g ++ [⟨xs.map (Lf.flt .f32), .own ty 1⟩, ⟨[.sl g.length 0 m 1], .own ty2 1⟩]) (.sl g.length 0 m 1) ty 1 (xs.map fl) := by
  subst hm
  have := (New.fls (h := h) (g := g) (xs := xs) (cs := xs.map (Lf.flt .f32)) (ty := ty) hk rfl (by omega)).later (Kept.app _ [⟨[.sl g.length 0 xs.length 1], .own ty2 1⟩])
  simpa using this
section
variable {S : Sys} {lim : Nat} {h : Hp} {K : CV → Hp → Prop} {l : Lf} {ps : List (Eff × Lf)}
section
variable [HasNs S]
set_option maxHeartbeats 2000000 in
theorem c_l08New (hA : Arr h l 3 (ps.map Eff.cells)) (hc : isCh (ps.map (·.1))) (hl : lim ≤ h.length) (hK : ∀ o g qs, NewD h g o 24 1 ssCells ssRows 50 qs → qs.map (·.1) = (ps.map (·.1)).map stL → K (.lf o) g) : CallT S false 29 [.lf l] h lim K := by
  have h8 := hc.1
  rw [List.length_map] at h8
  refine CallT_of_body (F := L29) (HasNs.f29) rfl ?_; unfold L29; dsimp only []
  repeat' (first | (simp (disch := first | omega | assumption | (simp only [List.length_set]; omega) | (simp [*] <;> fail) | assumption) [-Bool.decide_and, -Bool.decide_or, -Bool.not_and, -Bool.not_or, toNat_pred, toNat_succ, wrap64, wr_new, wr_new0, ok_if, ok_ifn, iadV_sl, makeV_int, decT, decF, over_at, *, leavesAll, fillL]) | (with_reducible refine Gd_split (fun hc => ?_) (fun hc => ?_) <;> (have hc2 := hc; try simp at hc2)) | (with_reducible refine Br_split (fun hc => ?_) (fun hc => ?_) <;> (have hc2 := hc; try simp at hc2)) | (with_reducible refine GdT_split (fun hc => ?_) (fun hc => ?_) <;> (have hc2 := hc; try simp at hc2)) | (with_reducible refine WT_alt ?_ ?_) | omega)
  refine WL_forM 8796093021944 (by decide +kernel) (ps.length) (fun i b g => i ≤ ps.length ∧ b 4 = .lf (.int .i64 i) ∧ ∃ o qs, b 3 = .lf o ∧ NewD h g o 24 1 ssCells ssRows 50 qs ∧ qs.map (·.1) = mapTo stL (ps.map (·.1)) i) (fun _ _ _ hi => hi.1) ⟨by omega, by simp, _, [], by simp, NewD.lit (Kept.refl _), by simp⟩ ?_
  rintro i b g ⟨hi, e4, o, qs, e3, hD, hq⟩
  have hk := hD.kept
  have hk1 := hk.1
  have hA1 := hA.kept hk
  have hql : qs.length = i := by have := congrArg List.length hq; rw [mapTo_len' (by simpa using hi)] at this; simpa using this
  by_cases hlt : i < ps.length
  · have he := isCh_get hc hlt
    have hst := stL_len he
    have hle := stL_le he
    have hln := he.len
    have hcn := fun h lim K => c_l08Counts (S := S) (h := h) (lim := lim) (K := K) (k := ps[i].1.kind) (n := ps[i].1.len) (by omega)
    rw [← hst] at hcn
    have hqE : mapTo stL (ps.map (·.1)) (i + 1) = qs.map (·.1) ++ [stL ps[i].1] := by rw [hq, mapTo_succ (by simpa using hlt)]; simp
    have hqH : Hid (mapTo stL (ps.map (·.1)) (i + 1) = qs.map (·.1) ++ [stL ps[i].1]) := hqE
    clear hqE
    clear hq hK hst
    by_cases h6 : ps[i].1.kind = 6
    · have hs6 : stL ps[i].1 = 1065353216 :: List.replicate ps[i].1.len.toNat 0 := by unfold stL; rw [h6]; rfl
      obtain ⟨m, hm⟩ : ∃ m, ps[i].1.len.toNat = m := ⟨_, rfl⟩
      rw [hm] at hs6
      obtain ⟨M, hM⟩ : ∃ M, m + 1 = M := ⟨_, rfl⟩
      obtain rfl : m = M - 1 := by omega
      have hM0 : 0 < M := by omega
      have hl6 : (stL ps[i].1).length = M := by rw [hs6]; simp; omega
      rw [hl6] at hcn hle
      rw [hs6] at hqH
      simp only [h6] at hcn
      clear hs6 hl6 hm hM
      repeat' (first | (simp (disch := first | omega | assumption | (simp only [List.length_set]; omega) | (simp [*] <;> fail) | assumption) [-Bool.decide_and, -Bool.decide_or, -Bool.not_and, -Bool.not_or, toNat_pred, toNat_succ, wrap64, wr_new, wr_new0, ok_if, ok_ifn, iadV_sl, makeV_int, decT, decF, over_at, *, hA1.len, hA1.at_, hA1.at_', hA1.rd, hA1.rdIn, hA1.rdIn0, hA1.rdA, hA1.rdInA, hA1.rdIn0A, Eff.cells, leavesAll, fillL]) | (with_reducible refine Gd_split (fun hc => ?_) (fun hc => ?_) <;> (have hc2 := hc; try simp at hc2)) | (with_reducible refine Br_split (fun hc => ?_) (fun hc => ?_) <;> (have hc2 := hc; try simp at hc2)) | (with_reducible refine GdT_split (fun hc => ?_) (fun hc => ?_) <;> (have hc2 := hc; try simp at hc2)) | (with_reducible refine WT_alt ?_ ?_) | omega)
      refine oc_pushS (hD.out.later (Kept.app g [⟨.flt .f32 1065353216 :: List.replicate (M - 1) (.flt .f32 0), .own 50 1⟩, ⟨[.sl g.length 0 M 1], .own 24 1⟩])) (r := [.sl g.length 0 M 1]) (by simp) (by omega) (by simp; omega) fun o2 g5 hN5 hB5 => ?_
      have hx := New.fls2 (h := g) (g := g) (xs := 1065353216 :: List.replicate (M - 1) 0) (m := M) (ty := 50) (ty2 := 24) (Kept.refl g) (by simp; omega) (by simp; omega)
      rw [List.map_cons, List.map_replicate] at hx
      obtain ⟨hf0, hf1⟩ := hD.fresh hx
      have hP := (hD.later (Kept.app g [⟨.flt .f32 1065353216 :: List.replicate (M - 1) (.flt .f32 0), .own 50 1⟩, ⟨[.sl g.length 0 M 1], .own 24 1⟩])).push (a := 1065353216 :: List.replicate (M - 1) 0) (hx.base hk) hf0 hf1 (Kept.refl _) hN5 hB5 rfl
      repeat' (first | (simp (disch := first | omega | assumption | (simp only [List.length_set]; omega) | (simp [*] <;> fail) | assumption) [-Bool.decide_and, -Bool.decide_or, -Bool.not_and, -Bool.not_or, toNat_pred, toNat_succ, wrap64, wr_new, wr_new0, ok_if, ok_ifn, iadV_sl, makeV_int, decT, decF, over_at, *]) | (with_reducible refine Gd_split (fun hc => ?_) (fun hc => ?_) <;> (have hc2 := hc; try simp at hc2)) | (with_reducible refine Br_split (fun hc => ?_) (fun hc => ?_) <;> (have hc2 := hc; try simp at hc2)) | (with_reducible refine GdT_split (fun hc => ?_) (fun hc => ?_) <;> (have hc2 := hc; try simp at hc2)) | (with_reducible refine WT_alt ?_ ?_) | omega)
      exact ⟨hlt, _, hP, by rw [show mapTo stL (ps.map (·.1)) (i + 1) = _ from hqH]; simp⟩
    · have hs0 := stL_plain h6
      generalize (stL ps[i].1).length = m at *
      rw [hs0] at hqH
      clear hs0
      repeat' (first | (simp (disch := first | omega | assumption | (simp only [List.length_set]; omega) | (simp [*] <;> fail) | assumption) [-Bool.decide_and, -Bool.decide_or, -Bool.not_and, -Bool.not_or, toNat_pred, toNat_succ, wrap64, wr_new, wr_new0, ok_if, ok_ifn, iadV_sl, makeV_int, decT, decF, over_at, *, hA1.len, hA1.at_, hA1.at_', hA1.rd, hA1.rdIn, hA1.rdIn0, hA1.rdA, hA1.rdInA, hA1.rdIn0A, Eff.cells, leavesAll, fillL]) | (with_reducible refine Gd_split (fun hc => ?_) (fun hc => ?_) <;> (have hc2 := hc; try simp at hc2)) | (with_reducible refine Br_split (fun hc => ?_) (fun hc => ?_) <;> (have hc2 := hc; try simp at hc2)) | (with_reducible refine GdT_split (fun hc => ?_) (fun hc => ?_) <;> (have hc2 := hc; try simp at hc2)) | (with_reducible refine WT_alt ?_ ?_) | omega)
      refine oc_pushS (hD.out.later (Kept.app g [⟨List.replicate m (.flt .f32 0), .own 50 1⟩, ⟨[.sl g.length 0 m 1], .own 24 1⟩])) (r := [.sl g.length 0 m 1]) (by simp) (by omega) (by simp; omega) fun o2 g5 hN5 hB5 => ?_
      have hx := New.fls2 (h := g) (g := g) (xs := List.replicate m 0) (m := m) (ty := 50) (ty2 := 24) (Kept.refl g) (by simp; omega) (by simp)
      rw [List.map_replicate] at hx
      obtain ⟨hf0, hf1⟩ := hD.fresh hx
      have hP := (hD.later (Kept.app g [⟨List.replicate m (.flt .f32 0), .own 50 1⟩, ⟨[.sl g.length 0 m 1], .own 24 1⟩])).push (a := List.replicate m 0) (hx.base hk) hf0 hf1 (Kept.refl _) hN5 hB5 rfl
      repeat' (first | (simp (disch := first | omega | assumption | (simp only [List.length_set]; omega) | (simp [*] <;> fail) | assumption) [-Bool.decide_and, -Bool.decide_or, -Bool.not_and, -Bool.not_or, toNat_pred, toNat_succ, wrap64, wr_new, wr_new0, ok_if, ok_ifn, iadV_sl, makeV_int, decT, decF, over_at, *]) | (with_reducible refine Gd_split (fun hc => ?_) (fun hc => ?_) <;> (have hc2 := hc; try simp at hc2)) | (with_reducible refine Br_split (fun hc => ?_) (fun hc => ?_) <;> (have hc2 := hc; try simp at hc2)) | (with_reducible refine GdT_split (fun hc => ?_) (fun hc => ?_) <;> (have hc2 := hc; try simp at hc2)) | (with_reducible refine WT_alt ?_ ?_) | omega)
      exact ⟨hlt, _, hP, by rw [show mapTo stL (ps.map (·.1)) (i + 1) = _ from hqH]; simp⟩
  · have : i = ps.length := by omega
    subst this
    repeat' (first | (simp (disch := first | omega | assumption | (simp only [List.length_set]; omega) | (simp [*] <;> fail) | assumption) [-Bool.decide_and, -Bool.decide_or, -Bool.not_and, -Bool.not_or, toNat_pred, toNat_succ, wrap64, wr_new, wr_new0, ok_if, ok_ifn, iadV_sl, makeV_int, decT, decF, over_at, *, hA1.len, hA1.at_, hA1.at_', hA1.rd, hA1.rdIn, hA1.rdIn0, hA1.rdA, hA1.rdInA, hA1.rdIn0A]) | (with_reducible refine Gd_split (fun hc => ?_) (fun hc => ?_) <;> (have hc2 := hc; try simp at hc2)) | (with_reducible refine Br_split (fun hc => ?_) (fun hc => ?_) <;> (have hc2 := hc; try simp at hc2)) | (with_reducible refine GdT_split (fun hc => ?_) (fun hc => ?_) <;> (have hc2 := hc; try simp at hc2)) | (with_reducible refine WT_alt ?_ ?_) | omega)
    exact hK _ _ _ hD (by rw [hq]; unfold mapTo; rw [List.take_of_length_le (by simp)])
set_option maxHeartbeats 2000000 in
theorem c_newState (hA : Arr h l 3 (ps.map Eff.cells)) (hc : isCh (ps.map (·.1))) (hl : lim ≤ h.length) (hK : ∀ o g qs, NewD h g o 24 1 ssCells ssRows 50 qs → qs.map (·.1) = (ps.map (·.1)).map stL → K (.lf o) g) : CallT S false 34 [.lf l] h lim K := by
  have h8 := hc.1
  rw [List.length_map] at h8
  refine CallT_of_body (F := L34) (HasNs.f34) rfl ?_; unfold L34; dsimp only []
  repeat' (first | (simp (disch := first | omega | assumption | (simp only [List.length_set]; omega) | (simp [*] <;> fail) | assumption) [-Bool.decide_and, -Bool.decide_or, -Bool.not_and, -Bool.not_or, toNat_pred, toNat_succ, wrap64, wr_new, wr_new0, ok_if, ok_ifn, iadV_sl, makeV_int, decT, decF, over_at, *, hA.len]) | (with_reducible refine Gd_split (fun hc => ?_) (fun hc => ?_) <;> (have hc2 := hc; try simp at hc2)) | (with_reducible refine Br_split (fun hc => ?_) (fun hc => ?_) <;> (have hc2 := hc; try simp at hc2)) | (with_reducible refine GdT_split (fun hc => ?_) (fun hc => ?_) <;> (have hc2 := hc; try simp at hc2)) | (with_reducible refine WT_alt ?_ ?_) | omega)
  refine WL_forM 261928 (by decide +kernel) (ps.length) (fun i b g => i ≤ ps.length ∧ b 8 = .lf (.int .i64 i) ∧ ∃ o qs, b 3 = .lf o ∧ NewD h g o 24 1 ssCells ssRows 50 qs ∧ qs.map (·.1) = mapTo stL (ps.map (·.1)) i) (fun _ _ _ hi => hi.1) ⟨by omega, by simp, .nils, [], by simp, NewD.start (Kept.refl _), by simp⟩ ?_
  rintro i b g ⟨hi, e4, o, qs, e3, hD, hq⟩
  have hk := hD.kept
  have hk1 := hk.1
  have hA1 := hA.kept hk
  have hql : qs.length = i := by have := congrArg List.length hq; rw [mapTo_len' (by simpa using hi)] at this; simpa using this
  by_cases hlt : i < ps.length
  · have he := isCh_get hc hlt
    have hqE : mapTo stL (ps.map (·.1)) (i + 1) = qs.map (·.1) ++ [stL ps[i].1] := by rw [hq, mapTo_succ (by simpa using hlt)]; simp
    have hqH : Hid (mapTo stL (ps.map (·.1)) (i + 1) = qs.map (·.1) ++ [stL ps[i].1]) := hqE
    clear hqE
    clear hq hK
    repeat' (first | (simp (disch := first | omega | assumption | (simp only [List.length_set]; omega) | (simp [*] <;> fail) | assumption) [-Bool.decide_and, -Bool.decide_or, -Bool.not_and, -Bool.not_or, toNat_pred, toNat_succ, wrap64, wr_new, wr_new0, ok_if, ok_ifn, iadV_sl, makeV_int, decT, decF, over_at, *, hA1.len, hA1.at_, hA1.at_', hA1.rd, hA1.rdIn, hA1.rdIn0, hA1.rdA, hA1.rdInA, hA1.rdIn0A, Eff.cells]) | (with_reducible refine Gd_split (fun hc => ?_) (fun hc => ?_) <;> (have hc2 := hc; try simp at hc2)) | (with_reducible refine Br_split (fun hc => ?_) (fun hc => ?_) <;> (have hc2 := hc; try simp at hc2)) | (with_reducible refine GdT_split (fun hc => ?_) (fun hc => ?_) <;> (have hc2 := hc; try simp at hc2)) | (with_reducible refine WT_alt ?_ ?_) | omega)
    refine c_state he (by simp; omega) fun s g2 hS => ?_
    have kx := (Kept.app g [⟨[.int .i64 ps[i].1.kind, .int .i64 ps[i].1.len, ps[i].2], .own 54 1⟩])
    replace hD := hD.later kx
    obtain ⟨hf0, hf1⟩ := hD.fresh hS
    have hS1 := hS.base (hk.trans kx)
    replace hD := hD.later hS.kept
    generalize hy : stL ps[i].1 = y at *
    repeat' (first | (simp (disch := first | omega | assumption | (simp only [List.length_set]; omega) | (simp [*] <;> fail) | assumption) [-Bool.decide_and, -Bool.decide_or, -Bool.not_and, -Bool.not_or, toNat_pred, toNat_succ, wrap64, wr_new, wr_new0, ok_if, ok_ifn, iadV_sl, makeV_int, decT, decF, over_at, *, leavesAll, fillL]) | (with_reducible refine Gd_split (fun hc => ?_) (fun hc => ?_) <;> (have hc2 := hc; try simp at hc2)) | (with_reducible refine Br_split (fun hc => ?_) (fun hc => ?_) <;> (have hc2 := hc; try simp at hc2)) | (with_reducible refine GdT_split (fun hc => ?_) (fun hc => ?_) <;> (have hc2 := hc; try simp at hc2)) | (with_reducible refine WT_alt ?_ ?_) | omega)
    refine oc_push (bytes := 24) (r := [s]) hD.out ?_ ?_ ?_ (by decide) rfl (by decide)
    · exact hl
    · simp; omega
    intro o2 g5 hN5 hB5
    have hP := hD.push (a := y) hS1 hf0 hf1 (Kept.refl _) hN5 hB5 rfl
    repeat' (first | (simp (disch := first | omega | assumption | (simp only [List.length_set]; omega) | (simp [*] <;> fail) | assumption) [-Bool.decide_and, -Bool.decide_or, -Bool.not_and, -Bool.not_or, toNat_pred, toNat_succ, wrap64, wr_new, wr_new0, ok_if, ok_ifn, iadV_sl, makeV_int, decT, decF, over_at, *]) | (with_reducible refine Gd_split (fun hc => ?_) (fun hc => ?_) <;> (have hc2 := hc; try simp at hc2)) | (with_reducible refine Br_split (fun hc => ?_) (fun hc => ?_) <;> (have hc2 := hc; try simp at hc2)) | (with_reducible refine GdT_split (fun hc => ?_) (fun hc => ?_) <;> (have hc2 := hc; try simp at hc2)) | (with_reducible refine WT_alt ?_ ?_) | omega)
    exact ⟨hlt, _, hP, by rw [show mapTo stL (ps.map (·.1)) (i + 1) = _ from hqH]; simp⟩
  · have : i = ps.length := by omega
    subst this
    repeat' (first | (simp (disch := first | omega | assumption | (simp only [List.length_set]; omega) | (simp [*] <;> fail) | assumption) [-Bool.decide_and, -Bool.decide_or, -Bool.not_and, -Bool.not_or, toNat_pred, toNat_succ, wrap64, wr_new, wr_new0, ok_if, ok_ifn, iadV_sl, makeV_int, decT, decF, over_at, *, hA1.len, hA1.at_, hA1.at_', hA1.rd, hA1.rdIn, hA1.rdIn0, hA1.rdA, hA1.rdInA, hA1.rdIn0A]) | (with_reducible refine Gd_split (fun hc => ?_) (fun hc => ?_) <;> (have hc2 := hc; try simp at hc2)) | (with_reducible refine Br_split (fun hc => ?_) (fun hc => ?_) <;> (have hc2 := hc; try simp at hc2)) | (with_reducible refine GdT_split (fun hc => ?_) (fun hc => ?_) <;> (have hc2 := hc; try simp at hc2)) | (with_reducible refine WT_alt ?_ ?_) | omega)
    exact hK _ _ _ hD (by rw [hq]; unfold mapTo; rw [List.take_of_length_le (by simp)])
end
end
end Go.E
