/- What an effect makes of samples, the program's side. -/
import Derived.Test.YteppngjkmejgaaaMEl
import Derived.Test.YteppngjkmejgaaaMFr
import Derived.Test.YteppngjkmejgaaaMSc
import Derived.Test.YteppngjkmejgaaaMIs
set_option linter.unusedVariables false
set_option linter.unusedSimpArgs false
namespace Go.E
open Go

theorem two_of {xs : List Nat} (h : xs.length = 2) : ∃ a b, xs = [a, b] := by
  rcases xs with _ | ⟨a, _ | ⟨b, _ | ⟨c, r⟩⟩⟩ <;> simp at h
  exact ⟨_, _, rfl⟩
/-- What an effect makes of samples, and its state then. -/
def runE (e : Eff) (st xs : List Nat) : List Nat × List Nat :=
  if e.kind = 0 then (xs.map (scl (e.nums.getD 0 0)), [])
  else if e.kind = 1 then (let r := scan (stepF ⟨e.nums.getD 0 0, e.nums.getD 1 0, e.nums.getD 2 0, e.nums.getD 3 0, e.nums.getD 4 0⟩ 1 true) ⟨st.getD 0 0, st.getD 1 0, 0, 0⟩ xs; (r.1, [r.2.a, r.2.b]))
  else if e.kind = 2 then scan (echoS (e.nums.getD 0 0) (e.nums.getD 1 0)) st xs
  else if e.kind = 3 then (let r := scan (sqzS (e.nums.getD 0 0) (e.nums.getD 1 0) (e.nums.getD 2 0) (e.nums.getD 3 0)) (st.getD 0 0) xs; (r.1, [r.2]))
  else if e.kind = 4 then (xs.map (clipF (e.nums.getD 0 0)), [])
  else if e.kind = 5 then (xs.map bendF, [])
  else (let r := scan (limS (e.nums.getD 0 0) (e.nums.getD 1 0)) (st.getD 0 0, st.drop 1) xs; (r.1, r.2.1 :: r.2.2))
section
variable {S : Sys} {lim : Nat} {h : Hp} {K : CV → Hp → Prop} {l l2 l3 : Lf} {xs st : List Nat}
section
variable [HasEc S] [HasSc S]
theorem c_run0 {n : Int} {x : Nat} (hA : Arr h l 1 ([x].map fl)) (hX : Arr h l3 1 (xs.map fl)) (hn : xs.length ≤ 256) (hl : lim ≤ h.length) (hK : ∀ o g, New h g o 50 1 ((xs.map (scl x)).map fl) → K (.tup [.lf o, .lf .nils]) g) : CallT S false 50 [.agg [.int .i64 0, .int .i64 n, l], .lf l2, .lf l3] h lim K := by
  have hA1 := hA.app (t := [⟨[.int .i64 0, .int .i64 n, l], .own 54 1⟩])
  refine CallT_of_body (F := L50) (HasEc.f50) rfl ?_; unfold L50; dsimp only []
  repeat' (first | (simp (disch := first | omega | assumption | (simp only [List.length_set]; omega) | (simp [*] <;> fail) | assumption) [-Bool.decide_and, -Bool.decide_or, -Bool.not_and, -Bool.not_or, toNat_pred, toNat_succ, wrap64, wr_new, wr_new0, ok_if, ok_ifn, iadV_sl, makeV_int, decT, decF, over_at, *, hA1.len, hA1.at_, hA1.at_', hA1.rd, hA1.rdIn, hA1.rdIn0, hA1.rdA, hA1.rdInA, hA1.rdIn0A, hA1.at0, hA1.rd0, hA1.rd0j, hA1.rd0A, hA1.rd0jA, fl]) | (with_reducible refine Gd_split (fun hc => ?_) (fun hc => ?_) <;> (have hc2 := hc; try simp at hc2)) | (with_reducible refine Br_split (fun hc => ?_) (fun hc => ?_) <;> (have hc2 := hc; try simp at hc2)) | (with_reducible refine GdT_split (fun hc => ?_) (fun hc => ?_) <;> (have hc2 := hc; try simp at hc2)) | (with_reducible refine WT_alt ?_ ?_) | omega)
  refine c_scaled hX.app (by omega) (by simp; omega) fun o g hN => ?_
  repeat' (first | (simp (disch := first | omega | assumption | (simp only [List.length_set]; omega) | (simp [*] <;> fail) | assumption) [-Bool.decide_and, -Bool.decide_or, -Bool.not_and, -Bool.not_or, toNat_pred, toNat_succ, wrap64, wr_new, wr_new0, ok_if, ok_ifn, iadV_sl, makeV_int, decT, decF, over_at, *]) | (with_reducible refine Gd_split (fun hc => ?_) (fun hc => ?_) <;> (have hc2 := hc; try simp at hc2)) | (with_reducible refine Br_split (fun hc => ?_) (fun hc => ?_) <;> (have hc2 := hc; try simp at hc2)) | (with_reducible refine GdT_split (fun hc => ?_) (fun hc => ?_) <;> (have hc2 := hc; try simp at hc2)) | (with_reducible refine WT_alt ?_ ?_) | omega)
  exact hK _ _ (hN.base (Kept.app _ _))
end
theorem c_run4 [HasEc S] [HasCl S] {n : Int} {x : Nat} (hA : Arr h l 1 ([x].map fl)) (hX : Arr h l3 1 (xs.map fl)) (hx : ∀ x ∈ xs, CF x) (hn : xs.length ≤ 256) (hl : lim ≤ h.length) (hK : ∀ o g, New h g o 50 1 ((xs.map (clipF x)).map fl) → K (.tup [.lf o, .lf .nils]) g) : CallT S false 50 [.agg [.int .i64 4, .int .i64 n, l], .lf l2, .lf l3] h lim K := by
  have hA1 := hA.app (t := [⟨[.int .i64 4, .int .i64 n, l], .own 54 1⟩])
  refine CallT_of_body (F := L50) (HasEc.f50) rfl ?_; unfold L50; dsimp only []
  repeat' (first | (simp (disch := first | omega | assumption | (simp only [List.length_set]; omega) | (simp [*] <;> fail) | assumption) [-Bool.decide_and, -Bool.decide_or, -Bool.not_and, -Bool.not_or, toNat_pred, toNat_succ, wrap64, wr_new, wr_new0, ok_if, ok_ifn, iadV_sl, makeV_int, decT, decF, over_at, *, hA1.len, hA1.at_, hA1.at_', hA1.rd, hA1.rdIn, hA1.rdIn0, hA1.rdA, hA1.rdInA, hA1.rdIn0A, hA1.at0, hA1.rd0, hA1.rd0j, hA1.rd0A, hA1.rd0jA, fl]) | (with_reducible refine Gd_split (fun hc => ?_) (fun hc => ?_) <;> (have hc2 := hc; try simp at hc2)) | (with_reducible refine Br_split (fun hc => ?_) (fun hc => ?_) <;> (have hc2 := hc; try simp at hc2)) | (with_reducible refine GdT_split (fun hc => ?_) (fun hc => ?_) <;> (have hc2 := hc; try simp at hc2)) | (with_reducible refine WT_alt ?_ ?_) | omega)
  refine c_ClipSamples hX.app hx hn (by simp; omega) fun o g hN => ?_
  repeat' (first | (simp (disch := first | omega | assumption | (simp only [List.length_set]; omega) | (simp [*] <;> fail) | assumption) [-Bool.decide_and, -Bool.decide_or, -Bool.not_and, -Bool.not_or, toNat_pred, toNat_succ, wrap64, wr_new, wr_new0, ok_if, ok_ifn, iadV_sl, makeV_int, decT, decF, over_at, *]) | (with_reducible refine Gd_split (fun hc => ?_) (fun hc => ?_) <;> (have hc2 := hc; try simp at hc2)) | (with_reducible refine Br_split (fun hc => ?_) (fun hc => ?_) <;> (have hc2 := hc; try simp at hc2)) | (with_reducible refine GdT_split (fun hc => ?_) (fun hc => ?_) <;> (have hc2 := hc; try simp at hc2)) | (with_reducible refine WT_alt ?_ ?_) | omega)
  exact hK _ _ (hN.base (Kept.app _ _))
theorem c_run5 [HasEc S] [HasBe S] {n : Int} (hX : Arr h l3 1 (xs.map fl)) (hn : xs.length ≤ 256) (hl : lim ≤ h.length) (hK : ∀ o g, New h g o 50 1 ((xs.map bendF).map fl) → K (.tup [.lf o, .lf .nils]) g) : CallT S false 50 [.agg [.int .i64 5, .int .i64 n, l], .lf l2, .lf l3] h lim K := by
  refine CallT_of_body (F := L50) (HasEc.f50) rfl ?_; unfold L50; dsimp only []
  repeat' (first | (simp (disch := first | omega | assumption | (simp only [List.length_set]; omega) | (simp [*] <;> fail) | assumption) [-Bool.decide_and, -Bool.decide_or, -Bool.not_and, -Bool.not_or, toNat_pred, toNat_succ, wrap64, wr_new, wr_new0, ok_if, ok_ifn, iadV_sl, makeV_int, decT, decF, over_at, *, hX.len]) | (with_reducible refine Gd_split (fun hc => ?_) (fun hc => ?_) <;> (have hc2 := hc; try simp at hc2)) | (with_reducible refine Br_split (fun hc => ?_) (fun hc => ?_) <;> (have hc2 := hc; try simp at hc2)) | (with_reducible refine GdT_split (fun hc => ?_) (fun hc => ?_) <;> (have hc2 := hc; try simp at hc2)) | (with_reducible refine WT_alt ?_ ?_) | omega)
  refine WL_forM 373779043747378421330592395967189382277004768837632 (by decide +kernel) (xs.length) (fun i b g => i ≤ xs.length ∧ b 158 = .lf (.int .i64 i) ∧ ∃ o, b 22 = .lf o ∧ New h g o 50 1 ((mapTo bendF xs i).map fl)) (fun _ _ _ hi => hi.1) ⟨by omega, by simp, .nils, by simp, by simpa using New.nil (ty := 50) (sz := 1) (Kept.app h _)⟩ ?_
  rintro i b g ⟨hi, e14, o, e6, hN⟩
  have hl1 := mapTo_len (f := bendF) (xs := xs) (i := i)
  have hA1 := hX.kept hN.kept
  by_cases hlt : i < xs.length
  · have s1 := mapTo_fl (f := bendF) hlt
    have s1H : Hid ((mapTo bendF xs (i + 1)).map fl = (mapTo bendF xs i).map fl ++ [[.flt .f32 (bendF xs[i])]]) := s1
    clear hK s1
    repeat' (first | (simp (disch := first | omega | assumption | (simp only [List.length_set]; omega) | (simp [*] <;> fail) | assumption) [-Bool.decide_and, -Bool.decide_or, -Bool.not_and, -Bool.not_or, toNat_pred, toNat_succ, wrap64, wr_new, wr_new0, ok_if, ok_ifn, iadV_sl, makeV_int, decT, decF, over_at, *, hA1.len, hA1.at_, hA1.at_', hA1.rd, hA1.rdIn, hA1.rdIn0, hA1.rdA, hA1.rdInA, hA1.rdIn0A, hA1.rd1, fl, c_BendSample, leavesAll, fillL]) | (with_reducible refine Gd_split (fun hc => ?_) (fun hc => ?_) <;> (have hc2 := hc; try simp at hc2)) | (with_reducible refine Br_split (fun hc => ?_) (fun hc => ?_) <;> (have hc2 := hc; try simp at hc2)) | (with_reducible refine GdT_split (fun hc => ?_) (fun hc => ?_) <;> (have hc2 := hc; try simp at hc2)) | (with_reducible refine WT_alt ?_ ?_) | omega)
    refine oc_push (bytes := 4) (r := [.flt .f32 (bendF xs[i])]) hN ?_ ?_ ?_ (by decide) rfl (by decide)
    · exact hl
    · simp; omega
    intro o2 g5 hN5 hB5
    rw [← show (mapTo bendF xs (i + 1)).map fl = _ from s1H] at hN5
    clear s1H
    repeat' (first | (simp (disch := first | omega | assumption | (simp only [List.length_set]; omega) | (simp [*] <;> fail) | assumption) [-Bool.decide_and, -Bool.decide_or, -Bool.not_and, -Bool.not_or, toNat_pred, toNat_succ, wrap64, wr_new, wr_new0, ok_if, ok_ifn, iadV_sl, makeV_int, decT, decF, over_at, *]) | (with_reducible refine Gd_split (fun hc => ?_) (fun hc => ?_) <;> (have hc2 := hc; try simp at hc2)) | (with_reducible refine Br_split (fun hc => ?_) (fun hc => ?_) <;> (have hc2 := hc; try simp at hc2)) | (with_reducible refine GdT_split (fun hc => ?_) (fun hc => ?_) <;> (have hc2 := hc; try simp at hc2)) | (with_reducible refine WT_alt ?_ ?_) | omega)
  · have : i = xs.length := by omega
    subst this
    rw [mapTo_all] at hN
    repeat' (first | (simp (disch := first | omega | assumption | (simp only [List.length_set]; omega) | (simp [*] <;> fail) | assumption) [-Bool.decide_and, -Bool.decide_or, -Bool.not_and, -Bool.not_or, toNat_pred, toNat_succ, wrap64, wr_new, wr_new0, ok_if, ok_ifn, iadV_sl, makeV_int, decT, decF, over_at, *]) | (with_reducible refine Gd_split (fun hc => ?_) (fun hc => ?_) <;> (have hc2 := hc; try simp at hc2)) | (with_reducible refine Br_split (fun hc => ?_) (fun hc => ?_) <;> (have hc2 := hc; try simp at hc2)) | (with_reducible refine GdT_split (fun hc => ?_) (fun hc => ?_) <;> (have hc2 := hc; try simp at hc2)) | (with_reducible refine WT_alt ?_ ?_) | omega)
    all_goals exact hK _ _ hN
theorem lit_at {A : List Nat} {t : Hp} (hA : Arr h l 1 (A.map fl)) : ∀ {j : Nat} (hj : j < A.length), iadV 1 (.lf l) (.lf (.int .i64 (j : Int))) = some (.lf (.ptr l.id (l.off + j))) ∧ rdCells (h ++ t) l.id (l.off + j) 1 = some [.flt .f32 A[j]] := fun {j} hj => by
  refine ⟨?_, hA.rd1A hj⟩
  have := hA.at_ (k := .i64) hj
  rwa [Nat.mul_one] at this
theorem c_run3 [HasEc S] [HasSq S] {n : Int} {a0 a1 a2 a3 s0 : Nat} (hA : Arr h l 1 ([a0, a1, a2, a3].map fl)) (hS : Arr h l2 1 ([s0].map fl)) (hX : Arr h l3 1 (xs.map fl)) (hx : ∀ x ∈ xs, CF x) (hn : xs.length ≤ 256) (hl : lim ≤ h.length)
    (hK : ∀ o s g, New h g o 50 1 ((scan (sqzS a0 a1 a2 a3) s0 xs).1.map fl) → New h g s 50 1 ([(scan (sqzS a0 a1 a2 a3) s0 xs).2].map fl) → Far o s → K (.tup [.lf o, .lf s]) g) : CallT S false 50 [.agg [.int .i64 3, .int .i64 n, l], .lf l2, .lf l3] h lim K := by
  obtain ⟨n0, v0⟩ := lit_at (t := [⟨[.int .i64 3, .int .i64 n, l], .own 54 1⟩]) hA (j := 0) (by simp)
  obtain ⟨n1, v1⟩ := lit_at (t := [⟨[.int .i64 3, .int .i64 n, l], .own 54 1⟩]) hA (j := 1) (by simp)
  obtain ⟨n2, v2⟩ := lit_at (t := [⟨[.int .i64 3, .int .i64 n, l], .own 54 1⟩]) hA (j := 2) (by simp)
  obtain ⟨n3, v3⟩ := lit_at (t := [⟨[.int .i64 3, .int .i64 n, l], .own 54 1⟩]) hA (j := 3) (by simp)
  obtain ⟨m0, u0⟩ := lit_at (t := [⟨[.int .i64 3, .int .i64 n, l], .own 54 1⟩]) hS (j := 0) (by simp)
  replace n0 : iadV 1 (.lf l) (.lf (.int .i64 0)) = some (.lf (.ptr l.id (l.off + 0))) := n0
  replace n1 : iadV 1 (.lf l) (.lf (.int .i64 1)) = some (.lf (.ptr l.id (l.off + 1))) := n1
  replace n2 : iadV 1 (.lf l) (.lf (.int .i64 2)) = some (.lf (.ptr l.id (l.off + 2))) := n2
  replace n3 : iadV 1 (.lf l) (.lf (.int .i64 3)) = some (.lf (.ptr l.id (l.off + 3))) := n3
  replace m0 : iadV 1 (.lf l2) (.lf (.int .i64 0)) = some (.lf (.ptr l2.id (l2.off + 0))) := m0
  simp only [List.getElem_cons_zero, List.getElem_cons_succ, Nat.add_zero] at n0 v0 v1 v2 v3 m0 u0
  refine CallT_of_body (F := L50) (HasEc.f50) rfl ?_; unfold L50; dsimp only []
  repeat' (first | (simp (disch := first | omega | assumption | (simp only [List.length_set]; omega) | (simp [*] <;> fail) | assumption) [-Bool.decide_and, -Bool.decide_or, -Bool.not_and, -Bool.not_or, toNat_pred, toNat_succ, wrap64, wr_new, wr_new0, ok_if, ok_ifn, iadV_sl, makeV_int, decT, decF, over_at, *, leavesAll, fillL]) | (with_reducible refine Gd_split (fun hc => ?_) (fun hc => ?_) <;> (have hc2 := hc; try simp at hc2)) | (with_reducible refine Br_split (fun hc => ?_) (fun hc => ?_) <;> (have hc2 := hc; try simp at hc2)) | (with_reducible refine GdT_split (fun hc => ?_) (fun hc => ?_) <;> (have hc2 := hc; try simp at hc2)) | (with_reducible refine WT_alt ?_ ?_) | omega)
  refine c_RunSqueeze (hX.app) hx hn (by simp; omega) fun o g hN => ?_
  generalize (scan (sqzS a0 a1 a2 a3) s0 xs).2 = lv at *
  obtain ⟨t, rfl⟩ := hN.kept.split
  simp only [List.append_assoc, List.cons_append, List.nil_append] at hN ⊢
  have hQ := New.swap2 (a' := ⟨[.int .i64 3, .int .i64 n, l], .own 54 1⟩) (b' := ⟨[.flt .f32 a0, .flt .f32 a1, .flt .f32 lv, .flt .f32 a2, .flt .f32 a3], .own 86 1⟩) hN
  have hQl := hQ.lt
  have hQ2 := hQ.app (t := [⟨[.flt .f32 lv], .own 50 1⟩])
  have hF := New.fls (h := h) (xs := [lv]) (cs := [.flt .f32 lv]) (ty := 50) hQ.kept rfl (by simp)
  have hfar : Far o (.sl (h ++ ⟨[.int .i64 3, .int .i64 n, l], .own 54 1⟩ :: ⟨[.flt .f32 a0, .flt .f32 a1, .flt .f32 lv, .flt .f32 a2, .flt .f32 a3], .own 86 1⟩ :: t).length 0 [lv].length 1) := fun q1 _ => by have := (hQl q1).2; simp only [Lf.id_sl]; omega
  have hk2 := hK _ _ _ hQ2 hF hfar
  simp only [List.append_assoc, List.cons_append, List.length_append, List.length_cons, List.length_nil] at hk2
  clear hK hQ hQ2 hF hfar hQl hN
  repeat' (first | (simp (disch := first | omega | assumption | (simp only [List.length_set]; omega) | (simp [*] <;> fail) | assumption) [-Bool.decide_and, -Bool.decide_or, -Bool.not_and, -Bool.not_or, toNat_pred, toNat_succ, wrap64, wr_new, wr_new0, ok_if, ok_ifn, iadV_sl, makeV_int, decT, decF, over_at, *, leavesAll, fillL]) | (with_reducible refine Gd_split (fun hc => ?_) (fun hc => ?_) <;> (have hc2 := hc; try simp at hc2)) | (with_reducible refine Br_split (fun hc => ?_) (fun hc => ?_) <;> (have hc2 := hc; try simp at hc2)) | (with_reducible refine GdT_split (fun hc => ?_) (fun hc => ?_) <;> (have hc2 := hc; try simp at hc2)) | (with_reducible refine WT_alt ?_ ?_) | omega)
set_option maxHeartbeats 4000000 in
theorem c_run6 [HasEc S] [HasLi S] {n : Int} {L rise : Nat} (hA : Arr h l 1 ([L, rise].map fl)) (hL : limB L = true) (hS : Sm h l2 st) (h1 : 0 < st.length) (h2 : st.length ≤ 65) (hsc : ∀ x ∈ st, CF x) (hX : Arr h l3 1 (xs.map fl)) (hx : ∀ x ∈ xs, CF x) (hn : xs.length ≤ 256) (hl : lim ≤ h.length)
    (hK : ∀ o s g, New h g o 50 1 ((scan (limS L rise) (st.getD 0 0, st.drop 1) xs).1.map fl) → New h g s 50 1 (((scan (limS L rise) (st.getD 0 0, st.drop 1) xs).2.1 :: (scan (limS L rise) (st.getD 0 0, st.drop 1) xs).2.2).map fl) → Far o s → K (.tup [.lf o, .lf s]) g) : CallT S false 50 [.agg [.int .i64 6, .int .i64 n, l], .lf l2, .lf l3] h lim K := by
  have hk0 := Kept.app h [⟨[.int .i64 6, .int .i64 n, l], .own 54 1⟩]
  obtain ⟨n0, v0⟩ := lit_at (t := [⟨[.int .i64 6, .int .i64 n, l], .own 54 1⟩]) hA (j := 0) (by simp)
  obtain ⟨n1, v1⟩ := lit_at (t := [⟨[.int .i64 6, .int .i64 n, l], .own 54 1⟩]) hA (j := 1) (by simp)
  obtain ⟨m0, u0⟩ := lit_at (t := [⟨[.int .i64 6, .int .i64 n, l], .own 54 1⟩]) hS.arr (j := 0) h1
  replace n0 : iadV 1 (.lf l) (.lf (.int .i64 0)) = some (.lf (.ptr l.id (l.off + 0))) := n0
  replace n1 : iadV 1 (.lf l) (.lf (.int .i64 1)) = some (.lf (.ptr l.id (l.off + 1))) := n1
  replace m0 : iadV 1 (.lf l2) (.lf (.int .i64 0)) = some (.lf (.ptr l2.id (l2.off + 0))) := m0
  have hg0 : st.getD 0 0 = st[0] := by simp [h1]
  rw [hg0] at hK
  simp only [List.getElem_cons_zero, List.getElem_cons_succ, Nat.add_zero] at n0 v0 v1 m0 u0
  have e1 : slcV 1 (.lf l2) (some (.lf (.int .i64 1))) none = some (.lf (l2.from_ 1 1)) := slcV_from (j := 1) hS.arr (by decide) (by simp; omega)
  have hSd := hS.drop (j := 1) (by omega)
  have hdl : (st.drop 1).length ≤ 64 := by simp; omega
  have hdc : ∀ x ∈ st.drop 1, CF x := fun x hx => hsc x (List.mem_of_mem_drop hx)
  generalize st[0] = g0 at *
  generalize st.drop 1 = ah at *
  refine CallT_of_body (F := L50) (HasEc.f50) rfl ?_; unfold L50; dsimp only []
  repeat' (first | (simp (disch := first | omega | assumption | (simp only [List.length_set]; omega) | (simp [*] <;> fail) | assumption) [-Bool.decide_and, -Bool.decide_or, -Bool.not_and, -Bool.not_or, toNat_pred, toNat_succ, wrap64, wr_new, wr_new0, ok_if, ok_ifn, iadV_sl, makeV_int, decT, decF, over_at, *, leavesAll, fillL, -W_any]) | (with_reducible refine Gd_split (fun hc => ?_) (fun hc => ?_) <;> (have hc2 := hc; try simp at hc2)) | (with_reducible refine Br_split (fun hc => ?_) (fun hc => ?_) <;> (have hc2 := hc; try simp at hc2)) | (with_reducible refine GdT_split (fun hc => ?_) (fun hc => ?_) <;> (have hc2 := hc; try simp at hc2)) | (with_reducible refine WT_alt ?_ ?_) | omega)
  rw [W_any]
  refine WT_cutM 196158680941995460447574299188605224766292543802273955840 (by decide +kernel) (fun b g => ∃ o q ib, b 25 = .lf o ∧ b 26 = .lf (.ptr ib 0) ∧ New h g o 50 1 ((scan (limS L rise) (g0, ah) xs).1.map fl) ∧ New h g q 50 1 ((scan (limS L rise) (g0, ah) xs).2.2.map fl) ∧ Far o q ∧ Cel g ib 91 [.flt .f32 L, .flt .f32 rise, .flt .f32 (scan (limS L rise) (g0, ah) xs).2.1, q]) ?_ ?_
  · have hk1 := hK
    clear hK hk1
    repeat' (first | (simp (disch := first | omega | assumption | (simp only [List.length_set]; omega) | (simp [*] <;> fail) | assumption) [-Bool.decide_and, -Bool.decide_or, -Bool.not_and, -Bool.not_or, toNat_pred, toNat_succ, wrap64, wr_new, wr_new0, ok_if, ok_ifn, iadV_sl, makeV_int, decT, decF, over_at, *, leavesAll, fillL]) | (with_reducible refine Gd_split (fun hc => ?_) (fun hc => ?_) <;> (have hc2 := hc; try simp at hc2)) | (with_reducible refine Br_split (fun hc => ?_) (fun hc => ?_) <;> (have hc2 := hc; try simp at hc2)) | (with_reducible refine GdT_split (fun hc => ?_) (fun hc => ?_) <;> (have hc2 := hc; try simp at hc2)) | (with_reducible refine WT_alt ?_ ?_) | omega)
    · refine c_RunLimiter hL (hSd.kept hk0) hdl hdc hX.app hx hn (by simp; omega) fun o q g hO hQ hf => ?_
      have hO2 := (hO.base hk0).app (t := [⟨[.flt .f32 L, .flt .f32 rise, .flt .f32 (scan (limS L rise) (g0, ah) xs).2.1, q], .own 91 1⟩])
      have hQ2 := (hQ.base hk0).app (t := [⟨[.flt .f32 L, .flt .f32 rise, .flt .f32 (scan (limS L rise) (g0, ah) xs).2.1, q], .own 91 1⟩])
      have hgl := hO2.kept.1
      have hgl2 := (hO.base hk0).kept.1
      have w := fun new hn => (Cel.new (g := g) (t := []) (ty := 91) (cs := [.flt .f32 0, .flt .f32 0, .flt .f32 0, .nils])).wr (lim := lim) (new := new) (by omega) hn
      generalize (scan (limS L rise) (g0, ah) xs).2.1 = gv at *
      repeat' (first | (simp (disch := first | omega | assumption | (simp only [List.length_set]; omega) | (simp [*] <;> fail) | assumption) [-Bool.decide_and, -Bool.decide_or, -Bool.not_and, -Bool.not_or, toNat_pred, toNat_succ, wrap64, wr_new, wr_new0, ok_if, ok_ifn, iadV_sl, makeV_int, decT, decF, over_at, *, leavesAll, fillL]) | (with_reducible refine Gd_split (fun hc => ?_) (fun hc => ?_) <;> (have hc2 := hc; try simp at hc2)) | (with_reducible refine Br_split (fun hc => ?_) (fun hc => ?_) <;> (have hc2 := hc; try simp at hc2)) | (with_reducible refine GdT_split (fun hc => ?_) (fun hc => ?_) <;> (have hc2 := hc; try simp at hc2)) | (with_reducible refine WT_alt ?_ ?_) | omega)
      exact ⟨_, hQ2, hf, by simpa using Cel.new (t := [])⟩
    · have kb := Kept.app h [⟨[.int .i64 6, .int .i64 n, l], .own 54 1⟩, ⟨[.flt .f32 0, .flt .f32 0, .flt .f32 0, .nils], .own 91 1⟩]
      refine c_RunLimiter hL (hSd.kept kb) hdl hdc hX.app hx hn (by simp; omega) fun o q g hO hQ hf => ?_
      have hO1 := hO.base kb
      have hQ1 := hQ.base kb
      generalize (scan (limS L rise) (g0, ah) xs).2.1 = gv at *
      obtain ⟨t, rfl⟩ := hO.kept.split
      simp only [List.append_assoc, List.cons_append, List.nil_append] at hO hQ hO1 hQ1 ⊢
      have hO2 := New.swap2 (a' := ⟨[.int .i64 6, .int .i64 n, l], .own 54 1⟩) (b' := ⟨[.flt .f32 L, .flt .f32 rise, .flt .f32 gv, q], .own 91 1⟩) hO
      have hQ2 := New.swap2 (a' := ⟨[.int .i64 6, .int .i64 n, l], .own 54 1⟩) (b' := ⟨[.flt .f32 L, .flt .f32 rise, .flt .f32 gv, q], .own 91 1⟩) hQ
      clear hO hQ hO1 hQ1
      repeat' (first | (simp (disch := first | omega | assumption | (simp only [List.length_set]; omega) | (simp [*] <;> fail) | assumption) [-Bool.decide_and, -Bool.decide_or, -Bool.not_and, -Bool.not_or, toNat_pred, toNat_succ, wrap64, wr_new, wr_new0, ok_if, ok_ifn, iadV_sl, makeV_int, decT, decF, over_at, *, leavesAll, fillL]) | (with_reducible refine Gd_split (fun hc => ?_) (fun hc => ?_) <;> (have hc2 := hc; try simp at hc2)) | (with_reducible refine Br_split (fun hc => ?_) (fun hc => ?_) <;> (have hc2 := hc; try simp at hc2)) | (with_reducible refine GdT_split (fun hc => ?_) (fun hc => ?_) <;> (have hc2 := hc; try simp at hc2)) | (with_reducible refine WT_alt ?_ ?_) | omega)
      exact ⟨_, hQ2, hf, cel_cons⟩
  · rintro b g ⟨o, q, ib, e25, e26, hO, hQ, hf, hc⟩
    have hz : (scan (limS L rise) (g0, ah) xs).2.2.length = ah.length := by
      have : aheadOk (stTo (limS L rise) (g0, ah) xs xs.length) ah.length := stTo_inv (I := fun st => aheadOk st ah.length) ⟨rfl, hdc⟩ (fun t x ht hx' => limS_ok ht (hx x hx')) (Nat.le_refl _)
      rw [stTo_all] at this
      exact this.1
    generalize (scan (limS L rise) (g0, ah) xs).2.1 = gv at *
    have hk := hO.kept
    have hk1 := hk.1
    have c2 : rdCells g ib 2 1 = some [.flt .f32 gv] := by have := hc.rd (off := 2) (n := 1) (by simp); simpa using this
    have c3 : ∀ t, rdCells (g ++ t) ib 3 1 = some [q] := fun t => by have := (hc.app (t := t)).rd (off := 3) (n := 1) (by simp); simpa using this
    have hF := New.fls (h := g) (g := g) (xs := [gv]) (cs := [.flt .f32 gv]) (ty := 50) (Kept.refl g) rfl (by simp)
    obtain ⟨s', g', j1, j2, j3⟩ := hF.joined (lim := lim) ((Sm.new hQ).kept (Kept.app g _)) (by omega) (by simp only [List.length_singleton]; omega)
    simp only [List.length_singleton] at j1
    have hO2 := hO.later j2.kept
    have hf2 : Far o s' := fun q1 q2 => by have := (hO.lt q1).2; have := (j2.lt q2).1; omega
    have hk2 := hK _ _ _ hO2 (j2.base hk) hf2
    clear hK
    repeat' (first | (simp (disch := first | omega | assumption | (simp only [List.length_set]; omega) | (simp [*] <;> fail) | assumption) [-Bool.decide_and, -Bool.decide_or, -Bool.not_and, -Bool.not_or, toNat_pred, toNat_succ, wrap64, wr_new, wr_new0, ok_if, ok_ifn, iadV_sl, makeV_int, decT, decF, over_at, *, leavesAll, fillL]) | (with_reducible refine Gd_split (fun hc => ?_) (fun hc => ?_) <;> (have hc2 := hc; try simp at hc2)) | (with_reducible refine Br_split (fun hc => ?_) (fun hc => ?_) <;> (have hc2 := hc; try simp at hc2)) | (with_reducible refine GdT_split (fun hc => ?_) (fun hc => ?_) <;> (have hc2 := hc; try simp at hc2)) | (with_reducible refine WT_alt ?_ ?_) | omega)
set_option maxHeartbeats 4000000 in
theorem c_run1 [HasEc S] [HasFr S] {n : Int} {a0 a1 a2 a3 a4 s0 s1 : Nat} (hA : Arr h l 1 ([a0, a1, a2, a3, a4].map fl)) (hS : Arr h l2 1 ([s0, s1].map fl)) (hs0 : CF s0) (hs1 : CF s1) (hX : Arr h l3 1 (xs.map fl)) (hx : ∀ x ∈ xs, CF x) (hn : xs.length ≤ 256) (hl : lim ≤ h.length)
    (hK : ∀ o s g, New h g o 50 1 ((scan (stepF ⟨a0, a1, a2, a3, a4⟩ 1 true) ⟨s0, s1, 0, 0⟩ xs).1.map fl) → New h g s 50 1 ([(scan (stepF ⟨a0, a1, a2, a3, a4⟩ 1 true) ⟨s0, s1, 0, 0⟩ xs).2.a, (scan (stepF ⟨a0, a1, a2, a3, a4⟩ 1 true) ⟨s0, s1, 0, 0⟩ xs).2.b].map fl) → Far o s → K (.tup [.lf o, .lf s]) g) : CallT S false 50 [.agg [.int .i64 1, .int .i64 n, l], .lf l2, .lf l3] h lim K := by
  obtain ⟨n0, v0⟩ := lit_at (t := [⟨[.int .i64 1, .int .i64 n, l], .own 54 1⟩]) hA (j := 0) (by simp)
  obtain ⟨n1, v1⟩ := lit_at (t := [⟨[.int .i64 1, .int .i64 n, l], .own 54 1⟩]) hA (j := 1) (by simp)
  obtain ⟨n2, v2⟩ := lit_at (t := [⟨[.int .i64 1, .int .i64 n, l], .own 54 1⟩]) hA (j := 2) (by simp)
  obtain ⟨n3, v3⟩ := lit_at (t := [⟨[.int .i64 1, .int .i64 n, l], .own 54 1⟩]) hA (j := 3) (by simp)
  obtain ⟨n4, v4⟩ := lit_at (t := [⟨[.int .i64 1, .int .i64 n, l], .own 54 1⟩]) hA (j := 4) (by simp)
  have x0 := (lit_at (t := [⟨[.int .i64 1, .int .i64 n, l], .own 54 1⟩, ⟨[.flt .f32 a0, .flt .f32 a1, .flt .f32 a2, .flt .f32 a3, .flt .f32 a4], .own 76 1⟩]) hS (j := 0) (by simp)).2
  have m0 := (lit_at (t := []) hS (j := 0) (by simp)).1
  have x1 := (lit_at (t := [⟨[.int .i64 1, .int .i64 n, l], .own 54 1⟩, ⟨[.flt .f32 a0, .flt .f32 a1, .flt .f32 a2, .flt .f32 a3, .flt .f32 a4], .own 76 1⟩]) hS (j := 1) (by simp)).2
  have m1 := (lit_at (t := []) hS (j := 1) (by simp)).1
  replace n0 : iadV 1 (.lf l) (.lf (.int .i64 0)) = some (.lf (.ptr l.id (l.off + 0))) := n0
  replace n1 : iadV 1 (.lf l) (.lf (.int .i64 1)) = some (.lf (.ptr l.id (l.off + 1))) := n1
  replace n2 : iadV 1 (.lf l) (.lf (.int .i64 2)) = some (.lf (.ptr l.id (l.off + 2))) := n2
  replace n3 : iadV 1 (.lf l) (.lf (.int .i64 3)) = some (.lf (.ptr l.id (l.off + 3))) := n3
  replace n4 : iadV 1 (.lf l) (.lf (.int .i64 4)) = some (.lf (.ptr l.id (l.off + 4))) := n4
  replace m0 : iadV 1 (.lf l2) (.lf (.int .i64 0)) = some (.lf (.ptr l2.id (l2.off + 0))) := m0
  replace m1 : iadV 1 (.lf l2) (.lf (.int .i64 1)) = some (.lf (.ptr l2.id (l2.off + 1))) := m1
  simp only [List.getElem_cons_zero, List.getElem_cons_succ, Nat.add_zero] at n0 v0 v1 v2 v3 v4 m0 x0 x1
  have hz : CF 0 := ⟨by decide, by decide⟩
  refine CallT_of_body (F := L50) (HasEc.f50) rfl ?_; unfold L50; dsimp only []
  repeat' (first | (simp (disch := first | omega | assumption | (simp only [List.length_set]; omega) | (simp [*] <;> fail) | assumption) [-Bool.decide_and, -Bool.decide_or, -Bool.not_and, -Bool.not_or, toNat_pred, toNat_succ, wrap64, wr_new, wr_new0, ok_if, ok_ifn, iadV_sl, makeV_int, decT, decF, over_at, *, leavesAll, fillL, -W_any]) | (with_reducible refine Gd_split (fun hc => ?_) (fun hc => ?_) <;> (have hc2 := hc; try simp at hc2)) | (with_reducible refine Br_split (fun hc => ?_) (fun hc => ?_) <;> (have hc2 := hc; try simp at hc2)) | (with_reducible refine GdT_split (fun hc => ?_) (fun hc => ?_) <;> (have hc2 := hc; try simp at hc2)) | (with_reducible refine WT_alt ?_ ?_) | omega)
  rw [W_any]
  refine WT_cutM 1180447505529335450624 (by decide +kernel) (fun b g => ∃ o ib, b 10 = .lf o ∧ b 11 = .lf (.ptr ib 0) ∧ New h g o 50 1 ((scan (stepF ⟨a0, a1, a2, a3, a4⟩ 1 true) ⟨s0, s1, 0, 0⟩ xs).1.map fl) ∧ Cel g ib 78 (scan (stepF ⟨a0, a1, a2, a3, a4⟩ 1 true) ⟨s0, s1, 0, 0⟩ xs).2.cells) ?_ ?_
  · clear hK
    repeat' (first | (simp (disch := first | omega | assumption | (simp only [List.length_set]; omega) | (simp [*] <;> fail) | assumption) [-Bool.decide_and, -Bool.decide_or, -Bool.not_and, -Bool.not_or, toNat_pred, toNat_succ, wrap64, wr_new, wr_new0, ok_if, ok_ifn, iadV_sl, makeV_int, decT, decF, over_at, *, leavesAll, fillL]) | (with_reducible refine Gd_split (fun hc => ?_) (fun hc => ?_) <;> (have hc2 := hc; try simp at hc2)) | (with_reducible refine Br_split (fun hc => ?_) (fun hc => ?_) <;> (have hc2 := hc; try simp at hc2)) | (with_reducible refine GdT_split (fun hc => ?_) (fun hc => ?_) <;> (have hc2 := hc; try simp at hc2)) | (with_reducible refine WT_alt ?_ ?_) | omega)
    · refine c_implRun (f := ⟨a0, a1, a2, a3, a4⟩) (m := ⟨s0, s1, 0, 0⟩) ⟨hs0, hs1, hz, hz⟩ hX.app hx (by omega) (by simp; omega) fun o g hO => ?_
      have hO2 := (hO.base (Kept.app h _)).app (t := [⟨(scan (stepF ⟨a0, a1, a2, a3, a4⟩ 1 true) ⟨s0, s1, 0, 0⟩ xs).2.cells, .own 78 1⟩])
      have hgl := (hO.base (Kept.app h _)).kept.1
      have hm4 := (scan (stepF ⟨a0, a1, a2, a3, a4⟩ 1 true) ⟨s0, s1, 0, 0⟩ xs).2.len
      have hmt : List.take 4 (scan (stepF ⟨a0, a1, a2, a3, a4⟩ 1 true) ⟨s0, s1, 0, 0⟩ xs).2.cells = (scan (stepF ⟨a0, a1, a2, a3, a4⟩ 1 true) ⟨s0, s1, 0, 0⟩ xs).2.cells := rfl
      have w := (Cel.new (g := g) (t := []) (ty := 78) (cs := [.flt .f32 0, .flt .f32 0, .flt .f32 0, .flt .f32 0])).wr (lim := lim) (new := (scan (stepF ⟨a0, a1, a2, a3, a4⟩ 1 true) ⟨s0, s1, 0, 0⟩ xs).2.cells) (by omega) hm4
      generalize (scan (stepF ⟨a0, a1, a2, a3, a4⟩ 1 true) ⟨s0, s1, 0, 0⟩ xs).2 = m' at *
      repeat' (first | (simp (disch := first | omega | assumption | (simp only [List.length_set]; omega) | (simp [*] <;> fail) | assumption) [-Bool.decide_and, -Bool.decide_or, -Bool.not_and, -Bool.not_or, toNat_pred, toNat_succ, wrap64, wr_new, wr_new0, ok_if, ok_ifn, iadV_sl, makeV_int, decT, decF, over_at, *, leavesAll, fillL]) | (with_reducible refine Gd_split (fun hc => ?_) (fun hc => ?_) <;> (have hc2 := hc; try simp at hc2)) | (with_reducible refine Br_split (fun hc => ?_) (fun hc => ?_) <;> (have hc2 := hc; try simp at hc2)) | (with_reducible refine GdT_split (fun hc => ?_) (fun hc => ?_) <;> (have hc2 := hc; try simp at hc2)) | (with_reducible refine WT_alt ?_ ?_) | omega)
      exact Cel.new (t := [])
    · refine c_implRun (f := ⟨a0, a1, a2, a3, a4⟩) (m := ⟨s0, s1, 0, 0⟩) ⟨hs0, hs1, hz, hz⟩ hX.app hx (by omega) (by simp; omega) fun o g hO => ?_
      have hm4 := (scan (stepF ⟨a0, a1, a2, a3, a4⟩ 1 true) ⟨s0, s1, 0, 0⟩ xs).2.len
      have hmt : List.take 4 (scan (stepF ⟨a0, a1, a2, a3, a4⟩ 1 true) ⟨s0, s1, 0, 0⟩ xs).2.cells = (scan (stepF ⟨a0, a1, a2, a3, a4⟩ 1 true) ⟨s0, s1, 0, 0⟩ xs).2.cells := rfl
      obtain ⟨t, rfl⟩ := hO.kept.split
      simp only [List.append_assoc, List.cons_append, List.nil_append] at hO ⊢
      have hO2 := New.swap3 (a' := ⟨[.int .i64 1, .int .i64 n, l], .own 54 1⟩) (b' := ⟨[.flt .f32 a0, .flt .f32 a1, .flt .f32 a2, .flt .f32 a3, .flt .f32 a4], .own 76 1⟩) (c' := ⟨(scan (stepF ⟨a0, a1, a2, a3, a4⟩ 1 true) ⟨s0, s1, 0, 0⟩ xs).2.cells, .own 78 1⟩) hO
      have hC := Cel.new (g := h ++ [⟨[.int .i64 1, .int .i64 n, l], .own 54 1⟩, ⟨[.flt .f32 a0, .flt .f32 a1, .flt .f32 a2, .flt .f32 a3, .flt .f32 a4], .own 76 1⟩]) (t := t) (ty := 78) (cs := (scan (stepF ⟨a0, a1, a2, a3, a4⟩ 1 true) ⟨s0, s1, 0, 0⟩ xs).2.cells)
      simp only [List.append_assoc, List.cons_append, List.nil_append, List.length_append, List.length_cons, List.length_nil] at hC
      generalize (scan (stepF ⟨a0, a1, a2, a3, a4⟩ 1 true) ⟨s0, s1, 0, 0⟩ xs).2 = m' at *
      clear hO
      repeat' (first | (simp (disch := first | omega | assumption | (simp only [List.length_set]; omega) | (simp [*] <;> fail) | assumption) [-Bool.decide_and, -Bool.decide_or, -Bool.not_and, -Bool.not_or, toNat_pred, toNat_succ, wrap64, wr_new, wr_new0, ok_if, ok_ifn, iadV_sl, makeV_int, decT, decF, over_at, *, leavesAll, fillL, hm4]) | (with_reducible refine Gd_split (fun hc => ?_) (fun hc => ?_) <;> (have hc2 := hc; try simp at hc2)) | (with_reducible refine Br_split (fun hc => ?_) (fun hc => ?_) <;> (have hc2 := hc; try simp at hc2)) | (with_reducible refine GdT_split (fun hc => ?_) (fun hc => ?_) <;> (have hc2 := hc; try simp at hc2)) | (with_reducible refine WT_alt ?_ ?_) | omega)
  · rintro b g ⟨o, ib, e10, e11, hO, hc⟩
    generalize (scan (stepF ⟨a0, a1, a2, a3, a4⟩ 1 true) ⟨s0, s1, 0, 0⟩ xs).2 = m' at *
    have hk := hO.kept
    have hk1 := hk.1
    have c0 : rdCells g ib 0 1 = some [.flt .f32 m'.a] := by have := hc.rd (off := 0) (n := 1) (by simp [Mem.cells]); simpa [Mem.cells] using this
    have c1 : rdCells g ib 1 1 = some [.flt .f32 m'.b] := by have := hc.rd (off := 1) (n := 1) (by simp [Mem.cells]); simpa [Mem.cells] using this
    have hF := New.fls (h := h) (g := g) (xs := [m'.a, m'.b]) (cs := [.flt .f32 m'.a, .flt .f32 m'.b]) (ty := 50) hk rfl (by simp)
    have hO2 := hO.app (t := [⟨[.flt .f32 m'.a, .flt .f32 m'.b], .own 50 1⟩])
    have hf2 : Far o (.sl g.length 0 [m'.a, m'.b].length 1) := fun q1 _ => by have := (hO.lt q1).2; simp only [Lf.id_sl]; omega
    have hk2 := hK _ _ _ hO2 hF hf2
    clear hK hF hf2
    simp only [List.length_cons, List.length_nil] at hk2
    repeat' (first | (simp (disch := first | omega | assumption | (simp only [List.length_set]; omega) | (simp [*] <;> fail) | assumption) [-Bool.decide_and, -Bool.decide_or, -Bool.not_and, -Bool.not_or, toNat_pred, toNat_succ, wrap64, wr_new, wr_new0, ok_if, ok_ifn, iadV_sl, makeV_int, decT, decF, over_at, *, leavesAll, fillL]) | (with_reducible refine Gd_split (fun hc => ?_) (fun hc => ?_) <;> (have hc2 := hc; try simp at hc2)) | (with_reducible refine Br_split (fun hc => ?_) (fun hc => ?_) <;> (have hc2 := hc; try simp at hc2)) | (with_reducible refine GdT_split (fun hc => ?_) (fun hc => ?_) <;> (have hc2 := hc; try simp at hc2)) | (with_reducible refine WT_alt ?_ ?_) | omega)
section
variable [HasEc S] [HasSc S] [HasFr S] [HasCl S] [HasBe S] [HasSq S] [HasLi S]
set_option maxHeartbeats 1000000 in
/-- Whatever the effect. -/
theorem c_runE {e : Eff} (he : effOk e) (hst : (st.length : Int) = stE e.kind e.len) (hA : Arr h l 1 (e.nums.map fl)) (hS : Sm h l2 st) (hsc : ∀ x ∈ st, CF x) (hX : Arr h l3 1 (xs.map fl)) (hx : ∀ x ∈ xs, CF x) (hn : xs.length ≤ 256) (hl : lim ≤ h.length)
    (hK : ∀ o s g, New h g o 50 1 ((runE e st xs).1.map fl) → New h g s 50 1 ((runE e st xs).2.map fl) → Far o s → K (.tup [.lf o, .lf s]) g) : CallT S false 50 [.agg [.int .i64 e.kind, .int .i64 e.len, l], .lf l2, .lf l3] h lim K := by
  obtain ⟨k, n, ns⟩ := e
  have hnl := he.len
  have hc := he.2.1
  have h6 := he.2.2
  simp only at hst hA hnl hc h6 ⊢
  unfold runE at hK
  simp only at hK
  rcases kinds k with rfl | rfl | rfl | rfl | rfl | rfl | rfl | ⟨k0, k4, k1, k2, k3, k5, k6⟩
  · simp [cntE] at hc
    obtain ⟨a0, rfl⟩ := List.length_eq_one_iff.1 (show ns.length = 1 by omega)
    exact c_run0 hA hX hn hl fun o g hO => hK o .nils g hO (New.nil hO.kept) Far.nil_right
  · simp [cntE] at hc
    obtain ⟨a0, rfl⟩ := List.length_eq_one_iff.1 (show ns.length = 1 by omega)
    exact c_run4 hA hX hx hn hl fun o g hO => hK o .nils g hO (New.nil hO.kept) Far.nil_right
  · simp [cntE] at hc
    simp [stE] at hst
    obtain ⟨a0, a1, a2, a3, a4, rfl⟩ : ∃ a0 a1 a2 a3 a4, ns = [a0, a1, a2, a3, a4] := by
      rcases ns with _ | ⟨a0, _ | ⟨a1, _ | ⟨a2, _ | ⟨a3, _ | ⟨a4, _ | ⟨a5, r⟩⟩⟩⟩⟩⟩ <;> simp at hc
      · exact ⟨_, _, _, _, _, rfl⟩
      · omega
    obtain ⟨s0, s1, rfl⟩ : ∃ s0 s1, st = [s0, s1] := two_of (by omega)
    exact c_run1 hA hS.arr (hsc _ (by simp)) (hsc _ (by simp)) hX hx hn hl hK
  · simp [cntE] at hc
    simp [stE] at hst
    obtain ⟨a0, a1, rfl⟩ : ∃ a0 a1, ns = [a0, a1] := two_of (by omega)
    have hw := he.1
    simp at hw
    exact c_runEcho hA hS (by omega) (by omega) hX hn hl hK
  · simp [cntE] at hc
    simp [stE] at hst
    obtain ⟨a0, a1, a2, a3, rfl⟩ : ∃ a0 a1 a2 a3, ns = [a0, a1, a2, a3] := by
      rcases ns with _ | ⟨a0, _ | ⟨a1, _ | ⟨a2, _ | ⟨a3, _ | ⟨a4, r⟩⟩⟩⟩⟩ <;> simp at hc
      · exact ⟨_, _, _, _, rfl⟩
      · omega
    obtain ⟨s0, rfl⟩ := List.length_eq_one_iff.1 (show st.length = 1 by omega)
    exact c_run3 hA hS.arr hX hx hn hl hK
  · exact c_run5 hX hn hl fun o g hO => hK o .nils g hO (New.nil hO.kept) Far.nil_right
  · simp [cntE] at hc
    simp [stE] at hst
    obtain ⟨a0, a1, rfl⟩ : ∃ a0 a1, ns = [a0, a1] := two_of (by omega)
    have hL : limB a0 = true := by simpa using h6 rfl
    exact c_run6 hA hL hS (by omega) (by omega) hsc hX hx hn hl hK
  · simp [cntE, k0, k1, k2, k3, k4, k5, k6] at hc
end
end
end Go.E
