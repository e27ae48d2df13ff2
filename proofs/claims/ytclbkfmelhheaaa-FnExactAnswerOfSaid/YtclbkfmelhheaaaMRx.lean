/- What a room makes of samples, the program's side. -/
import Derived.Test.YtclbkfmelhheaaaMRq
set_option linter.unusedVariables false
set_option linter.unusedSimpArgs false
namespace Go.E
open Go
theorem But.farR {g g' : Hp} {o o' t : Lf} (hB : But g g' o o') (hf : Far t o) (ht : t ≠ .nils → t.id < g.length) : Far t o' := by
  rcases hB.far with e | e
  · subst e; exact hf
  · intro q1 q2 q3
    have := ht q1
    omega
theorem far_fresh {g g' : Hp} {o s : Lf} {ty sz : Nat} {rows : List (List Lf)} (hS : New g g' s ty sz rows) (ho : o ≠ .nils → o.id < g.length) : Far o s := fun q1 q2 e => by
  have := ho q1
  have := (hS.lt q2).1
  omega
theorem lvs_repl {α : Type} {ps : List (α × Lf)} {l s : Lf} {i : Nat} {a : α} {P : Lf → Prop} (h : ∀ t ∈ lvs l ps, P t) (hs : P s) : ∀ t ∈ lvs l (ps.set i (a, s)), P t := by
  intro t ht
  unfold lvs at ht h
  rcases List.mem_cons.1 ht with rfl | ht
  · exact h _ (List.mem_cons_self ..)
  · obtain ⟨p, hp, rfl⟩ := List.mem_map.1 ht
    rcases List.mem_or_eq_of_mem_set hp with hp | hp
    · exact h _ (List.mem_cons_of_mem _ (List.mem_map.2 ⟨p, hp, rfl⟩))
    · rw [hp]; exact hs
section
variable {S : Sys} {lim : Nat} {h : Hp} {K : CV → Hp → Prop} [HasRq S] {l l2 lx sg0 : Lf} {R : Rm} {rs0 : List (List Nat × Lf)} {xs : List Nat}
set_option maxHeartbeats 8000000 in
theorem c_rmRun (hA : Arr h l 5 (R.ds.map Dly.cells)) (hB : Arr h l2 2 (R.qs.map Pas.cells)) (hL : Arr h sg0 1 (rs0.map ssCells)) (hT : Sms h ssRows rs0) (hX : Arr h lx 1 (xs.map fl)) (hok : linesOk (R.ds.length + R.qs.length) (rs0.map (·.1))) (hn : R.ds.length ≤ 100 ∧ R.qs.length ≤ 100) (hx : xs.length ≤ 256) (hl : lim ≤ h.length)
    (hK : ∀ o sg rs g, New h g o 22 1 ((rmTo R (rs0.map (·.1)) xs xs.length).1.map fl) → NewD h g sg 27 1 ssCells ssRows 22 rs → rs.map (·.1) = (rmTo R (rs0.map (·.1)) xs xs.length).2 → (∀ t ∈ lvs sg rs, Far o t) → K (.tup [.lf o, .lf sg]) g) : CallT S false 92 [.agg (R.cells l l2), .lf sg0, .lf lx] h lim K := by
  obtain ⟨ls, hls⟩ : ∃ ls, rs0.map (·.1) = ls := ⟨_, rfl⟩
  rw [hls] at hok hK
  have hl0 : rs0.length = R.ds.length + R.qs.length := by have := hok.1; rw [← hls] at this; simpa using this
  have hlen0 : ∀ i (hi : i < rs0.length), rs0[i].1.length ≤ 64 := fun i hi => (hok.2 _ (by rw [← hls]; exact List.mem_map.2 ⟨rs0[i], List.getElem_mem hi, rfl⟩)).2
  have kb := Kept.app h [⟨R.cells l l2, .own 59 1⟩]
  have b0 : rdCells (h ++ [⟨R.cells l l2, .own 59 1⟩]) h.length 0 1 = some [l] := Cel.new.rd (by simp [Rm.cells])
  have b1 : rdCells (h ++ [⟨R.cells l l2, .own 59 1⟩]) h.length 1 1 = some [l2] := Cel.new.rd (by simp [Rm.cells])
  have bd2 : rdCells (h ++ [⟨R.cells l l2, .own 59 1⟩]) h.length 2 1 = some [.flt .f32 R.dry] := Cel.new.rd (by simp [Rm.cells])
  have bd3 : rdCells (h ++ [⟨R.cells l l2, .own 59 1⟩]) h.length 3 1 = some [.flt .f32 R.wet] := Cel.new.rd (by simp [Rm.cells])
  have hlb : (h ++ [⟨R.cells l l2, .own 59 1⟩] : Hp).length = h.length + 1 := by simp
  have hle : (R.cells l l2).length = 4 := rfl
  refine CallT_of_body (F := L92) (HasRq.f92) rfl ?_; unfold L92; dsimp only []
  repeat' (first | (simp (disch := first | omega | assumption | (simp only [List.length_set]; omega) | (simp [*] <;> fail) | assumption) [-Bool.decide_and, -Bool.decide_or, -Bool.not_and, -Bool.not_or, toNat_pred, toNat_succ, wrap64, wr_new, wr_new0, ok_if, ok_ifn, iadV_sl, makeV_int, decT, decF, over_at, *, hL.len]) | (with_reducible refine Gd_split (fun hc => ?_) (fun hc => ?_) <;> (have hc2 := hc; try simp at hc2)) | (with_reducible refine Br_split (fun hc => ?_) (fun hc => ?_) <;> (have hc2 := hc; try simp at hc2)) | (with_reducible refine GdT_split (fun hc => ?_) (fun hc => ?_) <;> (have hc2 := hc; try simp at hc2)) | (with_reducible refine WT_alt ?_ ?_) | omega)
  generalize (h ++ [⟨R.cells l l2, .own 59 1⟩] : Hp) = hb at *
  replace hA := hA.kept kb
  replace hB := hB.kept kb
  replace hL := hL.kept kb
  replace hX := hX.kept kb
  have hTb : Sms hb ssRows rs0 := hT.kept kb
  have hlb' : lim ≤ hb.length := by omega
  replace hK : ∀ o sg rs g, New hb g o 22 1 ((rmTo R ls xs xs.length).1.map fl) → NewD hb g sg 27 1 ssCells ssRows 22 rs → rs.map (·.1) = (rmTo R ls xs xs.length).2 → (∀ t ∈ lvs sg rs, Far o t) → K (.tup [.lf o, .lf sg]) g := fun o sg rs g h1 h2 h3 h4 => hK o sg rs g (h1.base kb) (h2.base kb) h3 h4
  clear hT hle
  refine WL_forM 34326185216 (by decide +kernel) (rs0.length) (fun i b g => i ≤ rs0.length ∧ b 25 = .lf (.int .i64 i) ∧ ∃ sg rs, b 8 = .lf sg ∧ NewD hb g sg 27 1 ssCells ssRows 22 rs ∧ rs.map (·.1) = ls.take i) (fun _ _ _ hi => hi.1) ⟨by omega, by simp, .nils, [], by simp, NewD.start (Kept.refl _), by simp⟩ ?_
  rintro i b g ⟨hi, e25, sg, rs, e8, hD, hq⟩
  have hk := hD.kept
  have hk1 := hk.1
  have hL1 := hL.kept hk
  have hql : rs.length = i := by have := congrArg List.length hq; rw [List.length_map, List.length_take] at this; have := hok.1; omega
  by_cases hlt : i < rs0.length
  · have hqE : ls.take (i + 1) = rs.map (·.1) ++ [rs0[i].1] := by
      rw [hq, ← hls, List.take_succ_eq_append_getElem (by simpa using hlt)]; simp
    have hqH : Hid (ls.take (i + 1) = rs.map (·.1) ++ [rs0[i].1]) := hqE
    have hl64 := hlen0 i hlt
    clear hqE hq hK
    repeat' (first | (simp (disch := first | omega | assumption | (simp only [List.length_set]; omega) | (simp [*] <;> fail) | assumption) [-Bool.decide_and, -Bool.decide_or, -Bool.not_and, -Bool.not_or, toNat_pred, toNat_succ, wrap64, wr_new, wr_new0, ok_if, ok_ifn, iadV_sl, makeV_int, decT, decF, over_at, *, hL1.len, hL1.at_, hL1.at_', hL1.rd, hL1.rdIn, hL1.rdIn0, hL1.rdA, hL1.rdInA, hL1.rdIn0A, hL1.rd1, ssCells]) | (with_reducible refine Gd_split (fun hc => ?_) (fun hc => ?_) <;> (have hc2 := hc; try simp at hc2)) | (with_reducible refine Br_split (fun hc => ?_) (fun hc => ?_) <;> (have hc2 := hc; try simp at hc2)) | (with_reducible refine GdT_split (fun hc => ?_) (fun hc => ?_) <;> (have hc2 := hc; try simp at hc2)) | (with_reducible refine WT_alt ?_ ?_) | omega)
    refine c_copyNumbers ((hTb i hlt).kept hk) (by simp only [ssRows]; omega) (by omega) fun c g2 hC => ?_
    obtain ⟨hf0, hf1⟩ := hD.fresh hC
    have hC1 := hC.base hk
    have hD1 := hD.later hC.kept
    have hg2 := hC.kept.1
    generalize hy : rs0[i].1 = y at *
    clear hC
    repeat' (first | (simp (disch := first | omega | assumption | (simp only [List.length_set]; omega) | (simp [*] <;> fail) | assumption) [-Bool.decide_and, -Bool.decide_or, -Bool.not_and, -Bool.not_or, toNat_pred, toNat_succ, wrap64, wr_new, wr_new0, ok_if, ok_ifn, iadV_sl, makeV_int, decT, decF, over_at, *, leavesAll, fillL]) | (with_reducible refine Gd_split (fun hc => ?_) (fun hc => ?_) <;> (have hc2 := hc; try simp at hc2)) | (with_reducible refine Br_split (fun hc => ?_) (fun hc => ?_) <;> (have hc2 := hc; try simp at hc2)) | (with_reducible refine GdT_split (fun hc => ?_) (fun hc => ?_) <;> (have hc2 := hc; try simp at hc2)) | (with_reducible refine WT_alt ?_ ?_) | omega)
    refine oc_push (bytes := 24) (r := [c]) hD1.out ?_ ?_ ?_ (by decide) rfl (by decide)
    · omega
    · simp; omega
    intro o2 g5 hN5 hB5
    have hP := hD1.push (a := y) hC1 hf0 hf1 (Kept.refl _) hN5 hB5 rfl
    repeat' (first | (simp (disch := first | omega | assumption | (simp only [List.length_set]; omega) | (simp [*] <;> fail) | assumption) [-Bool.decide_and, -Bool.decide_or, -Bool.not_and, -Bool.not_or, toNat_pred, toNat_succ, wrap64, wr_new, wr_new0, ok_if, ok_ifn, iadV_sl, makeV_int, decT, decF, over_at, *]) | (with_reducible refine Gd_split (fun hc => ?_) (fun hc => ?_) <;> (have hc2 := hc; try simp at hc2)) | (with_reducible refine Br_split (fun hc => ?_) (fun hc => ?_) <;> (have hc2 := hc; try simp at hc2)) | (with_reducible refine GdT_split (fun hc => ?_) (fun hc => ?_) <;> (have hc2 := hc; try simp at hc2)) | (with_reducible refine WT_alt ?_ ?_) | omega)
    exact ⟨by omega, _, hP, by rw [show ls.take (i + 1) = _ from hqH]; simp⟩
  · have : i = rs0.length := by omega
    subst this
    have hq2 : rs.map (·.1) = ls := by rw [hq]; exact List.take_of_length_le (by rw [hok.1]; omega)
    clear hq hTb hL hlen0 hL1
    repeat' (first | (simp (disch := first | omega | assumption | (simp only [List.length_set]; omega) | (simp [*] <;> fail) | assumption) [-Bool.decide_and, -Bool.decide_or, -Bool.not_and, -Bool.not_or, toNat_pred, toNat_succ, wrap64, wr_new, wr_new0, ok_if, ok_ifn, iadV_sl, makeV_int, decT, decF, over_at, *, (hX.kept hk).len]) | (with_reducible refine Gd_split (fun hc => ?_) (fun hc => ?_) <;> (have hc2 := hc; try simp at hc2)) | (with_reducible refine Br_split (fun hc => ?_) (fun hc => ?_) <;> (have hc2 := hc; try simp at hc2)) | (with_reducible refine GdT_split (fun hc => ?_) (fun hc => ?_) <;> (have hc2 := hc; try simp at hc2)) | (with_reducible refine WT_alt ?_ ?_) | omega)
    refine WL_forM 1298074214633706907132486651734016 (by decide +kernel) (xs.length) (fun k b2 g2 => k ≤ xs.length ∧ b2 37 = .lf (.int .i64 k) ∧ ∃ o rs2, b2 11 = .lf o ∧ New hb g2 o 22 1 ((rmTo R ls xs k).1.map fl) ∧ NewD hb g2 sg 27 1 ssCells ssRows 22 rs2 ∧ rs2.map (·.1) = (rmTo R ls xs k).2 ∧ ∀ t ∈ lvs sg rs2, Far o t) (fun _ _ _ hi => hi.1) ⟨by omega, by simp, .nils, rs, by simp, New.nil hk, hD, hq2, fun t _ => Far.nil_left⟩ ?_
    rintro k b2 g2 ⟨hkx, e37, o, rs2, e11, hO, hD2, hm2, hF⟩
    have hk2 := hD2.kept
    have hX2 := hX.kept hk2
    have hA2 := hA.kept hk2
    have s0 := hk2.rd b0
    have hkl2 := hk2.1
    have hol := rmTo_len (R := R) (ls := ls) (xs := xs) (i := k)
    by_cases hkt : k < xs.length
    · have hokr := hok.same (rmTo_same (R := R) (ls := ls) (xs := xs) (i := k))
      have hstep : rmTo R ls xs (k + 1) = ((rmTo R ls xs k).1 ++ [(roomS R (rmTo R ls xs k).2 xs[k]).1], (roomS R (rmTo R ls xs k).2 xs[k]).2) := by
        have e : xs.getD k 0 = xs[k] := by simp [hkt]
        rw [← e]; rfl
      generalize rmTo R ls xs k = st at *
      obtain ⟨outs, lk⟩ := st
      simp only at hO hm2 hol hokr hstep
      generalize hxk : xs[k] = x at *
      have hstepH : Hid (rmTo R ls xs (k + 1) = (outs ++ [(roomS R lk x).1], (roomS R lk x).2)) := hstep
      have hfin : roomS R lk x = (fbin .add .f32 (fbin .mul .f32 R.dry x) (fbin .mul .f32 R.wet (pssTo R.qs R.ds.length ((cmbTo R.ds x lk R.ds.length).1, sumTo32 (cmbTo R.ds x lk R.ds.length).2 (cmbTo R.ds x lk R.ds.length).2.length) R.qs.length).2), (pssTo R.qs R.ds.length ((cmbTo R.ds x lk R.ds.length).1, sumTo32 (cmbTo R.ds x lk R.ds.length).2 (cmbTo R.ds x lk R.ds.length).2.length) R.qs.length).1) := rfl
      have hfinH : Hid (roomS R lk x = (fbin .add .f32 (fbin .mul .f32 R.dry x) (fbin .mul .f32 R.wet (pssTo R.qs R.ds.length ((cmbTo R.ds x lk R.ds.length).1, sumTo32 (cmbTo R.ds x lk R.ds.length).2 (cmbTo R.ds x lk R.ds.length).2.length) R.qs.length).2), (pssTo R.qs R.ds.length ((cmbTo R.ds x lk R.ds.length).1, sumTo32 (cmbTo R.ds x lk R.ds.length).2 (cmbTo R.ds x lk R.ds.length).2.length) R.qs.length).1)) := hfin
      clear hK hstep hfin hq2 hD
      repeat' (first | (simp (disch := first | omega | assumption | (simp only [List.length_set]; omega) | (simp [*] <;> fail) | assumption) [-Bool.decide_and, -Bool.decide_or, -Bool.not_and, -Bool.not_or, toNat_pred, toNat_succ, wrap64, wr_new, wr_new0, ok_if, ok_ifn, iadV_sl, makeV_int, decT, decF, over_at, *, hX2.len, hX2.at_, hX2.at_', hX2.rd, hX2.rdIn, hX2.rdIn0, hX2.rdA, hX2.rdInA, hX2.rdIn0A, hX2.rd1, fl, hA2.len]) | (with_reducible refine Gd_split (fun hc => ?_) (fun hc => ?_) <;> (have hc2 := hc; try simp at hc2)) | (with_reducible refine Br_split (fun hc => ?_) (fun hc => ?_) <;> (have hc2 := hc; try simp at hc2)) | (with_reducible refine GdT_split (fun hc => ?_) (fun hc => ?_) <;> (have hc2 := hc; try simp at hc2)) | (with_reducible refine WT_alt ?_ ?_) | omega)
      refine WL_forM 295147887587167289344 (by decide +kernel) (R.ds.length) (fun i b3 g3 => i ≤ R.ds.length ∧ b3 44 = .lf (.int .i64 i) ∧ ∃ oc rs3, b3 14 = .lf oc ∧ New hb g3 o 22 1 (outs.map fl) ∧ New hb g3 oc 22 1 ((cmbTo R.ds x lk i).2.map fl) ∧ NewD hb g3 sg 27 1 ssCells ssRows 22 rs3 ∧ rs3.map (·.1) = (cmbTo R.ds x lk i).1 ∧ (∀ t ∈ lvs sg rs3, Far o t) ∧ (∀ t ∈ lvs sg rs3, Far oc t) ∧ Far o oc) (fun _ _ _ hi => hi.1) ⟨by omega, by simp, .nils, rs2, by simp, hO, New.nil hk2, hD2, hm2, hF, fun t _ => Far.nil_left, Far.nil_right⟩ ?_
      rintro i b3 g3 ⟨hi3, e44, oc, rs3, e14, hO3, hC3, hD3, hm3, hFo, hFc, hFoc⟩
      have hk3 := hD3.kept
      have hA3 := hA.kept hk3
      have hkl3 := hk3.1
      have u0 := hk3.rd b0
      by_cases hit : i < R.ds.length
      · have hok2 := hokr.same (cmb_same (ds := R.ds) (x := x) (i := i))
        obtain ⟨bb, r, hget, hrl⟩ := hok2.get (i := i) (by omega)
        have hs := cmbTo_succ hit hget
        have hcl := cmb_outs (ds := R.ds) (x := x) (ls := lk) (i := i)
        generalize cmbTo R.ds x lk i = cc at *
        obtain ⟨cl, co⟩ := cc
        simp only at hget hs hcl hC3 hm3 hok2
        have hil : i < rs3.length := by have := congrArg List.length hm3; rw [List.length_map] at this; have := hok2.1; omega
        have hri : rs3[i].1 = bb :: r := by
          have h1 : (rs3.map (·.1))[i]? = some rs3[i].1 := by simp [hil]
          rw [hm3, hget] at h1
          injection h1 with h1; exact h1.symm
        have hin := hD3.inn _ (List.getElem_mem hil)
        simp only [ssRows] at hin
        rw [hri] at hin
        have kx := Kept.app g3 [⟨R.ds[i].cells, .own 197 1⟩]
        have hsm := (Sm.new hin).kept kx
        have hsH : Hid (cmbTo R.ds x lk (i + 1) = (cl.set i (r ++ [dlyV R.ds[i] bb x]), co ++ [dlyO R.ds[i] bb x])) := hs
        have hmH : Hid (rs3.map (·.1) = cl) := hm3
        have hDA := hD3.arr
        have hl5 : R.ds[i].cells.length = 5 := rfl
        have ht5 : List.take 5 R.ds[i].cells = R.ds[i].cells := rfl
        have hDAr := fun t => hDA.rd1A (t := t) hil
        have hr5 : r.length ≤ 100000 := by omega
        have hl3x : lim ≤ (g3 ++ [⟨R.ds[i].cells, .own 197 1⟩] : Hp).length := by simp; omega
        have hst := fun d K hK => c_dstep (S := S) (lim := lim) (K := K) (d := d) (x := x) hsm hr5 hl3x hK
        replace hst := hst R.ds[i]
        generalize dlyV R.ds[i] bb x = vv at *
        generalize dlyO R.ds[i] bb x = oo at *
        generalize hdc : R.ds[i].cells = dc at *
        clear hs hm3 hget hri hin hsm
        repeat' (first | (simp (disch := first | omega | assumption | (simp only [List.length_set]; omega) | (simp [*] <;> fail) | assumption) [-Bool.decide_and, -Bool.decide_or, -Bool.not_and, -Bool.not_or, toNat_pred, toNat_succ, wrap64, wr_new, wr_new0, ok_if, ok_ifn, iadV_sl, makeV_int, decT, decF, over_at, *, hA3.len, hA3.at_, hA3.at_', hA3.rd, hA3.rdIn, hA3.rdIn0, hA3.rdA, hA3.rdInA, hA3.rdIn0A, hDA.len, hDA.at_, hDA.at_', hDA.rd, hDA.rdIn, hDA.rdIn0, hDA.rdA, hDA.rdInA, hDA.rdIn0A, ssCells, leavesAll, fillL]) | (with_reducible refine Gd_split (fun hc => ?_) (fun hc => ?_) <;> (have hc2 := hc; try simp at hc2)) | (with_reducible refine Br_split (fun hc => ?_) (fun hc => ?_) <;> (have hc2 := hc; try simp at hc2)) | (with_reducible refine GdT_split (fun hc => ?_) (fun hc => ?_) <;> (have hc2 := hc; try simp at hc2)) | (with_reducible refine WT_alt ?_ ?_) | omega)
        refine hst _ fun s g4 hS => ?_
        clear hst
        have k4 := kx.trans hS.kept
        have hD4 := hD3.later k4
        have hO4 := hO3.later k4
        have hC4 := hC3.later k4
        have hxl : (g3 ++ [⟨dc, .own 197 1⟩] : Hp).length = g3.length + 1 := by simp
        obtain ⟨hf0, hf1⟩ := (hD3.later kx).fresh hS
        have fo := far_fresh (o := o) hS (fun q => by have := (hO3.lt q).2; omega)
        have fc := far_fresh (o := oc) hS (fun q => by have := (hC3.lt q).2; omega)
        have hS4 := hS.base (hk3.trans kx)
        have hat := hD4.arr.at_ (k := .i64) hil
        have hkl4 := hD4.kept.1
        clear hS hDAr hDA
        repeat' (first | (simp (disch := first | omega | assumption | (simp only [List.length_set]; omega) | (simp [*] <;> fail) | assumption) [-Bool.decide_and, -Bool.decide_or, -Bool.not_and, -Bool.not_or, toNat_pred, toNat_succ, wrap64, wr_new, wr_new0, ok_if, ok_ifn, iadV_sl, makeV_int, decT, decF, over_at, *]) | (with_reducible refine Gd_split (fun hc => ?_) (fun hc => ?_) <;> (have hc2 := hc; try simp at hc2)) | (with_reducible refine Br_split (fun hc => ?_) (fun hc => ?_) <;> (have hc2 := hc; try simp at hc2)) | (with_reducible refine GdT_split (fun hc => ?_) (fun hc => ?_) <;> (have hc2 := hc; try simp at hc2)) | (with_reducible refine WT_alt ?_ ?_) | omega)
        refine hD4.repl (a := r ++ [vv]) hil hS4 hf0 hf1 rfl hlb' fun g5 hD5 hB5 => ?_
        have hlsg : sg ≠ .nils → hb.length ≤ sg.id := fun q => (hD4.out.lt q).1
        have hO5 := hB5.new hO4 hlsg (fun q1 q2 => (hFo sg lvs_head q2 q1))
        have hC5 := hB5.new hC4 hlsg (fun q1 q2 => (hFc sg lvs_head q2 q1))
        have hFo5 := lvs_repl (i := i) (a := r ++ [vv]) hFo fo
        have hFc5 := lvs_repl (i := i) (a := r ++ [vv]) hFc fc
        clear hD4 hO4 hC4 hB5 hat hFo hFc
        repeat' (first | (simp (disch := first | omega | assumption | (simp only [List.length_set]; omega) | (simp [*] <;> fail) | assumption) [-Bool.decide_and, -Bool.decide_or, -Bool.not_and, -Bool.not_or, toNat_pred, toNat_succ, wrap64, wr_new, wr_new0, ok_if, ok_ifn, iadV_sl, makeV_int, decT, decF, over_at, *, leavesAll, fillL]) | (with_reducible refine Gd_split (fun hc => ?_) (fun hc => ?_) <;> (have hc2 := hc; try simp at hc2)) | (with_reducible refine Br_split (fun hc => ?_) (fun hc => ?_) <;> (have hc2 := hc; try simp at hc2)) | (with_reducible refine GdT_split (fun hc => ?_) (fun hc => ?_) <;> (have hc2 := hc; try simp at hc2)) | (with_reducible refine WT_alt ?_ ?_) | omega)
        refine oc_push (bytes := 4) (r := [.flt .f32 oo]) hC5 ?_ ?_ ?_ (by decide) rfl (by decide)
        · omega
        · simp; omega
        intro oc2 g6 hC6 hB6
        have hloc : oc ≠ .nils → hb.length ≤ oc.id := fun q => (hC5.lt q).1
        have hD6 := hD5.but hB6 hloc (hFc5 sg lvs_head).symm (fun p hp => (hFc5 p.2 (by unfold lvs; exact List.mem_cons_of_mem _ (List.mem_map.2 ⟨p, hp, rfl⟩))).symm)
        have hO6 := hB6.new hO5 hloc (fun q1 q2 => hFoc q2 q1)
        have hFc6 : ∀ t ∈ lvs sg (rs3.set i (r ++ [vv], s)), Far oc2 t := fun t ht => (hB6.farR (hFc5 t ht).symm (fun q => (hD5.lvs_lt t ht q).2)).symm
        have hFoc6 := hB6.farR hFoc (fun q => (hO5.lt q).2)
        clear hD5 hO5 hC5 hB6 hFc5 hFoc
        repeat' (first | (simp (disch := first | omega | assumption | (simp only [List.length_set]; omega) | (simp [*] <;> fail) | assumption) [-Bool.decide_and, -Bool.decide_or, -Bool.not_and, -Bool.not_or, toNat_pred, toNat_succ, wrap64, wr_new, wr_new0, ok_if, ok_ifn, iadV_sl, makeV_int, decT, decF, over_at, *]) | (with_reducible refine Gd_split (fun hc => ?_) (fun hc => ?_) <;> (have hc2 := hc; try simp at hc2)) | (with_reducible refine Br_split (fun hc => ?_) (fun hc => ?_) <;> (have hc2 := hc; try simp at hc2)) | (with_reducible refine GdT_split (fun hc => ?_) (fun hc => ?_) <;> (have hc2 := hc; try simp at hc2)) | (with_reducible refine WT_alt ?_ ?_) | omega)
        exact ⟨hit, by rw [show cmbTo R.ds x lk (i + 1) = _ from hsH, List.map_append]; exact hC6, _, hD6, by rw [show cmbTo R.ds x lk (i + 1) = _ from hsH, map_setD, show rs3.map (·.1) = _ from hmH], hFo5, hFc6⟩
      · have : i = R.ds.length := by omega
        subst this
        have hSum := fun lim K => c_sumOf (S := S) (h := g3) (lim := lim) (K := K) hC3.arr
        have hokc := hokr.same (cmb_same (ds := R.ds) (x := x) (i := R.ds.length))
        obtain ⟨st, hst⟩ : ∃ st, ((cmbTo R.ds x lk R.ds.length).1, sumTo32 (cmbTo R.ds x lk R.ds.length).2 (cmbTo R.ds x lk R.ds.length).2.length) = st := ⟨_, rfl⟩
        have hst1 : (cmbTo R.ds x lk R.ds.length).1 = st.1 := by rw [← hst]
        have hst2 : sumTo32 (cmbTo R.ds x lk R.ds.length).2 (cmbTo R.ds x lk R.ds.length).2.length = st.2 := by rw [← hst]
        have hfin2 : Hid (roomS R lk x = (fbin .add .f32 (fbin .mul .f32 R.dry x) (fbin .mul .f32 R.wet (pssTo R.qs R.ds.length st R.qs.length).2), (pssTo R.qs R.ds.length st R.qs.length).1)) := by rw [← hst]; exact hfinH
        rw [hst2] at hSum
        rw [hst1] at hm3 hokc
        clear hfinH hst hst1 hst2 hC3 hFc hFoc
        have u1 := hk3.rd b1
        repeat' (first | (simp (disch := first | omega | assumption | (simp only [List.length_set]; omega) | (simp [*] <;> fail) | assumption) [-Bool.decide_and, -Bool.decide_or, -Bool.not_and, -Bool.not_or, toNat_pred, toNat_succ, wrap64, wr_new, wr_new0, ok_if, ok_ifn, iadV_sl, makeV_int, decT, decF, over_at, *, (hB.kept hk3).len]) | (with_reducible refine Gd_split (fun hc => ?_) (fun hc => ?_) <;> (have hc2 := hc; try simp at hc2)) | (with_reducible refine Br_split (fun hc => ?_) (fun hc => ?_) <;> (have hc2 := hc; try simp at hc2)) | (with_reducible refine GdT_split (fun hc => ?_) (fun hc => ?_) <;> (have hc2 := hc; try simp at hc2)) | (with_reducible refine WT_alt ?_ ?_) | omega)
        refine WL_forM 158456315583795709447805337600 (by decide +kernel) (R.qs.length) (fun j b4 g4 => j ≤ R.qs.length ∧ b4 73 = .lf (.int .i64 j) ∧ b4 19 = .lf (.flt .f32 (pssTo R.qs R.ds.length st j).2) ∧ ∃ rs4, New hb g4 o 22 1 (outs.map fl) ∧ NewD hb g4 sg 27 1 ssCells ssRows 22 rs4 ∧ rs4.map (·.1) = (pssTo R.qs R.ds.length st j).1 ∧ (∀ t ∈ lvs sg rs4, Far o t)) (fun _ _ _ hi => hi.1) ⟨by omega, by simp, by simp [pssTo], rs3, hO3, hD3, hm3, hFo⟩ ?_
        rintro j b4 g4 ⟨hj, e73, e19, rs4, hO4, hD4, hm4, hF4⟩
        have hk4 := hD4.kept
        have hA4 := hA.kept hk4
        have hB4 := hB.kept hk4
        have hkl4 := hk4.1
        have v0A := fun t => (hk4.trans (Kept.app g4 t)).rd b0
        by_cases hjt : j < R.qs.length
        · have hok2 := hokc.same (pss_same (qs := R.qs) (n := R.ds.length) (st := st) (i := j))
          obtain ⟨bb, r, hget, hrl⟩ := hok2.get (i := R.ds.length + j) (by omega)
          have hs := pssTo_succ hjt hget
          generalize pssTo R.qs R.ds.length st j = cc at *
          obtain ⟨cl, co⟩ := cc
          simp only at hget hs hm4 hok2 e19
          obtain ⟨P, hP⟩ : ∃ P : Nat, (R.ds.length : Int) + (j : Int) = P := ⟨R.ds.length + j, by omega⟩
          have hPn : R.ds.length + j = P := by omega
          rw [hPn] at hget hs
          have hil : P < rs4.length := by have := congrArg List.length hm4; rw [List.length_map] at this; have := hok2.1; omega
          have hri : rs4[P].1 = bb :: r := by
            have h1 : (rs4.map (·.1))[P]? = some rs4[P].1 := by simp [hil]
            rw [hm4, hget] at h1
            injection h1 with h1; exact h1.symm
          have hin := hD4.inn _ (List.getElem_mem hil)
          simp only [ssRows] at hin
          rw [hri] at hin
          have kx := Kept.app g4 [⟨R.qs[j].cells, .own 199 1⟩]
          have hsm := (Sm.new hin).kept kx
          have hsH : Hid (pssTo R.qs R.ds.length st (j + 1) = (cl.set P (r ++ [pasV R.qs[j] bb co]), pasO R.qs[j] bb co)) := hs
          have hmH : Hid (rs4.map (·.1) = cl) := hm4
          have hDA := hD4.arr
          have hl2 : R.qs[j].cells.length = 2 := rfl
          have ht2 : List.take 2 R.qs[j].cells = R.qs[j].cells := rfl
          have hDAr := fun t => hDA.rd1A (t := t) hil
          have hr5 : r.length ≤ 100000 := by omega
          have hl3x : lim ≤ (g4 ++ [⟨R.qs[j].cells, .own 199 1⟩] : Hp).length := by simp; omega
          have hst := fun p K hK => c_pstep (S := S) (lim := lim) (K := K) (p := p) (x := co) hsm hr5 hl3x hK
          replace hst := hst R.qs[j]
          generalize pasV R.qs[j] bb co = vv at *
          generalize pasO R.qs[j] bb co = oo at *
          generalize hdc : R.qs[j].cells = dc at *
          clear hs hm4 hget hri hin hsm hPn
          repeat' (first | (simp (disch := first | omega | assumption | (simp only [List.length_set]; omega) | (simp [*] <;> fail) | assumption) [-Bool.decide_and, -Bool.decide_or, -Bool.not_and, -Bool.not_or, toNat_pred, toNat_succ, wrap64, wr_new, wr_new0, ok_if, ok_ifn, iadV_sl, makeV_int, decT, decF, over_at, *, hB4.len, hB4.at_, hB4.at_', hB4.rd, hB4.rdIn, hB4.rdIn0, hB4.rdA, hB4.rdInA, hB4.rdIn0A, hA4.len, hDA.len, hDA.at_, hDA.at_', hDA.rd, hDA.rdIn, hDA.rdIn0, hDA.rdA, hDA.rdInA, hDA.rdIn0A, ssCells, leavesAll, fillL]) | (with_reducible refine Gd_split (fun hc => ?_) (fun hc => ?_) <;> (have hc2 := hc; try simp at hc2)) | (with_reducible refine Br_split (fun hc => ?_) (fun hc => ?_) <;> (have hc2 := hc; try simp at hc2)) | (with_reducible refine GdT_split (fun hc => ?_) (fun hc => ?_) <;> (have hc2 := hc; try simp at hc2)) | (with_reducible refine WT_alt ?_ ?_) | omega)
          refine hst _ fun s g5 hS => ?_
          clear hst
          have k5 := kx.trans hS.kept
          have hD5 := hD4.later k5
          have hO5 := hO4.later k5
          have hxl : (g4 ++ [⟨dc, .own 199 1⟩] : Hp).length = g4.length + 1 := by simp
          obtain ⟨hf0, hf1⟩ := (hD4.later kx).fresh hS
          have fo := far_fresh (o := o) hS (fun q => by have := (hO4.lt q).2; omega)
          have hS5 := hS.base (hk4.trans kx)
          have hat := hD5.arr.at_ (k := .i64) hil
          have hkl5 := hD5.kept.1
          clear hS hDAr hDA
          repeat' (first | (simp (disch := first | omega | assumption | (simp only [List.length_set]; omega) | (simp [*] <;> fail) | assumption) [-Bool.decide_and, -Bool.decide_or, -Bool.not_and, -Bool.not_or, toNat_pred, toNat_succ, wrap64, wr_new, wr_new0, ok_if, ok_ifn, iadV_sl, makeV_int, decT, decF, over_at, *]) | (with_reducible refine Gd_split (fun hc => ?_) (fun hc => ?_) <;> (have hc2 := hc; try simp at hc2)) | (with_reducible refine Br_split (fun hc => ?_) (fun hc => ?_) <;> (have hc2 := hc; try simp at hc2)) | (with_reducible refine GdT_split (fun hc => ?_) (fun hc => ?_) <;> (have hc2 := hc; try simp at hc2)) | (with_reducible refine WT_alt ?_ ?_) | omega)
          refine hD5.repl (a := r ++ [vv]) hil hS5 hf0 hf1 rfl hlb' fun g6 hD6 hB6 => ?_
          have hlsg : sg ≠ .nils → hb.length ≤ sg.id := fun q => (hD5.out.lt q).1
          have hO6 := hB6.new hO5 hlsg (fun q1 q2 => (hF4 sg lvs_head q2 q1))
          have hFo6 := lvs_repl (i := P) (a := r ++ [vv]) hF4 fo
          clear hD5 hO5 hB6 hat hF4
          repeat' (first | (simp (disch := first | omega | assumption | (simp only [List.length_set]; omega) | (simp [*] <;> fail) | assumption) [-Bool.decide_and, -Bool.decide_or, -Bool.not_and, -Bool.not_or, toNat_pred, toNat_succ, wrap64, wr_new, wr_new0, ok_if, ok_ifn, iadV_sl, makeV_int, decT, decF, over_at, *]) | (with_reducible refine Gd_split (fun hc => ?_) (fun hc => ?_) <;> (have hc2 := hc; try simp at hc2)) | (with_reducible refine Br_split (fun hc => ?_) (fun hc => ?_) <;> (have hc2 := hc; try simp at hc2)) | (with_reducible refine GdT_split (fun hc => ?_) (fun hc => ?_) <;> (have hc2 := hc; try simp at hc2)) | (with_reducible refine WT_alt ?_ ?_) | omega)
          exact ⟨hjt, by rw [show pssTo R.qs R.ds.length st (j + 1) = _ from hsH], _, hD6, by rw [show pssTo R.qs R.ds.length st (j + 1) = _ from hsH, map_setD, show rs4.map (·.1) = _ from hmH], hFo6⟩
        · have : j = R.qs.length := by omega
          subst this
          have v2 := hk4.rd bd2
          have v3 := hk4.rd bd3
          generalize pssTo R.qs R.ds.length st R.qs.length = pe at *
          obtain ⟨pl, ps⟩ := pe
          simp only at e19 hm4
          have hstep2 : Hid (rmTo R ls xs (k + 1) = (outs ++ [fbin .add .f32 (fbin .mul .f32 R.dry x) (fbin .mul .f32 R.wet ps)], pl)) := by
            show rmTo R ls xs (k + 1) = _
            rw [show rmTo R ls xs (k + 1) = _ from hstepH, show roomS R lk x = _ from hfin2]
          have hmH : Hid (rs4.map (·.1) = pl) := hm4
          clear hstepH hfin2 hm4
          repeat' (first | (simp (disch := first | omega | assumption | (simp only [List.length_set]; omega) | (simp [*] <;> fail) | assumption) [-Bool.decide_and, -Bool.decide_or, -Bool.not_and, -Bool.not_or, toNat_pred, toNat_succ, wrap64, wr_new, wr_new0, ok_if, ok_ifn, iadV_sl, makeV_int, decT, decF, over_at, *, leavesAll, fillL]) | (with_reducible refine Gd_split (fun hc => ?_) (fun hc => ?_) <;> (have hc2 := hc; try simp at hc2)) | (with_reducible refine Br_split (fun hc => ?_) (fun hc => ?_) <;> (have hc2 := hc; try simp at hc2)) | (with_reducible refine GdT_split (fun hc => ?_) (fun hc => ?_) <;> (have hc2 := hc; try simp at hc2)) | (with_reducible refine WT_alt ?_ ?_) | omega)
          refine oc_push (bytes := 4) (r := [.flt .f32 (fbin .add .f32 (fbin .mul .f32 R.dry x) (fbin .mul .f32 R.wet ps))]) hO4 ?_ ?_ ?_ (by decide) rfl (by decide)
          · omega
          · simp; omega
          intro o2 g6 hO6 hB6
          have hloc : o ≠ .nils → hb.length ≤ o.id := fun q => (hO4.lt q).1
          have hD6 := hD4.but hB6 hloc (hF4 sg lvs_head).symm (fun p hp => (hF4 p.2 (by unfold lvs; exact List.mem_cons_of_mem _ (List.mem_map.2 ⟨p, hp, rfl⟩))).symm)
          have hF6 : ∀ t ∈ lvs sg rs4, Far o2 t := fun t ht => (hB6.farR (hF4 t ht).symm (fun q => (hD4.lvs_lt t ht q).2)).symm
          clear hB6 hO4 hD4 hF4
          repeat' (first | (simp (disch := first | omega | assumption | (simp only [List.length_set]; omega) | (simp [*] <;> fail) | assumption) [-Bool.decide_and, -Bool.decide_or, -Bool.not_and, -Bool.not_or, toNat_pred, toNat_succ, wrap64, wr_new, wr_new0, ok_if, ok_ifn, iadV_sl, makeV_int, decT, decF, over_at, *]) | (with_reducible refine Gd_split (fun hc => ?_) (fun hc => ?_) <;> (have hc2 := hc; try simp at hc2)) | (with_reducible refine Br_split (fun hc => ?_) (fun hc => ?_) <;> (have hc2 := hc; try simp at hc2)) | (with_reducible refine GdT_split (fun hc => ?_) (fun hc => ?_) <;> (have hc2 := hc; try simp at hc2)) | (with_reducible refine WT_alt ?_ ?_) | omega)
          exact ⟨hkt, by rw [show rmTo R ls xs (k + 1) = _ from hstep2, List.map_append]; exact hO6, _, hD6, by rw [show rmTo R ls xs (k + 1) = _ from hstep2]; exact hmH, hF6⟩
    · have : k = xs.length := by omega
      subst this
      have hk5 := hK _ _ _ _ hO hD2 hm2 hF
      clear hK
      repeat' (first | (simp (disch := first | omega | assumption | (simp only [List.length_set]; omega) | (simp [*] <;> fail) | assumption) [-Bool.decide_and, -Bool.decide_or, -Bool.not_and, -Bool.not_or, toNat_pred, toNat_succ, wrap64, wr_new, wr_new0, ok_if, ok_ifn, iadV_sl, makeV_int, decT, decF, over_at, *, hX2.len]) | (with_reducible refine Gd_split (fun hc => ?_) (fun hc => ?_) <;> (have hc2 := hc; try simp at hc2)) | (with_reducible refine Br_split (fun hc => ?_) (fun hc => ?_) <;> (have hc2 := hc; try simp at hc2)) | (with_reducible refine GdT_split (fun hc => ?_) (fun hc => ?_) <;> (have hc2 := hc; try simp at hc2)) | (with_reducible refine WT_alt ?_ ?_) | omega)
end
end Go.E
