/- The law of NewState: what the evaluator finds. -/
import Derived.Test.YtpakemggfjmfcaaMNs
import Derived.Test.YtpakemggfjmfcaaMDk
import Derived.Test.YtpakemggfjmfcaaMDs
import Derived.Test.YtpakemggfjmfcaaProg
set_option linter.unusedVariables false
set_option linter.unusedSimpArgs false
namespace Go.E
open Go
def L11 : LFn := ⟨1, (.seq (.reg [⟨(.some 2), (.mv (.c (.lf (.bool false)))), none⟩])
 (.seq (.reg [⟨(.some 3), (.mv (.c (.lf (.int .i64 1048576)))), none⟩])
 (.seq (.reg [⟨(.some 14), (.mv (.t 0)), none⟩, ⟨(.some 15), (.mv (.t 3)), none⟩, ⟨(.some 16), (.call true 42 [(.t 14), (.t 15)]), none⟩, ⟨(.some 3), (.mv (.t 16)), none⟩])
 (.seq (.seq (.reg [⟨(.some 17), (.mv (.t 3)), none⟩, ⟨(.some 18), (.bin .lss (.t 17) (.c (.lf (.int .i64 0)))), none⟩])
 (.cond (.t 18) (.seq (.reg [⟨(.some 2), (.mv (.c (.lf (.bool true)))), none⟩])
 .ret) .skip))
 (.seq (.reg [⟨(.some 20), (.mv (.t 0)), none⟩, ⟨(.some 21), (.call false 45 [(.t 20)]), none⟩, ⟨(.some 22), (.call false 66 [(.t 21)]), none⟩, ⟨(.some 19), (.mv (.t 22)), none⟩, ⟨(.some 23), (.ext (.t 19) 0), none⟩, ⟨(.some 24), (.ext (.t 19) 1), none⟩, ⟨(.some 4), (.mv (.t 23)), none⟩, ⟨(.some 5), (.mv (.t 24)), none⟩])
 (.seq (.reg [⟨(.some 25), (.mv (.t 0)), none⟩, ⟨(.some 26), (.call false 45 [(.t 25)]), none⟩, ⟨(.some 6), (.mv (.t 26)), none⟩])
 (.seq (.reg [⟨(.some 28), (.mv (.t 6)), none⟩, ⟨(.some 29), (.call false 67 [(.t 28)]), none⟩, ⟨(.some 27), (.mv (.t 29)), none⟩, ⟨(.some 30), (.ext (.t 27) 0), none⟩, ⟨(.some 31), (.ext (.t 27) 1), none⟩, ⟨(.some 7), (.mv (.t 30)), none⟩, ⟨(.some 8), (.mv (.t 31)), none⟩])
 (.seq (.seq (.reg [⟨(.some 32), (.mv (.t 7)), none⟩, ⟨(.some 33), (.mv (.t 4)), none⟩, ⟨(.some 34), (.call true 49 [(.t 32), (.t 33)]), none⟩, ⟨(.some 35), (.una .not (.t 34)), none⟩, ⟨(.some 36), (.mv (.t 35)), none⟩, ⟨(.some 37), (.mv (.t 8)), (.some (36, false))⟩, ⟨(.some 38), (.mv (.t 5)), (.some (36, false))⟩, ⟨(.some 39), (.beq true (.t 37) (.t 38)), (.some (36, false))⟩, ⟨(.some 40), (.pick (.t 36) (.c (.lf (.bool true))) (.t 39)), none⟩])
 (.cond (.t 40) (.seq (.reg [⟨(.some 2), (.mv (.c (.lf (.bool false)))), none⟩])
 .ret) .skip))
 (.seq (.seq (.reg [⟨(.some 41), (.mv (.t 6)), none⟩, ⟨(.some 42), (.mv (.t 0)), none⟩, ⟨(.some 43), (.call false 45 [(.t 42)]), none⟩, ⟨(.some 44), (.call true 48 [(.t 41), (.t 43)]), none⟩, ⟨(.some 45), (.una .not (.t 44)), none⟩])
 (.cond (.t 45) (.seq (.reg [⟨(.some 2), (.mv (.c (.lf (.bool false)))), none⟩])
 .ret) .skip))
 (.seq (.reg [⟨(.some 9), (.mv (.c (.lf (.int .i64 1)))), none⟩])
 (.seq (.reg [⟨(.some 46), (.mv (.t 6)), none⟩, ⟨(.some 47), (.mv (.t 9)), none⟩, ⟨(.some 48), (.call false 52 [(.t 46), (.t 47)]), none⟩, ⟨(.some 9), (.mv (.t 48)), none⟩])
 (.seq (.seq (.reg [⟨(.some 49), (.mv (.t 9)), none⟩, ⟨(.some 50), (.bin .lss (.t 49) (.c (.lf (.int .i64 0)))), none⟩, ⟨(.some 51), (.mv (.t 50)), none⟩, ⟨(.some 52), (.mv (.t 7)), (.some (51, false))⟩, ⟨(.some 53), (.mv (.t 4)), (.some (51, false))⟩, ⟨(.some 54), (.call true 49 [(.t 52), (.t 53)]), (.some (51, false))⟩, ⟨(.some 55), (.una .not (.t 54)), (.some (51, false))⟩, ⟨(.some 56), (.pick (.t 51) (.c (.lf (.bool true))) (.t 55)), none⟩, ⟨(.some 57), (.mv (.t 56)), none⟩, ⟨(.some 58), (.mv (.t 8)), (.some (57, false))⟩, ⟨(.some 59), (.mv (.t 5)), (.some (57, false))⟩, ⟨(.some 60), (.beq true (.t 58) (.t 59)), (.some (57, false))⟩, ⟨(.some 61), (.pick (.t 57) (.c (.lf (.bool true))) (.t 60)), none⟩])
 (.cond (.t 61) (.seq (.reg [⟨(.some 2), (.mv (.c (.lf (.bool false)))), none⟩])
 .ret) .skip))
 (.seq (.reg [⟨(.some 10), (.mv (.c (.lf (.int .i64 1)))), none⟩])
 (.seq (.reg [⟨(.some 62), (.mv (.t 7)), none⟩, ⟨(.some 63), (.mv (.t 10)), none⟩, ⟨(.some 64), (.call false 59 [(.t 62), (.t 63)]), none⟩, ⟨(.some 10), (.mv (.t 64)), none⟩])
 (.seq (.reg [⟨(.some 11), (.mv (.c (.lf (.int .i64 1)))), none⟩])
 (.seq (.reg [⟨(.some 65), (.mv (.t 7)), none⟩, ⟨(.some 66), (.mv (.t 11)), none⟩, ⟨(.some 67), (.call true 61 [(.t 65), (.t 66)]), none⟩, ⟨(.some 11), (.mv (.t 67)), none⟩])
 (.seq (.seq (.reg [⟨(.some 68), (.mv (.t 11)), none⟩, ⟨(.some 69), (.bin .lss (.t 68) (.c (.lf (.int .i64 0)))), none⟩])
 (.cond (.t 69) (.seq (.reg [⟨(.some 2), (.mv (.c (.lf (.bool false)))), none⟩])
 .ret) .skip))
 (.seq (.seq (.reg [⟨(.some 70), (.mv (.t 11)), none⟩, ⟨(.some 71), (.mv (.t 10)), none⟩, ⟨(.some 72), (.bin .neq (.t 70) (.t 71)), none⟩])
 (.cond (.t 72) (.seq (.reg [⟨(.some 2), (.mv (.c (.lf (.bool false)))), none⟩])
 .ret) .skip))
 (.seq (.reg [⟨(.some 74), (.mv (.t 0)), none⟩, ⟨(.some 75), (.call false 45 [(.t 74)]), none⟩, ⟨(.some 76), (.call false 67 [(.t 75)]), none⟩, ⟨(.some 73), (.mv (.t 76)), none⟩, ⟨(.some 77), (.ext (.t 73) 0), none⟩, ⟨(.some 78), (.ext (.t 73) 1), none⟩, ⟨(.some 12), (.mv (.t 77)), none⟩, ⟨(.some 13), (.mv (.t 78)), none⟩])
 (.seq (.seq (.reg [⟨(.some 79), (.mv (.t 12)), none⟩, ⟨(.some 80), (.mv (.t 4)), none⟩, ⟨(.some 81), (.call true 49 [(.t 79), (.t 80)]), none⟩, ⟨(.some 82), (.una .not (.t 81)), none⟩, ⟨(.some 83), (.mv (.t 82)), none⟩, ⟨(.some 84), (.mv (.t 13)), (.some (83, false))⟩, ⟨(.some 85), (.mv (.t 5)), (.some (83, false))⟩, ⟨(.some 86), (.beq true (.t 84) (.t 85)), (.some (83, false))⟩, ⟨(.some 87), (.pick (.t 83) (.c (.lf (.bool true))) (.t 86)), none⟩])
 (.cond (.t 87) (.seq (.reg [⟨(.some 2), (.mv (.c (.lf (.bool false)))), none⟩])
 .ret) .skip))
 (.seq (.reg [⟨(.some 11), (.mv (.c (.lf (.int .i64 1)))), none⟩])
 (.seq (.reg [⟨(.some 88), (.mv (.t 7)), none⟩, ⟨(.some 89), (.mv (.t 11)), none⟩, ⟨(.some 90), (.call true 61 [(.t 88), (.t 89)]), none⟩, ⟨(.some 11), (.mv (.t 90)), none⟩])
 (.seq (.seq (.reg [⟨(.some 91), (.mv (.t 11)), none⟩, ⟨(.some 92), (.bin .lss (.t 91) (.c (.lf (.int .i64 0)))), none⟩])
 (.cond (.t 92) (.seq (.reg [⟨(.some 2), (.mv (.c (.lf (.bool false)))), none⟩])
 .ret) .skip))
 (.seq (.seq (.reg [⟨(.some 93), (.mv (.t 11)), none⟩, ⟨(.some 94), (.mv (.t 10)), none⟩, ⟨(.some 95), (.bin .neq (.t 93) (.t 94)), none⟩])
 (.cond (.t 95) (.seq (.reg [⟨(.some 2), (.mv (.c (.lf (.bool false)))), none⟩])
 .ret) .skip))
 (.seq (.reg [⟨(.some 2), (.mv (.c (.lf (.bool true)))), none⟩])
 .ret))))))))))))))))))))))))), [(.tmp 2)]⟩
class HasLNewState (S : Sys) : Prop extends HasNw S, HasDE S, HasDSS S, HasKE S, HasKSS S where
  f11 : S.fs 11 = some L11
set_option maxRecDepth 20000 in
set_option maxHeartbeats 4000000 in
theorem lawNewState {S : Sys} [HasLNewState S] : LawHolds S 11 [(false, .sl 3 effSh)] := by
  intro h cs hcs
  obtain ⟨c0, _, rfl, ⟨ls0, rfl, l, rows, rfl, hAl, hrows⟩, rfl⟩ := hcs
  obtain ⟨ps, rfl, hIl, _⟩ := effs_of hrows
  clear hrows
  have cs : ∀ {g a0 p0 K}, NewD h g a0 104 3 Eff.cells Eff.nums 22 p0 → p0.map (·.1) = ps.map (·.1) → h.length ≤ g.length → (∀ o po g', NewD g g' o 27 1 ssCells ssRows 22 po → po.map (·.1) = nwR (ps.map (·.1)) → K (.tup [.lf o, .lf (.bool (decide (isCh (ps.map (·.1)))))]) g') → CallT S false 66 [.lf a0] g h.length K := fun h0 e0 hl hk => c_specNewState h0.arr h0.ins hl (fun o g qs hD hq => by rw [e0] at hq ⊢; exact hk o qs g hD hq)
  have ci : ∀ {g a0 p0 K}, NewD h g a0 104 3 Eff.cells Eff.nums 22 p0 → p0.map (·.1) = ps.map (·.1) → h.length ≤ g.length → (∀ o po g', NewD g g' o 27 1 ssCells ssRows 22 po → po.map (·.1) = nwR (ps.map (·.1)) → K (.tup [.lf o, .lf (.bool (decide (isCh (ps.map (·.1)))))]) g') → CallT S false 67 [.lf a0] g h.length K := fun h0 e0 hl hk => c_implNewState h0.arr h0.ins hl (fun o g qs hD hq => by rw [e0] at hq ⊢; exact hk o qs g hD hq)
  have hsm := nwR_small (es := ps.map (·.1))
  generalize nwR (ps.map (·.1)) = y at *
  generalize decide (isCh (ps.map (·.1))) = ok at *
  have hlo0 : ∀ {qs : List (List Nat × Lf)}, qs.map (·.1) = y → qs.length ≤ 16777216 ∧ szD ssRows qs ≤ 16777216 := fun he => by have := small_of (ro := ssRows) hsm.1 hsm.2 he; omega
  clear hsm
  refine law_of (F := L11) HasLNewState.f11 rfl ?_
  have hs := fun K lim => c_szEffectS (S := S) (K := K) (lim := lim) hAl hIl (b := 1048576) (by decide) (by decide)
  by_cases hsz : (1048576 : Int) < ps.length + szD Eff.nums ps
  · rw [if_pos hsz] at hs
    unfold L11
    dsimp only []
    repeat' (first | (simp (disch := first | omega | assumption | (simp only [List.length_set]; omega) | (simp [*] <;> fail) | assumption) [-Bool.decide_and, -Bool.decide_or, -Bool.not_and, -Bool.not_or, toNat_pred, toNat_succ, wrap64, wr_new, wr_new0, ok_if, ok_ifn, iadV_sl, makeV_int, decT, decF, over_at, *]) | (with_reducible refine Gd_split (fun hc => ?_) (fun hc => ?_) <;> (have hc2 := hc; try simp at hc2)) | (with_reducible refine Br_split (fun hc => ?_) (fun hc => ?_) <;> (have hc2 := hc; try simp at hc2)) | (with_reducible refine GdT_split (fun hc => ?_) (fun hc => ?_) <;> (have hc2 := hc; try simp at hc2)) | (with_reducible refine WT_alt ?_ ?_) | omega)
  rw [if_neg hsz] at hs
  unfold L11
  dsimp only []
  repeat' (first | (simp (disch := first | omega | assumption | (simp only [List.length_set]; omega) | (simp [*] <;> fail) | assumption) [-Bool.decide_and, -Bool.decide_or, -Bool.not_and, -Bool.not_or, toNat_pred, toNat_succ, wrap64, wr_new, wr_new0, ok_if, ok_ifn, iadV_sl, makeV_int, decT, decF, over_at, *]) | (with_reducible refine Gd_split (fun hc => ?_) (fun hc => ?_) <;> (have hc2 := hc; try simp at hc2)) | (with_reducible refine Br_split (fun hc => ?_) (fun hc => ?_) <;> (have hc2 := hc; try simp at hc2)) | (with_reducible refine GdT_split (fun hc => ?_) (fun hc => ?_) <;> (have hc2 := hc; try simp at hc2)) | (with_reducible refine WT_alt ?_ ?_) | omega)
  have hnl : ps.length ≤ 16777216 := by omega
  have hml : szD Eff.nums ps ≤ 16777216 := by omega
  clear hs hsz
  refine c_toEffectS (hAl.kept (Kept.refl h)) (hIl.kept (Kept.refl h)) hnl hml (Kept.refl h).1 fun x0 g1 px0 hx0 Ex0 => ?_
  have Bx0 : px0.length ≤ 16777216 ∧ szD Eff.nums px0 ≤ 16777216 := ⟨by rw [map_len Ex0]; omega, by rw [szD_map Ex0]; omega⟩
  have K2 := (Kept.refl h).trans hx0.kept
  have Q2 := hx0.kept.1
  have P2 := K2.1
  have Zx0 := hx0.lvs_lt
  have Nx0 := hx0.base (Kept.refl h)
  repeat' (first | (simp (disch := first | omega | assumption | (simp only [List.length_set]; omega) | (simp [*] <;> fail) | assumption) [-Bool.decide_and, -Bool.decide_or, -Bool.not_and, -Bool.not_or, toNat_pred, toNat_succ, wrap64, wr_new, wr_new0, ok_if, ok_ifn, iadV_sl, makeV_int, decT, decF, over_at, *]) | (with_reducible refine Gd_split (fun hc => ?_) (fun hc => ?_) <;> (have hc2 := hc; try simp at hc2)) | (with_reducible refine Br_split (fun hc => ?_) (fun hc => ?_) <;> (have hc2 := hc; try simp at hc2)) | (with_reducible refine GdT_split (fun hc => ?_) (fun hc => ?_) <;> (have hc2 := hc; try simp at hc2)) | (with_reducible refine WT_alt ?_ ?_) | omega)
  refine cs Nx0 Ex0 K2.1 fun s0 ps0 g3 hs0 Es0  => ?_
  have Bs0 := hlo0 Es0
  have K4 := K2.trans hs0.kept
  have Q4 := hs0.kept.1
  have P4 := K4.1
  have Zs0 := hs0.lvs_lt
  have Ns0 := hs0.base K2
  replace Nx0 := Nx0.later hs0.kept
  repeat' (first | (simp (disch := first | omega | assumption | (simp only [List.length_set]; omega) | (simp [*] <;> fail) | assumption) [-Bool.decide_and, -Bool.decide_or, -Bool.not_and, -Bool.not_or, toNat_pred, toNat_succ, wrap64, wr_new, wr_new0, ok_if, ok_ifn, iadV_sl, makeV_int, decT, decF, over_at, *]) | (with_reducible refine Gd_split (fun hc => ?_) (fun hc => ?_) <;> (have hc2 := hc; try simp at hc2)) | (with_reducible refine Br_split (fun hc => ?_) (fun hc => ?_) <;> (have hc2 := hc; try simp at hc2)) | (with_reducible refine GdT_split (fun hc => ?_) (fun hc => ?_) <;> (have hc2 := hc; try simp at hc2)) | (with_reducible refine WT_alt ?_ ?_) | omega)
  refine c_toEffectS (hAl.kept K4) (hIl.kept K4) hnl hml K4.1 fun a0 g5 pa0 ha0 Ea0 => ?_
  have Ba0 : pa0.length ≤ 16777216 ∧ szD Eff.nums pa0 ≤ 16777216 := ⟨by rw [map_len Ea0]; omega, by rw [szD_map Ea0]; omega⟩
  have K6 := K4.trans ha0.kept
  have Q6 := ha0.kept.1
  have P6 := K6.1
  have Za0 := ha0.lvs_lt
  have Na0 := ha0.base K4
  replace Ns0 := Ns0.later ha0.kept
  repeat' (first | (simp (disch := first | omega | assumption | (simp only [List.length_set]; omega) | (simp [*] <;> fail) | assumption) [-Bool.decide_and, -Bool.decide_or, -Bool.not_and, -Bool.not_or, toNat_pred, toNat_succ, wrap64, wr_new, wr_new0, ok_if, ok_ifn, iadV_sl, makeV_int, decT, decF, over_at, *]) | (with_reducible refine Gd_split (fun hc => ?_) (fun hc => ?_) <;> (have hc2 := hc; try simp at hc2)) | (with_reducible refine Br_split (fun hc => ?_) (fun hc => ?_) <;> (have hc2 := hc; try simp at hc2)) | (with_reducible refine GdT_split (fun hc => ?_) (fun hc => ?_) <;> (have hc2 := hc; try simp at hc2)) | (with_reducible refine WT_alt ?_ ?_) | omega)
  refine ci Na0 Ea0 K6.1 fun r0 pr0 g7 hr0 Er0  => ?_
  have Br0 := hlo0 Er0
  have K8 := K6.trans hr0.kept
  have Q8 := hr0.kept.1
  have P8 := K8.1
  have Zr0 := hr0.lvs_lt
  have Nr0 := hr0.base K6
  replace Ns0 := Ns0.later hr0.kept
  replace Na0 := Na0.later hr0.kept
  repeat' (first | (simp (disch := first | omega | assumption | (simp only [List.length_set]; omega) | (simp [*] <;> fail) | assumption) [-Bool.decide_and, -Bool.decide_or, -Bool.not_and, -Bool.not_or, toNat_pred, toNat_succ, wrap64, wr_new, wr_new0, ok_if, ok_ifn, iadV_sl, makeV_int, decT, decF, over_at, *, c_eqFloat32SS Nr0.arr Nr0.ins Ns0.arr Ns0.ins (Es0.trans Er0.symm)]) | (with_reducible refine Gd_split (fun hc => ?_) (fun hc => ?_) <;> (have hc2 := hc; try simp at hc2)) | (with_reducible refine Br_split (fun hc => ?_) (fun hc => ?_) <;> (have hc2 := hc; try simp at hc2)) | (with_reducible refine GdT_split (fun hc => ?_) (fun hc => ?_) <;> (have hc2 := hc; try simp at hc2)) | (with_reducible refine WT_alt ?_ ?_) | omega)
  refine c_toEffectS (hAl.kept K8) (hIl.kept K8) hnl hml K8.1 fun y0 g9 py0 hy0 Ey0 => ?_
  have By0 : py0.length ≤ 16777216 ∧ szD Eff.nums py0 ≤ 16777216 := ⟨by rw [map_len Ey0]; omega, by rw [szD_map Ey0]; omega⟩
  have K10 := K8.trans hy0.kept
  have Q10 := hy0.kept.1
  have P10 := K10.1
  have Zy0 := hy0.lvs_lt
  have Ny0 := hy0.base K8
  replace Ns0 := Ns0.later hy0.kept
  replace Na0 := Na0.later hy0.kept
  replace Nr0 := Nr0.later hy0.kept
  repeat' (first | (simp (disch := first | omega | assumption | (simp only [List.length_set]; omega) | (simp [*] <;> fail) | assumption) [-Bool.decide_and, -Bool.decide_or, -Bool.not_and, -Bool.not_or, toNat_pred, toNat_succ, wrap64, wr_new, wr_new0, ok_if, ok_ifn, iadV_sl, makeV_int, decT, decF, over_at, *, c_eqEffectS Na0.arr Na0.ins Ny0.arr Ny0.ins (Ey0.trans Ea0.symm)]) | (with_reducible refine Gd_split (fun hc => ?_) (fun hc => ?_) <;> (have hc2 := hc; try simp at hc2)) | (with_reducible refine Br_split (fun hc => ?_) (fun hc => ?_) <;> (have hc2 := hc; try simp at hc2)) | (with_reducible refine GdT_split (fun hc => ?_) (fun hc => ?_) <;> (have hc2 := hc; try simp at hc2)) | (with_reducible refine WT_alt ?_ ?_) | omega)
  refine c_markEffectS Na0 (by omega) (by have := Ba0; rw [kAt_all]; omega) Ba0.1 Ba0.2 (Nat.le_refl _) fun g11 hM11 hB11 => ?_
  have O11 : ∀ s ∈ lvs a0 pa0, s ≠ .nils → h.length ≤ s.id := fun s hs q => by have := Za0 s hs q; omega
  have Q11 := hB11.len
  have K11 := hB11.kept K10 O11
  replace Ns0 := hB11.newD Ns0 O11 (fun s hs t ht q1 q2 e => by have := Za0 s hs q1; have := Zs0 t ht q2; omega)
  replace Nr0 := hB11.newD Nr0 O11 (fun s hs t ht q1 q2 e => by have := Za0 s hs q1; have := Zr0 t ht q2; omega)
  have V11 : 1 ≤ kAt Eff.nums 2 1 pa0 pa0.length ∧ kAt Eff.nums 2 1 pa0 pa0.length ≤ 1 + 2 * 16777216 + 16777216 := by have := Ba0; rw [kAt_all]; omega
  replace Na0 := hM11
  repeat' (first | (simp (disch := first | omega | assumption | (simp only [List.length_set]; omega) | (simp [*] <;> fail) | assumption) [-Bool.decide_and, -Bool.decide_or, -Bool.not_and, -Bool.not_or, toNat_pred, toNat_succ, wrap64, wr_new, wr_new0, ok_if, ok_ifn, iadV_sl, makeV_int, decT, decF, over_at, *, c_eqFloat32SS Nr0.arr Nr0.ins Ns0.arr Ns0.ins (Es0.trans Er0.symm)]) | (with_reducible refine Gd_split (fun hc => ?_) (fun hc => ?_) <;> (have hc2 := hc; try simp at hc2)) | (with_reducible refine Br_split (fun hc => ?_) (fun hc => ?_) <;> (have hc2 := hc; try simp at hc2)) | (with_reducible refine GdT_split (fun hc => ?_) (fun hc => ?_) <;> (have hc2 := hc; try simp at hc2)) | (with_reducible refine WT_alt ?_ ?_) | omega)
  refine c_markFloat32SS Nr0 (by omega) (by have := Br0; rw [kAt_all]; omega) Br0.1 Br0.2 (Nat.le_refl _) fun g12 hM12 hB12 => ?_
  have O12 : ∀ s ∈ lvs r0 pr0, s ≠ .nils → h.length ≤ s.id := fun s hs q => by have := Zr0 s hs q; omega
  have Q12 := hB12.len
  have K12 := hB12.kept K11 O12
  replace Ns0 := hB12.newD Ns0 O12 (fun s hs t ht q1 q2 e => by have := Zr0 s hs q1; have := Zs0 t ht q2; omega)
  have V12 : 1 ≤ kAt ssRows 0 1 pr0 pr0.length ∧ kAt ssRows 0 1 pr0 pr0.length ≤ 1 + 0 * 16777216 + 16777216 := by have := Br0; rw [kAt_all]; omega
  replace Nr0 := hM12
  rw [← lvs_mkD (mk := mkSS) (ro := ssRows) (c := 0) (k := 1)] at Zr0
  repeat' (first | (simp (disch := first | omega | assumption | (simp only [List.length_set]; omega) | (simp [*] <;> fail) | assumption) [-Bool.decide_and, -Bool.decide_or, -Bool.not_and, -Bool.not_or, toNat_pred, toNat_succ, wrap64, wr_new, wr_new0, ok_if, ok_ifn, iadV_sl, makeV_int, decT, decF, over_at, *, c_heldFloat32SS Nr0.arr Nr0.ins (by omega) (by have := Br0; rw [kAt_all]; omega) Br0.1 Br0.2]) | (with_reducible refine Gd_split (fun hc => ?_) (fun hc => ?_) <;> (have hc2 := hc; try simp at hc2)) | (with_reducible refine Br_split (fun hc => ?_) (fun hc => ?_) <;> (have hc2 := hc; try simp at hc2)) | (with_reducible refine GdT_split (fun hc => ?_) (fun hc => ?_) <;> (have hc2 := hc; try simp at hc2)) | (with_reducible refine WT_alt ?_ ?_) | omega)
  refine c_toEffectS (hAl.kept K12) (hIl.kept K12) hnl hml K12.1 fun w0 g13 pw0 hw0 Ew0 => ?_
  have Bw0 : pw0.length ≤ 16777216 ∧ szD Eff.nums pw0 ≤ 16777216 := ⟨by rw [map_len Ew0]; omega, by rw [szD_map Ew0]; omega⟩
  have K14 := K12.trans hw0.kept
  have Q14 := hw0.kept.1
  have P14 := K14.1
  have Zw0 := hw0.lvs_lt
  have Nw0 := hw0.base K12
  replace Ns0 := Ns0.later hw0.kept
  replace Nr0 := Nr0.later hw0.kept
  repeat' (first | (simp (disch := first | omega | assumption | (simp only [List.length_set]; omega) | (simp [*] <;> fail) | assumption) [-Bool.decide_and, -Bool.decide_or, -Bool.not_and, -Bool.not_or, toNat_pred, toNat_succ, wrap64, wr_new, wr_new0, ok_if, ok_ifn, iadV_sl, makeV_int, decT, decF, over_at, *]) | (with_reducible refine Gd_split (fun hc => ?_) (fun hc => ?_) <;> (have hc2 := hc; try simp at hc2)) | (with_reducible refine Br_split (fun hc => ?_) (fun hc => ?_) <;> (have hc2 := hc; try simp at hc2)) | (with_reducible refine GdT_split (fun hc => ?_) (fun hc => ?_) <;> (have hc2 := hc; try simp at hc2)) | (with_reducible refine WT_alt ?_ ?_) | omega)
  refine ci Nw0 Ew0 K14.1 fun u0 pu0 g15 hu0 Eu0  => ?_
  have Bu0 := hlo0 Eu0
  have K16 := K14.trans hu0.kept
  have Q16 := hu0.kept.1
  have P16 := K16.1
  have Zu0 := hu0.lvs_lt
  have Nu0 := hu0.base K14
  replace Ns0 := Ns0.later hu0.kept
  replace Nr0 := Nr0.later hu0.kept
  replace Nw0 := Nw0.later hu0.kept
  repeat' (first | (simp (disch := first | omega | assumption | (simp only [List.length_set]; omega) | (simp [*] <;> fail) | assumption) [-Bool.decide_and, -Bool.decide_or, -Bool.not_and, -Bool.not_or, toNat_pred, toNat_succ, wrap64, wr_new, wr_new0, ok_if, ok_ifn, iadV_sl, makeV_int, decT, decF, over_at, *, c_eqFloat32SS Nu0.arr Nu0.ins Ns0.arr Ns0.ins (Es0.trans Eu0.symm), c_heldFloat32SS Nr0.arr Nr0.ins (by omega) (by have := Br0; rw [kAt_all]; omega) Br0.1 Br0.2]) | (with_reducible refine Gd_split (fun hc => ?_) (fun hc => ?_) <;> (have hc2 := hc; try simp at hc2)) | (with_reducible refine Br_split (fun hc => ?_) (fun hc => ?_) <;> (have hc2 := hc; try simp at hc2)) | (with_reducible refine GdT_split (fun hc => ?_) (fun hc => ?_) <;> (have hc2 := hc; try simp at hc2)) | (with_reducible refine WT_alt ?_ ?_) | omega)
end Go.E
namespace Go.E.NewState
open Go Go.E
def pure : FuncId → Bool := fun f => List.elem f [3, 4, 5, 6, 7, 8, 9, 10, 11, 12, 13, 14, 16, 17, 20, 21, 23, 26, 30, 31, 34, 35, 36, 37, 38, 39, 41, 42, 43, 44, 47, 48, 49, 53, 54, 58, 61, 63, 65, 68, 69, 71, 72, 73, 78, 79, 82, 85, 86, 88, 89, 91, 92, 93, 94, 95, 96, 97, 98, 99, 100, 101, 104, 106, 109, 110, 111, 112, 113, 115, 116, 117, 118, 120, 122, 123, 126, 128, 129, 130, 132, 133, 134, 135, 136, 137, 143, 144, 146, 147, 149, 150, 151, 152, 153, 154, 155, 156, 157, 160, 161, 162, 164, 165, 166, 168, 169, 170, 171, 172, 173, 174, 176, 177, 178, 179, 180, 181, 182, 183, 184, 185, 186, 187, 188, 189, 190, 191, 192, 195, 198, 200, 201, 202, 203, 204, 205, 206, 207, 208, 209, 210, 211, 212, 213, 215, 216, 217, 218, 219, 220, 222, 223, 224, 225, 227, 229, 231, 238, 240, 241]
def funs : List (Nat × LFn) := [(93, L93), (130, L130), (150, L150), (163, L163), (91, L91), (117, L117), (18, L18), (20, L20), (22, L22), (23, L23), (42, L42), (45, L45), (48, L48), (116, L116), (119, L119), (122, L122), (43, L43), (46, L46), (49, L49), (52, L52), (53, L53), (59, L59), (61, L61), (71, L71), (120, L120), (123, L123), (143, L143), (144, L144), (165, L165), (166, L166), (176, L176), (186, L186), (205, L205), (44, L44), (47, L47), (118, L118), (121, L121), (139, L139), (140, L140), (66, L66), (67, L67), (11, L11)]
def Sy : Sys := sysOf funs
theorem lfn93 : lFn Go.Proofs.Try.prog pure Go.Proofs.Try.f93 = some L93 := by kernel_rfl
theorem lfn130 : lFn Go.Proofs.Try.prog pure Go.Proofs.Try.f130 = some L130 := by kernel_rfl
theorem lfn150 : lFn Go.Proofs.Try.prog pure Go.Proofs.Try.f150 = some L150 := by kernel_rfl
theorem lfn163 : lFn Go.Proofs.Try.prog pure Go.Proofs.Try.f163 = some L163 := by kernel_rfl
theorem lfn91 : lFn Go.Proofs.Try.prog pure Go.Proofs.Try.f91 = some L91 := by kernel_rfl
theorem lfn117 : lFn Go.Proofs.Try.prog pure Go.Proofs.Try.f117 = some L117 := by kernel_rfl
theorem lfn18 : lFn Go.Proofs.Try.prog pure Go.Proofs.Try.f18 = some L18 := by kernel_rfl
theorem lfn20 : lFn Go.Proofs.Try.prog pure Go.Proofs.Try.f20 = some L20 := by kernel_rfl
theorem lfn22 : lFn Go.Proofs.Try.prog pure Go.Proofs.Try.f22 = some L22 := by kernel_rfl
theorem lfn23 : lFn Go.Proofs.Try.prog pure Go.Proofs.Try.f23 = some L23 := by kernel_rfl
theorem lfn42 : lFn Go.Proofs.Try.prog pure Go.Proofs.Try.f42 = some L42 := by kernel_rfl
theorem lfn45 : lFn Go.Proofs.Try.prog pure Go.Proofs.Try.f45 = some L45 := by kernel_rfl
theorem lfn48 : lFn Go.Proofs.Try.prog pure Go.Proofs.Try.f48 = some L48 := by kernel_rfl
theorem lfn116 : lFn Go.Proofs.Try.prog pure Go.Proofs.Try.f116 = some L116 := by kernel_rfl
theorem lfn119 : lFn Go.Proofs.Try.prog pure Go.Proofs.Try.f119 = some L119 := by kernel_rfl
theorem lfn122 : lFn Go.Proofs.Try.prog pure Go.Proofs.Try.f122 = some L122 := by kernel_rfl
theorem lfn43 : lFn Go.Proofs.Try.prog pure Go.Proofs.Try.f43 = some L43 := by kernel_rfl
theorem lfn46 : lFn Go.Proofs.Try.prog pure Go.Proofs.Try.f46 = some L46 := by kernel_rfl
theorem lfn49 : lFn Go.Proofs.Try.prog pure Go.Proofs.Try.f49 = some L49 := by kernel_rfl
theorem lfn52 : lFn Go.Proofs.Try.prog pure Go.Proofs.Try.f52 = some L52 := by kernel_rfl
theorem lfn53 : lFn Go.Proofs.Try.prog pure Go.Proofs.Try.f53 = some L53 := by kernel_rfl
theorem lfn59 : lFn Go.Proofs.Try.prog pure Go.Proofs.Try.f59 = some L59 := by kernel_rfl
theorem lfn61 : lFn Go.Proofs.Try.prog pure Go.Proofs.Try.f61 = some L61 := by kernel_rfl
theorem lfn71 : lFn Go.Proofs.Try.prog pure Go.Proofs.Try.f71 = some L71 := by kernel_rfl
theorem lfn120 : lFn Go.Proofs.Try.prog pure Go.Proofs.Try.f120 = some L120 := by kernel_rfl
theorem lfn123 : lFn Go.Proofs.Try.prog pure Go.Proofs.Try.f123 = some L123 := by kernel_rfl
theorem lfn143 : lFn Go.Proofs.Try.prog pure Go.Proofs.Try.f143 = some L143 := by kernel_rfl
theorem lfn144 : lFn Go.Proofs.Try.prog pure Go.Proofs.Try.f144 = some L144 := by kernel_rfl
theorem lfn165 : lFn Go.Proofs.Try.prog pure Go.Proofs.Try.f165 = some L165 := by kernel_rfl
theorem lfn166 : lFn Go.Proofs.Try.prog pure Go.Proofs.Try.f166 = some L166 := by kernel_rfl
theorem lfn176 : lFn Go.Proofs.Try.prog pure Go.Proofs.Try.f176 = some L176 := by kernel_rfl
theorem lfn186 : lFn Go.Proofs.Try.prog pure Go.Proofs.Try.f186 = some L186 := by kernel_rfl
theorem lfn205 : lFn Go.Proofs.Try.prog pure Go.Proofs.Try.f205 = some L205 := by kernel_rfl
theorem lfn44 : lFn Go.Proofs.Try.prog pure Go.Proofs.Try.f44 = some L44 := by kernel_rfl
theorem lfn47 : lFn Go.Proofs.Try.prog pure Go.Proofs.Try.f47 = some L47 := by kernel_rfl
theorem lfn118 : lFn Go.Proofs.Try.prog pure Go.Proofs.Try.f118 = some L118 := by kernel_rfl
theorem lfn121 : lFn Go.Proofs.Try.prog pure Go.Proofs.Try.f121 = some L121 := by kernel_rfl
theorem lfn139 : lFn Go.Proofs.Try.prog pure Go.Proofs.Try.f139 = some L139 := by kernel_rfl
theorem lfn140 : lFn Go.Proofs.Try.prog pure Go.Proofs.Try.f140 = some L140 := by kernel_rfl
theorem lfn66 : lFn Go.Proofs.Try.prog pure Go.Proofs.Try.f66 = some L66 := by kernel_rfl
theorem lfn67 : lFn Go.Proofs.Try.prog pure Go.Proofs.Try.f67 = some L67 := by kernel_rfl
theorem lfn11 : lFn Go.Proofs.Try.prog pure Go.Proofs.Try.f11 = some L11 := by kernel_rfl
instance : HasA Sy := { f93 := rfl, f130 := rfl, f150 := rfl }
instance : HasN Sy := { f163 := rfl }
instance : HasSame Sy := { f91 := rfl }
instance : HasSz Sy := { f117 := rfl }
instance : HasF Sy := { f18 := rfl, f20 := rfl, f22 := rfl, f23 := rfl }
instance : HasDE Sy := { f42 := rfl, f45 := rfl, f48 := rfl, f116 := rfl, f119 := rfl, f122 := rfl }
instance : HasDSS Sy := { f43 := rfl, f46 := rfl, f49 := rfl }
instance : HasKE Sy := { f52 := rfl, f53 := rfl }
instance : HasKSS Sy := { f59 := rfl, f61 := rfl }
instance : HasEf Sy := { f71 := rfl, f120 := rfl, f123 := rfl, f143 := rfl, f144 := rfl, f165 := rfl, f166 := rfl, f176 := rfl, f186 := rfl, f205 := rfl }
instance : HasIs Sy := { f44 := rfl, f47 := rfl, f118 := rfl, f121 := rfl }
instance : HasNs Sy := { f139 := rfl, f140 := rfl }
instance : HasNw Sy := { f66 := rfl, f67 := rfl }
instance : HasLNewState Sy := { f11 := rfl }
theorem sysOK {B : Nat} {w0 : World} : SysOK Go.Proofs.Try.prog pure Sy B w0 := SysOK.of (by
  intro p hp
  simp only [funs, List.mem_cons, List.not_mem_nil, or_false] at hp
  rcases hp with rfl | rfl | rfl | rfl | rfl | rfl | rfl | rfl | rfl | rfl | rfl | rfl | rfl | rfl | rfl | rfl | rfl | rfl | rfl | rfl | rfl | rfl | rfl | rfl | rfl | rfl | rfl | rfl | rfl | rfl | rfl | rfl | rfl | rfl | rfl | rfl | rfl | rfl | rfl | rfl | rfl | rfl
  · exact ⟨_, Go.Proofs.Try.func93, lfn93⟩
  · exact ⟨_, Go.Proofs.Try.func130, lfn130⟩
  · exact ⟨_, Go.Proofs.Try.func150, lfn150⟩
  · exact ⟨_, Go.Proofs.Try.func163, lfn163⟩
  · exact ⟨_, Go.Proofs.Try.func91, lfn91⟩
  · exact ⟨_, Go.Proofs.Try.func117, lfn117⟩
  · exact ⟨_, Go.Proofs.Try.func18, lfn18⟩
  · exact ⟨_, Go.Proofs.Try.func20, lfn20⟩
  · exact ⟨_, Go.Proofs.Try.func22, lfn22⟩
  · exact ⟨_, Go.Proofs.Try.func23, lfn23⟩
  · exact ⟨_, Go.Proofs.Try.func42, lfn42⟩
  · exact ⟨_, Go.Proofs.Try.func45, lfn45⟩
  · exact ⟨_, Go.Proofs.Try.func48, lfn48⟩
  · exact ⟨_, Go.Proofs.Try.func116, lfn116⟩
  · exact ⟨_, Go.Proofs.Try.func119, lfn119⟩
  · exact ⟨_, Go.Proofs.Try.func122, lfn122⟩
  · exact ⟨_, Go.Proofs.Try.func43, lfn43⟩
  · exact ⟨_, Go.Proofs.Try.func46, lfn46⟩
  · exact ⟨_, Go.Proofs.Try.func49, lfn49⟩
  · exact ⟨_, Go.Proofs.Try.func52, lfn52⟩
  · exact ⟨_, Go.Proofs.Try.func53, lfn53⟩
  · exact ⟨_, Go.Proofs.Try.func59, lfn59⟩
  · exact ⟨_, Go.Proofs.Try.func61, lfn61⟩
  · exact ⟨_, Go.Proofs.Try.func71, lfn71⟩
  · exact ⟨_, Go.Proofs.Try.func120, lfn120⟩
  · exact ⟨_, Go.Proofs.Try.func123, lfn123⟩
  · exact ⟨_, Go.Proofs.Try.func143, lfn143⟩
  · exact ⟨_, Go.Proofs.Try.func144, lfn144⟩
  · exact ⟨_, Go.Proofs.Try.func165, lfn165⟩
  · exact ⟨_, Go.Proofs.Try.func166, lfn166⟩
  · exact ⟨_, Go.Proofs.Try.func176, lfn176⟩
  · exact ⟨_, Go.Proofs.Try.func186, lfn186⟩
  · exact ⟨_, Go.Proofs.Try.func205, lfn205⟩
  · exact ⟨_, Go.Proofs.Try.func44, lfn44⟩
  · exact ⟨_, Go.Proofs.Try.func47, lfn47⟩
  · exact ⟨_, Go.Proofs.Try.func118, lfn118⟩
  · exact ⟨_, Go.Proofs.Try.func121, lfn121⟩
  · exact ⟨_, Go.Proofs.Try.func139, lfn139⟩
  · exact ⟨_, Go.Proofs.Try.func140, lfn140⟩
  · exact ⟨_, Go.Proofs.Try.func66, lfn66⟩
  · exact ⟨_, Go.Proofs.Try.func67, lfn67⟩
  · exact ⟨_, Go.Proofs.Try.func11, lfn11⟩)

end Go.E.NewState
