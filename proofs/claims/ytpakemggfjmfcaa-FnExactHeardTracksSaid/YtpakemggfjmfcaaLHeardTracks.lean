/- The law of HeardTracks: what the evaluator finds. -/
import Derived.Test.YtpakemggfjmfcaaMHd
import Derived.Test.YtpakemggfjmfcaaMDk
import Derived.Test.YtpakemggfjmfcaaMDs
import Derived.Test.YtpakemggfjmfcaaProg
set_option linter.unusedVariables false
set_option linter.unusedSimpArgs false
namespace Go.E
open Go
def L5 : LFn := ⟨1, (.seq (.reg [⟨(.some 2), (.mv (.c (.lf (.bool false)))), none⟩])
 (.seq (.reg [⟨(.some 3), (.mv (.c (.lf (.int .i64 1048576)))), none⟩])
 (.seq (.reg [⟨(.some 14), (.mv (.t 0)), none⟩, ⟨(.some 15), (.mv (.t 3)), none⟩, ⟨(.some 16), (.call true 26 [(.t 14), (.t 15)]), none⟩, ⟨(.some 3), (.mv (.t 16)), none⟩])
 (.seq (.seq (.reg [⟨(.some 17), (.mv (.t 3)), none⟩, ⟨(.some 18), (.bin .lss (.t 17) (.c (.lf (.int .i64 0)))), none⟩])
 (.cond (.t 18) (.seq (.reg [⟨(.some 2), (.mv (.c (.lf (.bool true)))), none⟩])
 .ret) .skip))
 (.seq (.reg [⟨(.some 20), (.mv (.t 0)), none⟩, ⟨(.some 21), (.call false 28 [(.t 20)]), none⟩, ⟨(.some 22), (.call false 27 [(.t 21)]), none⟩, ⟨(.some 19), (.mv (.t 22)), none⟩, ⟨(.some 23), (.ext (.t 19) 0), none⟩, ⟨(.some 24), (.ext (.t 19) 1), none⟩, ⟨(.some 4), (.mv (.t 23)), none⟩, ⟨(.some 5), (.mv (.t 24)), none⟩])
 (.seq (.reg [⟨(.some 25), (.mv (.t 0)), none⟩, ⟨(.some 26), (.call false 28 [(.t 25)]), none⟩, ⟨(.some 6), (.mv (.t 26)), none⟩])
 (.seq (.reg [⟨(.some 28), (.mv (.t 6)), none⟩, ⟨(.some 29), (.call false 29 [(.t 28)]), none⟩, ⟨(.some 27), (.mv (.t 29)), none⟩, ⟨(.some 30), (.ext (.t 27) 0), none⟩, ⟨(.some 31), (.ext (.t 27) 1), none⟩, ⟨(.some 7), (.mv (.t 30)), none⟩, ⟨(.some 8), (.mv (.t 31)), none⟩])
 (.seq (.seq (.reg [⟨(.some 32), (.mv (.t 7)), none⟩, ⟨(.some 33), (.mv (.t 4)), none⟩, ⟨(.some 34), (.call true 30 [(.t 32), (.t 33)]), none⟩, ⟨(.some 35), (.una .not (.t 34)), none⟩, ⟨(.some 36), (.mv (.t 35)), none⟩, ⟨(.some 37), (.mv (.t 8)), (.some (36, false))⟩, ⟨(.some 38), (.mv (.t 5)), (.some (36, false))⟩, ⟨(.some 39), (.beq true (.t 37) (.t 38)), (.some (36, false))⟩, ⟨(.some 40), (.pick (.t 36) (.c (.lf (.bool true))) (.t 39)), none⟩])
 (.cond (.t 40) (.seq (.reg [⟨(.some 2), (.mv (.c (.lf (.bool false)))), none⟩])
 .ret) .skip))
 (.seq (.seq (.reg [⟨(.some 41), (.mv (.t 6)), none⟩, ⟨(.some 42), (.mv (.t 0)), none⟩, ⟨(.some 43), (.call false 28 [(.t 42)]), none⟩, ⟨(.some 44), (.call true 31 [(.t 41), (.t 43)]), none⟩, ⟨(.some 45), (.una .not (.t 44)), none⟩])
 (.cond (.t 45) (.seq (.reg [⟨(.some 2), (.mv (.c (.lf (.bool false)))), none⟩])
 .ret) .skip))
 (.seq (.reg [⟨(.some 9), (.mv (.c (.lf (.int .i64 1)))), none⟩])
 (.seq (.reg [⟨(.some 46), (.mv (.t 6)), none⟩, ⟨(.some 47), (.mv (.t 9)), none⟩, ⟨(.some 48), (.call false 32 [(.t 46), (.t 47)]), none⟩, ⟨(.some 9), (.mv (.t 48)), none⟩])
 (.seq (.seq (.reg [⟨(.some 49), (.mv (.t 9)), none⟩, ⟨(.some 50), (.bin .lss (.t 49) (.c (.lf (.int .i64 0)))), none⟩, ⟨(.some 51), (.mv (.t 50)), none⟩, ⟨(.some 52), (.mv (.t 7)), (.some (51, false))⟩, ⟨(.some 53), (.mv (.t 4)), (.some (51, false))⟩, ⟨(.some 54), (.call true 30 [(.t 52), (.t 53)]), (.some (51, false))⟩, ⟨(.some 55), (.una .not (.t 54)), (.some (51, false))⟩, ⟨(.some 56), (.pick (.t 51) (.c (.lf (.bool true))) (.t 55)), none⟩, ⟨(.some 57), (.mv (.t 56)), none⟩, ⟨(.some 58), (.mv (.t 8)), (.some (57, false))⟩, ⟨(.some 59), (.mv (.t 5)), (.some (57, false))⟩, ⟨(.some 60), (.beq true (.t 58) (.t 59)), (.some (57, false))⟩, ⟨(.some 61), (.pick (.t 57) (.c (.lf (.bool true))) (.t 60)), none⟩])
 (.cond (.t 61) (.seq (.reg [⟨(.some 2), (.mv (.c (.lf (.bool false)))), none⟩])
 .ret) .skip))
 (.seq (.reg [⟨(.some 10), (.mv (.c (.lf (.int .i64 1)))), none⟩])
 (.seq (.reg [⟨(.some 62), (.mv (.t 7)), none⟩, ⟨(.some 63), (.mv (.t 10)), none⟩, ⟨(.some 64), (.call false 33 [(.t 62), (.t 63)]), none⟩, ⟨(.some 10), (.mv (.t 64)), none⟩])
 (.seq (.reg [⟨(.some 11), (.mv (.c (.lf (.int .i64 1)))), none⟩])
 (.seq (.reg [⟨(.some 65), (.mv (.t 7)), none⟩, ⟨(.some 66), (.mv (.t 11)), none⟩, ⟨(.some 67), (.call true 34 [(.t 65), (.t 66)]), none⟩, ⟨(.some 11), (.mv (.t 67)), none⟩])
 (.seq (.seq (.reg [⟨(.some 68), (.mv (.t 11)), none⟩, ⟨(.some 69), (.bin .lss (.t 68) (.c (.lf (.int .i64 0)))), none⟩])
 (.cond (.t 69) (.seq (.reg [⟨(.some 2), (.mv (.c (.lf (.bool false)))), none⟩])
 .ret) .skip))
 (.seq (.seq (.reg [⟨(.some 70), (.mv (.t 11)), none⟩, ⟨(.some 71), (.mv (.t 10)), none⟩, ⟨(.some 72), (.bin .neq (.t 70) (.t 71)), none⟩])
 (.cond (.t 72) (.seq (.reg [⟨(.some 2), (.mv (.c (.lf (.bool false)))), none⟩])
 .ret) .skip))
 (.seq (.reg [⟨(.some 74), (.mv (.t 0)), none⟩, ⟨(.some 75), (.call false 28 [(.t 74)]), none⟩, ⟨(.some 76), (.call false 29 [(.t 75)]), none⟩, ⟨(.some 73), (.mv (.t 76)), none⟩, ⟨(.some 77), (.ext (.t 73) 0), none⟩, ⟨(.some 78), (.ext (.t 73) 1), none⟩, ⟨(.some 12), (.mv (.t 77)), none⟩, ⟨(.some 13), (.mv (.t 78)), none⟩])
 (.seq (.seq (.reg [⟨(.some 79), (.mv (.t 12)), none⟩, ⟨(.some 80), (.mv (.t 4)), none⟩, ⟨(.some 81), (.call true 30 [(.t 79), (.t 80)]), none⟩, ⟨(.some 82), (.una .not (.t 81)), none⟩, ⟨(.some 83), (.mv (.t 82)), none⟩, ⟨(.some 84), (.mv (.t 13)), (.some (83, false))⟩, ⟨(.some 85), (.mv (.t 5)), (.some (83, false))⟩, ⟨(.some 86), (.beq true (.t 84) (.t 85)), (.some (83, false))⟩, ⟨(.some 87), (.pick (.t 83) (.c (.lf (.bool true))) (.t 86)), none⟩])
 (.cond (.t 87) (.seq (.reg [⟨(.some 2), (.mv (.c (.lf (.bool false)))), none⟩])
 .ret) .skip))
 (.seq (.reg [⟨(.some 11), (.mv (.c (.lf (.int .i64 1)))), none⟩])
 (.seq (.reg [⟨(.some 88), (.mv (.t 7)), none⟩, ⟨(.some 89), (.mv (.t 11)), none⟩, ⟨(.some 90), (.call true 34 [(.t 88), (.t 89)]), none⟩, ⟨(.some 11), (.mv (.t 90)), none⟩])
 (.seq (.seq (.reg [⟨(.some 91), (.mv (.t 11)), none⟩, ⟨(.some 92), (.bin .lss (.t 91) (.c (.lf (.int .i64 0)))), none⟩])
 (.cond (.t 92) (.seq (.reg [⟨(.some 2), (.mv (.c (.lf (.bool false)))), none⟩])
 .ret) .skip))
 (.seq (.seq (.reg [⟨(.some 93), (.mv (.t 11)), none⟩, ⟨(.some 94), (.mv (.t 10)), none⟩, ⟨(.some 95), (.bin .neq (.t 93) (.t 94)), none⟩])
 (.cond (.t 95) (.seq (.reg [⟨(.some 2), (.mv (.c (.lf (.bool false)))), none⟩])
 .ret) .skip))
 (.seq (.reg [⟨(.some 2), (.mv (.c (.lf (.bool true)))), none⟩])
 .ret))))))))))))))))))))))))), [(.tmp 2)]⟩
class HasLHeardTracks (S : Sys) : Prop extends HasHt S, HasDT S, HasKT S, HasI S where
  f5 : S.fs 5 = some L5
set_option maxRecDepth 20000 in
set_option maxHeartbeats 4000000 in
theorem lawHeardTracks {S : Sys} [HasLHeardTracks S] : LawHolds S 5 [(false, .sl 5 trkShp)] := by
  intro h cs hcs
  obtain ⟨c0, _, rfl, ⟨ls0, rfl, l, rows, rfl, hAl, hrows⟩, rfl⟩ := hcs
  obtain ⟨ps, rfl, hIl⟩ := trks_of hrows
  clear hrows
  have cs : ∀ {g a0 p0 K}, NewD h g a0 142 5 Trk.cells Trk.xs 22 p0 → p0.map (·.1) = ps.map (·.1) → h.length ≤ g.length → (∀ o g', New g g' o 2 1 ((hdR (ps.map (·.1))).map il) → K (.tup [.lf o, .lf (.bool (decide (areTrk (ps.map (·.1)))))]) g') → CallT S false 27 [.lf a0] g h.length K := fun h0 e0 hl hk => c_specHeardTracks h0.arr h0.ins hl (fun o g hN => by rw [e0] at hN ⊢; exact hk o g hN)
  have ci : ∀ {g a0 p0 K}, NewD h g a0 142 5 Trk.cells Trk.xs 22 p0 → p0.map (·.1) = ps.map (·.1) → h.length ≤ g.length → (∀ o g', New g g' o 2 1 ((hdR (ps.map (·.1))).map il) → K (.tup [.lf o, .lf (.bool (decide (areTrk (ps.map (·.1)))))]) g') → CallT S false 29 [.lf a0] g h.length K := fun h0 e0 hl hk => c_implHeardTracks h0.arr h0.ins hl (fun o g hN => by rw [e0] at hN ⊢; exact hk o g hN)
  have hsm := hdR_len (ts := ps.map (·.1))
  generalize hdR (ps.map (·.1)) = y at *
  generalize decide (areTrk (ps.map (·.1))) = ok at *
  refine law_of (F := L5) HasLHeardTracks.f5 rfl ?_
  have hs := fun K lim => c_szTrackS (S := S) (K := K) (lim := lim) hAl hIl (b := 1048576) (by decide) (by decide)
  by_cases hsz : (1048576 : Int) < ps.length + szD Trk.xs ps
  · rw [if_pos hsz] at hs
    unfold L5
    dsimp only []
    repeat' (first | (simp (disch := first | omega | assumption | (simp only [List.length_set]; omega) | (simp [*] <;> fail) | assumption) [-Bool.decide_and, -Bool.decide_or, -Bool.not_and, -Bool.not_or, toNat_pred, toNat_succ, wrap64, wr_new, wr_new0, ok_if, ok_ifn, iadV_sl, makeV_int, decT, decF, over_at, *]) | (with_reducible refine Gd_split (fun hc => ?_) (fun hc => ?_) <;> (have hc2 := hc; try simp at hc2)) | (with_reducible refine Br_split (fun hc => ?_) (fun hc => ?_) <;> (have hc2 := hc; try simp at hc2)) | (with_reducible refine GdT_split (fun hc => ?_) (fun hc => ?_) <;> (have hc2 := hc; try simp at hc2)) | (with_reducible refine WT_alt ?_ ?_) | omega)
  rw [if_neg hsz] at hs
  unfold L5
  dsimp only []
  repeat' (first | (simp (disch := first | omega | assumption | (simp only [List.length_set]; omega) | (simp [*] <;> fail) | assumption) [-Bool.decide_and, -Bool.decide_or, -Bool.not_and, -Bool.not_or, toNat_pred, toNat_succ, wrap64, wr_new, wr_new0, ok_if, ok_ifn, iadV_sl, makeV_int, decT, decF, over_at, *]) | (with_reducible refine Gd_split (fun hc => ?_) (fun hc => ?_) <;> (have hc2 := hc; try simp at hc2)) | (with_reducible refine Br_split (fun hc => ?_) (fun hc => ?_) <;> (have hc2 := hc; try simp at hc2)) | (with_reducible refine GdT_split (fun hc => ?_) (fun hc => ?_) <;> (have hc2 := hc; try simp at hc2)) | (with_reducible refine WT_alt ?_ ?_) | omega)
  have hnl : ps.length ≤ 16777216 := by omega
  have hml : szD Trk.xs ps ≤ 16777216 := by omega
  clear hs hsz
  refine c_toTrackS (hAl.kept (Kept.refl h)) (hIl.kept (Kept.refl h)) hnl hml (Kept.refl h).1 fun x0 g1 px0 hx0 Ex0 => ?_
  have Bx0 : px0.length ≤ 16777216 ∧ szD Trk.xs px0 ≤ 16777216 := ⟨by rw [map_len Ex0]; omega, by rw [szD_map Ex0]; omega⟩
  have K2 := (Kept.refl h).trans hx0.kept
  have Q2 := hx0.kept.1
  have P2 := K2.1
  have Zx0 := hx0.lvs_lt
  have Nx0 := hx0.base (Kept.refl h)
  repeat' (first | (simp (disch := first | omega | assumption | (simp only [List.length_set]; omega) | (simp [*] <;> fail) | assumption) [-Bool.decide_and, -Bool.decide_or, -Bool.not_and, -Bool.not_or, toNat_pred, toNat_succ, wrap64, wr_new, wr_new0, ok_if, ok_ifn, iadV_sl, makeV_int, decT, decF, over_at, *]) | (with_reducible refine Gd_split (fun hc => ?_) (fun hc => ?_) <;> (have hc2 := hc; try simp at hc2)) | (with_reducible refine Br_split (fun hc => ?_) (fun hc => ?_) <;> (have hc2 := hc; try simp at hc2)) | (with_reducible refine GdT_split (fun hc => ?_) (fun hc => ?_) <;> (have hc2 := hc; try simp at hc2)) | (with_reducible refine WT_alt ?_ ?_) | omega)
  refine cs Nx0 Ex0 K2.1 fun s0 g3 hs0  => ?_
  have K4 := K2.trans hs0.kept
  have Q4 := hs0.kept.1
  have P4 := K4.1
  have Zs0 := hs0.foot
  have Ns0 := hs0.base K2
  replace Nx0 := Nx0.later hs0.kept
  repeat' (first | (simp (disch := first | omega | assumption | (simp only [List.length_set]; omega) | (simp [*] <;> fail) | assumption) [-Bool.decide_and, -Bool.decide_or, -Bool.not_and, -Bool.not_or, toNat_pred, toNat_succ, wrap64, wr_new, wr_new0, ok_if, ok_ifn, iadV_sl, makeV_int, decT, decF, over_at, *]) | (with_reducible refine Gd_split (fun hc => ?_) (fun hc => ?_) <;> (have hc2 := hc; try simp at hc2)) | (with_reducible refine Br_split (fun hc => ?_) (fun hc => ?_) <;> (have hc2 := hc; try simp at hc2)) | (with_reducible refine GdT_split (fun hc => ?_) (fun hc => ?_) <;> (have hc2 := hc; try simp at hc2)) | (with_reducible refine WT_alt ?_ ?_) | omega)
  refine c_toTrackS (hAl.kept K4) (hIl.kept K4) hnl hml K4.1 fun a0 g5 pa0 ha0 Ea0 => ?_
  have Ba0 : pa0.length ≤ 16777216 ∧ szD Trk.xs pa0 ≤ 16777216 := ⟨by rw [map_len Ea0]; omega, by rw [szD_map Ea0]; omega⟩
  have K6 := K4.trans ha0.kept
  have Q6 := ha0.kept.1
  have P6 := K6.1
  have Za0 := ha0.lvs_lt
  have Na0 := ha0.base K4
  replace Ns0 := Ns0.later ha0.kept
  repeat' (first | (simp (disch := first | omega | assumption | (simp only [List.length_set]; omega) | (simp [*] <;> fail) | assumption) [-Bool.decide_and, -Bool.decide_or, -Bool.not_and, -Bool.not_or, toNat_pred, toNat_succ, wrap64, wr_new, wr_new0, ok_if, ok_ifn, iadV_sl, makeV_int, decT, decF, over_at, *]) | (with_reducible refine Gd_split (fun hc => ?_) (fun hc => ?_) <;> (have hc2 := hc; try simp at hc2)) | (with_reducible refine Br_split (fun hc => ?_) (fun hc => ?_) <;> (have hc2 := hc; try simp at hc2)) | (with_reducible refine GdT_split (fun hc => ?_) (fun hc => ?_) <;> (have hc2 := hc; try simp at hc2)) | (with_reducible refine WT_alt ?_ ?_) | omega)
  refine ci Na0 Ea0 K6.1 fun r0 g7 hr0  => ?_
  have K8 := K6.trans hr0.kept
  have Q8 := hr0.kept.1
  have P8 := K8.1
  have Zr0 := hr0.foot
  have Nr0 := hr0.base K6
  replace Ns0 := Ns0.later hr0.kept
  replace Na0 := Na0.later hr0.kept
  repeat' (first | (simp (disch := first | omega | assumption | (simp only [List.length_set]; omega) | (simp [*] <;> fail) | assumption) [-Bool.decide_and, -Bool.decide_or, -Bool.not_and, -Bool.not_or, toNat_pred, toNat_succ, wrap64, wr_new, wr_new0, ok_if, ok_ifn, iadV_sl, makeV_int, decT, decF, over_at, *, c_eqInt64S Nr0.arr Ns0.arr]) | (with_reducible refine Gd_split (fun hc => ?_) (fun hc => ?_) <;> (have hc2 := hc; try simp at hc2)) | (with_reducible refine Br_split (fun hc => ?_) (fun hc => ?_) <;> (have hc2 := hc; try simp at hc2)) | (with_reducible refine GdT_split (fun hc => ?_) (fun hc => ?_) <;> (have hc2 := hc; try simp at hc2)) | (with_reducible refine WT_alt ?_ ?_) | omega)
  refine c_toTrackS (hAl.kept K8) (hIl.kept K8) hnl hml K8.1 fun y0 g9 py0 hy0 Ey0 => ?_
  have By0 : py0.length ≤ 16777216 ∧ szD Trk.xs py0 ≤ 16777216 := ⟨by rw [map_len Ey0]; omega, by rw [szD_map Ey0]; omega⟩
  have K10 := K8.trans hy0.kept
  have Q10 := hy0.kept.1
  have P10 := K10.1
  have Zy0 := hy0.lvs_lt
  have Ny0 := hy0.base K8
  replace Ns0 := Ns0.later hy0.kept
  replace Na0 := Na0.later hy0.kept
  replace Nr0 := Nr0.later hy0.kept
  repeat' (first | (simp (disch := first | omega | assumption | (simp only [List.length_set]; omega) | (simp [*] <;> fail) | assumption) [-Bool.decide_and, -Bool.decide_or, -Bool.not_and, -Bool.not_or, toNat_pred, toNat_succ, wrap64, wr_new, wr_new0, ok_if, ok_ifn, iadV_sl, makeV_int, decT, decF, over_at, *, c_eqTrackS Na0.arr Na0.ins Ny0.arr Ny0.ins (Ey0.trans Ea0.symm)]) | (with_reducible refine Gd_split (fun hc => ?_) (fun hc => ?_) <;> (have hc2 := hc; try simp at hc2)) | (with_reducible refine Br_split (fun hc => ?_) (fun hc => ?_) <;> (have hc2 := hc; try simp at hc2)) | (with_reducible refine GdT_split (fun hc => ?_) (fun hc => ?_) <;> (have hc2 := hc; try simp at hc2)) | (with_reducible refine WT_alt ?_ ?_) | omega)
  refine c_markTrackS Na0 (by omega) (by have := Ba0; rw [kAt_all (ro := Trk.xs) (c := 4) (k := 1) (ps := pa0)]; omega) Ba0.1 Ba0.2 (Nat.le_refl _) fun g11 hB11 => ?_
  have O11 : ∀ s ∈ lvs a0 pa0, s ≠ .nils → h.length ≤ s.id := fun s hs q => by have := Za0 s hs q; omega
  have Q11 := hB11.len
  have K11 := hB11.kept K10 O11
  replace Ns0 := hB11.new Ns0 O11 (fun s hs => ((fun s hs t ht q1 q2 e => by have := Za0 s hs q1; have := Zs0 t ht q2; omega) : ∀ s ∈ lvs a0 pa0, ∀ t ∈ [s0], Far s t) s hs s0 (List.mem_singleton.2 rfl))
  replace Nr0 := hB11.new Nr0 O11 (fun s hs => ((fun s hs t ht q1 q2 e => by have := Za0 s hs q1; have := Zr0 t ht q2; omega) : ∀ s ∈ lvs a0 pa0, ∀ t ∈ [r0], Far s t) s hs r0 (List.mem_singleton.2 rfl))
  have V11 : 1 ≤ kAt Trk.xs 4 1 pa0 pa0.length ∧ kAt Trk.xs 4 1 pa0 pa0.length ≤ 1 + 4 * 16777216 + 16777216 := by have := Ba0; rw [kAt_all (ro := Trk.xs) (c := 4) (k := 1) (ps := pa0)]; omega
  repeat' (first | (simp (disch := first | omega | assumption | (simp only [List.length_set]; omega) | (simp [*] <;> fail) | assumption) [-Bool.decide_and, -Bool.decide_or, -Bool.not_and, -Bool.not_or, toNat_pred, toNat_succ, wrap64, wr_new, wr_new0, ok_if, ok_ifn, iadV_sl, makeV_int, decT, decF, over_at, *, c_eqInt64S Nr0.arr Ns0.arr]) | (with_reducible refine Gd_split (fun hc => ?_) (fun hc => ?_) <;> (have hc2 := hc; try simp at hc2)) | (with_reducible refine Br_split (fun hc => ?_) (fun hc => ?_) <;> (have hc2 := hc; try simp at hc2)) | (with_reducible refine GdT_split (fun hc => ?_) (fun hc => ?_) <;> (have hc2 := hc; try simp at hc2)) | (with_reducible refine WT_alt ?_ ?_) | omega)
  refine c_markInt64S Nr0 (by simp; omega) (by omega) (by omega) (Nat.le_refl _) fun g12 hM12 hC12 => ?_
  have hB12 := hC12.buts
  have O12 : ∀ s ∈ [r0], s ≠ .nils → h.length ≤ s.id := fun s hs q => by have := Zr0 s hs q; omega
  have Q12 := hB12.len
  have K12 := hB12.kept K11 O12
  replace Ns0 := hB12.new Ns0 O12 (fun s hs => ((fun s hs t ht q1 q2 e => by have := Zr0 s hs q1; have := Zs0 t ht q2; omega) : ∀ s ∈ [r0], ∀ t ∈ [s0], Far s t) s hs s0 (List.mem_singleton.2 rfl))
  simp only [List.length_map] at hM12
  replace Nr0 := hM12
  repeat' (first | (simp (disch := first | omega | assumption | (simp only [List.length_set]; omega) | (simp [*] <;> fail) | assumption) [-Bool.decide_and, -Bool.decide_or, -Bool.not_and, -Bool.not_or, toNat_pred, toNat_succ, wrap64, wr_new, wr_new0, ok_if, ok_ifn, iadV_sl, makeV_int, decT, decF, over_at, *, c_heldInt64S Nr0.arr]) | (with_reducible refine Gd_split (fun hc => ?_) (fun hc => ?_) <;> (have hc2 := hc; try simp at hc2)) | (with_reducible refine Br_split (fun hc => ?_) (fun hc => ?_) <;> (have hc2 := hc; try simp at hc2)) | (with_reducible refine GdT_split (fun hc => ?_) (fun hc => ?_) <;> (have hc2 := hc; try simp at hc2)) | (with_reducible refine WT_alt ?_ ?_) | omega)
  refine c_toTrackS (hAl.kept K12) (hIl.kept K12) hnl hml K12.1 fun w0 g13 pw0 hw0 Ew0 => ?_
  have Bw0 : pw0.length ≤ 16777216 ∧ szD Trk.xs pw0 ≤ 16777216 := ⟨by rw [map_len Ew0]; omega, by rw [szD_map Ew0]; omega⟩
  have K14 := K12.trans hw0.kept
  have Q14 := hw0.kept.1
  have P14 := K14.1
  have Zw0 := hw0.lvs_lt
  have Nw0 := hw0.base K12
  replace Ns0 := Ns0.later hw0.kept
  replace Nr0 := Nr0.later hw0.kept
  repeat' (first | (simp (disch := first | omega | assumption | (simp only [List.length_set]; omega) | (simp [*] <;> fail) | assumption) [-Bool.decide_and, -Bool.decide_or, -Bool.not_and, -Bool.not_or, toNat_pred, toNat_succ, wrap64, wr_new, wr_new0, ok_if, ok_ifn, iadV_sl, makeV_int, decT, decF, over_at, *]) | (with_reducible refine Gd_split (fun hc => ?_) (fun hc => ?_) <;> (have hc2 := hc; try simp at hc2)) | (with_reducible refine Br_split (fun hc => ?_) (fun hc => ?_) <;> (have hc2 := hc; try simp at hc2)) | (with_reducible refine GdT_split (fun hc => ?_) (fun hc => ?_) <;> (have hc2 := hc; try simp at hc2)) | (with_reducible refine WT_alt ?_ ?_) | omega)
  refine ci Nw0 Ew0 K14.1 fun u0 g15 hu0  => ?_
  have K16 := K14.trans hu0.kept
  have Q16 := hu0.kept.1
  have P16 := K16.1
  have Zu0 := hu0.foot
  have Nu0 := hu0.base K14
  replace Ns0 := Ns0.later hu0.kept
  replace Nr0 := Nr0.later hu0.kept
  replace Nw0 := Nw0.later hu0.kept
  repeat' (first | (simp (disch := first | omega | assumption | (simp only [List.length_set]; omega) | (simp [*] <;> fail) | assumption) [-Bool.decide_and, -Bool.decide_or, -Bool.not_and, -Bool.not_or, toNat_pred, toNat_succ, wrap64, wr_new, wr_new0, ok_if, ok_ifn, iadV_sl, makeV_int, decT, decF, over_at, *, c_eqInt64S Nu0.arr Ns0.arr, c_heldInt64S Nr0.arr]) | (with_reducible refine Gd_split (fun hc => ?_) (fun hc => ?_) <;> (have hc2 := hc; try simp at hc2)) | (with_reducible refine Br_split (fun hc => ?_) (fun hc => ?_) <;> (have hc2 := hc; try simp at hc2)) | (with_reducible refine GdT_split (fun hc => ?_) (fun hc => ?_) <;> (have hc2 := hc; try simp at hc2)) | (with_reducible refine WT_alt ?_ ?_) | omega)
end Go.E
namespace Go.E.HeardTracks
open Go Go.E
def pure : FuncId → Bool := fun f => List.elem f [3, 4, 5, 6, 7, 8, 9, 10, 11, 12, 13, 14, 16, 17, 20, 21, 23, 26, 30, 31, 34, 35, 36, 37, 38, 39, 41, 42, 43, 44, 47, 48, 49, 53, 54, 58, 61, 63, 65, 68, 69, 71, 72, 73, 78, 79, 82, 85, 86, 88, 89, 91, 92, 93, 94, 95, 96, 97, 98, 99, 100, 101, 104, 106, 109, 110, 111, 112, 113, 115, 116, 117, 118, 120, 122, 123, 126, 128, 129, 130, 132, 133, 134, 135, 136, 137, 143, 144, 146, 147, 149, 150, 151, 152, 153, 154, 155, 156, 157, 160, 161, 162, 164, 165, 166, 168, 169, 170, 171, 172, 173, 174, 176, 177, 178, 179, 180, 181, 182, 183, 184, 185, 186, 187, 188, 189, 190, 191, 192, 195, 198, 200, 201, 202, 203, 204, 205, 206, 207, 208, 209, 210, 211, 212, 213, 215, 216, 217, 218, 219, 220, 222, 223, 224, 225, 227, 229, 231, 238, 240, 241]
def funs : List (Nat × LFn) := [(93, L93), (130, L130), (150, L150), (86, L86), (89, L89), (91, L91), (117, L117), (18, L18), (20, L20), (22, L22), (23, L23), (30, L30), (33, L33), (34, L34), (26, L26), (28, L28), (31, L31), (100, L100), (103, L103), (106, L106), (32, L32), (101, L101), (104, L104), (155, L155), (156, L156), (157, L157), (102, L102), (105, L105), (158, L158), (184, L184), (203, L203), (27, L27), (29, L29), (5, L5)]
def Sy : Sys := sysOf funs
theorem lfn93 : lFn Go.Proofs.Try.prog pure Go.Proofs.Try.f93 = some L93 := by kernel_rfl
theorem lfn130 : lFn Go.Proofs.Try.prog pure Go.Proofs.Try.f130 = some L130 := by kernel_rfl
theorem lfn150 : lFn Go.Proofs.Try.prog pure Go.Proofs.Try.f150 = some L150 := by kernel_rfl
theorem lfn86 : lFn Go.Proofs.Try.prog pure Go.Proofs.Try.f86 = some L86 := by kernel_rfl
theorem lfn89 : lFn Go.Proofs.Try.prog pure Go.Proofs.Try.f89 = some L89 := by kernel_rfl
theorem lfn91 : lFn Go.Proofs.Try.prog pure Go.Proofs.Try.f91 = some L91 := by kernel_rfl
theorem lfn117 : lFn Go.Proofs.Try.prog pure Go.Proofs.Try.f117 = some L117 := by kernel_rfl
theorem lfn18 : lFn Go.Proofs.Try.prog pure Go.Proofs.Try.f18 = some L18 := by kernel_rfl
theorem lfn20 : lFn Go.Proofs.Try.prog pure Go.Proofs.Try.f20 = some L20 := by kernel_rfl
theorem lfn22 : lFn Go.Proofs.Try.prog pure Go.Proofs.Try.f22 = some L22 := by kernel_rfl
theorem lfn23 : lFn Go.Proofs.Try.prog pure Go.Proofs.Try.f23 = some L23 := by kernel_rfl
theorem lfn30 : lFn Go.Proofs.Try.prog pure Go.Proofs.Try.f30 = some L30 := by kernel_rfl
theorem lfn33 : lFn Go.Proofs.Try.prog pure Go.Proofs.Try.f33 = some L33 := by kernel_rfl
theorem lfn34 : lFn Go.Proofs.Try.prog pure Go.Proofs.Try.f34 = some L34 := by kernel_rfl
theorem lfn26 : lFn Go.Proofs.Try.prog pure Go.Proofs.Try.f26 = some L26 := by kernel_rfl
theorem lfn28 : lFn Go.Proofs.Try.prog pure Go.Proofs.Try.f28 = some L28 := by kernel_rfl
theorem lfn31 : lFn Go.Proofs.Try.prog pure Go.Proofs.Try.f31 = some L31 := by kernel_rfl
theorem lfn100 : lFn Go.Proofs.Try.prog pure Go.Proofs.Try.f100 = some L100 := by kernel_rfl
theorem lfn103 : lFn Go.Proofs.Try.prog pure Go.Proofs.Try.f103 = some L103 := by kernel_rfl
theorem lfn106 : lFn Go.Proofs.Try.prog pure Go.Proofs.Try.f106 = some L106 := by kernel_rfl
theorem lfn32 : lFn Go.Proofs.Try.prog pure Go.Proofs.Try.f32 = some L32 := by kernel_rfl
theorem lfn101 : lFn Go.Proofs.Try.prog pure Go.Proofs.Try.f101 = some L101 := by kernel_rfl
theorem lfn104 : lFn Go.Proofs.Try.prog pure Go.Proofs.Try.f104 = some L104 := by kernel_rfl
theorem lfn155 : lFn Go.Proofs.Try.prog pure Go.Proofs.Try.f155 = some L155 := by kernel_rfl
theorem lfn156 : lFn Go.Proofs.Try.prog pure Go.Proofs.Try.f156 = some L156 := by kernel_rfl
theorem lfn157 : lFn Go.Proofs.Try.prog pure Go.Proofs.Try.f157 = some L157 := by kernel_rfl
theorem lfn102 : lFn Go.Proofs.Try.prog pure Go.Proofs.Try.f102 = some L102 := by kernel_rfl
theorem lfn105 : lFn Go.Proofs.Try.prog pure Go.Proofs.Try.f105 = some L105 := by kernel_rfl
theorem lfn158 : lFn Go.Proofs.Try.prog pure Go.Proofs.Try.f158 = some L158 := by kernel_rfl
theorem lfn184 : lFn Go.Proofs.Try.prog pure Go.Proofs.Try.f184 = some L184 := by kernel_rfl
theorem lfn203 : lFn Go.Proofs.Try.prog pure Go.Proofs.Try.f203 = some L203 := by kernel_rfl
theorem lfn27 : lFn Go.Proofs.Try.prog pure Go.Proofs.Try.f27 = some L27 := by kernel_rfl
theorem lfn29 : lFn Go.Proofs.Try.prog pure Go.Proofs.Try.f29 = some L29 := by kernel_rfl
theorem lfn5 : lFn Go.Proofs.Try.prog pure Go.Proofs.Try.f5 = some L5 := by kernel_rfl
instance : HasA Sy := { f93 := rfl, f130 := rfl, f150 := rfl }
instance : HasP Sy := { f86 := rfl, f89 := rfl }
instance : HasSame Sy := { f91 := rfl }
instance : HasSz Sy := { f117 := rfl }
instance : HasF Sy := { f18 := rfl, f20 := rfl, f22 := rfl, f23 := rfl }
instance : HasI Sy := { f30 := rfl, f33 := rfl, f34 := rfl }
instance : HasDT Sy := { f26 := rfl, f28 := rfl, f31 := rfl, f100 := rfl, f103 := rfl, f106 := rfl }
instance : HasKT Sy := { f32 := rfl }
instance : HasTk Sy := { f101 := rfl, f104 := rfl, f155 := rfl, f156 := rfl, f157 := rfl }
instance : HasHd Sy := { f102 := rfl, f105 := rfl, f158 := rfl, f184 := rfl, f203 := rfl }
instance : HasHt Sy := { f27 := rfl, f29 := rfl }
instance : HasLHeardTracks Sy := { f5 := rfl }
theorem sysOK {B : Nat} {w0 : World} : SysOK Go.Proofs.Try.prog pure Sy B w0 := SysOK.of (by
  intro p hp
  simp only [funs, List.mem_cons, List.not_mem_nil, or_false] at hp
  rcases hp with rfl | rfl | rfl | rfl | rfl | rfl | rfl | rfl | rfl | rfl | rfl | rfl | rfl | rfl | rfl | rfl | rfl | rfl | rfl | rfl | rfl | rfl | rfl | rfl | rfl | rfl | rfl | rfl | rfl | rfl | rfl | rfl | rfl | rfl
  · exact ⟨_, Go.Proofs.Try.func93, lfn93⟩
  · exact ⟨_, Go.Proofs.Try.func130, lfn130⟩
  · exact ⟨_, Go.Proofs.Try.func150, lfn150⟩
  · exact ⟨_, Go.Proofs.Try.func86, lfn86⟩
  · exact ⟨_, Go.Proofs.Try.func89, lfn89⟩
  · exact ⟨_, Go.Proofs.Try.func91, lfn91⟩
  · exact ⟨_, Go.Proofs.Try.func117, lfn117⟩
  · exact ⟨_, Go.Proofs.Try.func18, lfn18⟩
  · exact ⟨_, Go.Proofs.Try.func20, lfn20⟩
  · exact ⟨_, Go.Proofs.Try.func22, lfn22⟩
  · exact ⟨_, Go.Proofs.Try.func23, lfn23⟩
  · exact ⟨_, Go.Proofs.Try.func30, lfn30⟩
  · exact ⟨_, Go.Proofs.Try.func33, lfn33⟩
  · exact ⟨_, Go.Proofs.Try.func34, lfn34⟩
  · exact ⟨_, Go.Proofs.Try.func26, lfn26⟩
  · exact ⟨_, Go.Proofs.Try.func28, lfn28⟩
  · exact ⟨_, Go.Proofs.Try.func31, lfn31⟩
  · exact ⟨_, Go.Proofs.Try.func100, lfn100⟩
  · exact ⟨_, Go.Proofs.Try.func103, lfn103⟩
  · exact ⟨_, Go.Proofs.Try.func106, lfn106⟩
  · exact ⟨_, Go.Proofs.Try.func32, lfn32⟩
  · exact ⟨_, Go.Proofs.Try.func101, lfn101⟩
  · exact ⟨_, Go.Proofs.Try.func104, lfn104⟩
  · exact ⟨_, Go.Proofs.Try.func155, lfn155⟩
  · exact ⟨_, Go.Proofs.Try.func156, lfn156⟩
  · exact ⟨_, Go.Proofs.Try.func157, lfn157⟩
  · exact ⟨_, Go.Proofs.Try.func102, lfn102⟩
  · exact ⟨_, Go.Proofs.Try.func105, lfn105⟩
  · exact ⟨_, Go.Proofs.Try.func158, lfn158⟩
  · exact ⟨_, Go.Proofs.Try.func184, lfn184⟩
  · exact ⟨_, Go.Proofs.Try.func203, lfn203⟩
  · exact ⟨_, Go.Proofs.Try.func27, lfn27⟩
  · exact ⟨_, Go.Proofs.Try.func29, lfn29⟩
  · exact ⟨_, Go.Proofs.Try.func5, lfn5⟩)

end Go.E.HeardTracks
