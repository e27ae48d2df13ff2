/- The law of MixTracks: what the evaluator finds. -/
import Derived.Test.YtclbkfmelhheaaaMMk
import Derived.Test.YtclbkfmelhheaaaMDk
import Derived.Test.YtclbkfmelhheaaaMDs
import Derived.Test.YtclbkfmelhheaaaProg
set_option linter.unusedVariables false
set_option linter.unusedSimpArgs false
namespace Go.E
open Go
def L7 : LFn := ⟨2, (.seq (.reg [⟨(.some 4), (.mv (.c (.lf (.bool false)))), none⟩])
 (.seq (.reg [⟨(.some 5), (.mv (.c (.lf (.int .i64 1048576)))), none⟩])
 (.seq (.reg [⟨(.some 19), (.mv (.t 0)), none⟩, ⟨(.some 20), (.mv (.t 5)), none⟩, ⟨(.some 21), (.call true 32 [(.t 19), (.t 20)]), none⟩, ⟨(.some 5), (.mv (.t 21)), none⟩])
 (.seq (.seq (.reg [⟨(.some 22), (.mv (.t 5)), none⟩, ⟨(.some 23), (.bin .lss (.t 22) (.c (.lf (.int .i64 0)))), none⟩])
 (.cond (.t 23) (.seq (.reg [⟨(.some 4), (.mv (.c (.lf (.bool true)))), none⟩])
 .ret) .skip))
 (.seq (.reg [⟨(.some 25), (.mv (.t 0)), none⟩, ⟨(.some 26), (.call false 34 [(.t 25)]), none⟩, ⟨(.some 27), (.mv (.t 1)), none⟩, ⟨(.some 28), (.call false 33 [(.t 26), (.t 27)]), none⟩, ⟨(.some 24), (.mv (.t 28)), none⟩, ⟨(.some 29), (.ext (.t 24) 0), none⟩, ⟨(.some 30), (.ext (.t 24) 1), none⟩, ⟨(.some 31), (.ext (.t 24) 2), none⟩, ⟨(.some 6), (.mv (.t 29)), none⟩, ⟨(.some 7), (.mv (.t 30)), none⟩, ⟨(.some 8), (.mv (.t 31)), none⟩])
 (.seq (.reg [⟨(.some 32), (.mv (.t 0)), none⟩, ⟨(.some 33), (.call false 34 [(.t 32)]), none⟩, ⟨(.some 9), (.mv (.t 33)), none⟩])
 (.seq (.reg [⟨(.some 35), (.mv (.t 9)), none⟩, ⟨(.some 36), (.mv (.t 1)), none⟩, ⟨(.some 37), (.call false 35 [(.t 35), (.t 36)]), none⟩, ⟨(.some 34), (.mv (.t 37)), none⟩, ⟨(.some 38), (.ext (.t 34) 0), none⟩, ⟨(.some 39), (.ext (.t 34) 1), none⟩, ⟨(.some 40), (.ext (.t 34) 2), none⟩, ⟨(.some 10), (.mv (.t 38)), none⟩, ⟨(.some 11), (.mv (.t 39)), none⟩, ⟨(.some 12), (.mv (.t 40)), none⟩])
 (.seq (.seq (.reg [⟨(.some 41), (.mv (.t 10)), none⟩, ⟨(.some 42), (.mv (.t 6)), none⟩, ⟨(.some 43), (.call true 16 [(.t 41), (.t 42)]), none⟩, ⟨(.some 44), (.una .not (.t 43)), none⟩, ⟨(.some 45), (.mv (.t 44)), none⟩, ⟨(.some 46), (.mv (.t 11)), (.some (45, false))⟩, ⟨(.some 47), (.mv (.t 7)), (.some (45, false))⟩, ⟨(.some 48), (.call true 16 [(.t 46), (.t 47)]), (.some (45, false))⟩, ⟨(.some 49), (.una .not (.t 48)), (.some (45, false))⟩, ⟨(.some 50), (.pick (.t 45) (.c (.lf (.bool true))) (.t 49)), none⟩, ⟨(.some 51), (.mv (.t 50)), none⟩, ⟨(.some 52), (.mv (.t 12)), (.some (51, false))⟩, ⟨(.some 53), (.mv (.t 8)), (.some (51, false))⟩, ⟨(.some 54), (.beq true (.t 52) (.t 53)), (.some (51, false))⟩, ⟨(.some 55), (.pick (.t 51) (.c (.lf (.bool true))) (.t 54)), none⟩])
 (.cond (.t 55) (.seq (.reg [⟨(.some 4), (.mv (.c (.lf (.bool false)))), none⟩])
 .ret) .skip))
 (.seq (.seq (.reg [⟨(.some 56), (.mv (.t 9)), none⟩, ⟨(.some 57), (.mv (.t 0)), none⟩, ⟨(.some 58), (.call false 34 [(.t 57)]), none⟩, ⟨(.some 59), (.call true 36 [(.t 56), (.t 58)]), none⟩, ⟨(.some 60), (.una .not (.t 59)), none⟩])
 (.cond (.t 60) (.seq (.reg [⟨(.some 4), (.mv (.c (.lf (.bool false)))), none⟩])
 .ret) .skip))
 (.seq (.reg [⟨(.some 13), (.mv (.c (.lf (.int .i64 1)))), none⟩])
 (.seq (.reg [⟨(.some 61), (.mv (.t 9)), none⟩, ⟨(.some 62), (.mv (.t 13)), none⟩, ⟨(.some 63), (.call false 37 [(.t 61), (.t 62)]), none⟩, ⟨(.some 13), (.mv (.t 63)), none⟩])
 (.seq (.seq (.reg [⟨(.some 64), (.mv (.t 13)), none⟩, ⟨(.some 65), (.bin .lss (.t 64) (.c (.lf (.int .i64 0)))), none⟩, ⟨(.some 66), (.mv (.t 65)), none⟩, ⟨(.some 67), (.mv (.t 10)), (.some (66, false))⟩, ⟨(.some 68), (.mv (.t 6)), (.some (66, false))⟩, ⟨(.some 69), (.call true 16 [(.t 67), (.t 68)]), (.some (66, false))⟩, ⟨(.some 70), (.una .not (.t 69)), (.some (66, false))⟩, ⟨(.some 71), (.pick (.t 66) (.c (.lf (.bool true))) (.t 70)), none⟩, ⟨(.some 72), (.mv (.t 71)), none⟩, ⟨(.some 73), (.mv (.t 11)), (.some (72, false))⟩, ⟨(.some 74), (.mv (.t 7)), (.some (72, false))⟩, ⟨(.some 75), (.call true 16 [(.t 73), (.t 74)]), (.some (72, false))⟩, ⟨(.some 76), (.una .not (.t 75)), (.some (72, false))⟩, ⟨(.some 77), (.pick (.t 72) (.c (.lf (.bool true))) (.t 76)), none⟩, ⟨(.some 78), (.mv (.t 77)), none⟩, ⟨(.some 79), (.mv (.t 12)), (.some (78, false))⟩, ⟨(.some 80), (.mv (.t 8)), (.some (78, false))⟩, ⟨(.some 81), (.beq true (.t 79) (.t 80)), (.some (78, false))⟩, ⟨(.some 82), (.pick (.t 78) (.c (.lf (.bool true))) (.t 81)), none⟩])
 (.cond (.t 82) (.seq (.reg [⟨(.some 4), (.mv (.c (.lf (.bool false)))), none⟩])
 .ret) .skip))
 (.seq (.reg [⟨(.some 14), (.mv (.c (.lf (.int .i64 1)))), none⟩])
 (.seq (.reg [⟨(.some 83), (.mv (.t 10)), none⟩, ⟨(.some 84), (.mv (.t 14)), none⟩, ⟨(.some 85), (.call false 17 [(.t 83), (.t 84)]), none⟩, ⟨(.some 14), (.mv (.t 85)), none⟩])
 (.seq (.reg [⟨(.some 86), (.mv (.t 11)), none⟩, ⟨(.some 87), (.mv (.t 14)), none⟩, ⟨(.some 88), (.call false 17 [(.t 86), (.t 87)]), none⟩, ⟨(.some 14), (.mv (.t 88)), none⟩])
 (.seq (.reg [⟨(.some 15), (.mv (.c (.lf (.int .i64 1)))), none⟩])
 (.seq (.reg [⟨(.some 89), (.mv (.t 10)), none⟩, ⟨(.some 90), (.mv (.t 15)), none⟩, ⟨(.some 91), (.call true 18 [(.t 89), (.t 90)]), none⟩, ⟨(.some 15), (.mv (.t 91)), none⟩])
 (.seq (.seq (.reg [⟨(.some 92), (.mv (.t 15)), none⟩, ⟨(.some 93), (.bin .lss (.t 92) (.c (.lf (.int .i64 0)))), none⟩])
 (.cond (.t 93) (.seq (.reg [⟨(.some 4), (.mv (.c (.lf (.bool false)))), none⟩])
 .ret) .skip))
 (.seq (.reg [⟨(.some 94), (.mv (.t 11)), none⟩, ⟨(.some 95), (.mv (.t 15)), none⟩, ⟨(.some 96), (.call true 18 [(.t 94), (.t 95)]), none⟩, ⟨(.some 15), (.mv (.t 96)), none⟩])
 (.seq (.seq (.reg [⟨(.some 97), (.mv (.t 15)), none⟩, ⟨(.some 98), (.bin .lss (.t 97) (.c (.lf (.int .i64 0)))), none⟩])
 (.cond (.t 98) (.seq (.reg [⟨(.some 4), (.mv (.c (.lf (.bool false)))), none⟩])
 .ret) .skip))
 (.seq (.seq (.reg [⟨(.some 99), (.mv (.t 15)), none⟩, ⟨(.some 100), (.mv (.t 14)), none⟩, ⟨(.some 101), (.bin .neq (.t 99) (.t 100)), none⟩])
 (.cond (.t 101) (.seq (.reg [⟨(.some 4), (.mv (.c (.lf (.bool false)))), none⟩])
 .ret) .skip))
 (.seq (.reg [⟨(.some 103), (.mv (.t 0)), none⟩, ⟨(.some 104), (.call false 34 [(.t 103)]), none⟩, ⟨(.some 105), (.mv (.t 1)), none⟩, ⟨(.some 106), (.call false 35 [(.t 104), (.t 105)]), none⟩, ⟨(.some 102), (.mv (.t 106)), none⟩, ⟨(.some 107), (.ext (.t 102) 0), none⟩, ⟨(.some 108), (.ext (.t 102) 1), none⟩, ⟨(.some 109), (.ext (.t 102) 2), none⟩, ⟨(.some 16), (.mv (.t 107)), none⟩, ⟨(.some 17), (.mv (.t 108)), none⟩, ⟨(.some 18), (.mv (.t 109)), none⟩])
 (.seq (.seq (.reg [⟨(.some 110), (.mv (.t 16)), none⟩, ⟨(.some 111), (.mv (.t 6)), none⟩, ⟨(.some 112), (.call true 16 [(.t 110), (.t 111)]), none⟩, ⟨(.some 113), (.una .not (.t 112)), none⟩, ⟨(.some 114), (.mv (.t 113)), none⟩, ⟨(.some 115), (.mv (.t 17)), (.some (114, false))⟩, ⟨(.some 116), (.mv (.t 7)), (.some (114, false))⟩, ⟨(.some 117), (.call true 16 [(.t 115), (.t 116)]), (.some (114, false))⟩, ⟨(.some 118), (.una .not (.t 117)), (.some (114, false))⟩, ⟨(.some 119), (.pick (.t 114) (.c (.lf (.bool true))) (.t 118)), none⟩, ⟨(.some 120), (.mv (.t 119)), none⟩, ⟨(.some 121), (.mv (.t 18)), (.some (120, false))⟩, ⟨(.some 122), (.mv (.t 8)), (.some (120, false))⟩, ⟨(.some 123), (.beq true (.t 121) (.t 122)), (.some (120, false))⟩, ⟨(.some 124), (.pick (.t 120) (.c (.lf (.bool true))) (.t 123)), none⟩])
 (.cond (.t 124) (.seq (.reg [⟨(.some 4), (.mv (.c (.lf (.bool false)))), none⟩])
 .ret) .skip))
 (.seq (.reg [⟨(.some 15), (.mv (.c (.lf (.int .i64 1)))), none⟩])
 (.seq (.reg [⟨(.some 125), (.mv (.t 10)), none⟩, ⟨(.some 126), (.mv (.t 15)), none⟩, ⟨(.some 127), (.call true 18 [(.t 125), (.t 126)]), none⟩, ⟨(.some 15), (.mv (.t 127)), none⟩])
 (.seq (.seq (.reg [⟨(.some 128), (.mv (.t 15)), none⟩, ⟨(.some 129), (.bin .lss (.t 128) (.c (.lf (.int .i64 0)))), none⟩])
 (.cond (.t 129) (.seq (.reg [⟨(.some 4), (.mv (.c (.lf (.bool false)))), none⟩])
 .ret) .skip))
 (.seq (.reg [⟨(.some 130), (.mv (.t 11)), none⟩, ⟨(.some 131), (.mv (.t 15)), none⟩, ⟨(.some 132), (.call true 18 [(.t 130), (.t 131)]), none⟩, ⟨(.some 15), (.mv (.t 132)), none⟩])
 (.seq (.seq (.reg [⟨(.some 133), (.mv (.t 15)), none⟩, ⟨(.some 134), (.bin .lss (.t 133) (.c (.lf (.int .i64 0)))), none⟩])
 (.cond (.t 134) (.seq (.reg [⟨(.some 4), (.mv (.c (.lf (.bool false)))), none⟩])
 .ret) .skip))
 (.seq (.seq (.reg [⟨(.some 135), (.mv (.t 15)), none⟩, ⟨(.some 136), (.mv (.t 14)), none⟩, ⟨(.some 137), (.bin .neq (.t 135) (.t 136)), none⟩])
 (.cond (.t 137) (.seq (.reg [⟨(.some 4), (.mv (.c (.lf (.bool false)))), none⟩])
 .ret) .skip))
 (.seq (.reg [⟨(.some 4), (.mv (.c (.lf (.bool true)))), none⟩])
 .ret)))))))))))))))))))))))))))))), [(.tmp 4)]⟩
class HasLMixTracks (S : Sys) : Prop extends HasMt S, HasDT S, HasKT S, HasF S where
  f7 : S.fs 7 = some L7
set_option maxRecDepth 20000 in
set_option maxHeartbeats 8000000 in
theorem lawMixTracks {S : Sys} [HasLMixTracks S] : LawHolds S 7 [(false, .sl 5 trkShp), (false, .int .i64)] := by
  intro h cs hcs
  obtain ⟨c0, _, rfl, ⟨ls0, rfl, l, rows, rfl, hAl, hrows⟩, c1, _, rfl, ⟨ls1, rfl, n, rfl, _⟩, rfl⟩ := hcs
  obtain ⟨ps, rfl, hIl⟩ := trks_of hrows
  clear hrows
  have cs : ∀ {g a0 p0 K}, NewD h g a0 151 5 Trk.cells Trk.xs 22 p0 → p0.map (·.1) = ps.map (·.1) → h.length ≤ g.length → (∀ o o' g', New g g' o 22 1 ((mtR panL (ps.map (·.1)) n).map fl) → New g g' o' 22 1 ((mtR panR (ps.map (·.1)) n).map fl) → (∀ s ∈ [o], ∀ t ∈ [o'], Far s t) → K (.tup [.lf o, .lf o', .lf (.bool (decide (okMt (ps.map (·.1)) n)))]) g') → CallT S false 33 [.lf a0, .lf (.int .i64 n)] g h.length K := fun h0 e0 hl hk => c_specMixTracks h0.arr h0.ins hl (fun o o' g h1 h2 hf => by rw [e0] at h1 h2 ⊢; exact hk o o' g h1 h2 (fun s hs t ht => by rw [List.mem_singleton.1 hs, List.mem_singleton.1 ht]; exact hf))
  have ci : ∀ {g a0 p0 K}, NewD h g a0 151 5 Trk.cells Trk.xs 22 p0 → p0.map (·.1) = ps.map (·.1) → h.length ≤ g.length → (∀ o o' g', New g g' o 22 1 ((mtR panL (ps.map (·.1)) n).map fl) → New g g' o' 22 1 ((mtR panR (ps.map (·.1)) n).map fl) → (∀ s ∈ [o], ∀ t ∈ [o'], Far s t) → K (.tup [.lf o, .lf o', .lf (.bool (decide (okMt (ps.map (·.1)) n)))]) g') → CallT S false 35 [.lf a0, .lf (.int .i64 n)] g h.length K := fun h0 e0 hl hk => c_implMixTracks h0.arr h0.ins hl (fun o o' g h1 h2 hf => by rw [e0] at h1 h2 ⊢; exact hk o o' g h1 h2 (fun s hs t ht => by rw [List.mem_singleton.1 hs, List.mem_singleton.1 ht]; exact hf))
  have hsm0 := mtR_len (f := panL) (ts := ps.map (·.1)) (n := n)
  have hsm1 := mtR_len (f := panR) (ts := ps.map (·.1)) (n := n)
  generalize mtR panL (ps.map (·.1)) n = yl at *
  generalize mtR panR (ps.map (·.1)) n = yr at *
  generalize decide (okMt (ps.map (·.1)) n) = ok at *
  refine law_of (F := L7) HasLMixTracks.f7 rfl ?_
  have hs := fun K lim => c_szTrackS (S := S) (K := K) (lim := lim) hAl hIl (b := 1048576) (by decide) (by decide)
  by_cases hsz : (1048576 : Int) < ps.length + szD Trk.xs ps
  · rw [if_pos hsz] at hs
    unfold L7
    dsimp only []
    repeat' (first | (simp (disch := first | omega | assumption | (simp only [List.length_set]; omega) | (simp [*] <;> fail) | assumption) [-Bool.decide_and, -Bool.decide_or, -Bool.not_and, -Bool.not_or, toNat_pred, toNat_succ, wrap64, wr_new, wr_new0, ok_if, ok_ifn, iadV_sl, makeV_int, decT, decF, over_at, *]) | (with_reducible refine Gd_split (fun hc => ?_) (fun hc => ?_) <;> (have hc2 := hc; try simp at hc2)) | (with_reducible refine Br_split (fun hc => ?_) (fun hc => ?_) <;> (have hc2 := hc; try simp at hc2)) | (with_reducible refine GdT_split (fun hc => ?_) (fun hc => ?_) <;> (have hc2 := hc; try simp at hc2)) | (with_reducible refine WT_alt ?_ ?_) | omega)
  rw [if_neg hsz] at hs
  unfold L7
  dsimp only []
  repeat' (first | (simp (disch := first | omega | assumption | (simp only [List.length_set]; omega) | (simp [*] <;> fail) | assumption) [-Bool.decide_and, -Bool.decide_or, -Bool.not_and, -Bool.not_or, toNat_pred, toNat_succ, wrap64, wr_new, wr_new0, ok_if, ok_ifn, iadV_sl, makeV_int, decT, decF, over_at, *]) | (with_reducible refine Gd_split (fun hc => ?_) (fun hc => ?_) <;> (have hc2 := hc; try simp at hc2)) | (with_reducible refine Br_split (fun hc => ?_) (fun hc => ?_) <;> (have hc2 := hc; try simp at hc2)) | (with_reducible refine GdT_split (fun hc => ?_) (fun hc => ?_) <;> (have hc2 := hc; try simp at hc2)) | (with_reducible refine WT_alt ?_ ?_) | omega)
  have hnl : ps.length ≤ 16777216 := by omega
  have hml : szD Trk.xs ps ≤ 16777216 := by omega
  clear hs hsz
  refine c_toTrackS (hAl.kept (Kept.refl h)) (hIl.kept (Kept.refl h)) hnl hml (Kept.refl h).1 fun x0 g1 px0 hx0 Ex0 => ?_
  have Bx0 : px0.length ≤ 16777216 ∧ szD Trk.xs px0 ≤ 16777216 := ⟨by rw [map_len Ex0]; omega, by rw [szD_map Ex0]; omega⟩
  have K2 := (Kept.refl h).trans hx0.kept
  have Q2 := hx0.kept.1
  have P2 := K2.1
  have Zx0 := hx0.lvs_lt
  have Nx0 := hx0.base (Kept.refl h)
  repeat' (first | (simp (disch := first | omega | assumption | (simp only [List.length_set]; omega) | (simp [*] <;> fail) | assumption) [-Bool.decide_and, -Bool.decide_or, -Bool.not_and, -Bool.not_or, toNat_pred, toNat_succ, wrap64, wr_new, wr_new0, ok_if, ok_ifn, iadV_sl, makeV_int, decT, decF, over_at, *]) | (with_reducible refine Gd_split (fun hc => ?_) (fun hc => ?_) <;> (have hc2 := hc; try simp at hc2)) | (with_reducible refine Br_split (fun hc => ?_) (fun hc => ?_) <;> (have hc2 := hc; try simp at hc2)) | (with_reducible refine GdT_split (fun hc => ?_) (fun hc => ?_) <;> (have hc2 := hc; try simp at hc2)) | (with_reducible refine WT_alt ?_ ?_) | omega)
  refine cs Nx0 Ex0 K2.1 fun s0 s1 g3 hs0 hs1 Fs0s1 => ?_
  have K4 := K2.trans hs0.kept
  have Q4 := hs0.kept.1
  have P4 := K4.1
  have Zs0 := hs0.foot
  have Ns0 := hs0.base K2
  have Zs1 := hs1.foot
  have Ns1 := hs1.base K2
  replace Nx0 := Nx0.later hs0.kept
  repeat' (first | (simp (disch := first | omega | assumption | (simp only [List.length_set]; omega) | (simp [*] <;> fail) | assumption) [-Bool.decide_and, -Bool.decide_or, -Bool.not_and, -Bool.not_or, toNat_pred, toNat_succ, wrap64, wr_new, wr_new0, ok_if, ok_ifn, iadV_sl, makeV_int, decT, decF, over_at, *]) | (with_reducible refine Gd_split (fun hc => ?_) (fun hc => ?_) <;> (have hc2 := hc; try simp at hc2)) | (with_reducible refine Br_split (fun hc => ?_) (fun hc => ?_) <;> (have hc2 := hc; try simp at hc2)) | (with_reducible refine GdT_split (fun hc => ?_) (fun hc => ?_) <;> (have hc2 := hc; try simp at hc2)) | (with_reducible refine WT_alt ?_ ?_) | omega)
  refine c_toTrackS (hAl.kept K4) (hIl.kept K4) hnl hml K4.1 fun a0 g5 pa0 ha0 Ea0 => ?_
  have Ba0 : pa0.length ≤ 16777216 ∧ szD Trk.xs pa0 ≤ 16777216 := ⟨by rw [map_len Ea0]; omega, by rw [szD_map Ea0]; omega⟩
  have K6 := K4.trans ha0.kept
  have Q6 := ha0.kept.1
  have P6 := K6.1
  have Za0 := ha0.lvs_lt
  have Na0 := ha0.base K4
  replace Ns0 := Ns0.later ha0.kept
  replace Ns1 := Ns1.later ha0.kept
  repeat' (first | (simp (disch := first | omega | assumption | (simp only [List.length_set]; omega) | (simp [*] <;> fail) | assumption) [-Bool.decide_and, -Bool.decide_or, -Bool.not_and, -Bool.not_or, toNat_pred, toNat_succ, wrap64, wr_new, wr_new0, ok_if, ok_ifn, iadV_sl, makeV_int, decT, decF, over_at, *]) | (with_reducible refine Gd_split (fun hc => ?_) (fun hc => ?_) <;> (have hc2 := hc; try simp at hc2)) | (with_reducible refine Br_split (fun hc => ?_) (fun hc => ?_) <;> (have hc2 := hc; try simp at hc2)) | (with_reducible refine GdT_split (fun hc => ?_) (fun hc => ?_) <;> (have hc2 := hc; try simp at hc2)) | (with_reducible refine WT_alt ?_ ?_) | omega)
  refine ci Na0 Ea0 K6.1 fun r0 r1 g7 hr0 hr1 Fr0r1 => ?_
  have K8 := K6.trans hr0.kept
  have Q8 := hr0.kept.1
  have P8 := K8.1
  have Zr0 := hr0.foot
  have Nr0 := hr0.base K6
  have Zr1 := hr1.foot
  have Nr1 := hr1.base K6
  replace Ns0 := Ns0.later hr0.kept
  replace Ns1 := Ns1.later hr0.kept
  replace Na0 := Na0.later hr0.kept
  repeat' (first | (simp (disch := first | omega | assumption | (simp only [List.length_set]; omega) | (simp [*] <;> fail) | assumption) [-Bool.decide_and, -Bool.decide_or, -Bool.not_and, -Bool.not_or, toNat_pred, toNat_succ, wrap64, wr_new, wr_new0, ok_if, ok_ifn, iadV_sl, makeV_int, decT, decF, over_at, *, c_eqFloat32S Nr0.arr Ns0.arr, c_eqFloat32S Nr1.arr Ns1.arr]) | (with_reducible refine Gd_split (fun hc => ?_) (fun hc => ?_) <;> (have hc2 := hc; try simp at hc2)) | (with_reducible refine Br_split (fun hc => ?_) (fun hc => ?_) <;> (have hc2 := hc; try simp at hc2)) | (with_reducible refine GdT_split (fun hc => ?_) (fun hc => ?_) <;> (have hc2 := hc; try simp at hc2)) | (with_reducible refine WT_alt ?_ ?_) | omega)
  refine c_toTrackS (hAl.kept K8) (hIl.kept K8) hnl hml K8.1 fun y0 g9 py0 hy0 Ey0 => ?_
  have By0 : py0.length ≤ 16777216 ∧ szD Trk.xs py0 ≤ 16777216 := ⟨by rw [map_len Ey0]; omega, by rw [szD_map Ey0]; omega⟩
  have K10 := K8.trans hy0.kept
  have Q10 := hy0.kept.1
  have P10 := K10.1
  have Zy0 := hy0.lvs_lt
  have Ny0 := hy0.base K8
  replace Ns0 := Ns0.later hy0.kept
  replace Ns1 := Ns1.later hy0.kept
  replace Na0 := Na0.later hy0.kept
  replace Nr0 := Nr0.later hy0.kept
  replace Nr1 := Nr1.later hy0.kept
  repeat' (first | (simp (disch := first | omega | assumption | (simp only [List.length_set]; omega) | (simp [*] <;> fail) | assumption) [-Bool.decide_and, -Bool.decide_or, -Bool.not_and, -Bool.not_or, toNat_pred, toNat_succ, wrap64, wr_new, wr_new0, ok_if, ok_ifn, iadV_sl, makeV_int, decT, decF, over_at, *, c_eqTrackS Na0.arr Na0.ins Ny0.arr Ny0.ins (Ey0.trans Ea0.symm)]) | (with_reducible refine Gd_split (fun hc => ?_) (fun hc => ?_) <;> (have hc2 := hc; try simp at hc2)) | (with_reducible refine Br_split (fun hc => ?_) (fun hc => ?_) <;> (have hc2 := hc; try simp at hc2)) | (with_reducible refine GdT_split (fun hc => ?_) (fun hc => ?_) <;> (have hc2 := hc; try simp at hc2)) | (with_reducible refine WT_alt ?_ ?_) | omega)
  refine c_markTrackS Na0 (by omega) (by have := Ba0; rw [kAt_all (ro := Trk.xs) (c := 4) (k := 1) (ps := pa0)]; omega) Ba0.1 Ba0.2 (Nat.le_refl _) fun g11 hB11 => ?_
  have O11 : ∀ s ∈ lvs a0 pa0, s ≠ .nils → h.length ≤ s.id := fun s hs q => by have := Za0 s hs q; omega
  have Q11 := hB11.len
  have K11 := hB11.kept K10 O11
  replace Ns0 := hB11.new Ns0 O11 (fun s hs => ((fun s hs t ht q1 q2 e => by have := Za0 s hs q1; have := Zs0 t ht q2; omega) : ∀ s ∈ lvs a0 pa0, ∀ t ∈ [s0], Far s t) s hs s0 (List.mem_singleton.2 rfl))
  replace Ns1 := hB11.new Ns1 O11 (fun s hs => ((fun s hs t ht q1 q2 e => by have := Za0 s hs q1; have := Zs1 t ht q2; omega) : ∀ s ∈ lvs a0 pa0, ∀ t ∈ [s1], Far s t) s hs s1 (List.mem_singleton.2 rfl))
  replace Nr0 := hB11.new Nr0 O11 (fun s hs => ((fun s hs t ht q1 q2 e => by have := Za0 s hs q1; have := Zr0 t ht q2; omega) : ∀ s ∈ lvs a0 pa0, ∀ t ∈ [r0], Far s t) s hs r0 (List.mem_singleton.2 rfl))
  replace Nr1 := hB11.new Nr1 O11 (fun s hs => ((fun s hs t ht q1 q2 e => by have := Za0 s hs q1; have := Zr1 t ht q2; omega) : ∀ s ∈ lvs a0 pa0, ∀ t ∈ [r1], Far s t) s hs r1 (List.mem_singleton.2 rfl))
  have V11 : 1 ≤ kAt Trk.xs 4 1 pa0 pa0.length ∧ kAt Trk.xs 4 1 pa0 pa0.length ≤ 1 + 4 * 16777216 + 16777216 := by have := Ba0; rw [kAt_all (ro := Trk.xs) (c := 4) (k := 1) (ps := pa0)]; omega
  repeat' (first | (simp (disch := first | omega | assumption | (simp only [List.length_set]; omega) | (simp [*] <;> fail) | assumption) [-Bool.decide_and, -Bool.decide_or, -Bool.not_and, -Bool.not_or, toNat_pred, toNat_succ, wrap64, wr_new, wr_new0, ok_if, ok_ifn, iadV_sl, makeV_int, decT, decF, over_at, *, c_eqFloat32S Nr0.arr Ns0.arr, c_eqFloat32S Nr1.arr Ns1.arr]) | (with_reducible refine Gd_split (fun hc => ?_) (fun hc => ?_) <;> (have hc2 := hc; try simp at hc2)) | (with_reducible refine Br_split (fun hc => ?_) (fun hc => ?_) <;> (have hc2 := hc; try simp at hc2)) | (with_reducible refine GdT_split (fun hc => ?_) (fun hc => ?_) <;> (have hc2 := hc; try simp at hc2)) | (with_reducible refine WT_alt ?_ ?_) | omega)
  refine c_markFloat32S Nr0 (by simp; omega) (by omega) (by omega) (Nat.le_refl _) fun g12 hM12 hC12 => ?_
  have hB12 := hC12.buts
  have O12 : ∀ s ∈ [r0], s ≠ .nils → h.length ≤ s.id := fun s hs q => by have := Zr0 s hs q; omega
  have Q12 := hB12.len
  have K12 := hB12.kept K11 O12
  replace Ns0 := hB12.new Ns0 O12 (fun s hs => ((fun s hs t ht q1 q2 e => by have := Zr0 s hs q1; have := Zs0 t ht q2; omega) : ∀ s ∈ [r0], ∀ t ∈ [s0], Far s t) s hs s0 (List.mem_singleton.2 rfl))
  replace Ns1 := hB12.new Ns1 O12 (fun s hs => ((fun s hs t ht q1 q2 e => by have := Zr0 s hs q1; have := Zs1 t ht q2; omega) : ∀ s ∈ [r0], ∀ t ∈ [s1], Far s t) s hs s1 (List.mem_singleton.2 rfl))
  replace Nr1 := hB12.new Nr1 O12 (fun s hs => (Fr0r1 : ∀ s ∈ [r0], ∀ t ∈ [r1], Far s t) s hs r1 (List.mem_singleton.2 rfl))
  simp only [List.length_map] at hM12
  replace Nr0 := hM12
  repeat' (first | (simp (disch := first | omega | assumption | (simp only [List.length_set]; omega) | (simp [*] <;> fail) | assumption) [-Bool.decide_and, -Bool.decide_or, -Bool.not_and, -Bool.not_or, toNat_pred, toNat_succ, wrap64, wr_new, wr_new0, ok_if, ok_ifn, iadV_sl, makeV_int, decT, decF, over_at, *]) | (with_reducible refine Gd_split (fun hc => ?_) (fun hc => ?_) <;> (have hc2 := hc; try simp at hc2)) | (with_reducible refine Br_split (fun hc => ?_) (fun hc => ?_) <;> (have hc2 := hc; try simp at hc2)) | (with_reducible refine GdT_split (fun hc => ?_) (fun hc => ?_) <;> (have hc2 := hc; try simp at hc2)) | (with_reducible refine WT_alt ?_ ?_) | omega)
  refine c_markFloat32S Nr1 (by simp; omega) (by omega) (by omega) (Nat.le_refl _) fun g13 hM13 hC13 => ?_
  have hB13 := hC13.buts
  have O13 : ∀ s ∈ [r1], s ≠ .nils → h.length ≤ s.id := fun s hs q => by have := Zr1 s hs q; omega
  have Q13 := hB13.len
  have K13 := hB13.kept K12 O13
  replace Ns0 := hB13.new Ns0 O13 (fun s hs => ((fun s hs t ht q1 q2 e => by have := Zr1 s hs q1; have := Zs0 t ht q2; omega) : ∀ s ∈ [r1], ∀ t ∈ [s0], Far s t) s hs s0 (List.mem_singleton.2 rfl))
  replace Ns1 := hB13.new Ns1 O13 (fun s hs => ((fun s hs t ht q1 q2 e => by have := Zr1 s hs q1; have := Zs1 t ht q2; omega) : ∀ s ∈ [r1], ∀ t ∈ [s1], Far s t) s hs s1 (List.mem_singleton.2 rfl))
  replace Nr0 := hB13.new Nr0 O13 (fun s hs => ((fun s hs t ht => (Fr0r1 t ht s hs).symm) : ∀ s ∈ [r1], ∀ t ∈ [r0], Far s t) s hs r0 (List.mem_singleton.2 rfl))
  simp only [List.length_map] at hM13
  replace Nr1 := hM13
  repeat' (first | (simp (disch := first | omega | assumption | (simp only [List.length_set]; omega) | (simp [*] <;> fail) | assumption) [-Bool.decide_and, -Bool.decide_or, -Bool.not_and, -Bool.not_or, toNat_pred, toNat_succ, wrap64, wr_new, wr_new0, ok_if, ok_ifn, iadV_sl, makeV_int, decT, decF, over_at, *, c_heldFloat32S Nr0.arr, c_heldFloat32S Nr1.arr]) | (with_reducible refine Gd_split (fun hc => ?_) (fun hc => ?_) <;> (have hc2 := hc; try simp at hc2)) | (with_reducible refine Br_split (fun hc => ?_) (fun hc => ?_) <;> (have hc2 := hc; try simp at hc2)) | (with_reducible refine GdT_split (fun hc => ?_) (fun hc => ?_) <;> (have hc2 := hc; try simp at hc2)) | (with_reducible refine WT_alt ?_ ?_) | omega)
  refine c_toTrackS (hAl.kept K13) (hIl.kept K13) hnl hml K13.1 fun w0 g14 pw0 hw0 Ew0 => ?_
  have Bw0 : pw0.length ≤ 16777216 ∧ szD Trk.xs pw0 ≤ 16777216 := ⟨by rw [map_len Ew0]; omega, by rw [szD_map Ew0]; omega⟩
  have K15 := K13.trans hw0.kept
  have Q15 := hw0.kept.1
  have P15 := K15.1
  have Zw0 := hw0.lvs_lt
  have Nw0 := hw0.base K13
  replace Ns0 := Ns0.later hw0.kept
  replace Ns1 := Ns1.later hw0.kept
  replace Nr0 := Nr0.later hw0.kept
  replace Nr1 := Nr1.later hw0.kept
  repeat' (first | (simp (disch := first | omega | assumption | (simp only [List.length_set]; omega) | (simp [*] <;> fail) | assumption) [-Bool.decide_and, -Bool.decide_or, -Bool.not_and, -Bool.not_or, toNat_pred, toNat_succ, wrap64, wr_new, wr_new0, ok_if, ok_ifn, iadV_sl, makeV_int, decT, decF, over_at, *]) | (with_reducible refine Gd_split (fun hc => ?_) (fun hc => ?_) <;> (have hc2 := hc; try simp at hc2)) | (with_reducible refine Br_split (fun hc => ?_) (fun hc => ?_) <;> (have hc2 := hc; try simp at hc2)) | (with_reducible refine GdT_split (fun hc => ?_) (fun hc => ?_) <;> (have hc2 := hc; try simp at hc2)) | (with_reducible refine WT_alt ?_ ?_) | omega)
  refine ci Nw0 Ew0 K15.1 fun u0 u1 g16 hu0 hu1 Fu0u1 => ?_
  have K17 := K15.trans hu0.kept
  have Q17 := hu0.kept.1
  have P17 := K17.1
  have Zu0 := hu0.foot
  have Nu0 := hu0.base K15
  have Zu1 := hu1.foot
  have Nu1 := hu1.base K15
  replace Ns0 := Ns0.later hu0.kept
  replace Ns1 := Ns1.later hu0.kept
  replace Nr0 := Nr0.later hu0.kept
  replace Nr1 := Nr1.later hu0.kept
  replace Nw0 := Nw0.later hu0.kept
  repeat' (first | (simp (disch := first | omega | assumption | (simp only [List.length_set]; omega) | (simp [*] <;> fail) | assumption) [-Bool.decide_and, -Bool.decide_or, -Bool.not_and, -Bool.not_or, toNat_pred, toNat_succ, wrap64, wr_new, wr_new0, ok_if, ok_ifn, iadV_sl, makeV_int, decT, decF, over_at, *, c_eqFloat32S Nu0.arr Ns0.arr, c_eqFloat32S Nu1.arr Ns1.arr, c_heldFloat32S Nr0.arr, c_heldFloat32S Nr1.arr]) | (with_reducible refine Gd_split (fun hc => ?_) (fun hc => ?_) <;> (have hc2 := hc; try simp at hc2)) | (with_reducible refine Br_split (fun hc => ?_) (fun hc => ?_) <;> (have hc2 := hc; try simp at hc2)) | (with_reducible refine GdT_split (fun hc => ?_) (fun hc => ?_) <;> (have hc2 := hc; try simp at hc2)) | (with_reducible refine WT_alt ?_ ?_) | omega)
end Go.E
namespace Go.E.MixTracks
open Go Go.E
def pure : FuncId → Bool := fun f => List.elem f [3, 4, 5, 6, 7, 8, 9, 10, 11, 13, 14, 16, 18, 19, 20, 22, 23, 24, 28, 30, 31, 32, 36, 38, 39, 40, 45, 47, 51, 55, 57, 58, 59, 60, 62, 63, 64, 65, 67, 68, 69, 70, 73, 74, 75, 76, 77, 78, 79, 80, 81, 82, 83, 84, 85, 87, 90, 91, 95, 96, 99, 100, 101, 102, 103, 106, 108, 111, 112, 113, 115, 116, 118, 122, 124, 127, 128, 129, 130, 131, 132, 133, 134, 135, 136, 138, 139, 140, 142, 145, 146, 147, 148, 150, 151, 152, 153, 154, 155, 159, 161, 162, 163, 165, 166, 168, 169, 173, 174, 175, 176, 177, 178, 179, 180, 181, 182, 183, 184, 186, 187, 188, 189, 192, 193, 194, 195, 196, 197, 198, 199, 200, 201, 202, 204, 205, 206, 207, 208, 209, 210, 211, 212, 213, 214, 215, 216, 217, 218, 219, 220, 221, 222, 223, 224, 226, 228, 230, 237, 240]
def funs : List (Nat × LFn) := [(74, L74), (85, L85), (91, L91), (79, L79), (113, L113), (76, L76), (77, L77), (103, L103), (106, L106), (163, L163), (164, L164), (167, L167), (170, L170), (194, L194), (211, L211), (199, L199), (215, L215), (175, L175), (176, L176), (193, L193), (196, L196), (207, L207), (208, L208), (209, L209), (210, L210), (219, L219), (221, L221), (174, L174), (179, L179), (165, L165), (168, L168), (125, L125), (65, L65), (104, L104), (107, L107), (166, L166), (169, L169), (33, L33), (35, L35), (67, L67), (16, L16), (17, L17), (18, L18), (43, L43), (111, L111), (32, L32), (34, L34), (36, L36), (102, L102), (105, L105), (108, L108), (37, L37), (7, L7)]
def Sy : Sys := sysOf funs
theorem lfn74 : lFn Go.Proofs.Try.prog pure Go.Proofs.Try.f74 = some L74 := by kernel_rfl
theorem lfn85 : lFn Go.Proofs.Try.prog pure Go.Proofs.Try.f85 = some L85 := by kernel_rfl
theorem lfn91 : lFn Go.Proofs.Try.prog pure Go.Proofs.Try.f91 = some L91 := by kernel_rfl
theorem lfn79 : lFn Go.Proofs.Try.prog pure Go.Proofs.Try.f79 = some L79 := by kernel_rfl
theorem lfn113 : lFn Go.Proofs.Try.prog pure Go.Proofs.Try.f113 = some L113 := by kernel_rfl
theorem lfn76 : lFn Go.Proofs.Try.prog pure Go.Proofs.Try.f76 = some L76 := by kernel_rfl
theorem lfn77 : lFn Go.Proofs.Try.prog pure Go.Proofs.Try.f77 = some L77 := by kernel_rfl
theorem lfn103 : lFn Go.Proofs.Try.prog pure Go.Proofs.Try.f103 = some L103 := by kernel_rfl
theorem lfn106 : lFn Go.Proofs.Try.prog pure Go.Proofs.Try.f106 = some L106 := by kernel_rfl
theorem lfn163 : lFn Go.Proofs.Try.prog pure Go.Proofs.Try.f163 = some L163 := by kernel_rfl
theorem lfn164 : lFn Go.Proofs.Try.prog pure Go.Proofs.Try.f164 = some L164 := by kernel_rfl
theorem lfn167 : lFn Go.Proofs.Try.prog pure Go.Proofs.Try.f167 = some L167 := by kernel_rfl
theorem lfn170 : lFn Go.Proofs.Try.prog pure Go.Proofs.Try.f170 = some L170 := by kernel_rfl
theorem lfn194 : lFn Go.Proofs.Try.prog pure Go.Proofs.Try.f194 = some L194 := by kernel_rfl
theorem lfn211 : lFn Go.Proofs.Try.prog pure Go.Proofs.Try.f211 = some L211 := by kernel_rfl
theorem lfn199 : lFn Go.Proofs.Try.prog pure Go.Proofs.Try.f199 = some L199 := by kernel_rfl
theorem lfn215 : lFn Go.Proofs.Try.prog pure Go.Proofs.Try.f215 = some L215 := by kernel_rfl
theorem lfn175 : lFn Go.Proofs.Try.prog pure Go.Proofs.Try.f175 = some L175 := by kernel_rfl
theorem lfn176 : lFn Go.Proofs.Try.prog pure Go.Proofs.Try.f176 = some L176 := by kernel_rfl
theorem lfn193 : lFn Go.Proofs.Try.prog pure Go.Proofs.Try.f193 = some L193 := by kernel_rfl
theorem lfn196 : lFn Go.Proofs.Try.prog pure Go.Proofs.Try.f196 = some L196 := by kernel_rfl
theorem lfn207 : lFn Go.Proofs.Try.prog pure Go.Proofs.Try.f207 = some L207 := by kernel_rfl
theorem lfn208 : lFn Go.Proofs.Try.prog pure Go.Proofs.Try.f208 = some L208 := by kernel_rfl
theorem lfn209 : lFn Go.Proofs.Try.prog pure Go.Proofs.Try.f209 = some L209 := by kernel_rfl
theorem lfn210 : lFn Go.Proofs.Try.prog pure Go.Proofs.Try.f210 = some L210 := by kernel_rfl
theorem lfn219 : lFn Go.Proofs.Try.prog pure Go.Proofs.Try.f219 = some L219 := by kernel_rfl
theorem lfn221 : lFn Go.Proofs.Try.prog pure Go.Proofs.Try.f221 = some L221 := by kernel_rfl
theorem lfn174 : lFn Go.Proofs.Try.prog pure Go.Proofs.Try.f174 = some L174 := by kernel_rfl
theorem lfn179 : lFn Go.Proofs.Try.prog pure Go.Proofs.Try.f179 = some L179 := by kernel_rfl
theorem lfn165 : lFn Go.Proofs.Try.prog pure Go.Proofs.Try.f165 = some L165 := by kernel_rfl
theorem lfn168 : lFn Go.Proofs.Try.prog pure Go.Proofs.Try.f168 = some L168 := by kernel_rfl
theorem lfn125 : lFn Go.Proofs.Try.prog pure Go.Proofs.Try.f125 = some L125 := by kernel_rfl
theorem lfn65 : lFn Go.Proofs.Try.prog pure Go.Proofs.Try.f65 = some L65 := by kernel_rfl
theorem lfn104 : lFn Go.Proofs.Try.prog pure Go.Proofs.Try.f104 = some L104 := by kernel_rfl
theorem lfn107 : lFn Go.Proofs.Try.prog pure Go.Proofs.Try.f107 = some L107 := by kernel_rfl
theorem lfn166 : lFn Go.Proofs.Try.prog pure Go.Proofs.Try.f166 = some L166 := by kernel_rfl
theorem lfn169 : lFn Go.Proofs.Try.prog pure Go.Proofs.Try.f169 = some L169 := by kernel_rfl
theorem lfn33 : lFn Go.Proofs.Try.prog pure Go.Proofs.Try.f33 = some L33 := by kernel_rfl
theorem lfn35 : lFn Go.Proofs.Try.prog pure Go.Proofs.Try.f35 = some L35 := by kernel_rfl
theorem lfn67 : lFn Go.Proofs.Try.prog pure Go.Proofs.Try.f67 = some L67 := by kernel_rfl
theorem lfn16 : lFn Go.Proofs.Try.prog pure Go.Proofs.Try.f16 = some L16 := by kernel_rfl
theorem lfn17 : lFn Go.Proofs.Try.prog pure Go.Proofs.Try.f17 = some L17 := by kernel_rfl
theorem lfn18 : lFn Go.Proofs.Try.prog pure Go.Proofs.Try.f18 = some L18 := by kernel_rfl
theorem lfn43 : lFn Go.Proofs.Try.prog pure Go.Proofs.Try.f43 = some L43 := by kernel_rfl
theorem lfn111 : lFn Go.Proofs.Try.prog pure Go.Proofs.Try.f111 = some L111 := by kernel_rfl
theorem lfn32 : lFn Go.Proofs.Try.prog pure Go.Proofs.Try.f32 = some L32 := by kernel_rfl
theorem lfn34 : lFn Go.Proofs.Try.prog pure Go.Proofs.Try.f34 = some L34 := by kernel_rfl
theorem lfn36 : lFn Go.Proofs.Try.prog pure Go.Proofs.Try.f36 = some L36 := by kernel_rfl
theorem lfn102 : lFn Go.Proofs.Try.prog pure Go.Proofs.Try.f102 = some L102 := by kernel_rfl
theorem lfn105 : lFn Go.Proofs.Try.prog pure Go.Proofs.Try.f105 = some L105 := by kernel_rfl
theorem lfn108 : lFn Go.Proofs.Try.prog pure Go.Proofs.Try.f108 = some L108 := by kernel_rfl
theorem lfn37 : lFn Go.Proofs.Try.prog pure Go.Proofs.Try.f37 = some L37 := by kernel_rfl
theorem lfn7 : lFn Go.Proofs.Try.prog pure Go.Proofs.Try.f7 = some L7 := by kernel_rfl
instance : HasA Sy := { f74 := rfl, f85 := rfl, f91 := rfl }
instance : HasP Sy := { f79 := rfl, f113 := rfl }
instance : HasTk Sy := { f76 := rfl, f77 := rfl, f103 := rfl, f106 := rfl, f163 := rfl }
instance : HasHd Sy := { f164 := rfl, f167 := rfl, f170 := rfl, f194 := rfl, f211 := rfl }
instance : HasFa Sy := { f199 := rfl, f215 := rfl }
instance : HasSi Sy := { f175 := rfl, f176 := rfl, f193 := rfl, f196 := rfl, f207 := rfl, f208 := rfl, f209 := rfl, f210 := rfl, f219 := rfl, f221 := rfl }
instance : HasEx Sy := { f174 := rfl, f179 := rfl }
instance : HasGn Sy := { f165 := rfl, f168 := rfl }
instance : HasN Sy := { f125 := rfl }
instance : HasMk Sy := { f65 := rfl, f104 := rfl, f107 := rfl, f166 := rfl, f169 := rfl }
instance : HasMt Sy := { f33 := rfl, f35 := rfl }
instance : HasSame Sy := { f67 := rfl }
instance : HasF Sy := { f16 := rfl, f17 := rfl, f18 := rfl, f43 := rfl }
instance : HasSz Sy := { f111 := rfl }
instance : HasDT Sy := { f32 := rfl, f34 := rfl, f36 := rfl, f102 := rfl, f105 := rfl, f108 := rfl }
instance : HasKT Sy := { f37 := rfl }
instance : HasLMixTracks Sy := { f7 := rfl }
theorem sysOK {B : Nat} {w0 : World} : SysOK Go.Proofs.Try.prog pure Sy B w0 := SysOK.of (by
  intro p hp
  simp only [funs, List.mem_cons, List.not_mem_nil, or_false] at hp
  rcases hp with rfl | rfl | rfl | rfl | rfl | rfl | rfl | rfl | rfl | rfl | rfl | rfl | rfl | rfl | rfl | rfl | rfl | rfl | rfl | rfl | rfl | rfl | rfl | rfl | rfl | rfl | rfl | rfl | rfl | rfl | rfl | rfl | rfl | rfl | rfl | rfl | rfl | rfl | rfl | rfl | rfl | rfl | rfl | rfl | rfl | rfl | rfl | rfl | rfl | rfl | rfl | rfl | rfl
  · exact ⟨_, Go.Proofs.Try.func74, lfn74⟩
  · exact ⟨_, Go.Proofs.Try.func85, lfn85⟩
  · exact ⟨_, Go.Proofs.Try.func91, lfn91⟩
  · exact ⟨_, Go.Proofs.Try.func79, lfn79⟩
  · exact ⟨_, Go.Proofs.Try.func113, lfn113⟩
  · exact ⟨_, Go.Proofs.Try.func76, lfn76⟩
  · exact ⟨_, Go.Proofs.Try.func77, lfn77⟩
  · exact ⟨_, Go.Proofs.Try.func103, lfn103⟩
  · exact ⟨_, Go.Proofs.Try.func106, lfn106⟩
  · exact ⟨_, Go.Proofs.Try.func163, lfn163⟩
  · exact ⟨_, Go.Proofs.Try.func164, lfn164⟩
  · exact ⟨_, Go.Proofs.Try.func167, lfn167⟩
  · exact ⟨_, Go.Proofs.Try.func170, lfn170⟩
  · exact ⟨_, Go.Proofs.Try.func194, lfn194⟩
  · exact ⟨_, Go.Proofs.Try.func211, lfn211⟩
  · exact ⟨_, Go.Proofs.Try.func199, lfn199⟩
  · exact ⟨_, Go.Proofs.Try.func215, lfn215⟩
  · exact ⟨_, Go.Proofs.Try.func175, lfn175⟩
  · exact ⟨_, Go.Proofs.Try.func176, lfn176⟩
  · exact ⟨_, Go.Proofs.Try.func193, lfn193⟩
  · exact ⟨_, Go.Proofs.Try.func196, lfn196⟩
  · exact ⟨_, Go.Proofs.Try.func207, lfn207⟩
  · exact ⟨_, Go.Proofs.Try.func208, lfn208⟩
  · exact ⟨_, Go.Proofs.Try.func209, lfn209⟩
  · exact ⟨_, Go.Proofs.Try.func210, lfn210⟩
  · exact ⟨_, Go.Proofs.Try.func219, lfn219⟩
  · exact ⟨_, Go.Proofs.Try.func221, lfn221⟩
  · exact ⟨_, Go.Proofs.Try.func174, lfn174⟩
  · exact ⟨_, Go.Proofs.Try.func179, lfn179⟩
  · exact ⟨_, Go.Proofs.Try.func165, lfn165⟩
  · exact ⟨_, Go.Proofs.Try.func168, lfn168⟩
  · exact ⟨_, Go.Proofs.Try.func125, lfn125⟩
  · exact ⟨_, Go.Proofs.Try.func65, lfn65⟩
  · exact ⟨_, Go.Proofs.Try.func104, lfn104⟩
  · exact ⟨_, Go.Proofs.Try.func107, lfn107⟩
  · exact ⟨_, Go.Proofs.Try.func166, lfn166⟩
  · exact ⟨_, Go.Proofs.Try.func169, lfn169⟩
  · exact ⟨_, Go.Proofs.Try.func33, lfn33⟩
  · exact ⟨_, Go.Proofs.Try.func35, lfn35⟩
  · exact ⟨_, Go.Proofs.Try.func67, lfn67⟩
  · exact ⟨_, Go.Proofs.Try.func16, lfn16⟩
  · exact ⟨_, Go.Proofs.Try.func17, lfn17⟩
  · exact ⟨_, Go.Proofs.Try.func18, lfn18⟩
  · exact ⟨_, Go.Proofs.Try.func43, lfn43⟩
  · exact ⟨_, Go.Proofs.Try.func111, lfn111⟩
  · exact ⟨_, Go.Proofs.Try.func32, lfn32⟩
  · exact ⟨_, Go.Proofs.Try.func34, lfn34⟩
  · exact ⟨_, Go.Proofs.Try.func36, lfn36⟩
  · exact ⟨_, Go.Proofs.Try.func102, lfn102⟩
  · exact ⟨_, Go.Proofs.Try.func105, lfn105⟩
  · exact ⟨_, Go.Proofs.Try.func108, lfn108⟩
  · exact ⟨_, Go.Proofs.Try.func37, lfn37⟩
  · exact ⟨_, Go.Proofs.Try.func7, lfn7⟩)

end Go.E.MixTracks
