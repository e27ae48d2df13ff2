/- The law of TrackOf: what the evaluator finds. -/
import Derived.Test.YtclbkfmelhheaaaMTo
import Derived.Test.YtclbkfmelhheaaaMSk
import Derived.Test.YtclbkfmelhheaaaMSw
import Derived.Test.YtclbkfmelhheaaaProg
set_option linter.unusedVariables false
set_option linter.unusedSimpArgs false
namespace Go.E
open Go
def L10 : LFn := ⟨3, (.seq (.reg [⟨(.some 3), (.box 40 (.t 0)), none⟩, ⟨(.some 6), (.mv (.c (.lf (.bool false)))), none⟩])
 (.seq (.reg [⟨(.some 7), (.mv (.c (.lf (.int .i64 1048576)))), none⟩])
 (.seq (.reg [⟨(.some 18), (.load true 2 (.t 3)), none⟩, ⟨(.some 19), (.mv (.t 7)), none⟩, ⟨(.some 20), (.call true 19 [(.t 18), (.t 19)]), none⟩, ⟨(.some 7), (.mv (.t 20)), none⟩])
 (.seq (.seq (.reg [⟨(.some 21), (.mv (.t 7)), none⟩, ⟨(.some 22), (.bin .lss (.t 21) (.c (.lf (.int .i64 0)))), none⟩])
 (.cond (.t 22) (.seq (.reg [⟨(.some 6), (.mv (.c (.lf (.bool true)))), none⟩])
 .ret) .skip))
 (.seq (.reg [⟨(.some 24), (.load true 2 (.t 3)), none⟩, ⟨(.some 25), (.call false 21 [(.t 24)]), none⟩, ⟨(.some 26), (.mv (.t 1)), none⟩, ⟨(.some 27), (.mv (.t 2)), none⟩, ⟨(.some 28), (.call false 48 [(.t 25), (.t 26), (.t 27)]), none⟩, ⟨(.some 23), (.mv (.t 28)), none⟩, ⟨(.some 29), (.ext (.t 23) 0), none⟩, ⟨(.some 30), (.ext (.t 23) 1), none⟩, ⟨(.some 8), (.mv (.t 29)), none⟩, ⟨(.some 9), (.mv (.t 30)), none⟩])
 (.seq (.reg [⟨(.some 31), (.load true 2 (.t 3)), none⟩, ⟨(.some 32), (.call false 21 [(.t 31)]), none⟩, ⟨(.some 10), (.alloc 46 [.nils, .nils]), none⟩, ⟨none, (.store 2 (.t 10) (.t 32)), none⟩])
 (.seq (.reg [⟨(.some 34), (.load true 2 (.t 10)), none⟩, ⟨(.some 35), (.mv (.t 1)), none⟩, ⟨(.some 36), (.mv (.t 2)), none⟩, ⟨(.some 37), (.call false 49 [(.t 34), (.t 35), (.t 36)]), none⟩, ⟨(.some 33), (.mv (.t 37)), none⟩, ⟨(.some 38), (.ext (.t 33) 0), none⟩, ⟨(.some 39), (.ext (.t 33) 1), none⟩, ⟨(.some 11), (.mv (.t 38)), none⟩, ⟨(.some 12), (.mv (.t 39)), none⟩])
 (.seq (.seq (.reg [⟨(.some 40), (.mv (.t 11)), none⟩, ⟨(.some 41), (.mv (.t 8)), none⟩, ⟨(.some 42), (.call true 16 [(.t 40), (.t 41)]), none⟩, ⟨(.some 43), (.una .not (.t 42)), none⟩, ⟨(.some 44), (.mv (.t 43)), none⟩, ⟨(.some 45), (.mv (.t 12)), (.some (44, false))⟩, ⟨(.some 46), (.mv (.t 9)), (.some (44, false))⟩, ⟨(.some 47), (.beq true (.t 45) (.t 46)), (.some (44, false))⟩, ⟨(.some 48), (.pick (.t 44) (.c (.lf (.bool true))) (.t 47)), none⟩])
 (.cond (.t 48) (.seq (.reg [⟨(.some 6), (.mv (.c (.lf (.bool false)))), none⟩])
 .ret) .skip))
 (.seq (.seq (.any (.op ⟨(.some 50), (.load true 2 (.t 3)), none⟩ (.alt (.op ⟨(.some 49), (.load true 2 (.t 10)), none⟩ (.op ⟨(.some 51), (.call false 21 [(.t 50)]), none⟩ (.op ⟨(.some 52), (.call true 23 [(.t 49), (.t 51)]), none⟩ (.op ⟨(.some 53), (.una .not (.t 52)), none⟩ .nil)))) (.op ⟨(.some 51), (.call false 21 [(.t 50)]), none⟩ (.op ⟨(.some 49), (.load true 2 (.t 10)), none⟩ (.op ⟨(.some 52), (.call true 23 [(.t 49), (.t 51)]), none⟩ (.op ⟨(.some 53), (.una .not (.t 52)), none⟩ .nil)))))))
 (.cond (.t 53) (.seq (.reg [⟨(.some 6), (.mv (.c (.lf (.bool false)))), none⟩])
 .ret) .skip))
 (.seq (.reg [⟨(.some 13), (.mv (.c (.lf (.int .i64 1)))), none⟩])
 (.seq (.reg [⟨(.some 54), (.load true 2 (.t 10)), none⟩, ⟨(.some 55), (.mv (.t 13)), none⟩, ⟨(.some 56), (.call false 50 [(.t 54), (.t 55)]), none⟩, ⟨(.some 13), (.mv (.t 56)), none⟩])
 (.seq (.seq (.reg [⟨(.some 57), (.mv (.t 13)), none⟩, ⟨(.some 58), (.bin .lss (.t 57) (.c (.lf (.int .i64 0)))), none⟩, ⟨(.some 59), (.mv (.t 58)), none⟩, ⟨(.some 60), (.mv (.t 11)), (.some (59, false))⟩, ⟨(.some 61), (.mv (.t 8)), (.some (59, false))⟩, ⟨(.some 62), (.call true 16 [(.t 60), (.t 61)]), (.some (59, false))⟩, ⟨(.some 63), (.una .not (.t 62)), (.some (59, false))⟩, ⟨(.some 64), (.pick (.t 59) (.c (.lf (.bool true))) (.t 63)), none⟩, ⟨(.some 65), (.mv (.t 64)), none⟩, ⟨(.some 66), (.mv (.t 12)), (.some (65, false))⟩, ⟨(.some 67), (.mv (.t 9)), (.some (65, false))⟩, ⟨(.some 68), (.beq true (.t 66) (.t 67)), (.some (65, false))⟩, ⟨(.some 69), (.pick (.t 65) (.c (.lf (.bool true))) (.t 68)), none⟩])
 (.cond (.t 69) (.seq (.reg [⟨(.some 6), (.mv (.c (.lf (.bool false)))), none⟩])
 .ret) .skip))
 (.seq (.reg [⟨(.some 14), (.mv (.c (.lf (.int .i64 1)))), none⟩])
 (.seq (.reg [⟨(.some 70), (.mv (.t 11)), none⟩, ⟨(.some 71), (.mv (.t 14)), none⟩, ⟨(.some 72), (.call false 17 [(.t 70), (.t 71)]), none⟩, ⟨(.some 14), (.mv (.t 72)), none⟩])
 (.seq (.reg [⟨(.some 15), (.mv (.c (.lf (.int .i64 1)))), none⟩])
 (.seq (.reg [⟨(.some 73), (.mv (.t 11)), none⟩, ⟨(.some 74), (.mv (.t 15)), none⟩, ⟨(.some 75), (.call true 18 [(.t 73), (.t 74)]), none⟩, ⟨(.some 15), (.mv (.t 75)), none⟩])
 (.seq (.seq (.reg [⟨(.some 76), (.mv (.t 15)), none⟩, ⟨(.some 77), (.bin .lss (.t 76) (.c (.lf (.int .i64 0)))), none⟩])
 (.cond (.t 77) (.seq (.reg [⟨(.some 6), (.mv (.c (.lf (.bool false)))), none⟩])
 .ret) .skip))
 (.seq (.seq (.reg [⟨(.some 78), (.mv (.t 15)), none⟩, ⟨(.some 79), (.mv (.t 14)), none⟩, ⟨(.some 80), (.bin .neq (.t 78) (.t 79)), none⟩])
 (.cond (.t 80) (.seq (.reg [⟨(.some 6), (.mv (.c (.lf (.bool false)))), none⟩])
 .ret) .skip))
 (.seq (.reg [⟨(.some 82), (.load true 2 (.t 3)), none⟩, ⟨(.some 83), (.call false 21 [(.t 82)]), none⟩, ⟨(.some 84), (.mv (.t 1)), none⟩, ⟨(.some 85), (.mv (.t 2)), none⟩, ⟨(.some 86), (.call false 49 [(.t 83), (.t 84), (.t 85)]), none⟩, ⟨(.some 81), (.mv (.t 86)), none⟩, ⟨(.some 87), (.ext (.t 81) 0), none⟩, ⟨(.some 88), (.ext (.t 81) 1), none⟩, ⟨(.some 16), (.mv (.t 87)), none⟩, ⟨(.some 17), (.mv (.t 88)), none⟩])
 (.seq (.seq (.reg [⟨(.some 89), (.mv (.t 16)), none⟩, ⟨(.some 90), (.mv (.t 8)), none⟩, ⟨(.some 91), (.call true 16 [(.t 89), (.t 90)]), none⟩, ⟨(.some 92), (.una .not (.t 91)), none⟩, ⟨(.some 93), (.mv (.t 92)), none⟩, ⟨(.some 94), (.mv (.t 17)), (.some (93, false))⟩, ⟨(.some 95), (.mv (.t 9)), (.some (93, false))⟩, ⟨(.some 96), (.beq true (.t 94) (.t 95)), (.some (93, false))⟩, ⟨(.some 97), (.pick (.t 93) (.c (.lf (.bool true))) (.t 96)), none⟩])
 (.cond (.t 97) (.seq (.reg [⟨(.some 6), (.mv (.c (.lf (.bool false)))), none⟩])
 .ret) .skip))
 (.seq (.reg [⟨(.some 15), (.mv (.c (.lf (.int .i64 1)))), none⟩])
 (.seq (.reg [⟨(.some 98), (.mv (.t 11)), none⟩, ⟨(.some 99), (.mv (.t 15)), none⟩, ⟨(.some 100), (.call true 18 [(.t 98), (.t 99)]), none⟩, ⟨(.some 15), (.mv (.t 100)), none⟩])
 (.seq (.seq (.reg [⟨(.some 101), (.mv (.t 15)), none⟩, ⟨(.some 102), (.bin .lss (.t 101) (.c (.lf (.int .i64 0)))), none⟩])
 (.cond (.t 102) (.seq (.reg [⟨(.some 6), (.mv (.c (.lf (.bool false)))), none⟩])
 .ret) .skip))
 (.seq (.seq (.reg [⟨(.some 103), (.mv (.t 15)), none⟩, ⟨(.some 104), (.mv (.t 14)), none⟩, ⟨(.some 105), (.bin .neq (.t 103) (.t 104)), none⟩])
 (.cond (.t 105) (.seq (.reg [⟨(.some 6), (.mv (.c (.lf (.bool false)))), none⟩])
 .ret) .skip))
 (.seq (.reg [⟨(.some 6), (.mv (.c (.lf (.bool true)))), none⟩])
 .ret))))))))))))))))))))))))), [(.tmp 6)]⟩
class HasLTrackOf (S : Sys) : Prop extends HasTo S, HasDN S, HasKN S where
  f10 : S.fs 10 = some L10
set_option maxRecDepth 20000 in
set_option maxHeartbeats 8000000 in
theorem lawTrackOf {S : Sys} [HasLTrackOf S] : LawHolds S 10 [(true, sesSh), (false, .int .i64), (false, .int .i64)] := by
  intro h cs hcs
  obtain ⟨c0, _, rfl, ⟨ls0, rfl, t0⟩, c1, _, rfl, ⟨ls1, rfl, t, rfl, _⟩, c2, _, rfl, ⟨ls2, rfl, n, rfl, _⟩, rfl⟩ := hcs
  obtain ⟨l, l2, es, ss, rfl, hC, hCI, hS, hSI, _⟩ := ses_of t0
  clear t0
  have hmk : mkV true [l, l2] = .agg [l, l2] := rfl
  refine law_of (F := L10) HasLTrackOf.f10 rfl ?_
  have b2 : ∀ g, Kept (h ++ [⟨[l, l2], .own 40 1⟩]) g → rdCells g h.length 0 2 = some [l, l2] := fun g k => k.rd (Cel.new.rd (by simp))
  have b20 := b2 _ (Kept.refl _)
  have kb := Kept.app h [⟨[l, l2], .own 40 1⟩]
  have hl1 : h.length + 1 ≤ (h ++ [⟨[l, l2], .own 40 1⟩] : Hp).length := by simp
  unfold L10
  dsimp only []
  generalize hH : (h ++ [⟨[l, l2], .own 40 1⟩] : Hp) = h1 at *
  replace hC := hC.kept kb
  replace hCI := hCI.kept kb
  replace hS := hS.kept kb
  replace hSI := hSI.kept kb
  have hs := fun K lim => c_szSession (S := S) (K := K) (lim := lim) hC hCI hS hSI (b := 1048576) (by decide) (by decide)
  by_cases hsz : (1048576 : Int) < es.length + szD Eff.nums es + (ss.length + szD Str.ro ss)
  · rw [if_pos hsz] at hs
    repeat' (first | (simp (disch := first | omega | assumption | (simp only [List.length_set]; omega) | (simp [*] <;> fail) | assumption) [-Bool.decide_and, -Bool.decide_or, -Bool.not_and, -Bool.not_or, toNat_pred, toNat_succ, wrap64, wr_new, wr_new0, ok_if, ok_ifn, iadV_sl, makeV_int, decT, decF, over_at, *]) | (with_reducible refine Gd_split (fun hc => ?_) (fun hc => ?_) <;> (have hc2 := hc; try simp at hc2)) | (with_reducible refine Br_split (fun hc => ?_) (fun hc => ?_) <;> (have hc2 := hc; try simp at hc2)) | (with_reducible refine GdT_split (fun hc => ?_) (fun hc => ?_) <;> (have hc2 := hc; try simp at hc2)) | (with_reducible refine WT_alt ?_ ?_) | omega)
  rw [if_neg hsz] at hs
  repeat' (first | (simp (disch := first | omega | assumption | (simp only [List.length_set]; omega) | (simp [*] <;> fail) | assumption) [-Bool.decide_and, -Bool.decide_or, -Bool.not_and, -Bool.not_or, toNat_pred, toNat_succ, wrap64, wr_new, wr_new0, ok_if, ok_ifn, iadV_sl, makeV_int, decT, decF, over_at, *]) | (with_reducible refine Gd_split (fun hc => ?_) (fun hc => ?_) <;> (have hc2 := hc; try simp at hc2)) | (with_reducible refine Br_split (fun hc => ?_) (fun hc => ?_) <;> (have hc2 := hc; try simp at hc2)) | (with_reducible refine GdT_split (fun hc => ?_) (fun hc => ?_) <;> (have hc2 := hc; try simp at hc2)) | (with_reducible refine WT_alt ?_ ?_) | omega)
  have q1 : es.length ≤ 16777216 := by omega
  have q2 : szD Eff.nums es ≤ 16777216 := by omega
  have q3 : ss.length ≤ 16777216 := by omega
  have q4 : szD Str.ro ss ≤ 16777216 := by omega
  clear hs hsz b20
  have cs : ∀ {g g0 a0 a1 d r K}, NewD g0 g a0 118 3 Eff.cells Eff.nums 22 d → d.map (·.1) = es.map (·.1) → NewS g0 g a1 r → valS r = valS ss → h.length ≤ g.length → (∀ o g', New g g' o 22 1 ((toR (es.map (·.1)) (valS ss) t n).map fl) → K (.tup [.lf o, .lf (.bool (decide (okTo (es.map (·.1)) (valS ss) t n)))]) g') → CallT S false 48 [.agg [a0, a1], .lf (.int .i64 t), .lf (.int .i64 n)] g h.length K := fun h0 e0 h1 e1 hl hk => c_specTrackOf h0.arr h0.ins h1.arr h1.ins hl (fun o g hO => by rw [e0, e1] at hO ⊢; exact hk o g hO)
  have ci : ∀ {g g0 a0 a1 d r K}, NewD g0 g a0 118 3 Eff.cells Eff.nums 22 d → d.map (·.1) = es.map (·.1) → NewS g0 g a1 r → valS r = valS ss → h.length ≤ g.length → (∀ o g', New g g' o 22 1 ((toR (es.map (·.1)) (valS ss) t n).map fl) → K (.tup [.lf o, .lf (.bool (decide (okTo (es.map (·.1)) (valS ss) t n)))]) g') → CallT S false 49 [.agg [a0, a1], .lf (.int .i64 t), .lf (.int .i64 n)] g h.length K := fun h0 e0 h1 e1 hl hk => c_implTrackOf h0.arr h0.ins h1.arr h1.ins hl (fun o g hO => by rw [e0, e1] at hO ⊢; exact hk o g hO)
  have hy := toR_len (cs := es.map (·.1)) (vs := valS ss) (t := t) (n := n)
  generalize toR (es.map (·.1)) (valS ss) t n = y at *
  generalize decide (okTo (es.map (·.1)) (valS ss) t n) = ok at *
  have tos : ∀ {g : Hp} {K : CV → Hp → Prop}, Kept h1 g → (∀ m m2 g' ds rs, NewD g g' m 118 3 Eff.cells Eff.nums 22 ds → ds.map (·.1) = es.map (·.1) → NewS g g' m2 rs → valS rs = valS ss → (∀ a ∈ lvs m ds, ∀ b ∈ lvS m2 rs, Far a b) → K (.agg [m, m2]) g') → CallT S false 21 [.agg [l, l2]] g h.length K := fun k hk => c_toSession (hC.kept k) (hCI.kept k) q1 q2 (hS.kept k) (hSI.kept k) q3 q4 (by have := k.1; omega) hk
  clear hC hCI hS hSI
  refine tos (Kept.refl _) fun a0 a1 g1 d1 r1 hD1 hd1 hR1 hr1 _ => ?_
  have k1 := hD1.kept
  have n1 := k1.1
  have b21 := b2 _ k1
  repeat' (first | (simp (disch := first | omega | assumption | (simp only [List.length_set]; omega) | (simp [*] <;> fail) | assumption) [-Bool.decide_and, -Bool.decide_or, -Bool.not_and, -Bool.not_or, toNat_pred, toNat_succ, wrap64, wr_new, wr_new0, ok_if, ok_ifn, iadV_sl, makeV_int, decT, decF, over_at, *]) | (with_reducible refine Gd_split (fun hc => ?_) (fun hc => ?_) <;> (have hc2 := hc; try simp at hc2)) | (with_reducible refine Br_split (fun hc => ?_) (fun hc => ?_) <;> (have hc2 := hc; try simp at hc2)) | (with_reducible refine GdT_split (fun hc => ?_) (fun hc => ?_) <;> (have hc2 := hc; try simp at hc2)) | (with_reducible refine WT_alt ?_ ?_) | omega)
  refine cs hD1 hd1 hR1 hr1 (by omega) fun s0 g2 hs0 => ?_
  have k2 := k1.trans hs0.kept
  have n2 := k2.1
  have b22 := b2 _ k2
  have Ns := hs0.base k1
  clear b21 hD1 hR1 hd1 hr1
  repeat' (first | (simp (disch := first | omega | assumption | (simp only [List.length_set]; omega) | (simp [*] <;> fail) | assumption) [-Bool.decide_and, -Bool.decide_or, -Bool.not_and, -Bool.not_or, toNat_pred, toNat_succ, wrap64, wr_new, wr_new0, ok_if, ok_ifn, iadV_sl, makeV_int, decT, decF, over_at, *]) | (with_reducible refine Gd_split (fun hc => ?_) (fun hc => ?_) <;> (have hc2 := hc; try simp at hc2)) | (with_reducible refine Br_split (fun hc => ?_) (fun hc => ?_) <;> (have hc2 := hc; try simp at hc2)) | (with_reducible refine GdT_split (fun hc => ?_) (fun hc => ?_) <;> (have hc2 := hc; try simp at hc2)) | (with_reducible refine WT_alt ?_ ?_) | omega)
  refine tos k2 fun a3 a4 g3 d2 r2 hD2 hd2 hR2 hr2 hf2 => ?_
  have k3 := k2.trans hD2.kept
  have n3 := k3.1
  have n23 := hD2.kept.1
  have hZ : ∀ s ∈ lvs a3 d2 ++ lvS a4 r2, s ≠ .nils → g2.length ≤ s.id ∧ s.id < g3.length := fun s hs q => by
    rcases List.mem_append.1 hs with hs | hs
    · exact hD2.lvs_lt s hs q
    · exact hR2.lvs_lt s hs q
  have hZs := (hs0.lt)
  replace Ns := Ns.later hD2.kept
  clear b22
  repeat' (first | (simp (disch := first | omega | assumption | (simp only [List.length_set]; omega) | (simp [*] <;> fail) | assumption) [-Bool.decide_and, -Bool.decide_or, -Bool.not_and, -Bool.not_or, toNat_pred, toNat_succ, wrap64, wr_new, wr_new0, ok_if, ok_ifn, iadV_sl, makeV_int, decT, decF, over_at, *, leavesAll, fillL]) | (with_reducible refine Gd_split (fun hc => ?_) (fun hc => ?_) <;> (have hc2 := hc; try simp at hc2)) | (with_reducible refine Br_split (fun hc => ?_) (fun hc => ?_) <;> (have hc2 := hc; try simp at hc2)) | (with_reducible refine GdT_split (fun hc => ?_) (fun hc => ?_) <;> (have hc2 := hc; try simp at hc2)) | (with_reducible refine WT_alt ?_ ?_) | omega)
  have kx := Kept.app g3 [⟨[a3, a4], .own 46 1⟩]
  have bx : rdCells (g3 ++ [⟨[a3, a4], .own 46 1⟩]) g3.length 0 2 = some [a3, a4] := Cel.new.rd (by simp)
  replace hD2 := hD2.later kx
  replace hR2 := hR2.later kx
  replace Ns := Ns.later kx
  have hG : (g3 ++ [⟨[a3, a4], .own 46 1⟩] : Hp).length = g3.length + 1 := by simp
  replace k3 := k3.trans kx
  generalize (g3 ++ [⟨[a3, a4], .own 46 1⟩] : Hp) = g3' at *
  have bx0 := bx
  refine ci hD2 hd2 hR2 hr2 (by omega) fun r0 g4 hr0 => ?_
  have k4 := k3.trans hr0.kept
  have n4 := k4.1
  have n34 := hr0.kept.1
  have hZr := hr0.lt
  have Nr := hr0.base k3
  replace Ns := Ns.later hr0.kept
  replace hD2 := hD2.later hr0.kept
  replace hR2 := hR2.later hr0.kept
  replace bx := hr0.kept.rd bx
  have b24 := b2 _ k4
  repeat' (first | (simp (disch := first | omega | assumption | (simp only [List.length_set]; omega) | (simp [*] <;> fail) | assumption) [-Bool.decide_and, -Bool.decide_or, -Bool.not_and, -Bool.not_or, toNat_pred, toNat_succ, wrap64, wr_new, wr_new0, ok_if, ok_ifn, iadV_sl, makeV_int, decT, decF, over_at, *, c_eqFloat32S Nr.arr Ns.arr]) | (with_reducible refine Gd_split (fun hc => ?_) (fun hc => ?_) <;> (have hc2 := hc; try simp at hc2)) | (with_reducible refine Br_split (fun hc => ?_) (fun hc => ?_) <;> (have hc2 := hc; try simp at hc2)) | (with_reducible refine GdT_split (fun hc => ?_) (fun hc => ?_) <;> (have hc2 := hc; try simp at hc2)) | (with_reducible refine WT_alt ?_ ?_) | omega)
  all_goals
    refine tos k4 fun a5 a6 g5 d3 r3 hD3 hd3 hR3 hr3 _ => ?_
    have k5 := k4.trans hD3.kept
    have n5 := k5.1
    have Ns5 := Ns.later hD3.kept
    have Nr5 := Nr.later hD3.kept
    have hD5 := hD2.later hD3.kept
    have hR5 := hR2.later hD3.kept
    have bx5 := hD3.kept.rd bx
    have ce := fun K lim => c_eqSession (S := S) (K := K) (lim := lim) hD5.arr hD5.ins hD3.arr hD3.ins (hd3.trans hd2.symm) hR5.arr hR5.ins hR3.arr hR3.ins (hr3.trans hr2.symm)
    have e1 : d2.length = es.length := map_len hd2
    have e2 : szD Eff.nums d2 = szD Eff.nums es := szD_map hd2
    have e3 : r2.length = ss.length := valS_eq hr2
    have e4 : szD Str.ro r2 = szD Str.ro ss := szR_eq hr2
    repeat' (first | (simp (disch := first | omega | assumption | (simp only [List.length_set]; omega) | (simp [*] <;> fail) | assumption) [-Bool.decide_and, -Bool.decide_or, -Bool.not_and, -Bool.not_or, toNat_pred, toNat_succ, wrap64, wr_new, wr_new0, ok_if, ok_ifn, iadV_sl, makeV_int, decT, decF, over_at, *]) | (with_reducible refine Gd_split (fun hc => ?_) (fun hc => ?_) <;> (have hc2 := hc; try simp at hc2)) | (with_reducible refine Br_split (fun hc => ?_) (fun hc => ?_) <;> (have hc2 := hc; try simp at hc2)) | (with_reducible refine GdT_split (fun hc => ?_) (fun hc => ?_) <;> (have hc2 := hc; try simp at hc2)) | (with_reducible refine WT_alt ?_ ?_) | omega)
    refine c_markSession hD5 hR5 hf2 (by omega) (by omega) (by omega) (by omega) (by omega) fun k' g6 hk0 hB6 => ?_
    have hlo : ∀ s ∈ lvs a3 d2 ++ lvS a4 r2, s ≠ .nils → h1.length ≤ s.id := fun s hs q => by have := (hZ s hs q).1; omega
    have k6 := hB6.kept k5 hlo
    have n6 := k6.1
    have Ns6 := hB6.new Ns5 hlo fun s hs p1 p2 e => by have := (hZ s hs p1).1; have := (hZs p2).2; omega
    have Nr6 := hB6.new Nr5 hlo fun s hs p1 p2 e => by have := (hZ s hs p1).2; have := (hZr p2).1; omega
    have b26 := b2 _ k6
    clear ce hD5 hR5 bx5 hD3 hR3 hB6
    repeat' (first | (simp (disch := first | omega | assumption | (simp only [List.length_set]; omega) | (simp [*] <;> fail) | assumption) [-Bool.decide_and, -Bool.decide_or, -Bool.not_and, -Bool.not_or, toNat_pred, toNat_succ, wrap64, wr_new, wr_new0, ok_if, ok_ifn, iadV_sl, makeV_int, decT, decF, over_at, *, c_eqFloat32S Nr6.arr Ns6.arr]) | (with_reducible refine Gd_split (fun hc => ?_) (fun hc => ?_) <;> (have hc2 := hc; try simp at hc2)) | (with_reducible refine Br_split (fun hc => ?_) (fun hc => ?_) <;> (have hc2 := hc; try simp at hc2)) | (with_reducible refine GdT_split (fun hc => ?_) (fun hc => ?_) <;> (have hc2 := hc; try simp at hc2)) | (with_reducible refine WT_alt ?_ ?_) | omega)
    refine c_markFloat32S Nr6 (by simp; omega) (by omega) (by omega) (by omega) fun g7 hM7 hC7 => ?_
    have hB7 := hC7.buts
    have hlo7 : ∀ s ∈ [r0], s ≠ .nils → h1.length ≤ s.id := fun s hs q => by rw [List.mem_singleton] at hs; subst hs; have := (hZr q).1; omega
    have k7 := hB7.kept k6 hlo7
    have Ns7 := hB7.new Ns6 hlo7 fun s hs p1 p2 e => by rw [List.mem_singleton] at hs; subst hs; have := (hZr p1).1; have := (hZs p2).2; omega
    have n7 := k7.1
    simp only [List.length_map] at hM7
    have b27 := b2 _ k7
    clear b26 hC7 hB7
    repeat' (first | (simp (disch := first | omega | assumption | (simp only [List.length_set]; omega) | (simp [*] <;> fail) | assumption) [-Bool.decide_and, -Bool.decide_or, -Bool.not_and, -Bool.not_or, toNat_pred, toNat_succ, wrap64, wr_new, wr_new0, ok_if, ok_ifn, iadV_sl, makeV_int, decT, decF, over_at, *, c_heldFloat32S hM7.arr]) | (with_reducible refine Gd_split (fun hc => ?_) (fun hc => ?_) <;> (have hc2 := hc; try simp at hc2)) | (with_reducible refine Br_split (fun hc => ?_) (fun hc => ?_) <;> (have hc2 := hc; try simp at hc2)) | (with_reducible refine GdT_split (fun hc => ?_) (fun hc => ?_) <;> (have hc2 := hc; try simp at hc2)) | (with_reducible refine WT_alt ?_ ?_) | omega)
    refine tos k7 fun a7 a8 g8 d4 r4 hD4 hd4 hR4 hr4 _ => ?_
    have k8 := k7.trans hD4.kept
    have n8 := k8.1
    clear b27
    repeat' (first | (simp (disch := first | omega | assumption | (simp only [List.length_set]; omega) | (simp [*] <;> fail) | assumption) [-Bool.decide_and, -Bool.decide_or, -Bool.not_and, -Bool.not_or, toNat_pred, toNat_succ, wrap64, wr_new, wr_new0, ok_if, ok_ifn, iadV_sl, makeV_int, decT, decF, over_at, *]) | (with_reducible refine Gd_split (fun hc => ?_) (fun hc => ?_) <;> (have hc2 := hc; try simp at hc2)) | (with_reducible refine Br_split (fun hc => ?_) (fun hc => ?_) <;> (have hc2 := hc; try simp at hc2)) | (with_reducible refine GdT_split (fun hc => ?_) (fun hc => ?_) <;> (have hc2 := hc; try simp at hc2)) | (with_reducible refine WT_alt ?_ ?_) | omega)
    refine ci hD4 hd4 hR4 hr4 (by omega) fun u0 g9 hu0 => ?_
    have k9 := hD4.kept.trans hu0.kept
    have Ns9 := Ns7.later k9
    have Nr9 := hM7.later k9
    repeat' (first | (simp (disch := first | omega | assumption | (simp only [List.length_set]; omega) | (simp [*] <;> fail) | assumption) [-Bool.decide_and, -Bool.decide_or, -Bool.not_and, -Bool.not_or, toNat_pred, toNat_succ, wrap64, wr_new, wr_new0, ok_if, ok_ifn, iadV_sl, makeV_int, decT, decF, over_at, *, c_eqFloat32S hu0.arr Ns9.arr, c_heldFloat32S Nr9.arr]) | (with_reducible refine Gd_split (fun hc => ?_) (fun hc => ?_) <;> (have hc2 := hc; try simp at hc2)) | (with_reducible refine Br_split (fun hc => ?_) (fun hc => ?_) <;> (have hc2 := hc; try simp at hc2)) | (with_reducible refine GdT_split (fun hc => ?_) (fun hc => ?_) <;> (have hc2 := hc; try simp at hc2)) | (with_reducible refine WT_alt ?_ ?_) | omega)
end Go.E
namespace Go.E.TrackOf
open Go Go.E
def pure : FuncId → Bool := fun f => List.elem f [3, 4, 5, 6, 7, 8, 9, 10, 11, 13, 14, 16, 18, 19, 20, 22, 23, 24, 28, 30, 31, 32, 36, 38, 39, 40, 45, 47, 51, 55, 57, 58, 59, 60, 62, 63, 64, 65, 67, 68, 69, 70, 73, 74, 75, 76, 77, 78, 79, 80, 81, 82, 83, 84, 85, 87, 90, 91, 95, 96, 99, 100, 101, 102, 103, 106, 108, 111, 112, 113, 115, 116, 118, 122, 124, 127, 128, 129, 130, 131, 132, 133, 134, 135, 136, 138, 139, 140, 142, 145, 146, 147, 148, 150, 151, 152, 153, 154, 155, 159, 161, 162, 163, 165, 166, 168, 169, 173, 174, 175, 176, 177, 178, 179, 180, 181, 182, 183, 184, 186, 187, 188, 189, 192, 193, 194, 195, 196, 197, 198, 199, 200, 201, 202, 204, 205, 206, 207, 208, 209, 210, 211, 212, 213, 214, 215, 216, 217, 218, 219, 220, 221, 222, 223, 224, 226, 228, 230, 237, 240]
def funs : List (Nat × LFn) := [(74, L74), (85, L85), (91, L91), (75, L75), (142, L142), (145, L145), (184, L184), (186, L186), (187, L187), (201, L201), (202, L202), (204, L204), (216, L216), (79, L79), (113, L113), (76, L76), (77, L77), (103, L103), (106, L106), (163, L163), (22, L22), (65, L65), (70, L70), (73, L73), (78, L78), (141, L141), (125, L125), (48, L48), (49, L49), (116, L116), (117, L117), (118, L118), (119, L119), (67, L67), (16, L16), (17, L17), (18, L18), (43, L43), (111, L111), (68, L68), (71, L71), (80, L80), (139, L139), (143, L143), (146, L146), (183, L183), (185, L185), (188, L188), (200, L200), (203, L203), (205, L205), (69, L69), (72, L72), (81, L81), (140, L140), (144, L144), (147, L147), (19, L19), (21, L21), (23, L23), (120, L120), (171, L171), (121, L121), (50, L50), (10, L10)]
def Sy : Sys := sysOf funs
theorem lfn74 : lFn Go.Proofs.Try.prog pure Go.Proofs.Try.f74 = some L74 := by kernel_rfl
theorem lfn85 : lFn Go.Proofs.Try.prog pure Go.Proofs.Try.f85 = some L85 := by kernel_rfl
theorem lfn91 : lFn Go.Proofs.Try.prog pure Go.Proofs.Try.f91 = some L91 := by kernel_rfl
theorem lfn75 : lFn Go.Proofs.Try.prog pure Go.Proofs.Try.f75 = some L75 := by kernel_rfl
theorem lfn142 : lFn Go.Proofs.Try.prog pure Go.Proofs.Try.f142 = some L142 := by kernel_rfl
theorem lfn145 : lFn Go.Proofs.Try.prog pure Go.Proofs.Try.f145 = some L145 := by kernel_rfl
theorem lfn184 : lFn Go.Proofs.Try.prog pure Go.Proofs.Try.f184 = some L184 := by kernel_rfl
theorem lfn186 : lFn Go.Proofs.Try.prog pure Go.Proofs.Try.f186 = some L186 := by kernel_rfl
theorem lfn187 : lFn Go.Proofs.Try.prog pure Go.Proofs.Try.f187 = some L187 := by kernel_rfl
theorem lfn201 : lFn Go.Proofs.Try.prog pure Go.Proofs.Try.f201 = some L201 := by kernel_rfl
theorem lfn202 : lFn Go.Proofs.Try.prog pure Go.Proofs.Try.f202 = some L202 := by kernel_rfl
theorem lfn204 : lFn Go.Proofs.Try.prog pure Go.Proofs.Try.f204 = some L204 := by kernel_rfl
theorem lfn216 : lFn Go.Proofs.Try.prog pure Go.Proofs.Try.f216 = some L216 := by kernel_rfl
theorem lfn79 : lFn Go.Proofs.Try.prog pure Go.Proofs.Try.f79 = some L79 := by kernel_rfl
theorem lfn113 : lFn Go.Proofs.Try.prog pure Go.Proofs.Try.f113 = some L113 := by kernel_rfl
theorem lfn76 : lFn Go.Proofs.Try.prog pure Go.Proofs.Try.f76 = some L76 := by kernel_rfl
theorem lfn77 : lFn Go.Proofs.Try.prog pure Go.Proofs.Try.f77 = some L77 := by kernel_rfl
theorem lfn103 : lFn Go.Proofs.Try.prog pure Go.Proofs.Try.f103 = some L103 := by kernel_rfl
theorem lfn106 : lFn Go.Proofs.Try.prog pure Go.Proofs.Try.f106 = some L106 := by kernel_rfl
theorem lfn163 : lFn Go.Proofs.Try.prog pure Go.Proofs.Try.f163 = some L163 := by kernel_rfl
theorem lfn22 : lFn Go.Proofs.Try.prog pure Go.Proofs.Try.f22 = some L22 := by kernel_rfl
theorem lfn65 : lFn Go.Proofs.Try.prog pure Go.Proofs.Try.f65 = some L65 := by kernel_rfl
theorem lfn70 : lFn Go.Proofs.Try.prog pure Go.Proofs.Try.f70 = some L70 := by kernel_rfl
theorem lfn73 : lFn Go.Proofs.Try.prog pure Go.Proofs.Try.f73 = some L73 := by kernel_rfl
theorem lfn78 : lFn Go.Proofs.Try.prog pure Go.Proofs.Try.f78 = some L78 := by kernel_rfl
theorem lfn141 : lFn Go.Proofs.Try.prog pure Go.Proofs.Try.f141 = some L141 := by kernel_rfl
theorem lfn125 : lFn Go.Proofs.Try.prog pure Go.Proofs.Try.f125 = some L125 := by kernel_rfl
theorem lfn48 : lFn Go.Proofs.Try.prog pure Go.Proofs.Try.f48 = some L48 := by kernel_rfl
theorem lfn49 : lFn Go.Proofs.Try.prog pure Go.Proofs.Try.f49 = some L49 := by kernel_rfl
theorem lfn116 : lFn Go.Proofs.Try.prog pure Go.Proofs.Try.f116 = some L116 := by kernel_rfl
theorem lfn117 : lFn Go.Proofs.Try.prog pure Go.Proofs.Try.f117 = some L117 := by kernel_rfl
theorem lfn118 : lFn Go.Proofs.Try.prog pure Go.Proofs.Try.f118 = some L118 := by kernel_rfl
theorem lfn119 : lFn Go.Proofs.Try.prog pure Go.Proofs.Try.f119 = some L119 := by kernel_rfl
theorem lfn67 : lFn Go.Proofs.Try.prog pure Go.Proofs.Try.f67 = some L67 := by kernel_rfl
theorem lfn16 : lFn Go.Proofs.Try.prog pure Go.Proofs.Try.f16 = some L16 := by kernel_rfl
theorem lfn17 : lFn Go.Proofs.Try.prog pure Go.Proofs.Try.f17 = some L17 := by kernel_rfl
theorem lfn18 : lFn Go.Proofs.Try.prog pure Go.Proofs.Try.f18 = some L18 := by kernel_rfl
theorem lfn43 : lFn Go.Proofs.Try.prog pure Go.Proofs.Try.f43 = some L43 := by kernel_rfl
theorem lfn111 : lFn Go.Proofs.Try.prog pure Go.Proofs.Try.f111 = some L111 := by kernel_rfl
theorem lfn68 : lFn Go.Proofs.Try.prog pure Go.Proofs.Try.f68 = some L68 := by kernel_rfl
theorem lfn71 : lFn Go.Proofs.Try.prog pure Go.Proofs.Try.f71 = some L71 := by kernel_rfl
theorem lfn80 : lFn Go.Proofs.Try.prog pure Go.Proofs.Try.f80 = some L80 := by kernel_rfl
theorem lfn139 : lFn Go.Proofs.Try.prog pure Go.Proofs.Try.f139 = some L139 := by kernel_rfl
theorem lfn143 : lFn Go.Proofs.Try.prog pure Go.Proofs.Try.f143 = some L143 := by kernel_rfl
theorem lfn146 : lFn Go.Proofs.Try.prog pure Go.Proofs.Try.f146 = some L146 := by kernel_rfl
theorem lfn183 : lFn Go.Proofs.Try.prog pure Go.Proofs.Try.f183 = some L183 := by kernel_rfl
theorem lfn185 : lFn Go.Proofs.Try.prog pure Go.Proofs.Try.f185 = some L185 := by kernel_rfl
theorem lfn188 : lFn Go.Proofs.Try.prog pure Go.Proofs.Try.f188 = some L188 := by kernel_rfl
theorem lfn200 : lFn Go.Proofs.Try.prog pure Go.Proofs.Try.f200 = some L200 := by kernel_rfl
theorem lfn203 : lFn Go.Proofs.Try.prog pure Go.Proofs.Try.f203 = some L203 := by kernel_rfl
theorem lfn205 : lFn Go.Proofs.Try.prog pure Go.Proofs.Try.f205 = some L205 := by kernel_rfl
theorem lfn69 : lFn Go.Proofs.Try.prog pure Go.Proofs.Try.f69 = some L69 := by kernel_rfl
theorem lfn72 : lFn Go.Proofs.Try.prog pure Go.Proofs.Try.f72 = some L72 := by kernel_rfl
theorem lfn81 : lFn Go.Proofs.Try.prog pure Go.Proofs.Try.f81 = some L81 := by kernel_rfl
theorem lfn140 : lFn Go.Proofs.Try.prog pure Go.Proofs.Try.f140 = some L140 := by kernel_rfl
theorem lfn144 : lFn Go.Proofs.Try.prog pure Go.Proofs.Try.f144 = some L144 := by kernel_rfl
theorem lfn147 : lFn Go.Proofs.Try.prog pure Go.Proofs.Try.f147 = some L147 := by kernel_rfl
theorem lfn19 : lFn Go.Proofs.Try.prog pure Go.Proofs.Try.f19 = some L19 := by kernel_rfl
theorem lfn21 : lFn Go.Proofs.Try.prog pure Go.Proofs.Try.f21 = some L21 := by kernel_rfl
theorem lfn23 : lFn Go.Proofs.Try.prog pure Go.Proofs.Try.f23 = some L23 := by kernel_rfl
theorem lfn120 : lFn Go.Proofs.Try.prog pure Go.Proofs.Try.f120 = some L120 := by kernel_rfl
theorem lfn171 : lFn Go.Proofs.Try.prog pure Go.Proofs.Try.f171 = some L171 := by kernel_rfl
theorem lfn121 : lFn Go.Proofs.Try.prog pure Go.Proofs.Try.f121 = some L121 := by kernel_rfl
theorem lfn50 : lFn Go.Proofs.Try.prog pure Go.Proofs.Try.f50 = some L50 := by kernel_rfl
theorem lfn10 : lFn Go.Proofs.Try.prog pure Go.Proofs.Try.f10 = some L10 := by kernel_rfl
instance : HasA Sy := { f74 := rfl, f85 := rfl, f91 := rfl }
instance : HasEf Sy := { f75 := rfl, f142 := rfl, f145 := rfl, f184 := rfl, f186 := rfl, f187 := rfl, f201 := rfl, f202 := rfl, f204 := rfl, f216 := rfl }
instance : HasP Sy := { f79 := rfl, f113 := rfl }
instance : HasTk Sy := { f76 := rfl, f77 := rfl, f103 := rfl, f106 := rfl, f163 := rfl }
instance : HasSv Sy := { f22 := rfl, f65 := rfl, f70 := rfl, f73 := rfl, f78 := rfl, f141 := rfl }
instance : HasN Sy := { f125 := rfl }
instance : HasTo Sy := { f48 := rfl, f49 := rfl, f116 := rfl, f117 := rfl, f118 := rfl, f119 := rfl }
instance : HasSame Sy := { f67 := rfl }
instance : HasF Sy := { f16 := rfl, f17 := rfl, f18 := rfl, f43 := rfl }
instance : HasSz Sy := { f111 := rfl }
instance : HasDC Sy := { f68 := rfl, f71 := rfl, f80 := rfl, f139 := rfl, f143 := rfl, f146 := rfl }
instance : HasDE Sy := { f183 := rfl, f185 := rfl, f188 := rfl, f200 := rfl, f203 := rfl, f205 := rfl }
instance : HasDP Sy := { f69 := rfl, f72 := rfl, f81 := rfl, f140 := rfl, f144 := rfl, f147 := rfl }
instance : HasDN Sy := { f19 := rfl, f21 := rfl, f23 := rfl }
instance : HasKC Sy := { f120 := rfl }
instance : HasKE Sy := { f171 := rfl }
instance : HasKP Sy := { f121 := rfl }
instance : HasKN Sy := { f50 := rfl }
instance : HasLTrackOf Sy := { f10 := rfl }
theorem sysOK {B : Nat} {w0 : World} : SysOK Go.Proofs.Try.prog pure Sy B w0 := SysOK.of (by
  intro p hp
  simp only [funs, List.mem_cons, List.not_mem_nil, or_false] at hp
  rcases hp with rfl | rfl | rfl | rfl | rfl | rfl | rfl | rfl | rfl | rfl | rfl | rfl | rfl | rfl | rfl | rfl | rfl | rfl | rfl | rfl | rfl | rfl | rfl | rfl | rfl | rfl | rfl | rfl | rfl | rfl | rfl | rfl | rfl | rfl | rfl | rfl | rfl | rfl | rfl | rfl | rfl | rfl | rfl | rfl | rfl | rfl | rfl | rfl | rfl | rfl | rfl | rfl | rfl | rfl | rfl | rfl | rfl | rfl | rfl | rfl | rfl | rfl | rfl | rfl | rfl
  · exact ⟨_, Go.Proofs.Try.func74, lfn74⟩
  · exact ⟨_, Go.Proofs.Try.func85, lfn85⟩
  · exact ⟨_, Go.Proofs.Try.func91, lfn91⟩
  · exact ⟨_, Go.Proofs.Try.func75, lfn75⟩
  · exact ⟨_, Go.Proofs.Try.func142, lfn142⟩
  · exact ⟨_, Go.Proofs.Try.func145, lfn145⟩
  · exact ⟨_, Go.Proofs.Try.func184, lfn184⟩
  · exact ⟨_, Go.Proofs.Try.func186, lfn186⟩
  · exact ⟨_, Go.Proofs.Try.func187, lfn187⟩
  · exact ⟨_, Go.Proofs.Try.func201, lfn201⟩
  · exact ⟨_, Go.Proofs.Try.func202, lfn202⟩
  · exact ⟨_, Go.Proofs.Try.func204, lfn204⟩
  · exact ⟨_, Go.Proofs.Try.func216, lfn216⟩
  · exact ⟨_, Go.Proofs.Try.func79, lfn79⟩
  · exact ⟨_, Go.Proofs.Try.func113, lfn113⟩
  · exact ⟨_, Go.Proofs.Try.func76, lfn76⟩
  · exact ⟨_, Go.Proofs.Try.func77, lfn77⟩
  · exact ⟨_, Go.Proofs.Try.func103, lfn103⟩
  · exact ⟨_, Go.Proofs.Try.func106, lfn106⟩
  · exact ⟨_, Go.Proofs.Try.func163, lfn163⟩
  · exact ⟨_, Go.Proofs.Try.func22, lfn22⟩
  · exact ⟨_, Go.Proofs.Try.func65, lfn65⟩
  · exact ⟨_, Go.Proofs.Try.func70, lfn70⟩
  · exact ⟨_, Go.Proofs.Try.func73, lfn73⟩
  · exact ⟨_, Go.Proofs.Try.func78, lfn78⟩
  · exact ⟨_, Go.Proofs.Try.func141, lfn141⟩
  · exact ⟨_, Go.Proofs.Try.func125, lfn125⟩
  · exact ⟨_, Go.Proofs.Try.func48, lfn48⟩
  · exact ⟨_, Go.Proofs.Try.func49, lfn49⟩
  · exact ⟨_, Go.Proofs.Try.func116, lfn116⟩
  · exact ⟨_, Go.Proofs.Try.func117, lfn117⟩
  · exact ⟨_, Go.Proofs.Try.func118, lfn118⟩
  · exact ⟨_, Go.Proofs.Try.func119, lfn119⟩
  · exact ⟨_, Go.Proofs.Try.func67, lfn67⟩
  · exact ⟨_, Go.Proofs.Try.func16, lfn16⟩
  · exact ⟨_, Go.Proofs.Try.func17, lfn17⟩
  · exact ⟨_, Go.Proofs.Try.func18, lfn18⟩
  · exact ⟨_, Go.Proofs.Try.func43, lfn43⟩
  · exact ⟨_, Go.Proofs.Try.func111, lfn111⟩
  · exact ⟨_, Go.Proofs.Try.func68, lfn68⟩
  · exact ⟨_, Go.Proofs.Try.func71, lfn71⟩
  · exact ⟨_, Go.Proofs.Try.func80, lfn80⟩
  · exact ⟨_, Go.Proofs.Try.func139, lfn139⟩
  · exact ⟨_, Go.Proofs.Try.func143, lfn143⟩
  · exact ⟨_, Go.Proofs.Try.func146, lfn146⟩
  · exact ⟨_, Go.Proofs.Try.func183, lfn183⟩
  · exact ⟨_, Go.Proofs.Try.func185, lfn185⟩
  · exact ⟨_, Go.Proofs.Try.func188, lfn188⟩
  · exact ⟨_, Go.Proofs.Try.func200, lfn200⟩
  · exact ⟨_, Go.Proofs.Try.func203, lfn203⟩
  · exact ⟨_, Go.Proofs.Try.func205, lfn205⟩
  · exact ⟨_, Go.Proofs.Try.func69, lfn69⟩
  · exact ⟨_, Go.Proofs.Try.func72, lfn72⟩
  · exact ⟨_, Go.Proofs.Try.func81, lfn81⟩
  · exact ⟨_, Go.Proofs.Try.func140, lfn140⟩
  · exact ⟨_, Go.Proofs.Try.func144, lfn144⟩
  · exact ⟨_, Go.Proofs.Try.func147, lfn147⟩
  · exact ⟨_, Go.Proofs.Try.func19, lfn19⟩
  · exact ⟨_, Go.Proofs.Try.func21, lfn21⟩
  · exact ⟨_, Go.Proofs.Try.func23, lfn23⟩
  · exact ⟨_, Go.Proofs.Try.func120, lfn120⟩
  · exact ⟨_, Go.Proofs.Try.func171, lfn171⟩
  · exact ⟨_, Go.Proofs.Try.func121, lfn121⟩
  · exact ⟨_, Go.Proofs.Try.func50, lfn50⟩
  · exact ⟨_, Go.Proofs.Try.func10, lfn10⟩)

end Go.E.TrackOf
