/- The law of WithoutEffect: what the evaluator finds. -/
import Derived.Test.YtjpaopcagomoiaaMWo
import Derived.Test.YtjpaopcagomoiaaMDk
import Derived.Test.YtjpaopcagomoiaaMDs
import Derived.Test.YtjpaopcagomoiaaProg
set_option linter.unusedVariables false
set_option linter.unusedSimpArgs false
namespace Go.E
open Go
def L3 : LFn := ⟨3, (.seq (.reg [⟨(.some 6), (.mv (.c (.lf (.bool false)))), none⟩])
 (.seq (.reg [⟨(.some 7), (.mv (.c (.lf (.int .i64 1048576)))), none⟩])
 (.seq (.reg [⟨(.some 22), (.mv (.t 0)), none⟩, ⟨(.some 23), (.mv (.t 7)), none⟩, ⟨(.some 24), (.call true 4 [(.t 22), (.t 23)]), none⟩, ⟨(.some 7), (.mv (.t 24)), none⟩])
 (.seq (.seq (.reg [⟨(.some 25), (.mv (.t 7)), none⟩, ⟨(.some 26), (.bin .lss (.t 25) (.c (.lf (.int .i64 0)))), none⟩])
 (.cond (.t 26) (.seq (.reg [⟨(.some 6), (.mv (.c (.lf (.bool true)))), none⟩])
 .ret) .skip))
 (.seq (.reg [⟨(.some 27), (.mv (.t 1)), none⟩, ⟨(.some 28), (.mv (.t 7)), none⟩, ⟨(.some 29), (.call true 5 [(.t 27), (.t 28)]), none⟩, ⟨(.some 7), (.mv (.t 29)), none⟩])
 (.seq (.seq (.reg [⟨(.some 30), (.mv (.t 7)), none⟩, ⟨(.some 31), (.bin .lss (.t 30) (.c (.lf (.int .i64 0)))), none⟩])
 (.cond (.t 31) (.seq (.reg [⟨(.some 6), (.mv (.c (.lf (.bool true)))), none⟩])
 .ret) .skip))
 (.seq (.reg [⟨(.some 33), (.mv (.t 0)), none⟩, ⟨(.some 34), (.call false 7 [(.t 33)]), none⟩, ⟨(.some 35), (.mv (.t 1)), none⟩, ⟨(.some 36), (.call false 8 [(.t 35)]), none⟩, ⟨(.some 37), (.mv (.t 2)), none⟩, ⟨(.some 38), (.call false 6 [(.t 34), (.t 36), (.t 37)]), none⟩, ⟨(.some 32), (.mv (.t 38)), none⟩, ⟨(.some 39), (.ext (.t 32) 0), none⟩, ⟨(.some 40), (.ext (.t 32) 1), none⟩, ⟨(.some 41), (.ext (.t 32) 2), none⟩, ⟨(.some 8), (.mv (.t 39)), none⟩, ⟨(.some 9), (.mv (.t 40)), none⟩, ⟨(.some 10), (.mv (.t 41)), none⟩])
 (.seq (.reg [⟨(.some 42), (.mv (.t 0)), none⟩, ⟨(.some 43), (.call false 7 [(.t 42)]), none⟩, ⟨(.some 11), (.mv (.t 43)), none⟩])
 (.seq (.reg [⟨(.some 44), (.mv (.t 1)), none⟩, ⟨(.some 45), (.call false 8 [(.t 44)]), none⟩, ⟨(.some 12), (.mv (.t 45)), none⟩])
 (.seq (.reg [⟨(.some 47), (.mv (.t 11)), none⟩, ⟨(.some 48), (.mv (.t 12)), none⟩, ⟨(.some 49), (.mv (.t 2)), none⟩, ⟨(.some 50), (.call false 9 [(.t 47), (.t 48), (.t 49)]), none⟩, ⟨(.some 46), (.mv (.t 50)), none⟩, ⟨(.some 51), (.ext (.t 46) 0), none⟩, ⟨(.some 52), (.ext (.t 46) 1), none⟩, ⟨(.some 53), (.ext (.t 46) 2), none⟩, ⟨(.some 13), (.mv (.t 51)), none⟩, ⟨(.some 14), (.mv (.t 52)), none⟩, ⟨(.some 15), (.mv (.t 53)), none⟩])
 (.seq (.seq (.reg [⟨(.some 54), (.mv (.t 13)), none⟩, ⟨(.some 55), (.mv (.t 8)), none⟩, ⟨(.some 56), (.call true 10 [(.t 54), (.t 55)]), none⟩, ⟨(.some 57), (.una .not (.t 56)), none⟩, ⟨(.some 58), (.mv (.t 57)), none⟩, ⟨(.some 59), (.mv (.t 14)), (.some (58, false))⟩, ⟨(.some 60), (.mv (.t 9)), (.some (58, false))⟩, ⟨(.some 61), (.call true 11 [(.t 59), (.t 60)]), (.some (58, false))⟩, ⟨(.some 62), (.una .not (.t 61)), (.some (58, false))⟩, ⟨(.some 63), (.pick (.t 58) (.c (.lf (.bool true))) (.t 62)), none⟩, ⟨(.some 64), (.mv (.t 63)), none⟩, ⟨(.some 65), (.mv (.t 15)), (.some (64, false))⟩, ⟨(.some 66), (.mv (.t 10)), (.some (64, false))⟩, ⟨(.some 67), (.beq true (.t 65) (.t 66)), (.some (64, false))⟩, ⟨(.some 68), (.pick (.t 64) (.c (.lf (.bool true))) (.t 67)), none⟩])
 (.cond (.t 68) (.seq (.reg [⟨(.some 6), (.mv (.c (.lf (.bool false)))), none⟩])
 .ret) .skip))
 (.seq (.seq (.reg [⟨(.some 69), (.mv (.t 11)), none⟩, ⟨(.some 70), (.mv (.t 0)), none⟩, ⟨(.some 71), (.call false 7 [(.t 70)]), none⟩, ⟨(.some 72), (.call true 10 [(.t 69), (.t 71)]), none⟩, ⟨(.some 73), (.una .not (.t 72)), none⟩])
 (.cond (.t 73) (.seq (.reg [⟨(.some 6), (.mv (.c (.lf (.bool false)))), none⟩])
 .ret) .skip))
 (.seq (.seq (.reg [⟨(.some 74), (.mv (.t 12)), none⟩, ⟨(.some 75), (.mv (.t 1)), none⟩, ⟨(.some 76), (.call false 8 [(.t 75)]), none⟩, ⟨(.some 77), (.call true 11 [(.t 74), (.t 76)]), none⟩, ⟨(.some 78), (.una .not (.t 77)), none⟩])
 (.cond (.t 78) (.seq (.reg [⟨(.some 6), (.mv (.c (.lf (.bool false)))), none⟩])
 .ret) .skip))
 (.seq (.reg [⟨(.some 16), (.mv (.c (.lf (.int .i64 1)))), none⟩])
 (.seq (.reg [⟨(.some 79), (.mv (.t 11)), none⟩, ⟨(.some 80), (.mv (.t 16)), none⟩, ⟨(.some 81), (.call false 12 [(.t 79), (.t 80)]), none⟩, ⟨(.some 16), (.mv (.t 81)), none⟩])
 (.seq (.reg [⟨(.some 82), (.mv (.t 12)), none⟩, ⟨(.some 83), (.mv (.t 16)), none⟩, ⟨(.some 84), (.call false 13 [(.t 82), (.t 83)]), none⟩, ⟨(.some 16), (.mv (.t 84)), none⟩])
 (.seq (.seq (.reg [⟨(.some 85), (.mv (.t 16)), none⟩, ⟨(.some 86), (.bin .lss (.t 85) (.c (.lf (.int .i64 0)))), none⟩, ⟨(.some 87), (.mv (.t 86)), none⟩, ⟨(.some 88), (.mv (.t 13)), (.some (87, false))⟩, ⟨(.some 89), (.mv (.t 8)), (.some (87, false))⟩, ⟨(.some 90), (.call true 10 [(.t 88), (.t 89)]), (.some (87, false))⟩, ⟨(.some 91), (.una .not (.t 90)), (.some (87, false))⟩, ⟨(.some 92), (.pick (.t 87) (.c (.lf (.bool true))) (.t 91)), none⟩, ⟨(.some 93), (.mv (.t 92)), none⟩, ⟨(.some 94), (.mv (.t 14)), (.some (93, false))⟩, ⟨(.some 95), (.mv (.t 9)), (.some (93, false))⟩, ⟨(.some 96), (.call true 11 [(.t 94), (.t 95)]), (.some (93, false))⟩, ⟨(.some 97), (.una .not (.t 96)), (.some (93, false))⟩, ⟨(.some 98), (.pick (.t 93) (.c (.lf (.bool true))) (.t 97)), none⟩, ⟨(.some 99), (.mv (.t 98)), none⟩, ⟨(.some 100), (.mv (.t 15)), (.some (99, false))⟩, ⟨(.some 101), (.mv (.t 10)), (.some (99, false))⟩, ⟨(.some 102), (.beq true (.t 100) (.t 101)), (.some (99, false))⟩, ⟨(.some 103), (.pick (.t 99) (.c (.lf (.bool true))) (.t 102)), none⟩])
 (.cond (.t 103) (.seq (.reg [⟨(.some 6), (.mv (.c (.lf (.bool false)))), none⟩])
 .ret) .skip))
 (.seq (.reg [⟨(.some 17), (.mv (.c (.lf (.int .i64 1)))), none⟩])
 (.seq (.reg [⟨(.some 104), (.mv (.t 13)), none⟩, ⟨(.some 105), (.mv (.t 17)), none⟩, ⟨(.some 106), (.call false 12 [(.t 104), (.t 105)]), none⟩, ⟨(.some 17), (.mv (.t 106)), none⟩])
 (.seq (.reg [⟨(.some 107), (.mv (.t 14)), none⟩, ⟨(.some 108), (.mv (.t 17)), none⟩, ⟨(.some 109), (.call false 13 [(.t 107), (.t 108)]), none⟩, ⟨(.some 17), (.mv (.t 109)), none⟩])
 (.seq (.reg [⟨(.some 18), (.mv (.c (.lf (.int .i64 1)))), none⟩])
 (.seq (.reg [⟨(.some 110), (.mv (.t 13)), none⟩, ⟨(.some 111), (.mv (.t 18)), none⟩, ⟨(.some 112), (.call true 14 [(.t 110), (.t 111)]), none⟩, ⟨(.some 18), (.mv (.t 112)), none⟩])
 (.seq (.seq (.reg [⟨(.some 113), (.mv (.t 18)), none⟩, ⟨(.some 114), (.bin .lss (.t 113) (.c (.lf (.int .i64 0)))), none⟩])
 (.cond (.t 114) (.seq (.reg [⟨(.some 6), (.mv (.c (.lf (.bool false)))), none⟩])
 .ret) .skip))
 (.seq (.reg [⟨(.some 115), (.mv (.t 14)), none⟩, ⟨(.some 116), (.mv (.t 18)), none⟩, ⟨(.some 117), (.call true 15 [(.t 115), (.t 116)]), none⟩, ⟨(.some 18), (.mv (.t 117)), none⟩])
 (.seq (.seq (.reg [⟨(.some 118), (.mv (.t 18)), none⟩, ⟨(.some 119), (.bin .lss (.t 118) (.c (.lf (.int .i64 0)))), none⟩])
 (.cond (.t 119) (.seq (.reg [⟨(.some 6), (.mv (.c (.lf (.bool false)))), none⟩])
 .ret) .skip))
 (.seq (.seq (.reg [⟨(.some 120), (.mv (.t 18)), none⟩, ⟨(.some 121), (.mv (.t 17)), none⟩, ⟨(.some 122), (.bin .neq (.t 120) (.t 121)), none⟩])
 (.cond (.t 122) (.seq (.reg [⟨(.some 6), (.mv (.c (.lf (.bool false)))), none⟩])
 .ret) .skip))
 (.seq (.reg [⟨(.some 124), (.mv (.t 0)), none⟩, ⟨(.some 125), (.call false 7 [(.t 124)]), none⟩, ⟨(.some 126), (.mv (.t 1)), none⟩, ⟨(.some 127), (.call false 8 [(.t 126)]), none⟩, ⟨(.some 128), (.mv (.t 2)), none⟩, ⟨(.some 129), (.call false 9 [(.t 125), (.t 127), (.t 128)]), none⟩, ⟨(.some 123), (.mv (.t 129)), none⟩, ⟨(.some 130), (.ext (.t 123) 0), none⟩, ⟨(.some 131), (.ext (.t 123) 1), none⟩, ⟨(.some 132), (.ext (.t 123) 2), none⟩, ⟨(.some 19), (.mv (.t 130)), none⟩, ⟨(.some 20), (.mv (.t 131)), none⟩, ⟨(.some 21), (.mv (.t 132)), none⟩])
 (.seq (.seq (.reg [⟨(.some 133), (.mv (.t 19)), none⟩, ⟨(.some 134), (.mv (.t 8)), none⟩, ⟨(.some 135), (.call true 10 [(.t 133), (.t 134)]), none⟩, ⟨(.some 136), (.una .not (.t 135)), none⟩, ⟨(.some 137), (.mv (.t 136)), none⟩, ⟨(.some 138), (.mv (.t 20)), (.some (137, false))⟩, ⟨(.some 139), (.mv (.t 9)), (.some (137, false))⟩, ⟨(.some 140), (.call true 11 [(.t 138), (.t 139)]), (.some (137, false))⟩, ⟨(.some 141), (.una .not (.t 140)), (.some (137, false))⟩, ⟨(.some 142), (.pick (.t 137) (.c (.lf (.bool true))) (.t 141)), none⟩, ⟨(.some 143), (.mv (.t 142)), none⟩, ⟨(.some 144), (.mv (.t 21)), (.some (143, false))⟩, ⟨(.some 145), (.mv (.t 10)), (.some (143, false))⟩, ⟨(.some 146), (.beq true (.t 144) (.t 145)), (.some (143, false))⟩, ⟨(.some 147), (.pick (.t 143) (.c (.lf (.bool true))) (.t 146)), none⟩])
 (.cond (.t 147) (.seq (.reg [⟨(.some 6), (.mv (.c (.lf (.bool false)))), none⟩])
 .ret) .skip))
 (.seq (.reg [⟨(.some 18), (.mv (.c (.lf (.int .i64 1)))), none⟩])
 (.seq (.reg [⟨(.some 148), (.mv (.t 13)), none⟩, ⟨(.some 149), (.mv (.t 18)), none⟩, ⟨(.some 150), (.call true 14 [(.t 148), (.t 149)]), none⟩, ⟨(.some 18), (.mv (.t 150)), none⟩])
 (.seq (.seq (.reg [⟨(.some 151), (.mv (.t 18)), none⟩, ⟨(.some 152), (.bin .lss (.t 151) (.c (.lf (.int .i64 0)))), none⟩])
 (.cond (.t 152) (.seq (.reg [⟨(.some 6), (.mv (.c (.lf (.bool false)))), none⟩])
 .ret) .skip))
 (.seq (.reg [⟨(.some 153), (.mv (.t 14)), none⟩, ⟨(.some 154), (.mv (.t 18)), none⟩, ⟨(.some 155), (.call true 15 [(.t 153), (.t 154)]), none⟩, ⟨(.some 18), (.mv (.t 155)), none⟩])
 (.seq (.seq (.reg [⟨(.some 156), (.mv (.t 18)), none⟩, ⟨(.some 157), (.bin .lss (.t 156) (.c (.lf (.int .i64 0)))), none⟩])
 (.cond (.t 157) (.seq (.reg [⟨(.some 6), (.mv (.c (.lf (.bool false)))), none⟩])
 .ret) .skip))
 (.seq (.seq (.reg [⟨(.some 158), (.mv (.t 18)), none⟩, ⟨(.some 159), (.mv (.t 17)), none⟩, ⟨(.some 160), (.bin .neq (.t 158) (.t 159)), none⟩])
 (.cond (.t 160) (.seq (.reg [⟨(.some 6), (.mv (.c (.lf (.bool false)))), none⟩])
 .ret) .skip))
 (.seq (.reg [⟨(.some 6), (.mv (.c (.lf (.bool true)))), none⟩])
 .ret))))))))))))))))))))))))))))))))))), [(.tmp 6)]⟩
class HasLWithoutEffect (S : Sys) : Prop extends HasWo S, HasDE S, HasDSS S, HasKE S, HasKSS S, HasF S where
  f3 : S.fs 3 = some L3
set_option maxRecDepth 20000 in
set_option maxHeartbeats 16000000 in
theorem lawWithoutEffect {S : Sys} [HasLWithoutEffect S] : LawHolds S 3 [(false, .sl 3 effSh), (false, .sl 1 flSl), (false, .int .i64)] := by
  intro h cs hcs
  obtain ⟨c0, _, rfl, ⟨ls0, rfl, l, rows, rfl, hAl, hrows⟩, c1, _, rfl, ⟨ls1, rfl, l2, rows2, rfl, hAl2, hrows2⟩, c2, _, rfl, ⟨ls2, rfl, n, rfl, _⟩, rfl⟩ := hcs
  obtain ⟨ps, rfl, hIl, _⟩ := effs_of hrows
  obtain ⟨qs, rfl, hIl2, _⟩ := sss_of hrows2
  clear hrows hrows2
  have cs : ∀ {g a0 a1 p0 p1 K}, NewD h g a0 43 3 Eff.cells Eff.nums 53 p0 → p0.map (·.1) = ps.map (·.1) → NewD h g a1 36 1 ssCells ssRows 53 p1 → p1.map (·.1) = qs.map (·.1) → h.length ≤ g.length → (∀ o po s so g', NewD g g' o 43 3 Eff.cells Eff.nums 53 po → po.map (·.1) = (woR (ps.map (·.1)) (qs.map (·.1)) n).1 → NewD g g' s 36 1 ssCells ssRows 53 so → so.map (·.1) = (woR (ps.map (·.1)) (qs.map (·.1)) n).2 → (∀ x ∈ lvs o po, ∀ t ∈ lvs s so, Far x t) → K (.tup [.lf o, .lf s, .lf (.bool (decide (okWo (ps.map (·.1)) (qs.map (·.1)) n)))]) g') → CallT S false 6 [.lf a0, .lf a1, .lf (.int .i64 n)] g h.length K := fun h0 e0 h1 e1 hl hk => c_specWithoutEffect h0.arr h0.ins (Sms.new h0) h1.arr h1.ins (Sms.new h1) hl (fun o s po so g hO hS ho hs hf => by rw [e0, e1] at ho hs ⊢; exact hk o po s so g hO ho hS hs hf)
  have ci : ∀ {g a0 a1 p0 p1 K}, NewD h g a0 43 3 Eff.cells Eff.nums 53 p0 → p0.map (·.1) = ps.map (·.1) → NewD h g a1 36 1 ssCells ssRows 53 p1 → p1.map (·.1) = qs.map (·.1) → h.length ≤ g.length → (∀ o po s so g', NewD g g' o 43 3 Eff.cells Eff.nums 53 po → po.map (·.1) = (woR (ps.map (·.1)) (qs.map (·.1)) n).1 → NewD g g' s 36 1 ssCells ssRows 53 so → so.map (·.1) = (woR (ps.map (·.1)) (qs.map (·.1)) n).2 → (∀ x ∈ lvs o po, ∀ t ∈ lvs s so, Far x t) → K (.tup [.lf o, .lf s, .lf (.bool (decide (okWo (ps.map (·.1)) (qs.map (·.1)) n)))]) g') → CallT S false 9 [.lf a0, .lf a1, .lf (.int .i64 n)] g h.length K := fun h0 e0 h1 e1 hl hk => c_implWithoutEffect h0.arr h0.ins (Sms.new h0) h1.arr h1.ins (Sms.new h1) hl (fun o s po so g hO hS ho hs hf => by rw [e0, e1] at ho hs ⊢; exact hk o po s so g hO ho hS hs hf)
  obtain ⟨⟨hsm1, hsm2⟩, hsm3, hsm4⟩ := woR_small (es := ps.map (·.1)) (ss := qs.map (·.1)) (n := n)
  generalize decide (okWo (ps.map (·.1)) (qs.map (·.1)) n) = ok at *
  generalize woR (ps.map (·.1)) (qs.map (·.1)) n = y at *
  obtain ⟨yy1, yy2⟩ := y
  simp only at hsm1 hsm2 hsm3 hsm4 cs ci
  have hlo0 : ∀ {qs : List (Eff × Lf)}, qs.map (·.1) = yy1 → qs.length ≤ 16777216 ∧ szD Eff.nums qs ≤ 16777216 := fun he => by have := small_of (ro := Eff.nums) hsm1 hsm2 he; omega
  have hlo1 : ∀ {rs : List (List Nat × Lf)}, rs.map (·.1) = yy2 → rs.length ≤ 16777216 ∧ szD ssRows rs ≤ 16777216 := fun he => by have := small_of (ro := ssRows) hsm3 hsm4 he; omega
  clear hsm1 hsm2 hsm3 hsm4
  refine law_of (F := L3) HasLWithoutEffect.f3 rfl ?_
  have hs := fun K lim => c_szEffectS (S := S) (K := K) (lim := lim) hAl hIl (b := 1048576) (by decide) (by decide)
  by_cases hsz : (1048576 : Int) < ps.length + szD Eff.nums ps
  · rw [if_pos hsz] at hs
    unfold L3
    dsimp only []
    repeat' (first | (simp (disch := first | omega | assumption | (simp only [List.length_set]; omega) | (simp [*] <;> fail) | assumption) [-Bool.decide_and, -Bool.decide_or, -Bool.not_and, -Bool.not_or, toNat_pred, toNat_succ, wrap64, wr_new, wr_new0, ok_if, ok_ifn, iadV_sl, makeV_int, decT, decF, over_at, *]) | (with_reducible refine Gd_split (fun hc => ?_) (fun hc => ?_) <;> (have hc2 := hc; try simp at hc2)) | (with_reducible refine Br_split (fun hc => ?_) (fun hc => ?_) <;> (have hc2 := hc; try simp at hc2)) | (with_reducible refine GdT_split (fun hc => ?_) (fun hc => ?_) <;> (have hc2 := hc; try simp at hc2)) | (with_reducible refine WT_alt ?_ ?_) | omega)
  rw [if_neg hsz] at hs
  have hs2 := fun K lim => c_szFloat32SS (S := S) (K := K) (lim := lim) hAl2 hIl2 (b := 1048576 - (ps.length + szD Eff.nums ps)) (by omega) (by omega)
  by_cases hsz2 : (1048576 : Int) - (ps.length + szD Eff.nums ps) < qs.length + szD ssRows qs
  · rw [if_pos hsz2] at hs2
    unfold L3
    dsimp only []
    repeat' (first | (simp (disch := first | omega | assumption | (simp only [List.length_set]; omega) | (simp [*] <;> fail) | assumption) [-Bool.decide_and, -Bool.decide_or, -Bool.not_and, -Bool.not_or, toNat_pred, toNat_succ, wrap64, wr_new, wr_new0, ok_if, ok_ifn, iadV_sl, makeV_int, decT, decF, over_at, *]) | (with_reducible refine Gd_split (fun hc => ?_) (fun hc => ?_) <;> (have hc2 := hc; try simp at hc2)) | (with_reducible refine Br_split (fun hc => ?_) (fun hc => ?_) <;> (have hc2 := hc; try simp at hc2)) | (with_reducible refine GdT_split (fun hc => ?_) (fun hc => ?_) <;> (have hc2 := hc; try simp at hc2)) | (with_reducible refine WT_alt ?_ ?_) | omega)
  rw [if_neg hsz2] at hs2
  unfold L3
  dsimp only []
  repeat' (first | (simp (disch := first | omega | assumption | (simp only [List.length_set]; omega) | (simp [*] <;> fail) | assumption) [-Bool.decide_and, -Bool.decide_or, -Bool.not_and, -Bool.not_or, toNat_pred, toNat_succ, wrap64, wr_new, wr_new0, ok_if, ok_ifn, iadV_sl, makeV_int, decT, decF, over_at, *]) | (with_reducible refine Gd_split (fun hc => ?_) (fun hc => ?_) <;> (have hc2 := hc; try simp at hc2)) | (with_reducible refine Br_split (fun hc => ?_) (fun hc => ?_) <;> (have hc2 := hc; try simp at hc2)) | (with_reducible refine GdT_split (fun hc => ?_) (fun hc => ?_) <;> (have hc2 := hc; try simp at hc2)) | (with_reducible refine WT_alt ?_ ?_) | omega)
  have hnl : ps.length ≤ 16777216 := by omega
  have hml : szD Eff.nums ps ≤ 16777216 := by omega
  have hnl2 : qs.length ≤ 16777216 := by omega
  have hml2 : szD ssRows qs ≤ 16777216 := by omega
  clear hs hs2 hsz hsz2
  refine c_toEffectS (hAl.kept (Kept.refl h)) (hIl.kept (Kept.refl h)) hnl hml (Kept.refl h).1 fun x0 g1 px0 hx0 Ex0 => ?_
  have Bx0 : px0.length ≤ 16777216 ∧ szD Eff.nums px0 ≤ 16777216 := ⟨by rw [map_len Ex0]; omega, by rw [szD_map Ex0]; omega⟩
  have K2 := (Kept.refl h).trans hx0.kept
  have Q2 := hx0.kept.1
  have P2 := K2.1
  have Zx0 := hx0.lvs_lt
  have Nx0 := hx0.base (Kept.refl h)
  repeat' (first | (simp (disch := first | omega | assumption | (simp only [List.length_set]; omega) | (simp [*] <;> fail) | assumption) [-Bool.decide_and, -Bool.decide_or, -Bool.not_and, -Bool.not_or, toNat_pred, toNat_succ, wrap64, wr_new, wr_new0, ok_if, ok_ifn, iadV_sl, makeV_int, decT, decF, over_at, *]) | (with_reducible refine Gd_split (fun hc => ?_) (fun hc => ?_) <;> (have hc2 := hc; try simp at hc2)) | (with_reducible refine Br_split (fun hc => ?_) (fun hc => ?_) <;> (have hc2 := hc; try simp at hc2)) | (with_reducible refine GdT_split (fun hc => ?_) (fun hc => ?_) <;> (have hc2 := hc; try simp at hc2)) | (with_reducible refine WT_alt ?_ ?_) | omega)
  refine c_toFloat32SS (hAl2.kept K2) (hIl2.kept K2) hnl2 hml2 K2.1 fun x1 g3 px1 hx1 Ex1 => ?_
  have Bx1 : px1.length ≤ 16777216 ∧ szD ssRows px1 ≤ 16777216 := ⟨by rw [map_len Ex1]; omega, by rw [szD_map Ex1]; omega⟩
  have K4 := K2.trans hx1.kept
  have Q4 := hx1.kept.1
  have P4 := K4.1
  have Zx1 := hx1.lvs_lt
  have Nx1 := hx1.base K2
  replace Nx0 := Nx0.later hx1.kept
  repeat' (first | (simp (disch := first | omega | assumption | (simp only [List.length_set]; omega) | (simp [*] <;> fail) | assumption) [-Bool.decide_and, -Bool.decide_or, -Bool.not_and, -Bool.not_or, toNat_pred, toNat_succ, wrap64, wr_new, wr_new0, ok_if, ok_ifn, iadV_sl, makeV_int, decT, decF, over_at, *]) | (with_reducible refine Gd_split (fun hc => ?_) (fun hc => ?_) <;> (have hc2 := hc; try simp at hc2)) | (with_reducible refine Br_split (fun hc => ?_) (fun hc => ?_) <;> (have hc2 := hc; try simp at hc2)) | (with_reducible refine GdT_split (fun hc => ?_) (fun hc => ?_) <;> (have hc2 := hc; try simp at hc2)) | (with_reducible refine WT_alt ?_ ?_) | omega)
  refine cs Nx0 Ex0 Nx1 Ex1 K4.1 fun s0 ps0 s1 ps1 g5 hs0 Es0 hs1 Es1 Fs0s1 => ?_
  have Bs0 := hlo0 Es0
  have Bs1 := hlo1 Es1
  have K6 := K4.trans hs0.kept
  have Q6 := hs0.kept.1
  have P6 := K6.1
  have Zs0 := hs0.lvs_lt
  have Ns0 := hs0.base K4
  have Zs1 := hs1.lvs_lt
  have Ns1 := hs1.base K4
  replace Nx0 := Nx0.later hs0.kept
  replace Nx1 := Nx1.later hs0.kept
  repeat' (first | (simp (disch := first | omega | assumption | (simp only [List.length_set]; omega) | (simp [*] <;> fail) | assumption) [-Bool.decide_and, -Bool.decide_or, -Bool.not_and, -Bool.not_or, toNat_pred, toNat_succ, wrap64, wr_new, wr_new0, ok_if, ok_ifn, iadV_sl, makeV_int, decT, decF, over_at, *]) | (with_reducible refine Gd_split (fun hc => ?_) (fun hc => ?_) <;> (have hc2 := hc; try simp at hc2)) | (with_reducible refine Br_split (fun hc => ?_) (fun hc => ?_) <;> (have hc2 := hc; try simp at hc2)) | (with_reducible refine GdT_split (fun hc => ?_) (fun hc => ?_) <;> (have hc2 := hc; try simp at hc2)) | (with_reducible refine WT_alt ?_ ?_) | omega)
  refine c_toEffectS (hAl.kept K6) (hIl.kept K6) hnl hml K6.1 fun a0 g7 pa0 ha0 Ea0 => ?_
  have Ba0 : pa0.length ≤ 16777216 ∧ szD Eff.nums pa0 ≤ 16777216 := ⟨by rw [map_len Ea0]; omega, by rw [szD_map Ea0]; omega⟩
  have K8 := K6.trans ha0.kept
  have Q8 := ha0.kept.1
  have P8 := K8.1
  have Za0 := ha0.lvs_lt
  have Na0 := ha0.base K6
  replace Ns0 := Ns0.later ha0.kept
  replace Ns1 := Ns1.later ha0.kept
  repeat' (first | (simp (disch := first | omega | assumption | (simp only [List.length_set]; omega) | (simp [*] <;> fail) | assumption) [-Bool.decide_and, -Bool.decide_or, -Bool.not_and, -Bool.not_or, toNat_pred, toNat_succ, wrap64, wr_new, wr_new0, ok_if, ok_ifn, iadV_sl, makeV_int, decT, decF, over_at, *]) | (with_reducible refine Gd_split (fun hc => ?_) (fun hc => ?_) <;> (have hc2 := hc; try simp at hc2)) | (with_reducible refine Br_split (fun hc => ?_) (fun hc => ?_) <;> (have hc2 := hc; try simp at hc2)) | (with_reducible refine GdT_split (fun hc => ?_) (fun hc => ?_) <;> (have hc2 := hc; try simp at hc2)) | (with_reducible refine WT_alt ?_ ?_) | omega)
  refine c_toFloat32SS (hAl2.kept K8) (hIl2.kept K8) hnl2 hml2 K8.1 fun a1 g9 pa1 ha1 Ea1 => ?_
  have Ba1 : pa1.length ≤ 16777216 ∧ szD ssRows pa1 ≤ 16777216 := ⟨by rw [map_len Ea1]; omega, by rw [szD_map Ea1]; omega⟩
  have K10 := K8.trans ha1.kept
  have Q10 := ha1.kept.1
  have P10 := K10.1
  have Za1 := ha1.lvs_lt
  have Na1 := ha1.base K8
  replace Ns0 := Ns0.later ha1.kept
  replace Ns1 := Ns1.later ha1.kept
  replace Na0 := Na0.later ha1.kept
  repeat' (first | (simp (disch := first | omega | assumption | (simp only [List.length_set]; omega) | (simp [*] <;> fail) | assumption) [-Bool.decide_and, -Bool.decide_or, -Bool.not_and, -Bool.not_or, toNat_pred, toNat_succ, wrap64, wr_new, wr_new0, ok_if, ok_ifn, iadV_sl, makeV_int, decT, decF, over_at, *]) | (with_reducible refine Gd_split (fun hc => ?_) (fun hc => ?_) <;> (have hc2 := hc; try simp at hc2)) | (with_reducible refine Br_split (fun hc => ?_) (fun hc => ?_) <;> (have hc2 := hc; try simp at hc2)) | (with_reducible refine GdT_split (fun hc => ?_) (fun hc => ?_) <;> (have hc2 := hc; try simp at hc2)) | (with_reducible refine WT_alt ?_ ?_) | omega)
  refine ci Na0 Ea0 Na1 Ea1 K10.1 fun r0 pr0 r1 pr1 g11 hr0 Er0 hr1 Er1 Fr0r1 => ?_
  have Br0 := hlo0 Er0
  have Br1 := hlo1 Er1
  have K12 := K10.trans hr0.kept
  have Q12 := hr0.kept.1
  have P12 := K12.1
  have Zr0 := hr0.lvs_lt
  have Nr0 := hr0.base K10
  have Zr1 := hr1.lvs_lt
  have Nr1 := hr1.base K10
  replace Ns0 := Ns0.later hr0.kept
  replace Ns1 := Ns1.later hr0.kept
  replace Na0 := Na0.later hr0.kept
  replace Na1 := Na1.later hr0.kept
  repeat' (first | (simp (disch := first | omega | assumption | (simp only [List.length_set]; omega) | (simp [*] <;> fail) | assumption) [-Bool.decide_and, -Bool.decide_or, -Bool.not_and, -Bool.not_or, toNat_pred, toNat_succ, wrap64, wr_new, wr_new0, ok_if, ok_ifn, iadV_sl, makeV_int, decT, decF, over_at, *, c_eqEffectS Nr0.arr Nr0.ins Ns0.arr Ns0.ins (Es0.trans Er0.symm), c_eqFloat32SS Nr1.arr Nr1.ins Ns1.arr Ns1.ins (Es1.trans Er1.symm)]) | (with_reducible refine Gd_split (fun hc => ?_) (fun hc => ?_) <;> (have hc2 := hc; try simp at hc2)) | (with_reducible refine Br_split (fun hc => ?_) (fun hc => ?_) <;> (have hc2 := hc; try simp at hc2)) | (with_reducible refine GdT_split (fun hc => ?_) (fun hc => ?_) <;> (have hc2 := hc; try simp at hc2)) | (with_reducible refine WT_alt ?_ ?_) | omega)
  refine c_toEffectS (hAl.kept K12) (hIl.kept K12) hnl hml K12.1 fun y0 g13 py0 hy0 Ey0 => ?_
  have By0 : py0.length ≤ 16777216 ∧ szD Eff.nums py0 ≤ 16777216 := ⟨by rw [map_len Ey0]; omega, by rw [szD_map Ey0]; omega⟩
  have K14 := K12.trans hy0.kept
  have Q14 := hy0.kept.1
  have P14 := K14.1
  have Zy0 := hy0.lvs_lt
  have Ny0 := hy0.base K12
  replace Ns0 := Ns0.later hy0.kept
  replace Ns1 := Ns1.later hy0.kept
  replace Na0 := Na0.later hy0.kept
  replace Na1 := Na1.later hy0.kept
  replace Nr0 := Nr0.later hy0.kept
  replace Nr1 := Nr1.later hy0.kept
  repeat' (first | (simp (disch := first | omega | assumption | (simp only [List.length_set]; omega) | (simp [*] <;> fail) | assumption) [-Bool.decide_and, -Bool.decide_or, -Bool.not_and, -Bool.not_or, toNat_pred, toNat_succ, wrap64, wr_new, wr_new0, ok_if, ok_ifn, iadV_sl, makeV_int, decT, decF, over_at, *, c_eqEffectS Na0.arr Na0.ins Ny0.arr Ny0.ins (Ey0.trans Ea0.symm)]) | (with_reducible refine Gd_split (fun hc => ?_) (fun hc => ?_) <;> (have hc2 := hc; try simp at hc2)) | (with_reducible refine Br_split (fun hc => ?_) (fun hc => ?_) <;> (have hc2 := hc; try simp at hc2)) | (with_reducible refine GdT_split (fun hc => ?_) (fun hc => ?_) <;> (have hc2 := hc; try simp at hc2)) | (with_reducible refine WT_alt ?_ ?_) | omega)
  refine c_toFloat32SS (hAl2.kept K14) (hIl2.kept K14) hnl2 hml2 K14.1 fun y1 g15 py1 hy1 Ey1 => ?_
  have By1 : py1.length ≤ 16777216 ∧ szD ssRows py1 ≤ 16777216 := ⟨by rw [map_len Ey1]; omega, by rw [szD_map Ey1]; omega⟩
  have K16 := K14.trans hy1.kept
  have Q16 := hy1.kept.1
  have P16 := K16.1
  have Zy1 := hy1.lvs_lt
  have Ny1 := hy1.base K14
  replace Ns0 := Ns0.later hy1.kept
  replace Ns1 := Ns1.later hy1.kept
  replace Na0 := Na0.later hy1.kept
  replace Na1 := Na1.later hy1.kept
  replace Nr0 := Nr0.later hy1.kept
  replace Nr1 := Nr1.later hy1.kept
  repeat' (first | (simp (disch := first | omega | assumption | (simp only [List.length_set]; omega) | (simp [*] <;> fail) | assumption) [-Bool.decide_and, -Bool.decide_or, -Bool.not_and, -Bool.not_or, toNat_pred, toNat_succ, wrap64, wr_new, wr_new0, ok_if, ok_ifn, iadV_sl, makeV_int, decT, decF, over_at, *, c_eqFloat32SS Na1.arr Na1.ins Ny1.arr Ny1.ins (Ey1.trans Ea1.symm)]) | (with_reducible refine Gd_split (fun hc => ?_) (fun hc => ?_) <;> (have hc2 := hc; try simp at hc2)) | (with_reducible refine Br_split (fun hc => ?_) (fun hc => ?_) <;> (have hc2 := hc; try simp at hc2)) | (with_reducible refine GdT_split (fun hc => ?_) (fun hc => ?_) <;> (have hc2 := hc; try simp at hc2)) | (with_reducible refine WT_alt ?_ ?_) | omega)
  refine c_markEffectS Na0 (by omega) (by have := Ba0; rw [kAt_all (ro := Eff.nums) (c := 2) (k := 1) (ps := pa0)]; omega) Ba0.1 Ba0.2 (Nat.le_refl _) fun g17 hM17 hB17 => ?_
  have O17 : ∀ s ∈ lvs a0 pa0, s ≠ .nils → h.length ≤ s.id := fun s hs q => by have := Za0 s hs q; omega
  have Q17 := hB17.len
  have K17 := hB17.kept K16 O17
  replace Ns0 := hB17.newD Ns0 O17 (fun s hs t ht q1 q2 e => by have := Za0 s hs q1; have := Zs0 t ht q2; omega)
  replace Ns1 := hB17.newD Ns1 O17 (fun s hs t ht q1 q2 e => by have := Za0 s hs q1; have := Zs1 t ht q2; omega)
  replace Na1 := hB17.newD Na1 O17 (fun s hs t ht q1 q2 e => by have := Za0 s hs q1; have := Za1 t ht q2; omega)
  replace Nr0 := hB17.newD Nr0 O17 (fun s hs t ht q1 q2 e => by have := Za0 s hs q1; have := Zr0 t ht q2; omega)
  replace Nr1 := hB17.newD Nr1 O17 (fun s hs t ht q1 q2 e => by have := Za0 s hs q1; have := Zr1 t ht q2; omega)
  have V17 : 1 ≤ kAt Eff.nums 2 1 pa0 pa0.length ∧ kAt Eff.nums 2 1 pa0 pa0.length ≤ 1 + 2 * 16777216 + 16777216 := by have := Ba0; rw [kAt_all (ro := Eff.nums) (c := 2) (k := 1) (ps := pa0)]; omega
  replace Na0 := hM17
  repeat' (first | (simp (disch := first | omega | assumption | (simp only [List.length_set]; omega) | (simp [*] <;> fail) | assumption) [-Bool.decide_and, -Bool.decide_or, -Bool.not_and, -Bool.not_or, toNat_pred, toNat_succ, wrap64, wr_new, wr_new0, ok_if, ok_ifn, iadV_sl, makeV_int, decT, decF, over_at, *]) | (with_reducible refine Gd_split (fun hc => ?_) (fun hc => ?_) <;> (have hc2 := hc; try simp at hc2)) | (with_reducible refine Br_split (fun hc => ?_) (fun hc => ?_) <;> (have hc2 := hc; try simp at hc2)) | (with_reducible refine GdT_split (fun hc => ?_) (fun hc => ?_) <;> (have hc2 := hc; try simp at hc2)) | (with_reducible refine WT_alt ?_ ?_) | omega)
  refine c_markFloat32SS Na1 (by omega) (by have := Ba1; rw [kAt_all (ro := ssRows) (c := 0) (k := (kAt Eff.nums 2 1 pa0 pa0.length)) (ps := pa1)]; omega) Ba1.1 Ba1.2 (Nat.le_refl _) fun g18 hM18 hB18 => ?_
  have O18 : ∀ s ∈ lvs a1 pa1, s ≠ .nils → h.length ≤ s.id := fun s hs q => by have := Za1 s hs q; omega
  have Q18 := hB18.len
  have K18 := hB18.kept K17 O18
  replace Ns0 := hB18.newD Ns0 O18 (fun s hs t ht q1 q2 e => by have := Za1 s hs q1; have := Zs0 t ht q2; omega)
  replace Ns1 := hB18.newD Ns1 O18 (fun s hs t ht q1 q2 e => by have := Za1 s hs q1; have := Zs1 t ht q2; omega)
  replace Nr0 := hB18.newD Nr0 O18 (fun s hs t ht q1 q2 e => by have := Za1 s hs q1; have := Zr0 t ht q2; omega)
  replace Nr1 := hB18.newD Nr1 O18 (fun s hs t ht q1 q2 e => by have := Za1 s hs q1; have := Zr1 t ht q2; omega)
  have V18 : (kAt Eff.nums 2 1 pa0 pa0.length) ≤ kAt ssRows 0 (kAt Eff.nums 2 1 pa0 pa0.length) pa1 pa1.length ∧ kAt ssRows 0 (kAt Eff.nums 2 1 pa0 pa0.length) pa1 pa1.length ≤ (kAt Eff.nums 2 1 pa0 pa0.length) + 0 * 16777216 + 16777216 := by have := Ba1; rw [kAt_all (ro := ssRows) (c := 0) (k := (kAt Eff.nums 2 1 pa0 pa0.length)) (ps := pa1)]; omega
  replace Na1 := hM18
  repeat' (first | (simp (disch := first | omega | assumption | (simp only [List.length_set]; omega) | (simp [*] <;> fail) | assumption) [-Bool.decide_and, -Bool.decide_or, -Bool.not_and, -Bool.not_or, toNat_pred, toNat_succ, wrap64, wr_new, wr_new0, ok_if, ok_ifn, iadV_sl, makeV_int, decT, decF, over_at, *, c_eqEffectS Nr0.arr Nr0.ins Ns0.arr Ns0.ins (Es0.trans Er0.symm), c_eqFloat32SS Nr1.arr Nr1.ins Ns1.arr Ns1.ins (Es1.trans Er1.symm)]) | (with_reducible refine Gd_split (fun hc => ?_) (fun hc => ?_) <;> (have hc2 := hc; try simp at hc2)) | (with_reducible refine Br_split (fun hc => ?_) (fun hc => ?_) <;> (have hc2 := hc; try simp at hc2)) | (with_reducible refine GdT_split (fun hc => ?_) (fun hc => ?_) <;> (have hc2 := hc; try simp at hc2)) | (with_reducible refine WT_alt ?_ ?_) | omega)
  refine c_markEffectS Nr0 (by omega) (by have := Br0; rw [kAt_all (ro := Eff.nums) (c := 2) (k := 1) (ps := pr0)]; omega) Br0.1 Br0.2 (Nat.le_refl _) fun g19 hM19 hB19 => ?_
  have O19 : ∀ s ∈ lvs r0 pr0, s ≠ .nils → h.length ≤ s.id := fun s hs q => by have := Zr0 s hs q; omega
  have Q19 := hB19.len
  have K19 := hB19.kept K18 O19
  replace Ns0 := hB19.newD Ns0 O19 (fun s hs t ht q1 q2 e => by have := Zr0 s hs q1; have := Zs0 t ht q2; omega)
  replace Ns1 := hB19.newD Ns1 O19 (fun s hs t ht q1 q2 e => by have := Zr0 s hs q1; have := Zs1 t ht q2; omega)
  replace Nr1 := hB19.newD Nr1 O19 Fr0r1
  have V19 : 1 ≤ kAt Eff.nums 2 1 pr0 pr0.length ∧ kAt Eff.nums 2 1 pr0 pr0.length ≤ 1 + 2 * 16777216 + 16777216 := by have := Br0; rw [kAt_all (ro := Eff.nums) (c := 2) (k := 1) (ps := pr0)]; omega
  replace Nr0 := hM19
  rw [← lvs_mkD (l := r0) (ps := pr0) (mk := mkE) (ro := Eff.nums) (c := 2) (k := 1)] at Zr0 Fr0r1
  repeat' (first | (simp (disch := first | omega | assumption | (simp only [List.length_set]; omega) | (simp [*] <;> fail) | assumption) [-Bool.decide_and, -Bool.decide_or, -Bool.not_and, -Bool.not_or, toNat_pred, toNat_succ, wrap64, wr_new, wr_new0, ok_if, ok_ifn, iadV_sl, makeV_int, decT, decF, over_at, *]) | (with_reducible refine Gd_split (fun hc => ?_) (fun hc => ?_) <;> (have hc2 := hc; try simp at hc2)) | (with_reducible refine Br_split (fun hc => ?_) (fun hc => ?_) <;> (have hc2 := hc; try simp at hc2)) | (with_reducible refine GdT_split (fun hc => ?_) (fun hc => ?_) <;> (have hc2 := hc; try simp at hc2)) | (with_reducible refine WT_alt ?_ ?_) | omega)
  refine c_markFloat32SS Nr1 (by omega) (by have := Br1; rw [kAt_all (ro := ssRows) (c := 0) (k := (kAt Eff.nums 2 1 pr0 pr0.length)) (ps := pr1)]; omega) Br1.1 Br1.2 (Nat.le_refl _) fun g20 hM20 hB20 => ?_
  have O20 : ∀ s ∈ lvs r1 pr1, s ≠ .nils → h.length ≤ s.id := fun s hs q => by have := Zr1 s hs q; omega
  have Q20 := hB20.len
  have K20 := hB20.kept K19 O20
  replace Ns0 := hB20.newD Ns0 O20 (fun s hs t ht q1 q2 e => by have := Zr1 s hs q1; have := Zs0 t ht q2; omega)
  replace Ns1 := hB20.newD Ns1 O20 (fun s hs t ht q1 q2 e => by have := Zr1 s hs q1; have := Zs1 t ht q2; omega)
  replace Nr0 := hB20.newD Nr0 O20 (fun s hs t ht => (Fr0r1 t ht s hs).symm)
  have V20 : (kAt Eff.nums 2 1 pr0 pr0.length) ≤ kAt ssRows 0 (kAt Eff.nums 2 1 pr0 pr0.length) pr1 pr1.length ∧ kAt ssRows 0 (kAt Eff.nums 2 1 pr0 pr0.length) pr1 pr1.length ≤ (kAt Eff.nums 2 1 pr0 pr0.length) + 0 * 16777216 + 16777216 := by have := Br1; rw [kAt_all (ro := ssRows) (c := 0) (k := (kAt Eff.nums 2 1 pr0 pr0.length)) (ps := pr1)]; omega
  replace Nr1 := hM20
  rw [← lvs_mkD (l := r1) (ps := pr1) (mk := mkSS) (ro := ssRows) (c := 0) (k := (kAt Eff.nums 2 1 pr0 pr0.length))] at Zr1 Fr0r1
  repeat' (first | (simp (disch := first | omega | assumption | (simp only [List.length_set]; omega) | (simp [*] <;> fail) | assumption) [-Bool.decide_and, -Bool.decide_or, -Bool.not_and, -Bool.not_or, toNat_pred, toNat_succ, wrap64, wr_new, wr_new0, ok_if, ok_ifn, iadV_sl, makeV_int, decT, decF, over_at, *, c_heldEffectS Nr0.arr Nr0.ins (by omega) (by have := Br0; rw [kAt_all (ro := Eff.nums) (c := 2) (k := 1) (ps := pr0)]; omega) Br0.1 Br0.2, c_heldFloat32SS Nr1.arr Nr1.ins (by omega) (by have := Br1; rw [kAt_all (ro := ssRows) (c := 0) (k := (kAt Eff.nums 2 1 pr0 pr0.length)) (ps := pr1)]; omega) Br1.1 Br1.2]) | (with_reducible refine Gd_split (fun hc => ?_) (fun hc => ?_) <;> (have hc2 := hc; try simp at hc2)) | (with_reducible refine Br_split (fun hc => ?_) (fun hc => ?_) <;> (have hc2 := hc; try simp at hc2)) | (with_reducible refine GdT_split (fun hc => ?_) (fun hc => ?_) <;> (have hc2 := hc; try simp at hc2)) | (with_reducible refine WT_alt ?_ ?_) | omega)
  refine c_toEffectS (hAl.kept K20) (hIl.kept K20) hnl hml K20.1 fun w0 g21 pw0 hw0 Ew0 => ?_
  have Bw0 : pw0.length ≤ 16777216 ∧ szD Eff.nums pw0 ≤ 16777216 := ⟨by rw [map_len Ew0]; omega, by rw [szD_map Ew0]; omega⟩
  have K22 := K20.trans hw0.kept
  have Q22 := hw0.kept.1
  have P22 := K22.1
  have Zw0 := hw0.lvs_lt
  have Nw0 := hw0.base K20
  replace Ns0 := Ns0.later hw0.kept
  replace Ns1 := Ns1.later hw0.kept
  replace Nr0 := Nr0.later hw0.kept
  replace Nr1 := Nr1.later hw0.kept
  repeat' (first | (simp (disch := first | omega | assumption | (simp only [List.length_set]; omega) | (simp [*] <;> fail) | assumption) [-Bool.decide_and, -Bool.decide_or, -Bool.not_and, -Bool.not_or, toNat_pred, toNat_succ, wrap64, wr_new, wr_new0, ok_if, ok_ifn, iadV_sl, makeV_int, decT, decF, over_at, *]) | (with_reducible refine Gd_split (fun hc => ?_) (fun hc => ?_) <;> (have hc2 := hc; try simp at hc2)) | (with_reducible refine Br_split (fun hc => ?_) (fun hc => ?_) <;> (have hc2 := hc; try simp at hc2)) | (with_reducible refine GdT_split (fun hc => ?_) (fun hc => ?_) <;> (have hc2 := hc; try simp at hc2)) | (with_reducible refine WT_alt ?_ ?_) | omega)
  refine c_toFloat32SS (hAl2.kept K22) (hIl2.kept K22) hnl2 hml2 K22.1 fun w1 g23 pw1 hw1 Ew1 => ?_
  have Bw1 : pw1.length ≤ 16777216 ∧ szD ssRows pw1 ≤ 16777216 := ⟨by rw [map_len Ew1]; omega, by rw [szD_map Ew1]; omega⟩
  have K24 := K22.trans hw1.kept
  have Q24 := hw1.kept.1
  have P24 := K24.1
  have Zw1 := hw1.lvs_lt
  have Nw1 := hw1.base K22
  replace Ns0 := Ns0.later hw1.kept
  replace Ns1 := Ns1.later hw1.kept
  replace Nr0 := Nr0.later hw1.kept
  replace Nr1 := Nr1.later hw1.kept
  replace Nw0 := Nw0.later hw1.kept
  repeat' (first | (simp (disch := first | omega | assumption | (simp only [List.length_set]; omega) | (simp [*] <;> fail) | assumption) [-Bool.decide_and, -Bool.decide_or, -Bool.not_and, -Bool.not_or, toNat_pred, toNat_succ, wrap64, wr_new, wr_new0, ok_if, ok_ifn, iadV_sl, makeV_int, decT, decF, over_at, *]) | (with_reducible refine Gd_split (fun hc => ?_) (fun hc => ?_) <;> (have hc2 := hc; try simp at hc2)) | (with_reducible refine Br_split (fun hc => ?_) (fun hc => ?_) <;> (have hc2 := hc; try simp at hc2)) | (with_reducible refine GdT_split (fun hc => ?_) (fun hc => ?_) <;> (have hc2 := hc; try simp at hc2)) | (with_reducible refine WT_alt ?_ ?_) | omega)
  refine ci Nw0 Ew0 Nw1 Ew1 K24.1 fun u0 pu0 u1 pu1 g25 hu0 Eu0 hu1 Eu1 Fu0u1 => ?_
  have Bu0 := hlo0 Eu0
  have Bu1 := hlo1 Eu1
  have K26 := K24.trans hu0.kept
  have Q26 := hu0.kept.1
  have P26 := K26.1
  have Zu0 := hu0.lvs_lt
  have Nu0 := hu0.base K24
  have Zu1 := hu1.lvs_lt
  have Nu1 := hu1.base K24
  replace Ns0 := Ns0.later hu0.kept
  replace Ns1 := Ns1.later hu0.kept
  replace Nr0 := Nr0.later hu0.kept
  replace Nr1 := Nr1.later hu0.kept
  replace Nw0 := Nw0.later hu0.kept
  replace Nw1 := Nw1.later hu0.kept
  repeat' (first | (simp (disch := first | omega | assumption | (simp only [List.length_set]; omega) | (simp [*] <;> fail) | assumption) [-Bool.decide_and, -Bool.decide_or, -Bool.not_and, -Bool.not_or, toNat_pred, toNat_succ, wrap64, wr_new, wr_new0, ok_if, ok_ifn, iadV_sl, makeV_int, decT, decF, over_at, *, c_eqEffectS Nu0.arr Nu0.ins Ns0.arr Ns0.ins (Es0.trans Eu0.symm), c_eqFloat32SS Nu1.arr Nu1.ins Ns1.arr Ns1.ins (Es1.trans Eu1.symm), c_heldEffectS Nr0.arr Nr0.ins (by omega) (by have := Br0; rw [kAt_all (ro := Eff.nums) (c := 2) (k := 1) (ps := pr0)]; omega) Br0.1 Br0.2, c_heldFloat32SS Nr1.arr Nr1.ins (by omega) (by have := Br1; rw [kAt_all (ro := ssRows) (c := 0) (k := (kAt Eff.nums 2 1 pr0 pr0.length)) (ps := pr1)]; omega) Br1.1 Br1.2]) | (with_reducible refine Gd_split (fun hc => ?_) (fun hc => ?_) <;> (have hc2 := hc; try simp at hc2)) | (with_reducible refine Br_split (fun hc => ?_) (fun hc => ?_) <;> (have hc2 := hc; try simp at hc2)) | (with_reducible refine GdT_split (fun hc => ?_) (fun hc => ?_) <;> (have hc2 := hc; try simp at hc2)) | (with_reducible refine WT_alt ?_ ?_) | omega)
end Go.E
namespace Go.E.WithoutEffect
open Go Go.E
def pure : FuncId → Bool := fun f => List.elem f [3, 4, 5, 10, 11, 14, 15, 16, 17, 18, 19, 23, 24, 28, 29, 31, 32, 33, 34, 36, 37, 38, 39, 41, 42, 43, 44, 45, 46, 48, 50, 52, 59, 61]
def funs : List (Nat × LFn) := [(19, L19), (36, L36), (32, L32), (33, L33), (34, L34), (38, L38), (39, L39), (41, L41), (42, L42), (43, L43), (44, L44), (45, L45), (40, L40), (18, L18), (23, L23), (35, L35), (25, L25), (20, L20), (27, L27), (6, L6), (9, L9), (24, L24), (37, L37), (22, L22), (29, L29), (30, L30), (31, L31), (17, L17), (4, L4), (7, L7), (10, L10), (16, L16), (21, L21), (28, L28), (5, L5), (8, L8), (11, L11), (12, L12), (14, L14), (13, L13), (15, L15), (3, L3)]
def Sy : Sys := { fs := (sysOf funs).fs, xt := delX }
instance : HasDel Sy := { none_ := rfl, xt_ := rfl }
theorem lfn19 : lFn Go.Proofs.Try.prog pure Go.Proofs.Try.f19 = some L19 := by kernel_rfl
theorem lfn36 : lFn Go.Proofs.Try.prog pure Go.Proofs.Try.f36 = some L36 := by kernel_rfl
theorem lfn32 : lFn Go.Proofs.Try.prog pure Go.Proofs.Try.f32 = some L32 := by kernel_rfl
theorem lfn33 : lFn Go.Proofs.Try.prog pure Go.Proofs.Try.f33 = some L33 := by kernel_rfl
theorem lfn34 : lFn Go.Proofs.Try.prog pure Go.Proofs.Try.f34 = some L34 := by kernel_rfl
theorem lfn38 : lFn Go.Proofs.Try.prog pure Go.Proofs.Try.f38 = some L38 := by kernel_rfl
theorem lfn39 : lFn Go.Proofs.Try.prog pure Go.Proofs.Try.f39 = some L39 := by kernel_rfl
theorem lfn41 : lFn Go.Proofs.Try.prog pure Go.Proofs.Try.f41 = some L41 := by kernel_rfl
theorem lfn42 : lFn Go.Proofs.Try.prog pure Go.Proofs.Try.f42 = some L42 := by kernel_rfl
theorem lfn43 : lFn Go.Proofs.Try.prog pure Go.Proofs.Try.f43 = some L43 := by kernel_rfl
theorem lfn44 : lFn Go.Proofs.Try.prog pure Go.Proofs.Try.f44 = some L44 := by kernel_rfl
theorem lfn45 : lFn Go.Proofs.Try.prog pure Go.Proofs.Try.f45 = some L45 := by kernel_rfl
theorem lfn40 : lFn Go.Proofs.Try.prog pure Go.Proofs.Try.f40 = some L40 := by kernel_rfl
theorem lfn18 : lFn Go.Proofs.Try.prog pure Go.Proofs.Try.f18 = some L18 := by kernel_rfl
theorem lfn23 : lFn Go.Proofs.Try.prog pure Go.Proofs.Try.f23 = some L23 := by kernel_rfl
theorem lfn35 : lFn Go.Proofs.Try.prog pure Go.Proofs.Try.f35 = some L35 := by kernel_rfl
theorem lfn25 : lFn Go.Proofs.Try.prog pure Go.Proofs.Try.f25 = some L25 := by kernel_rfl
theorem lfn20 : lFn Go.Proofs.Try.prog pure Go.Proofs.Try.f20 = some L20 := by kernel_rfl
theorem lfn27 : lFn Go.Proofs.Try.prog pure Go.Proofs.Try.f27 = some L27 := by kernel_rfl
theorem lfn6 : lFn Go.Proofs.Try.prog pure Go.Proofs.Try.f6 = some L6 := by kernel_rfl
theorem lfn9 : lFn Go.Proofs.Try.prog pure Go.Proofs.Try.f9 = some L9 := by kernel_rfl
theorem lfn24 : lFn Go.Proofs.Try.prog pure Go.Proofs.Try.f24 = some L24 := by kernel_rfl
theorem lfn37 : lFn Go.Proofs.Try.prog pure Go.Proofs.Try.f37 = some L37 := by kernel_rfl
theorem lfn22 : lFn Go.Proofs.Try.prog pure Go.Proofs.Try.f22 = some L22 := by kernel_rfl
theorem lfn29 : lFn Go.Proofs.Try.prog pure Go.Proofs.Try.f29 = some L29 := by kernel_rfl
theorem lfn30 : lFn Go.Proofs.Try.prog pure Go.Proofs.Try.f30 = some L30 := by kernel_rfl
theorem lfn31 : lFn Go.Proofs.Try.prog pure Go.Proofs.Try.f31 = some L31 := by kernel_rfl
theorem lfn17 : lFn Go.Proofs.Try.prog pure Go.Proofs.Try.f17 = some L17 := by kernel_rfl
theorem lfn4 : lFn Go.Proofs.Try.prog pure Go.Proofs.Try.f4 = some L4 := by kernel_rfl
theorem lfn7 : lFn Go.Proofs.Try.prog pure Go.Proofs.Try.f7 = some L7 := by kernel_rfl
theorem lfn10 : lFn Go.Proofs.Try.prog pure Go.Proofs.Try.f10 = some L10 := by kernel_rfl
theorem lfn16 : lFn Go.Proofs.Try.prog pure Go.Proofs.Try.f16 = some L16 := by kernel_rfl
theorem lfn21 : lFn Go.Proofs.Try.prog pure Go.Proofs.Try.f21 = some L21 := by kernel_rfl
theorem lfn28 : lFn Go.Proofs.Try.prog pure Go.Proofs.Try.f28 = some L28 := by kernel_rfl
theorem lfn5 : lFn Go.Proofs.Try.prog pure Go.Proofs.Try.f5 = some L5 := by kernel_rfl
theorem lfn8 : lFn Go.Proofs.Try.prog pure Go.Proofs.Try.f8 = some L8 := by kernel_rfl
theorem lfn11 : lFn Go.Proofs.Try.prog pure Go.Proofs.Try.f11 = some L11 := by kernel_rfl
theorem lfn12 : lFn Go.Proofs.Try.prog pure Go.Proofs.Try.f12 = some L12 := by kernel_rfl
theorem lfn14 : lFn Go.Proofs.Try.prog pure Go.Proofs.Try.f14 = some L14 := by kernel_rfl
theorem lfn13 : lFn Go.Proofs.Try.prog pure Go.Proofs.Try.f13 = some L13 := by kernel_rfl
theorem lfn15 : lFn Go.Proofs.Try.prog pure Go.Proofs.Try.f15 = some L15 := by kernel_rfl
theorem lfn3 : lFn Go.Proofs.Try.prog pure Go.Proofs.Try.f3 = some L3 := by kernel_rfl
instance : HasA Sy := { f19 := rfl, f36 := rfl }
instance : HasEf Sy := { f32 := rfl, f33 := rfl, f34 := rfl, f38 := rfl, f39 := rfl, f41 := rfl, f42 := rfl, f43 := rfl, f44 := rfl, f45 := rfl }
instance : HasN Sy := { f40 := rfl }
instance : HasIs Sy := { f18 := rfl, f23 := rfl, f35 := rfl }
instance : HasCn Sy := { f25 := rfl }
instance : HasOc Sy := { f20 := rfl, f27 := rfl }
instance : HasWo Sy := { f6 := rfl, f9 := rfl, f24 := rfl }
instance : HasSame Sy := { f37 := rfl }
instance : HasF Sy := { f22 := rfl, f29 := rfl, f30 := rfl, f31 := rfl }
instance : HasSz Sy := { f17 := rfl }
instance : HasDE Sy := { f4 := rfl, f7 := rfl, f10 := rfl, f16 := rfl, f21 := rfl, f28 := rfl }
instance : HasDSS Sy := { f5 := rfl, f8 := rfl, f11 := rfl }
instance : HasKE Sy := { f12 := rfl, f14 := rfl }
instance : HasKSS Sy := { f13 := rfl, f15 := rfl }
instance : HasLWithoutEffect Sy := { f3 := rfl }
theorem sysOK0 {B : Nat} {w0 : World} : SysOK Go.Proofs.Try.prog pure (sysOf funs) B w0 := SysOK.of (by
  intro p hp
  simp only [funs, List.mem_cons, List.not_mem_nil, or_false] at hp
  rcases hp with rfl | rfl | rfl | rfl | rfl | rfl | rfl | rfl | rfl | rfl | rfl | rfl | rfl | rfl | rfl | rfl | rfl | rfl | rfl | rfl | rfl | rfl | rfl | rfl | rfl | rfl | rfl | rfl | rfl | rfl | rfl | rfl | rfl | rfl | rfl | rfl | rfl | rfl | rfl | rfl | rfl | rfl
  · exact ⟨_, Go.Proofs.Try.func19, lfn19⟩
  · exact ⟨_, Go.Proofs.Try.func36, lfn36⟩
  · exact ⟨_, Go.Proofs.Try.func32, lfn32⟩
  · exact ⟨_, Go.Proofs.Try.func33, lfn33⟩
  · exact ⟨_, Go.Proofs.Try.func34, lfn34⟩
  · exact ⟨_, Go.Proofs.Try.func38, lfn38⟩
  · exact ⟨_, Go.Proofs.Try.func39, lfn39⟩
  · exact ⟨_, Go.Proofs.Try.func41, lfn41⟩
  · exact ⟨_, Go.Proofs.Try.func42, lfn42⟩
  · exact ⟨_, Go.Proofs.Try.func43, lfn43⟩
  · exact ⟨_, Go.Proofs.Try.func44, lfn44⟩
  · exact ⟨_, Go.Proofs.Try.func45, lfn45⟩
  · exact ⟨_, Go.Proofs.Try.func40, lfn40⟩
  · exact ⟨_, Go.Proofs.Try.func18, lfn18⟩
  · exact ⟨_, Go.Proofs.Try.func23, lfn23⟩
  · exact ⟨_, Go.Proofs.Try.func35, lfn35⟩
  · exact ⟨_, Go.Proofs.Try.func25, lfn25⟩
  · exact ⟨_, Go.Proofs.Try.func20, lfn20⟩
  · exact ⟨_, Go.Proofs.Try.func27, lfn27⟩
  · exact ⟨_, Go.Proofs.Try.func6, lfn6⟩
  · exact ⟨_, Go.Proofs.Try.func9, lfn9⟩
  · exact ⟨_, Go.Proofs.Try.func24, lfn24⟩
  · exact ⟨_, Go.Proofs.Try.func37, lfn37⟩
  · exact ⟨_, Go.Proofs.Try.func22, lfn22⟩
  · exact ⟨_, Go.Proofs.Try.func29, lfn29⟩
  · exact ⟨_, Go.Proofs.Try.func30, lfn30⟩
  · exact ⟨_, Go.Proofs.Try.func31, lfn31⟩
  · exact ⟨_, Go.Proofs.Try.func17, lfn17⟩
  · exact ⟨_, Go.Proofs.Try.func4, lfn4⟩
  · exact ⟨_, Go.Proofs.Try.func7, lfn7⟩
  · exact ⟨_, Go.Proofs.Try.func10, lfn10⟩
  · exact ⟨_, Go.Proofs.Try.func16, lfn16⟩
  · exact ⟨_, Go.Proofs.Try.func21, lfn21⟩
  · exact ⟨_, Go.Proofs.Try.func28, lfn28⟩
  · exact ⟨_, Go.Proofs.Try.func5, lfn5⟩
  · exact ⟨_, Go.Proofs.Try.func8, lfn8⟩
  · exact ⟨_, Go.Proofs.Try.func11, lfn11⟩
  · exact ⟨_, Go.Proofs.Try.func12, lfn12⟩
  · exact ⟨_, Go.Proofs.Try.func14, lfn14⟩
  · exact ⟨_, Go.Proofs.Try.func13, lfn13⟩
  · exact ⟨_, Go.Proofs.Try.func15, lfn15⟩
  · exact ⟨_, Go.Proofs.Try.func3, lfn3⟩)
theorem sysOK {B : Nat} {w0 : World} : SysOK Go.Proofs.Try.prog pure Sy B w0 := ⟨(sysOK0 (B := B) (w0 := w0)).fs, delX_ok⟩

end Go.E.WithoutEffect
