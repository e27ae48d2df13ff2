/- The law of JoinChains: what the evaluator finds. -/
import Derived.Test.YtpakemggfjmfcaaMJc
import Derived.Test.YtpakemggfjmfcaaMDk
import Derived.Test.YtpakemggfjmfcaaMDs
import Derived.Test.YtpakemggfjmfcaaProg
set_option linter.unusedVariables false
set_option linter.unusedSimpArgs false
namespace Go.E
open Go
def L8 : LFn := ⟨2, (.seq (.reg [⟨(.some 4), (.mv (.c (.lf (.bool false)))), none⟩])
 (.seq (.reg [⟨(.some 5), (.mv (.c (.lf (.int .i64 1048576)))), none⟩])
 (.seq (.reg [⟨(.some 17), (.mv (.t 0)), none⟩, ⟨(.some 18), (.mv (.t 5)), none⟩, ⟨(.some 19), (.call true 42 [(.t 17), (.t 18)]), none⟩, ⟨(.some 5), (.mv (.t 19)), none⟩])
 (.seq (.seq (.reg [⟨(.some 20), (.mv (.t 5)), none⟩, ⟨(.some 21), (.bin .lss (.t 20) (.c (.lf (.int .i64 0)))), none⟩])
 (.cond (.t 21) (.seq (.reg [⟨(.some 4), (.mv (.c (.lf (.bool true)))), none⟩])
 .ret) .skip))
 (.seq (.reg [⟨(.some 22), (.mv (.t 1)), none⟩, ⟨(.some 23), (.mv (.t 5)), none⟩, ⟨(.some 24), (.call true 42 [(.t 22), (.t 23)]), none⟩, ⟨(.some 5), (.mv (.t 24)), none⟩])
 (.seq (.seq (.reg [⟨(.some 25), (.mv (.t 5)), none⟩, ⟨(.some 26), (.bin .lss (.t 25) (.c (.lf (.int .i64 0)))), none⟩])
 (.cond (.t 26) (.seq (.reg [⟨(.some 4), (.mv (.c (.lf (.bool true)))), none⟩])
 .ret) .skip))
 (.seq (.reg [⟨(.some 28), (.mv (.t 0)), none⟩, ⟨(.some 29), (.call false 45 [(.t 28)]), none⟩, ⟨(.some 30), (.mv (.t 1)), none⟩, ⟨(.some 31), (.call false 45 [(.t 30)]), none⟩, ⟨(.some 32), (.call false 50 [(.t 29), (.t 31)]), none⟩, ⟨(.some 27), (.mv (.t 32)), none⟩, ⟨(.some 33), (.ext (.t 27) 0), none⟩, ⟨(.some 34), (.ext (.t 27) 1), none⟩, ⟨(.some 6), (.mv (.t 33)), none⟩, ⟨(.some 7), (.mv (.t 34)), none⟩])
 (.seq (.reg [⟨(.some 35), (.mv (.t 0)), none⟩, ⟨(.some 36), (.call false 45 [(.t 35)]), none⟩, ⟨(.some 8), (.mv (.t 36)), none⟩])
 (.seq (.reg [⟨(.some 37), (.mv (.t 1)), none⟩, ⟨(.some 38), (.call false 45 [(.t 37)]), none⟩, ⟨(.some 9), (.mv (.t 38)), none⟩])
 (.seq (.reg [⟨(.some 40), (.mv (.t 8)), none⟩, ⟨(.some 41), (.mv (.t 9)), none⟩, ⟨(.some 42), (.call false 51 [(.t 40), (.t 41)]), none⟩, ⟨(.some 39), (.mv (.t 42)), none⟩, ⟨(.some 43), (.ext (.t 39) 0), none⟩, ⟨(.some 44), (.ext (.t 39) 1), none⟩, ⟨(.some 10), (.mv (.t 43)), none⟩, ⟨(.some 11), (.mv (.t 44)), none⟩])
 (.seq (.seq (.reg [⟨(.some 45), (.mv (.t 10)), none⟩, ⟨(.some 46), (.mv (.t 6)), none⟩, ⟨(.some 47), (.call true 48 [(.t 45), (.t 46)]), none⟩, ⟨(.some 48), (.una .not (.t 47)), none⟩, ⟨(.some 49), (.mv (.t 48)), none⟩, ⟨(.some 50), (.mv (.t 11)), (.some (49, false))⟩, ⟨(.some 51), (.mv (.t 7)), (.some (49, false))⟩, ⟨(.some 52), (.beq true (.t 50) (.t 51)), (.some (49, false))⟩, ⟨(.some 53), (.pick (.t 49) (.c (.lf (.bool true))) (.t 52)), none⟩])
 (.cond (.t 53) (.seq (.reg [⟨(.some 4), (.mv (.c (.lf (.bool false)))), none⟩])
 .ret) .skip))
 (.seq (.seq (.reg [⟨(.some 54), (.mv (.t 8)), none⟩, ⟨(.some 55), (.mv (.t 0)), none⟩, ⟨(.some 56), (.call false 45 [(.t 55)]), none⟩, ⟨(.some 57), (.call true 48 [(.t 54), (.t 56)]), none⟩, ⟨(.some 58), (.una .not (.t 57)), none⟩])
 (.cond (.t 58) (.seq (.reg [⟨(.some 4), (.mv (.c (.lf (.bool false)))), none⟩])
 .ret) .skip))
 (.seq (.seq (.reg [⟨(.some 59), (.mv (.t 9)), none⟩, ⟨(.some 60), (.mv (.t 1)), none⟩, ⟨(.some 61), (.call false 45 [(.t 60)]), none⟩, ⟨(.some 62), (.call true 48 [(.t 59), (.t 61)]), none⟩, ⟨(.some 63), (.una .not (.t 62)), none⟩])
 (.cond (.t 63) (.seq (.reg [⟨(.some 4), (.mv (.c (.lf (.bool false)))), none⟩])
 .ret) .skip))
 (.seq (.reg [⟨(.some 12), (.mv (.c (.lf (.int .i64 1)))), none⟩])
 (.seq (.reg [⟨(.some 64), (.mv (.t 8)), none⟩, ⟨(.some 65), (.mv (.t 12)), none⟩, ⟨(.some 66), (.call false 52 [(.t 64), (.t 65)]), none⟩, ⟨(.some 12), (.mv (.t 66)), none⟩])
 (.seq (.reg [⟨(.some 67), (.mv (.t 9)), none⟩, ⟨(.some 68), (.mv (.t 12)), none⟩, ⟨(.some 69), (.call false 52 [(.t 67), (.t 68)]), none⟩, ⟨(.some 12), (.mv (.t 69)), none⟩])
 (.seq (.seq (.reg [⟨(.some 70), (.mv (.t 12)), none⟩, ⟨(.some 71), (.bin .lss (.t 70) (.c (.lf (.int .i64 0)))), none⟩, ⟨(.some 72), (.mv (.t 71)), none⟩, ⟨(.some 73), (.mv (.t 10)), (.some (72, false))⟩, ⟨(.some 74), (.mv (.t 6)), (.some (72, false))⟩, ⟨(.some 75), (.call true 48 [(.t 73), (.t 74)]), (.some (72, false))⟩, ⟨(.some 76), (.una .not (.t 75)), (.some (72, false))⟩, ⟨(.some 77), (.pick (.t 72) (.c (.lf (.bool true))) (.t 76)), none⟩, ⟨(.some 78), (.mv (.t 77)), none⟩, ⟨(.some 79), (.mv (.t 11)), (.some (78, false))⟩, ⟨(.some 80), (.mv (.t 7)), (.some (78, false))⟩, ⟨(.some 81), (.beq true (.t 79) (.t 80)), (.some (78, false))⟩, ⟨(.some 82), (.pick (.t 78) (.c (.lf (.bool true))) (.t 81)), none⟩])
 (.cond (.t 82) (.seq (.reg [⟨(.some 4), (.mv (.c (.lf (.bool false)))), none⟩])
 .ret) .skip))
 (.seq (.reg [⟨(.some 13), (.mv (.c (.lf (.int .i64 1)))), none⟩])
 (.seq (.reg [⟨(.some 83), (.mv (.t 10)), none⟩, ⟨(.some 84), (.mv (.t 13)), none⟩, ⟨(.some 85), (.call false 52 [(.t 83), (.t 84)]), none⟩, ⟨(.some 13), (.mv (.t 85)), none⟩])
 (.seq (.reg [⟨(.some 14), (.mv (.c (.lf (.int .i64 1)))), none⟩])
 (.seq (.reg [⟨(.some 86), (.mv (.t 10)), none⟩, ⟨(.some 87), (.mv (.t 14)), none⟩, ⟨(.some 88), (.call true 53 [(.t 86), (.t 87)]), none⟩, ⟨(.some 14), (.mv (.t 88)), none⟩])
 (.seq (.seq (.reg [⟨(.some 89), (.mv (.t 14)), none⟩, ⟨(.some 90), (.bin .lss (.t 89) (.c (.lf (.int .i64 0)))), none⟩])
 (.cond (.t 90) (.seq (.reg [⟨(.some 4), (.mv (.c (.lf (.bool false)))), none⟩])
 .ret) .skip))
 (.seq (.seq (.reg [⟨(.some 91), (.mv (.t 14)), none⟩, ⟨(.some 92), (.mv (.t 13)), none⟩, ⟨(.some 93), (.bin .neq (.t 91) (.t 92)), none⟩])
 (.cond (.t 93) (.seq (.reg [⟨(.some 4), (.mv (.c (.lf (.bool false)))), none⟩])
 .ret) .skip))
 (.seq (.reg [⟨(.some 95), (.mv (.t 0)), none⟩, ⟨(.some 96), (.call false 45 [(.t 95)]), none⟩, ⟨(.some 97), (.mv (.t 1)), none⟩, ⟨(.some 98), (.call false 45 [(.t 97)]), none⟩, ⟨(.some 99), (.call false 51 [(.t 96), (.t 98)]), none⟩, ⟨(.some 94), (.mv (.t 99)), none⟩, ⟨(.some 100), (.ext (.t 94) 0), none⟩, ⟨(.some 101), (.ext (.t 94) 1), none⟩, ⟨(.some 15), (.mv (.t 100)), none⟩, ⟨(.some 16), (.mv (.t 101)), none⟩])
 (.seq (.seq (.reg [⟨(.some 102), (.mv (.t 15)), none⟩, ⟨(.some 103), (.mv (.t 6)), none⟩, ⟨(.some 104), (.call true 48 [(.t 102), (.t 103)]), none⟩, ⟨(.some 105), (.una .not (.t 104)), none⟩, ⟨(.some 106), (.mv (.t 105)), none⟩, ⟨(.some 107), (.mv (.t 16)), (.some (106, false))⟩, ⟨(.some 108), (.mv (.t 7)), (.some (106, false))⟩, ⟨(.some 109), (.beq true (.t 107) (.t 108)), (.some (106, false))⟩, ⟨(.some 110), (.pick (.t 106) (.c (.lf (.bool true))) (.t 109)), none⟩])
 (.cond (.t 110) (.seq (.reg [⟨(.some 4), (.mv (.c (.lf (.bool false)))), none⟩])
 .ret) .skip))
 (.seq (.reg [⟨(.some 14), (.mv (.c (.lf (.int .i64 1)))), none⟩])
 (.seq (.reg [⟨(.some 111), (.mv (.t 10)), none⟩, ⟨(.some 112), (.mv (.t 14)), none⟩, ⟨(.some 113), (.call true 53 [(.t 111), (.t 112)]), none⟩, ⟨(.some 14), (.mv (.t 113)), none⟩])
 (.seq (.seq (.reg [⟨(.some 114), (.mv (.t 14)), none⟩, ⟨(.some 115), (.bin .lss (.t 114) (.c (.lf (.int .i64 0)))), none⟩])
 (.cond (.t 115) (.seq (.reg [⟨(.some 4), (.mv (.c (.lf (.bool false)))), none⟩])
 .ret) .skip))
 (.seq (.seq (.reg [⟨(.some 116), (.mv (.t 14)), none⟩, ⟨(.some 117), (.mv (.t 13)), none⟩, ⟨(.some 118), (.bin .neq (.t 116) (.t 117)), none⟩])
 (.cond (.t 118) (.seq (.reg [⟨(.some 4), (.mv (.c (.lf (.bool false)))), none⟩])
 .ret) .skip))
 (.seq (.reg [⟨(.some 4), (.mv (.c (.lf (.bool true)))), none⟩])
 .ret)))))))))))))))))))))))))))))), [(.tmp 4)]⟩
class HasLJoinChains (S : Sys) : Prop extends HasJc S, HasDE S, HasKE S where
  f8 : S.fs 8 = some L8
set_option maxRecDepth 20000 in
set_option maxHeartbeats 4000000 in
theorem lawJoinChains {S : Sys} [HasLJoinChains S] : LawHolds S 8 [(false, .sl 3 effSh), (false, .sl 3 effSh)] := by
  intro h cs hcs
  obtain ⟨c0, _, rfl, ⟨ls0, rfl, l, rows, rfl, hAl, hrows⟩, c1, _, rfl, ⟨ls1, rfl, l2, rows2, rfl, hAl2, hrows2⟩, rfl⟩ := hcs
  obtain ⟨ps, rfl, hIl, _⟩ := effs_of hrows
  obtain ⟨qs, rfl, hIl2, _⟩ := effs_of hrows2
  clear hrows hrows2
  have cs : ∀ {g a0 p0 a1 p1 K}, NewD h g a0 104 3 Eff.cells Eff.nums 22 p0 → p0.map (·.1) = ps.map (·.1) → NewD h g a1 104 3 Eff.cells Eff.nums 22 p1 → p1.map (·.1) = qs.map (·.1) → h.length ≤ g.length → (∀ o po g', NewD g g' o 104 3 Eff.cells Eff.nums 22 po → po.map (·.1) = jcR (ps.map (·.1)) (qs.map (·.1)) → K (.tup [.lf o, .lf (.bool (decide (okJc (ps.map (·.1)) (qs.map (·.1)))))]) g') → CallT S false 50 [.lf a0, .lf a1] g h.length K := fun h0 e0 h1 e1 hl hk => c_specJoinChains h0.arr (Sms.new h0) h1.arr (Sms.new h1) hl (fun o g qs hD hq => by rw [e0, e1] at hq ⊢; exact hk o qs g hD hq)
  have ci : ∀ {g a0 p0 a1 p1 K}, NewD h g a0 104 3 Eff.cells Eff.nums 22 p0 → p0.map (·.1) = ps.map (·.1) → NewD h g a1 104 3 Eff.cells Eff.nums 22 p1 → p1.map (·.1) = qs.map (·.1) → h.length ≤ g.length → (∀ o po g', NewD g g' o 104 3 Eff.cells Eff.nums 22 po → po.map (·.1) = jcR (ps.map (·.1)) (qs.map (·.1)) → K (.tup [.lf o, .lf (.bool (decide (okJc (ps.map (·.1)) (qs.map (·.1)))))]) g') → CallT S false 51 [.lf a0, .lf a1] g h.length K := fun h0 e0 h1 e1 hl hk => c_implJoinChains h0.arr (Sms.new h0) h1.arr (Sms.new h1) hl (fun o g qs hD hq => by rw [e0, e1] at hq ⊢; exact hk o qs g hD hq)
  have hsm := jcR_small (a := ps.map (·.1)) (b := qs.map (·.1))
  generalize jcR (ps.map (·.1)) (qs.map (·.1)) = y at *
  generalize decide (okJc (ps.map (·.1)) (qs.map (·.1))) = ok at *
  have hlo0 : ∀ {qs : List (Eff × Lf)}, qs.map (·.1) = y → qs.length ≤ 16777216 ∧ szD Eff.nums qs ≤ 16777216 := fun he => by have := small_of (ro := Eff.nums) hsm.1 hsm.2 he; omega
  clear hsm
  refine law_of (F := L8) HasLJoinChains.f8 rfl ?_
  have hs := fun K lim => c_szEffectS (S := S) (K := K) (lim := lim) hAl hIl (b := 1048576) (by decide) (by decide)
  by_cases hsz : (1048576 : Int) < ps.length + szD Eff.nums ps
  · rw [if_pos hsz] at hs
    unfold L8
    dsimp only []
    repeat' (first | (simp (disch := first | omega | assumption | (simp only [List.length_set]; omega) | (simp [*] <;> fail) | assumption) [-Bool.decide_and, -Bool.decide_or, -Bool.not_and, -Bool.not_or, toNat_pred, toNat_succ, wrap64, wr_new, wr_new0, ok_if, ok_ifn, iadV_sl, makeV_int, decT, decF, over_at, *]) | (with_reducible refine Gd_split (fun hc => ?_) (fun hc => ?_) <;> (have hc2 := hc; try simp at hc2)) | (with_reducible refine Br_split (fun hc => ?_) (fun hc => ?_) <;> (have hc2 := hc; try simp at hc2)) | (with_reducible refine GdT_split (fun hc => ?_) (fun hc => ?_) <;> (have hc2 := hc; try simp at hc2)) | (with_reducible refine WT_alt ?_ ?_) | omega)
  rw [if_neg hsz] at hs
  have hs2 := fun K lim => c_szEffectS (S := S) (K := K) (lim := lim) hAl2 hIl2 (b := 1048576 - (ps.length + szD Eff.nums ps)) (by omega) (by omega)
  by_cases hsz2 : (1048576 : Int) - (ps.length + szD Eff.nums ps) < qs.length + szD Eff.nums qs
  · rw [if_pos hsz2] at hs2
    unfold L8
    dsimp only []
    repeat' (first | (simp (disch := first | omega | assumption | (simp only [List.length_set]; omega) | (simp [*] <;> fail) | assumption) [-Bool.decide_and, -Bool.decide_or, -Bool.not_and, -Bool.not_or, toNat_pred, toNat_succ, wrap64, wr_new, wr_new0, ok_if, ok_ifn, iadV_sl, makeV_int, decT, decF, over_at, *]) | (with_reducible refine Gd_split (fun hc => ?_) (fun hc => ?_) <;> (have hc2 := hc; try simp at hc2)) | (with_reducible refine Br_split (fun hc => ?_) (fun hc => ?_) <;> (have hc2 := hc; try simp at hc2)) | (with_reducible refine GdT_split (fun hc => ?_) (fun hc => ?_) <;> (have hc2 := hc; try simp at hc2)) | (with_reducible refine WT_alt ?_ ?_) | omega)
  rw [if_neg hsz2] at hs2
  unfold L8
  dsimp only []
  repeat' (first | (simp (disch := first | omega | assumption | (simp only [List.length_set]; omega) | (simp [*] <;> fail) | assumption) [-Bool.decide_and, -Bool.decide_or, -Bool.not_and, -Bool.not_or, toNat_pred, toNat_succ, wrap64, wr_new, wr_new0, ok_if, ok_ifn, iadV_sl, makeV_int, decT, decF, over_at, *]) | (with_reducible refine Gd_split (fun hc => ?_) (fun hc => ?_) <;> (have hc2 := hc; try simp at hc2)) | (with_reducible refine Br_split (fun hc => ?_) (fun hc => ?_) <;> (have hc2 := hc; try simp at hc2)) | (with_reducible refine GdT_split (fun hc => ?_) (fun hc => ?_) <;> (have hc2 := hc; try simp at hc2)) | (with_reducible refine WT_alt ?_ ?_) | omega)
  have hnl : ps.length ≤ 16777216 := by omega
  have hml : szD Eff.nums ps ≤ 16777216 := by omega
  have hnl2 : qs.length ≤ 16777216 := by omega
  have hml2 : szD Eff.nums qs ≤ 16777216 := by omega
  clear hs hsz hs2 hsz2
  refine c_toEffectS (hAl.kept (Kept.refl h)) (hIl.kept (Kept.refl h)) hnl hml (Kept.refl h).1 fun x0 g1 px0 hx0 Ex0 => ?_
  have Bx0 : px0.length ≤ 16777216 ∧ szD Eff.nums px0 ≤ 16777216 := ⟨by rw [map_len Ex0]; omega, by rw [szD_map Ex0]; omega⟩
  have K2 := (Kept.refl h).trans hx0.kept
  have Q2 := hx0.kept.1
  have P2 := K2.1
  have Zx0 := hx0.lvs_lt
  have Nx0 := hx0.base (Kept.refl h)
  repeat' (first | (simp (disch := first | omega | assumption | (simp only [List.length_set]; omega) | (simp [*] <;> fail) | assumption) [-Bool.decide_and, -Bool.decide_or, -Bool.not_and, -Bool.not_or, toNat_pred, toNat_succ, wrap64, wr_new, wr_new0, ok_if, ok_ifn, iadV_sl, makeV_int, decT, decF, over_at, *]) | (with_reducible refine Gd_split (fun hc => ?_) (fun hc => ?_) <;> (have hc2 := hc; try simp at hc2)) | (with_reducible refine Br_split (fun hc => ?_) (fun hc => ?_) <;> (have hc2 := hc; try simp at hc2)) | (with_reducible refine GdT_split (fun hc => ?_) (fun hc => ?_) <;> (have hc2 := hc; try simp at hc2)) | (with_reducible refine WT_alt ?_ ?_) | omega)
  refine c_toEffectS (hAl2.kept K2) (hIl2.kept K2) hnl2 hml2 K2.1 fun x1 g3 px1 hx1 Ex1 => ?_
  have Bx1 : px1.length ≤ 16777216 ∧ szD Eff.nums px1 ≤ 16777216 := ⟨by rw [map_len Ex1]; omega, by rw [szD_map Ex1]; omega⟩
  have K4 := K2.trans hx1.kept
  have Q4 := hx1.kept.1
  have P4 := K4.1
  have Zx1 := hx1.lvs_lt
  have Nx1 := hx1.base K2
  replace Nx0 := Nx0.later hx1.kept
  repeat' (first | (simp (disch := first | omega | assumption | (simp only [List.length_set]; omega) | (simp [*] <;> fail) | assumption) [-Bool.decide_and, -Bool.decide_or, -Bool.not_and, -Bool.not_or, toNat_pred, toNat_succ, wrap64, wr_new, wr_new0, ok_if, ok_ifn, iadV_sl, makeV_int, decT, decF, over_at, *]) | (with_reducible refine Gd_split (fun hc => ?_) (fun hc => ?_) <;> (have hc2 := hc; try simp at hc2)) | (with_reducible refine Br_split (fun hc => ?_) (fun hc => ?_) <;> (have hc2 := hc; try simp at hc2)) | (with_reducible refine GdT_split (fun hc => ?_) (fun hc => ?_) <;> (have hc2 := hc; try simp at hc2)) | (with_reducible refine WT_alt ?_ ?_) | omega)
  refine cs Nx0 Ex0 Nx1 Ex1 K4.1 fun s0 ps0 g5 hs0 Es0  => ?_
  have Bs0 := hlo0 Es0
  have K6 := K4.trans hs0.kept
  have Q6 := hs0.kept.1
  have P6 := K6.1
  have Zs0 := hs0.lvs_lt
  have Ns0 := hs0.base K4
  replace Nx0 := Nx0.later hs0.kept
  replace Nx1 := Nx1.later hs0.kept
  repeat' (first | (simp (disch := first | omega | assumption | (simp only [List.length_set]; omega) | (simp [*] <;> fail) | assumption) [-Bool.decide_and, -Bool.decide_or, -Bool.not_and, -Bool.not_or, toNat_pred, toNat_succ, wrap64, wr_new, wr_new0, ok_if, ok_ifn, iadV_sl, makeV_int, decT, decF, over_at, *]) | (with_reducible refine Gd_split (fun hc => ?_) (fun hc => ?_) <;> (have hc2 := hc; try simp at hc2)) | (with_reducible refine Br_split (fun hc => ?_) (fun hc => ?_) <;> (have hc2 := hc; try simp at hc2)) | (with_reducible refine GdT_split (fun hc => ?_) (fun hc => ?_) <;> (have hc2 := hc; try simp at hc2)) | (with_reducible refine WT_alt ?_ ?_) | omega)
  refine c_toEffectS (hAl.kept K6) (hIl.kept K6) hnl hml K6.1 fun a0 g7 pa0 ha0 Ea0 => ?_
  have Ba0 : pa0.length ≤ 16777216 ∧ szD Eff.nums pa0 ≤ 16777216 := ⟨by rw [map_len Ea0]; omega, by rw [szD_map Ea0]; omega⟩
  have K8 := K6.trans ha0.kept
  have Q8 := ha0.kept.1
  have P8 := K8.1
  have Za0 := ha0.lvs_lt
  have Na0 := ha0.base K6
  replace Ns0 := Ns0.later ha0.kept
  repeat' (first | (simp (disch := first | omega | assumption | (simp only [List.length_set]; omega) | (simp [*] <;> fail) | assumption) [-Bool.decide_and, -Bool.decide_or, -Bool.not_and, -Bool.not_or, toNat_pred, toNat_succ, wrap64, wr_new, wr_new0, ok_if, ok_ifn, iadV_sl, makeV_int, decT, decF, over_at, *]) | (with_reducible refine Gd_split (fun hc => ?_) (fun hc => ?_) <;> (have hc2 := hc; try simp at hc2)) | (with_reducible refine Br_split (fun hc => ?_) (fun hc => ?_) <;> (have hc2 := hc; try simp at hc2)) | (with_reducible refine GdT_split (fun hc => ?_) (fun hc => ?_) <;> (have hc2 := hc; try simp at hc2)) | (with_reducible refine WT_alt ?_ ?_) | omega)
  refine c_toEffectS (hAl2.kept K8) (hIl2.kept K8) hnl2 hml2 K8.1 fun a1 g9 pa1 ha1 Ea1 => ?_
  have Ba1 : pa1.length ≤ 16777216 ∧ szD Eff.nums pa1 ≤ 16777216 := ⟨by rw [map_len Ea1]; omega, by rw [szD_map Ea1]; omega⟩
  have K10 := K8.trans ha1.kept
  have Q10 := ha1.kept.1
  have P10 := K10.1
  have Za1 := ha1.lvs_lt
  have Na1 := ha1.base K8
  replace Ns0 := Ns0.later ha1.kept
  replace Na0 := Na0.later ha1.kept
  repeat' (first | (simp (disch := first | omega | assumption | (simp only [List.length_set]; omega) | (simp [*] <;> fail) | assumption) [-Bool.decide_and, -Bool.decide_or, -Bool.not_and, -Bool.not_or, toNat_pred, toNat_succ, wrap64, wr_new, wr_new0, ok_if, ok_ifn, iadV_sl, makeV_int, decT, decF, over_at, *]) | (with_reducible refine Gd_split (fun hc => ?_) (fun hc => ?_) <;> (have hc2 := hc; try simp at hc2)) | (with_reducible refine Br_split (fun hc => ?_) (fun hc => ?_) <;> (have hc2 := hc; try simp at hc2)) | (with_reducible refine GdT_split (fun hc => ?_) (fun hc => ?_) <;> (have hc2 := hc; try simp at hc2)) | (with_reducible refine WT_alt ?_ ?_) | omega)
  refine ci Na0 Ea0 Na1 Ea1 K10.1 fun r0 pr0 g11 hr0 Er0  => ?_
  have Br0 := hlo0 Er0
  have K12 := K10.trans hr0.kept
  have Q12 := hr0.kept.1
  have P12 := K12.1
  have Zr0 := hr0.lvs_lt
  have Nr0 := hr0.base K10
  replace Ns0 := Ns0.later hr0.kept
  replace Na0 := Na0.later hr0.kept
  replace Na1 := Na1.later hr0.kept
  repeat' (first | (simp (disch := first | omega | assumption | (simp only [List.length_set]; omega) | (simp [*] <;> fail) | assumption) [-Bool.decide_and, -Bool.decide_or, -Bool.not_and, -Bool.not_or, toNat_pred, toNat_succ, wrap64, wr_new, wr_new0, ok_if, ok_ifn, iadV_sl, makeV_int, decT, decF, over_at, *, c_eqEffectS Nr0.arr Nr0.ins Ns0.arr Ns0.ins (Es0.trans Er0.symm)]) | (with_reducible refine Gd_split (fun hc => ?_) (fun hc => ?_) <;> (have hc2 := hc; try simp at hc2)) | (with_reducible refine Br_split (fun hc => ?_) (fun hc => ?_) <;> (have hc2 := hc; try simp at hc2)) | (with_reducible refine GdT_split (fun hc => ?_) (fun hc => ?_) <;> (have hc2 := hc; try simp at hc2)) | (with_reducible refine WT_alt ?_ ?_) | omega)
  refine c_toEffectS (hAl.kept K12) (hIl.kept K12) hnl hml K12.1 fun y0 g13 py0 hy0 Ey0 => ?_
  have By0 : py0.length ≤ 16777216 ∧ szD Eff.nums py0 ≤ 16777216 := ⟨by rw [map_len Ey0]; omega, by rw [szD_map Ey0]; omega⟩
  have K14 := K12.trans hy0.kept
  have Q14 := hy0.kept.1
  have P14 := K14.1
  have Zy0 := hy0.lvs_lt
  have Ny0 := hy0.base K12
  replace Ns0 := Ns0.later hy0.kept
  replace Na0 := Na0.later hy0.kept
  replace Na1 := Na1.later hy0.kept
  replace Nr0 := Nr0.later hy0.kept
  repeat' (first | (simp (disch := first | omega | assumption | (simp only [List.length_set]; omega) | (simp [*] <;> fail) | assumption) [-Bool.decide_and, -Bool.decide_or, -Bool.not_and, -Bool.not_or, toNat_pred, toNat_succ, wrap64, wr_new, wr_new0, ok_if, ok_ifn, iadV_sl, makeV_int, decT, decF, over_at, *, c_eqEffectS Na0.arr Na0.ins Ny0.arr Ny0.ins (Ey0.trans Ea0.symm)]) | (with_reducible refine Gd_split (fun hc => ?_) (fun hc => ?_) <;> (have hc2 := hc; try simp at hc2)) | (with_reducible refine Br_split (fun hc => ?_) (fun hc => ?_) <;> (have hc2 := hc; try simp at hc2)) | (with_reducible refine GdT_split (fun hc => ?_) (fun hc => ?_) <;> (have hc2 := hc; try simp at hc2)) | (with_reducible refine WT_alt ?_ ?_) | omega)
  refine c_toEffectS (hAl2.kept K14) (hIl2.kept K14) hnl2 hml2 K14.1 fun y1 g15 py1 hy1 Ey1 => ?_
  have By1 : py1.length ≤ 16777216 ∧ szD Eff.nums py1 ≤ 16777216 := ⟨by rw [map_len Ey1]; omega, by rw [szD_map Ey1]; omega⟩
  have K16 := K14.trans hy1.kept
  have Q16 := hy1.kept.1
  have P16 := K16.1
  have Zy1 := hy1.lvs_lt
  have Ny1 := hy1.base K14
  replace Ns0 := Ns0.later hy1.kept
  replace Na0 := Na0.later hy1.kept
  replace Na1 := Na1.later hy1.kept
  replace Nr0 := Nr0.later hy1.kept
  repeat' (first | (simp (disch := first | omega | assumption | (simp only [List.length_set]; omega) | (simp [*] <;> fail) | assumption) [-Bool.decide_and, -Bool.decide_or, -Bool.not_and, -Bool.not_or, toNat_pred, toNat_succ, wrap64, wr_new, wr_new0, ok_if, ok_ifn, iadV_sl, makeV_int, decT, decF, over_at, *, c_eqEffectS Na1.arr Na1.ins Ny1.arr Ny1.ins (Ey1.trans Ea1.symm)]) | (with_reducible refine Gd_split (fun hc => ?_) (fun hc => ?_) <;> (have hc2 := hc; try simp at hc2)) | (with_reducible refine Br_split (fun hc => ?_) (fun hc => ?_) <;> (have hc2 := hc; try simp at hc2)) | (with_reducible refine GdT_split (fun hc => ?_) (fun hc => ?_) <;> (have hc2 := hc; try simp at hc2)) | (with_reducible refine WT_alt ?_ ?_) | omega)
  refine c_markEffectS Na0 (by omega) (by have := Ba0; rw [kAt_all (ro := Eff.nums) (c := 2) (k := 1) (ps := pa0)]; omega) Ba0.1 Ba0.2 (Nat.le_refl _) fun g17 hM17 hB17 => ?_
  have O17 : ∀ s ∈ lvs a0 pa0, s ≠ .nils → h.length ≤ s.id := fun s hs q => by have := Za0 s hs q; omega
  have Q17 := hB17.len
  have K17 := hB17.kept K16 O17
  replace Ns0 := hB17.newD Ns0 O17 (fun s hs t ht q1 q2 e => by have := Za0 s hs q1; have := Zs0 t ht q2; omega)
  replace Na1 := hB17.newD Na1 O17 (fun s hs t ht q1 q2 e => by have := Za0 s hs q1; have := Za1 t ht q2; omega)
  replace Nr0 := hB17.newD Nr0 O17 (fun s hs t ht q1 q2 e => by have := Za0 s hs q1; have := Zr0 t ht q2; omega)
  have V17 : 1 ≤ kAt Eff.nums 2 1 pa0 pa0.length ∧ kAt Eff.nums 2 1 pa0 pa0.length ≤ 1 + 2 * 16777216 + 16777216 := by have := Ba0; rw [kAt_all (ro := Eff.nums) (c := 2) (k := 1) (ps := pa0)]; omega
  replace Na0 := hM17
  repeat' (first | (simp (disch := first | omega | assumption | (simp only [List.length_set]; omega) | (simp [*] <;> fail) | assumption) [-Bool.decide_and, -Bool.decide_or, -Bool.not_and, -Bool.not_or, toNat_pred, toNat_succ, wrap64, wr_new, wr_new0, ok_if, ok_ifn, iadV_sl, makeV_int, decT, decF, over_at, *]) | (with_reducible refine Gd_split (fun hc => ?_) (fun hc => ?_) <;> (have hc2 := hc; try simp at hc2)) | (with_reducible refine Br_split (fun hc => ?_) (fun hc => ?_) <;> (have hc2 := hc; try simp at hc2)) | (with_reducible refine GdT_split (fun hc => ?_) (fun hc => ?_) <;> (have hc2 := hc; try simp at hc2)) | (with_reducible refine WT_alt ?_ ?_) | omega)
  refine c_markEffectS Na1 (by omega) (by have := Ba1; rw [kAt_all (ro := Eff.nums) (c := 2) (k := (kAt Eff.nums 2 1 pa0 pa0.length)) (ps := pa1)]; omega) Ba1.1 Ba1.2 (Nat.le_refl _) fun g18 hM18 hB18 => ?_
  have O18 : ∀ s ∈ lvs a1 pa1, s ≠ .nils → h.length ≤ s.id := fun s hs q => by have := Za1 s hs q; omega
  have Q18 := hB18.len
  have K18 := hB18.kept K17 O18
  replace Ns0 := hB18.newD Ns0 O18 (fun s hs t ht q1 q2 e => by have := Za1 s hs q1; have := Zs0 t ht q2; omega)
  replace Nr0 := hB18.newD Nr0 O18 (fun s hs t ht q1 q2 e => by have := Za1 s hs q1; have := Zr0 t ht q2; omega)
  have V18 : (kAt Eff.nums 2 1 pa0 pa0.length) ≤ kAt Eff.nums 2 (kAt Eff.nums 2 1 pa0 pa0.length) pa1 pa1.length ∧ kAt Eff.nums 2 (kAt Eff.nums 2 1 pa0 pa0.length) pa1 pa1.length ≤ (kAt Eff.nums 2 1 pa0 pa0.length) + 2 * 16777216 + 16777216 := by have := Ba1; rw [kAt_all (ro := Eff.nums) (c := 2) (k := (kAt Eff.nums 2 1 pa0 pa0.length)) (ps := pa1)]; omega
  replace Na1 := hM18
  repeat' (first | (simp (disch := first | omega | assumption | (simp only [List.length_set]; omega) | (simp [*] <;> fail) | assumption) [-Bool.decide_and, -Bool.decide_or, -Bool.not_and, -Bool.not_or, toNat_pred, toNat_succ, wrap64, wr_new, wr_new0, ok_if, ok_ifn, iadV_sl, makeV_int, decT, decF, over_at, *, c_eqEffectS Nr0.arr Nr0.ins Ns0.arr Ns0.ins (Es0.trans Er0.symm)]) | (with_reducible refine Gd_split (fun hc => ?_) (fun hc => ?_) <;> (have hc2 := hc; try simp at hc2)) | (with_reducible refine Br_split (fun hc => ?_) (fun hc => ?_) <;> (have hc2 := hc; try simp at hc2)) | (with_reducible refine GdT_split (fun hc => ?_) (fun hc => ?_) <;> (have hc2 := hc; try simp at hc2)) | (with_reducible refine WT_alt ?_ ?_) | omega)
  refine c_markEffectS Nr0 (by omega) (by have := Br0; rw [kAt_all (ro := Eff.nums) (c := 2) (k := 1) (ps := pr0)]; omega) Br0.1 Br0.2 (Nat.le_refl _) fun g19 hM19 hB19 => ?_
  have O19 : ∀ s ∈ lvs r0 pr0, s ≠ .nils → h.length ≤ s.id := fun s hs q => by have := Zr0 s hs q; omega
  have Q19 := hB19.len
  have K19 := hB19.kept K18 O19
  replace Ns0 := hB19.newD Ns0 O19 (fun s hs t ht q1 q2 e => by have := Zr0 s hs q1; have := Zs0 t ht q2; omega)
  have V19 : 1 ≤ kAt Eff.nums 2 1 pr0 pr0.length ∧ kAt Eff.nums 2 1 pr0 pr0.length ≤ 1 + 2 * 16777216 + 16777216 := by have := Br0; rw [kAt_all (ro := Eff.nums) (c := 2) (k := 1) (ps := pr0)]; omega
  replace Nr0 := hM19
  rw [← lvs_mkD (mk := mkE) (ro := Eff.nums) (c := 2) (k := 1)] at Zr0
  repeat' (first | (simp (disch := first | omega | assumption | (simp only [List.length_set]; omega) | (simp [*] <;> fail) | assumption) [-Bool.decide_and, -Bool.decide_or, -Bool.not_and, -Bool.not_or, toNat_pred, toNat_succ, wrap64, wr_new, wr_new0, ok_if, ok_ifn, iadV_sl, makeV_int, decT, decF, over_at, *, c_heldEffectS Nr0.arr Nr0.ins (by omega) (by have := Br0; rw [kAt_all (ro := Eff.nums) (c := 2) (k := 1) (ps := pr0)]; omega) Br0.1 Br0.2]) | (with_reducible refine Gd_split (fun hc => ?_) (fun hc => ?_) <;> (have hc2 := hc; try simp at hc2)) | (with_reducible refine Br_split (fun hc => ?_) (fun hc => ?_) <;> (have hc2 := hc; try simp at hc2)) | (with_reducible refine GdT_split (fun hc => ?_) (fun hc => ?_) <;> (have hc2 := hc; try simp at hc2)) | (with_reducible refine WT_alt ?_ ?_) | omega)
  refine c_toEffectS (hAl.kept K19) (hIl.kept K19) hnl hml K19.1 fun w0 g20 pw0 hw0 Ew0 => ?_
  have Bw0 : pw0.length ≤ 16777216 ∧ szD Eff.nums pw0 ≤ 16777216 := ⟨by rw [map_len Ew0]; omega, by rw [szD_map Ew0]; omega⟩
  have K21 := K19.trans hw0.kept
  have Q21 := hw0.kept.1
  have P21 := K21.1
  have Zw0 := hw0.lvs_lt
  have Nw0 := hw0.base K19
  replace Ns0 := Ns0.later hw0.kept
  replace Nr0 := Nr0.later hw0.kept
  repeat' (first | (simp (disch := first | omega | assumption | (simp only [List.length_set]; omega) | (simp [*] <;> fail) | assumption) [-Bool.decide_and, -Bool.decide_or, -Bool.not_and, -Bool.not_or, toNat_pred, toNat_succ, wrap64, wr_new, wr_new0, ok_if, ok_ifn, iadV_sl, makeV_int, decT, decF, over_at, *]) | (with_reducible refine Gd_split (fun hc => ?_) (fun hc => ?_) <;> (have hc2 := hc; try simp at hc2)) | (with_reducible refine Br_split (fun hc => ?_) (fun hc => ?_) <;> (have hc2 := hc; try simp at hc2)) | (with_reducible refine GdT_split (fun hc => ?_) (fun hc => ?_) <;> (have hc2 := hc; try simp at hc2)) | (with_reducible refine WT_alt ?_ ?_) | omega)
  refine c_toEffectS (hAl2.kept K21) (hIl2.kept K21) hnl2 hml2 K21.1 fun w1 g22 pw1 hw1 Ew1 => ?_
  have Bw1 : pw1.length ≤ 16777216 ∧ szD Eff.nums pw1 ≤ 16777216 := ⟨by rw [map_len Ew1]; omega, by rw [szD_map Ew1]; omega⟩
  have K23 := K21.trans hw1.kept
  have Q23 := hw1.kept.1
  have P23 := K23.1
  have Zw1 := hw1.lvs_lt
  have Nw1 := hw1.base K21
  replace Ns0 := Ns0.later hw1.kept
  replace Nr0 := Nr0.later hw1.kept
  replace Nw0 := Nw0.later hw1.kept
  repeat' (first | (simp (disch := first | omega | assumption | (simp only [List.length_set]; omega) | (simp [*] <;> fail) | assumption) [-Bool.decide_and, -Bool.decide_or, -Bool.not_and, -Bool.not_or, toNat_pred, toNat_succ, wrap64, wr_new, wr_new0, ok_if, ok_ifn, iadV_sl, makeV_int, decT, decF, over_at, *]) | (with_reducible refine Gd_split (fun hc => ?_) (fun hc => ?_) <;> (have hc2 := hc; try simp at hc2)) | (with_reducible refine Br_split (fun hc => ?_) (fun hc => ?_) <;> (have hc2 := hc; try simp at hc2)) | (with_reducible refine GdT_split (fun hc => ?_) (fun hc => ?_) <;> (have hc2 := hc; try simp at hc2)) | (with_reducible refine WT_alt ?_ ?_) | omega)
  refine ci Nw0 Ew0 Nw1 Ew1 K23.1 fun u0 pu0 g24 hu0 Eu0  => ?_
  have Bu0 := hlo0 Eu0
  have K25 := K23.trans hu0.kept
  have Q25 := hu0.kept.1
  have P25 := K25.1
  have Zu0 := hu0.lvs_lt
  have Nu0 := hu0.base K23
  replace Ns0 := Ns0.later hu0.kept
  replace Nr0 := Nr0.later hu0.kept
  replace Nw0 := Nw0.later hu0.kept
  replace Nw1 := Nw1.later hu0.kept
  repeat' (first | (simp (disch := first | omega | assumption | (simp only [List.length_set]; omega) | (simp [*] <;> fail) | assumption) [-Bool.decide_and, -Bool.decide_or, -Bool.not_and, -Bool.not_or, toNat_pred, toNat_succ, wrap64, wr_new, wr_new0, ok_if, ok_ifn, iadV_sl, makeV_int, decT, decF, over_at, *, c_eqEffectS Nu0.arr Nu0.ins Ns0.arr Ns0.ins (Es0.trans Eu0.symm), c_heldEffectS Nr0.arr Nr0.ins (by omega) (by have := Br0; rw [kAt_all (ro := Eff.nums) (c := 2) (k := 1) (ps := pr0)]; omega) Br0.1 Br0.2]) | (with_reducible refine Gd_split (fun hc => ?_) (fun hc => ?_) <;> (have hc2 := hc; try simp at hc2)) | (with_reducible refine Br_split (fun hc => ?_) (fun hc => ?_) <;> (have hc2 := hc; try simp at hc2)) | (with_reducible refine GdT_split (fun hc => ?_) (fun hc => ?_) <;> (have hc2 := hc; try simp at hc2)) | (with_reducible refine WT_alt ?_ ?_) | omega)
end Go.E
namespace Go.E.JoinChains
open Go Go.E
def pure : FuncId → Bool := fun f => List.elem f [3, 4, 5, 6, 7, 8, 9, 10, 11, 12, 13, 14, 16, 17, 20, 21, 23, 26, 30, 31, 34, 35, 36, 37, 38, 39, 41, 42, 43, 44, 47, 48, 49, 53, 54, 58, 61, 63, 65, 68, 69, 71, 72, 73, 78, 79, 82, 85, 86, 88, 89, 91, 92, 93, 94, 95, 96, 97, 98, 99, 100, 101, 104, 106, 109, 110, 111, 112, 113, 115, 116, 117, 118, 120, 122, 123, 126, 128, 129, 130, 132, 133, 134, 135, 136, 137, 143, 144, 146, 147, 149, 150, 151, 152, 153, 154, 155, 156, 157, 160, 161, 162, 164, 165, 166, 168, 169, 170, 171, 172, 173, 174, 176, 177, 178, 179, 180, 181, 182, 183, 184, 185, 186, 187, 188, 189, 190, 191, 192, 195, 198, 200, 201, 202, 203, 204, 205, 206, 207, 208, 209, 210, 211, 212, 213, 215, 216, 217, 218, 219, 220, 222, 223, 224, 225, 227, 229, 231, 238, 240, 241]
def funs : List (Nat × LFn) := [(93, L93), (130, L130), (150, L150), (91, L91), (117, L117), (18, L18), (20, L20), (22, L22), (23, L23), (42, L42), (45, L45), (48, L48), (116, L116), (119, L119), (122, L122), (52, L52), (53, L53), (71, L71), (120, L120), (123, L123), (143, L143), (144, L144), (165, L165), (166, L166), (176, L176), (186, L186), (205, L205), (145, L145), (124, L124), (125, L125), (50, L50), (51, L51), (8, L8)]
def Sy : Sys := sysOf funs
theorem lfn93 : lFn Go.Proofs.Try.prog pure Go.Proofs.Try.f93 = some L93 := by kernel_rfl
theorem lfn130 : lFn Go.Proofs.Try.prog pure Go.Proofs.Try.f130 = some L130 := by kernel_rfl
theorem lfn150 : lFn Go.Proofs.Try.prog pure Go.Proofs.Try.f150 = some L150 := by kernel_rfl
theorem lfn91 : lFn Go.Proofs.Try.prog pure Go.Proofs.Try.f91 = some L91 := by kernel_rfl
theorem lfn117 : lFn Go.Proofs.Try.prog pure Go.Proofs.Try.f117 = some L117 := by kernel_rfl
theorem lfn18 : lFn Go.Proofs.Try.prog pure Go.Proofs.Try.f18 = some L18 := by kernel_rfl
theorem lfn20 : lFn Go.Proofs.Try.prog pure Go.Proofs.Try.f20 = some L20 := by kernel_rfl
theorem lfn22 : lFn Go.Proofs.Try.prog pure Go.Proofs.Try.f22 = some L22 := by kernel_rfl
theorem lfn23 : lFn Go.Proofs.Try.prog pure Go.Proofs.Try.f23 = some L23 := by kernel_rfl
theorem lfn42 : lFn Go.Proofs.Try.prog pure Go.Proofs.Try.f42 = some L42 := by kernel_rfl
theorem lfn45 : lFn Go.Proofs.Try.prog pure Go.Proofs.Try.f45 = some L45 := by kernel_rfl
theorem lfn48 : lFn Go.Proofs.Try.prog pure Go.Proofs.Try.f48 = some L48 := by kernel_rfl
theorem lfn116 : lFn Go.Proofs.Try.prog pure Go.Proofs.Try.f116 = some L116 := by kernel_rfl
theorem lfn119 : lFn Go.Proofs.Try.prog pure Go.Proofs.Try.f119 = some L119 := by kernel_rfl
theorem lfn122 : lFn Go.Proofs.Try.prog pure Go.Proofs.Try.f122 = some L122 := by kernel_rfl
theorem lfn52 : lFn Go.Proofs.Try.prog pure Go.Proofs.Try.f52 = some L52 := by kernel_rfl
theorem lfn53 : lFn Go.Proofs.Try.prog pure Go.Proofs.Try.f53 = some L53 := by kernel_rfl
theorem lfn71 : lFn Go.Proofs.Try.prog pure Go.Proofs.Try.f71 = some L71 := by kernel_rfl
theorem lfn120 : lFn Go.Proofs.Try.prog pure Go.Proofs.Try.f120 = some L120 := by kernel_rfl
theorem lfn123 : lFn Go.Proofs.Try.prog pure Go.Proofs.Try.f123 = some L123 := by kernel_rfl
theorem lfn143 : lFn Go.Proofs.Try.prog pure Go.Proofs.Try.f143 = some L143 := by kernel_rfl
theorem lfn144 : lFn Go.Proofs.Try.prog pure Go.Proofs.Try.f144 = some L144 := by kernel_rfl
theorem lfn165 : lFn Go.Proofs.Try.prog pure Go.Proofs.Try.f165 = some L165 := by kernel_rfl
theorem lfn166 : lFn Go.Proofs.Try.prog pure Go.Proofs.Try.f166 = some L166 := by kernel_rfl
theorem lfn176 : lFn Go.Proofs.Try.prog pure Go.Proofs.Try.f176 = some L176 := by kernel_rfl
theorem lfn186 : lFn Go.Proofs.Try.prog pure Go.Proofs.Try.f186 = some L186 := by kernel_rfl
theorem lfn205 : lFn Go.Proofs.Try.prog pure Go.Proofs.Try.f205 = some L205 := by kernel_rfl
theorem lfn145 : lFn Go.Proofs.Try.prog pure Go.Proofs.Try.f145 = some L145 := by kernel_rfl
theorem lfn124 : lFn Go.Proofs.Try.prog pure Go.Proofs.Try.f124 = some L124 := by kernel_rfl
theorem lfn125 : lFn Go.Proofs.Try.prog pure Go.Proofs.Try.f125 = some L125 := by kernel_rfl
theorem lfn50 : lFn Go.Proofs.Try.prog pure Go.Proofs.Try.f50 = some L50 := by kernel_rfl
theorem lfn51 : lFn Go.Proofs.Try.prog pure Go.Proofs.Try.f51 = some L51 := by kernel_rfl
theorem lfn8 : lFn Go.Proofs.Try.prog pure Go.Proofs.Try.f8 = some L8 := by kernel_rfl
instance : HasA Sy := { f93 := rfl, f130 := rfl, f150 := rfl }
instance : HasSame Sy := { f91 := rfl }
instance : HasSz Sy := { f117 := rfl }
instance : HasF Sy := { f18 := rfl, f20 := rfl, f22 := rfl, f23 := rfl }
instance : HasDE Sy := { f42 := rfl, f45 := rfl, f48 := rfl, f116 := rfl, f119 := rfl, f122 := rfl }
instance : HasKE Sy := { f52 := rfl, f53 := rfl }
instance : HasEf Sy := { f71 := rfl, f120 := rfl, f123 := rfl, f143 := rfl, f144 := rfl, f165 := rfl, f166 := rfl, f176 := rfl, f186 := rfl, f205 := rfl }
instance : HasCn Sy := { f145 := rfl }
instance : HasOc Sy := { f124 := rfl, f125 := rfl }
instance : HasJc Sy := { f50 := rfl, f51 := rfl }
instance : HasLJoinChains Sy := { f8 := rfl }
theorem sysOK {B : Nat} {w0 : World} : SysOK Go.Proofs.Try.prog pure Sy B w0 := SysOK.of (by
  intro p hp
  simp only [funs, List.mem_cons, List.not_mem_nil, or_false] at hp
  rcases hp with rfl | rfl | rfl | rfl | rfl | rfl | rfl | rfl | rfl | rfl | rfl | rfl | rfl | rfl | rfl | rfl | rfl | rfl | rfl | rfl | rfl | rfl | rfl | rfl | rfl | rfl | rfl | rfl | rfl | rfl | rfl | rfl | rfl
  · exact ⟨_, Go.Proofs.Try.func93, lfn93⟩
  · exact ⟨_, Go.Proofs.Try.func130, lfn130⟩
  · exact ⟨_, Go.Proofs.Try.func150, lfn150⟩
  · exact ⟨_, Go.Proofs.Try.func91, lfn91⟩
  · exact ⟨_, Go.Proofs.Try.func117, lfn117⟩
  · exact ⟨_, Go.Proofs.Try.func18, lfn18⟩
  · exact ⟨_, Go.Proofs.Try.func20, lfn20⟩
  · exact ⟨_, Go.Proofs.Try.func22, lfn22⟩
  · exact ⟨_, Go.Proofs.Try.func23, lfn23⟩
  · exact ⟨_, Go.Proofs.Try.func42, lfn42⟩
  · exact ⟨_, Go.Proofs.Try.func45, lfn45⟩
  · exact ⟨_, Go.Proofs.Try.func48, lfn48⟩
  · exact ⟨_, Go.Proofs.Try.func116, lfn116⟩
  · exact ⟨_, Go.Proofs.Try.func119, lfn119⟩
  · exact ⟨_, Go.Proofs.Try.func122, lfn122⟩
  · exact ⟨_, Go.Proofs.Try.func52, lfn52⟩
  · exact ⟨_, Go.Proofs.Try.func53, lfn53⟩
  · exact ⟨_, Go.Proofs.Try.func71, lfn71⟩
  · exact ⟨_, Go.Proofs.Try.func120, lfn120⟩
  · exact ⟨_, Go.Proofs.Try.func123, lfn123⟩
  · exact ⟨_, Go.Proofs.Try.func143, lfn143⟩
  · exact ⟨_, Go.Proofs.Try.func144, lfn144⟩
  · exact ⟨_, Go.Proofs.Try.func165, lfn165⟩
  · exact ⟨_, Go.Proofs.Try.func166, lfn166⟩
  · exact ⟨_, Go.Proofs.Try.func176, lfn176⟩
  · exact ⟨_, Go.Proofs.Try.func186, lfn186⟩
  · exact ⟨_, Go.Proofs.Try.func205, lfn205⟩
  · exact ⟨_, Go.Proofs.Try.func145, lfn145⟩
  · exact ⟨_, Go.Proofs.Try.func124, lfn124⟩
  · exact ⟨_, Go.Proofs.Try.func125, lfn125⟩
  · exact ⟨_, Go.Proofs.Try.func50, lfn50⟩
  · exact ⟨_, Go.Proofs.Try.func51, lfn51⟩
  · exact ⟨_, Go.Proofs.Try.func8, lfn8⟩)

end Go.E.JoinChains
