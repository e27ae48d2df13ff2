/- The law of RunChain: what the evaluator finds. -/
import Derived.Test.YteppngjkmejgaaaMSr
import Derived.Test.YteppngjkmejgaaaMDk
import Derived.Test.YteppngjkmejgaaaMDs
import Derived.Test.YteppngjkmejgaaaProg
set_option linter.unusedVariables false
set_option linter.unusedSimpArgs false
namespace Go.E
open Go
def L4 : LFn := ⟨3, (.seq (.reg [⟨(.some 6), (.mv (.c (.lf (.bool false)))), none⟩])
 (.seq (.seq (.reg [⟨(.some 23), (.mv (.t 2)), none⟩, ⟨(.some 24), (.len (.t 23)), none⟩, ⟨(.some 25), (.bin .gtr (.t 24) (.c (.lf (.int .i64 1048576)))), none⟩])
 (.cond (.t 25) (.seq (.reg [⟨(.some 6), (.mv (.c (.lf (.bool true)))), none⟩])
 .ret) .skip))
 (.seq (.reg [⟨(.some 7), (.mv (.c (.lf (.int .i64 1048576)))), none⟩])
 (.seq (.reg [⟨(.some 26), (.mv (.t 0)), none⟩, ⟨(.some 27), (.mv (.t 7)), none⟩, ⟨(.some 28), (.call true 6 [(.t 26), (.t 27)]), none⟩, ⟨(.some 7), (.mv (.t 28)), none⟩])
 (.seq (.seq (.reg [⟨(.some 29), (.mv (.t 7)), none⟩, ⟨(.some 30), (.bin .lss (.t 29) (.c (.lf (.int .i64 0)))), none⟩])
 (.cond (.t 30) (.seq (.reg [⟨(.some 6), (.mv (.c (.lf (.bool true)))), none⟩])
 .ret) .skip))
 (.seq (.reg [⟨(.some 31), (.mv (.t 1)), none⟩, ⟨(.some 32), (.mv (.t 7)), none⟩, ⟨(.some 33), (.call true 15 [(.t 31), (.t 32)]), none⟩, ⟨(.some 7), (.mv (.t 33)), none⟩])
 (.seq (.seq (.reg [⟨(.some 34), (.mv (.t 7)), none⟩, ⟨(.some 35), (.bin .lss (.t 34) (.c (.lf (.int .i64 0)))), none⟩])
 (.cond (.t 35) (.seq (.reg [⟨(.some 6), (.mv (.c (.lf (.bool true)))), none⟩])
 .ret) .skip))
 (.seq (.reg [⟨(.some 37), (.mv (.t 0)), none⟩, ⟨(.some 38), (.call false 8 [(.t 37)]), none⟩, ⟨(.some 39), (.mv (.t 1)), none⟩, ⟨(.some 40), (.call false 17 [(.t 39)]), none⟩, ⟨(.some 41), (.mv (.t 2)), none⟩, ⟨(.some 42), (.call false 18 [(.t 41)]), none⟩, ⟨(.some 43), (.call false 16 [(.t 38), (.t 40), (.t 42)]), none⟩, ⟨(.some 36), (.mv (.t 43)), none⟩, ⟨(.some 44), (.ext (.t 36) 0), none⟩, ⟨(.some 45), (.ext (.t 36) 1), none⟩, ⟨(.some 46), (.ext (.t 36) 2), none⟩, ⟨(.some 8), (.mv (.t 44)), none⟩, ⟨(.some 9), (.mv (.t 45)), none⟩, ⟨(.some 10), (.mv (.t 46)), none⟩])
 (.seq (.reg [⟨(.some 47), (.mv (.t 0)), none⟩, ⟨(.some 48), (.call false 8 [(.t 47)]), none⟩, ⟨(.some 11), (.mv (.t 48)), none⟩])
 (.seq (.reg [⟨(.some 49), (.mv (.t 1)), none⟩, ⟨(.some 50), (.call false 17 [(.t 49)]), none⟩, ⟨(.some 12), (.mv (.t 50)), none⟩])
 (.seq (.reg [⟨(.some 51), (.mv (.t 2)), none⟩, ⟨(.some 52), (.call false 18 [(.t 51)]), none⟩, ⟨(.some 13), (.mv (.t 52)), none⟩])
 (.seq (.reg [⟨(.some 54), (.mv (.t 11)), none⟩, ⟨(.some 55), (.mv (.t 12)), none⟩, ⟨(.some 56), (.mv (.t 13)), none⟩, ⟨(.some 57), (.call false 19 [(.t 54), (.t 55), (.t 56)]), none⟩, ⟨(.some 53), (.mv (.t 57)), none⟩, ⟨(.some 58), (.ext (.t 53) 0), none⟩, ⟨(.some 59), (.ext (.t 53) 1), none⟩, ⟨(.some 60), (.ext (.t 53) 2), none⟩, ⟨(.some 14), (.mv (.t 58)), none⟩, ⟨(.some 15), (.mv (.t 59)), none⟩, ⟨(.some 16), (.mv (.t 60)), none⟩])
 (.seq (.seq (.reg [⟨(.some 61), (.mv (.t 14)), none⟩, ⟨(.some 62), (.mv (.t 8)), none⟩, ⟨(.some 63), (.call true 10 [(.t 61), (.t 62)]), none⟩, ⟨(.some 64), (.una .not (.t 63)), none⟩, ⟨(.some 65), (.mv (.t 64)), none⟩, ⟨(.some 66), (.mv (.t 15)), (.some (65, false))⟩, ⟨(.some 67), (.mv (.t 9)), (.some (65, false))⟩, ⟨(.some 68), (.call true 20 [(.t 66), (.t 67)]), (.some (65, false))⟩, ⟨(.some 69), (.una .not (.t 68)), (.some (65, false))⟩, ⟨(.some 70), (.pick (.t 65) (.c (.lf (.bool true))) (.t 69)), none⟩, ⟨(.some 71), (.mv (.t 70)), none⟩, ⟨(.some 72), (.mv (.t 16)), (.some (71, false))⟩, ⟨(.some 73), (.mv (.t 10)), (.some (71, false))⟩, ⟨(.some 74), (.beq true (.t 72) (.t 73)), (.some (71, false))⟩, ⟨(.some 75), (.pick (.t 71) (.c (.lf (.bool true))) (.t 74)), none⟩])
 (.cond (.t 75) (.seq (.reg [⟨(.some 6), (.mv (.c (.lf (.bool false)))), none⟩])
 .ret) .skip))
 (.seq (.seq (.reg [⟨(.some 76), (.mv (.t 11)), none⟩, ⟨(.some 77), (.mv (.t 0)), none⟩, ⟨(.some 78), (.call false 8 [(.t 77)]), none⟩, ⟨(.some 79), (.call true 11 [(.t 76), (.t 78)]), none⟩, ⟨(.some 80), (.una .not (.t 79)), none⟩])
 (.cond (.t 80) (.seq (.reg [⟨(.some 6), (.mv (.c (.lf (.bool false)))), none⟩])
 .ret) .skip))
 (.seq (.seq (.reg [⟨(.some 81), (.mv (.t 12)), none⟩, ⟨(.some 82), (.mv (.t 1)), none⟩, ⟨(.some 83), (.call false 17 [(.t 82)]), none⟩, ⟨(.some 84), (.call true 20 [(.t 81), (.t 83)]), none⟩, ⟨(.some 85), (.una .not (.t 84)), none⟩])
 (.cond (.t 85) (.seq (.reg [⟨(.some 6), (.mv (.c (.lf (.bool false)))), none⟩])
 .ret) .skip))
 (.seq (.seq (.reg [⟨(.some 86), (.mv (.t 13)), none⟩, ⟨(.some 87), (.mv (.t 2)), none⟩, ⟨(.some 88), (.call false 18 [(.t 87)]), none⟩, ⟨(.some 89), (.call true 10 [(.t 86), (.t 88)]), none⟩, ⟨(.some 90), (.una .not (.t 89)), none⟩])
 (.cond (.t 90) (.seq (.reg [⟨(.some 6), (.mv (.c (.lf (.bool false)))), none⟩])
 .ret) .skip))
 (.seq (.reg [⟨(.some 17), (.mv (.c (.lf (.int .i64 1)))), none⟩])
 (.seq (.reg [⟨(.some 91), (.mv (.t 11)), none⟩, ⟨(.some 92), (.mv (.t 17)), none⟩, ⟨(.some 93), (.call false 12 [(.t 91), (.t 92)]), none⟩, ⟨(.some 17), (.mv (.t 93)), none⟩])
 (.seq (.reg [⟨(.some 94), (.mv (.t 12)), none⟩, ⟨(.some 95), (.mv (.t 17)), none⟩, ⟨(.some 96), (.call false 21 [(.t 94), (.t 95)]), none⟩, ⟨(.some 17), (.mv (.t 96)), none⟩])
 (.seq (.reg [⟨(.some 97), (.mv (.t 13)), none⟩, ⟨(.some 98), (.mv (.t 17)), none⟩, ⟨(.some 99), (.call false 13 [(.t 97), (.t 98)]), none⟩, ⟨(.some 17), (.mv (.t 99)), none⟩])
 (.seq (.seq (.reg [⟨(.some 100), (.mv (.t 17)), none⟩, ⟨(.some 101), (.bin .lss (.t 100) (.c (.lf (.int .i64 0)))), none⟩, ⟨(.some 102), (.mv (.t 101)), none⟩, ⟨(.some 103), (.mv (.t 14)), (.some (102, false))⟩, ⟨(.some 104), (.mv (.t 8)), (.some (102, false))⟩, ⟨(.some 105), (.call true 10 [(.t 103), (.t 104)]), (.some (102, false))⟩, ⟨(.some 106), (.una .not (.t 105)), (.some (102, false))⟩, ⟨(.some 107), (.pick (.t 102) (.c (.lf (.bool true))) (.t 106)), none⟩, ⟨(.some 108), (.mv (.t 107)), none⟩, ⟨(.some 109), (.mv (.t 15)), (.some (108, false))⟩, ⟨(.some 110), (.mv (.t 9)), (.some (108, false))⟩, ⟨(.some 111), (.call true 20 [(.t 109), (.t 110)]), (.some (108, false))⟩, ⟨(.some 112), (.una .not (.t 111)), (.some (108, false))⟩, ⟨(.some 113), (.pick (.t 108) (.c (.lf (.bool true))) (.t 112)), none⟩, ⟨(.some 114), (.mv (.t 113)), none⟩, ⟨(.some 115), (.mv (.t 16)), (.some (114, false))⟩, ⟨(.some 116), (.mv (.t 10)), (.some (114, false))⟩, ⟨(.some 117), (.beq true (.t 115) (.t 116)), (.some (114, false))⟩, ⟨(.some 118), (.pick (.t 114) (.c (.lf (.bool true))) (.t 117)), none⟩])
 (.cond (.t 118) (.seq (.reg [⟨(.some 6), (.mv (.c (.lf (.bool false)))), none⟩])
 .ret) .skip))
 (.seq (.reg [⟨(.some 18), (.mv (.c (.lf (.int .i64 1)))), none⟩])
 (.seq (.reg [⟨(.some 119), (.mv (.t 14)), none⟩, ⟨(.some 120), (.mv (.t 18)), none⟩, ⟨(.some 121), (.call false 13 [(.t 119), (.t 120)]), none⟩, ⟨(.some 18), (.mv (.t 121)), none⟩])
 (.seq (.reg [⟨(.some 122), (.mv (.t 15)), none⟩, ⟨(.some 123), (.mv (.t 18)), none⟩, ⟨(.some 124), (.call false 21 [(.t 122), (.t 123)]), none⟩, ⟨(.some 18), (.mv (.t 124)), none⟩])
 (.seq (.reg [⟨(.some 19), (.mv (.c (.lf (.int .i64 1)))), none⟩])
 (.seq (.reg [⟨(.some 125), (.mv (.t 14)), none⟩, ⟨(.some 126), (.mv (.t 19)), none⟩, ⟨(.some 127), (.call true 14 [(.t 125), (.t 126)]), none⟩, ⟨(.some 19), (.mv (.t 127)), none⟩])
 (.seq (.seq (.reg [⟨(.some 128), (.mv (.t 19)), none⟩, ⟨(.some 129), (.bin .lss (.t 128) (.c (.lf (.int .i64 0)))), none⟩])
 (.cond (.t 129) (.seq (.reg [⟨(.some 6), (.mv (.c (.lf (.bool false)))), none⟩])
 .ret) .skip))
 (.seq (.reg [⟨(.some 130), (.mv (.t 15)), none⟩, ⟨(.some 131), (.mv (.t 19)), none⟩, ⟨(.some 132), (.call true 22 [(.t 130), (.t 131)]), none⟩, ⟨(.some 19), (.mv (.t 132)), none⟩])
 (.seq (.seq (.reg [⟨(.some 133), (.mv (.t 19)), none⟩, ⟨(.some 134), (.bin .lss (.t 133) (.c (.lf (.int .i64 0)))), none⟩])
 (.cond (.t 134) (.seq (.reg [⟨(.some 6), (.mv (.c (.lf (.bool false)))), none⟩])
 .ret) .skip))
 (.seq (.seq (.reg [⟨(.some 135), (.mv (.t 19)), none⟩, ⟨(.some 136), (.mv (.t 18)), none⟩, ⟨(.some 137), (.bin .neq (.t 135) (.t 136)), none⟩])
 (.cond (.t 137) (.seq (.reg [⟨(.some 6), (.mv (.c (.lf (.bool false)))), none⟩])
 .ret) .skip))
 (.seq (.reg [⟨(.some 139), (.mv (.t 0)), none⟩, ⟨(.some 140), (.call false 8 [(.t 139)]), none⟩, ⟨(.some 141), (.mv (.t 1)), none⟩, ⟨(.some 142), (.call false 17 [(.t 141)]), none⟩, ⟨(.some 143), (.mv (.t 2)), none⟩, ⟨(.some 144), (.call false 18 [(.t 143)]), none⟩, ⟨(.some 145), (.call false 19 [(.t 140), (.t 142), (.t 144)]), none⟩, ⟨(.some 138), (.mv (.t 145)), none⟩, ⟨(.some 146), (.ext (.t 138) 0), none⟩, ⟨(.some 147), (.ext (.t 138) 1), none⟩, ⟨(.some 148), (.ext (.t 138) 2), none⟩, ⟨(.some 20), (.mv (.t 146)), none⟩, ⟨(.some 21), (.mv (.t 147)), none⟩, ⟨(.some 22), (.mv (.t 148)), none⟩])
 (.seq (.seq (.reg [⟨(.some 149), (.mv (.t 20)), none⟩, ⟨(.some 150), (.mv (.t 8)), none⟩, ⟨(.some 151), (.call true 10 [(.t 149), (.t 150)]), none⟩, ⟨(.some 152), (.una .not (.t 151)), none⟩, ⟨(.some 153), (.mv (.t 152)), none⟩, ⟨(.some 154), (.mv (.t 21)), (.some (153, false))⟩, ⟨(.some 155), (.mv (.t 9)), (.some (153, false))⟩, ⟨(.some 156), (.call true 20 [(.t 154), (.t 155)]), (.some (153, false))⟩, ⟨(.some 157), (.una .not (.t 156)), (.some (153, false))⟩, ⟨(.some 158), (.pick (.t 153) (.c (.lf (.bool true))) (.t 157)), none⟩, ⟨(.some 159), (.mv (.t 158)), none⟩, ⟨(.some 160), (.mv (.t 22)), (.some (159, false))⟩, ⟨(.some 161), (.mv (.t 10)), (.some (159, false))⟩, ⟨(.some 162), (.beq true (.t 160) (.t 161)), (.some (159, false))⟩, ⟨(.some 163), (.pick (.t 159) (.c (.lf (.bool true))) (.t 162)), none⟩])
 (.cond (.t 163) (.seq (.reg [⟨(.some 6), (.mv (.c (.lf (.bool false)))), none⟩])
 .ret) .skip))
 (.seq (.reg [⟨(.some 19), (.mv (.c (.lf (.int .i64 1)))), none⟩])
 (.seq (.reg [⟨(.some 164), (.mv (.t 14)), none⟩, ⟨(.some 165), (.mv (.t 19)), none⟩, ⟨(.some 166), (.call true 14 [(.t 164), (.t 165)]), none⟩, ⟨(.some 19), (.mv (.t 166)), none⟩])
 (.seq (.seq (.reg [⟨(.some 167), (.mv (.t 19)), none⟩, ⟨(.some 168), (.bin .lss (.t 167) (.c (.lf (.int .i64 0)))), none⟩])
 (.cond (.t 168) (.seq (.reg [⟨(.some 6), (.mv (.c (.lf (.bool false)))), none⟩])
 .ret) .skip))
 (.seq (.reg [⟨(.some 169), (.mv (.t 15)), none⟩, ⟨(.some 170), (.mv (.t 19)), none⟩, ⟨(.some 171), (.call true 22 [(.t 169), (.t 170)]), none⟩, ⟨(.some 19), (.mv (.t 171)), none⟩])
 (.seq (.seq (.reg [⟨(.some 172), (.mv (.t 19)), none⟩, ⟨(.some 173), (.bin .lss (.t 172) (.c (.lf (.int .i64 0)))), none⟩])
 (.cond (.t 173) (.seq (.reg [⟨(.some 6), (.mv (.c (.lf (.bool false)))), none⟩])
 .ret) .skip))
 (.seq (.seq (.reg [⟨(.some 174), (.mv (.t 19)), none⟩, ⟨(.some 175), (.mv (.t 18)), none⟩, ⟨(.some 176), (.bin .neq (.t 174) (.t 175)), none⟩])
 (.cond (.t 176) (.seq (.reg [⟨(.some 6), (.mv (.c (.lf (.bool false)))), none⟩])
 .ret) .skip))
 (.seq (.reg [⟨(.some 6), (.mv (.c (.lf (.bool true)))), none⟩])
 .ret))))))))))))))))))))))))))))))))))))))), [(.tmp 6)]⟩
class HasLRunChain (S : Sys) : Prop extends HasRu S, HasDE S, HasDSS S, HasKE S, HasKSS S, HasF S where
  f4 : S.fs 4 = some L4
set_option maxRecDepth 20000 in
set_option maxHeartbeats 8000000 in
theorem lawRunChain {S : Sys} [HasLRunChain S] : LawHolds S 4 [(false, .sl 3 effSh), (false, .sl 1 flSl), (false, .sl 1 (.flt .f32))] := by
  intro h cs hcs
  obtain ⟨c0, _, rfl, ⟨ls0, rfl, l, rows, rfl, hAl, hrows⟩, c1, _, rfl, ⟨ls1, rfl, l2, rows2, rfl, hAl2, hrows2⟩, c2, _, rfl, ⟨ls2, rfl, l3, rows3, rfl, hAl3, hrows3⟩, rfl⟩ := hcs
  obtain ⟨ps, rfl, hIl, hpc⟩ := effs_of hrows
  obtain ⟨qs, rfl, hIl2, hqc⟩ := sss_of hrows2
  obtain ⟨xs, rfl, hxc⟩ := cf_rows hrows3
  clear hrows hrows2 hrows3
  have hnc : ∀ e ∈ ps.map (·.1), ∀ x ∈ e.nums, CF x := fun e he x hx => by
    obtain ⟨p, hp, rfl⟩ := List.mem_map.1 he
    exact ⟨(hpc p hp x hx).1, (hpc p hp x hx).2⟩
  have hsc : ∀ s ∈ qs.map (·.1), ∀ x ∈ s, CF x := fun s hs x hx => by
    obtain ⟨p, hp, rfl⟩ := List.mem_map.1 hs
    exact ⟨(hqc p hp x hx).1, (hqc p hp x hx).2⟩
  have hx : ∀ x ∈ xs, CF x := fun x hx => ⟨(hxc x hx).1, (hxc x hx).2⟩
  clear hpc hqc hxc
  have cs : ∀ {g a0 a1 a2 p0 p1 K}, NewD h g a0 54 3 Eff.cells Eff.nums 50 p0 → p0.map (·.1) = ps.map (·.1) → NewD h g a1 24 1 ssCells ssRows 50 p1 → p1.map (·.1) = qs.map (·.1) → New h g a2 50 1 (xs.map fl) → h.length ≤ g.length → (∀ o s po g', New g g' o 50 1 ((rcR (ps.map (·.1)) (qs.map (·.1)) xs).1.map fl) → NewD g g' s 24 1 ssCells ssRows 50 po → po.map (·.1) = (rcR (ps.map (·.1)) (qs.map (·.1)) xs).2 → (∀ x ∈ [o], ∀ t ∈ lvs s po, Far x t) → K (.tup [.lf o, .lf s, .lf (.bool (decide (okRc (ps.map (·.1)) (qs.map (·.1)) xs.length)))]) g') → CallT S false 16 [.lf a0, .lf a1, .lf a2] g h.length K := fun h0 e0 h1 e1 h2 hl hk => c_specRunChain h0.arr h0.ins h1.arr (Sms.new h1) h1.ins (by rw [e0]; exact hnc) (by rw [e1]; exact hsc) (Sm.new h2) hx hl (fun o s rs g hO hD hr hf => by rw [e0, e1] at hO hr ⊢; exact hk o s rs g hO hD hr (fun x hx t ht => by rw [List.mem_singleton.1 hx]; exact hf t ht))
  have ci : ∀ {g a0 a1 a2 p0 p1 K}, NewD h g a0 54 3 Eff.cells Eff.nums 50 p0 → p0.map (·.1) = ps.map (·.1) → NewD h g a1 24 1 ssCells ssRows 50 p1 → p1.map (·.1) = qs.map (·.1) → New h g a2 50 1 (xs.map fl) → h.length ≤ g.length → (∀ o s po g', New g g' o 50 1 ((rcR (ps.map (·.1)) (qs.map (·.1)) xs).1.map fl) → NewD g g' s 24 1 ssCells ssRows 50 po → po.map (·.1) = (rcR (ps.map (·.1)) (qs.map (·.1)) xs).2 → (∀ x ∈ [o], ∀ t ∈ lvs s po, Far x t) → K (.tup [.lf o, .lf s, .lf (.bool (decide (okRc (ps.map (·.1)) (qs.map (·.1)) xs.length)))]) g') → CallT S false 19 [.lf a0, .lf a1, .lf a2] g h.length K := fun h0 e0 h1 e1 h2 hl hk => c_implRunChain h0.arr h0.ins h1.arr (Sms.new h1) h1.ins (by rw [e0]; exact hnc) (by rw [e1]; exact hsc) (Sm.new h2) hx hl (fun o s rs g hO hD hr hf => by rw [e0, e1] at hO hr ⊢; exact hk o s rs g hO hD hr (fun x hx t ht => by rw [List.mem_singleton.1 hx]; exact hf t ht))
  obtain ⟨hsm0, hsm1, hsm2⟩ := rcR_small (es := ps.map (·.1)) (ss := qs.map (·.1)) (xs := xs)
  generalize decide (okRc (ps.map (·.1)) (qs.map (·.1)) xs.length) = ok at *
  generalize rcR (ps.map (·.1)) (qs.map (·.1)) xs = y at *
  obtain ⟨yy1, yy2⟩ := y
  simp only at hsm0 hsm1 hsm2 cs ci
  have hlo1 : ∀ {rs : List (List Nat × Lf)}, rs.map (·.1) = yy2 → rs.length ≤ 16777216 ∧ szD ssRows rs ≤ 16777216 := fun he => by have := small_of (ro := ssRows) hsm1 hsm2 he; omega
  clear hsm1 hsm2 hnc hsc hx
  refine law_of (F := L4) HasLRunChain.f4 rfl ?_
  have hs := fun K lim => c_szEffectS (S := S) (K := K) (lim := lim) hAl hIl (b := 1048576) (by decide) (by decide)
  by_cases hn3 : xs.length ≤ 1048576
  rotate_left
  · unfold L4
    dsimp only []
    repeat' (first | (simp (disch := first | omega | assumption | (simp only [List.length_set]; omega) | (simp [*] <;> fail) | assumption) [-Bool.decide_and, -Bool.decide_or, -Bool.not_and, -Bool.not_or, toNat_pred, toNat_succ, wrap64, wr_new, wr_new0, ok_if, ok_ifn, iadV_sl, makeV_int, decT, decF, over_at, *, hAl3.len]) | (with_reducible refine Gd_split (fun hc => ?_) (fun hc => ?_) <;> (have hc2 := hc; try simp at hc2)) | (with_reducible refine Br_split (fun hc => ?_) (fun hc => ?_) <;> (have hc2 := hc; try simp at hc2)) | (with_reducible refine GdT_split (fun hc => ?_) (fun hc => ?_) <;> (have hc2 := hc; try simp at hc2)) | (with_reducible refine WT_alt ?_ ?_) | omega)
  by_cases hsz : (1048576 : Int) < ps.length + szD Eff.nums ps
  · rw [if_pos hsz] at hs
    unfold L4
    dsimp only []
    repeat' (first | (simp (disch := first | omega | assumption | (simp only [List.length_set]; omega) | (simp [*] <;> fail) | assumption) [-Bool.decide_and, -Bool.decide_or, -Bool.not_and, -Bool.not_or, toNat_pred, toNat_succ, wrap64, wr_new, wr_new0, ok_if, ok_ifn, iadV_sl, makeV_int, decT, decF, over_at, *, hAl3.len]) | (with_reducible refine Gd_split (fun hc => ?_) (fun hc => ?_) <;> (have hc2 := hc; try simp at hc2)) | (with_reducible refine Br_split (fun hc => ?_) (fun hc => ?_) <;> (have hc2 := hc; try simp at hc2)) | (with_reducible refine GdT_split (fun hc => ?_) (fun hc => ?_) <;> (have hc2 := hc; try simp at hc2)) | (with_reducible refine WT_alt ?_ ?_) | omega)
  rw [if_neg hsz] at hs
  have hs2 := fun K lim => c_szFloat32SS (S := S) (K := K) (lim := lim) hAl2 hIl2 (b := 1048576 - (ps.length + szD Eff.nums ps)) (by omega) (by omega)
  by_cases hsz2 : (1048576 : Int) - (ps.length + szD Eff.nums ps) < qs.length + szD ssRows qs
  · rw [if_pos hsz2] at hs2
    unfold L4
    dsimp only []
    repeat' (first | (simp (disch := first | omega | assumption | (simp only [List.length_set]; omega) | (simp [*] <;> fail) | assumption) [-Bool.decide_and, -Bool.decide_or, -Bool.not_and, -Bool.not_or, toNat_pred, toNat_succ, wrap64, wr_new, wr_new0, ok_if, ok_ifn, iadV_sl, makeV_int, decT, decF, over_at, *, hAl3.len]) | (with_reducible refine Gd_split (fun hc => ?_) (fun hc => ?_) <;> (have hc2 := hc; try simp at hc2)) | (with_reducible refine Br_split (fun hc => ?_) (fun hc => ?_) <;> (have hc2 := hc; try simp at hc2)) | (with_reducible refine GdT_split (fun hc => ?_) (fun hc => ?_) <;> (have hc2 := hc; try simp at hc2)) | (with_reducible refine WT_alt ?_ ?_) | omega)
  rw [if_neg hsz2] at hs2
  unfold L4
  dsimp only []
  repeat' (first | (simp (disch := first | omega | assumption | (simp only [List.length_set]; omega) | (simp [*] <;> fail) | assumption) [-Bool.decide_and, -Bool.decide_or, -Bool.not_and, -Bool.not_or, toNat_pred, toNat_succ, wrap64, wr_new, wr_new0, ok_if, ok_ifn, iadV_sl, makeV_int, decT, decF, over_at, *, hAl3.len]) | (with_reducible refine Gd_split (fun hc => ?_) (fun hc => ?_) <;> (have hc2 := hc; try simp at hc2)) | (with_reducible refine Br_split (fun hc => ?_) (fun hc => ?_) <;> (have hc2 := hc; try simp at hc2)) | (with_reducible refine GdT_split (fun hc => ?_) (fun hc => ?_) <;> (have hc2 := hc; try simp at hc2)) | (with_reducible refine WT_alt ?_ ?_) | omega)
  have hnl : ps.length ≤ 16777216 := by omega
  have hml : szD Eff.nums ps ≤ 16777216 := by omega
  have hnl2 : qs.length ≤ 16777216 := by omega
  have hml2 : szD ssRows qs ≤ 16777216 := by omega
  have hnl3 : xs.length ≤ 16777216 := by omega
  clear hs hs2 hsz hsz2
  refine c_toEffectS (hAl.kept (Kept.refl h)) (hIl.kept (Kept.refl h)) hnl hml (Kept.refl h).1 fun x0 g1 px0 hx0 Ex0 => ?_
  have Bx0 : px0.length ≤ 16777216 ∧ szD Eff.nums px0 ≤ 16777216 := ⟨by rw [map_len Ex0]; omega, by rw [szD_map Ex0]; omega⟩
  have K2 := (Kept.refl h).trans hx0.kept
  have Q2 := hx0.kept.1
  have P2 := K2.1
  have Zx0 := hx0.lvs_lt
  have Nx0 := hx0.base (Kept.refl h)
  repeat' (first | (simp (disch := first | omega | assumption | (simp only [List.length_set]; omega) | (simp [*] <;> fail) | assumption) [-Bool.decide_and, -Bool.decide_or, -Bool.not_and, -Bool.not_or, toNat_pred, toNat_succ, wrap64, wr_new, wr_new0, ok_if, ok_ifn, iadV_sl, makeV_int, decT, decF, over_at, *]) | (with_reducible refine Gd_split (fun hc => ?_) (fun hc => ?_) <;> (have hc2 := hc; try simp at hc2)) | (with_reducible refine Br_split (fun hc => ?_) (fun hc => ?_) <;> (have hc2 := hc; try simp at hc2)) | (with_reducible refine GdT_split (fun hc => ?_) (fun hc => ?_) <;> (have hc2 := hc; try simp at hc2)) | (with_reducible refine WT_alt ?_ ?_) | omega)
  refine c_toFloat32SS (hAl2.kept K2) (hIl2.kept K2) hnl2 hml2 K2.1 fun x1 g3 px1 hx1 Ex1 => ?_
  have Bx1 : px1.length ≤ 16777216 ∧ szD ssRows px1 ≤ 16777216 := ⟨by rw [map_len Ex1]; omega, by rw [szD_map Ex1]; omega⟩
  have K4 := K2.trans hx1.kept
  have Q4 := hx1.kept.1
  have P4 := K4.1
  have Zx1 := hx1.lvs_lt
  have Nx1 := hx1.base K2
  replace Nx0 := Nx0.later hx1.kept
  repeat' (first | (simp (disch := first | omega | assumption | (simp only [List.length_set]; omega) | (simp [*] <;> fail) | assumption) [-Bool.decide_and, -Bool.decide_or, -Bool.not_and, -Bool.not_or, toNat_pred, toNat_succ, wrap64, wr_new, wr_new0, ok_if, ok_ifn, iadV_sl, makeV_int, decT, decF, over_at, *]) | (with_reducible refine Gd_split (fun hc => ?_) (fun hc => ?_) <;> (have hc2 := hc; try simp at hc2)) | (with_reducible refine Br_split (fun hc => ?_) (fun hc => ?_) <;> (have hc2 := hc; try simp at hc2)) | (with_reducible refine GdT_split (fun hc => ?_) (fun hc => ?_) <;> (have hc2 := hc; try simp at hc2)) | (with_reducible refine WT_alt ?_ ?_) | omega)
  refine c_toFloat32S (hAl3.kept K4) hnl3 K4.1 fun x2 g5 hx2 => ?_
  have K6 := K4.trans hx2.kept
  have Q6 := hx2.kept.1
  have P6 := K6.1
  have Zx2 := hx2.foot
  have Nx2 := hx2.base K4
  replace Nx0 := Nx0.later hx2.kept
  replace Nx1 := Nx1.later hx2.kept
  repeat' (first | (simp (disch := first | omega | assumption | (simp only [List.length_set]; omega) | (simp [*] <;> fail) | assumption) [-Bool.decide_and, -Bool.decide_or, -Bool.not_and, -Bool.not_or, toNat_pred, toNat_succ, wrap64, wr_new, wr_new0, ok_if, ok_ifn, iadV_sl, makeV_int, decT, decF, over_at, *]) | (with_reducible refine Gd_split (fun hc => ?_) (fun hc => ?_) <;> (have hc2 := hc; try simp at hc2)) | (with_reducible refine Br_split (fun hc => ?_) (fun hc => ?_) <;> (have hc2 := hc; try simp at hc2)) | (with_reducible refine GdT_split (fun hc => ?_) (fun hc => ?_) <;> (have hc2 := hc; try simp at hc2)) | (with_reducible refine WT_alt ?_ ?_) | omega)
  refine cs Nx0 Ex0 Nx1 Ex1 Nx2 K6.1 fun s0 s1 ps1 g7 hs0 hs1 Es1 Fs0s1 => ?_
  have Bs1 := hlo1 Es1
  have K8 := K6.trans hs0.kept
  have Q8 := hs0.kept.1
  have P8 := K8.1
  have Zs0 := hs0.foot
  have Ns0 := hs0.base K6
  have Zs1 := hs1.lvs_lt
  have Ns1 := hs1.base K6
  replace Nx0 := Nx0.later hs0.kept
  replace Nx1 := Nx1.later hs0.kept
  replace Nx2 := Nx2.later hs0.kept
  repeat' (first | (simp (disch := first | omega | assumption | (simp only [List.length_set]; omega) | (simp [*] <;> fail) | assumption) [-Bool.decide_and, -Bool.decide_or, -Bool.not_and, -Bool.not_or, toNat_pred, toNat_succ, wrap64, wr_new, wr_new0, ok_if, ok_ifn, iadV_sl, makeV_int, decT, decF, over_at, *]) | (with_reducible refine Gd_split (fun hc => ?_) (fun hc => ?_) <;> (have hc2 := hc; try simp at hc2)) | (with_reducible refine Br_split (fun hc => ?_) (fun hc => ?_) <;> (have hc2 := hc; try simp at hc2)) | (with_reducible refine GdT_split (fun hc => ?_) (fun hc => ?_) <;> (have hc2 := hc; try simp at hc2)) | (with_reducible refine WT_alt ?_ ?_) | omega)
  refine c_toEffectS (hAl.kept K8) (hIl.kept K8) hnl hml K8.1 fun a0 g9 pa0 ha0 Ea0 => ?_
  have Ba0 : pa0.length ≤ 16777216 ∧ szD Eff.nums pa0 ≤ 16777216 := ⟨by rw [map_len Ea0]; omega, by rw [szD_map Ea0]; omega⟩
  have K10 := K8.trans ha0.kept
  have Q10 := ha0.kept.1
  have P10 := K10.1
  have Za0 := ha0.lvs_lt
  have Na0 := ha0.base K8
  replace Ns0 := Ns0.later ha0.kept
  replace Ns1 := Ns1.later ha0.kept
  repeat' (first | (simp (disch := first | omega | assumption | (simp only [List.length_set]; omega) | (simp [*] <;> fail) | assumption) [-Bool.decide_and, -Bool.decide_or, -Bool.not_and, -Bool.not_or, toNat_pred, toNat_succ, wrap64, wr_new, wr_new0, ok_if, ok_ifn, iadV_sl, makeV_int, decT, decF, over_at, *]) | (with_reducible refine Gd_split (fun hc => ?_) (fun hc => ?_) <;> (have hc2 := hc; try simp at hc2)) | (with_reducible refine Br_split (fun hc => ?_) (fun hc => ?_) <;> (have hc2 := hc; try simp at hc2)) | (with_reducible refine GdT_split (fun hc => ?_) (fun hc => ?_) <;> (have hc2 := hc; try simp at hc2)) | (with_reducible refine WT_alt ?_ ?_) | omega)
  refine c_toFloat32SS (hAl2.kept K10) (hIl2.kept K10) hnl2 hml2 K10.1 fun a1 g11 pa1 ha1 Ea1 => ?_
  have Ba1 : pa1.length ≤ 16777216 ∧ szD ssRows pa1 ≤ 16777216 := ⟨by rw [map_len Ea1]; omega, by rw [szD_map Ea1]; omega⟩
  have K12 := K10.trans ha1.kept
  have Q12 := ha1.kept.1
  have P12 := K12.1
  have Za1 := ha1.lvs_lt
  have Na1 := ha1.base K10
  replace Ns0 := Ns0.later ha1.kept
  replace Ns1 := Ns1.later ha1.kept
  replace Na0 := Na0.later ha1.kept
  repeat' (first | (simp (disch := first | omega | assumption | (simp only [List.length_set]; omega) | (simp [*] <;> fail) | assumption) [-Bool.decide_and, -Bool.decide_or, -Bool.not_and, -Bool.not_or, toNat_pred, toNat_succ, wrap64, wr_new, wr_new0, ok_if, ok_ifn, iadV_sl, makeV_int, decT, decF, over_at, *]) | (with_reducible refine Gd_split (fun hc => ?_) (fun hc => ?_) <;> (have hc2 := hc; try simp at hc2)) | (with_reducible refine Br_split (fun hc => ?_) (fun hc => ?_) <;> (have hc2 := hc; try simp at hc2)) | (with_reducible refine GdT_split (fun hc => ?_) (fun hc => ?_) <;> (have hc2 := hc; try simp at hc2)) | (with_reducible refine WT_alt ?_ ?_) | omega)
  refine c_toFloat32S (hAl3.kept K12) hnl3 K12.1 fun a2 g13 ha2 => ?_
  have K14 := K12.trans ha2.kept
  have Q14 := ha2.kept.1
  have P14 := K14.1
  have Za2 := ha2.foot
  have Na2 := ha2.base K12
  replace Ns0 := Ns0.later ha2.kept
  replace Ns1 := Ns1.later ha2.kept
  replace Na0 := Na0.later ha2.kept
  replace Na1 := Na1.later ha2.kept
  repeat' (first | (simp (disch := first | omega | assumption | (simp only [List.length_set]; omega) | (simp [*] <;> fail) | assumption) [-Bool.decide_and, -Bool.decide_or, -Bool.not_and, -Bool.not_or, toNat_pred, toNat_succ, wrap64, wr_new, wr_new0, ok_if, ok_ifn, iadV_sl, makeV_int, decT, decF, over_at, *]) | (with_reducible refine Gd_split (fun hc => ?_) (fun hc => ?_) <;> (have hc2 := hc; try simp at hc2)) | (with_reducible refine Br_split (fun hc => ?_) (fun hc => ?_) <;> (have hc2 := hc; try simp at hc2)) | (with_reducible refine GdT_split (fun hc => ?_) (fun hc => ?_) <;> (have hc2 := hc; try simp at hc2)) | (with_reducible refine WT_alt ?_ ?_) | omega)
  refine ci Na0 Ea0 Na1 Ea1 Na2 K14.1 fun r0 r1 pr1 g15 hr0 hr1 Er1 Fr0r1 => ?_
  have Br1 := hlo1 Er1
  have K16 := K14.trans hr0.kept
  have Q16 := hr0.kept.1
  have P16 := K16.1
  have Zr0 := hr0.foot
  have Nr0 := hr0.base K14
  have Zr1 := hr1.lvs_lt
  have Nr1 := hr1.base K14
  replace Ns0 := Ns0.later hr0.kept
  replace Ns1 := Ns1.later hr0.kept
  replace Na0 := Na0.later hr0.kept
  replace Na1 := Na1.later hr0.kept
  replace Na2 := Na2.later hr0.kept
  repeat' (first | (simp (disch := first | omega | assumption | (simp only [List.length_set]; omega) | (simp [*] <;> fail) | assumption) [-Bool.decide_and, -Bool.decide_or, -Bool.not_and, -Bool.not_or, toNat_pred, toNat_succ, wrap64, wr_new, wr_new0, ok_if, ok_ifn, iadV_sl, makeV_int, decT, decF, over_at, *, c_eqFloat32S Nr0.arr Ns0.arr, c_eqFloat32SS Nr1.arr Nr1.ins Ns1.arr Ns1.ins (Es1.trans Er1.symm)]) | (with_reducible refine Gd_split (fun hc => ?_) (fun hc => ?_) <;> (have hc2 := hc; try simp at hc2)) | (with_reducible refine Br_split (fun hc => ?_) (fun hc => ?_) <;> (have hc2 := hc; try simp at hc2)) | (with_reducible refine GdT_split (fun hc => ?_) (fun hc => ?_) <;> (have hc2 := hc; try simp at hc2)) | (with_reducible refine WT_alt ?_ ?_) | omega)
  refine c_toEffectS (hAl.kept K16) (hIl.kept K16) hnl hml K16.1 fun y0 g17 py0 hy0 Ey0 => ?_
  have By0 : py0.length ≤ 16777216 ∧ szD Eff.nums py0 ≤ 16777216 := ⟨by rw [map_len Ey0]; omega, by rw [szD_map Ey0]; omega⟩
  have K18 := K16.trans hy0.kept
  have Q18 := hy0.kept.1
  have P18 := K18.1
  have Zy0 := hy0.lvs_lt
  have Ny0 := hy0.base K16
  replace Ns0 := Ns0.later hy0.kept
  replace Ns1 := Ns1.later hy0.kept
  replace Na0 := Na0.later hy0.kept
  replace Na1 := Na1.later hy0.kept
  replace Na2 := Na2.later hy0.kept
  replace Nr0 := Nr0.later hy0.kept
  replace Nr1 := Nr1.later hy0.kept
  repeat' (first | (simp (disch := first | omega | assumption | (simp only [List.length_set]; omega) | (simp [*] <;> fail) | assumption) [-Bool.decide_and, -Bool.decide_or, -Bool.not_and, -Bool.not_or, toNat_pred, toNat_succ, wrap64, wr_new, wr_new0, ok_if, ok_ifn, iadV_sl, makeV_int, decT, decF, over_at, *, c_eqEffectS Na0.arr Na0.ins Ny0.arr Ny0.ins (Ey0.trans Ea0.symm)]) | (with_reducible refine Gd_split (fun hc => ?_) (fun hc => ?_) <;> (have hc2 := hc; try simp at hc2)) | (with_reducible refine Br_split (fun hc => ?_) (fun hc => ?_) <;> (have hc2 := hc; try simp at hc2)) | (with_reducible refine GdT_split (fun hc => ?_) (fun hc => ?_) <;> (have hc2 := hc; try simp at hc2)) | (with_reducible refine WT_alt ?_ ?_) | omega)
  refine c_toFloat32SS (hAl2.kept K18) (hIl2.kept K18) hnl2 hml2 K18.1 fun y1 g19 py1 hy1 Ey1 => ?_
  have By1 : py1.length ≤ 16777216 ∧ szD ssRows py1 ≤ 16777216 := ⟨by rw [map_len Ey1]; omega, by rw [szD_map Ey1]; omega⟩
  have K20 := K18.trans hy1.kept
  have Q20 := hy1.kept.1
  have P20 := K20.1
  have Zy1 := hy1.lvs_lt
  have Ny1 := hy1.base K18
  replace Ns0 := Ns0.later hy1.kept
  replace Ns1 := Ns1.later hy1.kept
  replace Na0 := Na0.later hy1.kept
  replace Na1 := Na1.later hy1.kept
  replace Na2 := Na2.later hy1.kept
  replace Nr0 := Nr0.later hy1.kept
  replace Nr1 := Nr1.later hy1.kept
  repeat' (first | (simp (disch := first | omega | assumption | (simp only [List.length_set]; omega) | (simp [*] <;> fail) | assumption) [-Bool.decide_and, -Bool.decide_or, -Bool.not_and, -Bool.not_or, toNat_pred, toNat_succ, wrap64, wr_new, wr_new0, ok_if, ok_ifn, iadV_sl, makeV_int, decT, decF, over_at, *, c_eqFloat32SS Na1.arr Na1.ins Ny1.arr Ny1.ins (Ey1.trans Ea1.symm)]) | (with_reducible refine Gd_split (fun hc => ?_) (fun hc => ?_) <;> (have hc2 := hc; try simp at hc2)) | (with_reducible refine Br_split (fun hc => ?_) (fun hc => ?_) <;> (have hc2 := hc; try simp at hc2)) | (with_reducible refine GdT_split (fun hc => ?_) (fun hc => ?_) <;> (have hc2 := hc; try simp at hc2)) | (with_reducible refine WT_alt ?_ ?_) | omega)
  refine c_toFloat32S (hAl3.kept K20) hnl3 K20.1 fun y2 g21 hy2 => ?_
  have K22 := K20.trans hy2.kept
  have Q22 := hy2.kept.1
  have P22 := K22.1
  have Zy2 := hy2.foot
  have Ny2 := hy2.base K20
  replace Ns0 := Ns0.later hy2.kept
  replace Ns1 := Ns1.later hy2.kept
  replace Na0 := Na0.later hy2.kept
  replace Na1 := Na1.later hy2.kept
  replace Na2 := Na2.later hy2.kept
  replace Nr0 := Nr0.later hy2.kept
  replace Nr1 := Nr1.later hy2.kept
  repeat' (first | (simp (disch := first | omega | assumption | (simp only [List.length_set]; omega) | (simp [*] <;> fail) | assumption) [-Bool.decide_and, -Bool.decide_or, -Bool.not_and, -Bool.not_or, toNat_pred, toNat_succ, wrap64, wr_new, wr_new0, ok_if, ok_ifn, iadV_sl, makeV_int, decT, decF, over_at, *, c_eqFloat32S Na2.arr Ny2.arr]) | (with_reducible refine Gd_split (fun hc => ?_) (fun hc => ?_) <;> (have hc2 := hc; try simp at hc2)) | (with_reducible refine Br_split (fun hc => ?_) (fun hc => ?_) <;> (have hc2 := hc; try simp at hc2)) | (with_reducible refine GdT_split (fun hc => ?_) (fun hc => ?_) <;> (have hc2 := hc; try simp at hc2)) | (with_reducible refine WT_alt ?_ ?_) | omega)
  refine c_markEffectS Na0 (by omega) (by have := Ba0; rw [kAt_all (ro := Eff.nums) (c := 2) (k := 1) (ps := pa0)]; omega) Ba0.1 Ba0.2 (Nat.le_refl _) fun g23 hM23 hB23 => ?_
  have O23 : ∀ s ∈ lvs a0 pa0, s ≠ .nils → h.length ≤ s.id := fun s hs q => by have := Za0 s hs q; omega
  have Q23 := hB23.len
  have K23 := hB23.kept K22 O23
  replace Ns0 := hB23.new Ns0 O23 (fun s hs => ((fun s hs t ht q1 q2 e => by have := Za0 s hs q1; have := Zs0 t ht q2; omega) : ∀ s ∈ lvs a0 pa0, ∀ t ∈ [s0], Far s t) s hs s0 (List.mem_singleton.2 rfl))
  replace Ns1 := hB23.newD Ns1 O23 (fun s hs t ht q1 q2 e => by have := Za0 s hs q1; have := Zs1 t ht q2; omega)
  replace Na1 := hB23.newD Na1 O23 (fun s hs t ht q1 q2 e => by have := Za0 s hs q1; have := Za1 t ht q2; omega)
  replace Na2 := hB23.new Na2 O23 (fun s hs => ((fun s hs t ht q1 q2 e => by have := Za0 s hs q1; have := Za2 t ht q2; omega) : ∀ s ∈ lvs a0 pa0, ∀ t ∈ [a2], Far s t) s hs a2 (List.mem_singleton.2 rfl))
  replace Nr0 := hB23.new Nr0 O23 (fun s hs => ((fun s hs t ht q1 q2 e => by have := Za0 s hs q1; have := Zr0 t ht q2; omega) : ∀ s ∈ lvs a0 pa0, ∀ t ∈ [r0], Far s t) s hs r0 (List.mem_singleton.2 rfl))
  replace Nr1 := hB23.newD Nr1 O23 (fun s hs t ht q1 q2 e => by have := Za0 s hs q1; have := Zr1 t ht q2; omega)
  have V23 : 1 ≤ kAt Eff.nums 2 1 pa0 pa0.length ∧ kAt Eff.nums 2 1 pa0 pa0.length ≤ 1 + 2 * 16777216 + 16777216 := by have := Ba0; rw [kAt_all (ro := Eff.nums) (c := 2) (k := 1) (ps := pa0)]; omega
  replace Na0 := hM23
  repeat' (first | (simp (disch := first | omega | assumption | (simp only [List.length_set]; omega) | (simp [*] <;> fail) | assumption) [-Bool.decide_and, -Bool.decide_or, -Bool.not_and, -Bool.not_or, toNat_pred, toNat_succ, wrap64, wr_new, wr_new0, ok_if, ok_ifn, iadV_sl, makeV_int, decT, decF, over_at, *]) | (with_reducible refine Gd_split (fun hc => ?_) (fun hc => ?_) <;> (have hc2 := hc; try simp at hc2)) | (with_reducible refine Br_split (fun hc => ?_) (fun hc => ?_) <;> (have hc2 := hc; try simp at hc2)) | (with_reducible refine GdT_split (fun hc => ?_) (fun hc => ?_) <;> (have hc2 := hc; try simp at hc2)) | (with_reducible refine WT_alt ?_ ?_) | omega)
  refine c_markFloat32SS Na1 (by omega) (by have := Ba1; rw [kAt_all (ro := ssRows) (c := 0) (k := (kAt Eff.nums 2 1 pa0 pa0.length)) (ps := pa1)]; omega) Ba1.1 Ba1.2 (Nat.le_refl _) fun g24 hM24 hB24 => ?_
  have O24 : ∀ s ∈ lvs a1 pa1, s ≠ .nils → h.length ≤ s.id := fun s hs q => by have := Za1 s hs q; omega
  have Q24 := hB24.len
  have K24 := hB24.kept K23 O24
  replace Ns0 := hB24.new Ns0 O24 (fun s hs => ((fun s hs t ht q1 q2 e => by have := Za1 s hs q1; have := Zs0 t ht q2; omega) : ∀ s ∈ lvs a1 pa1, ∀ t ∈ [s0], Far s t) s hs s0 (List.mem_singleton.2 rfl))
  replace Ns1 := hB24.newD Ns1 O24 (fun s hs t ht q1 q2 e => by have := Za1 s hs q1; have := Zs1 t ht q2; omega)
  replace Na2 := hB24.new Na2 O24 (fun s hs => ((fun s hs t ht q1 q2 e => by have := Za1 s hs q1; have := Za2 t ht q2; omega) : ∀ s ∈ lvs a1 pa1, ∀ t ∈ [a2], Far s t) s hs a2 (List.mem_singleton.2 rfl))
  replace Nr0 := hB24.new Nr0 O24 (fun s hs => ((fun s hs t ht q1 q2 e => by have := Za1 s hs q1; have := Zr0 t ht q2; omega) : ∀ s ∈ lvs a1 pa1, ∀ t ∈ [r0], Far s t) s hs r0 (List.mem_singleton.2 rfl))
  replace Nr1 := hB24.newD Nr1 O24 (fun s hs t ht q1 q2 e => by have := Za1 s hs q1; have := Zr1 t ht q2; omega)
  have V24 : (kAt Eff.nums 2 1 pa0 pa0.length) ≤ kAt ssRows 0 (kAt Eff.nums 2 1 pa0 pa0.length) pa1 pa1.length ∧ kAt ssRows 0 (kAt Eff.nums 2 1 pa0 pa0.length) pa1 pa1.length ≤ (kAt Eff.nums 2 1 pa0 pa0.length) + 0 * 16777216 + 16777216 := by have := Ba1; rw [kAt_all (ro := ssRows) (c := 0) (k := (kAt Eff.nums 2 1 pa0 pa0.length)) (ps := pa1)]; omega
  replace Na1 := hM24
  repeat' (first | (simp (disch := first | omega | assumption | (simp only [List.length_set]; omega) | (simp [*] <;> fail) | assumption) [-Bool.decide_and, -Bool.decide_or, -Bool.not_and, -Bool.not_or, toNat_pred, toNat_succ, wrap64, wr_new, wr_new0, ok_if, ok_ifn, iadV_sl, makeV_int, decT, decF, over_at, *]) | (with_reducible refine Gd_split (fun hc => ?_) (fun hc => ?_) <;> (have hc2 := hc; try simp at hc2)) | (with_reducible refine Br_split (fun hc => ?_) (fun hc => ?_) <;> (have hc2 := hc; try simp at hc2)) | (with_reducible refine GdT_split (fun hc => ?_) (fun hc => ?_) <;> (have hc2 := hc; try simp at hc2)) | (with_reducible refine WT_alt ?_ ?_) | omega)
  refine c_markFloat32S Na2 (by simp; omega) (by omega) (by omega) (Nat.le_refl _) fun g25 hM25 hC25 => ?_
  have hB25 := hC25.buts
  have O25 : ∀ s ∈ [a2], s ≠ .nils → h.length ≤ s.id := fun s hs q => by have := Za2 s hs q; omega
  have Q25 := hB25.len
  have K25 := hB25.kept K24 O25
  replace Ns0 := hB25.new Ns0 O25 (fun s hs => ((fun s hs t ht q1 q2 e => by have := Za2 s hs q1; have := Zs0 t ht q2; omega) : ∀ s ∈ [a2], ∀ t ∈ [s0], Far s t) s hs s0 (List.mem_singleton.2 rfl))
  replace Ns1 := hB25.newD Ns1 O25 (fun s hs t ht q1 q2 e => by have := Za2 s hs q1; have := Zs1 t ht q2; omega)
  replace Nr0 := hB25.new Nr0 O25 (fun s hs => ((fun s hs t ht q1 q2 e => by have := Za2 s hs q1; have := Zr0 t ht q2; omega) : ∀ s ∈ [a2], ∀ t ∈ [r0], Far s t) s hs r0 (List.mem_singleton.2 rfl))
  replace Nr1 := hB25.newD Nr1 O25 (fun s hs t ht q1 q2 e => by have := Za2 s hs q1; have := Zr1 t ht q2; omega)
  simp only [List.length_map] at hM25
  replace Na2 := hM25
  repeat' (first | (simp (disch := first | omega | assumption | (simp only [List.length_set]; omega) | (simp [*] <;> fail) | assumption) [-Bool.decide_and, -Bool.decide_or, -Bool.not_and, -Bool.not_or, toNat_pred, toNat_succ, wrap64, wr_new, wr_new0, ok_if, ok_ifn, iadV_sl, makeV_int, decT, decF, over_at, *, c_eqFloat32S Nr0.arr Ns0.arr, c_eqFloat32SS Nr1.arr Nr1.ins Ns1.arr Ns1.ins (Es1.trans Er1.symm)]) | (with_reducible refine Gd_split (fun hc => ?_) (fun hc => ?_) <;> (have hc2 := hc; try simp at hc2)) | (with_reducible refine Br_split (fun hc => ?_) (fun hc => ?_) <;> (have hc2 := hc; try simp at hc2)) | (with_reducible refine GdT_split (fun hc => ?_) (fun hc => ?_) <;> (have hc2 := hc; try simp at hc2)) | (with_reducible refine WT_alt ?_ ?_) | omega)
  refine c_markFloat32S Nr0 (by simp; omega) (by omega) (by omega) (Nat.le_refl _) fun g26 hM26 hC26 => ?_
  have hB26 := hC26.buts
  have O26 : ∀ s ∈ [r0], s ≠ .nils → h.length ≤ s.id := fun s hs q => by have := Zr0 s hs q; omega
  have Q26 := hB26.len
  have K26 := hB26.kept K25 O26
  replace Ns0 := hB26.new Ns0 O26 (fun s hs => ((fun s hs t ht q1 q2 e => by have := Zr0 s hs q1; have := Zs0 t ht q2; omega) : ∀ s ∈ [r0], ∀ t ∈ [s0], Far s t) s hs s0 (List.mem_singleton.2 rfl))
  replace Ns1 := hB26.newD Ns1 O26 (fun s hs t ht q1 q2 e => by have := Zr0 s hs q1; have := Zs1 t ht q2; omega)
  replace Nr1 := hB26.newD Nr1 O26 Fr0r1
  simp only [List.length_map] at hM26
  replace Nr0 := hM26
  repeat' (first | (simp (disch := first | omega | assumption | (simp only [List.length_set]; omega) | (simp [*] <;> fail) | assumption) [-Bool.decide_and, -Bool.decide_or, -Bool.not_and, -Bool.not_or, toNat_pred, toNat_succ, wrap64, wr_new, wr_new0, ok_if, ok_ifn, iadV_sl, makeV_int, decT, decF, over_at, *]) | (with_reducible refine Gd_split (fun hc => ?_) (fun hc => ?_) <;> (have hc2 := hc; try simp at hc2)) | (with_reducible refine Br_split (fun hc => ?_) (fun hc => ?_) <;> (have hc2 := hc; try simp at hc2)) | (with_reducible refine GdT_split (fun hc => ?_) (fun hc => ?_) <;> (have hc2 := hc; try simp at hc2)) | (with_reducible refine WT_alt ?_ ?_) | omega)
  refine c_markFloat32SS Nr1 (by omega) (by have := Br1; rw [kAt_all (ro := ssRows) (c := 0) (k := (1 + (yy1.length : Int))) (ps := pr1)]; omega) Br1.1 Br1.2 (Nat.le_refl _) fun g27 hM27 hB27 => ?_
  have O27 : ∀ s ∈ lvs r1 pr1, s ≠ .nils → h.length ≤ s.id := fun s hs q => by have := Zr1 s hs q; omega
  have Q27 := hB27.len
  have K27 := hB27.kept K26 O27
  replace Ns0 := hB27.new Ns0 O27 (fun s hs => ((fun s hs t ht q1 q2 e => by have := Zr1 s hs q1; have := Zs0 t ht q2; omega) : ∀ s ∈ lvs r1 pr1, ∀ t ∈ [s0], Far s t) s hs s0 (List.mem_singleton.2 rfl))
  replace Ns1 := hB27.newD Ns1 O27 (fun s hs t ht q1 q2 e => by have := Zr1 s hs q1; have := Zs1 t ht q2; omega)
  replace Nr0 := hB27.new Nr0 O27 (fun s hs => ((fun s hs t ht => (Fr0r1 t ht s hs).symm) : ∀ s ∈ lvs r1 pr1, ∀ t ∈ [r0], Far s t) s hs r0 (List.mem_singleton.2 rfl))
  have V27 : (1 + (yy1.length : Int)) ≤ kAt ssRows 0 (1 + (yy1.length : Int)) pr1 pr1.length ∧ kAt ssRows 0 (1 + (yy1.length : Int)) pr1 pr1.length ≤ (1 + (yy1.length : Int)) + 0 * 16777216 + 16777216 := by have := Br1; rw [kAt_all (ro := ssRows) (c := 0) (k := (1 + (yy1.length : Int))) (ps := pr1)]; omega
  replace Nr1 := hM27
  rw [← lvs_mkD (l := r1) (ps := pr1) (mk := mkSS) (ro := ssRows) (c := 0) (k := (1 + (yy1.length : Int)))] at Zr1 Fr0r1
  repeat' (first | (simp (disch := first | omega | assumption | (simp only [List.length_set]; omega) | (simp [*] <;> fail) | assumption) [-Bool.decide_and, -Bool.decide_or, -Bool.not_and, -Bool.not_or, toNat_pred, toNat_succ, wrap64, wr_new, wr_new0, ok_if, ok_ifn, iadV_sl, makeV_int, decT, decF, over_at, *, c_heldFloat32S Nr0.arr, c_heldFloat32SS Nr1.arr Nr1.ins (by omega) (by have := Br1; rw [kAt_all (ro := ssRows) (c := 0) (k := (1 + (yy1.length : Int))) (ps := pr1)]; omega) Br1.1 Br1.2]) | (with_reducible refine Gd_split (fun hc => ?_) (fun hc => ?_) <;> (have hc2 := hc; try simp at hc2)) | (with_reducible refine Br_split (fun hc => ?_) (fun hc => ?_) <;> (have hc2 := hc; try simp at hc2)) | (with_reducible refine GdT_split (fun hc => ?_) (fun hc => ?_) <;> (have hc2 := hc; try simp at hc2)) | (with_reducible refine WT_alt ?_ ?_) | omega)
  refine c_toEffectS (hAl.kept K27) (hIl.kept K27) hnl hml K27.1 fun w0 g28 pw0 hw0 Ew0 => ?_
  have Bw0 : pw0.length ≤ 16777216 ∧ szD Eff.nums pw0 ≤ 16777216 := ⟨by rw [map_len Ew0]; omega, by rw [szD_map Ew0]; omega⟩
  have K29 := K27.trans hw0.kept
  have Q29 := hw0.kept.1
  have P29 := K29.1
  have Zw0 := hw0.lvs_lt
  have Nw0 := hw0.base K27
  replace Ns0 := Ns0.later hw0.kept
  replace Ns1 := Ns1.later hw0.kept
  replace Nr0 := Nr0.later hw0.kept
  replace Nr1 := Nr1.later hw0.kept
  repeat' (first | (simp (disch := first | omega | assumption | (simp only [List.length_set]; omega) | (simp [*] <;> fail) | assumption) [-Bool.decide_and, -Bool.decide_or, -Bool.not_and, -Bool.not_or, toNat_pred, toNat_succ, wrap64, wr_new, wr_new0, ok_if, ok_ifn, iadV_sl, makeV_int, decT, decF, over_at, *]) | (with_reducible refine Gd_split (fun hc => ?_) (fun hc => ?_) <;> (have hc2 := hc; try simp at hc2)) | (with_reducible refine Br_split (fun hc => ?_) (fun hc => ?_) <;> (have hc2 := hc; try simp at hc2)) | (with_reducible refine GdT_split (fun hc => ?_) (fun hc => ?_) <;> (have hc2 := hc; try simp at hc2)) | (with_reducible refine WT_alt ?_ ?_) | omega)
  refine c_toFloat32SS (hAl2.kept K29) (hIl2.kept K29) hnl2 hml2 K29.1 fun w1 g30 pw1 hw1 Ew1 => ?_
  have Bw1 : pw1.length ≤ 16777216 ∧ szD ssRows pw1 ≤ 16777216 := ⟨by rw [map_len Ew1]; omega, by rw [szD_map Ew1]; omega⟩
  have K31 := K29.trans hw1.kept
  have Q31 := hw1.kept.1
  have P31 := K31.1
  have Zw1 := hw1.lvs_lt
  have Nw1 := hw1.base K29
  replace Ns0 := Ns0.later hw1.kept
  replace Ns1 := Ns1.later hw1.kept
  replace Nr0 := Nr0.later hw1.kept
  replace Nr1 := Nr1.later hw1.kept
  replace Nw0 := Nw0.later hw1.kept
  repeat' (first | (simp (disch := first | omega | assumption | (simp only [List.length_set]; omega) | (simp [*] <;> fail) | assumption) [-Bool.decide_and, -Bool.decide_or, -Bool.not_and, -Bool.not_or, toNat_pred, toNat_succ, wrap64, wr_new, wr_new0, ok_if, ok_ifn, iadV_sl, makeV_int, decT, decF, over_at, *]) | (with_reducible refine Gd_split (fun hc => ?_) (fun hc => ?_) <;> (have hc2 := hc; try simp at hc2)) | (with_reducible refine Br_split (fun hc => ?_) (fun hc => ?_) <;> (have hc2 := hc; try simp at hc2)) | (with_reducible refine GdT_split (fun hc => ?_) (fun hc => ?_) <;> (have hc2 := hc; try simp at hc2)) | (with_reducible refine WT_alt ?_ ?_) | omega)
  refine c_toFloat32S (hAl3.kept K31) hnl3 K31.1 fun w2 g32 hw2 => ?_
  have K33 := K31.trans hw2.kept
  have Q33 := hw2.kept.1
  have P33 := K33.1
  have Zw2 := hw2.foot
  have Nw2 := hw2.base K31
  replace Ns0 := Ns0.later hw2.kept
  replace Ns1 := Ns1.later hw2.kept
  replace Nr0 := Nr0.later hw2.kept
  replace Nr1 := Nr1.later hw2.kept
  replace Nw0 := Nw0.later hw2.kept
  replace Nw1 := Nw1.later hw2.kept
  repeat' (first | (simp (disch := first | omega | assumption | (simp only [List.length_set]; omega) | (simp [*] <;> fail) | assumption) [-Bool.decide_and, -Bool.decide_or, -Bool.not_and, -Bool.not_or, toNat_pred, toNat_succ, wrap64, wr_new, wr_new0, ok_if, ok_ifn, iadV_sl, makeV_int, decT, decF, over_at, *]) | (with_reducible refine Gd_split (fun hc => ?_) (fun hc => ?_) <;> (have hc2 := hc; try simp at hc2)) | (with_reducible refine Br_split (fun hc => ?_) (fun hc => ?_) <;> (have hc2 := hc; try simp at hc2)) | (with_reducible refine GdT_split (fun hc => ?_) (fun hc => ?_) <;> (have hc2 := hc; try simp at hc2)) | (with_reducible refine WT_alt ?_ ?_) | omega)
  refine ci Nw0 Ew0 Nw1 Ew1 Nw2 K33.1 fun u0 u1 pu1 g34 hu0 hu1 Eu1 Fu0u1 => ?_
  have Bu1 := hlo1 Eu1
  have K35 := K33.trans hu0.kept
  have Q35 := hu0.kept.1
  have P35 := K35.1
  have Zu0 := hu0.foot
  have Nu0 := hu0.base K33
  have Zu1 := hu1.lvs_lt
  have Nu1 := hu1.base K33
  replace Ns0 := Ns0.later hu0.kept
  replace Ns1 := Ns1.later hu0.kept
  replace Nr0 := Nr0.later hu0.kept
  replace Nr1 := Nr1.later hu0.kept
  replace Nw0 := Nw0.later hu0.kept
  replace Nw1 := Nw1.later hu0.kept
  replace Nw2 := Nw2.later hu0.kept
  repeat' (first | (simp (disch := first | omega | assumption | (simp only [List.length_set]; omega) | (simp [*] <;> fail) | assumption) [-Bool.decide_and, -Bool.decide_or, -Bool.not_and, -Bool.not_or, toNat_pred, toNat_succ, wrap64, wr_new, wr_new0, ok_if, ok_ifn, iadV_sl, makeV_int, decT, decF, over_at, *, c_eqFloat32S Nu0.arr Ns0.arr, c_eqFloat32SS Nu1.arr Nu1.ins Ns1.arr Ns1.ins (Es1.trans Eu1.symm), c_heldFloat32S Nr0.arr, c_heldFloat32SS Nr1.arr Nr1.ins (by omega) (by have := Br1; rw [kAt_all (ro := ssRows) (c := 0) (k := (1 + (yy1.length : Int))) (ps := pr1)]; omega) Br1.1 Br1.2]) | (with_reducible refine Gd_split (fun hc => ?_) (fun hc => ?_) <;> (have hc2 := hc; try simp at hc2)) | (with_reducible refine Br_split (fun hc => ?_) (fun hc => ?_) <;> (have hc2 := hc; try simp at hc2)) | (with_reducible refine GdT_split (fun hc => ?_) (fun hc => ?_) <;> (have hc2 := hc; try simp at hc2)) | (with_reducible refine WT_alt ?_ ?_) | omega)
end Go.E
namespace Go.E.RunChain
open Go Go.E
def pure : FuncId → Bool := fun f => List.elem f [3, 4, 5, 6, 10, 11, 14, 15, 20, 22, 25, 26, 27, 31, 32, 36, 37, 38, 39, 40, 41, 42, 44, 46, 47, 48, 53, 56, 59, 61, 62, 66, 69, 71, 72, 73, 74, 75, 76, 77, 78, 79, 80, 81, 82, 84, 85, 86, 87, 88, 89, 90, 91, 93, 94, 95, 96, 98, 100, 102, 109, 111, 112]
def funs : List (Nat × LFn) := [(27, L27), (48, L48), (40, L40), (42, L42), (73, L73), (74, L74), (58, L58), (77, L77), (78, L78), (26, L26), (31, L31), (44, L44), (46, L46), (47, L47), (53, L53), (61, L61), (62, L62), (71, L71), (79, L79), (60, L60), (54, L54), (59, L59), (56, L56), (66, L66), (81, L81), (82, L82), (57, L57), (75, L75), (76, L76), (86, L86), (89, L89), (72, L72), (80, L80), (55, L55), (64, L64), (45, L45), (49, L49), (28, L28), (50, L50), (65, L65), (63, L63), (94, L94), (95, L95), (68, L68), (84, L84), (69, L69), (67, L67), (83, L83), (92, L92), (93, L93), (70, L70), (85, L85), (33, L33), (52, L52), (39, L39), (41, L41), (51, L51), (16, L16), (19, L19), (36, L36), (10, L10), (13, L13), (14, L14), (18, L18), (38, L38), (6, L6), (8, L8), (11, L11), (25, L25), (30, L30), (37, L37), (15, L15), (17, L17), (20, L20), (12, L12), (21, L21), (22, L22), (4, L4)]
def Sy : Sys := sysOf funs
theorem lfn27 : lFn Go.Proofs.Try.prog pure Go.Proofs.Try.f27 = some L27 := by kernel_rfl
theorem lfn48 : lFn Go.Proofs.Try.prog pure Go.Proofs.Try.f48 = some L48 := by kernel_rfl
theorem lfn40 : lFn Go.Proofs.Try.prog pure Go.Proofs.Try.f40 = some L40 := by kernel_rfl
theorem lfn42 : lFn Go.Proofs.Try.prog pure Go.Proofs.Try.f42 = some L42 := by kernel_rfl
theorem lfn73 : lFn Go.Proofs.Try.prog pure Go.Proofs.Try.f73 = some L73 := by kernel_rfl
theorem lfn74 : lFn Go.Proofs.Try.prog pure Go.Proofs.Try.f74 = some L74 := by kernel_rfl
theorem lfn58 : lFn Go.Proofs.Try.prog pure Go.Proofs.Try.f58 = some L58 := by kernel_rfl
theorem lfn77 : lFn Go.Proofs.Try.prog pure Go.Proofs.Try.f77 = some L77 := by kernel_rfl
theorem lfn78 : lFn Go.Proofs.Try.prog pure Go.Proofs.Try.f78 = some L78 := by kernel_rfl
theorem lfn26 : lFn Go.Proofs.Try.prog pure Go.Proofs.Try.f26 = some L26 := by kernel_rfl
theorem lfn31 : lFn Go.Proofs.Try.prog pure Go.Proofs.Try.f31 = some L31 := by kernel_rfl
theorem lfn44 : lFn Go.Proofs.Try.prog pure Go.Proofs.Try.f44 = some L44 := by kernel_rfl
theorem lfn46 : lFn Go.Proofs.Try.prog pure Go.Proofs.Try.f46 = some L46 := by kernel_rfl
theorem lfn47 : lFn Go.Proofs.Try.prog pure Go.Proofs.Try.f47 = some L47 := by kernel_rfl
theorem lfn53 : lFn Go.Proofs.Try.prog pure Go.Proofs.Try.f53 = some L53 := by kernel_rfl
theorem lfn61 : lFn Go.Proofs.Try.prog pure Go.Proofs.Try.f61 = some L61 := by kernel_rfl
theorem lfn62 : lFn Go.Proofs.Try.prog pure Go.Proofs.Try.f62 = some L62 := by kernel_rfl
theorem lfn71 : lFn Go.Proofs.Try.prog pure Go.Proofs.Try.f71 = some L71 := by kernel_rfl
theorem lfn79 : lFn Go.Proofs.Try.prog pure Go.Proofs.Try.f79 = some L79 := by kernel_rfl
theorem lfn60 : lFn Go.Proofs.Try.prog pure Go.Proofs.Try.f60 = some L60 := by kernel_rfl
theorem lfn54 : lFn Go.Proofs.Try.prog pure Go.Proofs.Try.f54 = some L54 := by kernel_rfl
theorem lfn59 : lFn Go.Proofs.Try.prog pure Go.Proofs.Try.f59 = some L59 := by kernel_rfl
theorem lfn56 : lFn Go.Proofs.Try.prog pure Go.Proofs.Try.f56 = some L56 := by kernel_rfl
theorem lfn66 : lFn Go.Proofs.Try.prog pure Go.Proofs.Try.f66 = some L66 := by kernel_rfl
theorem lfn81 : lFn Go.Proofs.Try.prog pure Go.Proofs.Try.f81 = some L81 := by kernel_rfl
theorem lfn82 : lFn Go.Proofs.Try.prog pure Go.Proofs.Try.f82 = some L82 := by kernel_rfl
theorem lfn57 : lFn Go.Proofs.Try.prog pure Go.Proofs.Try.f57 = some L57 := by kernel_rfl
theorem lfn75 : lFn Go.Proofs.Try.prog pure Go.Proofs.Try.f75 = some L75 := by kernel_rfl
theorem lfn76 : lFn Go.Proofs.Try.prog pure Go.Proofs.Try.f76 = some L76 := by kernel_rfl
theorem lfn86 : lFn Go.Proofs.Try.prog pure Go.Proofs.Try.f86 = some L86 := by kernel_rfl
theorem lfn89 : lFn Go.Proofs.Try.prog pure Go.Proofs.Try.f89 = some L89 := by kernel_rfl
theorem lfn72 : lFn Go.Proofs.Try.prog pure Go.Proofs.Try.f72 = some L72 := by kernel_rfl
theorem lfn80 : lFn Go.Proofs.Try.prog pure Go.Proofs.Try.f80 = some L80 := by kernel_rfl
theorem lfn55 : lFn Go.Proofs.Try.prog pure Go.Proofs.Try.f55 = some L55 := by kernel_rfl
theorem lfn64 : lFn Go.Proofs.Try.prog pure Go.Proofs.Try.f64 = some L64 := by kernel_rfl
theorem lfn45 : lFn Go.Proofs.Try.prog pure Go.Proofs.Try.f45 = some L45 := by kernel_rfl
theorem lfn49 : lFn Go.Proofs.Try.prog pure Go.Proofs.Try.f49 = some L49 := by kernel_rfl
theorem lfn28 : lFn Go.Proofs.Try.prog pure Go.Proofs.Try.f28 = some L28 := by kernel_rfl
theorem lfn50 : lFn Go.Proofs.Try.prog pure Go.Proofs.Try.f50 = some L50 := by kernel_rfl
theorem lfn65 : lFn Go.Proofs.Try.prog pure Go.Proofs.Try.f65 = some L65 := by kernel_rfl
theorem lfn63 : lFn Go.Proofs.Try.prog pure Go.Proofs.Try.f63 = some L63 := by kernel_rfl
theorem lfn94 : lFn Go.Proofs.Try.prog pure Go.Proofs.Try.f94 = some L94 := by kernel_rfl
theorem lfn95 : lFn Go.Proofs.Try.prog pure Go.Proofs.Try.f95 = some L95 := by kernel_rfl
theorem lfn68 : lFn Go.Proofs.Try.prog pure Go.Proofs.Try.f68 = some L68 := by kernel_rfl
theorem lfn84 : lFn Go.Proofs.Try.prog pure Go.Proofs.Try.f84 = some L84 := by kernel_rfl
theorem lfn69 : lFn Go.Proofs.Try.prog pure Go.Proofs.Try.f69 = some L69 := by kernel_rfl
theorem lfn67 : lFn Go.Proofs.Try.prog pure Go.Proofs.Try.f67 = some L67 := by kernel_rfl
theorem lfn83 : lFn Go.Proofs.Try.prog pure Go.Proofs.Try.f83 = some L83 := by kernel_rfl
theorem lfn92 : lFn Go.Proofs.Try.prog pure Go.Proofs.Try.f92 = some L92 := by kernel_rfl
theorem lfn93 : lFn Go.Proofs.Try.prog pure Go.Proofs.Try.f93 = some L93 := by kernel_rfl
theorem lfn70 : lFn Go.Proofs.Try.prog pure Go.Proofs.Try.f70 = some L70 := by kernel_rfl
theorem lfn85 : lFn Go.Proofs.Try.prog pure Go.Proofs.Try.f85 = some L85 := by kernel_rfl
theorem lfn33 : lFn Go.Proofs.Try.prog pure Go.Proofs.Try.f33 = some L33 := by kernel_rfl
theorem lfn52 : lFn Go.Proofs.Try.prog pure Go.Proofs.Try.f52 = some L52 := by kernel_rfl
theorem lfn39 : lFn Go.Proofs.Try.prog pure Go.Proofs.Try.f39 = some L39 := by kernel_rfl
theorem lfn41 : lFn Go.Proofs.Try.prog pure Go.Proofs.Try.f41 = some L41 := by kernel_rfl
theorem lfn51 : lFn Go.Proofs.Try.prog pure Go.Proofs.Try.f51 = some L51 := by kernel_rfl
theorem lfn16 : lFn Go.Proofs.Try.prog pure Go.Proofs.Try.f16 = some L16 := by kernel_rfl
theorem lfn19 : lFn Go.Proofs.Try.prog pure Go.Proofs.Try.f19 = some L19 := by kernel_rfl
theorem lfn36 : lFn Go.Proofs.Try.prog pure Go.Proofs.Try.f36 = some L36 := by kernel_rfl
theorem lfn10 : lFn Go.Proofs.Try.prog pure Go.Proofs.Try.f10 = some L10 := by kernel_rfl
theorem lfn13 : lFn Go.Proofs.Try.prog pure Go.Proofs.Try.f13 = some L13 := by kernel_rfl
theorem lfn14 : lFn Go.Proofs.Try.prog pure Go.Proofs.Try.f14 = some L14 := by kernel_rfl
theorem lfn18 : lFn Go.Proofs.Try.prog pure Go.Proofs.Try.f18 = some L18 := by kernel_rfl
theorem lfn38 : lFn Go.Proofs.Try.prog pure Go.Proofs.Try.f38 = some L38 := by kernel_rfl
theorem lfn6 : lFn Go.Proofs.Try.prog pure Go.Proofs.Try.f6 = some L6 := by kernel_rfl
theorem lfn8 : lFn Go.Proofs.Try.prog pure Go.Proofs.Try.f8 = some L8 := by kernel_rfl
theorem lfn11 : lFn Go.Proofs.Try.prog pure Go.Proofs.Try.f11 = some L11 := by kernel_rfl
theorem lfn25 : lFn Go.Proofs.Try.prog pure Go.Proofs.Try.f25 = some L25 := by kernel_rfl
theorem lfn30 : lFn Go.Proofs.Try.prog pure Go.Proofs.Try.f30 = some L30 := by kernel_rfl
theorem lfn37 : lFn Go.Proofs.Try.prog pure Go.Proofs.Try.f37 = some L37 := by kernel_rfl
theorem lfn15 : lFn Go.Proofs.Try.prog pure Go.Proofs.Try.f15 = some L15 := by kernel_rfl
theorem lfn17 : lFn Go.Proofs.Try.prog pure Go.Proofs.Try.f17 = some L17 := by kernel_rfl
theorem lfn20 : lFn Go.Proofs.Try.prog pure Go.Proofs.Try.f20 = some L20 := by kernel_rfl
theorem lfn12 : lFn Go.Proofs.Try.prog pure Go.Proofs.Try.f12 = some L12 := by kernel_rfl
theorem lfn21 : lFn Go.Proofs.Try.prog pure Go.Proofs.Try.f21 = some L21 := by kernel_rfl
theorem lfn22 : lFn Go.Proofs.Try.prog pure Go.Proofs.Try.f22 = some L22 := by kernel_rfl
theorem lfn4 : lFn Go.Proofs.Try.prog pure Go.Proofs.Try.f4 = some L4 := by kernel_rfl
instance : HasA Sy := { f27 := rfl, f48 := rfl }
instance : HasP Sy := { f40 := rfl, f42 := rfl }
instance : HasFb Sy := { f73 := rfl, f74 := rfl }
instance : HasZs Sy := { f58 := rfl, f77 := rfl, f78 := rfl }
instance : HasEf Sy := { f26 := rfl, f31 := rfl, f44 := rfl, f46 := rfl, f47 := rfl, f53 := rfl, f61 := rfl, f62 := rfl, f71 := rfl, f79 := rfl }
instance : HasZl Sy := { f60 := rfl }
instance : HasZb Sy := { f54 := rfl, f59 := rfl }
instance : HasFf Sy := { f56 := rfl, f66 := rfl, f81 := rfl, f82 := rfl }
instance : HasZq Sy := { f57 := rfl, f75 := rfl, f76 := rfl }
instance : HasFl2 Sy := { f86 := rfl, f89 := rfl }
instance : HasFi Sy := { f72 := rfl, f80 := rfl }
instance : HasFr Sy := { f55 := rfl, f64 := rfl }
instance : HasEs Sy := { f45 := rfl }
instance : HasCn Sy := { f49 := rfl }
instance : HasSr Sy := { f28 := rfl }
instance : HasEc Sy := { f50 := rfl, f65 := rfl }
instance : HasSc Sy := { f63 := rfl }
instance : HasFa Sy := { f94 := rfl, f95 := rfl }
instance : HasCl Sy := { f68 := rfl, f84 := rfl }
instance : HasBe Sy := { f69 := rfl }
instance : HasSq Sy := { f67 := rfl, f83 := rfl, f92 := rfl, f93 := rfl }
instance : HasLi Sy := { f70 := rfl, f85 := rfl }
instance : HasRc Sy := { f33 := rfl }
instance : HasN Sy := { f52 := rfl }
instance : HasIs Sy := { f39 := rfl, f41 := rfl, f51 := rfl }
instance : HasRu Sy := { f16 := rfl, f19 := rfl }
instance : HasSame Sy := { f36 := rfl }
instance : HasF Sy := { f10 := rfl, f13 := rfl, f14 := rfl, f18 := rfl }
instance : HasSz Sy := { f38 := rfl }
instance : HasDE Sy := { f6 := rfl, f8 := rfl, f11 := rfl, f25 := rfl, f30 := rfl, f37 := rfl }
instance : HasDSS Sy := { f15 := rfl, f17 := rfl, f20 := rfl }
instance : HasKE Sy := { f12 := rfl }
instance : HasKSS Sy := { f21 := rfl, f22 := rfl }
instance : HasLRunChain Sy := { f4 := rfl }
theorem sysOK {B : Nat} {w0 : World} : SysOK Go.Proofs.Try.prog pure Sy B w0 := SysOK.of (by
  intro p hp
  simp only [funs, List.mem_cons, List.not_mem_nil, or_false] at hp
  rcases hp with rfl | rfl | rfl | rfl | rfl | rfl | rfl | rfl | rfl | rfl | rfl | rfl | rfl | rfl | rfl | rfl | rfl | rfl | rfl | rfl | rfl | rfl | rfl | rfl | rfl | rfl | rfl | rfl | rfl | rfl | rfl | rfl | rfl | rfl | rfl | rfl | rfl | rfl | rfl | rfl | rfl | rfl | rfl | rfl | rfl | rfl | rfl | rfl | rfl | rfl | rfl | rfl | rfl | rfl | rfl | rfl | rfl | rfl | rfl | rfl | rfl | rfl | rfl | rfl | rfl | rfl | rfl | rfl | rfl | rfl | rfl | rfl | rfl | rfl | rfl | rfl | rfl | rfl
  · exact ⟨_, Go.Proofs.Try.func27, lfn27⟩
  · exact ⟨_, Go.Proofs.Try.func48, lfn48⟩
  · exact ⟨_, Go.Proofs.Try.func40, lfn40⟩
  · exact ⟨_, Go.Proofs.Try.func42, lfn42⟩
  · exact ⟨_, Go.Proofs.Try.func73, lfn73⟩
  · exact ⟨_, Go.Proofs.Try.func74, lfn74⟩
  · exact ⟨_, Go.Proofs.Try.func58, lfn58⟩
  · exact ⟨_, Go.Proofs.Try.func77, lfn77⟩
  · exact ⟨_, Go.Proofs.Try.func78, lfn78⟩
  · exact ⟨_, Go.Proofs.Try.func26, lfn26⟩
  · exact ⟨_, Go.Proofs.Try.func31, lfn31⟩
  · exact ⟨_, Go.Proofs.Try.func44, lfn44⟩
  · exact ⟨_, Go.Proofs.Try.func46, lfn46⟩
  · exact ⟨_, Go.Proofs.Try.func47, lfn47⟩
  · exact ⟨_, Go.Proofs.Try.func53, lfn53⟩
  · exact ⟨_, Go.Proofs.Try.func61, lfn61⟩
  · exact ⟨_, Go.Proofs.Try.func62, lfn62⟩
  · exact ⟨_, Go.Proofs.Try.func71, lfn71⟩
  · exact ⟨_, Go.Proofs.Try.func79, lfn79⟩
  · exact ⟨_, Go.Proofs.Try.func60, lfn60⟩
  · exact ⟨_, Go.Proofs.Try.func54, lfn54⟩
  · exact ⟨_, Go.Proofs.Try.func59, lfn59⟩
  · exact ⟨_, Go.Proofs.Try.func56, lfn56⟩
  · exact ⟨_, Go.Proofs.Try.func66, lfn66⟩
  · exact ⟨_, Go.Proofs.Try.func81, lfn81⟩
  · exact ⟨_, Go.Proofs.Try.func82, lfn82⟩
  · exact ⟨_, Go.Proofs.Try.func57, lfn57⟩
  · exact ⟨_, Go.Proofs.Try.func75, lfn75⟩
  · exact ⟨_, Go.Proofs.Try.func76, lfn76⟩
  · exact ⟨_, Go.Proofs.Try.func86, lfn86⟩
  · exact ⟨_, Go.Proofs.Try.func89, lfn89⟩
  · exact ⟨_, Go.Proofs.Try.func72, lfn72⟩
  · exact ⟨_, Go.Proofs.Try.func80, lfn80⟩
  · exact ⟨_, Go.Proofs.Try.func55, lfn55⟩
  · exact ⟨_, Go.Proofs.Try.func64, lfn64⟩
  · exact ⟨_, Go.Proofs.Try.func45, lfn45⟩
  · exact ⟨_, Go.Proofs.Try.func49, lfn49⟩
  · exact ⟨_, Go.Proofs.Try.func28, lfn28⟩
  · exact ⟨_, Go.Proofs.Try.func50, lfn50⟩
  · exact ⟨_, Go.Proofs.Try.func65, lfn65⟩
  · exact ⟨_, Go.Proofs.Try.func63, lfn63⟩
  · exact ⟨_, Go.Proofs.Try.func94, lfn94⟩
  · exact ⟨_, Go.Proofs.Try.func95, lfn95⟩
  · exact ⟨_, Go.Proofs.Try.func68, lfn68⟩
  · exact ⟨_, Go.Proofs.Try.func84, lfn84⟩
  · exact ⟨_, Go.Proofs.Try.func69, lfn69⟩
  · exact ⟨_, Go.Proofs.Try.func67, lfn67⟩
  · exact ⟨_, Go.Proofs.Try.func83, lfn83⟩
  · exact ⟨_, Go.Proofs.Try.func92, lfn92⟩
  · exact ⟨_, Go.Proofs.Try.func93, lfn93⟩
  · exact ⟨_, Go.Proofs.Try.func70, lfn70⟩
  · exact ⟨_, Go.Proofs.Try.func85, lfn85⟩
  · exact ⟨_, Go.Proofs.Try.func33, lfn33⟩
  · exact ⟨_, Go.Proofs.Try.func52, lfn52⟩
  · exact ⟨_, Go.Proofs.Try.func39, lfn39⟩
  · exact ⟨_, Go.Proofs.Try.func41, lfn41⟩
  · exact ⟨_, Go.Proofs.Try.func51, lfn51⟩
  · exact ⟨_, Go.Proofs.Try.func16, lfn16⟩
  · exact ⟨_, Go.Proofs.Try.func19, lfn19⟩
  · exact ⟨_, Go.Proofs.Try.func36, lfn36⟩
  · exact ⟨_, Go.Proofs.Try.func10, lfn10⟩
  · exact ⟨_, Go.Proofs.Try.func13, lfn13⟩
  · exact ⟨_, Go.Proofs.Try.func14, lfn14⟩
  · exact ⟨_, Go.Proofs.Try.func18, lfn18⟩
  · exact ⟨_, Go.Proofs.Try.func38, lfn38⟩
  · exact ⟨_, Go.Proofs.Try.func6, lfn6⟩
  · exact ⟨_, Go.Proofs.Try.func8, lfn8⟩
  · exact ⟨_, Go.Proofs.Try.func11, lfn11⟩
  · exact ⟨_, Go.Proofs.Try.func25, lfn25⟩
  · exact ⟨_, Go.Proofs.Try.func30, lfn30⟩
  · exact ⟨_, Go.Proofs.Try.func37, lfn37⟩
  · exact ⟨_, Go.Proofs.Try.func15, lfn15⟩
  · exact ⟨_, Go.Proofs.Try.func17, lfn17⟩
  · exact ⟨_, Go.Proofs.Try.func20, lfn20⟩
  · exact ⟨_, Go.Proofs.Try.func12, lfn12⟩
  · exact ⟨_, Go.Proofs.Try.func21, lfn21⟩
  · exact ⟨_, Go.Proofs.Try.func22, lfn22⟩
  · exact ⟨_, Go.Proofs.Try.func4, lfn4⟩)

end Go.E.RunChain
