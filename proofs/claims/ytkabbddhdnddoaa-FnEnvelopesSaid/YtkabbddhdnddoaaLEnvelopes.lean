/- The law of envelopes: what the evaluator finds. -/
import Derived.Test.YtkabbddhdnddoaaMLx
import Derived.Test.YtkabbddhdnddoaaEE
import Derived.Test.YtkabbddhdnddoaaProg
set_option linter.unusedVariables false
set_option linter.unusedSimpArgs false
namespace Go.E
open Go
def L5 : LFn := ⟨2, (.seq (.reg [⟨(.some 4), (.mv (.c (.lf (.bool false)))), none⟩])
 (.seq (.seq (.reg [⟨(.some 17), (.mv (.t 0)), none⟩, ⟨(.some 18), (.mv (.t 1)), none⟩, ⟨(.some 19), (.call true 6 [(.t 17), (.t 18)]), none⟩])
 (.cond (.t 19) (.seq (.reg [⟨(.some 4), (.mv (.c (.lf (.bool true)))), none⟩])
 .ret) .skip))
 (.seq (.reg [⟨(.some 20), (.mv (.t 0)), none⟩, ⟨(.some 21), (.call false 7 [(.t 20)]), none⟩, ⟨(.some 5), (.alloc 26 [(.int .i64 0), (.int .i64 0), (.flt .f32 0), (.int .i64 0)]), none⟩, ⟨none, (.store 4 (.t 5) (.t 21)), none⟩])
 (.seq (.reg [⟨(.some 22), (.mv (.t 1)), none⟩, ⟨(.some 23), (.call true 9 [(.t 22), (.c (.lf (.int .i64 0))), (.c (.lf (.int .i64 30)))]), none⟩, ⟨(.some 6), (.mv (.t 23)), none⟩])
 (.seq (.reg [⟨(.some 7), (.mv (.c (.lf (.flt .f32 0)))), none⟩])
 (.seq (.seq (.reg [⟨(.some 8), (.mv (.c (.lf (.int .i64 0)))), none⟩])
 (.block 0 (.loop (.seq (.seq (.reg [⟨(.some 24), (.mv (.t 8)), none⟩, ⟨(.some 25), (.bin .lss (.t 24) (.c (.lf (.int .i64 60)))), none⟩])
 (.cond (.t 25) .skip (.exit 0)))
 (.seq (.block 1 (.seq (.reg [⟨(.some 29), (.load true 4 (.t 5)), none⟩, ⟨(.some 30), (.mv (.t 6)), none⟩, ⟨(.some 31), (.mv (.t 8)), none⟩, ⟨(.some 32), (.call true 22 [(.t 29), (.t 30), (.t 31)]), none⟩, ⟨(.some 28), (.mv (.t 32)), none⟩, ⟨(.some 33), (.ext (.t 28) 0), none⟩, ⟨(.some 34), (.ext (.t 28) 1), none⟩, ⟨(.some 9), (.mv (.t 33)), none⟩, ⟨(.some 10), (.mv (.t 34)), none⟩])
 (.seq (.seq (.reg [⟨(.some 35), (.mv (.t 10)), none⟩, ⟨(.some 36), (.una .not (.t 35)), none⟩, ⟨(.some 37), (.mv (.t 36)), none⟩, ⟨(.some 38), (.mv (.t 9)), (.some (37, false))⟩, ⟨(.some 39), (.bin .geq (.t 38) (.c (.lf (.flt .f32 0)))), (.some (37, false))⟩, ⟨(.some 40), (.una .not (.t 39)), (.some (37, false))⟩, ⟨(.some 41), (.pick (.t 37) (.c (.lf (.bool true))) (.t 40)), none⟩, ⟨(.some 42), (.mv (.t 41)), none⟩, ⟨(.some 43), (.mv (.t 9)), (.some (42, false))⟩, ⟨(.some 44), (.bin .gtr (.t 43) (.c (.lf (.flt .f32 1065353216)))), (.some (42, false))⟩, ⟨(.some 45), (.pick (.t 42) (.c (.lf (.bool true))) (.t 44)), none⟩])
 (.cond (.t 45) (.seq (.reg [⟨(.some 4), (.mv (.c (.lf (.bool false)))), none⟩])
 .ret) .skip))
 (.seq (.seq (.reg [⟨(.some 46), (.mv (.t 8)), none⟩, ⟨(.some 47), (.mv (.t 6)), none⟩, ⟨(.some 48), (.bin .lss (.t 46) (.t 47)), none⟩, ⟨(.some 49), (.mv (.t 48)), none⟩, ⟨(.some 50), (.mv (.t 8)), (.some (49, true))⟩, ⟨(.some 51), (.faddr 0 (.t 5)), (.some (49, true))⟩, ⟨(.some 52), (.load false 1 (.t 51)), (.some (49, true))⟩, ⟨(.some 53), (.bin .lss (.t 50) (.t 52)), (.some (49, true))⟩, ⟨(.some 54), (.pick (.t 49) (.t 53) (.c (.lf (.bool false)))), none⟩, ⟨(.some 55), (.mv (.t 54)), none⟩, ⟨(.some 56), (.mv (.t 8)), (.some (55, true))⟩, ⟨(.some 57), (.bin .gtr (.t 56) (.c (.lf (.int .i64 0)))), (.some (55, true))⟩, ⟨(.some 58), (.pick (.t 55) (.t 57) (.c (.lf (.bool false)))), none⟩, ⟨(.some 59), (.mv (.t 58)), none⟩, ⟨(.some 60), (.mv (.t 9)), (.some (59, true))⟩, ⟨(.some 61), (.mv (.t 7)), (.some (59, true))⟩, ⟨(.some 62), (.bin .lss (.t 60) (.t 61)), (.some (59, true))⟩, ⟨(.some 63), (.pick (.t 59) (.t 62) (.c (.lf (.bool false)))), none⟩, ⟨(.some 64), (.mv (.t 63)), none⟩, ⟨(.some 65), (.mv (.t 8)), (.some (64, false))⟩, ⟨(.some 66), (.mv (.t 6)), (.some (64, false))⟩, ⟨(.some 67), (.bin .gtr (.t 65) (.t 66)), (.some (64, false))⟩, ⟨(.some 68), (.mv (.t 67)), (.some (64, false))⟩, ⟨(.some 69), (.mv (.t 9)), (.some (68, true))⟩, ⟨(.some 70), (.mv (.t 7)), (.some (68, true))⟩, ⟨(.some 71), (.bin .gtr (.t 69) (.t 70)), (.some (68, true))⟩, ⟨(.some 72), (.pick (.t 68) (.t 71) (.c (.lf (.bool false)))), (.some (64, false))⟩, ⟨(.some 73), (.pick (.t 64) (.c (.lf (.bool true))) (.t 72)), none⟩, ⟨(.some 74), (.mv (.t 73)), none⟩, ⟨(.some 75), (.mv (.t 8)), (.some (74, false))⟩, ⟨(.some 76), (.faddr 0 (.t 5)), (.some (74, false))⟩, ⟨(.some 77), (.load false 1 (.t 76)), (.some (74, false))⟩, ⟨(.some 78), (.bin .gtr (.t 75) (.t 77)), (.some (74, false))⟩, ⟨(.some 79), (.mv (.t 78)), (.some (74, false))⟩, ⟨(.some 80), (.mv (.t 8)), (.some (79, true))⟩, ⟨(.some 81), (.bin .gtr (.t 80) (.c (.lf (.int .i64 0)))), (.some (79, true))⟩, ⟨(.some 82), (.pick (.t 79) (.t 81) (.c (.lf (.bool false)))), (.some (74, false))⟩, ⟨(.some 83), (.mv (.t 82)), (.some (74, false))⟩, ⟨(.some 84), (.mv (.t 9)), (.some (83, true))⟩, ⟨(.some 85), (.mv (.t 7)), (.some (83, true))⟩, ⟨(.some 86), (.bin .gtr (.t 84) (.t 85)), (.some (83, true))⟩, ⟨(.some 87), (.pick (.t 83) (.t 86) (.c (.lf (.bool false)))), (.some (74, false))⟩, ⟨(.some 88), (.pick (.t 74) (.c (.lf (.bool true))) (.t 87)), none⟩, ⟨(.some 89), (.mv (.t 88)), none⟩, ⟨(.some 90), (.mv (.t 8)), (.some (89, false))⟩, ⟨(.some 91), (.mv (.t 6)), (.some (89, false))⟩, ⟨(.some 92), (.faddr 3 (.t 5)), (.some (89, false))⟩, ⟨(.some 93), (.load false 1 (.t 92)), (.some (89, false))⟩, ⟨(.some 94), (.bin .add (.t 91) (.t 93)), (.some (89, false))⟩, ⟨(.some 95), (.bin .geq (.t 90) (.t 94)), (.some (89, false))⟩, ⟨(.some 96), (.mv (.t 95)), (.some (89, false))⟩, ⟨(.some 97), (.mv (.t 9)), (.some (96, true))⟩, ⟨(.some 98), (.bin .neq (.t 97) (.c (.lf (.flt .f32 0)))), (.some (96, true))⟩, ⟨(.some 99), (.pick (.t 96) (.t 98) (.c (.lf (.bool false)))), (.some (89, false))⟩, ⟨(.some 100), (.pick (.t 89) (.c (.lf (.bool true))) (.t 99)), none⟩])
 (.cond (.t 100) (.seq (.reg [⟨(.some 4), (.mv (.c (.lf (.bool false)))), none⟩])
 .ret) .skip))
 (.reg [⟨(.some 101), (.mv (.t 9)), none⟩, ⟨(.some 7), (.mv (.t 101)), none⟩])))))
 (.reg [⟨(.some 26), (.mv (.t 8)), none⟩, ⟨(.some 27), (.bin .add (.t 26) (.c (.lf (.int .i64 1)))), none⟩, ⟨(.some 8), (.mv (.t 27)), none⟩]))))))
 (.seq (.reg [⟨(.some 102), (.mv (.t 1)), none⟩, ⟨(.some 103), (.call true 9 [(.t 102), (.c (.lf (.int .i64 1))), (.c (.lf (.int .i64 20)))]), none⟩, ⟨(.some 104), (.mv (.t 6)), none⟩, ⟨(.some 105), (.mv (.t 1)), none⟩, ⟨(.some 106), (.call true 9 [(.t 105), (.c (.lf (.int .i64 2))), (.c (.lf (.int .i64 128)))]), none⟩, ⟨(.some 107), (.build [(.int .i64 0), (.int .i64 0), (.int .i64 0), (.flt .f32 0)] [(0, (1, (.t 103))), (1, (1, (.t 104))), (2, (1, (.t 106))), (3, (1, (.c (.lf (.flt .f32 1065353216)))))]), none⟩, ⟨(.some 11), (.alloc 40 [(.int .i64 0), (.int .i64 0), (.int .i64 0), (.flt .f32 0)]), none⟩, ⟨none, (.store 4 (.t 11) (.t 107)), none⟩])
 (.seq (.reg [⟨(.some 109), (.load true 4 (.t 5)), none⟩, ⟨(.some 110), (.load true 4 (.t 11)), none⟩, ⟨(.some 111), (.call true 14 [(.t 109), (.t 110)]), none⟩, ⟨(.some 108), (.mv (.t 111)), none⟩, ⟨(.some 112), (.ext (.t 108) 0), none⟩, ⟨(.some 113), (.ext (.t 108) 1), none⟩, ⟨(.some 12), (.mv (.t 112)), none⟩, ⟨(.some 13), (.mv (.t 113)), none⟩])
 (.seq (.reg [⟨(.some 115), (.mv (.t 0)), none⟩, ⟨(.some 116), (.call true 9 [(.t 115), (.c (.lf (.int .i64 0))), (.c (.lf (.int .i64 4)))]), none⟩, ⟨(.some 117), (.load true 4 (.t 5)), none⟩, ⟨(.some 118), (.load true 4 (.t 11)), none⟩, ⟨(.some 119), (.call false 13 [(.t 116), (.t 117), (.t 118), (.c (.lf (.int .i64 80)))]), none⟩, ⟨(.some 114), (.mv (.t 119)), none⟩, ⟨(.some 120), (.ext (.t 114) 0), none⟩, ⟨(.some 121), (.ext (.t 114) 1), none⟩, ⟨(.some 14), (.mv (.t 120)), none⟩, ⟨(.some 15), (.mv (.t 121)), none⟩])
 (.seq (.seq (.reg [⟨(.some 122), (.mv (.t 13)), none⟩, ⟨(.some 123), (.una .not (.t 122)), none⟩, ⟨(.some 124), (.mv (.t 123)), none⟩, ⟨(.some 125), (.mv (.t 15)), (.some (124, false))⟩, ⟨(.some 126), (.una .not (.t 125)), (.some (124, false))⟩, ⟨(.some 127), (.pick (.t 124) (.c (.lf (.bool true))) (.t 126)), none⟩, ⟨(.some 128), (.mv (.t 127)), none⟩, ⟨(.some 129), (.mv (.t 14)), (.some (128, false))⟩, ⟨(.some 130), (.len (.t 129)), (.some (128, false))⟩, ⟨(.some 131), (.bin .neq (.t 130) (.c (.lf (.int .i64 80)))), (.some (128, false))⟩, ⟨(.some 132), (.pick (.t 128) (.c (.lf (.bool true))) (.t 131)), none⟩, ⟨(.some 133), (.mv (.t 132)), none⟩, ⟨(.some 134), (.mv (.t 12)), (.some (133, false))⟩, ⟨(.some 135), (.faddr 0 (.t 11)), (.some (133, false))⟩, ⟨(.some 136), (.load false 1 (.t 135)), (.some (133, false))⟩, ⟨(.some 137), (.mv (.t 6)), (.some (133, false))⟩, ⟨(.some 138), (.bin .add (.t 136) (.t 137)), (.some (133, false))⟩, ⟨(.some 139), (.faddr 3 (.t 5)), (.some (133, false))⟩, ⟨(.some 140), (.load false 1 (.t 139)), (.some (133, false))⟩, ⟨(.some 141), (.bin .add (.t 138) (.t 140)), (.some (133, false))⟩, ⟨(.some 142), (.bin .neq (.t 134) (.t 141)), (.some (133, false))⟩, ⟨(.some 143), (.pick (.t 133) (.c (.lf (.bool true))) (.t 142)), none⟩, ⟨(.some 144), (.mv (.t 143)), none⟩, ⟨(.some 145), (.load true 4 (.t 5)), (.some (144, false))⟩, ⟨(.some 146), (.call true 23 [(.t 145)]), (.some (144, false))⟩, ⟨(.some 147), (.una .not (.t 146)), (.some (144, false))⟩, ⟨(.some 148), (.pick (.t 144) (.c (.lf (.bool true))) (.t 147)), none⟩])
 (.cond (.t 148) (.seq (.reg [⟨(.some 4), (.mv (.c (.lf (.bool false)))), none⟩])
 .ret) .skip))
 (.seq (.seq (.reg [⟨(.some 16), (.mv (.c (.lf (.int .i64 0)))), none⟩])
 (.block 2 (.loop (.seq (.seq (.reg [⟨(.some 149), (.mv (.t 16)), none⟩, ⟨(.some 150), (.bin .lss (.t 149) (.c (.lf (.int .i64 80)))), none⟩])
 (.cond (.t 150) .skip (.exit 2)))
 (.seq (.block 3 (.seq (.reg [⟨(.some 153), (.mv (.t 16)), none⟩, ⟨(.some 154), (.faddr 0 (.t 11)), none⟩, ⟨(.some 155), (.load false 1 (.t 154)), none⟩, ⟨(.some 156), (.bin .lss (.t 153) (.t 155)), none⟩, ⟨(.some 157), (.mv (.t 156)), none⟩, ⟨(.some 158), (.mv (.t 16)), (.some (157, false))⟩, ⟨(.some 159), (.mv (.t 12)), (.some (157, false))⟩, ⟨(.some 160), (.bin .geq (.t 158) (.t 159)), (.some (157, false))⟩, ⟨(.some 161), (.pick (.t 157) (.c (.lf (.bool true))) (.t 160)), none⟩, ⟨(.some 162), (.mv (.t 161)), none⟩, ⟨(.some 163), (.mv (.t 14)), (.some (162, true))⟩, ⟨(.some 164), (.mv (.t 16)), (.some (162, true))⟩, ⟨(.some 165), (.iaddr 1 (.t 163) (.t 164)), (.some (162, true))⟩, ⟨(.some 166), (.load false 1 (.t 165)), (.some (162, true))⟩, ⟨(.some 167), (.bin .neq (.t 166) (.c (.lf (.flt .f32 0)))), (.some (162, true))⟩, ⟨(.some 168), (.pick (.t 162) (.t 167) (.c (.lf (.bool false)))), none⟩, ⟨(.some 169), (.mv (.t 168)), none⟩, ⟨(.some 170), (.mv (.t 14)), (.some (169, false))⟩, ⟨(.some 171), (.mv (.t 16)), (.some (169, false))⟩, ⟨(.some 172), (.iaddr 1 (.t 170) (.t 171)), (.some (169, false))⟩, ⟨(.some 173), (.load false 1 (.t 172)), (.some (169, false))⟩, ⟨(.some 174), (.bin .gtr (.t 173) (.c (.lf (.flt .f32 1065353216)))), (.some (169, false))⟩, ⟨(.some 175), (.pick (.t 169) (.c (.lf (.bool true))) (.t 174)), none⟩, ⟨(.some 176), (.mv (.t 175)), none⟩, ⟨(.some 177), (.mv (.t 14)), (.some (176, false))⟩, ⟨(.some 178), (.mv (.t 16)), (.some (176, false))⟩, ⟨(.some 179), (.iaddr 1 (.t 177) (.t 178)), (.some (176, false))⟩, ⟨(.some 180), (.load false 1 (.t 179)), (.some (176, false))⟩, ⟨(.some 181), (.bin .lss (.t 180) (.c (.lf (.flt .f32 3212836864)))), (.some (176, false))⟩, ⟨(.some 182), (.pick (.t 176) (.c (.lf (.bool true))) (.t 181)), none⟩])
 (.cond (.t 182) (.seq (.reg [⟨(.some 4), (.mv (.c (.lf (.bool false)))), none⟩])
 .ret) .skip)))
 (.reg [⟨(.some 151), (.mv (.t 16)), none⟩, ⟨(.some 152), (.bin .add (.t 151) (.c (.lf (.int .i64 1)))), none⟩, ⟨(.some 16), (.mv (.t 152)), none⟩]))))))
 (.seq (.reg [⟨(.some 4), (.mv (.c (.lf (.bool true)))), none⟩])
 .ret)))))))))))), [(.tmp 4)]⟩
class HasLEnvelopes (S : Sys) : Prop extends HasLx S, HasRt S where
  f5 : S.fs 5 = some L5
theorem val_unit {k b u p E : Nat} {a d v r : Nat} (hk : k < 4) (ha : a < 8) (hd : d < 8) (hv : v < 17) (hr : r < 10) (hp : p < 128) (i : Nat) : Unit32 ((rnt k a d (susN v) r b u p 1065353216).val i) := by
  unfold Rnt.val
  split
  · exact (Lvl_of (by decide)).1.unit
  · unfold Rnt.at rnt
    simp only [Int.toNat_natCast]
    have c1 : CF (step32 p) := ⟨(steps_ok p hp).2, can_of_not (by
      have := (steps_ok p hp).1
      unfold phB at this
      rw [Bool.and_eq_true] at this
      cases hn : isNaN .f32 (step32 p)
      · rfl
      · rw [cmp_nan1 hn (by decide)] at this; cases this.1)⟩
    have p1 : Ph (step32 p) := Ph_of c1 (steps_ok p hp).1
    have p0 : Ph 0 := Ph_of CF_nil (by decide +kernel)
    have w := Unit_wave (k := k) (x := phT (step32 p) 0 (i - b)) (by omega) (CF_ph CF_nil) (p1.run p0)
    have l := lev_Lvl (u := u) ha hd hv hr (i - b)
    exact ((w.sb.mul_unit l.1).mul_unit (Lvl_of (by decide)).1).unit
set_option maxRecDepth 20000 in
set_option maxHeartbeats 16000000 in
theorem lawEnvelopes {S : Sys} [HasLEnvelopes S] : LawHolds S 5 [(false, .sl 1 (.int .u8)), (false, .sl 1 (.int .u8))] := by
  intro h cs hcs
  obtain ⟨c0, _, rfl, ⟨ls0, rfl, l, rows, rfl, hA, hrows⟩, c1, _, rfl, ⟨ls1, rfl, l2, rows2, rfl, hB, hrows2⟩, rfl⟩ := hcs
  obtain ⟨xs, rfl, hx⟩ := rows_map fun r hr => ul_of (hrows r hr)
  obtain ⟨ys, rfl, hy⟩ := rows_map fun r hr => ul_of (hrows2 r hr)
  clear hrows hrows2
  refine law_of (F := L5) HasLEnvelopes.f5 rfl ?_
  have hlong := fun lim K => c_b10Long (S := S) (lim := lim) (K := K) hA hB
  generalize (decide (1048576 < (xs.length : Int)) || decide (1048576 < (ys.length : Int))) = long at *
  obtain ⟨k, hk4, hk⟩ := c_b10At (S := S) (k := 0) (n := 4) hA hx (by decide) (by decide) (by decide)
  obtain ⟨u, hu30, hu⟩ := c_b10At (S := S) (k := 0) (n := 30) hB hy (by decide) (by decide) (by decide)
  obtain ⟨st, hst20, hst⟩ := c_b10At (S := S) (k := 1) (n := 20) hB hy (by decide) (by decide) (by decide)
  obtain ⟨p, hp128, hp⟩ := c_b10At (S := S) (k := 2) (n := 128) hB hy (by decide) (by decide) (by decide)
  replace hk : ∀ g, Kept h g → ∀ lim K, CallT S true 9 [.lf l, .lf (.int .i64 0), .lf (.int .i64 4)] g lim K = K (.lf (.int .i64 k)) g := hk
  replace hu : ∀ g, Kept h g → ∀ lim K, CallT S true 9 [.lf l2, .lf (.int .i64 0), .lf (.int .i64 30)] g lim K = K (.lf (.int .i64 u)) g := hu
  replace hst : ∀ g, Kept h g → ∀ lim K, CallT S true 9 [.lf l2, .lf (.int .i64 1), .lf (.int .i64 20)] g lim K = K (.lf (.int .i64 st)) g := hst
  replace hp : ∀ g, Kept h g → ∀ lim K, CallT S true 9 [.lf l2, .lf (.int .i64 2), .lf (.int .i64 128)] g lim K = K (.lf (.int .i64 p)) g := hp
  have henv := fun K hK => c_B10EnvelopeN (S := S) (lim := h.length) (K := K) hA hx (Nat.le_refl _) hK
  cases long
  rotate_left
  · unfold L5
    dsimp only []
    repeat' (first | (simp (disch := first | omega | assumption | (simp only [List.length_set]; omega) | (simp [*] <;> fail) | assumption) [-Bool.decide_and, -Bool.decide_or, -Bool.not_and, -Bool.not_or, toNat_pred, toNat_succ, wrap64, wr_new, wr_new0, ok_if, ok_ifn, iadV_sl, makeV_int, decT, decF, over_at, *]) | (with_reducible refine Gd_split (fun hc => ?_) (fun hc => ?_) <;> (have hc2 := hc; try simp at hc2)) | (with_reducible refine Br_split (fun hc => ?_) (fun hc => ?_) <;> (have hc2 := hc; try simp at hc2)) | (with_reducible refine GdT_split (fun hc => ?_) (fun hc => ?_) <;> (have hc2 := hc; try simp at hc2)) | (with_reducible refine WT_alt ?_ ?_) | omega)
  unfold L5
  dsimp only []
  repeat' (first | (simp (disch := first | omega | assumption | (simp only [List.length_set]; omega) | (simp [*] <;> fail) | assumption) [-Bool.decide_and, -Bool.decide_or, -Bool.not_and, -Bool.not_or, toNat_pred, toNat_succ, wrap64, wr_new, wr_new0, ok_if, ok_ifn, iadV_sl, makeV_int, decT, decF, over_at, *]) | (with_reducible refine Gd_split (fun hc => ?_) (fun hc => ?_) <;> (have hc2 := hc; try simp at hc2)) | (with_reducible refine Br_split (fun hc => ?_) (fun hc => ?_) <;> (have hc2 := hc; try simp at hc2)) | (with_reducible refine GdT_split (fun hc => ?_) (fun hc => ?_) <;> (have hc2 := hc; try simp at hc2)) | (with_reducible refine WT_alt ?_ ?_) | omega)
  refine henv _ fun a d v r ha hd hv hr t => ?_
  have kb : Kept h (h ++ (t ++ [⟨[.int .i64 a, .int .i64 d, .flt .f32 (susN v), .int .i64 r], .own 26 1⟩])) := Kept.app h _
  have be : rdCells (h ++ (t ++ [⟨[.int .i64 a, .int .i64 d, .flt .f32 (susN v), .int .i64 r], .own 26 1⟩])) (h.length + t.length) 0 4 = some [.int .i64 a, .int .i64 d, .flt .f32 (susN v), .int .i64 r] := by
    simp [rdCells, Ob.live]
  clear henv hlong
  repeat' (first | (simp (disch := first | omega | assumption | (simp only [List.length_set]; omega) | (simp [*] <;> fail) | assumption) [-Bool.decide_and, -Bool.decide_or, -Bool.not_and, -Bool.not_or, toNat_pred, toNat_succ, wrap64, wr_new, wr_new0, ok_if, ok_ifn, iadV_sl, makeV_int, decT, decF, over_at, *]) | (with_reducible refine Gd_split (fun hc => ?_) (fun hc => ?_) <;> (have hc2 := hc; try simp at hc2)) | (with_reducible refine Br_split (fun hc => ?_) (fun hc => ?_) <;> (have hc2 := hc; try simp at hc2)) | (with_reducible refine GdT_split (fun hc => ?_) (fun hc => ?_) <;> (have hc2 := hc; try simp at hc2)) | (with_reducible refine WT_alt ?_ ?_) | omega)
  have hl0 := kb.1
  generalize (h ++ (t ++ [⟨[.int .i64 a, .int .i64 d, .flt .f32 (susN v), .int .i64 r], .own 26 1⟩]) : Hp) = G at *
  generalize h.length + t.length = IE at *
  have hu1 := hu G kb
  have hst1 := hst G kb
  have hp1 := hp G kb
  have hk1 := fun t => hk (G ++ t) (kb.trans (Kept.app _ _))
  have be0 := rd_sub be (j := 0) (m := 1) (by omega)
  have be3 := rd_sub be (j := 3) (m := 1) (by omega)
  simp only [List.drop_succ_cons, List.drop_zero, List.take_succ_cons, List.take_zero] at be0 be3
  clear hu hst hp hk
  have hheld : held3 a d r = true := by unfold held3; simp only [decide_eq_true_eq]; omega
  have hnoted : noted st u p = true := by unfold noted; simp only [decide_eq_true_eq]; omega
  have hlv := fun i hi g lim K => c_LevelAt (S := S) (h := g) (lim := lim) (K := K) (n := ((i : Nat) : Int)) (s := susN v) hheld (u := (u : Int)) (by omega) hi
  repeat' (first | (simp (disch := first | omega | assumption | (simp only [List.length_set]; omega) | (simp [*] <;> fail) | assumption) [-Bool.decide_and, -Bool.decide_or, -Bool.not_and, -Bool.not_or, toNat_pred, toNat_succ, wrap64, wr_new, wr_new0, ok_if, ok_ifn, iadV_sl, makeV_int, decT, decF, over_at, *]) | (with_reducible refine Gd_split (fun hc => ?_) (fun hc => ?_) <;> (have hc2 := hc; try simp at hc2)) | (with_reducible refine Br_split (fun hc => ?_) (fun hc => ?_) <;> (have hc2 := hc; try simp at hc2)) | (with_reducible refine GdT_split (fun hc => ?_) (fun hc => ?_) <;> (have hc2 := hc; try simp at hc2)) | (with_reducible refine WT_alt ?_ ?_) | omega)
  refine WL_forM 5070602400912917605986796046224 (by decide +kernel) (60) (fun i b g => i ≤ 60 ∧ b 8 = .lf (.int .i64 i) ∧ b 7 = .lf (.flt .f32 (if i = 0 then 0 else levF a d (susN v) r u ((i - 1 : Nat) : Int))) ∧ G = g) (fun _ _ _ hi => hi.1) ⟨by omega, by simp, by simp, rfl⟩ ?_
  · rintro i b g ⟨hi, e8, e7, rfl⟩
    by_cases hlt : i < 60
    · obtain ⟨w1, w2⟩ := lev_Lvl (u := u) ha hd hv hr i
      obtain ⟨_, w3, w4, w5⟩ := (lev_Lvl (u := u) ha hd hv hr i).nums
      have z0 : isNaN .f32 0 = false := by decide +kernel
      have v0 : V 0 = 0 := by decide +kernel
      have f1 : fcmp .geq .f32 (levF a d (susN v) r u i) 0 = true := by rw [geq32 w5 z0, v0]; exact decide_eq_true w3
      have f2 : fcmp .gtr .f32 (levF a d (susN v) r u i) 1065353216 = false := w1.unit.le.1
      have hl := hlv i (by omega)
      obtain ⟨bf, hbf⟩ : ∃ bf, (if i = 0 then 0 else levF a d (susN v) r u ((i - 1 : Nat) : Int)) = bf := ⟨_, rfl⟩
      rw [hbf] at e7
      have f3 : (i : Int) < u → (i : Int) < a → 0 < (i : Int) → fcmp .lss .f32 (levF a d (susN v) r u i) bf = false := by
        intro h1 h2 h3
        rw [if_neg (by omega)] at hbf
        rw [← hbf, lss32 w5 (lev_Lvl (u := u) ha hd hv hr (i - 1)).nums.2.2.2]
        have := lev_rise (r := r) ha hd hv (u := u) (n := i) (by omega) (by omega) (by omega)
        exact decide_eq_false (by omega)
      have f4 : (u : Int) < i ∨ (a : Int) < i → fcmp .gtr .f32 (levF a d (susN v) r u i) bf = false := by
        intro h1
        rw [if_neg (by omega)] at hbf
        rw [← hbf, gtr32 w5 (lev_Lvl (u := u) ha hd hv hr (i - 1)).nums.2.2.2]
        have := lev_fall (r := r) ha hd hv hr (u := u) (n := i) (by omega) (by omega)
        exact decide_eq_false (by omega)
      have f5 : (u : Int) + r ≤ i → fcmp .neq .f32 (levF a d (susN v) r u i) 0 = false := by
        intro h1
        rw [lev_end (by omega)]
        decide +kernel
      have hnext : (if i + 1 = 0 then 0 else levF a d (susN v) r u ((i + 1 - 1 : Nat) : Int)) = levF a d (susN v) r u i := by rw [if_neg (by omega), Nat.add_sub_cancel]
      clear w1 w2 w3 w4 w5 z0 v0 hlv hk1 hst1 hp1
      obtain ⟨y, hyy⟩ : ∃ y, Hid (levF a d (susN v) r u i = y) := ⟨_, rfl⟩
      have hyy2 : levF a d (susN v) r u i = y := hyy
      rw [hyy2] at f1 f2 f3 f4 f5 hl hnext
      have hnx : Hid ((if i + 1 = 0 then 0 else levF a d (susN v) r u ((i + 1 - 1 : Nat) : Int)) = y) := hnext
      clear hyy2 hbf hnext
      by_cases c1 : (i : Int) < u
      · have c4 : ¬ (u : Int) < i := by omega
        have c6 : ¬ (u : Int) + r ≤ i := by omega
        by_cases c2 : (i : Int) < a
        · have c5 : ¬ (a : Int) < i := by omega
          by_cases c3 : 0 < (i : Int)
          · have f3 := f3 c1 c2 c3
            clear f4 f5
            repeat' (first | (simp (disch := first | omega | assumption | (simp only [List.length_set]; omega) | (simp [*] <;> fail) | assumption) [-Bool.decide_and, -Bool.decide_or, -Bool.not_and, -Bool.not_or, toNat_pred, toNat_succ, wrap64, wr_new, wr_new0, ok_if, ok_ifn, iadV_sl, makeV_int, decT, decF, over_at, *]) | (with_reducible refine Gd_split (fun hc => ?_) (fun hc => ?_) <;> (have hc2 := hc; try simp at hc2)) | (with_reducible refine Br_split (fun hc => ?_) (fun hc => ?_) <;> (have hc2 := hc; try simp at hc2)) | (with_reducible refine GdT_split (fun hc => ?_) (fun hc => ?_) <;> (have hc2 := hc; try simp at hc2)) | (with_reducible refine WT_alt ?_ ?_) | omega)
            exact ⟨by omega, (show _ = y from hnx).symm⟩
          · clear f3 f4 f5
            repeat' (first | (simp (disch := first | omega | assumption | (simp only [List.length_set]; omega) | (simp [*] <;> fail) | assumption) [-Bool.decide_and, -Bool.decide_or, -Bool.not_and, -Bool.not_or, toNat_pred, toNat_succ, wrap64, wr_new, wr_new0, ok_if, ok_ifn, iadV_sl, makeV_int, decT, decF, over_at, *]) | (with_reducible refine Gd_split (fun hc => ?_) (fun hc => ?_) <;> (have hc2 := hc; try simp at hc2)) | (with_reducible refine Br_split (fun hc => ?_) (fun hc => ?_) <;> (have hc2 := hc; try simp at hc2)) | (with_reducible refine GdT_split (fun hc => ?_) (fun hc => ?_) <;> (have hc2 := hc; try simp at hc2)) | (with_reducible refine WT_alt ?_ ?_) | omega)
            obtain rfl : i = 0 := by omega
            exact ⟨by omega, (show levF a d (susN v) r u ((0 : Nat) : Int) = y from hyy).symm⟩
        · by_cases c5 : (a : Int) < i
          · have f4 := f4 (.inr c5)
            have c3 : 0 < (i : Int) := by omega
            clear f3 f5
            repeat' (first | (simp (disch := first | omega | assumption | (simp only [List.length_set]; omega) | (simp [*] <;> fail) | assumption) [-Bool.decide_and, -Bool.decide_or, -Bool.not_and, -Bool.not_or, toNat_pred, toNat_succ, wrap64, wr_new, wr_new0, ok_if, ok_ifn, iadV_sl, makeV_int, decT, decF, over_at, *]) | (with_reducible refine Gd_split (fun hc => ?_) (fun hc => ?_) <;> (have hc2 := hc; try simp at hc2)) | (with_reducible refine Br_split (fun hc => ?_) (fun hc => ?_) <;> (have hc2 := hc; try simp at hc2)) | (with_reducible refine GdT_split (fun hc => ?_) (fun hc => ?_) <;> (have hc2 := hc; try simp at hc2)) | (with_reducible refine WT_alt ?_ ?_) | omega)
            exact ⟨by omega, (show _ = y from hnx).symm⟩
          · clear f3 f4 f5
            repeat' (first | (simp (disch := first | omega | assumption | (simp only [List.length_set]; omega) | (simp [*] <;> fail) | assumption) [-Bool.decide_and, -Bool.decide_or, -Bool.not_and, -Bool.not_or, toNat_pred, toNat_succ, wrap64, wr_new, wr_new0, ok_if, ok_ifn, iadV_sl, makeV_int, decT, decF, over_at, *]) | (with_reducible refine Gd_split (fun hc => ?_) (fun hc => ?_) <;> (have hc2 := hc; try simp at hc2)) | (with_reducible refine Br_split (fun hc => ?_) (fun hc => ?_) <;> (have hc2 := hc; try simp at hc2)) | (with_reducible refine GdT_split (fun hc => ?_) (fun hc => ?_) <;> (have hc2 := hc; try simp at hc2)) | (with_reducible refine WT_alt ?_ ?_) | omega)
            exact ⟨by omega, (show _ = y from hnx).symm⟩
      · by_cases c4 : (u : Int) < i
        · have f4 := f4 (.inl c4)
          have c3 : 0 < (i : Int) := by omega
          by_cases c5 : (a : Int) < i
          · by_cases c6 : (u : Int) + r ≤ i
            · have f5 := f5 c6
              clear f3
              repeat' (first | (simp (disch := first | omega | assumption | (simp only [List.length_set]; omega) | (simp [*] <;> fail) | assumption) [-Bool.decide_and, -Bool.decide_or, -Bool.not_and, -Bool.not_or, toNat_pred, toNat_succ, wrap64, wr_new, wr_new0, ok_if, ok_ifn, iadV_sl, makeV_int, decT, decF, over_at, *]) | (with_reducible refine Gd_split (fun hc => ?_) (fun hc => ?_) <;> (have hc2 := hc; try simp at hc2)) | (with_reducible refine Br_split (fun hc => ?_) (fun hc => ?_) <;> (have hc2 := hc; try simp at hc2)) | (with_reducible refine GdT_split (fun hc => ?_) (fun hc => ?_) <;> (have hc2 := hc; try simp at hc2)) | (with_reducible refine WT_alt ?_ ?_) | omega)
              exact ⟨by omega, (show _ = y from hnx).symm⟩
            · clear f3 f5
              repeat' (first | (simp (disch := first | omega | assumption | (simp only [List.length_set]; omega) | (simp [*] <;> fail) | assumption) [-Bool.decide_and, -Bool.decide_or, -Bool.not_and, -Bool.not_or, toNat_pred, toNat_succ, wrap64, wr_new, wr_new0, ok_if, ok_ifn, iadV_sl, makeV_int, decT, decF, over_at, *]) | (with_reducible refine Gd_split (fun hc => ?_) (fun hc => ?_) <;> (have hc2 := hc; try simp at hc2)) | (with_reducible refine Br_split (fun hc => ?_) (fun hc => ?_) <;> (have hc2 := hc; try simp at hc2)) | (with_reducible refine GdT_split (fun hc => ?_) (fun hc => ?_) <;> (have hc2 := hc; try simp at hc2)) | (with_reducible refine WT_alt ?_ ?_) | omega)
              exact ⟨by omega, (show _ = y from hnx).symm⟩
          · by_cases c6 : (u : Int) + r ≤ i
            · have f5 := f5 c6
              clear f3
              repeat' (first | (simp (disch := first | omega | assumption | (simp only [List.length_set]; omega) | (simp [*] <;> fail) | assumption) [-Bool.decide_and, -Bool.decide_or, -Bool.not_and, -Bool.not_or, toNat_pred, toNat_succ, wrap64, wr_new, wr_new0, ok_if, ok_ifn, iadV_sl, makeV_int, decT, decF, over_at, *]) | (with_reducible refine Gd_split (fun hc => ?_) (fun hc => ?_) <;> (have hc2 := hc; try simp at hc2)) | (with_reducible refine Br_split (fun hc => ?_) (fun hc => ?_) <;> (have hc2 := hc; try simp at hc2)) | (with_reducible refine GdT_split (fun hc => ?_) (fun hc => ?_) <;> (have hc2 := hc; try simp at hc2)) | (with_reducible refine WT_alt ?_ ?_) | omega)
              exact ⟨by omega, (show _ = y from hnx).symm⟩
            · clear f3 f5
              repeat' (first | (simp (disch := first | omega | assumption | (simp only [List.length_set]; omega) | (simp [*] <;> fail) | assumption) [-Bool.decide_and, -Bool.decide_or, -Bool.not_and, -Bool.not_or, toNat_pred, toNat_succ, wrap64, wr_new, wr_new0, ok_if, ok_ifn, iadV_sl, makeV_int, decT, decF, over_at, *]) | (with_reducible refine Gd_split (fun hc => ?_) (fun hc => ?_) <;> (have hc2 := hc; try simp at hc2)) | (with_reducible refine Br_split (fun hc => ?_) (fun hc => ?_) <;> (have hc2 := hc; try simp at hc2)) | (with_reducible refine GdT_split (fun hc => ?_) (fun hc => ?_) <;> (have hc2 := hc; try simp at hc2)) | (with_reducible refine WT_alt ?_ ?_) | omega)
              exact ⟨by omega, (show _ = y from hnx).symm⟩
        · by_cases c5 : (a : Int) < i
          · have f4 := f4 (.inr c5)
            have c3 : 0 < (i : Int) := by omega
            by_cases c6 : (u : Int) + r ≤ i
            · have f5 := f5 c6
              clear f3
              repeat' (first | (simp (disch := first | omega | assumption | (simp only [List.length_set]; omega) | (simp [*] <;> fail) | assumption) [-Bool.decide_and, -Bool.decide_or, -Bool.not_and, -Bool.not_or, toNat_pred, toNat_succ, wrap64, wr_new, wr_new0, ok_if, ok_ifn, iadV_sl, makeV_int, decT, decF, over_at, *]) | (with_reducible refine Gd_split (fun hc => ?_) (fun hc => ?_) <;> (have hc2 := hc; try simp at hc2)) | (with_reducible refine Br_split (fun hc => ?_) (fun hc => ?_) <;> (have hc2 := hc; try simp at hc2)) | (with_reducible refine GdT_split (fun hc => ?_) (fun hc => ?_) <;> (have hc2 := hc; try simp at hc2)) | (with_reducible refine WT_alt ?_ ?_) | omega)
              exact ⟨by omega, (show _ = y from hnx).symm⟩
            · clear f3 f5
              repeat' (first | (simp (disch := first | omega | assumption | (simp only [List.length_set]; omega) | (simp [*] <;> fail) | assumption) [-Bool.decide_and, -Bool.decide_or, -Bool.not_and, -Bool.not_or, toNat_pred, toNat_succ, wrap64, wr_new, wr_new0, ok_if, ok_ifn, iadV_sl, makeV_int, decT, decF, over_at, *]) | (with_reducible refine Gd_split (fun hc => ?_) (fun hc => ?_) <;> (have hc2 := hc; try simp at hc2)) | (with_reducible refine Br_split (fun hc => ?_) (fun hc => ?_) <;> (have hc2 := hc; try simp at hc2)) | (with_reducible refine GdT_split (fun hc => ?_) (fun hc => ?_) <;> (have hc2 := hc; try simp at hc2)) | (with_reducible refine WT_alt ?_ ?_) | omega)
              exact ⟨by omega, (show _ = y from hnx).symm⟩
          · by_cases c6 : (u : Int) + r ≤ i
            · have f5 := f5 c6
              clear f3 f4
              repeat' (first | (simp (disch := first | omega | assumption | (simp only [List.length_set]; omega) | (simp [*] <;> fail) | assumption) [-Bool.decide_and, -Bool.decide_or, -Bool.not_and, -Bool.not_or, toNat_pred, toNat_succ, wrap64, wr_new, wr_new0, ok_if, ok_ifn, iadV_sl, makeV_int, decT, decF, over_at, *]) | (with_reducible refine Gd_split (fun hc => ?_) (fun hc => ?_) <;> (have hc2 := hc; try simp at hc2)) | (with_reducible refine Br_split (fun hc => ?_) (fun hc => ?_) <;> (have hc2 := hc; try simp at hc2)) | (with_reducible refine GdT_split (fun hc => ?_) (fun hc => ?_) <;> (have hc2 := hc; try simp at hc2)) | (with_reducible refine WT_alt ?_ ?_) | omega)
              exact ⟨by omega, (show _ = y from hnx).symm⟩
            · clear f3 f4 f5
              repeat' (first | (simp (disch := first | omega | assumption | (simp only [List.length_set]; omega) | (simp [*] <;> fail) | assumption) [-Bool.decide_and, -Bool.decide_or, -Bool.not_and, -Bool.not_or, toNat_pred, toNat_succ, wrap64, wr_new, wr_new0, ok_if, ok_ifn, iadV_sl, makeV_int, decT, decF, over_at, *]) | (with_reducible refine Gd_split (fun hc => ?_) (fun hc => ?_) <;> (have hc2 := hc; try simp at hc2)) | (with_reducible refine Br_split (fun hc => ?_) (fun hc => ?_) <;> (have hc2 := hc; try simp at hc2)) | (with_reducible refine GdT_split (fun hc => ?_) (fun hc => ?_) <;> (have hc2 := hc; try simp at hc2)) | (with_reducible refine WT_alt ?_ ?_) | omega)
              exact ⟨by omega, (show _ = y from hnx).symm⟩
    · have : i = 60 := by omega
      subst this
      clear e7 hlv
      have hun := val_unit (b := st) (u := u) (E := 0) hk4 ha hd hv hr hp128
      have okR : okRt k a d r st u p 80 := ⟨by omega, hheld, hnoted, by omega, by omega⟩
      have hrn : ∀ {g : Hp} {K : CV → Hp → Prop}, h.length ≤ g.length → (∀ o g', New g g' o 24 1 ((tabTo (rnt k a d (susN v) r st u p 1065353216).val 80).map fl) → K (.tup [.lf o, .lf (.bool true)]) g') → CallT S false 13 [.lf (.int .i64 k), .agg [.int .i64 a, .int .i64 d, .flt .f32 (susN v), .int .i64 r], .agg [.int .i64 st, .int .i64 u, .int .i64 p, .flt .f32 1065353216], .lf (.int .i64 80)] g h.length K := by
        intro g K hl hK
        refine c_implRenderNote hl fun o g' hO => ?_
        rw [decide_eq_true okR]
        unfold rtR at hO
        rw [if_pos okR] at hO
        exact hK o g' hO
      have heo : endOfNote a d r st u p = [.lf (.int .i64 (st + u + r)), .lf (.bool true)] := by unfold endOfNote; rw [if_pos ⟨hheld, hnoted⟩]
      have hval0 : ∀ i : Nat, (i < st ∨ st + u + r ≤ i) → (rnt k a d (susN v) r st u p 1065353216).val i = 0 := by
        intro i hi
        unfold Rnt.val
        rw [if_pos]
        show i < (rnt k a d (susN v) r st u p 1065353216).b ∨ (rnt k a d (susN v) r st u p 1065353216).E ≤ i
        have e1 : (rnt k a d (susN v) r st u p 1065353216).b = st := rfl
        have e2 : (rnt k a d (susN v) r st u p 1065353216).E = st + u + r := by
          show ((st : Int) + (u : Int) + (r : Int)).toNat = _
          omega
        rw [e1, e2]; exact hi
      have hev := fun g lim K => c_ValidEnvelope (S := S) (h := g) (lim := lim) (K := K) (a := a) (d := d) (s := susN v) (r := r)
      rw [hheld] at hev
      have bt := fun t => rd_app' (t := t) be
      have bt3 := fun t => rd_app' (t := t) be3
      have hL : ∀ i : Nat, Unit32 ((rnt k a d (susN v) r st u p 1065353216).val i) := hun
      obtain ⟨y, hyv⟩ : ∃ y, (rnt k a d (susN v) r st u p 1065353216).val = y := ⟨_, rfl⟩
      rw [hyv] at hrn hval0 hL
      clear hun hyv
      repeat' (first | (simp (disch := first | omega | assumption | (simp only [List.length_set]; omega) | (simp [*] <;> fail) | assumption) [-Bool.decide_and, -Bool.decide_or, -Bool.not_and, -Bool.not_or, toNat_pred, toNat_succ, wrap64, wr_new, wr_new0, ok_if, ok_ifn, iadV_sl, makeV_int, decT, decF, over_at, *, leavesAll, fillL]) | (with_reducible refine Gd_split (fun hc => ?_) (fun hc => ?_) <;> (have hc2 := hc; try simp at hc2)) | (with_reducible refine Br_split (fun hc => ?_) (fun hc => ?_) <;> (have hc2 := hc; try simp at hc2)) | (with_reducible refine GdT_split (fun hc => ?_) (fun hc => ?_) <;> (have hc2 := hc; try simp at hc2)) | (with_reducible refine WT_alt ?_ ?_) | omega)
      refine hrn (by simp; omega) fun o g2 hO => ?_
      have k2 := hO.kept
      have r11 : rdCells g2 G.length 0 1 = some [.int .i64 st] := k2.rd (by simp [rdCells, Ob.live])
      have kg := (Kept.app G [⟨[.int .i64 st, .int .i64 u, .int .i64 p, .flt .f32 1065353216], .own 40 1⟩]).trans k2
      have be2 := kg.rd be
      have be32 := kg.rd be3
      have hlen := hO.arr.len
      rw [tabTo_len] at hlen
      clear bt bt3 hrn hk1 hst1 hp1 k2 kg
      repeat' (first | (simp (disch := first | omega | assumption | (simp only [List.length_set]; omega) | (simp [*] <;> fail) | assumption) [-Bool.decide_and, -Bool.decide_or, -Bool.not_and, -Bool.not_or, toNat_pred, toNat_succ, wrap64, wr_new, wr_new0, ok_if, ok_ifn, iadV_sl, makeV_int, decT, decF, over_at, *]) | (with_reducible refine Gd_split (fun hc => ?_) (fun hc => ?_) <;> (have hc2 := hc; try simp at hc2)) | (with_reducible refine Br_split (fun hc => ?_) (fun hc => ?_) <;> (have hc2 := hc; try simp at hc2)) | (with_reducible refine GdT_split (fun hc => ?_) (fun hc => ?_) <;> (have hc2 := hc; try simp at hc2)) | (with_reducible refine WT_alt ?_ ?_) | omega)
      clear be2 be32 be be0 be3 hlen hu1 hev heo
      have hAr := hO.arr
      clear hO
      refine WL_forM 12259964326213487020513796276673330484225165409277509648 (by decide +kernel) (80) (fun i b g' => i ≤ 80 ∧ b 16 = .lf (.int .i64 i) ∧ g2 = g') (fun _ _ _ hi => hi.1) ⟨by omega, by simp, rfl⟩ ?_
      rintro i b g' ⟨hi, e16, rfl⟩
      by_cases hlt : i < 80
      · have hil : i < (tabTo y 80).length := by rw [tabTo_len]; exact hlt
        have aO := hAr.at_ (k := .i64) hil
        have dO := hAr.rd1 hil
        have e : (tabTo y 80)[i] = y i := by simp [tabTo]
        rw [e] at dO
        obtain ⟨u1, u2⟩ := (hL i).le
        have hv0 := hval0 i
        clear hL hval0 e
        generalize y i = z at *
        by_cases c1 : (i : Int) < st
        · have hz := hv0 (.inl (by omega))
          have n0 : fcmp .neq .f32 z 0 = false := by rw [hz]; decide +kernel
          clear hv0 hz
          repeat' (first | (simp (disch := first | omega | assumption | (simp only [List.length_set]; omega) | (simp [*] <;> fail) | assumption) [-Bool.decide_and, -Bool.decide_or, -Bool.not_and, -Bool.not_or, toNat_pred, toNat_succ, wrap64, wr_new, wr_new0, ok_if, ok_ifn, iadV_sl, makeV_int, decT, decF, over_at, *, fl]) | (with_reducible refine Gd_split (fun hc => ?_) (fun hc => ?_) <;> (have hc2 := hc; try simp at hc2)) | (with_reducible refine Br_split (fun hc => ?_) (fun hc => ?_) <;> (have hc2 := hc; try simp at hc2)) | (with_reducible refine GdT_split (fun hc => ?_) (fun hc => ?_) <;> (have hc2 := hc; try simp at hc2)) | (with_reducible refine WT_alt ?_ ?_) | omega)
        · by_cases c2 : (st : Int) + u + r ≤ i
          · have hz := hv0 (.inr (by omega))
            have n0 : fcmp .neq .f32 z 0 = false := by rw [hz]; decide +kernel
            clear hv0 hz
            repeat' (first | (simp (disch := first | omega | assumption | (simp only [List.length_set]; omega) | (simp [*] <;> fail) | assumption) [-Bool.decide_and, -Bool.decide_or, -Bool.not_and, -Bool.not_or, toNat_pred, toNat_succ, wrap64, wr_new, wr_new0, ok_if, ok_ifn, iadV_sl, makeV_int, decT, decF, over_at, *, fl]) | (with_reducible refine Gd_split (fun hc => ?_) (fun hc => ?_) <;> (have hc2 := hc; try simp at hc2)) | (with_reducible refine Br_split (fun hc => ?_) (fun hc => ?_) <;> (have hc2 := hc; try simp at hc2)) | (with_reducible refine GdT_split (fun hc => ?_) (fun hc => ?_) <;> (have hc2 := hc; try simp at hc2)) | (with_reducible refine WT_alt ?_ ?_) | omega)
          · clear hv0
            repeat' (first | (simp (disch := first | omega | assumption | (simp only [List.length_set]; omega) | (simp [*] <;> fail) | assumption) [-Bool.decide_and, -Bool.decide_or, -Bool.not_and, -Bool.not_or, toNat_pred, toNat_succ, wrap64, wr_new, wr_new0, ok_if, ok_ifn, iadV_sl, makeV_int, decT, decF, over_at, *, fl]) | (with_reducible refine Gd_split (fun hc => ?_) (fun hc => ?_) <;> (have hc2 := hc; try simp at hc2)) | (with_reducible refine Br_split (fun hc => ?_) (fun hc => ?_) <;> (have hc2 := hc; try simp at hc2)) | (with_reducible refine GdT_split (fun hc => ?_) (fun hc => ?_) <;> (have hc2 := hc; try simp at hc2)) | (with_reducible refine WT_alt ?_ ?_) | omega)
      · have : i = 80 := by omega
        subst this
        repeat' (first | (simp (disch := first | omega | assumption | (simp only [List.length_set]; omega) | (simp [*] <;> fail) | assumption) [-Bool.decide_and, -Bool.decide_or, -Bool.not_and, -Bool.not_or, toNat_pred, toNat_succ, wrap64, wr_new, wr_new0, ok_if, ok_ifn, iadV_sl, makeV_int, decT, decF, over_at, *]) | (with_reducible refine Gd_split (fun hc => ?_) (fun hc => ?_) <;> (have hc2 := hc; try simp at hc2)) | (with_reducible refine Br_split (fun hc => ?_) (fun hc => ?_) <;> (have hc2 := hc; try simp at hc2)) | (with_reducible refine GdT_split (fun hc => ?_) (fun hc => ?_) <;> (have hc2 := hc; try simp at hc2)) | (with_reducible refine WT_alt ?_ ?_) | omega)
end Go.E
namespace Go.E.Envelopes
open Go Go.E
def pure : FuncId → Bool := fun f => List.elem f [3, 4, 5, 6, 9, 12, 14, 15, 17, 18, 19, 20, 21, 22, 23, 27, 29, 30, 33, 34, 36, 37, 38, 39, 40, 41, 42, 43, 45, 46, 47, 48, 49, 50, 51, 52, 53, 54, 55, 56, 57, 58, 59, 60, 61, 62, 63, 64, 65, 66, 68, 70, 72, 79, 81]
def funs : List (Nat × LFn) := [(6, L6), (9, L9), (24, L24), (25, L25), (44, L44), (45, L45), (14, L14), (23, L23), (33, L33), (34, L34), (39, L39), (43, L43), (42, L42), (50, L50), (51, L51), (41, L41), (7, L7), (22, L22), (48, L48), (57, L57), (47, L47), (53, L53), (54, L54), (55, L55), (56, L56), (60, L60), (62, L62), (46, L46), (29, L29), (36, L36), (38, L38), (16, L16), (17, L17), (30, L30), (35, L35), (49, L49), (40, L40), (31, L31), (32, L32), (13, L13), (5, L5)]
def Sy : Sys := sysOf funs
theorem lfn6 : lFn Go.Proofs.Try.prog pure Go.Proofs.Try.f6 = some L6 := by kernel_rfl
theorem lfn9 : lFn Go.Proofs.Try.prog pure Go.Proofs.Try.f9 = some L9 := by kernel_rfl
theorem lfn24 : lFn Go.Proofs.Try.prog pure Go.Proofs.Try.f24 = some L24 := by kernel_rfl
theorem lfn25 : lFn Go.Proofs.Try.prog pure Go.Proofs.Try.f25 = some L25 := by kernel_rfl
theorem lfn44 : lFn Go.Proofs.Try.prog pure Go.Proofs.Try.f44 = some L44 := by kernel_rfl
theorem lfn45 : lFn Go.Proofs.Try.prog pure Go.Proofs.Try.f45 = some L45 := by kernel_rfl
theorem lfn14 : lFn Go.Proofs.Try.prog pure Go.Proofs.Try.f14 = some L14 := by kernel_rfl
theorem lfn23 : lFn Go.Proofs.Try.prog pure Go.Proofs.Try.f23 = some L23 := by kernel_rfl
theorem lfn33 : lFn Go.Proofs.Try.prog pure Go.Proofs.Try.f33 = some L33 := by kernel_rfl
theorem lfn34 : lFn Go.Proofs.Try.prog pure Go.Proofs.Try.f34 = some L34 := by kernel_rfl
theorem lfn39 : lFn Go.Proofs.Try.prog pure Go.Proofs.Try.f39 = some L39 := by kernel_rfl
theorem lfn43 : lFn Go.Proofs.Try.prog pure Go.Proofs.Try.f43 = some L43 := by kernel_rfl
theorem lfn42 : lFn Go.Proofs.Try.prog pure Go.Proofs.Try.f42 = some L42 := by kernel_rfl
theorem lfn50 : lFn Go.Proofs.Try.prog pure Go.Proofs.Try.f50 = some L50 := by kernel_rfl
theorem lfn51 : lFn Go.Proofs.Try.prog pure Go.Proofs.Try.f51 = some L51 := by kernel_rfl
theorem lfn41 : lFn Go.Proofs.Try.prog pure Go.Proofs.Try.f41 = some L41 := by kernel_rfl
theorem lfn7 : lFn Go.Proofs.Try.prog pure Go.Proofs.Try.f7 = some L7 := by kernel_rfl
theorem lfn22 : lFn Go.Proofs.Try.prog pure Go.Proofs.Try.f22 = some L22 := by kernel_rfl
theorem lfn48 : lFn Go.Proofs.Try.prog pure Go.Proofs.Try.f48 = some L48 := by kernel_rfl
theorem lfn57 : lFn Go.Proofs.Try.prog pure Go.Proofs.Try.f57 = some L57 := by kernel_rfl
theorem lfn47 : lFn Go.Proofs.Try.prog pure Go.Proofs.Try.f47 = some L47 := by kernel_rfl
theorem lfn53 : lFn Go.Proofs.Try.prog pure Go.Proofs.Try.f53 = some L53 := by kernel_rfl
theorem lfn54 : lFn Go.Proofs.Try.prog pure Go.Proofs.Try.f54 = some L54 := by kernel_rfl
theorem lfn55 : lFn Go.Proofs.Try.prog pure Go.Proofs.Try.f55 = some L55 := by kernel_rfl
theorem lfn56 : lFn Go.Proofs.Try.prog pure Go.Proofs.Try.f56 = some L56 := by kernel_rfl
theorem lfn60 : lFn Go.Proofs.Try.prog pure Go.Proofs.Try.f60 = some L60 := by kernel_rfl
theorem lfn62 : lFn Go.Proofs.Try.prog pure Go.Proofs.Try.f62 = some L62 := by kernel_rfl
theorem lfn46 : lFn Go.Proofs.Try.prog pure Go.Proofs.Try.f46 = some L46 := by kernel_rfl
theorem lfn29 : lFn Go.Proofs.Try.prog pure Go.Proofs.Try.f29 = some L29 := by kernel_rfl
theorem lfn36 : lFn Go.Proofs.Try.prog pure Go.Proofs.Try.f36 = some L36 := by kernel_rfl
theorem lfn38 : lFn Go.Proofs.Try.prog pure Go.Proofs.Try.f38 = some L38 := by kernel_rfl
theorem lfn16 : lFn Go.Proofs.Try.prog pure Go.Proofs.Try.f16 = some L16 := by kernel_rfl
theorem lfn17 : lFn Go.Proofs.Try.prog pure Go.Proofs.Try.f17 = some L17 := by kernel_rfl
theorem lfn30 : lFn Go.Proofs.Try.prog pure Go.Proofs.Try.f30 = some L30 := by kernel_rfl
theorem lfn35 : lFn Go.Proofs.Try.prog pure Go.Proofs.Try.f35 = some L35 := by kernel_rfl
theorem lfn49 : lFn Go.Proofs.Try.prog pure Go.Proofs.Try.f49 = some L49 := by kernel_rfl
theorem lfn40 : lFn Go.Proofs.Try.prog pure Go.Proofs.Try.f40 = some L40 := by kernel_rfl
theorem lfn31 : lFn Go.Proofs.Try.prog pure Go.Proofs.Try.f31 = some L31 := by kernel_rfl
theorem lfn32 : lFn Go.Proofs.Try.prog pure Go.Proofs.Try.f32 = some L32 := by kernel_rfl
theorem lfn13 : lFn Go.Proofs.Try.prog pure Go.Proofs.Try.f13 = some L13 := by kernel_rfl
theorem lfn5 : lFn Go.Proofs.Try.prog pure Go.Proofs.Try.f5 = some L5 := by kernel_rfl
instance : HasDr Sy := { f6 := rfl, f9 := rfl, f24 := rfl, f25 := rfl, f44 := rfl }
instance : HasA Sy := { f45 := rfl }
instance : HasV Sy := { f14 := rfl, f23 := rfl, f33 := rfl, f34 := rfl, f39 := rfl, f43 := rfl }
instance : HasLv Sy := { f42 := rfl, f50 := rfl, f51 := rfl }
instance : HasW Sy := { f41 := rfl }
instance : HasLx Sy := { f7 := rfl, f22 := rfl }
instance : HasFa Sy := { f48 := rfl, f57 := rfl }
instance : HasSi Sy := { f47 := rfl, f53 := rfl, f54 := rfl, f55 := rfl, f56 := rfl, f60 := rfl, f62 := rfl }
instance : HasFb Sy := { f46 := rfl }
instance : HasWv Sy := { f29 := rfl, f36 := rfl, f38 := rfl }
instance : HasOs Sy := { f16 := rfl, f17 := rfl, f30 := rfl, f35 := rfl }
instance : HasEx Sy := { f49 := rfl }
instance : HasSp Sy := { f40 := rfl }
instance : HasN Sy := { f31 := rfl }
instance : HasRn Sy := { f32 := rfl }
instance : HasRt Sy := { f13 := rfl }
instance : HasLEnvelopes Sy := { f5 := rfl }
theorem sysOK {B : Nat} {w0 : World} : SysOK Go.Proofs.Try.prog pure Sy B w0 := SysOK.of (by
  intro p hp
  simp only [funs, List.mem_cons, List.not_mem_nil, or_false] at hp
  rcases hp with rfl | rfl | rfl | rfl | rfl | rfl | rfl | rfl | rfl | rfl | rfl | rfl | rfl | rfl | rfl | rfl | rfl | rfl | rfl | rfl | rfl | rfl | rfl | rfl | rfl | rfl | rfl | rfl | rfl | rfl | rfl | rfl | rfl | rfl | rfl | rfl | rfl | rfl | rfl | rfl | rfl
  · exact ⟨_, Go.Proofs.Try.func6, lfn6⟩
  · exact ⟨_, Go.Proofs.Try.func9, lfn9⟩
  · exact ⟨_, Go.Proofs.Try.func24, lfn24⟩
  · exact ⟨_, Go.Proofs.Try.func25, lfn25⟩
  · exact ⟨_, Go.Proofs.Try.func44, lfn44⟩
  · exact ⟨_, Go.Proofs.Try.func45, lfn45⟩
  · exact ⟨_, Go.Proofs.Try.func14, lfn14⟩
  · exact ⟨_, Go.Proofs.Try.func23, lfn23⟩
  · exact ⟨_, Go.Proofs.Try.func33, lfn33⟩
  · exact ⟨_, Go.Proofs.Try.func34, lfn34⟩
  · exact ⟨_, Go.Proofs.Try.func39, lfn39⟩
  · exact ⟨_, Go.Proofs.Try.func43, lfn43⟩
  · exact ⟨_, Go.Proofs.Try.func42, lfn42⟩
  · exact ⟨_, Go.Proofs.Try.func50, lfn50⟩
  · exact ⟨_, Go.Proofs.Try.func51, lfn51⟩
  · exact ⟨_, Go.Proofs.Try.func41, lfn41⟩
  · exact ⟨_, Go.Proofs.Try.func7, lfn7⟩
  · exact ⟨_, Go.Proofs.Try.func22, lfn22⟩
  · exact ⟨_, Go.Proofs.Try.func48, lfn48⟩
  · exact ⟨_, Go.Proofs.Try.func57, lfn57⟩
  · exact ⟨_, Go.Proofs.Try.func47, lfn47⟩
  · exact ⟨_, Go.Proofs.Try.func53, lfn53⟩
  · exact ⟨_, Go.Proofs.Try.func54, lfn54⟩
  · exact ⟨_, Go.Proofs.Try.func55, lfn55⟩
  · exact ⟨_, Go.Proofs.Try.func56, lfn56⟩
  · exact ⟨_, Go.Proofs.Try.func60, lfn60⟩
  · exact ⟨_, Go.Proofs.Try.func62, lfn62⟩
  · exact ⟨_, Go.Proofs.Try.func46, lfn46⟩
  · exact ⟨_, Go.Proofs.Try.func29, lfn29⟩
  · exact ⟨_, Go.Proofs.Try.func36, lfn36⟩
  · exact ⟨_, Go.Proofs.Try.func38, lfn38⟩
  · exact ⟨_, Go.Proofs.Try.func16, lfn16⟩
  · exact ⟨_, Go.Proofs.Try.func17, lfn17⟩
  · exact ⟨_, Go.Proofs.Try.func30, lfn30⟩
  · exact ⟨_, Go.Proofs.Try.func35, lfn35⟩
  · exact ⟨_, Go.Proofs.Try.func49, lfn49⟩
  · exact ⟨_, Go.Proofs.Try.func40, lfn40⟩
  · exact ⟨_, Go.Proofs.Try.func31, lfn31⟩
  · exact ⟨_, Go.Proofs.Try.func32, lfn32⟩
  · exact ⟨_, Go.Proofs.Try.func13, lfn13⟩
  · exact ⟨_, Go.Proofs.Try.func5, lfn5⟩)

end Go.E.Envelopes
