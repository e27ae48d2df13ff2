/- The law of oscillators: what the evaluator finds. -/
import Derived.Test.YtkabbddhdnddoaaMOl
import Derived.Test.YtkabbddhdnddoaaEE
import Derived.Test.YtkabbddhdnddoaaProg
set_option linter.unusedVariables false
set_option linter.unusedSimpArgs false
namespace Go.E
open Go
def L4 : LFn := ⟨2, (.seq (.reg [⟨(.some 4), (.mv (.c (.lf (.bool false)))), none⟩])
 (.seq (.seq (.reg [⟨(.some 28), (.mv (.t 0)), none⟩, ⟨(.some 29), (.mv (.t 1)), none⟩, ⟨(.some 30), (.call true 6 [(.t 28), (.t 29)]), none⟩])
 (.cond (.t 30) (.seq (.reg [⟨(.some 4), (.mv (.c (.lf (.bool true)))), none⟩])
 .ret) .skip))
 (.seq (.reg [⟨(.some 31), (.mv (.t 0)), none⟩, ⟨(.some 32), (.call true 9 [(.t 31), (.c (.lf (.int .i64 0))), (.c (.lf (.int .i64 4)))]), none⟩, ⟨(.some 33), (.mv (.t 0)), none⟩, ⟨(.some 34), (.call true 9 [(.t 33), (.c (.lf (.int .i64 1))), (.c (.lf (.int .i64 101)))]), none⟩, ⟨(.some 35), (.toflt .f32 (.t 34)), none⟩, ⟨(.some 36), (.bin .quo (.t 35) (.c (.lf (.flt .f32 1120534528)))), none⟩, ⟨(.some 37), (.mv (.t 0)), none⟩, ⟨(.some 38), (.call true 9 [(.t 37), (.c (.lf (.int .i64 2))), (.c (.lf (.int .i64 128)))]), none⟩, ⟨(.some 39), (.toflt .f32 (.t 38)), none⟩, ⟨(.some 40), (.bin .quo (.t 39) (.c (.lf (.flt .f32 1124073472)))), none⟩, ⟨(.some 41), (.build [(.int .i64 0), (.flt .f32 0), (.flt .f32 0)] [(0, (1, (.t 32))), (1, (1, (.t 36))), (2, (1, (.t 40)))]), none⟩, ⟨(.some 5), (.alloc 45 [(.int .i64 0), (.flt .f32 0), (.flt .f32 0)]), none⟩, ⟨none, (.store 3 (.t 5) (.t 41)), none⟩])
 (.seq (.reg [⟨(.some 42), (.mv (.t 1)), none⟩, ⟨(.some 43), (.call true 9 [(.t 42), (.c (.lf (.int .i64 0))), (.c (.lf (.int .i64 40)))]), none⟩, ⟨(.some 6), (.mv (.t 43)), none⟩])
 (.seq (.reg [⟨(.some 44), (.mv (.t 1)), none⟩, ⟨(.some 45), (.mv (.t 6)), none⟩, ⟨(.some 46), (.bin .add (.t 45) (.c (.lf (.int .i64 1)))), none⟩, ⟨(.some 47), (.call true 9 [(.t 44), (.c (.lf (.int .i64 1))), (.t 46)]), none⟩, ⟨(.some 7), (.mv (.t 47)), none⟩])
 (.seq (.reg [⟨(.some 49), (.load true 3 (.t 5)), none⟩, ⟨(.some 50), (.mv (.t 6)), none⟩, ⟨(.some 51), (.call false 16 [(.t 49), (.t 50)]), none⟩, ⟨(.some 48), (.mv (.t 51)), none⟩, ⟨(.some 52), (.ext (.t 48) 0), none⟩, ⟨(.some 53), (.ext (.t 48) 1), none⟩, ⟨(.some 54), (.ext (.t 48) 2), none⟩, ⟨(.some 9), (.alloc 45 [(.int .i64 0), (.flt .f32 0), (.flt .f32 0)]), none⟩, ⟨(.some 8), (.mv (.t 52)), none⟩, ⟨none, (.store 3 (.t 9) (.t 53)), none⟩, ⟨(.some 10), (.mv (.t 54)), none⟩])
 (.seq (.reg [⟨(.some 56), (.load true 3 (.t 5)), none⟩, ⟨(.some 57), (.mv (.t 7)), none⟩, ⟨(.some 58), (.call false 16 [(.t 56), (.t 57)]), none⟩, ⟨(.some 55), (.mv (.t 58)), none⟩, ⟨(.some 59), (.ext (.t 55) 0), none⟩, ⟨(.some 60), (.ext (.t 55) 1), none⟩, ⟨(.some 61), (.ext (.t 55) 2), none⟩, ⟨(.some 12), (.alloc 45 [(.int .i64 0), (.flt .f32 0), (.flt .f32 0)]), none⟩, ⟨(.some 11), (.mv (.t 59)), none⟩, ⟨none, (.store 3 (.t 12) (.t 60)), none⟩, ⟨(.some 13), (.mv (.t 61)), none⟩])
 (.seq (.reg [⟨(.some 63), (.load true 3 (.t 12)), none⟩, ⟨(.some 64), (.mv (.t 6)), none⟩, ⟨(.some 65), (.mv (.t 7)), none⟩, ⟨(.some 66), (.bin .sub (.t 64) (.t 65)), none⟩, ⟨(.some 67), (.call false 16 [(.t 63), (.t 66)]), none⟩, ⟨(.some 62), (.mv (.t 67)), none⟩, ⟨(.some 68), (.ext (.t 62) 0), none⟩, ⟨(.some 69), (.ext (.t 62) 1), none⟩, ⟨(.some 70), (.ext (.t 62) 2), none⟩, ⟨(.some 15), (.alloc 45 [(.int .i64 0), (.flt .f32 0), (.flt .f32 0)]), none⟩, ⟨(.some 14), (.mv (.t 68)), none⟩, ⟨none, (.store 3 (.t 15) (.t 69)), none⟩, ⟨(.some 16), (.mv (.t 70)), none⟩])
 (.seq (.seq (.reg [⟨(.some 71), (.mv (.t 10)), none⟩, ⟨(.some 72), (.una .not (.t 71)), none⟩, ⟨(.some 73), (.mv (.t 72)), none⟩, ⟨(.some 74), (.mv (.t 13)), (.some (73, false))⟩, ⟨(.some 75), (.una .not (.t 74)), (.some (73, false))⟩, ⟨(.some 76), (.pick (.t 73) (.c (.lf (.bool true))) (.t 75)), none⟩, ⟨(.some 77), (.mv (.t 76)), none⟩, ⟨(.some 78), (.mv (.t 16)), (.some (77, false))⟩, ⟨(.some 79), (.una .not (.t 78)), (.some (77, false))⟩, ⟨(.some 80), (.pick (.t 77) (.c (.lf (.bool true))) (.t 79)), none⟩, ⟨(.some 81), (.mv (.t 80)), none⟩, ⟨(.some 82), (.load true 3 (.t 5)), (.some (81, false))⟩, ⟨(.some 83), (.call true 17 [(.t 82)]), (.some (81, false))⟩, ⟨(.some 84), (.una .not (.t 83)), (.some (81, false))⟩, ⟨(.some 85), (.pick (.t 81) (.c (.lf (.bool true))) (.t 84)), none⟩, ⟨(.some 86), (.mv (.t 85)), none⟩, ⟨(.some 87), (.load true 3 (.t 9)), (.some (86, false))⟩, ⟨(.some 88), (.call true 17 [(.t 87)]), (.some (86, false))⟩, ⟨(.some 89), (.una .not (.t 88)), (.some (86, false))⟩, ⟨(.some 90), (.pick (.t 86) (.c (.lf (.bool true))) (.t 89)), none⟩, ⟨(.some 91), (.mv (.t 90)), none⟩, ⟨(.some 92), (.lit 24 1 0 [] []), (.some (91, false))⟩, ⟨(.some 93), (.mv (.t 11)), (.some (91, false))⟩, ⟨(.some 94), (.app 24 1 4 (.t 92) (.t 93)), (.some (91, false))⟩, ⟨(.some 95), (.mv (.t 14)), (.some (91, false))⟩, ⟨(.some 96), (.app 24 1 4 (.t 94) (.t 95)), (.some (91, false))⟩, ⟨(.some 97), (.mv (.t 8)), (.some (91, false))⟩, ⟨(.some 98), (.call true 15 [(.t 96), (.t 97)]), (.some (91, false))⟩, ⟨(.some 99), (.una .not (.t 98)), (.some (91, false))⟩, ⟨(.some 100), (.pick (.t 91) (.c (.lf (.bool true))) (.t 99)), none⟩, ⟨(.some 101), (.mv (.t 100)), none⟩, ⟨(.some 102), (.faddr 2 (.t 9)), (.some (101, false))⟩, ⟨(.some 103), (.load false 1 (.t 102)), (.some (101, false))⟩, ⟨(.some 104), (.faddr 2 (.t 15)), (.some (101, false))⟩, ⟨(.some 105), (.load false 1 (.t 104)), (.some (101, false))⟩, ⟨(.some 106), (.call true 18 [(.t 103), (.t 105)]), (.some (101, false))⟩, ⟨(.some 107), (.una .not (.t 106)), (.some (101, false))⟩, ⟨(.some 108), (.pick (.t 101) (.c (.lf (.bool true))) (.t 107)), none⟩, ⟨(.some 109), (.mv (.t 108)), none⟩, ⟨(.some 110), (.mv (.t 8)), (.some (109, false))⟩, ⟨(.some 111), (.len (.t 110)), (.some (109, false))⟩, ⟨(.some 112), (.mv (.t 6)), (.some (109, false))⟩, ⟨(.some 113), (.bin .neq (.t 111) (.t 112)), (.some (109, false))⟩, ⟨(.some 114), (.pick (.t 109) (.c (.lf (.bool true))) (.t 113)), none⟩])
 (.cond (.t 114) (.seq (.reg [⟨(.some 4), (.mv (.c (.lf (.bool false)))), none⟩])
 .ret) .skip))
 (.seq (.reg [⟨(.some 115), (.load true 3 (.t 5)), none⟩, ⟨(.some 17), (.alloc 45 [(.int .i64 0), (.flt .f32 0), (.flt .f32 0)]), none⟩, ⟨none, (.store 3 (.t 17) (.t 115)), none⟩])
 (.seq (.seq (.reg [⟨(.some 18), (.mv (.c (.lf (.int .i64 0)))), none⟩])
 (.block 0 (.loop (.seq (.seq (.reg [⟨(.some 116), (.mv (.t 18)), none⟩, ⟨(.some 117), (.mv (.t 6)), none⟩, ⟨(.some 118), (.bin .lss (.t 116) (.t 117)), none⟩])
 (.cond (.t 118) .skip (.exit 0)))
 (.seq (.block 1 (.seq (.reg [⟨(.some 122), (.faddr 0 (.t 5)), none⟩, ⟨(.some 123), (.load false 1 (.t 122)), none⟩, ⟨(.some 124), (.faddr 2 (.t 17)), none⟩, ⟨(.some 125), (.load false 1 (.t 124)), none⟩, ⟨(.some 126), (.call true 19 [(.t 123), (.t 125)]), none⟩, ⟨(.some 121), (.mv (.t 126)), none⟩, ⟨(.some 127), (.ext (.t 121) 0), none⟩, ⟨(.some 128), (.ext (.t 121) 1), none⟩, ⟨(.some 19), (.mv (.t 127)), none⟩, ⟨(.some 20), (.mv (.t 128)), none⟩])
 (.seq (.reg [⟨(.some 130), (.load true 3 (.t 17)), none⟩, ⟨(.some 131), (.call false 16 [(.t 130), (.c (.lf (.int .i64 1)))]), none⟩, ⟨(.some 129), (.mv (.t 131)), none⟩, ⟨(.some 132), (.ext (.t 129) 0), none⟩, ⟨(.some 133), (.ext (.t 129) 1), none⟩, ⟨(.some 134), (.ext (.t 129) 2), none⟩, ⟨(.some 22), (.alloc 45 [(.int .i64 0), (.flt .f32 0), (.flt .f32 0)]), none⟩, ⟨(.some 21), (.mv (.t 132)), none⟩, ⟨none, (.store 3 (.t 22) (.t 133)), none⟩, ⟨(.some 23), (.mv (.t 134)), none⟩])
 (.seq (.seq (.reg [⟨(.some 135), (.mv (.t 20)), none⟩, ⟨(.some 136), (.una .not (.t 135)), none⟩, ⟨(.some 137), (.mv (.t 136)), none⟩, ⟨(.some 138), (.mv (.t 23)), (.some (137, false))⟩, ⟨(.some 139), (.una .not (.t 138)), (.some (137, false))⟩, ⟨(.some 140), (.pick (.t 137) (.c (.lf (.bool true))) (.t 139)), none⟩, ⟨(.some 141), (.mv (.t 140)), none⟩, ⟨(.some 142), (.mv (.t 19)), (.some (141, false))⟩, ⟨(.some 143), (.mv (.t 8)), (.some (141, false))⟩, ⟨(.some 144), (.mv (.t 18)), (.some (141, false))⟩, ⟨(.some 145), (.iaddr 1 (.t 143) (.t 144)), (.some (141, false))⟩, ⟨(.some 146), (.load false 1 (.t 145)), (.some (141, false))⟩, ⟨(.some 147), (.call true 18 [(.t 142), (.t 146)]), (.some (141, false))⟩, ⟨(.some 148), (.una .not (.t 147)), (.some (141, false))⟩, ⟨(.some 149), (.pick (.t 141) (.c (.lf (.bool true))) (.t 148)), none⟩, ⟨(.some 150), (.mv (.t 149)), none⟩, ⟨(.some 151), (.mv (.t 19)), (.some (150, false))⟩, ⟨(.some 152), (.bin .gtr (.t 151) (.c (.lf (.flt .f32 1065353216)))), (.some (150, false))⟩, ⟨(.some 153), (.pick (.t 150) (.c (.lf (.bool true))) (.t 152)), none⟩, ⟨(.some 154), (.mv (.t 153)), none⟩, ⟨(.some 155), (.mv (.t 19)), (.some (154, false))⟩, ⟨(.some 156), (.bin .lss (.t 155) (.c (.lf (.flt .f32 3212836864)))), (.some (154, false))⟩, ⟨(.some 157), (.pick (.t 154) (.c (.lf (.bool true))) (.t 156)), none⟩, ⟨(.some 158), (.mv (.t 157)), none⟩, ⟨(.some 159), (.faddr 0 (.t 5)), (.some (158, false))⟩, ⟨(.some 160), (.load false 1 (.t 159)), (.some (158, false))⟩, ⟨(.some 161), (.bin .eql (.t 160) (.c (.lf (.int .i64 2)))), (.some (158, false))⟩, ⟨(.some 162), (.mv (.t 161)), (.some (158, false))⟩, ⟨(.some 163), (.mv (.t 19)), (.some (162, true))⟩, ⟨(.some 164), (.bin .neq (.t 163) (.c (.lf (.flt .f32 1065353216)))), (.some (162, true))⟩, ⟨(.some 165), (.pick (.t 162) (.t 164) (.c (.lf (.bool false)))), (.some (158, false))⟩, ⟨(.some 166), (.mv (.t 165)), (.some (158, false))⟩, ⟨(.some 167), (.mv (.t 19)), (.some (166, true))⟩, ⟨(.some 168), (.bin .neq (.t 167) (.c (.lf (.flt .f32 3212836864)))), (.some (166, true))⟩, ⟨(.some 169), (.pick (.t 166) (.t 168) (.c (.lf (.bool false)))), (.some (158, false))⟩, ⟨(.some 170), (.pick (.t 158) (.c (.lf (.bool true))) (.t 169)), none⟩])
 (.cond (.t 170) (.seq (.reg [⟨(.some 4), (.mv (.c (.lf (.bool false)))), none⟩])
 .ret) .skip))
 (.reg [⟨(.some 171), (.load true 3 (.t 22)), none⟩, ⟨none, (.store 3 (.t 17) (.t 171)), none⟩])))))
 (.reg [⟨(.some 119), (.mv (.t 18)), none⟩, ⟨(.some 120), (.bin .add (.t 119) (.c (.lf (.int .i64 1)))), none⟩, ⟨(.some 18), (.mv (.t 120)), none⟩]))))))
 (.seq (.reg [⟨(.some 173), (.mv (.t 1)), none⟩, ⟨(.some 174), (.call true 9 [(.t 173), (.c (.lf (.int .i64 2))), (.c (.lf (.int .i64 100)))]), none⟩, ⟨(.some 175), (.call true 20 [(.t 174)]), none⟩, ⟨(.some 172), (.mv (.t 175)), none⟩, ⟨(.some 176), (.ext (.t 172) 0), none⟩, ⟨(.some 177), (.ext (.t 172) 1), none⟩, ⟨(.some 24), (.mv (.t 176)), none⟩, ⟨(.some 25), (.mv (.t 177)), none⟩])
 (.seq (.reg [⟨(.some 179), (.mv (.t 1)), none⟩, ⟨(.some 180), (.call true 9 [(.t 179), (.c (.lf (.int .i64 2))), (.c (.lf (.int .i64 100)))]), none⟩, ⟨(.some 181), (.bin .add (.t 180) (.c (.lf (.int .i64 12)))), none⟩, ⟨(.some 182), (.call true 20 [(.t 181)]), none⟩, ⟨(.some 178), (.mv (.t 182)), none⟩, ⟨(.some 183), (.ext (.t 178) 0), none⟩, ⟨(.some 184), (.ext (.t 178) 1), none⟩, ⟨(.some 26), (.mv (.t 183)), none⟩, ⟨(.some 27), (.mv (.t 184)), none⟩])
 (.seq (.reg [⟨(.some 185), (.mv (.t 25)), none⟩, ⟨(.some 186), (.mv (.t 185)), none⟩, ⟨(.some 187), (.mv (.t 27)), (.some (186, true))⟩, ⟨(.some 188), (.pick (.t 186) (.t 187) (.c (.lf (.bool false)))), none⟩, ⟨(.some 189), (.mv (.t 188)), none⟩, ⟨(.some 190), (.mv (.t 24)), (.some (189, true))⟩, ⟨(.some 191), (.bin .gtr (.t 190) (.c (.lf (.flt .f32 0)))), (.some (189, true))⟩, ⟨(.some 192), (.pick (.t 189) (.t 191) (.c (.lf (.bool false)))), none⟩, ⟨(.some 193), (.mv (.t 192)), none⟩, ⟨(.some 194), (.mv (.t 26)), (.some (193, true))⟩, ⟨(.some 195), (.toflt .f64 (.t 194)), (.some (193, true))⟩, ⟨(.some 196), (.mv (.t 24)), (.some (193, true))⟩, ⟨(.some 197), (.toflt .f64 (.t 196)), (.some (193, true))⟩, ⟨(.some 198), (.bin .quo (.t 195) (.t 197)), (.some (193, true))⟩, ⟨(.some 199), (.call true 21 [(.t 198), (.c (.lf (.flt .f64 4611686018427387904)))]), (.some (193, true))⟩, ⟨(.some 200), (.bin .lss (.t 199) (.c (.lf (.flt .f64 4547007122018943789)))), (.some (193, true))⟩, ⟨(.some 201), (.pick (.t 193) (.t 200) (.c (.lf (.bool false)))), none⟩, ⟨(.some 4), (.mv (.t 201)), none⟩])
 .ret)))))))))))))), [(.tmp 4)]⟩
class HasLOscillators (S : Sys) : Prop extends HasOl S, HasVs S, HasDr S, HasOs S, HasWa S where
  f4 : S.fs 4 = some L4
set_option maxRecDepth 20000 in
set_option maxHeartbeats 16000000 in
theorem lawOscillators {S : Sys} [HasLOscillators S] : LawHolds S 4 [(false, .sl 1 (.int .u8)), (false, .sl 1 (.int .u8))] := by
  intro h cs hcs
  obtain ⟨c0, _, rfl, ⟨ls0, rfl, l, rows, rfl, hA, hrows⟩, c1, _, rfl, ⟨ls1, rfl, l2, rows2, rfl, hB, hrows2⟩, rfl⟩ := hcs
  obtain ⟨xs, rfl, hx⟩ := rows_map fun r hr => ul_of (hrows r hr)
  obtain ⟨ys, rfl, hy⟩ := rows_map fun r hr => ul_of (hrows2 r hr)
  clear hrows hrows2
  refine law_of (F := L4) HasLOscillators.f4 rfl ?_
  have hlong := fun lim K => c_b10Long (S := S) (lim := lim) (K := K) hA hB
  generalize (decide (1048576 < (xs.length : Int)) || decide (1048576 < (ys.length : Int))) = long at *
  obtain ⟨k, hk4, hk⟩ := c_b10At (S := S) (k := 0) (n := 4) hA hx (by decide) (by decide) (by decide)
  obtain ⟨j1, hj1, hj⟩ := c_b10At (S := S) (k := 1) (n := 101) hA hx (by decide) (by decide) (by decide)
  obtain ⟨j2, hj2, hp⟩ := c_b10At (S := S) (k := 2) (n := 128) hA hx (by decide) (by decide) (by decide)
  obtain ⟨n, hn40, hn⟩ := c_b10At (S := S) (k := 0) (n := 40) hB hy (by decide) (by decide) (by decide)
  obtain ⟨c, hcn, hc⟩ := c_b10At1 (S := S) (k := 1) (n := n + 1) hB hy (by omega) (by omega) (by decide)
  obtain ⟨q, hq100, hq⟩ := c_b10At (S := S) (k := 2) (n := 100) hB hy (by decide) (by decide) (by decide)
  replace hk : ∀ g, Kept h g → ∀ lim K, CallT S true 9 [.lf l, .lf (.int .i64 0), .lf (.int .i64 4)] g lim K = K (.lf (.int .i64 k)) g := hk
  replace hj : ∀ g, Kept h g → ∀ lim K, CallT S true 9 [.lf l, .lf (.int .i64 1), .lf (.int .i64 101)] g lim K = K (.lf (.int .i64 j1)) g := hj
  replace hp : ∀ g, Kept h g → ∀ lim K, CallT S true 9 [.lf l, .lf (.int .i64 2), .lf (.int .i64 128)] g lim K = K (.lf (.int .i64 j2)) g := hp
  replace hn : ∀ g, Kept h g → ∀ lim K, CallT S true 9 [.lf l2, .lf (.int .i64 0), .lf (.int .i64 40)] g lim K = K (.lf (.int .i64 n)) g := hn
  replace hc : ∀ g, Kept h g → ∀ lim K, CallT S true 9 [.lf l2, .lf (.int .i64 1), .lf (.int .i64 ((n : Int) + 1))] g lim K = K (.lf (.int .i64 c)) g := hc
  replace hq : ∀ g, Kept h g → ∀ lim K, CallT S true 9 [.lf l2, .lf (.int .i64 2), .lf (.int .i64 100)] g lim K = K (.lf (.int .i64 q)) g := hq
  obtain ⟨s, hs⟩ : ∃ s, fbin .quo .f32 (fofint .f32 j1) 1120534528 = s := ⟨_, rfl⟩
  obtain ⟨p, hpv⟩ : ∃ p, fbin .quo .f32 (fofint .f32 j2) 1124073472 = p := ⟨_, rfl⟩
  have cs_ : CF s := by rw [← hs]; exact CF_bin
  have cp_ : CF p := by rw [← hpv]; exact CF_bin
  have ps_ : Ph s := Ph_of cs_ (by rw [← hs]; exact step_all j1 hj1)
  have pp_ : Ph p := Ph_of cp_ (by rw [← hpv]; exact phase_all j2 hj2)
  have hk03 : 0 ≤ (k : Int) ∧ (k : Int) ≤ 3 := by omega
  obtain ⟨o1, o2⟩ := oct_parts hq100
  have hgap := fun g lim K => c_b10Gap (S := S) (h := g) (lim := lim) (K := K) (x := fbin .quo .f64 (wid (step32 ((q : Int) + 12))) (wid (step32 q))) (y := 4611686018427387904)
  have hlow := fun g lim K => c_StepOfPitch (S := S) (h := g) (lim := lim) (K := K) (p := (q : Int)) (by omega)
  have hhigh := fun g lim K => c_StepOfPitch (S := S) (h := g) (lim := lim) (K := K) (p := (q : Int) + 12) (by omega)
  generalize step32 (q : Int) = low at *
  generalize step32 ((q : Int) + 12) = high at *
  generalize gapB (fbin .quo .f64 (wid high) (wid low)) 4611686018427387904 = gap at *
  obtain ⟨m, hm⟩ : ∃ m, n = c + m := ⟨n - c, by omega⟩
  have eM : (n : Int) - (c : Int) = (m : Int) := by omega
  obtain ⟨E, hE⟩ : ∃ E, phT s p n = E := ⟨_, rfl⟩
  obtain ⟨M, hM⟩ : ∃ M, phT s p c = M := ⟨_, rfl⟩
  have hEM : phT s M m = E := by rw [← hM, phT_add, ← hm, hE]
  have hsum : osT k s p c ++ osT k s M m = osT k s p n := by rw [← hM, osT_add, ← hm]
  have hcm : c + m ≤ n ∧ n ≤ c + m := by omega
  clear hm
  have pE : Ph E := by rw [← hE]; exact ps_.run pp_
  have pM : Ph M := by rw [← hM]; exact ps_.run pp_
  have cE : CF E := by rw [← hE]; exact CF_ph cp_
  have cM : CF M := by rw [← hM]; exact CF_ph cp_
  have hvalid : ∀ {x : Nat}, Ph x → ∀ g lim K, CallT S true 17 [.agg [.int .i64 k, .flt .f32 s, .flt .f32 x]] g lim K = K (.lf (.bool true)) g := by
    intro x hx g lim K
    rw [c_ValidOscillator, decide_eq_true ⟨hk03, ps_.phB, hx.phB⟩]
  have hv1 := hvalid pp_
  have hv2 := hvalid pE
  have hrun : ∀ {g : Hp} {x m : Nat} {K : CV → Hp → Prop}, CF x → Ph x → m ≤ 256 → h.length ≤ g.length → (∀ o g', New g g' o 24 1 ((osT k s x m).map fl) → K (.tup [.lf o, .agg [.int .i64 k, .flt .f32 s, .flt .f32 (phT s x m)], .lf (.bool true)]) g') → CallT S false 16 [.agg [.int .i64 k, .flt .f32 s, .flt .f32 x], .lf (.int .i64 m)] g h.length K := by
    intro g x m K hx hpx hm hl hK
    have ok : oscOk k s x m := ⟨⟨hk03, ps_.phB, hpx.phB⟩, by omega, by omega⟩
    refine c_implRunOscillator hx hl fun o g' hO => ?_
    rw [decide_eq_true ok]
    unfold oscR at hO
    unfold oscF
    rw [if_pos ok] at hO ⊢
    exact hK o g' hO
  cases long
  rotate_left
  · unfold L4
    dsimp only []
    clear hrun hvalid hv1 hv2 hgap hlow hhigh
    repeat' (first | (simp (disch := first | omega | assumption | (simp only [List.length_set]; omega) | (simp [*] <;> fail) | assumption) [-Bool.decide_and, -Bool.decide_or, -Bool.not_and, -Bool.not_or, toNat_pred, toNat_succ, wrap64, wr_new, wr_new0, ok_if, ok_ifn, iadV_sl, makeV_int, decT, decF, over_at, *]) | (with_reducible refine Gd_split (fun hc => ?_) (fun hc => ?_) <;> (have hc2 := hc; try simp at hc2)) | (with_reducible refine Br_split (fun hc => ?_) (fun hc => ?_) <;> (have hc2 := hc; try simp at hc2)) | (with_reducible refine GdT_split (fun hc => ?_) (fun hc => ?_) <;> (have hc2 := hc; try simp at hc2)) | (with_reducible refine WT_alt ?_ ?_) | omega)
  unfold L4
  dsimp only []
  have hk0 := hk h (Kept.refl _)
  have hj0 := hj h (Kept.refl _)
  have hp0 := hp h (Kept.refl _)
  have hn0 := fun t => hn (h ++ t) (Kept.app _ _)
  have hc0 := fun t => hc (h ++ t) (Kept.app _ _)
  clear hk hj hp hn hc
  repeat' (first | (simp (disch := first | omega | assumption | (simp only [List.length_set]; omega) | (simp [*] <;> fail) | assumption) [-Bool.decide_and, -Bool.decide_or, -Bool.not_and, -Bool.not_or, toNat_pred, toNat_succ, wrap64, wr_new, wr_new0, ok_if, ok_ifn, iadV_sl, makeV_int, decT, decF, over_at, *, leavesAll, fillL]) | (with_reducible refine Gd_split (fun hc => ?_) (fun hc => ?_) <;> (have hc2 := hc; try simp at hc2)) | (with_reducible refine Br_split (fun hc => ?_) (fun hc => ?_) <;> (have hc2 := hc; try simp at hc2)) | (with_reducible refine GdT_split (fun hc => ?_) (fun hc => ?_) <;> (have hc2 := hc; try simp at hc2)) | (with_reducible refine WT_alt ?_ ?_) | omega)
  have k0 : Kept h (h ++ [⟨[.int .i64 k, .flt .f32 s, .flt .f32 p], .own 45 1⟩]) := Kept.app h _
  have be : rdCells (h ++ [⟨[.int .i64 k, .flt .f32 s, .flt .f32 p], .own 45 1⟩]) h.length 0 3 = some [.int .i64 k, .flt .f32 s, .flt .f32 p] := by
    simp [rdCells, Ob.live]
  generalize (h ++ [⟨[.int .i64 k, .flt .f32 s, .flt .f32 p], .own 45 1⟩] : Hp) = G1 at *
  have hl1 := k0.1
  refine hrun cp_ pp_ (by omega) hl1 fun oA g2 hNA => ?_
  rw [hE]
  have k2 := hNA.kept
  have be2 := k2.rd be
  have bf2 := fun t => rd_app' (t := t) be2
  have hl2 : h.length ≤ g2.length := by have := k2.1; omega
  clear hk0 hj0 hp0 hn0 hc0 hlong
  repeat' (first | (simp (disch := first | omega | assumption | (simp only [List.length_set]; omega) | (simp [*] <;> fail) | assumption) [-Bool.decide_and, -Bool.decide_or, -Bool.not_and, -Bool.not_or, toNat_pred, toNat_succ, wrap64, wr_new, wr_new0, ok_if, ok_ifn, iadV_sl, makeV_int, decT, decF, over_at, *, leavesAll, fillL]) | (with_reducible refine Gd_split (fun hc => ?_) (fun hc => ?_) <;> (have hc2 := hc; try simp at hc2)) | (with_reducible refine Br_split (fun hc => ?_) (fun hc => ?_) <;> (have hc2 := hc; try simp at hc2)) | (with_reducible refine GdT_split (fun hc => ?_) (fun hc => ?_) <;> (have hc2 := hc; try simp at hc2)) | (with_reducible refine WT_alt ?_ ?_) | omega)
  refine hrun cp_ pp_ (by omega) (by simp; omega) fun oa g3 hNa => ?_
  rw [hM]
  have k3 := (Kept.app g2 _).trans hNa.kept
  have be3 := k3.rd be2
  have bf3 := fun t => rd_app' (t := t) be3
  have r9 : rdCells g3 g2.length 0 3 = some [.int .i64 k, .flt .f32 s, .flt .f32 E] := hNa.kept.rd (by simp [rdCells, Ob.live])
  have hl3 : h.length ≤ g3.length := by have := k3.1; omega
  repeat' (first | (simp (disch := first | omega | assumption | (simp only [List.length_set]; omega) | (simp [*] <;> fail) | assumption) [-Bool.decide_and, -Bool.decide_or, -Bool.not_and, -Bool.not_or, toNat_pred, toNat_succ, wrap64, wr_new, wr_new0, ok_if, ok_ifn, iadV_sl, makeV_int, decT, decF, over_at, *, leavesAll, fillL]) | (with_reducible refine Gd_split (fun hc => ?_) (fun hc => ?_) <;> (have hc2 := hc; try simp at hc2)) | (with_reducible refine Br_split (fun hc => ?_) (fun hc => ?_) <;> (have hc2 := hc; try simp at hc2)) | (with_reducible refine GdT_split (fun hc => ?_) (fun hc => ?_) <;> (have hc2 := hc; try simp at hc2)) | (with_reducible refine WT_alt ?_ ?_) | omega)
  refine hrun cM pM (by omega) (by simp; omega) fun ob g4 hNb => ?_
  rw [hEM]
  have k4 := (Kept.app g3 _).trans hNb.kept
  have be4 := k4.rd be3
  have bf4 := fun t => rd_app' (t := t) be4
  have s9 := fun t => rd_app' (t := t) (k4.rd r9)
  have hl4 : h.length ≤ g4.length := by have := k4.1; omega
  repeat' (first | (simp (disch := first | omega | assumption | (simp only [List.length_set]; omega) | (simp [*] <;> fail) | assumption) [-Bool.decide_and, -Bool.decide_or, -Bool.not_and, -Bool.not_or, toNat_pred, toNat_succ, wrap64, wr_new, wr_new0, ok_if, ok_ifn, iadV_sl, makeV_int, decT, decF, over_at, *, leavesAll, fillL]) | (with_reducible refine Gd_split (fun hc => ?_) (fun hc => ?_) <;> (have hc2 := hc; try simp at hc2)) | (with_reducible refine Br_split (fun hc => ?_) (fun hc => ?_) <;> (have hc2 := hc; try simp at hc2)) | (with_reducible refine GdT_split (fun hc => ?_) (fun hc => ?_) <;> (have hc2 := hc; try simp at hc2)) | (with_reducible refine WT_alt ?_ ?_) | omega)
  have z0 : New (g4 ++ [⟨[.int .i64 k, .flt .f32 s, .flt .f32 E], .own 45 1⟩]) (g4 ++ [⟨[.int .i64 k, .flt .f32 s, .flt .f32 E], .own 45 1⟩, ⟨[], .own 24 1⟩]) (.sl (g4.length + 1) 0 0 1) 24 1 [] := by
    have := New.litN (ty := 24) (sz := 1) (Kept.refl (g4 ++ [⟨[.int .i64 k, .flt .f32 s, .flt .f32 E], .own 45 1⟩]))
    simpa using this
  refine oc_app (new := (osT k s p c).map fl) z0 (by simp; omega) (src_kept (k4.trans (Kept.app _ _)) hNa.src) (fun i r hi => (hNa.arr.row i r hi).1) (by simp [osT_len]; omega) (fun o5 g5 hN5 hB5 => ?_)
  have k5 := (Kept.app g4 [⟨[.int .i64 k, .flt .f32 s, .flt .f32 E], .own 45 1⟩]).trans hN5.kept
  clear z0 hB5
  repeat' (first | (simp (disch := first | omega | assumption | (simp only [List.length_set]; omega) | (simp [*] <;> fail) | assumption) [-Bool.decide_and, -Bool.decide_or, -Bool.not_and, -Bool.not_or, toNat_pred, toNat_succ, wrap64, wr_new, wr_new0, ok_if, ok_ifn, iadV_sl, makeV_int, decT, decF, over_at, *]) | (with_reducible refine Gd_split (fun hc => ?_) (fun hc => ?_) <;> (have hc2 := hc; try simp at hc2)) | (with_reducible refine Br_split (fun hc => ?_) (fun hc => ?_) <;> (have hc2 := hc; try simp at hc2)) | (with_reducible refine GdT_split (fun hc => ?_) (fun hc => ?_) <;> (have hc2 := hc; try simp at hc2)) | (with_reducible refine WT_alt ?_ ?_) | omega)
  refine oc_app (new := (osT k s M m).map fl) hN5 (by simp; omega) (src_kept k5 hNb.src) (fun i r hi => (hNb.arr.row i r hi).1) (by simp [osT_len]; omega) (fun o6 g6 hN6 hB6 => ?_)
  have k6 := (Kept.app g4 [⟨[.int .i64 k, .flt .f32 s, .flt .f32 E], .own 45 1⟩]).trans hN6.kept
  have hArr6 : Arr g6 o6 1 ((osT k s p n).map fl) := by
    have := hN6.arr
    rw [List.nil_append, ← List.map_append, hsum] at this
    exact this
  have hAA := hNA.arr.kept ((k3.trans k4).trans k6)
  have wv : ∀ i, Unit32 (wave32 k (phT s p i)) := fun i => Unit_wave hk03 (CF_ph cp_) (ps_.run pp_)
  have hcfo : ∀ x ∈ osT k s p n, CF x := fun x hx => by
    obtain ⟨i, _, rfl⟩ := List.mem_map.1 hx
    exact CF_wave hk03 (CF_ph cp_) (wv i)
  have hsame := fun lim K => c_b10Same (S := S) (h := g6) (lim := lim) (K := K) hArr6 hAA hcfo
  have hnumb := fun g lim K => c_SameNumber (S := S) (h := g) (lim := lim) (K := K) cE
  have hlen := hAA.len
  rw [osT_len] at hlen
  have be6 := k6.rd be4
  have r96 := k6.rd (k4.rd r9)
  have r156 : rdCells g6 g4.length 0 3 = some [.int .i64 k, .flt .f32 s, .flt .f32 E] := hN6.kept.rd (by simp [rdCells, Ob.live])
  have r96c := rd_sub r96 (j := 2) (m := 1) (by omega)
  have r156c := rd_sub r156 (j := 2) (m := 1) (by omega)
  simp only [List.drop_succ_cons, List.drop_zero, List.take_succ_cons, List.take_zero] at r96c r156c
  clear bf2 bf3 bf4 s9 be be2 be3 be4 hN5 hB6 hNA hNa hNb k5
  have hl6 : h.length ≤ g6.length := by have := k6.1; omega
  have kh : Kept h g6 := k0.trans (((k2.trans k3).trans k4).trans k6)
  have bk6 := rd_sub be6 (j := 0) (m := 1) (by omega)
  simp only [List.drop_zero, List.take_succ_cons, List.take_zero] at bk6
  have bt6 := fun t => rd_app' (t := t) bk6
  have hwa : ∀ i g lim K, CallT S true 19 [.lf (.int .i64 k), .lf (.flt .f32 (phT s p i))] g lim K = K (.tup [.lf (.flt .f32 (wave32 k (phT s p i))), .lf (.bool true)]) g := by
    intro i g lim K
    rw [c_implWaveAt (CF_ph cp_)]
    unfold waveT
    rw [if_pos ⟨hk03, (ps_.run pp_).phB⟩]
  repeat' (first | (simp (disch := first | omega | assumption | (simp only [List.length_set]; omega) | (simp [*] <;> fail) | assumption) [-Bool.decide_and, -Bool.decide_or, -Bool.not_and, -Bool.not_or, toNat_pred, toNat_succ, wrap64, wr_new, wr_new0, ok_if, ok_ifn, iadV_sl, makeV_int, decT, decF, over_at, *]) | (with_reducible refine Gd_split (fun hc => ?_) (fun hc => ?_) <;> (have hc2 := hc; try simp at hc2)) | (with_reducible refine Br_split (fun hc => ?_) (fun hc => ?_) <;> (have hc2 := hc; try simp at hc2)) | (with_reducible refine GdT_split (fun hc => ?_) (fun hc => ?_) <;> (have hc2 := hc; try simp at hc2)) | (with_reducible refine WT_alt ?_ ?_) | omega)
  clear hlen r96 r156 r96c r156c be6 hsame hnumb hArr6 hv1 hv2 hvalid hsum k2 k3 k4 k6 k0 bk6
  refine WL_forM 5986310706507378269885543338248653192022758445023248 (by decide +kernel) (n) (fun i b g => i ≤ n ∧ b 18 = .lf (.int .i64 i) ∧ ∃ t, g = g6 ++ ⟨[.int .i64 k, .flt .f32 s, .flt .f32 (phT s p i)], .own 45 1⟩ :: t) (fun _ _ _ hi => hi.1) ⟨by omega, by simp, [], rfl⟩ ?_
  rintro i b g ⟨hi, e18, t, rfl⟩
  by_cases hlt : i < n
  · have hil : i < (osT k s p n).length := by rw [osT_len]; exact hlt
    have hw := hwa i
    have hu := wv i
    have hr := fun K g hl hK => hrun (g := g) (m := 1) (K := K) (x := phT s p i) (CF_ph cp_) (ps_.run pp_) (by decide) hl hK
    have e1 : phT s (phT s p i) 1 = phT s p (i + 1) := rfl
    rw [e1] at hr
    have cy : CF (wave32 k (phT s p i)) := CF_wave hk03 (CF_ph cp_) hu
    have hA1 := fun t => hAA.app (t := t)
    have aA := (hA1 []).at_ (k := .i64) hil
    have dA := fun t => (hA1 t).rd1 hil
    rw [osT_get hil] at dA
    have w2 : k = 2 → wave32 k (phT s p i) = 1065353216 ∨ wave32 k (phT s p i) = 3212836864 := by
      rintro rfl
      show wave32 2 _ = _ ∨ wave32 2 _ = _
      rw [wave_2]
      split
      · exact .inl rfl
      · exact .inr rfl
    have hnum := fun g lim K => c_SameNumber (S := S) (h := g) (lim := lim) (K := K) cy
    obtain ⟨u1, u2⟩ := hu.le
    obtain ⟨P2, hP2⟩ : ∃ P2, Hid (phT s p (i + 1) = P2) := ⟨_, rfl⟩
    rw [show phT s p (i + 1) = _ from hP2] at hr
    generalize wave32 k (phT s p i) = y at *
    generalize phT s p i = P at *
    clear hrun hwa hAA wv hcfo e1 hgap hlow hhigh hq hE hM hEM
    repeat' (first | (simp (disch := first | omega | assumption | (simp only [List.length_set]; omega) | (simp [*] <;> fail) | assumption) [-Bool.decide_and, -Bool.decide_or, -Bool.not_and, -Bool.not_or, toNat_pred, toNat_succ, wrap64, wr_new, wr_new0, ok_if, ok_ifn, iadV_sl, makeV_int, decT, decF, over_at, *]) | (with_reducible refine Gd_split (fun hc => ?_) (fun hc => ?_) <;> (have hc2 := hc; try simp at hc2)) | (with_reducible refine Br_split (fun hc => ?_) (fun hc => ?_) <;> (have hc2 := hc; try simp at hc2)) | (with_reducible refine GdT_split (fun hc => ?_) (fun hc => ?_) <;> (have hc2 := hc; try simp at hc2)) | (with_reducible refine WT_alt ?_ ?_) | omega)
    refine hr _ _ (by simp; omega) fun o7 g7 hN7 => ?_
    obtain ⟨t7, rfl⟩ := hN7.kept.split
    simp only [List.append_assoc, List.cons_append]
    clear hr hN7 hw
    obtain ⟨J, hJ⟩ : ∃ J : Nat, g6.length + ((t ++ t7).length + 1) ≤ J ∧ J ≤ g6.length + ((t ++ t7).length + 1) := ⟨_, Nat.le_refl _, Nat.le_refl _⟩
    by_cases h2 : k = 2
    · have n1 : fcmp .neq .f32 1065353216 1065353216 = false := by decide +kernel
      have n2 : fcmp .neq .f32 3212836864 1065353216 = true := by decide +kernel
      have n3 : fcmp .neq .f32 3212836864 3212836864 = false := by decide +kernel
      rcases w2 h2 with rfl | rfl
      · clear w2
        have h2i : (k : Int) = 2 := by omega
        clear h2
        repeat' (first | (simp (disch := first | omega | assumption | (simp only [List.length_set]; omega) | (simp [*] <;> fail) | assumption) [-Bool.decide_and, -Bool.decide_or, -Bool.not_and, -Bool.not_or, toNat_pred, toNat_succ, wrap64, wr_new, wr_new0, ok_if, ok_ifn, iadV_sl, makeV_int, decT, decF, over_at, *, leavesAll, fillL, fl]) | (with_reducible refine Gd_split (fun hc => ?_) (fun hc => ?_) <;> (have hc2 := hc; try simp at hc2)) | (with_reducible refine Br_split (fun hc => ?_) (fun hc => ?_) <;> (have hc2 := hc; try simp at hc2)) | (with_reducible refine GdT_split (fun hc => ?_) (fun hc => ?_) <;> (have hc2 := hc; try simp at hc2)) | (with_reducible refine WT_alt ?_ ?_) | omega)
        exact ⟨by omega, (show phT s p (i + 1) = P2 from hP2).symm⟩
      · clear w2
        have h2i : (k : Int) = 2 := by omega
        clear h2
        repeat' (first | (simp (disch := first | omega | assumption | (simp only [List.length_set]; omega) | (simp [*] <;> fail) | assumption) [-Bool.decide_and, -Bool.decide_or, -Bool.not_and, -Bool.not_or, toNat_pred, toNat_succ, wrap64, wr_new, wr_new0, ok_if, ok_ifn, iadV_sl, makeV_int, decT, decF, over_at, *, leavesAll, fillL, fl]) | (with_reducible refine Gd_split (fun hc => ?_) (fun hc => ?_) <;> (have hc2 := hc; try simp at hc2)) | (with_reducible refine Br_split (fun hc => ?_) (fun hc => ?_) <;> (have hc2 := hc; try simp at hc2)) | (with_reducible refine GdT_split (fun hc => ?_) (fun hc => ?_) <;> (have hc2 := hc; try simp at hc2)) | (with_reducible refine WT_alt ?_ ?_) | omega)
        exact ⟨by omega, (show phT s p (i + 1) = P2 from hP2).symm⟩
    · have h2i : ¬ (k : Int) = 2 := by omega
      clear w2 h2
      repeat' (first | (simp (disch := first | omega | assumption | (simp only [List.length_set]; omega) | (simp [*] <;> fail) | assumption) [-Bool.decide_and, -Bool.decide_or, -Bool.not_and, -Bool.not_or, toNat_pred, toNat_succ, wrap64, wr_new, wr_new0, ok_if, ok_ifn, iadV_sl, makeV_int, decT, decF, over_at, *, leavesAll, fillL, fl]) | (with_reducible refine Gd_split (fun hc => ?_) (fun hc => ?_) <;> (have hc2 := hc; try simp at hc2)) | (with_reducible refine Br_split (fun hc => ?_) (fun hc => ?_) <;> (have hc2 := hc; try simp at hc2)) | (with_reducible refine GdT_split (fun hc => ?_) (fun hc => ?_) <;> (have hc2 := hc; try simp at hc2)) | (with_reducible refine WT_alt ?_ ?_) | omega)
      exact ⟨by omega, (show phT s p (i + 1) = P2 from hP2).symm⟩
  · have : i = n := by omega
    subst this
    have hq0 := fun t => hq (g6 ++ t) (kh.trans (Kept.app _ _))
    clear hq
    repeat' (first | (simp (disch := first | omega | assumption | (simp only [List.length_set]; omega) | (simp [*] <;> fail) | assumption) [-Bool.decide_and, -Bool.decide_or, -Bool.not_and, -Bool.not_or, toNat_pred, toNat_succ, wrap64, wr_new, wr_new0, ok_if, ok_ifn, iadV_sl, makeV_int, decT, decF, over_at, *]) | (with_reducible refine Gd_split (fun hc => ?_) (fun hc => ?_) <;> (have hc2 := hc; try simp at hc2)) | (with_reducible refine Br_split (fun hc => ?_) (fun hc => ?_) <;> (have hc2 := hc; try simp at hc2)) | (with_reducible refine GdT_split (fun hc => ?_) (fun hc => ?_) <;> (have hc2 := hc; try simp at hc2)) | (with_reducible refine WT_alt ?_ ?_) | omega)
end Go.E
namespace Go.E.Oscillators
open Go Go.E
def pure : FuncId → Bool := fun f => List.elem f [3, 4, 5, 6, 9, 12, 14, 15, 17, 18, 19, 20, 21, 22, 23, 27, 29, 30, 33, 34, 36, 37, 38, 39, 40, 41, 42, 43, 45, 46, 47, 48, 49, 50, 51, 52, 53, 54, 55, 56, 57, 58, 59, 60, 61, 62, 63, 64, 65, 66, 68, 70, 72, 79, 81]
def funs : List (Nat × LFn) := [(48, L48), (57, L57), (47, L47), (53, L53), (54, L54), (55, L55), (56, L56), (60, L60), (62, L62), (49, L49), (40, L40), (45, L45), (14, L14), (23, L23), (33, L33), (34, L34), (39, L39), (43, L43), (20, L20), (21, L21), (46, L46), (15, L15), (18, L18), (37, L37), (6, L6), (9, L9), (24, L24), (25, L25), (44, L44), (29, L29), (36, L36), (38, L38), (16, L16), (17, L17), (30, L30), (35, L35), (19, L19), (4, L4)]
def Sy : Sys := sysOf funs
theorem lfn48 : lFn Go.Proofs.Try.prog pure Go.Proofs.Try.f48 = some L48 := by kernel_rfl
theorem lfn57 : lFn Go.Proofs.Try.prog pure Go.Proofs.Try.f57 = some L57 := by kernel_rfl
theorem lfn47 : lFn Go.Proofs.Try.prog pure Go.Proofs.Try.f47 = some L47 := by kernel_rfl
theorem lfn53 : lFn Go.Proofs.Try.prog pure Go.Proofs.Try.f53 = some L53 := by kernel_rfl
theorem lfn54 : lFn Go.Proofs.Try.prog pure Go.Proofs.Try.f54 = some L54 := by kernel_rfl
theorem lfn55 : lFn Go.Proofs.Try.prog pure Go.Proofs.Try.f55 = some L55 := by kernel_rfl
theorem lfn56 : lFn Go.Proofs.Try.prog pure Go.Proofs.Try.f56 = some L56 := by kernel_rfl
theorem lfn60 : lFn Go.Proofs.Try.prog pure Go.Proofs.Try.f60 = some L60 := by kernel_rfl
theorem lfn62 : lFn Go.Proofs.Try.prog pure Go.Proofs.Try.f62 = some L62 := by kernel_rfl
theorem lfn49 : lFn Go.Proofs.Try.prog pure Go.Proofs.Try.f49 = some L49 := by kernel_rfl
theorem lfn40 : lFn Go.Proofs.Try.prog pure Go.Proofs.Try.f40 = some L40 := by kernel_rfl
theorem lfn45 : lFn Go.Proofs.Try.prog pure Go.Proofs.Try.f45 = some L45 := by kernel_rfl
theorem lfn14 : lFn Go.Proofs.Try.prog pure Go.Proofs.Try.f14 = some L14 := by kernel_rfl
theorem lfn23 : lFn Go.Proofs.Try.prog pure Go.Proofs.Try.f23 = some L23 := by kernel_rfl
theorem lfn33 : lFn Go.Proofs.Try.prog pure Go.Proofs.Try.f33 = some L33 := by kernel_rfl
theorem lfn34 : lFn Go.Proofs.Try.prog pure Go.Proofs.Try.f34 = some L34 := by kernel_rfl
theorem lfn39 : lFn Go.Proofs.Try.prog pure Go.Proofs.Try.f39 = some L39 := by kernel_rfl
theorem lfn43 : lFn Go.Proofs.Try.prog pure Go.Proofs.Try.f43 = some L43 := by kernel_rfl
theorem lfn20 : lFn Go.Proofs.Try.prog pure Go.Proofs.Try.f20 = some L20 := by kernel_rfl
theorem lfn21 : lFn Go.Proofs.Try.prog pure Go.Proofs.Try.f21 = some L21 := by kernel_rfl
theorem lfn46 : lFn Go.Proofs.Try.prog pure Go.Proofs.Try.f46 = some L46 := by kernel_rfl
theorem lfn15 : lFn Go.Proofs.Try.prog pure Go.Proofs.Try.f15 = some L15 := by kernel_rfl
theorem lfn18 : lFn Go.Proofs.Try.prog pure Go.Proofs.Try.f18 = some L18 := by kernel_rfl
theorem lfn37 : lFn Go.Proofs.Try.prog pure Go.Proofs.Try.f37 = some L37 := by kernel_rfl
theorem lfn6 : lFn Go.Proofs.Try.prog pure Go.Proofs.Try.f6 = some L6 := by kernel_rfl
theorem lfn9 : lFn Go.Proofs.Try.prog pure Go.Proofs.Try.f9 = some L9 := by kernel_rfl
theorem lfn24 : lFn Go.Proofs.Try.prog pure Go.Proofs.Try.f24 = some L24 := by kernel_rfl
theorem lfn25 : lFn Go.Proofs.Try.prog pure Go.Proofs.Try.f25 = some L25 := by kernel_rfl
theorem lfn44 : lFn Go.Proofs.Try.prog pure Go.Proofs.Try.f44 = some L44 := by kernel_rfl
theorem lfn29 : lFn Go.Proofs.Try.prog pure Go.Proofs.Try.f29 = some L29 := by kernel_rfl
theorem lfn36 : lFn Go.Proofs.Try.prog pure Go.Proofs.Try.f36 = some L36 := by kernel_rfl
theorem lfn38 : lFn Go.Proofs.Try.prog pure Go.Proofs.Try.f38 = some L38 := by kernel_rfl
theorem lfn16 : lFn Go.Proofs.Try.prog pure Go.Proofs.Try.f16 = some L16 := by kernel_rfl
theorem lfn17 : lFn Go.Proofs.Try.prog pure Go.Proofs.Try.f17 = some L17 := by kernel_rfl
theorem lfn30 : lFn Go.Proofs.Try.prog pure Go.Proofs.Try.f30 = some L30 := by kernel_rfl
theorem lfn35 : lFn Go.Proofs.Try.prog pure Go.Proofs.Try.f35 = some L35 := by kernel_rfl
theorem lfn19 : lFn Go.Proofs.Try.prog pure Go.Proofs.Try.f19 = some L19 := by kernel_rfl
theorem lfn4 : lFn Go.Proofs.Try.prog pure Go.Proofs.Try.f4 = some L4 := by kernel_rfl
instance : HasFa Sy := { f48 := rfl, f57 := rfl }
instance : HasSi Sy := { f47 := rfl, f53 := rfl, f54 := rfl, f55 := rfl, f56 := rfl, f60 := rfl, f62 := rfl }
instance : HasEx Sy := { f49 := rfl }
instance : HasSp Sy := { f40 := rfl }
instance : HasA Sy := { f45 := rfl }
instance : HasV Sy := { f14 := rfl, f23 := rfl, f33 := rfl, f34 := rfl, f39 := rfl, f43 := rfl }
instance : HasOl Sy := { f20 := rfl, f21 := rfl }
instance : HasFb Sy := { f46 := rfl }
instance : HasVs Sy := { f15 := rfl, f18 := rfl, f37 := rfl }
instance : HasDr Sy := { f6 := rfl, f9 := rfl, f24 := rfl, f25 := rfl, f44 := rfl }
instance : HasWv Sy := { f29 := rfl, f36 := rfl, f38 := rfl }
instance : HasOs Sy := { f16 := rfl, f17 := rfl, f30 := rfl, f35 := rfl }
instance : HasWa Sy := { f19 := rfl }
instance : HasLOscillators Sy := { f4 := rfl }
theorem sysOK {B : Nat} {w0 : World} : SysOK Go.Proofs.Try.prog pure Sy B w0 := SysOK.of (by
  intro p hp
  simp only [funs, List.mem_cons, List.not_mem_nil, or_false] at hp
  rcases hp with rfl | rfl | rfl | rfl | rfl | rfl | rfl | rfl | rfl | rfl | rfl | rfl | rfl | rfl | rfl | rfl | rfl | rfl | rfl | rfl | rfl | rfl | rfl | rfl | rfl | rfl | rfl | rfl | rfl | rfl | rfl | rfl | rfl | rfl | rfl | rfl | rfl | rfl
  · exact ⟨_, Go.Proofs.Try.func48, lfn48⟩
  · exact ⟨_, Go.Proofs.Try.func57, lfn57⟩
  · exact ⟨_, Go.Proofs.Try.func47, lfn47⟩
  · exact ⟨_, Go.Proofs.Try.func53, lfn53⟩
  · exact ⟨_, Go.Proofs.Try.func54, lfn54⟩
  · exact ⟨_, Go.Proofs.Try.func55, lfn55⟩
  · exact ⟨_, Go.Proofs.Try.func56, lfn56⟩
  · exact ⟨_, Go.Proofs.Try.func60, lfn60⟩
  · exact ⟨_, Go.Proofs.Try.func62, lfn62⟩
  · exact ⟨_, Go.Proofs.Try.func49, lfn49⟩
  · exact ⟨_, Go.Proofs.Try.func40, lfn40⟩
  · exact ⟨_, Go.Proofs.Try.func45, lfn45⟩
  · exact ⟨_, Go.Proofs.Try.func14, lfn14⟩
  · exact ⟨_, Go.Proofs.Try.func23, lfn23⟩
  · exact ⟨_, Go.Proofs.Try.func33, lfn33⟩
  · exact ⟨_, Go.Proofs.Try.func34, lfn34⟩
  · exact ⟨_, Go.Proofs.Try.func39, lfn39⟩
  · exact ⟨_, Go.Proofs.Try.func43, lfn43⟩
  · exact ⟨_, Go.Proofs.Try.func20, lfn20⟩
  · exact ⟨_, Go.Proofs.Try.func21, lfn21⟩
  · exact ⟨_, Go.Proofs.Try.func46, lfn46⟩
  · exact ⟨_, Go.Proofs.Try.func15, lfn15⟩
  · exact ⟨_, Go.Proofs.Try.func18, lfn18⟩
  · exact ⟨_, Go.Proofs.Try.func37, lfn37⟩
  · exact ⟨_, Go.Proofs.Try.func6, lfn6⟩
  · exact ⟨_, Go.Proofs.Try.func9, lfn9⟩
  · exact ⟨_, Go.Proofs.Try.func24, lfn24⟩
  · exact ⟨_, Go.Proofs.Try.func25, lfn25⟩
  · exact ⟨_, Go.Proofs.Try.func44, lfn44⟩
  · exact ⟨_, Go.Proofs.Try.func29, lfn29⟩
  · exact ⟨_, Go.Proofs.Try.func36, lfn36⟩
  · exact ⟨_, Go.Proofs.Try.func38, lfn38⟩
  · exact ⟨_, Go.Proofs.Try.func16, lfn16⟩
  · exact ⟨_, Go.Proofs.Try.func17, lfn17⟩
  · exact ⟨_, Go.Proofs.Try.func30, lfn30⟩
  · exact ⟨_, Go.Proofs.Try.func35, lfn35⟩
  · exact ⟨_, Go.Proofs.Try.func19, lfn19⟩
  · exact ⟨_, Go.Proofs.Try.func4, lfn4⟩)

end Go.E.Oscillators
