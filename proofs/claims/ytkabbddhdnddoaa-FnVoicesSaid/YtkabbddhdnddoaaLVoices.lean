/- The law of voices: what the evaluator finds. -/
import Derived.Test.YtkabbddhdnddoaaMVs
import Derived.Test.YtkabbddhdnddoaaEE
import Derived.Test.YtkabbddhdnddoaaProg
set_option linter.unusedVariables false
set_option linter.unusedSimpArgs false
namespace Go.E
open Go
def L3 : LFn := ⟨2, (.seq (.reg [⟨(.some 4), (.mv (.c (.lf (.bool false)))), none⟩])
 (.seq (.seq (.reg [⟨(.some 26), (.mv (.t 0)), none⟩, ⟨(.some 27), (.mv (.t 1)), none⟩, ⟨(.some 28), (.call true 6 [(.t 26), (.t 27)]), none⟩])
 (.cond (.t 28) (.seq (.reg [⟨(.some 4), (.mv (.c (.lf (.bool true)))), none⟩])
 .ret) .skip))
 (.seq (.reg [⟨(.some 29), (.mv (.t 0)), none⟩, ⟨(.some 30), (.call false 7 [(.t 29)]), none⟩, ⟨(.some 5), (.alloc 26 [(.int .i64 0), (.int .i64 0), (.flt .f32 0), (.int .i64 0)]), none⟩, ⟨none, (.store 4 (.t 5) (.t 30)), none⟩])
 (.seq (.reg [⟨(.some 31), (.mv (.t 1)), none⟩, ⟨(.some 32), (.call false 8 [(.t 31)]), none⟩, ⟨(.some 6), (.mv (.t 32)), none⟩])
 (.seq (.reg [⟨(.some 33), (.mv (.t 0)), none⟩, ⟨(.some 34), (.call true 9 [(.t 33), (.c (.lf (.int .i64 0))), (.c (.lf (.int .i64 4)))]), none⟩, ⟨(.some 7), (.mv (.t 34)), none⟩])
 (.seq (.reg [⟨(.some 35), (.mv (.t 1)), none⟩, ⟨(.some 36), (.call true 9 [(.t 35), (.c (.lf (.int .i64 0))), (.c (.lf (.int .i64 4)))]), none⟩, ⟨(.some 37), (.bin .add (.c (.lf (.int .i64 1))) (.t 36)), none⟩, ⟨(.some 8), (.mv (.t 37)), none⟩])
 (.seq (.reg [⟨(.some 9), (.mv (.c (.lf (.int .i64 60)))), none⟩])
 (.seq (.reg [⟨(.some 39), (.load true 4 (.t 5)), none⟩, ⟨(.some 40), (.mv (.t 6)), none⟩, ⟨(.some 41), (.mv (.t 8)), none⟩, ⟨(.some 42), (.call false 10 [(.t 39), (.t 40), (.t 41)]), none⟩, ⟨(.some 38), (.mv (.t 42)), none⟩, ⟨(.some 43), (.ext (.t 38) 0), none⟩, ⟨(.some 44), (.ext (.t 38) 1), none⟩, ⟨(.some 10), (.mv (.t 43)), none⟩, ⟨(.some 11), (.mv (.t 44)), none⟩])
 (.seq (.reg [⟨(.some 46), (.mv (.t 7)), none⟩, ⟨(.some 47), (.load true 4 (.t 5)), none⟩, ⟨(.some 48), (.mv (.t 6)), none⟩, ⟨(.some 49), (.mv (.t 8)), none⟩, ⟨(.some 50), (.mv (.t 9)), none⟩, ⟨(.some 51), (.call false 11 [(.t 46), (.t 47), (.t 48), (.t 49), (.t 50)]), none⟩, ⟨(.some 45), (.mv (.t 51)), none⟩, ⟨(.some 52), (.ext (.t 45) 0), none⟩, ⟨(.some 53), (.ext (.t 45) 1), none⟩, ⟨(.some 12), (.mv (.t 52)), none⟩, ⟨(.some 13), (.mv (.t 53)), none⟩])
 (.seq (.reg [⟨(.some 55), (.mv (.t 7)), none⟩, ⟨(.some 56), (.load true 4 (.t 5)), none⟩, ⟨(.some 57), (.mv (.t 6)), none⟩, ⟨(.some 58), (.mv (.t 9)), none⟩, ⟨(.some 59), (.call false 11 [(.t 55), (.t 56), (.t 57), (.c (.lf (.int .i64 12))), (.t 58)]), none⟩, ⟨(.some 54), (.mv (.t 59)), none⟩, ⟨(.some 60), (.ext (.t 54) 0), none⟩, ⟨(.some 61), (.ext (.t 54) 1), none⟩, ⟨(.some 14), (.mv (.t 60)), none⟩, ⟨(.some 15), (.mv (.t 61)), none⟩])
 (.seq (.seq (.reg [⟨(.some 62), (.mv (.t 11)), none⟩, ⟨(.some 63), (.una .not (.t 62)), none⟩, ⟨(.some 64), (.mv (.t 63)), none⟩, ⟨(.some 65), (.mv (.t 13)), (.some (64, false))⟩, ⟨(.some 66), (.una .not (.t 65)), (.some (64, false))⟩, ⟨(.some 67), (.pick (.t 64) (.c (.lf (.bool true))) (.t 66)), none⟩, ⟨(.some 68), (.mv (.t 67)), none⟩, ⟨(.some 69), (.mv (.t 15)), (.some (68, false))⟩, ⟨(.some 70), (.una .not (.t 69)), (.some (68, false))⟩, ⟨(.some 71), (.pick (.t 68) (.c (.lf (.bool true))) (.t 70)), none⟩, ⟨(.some 72), (.mv (.t 71)), none⟩, ⟨(.some 73), (.mv (.t 10)), (.some (72, false))⟩, ⟨(.some 74), (.len (.t 73)), (.some (72, false))⟩, ⟨(.some 75), (.mv (.t 6)), (.some (72, false))⟩, ⟨(.some 76), (.len (.t 75)), (.some (72, false))⟩, ⟨(.some 77), (.bin .neq (.t 74) (.t 76)), (.some (72, false))⟩, ⟨(.some 78), (.pick (.t 72) (.c (.lf (.bool true))) (.t 77)), none⟩, ⟨(.some 79), (.mv (.t 78)), none⟩, ⟨(.some 80), (.mv (.t 12)), (.some (79, false))⟩, ⟨(.some 81), (.len (.t 80)), (.some (79, false))⟩, ⟨(.some 82), (.mv (.t 9)), (.some (79, false))⟩, ⟨(.some 83), (.bin .neq (.t 81) (.t 82)), (.some (79, false))⟩, ⟨(.some 84), (.pick (.t 79) (.c (.lf (.bool true))) (.t 83)), none⟩, ⟨(.some 85), (.mv (.t 84)), none⟩, ⟨(.some 86), (.mv (.t 14)), (.some (85, false))⟩, ⟨(.some 87), (.len (.t 86)), (.some (85, false))⟩, ⟨(.some 88), (.mv (.t 9)), (.some (85, false))⟩, ⟨(.some 89), (.bin .neq (.t 87) (.t 88)), (.some (85, false))⟩, ⟨(.some 90), (.pick (.t 85) (.c (.lf (.bool true))) (.t 89)), none⟩, ⟨(.some 91), (.mv (.t 90)), none⟩, ⟨(.some 92), (.mv (.t 6)), (.some (91, false))⟩, ⟨(.some 93), (.call true 12 [(.t 92)]), (.some (91, false))⟩, ⟨(.some 94), (.una .not (.t 93)), (.some (91, false))⟩, ⟨(.some 95), (.pick (.t 91) (.c (.lf (.bool true))) (.t 94)), none⟩])
 (.cond (.t 95) (.seq (.reg [⟨(.some 4), (.mv (.c (.lf (.bool false)))), none⟩])
 .ret) .skip))
 (.seq (.reg [⟨(.some 96), (.mv (.t 9)), none⟩, ⟨(.some 97), (.make 24 1 4 [(.flt .f32 0)] (.t 96) (.t 96)), none⟩, ⟨(.some 16), (.mv (.t 97)), none⟩])
 (.seq (.reg [⟨(.some 98), (.mv (.t 9)), none⟩, ⟨(.some 99), (.make 24 1 4 [(.flt .f32 0)] (.t 98) (.t 98)), none⟩, ⟨(.some 17), (.mv (.t 99)), none⟩])
 (.seq (.reg [⟨(.some 100), (.mv (.t 9)), none⟩, ⟨(.some 101), (.make 2 1 8 [(.int .i64 0)] (.t 100) (.t 100)), none⟩, ⟨(.some 18), (.mv (.t 101)), none⟩])
 (.seq (.seq (.reg [⟨(.some 102), (.mv (.t 6)), none⟩, ⟨(.some 103), (.len (.t 102)), none⟩, ⟨(.some 104), (.mv (.c (.lf (.int .i64 0)))), none⟩])
 (.block 0 (.loop (.seq (.reg [⟨(.some 105), (.bin .lss (.t 104) (.t 103)), none⟩])
 (.seq (.cond (.t 105) .skip (.exit 0))
 (.seq (.block 1 (.seq (.reg [⟨(.some 106), (.mv (.t 104)), none⟩, ⟨(.some 19), (.mv (.t 106)), none⟩])
 (.seq (.reg [⟨(.some 108), (.mv (.t 7)), none⟩, ⟨(.some 109), (.load true 4 (.t 5)), none⟩, ⟨(.some 110), (.mv (.t 6)), none⟩, ⟨(.some 111), (.mv (.t 19)), none⟩, ⟨(.some 112), (.iaddr 4 (.t 110) (.t 111)), none⟩, ⟨(.some 113), (.load true 4 (.t 112)), none⟩, ⟨(.some 114), (.mv (.t 9)), none⟩, ⟨(.some 115), (.call false 13 [(.t 108), (.t 109), (.t 113), (.t 114)]), none⟩, ⟨(.some 107), (.mv (.t 115)), none⟩, ⟨(.some 116), (.ext (.t 107) 0), none⟩, ⟨(.some 117), (.ext (.t 107) 1), none⟩, ⟨(.some 20), (.mv (.t 116)), none⟩, ⟨(.some 21), (.mv (.t 117)), none⟩])
 (.seq (.reg [⟨(.some 119), (.load true 4 (.t 5)), none⟩, ⟨(.some 120), (.mv (.t 6)), none⟩, ⟨(.some 121), (.mv (.t 19)), none⟩, ⟨(.some 122), (.iaddr 4 (.t 120) (.t 121)), none⟩, ⟨(.some 123), (.load true 4 (.t 122)), none⟩, ⟨(.some 124), (.call true 14 [(.t 119), (.t 123)]), none⟩, ⟨(.some 118), (.mv (.t 124)), none⟩, ⟨(.some 125), (.ext (.t 118) 0), none⟩, ⟨(.some 126), (.ext (.t 118) 1), none⟩, ⟨(.some 22), (.mv (.t 125)), none⟩, ⟨(.some 23), (.mv (.t 126)), none⟩])
 (.seq (.seq (.reg [⟨(.some 127), (.mv (.t 21)), none⟩, ⟨(.some 128), (.una .not (.t 127)), none⟩, ⟨(.some 129), (.mv (.t 128)), none⟩, ⟨(.some 130), (.mv (.t 23)), (.some (129, false))⟩, ⟨(.some 131), (.una .not (.t 130)), (.some (129, false))⟩, ⟨(.some 132), (.pick (.t 129) (.c (.lf (.bool true))) (.t 131)), none⟩, ⟨(.some 133), (.mv (.t 132)), none⟩, ⟨(.some 134), (.mv (.t 20)), (.some (133, false))⟩, ⟨(.some 135), (.len (.t 134)), (.some (133, false))⟩, ⟨(.some 136), (.mv (.t 9)), (.some (133, false))⟩, ⟨(.some 137), (.bin .neq (.t 135) (.t 136)), (.some (133, false))⟩, ⟨(.some 138), (.pick (.t 133) (.c (.lf (.bool true))) (.t 137)), none⟩, ⟨(.some 139), (.mv (.t 138)), none⟩, ⟨(.some 140), (.mv (.t 10)), (.some (139, false))⟩, ⟨(.some 141), (.mv (.t 19)), (.some (139, false))⟩, ⟨(.some 142), (.iaddr 1 (.t 140) (.t 141)), (.some (139, false))⟩, ⟨(.some 143), (.load false 1 (.t 142)), (.some (139, false))⟩, ⟨(.some 144), (.mv (.t 22)), (.some (139, false))⟩, ⟨(.some 145), (.bin .gtr (.t 143) (.t 144)), (.some (139, false))⟩, ⟨(.some 146), (.pick (.t 139) (.c (.lf (.bool true))) (.t 145)), none⟩, ⟨(.some 147), (.mv (.t 146)), none⟩, ⟨(.some 148), (.mv (.t 10)), (.some (147, false))⟩, ⟨(.some 149), (.mv (.t 19)), (.some (147, false))⟩, ⟨(.some 150), (.iaddr 1 (.t 148) (.t 149)), (.some (147, false))⟩, ⟨(.some 151), (.load false 1 (.t 150)), (.some (147, false))⟩, ⟨(.some 152), (.mv (.t 6)), (.some (147, false))⟩, ⟨(.some 153), (.mv (.t 19)), (.some (147, false))⟩, ⟨(.some 154), (.iaddr 4 (.t 152) (.t 153)), (.some (147, false))⟩, ⟨(.some 155), (.faddr 0 (.t 154)), (.some (147, false))⟩, ⟨(.some 156), (.load false 1 (.t 155)), (.some (147, false))⟩, ⟨(.some 157), (.bin .lss (.t 151) (.t 156)), (.some (147, false))⟩, ⟨(.some 158), (.pick (.t 147) (.c (.lf (.bool true))) (.t 157)), none⟩])
 (.cond (.t 158) (.seq (.reg [⟨(.some 4), (.mv (.c (.lf (.bool false)))), none⟩])
 .ret) .skip))
 (.seq (.reg [⟨(.some 24), (.mv (.c (.lf (.int .i64 0)))), none⟩])
 (.block 2 (.loop (.seq (.seq (.reg [⟨(.some 159), (.mv (.t 24)), none⟩, ⟨(.some 160), (.mv (.t 9)), none⟩, ⟨(.some 161), (.bin .lss (.t 159) (.t 160)), none⟩])
 (.cond (.t 161) .skip (.exit 2)))
 (.seq (.block 3 (.seq (.seq (.reg [⟨(.some 164), (.mv (.t 24)), none⟩, ⟨(.some 165), (.mv (.t 6)), none⟩, ⟨(.some 166), (.mv (.t 19)), none⟩, ⟨(.some 167), (.iaddr 4 (.t 165) (.t 166)), none⟩, ⟨(.some 168), (.faddr 0 (.t 167)), none⟩, ⟨(.some 169), (.load false 1 (.t 168)), none⟩, ⟨(.some 170), (.bin .geq (.t 164) (.t 169)), none⟩, ⟨(.some 171), (.mv (.t 170)), none⟩, ⟨(.some 172), (.mv (.t 24)), (.some (171, true))⟩, ⟨(.some 173), (.mv (.t 22)), (.some (171, true))⟩, ⟨(.some 174), (.bin .lss (.t 172) (.t 173)), (.some (171, true))⟩, ⟨(.some 175), (.pick (.t 171) (.t 174) (.c (.lf (.bool false)))), none⟩])
 (.cond (.t 175) (.reg [⟨(.some 176), (.mv (.t 16)), none⟩, ⟨(.some 177), (.mv (.t 24)), none⟩, ⟨(.some 178), (.iaddr 1 (.t 176) (.t 177)), none⟩, ⟨(.some 179), (.load false 1 (.t 178)), none⟩, ⟨(.some 180), (.mv (.t 20)), none⟩, ⟨(.some 181), (.mv (.t 24)), none⟩, ⟨(.some 182), (.iaddr 1 (.t 180) (.t 181)), none⟩, ⟨(.some 183), (.load false 1 (.t 182)), none⟩, ⟨(.some 184), (.bin .add (.t 179) (.t 183)), none⟩, ⟨(.some 185), (.iaddr 1 (.t 176) (.t 177)), none⟩, ⟨none, (.store 1 (.t 185) (.t 184)), none⟩]) .skip))
 (.seq (.reg [⟨(.some 186), (.mv (.t 24)), none⟩, ⟨(.some 187), (.mv (.t 6)), none⟩, ⟨(.some 188), (.mv (.t 19)), none⟩, ⟨(.some 189), (.iaddr 4 (.t 187) (.t 188)), none⟩, ⟨(.some 190), (.faddr 0 (.t 189)), none⟩, ⟨(.some 191), (.load false 1 (.t 190)), none⟩, ⟨(.some 192), (.bin .geq (.t 186) (.t 191)), none⟩, ⟨(.some 193), (.mv (.t 192)), none⟩, ⟨(.some 194), (.mv (.t 24)), (.some (193, true))⟩, ⟨(.some 195), (.mv (.t 10)), (.some (193, true))⟩, ⟨(.some 196), (.mv (.t 19)), (.some (193, true))⟩, ⟨(.some 197), (.iaddr 1 (.t 195) (.t 196)), (.some (193, true))⟩, ⟨(.some 198), (.load false 1 (.t 197)), (.some (193, true))⟩, ⟨(.some 199), (.bin .lss (.t 194) (.t 198)), (.some (193, true))⟩, ⟨(.some 200), (.pick (.t 193) (.t 199) (.c (.lf (.bool false)))), none⟩])
 (.cond (.t 200) (.seq (.reg [⟨(.some 201), (.mv (.t 17)), none⟩, ⟨(.some 202), (.mv (.t 24)), none⟩, ⟨(.some 203), (.iaddr 1 (.t 201) (.t 202)), none⟩, ⟨(.some 204), (.load false 1 (.t 203)), none⟩, ⟨(.some 205), (.mv (.t 20)), none⟩, ⟨(.some 206), (.mv (.t 24)), none⟩, ⟨(.some 207), (.iaddr 1 (.t 205) (.t 206)), none⟩, ⟨(.some 208), (.load false 1 (.t 207)), none⟩, ⟨(.some 209), (.bin .add (.t 204) (.t 208)), none⟩, ⟨(.some 210), (.iaddr 1 (.t 201) (.t 202)), none⟩, ⟨none, (.store 1 (.t 210) (.t 209)), none⟩])
 (.reg [⟨(.some 211), (.mv (.t 18)), none⟩, ⟨(.some 212), (.mv (.t 24)), none⟩, ⟨(.some 213), (.iaddr 1 (.t 211) (.t 212)), none⟩, ⟨(.some 214), (.load false 1 (.t 213)), none⟩, ⟨(.some 215), (.bin .add (.t 214) (.c (.lf (.int .i64 1)))), none⟩, ⟨(.some 216), (.iaddr 1 (.t 211) (.t 212)), none⟩, ⟨none, (.store 1 (.t 216) (.t 215)), none⟩])) .skip))))
 (.reg [⟨(.some 162), (.mv (.t 24)), none⟩, ⟨(.some 163), (.bin .add (.t 162) (.c (.lf (.int .i64 1)))), none⟩, ⟨(.some 24), (.mv (.t 163)), none⟩])))))))))))
 (.reg [⟨(.some 217), (.bin .add (.t 104) (.c (.lf (.int .i64 1)))), none⟩, ⟨(.some 104), (.mv (.t 217)), none⟩])))))))
 (.seq (.seq (.reg [⟨(.some 25), (.mv (.c (.lf (.int .i64 0)))), none⟩])
 (.block 4 (.loop (.seq (.seq (.reg [⟨(.some 218), (.mv (.t 25)), none⟩, ⟨(.some 219), (.mv (.t 9)), none⟩, ⟨(.some 220), (.bin .lss (.t 218) (.t 219)), none⟩])
 (.cond (.t 220) .skip (.exit 4)))
 (.seq (.block 5 (.seq (.reg [⟨(.some 223), (.mv (.t 18)), none⟩, ⟨(.some 224), (.mv (.t 25)), none⟩, ⟨(.some 225), (.iaddr 1 (.t 223) (.t 224)), none⟩, ⟨(.some 226), (.load false 1 (.t 225)), none⟩, ⟨(.some 227), (.mv (.t 8)), none⟩, ⟨(.some 228), (.bin .gtr (.t 226) (.t 227)), none⟩])
 (.cond (.t 228) (.seq (.reg [⟨(.some 4), (.mv (.c (.lf (.bool false)))), none⟩])
 .ret) .skip)))
 (.reg [⟨(.some 221), (.mv (.t 25)), none⟩, ⟨(.some 222), (.bin .add (.t 221) (.c (.lf (.int .i64 1)))), none⟩, ⟨(.some 25), (.mv (.t 222)), none⟩]))))))
 (.seq (.reg [⟨(.some 229), (.mv (.t 16)), none⟩, ⟨(.some 230), (.mv (.t 14)), none⟩, ⟨(.some 231), (.call true 15 [(.t 229), (.t 230)]), none⟩, ⟨(.some 232), (.mv (.t 231)), none⟩, ⟨(.some 233), (.mv (.t 17)), (.some (232, true))⟩, ⟨(.some 234), (.mv (.t 12)), (.some (232, true))⟩, ⟨(.some 235), (.call true 15 [(.t 233), (.t 234)]), (.some (232, true))⟩, ⟨(.some 236), (.pick (.t 232) (.t 235) (.c (.lf (.bool false)))), none⟩, ⟨(.some 4), (.mv (.t 236)), none⟩])
 .ret))))))))))))))))), [(.tmp 4)]⟩
class HasLVoices (S : Sys) : Prop extends HasVs S, HasDv S, HasRa S, HasRt S, HasEn S, HasV S where
  f3 : S.fs 3 = some L3
set_option maxRecDepth 20000 in
set_option maxHeartbeats 16000000 in
theorem lawVoices {S : Sys} [HasLVoices S] : LawHolds S 3 [(false, .sl 1 (.int .u8)), (false, .sl 1 (.int .u8))] := by
  intro h cs hcs
  obtain ⟨c0, _, rfl, ⟨ls0, rfl, l, rows, rfl, hA, hrows⟩, c1, _, rfl, ⟨ls1, rfl, l2, rows2, rfl, hB, hrows2⟩, rfl⟩ := hcs
  obtain ⟨xs, rfl, hx⟩ := rows_map fun r hr => ul_of (hrows r hr)
  obtain ⟨ys, rfl, hy⟩ := rows_map fun r hr => ul_of (hrows2 r hr)
  clear hrows hrows2
  refine law_of (F := L3) HasLVoices.f3 rfl ?_
  have hlong := fun lim K => c_b10Long (S := S) (lim := lim) (K := K) hA hB
  generalize (decide (1048576 < (xs.length : Int)) || decide (1048576 < (ys.length : Int))) = long at *
  obtain ⟨k, hk4, hk⟩ := c_b10At (S := S) (k := 0) (n := 4) hA hx (by decide) (by decide) (by decide)
  obtain ⟨v, hv4, hv⟩ := c_b10At (S := S) (k := 0) (n := 4) hB hy (by decide) (by decide) (by decide)
  replace hk : ∀ g, Kept h g → ∀ lim K, CallT S true 9 [.lf l, .lf (.int .i64 0), .lf (.int .i64 4)] g lim K = K (.lf (.int .i64 k)) g := hk
  replace hv : ∀ g, Kept h g → ∀ lim K, CallT S true 9 [.lf l2, .lf (.int .i64 0), .lf (.int .i64 4)] g lim K = K (.lf (.int .i64 v)) g := hv
  have henv := fun K hK => c_B10Envelope (S := S) (lim := h.length) (K := K) hA hx (Nat.le_refl _) hK
  cases long
  rotate_left
  · unfold L3
    dsimp only []
    repeat' (first | (simp (disch := first | omega | assumption | (simp only [List.length_set]; omega) | (simp [*] <;> fail) | assumption) [-Bool.decide_and, -Bool.decide_or, -Bool.not_and, -Bool.not_or, toNat_pred, toNat_succ, wrap64, wr_new, wr_new0, ok_if, ok_ifn, iadV_sl, makeV_int, decT, decF, over_at, *]) | (with_reducible refine Gd_split (fun hc => ?_) (fun hc => ?_) <;> (have hc2 := hc; try simp at hc2)) | (with_reducible refine Br_split (fun hc => ?_) (fun hc => ?_) <;> (have hc2 := hc; try simp at hc2)) | (with_reducible refine GdT_split (fun hc => ?_) (fun hc => ?_) <;> (have hc2 := hc; try simp at hc2)) | (with_reducible refine WT_alt ?_ ?_) | omega)
  unfold L3
  dsimp only []
  repeat' (first | (simp (disch := first | omega | assumption | (simp only [List.length_set]; omega) | (simp [*] <;> fail) | assumption) [-Bool.decide_and, -Bool.decide_or, -Bool.not_and, -Bool.not_or, toNat_pred, toNat_succ, wrap64, wr_new, wr_new0, ok_if, ok_ifn, iadV_sl, makeV_int, decT, decF, over_at, *]) | (with_reducible refine Gd_split (fun hc => ?_) (fun hc => ?_) <;> (have hc2 := hc; try simp at hc2)) | (with_reducible refine Br_split (fun hc => ?_) (fun hc => ?_) <;> (have hc2 := hc; try simp at hc2)) | (with_reducible refine GdT_split (fun hc => ?_) (fun hc => ?_) <;> (have hc2 := hc; try simp at hc2)) | (with_reducible refine WT_alt ?_ ?_) | omega)
  refine henv _ fun e he1 he2 _ he4 t => ?_
  have hec : e.cells.length = 4 := rfl
  have kb : Kept h (h ++ (t ++ [⟨e.cells, .own 26 1⟩])) := Kept.app h _
  have be : rdCells (h ++ (t ++ [⟨e.cells, .own 26 1⟩])) (h.length + t.length) 0 4 = some e.cells := by
    simp [rdCells, Ob.live, hec]
    exact List.take_of_length_le (by omega)
  clear henv hlong
  repeat' (first | (simp (disch := first | omega | assumption | (simp only [List.length_set]; omega) | (simp [*] <;> fail) | assumption) [-Bool.decide_and, -Bool.decide_or, -Bool.not_and, -Bool.not_or, toNat_pred, toNat_succ, wrap64, wr_new, wr_new0, ok_if, ok_ifn, iadV_sl, makeV_int, decT, decF, over_at, *]) | (with_reducible refine Gd_split (fun hc => ?_) (fun hc => ?_) <;> (have hc2 := hc; try simp at hc2)) | (with_reducible refine Br_split (fun hc => ?_) (fun hc => ?_) <;> (have hc2 := hc; try simp at hc2)) | (with_reducible refine GdT_split (fun hc => ?_) (fun hc => ?_) <;> (have hc2 := hc; try simp at hc2)) | (with_reducible refine WT_alt ?_ ?_) | omega)
  generalize (h ++ (t ++ [⟨e.cells, .own 26 1⟩]) : Hp) = H0 at *
  generalize h.length + t.length = IE at *
  have hl0 := kb.1
  refine c_B10Notes (hB.kept kb) hy hl0 fun on ps g1 hN hup hps => ?_
  have k1 := hN.kept
  have be1 := k1.rd be
  have hk1 := hk g1 (kb.trans k1)
  have hv1 := hv g1 (kb.trans k1)
  have hl1 := k1.1
  have hNA := hN.arr
  have hareN : areNotes ps := ⟨by omega, hup⟩
  have hheld : held3 e.a e.d e.r = true := by unfold held3; simp only [decide_eq_true_eq]; omega
  obtain ⟨V, hV⟩ : ∃ V : Int, 1 + (v : Int) = V := ⟨_, rfl⟩
  have hV1 : 1 ≤ V ∧ V ≤ 4 := by omega
  have okE : okEn e ps V := ⟨hheld, hareN, by omega, by omega⟩
  have okE12 : okEn e ps 12 := ⟨hheld, hareN, by omega, by omega⟩
  have hends := fun K hK => d_implEndsOfNotes (S := S) (lim := h.length) (h := g1) (K := K) (e := e) (v := V) hNA (by omega) hK
  rw [decide_eq_true okE] at hends
  unfold endsN at hends
  rw [if_pos okE] at hends
  have hAN := fun g kg lim K => c_AreNotes (S := S) (h := g) (lim := lim) (K := K) (hNA.kept kg)
  rw [decide_eq_true hareN] at hAN
  have hrn : ∀ {g : Hp} {w : Int} {K : CV → Hp → Prop}, Kept g1 g → okEn e ps w → (∀ o g', New g g' o 24 1 ((raTo k e ps w 60 ps.length).map fl) → K (.tup [.lf o, .lf (.bool true)]) g') → CallT S false 11 [.lf (.int .i64 k), .agg e.cells, .lf on, .lf (.int .i64 w), .lf (.int .i64 60)] g h.length K := by
    intro g w K kg ok hK
    have okR : okRa k e ps w 60 := ⟨by omega, ok, by omega, by omega⟩
    refine c_implRenderNotes (hNA.kept kg) (by have := kg.1; omega) fun o g' hO => ?_
    rw [decide_eq_true okR]
    unfold raR at hO
    rw [if_pos okR] at hO
    exact hK o g' hO
  clear hk hv
  repeat' (first | (simp (disch := first | omega | assumption | (simp only [List.length_set]; omega) | (simp [*] <;> fail) | assumption) [-Bool.decide_and, -Bool.decide_or, -Bool.not_and, -Bool.not_or, toNat_pred, toNat_succ, wrap64, wr_new, wr_new0, ok_if, ok_ifn, iadV_sl, makeV_int, decT, decF, over_at, *]) | (with_reducible refine Gd_split (fun hc => ?_) (fun hc => ?_) <;> (have hc2 := hc; try simp at hc2)) | (with_reducible refine Br_split (fun hc => ?_) (fun hc => ?_) <;> (have hc2 := hc; try simp at hc2)) | (with_reducible refine GdT_split (fun hc => ?_) (fun hc => ?_) <;> (have hc2 := hc; try simp at hc2)) | (with_reducible refine WT_alt ?_ ?_) | omega)
  refine hends _ fun oe g2 hE => ?_
  clear hends
  have k2 := hE.kept
  have be2 := k2.rd be1
  repeat' (first | (simp (disch := first | omega | assumption | (simp only [List.length_set]; omega) | (simp [*] <;> fail) | assumption) [-Bool.decide_and, -Bool.decide_or, -Bool.not_and, -Bool.not_or, toNat_pred, toNat_succ, wrap64, wr_new, wr_new0, ok_if, ok_ifn, iadV_sl, makeV_int, decT, decF, over_at, *]) | (with_reducible refine Gd_split (fun hc => ?_) (fun hc => ?_) <;> (have hc2 := hc; try simp at hc2)) | (with_reducible refine Br_split (fun hc => ?_) (fun hc => ?_) <;> (have hc2 := hc; try simp at hc2)) | (with_reducible refine GdT_split (fun hc => ?_) (fun hc => ?_) <;> (have hc2 := hc; try simp at hc2)) | (with_reducible refine WT_alt ?_ ?_) | omega)
  refine hrn k2 okE fun o1 g3 hS1 => ?_
  have k3 := k2.trans hS1.kept
  have be3 := hS1.kept.rd be2
  repeat' (first | (simp (disch := first | omega | assumption | (simp only [List.length_set]; omega) | (simp [*] <;> fail) | assumption) [-Bool.decide_and, -Bool.decide_or, -Bool.not_and, -Bool.not_or, toNat_pred, toNat_succ, wrap64, wr_new, wr_new0, ok_if, ok_ifn, iadV_sl, makeV_int, decT, decF, over_at, *]) | (with_reducible refine Gd_split (fun hc => ?_) (fun hc => ?_) <;> (have hc2 := hc; try simp at hc2)) | (with_reducible refine Br_split (fun hc => ?_) (fun hc => ?_) <;> (have hc2 := hc; try simp at hc2)) | (with_reducible refine GdT_split (fun hc => ?_) (fun hc => ?_) <;> (have hc2 := hc; try simp at hc2)) | (with_reducible refine WT_alt ?_ ?_) | omega)
  refine hrn k3 okE12 fun o2 g4 hS2 => ?_
  have k4 := k3.trans hS2.kept
  have be4 := hS2.kept.rd be3
  have hE4 := hE.arr.kept (hS1.kept.trans hS2.kept)
  have hS14 := hS1.arr.kept hS2.kept
  have hS24 := hS2.arr
  have hN4 := hNA.kept k4
  have hel : (endsTo ps V e.r ps.length).length = ps.length := endsTo_len (Nat.le_refl _)
  have hlE := hE4.len
  have hl1' := hS14.len
  have hl2' := hS24.len
  rw [hel] at hlE
  rw [raTo_len] at hl1' hl2'
  have hA4 := hAN _ k4
  have hg4 : h.length ≤ g4.length := by have := k4.1; omega
  have cf1 := raTo_CF (k := k) (e := e) (ps := ps) (v := V) (n := 60) (i := ps.length)
  have cf2 := raTo_CF (k := k) (e := e) (ps := ps) (v := 12) (n := 60) (i := ps.length)
  clear hrn hAN k1 hl1 hl0 be1 be2 be3 hE hS1 hS2 hN hNA k2 k3 hk1 hv1
  have hlN := hN4.len
  obtain ⟨Z, hZ⟩ : ∃ Z, Hid (Z = List.replicate 60 (Lf.flt .f32 0)) := ⟨_, rfl⟩
  obtain ⟨ZI, hZI⟩ : ∃ Z, Hid (Z = List.replicate 60 (Lf.int .i64 0)) := ⟨_, rfl⟩
  have mk32 : ∀ g, makeV 24 1 4 [.flt .f32 0] g (.lf (.int .i64 60)) (.lf (.int .i64 60)) = some (.lf (.sl g.length 0 60 1), g ++ [⟨Z, .own 24 1⟩]) := fun g => by
    rw [show Z = _ from hZ]; rfl
  have mk64 : ∀ g, makeV 2 1 8 [.int .i64 0] g (.lf (.int .i64 60)) (.lf (.int .i64 60)) = some (.lf (.sl g.length 0 60 1), g ++ [⟨ZI, .own 2 1⟩]) := fun g => by
    rw [show ZI = _ from hZI]; rfl
  have z1 : New g4 (g4 ++ [⟨Z, .own 24 1⟩, ⟨Z, .own 24 1⟩, ⟨ZI, .own 2 1⟩]) (.sl g4.length 0 60 1) 24 1 ((List.replicate 60 0).map fl) := by
    have := (New.zer (n := 60) (Kept.refl g4) (by omega)).later (Kept.app _ [⟨Z, .own 24 1⟩, ⟨ZI, .own 2 1⟩])
    rw [← show Z = _ from hZ, List.append_assoc] at this
    exact this
  have z2 : New g4 (g4 ++ [⟨Z, .own 24 1⟩, ⟨Z, .own 24 1⟩, ⟨ZI, .own 2 1⟩]) (.sl (g4.length + 1) 0 60 1) 24 1 ((List.replicate 60 0).map fl) := by
    have := (New.zer (n := 60) (Kept.app g4 [⟨Z, .own 24 1⟩]) (by omega)).later (Kept.app _ [⟨ZI, .own 2 1⟩])
    rw [← show Z = _ from hZ, List.append_assoc, List.append_assoc, List.length_append] at this
    exact this
  have z3 : New g4 (g4 ++ [⟨Z, .own 24 1⟩, ⟨Z, .own 24 1⟩, ⟨ZI, .own 2 1⟩]) (.sl (g4.length + 2) 0 60 1) 2 1 ((List.replicate 60 0).map il) := by
    have := New.of_sl ((Kept.app g4 [⟨Z, .own 24 1⟩, ⟨Z, .own 24 1⟩]).trans (Kept.app _ _)) (Sl.make (h := g4 ++ [⟨Z, .own 24 1⟩, ⟨Z, .own 24 1⟩]) (ty := 2) (sz := 1) (n := 60) (z := [.int .i64 0]) rfl) (by simp) (by simp)
    have e : (List.replicate 60 [Lf.int .i64 0]).flatten = ZI := by rw [show ZI = _ from hZI]; rfl
    rw [e, List.append_assoc, List.length_append, List.length_replicate] at this
    exact this
  repeat' (first | (simp (disch := first | omega | assumption | (simp only [List.length_set]; omega) | (simp [*] <;> fail) | assumption) [-Bool.decide_and, -Bool.decide_or, -Bool.not_and, -Bool.not_or, toNat_pred, toNat_succ, wrap64, wr_new, wr_new0, ok_if, ok_ifn, iadV_sl, makeV_int, decT, decF, over_at, *, hl1', hl2', hlE, hlN]) | (with_reducible refine Gd_split (fun hc => ?_) (fun hc => ?_) <;> (have hc2 := hc; try simp at hc2)) | (with_reducible refine Br_split (fun hc => ?_) (fun hc => ?_) <;> (have hc2 := hc; try simp at hc2)) | (with_reducible refine GdT_split (fun hc => ?_) (fun hc => ?_) <;> (have hc2 := hc; try simp at hc2)) | (with_reducible refine WT_alt ?_ ?_) | omega)
  clear mk32 mk64 hZ hZI hl1' hl2' hlE hA4
  obtain ⟨su, hsu⟩ : ∃ su, (.sl g4.length 0 60 1 : Lf) = su := ⟨_, rfl⟩
  obtain ⟨pa, hpa⟩ : ∃ su, (.sl (g4.length + 1) 0 60 1 : Lf) = su := ⟨_, rfl⟩
  obtain ⟨so, hso⟩ : ∃ su, (.sl (g4.length + 2) 0 60 1 : Lf) = su := ⟨_, rfl⟩
  have i1 : su.id ≤ g4.length ∧ g4.length ≤ su.id := by rw [← hsu]; exact ⟨Nat.le_refl _, Nat.le_refl _⟩
  have i2 : pa.id ≤ g4.length + 1 ∧ g4.length + 1 ≤ pa.id := by rw [← hpa]; exact ⟨Nat.le_refl _, Nat.le_refl _⟩
  have i3 : so.id ≤ g4.length + 2 ∧ g4.length + 2 ≤ so.id := by rw [← hso]; exact ⟨Nat.le_refl _, Nat.le_refl _⟩
  rw [hsu] at z1 ⊢
  rw [hpa] at z2 ⊢
  rw [hso] at z3 ⊢
  clear hsu hpa hso
  have hEn := endsTo_len (ps := ps) (v := V) (r := e.r) (i := ps.length) (Nat.le_refl _)
  have z3' : New g4 (g4 ++ [⟨Z, .own 24 1⟩, ⟨Z, .own 24 1⟩, ⟨ZI, .own 2 1⟩]) so 2 1 ((sndL ps (endsTo ps V e.r ps.length) 0).map il) := by
    have q : sndL ps (endsTo ps V e.r ps.length) 0 = List.replicate 60 0 := by
      apply List.ext_getElem
      · simp
      · intro j h1 h2; rw [sndL_get, List.getElem_replicate]; rfl
    rw [q]; exact z3
  have hg7 : (g4 ++ [⟨Z, .own 24 1⟩, ⟨Z, .own 24 1⟩, ⟨ZI, .own 2 1⟩] : Hp).length = g4.length + 3 := by simp
  refine WL_forM 421249166674228746791672110734681708993170777950526021070025654288 (by decide +kernel) (ps.length) (fun i b g => i ≤ ps.length ∧ b 104 = .lf (.int .i64 i) ∧ New g4 g su 24 1 ((raTo k e ps 12 60 i).map fl) ∧ New g4 g pa 24 1 ((raTo k e ps V 60 i).map fl) ∧ New g4 g so 2 1 ((sndL ps (endsTo ps V e.r ps.length) i).map il) ∧ g4.length + 3 ≤ g.length) (fun _ _ _ hi => hi.1) ⟨by omega, by simp, z1, z2, z3', by omega⟩ ?_
  clear z1 z2 z3 z3'
  rintro i b g ⟨hi, e104, hS, hP, hC, hgl⟩
  have hkg := hS.kept
  have hNg := hN4.kept hkg
  have beg := hkg.rd be4
  simp only [Ev.cells] at beg
  by_cases hlt : i < ps.length
  · have hno := (hup i hlt hlt).1
    unfold noteOk at hno
    have hnn := hno
    simp only [noted, decide_eq_true_eq] at hnn
    have okT : okRt k e.a e.d e.r ps[i].st ps[i].du ps[i].pi 60 := ⟨by omega, hheld, hno, by omega, by omega⟩
    have hrt := fun (Q : Nt) K hK => c_implRenderNote (S := S) (lim := h.length) (h := g) (K := K) (k := k) (a := e.a) (d := e.d) (s := e.s) (r := e.r) (b := Q.st) (u := Q.du) (p := Q.pi) (g := Q.ga) (n := 60) (by omega) hK
    replace hrt := hrt ps[i]
    rw [decide_eq_true okT] at hrt
    unfold rtR at hrt
    rw [if_pos okT] at hrt
    obtain ⟨X, hX⟩ : ∃ X, tabTo (noteR k e ps[i]).val 60 = X := ⟨_, rfl⟩
    have hrt2 : ∀ (K : CV → Hp → Prop), (∀ o g', New g g' o 24 1 (X.map fl) → K (.tup [.lf o, .lf (.bool true)]) g') → CallT S false 13 [.lf (.int .i64 k), .agg [.int .i64 e.a, .int .i64 e.d, .flt .f32 e.s, .int .i64 e.r], .agg [.int .i64 ps[i].st, .int .i64 ps[i].du, .int .i64 ps[i].pi, .flt .f32 ps[i].ga], .lf (.int .i64 60)] g h.length K := by
      rw [← hX]; exact hrt
    have hXl : X.length = 60 := by rw [← hX]; exact tabTo_len
    have heo : endOfNote e.a e.d e.r ps[i].st ps[i].du ps[i].pi = [.lf (.int .i64 (ps[i].st + ps[i].du + e.r)), .lf (.bool true)] := by unfold endOfNote; rw [if_pos ⟨hheld, hno⟩]
    have hiE : i < (endsTo ps V e.r ps.length).length := by omega
    have hgd : (endsTo ps V e.r ps.length).getD i 0 = (endsTo ps V e.r ps.length)[i] := by simp [hiE]
    have hrg := ends_range hup (by omega) hV1.1 (Nat.le_refl _) (r := e.r) i hlt hlt
    rw [hgd] at hrg
    obtain ⟨B, hB⟩ : ∃ B : Nat, (B : Int) = ps[i].st := ⟨ps[i].st.toNat, by omega⟩
    have hBn : ps[i].st.toNat = B := by omega
    have s1 : Hid (raTo k e ps 12 60 (i + 1) = addW B (ps[i].st + ps[i].du + e.r) X (raTo k e ps 12 60 i) 60) := by
      show raTo k e ps 12 60 (i + 1) = _
      rw [raTo_succ hlt, ends_own (by omega) (Nat.le_refl _) i hlt hlt, hX, hBn]
    have s2 : Hid (raTo k e ps V 60 (i + 1) = addW B (endsTo ps V e.r ps.length)[i] X (raTo k e ps V 60 i) 60) := by
      show raTo k e ps V 60 (i + 1) = _
      rw [raTo_succ hlt, hgd, hX, hBn]
    have s3 : Hid (sndL ps (endsTo ps V e.r ps.length) (i + 1) = addI B (endsTo ps V e.r ps.length)[i] (sndL ps (endsTo ps V e.r ps.length) i) 60) := by
      show sndL ps (endsTo ps V e.r ps.length) (i + 1) = _
      rw [sndL_succ hlt hB, hgd]
    have l1 : (raTo k e ps 12 60 i).length = 60 := raTo_len
    have l2 : (raTo k e ps V 60 i).length = 60 := raTo_len
    have l3 : (sndL ps (endsTo ps V e.r ps.length) i).length = 60 := sndL_len
    generalize hc1 : raTo k e ps 12 60 i = cur1 at *
    generalize hc2 : raTo k e ps V 60 i = cur2 at *
    generalize hc3 : sndL ps (endsTo ps V e.r ps.length) i = cur3 at *
    obtain ⟨own, hown⟩ : ∃ own, ps[i].st + ps[i].du + e.r = own := ⟨_, rfl⟩
    rw [hown] at s1 heo hrg
    have hE4' := hE4
    generalize hee : (endsTo ps V e.r ps.length)[i] = ee at *
    have aE := fun g (kg : Kept g4 g) => (hE4.kept kg).at_ (k := .i64) hiE
    have dE := fun g (kg : Kept g4 g) => (hE4.kept kg).rd1 hiE
    rw [hee] at dE
    have aN := fun g (kg : Kept g4 g) => (hN4.kept kg).at_ (k := .i64) hlt
    have dN := fun g (kg : Kept g4 g) => (hN4.kept kg).rd hlt
    have dNz := fun g (kg : Kept g4 g) => (hN4.kept kg).rdIn0 (i := i) (m := 1) hlt (by omega)
    simp only [Nt.cells, List.take_succ_cons, List.take_zero] at dN dNz
    clear hrt okT hgd hX hBn hc1 hc2 hE4'
    have aN0 := aN g hkg
    have dNx0 := dN g hkg
    have dZ0 := dNz g hkg
    have aE0 := aE g hkg
    have dE0 := dE g hkg
    repeat' (first | (simp (disch := first | omega | assumption | (simp only [List.length_set]; omega) | (simp [*] <;> fail) | assumption) [-Bool.decide_and, -Bool.decide_or, -Bool.not_and, -Bool.not_or, toNat_pred, toNat_succ, wrap64, wr_new, wr_new0, ok_if, ok_ifn, iadV_sl, makeV_int, decT, decF, over_at, *]) | (with_reducible refine Gd_split (fun hc => ?_) (fun hc => ?_) <;> (have hc2 := hc; try simp at hc2)) | (with_reducible refine Br_split (fun hc => ?_) (fun hc => ?_) <;> (have hc2 := hc; try simp at hc2)) | (with_reducible refine GdT_split (fun hc => ?_) (fun hc => ?_) <;> (have hc2 := hc; try simp at hc2)) | (with_reducible refine WT_alt ?_ ?_) | omega)
    refine hrt2 _ fun ow g1 hW => ?_
    have hS1 := hS.later hW.kept
    have hP1 := hP.later hW.kept
    have hC1 := hC.later hW.kept
    have hW1 := hW.base hkg
    have kg1 := hS1.kept
    have hl1g := hW.kept.1
    have io : ow ≠ .nils → g4.length + 3 ≤ ow.id := fun q => by have := (hW.lt q).1; omega
    have beg1 := hW.kept.rd beg
    have hWl := hW.arr.len
    rw [hXl] at hWl
    clear hS hP hC hW beg hrt2 aN0 dNx0 dZ0 aE0 dE0
    have aN1 := aN g1 kg1
    have dN1 := dN g1 kg1
    have dZ1 := dNz g1 kg1
    have aE1 := aE g1 kg1
    have dE1 := dE g1 kg1
    have hr1 : ¬ own < ee := by omega
    have hr2 : ¬ ee < ps[i].st := by omega
    repeat' (first | (simp (disch := first | omega | assumption | (simp only [List.length_set]; omega) | (simp [*] <;> fail) | assumption) [-Bool.decide_and, -Bool.decide_or, -Bool.not_and, -Bool.not_or, toNat_pred, toNat_succ, wrap64, wr_new, wr_new0, ok_if, ok_ifn, iadV_sl, makeV_int, decT, decF, over_at, *, il]) | (with_reducible refine Gd_split (fun hc => ?_) (fun hc => ?_) <;> (have hc2 := hc; try simp at hc2)) | (with_reducible refine Br_split (fun hc => ?_) (fun hc => ?_) <;> (have hc2 := hc; try simp at hc2)) | (with_reducible refine GdT_split (fun hc => ?_) (fun hc => ?_) <;> (have hc2 := hc; try simp at hc2)) | (with_reducible refine WT_alt ?_ ?_) | omega)
    refine WL_forM 210624583337114372665085236701889405535947774442956712680672460800 (by decide +kernel) (60) (fun j b' g' => j ≤ 60 ∧ b' 24 = .lf (.int .i64 j) ∧ New g4 g' su 24 1 ((addW B own X cur1 j).map fl) ∧ New g4 g' pa 24 1 ((addW B ee X cur2 j).map fl) ∧ New g4 g' so 2 1 ((addI B ee cur3 j).map il) ∧ New g4 g' ow 24 1 (X.map fl) ∧ g1.length ≤ g'.length) (fun _ _ _ hi => hi.1) ⟨by omega, by simp, by rw [addW_low (Nat.zero_le _)]; exact hS1, by rw [addW_low (Nat.zero_le _)]; exact hP1, by rw [addI_low]; exact hC1, hW1, Nat.le_refl _⟩ ?_
    clear hS1 hP1 hC1 hW1 aN1 dN1 dZ1 aE1 dE1
    rintro j b' g' ⟨hj, e24, hS2, hP2, hC2, hW2, hgj⟩
    have kg2 := hS2.kept
    have aN2 := aN g' kg2
    have dN2 := dN g' kg2
    have dZ2 := dNz g' kg2
    have aE2 := aE g' kg2
    have dE2 := dE g' kg2
    have ll1 : (addW B own X cur1 j).length = 60 := by rw [addW_len, l1]
    have ll2 : (addW B ee X cur2 j).length = 60 := by rw [addW_len, l2]
    have ll3 : (addI B ee cur3 j).length = 60 := by rw [addI_len, l3]
    by_cases hjn : j < 60
    · have hjS : j < (addW B own X cur1 j).length := by omega
      have hjP : j < (addW B ee X cur2 j).length := by omega
      have hjC : j < (addI B ee cur3 j).length := by omega
      have hjX : j < X.length := by omega
      by_cases c0 : (B : Int) ≤ j
      · by_cases c1 : (j : Int) < own
        · have t1 : Hid (addW B own X cur1 (j + 1) = (addW B own X cur1 j).set j (fbin .add .f32 ((addW B own X cur1 j)[j]'hjS) (X[j]'hjX))) := addW_yes ⟨by omega, c1⟩ (by omega) hjX
          have aS := hS2.arr.at_ (k := .i64) hjS
          have dS := hS2.arr.rd1 hjS
          have aX := hW2.arr.at_ (k := .i64) hjX
          have dX := hW2.arr.rd1 hjX
          have wS := fun v K => oc_wr (lim := h.length) (K := K) (i := j) (c := .flt .f32 v) hS2 (by simpa using hjS) (by omega)
          repeat' (first | (simp (disch := first | omega | assumption | (simp only [List.length_set]; omega) | (simp [*] <;> fail) | assumption) [-Bool.decide_and, -Bool.decide_or, -Bool.not_and, -Bool.not_or, toNat_pred, toNat_succ, wrap64, wr_new, wr_new0, ok_if, ok_ifn, iadV_sl, makeV_int, decT, decF, over_at, *, fl, il]) | (with_reducible refine Gd_split (fun hc => ?_) (fun hc => ?_) <;> (have hc2 := hc; try simp at hc2)) | (with_reducible refine Br_split (fun hc => ?_) (fun hc => ?_) <;> (have hc2 := hc; try simp at hc2)) | (with_reducible refine GdT_split (fun hc => ?_) (fun hc => ?_) <;> (have hc2 := hc; try simp at hc2)) | (with_reducible refine WT_alt ?_ ?_) | omega)
          refine wS _ _ fun g3 h3 hB3 => ?_
          rw [fl_set, ← show addW B own X cur1 (j + 1) = _ from t1] at h3
          have hP3 := hB3.buts.new hP2 (fun s hs q => by rw [List.mem_singleton] at hs; subst hs; omega) (fun s hs => by rw [List.mem_singleton] at hs; subst hs; intro _ _ q; omega)
          have hC3 := hB3.buts.new hC2 (fun s hs q => by rw [List.mem_singleton] at hs; subst hs; omega) (fun s hs => by rw [List.mem_singleton] at hs; subst hs; intro _ _ q; omega)
          have hW3 := hB3.buts.new hW2 (fun s hs q => by rw [List.mem_singleton] at hs; subst hs; omega) (fun s hs => by rw [List.mem_singleton] at hs; subst hs; intro _ q1 q; have := io q1; omega)
          have kg3 := h3.kept
          have hl3 := hB3.len
          clear wS aS dS aX dX aN2 dN2 dZ2 aE2 dE2 hS2 hP2 hC2 hW2 hB3 t1
          have aN3 := aN g3 kg3
          have dN3 := dN g3 kg3
          have dZ3 := dNz g3 kg3
          have aE3 := aE g3 kg3
          have dE3 := dE g3 kg3
          by_cases c2 : (j : Int) < ee
          · have t2 : Hid (addW B ee X cur2 (j + 1) = (addW B ee X cur2 j).set j (fbin .add .f32 ((addW B ee X cur2 j)[j]'hjP) (X[j]'hjX))) := addW_yes ⟨by omega, c2⟩ (by omega) hjX
            have t3 : Hid (addI B ee cur3 (j + 1) = (addI B ee cur3 j).set j ((addI B ee cur3 j)[j]'hjC + 1)) := addI_yes ⟨by omega, c2⟩ (by omega)
            have aP := hP3.arr.at_ (k := .i64) hjP
            have dP := hP3.arr.rd1 hjP
            have aX := hW3.arr.at_ (k := .i64) hjX
            have dX := hW3.arr.rd1 hjX
            have wP := fun v K => oc_wr (lim := h.length) (K := K) (i := j) (c := .flt .f32 v) hP3 (by simpa using hjP) (by omega)
            repeat' (first | (simp (disch := first | omega | assumption | (simp only [List.length_set]; omega) | (simp [*] <;> fail) | assumption) [-Bool.decide_and, -Bool.decide_or, -Bool.not_and, -Bool.not_or, toNat_pred, toNat_succ, wrap64, wr_new, wr_new0, ok_if, ok_ifn, iadV_sl, makeV_int, decT, decF, over_at, *, fl, il]) | (with_reducible refine Gd_split (fun hc => ?_) (fun hc => ?_) <;> (have hc2 := hc; try simp at hc2)) | (with_reducible refine Br_split (fun hc => ?_) (fun hc => ?_) <;> (have hc2 := hc; try simp at hc2)) | (with_reducible refine GdT_split (fun hc => ?_) (fun hc => ?_) <;> (have hc2 := hc; try simp at hc2)) | (with_reducible refine WT_alt ?_ ?_) | omega)
            refine wP _ _ fun g5 h5 hB5 => ?_
            rw [fl_set, ← show addW B ee X cur2 (j + 1) = _ from t2] at h5
            have hS5 := hB5.buts.new h3 (fun s hs q => by rw [List.mem_singleton] at hs; subst hs; omega) (fun s hs => by rw [List.mem_singleton] at hs; subst hs; intro _ _ q; omega)
            have hC5 := hB5.buts.new hC3 (fun s hs q => by rw [List.mem_singleton] at hs; subst hs; omega) (fun s hs => by rw [List.mem_singleton] at hs; subst hs; intro _ _ q; omega)
            have hW5 := hB5.buts.new hW3 (fun s hs q => by rw [List.mem_singleton] at hs; subst hs; omega) (fun s hs => by rw [List.mem_singleton] at hs; subst hs; intro _ q1 q; have := io q1; omega)
            have hl5 := hB5.len
            have hsm := snd_small (ps := ps) (E := endsTo ps V e.r ps.length) (B := B) (ee := ee) (m := j) (i := i) hc3 (by omega) hjC
            have aC := hC5.arr.at_ (k := .i64) hjC
            have dC := hC5.arr.rd1 hjC
            have wC := fun v K => oc_wr (lim := h.length) (K := K) (i := j) (c := .int .i64 v) hC5 (by simpa using hjC) (by omega)
            clear wP aP dP aX dX aN3 dN3 dZ3 aE3 dE3 h3 hP3 hC3 hW3 hB5 t2
            repeat' (first | (simp (disch := first | omega | assumption | (simp only [List.length_set]; omega) | (simp [*] <;> fail) | assumption) [-Bool.decide_and, -Bool.decide_or, -Bool.not_and, -Bool.not_or, toNat_pred, toNat_succ, wrap64, wr_new, wr_new0, ok_if, ok_ifn, iadV_sl, makeV_int, decT, decF, over_at, *, fl, il]) | (with_reducible refine Gd_split (fun hc => ?_) (fun hc => ?_) <;> (have hc2 := hc; try simp at hc2)) | (with_reducible refine Br_split (fun hc => ?_) (fun hc => ?_) <;> (have hc2 := hc; try simp at hc2)) | (with_reducible refine GdT_split (fun hc => ?_) (fun hc => ?_) <;> (have hc2 := hc; try simp at hc2)) | (with_reducible refine WT_alt ?_ ?_) | omega)
            refine wC _ _ fun g6 h6 hB6 => ?_
            rw [il_set, ← show addI B ee cur3 (j + 1) = _ from t3] at h6
            have hS6 := hB6.buts.new hS5 (fun s hs q => by rw [List.mem_singleton] at hs; subst hs; omega) (fun s hs => by rw [List.mem_singleton] at hs; subst hs; intro _ _ q; omega)
            have hP6 := hB6.buts.new h5 (fun s hs q => by rw [List.mem_singleton] at hs; subst hs; omega) (fun s hs => by rw [List.mem_singleton] at hs; subst hs; intro _ _ q; omega)
            have hW6 := hB6.buts.new hW5 (fun s hs q => by rw [List.mem_singleton] at hs; subst hs; omega) (fun s hs => by rw [List.mem_singleton] at hs; subst hs; intro _ q1 q; have := io q1; omega)
            have hl6 := hB6.len
            clear wC aC dC h5 hS5 hC5 hW5 hB6 t3 hsm
            repeat' (first | (simp (disch := first | omega | assumption | (simp only [List.length_set]; omega) | (simp [*] <;> fail) | assumption) [-Bool.decide_and, -Bool.decide_or, -Bool.not_and, -Bool.not_or, toNat_pred, toNat_succ, wrap64, wr_new, wr_new0, ok_if, ok_ifn, iadV_sl, makeV_int, decT, decF, over_at, *]) | (with_reducible refine Gd_split (fun hc => ?_) (fun hc => ?_) <;> (have hc2 := hc; try simp at hc2)) | (with_reducible refine Br_split (fun hc => ?_) (fun hc => ?_) <;> (have hc2 := hc; try simp at hc2)) | (with_reducible refine GdT_split (fun hc => ?_) (fun hc => ?_) <;> (have hc2 := hc; try simp at hc2)) | (with_reducible refine WT_alt ?_ ?_) | omega)
            all_goals (repeat' apply And.intro) <;> first | assumption | omega
          · have t2 : Hid (addW B ee X cur2 (j + 1) = addW B ee X cur2 j) := addW_no (fun q => c2 q.2)
            have t3 : Hid (addI B ee cur3 (j + 1) = addI B ee cur3 j) := addI_no (fun q => c2 q.2)
            repeat' (first | (simp (disch := first | omega | assumption | (simp only [List.length_set]; omega) | (simp [*] <;> fail) | assumption) [-Bool.decide_and, -Bool.decide_or, -Bool.not_and, -Bool.not_or, toNat_pred, toNat_succ, wrap64, wr_new, wr_new0, ok_if, ok_ifn, iadV_sl, makeV_int, decT, decF, over_at, *, fl, il]) | (with_reducible refine Gd_split (fun hc => ?_) (fun hc => ?_) <;> (have hc2 := hc; try simp at hc2)) | (with_reducible refine Br_split (fun hc => ?_) (fun hc => ?_) <;> (have hc2 := hc; try simp at hc2)) | (with_reducible refine GdT_split (fun hc => ?_) (fun hc => ?_) <;> (have hc2 := hc; try simp at hc2)) | (with_reducible refine WT_alt ?_ ?_) | omega)
            all_goals (repeat' apply And.intro) <;> first | assumption | omega | (rw [show addW B ee X cur2 (j + 1) = _ from t2]; assumption) | (rw [show addI B ee cur3 (j + 1) = _ from t3]; assumption)
        · have c2 : ¬ (j : Int) < ee := by omega
          have t1 : Hid (addW B own X cur1 (j + 1) = addW B own X cur1 j) := addW_no (fun q => c1 q.2)
          have t2 : Hid (addW B ee X cur2 (j + 1) = addW B ee X cur2 j) := addW_no (fun q => c2 q.2)
          have t3 : Hid (addI B ee cur3 (j + 1) = addI B ee cur3 j) := addI_no (fun q => c2 q.2)
          repeat' (first | (simp (disch := first | omega | assumption | (simp only [List.length_set]; omega) | (simp [*] <;> fail) | assumption) [-Bool.decide_and, -Bool.decide_or, -Bool.not_and, -Bool.not_or, toNat_pred, toNat_succ, wrap64, wr_new, wr_new0, ok_if, ok_ifn, iadV_sl, makeV_int, decT, decF, over_at, *, fl, il]) | (with_reducible refine Gd_split (fun hc => ?_) (fun hc => ?_) <;> (have hc2 := hc; try simp at hc2)) | (with_reducible refine Br_split (fun hc => ?_) (fun hc => ?_) <;> (have hc2 := hc; try simp at hc2)) | (with_reducible refine GdT_split (fun hc => ?_) (fun hc => ?_) <;> (have hc2 := hc; try simp at hc2)) | (with_reducible refine WT_alt ?_ ?_) | omega)
          all_goals (repeat' apply And.intro) <;> first | assumption | omega | (rw [show addW B own X cur1 (j + 1) = _ from t1]; assumption) | (rw [show addW B ee X cur2 (j + 1) = _ from t2]; assumption) | (rw [show addI B ee cur3 (j + 1) = _ from t3]; assumption)
      · have t1 : Hid (addW B own X cur1 (j + 1) = addW B own X cur1 j) := addW_no (fun q => c0 (by omega))
        have t2 : Hid (addW B ee X cur2 (j + 1) = addW B ee X cur2 j) := addW_no (fun q => c0 (by omega))
        have t3 : Hid (addI B ee cur3 (j + 1) = addI B ee cur3 j) := addI_no (fun q => c0 (by omega))
        repeat' (first | (simp (disch := first | omega | assumption | (simp only [List.length_set]; omega) | (simp [*] <;> fail) | assumption) [-Bool.decide_and, -Bool.decide_or, -Bool.not_and, -Bool.not_or, toNat_pred, toNat_succ, wrap64, wr_new, wr_new0, ok_if, ok_ifn, iadV_sl, makeV_int, decT, decF, over_at, *, fl, il]) | (with_reducible refine Gd_split (fun hc => ?_) (fun hc => ?_) <;> (have hc2 := hc; try simp at hc2)) | (with_reducible refine Br_split (fun hc => ?_) (fun hc => ?_) <;> (have hc2 := hc; try simp at hc2)) | (with_reducible refine GdT_split (fun hc => ?_) (fun hc => ?_) <;> (have hc2 := hc; try simp at hc2)) | (with_reducible refine WT_alt ?_ ?_) | omega)
        all_goals (repeat' apply And.intro) <;> first | assumption | omega | (rw [show addW B own X cur1 (j + 1) = _ from t1]; assumption) | (rw [show addW B ee X cur2 (j + 1) = _ from t2]; assumption) | (rw [show addI B ee cur3 (j + 1) = _ from t3]; assumption)
    · have : j = 60 := by omega
      subst this
      repeat' (first | (simp (disch := first | omega | assumption | (simp only [List.length_set]; omega) | (simp [*] <;> fail) | assumption) [-Bool.decide_and, -Bool.decide_or, -Bool.not_and, -Bool.not_or, toNat_pred, toNat_succ, wrap64, wr_new, wr_new0, ok_if, ok_ifn, iadV_sl, makeV_int, decT, decF, over_at, *]) | (with_reducible refine Gd_split (fun hc => ?_) (fun hc => ?_) <;> (have hc2 := hc; try simp at hc2)) | (with_reducible refine Br_split (fun hc => ?_) (fun hc => ?_) <;> (have hc2 := hc; try simp at hc2)) | (with_reducible refine GdT_split (fun hc => ?_) (fun hc => ?_) <;> (have hc2 := hc; try simp at hc2)) | (with_reducible refine WT_alt ?_ ?_) | omega)
      all_goals (repeat' apply And.intro) <;> first | assumption | omega | (rw [show raTo k e ps 12 60 (i + 1) = _ from s1]; assumption) | (rw [show raTo k e ps V 60 (i + 1) = _ from s2]; assumption) | (rw [show sndL ps (endsTo ps V e.r ps.length) (i + 1) = _ from s3]; assumption)
  · have : i = ps.length := by omega
    subst this
    clear hN4 hE4 be4 hNg beg
    have hCl := hC.arr.len
    repeat' (first | (simp (disch := first | omega | assumption | (simp only [List.length_set]; omega) | (simp [*] <;> fail) | assumption) [-Bool.decide_and, -Bool.decide_or, -Bool.not_and, -Bool.not_or, toNat_pred, toNat_succ, wrap64, wr_new, wr_new0, ok_if, ok_ifn, iadV_sl, makeV_int, decT, decF, over_at, *]) | (with_reducible refine Gd_split (fun hc => ?_) (fun hc => ?_) <;> (have hc2 := hc; try simp at hc2)) | (with_reducible refine Br_split (fun hc => ?_) (fun hc => ?_) <;> (have hc2 := hc; try simp at hc2)) | (with_reducible refine GdT_split (fun hc => ?_) (fun hc => ?_) <;> (have hc2 := hc; try simp at hc2)) | (with_reducible refine WT_alt ?_ ?_) | omega)
    refine WL_forM 862297044182146244682552810673893499827113041139696122950298317619216 (by decide +kernel) (60) (fun j b' g' => j ≤ 60 ∧ b' 25 = .lf (.int .i64 j) ∧ g = g') (fun _ _ _ hi => hi.1) ⟨by omega, by simp, rfl⟩ ?_
    rintro j b' g' ⟨hj, e25, rfl⟩
    by_cases hjn : j < 60
    · have hjC : j < (sndL ps (endsTo ps V e.r ps.length) ps.length).length := by rw [sndL_len]; exact hjn
      have aC := hC.arr.at_ (k := .i64) hjC
      have dC := hC.arr.rd1 hjC
      rw [sndL_get] at dC
      have hle := snd_le (v := V) (r := e.r) (t := (j : Int)) hup (by omega) hV1.1 (Nat.le_refl _)
      generalize sndTo ps (endsTo ps V e.r ps.length) j ps.length = q at *
      have hle2 : ¬ V < (q : Int) := by omega
      repeat' (first | (simp (disch := first | omega | assumption | (simp only [List.length_set]; omega) | (simp [*] <;> fail) | assumption) [-Bool.decide_and, -Bool.decide_or, -Bool.not_and, -Bool.not_or, toNat_pred, toNat_succ, wrap64, wr_new, wr_new0, ok_if, ok_ifn, iadV_sl, makeV_int, decT, decF, over_at, *, il]) | (with_reducible refine Gd_split (fun hc => ?_) (fun hc => ?_) <;> (have hc2 := hc; try simp at hc2)) | (with_reducible refine Br_split (fun hc => ?_) (fun hc => ?_) <;> (have hc2 := hc; try simp at hc2)) | (with_reducible refine GdT_split (fun hc => ?_) (fun hc => ?_) <;> (have hc2 := hc; try simp at hc2)) | (with_reducible refine WT_alt ?_ ?_) | omega)
    · have : j = 60 := by omega
      subst this
      have hb1 := fun lim K => c_b10Same (S := S) (h := g) (lim := lim) (K := K) hS.arr (hS24.kept hkg) cf2
      have hb2 := fun lim K => c_b10Same (S := S) (h := g) (lim := lim) (K := K) hP.arr (hS14.kept hkg) cf1
      repeat' (first | (simp (disch := first | omega | assumption | (simp only [List.length_set]; omega) | (simp [*] <;> fail) | assumption) [-Bool.decide_and, -Bool.decide_or, -Bool.not_and, -Bool.not_or, toNat_pred, toNat_succ, wrap64, wr_new, wr_new0, ok_if, ok_ifn, iadV_sl, makeV_int, decT, decF, over_at, *]) | (with_reducible refine Gd_split (fun hc => ?_) (fun hc => ?_) <;> (have hc2 := hc; try simp at hc2)) | (with_reducible refine Br_split (fun hc => ?_) (fun hc => ?_) <;> (have hc2 := hc; try simp at hc2)) | (with_reducible refine GdT_split (fun hc => ?_) (fun hc => ?_) <;> (have hc2 := hc; try simp at hc2)) | (with_reducible refine WT_alt ?_ ?_) | omega)
end Go.E
namespace Go.E.Voices
open Go Go.E
def pure : FuncId → Bool := fun f => List.elem f [3, 4, 5, 6, 9, 12, 14, 15, 17, 18, 19, 20, 21, 22, 23, 27, 29, 30, 33, 34, 36, 37, 38, 39, 40, 41, 42, 43, 45, 46, 47, 48, 49, 50, 51, 52, 53, 54, 55, 56, 57, 58, 59, 60, 61, 62, 63, 64, 65, 66, 68, 70, 72, 79, 81]
def funs : List (Nat × LFn) := [(46, L46), (15, L15), (18, L18), (37, L37), (6, L6), (9, L9), (24, L24), (25, L25), (44, L44), (7, L7), (8, L8), (26, L26), (45, L45), (14, L14), (23, L23), (33, L33), (34, L34), (39, L39), (43, L43), (42, L42), (50, L50), (51, L51), (48, L48), (57, L57), (47, L47), (53, L53), (54, L54), (55, L55), (56, L56), (60, L60), (62, L62), (29, L29), (36, L36), (38, L38), (16, L16), (17, L17), (30, L30), (35, L35), (49, L49), (40, L40), (31, L31), (32, L32), (10, L10), (12, L12), (27, L27), (28, L28), (11, L11), (13, L13), (3, L3)]
def Sy : Sys := sysOf funs
theorem lfn46 : lFn Go.Proofs.Try.prog pure Go.Proofs.Try.f46 = some L46 := by kernel_rfl
theorem lfn15 : lFn Go.Proofs.Try.prog pure Go.Proofs.Try.f15 = some L15 := by kernel_rfl
theorem lfn18 : lFn Go.Proofs.Try.prog pure Go.Proofs.Try.f18 = some L18 := by kernel_rfl
theorem lfn37 : lFn Go.Proofs.Try.prog pure Go.Proofs.Try.f37 = some L37 := by kernel_rfl
theorem lfn6 : lFn Go.Proofs.Try.prog pure Go.Proofs.Try.f6 = some L6 := by kernel_rfl
theorem lfn9 : lFn Go.Proofs.Try.prog pure Go.Proofs.Try.f9 = some L9 := by kernel_rfl
theorem lfn24 : lFn Go.Proofs.Try.prog pure Go.Proofs.Try.f24 = some L24 := by kernel_rfl
theorem lfn25 : lFn Go.Proofs.Try.prog pure Go.Proofs.Try.f25 = some L25 := by kernel_rfl
theorem lfn44 : lFn Go.Proofs.Try.prog pure Go.Proofs.Try.f44 = some L44 := by kernel_rfl
theorem lfn7 : lFn Go.Proofs.Try.prog pure Go.Proofs.Try.f7 = some L7 := by kernel_rfl
theorem lfn8 : lFn Go.Proofs.Try.prog pure Go.Proofs.Try.f8 = some L8 := by kernel_rfl
theorem lfn26 : lFn Go.Proofs.Try.prog pure Go.Proofs.Try.f26 = some L26 := by kernel_rfl
theorem lfn45 : lFn Go.Proofs.Try.prog pure Go.Proofs.Try.f45 = some L45 := by kernel_rfl
theorem lfn14 : lFn Go.Proofs.Try.prog pure Go.Proofs.Try.f14 = some L14 := by kernel_rfl
theorem lfn23 : lFn Go.Proofs.Try.prog pure Go.Proofs.Try.f23 = some L23 := by kernel_rfl
theorem lfn33 : lFn Go.Proofs.Try.prog pure Go.Proofs.Try.f33 = some L33 := by kernel_rfl
theorem lfn34 : lFn Go.Proofs.Try.prog pure Go.Proofs.Try.f34 = some L34 := by kernel_rfl
theorem lfn39 : lFn Go.Proofs.Try.prog pure Go.Proofs.Try.f39 = some L39 := by kernel_rfl
theorem lfn43 : lFn Go.Proofs.Try.prog pure Go.Proofs.Try.f43 = some L43 := by kernel_rfl
theorem lfn42 : lFn Go.Proofs.Try.prog pure Go.Proofs.Try.f42 = some L42 := by kernel_rfl
theorem lfn50 : lFn Go.Proofs.Try.prog pure Go.Proofs.Try.f50 = some L50 := by kernel_rfl
theorem lfn51 : lFn Go.Proofs.Try.prog pure Go.Proofs.Try.f51 = some L51 := by kernel_rfl
theorem lfn48 : lFn Go.Proofs.Try.prog pure Go.Proofs.Try.f48 = some L48 := by kernel_rfl
theorem lfn57 : lFn Go.Proofs.Try.prog pure Go.Proofs.Try.f57 = some L57 := by kernel_rfl
theorem lfn47 : lFn Go.Proofs.Try.prog pure Go.Proofs.Try.f47 = some L47 := by kernel_rfl
theorem lfn53 : lFn Go.Proofs.Try.prog pure Go.Proofs.Try.f53 = some L53 := by kernel_rfl
theorem lfn54 : lFn Go.Proofs.Try.prog pure Go.Proofs.Try.f54 = some L54 := by kernel_rfl
theorem lfn55 : lFn Go.Proofs.Try.prog pure Go.Proofs.Try.f55 = some L55 := by kernel_rfl
theorem lfn56 : lFn Go.Proofs.Try.prog pure Go.Proofs.Try.f56 = some L56 := by kernel_rfl
theorem lfn60 : lFn Go.Proofs.Try.prog pure Go.Proofs.Try.f60 = some L60 := by kernel_rfl
theorem lfn62 : lFn Go.Proofs.Try.prog pure Go.Proofs.Try.f62 = some L62 := by kernel_rfl
theorem lfn29 : lFn Go.Proofs.Try.prog pure Go.Proofs.Try.f29 = some L29 := by kernel_rfl
theorem lfn36 : lFn Go.Proofs.Try.prog pure Go.Proofs.Try.f36 = some L36 := by kernel_rfl
theorem lfn38 : lFn Go.Proofs.Try.prog pure Go.Proofs.Try.f38 = some L38 := by kernel_rfl
theorem lfn16 : lFn Go.Proofs.Try.prog pure Go.Proofs.Try.f16 = some L16 := by kernel_rfl
theorem lfn17 : lFn Go.Proofs.Try.prog pure Go.Proofs.Try.f17 = some L17 := by kernel_rfl
theorem lfn30 : lFn Go.Proofs.Try.prog pure Go.Proofs.Try.f30 = some L30 := by kernel_rfl
theorem lfn35 : lFn Go.Proofs.Try.prog pure Go.Proofs.Try.f35 = some L35 := by kernel_rfl
theorem lfn49 : lFn Go.Proofs.Try.prog pure Go.Proofs.Try.f49 = some L49 := by kernel_rfl
theorem lfn40 : lFn Go.Proofs.Try.prog pure Go.Proofs.Try.f40 = some L40 := by kernel_rfl
theorem lfn31 : lFn Go.Proofs.Try.prog pure Go.Proofs.Try.f31 = some L31 := by kernel_rfl
theorem lfn32 : lFn Go.Proofs.Try.prog pure Go.Proofs.Try.f32 = some L32 := by kernel_rfl
theorem lfn10 : lFn Go.Proofs.Try.prog pure Go.Proofs.Try.f10 = some L10 := by kernel_rfl
theorem lfn12 : lFn Go.Proofs.Try.prog pure Go.Proofs.Try.f12 = some L12 := by kernel_rfl
theorem lfn27 : lFn Go.Proofs.Try.prog pure Go.Proofs.Try.f27 = some L27 := by kernel_rfl
theorem lfn28 : lFn Go.Proofs.Try.prog pure Go.Proofs.Try.f28 = some L28 := by kernel_rfl
theorem lfn11 : lFn Go.Proofs.Try.prog pure Go.Proofs.Try.f11 = some L11 := by kernel_rfl
theorem lfn13 : lFn Go.Proofs.Try.prog pure Go.Proofs.Try.f13 = some L13 := by kernel_rfl
theorem lfn3 : lFn Go.Proofs.Try.prog pure Go.Proofs.Try.f3 = some L3 := by kernel_rfl
instance : HasFb Sy := { f46 := rfl }
instance : HasVs Sy := { f15 := rfl, f18 := rfl, f37 := rfl }
instance : HasDr Sy := { f6 := rfl, f9 := rfl, f24 := rfl, f25 := rfl, f44 := rfl }
instance : HasDv Sy := { f7 := rfl, f8 := rfl, f26 := rfl }
instance : HasA Sy := { f45 := rfl }
instance : HasV Sy := { f14 := rfl, f23 := rfl, f33 := rfl, f34 := rfl, f39 := rfl, f43 := rfl }
instance : HasLv Sy := { f42 := rfl, f50 := rfl, f51 := rfl }
instance : HasFa Sy := { f48 := rfl, f57 := rfl }
instance : HasSi Sy := { f47 := rfl, f53 := rfl, f54 := rfl, f55 := rfl, f56 := rfl, f60 := rfl, f62 := rfl }
instance : HasWv Sy := { f29 := rfl, f36 := rfl, f38 := rfl }
instance : HasOs Sy := { f16 := rfl, f17 := rfl, f30 := rfl, f35 := rfl }
instance : HasEx Sy := { f49 := rfl }
instance : HasSp Sy := { f40 := rfl }
instance : HasN Sy := { f31 := rfl }
instance : HasRn Sy := { f32 := rfl }
instance : HasEn Sy := { f10 := rfl, f12 := rfl, f27 := rfl, f28 := rfl }
instance : HasRa Sy := { f11 := rfl }
instance : HasRt Sy := { f13 := rfl }
instance : HasLVoices Sy := { f3 := rfl }
theorem sysOK {B : Nat} {w0 : World} : SysOK Go.Proofs.Try.prog pure Sy B w0 := SysOK.of (by
  intro p hp
  simp only [funs, List.mem_cons, List.not_mem_nil, or_false] at hp
  rcases hp with rfl | rfl | rfl | rfl | rfl | rfl | rfl | rfl | rfl | rfl | rfl | rfl | rfl | rfl | rfl | rfl | rfl | rfl | rfl | rfl | rfl | rfl | rfl | rfl | rfl | rfl | rfl | rfl | rfl | rfl | rfl | rfl | rfl | rfl | rfl | rfl | rfl | rfl | rfl | rfl | rfl | rfl | rfl | rfl | rfl | rfl | rfl | rfl | rfl
  · exact ⟨_, Go.Proofs.Try.func46, lfn46⟩
  · exact ⟨_, Go.Proofs.Try.func15, lfn15⟩
  · exact ⟨_, Go.Proofs.Try.func18, lfn18⟩
  · exact ⟨_, Go.Proofs.Try.func37, lfn37⟩
  · exact ⟨_, Go.Proofs.Try.func6, lfn6⟩
  · exact ⟨_, Go.Proofs.Try.func9, lfn9⟩
  · exact ⟨_, Go.Proofs.Try.func24, lfn24⟩
  · exact ⟨_, Go.Proofs.Try.func25, lfn25⟩
  · exact ⟨_, Go.Proofs.Try.func44, lfn44⟩
  · exact ⟨_, Go.Proofs.Try.func7, lfn7⟩
  · exact ⟨_, Go.Proofs.Try.func8, lfn8⟩
  · exact ⟨_, Go.Proofs.Try.func26, lfn26⟩
  · exact ⟨_, Go.Proofs.Try.func45, lfn45⟩
  · exact ⟨_, Go.Proofs.Try.func14, lfn14⟩
  · exact ⟨_, Go.Proofs.Try.func23, lfn23⟩
  · exact ⟨_, Go.Proofs.Try.func33, lfn33⟩
  · exact ⟨_, Go.Proofs.Try.func34, lfn34⟩
  · exact ⟨_, Go.Proofs.Try.func39, lfn39⟩
  · exact ⟨_, Go.Proofs.Try.func43, lfn43⟩
  · exact ⟨_, Go.Proofs.Try.func42, lfn42⟩
  · exact ⟨_, Go.Proofs.Try.func50, lfn50⟩
  · exact ⟨_, Go.Proofs.Try.func51, lfn51⟩
  · exact ⟨_, Go.Proofs.Try.func48, lfn48⟩
  · exact ⟨_, Go.Proofs.Try.func57, lfn57⟩
  · exact ⟨_, Go.Proofs.Try.func47, lfn47⟩
  · exact ⟨_, Go.Proofs.Try.func53, lfn53⟩
  · exact ⟨_, Go.Proofs.Try.func54, lfn54⟩
  · exact ⟨_, Go.Proofs.Try.func55, lfn55⟩
  · exact ⟨_, Go.Proofs.Try.func56, lfn56⟩
  · exact ⟨_, Go.Proofs.Try.func60, lfn60⟩
  · exact ⟨_, Go.Proofs.Try.func62, lfn62⟩
  · exact ⟨_, Go.Proofs.Try.func29, lfn29⟩
  · exact ⟨_, Go.Proofs.Try.func36, lfn36⟩
  · exact ⟨_, Go.Proofs.Try.func38, lfn38⟩
  · exact ⟨_, Go.Proofs.Try.func16, lfn16⟩
  · exact ⟨_, Go.Proofs.Try.func17, lfn17⟩
  · exact ⟨_, Go.Proofs.Try.func30, lfn30⟩
  · exact ⟨_, Go.Proofs.Try.func35, lfn35⟩
  · exact ⟨_, Go.Proofs.Try.func49, lfn49⟩
  · exact ⟨_, Go.Proofs.Try.func40, lfn40⟩
  · exact ⟨_, Go.Proofs.Try.func31, lfn31⟩
  · exact ⟨_, Go.Proofs.Try.func32, lfn32⟩
  · exact ⟨_, Go.Proofs.Try.func10, lfn10⟩
  · exact ⟨_, Go.Proofs.Try.func12, lfn12⟩
  · exact ⟨_, Go.Proofs.Try.func27, lfn27⟩
  · exact ⟨_, Go.Proofs.Try.func28, lfn28⟩
  · exact ⟨_, Go.Proofs.Try.func11, lfn11⟩
  · exact ⟨_, Go.Proofs.Try.func13, lfn13⟩
  · exact ⟨_, Go.Proofs.Try.func3, lfn3⟩)

end Go.E.Voices
