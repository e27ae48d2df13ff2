/- The law of the forms of a filter: what the evaluator finds. -/
import Derived.Test.YtmmmpgggnfommaaMXd
import Derived.Test.YtmmmpgggnfommaaEE
import Derived.Test.YtmmmpgggnfommaaProg
set_option linter.unusedVariables false
set_option linter.unusedSimpArgs false
namespace Go.E
open Go
def L3 : LFn := ⟨2, (.seq (.reg [⟨(.some 4), (.mv (.c (.lf (.bool false)))), none⟩])
 (.seq (.seq (.reg [⟨(.some 21), (.mv (.t 0)), none⟩, ⟨(.some 22), (.mv (.t 1)), none⟩, ⟨(.some 23), (.call true 4 [(.t 21), (.t 22)]), none⟩])
 (.cond (.t 23) (.seq (.reg [⟨(.some 4), (.mv (.c (.lf (.bool true)))), none⟩])
 .ret) .skip))
 (.seq (.reg [⟨(.some 24), (.mv (.t 0)), none⟩, ⟨(.some 25), (.call false 5 [(.t 24)]), none⟩, ⟨(.some 5), (.alloc 26 [(.flt .f32 0), (.flt .f32 0), (.flt .f32 0), (.flt .f32 0), (.flt .f32 0)]), none⟩, ⟨none, (.store 5 (.t 5) (.t 25)), none⟩])
 (.seq (.reg [⟨(.some 26), (.mv (.t 1)), none⟩, ⟨(.some 27), (.call false 6 [(.t 26), (.c (.lf (.int .i64 6))), (.c (.lf (.int .i64 8)))]), none⟩, ⟨(.some 6), (.mv (.t 27)), none⟩])
 (.seq (.reg [⟨(.some 29), (.load true 5 (.t 5)), none⟩, ⟨(.some 30), (.build [(.flt .f32 0), (.flt .f32 0), (.flt .f32 0), (.flt .f32 0)] []), none⟩, ⟨(.some 31), (.mv (.t 6)), none⟩, ⟨(.some 32), (.call false 7 [(.t 29), (.c (.lf (.int .i64 0))), (.c (.lf (.bool false))), (.t 30), (.t 31)]), none⟩, ⟨(.some 28), (.mv (.t 32)), none⟩, ⟨(.some 33), (.ext (.t 28) 0), none⟩, ⟨(.some 34), (.ext (.t 28) 1), none⟩, ⟨(.some 35), (.ext (.t 28) 2), none⟩, ⟨(.some 8), (.alloc 31 [(.flt .f32 0), (.flt .f32 0), (.flt .f32 0), (.flt .f32 0)]), none⟩, ⟨(.some 7), (.mv (.t 33)), none⟩, ⟨none, (.store 4 (.t 8) (.t 34)), none⟩, ⟨(.some 9), (.mv (.t 35)), none⟩])
 (.seq (.reg [⟨(.some 37), (.load true 5 (.t 5)), none⟩, ⟨(.some 38), (.build [(.flt .f32 0), (.flt .f32 0), (.flt .f32 0), (.flt .f32 0)] []), none⟩, ⟨(.some 39), (.mv (.t 6)), none⟩, ⟨(.some 40), (.call false 7 [(.t 37), (.c (.lf (.int .i64 1))), (.c (.lf (.bool false))), (.t 38), (.t 39)]), none⟩, ⟨(.some 36), (.mv (.t 40)), none⟩, ⟨(.some 41), (.ext (.t 36) 0), none⟩, ⟨(.some 42), (.ext (.t 36) 1), none⟩, ⟨(.some 43), (.ext (.t 36) 2), none⟩, ⟨(.some 11), (.alloc 31 [(.flt .f32 0), (.flt .f32 0), (.flt .f32 0), (.flt .f32 0)]), none⟩, ⟨(.some 10), (.mv (.t 41)), none⟩, ⟨none, (.store 4 (.t 11) (.t 42)), none⟩, ⟨(.some 12), (.mv (.t 43)), none⟩])
 (.seq (.reg [⟨(.some 45), (.load true 5 (.t 5)), none⟩, ⟨(.some 46), (.build [(.flt .f32 0), (.flt .f32 0), (.flt .f32 0), (.flt .f32 0)] []), none⟩, ⟨(.some 47), (.mv (.t 6)), none⟩, ⟨(.some 48), (.call false 7 [(.t 45), (.c (.lf (.int .i64 2))), (.c (.lf (.bool true))), (.t 46), (.t 47)]), none⟩, ⟨(.some 44), (.mv (.t 48)), none⟩, ⟨(.some 49), (.ext (.t 44) 0), none⟩, ⟨(.some 50), (.ext (.t 44) 1), none⟩, ⟨(.some 51), (.ext (.t 44) 2), none⟩, ⟨(.some 14), (.alloc 31 [(.flt .f32 0), (.flt .f32 0), (.flt .f32 0), (.flt .f32 0)]), none⟩, ⟨(.some 13), (.mv (.t 49)), none⟩, ⟨none, (.store 4 (.t 14) (.t 50)), none⟩, ⟨(.some 15), (.mv (.t 51)), none⟩])
 (.seq (.reg [⟨(.some 53), (.load true 5 (.t 5)), none⟩, ⟨(.some 54), (.call true 8 [(.t 53), (.c (.lf (.flt .f32 1073741824)))]), none⟩, ⟨(.some 55), (.build [(.flt .f32 0), (.flt .f32 0), (.flt .f32 0), (.flt .f32 0)] []), none⟩, ⟨(.some 56), (.mv (.t 6)), none⟩, ⟨(.some 57), (.call false 7 [(.t 54), (.c (.lf (.int .i64 0))), (.c (.lf (.bool false))), (.t 55), (.t 56)]), none⟩, ⟨(.some 52), (.mv (.t 57)), none⟩, ⟨(.some 58), (.ext (.t 52) 0), none⟩, ⟨(.some 59), (.ext (.t 52) 1), none⟩, ⟨(.some 60), (.ext (.t 52) 2), none⟩, ⟨(.some 17), (.alloc 31 [(.flt .f32 0), (.flt .f32 0), (.flt .f32 0), (.flt .f32 0)]), none⟩, ⟨(.some 16), (.mv (.t 58)), none⟩, ⟨none, (.store 4 (.t 17) (.t 59)), none⟩, ⟨(.some 18), (.mv (.t 60)), none⟩])
 (.seq (.seq (.reg [⟨(.some 61), (.mv (.t 9)), none⟩, ⟨(.some 62), (.una .not (.t 61)), none⟩, ⟨(.some 63), (.mv (.t 62)), none⟩, ⟨(.some 64), (.mv (.t 12)), (.some (63, false))⟩, ⟨(.some 65), (.una .not (.t 64)), (.some (63, false))⟩, ⟨(.some 66), (.pick (.t 63) (.c (.lf (.bool true))) (.t 65)), none⟩, ⟨(.some 67), (.mv (.t 66)), none⟩, ⟨(.some 68), (.mv (.t 15)), (.some (67, false))⟩, ⟨(.some 69), (.una .not (.t 68)), (.some (67, false))⟩, ⟨(.some 70), (.pick (.t 67) (.c (.lf (.bool true))) (.t 69)), none⟩, ⟨(.some 71), (.mv (.t 70)), none⟩, ⟨(.some 72), (.mv (.t 18)), (.some (71, false))⟩, ⟨(.some 73), (.una .not (.t 72)), (.some (71, false))⟩, ⟨(.some 74), (.pick (.t 71) (.c (.lf (.bool true))) (.t 73)), none⟩, ⟨(.some 75), (.mv (.t 74)), none⟩, ⟨(.some 76), (.mv (.t 7)), (.some (75, false))⟩, ⟨(.some 77), (.len (.t 76)), (.some (75, false))⟩, ⟨(.some 78), (.bin .neq (.t 77) (.c (.lf (.int .i64 6)))), (.some (75, false))⟩, ⟨(.some 79), (.pick (.t 75) (.c (.lf (.bool true))) (.t 78)), none⟩, ⟨(.some 80), (.mv (.t 79)), none⟩, ⟨(.some 81), (.mv (.t 10)), (.some (80, false))⟩, ⟨(.some 82), (.len (.t 81)), (.some (80, false))⟩, ⟨(.some 83), (.bin .neq (.t 82) (.c (.lf (.int .i64 6)))), (.some (80, false))⟩, ⟨(.some 84), (.pick (.t 80) (.c (.lf (.bool true))) (.t 83)), none⟩, ⟨(.some 85), (.mv (.t 84)), none⟩, ⟨(.some 86), (.mv (.t 13)), (.some (85, false))⟩, ⟨(.some 87), (.len (.t 86)), (.some (85, false))⟩, ⟨(.some 88), (.bin .neq (.t 87) (.c (.lf (.int .i64 6)))), (.some (85, false))⟩, ⟨(.some 89), (.pick (.t 85) (.c (.lf (.bool true))) (.t 88)), none⟩, ⟨(.some 90), (.mv (.t 89)), none⟩, ⟨(.some 91), (.mv (.t 16)), (.some (90, false))⟩, ⟨(.some 92), (.len (.t 91)), (.some (90, false))⟩, ⟨(.some 93), (.bin .neq (.t 92) (.c (.lf (.int .i64 6)))), (.some (90, false))⟩, ⟨(.some 94), (.pick (.t 90) (.c (.lf (.bool true))) (.t 93)), none⟩])
 (.cond (.t 94) (.seq (.reg [⟨(.some 4), (.mv (.c (.lf (.bool false)))), none⟩])
 .ret) .skip))
 (.seq (.seq (.reg [⟨(.some 19), (.mv (.c (.lf (.int .i64 0)))), none⟩])
 (.block 0 (.loop (.seq (.seq (.reg [⟨(.some 95), (.mv (.t 19)), none⟩, ⟨(.some 96), (.bin .lss (.t 95) (.c (.lf (.int .i64 6)))), none⟩])
 (.cond (.t 96) .skip (.exit 0)))
 (.seq (.block 1 (.seq (.reg [⟨(.some 99), (.faddr 0 (.t 5)), none⟩, ⟨(.some 100), (.load false 1 (.t 99)), none⟩, ⟨(.some 101), (.toflt .f64 (.t 100)), none⟩, ⟨(.some 102), (.mv (.t 6)), none⟩, ⟨(.some 103), (.mv (.t 19)), none⟩, ⟨(.some 104), (.iaddr 1 (.t 102) (.t 103)), none⟩, ⟨(.some 105), (.load false 1 (.t 104)), none⟩, ⟨(.some 106), (.toflt .f64 (.t 105)), none⟩, ⟨(.some 107), (.bin .mul (.t 101) (.t 106)), none⟩, ⟨(.some 20), (.mv (.t 107)), none⟩])
 (.seq (.seq (.reg [⟨(.some 108), (.mv (.t 19)), none⟩, ⟨(.some 109), (.bin .gtr (.t 108) (.c (.lf (.int .i64 0)))), none⟩])
 (.cond (.t 109) (.reg [⟨(.some 110), (.mv (.t 20)), none⟩, ⟨(.some 111), (.faddr 1 (.t 5)), none⟩, ⟨(.some 112), (.load false 1 (.t 111)), none⟩, ⟨(.some 113), (.toflt .f64 (.t 112)), none⟩, ⟨(.some 114), (.mv (.t 6)), none⟩, ⟨(.some 115), (.mv (.t 19)), none⟩, ⟨(.some 116), (.bin .sub (.t 115) (.c (.lf (.int .i64 1)))), none⟩, ⟨(.some 117), (.iaddr 1 (.t 114) (.t 116)), none⟩, ⟨(.some 118), (.load false 1 (.t 117)), none⟩, ⟨(.some 119), (.toflt .f64 (.t 118)), none⟩, ⟨(.some 120), (.bin .mul (.t 113) (.t 119)), none⟩, ⟨(.some 121), (.faddr 3 (.t 5)), none⟩, ⟨(.some 122), (.load false 1 (.t 121)), none⟩, ⟨(.some 123), (.toflt .f64 (.t 122)), none⟩, ⟨(.some 124), (.mv (.t 7)), none⟩, ⟨(.some 125), (.mv (.t 19)), none⟩, ⟨(.some 126), (.bin .sub (.t 125) (.c (.lf (.int .i64 1)))), none⟩, ⟨(.some 127), (.iaddr 1 (.t 124) (.t 126)), none⟩, ⟨(.some 128), (.load false 1 (.t 127)), none⟩, ⟨(.some 129), (.toflt .f64 (.t 128)), none⟩, ⟨(.some 130), (.bin .mul (.t 123) (.t 129)), none⟩, ⟨(.some 131), (.bin .sub (.t 120) (.t 130)), none⟩, ⟨(.some 132), (.bin .add (.t 110) (.t 131)), none⟩, ⟨(.some 20), (.mv (.t 132)), none⟩]) .skip))
 (.seq (.seq (.reg [⟨(.some 133), (.mv (.t 19)), none⟩, ⟨(.some 134), (.bin .gtr (.t 133) (.c (.lf (.int .i64 1)))), none⟩])
 (.cond (.t 134) (.reg [⟨(.some 135), (.mv (.t 20)), none⟩, ⟨(.some 136), (.faddr 2 (.t 5)), none⟩, ⟨(.some 137), (.load false 1 (.t 136)), none⟩, ⟨(.some 138), (.toflt .f64 (.t 137)), none⟩, ⟨(.some 139), (.mv (.t 6)), none⟩, ⟨(.some 140), (.mv (.t 19)), none⟩, ⟨(.some 141), (.bin .sub (.t 140) (.c (.lf (.int .i64 2)))), none⟩, ⟨(.some 142), (.iaddr 1 (.t 139) (.t 141)), none⟩, ⟨(.some 143), (.load false 1 (.t 142)), none⟩, ⟨(.some 144), (.toflt .f64 (.t 143)), none⟩, ⟨(.some 145), (.bin .mul (.t 138) (.t 144)), none⟩, ⟨(.some 146), (.faddr 4 (.t 5)), none⟩, ⟨(.some 147), (.load false 1 (.t 146)), none⟩, ⟨(.some 148), (.toflt .f64 (.t 147)), none⟩, ⟨(.some 149), (.mv (.t 7)), none⟩, ⟨(.some 150), (.mv (.t 19)), none⟩, ⟨(.some 151), (.bin .sub (.t 150) (.c (.lf (.int .i64 2)))), none⟩, ⟨(.some 152), (.iaddr 1 (.t 149) (.t 151)), none⟩, ⟨(.some 153), (.load false 1 (.t 152)), none⟩, ⟨(.some 154), (.toflt .f64 (.t 153)), none⟩, ⟨(.some 155), (.bin .mul (.t 148) (.t 154)), none⟩, ⟨(.some 156), (.bin .sub (.t 145) (.t 155)), none⟩, ⟨(.some 157), (.bin .add (.t 135) (.t 156)), none⟩, ⟨(.some 20), (.mv (.t 157)), none⟩]) .skip))
 (.seq (.reg [⟨(.some 158), (.mv (.t 7)), none⟩, ⟨(.some 159), (.mv (.t 19)), none⟩, ⟨(.some 160), (.iaddr 1 (.t 158) (.t 159)), none⟩, ⟨(.some 161), (.load false 1 (.t 160)), none⟩, ⟨(.some 162), (.toflt .f64 (.t 161)), none⟩, ⟨(.some 163), (.mv (.t 20)), none⟩, ⟨(.some 164), (.bin .neq (.t 162) (.t 163)), none⟩, ⟨(.some 165), (.mv (.t 164)), none⟩, ⟨(.some 166), (.mv (.t 10)), (.some (165, false))⟩, ⟨(.some 167), (.mv (.t 19)), (.some (165, false))⟩, ⟨(.some 168), (.iaddr 1 (.t 166) (.t 167)), (.some (165, false))⟩, ⟨(.some 169), (.load false 1 (.t 168)), (.some (165, false))⟩, ⟨(.some 170), (.mv (.t 7)), (.some (165, false))⟩, ⟨(.some 171), (.mv (.t 19)), (.some (165, false))⟩, ⟨(.some 172), (.iaddr 1 (.t 170) (.t 171)), (.some (165, false))⟩, ⟨(.some 173), (.load false 1 (.t 172)), (.some (165, false))⟩, ⟨(.some 174), (.bin .neq (.t 169) (.t 173)), (.some (165, false))⟩, ⟨(.some 175), (.pick (.t 165) (.c (.lf (.bool true))) (.t 174)), none⟩, ⟨(.some 176), (.mv (.t 175)), none⟩, ⟨(.some 177), (.mv (.t 13)), (.some (176, false))⟩, ⟨(.some 178), (.mv (.t 19)), (.some (176, false))⟩, ⟨(.some 179), (.iaddr 1 (.t 177) (.t 178)), (.some (176, false))⟩, ⟨(.some 180), (.load false 1 (.t 179)), (.some (176, false))⟩, ⟨(.some 181), (.mv (.t 7)), (.some (176, false))⟩, ⟨(.some 182), (.mv (.t 19)), (.some (176, false))⟩, ⟨(.some 183), (.iaddr 1 (.t 181) (.t 182)), (.some (176, false))⟩, ⟨(.some 184), (.load false 1 (.t 183)), (.some (176, false))⟩, ⟨(.some 185), (.bin .neq (.t 180) (.t 184)), (.some (176, false))⟩, ⟨(.some 186), (.pick (.t 176) (.c (.lf (.bool true))) (.t 185)), none⟩, ⟨(.some 187), (.mv (.t 186)), none⟩, ⟨(.some 188), (.mv (.t 16)), (.some (187, false))⟩, ⟨(.some 189), (.mv (.t 19)), (.some (187, false))⟩, ⟨(.some 190), (.iaddr 1 (.t 188) (.t 189)), (.some (187, false))⟩, ⟨(.some 191), (.load false 1 (.t 190)), (.some (187, false))⟩, ⟨(.some 192), (.mv (.t 7)), (.some (187, false))⟩, ⟨(.some 193), (.mv (.t 19)), (.some (187, false))⟩, ⟨(.some 194), (.iaddr 1 (.t 192) (.t 193)), (.some (187, false))⟩, ⟨(.some 195), (.load false 1 (.t 194)), (.some (187, false))⟩, ⟨(.some 196), (.bin .mul (.c (.lf (.flt .f32 1073741824))) (.t 195)), (.some (187, false))⟩, ⟨(.some 197), (.bin .neq (.t 191) (.t 196)), (.some (187, false))⟩, ⟨(.some 198), (.pick (.t 187) (.c (.lf (.bool true))) (.t 197)), none⟩])
 (.cond (.t 198) (.seq (.reg [⟨(.some 4), (.mv (.c (.lf (.bool false)))), none⟩])
 .ret) .skip))))))
 (.reg [⟨(.some 97), (.mv (.t 19)), none⟩, ⟨(.some 98), (.bin .add (.t 97) (.c (.lf (.int .i64 1)))), none⟩, ⟨(.some 19), (.mv (.t 98)), none⟩]))))))
 (.seq (.reg [⟨(.some 4), (.mv (.c (.lf (.bool true)))), none⟩])
 .ret))))))))))), [(.tmp 4)]⟩
class HasLForms (S : Sys) : Prop extends HasXd S, HasRf S where
  f3 : S.fs 3 = some L3
set_option maxRecDepth 20000 in
set_option maxHeartbeats 16000000 in
theorem lawForms {S : Sys} [HasLForms S] : LawHolds S 3 [(false, .sl 1 (.int .u8)), (false, .sl 1 (.int .u8))] := by
  intro h cs hcs
  obtain ⟨c0, _, rfl, ⟨ls0, rfl, l, rows, rfl, hA, hrows⟩, c1, _, rfl, ⟨ls1, rfl, l2, rows2, rfl, hB, hrows2⟩, rfl⟩ := hcs
  obtain ⟨us, rfl, hu⟩ := rows_map fun r hr => ul_of (hrows r hr)
  obtain ⟨vs, rfl, hv⟩ := rows_map fun r hr => ul_of (hrows2 r hr)
  clear hrows hrows2
  refine law_of (F := L3) HasLForms.f3 rfl ?_
  have hlong := fun lim K => c_r8Long (S := S) (lim := lim) (K := K) hA hB
  generalize (decide (48 < (us.length : Int)) || decide (48 < (vs.length : Int))) = long at *
  have hhal := fun K hK => c_R8Halves (S := S) (lim := h.length) (K := K) hA hu (Nat.le_refl _) hK
  cases long
  rotate_left
  · unfold L3
    dsimp only []
    repeat' (first | (simp (disch := first | omega | assumption | (simp only [List.length_set]; omega) | (simp [*] <;> fail) | assumption) [-Bool.decide_and, -Bool.decide_or, -Bool.not_and, -Bool.not_or, toNat_pred, toNat_succ, wrap64, wr_new, wr_new0, ok_if, ok_ifn, iadV_sl, makeV_int, decT, decF, over_at, *]) | (with_reducible refine Gd_split (fun hc => ?_) (fun hc => ?_) <;> (have hc2 := hc; try simp at hc2)) | (with_reducible refine Br_split (fun hc => ?_) (fun hc => ?_) <;> (have hc2 := hc; try simp at hc2)) | (with_reducible refine GdT_split (fun hc => ?_) (fun hc => ?_) <;> (have hc2 := hc; try simp at hc2)) | (with_reducible refine WT_alt ?_ ?_) | omega)
  unfold L3
  dsimp only []
  repeat' (first | (simp (disch := first | omega | assumption | (simp only [List.length_set]; omega) | (simp [*] <;> fail) | assumption) [-Bool.decide_and, -Bool.decide_or, -Bool.not_and, -Bool.not_or, toNat_pred, toNat_succ, wrap64, wr_new, wr_new0, ok_if, ok_ifn, iadV_sl, makeV_int, decT, decF, over_at, *]) | (with_reducible refine Gd_split (fun hc => ?_) (fun hc => ?_) <;> (have hc2 := hc; try simp at hc2)) | (with_reducible refine Br_split (fun hc => ?_) (fun hc => ?_) <;> (have hc2 := hc; try simp at hc2)) | (with_reducible refine GdT_split (fun hc => ?_) (fun hc => ?_) <;> (have hc2 := hc; try simp at hc2)) | (with_reducible refine WT_alt ?_ ?_) | omega)
  refine hhal _ fun f B t hf => ?_
  have hec : f.cells.length = 5 := rfl
  have kb : Kept h (h ++ (t ++ [⟨f.cells, .own 26 1⟩])) := Kept.app h _
  have be : rdCells (h ++ (t ++ [⟨f.cells, .own 26 1⟩])) (h.length + t.length) 0 5 = some f.cells := by
    simp [rdCells, Ob.live, hec]
    exact List.take_of_length_le (by omega)
  clear hhal hlong
  repeat' (first | (simp (disch := first | omega | assumption | (simp only [List.length_set]; omega) | (simp [*] <;> fail) | assumption) [-Bool.decide_and, -Bool.decide_or, -Bool.not_and, -Bool.not_or, toNat_pred, toNat_succ, wrap64, wr_new, wr_new0, ok_if, ok_ifn, iadV_sl, makeV_int, decT, decF, over_at, *]) | (with_reducible refine Gd_split (fun hc => ?_) (fun hc => ?_) <;> (have hc2 := hc; try simp at hc2)) | (with_reducible refine Br_split (fun hc => ?_) (fun hc => ?_) <;> (have hc2 := hc; try simp at hc2)) | (with_reducible refine GdT_split (fun hc => ?_) (fun hc => ?_) <;> (have hc2 := hc; try simp at hc2)) | (with_reducible refine WT_alt ?_ ?_) | omega)
  generalize (h ++ (t ++ [⟨f.cells, .own 26 1⟩]) : Hp) = H0 at *
  generalize h.length + t.length = IE at *
  have hl0 := kb.1
  refine c_R8Whole (hB.kept kb) hv hl0 fun os g1 xs X hN hX hcf => ?_
  have k1 := hN.kept
  have be1 := k1.rd be
  have hl1 : h.length ≤ g1.length := by have := k1.1; omega
  have hNA := hN.arr
  have hxl := hX.len
  have hrun : ∀ {g : Hp} {f : Fil} {form : Int} {fb : Bool} {K : CV → Hp → Prop}, Kept g1 g → (0 ≤ form ∧ form ≤ 2) → (∀ o g', New g g' o 24 1 ((scan (stepF f form fb) Mem.zero xs).1.map fl) → ∀ m : Mem, K (.tup [.lf o, .agg m.cells, .lf (.bool true)]) g') → CallT S false 7 [.agg f.cells, .lf (.int .i64 form), .lf (.bool fb), .agg [.flt .f32 0, .flt .f32 0, .flt .f32 0, .flt .f32 0], .lf os] g h.length K := by
    intro g f form fb K kg hform hK
    have okR : okRf form xs.length := ⟨hform, by omega⟩
    refine c_implRunFilter (m := Mem.zero) CF_memz (hNA.kept kg) hcf (by have := kg.1; omega) fun o g' hO => ?_
    rw [decide_eq_true okR]
    unfold runF at hO ⊢
    rw [if_pos okR] at hO ⊢
    exact hK o g' hO _
  have hscale := fun k g lim K => c_ScaleFilter (S := S) (h := g) (lim := lim) (f := f) (k := k) (K := K)
  obtain ⟨qa, has⟩ : ∃ qa, (scan (stepF f 0 false) Mem.zero xs).1 = qa := ⟨_, rfl⟩
  obtain ⟨qb, hbs⟩ : ∃ qa, (scan (stepF f 1 false) Mem.zero xs).1 = qa := ⟨_, rfl⟩
  obtain ⟨qc, hcs⟩ : ∃ qa, (scan (stepF f 2 true) Mem.zero xs).1 = qa := ⟨_, rfl⟩
  obtain ⟨qd, hds⟩ : ∃ qa, (scan (stepF (f.by 1073741824) 0 false) Mem.zero xs).1 = qa := ⟨_, rfl⟩
  have la : qa.length = 6 := by rw [← has, scan_len, hxl]
  have lb : qb.length = 6 := by rw [← hbs, scan_len, hxl]
  have lc : qc.length = 6 := by rw [← hcs, scan_len, hxl]
  have ld : qd.length = 6 := by rw [← hds, scan_len, hxl]
  have fA : ∀ i (hi : i < qa.length), Ds qa[i] (YS B X (i + 1)).1 (i + 1) := by subst has; exact fun i hi => dir_at hf.toHvs hX hi
  have fB : ∀ i (hi : i < qb.length), Ds qb[i] (YS B X (i + 1)).1 (i + 1) := by subst hbs; exact fun i hi => tur_at hf.toHvs hX hi
  have fC : ∀ i (hi : i < qc.length), Ds qc[i] (2 * (YS B X (i + 1)).1) (i + 2) := by subst hcs; exact fun i hi => can_at hf.toHvs hX hi
  have fD : ∀ i (hi : i < qd.length), Ds qd[i] (2 * (YS B X (i + 1)).1) (i + 1) := by
    subst hds
    intro i hi
    have := dir_at hf.dbl hX hi
    rwa [YS_dbl.1] at this
  have ra := fun K g kg hK => hrun (K := K) (g := g) (f := f) (form := 0) (fb := false) kg (by omega) hK
  have rb := fun K g kg hK => hrun (K := K) (g := g) (f := f) (form := 1) (fb := false) kg (by omega) hK
  have rc := fun K g kg hK => hrun (K := K) (g := g) (f := f) (form := 2) (fb := true) kg (by omega) hK
  have rd := fun K g kg hK => hrun (K := K) (g := g) (f := f.by 1073741824) (form := 0) (fb := false) kg (by omega) hK
  rw [has] at ra
  rw [hbs] at rb
  rw [hcs] at rc
  rw [hds] at rd
  clear hrun has hbs hcs hds
  repeat' (first | (simp (disch := first | omega | assumption | (simp only [List.length_set]; omega) | (simp [*] <;> fail) | assumption) [-Bool.decide_and, -Bool.decide_or, -Bool.not_and, -Bool.not_or, toNat_pred, toNat_succ, wrap64, wr_new, wr_new0, ok_if, ok_ifn, iadV_sl, makeV_int, decT, decF, over_at, *]) | (with_reducible refine Gd_split (fun hc => ?_) (fun hc => ?_) <;> (have hc2 := hc; try simp at hc2)) | (with_reducible refine Br_split (fun hc => ?_) (fun hc => ?_) <;> (have hc2 := hc; try simp at hc2)) | (with_reducible refine GdT_split (fun hc => ?_) (fun hc => ?_) <;> (have hc2 := hc; try simp at hc2)) | (with_reducible refine WT_alt ?_ ?_) | omega)
  refine ra _ _ (Kept.refl _) fun oa g2 hNa ma => ?_
  clear ra
  have k2 := hNa.kept
  have be2 := k2.rd be1
  have bf2 := fun t => rd_app' (t := t) be2
  have hl2 : h.length ≤ g2.length := by have := k2.1; omega
  have hma : ma.cells.length = 4 := rfl
  repeat' (first | (simp (disch := first | omega | assumption | (simp only [List.length_set]; omega) | (simp [*] <;> fail) | assumption) [-Bool.decide_and, -Bool.decide_or, -Bool.not_and, -Bool.not_or, toNat_pred, toNat_succ, wrap64, wr_new, wr_new0, ok_if, ok_ifn, iadV_sl, makeV_int, decT, decF, over_at, *]) | (with_reducible refine Gd_split (fun hc => ?_) (fun hc => ?_) <;> (have hc2 := hc; try simp at hc2)) | (with_reducible refine Br_split (fun hc => ?_) (fun hc => ?_) <;> (have hc2 := hc; try simp at hc2)) | (with_reducible refine GdT_split (fun hc => ?_) (fun hc => ?_) <;> (have hc2 := hc; try simp at hc2)) | (with_reducible refine WT_alt ?_ ?_) | omega)
  refine rb _ _ (k2.trans (Kept.app _ _)) fun ob g3 hNb mb => ?_
  clear rb
  have k3 := (Kept.app g2 _).trans hNb.kept
  have be3 := k3.rd be2
  have bf3 := fun t => rd_app' (t := t) be3
  have hl3 : h.length ≤ g3.length := by have := k3.1; omega
  have hmb : mb.cells.length = 4 := rfl
  repeat' (first | (simp (disch := first | omega | assumption | (simp only [List.length_set]; omega) | (simp [*] <;> fail) | assumption) [-Bool.decide_and, -Bool.decide_or, -Bool.not_and, -Bool.not_or, toNat_pred, toNat_succ, wrap64, wr_new, wr_new0, ok_if, ok_ifn, iadV_sl, makeV_int, decT, decF, over_at, *]) | (with_reducible refine Gd_split (fun hc => ?_) (fun hc => ?_) <;> (have hc2 := hc; try simp at hc2)) | (with_reducible refine Br_split (fun hc => ?_) (fun hc => ?_) <;> (have hc2 := hc; try simp at hc2)) | (with_reducible refine GdT_split (fun hc => ?_) (fun hc => ?_) <;> (have hc2 := hc; try simp at hc2)) | (with_reducible refine WT_alt ?_ ?_) | omega)
  refine rc _ _ ((k2.trans k3).trans (Kept.app _ _)) fun oc g4 hNc mc => ?_
  clear rc
  have k4 := (Kept.app g3 _).trans hNc.kept
  have be4 := k4.rd be3
  have bf4 := fun t => rd_app' (t := t) be4
  have hl4 : h.length ≤ g4.length := by have := k4.1; omega
  have hmc : mc.cells.length = 4 := rfl
  repeat' (first | (simp (disch := first | omega | assumption | (simp only [List.length_set]; omega) | (simp [*] <;> fail) | assumption) [-Bool.decide_and, -Bool.decide_or, -Bool.not_and, -Bool.not_or, toNat_pred, toNat_succ, wrap64, wr_new, wr_new0, ok_if, ok_ifn, iadV_sl, makeV_int, decT, decF, over_at, *]) | (with_reducible refine Gd_split (fun hc => ?_) (fun hc => ?_) <;> (have hc2 := hc; try simp at hc2)) | (with_reducible refine Br_split (fun hc => ?_) (fun hc => ?_) <;> (have hc2 := hc; try simp at hc2)) | (with_reducible refine GdT_split (fun hc => ?_) (fun hc => ?_) <;> (have hc2 := hc; try simp at hc2)) | (with_reducible refine WT_alt ?_ ?_) | omega)
  refine rd _ _ (((k2.trans k3).trans k4).trans (Kept.app _ _)) fun od g5 hNd md => ?_
  clear rd
  have k5 := (Kept.app g4 _).trans hNd.kept
  have be5 := k5.rd be4
  have bf5 := fun t => rd_app' (t := t) be5
  have hl5 : h.length ≤ g5.length := by have := k5.1; omega
  have hmd : md.cells.length = 4 := rfl
  have kz := Kept.app g5 [⟨md.cells, .own 31 1⟩]
  have hAa := hNa.arr.kept (((k3.trans k4).trans k5).trans kz)
  have hAb := hNb.arr.kept ((k4.trans k5).trans kz)
  have hAc := hNc.arr.kept (k5.trans kz)
  have hAd := hNd.arr.kept kz
  have hAs := hNA.kept ((((k2.trans k3).trans k4).trans k5).trans kz)
  have hla := hNa.arr.len
  have hlb := hNb.arr.len
  have hlc := hNc.arr.len
  have hld := hNd.arr.len
  rw [la] at hla
  rw [lb] at hlb
  rw [lc] at hlc
  rw [ld] at hld
  obtain ⟨q1, q2, q3, q4, q5⟩ := (fun t => rd_five be5 t) [⟨md.cells, .own 31 1⟩]
  clear hNa hNb hNc hNd hNA k1 k2 k3 k4 k5 kz be be1 be2 be3 be4 hN
  repeat' (first | (simp (disch := first | omega | assumption | (simp only [List.length_set]; omega) | (simp [*] <;> fail) | assumption) [-Bool.decide_and, -Bool.decide_or, -Bool.not_and, -Bool.not_or, toNat_pred, toNat_succ, wrap64, wr_new, wr_new0, ok_if, ok_ifn, iadV_sl, makeV_int, decT, decF, over_at, *]) | (with_reducible refine Gd_split (fun hc => ?_) (fun hc => ?_) <;> (have hc2 := hc; try simp at hc2)) | (with_reducible refine Br_split (fun hc => ?_) (fun hc => ?_) <;> (have hc2 := hc; try simp at hc2)) | (with_reducible refine GdT_split (fun hc => ?_) (fun hc => ?_) <;> (have hc2 := hc; try simp at hc2)) | (with_reducible refine WT_alt ?_ ?_) | omega)
  clear hla hlb hlc hld bf2 bf3 bf4 bf5 be5 hscale
  generalize (g5 ++ [⟨md.cells, .own 31 1⟩] : Hp) = G at *
  refine WL_forM 803469022129495137770981046170541687179844364722599647248400 (by decide +kernel) (6) (fun i b g => i ≤ 6 ∧ b 19 = .lf (.int .i64 i) ∧ G = g) (fun _ _ _ hi => hi.1) ⟨by omega, by simp, rfl⟩ ?_
  rintro i b g ⟨hi, e19, rfl⟩
  by_cases hlt : i < 6
  · have iA : i < qa.length := by omega
    have iB : i < qb.length := by omega
    have iC : i < qc.length := by omega
    have iD : i < qd.length := by omega
    have iX : i < xs.length := by omega
    have vA := fA i iA
    have hYb := (YS_le hf.toHvs hX.le (i := i + 1)).1
    have hM := MB_le (i := i + 1) (by omega)
    have cB : fcmp .neq .f32 qb[i] qa[i] = false := Dy32.eq (fB i iB) vA
    have cC : fcmp .neq .f32 qc[i] qa[i] = false := Dy32.eq (fC i iC) (vA.up fk32 (by omega))
    have cD : fcmp .neq .f32 qd[i] (fbin .mul .f32 1073741824 qa[i]) = false := by
      have := Dy32.mul two_Ds vA (by omega) (by omega)
      rw [Nat.zero_add] at this
      exact Dy32.eq (fD i iD) this
    have aA := hAa.at_ (k := .i64) iA
    have dA := hAa.rd1 iA
    have aB := hAb.at_ (k := .i64) iB
    have dB := hAb.rd1 iB
    have aC := hAc.at_ (k := .i64) iC
    have dC := hAc.rd1 iC
    have aD := hAd.at_ (k := .i64) iD
    have dD := hAd.rd1 iD
    have aX := hAs.at_ (k := .i64) iX
    have dX := hAs.rd1 iX
    obtain ⟨I, hI⟩ : ∃ I : Int, (i : Int) = I := ⟨_, rfl⟩
    rw [hI] at e19 aA aB aC aD aX
    by_cases h0 : i = 0
    · have own : fcmp .neq .f64 (wid qa[i]) (ownA f xs[i]) = false := by
        subst h0
        exact own_at0 hf.toHvs hX.le (hX.at_ 0 iX) vA
      simp only [ownA] at own
      have g0 : ¬ 0 < I := by omega
      have g1 : ¬ 1 < I := by omega
      clear fA fB fC fD vA hYb hM h0
      generalize qa[i] = za at *
      generalize qb[i] = zb at *
      generalize qc[i] = zc at *
      generalize qd[i] = zd at *
      generalize xs[i] = zx at *
      repeat' (first | (simp (disch := first | omega | assumption | (simp only [List.length_set]; omega) | (simp [*] <;> fail) | assumption) [-Bool.decide_and, -Bool.decide_or, -Bool.not_and, -Bool.not_or, toNat_pred, toNat_succ, wrap64, wr_new, wr_new0, ok_if, ok_ifn, iadV_sl, makeV_int, decT, decF, over_at, *, fl]) | (with_reducible refine Gd_split (fun hc => ?_) (fun hc => ?_) <;> (have hc2 := hc; try simp at hc2)) | (with_reducible refine Br_split (fun hc => ?_) (fun hc => ?_) <;> (have hc2 := hc; try simp at hc2)) | (with_reducible refine GdT_split (fun hc => ?_) (fun hc => ?_) <;> (have hc2 := hc; try simp at hc2)) | (with_reducible refine WT_alt ?_ ?_) | omega)
    · obtain ⟨j, hj⟩ : ∃ j, i = j + 1 := ⟨i - 1, by omega⟩
      have jA : j < qa.length := by omega
      have jX : j < xs.length := by omega
      have aA1 := hAa.at_ (k := .i64) jA
      have dA1 := hAa.rd1 jA
      have aX1 := hAs.at_ (k := .i64) jX
      have dX1 := hAs.rd1 jX
      have wA := fA j jA
      have eJ : I - 1 = (j : Int) := by omega
      by_cases h1 : j = 0
      · have own : fcmp .neq .f64 (wid qa[i]) (ownB (ownA f xs[i]) f.b1 f.a1 xs[j] qa[j]) = false := by
          subst hj h1
          exact own_at1 hf.toHvs hX.le (hX.at_ 1 iX) (hX.at_ 0 jX) vA wA
        simp only [ownA, ownB] at own
        have g0 : 0 < I := by omega
        have g1 : ¬ 1 < I := by omega
        clear fA fB fC fD vA hYb hM wA h0 h1 hj
        generalize qa[i] = za at *
        generalize qb[i] = zb at *
        generalize qc[i] = zc at *
        generalize qd[i] = zd at *
        generalize xs[i] = zx at *
        generalize qa[j] = ya at *
        generalize xs[j] = yx at *
        repeat' (first | (simp (disch := first | omega | assumption | (simp only [List.length_set]; omega) | (simp [*] <;> fail) | assumption) [-Bool.decide_and, -Bool.decide_or, -Bool.not_and, -Bool.not_or, toNat_pred, toNat_succ, wrap64, wr_new, wr_new0, ok_if, ok_ifn, iadV_sl, makeV_int, decT, decF, over_at, *, fl]) | (with_reducible refine Gd_split (fun hc => ?_) (fun hc => ?_) <;> (have hc2 := hc; try simp at hc2)) | (with_reducible refine Br_split (fun hc => ?_) (fun hc => ?_) <;> (have hc2 := hc; try simp at hc2)) | (with_reducible refine GdT_split (fun hc => ?_) (fun hc => ?_) <;> (have hc2 := hc; try simp at hc2)) | (with_reducible refine WT_alt ?_ ?_) | omega)
      · obtain ⟨k, hk⟩ : ∃ k, j = k + 1 := ⟨j - 1, by omega⟩
        have kA : k < qa.length := by omega
        have kX : k < xs.length := by omega
        have aA2 := hAa.at_ (k := .i64) kA
        have dA2 := hAa.rd1 kA
        have aX2 := hAs.at_ (k := .i64) kX
        have dX2 := hAs.rd1 kX
        have eK : I - 2 = (k : Int) := by omega
        have own : fcmp .neq .f64 (wid qa[i]) (ownB (ownB (ownA f xs[i]) f.b1 f.a1 xs[j] qa[j]) f.b2 f.a2 xs[k] qa[k]) = false := by
          subst hj hk
          exact own_at2 (i := k) hf.toHvs hX.le (by omega) (hX.at_ (k + 2) iX) (hX.at_ (k + 1) jX) (hX.at_ k kX) vA wA (fA k kA)
        simp only [ownA, ownB] at own
        have g0 : 0 < I := by omega
        have g1 : 1 < I := by omega
        clear fA fB fC fD vA hYb hM wA h0 h1 hj hk
        generalize qa[i] = za at *
        generalize qb[i] = zb at *
        generalize qc[i] = zc at *
        generalize qd[i] = zd at *
        generalize xs[i] = zx at *
        generalize qa[j] = ya at *
        generalize xs[j] = yx at *
        generalize qa[k] = xa at *
        generalize xs[k] = xx at *
        repeat' (first | (simp (disch := first | omega | assumption | (simp only [List.length_set]; omega) | (simp [*] <;> fail) | assumption) [-Bool.decide_and, -Bool.decide_or, -Bool.not_and, -Bool.not_or, toNat_pred, toNat_succ, wrap64, wr_new, wr_new0, ok_if, ok_ifn, iadV_sl, makeV_int, decT, decF, over_at, *, fl]) | (with_reducible refine Gd_split (fun hc => ?_) (fun hc => ?_) <;> (have hc2 := hc; try simp at hc2)) | (with_reducible refine Br_split (fun hc => ?_) (fun hc => ?_) <;> (have hc2 := hc; try simp at hc2)) | (with_reducible refine GdT_split (fun hc => ?_) (fun hc => ?_) <;> (have hc2 := hc; try simp at hc2)) | (with_reducible refine WT_alt ?_ ?_) | omega)
  · have : i = 6 := by omega
    subst this
    repeat' (first | (simp (disch := first | omega | assumption | (simp only [List.length_set]; omega) | (simp [*] <;> fail) | assumption) [-Bool.decide_and, -Bool.decide_or, -Bool.not_and, -Bool.not_or, toNat_pred, toNat_succ, wrap64, wr_new, wr_new0, ok_if, ok_ifn, iadV_sl, makeV_int, decT, decF, over_at, *]) | (with_reducible refine Gd_split (fun hc => ?_) (fun hc => ?_) <;> (have hc2 := hc; try simp at hc2)) | (with_reducible refine Br_split (fun hc => ?_) (fun hc => ?_) <;> (have hc2 := hc; try simp at hc2)) | (with_reducible refine GdT_split (fun hc => ?_) (fun hc => ?_) <;> (have hc2 := hc; try simp at hc2)) | (with_reducible refine WT_alt ?_ ?_) | omega)
end Go.E
namespace Go.E.Forms
open Go Go.E
def pure : FuncId → Bool := fun f => List.elem f [3, 4, 8, 11, 12, 15, 16, 17, 18, 19, 20, 21, 22, 23, 25, 27, 29, 36, 38, 39]
def funs : List (Nat × LFn) := [(9, L9), (10, L10), (14, L14), (4, L4), (5, L5), (6, L6), (8, L8), (18, L18), (19, L19), (20, L20), (17, L17), (16, L16), (13, L13), (15, L15), (12, L12), (11, L11), (7, L7), (3, L3)]
def Sy : Sys := sysOf funs
theorem lfn9 : lFn Go.Proofs.Try.prog pure Go.Proofs.Try.f9 = some L9 := by kernel_rfl
theorem lfn10 : lFn Go.Proofs.Try.prog pure Go.Proofs.Try.f10 = some L10 := by kernel_rfl
theorem lfn14 : lFn Go.Proofs.Try.prog pure Go.Proofs.Try.f14 = some L14 := by kernel_rfl
theorem lfn4 : lFn Go.Proofs.Try.prog pure Go.Proofs.Try.f4 = some L4 := by kernel_rfl
theorem lfn5 : lFn Go.Proofs.Try.prog pure Go.Proofs.Try.f5 = some L5 := by kernel_rfl
theorem lfn6 : lFn Go.Proofs.Try.prog pure Go.Proofs.Try.f6 = some L6 := by kernel_rfl
theorem lfn8 : lFn Go.Proofs.Try.prog pure Go.Proofs.Try.f8 = some L8 := by kernel_rfl
theorem lfn18 : lFn Go.Proofs.Try.prog pure Go.Proofs.Try.f18 = some L18 := by kernel_rfl
theorem lfn19 : lFn Go.Proofs.Try.prog pure Go.Proofs.Try.f19 = some L19 := by kernel_rfl
theorem lfn20 : lFn Go.Proofs.Try.prog pure Go.Proofs.Try.f20 = some L20 := by kernel_rfl
theorem lfn17 : lFn Go.Proofs.Try.prog pure Go.Proofs.Try.f17 = some L17 := by kernel_rfl
theorem lfn16 : lFn Go.Proofs.Try.prog pure Go.Proofs.Try.f16 = some L16 := by kernel_rfl
theorem lfn13 : lFn Go.Proofs.Try.prog pure Go.Proofs.Try.f13 = some L13 := by kernel_rfl
theorem lfn15 : lFn Go.Proofs.Try.prog pure Go.Proofs.Try.f15 = some L15 := by kernel_rfl
theorem lfn12 : lFn Go.Proofs.Try.prog pure Go.Proofs.Try.f12 = some L12 := by kernel_rfl
theorem lfn11 : lFn Go.Proofs.Try.prog pure Go.Proofs.Try.f11 = some L11 := by kernel_rfl
theorem lfn7 : lFn Go.Proofs.Try.prog pure Go.Proofs.Try.f7 = some L7 := by kernel_rfl
theorem lfn3 : lFn Go.Proofs.Try.prog pure Go.Proofs.Try.f3 = some L3 := by kernel_rfl
instance : HasDr Sy := { f9 := rfl, f10 := rfl, f14 := rfl }
instance : HasXd Sy := { f4 := rfl, f5 := rfl, f6 := rfl, f8 := rfl }
instance : HasFb Sy := {  }
instance : HasFf Sy := { f18 := rfl, f19 := rfl, f20 := rfl }
instance : HasFl2 Sy := { f17 := rfl }
instance : HasFi Sy := { f16 := rfl }
instance : HasFr Sy := { f13 := rfl }
instance : HasA Sy := { f15 := rfl }
instance : HasP Sy := { f12 := rfl }
instance : HasFo Sy := { f11 := rfl }
instance : HasRf Sy := { f7 := rfl }
instance : HasLForms Sy := { f3 := rfl }
theorem sysOK {B : Nat} {w0 : World} : SysOK Go.Proofs.Try.prog pure Sy B w0 := SysOK.of (by
  intro p hp
  simp only [funs, List.mem_cons, List.not_mem_nil, or_false] at hp
  rcases hp with rfl | rfl | rfl | rfl | rfl | rfl | rfl | rfl | rfl | rfl | rfl | rfl | rfl | rfl | rfl | rfl | rfl | rfl
  · exact ⟨_, Go.Proofs.Try.func9, lfn9⟩
  · exact ⟨_, Go.Proofs.Try.func10, lfn10⟩
  · exact ⟨_, Go.Proofs.Try.func14, lfn14⟩
  · exact ⟨_, Go.Proofs.Try.func4, lfn4⟩
  · exact ⟨_, Go.Proofs.Try.func5, lfn5⟩
  · exact ⟨_, Go.Proofs.Try.func6, lfn6⟩
  · exact ⟨_, Go.Proofs.Try.func8, lfn8⟩
  · exact ⟨_, Go.Proofs.Try.func18, lfn18⟩
  · exact ⟨_, Go.Proofs.Try.func19, lfn19⟩
  · exact ⟨_, Go.Proofs.Try.func20, lfn20⟩
  · exact ⟨_, Go.Proofs.Try.func17, lfn17⟩
  · exact ⟨_, Go.Proofs.Try.func16, lfn16⟩
  · exact ⟨_, Go.Proofs.Try.func13, lfn13⟩
  · exact ⟨_, Go.Proofs.Try.func15, lfn15⟩
  · exact ⟨_, Go.Proofs.Try.func12, lfn12⟩
  · exact ⟨_, Go.Proofs.Try.func11, lfn11⟩
  · exact ⟨_, Go.Proofs.Try.func7, lfn7⟩
  · exact ⟨_, Go.Proofs.Try.func3, lfn3⟩)

end Go.E.Forms
