/- The law of MiddleAndSide: what the evaluator finds. -/
import Derived.Test.YtgmacpocalppcaaMMs
import Derived.Test.YtgmacpocalppcaaEE
import Derived.Test.YtgmacpocalppcaaProg
set_option linter.unusedVariables false
set_option linter.unusedSimpArgs false
namespace Go.E
open Go
def L12 : LFn := ⟨2, (.seq (.reg [⟨(.some 4), (.mv (.c (.lf (.bool false)))), none⟩])
 (.seq (.seq (.reg [⟨(.some 19), (.mv (.t 0)), none⟩, ⟨(.some 20), (.len (.t 19)), none⟩, ⟨(.some 21), (.bin .gtr (.t 20) (.c (.lf (.int .i64 1048576)))), none⟩])
 (.cond (.t 21) (.seq (.reg [⟨(.some 4), (.mv (.c (.lf (.bool true)))), none⟩])
 .ret) .skip))
 (.seq (.seq (.reg [⟨(.some 22), (.mv (.t 1)), none⟩, ⟨(.some 23), (.len (.t 22)), none⟩, ⟨(.some 24), (.bin .gtr (.t 23) (.c (.lf (.int .i64 1048576)))), none⟩])
 (.cond (.t 24) (.seq (.reg [⟨(.some 4), (.mv (.c (.lf (.bool true)))), none⟩])
 .ret) .skip))
 (.seq (.reg [⟨(.some 26), (.mv (.t 0)), none⟩, ⟨(.some 27), (.call false 28 [(.t 26)]), none⟩, ⟨(.some 28), (.mv (.t 1)), none⟩, ⟨(.some 29), (.call false 28 [(.t 28)]), none⟩, ⟨(.some 30), (.call false 53 [(.t 27), (.t 29)]), none⟩, ⟨(.some 25), (.mv (.t 30)), none⟩, ⟨(.some 31), (.ext (.t 25) 0), none⟩, ⟨(.some 32), (.ext (.t 25) 1), none⟩, ⟨(.some 33), (.ext (.t 25) 2), none⟩, ⟨(.some 5), (.mv (.t 31)), none⟩, ⟨(.some 6), (.mv (.t 32)), none⟩, ⟨(.some 7), (.mv (.t 33)), none⟩])
 (.seq (.reg [⟨(.some 34), (.mv (.t 0)), none⟩, ⟨(.some 35), (.call false 28 [(.t 34)]), none⟩, ⟨(.some 8), (.mv (.t 35)), none⟩])
 (.seq (.reg [⟨(.some 36), (.mv (.t 1)), none⟩, ⟨(.some 37), (.call false 28 [(.t 36)]), none⟩, ⟨(.some 9), (.mv (.t 37)), none⟩])
 (.seq (.reg [⟨(.some 39), (.mv (.t 8)), none⟩, ⟨(.some 40), (.mv (.t 9)), none⟩, ⟨(.some 41), (.call false 54 [(.t 39), (.t 40)]), none⟩, ⟨(.some 38), (.mv (.t 41)), none⟩, ⟨(.some 42), (.ext (.t 38) 0), none⟩, ⟨(.some 43), (.ext (.t 38) 1), none⟩, ⟨(.some 44), (.ext (.t 38) 2), none⟩, ⟨(.some 10), (.mv (.t 42)), none⟩, ⟨(.some 11), (.mv (.t 43)), none⟩, ⟨(.some 12), (.mv (.t 44)), none⟩])
 (.seq (.seq (.reg [⟨(.some 45), (.mv (.t 10)), none⟩, ⟨(.some 46), (.mv (.t 5)), none⟩, ⟨(.some 47), (.call true 30 [(.t 45), (.t 46)]), none⟩, ⟨(.some 48), (.una .not (.t 47)), none⟩, ⟨(.some 49), (.mv (.t 48)), none⟩, ⟨(.some 50), (.mv (.t 11)), (.some (49, false))⟩, ⟨(.some 51), (.mv (.t 6)), (.some (49, false))⟩, ⟨(.some 52), (.call true 30 [(.t 50), (.t 51)]), (.some (49, false))⟩, ⟨(.some 53), (.una .not (.t 52)), (.some (49, false))⟩, ⟨(.some 54), (.pick (.t 49) (.c (.lf (.bool true))) (.t 53)), none⟩, ⟨(.some 55), (.mv (.t 54)), none⟩, ⟨(.some 56), (.mv (.t 12)), (.some (55, false))⟩, ⟨(.some 57), (.mv (.t 7)), (.some (55, false))⟩, ⟨(.some 58), (.beq true (.t 56) (.t 57)), (.some (55, false))⟩, ⟨(.some 59), (.pick (.t 55) (.c (.lf (.bool true))) (.t 58)), none⟩])
 (.cond (.t 59) (.seq (.reg [⟨(.some 4), (.mv (.c (.lf (.bool false)))), none⟩])
 .ret) .skip))
 (.seq (.seq (.reg [⟨(.some 60), (.mv (.t 8)), none⟩, ⟨(.some 61), (.mv (.t 0)), none⟩, ⟨(.some 62), (.call false 28 [(.t 61)]), none⟩, ⟨(.some 63), (.call true 30 [(.t 60), (.t 62)]), none⟩, ⟨(.some 64), (.una .not (.t 63)), none⟩])
 (.cond (.t 64) (.seq (.reg [⟨(.some 4), (.mv (.c (.lf (.bool false)))), none⟩])
 .ret) .skip))
 (.seq (.seq (.reg [⟨(.some 65), (.mv (.t 9)), none⟩, ⟨(.some 66), (.mv (.t 1)), none⟩, ⟨(.some 67), (.call false 28 [(.t 66)]), none⟩, ⟨(.some 68), (.call true 30 [(.t 65), (.t 67)]), none⟩, ⟨(.some 69), (.una .not (.t 68)), none⟩])
 (.cond (.t 69) (.seq (.reg [⟨(.some 4), (.mv (.c (.lf (.bool false)))), none⟩])
 .ret) .skip))
 (.seq (.reg [⟨(.some 13), (.mv (.c (.lf (.int .i64 1)))), none⟩])
 (.seq (.reg [⟨(.some 70), (.mv (.t 8)), none⟩, ⟨(.some 71), (.mv (.t 13)), none⟩, ⟨(.some 72), (.call false 31 [(.t 70), (.t 71)]), none⟩, ⟨(.some 13), (.mv (.t 72)), none⟩])
 (.seq (.reg [⟨(.some 73), (.mv (.t 9)), none⟩, ⟨(.some 74), (.mv (.t 13)), none⟩, ⟨(.some 75), (.call false 31 [(.t 73), (.t 74)]), none⟩, ⟨(.some 13), (.mv (.t 75)), none⟩])
 (.seq (.seq (.reg [⟨(.some 76), (.mv (.t 13)), none⟩, ⟨(.some 77), (.bin .lss (.t 76) (.c (.lf (.int .i64 0)))), none⟩, ⟨(.some 78), (.mv (.t 77)), none⟩, ⟨(.some 79), (.mv (.t 10)), (.some (78, false))⟩, ⟨(.some 80), (.mv (.t 5)), (.some (78, false))⟩, ⟨(.some 81), (.call true 30 [(.t 79), (.t 80)]), (.some (78, false))⟩, ⟨(.some 82), (.una .not (.t 81)), (.some (78, false))⟩, ⟨(.some 83), (.pick (.t 78) (.c (.lf (.bool true))) (.t 82)), none⟩, ⟨(.some 84), (.mv (.t 83)), none⟩, ⟨(.some 85), (.mv (.t 11)), (.some (84, false))⟩, ⟨(.some 86), (.mv (.t 6)), (.some (84, false))⟩, ⟨(.some 87), (.call true 30 [(.t 85), (.t 86)]), (.some (84, false))⟩, ⟨(.some 88), (.una .not (.t 87)), (.some (84, false))⟩, ⟨(.some 89), (.pick (.t 84) (.c (.lf (.bool true))) (.t 88)), none⟩, ⟨(.some 90), (.mv (.t 89)), none⟩, ⟨(.some 91), (.mv (.t 12)), (.some (90, false))⟩, ⟨(.some 92), (.mv (.t 7)), (.some (90, false))⟩, ⟨(.some 93), (.beq true (.t 91) (.t 92)), (.some (90, false))⟩, ⟨(.some 94), (.pick (.t 90) (.c (.lf (.bool true))) (.t 93)), none⟩])
 (.cond (.t 94) (.seq (.reg [⟨(.some 4), (.mv (.c (.lf (.bool false)))), none⟩])
 .ret) .skip))
 (.seq (.reg [⟨(.some 14), (.mv (.c (.lf (.int .i64 1)))), none⟩])
 (.seq (.reg [⟨(.some 95), (.mv (.t 10)), none⟩, ⟨(.some 96), (.mv (.t 14)), none⟩, ⟨(.some 97), (.call false 31 [(.t 95), (.t 96)]), none⟩, ⟨(.some 14), (.mv (.t 97)), none⟩])
 (.seq (.reg [⟨(.some 98), (.mv (.t 11)), none⟩, ⟨(.some 99), (.mv (.t 14)), none⟩, ⟨(.some 100), (.call false 31 [(.t 98), (.t 99)]), none⟩, ⟨(.some 14), (.mv (.t 100)), none⟩])
 (.seq (.reg [⟨(.some 15), (.mv (.c (.lf (.int .i64 1)))), none⟩])
 (.seq (.reg [⟨(.some 101), (.mv (.t 10)), none⟩, ⟨(.some 102), (.mv (.t 15)), none⟩, ⟨(.some 103), (.call true 32 [(.t 101), (.t 102)]), none⟩, ⟨(.some 15), (.mv (.t 103)), none⟩])
 (.seq (.seq (.reg [⟨(.some 104), (.mv (.t 15)), none⟩, ⟨(.some 105), (.bin .lss (.t 104) (.c (.lf (.int .i64 0)))), none⟩])
 (.cond (.t 105) (.seq (.reg [⟨(.some 4), (.mv (.c (.lf (.bool false)))), none⟩])
 .ret) .skip))
 (.seq (.reg [⟨(.some 106), (.mv (.t 11)), none⟩, ⟨(.some 107), (.mv (.t 15)), none⟩, ⟨(.some 108), (.call true 32 [(.t 106), (.t 107)]), none⟩, ⟨(.some 15), (.mv (.t 108)), none⟩])
 (.seq (.seq (.reg [⟨(.some 109), (.mv (.t 15)), none⟩, ⟨(.some 110), (.bin .lss (.t 109) (.c (.lf (.int .i64 0)))), none⟩])
 (.cond (.t 110) (.seq (.reg [⟨(.some 4), (.mv (.c (.lf (.bool false)))), none⟩])
 .ret) .skip))
 (.seq (.seq (.reg [⟨(.some 111), (.mv (.t 15)), none⟩, ⟨(.some 112), (.mv (.t 14)), none⟩, ⟨(.some 113), (.bin .neq (.t 111) (.t 112)), none⟩])
 (.cond (.t 113) (.seq (.reg [⟨(.some 4), (.mv (.c (.lf (.bool false)))), none⟩])
 .ret) .skip))
 (.seq (.reg [⟨(.some 115), (.mv (.t 0)), none⟩, ⟨(.some 116), (.call false 28 [(.t 115)]), none⟩, ⟨(.some 117), (.mv (.t 1)), none⟩, ⟨(.some 118), (.call false 28 [(.t 117)]), none⟩, ⟨(.some 119), (.call false 54 [(.t 116), (.t 118)]), none⟩, ⟨(.some 114), (.mv (.t 119)), none⟩, ⟨(.some 120), (.ext (.t 114) 0), none⟩, ⟨(.some 121), (.ext (.t 114) 1), none⟩, ⟨(.some 122), (.ext (.t 114) 2), none⟩, ⟨(.some 16), (.mv (.t 120)), none⟩, ⟨(.some 17), (.mv (.t 121)), none⟩, ⟨(.some 18), (.mv (.t 122)), none⟩])
 (.seq (.seq (.reg [⟨(.some 123), (.mv (.t 16)), none⟩, ⟨(.some 124), (.mv (.t 5)), none⟩, ⟨(.some 125), (.call true 30 [(.t 123), (.t 124)]), none⟩, ⟨(.some 126), (.una .not (.t 125)), none⟩, ⟨(.some 127), (.mv (.t 126)), none⟩, ⟨(.some 128), (.mv (.t 17)), (.some (127, false))⟩, ⟨(.some 129), (.mv (.t 6)), (.some (127, false))⟩, ⟨(.some 130), (.call true 30 [(.t 128), (.t 129)]), (.some (127, false))⟩, ⟨(.some 131), (.una .not (.t 130)), (.some (127, false))⟩, ⟨(.some 132), (.pick (.t 127) (.c (.lf (.bool true))) (.t 131)), none⟩, ⟨(.some 133), (.mv (.t 132)), none⟩, ⟨(.some 134), (.mv (.t 18)), (.some (133, false))⟩, ⟨(.some 135), (.mv (.t 7)), (.some (133, false))⟩, ⟨(.some 136), (.beq true (.t 134) (.t 135)), (.some (133, false))⟩, ⟨(.some 137), (.pick (.t 133) (.c (.lf (.bool true))) (.t 136)), none⟩])
 (.cond (.t 137) (.seq (.reg [⟨(.some 4), (.mv (.c (.lf (.bool false)))), none⟩])
 .ret) .skip))
 (.seq (.reg [⟨(.some 15), (.mv (.c (.lf (.int .i64 1)))), none⟩])
 (.seq (.reg [⟨(.some 138), (.mv (.t 10)), none⟩, ⟨(.some 139), (.mv (.t 15)), none⟩, ⟨(.some 140), (.call true 32 [(.t 138), (.t 139)]), none⟩, ⟨(.some 15), (.mv (.t 140)), none⟩])
 (.seq (.seq (.reg [⟨(.some 141), (.mv (.t 15)), none⟩, ⟨(.some 142), (.bin .lss (.t 141) (.c (.lf (.int .i64 0)))), none⟩])
 (.cond (.t 142) (.seq (.reg [⟨(.some 4), (.mv (.c (.lf (.bool false)))), none⟩])
 .ret) .skip))
 (.seq (.reg [⟨(.some 143), (.mv (.t 11)), none⟩, ⟨(.some 144), (.mv (.t 15)), none⟩, ⟨(.some 145), (.call true 32 [(.t 143), (.t 144)]), none⟩, ⟨(.some 15), (.mv (.t 145)), none⟩])
 (.seq (.seq (.reg [⟨(.some 146), (.mv (.t 15)), none⟩, ⟨(.some 147), (.bin .lss (.t 146) (.c (.lf (.int .i64 0)))), none⟩])
 (.cond (.t 147) (.seq (.reg [⟨(.some 4), (.mv (.c (.lf (.bool false)))), none⟩])
 .ret) .skip))
 (.seq (.seq (.reg [⟨(.some 148), (.mv (.t 15)), none⟩, ⟨(.some 149), (.mv (.t 14)), none⟩, ⟨(.some 150), (.bin .neq (.t 148) (.t 149)), none⟩])
 (.cond (.t 150) (.seq (.reg [⟨(.some 4), (.mv (.c (.lf (.bool false)))), none⟩])
 .ret) .skip))
 (.seq (.reg [⟨(.some 4), (.mv (.c (.lf (.bool true)))), none⟩])
 .ret)))))))))))))))))))))))))))))))), [(.tmp 4)]⟩
class HasLMiddleAndSide (S : Sys) : Prop extends HasMs S, HasF S where
  f12 : S.fs 12 = some L12
theorem fl_of {h : Hp} {r : List Lf} (t : Ty h (.flt .f32) r) : ∃ x : Nat, r = fl x ∧ True := by
  obtain ⟨x, rfl, _, _⟩ := t
  exact ⟨x, rfl, trivial⟩
theorem lawMiddleAndSide {S : Sys} [HasLMiddleAndSide S] : LawHolds S 12 [(false, .sl 1 (.flt .f32)), (false, .sl 1 (.flt .f32))] := by
  intro h cs hcs
  obtain ⟨c1, _, rfl, ⟨ls1, rfl, l1, rows1, rfl, hAl1, hrows1⟩, c2, _, rfl, ⟨ls2, rfl, l2, rows2, rfl, hAl2, hrows2⟩, rfl⟩ := hcs
  obtain ⟨xs, rfl, _⟩ := rows_map (Q := fun _ => True) fun r hr => fl_of (hrows1 r hr)
  obtain ⟨ys, rfl, _⟩ := rows_map (Q := fun _ => True) fun r hr => fl_of (hrows2 r hr)
  clear hrows1 hrows2
  have hlo := mids_len (xs := xs) (ys := ys)
  have hlo2 := sides_len (xs := xs) (ys := ys)
  refine law_of (F := L12) HasLMiddleAndSide.f12 rfl ?_
  unfold L12
  dsimp only []
  repeat' (first | (simp (disch := first | omega | assumption | (simp [*] <;> fail) | assumption) [-Bool.decide_and, -Bool.decide_or, -Bool.not_and, -Bool.not_or, toNat_pred, toNat_succ, wrap64, wr_new, wr_new0, ok_if, ok_ifn, iadV_sl, makeV_int, decT, decF, over_at, *, hAl1.len, hAl2.len]) | (with_reducible refine Gd_split (fun hc => ?_) (fun hc => ?_) <;> (have hc2 := hc; try simp at hc2)) | (with_reducible refine Br_split (fun hc => ?_) (fun hc => ?_) <;> (have hc2 := hc; try simp at hc2)) | (with_reducible refine GdT_split (fun hc => ?_) (fun hc => ?_) <;> (have hc2 := hc; try simp at hc2)) | (with_reducible refine WT_alt ?_ ?_) | omega)
  have hnl1 : xs.length ≤ 16777216 := by omega
  have hnl2 : ys.length ≤ 16777216 := by omega
  refine c_toFloat32S (hAl1.kept (Kept.refl h)) hnl1 (Kept.refl h).1 fun x0 g1 hx0 => ?_
  have K2 := (Kept.refl h).trans hx0.kept
  have Q2 := hx0.kept.1
  have P2 := K2.1
  have Nx0 := hx0.base (Kept.refl h)
  repeat' (first | (simp (disch := first | omega | assumption | (simp [*] <;> fail) | assumption) [-Bool.decide_and, -Bool.decide_or, -Bool.not_and, -Bool.not_or, toNat_pred, toNat_succ, wrap64, wr_new, wr_new0, ok_if, ok_ifn, iadV_sl, makeV_int, decT, decF, over_at, *]) | (with_reducible refine Gd_split (fun hc => ?_) (fun hc => ?_) <;> (have hc2 := hc; try simp at hc2)) | (with_reducible refine Br_split (fun hc => ?_) (fun hc => ?_) <;> (have hc2 := hc; try simp at hc2)) | (with_reducible refine GdT_split (fun hc => ?_) (fun hc => ?_) <;> (have hc2 := hc; try simp at hc2)) | (with_reducible refine WT_alt ?_ ?_) | omega)
  refine c_toFloat32S (hAl2.kept K2) hnl2 K2.1 fun x1 g3 hx1 => ?_
  have Fx0x1 : Far x0 x1 := fun q1 q2 => by have := (Nx0.lt q1).2; have := (hx1.lt q2).1; omega
  have K4 := K2.trans hx1.kept
  have Q4 := hx1.kept.1
  have P4 := K4.1
  have Nx1 := hx1.base K2
  replace Nx0 := Nx0.later hx1.kept
  repeat' (first | (simp (disch := first | omega | assumption | (simp [*] <;> fail) | assumption) [-Bool.decide_and, -Bool.decide_or, -Bool.not_and, -Bool.not_or, toNat_pred, toNat_succ, wrap64, wr_new, wr_new0, ok_if, ok_ifn, iadV_sl, makeV_int, decT, decF, over_at, *]) | (with_reducible refine Gd_split (fun hc => ?_) (fun hc => ?_) <;> (have hc2 := hc; try simp at hc2)) | (with_reducible refine Br_split (fun hc => ?_) (fun hc => ?_) <;> (have hc2 := hc; try simp at hc2)) | (with_reducible refine GdT_split (fun hc => ?_) (fun hc => ?_) <;> (have hc2 := hc; try simp at hc2)) | (with_reducible refine WT_alt ?_ ?_) | omega)
  refine d_specMiddleAndSide Nx0.arr Nx1.arr K4.1 fun s0 s1 g5 hs0 hs1 hfs0s1 => ?_
  have Fs0x0 : Far s0 x0 := fun q1 q2 => by have := (Nx0.lt q2).2; have := (hs0.lt q1).1; omega
  have Fs0x1 : Far s0 x1 := fun q1 q2 => by have := (Nx1.lt q2).2; have := (hs0.lt q1).1; omega
  have Fs1x0 : Far s1 x0 := fun q1 q2 => by have := (Nx0.lt q2).2; have := (hs1.lt q1).1; omega
  have Fs1x1 : Far s1 x1 := fun q1 q2 => by have := (Nx1.lt q2).2; have := (hs1.lt q1).1; omega
  have K6 := K4.trans hs0.kept
  have Q6 := hs0.kept.1
  have P6 := K6.1
  have Ns0 := hs0.base K4
  have Ns1 := hs1.base K4
  replace Nx0 := Nx0.later hs0.kept
  replace Nx1 := Nx1.later hs0.kept
  have Fs0s1 : Far s0 s1 := hfs0s1
  repeat' (first | (simp (disch := first | omega | assumption | (simp [*] <;> fail) | assumption) [-Bool.decide_and, -Bool.decide_or, -Bool.not_and, -Bool.not_or, toNat_pred, toNat_succ, wrap64, wr_new, wr_new0, ok_if, ok_ifn, iadV_sl, makeV_int, decT, decF, over_at, *]) | (with_reducible refine Gd_split (fun hc => ?_) (fun hc => ?_) <;> (have hc2 := hc; try simp at hc2)) | (with_reducible refine Br_split (fun hc => ?_) (fun hc => ?_) <;> (have hc2 := hc; try simp at hc2)) | (with_reducible refine GdT_split (fun hc => ?_) (fun hc => ?_) <;> (have hc2 := hc; try simp at hc2)) | (with_reducible refine WT_alt ?_ ?_) | omega)
  refine c_toFloat32S (hAl1.kept K6) hnl1 K6.1 fun a0 g7 ha0 => ?_
  have Fa0s0 : Far a0 s0 := fun q1 q2 => by have := (Ns0.lt q2).2; have := (ha0.lt q1).1; omega
  have Fa0s1 : Far a0 s1 := fun q1 q2 => by have := (Ns1.lt q2).2; have := (ha0.lt q1).1; omega
  have K8 := K6.trans ha0.kept
  have Q8 := ha0.kept.1
  have P8 := K8.1
  have Na0 := ha0.base K6
  replace Ns0 := Ns0.later ha0.kept
  replace Ns1 := Ns1.later ha0.kept
  repeat' (first | (simp (disch := first | omega | assumption | (simp [*] <;> fail) | assumption) [-Bool.decide_and, -Bool.decide_or, -Bool.not_and, -Bool.not_or, toNat_pred, toNat_succ, wrap64, wr_new, wr_new0, ok_if, ok_ifn, iadV_sl, makeV_int, decT, decF, over_at, *]) | (with_reducible refine Gd_split (fun hc => ?_) (fun hc => ?_) <;> (have hc2 := hc; try simp at hc2)) | (with_reducible refine Br_split (fun hc => ?_) (fun hc => ?_) <;> (have hc2 := hc; try simp at hc2)) | (with_reducible refine GdT_split (fun hc => ?_) (fun hc => ?_) <;> (have hc2 := hc; try simp at hc2)) | (with_reducible refine WT_alt ?_ ?_) | omega)
  refine c_toFloat32S (hAl2.kept K8) hnl2 K8.1 fun a1 g9 ha1 => ?_
  have Fa1s0 : Far a1 s0 := fun q1 q2 => by have := (Ns0.lt q2).2; have := (ha1.lt q1).1; omega
  have Fa1s1 : Far a1 s1 := fun q1 q2 => by have := (Ns1.lt q2).2; have := (ha1.lt q1).1; omega
  have Fa0a1 : Far a0 a1 := fun q1 q2 => by have := (Na0.lt q1).2; have := (ha1.lt q2).1; omega
  have K10 := K8.trans ha1.kept
  have Q10 := ha1.kept.1
  have P10 := K10.1
  have Na1 := ha1.base K8
  replace Ns0 := Ns0.later ha1.kept
  replace Ns1 := Ns1.later ha1.kept
  replace Na0 := Na0.later ha1.kept
  repeat' (first | (simp (disch := first | omega | assumption | (simp [*] <;> fail) | assumption) [-Bool.decide_and, -Bool.decide_or, -Bool.not_and, -Bool.not_or, toNat_pred, toNat_succ, wrap64, wr_new, wr_new0, ok_if, ok_ifn, iadV_sl, makeV_int, decT, decF, over_at, *]) | (with_reducible refine Gd_split (fun hc => ?_) (fun hc => ?_) <;> (have hc2 := hc; try simp at hc2)) | (with_reducible refine Br_split (fun hc => ?_) (fun hc => ?_) <;> (have hc2 := hc; try simp at hc2)) | (with_reducible refine GdT_split (fun hc => ?_) (fun hc => ?_) <;> (have hc2 := hc; try simp at hc2)) | (with_reducible refine WT_alt ?_ ?_) | omega)
  refine d_implMiddleAndSide Na0.arr Na1.arr K10.1 fun r0 r1 g11 hr0 hr1 hfr0r1 => ?_
  have Fr0s0 : Far r0 s0 := fun q1 q2 => by have := (Ns0.lt q2).2; have := (hr0.lt q1).1; omega
  have Fr0s1 : Far r0 s1 := fun q1 q2 => by have := (Ns1.lt q2).2; have := (hr0.lt q1).1; omega
  have Fa0r0 : Far a0 r0 := fun q1 q2 => by have := (Na0.lt q1).2; have := (hr0.lt q2).1; omega
  have Fa1r0 : Far a1 r0 := fun q1 q2 => by have := (Na1.lt q1).2; have := (hr0.lt q2).1; omega
  have Fr1s0 : Far r1 s0 := fun q1 q2 => by have := (Ns0.lt q2).2; have := (hr1.lt q1).1; omega
  have Fr1s1 : Far r1 s1 := fun q1 q2 => by have := (Ns1.lt q2).2; have := (hr1.lt q1).1; omega
  have Fa0r1 : Far a0 r1 := fun q1 q2 => by have := (Na0.lt q1).2; have := (hr1.lt q2).1; omega
  have Fa1r1 : Far a1 r1 := fun q1 q2 => by have := (Na1.lt q1).2; have := (hr1.lt q2).1; omega
  have K12 := K10.trans hr0.kept
  have Q12 := hr0.kept.1
  have P12 := K12.1
  have Nr0 := hr0.base K10
  have Nr1 := hr1.base K10
  replace Ns0 := Ns0.later hr0.kept
  replace Ns1 := Ns1.later hr0.kept
  replace Na0 := Na0.later hr0.kept
  replace Na1 := Na1.later hr0.kept
  have Fr0r1 : Far r0 r1 := hfr0r1
  repeat' (first | (simp (disch := first | omega | assumption | (simp [*] <;> fail) | assumption) [-Bool.decide_and, -Bool.decide_or, -Bool.not_and, -Bool.not_or, toNat_pred, toNat_succ, wrap64, wr_new, wr_new0, ok_if, ok_ifn, iadV_sl, makeV_int, decT, decF, over_at, *, c_eqFloat32S Nr0.arr Ns0.arr, c_eqFloat32S Nr1.arr Ns1.arr]) | (with_reducible refine Gd_split (fun hc => ?_) (fun hc => ?_) <;> (have hc2 := hc; try simp at hc2)) | (with_reducible refine Br_split (fun hc => ?_) (fun hc => ?_) <;> (have hc2 := hc; try simp at hc2)) | (with_reducible refine GdT_split (fun hc => ?_) (fun hc => ?_) <;> (have hc2 := hc; try simp at hc2)) | (with_reducible refine WT_alt ?_ ?_) | omega)
  refine c_toFloat32S (hAl1.kept K12) hnl1 K12.1 fun y0 g13 hy0 => ?_
  have Fs0y0 : Far s0 y0 := fun q1 q2 => by have := (Ns0.lt q1).2; have := (hy0.lt q2).1; omega
  have Fs1y0 : Far s1 y0 := fun q1 q2 => by have := (Ns1.lt q1).2; have := (hy0.lt q2).1; omega
  have Fa0y0 : Far a0 y0 := fun q1 q2 => by have := (Na0.lt q1).2; have := (hy0.lt q2).1; omega
  have Fa1y0 : Far a1 y0 := fun q1 q2 => by have := (Na1.lt q1).2; have := (hy0.lt q2).1; omega
  have Fr0y0 : Far r0 y0 := fun q1 q2 => by have := (Nr0.lt q1).2; have := (hy0.lt q2).1; omega
  have Fr1y0 : Far r1 y0 := fun q1 q2 => by have := (Nr1.lt q1).2; have := (hy0.lt q2).1; omega
  have K14 := K12.trans hy0.kept
  have Q14 := hy0.kept.1
  have P14 := K14.1
  have Ny0 := hy0.base K12
  replace Ns0 := Ns0.later hy0.kept
  replace Ns1 := Ns1.later hy0.kept
  replace Na0 := Na0.later hy0.kept
  replace Na1 := Na1.later hy0.kept
  replace Nr0 := Nr0.later hy0.kept
  replace Nr1 := Nr1.later hy0.kept
  repeat' (first | (simp (disch := first | omega | assumption | (simp [*] <;> fail) | assumption) [-Bool.decide_and, -Bool.decide_or, -Bool.not_and, -Bool.not_or, toNat_pred, toNat_succ, wrap64, wr_new, wr_new0, ok_if, ok_ifn, iadV_sl, makeV_int, decT, decF, over_at, *, c_eqFloat32S Na0.arr Ny0.arr]) | (with_reducible refine Gd_split (fun hc => ?_) (fun hc => ?_) <;> (have hc2 := hc; try simp at hc2)) | (with_reducible refine Br_split (fun hc => ?_) (fun hc => ?_) <;> (have hc2 := hc; try simp at hc2)) | (with_reducible refine GdT_split (fun hc => ?_) (fun hc => ?_) <;> (have hc2 := hc; try simp at hc2)) | (with_reducible refine WT_alt ?_ ?_) | omega)
  refine c_toFloat32S (hAl2.kept K14) hnl2 K14.1 fun y1 g15 hy1 => ?_
  have Fs0y1 : Far s0 y1 := fun q1 q2 => by have := (Ns0.lt q1).2; have := (hy1.lt q2).1; omega
  have Fs1y1 : Far s1 y1 := fun q1 q2 => by have := (Ns1.lt q1).2; have := (hy1.lt q2).1; omega
  have Fa0y1 : Far a0 y1 := fun q1 q2 => by have := (Na0.lt q1).2; have := (hy1.lt q2).1; omega
  have Fa1y1 : Far a1 y1 := fun q1 q2 => by have := (Na1.lt q1).2; have := (hy1.lt q2).1; omega
  have Fr0y1 : Far r0 y1 := fun q1 q2 => by have := (Nr0.lt q1).2; have := (hy1.lt q2).1; omega
  have Fr1y1 : Far r1 y1 := fun q1 q2 => by have := (Nr1.lt q1).2; have := (hy1.lt q2).1; omega
  have K16 := K14.trans hy1.kept
  have Q16 := hy1.kept.1
  have P16 := K16.1
  have Ny1 := hy1.base K14
  replace Ns0 := Ns0.later hy1.kept
  replace Ns1 := Ns1.later hy1.kept
  replace Na0 := Na0.later hy1.kept
  replace Na1 := Na1.later hy1.kept
  replace Nr0 := Nr0.later hy1.kept
  replace Nr1 := Nr1.later hy1.kept
  repeat' (first | (simp (disch := first | omega | assumption | (simp [*] <;> fail) | assumption) [-Bool.decide_and, -Bool.decide_or, -Bool.not_and, -Bool.not_or, toNat_pred, toNat_succ, wrap64, wr_new, wr_new0, ok_if, ok_ifn, iadV_sl, makeV_int, decT, decF, over_at, *, c_eqFloat32S Na1.arr Ny1.arr]) | (with_reducible refine Gd_split (fun hc => ?_) (fun hc => ?_) <;> (have hc2 := hc; try simp at hc2)) | (with_reducible refine Br_split (fun hc => ?_) (fun hc => ?_) <;> (have hc2 := hc; try simp at hc2)) | (with_reducible refine GdT_split (fun hc => ?_) (fun hc => ?_) <;> (have hc2 := hc; try simp at hc2)) | (with_reducible refine WT_alt ?_ ?_) | omega)
  refine c_markFloat32S Na0 (by simp; omega) (by omega) (by omega) (Nat.le_refl _) fun g17 hM17 hB17 => ?_
  have Q17 := hB17.len
  replace Ns0 := hB17.new Ns0 (fun hn => (Na0.lt hn).1) (fun q1 q2 => Fa0s0.symm q2 q1)
  replace Ns1 := hB17.new Ns1 (fun hn => (Na0.lt hn).1) (fun q1 q2 => Fa0s1.symm q2 q1)
  replace Na1 := hB17.new Na1 (fun hn => (Na0.lt hn).1) (fun q1 q2 => Fa0a1.symm q2 q1)
  replace Nr0 := hB17.new Nr0 (fun hn => (Na0.lt hn).1) (fun q1 q2 => Fa0r0.symm q2 q1)
  replace Nr1 := hB17.new Nr1 (fun hn => (Na0.lt hn).1) (fun q1 q2 => Fa0r1.symm q2 q1)
  simp only [List.length_map] at hM17
  replace Na0 := hM17
  have K17 := hM17.kept
  repeat' (first | (simp (disch := first | omega | assumption | (simp [*] <;> fail) | assumption) [-Bool.decide_and, -Bool.decide_or, -Bool.not_and, -Bool.not_or, toNat_pred, toNat_succ, wrap64, wr_new, wr_new0, ok_if, ok_ifn, iadV_sl, makeV_int, decT, decF, over_at, *]) | (with_reducible refine Gd_split (fun hc => ?_) (fun hc => ?_) <;> (have hc2 := hc; try simp at hc2)) | (with_reducible refine Br_split (fun hc => ?_) (fun hc => ?_) <;> (have hc2 := hc; try simp at hc2)) | (with_reducible refine GdT_split (fun hc => ?_) (fun hc => ?_) <;> (have hc2 := hc; try simp at hc2)) | (with_reducible refine WT_alt ?_ ?_) | omega)
  refine c_markFloat32S Na1 (by simp; omega) (by omega) (by omega) (Nat.le_refl _) fun g18 hM18 hB18 => ?_
  have Q18 := hB18.len
  replace Ns0 := hB18.new Ns0 (fun hn => (Na1.lt hn).1) (fun q1 q2 => Fa1s0.symm q2 q1)
  replace Ns1 := hB18.new Ns1 (fun hn => (Na1.lt hn).1) (fun q1 q2 => Fa1s1.symm q2 q1)
  replace Na0 := hB18.new Na0 (fun hn => (Na1.lt hn).1) (fun q1 q2 => Fa0a1 q2 q1)
  replace Nr0 := hB18.new Nr0 (fun hn => (Na1.lt hn).1) (fun q1 q2 => Fa1r0.symm q2 q1)
  replace Nr1 := hB18.new Nr1 (fun hn => (Na1.lt hn).1) (fun q1 q2 => Fa1r1.symm q2 q1)
  simp only [List.length_map] at hM18
  replace Na1 := hM18
  have K18 := hM18.kept
  repeat' (first | (simp (disch := first | omega | assumption | (simp [*] <;> fail) | assumption) [-Bool.decide_and, -Bool.decide_or, -Bool.not_and, -Bool.not_or, toNat_pred, toNat_succ, wrap64, wr_new, wr_new0, ok_if, ok_ifn, iadV_sl, makeV_int, decT, decF, over_at, *, c_eqFloat32S Nr0.arr Ns0.arr, c_eqFloat32S Nr1.arr Ns1.arr]) | (with_reducible refine Gd_split (fun hc => ?_) (fun hc => ?_) <;> (have hc2 := hc; try simp at hc2)) | (with_reducible refine Br_split (fun hc => ?_) (fun hc => ?_) <;> (have hc2 := hc; try simp at hc2)) | (with_reducible refine GdT_split (fun hc => ?_) (fun hc => ?_) <;> (have hc2 := hc; try simp at hc2)) | (with_reducible refine WT_alt ?_ ?_) | omega)
  refine c_markFloat32S Nr0 (by simp; omega) (by omega) (by omega) (Nat.le_refl _) fun g19 hM19 hB19 => ?_
  have Q19 := hB19.len
  replace Ns0 := hB19.new Ns0 (fun hn => (Nr0.lt hn).1) (fun q1 q2 => Fr0s0.symm q2 q1)
  replace Ns1 := hB19.new Ns1 (fun hn => (Nr0.lt hn).1) (fun q1 q2 => Fr0s1.symm q2 q1)
  replace Nr1 := hB19.new Nr1 (fun hn => (Nr0.lt hn).1) (fun q1 q2 => Fr0r1.symm q2 q1)
  simp only [List.length_map] at hM19
  replace Nr0 := hM19
  have K19 := hM19.kept
  repeat' (first | (simp (disch := first | omega | assumption | (simp [*] <;> fail) | assumption) [-Bool.decide_and, -Bool.decide_or, -Bool.not_and, -Bool.not_or, toNat_pred, toNat_succ, wrap64, wr_new, wr_new0, ok_if, ok_ifn, iadV_sl, makeV_int, decT, decF, over_at, *]) | (with_reducible refine Gd_split (fun hc => ?_) (fun hc => ?_) <;> (have hc2 := hc; try simp at hc2)) | (with_reducible refine Br_split (fun hc => ?_) (fun hc => ?_) <;> (have hc2 := hc; try simp at hc2)) | (with_reducible refine GdT_split (fun hc => ?_) (fun hc => ?_) <;> (have hc2 := hc; try simp at hc2)) | (with_reducible refine WT_alt ?_ ?_) | omega)
  refine c_markFloat32S Nr1 (by simp; omega) (by omega) (by omega) (Nat.le_refl _) fun g20 hM20 hB20 => ?_
  have Q20 := hB20.len
  replace Ns0 := hB20.new Ns0 (fun hn => (Nr1.lt hn).1) (fun q1 q2 => Fr1s0.symm q2 q1)
  replace Ns1 := hB20.new Ns1 (fun hn => (Nr1.lt hn).1) (fun q1 q2 => Fr1s1.symm q2 q1)
  replace Nr0 := hB20.new Nr0 (fun hn => (Nr1.lt hn).1) (fun q1 q2 => Fr0r1 q2 q1)
  simp only [List.length_map] at hM20
  replace Nr1 := hM20
  have K20 := hM20.kept
  repeat' (first | (simp (disch := first | omega | assumption | (simp [*] <;> fail) | assumption) [-Bool.decide_and, -Bool.decide_or, -Bool.not_and, -Bool.not_or, toNat_pred, toNat_succ, wrap64, wr_new, wr_new0, ok_if, ok_ifn, iadV_sl, makeV_int, decT, decF, over_at, *, c_heldFloat32S Nr0.arr, c_heldFloat32S Nr1.arr]) | (with_reducible refine Gd_split (fun hc => ?_) (fun hc => ?_) <;> (have hc2 := hc; try simp at hc2)) | (with_reducible refine Br_split (fun hc => ?_) (fun hc => ?_) <;> (have hc2 := hc; try simp at hc2)) | (with_reducible refine GdT_split (fun hc => ?_) (fun hc => ?_) <;> (have hc2 := hc; try simp at hc2)) | (with_reducible refine WT_alt ?_ ?_) | omega)
  refine c_toFloat32S (hAl1.kept K20) hnl1 K20.1 fun w0 g21 hw0 => ?_
  have Fs0w0 : Far s0 w0 := fun q1 q2 => by have := (Ns0.lt q1).2; have := (hw0.lt q2).1; omega
  have Fs1w0 : Far s1 w0 := fun q1 q2 => by have := (Ns1.lt q1).2; have := (hw0.lt q2).1; omega
  have Fr0w0 : Far r0 w0 := fun q1 q2 => by have := (Nr0.lt q1).2; have := (hw0.lt q2).1; omega
  have Fr1w0 : Far r1 w0 := fun q1 q2 => by have := (Nr1.lt q1).2; have := (hw0.lt q2).1; omega
  have K22 := K20.trans hw0.kept
  have Q22 := hw0.kept.1
  have P22 := K22.1
  have Nw0 := hw0.base K20
  replace Ns0 := Ns0.later hw0.kept
  replace Ns1 := Ns1.later hw0.kept
  replace Nr0 := Nr0.later hw0.kept
  replace Nr1 := Nr1.later hw0.kept
  repeat' (first | (simp (disch := first | omega | assumption | (simp [*] <;> fail) | assumption) [-Bool.decide_and, -Bool.decide_or, -Bool.not_and, -Bool.not_or, toNat_pred, toNat_succ, wrap64, wr_new, wr_new0, ok_if, ok_ifn, iadV_sl, makeV_int, decT, decF, over_at, *]) | (with_reducible refine Gd_split (fun hc => ?_) (fun hc => ?_) <;> (have hc2 := hc; try simp at hc2)) | (with_reducible refine Br_split (fun hc => ?_) (fun hc => ?_) <;> (have hc2 := hc; try simp at hc2)) | (with_reducible refine GdT_split (fun hc => ?_) (fun hc => ?_) <;> (have hc2 := hc; try simp at hc2)) | (with_reducible refine WT_alt ?_ ?_) | omega)
  refine c_toFloat32S (hAl2.kept K22) hnl2 K22.1 fun w1 g23 hw1 => ?_
  have Fs0w1 : Far s0 w1 := fun q1 q2 => by have := (Ns0.lt q1).2; have := (hw1.lt q2).1; omega
  have Fs1w1 : Far s1 w1 := fun q1 q2 => by have := (Ns1.lt q1).2; have := (hw1.lt q2).1; omega
  have Fr0w1 : Far r0 w1 := fun q1 q2 => by have := (Nr0.lt q1).2; have := (hw1.lt q2).1; omega
  have Fr1w1 : Far r1 w1 := fun q1 q2 => by have := (Nr1.lt q1).2; have := (hw1.lt q2).1; omega
  have Fw0w1 : Far w0 w1 := fun q1 q2 => by have := (Nw0.lt q1).2; have := (hw1.lt q2).1; omega
  have K24 := K22.trans hw1.kept
  have Q24 := hw1.kept.1
  have P24 := K24.1
  have Nw1 := hw1.base K22
  replace Ns0 := Ns0.later hw1.kept
  replace Ns1 := Ns1.later hw1.kept
  replace Nr0 := Nr0.later hw1.kept
  replace Nr1 := Nr1.later hw1.kept
  replace Nw0 := Nw0.later hw1.kept
  repeat' (first | (simp (disch := first | omega | assumption | (simp [*] <;> fail) | assumption) [-Bool.decide_and, -Bool.decide_or, -Bool.not_and, -Bool.not_or, toNat_pred, toNat_succ, wrap64, wr_new, wr_new0, ok_if, ok_ifn, iadV_sl, makeV_int, decT, decF, over_at, *]) | (with_reducible refine Gd_split (fun hc => ?_) (fun hc => ?_) <;> (have hc2 := hc; try simp at hc2)) | (with_reducible refine Br_split (fun hc => ?_) (fun hc => ?_) <;> (have hc2 := hc; try simp at hc2)) | (with_reducible refine GdT_split (fun hc => ?_) (fun hc => ?_) <;> (have hc2 := hc; try simp at hc2)) | (with_reducible refine WT_alt ?_ ?_) | omega)
  refine d_implMiddleAndSide Nw0.arr Nw1.arr K24.1 fun u0 u1 g25 hu0 hu1 hfu0u1 => ?_
  have Fs0u0 : Far s0 u0 := fun q1 q2 => by have := (Ns0.lt q1).2; have := (hu0.lt q2).1; omega
  have Fs1u0 : Far s1 u0 := fun q1 q2 => by have := (Ns1.lt q1).2; have := (hu0.lt q2).1; omega
  have Fr0u0 : Far r0 u0 := fun q1 q2 => by have := (Nr0.lt q1).2; have := (hu0.lt q2).1; omega
  have Fr1u0 : Far r1 u0 := fun q1 q2 => by have := (Nr1.lt q1).2; have := (hu0.lt q2).1; omega
  have Fu0w0 : Far u0 w0 := fun q1 q2 => by have := (Nw0.lt q2).2; have := (hu0.lt q1).1; omega
  have Fu0w1 : Far u0 w1 := fun q1 q2 => by have := (Nw1.lt q2).2; have := (hu0.lt q1).1; omega
  have Fs0u1 : Far s0 u1 := fun q1 q2 => by have := (Ns0.lt q1).2; have := (hu1.lt q2).1; omega
  have Fs1u1 : Far s1 u1 := fun q1 q2 => by have := (Ns1.lt q1).2; have := (hu1.lt q2).1; omega
  have Fr0u1 : Far r0 u1 := fun q1 q2 => by have := (Nr0.lt q1).2; have := (hu1.lt q2).1; omega
  have Fr1u1 : Far r1 u1 := fun q1 q2 => by have := (Nr1.lt q1).2; have := (hu1.lt q2).1; omega
  have Fu1w0 : Far u1 w0 := fun q1 q2 => by have := (Nw0.lt q2).2; have := (hu1.lt q1).1; omega
  have Fu1w1 : Far u1 w1 := fun q1 q2 => by have := (Nw1.lt q2).2; have := (hu1.lt q1).1; omega
  have K26 := K24.trans hu0.kept
  have Q26 := hu0.kept.1
  have P26 := K26.1
  have Nu0 := hu0.base K24
  have Nu1 := hu1.base K24
  replace Ns0 := Ns0.later hu0.kept
  replace Ns1 := Ns1.later hu0.kept
  replace Nr0 := Nr0.later hu0.kept
  replace Nr1 := Nr1.later hu0.kept
  replace Nw0 := Nw0.later hu0.kept
  replace Nw1 := Nw1.later hu0.kept
  have Fu0u1 : Far u0 u1 := hfu0u1
  repeat' (first | (simp (disch := first | omega | assumption | (simp [*] <;> fail) | assumption) [-Bool.decide_and, -Bool.decide_or, -Bool.not_and, -Bool.not_or, toNat_pred, toNat_succ, wrap64, wr_new, wr_new0, ok_if, ok_ifn, iadV_sl, makeV_int, decT, decF, over_at, *, c_eqFloat32S Nu0.arr Ns0.arr, c_eqFloat32S Nu1.arr Ns1.arr, c_heldFloat32S Nr0.arr, c_heldFloat32S Nr1.arr]) | (with_reducible refine Gd_split (fun hc => ?_) (fun hc => ?_) <;> (have hc2 := hc; try simp at hc2)) | (with_reducible refine Br_split (fun hc => ?_) (fun hc => ?_) <;> (have hc2 := hc; try simp at hc2)) | (with_reducible refine GdT_split (fun hc => ?_) (fun hc => ?_) <;> (have hc2 := hc; try simp at hc2)) | (with_reducible refine WT_alt ?_ ?_) | omega)
end Go.E
namespace Go.E.MiddleAndSide
open Go Go.E
def pure : FuncId → Bool := fun f => List.elem f [3, 4, 5, 6, 7, 8, 9, 10, 11, 12, 13, 14, 15, 16, 17, 18, 21, 23, 24, 26, 30, 32, 33, 34, 35, 36, 38, 39, 42, 43, 45, 48, 50, 55, 56, 58, 59, 62, 63, 64, 65, 66, 67, 68, 69, 70, 71, 72, 73, 74, 75, 76, 77, 78, 79, 80, 81, 82, 84, 87, 88, 90, 91, 94, 97, 98, 99, 100, 101, 102, 104, 106, 107, 108, 110, 112, 113, 115, 116, 117, 118, 119, 120, 121, 122, 123, 124, 125, 126, 127, 128, 129, 130, 131, 132, 133, 134, 135, 136, 138, 140, 142, 149, 151]
def funs : List (Nat × LFn) := [(77, L77), (78, L78), (79, L79), (82, L82), (40, L40), (41, L41), (70, L70), (71, L71), (81, L81), (83, L83), (84, L84), (27, L27), (29, L29), (96, L96), (53, L53), (54, L54), (72, L72), (28, L28), (30, L30), (31, L31), (32, L32), (12, L12)]
def Sy : Sys := sysOf funs
theorem lfn77 : lFn Go.Proofs.Try.prog pure Go.Proofs.Try.f77 = some L77 := by kernel_rfl
theorem lfn78 : lFn Go.Proofs.Try.prog pure Go.Proofs.Try.f78 = some L78 := by kernel_rfl
theorem lfn79 : lFn Go.Proofs.Try.prog pure Go.Proofs.Try.f79 = some L79 := by kernel_rfl
theorem lfn82 : lFn Go.Proofs.Try.prog pure Go.Proofs.Try.f82 = some L82 := by kernel_rfl
theorem lfn40 : lFn Go.Proofs.Try.prog pure Go.Proofs.Try.f40 = some L40 := by kernel_rfl
theorem lfn41 : lFn Go.Proofs.Try.prog pure Go.Proofs.Try.f41 = some L41 := by kernel_rfl
theorem lfn70 : lFn Go.Proofs.Try.prog pure Go.Proofs.Try.f70 = some L70 := by kernel_rfl
theorem lfn71 : lFn Go.Proofs.Try.prog pure Go.Proofs.Try.f71 = some L71 := by kernel_rfl
theorem lfn81 : lFn Go.Proofs.Try.prog pure Go.Proofs.Try.f81 = some L81 := by kernel_rfl
theorem lfn83 : lFn Go.Proofs.Try.prog pure Go.Proofs.Try.f83 = some L83 := by kernel_rfl
theorem lfn84 : lFn Go.Proofs.Try.prog pure Go.Proofs.Try.f84 = some L84 := by kernel_rfl
theorem lfn27 : lFn Go.Proofs.Try.prog pure Go.Proofs.Try.f27 = some L27 := by kernel_rfl
theorem lfn29 : lFn Go.Proofs.Try.prog pure Go.Proofs.Try.f29 = some L29 := by kernel_rfl
theorem lfn96 : lFn Go.Proofs.Try.prog pure Go.Proofs.Try.f96 = some L96 := by kernel_rfl
theorem lfn53 : lFn Go.Proofs.Try.prog pure Go.Proofs.Try.f53 = some L53 := by kernel_rfl
theorem lfn54 : lFn Go.Proofs.Try.prog pure Go.Proofs.Try.f54 = some L54 := by kernel_rfl
theorem lfn72 : lFn Go.Proofs.Try.prog pure Go.Proofs.Try.f72 = some L72 := by kernel_rfl
theorem lfn28 : lFn Go.Proofs.Try.prog pure Go.Proofs.Try.f28 = some L28 := by kernel_rfl
theorem lfn30 : lFn Go.Proofs.Try.prog pure Go.Proofs.Try.f30 = some L30 := by kernel_rfl
theorem lfn31 : lFn Go.Proofs.Try.prog pure Go.Proofs.Try.f31 = some L31 := by kernel_rfl
theorem lfn32 : lFn Go.Proofs.Try.prog pure Go.Proofs.Try.f32 = some L32 := by kernel_rfl
theorem lfn12 : lFn Go.Proofs.Try.prog pure Go.Proofs.Try.f12 = some L12 := by kernel_rfl
instance : HasA Sy := { f77 := rfl, f78 := rfl, f79 := rfl, f82 := rfl }
instance : HasP Sy := { f40 := rfl, f41 := rfl, f70 := rfl, f71 := rfl, f81 := rfl, f83 := rfl, f84 := rfl }
instance : HasLr Sy := { f27 := rfl, f29 := rfl }
instance : HasSc Sy := { f96 := rfl }
instance : HasMs Sy := { f53 := rfl, f54 := rfl }
instance : HasSame Sy := { f72 := rfl }
instance : HasF Sy := { f28 := rfl, f30 := rfl, f31 := rfl, f32 := rfl }
instance : HasLMiddleAndSide Sy := { f12 := rfl }
theorem sysOK {B : Nat} {w0 : World} : SysOK Go.Proofs.Try.prog pure Sy B w0 := SysOK.of (by
  intro p hp
  simp only [funs, List.mem_cons, List.not_mem_nil, or_false] at hp
  rcases hp with rfl | rfl | rfl | rfl | rfl | rfl | rfl | rfl | rfl | rfl | rfl | rfl | rfl | rfl | rfl | rfl | rfl | rfl | rfl | rfl | rfl | rfl
  · exact ⟨_, Go.Proofs.Try.func77, lfn77⟩
  · exact ⟨_, Go.Proofs.Try.func78, lfn78⟩
  · exact ⟨_, Go.Proofs.Try.func79, lfn79⟩
  · exact ⟨_, Go.Proofs.Try.func82, lfn82⟩
  · exact ⟨_, Go.Proofs.Try.func40, lfn40⟩
  · exact ⟨_, Go.Proofs.Try.func41, lfn41⟩
  · exact ⟨_, Go.Proofs.Try.func70, lfn70⟩
  · exact ⟨_, Go.Proofs.Try.func71, lfn71⟩
  · exact ⟨_, Go.Proofs.Try.func81, lfn81⟩
  · exact ⟨_, Go.Proofs.Try.func83, lfn83⟩
  · exact ⟨_, Go.Proofs.Try.func84, lfn84⟩
  · exact ⟨_, Go.Proofs.Try.func27, lfn27⟩
  · exact ⟨_, Go.Proofs.Try.func29, lfn29⟩
  · exact ⟨_, Go.Proofs.Try.func96, lfn96⟩
  · exact ⟨_, Go.Proofs.Try.func53, lfn53⟩
  · exact ⟨_, Go.Proofs.Try.func54, lfn54⟩
  · exact ⟨_, Go.Proofs.Try.func72, lfn72⟩
  · exact ⟨_, Go.Proofs.Try.func28, lfn28⟩
  · exact ⟨_, Go.Proofs.Try.func30, lfn30⟩
  · exact ⟨_, Go.Proofs.Try.func31, lfn31⟩
  · exact ⟨_, Go.Proofs.Try.func32, lfn32⟩
  · exact ⟨_, Go.Proofs.Try.func12, lfn12⟩)

end Go.E.MiddleAndSide
