/- The law of CodesWith: what the evaluator finds. -/
import Derived.Test.YtonfalhekphaeaaMCw
import Derived.Test.YtonfalhekphaeaaEE
import Derived.Test.YtonfalhekphaeaaProg
set_option linter.unusedVariables false
set_option linter.unusedSimpArgs false
namespace Go.E
open Go
def L3 : LFn := ⟨3, (.seq (.reg [⟨(.some 6), (.mv (.c (.lf (.bool false)))), none⟩])
 (.seq (.seq (.reg [⟨(.some 18), (.mv (.t 1)), none⟩, ⟨(.some 19), (.len (.t 18)), none⟩, ⟨(.some 20), (.bin .gtr (.t 19) (.c (.lf (.int .i64 1048576)))), none⟩])
 (.cond (.t 20) (.seq (.reg [⟨(.some 6), (.mv (.c (.lf (.bool true)))), none⟩])
 .ret) .skip))
 (.seq (.seq (.reg [⟨(.some 21), (.mv (.t 2)), none⟩, ⟨(.some 22), (.len (.t 21)), none⟩, ⟨(.some 23), (.bin .gtr (.t 22) (.c (.lf (.int .i64 1048576)))), none⟩])
 (.cond (.t 23) (.seq (.reg [⟨(.some 6), (.mv (.c (.lf (.bool true)))), none⟩])
 .ret) .skip))
 (.seq (.reg [⟨(.some 25), (.mv (.t 0)), none⟩, ⟨(.some 26), (.mv (.t 1)), none⟩, ⟨(.some 27), (.call false 16 [(.t 26)]), none⟩, ⟨(.some 28), (.mv (.t 2)), none⟩, ⟨(.some 29), (.call false 17 [(.t 28)]), none⟩, ⟨(.some 30), (.call false 15 [(.t 25), (.t 27), (.t 29)]), none⟩, ⟨(.some 24), (.mv (.t 30)), none⟩, ⟨(.some 31), (.ext (.t 24) 0), none⟩, ⟨(.some 32), (.ext (.t 24) 1), none⟩, ⟨(.some 7), (.mv (.t 31)), none⟩, ⟨(.some 8), (.mv (.t 32)), none⟩])
 (.seq (.reg [⟨(.some 33), (.mv (.t 1)), none⟩, ⟨(.some 34), (.call false 16 [(.t 33)]), none⟩, ⟨(.some 9), (.mv (.t 34)), none⟩])
 (.seq (.reg [⟨(.some 35), (.mv (.t 2)), none⟩, ⟨(.some 36), (.call false 17 [(.t 35)]), none⟩, ⟨(.some 10), (.mv (.t 36)), none⟩])
 (.seq (.reg [⟨(.some 38), (.mv (.t 0)), none⟩, ⟨(.some 39), (.mv (.t 9)), none⟩, ⟨(.some 40), (.mv (.t 10)), none⟩, ⟨(.some 41), (.call false 18 [(.t 38), (.t 39), (.t 40)]), none⟩, ⟨(.some 37), (.mv (.t 41)), none⟩, ⟨(.some 42), (.ext (.t 37) 0), none⟩, ⟨(.some 43), (.ext (.t 37) 1), none⟩, ⟨(.some 11), (.mv (.t 42)), none⟩, ⟨(.some 12), (.mv (.t 43)), none⟩])
 (.seq (.seq (.reg [⟨(.some 44), (.mv (.t 11)), none⟩, ⟨(.some 45), (.mv (.t 7)), none⟩, ⟨(.some 46), (.call true 19 [(.t 44), (.t 45)]), none⟩, ⟨(.some 47), (.una .not (.t 46)), none⟩, ⟨(.some 48), (.mv (.t 47)), none⟩, ⟨(.some 49), (.mv (.t 12)), (.some (48, false))⟩, ⟨(.some 50), (.mv (.t 8)), (.some (48, false))⟩, ⟨(.some 51), (.beq true (.t 49) (.t 50)), (.some (48, false))⟩, ⟨(.some 52), (.pick (.t 48) (.c (.lf (.bool true))) (.t 51)), none⟩])
 (.cond (.t 52) (.seq (.reg [⟨(.some 6), (.mv (.c (.lf (.bool false)))), none⟩])
 .ret) .skip))
 (.seq (.seq (.reg [⟨(.some 53), (.mv (.t 9)), none⟩, ⟨(.some 54), (.mv (.t 1)), none⟩, ⟨(.some 55), (.call false 16 [(.t 54)]), none⟩, ⟨(.some 56), (.call true 20 [(.t 53), (.t 55)]), none⟩, ⟨(.some 57), (.una .not (.t 56)), none⟩])
 (.cond (.t 57) (.seq (.reg [⟨(.some 6), (.mv (.c (.lf (.bool false)))), none⟩])
 .ret) .skip))
 (.seq (.seq (.reg [⟨(.some 58), (.mv (.t 10)), none⟩, ⟨(.some 59), (.mv (.t 2)), none⟩, ⟨(.some 60), (.call false 17 [(.t 59)]), none⟩, ⟨(.some 61), (.call true 19 [(.t 58), (.t 60)]), none⟩, ⟨(.some 62), (.una .not (.t 61)), none⟩])
 (.cond (.t 62) (.seq (.reg [⟨(.some 6), (.mv (.c (.lf (.bool false)))), none⟩])
 .ret) .skip))
 (.seq (.reg [⟨(.some 13), (.mv (.c (.lf (.int .i64 1)))), none⟩])
 (.seq (.reg [⟨(.some 63), (.mv (.t 9)), none⟩, ⟨(.some 64), (.mv (.t 13)), none⟩, ⟨(.some 65), (.call false 21 [(.t 63), (.t 64)]), none⟩, ⟨(.some 13), (.mv (.t 65)), none⟩])
 (.seq (.reg [⟨(.some 66), (.mv (.t 10)), none⟩, ⟨(.some 67), (.mv (.t 13)), none⟩, ⟨(.some 68), (.call false 22 [(.t 66), (.t 67)]), none⟩, ⟨(.some 13), (.mv (.t 68)), none⟩])
 (.seq (.seq (.reg [⟨(.some 69), (.mv (.t 13)), none⟩, ⟨(.some 70), (.bin .lss (.t 69) (.c (.lf (.int .i64 0)))), none⟩, ⟨(.some 71), (.mv (.t 70)), none⟩, ⟨(.some 72), (.mv (.t 11)), (.some (71, false))⟩, ⟨(.some 73), (.mv (.t 7)), (.some (71, false))⟩, ⟨(.some 74), (.call true 19 [(.t 72), (.t 73)]), (.some (71, false))⟩, ⟨(.some 75), (.una .not (.t 74)), (.some (71, false))⟩, ⟨(.some 76), (.pick (.t 71) (.c (.lf (.bool true))) (.t 75)), none⟩, ⟨(.some 77), (.mv (.t 76)), none⟩, ⟨(.some 78), (.mv (.t 12)), (.some (77, false))⟩, ⟨(.some 79), (.mv (.t 8)), (.some (77, false))⟩, ⟨(.some 80), (.beq true (.t 78) (.t 79)), (.some (77, false))⟩, ⟨(.some 81), (.pick (.t 77) (.c (.lf (.bool true))) (.t 80)), none⟩])
 (.cond (.t 81) (.seq (.reg [⟨(.some 6), (.mv (.c (.lf (.bool false)))), none⟩])
 .ret) .skip))
 (.seq (.reg [⟨(.some 14), (.mv (.c (.lf (.int .i64 1)))), none⟩])
 (.seq (.reg [⟨(.some 82), (.mv (.t 11)), none⟩, ⟨(.some 83), (.mv (.t 14)), none⟩, ⟨(.some 84), (.call false 22 [(.t 82), (.t 83)]), none⟩, ⟨(.some 14), (.mv (.t 84)), none⟩])
 (.seq (.reg [⟨(.some 15), (.mv (.c (.lf (.int .i64 1)))), none⟩])
 (.seq (.reg [⟨(.some 85), (.mv (.t 11)), none⟩, ⟨(.some 86), (.mv (.t 15)), none⟩, ⟨(.some 87), (.call true 23 [(.t 85), (.t 86)]), none⟩, ⟨(.some 15), (.mv (.t 87)), none⟩])
 (.seq (.seq (.reg [⟨(.some 88), (.mv (.t 15)), none⟩, ⟨(.some 89), (.bin .lss (.t 88) (.c (.lf (.int .i64 0)))), none⟩])
 (.cond (.t 89) (.seq (.reg [⟨(.some 6), (.mv (.c (.lf (.bool false)))), none⟩])
 .ret) .skip))
 (.seq (.seq (.reg [⟨(.some 90), (.mv (.t 15)), none⟩, ⟨(.some 91), (.mv (.t 14)), none⟩, ⟨(.some 92), (.bin .neq (.t 90) (.t 91)), none⟩])
 (.cond (.t 92) (.seq (.reg [⟨(.some 6), (.mv (.c (.lf (.bool false)))), none⟩])
 .ret) .skip))
 (.seq (.reg [⟨(.some 94), (.mv (.t 0)), none⟩, ⟨(.some 95), (.mv (.t 1)), none⟩, ⟨(.some 96), (.call false 16 [(.t 95)]), none⟩, ⟨(.some 97), (.mv (.t 2)), none⟩, ⟨(.some 98), (.call false 17 [(.t 97)]), none⟩, ⟨(.some 99), (.call false 18 [(.t 94), (.t 96), (.t 98)]), none⟩, ⟨(.some 93), (.mv (.t 99)), none⟩, ⟨(.some 100), (.ext (.t 93) 0), none⟩, ⟨(.some 101), (.ext (.t 93) 1), none⟩, ⟨(.some 16), (.mv (.t 100)), none⟩, ⟨(.some 17), (.mv (.t 101)), none⟩])
 (.seq (.seq (.reg [⟨(.some 102), (.mv (.t 16)), none⟩, ⟨(.some 103), (.mv (.t 7)), none⟩, ⟨(.some 104), (.call true 19 [(.t 102), (.t 103)]), none⟩, ⟨(.some 105), (.una .not (.t 104)), none⟩, ⟨(.some 106), (.mv (.t 105)), none⟩, ⟨(.some 107), (.mv (.t 17)), (.some (106, false))⟩, ⟨(.some 108), (.mv (.t 8)), (.some (106, false))⟩, ⟨(.some 109), (.beq true (.t 107) (.t 108)), (.some (106, false))⟩, ⟨(.some 110), (.pick (.t 106) (.c (.lf (.bool true))) (.t 109)), none⟩])
 (.cond (.t 110) (.seq (.reg [⟨(.some 6), (.mv (.c (.lf (.bool false)))), none⟩])
 .ret) .skip))
 (.seq (.reg [⟨(.some 15), (.mv (.c (.lf (.int .i64 1)))), none⟩])
 (.seq (.reg [⟨(.some 111), (.mv (.t 11)), none⟩, ⟨(.some 112), (.mv (.t 15)), none⟩, ⟨(.some 113), (.call true 23 [(.t 111), (.t 112)]), none⟩, ⟨(.some 15), (.mv (.t 113)), none⟩])
 (.seq (.seq (.reg [⟨(.some 114), (.mv (.t 15)), none⟩, ⟨(.some 115), (.bin .lss (.t 114) (.c (.lf (.int .i64 0)))), none⟩])
 (.cond (.t 115) (.seq (.reg [⟨(.some 6), (.mv (.c (.lf (.bool false)))), none⟩])
 .ret) .skip))
 (.seq (.seq (.reg [⟨(.some 116), (.mv (.t 15)), none⟩, ⟨(.some 117), (.mv (.t 14)), none⟩, ⟨(.some 118), (.bin .neq (.t 116) (.t 117)), none⟩])
 (.cond (.t 118) (.seq (.reg [⟨(.some 6), (.mv (.c (.lf (.bool false)))), none⟩])
 .ret) .skip))
 (.seq (.reg [⟨(.some 6), (.mv (.c (.lf (.bool true)))), none⟩])
 .ret))))))))))))))))))))))))))), [(.tmp 6)]⟩
class HasLCodesWith (S : Sys) : Prop extends HasCw S, HasF S, HasI S where
  f3 : S.fs 3 = some L3
theorem il_of {h : Hp} {r : List Lf} (t : Ty h (.int .i64) r) : ∃ x : Int, r = il x ∧ True := by
  obtain ⟨x, rfl, _⟩ := t
  exact ⟨x, rfl, trivial⟩
theorem fl_of {h : Hp} {r : List Lf} (t : Ty h (.flt .f32) r) : ∃ x : Nat, r = fl x ∧ True := by
  obtain ⟨x, rfl, _, _⟩ := t
  exact ⟨x, rfl, trivial⟩
set_option maxRecDepth 20000 in
set_option maxHeartbeats 2000000 in
theorem lawCodesWith {S : Sys} [HasLCodesWith S] : LawHolds S 3 [(false, .int .i64), (false, .sl 1 (.flt .f32)), (false, .sl 1 (.int .i64))] := by
  intro h cs hcs
  obtain ⟨c0, _, rfl, ⟨ls0, rfl, b, rfl, _⟩, c1, _, rfl, ⟨ls1, rfl, l1, rows1, rfl, hAl1, hrows1⟩, c2, _, rfl, ⟨ls2, rfl, l2, rows2, rfl, hAl2, hrows2⟩, rfl⟩ := hcs
  obtain ⟨xs, rfl, _⟩ := rows_map (Q := fun _ => True) fun r hr => fl_of (hrows1 r hr)
  obtain ⟨ns, rfl, _⟩ := rows_map (Q := fun _ => True) fun r hr => il_of (hrows2 r hr)
  clear hrows1 hrows2
  have hlo := codesW_len (b := b) (xs := xs) (ns := ns)
  refine law_of (F := L3) HasLCodesWith.f3 rfl ?_
  unfold L3
  dsimp only []
  repeat' (first | (simp (disch := first | omega | assumption | (simp only [List.length_set]; omega) | (simp [*] <;> fail) | assumption) [-Bool.decide_and, -Bool.decide_or, -Bool.not_and, -Bool.not_or, toNat_pred, toNat_succ, wrap64, wr_new, wr_new0, ok_if, ok_ifn, iadV_sl, makeV_int, decT, decF, over_at, *, hAl1.len, hAl2.len]) | (with_reducible refine Gd_split (fun hc => ?_) (fun hc => ?_) <;> (have hc2 := hc; try simp at hc2)) | (with_reducible refine Br_split (fun hc => ?_) (fun hc => ?_) <;> (have hc2 := hc; try simp at hc2)) | (with_reducible refine GdT_split (fun hc => ?_) (fun hc => ?_) <;> (have hc2 := hc; try simp at hc2)) | (with_reducible refine WT_alt ?_ ?_) | omega)
  have hnl1 : xs.length ≤ 16777216 := by omega
  have hnl2 : ns.length ≤ 16777216 := by omega
  refine c_toFloat32S (hAl1.kept (Kept.refl h)) hnl1 (Kept.refl h).1 fun x0 g1 hx0 => ?_
  have K2 := (Kept.refl h).trans hx0.kept
  have Q2 := hx0.kept.1
  have P2 := K2.1
  have Nx0 := hx0.base (Kept.refl h)
  repeat' (first | (simp (disch := first | omega | assumption | (simp only [List.length_set]; omega) | (simp [*] <;> fail) | assumption) [-Bool.decide_and, -Bool.decide_or, -Bool.not_and, -Bool.not_or, toNat_pred, toNat_succ, wrap64, wr_new, wr_new0, ok_if, ok_ifn, iadV_sl, makeV_int, decT, decF, over_at, *]) | (with_reducible refine Gd_split (fun hc => ?_) (fun hc => ?_) <;> (have hc2 := hc; try simp at hc2)) | (with_reducible refine Br_split (fun hc => ?_) (fun hc => ?_) <;> (have hc2 := hc; try simp at hc2)) | (with_reducible refine GdT_split (fun hc => ?_) (fun hc => ?_) <;> (have hc2 := hc; try simp at hc2)) | (with_reducible refine WT_alt ?_ ?_) | omega)
  refine c_toInt64S (hAl2.kept K2) hnl2 K2.1 fun x1 g3 hx1 => ?_
  have Fx0x1 : Far x0 x1 := fun q1 q2 => by have := (Nx0.lt q1).2; have := (hx1.lt q2).1; omega
  have K4 := K2.trans hx1.kept
  have Q4 := hx1.kept.1
  have P4 := K4.1
  have Nx1 := hx1.base K2
  replace Nx0 := Nx0.later hx1.kept
  repeat' (first | (simp (disch := first | omega | assumption | (simp only [List.length_set]; omega) | (simp [*] <;> fail) | assumption) [-Bool.decide_and, -Bool.decide_or, -Bool.not_and, -Bool.not_or, toNat_pred, toNat_succ, wrap64, wr_new, wr_new0, ok_if, ok_ifn, iadV_sl, makeV_int, decT, decF, over_at, *]) | (with_reducible refine Gd_split (fun hc => ?_) (fun hc => ?_) <;> (have hc2 := hc; try simp at hc2)) | (with_reducible refine Br_split (fun hc => ?_) (fun hc => ?_) <;> (have hc2 := hc; try simp at hc2)) | (with_reducible refine GdT_split (fun hc => ?_) (fun hc => ?_) <;> (have hc2 := hc; try simp at hc2)) | (with_reducible refine WT_alt ?_ ?_) | omega)
  refine d_specCodesWith Nx0.arr Nx1.arr K4.1 fun s0 g5 hs0  => ?_
  have Fs0x0 : Far s0 x0 := fun q1 q2 => by have := (Nx0.lt q2).2; have := (hs0.lt q1).1; omega
  have Fs0x1 : Far s0 x1 := fun q1 q2 => by have := (Nx1.lt q2).2; have := (hs0.lt q1).1; omega
  have K6 := K4.trans hs0.kept
  have Q6 := hs0.kept.1
  have P6 := K6.1
  have Ns0 := hs0.base K4
  replace Nx0 := Nx0.later hs0.kept
  replace Nx1 := Nx1.later hs0.kept
  repeat' (first | (simp (disch := first | omega | assumption | (simp only [List.length_set]; omega) | (simp [*] <;> fail) | assumption) [-Bool.decide_and, -Bool.decide_or, -Bool.not_and, -Bool.not_or, toNat_pred, toNat_succ, wrap64, wr_new, wr_new0, ok_if, ok_ifn, iadV_sl, makeV_int, decT, decF, over_at, *]) | (with_reducible refine Gd_split (fun hc => ?_) (fun hc => ?_) <;> (have hc2 := hc; try simp at hc2)) | (with_reducible refine Br_split (fun hc => ?_) (fun hc => ?_) <;> (have hc2 := hc; try simp at hc2)) | (with_reducible refine GdT_split (fun hc => ?_) (fun hc => ?_) <;> (have hc2 := hc; try simp at hc2)) | (with_reducible refine WT_alt ?_ ?_) | omega)
  refine c_toFloat32S (hAl1.kept K6) hnl1 K6.1 fun a0 g7 ha0 => ?_
  have Fa0s0 : Far a0 s0 := fun q1 q2 => by have := (Ns0.lt q2).2; have := (ha0.lt q1).1; omega
  have K8 := K6.trans ha0.kept
  have Q8 := ha0.kept.1
  have P8 := K8.1
  have Na0 := ha0.base K6
  replace Ns0 := Ns0.later ha0.kept
  repeat' (first | (simp (disch := first | omega | assumption | (simp only [List.length_set]; omega) | (simp [*] <;> fail) | assumption) [-Bool.decide_and, -Bool.decide_or, -Bool.not_and, -Bool.not_or, toNat_pred, toNat_succ, wrap64, wr_new, wr_new0, ok_if, ok_ifn, iadV_sl, makeV_int, decT, decF, over_at, *]) | (with_reducible refine Gd_split (fun hc => ?_) (fun hc => ?_) <;> (have hc2 := hc; try simp at hc2)) | (with_reducible refine Br_split (fun hc => ?_) (fun hc => ?_) <;> (have hc2 := hc; try simp at hc2)) | (with_reducible refine GdT_split (fun hc => ?_) (fun hc => ?_) <;> (have hc2 := hc; try simp at hc2)) | (with_reducible refine WT_alt ?_ ?_) | omega)
  refine c_toInt64S (hAl2.kept K8) hnl2 K8.1 fun a1 g9 ha1 => ?_
  have Fa1s0 : Far a1 s0 := fun q1 q2 => by have := (Ns0.lt q2).2; have := (ha1.lt q1).1; omega
  have Fa0a1 : Far a0 a1 := fun q1 q2 => by have := (Na0.lt q1).2; have := (ha1.lt q2).1; omega
  have K10 := K8.trans ha1.kept
  have Q10 := ha1.kept.1
  have P10 := K10.1
  have Na1 := ha1.base K8
  replace Ns0 := Ns0.later ha1.kept
  replace Na0 := Na0.later ha1.kept
  repeat' (first | (simp (disch := first | omega | assumption | (simp only [List.length_set]; omega) | (simp [*] <;> fail) | assumption) [-Bool.decide_and, -Bool.decide_or, -Bool.not_and, -Bool.not_or, toNat_pred, toNat_succ, wrap64, wr_new, wr_new0, ok_if, ok_ifn, iadV_sl, makeV_int, decT, decF, over_at, *]) | (with_reducible refine Gd_split (fun hc => ?_) (fun hc => ?_) <;> (have hc2 := hc; try simp at hc2)) | (with_reducible refine Br_split (fun hc => ?_) (fun hc => ?_) <;> (have hc2 := hc; try simp at hc2)) | (with_reducible refine GdT_split (fun hc => ?_) (fun hc => ?_) <;> (have hc2 := hc; try simp at hc2)) | (with_reducible refine WT_alt ?_ ?_) | omega)
  refine d_implCodesWith Na0.arr Na1.arr K10.1 fun r0 g11 hr0  => ?_
  have Fr0s0 : Far r0 s0 := fun q1 q2 => by have := (Ns0.lt q2).2; have := (hr0.lt q1).1; omega
  have Fa0r0 : Far a0 r0 := fun q1 q2 => by have := (Na0.lt q1).2; have := (hr0.lt q2).1; omega
  have Fa1r0 : Far a1 r0 := fun q1 q2 => by have := (Na1.lt q1).2; have := (hr0.lt q2).1; omega
  have K12 := K10.trans hr0.kept
  have Q12 := hr0.kept.1
  have P12 := K12.1
  have Nr0 := hr0.base K10
  replace Ns0 := Ns0.later hr0.kept
  replace Na0 := Na0.later hr0.kept
  replace Na1 := Na1.later hr0.kept
  repeat' (first | (simp (disch := first | omega | assumption | (simp only [List.length_set]; omega) | (simp [*] <;> fail) | assumption) [-Bool.decide_and, -Bool.decide_or, -Bool.not_and, -Bool.not_or, toNat_pred, toNat_succ, wrap64, wr_new, wr_new0, ok_if, ok_ifn, iadV_sl, makeV_int, decT, decF, over_at, *, c_eqInt64S Nr0.arr Ns0.arr]) | (with_reducible refine Gd_split (fun hc => ?_) (fun hc => ?_) <;> (have hc2 := hc; try simp at hc2)) | (with_reducible refine Br_split (fun hc => ?_) (fun hc => ?_) <;> (have hc2 := hc; try simp at hc2)) | (with_reducible refine GdT_split (fun hc => ?_) (fun hc => ?_) <;> (have hc2 := hc; try simp at hc2)) | (with_reducible refine WT_alt ?_ ?_) | omega)
  refine c_toFloat32S (hAl1.kept K12) hnl1 K12.1 fun y0 g13 hy0 => ?_
  have Fs0y0 : Far s0 y0 := fun q1 q2 => by have := (Ns0.lt q1).2; have := (hy0.lt q2).1; omega
  have Fa0y0 : Far a0 y0 := fun q1 q2 => by have := (Na0.lt q1).2; have := (hy0.lt q2).1; omega
  have Fa1y0 : Far a1 y0 := fun q1 q2 => by have := (Na1.lt q1).2; have := (hy0.lt q2).1; omega
  have Fr0y0 : Far r0 y0 := fun q1 q2 => by have := (Nr0.lt q1).2; have := (hy0.lt q2).1; omega
  have K14 := K12.trans hy0.kept
  have Q14 := hy0.kept.1
  have P14 := K14.1
  have Ny0 := hy0.base K12
  replace Ns0 := Ns0.later hy0.kept
  replace Na0 := Na0.later hy0.kept
  replace Na1 := Na1.later hy0.kept
  replace Nr0 := Nr0.later hy0.kept
  repeat' (first | (simp (disch := first | omega | assumption | (simp only [List.length_set]; omega) | (simp [*] <;> fail) | assumption) [-Bool.decide_and, -Bool.decide_or, -Bool.not_and, -Bool.not_or, toNat_pred, toNat_succ, wrap64, wr_new, wr_new0, ok_if, ok_ifn, iadV_sl, makeV_int, decT, decF, over_at, *, c_eqFloat32S Na0.arr Ny0.arr]) | (with_reducible refine Gd_split (fun hc => ?_) (fun hc => ?_) <;> (have hc2 := hc; try simp at hc2)) | (with_reducible refine Br_split (fun hc => ?_) (fun hc => ?_) <;> (have hc2 := hc; try simp at hc2)) | (with_reducible refine GdT_split (fun hc => ?_) (fun hc => ?_) <;> (have hc2 := hc; try simp at hc2)) | (with_reducible refine WT_alt ?_ ?_) | omega)
  refine c_toInt64S (hAl2.kept K14) hnl2 K14.1 fun y1 g15 hy1 => ?_
  have Fs0y1 : Far s0 y1 := fun q1 q2 => by have := (Ns0.lt q1).2; have := (hy1.lt q2).1; omega
  have Fa0y1 : Far a0 y1 := fun q1 q2 => by have := (Na0.lt q1).2; have := (hy1.lt q2).1; omega
  have Fa1y1 : Far a1 y1 := fun q1 q2 => by have := (Na1.lt q1).2; have := (hy1.lt q2).1; omega
  have Fr0y1 : Far r0 y1 := fun q1 q2 => by have := (Nr0.lt q1).2; have := (hy1.lt q2).1; omega
  have K16 := K14.trans hy1.kept
  have Q16 := hy1.kept.1
  have P16 := K16.1
  have Ny1 := hy1.base K14
  replace Ns0 := Ns0.later hy1.kept
  replace Na0 := Na0.later hy1.kept
  replace Na1 := Na1.later hy1.kept
  replace Nr0 := Nr0.later hy1.kept
  repeat' (first | (simp (disch := first | omega | assumption | (simp only [List.length_set]; omega) | (simp [*] <;> fail) | assumption) [-Bool.decide_and, -Bool.decide_or, -Bool.not_and, -Bool.not_or, toNat_pred, toNat_succ, wrap64, wr_new, wr_new0, ok_if, ok_ifn, iadV_sl, makeV_int, decT, decF, over_at, *, c_eqInt64S Na1.arr Ny1.arr]) | (with_reducible refine Gd_split (fun hc => ?_) (fun hc => ?_) <;> (have hc2 := hc; try simp at hc2)) | (with_reducible refine Br_split (fun hc => ?_) (fun hc => ?_) <;> (have hc2 := hc; try simp at hc2)) | (with_reducible refine GdT_split (fun hc => ?_) (fun hc => ?_) <;> (have hc2 := hc; try simp at hc2)) | (with_reducible refine WT_alt ?_ ?_) | omega)
  refine c_markFloat32S Na0 (by simp; omega) (by omega) (by omega) (Nat.le_refl _) fun g17 hM17 hB17 => ?_
  have Q17 := hB17.len
  have K17 := hB17.kept K16 (fun hn => (Na0.lt hn).1)
  replace Ns0 := hB17.new Ns0 (fun hn => (Na0.lt hn).1) (fun q1 q2 => Fa0s0.symm q2 q1)
  replace Na1 := hB17.new Na1 (fun hn => (Na0.lt hn).1) (fun q1 q2 => Fa0a1.symm q2 q1)
  replace Nr0 := hB17.new Nr0 (fun hn => (Na0.lt hn).1) (fun q1 q2 => Fa0r0.symm q2 q1)
  simp only [List.length_map] at hM17
  replace Na0 := hM17
  repeat' (first | (simp (disch := first | omega | assumption | (simp only [List.length_set]; omega) | (simp [*] <;> fail) | assumption) [-Bool.decide_and, -Bool.decide_or, -Bool.not_and, -Bool.not_or, toNat_pred, toNat_succ, wrap64, wr_new, wr_new0, ok_if, ok_ifn, iadV_sl, makeV_int, decT, decF, over_at, *]) | (with_reducible refine Gd_split (fun hc => ?_) (fun hc => ?_) <;> (have hc2 := hc; try simp at hc2)) | (with_reducible refine Br_split (fun hc => ?_) (fun hc => ?_) <;> (have hc2 := hc; try simp at hc2)) | (with_reducible refine GdT_split (fun hc => ?_) (fun hc => ?_) <;> (have hc2 := hc; try simp at hc2)) | (with_reducible refine WT_alt ?_ ?_) | omega)
  refine c_markInt64S Na1 (by simp; omega) (by omega) (by omega) (Nat.le_refl _) fun g18 hM18 hB18 => ?_
  have Q18 := hB18.len
  have K18 := hB18.kept K17 (fun hn => (Na1.lt hn).1)
  replace Ns0 := hB18.new Ns0 (fun hn => (Na1.lt hn).1) (fun q1 q2 => Fa1s0.symm q2 q1)
  replace Na0 := hB18.new Na0 (fun hn => (Na1.lt hn).1) (fun q1 q2 => Fa0a1 q2 q1)
  replace Nr0 := hB18.new Nr0 (fun hn => (Na1.lt hn).1) (fun q1 q2 => Fa1r0.symm q2 q1)
  simp only [List.length_map] at hM18
  replace Na1 := hM18
  repeat' (first | (simp (disch := first | omega | assumption | (simp only [List.length_set]; omega) | (simp [*] <;> fail) | assumption) [-Bool.decide_and, -Bool.decide_or, -Bool.not_and, -Bool.not_or, toNat_pred, toNat_succ, wrap64, wr_new, wr_new0, ok_if, ok_ifn, iadV_sl, makeV_int, decT, decF, over_at, *, c_eqInt64S Nr0.arr Ns0.arr]) | (with_reducible refine Gd_split (fun hc => ?_) (fun hc => ?_) <;> (have hc2 := hc; try simp at hc2)) | (with_reducible refine Br_split (fun hc => ?_) (fun hc => ?_) <;> (have hc2 := hc; try simp at hc2)) | (with_reducible refine GdT_split (fun hc => ?_) (fun hc => ?_) <;> (have hc2 := hc; try simp at hc2)) | (with_reducible refine WT_alt ?_ ?_) | omega)
  refine c_markInt64S Nr0 (by simp; omega) (by omega) (by omega) (Nat.le_refl _) fun g19 hM19 hB19 => ?_
  have Q19 := hB19.len
  have K19 := hB19.kept K18 (fun hn => (Nr0.lt hn).1)
  replace Ns0 := hB19.new Ns0 (fun hn => (Nr0.lt hn).1) (fun q1 q2 => Fr0s0.symm q2 q1)
  simp only [List.length_map] at hM19
  replace Nr0 := hM19
  repeat' (first | (simp (disch := first | omega | assumption | (simp only [List.length_set]; omega) | (simp [*] <;> fail) | assumption) [-Bool.decide_and, -Bool.decide_or, -Bool.not_and, -Bool.not_or, toNat_pred, toNat_succ, wrap64, wr_new, wr_new0, ok_if, ok_ifn, iadV_sl, makeV_int, decT, decF, over_at, *, c_heldInt64S Nr0.arr]) | (with_reducible refine Gd_split (fun hc => ?_) (fun hc => ?_) <;> (have hc2 := hc; try simp at hc2)) | (with_reducible refine Br_split (fun hc => ?_) (fun hc => ?_) <;> (have hc2 := hc; try simp at hc2)) | (with_reducible refine GdT_split (fun hc => ?_) (fun hc => ?_) <;> (have hc2 := hc; try simp at hc2)) | (with_reducible refine WT_alt ?_ ?_) | omega)
  refine c_toFloat32S (hAl1.kept K19) hnl1 K19.1 fun w0 g20 hw0 => ?_
  have Fs0w0 : Far s0 w0 := fun q1 q2 => by have := (Ns0.lt q1).2; have := (hw0.lt q2).1; omega
  have Fr0w0 : Far r0 w0 := fun q1 q2 => by have := (Nr0.lt q1).2; have := (hw0.lt q2).1; omega
  have K21 := K19.trans hw0.kept
  have Q21 := hw0.kept.1
  have P21 := K21.1
  have Nw0 := hw0.base K19
  replace Ns0 := Ns0.later hw0.kept
  replace Nr0 := Nr0.later hw0.kept
  repeat' (first | (simp (disch := first | omega | assumption | (simp only [List.length_set]; omega) | (simp [*] <;> fail) | assumption) [-Bool.decide_and, -Bool.decide_or, -Bool.not_and, -Bool.not_or, toNat_pred, toNat_succ, wrap64, wr_new, wr_new0, ok_if, ok_ifn, iadV_sl, makeV_int, decT, decF, over_at, *]) | (with_reducible refine Gd_split (fun hc => ?_) (fun hc => ?_) <;> (have hc2 := hc; try simp at hc2)) | (with_reducible refine Br_split (fun hc => ?_) (fun hc => ?_) <;> (have hc2 := hc; try simp at hc2)) | (with_reducible refine GdT_split (fun hc => ?_) (fun hc => ?_) <;> (have hc2 := hc; try simp at hc2)) | (with_reducible refine WT_alt ?_ ?_) | omega)
  refine c_toInt64S (hAl2.kept K21) hnl2 K21.1 fun w1 g22 hw1 => ?_
  have Fs0w1 : Far s0 w1 := fun q1 q2 => by have := (Ns0.lt q1).2; have := (hw1.lt q2).1; omega
  have Fr0w1 : Far r0 w1 := fun q1 q2 => by have := (Nr0.lt q1).2; have := (hw1.lt q2).1; omega
  have Fw0w1 : Far w0 w1 := fun q1 q2 => by have := (Nw0.lt q1).2; have := (hw1.lt q2).1; omega
  have K23 := K21.trans hw1.kept
  have Q23 := hw1.kept.1
  have P23 := K23.1
  have Nw1 := hw1.base K21
  replace Ns0 := Ns0.later hw1.kept
  replace Nr0 := Nr0.later hw1.kept
  replace Nw0 := Nw0.later hw1.kept
  repeat' (first | (simp (disch := first | omega | assumption | (simp only [List.length_set]; omega) | (simp [*] <;> fail) | assumption) [-Bool.decide_and, -Bool.decide_or, -Bool.not_and, -Bool.not_or, toNat_pred, toNat_succ, wrap64, wr_new, wr_new0, ok_if, ok_ifn, iadV_sl, makeV_int, decT, decF, over_at, *]) | (with_reducible refine Gd_split (fun hc => ?_) (fun hc => ?_) <;> (have hc2 := hc; try simp at hc2)) | (with_reducible refine Br_split (fun hc => ?_) (fun hc => ?_) <;> (have hc2 := hc; try simp at hc2)) | (with_reducible refine GdT_split (fun hc => ?_) (fun hc => ?_) <;> (have hc2 := hc; try simp at hc2)) | (with_reducible refine WT_alt ?_ ?_) | omega)
  refine d_implCodesWith Nw0.arr Nw1.arr K23.1 fun u0 g24 hu0  => ?_
  have Fs0u0 : Far s0 u0 := fun q1 q2 => by have := (Ns0.lt q1).2; have := (hu0.lt q2).1; omega
  have Fr0u0 : Far r0 u0 := fun q1 q2 => by have := (Nr0.lt q1).2; have := (hu0.lt q2).1; omega
  have Fu0w0 : Far u0 w0 := fun q1 q2 => by have := (Nw0.lt q2).2; have := (hu0.lt q1).1; omega
  have Fu0w1 : Far u0 w1 := fun q1 q2 => by have := (Nw1.lt q2).2; have := (hu0.lt q1).1; omega
  have K25 := K23.trans hu0.kept
  have Q25 := hu0.kept.1
  have P25 := K25.1
  have Nu0 := hu0.base K23
  replace Ns0 := Ns0.later hu0.kept
  replace Nr0 := Nr0.later hu0.kept
  replace Nw0 := Nw0.later hu0.kept
  replace Nw1 := Nw1.later hu0.kept
  repeat' (first | (simp (disch := first | omega | assumption | (simp only [List.length_set]; omega) | (simp [*] <;> fail) | assumption) [-Bool.decide_and, -Bool.decide_or, -Bool.not_and, -Bool.not_or, toNat_pred, toNat_succ, wrap64, wr_new, wr_new0, ok_if, ok_ifn, iadV_sl, makeV_int, decT, decF, over_at, *, c_eqInt64S Nu0.arr Ns0.arr, c_heldInt64S Nr0.arr]) | (with_reducible refine Gd_split (fun hc => ?_) (fun hc => ?_) <;> (have hc2 := hc; try simp at hc2)) | (with_reducible refine Br_split (fun hc => ?_) (fun hc => ?_) <;> (have hc2 := hc; try simp at hc2)) | (with_reducible refine GdT_split (fun hc => ?_) (fun hc => ?_) <;> (have hc2 := hc; try simp at hc2)) | (with_reducible refine WT_alt ?_ ?_) | omega)
end Go.E
namespace Go.E.CodesWith
open Go Go.E
def pure : FuncId → Bool := fun f => List.elem f [3, 4, 5, 6, 7, 8, 9, 10, 11, 12, 13, 14, 19, 20, 23, 24, 28, 30, 31, 32, 33, 34, 35, 37, 38, 40, 44, 48, 50, 51, 54, 55, 57, 58, 59, 60, 61, 62, 63, 64, 66, 69, 71, 72, 73, 74, 75, 76, 77, 78, 79, 80, 81, 82, 83, 84, 85, 86, 87, 88, 89, 90, 91, 92, 93, 94, 95, 96, 97, 99, 100, 101, 103, 106, 107, 108, 110, 111, 112, 113, 114, 115, 116, 117, 122, 123, 124, 125, 126, 128, 129, 131, 132, 133, 134, 135, 136, 137, 138, 139, 140, 141, 142, 143, 144, 146, 147, 148, 149, 150, 151, 152, 153, 154, 155, 156, 157, 158, 159, 160, 161, 162, 163, 164, 165, 166, 167, 168, 169, 170, 171, 172, 173, 174, 175, 176, 177, 178, 179, 180, 181, 182, 183, 184, 185, 186, 187, 188, 189, 190, 191, 192, 193, 195, 197, 199, 206, 208, 209, 210]
def funs : List (Nat × LFn) := [(73, L73), (86, L86), (106, L106), (133, L133), (72, L72), (77, L77), (71, L71), (74, L74), (75, L75), (76, L76), (79, L79), (80, L80), (78, L78), (15, L15), (18, L18), (33, L33), (16, L16), (20, L20), (21, L21), (30, L30), (17, L17), (19, L19), (22, L22), (23, L23), (3, L3)]
def Sy : Sys := sysOf funs
theorem lfn73 : lFn Go.Proofs.Try.prog pure Go.Proofs.Try.f73 = some L73 := by kernel_rfl
theorem lfn86 : lFn Go.Proofs.Try.prog pure Go.Proofs.Try.f86 = some L86 := by kernel_rfl
theorem lfn106 : lFn Go.Proofs.Try.prog pure Go.Proofs.Try.f106 = some L106 := by kernel_rfl
theorem lfn133 : lFn Go.Proofs.Try.prog pure Go.Proofs.Try.f133 = some L133 := by kernel_rfl
theorem lfn72 : lFn Go.Proofs.Try.prog pure Go.Proofs.Try.f72 = some L72 := by kernel_rfl
theorem lfn77 : lFn Go.Proofs.Try.prog pure Go.Proofs.Try.f77 = some L77 := by kernel_rfl
theorem lfn71 : lFn Go.Proofs.Try.prog pure Go.Proofs.Try.f71 = some L71 := by kernel_rfl
theorem lfn74 : lFn Go.Proofs.Try.prog pure Go.Proofs.Try.f74 = some L74 := by kernel_rfl
theorem lfn75 : lFn Go.Proofs.Try.prog pure Go.Proofs.Try.f75 = some L75 := by kernel_rfl
theorem lfn76 : lFn Go.Proofs.Try.prog pure Go.Proofs.Try.f76 = some L76 := by kernel_rfl
theorem lfn79 : lFn Go.Proofs.Try.prog pure Go.Proofs.Try.f79 = some L79 := by kernel_rfl
theorem lfn80 : lFn Go.Proofs.Try.prog pure Go.Proofs.Try.f80 = some L80 := by kernel_rfl
theorem lfn78 : lFn Go.Proofs.Try.prog pure Go.Proofs.Try.f78 = some L78 := by kernel_rfl
theorem lfn15 : lFn Go.Proofs.Try.prog pure Go.Proofs.Try.f15 = some L15 := by kernel_rfl
theorem lfn18 : lFn Go.Proofs.Try.prog pure Go.Proofs.Try.f18 = some L18 := by kernel_rfl
theorem lfn33 : lFn Go.Proofs.Try.prog pure Go.Proofs.Try.f33 = some L33 := by kernel_rfl
theorem lfn16 : lFn Go.Proofs.Try.prog pure Go.Proofs.Try.f16 = some L16 := by kernel_rfl
theorem lfn20 : lFn Go.Proofs.Try.prog pure Go.Proofs.Try.f20 = some L20 := by kernel_rfl
theorem lfn21 : lFn Go.Proofs.Try.prog pure Go.Proofs.Try.f21 = some L21 := by kernel_rfl
theorem lfn30 : lFn Go.Proofs.Try.prog pure Go.Proofs.Try.f30 = some L30 := by kernel_rfl
theorem lfn17 : lFn Go.Proofs.Try.prog pure Go.Proofs.Try.f17 = some L17 := by kernel_rfl
theorem lfn19 : lFn Go.Proofs.Try.prog pure Go.Proofs.Try.f19 = some L19 := by kernel_rfl
theorem lfn22 : lFn Go.Proofs.Try.prog pure Go.Proofs.Try.f22 = some L22 := by kernel_rfl
theorem lfn23 : lFn Go.Proofs.Try.prog pure Go.Proofs.Try.f23 = some L23 := by kernel_rfl
theorem lfn3 : lFn Go.Proofs.Try.prog pure Go.Proofs.Try.f3 = some L3 := by kernel_rfl
instance : HasA Sy := { f73 := rfl, f86 := rfl, f106 := rfl, f133 := rfl }
instance : HasP Sy := { f72 := rfl, f77 := rfl }
instance : HasKb Sy := { f71 := rfl, f74 := rfl, f75 := rfl, f76 := rfl, f79 := rfl, f80 := rfl }
instance : HasW Sy := { f78 := rfl }
instance : HasCw Sy := { f15 := rfl, f18 := rfl }
instance : HasSame Sy := { f33 := rfl }
instance : HasF Sy := { f16 := rfl, f20 := rfl, f21 := rfl, f30 := rfl }
instance : HasI Sy := { f17 := rfl, f19 := rfl, f22 := rfl, f23 := rfl }
instance : HasLCodesWith Sy := { f3 := rfl }
theorem sysOK {B : Nat} {w0 : World} : SysOK Go.Proofs.Try.prog pure Sy B w0 := SysOK.of (by
  intro p hp
  simp only [funs, List.mem_cons, List.not_mem_nil, or_false] at hp
  rcases hp with rfl | rfl | rfl | rfl | rfl | rfl | rfl | rfl | rfl | rfl | rfl | rfl | rfl | rfl | rfl | rfl | rfl | rfl | rfl | rfl | rfl | rfl | rfl | rfl | rfl
  · exact ⟨_, Go.Proofs.Try.func73, lfn73⟩
  · exact ⟨_, Go.Proofs.Try.func86, lfn86⟩
  · exact ⟨_, Go.Proofs.Try.func106, lfn106⟩
  · exact ⟨_, Go.Proofs.Try.func133, lfn133⟩
  · exact ⟨_, Go.Proofs.Try.func72, lfn72⟩
  · exact ⟨_, Go.Proofs.Try.func77, lfn77⟩
  · exact ⟨_, Go.Proofs.Try.func71, lfn71⟩
  · exact ⟨_, Go.Proofs.Try.func74, lfn74⟩
  · exact ⟨_, Go.Proofs.Try.func75, lfn75⟩
  · exact ⟨_, Go.Proofs.Try.func76, lfn76⟩
  · exact ⟨_, Go.Proofs.Try.func79, lfn79⟩
  · exact ⟨_, Go.Proofs.Try.func80, lfn80⟩
  · exact ⟨_, Go.Proofs.Try.func78, lfn78⟩
  · exact ⟨_, Go.Proofs.Try.func15, lfn15⟩
  · exact ⟨_, Go.Proofs.Try.func18, lfn18⟩
  · exact ⟨_, Go.Proofs.Try.func33, lfn33⟩
  · exact ⟨_, Go.Proofs.Try.func16, lfn16⟩
  · exact ⟨_, Go.Proofs.Try.func20, lfn20⟩
  · exact ⟨_, Go.Proofs.Try.func21, lfn21⟩
  · exact ⟨_, Go.Proofs.Try.func30, lfn30⟩
  · exact ⟨_, Go.Proofs.Try.func17, lfn17⟩
  · exact ⟨_, Go.Proofs.Try.func19, lfn19⟩
  · exact ⟨_, Go.Proofs.Try.func22, lfn22⟩
  · exact ⟨_, Go.Proofs.Try.func23, lfn23⟩
  · exact ⟨_, Go.Proofs.Try.func3, lfn3⟩)

end Go.E.CodesWith
