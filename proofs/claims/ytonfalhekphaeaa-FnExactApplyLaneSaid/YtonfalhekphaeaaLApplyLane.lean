/- The law of ApplyLane: what the evaluator finds. -/
import Derived.Test.YtonfalhekphaeaaMAl
import Derived.Test.YtonfalhekphaeaaMPm
import Derived.Test.YtonfalhekphaeaaEE
import Derived.Test.YtonfalhekphaeaaProg
set_option linter.unusedVariables false
set_option linter.unusedSimpArgs false
namespace Go.E
open Go
def L8 : LFn := ⟨3, (.seq (.reg [⟨(.some 6), (.mv (.c (.lf (.bool false)))), none⟩])
 (.seq (.seq (.reg [⟨(.some 19), (.mv (.t 2)), none⟩, ⟨(.some 20), (.len (.t 19)), none⟩, ⟨(.some 21), (.bin .gtr (.t 20) (.c (.lf (.int .i64 1048576)))), none⟩])
 (.cond (.t 21) (.seq (.reg [⟨(.some 6), (.mv (.c (.lf (.bool true)))), none⟩])
 .ret) .skip))
 (.seq (.reg [⟨(.some 7), (.mv (.c (.lf (.int .i64 1048576)))), none⟩])
 (.seq (.reg [⟨(.some 22), (.mv (.t 0)), none⟩, ⟨(.some 23), (.mv (.t 7)), none⟩, ⟨(.some 24), (.call true 24 [(.t 22), (.t 23)]), none⟩, ⟨(.some 7), (.mv (.t 24)), none⟩])
 (.seq (.seq (.reg [⟨(.some 25), (.mv (.t 7)), none⟩, ⟨(.some 26), (.bin .lss (.t 25) (.c (.lf (.int .i64 0)))), none⟩])
 (.cond (.t 26) (.seq (.reg [⟨(.some 6), (.mv (.c (.lf (.bool true)))), none⟩])
 .ret) .skip))
 (.seq (.reg [⟨(.some 28), (.mv (.t 0)), none⟩, ⟨(.some 29), (.call false 26 [(.t 28)]), none⟩, ⟨(.some 30), (.mv (.t 1)), none⟩, ⟨(.some 31), (.mv (.t 2)), none⟩, ⟨(.some 32), (.call false 16 [(.t 31)]), none⟩, ⟨(.some 33), (.call false 42 [(.t 29), (.t 30), (.t 32)]), none⟩, ⟨(.some 27), (.mv (.t 33)), none⟩, ⟨(.some 34), (.ext (.t 27) 0), none⟩, ⟨(.some 35), (.ext (.t 27) 1), none⟩, ⟨(.some 8), (.mv (.t 34)), none⟩, ⟨(.some 9), (.mv (.t 35)), none⟩])
 (.seq (.reg [⟨(.some 36), (.mv (.t 0)), none⟩, ⟨(.some 37), (.call false 26 [(.t 36)]), none⟩, ⟨(.some 10), (.mv (.t 37)), none⟩])
 (.seq (.reg [⟨(.some 38), (.mv (.t 2)), none⟩, ⟨(.some 39), (.call false 16 [(.t 38)]), none⟩, ⟨(.some 11), (.mv (.t 39)), none⟩])
 (.seq (.reg [⟨(.some 41), (.mv (.t 10)), none⟩, ⟨(.some 42), (.mv (.t 1)), none⟩, ⟨(.some 43), (.mv (.t 11)), none⟩, ⟨(.some 44), (.call false 43 [(.t 41), (.t 42), (.t 43)]), none⟩, ⟨(.some 40), (.mv (.t 44)), none⟩, ⟨(.some 45), (.ext (.t 40) 0), none⟩, ⟨(.some 46), (.ext (.t 40) 1), none⟩, ⟨(.some 12), (.mv (.t 45)), none⟩, ⟨(.some 13), (.mv (.t 46)), none⟩])
 (.seq (.seq (.reg [⟨(.some 47), (.mv (.t 12)), none⟩, ⟨(.some 48), (.mv (.t 8)), none⟩, ⟨(.some 49), (.call true 20 [(.t 47), (.t 48)]), none⟩, ⟨(.some 50), (.una .not (.t 49)), none⟩, ⟨(.some 51), (.mv (.t 50)), none⟩, ⟨(.some 52), (.mv (.t 13)), (.some (51, false))⟩, ⟨(.some 53), (.mv (.t 9)), (.some (51, false))⟩, ⟨(.some 54), (.beq true (.t 52) (.t 53)), (.some (51, false))⟩, ⟨(.some 55), (.pick (.t 51) (.c (.lf (.bool true))) (.t 54)), none⟩])
 (.cond (.t 55) (.seq (.reg [⟨(.some 6), (.mv (.c (.lf (.bool false)))), none⟩])
 .ret) .skip))
 (.seq (.seq (.reg [⟨(.some 56), (.mv (.t 10)), none⟩, ⟨(.some 57), (.mv (.t 0)), none⟩, ⟨(.some 58), (.call false 26 [(.t 57)]), none⟩, ⟨(.some 59), (.call true 28 [(.t 56), (.t 58)]), none⟩, ⟨(.some 60), (.una .not (.t 59)), none⟩])
 (.cond (.t 60) (.seq (.reg [⟨(.some 6), (.mv (.c (.lf (.bool false)))), none⟩])
 .ret) .skip))
 (.seq (.seq (.reg [⟨(.some 61), (.mv (.t 11)), none⟩, ⟨(.some 62), (.mv (.t 2)), none⟩, ⟨(.some 63), (.call false 16 [(.t 62)]), none⟩, ⟨(.some 64), (.call true 20 [(.t 61), (.t 63)]), none⟩, ⟨(.some 65), (.una .not (.t 64)), none⟩])
 (.cond (.t 65) (.seq (.reg [⟨(.some 6), (.mv (.c (.lf (.bool false)))), none⟩])
 .ret) .skip))
 (.seq (.reg [⟨(.some 14), (.mv (.c (.lf (.int .i64 1)))), none⟩])
 (.seq (.reg [⟨(.some 66), (.mv (.t 10)), none⟩, ⟨(.some 67), (.mv (.t 14)), none⟩, ⟨(.some 68), (.call false 29 [(.t 66), (.t 67)]), none⟩, ⟨(.some 14), (.mv (.t 68)), none⟩])
 (.seq (.reg [⟨(.some 69), (.mv (.t 11)), none⟩, ⟨(.some 70), (.mv (.t 14)), none⟩, ⟨(.some 71), (.call false 21 [(.t 69), (.t 70)]), none⟩, ⟨(.some 14), (.mv (.t 71)), none⟩])
 (.seq (.seq (.reg [⟨(.some 72), (.mv (.t 14)), none⟩, ⟨(.some 73), (.bin .lss (.t 72) (.c (.lf (.int .i64 0)))), none⟩, ⟨(.some 74), (.mv (.t 73)), none⟩, ⟨(.some 75), (.mv (.t 12)), (.some (74, false))⟩, ⟨(.some 76), (.mv (.t 8)), (.some (74, false))⟩, ⟨(.some 77), (.call true 20 [(.t 75), (.t 76)]), (.some (74, false))⟩, ⟨(.some 78), (.una .not (.t 77)), (.some (74, false))⟩, ⟨(.some 79), (.pick (.t 74) (.c (.lf (.bool true))) (.t 78)), none⟩, ⟨(.some 80), (.mv (.t 79)), none⟩, ⟨(.some 81), (.mv (.t 13)), (.some (80, false))⟩, ⟨(.some 82), (.mv (.t 9)), (.some (80, false))⟩, ⟨(.some 83), (.beq true (.t 81) (.t 82)), (.some (80, false))⟩, ⟨(.some 84), (.pick (.t 80) (.c (.lf (.bool true))) (.t 83)), none⟩])
 (.cond (.t 84) (.seq (.reg [⟨(.some 6), (.mv (.c (.lf (.bool false)))), none⟩])
 .ret) .skip))
 (.seq (.reg [⟨(.some 15), (.mv (.c (.lf (.int .i64 1)))), none⟩])
 (.seq (.reg [⟨(.some 85), (.mv (.t 12)), none⟩, ⟨(.some 86), (.mv (.t 15)), none⟩, ⟨(.some 87), (.call false 21 [(.t 85), (.t 86)]), none⟩, ⟨(.some 15), (.mv (.t 87)), none⟩])
 (.seq (.reg [⟨(.some 16), (.mv (.c (.lf (.int .i64 1)))), none⟩])
 (.seq (.reg [⟨(.some 88), (.mv (.t 12)), none⟩, ⟨(.some 89), (.mv (.t 16)), none⟩, ⟨(.some 90), (.call true 30 [(.t 88), (.t 89)]), none⟩, ⟨(.some 16), (.mv (.t 90)), none⟩])
 (.seq (.seq (.reg [⟨(.some 91), (.mv (.t 16)), none⟩, ⟨(.some 92), (.bin .lss (.t 91) (.c (.lf (.int .i64 0)))), none⟩])
 (.cond (.t 92) (.seq (.reg [⟨(.some 6), (.mv (.c (.lf (.bool false)))), none⟩])
 .ret) .skip))
 (.seq (.seq (.reg [⟨(.some 93), (.mv (.t 16)), none⟩, ⟨(.some 94), (.mv (.t 15)), none⟩, ⟨(.some 95), (.bin .neq (.t 93) (.t 94)), none⟩])
 (.cond (.t 95) (.seq (.reg [⟨(.some 6), (.mv (.c (.lf (.bool false)))), none⟩])
 .ret) .skip))
 (.seq (.reg [⟨(.some 97), (.mv (.t 0)), none⟩, ⟨(.some 98), (.call false 26 [(.t 97)]), none⟩, ⟨(.some 99), (.mv (.t 1)), none⟩, ⟨(.some 100), (.mv (.t 2)), none⟩, ⟨(.some 101), (.call false 16 [(.t 100)]), none⟩, ⟨(.some 102), (.call false 43 [(.t 98), (.t 99), (.t 101)]), none⟩, ⟨(.some 96), (.mv (.t 102)), none⟩, ⟨(.some 103), (.ext (.t 96) 0), none⟩, ⟨(.some 104), (.ext (.t 96) 1), none⟩, ⟨(.some 17), (.mv (.t 103)), none⟩, ⟨(.some 18), (.mv (.t 104)), none⟩])
 (.seq (.seq (.reg [⟨(.some 105), (.mv (.t 17)), none⟩, ⟨(.some 106), (.mv (.t 8)), none⟩, ⟨(.some 107), (.call true 20 [(.t 105), (.t 106)]), none⟩, ⟨(.some 108), (.una .not (.t 107)), none⟩, ⟨(.some 109), (.mv (.t 108)), none⟩, ⟨(.some 110), (.mv (.t 18)), (.some (109, false))⟩, ⟨(.some 111), (.mv (.t 9)), (.some (109, false))⟩, ⟨(.some 112), (.beq true (.t 110) (.t 111)), (.some (109, false))⟩, ⟨(.some 113), (.pick (.t 109) (.c (.lf (.bool true))) (.t 112)), none⟩])
 (.cond (.t 113) (.seq (.reg [⟨(.some 6), (.mv (.c (.lf (.bool false)))), none⟩])
 .ret) .skip))
 (.seq (.reg [⟨(.some 16), (.mv (.c (.lf (.int .i64 1)))), none⟩])
 (.seq (.reg [⟨(.some 114), (.mv (.t 12)), none⟩, ⟨(.some 115), (.mv (.t 16)), none⟩, ⟨(.some 116), (.call true 30 [(.t 114), (.t 115)]), none⟩, ⟨(.some 16), (.mv (.t 116)), none⟩])
 (.seq (.seq (.reg [⟨(.some 117), (.mv (.t 16)), none⟩, ⟨(.some 118), (.bin .lss (.t 117) (.c (.lf (.int .i64 0)))), none⟩])
 (.cond (.t 118) (.seq (.reg [⟨(.some 6), (.mv (.c (.lf (.bool false)))), none⟩])
 .ret) .skip))
 (.seq (.seq (.reg [⟨(.some 119), (.mv (.t 16)), none⟩, ⟨(.some 120), (.mv (.t 15)), none⟩, ⟨(.some 121), (.bin .neq (.t 119) (.t 120)), none⟩])
 (.cond (.t 121) (.seq (.reg [⟨(.some 6), (.mv (.c (.lf (.bool false)))), none⟩])
 .ret) .skip))
 (.seq (.reg [⟨(.some 6), (.mv (.c (.lf (.bool true)))), none⟩])
 .ret))))))))))))))))))))))))))))), [(.tmp 6)]⟩
class HasLApplyLane (S : Sys) : Prop extends HasAl S, HasC S, HasPm S, HasF S where
  f8 : S.fs 8 = some L8
def ptSh : Sh := .cat 1 (.int .i64) (.cat 1 (.flt .f32) .emp)
theorem pt_of {h : Hp} {r : List Lf} (t : Ty h ptSh r) : ∃ p : Pt, r = p.cells ∧ True := by
  obtain ⟨l1, l2, rfl, _, ⟨x, rfl, _⟩, l3, l4, rfl, _, ⟨y, rfl, _, _⟩, rfl⟩ := t
  exact ⟨⟨x, y⟩, rfl, trivial⟩
theorem fl_of {h : Hp} {r : List Lf} (t : Ty h (.flt .f32) r) : ∃ x : Nat, r = fl x ∧ True := by
  obtain ⟨x, rfl, _, _⟩ := t
  exact ⟨x, rfl, trivial⟩
theorem lawApplyLane {S : Sys} [HasLApplyLane S] : LawHolds S 8 [(false, .sl 2 ptSh), (false, .int .i64), (false, .sl 1 (.flt .f32))] := by
  intro h cs hcs
  obtain ⟨c1, _, rfl, ⟨ls1, rfl, l1, rows1, rfl, hAl1, hrows1⟩, c2, _, rfl, ⟨ls2, rfl, f, rfl, _⟩, c3, _, rfl, ⟨ls3, rfl, l3, rows3, rfl, hAl3, hrows3⟩, rfl⟩ := hcs
  obtain ⟨ps, rfl, _⟩ := rows_map (Q := fun _ => True) fun r hr => pt_of (hrows1 r hr)
  obtain ⟨xs, rfl, _⟩ := rows_map (Q := fun _ => True) fun r hr => fl_of (hrows3 r hr)
  clear hrows1 hrows3
  have hlo := applyLane_len (ps := ps) (f := f) (xs := xs)
  refine law_of (F := L8) HasLApplyLane.f8 rfl ?_
  unfold L8
  dsimp only []
  repeat' (first | (simp (disch := first | omega | assumption | (simp only [List.length_set]; omega) | (simp [*] <;> fail) | assumption) [-Bool.decide_and, -Bool.decide_or, -Bool.not_and, -Bool.not_or, toNat_pred, toNat_succ, wrap64, wr_new, wr_new0, ok_if, ok_ifn, iadV_sl, makeV_int, decT, decF, over_at, *, c_szPointS hAl1, hAl3.len]) | (with_reducible refine Gd_split (fun hc => ?_) (fun hc => ?_) <;> (have hc2 := hc; try simp at hc2)) | (with_reducible refine Br_split (fun hc => ?_) (fun hc => ?_) <;> (have hc2 := hc; try simp at hc2)) | (with_reducible refine GdT_split (fun hc => ?_) (fun hc => ?_) <;> (have hc2 := hc; try simp at hc2)) | (with_reducible refine WT_alt ?_ ?_) | omega)
  have hnl3 : xs.length ≤ 16777216 := by omega
  have hnl1 : ps.length ≤ 16777216 := by split at hc2 <;> omega
  refine c_toPointS (hAl1.kept (Kept.refl h)) hnl1 (Kept.refl h).1 fun x0 g1 hx0 => ?_
  have K2 := (Kept.refl h).trans hx0.kept
  have Q2 := hx0.kept.1
  have P2 := K2.1
  have Nx0 := hx0.base (Kept.refl h)
  repeat' (first | (simp (disch := first | omega | assumption | (simp only [List.length_set]; omega) | (simp [*] <;> fail) | assumption) [-Bool.decide_and, -Bool.decide_or, -Bool.not_and, -Bool.not_or, toNat_pred, toNat_succ, wrap64, wr_new, wr_new0, ok_if, ok_ifn, iadV_sl, makeV_int, decT, decF, over_at, *]) | (with_reducible refine Gd_split (fun hc => ?_) (fun hc => ?_) <;> (have hc2 := hc; try simp at hc2)) | (with_reducible refine Br_split (fun hc => ?_) (fun hc => ?_) <;> (have hc2 := hc; try simp at hc2)) | (with_reducible refine GdT_split (fun hc => ?_) (fun hc => ?_) <;> (have hc2 := hc; try simp at hc2)) | (with_reducible refine WT_alt ?_ ?_) | omega)
  refine c_toFloat32S (hAl3.kept K2) hnl3 K2.1 fun x1 g3 hx1 => ?_
  have Fx0x1 : Far x0 x1 := fun q1 q2 => by have := (Nx0.lt q1).2; have := (hx1.lt q2).1; omega
  have K4 := K2.trans hx1.kept
  have Q4 := hx1.kept.1
  have P4 := K4.1
  have Nx1 := hx1.base K2
  replace Nx0 := Nx0.later hx1.kept
  repeat' (first | (simp (disch := first | omega | assumption | (simp only [List.length_set]; omega) | (simp [*] <;> fail) | assumption) [-Bool.decide_and, -Bool.decide_or, -Bool.not_and, -Bool.not_or, toNat_pred, toNat_succ, wrap64, wr_new, wr_new0, ok_if, ok_ifn, iadV_sl, makeV_int, decT, decF, over_at, *]) | (with_reducible refine Gd_split (fun hc => ?_) (fun hc => ?_) <;> (have hc2 := hc; try simp at hc2)) | (with_reducible refine Br_split (fun hc => ?_) (fun hc => ?_) <;> (have hc2 := hc; try simp at hc2)) | (with_reducible refine GdT_split (fun hc => ?_) (fun hc => ?_) <;> (have hc2 := hc; try simp at hc2)) | (with_reducible refine WT_alt ?_ ?_) | omega)
  refine d_specApplyLane Nx0.arr Nx1.arr K4.1 fun s0 g5 hs0  => ?_
  have Fs0x0 : Far s0 x0 := fun q1 q2 => by have := (Nx0.lt q2).2; have := (hs0.lt q1).1; omega
  have Fs0x1 : Far s0 x1 := fun q1 q2 => by have := (Nx1.lt q2).2; have := (hs0.lt q1).1; omega
  have K6 := K4.trans hs0.kept
  have Q6 := hs0.kept.1
  have P6 := K6.1
  have Ns0 := hs0.base K4
  replace Nx0 := Nx0.later hs0.kept
  replace Nx1 := Nx1.later hs0.kept
  repeat' (first | (simp (disch := first | omega | assumption | (simp only [List.length_set]; omega) | (simp [*] <;> fail) | assumption) [-Bool.decide_and, -Bool.decide_or, -Bool.not_and, -Bool.not_or, toNat_pred, toNat_succ, wrap64, wr_new, wr_new0, ok_if, ok_ifn, iadV_sl, makeV_int, decT, decF, over_at, *]) | (with_reducible refine Gd_split (fun hc => ?_) (fun hc => ?_) <;> (have hc2 := hc; try simp at hc2)) | (with_reducible refine Br_split (fun hc => ?_) (fun hc => ?_) <;> (have hc2 := hc; try simp at hc2)) | (with_reducible refine GdT_split (fun hc => ?_) (fun hc => ?_) <;> (have hc2 := hc; try simp at hc2)) | (with_reducible refine WT_alt ?_ ?_) | omega)
  refine c_toPointS (hAl1.kept K6) hnl1 K6.1 fun a0 g7 ha0 => ?_
  have Fa0s0 : Far a0 s0 := fun q1 q2 => by have := (Ns0.lt q2).2; have := (ha0.lt q1).1; omega
  have K8 := K6.trans ha0.kept
  have Q8 := ha0.kept.1
  have P8 := K8.1
  have Na0 := ha0.base K6
  replace Ns0 := Ns0.later ha0.kept
  repeat' (first | (simp (disch := first | omega | assumption | (simp only [List.length_set]; omega) | (simp [*] <;> fail) | assumption) [-Bool.decide_and, -Bool.decide_or, -Bool.not_and, -Bool.not_or, toNat_pred, toNat_succ, wrap64, wr_new, wr_new0, ok_if, ok_ifn, iadV_sl, makeV_int, decT, decF, over_at, *]) | (with_reducible refine Gd_split (fun hc => ?_) (fun hc => ?_) <;> (have hc2 := hc; try simp at hc2)) | (with_reducible refine Br_split (fun hc => ?_) (fun hc => ?_) <;> (have hc2 := hc; try simp at hc2)) | (with_reducible refine GdT_split (fun hc => ?_) (fun hc => ?_) <;> (have hc2 := hc; try simp at hc2)) | (with_reducible refine WT_alt ?_ ?_) | omega)
  refine c_toFloat32S (hAl3.kept K8) hnl3 K8.1 fun a1 g9 ha1 => ?_
  have Fa1s0 : Far a1 s0 := fun q1 q2 => by have := (Ns0.lt q2).2; have := (ha1.lt q1).1; omega
  have Fa0a1 : Far a0 a1 := fun q1 q2 => by have := (Na0.lt q1).2; have := (ha1.lt q2).1; omega
  have K10 := K8.trans ha1.kept
  have Q10 := ha1.kept.1
  have P10 := K10.1
  have Na1 := ha1.base K8
  replace Ns0 := Ns0.later ha1.kept
  replace Na0 := Na0.later ha1.kept
  repeat' (first | (simp (disch := first | omega | assumption | (simp only [List.length_set]; omega) | (simp [*] <;> fail) | assumption) [-Bool.decide_and, -Bool.decide_or, -Bool.not_and, -Bool.not_or, toNat_pred, toNat_succ, wrap64, wr_new, wr_new0, ok_if, ok_ifn, iadV_sl, makeV_int, decT, decF, over_at, *]) | (with_reducible refine Gd_split (fun hc => ?_) (fun hc => ?_) <;> (have hc2 := hc; try simp at hc2)) | (with_reducible refine Br_split (fun hc => ?_) (fun hc => ?_) <;> (have hc2 := hc; try simp at hc2)) | (with_reducible refine GdT_split (fun hc => ?_) (fun hc => ?_) <;> (have hc2 := hc; try simp at hc2)) | (with_reducible refine WT_alt ?_ ?_) | omega)
  refine d_implApplyLane Na0.arr Na1.arr K10.1 fun r0 g11 hr0  => ?_
  have Fr0s0 : Far r0 s0 := fun q1 q2 => by have := (Ns0.lt q2).2; have := (hr0.lt q1).1; omega
  have Fa0r0 : Far a0 r0 := fun q1 q2 => by have := (Na0.lt q1).2; have := (hr0.lt q2).1; omega
  have Fa1r0 : Far a1 r0 := fun q1 q2 => by have := (Na1.lt q1).2; have := (hr0.lt q2).1; omega
  have K12 := K10.trans hr0.kept
  have Q12 := hr0.kept.1
  have P12 := K12.1
  have Nr0 := hr0.base K10
  replace Ns0 := Ns0.later hr0.kept
  replace Na0 := Na0.later hr0.kept
  replace Na1 := Na1.later hr0.kept
  repeat' (first | (simp (disch := first | omega | assumption | (simp only [List.length_set]; omega) | (simp [*] <;> fail) | assumption) [-Bool.decide_and, -Bool.decide_or, -Bool.not_and, -Bool.not_or, toNat_pred, toNat_succ, wrap64, wr_new, wr_new0, ok_if, ok_ifn, iadV_sl, makeV_int, decT, decF, over_at, *, c_eqFloat32S Nr0.arr Ns0.arr]) | (with_reducible refine Gd_split (fun hc => ?_) (fun hc => ?_) <;> (have hc2 := hc; try simp at hc2)) | (with_reducible refine Br_split (fun hc => ?_) (fun hc => ?_) <;> (have hc2 := hc; try simp at hc2)) | (with_reducible refine GdT_split (fun hc => ?_) (fun hc => ?_) <;> (have hc2 := hc; try simp at hc2)) | (with_reducible refine WT_alt ?_ ?_) | omega)
  refine c_toPointS (hAl1.kept K12) hnl1 K12.1 fun y0 g13 hy0 => ?_
  have Fs0y0 : Far s0 y0 := fun q1 q2 => by have := (Ns0.lt q1).2; have := (hy0.lt q2).1; omega
  have Fa0y0 : Far a0 y0 := fun q1 q2 => by have := (Na0.lt q1).2; have := (hy0.lt q2).1; omega
  have Fa1y0 : Far a1 y0 := fun q1 q2 => by have := (Na1.lt q1).2; have := (hy0.lt q2).1; omega
  have Fr0y0 : Far r0 y0 := fun q1 q2 => by have := (Nr0.lt q1).2; have := (hy0.lt q2).1; omega
  have K14 := K12.trans hy0.kept
  have Q14 := hy0.kept.1
  have P14 := K14.1
  have Ny0 := hy0.base K12
  replace Ns0 := Ns0.later hy0.kept
  replace Na0 := Na0.later hy0.kept
  replace Na1 := Na1.later hy0.kept
  replace Nr0 := Nr0.later hy0.kept
  repeat' (first | (simp (disch := first | omega | assumption | (simp only [List.length_set]; omega) | (simp [*] <;> fail) | assumption) [-Bool.decide_and, -Bool.decide_or, -Bool.not_and, -Bool.not_or, toNat_pred, toNat_succ, wrap64, wr_new, wr_new0, ok_if, ok_ifn, iadV_sl, makeV_int, decT, decF, over_at, *, c_eqPointS Na0.arr Ny0.arr]) | (with_reducible refine Gd_split (fun hc => ?_) (fun hc => ?_) <;> (have hc2 := hc; try simp at hc2)) | (with_reducible refine Br_split (fun hc => ?_) (fun hc => ?_) <;> (have hc2 := hc; try simp at hc2)) | (with_reducible refine GdT_split (fun hc => ?_) (fun hc => ?_) <;> (have hc2 := hc; try simp at hc2)) | (with_reducible refine WT_alt ?_ ?_) | omega)
  refine c_toFloat32S (hAl3.kept K14) hnl3 K14.1 fun y1 g15 hy1 => ?_
  have Fs0y1 : Far s0 y1 := fun q1 q2 => by have := (Ns0.lt q1).2; have := (hy1.lt q2).1; omega
  have Fa0y1 : Far a0 y1 := fun q1 q2 => by have := (Na0.lt q1).2; have := (hy1.lt q2).1; omega
  have Fa1y1 : Far a1 y1 := fun q1 q2 => by have := (Na1.lt q1).2; have := (hy1.lt q2).1; omega
  have Fr0y1 : Far r0 y1 := fun q1 q2 => by have := (Nr0.lt q1).2; have := (hy1.lt q2).1; omega
  have K16 := K14.trans hy1.kept
  have Q16 := hy1.kept.1
  have P16 := K16.1
  have Ny1 := hy1.base K14
  replace Ns0 := Ns0.later hy1.kept
  replace Na0 := Na0.later hy1.kept
  replace Na1 := Na1.later hy1.kept
  replace Nr0 := Nr0.later hy1.kept
  repeat' (first | (simp (disch := first | omega | assumption | (simp only [List.length_set]; omega) | (simp [*] <;> fail) | assumption) [-Bool.decide_and, -Bool.decide_or, -Bool.not_and, -Bool.not_or, toNat_pred, toNat_succ, wrap64, wr_new, wr_new0, ok_if, ok_ifn, iadV_sl, makeV_int, decT, decF, over_at, *, c_eqFloat32S Na1.arr Ny1.arr]) | (with_reducible refine Gd_split (fun hc => ?_) (fun hc => ?_) <;> (have hc2 := hc; try simp at hc2)) | (with_reducible refine Br_split (fun hc => ?_) (fun hc => ?_) <;> (have hc2 := hc; try simp at hc2)) | (with_reducible refine GdT_split (fun hc => ?_) (fun hc => ?_) <;> (have hc2 := hc; try simp at hc2)) | (with_reducible refine WT_alt ?_ ?_) | omega)
  refine c_markPointS Na0 (by simp; omega) (by omega) (by omega) (Nat.le_refl _) fun g17 hB17 => ?_
  have Q17 := hB17.len
  have K17 := hB17.kept K16 (fun hn => (Na0.lt hn).1)
  replace Ns0 := hB17.new Ns0 (fun hn => (Na0.lt hn).1) (fun q1 q2 => Fa0s0.symm q2 q1)
  replace Na1 := hB17.new Na1 (fun hn => (Na0.lt hn).1) (fun q1 q2 => Fa0a1.symm q2 q1)
  replace Nr0 := hB17.new Nr0 (fun hn => (Na0.lt hn).1) (fun q1 q2 => Fa0r0.symm q2 q1)
  repeat' (first | (simp (disch := first | omega | assumption | (simp only [List.length_set]; omega) | (simp [*] <;> fail) | assumption) [-Bool.decide_and, -Bool.decide_or, -Bool.not_and, -Bool.not_or, toNat_pred, toNat_succ, wrap64, wr_new, wr_new0, ok_if, ok_ifn, iadV_sl, makeV_int, decT, decF, over_at, *]) | (with_reducible refine Gd_split (fun hc => ?_) (fun hc => ?_) <;> (have hc2 := hc; try simp at hc2)) | (with_reducible refine Br_split (fun hc => ?_) (fun hc => ?_) <;> (have hc2 := hc; try simp at hc2)) | (with_reducible refine GdT_split (fun hc => ?_) (fun hc => ?_) <;> (have hc2 := hc; try simp at hc2)) | (with_reducible refine WT_alt ?_ ?_) | omega)
  refine c_markFloat32S Na1 (by simp; omega) (by omega) (by omega) (Nat.le_refl _) fun g18 hM18 hB18 => ?_
  have Q18 := hB18.len
  have K18 := hB18.kept K17 (fun hn => (Na1.lt hn).1)
  replace Ns0 := hB18.new Ns0 (fun hn => (Na1.lt hn).1) (fun q1 q2 => Fa1s0.symm q2 q1)
  replace Nr0 := hB18.new Nr0 (fun hn => (Na1.lt hn).1) (fun q1 q2 => Fa1r0.symm q2 q1)
  simp only [List.length_map] at hM18
  replace Na1 := hM18
  repeat' (first | (simp (disch := first | omega | assumption | (simp only [List.length_set]; omega) | (simp [*] <;> fail) | assumption) [-Bool.decide_and, -Bool.decide_or, -Bool.not_and, -Bool.not_or, toNat_pred, toNat_succ, wrap64, wr_new, wr_new0, ok_if, ok_ifn, iadV_sl, makeV_int, decT, decF, over_at, *, c_eqFloat32S Nr0.arr Ns0.arr]) | (with_reducible refine Gd_split (fun hc => ?_) (fun hc => ?_) <;> (have hc2 := hc; try simp at hc2)) | (with_reducible refine Br_split (fun hc => ?_) (fun hc => ?_) <;> (have hc2 := hc; try simp at hc2)) | (with_reducible refine GdT_split (fun hc => ?_) (fun hc => ?_) <;> (have hc2 := hc; try simp at hc2)) | (with_reducible refine WT_alt ?_ ?_) | omega)
  refine c_markFloat32S Nr0 (by simp; omega) (by omega) (by omega) (Nat.le_refl _) fun g19 hM19 hB19 => ?_
  have Q19 := hB19.len
  have K19 := hB19.kept K18 (fun hn => (Nr0.lt hn).1)
  replace Ns0 := hB19.new Ns0 (fun hn => (Nr0.lt hn).1) (fun q1 q2 => Fr0s0.symm q2 q1)
  simp only [List.length_map] at hM19
  replace Nr0 := hM19
  repeat' (first | (simp (disch := first | omega | assumption | (simp only [List.length_set]; omega) | (simp [*] <;> fail) | assumption) [-Bool.decide_and, -Bool.decide_or, -Bool.not_and, -Bool.not_or, toNat_pred, toNat_succ, wrap64, wr_new, wr_new0, ok_if, ok_ifn, iadV_sl, makeV_int, decT, decF, over_at, *, c_heldFloat32S Nr0.arr]) | (with_reducible refine Gd_split (fun hc => ?_) (fun hc => ?_) <;> (have hc2 := hc; try simp at hc2)) | (with_reducible refine Br_split (fun hc => ?_) (fun hc => ?_) <;> (have hc2 := hc; try simp at hc2)) | (with_reducible refine GdT_split (fun hc => ?_) (fun hc => ?_) <;> (have hc2 := hc; try simp at hc2)) | (with_reducible refine WT_alt ?_ ?_) | omega)
  refine c_toPointS (hAl1.kept K19) hnl1 K19.1 fun w0 g20 hw0 => ?_
  have Fs0w0 : Far s0 w0 := fun q1 q2 => by have := (Ns0.lt q1).2; have := (hw0.lt q2).1; omega
  have Fr0w0 : Far r0 w0 := fun q1 q2 => by have := (Nr0.lt q1).2; have := (hw0.lt q2).1; omega
  have K21 := K19.trans hw0.kept
  have Q21 := hw0.kept.1
  have P21 := K21.1
  have Nw0 := hw0.base K19
  replace Ns0 := Ns0.later hw0.kept
  replace Nr0 := Nr0.later hw0.kept
  repeat' (first | (simp (disch := first | omega | assumption | (simp only [List.length_set]; omega) | (simp [*] <;> fail) | assumption) [-Bool.decide_and, -Bool.decide_or, -Bool.not_and, -Bool.not_or, toNat_pred, toNat_succ, wrap64, wr_new, wr_new0, ok_if, ok_ifn, iadV_sl, makeV_int, decT, decF, over_at, *]) | (with_reducible refine Gd_split (fun hc => ?_) (fun hc => ?_) <;> (have hc2 := hc; try simp at hc2)) | (with_reducible refine Br_split (fun hc => ?_) (fun hc => ?_) <;> (have hc2 := hc; try simp at hc2)) | (with_reducible refine GdT_split (fun hc => ?_) (fun hc => ?_) <;> (have hc2 := hc; try simp at hc2)) | (with_reducible refine WT_alt ?_ ?_) | omega)
  refine c_toFloat32S (hAl3.kept K21) hnl3 K21.1 fun w1 g22 hw1 => ?_
  have Fs0w1 : Far s0 w1 := fun q1 q2 => by have := (Ns0.lt q1).2; have := (hw1.lt q2).1; omega
  have Fr0w1 : Far r0 w1 := fun q1 q2 => by have := (Nr0.lt q1).2; have := (hw1.lt q2).1; omega
  have Fw0w1 : Far w0 w1 := fun q1 q2 => by have := (Nw0.lt q1).2; have := (hw1.lt q2).1; omega
  have K23 := K21.trans hw1.kept
  have Q23 := hw1.kept.1
  have P23 := K23.1
  have Nw1 := hw1.base K21
  replace Ns0 := Ns0.later hw1.kept
  replace Nr0 := Nr0.later hw1.kept
  replace Nw0 := Nw0.later hw1.kept
  repeat' (first | (simp (disch := first | omega | assumption | (simp only [List.length_set]; omega) | (simp [*] <;> fail) | assumption) [-Bool.decide_and, -Bool.decide_or, -Bool.not_and, -Bool.not_or, toNat_pred, toNat_succ, wrap64, wr_new, wr_new0, ok_if, ok_ifn, iadV_sl, makeV_int, decT, decF, over_at, *]) | (with_reducible refine Gd_split (fun hc => ?_) (fun hc => ?_) <;> (have hc2 := hc; try simp at hc2)) | (with_reducible refine Br_split (fun hc => ?_) (fun hc => ?_) <;> (have hc2 := hc; try simp at hc2)) | (with_reducible refine GdT_split (fun hc => ?_) (fun hc => ?_) <;> (have hc2 := hc; try simp at hc2)) | (with_reducible refine WT_alt ?_ ?_) | omega)
  refine d_implApplyLane Nw0.arr Nw1.arr K23.1 fun u0 g24 hu0  => ?_
  have Fs0u0 : Far s0 u0 := fun q1 q2 => by have := (Ns0.lt q1).2; have := (hu0.lt q2).1; omega
  have Fr0u0 : Far r0 u0 := fun q1 q2 => by have := (Nr0.lt q1).2; have := (hu0.lt q2).1; omega
  have Fu0w0 : Far u0 w0 := fun q1 q2 => by have := (Nw0.lt q2).2; have := (hu0.lt q1).1; omega
  have Fu0w1 : Far u0 w1 := fun q1 q2 => by have := (Nw1.lt q2).2; have := (hu0.lt q1).1; omega
  have K25 := K23.trans hu0.kept
  have Q25 := hu0.kept.1
  have P25 := K25.1
  have Nu0 := hu0.base K23
  replace Ns0 := Ns0.later hu0.kept
  replace Nr0 := Nr0.later hu0.kept
  replace Nw0 := Nw0.later hu0.kept
  replace Nw1 := Nw1.later hu0.kept
  repeat' (first | (simp (disch := first | omega | assumption | (simp only [List.length_set]; omega) | (simp [*] <;> fail) | assumption) [-Bool.decide_and, -Bool.decide_or, -Bool.not_and, -Bool.not_or, toNat_pred, toNat_succ, wrap64, wr_new, wr_new0, ok_if, ok_ifn, iadV_sl, makeV_int, decT, decF, over_at, *, c_eqFloat32S Nu0.arr Ns0.arr, c_heldFloat32S Nr0.arr]) | (with_reducible refine Gd_split (fun hc => ?_) (fun hc => ?_) <;> (have hc2 := hc; try simp at hc2)) | (with_reducible refine Br_split (fun hc => ?_) (fun hc => ?_) <;> (have hc2 := hc; try simp at hc2)) | (with_reducible refine GdT_split (fun hc => ?_) (fun hc => ?_) <;> (have hc2 := hc; try simp at hc2)) | (with_reducible refine WT_alt ?_ ?_) | omega)
end Go.E
namespace Go.E.ApplyLane
open Go Go.E
def pure : FuncId → Bool := fun f => List.elem f [3, 4, 5, 6, 7, 8, 9, 10, 11, 12, 13, 14, 19, 20, 23, 24, 28, 30, 31, 32, 33, 34, 35, 37, 38, 40, 44, 48, 50, 51, 54, 55, 57, 58, 59, 60, 61, 62, 63, 64, 66, 69, 71, 72, 73, 74, 75, 76, 77, 78, 79, 80, 81, 82, 83, 84, 85, 86, 87, 88, 89, 90, 91, 92, 93, 94, 95, 96, 97, 99, 100, 101, 103, 106, 107, 108, 110, 111, 112, 113, 114, 115, 116, 117, 122, 123, 124, 125, 126, 128, 129, 131, 132, 133, 134, 135, 136, 137, 138, 139, 140, 141, 142, 143, 144, 146, 147, 148, 149, 150, 151, 152, 153, 154, 155, 156, 157, 158, 159, 160, 161, 162, 163, 164, 165, 166, 167, 168, 169, 170, 171, 172, 173, 174, 175, 176, 177, 178, 179, 180, 181, 182, 183, 184, 185, 186, 187, 188, 189, 190, 191, 192, 193, 195, 197, 199, 206, 208, 209, 210]
def funs : List (Nat × LFn) := [(73, L73), (86, L86), (106, L106), (133, L133), (81, L81), (85, L85), (134, L134), (83, L83), (88, L88), (25, L25), (27, L27), (82, L82), (87, L87), (42, L42), (43, L43), (33, L33), (24, L24), (26, L26), (28, L28), (84, L84), (89, L89), (29, L29), (16, L16), (20, L20), (21, L21), (30, L30), (8, L8)]
def Sy : Sys := sysOf funs
theorem lfn73 : lFn Go.Proofs.Try.prog pure Go.Proofs.Try.f73 = some L73 := by kernel_rfl
theorem lfn86 : lFn Go.Proofs.Try.prog pure Go.Proofs.Try.f86 = some L86 := by kernel_rfl
theorem lfn106 : lFn Go.Proofs.Try.prog pure Go.Proofs.Try.f106 = some L106 := by kernel_rfl
theorem lfn133 : lFn Go.Proofs.Try.prog pure Go.Proofs.Try.f133 = some L133 := by kernel_rfl
theorem lfn81 : lFn Go.Proofs.Try.prog pure Go.Proofs.Try.f81 = some L81 := by kernel_rfl
theorem lfn85 : lFn Go.Proofs.Try.prog pure Go.Proofs.Try.f85 = some L85 := by kernel_rfl
theorem lfn134 : lFn Go.Proofs.Try.prog pure Go.Proofs.Try.f134 = some L134 := by kernel_rfl
theorem lfn83 : lFn Go.Proofs.Try.prog pure Go.Proofs.Try.f83 = some L83 := by kernel_rfl
theorem lfn88 : lFn Go.Proofs.Try.prog pure Go.Proofs.Try.f88 = some L88 := by kernel_rfl
theorem lfn25 : lFn Go.Proofs.Try.prog pure Go.Proofs.Try.f25 = some L25 := by kernel_rfl
theorem lfn27 : lFn Go.Proofs.Try.prog pure Go.Proofs.Try.f27 = some L27 := by kernel_rfl
theorem lfn82 : lFn Go.Proofs.Try.prog pure Go.Proofs.Try.f82 = some L82 := by kernel_rfl
theorem lfn87 : lFn Go.Proofs.Try.prog pure Go.Proofs.Try.f87 = some L87 := by kernel_rfl
theorem lfn42 : lFn Go.Proofs.Try.prog pure Go.Proofs.Try.f42 = some L42 := by kernel_rfl
theorem lfn43 : lFn Go.Proofs.Try.prog pure Go.Proofs.Try.f43 = some L43 := by kernel_rfl
theorem lfn33 : lFn Go.Proofs.Try.prog pure Go.Proofs.Try.f33 = some L33 := by kernel_rfl
theorem lfn24 : lFn Go.Proofs.Try.prog pure Go.Proofs.Try.f24 = some L24 := by kernel_rfl
theorem lfn26 : lFn Go.Proofs.Try.prog pure Go.Proofs.Try.f26 = some L26 := by kernel_rfl
theorem lfn28 : lFn Go.Proofs.Try.prog pure Go.Proofs.Try.f28 = some L28 := by kernel_rfl
theorem lfn84 : lFn Go.Proofs.Try.prog pure Go.Proofs.Try.f84 = some L84 := by kernel_rfl
theorem lfn89 : lFn Go.Proofs.Try.prog pure Go.Proofs.Try.f89 = some L89 := by kernel_rfl
theorem lfn29 : lFn Go.Proofs.Try.prog pure Go.Proofs.Try.f29 = some L29 := by kernel_rfl
theorem lfn16 : lFn Go.Proofs.Try.prog pure Go.Proofs.Try.f16 = some L16 := by kernel_rfl
theorem lfn20 : lFn Go.Proofs.Try.prog pure Go.Proofs.Try.f20 = some L20 := by kernel_rfl
theorem lfn21 : lFn Go.Proofs.Try.prog pure Go.Proofs.Try.f21 = some L21 := by kernel_rfl
theorem lfn30 : lFn Go.Proofs.Try.prog pure Go.Proofs.Try.f30 = some L30 := by kernel_rfl
theorem lfn8 : lFn Go.Proofs.Try.prog pure Go.Proofs.Try.f8 = some L8 := by kernel_rfl
instance : HasA Sy := { f73 := rfl, f86 := rfl, f106 := rfl, f133 := rfl }
instance : HasB Sy := { f81 := rfl, f85 := rfl }
instance : HasShr Sy := { f134 := rfl }
instance : HasLa Sy := { f83 := rfl, f88 := rfl }
instance : HasRl Sy := { f25 := rfl, f27 := rfl, f82 := rfl, f87 := rfl }
instance : HasAl Sy := { f42 := rfl, f43 := rfl }
instance : HasSame Sy := { f33 := rfl }
instance : HasC Sy := { f24 := rfl, f26 := rfl, f28 := rfl, f84 := rfl, f89 := rfl }
instance : HasPm Sy := { f29 := rfl }
instance : HasF Sy := { f16 := rfl, f20 := rfl, f21 := rfl, f30 := rfl }
instance : HasLApplyLane Sy := { f8 := rfl }
theorem sysOK {B : Nat} {w0 : World} : SysOK Go.Proofs.Try.prog pure Sy B w0 := SysOK.of (by
  intro p hp
  simp only [funs, List.mem_cons, List.not_mem_nil, or_false] at hp
  rcases hp with rfl | rfl | rfl | rfl | rfl | rfl | rfl | rfl | rfl | rfl | rfl | rfl | rfl | rfl | rfl | rfl | rfl | rfl | rfl | rfl | rfl | rfl | rfl | rfl | rfl | rfl | rfl
  · exact ⟨_, Go.Proofs.Try.func73, lfn73⟩
  · exact ⟨_, Go.Proofs.Try.func86, lfn86⟩
  · exact ⟨_, Go.Proofs.Try.func106, lfn106⟩
  · exact ⟨_, Go.Proofs.Try.func133, lfn133⟩
  · exact ⟨_, Go.Proofs.Try.func81, lfn81⟩
  · exact ⟨_, Go.Proofs.Try.func85, lfn85⟩
  · exact ⟨_, Go.Proofs.Try.func134, lfn134⟩
  · exact ⟨_, Go.Proofs.Try.func83, lfn83⟩
  · exact ⟨_, Go.Proofs.Try.func88, lfn88⟩
  · exact ⟨_, Go.Proofs.Try.func25, lfn25⟩
  · exact ⟨_, Go.Proofs.Try.func27, lfn27⟩
  · exact ⟨_, Go.Proofs.Try.func82, lfn82⟩
  · exact ⟨_, Go.Proofs.Try.func87, lfn87⟩
  · exact ⟨_, Go.Proofs.Try.func42, lfn42⟩
  · exact ⟨_, Go.Proofs.Try.func43, lfn43⟩
  · exact ⟨_, Go.Proofs.Try.func33, lfn33⟩
  · exact ⟨_, Go.Proofs.Try.func24, lfn24⟩
  · exact ⟨_, Go.Proofs.Try.func26, lfn26⟩
  · exact ⟨_, Go.Proofs.Try.func28, lfn28⟩
  · exact ⟨_, Go.Proofs.Try.func84, lfn84⟩
  · exact ⟨_, Go.Proofs.Try.func89, lfn89⟩
  · exact ⟨_, Go.Proofs.Try.func29, lfn29⟩
  · exact ⟨_, Go.Proofs.Try.func16, lfn16⟩
  · exact ⟨_, Go.Proofs.Try.func20, lfn20⟩
  · exact ⟨_, Go.Proofs.Try.func21, lfn21⟩
  · exact ⟨_, Go.Proofs.Try.func30, lfn30⟩
  · exact ⟨_, Go.Proofs.Try.func8, lfn8⟩)

end Go.E.ApplyLane
