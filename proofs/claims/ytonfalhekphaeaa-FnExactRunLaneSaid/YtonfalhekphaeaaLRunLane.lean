/- The law of RunLane: what the evaluator finds. -/
import Derived.Test.YtonfalhekphaeaaMRl
import Derived.Test.YtonfalhekphaeaaMPm
import Derived.Test.YtonfalhekphaeaaEE
import Derived.Test.YtonfalhekphaeaaProg
set_option linter.unusedVariables false
set_option linter.unusedSimpArgs false
namespace Go.E
open Go
def L4 : LFn := ⟨3, (.seq (.reg [⟨(.some 6), (.mv (.c (.lf (.bool false)))), none⟩])
 (.seq (.reg [⟨(.some 7), (.mv (.c (.lf (.int .i64 1048576)))), none⟩])
 (.seq (.reg [⟨(.some 18), (.mv (.t 0)), none⟩, ⟨(.some 19), (.mv (.t 7)), none⟩, ⟨(.some 20), (.call true 24 [(.t 18), (.t 19)]), none⟩, ⟨(.some 7), (.mv (.t 20)), none⟩])
 (.seq (.seq (.reg [⟨(.some 21), (.mv (.t 7)), none⟩, ⟨(.some 22), (.bin .lss (.t 21) (.c (.lf (.int .i64 0)))), none⟩])
 (.cond (.t 22) (.seq (.reg [⟨(.some 6), (.mv (.c (.lf (.bool true)))), none⟩])
 .ret) .skip))
 (.seq (.reg [⟨(.some 24), (.mv (.t 0)), none⟩, ⟨(.some 25), (.call false 26 [(.t 24)]), none⟩, ⟨(.some 26), (.mv (.t 1)), none⟩, ⟨(.some 27), (.mv (.t 2)), none⟩, ⟨(.some 28), (.call false 25 [(.t 25), (.t 26), (.t 27)]), none⟩, ⟨(.some 23), (.mv (.t 28)), none⟩, ⟨(.some 29), (.ext (.t 23) 0), none⟩, ⟨(.some 30), (.ext (.t 23) 1), none⟩, ⟨(.some 8), (.mv (.t 29)), none⟩, ⟨(.some 9), (.mv (.t 30)), none⟩])
 (.seq (.reg [⟨(.some 31), (.mv (.t 0)), none⟩, ⟨(.some 32), (.call false 26 [(.t 31)]), none⟩, ⟨(.some 10), (.mv (.t 32)), none⟩])
 (.seq (.reg [⟨(.some 34), (.mv (.t 10)), none⟩, ⟨(.some 35), (.mv (.t 1)), none⟩, ⟨(.some 36), (.mv (.t 2)), none⟩, ⟨(.some 37), (.call false 27 [(.t 34), (.t 35), (.t 36)]), none⟩, ⟨(.some 33), (.mv (.t 37)), none⟩, ⟨(.some 38), (.ext (.t 33) 0), none⟩, ⟨(.some 39), (.ext (.t 33) 1), none⟩, ⟨(.some 11), (.mv (.t 38)), none⟩, ⟨(.some 12), (.mv (.t 39)), none⟩])
 (.seq (.seq (.reg [⟨(.some 40), (.mv (.t 11)), none⟩, ⟨(.some 41), (.mv (.t 8)), none⟩, ⟨(.some 42), (.call true 20 [(.t 40), (.t 41)]), none⟩, ⟨(.some 43), (.una .not (.t 42)), none⟩, ⟨(.some 44), (.mv (.t 43)), none⟩, ⟨(.some 45), (.mv (.t 12)), (.some (44, false))⟩, ⟨(.some 46), (.mv (.t 9)), (.some (44, false))⟩, ⟨(.some 47), (.beq true (.t 45) (.t 46)), (.some (44, false))⟩, ⟨(.some 48), (.pick (.t 44) (.c (.lf (.bool true))) (.t 47)), none⟩])
 (.cond (.t 48) (.seq (.reg [⟨(.some 6), (.mv (.c (.lf (.bool false)))), none⟩])
 .ret) .skip))
 (.seq (.seq (.reg [⟨(.some 49), (.mv (.t 10)), none⟩, ⟨(.some 50), (.mv (.t 0)), none⟩, ⟨(.some 51), (.call false 26 [(.t 50)]), none⟩, ⟨(.some 52), (.call true 28 [(.t 49), (.t 51)]), none⟩, ⟨(.some 53), (.una .not (.t 52)), none⟩])
 (.cond (.t 53) (.seq (.reg [⟨(.some 6), (.mv (.c (.lf (.bool false)))), none⟩])
 .ret) .skip))
 (.seq (.reg [⟨(.some 13), (.mv (.c (.lf (.int .i64 1)))), none⟩])
 (.seq (.reg [⟨(.some 54), (.mv (.t 10)), none⟩, ⟨(.some 55), (.mv (.t 13)), none⟩, ⟨(.some 56), (.call false 29 [(.t 54), (.t 55)]), none⟩, ⟨(.some 13), (.mv (.t 56)), none⟩])
 (.seq (.seq (.reg [⟨(.some 57), (.mv (.t 13)), none⟩, ⟨(.some 58), (.bin .lss (.t 57) (.c (.lf (.int .i64 0)))), none⟩, ⟨(.some 59), (.mv (.t 58)), none⟩, ⟨(.some 60), (.mv (.t 11)), (.some (59, false))⟩, ⟨(.some 61), (.mv (.t 8)), (.some (59, false))⟩, ⟨(.some 62), (.call true 20 [(.t 60), (.t 61)]), (.some (59, false))⟩, ⟨(.some 63), (.una .not (.t 62)), (.some (59, false))⟩, ⟨(.some 64), (.pick (.t 59) (.c (.lf (.bool true))) (.t 63)), none⟩, ⟨(.some 65), (.mv (.t 64)), none⟩, ⟨(.some 66), (.mv (.t 12)), (.some (65, false))⟩, ⟨(.some 67), (.mv (.t 9)), (.some (65, false))⟩, ⟨(.some 68), (.beq true (.t 66) (.t 67)), (.some (65, false))⟩, ⟨(.some 69), (.pick (.t 65) (.c (.lf (.bool true))) (.t 68)), none⟩])
 (.cond (.t 69) (.seq (.reg [⟨(.some 6), (.mv (.c (.lf (.bool false)))), none⟩])
 .ret) .skip))
 (.seq (.reg [⟨(.some 14), (.mv (.c (.lf (.int .i64 1)))), none⟩])
 (.seq (.reg [⟨(.some 70), (.mv (.t 11)), none⟩, ⟨(.some 71), (.mv (.t 14)), none⟩, ⟨(.some 72), (.call false 21 [(.t 70), (.t 71)]), none⟩, ⟨(.some 14), (.mv (.t 72)), none⟩])
 (.seq (.reg [⟨(.some 15), (.mv (.c (.lf (.int .i64 1)))), none⟩])
 (.seq (.reg [⟨(.some 73), (.mv (.t 11)), none⟩, ⟨(.some 74), (.mv (.t 15)), none⟩, ⟨(.some 75), (.call true 30 [(.t 73), (.t 74)]), none⟩, ⟨(.some 15), (.mv (.t 75)), none⟩])
 (.seq (.seq (.reg [⟨(.some 76), (.mv (.t 15)), none⟩, ⟨(.some 77), (.bin .lss (.t 76) (.c (.lf (.int .i64 0)))), none⟩])
 (.cond (.t 77) (.seq (.reg [⟨(.some 6), (.mv (.c (.lf (.bool false)))), none⟩])
 .ret) .skip))
 (.seq (.seq (.reg [⟨(.some 78), (.mv (.t 15)), none⟩, ⟨(.some 79), (.mv (.t 14)), none⟩, ⟨(.some 80), (.bin .neq (.t 78) (.t 79)), none⟩])
 (.cond (.t 80) (.seq (.reg [⟨(.some 6), (.mv (.c (.lf (.bool false)))), none⟩])
 .ret) .skip))
 (.seq (.reg [⟨(.some 82), (.mv (.t 0)), none⟩, ⟨(.some 83), (.call false 26 [(.t 82)]), none⟩, ⟨(.some 84), (.mv (.t 1)), none⟩, ⟨(.some 85), (.mv (.t 2)), none⟩, ⟨(.some 86), (.call false 27 [(.t 83), (.t 84), (.t 85)]), none⟩, ⟨(.some 81), (.mv (.t 86)), none⟩, ⟨(.some 87), (.ext (.t 81) 0), none⟩, ⟨(.some 88), (.ext (.t 81) 1), none⟩, ⟨(.some 16), (.mv (.t 87)), none⟩, ⟨(.some 17), (.mv (.t 88)), none⟩])
 (.seq (.seq (.reg [⟨(.some 89), (.mv (.t 16)), none⟩, ⟨(.some 90), (.mv (.t 8)), none⟩, ⟨(.some 91), (.call true 20 [(.t 89), (.t 90)]), none⟩, ⟨(.some 92), (.una .not (.t 91)), none⟩, ⟨(.some 93), (.mv (.t 92)), none⟩, ⟨(.some 94), (.mv (.t 17)), (.some (93, false))⟩, ⟨(.some 95), (.mv (.t 9)), (.some (93, false))⟩, ⟨(.some 96), (.beq true (.t 94) (.t 95)), (.some (93, false))⟩, ⟨(.some 97), (.pick (.t 93) (.c (.lf (.bool true))) (.t 96)), none⟩])
 (.cond (.t 97) (.seq (.reg [⟨(.some 6), (.mv (.c (.lf (.bool false)))), none⟩])
 .ret) .skip))
 (.seq (.reg [⟨(.some 15), (.mv (.c (.lf (.int .i64 1)))), none⟩])
 (.seq (.reg [⟨(.some 98), (.mv (.t 11)), none⟩, ⟨(.some 99), (.mv (.t 15)), none⟩, ⟨(.some 100), (.call true 30 [(.t 98), (.t 99)]), none⟩, ⟨(.some 15), (.mv (.t 100)), none⟩])
 (.seq (.seq (.reg [⟨(.some 101), (.mv (.t 15)), none⟩, ⟨(.some 102), (.bin .lss (.t 101) (.c (.lf (.int .i64 0)))), none⟩])
 (.cond (.t 102) (.seq (.reg [⟨(.some 6), (.mv (.c (.lf (.bool false)))), none⟩])
 .ret) .skip))
 (.seq (.seq (.reg [⟨(.some 103), (.mv (.t 15)), none⟩, ⟨(.some 104), (.mv (.t 14)), none⟩, ⟨(.some 105), (.bin .neq (.t 103) (.t 104)), none⟩])
 (.cond (.t 105) (.seq (.reg [⟨(.some 6), (.mv (.c (.lf (.bool false)))), none⟩])
 .ret) .skip))
 (.seq (.reg [⟨(.some 6), (.mv (.c (.lf (.bool true)))), none⟩])
 .ret))))))))))))))))))))))))), [(.tmp 6)]⟩
class HasLRunLane (S : Sys) : Prop extends HasRl S, HasC S, HasPm S, HasF S where
  f4 : S.fs 4 = some L4
def ptSh : Sh := .cat 1 (.int .i64) (.cat 1 (.flt .f32) .emp)
theorem pt_of {h : Hp} {r : List Lf} (t : Ty h ptSh r) : ∃ p : Pt, r = p.cells ∧ True := by
  obtain ⟨l1, l2, rfl, _, ⟨x, rfl, _⟩, l3, l4, rfl, _, ⟨y, rfl, _, _⟩, rfl⟩ := t
  exact ⟨⟨x, y⟩, rfl, trivial⟩
theorem lawRunLane {S : Sys} [HasLRunLane S] : LawHolds S 4 [(false, .sl 2 ptSh), (false, .int .i64), (false, .int .i64)] := by
  intro h cs hcs
  obtain ⟨c1, _, rfl, ⟨ls1, rfl, l1, rows1, rfl, hAl1, hrows1⟩, c2, _, rfl, ⟨ls2, rfl, f, rfl, _⟩, c3, _, rfl, ⟨ls3, rfl, c, rfl, _⟩, rfl⟩ := hcs
  obtain ⟨ps, rfl, _⟩ := rows_map (Q := fun _ => True) fun r hr => pt_of (hrows1 r hr)
  clear hrows1
  have hlo := runLane_len (ps := ps) (f := f) (c := c)
  refine law_of (F := L4) HasLRunLane.f4 rfl ?_
  unfold L4
  dsimp only []
  repeat' (first | (simp (disch := first | omega | assumption | (simp only [List.length_set]; omega) | (simp [*] <;> fail) | assumption) [-Bool.decide_and, -Bool.decide_or, -Bool.not_and, -Bool.not_or, toNat_pred, toNat_succ, wrap64, wr_new, wr_new0, ok_if, ok_ifn, iadV_sl, makeV_int, decT, decF, over_at, *, c_szPointS hAl1]) | (with_reducible refine Gd_split (fun hc => ?_) (fun hc => ?_) <;> (have hc2 := hc; try simp at hc2)) | (with_reducible refine Br_split (fun hc => ?_) (fun hc => ?_) <;> (have hc2 := hc; try simp at hc2)) | (with_reducible refine GdT_split (fun hc => ?_) (fun hc => ?_) <;> (have hc2 := hc; try simp at hc2)) | (with_reducible refine WT_alt ?_ ?_) | omega)
  have hnl1 : ps.length ≤ 16777216 := by split at hc2 <;> omega
  refine c_toPointS (hAl1.kept (Kept.refl h)) hnl1 (Kept.refl h).1 fun x0 g1 hx0 => ?_
  have K2 := (Kept.refl h).trans hx0.kept
  have Q2 := hx0.kept.1
  have P2 := K2.1
  have Nx0 := hx0.base (Kept.refl h)
  repeat' (first | (simp (disch := first | omega | assumption | (simp only [List.length_set]; omega) | (simp [*] <;> fail) | assumption) [-Bool.decide_and, -Bool.decide_or, -Bool.not_and, -Bool.not_or, toNat_pred, toNat_succ, wrap64, wr_new, wr_new0, ok_if, ok_ifn, iadV_sl, makeV_int, decT, decF, over_at, *]) | (with_reducible refine Gd_split (fun hc => ?_) (fun hc => ?_) <;> (have hc2 := hc; try simp at hc2)) | (with_reducible refine Br_split (fun hc => ?_) (fun hc => ?_) <;> (have hc2 := hc; try simp at hc2)) | (with_reducible refine GdT_split (fun hc => ?_) (fun hc => ?_) <;> (have hc2 := hc; try simp at hc2)) | (with_reducible refine WT_alt ?_ ?_) | omega)
  refine d_specRunLane Nx0.arr K2.1 fun s0 g3 hs0  => ?_
  have Fs0x0 : Far s0 x0 := fun q1 q2 => by have := (Nx0.lt q2).2; have := (hs0.lt q1).1; omega
  have K4 := K2.trans hs0.kept
  have Q4 := hs0.kept.1
  have P4 := K4.1
  have Ns0 := hs0.base K2
  replace Nx0 := Nx0.later hs0.kept
  repeat' (first | (simp (disch := first | omega | assumption | (simp only [List.length_set]; omega) | (simp [*] <;> fail) | assumption) [-Bool.decide_and, -Bool.decide_or, -Bool.not_and, -Bool.not_or, toNat_pred, toNat_succ, wrap64, wr_new, wr_new0, ok_if, ok_ifn, iadV_sl, makeV_int, decT, decF, over_at, *]) | (with_reducible refine Gd_split (fun hc => ?_) (fun hc => ?_) <;> (have hc2 := hc; try simp at hc2)) | (with_reducible refine Br_split (fun hc => ?_) (fun hc => ?_) <;> (have hc2 := hc; try simp at hc2)) | (with_reducible refine GdT_split (fun hc => ?_) (fun hc => ?_) <;> (have hc2 := hc; try simp at hc2)) | (with_reducible refine WT_alt ?_ ?_) | omega)
  refine c_toPointS (hAl1.kept K4) hnl1 K4.1 fun a0 g5 ha0 => ?_
  have Fa0s0 : Far a0 s0 := fun q1 q2 => by have := (Ns0.lt q2).2; have := (ha0.lt q1).1; omega
  have K6 := K4.trans ha0.kept
  have Q6 := ha0.kept.1
  have P6 := K6.1
  have Na0 := ha0.base K4
  replace Ns0 := Ns0.later ha0.kept
  repeat' (first | (simp (disch := first | omega | assumption | (simp only [List.length_set]; omega) | (simp [*] <;> fail) | assumption) [-Bool.decide_and, -Bool.decide_or, -Bool.not_and, -Bool.not_or, toNat_pred, toNat_succ, wrap64, wr_new, wr_new0, ok_if, ok_ifn, iadV_sl, makeV_int, decT, decF, over_at, *]) | (with_reducible refine Gd_split (fun hc => ?_) (fun hc => ?_) <;> (have hc2 := hc; try simp at hc2)) | (with_reducible refine Br_split (fun hc => ?_) (fun hc => ?_) <;> (have hc2 := hc; try simp at hc2)) | (with_reducible refine GdT_split (fun hc => ?_) (fun hc => ?_) <;> (have hc2 := hc; try simp at hc2)) | (with_reducible refine WT_alt ?_ ?_) | omega)
  refine d_implRunLane Na0.arr K6.1 fun r0 g7 hr0  => ?_
  have Fr0s0 : Far r0 s0 := fun q1 q2 => by have := (Ns0.lt q2).2; have := (hr0.lt q1).1; omega
  have Fa0r0 : Far a0 r0 := fun q1 q2 => by have := (Na0.lt q1).2; have := (hr0.lt q2).1; omega
  have K8 := K6.trans hr0.kept
  have Q8 := hr0.kept.1
  have P8 := K8.1
  have Nr0 := hr0.base K6
  replace Ns0 := Ns0.later hr0.kept
  replace Na0 := Na0.later hr0.kept
  repeat' (first | (simp (disch := first | omega | assumption | (simp only [List.length_set]; omega) | (simp [*] <;> fail) | assumption) [-Bool.decide_and, -Bool.decide_or, -Bool.not_and, -Bool.not_or, toNat_pred, toNat_succ, wrap64, wr_new, wr_new0, ok_if, ok_ifn, iadV_sl, makeV_int, decT, decF, over_at, *, c_eqFloat32S Nr0.arr Ns0.arr]) | (with_reducible refine Gd_split (fun hc => ?_) (fun hc => ?_) <;> (have hc2 := hc; try simp at hc2)) | (with_reducible refine Br_split (fun hc => ?_) (fun hc => ?_) <;> (have hc2 := hc; try simp at hc2)) | (with_reducible refine GdT_split (fun hc => ?_) (fun hc => ?_) <;> (have hc2 := hc; try simp at hc2)) | (with_reducible refine WT_alt ?_ ?_) | omega)
  refine c_toPointS (hAl1.kept K8) hnl1 K8.1 fun y0 g9 hy0 => ?_
  have Fs0y0 : Far s0 y0 := fun q1 q2 => by have := (Ns0.lt q1).2; have := (hy0.lt q2).1; omega
  have Fa0y0 : Far a0 y0 := fun q1 q2 => by have := (Na0.lt q1).2; have := (hy0.lt q2).1; omega
  have Fr0y0 : Far r0 y0 := fun q1 q2 => by have := (Nr0.lt q1).2; have := (hy0.lt q2).1; omega
  have K10 := K8.trans hy0.kept
  have Q10 := hy0.kept.1
  have P10 := K10.1
  have Ny0 := hy0.base K8
  replace Ns0 := Ns0.later hy0.kept
  replace Na0 := Na0.later hy0.kept
  replace Nr0 := Nr0.later hy0.kept
  repeat' (first | (simp (disch := first | omega | assumption | (simp only [List.length_set]; omega) | (simp [*] <;> fail) | assumption) [-Bool.decide_and, -Bool.decide_or, -Bool.not_and, -Bool.not_or, toNat_pred, toNat_succ, wrap64, wr_new, wr_new0, ok_if, ok_ifn, iadV_sl, makeV_int, decT, decF, over_at, *, c_eqPointS Na0.arr Ny0.arr]) | (with_reducible refine Gd_split (fun hc => ?_) (fun hc => ?_) <;> (have hc2 := hc; try simp at hc2)) | (with_reducible refine Br_split (fun hc => ?_) (fun hc => ?_) <;> (have hc2 := hc; try simp at hc2)) | (with_reducible refine GdT_split (fun hc => ?_) (fun hc => ?_) <;> (have hc2 := hc; try simp at hc2)) | (with_reducible refine WT_alt ?_ ?_) | omega)
  refine c_markPointS Na0 (by simp; omega) (by omega) (by omega) (Nat.le_refl _) fun g11 hB11 => ?_
  have Q11 := hB11.len
  have K11 := hB11.kept K10 (fun hn => (Na0.lt hn).1)
  replace Ns0 := hB11.new Ns0 (fun hn => (Na0.lt hn).1) (fun q1 q2 => Fa0s0.symm q2 q1)
  replace Nr0 := hB11.new Nr0 (fun hn => (Na0.lt hn).1) (fun q1 q2 => Fa0r0.symm q2 q1)
  repeat' (first | (simp (disch := first | omega | assumption | (simp only [List.length_set]; omega) | (simp [*] <;> fail) | assumption) [-Bool.decide_and, -Bool.decide_or, -Bool.not_and, -Bool.not_or, toNat_pred, toNat_succ, wrap64, wr_new, wr_new0, ok_if, ok_ifn, iadV_sl, makeV_int, decT, decF, over_at, *, c_eqFloat32S Nr0.arr Ns0.arr]) | (with_reducible refine Gd_split (fun hc => ?_) (fun hc => ?_) <;> (have hc2 := hc; try simp at hc2)) | (with_reducible refine Br_split (fun hc => ?_) (fun hc => ?_) <;> (have hc2 := hc; try simp at hc2)) | (with_reducible refine GdT_split (fun hc => ?_) (fun hc => ?_) <;> (have hc2 := hc; try simp at hc2)) | (with_reducible refine WT_alt ?_ ?_) | omega)
  refine c_markFloat32S Nr0 (by simp; omega) (by omega) (by omega) (Nat.le_refl _) fun g12 hM12 hB12 => ?_
  have Q12 := hB12.len
  have K12 := hB12.kept K11 (fun hn => (Nr0.lt hn).1)
  replace Ns0 := hB12.new Ns0 (fun hn => (Nr0.lt hn).1) (fun q1 q2 => Fr0s0.symm q2 q1)
  simp only [List.length_map] at hM12
  replace Nr0 := hM12
  repeat' (first | (simp (disch := first | omega | assumption | (simp only [List.length_set]; omega) | (simp [*] <;> fail) | assumption) [-Bool.decide_and, -Bool.decide_or, -Bool.not_and, -Bool.not_or, toNat_pred, toNat_succ, wrap64, wr_new, wr_new0, ok_if, ok_ifn, iadV_sl, makeV_int, decT, decF, over_at, *, c_heldFloat32S Nr0.arr]) | (with_reducible refine Gd_split (fun hc => ?_) (fun hc => ?_) <;> (have hc2 := hc; try simp at hc2)) | (with_reducible refine Br_split (fun hc => ?_) (fun hc => ?_) <;> (have hc2 := hc; try simp at hc2)) | (with_reducible refine GdT_split (fun hc => ?_) (fun hc => ?_) <;> (have hc2 := hc; try simp at hc2)) | (with_reducible refine WT_alt ?_ ?_) | omega)
  refine c_toPointS (hAl1.kept K12) hnl1 K12.1 fun w0 g13 hw0 => ?_
  have Fs0w0 : Far s0 w0 := fun q1 q2 => by have := (Ns0.lt q1).2; have := (hw0.lt q2).1; omega
  have Fr0w0 : Far r0 w0 := fun q1 q2 => by have := (Nr0.lt q1).2; have := (hw0.lt q2).1; omega
  have K14 := K12.trans hw0.kept
  have Q14 := hw0.kept.1
  have P14 := K14.1
  have Nw0 := hw0.base K12
  replace Ns0 := Ns0.later hw0.kept
  replace Nr0 := Nr0.later hw0.kept
  repeat' (first | (simp (disch := first | omega | assumption | (simp only [List.length_set]; omega) | (simp [*] <;> fail) | assumption) [-Bool.decide_and, -Bool.decide_or, -Bool.not_and, -Bool.not_or, toNat_pred, toNat_succ, wrap64, wr_new, wr_new0, ok_if, ok_ifn, iadV_sl, makeV_int, decT, decF, over_at, *]) | (with_reducible refine Gd_split (fun hc => ?_) (fun hc => ?_) <;> (have hc2 := hc; try simp at hc2)) | (with_reducible refine Br_split (fun hc => ?_) (fun hc => ?_) <;> (have hc2 := hc; try simp at hc2)) | (with_reducible refine GdT_split (fun hc => ?_) (fun hc => ?_) <;> (have hc2 := hc; try simp at hc2)) | (with_reducible refine WT_alt ?_ ?_) | omega)
  refine d_implRunLane Nw0.arr K14.1 fun u0 g15 hu0  => ?_
  have Fs0u0 : Far s0 u0 := fun q1 q2 => by have := (Ns0.lt q1).2; have := (hu0.lt q2).1; omega
  have Fr0u0 : Far r0 u0 := fun q1 q2 => by have := (Nr0.lt q1).2; have := (hu0.lt q2).1; omega
  have Fu0w0 : Far u0 w0 := fun q1 q2 => by have := (Nw0.lt q2).2; have := (hu0.lt q1).1; omega
  have K16 := K14.trans hu0.kept
  have Q16 := hu0.kept.1
  have P16 := K16.1
  have Nu0 := hu0.base K14
  replace Ns0 := Ns0.later hu0.kept
  replace Nr0 := Nr0.later hu0.kept
  replace Nw0 := Nw0.later hu0.kept
  repeat' (first | (simp (disch := first | omega | assumption | (simp only [List.length_set]; omega) | (simp [*] <;> fail) | assumption) [-Bool.decide_and, -Bool.decide_or, -Bool.not_and, -Bool.not_or, toNat_pred, toNat_succ, wrap64, wr_new, wr_new0, ok_if, ok_ifn, iadV_sl, makeV_int, decT, decF, over_at, *, c_eqFloat32S Nu0.arr Ns0.arr, c_heldFloat32S Nr0.arr]) | (with_reducible refine Gd_split (fun hc => ?_) (fun hc => ?_) <;> (have hc2 := hc; try simp at hc2)) | (with_reducible refine Br_split (fun hc => ?_) (fun hc => ?_) <;> (have hc2 := hc; try simp at hc2)) | (with_reducible refine GdT_split (fun hc => ?_) (fun hc => ?_) <;> (have hc2 := hc; try simp at hc2)) | (with_reducible refine WT_alt ?_ ?_) | omega)
end Go.E
namespace Go.E.RunLane
open Go Go.E
def pure : FuncId → Bool := fun f => List.elem f [3, 4, 5, 6, 7, 8, 9, 10, 11, 12, 13, 14, 19, 20, 23, 24, 28, 30, 31, 32, 33, 34, 35, 37, 38, 40, 44, 48, 50, 51, 54, 55, 57, 58, 59, 60, 61, 62, 63, 64, 66, 69, 71, 72, 73, 74, 75, 76, 77, 78, 79, 80, 81, 82, 83, 84, 85, 86, 87, 88, 89, 90, 91, 92, 93, 94, 95, 96, 97, 99, 100, 101, 103, 106, 107, 108, 110, 111, 112, 113, 114, 115, 116, 117, 122, 123, 124, 125, 126, 128, 129, 131, 132, 133, 134, 135, 136, 137, 138, 139, 140, 141, 142, 143, 144, 146, 147, 148, 149, 150, 151, 152, 153, 154, 155, 156, 157, 158, 159, 160, 161, 162, 163, 164, 165, 166, 167, 168, 169, 170, 171, 172, 173, 174, 175, 176, 177, 178, 179, 180, 181, 182, 183, 184, 185, 186, 187, 188, 189, 190, 191, 192, 193, 195, 197, 199, 206, 208, 209, 210]
def funs : List (Nat × LFn) := [(73, L73), (86, L86), (106, L106), (133, L133), (81, L81), (85, L85), (134, L134), (83, L83), (88, L88), (25, L25), (27, L27), (82, L82), (87, L87), (33, L33), (24, L24), (26, L26), (28, L28), (84, L84), (89, L89), (29, L29), (16, L16), (20, L20), (21, L21), (30, L30), (4, L4)]
def Sy : Sys := sysOf funs
theorem lfn73 : lFn Go.Proofs.Try.prog pure Go.Proofs.Try.f73 = some L73 := by kernel_rfl
theorem lfn86 : lFn Go.Proofs.Try.prog pure Go.Proofs.Try.f86 = some L86 := by kernel_rfl
theorem lfn106 : lFn Go.Proofs.Try.prog pure Go.Proofs.Try.f106 = some L106 := by kernel_rfl
theorem lfn133 : lFn Go.Proofs.Try.prog pure Go.Proofs.Try.f133 = some L133 := by kernel_rfl
theorem lfn81 : lFn Go.Proofs.Try.prog pure Go.Proofs.Try.f81 = some L81 := by kernel_rfl
theorem lfn85 : lFn Go.Proofs.Try.prog pure Go.Proofs.Try.f85 = some L85 := by kernel_rfl
theorem lfn134 : lFn Go.Proofs.Try.prog pure Go.Proofs.Try.f134 = some L134 := by kernel_rfl
theorem lfn83 : lFn Go.Proofs.Try.prog pure Go.Proofs.Try.f83 = some L83 := by kernel_rfl
theorem lfn88 : lFn Go.Proofs.Try.prog pure Go.Proofs.Try.f88 = some L88 := by kernel_rfl
theorem lfn25 : lFn Go.Proofs.Try.prog pure Go.Proofs.Try.f25 = some L25 := by kernel_rfl
theorem lfn27 : lFn Go.Proofs.Try.prog pure Go.Proofs.Try.f27 = some L27 := by kernel_rfl
theorem lfn82 : lFn Go.Proofs.Try.prog pure Go.Proofs.Try.f82 = some L82 := by kernel_rfl
theorem lfn87 : lFn Go.Proofs.Try.prog pure Go.Proofs.Try.f87 = some L87 := by kernel_rfl
theorem lfn33 : lFn Go.Proofs.Try.prog pure Go.Proofs.Try.f33 = some L33 := by kernel_rfl
theorem lfn24 : lFn Go.Proofs.Try.prog pure Go.Proofs.Try.f24 = some L24 := by kernel_rfl
theorem lfn26 : lFn Go.Proofs.Try.prog pure Go.Proofs.Try.f26 = some L26 := by kernel_rfl
theorem lfn28 : lFn Go.Proofs.Try.prog pure Go.Proofs.Try.f28 = some L28 := by kernel_rfl
theorem lfn84 : lFn Go.Proofs.Try.prog pure Go.Proofs.Try.f84 = some L84 := by kernel_rfl
theorem lfn89 : lFn Go.Proofs.Try.prog pure Go.Proofs.Try.f89 = some L89 := by kernel_rfl
theorem lfn29 : lFn Go.Proofs.Try.prog pure Go.Proofs.Try.f29 = some L29 := by kernel_rfl
theorem lfn16 : lFn Go.Proofs.Try.prog pure Go.Proofs.Try.f16 = some L16 := by kernel_rfl
theorem lfn20 : lFn Go.Proofs.Try.prog pure Go.Proofs.Try.f20 = some L20 := by kernel_rfl
theorem lfn21 : lFn Go.Proofs.Try.prog pure Go.Proofs.Try.f21 = some L21 := by kernel_rfl
theorem lfn30 : lFn Go.Proofs.Try.prog pure Go.Proofs.Try.f30 = some L30 := by kernel_rfl
theorem lfn4 : lFn Go.Proofs.Try.prog pure Go.Proofs.Try.f4 = some L4 := by kernel_rfl
instance : HasA Sy := { f73 := rfl, f86 := rfl, f106 := rfl, f133 := rfl }
instance : HasB Sy := { f81 := rfl, f85 := rfl }
instance : HasShr Sy := { f134 := rfl }
instance : HasLa Sy := { f83 := rfl, f88 := rfl }
instance : HasRl Sy := { f25 := rfl, f27 := rfl, f82 := rfl, f87 := rfl }
instance : HasSame Sy := { f33 := rfl }
instance : HasC Sy := { f24 := rfl, f26 := rfl, f28 := rfl, f84 := rfl, f89 := rfl }
instance : HasPm Sy := { f29 := rfl }
instance : HasF Sy := { f16 := rfl, f20 := rfl, f21 := rfl, f30 := rfl }
instance : HasLRunLane Sy := { f4 := rfl }
theorem sysOK {B : Nat} {w0 : World} : SysOK Go.Proofs.Try.prog pure Sy B w0 := SysOK.of (by
  intro p hp
  simp only [funs, List.mem_cons, List.not_mem_nil, or_false] at hp
  rcases hp with rfl | rfl | rfl | rfl | rfl | rfl | rfl | rfl | rfl | rfl | rfl | rfl | rfl | rfl | rfl | rfl | rfl | rfl | rfl | rfl | rfl | rfl | rfl | rfl | rfl
  · exact ⟨_, Go.Proofs.Try.func73, lfn73⟩
  · exact ⟨_, Go.Proofs.Try.func86, lfn86⟩
  · exact ⟨_, Go.Proofs.Try.func106, lfn106⟩
  · exact ⟨_, Go.Proofs.Try.func133, lfn133⟩
  · exact ⟨_, Go.Proofs.Try.func81, lfn81⟩
  · exact ⟨_, Go.Proofs.Try.func85, lfn85⟩
  · exact ⟨_, Go.Proofs.Try.func134, lfn134⟩
  · exact ⟨_, Go.Proofs.Try.func83, lfn83⟩
  · exact ⟨_, Go.Proofs.Try.func88, lfn88⟩
  · exact ⟨_, Go.Proofs.Try.func25, lfn25⟩
  · exact ⟨_, Go.Proofs.Try.func27, lfn27⟩
  · exact ⟨_, Go.Proofs.Try.func82, lfn82⟩
  · exact ⟨_, Go.Proofs.Try.func87, lfn87⟩
  · exact ⟨_, Go.Proofs.Try.func33, lfn33⟩
  · exact ⟨_, Go.Proofs.Try.func24, lfn24⟩
  · exact ⟨_, Go.Proofs.Try.func26, lfn26⟩
  · exact ⟨_, Go.Proofs.Try.func28, lfn28⟩
  · exact ⟨_, Go.Proofs.Try.func84, lfn84⟩
  · exact ⟨_, Go.Proofs.Try.func89, lfn89⟩
  · exact ⟨_, Go.Proofs.Try.func29, lfn29⟩
  · exact ⟨_, Go.Proofs.Try.func16, lfn16⟩
  · exact ⟨_, Go.Proofs.Try.func20, lfn20⟩
  · exact ⟨_, Go.Proofs.Try.func21, lfn21⟩
  · exact ⟨_, Go.Proofs.Try.func30, lfn30⟩
  · exact ⟨_, Go.Proofs.Try.func4, lfn4⟩)

end Go.E.RunLane
