/- The law of CodesOf: what the evaluator finds. -/
import Derived.Test.YtpjgmichaeiifaaMCo
import Derived.Test.YtpjgmichaeiifaaEE
import Derived.Test.YtpjgmichaeiifaaProg
set_option linter.unusedVariables false
set_option linter.unusedSimpArgs false
namespace Go.E
open Go
def L12 : LFn := ⟨2, (.seq (.reg [⟨(.some 4), (.mv (.c (.lf (.bool false)))), none⟩])
 (.seq (.seq (.reg [⟨(.some 15), (.mv (.t 1)), none⟩, ⟨(.some 16), (.len (.t 15)), none⟩, ⟨(.some 17), (.bin .gtr (.t 16) (.c (.lf (.int .i64 1048576)))), none⟩])
 (.cond (.t 17) (.seq (.reg [⟨(.some 4), (.mv (.c (.lf (.bool true)))), none⟩])
 .ret) .skip))
 (.seq (.reg [⟨(.some 19), (.mv (.t 0)), none⟩, ⟨(.some 20), (.mv (.t 1)), none⟩, ⟨(.some 21), (.call false 21 [(.t 20)]), none⟩, ⟨(.some 22), (.call false 53 [(.t 19), (.t 21)]), none⟩, ⟨(.some 18), (.mv (.t 22)), none⟩, ⟨(.some 23), (.ext (.t 18) 0), none⟩, ⟨(.some 24), (.ext (.t 18) 1), none⟩, ⟨(.some 5), (.mv (.t 23)), none⟩, ⟨(.some 6), (.mv (.t 24)), none⟩])
 (.seq (.reg [⟨(.some 25), (.mv (.t 1)), none⟩, ⟨(.some 26), (.call false 21 [(.t 25)]), none⟩, ⟨(.some 7), (.mv (.t 26)), none⟩])
 (.seq (.reg [⟨(.some 28), (.mv (.t 0)), none⟩, ⟨(.some 29), (.mv (.t 7)), none⟩, ⟨(.some 30), (.call false 54 [(.t 28), (.t 29)]), none⟩, ⟨(.some 27), (.mv (.t 30)), none⟩, ⟨(.some 31), (.ext (.t 27) 0), none⟩, ⟨(.some 32), (.ext (.t 27) 1), none⟩, ⟨(.some 8), (.mv (.t 31)), none⟩, ⟨(.some 9), (.mv (.t 32)), none⟩])
 (.seq (.seq (.reg [⟨(.some 33), (.mv (.t 8)), none⟩, ⟨(.some 34), (.mv (.t 5)), none⟩, ⟨(.some 35), (.call true 29 [(.t 33), (.t 34)]), none⟩, ⟨(.some 36), (.una .not (.t 35)), none⟩, ⟨(.some 37), (.mv (.t 36)), none⟩, ⟨(.some 38), (.mv (.t 9)), (.some (37, false))⟩, ⟨(.some 39), (.mv (.t 6)), (.some (37, false))⟩, ⟨(.some 40), (.beq true (.t 38) (.t 39)), (.some (37, false))⟩, ⟨(.some 41), (.pick (.t 37) (.c (.lf (.bool true))) (.t 40)), none⟩])
 (.cond (.t 41) (.seq (.reg [⟨(.some 4), (.mv (.c (.lf (.bool false)))), none⟩])
 .ret) .skip))
 (.seq (.seq (.reg [⟨(.some 42), (.mv (.t 7)), none⟩, ⟨(.some 43), (.mv (.t 1)), none⟩, ⟨(.some 44), (.call false 21 [(.t 43)]), none⟩, ⟨(.some 45), (.call true 23 [(.t 42), (.t 44)]), none⟩, ⟨(.some 46), (.una .not (.t 45)), none⟩])
 (.cond (.t 46) (.seq (.reg [⟨(.some 4), (.mv (.c (.lf (.bool false)))), none⟩])
 .ret) .skip))
 (.seq (.reg [⟨(.some 10), (.mv (.c (.lf (.int .i64 1)))), none⟩])
 (.seq (.reg [⟨(.some 47), (.mv (.t 7)), none⟩, ⟨(.some 48), (.mv (.t 10)), none⟩, ⟨(.some 49), (.call false 24 [(.t 47), (.t 48)]), none⟩, ⟨(.some 10), (.mv (.t 49)), none⟩])
 (.seq (.seq (.reg [⟨(.some 50), (.mv (.t 10)), none⟩, ⟨(.some 51), (.bin .lss (.t 50) (.c (.lf (.int .i64 0)))), none⟩, ⟨(.some 52), (.mv (.t 51)), none⟩, ⟨(.some 53), (.mv (.t 8)), (.some (52, false))⟩, ⟨(.some 54), (.mv (.t 5)), (.some (52, false))⟩, ⟨(.some 55), (.call true 29 [(.t 53), (.t 54)]), (.some (52, false))⟩, ⟨(.some 56), (.una .not (.t 55)), (.some (52, false))⟩, ⟨(.some 57), (.pick (.t 52) (.c (.lf (.bool true))) (.t 56)), none⟩, ⟨(.some 58), (.mv (.t 57)), none⟩, ⟨(.some 59), (.mv (.t 9)), (.some (58, false))⟩, ⟨(.some 60), (.mv (.t 6)), (.some (58, false))⟩, ⟨(.some 61), (.beq true (.t 59) (.t 60)), (.some (58, false))⟩, ⟨(.some 62), (.pick (.t 58) (.c (.lf (.bool true))) (.t 61)), none⟩])
 (.cond (.t 62) (.seq (.reg [⟨(.some 4), (.mv (.c (.lf (.bool false)))), none⟩])
 .ret) .skip))
 (.seq (.reg [⟨(.some 11), (.mv (.c (.lf (.int .i64 1)))), none⟩])
 (.seq (.reg [⟨(.some 63), (.mv (.t 8)), none⟩, ⟨(.some 64), (.mv (.t 11)), none⟩, ⟨(.some 65), (.call false 30 [(.t 63), (.t 64)]), none⟩, ⟨(.some 11), (.mv (.t 65)), none⟩])
 (.seq (.reg [⟨(.some 12), (.mv (.c (.lf (.int .i64 1)))), none⟩])
 (.seq (.reg [⟨(.some 66), (.mv (.t 8)), none⟩, ⟨(.some 67), (.mv (.t 12)), none⟩, ⟨(.some 68), (.call true 55 [(.t 66), (.t 67)]), none⟩, ⟨(.some 12), (.mv (.t 68)), none⟩])
 (.seq (.seq (.reg [⟨(.some 69), (.mv (.t 12)), none⟩, ⟨(.some 70), (.bin .lss (.t 69) (.c (.lf (.int .i64 0)))), none⟩])
 (.cond (.t 70) (.seq (.reg [⟨(.some 4), (.mv (.c (.lf (.bool false)))), none⟩])
 .ret) .skip))
 (.seq (.seq (.reg [⟨(.some 71), (.mv (.t 12)), none⟩, ⟨(.some 72), (.mv (.t 11)), none⟩, ⟨(.some 73), (.bin .neq (.t 71) (.t 72)), none⟩])
 (.cond (.t 73) (.seq (.reg [⟨(.some 4), (.mv (.c (.lf (.bool false)))), none⟩])
 .ret) .skip))
 (.seq (.reg [⟨(.some 75), (.mv (.t 0)), none⟩, ⟨(.some 76), (.mv (.t 1)), none⟩, ⟨(.some 77), (.call false 21 [(.t 76)]), none⟩, ⟨(.some 78), (.call false 54 [(.t 75), (.t 77)]), none⟩, ⟨(.some 74), (.mv (.t 78)), none⟩, ⟨(.some 79), (.ext (.t 74) 0), none⟩, ⟨(.some 80), (.ext (.t 74) 1), none⟩, ⟨(.some 13), (.mv (.t 79)), none⟩, ⟨(.some 14), (.mv (.t 80)), none⟩])
 (.seq (.seq (.reg [⟨(.some 81), (.mv (.t 13)), none⟩, ⟨(.some 82), (.mv (.t 5)), none⟩, ⟨(.some 83), (.call true 29 [(.t 81), (.t 82)]), none⟩, ⟨(.some 84), (.una .not (.t 83)), none⟩, ⟨(.some 85), (.mv (.t 84)), none⟩, ⟨(.some 86), (.mv (.t 14)), (.some (85, false))⟩, ⟨(.some 87), (.mv (.t 6)), (.some (85, false))⟩, ⟨(.some 88), (.beq true (.t 86) (.t 87)), (.some (85, false))⟩, ⟨(.some 89), (.pick (.t 85) (.c (.lf (.bool true))) (.t 88)), none⟩])
 (.cond (.t 89) (.seq (.reg [⟨(.some 4), (.mv (.c (.lf (.bool false)))), none⟩])
 .ret) .skip))
 (.seq (.reg [⟨(.some 12), (.mv (.c (.lf (.int .i64 1)))), none⟩])
 (.seq (.reg [⟨(.some 90), (.mv (.t 8)), none⟩, ⟨(.some 91), (.mv (.t 12)), none⟩, ⟨(.some 92), (.call true 55 [(.t 90), (.t 91)]), none⟩, ⟨(.some 12), (.mv (.t 92)), none⟩])
 (.seq (.seq (.reg [⟨(.some 93), (.mv (.t 12)), none⟩, ⟨(.some 94), (.bin .lss (.t 93) (.c (.lf (.int .i64 0)))), none⟩])
 (.cond (.t 94) (.seq (.reg [⟨(.some 4), (.mv (.c (.lf (.bool false)))), none⟩])
 .ret) .skip))
 (.seq (.seq (.reg [⟨(.some 95), (.mv (.t 12)), none⟩, ⟨(.some 96), (.mv (.t 11)), none⟩, ⟨(.some 97), (.bin .neq (.t 95) (.t 96)), none⟩])
 (.cond (.t 97) (.seq (.reg [⟨(.some 4), (.mv (.c (.lf (.bool false)))), none⟩])
 .ret) .skip))
 (.seq (.reg [⟨(.some 4), (.mv (.c (.lf (.bool true)))), none⟩])
 .ret))))))))))))))))))))))), [(.tmp 4)]⟩
class HasLCodesOf (S : Sys) : Prop extends HasCo S, HasF S, HasI S where
  f12 : S.fs 12 = some L12
theorem fl_of {h : Hp} {r : List Lf} (t : Ty h (.flt .f32) r) : ∃ x : Nat, r = fl x ∧ True := by
  obtain ⟨x, rfl, _, _⟩ := t
  exact ⟨x, rfl, trivial⟩
set_option maxRecDepth 20000 in
set_option maxHeartbeats 2000000 in
theorem lawCodesOf {S : Sys} [HasLCodesOf S] : LawHolds S 12 [(false, .int .i64), (false, .sl 1 (.flt .f32))] := by
  intro h cs hcs
  obtain ⟨c0, _, rfl, ⟨ls0, rfl, b, rfl, _⟩, c1, _, rfl, ⟨ls1, rfl, l1, rows1, rfl, hAl1, hrows1⟩, rfl⟩ := hcs
  obtain ⟨xs, rfl, _⟩ := rows_map (Q := fun _ => True) fun r hr => fl_of (hrows1 r hr)
  clear hrows1
  have hlo := codesOf_len (b := b) (xs := xs)
  refine law_of (F := L12) HasLCodesOf.f12 rfl ?_
  unfold L12
  dsimp only []
  repeat' (first | (simp (disch := first | omega | assumption | (simp only [List.length_set]; omega) | (simp [*] <;> fail) | assumption) [-Bool.decide_and, -Bool.decide_or, -Bool.not_and, -Bool.not_or, toNat_pred, toNat_succ, wrap64, wr_new, wr_new0, ok_if, ok_ifn, iadV_sl, makeV_int, decT, decF, over_at, *, hAl1.len]) | (with_reducible refine Gd_split (fun hc => ?_) (fun hc => ?_) <;> (have hc2 := hc; try simp at hc2)) | (with_reducible refine Br_split (fun hc => ?_) (fun hc => ?_) <;> (have hc2 := hc; try simp at hc2)) | (with_reducible refine GdT_split (fun hc => ?_) (fun hc => ?_) <;> (have hc2 := hc; try simp at hc2)) | (with_reducible refine WT_alt ?_ ?_) | omega)
  have hnl1 : xs.length ≤ 16777216 := by omega
  refine c_toFloat32S (hAl1.kept (Kept.refl h)) hnl1 (Kept.refl h).1 fun x0 g1 hx0 => ?_
  have K2 := (Kept.refl h).trans hx0.kept
  have Q2 := hx0.kept.1
  have P2 := K2.1
  have Nx0 := hx0.base (Kept.refl h)
  repeat' (first | (simp (disch := first | omega | assumption | (simp only [List.length_set]; omega) | (simp [*] <;> fail) | assumption) [-Bool.decide_and, -Bool.decide_or, -Bool.not_and, -Bool.not_or, toNat_pred, toNat_succ, wrap64, wr_new, wr_new0, ok_if, ok_ifn, iadV_sl, makeV_int, decT, decF, over_at, *]) | (with_reducible refine Gd_split (fun hc => ?_) (fun hc => ?_) <;> (have hc2 := hc; try simp at hc2)) | (with_reducible refine Br_split (fun hc => ?_) (fun hc => ?_) <;> (have hc2 := hc; try simp at hc2)) | (with_reducible refine GdT_split (fun hc => ?_) (fun hc => ?_) <;> (have hc2 := hc; try simp at hc2)) | (with_reducible refine WT_alt ?_ ?_) | omega)
  refine d_specCodesOf Nx0.arr K2.1 fun s0 g3 hs0  => ?_
  have Fs0x0 : Far s0 x0 := fun q1 q2 => by have := (Nx0.lt q2).2; have := (hs0.lt q1).1; omega
  have K4 := K2.trans hs0.kept
  have Q4 := hs0.kept.1
  have P4 := K4.1
  have Ns0 := hs0.base K2
  replace Nx0 := Nx0.later hs0.kept
  repeat' (first | (simp (disch := first | omega | assumption | (simp only [List.length_set]; omega) | (simp [*] <;> fail) | assumption) [-Bool.decide_and, -Bool.decide_or, -Bool.not_and, -Bool.not_or, toNat_pred, toNat_succ, wrap64, wr_new, wr_new0, ok_if, ok_ifn, iadV_sl, makeV_int, decT, decF, over_at, *]) | (with_reducible refine Gd_split (fun hc => ?_) (fun hc => ?_) <;> (have hc2 := hc; try simp at hc2)) | (with_reducible refine Br_split (fun hc => ?_) (fun hc => ?_) <;> (have hc2 := hc; try simp at hc2)) | (with_reducible refine GdT_split (fun hc => ?_) (fun hc => ?_) <;> (have hc2 := hc; try simp at hc2)) | (with_reducible refine WT_alt ?_ ?_) | omega)
  refine c_toFloat32S (hAl1.kept K4) hnl1 K4.1 fun a0 g5 ha0 => ?_
  have Fa0s0 : Far a0 s0 := fun q1 q2 => by have := (Ns0.lt q2).2; have := (ha0.lt q1).1; omega
  have K6 := K4.trans ha0.kept
  have Q6 := ha0.kept.1
  have P6 := K6.1
  have Na0 := ha0.base K4
  replace Ns0 := Ns0.later ha0.kept
  repeat' (first | (simp (disch := first | omega | assumption | (simp only [List.length_set]; omega) | (simp [*] <;> fail) | assumption) [-Bool.decide_and, -Bool.decide_or, -Bool.not_and, -Bool.not_or, toNat_pred, toNat_succ, wrap64, wr_new, wr_new0, ok_if, ok_ifn, iadV_sl, makeV_int, decT, decF, over_at, *]) | (with_reducible refine Gd_split (fun hc => ?_) (fun hc => ?_) <;> (have hc2 := hc; try simp at hc2)) | (with_reducible refine Br_split (fun hc => ?_) (fun hc => ?_) <;> (have hc2 := hc; try simp at hc2)) | (with_reducible refine GdT_split (fun hc => ?_) (fun hc => ?_) <;> (have hc2 := hc; try simp at hc2)) | (with_reducible refine WT_alt ?_ ?_) | omega)
  refine d_implCodesOf Na0.arr K6.1 fun r0 g7 hr0  => ?_
  have Fr0s0 : Far r0 s0 := fun q1 q2 => by have := (Ns0.lt q2).2; have := (hr0.lt q1).1; omega
  have Fa0r0 : Far a0 r0 := fun q1 q2 => by have := (Na0.lt q1).2; have := (hr0.lt q2).1; omega
  have K8 := K6.trans hr0.kept
  have Q8 := hr0.kept.1
  have P8 := K8.1
  have Nr0 := hr0.base K6
  replace Ns0 := Ns0.later hr0.kept
  replace Na0 := Na0.later hr0.kept
  repeat' (first | (simp (disch := first | omega | assumption | (simp only [List.length_set]; omega) | (simp [*] <;> fail) | assumption) [-Bool.decide_and, -Bool.decide_or, -Bool.not_and, -Bool.not_or, toNat_pred, toNat_succ, wrap64, wr_new, wr_new0, ok_if, ok_ifn, iadV_sl, makeV_int, decT, decF, over_at, *, c_eqInt64S Nr0.arr Ns0.arr]) | (with_reducible refine Gd_split (fun hc => ?_) (fun hc => ?_) <;> (have hc2 := hc; try simp at hc2)) | (with_reducible refine Br_split (fun hc => ?_) (fun hc => ?_) <;> (have hc2 := hc; try simp at hc2)) | (with_reducible refine GdT_split (fun hc => ?_) (fun hc => ?_) <;> (have hc2 := hc; try simp at hc2)) | (with_reducible refine WT_alt ?_ ?_) | omega)
  refine c_toFloat32S (hAl1.kept K8) hnl1 K8.1 fun y0 g9 hy0 => ?_
  have Fs0y0 : Far s0 y0 := fun q1 q2 => by have := (Ns0.lt q1).2; have := (hy0.lt q2).1; omega
  have Fa0y0 : Far a0 y0 := fun q1 q2 => by have := (Na0.lt q1).2; have := (hy0.lt q2).1; omega
  have Fr0y0 : Far r0 y0 := fun q1 q2 => by have := (Nr0.lt q1).2; have := (hy0.lt q2).1; omega
  have K10 := K8.trans hy0.kept
  have Q10 := hy0.kept.1
  have P10 := K10.1
  have Ny0 := hy0.base K8
  replace Ns0 := Ns0.later hy0.kept
  replace Na0 := Na0.later hy0.kept
  replace Nr0 := Nr0.later hy0.kept
  repeat' (first | (simp (disch := first | omega | assumption | (simp only [List.length_set]; omega) | (simp [*] <;> fail) | assumption) [-Bool.decide_and, -Bool.decide_or, -Bool.not_and, -Bool.not_or, toNat_pred, toNat_succ, wrap64, wr_new, wr_new0, ok_if, ok_ifn, iadV_sl, makeV_int, decT, decF, over_at, *, c_eqFloat32S Na0.arr Ny0.arr]) | (with_reducible refine Gd_split (fun hc => ?_) (fun hc => ?_) <;> (have hc2 := hc; try simp at hc2)) | (with_reducible refine Br_split (fun hc => ?_) (fun hc => ?_) <;> (have hc2 := hc; try simp at hc2)) | (with_reducible refine GdT_split (fun hc => ?_) (fun hc => ?_) <;> (have hc2 := hc; try simp at hc2)) | (with_reducible refine WT_alt ?_ ?_) | omega)
  refine c_markFloat32S Na0 (by simp; omega) (by omega) (by omega) (Nat.le_refl _) fun g11 hM11 hB11 => ?_
  have Q11 := hB11.len
  have K11 := hB11.kept K10 (fun hn => (Na0.lt hn).1)
  replace Ns0 := hB11.new Ns0 (fun hn => (Na0.lt hn).1) (fun q1 q2 => Fa0s0.symm q2 q1)
  replace Nr0 := hB11.new Nr0 (fun hn => (Na0.lt hn).1) (fun q1 q2 => Fa0r0.symm q2 q1)
  simp only [List.length_map] at hM11
  replace Na0 := hM11
  repeat' (first | (simp (disch := first | omega | assumption | (simp only [List.length_set]; omega) | (simp [*] <;> fail) | assumption) [-Bool.decide_and, -Bool.decide_or, -Bool.not_and, -Bool.not_or, toNat_pred, toNat_succ, wrap64, wr_new, wr_new0, ok_if, ok_ifn, iadV_sl, makeV_int, decT, decF, over_at, *, c_eqInt64S Nr0.arr Ns0.arr]) | (with_reducible refine Gd_split (fun hc => ?_) (fun hc => ?_) <;> (have hc2 := hc; try simp at hc2)) | (with_reducible refine Br_split (fun hc => ?_) (fun hc => ?_) <;> (have hc2 := hc; try simp at hc2)) | (with_reducible refine GdT_split (fun hc => ?_) (fun hc => ?_) <;> (have hc2 := hc; try simp at hc2)) | (with_reducible refine WT_alt ?_ ?_) | omega)
  refine c_markInt64S Nr0 (by simp; omega) (by omega) (by omega) (Nat.le_refl _) fun g12 hM12 hB12 => ?_
  have Q12 := hB12.len
  have K12 := hB12.kept K11 (fun hn => (Nr0.lt hn).1)
  replace Ns0 := hB12.new Ns0 (fun hn => (Nr0.lt hn).1) (fun q1 q2 => Fr0s0.symm q2 q1)
  simp only [List.length_map] at hM12
  replace Nr0 := hM12
  repeat' (first | (simp (disch := first | omega | assumption | (simp only [List.length_set]; omega) | (simp [*] <;> fail) | assumption) [-Bool.decide_and, -Bool.decide_or, -Bool.not_and, -Bool.not_or, toNat_pred, toNat_succ, wrap64, wr_new, wr_new0, ok_if, ok_ifn, iadV_sl, makeV_int, decT, decF, over_at, *, c_heldInt64S Nr0.arr]) | (with_reducible refine Gd_split (fun hc => ?_) (fun hc => ?_) <;> (have hc2 := hc; try simp at hc2)) | (with_reducible refine Br_split (fun hc => ?_) (fun hc => ?_) <;> (have hc2 := hc; try simp at hc2)) | (with_reducible refine GdT_split (fun hc => ?_) (fun hc => ?_) <;> (have hc2 := hc; try simp at hc2)) | (with_reducible refine WT_alt ?_ ?_) | omega)
  refine c_toFloat32S (hAl1.kept K12) hnl1 K12.1 fun w0 g13 hw0 => ?_
  have Fs0w0 : Far s0 w0 := fun q1 q2 => by have := (Ns0.lt q1).2; have := (hw0.lt q2).1; omega
  have Fr0w0 : Far r0 w0 := fun q1 q2 => by have := (Nr0.lt q1).2; have := (hw0.lt q2).1; omega
  have K14 := K12.trans hw0.kept
  have Q14 := hw0.kept.1
  have P14 := K14.1
  have Nw0 := hw0.base K12
  replace Ns0 := Ns0.later hw0.kept
  replace Nr0 := Nr0.later hw0.kept
  repeat' (first | (simp (disch := first | omega | assumption | (simp only [List.length_set]; omega) | (simp [*] <;> fail) | assumption) [-Bool.decide_and, -Bool.decide_or, -Bool.not_and, -Bool.not_or, toNat_pred, toNat_succ, wrap64, wr_new, wr_new0, ok_if, ok_ifn, iadV_sl, makeV_int, decT, decF, over_at, *]) | (with_reducible refine Gd_split (fun hc => ?_) (fun hc => ?_) <;> (have hc2 := hc; try simp at hc2)) | (with_reducible refine Br_split (fun hc => ?_) (fun hc => ?_) <;> (have hc2 := hc; try simp at hc2)) | (with_reducible refine GdT_split (fun hc => ?_) (fun hc => ?_) <;> (have hc2 := hc; try simp at hc2)) | (with_reducible refine WT_alt ?_ ?_) | omega)
  refine d_implCodesOf Nw0.arr K14.1 fun u0 g15 hu0  => ?_
  have Fs0u0 : Far s0 u0 := fun q1 q2 => by have := (Ns0.lt q1).2; have := (hu0.lt q2).1; omega
  have Fr0u0 : Far r0 u0 := fun q1 q2 => by have := (Nr0.lt q1).2; have := (hu0.lt q2).1; omega
  have Fu0w0 : Far u0 w0 := fun q1 q2 => by have := (Nw0.lt q2).2; have := (hu0.lt q1).1; omega
  have K16 := K14.trans hu0.kept
  have Q16 := hu0.kept.1
  have P16 := K16.1
  have Nu0 := hu0.base K14
  replace Ns0 := Ns0.later hu0.kept
  replace Nr0 := Nr0.later hu0.kept
  replace Nw0 := Nw0.later hu0.kept
  repeat' (first | (simp (disch := first | omega | assumption | (simp only [List.length_set]; omega) | (simp [*] <;> fail) | assumption) [-Bool.decide_and, -Bool.decide_or, -Bool.not_and, -Bool.not_or, toNat_pred, toNat_succ, wrap64, wr_new, wr_new0, ok_if, ok_ifn, iadV_sl, makeV_int, decT, decF, over_at, *, c_eqInt64S Nu0.arr Ns0.arr, c_heldInt64S Nr0.arr]) | (with_reducible refine Gd_split (fun hc => ?_) (fun hc => ?_) <;> (have hc2 := hc; try simp at hc2)) | (with_reducible refine Br_split (fun hc => ?_) (fun hc => ?_) <;> (have hc2 := hc; try simp at hc2)) | (with_reducible refine GdT_split (fun hc => ?_) (fun hc => ?_) <;> (have hc2 := hc; try simp at hc2)) | (with_reducible refine WT_alt ?_ ?_) | omega)
end Go.E
namespace Go.E.CodesOf
open Go Go.E
def pure : FuncId → Bool := fun f => List.elem f [3, 4, 5, 6, 7, 8, 9, 10, 11, 12, 13, 14, 15, 16, 19, 23, 25, 29, 33, 34, 36, 37, 38, 39, 40, 42, 43, 44, 45, 47, 48, 51, 52, 55, 56, 57, 59, 60, 65, 66, 68, 69, 70, 73, 76, 78, 79, 80, 81, 82, 85, 86, 87, 88, 89, 90, 91, 92, 93, 94, 95, 96, 97, 98, 100, 101, 102, 103, 104, 105, 106, 107, 109, 110, 111, 112, 113, 114, 115, 116, 117, 118, 120, 121, 123, 124, 125, 127, 128, 130, 131, 132, 133, 134, 135, 136, 137, 138, 139, 140, 142, 143, 144, 145, 146, 147, 148, 149, 150, 151, 152, 153, 154, 155, 156, 158, 160, 162, 169, 171, 172]
def funs : List (Nat × LFn) := [(76, L76), (86, L86), (90, L90), (127, L127), (66, L66), (68, L68), (70, L70), (72, L72), (77, L77), (130, L130), (78, L78), (80, L80), (114, L114), (115, L115), (116, L116), (117, L117), (53, L53), (54, L54), (37, L37), (21, L21), (23, L23), (24, L24), (25, L25), (27, L27), (29, L29), (30, L30), (55, L55), (12, L12)]
def Sy : Sys := sysOf funs
theorem lfn76 : lFn Go.Proofs.Try.prog pure Go.Proofs.Try.f76 = some L76 := by kernel_rfl
theorem lfn86 : lFn Go.Proofs.Try.prog pure Go.Proofs.Try.f86 = some L86 := by kernel_rfl
theorem lfn90 : lFn Go.Proofs.Try.prog pure Go.Proofs.Try.f90 = some L90 := by kernel_rfl
theorem lfn127 : lFn Go.Proofs.Try.prog pure Go.Proofs.Try.f127 = some L127 := by kernel_rfl
theorem lfn66 : lFn Go.Proofs.Try.prog pure Go.Proofs.Try.f66 = some L66 := by kernel_rfl
theorem lfn68 : lFn Go.Proofs.Try.prog pure Go.Proofs.Try.f68 = some L68 := by kernel_rfl
theorem lfn70 : lFn Go.Proofs.Try.prog pure Go.Proofs.Try.f70 = some L70 := by kernel_rfl
theorem lfn72 : lFn Go.Proofs.Try.prog pure Go.Proofs.Try.f72 = some L72 := by kernel_rfl
theorem lfn77 : lFn Go.Proofs.Try.prog pure Go.Proofs.Try.f77 = some L77 := by kernel_rfl
theorem lfn130 : lFn Go.Proofs.Try.prog pure Go.Proofs.Try.f130 = some L130 := by kernel_rfl
theorem lfn78 : lFn Go.Proofs.Try.prog pure Go.Proofs.Try.f78 = some L78 := by kernel_rfl
theorem lfn80 : lFn Go.Proofs.Try.prog pure Go.Proofs.Try.f80 = some L80 := by kernel_rfl
theorem lfn114 : lFn Go.Proofs.Try.prog pure Go.Proofs.Try.f114 = some L114 := by kernel_rfl
theorem lfn115 : lFn Go.Proofs.Try.prog pure Go.Proofs.Try.f115 = some L115 := by kernel_rfl
theorem lfn116 : lFn Go.Proofs.Try.prog pure Go.Proofs.Try.f116 = some L116 := by kernel_rfl
theorem lfn117 : lFn Go.Proofs.Try.prog pure Go.Proofs.Try.f117 = some L117 := by kernel_rfl
theorem lfn53 : lFn Go.Proofs.Try.prog pure Go.Proofs.Try.f53 = some L53 := by kernel_rfl
theorem lfn54 : lFn Go.Proofs.Try.prog pure Go.Proofs.Try.f54 = some L54 := by kernel_rfl
theorem lfn37 : lFn Go.Proofs.Try.prog pure Go.Proofs.Try.f37 = some L37 := by kernel_rfl
theorem lfn21 : lFn Go.Proofs.Try.prog pure Go.Proofs.Try.f21 = some L21 := by kernel_rfl
theorem lfn23 : lFn Go.Proofs.Try.prog pure Go.Proofs.Try.f23 = some L23 := by kernel_rfl
theorem lfn24 : lFn Go.Proofs.Try.prog pure Go.Proofs.Try.f24 = some L24 := by kernel_rfl
theorem lfn25 : lFn Go.Proofs.Try.prog pure Go.Proofs.Try.f25 = some L25 := by kernel_rfl
theorem lfn27 : lFn Go.Proofs.Try.prog pure Go.Proofs.Try.f27 = some L27 := by kernel_rfl
theorem lfn29 : lFn Go.Proofs.Try.prog pure Go.Proofs.Try.f29 = some L29 := by kernel_rfl
theorem lfn30 : lFn Go.Proofs.Try.prog pure Go.Proofs.Try.f30 = some L30 := by kernel_rfl
theorem lfn55 : lFn Go.Proofs.Try.prog pure Go.Proofs.Try.f55 = some L55 := by kernel_rfl
theorem lfn12 : lFn Go.Proofs.Try.prog pure Go.Proofs.Try.f12 = some L12 := by kernel_rfl
instance : HasA Sy := { f76 := rfl, f86 := rfl, f90 := rfl, f127 := rfl }
instance : HasP Sy := { f66 := rfl, f68 := rfl, f70 := rfl, f72 := rfl, f77 := rfl, f130 := rfl }
instance : HasKb Sy := { f78 := rfl, f80 := rfl, f114 := rfl, f115 := rfl, f116 := rfl, f117 := rfl }
instance : HasCo Sy := { f53 := rfl, f54 := rfl }
instance : HasSame Sy := { f37 := rfl }
instance : HasF Sy := { f21 := rfl, f23 := rfl, f24 := rfl, f25 := rfl }
instance : HasI Sy := { f27 := rfl, f29 := rfl, f30 := rfl, f55 := rfl }
instance : HasLCodesOf Sy := { f12 := rfl }
theorem sysOK {B : Nat} {w0 : World} : SysOK Go.Proofs.Try.prog pure Sy B w0 := SysOK.of (by
  intro p hp
  simp only [funs, List.mem_cons, List.not_mem_nil, or_false] at hp
  rcases hp with rfl | rfl | rfl | rfl | rfl | rfl | rfl | rfl | rfl | rfl | rfl | rfl | rfl | rfl | rfl | rfl | rfl | rfl | rfl | rfl | rfl | rfl | rfl | rfl | rfl | rfl | rfl | rfl
  · exact ⟨_, Go.Proofs.Try.func76, lfn76⟩
  · exact ⟨_, Go.Proofs.Try.func86, lfn86⟩
  · exact ⟨_, Go.Proofs.Try.func90, lfn90⟩
  · exact ⟨_, Go.Proofs.Try.func127, lfn127⟩
  · exact ⟨_, Go.Proofs.Try.func66, lfn66⟩
  · exact ⟨_, Go.Proofs.Try.func68, lfn68⟩
  · exact ⟨_, Go.Proofs.Try.func70, lfn70⟩
  · exact ⟨_, Go.Proofs.Try.func72, lfn72⟩
  · exact ⟨_, Go.Proofs.Try.func77, lfn77⟩
  · exact ⟨_, Go.Proofs.Try.func130, lfn130⟩
  · exact ⟨_, Go.Proofs.Try.func78, lfn78⟩
  · exact ⟨_, Go.Proofs.Try.func80, lfn80⟩
  · exact ⟨_, Go.Proofs.Try.func114, lfn114⟩
  · exact ⟨_, Go.Proofs.Try.func115, lfn115⟩
  · exact ⟨_, Go.Proofs.Try.func116, lfn116⟩
  · exact ⟨_, Go.Proofs.Try.func117, lfn117⟩
  · exact ⟨_, Go.Proofs.Try.func53, lfn53⟩
  · exact ⟨_, Go.Proofs.Try.func54, lfn54⟩
  · exact ⟨_, Go.Proofs.Try.func37, lfn37⟩
  · exact ⟨_, Go.Proofs.Try.func21, lfn21⟩
  · exact ⟨_, Go.Proofs.Try.func23, lfn23⟩
  · exact ⟨_, Go.Proofs.Try.func24, lfn24⟩
  · exact ⟨_, Go.Proofs.Try.func25, lfn25⟩
  · exact ⟨_, Go.Proofs.Try.func27, lfn27⟩
  · exact ⟨_, Go.Proofs.Try.func29, lfn29⟩
  · exact ⟨_, Go.Proofs.Try.func30, lfn30⟩
  · exact ⟨_, Go.Proofs.Try.func55, lfn55⟩
  · exact ⟨_, Go.Proofs.Try.func12, lfn12⟩)

end Go.E.CodesOf
