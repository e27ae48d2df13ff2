/- The law of PlayAt: what the evaluator finds. -/
import Derived.Test.YtpakemggfjmfcaaMPa
import Derived.Test.YtpakemggfjmfcaaEE
import Derived.Test.YtpakemggfjmfcaaProg
set_option linter.unusedVariables false
set_option linter.unusedSimpArgs false
namespace Go.E
open Go
def L4 : LFn := ⟨5, (.seq (.reg [⟨(.some 10), (.mv (.c (.lf (.bool false)))), none⟩])
 (.seq (.seq (.reg [⟨(.some 21), (.mv (.t 1)), none⟩, ⟨(.some 22), (.len (.t 21)), none⟩, ⟨(.some 23), (.bin .gtr (.t 22) (.c (.lf (.int .i64 1048576)))), none⟩])
 (.cond (.t 23) (.seq (.reg [⟨(.some 10), (.mv (.c (.lf (.bool true)))), none⟩])
 .ret) .skip))
 (.seq (.reg [⟨(.some 25), (.mv (.t 0)), none⟩, ⟨(.some 26), (.mv (.t 1)), none⟩, ⟨(.some 27), (.call false 18 [(.t 26)]), none⟩, ⟨(.some 28), (.mv (.t 2)), none⟩, ⟨(.some 29), (.mv (.t 3)), none⟩, ⟨(.some 30), (.mv (.t 4)), none⟩, ⟨(.some 31), (.call false 24 [(.t 25), (.t 27), (.t 28), (.t 29), (.t 30)]), none⟩, ⟨(.some 24), (.mv (.t 31)), none⟩, ⟨(.some 32), (.ext (.t 24) 0), none⟩, ⟨(.some 33), (.ext (.t 24) 1), none⟩, ⟨(.some 11), (.mv (.t 32)), none⟩, ⟨(.some 12), (.mv (.t 33)), none⟩])
 (.seq (.reg [⟨(.some 34), (.mv (.t 1)), none⟩, ⟨(.some 35), (.call false 18 [(.t 34)]), none⟩, ⟨(.some 13), (.mv (.t 35)), none⟩])
 (.seq (.reg [⟨(.some 37), (.mv (.t 0)), none⟩, ⟨(.some 38), (.mv (.t 13)), none⟩, ⟨(.some 39), (.mv (.t 2)), none⟩, ⟨(.some 40), (.mv (.t 3)), none⟩, ⟨(.some 41), (.mv (.t 4)), none⟩, ⟨(.some 42), (.call false 25 [(.t 37), (.t 38), (.t 39), (.t 40), (.t 41)]), none⟩, ⟨(.some 36), (.mv (.t 42)), none⟩, ⟨(.some 43), (.ext (.t 36) 0), none⟩, ⟨(.some 44), (.ext (.t 36) 1), none⟩, ⟨(.some 14), (.mv (.t 43)), none⟩, ⟨(.some 15), (.mv (.t 44)), none⟩])
 (.seq (.seq (.reg [⟨(.some 45), (.mv (.t 14)), none⟩, ⟨(.some 46), (.mv (.t 11)), none⟩, ⟨(.some 47), (.call true 20 [(.t 45), (.t 46)]), none⟩, ⟨(.some 48), (.una .not (.t 47)), none⟩, ⟨(.some 49), (.mv (.t 48)), none⟩, ⟨(.some 50), (.mv (.t 15)), (.some (49, false))⟩, ⟨(.some 51), (.mv (.t 12)), (.some (49, false))⟩, ⟨(.some 52), (.beq true (.t 50) (.t 51)), (.some (49, false))⟩, ⟨(.some 53), (.pick (.t 49) (.c (.lf (.bool true))) (.t 52)), none⟩])
 (.cond (.t 53) (.seq (.reg [⟨(.some 10), (.mv (.c (.lf (.bool false)))), none⟩])
 .ret) .skip))
 (.seq (.seq (.reg [⟨(.some 54), (.mv (.t 13)), none⟩, ⟨(.some 55), (.mv (.t 1)), none⟩, ⟨(.some 56), (.call false 18 [(.t 55)]), none⟩, ⟨(.some 57), (.call true 20 [(.t 54), (.t 56)]), none⟩, ⟨(.some 58), (.una .not (.t 57)), none⟩])
 (.cond (.t 58) (.seq (.reg [⟨(.some 10), (.mv (.c (.lf (.bool false)))), none⟩])
 .ret) .skip))
 (.seq (.reg [⟨(.some 16), (.mv (.c (.lf (.int .i64 1)))), none⟩])
 (.seq (.reg [⟨(.some 59), (.mv (.t 13)), none⟩, ⟨(.some 60), (.mv (.t 16)), none⟩, ⟨(.some 61), (.call false 22 [(.t 59), (.t 60)]), none⟩, ⟨(.some 16), (.mv (.t 61)), none⟩])
 (.seq (.seq (.reg [⟨(.some 62), (.mv (.t 16)), none⟩, ⟨(.some 63), (.bin .lss (.t 62) (.c (.lf (.int .i64 0)))), none⟩, ⟨(.some 64), (.mv (.t 63)), none⟩, ⟨(.some 65), (.mv (.t 14)), (.some (64, false))⟩, ⟨(.some 66), (.mv (.t 11)), (.some (64, false))⟩, ⟨(.some 67), (.call true 20 [(.t 65), (.t 66)]), (.some (64, false))⟩, ⟨(.some 68), (.una .not (.t 67)), (.some (64, false))⟩, ⟨(.some 69), (.pick (.t 64) (.c (.lf (.bool true))) (.t 68)), none⟩, ⟨(.some 70), (.mv (.t 69)), none⟩, ⟨(.some 71), (.mv (.t 15)), (.some (70, false))⟩, ⟨(.some 72), (.mv (.t 12)), (.some (70, false))⟩, ⟨(.some 73), (.beq true (.t 71) (.t 72)), (.some (70, false))⟩, ⟨(.some 74), (.pick (.t 70) (.c (.lf (.bool true))) (.t 73)), none⟩])
 (.cond (.t 74) (.seq (.reg [⟨(.some 10), (.mv (.c (.lf (.bool false)))), none⟩])
 .ret) .skip))
 (.seq (.reg [⟨(.some 17), (.mv (.c (.lf (.int .i64 1)))), none⟩])
 (.seq (.reg [⟨(.some 75), (.mv (.t 14)), none⟩, ⟨(.some 76), (.mv (.t 17)), none⟩, ⟨(.some 77), (.call false 22 [(.t 75), (.t 76)]), none⟩, ⟨(.some 17), (.mv (.t 77)), none⟩])
 (.seq (.reg [⟨(.some 18), (.mv (.c (.lf (.int .i64 1)))), none⟩])
 (.seq (.reg [⟨(.some 78), (.mv (.t 14)), none⟩, ⟨(.some 79), (.mv (.t 18)), none⟩, ⟨(.some 80), (.call true 23 [(.t 78), (.t 79)]), none⟩, ⟨(.some 18), (.mv (.t 80)), none⟩])
 (.seq (.seq (.reg [⟨(.some 81), (.mv (.t 18)), none⟩, ⟨(.some 82), (.bin .lss (.t 81) (.c (.lf (.int .i64 0)))), none⟩])
 (.cond (.t 82) (.seq (.reg [⟨(.some 10), (.mv (.c (.lf (.bool false)))), none⟩])
 .ret) .skip))
 (.seq (.seq (.reg [⟨(.some 83), (.mv (.t 18)), none⟩, ⟨(.some 84), (.mv (.t 17)), none⟩, ⟨(.some 85), (.bin .neq (.t 83) (.t 84)), none⟩])
 (.cond (.t 85) (.seq (.reg [⟨(.some 10), (.mv (.c (.lf (.bool false)))), none⟩])
 .ret) .skip))
 (.seq (.reg [⟨(.some 87), (.mv (.t 0)), none⟩, ⟨(.some 88), (.mv (.t 1)), none⟩, ⟨(.some 89), (.call false 18 [(.t 88)]), none⟩, ⟨(.some 90), (.mv (.t 2)), none⟩, ⟨(.some 91), (.mv (.t 3)), none⟩, ⟨(.some 92), (.mv (.t 4)), none⟩, ⟨(.some 93), (.call false 25 [(.t 87), (.t 89), (.t 90), (.t 91), (.t 92)]), none⟩, ⟨(.some 86), (.mv (.t 93)), none⟩, ⟨(.some 94), (.ext (.t 86) 0), none⟩, ⟨(.some 95), (.ext (.t 86) 1), none⟩, ⟨(.some 19), (.mv (.t 94)), none⟩, ⟨(.some 20), (.mv (.t 95)), none⟩])
 (.seq (.seq (.reg [⟨(.some 96), (.mv (.t 19)), none⟩, ⟨(.some 97), (.mv (.t 11)), none⟩, ⟨(.some 98), (.call true 20 [(.t 96), (.t 97)]), none⟩, ⟨(.some 99), (.una .not (.t 98)), none⟩, ⟨(.some 100), (.mv (.t 99)), none⟩, ⟨(.some 101), (.mv (.t 20)), (.some (100, false))⟩, ⟨(.some 102), (.mv (.t 12)), (.some (100, false))⟩, ⟨(.some 103), (.beq true (.t 101) (.t 102)), (.some (100, false))⟩, ⟨(.some 104), (.pick (.t 100) (.c (.lf (.bool true))) (.t 103)), none⟩])
 (.cond (.t 104) (.seq (.reg [⟨(.some 10), (.mv (.c (.lf (.bool false)))), none⟩])
 .ret) .skip))
 (.seq (.reg [⟨(.some 18), (.mv (.c (.lf (.int .i64 1)))), none⟩])
 (.seq (.reg [⟨(.some 105), (.mv (.t 14)), none⟩, ⟨(.some 106), (.mv (.t 18)), none⟩, ⟨(.some 107), (.call true 23 [(.t 105), (.t 106)]), none⟩, ⟨(.some 18), (.mv (.t 107)), none⟩])
 (.seq (.seq (.reg [⟨(.some 108), (.mv (.t 18)), none⟩, ⟨(.some 109), (.bin .lss (.t 108) (.c (.lf (.int .i64 0)))), none⟩])
 (.cond (.t 109) (.seq (.reg [⟨(.some 10), (.mv (.c (.lf (.bool false)))), none⟩])
 .ret) .skip))
 (.seq (.seq (.reg [⟨(.some 110), (.mv (.t 18)), none⟩, ⟨(.some 111), (.mv (.t 17)), none⟩, ⟨(.some 112), (.bin .neq (.t 110) (.t 111)), none⟩])
 (.cond (.t 112) (.seq (.reg [⟨(.some 10), (.mv (.c (.lf (.bool false)))), none⟩])
 .ret) .skip))
 (.seq (.reg [⟨(.some 10), (.mv (.c (.lf (.bool true)))), none⟩])
 .ret))))))))))))))))))))))), [(.tmp 10)]⟩
class HasLPlayAt (S : Sys) : Prop extends HasPa S, HasSame S, HasF S where
  f4 : S.fs 4 = some L4
theorem fl_of {h : Hp} {r : List Lf} (t : Ty h (.flt .f32) r) : ∃ x : Nat, r = fl x ∧ True := by
  obtain ⟨x, rfl, _, _⟩ := t
  exact ⟨x, rfl, trivial⟩
set_option maxRecDepth 20000 in
set_option maxHeartbeats 2000000 in
theorem lawPlayAt {S : Sys} [HasLPlayAt S] : LawHolds S 4 [(false, .int .i64), (false, .sl 1 (.flt .f32)), (false, .flt .f64), (false, .flt .f64), (false, .int .i64)] := by
  intro h cs hcs
  obtain ⟨c0, _, rfl, ⟨ls0, rfl, kind, rfl, _⟩, c1, _, rfl, ⟨ls1, rfl, l, rows, rfl, hAl, hrows⟩, c2, _, rfl, ⟨ls2, rfl, x, rfl, hx1, hx2⟩, c3, _, rfl, ⟨ls3, rfl, d, rfl, _, _⟩, c4, _, rfl, ⟨ls4, rfl, c, rfl, _⟩, rfl⟩ := hcs
  obtain ⟨xs, rfl, _⟩ := rows_map (Q := fun _ => True) fun r hr => fl_of (hrows r hr)
  have hx : CD x := ⟨hx1, hx2⟩
  clear hrows hx1 hx2
  have hlo := playA_len (kind := kind) (xs := xs) (x := x) (d := d) (c := c)
  have cs : ∀ {l g K}, Arr g l 1 (xs.map fl) → h.length ≤ g.length → (∀ o g', New g g' o 22 1 ((playA kind xs x d c).map fl) → K (.tup [.lf o, .lf (.bool (decide (okPa kind xs.length x d c)))]) g') → CallT S false 24 [.lf (.int .i64 kind), .lf l, .lf (.flt .f64 x), .lf (.flt .f64 d), .lf (.int .i64 c)] g h.length K := fun ha hl hk => d_specPlayAt ha hx hl hk
  have ci : ∀ {l g K}, Arr g l 1 (xs.map fl) → h.length ≤ g.length → (∀ o g', New g g' o 22 1 ((playA kind xs x d c).map fl) → K (.tup [.lf o, .lf (.bool (decide (okPa kind xs.length x d c)))]) g') → CallT S false 25 [.lf (.int .i64 kind), .lf l, .lf (.flt .f64 x), .lf (.flt .f64 d), .lf (.int .i64 c)] g h.length K := fun ha hl hk => d_implPlayAt ha hx hl hk
  generalize playA kind xs x d c = y at *
  generalize decide (okPa kind xs.length x d c) = ok at *
  refine law_of (F := L4) HasLPlayAt.f4 rfl ?_
  unfold L4
  dsimp only []
  repeat' (first | (simp (disch := first | omega | assumption | (simp only [List.length_set]; omega) | (simp [*] <;> fail) | assumption) [-Bool.decide_and, -Bool.decide_or, -Bool.not_and, -Bool.not_or, toNat_pred, toNat_succ, wrap64, wr_new, wr_new0, ok_if, ok_ifn, iadV_sl, makeV_int, decT, decF, over_at, *, hAl.len]) | (with_reducible refine Gd_split (fun hc => ?_) (fun hc => ?_) <;> (have hc2 := hc; try simp at hc2)) | (with_reducible refine Br_split (fun hc => ?_) (fun hc => ?_) <;> (have hc2 := hc; try simp at hc2)) | (with_reducible refine GdT_split (fun hc => ?_) (fun hc => ?_) <;> (have hc2 := hc; try simp at hc2)) | (with_reducible refine WT_alt ?_ ?_) | omega)
  have hnl : xs.length ≤ 16777216 := by omega
  refine c_toFloat32S (hAl.kept (Kept.refl h)) hnl (Kept.refl h).1 fun x0 g1 hx0 => ?_
  have K2 := (Kept.refl h).trans hx0.kept
  have Q2 := hx0.kept.1
  have P2 := K2.1
  have Nx0 := hx0.base (Kept.refl h)
  repeat' (first | (simp (disch := first | omega | assumption | (simp only [List.length_set]; omega) | (simp [*] <;> fail) | assumption) [-Bool.decide_and, -Bool.decide_or, -Bool.not_and, -Bool.not_or, toNat_pred, toNat_succ, wrap64, wr_new, wr_new0, ok_if, ok_ifn, iadV_sl, makeV_int, decT, decF, over_at, *]) | (with_reducible refine Gd_split (fun hc => ?_) (fun hc => ?_) <;> (have hc2 := hc; try simp at hc2)) | (with_reducible refine Br_split (fun hc => ?_) (fun hc => ?_) <;> (have hc2 := hc; try simp at hc2)) | (with_reducible refine GdT_split (fun hc => ?_) (fun hc => ?_) <;> (have hc2 := hc; try simp at hc2)) | (with_reducible refine WT_alt ?_ ?_) | omega)
  refine cs Nx0.arr K2.1 fun s0 g3 hs0  => ?_
  have Fs0x0 : Far s0 x0 := fun q1 q2 => by have := (Nx0.lt q2).2; have := (hs0.lt q1).1; omega
  have K4 := K2.trans hs0.kept
  have Q4 := hs0.kept.1
  have P4 := K4.1
  have Ns0 := hs0.base K2
  replace Nx0 := Nx0.later hs0.kept
  repeat' (first | (simp (disch := first | omega | assumption | (simp only [List.length_set]; omega) | (simp [*] <;> fail) | assumption) [-Bool.decide_and, -Bool.decide_or, -Bool.not_and, -Bool.not_or, toNat_pred, toNat_succ, wrap64, wr_new, wr_new0, ok_if, ok_ifn, iadV_sl, makeV_int, decT, decF, over_at, *]) | (with_reducible refine Gd_split (fun hc => ?_) (fun hc => ?_) <;> (have hc2 := hc; try simp at hc2)) | (with_reducible refine Br_split (fun hc => ?_) (fun hc => ?_) <;> (have hc2 := hc; try simp at hc2)) | (with_reducible refine GdT_split (fun hc => ?_) (fun hc => ?_) <;> (have hc2 := hc; try simp at hc2)) | (with_reducible refine WT_alt ?_ ?_) | omega)
  refine c_toFloat32S (hAl.kept K4) hnl K4.1 fun a0 g5 ha0 => ?_
  have Fa0s0 : Far a0 s0 := fun q1 q2 => by have := (Ns0.lt q2).2; have := (ha0.lt q1).1; omega
  have K6 := K4.trans ha0.kept
  have Q6 := ha0.kept.1
  have P6 := K6.1
  have Na0 := ha0.base K4
  replace Ns0 := Ns0.later ha0.kept
  repeat' (first | (simp (disch := first | omega | assumption | (simp only [List.length_set]; omega) | (simp [*] <;> fail) | assumption) [-Bool.decide_and, -Bool.decide_or, -Bool.not_and, -Bool.not_or, toNat_pred, toNat_succ, wrap64, wr_new, wr_new0, ok_if, ok_ifn, iadV_sl, makeV_int, decT, decF, over_at, *]) | (with_reducible refine Gd_split (fun hc => ?_) (fun hc => ?_) <;> (have hc2 := hc; try simp at hc2)) | (with_reducible refine Br_split (fun hc => ?_) (fun hc => ?_) <;> (have hc2 := hc; try simp at hc2)) | (with_reducible refine GdT_split (fun hc => ?_) (fun hc => ?_) <;> (have hc2 := hc; try simp at hc2)) | (with_reducible refine WT_alt ?_ ?_) | omega)
  refine ci Na0.arr K6.1 fun r0 g7 hr0  => ?_
  have Fr0s0 : Far r0 s0 := fun q1 q2 => by have := (Ns0.lt q2).2; have := (hr0.lt q1).1; omega
  have Fa0r0 : Far a0 r0 := fun q1 q2 => by have := (Na0.lt q1).2; have := (hr0.lt q2).1; omega
  have K8 := K6.trans hr0.kept
  have Q8 := hr0.kept.1
  have P8 := K8.1
  have Nr0 := hr0.base K6
  replace Ns0 := Ns0.later hr0.kept
  replace Na0 := Na0.later hr0.kept
  repeat' (first | (simp (disch := first | omega | assumption | (simp only [List.length_set]; omega) | (simp [*] <;> fail) | assumption) [-Bool.decide_and, -Bool.decide_or, -Bool.not_and, -Bool.not_or, toNat_pred, toNat_succ, wrap64, wr_new, wr_new0, ok_if, ok_ifn, iadV_sl, makeV_int, decT, decF, over_at, *, c_eqFloat32S Nr0.arr Ns0.arr]) | (with_reducible refine Gd_split (fun hc => ?_) (fun hc => ?_) <;> (have hc2 := hc; try simp at hc2)) | (with_reducible refine Br_split (fun hc => ?_) (fun hc => ?_) <;> (have hc2 := hc; try simp at hc2)) | (with_reducible refine GdT_split (fun hc => ?_) (fun hc => ?_) <;> (have hc2 := hc; try simp at hc2)) | (with_reducible refine WT_alt ?_ ?_) | omega)
  refine c_toFloat32S (hAl.kept K8) hnl K8.1 fun y0 g9 hy0 => ?_
  have Fs0y0 : Far s0 y0 := fun q1 q2 => by have := (Ns0.lt q1).2; have := (hy0.lt q2).1; omega
  have Fa0y0 : Far a0 y0 := fun q1 q2 => by have := (Na0.lt q1).2; have := (hy0.lt q2).1; omega
  have Fr0y0 : Far r0 y0 := fun q1 q2 => by have := (Nr0.lt q1).2; have := (hy0.lt q2).1; omega
  have K10 := K8.trans hy0.kept
  have Q10 := hy0.kept.1
  have P10 := K10.1
  have Ny0 := hy0.base K8
  replace Ns0 := Ns0.later hy0.kept
  replace Na0 := Na0.later hy0.kept
  replace Nr0 := Nr0.later hy0.kept
  repeat' (first | (simp (disch := first | omega | assumption | (simp only [List.length_set]; omega) | (simp [*] <;> fail) | assumption) [-Bool.decide_and, -Bool.decide_or, -Bool.not_and, -Bool.not_or, toNat_pred, toNat_succ, wrap64, wr_new, wr_new0, ok_if, ok_ifn, iadV_sl, makeV_int, decT, decF, over_at, *, c_eqFloat32S Na0.arr Ny0.arr]) | (with_reducible refine Gd_split (fun hc => ?_) (fun hc => ?_) <;> (have hc2 := hc; try simp at hc2)) | (with_reducible refine Br_split (fun hc => ?_) (fun hc => ?_) <;> (have hc2 := hc; try simp at hc2)) | (with_reducible refine GdT_split (fun hc => ?_) (fun hc => ?_) <;> (have hc2 := hc; try simp at hc2)) | (with_reducible refine WT_alt ?_ ?_) | omega)
  refine c_markFloat32S Na0 (by simp; omega) (by omega) (by omega) (Nat.le_refl _) fun g11 hM11 hB11 => ?_
  have Q11 := hB11.len
  have K11 := hB11.kept K10 (fun hn => (Na0.lt hn).1)
  replace Ns0 := hB11.new Ns0 (fun hn => (Na0.lt hn).1) (fun q1 q2 => Fa0s0.symm q2 q1)
  replace Nr0 := hB11.new Nr0 (fun hn => (Na0.lt hn).1) (fun q1 q2 => Fa0r0.symm q2 q1)
  simp only [List.length_map] at hM11
  replace Na0 := hM11
  repeat' (first | (simp (disch := first | omega | assumption | (simp only [List.length_set]; omega) | (simp [*] <;> fail) | assumption) [-Bool.decide_and, -Bool.decide_or, -Bool.not_and, -Bool.not_or, toNat_pred, toNat_succ, wrap64, wr_new, wr_new0, ok_if, ok_ifn, iadV_sl, makeV_int, decT, decF, over_at, *, c_eqFloat32S Nr0.arr Ns0.arr]) | (with_reducible refine Gd_split (fun hc => ?_) (fun hc => ?_) <;> (have hc2 := hc; try simp at hc2)) | (with_reducible refine Br_split (fun hc => ?_) (fun hc => ?_) <;> (have hc2 := hc; try simp at hc2)) | (with_reducible refine GdT_split (fun hc => ?_) (fun hc => ?_) <;> (have hc2 := hc; try simp at hc2)) | (with_reducible refine WT_alt ?_ ?_) | omega)
  refine c_markFloat32S Nr0 (by simp; omega) (by omega) (by omega) (Nat.le_refl _) fun g12 hM12 hB12 => ?_
  have Q12 := hB12.len
  have K12 := hB12.kept K11 (fun hn => (Nr0.lt hn).1)
  replace Ns0 := hB12.new Ns0 (fun hn => (Nr0.lt hn).1) (fun q1 q2 => Fr0s0.symm q2 q1)
  simp only [List.length_map] at hM12
  replace Nr0 := hM12
  repeat' (first | (simp (disch := first | omega | assumption | (simp only [List.length_set]; omega) | (simp [*] <;> fail) | assumption) [-Bool.decide_and, -Bool.decide_or, -Bool.not_and, -Bool.not_or, toNat_pred, toNat_succ, wrap64, wr_new, wr_new0, ok_if, ok_ifn, iadV_sl, makeV_int, decT, decF, over_at, *, c_heldFloat32S Nr0.arr]) | (with_reducible refine Gd_split (fun hc => ?_) (fun hc => ?_) <;> (have hc2 := hc; try simp at hc2)) | (with_reducible refine Br_split (fun hc => ?_) (fun hc => ?_) <;> (have hc2 := hc; try simp at hc2)) | (with_reducible refine GdT_split (fun hc => ?_) (fun hc => ?_) <;> (have hc2 := hc; try simp at hc2)) | (with_reducible refine WT_alt ?_ ?_) | omega)
  refine c_toFloat32S (hAl.kept K12) hnl K12.1 fun w0 g13 hw0 => ?_
  have Fs0w0 : Far s0 w0 := fun q1 q2 => by have := (Ns0.lt q1).2; have := (hw0.lt q2).1; omega
  have Fr0w0 : Far r0 w0 := fun q1 q2 => by have := (Nr0.lt q1).2; have := (hw0.lt q2).1; omega
  have K14 := K12.trans hw0.kept
  have Q14 := hw0.kept.1
  have P14 := K14.1
  have Nw0 := hw0.base K12
  replace Ns0 := Ns0.later hw0.kept
  replace Nr0 := Nr0.later hw0.kept
  repeat' (first | (simp (disch := first | omega | assumption | (simp only [List.length_set]; omega) | (simp [*] <;> fail) | assumption) [-Bool.decide_and, -Bool.decide_or, -Bool.not_and, -Bool.not_or, toNat_pred, toNat_succ, wrap64, wr_new, wr_new0, ok_if, ok_ifn, iadV_sl, makeV_int, decT, decF, over_at, *]) | (with_reducible refine Gd_split (fun hc => ?_) (fun hc => ?_) <;> (have hc2 := hc; try simp at hc2)) | (with_reducible refine Br_split (fun hc => ?_) (fun hc => ?_) <;> (have hc2 := hc; try simp at hc2)) | (with_reducible refine GdT_split (fun hc => ?_) (fun hc => ?_) <;> (have hc2 := hc; try simp at hc2)) | (with_reducible refine WT_alt ?_ ?_) | omega)
  refine ci Nw0.arr K14.1 fun u0 g15 hu0  => ?_
  have Fs0u0 : Far s0 u0 := fun q1 q2 => by have := (Ns0.lt q1).2; have := (hu0.lt q2).1; omega
  have Fr0u0 : Far r0 u0 := fun q1 q2 => by have := (Nr0.lt q1).2; have := (hu0.lt q2).1; omega
  have Fu0w0 : Far u0 w0 := fun q1 q2 => by have := (Nw0.lt q2).2; have := (hu0.lt q1).1; omega
  have K16 := K14.trans hu0.kept
  have Q16 := hu0.kept.1
  have P16 := K16.1
  have Nu0 := hu0.base K14
  replace Ns0 := Ns0.later hu0.kept
  replace Nr0 := Nr0.later hu0.kept
  replace Nw0 := Nw0.later hu0.kept
  repeat' (first | (simp (disch := first | omega | assumption | (simp only [List.length_set]; omega) | (simp [*] <;> fail) | assumption) [-Bool.decide_and, -Bool.decide_or, -Bool.not_and, -Bool.not_or, toNat_pred, toNat_succ, wrap64, wr_new, wr_new0, ok_if, ok_ifn, iadV_sl, makeV_int, decT, decF, over_at, *, c_eqFloat32S Nu0.arr Ns0.arr, c_heldFloat32S Nr0.arr]) | (with_reducible refine Gd_split (fun hc => ?_) (fun hc => ?_) <;> (have hc2 := hc; try simp at hc2)) | (with_reducible refine Br_split (fun hc => ?_) (fun hc => ?_) <;> (have hc2 := hc; try simp at hc2)) | (with_reducible refine GdT_split (fun hc => ?_) (fun hc => ?_) <;> (have hc2 := hc; try simp at hc2)) | (with_reducible refine WT_alt ?_ ?_) | omega)
end Go.E
namespace Go.E.PlayAt
open Go Go.E
def pure : FuncId → Bool := fun f => List.elem f [3, 4, 5, 6, 7, 8, 9, 10, 11, 12, 13, 14, 16, 17, 20, 21, 23, 26, 30, 31, 34, 35, 36, 37, 38, 39, 41, 42, 43, 44, 47, 48, 49, 53, 54, 58, 61, 63, 65, 68, 69, 71, 72, 73, 78, 79, 82, 85, 86, 88, 89, 91, 92, 93, 94, 95, 96, 97, 98, 99, 100, 101, 104, 106, 109, 110, 111, 112, 113, 115, 116, 117, 118, 120, 122, 123, 126, 128, 129, 130, 132, 133, 134, 135, 136, 137, 143, 144, 146, 147, 149, 150, 151, 152, 153, 154, 155, 156, 157, 160, 161, 162, 164, 165, 166, 168, 169, 170, 171, 172, 173, 174, 176, 177, 178, 179, 180, 181, 182, 183, 184, 185, 186, 187, 188, 189, 190, 191, 192, 195, 198, 200, 201, 202, 203, 204, 205, 206, 207, 208, 209, 210, 211, 212, 213, 215, 216, 217, 218, 219, 220, 222, 223, 224, 225, 227, 229, 231, 238, 240, 241]
def funs : List (Nat × LFn) := [(93, L93), (130, L130), (150, L150), (86, L86), (89, L89), (92, L92), (94, L94), (95, L95), (98, L98), (99, L99), (152, L152), (153, L153), (154, L154), (180, L180), (181, L181), (24, L24), (25, L25), (96, L96), (97, L97), (91, L91), (18, L18), (20, L20), (22, L22), (23, L23), (4, L4)]
def Sy : Sys := sysOf funs
theorem lfn93 : lFn Go.Proofs.Try.prog pure Go.Proofs.Try.f93 = some L93 := by kernel_rfl
theorem lfn130 : lFn Go.Proofs.Try.prog pure Go.Proofs.Try.f130 = some L130 := by kernel_rfl
theorem lfn150 : lFn Go.Proofs.Try.prog pure Go.Proofs.Try.f150 = some L150 := by kernel_rfl
theorem lfn86 : lFn Go.Proofs.Try.prog pure Go.Proofs.Try.f86 = some L86 := by kernel_rfl
theorem lfn89 : lFn Go.Proofs.Try.prog pure Go.Proofs.Try.f89 = some L89 := by kernel_rfl
theorem lfn92 : lFn Go.Proofs.Try.prog pure Go.Proofs.Try.f92 = some L92 := by kernel_rfl
theorem lfn94 : lFn Go.Proofs.Try.prog pure Go.Proofs.Try.f94 = some L94 := by kernel_rfl
theorem lfn95 : lFn Go.Proofs.Try.prog pure Go.Proofs.Try.f95 = some L95 := by kernel_rfl
theorem lfn98 : lFn Go.Proofs.Try.prog pure Go.Proofs.Try.f98 = some L98 := by kernel_rfl
theorem lfn99 : lFn Go.Proofs.Try.prog pure Go.Proofs.Try.f99 = some L99 := by kernel_rfl
theorem lfn152 : lFn Go.Proofs.Try.prog pure Go.Proofs.Try.f152 = some L152 := by kernel_rfl
theorem lfn153 : lFn Go.Proofs.Try.prog pure Go.Proofs.Try.f153 = some L153 := by kernel_rfl
theorem lfn154 : lFn Go.Proofs.Try.prog pure Go.Proofs.Try.f154 = some L154 := by kernel_rfl
theorem lfn180 : lFn Go.Proofs.Try.prog pure Go.Proofs.Try.f180 = some L180 := by kernel_rfl
theorem lfn181 : lFn Go.Proofs.Try.prog pure Go.Proofs.Try.f181 = some L181 := by kernel_rfl
theorem lfn24 : lFn Go.Proofs.Try.prog pure Go.Proofs.Try.f24 = some L24 := by kernel_rfl
theorem lfn25 : lFn Go.Proofs.Try.prog pure Go.Proofs.Try.f25 = some L25 := by kernel_rfl
theorem lfn96 : lFn Go.Proofs.Try.prog pure Go.Proofs.Try.f96 = some L96 := by kernel_rfl
theorem lfn97 : lFn Go.Proofs.Try.prog pure Go.Proofs.Try.f97 = some L97 := by kernel_rfl
theorem lfn91 : lFn Go.Proofs.Try.prog pure Go.Proofs.Try.f91 = some L91 := by kernel_rfl
theorem lfn18 : lFn Go.Proofs.Try.prog pure Go.Proofs.Try.f18 = some L18 := by kernel_rfl
theorem lfn20 : lFn Go.Proofs.Try.prog pure Go.Proofs.Try.f20 = some L20 := by kernel_rfl
theorem lfn22 : lFn Go.Proofs.Try.prog pure Go.Proofs.Try.f22 = some L22 := by kernel_rfl
theorem lfn23 : lFn Go.Proofs.Try.prog pure Go.Proofs.Try.f23 = some L23 := by kernel_rfl
theorem lfn4 : lFn Go.Proofs.Try.prog pure Go.Proofs.Try.f4 = some L4 := by kernel_rfl
instance : HasA Sy := { f93 := rfl, f130 := rfl, f150 := rfl }
instance : HasP Sy := { f86 := rfl, f89 := rfl }
instance : HasRd Sy := { f92 := rfl, f94 := rfl, f95 := rfl, f98 := rfl, f99 := rfl, f152 := rfl, f153 := rfl, f154 := rfl, f180 := rfl, f181 := rfl }
instance : HasPa Sy := { f24 := rfl, f25 := rfl, f96 := rfl, f97 := rfl }
instance : HasSame Sy := { f91 := rfl }
instance : HasF Sy := { f18 := rfl, f20 := rfl, f22 := rfl, f23 := rfl }
instance : HasLPlayAt Sy := { f4 := rfl }
theorem sysOK {B : Nat} {w0 : World} : SysOK Go.Proofs.Try.prog pure Sy B w0 := SysOK.of (by
  intro p hp
  simp only [funs, List.mem_cons, List.not_mem_nil, or_false] at hp
  rcases hp with rfl | rfl | rfl | rfl | rfl | rfl | rfl | rfl | rfl | rfl | rfl | rfl | rfl | rfl | rfl | rfl | rfl | rfl | rfl | rfl | rfl | rfl | rfl | rfl | rfl
  · exact ⟨_, Go.Proofs.Try.func93, lfn93⟩
  · exact ⟨_, Go.Proofs.Try.func130, lfn130⟩
  · exact ⟨_, Go.Proofs.Try.func150, lfn150⟩
  · exact ⟨_, Go.Proofs.Try.func86, lfn86⟩
  · exact ⟨_, Go.Proofs.Try.func89, lfn89⟩
  · exact ⟨_, Go.Proofs.Try.func92, lfn92⟩
  · exact ⟨_, Go.Proofs.Try.func94, lfn94⟩
  · exact ⟨_, Go.Proofs.Try.func95, lfn95⟩
  · exact ⟨_, Go.Proofs.Try.func98, lfn98⟩
  · exact ⟨_, Go.Proofs.Try.func99, lfn99⟩
  · exact ⟨_, Go.Proofs.Try.func152, lfn152⟩
  · exact ⟨_, Go.Proofs.Try.func153, lfn153⟩
  · exact ⟨_, Go.Proofs.Try.func154, lfn154⟩
  · exact ⟨_, Go.Proofs.Try.func180, lfn180⟩
  · exact ⟨_, Go.Proofs.Try.func181, lfn181⟩
  · exact ⟨_, Go.Proofs.Try.func24, lfn24⟩
  · exact ⟨_, Go.Proofs.Try.func25, lfn25⟩
  · exact ⟨_, Go.Proofs.Try.func96, lfn96⟩
  · exact ⟨_, Go.Proofs.Try.func97, lfn97⟩
  · exact ⟨_, Go.Proofs.Try.func91, lfn91⟩
  · exact ⟨_, Go.Proofs.Try.func18, lfn18⟩
  · exact ⟨_, Go.Proofs.Try.func20, lfn20⟩
  · exact ⟨_, Go.Proofs.Try.func22, lfn22⟩
  · exact ⟨_, Go.Proofs.Try.func23, lfn23⟩
  · exact ⟨_, Go.Proofs.Try.func4, lfn4⟩)

end Go.E.PlayAt
