/- The law of PlayLoop: what the evaluator finds. -/
import Derived.Test.YtpjgmichaeiifaaMPl
import Derived.Test.YtpjgmichaeiifaaEE
import Derived.Test.YtpjgmichaeiifaaProg
set_option linter.unusedVariables false
set_option linter.unusedSimpArgs false
namespace Go.E
open Go
def L10 : LFn := ⟨6, (.seq (.reg [⟨(.some 12), (.mv (.c (.lf (.bool false)))), none⟩])
 (.seq (.seq (.reg [⟨(.some 26), (.mv (.t 0)), none⟩, ⟨(.some 27), (.len (.t 26)), none⟩, ⟨(.some 28), (.bin .gtr (.t 27) (.c (.lf (.int .i64 1048576)))), none⟩])
 (.cond (.t 28) (.seq (.reg [⟨(.some 12), (.mv (.c (.lf (.bool true)))), none⟩])
 .ret) .skip))
 (.seq (.reg [⟨(.some 30), (.mv (.t 0)), none⟩, ⟨(.some 31), (.call false 21 [(.t 30)]), none⟩, ⟨(.some 32), (.mv (.t 1)), none⟩, ⟨(.some 33), (.mv (.t 2)), none⟩, ⟨(.some 34), (.mv (.t 3)), none⟩, ⟨(.some 35), (.mv (.t 4)), none⟩, ⟨(.some 36), (.mv (.t 5)), none⟩, ⟨(.some 37), (.call false 49 [(.t 31), (.t 32), (.t 33), (.t 34), (.t 35), (.t 36)]), none⟩, ⟨(.some 29), (.mv (.t 37)), none⟩, ⟨(.some 38), (.ext (.t 29) 0), none⟩, ⟨(.some 39), (.ext (.t 29) 1), none⟩, ⟨(.some 40), (.ext (.t 29) 2), none⟩, ⟨(.some 13), (.mv (.t 38)), none⟩, ⟨(.some 14), (.mv (.t 39)), none⟩, ⟨(.some 15), (.mv (.t 40)), none⟩])
 (.seq (.reg [⟨(.some 41), (.mv (.t 0)), none⟩, ⟨(.some 42), (.call false 21 [(.t 41)]), none⟩, ⟨(.some 16), (.mv (.t 42)), none⟩])
 (.seq (.reg [⟨(.some 44), (.mv (.t 16)), none⟩, ⟨(.some 45), (.mv (.t 1)), none⟩, ⟨(.some 46), (.mv (.t 2)), none⟩, ⟨(.some 47), (.mv (.t 3)), none⟩, ⟨(.some 48), (.mv (.t 4)), none⟩, ⟨(.some 49), (.mv (.t 5)), none⟩, ⟨(.some 50), (.call false 50 [(.t 44), (.t 45), (.t 46), (.t 47), (.t 48), (.t 49)]), none⟩, ⟨(.some 43), (.mv (.t 50)), none⟩, ⟨(.some 51), (.ext (.t 43) 0), none⟩, ⟨(.some 52), (.ext (.t 43) 1), none⟩, ⟨(.some 53), (.ext (.t 43) 2), none⟩, ⟨(.some 17), (.mv (.t 51)), none⟩, ⟨(.some 18), (.mv (.t 52)), none⟩, ⟨(.some 19), (.mv (.t 53)), none⟩])
 (.seq (.seq (.reg [⟨(.some 54), (.mv (.t 17)), none⟩, ⟨(.some 55), (.mv (.t 13)), none⟩, ⟨(.some 56), (.call true 23 [(.t 54), (.t 55)]), none⟩, ⟨(.some 57), (.una .not (.t 56)), none⟩, ⟨(.some 58), (.mv (.t 57)), none⟩, ⟨(.some 59), (.mv (.t 18)), (.some (58, false))⟩, ⟨(.some 60), (.mv (.t 14)), (.some (58, false))⟩, ⟨(.some 61), (.bin .neq (.t 59) (.t 60)), (.some (58, false))⟩, ⟨(.some 62), (.pick (.t 58) (.c (.lf (.bool true))) (.t 61)), none⟩, ⟨(.some 63), (.mv (.t 62)), none⟩, ⟨(.some 64), (.mv (.t 19)), (.some (63, false))⟩, ⟨(.some 65), (.mv (.t 15)), (.some (63, false))⟩, ⟨(.some 66), (.beq true (.t 64) (.t 65)), (.some (63, false))⟩, ⟨(.some 67), (.pick (.t 63) (.c (.lf (.bool true))) (.t 66)), none⟩])
 (.cond (.t 67) (.seq (.reg [⟨(.some 12), (.mv (.c (.lf (.bool false)))), none⟩])
 .ret) .skip))
 (.seq (.seq (.reg [⟨(.some 68), (.mv (.t 16)), none⟩, ⟨(.some 69), (.mv (.t 0)), none⟩, ⟨(.some 70), (.call false 21 [(.t 69)]), none⟩, ⟨(.some 71), (.call true 23 [(.t 68), (.t 70)]), none⟩, ⟨(.some 72), (.una .not (.t 71)), none⟩])
 (.cond (.t 72) (.seq (.reg [⟨(.some 12), (.mv (.c (.lf (.bool false)))), none⟩])
 .ret) .skip))
 (.seq (.reg [⟨(.some 20), (.mv (.c (.lf (.int .i64 1)))), none⟩])
 (.seq (.reg [⟨(.some 73), (.mv (.t 16)), none⟩, ⟨(.some 74), (.mv (.t 20)), none⟩, ⟨(.some 75), (.call false 24 [(.t 73), (.t 74)]), none⟩, ⟨(.some 20), (.mv (.t 75)), none⟩])
 (.seq (.seq (.reg [⟨(.some 76), (.mv (.t 20)), none⟩, ⟨(.some 77), (.bin .lss (.t 76) (.c (.lf (.int .i64 0)))), none⟩, ⟨(.some 78), (.mv (.t 77)), none⟩, ⟨(.some 79), (.mv (.t 17)), (.some (78, false))⟩, ⟨(.some 80), (.mv (.t 13)), (.some (78, false))⟩, ⟨(.some 81), (.call true 23 [(.t 79), (.t 80)]), (.some (78, false))⟩, ⟨(.some 82), (.una .not (.t 81)), (.some (78, false))⟩, ⟨(.some 83), (.pick (.t 78) (.c (.lf (.bool true))) (.t 82)), none⟩, ⟨(.some 84), (.mv (.t 83)), none⟩, ⟨(.some 85), (.mv (.t 18)), (.some (84, false))⟩, ⟨(.some 86), (.mv (.t 14)), (.some (84, false))⟩, ⟨(.some 87), (.bin .neq (.t 85) (.t 86)), (.some (84, false))⟩, ⟨(.some 88), (.pick (.t 84) (.c (.lf (.bool true))) (.t 87)), none⟩, ⟨(.some 89), (.mv (.t 88)), none⟩, ⟨(.some 90), (.mv (.t 19)), (.some (89, false))⟩, ⟨(.some 91), (.mv (.t 15)), (.some (89, false))⟩, ⟨(.some 92), (.beq true (.t 90) (.t 91)), (.some (89, false))⟩, ⟨(.some 93), (.pick (.t 89) (.c (.lf (.bool true))) (.t 92)), none⟩])
 (.cond (.t 93) (.seq (.reg [⟨(.some 12), (.mv (.c (.lf (.bool false)))), none⟩])
 .ret) .skip))
 (.seq (.reg [⟨(.some 21), (.mv (.c (.lf (.int .i64 1)))), none⟩])
 (.seq (.reg [⟨(.some 94), (.mv (.t 17)), none⟩, ⟨(.some 95), (.mv (.t 21)), none⟩, ⟨(.some 96), (.call false 24 [(.t 94), (.t 95)]), none⟩, ⟨(.some 21), (.mv (.t 96)), none⟩])
 (.seq (.reg [⟨(.some 22), (.mv (.c (.lf (.int .i64 1)))), none⟩])
 (.seq (.reg [⟨(.some 97), (.mv (.t 17)), none⟩, ⟨(.some 98), (.mv (.t 22)), none⟩, ⟨(.some 99), (.call true 25 [(.t 97), (.t 98)]), none⟩, ⟨(.some 22), (.mv (.t 99)), none⟩])
 (.seq (.seq (.reg [⟨(.some 100), (.mv (.t 22)), none⟩, ⟨(.some 101), (.bin .lss (.t 100) (.c (.lf (.int .i64 0)))), none⟩])
 (.cond (.t 101) (.seq (.reg [⟨(.some 12), (.mv (.c (.lf (.bool false)))), none⟩])
 .ret) .skip))
 (.seq (.seq (.reg [⟨(.some 102), (.mv (.t 22)), none⟩, ⟨(.some 103), (.mv (.t 21)), none⟩, ⟨(.some 104), (.bin .neq (.t 102) (.t 103)), none⟩])
 (.cond (.t 104) (.seq (.reg [⟨(.some 12), (.mv (.c (.lf (.bool false)))), none⟩])
 .ret) .skip))
 (.seq (.reg [⟨(.some 106), (.mv (.t 0)), none⟩, ⟨(.some 107), (.call false 21 [(.t 106)]), none⟩, ⟨(.some 108), (.mv (.t 1)), none⟩, ⟨(.some 109), (.mv (.t 2)), none⟩, ⟨(.some 110), (.mv (.t 3)), none⟩, ⟨(.some 111), (.mv (.t 4)), none⟩, ⟨(.some 112), (.mv (.t 5)), none⟩, ⟨(.some 113), (.call false 50 [(.t 107), (.t 108), (.t 109), (.t 110), (.t 111), (.t 112)]), none⟩, ⟨(.some 105), (.mv (.t 113)), none⟩, ⟨(.some 114), (.ext (.t 105) 0), none⟩, ⟨(.some 115), (.ext (.t 105) 1), none⟩, ⟨(.some 116), (.ext (.t 105) 2), none⟩, ⟨(.some 23), (.mv (.t 114)), none⟩, ⟨(.some 24), (.mv (.t 115)), none⟩, ⟨(.some 25), (.mv (.t 116)), none⟩])
 (.seq (.seq (.reg [⟨(.some 117), (.mv (.t 23)), none⟩, ⟨(.some 118), (.mv (.t 13)), none⟩, ⟨(.some 119), (.call true 23 [(.t 117), (.t 118)]), none⟩, ⟨(.some 120), (.una .not (.t 119)), none⟩, ⟨(.some 121), (.mv (.t 120)), none⟩, ⟨(.some 122), (.mv (.t 24)), (.some (121, false))⟩, ⟨(.some 123), (.mv (.t 14)), (.some (121, false))⟩, ⟨(.some 124), (.bin .neq (.t 122) (.t 123)), (.some (121, false))⟩, ⟨(.some 125), (.pick (.t 121) (.c (.lf (.bool true))) (.t 124)), none⟩, ⟨(.some 126), (.mv (.t 125)), none⟩, ⟨(.some 127), (.mv (.t 25)), (.some (126, false))⟩, ⟨(.some 128), (.mv (.t 15)), (.some (126, false))⟩, ⟨(.some 129), (.beq true (.t 127) (.t 128)), (.some (126, false))⟩, ⟨(.some 130), (.pick (.t 126) (.c (.lf (.bool true))) (.t 129)), none⟩])
 (.cond (.t 130) (.seq (.reg [⟨(.some 12), (.mv (.c (.lf (.bool false)))), none⟩])
 .ret) .skip))
 (.seq (.reg [⟨(.some 22), (.mv (.c (.lf (.int .i64 1)))), none⟩])
 (.seq (.reg [⟨(.some 131), (.mv (.t 17)), none⟩, ⟨(.some 132), (.mv (.t 22)), none⟩, ⟨(.some 133), (.call true 25 [(.t 131), (.t 132)]), none⟩, ⟨(.some 22), (.mv (.t 133)), none⟩])
 (.seq (.seq (.reg [⟨(.some 134), (.mv (.t 22)), none⟩, ⟨(.some 135), (.bin .lss (.t 134) (.c (.lf (.int .i64 0)))), none⟩])
 (.cond (.t 135) (.seq (.reg [⟨(.some 12), (.mv (.c (.lf (.bool false)))), none⟩])
 .ret) .skip))
 (.seq (.seq (.reg [⟨(.some 136), (.mv (.t 22)), none⟩, ⟨(.some 137), (.mv (.t 21)), none⟩, ⟨(.some 138), (.bin .neq (.t 136) (.t 137)), none⟩])
 (.cond (.t 138) (.seq (.reg [⟨(.some 12), (.mv (.c (.lf (.bool false)))), none⟩])
 .ret) .skip))
 (.seq (.reg [⟨(.some 12), (.mv (.c (.lf (.bool true)))), none⟩])
 .ret))))))))))))))))))))))), [(.tmp 12)]⟩
class HasLPlayLoop (S : Sys) : Prop extends HasPl S, HasSame S, HasF S where
  f10 : S.fs 10 = some L10
theorem fl_of {h : Hp} {r : List Lf} (t : Ty h (.flt .f32) r) : ∃ x : Nat, r = fl x ∧ True := by
  obtain ⟨x, rfl, _, _⟩ := t
  exact ⟨x, rfl, trivial⟩
set_option maxRecDepth 20000 in
set_option maxHeartbeats 2000000 in
theorem lawPlayLoop {S : Sys} [HasLPlayLoop S] : LawHolds S 10 [(false, .sl 1 (.flt .f32)), (false, .int .i64), (false, .int .i64), (false, .int .i64), (false, .int .i64), (false, .int .i64)] := by
  intro h cs hcs
  obtain ⟨c0, _, rfl, ⟨ls0, rfl, l, rows, rfl, hAl, hrows⟩, c1, _, rfl, ⟨ls1, rfl, f, rfl, _⟩, c2, _, rfl, ⟨ls2, rfl, e, rfl, _⟩, c3, _, rfl, ⟨ls3, rfl, a, rfl, _⟩, c4, _, rfl, ⟨ls4, rfl, s, rfl, _⟩, c5, _, rfl, ⟨ls5, rfl, c, rfl, _⟩, rfl⟩ := hcs
  obtain ⟨xs, rfl, _⟩ := rows_map (Q := fun _ => True) fun r hr => fl_of (hrows r hr)
  clear hrows
  have hlo := plA_len (xs := xs) (f := f) (e := e) (a := a) (s := s) (c := c)
  have cs : ∀ {l g K}, Arr g l 1 (xs.map fl) → h.length ≤ g.length → (∀ o g', New g g' o 24 1 ((plA xs f e a s c).1.map fl) → K (.tup [.lf o, .lf (.int .i64 (plA xs f e a s c).2), .lf (.bool (decide (okLo xs.length f e a s c)))]) g') → CallT S false 49 [.lf l, .lf (.int .i64 f), .lf (.int .i64 e), .lf (.int .i64 a), .lf (.int .i64 s), .lf (.int .i64 c)] g h.length K := fun ha hl hk => d_specPlayLoop ha hl hk
  have ci : ∀ {l g K}, Arr g l 1 (xs.map fl) → h.length ≤ g.length → (∀ o g', New g g' o 24 1 ((plA xs f e a s c).1.map fl) → K (.tup [.lf o, .lf (.int .i64 (plA xs f e a s c).2), .lf (.bool (decide (okLo xs.length f e a s c)))]) g') → CallT S false 50 [.lf l, .lf (.int .i64 f), .lf (.int .i64 e), .lf (.int .i64 a), .lf (.int .i64 s), .lf (.int .i64 c)] g h.length K := fun ha hl hk => d_implPlayLoop ha hl hk
  generalize plA xs f e a s c = y at *
  generalize decide (okLo xs.length f e a s c) = ok at *
  obtain ⟨y1, y2⟩ := y
  simp only at hlo cs ci
  refine law_of (F := L10) HasLPlayLoop.f10 rfl ?_
  unfold L10
  dsimp only []
  repeat' (first | (simp (disch := first | omega | assumption | (simp only [List.length_set]; omega) | (simp [*] <;> fail) | assumption) [-Bool.decide_and, -Bool.decide_or, -Bool.not_and, -Bool.not_or, toNat_pred, toNat_succ, wrap64, wr_new, wr_new0, ok_if, ok_ifn, iadV_sl, makeV_int, decT, decF, over_at, *, hAl.len]) | (with_reducible refine Gd_split (fun hc => ?_) (fun hc => ?_) <;> (have hc2 := hc; try simp at hc2)) | (with_reducible refine Br_split (fun hc => ?_) (fun hc => ?_) <;> (have hc2 := hc; try simp at hc2)) | (with_reducible refine GdT_split (fun hc => ?_) (fun hc => ?_) <;> (have hc2 := hc; try simp at hc2)) | (with_reducible refine WT_alt ?_ ?_) | omega)
  have hnl : xs.length ≤ 16777216 := by omega
  refine c_toFloat32S (hAl.kept (Kept.refl h)) hnl (Kept.refl h).1 fun x0 g1 hx0 => ?_
  have K2 := (Kept.refl h).trans hx0.kept
  have Q2 := hx0.kept.1
  have P2 := K2.1
  have Nx0 := hx0.base (Kept.refl h)
  repeat' (first | (simp (disch := first | omega | assumption | (simp only [List.length_set]; omega) | (simp [*] <;> fail) | assumption) [-Bool.decide_and, -Bool.decide_or, -Bool.not_and, -Bool.not_or, toNat_pred, toNat_succ, wrap64, wr_new, wr_new0, ok_if, ok_ifn, iadV_sl, makeV_int, decT, decF, over_at, *]) | (with_reducible refine Gd_split (fun hc => ?_) (fun hc => ?_) <;> (have hc2 := hc; try simp at hc2)) | (with_reducible refine Br_split (fun hc => ?_) (fun hc => ?_) <;> (have hc2 := hc; try simp at hc2)) | (with_reducible refine GdT_split (fun hc => ?_) (fun hc => ?_) <;> (have hc2 := hc; try simp at hc2)) | (with_reducible refine WT_alt ?_ ?_) | omega)
  refine cs Nx0.arr K2.1 fun s0 g3 hs0  => ?_
  have Fs0x0 : Far s0 x0 := fun q1 q2 => by have := (Nx0.lt q2).2; have := (hs0.lt q1).1; omega
  have K4 := K2.trans hs0.kept
  have Q4 := hs0.kept.1
  have P4 := K4.1
  have Ns0 := hs0.base K2
  replace Nx0 := Nx0.later hs0.kept
  repeat' (first | (simp (disch := first | omega | assumption | (simp only [List.length_set]; omega) | (simp [*] <;> fail) | assumption) [-Bool.decide_and, -Bool.decide_or, -Bool.not_and, -Bool.not_or, toNat_pred, toNat_succ, wrap64, wr_new, wr_new0, ok_if, ok_ifn, iadV_sl, makeV_int, decT, decF, over_at, *]) | (with_reducible refine Gd_split (fun hc => ?_) (fun hc => ?_) <;> (have hc2 := hc; try simp at hc2)) | (with_reducible refine Br_split (fun hc => ?_) (fun hc => ?_) <;> (have hc2 := hc; try simp at hc2)) | (with_reducible refine GdT_split (fun hc => ?_) (fun hc => ?_) <;> (have hc2 := hc; try simp at hc2)) | (with_reducible refine WT_alt ?_ ?_) | omega)
  refine c_toFloat32S (hAl.kept K4) hnl K4.1 fun a0 g5 ha0 => ?_
  have Fa0s0 : Far a0 s0 := fun q1 q2 => by have := (Ns0.lt q2).2; have := (ha0.lt q1).1; omega
  have K6 := K4.trans ha0.kept
  have Q6 := ha0.kept.1
  have P6 := K6.1
  have Na0 := ha0.base K4
  replace Ns0 := Ns0.later ha0.kept
  repeat' (first | (simp (disch := first | omega | assumption | (simp only [List.length_set]; omega) | (simp [*] <;> fail) | assumption) [-Bool.decide_and, -Bool.decide_or, -Bool.not_and, -Bool.not_or, toNat_pred, toNat_succ, wrap64, wr_new, wr_new0, ok_if, ok_ifn, iadV_sl, makeV_int, decT, decF, over_at, *]) | (with_reducible refine Gd_split (fun hc => ?_) (fun hc => ?_) <;> (have hc2 := hc; try simp at hc2)) | (with_reducible refine Br_split (fun hc => ?_) (fun hc => ?_) <;> (have hc2 := hc; try simp at hc2)) | (with_reducible refine GdT_split (fun hc => ?_) (fun hc => ?_) <;> (have hc2 := hc; try simp at hc2)) | (with_reducible refine WT_alt ?_ ?_) | omega)
  refine ci Na0.arr K6.1 fun r0 g7 hr0  => ?_
  have Fr0s0 : Far r0 s0 := fun q1 q2 => by have := (Ns0.lt q2).2; have := (hr0.lt q1).1; omega
  have Fa0r0 : Far a0 r0 := fun q1 q2 => by have := (Na0.lt q1).2; have := (hr0.lt q2).1; omega
  have K8 := K6.trans hr0.kept
  have Q8 := hr0.kept.1
  have P8 := K8.1
  have Nr0 := hr0.base K6
  replace Ns0 := Ns0.later hr0.kept
  replace Na0 := Na0.later hr0.kept
  repeat' (first | (simp (disch := first | omega | assumption | (simp only [List.length_set]; omega) | (simp [*] <;> fail) | assumption) [-Bool.decide_and, -Bool.decide_or, -Bool.not_and, -Bool.not_or, toNat_pred, toNat_succ, wrap64, wr_new, wr_new0, ok_if, ok_ifn, iadV_sl, makeV_int, decT, decF, over_at, *, c_eqFloat32S Nr0.arr Ns0.arr]) | (with_reducible refine Gd_split (fun hc => ?_) (fun hc => ?_) <;> (have hc2 := hc; try simp at hc2)) | (with_reducible refine Br_split (fun hc => ?_) (fun hc => ?_) <;> (have hc2 := hc; try simp at hc2)) | (with_reducible refine GdT_split (fun hc => ?_) (fun hc => ?_) <;> (have hc2 := hc; try simp at hc2)) | (with_reducible refine WT_alt ?_ ?_) | omega)
  refine c_toFloat32S (hAl.kept K8) hnl K8.1 fun y0 g9 hy0 => ?_
  have Fs0y0 : Far s0 y0 := fun q1 q2 => by have := (Ns0.lt q1).2; have := (hy0.lt q2).1; omega
  have Fa0y0 : Far a0 y0 := fun q1 q2 => by have := (Na0.lt q1).2; have := (hy0.lt q2).1; omega
  have Fr0y0 : Far r0 y0 := fun q1 q2 => by have := (Nr0.lt q1).2; have := (hy0.lt q2).1; omega
  have K10 := K8.trans hy0.kept
  have Q10 := hy0.kept.1
  have P10 := K10.1
  have Ny0 := hy0.base K8
  replace Ns0 := Ns0.later hy0.kept
  replace Na0 := Na0.later hy0.kept
  replace Nr0 := Nr0.later hy0.kept
  repeat' (first | (simp (disch := first | omega | assumption | (simp only [List.length_set]; omega) | (simp [*] <;> fail) | assumption) [-Bool.decide_and, -Bool.decide_or, -Bool.not_and, -Bool.not_or, toNat_pred, toNat_succ, wrap64, wr_new, wr_new0, ok_if, ok_ifn, iadV_sl, makeV_int, decT, decF, over_at, *, c_eqFloat32S Na0.arr Ny0.arr]) | (with_reducible refine Gd_split (fun hc => ?_) (fun hc => ?_) <;> (have hc2 := hc; try simp at hc2)) | (with_reducible refine Br_split (fun hc => ?_) (fun hc => ?_) <;> (have hc2 := hc; try simp at hc2)) | (with_reducible refine GdT_split (fun hc => ?_) (fun hc => ?_) <;> (have hc2 := hc; try simp at hc2)) | (with_reducible refine WT_alt ?_ ?_) | omega)
  refine c_markFloat32S Na0 (by simp; omega) (by omega) (by omega) (Nat.le_refl _) fun g11 hM11 hB11 => ?_
  have Q11 := hB11.len
  have K11 := hB11.kept K10 (fun hn => (Na0.lt hn).1)
  replace Ns0 := hB11.new Ns0 (fun hn => (Na0.lt hn).1) (fun q1 q2 => Fa0s0.symm q2 q1)
  replace Nr0 := hB11.new Nr0 (fun hn => (Na0.lt hn).1) (fun q1 q2 => Fa0r0.symm q2 q1)
  simp only [List.length_map] at hM11
  replace Na0 := hM11
  repeat' (first | (simp (disch := first | omega | assumption | (simp only [List.length_set]; omega) | (simp [*] <;> fail) | assumption) [-Bool.decide_and, -Bool.decide_or, -Bool.not_and, -Bool.not_or, toNat_pred, toNat_succ, wrap64, wr_new, wr_new0, ok_if, ok_ifn, iadV_sl, makeV_int, decT, decF, over_at, *, c_eqFloat32S Nr0.arr Ns0.arr]) | (with_reducible refine Gd_split (fun hc => ?_) (fun hc => ?_) <;> (have hc2 := hc; try simp at hc2)) | (with_reducible refine Br_split (fun hc => ?_) (fun hc => ?_) <;> (have hc2 := hc; try simp at hc2)) | (with_reducible refine GdT_split (fun hc => ?_) (fun hc => ?_) <;> (have hc2 := hc; try simp at hc2)) | (with_reducible refine WT_alt ?_ ?_) | omega)
  refine c_markFloat32S Nr0 (by simp; omega) (by omega) (by omega) (Nat.le_refl _) fun g12 hM12 hB12 => ?_
  have Q12 := hB12.len
  have K12 := hB12.kept K11 (fun hn => (Nr0.lt hn).1)
  replace Ns0 := hB12.new Ns0 (fun hn => (Nr0.lt hn).1) (fun q1 q2 => Fr0s0.symm q2 q1)
  simp only [List.length_map] at hM12
  replace Nr0 := hM12
  repeat' (first | (simp (disch := first | omega | assumption | (simp only [List.length_set]; omega) | (simp [*] <;> fail) | assumption) [-Bool.decide_and, -Bool.decide_or, -Bool.not_and, -Bool.not_or, toNat_pred, toNat_succ, wrap64, wr_new, wr_new0, ok_if, ok_ifn, iadV_sl, makeV_int, decT, decF, over_at, *, c_heldFloat32S Nr0.arr]) | (with_reducible refine Gd_split (fun hc => ?_) (fun hc => ?_) <;> (have hc2 := hc; try simp at hc2)) | (with_reducible refine Br_split (fun hc => ?_) (fun hc => ?_) <;> (have hc2 := hc; try simp at hc2)) | (with_reducible refine GdT_split (fun hc => ?_) (fun hc => ?_) <;> (have hc2 := hc; try simp at hc2)) | (with_reducible refine WT_alt ?_ ?_) | omega)
  refine c_toFloat32S (hAl.kept K12) hnl K12.1 fun w0 g13 hw0 => ?_
  have Fs0w0 : Far s0 w0 := fun q1 q2 => by have := (Ns0.lt q1).2; have := (hw0.lt q2).1; omega
  have Fr0w0 : Far r0 w0 := fun q1 q2 => by have := (Nr0.lt q1).2; have := (hw0.lt q2).1; omega
  have K14 := K12.trans hw0.kept
  have Q14 := hw0.kept.1
  have P14 := K14.1
  have Nw0 := hw0.base K12
  replace Ns0 := Ns0.later hw0.kept
  replace Nr0 := Nr0.later hw0.kept
  repeat' (first | (simp (disch := first | omega | assumption | (simp only [List.length_set]; omega) | (simp [*] <;> fail) | assumption) [-Bool.decide_and, -Bool.decide_or, -Bool.not_and, -Bool.not_or, toNat_pred, toNat_succ, wrap64, wr_new, wr_new0, ok_if, ok_ifn, iadV_sl, makeV_int, decT, decF, over_at, *]) | (with_reducible refine Gd_split (fun hc => ?_) (fun hc => ?_) <;> (have hc2 := hc; try simp at hc2)) | (with_reducible refine Br_split (fun hc => ?_) (fun hc => ?_) <;> (have hc2 := hc; try simp at hc2)) | (with_reducible refine GdT_split (fun hc => ?_) (fun hc => ?_) <;> (have hc2 := hc; try simp at hc2)) | (with_reducible refine WT_alt ?_ ?_) | omega)
  refine ci Nw0.arr K14.1 fun u0 g15 hu0  => ?_
  have Fs0u0 : Far s0 u0 := fun q1 q2 => by have := (Ns0.lt q1).2; have := (hu0.lt q2).1; omega
  have Fr0u0 : Far r0 u0 := fun q1 q2 => by have := (Nr0.lt q1).2; have := (hu0.lt q2).1; omega
  have Fu0w0 : Far u0 w0 := fun q1 q2 => by have := (Nw0.lt q2).2; have := (hu0.lt q1).1; omega
  have K16 := K14.trans hu0.kept
  have Q16 := hu0.kept.1
  have P16 := K16.1
  have Nu0 := hu0.base K14
  replace Ns0 := Ns0.later hu0.kept
  replace Nr0 := Nr0.later hu0.kept
  replace Nw0 := Nw0.later hu0.kept
  repeat' (first | (simp (disch := first | omega | assumption | (simp only [List.length_set]; omega) | (simp [*] <;> fail) | assumption) [-Bool.decide_and, -Bool.decide_or, -Bool.not_and, -Bool.not_or, toNat_pred, toNat_succ, wrap64, wr_new, wr_new0, ok_if, ok_ifn, iadV_sl, makeV_int, decT, decF, over_at, *, c_eqFloat32S Nu0.arr Ns0.arr, c_heldFloat32S Nr0.arr]) | (with_reducible refine Gd_split (fun hc => ?_) (fun hc => ?_) <;> (have hc2 := hc; try simp at hc2)) | (with_reducible refine Br_split (fun hc => ?_) (fun hc => ?_) <;> (have hc2 := hc; try simp at hc2)) | (with_reducible refine GdT_split (fun hc => ?_) (fun hc => ?_) <;> (have hc2 := hc; try simp at hc2)) | (with_reducible refine WT_alt ?_ ?_) | omega)
end Go.E
namespace Go.E.PlayLoop
open Go Go.E
def pure : FuncId → Bool := fun f => List.elem f [3, 4, 5, 6, 7, 8, 9, 10, 11, 12, 13, 14, 15, 16, 19, 23, 25, 29, 33, 34, 36, 37, 38, 39, 40, 42, 43, 44, 45, 47, 48, 51, 52, 55, 56, 57, 59, 60, 65, 66, 68, 69, 70, 73, 76, 78, 79, 80, 81, 82, 85, 86, 87, 88, 89, 90, 91, 92, 93, 94, 95, 96, 97, 98, 100, 101, 102, 103, 104, 105, 106, 107, 109, 110, 111, 112, 113, 114, 115, 116, 117, 118, 120, 121, 123, 124, 125, 127, 128, 130, 131, 132, 133, 134, 135, 136, 137, 138, 139, 140, 142, 143, 144, 145, 146, 147, 148, 149, 150, 151, 152, 153, 154, 155, 156, 158, 160, 162, 169, 171, 172]
def funs : List (Nat × LFn) := [(76, L76), (86, L86), (90, L90), (127, L127), (66, L66), (68, L68), (70, L70), (72, L72), (77, L77), (130, L130), (107, L107), (49, L49), (50, L50), (103, L103), (104, L104), (105, L105), (106, L106), (108, L108), (109, L109), (110, L110), (133, L133), (134, L134), (37, L37), (21, L21), (23, L23), (24, L24), (25, L25), (10, L10)]
def Sy : Sys := sysOf funs
theorem lfn76 : lFn Go.Proofs.Try.prog pure Go.Proofs.Try.f76 = some L76 := by kernel_rfl
theorem lfn86 : lFn Go.Proofs.Try.prog pure Go.Proofs.Try.f86 = some L86 := by kernel_rfl
theorem lfn90 : lFn Go.Proofs.Try.prog pure Go.Proofs.Try.f90 = some L90 := by kernel_rfl
theorem lfn127 : lFn Go.Proofs.Try.prog pure Go.Proofs.Try.f127 = some L127 := by kernel_rfl
theorem lfn66 : lFn Go.Proofs.Try.prog pure Go.Proofs.Try.f66 = some L66 := by kernel_rfl
theorem lfn68 : lFn Go.Proofs.Try.prog pure Go.Proofs.Try.f68 = some L68 := by kernel_rfl
theorem lfn70 : lFn Go.Proofs.Try.prog pure Go.Proofs.Try.f70 = some L70 := by kernel_rfl
theorem lfn72 : lFn Go.Proofs.Try.prog pure Go.Proofs.Try.f72 = some L72 := by kernel_rfl
theorem lfn77 : lFn Go.Proofs.Try.prog pure Go.Proofs.Try.f77 = some L77 := by kernel_rfl
theorem lfn130 : lFn Go.Proofs.Try.prog pure Go.Proofs.Try.f130 = some L130 := by kernel_rfl
theorem lfn107 : lFn Go.Proofs.Try.prog pure Go.Proofs.Try.f107 = some L107 := by kernel_rfl
theorem lfn49 : lFn Go.Proofs.Try.prog pure Go.Proofs.Try.f49 = some L49 := by kernel_rfl
theorem lfn50 : lFn Go.Proofs.Try.prog pure Go.Proofs.Try.f50 = some L50 := by kernel_rfl
theorem lfn103 : lFn Go.Proofs.Try.prog pure Go.Proofs.Try.f103 = some L103 := by kernel_rfl
theorem lfn104 : lFn Go.Proofs.Try.prog pure Go.Proofs.Try.f104 = some L104 := by kernel_rfl
theorem lfn105 : lFn Go.Proofs.Try.prog pure Go.Proofs.Try.f105 = some L105 := by kernel_rfl
theorem lfn106 : lFn Go.Proofs.Try.prog pure Go.Proofs.Try.f106 = some L106 := by kernel_rfl
theorem lfn108 : lFn Go.Proofs.Try.prog pure Go.Proofs.Try.f108 = some L108 := by kernel_rfl
theorem lfn109 : lFn Go.Proofs.Try.prog pure Go.Proofs.Try.f109 = some L109 := by kernel_rfl
theorem lfn110 : lFn Go.Proofs.Try.prog pure Go.Proofs.Try.f110 = some L110 := by kernel_rfl
theorem lfn133 : lFn Go.Proofs.Try.prog pure Go.Proofs.Try.f133 = some L133 := by kernel_rfl
theorem lfn134 : lFn Go.Proofs.Try.prog pure Go.Proofs.Try.f134 = some L134 := by kernel_rfl
theorem lfn37 : lFn Go.Proofs.Try.prog pure Go.Proofs.Try.f37 = some L37 := by kernel_rfl
theorem lfn21 : lFn Go.Proofs.Try.prog pure Go.Proofs.Try.f21 = some L21 := by kernel_rfl
theorem lfn23 : lFn Go.Proofs.Try.prog pure Go.Proofs.Try.f23 = some L23 := by kernel_rfl
theorem lfn24 : lFn Go.Proofs.Try.prog pure Go.Proofs.Try.f24 = some L24 := by kernel_rfl
theorem lfn25 : lFn Go.Proofs.Try.prog pure Go.Proofs.Try.f25 = some L25 := by kernel_rfl
theorem lfn10 : lFn Go.Proofs.Try.prog pure Go.Proofs.Try.f10 = some L10 := by kernel_rfl
instance : HasA Sy := { f76 := rfl, f86 := rfl, f90 := rfl, f127 := rfl }
instance : HasP Sy := { f66 := rfl, f68 := rfl, f70 := rfl, f72 := rfl, f77 := rfl, f130 := rfl }
instance : HasW Sy := { f107 := rfl }
instance : HasPl Sy := { f49 := rfl, f50 := rfl, f103 := rfl, f104 := rfl, f105 := rfl, f106 := rfl, f108 := rfl, f109 := rfl, f110 := rfl, f133 := rfl, f134 := rfl }
instance : HasSame Sy := { f37 := rfl }
instance : HasF Sy := { f21 := rfl, f23 := rfl, f24 := rfl, f25 := rfl }
instance : HasLPlayLoop Sy := { f10 := rfl }
theorem sysOK {B : Nat} {w0 : World} : SysOK Go.Proofs.Try.prog pure Sy B w0 := SysOK.of (by
  intro p hp
  simp only [funs, List.mem_cons, List.not_mem_nil, or_false] at hp
  rcases hp with rfl | rfl | rfl | rfl | rfl | rfl | rfl | rfl | rfl | rfl | rfl | rfl | rfl | rfl | rfl | rfl | rfl | rfl | rfl | rfl | rfl | rfl | rfl | rfl | rfl | rfl | rfl | rfl
  · exact ⟨_, Go.Proofs.Try.func76, lfn76⟩
  · exact ⟨_, Go.Proofs.Try.func86, lfn86⟩
  · exact ⟨_, Go.Proofs.Try.func90, lfn90⟩
  · exact ⟨_, Go.Proofs.Try.func127, lfn127⟩
  · exact ⟨_, Go.Proofs.Try.func66, lfn66⟩
  · exact ⟨_, Go.Proofs.Try.func68, lfn68⟩
  · exact ⟨_, Go.Proofs.Try.func70, lfn70⟩
  · exact ⟨_, Go.Proofs.Try.func72, lfn72⟩
  · exact ⟨_, Go.Proofs.Try.func77, lfn77⟩
  · exact ⟨_, Go.Proofs.Try.func130, lfn130⟩
  · exact ⟨_, Go.Proofs.Try.func107, lfn107⟩
  · exact ⟨_, Go.Proofs.Try.func49, lfn49⟩
  · exact ⟨_, Go.Proofs.Try.func50, lfn50⟩
  · exact ⟨_, Go.Proofs.Try.func103, lfn103⟩
  · exact ⟨_, Go.Proofs.Try.func104, lfn104⟩
  · exact ⟨_, Go.Proofs.Try.func105, lfn105⟩
  · exact ⟨_, Go.Proofs.Try.func106, lfn106⟩
  · exact ⟨_, Go.Proofs.Try.func108, lfn108⟩
  · exact ⟨_, Go.Proofs.Try.func109, lfn109⟩
  · exact ⟨_, Go.Proofs.Try.func110, lfn110⟩
  · exact ⟨_, Go.Proofs.Try.func133, lfn133⟩
  · exact ⟨_, Go.Proofs.Try.func134, lfn134⟩
  · exact ⟨_, Go.Proofs.Try.func37, lfn37⟩
  · exact ⟨_, Go.Proofs.Try.func21, lfn21⟩
  · exact ⟨_, Go.Proofs.Try.func23, lfn23⟩
  · exact ⟨_, Go.Proofs.Try.func24, lfn24⟩
  · exact ⟨_, Go.Proofs.Try.func25, lfn25⟩
  · exact ⟨_, Go.Proofs.Try.func10, lfn10⟩)

end Go.E.PlayLoop
