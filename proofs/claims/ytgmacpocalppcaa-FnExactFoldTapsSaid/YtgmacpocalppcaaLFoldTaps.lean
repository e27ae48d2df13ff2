/- The law of FoldTaps: what the evaluator finds. -/
import Derived.Test.YtgmacpocalppcaaMT
import Derived.Test.YtgmacpocalppcaaEE
import Derived.Test.YtgmacpocalppcaaProg
set_option linter.unusedVariables false
set_option linter.unusedSimpArgs false
namespace Go.E
open Go
def L14 : LFn := ⟨3, (.seq (.reg [⟨(.some 6), (.mv (.c (.lf (.bool false)))), none⟩])
 (.seq (.seq (.reg [⟨(.some 22), (.mv (.t 0)), none⟩, ⟨(.some 23), (.len (.t 22)), none⟩, ⟨(.some 24), (.bin .gtr (.t 23) (.c (.lf (.int .i64 1048576)))), none⟩])
 (.cond (.t 24) (.seq (.reg [⟨(.some 6), (.mv (.c (.lf (.bool true)))), none⟩])
 .ret) .skip))
 (.seq (.seq (.reg [⟨(.some 25), (.mv (.t 1)), none⟩, ⟨(.some 26), (.len (.t 25)), none⟩, ⟨(.some 27), (.bin .gtr (.t 26) (.c (.lf (.int .i64 1048576)))), none⟩])
 (.cond (.t 27) (.seq (.reg [⟨(.some 6), (.mv (.c (.lf (.bool true)))), none⟩])
 .ret) .skip))
 (.seq (.seq (.reg [⟨(.some 28), (.mv (.t 2)), none⟩, ⟨(.some 29), (.len (.t 28)), none⟩, ⟨(.some 30), (.bin .gtr (.t 29) (.c (.lf (.int .i64 1048576)))), none⟩])
 (.cond (.t 30) (.seq (.reg [⟨(.some 6), (.mv (.c (.lf (.bool true)))), none⟩])
 .ret) .skip))
 (.seq (.reg [⟨(.some 32), (.mv (.t 0)), none⟩, ⟨(.some 33), (.call false 28 [(.t 32)]), none⟩, ⟨(.some 34), (.mv (.t 1)), none⟩, ⟨(.some 35), (.call false 28 [(.t 34)]), none⟩, ⟨(.some 36), (.mv (.t 2)), none⟩, ⟨(.some 37), (.call false 28 [(.t 36)]), none⟩, ⟨(.some 38), (.call false 60 [(.t 33), (.t 35), (.t 37)]), none⟩, ⟨(.some 31), (.mv (.t 38)), none⟩, ⟨(.some 39), (.ext (.t 31) 0), none⟩, ⟨(.some 40), (.ext (.t 31) 1), none⟩, ⟨(.some 41), (.ext (.t 31) 2), none⟩, ⟨(.some 7), (.mv (.t 39)), none⟩, ⟨(.some 8), (.mv (.t 40)), none⟩, ⟨(.some 9), (.mv (.t 41)), none⟩])
 (.seq (.reg [⟨(.some 42), (.mv (.t 0)), none⟩, ⟨(.some 43), (.call false 28 [(.t 42)]), none⟩, ⟨(.some 10), (.mv (.t 43)), none⟩])
 (.seq (.reg [⟨(.some 44), (.mv (.t 1)), none⟩, ⟨(.some 45), (.call false 28 [(.t 44)]), none⟩, ⟨(.some 11), (.mv (.t 45)), none⟩])
 (.seq (.reg [⟨(.some 46), (.mv (.t 2)), none⟩, ⟨(.some 47), (.call false 28 [(.t 46)]), none⟩, ⟨(.some 12), (.mv (.t 47)), none⟩])
 (.seq (.reg [⟨(.some 49), (.mv (.t 10)), none⟩, ⟨(.some 50), (.mv (.t 11)), none⟩, ⟨(.some 51), (.mv (.t 12)), none⟩, ⟨(.some 52), (.call false 61 [(.t 49), (.t 50), (.t 51)]), none⟩, ⟨(.some 48), (.mv (.t 52)), none⟩, ⟨(.some 53), (.ext (.t 48) 0), none⟩, ⟨(.some 54), (.ext (.t 48) 1), none⟩, ⟨(.some 55), (.ext (.t 48) 2), none⟩, ⟨(.some 13), (.mv (.t 53)), none⟩, ⟨(.some 14), (.mv (.t 54)), none⟩, ⟨(.some 15), (.mv (.t 55)), none⟩])
 (.seq (.seq (.reg [⟨(.some 56), (.mv (.t 13)), none⟩, ⟨(.some 57), (.mv (.t 7)), none⟩, ⟨(.some 58), (.call true 30 [(.t 56), (.t 57)]), none⟩, ⟨(.some 59), (.una .not (.t 58)), none⟩, ⟨(.some 60), (.mv (.t 59)), none⟩, ⟨(.some 61), (.mv (.t 14)), (.some (60, false))⟩, ⟨(.some 62), (.mv (.t 8)), (.some (60, false))⟩, ⟨(.some 63), (.call true 30 [(.t 61), (.t 62)]), (.some (60, false))⟩, ⟨(.some 64), (.una .not (.t 63)), (.some (60, false))⟩, ⟨(.some 65), (.pick (.t 60) (.c (.lf (.bool true))) (.t 64)), none⟩, ⟨(.some 66), (.mv (.t 65)), none⟩, ⟨(.some 67), (.mv (.t 15)), (.some (66, false))⟩, ⟨(.some 68), (.mv (.t 9)), (.some (66, false))⟩, ⟨(.some 69), (.beq true (.t 67) (.t 68)), (.some (66, false))⟩, ⟨(.some 70), (.pick (.t 66) (.c (.lf (.bool true))) (.t 69)), none⟩])
 (.cond (.t 70) (.seq (.reg [⟨(.some 6), (.mv (.c (.lf (.bool false)))), none⟩])
 .ret) .skip))
 (.seq (.seq (.reg [⟨(.some 71), (.mv (.t 10)), none⟩, ⟨(.some 72), (.mv (.t 0)), none⟩, ⟨(.some 73), (.call false 28 [(.t 72)]), none⟩, ⟨(.some 74), (.call true 30 [(.t 71), (.t 73)]), none⟩, ⟨(.some 75), (.una .not (.t 74)), none⟩])
 (.cond (.t 75) (.seq (.reg [⟨(.some 6), (.mv (.c (.lf (.bool false)))), none⟩])
 .ret) .skip))
 (.seq (.seq (.reg [⟨(.some 76), (.mv (.t 11)), none⟩, ⟨(.some 77), (.mv (.t 1)), none⟩, ⟨(.some 78), (.call false 28 [(.t 77)]), none⟩, ⟨(.some 79), (.call true 30 [(.t 76), (.t 78)]), none⟩, ⟨(.some 80), (.una .not (.t 79)), none⟩])
 (.cond (.t 80) (.seq (.reg [⟨(.some 6), (.mv (.c (.lf (.bool false)))), none⟩])
 .ret) .skip))
 (.seq (.seq (.reg [⟨(.some 81), (.mv (.t 12)), none⟩, ⟨(.some 82), (.mv (.t 2)), none⟩, ⟨(.some 83), (.call false 28 [(.t 82)]), none⟩, ⟨(.some 84), (.call true 30 [(.t 81), (.t 83)]), none⟩, ⟨(.some 85), (.una .not (.t 84)), none⟩])
 (.cond (.t 85) (.seq (.reg [⟨(.some 6), (.mv (.c (.lf (.bool false)))), none⟩])
 .ret) .skip))
 (.seq (.reg [⟨(.some 16), (.mv (.c (.lf (.int .i64 1)))), none⟩])
 (.seq (.reg [⟨(.some 86), (.mv (.t 10)), none⟩, ⟨(.some 87), (.mv (.t 16)), none⟩, ⟨(.some 88), (.call false 31 [(.t 86), (.t 87)]), none⟩, ⟨(.some 16), (.mv (.t 88)), none⟩])
 (.seq (.reg [⟨(.some 89), (.mv (.t 11)), none⟩, ⟨(.some 90), (.mv (.t 16)), none⟩, ⟨(.some 91), (.call false 31 [(.t 89), (.t 90)]), none⟩, ⟨(.some 16), (.mv (.t 91)), none⟩])
 (.seq (.reg [⟨(.some 92), (.mv (.t 12)), none⟩, ⟨(.some 93), (.mv (.t 16)), none⟩, ⟨(.some 94), (.call false 31 [(.t 92), (.t 93)]), none⟩, ⟨(.some 16), (.mv (.t 94)), none⟩])
 (.seq (.seq (.reg [⟨(.some 95), (.mv (.t 16)), none⟩, ⟨(.some 96), (.bin .lss (.t 95) (.c (.lf (.int .i64 0)))), none⟩, ⟨(.some 97), (.mv (.t 96)), none⟩, ⟨(.some 98), (.mv (.t 13)), (.some (97, false))⟩, ⟨(.some 99), (.mv (.t 7)), (.some (97, false))⟩, ⟨(.some 100), (.call true 30 [(.t 98), (.t 99)]), (.some (97, false))⟩, ⟨(.some 101), (.una .not (.t 100)), (.some (97, false))⟩, ⟨(.some 102), (.pick (.t 97) (.c (.lf (.bool true))) (.t 101)), none⟩, ⟨(.some 103), (.mv (.t 102)), none⟩, ⟨(.some 104), (.mv (.t 14)), (.some (103, false))⟩, ⟨(.some 105), (.mv (.t 8)), (.some (103, false))⟩, ⟨(.some 106), (.call true 30 [(.t 104), (.t 105)]), (.some (103, false))⟩, ⟨(.some 107), (.una .not (.t 106)), (.some (103, false))⟩, ⟨(.some 108), (.pick (.t 103) (.c (.lf (.bool true))) (.t 107)), none⟩, ⟨(.some 109), (.mv (.t 108)), none⟩, ⟨(.some 110), (.mv (.t 15)), (.some (109, false))⟩, ⟨(.some 111), (.mv (.t 9)), (.some (109, false))⟩, ⟨(.some 112), (.beq true (.t 110) (.t 111)), (.some (109, false))⟩, ⟨(.some 113), (.pick (.t 109) (.c (.lf (.bool true))) (.t 112)), none⟩])
 (.cond (.t 113) (.seq (.reg [⟨(.some 6), (.mv (.c (.lf (.bool false)))), none⟩])
 .ret) .skip))
 (.seq (.reg [⟨(.some 17), (.mv (.c (.lf (.int .i64 1)))), none⟩])
 (.seq (.reg [⟨(.some 114), (.mv (.t 13)), none⟩, ⟨(.some 115), (.mv (.t 17)), none⟩, ⟨(.some 116), (.call false 31 [(.t 114), (.t 115)]), none⟩, ⟨(.some 17), (.mv (.t 116)), none⟩])
 (.seq (.reg [⟨(.some 117), (.mv (.t 14)), none⟩, ⟨(.some 118), (.mv (.t 17)), none⟩, ⟨(.some 119), (.call false 31 [(.t 117), (.t 118)]), none⟩, ⟨(.some 17), (.mv (.t 119)), none⟩])
 (.seq (.reg [⟨(.some 18), (.mv (.c (.lf (.int .i64 1)))), none⟩])
 (.seq (.reg [⟨(.some 120), (.mv (.t 13)), none⟩, ⟨(.some 121), (.mv (.t 18)), none⟩, ⟨(.some 122), (.call true 32 [(.t 120), (.t 121)]), none⟩, ⟨(.some 18), (.mv (.t 122)), none⟩])
 (.seq (.seq (.reg [⟨(.some 123), (.mv (.t 18)), none⟩, ⟨(.some 124), (.bin .lss (.t 123) (.c (.lf (.int .i64 0)))), none⟩])
 (.cond (.t 124) (.seq (.reg [⟨(.some 6), (.mv (.c (.lf (.bool false)))), none⟩])
 .ret) .skip))
 (.seq (.reg [⟨(.some 125), (.mv (.t 14)), none⟩, ⟨(.some 126), (.mv (.t 18)), none⟩, ⟨(.some 127), (.call true 32 [(.t 125), (.t 126)]), none⟩, ⟨(.some 18), (.mv (.t 127)), none⟩])
 (.seq (.seq (.reg [⟨(.some 128), (.mv (.t 18)), none⟩, ⟨(.some 129), (.bin .lss (.t 128) (.c (.lf (.int .i64 0)))), none⟩])
 (.cond (.t 129) (.seq (.reg [⟨(.some 6), (.mv (.c (.lf (.bool false)))), none⟩])
 .ret) .skip))
 (.seq (.seq (.reg [⟨(.some 130), (.mv (.t 18)), none⟩, ⟨(.some 131), (.mv (.t 17)), none⟩, ⟨(.some 132), (.bin .neq (.t 130) (.t 131)), none⟩])
 (.cond (.t 132) (.seq (.reg [⟨(.some 6), (.mv (.c (.lf (.bool false)))), none⟩])
 .ret) .skip))
 (.seq (.reg [⟨(.some 134), (.mv (.t 0)), none⟩, ⟨(.some 135), (.call false 28 [(.t 134)]), none⟩, ⟨(.some 136), (.mv (.t 1)), none⟩, ⟨(.some 137), (.call false 28 [(.t 136)]), none⟩, ⟨(.some 138), (.mv (.t 2)), none⟩, ⟨(.some 139), (.call false 28 [(.t 138)]), none⟩, ⟨(.some 140), (.call false 61 [(.t 135), (.t 137), (.t 139)]), none⟩, ⟨(.some 133), (.mv (.t 140)), none⟩, ⟨(.some 141), (.ext (.t 133) 0), none⟩, ⟨(.some 142), (.ext (.t 133) 1), none⟩, ⟨(.some 143), (.ext (.t 133) 2), none⟩, ⟨(.some 19), (.mv (.t 141)), none⟩, ⟨(.some 20), (.mv (.t 142)), none⟩, ⟨(.some 21), (.mv (.t 143)), none⟩])
 (.seq (.seq (.reg [⟨(.some 144), (.mv (.t 19)), none⟩, ⟨(.some 145), (.mv (.t 7)), none⟩, ⟨(.some 146), (.call true 30 [(.t 144), (.t 145)]), none⟩, ⟨(.some 147), (.una .not (.t 146)), none⟩, ⟨(.some 148), (.mv (.t 147)), none⟩, ⟨(.some 149), (.mv (.t 20)), (.some (148, false))⟩, ⟨(.some 150), (.mv (.t 8)), (.some (148, false))⟩, ⟨(.some 151), (.call true 30 [(.t 149), (.t 150)]), (.some (148, false))⟩, ⟨(.some 152), (.una .not (.t 151)), (.some (148, false))⟩, ⟨(.some 153), (.pick (.t 148) (.c (.lf (.bool true))) (.t 152)), none⟩, ⟨(.some 154), (.mv (.t 153)), none⟩, ⟨(.some 155), (.mv (.t 21)), (.some (154, false))⟩, ⟨(.some 156), (.mv (.t 9)), (.some (154, false))⟩, ⟨(.some 157), (.beq true (.t 155) (.t 156)), (.some (154, false))⟩, ⟨(.some 158), (.pick (.t 154) (.c (.lf (.bool true))) (.t 157)), none⟩])
 (.cond (.t 158) (.seq (.reg [⟨(.some 6), (.mv (.c (.lf (.bool false)))), none⟩])
 .ret) .skip))
 (.seq (.reg [⟨(.some 18), (.mv (.c (.lf (.int .i64 1)))), none⟩])
 (.seq (.reg [⟨(.some 159), (.mv (.t 13)), none⟩, ⟨(.some 160), (.mv (.t 18)), none⟩, ⟨(.some 161), (.call true 32 [(.t 159), (.t 160)]), none⟩, ⟨(.some 18), (.mv (.t 161)), none⟩])
 (.seq (.seq (.reg [⟨(.some 162), (.mv (.t 18)), none⟩, ⟨(.some 163), (.bin .lss (.t 162) (.c (.lf (.int .i64 0)))), none⟩])
 (.cond (.t 163) (.seq (.reg [⟨(.some 6), (.mv (.c (.lf (.bool false)))), none⟩])
 .ret) .skip))
 (.seq (.reg [⟨(.some 164), (.mv (.t 14)), none⟩, ⟨(.some 165), (.mv (.t 18)), none⟩, ⟨(.some 166), (.call true 32 [(.t 164), (.t 165)]), none⟩, ⟨(.some 18), (.mv (.t 166)), none⟩])
 (.seq (.seq (.reg [⟨(.some 167), (.mv (.t 18)), none⟩, ⟨(.some 168), (.bin .lss (.t 167) (.c (.lf (.int .i64 0)))), none⟩])
 (.cond (.t 168) (.seq (.reg [⟨(.some 6), (.mv (.c (.lf (.bool false)))), none⟩])
 .ret) .skip))
 (.seq (.seq (.reg [⟨(.some 169), (.mv (.t 18)), none⟩, ⟨(.some 170), (.mv (.t 17)), none⟩, ⟨(.some 171), (.bin .neq (.t 169) (.t 170)), none⟩])
 (.cond (.t 171) (.seq (.reg [⟨(.some 6), (.mv (.c (.lf (.bool false)))), none⟩])
 .ret) .skip))
 (.seq (.reg [⟨(.some 6), (.mv (.c (.lf (.bool true)))), none⟩])
 .ret)))))))))))))))))))))))))))))))))))), [(.tmp 6)]⟩
class HasLFoldTaps (S : Sys) : Prop extends HasT S, HasF S where
  f14 : S.fs 14 = some L14
theorem fl_of {h : Hp} {r : List Lf} (t : Ty h (.flt .f32) r) : ∃ x : Nat, r = fl x ∧ True := by
  obtain ⟨x, rfl, _, _⟩ := t
  exact ⟨x, rfl, trivial⟩
theorem lawFoldTaps {S : Sys} [HasLFoldTaps S] : LawHolds S 14 [(false, .sl 1 (.flt .f32)), (false, .sl 1 (.flt .f32)), (false, .sl 1 (.flt .f32))] := by
  intro h cs hcs
  obtain ⟨c1, _, rfl, ⟨ls1, rfl, l1, rows1, rfl, hAl1, hrows1⟩, c2, _, rfl, ⟨ls2, rfl, l2, rows2, rfl, hAl2, hrows2⟩, c3, _, rfl, ⟨ls3, rfl, l3, rows3, rfl, hAl3, hrows3⟩, rfl⟩ := hcs
  obtain ⟨ts, rfl, _⟩ := rows_map (Q := fun _ => True) fun r hr => fl_of (hrows1 r hr)
  obtain ⟨ds, rfl, _⟩ := rows_map (Q := fun _ => True) fun r hr => fl_of (hrows2 r hr)
  obtain ⟨xs, rfl, _⟩ := rows_map (Q := fun _ => True) fun r hr => fl_of (hrows3 r hr)
  clear hrows1 hrows2 hrows3
  have hlo := foldO_len (ts := ts) (ds := ds) (xs := xs)
  have hlr := foldR_len (ts := ts) (ds := ds) (xs := xs)
  refine law_of (F := L14) HasLFoldTaps.f14 rfl ?_
  unfold L14
  dsimp only []
  repeat' (first | (simp (disch := first | omega | assumption | (simp [*] <;> fail) | assumption) [-Bool.decide_and, -Bool.decide_or, -Bool.not_and, -Bool.not_or, toNat_pred, toNat_succ, wrap64, wr_new, wr_new0, ok_if, ok_ifn, iadV_sl, makeV_int, decT, decF, *, hAl1.len, hAl2.len, hAl3.len]) | (refine Gd_split (fun hc => ?_) (fun hc => ?_) <;> (have hc2 := hc; try simp at hc2)) | (refine Br_split (fun hc => ?_) (fun hc => ?_) <;> (have hc2 := hc; try simp at hc2)) | omega)
  have hnl1 : ts.length ≤ 16777216 := by omega
  have hnl2 : ds.length ≤ 16777216 := by omega
  have hnl3 : xs.length ≤ 16777216 := by omega
  refine c_toFloat32S (hAl1.kept (Kept.refl h)) hnl1 (Kept.refl h).1 fun x0 g1 hx0 => ?_
  have K2 := (Kept.refl h).trans hx0.kept
  have Q2 := hx0.kept.1
  have Nx0 := hx0.base (Kept.refl h)
  have Zx0 := hx0.lt
  have P2 := K2.1
  repeat' (first | (simp (disch := first | omega | assumption | (simp [*] <;> fail) | assumption) [-Bool.decide_and, -Bool.decide_or, -Bool.not_and, -Bool.not_or, toNat_pred, toNat_succ, wrap64, wr_new, wr_new0, ok_if, ok_ifn, iadV_sl, makeV_int, decT, decF, *]) | (refine Gd_split (fun hc => ?_) (fun hc => ?_) <;> (have hc2 := hc; try simp at hc2)) | (refine Br_split (fun hc => ?_) (fun hc => ?_) <;> (have hc2 := hc; try simp at hc2)) | omega)
  refine c_toFloat32S (hAl2.kept K2) hnl2 K2.1 fun x1 g3 hx1 => ?_
  have K4 := K2.trans hx1.kept
  have Q4 := hx1.kept.1
  have Nx1 := hx1.base K2
  have Zx1 := hx1.lt
  replace Nx0 := Nx0.later hx1.kept
  have P4 := K4.1
  repeat' (first | (simp (disch := first | omega | assumption | (simp [*] <;> fail) | assumption) [-Bool.decide_and, -Bool.decide_or, -Bool.not_and, -Bool.not_or, toNat_pred, toNat_succ, wrap64, wr_new, wr_new0, ok_if, ok_ifn, iadV_sl, makeV_int, decT, decF, *]) | (refine Gd_split (fun hc => ?_) (fun hc => ?_) <;> (have hc2 := hc; try simp at hc2)) | (refine Br_split (fun hc => ?_) (fun hc => ?_) <;> (have hc2 := hc; try simp at hc2)) | omega)
  refine c_toFloat32S (hAl3.kept K4) hnl3 K4.1 fun x2 g5 hx2 => ?_
  have K6 := K4.trans hx2.kept
  have Q6 := hx2.kept.1
  have Nx2 := hx2.base K4
  have Zx2 := hx2.lt
  replace Nx0 := Nx0.later hx2.kept
  replace Nx1 := Nx1.later hx2.kept
  have P6 := K6.1
  repeat' (first | (simp (disch := first | omega | assumption | (simp [*] <;> fail) | assumption) [-Bool.decide_and, -Bool.decide_or, -Bool.not_and, -Bool.not_or, toNat_pred, toNat_succ, wrap64, wr_new, wr_new0, ok_if, ok_ifn, iadV_sl, makeV_int, decT, decF, *]) | (refine Gd_split (fun hc => ?_) (fun hc => ?_) <;> (have hc2 := hc; try simp at hc2)) | (refine Br_split (fun hc => ?_) (fun hc => ?_) <;> (have hc2 := hc; try simp at hc2)) | omega)
  refine d_specFoldTaps (Sm.new Nx0) (Sm.new Nx1) (Sm.new Nx2) K6.1 fun s0 g7 s1 g7' hs0 hs1 => ?_
  have K8 := K6.trans hs0.kept
  have Q8 := hs0.kept.1
  have Ns0 := hs0.base K6
  have Zs0 := hs0.lt
  replace Nx0 := Nx0.later hs0.kept
  replace Nx1 := Nx1.later hs0.kept
  replace Nx2 := Nx2.later hs0.kept
  have P8 := K8.1
  have K9 := K8.trans hs1.kept
  have Q9 := hs1.kept.1
  have Ns1 := hs1.base K8
  have Zs1 := hs1.lt
  replace Nx0 := Nx0.later hs1.kept
  replace Nx1 := Nx1.later hs1.kept
  replace Nx2 := Nx2.later hs1.kept
  replace Ns0 := Ns0.later hs1.kept
  have P9 := K9.1
  repeat' (first | (simp (disch := first | omega | assumption | (simp [*] <;> fail) | assumption) [-Bool.decide_and, -Bool.decide_or, -Bool.not_and, -Bool.not_or, toNat_pred, toNat_succ, wrap64, wr_new, wr_new0, ok_if, ok_ifn, iadV_sl, makeV_int, decT, decF, *]) | (refine Gd_split (fun hc => ?_) (fun hc => ?_) <;> (have hc2 := hc; try simp at hc2)) | (refine Br_split (fun hc => ?_) (fun hc => ?_) <;> (have hc2 := hc; try simp at hc2)) | omega)
  refine c_toFloat32S (hAl1.kept K9) hnl1 K9.1 fun a0 g10 ha0 => ?_
  have K11 := K9.trans ha0.kept
  have Q11 := ha0.kept.1
  have Na0 := ha0.base K9
  have Za0 := ha0.lt
  replace Ns0 := Ns0.later ha0.kept
  replace Ns1 := Ns1.later ha0.kept
  have P11 := K11.1
  repeat' (first | (simp (disch := first | omega | assumption | (simp [*] <;> fail) | assumption) [-Bool.decide_and, -Bool.decide_or, -Bool.not_and, -Bool.not_or, toNat_pred, toNat_succ, wrap64, wr_new, wr_new0, ok_if, ok_ifn, iadV_sl, makeV_int, decT, decF, *]) | (refine Gd_split (fun hc => ?_) (fun hc => ?_) <;> (have hc2 := hc; try simp at hc2)) | (refine Br_split (fun hc => ?_) (fun hc => ?_) <;> (have hc2 := hc; try simp at hc2)) | omega)
  refine c_toFloat32S (hAl2.kept K11) hnl2 K11.1 fun a1 g12 ha1 => ?_
  have K13 := K11.trans ha1.kept
  have Q13 := ha1.kept.1
  have Na1 := ha1.base K11
  have Za1 := ha1.lt
  replace Ns0 := Ns0.later ha1.kept
  replace Ns1 := Ns1.later ha1.kept
  replace Na0 := Na0.later ha1.kept
  have P13 := K13.1
  repeat' (first | (simp (disch := first | omega | assumption | (simp [*] <;> fail) | assumption) [-Bool.decide_and, -Bool.decide_or, -Bool.not_and, -Bool.not_or, toNat_pred, toNat_succ, wrap64, wr_new, wr_new0, ok_if, ok_ifn, iadV_sl, makeV_int, decT, decF, *]) | (refine Gd_split (fun hc => ?_) (fun hc => ?_) <;> (have hc2 := hc; try simp at hc2)) | (refine Br_split (fun hc => ?_) (fun hc => ?_) <;> (have hc2 := hc; try simp at hc2)) | omega)
  refine c_toFloat32S (hAl3.kept K13) hnl3 K13.1 fun a2 g14 ha2 => ?_
  have K15 := K13.trans ha2.kept
  have Q15 := ha2.kept.1
  have Na2 := ha2.base K13
  have Za2 := ha2.lt
  replace Ns0 := Ns0.later ha2.kept
  replace Ns1 := Ns1.later ha2.kept
  replace Na0 := Na0.later ha2.kept
  replace Na1 := Na1.later ha2.kept
  have P15 := K15.1
  repeat' (first | (simp (disch := first | omega | assumption | (simp [*] <;> fail) | assumption) [-Bool.decide_and, -Bool.decide_or, -Bool.not_and, -Bool.not_or, toNat_pred, toNat_succ, wrap64, wr_new, wr_new0, ok_if, ok_ifn, iadV_sl, makeV_int, decT, decF, *]) | (refine Gd_split (fun hc => ?_) (fun hc => ?_) <;> (have hc2 := hc; try simp at hc2)) | (refine Br_split (fun hc => ?_) (fun hc => ?_) <;> (have hc2 := hc; try simp at hc2)) | omega)
  refine d_implFoldTaps (Sm.new Na0) (Sm.new Na1) (Sm.new Na2) K15.1 fun r0 g16 r1 g16' hr0 hr1 => ?_
  have K17 := K15.trans hr0.kept
  have Q17 := hr0.kept.1
  have Nr0 := hr0.base K15
  have Zr0 := hr0.lt
  replace Ns0 := Ns0.later hr0.kept
  replace Ns1 := Ns1.later hr0.kept
  replace Na0 := Na0.later hr0.kept
  replace Na1 := Na1.later hr0.kept
  replace Na2 := Na2.later hr0.kept
  have P17 := K17.1
  have K18 := K17.trans hr1.kept
  have Q18 := hr1.kept.1
  have Nr1 := hr1.base K17
  have Zr1 := hr1.lt
  replace Ns0 := Ns0.later hr1.kept
  replace Ns1 := Ns1.later hr1.kept
  replace Na0 := Na0.later hr1.kept
  replace Na1 := Na1.later hr1.kept
  replace Na2 := Na2.later hr1.kept
  replace Nr0 := Nr0.later hr1.kept
  have P18 := K18.1
  repeat' (first | (simp (disch := first | omega | assumption | (simp [*] <;> fail) | assumption) [-Bool.decide_and, -Bool.decide_or, -Bool.not_and, -Bool.not_or, toNat_pred, toNat_succ, wrap64, wr_new, wr_new0, ok_if, ok_ifn, iadV_sl, makeV_int, decT, decF, *, c_eqFloat32S Nr0.arr Ns0.arr, c_eqFloat32S Nr1.arr Ns1.arr]) | (refine Gd_split (fun hc => ?_) (fun hc => ?_) <;> (have hc2 := hc; try simp at hc2)) | (refine Br_split (fun hc => ?_) (fun hc => ?_) <;> (have hc2 := hc; try simp at hc2)) | omega)
  refine c_toFloat32S (hAl1.kept K18) hnl1 K18.1 fun y0 g19 hy0 => ?_
  have K20 := K18.trans hy0.kept
  have Q20 := hy0.kept.1
  have Ny0 := hy0.base K18
  have Zy0 := hy0.lt
  replace Ns0 := Ns0.later hy0.kept
  replace Ns1 := Ns1.later hy0.kept
  replace Na0 := Na0.later hy0.kept
  replace Na1 := Na1.later hy0.kept
  replace Na2 := Na2.later hy0.kept
  replace Nr0 := Nr0.later hy0.kept
  replace Nr1 := Nr1.later hy0.kept
  have P20 := K20.1
  repeat' (first | (simp (disch := first | omega | assumption | (simp [*] <;> fail) | assumption) [-Bool.decide_and, -Bool.decide_or, -Bool.not_and, -Bool.not_or, toNat_pred, toNat_succ, wrap64, wr_new, wr_new0, ok_if, ok_ifn, iadV_sl, makeV_int, decT, decF, *, c_eqFloat32S Na0.arr Ny0.arr]) | (refine Gd_split (fun hc => ?_) (fun hc => ?_) <;> (have hc2 := hc; try simp at hc2)) | (refine Br_split (fun hc => ?_) (fun hc => ?_) <;> (have hc2 := hc; try simp at hc2)) | omega)
  refine c_toFloat32S (hAl2.kept K20) hnl2 K20.1 fun y1 g21 hy1 => ?_
  have K22 := K20.trans hy1.kept
  have Q22 := hy1.kept.1
  have Ny1 := hy1.base K20
  have Zy1 := hy1.lt
  replace Ns0 := Ns0.later hy1.kept
  replace Ns1 := Ns1.later hy1.kept
  replace Na0 := Na0.later hy1.kept
  replace Na1 := Na1.later hy1.kept
  replace Na2 := Na2.later hy1.kept
  replace Nr0 := Nr0.later hy1.kept
  replace Nr1 := Nr1.later hy1.kept
  have P22 := K22.1
  repeat' (first | (simp (disch := first | omega | assumption | (simp [*] <;> fail) | assumption) [-Bool.decide_and, -Bool.decide_or, -Bool.not_and, -Bool.not_or, toNat_pred, toNat_succ, wrap64, wr_new, wr_new0, ok_if, ok_ifn, iadV_sl, makeV_int, decT, decF, *, c_eqFloat32S Na1.arr Ny1.arr]) | (refine Gd_split (fun hc => ?_) (fun hc => ?_) <;> (have hc2 := hc; try simp at hc2)) | (refine Br_split (fun hc => ?_) (fun hc => ?_) <;> (have hc2 := hc; try simp at hc2)) | omega)
  refine c_toFloat32S (hAl3.kept K22) hnl3 K22.1 fun y2 g23 hy2 => ?_
  have K24 := K22.trans hy2.kept
  have Q24 := hy2.kept.1
  have Ny2 := hy2.base K22
  have Zy2 := hy2.lt
  replace Ns0 := Ns0.later hy2.kept
  replace Ns1 := Ns1.later hy2.kept
  replace Na0 := Na0.later hy2.kept
  replace Na1 := Na1.later hy2.kept
  replace Na2 := Na2.later hy2.kept
  replace Nr0 := Nr0.later hy2.kept
  replace Nr1 := Nr1.later hy2.kept
  have P24 := K24.1
  repeat' (first | (simp (disch := first | omega | assumption | (simp [*] <;> fail) | assumption) [-Bool.decide_and, -Bool.decide_or, -Bool.not_and, -Bool.not_or, toNat_pred, toNat_succ, wrap64, wr_new, wr_new0, ok_if, ok_ifn, iadV_sl, makeV_int, decT, decF, *, c_eqFloat32S Na2.arr Ny2.arr]) | (refine Gd_split (fun hc => ?_) (fun hc => ?_) <;> (have hc2 := hc; try simp at hc2)) | (refine Br_split (fun hc => ?_) (fun hc => ?_) <;> (have hc2 := hc; try simp at hc2)) | omega)
  refine c_markFloat32S Na0 (by simp; omega) (by omega) (by omega) (Nat.le_refl _) fun g25 hM25 hB25 => ?_
  have Q25 := hB25.len
  replace Ns0 := hB25.new Ns0 (fun hn => (Na0.lt hn).1) (fun hn hn2 => by have := Za0 hn; have := Zs0 hn2; omega)
  replace Ns1 := hB25.new Ns1 (fun hn => (Na0.lt hn).1) (fun hn hn2 => by have := Za0 hn; have := Zs1 hn2; omega)
  replace Na1 := hB25.new Na1 (fun hn => (Na0.lt hn).1) (fun hn hn2 => by have := Za0 hn; have := Za1 hn2; omega)
  replace Na2 := hB25.new Na2 (fun hn => (Na0.lt hn).1) (fun hn hn2 => by have := Za0 hn; have := Za2 hn2; omega)
  replace Nr0 := hB25.new Nr0 (fun hn => (Na0.lt hn).1) (fun hn hn2 => by have := Za0 hn; have := Zr0 hn2; omega)
  replace Nr1 := hB25.new Nr1 (fun hn => (Na0.lt hn).1) (fun hn hn2 => by have := Za0 hn; have := Zr1 hn2; omega)
  simp only [List.length_map] at hM25
  replace Na0 := hM25
  have K25 := hM25.kept
  repeat' (first | (simp (disch := first | omega | assumption | (simp [*] <;> fail) | assumption) [-Bool.decide_and, -Bool.decide_or, -Bool.not_and, -Bool.not_or, toNat_pred, toNat_succ, wrap64, wr_new, wr_new0, ok_if, ok_ifn, iadV_sl, makeV_int, decT, decF, *]) | (refine Gd_split (fun hc => ?_) (fun hc => ?_) <;> (have hc2 := hc; try simp at hc2)) | (refine Br_split (fun hc => ?_) (fun hc => ?_) <;> (have hc2 := hc; try simp at hc2)) | omega)
  refine c_markFloat32S Na1 (by simp; omega) (by omega) (by omega) (Nat.le_refl _) fun g26 hM26 hB26 => ?_
  have Q26 := hB26.len
  replace Ns0 := hB26.new Ns0 (fun hn => (Na1.lt hn).1) (fun hn hn2 => by have := Za1 hn; have := Zs0 hn2; omega)
  replace Ns1 := hB26.new Ns1 (fun hn => (Na1.lt hn).1) (fun hn hn2 => by have := Za1 hn; have := Zs1 hn2; omega)
  replace Na0 := hB26.new Na0 (fun hn => (Na1.lt hn).1) (fun hn hn2 => by have := Za1 hn; have := Za0 hn2; omega)
  replace Na2 := hB26.new Na2 (fun hn => (Na1.lt hn).1) (fun hn hn2 => by have := Za1 hn; have := Za2 hn2; omega)
  replace Nr0 := hB26.new Nr0 (fun hn => (Na1.lt hn).1) (fun hn hn2 => by have := Za1 hn; have := Zr0 hn2; omega)
  replace Nr1 := hB26.new Nr1 (fun hn => (Na1.lt hn).1) (fun hn hn2 => by have := Za1 hn; have := Zr1 hn2; omega)
  simp only [List.length_map] at hM26
  replace Na1 := hM26
  have K26 := hM26.kept
  repeat' (first | (simp (disch := first | omega | assumption | (simp [*] <;> fail) | assumption) [-Bool.decide_and, -Bool.decide_or, -Bool.not_and, -Bool.not_or, toNat_pred, toNat_succ, wrap64, wr_new, wr_new0, ok_if, ok_ifn, iadV_sl, makeV_int, decT, decF, *]) | (refine Gd_split (fun hc => ?_) (fun hc => ?_) <;> (have hc2 := hc; try simp at hc2)) | (refine Br_split (fun hc => ?_) (fun hc => ?_) <;> (have hc2 := hc; try simp at hc2)) | omega)
  refine c_markFloat32S Na2 (by simp; omega) (by omega) (by omega) (Nat.le_refl _) fun g27 hM27 hB27 => ?_
  have Q27 := hB27.len
  replace Ns0 := hB27.new Ns0 (fun hn => (Na2.lt hn).1) (fun hn hn2 => by have := Za2 hn; have := Zs0 hn2; omega)
  replace Ns1 := hB27.new Ns1 (fun hn => (Na2.lt hn).1) (fun hn hn2 => by have := Za2 hn; have := Zs1 hn2; omega)
  replace Na0 := hB27.new Na0 (fun hn => (Na2.lt hn).1) (fun hn hn2 => by have := Za2 hn; have := Za0 hn2; omega)
  replace Na1 := hB27.new Na1 (fun hn => (Na2.lt hn).1) (fun hn hn2 => by have := Za2 hn; have := Za1 hn2; omega)
  replace Nr0 := hB27.new Nr0 (fun hn => (Na2.lt hn).1) (fun hn hn2 => by have := Za2 hn; have := Zr0 hn2; omega)
  replace Nr1 := hB27.new Nr1 (fun hn => (Na2.lt hn).1) (fun hn hn2 => by have := Za2 hn; have := Zr1 hn2; omega)
  simp only [List.length_map] at hM27
  replace Na2 := hM27
  have K27 := hM27.kept
  repeat' (first | (simp (disch := first | omega | assumption | (simp [*] <;> fail) | assumption) [-Bool.decide_and, -Bool.decide_or, -Bool.not_and, -Bool.not_or, toNat_pred, toNat_succ, wrap64, wr_new, wr_new0, ok_if, ok_ifn, iadV_sl, makeV_int, decT, decF, *, c_eqFloat32S Nr0.arr Ns0.arr, c_eqFloat32S Nr1.arr Ns1.arr]) | (refine Gd_split (fun hc => ?_) (fun hc => ?_) <;> (have hc2 := hc; try simp at hc2)) | (refine Br_split (fun hc => ?_) (fun hc => ?_) <;> (have hc2 := hc; try simp at hc2)) | omega)
  refine c_markFloat32S Nr0 (by simp; omega) (by omega) (by omega) (Nat.le_refl _) fun g28 hM28 hB28 => ?_
  have Q28 := hB28.len
  replace Ns0 := hB28.new Ns0 (fun hn => (Nr0.lt hn).1) (fun hn hn2 => by have := Zr0 hn; have := Zs0 hn2; omega)
  replace Ns1 := hB28.new Ns1 (fun hn => (Nr0.lt hn).1) (fun hn hn2 => by have := Zr0 hn; have := Zs1 hn2; omega)
  replace Nr1 := hB28.new Nr1 (fun hn => (Nr0.lt hn).1) (fun hn hn2 => by have := Zr0 hn; have := Zr1 hn2; omega)
  simp only [List.length_map] at hM28
  replace Nr0 := hM28
  have K28 := hM28.kept
  repeat' (first | (simp (disch := first | omega | assumption | (simp [*] <;> fail) | assumption) [-Bool.decide_and, -Bool.decide_or, -Bool.not_and, -Bool.not_or, toNat_pred, toNat_succ, wrap64, wr_new, wr_new0, ok_if, ok_ifn, iadV_sl, makeV_int, decT, decF, *]) | (refine Gd_split (fun hc => ?_) (fun hc => ?_) <;> (have hc2 := hc; try simp at hc2)) | (refine Br_split (fun hc => ?_) (fun hc => ?_) <;> (have hc2 := hc; try simp at hc2)) | omega)
  refine c_markFloat32S Nr1 (by simp; omega) (by omega) (by omega) (Nat.le_refl _) fun g29 hM29 hB29 => ?_
  have Q29 := hB29.len
  replace Ns0 := hB29.new Ns0 (fun hn => (Nr1.lt hn).1) (fun hn hn2 => by have := Zr1 hn; have := Zs0 hn2; omega)
  replace Ns1 := hB29.new Ns1 (fun hn => (Nr1.lt hn).1) (fun hn hn2 => by have := Zr1 hn; have := Zs1 hn2; omega)
  replace Nr0 := hB29.new Nr0 (fun hn => (Nr1.lt hn).1) (fun hn hn2 => by have := Zr1 hn; have := Zr0 hn2; omega)
  simp only [List.length_map] at hM29
  replace Nr1 := hM29
  have K29 := hM29.kept
  repeat' (first | (simp (disch := first | omega | assumption | (simp [*] <;> fail) | assumption) [-Bool.decide_and, -Bool.decide_or, -Bool.not_and, -Bool.not_or, toNat_pred, toNat_succ, wrap64, wr_new, wr_new0, ok_if, ok_ifn, iadV_sl, makeV_int, decT, decF, *, c_heldFloat32S Nr0.arr, c_heldFloat32S Nr1.arr]) | (refine Gd_split (fun hc => ?_) (fun hc => ?_) <;> (have hc2 := hc; try simp at hc2)) | (refine Br_split (fun hc => ?_) (fun hc => ?_) <;> (have hc2 := hc; try simp at hc2)) | omega)
  refine c_toFloat32S (hAl1.kept K29) hnl1 K29.1 fun w0 g30 hw0 => ?_
  have K31 := K29.trans hw0.kept
  have Q31 := hw0.kept.1
  have Nw0 := hw0.base K29
  have Zw0 := hw0.lt
  replace Ns0 := Ns0.later hw0.kept
  replace Ns1 := Ns1.later hw0.kept
  replace Nr0 := Nr0.later hw0.kept
  replace Nr1 := Nr1.later hw0.kept
  have P31 := K31.1
  repeat' (first | (simp (disch := first | omega | assumption | (simp [*] <;> fail) | assumption) [-Bool.decide_and, -Bool.decide_or, -Bool.not_and, -Bool.not_or, toNat_pred, toNat_succ, wrap64, wr_new, wr_new0, ok_if, ok_ifn, iadV_sl, makeV_int, decT, decF, *]) | (refine Gd_split (fun hc => ?_) (fun hc => ?_) <;> (have hc2 := hc; try simp at hc2)) | (refine Br_split (fun hc => ?_) (fun hc => ?_) <;> (have hc2 := hc; try simp at hc2)) | omega)
  refine c_toFloat32S (hAl2.kept K31) hnl2 K31.1 fun w1 g32 hw1 => ?_
  have K33 := K31.trans hw1.kept
  have Q33 := hw1.kept.1
  have Nw1 := hw1.base K31
  have Zw1 := hw1.lt
  replace Ns0 := Ns0.later hw1.kept
  replace Ns1 := Ns1.later hw1.kept
  replace Nr0 := Nr0.later hw1.kept
  replace Nr1 := Nr1.later hw1.kept
  replace Nw0 := Nw0.later hw1.kept
  have P33 := K33.1
  repeat' (first | (simp (disch := first | omega | assumption | (simp [*] <;> fail) | assumption) [-Bool.decide_and, -Bool.decide_or, -Bool.not_and, -Bool.not_or, toNat_pred, toNat_succ, wrap64, wr_new, wr_new0, ok_if, ok_ifn, iadV_sl, makeV_int, decT, decF, *]) | (refine Gd_split (fun hc => ?_) (fun hc => ?_) <;> (have hc2 := hc; try simp at hc2)) | (refine Br_split (fun hc => ?_) (fun hc => ?_) <;> (have hc2 := hc; try simp at hc2)) | omega)
  refine c_toFloat32S (hAl3.kept K33) hnl3 K33.1 fun w2 g34 hw2 => ?_
  have K35 := K33.trans hw2.kept
  have Q35 := hw2.kept.1
  have Nw2 := hw2.base K33
  have Zw2 := hw2.lt
  replace Ns0 := Ns0.later hw2.kept
  replace Ns1 := Ns1.later hw2.kept
  replace Nr0 := Nr0.later hw2.kept
  replace Nr1 := Nr1.later hw2.kept
  replace Nw0 := Nw0.later hw2.kept
  replace Nw1 := Nw1.later hw2.kept
  have P35 := K35.1
  repeat' (first | (simp (disch := first | omega | assumption | (simp [*] <;> fail) | assumption) [-Bool.decide_and, -Bool.decide_or, -Bool.not_and, -Bool.not_or, toNat_pred, toNat_succ, wrap64, wr_new, wr_new0, ok_if, ok_ifn, iadV_sl, makeV_int, decT, decF, *]) | (refine Gd_split (fun hc => ?_) (fun hc => ?_) <;> (have hc2 := hc; try simp at hc2)) | (refine Br_split (fun hc => ?_) (fun hc => ?_) <;> (have hc2 := hc; try simp at hc2)) | omega)
  refine d_implFoldTaps (Sm.new Nw0) (Sm.new Nw1) (Sm.new Nw2) K35.1 fun u0 g36 u1 g36' hu0 hu1 => ?_
  have K37 := K35.trans hu0.kept
  have Q37 := hu0.kept.1
  have Nu0 := hu0.base K35
  have Zu0 := hu0.lt
  replace Ns0 := Ns0.later hu0.kept
  replace Ns1 := Ns1.later hu0.kept
  replace Nr0 := Nr0.later hu0.kept
  replace Nr1 := Nr1.later hu0.kept
  replace Nw0 := Nw0.later hu0.kept
  replace Nw1 := Nw1.later hu0.kept
  replace Nw2 := Nw2.later hu0.kept
  have P37 := K37.1
  have K38 := K37.trans hu1.kept
  have Q38 := hu1.kept.1
  have Nu1 := hu1.base K37
  have Zu1 := hu1.lt
  replace Ns0 := Ns0.later hu1.kept
  replace Ns1 := Ns1.later hu1.kept
  replace Nr0 := Nr0.later hu1.kept
  replace Nr1 := Nr1.later hu1.kept
  replace Nw0 := Nw0.later hu1.kept
  replace Nw1 := Nw1.later hu1.kept
  replace Nw2 := Nw2.later hu1.kept
  replace Nu0 := Nu0.later hu1.kept
  have P38 := K38.1
  repeat' (first | (simp (disch := first | omega | assumption | (simp [*] <;> fail) | assumption) [-Bool.decide_and, -Bool.decide_or, -Bool.not_and, -Bool.not_or, toNat_pred, toNat_succ, wrap64, wr_new, wr_new0, ok_if, ok_ifn, iadV_sl, makeV_int, decT, decF, *, c_eqFloat32S Nu0.arr Ns0.arr, c_eqFloat32S Nu1.arr Ns1.arr, c_heldFloat32S Nr0.arr, c_heldFloat32S Nr1.arr]) | (refine Gd_split (fun hc => ?_) (fun hc => ?_) <;> (have hc2 := hc; try simp at hc2)) | (refine Br_split (fun hc => ?_) (fun hc => ?_) <;> (have hc2 := hc; try simp at hc2)) | omega)
end Go.E
namespace Go.E.FoldTaps
open Go Go.E
def pure : FuncId → Bool := fun f => List.elem f [3, 4, 5, 6, 7, 8, 9, 10, 11, 12, 13, 14, 15, 16, 17, 18, 21, 23, 24, 26, 30, 32, 33, 34, 35, 36, 38, 39, 42, 43, 45, 48, 50, 55, 56, 58, 59, 62, 63, 64, 65, 66, 67, 68, 69, 70, 71, 72, 73, 74, 75, 76, 77, 78, 79, 80, 81, 82, 84, 87, 88, 90, 91, 94, 97, 98, 99, 100, 101, 102, 104, 106, 107, 108, 110, 112, 113, 115, 116, 117, 118, 119, 120, 121, 122, 123, 124, 125, 126, 127, 128, 129, 130, 131, 132, 133, 134, 135, 136, 138, 140, 142, 149, 151]
def funs : List (Nat × LFn) := [(77, L77), (78, L78), (79, L79), (82, L82), (40, L40), (41, L41), (70, L70), (71, L71), (81, L81), (83, L83), (84, L84), (60, L60), (61, L61), (102, L102), (103, L103), (104, L104), (105, L105), (114, L114), (72, L72), (28, L28), (30, L30), (31, L31), (32, L32), (14, L14)]
def Sy : Sys := sysOf funs
theorem lfn77 : lFn Go.Proofs.Try.prog pure Go.Proofs.Try.f77 = some L77 := by kernel_rfl
theorem lfn78 : lFn Go.Proofs.Try.prog pure Go.Proofs.Try.f78 = some L78 := by kernel_rfl
theorem lfn79 : lFn Go.Proofs.Try.prog pure Go.Proofs.Try.f79 = some L79 := by kernel_rfl
theorem lfn82 : lFn Go.Proofs.Try.prog pure Go.Proofs.Try.f82 = some L82 := by kernel_rfl
theorem lfn40 : lFn Go.Proofs.Try.prog pure Go.Proofs.Try.f40 = some L40 := by kernel_rfl
theorem lfn41 : lFn Go.Proofs.Try.prog pure Go.Proofs.Try.f41 = some L41 := by kernel_rfl
theorem lfn70 : lFn Go.Proofs.Try.prog pure Go.Proofs.Try.f70 = some L70 := by kernel_rfl
theorem lfn71 : lFn Go.Proofs.Try.prog pure Go.Proofs.Try.f71 = some L71 := by kernel_rfl
theorem lfn81 : lFn Go.Proofs.Try.prog pure Go.Proofs.Try.f81 = some L81 := by kernel_rfl
theorem lfn83 : lFn Go.Proofs.Try.prog pure Go.Proofs.Try.f83 = some L83 := by kernel_rfl
theorem lfn84 : lFn Go.Proofs.Try.prog pure Go.Proofs.Try.f84 = some L84 := by kernel_rfl
theorem lfn60 : lFn Go.Proofs.Try.prog pure Go.Proofs.Try.f60 = some L60 := by kernel_rfl
theorem lfn61 : lFn Go.Proofs.Try.prog pure Go.Proofs.Try.f61 = some L61 := by kernel_rfl
theorem lfn102 : lFn Go.Proofs.Try.prog pure Go.Proofs.Try.f102 = some L102 := by kernel_rfl
theorem lfn103 : lFn Go.Proofs.Try.prog pure Go.Proofs.Try.f103 = some L103 := by kernel_rfl
theorem lfn104 : lFn Go.Proofs.Try.prog pure Go.Proofs.Try.f104 = some L104 := by kernel_rfl
theorem lfn105 : lFn Go.Proofs.Try.prog pure Go.Proofs.Try.f105 = some L105 := by kernel_rfl
theorem lfn114 : lFn Go.Proofs.Try.prog pure Go.Proofs.Try.f114 = some L114 := by kernel_rfl
theorem lfn72 : lFn Go.Proofs.Try.prog pure Go.Proofs.Try.f72 = some L72 := by kernel_rfl
theorem lfn28 : lFn Go.Proofs.Try.prog pure Go.Proofs.Try.f28 = some L28 := by kernel_rfl
theorem lfn30 : lFn Go.Proofs.Try.prog pure Go.Proofs.Try.f30 = some L30 := by kernel_rfl
theorem lfn31 : lFn Go.Proofs.Try.prog pure Go.Proofs.Try.f31 = some L31 := by kernel_rfl
theorem lfn32 : lFn Go.Proofs.Try.prog pure Go.Proofs.Try.f32 = some L32 := by kernel_rfl
theorem lfn14 : lFn Go.Proofs.Try.prog pure Go.Proofs.Try.f14 = some L14 := by kernel_rfl
instance : HasA Sy := { f77 := rfl, f78 := rfl, f79 := rfl, f82 := rfl }
instance : HasP Sy := { f40 := rfl, f41 := rfl, f70 := rfl, f71 := rfl, f81 := rfl, f83 := rfl, f84 := rfl }
instance : HasT Sy := { f60 := rfl, f61 := rfl, f102 := rfl, f103 := rfl, f104 := rfl, f105 := rfl, f114 := rfl }
instance : HasSame Sy := { f72 := rfl }
instance : HasF Sy := { f28 := rfl, f30 := rfl, f31 := rfl, f32 := rfl }
instance : HasLFoldTaps Sy := { f14 := rfl }
theorem sysOK {B : Nat} {w0 : World} : SysOK Go.Proofs.Try.prog pure Sy B w0 := SysOK.of (by
  intro p hp
  simp only [funs, List.mem_cons, List.not_mem_nil, or_false] at hp
  rcases hp with rfl | rfl | rfl | rfl | rfl | rfl | rfl | rfl | rfl | rfl | rfl | rfl | rfl | rfl | rfl | rfl | rfl | rfl | rfl | rfl | rfl | rfl | rfl | rfl
  · exact ⟨_, Go.Proofs.Try.func77, lfn77⟩
  · exact ⟨_, Go.Proofs.Try.func78, lfn78⟩
  · exact ⟨_, Go.Proofs.Try.func79, lfn79⟩
  · exact ⟨_, Go.Proofs.Try.func82, lfn82⟩
  · exact ⟨_, Go.Proofs.Try.func40, lfn40⟩
  · exact ⟨_, Go.Proofs.Try.func41, lfn41⟩
  · exact ⟨_, Go.Proofs.Try.func70, lfn70⟩
  · exact ⟨_, Go.Proofs.Try.func71, lfn71⟩
  · exact ⟨_, Go.Proofs.Try.func81, lfn81⟩
  · exact ⟨_, Go.Proofs.Try.func83, lfn83⟩
  · exact ⟨_, Go.Proofs.Try.func84, lfn84⟩
  · exact ⟨_, Go.Proofs.Try.func60, lfn60⟩
  · exact ⟨_, Go.Proofs.Try.func61, lfn61⟩
  · exact ⟨_, Go.Proofs.Try.func102, lfn102⟩
  · exact ⟨_, Go.Proofs.Try.func103, lfn103⟩
  · exact ⟨_, Go.Proofs.Try.func104, lfn104⟩
  · exact ⟨_, Go.Proofs.Try.func105, lfn105⟩
  · exact ⟨_, Go.Proofs.Try.func114, lfn114⟩
  · exact ⟨_, Go.Proofs.Try.func72, lfn72⟩
  · exact ⟨_, Go.Proofs.Try.func28, lfn28⟩
  · exact ⟨_, Go.Proofs.Try.func30, lfn30⟩
  · exact ⟨_, Go.Proofs.Try.func31, lfn31⟩
  · exact ⟨_, Go.Proofs.Try.func32, lfn32⟩
  · exact ⟨_, Go.Proofs.Try.func14, lfn14⟩)

end Go.E.FoldTaps
