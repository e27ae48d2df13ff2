/- The law of RaiseBy: what the evaluator finds. -/
import Derived.Test.YtpjgmichaeiifaaMRb
import Derived.Test.YtpjgmichaeiifaaEE
import Derived.Test.YtpjgmichaeiifaaProg
set_option linter.unusedVariables false
set_option linter.unusedSimpArgs false
namespace Go.E
open Go
def L6 : LFn := ⟨3, (.seq (.reg [⟨(.some 6), (.mv (.c (.lf (.bool false)))), none⟩])
 (.seq (.seq (.reg [⟨(.some 18), (.mv (.t 1)), none⟩, ⟨(.some 19), (.len (.t 18)), none⟩, ⟨(.some 20), (.bin .gtr (.t 19) (.c (.lf (.int .i64 1048576)))), none⟩])
 (.cond (.t 20) (.seq (.reg [⟨(.some 6), (.mv (.c (.lf (.bool true)))), none⟩])
 .ret) .skip))
 (.seq (.seq (.reg [⟨(.some 21), (.mv (.t 2)), none⟩, ⟨(.some 22), (.len (.t 21)), none⟩, ⟨(.some 23), (.bin .gtr (.t 22) (.c (.lf (.int .i64 1048576)))), none⟩])
 (.cond (.t 23) (.seq (.reg [⟨(.some 6), (.mv (.c (.lf (.bool true)))), none⟩])
 .ret) .skip))
 (.seq (.reg [⟨(.some 25), (.mv (.t 0)), none⟩, ⟨(.some 26), (.mv (.t 1)), none⟩, ⟨(.some 27), (.call false 21 [(.t 26)]), none⟩, ⟨(.some 28), (.mv (.t 2)), none⟩, ⟨(.some 29), (.call false 21 [(.t 28)]), none⟩, ⟨(.some 30), (.call false 31 [(.t 25), (.t 27), (.t 29)]), none⟩, ⟨(.some 24), (.mv (.t 30)), none⟩, ⟨(.some 31), (.ext (.t 24) 0), none⟩, ⟨(.some 32), (.ext (.t 24) 1), none⟩, ⟨(.some 7), (.mv (.t 31)), none⟩, ⟨(.some 8), (.mv (.t 32)), none⟩])
 (.seq (.reg [⟨(.some 33), (.mv (.t 1)), none⟩, ⟨(.some 34), (.call false 21 [(.t 33)]), none⟩, ⟨(.some 9), (.mv (.t 34)), none⟩])
 (.seq (.reg [⟨(.some 35), (.mv (.t 2)), none⟩, ⟨(.some 36), (.call false 21 [(.t 35)]), none⟩, ⟨(.some 10), (.mv (.t 36)), none⟩])
 (.seq (.reg [⟨(.some 38), (.mv (.t 0)), none⟩, ⟨(.some 39), (.mv (.t 9)), none⟩, ⟨(.some 40), (.mv (.t 10)), none⟩, ⟨(.some 41), (.call false 32 [(.t 38), (.t 39), (.t 40)]), none⟩, ⟨(.some 37), (.mv (.t 41)), none⟩, ⟨(.some 42), (.ext (.t 37) 0), none⟩, ⟨(.some 43), (.ext (.t 37) 1), none⟩, ⟨(.some 11), (.mv (.t 42)), none⟩, ⟨(.some 12), (.mv (.t 43)), none⟩])
 (.seq (.seq (.reg [⟨(.some 44), (.mv (.t 11)), none⟩, ⟨(.some 45), (.mv (.t 7)), none⟩, ⟨(.some 46), (.call true 23 [(.t 44), (.t 45)]), none⟩, ⟨(.some 47), (.una .not (.t 46)), none⟩, ⟨(.some 48), (.mv (.t 47)), none⟩, ⟨(.some 49), (.mv (.t 12)), (.some (48, false))⟩, ⟨(.some 50), (.mv (.t 8)), (.some (48, false))⟩, ⟨(.some 51), (.beq true (.t 49) (.t 50)), (.some (48, false))⟩, ⟨(.some 52), (.pick (.t 48) (.c (.lf (.bool true))) (.t 51)), none⟩])
 (.cond (.t 52) (.seq (.reg [⟨(.some 6), (.mv (.c (.lf (.bool false)))), none⟩])
 .ret) .skip))
 (.seq (.seq (.reg [⟨(.some 53), (.mv (.t 9)), none⟩, ⟨(.some 54), (.mv (.t 1)), none⟩, ⟨(.some 55), (.call false 21 [(.t 54)]), none⟩, ⟨(.some 56), (.call true 23 [(.t 53), (.t 55)]), none⟩, ⟨(.some 57), (.una .not (.t 56)), none⟩])
 (.cond (.t 57) (.seq (.reg [⟨(.some 6), (.mv (.c (.lf (.bool false)))), none⟩])
 .ret) .skip))
 (.seq (.seq (.reg [⟨(.some 58), (.mv (.t 10)), none⟩, ⟨(.some 59), (.mv (.t 2)), none⟩, ⟨(.some 60), (.call false 21 [(.t 59)]), none⟩, ⟨(.some 61), (.call true 23 [(.t 58), (.t 60)]), none⟩, ⟨(.some 62), (.una .not (.t 61)), none⟩])
 (.cond (.t 62) (.seq (.reg [⟨(.some 6), (.mv (.c (.lf (.bool false)))), none⟩])
 .ret) .skip))
 (.seq (.reg [⟨(.some 13), (.mv (.c (.lf (.int .i64 1)))), none⟩])
 (.seq (.reg [⟨(.some 63), (.mv (.t 9)), none⟩, ⟨(.some 64), (.mv (.t 13)), none⟩, ⟨(.some 65), (.call false 24 [(.t 63), (.t 64)]), none⟩, ⟨(.some 13), (.mv (.t 65)), none⟩])
 (.seq (.reg [⟨(.some 66), (.mv (.t 10)), none⟩, ⟨(.some 67), (.mv (.t 13)), none⟩, ⟨(.some 68), (.call false 24 [(.t 66), (.t 67)]), none⟩, ⟨(.some 13), (.mv (.t 68)), none⟩])
 (.seq (.seq (.reg [⟨(.some 69), (.mv (.t 13)), none⟩, ⟨(.some 70), (.bin .lss (.t 69) (.c (.lf (.int .i64 0)))), none⟩, ⟨(.some 71), (.mv (.t 70)), none⟩, ⟨(.some 72), (.mv (.t 11)), (.some (71, false))⟩, ⟨(.some 73), (.mv (.t 7)), (.some (71, false))⟩, ⟨(.some 74), (.call true 23 [(.t 72), (.t 73)]), (.some (71, false))⟩, ⟨(.some 75), (.una .not (.t 74)), (.some (71, false))⟩, ⟨(.some 76), (.pick (.t 71) (.c (.lf (.bool true))) (.t 75)), none⟩, ⟨(.some 77), (.mv (.t 76)), none⟩, ⟨(.some 78), (.mv (.t 12)), (.some (77, false))⟩, ⟨(.some 79), (.mv (.t 8)), (.some (77, false))⟩, ⟨(.some 80), (.beq true (.t 78) (.t 79)), (.some (77, false))⟩, ⟨(.some 81), (.pick (.t 77) (.c (.lf (.bool true))) (.t 80)), none⟩])
 (.cond (.t 81) (.seq (.reg [⟨(.some 6), (.mv (.c (.lf (.bool false)))), none⟩])
 .ret) .skip))
 (.seq (.reg [⟨(.some 14), (.mv (.c (.lf (.int .i64 1)))), none⟩])
 (.seq (.reg [⟨(.some 82), (.mv (.t 11)), none⟩, ⟨(.some 83), (.mv (.t 14)), none⟩, ⟨(.some 84), (.call false 24 [(.t 82), (.t 83)]), none⟩, ⟨(.some 14), (.mv (.t 84)), none⟩])
 (.seq (.reg [⟨(.some 15), (.mv (.c (.lf (.int .i64 1)))), none⟩])
 (.seq (.reg [⟨(.some 85), (.mv (.t 11)), none⟩, ⟨(.some 86), (.mv (.t 15)), none⟩, ⟨(.some 87), (.call true 25 [(.t 85), (.t 86)]), none⟩, ⟨(.some 15), (.mv (.t 87)), none⟩])
 (.seq (.seq (.reg [⟨(.some 88), (.mv (.t 15)), none⟩, ⟨(.some 89), (.bin .lss (.t 88) (.c (.lf (.int .i64 0)))), none⟩])
 (.cond (.t 89) (.seq (.reg [⟨(.some 6), (.mv (.c (.lf (.bool false)))), none⟩])
 .ret) .skip))
 (.seq (.seq (.reg [⟨(.some 90), (.mv (.t 15)), none⟩, ⟨(.some 91), (.mv (.t 14)), none⟩, ⟨(.some 92), (.bin .neq (.t 90) (.t 91)), none⟩])
 (.cond (.t 92) (.seq (.reg [⟨(.some 6), (.mv (.c (.lf (.bool false)))), none⟩])
 .ret) .skip))
 (.seq (.reg [⟨(.some 94), (.mv (.t 0)), none⟩, ⟨(.some 95), (.mv (.t 1)), none⟩, ⟨(.some 96), (.call false 21 [(.t 95)]), none⟩, ⟨(.some 97), (.mv (.t 2)), none⟩, ⟨(.some 98), (.call false 21 [(.t 97)]), none⟩, ⟨(.some 99), (.call false 32 [(.t 94), (.t 96), (.t 98)]), none⟩, ⟨(.some 93), (.mv (.t 99)), none⟩, ⟨(.some 100), (.ext (.t 93) 0), none⟩, ⟨(.some 101), (.ext (.t 93) 1), none⟩, ⟨(.some 16), (.mv (.t 100)), none⟩, ⟨(.some 17), (.mv (.t 101)), none⟩])
 (.seq (.seq (.reg [⟨(.some 102), (.mv (.t 16)), none⟩, ⟨(.some 103), (.mv (.t 7)), none⟩, ⟨(.some 104), (.call true 23 [(.t 102), (.t 103)]), none⟩, ⟨(.some 105), (.una .not (.t 104)), none⟩, ⟨(.some 106), (.mv (.t 105)), none⟩, ⟨(.some 107), (.mv (.t 17)), (.some (106, false))⟩, ⟨(.some 108), (.mv (.t 8)), (.some (106, false))⟩, ⟨(.some 109), (.beq true (.t 107) (.t 108)), (.some (106, false))⟩, ⟨(.some 110), (.pick (.t 106) (.c (.lf (.bool true))) (.t 109)), none⟩])
 (.cond (.t 110) (.seq (.reg [⟨(.some 6), (.mv (.c (.lf (.bool false)))), none⟩])
 .ret) .skip))
 (.seq (.reg [⟨(.some 15), (.mv (.c (.lf (.int .i64 1)))), none⟩])
 (.seq (.reg [⟨(.some 111), (.mv (.t 11)), none⟩, ⟨(.some 112), (.mv (.t 15)), none⟩, ⟨(.some 113), (.call true 25 [(.t 111), (.t 112)]), none⟩, ⟨(.some 15), (.mv (.t 113)), none⟩])
 (.seq (.seq (.reg [⟨(.some 114), (.mv (.t 15)), none⟩, ⟨(.some 115), (.bin .lss (.t 114) (.c (.lf (.int .i64 0)))), none⟩])
 (.cond (.t 115) (.seq (.reg [⟨(.some 6), (.mv (.c (.lf (.bool false)))), none⟩])
 .ret) .skip))
 (.seq (.seq (.reg [⟨(.some 116), (.mv (.t 15)), none⟩, ⟨(.some 117), (.mv (.t 14)), none⟩, ⟨(.some 118), (.bin .neq (.t 116) (.t 117)), none⟩])
 (.cond (.t 118) (.seq (.reg [⟨(.some 6), (.mv (.c (.lf (.bool false)))), none⟩])
 .ret) .skip))
 (.seq (.reg [⟨(.some 6), (.mv (.c (.lf (.bool true)))), none⟩])
 .ret))))))))))))))))))))))))))), [(.tmp 6)]⟩
class HasLRaiseBy (S : Sys) : Prop extends HasRb S, HasF S where
  f6 : S.fs 6 = some L6
theorem fl_of {h : Hp} {r : List Lf} (t : Ty h (.flt .f32) r) : ∃ x : Nat, r = fl x ∧ True := by
  obtain ⟨x, rfl, _, _⟩ := t
  exact ⟨x, rfl, trivial⟩
theorem lawRaiseBy {S : Sys} [HasLRaiseBy S] : LawHolds S 6 [(false, .int .i64), (false, .sl 1 (.flt .f32)), (false, .sl 1 (.flt .f32))] := by
  intro h cs hcs
  obtain ⟨c0, _, rfl, ⟨ls0, rfl, f, rfl, _⟩, c1, _, rfl, ⟨ls1, rfl, l1, rows1, rfl, hAl1, hrows1⟩, c2, _, rfl, ⟨ls2, rfl, l2, rows2, rfl, hAl2, hrows2⟩, rfl⟩ := hcs
  obtain ⟨ts, rfl, _⟩ := rows_map (Q := fun _ => True) fun r hr => fl_of (hrows1 r hr)
  obtain ⟨xs, rfl, _⟩ := rows_map (Q := fun _ => True) fun r hr => fl_of (hrows2 r hr)
  clear hrows1 hrows2
  have hlo := raiseBy_len (f := f) (ts := ts) (xs := xs)
  refine law_of (F := L6) HasLRaiseBy.f6 rfl ?_
  unfold L6
  dsimp only []
  repeat' (first | (simp (disch := first | omega | assumption | (simp [*] <;> fail) | assumption) [-Bool.decide_and, -Bool.decide_or, -Bool.not_and, -Bool.not_or, toNat_pred, toNat_succ, wrap64, wr_new, wr_new0, ok_if, ok_ifn, iadV_sl, makeV_int, decT, decF, over_at, *, hAl1.len, hAl2.len]) | (with_reducible refine Gd_split (fun hc => ?_) (fun hc => ?_) <;> (have hc2 := hc; try simp at hc2)) | (with_reducible refine Br_split (fun hc => ?_) (fun hc => ?_) <;> (have hc2 := hc; try simp at hc2)) | (with_reducible refine GdT_split (fun hc => ?_) (fun hc => ?_) <;> (have hc2 := hc; try simp at hc2)) | (with_reducible refine WT_alt ?_ ?_) | omega)
  have hnl1 : ts.length ≤ 16777216 := by omega
  have hnl2 : xs.length ≤ 16777216 := by omega
  refine c_toFloat32S (hAl1.kept (Kept.refl h)) hnl1 (Kept.refl h).1 fun x0 g1 hx0 => ?_
  have K2 := (Kept.refl h).trans hx0.kept
  have Q2 := hx0.kept.1
  have Nx0 := hx0.base (Kept.refl h)
  have Zx0 := hx0.lt
  have P2 := K2.1
  repeat' (first | (simp (disch := first | omega | assumption | (simp [*] <;> fail) | assumption) [-Bool.decide_and, -Bool.decide_or, -Bool.not_and, -Bool.not_or, toNat_pred, toNat_succ, wrap64, wr_new, wr_new0, ok_if, ok_ifn, iadV_sl, makeV_int, decT, decF, over_at, *]) | (with_reducible refine Gd_split (fun hc => ?_) (fun hc => ?_) <;> (have hc2 := hc; try simp at hc2)) | (with_reducible refine Br_split (fun hc => ?_) (fun hc => ?_) <;> (have hc2 := hc; try simp at hc2)) | (with_reducible refine GdT_split (fun hc => ?_) (fun hc => ?_) <;> (have hc2 := hc; try simp at hc2)) | (with_reducible refine WT_alt ?_ ?_) | omega)
  refine c_toFloat32S (hAl2.kept K2) hnl2 K2.1 fun x1 g3 hx1 => ?_
  have K4 := K2.trans hx1.kept
  have Q4 := hx1.kept.1
  have Nx1 := hx1.base K2
  have Zx1 := hx1.lt
  replace Nx0 := Nx0.later hx1.kept
  have P4 := K4.1
  repeat' (first | (simp (disch := first | omega | assumption | (simp [*] <;> fail) | assumption) [-Bool.decide_and, -Bool.decide_or, -Bool.not_and, -Bool.not_or, toNat_pred, toNat_succ, wrap64, wr_new, wr_new0, ok_if, ok_ifn, iadV_sl, makeV_int, decT, decF, over_at, *]) | (with_reducible refine Gd_split (fun hc => ?_) (fun hc => ?_) <;> (have hc2 := hc; try simp at hc2)) | (with_reducible refine Br_split (fun hc => ?_) (fun hc => ?_) <;> (have hc2 := hc; try simp at hc2)) | (with_reducible refine GdT_split (fun hc => ?_) (fun hc => ?_) <;> (have hc2 := hc; try simp at hc2)) | (with_reducible refine WT_alt ?_ ?_) | omega)
  refine d_specRaiseBy (Sm.new Nx0) (Sm.new Nx1) K4.1 fun s0 g5 hs0 => ?_
  have K6 := K4.trans hs0.kept
  have Q6 := hs0.kept.1
  have Ns0 := hs0.base K4
  have Zs0 := hs0.lt
  replace Nx0 := Nx0.later hs0.kept
  replace Nx1 := Nx1.later hs0.kept
  have P6 := K6.1
  repeat' (first | (simp (disch := first | omega | assumption | (simp [*] <;> fail) | assumption) [-Bool.decide_and, -Bool.decide_or, -Bool.not_and, -Bool.not_or, toNat_pred, toNat_succ, wrap64, wr_new, wr_new0, ok_if, ok_ifn, iadV_sl, makeV_int, decT, decF, over_at, *]) | (with_reducible refine Gd_split (fun hc => ?_) (fun hc => ?_) <;> (have hc2 := hc; try simp at hc2)) | (with_reducible refine Br_split (fun hc => ?_) (fun hc => ?_) <;> (have hc2 := hc; try simp at hc2)) | (with_reducible refine GdT_split (fun hc => ?_) (fun hc => ?_) <;> (have hc2 := hc; try simp at hc2)) | (with_reducible refine WT_alt ?_ ?_) | omega)
  refine c_toFloat32S (hAl1.kept K6) hnl1 K6.1 fun a0 g7 ha0 => ?_
  have K8 := K6.trans ha0.kept
  have Q8 := ha0.kept.1
  have Na0 := ha0.base K6
  have Za0 := ha0.lt
  replace Ns0 := Ns0.later ha0.kept
  have P8 := K8.1
  repeat' (first | (simp (disch := first | omega | assumption | (simp [*] <;> fail) | assumption) [-Bool.decide_and, -Bool.decide_or, -Bool.not_and, -Bool.not_or, toNat_pred, toNat_succ, wrap64, wr_new, wr_new0, ok_if, ok_ifn, iadV_sl, makeV_int, decT, decF, over_at, *]) | (with_reducible refine Gd_split (fun hc => ?_) (fun hc => ?_) <;> (have hc2 := hc; try simp at hc2)) | (with_reducible refine Br_split (fun hc => ?_) (fun hc => ?_) <;> (have hc2 := hc; try simp at hc2)) | (with_reducible refine GdT_split (fun hc => ?_) (fun hc => ?_) <;> (have hc2 := hc; try simp at hc2)) | (with_reducible refine WT_alt ?_ ?_) | omega)
  refine c_toFloat32S (hAl2.kept K8) hnl2 K8.1 fun a1 g9 ha1 => ?_
  have K10 := K8.trans ha1.kept
  have Q10 := ha1.kept.1
  have Na1 := ha1.base K8
  have Za1 := ha1.lt
  replace Ns0 := Ns0.later ha1.kept
  replace Na0 := Na0.later ha1.kept
  have P10 := K10.1
  repeat' (first | (simp (disch := first | omega | assumption | (simp [*] <;> fail) | assumption) [-Bool.decide_and, -Bool.decide_or, -Bool.not_and, -Bool.not_or, toNat_pred, toNat_succ, wrap64, wr_new, wr_new0, ok_if, ok_ifn, iadV_sl, makeV_int, decT, decF, over_at, *]) | (with_reducible refine Gd_split (fun hc => ?_) (fun hc => ?_) <;> (have hc2 := hc; try simp at hc2)) | (with_reducible refine Br_split (fun hc => ?_) (fun hc => ?_) <;> (have hc2 := hc; try simp at hc2)) | (with_reducible refine GdT_split (fun hc => ?_) (fun hc => ?_) <;> (have hc2 := hc; try simp at hc2)) | (with_reducible refine WT_alt ?_ ?_) | omega)
  refine d_implRaiseBy (Sm.new Na0) (Sm.new Na1) K10.1 fun r0 g11 hr0 => ?_
  have K12 := K10.trans hr0.kept
  have Q12 := hr0.kept.1
  have Nr0 := hr0.base K10
  have Zr0 := hr0.lt
  replace Ns0 := Ns0.later hr0.kept
  replace Na0 := Na0.later hr0.kept
  replace Na1 := Na1.later hr0.kept
  have P12 := K12.1
  repeat' (first | (simp (disch := first | omega | assumption | (simp [*] <;> fail) | assumption) [-Bool.decide_and, -Bool.decide_or, -Bool.not_and, -Bool.not_or, toNat_pred, toNat_succ, wrap64, wr_new, wr_new0, ok_if, ok_ifn, iadV_sl, makeV_int, decT, decF, over_at, *, c_eqFloat32S Nr0.arr Ns0.arr]) | (with_reducible refine Gd_split (fun hc => ?_) (fun hc => ?_) <;> (have hc2 := hc; try simp at hc2)) | (with_reducible refine Br_split (fun hc => ?_) (fun hc => ?_) <;> (have hc2 := hc; try simp at hc2)) | (with_reducible refine GdT_split (fun hc => ?_) (fun hc => ?_) <;> (have hc2 := hc; try simp at hc2)) | (with_reducible refine WT_alt ?_ ?_) | omega)
  refine c_toFloat32S (hAl1.kept K12) hnl1 K12.1 fun y0 g13 hy0 => ?_
  have K14 := K12.trans hy0.kept
  have Q14 := hy0.kept.1
  have Ny0 := hy0.base K12
  have Zy0 := hy0.lt
  replace Ns0 := Ns0.later hy0.kept
  replace Na0 := Na0.later hy0.kept
  replace Na1 := Na1.later hy0.kept
  replace Nr0 := Nr0.later hy0.kept
  have P14 := K14.1
  repeat' (first | (simp (disch := first | omega | assumption | (simp [*] <;> fail) | assumption) [-Bool.decide_and, -Bool.decide_or, -Bool.not_and, -Bool.not_or, toNat_pred, toNat_succ, wrap64, wr_new, wr_new0, ok_if, ok_ifn, iadV_sl, makeV_int, decT, decF, over_at, *, c_eqFloat32S Na0.arr Ny0.arr]) | (with_reducible refine Gd_split (fun hc => ?_) (fun hc => ?_) <;> (have hc2 := hc; try simp at hc2)) | (with_reducible refine Br_split (fun hc => ?_) (fun hc => ?_) <;> (have hc2 := hc; try simp at hc2)) | (with_reducible refine GdT_split (fun hc => ?_) (fun hc => ?_) <;> (have hc2 := hc; try simp at hc2)) | (with_reducible refine WT_alt ?_ ?_) | omega)
  refine c_toFloat32S (hAl2.kept K14) hnl2 K14.1 fun y1 g15 hy1 => ?_
  have K16 := K14.trans hy1.kept
  have Q16 := hy1.kept.1
  have Ny1 := hy1.base K14
  have Zy1 := hy1.lt
  replace Ns0 := Ns0.later hy1.kept
  replace Na0 := Na0.later hy1.kept
  replace Na1 := Na1.later hy1.kept
  replace Nr0 := Nr0.later hy1.kept
  have P16 := K16.1
  repeat' (first | (simp (disch := first | omega | assumption | (simp [*] <;> fail) | assumption) [-Bool.decide_and, -Bool.decide_or, -Bool.not_and, -Bool.not_or, toNat_pred, toNat_succ, wrap64, wr_new, wr_new0, ok_if, ok_ifn, iadV_sl, makeV_int, decT, decF, over_at, *, c_eqFloat32S Na1.arr Ny1.arr]) | (with_reducible refine Gd_split (fun hc => ?_) (fun hc => ?_) <;> (have hc2 := hc; try simp at hc2)) | (with_reducible refine Br_split (fun hc => ?_) (fun hc => ?_) <;> (have hc2 := hc; try simp at hc2)) | (with_reducible refine GdT_split (fun hc => ?_) (fun hc => ?_) <;> (have hc2 := hc; try simp at hc2)) | (with_reducible refine WT_alt ?_ ?_) | omega)
  refine c_markFloat32S Na0 (by simp; omega) (by omega) (by omega) (Nat.le_refl _) fun g17 hM17 hB17 => ?_
  have Q17 := hB17.len
  replace Ns0 := hB17.new Ns0 (fun hn => (Na0.lt hn).1) (fun hn hn2 => by have := Za0 hn; have := Zs0 hn2; omega)
  replace Na1 := hB17.new Na1 (fun hn => (Na0.lt hn).1) (fun hn hn2 => by have := Za0 hn; have := Za1 hn2; omega)
  replace Nr0 := hB17.new Nr0 (fun hn => (Na0.lt hn).1) (fun hn hn2 => by have := Za0 hn; have := Zr0 hn2; omega)
  simp only [List.length_map] at hM17
  replace Na0 := hM17
  have K17 := hM17.kept
  repeat' (first | (simp (disch := first | omega | assumption | (simp [*] <;> fail) | assumption) [-Bool.decide_and, -Bool.decide_or, -Bool.not_and, -Bool.not_or, toNat_pred, toNat_succ, wrap64, wr_new, wr_new0, ok_if, ok_ifn, iadV_sl, makeV_int, decT, decF, over_at, *]) | (with_reducible refine Gd_split (fun hc => ?_) (fun hc => ?_) <;> (have hc2 := hc; try simp at hc2)) | (with_reducible refine Br_split (fun hc => ?_) (fun hc => ?_) <;> (have hc2 := hc; try simp at hc2)) | (with_reducible refine GdT_split (fun hc => ?_) (fun hc => ?_) <;> (have hc2 := hc; try simp at hc2)) | (with_reducible refine WT_alt ?_ ?_) | omega)
  refine c_markFloat32S Na1 (by simp; omega) (by omega) (by omega) (Nat.le_refl _) fun g18 hM18 hB18 => ?_
  have Q18 := hB18.len
  replace Ns0 := hB18.new Ns0 (fun hn => (Na1.lt hn).1) (fun hn hn2 => by have := Za1 hn; have := Zs0 hn2; omega)
  replace Na0 := hB18.new Na0 (fun hn => (Na1.lt hn).1) (fun hn hn2 => by have := Za1 hn; have := Za0 hn2; omega)
  replace Nr0 := hB18.new Nr0 (fun hn => (Na1.lt hn).1) (fun hn hn2 => by have := Za1 hn; have := Zr0 hn2; omega)
  simp only [List.length_map] at hM18
  replace Na1 := hM18
  have K18 := hM18.kept
  repeat' (first | (simp (disch := first | omega | assumption | (simp [*] <;> fail) | assumption) [-Bool.decide_and, -Bool.decide_or, -Bool.not_and, -Bool.not_or, toNat_pred, toNat_succ, wrap64, wr_new, wr_new0, ok_if, ok_ifn, iadV_sl, makeV_int, decT, decF, over_at, *, c_eqFloat32S Nr0.arr Ns0.arr]) | (with_reducible refine Gd_split (fun hc => ?_) (fun hc => ?_) <;> (have hc2 := hc; try simp at hc2)) | (with_reducible refine Br_split (fun hc => ?_) (fun hc => ?_) <;> (have hc2 := hc; try simp at hc2)) | (with_reducible refine GdT_split (fun hc => ?_) (fun hc => ?_) <;> (have hc2 := hc; try simp at hc2)) | (with_reducible refine WT_alt ?_ ?_) | omega)
  refine c_markFloat32S Nr0 (by simp; omega) (by omega) (by omega) (Nat.le_refl _) fun g19 hM19 hB19 => ?_
  have Q19 := hB19.len
  replace Ns0 := hB19.new Ns0 (fun hn => (Nr0.lt hn).1) (fun hn hn2 => by have := Zr0 hn; have := Zs0 hn2; omega)
  simp only [List.length_map] at hM19
  replace Nr0 := hM19
  have K19 := hM19.kept
  repeat' (first | (simp (disch := first | omega | assumption | (simp [*] <;> fail) | assumption) [-Bool.decide_and, -Bool.decide_or, -Bool.not_and, -Bool.not_or, toNat_pred, toNat_succ, wrap64, wr_new, wr_new0, ok_if, ok_ifn, iadV_sl, makeV_int, decT, decF, over_at, *, c_heldFloat32S Nr0.arr]) | (with_reducible refine Gd_split (fun hc => ?_) (fun hc => ?_) <;> (have hc2 := hc; try simp at hc2)) | (with_reducible refine Br_split (fun hc => ?_) (fun hc => ?_) <;> (have hc2 := hc; try simp at hc2)) | (with_reducible refine GdT_split (fun hc => ?_) (fun hc => ?_) <;> (have hc2 := hc; try simp at hc2)) | (with_reducible refine WT_alt ?_ ?_) | omega)
  refine c_toFloat32S (hAl1.kept K19) hnl1 K19.1 fun w0 g20 hw0 => ?_
  have K21 := K19.trans hw0.kept
  have Q21 := hw0.kept.1
  have Nw0 := hw0.base K19
  have Zw0 := hw0.lt
  replace Ns0 := Ns0.later hw0.kept
  replace Nr0 := Nr0.later hw0.kept
  have P21 := K21.1
  repeat' (first | (simp (disch := first | omega | assumption | (simp [*] <;> fail) | assumption) [-Bool.decide_and, -Bool.decide_or, -Bool.not_and, -Bool.not_or, toNat_pred, toNat_succ, wrap64, wr_new, wr_new0, ok_if, ok_ifn, iadV_sl, makeV_int, decT, decF, over_at, *]) | (with_reducible refine Gd_split (fun hc => ?_) (fun hc => ?_) <;> (have hc2 := hc; try simp at hc2)) | (with_reducible refine Br_split (fun hc => ?_) (fun hc => ?_) <;> (have hc2 := hc; try simp at hc2)) | (with_reducible refine GdT_split (fun hc => ?_) (fun hc => ?_) <;> (have hc2 := hc; try simp at hc2)) | (with_reducible refine WT_alt ?_ ?_) | omega)
  refine c_toFloat32S (hAl2.kept K21) hnl2 K21.1 fun w1 g22 hw1 => ?_
  have K23 := K21.trans hw1.kept
  have Q23 := hw1.kept.1
  have Nw1 := hw1.base K21
  have Zw1 := hw1.lt
  replace Ns0 := Ns0.later hw1.kept
  replace Nr0 := Nr0.later hw1.kept
  replace Nw0 := Nw0.later hw1.kept
  have P23 := K23.1
  repeat' (first | (simp (disch := first | omega | assumption | (simp [*] <;> fail) | assumption) [-Bool.decide_and, -Bool.decide_or, -Bool.not_and, -Bool.not_or, toNat_pred, toNat_succ, wrap64, wr_new, wr_new0, ok_if, ok_ifn, iadV_sl, makeV_int, decT, decF, over_at, *]) | (with_reducible refine Gd_split (fun hc => ?_) (fun hc => ?_) <;> (have hc2 := hc; try simp at hc2)) | (with_reducible refine Br_split (fun hc => ?_) (fun hc => ?_) <;> (have hc2 := hc; try simp at hc2)) | (with_reducible refine GdT_split (fun hc => ?_) (fun hc => ?_) <;> (have hc2 := hc; try simp at hc2)) | (with_reducible refine WT_alt ?_ ?_) | omega)
  refine d_implRaiseBy (Sm.new Nw0) (Sm.new Nw1) K23.1 fun u0 g24 hu0 => ?_
  have K25 := K23.trans hu0.kept
  have Q25 := hu0.kept.1
  have Nu0 := hu0.base K23
  have Zu0 := hu0.lt
  replace Ns0 := Ns0.later hu0.kept
  replace Nr0 := Nr0.later hu0.kept
  replace Nw0 := Nw0.later hu0.kept
  replace Nw1 := Nw1.later hu0.kept
  have P25 := K25.1
  repeat' (first | (simp (disch := first | omega | assumption | (simp [*] <;> fail) | assumption) [-Bool.decide_and, -Bool.decide_or, -Bool.not_and, -Bool.not_or, toNat_pred, toNat_succ, wrap64, wr_new, wr_new0, ok_if, ok_ifn, iadV_sl, makeV_int, decT, decF, over_at, *, c_eqFloat32S Nu0.arr Ns0.arr, c_heldFloat32S Nr0.arr]) | (with_reducible refine Gd_split (fun hc => ?_) (fun hc => ?_) <;> (have hc2 := hc; try simp at hc2)) | (with_reducible refine Br_split (fun hc => ?_) (fun hc => ?_) <;> (have hc2 := hc; try simp at hc2)) | (with_reducible refine GdT_split (fun hc => ?_) (fun hc => ?_) <;> (have hc2 := hc; try simp at hc2)) | (with_reducible refine WT_alt ?_ ?_) | omega)
end Go.E
namespace Go.E.RaiseBy
open Go Go.E
def pure : FuncId → Bool := fun f => List.elem f [3, 4, 5, 6, 7, 8, 9, 10, 11, 12, 13, 14, 15, 16, 19, 23, 25, 29, 33, 34, 36, 37, 38, 39, 40, 42, 43, 44, 45, 47, 48, 51, 52, 55, 56, 57, 59, 60, 65, 66, 68, 69, 70, 73, 76, 78, 79, 80, 81, 82, 85, 86, 87, 88, 89, 90, 91, 92, 93, 94, 95, 96, 97, 98, 100, 101, 102, 103, 104, 105, 106, 107, 109, 110, 111, 112, 113, 114, 115, 116, 117, 118, 120, 121, 123, 124, 125, 127, 128, 130, 131, 132, 133, 134, 135, 136, 137, 138, 139, 140, 142, 143, 144, 145, 146, 147, 148, 149, 150, 151, 152, 153, 154, 155, 156, 158, 160, 162, 169, 171, 172]
def funs : List (Nat × LFn) := [(76, L76), (86, L86), (90, L90), (127, L127), (66, L66), (68, L68), (70, L70), (72, L72), (77, L77), (130, L130), (69, L69), (71, L71), (73, L73), (74, L74), (129, L129), (75, L75), (83, L83), (84, L84), (31, L31), (32, L32), (37, L37), (21, L21), (23, L23), (24, L24), (25, L25), (6, L6)]
def Sy : Sys := sysOf funs
theorem lfn76 : lFn Go.Proofs.Try.prog pure Go.Proofs.Try.f76 = some L76 := by kernel_rfl
theorem lfn86 : lFn Go.Proofs.Try.prog pure Go.Proofs.Try.f86 = some L86 := by kernel_rfl
theorem lfn90 : lFn Go.Proofs.Try.prog pure Go.Proofs.Try.f90 = some L90 := by kernel_rfl
theorem lfn127 : lFn Go.Proofs.Try.prog pure Go.Proofs.Try.f127 = some L127 := by kernel_rfl
theorem lfn66 : lFn Go.Proofs.Try.prog pure Go.Proofs.Try.f66 = some L66 := by kernel_rfl
theorem lfn68 : lFn Go.Proofs.Try.prog pure Go.Proofs.Try.f68 = some L68 := by kernel_rfl
theorem lfn70 : lFn Go.Proofs.Try.prog pure Go.Proofs.Try.f70 = some L70 := by kernel_rfl
theorem lfn72 : lFn Go.Proofs.Try.prog pure Go.Proofs.Try.f72 = some L72 := by kernel_rfl
theorem lfn77 : lFn Go.Proofs.Try.prog pure Go.Proofs.Try.f77 = some L77 := by kernel_rfl
theorem lfn130 : lFn Go.Proofs.Try.prog pure Go.Proofs.Try.f130 = some L130 := by kernel_rfl
theorem lfn69 : lFn Go.Proofs.Try.prog pure Go.Proofs.Try.f69 = some L69 := by kernel_rfl
theorem lfn71 : lFn Go.Proofs.Try.prog pure Go.Proofs.Try.f71 = some L71 := by kernel_rfl
theorem lfn73 : lFn Go.Proofs.Try.prog pure Go.Proofs.Try.f73 = some L73 := by kernel_rfl
theorem lfn74 : lFn Go.Proofs.Try.prog pure Go.Proofs.Try.f74 = some L74 := by kernel_rfl
theorem lfn129 : lFn Go.Proofs.Try.prog pure Go.Proofs.Try.f129 = some L129 := by kernel_rfl
theorem lfn75 : lFn Go.Proofs.Try.prog pure Go.Proofs.Try.f75 = some L75 := by kernel_rfl
theorem lfn83 : lFn Go.Proofs.Try.prog pure Go.Proofs.Try.f83 = some L83 := by kernel_rfl
theorem lfn84 : lFn Go.Proofs.Try.prog pure Go.Proofs.Try.f84 = some L84 := by kernel_rfl
theorem lfn31 : lFn Go.Proofs.Try.prog pure Go.Proofs.Try.f31 = some L31 := by kernel_rfl
theorem lfn32 : lFn Go.Proofs.Try.prog pure Go.Proofs.Try.f32 = some L32 := by kernel_rfl
theorem lfn37 : lFn Go.Proofs.Try.prog pure Go.Proofs.Try.f37 = some L37 := by kernel_rfl
theorem lfn21 : lFn Go.Proofs.Try.prog pure Go.Proofs.Try.f21 = some L21 := by kernel_rfl
theorem lfn23 : lFn Go.Proofs.Try.prog pure Go.Proofs.Try.f23 = some L23 := by kernel_rfl
theorem lfn24 : lFn Go.Proofs.Try.prog pure Go.Proofs.Try.f24 = some L24 := by kernel_rfl
theorem lfn25 : lFn Go.Proofs.Try.prog pure Go.Proofs.Try.f25 = some L25 := by kernel_rfl
theorem lfn6 : lFn Go.Proofs.Try.prog pure Go.Proofs.Try.f6 = some L6 := by kernel_rfl
instance : HasA Sy := { f76 := rfl, f86 := rfl, f90 := rfl, f127 := rfl }
instance : HasP Sy := { f66 := rfl, f68 := rfl, f70 := rfl, f72 := rfl, f77 := rfl, f130 := rfl }
instance : HasT Sy := { f69 := rfl, f71 := rfl, f73 := rfl, f74 := rfl, f129 := rfl }
instance : HasN Sy := { f75 := rfl }
instance : HasQ Sy := { f83 := rfl, f84 := rfl }
instance : HasRb Sy := { f31 := rfl, f32 := rfl }
instance : HasSame Sy := { f37 := rfl }
instance : HasF Sy := { f21 := rfl, f23 := rfl, f24 := rfl, f25 := rfl }
instance : HasLRaiseBy Sy := { f6 := rfl }
theorem sysOK {B : Nat} {w0 : World} : SysOK Go.Proofs.Try.prog pure Sy B w0 := SysOK.of (by
  intro p hp
  simp only [funs, List.mem_cons, List.not_mem_nil, or_false] at hp
  rcases hp with rfl | rfl | rfl | rfl | rfl | rfl | rfl | rfl | rfl | rfl | rfl | rfl | rfl | rfl | rfl | rfl | rfl | rfl | rfl | rfl | rfl | rfl | rfl | rfl | rfl | rfl
  · exact ⟨_, Go.Proofs.Try.func76, lfn76⟩
  · exact ⟨_, Go.Proofs.Try.func86, lfn86⟩
  · exact ⟨_, Go.Proofs.Try.func90, lfn90⟩
  · exact ⟨_, Go.Proofs.Try.func127, lfn127⟩
  · exact ⟨_, Go.Proofs.Try.func66, lfn66⟩
  · exact ⟨_, Go.Proofs.Try.func68, lfn68⟩
  · exact ⟨_, Go.Proofs.Try.func70, lfn70⟩
  · exact ⟨_, Go.Proofs.Try.func72, lfn72⟩
  · exact ⟨_, Go.Proofs.Try.func77, lfn77⟩
  · exact ⟨_, Go.Proofs.Try.func130, lfn130⟩
  · exact ⟨_, Go.Proofs.Try.func69, lfn69⟩
  · exact ⟨_, Go.Proofs.Try.func71, lfn71⟩
  · exact ⟨_, Go.Proofs.Try.func73, lfn73⟩
  · exact ⟨_, Go.Proofs.Try.func74, lfn74⟩
  · exact ⟨_, Go.Proofs.Try.func129, lfn129⟩
  · exact ⟨_, Go.Proofs.Try.func75, lfn75⟩
  · exact ⟨_, Go.Proofs.Try.func83, lfn83⟩
  · exact ⟨_, Go.Proofs.Try.func84, lfn84⟩
  · exact ⟨_, Go.Proofs.Try.func31, lfn31⟩
  · exact ⟨_, Go.Proofs.Try.func32, lfn32⟩
  · exact ⟨_, Go.Proofs.Try.func37, lfn37⟩
  · exact ⟨_, Go.Proofs.Try.func21, lfn21⟩
  · exact ⟨_, Go.Proofs.Try.func23, lfn23⟩
  · exact ⟨_, Go.Proofs.Try.func24, lfn24⟩
  · exact ⟨_, Go.Proofs.Try.func25, lfn25⟩
  · exact ⟨_, Go.Proofs.Try.func6, lfn6⟩)

end Go.E.RaiseBy
