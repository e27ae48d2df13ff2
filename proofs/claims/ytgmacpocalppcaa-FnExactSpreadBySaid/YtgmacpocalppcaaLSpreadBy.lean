/- The law of SpreadBy: what the evaluator finds. -/
import Derived.Test.YtgmacpocalppcaaMQ
import Derived.Test.YtgmacpocalppcaaEE
import Derived.Test.YtgmacpocalppcaaProg
set_option linter.unusedVariables false
set_option linter.unusedSimpArgs false
namespace Go.E
open Go
def L11 : LFn := ⟨2, (.seq (.reg [⟨(.some 4), (.mv (.c (.lf (.bool false)))), none⟩])
 (.seq (.seq (.reg [⟨(.some 15), (.mv (.t 1)), none⟩, ⟨(.some 16), (.len (.t 15)), none⟩, ⟨(.some 17), (.bin .gtr (.t 16) (.c (.lf (.int .i64 1048576)))), none⟩])
 (.cond (.t 17) (.seq (.reg [⟨(.some 4), (.mv (.c (.lf (.bool true)))), none⟩])
 .ret) .skip))
 (.seq (.reg [⟨(.some 19), (.mv (.t 0)), none⟩, ⟨(.some 20), (.mv (.t 1)), none⟩, ⟨(.some 21), (.call false 28 [(.t 20)]), none⟩, ⟨(.some 22), (.call false 51 [(.t 19), (.t 21)]), none⟩, ⟨(.some 18), (.mv (.t 22)), none⟩, ⟨(.some 23), (.ext (.t 18) 0), none⟩, ⟨(.some 24), (.ext (.t 18) 1), none⟩, ⟨(.some 5), (.mv (.t 23)), none⟩, ⟨(.some 6), (.mv (.t 24)), none⟩])
 (.seq (.reg [⟨(.some 25), (.mv (.t 1)), none⟩, ⟨(.some 26), (.call false 28 [(.t 25)]), none⟩, ⟨(.some 7), (.mv (.t 26)), none⟩])
 (.seq (.reg [⟨(.some 28), (.mv (.t 0)), none⟩, ⟨(.some 29), (.mv (.t 7)), none⟩, ⟨(.some 30), (.call false 52 [(.t 28), (.t 29)]), none⟩, ⟨(.some 27), (.mv (.t 30)), none⟩, ⟨(.some 31), (.ext (.t 27) 0), none⟩, ⟨(.some 32), (.ext (.t 27) 1), none⟩, ⟨(.some 8), (.mv (.t 31)), none⟩, ⟨(.some 9), (.mv (.t 32)), none⟩])
 (.seq (.seq (.reg [⟨(.some 33), (.mv (.t 8)), none⟩, ⟨(.some 34), (.mv (.t 5)), none⟩, ⟨(.some 35), (.call true 30 [(.t 33), (.t 34)]), none⟩, ⟨(.some 36), (.una .not (.t 35)), none⟩, ⟨(.some 37), (.mv (.t 36)), none⟩, ⟨(.some 38), (.mv (.t 9)), (.some (37, false))⟩, ⟨(.some 39), (.mv (.t 6)), (.some (37, false))⟩, ⟨(.some 40), (.beq true (.t 38) (.t 39)), (.some (37, false))⟩, ⟨(.some 41), (.pick (.t 37) (.c (.lf (.bool true))) (.t 40)), none⟩])
 (.cond (.t 41) (.seq (.reg [⟨(.some 4), (.mv (.c (.lf (.bool false)))), none⟩])
 .ret) .skip))
 (.seq (.seq (.reg [⟨(.some 42), (.mv (.t 7)), none⟩, ⟨(.some 43), (.mv (.t 1)), none⟩, ⟨(.some 44), (.call false 28 [(.t 43)]), none⟩, ⟨(.some 45), (.call true 30 [(.t 42), (.t 44)]), none⟩, ⟨(.some 46), (.una .not (.t 45)), none⟩])
 (.cond (.t 46) (.seq (.reg [⟨(.some 4), (.mv (.c (.lf (.bool false)))), none⟩])
 .ret) .skip))
 (.seq (.reg [⟨(.some 10), (.mv (.c (.lf (.int .i64 1)))), none⟩])
 (.seq (.reg [⟨(.some 47), (.mv (.t 7)), none⟩, ⟨(.some 48), (.mv (.t 10)), none⟩, ⟨(.some 49), (.call false 31 [(.t 47), (.t 48)]), none⟩, ⟨(.some 10), (.mv (.t 49)), none⟩])
 (.seq (.seq (.reg [⟨(.some 50), (.mv (.t 10)), none⟩, ⟨(.some 51), (.bin .lss (.t 50) (.c (.lf (.int .i64 0)))), none⟩, ⟨(.some 52), (.mv (.t 51)), none⟩, ⟨(.some 53), (.mv (.t 8)), (.some (52, false))⟩, ⟨(.some 54), (.mv (.t 5)), (.some (52, false))⟩, ⟨(.some 55), (.call true 30 [(.t 53), (.t 54)]), (.some (52, false))⟩, ⟨(.some 56), (.una .not (.t 55)), (.some (52, false))⟩, ⟨(.some 57), (.pick (.t 52) (.c (.lf (.bool true))) (.t 56)), none⟩, ⟨(.some 58), (.mv (.t 57)), none⟩, ⟨(.some 59), (.mv (.t 9)), (.some (58, false))⟩, ⟨(.some 60), (.mv (.t 6)), (.some (58, false))⟩, ⟨(.some 61), (.beq true (.t 59) (.t 60)), (.some (58, false))⟩, ⟨(.some 62), (.pick (.t 58) (.c (.lf (.bool true))) (.t 61)), none⟩])
 (.cond (.t 62) (.seq (.reg [⟨(.some 4), (.mv (.c (.lf (.bool false)))), none⟩])
 .ret) .skip))
 (.seq (.reg [⟨(.some 11), (.mv (.c (.lf (.int .i64 1)))), none⟩])
 (.seq (.reg [⟨(.some 63), (.mv (.t 8)), none⟩, ⟨(.some 64), (.mv (.t 11)), none⟩, ⟨(.some 65), (.call false 31 [(.t 63), (.t 64)]), none⟩, ⟨(.some 11), (.mv (.t 65)), none⟩])
 (.seq (.reg [⟨(.some 12), (.mv (.c (.lf (.int .i64 1)))), none⟩])
 (.seq (.reg [⟨(.some 66), (.mv (.t 8)), none⟩, ⟨(.some 67), (.mv (.t 12)), none⟩, ⟨(.some 68), (.call true 32 [(.t 66), (.t 67)]), none⟩, ⟨(.some 12), (.mv (.t 68)), none⟩])
 (.seq (.seq (.reg [⟨(.some 69), (.mv (.t 12)), none⟩, ⟨(.some 70), (.bin .lss (.t 69) (.c (.lf (.int .i64 0)))), none⟩])
 (.cond (.t 70) (.seq (.reg [⟨(.some 4), (.mv (.c (.lf (.bool false)))), none⟩])
 .ret) .skip))
 (.seq (.seq (.reg [⟨(.some 71), (.mv (.t 12)), none⟩, ⟨(.some 72), (.mv (.t 11)), none⟩, ⟨(.some 73), (.bin .neq (.t 71) (.t 72)), none⟩])
 (.cond (.t 73) (.seq (.reg [⟨(.some 4), (.mv (.c (.lf (.bool false)))), none⟩])
 .ret) .skip))
 (.seq (.reg [⟨(.some 75), (.mv (.t 0)), none⟩, ⟨(.some 76), (.mv (.t 1)), none⟩, ⟨(.some 77), (.call false 28 [(.t 76)]), none⟩, ⟨(.some 78), (.call false 52 [(.t 75), (.t 77)]), none⟩, ⟨(.some 74), (.mv (.t 78)), none⟩, ⟨(.some 79), (.ext (.t 74) 0), none⟩, ⟨(.some 80), (.ext (.t 74) 1), none⟩, ⟨(.some 13), (.mv (.t 79)), none⟩, ⟨(.some 14), (.mv (.t 80)), none⟩])
 (.seq (.seq (.reg [⟨(.some 81), (.mv (.t 13)), none⟩, ⟨(.some 82), (.mv (.t 5)), none⟩, ⟨(.some 83), (.call true 30 [(.t 81), (.t 82)]), none⟩, ⟨(.some 84), (.una .not (.t 83)), none⟩, ⟨(.some 85), (.mv (.t 84)), none⟩, ⟨(.some 86), (.mv (.t 14)), (.some (85, false))⟩, ⟨(.some 87), (.mv (.t 6)), (.some (85, false))⟩, ⟨(.some 88), (.beq true (.t 86) (.t 87)), (.some (85, false))⟩, ⟨(.some 89), (.pick (.t 85) (.c (.lf (.bool true))) (.t 88)), none⟩])
 (.cond (.t 89) (.seq (.reg [⟨(.some 4), (.mv (.c (.lf (.bool false)))), none⟩])
 .ret) .skip))
 (.seq (.reg [⟨(.some 12), (.mv (.c (.lf (.int .i64 1)))), none⟩])
 (.seq (.reg [⟨(.some 90), (.mv (.t 8)), none⟩, ⟨(.some 91), (.mv (.t 12)), none⟩, ⟨(.some 92), (.call true 32 [(.t 90), (.t 91)]), none⟩, ⟨(.some 12), (.mv (.t 92)), none⟩])
 (.seq (.seq (.reg [⟨(.some 93), (.mv (.t 12)), none⟩, ⟨(.some 94), (.bin .lss (.t 93) (.c (.lf (.int .i64 0)))), none⟩])
 (.cond (.t 94) (.seq (.reg [⟨(.some 4), (.mv (.c (.lf (.bool false)))), none⟩])
 .ret) .skip))
 (.seq (.seq (.reg [⟨(.some 95), (.mv (.t 12)), none⟩, ⟨(.some 96), (.mv (.t 11)), none⟩, ⟨(.some 97), (.bin .neq (.t 95) (.t 96)), none⟩])
 (.cond (.t 97) (.seq (.reg [⟨(.some 4), (.mv (.c (.lf (.bool false)))), none⟩])
 .ret) .skip))
 (.seq (.reg [⟨(.some 4), (.mv (.c (.lf (.bool true)))), none⟩])
 .ret))))))))))))))))))))))), [(.tmp 4)]⟩
class HasLSpreadBy (S : Sys) : Prop extends HasQ S, HasF S where
  f11 : S.fs 11 = some L11
theorem fl_of {h : Hp} {r : List Lf} (t : Ty h (.flt .f32) r) : ∃ x : Nat, r = fl x ∧ True := by
  obtain ⟨x, rfl, _, _⟩ := t
  exact ⟨x, rfl, trivial⟩
theorem lawSpreadBy {S : Sys} [HasLSpreadBy S] : LawHolds S 11 [(false, .int .i64), (false, .sl 1 (.flt .f32))] := by
  intro h cs hcs
  obtain ⟨c, _, rfl, ⟨ls, rfl, f, rfl, _⟩, c3, _, rfl, ⟨ls3, rfl, l, rows, rfl, hA, hrows⟩, rfl⟩ := hcs
  obtain ⟨xs, rfl, _⟩ := rows_map (Q := fun _ => True) fun r hr => fl_of (hrows r hr)
  have hA0 := hA
  have hlen := spreadBy_len (f := f) (xs := xs)
  refine law_of (F := L11) HasLSpreadBy.f11 rfl ?_
  unfold L11
  dsimp only []
  repeat' (first | (simp (disch := first | omega | assumption | (simp [*] <;> fail) | assumption) [-Bool.decide_and, -Bool.decide_or, -Bool.not_and, -Bool.not_or, toNat_pred, toNat_succ, wrap64, wr_new, wr_new0, ok_if, ok_ifn, iadV_sl, makeV_int, decT, decF, *, hA.len]) | (refine Gd_split (fun hc => ?_) (fun hc => ?_) <;> (have hc2 := hc; try simp at hc2)) | (refine Br_split (fun hc => ?_) (fun hc => ?_) <;> (have hc2 := hc; try simp at hc2)) | omega)
  have hn : xs.length ≤ 16777216 := by omega
  refine c_toFloat32S hA hn (Nat.le_refl _) fun l1 g1 hN1 => ?_
  have q1 := hN1.kept.1
  repeat' (first | (simp (disch := first | omega | assumption | (simp [*] <;> fail) | assumption) [-Bool.decide_and, -Bool.decide_or, -Bool.not_and, -Bool.not_or, toNat_pred, toNat_succ, wrap64, wr_new, wr_new0, ok_if, ok_ifn, iadV_sl, makeV_int, decT, decF, *]) | (refine Gd_split (fun hc => ?_) (fun hc => ?_) <;> (have hc2 := hc; try simp at hc2)) | (refine Br_split (fun hc => ?_) (fun hc => ?_) <;> (have hc2 := hc; try simp at hc2)) | omega)
  refine d_specSpreadBy hN1.arr q1 fun s g2 hS => ?_
  have q2 := hS.kept.1
  repeat' (first | (simp (disch := first | omega | assumption | (simp [*] <;> fail) | assumption) [-Bool.decide_and, -Bool.decide_or, -Bool.not_and, -Bool.not_or, toNat_pred, toNat_succ, wrap64, wr_new, wr_new0, ok_if, ok_ifn, iadV_sl, makeV_int, decT, decF, *]) | (refine Gd_split (fun hc => ?_) (fun hc => ?_) <;> (have hc2 := hc; try simp at hc2)) | (refine Br_split (fun hc => ?_) (fun hc => ?_) <;> (have hc2 := hc; try simp at hc2)) | omega)
  replace hA := hA.kept (hN1.kept.trans hS.kept)
  refine c_toFloat32S hA hn (by omega) fun l9 g3 hN9 => ?_
  have q3 := hN9.kept.1
  repeat' (first | (simp (disch := first | omega | assumption | (simp [*] <;> fail) | assumption) [-Bool.decide_and, -Bool.decide_or, -Bool.not_and, -Bool.not_or, toNat_pred, toNat_succ, wrap64, wr_new, wr_new0, ok_if, ok_ifn, iadV_sl, makeV_int, decT, decF, *]) | (refine Gd_split (fun hc => ?_) (fun hc => ?_) <;> (have hc2 := hc; try simp at hc2)) | (refine Br_split (fun hc => ?_) (fun hc => ?_) <;> (have hc2 := hc; try simp at hc2)) | omega)
  refine d_implSpreadBy hN9.arr (by omega) fun r g4 hR => ?_
  have q4 := hR.kept.1
  have hS4 := hS.arr.kept (hN9.kept.trans hR.kept)
  repeat' (first | (simp (disch := first | omega | assumption | (simp [*] <;> fail) | assumption) [-Bool.decide_and, -Bool.decide_or, -Bool.not_and, -Bool.not_or, toNat_pred, toNat_succ, wrap64, wr_new, wr_new0, ok_if, ok_ifn, iadV_sl, makeV_int, decT, decF, *, c_eqFloat32S hR.arr hS4]) | (refine Gd_split (fun hc => ?_) (fun hc => ?_) <;> (have hc2 := hc; try simp at hc2)) | (refine Br_split (fun hc => ?_) (fun hc => ?_) <;> (have hc2 := hc; try simp at hc2)) | omega)
  replace hA := hA.kept (hN9.kept.trans hR.kept)
  refine c_toFloat32S hA hn (by omega) fun l48 g5 hN5 => ?_
  have q5 := hN5.kept.1
  have hN9' := hN9.arr.kept (hR.kept.trans hN5.kept)
  repeat' (first | (simp (disch := first | omega | assumption | (simp [*] <;> fail) | assumption) [-Bool.decide_and, -Bool.decide_or, -Bool.not_and, -Bool.not_or, toNat_pred, toNat_succ, wrap64, wr_new, wr_new0, ok_if, ok_ifn, iadV_sl, makeV_int, decT, decF, *, c_eqFloat32S hN9' hN5.arr]) | (refine Gd_split (fun hc => ?_) (fun hc => ?_) <;> (have hc2 := hc; try simp at hc2)) | (refine Br_split (fun hc => ?_) (fun hc => ?_) <;> (have hc2 := hc; try simp at hc2)) | omega)
  have z9 : l9 ≠ .nils → g2.length ≤ l9.id ∧ l9.id < g3.length := hN9.lt
  have zr : r ≠ .nils → g3.length ≤ r.id ∧ r.id < g4.length := hR.lt
  have hN9b := hN9.later (hR.kept.trans hN5.kept)
  refine c_markFloat32S hN9b (by simp; omega) (by omega) (by omega) (by omega) fun g6 hM hB => ?_
  have hR6 := hB.new ((hR.base hN9.kept).later hN5.kept) (fun hn => (z9 hn).1) (fun hn hn2 => by have := z9 hn; have := zr hn2; omega)
  have hS6 := hS.arr.kept hM.kept
  repeat' (first | (simp (disch := first | omega | assumption | (simp [*] <;> fail) | assumption) [-Bool.decide_and, -Bool.decide_or, -Bool.not_and, -Bool.not_or, toNat_pred, toNat_succ, wrap64, wr_new, wr_new0, ok_if, ok_ifn, iadV_sl, makeV_int, decT, decF, *, c_eqFloat32S hR6.arr hS6]) | (refine Gd_split (fun hc => ?_) (fun hc => ?_) <;> (have hc2 := hc; try simp at hc2)) | (refine Br_split (fun hc => ?_) (fun hc => ?_) <;> (have hc2 := hc; try simp at hc2)) | omega)
  refine c_markFloat32S hR6 (by simp; omega) (by omega) (by omega) (by omega) fun g7 hM7 hB7 => ?_
  have q7 := hM7.kept.1
  simp only [List.length_map] at hM7
  have hA7 := hM7.arr
  repeat' (first | (simp (disch := first | omega | assumption | (simp [*] <;> fail) | assumption) [-Bool.decide_and, -Bool.decide_or, -Bool.not_and, -Bool.not_or, toNat_pred, toNat_succ, wrap64, wr_new, wr_new0, ok_if, ok_ifn, iadV_sl, makeV_int, decT, decF, *, c_heldFloat32S hA7]) | (refine Gd_split (fun hc => ?_) (fun hc => ?_) <;> (have hc2 := hc; try simp at hc2)) | (refine Br_split (fun hc => ?_) (fun hc => ?_) <;> (have hc2 := hc; try simp at hc2)) | omega)
  have k7 := (hN1.kept.trans hS.kept).trans hM7.kept
  have p7 := k7.1
  refine c_toFloat32S (hA0.kept k7) hn (by omega) fun l2 g8 hN8 => ?_
  have q8 := hN8.kept.1
  repeat' (first | (simp (disch := first | omega | assumption | (simp [*] <;> fail) | assumption) [-Bool.decide_and, -Bool.decide_or, -Bool.not_and, -Bool.not_or, toNat_pred, toNat_succ, wrap64, wr_new, wr_new0, ok_if, ok_ifn, iadV_sl, makeV_int, decT, decF, *]) | (refine Gd_split (fun hc => ?_) (fun hc => ?_) <;> (have hc2 := hc; try simp at hc2)) | (refine Br_split (fun hc => ?_) (fun hc => ?_) <;> (have hc2 := hc; try simp at hc2)) | omega)
  refine d_implSpreadBy hN8.arr (by omega) fun r2 g9 hR9 => ?_
  have k9 := hN8.kept.trans hR9.kept
  have hS9 := hS.arr.kept (hM7.kept.trans k9)
  have hR7 := hA7.kept k9
  repeat' (first | (simp (disch := first | omega | assumption | (simp [*] <;> fail) | assumption) [-Bool.decide_and, -Bool.decide_or, -Bool.not_and, -Bool.not_or, toNat_pred, toNat_succ, wrap64, wr_new, wr_new0, ok_if, ok_ifn, iadV_sl, makeV_int, decT, decF, *, c_eqFloat32S hR9.arr hS9, c_heldFloat32S hR7]) | (refine Gd_split (fun hc => ?_) (fun hc => ?_) <;> (have hc2 := hc; try simp at hc2)) | (refine Br_split (fun hc => ?_) (fun hc => ?_) <;> (have hc2 := hc; try simp at hc2)) | omega)
end Go.E
namespace Go.E.SpreadBy
open Go Go.E
def pure : FuncId → Bool := fun f => List.elem f [3, 4, 5, 6, 7, 8, 9, 10, 11, 12, 13, 14, 15, 16, 17, 18, 21, 23, 24, 26, 30, 32, 33, 34, 35, 36, 38, 39, 42, 43, 45, 48, 50, 55, 56, 58, 59, 62, 63, 64, 65, 66, 67, 68, 69, 70, 71, 72, 73, 74, 75, 76, 77, 78, 79, 80, 81, 82, 84, 87, 88, 90, 91, 94, 97, 98, 99, 100, 101, 102, 104, 106, 107, 108, 110, 112, 113, 115, 116, 117, 118, 119, 120, 121, 122, 123, 124, 125, 126, 127, 128, 129, 130, 131, 132, 133, 134, 135, 136, 138, 140, 142, 149, 151]
def funs : List (Nat × LFn) := [(77, L77), (78, L78), (79, L79), (82, L82), (40, L40), (41, L41), (70, L70), (71, L71), (81, L81), (83, L83), (84, L84), (51, L51), (52, L52), (92, L92), (95, L95), (72, L72), (28, L28), (30, L30), (31, L31), (32, L32), (11, L11)]
def Sy : Sys := sysOf funs
theorem lfn77 : lFn Go.Proofs.Try.prog pure Go.Proofs.Try.f77 = some L77 := by kernel_rfl
theorem lfn78 : lFn Go.Proofs.Try.prog pure Go.Proofs.Try.f78 = some L78 := by kernel_rfl
theorem lfn79 : lFn Go.Proofs.Try.prog pure Go.Proofs.Try.f79 = some L79 := by kernel_rfl
theorem lfn82 : lFn Go.Proofs.Try.prog pure Go.Proofs.Try.f82 = some L82 := by kernel_rfl
theorem lfn40 : lFn Go.Proofs.Try.prog pure Go.Proofs.Try.f40 = some L40 := by kernel_rfl
theorem lfn41 : lFn Go.Proofs.Try.prog pure Go.Proofs.Try.f41 = some L41 := by kernel_rfl
theorem lfn70 : lFn Go.Proofs.Try.prog pure Go.Proofs.Try.f70 = some L70 := by kernel_rfl
theorem lfn71 : lFn Go.Proofs.Try.prog pure Go.Proofs.Try.f71 = some L71 := by kernel_rfl
theorem lfn81 : lFn Go.Proofs.Try.prog pure Go.Proofs.Try.f81 = some L81 := by kernel_rfl
theorem lfn83 : lFn Go.Proofs.Try.prog pure Go.Proofs.Try.f83 = some L83 := by kernel_rfl
theorem lfn84 : lFn Go.Proofs.Try.prog pure Go.Proofs.Try.f84 = some L84 := by kernel_rfl
theorem lfn51 : lFn Go.Proofs.Try.prog pure Go.Proofs.Try.f51 = some L51 := by kernel_rfl
theorem lfn52 : lFn Go.Proofs.Try.prog pure Go.Proofs.Try.f52 = some L52 := by kernel_rfl
theorem lfn92 : lFn Go.Proofs.Try.prog pure Go.Proofs.Try.f92 = some L92 := by kernel_rfl
theorem lfn95 : lFn Go.Proofs.Try.prog pure Go.Proofs.Try.f95 = some L95 := by kernel_rfl
theorem lfn72 : lFn Go.Proofs.Try.prog pure Go.Proofs.Try.f72 = some L72 := by kernel_rfl
theorem lfn28 : lFn Go.Proofs.Try.prog pure Go.Proofs.Try.f28 = some L28 := by kernel_rfl
theorem lfn30 : lFn Go.Proofs.Try.prog pure Go.Proofs.Try.f30 = some L30 := by kernel_rfl
theorem lfn31 : lFn Go.Proofs.Try.prog pure Go.Proofs.Try.f31 = some L31 := by kernel_rfl
theorem lfn32 : lFn Go.Proofs.Try.prog pure Go.Proofs.Try.f32 = some L32 := by kernel_rfl
theorem lfn11 : lFn Go.Proofs.Try.prog pure Go.Proofs.Try.f11 = some L11 := by kernel_rfl
instance : HasA Sy := { f77 := rfl, f78 := rfl, f79 := rfl, f82 := rfl }
instance : HasP Sy := { f40 := rfl, f41 := rfl, f70 := rfl, f71 := rfl, f81 := rfl, f83 := rfl, f84 := rfl }
instance : HasQ Sy := { f51 := rfl, f52 := rfl, f92 := rfl, f95 := rfl }
instance : HasSame Sy := { f72 := rfl }
instance : HasF Sy := { f28 := rfl, f30 := rfl, f31 := rfl, f32 := rfl }
instance : HasLSpreadBy Sy := { f11 := rfl }
theorem sysOK {B : Nat} {w0 : World} : SysOK Go.Proofs.Try.prog pure Sy B w0 := SysOK.of (by
  intro p hp
  simp only [funs, List.mem_cons, List.not_mem_nil, or_false] at hp
  rcases hp with rfl | rfl | rfl | rfl | rfl | rfl | rfl | rfl | rfl | rfl | rfl | rfl | rfl | rfl | rfl | rfl | rfl | rfl | rfl | rfl | rfl
  · exact ⟨_, Go.Proofs.Try.func77, lfn77⟩
  · exact ⟨_, Go.Proofs.Try.func78, lfn78⟩
  · exact ⟨_, Go.Proofs.Try.func79, lfn79⟩
  · exact ⟨_, Go.Proofs.Try.func82, lfn82⟩
  · exact ⟨_, Go.Proofs.Try.func40, lfn40⟩
  · exact ⟨_, Go.Proofs.Try.func41, lfn41⟩
  · exact ⟨_, Go.Proofs.Try.func70, lfn70⟩
  · exact ⟨_, Go.Proofs.Try.func71, lfn71⟩
  · exact ⟨_, Go.Proofs.Try.func81, lfn81⟩
  · exact ⟨_, Go.Proofs.Try.func83, lfn83⟩
  · exact ⟨_, Go.Proofs.Try.func84, lfn84⟩
  · exact ⟨_, Go.Proofs.Try.func51, lfn51⟩
  · exact ⟨_, Go.Proofs.Try.func52, lfn52⟩
  · exact ⟨_, Go.Proofs.Try.func92, lfn92⟩
  · exact ⟨_, Go.Proofs.Try.func95, lfn95⟩
  · exact ⟨_, Go.Proofs.Try.func72, lfn72⟩
  · exact ⟨_, Go.Proofs.Try.func28, lfn28⟩
  · exact ⟨_, Go.Proofs.Try.func30, lfn30⟩
  · exact ⟨_, Go.Proofs.Try.func31, lfn31⟩
  · exact ⟨_, Go.Proofs.Try.func32, lfn32⟩
  · exact ⟨_, Go.Proofs.Try.func11, lfn11⟩)

end Go.E.SpreadBy
