/- The law of PickBy: what the evaluator finds. -/
import Derived.Test.YtgmacpocalppcaaMP
import Derived.Test.YtgmacpocalppcaaEE
import Derived.Test.YtgmacpocalppcaaProg
set_option linter.unusedVariables false
set_option linter.unusedSimpArgs false
namespace Go.E
open Go
def L9 : LFn := ⟨3, (.seq (.reg [⟨(.some 6), (.mv (.c (.lf (.bool false)))), none⟩])
 (.seq (.seq (.reg [⟨(.some 17), (.mv (.t 2)), none⟩, ⟨(.some 18), (.len (.t 17)), none⟩, ⟨(.some 19), (.bin .gtr (.t 18) (.c (.lf (.int .i64 1048576)))), none⟩])
 (.cond (.t 19) (.seq (.reg [⟨(.some 6), (.mv (.c (.lf (.bool true)))), none⟩])
 .ret) .skip))
 (.seq (.reg [⟨(.some 21), (.mv (.t 0)), none⟩, ⟨(.some 22), (.mv (.t 1)), none⟩, ⟨(.some 23), (.mv (.t 2)), none⟩, ⟨(.some 24), (.call false 28 [(.t 23)]), none⟩, ⟨(.some 25), (.call false 40 [(.t 21), (.t 22), (.t 24)]), none⟩, ⟨(.some 20), (.mv (.t 25)), none⟩, ⟨(.some 26), (.ext (.t 20) 0), none⟩, ⟨(.some 27), (.ext (.t 20) 1), none⟩, ⟨(.some 7), (.mv (.t 26)), none⟩, ⟨(.some 8), (.mv (.t 27)), none⟩])
 (.seq (.reg [⟨(.some 28), (.mv (.t 2)), none⟩, ⟨(.some 29), (.call false 28 [(.t 28)]), none⟩, ⟨(.some 9), (.mv (.t 29)), none⟩])
 (.seq (.reg [⟨(.some 31), (.mv (.t 0)), none⟩, ⟨(.some 32), (.mv (.t 1)), none⟩, ⟨(.some 33), (.mv (.t 9)), none⟩, ⟨(.some 34), (.call false 41 [(.t 31), (.t 32), (.t 33)]), none⟩, ⟨(.some 30), (.mv (.t 34)), none⟩, ⟨(.some 35), (.ext (.t 30) 0), none⟩, ⟨(.some 36), (.ext (.t 30) 1), none⟩, ⟨(.some 10), (.mv (.t 35)), none⟩, ⟨(.some 11), (.mv (.t 36)), none⟩])
 (.seq (.seq (.reg [⟨(.some 37), (.mv (.t 10)), none⟩, ⟨(.some 38), (.mv (.t 7)), none⟩, ⟨(.some 39), (.call true 30 [(.t 37), (.t 38)]), none⟩, ⟨(.some 40), (.una .not (.t 39)), none⟩, ⟨(.some 41), (.mv (.t 40)), none⟩, ⟨(.some 42), (.mv (.t 11)), (.some (41, false))⟩, ⟨(.some 43), (.mv (.t 8)), (.some (41, false))⟩, ⟨(.some 44), (.beq true (.t 42) (.t 43)), (.some (41, false))⟩, ⟨(.some 45), (.pick (.t 41) (.c (.lf (.bool true))) (.t 44)), none⟩])
 (.cond (.t 45) (.seq (.reg [⟨(.some 6), (.mv (.c (.lf (.bool false)))), none⟩])
 .ret) .skip))
 (.seq (.seq (.reg [⟨(.some 46), (.mv (.t 9)), none⟩, ⟨(.some 47), (.mv (.t 2)), none⟩, ⟨(.some 48), (.call false 28 [(.t 47)]), none⟩, ⟨(.some 49), (.call true 30 [(.t 46), (.t 48)]), none⟩, ⟨(.some 50), (.una .not (.t 49)), none⟩])
 (.cond (.t 50) (.seq (.reg [⟨(.some 6), (.mv (.c (.lf (.bool false)))), none⟩])
 .ret) .skip))
 (.seq (.reg [⟨(.some 12), (.mv (.c (.lf (.int .i64 1)))), none⟩])
 (.seq (.reg [⟨(.some 51), (.mv (.t 9)), none⟩, ⟨(.some 52), (.mv (.t 12)), none⟩, ⟨(.some 53), (.call false 31 [(.t 51), (.t 52)]), none⟩, ⟨(.some 12), (.mv (.t 53)), none⟩])
 (.seq (.seq (.reg [⟨(.some 54), (.mv (.t 12)), none⟩, ⟨(.some 55), (.bin .lss (.t 54) (.c (.lf (.int .i64 0)))), none⟩, ⟨(.some 56), (.mv (.t 55)), none⟩, ⟨(.some 57), (.mv (.t 10)), (.some (56, false))⟩, ⟨(.some 58), (.mv (.t 7)), (.some (56, false))⟩, ⟨(.some 59), (.call true 30 [(.t 57), (.t 58)]), (.some (56, false))⟩, ⟨(.some 60), (.una .not (.t 59)), (.some (56, false))⟩, ⟨(.some 61), (.pick (.t 56) (.c (.lf (.bool true))) (.t 60)), none⟩, ⟨(.some 62), (.mv (.t 61)), none⟩, ⟨(.some 63), (.mv (.t 11)), (.some (62, false))⟩, ⟨(.some 64), (.mv (.t 8)), (.some (62, false))⟩, ⟨(.some 65), (.beq true (.t 63) (.t 64)), (.some (62, false))⟩, ⟨(.some 66), (.pick (.t 62) (.c (.lf (.bool true))) (.t 65)), none⟩])
 (.cond (.t 66) (.seq (.reg [⟨(.some 6), (.mv (.c (.lf (.bool false)))), none⟩])
 .ret) .skip))
 (.seq (.reg [⟨(.some 13), (.mv (.c (.lf (.int .i64 1)))), none⟩])
 (.seq (.reg [⟨(.some 67), (.mv (.t 10)), none⟩, ⟨(.some 68), (.mv (.t 13)), none⟩, ⟨(.some 69), (.call false 31 [(.t 67), (.t 68)]), none⟩, ⟨(.some 13), (.mv (.t 69)), none⟩])
 (.seq (.reg [⟨(.some 14), (.mv (.c (.lf (.int .i64 1)))), none⟩])
 (.seq (.reg [⟨(.some 70), (.mv (.t 10)), none⟩, ⟨(.some 71), (.mv (.t 14)), none⟩, ⟨(.some 72), (.call true 32 [(.t 70), (.t 71)]), none⟩, ⟨(.some 14), (.mv (.t 72)), none⟩])
 (.seq (.seq (.reg [⟨(.some 73), (.mv (.t 14)), none⟩, ⟨(.some 74), (.bin .lss (.t 73) (.c (.lf (.int .i64 0)))), none⟩])
 (.cond (.t 74) (.seq (.reg [⟨(.some 6), (.mv (.c (.lf (.bool false)))), none⟩])
 .ret) .skip))
 (.seq (.seq (.reg [⟨(.some 75), (.mv (.t 14)), none⟩, ⟨(.some 76), (.mv (.t 13)), none⟩, ⟨(.some 77), (.bin .neq (.t 75) (.t 76)), none⟩])
 (.cond (.t 77) (.seq (.reg [⟨(.some 6), (.mv (.c (.lf (.bool false)))), none⟩])
 .ret) .skip))
 (.seq (.reg [⟨(.some 79), (.mv (.t 0)), none⟩, ⟨(.some 80), (.mv (.t 1)), none⟩, ⟨(.some 81), (.mv (.t 2)), none⟩, ⟨(.some 82), (.call false 28 [(.t 81)]), none⟩, ⟨(.some 83), (.call false 41 [(.t 79), (.t 80), (.t 82)]), none⟩, ⟨(.some 78), (.mv (.t 83)), none⟩, ⟨(.some 84), (.ext (.t 78) 0), none⟩, ⟨(.some 85), (.ext (.t 78) 1), none⟩, ⟨(.some 15), (.mv (.t 84)), none⟩, ⟨(.some 16), (.mv (.t 85)), none⟩])
 (.seq (.seq (.reg [⟨(.some 86), (.mv (.t 15)), none⟩, ⟨(.some 87), (.mv (.t 7)), none⟩, ⟨(.some 88), (.call true 30 [(.t 86), (.t 87)]), none⟩, ⟨(.some 89), (.una .not (.t 88)), none⟩, ⟨(.some 90), (.mv (.t 89)), none⟩, ⟨(.some 91), (.mv (.t 16)), (.some (90, false))⟩, ⟨(.some 92), (.mv (.t 8)), (.some (90, false))⟩, ⟨(.some 93), (.beq true (.t 91) (.t 92)), (.some (90, false))⟩, ⟨(.some 94), (.pick (.t 90) (.c (.lf (.bool true))) (.t 93)), none⟩])
 (.cond (.t 94) (.seq (.reg [⟨(.some 6), (.mv (.c (.lf (.bool false)))), none⟩])
 .ret) .skip))
 (.seq (.reg [⟨(.some 14), (.mv (.c (.lf (.int .i64 1)))), none⟩])
 (.seq (.reg [⟨(.some 95), (.mv (.t 10)), none⟩, ⟨(.some 96), (.mv (.t 14)), none⟩, ⟨(.some 97), (.call true 32 [(.t 95), (.t 96)]), none⟩, ⟨(.some 14), (.mv (.t 97)), none⟩])
 (.seq (.seq (.reg [⟨(.some 98), (.mv (.t 14)), none⟩, ⟨(.some 99), (.bin .lss (.t 98) (.c (.lf (.int .i64 0)))), none⟩])
 (.cond (.t 99) (.seq (.reg [⟨(.some 6), (.mv (.c (.lf (.bool false)))), none⟩])
 .ret) .skip))
 (.seq (.seq (.reg [⟨(.some 100), (.mv (.t 14)), none⟩, ⟨(.some 101), (.mv (.t 13)), none⟩, ⟨(.some 102), (.bin .neq (.t 100) (.t 101)), none⟩])
 (.cond (.t 102) (.seq (.reg [⟨(.some 6), (.mv (.c (.lf (.bool false)))), none⟩])
 .ret) .skip))
 (.seq (.reg [⟨(.some 6), (.mv (.c (.lf (.bool true)))), none⟩])
 .ret))))))))))))))))))))))), [(.tmp 6)]⟩
class HasLPickBy (S : Sys) : Prop extends HasP S, HasF S where
  f9 : S.fs 9 = some L9
theorem fl_of {h : Hp} {r : List Lf} (t : Ty h (.flt .f32) r) : ∃ x : Nat, r = fl x ∧ True := by
  obtain ⟨x, rfl, _, _⟩ := t
  exact ⟨x, rfl, trivial⟩
theorem lawPickBy {S : Sys} [HasLPickBy S] : LawHolds S 9 [(false, .int .i64), (false, .int .i64), (false, .sl 1 (.flt .f32))] := by
  intro h cs hcs
  obtain ⟨c, _, rfl, ⟨ls, rfl, f, rfl, _⟩, c2, _, rfl, ⟨ls2, rfl, p, rfl, _⟩, c3, _, rfl, ⟨ls3, rfl, l, rows, rfl, hA, hrows⟩, rfl⟩ := hcs
  obtain ⟨xs, rfl, _⟩ := rows_map (Q := fun _ => True) fun r hr => fl_of (hrows r hr)
  have hA0 := hA
  have hlen := pickBy_len (f := f) (p := p) (xs := xs)
  refine law_of (F := L9) HasLPickBy.f9 rfl ?_
  unfold L9
  dsimp only []
  repeat' (first | (simp (disch := first | omega | assumption | (simp [*] <;> fail) | assumption) [-Bool.decide_and, -Bool.decide_or, -Bool.not_and, -Bool.not_or, toNat_pred, toNat_succ, wrap64, wr_new, wr_new0, ok_if, ok_ifn, iadV_sl, makeV_int, decT, decF, *, hA.len]) | (refine Gd_split (fun hc => ?_) (fun hc => ?_) <;> (have hc2 := hc; try simp at hc2)) | (refine Br_split (fun hc => ?_) (fun hc => ?_) <;> (have hc2 := hc; try simp at hc2)) | omega)
  have hn : xs.length ≤ 16777216 := by omega
  refine c_toFloat32S hA hn (Nat.le_refl _) fun l1 g1 hN1 => ?_
  have q1 := hN1.kept.1
  repeat' (first | (simp (disch := first | omega | assumption | (simp [*] <;> fail) | assumption) [-Bool.decide_and, -Bool.decide_or, -Bool.not_and, -Bool.not_or, toNat_pred, toNat_succ, wrap64, wr_new, wr_new0, ok_if, ok_ifn, iadV_sl, makeV_int, decT, decF, *]) | (refine Gd_split (fun hc => ?_) (fun hc => ?_) <;> (have hc2 := hc; try simp at hc2)) | (refine Br_split (fun hc => ?_) (fun hc => ?_) <;> (have hc2 := hc; try simp at hc2)) | omega)
  refine d_specPickBy hN1.arr q1 fun s g2 hS => ?_
  have q2 := hS.kept.1
  repeat' (first | (simp (disch := first | omega | assumption | (simp [*] <;> fail) | assumption) [-Bool.decide_and, -Bool.decide_or, -Bool.not_and, -Bool.not_or, toNat_pred, toNat_succ, wrap64, wr_new, wr_new0, ok_if, ok_ifn, iadV_sl, makeV_int, decT, decF, *]) | (refine Gd_split (fun hc => ?_) (fun hc => ?_) <;> (have hc2 := hc; try simp at hc2)) | (refine Br_split (fun hc => ?_) (fun hc => ?_) <;> (have hc2 := hc; try simp at hc2)) | omega)
  replace hA := hA.kept (hN1.kept.trans hS.kept)
  refine c_toFloat32S hA hn (by omega) fun l9 g3 hN9 => ?_
  have q3 := hN9.kept.1
  repeat' (first | (simp (disch := first | omega | assumption | (simp [*] <;> fail) | assumption) [-Bool.decide_and, -Bool.decide_or, -Bool.not_and, -Bool.not_or, toNat_pred, toNat_succ, wrap64, wr_new, wr_new0, ok_if, ok_ifn, iadV_sl, makeV_int, decT, decF, *]) | (refine Gd_split (fun hc => ?_) (fun hc => ?_) <;> (have hc2 := hc; try simp at hc2)) | (refine Br_split (fun hc => ?_) (fun hc => ?_) <;> (have hc2 := hc; try simp at hc2)) | omega)
  refine d_implPickBy hN9.arr (by omega) fun r g4 hR => ?_
  have q4 := hR.kept.1
  have hS4 := hS.arr.kept (hN9.kept.trans hR.kept)
  repeat' (first | (simp (disch := first | omega | assumption | (simp [*] <;> fail) | assumption) [-Bool.decide_and, -Bool.decide_or, -Bool.not_and, -Bool.not_or, toNat_pred, toNat_succ, wrap64, wr_new, wr_new0, ok_if, ok_ifn, iadV_sl, makeV_int, decT, decF, *, c_eqFloat32S hR.arr hS4]) | (refine Gd_split (fun hc => ?_) (fun hc => ?_) <;> (have hc2 := hc; try simp at hc2)) | (refine Br_split (fun hc => ?_) (fun hc => ?_) <;> (have hc2 := hc; try simp at hc2)) | omega)
  replace hA := hA.kept (hN9.kept.trans hR.kept)
  refine c_toFloat32S hA hn (by omega) fun l48 g5 hN5 => ?_
  have q5 := hN5.kept.1
  have hN9' := hN9.arr.kept (hR.kept.trans hN5.kept)
  repeat' (first | (simp (disch := first | omega | assumption | (simp [*] <;> fail) | assumption) [-Bool.decide_and, -Bool.decide_or, -Bool.not_and, -Bool.not_or, toNat_pred, toNat_succ, wrap64, wr_new, wr_new0, ok_if, ok_ifn, iadV_sl, makeV_int, decT, decF, *, c_eqFloat32S hN9' hN5.arr]) | (refine Gd_split (fun hc => ?_) (fun hc => ?_) <;> (have hc2 := hc; try simp at hc2)) | (refine Br_split (fun hc => ?_) (fun hc => ?_) <;> (have hc2 := hc; try simp at hc2)) | omega)
  have z9 : l9 ≠ .nils → g2.length ≤ l9.id ∧ l9.id < g3.length := hN9.lt
  have zr : r ≠ .nils → g3.length ≤ r.id ∧ r.id < g4.length := hR.lt
  have hN9b := hN9.later (hR.kept.trans hN5.kept)
  refine c_markFloat32S hN9b (by simp; omega) (by omega) (by omega) (by omega) fun g6 hM hB => ?_
  have hR6 := hB.new ((hR.base hN9.kept).later hN5.kept) (fun hn => (z9 hn).1) (fun hn hn2 => by have := z9 hn; have := zr hn2; omega)
  have hS6 := hS.arr.kept hM.kept
  repeat' (first | (simp (disch := first | omega | assumption | (simp [*] <;> fail) | assumption) [-Bool.decide_and, -Bool.decide_or, -Bool.not_and, -Bool.not_or, toNat_pred, toNat_succ, wrap64, wr_new, wr_new0, ok_if, ok_ifn, iadV_sl, makeV_int, decT, decF, *, c_eqFloat32S hR6.arr hS6]) | (refine Gd_split (fun hc => ?_) (fun hc => ?_) <;> (have hc2 := hc; try simp at hc2)) | (refine Br_split (fun hc => ?_) (fun hc => ?_) <;> (have hc2 := hc; try simp at hc2)) | omega)
  refine c_markFloat32S hR6 (by simp; omega) (by omega) (by omega) (by omega) fun g7 hM7 hB7 => ?_
  have q7 := hM7.kept.1
  simp only [List.length_map] at hM7
  have hA7 := hM7.arr
  repeat' (first | (simp (disch := first | omega | assumption | (simp [*] <;> fail) | assumption) [-Bool.decide_and, -Bool.decide_or, -Bool.not_and, -Bool.not_or, toNat_pred, toNat_succ, wrap64, wr_new, wr_new0, ok_if, ok_ifn, iadV_sl, makeV_int, decT, decF, *, c_heldFloat32S hA7]) | (refine Gd_split (fun hc => ?_) (fun hc => ?_) <;> (have hc2 := hc; try simp at hc2)) | (refine Br_split (fun hc => ?_) (fun hc => ?_) <;> (have hc2 := hc; try simp at hc2)) | omega)
  have k7 := (hN1.kept.trans hS.kept).trans hM7.kept
  have p7 := k7.1
  refine c_toFloat32S (hA0.kept k7) hn (by omega) fun l2 g8 hN8 => ?_
  have q8 := hN8.kept.1
  repeat' (first | (simp (disch := first | omega | assumption | (simp [*] <;> fail) | assumption) [-Bool.decide_and, -Bool.decide_or, -Bool.not_and, -Bool.not_or, toNat_pred, toNat_succ, wrap64, wr_new, wr_new0, ok_if, ok_ifn, iadV_sl, makeV_int, decT, decF, *]) | (refine Gd_split (fun hc => ?_) (fun hc => ?_) <;> (have hc2 := hc; try simp at hc2)) | (refine Br_split (fun hc => ?_) (fun hc => ?_) <;> (have hc2 := hc; try simp at hc2)) | omega)
  refine d_implPickBy hN8.arr (by omega) fun r2 g9 hR9 => ?_
  have k9 := hN8.kept.trans hR9.kept
  have hS9 := hS.arr.kept (hM7.kept.trans k9)
  have hR7 := hA7.kept k9
  repeat' (first | (simp (disch := first | omega | assumption | (simp [*] <;> fail) | assumption) [-Bool.decide_and, -Bool.decide_or, -Bool.not_and, -Bool.not_or, toNat_pred, toNat_succ, wrap64, wr_new, wr_new0, ok_if, ok_ifn, iadV_sl, makeV_int, decT, decF, *, c_eqFloat32S hR9.arr hS9, c_heldFloat32S hR7]) | (refine Gd_split (fun hc => ?_) (fun hc => ?_) <;> (have hc2 := hc; try simp at hc2)) | (refine Br_split (fun hc => ?_) (fun hc => ?_) <;> (have hc2 := hc; try simp at hc2)) | omega)
end Go.E
namespace Go.E.PickBy
open Go Go.E
def pure : FuncId → Bool := fun f => List.elem f [3, 4, 5, 6, 7, 8, 9, 10, 11, 12, 13, 14, 15, 16, 17, 18, 21, 23, 24, 26, 30, 32, 33, 34, 35, 36, 38, 39, 42, 43, 45, 48, 50, 55, 56, 58, 59, 62, 63, 64, 65, 66, 67, 68, 69, 70, 71, 72, 73, 74, 75, 76, 77, 78, 79, 80, 81, 82, 84, 87, 88, 90, 91, 94, 97, 98, 99, 100, 101, 102, 104, 106, 107, 108, 110, 112, 113, 115, 116, 117, 118, 119, 120, 121, 122, 123, 124, 125, 126, 127, 128, 129, 130, 131, 132, 133, 134, 135, 136, 138, 140, 142, 149, 151]
def funs : List (Nat × LFn) := [(77, L77), (78, L78), (79, L79), (82, L82), (40, L40), (41, L41), (70, L70), (71, L71), (81, L81), (83, L83), (84, L84), (72, L72), (28, L28), (30, L30), (31, L31), (32, L32), (9, L9)]
def Sy : Sys := sysOf funs
theorem lfn77 : lFn Go.Proofs.Try.prog pure Go.Proofs.Try.f77 = some L77 := by kernel_rfl
theorem lfn78 : lFn Go.Proofs.Try.prog pure Go.Proofs.Try.f78 = some L78 := by kernel_rfl
theorem lfn79 : lFn Go.Proofs.Try.prog pure Go.Proofs.Try.f79 = some L79 := by kernel_rfl
theorem lfn82 : lFn Go.Proofs.Try.prog pure Go.Proofs.Try.f82 = some L82 := by kernel_rfl
theorem lfn40 : lFn Go.Proofs.Try.prog pure Go.Proofs.Try.f40 = some L40 := by kernel_rfl
theorem lfn41 : lFn Go.Proofs.Try.prog pure Go.Proofs.Try.f41 = some L41 := by kernel_rfl
theorem lfn70 : lFn Go.Proofs.Try.prog pure Go.Proofs.Try.f70 = some L70 := by kernel_rfl
theorem lfn71 : lFn Go.Proofs.Try.prog pure Go.Proofs.Try.f71 = some L71 := by kernel_rfl
theorem lfn81 : lFn Go.Proofs.Try.prog pure Go.Proofs.Try.f81 = some L81 := by kernel_rfl
theorem lfn83 : lFn Go.Proofs.Try.prog pure Go.Proofs.Try.f83 = some L83 := by kernel_rfl
theorem lfn84 : lFn Go.Proofs.Try.prog pure Go.Proofs.Try.f84 = some L84 := by kernel_rfl
theorem lfn72 : lFn Go.Proofs.Try.prog pure Go.Proofs.Try.f72 = some L72 := by kernel_rfl
theorem lfn28 : lFn Go.Proofs.Try.prog pure Go.Proofs.Try.f28 = some L28 := by kernel_rfl
theorem lfn30 : lFn Go.Proofs.Try.prog pure Go.Proofs.Try.f30 = some L30 := by kernel_rfl
theorem lfn31 : lFn Go.Proofs.Try.prog pure Go.Proofs.Try.f31 = some L31 := by kernel_rfl
theorem lfn32 : lFn Go.Proofs.Try.prog pure Go.Proofs.Try.f32 = some L32 := by kernel_rfl
theorem lfn9 : lFn Go.Proofs.Try.prog pure Go.Proofs.Try.f9 = some L9 := by kernel_rfl
instance : HasA Sy := { f77 := rfl, f78 := rfl, f79 := rfl, f82 := rfl }
instance : HasP Sy := { f40 := rfl, f41 := rfl, f70 := rfl, f71 := rfl, f81 := rfl, f83 := rfl, f84 := rfl }
instance : HasSame Sy := { f72 := rfl }
instance : HasF Sy := { f28 := rfl, f30 := rfl, f31 := rfl, f32 := rfl }
instance : HasLPickBy Sy := { f9 := rfl }
theorem sysOK {B : Nat} {w0 : World} : SysOK Go.Proofs.Try.prog pure Sy B w0 := SysOK.of (by
  intro p hp
  simp only [funs, List.mem_cons, List.not_mem_nil, or_false] at hp
  rcases hp with rfl | rfl | rfl | rfl | rfl | rfl | rfl | rfl | rfl | rfl | rfl | rfl | rfl | rfl | rfl | rfl | rfl
  · exact ⟨_, Go.Proofs.Try.func77, lfn77⟩
  · exact ⟨_, Go.Proofs.Try.func78, lfn78⟩
  · exact ⟨_, Go.Proofs.Try.func79, lfn79⟩
  · exact ⟨_, Go.Proofs.Try.func82, lfn82⟩
  · exact ⟨_, Go.Proofs.Try.func40, lfn40⟩
  · exact ⟨_, Go.Proofs.Try.func41, lfn41⟩
  · exact ⟨_, Go.Proofs.Try.func70, lfn70⟩
  · exact ⟨_, Go.Proofs.Try.func71, lfn71⟩
  · exact ⟨_, Go.Proofs.Try.func81, lfn81⟩
  · exact ⟨_, Go.Proofs.Try.func83, lfn83⟩
  · exact ⟨_, Go.Proofs.Try.func84, lfn84⟩
  · exact ⟨_, Go.Proofs.Try.func72, lfn72⟩
  · exact ⟨_, Go.Proofs.Try.func28, lfn28⟩
  · exact ⟨_, Go.Proofs.Try.func30, lfn30⟩
  · exact ⟨_, Go.Proofs.Try.func31, lfn31⟩
  · exact ⟨_, Go.Proofs.Try.func32, lfn32⟩
  · exact ⟨_, Go.Proofs.Try.func9, lfn9⟩)

end Go.E.PickBy
