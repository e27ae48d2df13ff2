/- The law of CodesOfBytes: what the evaluator finds. -/
import Derived.Test.YtgmacpocalppcaaMY
import Derived.Test.YtgmacpocalppcaaEE
import Derived.Test.YtgmacpocalppcaaProg
set_option linter.unusedVariables false
set_option linter.unusedSimpArgs false
namespace Go.E
open Go
def L4 : LFn := ⟨1, (.seq (.reg [⟨(.some 2), (.mv (.c (.lf (.bool false)))), none⟩])
 (.seq (.seq (.reg [⟨(.some 11), (.mv (.t 0)), none⟩, ⟨(.some 12), (.slen (.t 11)), none⟩, ⟨(.some 13), (.bin .gtr (.t 12) (.c (.lf (.int .i64 1048576)))), none⟩])
 (.cond (.t 13) (.seq (.reg [⟨(.some 2), (.mv (.c (.lf (.bool true)))), none⟩])
 .ret) .skip))
 (.seq (.reg [⟨(.some 15), (.mv (.t 0)), none⟩, ⟨(.some 16), (.call false 19 [(.t 15)]), none⟩, ⟨(.some 14), (.mv (.t 16)), none⟩, ⟨(.some 17), (.ext (.t 14) 0), none⟩, ⟨(.some 18), (.ext (.t 14) 1), none⟩, ⟨(.some 3), (.mv (.t 17)), none⟩, ⟨(.some 4), (.mv (.t 18)), none⟩])
 (.seq (.reg [⟨(.some 20), (.mv (.t 0)), none⟩, ⟨(.some 21), (.call false 20 [(.t 20)]), none⟩, ⟨(.some 19), (.mv (.t 21)), none⟩, ⟨(.some 22), (.ext (.t 19) 0), none⟩, ⟨(.some 23), (.ext (.t 19) 1), none⟩, ⟨(.some 5), (.mv (.t 22)), none⟩, ⟨(.some 6), (.mv (.t 23)), none⟩])
 (.seq (.seq (.reg [⟨(.some 24), (.mv (.t 5)), none⟩, ⟨(.some 25), (.mv (.t 3)), none⟩, ⟨(.some 26), (.call true 21 [(.t 24), (.t 25)]), none⟩, ⟨(.some 27), (.una .not (.t 26)), none⟩, ⟨(.some 28), (.mv (.t 27)), none⟩, ⟨(.some 29), (.mv (.t 6)), (.some (28, false))⟩, ⟨(.some 30), (.mv (.t 4)), (.some (28, false))⟩, ⟨(.some 31), (.beq true (.t 29) (.t 30)), (.some (28, false))⟩, ⟨(.some 32), (.pick (.t 28) (.c (.lf (.bool true))) (.t 31)), none⟩])
 (.cond (.t 32) (.seq (.reg [⟨(.some 2), (.mv (.c (.lf (.bool false)))), none⟩])
 .ret) .skip))
 (.seq (.reg [⟨(.some 7), (.mv (.c (.lf (.int .i64 1)))), none⟩])
 (.seq (.reg [⟨(.some 33), (.mv (.t 5)), none⟩, ⟨(.some 34), (.mv (.t 7)), none⟩, ⟨(.some 35), (.call false 22 [(.t 33), (.t 34)]), none⟩, ⟨(.some 7), (.mv (.t 35)), none⟩])
 (.seq (.reg [⟨(.some 8), (.mv (.c (.lf (.int .i64 1)))), none⟩])
 (.seq (.reg [⟨(.some 36), (.mv (.t 5)), none⟩, ⟨(.some 37), (.mv (.t 8)), none⟩, ⟨(.some 38), (.call true 23 [(.t 36), (.t 37)]), none⟩, ⟨(.some 8), (.mv (.t 38)), none⟩])
 (.seq (.seq (.reg [⟨(.some 39), (.mv (.t 8)), none⟩, ⟨(.some 40), (.bin .lss (.t 39) (.c (.lf (.int .i64 0)))), none⟩])
 (.cond (.t 40) (.seq (.reg [⟨(.some 2), (.mv (.c (.lf (.bool false)))), none⟩])
 .ret) .skip))
 (.seq (.seq (.reg [⟨(.some 41), (.mv (.t 8)), none⟩, ⟨(.some 42), (.mv (.t 7)), none⟩, ⟨(.some 43), (.bin .neq (.t 41) (.t 42)), none⟩])
 (.cond (.t 43) (.seq (.reg [⟨(.some 2), (.mv (.c (.lf (.bool false)))), none⟩])
 .ret) .skip))
 (.seq (.reg [⟨(.some 45), (.mv (.t 0)), none⟩, ⟨(.some 46), (.call false 20 [(.t 45)]), none⟩, ⟨(.some 44), (.mv (.t 46)), none⟩, ⟨(.some 47), (.ext (.t 44) 0), none⟩, ⟨(.some 48), (.ext (.t 44) 1), none⟩, ⟨(.some 9), (.mv (.t 47)), none⟩, ⟨(.some 10), (.mv (.t 48)), none⟩])
 (.seq (.seq (.reg [⟨(.some 49), (.mv (.t 9)), none⟩, ⟨(.some 50), (.mv (.t 3)), none⟩, ⟨(.some 51), (.call true 21 [(.t 49), (.t 50)]), none⟩, ⟨(.some 52), (.una .not (.t 51)), none⟩, ⟨(.some 53), (.mv (.t 52)), none⟩, ⟨(.some 54), (.mv (.t 10)), (.some (53, false))⟩, ⟨(.some 55), (.mv (.t 4)), (.some (53, false))⟩, ⟨(.some 56), (.beq true (.t 54) (.t 55)), (.some (53, false))⟩, ⟨(.some 57), (.pick (.t 53) (.c (.lf (.bool true))) (.t 56)), none⟩])
 (.cond (.t 57) (.seq (.reg [⟨(.some 2), (.mv (.c (.lf (.bool false)))), none⟩])
 .ret) .skip))
 (.seq (.reg [⟨(.some 8), (.mv (.c (.lf (.int .i64 1)))), none⟩])
 (.seq (.reg [⟨(.some 58), (.mv (.t 5)), none⟩, ⟨(.some 59), (.mv (.t 8)), none⟩, ⟨(.some 60), (.call true 23 [(.t 58), (.t 59)]), none⟩, ⟨(.some 8), (.mv (.t 60)), none⟩])
 (.seq (.seq (.reg [⟨(.some 61), (.mv (.t 8)), none⟩, ⟨(.some 62), (.bin .lss (.t 61) (.c (.lf (.int .i64 0)))), none⟩])
 (.cond (.t 62) (.seq (.reg [⟨(.some 2), (.mv (.c (.lf (.bool false)))), none⟩])
 .ret) .skip))
 (.seq (.seq (.reg [⟨(.some 63), (.mv (.t 8)), none⟩, ⟨(.some 64), (.mv (.t 7)), none⟩, ⟨(.some 65), (.bin .neq (.t 63) (.t 64)), none⟩])
 (.cond (.t 65) (.seq (.reg [⟨(.some 2), (.mv (.c (.lf (.bool false)))), none⟩])
 .ret) .skip))
 (.seq (.reg [⟨(.some 2), (.mv (.c (.lf (.bool true)))), none⟩])
 .ret)))))))))))))))))), [(.tmp 2)]⟩
class HasLCodesOfBytes (S : Sys) : Prop extends HasY S, HasI S where
  f4 : S.fs 4 = some L4
theorem lawCodesOfBytes {S : Sys} [HasLCodesOfBytes S] : LawHolds S 4 [(false, .str)] := by
  intro h cs hcs
  obtain ⟨c, _, rfl, ⟨ls, rfl, x, rfl, _⟩, rfl⟩ := hcs
  have hlen := codesOfBytes_len (s := x)
  refine law_of (F := L4) HasLCodesOfBytes.f4 rfl ?_
  unfold L4
  dsimp only []
  repeat' (first | (simp (disch := first | omega | assumption | (simp [*] <;> fail) | assumption) [-Bool.decide_and, -Bool.decide_or, -Bool.not_and, -Bool.not_or, toNat_pred, toNat_succ, wrap64, wr_new, wr_new0, ok_if, ok_ifn, iadV_sl, makeV_int, decT, decF, *]) | (refine Gd_split (fun hc => ?_) (fun hc => ?_) <;> (have hc2 := hc; try simp at hc2)) | (refine Br_split (fun hc => ?_) (fun hc => ?_) <;> (have hc2 := hc; try simp at hc2)) | omega)
  refine d_specCodesOfBytes (Nat.le_refl _) fun s g1 hS => ?_
  have q1 := hS.kept.1
  repeat' (first | (simp (disch := first | omega | assumption | (simp [*] <;> fail) | assumption) [-Bool.decide_and, -Bool.decide_or, -Bool.not_and, -Bool.not_or, toNat_pred, toNat_succ, wrap64, wr_new, wr_new0, ok_if, ok_ifn, iadV_sl, makeV_int, decT, decF, *]) | (refine Gd_split (fun hc => ?_) (fun hc => ?_) <;> (have hc2 := hc; try simp at hc2)) | (refine Br_split (fun hc => ?_) (fun hc => ?_) <;> (have hc2 := hc; try simp at hc2)) | omega)
  refine d_implCodesOfBytes q1 fun r g2 hR => ?_
  have q2 := hR.kept.1
  repeat' (first | (simp (disch := first | omega | assumption | (simp [*] <;> fail) | assumption) [-Bool.decide_and, -Bool.decide_or, -Bool.not_and, -Bool.not_or, toNat_pred, toNat_succ, wrap64, wr_new, wr_new0, ok_if, ok_ifn, iadV_sl, makeV_int, decT, decF, *, c_eqInt64S hR.arr (hS.arr.kept hR.kept)]) | (refine Gd_split (fun hc => ?_) (fun hc => ?_) <;> (have hc2 := hc; try simp at hc2)) | (refine Br_split (fun hc => ?_) (fun hc => ?_) <;> (have hc2 := hc; try simp at hc2)) | omega)
  refine c_markInt64S hR (by simp; omega) (by omega) (by omega) (by omega) fun g3 hM hB => ?_
  have q3 := hM.kept.1
  simp only [List.length_map] at hM
  have hA3 := hM.arr
  repeat' (first | (simp (disch := first | omega | assumption | (simp [*] <;> fail) | assumption) [-Bool.decide_and, -Bool.decide_or, -Bool.not_and, -Bool.not_or, toNat_pred, toNat_succ, wrap64, wr_new, wr_new0, ok_if, ok_ifn, iadV_sl, makeV_int, decT, decF, *, c_heldInt64S hA3]) | (refine Gd_split (fun hc => ?_) (fun hc => ?_) <;> (have hc2 := hc; try simp at hc2)) | (refine Br_split (fun hc => ?_) (fun hc => ?_) <;> (have hc2 := hc; try simp at hc2)) | omega)
  refine d_implCodesOfBytes (by omega) fun r2 g4 hR4 => ?_
  have hA4 := hA3.kept hR4.kept
  repeat' (first | (simp (disch := first | omega | assumption | (simp [*] <;> fail) | assumption) [-Bool.decide_and, -Bool.decide_or, -Bool.not_and, -Bool.not_or, toNat_pred, toNat_succ, wrap64, wr_new, wr_new0, ok_if, ok_ifn, iadV_sl, makeV_int, decT, decF, *, c_eqInt64S hR4.arr (hS.arr.kept (hM.kept.trans hR4.kept)), c_heldInt64S hA4]) | (refine Gd_split (fun hc => ?_) (fun hc => ?_) <;> (have hc2 := hc; try simp at hc2)) | (refine Br_split (fun hc => ?_) (fun hc => ?_) <;> (have hc2 := hc; try simp at hc2)) | omega)
end Go.E
namespace Go.E.CodesOfBytes
open Go Go.E
def pure : FuncId → Bool := fun f => List.elem f [3, 4, 5, 6, 7, 8, 9, 10, 11, 12, 13, 14, 15, 16, 17, 18, 21, 23, 24, 26, 30, 32, 33, 34, 35, 36, 38, 39, 42, 43, 45, 48, 50, 55, 56, 58, 59, 62, 63, 64, 65, 66, 67, 68, 69, 70, 71, 72, 73, 74, 75, 76, 77, 78, 79, 80, 81, 82, 84, 87, 88, 90, 91, 94, 97, 98, 99, 100, 101, 102, 104, 106, 107, 108, 110, 112, 113, 115, 116, 117, 118, 119, 120, 121, 122, 123, 124, 125, 126, 127, 128, 129, 130, 131, 132, 133, 134, 135, 136, 138, 140, 142, 149, 151]
def funs : List (Nat × LFn) := [(19, L19), (20, L20), (21, L21), (22, L22), (23, L23), (25, L25), (4, L4)]
def Sy : Sys := sysOf funs
theorem lfn19 : lFn Go.Proofs.Try.prog pure Go.Proofs.Try.f19 = some L19 := by kernel_rfl
theorem lfn20 : lFn Go.Proofs.Try.prog pure Go.Proofs.Try.f20 = some L20 := by kernel_rfl
theorem lfn21 : lFn Go.Proofs.Try.prog pure Go.Proofs.Try.f21 = some L21 := by kernel_rfl
theorem lfn22 : lFn Go.Proofs.Try.prog pure Go.Proofs.Try.f22 = some L22 := by kernel_rfl
theorem lfn23 : lFn Go.Proofs.Try.prog pure Go.Proofs.Try.f23 = some L23 := by kernel_rfl
theorem lfn25 : lFn Go.Proofs.Try.prog pure Go.Proofs.Try.f25 = some L25 := by kernel_rfl
theorem lfn4 : lFn Go.Proofs.Try.prog pure Go.Proofs.Try.f4 = some L4 := by kernel_rfl
instance : HasY Sy := { f19 := rfl, f20 := rfl }
instance : HasI Sy := { f21 := rfl, f22 := rfl, f23 := rfl, f25 := rfl }
instance : HasLCodesOfBytes Sy := { f4 := rfl }
theorem sysOK {B : Nat} {w0 : World} : SysOK Go.Proofs.Try.prog pure Sy B w0 := SysOK.of (by
  intro p hp
  simp only [funs, List.mem_cons, List.not_mem_nil, or_false] at hp
  rcases hp with rfl | rfl | rfl | rfl | rfl | rfl | rfl
  · exact ⟨_, Go.Proofs.Try.func19, lfn19⟩
  · exact ⟨_, Go.Proofs.Try.func20, lfn20⟩
  · exact ⟨_, Go.Proofs.Try.func21, lfn21⟩
  · exact ⟨_, Go.Proofs.Try.func22, lfn22⟩
  · exact ⟨_, Go.Proofs.Try.func23, lfn23⟩
  · exact ⟨_, Go.Proofs.Try.func25, lfn25⟩
  · exact ⟨_, Go.Proofs.Try.func4, lfn4⟩)

end Go.E.CodesOfBytes
