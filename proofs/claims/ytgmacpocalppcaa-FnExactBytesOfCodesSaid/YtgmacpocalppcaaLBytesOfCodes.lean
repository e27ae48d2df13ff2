/- The law of BytesOfCodes: what the evaluator finds. -/
import Derived.Test.YtgmacpocalppcaaMZ
import Derived.Test.YtgmacpocalppcaaEE
import Derived.Test.YtgmacpocalppcaaProg
set_option linter.unusedVariables false
set_option linter.unusedSimpArgs false
namespace Go.E
open Go
def L5 : LFn := ⟨1, (.seq (.reg [⟨(.some 2), (.mv (.c (.lf (.bool false)))), none⟩])
 (.seq (.seq (.reg [⟨(.some 8), (.mv (.t 0)), none⟩, ⟨(.some 9), (.len (.t 8)), none⟩, ⟨(.some 10), (.bin .gtr (.t 9) (.c (.lf (.int .i64 1048576)))), none⟩])
 (.cond (.t 10) (.seq (.reg [⟨(.some 2), (.mv (.c (.lf (.bool true)))), none⟩])
 .ret) .skip))
 (.seq (.reg [⟨(.some 12), (.mv (.t 0)), none⟩, ⟨(.some 13), (.call false 25 [(.t 12)]), none⟩, ⟨(.some 14), (.call true 24 [(.t 13)]), none⟩, ⟨(.some 11), (.mv (.t 14)), none⟩, ⟨(.some 15), (.ext (.t 11) 0), none⟩, ⟨(.some 16), (.ext (.t 11) 1), none⟩, ⟨(.some 3), (.mv (.t 15)), none⟩, ⟨(.some 4), (.mv (.t 16)), none⟩])
 (.seq (.reg [⟨(.some 17), (.mv (.t 0)), none⟩, ⟨(.some 18), (.call false 25 [(.t 17)]), none⟩, ⟨(.some 5), (.mv (.t 18)), none⟩])
 (.seq (.reg [⟨(.some 20), (.mv (.t 5)), none⟩, ⟨(.some 21), (.call true 26 [(.t 20)]), none⟩, ⟨(.some 19), (.mv (.t 21)), none⟩, ⟨(.some 22), (.ext (.t 19) 0), none⟩, ⟨(.some 23), (.ext (.t 19) 1), none⟩, ⟨(.some 6), (.mv (.t 22)), none⟩, ⟨(.some 7), (.mv (.t 23)), none⟩])
 (.seq (.seq (.reg [⟨(.some 24), (.mv (.t 6)), none⟩, ⟨(.some 25), (.mv (.t 3)), none⟩, ⟨(.some 26), (.bin .neq (.t 24) (.t 25)), none⟩, ⟨(.some 27), (.mv (.t 26)), none⟩, ⟨(.some 28), (.mv (.t 7)), (.some (27, false))⟩, ⟨(.some 29), (.mv (.t 4)), (.some (27, false))⟩, ⟨(.some 30), (.beq true (.t 28) (.t 29)), (.some (27, false))⟩, ⟨(.some 31), (.pick (.t 27) (.c (.lf (.bool true))) (.t 30)), none⟩])
 (.cond (.t 31) (.seq (.reg [⟨(.some 2), (.mv (.c (.lf (.bool false)))), none⟩])
 .ret) .skip))
 (.seq (.seq (.reg [⟨(.some 32), (.mv (.t 5)), none⟩, ⟨(.some 33), (.mv (.t 0)), none⟩, ⟨(.some 34), (.call false 25 [(.t 33)]), none⟩, ⟨(.some 35), (.call true 21 [(.t 32), (.t 34)]), none⟩, ⟨(.some 36), (.una .not (.t 35)), none⟩])
 (.cond (.t 36) (.seq (.reg [⟨(.some 2), (.mv (.c (.lf (.bool false)))), none⟩])
 .ret) .skip))
 (.seq (.reg [⟨(.some 2), (.mv (.c (.lf (.bool true)))), none⟩])
 .ret)))))))), [(.tmp 2)]⟩
class HasLBytesOfCodes (S : Sys) : Prop extends HasZ S, HasI S where
  f5 : S.fs 5 = some L5
theorem il_of {h : Hp} {r : List Lf} (t : Ty h (.int .i64) r) : ∃ x : Int, r = il x ∧ True := by
  obtain ⟨x, rfl, _⟩ := t
  exact ⟨x, rfl, trivial⟩
theorem lawBytesOfCodes {S : Sys} [HasLBytesOfCodes S] : LawHolds S 5 [(false, .sl 1 (.int .i64))] := by
  intro h cs hcs
  obtain ⟨c3, _, rfl, ⟨ls3, rfl, l, rows, rfl, hA, hrows⟩, rfl⟩ := hcs
  obtain ⟨xs, rfl, _⟩ := rows_map (Q := fun _ => True) fun r hr => il_of (hrows r hr)
  refine law_of (F := L5) HasLBytesOfCodes.f5 rfl ?_
  unfold L5
  dsimp only []
  repeat' (first | (simp (disch := first | omega | assumption | (simp [*] <;> fail) | assumption) [-Bool.decide_and, -Bool.decide_or, -Bool.not_and, -Bool.not_or, toNat_pred, toNat_succ, wrap64, wr_new, wr_new0, ok_if, ok_ifn, iadV_sl, makeV_int, decT, decF, *, hA.len]) | (refine Gd_split (fun hc => ?_) (fun hc => ?_) <;> (have hc2 := hc; try simp at hc2)) | (refine Br_split (fun hc => ?_) (fun hc => ?_) <;> (have hc2 := hc; try simp at hc2)) | omega)
  have hn : xs.length ≤ 16777216 := by omega
  refine c_toInt64S hA hn (Nat.le_refl _) fun l1 g1 hN1 => ?_
  have q1 := hN1.kept.1
  obtain ⟨n, ok, hcc⟩ : ∃ (n : ByteArray) (ok : Bool), bytesOfCodes xs = [.lf (.str n), .lf (.bool ok)] := by
    unfold bytesOfCodes; split <;> exact ⟨_, _, rfl⟩
  repeat' (first | (simp (disch := first | omega | assumption | (simp [*] <;> fail) | assumption) [-Bool.decide_and, -Bool.decide_or, -Bool.not_and, -Bool.not_or, toNat_pred, toNat_succ, wrap64, wr_new, wr_new0, ok_if, ok_ifn, iadV_sl, makeV_int, decT, decF, *, c_specBytesOfCodes hN1.arr, hcc]) | (refine Gd_split (fun hc => ?_) (fun hc => ?_) <;> (have hc2 := hc; try simp at hc2)) | (refine Br_split (fun hc => ?_) (fun hc => ?_) <;> (have hc2 := hc; try simp at hc2)) | omega)
  replace hA := hA.kept hN1.kept
  refine c_toInt64S hA hn q1 fun l2 g2 hN2 => ?_
  have q2 := hN2.kept.1
  repeat' (first | (simp (disch := first | omega | assumption | (simp [*] <;> fail) | assumption) [-Bool.decide_and, -Bool.decide_or, -Bool.not_and, -Bool.not_or, toNat_pred, toNat_succ, wrap64, wr_new, wr_new0, ok_if, ok_ifn, iadV_sl, makeV_int, decT, decF, *, c_implBytesOfCodes hN2.arr, hcc]) | (refine Gd_split (fun hc => ?_) (fun hc => ?_) <;> (have hc2 := hc; try simp at hc2)) | (refine Br_split (fun hc => ?_) (fun hc => ?_) <;> (have hc2 := hc; try simp at hc2)) | omega)
  replace hA := hA.kept hN2.kept
  refine c_toInt64S hA hn (by omega) fun l3 g3 hN3 => ?_
  repeat' (first | (simp (disch := first | omega | assumption | (simp [*] <;> fail) | assumption) [-Bool.decide_and, -Bool.decide_or, -Bool.not_and, -Bool.not_or, toNat_pred, toNat_succ, wrap64, wr_new, wr_new0, ok_if, ok_ifn, iadV_sl, makeV_int, decT, decF, *, c_eqInt64S (hN2.arr.kept hN3.kept) hN3.arr]) | (refine Gd_split (fun hc => ?_) (fun hc => ?_) <;> (have hc2 := hc; try simp at hc2)) | (refine Br_split (fun hc => ?_) (fun hc => ?_) <;> (have hc2 := hc; try simp at hc2)) | omega)
end Go.E
namespace Go.E.BytesOfCodes
open Go Go.E
def pure : FuncId → Bool := fun f => List.elem f [3, 4, 5, 6, 7, 8, 9, 10, 11, 12, 13, 14, 15, 16, 17, 18, 21, 23, 24, 26, 30, 32, 33, 34, 35, 36, 38, 39, 42, 43, 45, 48, 50, 55, 56, 58, 59, 62, 63, 64, 65, 66, 67, 68, 69, 70, 71, 72, 73, 74, 75, 76, 77, 78, 79, 80, 81, 82, 84, 87, 88, 90, 91, 94, 97, 98, 99, 100, 101, 102, 104, 106, 107, 108, 110, 112, 113, 115, 116, 117, 118, 119, 120, 121, 122, 123, 124, 125, 126, 127, 128, 129, 130, 131, 132, 133, 134, 135, 136, 138, 140, 142, 149, 151]
def funs : List (Nat × LFn) := [(77, L77), (78, L78), (79, L79), (82, L82), (100, L100), (33, L33), (34, L34), (68, L68), (69, L69), (73, L73), (74, L74), (108, L108), (24, L24), (26, L26), (21, L21), (22, L22), (23, L23), (25, L25), (5, L5)]
def Sy : Sys := sysOf funs
theorem lfn77 : lFn Go.Proofs.Try.prog pure Go.Proofs.Try.f77 = some L77 := by kernel_rfl
theorem lfn78 : lFn Go.Proofs.Try.prog pure Go.Proofs.Try.f78 = some L78 := by kernel_rfl
theorem lfn79 : lFn Go.Proofs.Try.prog pure Go.Proofs.Try.f79 = some L79 := by kernel_rfl
theorem lfn82 : lFn Go.Proofs.Try.prog pure Go.Proofs.Try.f82 = some L82 := by kernel_rfl
theorem lfn100 : lFn Go.Proofs.Try.prog pure Go.Proofs.Try.f100 = some L100 := by kernel_rfl
theorem lfn33 : lFn Go.Proofs.Try.prog pure Go.Proofs.Try.f33 = some L33 := by kernel_rfl
theorem lfn34 : lFn Go.Proofs.Try.prog pure Go.Proofs.Try.f34 = some L34 := by kernel_rfl
theorem lfn68 : lFn Go.Proofs.Try.prog pure Go.Proofs.Try.f68 = some L68 := by kernel_rfl
theorem lfn69 : lFn Go.Proofs.Try.prog pure Go.Proofs.Try.f69 = some L69 := by kernel_rfl
theorem lfn73 : lFn Go.Proofs.Try.prog pure Go.Proofs.Try.f73 = some L73 := by kernel_rfl
theorem lfn74 : lFn Go.Proofs.Try.prog pure Go.Proofs.Try.f74 = some L74 := by kernel_rfl
theorem lfn108 : lFn Go.Proofs.Try.prog pure Go.Proofs.Try.f108 = some L108 := by kernel_rfl
theorem lfn24 : lFn Go.Proofs.Try.prog pure Go.Proofs.Try.f24 = some L24 := by kernel_rfl
theorem lfn26 : lFn Go.Proofs.Try.prog pure Go.Proofs.Try.f26 = some L26 := by kernel_rfl
theorem lfn21 : lFn Go.Proofs.Try.prog pure Go.Proofs.Try.f21 = some L21 := by kernel_rfl
theorem lfn22 : lFn Go.Proofs.Try.prog pure Go.Proofs.Try.f22 = some L22 := by kernel_rfl
theorem lfn23 : lFn Go.Proofs.Try.prog pure Go.Proofs.Try.f23 = some L23 := by kernel_rfl
theorem lfn25 : lFn Go.Proofs.Try.prog pure Go.Proofs.Try.f25 = some L25 := by kernel_rfl
theorem lfn5 : lFn Go.Proofs.Try.prog pure Go.Proofs.Try.f5 = some L5 := by kernel_rfl
instance : HasA Sy := { f77 := rfl, f78 := rfl, f79 := rfl, f82 := rfl }
instance : HasW Sy := { f100 := rfl }
instance : HasK Sy := { f33 := rfl, f34 := rfl, f68 := rfl, f69 := rfl, f73 := rfl, f74 := rfl, f108 := rfl }
instance : HasZ Sy := { f24 := rfl, f26 := rfl }
instance : HasI Sy := { f21 := rfl, f22 := rfl, f23 := rfl, f25 := rfl }
instance : HasLBytesOfCodes Sy := { f5 := rfl }
theorem sysOK {B : Nat} {w0 : World} : SysOK Go.Proofs.Try.prog pure Sy B w0 := SysOK.of (by
  intro p hp
  simp only [funs, List.mem_cons, List.not_mem_nil, or_false] at hp
  rcases hp with rfl | rfl | rfl | rfl | rfl | rfl | rfl | rfl | rfl | rfl | rfl | rfl | rfl | rfl | rfl | rfl | rfl | rfl | rfl
  · exact ⟨_, Go.Proofs.Try.func77, lfn77⟩
  · exact ⟨_, Go.Proofs.Try.func78, lfn78⟩
  · exact ⟨_, Go.Proofs.Try.func79, lfn79⟩
  · exact ⟨_, Go.Proofs.Try.func82, lfn82⟩
  · exact ⟨_, Go.Proofs.Try.func100, lfn100⟩
  · exact ⟨_, Go.Proofs.Try.func33, lfn33⟩
  · exact ⟨_, Go.Proofs.Try.func34, lfn34⟩
  · exact ⟨_, Go.Proofs.Try.func68, lfn68⟩
  · exact ⟨_, Go.Proofs.Try.func69, lfn69⟩
  · exact ⟨_, Go.Proofs.Try.func73, lfn73⟩
  · exact ⟨_, Go.Proofs.Try.func74, lfn74⟩
  · exact ⟨_, Go.Proofs.Try.func108, lfn108⟩
  · exact ⟨_, Go.Proofs.Try.func24, lfn24⟩
  · exact ⟨_, Go.Proofs.Try.func26, lfn26⟩
  · exact ⟨_, Go.Proofs.Try.func21, lfn21⟩
  · exact ⟨_, Go.Proofs.Try.func22, lfn22⟩
  · exact ⟨_, Go.Proofs.Try.func23, lfn23⟩
  · exact ⟨_, Go.Proofs.Try.func25, lfn25⟩
  · exact ⟨_, Go.Proofs.Try.func5, lfn5⟩)

end Go.E.BytesOfCodes
