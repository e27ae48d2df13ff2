/- The law of AreSends: what the evaluator finds. -/
import Derived.Test.YtgmacpocalppcaaMS
import Derived.Test.YtgmacpocalppcaaEE
import Derived.Test.YtgmacpocalppcaaProg
set_option linter.unusedVariables false
set_option linter.unusedSimpArgs false
namespace Go.E
open Go
def L13 : LFn := ⟨2, (.seq (.reg [⟨(.some 4), (.mv (.c (.lf (.bool false)))), none⟩])
 (.seq (.reg [⟨(.some 5), (.mv (.c (.lf (.int .i64 1048576)))), none⟩])
 (.seq (.reg [⟨(.some 9), (.mv (.t 1)), none⟩, ⟨(.some 10), (.mv (.t 5)), none⟩, ⟨(.some 11), (.call true 55 [(.t 9), (.t 10)]), none⟩, ⟨(.some 5), (.mv (.t 11)), none⟩])
 (.seq (.seq (.reg [⟨(.some 12), (.mv (.t 5)), none⟩, ⟨(.some 13), (.bin .lss (.t 12) (.c (.lf (.int .i64 0)))), none⟩])
 (.cond (.t 13) (.seq (.reg [⟨(.some 4), (.mv (.c (.lf (.bool true)))), none⟩])
 .ret) .skip))
 (.seq (.reg [⟨(.some 14), (.mv (.t 0)), none⟩, ⟨(.some 15), (.mv (.t 1)), none⟩, ⟨(.some 16), (.call false 57 [(.t 15)]), none⟩, ⟨(.some 17), (.call true 56 [(.t 14), (.t 16)]), none⟩, ⟨(.some 6), (.mv (.t 17)), none⟩])
 (.seq (.reg [⟨(.some 18), (.mv (.t 1)), none⟩, ⟨(.some 19), (.call false 57 [(.t 18)]), none⟩, ⟨(.some 7), (.mv (.t 19)), none⟩])
 (.seq (.reg [⟨(.some 20), (.mv (.t 0)), none⟩, ⟨(.some 21), (.mv (.t 7)), none⟩, ⟨(.some 22), (.call true 58 [(.t 20), (.t 21)]), none⟩, ⟨(.some 8), (.mv (.t 22)), none⟩])
 (.seq (.seq (.reg [⟨(.some 23), (.mv (.t 8)), none⟩, ⟨(.some 24), (.mv (.t 6)), none⟩, ⟨(.some 25), (.beq true (.t 23) (.t 24)), none⟩])
 (.cond (.t 25) (.seq (.reg [⟨(.some 4), (.mv (.c (.lf (.bool false)))), none⟩])
 .ret) .skip))
 (.seq (.seq (.reg [⟨(.some 26), (.mv (.t 7)), none⟩, ⟨(.some 27), (.mv (.t 1)), none⟩, ⟨(.some 28), (.call false 57 [(.t 27)]), none⟩, ⟨(.some 29), (.call true 59 [(.t 26), (.t 28)]), none⟩, ⟨(.some 30), (.una .not (.t 29)), none⟩])
 (.cond (.t 30) (.seq (.reg [⟨(.some 4), (.mv (.c (.lf (.bool false)))), none⟩])
 .ret) .skip))
 (.seq (.reg [⟨(.some 4), (.mv (.c (.lf (.bool true)))), none⟩])
 .ret)))))))))), [(.tmp 4)]⟩
class HasLAreSends (S : Sys) : Prop extends HasS S, HasSH S where
  f13 : S.fs 13 = some L13
def sndSh : Sh := .cat 1 (.int .i64) (.cat 1 (.int .i64) (.cat 1 (.flt .f32) .emp))
theorem snd_of {h : Hp} {r : List Lf} (t : Ty h sndSh r) : ∃ p : Snd, r = p.cells ∧ True := by
  obtain ⟨l1, l2, rfl, _, ⟨x, rfl, _⟩, l3, l4, rfl, _, ⟨y, rfl, _⟩, l5, l6, rfl, _, ⟨z, rfl, _, _⟩, rfl⟩ := t
  exact ⟨⟨x, y, z⟩, rfl, trivial⟩
theorem lawAreSends {S : Sys} [HasLAreSends S] : LawHolds S 13 [(false, .int .i64), (false, .sl 3 sndSh)] := by
  intro h cs hcs
  obtain ⟨c, _, rfl, ⟨ls, rfl, n, rfl, _⟩, c2, _, rfl, ⟨ls2, rfl, l, rows, rfl, hA, hrows⟩, rfl⟩ := hcs
  obtain ⟨ps, rfl, _⟩ := rows_map (Q := fun _ => True) fun r hr => snd_of (hrows r hr)
  refine law_of (F := L13) HasLAreSends.f13 rfl ?_
  unfold L13
  dsimp only []
  repeat' (first | (simp (disch := first | omega | assumption | (simp [*] <;> fail) | assumption) [-Bool.decide_and, -Bool.decide_or, -Bool.not_and, -Bool.not_or, toNat_pred, toNat_succ, wrap64, wr_new, wr_new0, ok_if, ok_ifn, iadV_sl, makeV_int, decT, decF, *, c_szSendS hA]) | (refine Gd_split (fun hc => ?_) (fun hc => ?_) <;> (have hc2 := hc; try simp at hc2)) | (refine Br_split (fun hc => ?_) (fun hc => ?_) <;> (have hc2 := hc; try simp at hc2)) | omega)
  have hn : ps.length ≤ 16777216 := by split at hc2 <;> omega
  refine c_toSendS hA hn (Nat.le_refl _) fun l1 g1 hN1 => ?_
  repeat' (first | (simp (disch := first | omega | assumption | (simp [*] <;> fail) | assumption) [-Bool.decide_and, -Bool.decide_or, -Bool.not_and, -Bool.not_or, toNat_pred, toNat_succ, wrap64, wr_new, wr_new0, ok_if, ok_ifn, iadV_sl, makeV_int, decT, decF, *, c_specAreSends hN1.arr]) | (refine Gd_split (fun hc => ?_) (fun hc => ?_) <;> (have hc2 := hc; try simp at hc2)) | (refine Br_split (fun hc => ?_) (fun hc => ?_) <;> (have hc2 := hc; try simp at hc2)) | omega)
  replace hA := hA.kept hN1.kept
  have k1 := hN1.kept.1
  refine c_toSendS hA hn k1 fun l2 g2 hN2 => ?_
  repeat' (first | (simp (disch := first | omega | assumption | (simp [*] <;> fail) | assumption) [-Bool.decide_and, -Bool.decide_or, -Bool.not_and, -Bool.not_or, toNat_pred, toNat_succ, wrap64, wr_new, wr_new0, ok_if, ok_ifn, iadV_sl, makeV_int, decT, decF, *, c_implAreSends hN2.arr]) | (refine Gd_split (fun hc => ?_) (fun hc => ?_) <;> (have hc2 := hc; try simp at hc2)) | (refine Br_split (fun hc => ?_) (fun hc => ?_) <;> (have hc2 := hc; try simp at hc2)) | omega)
  replace hA := hA.kept hN2.kept
  have k2 := hN2.kept.1
  refine c_toSendS hA hn (by omega) fun l3 g3 hN3 => ?_
  repeat' (first | (simp (disch := first | omega | assumption | (simp [*] <;> fail) | assumption) [-Bool.decide_and, -Bool.decide_or, -Bool.not_and, -Bool.not_or, toNat_pred, toNat_succ, wrap64, wr_new, wr_new0, ok_if, ok_ifn, iadV_sl, makeV_int, decT, decF, *, c_eqSendS (hN2.arr.kept hN3.kept) hN3.arr]) | (refine Gd_split (fun hc => ?_) (fun hc => ?_) <;> (have hc2 := hc; try simp at hc2)) | (refine Br_split (fun hc => ?_) (fun hc => ?_) <;> (have hc2 := hc; try simp at hc2)) | omega)
end Go.E
namespace Go.E.AreSends
open Go Go.E
def pure : FuncId → Bool := fun f => List.elem f [3, 4, 5, 6, 7, 8, 9, 10, 11, 12, 13, 14, 15, 16, 17, 18, 21, 23, 24, 26, 30, 32, 33, 34, 35, 36, 38, 39, 42, 43, 45, 48, 50, 55, 56, 58, 59, 62, 63, 64, 65, 66, 67, 68, 69, 70, 71, 72, 73, 74, 75, 76, 77, 78, 79, 80, 81, 82, 84, 87, 88, 90, 91, 94, 97, 98, 99, 100, 101, 102, 104, 106, 107, 108, 110, 112, 113, 115, 116, 117, 118, 119, 120, 121, 122, 123, 124, 125, 126, 127, 128, 129, 130, 131, 132, 133, 134, 135, 136, 138, 140, 142, 149, 151]
def funs : List (Nat × LFn) := [(77, L77), (78, L78), (79, L79), (82, L82), (56, L56), (58, L58), (97, L97), (99, L99), (100, L100), (72, L72), (55, L55), (57, L57), (59, L59), (98, L98), (101, L101), (13, L13)]
def Sy : Sys := sysOf funs
theorem lfn77 : lFn Go.Proofs.Try.prog pure Go.Proofs.Try.f77 = some L77 := by kernel_rfl
theorem lfn78 : lFn Go.Proofs.Try.prog pure Go.Proofs.Try.f78 = some L78 := by kernel_rfl
theorem lfn79 : lFn Go.Proofs.Try.prog pure Go.Proofs.Try.f79 = some L79 := by kernel_rfl
theorem lfn82 : lFn Go.Proofs.Try.prog pure Go.Proofs.Try.f82 = some L82 := by kernel_rfl
theorem lfn56 : lFn Go.Proofs.Try.prog pure Go.Proofs.Try.f56 = some L56 := by kernel_rfl
theorem lfn58 : lFn Go.Proofs.Try.prog pure Go.Proofs.Try.f58 = some L58 := by kernel_rfl
theorem lfn97 : lFn Go.Proofs.Try.prog pure Go.Proofs.Try.f97 = some L97 := by kernel_rfl
theorem lfn99 : lFn Go.Proofs.Try.prog pure Go.Proofs.Try.f99 = some L99 := by kernel_rfl
theorem lfn100 : lFn Go.Proofs.Try.prog pure Go.Proofs.Try.f100 = some L100 := by kernel_rfl
theorem lfn72 : lFn Go.Proofs.Try.prog pure Go.Proofs.Try.f72 = some L72 := by kernel_rfl
theorem lfn55 : lFn Go.Proofs.Try.prog pure Go.Proofs.Try.f55 = some L55 := by kernel_rfl
theorem lfn57 : lFn Go.Proofs.Try.prog pure Go.Proofs.Try.f57 = some L57 := by kernel_rfl
theorem lfn59 : lFn Go.Proofs.Try.prog pure Go.Proofs.Try.f59 = some L59 := by kernel_rfl
theorem lfn98 : lFn Go.Proofs.Try.prog pure Go.Proofs.Try.f98 = some L98 := by kernel_rfl
theorem lfn101 : lFn Go.Proofs.Try.prog pure Go.Proofs.Try.f101 = some L101 := by kernel_rfl
theorem lfn13 : lFn Go.Proofs.Try.prog pure Go.Proofs.Try.f13 = some L13 := by kernel_rfl
instance : HasA Sy := { f77 := rfl, f78 := rfl, f79 := rfl, f82 := rfl }
instance : HasS Sy := { f56 := rfl, f58 := rfl, f97 := rfl, f99 := rfl, f100 := rfl }
instance : HasSame Sy := { f72 := rfl }
instance : HasSH Sy := { f55 := rfl, f57 := rfl, f59 := rfl, f98 := rfl, f101 := rfl }
instance : HasLAreSends Sy := { f13 := rfl }
theorem sysOK {B : Nat} {w0 : World} : SysOK Go.Proofs.Try.prog pure Sy B w0 := SysOK.of (by
  intro p hp
  simp only [funs, List.mem_cons, List.not_mem_nil, or_false] at hp
  rcases hp with rfl | rfl | rfl | rfl | rfl | rfl | rfl | rfl | rfl | rfl | rfl | rfl | rfl | rfl | rfl | rfl
  · exact ⟨_, Go.Proofs.Try.func77, lfn77⟩
  · exact ⟨_, Go.Proofs.Try.func78, lfn78⟩
  · exact ⟨_, Go.Proofs.Try.func79, lfn79⟩
  · exact ⟨_, Go.Proofs.Try.func82, lfn82⟩
  · exact ⟨_, Go.Proofs.Try.func56, lfn56⟩
  · exact ⟨_, Go.Proofs.Try.func58, lfn58⟩
  · exact ⟨_, Go.Proofs.Try.func97, lfn97⟩
  · exact ⟨_, Go.Proofs.Try.func99, lfn99⟩
  · exact ⟨_, Go.Proofs.Try.func100, lfn100⟩
  · exact ⟨_, Go.Proofs.Try.func72, lfn72⟩
  · exact ⟨_, Go.Proofs.Try.func55, lfn55⟩
  · exact ⟨_, Go.Proofs.Try.func57, lfn57⟩
  · exact ⟨_, Go.Proofs.Try.func59, lfn59⟩
  · exact ⟨_, Go.Proofs.Try.func98, lfn98⟩
  · exact ⟨_, Go.Proofs.Try.func101, lfn101⟩
  · exact ⟨_, Go.Proofs.Try.func13, lfn13⟩)

end Go.E.AreSends
