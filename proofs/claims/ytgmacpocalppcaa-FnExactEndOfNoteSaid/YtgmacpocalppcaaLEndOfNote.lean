/- The law of EndOfNote: what the evaluator finds. -/
import Derived.Test.YtgmacpocalppcaaMV
import Derived.Test.YtgmacpocalppcaaEE
import Derived.Test.YtgmacpocalppcaaProg
set_option linter.unusedVariables false
set_option linter.unusedSimpArgs false
namespace Go.E
open Go
def L3 : LFn := ⟨2, (.seq (.reg [⟨(.some 2), (.box 24 (.t 0)), none⟩, ⟨(.some 3), (.box 26 (.t 1)), none⟩, ⟨(.some 4), (.mv (.c (.lf (.bool false)))), none⟩])
 (.seq (.reg [⟨(.some 10), (.load true 4 (.t 2)), none⟩, ⟨(.some 11), (.call true 16 [(.t 10)]), none⟩, ⟨(.some 12), (.load true 4 (.t 3)), none⟩, ⟨(.some 13), (.call true 17 [(.t 12)]), none⟩, ⟨(.some 14), (.call true 15 [(.t 11), (.t 13)]), none⟩, ⟨(.some 9), (.mv (.t 14)), none⟩, ⟨(.some 15), (.ext (.t 9) 0), none⟩, ⟨(.some 16), (.ext (.t 9) 1), none⟩, ⟨(.some 5), (.mv (.t 15)), none⟩, ⟨(.some 6), (.mv (.t 16)), none⟩])
 (.seq (.reg [⟨(.some 18), (.load true 4 (.t 2)), none⟩, ⟨(.some 19), (.call true 16 [(.t 18)]), none⟩, ⟨(.some 20), (.load true 4 (.t 3)), none⟩, ⟨(.some 21), (.call true 17 [(.t 20)]), none⟩, ⟨(.some 22), (.call true 18 [(.t 19), (.t 21)]), none⟩, ⟨(.some 17), (.mv (.t 22)), none⟩, ⟨(.some 23), (.ext (.t 17) 0), none⟩, ⟨(.some 24), (.ext (.t 17) 1), none⟩, ⟨(.some 7), (.mv (.t 23)), none⟩, ⟨(.some 8), (.mv (.t 24)), none⟩])
 (.seq (.seq (.reg [⟨(.some 25), (.mv (.t 7)), none⟩, ⟨(.some 26), (.mv (.t 5)), none⟩, ⟨(.some 27), (.bin .neq (.t 25) (.t 26)), none⟩, ⟨(.some 28), (.mv (.t 27)), none⟩, ⟨(.some 29), (.mv (.t 8)), (.some (28, false))⟩, ⟨(.some 30), (.mv (.t 6)), (.some (28, false))⟩, ⟨(.some 31), (.beq true (.t 29) (.t 30)), (.some (28, false))⟩, ⟨(.some 32), (.pick (.t 28) (.c (.lf (.bool true))) (.t 31)), none⟩])
 (.cond (.t 32) (.seq (.reg [⟨(.some 4), (.mv (.c (.lf (.bool false)))), none⟩])
 .ret) .skip))
 (.seq (.reg [⟨(.some 4), (.mv (.c (.lf (.bool true)))), none⟩])
 .ret))))), [(.tmp 4)]⟩
class HasLEndOfNote (S : Sys) : Prop extends HasV S where
  f3 : S.fs 3 = some L3
def envSh : Sh := .cat 1 (.int .i64) (.cat 1 (.int .i64) (.cat 1 (.flt .f32) (.cat 1 (.int .i64) .emp)))
def noteSh : Sh := .cat 1 (.int .i64) (.cat 1 (.int .i64) (.cat 1 (.int .i64) (.cat 1 (.flt .f32) .emp)))
theorem env_of {h : Hp} {r : List Lf} (t : Ty h envSh r) : ∃ a d s b, r = [.int .i64 a, .int .i64 d, .flt .f32 s, .int .i64 b] := by
  obtain ⟨l1, l2, rfl, _, ⟨a, rfl, _⟩, l3, l4, rfl, _, ⟨d, rfl, _⟩, l5, l6, rfl, _, ⟨s, rfl, _, _⟩, l7, l8, rfl, _, ⟨b, rfl, _⟩, rfl⟩ := t
  exact ⟨a, d, s, b, rfl⟩
theorem note_of {h : Hp} {r : List Lf} (t : Ty h noteSh r) : ∃ a d s b, r = [.int .i64 a, .int .i64 d, .int .i64 s, .flt .f32 b] := by
  obtain ⟨l1, l2, rfl, _, ⟨a, rfl, _⟩, l3, l4, rfl, _, ⟨d, rfl, _⟩, l5, l6, rfl, _, ⟨s, rfl, _⟩, l7, l8, rfl, _, ⟨b, rfl, _, _⟩, rfl⟩ := t
  exact ⟨a, d, s, b, rfl⟩
theorem lawEndOfNote {S : Sys} [HasLEndOfNote S] : LawHolds S 3 [(true, envSh), (true, noteSh)] := by
  intro h cs hcs
  obtain ⟨c, _, rfl, ⟨ls, rfl, t1⟩, c2, _, rfl, ⟨ls2, rfl, t2⟩, rfl⟩ := hcs
  obtain ⟨a, d, s, r, rfl⟩ := env_of t1
  obtain ⟨b, e, p, g, rfl⟩ := note_of t2
  refine law_of (F := L3) HasLEndOfNote.f3 rfl ?_
  unfold L3
  dsimp only []
  by_cases hh : held3 a d r = true ∧ noted b e p = true
  · repeat' (first | (simp (disch := first | omega | assumption | (simp [*] <;> fail) | assumption) [-Bool.decide_and, -Bool.decide_or, -Bool.not_and, -Bool.not_or, toNat_pred, toNat_succ, wrap64, wr_new, wr_new0, ok_if, ok_ifn, iadV_sl, makeV_int, *, endOfNote]) | (refine Gd_split (fun hc => ?_) (fun hc => ?_) <;> (have hc2 := hc; try simp at hc2)) | (refine Br_split (fun hc => ?_) (fun hc => ?_) <;> (have hc2 := hc; try simp at hc2)) | omega)
  · repeat' (first | (simp (disch := first | omega | assumption | (simp [*] <;> fail) | assumption) [-Bool.decide_and, -Bool.decide_or, -Bool.not_and, -Bool.not_or, toNat_pred, toNat_succ, wrap64, wr_new, wr_new0, ok_if, ok_ifn, iadV_sl, makeV_int, *, endOfNote]) | (refine Gd_split (fun hc => ?_) (fun hc => ?_) <;> (have hc2 := hc; try simp at hc2)) | (refine Br_split (fun hc => ?_) (fun hc => ?_) <;> (have hc2 := hc; try simp at hc2)) | omega)
end Go.E
namespace Go.E.EndOfNote
open Go Go.E
def pure : FuncId → Bool := fun f => List.elem f [3, 4, 5, 6, 7, 8, 9, 10, 11, 12, 13, 14, 15, 16, 17, 18, 21, 23, 24, 26, 30, 32, 33, 34, 35, 36, 38, 39, 42, 43, 45, 48, 50, 55, 56, 58, 59, 62, 63, 64, 65, 66, 67, 68, 69, 70, 71, 72, 73, 74, 75, 76, 77, 78, 79, 80, 81, 82, 84, 87, 88, 90, 91, 94, 97, 98, 99, 100, 101, 102, 104, 106, 107, 108, 110, 112, 113, 115, 116, 117, 118, 119, 120, 121, 122, 123, 124, 125, 126, 127, 128, 129, 130, 131, 132, 133, 134, 135, 136, 138, 140, 142, 149, 151]
def funs : List (Nat × LFn) := [(77, L77), (78, L78), (79, L79), (82, L82), (15, L15), (16, L16), (17, L17), (18, L18), (62, L62), (63, L63), (64, L64), (65, L65), (66, L66), (67, L67), (106, L106), (107, L107), (3, L3)]
def Sy : Sys := sysOf funs
theorem lfn77 : lFn Go.Proofs.Try.prog pure Go.Proofs.Try.f77 = some L77 := by kernel_rfl
theorem lfn78 : lFn Go.Proofs.Try.prog pure Go.Proofs.Try.f78 = some L78 := by kernel_rfl
theorem lfn79 : lFn Go.Proofs.Try.prog pure Go.Proofs.Try.f79 = some L79 := by kernel_rfl
theorem lfn82 : lFn Go.Proofs.Try.prog pure Go.Proofs.Try.f82 = some L82 := by kernel_rfl
theorem lfn15 : lFn Go.Proofs.Try.prog pure Go.Proofs.Try.f15 = some L15 := by kernel_rfl
theorem lfn16 : lFn Go.Proofs.Try.prog pure Go.Proofs.Try.f16 = some L16 := by kernel_rfl
theorem lfn17 : lFn Go.Proofs.Try.prog pure Go.Proofs.Try.f17 = some L17 := by kernel_rfl
theorem lfn18 : lFn Go.Proofs.Try.prog pure Go.Proofs.Try.f18 = some L18 := by kernel_rfl
theorem lfn62 : lFn Go.Proofs.Try.prog pure Go.Proofs.Try.f62 = some L62 := by kernel_rfl
theorem lfn63 : lFn Go.Proofs.Try.prog pure Go.Proofs.Try.f63 = some L63 := by kernel_rfl
theorem lfn64 : lFn Go.Proofs.Try.prog pure Go.Proofs.Try.f64 = some L64 := by kernel_rfl
theorem lfn65 : lFn Go.Proofs.Try.prog pure Go.Proofs.Try.f65 = some L65 := by kernel_rfl
theorem lfn66 : lFn Go.Proofs.Try.prog pure Go.Proofs.Try.f66 = some L66 := by kernel_rfl
theorem lfn67 : lFn Go.Proofs.Try.prog pure Go.Proofs.Try.f67 = some L67 := by kernel_rfl
theorem lfn106 : lFn Go.Proofs.Try.prog pure Go.Proofs.Try.f106 = some L106 := by kernel_rfl
theorem lfn107 : lFn Go.Proofs.Try.prog pure Go.Proofs.Try.f107 = some L107 := by kernel_rfl
theorem lfn3 : lFn Go.Proofs.Try.prog pure Go.Proofs.Try.f3 = some L3 := by kernel_rfl
instance : HasA Sy := { f77 := rfl, f78 := rfl, f79 := rfl, f82 := rfl }
instance : HasV Sy := { f15 := rfl, f16 := rfl, f17 := rfl, f18 := rfl, f62 := rfl, f63 := rfl, f64 := rfl, f65 := rfl, f66 := rfl, f67 := rfl, f106 := rfl, f107 := rfl }
instance : HasLEndOfNote Sy := { f3 := rfl }
theorem sysOK {B : Nat} {w0 : World} : SysOK Go.Proofs.Try.prog pure Sy B w0 := SysOK.of (by
  intro p hp
  simp only [funs, List.mem_cons, List.not_mem_nil, or_false] at hp
  rcases hp with rfl | rfl | rfl | rfl | rfl | rfl | rfl | rfl | rfl | rfl | rfl | rfl | rfl | rfl | rfl | rfl | rfl
  · exact ⟨_, Go.Proofs.Try.func77, lfn77⟩
  · exact ⟨_, Go.Proofs.Try.func78, lfn78⟩
  · exact ⟨_, Go.Proofs.Try.func79, lfn79⟩
  · exact ⟨_, Go.Proofs.Try.func82, lfn82⟩
  · exact ⟨_, Go.Proofs.Try.func15, lfn15⟩
  · exact ⟨_, Go.Proofs.Try.func16, lfn16⟩
  · exact ⟨_, Go.Proofs.Try.func17, lfn17⟩
  · exact ⟨_, Go.Proofs.Try.func18, lfn18⟩
  · exact ⟨_, Go.Proofs.Try.func62, lfn62⟩
  · exact ⟨_, Go.Proofs.Try.func63, lfn63⟩
  · exact ⟨_, Go.Proofs.Try.func64, lfn64⟩
  · exact ⟨_, Go.Proofs.Try.func65, lfn65⟩
  · exact ⟨_, Go.Proofs.Try.func66, lfn66⟩
  · exact ⟨_, Go.Proofs.Try.func67, lfn67⟩
  · exact ⟨_, Go.Proofs.Try.func106, lfn106⟩
  · exact ⟨_, Go.Proofs.Try.func107, lfn107⟩
  · exact ⟨_, Go.Proofs.Try.func3, lfn3⟩)

end Go.E.EndOfNote
