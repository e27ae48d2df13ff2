/- The law of PanOf: what the evaluator finds. -/
import Derived.Test.YtpjgmichaeiifaaMSq
import Derived.Test.YtpjgmichaeiifaaMC
import Derived.Test.YtpjgmichaeiifaaEE
import Derived.Test.YtpjgmichaeiifaaProg
set_option linter.unusedVariables false
set_option linter.unusedSimpArgs false
namespace Go.E
open Go
def L11 : LFn := ⟨1, (.seq (.reg [⟨(.some 2), (.mv (.c (.lf (.bool false)))), none⟩])
 (.seq (.reg [⟨(.some 10), (.mv (.t 0)), none⟩, ⟨(.some 11), (.call true 51 [(.t 10)]), none⟩, ⟨(.some 9), (.mv (.t 11)), none⟩, ⟨(.some 12), (.ext (.t 9) 0), none⟩, ⟨(.some 13), (.ext (.t 9) 1), none⟩, ⟨(.some 14), (.ext (.t 9) 2), none⟩, ⟨(.some 3), (.mv (.t 12)), none⟩, ⟨(.some 4), (.mv (.t 13)), none⟩, ⟨(.some 5), (.mv (.t 14)), none⟩])
 (.seq (.reg [⟨(.some 16), (.mv (.t 0)), none⟩, ⟨(.some 17), (.call true 52 [(.t 16)]), none⟩, ⟨(.some 15), (.mv (.t 17)), none⟩, ⟨(.some 18), (.ext (.t 15) 0), none⟩, ⟨(.some 19), (.ext (.t 15) 1), none⟩, ⟨(.some 20), (.ext (.t 15) 2), none⟩, ⟨(.some 6), (.mv (.t 18)), none⟩, ⟨(.some 7), (.mv (.t 19)), none⟩, ⟨(.some 8), (.mv (.t 20)), none⟩])
 (.seq (.seq (.reg [⟨(.some 21), (.mv (.t 6)), none⟩, ⟨(.some 22), (.toflt .f64 (.t 21)), none⟩, ⟨(.some 23), (.mv (.t 3)), none⟩, ⟨(.some 24), (.toflt .f64 (.t 23)), none⟩, ⟨(.some 25), (.call true 37 [(.t 22), (.t 24)]), none⟩, ⟨(.some 26), (.una .not (.t 25)), none⟩, ⟨(.some 27), (.mv (.t 26)), none⟩, ⟨(.some 28), (.mv (.t 7)), (.some (27, false))⟩, ⟨(.some 29), (.toflt .f64 (.t 28)), (.some (27, false))⟩, ⟨(.some 30), (.mv (.t 4)), (.some (27, false))⟩, ⟨(.some 31), (.toflt .f64 (.t 30)), (.some (27, false))⟩, ⟨(.some 32), (.call true 37 [(.t 29), (.t 31)]), (.some (27, false))⟩, ⟨(.some 33), (.una .not (.t 32)), (.some (27, false))⟩, ⟨(.some 34), (.pick (.t 27) (.c (.lf (.bool true))) (.t 33)), none⟩, ⟨(.some 35), (.mv (.t 34)), none⟩, ⟨(.some 36), (.mv (.t 8)), (.some (35, false))⟩, ⟨(.some 37), (.mv (.t 5)), (.some (35, false))⟩, ⟨(.some 38), (.beq true (.t 36) (.t 37)), (.some (35, false))⟩, ⟨(.some 39), (.pick (.t 35) (.c (.lf (.bool true))) (.t 38)), none⟩])
 (.cond (.t 39) (.seq (.reg [⟨(.some 2), (.mv (.c (.lf (.bool false)))), none⟩])
 .ret) .skip))
 (.seq (.reg [⟨(.some 2), (.mv (.c (.lf (.bool true)))), none⟩])
 .ret))))), [(.tmp 2)]⟩
class HasLPanOf (S : Sys) : Prop extends HasPan S, HasSame S where
  f11 : S.fs 11 = some L11
theorem lawPanOf {S : Sys} [HasLPanOf S] : LawHolds S 11 [(false, .flt .f32)] := by
  intro h cs hcs
  obtain ⟨c0, _, rfl, ⟨ls0, rfl, x, rfl, _, _⟩, rfl⟩ := hcs
  obtain ⟨r, q, ok, hr⟩ : ∃ r q ok, panT x = .tup [.lf (.flt .f32 r), .lf (.flt .f32 q), .lf (.bool ok)] := by
    unfold panT; split
    · exact ⟨_, _, _, rfl⟩
    · exact ⟨_, _, _, rfl⟩
  have c1 := fun K lim => c_specPanOf (S := S) (K := K) (lim := lim) (h := h) (x := x)
  have c2 := fun K lim => c_implPanOf (S := S) (K := K) (lim := lim) (h := h) (x := x)
  rw [hr] at c1 c2
  refine law_of (F := L11) HasLPanOf.f11 rfl ?_
  unfold L11
  dsimp only []
  repeat' (first | (simp (disch := first | omega | assumption | (simp only [List.length_set]; omega) | (simp [*] <;> fail) | assumption) [-Bool.decide_and, -Bool.decide_or, -Bool.not_and, -Bool.not_or, toNat_pred, toNat_succ, wrap64, wr_new, wr_new0, ok_if, ok_ifn, iadV_sl, makeV_int, decT, decF, over_at, *]) | (with_reducible refine Gd_split (fun hc => ?_) (fun hc => ?_) <;> (have hc2 := hc; try simp at hc2)) | (with_reducible refine Br_split (fun hc => ?_) (fun hc => ?_) <;> (have hc2 := hc; try simp at hc2)) | (with_reducible refine GdT_split (fun hc => ?_) (fun hc => ?_) <;> (have hc2 := hc; try simp at hc2)) | (with_reducible refine WT_alt ?_ ?_) | omega)
end Go.E
namespace Go.E.PanOf
open Go Go.E
def pure : FuncId → Bool := fun f => List.elem f [3, 4, 5, 6, 7, 8, 9, 10, 11, 12, 13, 14, 15, 16, 19, 23, 25, 29, 33, 34, 36, 37, 38, 39, 40, 42, 43, 44, 45, 47, 48, 51, 52, 55, 56, 57, 59, 60, 65, 66, 68, 69, 70, 73, 76, 78, 79, 80, 81, 82, 85, 86, 87, 88, 89, 90, 91, 92, 93, 94, 95, 96, 97, 98, 100, 101, 102, 103, 104, 105, 106, 107, 109, 110, 111, 112, 113, 114, 115, 116, 117, 118, 120, 121, 123, 124, 125, 127, 128, 130, 131, 132, 133, 134, 135, 136, 137, 138, 139, 140, 142, 143, 144, 145, 146, 147, 148, 149, 150, 151, 152, 153, 154, 155, 156, 158, 160, 162, 169, 171, 172]
def funs : List (Nat × LFn) := [(147, L147), (113, L113), (135, L135), (136, L136), (137, L137), (138, L138), (139, L139), (144, L144), (145, L145), (148, L148), (151, L151), (51, L51), (52, L52), (101, L101), (111, L111), (112, L112), (37, L37), (11, L11)]
def Sy : Sys := sysOf funs
theorem lfn147 : lFn Go.Proofs.Try.prog pure Go.Proofs.Try.f147 = some L147 := by kernel_rfl
theorem lfn113 : lFn Go.Proofs.Try.prog pure Go.Proofs.Try.f113 = some L113 := by kernel_rfl
theorem lfn135 : lFn Go.Proofs.Try.prog pure Go.Proofs.Try.f135 = some L135 := by kernel_rfl
theorem lfn136 : lFn Go.Proofs.Try.prog pure Go.Proofs.Try.f136 = some L136 := by kernel_rfl
theorem lfn137 : lFn Go.Proofs.Try.prog pure Go.Proofs.Try.f137 = some L137 := by kernel_rfl
theorem lfn138 : lFn Go.Proofs.Try.prog pure Go.Proofs.Try.f138 = some L138 := by kernel_rfl
theorem lfn139 : lFn Go.Proofs.Try.prog pure Go.Proofs.Try.f139 = some L139 := by kernel_rfl
theorem lfn144 : lFn Go.Proofs.Try.prog pure Go.Proofs.Try.f144 = some L144 := by kernel_rfl
theorem lfn145 : lFn Go.Proofs.Try.prog pure Go.Proofs.Try.f145 = some L145 := by kernel_rfl
theorem lfn148 : lFn Go.Proofs.Try.prog pure Go.Proofs.Try.f148 = some L148 := by kernel_rfl
theorem lfn151 : lFn Go.Proofs.Try.prog pure Go.Proofs.Try.f151 = some L151 := by kernel_rfl
theorem lfn51 : lFn Go.Proofs.Try.prog pure Go.Proofs.Try.f51 = some L51 := by kernel_rfl
theorem lfn52 : lFn Go.Proofs.Try.prog pure Go.Proofs.Try.f52 = some L52 := by kernel_rfl
theorem lfn101 : lFn Go.Proofs.Try.prog pure Go.Proofs.Try.f101 = some L101 := by kernel_rfl
theorem lfn111 : lFn Go.Proofs.Try.prog pure Go.Proofs.Try.f111 = some L111 := by kernel_rfl
theorem lfn112 : lFn Go.Proofs.Try.prog pure Go.Proofs.Try.f112 = some L112 := by kernel_rfl
theorem lfn37 : lFn Go.Proofs.Try.prog pure Go.Proofs.Try.f37 = some L37 := by kernel_rfl
theorem lfn11 : lFn Go.Proofs.Try.prog pure Go.Proofs.Try.f11 = some L11 := by kernel_rfl
instance : HasFa Sy := { f147 := rfl }
instance : HasSi Sy := { f113 := rfl, f135 := rfl, f136 := rfl, f137 := rfl, f138 := rfl, f139 := rfl, f144 := rfl, f145 := rfl, f148 := rfl, f151 := rfl }
instance : HasPan Sy := { f51 := rfl, f52 := rfl, f101 := rfl, f111 := rfl, f112 := rfl }
instance : HasSame Sy := { f37 := rfl }
instance : HasLPanOf Sy := { f11 := rfl }
theorem sysOK {B : Nat} {w0 : World} : SysOK Go.Proofs.Try.prog pure Sy B w0 := SysOK.of (by
  intro p hp
  simp only [funs, List.mem_cons, List.not_mem_nil, or_false] at hp
  rcases hp with rfl | rfl | rfl | rfl | rfl | rfl | rfl | rfl | rfl | rfl | rfl | rfl | rfl | rfl | rfl | rfl | rfl | rfl
  · exact ⟨_, Go.Proofs.Try.func147, lfn147⟩
  · exact ⟨_, Go.Proofs.Try.func113, lfn113⟩
  · exact ⟨_, Go.Proofs.Try.func135, lfn135⟩
  · exact ⟨_, Go.Proofs.Try.func136, lfn136⟩
  · exact ⟨_, Go.Proofs.Try.func137, lfn137⟩
  · exact ⟨_, Go.Proofs.Try.func138, lfn138⟩
  · exact ⟨_, Go.Proofs.Try.func139, lfn139⟩
  · exact ⟨_, Go.Proofs.Try.func144, lfn144⟩
  · exact ⟨_, Go.Proofs.Try.func145, lfn145⟩
  · exact ⟨_, Go.Proofs.Try.func148, lfn148⟩
  · exact ⟨_, Go.Proofs.Try.func151, lfn151⟩
  · exact ⟨_, Go.Proofs.Try.func51, lfn51⟩
  · exact ⟨_, Go.Proofs.Try.func52, lfn52⟩
  · exact ⟨_, Go.Proofs.Try.func101, lfn101⟩
  · exact ⟨_, Go.Proofs.Try.func111, lfn111⟩
  · exact ⟨_, Go.Proofs.Try.func112, lfn112⟩
  · exact ⟨_, Go.Proofs.Try.func37, lfn37⟩
  · exact ⟨_, Go.Proofs.Try.func11, lfn11⟩)

end Go.E.PanOf
