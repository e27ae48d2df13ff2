/- The law of WaveAt: what the evaluator finds. -/
import Derived.Test.YtonfalhekphaeaaMWa
import Derived.Test.YtonfalhekphaeaaMC
import Derived.Test.YtonfalhekphaeaaEE
import Derived.Test.YtonfalhekphaeaaProg
set_option linter.unusedVariables false
set_option linter.unusedSimpArgs false
namespace Go.E
open Go
def L5 : LFn := ⟨2, (.seq (.reg [⟨(.some 4), (.mv (.c (.lf (.bool false)))), none⟩])
 (.seq (.reg [⟨(.some 10), (.mv (.t 0)), none⟩, ⟨(.some 11), (.mv (.t 1)), none⟩, ⟨(.some 12), (.call true 31 [(.t 10), (.t 11)]), none⟩, ⟨(.some 9), (.mv (.t 12)), none⟩, ⟨(.some 13), (.ext (.t 9) 0), none⟩, ⟨(.some 14), (.ext (.t 9) 1), none⟩, ⟨(.some 5), (.mv (.t 13)), none⟩, ⟨(.some 6), (.mv (.t 14)), none⟩])
 (.seq (.reg [⟨(.some 16), (.mv (.t 0)), none⟩, ⟨(.some 17), (.mv (.t 1)), none⟩, ⟨(.some 18), (.call true 32 [(.t 16), (.t 17)]), none⟩, ⟨(.some 15), (.mv (.t 18)), none⟩, ⟨(.some 19), (.ext (.t 15) 0), none⟩, ⟨(.some 20), (.ext (.t 15) 1), none⟩, ⟨(.some 7), (.mv (.t 19)), none⟩, ⟨(.some 8), (.mv (.t 20)), none⟩])
 (.seq (.seq (.reg [⟨(.some 21), (.mv (.t 7)), none⟩, ⟨(.some 22), (.toflt .f64 (.t 21)), none⟩, ⟨(.some 23), (.mv (.t 5)), none⟩, ⟨(.some 24), (.toflt .f64 (.t 23)), none⟩, ⟨(.some 25), (.call true 33 [(.t 22), (.t 24)]), none⟩, ⟨(.some 26), (.una .not (.t 25)), none⟩, ⟨(.some 27), (.mv (.t 26)), none⟩, ⟨(.some 28), (.mv (.t 8)), (.some (27, false))⟩, ⟨(.some 29), (.mv (.t 6)), (.some (27, false))⟩, ⟨(.some 30), (.beq true (.t 28) (.t 29)), (.some (27, false))⟩, ⟨(.some 31), (.pick (.t 27) (.c (.lf (.bool true))) (.t 30)), none⟩])
 (.cond (.t 31) (.seq (.reg [⟨(.some 4), (.mv (.c (.lf (.bool false)))), none⟩])
 .ret) .skip))
 (.seq (.reg [⟨(.some 4), (.mv (.c (.lf (.bool true)))), none⟩])
 .ret))))), [(.tmp 4)]⟩
class HasLWaveAt (S : Sys) : Prop extends HasWa S, HasSame S where
  f5 : S.fs 5 = some L5
theorem lawWaveAt {S : Sys} [HasLWaveAt S] : LawHolds S 5 [(false, .int .i64), (false, .flt .f32)] := by
  intro h cs hcs
  obtain ⟨c0, _, rfl, ⟨ls0, rfl, k, rfl, _⟩, c1, _, rfl, ⟨ls1, rfl, x, rfl, x1, x2⟩, rfl⟩ := hcs
  have hx : CF x := ⟨x1, x2⟩
  obtain ⟨r, ok, hr⟩ : ∃ r ok, waveT k x = .tup [.lf (.flt .f32 r), .lf (.bool ok)] := by
    unfold waveT; split
    · exact ⟨_, _, rfl⟩
    · exact ⟨_, _, rfl⟩
  have c1 := fun K lim => c_specWaveAt (S := S) (K := K) (lim := lim) (h := h) (k := k) hx
  have c2 := fun K lim => c_implWaveAt (S := S) (K := K) (lim := lim) (h := h) (k := k) hx
  rw [hr] at c1 c2
  refine law_of (F := L5) HasLWaveAt.f5 rfl ?_
  unfold L5
  dsimp only []
  repeat' (first | (simp (disch := first | omega | assumption | (simp only [List.length_set]; omega) | (simp [*] <;> fail) | assumption) [-Bool.decide_and, -Bool.decide_or, -Bool.not_and, -Bool.not_or, toNat_pred, toNat_succ, wrap64, wr_new, wr_new0, ok_if, ok_ifn, iadV_sl, makeV_int, decT, decF, over_at, *]) | (with_reducible refine Gd_split (fun hc => ?_) (fun hc => ?_) <;> (have hc2 := hc; try simp at hc2)) | (with_reducible refine Br_split (fun hc => ?_) (fun hc => ?_) <;> (have hc2 := hc; try simp at hc2)) | (with_reducible refine GdT_split (fun hc => ?_) (fun hc => ?_) <;> (have hc2 := hc; try simp at hc2)) | (with_reducible refine WT_alt ?_ ?_) | omega)
end Go.E
namespace Go.E.WaveAt
open Go Go.E
def pure : FuncId → Bool := fun f => List.elem f [3, 4, 5, 6, 7, 8, 9, 10, 11, 12, 13, 14, 19, 20, 23, 24, 28, 30, 31, 32, 33, 34, 35, 37, 38, 40, 44, 48, 50, 51, 54, 55, 57, 58, 59, 60, 61, 62, 63, 64, 66, 69, 71, 72, 73, 74, 75, 76, 77, 78, 79, 80, 81, 82, 83, 84, 85, 86, 87, 88, 89, 90, 91, 92, 93, 94, 95, 96, 97, 99, 100, 101, 103, 106, 107, 108, 110, 111, 112, 113, 114, 115, 116, 117, 122, 123, 124, 125, 126, 128, 129, 131, 132, 133, 134, 135, 136, 137, 138, 139, 140, 141, 142, 143, 144, 146, 147, 148, 149, 150, 151, 152, 153, 154, 155, 156, 157, 158, 159, 160, 161, 162, 163, 164, 165, 166, 167, 168, 169, 170, 171, 172, 173, 174, 175, 176, 177, 178, 179, 180, 181, 182, 183, 184, 185, 186, 187, 188, 189, 190, 191, 192, 193, 195, 197, 199, 206, 208, 209, 210]
def funs : List (Nat × LFn) := [(73, L73), (86, L86), (106, L106), (133, L133), (150, L150), (159, L159), (138, L138), (164, L164), (135, L135), (137, L137), (157, L157), (158, L158), (160, L160), (161, L161), (162, L162), (163, L163), (181, L181), (188, L188), (90, L90), (91, L91), (92, L92), (93, L93), (94, L94), (95, L95), (136, L136), (31, L31), (32, L32), (33, L33), (5, L5)]
def Sy : Sys := sysOf funs
theorem lfn73 : lFn Go.Proofs.Try.prog pure Go.Proofs.Try.f73 = some L73 := by kernel_rfl
theorem lfn86 : lFn Go.Proofs.Try.prog pure Go.Proofs.Try.f86 = some L86 := by kernel_rfl
theorem lfn106 : lFn Go.Proofs.Try.prog pure Go.Proofs.Try.f106 = some L106 := by kernel_rfl
theorem lfn133 : lFn Go.Proofs.Try.prog pure Go.Proofs.Try.f133 = some L133 := by kernel_rfl
theorem lfn150 : lFn Go.Proofs.Try.prog pure Go.Proofs.Try.f150 = some L150 := by kernel_rfl
theorem lfn159 : lFn Go.Proofs.Try.prog pure Go.Proofs.Try.f159 = some L159 := by kernel_rfl
theorem lfn138 : lFn Go.Proofs.Try.prog pure Go.Proofs.Try.f138 = some L138 := by kernel_rfl
theorem lfn164 : lFn Go.Proofs.Try.prog pure Go.Proofs.Try.f164 = some L164 := by kernel_rfl
theorem lfn135 : lFn Go.Proofs.Try.prog pure Go.Proofs.Try.f135 = some L135 := by kernel_rfl
theorem lfn137 : lFn Go.Proofs.Try.prog pure Go.Proofs.Try.f137 = some L137 := by kernel_rfl
theorem lfn157 : lFn Go.Proofs.Try.prog pure Go.Proofs.Try.f157 = some L157 := by kernel_rfl
theorem lfn158 : lFn Go.Proofs.Try.prog pure Go.Proofs.Try.f158 = some L158 := by kernel_rfl
theorem lfn160 : lFn Go.Proofs.Try.prog pure Go.Proofs.Try.f160 = some L160 := by kernel_rfl
theorem lfn161 : lFn Go.Proofs.Try.prog pure Go.Proofs.Try.f161 = some L161 := by kernel_rfl
theorem lfn162 : lFn Go.Proofs.Try.prog pure Go.Proofs.Try.f162 = some L162 := by kernel_rfl
theorem lfn163 : lFn Go.Proofs.Try.prog pure Go.Proofs.Try.f163 = some L163 := by kernel_rfl
theorem lfn181 : lFn Go.Proofs.Try.prog pure Go.Proofs.Try.f181 = some L181 := by kernel_rfl
theorem lfn188 : lFn Go.Proofs.Try.prog pure Go.Proofs.Try.f188 = some L188 := by kernel_rfl
theorem lfn90 : lFn Go.Proofs.Try.prog pure Go.Proofs.Try.f90 = some L90 := by kernel_rfl
theorem lfn91 : lFn Go.Proofs.Try.prog pure Go.Proofs.Try.f91 = some L91 := by kernel_rfl
theorem lfn92 : lFn Go.Proofs.Try.prog pure Go.Proofs.Try.f92 = some L92 := by kernel_rfl
theorem lfn93 : lFn Go.Proofs.Try.prog pure Go.Proofs.Try.f93 = some L93 := by kernel_rfl
theorem lfn94 : lFn Go.Proofs.Try.prog pure Go.Proofs.Try.f94 = some L94 := by kernel_rfl
theorem lfn95 : lFn Go.Proofs.Try.prog pure Go.Proofs.Try.f95 = some L95 := by kernel_rfl
theorem lfn136 : lFn Go.Proofs.Try.prog pure Go.Proofs.Try.f136 = some L136 := by kernel_rfl
theorem lfn31 : lFn Go.Proofs.Try.prog pure Go.Proofs.Try.f31 = some L31 := by kernel_rfl
theorem lfn32 : lFn Go.Proofs.Try.prog pure Go.Proofs.Try.f32 = some L32 := by kernel_rfl
theorem lfn33 : lFn Go.Proofs.Try.prog pure Go.Proofs.Try.f33 = some L33 := by kernel_rfl
theorem lfn5 : lFn Go.Proofs.Try.prog pure Go.Proofs.Try.f5 = some L5 := by kernel_rfl
instance : HasA Sy := { f73 := rfl, f86 := rfl, f106 := rfl, f133 := rfl }
instance : HasFb Sy := { f150 := rfl, f159 := rfl }
instance : HasFa Sy := { f138 := rfl, f164 := rfl }
instance : HasSi Sy := { f135 := rfl, f137 := rfl, f157 := rfl, f158 := rfl, f160 := rfl, f161 := rfl, f162 := rfl, f163 := rfl, f181 := rfl, f188 := rfl }
instance : HasWv Sy := { f90 := rfl, f91 := rfl, f92 := rfl, f93 := rfl, f94 := rfl, f95 := rfl, f136 := rfl }
instance : HasWa Sy := { f31 := rfl, f32 := rfl }
instance : HasSame Sy := { f33 := rfl }
instance : HasLWaveAt Sy := { f5 := rfl }
theorem sysOK {B : Nat} {w0 : World} : SysOK Go.Proofs.Try.prog pure Sy B w0 := SysOK.of (by
  intro p hp
  simp only [funs, List.mem_cons, List.not_mem_nil, or_false] at hp
  rcases hp with rfl | rfl | rfl | rfl | rfl | rfl | rfl | rfl | rfl | rfl | rfl | rfl | rfl | rfl | rfl | rfl | rfl | rfl | rfl | rfl | rfl | rfl | rfl | rfl | rfl | rfl | rfl | rfl | rfl
  · exact ⟨_, Go.Proofs.Try.func73, lfn73⟩
  · exact ⟨_, Go.Proofs.Try.func86, lfn86⟩
  · exact ⟨_, Go.Proofs.Try.func106, lfn106⟩
  · exact ⟨_, Go.Proofs.Try.func133, lfn133⟩
  · exact ⟨_, Go.Proofs.Try.func150, lfn150⟩
  · exact ⟨_, Go.Proofs.Try.func159, lfn159⟩
  · exact ⟨_, Go.Proofs.Try.func138, lfn138⟩
  · exact ⟨_, Go.Proofs.Try.func164, lfn164⟩
  · exact ⟨_, Go.Proofs.Try.func135, lfn135⟩
  · exact ⟨_, Go.Proofs.Try.func137, lfn137⟩
  · exact ⟨_, Go.Proofs.Try.func157, lfn157⟩
  · exact ⟨_, Go.Proofs.Try.func158, lfn158⟩
  · exact ⟨_, Go.Proofs.Try.func160, lfn160⟩
  · exact ⟨_, Go.Proofs.Try.func161, lfn161⟩
  · exact ⟨_, Go.Proofs.Try.func162, lfn162⟩
  · exact ⟨_, Go.Proofs.Try.func163, lfn163⟩
  · exact ⟨_, Go.Proofs.Try.func181, lfn181⟩
  · exact ⟨_, Go.Proofs.Try.func188, lfn188⟩
  · exact ⟨_, Go.Proofs.Try.func90, lfn90⟩
  · exact ⟨_, Go.Proofs.Try.func91, lfn91⟩
  · exact ⟨_, Go.Proofs.Try.func92, lfn92⟩
  · exact ⟨_, Go.Proofs.Try.func93, lfn93⟩
  · exact ⟨_, Go.Proofs.Try.func94, lfn94⟩
  · exact ⟨_, Go.Proofs.Try.func95, lfn95⟩
  · exact ⟨_, Go.Proofs.Try.func136, lfn136⟩
  · exact ⟨_, Go.Proofs.Try.func31, lfn31⟩
  · exact ⟨_, Go.Proofs.Try.func32, lfn32⟩
  · exact ⟨_, Go.Proofs.Try.func33, lfn33⟩
  · exact ⟨_, Go.Proofs.Try.func5, lfn5⟩)

end Go.E.WaveAt
