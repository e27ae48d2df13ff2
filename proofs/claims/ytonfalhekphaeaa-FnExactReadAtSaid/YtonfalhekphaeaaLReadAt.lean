/- The law of ReadAt: what the evaluator finds. -/
import Derived.Test.YtonfalhekphaeaaMRt
import Derived.Test.YtonfalhekphaeaaMC
import Derived.Test.YtonfalhekphaeaaEE
import Derived.Test.YtonfalhekphaeaaProg
set_option linter.unusedVariables false
set_option linter.unusedSimpArgs false
namespace Go.E
open Go
def L10 : LFn := ⟨3, (.seq (.reg [⟨(.some 6), (.mv (.c (.lf (.bool false)))), none⟩])
 (.seq (.seq (.reg [⟨(.some 12), (.mv (.t 1)), none⟩, ⟨(.some 13), (.len (.t 12)), none⟩, ⟨(.some 14), (.bin .gtr (.t 13) (.c (.lf (.int .i64 1048576)))), none⟩])
 (.cond (.t 14) (.seq (.reg [⟨(.some 6), (.mv (.c (.lf (.bool true)))), none⟩])
 .ret) .skip))
 (.seq (.reg [⟨(.some 16), (.mv (.t 0)), none⟩, ⟨(.some 17), (.mv (.t 1)), none⟩, ⟨(.some 18), (.call false 16 [(.t 17)]), none⟩, ⟨(.some 19), (.mv (.t 2)), none⟩, ⟨(.some 20), (.call true 50 [(.t 16), (.t 18), (.t 19)]), none⟩, ⟨(.some 15), (.mv (.t 20)), none⟩, ⟨(.some 21), (.ext (.t 15) 0), none⟩, ⟨(.some 22), (.ext (.t 15) 1), none⟩, ⟨(.some 7), (.mv (.t 21)), none⟩, ⟨(.some 8), (.mv (.t 22)), none⟩])
 (.seq (.reg [⟨(.some 23), (.mv (.t 1)), none⟩, ⟨(.some 24), (.call false 16 [(.t 23)]), none⟩, ⟨(.some 9), (.mv (.t 24)), none⟩])
 (.seq (.reg [⟨(.some 26), (.mv (.t 0)), none⟩, ⟨(.some 27), (.mv (.t 9)), none⟩, ⟨(.some 28), (.mv (.t 2)), none⟩, ⟨(.some 29), (.call true 51 [(.t 26), (.t 27), (.t 28)]), none⟩, ⟨(.some 25), (.mv (.t 29)), none⟩, ⟨(.some 30), (.ext (.t 25) 0), none⟩, ⟨(.some 31), (.ext (.t 25) 1), none⟩, ⟨(.some 10), (.mv (.t 30)), none⟩, ⟨(.some 11), (.mv (.t 31)), none⟩])
 (.seq (.seq (.reg [⟨(.some 32), (.mv (.t 10)), none⟩, ⟨(.some 33), (.toflt .f64 (.t 32)), none⟩, ⟨(.some 34), (.mv (.t 7)), none⟩, ⟨(.some 35), (.toflt .f64 (.t 34)), none⟩, ⟨(.some 36), (.call true 33 [(.t 33), (.t 35)]), none⟩, ⟨(.some 37), (.una .not (.t 36)), none⟩, ⟨(.some 38), (.mv (.t 37)), none⟩, ⟨(.some 39), (.mv (.t 11)), (.some (38, false))⟩, ⟨(.some 40), (.mv (.t 8)), (.some (38, false))⟩, ⟨(.some 41), (.beq true (.t 39) (.t 40)), (.some (38, false))⟩, ⟨(.some 42), (.pick (.t 38) (.c (.lf (.bool true))) (.t 41)), none⟩])
 (.cond (.t 42) (.seq (.reg [⟨(.some 6), (.mv (.c (.lf (.bool false)))), none⟩])
 .ret) .skip))
 (.seq (.seq (.reg [⟨(.some 43), (.mv (.t 9)), none⟩, ⟨(.some 44), (.mv (.t 1)), none⟩, ⟨(.some 45), (.call false 16 [(.t 44)]), none⟩, ⟨(.some 46), (.call true 20 [(.t 43), (.t 45)]), none⟩, ⟨(.some 47), (.una .not (.t 46)), none⟩])
 (.cond (.t 47) (.seq (.reg [⟨(.some 6), (.mv (.c (.lf (.bool false)))), none⟩])
 .ret) .skip))
 (.seq (.reg [⟨(.some 6), (.mv (.c (.lf (.bool true)))), none⟩])
 .ret)))))))), [(.tmp 6)]⟩
class HasLReadAt (S : Sys) : Prop extends HasRt S, HasSame S, HasF S where
  f10 : S.fs 10 = some L10
theorem fl_of {h : Hp} {r : List Lf} (t : Ty h (.flt .f32) r) : ∃ x : Nat, r = fl x ∧ True := by
  obtain ⟨x, rfl, _, _⟩ := t
  exact ⟨x, rfl, trivial⟩
theorem lawReadAt {S : Sys} [HasLReadAt S] : LawHolds S 10 [(false, .int .i64), (false, .sl 1 (.flt .f32)), (false, .flt .f64)] := by
  intro h cs hcs
  obtain ⟨c0, _, rfl, ⟨ls0, rfl, kind, rfl, _⟩, c1, _, rfl, ⟨ls1, rfl, l, rows, rfl, hA, hrows⟩, c2, _, rfl, ⟨ls2, rfl, x, rfl, hx1, hx2⟩, rfl⟩ := hcs
  obtain ⟨xs, rfl, _⟩ := rows_map (Q := fun _ => True) fun r hr => fl_of (hrows r hr)
  have hx : CD x := ⟨hx1, hx2⟩
  clear hrows hx1 hx2
  refine law_of (F := L10) HasLReadAt.f10 rfl ?_
  unfold L10
  dsimp only []
  repeat' (first | (simp (disch := first | omega | assumption | (simp only [List.length_set]; omega) | (simp [*] <;> fail) | assumption) [-Bool.decide_and, -Bool.decide_or, -Bool.not_and, -Bool.not_or, toNat_pred, toNat_succ, wrap64, wr_new, wr_new0, ok_if, ok_ifn, iadV_sl, makeV_int, decT, decF, over_at, *, hA.len]) | (with_reducible refine Gd_split (fun hc => ?_) (fun hc => ?_) <;> (have hc2 := hc; try simp at hc2)) | (with_reducible refine Br_split (fun hc => ?_) (fun hc => ?_) <;> (have hc2 := hc; try simp at hc2)) | (with_reducible refine GdT_split (fun hc => ?_) (fun hc => ?_) <;> (have hc2 := hc; try simp at hc2)) | (with_reducible refine WT_alt ?_ ?_) | omega)
  have hn : xs.length ≤ 16777216 := by omega
  refine c_toFloat32S hA hn (Nat.le_refl _) fun l1 g1 hN1 => ?_
  obtain ⟨r, ok, hr⟩ : ∃ r ok, readT kind xs x = .tup [.lf (.flt .f32 r), .lf (.bool ok)] := by
    unfold readT; split
    · exact ⟨_, _, rfl⟩
    · exact ⟨_, _, rfl⟩
  have c1 := fun K lim => c_specReadAt (S := S) (K := K) (lim := lim) (kind := kind) hN1.arr hx
  rw [hr] at c1
  repeat' (first | (simp (disch := first | omega | assumption | (simp only [List.length_set]; omega) | (simp [*] <;> fail) | assumption) [-Bool.decide_and, -Bool.decide_or, -Bool.not_and, -Bool.not_or, toNat_pred, toNat_succ, wrap64, wr_new, wr_new0, ok_if, ok_ifn, iadV_sl, makeV_int, decT, decF, over_at, *]) | (with_reducible refine Gd_split (fun hc => ?_) (fun hc => ?_) <;> (have hc2 := hc; try simp at hc2)) | (with_reducible refine Br_split (fun hc => ?_) (fun hc => ?_) <;> (have hc2 := hc; try simp at hc2)) | (with_reducible refine GdT_split (fun hc => ?_) (fun hc => ?_) <;> (have hc2 := hc; try simp at hc2)) | (with_reducible refine WT_alt ?_ ?_) | omega)
  replace hA := hA.kept hN1.kept
  have k1 := hN1.kept.1
  refine c_toFloat32S hA hn k1 fun l2 g2 hN2 => ?_
  have c2 := fun K lim => c_implReadAt (S := S) (K := K) (lim := lim) (kind := kind) hN2.arr hx
  rw [hr] at c2
  repeat' (first | (simp (disch := first | omega | assumption | (simp only [List.length_set]; omega) | (simp [*] <;> fail) | assumption) [-Bool.decide_and, -Bool.decide_or, -Bool.not_and, -Bool.not_or, toNat_pred, toNat_succ, wrap64, wr_new, wr_new0, ok_if, ok_ifn, iadV_sl, makeV_int, decT, decF, over_at, *]) | (with_reducible refine Gd_split (fun hc => ?_) (fun hc => ?_) <;> (have hc2 := hc; try simp at hc2)) | (with_reducible refine Br_split (fun hc => ?_) (fun hc => ?_) <;> (have hc2 := hc; try simp at hc2)) | (with_reducible refine GdT_split (fun hc => ?_) (fun hc => ?_) <;> (have hc2 := hc; try simp at hc2)) | (with_reducible refine WT_alt ?_ ?_) | omega)
  replace hA := hA.kept hN2.kept
  have k2 := hN2.kept.1
  refine c_toFloat32S hA hn (by omega) fun l3 g3 hN3 => ?_
  repeat' (first | (simp (disch := first | omega | assumption | (simp only [List.length_set]; omega) | (simp [*] <;> fail) | assumption) [-Bool.decide_and, -Bool.decide_or, -Bool.not_and, -Bool.not_or, toNat_pred, toNat_succ, wrap64, wr_new, wr_new0, ok_if, ok_ifn, iadV_sl, makeV_int, decT, decF, over_at, *, c_eqFloat32S (hN2.arr.kept hN3.kept) hN3.arr]) | (with_reducible refine Gd_split (fun hc => ?_) (fun hc => ?_) <;> (have hc2 := hc; try simp at hc2)) | (with_reducible refine Br_split (fun hc => ?_) (fun hc => ?_) <;> (have hc2 := hc; try simp at hc2)) | (with_reducible refine GdT_split (fun hc => ?_) (fun hc => ?_) <;> (have hc2 := hc; try simp at hc2)) | (with_reducible refine WT_alt ?_ ?_) | omega)
end Go.E
namespace Go.E.ReadAt
open Go Go.E
def pure : FuncId → Bool := fun f => List.elem f [3, 4, 5, 6, 7, 8, 9, 10, 11, 12, 13, 14, 19, 20, 23, 24, 28, 30, 31, 32, 33, 34, 35, 37, 38, 40, 44, 48, 50, 51, 54, 55, 57, 58, 59, 60, 61, 62, 63, 64, 66, 69, 71, 72, 73, 74, 75, 76, 77, 78, 79, 80, 81, 82, 83, 84, 85, 86, 87, 88, 89, 90, 91, 92, 93, 94, 95, 96, 97, 99, 100, 101, 103, 106, 107, 108, 110, 111, 112, 113, 114, 115, 116, 117, 122, 123, 124, 125, 126, 128, 129, 131, 132, 133, 134, 135, 136, 137, 138, 139, 140, 141, 142, 143, 144, 146, 147, 148, 149, 150, 151, 152, 153, 154, 155, 156, 157, 158, 159, 160, 161, 162, 163, 164, 165, 166, 167, 168, 169, 170, 171, 172, 173, 174, 175, 176, 177, 178, 179, 180, 181, 182, 183, 184, 185, 186, 187, 188, 189, 190, 191, 192, 193, 195, 197, 199, 206, 208, 209, 210]
def funs : List (Nat × LFn) := [(73, L73), (86, L86), (106, L106), (133, L133), (72, L72), (77, L77), (113, L113), (114, L114), (115, L115), (116, L116), (117, L117), (147, L147), (148, L148), (149, L149), (171, L171), (172, L172), (50, L50), (51, L51), (33, L33), (16, L16), (20, L20), (21, L21), (30, L30), (10, L10)]
def Sy : Sys := sysOf funs
theorem lfn73 : lFn Go.Proofs.Try.prog pure Go.Proofs.Try.f73 = some L73 := by kernel_rfl
theorem lfn86 : lFn Go.Proofs.Try.prog pure Go.Proofs.Try.f86 = some L86 := by kernel_rfl
theorem lfn106 : lFn Go.Proofs.Try.prog pure Go.Proofs.Try.f106 = some L106 := by kernel_rfl
theorem lfn133 : lFn Go.Proofs.Try.prog pure Go.Proofs.Try.f133 = some L133 := by kernel_rfl
theorem lfn72 : lFn Go.Proofs.Try.prog pure Go.Proofs.Try.f72 = some L72 := by kernel_rfl
theorem lfn77 : lFn Go.Proofs.Try.prog pure Go.Proofs.Try.f77 = some L77 := by kernel_rfl
theorem lfn113 : lFn Go.Proofs.Try.prog pure Go.Proofs.Try.f113 = some L113 := by kernel_rfl
theorem lfn114 : lFn Go.Proofs.Try.prog pure Go.Proofs.Try.f114 = some L114 := by kernel_rfl
theorem lfn115 : lFn Go.Proofs.Try.prog pure Go.Proofs.Try.f115 = some L115 := by kernel_rfl
theorem lfn116 : lFn Go.Proofs.Try.prog pure Go.Proofs.Try.f116 = some L116 := by kernel_rfl
theorem lfn117 : lFn Go.Proofs.Try.prog pure Go.Proofs.Try.f117 = some L117 := by kernel_rfl
theorem lfn147 : lFn Go.Proofs.Try.prog pure Go.Proofs.Try.f147 = some L147 := by kernel_rfl
theorem lfn148 : lFn Go.Proofs.Try.prog pure Go.Proofs.Try.f148 = some L148 := by kernel_rfl
theorem lfn149 : lFn Go.Proofs.Try.prog pure Go.Proofs.Try.f149 = some L149 := by kernel_rfl
theorem lfn171 : lFn Go.Proofs.Try.prog pure Go.Proofs.Try.f171 = some L171 := by kernel_rfl
theorem lfn172 : lFn Go.Proofs.Try.prog pure Go.Proofs.Try.f172 = some L172 := by kernel_rfl
theorem lfn50 : lFn Go.Proofs.Try.prog pure Go.Proofs.Try.f50 = some L50 := by kernel_rfl
theorem lfn51 : lFn Go.Proofs.Try.prog pure Go.Proofs.Try.f51 = some L51 := by kernel_rfl
theorem lfn33 : lFn Go.Proofs.Try.prog pure Go.Proofs.Try.f33 = some L33 := by kernel_rfl
theorem lfn16 : lFn Go.Proofs.Try.prog pure Go.Proofs.Try.f16 = some L16 := by kernel_rfl
theorem lfn20 : lFn Go.Proofs.Try.prog pure Go.Proofs.Try.f20 = some L20 := by kernel_rfl
theorem lfn21 : lFn Go.Proofs.Try.prog pure Go.Proofs.Try.f21 = some L21 := by kernel_rfl
theorem lfn30 : lFn Go.Proofs.Try.prog pure Go.Proofs.Try.f30 = some L30 := by kernel_rfl
theorem lfn10 : lFn Go.Proofs.Try.prog pure Go.Proofs.Try.f10 = some L10 := by kernel_rfl
instance : HasA Sy := { f73 := rfl, f86 := rfl, f106 := rfl, f133 := rfl }
instance : HasP Sy := { f72 := rfl, f77 := rfl }
instance : HasRd Sy := { f113 := rfl, f114 := rfl, f115 := rfl, f116 := rfl, f117 := rfl, f147 := rfl, f148 := rfl, f149 := rfl, f171 := rfl, f172 := rfl }
instance : HasRt Sy := { f50 := rfl, f51 := rfl }
instance : HasSame Sy := { f33 := rfl }
instance : HasF Sy := { f16 := rfl, f20 := rfl, f21 := rfl, f30 := rfl }
instance : HasLReadAt Sy := { f10 := rfl }
theorem sysOK {B : Nat} {w0 : World} : SysOK Go.Proofs.Try.prog pure Sy B w0 := SysOK.of (by
  intro p hp
  simp only [funs, List.mem_cons, List.not_mem_nil, or_false] at hp
  rcases hp with rfl | rfl | rfl | rfl | rfl | rfl | rfl | rfl | rfl | rfl | rfl | rfl | rfl | rfl | rfl | rfl | rfl | rfl | rfl | rfl | rfl | rfl | rfl | rfl
  · exact ⟨_, Go.Proofs.Try.func73, lfn73⟩
  · exact ⟨_, Go.Proofs.Try.func86, lfn86⟩
  · exact ⟨_, Go.Proofs.Try.func106, lfn106⟩
  · exact ⟨_, Go.Proofs.Try.func133, lfn133⟩
  · exact ⟨_, Go.Proofs.Try.func72, lfn72⟩
  · exact ⟨_, Go.Proofs.Try.func77, lfn77⟩
  · exact ⟨_, Go.Proofs.Try.func113, lfn113⟩
  · exact ⟨_, Go.Proofs.Try.func114, lfn114⟩
  · exact ⟨_, Go.Proofs.Try.func115, lfn115⟩
  · exact ⟨_, Go.Proofs.Try.func116, lfn116⟩
  · exact ⟨_, Go.Proofs.Try.func117, lfn117⟩
  · exact ⟨_, Go.Proofs.Try.func147, lfn147⟩
  · exact ⟨_, Go.Proofs.Try.func148, lfn148⟩
  · exact ⟨_, Go.Proofs.Try.func149, lfn149⟩
  · exact ⟨_, Go.Proofs.Try.func171, lfn171⟩
  · exact ⟨_, Go.Proofs.Try.func172, lfn172⟩
  · exact ⟨_, Go.Proofs.Try.func50, lfn50⟩
  · exact ⟨_, Go.Proofs.Try.func51, lfn51⟩
  · exact ⟨_, Go.Proofs.Try.func33, lfn33⟩
  · exact ⟨_, Go.Proofs.Try.func16, lfn16⟩
  · exact ⟨_, Go.Proofs.Try.func20, lfn20⟩
  · exact ⟨_, Go.Proofs.Try.func21, lfn21⟩
  · exact ⟨_, Go.Proofs.Try.func30, lfn30⟩
  · exact ⟨_, Go.Proofs.Try.func10, lfn10⟩)

end Go.E.ReadAt
