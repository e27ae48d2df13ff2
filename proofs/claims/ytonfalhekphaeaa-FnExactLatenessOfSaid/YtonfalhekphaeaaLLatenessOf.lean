/- The law of LatenessOf: what the evaluator finds. -/
import Derived.Test.YtonfalhekphaeaaMCh
import Derived.Test.YtonfalhekphaeaaMDs
import Derived.Test.YtonfalhekphaeaaProg
set_option linter.unusedVariables false
set_option linter.unusedSimpArgs false
namespace Go.E
open Go
def L13 : LFn := ⟨1, (.seq (.reg [⟨(.some 2), (.mv (.c (.lf (.bool false)))), none⟩])
 (.seq (.reg [⟨(.some 3), (.mv (.c (.lf (.int .i64 1048576)))), none⟩])
 (.seq (.reg [⟨(.some 9), (.mv (.t 0)), none⟩, ⟨(.some 10), (.mv (.t 3)), none⟩, ⟨(.some 11), (.call true 34 [(.t 9), (.t 10)]), none⟩, ⟨(.some 3), (.mv (.t 11)), none⟩])
 (.seq (.seq (.reg [⟨(.some 12), (.mv (.t 3)), none⟩, ⟨(.some 13), (.bin .lss (.t 12) (.c (.lf (.int .i64 0)))), none⟩])
 (.cond (.t 13) (.seq (.reg [⟨(.some 2), (.mv (.c (.lf (.bool true)))), none⟩])
 .ret) .skip))
 (.seq (.reg [⟨(.some 15), (.mv (.t 0)), none⟩, ⟨(.some 16), (.call false 36 [(.t 15)]), none⟩, ⟨(.some 17), (.call true 62 [(.t 16)]), none⟩, ⟨(.some 14), (.mv (.t 17)), none⟩, ⟨(.some 18), (.ext (.t 14) 0), none⟩, ⟨(.some 19), (.ext (.t 14) 1), none⟩, ⟨(.some 4), (.mv (.t 18)), none⟩, ⟨(.some 5), (.mv (.t 19)), none⟩])
 (.seq (.reg [⟨(.some 20), (.mv (.t 0)), none⟩, ⟨(.some 21), (.call false 36 [(.t 20)]), none⟩, ⟨(.some 6), (.mv (.t 21)), none⟩])
 (.seq (.reg [⟨(.some 23), (.mv (.t 6)), none⟩, ⟨(.some 24), (.call true 63 [(.t 23)]), none⟩, ⟨(.some 22), (.mv (.t 24)), none⟩, ⟨(.some 25), (.ext (.t 22) 0), none⟩, ⟨(.some 26), (.ext (.t 22) 1), none⟩, ⟨(.some 7), (.mv (.t 25)), none⟩, ⟨(.some 8), (.mv (.t 26)), none⟩])
 (.seq (.seq (.reg [⟨(.some 27), (.mv (.t 7)), none⟩, ⟨(.some 28), (.mv (.t 4)), none⟩, ⟨(.some 29), (.bin .neq (.t 27) (.t 28)), none⟩, ⟨(.some 30), (.mv (.t 29)), none⟩, ⟨(.some 31), (.mv (.t 8)), (.some (30, false))⟩, ⟨(.some 32), (.mv (.t 5)), (.some (30, false))⟩, ⟨(.some 33), (.beq true (.t 31) (.t 32)), (.some (30, false))⟩, ⟨(.some 34), (.pick (.t 30) (.c (.lf (.bool true))) (.t 33)), none⟩])
 (.cond (.t 34) (.seq (.reg [⟨(.some 2), (.mv (.c (.lf (.bool false)))), none⟩])
 .ret) .skip))
 (.seq (.seq (.reg [⟨(.some 35), (.mv (.t 6)), none⟩, ⟨(.some 36), (.mv (.t 0)), none⟩, ⟨(.some 37), (.call false 36 [(.t 36)]), none⟩, ⟨(.some 38), (.call true 38 [(.t 35), (.t 37)]), none⟩, ⟨(.some 39), (.una .not (.t 38)), none⟩])
 (.cond (.t 39) (.seq (.reg [⟨(.some 2), (.mv (.c (.lf (.bool false)))), none⟩])
 .ret) .skip))
 (.seq (.reg [⟨(.some 2), (.mv (.c (.lf (.bool true)))), none⟩])
 .ret)))))))))), [(.tmp 2)]⟩
class HasLLatenessOf (S : Sys) : Prop extends HasLt S, HasDE S where
  f13 : S.fs 13 = some L13
theorem lawLatenessOf {S : Sys} [HasLLatenessOf S] : LawHolds S 13 [(false, .sl 3 effSh)] := by
  intro h cs hcs
  obtain ⟨c0, _, rfl, ⟨ls0, rfl, l, rows, rfl, hA, hrows⟩, rfl⟩ := hcs
  obtain ⟨ps, rfl, hI, _⟩ := effs_of hrows
  clear hrows
  refine law_of (F := L13) HasLLatenessOf.f13 rfl ?_
  have hs := fun K lim => c_szEffectS (S := S) (K := K) (lim := lim) hA hI (b := 1048576) (by decide) (by decide)
  by_cases hsz : (1048576 : Int) < ps.length + szD Eff.nums ps
  · rw [if_pos hsz] at hs
    unfold L13
    dsimp only []
    repeat' (first | (simp (disch := first | omega | assumption | (simp only [List.length_set]; omega) | (simp [*] <;> fail) | assumption) [-Bool.decide_and, -Bool.decide_or, -Bool.not_and, -Bool.not_or, toNat_pred, toNat_succ, wrap64, wr_new, wr_new0, ok_if, ok_ifn, iadV_sl, makeV_int, decT, decF, over_at, *]) | (with_reducible refine Gd_split (fun hc => ?_) (fun hc => ?_) <;> (have hc2 := hc; try simp at hc2)) | (with_reducible refine Br_split (fun hc => ?_) (fun hc => ?_) <;> (have hc2 := hc; try simp at hc2)) | (with_reducible refine GdT_split (fun hc => ?_) (fun hc => ?_) <;> (have hc2 := hc; try simp at hc2)) | (with_reducible refine WT_alt ?_ ?_) | omega)
  · rw [if_neg hsz] at hs
    unfold L13
    dsimp only []
    repeat' (first | (simp (disch := first | omega | assumption | (simp only [List.length_set]; omega) | (simp [*] <;> fail) | assumption) [-Bool.decide_and, -Bool.decide_or, -Bool.not_and, -Bool.not_or, toNat_pred, toNat_succ, wrap64, wr_new, wr_new0, ok_if, ok_ifn, iadV_sl, makeV_int, decT, decF, over_at, *]) | (with_reducible refine Gd_split (fun hc => ?_) (fun hc => ?_) <;> (have hc2 := hc; try simp at hc2)) | (with_reducible refine Br_split (fun hc => ?_) (fun hc => ?_) <;> (have hc2 := hc; try simp at hc2)) | (with_reducible refine GdT_split (fun hc => ?_) (fun hc => ?_) <;> (have hc2 := hc; try simp at hc2)) | (with_reducible refine WT_alt ?_ ?_) | omega)
    refine c_toEffectS hA hI (by omega) (by omega) (Nat.le_refl _) fun l1 g1 qs1 hN1 hq1 => ?_
    have k1 := hN1.kept.1
    obtain ⟨r, ok, hr⟩ : ∃ r ok, lateT (ps.map (·.1)) = .tup [.lf (.int .i64 r), .lf (.bool ok)] := by
      unfold lateT; split
      · exact ⟨_, _, rfl⟩
      · exact ⟨_, _, rfl⟩
    have c1 := fun K lim => c_specLatenessOf (S := S) (K := K) (lim := lim) hN1.arr hN1.ins
    simp only [hq1, hr] at c1
    repeat' (first | (simp (disch := first | omega | assumption | (simp only [List.length_set]; omega) | (simp [*] <;> fail) | assumption) [-Bool.decide_and, -Bool.decide_or, -Bool.not_and, -Bool.not_or, toNat_pred, toNat_succ, wrap64, wr_new, wr_new0, ok_if, ok_ifn, iadV_sl, makeV_int, decT, decF, over_at, *]) | (with_reducible refine Gd_split (fun hc => ?_) (fun hc => ?_) <;> (have hc2 := hc; try simp at hc2)) | (with_reducible refine Br_split (fun hc => ?_) (fun hc => ?_) <;> (have hc2 := hc; try simp at hc2)) | (with_reducible refine GdT_split (fun hc => ?_) (fun hc => ?_) <;> (have hc2 := hc; try simp at hc2)) | (with_reducible refine WT_alt ?_ ?_) | omega)
    refine c_toEffectS (hA.kept hN1.kept) (hI.kept hN1.kept) (by omega) (by omega) k1 fun l2 g2 qs2 hN2 hq2 => ?_
    have k2 := hN2.kept.1
    have c2 := fun K lim => c_implLatenessOf (S := S) (K := K) (lim := lim) hN2.arr hN2.ins
    simp only [hq2, hr] at c2
    repeat' (first | (simp (disch := first | omega | assumption | (simp only [List.length_set]; omega) | (simp [*] <;> fail) | assumption) [-Bool.decide_and, -Bool.decide_or, -Bool.not_and, -Bool.not_or, toNat_pred, toNat_succ, wrap64, wr_new, wr_new0, ok_if, ok_ifn, iadV_sl, makeV_int, decT, decF, over_at, *]) | (with_reducible refine Gd_split (fun hc => ?_) (fun hc => ?_) <;> (have hc2 := hc; try simp at hc2)) | (with_reducible refine Br_split (fun hc => ?_) (fun hc => ?_) <;> (have hc2 := hc; try simp at hc2)) | (with_reducible refine GdT_split (fun hc => ?_) (fun hc => ?_) <;> (have hc2 := hc; try simp at hc2)) | (with_reducible refine WT_alt ?_ ?_) | omega)
    have kk := hN1.kept.trans hN2.kept
    refine c_toEffectS (hA.kept kk) (hI.kept kk) (by omega) (by omega) (by omega) fun l3 g3 qs3 hN3 hq3 => ?_
    repeat' (first | (simp (disch := first | omega | assumption | (simp only [List.length_set]; omega) | (simp [*] <;> fail) | assumption) [-Bool.decide_and, -Bool.decide_or, -Bool.not_and, -Bool.not_or, toNat_pred, toNat_succ, wrap64, wr_new, wr_new0, ok_if, ok_ifn, iadV_sl, makeV_int, decT, decF, over_at, *, c_eqEffectS (hN2.arr.kept hN3.kept) (hN2.ins.kept hN3.kept) hN3.arr hN3.ins (hq3.trans hq2.symm)]) | (with_reducible refine Gd_split (fun hc => ?_) (fun hc => ?_) <;> (have hc2 := hc; try simp at hc2)) | (with_reducible refine Br_split (fun hc => ?_) (fun hc => ?_) <;> (have hc2 := hc; try simp at hc2)) | (with_reducible refine GdT_split (fun hc => ?_) (fun hc => ?_) <;> (have hc2 := hc; try simp at hc2)) | (with_reducible refine WT_alt ?_ ?_) | omega)
end Go.E
namespace Go.E.LatenessOf
open Go Go.E
def pure : FuncId → Bool := fun f => List.elem f [3, 4, 5, 6, 7, 8, 9, 10, 11, 12, 13, 14, 19, 20, 23, 24, 28, 30, 31, 32, 33, 34, 35, 37, 38, 40, 44, 48, 50, 51, 54, 55, 57, 58, 59, 60, 61, 62, 63, 64, 66, 69, 71, 72, 73, 74, 75, 76, 77, 78, 79, 80, 81, 82, 83, 84, 85, 86, 87, 88, 89, 90, 91, 92, 93, 94, 95, 96, 97, 99, 100, 101, 103, 106, 107, 108, 110, 111, 112, 113, 114, 115, 116, 117, 122, 123, 124, 125, 126, 128, 129, 131, 132, 133, 134, 135, 136, 137, 138, 139, 140, 141, 142, 143, 144, 146, 147, 148, 149, 150, 151, 152, 153, 154, 155, 156, 157, 158, 159, 160, 161, 162, 163, 164, 165, 166, 167, 168, 169, 170, 171, 172, 173, 174, 175, 176, 177, 178, 179, 180, 181, 182, 183, 184, 185, 186, 187, 188, 189, 190, 191, 192, 193, 195, 197, 199, 206, 208, 209, 210]
def funs : List (Nat × LFn) := [(73, L73), (86, L86), (106, L106), (133, L133), (33, L33), (16, L16), (20, L20), (21, L21), (30, L30), (139, L139), (34, L34), (36, L36), (38, L38), (96, L96), (98, L98), (100, L100), (35, L35), (37, L37), (97, L97), (99, L99), (140, L140), (141, L141), (142, L142), (165, L165), (166, L166), (167, L167), (183, L183), (62, L62), (63, L63), (13, L13)]
def Sy : Sys := sysOf funs
theorem lfn73 : lFn Go.Proofs.Try.prog pure Go.Proofs.Try.f73 = some L73 := by kernel_rfl
theorem lfn86 : lFn Go.Proofs.Try.prog pure Go.Proofs.Try.f86 = some L86 := by kernel_rfl
theorem lfn106 : lFn Go.Proofs.Try.prog pure Go.Proofs.Try.f106 = some L106 := by kernel_rfl
theorem lfn133 : lFn Go.Proofs.Try.prog pure Go.Proofs.Try.f133 = some L133 := by kernel_rfl
theorem lfn33 : lFn Go.Proofs.Try.prog pure Go.Proofs.Try.f33 = some L33 := by kernel_rfl
theorem lfn16 : lFn Go.Proofs.Try.prog pure Go.Proofs.Try.f16 = some L16 := by kernel_rfl
theorem lfn20 : lFn Go.Proofs.Try.prog pure Go.Proofs.Try.f20 = some L20 := by kernel_rfl
theorem lfn21 : lFn Go.Proofs.Try.prog pure Go.Proofs.Try.f21 = some L21 := by kernel_rfl
theorem lfn30 : lFn Go.Proofs.Try.prog pure Go.Proofs.Try.f30 = some L30 := by kernel_rfl
theorem lfn139 : lFn Go.Proofs.Try.prog pure Go.Proofs.Try.f139 = some L139 := by kernel_rfl
theorem lfn34 : lFn Go.Proofs.Try.prog pure Go.Proofs.Try.f34 = some L34 := by kernel_rfl
theorem lfn36 : lFn Go.Proofs.Try.prog pure Go.Proofs.Try.f36 = some L36 := by kernel_rfl
theorem lfn38 : lFn Go.Proofs.Try.prog pure Go.Proofs.Try.f38 = some L38 := by kernel_rfl
theorem lfn96 : lFn Go.Proofs.Try.prog pure Go.Proofs.Try.f96 = some L96 := by kernel_rfl
theorem lfn98 : lFn Go.Proofs.Try.prog pure Go.Proofs.Try.f98 = some L98 := by kernel_rfl
theorem lfn100 : lFn Go.Proofs.Try.prog pure Go.Proofs.Try.f100 = some L100 := by kernel_rfl
theorem lfn35 : lFn Go.Proofs.Try.prog pure Go.Proofs.Try.f35 = some L35 := by kernel_rfl
theorem lfn37 : lFn Go.Proofs.Try.prog pure Go.Proofs.Try.f37 = some L37 := by kernel_rfl
theorem lfn97 : lFn Go.Proofs.Try.prog pure Go.Proofs.Try.f97 = some L97 := by kernel_rfl
theorem lfn99 : lFn Go.Proofs.Try.prog pure Go.Proofs.Try.f99 = some L99 := by kernel_rfl
theorem lfn140 : lFn Go.Proofs.Try.prog pure Go.Proofs.Try.f140 = some L140 := by kernel_rfl
theorem lfn141 : lFn Go.Proofs.Try.prog pure Go.Proofs.Try.f141 = some L141 := by kernel_rfl
theorem lfn142 : lFn Go.Proofs.Try.prog pure Go.Proofs.Try.f142 = some L142 := by kernel_rfl
theorem lfn165 : lFn Go.Proofs.Try.prog pure Go.Proofs.Try.f165 = some L165 := by kernel_rfl
theorem lfn166 : lFn Go.Proofs.Try.prog pure Go.Proofs.Try.f166 = some L166 := by kernel_rfl
theorem lfn167 : lFn Go.Proofs.Try.prog pure Go.Proofs.Try.f167 = some L167 := by kernel_rfl
theorem lfn183 : lFn Go.Proofs.Try.prog pure Go.Proofs.Try.f183 = some L183 := by kernel_rfl
theorem lfn62 : lFn Go.Proofs.Try.prog pure Go.Proofs.Try.f62 = some L62 := by kernel_rfl
theorem lfn63 : lFn Go.Proofs.Try.prog pure Go.Proofs.Try.f63 = some L63 := by kernel_rfl
theorem lfn13 : lFn Go.Proofs.Try.prog pure Go.Proofs.Try.f13 = some L13 := by kernel_rfl
instance : HasA Sy := { f73 := rfl, f86 := rfl, f106 := rfl, f133 := rfl }
instance : HasSame Sy := { f33 := rfl }
instance : HasF Sy := { f16 := rfl, f20 := rfl, f21 := rfl, f30 := rfl }
instance : HasSz Sy := { f139 := rfl }
instance : HasDE Sy := { f34 := rfl, f36 := rfl, f38 := rfl, f96 := rfl, f98 := rfl, f100 := rfl }
instance : HasEf Sy := { f35 := rfl, f37 := rfl, f97 := rfl, f99 := rfl, f140 := rfl, f141 := rfl, f142 := rfl, f165 := rfl, f166 := rfl, f167 := rfl, f183 := rfl }
instance : HasLt Sy := { f62 := rfl, f63 := rfl }
instance : HasLLatenessOf Sy := { f13 := rfl }
theorem sysOK {B : Nat} {w0 : World} : SysOK Go.Proofs.Try.prog pure Sy B w0 := SysOK.of (by
  intro p hp
  simp only [funs, List.mem_cons, List.not_mem_nil, or_false] at hp
  rcases hp with rfl | rfl | rfl | rfl | rfl | rfl | rfl | rfl | rfl | rfl | rfl | rfl | rfl | rfl | rfl | rfl | rfl | rfl | rfl | rfl | rfl | rfl | rfl | rfl | rfl | rfl | rfl | rfl | rfl | rfl
  · exact ⟨_, Go.Proofs.Try.func73, lfn73⟩
  · exact ⟨_, Go.Proofs.Try.func86, lfn86⟩
  · exact ⟨_, Go.Proofs.Try.func106, lfn106⟩
  · exact ⟨_, Go.Proofs.Try.func133, lfn133⟩
  · exact ⟨_, Go.Proofs.Try.func33, lfn33⟩
  · exact ⟨_, Go.Proofs.Try.func16, lfn16⟩
  · exact ⟨_, Go.Proofs.Try.func20, lfn20⟩
  · exact ⟨_, Go.Proofs.Try.func21, lfn21⟩
  · exact ⟨_, Go.Proofs.Try.func30, lfn30⟩
  · exact ⟨_, Go.Proofs.Try.func139, lfn139⟩
  · exact ⟨_, Go.Proofs.Try.func34, lfn34⟩
  · exact ⟨_, Go.Proofs.Try.func36, lfn36⟩
  · exact ⟨_, Go.Proofs.Try.func38, lfn38⟩
  · exact ⟨_, Go.Proofs.Try.func96, lfn96⟩
  · exact ⟨_, Go.Proofs.Try.func98, lfn98⟩
  · exact ⟨_, Go.Proofs.Try.func100, lfn100⟩
  · exact ⟨_, Go.Proofs.Try.func35, lfn35⟩
  · exact ⟨_, Go.Proofs.Try.func37, lfn37⟩
  · exact ⟨_, Go.Proofs.Try.func97, lfn97⟩
  · exact ⟨_, Go.Proofs.Try.func99, lfn99⟩
  · exact ⟨_, Go.Proofs.Try.func140, lfn140⟩
  · exact ⟨_, Go.Proofs.Try.func141, lfn141⟩
  · exact ⟨_, Go.Proofs.Try.func142, lfn142⟩
  · exact ⟨_, Go.Proofs.Try.func165, lfn165⟩
  · exact ⟨_, Go.Proofs.Try.func166, lfn166⟩
  · exact ⟨_, Go.Proofs.Try.func167, lfn167⟩
  · exact ⟨_, Go.Proofs.Try.func183, lfn183⟩
  · exact ⟨_, Go.Proofs.Try.func62, lfn62⟩
  · exact ⟨_, Go.Proofs.Try.func63, lfn63⟩
  · exact ⟨_, Go.Proofs.Try.func13, lfn13⟩)

end Go.E.LatenessOf
