/- The law of AreTracks: what the evaluator finds. -/
import Derived.Test.YtpjgmichaeiifaaMTk
import Derived.Test.YtpjgmichaeiifaaEE
import Derived.Test.YtpjgmichaeiifaaProg
set_option linter.unusedVariables false
set_option linter.unusedSimpArgs false
namespace Go.E
open Go
def L9 : LFn := ⟨1, (.seq (.reg [⟨(.some 2), (.mv (.c (.lf (.bool false)))), none⟩])
 (.seq (.reg [⟨(.some 3), (.mv (.c (.lf (.int .i64 1048576)))), none⟩])
 (.seq (.reg [⟨(.some 7), (.mv (.t 0)), none⟩, ⟨(.some 8), (.mv (.t 3)), none⟩, ⟨(.some 9), (.call true 44 [(.t 7), (.t 8)]), none⟩, ⟨(.some 3), (.mv (.t 9)), none⟩])
 (.seq (.seq (.reg [⟨(.some 10), (.mv (.t 3)), none⟩, ⟨(.some 11), (.bin .lss (.t 10) (.c (.lf (.int .i64 0)))), none⟩])
 (.cond (.t 11) (.seq (.reg [⟨(.some 2), (.mv (.c (.lf (.bool true)))), none⟩])
 .ret) .skip))
 (.seq (.reg [⟨(.some 12), (.mv (.t 0)), none⟩, ⟨(.some 13), (.call false 46 [(.t 12)]), none⟩, ⟨(.some 14), (.call true 45 [(.t 13)]), none⟩, ⟨(.some 4), (.mv (.t 14)), none⟩])
 (.seq (.reg [⟨(.some 15), (.mv (.t 0)), none⟩, ⟨(.some 16), (.call false 46 [(.t 15)]), none⟩, ⟨(.some 5), (.mv (.t 16)), none⟩])
 (.seq (.reg [⟨(.some 17), (.mv (.t 5)), none⟩, ⟨(.some 18), (.call true 47 [(.t 17)]), none⟩, ⟨(.some 6), (.mv (.t 18)), none⟩])
 (.seq (.seq (.reg [⟨(.some 19), (.mv (.t 6)), none⟩, ⟨(.some 20), (.mv (.t 4)), none⟩, ⟨(.some 21), (.beq true (.t 19) (.t 20)), none⟩])
 (.cond (.t 21) (.seq (.reg [⟨(.some 2), (.mv (.c (.lf (.bool false)))), none⟩])
 .ret) .skip))
 (.seq (.seq (.reg [⟨(.some 22), (.mv (.t 5)), none⟩, ⟨(.some 23), (.mv (.t 0)), none⟩, ⟨(.some 24), (.call false 46 [(.t 23)]), none⟩, ⟨(.some 25), (.call true 48 [(.t 22), (.t 24)]), none⟩, ⟨(.some 26), (.una .not (.t 25)), none⟩])
 (.cond (.t 26) (.seq (.reg [⟨(.some 2), (.mv (.c (.lf (.bool false)))), none⟩])
 .ret) .skip))
 (.seq (.reg [⟨(.some 2), (.mv (.c (.lf (.bool true)))), none⟩])
 .ret)))))))))), [(.tmp 2)]⟩
class HasLAreTracks (S : Sys) : Prop extends HasTk S, HasDT S where
  f9 : S.fs 9 = some L9
def trkSh : Sh := .cat 1 (.sl 1 (.flt .f32)) (.cat 1 (.int .i64) (.cat 1 (.flt .f32) (.cat 1 .bool (.cat 1 .bool .emp))))
theorem fl_rows {h : Hp} {rows : List (List Lf)} (t : ∀ r ∈ rows, Ty h (.flt .f32) r) : ∃ xs : List Nat, rows = xs.map fl := by
  obtain ⟨xs, h1, _⟩ := rows_map (f := fl) (Q := fun _ => True) fun r hr => (by obtain ⟨x, rfl, _, _⟩ := t r hr; exact ⟨x, rfl, trivial⟩)
  exact ⟨xs, h1⟩
theorem trk_of {h : Hp} {r : List Lf} (t : Ty h trkSh r) : ∃ p : Trk × Lf, r = Trk.cells p ∧ Arr h p.2 1 (p.1.xs.map fl) := by
  obtain ⟨_, _, rfl, _, ⟨l, rows, rfl, hA, hr⟩, _, _, rfl, _, ⟨x, rfl, _⟩, _, _, rfl, _, ⟨y, rfl, _⟩, _, _, rfl, _, ⟨m, rfl⟩, _, _, rfl, _, ⟨s, rfl⟩, rfl⟩ := t
  obtain ⟨xs, rfl⟩ := fl_rows hr
  exact ⟨(⟨xs, x, y, m, s⟩, l), rfl, hA⟩
theorem lawAreTracks {S : Sys} [HasLAreTracks S] : LawHolds S 9 [(false, .sl 5 trkSh)] := by
  intro h cs hcs
  obtain ⟨c0, _, rfl, ⟨ls0, rfl, l, rows, rfl, hA, hrows⟩, rfl⟩ := hcs
  obtain ⟨ps, rfl, hI0⟩ := rows_map (Q := fun p : Trk × Lf => Arr h p.2 1 (p.1.xs.map fl)) fun r hr => trk_of (hrows r hr)
  have hI : In h Trk.xs ps := .of hI0
  clear hrows hI0
  refine law_of (F := L9) HasLAreTracks.f9 rfl ?_
  have hs := fun K lim => c_szTrackS (S := S) (K := K) (lim := lim) hA hI (b := 1048576) (by decide) (by decide)
  by_cases hsz : (1048576 : Int) < ps.length + szD Trk.xs ps
  · rw [if_pos hsz] at hs
    unfold L9
    dsimp only []
    repeat' (first | (simp (disch := first | omega | assumption | (simp only [List.length_set]; omega) | (simp [*] <;> fail) | assumption) [-Bool.decide_and, -Bool.decide_or, -Bool.not_and, -Bool.not_or, toNat_pred, toNat_succ, wrap64, wr_new, wr_new0, ok_if, ok_ifn, iadV_sl, makeV_int, decT, decF, over_at, *]) | (with_reducible refine Gd_split (fun hc => ?_) (fun hc => ?_) <;> (have hc2 := hc; try simp at hc2)) | (with_reducible refine Br_split (fun hc => ?_) (fun hc => ?_) <;> (have hc2 := hc; try simp at hc2)) | (with_reducible refine GdT_split (fun hc => ?_) (fun hc => ?_) <;> (have hc2 := hc; try simp at hc2)) | (with_reducible refine WT_alt ?_ ?_) | omega)
  · rw [if_neg hsz] at hs
    unfold L9
    dsimp only []
    repeat' (first | (simp (disch := first | omega | assumption | (simp only [List.length_set]; omega) | (simp [*] <;> fail) | assumption) [-Bool.decide_and, -Bool.decide_or, -Bool.not_and, -Bool.not_or, toNat_pred, toNat_succ, wrap64, wr_new, wr_new0, ok_if, ok_ifn, iadV_sl, makeV_int, decT, decF, over_at, *]) | (with_reducible refine Gd_split (fun hc => ?_) (fun hc => ?_) <;> (have hc2 := hc; try simp at hc2)) | (with_reducible refine Br_split (fun hc => ?_) (fun hc => ?_) <;> (have hc2 := hc; try simp at hc2)) | (with_reducible refine GdT_split (fun hc => ?_) (fun hc => ?_) <;> (have hc2 := hc; try simp at hc2)) | (with_reducible refine WT_alt ?_ ?_) | omega)
    refine c_toTrackS hA hI (by omega) (by omega) (Nat.le_refl _) fun l1 g1 qs1 hN1 hq1 => ?_
    have k1 := hN1.kept.1
    have c1 := fun K lim => c_specAreTracks (S := S) (K := K) (lim := lim) hN1.arr hN1.ins
    simp only [hq1] at c1
    repeat' (first | (simp (disch := first | omega | assumption | (simp only [List.length_set]; omega) | (simp [*] <;> fail) | assumption) [-Bool.decide_and, -Bool.decide_or, -Bool.not_and, -Bool.not_or, toNat_pred, toNat_succ, wrap64, wr_new, wr_new0, ok_if, ok_ifn, iadV_sl, makeV_int, decT, decF, over_at, *]) | (with_reducible refine Gd_split (fun hc => ?_) (fun hc => ?_) <;> (have hc2 := hc; try simp at hc2)) | (with_reducible refine Br_split (fun hc => ?_) (fun hc => ?_) <;> (have hc2 := hc; try simp at hc2)) | (with_reducible refine GdT_split (fun hc => ?_) (fun hc => ?_) <;> (have hc2 := hc; try simp at hc2)) | (with_reducible refine WT_alt ?_ ?_) | omega)
    refine c_toTrackS (hA.kept hN1.kept) (hI.kept hN1.kept) (by omega) (by omega) k1 fun l2 g2 qs2 hN2 hq2 => ?_
    have k2 := hN2.kept.1
    have c2 := fun K lim => c_implAreTracks (S := S) (K := K) (lim := lim) hN2.arr hN2.ins
    simp only [hq2] at c2
    generalize decide (areTrk (ps.map (·.1))) = ok at *
    repeat' (first | (simp (disch := first | omega | assumption | (simp only [List.length_set]; omega) | (simp [*] <;> fail) | assumption) [-Bool.decide_and, -Bool.decide_or, -Bool.not_and, -Bool.not_or, toNat_pred, toNat_succ, wrap64, wr_new, wr_new0, ok_if, ok_ifn, iadV_sl, makeV_int, decT, decF, over_at, *]) | (with_reducible refine Gd_split (fun hc => ?_) (fun hc => ?_) <;> (have hc2 := hc; try simp at hc2)) | (with_reducible refine Br_split (fun hc => ?_) (fun hc => ?_) <;> (have hc2 := hc; try simp at hc2)) | (with_reducible refine GdT_split (fun hc => ?_) (fun hc => ?_) <;> (have hc2 := hc; try simp at hc2)) | (with_reducible refine WT_alt ?_ ?_) | omega)
    have kk := hN1.kept.trans hN2.kept
    refine c_toTrackS (hA.kept kk) (hI.kept kk) (by omega) (by omega) (by omega) fun l3 g3 qs3 hN3 hq3 => ?_
    repeat' (first | (simp (disch := first | omega | assumption | (simp only [List.length_set]; omega) | (simp [*] <;> fail) | assumption) [-Bool.decide_and, -Bool.decide_or, -Bool.not_and, -Bool.not_or, toNat_pred, toNat_succ, wrap64, wr_new, wr_new0, ok_if, ok_ifn, iadV_sl, makeV_int, decT, decF, over_at, *, c_eqTrackS (hN2.arr.kept hN3.kept) (hN2.ins.kept hN3.kept) hN3.arr hN3.ins (hq3.trans hq2.symm)]) | (with_reducible refine Gd_split (fun hc => ?_) (fun hc => ?_) <;> (have hc2 := hc; try simp at hc2)) | (with_reducible refine Br_split (fun hc => ?_) (fun hc => ?_) <;> (have hc2 := hc; try simp at hc2)) | (with_reducible refine GdT_split (fun hc => ?_) (fun hc => ?_) <;> (have hc2 := hc; try simp at hc2)) | (with_reducible refine WT_alt ?_ ?_) | omega)
end Go.E
namespace Go.E.AreTracks
open Go Go.E
def pure : FuncId → Bool := fun f => List.elem f [3, 4, 5, 6, 7, 8, 9, 10, 11, 12, 13, 14, 15, 16, 19, 23, 25, 29, 33, 34, 36, 37, 38, 39, 40, 42, 43, 44, 45, 47, 48, 51, 52, 55, 56, 57, 59, 60, 65, 66, 68, 69, 70, 73, 76, 78, 79, 80, 81, 82, 85, 86, 87, 88, 89, 90, 91, 92, 93, 94, 95, 96, 97, 98, 100, 101, 102, 103, 104, 105, 106, 107, 109, 110, 111, 112, 113, 114, 115, 116, 117, 118, 120, 121, 123, 124, 125, 127, 128, 130, 131, 132, 133, 134, 135, 136, 137, 138, 139, 140, 142, 143, 144, 145, 146, 147, 148, 149, 150, 151, 152, 153, 154, 155, 156, 158, 160, 162, 169, 171, 172]
def funs : List (Nat × LFn) := [(76, L76), (86, L86), (90, L90), (127, L127), (66, L66), (68, L68), (70, L70), (72, L72), (77, L77), (130, L130), (37, L37), (21, L21), (23, L23), (24, L24), (25, L25), (93, L93), (44, L44), (46, L46), (48, L48), (97, L97), (99, L99), (102, L102), (45, L45), (47, L47), (98, L98), (100, L100), (101, L101), (111, L111), (9, L9)]
def Sy : Sys := sysOf funs
theorem lfn76 : lFn Go.Proofs.Try.prog pure Go.Proofs.Try.f76 = some L76 := by kernel_rfl
theorem lfn86 : lFn Go.Proofs.Try.prog pure Go.Proofs.Try.f86 = some L86 := by kernel_rfl
theorem lfn90 : lFn Go.Proofs.Try.prog pure Go.Proofs.Try.f90 = some L90 := by kernel_rfl
theorem lfn127 : lFn Go.Proofs.Try.prog pure Go.Proofs.Try.f127 = some L127 := by kernel_rfl
theorem lfn66 : lFn Go.Proofs.Try.prog pure Go.Proofs.Try.f66 = some L66 := by kernel_rfl
theorem lfn68 : lFn Go.Proofs.Try.prog pure Go.Proofs.Try.f68 = some L68 := by kernel_rfl
theorem lfn70 : lFn Go.Proofs.Try.prog pure Go.Proofs.Try.f70 = some L70 := by kernel_rfl
theorem lfn72 : lFn Go.Proofs.Try.prog pure Go.Proofs.Try.f72 = some L72 := by kernel_rfl
theorem lfn77 : lFn Go.Proofs.Try.prog pure Go.Proofs.Try.f77 = some L77 := by kernel_rfl
theorem lfn130 : lFn Go.Proofs.Try.prog pure Go.Proofs.Try.f130 = some L130 := by kernel_rfl
theorem lfn37 : lFn Go.Proofs.Try.prog pure Go.Proofs.Try.f37 = some L37 := by kernel_rfl
theorem lfn21 : lFn Go.Proofs.Try.prog pure Go.Proofs.Try.f21 = some L21 := by kernel_rfl
theorem lfn23 : lFn Go.Proofs.Try.prog pure Go.Proofs.Try.f23 = some L23 := by kernel_rfl
theorem lfn24 : lFn Go.Proofs.Try.prog pure Go.Proofs.Try.f24 = some L24 := by kernel_rfl
theorem lfn25 : lFn Go.Proofs.Try.prog pure Go.Proofs.Try.f25 = some L25 := by kernel_rfl
theorem lfn93 : lFn Go.Proofs.Try.prog pure Go.Proofs.Try.f93 = some L93 := by kernel_rfl
theorem lfn44 : lFn Go.Proofs.Try.prog pure Go.Proofs.Try.f44 = some L44 := by kernel_rfl
theorem lfn46 : lFn Go.Proofs.Try.prog pure Go.Proofs.Try.f46 = some L46 := by kernel_rfl
theorem lfn48 : lFn Go.Proofs.Try.prog pure Go.Proofs.Try.f48 = some L48 := by kernel_rfl
theorem lfn97 : lFn Go.Proofs.Try.prog pure Go.Proofs.Try.f97 = some L97 := by kernel_rfl
theorem lfn99 : lFn Go.Proofs.Try.prog pure Go.Proofs.Try.f99 = some L99 := by kernel_rfl
theorem lfn102 : lFn Go.Proofs.Try.prog pure Go.Proofs.Try.f102 = some L102 := by kernel_rfl
theorem lfn45 : lFn Go.Proofs.Try.prog pure Go.Proofs.Try.f45 = some L45 := by kernel_rfl
theorem lfn47 : lFn Go.Proofs.Try.prog pure Go.Proofs.Try.f47 = some L47 := by kernel_rfl
theorem lfn98 : lFn Go.Proofs.Try.prog pure Go.Proofs.Try.f98 = some L98 := by kernel_rfl
theorem lfn100 : lFn Go.Proofs.Try.prog pure Go.Proofs.Try.f100 = some L100 := by kernel_rfl
theorem lfn101 : lFn Go.Proofs.Try.prog pure Go.Proofs.Try.f101 = some L101 := by kernel_rfl
theorem lfn111 : lFn Go.Proofs.Try.prog pure Go.Proofs.Try.f111 = some L111 := by kernel_rfl
theorem lfn9 : lFn Go.Proofs.Try.prog pure Go.Proofs.Try.f9 = some L9 := by kernel_rfl
instance : HasA Sy := { f76 := rfl, f86 := rfl, f90 := rfl, f127 := rfl }
instance : HasP Sy := { f66 := rfl, f68 := rfl, f70 := rfl, f72 := rfl, f77 := rfl, f130 := rfl }
instance : HasSame Sy := { f37 := rfl }
instance : HasF Sy := { f21 := rfl, f23 := rfl, f24 := rfl, f25 := rfl }
instance : HasSz Sy := { f93 := rfl }
instance : HasDT Sy := { f44 := rfl, f46 := rfl, f48 := rfl, f97 := rfl, f99 := rfl, f102 := rfl }
instance : HasTk Sy := { f45 := rfl, f47 := rfl, f98 := rfl, f100 := rfl, f101 := rfl, f111 := rfl }
instance : HasLAreTracks Sy := { f9 := rfl }
theorem sysOK {B : Nat} {w0 : World} : SysOK Go.Proofs.Try.prog pure Sy B w0 := SysOK.of (by
  intro p hp
  simp only [funs, List.mem_cons, List.not_mem_nil, or_false] at hp
  rcases hp with rfl | rfl | rfl | rfl | rfl | rfl | rfl | rfl | rfl | rfl | rfl | rfl | rfl | rfl | rfl | rfl | rfl | rfl | rfl | rfl | rfl | rfl | rfl | rfl | rfl | rfl | rfl | rfl | rfl
  · exact ⟨_, Go.Proofs.Try.func76, lfn76⟩
  · exact ⟨_, Go.Proofs.Try.func86, lfn86⟩
  · exact ⟨_, Go.Proofs.Try.func90, lfn90⟩
  · exact ⟨_, Go.Proofs.Try.func127, lfn127⟩
  · exact ⟨_, Go.Proofs.Try.func66, lfn66⟩
  · exact ⟨_, Go.Proofs.Try.func68, lfn68⟩
  · exact ⟨_, Go.Proofs.Try.func70, lfn70⟩
  · exact ⟨_, Go.Proofs.Try.func72, lfn72⟩
  · exact ⟨_, Go.Proofs.Try.func77, lfn77⟩
  · exact ⟨_, Go.Proofs.Try.func130, lfn130⟩
  · exact ⟨_, Go.Proofs.Try.func37, lfn37⟩
  · exact ⟨_, Go.Proofs.Try.func21, lfn21⟩
  · exact ⟨_, Go.Proofs.Try.func23, lfn23⟩
  · exact ⟨_, Go.Proofs.Try.func24, lfn24⟩
  · exact ⟨_, Go.Proofs.Try.func25, lfn25⟩
  · exact ⟨_, Go.Proofs.Try.func93, lfn93⟩
  · exact ⟨_, Go.Proofs.Try.func44, lfn44⟩
  · exact ⟨_, Go.Proofs.Try.func46, lfn46⟩
  · exact ⟨_, Go.Proofs.Try.func48, lfn48⟩
  · exact ⟨_, Go.Proofs.Try.func97, lfn97⟩
  · exact ⟨_, Go.Proofs.Try.func99, lfn99⟩
  · exact ⟨_, Go.Proofs.Try.func102, lfn102⟩
  · exact ⟨_, Go.Proofs.Try.func45, lfn45⟩
  · exact ⟨_, Go.Proofs.Try.func47, lfn47⟩
  · exact ⟨_, Go.Proofs.Try.func98, lfn98⟩
  · exact ⟨_, Go.Proofs.Try.func100, lfn100⟩
  · exact ⟨_, Go.Proofs.Try.func101, lfn101⟩
  · exact ⟨_, Go.Proofs.Try.func111, lfn111⟩
  · exact ⟨_, Go.Proofs.Try.func9, lfn9⟩)

end Go.E.AreTracks
