/- The law of LaneAt: what the evaluator finds, and the row. -/
import Derived.Test.YtpjgmichaeiifaaMC
import Derived.Test.YtpjgmichaeiifaaMLa
import Derived.Test.YtpjgmichaeiifaaEE
import Derived.Test.YtpjgmichaeiifaaProg
set_option linter.unusedVariables false
set_option linter.unusedSimpArgs false
namespace Go.E
open Go
def L7 : LFn := ⟨2, (.seq (.reg [⟨(.some 4), (.mv (.c (.lf (.bool false)))), none⟩])
 (.seq (.reg [⟨(.some 5), (.mv (.c (.lf (.int .i64 1048576)))), none⟩])
 (.seq (.reg [⟨(.some 11), (.mv (.t 0)), none⟩, ⟨(.some 12), (.mv (.t 5)), none⟩, ⟨(.some 13), (.call true 33 [(.t 11), (.t 12)]), none⟩, ⟨(.some 5), (.mv (.t 13)), none⟩])
 (.seq (.seq (.reg [⟨(.some 14), (.mv (.t 5)), none⟩, ⟨(.some 15), (.bin .lss (.t 14) (.c (.lf (.int .i64 0)))), none⟩])
 (.cond (.t 15) (.seq (.reg [⟨(.some 4), (.mv (.c (.lf (.bool true)))), none⟩])
 .ret) .skip))
 (.seq (.reg [⟨(.some 17), (.mv (.t 0)), none⟩, ⟨(.some 18), (.call false 35 [(.t 17)]), none⟩, ⟨(.some 19), (.mv (.t 1)), none⟩, ⟨(.some 20), (.call true 34 [(.t 18), (.t 19)]), none⟩, ⟨(.some 16), (.mv (.t 20)), none⟩, ⟨(.some 21), (.ext (.t 16) 0), none⟩, ⟨(.some 22), (.ext (.t 16) 1), none⟩, ⟨(.some 6), (.mv (.t 21)), none⟩, ⟨(.some 7), (.mv (.t 22)), none⟩])
 (.seq (.reg [⟨(.some 23), (.mv (.t 0)), none⟩, ⟨(.some 24), (.call false 35 [(.t 23)]), none⟩, ⟨(.some 8), (.mv (.t 24)), none⟩])
 (.seq (.reg [⟨(.some 26), (.mv (.t 8)), none⟩, ⟨(.some 27), (.mv (.t 1)), none⟩, ⟨(.some 28), (.call true 36 [(.t 26), (.t 27)]), none⟩, ⟨(.some 25), (.mv (.t 28)), none⟩, ⟨(.some 29), (.ext (.t 25) 0), none⟩, ⟨(.some 30), (.ext (.t 25) 1), none⟩, ⟨(.some 9), (.mv (.t 29)), none⟩, ⟨(.some 10), (.mv (.t 30)), none⟩])
 (.seq (.seq (.reg [⟨(.some 31), (.mv (.t 9)), none⟩, ⟨(.some 32), (.toflt .f64 (.t 31)), none⟩, ⟨(.some 33), (.mv (.t 6)), none⟩, ⟨(.some 34), (.toflt .f64 (.t 33)), none⟩, ⟨(.some 35), (.call true 37 [(.t 32), (.t 34)]), none⟩, ⟨(.some 36), (.una .not (.t 35)), none⟩, ⟨(.some 37), (.mv (.t 36)), none⟩, ⟨(.some 38), (.mv (.t 10)), (.some (37, false))⟩, ⟨(.some 39), (.mv (.t 7)), (.some (37, false))⟩, ⟨(.some 40), (.beq true (.t 38) (.t 39)), (.some (37, false))⟩, ⟨(.some 41), (.pick (.t 37) (.c (.lf (.bool true))) (.t 40)), none⟩])
 (.cond (.t 41) (.seq (.reg [⟨(.some 4), (.mv (.c (.lf (.bool false)))), none⟩])
 .ret) .skip))
 (.seq (.seq (.reg [⟨(.some 42), (.mv (.t 8)), none⟩, ⟨(.some 43), (.mv (.t 0)), none⟩, ⟨(.some 44), (.call false 35 [(.t 43)]), none⟩, ⟨(.some 45), (.call true 38 [(.t 42), (.t 44)]), none⟩, ⟨(.some 46), (.una .not (.t 45)), none⟩])
 (.cond (.t 46) (.seq (.reg [⟨(.some 4), (.mv (.c (.lf (.bool false)))), none⟩])
 .ret) .skip))
 (.seq (.reg [⟨(.some 4), (.mv (.c (.lf (.bool true)))), none⟩])
 .ret)))))))))), [(.tmp 4)]⟩
class HasLLaneAt (S : Sys) : Prop extends HasC S, HasLa S where
  f7 : S.fs 7 = some L7
def ptSh : Sh := .cat 1 (.int .i64) (.cat 1 (.flt .f32) .emp)
theorem pt_of {h : Hp} {r : List Lf} (t : Ty h ptSh r) : ∃ p : Pt, r = p.cells ∧ True := by
  obtain ⟨l1, l2, rfl, _, ⟨x, rfl, _⟩, l3, l4, rfl, _, ⟨y, rfl, _, _⟩, rfl⟩ := t
  exact ⟨⟨x, y⟩, rfl, trivial⟩
theorem lawLaneAt {S : Sys} [HasLLaneAt S] : LawHolds S 7 [(false, .sl 2 ptSh), (false, .int .i64)] := by
  intro h cs hcs
  obtain ⟨c, _, rfl, ⟨ls, rfl, l, rows, rfl, hA, hrows⟩, c2, _, rfl, ⟨ls2, rfl, x, rfl, _⟩, rfl⟩ := hcs
  obtain ⟨ps, rfl, _⟩ := rows_map (Q := fun _ => True) fun r hr => pt_of (hrows r hr)
  refine law_of (F := L7) HasLLaneAt.f7 rfl ?_
  unfold L7
  dsimp only []
  repeat' (first | (simp (disch := first | omega | assumption | (simp [*] <;> fail) | assumption) [-Bool.decide_and, -Bool.decide_or, -Bool.not_and, -Bool.not_or, toNat_pred, toNat_succ, wrap64, wr_new, wr_new0, ok_if, ok_ifn, iadV_sl, makeV_int, decT, decF, over_at, *, c_szPointS hA]) | (with_reducible refine Gd_split (fun hc => ?_) (fun hc => ?_) <;> (have hc2 := hc; try simp at hc2)) | (with_reducible refine Br_split (fun hc => ?_) (fun hc => ?_) <;> (have hc2 := hc; try simp at hc2)) | (with_reducible refine GdT_split (fun hc => ?_) (fun hc => ?_) <;> (have hc2 := hc; try simp at hc2)) | (with_reducible refine WT_alt ?_ ?_) | omega)
  have hn : ps.length ≤ 16777216 := by split at hc2 <;> omega
  refine c_toPointS hA hn (Nat.le_refl _) fun l1 g1 hN1 => ?_
  repeat' (first | (simp (disch := first | omega | assumption | (simp [*] <;> fail) | assumption) [-Bool.decide_and, -Bool.decide_or, -Bool.not_and, -Bool.not_or, toNat_pred, toNat_succ, wrap64, wr_new, wr_new0, ok_if, ok_ifn, iadV_sl, makeV_int, decT, decF, over_at, *, c_specLaneAt hN1.arr, laneAtT]) | (with_reducible refine Gd_split (fun hc => ?_) (fun hc => ?_) <;> (have hc2 := hc; try simp at hc2)) | (with_reducible refine Br_split (fun hc => ?_) (fun hc => ?_) <;> (have hc2 := hc; try simp at hc2)) | (with_reducible refine GdT_split (fun hc => ?_) (fun hc => ?_) <;> (have hc2 := hc; try simp at hc2)) | (with_reducible refine WT_alt ?_ ?_) | omega)
  replace hA := hA.kept hN1.kept
  have k1 := hN1.kept.1
  refine c_toPointS hA hn k1 fun l2 g2 hN2 => ?_
  repeat' (first | (simp (disch := first | omega | assumption | (simp [*] <;> fail) | assumption) [-Bool.decide_and, -Bool.decide_or, -Bool.not_and, -Bool.not_or, toNat_pred, toNat_succ, wrap64, wr_new, wr_new0, ok_if, ok_ifn, iadV_sl, makeV_int, decT, decF, over_at, *, c_LaneAt hN2.arr, laneAtT]) | (with_reducible refine Gd_split (fun hc => ?_) (fun hc => ?_) <;> (have hc2 := hc; try simp at hc2)) | (with_reducible refine Br_split (fun hc => ?_) (fun hc => ?_) <;> (have hc2 := hc; try simp at hc2)) | (with_reducible refine GdT_split (fun hc => ?_) (fun hc => ?_) <;> (have hc2 := hc; try simp at hc2)) | (with_reducible refine WT_alt ?_ ?_) | omega)
  replace hA := hA.kept hN2.kept
  have k2 := hN2.kept.1
  refine c_toPointS hA hn (by omega) fun l3 g3 hN3 => ?_
  repeat' (first | (simp (disch := first | omega | assumption | (simp [*] <;> fail) | assumption) [-Bool.decide_and, -Bool.decide_or, -Bool.not_and, -Bool.not_or, toNat_pred, toNat_succ, wrap64, wr_new, wr_new0, ok_if, ok_ifn, iadV_sl, makeV_int, decT, decF, over_at, *, c_eqPointS (hN2.arr.kept hN3.kept) hN3.arr]) | (with_reducible refine Gd_split (fun hc => ?_) (fun hc => ?_) <;> (have hc2 := hc; try simp at hc2)) | (with_reducible refine Br_split (fun hc => ?_) (fun hc => ?_) <;> (have hc2 := hc; try simp at hc2)) | (with_reducible refine GdT_split (fun hc => ?_) (fun hc => ?_) <;> (have hc2 := hc; try simp at hc2)) | (with_reducible refine WT_alt ?_ ?_) | omega)
end Go.E
namespace Go.E.LaneAt
open Go Go.E
def pure : FuncId → Bool := fun f => List.elem f [3, 4, 5, 6, 7, 8, 9, 10, 11, 12, 13, 14, 15, 16, 19, 23, 25, 29, 33, 34, 36, 37, 38, 39, 40, 42, 43, 44, 45, 47, 48, 51, 52, 55, 56, 57, 59, 60, 65, 66, 68, 69, 70, 73, 76, 78, 79, 80, 81, 82, 85, 86, 87, 88, 89, 90, 91, 92, 93, 94, 95, 96, 97, 98, 100, 101, 102, 103, 104, 105, 106, 107, 109, 110, 111, 112, 113, 114, 115, 116, 117, 118, 120, 121, 123, 124, 125, 127, 128, 130, 131, 132, 133, 134, 135, 136, 137, 138, 139, 140, 142, 143, 144, 145, 146, 147, 148, 149, 150, 151, 152, 153, 154, 155, 156, 158, 160, 162, 169, 171, 172]
def funs : List (Nat × LFn) := [(76, L76), (86, L86), (90, L90), (127, L127), (85, L85), (89, L89), (82, L82), (34, L34), (36, L36), (87, L87), (91, L91), (37, L37), (33, L33), (35, L35), (38, L38), (88, L88), (92, L92), (7, L7)]
def Sy : Sys := sysOf funs
theorem lfn76 : lFn Go.Proofs.Try.prog pure Go.Proofs.Try.f76 = some L76 := by kernel_rfl
theorem lfn86 : lFn Go.Proofs.Try.prog pure Go.Proofs.Try.f86 = some L86 := by kernel_rfl
theorem lfn90 : lFn Go.Proofs.Try.prog pure Go.Proofs.Try.f90 = some L90 := by kernel_rfl
theorem lfn127 : lFn Go.Proofs.Try.prog pure Go.Proofs.Try.f127 = some L127 := by kernel_rfl
theorem lfn85 : lFn Go.Proofs.Try.prog pure Go.Proofs.Try.f85 = some L85 := by kernel_rfl
theorem lfn89 : lFn Go.Proofs.Try.prog pure Go.Proofs.Try.f89 = some L89 := by kernel_rfl
theorem lfn82 : lFn Go.Proofs.Try.prog pure Go.Proofs.Try.f82 = some L82 := by kernel_rfl
theorem lfn34 : lFn Go.Proofs.Try.prog pure Go.Proofs.Try.f34 = some L34 := by kernel_rfl
theorem lfn36 : lFn Go.Proofs.Try.prog pure Go.Proofs.Try.f36 = some L36 := by kernel_rfl
theorem lfn87 : lFn Go.Proofs.Try.prog pure Go.Proofs.Try.f87 = some L87 := by kernel_rfl
theorem lfn91 : lFn Go.Proofs.Try.prog pure Go.Proofs.Try.f91 = some L91 := by kernel_rfl
theorem lfn37 : lFn Go.Proofs.Try.prog pure Go.Proofs.Try.f37 = some L37 := by kernel_rfl
theorem lfn33 : lFn Go.Proofs.Try.prog pure Go.Proofs.Try.f33 = some L33 := by kernel_rfl
theorem lfn35 : lFn Go.Proofs.Try.prog pure Go.Proofs.Try.f35 = some L35 := by kernel_rfl
theorem lfn38 : lFn Go.Proofs.Try.prog pure Go.Proofs.Try.f38 = some L38 := by kernel_rfl
theorem lfn88 : lFn Go.Proofs.Try.prog pure Go.Proofs.Try.f88 = some L88 := by kernel_rfl
theorem lfn92 : lFn Go.Proofs.Try.prog pure Go.Proofs.Try.f92 = some L92 := by kernel_rfl
theorem lfn7 : lFn Go.Proofs.Try.prog pure Go.Proofs.Try.f7 = some L7 := by kernel_rfl
instance : HasA Sy := { f76 := rfl, f86 := rfl, f90 := rfl, f127 := rfl }
instance : HasB Sy := { f85 := rfl, f89 := rfl }
instance : HasShr Sy := { f82 := rfl }
instance : HasLa Sy := { f34 := rfl, f36 := rfl, f87 := rfl, f91 := rfl }
instance : HasSame Sy := { f37 := rfl }
instance : HasC Sy := { f33 := rfl, f35 := rfl, f38 := rfl, f88 := rfl, f92 := rfl }
instance : HasLLaneAt Sy := { f7 := rfl }
theorem sysOK {B : Nat} {w0 : World} : SysOK Go.Proofs.Try.prog pure Sy B w0 := SysOK.of (by
  intro p hp
  simp only [funs, List.mem_cons, List.not_mem_nil, or_false] at hp
  rcases hp with rfl | rfl | rfl | rfl | rfl | rfl | rfl | rfl | rfl | rfl | rfl | rfl | rfl | rfl | rfl | rfl | rfl | rfl
  · exact ⟨_, Go.Proofs.Try.func76, lfn76⟩
  · exact ⟨_, Go.Proofs.Try.func86, lfn86⟩
  · exact ⟨_, Go.Proofs.Try.func90, lfn90⟩
  · exact ⟨_, Go.Proofs.Try.func127, lfn127⟩
  · exact ⟨_, Go.Proofs.Try.func85, lfn85⟩
  · exact ⟨_, Go.Proofs.Try.func89, lfn89⟩
  · exact ⟨_, Go.Proofs.Try.func82, lfn82⟩
  · exact ⟨_, Go.Proofs.Try.func34, lfn34⟩
  · exact ⟨_, Go.Proofs.Try.func36, lfn36⟩
  · exact ⟨_, Go.Proofs.Try.func87, lfn87⟩
  · exact ⟨_, Go.Proofs.Try.func91, lfn91⟩
  · exact ⟨_, Go.Proofs.Try.func37, lfn37⟩
  · exact ⟨_, Go.Proofs.Try.func33, lfn33⟩
  · exact ⟨_, Go.Proofs.Try.func35, lfn35⟩
  · exact ⟨_, Go.Proofs.Try.func38, lfn38⟩
  · exact ⟨_, Go.Proofs.Try.func88, lfn88⟩
  · exact ⟨_, Go.Proofs.Try.func92, lfn92⟩
  · exact ⟨_, Go.Proofs.Try.func7, lfn7⟩)

end Go.E.LaneAt
