/- The law of ValidEffect: what the evaluator finds. -/
import Derived.Test.YtpjgmichaeiifaaMEf
import Derived.Test.YtpjgmichaeiifaaMDs
import Derived.Test.YtpjgmichaeiifaaProg
set_option linter.unusedVariables false
set_option linter.unusedSimpArgs false
namespace Go.E
open Go
def L8 : LFn := ⟨1, (.seq (.reg [⟨(.some 1), (.box 58 (.t 0)), none⟩, ⟨(.some 2), (.mv (.c (.lf (.bool false)))), none⟩])
 (.seq (.reg [⟨(.some 3), (.mv (.c (.lf (.int .i64 1048576)))), none⟩])
 (.seq (.reg [⟨(.some 7), (.load true 3 (.t 1)), none⟩, ⟨(.some 8), (.mv (.t 3)), none⟩, ⟨(.some 9), (.call true 39 [(.t 7), (.t 8)]), none⟩, ⟨(.some 3), (.mv (.t 9)), none⟩])
 (.seq (.seq (.reg [⟨(.some 10), (.mv (.t 3)), none⟩, ⟨(.some 11), (.bin .lss (.t 10) (.c (.lf (.int .i64 0)))), none⟩])
 (.cond (.t 11) (.seq (.reg [⟨(.some 2), (.mv (.c (.lf (.bool true)))), none⟩])
 .ret) .skip))
 (.seq (.reg [⟨(.some 12), (.load true 3 (.t 1)), none⟩, ⟨(.some 13), (.call false 41 [(.t 12)]), none⟩, ⟨(.some 14), (.call true 40 [(.t 13)]), none⟩, ⟨(.some 4), (.mv (.t 14)), none⟩])
 (.seq (.reg [⟨(.some 15), (.load true 3 (.t 1)), none⟩, ⟨(.some 16), (.call false 41 [(.t 15)]), none⟩, ⟨(.some 5), (.alloc 61 [(.int .i64 0), (.int .i64 0), .nils]), none⟩, ⟨none, (.store 3 (.t 5) (.t 16)), none⟩])
 (.seq (.reg [⟨(.some 17), (.load true 3 (.t 5)), none⟩, ⟨(.some 18), (.call true 42 [(.t 17)]), none⟩, ⟨(.some 6), (.mv (.t 18)), none⟩])
 (.seq (.seq (.reg [⟨(.some 19), (.mv (.t 6)), none⟩, ⟨(.some 20), (.mv (.t 4)), none⟩, ⟨(.some 21), (.beq true (.t 19) (.t 20)), none⟩])
 (.cond (.t 21) (.seq (.reg [⟨(.some 2), (.mv (.c (.lf (.bool false)))), none⟩])
 .ret) .skip))
 (.seq (.seq (.any (.op ⟨(.some 23), (.load true 3 (.t 1)), none⟩ (.alt (.op ⟨(.some 22), (.load true 3 (.t 5)), none⟩ (.op ⟨(.some 24), (.call false 41 [(.t 23)]), none⟩ (.op ⟨(.some 25), (.call true 43 [(.t 22), (.t 24)]), none⟩ (.op ⟨(.some 26), (.una .not (.t 25)), none⟩ .nil)))) (.op ⟨(.some 24), (.call false 41 [(.t 23)]), none⟩ (.op ⟨(.some 22), (.load true 3 (.t 5)), none⟩ (.op ⟨(.some 25), (.call true 43 [(.t 22), (.t 24)]), none⟩ (.op ⟨(.some 26), (.una .not (.t 25)), none⟩ .nil)))))))
 (.cond (.t 26) (.seq (.reg [⟨(.some 2), (.mv (.c (.lf (.bool false)))), none⟩])
 .ret) .skip))
 (.seq (.reg [⟨(.some 2), (.mv (.c (.lf (.bool true)))), none⟩])
 .ret)))))))))), [(.tmp 2)]⟩
class HasLValidEffect (S : Sys) : Prop extends HasEf S, HasDE S where
  f8 : S.fs 8 = some L8
set_option maxHeartbeats 1000000 in
theorem lawValidEffect {S : Sys} [HasLValidEffect S] : LawHolds S 8 [(true, effSh)] := by
  intro h cs hcs
  obtain ⟨c0, _, rfl, ⟨ls0, rfl, t0⟩, rfl⟩ := hcs
  obtain ⟨⟨⟨k, n, xs⟩, l⟩, rfl, hA, hx⟩ := eff_of t0
  simp only at hA
  refine law_of (F := L8) HasLValidEffect.f8 rfl ?_
  have hs := fun t K lim => c_szEffect (S := S) (K := K) (h := h ++ t) (lim := lim) (x := k) (y := n) (hA.app (t := t)) (b := 1048576) (by decide) (by decide)
  have hb := hA.bound
  by_cases hsz : (1048576 : Int) < xs.length
  · simp only [if_pos hsz] at hs
    unfold L8
    dsimp only []
    repeat' (first | (simp (disch := first | omega | assumption | (simp only [List.length_set]; omega) | (simp [*] <;> fail) | assumption) [-Bool.decide_and, -Bool.decide_or, -Bool.not_and, -Bool.not_or, toNat_pred, toNat_succ, wrap64, wr_new, wr_new0, ok_if, ok_ifn, iadV_sl, makeV_int, decT, decF, over_at, *, Eff.cells]) | (with_reducible refine Gd_split (fun hc => ?_) (fun hc => ?_) <;> (have hc2 := hc; try simp at hc2)) | (with_reducible refine Br_split (fun hc => ?_) (fun hc => ?_) <;> (have hc2 := hc; try simp at hc2)) | (with_reducible refine GdT_split (fun hc => ?_) (fun hc => ?_) <;> (have hc2 := hc; try simp at hc2)) | (with_reducible refine WT_alt ?_ ?_) | omega)
  · simp only [if_neg hsz] at hs
    unfold L8
    dsimp only []
    repeat' (first | (simp (disch := first | omega | assumption | (simp only [List.length_set]; omega) | (simp [*] <;> fail) | assumption) [-Bool.decide_and, -Bool.decide_or, -Bool.not_and, -Bool.not_or, toNat_pred, toNat_succ, wrap64, wr_new, wr_new0, ok_if, ok_ifn, iadV_sl, makeV_int, decT, decF, over_at, *, Eff.cells]) | (with_reducible refine Gd_split (fun hc => ?_) (fun hc => ?_) <;> (have hc2 := hc; try simp at hc2)) | (with_reducible refine Br_split (fun hc => ?_) (fun hc => ?_) <;> (have hc2 := hc; try simp at hc2)) | (with_reducible refine GdT_split (fun hc => ?_) (fun hc => ?_) <;> (have hc2 := hc; try simp at hc2)) | (with_reducible refine WT_alt ?_ ?_) | omega)
    refine c_toEffect hA.app (by omega) (by simp) fun l1 g1 hN1 => ?_
    have c1 := fun K lim => c_specValidEffect (S := S) (K := K) (lim := lim) (e := ⟨k, n, xs⟩) hN1.arr
    obtain ⟨t1, rfl⟩ := hN1.kept.split
    rw [List.append_assoc] at hN1 c1
    simp only [List.cons_append, List.nil_append] at hN1 c1
    repeat' (first | (simp (disch := first | omega | assumption | (simp only [List.length_set]; omega) | (simp [*] <;> fail) | assumption) [-Bool.decide_and, -Bool.decide_or, -Bool.not_and, -Bool.not_or, toNat_pred, toNat_succ, wrap64, wr_new, wr_new0, ok_if, ok_ifn, iadV_sl, makeV_int, decT, decF, over_at, *, Eff.cells]) | (with_reducible refine Gd_split (fun hc => ?_) (fun hc => ?_) <;> (have hc2 := hc; try simp at hc2)) | (with_reducible refine Br_split (fun hc => ?_) (fun hc => ?_) <;> (have hc2 := hc; try simp at hc2)) | (with_reducible refine GdT_split (fun hc => ?_) (fun hc => ?_) <;> (have hc2 := hc; try simp at hc2)) | (with_reducible refine WT_alt ?_ ?_) | omega)
    refine c_toEffect hA.app (by omega) (by simp) fun l2 g2 hN2 => ?_
    obtain ⟨t2, rfl⟩ := hN2.kept.split
    have hA2 := hN2.arr
    have c2 := fun t K lim => c_implValidEffect (S := S) (K := K) (lim := lim) (e := ⟨k, n, xs⟩) (hA2.app (t := t))
    generalize decide (effOk ⟨k, n, xs⟩) = ok at *
    simp only [List.append_assoc, List.cons_append, List.nil_append] at hA2 c2 ⊢
    repeat' (first | (simp (disch := first | omega | assumption | (simp only [List.length_set]; omega) | (simp [*] <;> fail) | assumption) [-Bool.decide_and, -Bool.decide_or, -Bool.not_and, -Bool.not_or, toNat_pred, toNat_succ, wrap64, wr_new, wr_new0, ok_if, ok_ifn, iadV_sl, makeV_int, decT, decF, over_at, *, Eff.cells]) | (with_reducible refine Gd_split (fun hc => ?_) (fun hc => ?_) <;> (have hc2 := hc; try simp at hc2)) | (with_reducible refine Br_split (fun hc => ?_) (fun hc => ?_) <;> (have hc2 := hc; try simp at hc2)) | (with_reducible refine GdT_split (fun hc => ?_) (fun hc => ?_) <;> (have hc2 := hc; try simp at hc2)) | (with_reducible refine WT_alt ?_ ?_) | omega)
    all_goals (
      have e2 := hA2.app (t := [⟨[.int .i64 k, .int .i64 n, l2], .own 61 1⟩])
      simp only [List.append_assoc, List.cons_append, List.nil_append] at e2
      refine c_toEffect hA.app (by omega) (by simp) fun l3 g3 hN3 => ?_
      replace e2 := e2.kept hN3.kept
      have e3 := hN3.arr
      obtain ⟨t3, rfl⟩ := hN3.kept.split
      simp only [List.append_assoc, List.cons_append, List.nil_append] at e2 e3 ⊢
      repeat' (first | (simp (disch := first | omega | assumption | (simp only [List.length_set]; omega) | (simp [*] <;> fail) | assumption) [-Bool.decide_and, -Bool.decide_or, -Bool.not_and, -Bool.not_or, toNat_pred, toNat_succ, wrap64, wr_new, wr_new0, ok_if, ok_ifn, iadV_sl, makeV_int, decT, decF, over_at, *, c_eqEffect e2 e3]) | (with_reducible refine Gd_split (fun hc => ?_) (fun hc => ?_) <;> (have hc2 := hc; try simp at hc2)) | (with_reducible refine Br_split (fun hc => ?_) (fun hc => ?_) <;> (have hc2 := hc; try simp at hc2)) | (with_reducible refine GdT_split (fun hc => ?_) (fun hc => ?_) <;> (have hc2 := hc; try simp at hc2)) | (with_reducible refine WT_alt ?_ ?_) | omega))
end Go.E
namespace Go.E.ValidEffect
open Go Go.E
def pure : FuncId → Bool := fun f => List.elem f [3, 4, 5, 6, 7, 8, 9, 10, 11, 12, 13, 14, 15, 16, 19, 23, 25, 29, 33, 34, 36, 37, 38, 39, 40, 42, 43, 44, 45, 47, 48, 51, 52, 55, 56, 57, 59, 60, 65, 66, 68, 69, 70, 73, 76, 78, 79, 80, 81, 82, 85, 86, 87, 88, 89, 90, 91, 92, 93, 94, 95, 96, 97, 98, 100, 101, 102, 103, 104, 105, 106, 107, 109, 110, 111, 112, 113, 114, 115, 116, 117, 118, 120, 121, 123, 124, 125, 127, 128, 130, 131, 132, 133, 134, 135, 136, 137, 138, 139, 140, 142, 143, 144, 145, 146, 147, 148, 149, 150, 151, 152, 153, 154, 155, 156, 158, 160, 162, 169, 171, 172]
def funs : List (Nat × LFn) := [(76, L76), (86, L86), (90, L90), (127, L127), (37, L37), (21, L21), (23, L23), (24, L24), (25, L25), (93, L93), (39, L39), (41, L41), (43, L43), (40, L40), (42, L42), (94, L94), (95, L95), (96, L96), (124, L124), (125, L125), (131, L131), (132, L132), (8, L8)]
def Sy : Sys := sysOf funs
theorem lfn76 : lFn Go.Proofs.Try.prog pure Go.Proofs.Try.f76 = some L76 := by kernel_rfl
theorem lfn86 : lFn Go.Proofs.Try.prog pure Go.Proofs.Try.f86 = some L86 := by kernel_rfl
theorem lfn90 : lFn Go.Proofs.Try.prog pure Go.Proofs.Try.f90 = some L90 := by kernel_rfl
theorem lfn127 : lFn Go.Proofs.Try.prog pure Go.Proofs.Try.f127 = some L127 := by kernel_rfl
theorem lfn37 : lFn Go.Proofs.Try.prog pure Go.Proofs.Try.f37 = some L37 := by kernel_rfl
theorem lfn21 : lFn Go.Proofs.Try.prog pure Go.Proofs.Try.f21 = some L21 := by kernel_rfl
theorem lfn23 : lFn Go.Proofs.Try.prog pure Go.Proofs.Try.f23 = some L23 := by kernel_rfl
theorem lfn24 : lFn Go.Proofs.Try.prog pure Go.Proofs.Try.f24 = some L24 := by kernel_rfl
theorem lfn25 : lFn Go.Proofs.Try.prog pure Go.Proofs.Try.f25 = some L25 := by kernel_rfl
theorem lfn93 : lFn Go.Proofs.Try.prog pure Go.Proofs.Try.f93 = some L93 := by kernel_rfl
theorem lfn39 : lFn Go.Proofs.Try.prog pure Go.Proofs.Try.f39 = some L39 := by kernel_rfl
theorem lfn41 : lFn Go.Proofs.Try.prog pure Go.Proofs.Try.f41 = some L41 := by kernel_rfl
theorem lfn43 : lFn Go.Proofs.Try.prog pure Go.Proofs.Try.f43 = some L43 := by kernel_rfl
theorem lfn40 : lFn Go.Proofs.Try.prog pure Go.Proofs.Try.f40 = some L40 := by kernel_rfl
theorem lfn42 : lFn Go.Proofs.Try.prog pure Go.Proofs.Try.f42 = some L42 := by kernel_rfl
theorem lfn94 : lFn Go.Proofs.Try.prog pure Go.Proofs.Try.f94 = some L94 := by kernel_rfl
theorem lfn95 : lFn Go.Proofs.Try.prog pure Go.Proofs.Try.f95 = some L95 := by kernel_rfl
theorem lfn96 : lFn Go.Proofs.Try.prog pure Go.Proofs.Try.f96 = some L96 := by kernel_rfl
theorem lfn124 : lFn Go.Proofs.Try.prog pure Go.Proofs.Try.f124 = some L124 := by kernel_rfl
theorem lfn125 : lFn Go.Proofs.Try.prog pure Go.Proofs.Try.f125 = some L125 := by kernel_rfl
theorem lfn131 : lFn Go.Proofs.Try.prog pure Go.Proofs.Try.f131 = some L131 := by kernel_rfl
theorem lfn132 : lFn Go.Proofs.Try.prog pure Go.Proofs.Try.f132 = some L132 := by kernel_rfl
theorem lfn8 : lFn Go.Proofs.Try.prog pure Go.Proofs.Try.f8 = some L8 := by kernel_rfl
instance : HasA Sy := { f76 := rfl, f86 := rfl, f90 := rfl, f127 := rfl }
instance : HasSame Sy := { f37 := rfl }
instance : HasF Sy := { f21 := rfl, f23 := rfl, f24 := rfl, f25 := rfl }
instance : HasSz Sy := { f93 := rfl }
instance : HasDE Sy := { f39 := rfl, f41 := rfl, f43 := rfl }
instance : HasEf Sy := { f40 := rfl, f42 := rfl, f94 := rfl, f95 := rfl, f96 := rfl, f124 := rfl, f125 := rfl, f131 := rfl, f132 := rfl }
instance : HasLValidEffect Sy := { f8 := rfl }
theorem sysOK {B : Nat} {w0 : World} : SysOK Go.Proofs.Try.prog pure Sy B w0 := SysOK.of (by
  intro p hp
  simp only [funs, List.mem_cons, List.not_mem_nil, or_false] at hp
  rcases hp with rfl | rfl | rfl | rfl | rfl | rfl | rfl | rfl | rfl | rfl | rfl | rfl | rfl | rfl | rfl | rfl | rfl | rfl | rfl | rfl | rfl | rfl | rfl
  · exact ⟨_, Go.Proofs.Try.func76, lfn76⟩
  · exact ⟨_, Go.Proofs.Try.func86, lfn86⟩
  · exact ⟨_, Go.Proofs.Try.func90, lfn90⟩
  · exact ⟨_, Go.Proofs.Try.func127, lfn127⟩
  · exact ⟨_, Go.Proofs.Try.func37, lfn37⟩
  · exact ⟨_, Go.Proofs.Try.func21, lfn21⟩
  · exact ⟨_, Go.Proofs.Try.func23, lfn23⟩
  · exact ⟨_, Go.Proofs.Try.func24, lfn24⟩
  · exact ⟨_, Go.Proofs.Try.func25, lfn25⟩
  · exact ⟨_, Go.Proofs.Try.func93, lfn93⟩
  · exact ⟨_, Go.Proofs.Try.func39, lfn39⟩
  · exact ⟨_, Go.Proofs.Try.func41, lfn41⟩
  · exact ⟨_, Go.Proofs.Try.func43, lfn43⟩
  · exact ⟨_, Go.Proofs.Try.func40, lfn40⟩
  · exact ⟨_, Go.Proofs.Try.func42, lfn42⟩
  · exact ⟨_, Go.Proofs.Try.func94, lfn94⟩
  · exact ⟨_, Go.Proofs.Try.func95, lfn95⟩
  · exact ⟨_, Go.Proofs.Try.func96, lfn96⟩
  · exact ⟨_, Go.Proofs.Try.func124, lfn124⟩
  · exact ⟨_, Go.Proofs.Try.func125, lfn125⟩
  · exact ⟨_, Go.Proofs.Try.func131, lfn131⟩
  · exact ⟨_, Go.Proofs.Try.func132, lfn132⟩
  · exact ⟨_, Go.Proofs.Try.func8, lfn8⟩)

end Go.E.ValidEffect
