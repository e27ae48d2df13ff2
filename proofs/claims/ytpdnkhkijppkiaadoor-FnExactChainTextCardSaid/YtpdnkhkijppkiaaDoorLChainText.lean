/- The law of ChainText: what the evaluator finds. -/
import Derived.Test.YtpdnkhkijppkiaaDoorMCx
import Derived.Test.YtpdnkhkijppkiaaDoorMDs
import Derived.Test.YtpdnkhkijppkiaaDoorProg
set_option linter.unusedVariables false
set_option linter.unusedSimpArgs false
namespace Go.E
open Go
def L3 : LFn := ⟨1, (.seq (.reg [⟨(.some 2), (.mv (.c (.lf (.bool false)))), none⟩])
 (.seq (.reg [⟨(.some 3), (.mv (.c (.lf (.int .i64 1048576)))), none⟩])
 (.seq (.reg [⟨(.some 9), (.mv (.t 0)), none⟩, ⟨(.some 10), (.mv (.t 3)), none⟩, ⟨(.some 11), (.call true 4 [(.t 9), (.t 10)]), none⟩, ⟨(.some 3), (.mv (.t 11)), none⟩])
 (.seq (.seq (.reg [⟨(.some 12), (.mv (.t 3)), none⟩, ⟨(.some 13), (.bin .lss (.t 12) (.c (.lf (.int .i64 0)))), none⟩])
 (.cond (.t 13) (.seq (.reg [⟨(.some 2), (.mv (.c (.lf (.bool true)))), none⟩])
 .ret) .skip))
 (.seq (.reg [⟨(.some 15), (.mv (.t 0)), none⟩, ⟨(.some 16), (.call false 6 [(.t 15)]), none⟩, ⟨(.some 17), (.call true 5 [(.t 16)]), none⟩, ⟨(.some 14), (.mv (.t 17)), none⟩, ⟨(.some 18), (.ext (.t 14) 0), none⟩, ⟨(.some 19), (.ext (.t 14) 1), none⟩, ⟨(.some 4), (.mv (.t 18)), none⟩, ⟨(.some 5), (.mv (.t 19)), none⟩])
 (.seq (.reg [⟨(.some 20), (.mv (.t 0)), none⟩, ⟨(.some 21), (.call false 6 [(.t 20)]), none⟩, ⟨(.some 6), (.mv (.t 21)), none⟩])
 (.seq (.reg [⟨(.some 23), (.mv (.t 6)), none⟩, ⟨(.some 24), (.call true 7 [(.t 23)]), none⟩, ⟨(.some 22), (.mv (.t 24)), none⟩, ⟨(.some 25), (.ext (.t 22) 0), none⟩, ⟨(.some 26), (.ext (.t 22) 1), none⟩, ⟨(.some 7), (.mv (.t 25)), none⟩, ⟨(.some 8), (.mv (.t 26)), none⟩])
 (.seq (.seq (.reg [⟨(.some 27), (.mv (.t 7)), none⟩, ⟨(.some 28), (.mv (.t 4)), none⟩, ⟨(.some 29), (.bin .neq (.t 27) (.t 28)), none⟩, ⟨(.some 30), (.mv (.t 29)), none⟩, ⟨(.some 31), (.mv (.t 8)), (.some (30, false))⟩, ⟨(.some 32), (.mv (.t 5)), (.some (30, false))⟩, ⟨(.some 33), (.beq true (.t 31) (.t 32)), (.some (30, false))⟩, ⟨(.some 34), (.pick (.t 30) (.c (.lf (.bool true))) (.t 33)), none⟩])
 (.cond (.t 34) (.seq (.reg [⟨(.some 2), (.mv (.c (.lf (.bool false)))), none⟩])
 .ret) .skip))
 (.seq (.seq (.reg [⟨(.some 35), (.mv (.t 6)), none⟩, ⟨(.some 36), (.mv (.t 0)), none⟩, ⟨(.some 37), (.call false 6 [(.t 36)]), none⟩, ⟨(.some 38), (.call true 8 [(.t 35), (.t 37)]), none⟩, ⟨(.some 39), (.una .not (.t 38)), none⟩])
 (.cond (.t 39) (.seq (.reg [⟨(.some 2), (.mv (.c (.lf (.bool false)))), none⟩])
 .ret) .skip))
 (.seq (.reg [⟨(.some 2), (.mv (.c (.lf (.bool true)))), none⟩])
 .ret)))))))))), [(.tmp 2)]⟩
class HasLChainText (S : Sys) : Prop extends HasCx S, HasDE S where
  f3 : S.fs 3 = some L3
theorem lawChainText {S : Sys} [HasLChainText S] [HasJo S] : LawHolds S 3 [(false, .sl 3 effSh)] := by
  intro h cs hcs
  obtain ⟨c0, _, rfl, ⟨ls0, rfl, l, rows, rfl, hA, hrows⟩, rfl⟩ := hcs
  obtain ⟨ps, rfl, hI, hcf⟩ := effs_of hrows
  clear hrows
  refine law_of (F := L3) HasLChainText.f3 rfl ?_
  have hs := fun K lim => c_szEffectS (S := S) (K := K) (lim := lim) hA hI (b := 1048576) (by decide) (by decide)
  by_cases hsz : (1048576 : Int) < ps.length + szD Eff.nums ps
  · rw [if_pos hsz] at hs
    unfold L3
    dsimp only []
    repeat' (first | (simp (disch := first | omega | assumption | (simp only [List.length_set]; omega) | (simp [*] <;> fail) | assumption) [-Bool.decide_and, -Bool.decide_or, -Bool.not_and, -Bool.not_or, toNat_pred, toNat_succ, wrap64, wr_new, wr_new0, ok_if, ok_ifn, iadV_sl, makeV_int, decT, decF, over_at, *]) | (with_reducible refine Gd_split (fun hc => ?_) (fun hc => ?_) <;> (have hc2 := hc; try simp at hc2)) | (with_reducible refine Br_split (fun hc => ?_) (fun hc => ?_) <;> (have hc2 := hc; try simp at hc2)) | (with_reducible refine GdT_split (fun hc => ?_) (fun hc => ?_) <;> (have hc2 := hc; try simp at hc2)) | (with_reducible refine WT_alt ?_ ?_) | omega)
  · rw [if_neg hsz] at hs
    unfold L3
    dsimp only []
    repeat' (first | (simp (disch := first | omega | assumption | (simp only [List.length_set]; omega) | (simp [*] <;> fail) | assumption) [-Bool.decide_and, -Bool.decide_or, -Bool.not_and, -Bool.not_or, toNat_pred, toNat_succ, wrap64, wr_new, wr_new0, ok_if, ok_ifn, iadV_sl, makeV_int, decT, decF, over_at, *]) | (with_reducible refine Gd_split (fun hc => ?_) (fun hc => ?_) <;> (have hc2 := hc; try simp at hc2)) | (with_reducible refine Br_split (fun hc => ?_) (fun hc => ?_) <;> (have hc2 := hc; try simp at hc2)) | (with_reducible refine GdT_split (fun hc => ?_) (fun hc => ?_) <;> (have hc2 := hc; try simp at hc2)) | (with_reducible refine WT_alt ?_ ?_) | omega)
    have hcfo : ∀ {qs : List (Eff × Lf)}, qs.map (·.1) = ps.map (·.1) → ∀ p ∈ qs, ∀ x ∈ p.1.nums, CF x := by
      intro qs hq p hp x hx
      have h1 : p.1 ∈ qs.map (·.1) := List.mem_map.2 ⟨p, hp, rfl⟩
      rw [hq] at h1
      obtain ⟨p', hp', e⟩ := List.mem_map.1 h1
      rw [← e] at hx
      obtain ⟨q1, q2⟩ := hcf p' hp' x hx
      exact ⟨q1, q2⟩
    refine c_toEffectS hA hI (by omega) (by omega) (Nat.le_refl _) fun l1 g1 qs1 hN1 hq1 => ?_
    have k1 := hN1.kept.1
    have c1 := fun K lim => c_specChainText (S := S) (K := K) (lim := lim) hN1.arr hN1.ins (hcfo hq1)
    simp only [hq1] at c1
    have hpair : ∃ s b, chR (ps.map (·.1)) = .tup [.lf (.str s), .lf (.bool b)] := by
      unfold chR; split <;> exact ⟨_, _, rfl⟩
    obtain ⟨s, b, hsb⟩ := hpair
    rw [hsb] at c1
    repeat' (first | (simp (disch := first | omega | assumption | (simp only [List.length_set]; omega) | (simp [*] <;> fail) | assumption) [-Bool.decide_and, -Bool.decide_or, -Bool.not_and, -Bool.not_or, toNat_pred, toNat_succ, wrap64, wr_new, wr_new0, ok_if, ok_ifn, iadV_sl, makeV_int, decT, decF, over_at, *]) | (with_reducible refine Gd_split (fun hc => ?_) (fun hc => ?_) <;> (have hc2 := hc; try simp at hc2)) | (with_reducible refine Br_split (fun hc => ?_) (fun hc => ?_) <;> (have hc2 := hc; try simp at hc2)) | (with_reducible refine GdT_split (fun hc => ?_) (fun hc => ?_) <;> (have hc2 := hc; try simp at hc2)) | (with_reducible refine WT_alt ?_ ?_) | omega)
    refine c_toEffectS (hA.kept hN1.kept) (hI.kept hN1.kept) (by omega) (by omega) k1 fun l2 g2 qs2 hN2 hq2 => ?_
    have k2 := hN2.kept.1
    have c2 := fun K lim => c_implChainText (S := S) (K := K) (lim := lim) hN2.arr hN2.ins (hcfo hq2)
    simp only [hq2] at c2
    rw [hsb] at c2
    repeat' (first | (simp (disch := first | omega | assumption | (simp only [List.length_set]; omega) | (simp [*] <;> fail) | assumption) [-Bool.decide_and, -Bool.decide_or, -Bool.not_and, -Bool.not_or, toNat_pred, toNat_succ, wrap64, wr_new, wr_new0, ok_if, ok_ifn, iadV_sl, makeV_int, decT, decF, over_at, *]) | (with_reducible refine Gd_split (fun hc => ?_) (fun hc => ?_) <;> (have hc2 := hc; try simp at hc2)) | (with_reducible refine Br_split (fun hc => ?_) (fun hc => ?_) <;> (have hc2 := hc; try simp at hc2)) | (with_reducible refine GdT_split (fun hc => ?_) (fun hc => ?_) <;> (have hc2 := hc; try simp at hc2)) | (with_reducible refine WT_alt ?_ ?_) | omega)
    have kk := hN1.kept.trans hN2.kept
    refine c_toEffectS (hA.kept kk) (hI.kept kk) (by omega) (by omega) (by omega) fun l3 g3 qs3 hN3 hq3 => ?_
    repeat' (first | (simp (disch := first | omega | assumption | (simp only [List.length_set]; omega) | (simp [*] <;> fail) | assumption) [-Bool.decide_and, -Bool.decide_or, -Bool.not_and, -Bool.not_or, toNat_pred, toNat_succ, wrap64, wr_new, wr_new0, ok_if, ok_ifn, iadV_sl, makeV_int, decT, decF, over_at, *, c_eqEffectS (hN2.arr.kept hN3.kept) (hN2.ins.kept hN3.kept) hN3.arr hN3.ins (hq3.trans hq2.symm)]) | (with_reducible refine Gd_split (fun hc => ?_) (fun hc => ?_) <;> (have hc2 := hc; try simp at hc2)) | (with_reducible refine Br_split (fun hc => ?_) (fun hc => ?_) <;> (have hc2 := hc; try simp at hc2)) | (with_reducible refine GdT_split (fun hc => ?_) (fun hc => ?_) <;> (have hc2 := hc; try simp at hc2)) | (with_reducible refine WT_alt ?_ ?_) | omega)
end Go.E
namespace Go.E.ChainText
open Go Go.E
def pure : FuncId → Bool := fun f => List.elem f [3, 4, 5, 7, 8, 9, 10, 11, 13, 14, 15, 16, 17, 18, 19, 21, 22, 23, 24, 25, 26, 27, 28, 29, 30, 31, 32, 33, 34, 35, 36, 37, 38, 39, 40, 41, 42, 43, 47, 48, 49, 54, 55, 56, 57, 58, 61, 62, 63, 65, 67, 69, 76, 79]
def funs : List (Nat × LFn) := [(39, L39), (18, L18), (29, L29), (33, L33), (42, L42), (26, L26), (40, L40), (32, L32), (19, L19), (22, L22), (23, L23), (24, L24), (34, L34), (10, L10), (13, L13), (17, L17), (21, L21), (27, L27), (28, L28), (30, L30), (31, L31), (38, L38), (41, L41), (5, L5), (7, L7), (11, L11), (14, L14), (37, L37), (20, L20), (25, L25), (16, L16), (4, L4), (6, L6), (8, L8), (9, L9), (12, L12), (15, L15), (3, L3)]
def Sy : Sys := { fs := (sysOf funs).fs, xt := joinX }
instance : HasJo Sy := { none_ := rfl, xt_ := rfl }
theorem lfn39 : lFn Go.Proofs.Tryd.prog pure Go.Proofs.Tryd.f39 = some L39 := by kernel_rfl
theorem lfn18 : lFn Go.Proofs.Tryd.prog pure Go.Proofs.Tryd.f18 = some L18 := by kernel_rfl
theorem lfn29 : lFn Go.Proofs.Tryd.prog pure Go.Proofs.Tryd.f29 = some L29 := by kernel_rfl
theorem lfn33 : lFn Go.Proofs.Tryd.prog pure Go.Proofs.Tryd.f33 = some L33 := by kernel_rfl
theorem lfn42 : lFn Go.Proofs.Tryd.prog pure Go.Proofs.Tryd.f42 = some L42 := by kernel_rfl
theorem lfn26 : lFn Go.Proofs.Tryd.prog pure Go.Proofs.Tryd.f26 = some L26 := by kernel_rfl
theorem lfn40 : lFn Go.Proofs.Tryd.prog pure Go.Proofs.Tryd.f40 = some L40 := by kernel_rfl
theorem lfn32 : lFn Go.Proofs.Tryd.prog pure Go.Proofs.Tryd.f32 = some L32 := by kernel_rfl
theorem lfn19 : lFn Go.Proofs.Tryd.prog pure Go.Proofs.Tryd.f19 = some L19 := by kernel_rfl
theorem lfn22 : lFn Go.Proofs.Tryd.prog pure Go.Proofs.Tryd.f22 = some L22 := by kernel_rfl
theorem lfn23 : lFn Go.Proofs.Tryd.prog pure Go.Proofs.Tryd.f23 = some L23 := by kernel_rfl
theorem lfn24 : lFn Go.Proofs.Tryd.prog pure Go.Proofs.Tryd.f24 = some L24 := by kernel_rfl
theorem lfn34 : lFn Go.Proofs.Tryd.prog pure Go.Proofs.Tryd.f34 = some L34 := by kernel_rfl
theorem lfn10 : lFn Go.Proofs.Tryd.prog pure Go.Proofs.Tryd.f10 = some L10 := by kernel_rfl
theorem lfn13 : lFn Go.Proofs.Tryd.prog pure Go.Proofs.Tryd.f13 = some L13 := by kernel_rfl
theorem lfn17 : lFn Go.Proofs.Tryd.prog pure Go.Proofs.Tryd.f17 = some L17 := by kernel_rfl
theorem lfn21 : lFn Go.Proofs.Tryd.prog pure Go.Proofs.Tryd.f21 = some L21 := by kernel_rfl
theorem lfn27 : lFn Go.Proofs.Tryd.prog pure Go.Proofs.Tryd.f27 = some L27 := by kernel_rfl
theorem lfn28 : lFn Go.Proofs.Tryd.prog pure Go.Proofs.Tryd.f28 = some L28 := by kernel_rfl
theorem lfn30 : lFn Go.Proofs.Tryd.prog pure Go.Proofs.Tryd.f30 = some L30 := by kernel_rfl
theorem lfn31 : lFn Go.Proofs.Tryd.prog pure Go.Proofs.Tryd.f31 = some L31 := by kernel_rfl
theorem lfn38 : lFn Go.Proofs.Tryd.prog pure Go.Proofs.Tryd.f38 = some L38 := by kernel_rfl
theorem lfn41 : lFn Go.Proofs.Tryd.prog pure Go.Proofs.Tryd.f41 = some L41 := by kernel_rfl
theorem lfn5 : lFn Go.Proofs.Tryd.prog pure Go.Proofs.Tryd.f5 = some L5 := by kernel_rfl
theorem lfn7 : lFn Go.Proofs.Tryd.prog pure Go.Proofs.Tryd.f7 = some L7 := by kernel_rfl
theorem lfn11 : lFn Go.Proofs.Tryd.prog pure Go.Proofs.Tryd.f11 = some L11 := by kernel_rfl
theorem lfn14 : lFn Go.Proofs.Tryd.prog pure Go.Proofs.Tryd.f14 = some L14 := by kernel_rfl
theorem lfn37 : lFn Go.Proofs.Tryd.prog pure Go.Proofs.Tryd.f37 = some L37 := by kernel_rfl
theorem lfn20 : lFn Go.Proofs.Tryd.prog pure Go.Proofs.Tryd.f20 = some L20 := by kernel_rfl
theorem lfn25 : lFn Go.Proofs.Tryd.prog pure Go.Proofs.Tryd.f25 = some L25 := by kernel_rfl
theorem lfn16 : lFn Go.Proofs.Tryd.prog pure Go.Proofs.Tryd.f16 = some L16 := by kernel_rfl
theorem lfn4 : lFn Go.Proofs.Tryd.prog pure Go.Proofs.Tryd.f4 = some L4 := by kernel_rfl
theorem lfn6 : lFn Go.Proofs.Tryd.prog pure Go.Proofs.Tryd.f6 = some L6 := by kernel_rfl
theorem lfn8 : lFn Go.Proofs.Tryd.prog pure Go.Proofs.Tryd.f8 = some L8 := by kernel_rfl
theorem lfn9 : lFn Go.Proofs.Tryd.prog pure Go.Proofs.Tryd.f9 = some L9 := by kernel_rfl
theorem lfn12 : lFn Go.Proofs.Tryd.prog pure Go.Proofs.Tryd.f12 = some L12 := by kernel_rfl
theorem lfn15 : lFn Go.Proofs.Tryd.prog pure Go.Proofs.Tryd.f15 = some L15 := by kernel_rfl
theorem lfn3 : lFn Go.Proofs.Tryd.prog pure Go.Proofs.Tryd.f3 = some L3 := by kernel_rfl
instance : HasFb Sy := { f39 := rfl }
instance : HasTx Sy := { f18 := rfl, f29 := rfl, f33 := rfl, f42 := rfl }
instance : HasA Sy := { f26 := rfl, f40 := rfl }
instance : HasP Sy := { f32 := rfl }
instance : HasTy Sy := { f19 := rfl, f22 := rfl, f23 := rfl, f24 := rfl, f34 := rfl }
instance : HasEf Sy := { f10 := rfl, f13 := rfl, f17 := rfl, f21 := rfl, f27 := rfl, f28 := rfl, f30 := rfl, f31 := rfl, f38 := rfl, f41 := rfl }
instance : HasCx Sy := { f5 := rfl, f7 := rfl, f11 := rfl, f14 := rfl }
instance : HasSame Sy := { f37 := rfl }
instance : HasF Sy := { f20 := rfl, f25 := rfl }
instance : HasSz Sy := { f16 := rfl }
instance : HasDE Sy := { f4 := rfl, f6 := rfl, f8 := rfl, f9 := rfl, f12 := rfl, f15 := rfl }
instance : HasLChainText Sy := { f3 := rfl }
theorem sysOK0 {B : Nat} {w0 : World} : SysOK Go.Proofs.Tryd.prog pure (sysOf funs) B w0 := SysOK.of (by
  intro p hp
  simp only [funs, List.mem_cons, List.not_mem_nil, or_false] at hp
  rcases hp with rfl | rfl | rfl | rfl | rfl | rfl | rfl | rfl | rfl | rfl | rfl | rfl | rfl | rfl | rfl | rfl | rfl | rfl | rfl | rfl | rfl | rfl | rfl | rfl | rfl | rfl | rfl | rfl | rfl | rfl | rfl | rfl | rfl | rfl | rfl | rfl | rfl | rfl
  · exact ⟨_, Go.Proofs.Tryd.func39, lfn39⟩
  · exact ⟨_, Go.Proofs.Tryd.func18, lfn18⟩
  · exact ⟨_, Go.Proofs.Tryd.func29, lfn29⟩
  · exact ⟨_, Go.Proofs.Tryd.func33, lfn33⟩
  · exact ⟨_, Go.Proofs.Tryd.func42, lfn42⟩
  · exact ⟨_, Go.Proofs.Tryd.func26, lfn26⟩
  · exact ⟨_, Go.Proofs.Tryd.func40, lfn40⟩
  · exact ⟨_, Go.Proofs.Tryd.func32, lfn32⟩
  · exact ⟨_, Go.Proofs.Tryd.func19, lfn19⟩
  · exact ⟨_, Go.Proofs.Tryd.func22, lfn22⟩
  · exact ⟨_, Go.Proofs.Tryd.func23, lfn23⟩
  · exact ⟨_, Go.Proofs.Tryd.func24, lfn24⟩
  · exact ⟨_, Go.Proofs.Tryd.func34, lfn34⟩
  · exact ⟨_, Go.Proofs.Tryd.func10, lfn10⟩
  · exact ⟨_, Go.Proofs.Tryd.func13, lfn13⟩
  · exact ⟨_, Go.Proofs.Tryd.func17, lfn17⟩
  · exact ⟨_, Go.Proofs.Tryd.func21, lfn21⟩
  · exact ⟨_, Go.Proofs.Tryd.func27, lfn27⟩
  · exact ⟨_, Go.Proofs.Tryd.func28, lfn28⟩
  · exact ⟨_, Go.Proofs.Tryd.func30, lfn30⟩
  · exact ⟨_, Go.Proofs.Tryd.func31, lfn31⟩
  · exact ⟨_, Go.Proofs.Tryd.func38, lfn38⟩
  · exact ⟨_, Go.Proofs.Tryd.func41, lfn41⟩
  · exact ⟨_, Go.Proofs.Tryd.func5, lfn5⟩
  · exact ⟨_, Go.Proofs.Tryd.func7, lfn7⟩
  · exact ⟨_, Go.Proofs.Tryd.func11, lfn11⟩
  · exact ⟨_, Go.Proofs.Tryd.func14, lfn14⟩
  · exact ⟨_, Go.Proofs.Tryd.func37, lfn37⟩
  · exact ⟨_, Go.Proofs.Tryd.func20, lfn20⟩
  · exact ⟨_, Go.Proofs.Tryd.func25, lfn25⟩
  · exact ⟨_, Go.Proofs.Tryd.func16, lfn16⟩
  · exact ⟨_, Go.Proofs.Tryd.func4, lfn4⟩
  · exact ⟨_, Go.Proofs.Tryd.func6, lfn6⟩
  · exact ⟨_, Go.Proofs.Tryd.func8, lfn8⟩
  · exact ⟨_, Go.Proofs.Tryd.func9, lfn9⟩
  · exact ⟨_, Go.Proofs.Tryd.func12, lfn12⟩
  · exact ⟨_, Go.Proofs.Tryd.func15, lfn15⟩
  · exact ⟨_, Go.Proofs.Tryd.func3, lfn3⟩)
theorem sysOK {B : Nat} {w0 : World} : SysOK Go.Proofs.Tryd.prog pure Sy B w0 := ⟨(sysOK0 (B := B) (w0 := w0)).fs, joinX_ok⟩

end Go.E.ChainText
