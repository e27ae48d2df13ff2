/- The law of StateText: what the evaluator finds. -/
import Derived.Test.YtlfapmfcggiamaaDoorMSx
import Derived.Test.YtlfapmfcggiamaaDoorMDs
import Derived.Test.YtlfapmfcggiamaaDoorProg
set_option linter.unusedVariables false
set_option linter.unusedSimpArgs false
namespace Go.E
open Go
def L3 : LFn := ⟨2, (.seq (.reg [⟨(.some 4), (.mv (.c (.lf (.bool false)))), none⟩])
 (.seq (.reg [⟨(.some 5), (.mv (.c (.lf (.int .i64 1048576)))), none⟩])
 (.seq (.reg [⟨(.some 12), (.mv (.t 0)), none⟩, ⟨(.some 13), (.mv (.t 5)), none⟩, ⟨(.some 14), (.call true 4 [(.t 12), (.t 13)]), none⟩, ⟨(.some 5), (.mv (.t 14)), none⟩])
 (.seq (.seq (.reg [⟨(.some 15), (.mv (.t 5)), none⟩, ⟨(.some 16), (.bin .lss (.t 15) (.c (.lf (.int .i64 0)))), none⟩])
 (.cond (.t 16) (.seq (.reg [⟨(.some 4), (.mv (.c (.lf (.bool true)))), none⟩])
 .ret) .skip))
 (.seq (.reg [⟨(.some 17), (.mv (.t 1)), none⟩, ⟨(.some 18), (.mv (.t 5)), none⟩, ⟨(.some 19), (.call true 5 [(.t 17), (.t 18)]), none⟩, ⟨(.some 5), (.mv (.t 19)), none⟩])
 (.seq (.seq (.reg [⟨(.some 20), (.mv (.t 5)), none⟩, ⟨(.some 21), (.bin .lss (.t 20) (.c (.lf (.int .i64 0)))), none⟩])
 (.cond (.t 21) (.seq (.reg [⟨(.some 4), (.mv (.c (.lf (.bool true)))), none⟩])
 .ret) .skip))
 (.seq (.reg [⟨(.some 23), (.mv (.t 0)), none⟩, ⟨(.some 24), (.call false 7 [(.t 23)]), none⟩, ⟨(.some 25), (.mv (.t 1)), none⟩, ⟨(.some 26), (.call false 8 [(.t 25)]), none⟩, ⟨(.some 27), (.call true 6 [(.t 24), (.t 26)]), none⟩, ⟨(.some 22), (.mv (.t 27)), none⟩, ⟨(.some 28), (.ext (.t 22) 0), none⟩, ⟨(.some 29), (.ext (.t 22) 1), none⟩, ⟨(.some 6), (.mv (.t 28)), none⟩, ⟨(.some 7), (.mv (.t 29)), none⟩])
 (.seq (.reg [⟨(.some 30), (.mv (.t 0)), none⟩, ⟨(.some 31), (.call false 7 [(.t 30)]), none⟩, ⟨(.some 8), (.mv (.t 31)), none⟩])
 (.seq (.reg [⟨(.some 32), (.mv (.t 1)), none⟩, ⟨(.some 33), (.call false 8 [(.t 32)]), none⟩, ⟨(.some 9), (.mv (.t 33)), none⟩])
 (.seq (.reg [⟨(.some 35), (.mv (.t 8)), none⟩, ⟨(.some 36), (.mv (.t 9)), none⟩, ⟨(.some 37), (.call true 9 [(.t 35), (.t 36)]), none⟩, ⟨(.some 34), (.mv (.t 37)), none⟩, ⟨(.some 38), (.ext (.t 34) 0), none⟩, ⟨(.some 39), (.ext (.t 34) 1), none⟩, ⟨(.some 10), (.mv (.t 38)), none⟩, ⟨(.some 11), (.mv (.t 39)), none⟩])
 (.seq (.seq (.reg [⟨(.some 40), (.mv (.t 10)), none⟩, ⟨(.some 41), (.mv (.t 6)), none⟩, ⟨(.some 42), (.bin .neq (.t 40) (.t 41)), none⟩, ⟨(.some 43), (.mv (.t 42)), none⟩, ⟨(.some 44), (.mv (.t 11)), (.some (43, false))⟩, ⟨(.some 45), (.mv (.t 7)), (.some (43, false))⟩, ⟨(.some 46), (.beq true (.t 44) (.t 45)), (.some (43, false))⟩, ⟨(.some 47), (.pick (.t 43) (.c (.lf (.bool true))) (.t 46)), none⟩])
 (.cond (.t 47) (.seq (.reg [⟨(.some 4), (.mv (.c (.lf (.bool false)))), none⟩])
 .ret) .skip))
 (.seq (.seq (.reg [⟨(.some 48), (.mv (.t 8)), none⟩, ⟨(.some 49), (.mv (.t 0)), none⟩, ⟨(.some 50), (.call false 7 [(.t 49)]), none⟩, ⟨(.some 51), (.call true 10 [(.t 48), (.t 50)]), none⟩, ⟨(.some 52), (.una .not (.t 51)), none⟩])
 (.cond (.t 52) (.seq (.reg [⟨(.some 4), (.mv (.c (.lf (.bool false)))), none⟩])
 .ret) .skip))
 (.seq (.seq (.reg [⟨(.some 53), (.mv (.t 9)), none⟩, ⟨(.some 54), (.mv (.t 1)), none⟩, ⟨(.some 55), (.call false 8 [(.t 54)]), none⟩, ⟨(.some 56), (.call true 11 [(.t 53), (.t 55)]), none⟩, ⟨(.some 57), (.una .not (.t 56)), none⟩])
 (.cond (.t 57) (.seq (.reg [⟨(.some 4), (.mv (.c (.lf (.bool false)))), none⟩])
 .ret) .skip))
 (.seq (.reg [⟨(.some 4), (.mv (.c (.lf (.bool true)))), none⟩])
 .ret)))))))))))))), [(.tmp 4)]⟩
class HasLStateText (S : Sys) : Prop extends HasSx S, HasDE S, HasDSS S where
  f3 : S.fs 3 = some L3
set_option maxHeartbeats 1000000 in
theorem lawStateText {S : Sys} [HasLStateText S] [HasJo S] : LawHolds S 3 [(false, .sl 3 effSh), (false, .sl 1 flSl)] := by
  intro h cs hcs
  obtain ⟨c0, _, rfl, ⟨ls0, rfl, l, rows, rfl, hA, hrows⟩, c1, _, rfl, ⟨ls1, rfl, l2, rows2, rfl, hA2, hrows2⟩, rfl⟩ := hcs
  obtain ⟨ps, rfl, hI, hcf⟩ := effs_of hrows
  obtain ⟨qs, rfl, hI2, hcf2⟩ := sss_of hrows2
  clear hrows hrows2
  refine law_of (F := L3) HasLStateText.f3 rfl ?_
  have hs := fun K lim => c_szEffectS (S := S) (K := K) (lim := lim) hA hI (b := 1048576) (by decide) (by decide)
  by_cases hsz : (1048576 : Int) < ps.length + szD Eff.nums ps
  · rw [if_pos hsz] at hs
    unfold L3
    dsimp only []
    repeat' (first | (simp (disch := first | omega | assumption | (simp only [List.length_set]; omega) | (simp [*] <;> fail) | assumption) [-Bool.decide_and, -Bool.decide_or, -Bool.not_and, -Bool.not_or, toNat_pred, toNat_succ, wrap64, wr_new, wr_new0, ok_if, ok_ifn, iadV_sl, makeV_int, decT, decF, over_at, *]) | (with_reducible refine Gd_split (fun hc => ?_) (fun hc => ?_) <;> (have hc2 := hc; try simp at hc2)) | (with_reducible refine Br_split (fun hc => ?_) (fun hc => ?_) <;> (have hc2 := hc; try simp at hc2)) | (with_reducible refine GdT_split (fun hc => ?_) (fun hc => ?_) <;> (have hc2 := hc; try simp at hc2)) | (with_reducible refine WT_alt ?_ ?_) | omega)
  · rw [if_neg hsz] at hs
    have hs2 := fun K lim => c_szFloat32SS (S := S) (K := K) (lim := lim) hA2 hI2 (b := 1048576 - (ps.length + szD Eff.nums ps)) (by omega) (by omega)
    by_cases hsz2 : (1048576 : Int) - (ps.length + szD Eff.nums ps) < qs.length + szD ssRows qs
    · rw [if_pos hsz2] at hs2
      unfold L3
      dsimp only []
      repeat' (first | (simp (disch := first | omega | assumption | (simp only [List.length_set]; omega) | (simp [*] <;> fail) | assumption) [-Bool.decide_and, -Bool.decide_or, -Bool.not_and, -Bool.not_or, toNat_pred, toNat_succ, wrap64, wr_new, wr_new0, ok_if, ok_ifn, iadV_sl, makeV_int, decT, decF, over_at, *]) | (with_reducible refine Gd_split (fun hc => ?_) (fun hc => ?_) <;> (have hc2 := hc; try simp at hc2)) | (with_reducible refine Br_split (fun hc => ?_) (fun hc => ?_) <;> (have hc2 := hc; try simp at hc2)) | (with_reducible refine GdT_split (fun hc => ?_) (fun hc => ?_) <;> (have hc2 := hc; try simp at hc2)) | (with_reducible refine WT_alt ?_ ?_) | omega)
    · rw [if_neg hsz2] at hs2
      unfold L3
      dsimp only []
      have hcfo : ∀ {xs : List (Eff × Lf)}, xs.map (·.1) = ps.map (·.1) → ∀ p ∈ xs, ∀ x ∈ p.1.nums, CF x := by
        intro xs hq p hp x hx
        have h1 : p.1 ∈ xs.map (·.1) := List.mem_map.2 ⟨p, hp, rfl⟩
        rw [hq] at h1
        obtain ⟨p', hp', e⟩ := List.mem_map.1 h1
        rw [← e] at hx
        obtain ⟨q1, q2⟩ := hcf p' hp' x hx
        exact ⟨q1, q2⟩
      have hcfs : ∀ {xs : List (List Nat × Lf)}, xs.map (·.1) = qs.map (·.1) → ∀ p ∈ xs, ∀ x ∈ p.1, CF x := by
        intro xs hq p hp x hx
        have h1 : p.1 ∈ xs.map (·.1) := List.mem_map.2 ⟨p, hp, rfl⟩
        rw [hq] at h1
        obtain ⟨p', hp', e⟩ := List.mem_map.1 h1
        rw [← e] at hx
        obtain ⟨q1, q2⟩ := hcf2 p' hp' x hx
        exact ⟨q1, q2⟩
      have hpair : ∃ s b, sxR (ps.map (·.1)) (qs.map (·.1)) = .tup [.lf (.str s), .lf (.bool b)] := by
        unfold sxR; split <;> exact ⟨_, _, rfl⟩
      obtain ⟨s, b, hsb⟩ := hpair
      repeat' (first | (simp (disch := first | omega | assumption | (simp only [List.length_set]; omega) | (simp [*] <;> fail) | assumption) [-Bool.decide_and, -Bool.decide_or, -Bool.not_and, -Bool.not_or, toNat_pred, toNat_succ, wrap64, wr_new, wr_new0, ok_if, ok_ifn, iadV_sl, makeV_int, decT, decF, over_at, *]) | (with_reducible refine Gd_split (fun hc => ?_) (fun hc => ?_) <;> (have hc2 := hc; try simp at hc2)) | (with_reducible refine Br_split (fun hc => ?_) (fun hc => ?_) <;> (have hc2 := hc; try simp at hc2)) | (with_reducible refine GdT_split (fun hc => ?_) (fun hc => ?_) <;> (have hc2 := hc; try simp at hc2)) | (with_reducible refine WT_alt ?_ ?_) | omega)
      refine c_toEffectS hA hI (by omega) (by omega) (Nat.le_refl _) fun l1 g1 ps1 hN1 hp1 => ?_
      have k1 := hN1.kept
      have n1 := k1.1
      repeat' (first | (simp (disch := first | omega | assumption | (simp only [List.length_set]; omega) | (simp [*] <;> fail) | assumption) [-Bool.decide_and, -Bool.decide_or, -Bool.not_and, -Bool.not_or, toNat_pred, toNat_succ, wrap64, wr_new, wr_new0, ok_if, ok_ifn, iadV_sl, makeV_int, decT, decF, over_at, *]) | (with_reducible refine Gd_split (fun hc => ?_) (fun hc => ?_) <;> (have hc2 := hc; try simp at hc2)) | (with_reducible refine Br_split (fun hc => ?_) (fun hc => ?_) <;> (have hc2 := hc; try simp at hc2)) | (with_reducible refine GdT_split (fun hc => ?_) (fun hc => ?_) <;> (have hc2 := hc; try simp at hc2)) | (with_reducible refine WT_alt ?_ ?_) | omega)
      refine c_toFloat32SS (hA2.kept k1) (hI2.kept k1) (by omega) (by omega) (by omega) fun m1 g2 qs1 hM1 hq1 => ?_
      have k2 := k1.trans hM1.kept
      have n2 := k2.1
      have c1 := fun K lim => c_specStateText (S := S) (K := K) (lim := lim) (hN1.arr.kept hM1.kept) (hN1.ins.kept hM1.kept) (hcfo hp1) hM1.arr hM1.ins (hcfs hq1)
      simp only [hp1, hq1] at c1
      rw [hsb] at c1
      repeat' (first | (simp (disch := first | omega | assumption | (simp only [List.length_set]; omega) | (simp [*] <;> fail) | assumption) [-Bool.decide_and, -Bool.decide_or, -Bool.not_and, -Bool.not_or, toNat_pred, toNat_succ, wrap64, wr_new, wr_new0, ok_if, ok_ifn, iadV_sl, makeV_int, decT, decF, over_at, *]) | (with_reducible refine Gd_split (fun hc => ?_) (fun hc => ?_) <;> (have hc2 := hc; try simp at hc2)) | (with_reducible refine Br_split (fun hc => ?_) (fun hc => ?_) <;> (have hc2 := hc; try simp at hc2)) | (with_reducible refine GdT_split (fun hc => ?_) (fun hc => ?_) <;> (have hc2 := hc; try simp at hc2)) | (with_reducible refine WT_alt ?_ ?_) | omega)
      refine c_toEffectS (hA.kept k2) (hI.kept k2) (by omega) (by omega) (by omega) fun l2 g3 ps2 hN2 hp2 => ?_
      have k3 := k2.trans hN2.kept
      have n3 := k3.1
      repeat' (first | (simp (disch := first | omega | assumption | (simp only [List.length_set]; omega) | (simp [*] <;> fail) | assumption) [-Bool.decide_and, -Bool.decide_or, -Bool.not_and, -Bool.not_or, toNat_pred, toNat_succ, wrap64, wr_new, wr_new0, ok_if, ok_ifn, iadV_sl, makeV_int, decT, decF, over_at, *]) | (with_reducible refine Gd_split (fun hc => ?_) (fun hc => ?_) <;> (have hc2 := hc; try simp at hc2)) | (with_reducible refine Br_split (fun hc => ?_) (fun hc => ?_) <;> (have hc2 := hc; try simp at hc2)) | (with_reducible refine GdT_split (fun hc => ?_) (fun hc => ?_) <;> (have hc2 := hc; try simp at hc2)) | (with_reducible refine WT_alt ?_ ?_) | omega)
      refine c_toFloat32SS (hA2.kept k3) (hI2.kept k3) (by omega) (by omega) (by omega) fun m2 g4 qs2 hM2 hq2 => ?_
      have k4 := k3.trans hM2.kept
      have n4 := k4.1
      have c2 := fun K lim => c_implStateText (S := S) (K := K) (lim := lim) (hN2.arr.kept hM2.kept) (hN2.ins.kept hM2.kept) (hcfo hp2) hM2.arr hM2.ins (hcfs hq2)
      simp only [hp2, hq2] at c2
      rw [hsb] at c2
      repeat' (first | (simp (disch := first | omega | assumption | (simp only [List.length_set]; omega) | (simp [*] <;> fail) | assumption) [-Bool.decide_and, -Bool.decide_or, -Bool.not_and, -Bool.not_or, toNat_pred, toNat_succ, wrap64, wr_new, wr_new0, ok_if, ok_ifn, iadV_sl, makeV_int, decT, decF, over_at, *]) | (with_reducible refine Gd_split (fun hc => ?_) (fun hc => ?_) <;> (have hc2 := hc; try simp at hc2)) | (with_reducible refine Br_split (fun hc => ?_) (fun hc => ?_) <;> (have hc2 := hc; try simp at hc2)) | (with_reducible refine GdT_split (fun hc => ?_) (fun hc => ?_) <;> (have hc2 := hc; try simp at hc2)) | (with_reducible refine WT_alt ?_ ?_) | omega)
      refine c_toEffectS (hA.kept k4) (hI.kept k4) (by omega) (by omega) (by omega) fun l3 g5 ps3 hN3 hp3 => ?_
      have k5 := k4.trans hN3.kept
      have n5 := k5.1
      have j3 := hM2.kept.trans hN3.kept
      repeat' (first | (simp (disch := first | omega | assumption | (simp only [List.length_set]; omega) | (simp [*] <;> fail) | assumption) [-Bool.decide_and, -Bool.decide_or, -Bool.not_and, -Bool.not_or, toNat_pred, toNat_succ, wrap64, wr_new, wr_new0, ok_if, ok_ifn, iadV_sl, makeV_int, decT, decF, over_at, *, c_eqEffectS (hN2.arr.kept j3) (hN2.ins.kept j3) hN3.arr hN3.ins (hp3.trans hp2.symm)]) | (with_reducible refine Gd_split (fun hc => ?_) (fun hc => ?_) <;> (have hc2 := hc; try simp at hc2)) | (with_reducible refine Br_split (fun hc => ?_) (fun hc => ?_) <;> (have hc2 := hc; try simp at hc2)) | (with_reducible refine GdT_split (fun hc => ?_) (fun hc => ?_) <;> (have hc2 := hc; try simp at hc2)) | (with_reducible refine WT_alt ?_ ?_) | omega)
      refine c_toFloat32SS (hA2.kept k5) (hI2.kept k5) (by omega) (by omega) (by omega) fun m3 g6 qs3 hM3 hq3 => ?_
      have j4 := hN3.kept.trans hM3.kept
      repeat' (first | (simp (disch := first | omega | assumption | (simp only [List.length_set]; omega) | (simp [*] <;> fail) | assumption) [-Bool.decide_and, -Bool.decide_or, -Bool.not_and, -Bool.not_or, toNat_pred, toNat_succ, wrap64, wr_new, wr_new0, ok_if, ok_ifn, iadV_sl, makeV_int, decT, decF, over_at, *, c_eqFloat32SS (hM2.arr.kept j4) (hM2.ins.kept j4) hM3.arr hM3.ins (hq3.trans hq2.symm)]) | (with_reducible refine Gd_split (fun hc => ?_) (fun hc => ?_) <;> (have hc2 := hc; try simp at hc2)) | (with_reducible refine Br_split (fun hc => ?_) (fun hc => ?_) <;> (have hc2 := hc; try simp at hc2)) | (with_reducible refine GdT_split (fun hc => ?_) (fun hc => ?_) <;> (have hc2 := hc; try simp at hc2)) | (with_reducible refine WT_alt ?_ ?_) | omega)
end Go.E
namespace Go.E.StateText
open Go Go.E
def pure : FuncId → Bool := fun f => List.elem f [3, 4, 5, 6, 9, 10, 11, 12, 13, 14, 15, 18, 19, 20, 21, 22, 23, 24, 25, 26, 27, 28, 30, 31, 32, 33, 34, 35, 36, 37, 38, 40, 41, 42, 43, 44, 45, 46, 47, 48, 49, 50, 51, 55, 56, 57, 58, 61, 62, 67, 68, 69, 70, 71, 72, 73, 74, 76, 78, 80, 87, 90]
def funs : List (Nat × LFn) := [(48, L48), (26, L26), (37, L37), (41, L41), (51, L51), (44, L44), (46, L46), (40, L40), (25, L25), (30, L30), (32, L32), (34, L34), (42, L42), (22, L22), (23, L23), (28, L28), (36, L36), (38, L38), (47, L47), (49, L49), (50, L50), (56, L56), (58, L58), (24, L24), (31, L31), (39, L39), (14, L14), (18, L18), (29, L29), (6, L6), (9, L9), (15, L15), (19, L19), (27, L27), (33, L33), (35, L35), (17, L17), (21, L21), (13, L13), (4, L4), (7, L7), (10, L10), (12, L12), (16, L16), (20, L20), (5, L5), (8, L8), (11, L11), (3, L3)]
def Sy : Sys := { fs := (sysOf funs).fs, xt := joinX }
instance : HasJo Sy := { none_ := rfl, xt_ := rfl }
theorem lfn48 : lFn Go.Proofs.Tryd.prog pure Go.Proofs.Tryd.f48 = some L48 := by kernel_rfl
theorem lfn26 : lFn Go.Proofs.Tryd.prog pure Go.Proofs.Tryd.f26 = some L26 := by kernel_rfl
theorem lfn37 : lFn Go.Proofs.Tryd.prog pure Go.Proofs.Tryd.f37 = some L37 := by kernel_rfl
theorem lfn41 : lFn Go.Proofs.Tryd.prog pure Go.Proofs.Tryd.f41 = some L41 := by kernel_rfl
theorem lfn51 : lFn Go.Proofs.Tryd.prog pure Go.Proofs.Tryd.f51 = some L51 := by kernel_rfl
theorem lfn44 : lFn Go.Proofs.Tryd.prog pure Go.Proofs.Tryd.f44 = some L44 := by kernel_rfl
theorem lfn46 : lFn Go.Proofs.Tryd.prog pure Go.Proofs.Tryd.f46 = some L46 := by kernel_rfl
theorem lfn40 : lFn Go.Proofs.Tryd.prog pure Go.Proofs.Tryd.f40 = some L40 := by kernel_rfl
theorem lfn25 : lFn Go.Proofs.Tryd.prog pure Go.Proofs.Tryd.f25 = some L25 := by kernel_rfl
theorem lfn30 : lFn Go.Proofs.Tryd.prog pure Go.Proofs.Tryd.f30 = some L30 := by kernel_rfl
theorem lfn32 : lFn Go.Proofs.Tryd.prog pure Go.Proofs.Tryd.f32 = some L32 := by kernel_rfl
theorem lfn34 : lFn Go.Proofs.Tryd.prog pure Go.Proofs.Tryd.f34 = some L34 := by kernel_rfl
theorem lfn42 : lFn Go.Proofs.Tryd.prog pure Go.Proofs.Tryd.f42 = some L42 := by kernel_rfl
theorem lfn22 : lFn Go.Proofs.Tryd.prog pure Go.Proofs.Tryd.f22 = some L22 := by kernel_rfl
theorem lfn23 : lFn Go.Proofs.Tryd.prog pure Go.Proofs.Tryd.f23 = some L23 := by kernel_rfl
theorem lfn28 : lFn Go.Proofs.Tryd.prog pure Go.Proofs.Tryd.f28 = some L28 := by kernel_rfl
theorem lfn36 : lFn Go.Proofs.Tryd.prog pure Go.Proofs.Tryd.f36 = some L36 := by kernel_rfl
theorem lfn38 : lFn Go.Proofs.Tryd.prog pure Go.Proofs.Tryd.f38 = some L38 := by kernel_rfl
theorem lfn47 : lFn Go.Proofs.Tryd.prog pure Go.Proofs.Tryd.f47 = some L47 := by kernel_rfl
theorem lfn49 : lFn Go.Proofs.Tryd.prog pure Go.Proofs.Tryd.f49 = some L49 := by kernel_rfl
theorem lfn50 : lFn Go.Proofs.Tryd.prog pure Go.Proofs.Tryd.f50 = some L50 := by kernel_rfl
theorem lfn56 : lFn Go.Proofs.Tryd.prog pure Go.Proofs.Tryd.f56 = some L56 := by kernel_rfl
theorem lfn58 : lFn Go.Proofs.Tryd.prog pure Go.Proofs.Tryd.f58 = some L58 := by kernel_rfl
theorem lfn24 : lFn Go.Proofs.Tryd.prog pure Go.Proofs.Tryd.f24 = some L24 := by kernel_rfl
theorem lfn31 : lFn Go.Proofs.Tryd.prog pure Go.Proofs.Tryd.f31 = some L31 := by kernel_rfl
theorem lfn39 : lFn Go.Proofs.Tryd.prog pure Go.Proofs.Tryd.f39 = some L39 := by kernel_rfl
theorem lfn14 : lFn Go.Proofs.Tryd.prog pure Go.Proofs.Tryd.f14 = some L14 := by kernel_rfl
theorem lfn18 : lFn Go.Proofs.Tryd.prog pure Go.Proofs.Tryd.f18 = some L18 := by kernel_rfl
theorem lfn29 : lFn Go.Proofs.Tryd.prog pure Go.Proofs.Tryd.f29 = some L29 := by kernel_rfl
theorem lfn6 : lFn Go.Proofs.Tryd.prog pure Go.Proofs.Tryd.f6 = some L6 := by kernel_rfl
theorem lfn9 : lFn Go.Proofs.Tryd.prog pure Go.Proofs.Tryd.f9 = some L9 := by kernel_rfl
theorem lfn15 : lFn Go.Proofs.Tryd.prog pure Go.Proofs.Tryd.f15 = some L15 := by kernel_rfl
theorem lfn19 : lFn Go.Proofs.Tryd.prog pure Go.Proofs.Tryd.f19 = some L19 := by kernel_rfl
theorem lfn27 : lFn Go.Proofs.Tryd.prog pure Go.Proofs.Tryd.f27 = some L27 := by kernel_rfl
theorem lfn33 : lFn Go.Proofs.Tryd.prog pure Go.Proofs.Tryd.f33 = some L33 := by kernel_rfl
theorem lfn35 : lFn Go.Proofs.Tryd.prog pure Go.Proofs.Tryd.f35 = some L35 := by kernel_rfl
theorem lfn17 : lFn Go.Proofs.Tryd.prog pure Go.Proofs.Tryd.f17 = some L17 := by kernel_rfl
theorem lfn21 : lFn Go.Proofs.Tryd.prog pure Go.Proofs.Tryd.f21 = some L21 := by kernel_rfl
theorem lfn13 : lFn Go.Proofs.Tryd.prog pure Go.Proofs.Tryd.f13 = some L13 := by kernel_rfl
theorem lfn4 : lFn Go.Proofs.Tryd.prog pure Go.Proofs.Tryd.f4 = some L4 := by kernel_rfl
theorem lfn7 : lFn Go.Proofs.Tryd.prog pure Go.Proofs.Tryd.f7 = some L7 := by kernel_rfl
theorem lfn10 : lFn Go.Proofs.Tryd.prog pure Go.Proofs.Tryd.f10 = some L10 := by kernel_rfl
theorem lfn12 : lFn Go.Proofs.Tryd.prog pure Go.Proofs.Tryd.f12 = some L12 := by kernel_rfl
theorem lfn16 : lFn Go.Proofs.Tryd.prog pure Go.Proofs.Tryd.f16 = some L16 := by kernel_rfl
theorem lfn20 : lFn Go.Proofs.Tryd.prog pure Go.Proofs.Tryd.f20 = some L20 := by kernel_rfl
theorem lfn5 : lFn Go.Proofs.Tryd.prog pure Go.Proofs.Tryd.f5 = some L5 := by kernel_rfl
theorem lfn8 : lFn Go.Proofs.Tryd.prog pure Go.Proofs.Tryd.f8 = some L8 := by kernel_rfl
theorem lfn11 : lFn Go.Proofs.Tryd.prog pure Go.Proofs.Tryd.f11 = some L11 := by kernel_rfl
theorem lfn3 : lFn Go.Proofs.Tryd.prog pure Go.Proofs.Tryd.f3 = some L3 := by kernel_rfl
instance : HasFb Sy := { f48 := rfl }
instance : HasTx Sy := { f26 := rfl, f37 := rfl, f41 := rfl, f51 := rfl }
instance : HasA Sy := { f44 := rfl, f46 := rfl }
instance : HasP Sy := { f40 := rfl }
instance : HasTy Sy := { f25 := rfl, f30 := rfl, f32 := rfl, f34 := rfl, f42 := rfl }
instance : HasEf Sy := { f22 := rfl, f23 := rfl, f28 := rfl, f36 := rfl, f38 := rfl, f47 := rfl, f49 := rfl, f50 := rfl, f56 := rfl, f58 := rfl }
instance : HasCx Sy := { f24 := rfl, f31 := rfl }
instance : HasN Sy := { f39 := rfl }
instance : HasIs Sy := { f14 := rfl, f18 := rfl, f29 := rfl }
instance : HasSx Sy := { f6 := rfl, f9 := rfl, f15 := rfl, f19 := rfl, f27 := rfl, f33 := rfl }
instance : HasSame Sy := { f35 := rfl }
instance : HasF Sy := { f17 := rfl, f21 := rfl }
instance : HasSz Sy := { f13 := rfl }
instance : HasDE Sy := { f4 := rfl, f7 := rfl, f10 := rfl, f12 := rfl, f16 := rfl, f20 := rfl }
instance : HasDSS Sy := { f5 := rfl, f8 := rfl, f11 := rfl }
instance : HasLStateText Sy := { f3 := rfl }
theorem sysOK0 {B : Nat} {w0 : World} : SysOK Go.Proofs.Tryd.prog pure (sysOf funs) B w0 := SysOK.of (by
  intro p hp
  simp only [funs, List.mem_cons, List.not_mem_nil, or_false] at hp
  rcases hp with rfl | rfl | rfl | rfl | rfl | rfl | rfl | rfl | rfl | rfl | rfl | rfl | rfl | rfl | rfl | rfl | rfl | rfl | rfl | rfl | rfl | rfl | rfl | rfl | rfl | rfl | rfl | rfl | rfl | rfl | rfl | rfl | rfl | rfl | rfl | rfl | rfl | rfl | rfl | rfl | rfl | rfl | rfl | rfl | rfl | rfl | rfl | rfl | rfl
  · exact ⟨_, Go.Proofs.Tryd.func48, lfn48⟩
  · exact ⟨_, Go.Proofs.Tryd.func26, lfn26⟩
  · exact ⟨_, Go.Proofs.Tryd.func37, lfn37⟩
  · exact ⟨_, Go.Proofs.Tryd.func41, lfn41⟩
  · exact ⟨_, Go.Proofs.Tryd.func51, lfn51⟩
  · exact ⟨_, Go.Proofs.Tryd.func44, lfn44⟩
  · exact ⟨_, Go.Proofs.Tryd.func46, lfn46⟩
  · exact ⟨_, Go.Proofs.Tryd.func40, lfn40⟩
  · exact ⟨_, Go.Proofs.Tryd.func25, lfn25⟩
  · exact ⟨_, Go.Proofs.Tryd.func30, lfn30⟩
  · exact ⟨_, Go.Proofs.Tryd.func32, lfn32⟩
  · exact ⟨_, Go.Proofs.Tryd.func34, lfn34⟩
  · exact ⟨_, Go.Proofs.Tryd.func42, lfn42⟩
  · exact ⟨_, Go.Proofs.Tryd.func22, lfn22⟩
  · exact ⟨_, Go.Proofs.Tryd.func23, lfn23⟩
  · exact ⟨_, Go.Proofs.Tryd.func28, lfn28⟩
  · exact ⟨_, Go.Proofs.Tryd.func36, lfn36⟩
  · exact ⟨_, Go.Proofs.Tryd.func38, lfn38⟩
  · exact ⟨_, Go.Proofs.Tryd.func47, lfn47⟩
  · exact ⟨_, Go.Proofs.Tryd.func49, lfn49⟩
  · exact ⟨_, Go.Proofs.Tryd.func50, lfn50⟩
  · exact ⟨_, Go.Proofs.Tryd.func56, lfn56⟩
  · exact ⟨_, Go.Proofs.Tryd.func58, lfn58⟩
  · exact ⟨_, Go.Proofs.Tryd.func24, lfn24⟩
  · exact ⟨_, Go.Proofs.Tryd.func31, lfn31⟩
  · exact ⟨_, Go.Proofs.Tryd.func39, lfn39⟩
  · exact ⟨_, Go.Proofs.Tryd.func14, lfn14⟩
  · exact ⟨_, Go.Proofs.Tryd.func18, lfn18⟩
  · exact ⟨_, Go.Proofs.Tryd.func29, lfn29⟩
  · exact ⟨_, Go.Proofs.Tryd.func6, lfn6⟩
  · exact ⟨_, Go.Proofs.Tryd.func9, lfn9⟩
  · exact ⟨_, Go.Proofs.Tryd.func15, lfn15⟩
  · exact ⟨_, Go.Proofs.Tryd.func19, lfn19⟩
  · exact ⟨_, Go.Proofs.Tryd.func27, lfn27⟩
  · exact ⟨_, Go.Proofs.Tryd.func33, lfn33⟩
  · exact ⟨_, Go.Proofs.Tryd.func35, lfn35⟩
  · exact ⟨_, Go.Proofs.Tryd.func17, lfn17⟩
  · exact ⟨_, Go.Proofs.Tryd.func21, lfn21⟩
  · exact ⟨_, Go.Proofs.Tryd.func13, lfn13⟩
  · exact ⟨_, Go.Proofs.Tryd.func4, lfn4⟩
  · exact ⟨_, Go.Proofs.Tryd.func7, lfn7⟩
  · exact ⟨_, Go.Proofs.Tryd.func10, lfn10⟩
  · exact ⟨_, Go.Proofs.Tryd.func12, lfn12⟩
  · exact ⟨_, Go.Proofs.Tryd.func16, lfn16⟩
  · exact ⟨_, Go.Proofs.Tryd.func20, lfn20⟩
  · exact ⟨_, Go.Proofs.Tryd.func5, lfn5⟩
  · exact ⟨_, Go.Proofs.Tryd.func8, lfn8⟩
  · exact ⟨_, Go.Proofs.Tryd.func11, lfn11⟩
  · exact ⟨_, Go.Proofs.Tryd.func3, lfn3⟩)
theorem sysOK {B : Nat} {w0 : World} (hT : TabH B w0) : SysOK Go.Proofs.Tryd.prog pure Sy B w0 := ⟨(sysOK0 (B := B) (w0 := w0)).fs, joinX_ok hT⟩

end Go.E.StateText
