/- The law of CostOf: what the evaluator finds. -/
import Derived.Test.YtclbkfmelhheaaaMCt
import Derived.Test.YtclbkfmelhheaaaMSw
import Derived.Test.YtclbkfmelhheaaaProg
set_option linter.unusedVariables false
set_option linter.unusedSimpArgs false
namespace Go.E
open Go
def L8 : LFn := ⟨1, (.seq (.reg [⟨(.some 1), (.box 40 (.t 0)), none⟩, ⟨(.some 2), (.mv (.c (.lf (.bool false)))), none⟩])
 (.seq (.reg [⟨(.some 3), (.mv (.c (.lf (.int .i64 1048576)))), none⟩])
 (.seq (.reg [⟨(.some 9), (.load true 2 (.t 1)), none⟩, ⟨(.some 10), (.mv (.t 3)), none⟩, ⟨(.some 11), (.call true 19 [(.t 9), (.t 10)]), none⟩, ⟨(.some 3), (.mv (.t 11)), none⟩])
 (.seq (.seq (.reg [⟨(.some 12), (.mv (.t 3)), none⟩, ⟨(.some 13), (.bin .lss (.t 12) (.c (.lf (.int .i64 0)))), none⟩])
 (.cond (.t 13) (.seq (.reg [⟨(.some 2), (.mv (.c (.lf (.bool true)))), none⟩])
 .ret) .skip))
 (.seq (.reg [⟨(.some 15), (.load true 2 (.t 1)), none⟩, ⟨(.some 16), (.call false 21 [(.t 15)]), none⟩, ⟨(.some 17), (.call true 38 [(.t 16)]), none⟩, ⟨(.some 14), (.mv (.t 17)), none⟩, ⟨(.some 18), (.ext (.t 14) 0), none⟩, ⟨(.some 19), (.ext (.t 14) 1), none⟩, ⟨(.some 4), (.mv (.t 18)), none⟩, ⟨(.some 5), (.mv (.t 19)), none⟩])
 (.seq (.reg [⟨(.some 20), (.load true 2 (.t 1)), none⟩, ⟨(.some 21), (.call false 21 [(.t 20)]), none⟩, ⟨(.some 6), (.alloc 46 [.nils, .nils]), none⟩, ⟨none, (.store 2 (.t 6) (.t 21)), none⟩])
 (.seq (.reg [⟨(.some 23), (.load true 2 (.t 6)), none⟩, ⟨(.some 24), (.call true 39 [(.t 23)]), none⟩, ⟨(.some 22), (.mv (.t 24)), none⟩, ⟨(.some 25), (.ext (.t 22) 0), none⟩, ⟨(.some 26), (.ext (.t 22) 1), none⟩, ⟨(.some 7), (.mv (.t 25)), none⟩, ⟨(.some 8), (.mv (.t 26)), none⟩])
 (.seq (.seq (.reg [⟨(.some 27), (.mv (.t 7)), none⟩, ⟨(.some 28), (.mv (.t 4)), none⟩, ⟨(.some 29), (.bin .neq (.t 27) (.t 28)), none⟩, ⟨(.some 30), (.mv (.t 29)), none⟩, ⟨(.some 31), (.mv (.t 8)), (.some (30, false))⟩, ⟨(.some 32), (.mv (.t 5)), (.some (30, false))⟩, ⟨(.some 33), (.beq true (.t 31) (.t 32)), (.some (30, false))⟩, ⟨(.some 34), (.pick (.t 30) (.c (.lf (.bool true))) (.t 33)), none⟩])
 (.cond (.t 34) (.seq (.reg [⟨(.some 2), (.mv (.c (.lf (.bool false)))), none⟩])
 .ret) .skip))
 (.seq (.seq (.any (.op ⟨(.some 36), (.load true 2 (.t 1)), none⟩ (.alt (.op ⟨(.some 35), (.load true 2 (.t 6)), none⟩ (.op ⟨(.some 37), (.call false 21 [(.t 36)]), none⟩ (.op ⟨(.some 38), (.call true 23 [(.t 35), (.t 37)]), none⟩ (.op ⟨(.some 39), (.una .not (.t 38)), none⟩ .nil)))) (.op ⟨(.some 37), (.call false 21 [(.t 36)]), none⟩ (.op ⟨(.some 35), (.load true 2 (.t 6)), none⟩ (.op ⟨(.some 38), (.call true 23 [(.t 35), (.t 37)]), none⟩ (.op ⟨(.some 39), (.una .not (.t 38)), none⟩ .nil)))))))
 (.cond (.t 39) (.seq (.reg [⟨(.some 2), (.mv (.c (.lf (.bool false)))), none⟩])
 .ret) .skip))
 (.seq (.reg [⟨(.some 2), (.mv (.c (.lf (.bool true)))), none⟩])
 .ret)))))))))), [(.tmp 2)]⟩
class HasLCostOf (S : Sys) : Prop extends HasCt S, HasDN S where
  f8 : S.fs 8 = some L8
set_option maxRecDepth 20000 in
set_option maxHeartbeats 4000000 in
theorem lawCostOf {S : Sys} [HasLCostOf S] : LawHolds S 8 [(true, sesSh)] := by
  intro h cs hcs
  obtain ⟨c0, _, rfl, ⟨ls0, rfl, t0⟩, rfl⟩ := hcs
  obtain ⟨l, l2, es, ss, rfl, hC, hCI, hS, hSI, _⟩ := ses_of t0
  clear t0
  have hmk : mkV true [l, l2] = .agg [l, l2] := rfl
  refine law_of (F := L8) HasLCostOf.f8 rfl ?_
  have b2 : ∀ g, Kept (h ++ [⟨[l, l2], .own 40 1⟩]) g → rdCells g h.length 0 2 = some [l, l2] := fun g k => k.rd (Cel.new.rd (by simp))
  have b20 := b2 _ (Kept.refl _)
  have kb := Kept.app h [⟨[l, l2], .own 40 1⟩]
  have hl1 : h.length + 1 ≤ (h ++ [⟨[l, l2], .own 40 1⟩] : Hp).length := by simp
  unfold L8
  dsimp only []
  generalize hH : (h ++ [⟨[l, l2], .own 40 1⟩] : Hp) = h1 at *
  replace hC := hC.kept kb
  replace hCI := hCI.kept kb
  replace hS := hS.kept kb
  replace hSI := hSI.kept kb
  have hs := fun K lim => c_szSession (S := S) (K := K) (lim := lim) hC hCI hS hSI (b := 1048576) (by decide) (by decide)
  by_cases hsz : (1048576 : Int) < es.length + szD Eff.nums es + (ss.length + szD Str.ro ss)
  · rw [if_pos hsz] at hs
    repeat' (first | (simp (disch := first | omega | assumption | (simp only [List.length_set]; omega) | (simp [*] <;> fail) | assumption) [-Bool.decide_and, -Bool.decide_or, -Bool.not_and, -Bool.not_or, toNat_pred, toNat_succ, wrap64, wr_new, wr_new0, ok_if, ok_ifn, iadV_sl, makeV_int, decT, decF, over_at, *]) | (with_reducible refine Gd_split (fun hc => ?_) (fun hc => ?_) <;> (have hc2 := hc; try simp at hc2)) | (with_reducible refine Br_split (fun hc => ?_) (fun hc => ?_) <;> (have hc2 := hc; try simp at hc2)) | (with_reducible refine GdT_split (fun hc => ?_) (fun hc => ?_) <;> (have hc2 := hc; try simp at hc2)) | (with_reducible refine WT_alt ?_ ?_) | omega)
  rw [if_neg hsz] at hs
  repeat' (first | (simp (disch := first | omega | assumption | (simp only [List.length_set]; omega) | (simp [*] <;> fail) | assumption) [-Bool.decide_and, -Bool.decide_or, -Bool.not_and, -Bool.not_or, toNat_pred, toNat_succ, wrap64, wr_new, wr_new0, ok_if, ok_ifn, iadV_sl, makeV_int, decT, decF, over_at, *]) | (with_reducible refine Gd_split (fun hc => ?_) (fun hc => ?_) <;> (have hc2 := hc; try simp at hc2)) | (with_reducible refine Br_split (fun hc => ?_) (fun hc => ?_) <;> (have hc2 := hc; try simp at hc2)) | (with_reducible refine GdT_split (fun hc => ?_) (fun hc => ?_) <;> (have hc2 := hc; try simp at hc2)) | (with_reducible refine WT_alt ?_ ?_) | omega)
  have q1 : es.length ≤ 16777216 := by omega
  have q2 : szD Eff.nums es ≤ 16777216 := by omega
  have q3 : ss.length ≤ 16777216 := by omega
  have q4 : szD Str.ro ss ≤ 16777216 := by omega
  clear hs hsz b20
  refine c_toSession hC hCI q1 q2 hS hSI q3 q4 (by omega) fun a1 a2 g1 d1 r1 hD1 hd1 hR1 hr1 _ => ?_
  have k1 := hD1.kept
  have n1 := k1.1
  have b21 := b2 _ k1
  have c1 := fun K lim => c_specCostOf (S := S) (K := K) (lim := lim) hD1.arr hD1.ins hR1.arr hR1.ins
  obtain ⟨z, ok, hz⟩ : ∃ z ok, costT (es.map (·.1)) (valS ss) = .tup [.lf (.int .i64 z), .lf (.bool ok)] := by unfold costT; split <;> exact ⟨_, _, rfl⟩
  simp only [hd1, hr1, hz] at c1
  repeat' (first | (simp (disch := first | omega | assumption | (simp only [List.length_set]; omega) | (simp [*] <;> fail) | assumption) [-Bool.decide_and, -Bool.decide_or, -Bool.not_and, -Bool.not_or, toNat_pred, toNat_succ, wrap64, wr_new, wr_new0, ok_if, ok_ifn, iadV_sl, makeV_int, decT, decF, over_at, *]) | (with_reducible refine Gd_split (fun hc => ?_) (fun hc => ?_) <;> (have hc2 := hc; try simp at hc2)) | (with_reducible refine Br_split (fun hc => ?_) (fun hc => ?_) <;> (have hc2 := hc; try simp at hc2)) | (with_reducible refine GdT_split (fun hc => ?_) (fun hc => ?_) <;> (have hc2 := hc; try simp at hc2)) | (with_reducible refine WT_alt ?_ ?_) | omega)
  refine c_toSession (hC.kept k1) (hCI.kept k1) q1 q2 (hS.kept k1) (hSI.kept k1) q3 q4 (by omega) fun a3 a4 g2 d2 r2 hD2 hd2 hR2 hr2 _ => ?_
  have k2 := k1.trans hD2.kept
  have n2 := k2.1
  have b22 := fun t => b2 _ (k2.trans (Kept.app g2 t))
  have c2 := fun t K lim => c_implCostOf (S := S) (h := g2 ++ t) (K := K) (lim := lim) hD2.arr.app (hD2.ins.kept (Kept.app _ _)) hR2.arr.app (hR2.ins.kept (Kept.app _ _))
  simp only [hd2, hr2, hz] at c2
  clear hz
  clear c1 b21 hD1 hR1 hd1 hr1
  repeat' (first | (simp (disch := first | omega | assumption | (simp only [List.length_set]; omega) | (simp [*] <;> fail) | assumption) [-Bool.decide_and, -Bool.decide_or, -Bool.not_and, -Bool.not_or, toNat_pred, toNat_succ, wrap64, wr_new, wr_new0, ok_if, ok_ifn, iadV_sl, makeV_int, decT, decF, over_at, *, leavesAll, fillL]) | (with_reducible refine Gd_split (fun hc => ?_) (fun hc => ?_) <;> (have hc2 := hc; try simp at hc2)) | (with_reducible refine Br_split (fun hc => ?_) (fun hc => ?_) <;> (have hc2 := hc; try simp at hc2)) | (with_reducible refine GdT_split (fun hc => ?_) (fun hc => ?_) <;> (have hc2 := hc; try simp at hc2)) | (with_reducible refine WT_alt ?_ ?_) | omega)
  all_goals
    have k3 := k2.trans (Kept.app g2 [⟨[a3, a4], .own 46 1⟩])
    refine c_toSession (hC.kept k3) (hCI.kept k3) q1 q2 (hS.kept k3) (hSI.kept k3) q3 q4 (by simp; omega) fun a5 a6 g3 d3 r3 hD3 hd3 hR3 hr3 _ => ?_
    have k4 := (Kept.app g2 [⟨[a3, a4], .own 46 1⟩]).trans hD3.kept
    have bx : rdCells g3 g2.length 0 2 = some [a3, a4] := hD3.kept.rd (Cel.new.rd (by simp))
    have ce := fun K lim => c_eqSession (S := S) (K := K) (lim := lim) (hD2.arr.kept k4) (hD2.ins.kept k4) hD3.arr hD3.ins (hd3.trans hd2.symm) (hR2.arr.kept k4) (hR2.ins.kept k4) hR3.arr hR3.ins (hr3.trans hr2.symm)
    repeat' (first | (simp (disch := first | omega | assumption | (simp only [List.length_set]; omega) | (simp [*] <;> fail) | assumption) [-Bool.decide_and, -Bool.decide_or, -Bool.not_and, -Bool.not_or, toNat_pred, toNat_succ, wrap64, wr_new, wr_new0, ok_if, ok_ifn, iadV_sl, makeV_int, decT, decF, over_at, *]) | (with_reducible refine Gd_split (fun hc => ?_) (fun hc => ?_) <;> (have hc2 := hc; try simp at hc2)) | (with_reducible refine Br_split (fun hc => ?_) (fun hc => ?_) <;> (have hc2 := hc; try simp at hc2)) | (with_reducible refine GdT_split (fun hc => ?_) (fun hc => ?_) <;> (have hc2 := hc; try simp at hc2)) | (with_reducible refine WT_alt ?_ ?_) | omega)
end Go.E
namespace Go.E.CostOf
open Go Go.E
def pure : FuncId → Bool := fun f => List.elem f [3, 4, 5, 6, 7, 8, 9, 10, 11, 13, 14, 16, 18, 19, 20, 22, 23, 24, 28, 30, 31, 32, 36, 38, 39, 40, 45, 47, 51, 55, 57, 58, 59, 60, 62, 63, 64, 65, 67, 68, 69, 70, 73, 74, 75, 76, 77, 78, 79, 80, 81, 82, 83, 84, 85, 87, 90, 91, 95, 96, 99, 100, 101, 102, 103, 106, 108, 111, 112, 113, 115, 116, 118, 122, 124, 127, 128, 129, 130, 131, 132, 133, 134, 135, 136, 138, 139, 140, 142, 145, 146, 147, 148, 150, 151, 152, 153, 154, 155, 159, 161, 162, 163, 165, 166, 168, 169, 173, 174, 175, 176, 177, 178, 179, 180, 181, 182, 183, 184, 186, 187, 188, 189, 192, 193, 194, 195, 196, 197, 198, 199, 200, 201, 202, 204, 205, 206, 207, 208, 209, 210, 211, 212, 213, 214, 215, 216, 217, 218, 219, 220, 221, 222, 223, 224, 226, 228, 230, 237, 240]
def funs : List (Nat × LFn) := [(74, L74), (85, L85), (91, L91), (75, L75), (142, L142), (145, L145), (184, L184), (186, L186), (187, L187), (201, L201), (202, L202), (204, L204), (216, L216), (79, L79), (113, L113), (76, L76), (77, L77), (103, L103), (106, L106), (163, L163), (22, L22), (65, L65), (70, L70), (73, L73), (78, L78), (141, L141), (20, L20), (164, L164), (167, L167), (170, L170), (194, L194), (211, L211), (38, L38), (39, L39), (109, L109), (110, L110), (67, L67), (16, L16), (17, L17), (18, L18), (43, L43), (111, L111), (68, L68), (71, L71), (80, L80), (139, L139), (143, L143), (146, L146), (183, L183), (185, L185), (188, L188), (200, L200), (203, L203), (205, L205), (69, L69), (72, L72), (81, L81), (140, L140), (144, L144), (147, L147), (19, L19), (21, L21), (23, L23), (8, L8)]
def Sy : Sys := sysOf funs
theorem lfn74 : lFn Go.Proofs.Try.prog pure Go.Proofs.Try.f74 = some L74 := by kernel_rfl
theorem lfn85 : lFn Go.Proofs.Try.prog pure Go.Proofs.Try.f85 = some L85 := by kernel_rfl
theorem lfn91 : lFn Go.Proofs.Try.prog pure Go.Proofs.Try.f91 = some L91 := by kernel_rfl
theorem lfn75 : lFn Go.Proofs.Try.prog pure Go.Proofs.Try.f75 = some L75 := by kernel_rfl
theorem lfn142 : lFn Go.Proofs.Try.prog pure Go.Proofs.Try.f142 = some L142 := by kernel_rfl
theorem lfn145 : lFn Go.Proofs.Try.prog pure Go.Proofs.Try.f145 = some L145 := by kernel_rfl
theorem lfn184 : lFn Go.Proofs.Try.prog pure Go.Proofs.Try.f184 = some L184 := by kernel_rfl
theorem lfn186 : lFn Go.Proofs.Try.prog pure Go.Proofs.Try.f186 = some L186 := by kernel_rfl
theorem lfn187 : lFn Go.Proofs.Try.prog pure Go.Proofs.Try.f187 = some L187 := by kernel_rfl
theorem lfn201 : lFn Go.Proofs.Try.prog pure Go.Proofs.Try.f201 = some L201 := by kernel_rfl
theorem lfn202 : lFn Go.Proofs.Try.prog pure Go.Proofs.Try.f202 = some L202 := by kernel_rfl
theorem lfn204 : lFn Go.Proofs.Try.prog pure Go.Proofs.Try.f204 = some L204 := by kernel_rfl
theorem lfn216 : lFn Go.Proofs.Try.prog pure Go.Proofs.Try.f216 = some L216 := by kernel_rfl
theorem lfn79 : lFn Go.Proofs.Try.prog pure Go.Proofs.Try.f79 = some L79 := by kernel_rfl
theorem lfn113 : lFn Go.Proofs.Try.prog pure Go.Proofs.Try.f113 = some L113 := by kernel_rfl
theorem lfn76 : lFn Go.Proofs.Try.prog pure Go.Proofs.Try.f76 = some L76 := by kernel_rfl
theorem lfn77 : lFn Go.Proofs.Try.prog pure Go.Proofs.Try.f77 = some L77 := by kernel_rfl
theorem lfn103 : lFn Go.Proofs.Try.prog pure Go.Proofs.Try.f103 = some L103 := by kernel_rfl
theorem lfn106 : lFn Go.Proofs.Try.prog pure Go.Proofs.Try.f106 = some L106 := by kernel_rfl
theorem lfn163 : lFn Go.Proofs.Try.prog pure Go.Proofs.Try.f163 = some L163 := by kernel_rfl
theorem lfn22 : lFn Go.Proofs.Try.prog pure Go.Proofs.Try.f22 = some L22 := by kernel_rfl
theorem lfn65 : lFn Go.Proofs.Try.prog pure Go.Proofs.Try.f65 = some L65 := by kernel_rfl
theorem lfn70 : lFn Go.Proofs.Try.prog pure Go.Proofs.Try.f70 = some L70 := by kernel_rfl
theorem lfn73 : lFn Go.Proofs.Try.prog pure Go.Proofs.Try.f73 = some L73 := by kernel_rfl
theorem lfn78 : lFn Go.Proofs.Try.prog pure Go.Proofs.Try.f78 = some L78 := by kernel_rfl
theorem lfn141 : lFn Go.Proofs.Try.prog pure Go.Proofs.Try.f141 = some L141 := by kernel_rfl
theorem lfn20 : lFn Go.Proofs.Try.prog pure Go.Proofs.Try.f20 = some L20 := by kernel_rfl
theorem lfn164 : lFn Go.Proofs.Try.prog pure Go.Proofs.Try.f164 = some L164 := by kernel_rfl
theorem lfn167 : lFn Go.Proofs.Try.prog pure Go.Proofs.Try.f167 = some L167 := by kernel_rfl
theorem lfn170 : lFn Go.Proofs.Try.prog pure Go.Proofs.Try.f170 = some L170 := by kernel_rfl
theorem lfn194 : lFn Go.Proofs.Try.prog pure Go.Proofs.Try.f194 = some L194 := by kernel_rfl
theorem lfn211 : lFn Go.Proofs.Try.prog pure Go.Proofs.Try.f211 = some L211 := by kernel_rfl
theorem lfn38 : lFn Go.Proofs.Try.prog pure Go.Proofs.Try.f38 = some L38 := by kernel_rfl
theorem lfn39 : lFn Go.Proofs.Try.prog pure Go.Proofs.Try.f39 = some L39 := by kernel_rfl
theorem lfn109 : lFn Go.Proofs.Try.prog pure Go.Proofs.Try.f109 = some L109 := by kernel_rfl
theorem lfn110 : lFn Go.Proofs.Try.prog pure Go.Proofs.Try.f110 = some L110 := by kernel_rfl
theorem lfn67 : lFn Go.Proofs.Try.prog pure Go.Proofs.Try.f67 = some L67 := by kernel_rfl
theorem lfn16 : lFn Go.Proofs.Try.prog pure Go.Proofs.Try.f16 = some L16 := by kernel_rfl
theorem lfn17 : lFn Go.Proofs.Try.prog pure Go.Proofs.Try.f17 = some L17 := by kernel_rfl
theorem lfn18 : lFn Go.Proofs.Try.prog pure Go.Proofs.Try.f18 = some L18 := by kernel_rfl
theorem lfn43 : lFn Go.Proofs.Try.prog pure Go.Proofs.Try.f43 = some L43 := by kernel_rfl
theorem lfn111 : lFn Go.Proofs.Try.prog pure Go.Proofs.Try.f111 = some L111 := by kernel_rfl
theorem lfn68 : lFn Go.Proofs.Try.prog pure Go.Proofs.Try.f68 = some L68 := by kernel_rfl
theorem lfn71 : lFn Go.Proofs.Try.prog pure Go.Proofs.Try.f71 = some L71 := by kernel_rfl
theorem lfn80 : lFn Go.Proofs.Try.prog pure Go.Proofs.Try.f80 = some L80 := by kernel_rfl
theorem lfn139 : lFn Go.Proofs.Try.prog pure Go.Proofs.Try.f139 = some L139 := by kernel_rfl
theorem lfn143 : lFn Go.Proofs.Try.prog pure Go.Proofs.Try.f143 = some L143 := by kernel_rfl
theorem lfn146 : lFn Go.Proofs.Try.prog pure Go.Proofs.Try.f146 = some L146 := by kernel_rfl
theorem lfn183 : lFn Go.Proofs.Try.prog pure Go.Proofs.Try.f183 = some L183 := by kernel_rfl
theorem lfn185 : lFn Go.Proofs.Try.prog pure Go.Proofs.Try.f185 = some L185 := by kernel_rfl
theorem lfn188 : lFn Go.Proofs.Try.prog pure Go.Proofs.Try.f188 = some L188 := by kernel_rfl
theorem lfn200 : lFn Go.Proofs.Try.prog pure Go.Proofs.Try.f200 = some L200 := by kernel_rfl
theorem lfn203 : lFn Go.Proofs.Try.prog pure Go.Proofs.Try.f203 = some L203 := by kernel_rfl
theorem lfn205 : lFn Go.Proofs.Try.prog pure Go.Proofs.Try.f205 = some L205 := by kernel_rfl
theorem lfn69 : lFn Go.Proofs.Try.prog pure Go.Proofs.Try.f69 = some L69 := by kernel_rfl
theorem lfn72 : lFn Go.Proofs.Try.prog pure Go.Proofs.Try.f72 = some L72 := by kernel_rfl
theorem lfn81 : lFn Go.Proofs.Try.prog pure Go.Proofs.Try.f81 = some L81 := by kernel_rfl
theorem lfn140 : lFn Go.Proofs.Try.prog pure Go.Proofs.Try.f140 = some L140 := by kernel_rfl
theorem lfn144 : lFn Go.Proofs.Try.prog pure Go.Proofs.Try.f144 = some L144 := by kernel_rfl
theorem lfn147 : lFn Go.Proofs.Try.prog pure Go.Proofs.Try.f147 = some L147 := by kernel_rfl
theorem lfn19 : lFn Go.Proofs.Try.prog pure Go.Proofs.Try.f19 = some L19 := by kernel_rfl
theorem lfn21 : lFn Go.Proofs.Try.prog pure Go.Proofs.Try.f21 = some L21 := by kernel_rfl
theorem lfn23 : lFn Go.Proofs.Try.prog pure Go.Proofs.Try.f23 = some L23 := by kernel_rfl
theorem lfn8 : lFn Go.Proofs.Try.prog pure Go.Proofs.Try.f8 = some L8 := by kernel_rfl
instance : HasA Sy := { f74 := rfl, f85 := rfl, f91 := rfl }
instance : HasEf Sy := { f75 := rfl, f142 := rfl, f145 := rfl, f184 := rfl, f186 := rfl, f187 := rfl, f201 := rfl, f202 := rfl, f204 := rfl, f216 := rfl }
instance : HasP Sy := { f79 := rfl, f113 := rfl }
instance : HasTk Sy := { f76 := rfl, f77 := rfl, f103 := rfl, f106 := rfl, f163 := rfl }
instance : HasSv Sy := { f22 := rfl, f65 := rfl, f70 := rfl, f73 := rfl, f78 := rfl, f141 := rfl }
instance : HasVs Sy := { f20 := rfl }
instance : HasHd Sy := { f164 := rfl, f167 := rfl, f170 := rfl, f194 := rfl, f211 := rfl }
instance : HasCt Sy := { f38 := rfl, f39 := rfl, f109 := rfl, f110 := rfl }
instance : HasSame Sy := { f67 := rfl }
instance : HasF Sy := { f16 := rfl, f17 := rfl, f18 := rfl, f43 := rfl }
instance : HasSz Sy := { f111 := rfl }
instance : HasDC Sy := { f68 := rfl, f71 := rfl, f80 := rfl, f139 := rfl, f143 := rfl, f146 := rfl }
instance : HasDE Sy := { f183 := rfl, f185 := rfl, f188 := rfl, f200 := rfl, f203 := rfl, f205 := rfl }
instance : HasDP Sy := { f69 := rfl, f72 := rfl, f81 := rfl, f140 := rfl, f144 := rfl, f147 := rfl }
instance : HasDN Sy := { f19 := rfl, f21 := rfl, f23 := rfl }
instance : HasLCostOf Sy := { f8 := rfl }
theorem sysOK {B : Nat} {w0 : World} : SysOK Go.Proofs.Try.prog pure Sy B w0 := SysOK.of (by
  intro p hp
  simp only [funs, List.mem_cons, List.not_mem_nil, or_false] at hp
  rcases hp with rfl | rfl | rfl | rfl | rfl | rfl | rfl | rfl | rfl | rfl | rfl | rfl | rfl | rfl | rfl | rfl | rfl | rfl | rfl | rfl | rfl | rfl | rfl | rfl | rfl | rfl | rfl | rfl | rfl | rfl | rfl | rfl | rfl | rfl | rfl | rfl | rfl | rfl | rfl | rfl | rfl | rfl | rfl | rfl | rfl | rfl | rfl | rfl | rfl | rfl | rfl | rfl | rfl | rfl | rfl | rfl | rfl | rfl | rfl | rfl | rfl | rfl | rfl | rfl
  · exact ⟨_, Go.Proofs.Try.func74, lfn74⟩
  · exact ⟨_, Go.Proofs.Try.func85, lfn85⟩
  · exact ⟨_, Go.Proofs.Try.func91, lfn91⟩
  · exact ⟨_, Go.Proofs.Try.func75, lfn75⟩
  · exact ⟨_, Go.Proofs.Try.func142, lfn142⟩
  · exact ⟨_, Go.Proofs.Try.func145, lfn145⟩
  · exact ⟨_, Go.Proofs.Try.func184, lfn184⟩
  · exact ⟨_, Go.Proofs.Try.func186, lfn186⟩
  · exact ⟨_, Go.Proofs.Try.func187, lfn187⟩
  · exact ⟨_, Go.Proofs.Try.func201, lfn201⟩
  · exact ⟨_, Go.Proofs.Try.func202, lfn202⟩
  · exact ⟨_, Go.Proofs.Try.func204, lfn204⟩
  · exact ⟨_, Go.Proofs.Try.func216, lfn216⟩
  · exact ⟨_, Go.Proofs.Try.func79, lfn79⟩
  · exact ⟨_, Go.Proofs.Try.func113, lfn113⟩
  · exact ⟨_, Go.Proofs.Try.func76, lfn76⟩
  · exact ⟨_, Go.Proofs.Try.func77, lfn77⟩
  · exact ⟨_, Go.Proofs.Try.func103, lfn103⟩
  · exact ⟨_, Go.Proofs.Try.func106, lfn106⟩
  · exact ⟨_, Go.Proofs.Try.func163, lfn163⟩
  · exact ⟨_, Go.Proofs.Try.func22, lfn22⟩
  · exact ⟨_, Go.Proofs.Try.func65, lfn65⟩
  · exact ⟨_, Go.Proofs.Try.func70, lfn70⟩
  · exact ⟨_, Go.Proofs.Try.func73, lfn73⟩
  · exact ⟨_, Go.Proofs.Try.func78, lfn78⟩
  · exact ⟨_, Go.Proofs.Try.func141, lfn141⟩
  · exact ⟨_, Go.Proofs.Try.func20, lfn20⟩
  · exact ⟨_, Go.Proofs.Try.func164, lfn164⟩
  · exact ⟨_, Go.Proofs.Try.func167, lfn167⟩
  · exact ⟨_, Go.Proofs.Try.func170, lfn170⟩
  · exact ⟨_, Go.Proofs.Try.func194, lfn194⟩
  · exact ⟨_, Go.Proofs.Try.func211, lfn211⟩
  · exact ⟨_, Go.Proofs.Try.func38, lfn38⟩
  · exact ⟨_, Go.Proofs.Try.func39, lfn39⟩
  · exact ⟨_, Go.Proofs.Try.func109, lfn109⟩
  · exact ⟨_, Go.Proofs.Try.func110, lfn110⟩
  · exact ⟨_, Go.Proofs.Try.func67, lfn67⟩
  · exact ⟨_, Go.Proofs.Try.func16, lfn16⟩
  · exact ⟨_, Go.Proofs.Try.func17, lfn17⟩
  · exact ⟨_, Go.Proofs.Try.func18, lfn18⟩
  · exact ⟨_, Go.Proofs.Try.func43, lfn43⟩
  · exact ⟨_, Go.Proofs.Try.func111, lfn111⟩
  · exact ⟨_, Go.Proofs.Try.func68, lfn68⟩
  · exact ⟨_, Go.Proofs.Try.func71, lfn71⟩
  · exact ⟨_, Go.Proofs.Try.func80, lfn80⟩
  · exact ⟨_, Go.Proofs.Try.func139, lfn139⟩
  · exact ⟨_, Go.Proofs.Try.func143, lfn143⟩
  · exact ⟨_, Go.Proofs.Try.func146, lfn146⟩
  · exact ⟨_, Go.Proofs.Try.func183, lfn183⟩
  · exact ⟨_, Go.Proofs.Try.func185, lfn185⟩
  · exact ⟨_, Go.Proofs.Try.func188, lfn188⟩
  · exact ⟨_, Go.Proofs.Try.func200, lfn200⟩
  · exact ⟨_, Go.Proofs.Try.func203, lfn203⟩
  · exact ⟨_, Go.Proofs.Try.func205, lfn205⟩
  · exact ⟨_, Go.Proofs.Try.func69, lfn69⟩
  · exact ⟨_, Go.Proofs.Try.func72, lfn72⟩
  · exact ⟨_, Go.Proofs.Try.func81, lfn81⟩
  · exact ⟨_, Go.Proofs.Try.func140, lfn140⟩
  · exact ⟨_, Go.Proofs.Try.func144, lfn144⟩
  · exact ⟨_, Go.Proofs.Try.func147, lfn147⟩
  · exact ⟨_, Go.Proofs.Try.func19, lfn19⟩
  · exact ⟨_, Go.Proofs.Try.func21, lfn21⟩
  · exact ⟨_, Go.Proofs.Try.func23, lfn23⟩
  · exact ⟨_, Go.Proofs.Try.func8, lfn8⟩)

end Go.E.CostOf
