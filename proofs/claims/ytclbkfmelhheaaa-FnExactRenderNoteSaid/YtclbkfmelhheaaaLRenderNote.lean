/- The law of RenderNote: what the evaluator finds. -/
import Derived.Test.YtclbkfmelhheaaaMRn
import Derived.Test.YtclbkfmelhheaaaMC
import Derived.Test.YtclbkfmelhheaaaEE
import Derived.Test.YtclbkfmelhheaaaProg
set_option linter.unusedVariables false
set_option linter.unusedSimpArgs false
namespace Go.E
open Go
def L3 : LFn := ⟨4, (.seq (.reg [⟨(.some 5), (.box 24 (.t 1)), none⟩, ⟨(.some 6), (.box 26 (.t 2)), none⟩, ⟨(.some 8), (.mv (.c (.lf (.bool false)))), none⟩])
 (.seq (.reg [⟨(.some 18), (.mv (.t 0)), none⟩, ⟨(.some 19), (.load true 4 (.t 5)), none⟩, ⟨(.some 20), (.call true 13 [(.t 19)]), none⟩, ⟨(.some 21), (.load true 4 (.t 6)), none⟩, ⟨(.some 22), (.call true 14 [(.t 21)]), none⟩, ⟨(.some 23), (.mv (.t 3)), none⟩, ⟨(.some 24), (.call false 12 [(.t 18), (.t 20), (.t 22), (.t 23)]), none⟩, ⟨(.some 17), (.mv (.t 24)), none⟩, ⟨(.some 25), (.ext (.t 17) 0), none⟩, ⟨(.some 26), (.ext (.t 17) 1), none⟩, ⟨(.some 9), (.mv (.t 25)), none⟩, ⟨(.some 10), (.mv (.t 26)), none⟩])
 (.seq (.reg [⟨(.some 28), (.mv (.t 0)), none⟩, ⟨(.some 29), (.load true 4 (.t 5)), none⟩, ⟨(.some 30), (.call true 13 [(.t 29)]), none⟩, ⟨(.some 31), (.load true 4 (.t 6)), none⟩, ⟨(.some 32), (.call true 14 [(.t 31)]), none⟩, ⟨(.some 33), (.mv (.t 3)), none⟩, ⟨(.some 34), (.call false 15 [(.t 28), (.t 30), (.t 32), (.t 33)]), none⟩, ⟨(.some 27), (.mv (.t 34)), none⟩, ⟨(.some 35), (.ext (.t 27) 0), none⟩, ⟨(.some 36), (.ext (.t 27) 1), none⟩, ⟨(.some 11), (.mv (.t 35)), none⟩, ⟨(.some 12), (.mv (.t 36)), none⟩])
 (.seq (.seq (.reg [⟨(.some 37), (.mv (.t 11)), none⟩, ⟨(.some 38), (.mv (.t 9)), none⟩, ⟨(.some 39), (.call true 16 [(.t 37), (.t 38)]), none⟩, ⟨(.some 40), (.una .not (.t 39)), none⟩, ⟨(.some 41), (.mv (.t 40)), none⟩, ⟨(.some 42), (.mv (.t 12)), (.some (41, false))⟩, ⟨(.some 43), (.mv (.t 10)), (.some (41, false))⟩, ⟨(.some 44), (.beq true (.t 42) (.t 43)), (.some (41, false))⟩, ⟨(.some 45), (.pick (.t 41) (.c (.lf (.bool true))) (.t 44)), none⟩])
 (.cond (.t 45) (.seq (.reg [⟨(.some 8), (.mv (.c (.lf (.bool false)))), none⟩])
 .ret) .skip))
 (.seq (.reg [⟨(.some 13), (.mv (.c (.lf (.int .i64 1)))), none⟩])
 (.seq (.reg [⟨(.some 46), (.mv (.t 11)), none⟩, ⟨(.some 47), (.mv (.t 13)), none⟩, ⟨(.some 48), (.call false 17 [(.t 46), (.t 47)]), none⟩, ⟨(.some 13), (.mv (.t 48)), none⟩])
 (.seq (.reg [⟨(.some 14), (.mv (.c (.lf (.int .i64 1)))), none⟩])
 (.seq (.reg [⟨(.some 49), (.mv (.t 11)), none⟩, ⟨(.some 50), (.mv (.t 14)), none⟩, ⟨(.some 51), (.call true 18 [(.t 49), (.t 50)]), none⟩, ⟨(.some 14), (.mv (.t 51)), none⟩])
 (.seq (.seq (.reg [⟨(.some 52), (.mv (.t 14)), none⟩, ⟨(.some 53), (.bin .lss (.t 52) (.c (.lf (.int .i64 0)))), none⟩])
 (.cond (.t 53) (.seq (.reg [⟨(.some 8), (.mv (.c (.lf (.bool false)))), none⟩])
 .ret) .skip))
 (.seq (.seq (.reg [⟨(.some 54), (.mv (.t 14)), none⟩, ⟨(.some 55), (.mv (.t 13)), none⟩, ⟨(.some 56), (.bin .neq (.t 54) (.t 55)), none⟩])
 (.cond (.t 56) (.seq (.reg [⟨(.some 8), (.mv (.c (.lf (.bool false)))), none⟩])
 .ret) .skip))
 (.seq (.reg [⟨(.some 58), (.mv (.t 0)), none⟩, ⟨(.some 59), (.load true 4 (.t 5)), none⟩, ⟨(.some 60), (.call true 13 [(.t 59)]), none⟩, ⟨(.some 61), (.load true 4 (.t 6)), none⟩, ⟨(.some 62), (.call true 14 [(.t 61)]), none⟩, ⟨(.some 63), (.mv (.t 3)), none⟩, ⟨(.some 64), (.call false 15 [(.t 58), (.t 60), (.t 62), (.t 63)]), none⟩, ⟨(.some 57), (.mv (.t 64)), none⟩, ⟨(.some 65), (.ext (.t 57) 0), none⟩, ⟨(.some 66), (.ext (.t 57) 1), none⟩, ⟨(.some 15), (.mv (.t 65)), none⟩, ⟨(.some 16), (.mv (.t 66)), none⟩])
 (.seq (.seq (.reg [⟨(.some 67), (.mv (.t 15)), none⟩, ⟨(.some 68), (.mv (.t 9)), none⟩, ⟨(.some 69), (.call true 16 [(.t 67), (.t 68)]), none⟩, ⟨(.some 70), (.una .not (.t 69)), none⟩, ⟨(.some 71), (.mv (.t 70)), none⟩, ⟨(.some 72), (.mv (.t 16)), (.some (71, false))⟩, ⟨(.some 73), (.mv (.t 10)), (.some (71, false))⟩, ⟨(.some 74), (.beq true (.t 72) (.t 73)), (.some (71, false))⟩, ⟨(.some 75), (.pick (.t 71) (.c (.lf (.bool true))) (.t 74)), none⟩])
 (.cond (.t 75) (.seq (.reg [⟨(.some 8), (.mv (.c (.lf (.bool false)))), none⟩])
 .ret) .skip))
 (.seq (.reg [⟨(.some 14), (.mv (.c (.lf (.int .i64 1)))), none⟩])
 (.seq (.reg [⟨(.some 76), (.mv (.t 11)), none⟩, ⟨(.some 77), (.mv (.t 14)), none⟩, ⟨(.some 78), (.call true 18 [(.t 76), (.t 77)]), none⟩, ⟨(.some 14), (.mv (.t 78)), none⟩])
 (.seq (.seq (.reg [⟨(.some 79), (.mv (.t 14)), none⟩, ⟨(.some 80), (.bin .lss (.t 79) (.c (.lf (.int .i64 0)))), none⟩])
 (.cond (.t 80) (.seq (.reg [⟨(.some 8), (.mv (.c (.lf (.bool false)))), none⟩])
 .ret) .skip))
 (.seq (.seq (.reg [⟨(.some 81), (.mv (.t 14)), none⟩, ⟨(.some 82), (.mv (.t 13)), none⟩, ⟨(.some 83), (.bin .neq (.t 81) (.t 82)), none⟩])
 (.cond (.t 83) (.seq (.reg [⟨(.some 8), (.mv (.c (.lf (.bool false)))), none⟩])
 .ret) .skip))
 (.seq (.reg [⟨(.some 8), (.mv (.c (.lf (.bool true)))), none⟩])
 .ret))))))))))))))))), [(.tmp 8)]⟩
class HasLRenderNote (S : Sys) : Prop extends HasRt S, HasSame S, HasF S where
  f3 : S.fs 3 = some L3
def envSh : Sh := .cat 1 (.int .i64) (.cat 1 (.int .i64) (.cat 1 (.flt .f32) (.cat 1 (.int .i64) .emp)))
def noteSh : Sh := .cat 1 (.int .i64) (.cat 1 (.int .i64) (.cat 1 (.int .i64) (.cat 1 (.flt .f32) .emp)))
theorem env_of {h : Hp} {r : List Lf} (t : Ty h envSh r) : ∃ a d s b, r = [.int .i64 a, .int .i64 d, .flt .f32 s, .int .i64 b] := by
  obtain ⟨l1, l2, rfl, _, ⟨a, rfl, _⟩, l3, l4, rfl, _, ⟨d, rfl, _⟩, l5, l6, rfl, _, ⟨s, rfl, _, _⟩, l7, l8, rfl, _, ⟨b, rfl, _⟩, rfl⟩ := t
  exact ⟨a, d, s, b, rfl⟩
theorem note_of {h : Hp} {r : List Lf} (t : Ty h noteSh r) : ∃ a d s b, r = [.int .i64 a, .int .i64 d, .int .i64 s, .flt .f32 b] := by
  obtain ⟨l1, l2, rfl, _, ⟨a, rfl, _⟩, l3, l4, rfl, _, ⟨d, rfl, _⟩, l5, l6, rfl, _, ⟨s, rfl, _⟩, l7, l8, rfl, _, ⟨b, rfl, _, _⟩, rfl⟩ := t
  exact ⟨a, d, s, b, rfl⟩
set_option maxRecDepth 20000 in
set_option maxHeartbeats 4000000 in
theorem lawRenderNote {S : Sys} [HasLRenderNote S] : LawHolds S 3 [(false, .int .i64), (true, envSh), (true, noteSh), (false, .int .i64)] := by
  intro h cs hcs
  obtain ⟨c0, _, rfl, ⟨ls0, rfl, k, rfl, _⟩, c1, _, rfl, ⟨ls1, rfl, t1⟩, c2, _, rfl, ⟨ls2, rfl, t2⟩, c3, _, rfl, ⟨ls3, rfl, n, rfl, _⟩, rfl⟩ := hcs
  obtain ⟨a, d, s, r, rfl⟩ := env_of t1
  obtain ⟨b, u, p, gg, rfl⟩ := note_of t2
  clear t1 t2
  have hmk1 : mkV true [.int .i64 a, .int .i64 d, .flt .f32 s, .int .i64 r] = .agg [.int .i64 a, .int .i64 d, .flt .f32 s, .int .i64 r] := rfl
  have hmk2 : mkV true [.int .i64 b, .int .i64 u, .int .i64 p, .flt .f32 gg] = .agg [.int .i64 b, .int .i64 u, .int .i64 p, .flt .f32 gg] := rfl
  have hlo := rtR_len (k := k) (a := a) (d := d) (s := s) (r := r) (b := b) (u := u) (p := p) (g := gg) (n := n)
  have cs : ∀ {g K}, h.length ≤ g.length → (∀ o g', New g g' o 22 1 ((rtR k a d s r b u p gg n).map fl) → K (.tup [.lf o, .lf (.bool (decide (okRt k a d r b u p n)))]) g') → CallT S false 12 [.lf (.int .i64 k), .agg [.int .i64 a, .int .i64 d, .flt .f32 s, .int .i64 r], .agg [.int .i64 b, .int .i64 u, .int .i64 p, .flt .f32 gg], .lf (.int .i64 n)] g h.length K := fun hl hk => c_specRenderNote hl hk
  have ci : ∀ {g K}, h.length ≤ g.length → (∀ o g', New g g' o 22 1 ((rtR k a d s r b u p gg n).map fl) → K (.tup [.lf o, .lf (.bool (decide (okRt k a d r b u p n)))]) g') → CallT S false 15 [.lf (.int .i64 k), .agg [.int .i64 a, .int .i64 d, .flt .f32 s, .int .i64 r], .agg [.int .i64 b, .int .i64 u, .int .i64 p, .flt .f32 gg], .lf (.int .i64 n)] g h.length K := fun hl hk => c_implRenderNote hl hk
  generalize rtR k a d s r b u p gg n = y at *
  generalize decide (okRt k a d r b u p n) = ok at *
  refine law_of (F := L3) HasLRenderNote.f3 rfl ?_
  unfold L3
  dsimp only []
  have b5 : ∀ g, Kept (h ++ [⟨[.int .i64 a, .int .i64 d, .flt .f32 s, .int .i64 r], .own 24 1⟩, ⟨[.int .i64 b, .int .i64 u, .int .i64 p, .flt .f32 gg], .own 26 1⟩]) g → rdCells g h.length 0 4 = some [.int .i64 a, .int .i64 d, .flt .f32 s, .int .i64 r] := fun g k => k.rd (Cel.new.rd (by simp))
  have b6 : ∀ g, Kept (h ++ [⟨[.int .i64 a, .int .i64 d, .flt .f32 s, .int .i64 r], .own 24 1⟩, ⟨[.int .i64 b, .int .i64 u, .int .i64 p, .flt .f32 gg], .own 26 1⟩]) g → rdCells g (h.length + 1) 0 4 = some [.int .i64 b, .int .i64 u, .int .i64 p, .flt .f32 gg] := fun g k => k.rd (by simp)
  have b50 := b5 _ (Kept.refl _)
  have b60 := b6 _ (Kept.refl _)
  have hl1 : h.length + 2 ≤ (h ++ [⟨[.int .i64 a, .int .i64 d, .flt .f32 s, .int .i64 r], .own 24 1⟩, ⟨[.int .i64 b, .int .i64 u, .int .i64 p, .flt .f32 gg], .own 26 1⟩] : Hp).length := by simp
  repeat' (first | (simp (disch := first | omega | assumption | (simp only [List.length_set]; omega) | (simp [*] <;> fail) | assumption) [-Bool.decide_and, -Bool.decide_or, -Bool.not_and, -Bool.not_or, toNat_pred, toNat_succ, wrap64, wr_new, wr_new0, ok_if, ok_ifn, iadV_sl, makeV_int, decT, decF, over_at, *]) | (with_reducible refine Gd_split (fun hc => ?_) (fun hc => ?_) <;> (have hc2 := hc; try simp at hc2)) | (with_reducible refine Br_split (fun hc => ?_) (fun hc => ?_) <;> (have hc2 := hc; try simp at hc2)) | (with_reducible refine GdT_split (fun hc => ?_) (fun hc => ?_) <;> (have hc2 := hc; try simp at hc2)) | (with_reducible refine WT_alt ?_ ?_) | omega)
  clear b50 b60
  generalize (h ++ [⟨[.int .i64 a, .int .i64 d, .flt .f32 s, .int .i64 r], .own 24 1⟩, ⟨[.int .i64 b, .int .i64 u, .int .i64 p, .flt .f32 gg], .own 26 1⟩] : Hp) = h1 at *
  refine cs  (by omega) fun s0 g1 hs0  => ?_
  have K2 := (Kept.refl h1).trans hs0.kept
  have Q2 := hs0.kept.1
  have P2 := K2.1
  have Ns0 := hs0.base (Kept.refl h1)
  repeat' (first | (simp (disch := first | omega | assumption | (simp only [List.length_set]; omega) | (simp [*] <;> fail) | assumption) [-Bool.decide_and, -Bool.decide_or, -Bool.not_and, -Bool.not_or, toNat_pred, toNat_succ, wrap64, wr_new, wr_new0, ok_if, ok_ifn, iadV_sl, makeV_int, decT, decF, over_at, *]) | (with_reducible refine Gd_split (fun hc => ?_) (fun hc => ?_) <;> (have hc2 := hc; try simp at hc2)) | (with_reducible refine Br_split (fun hc => ?_) (fun hc => ?_) <;> (have hc2 := hc; try simp at hc2)) | (with_reducible refine GdT_split (fun hc => ?_) (fun hc => ?_) <;> (have hc2 := hc; try simp at hc2)) | (with_reducible refine WT_alt ?_ ?_) | omega)
  refine ci  (by omega) fun r0 g3 hr0  => ?_
  have Fr0s0 : Far r0 s0 := fun q1 q2 => by have := (Ns0.lt q2).2; have := (hr0.lt q1).1; omega
  have K4 := K2.trans hr0.kept
  have Q4 := hr0.kept.1
  have P4 := K4.1
  have Nr0 := hr0.base K2
  replace Ns0 := Ns0.later hr0.kept
  repeat' (first | (simp (disch := first | omega | assumption | (simp only [List.length_set]; omega) | (simp [*] <;> fail) | assumption) [-Bool.decide_and, -Bool.decide_or, -Bool.not_and, -Bool.not_or, toNat_pred, toNat_succ, wrap64, wr_new, wr_new0, ok_if, ok_ifn, iadV_sl, makeV_int, decT, decF, over_at, *, c_eqFloat32S Nr0.arr Ns0.arr]) | (with_reducible refine Gd_split (fun hc => ?_) (fun hc => ?_) <;> (have hc2 := hc; try simp at hc2)) | (with_reducible refine Br_split (fun hc => ?_) (fun hc => ?_) <;> (have hc2 := hc; try simp at hc2)) | (with_reducible refine GdT_split (fun hc => ?_) (fun hc => ?_) <;> (have hc2 := hc; try simp at hc2)) | (with_reducible refine WT_alt ?_ ?_) | omega)
  refine c_markFloat32S Nr0 (by simp; omega) (by omega) (by omega) (by omega) fun g5 hM5 hB5 => ?_
  have Q5 := hB5.len
  have K5 := hB5.kept K4 (fun hn => (Nr0.lt hn).1)
  replace Ns0 := hB5.new Ns0 (fun hn => (Nr0.lt hn).1) (fun q1 q2 => Fr0s0.symm q2 q1)
  simp only [List.length_map] at hM5
  replace Nr0 := hM5
  repeat' (first | (simp (disch := first | omega | assumption | (simp only [List.length_set]; omega) | (simp [*] <;> fail) | assumption) [-Bool.decide_and, -Bool.decide_or, -Bool.not_and, -Bool.not_or, toNat_pred, toNat_succ, wrap64, wr_new, wr_new0, ok_if, ok_ifn, iadV_sl, makeV_int, decT, decF, over_at, *, c_heldFloat32S Nr0.arr]) | (with_reducible refine Gd_split (fun hc => ?_) (fun hc => ?_) <;> (have hc2 := hc; try simp at hc2)) | (with_reducible refine Br_split (fun hc => ?_) (fun hc => ?_) <;> (have hc2 := hc; try simp at hc2)) | (with_reducible refine GdT_split (fun hc => ?_) (fun hc => ?_) <;> (have hc2 := hc; try simp at hc2)) | (with_reducible refine WT_alt ?_ ?_) | omega)
  refine ci  (by omega) fun u0 g6 hu0  => ?_
  have Fs0u0 : Far s0 u0 := fun q1 q2 => by have := (Ns0.lt q1).2; have := (hu0.lt q2).1; omega
  have Fr0u0 : Far r0 u0 := fun q1 q2 => by have := (Nr0.lt q1).2; have := (hu0.lt q2).1; omega
  have K7 := K5.trans hu0.kept
  have Q7 := hu0.kept.1
  have P7 := K7.1
  have Nu0 := hu0.base K5
  replace Ns0 := Ns0.later hu0.kept
  replace Nr0 := Nr0.later hu0.kept
  repeat' (first | (simp (disch := first | omega | assumption | (simp only [List.length_set]; omega) | (simp [*] <;> fail) | assumption) [-Bool.decide_and, -Bool.decide_or, -Bool.not_and, -Bool.not_or, toNat_pred, toNat_succ, wrap64, wr_new, wr_new0, ok_if, ok_ifn, iadV_sl, makeV_int, decT, decF, over_at, *, c_eqFloat32S Nu0.arr Ns0.arr, c_heldFloat32S Nr0.arr]) | (with_reducible refine Gd_split (fun hc => ?_) (fun hc => ?_) <;> (have hc2 := hc; try simp at hc2)) | (with_reducible refine Br_split (fun hc => ?_) (fun hc => ?_) <;> (have hc2 := hc; try simp at hc2)) | (with_reducible refine GdT_split (fun hc => ?_) (fun hc => ?_) <;> (have hc2 := hc; try simp at hc2)) | (with_reducible refine WT_alt ?_ ?_) | omega)
end Go.E
namespace Go.E.RenderNote
open Go Go.E
def pure : FuncId → Bool := fun f => List.elem f [3, 4, 5, 6, 7, 8, 9, 10, 11, 13, 14, 16, 18, 19, 20, 22, 23, 24, 28, 30, 31, 32, 36, 38, 39, 40, 45, 47, 51, 55, 57, 58, 59, 60, 62, 63, 64, 65, 67, 68, 69, 70, 73, 74, 75, 76, 77, 78, 79, 80, 81, 82, 83, 84, 85, 87, 90, 91, 95, 96, 99, 100, 101, 102, 103, 106, 108, 111, 112, 113, 115, 116, 118, 122, 124, 127, 128, 129, 130, 131, 132, 133, 134, 135, 136, 138, 139, 140, 142, 145, 146, 147, 148, 150, 151, 152, 153, 154, 155, 159, 161, 162, 163, 165, 166, 168, 169, 173, 174, 175, 176, 177, 178, 179, 180, 181, 182, 183, 184, 186, 187, 188, 189, 192, 193, 194, 195, 196, 197, 198, 199, 200, 201, 202, 204, 205, 206, 207, 208, 209, 210, 211, 212, 213, 214, 215, 216, 217, 218, 219, 220, 221, 222, 223, 224, 226, 228, 230, 237, 240]
def funs : List (Nat × LFn) := [(74, L74), (85, L85), (91, L91), (13, L13), (14, L14), (58, L58), (59, L59), (63, L63), (64, L64), (129, L129), (133, L133), (134, L134), (136, L136), (131, L131), (138, L138), (178, L178), (181, L181), (182, L182), (199, L199), (215, L215), (175, L175), (176, L176), (193, L193), (196, L196), (207, L207), (208, L208), (209, L209), (210, L210), (219, L219), (221, L221), (197, L197), (198, L198), (57, L57), (62, L62), (130, L130), (177, L177), (180, L180), (60, L60), (65, L65), (132, L132), (137, L137), (174, L174), (179, L179), (128, L128), (135, L135), (125, L125), (61, L61), (66, L66), (12, L12), (15, L15), (67, L67), (16, L16), (17, L17), (18, L18), (43, L43), (3, L3)]
def Sy : Sys := sysOf funs
theorem lfn74 : lFn Go.Proofs.Try.prog pure Go.Proofs.Try.f74 = some L74 := by kernel_rfl
theorem lfn85 : lFn Go.Proofs.Try.prog pure Go.Proofs.Try.f85 = some L85 := by kernel_rfl
theorem lfn91 : lFn Go.Proofs.Try.prog pure Go.Proofs.Try.f91 = some L91 := by kernel_rfl
theorem lfn13 : lFn Go.Proofs.Try.prog pure Go.Proofs.Try.f13 = some L13 := by kernel_rfl
theorem lfn14 : lFn Go.Proofs.Try.prog pure Go.Proofs.Try.f14 = some L14 := by kernel_rfl
theorem lfn58 : lFn Go.Proofs.Try.prog pure Go.Proofs.Try.f58 = some L58 := by kernel_rfl
theorem lfn59 : lFn Go.Proofs.Try.prog pure Go.Proofs.Try.f59 = some L59 := by kernel_rfl
theorem lfn63 : lFn Go.Proofs.Try.prog pure Go.Proofs.Try.f63 = some L63 := by kernel_rfl
theorem lfn64 : lFn Go.Proofs.Try.prog pure Go.Proofs.Try.f64 = some L64 := by kernel_rfl
theorem lfn129 : lFn Go.Proofs.Try.prog pure Go.Proofs.Try.f129 = some L129 := by kernel_rfl
theorem lfn133 : lFn Go.Proofs.Try.prog pure Go.Proofs.Try.f133 = some L133 := by kernel_rfl
theorem lfn134 : lFn Go.Proofs.Try.prog pure Go.Proofs.Try.f134 = some L134 := by kernel_rfl
theorem lfn136 : lFn Go.Proofs.Try.prog pure Go.Proofs.Try.f136 = some L136 := by kernel_rfl
theorem lfn131 : lFn Go.Proofs.Try.prog pure Go.Proofs.Try.f131 = some L131 := by kernel_rfl
theorem lfn138 : lFn Go.Proofs.Try.prog pure Go.Proofs.Try.f138 = some L138 := by kernel_rfl
theorem lfn178 : lFn Go.Proofs.Try.prog pure Go.Proofs.Try.f178 = some L178 := by kernel_rfl
theorem lfn181 : lFn Go.Proofs.Try.prog pure Go.Proofs.Try.f181 = some L181 := by kernel_rfl
theorem lfn182 : lFn Go.Proofs.Try.prog pure Go.Proofs.Try.f182 = some L182 := by kernel_rfl
theorem lfn199 : lFn Go.Proofs.Try.prog pure Go.Proofs.Try.f199 = some L199 := by kernel_rfl
theorem lfn215 : lFn Go.Proofs.Try.prog pure Go.Proofs.Try.f215 = some L215 := by kernel_rfl
theorem lfn175 : lFn Go.Proofs.Try.prog pure Go.Proofs.Try.f175 = some L175 := by kernel_rfl
theorem lfn176 : lFn Go.Proofs.Try.prog pure Go.Proofs.Try.f176 = some L176 := by kernel_rfl
theorem lfn193 : lFn Go.Proofs.Try.prog pure Go.Proofs.Try.f193 = some L193 := by kernel_rfl
theorem lfn196 : lFn Go.Proofs.Try.prog pure Go.Proofs.Try.f196 = some L196 := by kernel_rfl
theorem lfn207 : lFn Go.Proofs.Try.prog pure Go.Proofs.Try.f207 = some L207 := by kernel_rfl
theorem lfn208 : lFn Go.Proofs.Try.prog pure Go.Proofs.Try.f208 = some L208 := by kernel_rfl
theorem lfn209 : lFn Go.Proofs.Try.prog pure Go.Proofs.Try.f209 = some L209 := by kernel_rfl
theorem lfn210 : lFn Go.Proofs.Try.prog pure Go.Proofs.Try.f210 = some L210 := by kernel_rfl
theorem lfn219 : lFn Go.Proofs.Try.prog pure Go.Proofs.Try.f219 = some L219 := by kernel_rfl
theorem lfn221 : lFn Go.Proofs.Try.prog pure Go.Proofs.Try.f221 = some L221 := by kernel_rfl
theorem lfn197 : lFn Go.Proofs.Try.prog pure Go.Proofs.Try.f197 = some L197 := by kernel_rfl
theorem lfn198 : lFn Go.Proofs.Try.prog pure Go.Proofs.Try.f198 = some L198 := by kernel_rfl
theorem lfn57 : lFn Go.Proofs.Try.prog pure Go.Proofs.Try.f57 = some L57 := by kernel_rfl
theorem lfn62 : lFn Go.Proofs.Try.prog pure Go.Proofs.Try.f62 = some L62 := by kernel_rfl
theorem lfn130 : lFn Go.Proofs.Try.prog pure Go.Proofs.Try.f130 = some L130 := by kernel_rfl
theorem lfn177 : lFn Go.Proofs.Try.prog pure Go.Proofs.Try.f177 = some L177 := by kernel_rfl
theorem lfn180 : lFn Go.Proofs.Try.prog pure Go.Proofs.Try.f180 = some L180 := by kernel_rfl
theorem lfn60 : lFn Go.Proofs.Try.prog pure Go.Proofs.Try.f60 = some L60 := by kernel_rfl
theorem lfn65 : lFn Go.Proofs.Try.prog pure Go.Proofs.Try.f65 = some L65 := by kernel_rfl
theorem lfn132 : lFn Go.Proofs.Try.prog pure Go.Proofs.Try.f132 = some L132 := by kernel_rfl
theorem lfn137 : lFn Go.Proofs.Try.prog pure Go.Proofs.Try.f137 = some L137 := by kernel_rfl
theorem lfn174 : lFn Go.Proofs.Try.prog pure Go.Proofs.Try.f174 = some L174 := by kernel_rfl
theorem lfn179 : lFn Go.Proofs.Try.prog pure Go.Proofs.Try.f179 = some L179 := by kernel_rfl
theorem lfn128 : lFn Go.Proofs.Try.prog pure Go.Proofs.Try.f128 = some L128 := by kernel_rfl
theorem lfn135 : lFn Go.Proofs.Try.prog pure Go.Proofs.Try.f135 = some L135 := by kernel_rfl
theorem lfn125 : lFn Go.Proofs.Try.prog pure Go.Proofs.Try.f125 = some L125 := by kernel_rfl
theorem lfn61 : lFn Go.Proofs.Try.prog pure Go.Proofs.Try.f61 = some L61 := by kernel_rfl
theorem lfn66 : lFn Go.Proofs.Try.prog pure Go.Proofs.Try.f66 = some L66 := by kernel_rfl
theorem lfn12 : lFn Go.Proofs.Try.prog pure Go.Proofs.Try.f12 = some L12 := by kernel_rfl
theorem lfn15 : lFn Go.Proofs.Try.prog pure Go.Proofs.Try.f15 = some L15 := by kernel_rfl
theorem lfn67 : lFn Go.Proofs.Try.prog pure Go.Proofs.Try.f67 = some L67 := by kernel_rfl
theorem lfn16 : lFn Go.Proofs.Try.prog pure Go.Proofs.Try.f16 = some L16 := by kernel_rfl
theorem lfn17 : lFn Go.Proofs.Try.prog pure Go.Proofs.Try.f17 = some L17 := by kernel_rfl
theorem lfn18 : lFn Go.Proofs.Try.prog pure Go.Proofs.Try.f18 = some L18 := by kernel_rfl
theorem lfn43 : lFn Go.Proofs.Try.prog pure Go.Proofs.Try.f43 = some L43 := by kernel_rfl
theorem lfn3 : lFn Go.Proofs.Try.prog pure Go.Proofs.Try.f3 = some L3 := by kernel_rfl
instance : HasA Sy := { f74 := rfl, f85 := rfl, f91 := rfl }
instance : HasV Sy := { f13 := rfl, f14 := rfl, f58 := rfl, f59 := rfl, f63 := rfl, f64 := rfl, f129 := rfl, f133 := rfl, f134 := rfl, f136 := rfl }
instance : HasLv Sy := { f131 := rfl, f138 := rfl, f178 := rfl, f181 := rfl, f182 := rfl }
instance : HasFa Sy := { f199 := rfl, f215 := rfl }
instance : HasSi Sy := { f175 := rfl, f176 := rfl, f193 := rfl, f196 := rfl, f207 := rfl, f208 := rfl, f209 := rfl, f210 := rfl, f219 := rfl, f221 := rfl }
instance : HasFb Sy := { f197 := rfl, f198 := rfl }
instance : HasWv Sy := { f57 := rfl, f62 := rfl, f130 := rfl, f177 := rfl, f180 := rfl }
instance : HasOs Sy := { f60 := rfl, f65 := rfl, f132 := rfl, f137 := rfl }
instance : HasEx Sy := { f174 := rfl, f179 := rfl }
instance : HasSp Sy := { f128 := rfl, f135 := rfl }
instance : HasN Sy := { f125 := rfl }
instance : HasRn Sy := { f61 := rfl, f66 := rfl }
instance : HasRt Sy := { f12 := rfl, f15 := rfl }
instance : HasSame Sy := { f67 := rfl }
instance : HasF Sy := { f16 := rfl, f17 := rfl, f18 := rfl, f43 := rfl }
instance : HasLRenderNote Sy := { f3 := rfl }
theorem sysOK {B : Nat} {w0 : World} : SysOK Go.Proofs.Try.prog pure Sy B w0 := SysOK.of (by
  intro p hp
  simp only [funs, List.mem_cons, List.not_mem_nil, or_false] at hp
  rcases hp with rfl | rfl | rfl | rfl | rfl | rfl | rfl | rfl | rfl | rfl | rfl | rfl | rfl | rfl | rfl | rfl | rfl | rfl | rfl | rfl | rfl | rfl | rfl | rfl | rfl | rfl | rfl | rfl | rfl | rfl | rfl | rfl | rfl | rfl | rfl | rfl | rfl | rfl | rfl | rfl | rfl | rfl | rfl | rfl | rfl | rfl | rfl | rfl | rfl | rfl | rfl | rfl | rfl | rfl | rfl | rfl
  · exact ⟨_, Go.Proofs.Try.func74, lfn74⟩
  · exact ⟨_, Go.Proofs.Try.func85, lfn85⟩
  · exact ⟨_, Go.Proofs.Try.func91, lfn91⟩
  · exact ⟨_, Go.Proofs.Try.func13, lfn13⟩
  · exact ⟨_, Go.Proofs.Try.func14, lfn14⟩
  · exact ⟨_, Go.Proofs.Try.func58, lfn58⟩
  · exact ⟨_, Go.Proofs.Try.func59, lfn59⟩
  · exact ⟨_, Go.Proofs.Try.func63, lfn63⟩
  · exact ⟨_, Go.Proofs.Try.func64, lfn64⟩
  · exact ⟨_, Go.Proofs.Try.func129, lfn129⟩
  · exact ⟨_, Go.Proofs.Try.func133, lfn133⟩
  · exact ⟨_, Go.Proofs.Try.func134, lfn134⟩
  · exact ⟨_, Go.Proofs.Try.func136, lfn136⟩
  · exact ⟨_, Go.Proofs.Try.func131, lfn131⟩
  · exact ⟨_, Go.Proofs.Try.func138, lfn138⟩
  · exact ⟨_, Go.Proofs.Try.func178, lfn178⟩
  · exact ⟨_, Go.Proofs.Try.func181, lfn181⟩
  · exact ⟨_, Go.Proofs.Try.func182, lfn182⟩
  · exact ⟨_, Go.Proofs.Try.func199, lfn199⟩
  · exact ⟨_, Go.Proofs.Try.func215, lfn215⟩
  · exact ⟨_, Go.Proofs.Try.func175, lfn175⟩
  · exact ⟨_, Go.Proofs.Try.func176, lfn176⟩
  · exact ⟨_, Go.Proofs.Try.func193, lfn193⟩
  · exact ⟨_, Go.Proofs.Try.func196, lfn196⟩
  · exact ⟨_, Go.Proofs.Try.func207, lfn207⟩
  · exact ⟨_, Go.Proofs.Try.func208, lfn208⟩
  · exact ⟨_, Go.Proofs.Try.func209, lfn209⟩
  · exact ⟨_, Go.Proofs.Try.func210, lfn210⟩
  · exact ⟨_, Go.Proofs.Try.func219, lfn219⟩
  · exact ⟨_, Go.Proofs.Try.func221, lfn221⟩
  · exact ⟨_, Go.Proofs.Try.func197, lfn197⟩
  · exact ⟨_, Go.Proofs.Try.func198, lfn198⟩
  · exact ⟨_, Go.Proofs.Try.func57, lfn57⟩
  · exact ⟨_, Go.Proofs.Try.func62, lfn62⟩
  · exact ⟨_, Go.Proofs.Try.func130, lfn130⟩
  · exact ⟨_, Go.Proofs.Try.func177, lfn177⟩
  · exact ⟨_, Go.Proofs.Try.func180, lfn180⟩
  · exact ⟨_, Go.Proofs.Try.func60, lfn60⟩
  · exact ⟨_, Go.Proofs.Try.func65, lfn65⟩
  · exact ⟨_, Go.Proofs.Try.func132, lfn132⟩
  · exact ⟨_, Go.Proofs.Try.func137, lfn137⟩
  · exact ⟨_, Go.Proofs.Try.func174, lfn174⟩
  · exact ⟨_, Go.Proofs.Try.func179, lfn179⟩
  · exact ⟨_, Go.Proofs.Try.func128, lfn128⟩
  · exact ⟨_, Go.Proofs.Try.func135, lfn135⟩
  · exact ⟨_, Go.Proofs.Try.func125, lfn125⟩
  · exact ⟨_, Go.Proofs.Try.func61, lfn61⟩
  · exact ⟨_, Go.Proofs.Try.func66, lfn66⟩
  · exact ⟨_, Go.Proofs.Try.func12, lfn12⟩
  · exact ⟨_, Go.Proofs.Try.func15, lfn15⟩
  · exact ⟨_, Go.Proofs.Try.func67, lfn67⟩
  · exact ⟨_, Go.Proofs.Try.func16, lfn16⟩
  · exact ⟨_, Go.Proofs.Try.func17, lfn17⟩
  · exact ⟨_, Go.Proofs.Try.func18, lfn18⟩
  · exact ⟨_, Go.Proofs.Try.func43, lfn43⟩
  · exact ⟨_, Go.Proofs.Try.func3, lfn3⟩)

end Go.E.RenderNote
