/- The law of ImpulseOf: what the evaluator finds. -/
import Derived.Test.YtonfalhekphaeaaMIo
import Derived.Test.YtonfalhekphaeaaMC
import Derived.Test.YtonfalhekphaeaaEE
import Derived.Test.YtonfalhekphaeaaProg
set_option linter.unusedVariables false
set_option linter.unusedSimpArgs false
namespace Go.E
open Go
def L40 : LFn := ⟨1, (.seq (.reg [⟨(.some 1), (.box 56 (.t 0)), none⟩, ⟨(.some 2), (.alloc 58 [(.flt .f32 0), (.flt .f32 0), (.flt .f32 0), (.flt .f32 0), (.flt .f32 0)]), none⟩])
 (.seq (.reg [⟨(.some 3), (.alloc 58 [(.flt .f32 0), (.flt .f32 0), (.flt .f32 0), (.flt .f32 0), (.flt .f32 0)]), none⟩])
 (.seq (.reg [⟨(.some 4), (.faddr 0 (.t 1)), none⟩, ⟨(.some 5), (.load false 1 (.t 4)), none⟩, ⟨(.some 6), (.faddr 0 (.t 3)), none⟩, ⟨none, (.store 1 (.t 6) (.t 5)), none⟩])
 (.seq (.reg [⟨(.some 7), (.faddr 1 (.t 1)), none⟩, ⟨(.some 8), (.load false 1 (.t 7)), none⟩, ⟨(.some 9), (.faddr 1 (.t 3)), none⟩, ⟨none, (.store 1 (.t 9) (.t 8)), none⟩])
 (.seq (.reg [⟨(.some 10), (.faddr 2 (.t 1)), none⟩, ⟨(.some 11), (.load false 1 (.t 10)), none⟩, ⟨(.some 12), (.faddr 2 (.t 3)), none⟩, ⟨none, (.store 1 (.t 12) (.t 11)), none⟩])
 (.seq (.reg [⟨(.some 13), (.faddr 3 (.t 1)), none⟩, ⟨(.some 14), (.load false 1 (.t 13)), none⟩, ⟨(.some 15), (.faddr 3 (.t 3)), none⟩, ⟨none, (.store 1 (.t 15) (.t 14)), none⟩])
 (.seq (.reg [⟨(.some 16), (.faddr 4 (.t 1)), none⟩, ⟨(.some 17), (.load false 1 (.t 16)), none⟩, ⟨(.some 18), (.faddr 4 (.t 3)), none⟩, ⟨none, (.store 1 (.t 18) (.t 17)), none⟩])
 (.seq (.reg [⟨(.some 19), (.load true 5 (.t 3)), none⟩, ⟨none, (.store 5 (.t 2) (.t 19)), none⟩])
 .ret)))))))), [(.cell 2 true 5)]⟩
def L7 : LFn := ⟨3, (.seq (.reg [⟨(.some 3), (.box 56 (.t 0)), none⟩, ⟨(.some 6), (.mv (.c (.lf (.bool false)))), none⟩])
 (.seq (.reg [⟨(.some 16), (.load true 5 (.t 3)), none⟩, ⟨(.some 17), (.call true 40 [(.t 16)]), none⟩, ⟨(.some 18), (.mv (.t 1)), none⟩, ⟨(.some 19), (.mv (.t 2)), none⟩, ⟨(.some 20), (.call false 39 [(.t 17), (.t 18), (.t 19)]), none⟩, ⟨(.some 15), (.mv (.t 20)), none⟩, ⟨(.some 21), (.ext (.t 15) 0), none⟩, ⟨(.some 22), (.ext (.t 15) 1), none⟩, ⟨(.some 7), (.mv (.t 21)), none⟩, ⟨(.some 8), (.mv (.t 22)), none⟩])
 (.seq (.reg [⟨(.some 24), (.load true 5 (.t 3)), none⟩, ⟨(.some 25), (.call true 40 [(.t 24)]), none⟩, ⟨(.some 26), (.mv (.t 1)), none⟩, ⟨(.some 27), (.mv (.t 2)), none⟩, ⟨(.some 28), (.call false 41 [(.t 25), (.t 26), (.t 27)]), none⟩, ⟨(.some 23), (.mv (.t 28)), none⟩, ⟨(.some 29), (.ext (.t 23) 0), none⟩, ⟨(.some 30), (.ext (.t 23) 1), none⟩, ⟨(.some 9), (.mv (.t 29)), none⟩, ⟨(.some 10), (.mv (.t 30)), none⟩])
 (.seq (.seq (.reg [⟨(.some 31), (.mv (.t 9)), none⟩, ⟨(.some 32), (.mv (.t 7)), none⟩, ⟨(.some 33), (.call true 20 [(.t 31), (.t 32)]), none⟩, ⟨(.some 34), (.una .not (.t 33)), none⟩, ⟨(.some 35), (.mv (.t 34)), none⟩, ⟨(.some 36), (.mv (.t 10)), (.some (35, false))⟩, ⟨(.some 37), (.mv (.t 8)), (.some (35, false))⟩, ⟨(.some 38), (.beq true (.t 36) (.t 37)), (.some (35, false))⟩, ⟨(.some 39), (.pick (.t 35) (.c (.lf (.bool true))) (.t 38)), none⟩])
 (.cond (.t 39) (.seq (.reg [⟨(.some 6), (.mv (.c (.lf (.bool false)))), none⟩])
 .ret) .skip))
 (.seq (.reg [⟨(.some 11), (.mv (.c (.lf (.int .i64 1)))), none⟩])
 (.seq (.reg [⟨(.some 40), (.mv (.t 9)), none⟩, ⟨(.some 41), (.mv (.t 11)), none⟩, ⟨(.some 42), (.call false 21 [(.t 40), (.t 41)]), none⟩, ⟨(.some 11), (.mv (.t 42)), none⟩])
 (.seq (.reg [⟨(.some 12), (.mv (.c (.lf (.int .i64 1)))), none⟩])
 (.seq (.reg [⟨(.some 43), (.mv (.t 9)), none⟩, ⟨(.some 44), (.mv (.t 12)), none⟩, ⟨(.some 45), (.call true 30 [(.t 43), (.t 44)]), none⟩, ⟨(.some 12), (.mv (.t 45)), none⟩])
 (.seq (.seq (.reg [⟨(.some 46), (.mv (.t 12)), none⟩, ⟨(.some 47), (.bin .lss (.t 46) (.c (.lf (.int .i64 0)))), none⟩])
 (.cond (.t 47) (.seq (.reg [⟨(.some 6), (.mv (.c (.lf (.bool false)))), none⟩])
 .ret) .skip))
 (.seq (.seq (.reg [⟨(.some 48), (.mv (.t 12)), none⟩, ⟨(.some 49), (.mv (.t 11)), none⟩, ⟨(.some 50), (.bin .neq (.t 48) (.t 49)), none⟩])
 (.cond (.t 50) (.seq (.reg [⟨(.some 6), (.mv (.c (.lf (.bool false)))), none⟩])
 .ret) .skip))
 (.seq (.reg [⟨(.some 52), (.load true 5 (.t 3)), none⟩, ⟨(.some 53), (.call true 40 [(.t 52)]), none⟩, ⟨(.some 54), (.mv (.t 1)), none⟩, ⟨(.some 55), (.mv (.t 2)), none⟩, ⟨(.some 56), (.call false 41 [(.t 53), (.t 54), (.t 55)]), none⟩, ⟨(.some 51), (.mv (.t 56)), none⟩, ⟨(.some 57), (.ext (.t 51) 0), none⟩, ⟨(.some 58), (.ext (.t 51) 1), none⟩, ⟨(.some 13), (.mv (.t 57)), none⟩, ⟨(.some 14), (.mv (.t 58)), none⟩])
 (.seq (.seq (.reg [⟨(.some 59), (.mv (.t 13)), none⟩, ⟨(.some 60), (.mv (.t 7)), none⟩, ⟨(.some 61), (.call true 20 [(.t 59), (.t 60)]), none⟩, ⟨(.some 62), (.una .not (.t 61)), none⟩, ⟨(.some 63), (.mv (.t 62)), none⟩, ⟨(.some 64), (.mv (.t 14)), (.some (63, false))⟩, ⟨(.some 65), (.mv (.t 8)), (.some (63, false))⟩, ⟨(.some 66), (.beq true (.t 64) (.t 65)), (.some (63, false))⟩, ⟨(.some 67), (.pick (.t 63) (.c (.lf (.bool true))) (.t 66)), none⟩])
 (.cond (.t 67) (.seq (.reg [⟨(.some 6), (.mv (.c (.lf (.bool false)))), none⟩])
 .ret) .skip))
 (.seq (.reg [⟨(.some 12), (.mv (.c (.lf (.int .i64 1)))), none⟩])
 (.seq (.reg [⟨(.some 68), (.mv (.t 9)), none⟩, ⟨(.some 69), (.mv (.t 12)), none⟩, ⟨(.some 70), (.call true 30 [(.t 68), (.t 69)]), none⟩, ⟨(.some 12), (.mv (.t 70)), none⟩])
 (.seq (.seq (.reg [⟨(.some 71), (.mv (.t 12)), none⟩, ⟨(.some 72), (.bin .lss (.t 71) (.c (.lf (.int .i64 0)))), none⟩])
 (.cond (.t 72) (.seq (.reg [⟨(.some 6), (.mv (.c (.lf (.bool false)))), none⟩])
 .ret) .skip))
 (.seq (.seq (.reg [⟨(.some 73), (.mv (.t 12)), none⟩, ⟨(.some 74), (.mv (.t 11)), none⟩, ⟨(.some 75), (.bin .neq (.t 73) (.t 74)), none⟩])
 (.cond (.t 75) (.seq (.reg [⟨(.some 6), (.mv (.c (.lf (.bool false)))), none⟩])
 .ret) .skip))
 (.seq (.reg [⟨(.some 6), (.mv (.c (.lf (.bool true)))), none⟩])
 .ret))))))))))))))))), [(.tmp 6)]⟩
class HasLImpulseOf (S : Sys) : Prop extends HasIo S, HasSame S, HasF S where
  f40 : S.fs 40 = some L40
  f7 : S.fs 7 = some L7
section
variable {S : Sys} {lim : Nat} {h : Hp} {K : CV → Hp → Prop} [HasLImpulseOf S]
@[simp] theorem c_toFilter {f : Fil} : CallT S true 40 [.agg f.cells] h lim K = K (.agg f.cells) h := by
  refine CallT_pure (F := L40) (HasLImpulseOf.f40) rfl (by first | rfl | (split <;> rfl) | simp) ?_; unfold L40; dsimp only []
  repeat' (first | (simp (disch := first | omega | assumption | (simp only [List.length_set]; omega) | (simp [*] <;> fail) | assumption) [-Bool.decide_and, -Bool.decide_or, -Bool.not_and, -Bool.not_or, toNat_pred, toNat_succ, wrap64, wr_new, wr_new0, ok_if, ok_ifn, iadV_sl, makeV_int, decT, decF, over_at, *, Fil.cells]) | (with_reducible refine Gd_split (fun hc => ?_) (fun hc => ?_) <;> (have hc2 := hc; try simp at hc2)) | (with_reducible refine Br_split (fun hc => ?_) (fun hc => ?_) <;> (have hc2 := hc; try simp at hc2)) | (with_reducible refine GdT_split (fun hc => ?_) (fun hc => ?_) <;> (have hc2 := hc; try simp at hc2)) | (with_reducible refine WT_alt ?_ ?_) | omega)
end
def flSh : Sh := .flt .f32
def filSh : Sh := .cat 1 flSh (.cat 1 flSh (.cat 1 flSh (.cat 1 flSh (.cat 1 flSh .emp))))
theorem fil_of {h : Hp} {r : List Lf} (t : Ty h filSh r) : ∃ f : Fil, r = f.cells := by
  obtain ⟨a1, a2, rfl, _, ⟨x1, rfl, _⟩, b1, b2, rfl, _, ⟨x2, rfl, _⟩, c1, c2, rfl, _, ⟨x3, rfl, _⟩, d1, d2, rfl, _, ⟨x4, rfl, _⟩, e1, e2, rfl, _, ⟨x5, rfl, _⟩, rfl⟩ := t
  exact ⟨⟨x1, x2, x3, x4, x5⟩, rfl⟩
set_option maxRecDepth 20000 in
set_option maxHeartbeats 2000000 in
theorem lawImpulseOf {S : Sys} [HasLImpulseOf S] : LawHolds S 7 [(true, filSh), (false, .int .i64), (false, .int .i64)] := by
  intro h cs hcs
  obtain ⟨c1, _, rfl, ⟨ls1, rfl, ht1⟩, c2, _, rfl, ⟨ls2, rfl, form, rfl, _⟩, c3, _, rfl, ⟨ls3, rfl, c, rfl, _⟩, rfl⟩ := hcs
  obtain ⟨f, rfl⟩ := fil_of ht1
  clear ht1
  have hf5 : f.cells.length = 5 := rfl
  have ht5 : List.take 5 f.cells = f.cells := rfl
  have hmk : mkV true f.cells = .agg f.cells := rfl
  have hlo := impF_len (f := f) (form := form) (c := c)
  have cs : ∀ {g K}, h.length ≤ g.length → (∀ o g', New g g' o 42 1 ((impF f form c).map fl) → K (.tup [.lf o, .lf (.bool (decide (okIo form c)))]) g') → CallT S false 39 [.agg f.cells, .lf (.int .i64 form), .lf (.int .i64 c)] g h.length K := fun hl hk => d_specImpulseOf hl hk
  have ci : ∀ {g K}, h.length ≤ g.length → (∀ o g', New g g' o 42 1 ((impF f form c).map fl) → K (.tup [.lf o, .lf (.bool (decide (okIo form c)))]) g') → CallT S false 41 [.agg f.cells, .lf (.int .i64 form), .lf (.int .i64 c)] g h.length K := fun hl hk => d_implImpulseOf hl hk
  generalize impF f form c = y at *
  generalize decide (okIo form c) = ok at *
  refine law_of (F := L7) HasLImpulseOf.f7 rfl ?_
  unfold L7
  dsimp only []
  have b5 : ∀ g, Kept (h ++ [⟨f.cells, .own 56 1⟩]) g → rdCells g h.length 0 5 = some f.cells := fun g k => k.rd (Cel.new.rd (by simp [hf5]))
  have b50 := b5 _ (Kept.refl _)
  repeat' (first | (simp (disch := first | omega | assumption | (simp only [List.length_set]; omega) | (simp [*] <;> fail) | assumption) [-Bool.decide_and, -Bool.decide_or, -Bool.not_and, -Bool.not_or, toNat_pred, toNat_succ, wrap64, wr_new, wr_new0, ok_if, ok_ifn, iadV_sl, makeV_int, decT, decF, over_at, *]) | (with_reducible refine Gd_split (fun hc => ?_) (fun hc => ?_) <;> (have hc2 := hc; try simp at hc2)) | (with_reducible refine Br_split (fun hc => ?_) (fun hc => ?_) <;> (have hc2 := hc; try simp at hc2)) | (with_reducible refine GdT_split (fun hc => ?_) (fun hc => ?_) <;> (have hc2 := hc; try simp at hc2)) | (with_reducible refine WT_alt ?_ ?_) | omega)
  have hl1 : h.length + 1 ≤ (h ++ [⟨f.cells, .own 56 1⟩] : Hp).length := by simp
  clear b50
  generalize (h ++ [⟨f.cells, .own 56 1⟩] : Hp) = h1 at *
  refine cs  (by omega) fun s0 g1 hs0  => ?_
  have K2 := (Kept.refl h1).trans hs0.kept
  have Q2 := hs0.kept.1
  have P2 := K2.1
  have Ns0 := hs0.base (Kept.refl h1)
  repeat' (first | (simp (disch := first | omega | assumption | (simp only [List.length_set]; omega) | (simp [*] <;> fail) | assumption) [-Bool.decide_and, -Bool.decide_or, -Bool.not_and, -Bool.not_or, toNat_pred, toNat_succ, wrap64, wr_new, wr_new0, ok_if, ok_ifn, iadV_sl, makeV_int, decT, decF, over_at, *]) | (with_reducible refine Gd_split (fun hc => ?_) (fun hc => ?_) <;> (have hc2 := hc; try simp at hc2)) | (with_reducible refine Br_split (fun hc => ?_) (fun hc => ?_) <;> (have hc2 := hc; try simp at hc2)) | (with_reducible refine GdT_split (fun hc => ?_) (fun hc => ?_) <;> (have hc2 := hc; try simp at hc2)) | (with_reducible refine WT_alt ?_ ?_) | omega)
  refine ci  (by omega) fun r0 g3 hr0  => ?_
  have Fr0s0 : Far r0 s0 := fun q1 q2 => by have := (Ns0.lt q2).2; have := (hr0.lt q1).1; omega
  have K4 := K2.trans hr0.kept
  have Q4 := hr0.kept.1
  have P4 := K4.1
  have Nr0 := hr0.base K2
  replace Ns0 := Ns0.later hr0.kept
  repeat' (first | (simp (disch := first | omega | assumption | (simp only [List.length_set]; omega) | (simp [*] <;> fail) | assumption) [-Bool.decide_and, -Bool.decide_or, -Bool.not_and, -Bool.not_or, toNat_pred, toNat_succ, wrap64, wr_new, wr_new0, ok_if, ok_ifn, iadV_sl, makeV_int, decT, decF, over_at, *, c_eqFloat32S Nr0.arr Ns0.arr]) | (with_reducible refine Gd_split (fun hc => ?_) (fun hc => ?_) <;> (have hc2 := hc; try simp at hc2)) | (with_reducible refine Br_split (fun hc => ?_) (fun hc => ?_) <;> (have hc2 := hc; try simp at hc2)) | (with_reducible refine GdT_split (fun hc => ?_) (fun hc => ?_) <;> (have hc2 := hc; try simp at hc2)) | (with_reducible refine WT_alt ?_ ?_) | omega)
  refine c_markFloat32S Nr0 (by simp; omega) (by omega) (by omega) (by omega) fun g5 hM5 hB5 => ?_
  have Q5 := hB5.len
  have K5 := hB5.kept K4 (fun hn => (Nr0.lt hn).1)
  replace Ns0 := hB5.new Ns0 (fun hn => (Nr0.lt hn).1) (fun q1 q2 => Fr0s0.symm q2 q1)
  simp only [List.length_map] at hM5
  replace Nr0 := hM5
  repeat' (first | (simp (disch := first | omega | assumption | (simp only [List.length_set]; omega) | (simp [*] <;> fail) | assumption) [-Bool.decide_and, -Bool.decide_or, -Bool.not_and, -Bool.not_or, toNat_pred, toNat_succ, wrap64, wr_new, wr_new0, ok_if, ok_ifn, iadV_sl, makeV_int, decT, decF, over_at, *, c_heldFloat32S Nr0.arr]) | (with_reducible refine Gd_split (fun hc => ?_) (fun hc => ?_) <;> (have hc2 := hc; try simp at hc2)) | (with_reducible refine Br_split (fun hc => ?_) (fun hc => ?_) <;> (have hc2 := hc; try simp at hc2)) | (with_reducible refine GdT_split (fun hc => ?_) (fun hc => ?_) <;> (have hc2 := hc; try simp at hc2)) | (with_reducible refine WT_alt ?_ ?_) | omega)
  refine ci  (by omega) fun u0 g6 hu0  => ?_
  have Fs0u0 : Far s0 u0 := fun q1 q2 => by have := (Ns0.lt q1).2; have := (hu0.lt q2).1; omega
  have Fr0u0 : Far r0 u0 := fun q1 q2 => by have := (Nr0.lt q1).2; have := (hu0.lt q2).1; omega
  have K7 := K5.trans hu0.kept
  have Q7 := hu0.kept.1
  have P7 := K7.1
  have Nu0 := hu0.base K5
  replace Ns0 := Ns0.later hu0.kept
  replace Nr0 := Nr0.later hu0.kept
  repeat' (first | (simp (disch := first | omega | assumption | (simp only [List.length_set]; omega) | (simp [*] <;> fail) | assumption) [-Bool.decide_and, -Bool.decide_or, -Bool.not_and, -Bool.not_or, toNat_pred, toNat_succ, wrap64, wr_new, wr_new0, ok_if, ok_ifn, iadV_sl, makeV_int, decT, decF, over_at, *, c_eqFloat32S Nu0.arr Ns0.arr, c_heldFloat32S Nr0.arr]) | (with_reducible refine Gd_split (fun hc => ?_) (fun hc => ?_) <;> (have hc2 := hc; try simp at hc2)) | (with_reducible refine Br_split (fun hc => ?_) (fun hc => ?_) <;> (have hc2 := hc; try simp at hc2)) | (with_reducible refine GdT_split (fun hc => ?_) (fun hc => ?_) <;> (have hc2 := hc; try simp at hc2)) | (with_reducible refine WT_alt ?_ ?_) | omega)
end Go.E
namespace Go.E.ImpulseOf
open Go Go.E
def pure : FuncId → Bool := fun f => List.elem f [3, 4, 5, 6, 7, 8, 9, 10, 11, 12, 13, 14, 19, 20, 23, 24, 28, 30, 31, 32, 33, 34, 35, 37, 38, 40, 44, 48, 50, 51, 54, 55, 57, 58, 59, 60, 61, 62, 63, 64, 66, 69, 71, 72, 73, 74, 75, 76, 77, 78, 79, 80, 81, 82, 83, 84, 85, 86, 87, 88, 89, 90, 91, 92, 93, 94, 95, 96, 97, 99, 100, 101, 103, 106, 107, 108, 110, 111, 112, 113, 114, 115, 116, 117, 122, 123, 124, 125, 126, 128, 129, 131, 132, 133, 134, 135, 136, 137, 138, 139, 140, 141, 142, 143, 144, 146, 147, 148, 149, 150, 151, 152, 153, 154, 155, 156, 157, 158, 159, 160, 161, 162, 163, 164, 165, 166, 167, 168, 169, 170, 171, 172, 173, 174, 175, 176, 177, 178, 179, 180, 181, 182, 183, 184, 185, 186, 187, 188, 189, 190, 191, 192, 193, 195, 197, 199, 206, 208, 209, 210]
def funs : List (Nat × LFn) := [(73, L73), (86, L86), (106, L106), (133, L133), (81, L81), (85, L85), (134, L134), (83, L83), (88, L88), (150, L150), (159, L159), (169, L169), (184, L184), (189, L189), (190, L190), (168, L168), (170, L170), (143, L143), (144, L144), (102, L102), (104, L104), (72, L72), (77, L77), (101, L101), (103, L103), (145, L145), (25, L25), (27, L27), (82, L82), (87, L87), (39, L39), (41, L41), (105, L105), (33, L33), (16, L16), (20, L20), (21, L21), (30, L30), (7, L7), (40, L40)]
def Sy : Sys := sysOf funs
theorem lfn73 : lFn Go.Proofs.Try.prog pure Go.Proofs.Try.f73 = some L73 := by kernel_rfl
theorem lfn86 : lFn Go.Proofs.Try.prog pure Go.Proofs.Try.f86 = some L86 := by kernel_rfl
theorem lfn106 : lFn Go.Proofs.Try.prog pure Go.Proofs.Try.f106 = some L106 := by kernel_rfl
theorem lfn133 : lFn Go.Proofs.Try.prog pure Go.Proofs.Try.f133 = some L133 := by kernel_rfl
theorem lfn81 : lFn Go.Proofs.Try.prog pure Go.Proofs.Try.f81 = some L81 := by kernel_rfl
theorem lfn85 : lFn Go.Proofs.Try.prog pure Go.Proofs.Try.f85 = some L85 := by kernel_rfl
theorem lfn134 : lFn Go.Proofs.Try.prog pure Go.Proofs.Try.f134 = some L134 := by kernel_rfl
theorem lfn83 : lFn Go.Proofs.Try.prog pure Go.Proofs.Try.f83 = some L83 := by kernel_rfl
theorem lfn88 : lFn Go.Proofs.Try.prog pure Go.Proofs.Try.f88 = some L88 := by kernel_rfl
theorem lfn150 : lFn Go.Proofs.Try.prog pure Go.Proofs.Try.f150 = some L150 := by kernel_rfl
theorem lfn159 : lFn Go.Proofs.Try.prog pure Go.Proofs.Try.f159 = some L159 := by kernel_rfl
theorem lfn169 : lFn Go.Proofs.Try.prog pure Go.Proofs.Try.f169 = some L169 := by kernel_rfl
theorem lfn184 : lFn Go.Proofs.Try.prog pure Go.Proofs.Try.f184 = some L184 := by kernel_rfl
theorem lfn189 : lFn Go.Proofs.Try.prog pure Go.Proofs.Try.f189 = some L189 := by kernel_rfl
theorem lfn190 : lFn Go.Proofs.Try.prog pure Go.Proofs.Try.f190 = some L190 := by kernel_rfl
theorem lfn168 : lFn Go.Proofs.Try.prog pure Go.Proofs.Try.f168 = some L168 := by kernel_rfl
theorem lfn170 : lFn Go.Proofs.Try.prog pure Go.Proofs.Try.f170 = some L170 := by kernel_rfl
theorem lfn143 : lFn Go.Proofs.Try.prog pure Go.Proofs.Try.f143 = some L143 := by kernel_rfl
theorem lfn144 : lFn Go.Proofs.Try.prog pure Go.Proofs.Try.f144 = some L144 := by kernel_rfl
theorem lfn102 : lFn Go.Proofs.Try.prog pure Go.Proofs.Try.f102 = some L102 := by kernel_rfl
theorem lfn104 : lFn Go.Proofs.Try.prog pure Go.Proofs.Try.f104 = some L104 := by kernel_rfl
theorem lfn72 : lFn Go.Proofs.Try.prog pure Go.Proofs.Try.f72 = some L72 := by kernel_rfl
theorem lfn77 : lFn Go.Proofs.Try.prog pure Go.Proofs.Try.f77 = some L77 := by kernel_rfl
theorem lfn101 : lFn Go.Proofs.Try.prog pure Go.Proofs.Try.f101 = some L101 := by kernel_rfl
theorem lfn103 : lFn Go.Proofs.Try.prog pure Go.Proofs.Try.f103 = some L103 := by kernel_rfl
theorem lfn145 : lFn Go.Proofs.Try.prog pure Go.Proofs.Try.f145 = some L145 := by kernel_rfl
theorem lfn25 : lFn Go.Proofs.Try.prog pure Go.Proofs.Try.f25 = some L25 := by kernel_rfl
theorem lfn27 : lFn Go.Proofs.Try.prog pure Go.Proofs.Try.f27 = some L27 := by kernel_rfl
theorem lfn82 : lFn Go.Proofs.Try.prog pure Go.Proofs.Try.f82 = some L82 := by kernel_rfl
theorem lfn87 : lFn Go.Proofs.Try.prog pure Go.Proofs.Try.f87 = some L87 := by kernel_rfl
theorem lfn39 : lFn Go.Proofs.Try.prog pure Go.Proofs.Try.f39 = some L39 := by kernel_rfl
theorem lfn41 : lFn Go.Proofs.Try.prog pure Go.Proofs.Try.f41 = some L41 := by kernel_rfl
theorem lfn105 : lFn Go.Proofs.Try.prog pure Go.Proofs.Try.f105 = some L105 := by kernel_rfl
theorem lfn33 : lFn Go.Proofs.Try.prog pure Go.Proofs.Try.f33 = some L33 := by kernel_rfl
theorem lfn16 : lFn Go.Proofs.Try.prog pure Go.Proofs.Try.f16 = some L16 := by kernel_rfl
theorem lfn20 : lFn Go.Proofs.Try.prog pure Go.Proofs.Try.f20 = some L20 := by kernel_rfl
theorem lfn21 : lFn Go.Proofs.Try.prog pure Go.Proofs.Try.f21 = some L21 := by kernel_rfl
theorem lfn30 : lFn Go.Proofs.Try.prog pure Go.Proofs.Try.f30 = some L30 := by kernel_rfl
theorem lfn7 : lFn Go.Proofs.Try.prog pure Go.Proofs.Try.f7 = some L7 := by kernel_rfl
theorem lfn40 : lFn Go.Proofs.Try.prog pure Go.Proofs.Try.f40 = some L40 := by kernel_rfl
instance : HasA Sy := { f73 := rfl, f86 := rfl, f106 := rfl, f133 := rfl }
instance : HasB Sy := { f81 := rfl, f85 := rfl }
instance : HasShr Sy := { f134 := rfl }
instance : HasLa Sy := { f83 := rfl, f88 := rfl }
instance : HasFb Sy := { f150 := rfl, f159 := rfl }
instance : HasFf Sy := { f169 := rfl, f184 := rfl, f189 := rfl, f190 := rfl }
instance : HasFl2 Sy := { f168 := rfl, f170 := rfl }
instance : HasFi Sy := { f143 := rfl, f144 := rfl }
instance : HasFr Sy := { f102 := rfl, f104 := rfl }
instance : HasP Sy := { f72 := rfl, f77 := rfl }
instance : HasRf Sy := { f101 := rfl, f103 := rfl }
instance : HasN Sy := { f145 := rfl }
instance : HasRl Sy := { f25 := rfl, f27 := rfl, f82 := rfl, f87 := rfl }
instance : HasIo Sy := { f39 := rfl, f41 := rfl, f105 := rfl }
instance : HasSame Sy := { f33 := rfl }
instance : HasF Sy := { f16 := rfl, f20 := rfl, f21 := rfl, f30 := rfl }
instance : HasLImpulseOf Sy := { f7 := rfl, f40 := rfl }
theorem sysOK {B : Nat} {w0 : World} : SysOK Go.Proofs.Try.prog pure Sy B w0 := SysOK.of (by
  intro p hp
  simp only [funs, List.mem_cons, List.not_mem_nil, or_false] at hp
  rcases hp with rfl | rfl | rfl | rfl | rfl | rfl | rfl | rfl | rfl | rfl | rfl | rfl | rfl | rfl | rfl | rfl | rfl | rfl | rfl | rfl | rfl | rfl | rfl | rfl | rfl | rfl | rfl | rfl | rfl | rfl | rfl | rfl | rfl | rfl | rfl | rfl | rfl | rfl | rfl | rfl
  · exact ⟨_, Go.Proofs.Try.func73, lfn73⟩
  · exact ⟨_, Go.Proofs.Try.func86, lfn86⟩
  · exact ⟨_, Go.Proofs.Try.func106, lfn106⟩
  · exact ⟨_, Go.Proofs.Try.func133, lfn133⟩
  · exact ⟨_, Go.Proofs.Try.func81, lfn81⟩
  · exact ⟨_, Go.Proofs.Try.func85, lfn85⟩
  · exact ⟨_, Go.Proofs.Try.func134, lfn134⟩
  · exact ⟨_, Go.Proofs.Try.func83, lfn83⟩
  · exact ⟨_, Go.Proofs.Try.func88, lfn88⟩
  · exact ⟨_, Go.Proofs.Try.func150, lfn150⟩
  · exact ⟨_, Go.Proofs.Try.func159, lfn159⟩
  · exact ⟨_, Go.Proofs.Try.func169, lfn169⟩
  · exact ⟨_, Go.Proofs.Try.func184, lfn184⟩
  · exact ⟨_, Go.Proofs.Try.func189, lfn189⟩
  · exact ⟨_, Go.Proofs.Try.func190, lfn190⟩
  · exact ⟨_, Go.Proofs.Try.func168, lfn168⟩
  · exact ⟨_, Go.Proofs.Try.func170, lfn170⟩
  · exact ⟨_, Go.Proofs.Try.func143, lfn143⟩
  · exact ⟨_, Go.Proofs.Try.func144, lfn144⟩
  · exact ⟨_, Go.Proofs.Try.func102, lfn102⟩
  · exact ⟨_, Go.Proofs.Try.func104, lfn104⟩
  · exact ⟨_, Go.Proofs.Try.func72, lfn72⟩
  · exact ⟨_, Go.Proofs.Try.func77, lfn77⟩
  · exact ⟨_, Go.Proofs.Try.func101, lfn101⟩
  · exact ⟨_, Go.Proofs.Try.func103, lfn103⟩
  · exact ⟨_, Go.Proofs.Try.func145, lfn145⟩
  · exact ⟨_, Go.Proofs.Try.func25, lfn25⟩
  · exact ⟨_, Go.Proofs.Try.func27, lfn27⟩
  · exact ⟨_, Go.Proofs.Try.func82, lfn82⟩
  · exact ⟨_, Go.Proofs.Try.func87, lfn87⟩
  · exact ⟨_, Go.Proofs.Try.func39, lfn39⟩
  · exact ⟨_, Go.Proofs.Try.func41, lfn41⟩
  · exact ⟨_, Go.Proofs.Try.func105, lfn105⟩
  · exact ⟨_, Go.Proofs.Try.func33, lfn33⟩
  · exact ⟨_, Go.Proofs.Try.func16, lfn16⟩
  · exact ⟨_, Go.Proofs.Try.func20, lfn20⟩
  · exact ⟨_, Go.Proofs.Try.func21, lfn21⟩
  · exact ⟨_, Go.Proofs.Try.func30, lfn30⟩
  · exact ⟨_, Go.Proofs.Try.func7, lfn7⟩
  · exact ⟨_, Go.Proofs.Try.func40, lfn40⟩)

end Go.E.ImpulseOf
