/- The law of FilterBothWays: what the evaluator finds. -/
import Derived.Test.YtonfalhekphaeaaMBw
import Derived.Test.YtonfalhekphaeaaMC
import Derived.Test.YtonfalhekphaeaaEE
import Derived.Test.YtonfalhekphaeaaProg
set_option linter.unusedVariables false
set_option linter.unusedSimpArgs false
namespace Go.E
open Go
def L40 : LFn := ⟨1, (.seq (.reg [⟨(.some 1), (.box 56 (.t 0)), none⟩, ⟨(.some 2), (.alloc 58 [(.flt .f32 0), (.flt .f32 0), (.flt .f32 0), (.flt .f32 0), (.flt .f32 0)]), none⟩])
 (.seq (.reg [⟨(.some 3), (.alloc 58 [(.flt .f32 0), (.flt .f32 0), (.flt .f32 0), (.flt .f32 0), (.flt .f32 0)]), none⟩])
 (.seq (.reg [⟨(.some 4), (.faddr 0 (.t 1)), none⟩, ⟨(.some 5), (.load false 1 (.t 4)), none⟩, ⟨(.some 6), (.faddr 0 (.t 3)), none⟩, ⟨none, (.store 1 (.t 6) (.t 5)), none⟩])
 (.seq (.reg [⟨(.some 7), (.faddr 1 (.t 1)), none⟩, ⟨(.some 8), (.load false 1 (.t 7)), none⟩, ⟨(.some 9), (.faddr 1 (.t 3)), none⟩, ⟨none, (.store 1 (.t 9) (.t 8)), none⟩])
 (.seq (.reg [⟨(.some 10), (.faddr 2 (.t 1)), none⟩, ⟨(.some 11), (.load false 1 (.t 10)), none⟩, ⟨(.some 12), (.faddr 2 (.t 3)), none⟩, ⟨none, (.store 1 (.t 12) (.t 11)), none⟩])
 (.seq (.reg [⟨(.some 13), (.faddr 3 (.t 1)), none⟩, ⟨(.some 14), (.load false 1 (.t 13)), none⟩, ⟨(.some 15), (.faddr 3 (.t 3)), none⟩, ⟨none, (.store 1 (.t 15) (.t 14)), none⟩])
 (.seq (.reg [⟨(.some 16), (.faddr 4 (.t 1)), none⟩, ⟨(.some 17), (.load false 1 (.t 16)), none⟩, ⟨(.some 18), (.faddr 4 (.t 3)), none⟩, ⟨none, (.store 1 (.t 18) (.t 17)), none⟩])
 (.seq (.reg [⟨(.some 19), (.load true 5 (.t 3)), none⟩, ⟨none, (.store 5 (.t 2) (.t 19)), none⟩])
 .ret)))))))), [(.cell 2 true 5)]⟩
def L11 : LFn := ⟨2, (.seq (.reg [⟨(.some 2), (.box 56 (.t 0)), none⟩, ⟨(.some 4), (.mv (.c (.lf (.bool false)))), none⟩])
 (.seq (.seq (.reg [⟨(.some 15), (.mv (.t 1)), none⟩, ⟨(.some 16), (.len (.t 15)), none⟩, ⟨(.some 17), (.bin .gtr (.t 16) (.c (.lf (.int .i64 1048576)))), none⟩])
 (.cond (.t 17) (.seq (.reg [⟨(.some 4), (.mv (.c (.lf (.bool true)))), none⟩])
 .ret) .skip))
 (.seq (.reg [⟨(.some 19), (.load true 5 (.t 2)), none⟩, ⟨(.some 20), (.call true 40 [(.t 19)]), none⟩, ⟨(.some 21), (.mv (.t 1)), none⟩, ⟨(.some 22), (.call false 16 [(.t 21)]), none⟩, ⟨(.some 23), (.call false 52 [(.t 20), (.t 22)]), none⟩, ⟨(.some 18), (.mv (.t 23)), none⟩, ⟨(.some 24), (.ext (.t 18) 0), none⟩, ⟨(.some 25), (.ext (.t 18) 1), none⟩, ⟨(.some 5), (.mv (.t 24)), none⟩, ⟨(.some 6), (.mv (.t 25)), none⟩])
 (.seq (.reg [⟨(.some 26), (.mv (.t 1)), none⟩, ⟨(.some 27), (.call false 16 [(.t 26)]), none⟩, ⟨(.some 7), (.mv (.t 27)), none⟩])
 (.seq (.reg [⟨(.some 29), (.load true 5 (.t 2)), none⟩, ⟨(.some 30), (.call true 40 [(.t 29)]), none⟩, ⟨(.some 31), (.mv (.t 7)), none⟩, ⟨(.some 32), (.call false 53 [(.t 30), (.t 31)]), none⟩, ⟨(.some 28), (.mv (.t 32)), none⟩, ⟨(.some 33), (.ext (.t 28) 0), none⟩, ⟨(.some 34), (.ext (.t 28) 1), none⟩, ⟨(.some 8), (.mv (.t 33)), none⟩, ⟨(.some 9), (.mv (.t 34)), none⟩])
 (.seq (.seq (.reg [⟨(.some 35), (.mv (.t 8)), none⟩, ⟨(.some 36), (.mv (.t 5)), none⟩, ⟨(.some 37), (.call true 20 [(.t 35), (.t 36)]), none⟩, ⟨(.some 38), (.una .not (.t 37)), none⟩, ⟨(.some 39), (.mv (.t 38)), none⟩, ⟨(.some 40), (.mv (.t 9)), (.some (39, false))⟩, ⟨(.some 41), (.mv (.t 6)), (.some (39, false))⟩, ⟨(.some 42), (.beq true (.t 40) (.t 41)), (.some (39, false))⟩, ⟨(.some 43), (.pick (.t 39) (.c (.lf (.bool true))) (.t 42)), none⟩])
 (.cond (.t 43) (.seq (.reg [⟨(.some 4), (.mv (.c (.lf (.bool false)))), none⟩])
 .ret) .skip))
 (.seq (.seq (.reg [⟨(.some 44), (.mv (.t 7)), none⟩, ⟨(.some 45), (.mv (.t 1)), none⟩, ⟨(.some 46), (.call false 16 [(.t 45)]), none⟩, ⟨(.some 47), (.call true 20 [(.t 44), (.t 46)]), none⟩, ⟨(.some 48), (.una .not (.t 47)), none⟩])
 (.cond (.t 48) (.seq (.reg [⟨(.some 4), (.mv (.c (.lf (.bool false)))), none⟩])
 .ret) .skip))
 (.seq (.reg [⟨(.some 10), (.mv (.c (.lf (.int .i64 1)))), none⟩])
 (.seq (.reg [⟨(.some 49), (.mv (.t 7)), none⟩, ⟨(.some 50), (.mv (.t 10)), none⟩, ⟨(.some 51), (.call false 21 [(.t 49), (.t 50)]), none⟩, ⟨(.some 10), (.mv (.t 51)), none⟩])
 (.seq (.seq (.reg [⟨(.some 52), (.mv (.t 10)), none⟩, ⟨(.some 53), (.bin .lss (.t 52) (.c (.lf (.int .i64 0)))), none⟩, ⟨(.some 54), (.mv (.t 53)), none⟩, ⟨(.some 55), (.mv (.t 8)), (.some (54, false))⟩, ⟨(.some 56), (.mv (.t 5)), (.some (54, false))⟩, ⟨(.some 57), (.call true 20 [(.t 55), (.t 56)]), (.some (54, false))⟩, ⟨(.some 58), (.una .not (.t 57)), (.some (54, false))⟩, ⟨(.some 59), (.pick (.t 54) (.c (.lf (.bool true))) (.t 58)), none⟩, ⟨(.some 60), (.mv (.t 59)), none⟩, ⟨(.some 61), (.mv (.t 9)), (.some (60, false))⟩, ⟨(.some 62), (.mv (.t 6)), (.some (60, false))⟩, ⟨(.some 63), (.beq true (.t 61) (.t 62)), (.some (60, false))⟩, ⟨(.some 64), (.pick (.t 60) (.c (.lf (.bool true))) (.t 63)), none⟩])
 (.cond (.t 64) (.seq (.reg [⟨(.some 4), (.mv (.c (.lf (.bool false)))), none⟩])
 .ret) .skip))
 (.seq (.reg [⟨(.some 11), (.mv (.c (.lf (.int .i64 1)))), none⟩])
 (.seq (.reg [⟨(.some 65), (.mv (.t 8)), none⟩, ⟨(.some 66), (.mv (.t 11)), none⟩, ⟨(.some 67), (.call false 21 [(.t 65), (.t 66)]), none⟩, ⟨(.some 11), (.mv (.t 67)), none⟩])
 (.seq (.reg [⟨(.some 12), (.mv (.c (.lf (.int .i64 1)))), none⟩])
 (.seq (.reg [⟨(.some 68), (.mv (.t 8)), none⟩, ⟨(.some 69), (.mv (.t 12)), none⟩, ⟨(.some 70), (.call true 30 [(.t 68), (.t 69)]), none⟩, ⟨(.some 12), (.mv (.t 70)), none⟩])
 (.seq (.seq (.reg [⟨(.some 71), (.mv (.t 12)), none⟩, ⟨(.some 72), (.bin .lss (.t 71) (.c (.lf (.int .i64 0)))), none⟩])
 (.cond (.t 72) (.seq (.reg [⟨(.some 4), (.mv (.c (.lf (.bool false)))), none⟩])
 .ret) .skip))
 (.seq (.seq (.reg [⟨(.some 73), (.mv (.t 12)), none⟩, ⟨(.some 74), (.mv (.t 11)), none⟩, ⟨(.some 75), (.bin .neq (.t 73) (.t 74)), none⟩])
 (.cond (.t 75) (.seq (.reg [⟨(.some 4), (.mv (.c (.lf (.bool false)))), none⟩])
 .ret) .skip))
 (.seq (.reg [⟨(.some 77), (.load true 5 (.t 2)), none⟩, ⟨(.some 78), (.call true 40 [(.t 77)]), none⟩, ⟨(.some 79), (.mv (.t 1)), none⟩, ⟨(.some 80), (.call false 16 [(.t 79)]), none⟩, ⟨(.some 81), (.call false 53 [(.t 78), (.t 80)]), none⟩, ⟨(.some 76), (.mv (.t 81)), none⟩, ⟨(.some 82), (.ext (.t 76) 0), none⟩, ⟨(.some 83), (.ext (.t 76) 1), none⟩, ⟨(.some 13), (.mv (.t 82)), none⟩, ⟨(.some 14), (.mv (.t 83)), none⟩])
 (.seq (.seq (.reg [⟨(.some 84), (.mv (.t 13)), none⟩, ⟨(.some 85), (.mv (.t 5)), none⟩, ⟨(.some 86), (.call true 20 [(.t 84), (.t 85)]), none⟩, ⟨(.some 87), (.una .not (.t 86)), none⟩, ⟨(.some 88), (.mv (.t 87)), none⟩, ⟨(.some 89), (.mv (.t 14)), (.some (88, false))⟩, ⟨(.some 90), (.mv (.t 6)), (.some (88, false))⟩, ⟨(.some 91), (.beq true (.t 89) (.t 90)), (.some (88, false))⟩, ⟨(.some 92), (.pick (.t 88) (.c (.lf (.bool true))) (.t 91)), none⟩])
 (.cond (.t 92) (.seq (.reg [⟨(.some 4), (.mv (.c (.lf (.bool false)))), none⟩])
 .ret) .skip))
 (.seq (.reg [⟨(.some 12), (.mv (.c (.lf (.int .i64 1)))), none⟩])
 (.seq (.reg [⟨(.some 93), (.mv (.t 8)), none⟩, ⟨(.some 94), (.mv (.t 12)), none⟩, ⟨(.some 95), (.call true 30 [(.t 93), (.t 94)]), none⟩, ⟨(.some 12), (.mv (.t 95)), none⟩])
 (.seq (.seq (.reg [⟨(.some 96), (.mv (.t 12)), none⟩, ⟨(.some 97), (.bin .lss (.t 96) (.c (.lf (.int .i64 0)))), none⟩])
 (.cond (.t 97) (.seq (.reg [⟨(.some 4), (.mv (.c (.lf (.bool false)))), none⟩])
 .ret) .skip))
 (.seq (.seq (.reg [⟨(.some 98), (.mv (.t 12)), none⟩, ⟨(.some 99), (.mv (.t 11)), none⟩, ⟨(.some 100), (.bin .neq (.t 98) (.t 99)), none⟩])
 (.cond (.t 100) (.seq (.reg [⟨(.some 4), (.mv (.c (.lf (.bool false)))), none⟩])
 .ret) .skip))
 (.seq (.reg [⟨(.some 4), (.mv (.c (.lf (.bool true)))), none⟩])
 .ret))))))))))))))))))))))), [(.tmp 4)]⟩
class HasLFilterBothWays (S : Sys) : Prop extends HasBw S, HasSame S, HasF S where
  f40 : S.fs 40 = some L40
  f11 : S.fs 11 = some L11
section
variable {S : Sys} {lim : Nat} {h : Hp} {K : CV → Hp → Prop} [HasLFilterBothWays S]
@[simp] theorem c_toFilter {f : Fil} : CallT S true 40 [.agg f.cells] h lim K = K (.agg f.cells) h := by
  refine CallT_pure (F := L40) (HasLFilterBothWays.f40) rfl (by first | rfl | (split <;> rfl) | simp) ?_; unfold L40; dsimp only []
  repeat' (first | (simp (disch := first | omega | assumption | (simp only [List.length_set]; omega) | (simp [*] <;> fail) | assumption) [-Bool.decide_and, -Bool.decide_or, -Bool.not_and, -Bool.not_or, toNat_pred, toNat_succ, wrap64, wr_new, wr_new0, ok_if, ok_ifn, iadV_sl, makeV_int, decT, decF, over_at, *, Fil.cells]) | (with_reducible refine Gd_split (fun hc => ?_) (fun hc => ?_) <;> (have hc2 := hc; try simp at hc2)) | (with_reducible refine Br_split (fun hc => ?_) (fun hc => ?_) <;> (have hc2 := hc; try simp at hc2)) | (with_reducible refine GdT_split (fun hc => ?_) (fun hc => ?_) <;> (have hc2 := hc; try simp at hc2)) | (with_reducible refine WT_alt ?_ ?_) | omega)
end
def flSh : Sh := .flt .f32
def filSh : Sh := .cat 1 flSh (.cat 1 flSh (.cat 1 flSh (.cat 1 flSh (.cat 1 flSh .emp))))
theorem fil_of {h : Hp} {r : List Lf} (t : Ty h filSh r) : ∃ f : Fil, r = f.cells := by
  obtain ⟨a1, a2, rfl, _, ⟨x1, rfl, _⟩, b1, b2, rfl, _, ⟨x2, rfl, _⟩, c1, c2, rfl, _, ⟨x3, rfl, _⟩, d1, d2, rfl, _, ⟨x4, rfl, _⟩, e1, e2, rfl, _, ⟨x5, rfl, _⟩, rfl⟩ := t
  exact ⟨⟨x1, x2, x3, x4, x5⟩, rfl⟩
theorem fl_of' {h : Hp} {r : List Lf} (t : Ty h (.flt .f32) r) : ∃ x : Nat, r = fl x ∧ CF x := by
  obtain ⟨x, rfl, h1, h2⟩ := t
  exact ⟨x, rfl, ⟨h1, h2⟩⟩
set_option maxRecDepth 20000 in
set_option maxHeartbeats 2000000 in
theorem lawFilterBothWays {S : Sys} [HasLFilterBothWays S] : LawHolds S 11 [(true, filSh), (false, .sl 1 (.flt .f32))] := by
  intro h cs hcs
  obtain ⟨c1, _, rfl, ⟨ls1, rfl, ht1⟩, c2, _, rfl, ⟨ls2, rfl, l, rows, rfl, hAl, hrows⟩, rfl⟩ := hcs
  obtain ⟨f, rfl⟩ := fil_of ht1
  obtain ⟨xs, rfl, hx⟩ := rows_map (Q := CF) fun r hr => fl_of' (hrows r hr)
  clear ht1 hrows
  have hf5 : f.cells.length = 5 := rfl
  have ht5 : List.take 5 f.cells = f.cells := rfl
  have hmk : mkV true f.cells = .agg f.cells := rfl
  have hlo := bothB_len (f := f) (xs := xs)
  have cs : ∀ {l g K}, Sm g l xs → h.length ≤ g.length → (∀ o g', New g g' o 42 1 ((bothB f xs).map fl) → K (.tup [.lf o, .lf (.bool (decide (xs.length ≤ 256)))]) g') → CallT S false 52 [.agg f.cells, .lf l] g h.length K := fun ha hl hk => d_specFilterBothWays ha hx hl hk
  have ci : ∀ {l g K}, Sm g l xs → h.length ≤ g.length → (∀ o g', New g g' o 42 1 ((bothB f xs).map fl) → K (.tup [.lf o, .lf (.bool (decide (xs.length ≤ 256)))]) g') → CallT S false 53 [.agg f.cells, .lf l] g h.length K := fun ha hl hk => d_implFilterBothWays ha hx hl hk
  generalize bothB f xs = y at *
  generalize decide (xs.length ≤ 256) = ok at *
  refine law_of (F := L11) HasLFilterBothWays.f11 rfl ?_
  unfold L11
  dsimp only []
  have b5 : ∀ g, Kept (h ++ [⟨f.cells, .own 56 1⟩]) g → rdCells g h.length 0 5 = some f.cells := fun g k => k.rd (Cel.new.rd (by simp [hf5]))
  have b50 := b5 _ (Kept.refl _)
  repeat' (first | (simp (disch := first | omega | assumption | (simp only [List.length_set]; omega) | (simp [*] <;> fail) | assumption) [-Bool.decide_and, -Bool.decide_or, -Bool.not_and, -Bool.not_or, toNat_pred, toNat_succ, wrap64, wr_new, wr_new0, ok_if, ok_ifn, iadV_sl, makeV_int, decT, decF, over_at, *, hAl.len]) | (with_reducible refine Gd_split (fun hc => ?_) (fun hc => ?_) <;> (have hc2 := hc; try simp at hc2)) | (with_reducible refine Br_split (fun hc => ?_) (fun hc => ?_) <;> (have hc2 := hc; try simp at hc2)) | (with_reducible refine GdT_split (fun hc => ?_) (fun hc => ?_) <;> (have hc2 := hc; try simp at hc2)) | (with_reducible refine WT_alt ?_ ?_) | omega)
  have hnl : xs.length ≤ 16777216 := by omega
  have hl1 : h.length + 1 ≤ (h ++ [⟨f.cells, .own 56 1⟩] : Hp).length := by simp
  clear b50
  replace hAl := hAl.app (t := [⟨f.cells, .own 56 1⟩])
  generalize (h ++ [⟨f.cells, .own 56 1⟩] : Hp) = h1 at *
  refine c_toFloat32S (hAl.kept (Kept.refl h1)) hnl (by omega) fun x0 g1 hx0 => ?_
  have K2 := (Kept.refl h1).trans hx0.kept
  have Q2 := hx0.kept.1
  have P2 := K2.1
  have Nx0 := hx0.base (Kept.refl h1)
  repeat' (first | (simp (disch := first | omega | assumption | (simp only [List.length_set]; omega) | (simp [*] <;> fail) | assumption) [-Bool.decide_and, -Bool.decide_or, -Bool.not_and, -Bool.not_or, toNat_pred, toNat_succ, wrap64, wr_new, wr_new0, ok_if, ok_ifn, iadV_sl, makeV_int, decT, decF, over_at, *]) | (with_reducible refine Gd_split (fun hc => ?_) (fun hc => ?_) <;> (have hc2 := hc; try simp at hc2)) | (with_reducible refine Br_split (fun hc => ?_) (fun hc => ?_) <;> (have hc2 := hc; try simp at hc2)) | (with_reducible refine GdT_split (fun hc => ?_) (fun hc => ?_) <;> (have hc2 := hc; try simp at hc2)) | (with_reducible refine WT_alt ?_ ?_) | omega)
  refine cs (Sm.new Nx0) (by omega) fun s0 g3 hs0  => ?_
  have Fs0x0 : Far s0 x0 := fun q1 q2 => by have := (Nx0.lt q2).2; have := (hs0.lt q1).1; omega
  have K4 := K2.trans hs0.kept
  have Q4 := hs0.kept.1
  have P4 := K4.1
  have Ns0 := hs0.base K2
  replace Nx0 := Nx0.later hs0.kept
  repeat' (first | (simp (disch := first | omega | assumption | (simp only [List.length_set]; omega) | (simp [*] <;> fail) | assumption) [-Bool.decide_and, -Bool.decide_or, -Bool.not_and, -Bool.not_or, toNat_pred, toNat_succ, wrap64, wr_new, wr_new0, ok_if, ok_ifn, iadV_sl, makeV_int, decT, decF, over_at, *]) | (with_reducible refine Gd_split (fun hc => ?_) (fun hc => ?_) <;> (have hc2 := hc; try simp at hc2)) | (with_reducible refine Br_split (fun hc => ?_) (fun hc => ?_) <;> (have hc2 := hc; try simp at hc2)) | (with_reducible refine GdT_split (fun hc => ?_) (fun hc => ?_) <;> (have hc2 := hc; try simp at hc2)) | (with_reducible refine WT_alt ?_ ?_) | omega)
  refine c_toFloat32S (hAl.kept K4) hnl (by omega) fun a0 g5 ha0 => ?_
  have Fa0s0 : Far a0 s0 := fun q1 q2 => by have := (Ns0.lt q2).2; have := (ha0.lt q1).1; omega
  have K6 := K4.trans ha0.kept
  have Q6 := ha0.kept.1
  have P6 := K6.1
  have Na0 := ha0.base K4
  replace Ns0 := Ns0.later ha0.kept
  repeat' (first | (simp (disch := first | omega | assumption | (simp only [List.length_set]; omega) | (simp [*] <;> fail) | assumption) [-Bool.decide_and, -Bool.decide_or, -Bool.not_and, -Bool.not_or, toNat_pred, toNat_succ, wrap64, wr_new, wr_new0, ok_if, ok_ifn, iadV_sl, makeV_int, decT, decF, over_at, *]) | (with_reducible refine Gd_split (fun hc => ?_) (fun hc => ?_) <;> (have hc2 := hc; try simp at hc2)) | (with_reducible refine Br_split (fun hc => ?_) (fun hc => ?_) <;> (have hc2 := hc; try simp at hc2)) | (with_reducible refine GdT_split (fun hc => ?_) (fun hc => ?_) <;> (have hc2 := hc; try simp at hc2)) | (with_reducible refine WT_alt ?_ ?_) | omega)
  refine ci (Sm.new Na0) (by omega) fun r0 g7 hr0  => ?_
  have Fr0s0 : Far r0 s0 := fun q1 q2 => by have := (Ns0.lt q2).2; have := (hr0.lt q1).1; omega
  have Fa0r0 : Far a0 r0 := fun q1 q2 => by have := (Na0.lt q1).2; have := (hr0.lt q2).1; omega
  have K8 := K6.trans hr0.kept
  have Q8 := hr0.kept.1
  have P8 := K8.1
  have Nr0 := hr0.base K6
  replace Ns0 := Ns0.later hr0.kept
  replace Na0 := Na0.later hr0.kept
  repeat' (first | (simp (disch := first | omega | assumption | (simp only [List.length_set]; omega) | (simp [*] <;> fail) | assumption) [-Bool.decide_and, -Bool.decide_or, -Bool.not_and, -Bool.not_or, toNat_pred, toNat_succ, wrap64, wr_new, wr_new0, ok_if, ok_ifn, iadV_sl, makeV_int, decT, decF, over_at, *, c_eqFloat32S Nr0.arr Ns0.arr]) | (with_reducible refine Gd_split (fun hc => ?_) (fun hc => ?_) <;> (have hc2 := hc; try simp at hc2)) | (with_reducible refine Br_split (fun hc => ?_) (fun hc => ?_) <;> (have hc2 := hc; try simp at hc2)) | (with_reducible refine GdT_split (fun hc => ?_) (fun hc => ?_) <;> (have hc2 := hc; try simp at hc2)) | (with_reducible refine WT_alt ?_ ?_) | omega)
  refine c_toFloat32S (hAl.kept K8) hnl (by omega) fun y0 g9 hy0 => ?_
  have Fs0y0 : Far s0 y0 := fun q1 q2 => by have := (Ns0.lt q1).2; have := (hy0.lt q2).1; omega
  have Fa0y0 : Far a0 y0 := fun q1 q2 => by have := (Na0.lt q1).2; have := (hy0.lt q2).1; omega
  have Fr0y0 : Far r0 y0 := fun q1 q2 => by have := (Nr0.lt q1).2; have := (hy0.lt q2).1; omega
  have K10 := K8.trans hy0.kept
  have Q10 := hy0.kept.1
  have P10 := K10.1
  have Ny0 := hy0.base K8
  replace Ns0 := Ns0.later hy0.kept
  replace Na0 := Na0.later hy0.kept
  replace Nr0 := Nr0.later hy0.kept
  repeat' (first | (simp (disch := first | omega | assumption | (simp only [List.length_set]; omega) | (simp [*] <;> fail) | assumption) [-Bool.decide_and, -Bool.decide_or, -Bool.not_and, -Bool.not_or, toNat_pred, toNat_succ, wrap64, wr_new, wr_new0, ok_if, ok_ifn, iadV_sl, makeV_int, decT, decF, over_at, *, c_eqFloat32S Na0.arr Ny0.arr]) | (with_reducible refine Gd_split (fun hc => ?_) (fun hc => ?_) <;> (have hc2 := hc; try simp at hc2)) | (with_reducible refine Br_split (fun hc => ?_) (fun hc => ?_) <;> (have hc2 := hc; try simp at hc2)) | (with_reducible refine GdT_split (fun hc => ?_) (fun hc => ?_) <;> (have hc2 := hc; try simp at hc2)) | (with_reducible refine WT_alt ?_ ?_) | omega)
  refine c_markFloat32S Na0 (by simp; omega) (by omega) (by omega) (by omega) fun g11 hM11 hB11 => ?_
  have Q11 := hB11.len
  have K11 := hB11.kept K10 (fun hn => (Na0.lt hn).1)
  replace Ns0 := hB11.new Ns0 (fun hn => (Na0.lt hn).1) (fun q1 q2 => Fa0s0.symm q2 q1)
  replace Nr0 := hB11.new Nr0 (fun hn => (Na0.lt hn).1) (fun q1 q2 => Fa0r0.symm q2 q1)
  simp only [List.length_map] at hM11
  replace Na0 := hM11
  repeat' (first | (simp (disch := first | omega | assumption | (simp only [List.length_set]; omega) | (simp [*] <;> fail) | assumption) [-Bool.decide_and, -Bool.decide_or, -Bool.not_and, -Bool.not_or, toNat_pred, toNat_succ, wrap64, wr_new, wr_new0, ok_if, ok_ifn, iadV_sl, makeV_int, decT, decF, over_at, *, c_eqFloat32S Nr0.arr Ns0.arr]) | (with_reducible refine Gd_split (fun hc => ?_) (fun hc => ?_) <;> (have hc2 := hc; try simp at hc2)) | (with_reducible refine Br_split (fun hc => ?_) (fun hc => ?_) <;> (have hc2 := hc; try simp at hc2)) | (with_reducible refine GdT_split (fun hc => ?_) (fun hc => ?_) <;> (have hc2 := hc; try simp at hc2)) | (with_reducible refine WT_alt ?_ ?_) | omega)
  refine c_markFloat32S Nr0 (by simp; omega) (by omega) (by omega) (by omega) fun g12 hM12 hB12 => ?_
  have Q12 := hB12.len
  have K12 := hB12.kept K11 (fun hn => (Nr0.lt hn).1)
  replace Ns0 := hB12.new Ns0 (fun hn => (Nr0.lt hn).1) (fun q1 q2 => Fr0s0.symm q2 q1)
  simp only [List.length_map] at hM12
  replace Nr0 := hM12
  repeat' (first | (simp (disch := first | omega | assumption | (simp only [List.length_set]; omega) | (simp [*] <;> fail) | assumption) [-Bool.decide_and, -Bool.decide_or, -Bool.not_and, -Bool.not_or, toNat_pred, toNat_succ, wrap64, wr_new, wr_new0, ok_if, ok_ifn, iadV_sl, makeV_int, decT, decF, over_at, *, c_heldFloat32S Nr0.arr]) | (with_reducible refine Gd_split (fun hc => ?_) (fun hc => ?_) <;> (have hc2 := hc; try simp at hc2)) | (with_reducible refine Br_split (fun hc => ?_) (fun hc => ?_) <;> (have hc2 := hc; try simp at hc2)) | (with_reducible refine GdT_split (fun hc => ?_) (fun hc => ?_) <;> (have hc2 := hc; try simp at hc2)) | (with_reducible refine WT_alt ?_ ?_) | omega)
  refine c_toFloat32S (hAl.kept K12) hnl (by omega) fun w0 g13 hw0 => ?_
  have Fs0w0 : Far s0 w0 := fun q1 q2 => by have := (Ns0.lt q1).2; have := (hw0.lt q2).1; omega
  have Fr0w0 : Far r0 w0 := fun q1 q2 => by have := (Nr0.lt q1).2; have := (hw0.lt q2).1; omega
  have K14 := K12.trans hw0.kept
  have Q14 := hw0.kept.1
  have P14 := K14.1
  have Nw0 := hw0.base K12
  replace Ns0 := Ns0.later hw0.kept
  replace Nr0 := Nr0.later hw0.kept
  repeat' (first | (simp (disch := first | omega | assumption | (simp only [List.length_set]; omega) | (simp [*] <;> fail) | assumption) [-Bool.decide_and, -Bool.decide_or, -Bool.not_and, -Bool.not_or, toNat_pred, toNat_succ, wrap64, wr_new, wr_new0, ok_if, ok_ifn, iadV_sl, makeV_int, decT, decF, over_at, *]) | (with_reducible refine Gd_split (fun hc => ?_) (fun hc => ?_) <;> (have hc2 := hc; try simp at hc2)) | (with_reducible refine Br_split (fun hc => ?_) (fun hc => ?_) <;> (have hc2 := hc; try simp at hc2)) | (with_reducible refine GdT_split (fun hc => ?_) (fun hc => ?_) <;> (have hc2 := hc; try simp at hc2)) | (with_reducible refine WT_alt ?_ ?_) | omega)
  refine ci (Sm.new Nw0) (by omega) fun u0 g15 hu0  => ?_
  have Fs0u0 : Far s0 u0 := fun q1 q2 => by have := (Ns0.lt q1).2; have := (hu0.lt q2).1; omega
  have Fr0u0 : Far r0 u0 := fun q1 q2 => by have := (Nr0.lt q1).2; have := (hu0.lt q2).1; omega
  have Fu0w0 : Far u0 w0 := fun q1 q2 => by have := (Nw0.lt q2).2; have := (hu0.lt q1).1; omega
  have K16 := K14.trans hu0.kept
  have Q16 := hu0.kept.1
  have P16 := K16.1
  have Nu0 := hu0.base K14
  replace Ns0 := Ns0.later hu0.kept
  replace Nr0 := Nr0.later hu0.kept
  replace Nw0 := Nw0.later hu0.kept
  repeat' (first | (simp (disch := first | omega | assumption | (simp only [List.length_set]; omega) | (simp [*] <;> fail) | assumption) [-Bool.decide_and, -Bool.decide_or, -Bool.not_and, -Bool.not_or, toNat_pred, toNat_succ, wrap64, wr_new, wr_new0, ok_if, ok_ifn, iadV_sl, makeV_int, decT, decF, over_at, *, c_eqFloat32S Nu0.arr Ns0.arr, c_heldFloat32S Nr0.arr]) | (with_reducible refine Gd_split (fun hc => ?_) (fun hc => ?_) <;> (have hc2 := hc; try simp at hc2)) | (with_reducible refine Br_split (fun hc => ?_) (fun hc => ?_) <;> (have hc2 := hc; try simp at hc2)) | (with_reducible refine GdT_split (fun hc => ?_) (fun hc => ?_) <;> (have hc2 := hc; try simp at hc2)) | (with_reducible refine WT_alt ?_ ?_) | omega)
end Go.E
namespace Go.E.FilterBothWays
open Go Go.E
def pure : FuncId → Bool := fun f => List.elem f [3, 4, 5, 6, 7, 8, 9, 10, 11, 12, 13, 14, 19, 20, 23, 24, 28, 30, 31, 32, 33, 34, 35, 37, 38, 40, 44, 48, 50, 51, 54, 55, 57, 58, 59, 60, 61, 62, 63, 64, 66, 69, 71, 72, 73, 74, 75, 76, 77, 78, 79, 80, 81, 82, 83, 84, 85, 86, 87, 88, 89, 90, 91, 92, 93, 94, 95, 96, 97, 99, 100, 101, 103, 106, 107, 108, 110, 111, 112, 113, 114, 115, 116, 117, 122, 123, 124, 125, 126, 128, 129, 131, 132, 133, 134, 135, 136, 137, 138, 139, 140, 141, 142, 143, 144, 146, 147, 148, 149, 150, 151, 152, 153, 154, 155, 156, 157, 158, 159, 160, 161, 162, 163, 164, 165, 166, 167, 168, 169, 170, 171, 172, 173, 174, 175, 176, 177, 178, 179, 180, 181, 182, 183, 184, 185, 186, 187, 188, 189, 190, 191, 192, 193, 195, 197, 199, 206, 208, 209, 210]
def funs : List (Nat × LFn) := [(73, L73), (86, L86), (106, L106), (133, L133), (150, L150), (159, L159), (169, L169), (184, L184), (189, L189), (190, L190), (168, L168), (170, L170), (143, L143), (144, L144), (102, L102), (104, L104), (72, L72), (77, L77), (119, L119), (52, L52), (53, L53), (118, L118), (120, L120), (33, L33), (16, L16), (20, L20), (21, L21), (30, L30), (11, L11), (40, L40)]
def Sy : Sys := sysOf funs
theorem lfn73 : lFn Go.Proofs.Try.prog pure Go.Proofs.Try.f73 = some L73 := by kernel_rfl
theorem lfn86 : lFn Go.Proofs.Try.prog pure Go.Proofs.Try.f86 = some L86 := by kernel_rfl
theorem lfn106 : lFn Go.Proofs.Try.prog pure Go.Proofs.Try.f106 = some L106 := by kernel_rfl
theorem lfn133 : lFn Go.Proofs.Try.prog pure Go.Proofs.Try.f133 = some L133 := by kernel_rfl
theorem lfn150 : lFn Go.Proofs.Try.prog pure Go.Proofs.Try.f150 = some L150 := by kernel_rfl
theorem lfn159 : lFn Go.Proofs.Try.prog pure Go.Proofs.Try.f159 = some L159 := by kernel_rfl
theorem lfn169 : lFn Go.Proofs.Try.prog pure Go.Proofs.Try.f169 = some L169 := by kernel_rfl
theorem lfn184 : lFn Go.Proofs.Try.prog pure Go.Proofs.Try.f184 = some L184 := by kernel_rfl
theorem lfn189 : lFn Go.Proofs.Try.prog pure Go.Proofs.Try.f189 = some L189 := by kernel_rfl
theorem lfn190 : lFn Go.Proofs.Try.prog pure Go.Proofs.Try.f190 = some L190 := by kernel_rfl
theorem lfn168 : lFn Go.Proofs.Try.prog pure Go.Proofs.Try.f168 = some L168 := by kernel_rfl
theorem lfn170 : lFn Go.Proofs.Try.prog pure Go.Proofs.Try.f170 = some L170 := by kernel_rfl
theorem lfn143 : lFn Go.Proofs.Try.prog pure Go.Proofs.Try.f143 = some L143 := by kernel_rfl
theorem lfn144 : lFn Go.Proofs.Try.prog pure Go.Proofs.Try.f144 = some L144 := by kernel_rfl
theorem lfn102 : lFn Go.Proofs.Try.prog pure Go.Proofs.Try.f102 = some L102 := by kernel_rfl
theorem lfn104 : lFn Go.Proofs.Try.prog pure Go.Proofs.Try.f104 = some L104 := by kernel_rfl
theorem lfn72 : lFn Go.Proofs.Try.prog pure Go.Proofs.Try.f72 = some L72 := by kernel_rfl
theorem lfn77 : lFn Go.Proofs.Try.prog pure Go.Proofs.Try.f77 = some L77 := by kernel_rfl
theorem lfn119 : lFn Go.Proofs.Try.prog pure Go.Proofs.Try.f119 = some L119 := by kernel_rfl
theorem lfn52 : lFn Go.Proofs.Try.prog pure Go.Proofs.Try.f52 = some L52 := by kernel_rfl
theorem lfn53 : lFn Go.Proofs.Try.prog pure Go.Proofs.Try.f53 = some L53 := by kernel_rfl
theorem lfn118 : lFn Go.Proofs.Try.prog pure Go.Proofs.Try.f118 = some L118 := by kernel_rfl
theorem lfn120 : lFn Go.Proofs.Try.prog pure Go.Proofs.Try.f120 = some L120 := by kernel_rfl
theorem lfn33 : lFn Go.Proofs.Try.prog pure Go.Proofs.Try.f33 = some L33 := by kernel_rfl
theorem lfn16 : lFn Go.Proofs.Try.prog pure Go.Proofs.Try.f16 = some L16 := by kernel_rfl
theorem lfn20 : lFn Go.Proofs.Try.prog pure Go.Proofs.Try.f20 = some L20 := by kernel_rfl
theorem lfn21 : lFn Go.Proofs.Try.prog pure Go.Proofs.Try.f21 = some L21 := by kernel_rfl
theorem lfn30 : lFn Go.Proofs.Try.prog pure Go.Proofs.Try.f30 = some L30 := by kernel_rfl
theorem lfn11 : lFn Go.Proofs.Try.prog pure Go.Proofs.Try.f11 = some L11 := by kernel_rfl
theorem lfn40 : lFn Go.Proofs.Try.prog pure Go.Proofs.Try.f40 = some L40 := by kernel_rfl
instance : HasA Sy := { f73 := rfl, f86 := rfl, f106 := rfl, f133 := rfl }
instance : HasFb Sy := { f150 := rfl, f159 := rfl }
instance : HasFf Sy := { f169 := rfl, f184 := rfl, f189 := rfl, f190 := rfl }
instance : HasFl2 Sy := { f168 := rfl, f170 := rfl }
instance : HasFi Sy := { f143 := rfl, f144 := rfl }
instance : HasFr Sy := { f102 := rfl, f104 := rfl }
instance : HasP Sy := { f72 := rfl, f77 := rfl }
instance : HasCn Sy := { f119 := rfl }
instance : HasBw Sy := { f52 := rfl, f53 := rfl, f118 := rfl, f120 := rfl }
instance : HasSame Sy := { f33 := rfl }
instance : HasF Sy := { f16 := rfl, f20 := rfl, f21 := rfl, f30 := rfl }
instance : HasLFilterBothWays Sy := { f11 := rfl, f40 := rfl }
theorem sysOK {B : Nat} {w0 : World} : SysOK Go.Proofs.Try.prog pure Sy B w0 := SysOK.of (by
  intro p hp
  simp only [funs, List.mem_cons, List.not_mem_nil, or_false] at hp
  rcases hp with rfl | rfl | rfl | rfl | rfl | rfl | rfl | rfl | rfl | rfl | rfl | rfl | rfl | rfl | rfl | rfl | rfl | rfl | rfl | rfl | rfl | rfl | rfl | rfl | rfl | rfl | rfl | rfl | rfl | rfl
  · exact ⟨_, Go.Proofs.Try.func73, lfn73⟩
  · exact ⟨_, Go.Proofs.Try.func86, lfn86⟩
  · exact ⟨_, Go.Proofs.Try.func106, lfn106⟩
  · exact ⟨_, Go.Proofs.Try.func133, lfn133⟩
  · exact ⟨_, Go.Proofs.Try.func150, lfn150⟩
  · exact ⟨_, Go.Proofs.Try.func159, lfn159⟩
  · exact ⟨_, Go.Proofs.Try.func169, lfn169⟩
  · exact ⟨_, Go.Proofs.Try.func184, lfn184⟩
  · exact ⟨_, Go.Proofs.Try.func189, lfn189⟩
  · exact ⟨_, Go.Proofs.Try.func190, lfn190⟩
  · exact ⟨_, Go.Proofs.Try.func168, lfn168⟩
  · exact ⟨_, Go.Proofs.Try.func170, lfn170⟩
  · exact ⟨_, Go.Proofs.Try.func143, lfn143⟩
  · exact ⟨_, Go.Proofs.Try.func144, lfn144⟩
  · exact ⟨_, Go.Proofs.Try.func102, lfn102⟩
  · exact ⟨_, Go.Proofs.Try.func104, lfn104⟩
  · exact ⟨_, Go.Proofs.Try.func72, lfn72⟩
  · exact ⟨_, Go.Proofs.Try.func77, lfn77⟩
  · exact ⟨_, Go.Proofs.Try.func119, lfn119⟩
  · exact ⟨_, Go.Proofs.Try.func52, lfn52⟩
  · exact ⟨_, Go.Proofs.Try.func53, lfn53⟩
  · exact ⟨_, Go.Proofs.Try.func118, lfn118⟩
  · exact ⟨_, Go.Proofs.Try.func120, lfn120⟩
  · exact ⟨_, Go.Proofs.Try.func33, lfn33⟩
  · exact ⟨_, Go.Proofs.Try.func16, lfn16⟩
  · exact ⟨_, Go.Proofs.Try.func20, lfn20⟩
  · exact ⟨_, Go.Proofs.Try.func21, lfn21⟩
  · exact ⟨_, Go.Proofs.Try.func30, lfn30⟩
  · exact ⟨_, Go.Proofs.Try.func11, lfn11⟩
  · exact ⟨_, Go.Proofs.Try.func40, lfn40⟩)

end Go.E.FilterBothWays
