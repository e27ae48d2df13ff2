/- The law of AnswerOf: what the evaluator finds. -/
import Derived.Test.YtclbkfmelhheaaaMRz
import Derived.Test.YtclbkfmelhheaaaMDk
import Derived.Test.YtclbkfmelhheaaaMDs
import Derived.Test.YtclbkfmelhheaaaProg
set_option linter.unusedVariables false
set_option linter.unusedSimpArgs false
namespace Go.E
open Go
def L5 : LFn := ⟨2, (.seq (.reg [⟨(.some 2), (.box 53 (.t 0)), none⟩, ⟨(.some 4), (.mv (.c (.lf (.bool false)))), none⟩])
 (.seq (.reg [⟨(.some 5), (.mv (.c (.lf (.int .i64 1048576)))), none⟩])
 (.seq (.reg [⟨(.some 16), (.load true 4 (.t 2)), none⟩, ⟨(.some 17), (.mv (.t 5)), none⟩, ⟨(.some 18), (.call true 24 [(.t 16), (.t 17)]), none⟩, ⟨(.some 5), (.mv (.t 18)), none⟩])
 (.seq (.seq (.reg [⟨(.some 19), (.mv (.t 5)), none⟩, ⟨(.some 20), (.bin .lss (.t 19) (.c (.lf (.int .i64 0)))), none⟩])
 (.cond (.t 20) (.seq (.reg [⟨(.some 4), (.mv (.c (.lf (.bool true)))), none⟩])
 .ret) .skip))
 (.seq (.reg [⟨(.some 22), (.load true 4 (.t 2)), none⟩, ⟨(.some 23), (.call false 26 [(.t 22)]), none⟩, ⟨(.some 24), (.mv (.t 1)), none⟩, ⟨(.some 25), (.call false 25 [(.t 23), (.t 24)]), none⟩, ⟨(.some 21), (.mv (.t 25)), none⟩, ⟨(.some 26), (.ext (.t 21) 0), none⟩, ⟨(.some 27), (.ext (.t 21) 1), none⟩, ⟨(.some 6), (.mv (.t 26)), none⟩, ⟨(.some 7), (.mv (.t 27)), none⟩])
 (.seq (.reg [⟨(.some 28), (.load true 4 (.t 2)), none⟩, ⟨(.some 29), (.call false 26 [(.t 28)]), none⟩, ⟨(.some 8), (.alloc 59 [.nils, .nils, (.flt .f32 0), (.flt .f32 0)]), none⟩, ⟨none, (.store 4 (.t 8) (.t 29)), none⟩])
 (.seq (.reg [⟨(.some 31), (.load true 4 (.t 8)), none⟩, ⟨(.some 32), (.mv (.t 1)), none⟩, ⟨(.some 33), (.call false 27 [(.t 31), (.t 32)]), none⟩, ⟨(.some 30), (.mv (.t 33)), none⟩, ⟨(.some 34), (.ext (.t 30) 0), none⟩, ⟨(.some 35), (.ext (.t 30) 1), none⟩, ⟨(.some 9), (.mv (.t 34)), none⟩, ⟨(.some 10), (.mv (.t 35)), none⟩])
 (.seq (.seq (.reg [⟨(.some 36), (.mv (.t 9)), none⟩, ⟨(.some 37), (.mv (.t 6)), none⟩, ⟨(.some 38), (.call true 16 [(.t 36), (.t 37)]), none⟩, ⟨(.some 39), (.una .not (.t 38)), none⟩, ⟨(.some 40), (.mv (.t 39)), none⟩, ⟨(.some 41), (.mv (.t 10)), (.some (40, false))⟩, ⟨(.some 42), (.mv (.t 7)), (.some (40, false))⟩, ⟨(.some 43), (.beq true (.t 41) (.t 42)), (.some (40, false))⟩, ⟨(.some 44), (.pick (.t 40) (.c (.lf (.bool true))) (.t 43)), none⟩])
 (.cond (.t 44) (.seq (.reg [⟨(.some 4), (.mv (.c (.lf (.bool false)))), none⟩])
 .ret) .skip))
 (.seq (.seq (.any (.op ⟨(.some 46), (.load true 4 (.t 2)), none⟩ (.alt (.op ⟨(.some 45), (.load true 4 (.t 8)), none⟩ (.op ⟨(.some 47), (.call false 26 [(.t 46)]), none⟩ (.op ⟨(.some 48), (.call true 28 [(.t 45), (.t 47)]), none⟩ (.op ⟨(.some 49), (.una .not (.t 48)), none⟩ .nil)))) (.op ⟨(.some 47), (.call false 26 [(.t 46)]), none⟩ (.op ⟨(.some 45), (.load true 4 (.t 8)), none⟩ (.op ⟨(.some 48), (.call true 28 [(.t 45), (.t 47)]), none⟩ (.op ⟨(.some 49), (.una .not (.t 48)), none⟩ .nil)))))))
 (.cond (.t 49) (.seq (.reg [⟨(.some 4), (.mv (.c (.lf (.bool false)))), none⟩])
 .ret) .skip))
 (.seq (.reg [⟨(.some 11), (.mv (.c (.lf (.int .i64 1)))), none⟩])
 (.seq (.reg [⟨(.some 50), (.load true 4 (.t 8)), none⟩, ⟨(.some 51), (.mv (.t 11)), none⟩, ⟨(.some 52), (.call false 29 [(.t 50), (.t 51)]), none⟩, ⟨(.some 11), (.mv (.t 52)), none⟩])
 (.seq (.seq (.reg [⟨(.some 53), (.mv (.t 11)), none⟩, ⟨(.some 54), (.bin .lss (.t 53) (.c (.lf (.int .i64 0)))), none⟩, ⟨(.some 55), (.mv (.t 54)), none⟩, ⟨(.some 56), (.mv (.t 9)), (.some (55, false))⟩, ⟨(.some 57), (.mv (.t 6)), (.some (55, false))⟩, ⟨(.some 58), (.call true 16 [(.t 56), (.t 57)]), (.some (55, false))⟩, ⟨(.some 59), (.una .not (.t 58)), (.some (55, false))⟩, ⟨(.some 60), (.pick (.t 55) (.c (.lf (.bool true))) (.t 59)), none⟩, ⟨(.some 61), (.mv (.t 60)), none⟩, ⟨(.some 62), (.mv (.t 10)), (.some (61, false))⟩, ⟨(.some 63), (.mv (.t 7)), (.some (61, false))⟩, ⟨(.some 64), (.beq true (.t 62) (.t 63)), (.some (61, false))⟩, ⟨(.some 65), (.pick (.t 61) (.c (.lf (.bool true))) (.t 64)), none⟩])
 (.cond (.t 65) (.seq (.reg [⟨(.some 4), (.mv (.c (.lf (.bool false)))), none⟩])
 .ret) .skip))
 (.seq (.reg [⟨(.some 12), (.mv (.c (.lf (.int .i64 1)))), none⟩])
 (.seq (.reg [⟨(.some 66), (.mv (.t 9)), none⟩, ⟨(.some 67), (.mv (.t 12)), none⟩, ⟨(.some 68), (.call false 17 [(.t 66), (.t 67)]), none⟩, ⟨(.some 12), (.mv (.t 68)), none⟩])
 (.seq (.reg [⟨(.some 13), (.mv (.c (.lf (.int .i64 1)))), none⟩])
 (.seq (.reg [⟨(.some 69), (.mv (.t 9)), none⟩, ⟨(.some 70), (.mv (.t 13)), none⟩, ⟨(.some 71), (.call true 18 [(.t 69), (.t 70)]), none⟩, ⟨(.some 13), (.mv (.t 71)), none⟩])
 (.seq (.seq (.reg [⟨(.some 72), (.mv (.t 13)), none⟩, ⟨(.some 73), (.bin .lss (.t 72) (.c (.lf (.int .i64 0)))), none⟩])
 (.cond (.t 73) (.seq (.reg [⟨(.some 4), (.mv (.c (.lf (.bool false)))), none⟩])
 .ret) .skip))
 (.seq (.seq (.reg [⟨(.some 74), (.mv (.t 13)), none⟩, ⟨(.some 75), (.mv (.t 12)), none⟩, ⟨(.some 76), (.bin .neq (.t 74) (.t 75)), none⟩])
 (.cond (.t 76) (.seq (.reg [⟨(.some 4), (.mv (.c (.lf (.bool false)))), none⟩])
 .ret) .skip))
 (.seq (.reg [⟨(.some 78), (.load true 4 (.t 2)), none⟩, ⟨(.some 79), (.call false 26 [(.t 78)]), none⟩, ⟨(.some 80), (.mv (.t 1)), none⟩, ⟨(.some 81), (.call false 27 [(.t 79), (.t 80)]), none⟩, ⟨(.some 77), (.mv (.t 81)), none⟩, ⟨(.some 82), (.ext (.t 77) 0), none⟩, ⟨(.some 83), (.ext (.t 77) 1), none⟩, ⟨(.some 14), (.mv (.t 82)), none⟩, ⟨(.some 15), (.mv (.t 83)), none⟩])
 (.seq (.seq (.reg [⟨(.some 84), (.mv (.t 14)), none⟩, ⟨(.some 85), (.mv (.t 6)), none⟩, ⟨(.some 86), (.call true 16 [(.t 84), (.t 85)]), none⟩, ⟨(.some 87), (.una .not (.t 86)), none⟩, ⟨(.some 88), (.mv (.t 87)), none⟩, ⟨(.some 89), (.mv (.t 15)), (.some (88, false))⟩, ⟨(.some 90), (.mv (.t 7)), (.some (88, false))⟩, ⟨(.some 91), (.beq true (.t 89) (.t 90)), (.some (88, false))⟩, ⟨(.some 92), (.pick (.t 88) (.c (.lf (.bool true))) (.t 91)), none⟩])
 (.cond (.t 92) (.seq (.reg [⟨(.some 4), (.mv (.c (.lf (.bool false)))), none⟩])
 .ret) .skip))
 (.seq (.reg [⟨(.some 13), (.mv (.c (.lf (.int .i64 1)))), none⟩])
 (.seq (.reg [⟨(.some 93), (.mv (.t 9)), none⟩, ⟨(.some 94), (.mv (.t 13)), none⟩, ⟨(.some 95), (.call true 18 [(.t 93), (.t 94)]), none⟩, ⟨(.some 13), (.mv (.t 95)), none⟩])
 (.seq (.seq (.reg [⟨(.some 96), (.mv (.t 13)), none⟩, ⟨(.some 97), (.bin .lss (.t 96) (.c (.lf (.int .i64 0)))), none⟩])
 (.cond (.t 97) (.seq (.reg [⟨(.some 4), (.mv (.c (.lf (.bool false)))), none⟩])
 .ret) .skip))
 (.seq (.seq (.reg [⟨(.some 98), (.mv (.t 13)), none⟩, ⟨(.some 99), (.mv (.t 12)), none⟩, ⟨(.some 100), (.bin .neq (.t 98) (.t 99)), none⟩])
 (.cond (.t 100) (.seq (.reg [⟨(.some 4), (.mv (.c (.lf (.bool false)))), none⟩])
 .ret) .skip))
 (.seq (.reg [⟨(.some 4), (.mv (.c (.lf (.bool true)))), none⟩])
 .ret))))))))))))))))))))))))), [(.tmp 4)]⟩
class HasLAnswerOf (S : Sys) : Prop extends HasRz S, HasRMH S, HasF S where
  f5 : S.fs 5 = some L5
def dlySh : Sh := .cat 1 (.int .i64) (.cat 1 (.flt .f32) (.cat 1 (.flt .f32) (.cat 1 (.flt .f32) (.cat 1 .bool .emp))))
def pasSh : Sh := .cat 1 (.int .i64) (.cat 1 (.flt .f32) .emp)
def roomSh : Sh := .cat 1 (.sl 5 dlySh) (.cat 1 (.sl 2 pasSh) (.cat 1 (.flt .f32) (.cat 1 (.flt .f32) .emp)))
theorem room_of {h : Hp} {r : List Lf} (t : Ty h roomSh r) : ∃ (l l2 : Lf) (ds : List Dly) (qs : List Pas) (x y : Nat), r = [l, l2, .flt .f32 x, .flt .f32 y] ∧ Arr h l 5 (ds.map Dly.cells) ∧ Arr h l2 2 (qs.map Pas.cells) := by
  obtain ⟨_, _, rfl, _, ⟨l, rows, rfl, hA, hr⟩, _, _, rfl, _, ⟨l2, rows2, rfl, hA2, hr2⟩, _, _, rfl, _, ⟨x, rfl, _⟩, _, _, rfl, _, ⟨y, rfl, _⟩, rfl⟩ := t
  obtain ⟨ds, rfl, _⟩ := rows_map (f := Dly.cells) (Q := fun _ => True) fun r hr0 => (by
    obtain ⟨_, _, rfl, _, ⟨a, rfl, _⟩, _, _, rfl, _, ⟨b, rfl, _⟩, _, _, rfl, _, ⟨c, rfl, _⟩, _, _, rfl, _, ⟨d, rfl, _⟩, _, _, rfl, _, ⟨m, rfl⟩, rfl⟩ := hr r hr0
    exact ⟨⟨a, b, c, d, m⟩, rfl, trivial⟩)
  obtain ⟨qs, rfl, _⟩ := rows_map (f := Pas.cells) (Q := fun _ => True) fun r hr0 => (by
    obtain ⟨_, _, rfl, _, ⟨a, rfl, _⟩, _, _, rfl, _, ⟨b, rfl, _⟩, rfl⟩ := hr2 r hr0
    exact ⟨⟨a, b⟩, rfl, trivial⟩)
  exact ⟨l, l2, ds, qs, x, y, rfl, hA, hA2⟩
set_option maxRecDepth 20000 in
set_option maxHeartbeats 16000000 in
theorem lawAnswerOf {S : Sys} [HasLAnswerOf S] : LawHolds S 5 [(true, roomSh), (false, .int .i64)] := by
  intro h cs hcs
  obtain ⟨c0, _, rfl, ⟨ls0, rfl, t0⟩, c1, _, rfl, ⟨ls1, rfl, n, rfl, _⟩, rfl⟩ := hcs
  obtain ⟨l, lp, ds, qs, x, y, rfl, hAl, hBl⟩ := room_of t0
  clear t0
  have hmk : mkV true [l, lp, .flt .f32 x, .flt .f32 y] = .agg [l, lp, .flt .f32 x, .flt .f32 y] := rfl
  refine law_of (F := L5) HasLAnswerOf.f5 rfl ?_
  have b5 : ∀ g, Kept (h ++ [⟨[l, lp, .flt .f32 x, .flt .f32 y], .own 53 1⟩]) g → rdCells g h.length 0 4 = some [l, lp, .flt .f32 x, .flt .f32 y] := fun g k => k.rd (Cel.new.rd (by simp))
  have b50 := b5 _ (Kept.refl _)
  have kb := Kept.app h [⟨[l, lp, .flt .f32 x, .flt .f32 y], .own 53 1⟩]
  have hl1 : h.length + 1 ≤ (h ++ [⟨[l, lp, .flt .f32 x, .flt .f32 y], .own 53 1⟩] : Hp).length := by simp
  unfold L5
  dsimp only []
  generalize hH : (h ++ [⟨[l, lp, .flt .f32 x, .flt .f32 y], .own 53 1⟩] : Hp) = h1 at *
  replace hAl := hAl.kept kb
  replace hBl := hBl.kept kb
  have hs := fun K lim => c_szRoom (S := S) (K := K) (lim := lim) (x := x) (y := y) hAl hBl
  by_cases hsz : (1048576 : Int) < ds.length + qs.length
  · rw [if_pos hsz] at hs
    repeat' (first | (simp (disch := first | omega | assumption | (simp only [List.length_set]; omega) | (simp [*] <;> fail) | assumption) [-Bool.decide_and, -Bool.decide_or, -Bool.not_and, -Bool.not_or, toNat_pred, toNat_succ, wrap64, wr_new, wr_new0, ok_if, ok_ifn, iadV_sl, makeV_int, decT, decF, over_at, *]) | (with_reducible refine Gd_split (fun hc => ?_) (fun hc => ?_) <;> (have hc2 := hc; try simp at hc2)) | (with_reducible refine Br_split (fun hc => ?_) (fun hc => ?_) <;> (have hc2 := hc; try simp at hc2)) | (with_reducible refine GdT_split (fun hc => ?_) (fun hc => ?_) <;> (have hc2 := hc; try simp at hc2)) | (with_reducible refine WT_alt ?_ ?_) | omega)
  rw [if_neg hsz] at hs
  repeat' (first | (simp (disch := first | omega | assumption | (simp only [List.length_set]; omega) | (simp [*] <;> fail) | assumption) [-Bool.decide_and, -Bool.decide_or, -Bool.not_and, -Bool.not_or, toNat_pred, toNat_succ, wrap64, wr_new, wr_new0, ok_if, ok_ifn, iadV_sl, makeV_int, decT, decF, over_at, *]) | (with_reducible refine Gd_split (fun hc => ?_) (fun hc => ?_) <;> (have hc2 := hc; try simp at hc2)) | (with_reducible refine Br_split (fun hc => ?_) (fun hc => ?_) <;> (have hc2 := hc; try simp at hc2)) | (with_reducible refine GdT_split (fun hc => ?_) (fun hc => ?_) <;> (have hc2 := hc; try simp at hc2)) | (with_reducible refine WT_alt ?_ ?_) | omega)
  have hnl : ds.length ≤ 16777216 := by omega
  have hml : qs.length ≤ 16777216 := by omega
  clear hs hsz b50
  have cs : ∀ {g a0c a0p K}, New h1 g a0c 197 5 (ds.map Dly.cells) → New h1 g a0p 199 2 (qs.map Pas.cells) → h.length ≤ g.length → (∀ o g', New g g' o 22 1 ((anR ⟨ds, qs, x, y⟩ n).map fl) → K (.tup [.lf o, .lf (.bool (decide (okAn ⟨ds, qs, x, y⟩ n)))]) g') → CallT S false 25 [.agg [a0c, a0p, .flt .f32 x, .flt .f32 y], .lf (.int .i64 n)] g h.length K := fun h0 h00 hl hk => c_specAnswerOf (R := ⟨ds, qs, x, y⟩) h0.arr h00.arr hl hk
  have ci : ∀ {g a0c a0p K}, New h1 g a0c 197 5 (ds.map Dly.cells) → New h1 g a0p 199 2 (qs.map Pas.cells) → h.length ≤ g.length → (∀ o g', New g g' o 22 1 ((anR ⟨ds, qs, x, y⟩ n).map fl) → K (.tup [.lf o, .lf (.bool (decide (okAn ⟨ds, qs, x, y⟩ n)))]) g') → CallT S false 27 [.agg [a0c, a0p, .flt .f32 x, .flt .f32 y], .lf (.int .i64 n)] g h.length K := fun h0 h00 hl hk => c_implAnswerOf (R := ⟨ds, qs, x, y⟩) h0.arr h00.arr hl hk
  have hsm0 := anR_len (R := ⟨ds, qs, x, y⟩) (n := n)
  generalize decide (okAn ⟨ds, qs, x, y⟩ n) = ok at *
  generalize anR ⟨ds, qs, x, y⟩ n = yy at *
  refine c_toRoom (hAl.kept (Kept.refl h1)) (hBl.kept (Kept.refl h1)) hnl hml (by have := (Kept.refl h1).1; omega) fun x0c x0p g1 hx0c hx0p Frx0 => ?_
  have Zx0 : ∀ s ∈ [x0c, x0p], s ≠ .nils → h1.length ≤ s.id ∧ s.id < g1.length := fun s hs q => by simp only [List.mem_cons, List.not_mem_nil, or_false] at hs; rcases hs with rfl | rfl; exact hx0c.lt q; exact hx0p.lt q
  have K2 := (Kept.refl h1).trans hx0c.kept
  have Q2 := hx0c.kept.1
  have P2 := K2.1
  have Zx0c := hx0c.foot
  have Nx0c := hx0c.base (Kept.refl h1)
  have Zx0p := hx0p.foot
  have Nx0p := hx0p.base (Kept.refl h1)
  repeat' (first | (simp (disch := first | omega | assumption | (simp only [List.length_set]; omega) | (simp [*] <;> fail) | assumption) [-Bool.decide_and, -Bool.decide_or, -Bool.not_and, -Bool.not_or, toNat_pred, toNat_succ, wrap64, wr_new, wr_new0, ok_if, ok_ifn, iadV_sl, makeV_int, decT, decF, over_at, *]) | (with_reducible refine Gd_split (fun hc => ?_) (fun hc => ?_) <;> (have hc2 := hc; try simp at hc2)) | (with_reducible refine Br_split (fun hc => ?_) (fun hc => ?_) <;> (have hc2 := hc; try simp at hc2)) | (with_reducible refine GdT_split (fun hc => ?_) (fun hc => ?_) <;> (have hc2 := hc; try simp at hc2)) | (with_reducible refine WT_alt ?_ ?_) | omega)
  refine cs Nx0c Nx0p (by have := K2.1; omega) fun s0 g3 hs0  => ?_
  have K4 := K2.trans hs0.kept
  have Q4 := hs0.kept.1
  have P4 := K4.1
  have Zs0 := hs0.foot
  have Ns0 := hs0.base K2
  replace Nx0c := Nx0c.later hs0.kept
  replace Nx0p := Nx0p.later hs0.kept
  repeat' (first | (simp (disch := first | omega | assumption | (simp only [List.length_set]; omega) | (simp [*] <;> fail) | assumption) [-Bool.decide_and, -Bool.decide_or, -Bool.not_and, -Bool.not_or, toNat_pred, toNat_succ, wrap64, wr_new, wr_new0, ok_if, ok_ifn, iadV_sl, makeV_int, decT, decF, over_at, *]) | (with_reducible refine Gd_split (fun hc => ?_) (fun hc => ?_) <;> (have hc2 := hc; try simp at hc2)) | (with_reducible refine Br_split (fun hc => ?_) (fun hc => ?_) <;> (have hc2 := hc; try simp at hc2)) | (with_reducible refine GdT_split (fun hc => ?_) (fun hc => ?_) <;> (have hc2 := hc; try simp at hc2)) | (with_reducible refine WT_alt ?_ ?_) | omega)
  refine c_toRoom (hAl.kept K4) (hBl.kept K4) hnl hml (by have := K4.1; omega) fun a0c a0p g5 ha0c ha0p Fra0 => ?_
  have Za0 : ∀ s ∈ [a0c, a0p], s ≠ .nils → g3.length ≤ s.id ∧ s.id < g5.length := fun s hs q => by simp only [List.mem_cons, List.not_mem_nil, or_false] at hs; rcases hs with rfl | rfl; exact ha0c.lt q; exact ha0p.lt q
  have K6 := K4.trans ha0c.kept
  have Q6 := ha0c.kept.1
  have P6 := K6.1
  have Za0c := ha0c.foot
  have Na0c := ha0c.base K4
  have Za0p := ha0p.foot
  have Na0p := ha0p.base K4
  replace Ns0 := Ns0.later ha0c.kept
  repeat' (first | (simp (disch := first | omega | assumption | (simp only [List.length_set]; omega) | (simp [*] <;> fail) | assumption) [-Bool.decide_and, -Bool.decide_or, -Bool.not_and, -Bool.not_or, toNat_pred, toNat_succ, wrap64, wr_new, wr_new0, ok_if, ok_ifn, iadV_sl, makeV_int, decT, decF, over_at, *]) | (with_reducible refine Gd_split (fun hc => ?_) (fun hc => ?_) <;> (have hc2 := hc; try simp at hc2)) | (with_reducible refine Br_split (fun hc => ?_) (fun hc => ?_) <;> (have hc2 := hc; try simp at hc2)) | (with_reducible refine GdT_split (fun hc => ?_) (fun hc => ?_) <;> (have hc2 := hc; try simp at hc2)) | (with_reducible refine WT_alt ?_ ?_) | omega)
  have kx := Kept.app g5 [⟨[a0c, a0p, .flt .f32 x, .flt .f32 y], .own 59 1⟩]
  have bx : rdCells (g5 ++ [⟨[a0c, a0p, .flt .f32 x, .flt .f32 y], .own 59 1⟩]) g5.length 0 4 = some [a0c, a0p, .flt .f32 x, .flt .f32 y] := Cel.new.rd (by simp)
  replace Ns0 := Ns0.later kx
  replace Na0c := Na0c.later kx
  replace Na0p := Na0p.later kx
  have hG7 : (g5 ++ [⟨[a0c, a0p, .flt .f32 x, .flt .f32 y], .own 59 1⟩] : Hp).length = g5.length + 1 := by simp
  have K7 := K6.trans kx
  have P7 := K7.1
  generalize (g5 ++ [⟨[a0c, a0p, .flt .f32 x, .flt .f32 y], .own 59 1⟩] : Hp) = G7 at *
  refine ci Na0c Na0p (by have := K7.1; omega) fun r0 g8 hr0  => ?_
  have K9 := K7.trans hr0.kept
  have Q9 := hr0.kept.1
  have P9 := K9.1
  have Zr0 := hr0.foot
  have Nr0 := hr0.base K7
  replace Ns0 := Ns0.later hr0.kept
  replace Na0c := Na0c.later hr0.kept
  replace Na0p := Na0p.later hr0.kept
  replace bx := hr0.kept.rd bx
  repeat' (first | (simp (disch := first | omega | assumption | (simp only [List.length_set]; omega) | (simp [*] <;> fail) | assumption) [-Bool.decide_and, -Bool.decide_or, -Bool.not_and, -Bool.not_or, toNat_pred, toNat_succ, wrap64, wr_new, wr_new0, ok_if, ok_ifn, iadV_sl, makeV_int, decT, decF, over_at, *, c_eqFloat32S Nr0.arr Ns0.arr]) | (with_reducible refine Gd_split (fun hc => ?_) (fun hc => ?_) <;> (have hc2 := hc; try simp at hc2)) | (with_reducible refine Br_split (fun hc => ?_) (fun hc => ?_) <;> (have hc2 := hc; try simp at hc2)) | (with_reducible refine GdT_split (fun hc => ?_) (fun hc => ?_) <;> (have hc2 := hc; try simp at hc2)) | (with_reducible refine WT_alt ?_ ?_) | omega)
  all_goals
    refine c_toRoom (hAl.kept K9) (hBl.kept K9) hnl hml (by have := K9.1; omega) fun y0c y0p g10 hy0c hy0p Fry0 => ?_
    have Zy0 : ∀ s ∈ [y0c, y0p], s ≠ .nils → g8.length ≤ s.id ∧ s.id < g10.length := fun s hs q => by simp only [List.mem_cons, List.not_mem_nil, or_false] at hs; rcases hs with rfl | rfl; exact hy0c.lt q; exact hy0p.lt q
    have K11 := K9.trans hy0c.kept
    have Q11 := hy0c.kept.1
    have P11 := K11.1
    have Zy0c := hy0c.foot
    have Ny0c := hy0c.base K9
    have Zy0p := hy0p.foot
    have Ny0p := hy0p.base K9
    replace Ns0 := Ns0.later hy0c.kept
    replace Na0c := Na0c.later hy0c.kept
    replace Na0p := Na0p.later hy0c.kept
    replace Nr0 := Nr0.later hy0c.kept
    replace bx := hy0c.kept.rd bx
    repeat' (first | (simp (disch := first | omega | assumption | (simp only [List.length_set]; omega) | (simp [*] <;> fail) | assumption) [-Bool.decide_and, -Bool.decide_or, -Bool.not_and, -Bool.not_or, toNat_pred, toNat_succ, wrap64, wr_new, wr_new0, ok_if, ok_ifn, iadV_sl, makeV_int, decT, decF, over_at, *, c_eqRoom Na0c.arr Na0p.arr Ny0c.arr Ny0p.arr]) | (with_reducible refine Gd_split (fun hc => ?_) (fun hc => ?_) <;> (have hc2 := hc; try simp at hc2)) | (with_reducible refine Br_split (fun hc => ?_) (fun hc => ?_) <;> (have hc2 := hc; try simp at hc2)) | (with_reducible refine GdT_split (fun hc => ?_) (fun hc => ?_) <;> (have hc2 := hc; try simp at hc2)) | (with_reducible refine WT_alt ?_ ?_) | omega)
    refine c_markRoom Na0c Na0p Fra0 hnl hml (by omega) fun kq12 g12 hk012 hk112 hB12 => ?_
    have O12 : ∀ s ∈ [a0c, a0p], s ≠ .nils → h1.length ≤ s.id := fun s hs q => by have := Za0 s hs q; omega
    have Q12 := hB12.len
    have K12 := hB12.kept K11 O12
    replace Ns0 := hB12.new Ns0 O12 (fun s hs => ((fun s hs t ht q1 q2 e => by have := Za0 s hs q1; have := Zs0 t ht q2; omega) : ∀ s ∈ [a0c, a0p], ∀ t ∈ [s0], Far s t) s hs s0 (List.mem_singleton.2 rfl))
    replace Nr0 := hB12.new Nr0 O12 (fun s hs => ((fun s hs t ht q1 q2 e => by have := Za0 s hs q1; have := Zr0 t ht q2; omega) : ∀ s ∈ [a0c, a0p], ∀ t ∈ [r0], Far s t) s hs r0 (List.mem_singleton.2 rfl))
    clear bx
    repeat' (first | (simp (disch := first | omega | assumption | (simp only [List.length_set]; omega) | (simp [*] <;> fail) | assumption) [-Bool.decide_and, -Bool.decide_or, -Bool.not_and, -Bool.not_or, toNat_pred, toNat_succ, wrap64, wr_new, wr_new0, ok_if, ok_ifn, iadV_sl, makeV_int, decT, decF, over_at, *, c_eqFloat32S Nr0.arr Ns0.arr]) | (with_reducible refine Gd_split (fun hc => ?_) (fun hc => ?_) <;> (have hc2 := hc; try simp at hc2)) | (with_reducible refine Br_split (fun hc => ?_) (fun hc => ?_) <;> (have hc2 := hc; try simp at hc2)) | (with_reducible refine GdT_split (fun hc => ?_) (fun hc => ?_) <;> (have hc2 := hc; try simp at hc2)) | (with_reducible refine WT_alt ?_ ?_) | omega)
    refine c_markFloat32S Nr0 (by simp; omega) (by omega) (by omega) (by omega) fun g13 hM13 hC13 => ?_
    have hB13 := hC13.buts
    have O13 : ∀ s ∈ [r0], s ≠ .nils → h1.length ≤ s.id := fun s hs q => by have := Zr0 s hs q; omega
    have Q13 := hB13.len
    have K13 := hB13.kept K12 O13
    replace Ns0 := hB13.new Ns0 O13 (fun s hs => ((fun s hs t ht q1 q2 e => by have := Zr0 s hs q1; have := Zs0 t ht q2; omega) : ∀ s ∈ [r0], ∀ t ∈ [s0], Far s t) s hs s0 (List.mem_singleton.2 rfl))
    simp only [List.length_map] at hM13
    replace Nr0 := hM13
    repeat' (first | (simp (disch := first | omega | assumption | (simp only [List.length_set]; omega) | (simp [*] <;> fail) | assumption) [-Bool.decide_and, -Bool.decide_or, -Bool.not_and, -Bool.not_or, toNat_pred, toNat_succ, wrap64, wr_new, wr_new0, ok_if, ok_ifn, iadV_sl, makeV_int, decT, decF, over_at, *, c_heldFloat32S Nr0.arr]) | (with_reducible refine Gd_split (fun hc => ?_) (fun hc => ?_) <;> (have hc2 := hc; try simp at hc2)) | (with_reducible refine Br_split (fun hc => ?_) (fun hc => ?_) <;> (have hc2 := hc; try simp at hc2)) | (with_reducible refine GdT_split (fun hc => ?_) (fun hc => ?_) <;> (have hc2 := hc; try simp at hc2)) | (with_reducible refine WT_alt ?_ ?_) | omega)
    refine c_toRoom (hAl.kept K13) (hBl.kept K13) hnl hml (by have := K13.1; omega) fun w0c w0p g14 hw0c hw0p Frw0 => ?_
    have Zw0 : ∀ s ∈ [w0c, w0p], s ≠ .nils → g13.length ≤ s.id ∧ s.id < g14.length := fun s hs q => by simp only [List.mem_cons, List.not_mem_nil, or_false] at hs; rcases hs with rfl | rfl; exact hw0c.lt q; exact hw0p.lt q
    have K15 := K13.trans hw0c.kept
    have Q15 := hw0c.kept.1
    have P15 := K15.1
    have Zw0c := hw0c.foot
    have Nw0c := hw0c.base K13
    have Zw0p := hw0p.foot
    have Nw0p := hw0p.base K13
    replace Ns0 := Ns0.later hw0c.kept
    replace Nr0 := Nr0.later hw0c.kept
    repeat' (first | (simp (disch := first | omega | assumption | (simp only [List.length_set]; omega) | (simp [*] <;> fail) | assumption) [-Bool.decide_and, -Bool.decide_or, -Bool.not_and, -Bool.not_or, toNat_pred, toNat_succ, wrap64, wr_new, wr_new0, ok_if, ok_ifn, iadV_sl, makeV_int, decT, decF, over_at, *]) | (with_reducible refine Gd_split (fun hc => ?_) (fun hc => ?_) <;> (have hc2 := hc; try simp at hc2)) | (with_reducible refine Br_split (fun hc => ?_) (fun hc => ?_) <;> (have hc2 := hc; try simp at hc2)) | (with_reducible refine GdT_split (fun hc => ?_) (fun hc => ?_) <;> (have hc2 := hc; try simp at hc2)) | (with_reducible refine WT_alt ?_ ?_) | omega)
    refine ci Nw0c Nw0p (by have := K15.1; omega) fun u0 g16 hu0  => ?_
    have K17 := K15.trans hu0.kept
    have Q17 := hu0.kept.1
    have P17 := K17.1
    have Zu0 := hu0.foot
    have Nu0 := hu0.base K15
    replace Ns0 := Ns0.later hu0.kept
    replace Nr0 := Nr0.later hu0.kept
    replace Nw0c := Nw0c.later hu0.kept
    replace Nw0p := Nw0p.later hu0.kept
    repeat' (first | (simp (disch := first | omega | assumption | (simp only [List.length_set]; omega) | (simp [*] <;> fail) | assumption) [-Bool.decide_and, -Bool.decide_or, -Bool.not_and, -Bool.not_or, toNat_pred, toNat_succ, wrap64, wr_new, wr_new0, ok_if, ok_ifn, iadV_sl, makeV_int, decT, decF, over_at, *, c_eqFloat32S Nu0.arr Ns0.arr, c_heldFloat32S Nr0.arr]) | (with_reducible refine Gd_split (fun hc => ?_) (fun hc => ?_) <;> (have hc2 := hc; try simp at hc2)) | (with_reducible refine Br_split (fun hc => ?_) (fun hc => ?_) <;> (have hc2 := hc; try simp at hc2)) | (with_reducible refine GdT_split (fun hc => ?_) (fun hc => ?_) <;> (have hc2 := hc; try simp at hc2)) | (with_reducible refine WT_alt ?_ ?_) | omega)
end Go.E
namespace Go.E.AnswerOf
open Go Go.E
def pure : FuncId → Bool := fun f => List.elem f [3, 4, 5, 6, 7, 8, 9, 10, 11, 13, 14, 16, 18, 19, 20, 22, 23, 24, 28, 30, 31, 32, 36, 38, 39, 40, 45, 47, 51, 55, 57, 58, 59, 60, 62, 63, 64, 65, 67, 68, 69, 70, 73, 74, 75, 76, 77, 78, 79, 80, 81, 82, 83, 84, 85, 90, 91, 95, 96, 99, 100, 101, 102, 103, 106, 108, 111, 112, 113, 115, 116, 118, 122, 124, 127, 128, 129, 130, 131, 132, 133, 134, 135, 136, 138, 139, 140, 142, 145, 146, 147, 148, 151, 153, 154, 155, 159, 161, 162, 163, 165, 166, 168, 169, 173, 174, 175, 176, 177, 178, 179, 180, 181, 182, 183, 184, 186, 187, 188, 189, 192, 193, 194, 195, 196, 197, 198, 199, 200, 201, 202, 204, 205, 206, 207, 208, 209, 210, 211, 212, 213, 214, 215, 216, 217, 218, 219, 220, 221, 222, 223, 224, 226, 228, 230, 237, 240]
def funs : List (Nat × LFn) := [(74, L74), (85, L85), (91, L91), (84, L84), (90, L90), (112, L112), (115, L115), (148, L148), (149, L149), (155, L155), (156, L156), (197, L197), (198, L198), (189, L189), (206, L206), (217, L217), (218, L218), (192, L192), (157, L157), (150, L150), (151, L151), (152, L152), (158, L158), (159, L159), (160, L160), (190, L190), (191, L191), (87, L87), (92, L92), (114, L114), (79, L79), (113, L113), (41, L41), (44, L44), (125, L125), (25, L25), (27, L27), (86, L86), (93, L93), (94, L94), (67, L67), (82, L82), (88, L88), (95, L95), (97, L97), (153, L153), (161, L161), (83, L83), (89, L89), (96, L96), (98, L98), (154, L154), (162, L162), (24, L24), (26, L26), (28, L28), (29, L29), (16, L16), (17, L17), (18, L18), (43, L43), (5, L5)]
def Sy : Sys := sysOf funs
theorem lfn74 : lFn Go.Proofs.Try.prog pure Go.Proofs.Try.f74 = some L74 := by kernel_rfl
theorem lfn85 : lFn Go.Proofs.Try.prog pure Go.Proofs.Try.f85 = some L85 := by kernel_rfl
theorem lfn91 : lFn Go.Proofs.Try.prog pure Go.Proofs.Try.f91 = some L91 := by kernel_rfl
theorem lfn84 : lFn Go.Proofs.Try.prog pure Go.Proofs.Try.f84 = some L84 := by kernel_rfl
theorem lfn90 : lFn Go.Proofs.Try.prog pure Go.Proofs.Try.f90 = some L90 := by kernel_rfl
theorem lfn112 : lFn Go.Proofs.Try.prog pure Go.Proofs.Try.f112 = some L112 := by kernel_rfl
theorem lfn115 : lFn Go.Proofs.Try.prog pure Go.Proofs.Try.f115 = some L115 := by kernel_rfl
theorem lfn148 : lFn Go.Proofs.Try.prog pure Go.Proofs.Try.f148 = some L148 := by kernel_rfl
theorem lfn149 : lFn Go.Proofs.Try.prog pure Go.Proofs.Try.f149 = some L149 := by kernel_rfl
theorem lfn155 : lFn Go.Proofs.Try.prog pure Go.Proofs.Try.f155 = some L155 := by kernel_rfl
theorem lfn156 : lFn Go.Proofs.Try.prog pure Go.Proofs.Try.f156 = some L156 := by kernel_rfl
theorem lfn197 : lFn Go.Proofs.Try.prog pure Go.Proofs.Try.f197 = some L197 := by kernel_rfl
theorem lfn198 : lFn Go.Proofs.Try.prog pure Go.Proofs.Try.f198 = some L198 := by kernel_rfl
theorem lfn189 : lFn Go.Proofs.Try.prog pure Go.Proofs.Try.f189 = some L189 := by kernel_rfl
theorem lfn206 : lFn Go.Proofs.Try.prog pure Go.Proofs.Try.f206 = some L206 := by kernel_rfl
theorem lfn217 : lFn Go.Proofs.Try.prog pure Go.Proofs.Try.f217 = some L217 := by kernel_rfl
theorem lfn218 : lFn Go.Proofs.Try.prog pure Go.Proofs.Try.f218 = some L218 := by kernel_rfl
theorem lfn192 : lFn Go.Proofs.Try.prog pure Go.Proofs.Try.f192 = some L192 := by kernel_rfl
theorem lfn157 : lFn Go.Proofs.Try.prog pure Go.Proofs.Try.f157 = some L157 := by kernel_rfl
theorem lfn150 : lFn Go.Proofs.Try.prog pure Go.Proofs.Try.f150 = some L150 := by kernel_rfl
theorem lfn151 : lFn Go.Proofs.Try.prog pure Go.Proofs.Try.f151 = some L151 := by kernel_rfl
theorem lfn152 : lFn Go.Proofs.Try.prog pure Go.Proofs.Try.f152 = some L152 := by kernel_rfl
theorem lfn158 : lFn Go.Proofs.Try.prog pure Go.Proofs.Try.f158 = some L158 := by kernel_rfl
theorem lfn159 : lFn Go.Proofs.Try.prog pure Go.Proofs.Try.f159 = some L159 := by kernel_rfl
theorem lfn160 : lFn Go.Proofs.Try.prog pure Go.Proofs.Try.f160 = some L160 := by kernel_rfl
theorem lfn190 : lFn Go.Proofs.Try.prog pure Go.Proofs.Try.f190 = some L190 := by kernel_rfl
theorem lfn191 : lFn Go.Proofs.Try.prog pure Go.Proofs.Try.f191 = some L191 := by kernel_rfl
theorem lfn87 : lFn Go.Proofs.Try.prog pure Go.Proofs.Try.f87 = some L87 := by kernel_rfl
theorem lfn92 : lFn Go.Proofs.Try.prog pure Go.Proofs.Try.f92 = some L92 := by kernel_rfl
theorem lfn114 : lFn Go.Proofs.Try.prog pure Go.Proofs.Try.f114 = some L114 := by kernel_rfl
theorem lfn79 : lFn Go.Proofs.Try.prog pure Go.Proofs.Try.f79 = some L79 := by kernel_rfl
theorem lfn113 : lFn Go.Proofs.Try.prog pure Go.Proofs.Try.f113 = some L113 := by kernel_rfl
theorem lfn41 : lFn Go.Proofs.Try.prog pure Go.Proofs.Try.f41 = some L41 := by kernel_rfl
theorem lfn44 : lFn Go.Proofs.Try.prog pure Go.Proofs.Try.f44 = some L44 := by kernel_rfl
theorem lfn125 : lFn Go.Proofs.Try.prog pure Go.Proofs.Try.f125 = some L125 := by kernel_rfl
theorem lfn25 : lFn Go.Proofs.Try.prog pure Go.Proofs.Try.f25 = some L25 := by kernel_rfl
theorem lfn27 : lFn Go.Proofs.Try.prog pure Go.Proofs.Try.f27 = some L27 := by kernel_rfl
theorem lfn86 : lFn Go.Proofs.Try.prog pure Go.Proofs.Try.f86 = some L86 := by kernel_rfl
theorem lfn93 : lFn Go.Proofs.Try.prog pure Go.Proofs.Try.f93 = some L93 := by kernel_rfl
theorem lfn94 : lFn Go.Proofs.Try.prog pure Go.Proofs.Try.f94 = some L94 := by kernel_rfl
theorem lfn67 : lFn Go.Proofs.Try.prog pure Go.Proofs.Try.f67 = some L67 := by kernel_rfl
theorem lfn82 : lFn Go.Proofs.Try.prog pure Go.Proofs.Try.f82 = some L82 := by kernel_rfl
theorem lfn88 : lFn Go.Proofs.Try.prog pure Go.Proofs.Try.f88 = some L88 := by kernel_rfl
theorem lfn95 : lFn Go.Proofs.Try.prog pure Go.Proofs.Try.f95 = some L95 := by kernel_rfl
theorem lfn97 : lFn Go.Proofs.Try.prog pure Go.Proofs.Try.f97 = some L97 := by kernel_rfl
theorem lfn153 : lFn Go.Proofs.Try.prog pure Go.Proofs.Try.f153 = some L153 := by kernel_rfl
theorem lfn161 : lFn Go.Proofs.Try.prog pure Go.Proofs.Try.f161 = some L161 := by kernel_rfl
theorem lfn83 : lFn Go.Proofs.Try.prog pure Go.Proofs.Try.f83 = some L83 := by kernel_rfl
theorem lfn89 : lFn Go.Proofs.Try.prog pure Go.Proofs.Try.f89 = some L89 := by kernel_rfl
theorem lfn96 : lFn Go.Proofs.Try.prog pure Go.Proofs.Try.f96 = some L96 := by kernel_rfl
theorem lfn98 : lFn Go.Proofs.Try.prog pure Go.Proofs.Try.f98 = some L98 := by kernel_rfl
theorem lfn154 : lFn Go.Proofs.Try.prog pure Go.Proofs.Try.f154 = some L154 := by kernel_rfl
theorem lfn162 : lFn Go.Proofs.Try.prog pure Go.Proofs.Try.f162 = some L162 := by kernel_rfl
theorem lfn24 : lFn Go.Proofs.Try.prog pure Go.Proofs.Try.f24 = some L24 := by kernel_rfl
theorem lfn26 : lFn Go.Proofs.Try.prog pure Go.Proofs.Try.f26 = some L26 := by kernel_rfl
theorem lfn28 : lFn Go.Proofs.Try.prog pure Go.Proofs.Try.f28 = some L28 := by kernel_rfl
theorem lfn29 : lFn Go.Proofs.Try.prog pure Go.Proofs.Try.f29 = some L29 := by kernel_rfl
theorem lfn16 : lFn Go.Proofs.Try.prog pure Go.Proofs.Try.f16 = some L16 := by kernel_rfl
theorem lfn17 : lFn Go.Proofs.Try.prog pure Go.Proofs.Try.f17 = some L17 := by kernel_rfl
theorem lfn18 : lFn Go.Proofs.Try.prog pure Go.Proofs.Try.f18 = some L18 := by kernel_rfl
theorem lfn43 : lFn Go.Proofs.Try.prog pure Go.Proofs.Try.f43 = some L43 := by kernel_rfl
theorem lfn5 : lFn Go.Proofs.Try.prog pure Go.Proofs.Try.f5 = some L5 := by kernel_rfl
instance : HasA Sy := { f74 := rfl, f85 := rfl, f91 := rfl }
instance : HasRv Sy := { f84 := rfl, f90 := rfl, f112 := rfl, f115 := rfl, f148 := rfl, f149 := rfl, f155 := rfl, f156 := rfl }
instance : HasFb Sy := { f197 := rfl, f198 := rfl }
instance : HasFf Sy := { f189 := rfl, f206 := rfl, f217 := rfl, f218 := rfl }
instance : HasFl2 Sy := { f192 := rfl }
instance : HasCn Sy := { f157 := rfl }
instance : HasRp Sy := { f150 := rfl, f151 := rfl, f152 := rfl, f158 := rfl, f159 := rfl, f160 := rfl, f190 := rfl, f191 := rfl }
instance : HasRq Sy := { f87 := rfl, f92 := rfl, f114 := rfl }
instance : HasP Sy := { f79 := rfl, f113 := rfl }
instance : HasRw Sy := { f41 := rfl, f44 := rfl }
instance : HasN Sy := { f125 := rfl }
instance : HasRz Sy := { f25 := rfl, f27 := rfl, f86 := rfl, f93 := rfl, f94 := rfl }
instance : HasSame Sy := { f67 := rfl }
instance : HasDLY Sy := { f82 := rfl, f88 := rfl, f95 := rfl, f97 := rfl, f153 := rfl, f161 := rfl }
instance : HasPAS Sy := { f83 := rfl, f89 := rfl, f96 := rfl, f98 := rfl, f154 := rfl, f162 := rfl }
instance : HasRMH Sy := { f24 := rfl, f26 := rfl, f28 := rfl, f29 := rfl }
instance : HasF Sy := { f16 := rfl, f17 := rfl, f18 := rfl, f43 := rfl }
instance : HasLAnswerOf Sy := { f5 := rfl }
theorem sysOK {B : Nat} {w0 : World} : SysOK Go.Proofs.Try.prog pure Sy B w0 := SysOK.of (by
  intro p hp
  simp only [funs, List.mem_cons, List.not_mem_nil, or_false] at hp
  rcases hp with rfl | rfl | rfl | rfl | rfl | rfl | rfl | rfl | rfl | rfl | rfl | rfl | rfl | rfl | rfl | rfl | rfl | rfl | rfl | rfl | rfl | rfl | rfl | rfl | rfl | rfl | rfl | rfl | rfl | rfl | rfl | rfl | rfl | rfl | rfl | rfl | rfl | rfl | rfl | rfl | rfl | rfl | rfl | rfl | rfl | rfl | rfl | rfl | rfl | rfl | rfl | rfl | rfl | rfl | rfl | rfl | rfl | rfl | rfl | rfl | rfl | rfl
  · exact ⟨_, Go.Proofs.Try.func74, lfn74⟩
  · exact ⟨_, Go.Proofs.Try.func85, lfn85⟩
  · exact ⟨_, Go.Proofs.Try.func91, lfn91⟩
  · exact ⟨_, Go.Proofs.Try.func84, lfn84⟩
  · exact ⟨_, Go.Proofs.Try.func90, lfn90⟩
  · exact ⟨_, Go.Proofs.Try.func112, lfn112⟩
  · exact ⟨_, Go.Proofs.Try.func115, lfn115⟩
  · exact ⟨_, Go.Proofs.Try.func148, lfn148⟩
  · exact ⟨_, Go.Proofs.Try.func149, lfn149⟩
  · exact ⟨_, Go.Proofs.Try.func155, lfn155⟩
  · exact ⟨_, Go.Proofs.Try.func156, lfn156⟩
  · exact ⟨_, Go.Proofs.Try.func197, lfn197⟩
  · exact ⟨_, Go.Proofs.Try.func198, lfn198⟩
  · exact ⟨_, Go.Proofs.Try.func189, lfn189⟩
  · exact ⟨_, Go.Proofs.Try.func206, lfn206⟩
  · exact ⟨_, Go.Proofs.Try.func217, lfn217⟩
  · exact ⟨_, Go.Proofs.Try.func218, lfn218⟩
  · exact ⟨_, Go.Proofs.Try.func192, lfn192⟩
  · exact ⟨_, Go.Proofs.Try.func157, lfn157⟩
  · exact ⟨_, Go.Proofs.Try.func150, lfn150⟩
  · exact ⟨_, Go.Proofs.Try.func151, lfn151⟩
  · exact ⟨_, Go.Proofs.Try.func152, lfn152⟩
  · exact ⟨_, Go.Proofs.Try.func158, lfn158⟩
  · exact ⟨_, Go.Proofs.Try.func159, lfn159⟩
  · exact ⟨_, Go.Proofs.Try.func160, lfn160⟩
  · exact ⟨_, Go.Proofs.Try.func190, lfn190⟩
  · exact ⟨_, Go.Proofs.Try.func191, lfn191⟩
  · exact ⟨_, Go.Proofs.Try.func87, lfn87⟩
  · exact ⟨_, Go.Proofs.Try.func92, lfn92⟩
  · exact ⟨_, Go.Proofs.Try.func114, lfn114⟩
  · exact ⟨_, Go.Proofs.Try.func79, lfn79⟩
  · exact ⟨_, Go.Proofs.Try.func113, lfn113⟩
  · exact ⟨_, Go.Proofs.Try.func41, lfn41⟩
  · exact ⟨_, Go.Proofs.Try.func44, lfn44⟩
  · exact ⟨_, Go.Proofs.Try.func125, lfn125⟩
  · exact ⟨_, Go.Proofs.Try.func25, lfn25⟩
  · exact ⟨_, Go.Proofs.Try.func27, lfn27⟩
  · exact ⟨_, Go.Proofs.Try.func86, lfn86⟩
  · exact ⟨_, Go.Proofs.Try.func93, lfn93⟩
  · exact ⟨_, Go.Proofs.Try.func94, lfn94⟩
  · exact ⟨_, Go.Proofs.Try.func67, lfn67⟩
  · exact ⟨_, Go.Proofs.Try.func82, lfn82⟩
  · exact ⟨_, Go.Proofs.Try.func88, lfn88⟩
  · exact ⟨_, Go.Proofs.Try.func95, lfn95⟩
  · exact ⟨_, Go.Proofs.Try.func97, lfn97⟩
  · exact ⟨_, Go.Proofs.Try.func153, lfn153⟩
  · exact ⟨_, Go.Proofs.Try.func161, lfn161⟩
  · exact ⟨_, Go.Proofs.Try.func83, lfn83⟩
  · exact ⟨_, Go.Proofs.Try.func89, lfn89⟩
  · exact ⟨_, Go.Proofs.Try.func96, lfn96⟩
  · exact ⟨_, Go.Proofs.Try.func98, lfn98⟩
  · exact ⟨_, Go.Proofs.Try.func154, lfn154⟩
  · exact ⟨_, Go.Proofs.Try.func162, lfn162⟩
  · exact ⟨_, Go.Proofs.Try.func24, lfn24⟩
  · exact ⟨_, Go.Proofs.Try.func26, lfn26⟩
  · exact ⟨_, Go.Proofs.Try.func28, lfn28⟩
  · exact ⟨_, Go.Proofs.Try.func29, lfn29⟩
  · exact ⟨_, Go.Proofs.Try.func16, lfn16⟩
  · exact ⟨_, Go.Proofs.Try.func17, lfn17⟩
  · exact ⟨_, Go.Proofs.Try.func18, lfn18⟩
  · exact ⟨_, Go.Proofs.Try.func43, lfn43⟩
  · exact ⟨_, Go.Proofs.Try.func5, lfn5⟩)

end Go.E.AnswerOf
