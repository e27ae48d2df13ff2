/- The law of RunRoom: what the evaluator finds. -/
import Derived.Test.YtclbkfmelhheaaaMRw
import Derived.Test.YtclbkfmelhheaaaMDk
import Derived.Test.YtclbkfmelhheaaaMDs
import Derived.Test.YtclbkfmelhheaaaProg
set_option linter.unusedVariables false
set_option linter.unusedSimpArgs false
namespace Go.E
open Go
def L9 : LFn := ⟨3, (.seq (.reg [⟨(.some 3), (.box 53 (.t 0)), none⟩, ⟨(.some 6), (.mv (.c (.lf (.bool false)))), none⟩])
 (.seq (.seq (.reg [⟨(.some 23), (.mv (.t 2)), none⟩, ⟨(.some 24), (.len (.t 23)), none⟩, ⟨(.some 25), (.bin .gtr (.t 24) (.c (.lf (.int .i64 1048576)))), none⟩])
 (.cond (.t 25) (.seq (.reg [⟨(.some 6), (.mv (.c (.lf (.bool true)))), none⟩])
 .ret) .skip))
 (.seq (.reg [⟨(.some 7), (.mv (.c (.lf (.int .i64 1048576)))), none⟩])
 (.seq (.reg [⟨(.some 26), (.load true 4 (.t 3)), none⟩, ⟨(.some 27), (.mv (.t 7)), none⟩, ⟨(.some 28), (.call true 24 [(.t 26), (.t 27)]), none⟩, ⟨(.some 7), (.mv (.t 28)), none⟩])
 (.seq (.seq (.reg [⟨(.some 29), (.mv (.t 7)), none⟩, ⟨(.some 30), (.bin .lss (.t 29) (.c (.lf (.int .i64 0)))), none⟩])
 (.cond (.t 30) (.seq (.reg [⟨(.some 6), (.mv (.c (.lf (.bool true)))), none⟩])
 .ret) .skip))
 (.seq (.reg [⟨(.some 31), (.mv (.t 1)), none⟩, ⟨(.some 32), (.mv (.t 7)), none⟩, ⟨(.some 33), (.call true 40 [(.t 31), (.t 32)]), none⟩, ⟨(.some 7), (.mv (.t 33)), none⟩])
 (.seq (.seq (.reg [⟨(.some 34), (.mv (.t 7)), none⟩, ⟨(.some 35), (.bin .lss (.t 34) (.c (.lf (.int .i64 0)))), none⟩])
 (.cond (.t 35) (.seq (.reg [⟨(.some 6), (.mv (.c (.lf (.bool true)))), none⟩])
 .ret) .skip))
 (.seq (.reg [⟨(.some 37), (.load true 4 (.t 3)), none⟩, ⟨(.some 38), (.call false 26 [(.t 37)]), none⟩, ⟨(.some 39), (.mv (.t 1)), none⟩, ⟨(.some 40), (.call false 42 [(.t 39)]), none⟩, ⟨(.some 41), (.mv (.t 2)), none⟩, ⟨(.some 42), (.call false 43 [(.t 41)]), none⟩, ⟨(.some 43), (.call false 41 [(.t 38), (.t 40), (.t 42)]), none⟩, ⟨(.some 36), (.mv (.t 43)), none⟩, ⟨(.some 44), (.ext (.t 36) 0), none⟩, ⟨(.some 45), (.ext (.t 36) 1), none⟩, ⟨(.some 46), (.ext (.t 36) 2), none⟩, ⟨(.some 8), (.mv (.t 44)), none⟩, ⟨(.some 9), (.mv (.t 45)), none⟩, ⟨(.some 10), (.mv (.t 46)), none⟩])
 (.seq (.reg [⟨(.some 47), (.load true 4 (.t 3)), none⟩, ⟨(.some 48), (.call false 26 [(.t 47)]), none⟩, ⟨(.some 11), (.alloc 59 [.nils, .nils, (.flt .f32 0), (.flt .f32 0)]), none⟩, ⟨none, (.store 4 (.t 11) (.t 48)), none⟩])
 (.seq (.reg [⟨(.some 49), (.mv (.t 1)), none⟩, ⟨(.some 50), (.call false 42 [(.t 49)]), none⟩, ⟨(.some 12), (.mv (.t 50)), none⟩])
 (.seq (.reg [⟨(.some 51), (.mv (.t 2)), none⟩, ⟨(.some 52), (.call false 43 [(.t 51)]), none⟩, ⟨(.some 13), (.mv (.t 52)), none⟩])
 (.seq (.reg [⟨(.some 54), (.load true 4 (.t 11)), none⟩, ⟨(.some 55), (.mv (.t 12)), none⟩, ⟨(.some 56), (.mv (.t 13)), none⟩, ⟨(.some 57), (.call false 44 [(.t 54), (.t 55), (.t 56)]), none⟩, ⟨(.some 53), (.mv (.t 57)), none⟩, ⟨(.some 58), (.ext (.t 53) 0), none⟩, ⟨(.some 59), (.ext (.t 53) 1), none⟩, ⟨(.some 60), (.ext (.t 53) 2), none⟩, ⟨(.some 14), (.mv (.t 58)), none⟩, ⟨(.some 15), (.mv (.t 59)), none⟩, ⟨(.some 16), (.mv (.t 60)), none⟩])
 (.seq (.seq (.reg [⟨(.some 61), (.mv (.t 14)), none⟩, ⟨(.some 62), (.mv (.t 8)), none⟩, ⟨(.some 63), (.call true 16 [(.t 61), (.t 62)]), none⟩, ⟨(.some 64), (.una .not (.t 63)), none⟩, ⟨(.some 65), (.mv (.t 64)), none⟩, ⟨(.some 66), (.mv (.t 15)), (.some (65, false))⟩, ⟨(.some 67), (.mv (.t 9)), (.some (65, false))⟩, ⟨(.some 68), (.call true 45 [(.t 66), (.t 67)]), (.some (65, false))⟩, ⟨(.some 69), (.una .not (.t 68)), (.some (65, false))⟩, ⟨(.some 70), (.pick (.t 65) (.c (.lf (.bool true))) (.t 69)), none⟩, ⟨(.some 71), (.mv (.t 70)), none⟩, ⟨(.some 72), (.mv (.t 16)), (.some (71, false))⟩, ⟨(.some 73), (.mv (.t 10)), (.some (71, false))⟩, ⟨(.some 74), (.beq true (.t 72) (.t 73)), (.some (71, false))⟩, ⟨(.some 75), (.pick (.t 71) (.c (.lf (.bool true))) (.t 74)), none⟩])
 (.cond (.t 75) (.seq (.reg [⟨(.some 6), (.mv (.c (.lf (.bool false)))), none⟩])
 .ret) .skip))
 (.seq (.seq (.any (.op ⟨(.some 77), (.load true 4 (.t 3)), none⟩ (.alt (.op ⟨(.some 76), (.load true 4 (.t 11)), none⟩ (.op ⟨(.some 78), (.call false 26 [(.t 77)]), none⟩ (.op ⟨(.some 79), (.call true 28 [(.t 76), (.t 78)]), none⟩ (.op ⟨(.some 80), (.una .not (.t 79)), none⟩ .nil)))) (.op ⟨(.some 78), (.call false 26 [(.t 77)]), none⟩ (.op ⟨(.some 76), (.load true 4 (.t 11)), none⟩ (.op ⟨(.some 79), (.call true 28 [(.t 76), (.t 78)]), none⟩ (.op ⟨(.some 80), (.una .not (.t 79)), none⟩ .nil)))))))
 (.cond (.t 80) (.seq (.reg [⟨(.some 6), (.mv (.c (.lf (.bool false)))), none⟩])
 .ret) .skip))
 (.seq (.seq (.reg [⟨(.some 81), (.mv (.t 12)), none⟩, ⟨(.some 82), (.mv (.t 1)), none⟩, ⟨(.some 83), (.call false 42 [(.t 82)]), none⟩, ⟨(.some 84), (.call true 45 [(.t 81), (.t 83)]), none⟩, ⟨(.some 85), (.una .not (.t 84)), none⟩])
 (.cond (.t 85) (.seq (.reg [⟨(.some 6), (.mv (.c (.lf (.bool false)))), none⟩])
 .ret) .skip))
 (.seq (.seq (.reg [⟨(.some 86), (.mv (.t 13)), none⟩, ⟨(.some 87), (.mv (.t 2)), none⟩, ⟨(.some 88), (.call false 43 [(.t 87)]), none⟩, ⟨(.some 89), (.call true 16 [(.t 86), (.t 88)]), none⟩, ⟨(.some 90), (.una .not (.t 89)), none⟩])
 (.cond (.t 90) (.seq (.reg [⟨(.some 6), (.mv (.c (.lf (.bool false)))), none⟩])
 .ret) .skip))
 (.seq (.reg [⟨(.some 17), (.mv (.c (.lf (.int .i64 1)))), none⟩])
 (.seq (.reg [⟨(.some 91), (.load true 4 (.t 11)), none⟩, ⟨(.some 92), (.mv (.t 17)), none⟩, ⟨(.some 93), (.call false 29 [(.t 91), (.t 92)]), none⟩, ⟨(.some 17), (.mv (.t 93)), none⟩])
 (.seq (.reg [⟨(.some 94), (.mv (.t 12)), none⟩, ⟨(.some 95), (.mv (.t 17)), none⟩, ⟨(.some 96), (.call false 46 [(.t 94), (.t 95)]), none⟩, ⟨(.some 17), (.mv (.t 96)), none⟩])
 (.seq (.reg [⟨(.some 97), (.mv (.t 13)), none⟩, ⟨(.some 98), (.mv (.t 17)), none⟩, ⟨(.some 99), (.call false 17 [(.t 97), (.t 98)]), none⟩, ⟨(.some 17), (.mv (.t 99)), none⟩])
 (.seq (.seq (.reg [⟨(.some 100), (.mv (.t 17)), none⟩, ⟨(.some 101), (.bin .lss (.t 100) (.c (.lf (.int .i64 0)))), none⟩, ⟨(.some 102), (.mv (.t 101)), none⟩, ⟨(.some 103), (.mv (.t 14)), (.some (102, false))⟩, ⟨(.some 104), (.mv (.t 8)), (.some (102, false))⟩, ⟨(.some 105), (.call true 16 [(.t 103), (.t 104)]), (.some (102, false))⟩, ⟨(.some 106), (.una .not (.t 105)), (.some (102, false))⟩, ⟨(.some 107), (.pick (.t 102) (.c (.lf (.bool true))) (.t 106)), none⟩, ⟨(.some 108), (.mv (.t 107)), none⟩, ⟨(.some 109), (.mv (.t 15)), (.some (108, false))⟩, ⟨(.some 110), (.mv (.t 9)), (.some (108, false))⟩, ⟨(.some 111), (.call true 45 [(.t 109), (.t 110)]), (.some (108, false))⟩, ⟨(.some 112), (.una .not (.t 111)), (.some (108, false))⟩, ⟨(.some 113), (.pick (.t 108) (.c (.lf (.bool true))) (.t 112)), none⟩, ⟨(.some 114), (.mv (.t 113)), none⟩, ⟨(.some 115), (.mv (.t 16)), (.some (114, false))⟩, ⟨(.some 116), (.mv (.t 10)), (.some (114, false))⟩, ⟨(.some 117), (.beq true (.t 115) (.t 116)), (.some (114, false))⟩, ⟨(.some 118), (.pick (.t 114) (.c (.lf (.bool true))) (.t 117)), none⟩])
 (.cond (.t 118) (.seq (.reg [⟨(.some 6), (.mv (.c (.lf (.bool false)))), none⟩])
 .ret) .skip))
 (.seq (.reg [⟨(.some 18), (.mv (.c (.lf (.int .i64 1)))), none⟩])
 (.seq (.reg [⟨(.some 119), (.mv (.t 14)), none⟩, ⟨(.some 120), (.mv (.t 18)), none⟩, ⟨(.some 121), (.call false 17 [(.t 119), (.t 120)]), none⟩, ⟨(.some 18), (.mv (.t 121)), none⟩])
 (.seq (.reg [⟨(.some 122), (.mv (.t 15)), none⟩, ⟨(.some 123), (.mv (.t 18)), none⟩, ⟨(.some 124), (.call false 46 [(.t 122), (.t 123)]), none⟩, ⟨(.some 18), (.mv (.t 124)), none⟩])
 (.seq (.reg [⟨(.some 19), (.mv (.c (.lf (.int .i64 1)))), none⟩])
 (.seq (.reg [⟨(.some 125), (.mv (.t 14)), none⟩, ⟨(.some 126), (.mv (.t 19)), none⟩, ⟨(.some 127), (.call true 18 [(.t 125), (.t 126)]), none⟩, ⟨(.some 19), (.mv (.t 127)), none⟩])
 (.seq (.seq (.reg [⟨(.some 128), (.mv (.t 19)), none⟩, ⟨(.some 129), (.bin .lss (.t 128) (.c (.lf (.int .i64 0)))), none⟩])
 (.cond (.t 129) (.seq (.reg [⟨(.some 6), (.mv (.c (.lf (.bool false)))), none⟩])
 .ret) .skip))
 (.seq (.reg [⟨(.some 130), (.mv (.t 15)), none⟩, ⟨(.some 131), (.mv (.t 19)), none⟩, ⟨(.some 132), (.call true 47 [(.t 130), (.t 131)]), none⟩, ⟨(.some 19), (.mv (.t 132)), none⟩])
 (.seq (.seq (.reg [⟨(.some 133), (.mv (.t 19)), none⟩, ⟨(.some 134), (.bin .lss (.t 133) (.c (.lf (.int .i64 0)))), none⟩])
 (.cond (.t 134) (.seq (.reg [⟨(.some 6), (.mv (.c (.lf (.bool false)))), none⟩])
 .ret) .skip))
 (.seq (.seq (.reg [⟨(.some 135), (.mv (.t 19)), none⟩, ⟨(.some 136), (.mv (.t 18)), none⟩, ⟨(.some 137), (.bin .neq (.t 135) (.t 136)), none⟩])
 (.cond (.t 137) (.seq (.reg [⟨(.some 6), (.mv (.c (.lf (.bool false)))), none⟩])
 .ret) .skip))
 (.seq (.reg [⟨(.some 139), (.load true 4 (.t 3)), none⟩, ⟨(.some 140), (.call false 26 [(.t 139)]), none⟩, ⟨(.some 141), (.mv (.t 1)), none⟩, ⟨(.some 142), (.call false 42 [(.t 141)]), none⟩, ⟨(.some 143), (.mv (.t 2)), none⟩, ⟨(.some 144), (.call false 43 [(.t 143)]), none⟩, ⟨(.some 145), (.call false 44 [(.t 140), (.t 142), (.t 144)]), none⟩, ⟨(.some 138), (.mv (.t 145)), none⟩, ⟨(.some 146), (.ext (.t 138) 0), none⟩, ⟨(.some 147), (.ext (.t 138) 1), none⟩, ⟨(.some 148), (.ext (.t 138) 2), none⟩, ⟨(.some 20), (.mv (.t 146)), none⟩, ⟨(.some 21), (.mv (.t 147)), none⟩, ⟨(.some 22), (.mv (.t 148)), none⟩])
 (.seq (.seq (.reg [⟨(.some 149), (.mv (.t 20)), none⟩, ⟨(.some 150), (.mv (.t 8)), none⟩, ⟨(.some 151), (.call true 16 [(.t 149), (.t 150)]), none⟩, ⟨(.some 152), (.una .not (.t 151)), none⟩, ⟨(.some 153), (.mv (.t 152)), none⟩, ⟨(.some 154), (.mv (.t 21)), (.some (153, false))⟩, ⟨(.some 155), (.mv (.t 9)), (.some (153, false))⟩, ⟨(.some 156), (.call true 45 [(.t 154), (.t 155)]), (.some (153, false))⟩, ⟨(.some 157), (.una .not (.t 156)), (.some (153, false))⟩, ⟨(.some 158), (.pick (.t 153) (.c (.lf (.bool true))) (.t 157)), none⟩, ⟨(.some 159), (.mv (.t 158)), none⟩, ⟨(.some 160), (.mv (.t 22)), (.some (159, false))⟩, ⟨(.some 161), (.mv (.t 10)), (.some (159, false))⟩, ⟨(.some 162), (.beq true (.t 160) (.t 161)), (.some (159, false))⟩, ⟨(.some 163), (.pick (.t 159) (.c (.lf (.bool true))) (.t 162)), none⟩])
 (.cond (.t 163) (.seq (.reg [⟨(.some 6), (.mv (.c (.lf (.bool false)))), none⟩])
 .ret) .skip))
 (.seq (.reg [⟨(.some 19), (.mv (.c (.lf (.int .i64 1)))), none⟩])
 (.seq (.reg [⟨(.some 164), (.mv (.t 14)), none⟩, ⟨(.some 165), (.mv (.t 19)), none⟩, ⟨(.some 166), (.call true 18 [(.t 164), (.t 165)]), none⟩, ⟨(.some 19), (.mv (.t 166)), none⟩])
 (.seq (.seq (.reg [⟨(.some 167), (.mv (.t 19)), none⟩, ⟨(.some 168), (.bin .lss (.t 167) (.c (.lf (.int .i64 0)))), none⟩])
 (.cond (.t 168) (.seq (.reg [⟨(.some 6), (.mv (.c (.lf (.bool false)))), none⟩])
 .ret) .skip))
 (.seq (.reg [⟨(.some 169), (.mv (.t 15)), none⟩, ⟨(.some 170), (.mv (.t 19)), none⟩, ⟨(.some 171), (.call true 47 [(.t 169), (.t 170)]), none⟩, ⟨(.some 19), (.mv (.t 171)), none⟩])
 (.seq (.seq (.reg [⟨(.some 172), (.mv (.t 19)), none⟩, ⟨(.some 173), (.bin .lss (.t 172) (.c (.lf (.int .i64 0)))), none⟩])
 (.cond (.t 173) (.seq (.reg [⟨(.some 6), (.mv (.c (.lf (.bool false)))), none⟩])
 .ret) .skip))
 (.seq (.seq (.reg [⟨(.some 174), (.mv (.t 19)), none⟩, ⟨(.some 175), (.mv (.t 18)), none⟩, ⟨(.some 176), (.bin .neq (.t 174) (.t 175)), none⟩])
 (.cond (.t 176) (.seq (.reg [⟨(.some 6), (.mv (.c (.lf (.bool false)))), none⟩])
 .ret) .skip))
 (.seq (.reg [⟨(.some 6), (.mv (.c (.lf (.bool true)))), none⟩])
 .ret))))))))))))))))))))))))))))))))))))))), [(.tmp 6)]⟩
class HasLRunRoom (S : Sys) : Prop extends HasRw S, HasRMH S, HasDSS S, HasKSS S, HasF S where
  f9 : S.fs 9 = some L9
def dlySh : Sh := .cat 1 (.int .i64) (.cat 1 (.flt .f32) (.cat 1 (.flt .f32) (.cat 1 (.flt .f32) (.cat 1 .bool .emp))))
def pasSh : Sh := .cat 1 (.int .i64) (.cat 1 (.flt .f32) .emp)
def roomSh : Sh := .cat 1 (.sl 5 dlySh) (.cat 1 (.sl 2 pasSh) (.cat 1 (.flt .f32) (.cat 1 (.flt .f32) .emp)))
theorem room_of {h : Hp} {r : List Lf} (t : Ty h roomSh r) : ∃ (l l2 : Lf) (ds : List Dly) (qs : List Pas) (x y : Nat), r = [l, l2, .flt .f32 x, .flt .f32 y] ∧ Arr h l 5 (ds.map Dly.cells) ∧ Arr h l2 2 (qs.map Pas.cells) := by
  obtain ⟨_, _, rfl, _, ⟨l, rows, rfl, hA, hr⟩, _, _, rfl, _, ⟨l2, rows2, rfl, hA2, hr2⟩, _, _, rfl, _, ⟨x, rfl, _⟩, _, _, rfl, _, ⟨y, rfl, _⟩, rfl⟩ := t
  obtain ⟨ds, rfl, _⟩ := rows_map (f := Dly.cells) (Q := fun _ => True) fun r hr0 => (by
    obtain ⟨_, _, rfl, _, ⟨a, rfl, _⟩, _, _, rfl, _, ⟨b, rfl, _⟩, _, _, rfl, _, ⟨c, rfl, _⟩, _, _, rfl, _, ⟨d, rfl, _⟩, _, _, rfl, _, ⟨m, rfl⟩, rfl⟩ := hr r hr0
    exact ⟨⟨a, b, c, d, m⟩, rfl, trivial⟩)
  obtain ⟨qs, rfl, _⟩ := rows_map (f := Pas.cells) (Q := fun _ => True) fun r hr0 => (by
    obtain ⟨_, _, rfl, _, ⟨a, rfl, _⟩, _, _, rfl, _, ⟨b, rfl, _⟩, rfl⟩ := hr2 r hr0
    exact ⟨⟨a, b⟩, rfl, trivial⟩)
  exact ⟨l, l2, ds, qs, x, y, rfl, hA, hA2⟩
set_option maxRecDepth 20000 in
set_option maxHeartbeats 16000000 in
theorem lawRunRoom {S : Sys} [HasLRunRoom S] : LawHolds S 9 [(true, roomSh), (false, .sl 1 flSl), (false, .sl 1 (.flt .f32))] := by
  intro h cs hcs
  obtain ⟨c0, _, rfl, ⟨ls0, rfl, t0⟩, c1, _, rfl, ⟨ls1, rfl, l2, rows2, rfl, hAl2, hrows2⟩, c2, _, rfl, ⟨ls2, rfl, l3, rows3, rfl, hAl3, hrows3⟩, rfl⟩ := hcs
  obtain ⟨l, lp, ds, qs, x, y, rfl, hAl, hBl⟩ := room_of t0
  obtain ⟨ps, rfl, hIl2, _⟩ := sss_of hrows2
  obtain ⟨xs, rfl, _⟩ := cf_rows hrows3
  clear hrows2 hrows3 t0
  have hmk : mkV true [l, lp, .flt .f32 x, .flt .f32 y] = .agg [l, lp, .flt .f32 x, .flt .f32 y] := rfl
  refine law_of (F := L9) HasLRunRoom.f9 rfl ?_
  have b5 : ∀ g, Kept (h ++ [⟨[l, lp, .flt .f32 x, .flt .f32 y], .own 53 1⟩]) g → rdCells g h.length 0 4 = some [l, lp, .flt .f32 x, .flt .f32 y] := fun g k => k.rd (Cel.new.rd (by simp))
  have b50 := b5 _ (Kept.refl _)
  have kb := Kept.app h [⟨[l, lp, .flt .f32 x, .flt .f32 y], .own 53 1⟩]
  have hl1 : h.length + 1 ≤ (h ++ [⟨[l, lp, .flt .f32 x, .flt .f32 y], .own 53 1⟩] : Hp).length := by simp
  unfold L9
  dsimp only []
  generalize hH : (h ++ [⟨[l, lp, .flt .f32 x, .flt .f32 y], .own 53 1⟩] : Hp) = h1 at *
  replace hAl := hAl.kept kb
  replace hBl := hBl.kept kb
  replace hAl2 := hAl2.kept kb
  replace hIl2 := hIl2.kept kb
  replace hAl3 := hAl3.kept kb
  by_cases hn3 : xs.length ≤ 1048576
  rotate_left
  · repeat' (first | (simp (disch := first | omega | assumption | (simp only [List.length_set]; omega) | (simp [*] <;> fail) | assumption) [-Bool.decide_and, -Bool.decide_or, -Bool.not_and, -Bool.not_or, toNat_pred, toNat_succ, wrap64, wr_new, wr_new0, ok_if, ok_ifn, iadV_sl, makeV_int, decT, decF, over_at, *, hAl3.len]) | (with_reducible refine Gd_split (fun hc => ?_) (fun hc => ?_) <;> (have hc2 := hc; try simp at hc2)) | (with_reducible refine Br_split (fun hc => ?_) (fun hc => ?_) <;> (have hc2 := hc; try simp at hc2)) | (with_reducible refine GdT_split (fun hc => ?_) (fun hc => ?_) <;> (have hc2 := hc; try simp at hc2)) | (with_reducible refine WT_alt ?_ ?_) | omega)
  have hs := fun K lim => c_szRoom (S := S) (K := K) (lim := lim) (x := x) (y := y) hAl hBl
  by_cases hsz : (1048576 : Int) < ds.length + qs.length
  · rw [if_pos hsz] at hs
    repeat' (first | (simp (disch := first | omega | assumption | (simp only [List.length_set]; omega) | (simp [*] <;> fail) | assumption) [-Bool.decide_and, -Bool.decide_or, -Bool.not_and, -Bool.not_or, toNat_pred, toNat_succ, wrap64, wr_new, wr_new0, ok_if, ok_ifn, iadV_sl, makeV_int, decT, decF, over_at, *, hAl3.len]) | (with_reducible refine Gd_split (fun hc => ?_) (fun hc => ?_) <;> (have hc2 := hc; try simp at hc2)) | (with_reducible refine Br_split (fun hc => ?_) (fun hc => ?_) <;> (have hc2 := hc; try simp at hc2)) | (with_reducible refine GdT_split (fun hc => ?_) (fun hc => ?_) <;> (have hc2 := hc; try simp at hc2)) | (with_reducible refine WT_alt ?_ ?_) | omega)
  rw [if_neg hsz] at hs
  have hs2 := fun K lim => c_szFloat32SS (S := S) (K := K) (lim := lim) hAl2 hIl2 (b := 1048576 - (ds.length + qs.length)) (by omega) (by omega)
  by_cases hsz2 : (1048576 : Int) - (ds.length + qs.length) < ps.length + szD ssRows ps
  · rw [if_pos hsz2] at hs2
    repeat' (first | (simp (disch := first | omega | assumption | (simp only [List.length_set]; omega) | (simp [*] <;> fail) | assumption) [-Bool.decide_and, -Bool.decide_or, -Bool.not_and, -Bool.not_or, toNat_pred, toNat_succ, wrap64, wr_new, wr_new0, ok_if, ok_ifn, iadV_sl, makeV_int, decT, decF, over_at, *, hAl3.len]) | (with_reducible refine Gd_split (fun hc => ?_) (fun hc => ?_) <;> (have hc2 := hc; try simp at hc2)) | (with_reducible refine Br_split (fun hc => ?_) (fun hc => ?_) <;> (have hc2 := hc; try simp at hc2)) | (with_reducible refine GdT_split (fun hc => ?_) (fun hc => ?_) <;> (have hc2 := hc; try simp at hc2)) | (with_reducible refine WT_alt ?_ ?_) | omega)
  rw [if_neg hsz2] at hs2
  repeat' (first | (simp (disch := first | omega | assumption | (simp only [List.length_set]; omega) | (simp [*] <;> fail) | assumption) [-Bool.decide_and, -Bool.decide_or, -Bool.not_and, -Bool.not_or, toNat_pred, toNat_succ, wrap64, wr_new, wr_new0, ok_if, ok_ifn, iadV_sl, makeV_int, decT, decF, over_at, *, hAl3.len]) | (with_reducible refine Gd_split (fun hc => ?_) (fun hc => ?_) <;> (have hc2 := hc; try simp at hc2)) | (with_reducible refine Br_split (fun hc => ?_) (fun hc => ?_) <;> (have hc2 := hc; try simp at hc2)) | (with_reducible refine GdT_split (fun hc => ?_) (fun hc => ?_) <;> (have hc2 := hc; try simp at hc2)) | (with_reducible refine WT_alt ?_ ?_) | omega)
  have hnl : ds.length ≤ 16777216 := by omega
  have hml : qs.length ≤ 16777216 := by omega
  have hnl2 : ps.length ≤ 16777216 := by omega
  have hml2 : szD ssRows ps ≤ 16777216 := by omega
  have hnl3 : xs.length ≤ 16777216 := by omega
  clear hs hs2 hsz hsz2 b50
  have cs : ∀ {g a0c a0p a1 a2 p1 K}, New h1 g a0c 197 5 (ds.map Dly.cells) → New h1 g a0p 199 2 (qs.map Pas.cells) → NewD h1 g a1 27 1 ssCells ssRows 22 p1 → p1.map (·.1) = ps.map (·.1) → New h1 g a2 22 1 (xs.map fl) → h.length ≤ g.length → (∀ o s po g', New g g' o 22 1 ((rrR ⟨ds, qs, x, y⟩ (ps.map (·.1)) xs).1.map fl) → NewD g g' s 27 1 ssCells ssRows 22 po → po.map (·.1) = (rrR ⟨ds, qs, x, y⟩ (ps.map (·.1)) xs).2 → (∀ x ∈ [o], ∀ t ∈ lvs s po, Far x t) → K (.tup [.lf o, .lf s, .lf (.bool (decide (okRr ⟨ds, qs, x, y⟩ (ps.map (·.1)) xs.length)))]) g') → CallT S false 41 [.agg [a0c, a0p, .flt .f32 x, .flt .f32 y], .lf a1, .lf a2] g h.length K := fun h0 h00 h2 e2 h3 hl hk => c_specRunRoom (R := ⟨ds, qs, x, y⟩) h0.arr h00.arr h2.arr (Sms.new h2) h2.ins h3.arr hl (fun o s rs g hO hD hr hf => by rw [e2] at hO hr ⊢; exact hk o s rs g hO hD hr (fun x hx t ht => by rw [List.mem_singleton.1 hx]; exact hf t ht))
  have ci : ∀ {g a0c a0p a1 a2 p1 K}, New h1 g a0c 197 5 (ds.map Dly.cells) → New h1 g a0p 199 2 (qs.map Pas.cells) → NewD h1 g a1 27 1 ssCells ssRows 22 p1 → p1.map (·.1) = ps.map (·.1) → New h1 g a2 22 1 (xs.map fl) → h.length ≤ g.length → (∀ o s po g', New g g' o 22 1 ((rrR ⟨ds, qs, x, y⟩ (ps.map (·.1)) xs).1.map fl) → NewD g g' s 27 1 ssCells ssRows 22 po → po.map (·.1) = (rrR ⟨ds, qs, x, y⟩ (ps.map (·.1)) xs).2 → (∀ x ∈ [o], ∀ t ∈ lvs s po, Far x t) → K (.tup [.lf o, .lf s, .lf (.bool (decide (okRr ⟨ds, qs, x, y⟩ (ps.map (·.1)) xs.length)))]) g') → CallT S false 44 [.agg [a0c, a0p, .flt .f32 x, .flt .f32 y], .lf a1, .lf a2] g h.length K := fun h0 h00 h2 e2 h3 hl hk => c_implRunRoom (R := ⟨ds, qs, x, y⟩) h0.arr h00.arr h2.arr (Sms.new h2) h2.ins h3.arr hl (fun o s rs g hO hD hr hf => by rw [e2] at hO hr ⊢; exact hk o s rs g hO hD hr (fun x hx t ht => by rw [List.mem_singleton.1 hx]; exact hf t ht))
  obtain ⟨hsm0, hsm1, hsm2⟩ := rrR_small (R := ⟨ds, qs, x, y⟩) (ls := ps.map (·.1)) (xs := xs)
  generalize decide (okRr ⟨ds, qs, x, y⟩ (ps.map (·.1)) xs.length) = ok at *
  generalize rrR ⟨ds, qs, x, y⟩ (ps.map (·.1)) xs = yy at *
  obtain ⟨yy1, yy2⟩ := yy
  simp only at hsm0 hsm1 hsm2 cs ci
  have hlo1 : ∀ {rs : List (List Nat × Lf)}, rs.map (·.1) = yy2 → rs.length ≤ 16777216 ∧ szD ssRows rs ≤ 16777216 := fun he => by have := small_of (ro := ssRows) hsm1 hsm2 he; omega
  clear hsm1 hsm2
  refine c_toRoom (hAl.kept (Kept.refl h1)) (hBl.kept (Kept.refl h1)) hnl hml (by have := (Kept.refl h1).1; omega) fun x0c x0p g1 hx0c hx0p Frx0 => ?_
  have Zx0 : ∀ s ∈ [x0c, x0p], s ≠ .nils → h1.length ≤ s.id ∧ s.id < g1.length := fun s hs q => by simp only [List.mem_cons, List.not_mem_nil, or_false] at hs; rcases hs with rfl | rfl; exact hx0c.lt q; exact hx0p.lt q
  have K2 := (Kept.refl h1).trans hx0c.kept
  have Q2 := hx0c.kept.1
  have P2 := K2.1
  have Zx0c := hx0c.foot
  have Nx0c := hx0c.base (Kept.refl h1)
  have Zx0p := hx0p.foot
  have Nx0p := hx0p.base (Kept.refl h1)
  repeat' (first | (simp (disch := first | omega | assumption | (simp only [List.length_set]; omega) | (simp [*] <;> fail) | assumption) [-Bool.decide_and, -Bool.decide_or, -Bool.not_and, -Bool.not_or, toNat_pred, toNat_succ, wrap64, wr_new, wr_new0, ok_if, ok_ifn, iadV_sl, makeV_int, decT, decF, over_at, *]) | (with_reducible refine Gd_split (fun hc => ?_) (fun hc => ?_) <;> (have hc2 := hc; try simp at hc2)) | (with_reducible refine Br_split (fun hc => ?_) (fun hc => ?_) <;> (have hc2 := hc; try simp at hc2)) | (with_reducible refine GdT_split (fun hc => ?_) (fun hc => ?_) <;> (have hc2 := hc; try simp at hc2)) | (with_reducible refine WT_alt ?_ ?_) | omega)
  refine c_toFloat32SS (hAl2.kept K2) (hIl2.kept K2) hnl2 hml2 (by have := K2.1; omega) fun x1 g3 px1 hx1 Ex1 => ?_
  have Bx1 : px1.length ≤ 16777216 ∧ szD ssRows px1 ≤ 16777216 := ⟨by rw [map_len Ex1]; omega, by rw [szD_map Ex1]; omega⟩
  have K4 := K2.trans hx1.kept
  have Q4 := hx1.kept.1
  have P4 := K4.1
  have Zx1 := hx1.lvs_lt
  have Nx1 := hx1.base K2
  replace Nx0c := Nx0c.later hx1.kept
  replace Nx0p := Nx0p.later hx1.kept
  repeat' (first | (simp (disch := first | omega | assumption | (simp only [List.length_set]; omega) | (simp [*] <;> fail) | assumption) [-Bool.decide_and, -Bool.decide_or, -Bool.not_and, -Bool.not_or, toNat_pred, toNat_succ, wrap64, wr_new, wr_new0, ok_if, ok_ifn, iadV_sl, makeV_int, decT, decF, over_at, *]) | (with_reducible refine Gd_split (fun hc => ?_) (fun hc => ?_) <;> (have hc2 := hc; try simp at hc2)) | (with_reducible refine Br_split (fun hc => ?_) (fun hc => ?_) <;> (have hc2 := hc; try simp at hc2)) | (with_reducible refine GdT_split (fun hc => ?_) (fun hc => ?_) <;> (have hc2 := hc; try simp at hc2)) | (with_reducible refine WT_alt ?_ ?_) | omega)
  refine c_toFloat32S (hAl3.kept K4) hnl3 (by have := K4.1; omega) fun x2 g5 hx2 => ?_
  have K6 := K4.trans hx2.kept
  have Q6 := hx2.kept.1
  have P6 := K6.1
  have Zx2 := hx2.foot
  have Nx2 := hx2.base K4
  replace Nx0c := Nx0c.later hx2.kept
  replace Nx0p := Nx0p.later hx2.kept
  replace Nx1 := Nx1.later hx2.kept
  repeat' (first | (simp (disch := first | omega | assumption | (simp only [List.length_set]; omega) | (simp [*] <;> fail) | assumption) [-Bool.decide_and, -Bool.decide_or, -Bool.not_and, -Bool.not_or, toNat_pred, toNat_succ, wrap64, wr_new, wr_new0, ok_if, ok_ifn, iadV_sl, makeV_int, decT, decF, over_at, *]) | (with_reducible refine Gd_split (fun hc => ?_) (fun hc => ?_) <;> (have hc2 := hc; try simp at hc2)) | (with_reducible refine Br_split (fun hc => ?_) (fun hc => ?_) <;> (have hc2 := hc; try simp at hc2)) | (with_reducible refine GdT_split (fun hc => ?_) (fun hc => ?_) <;> (have hc2 := hc; try simp at hc2)) | (with_reducible refine WT_alt ?_ ?_) | omega)
  refine cs Nx0c Nx0p Nx1 Ex1 Nx2 (by have := K6.1; omega) fun s0 s1 ps1 g7 hs0 hs1 Es1 Fs0s1 => ?_
  have Bs1 := hlo1 Es1
  have K8 := K6.trans hs0.kept
  have Q8 := hs0.kept.1
  have P8 := K8.1
  have Zs0 := hs0.foot
  have Ns0 := hs0.base K6
  have Zs1 := hs1.lvs_lt
  have Ns1 := hs1.base K6
  replace Nx0c := Nx0c.later hs0.kept
  replace Nx0p := Nx0p.later hs0.kept
  replace Nx1 := Nx1.later hs0.kept
  replace Nx2 := Nx2.later hs0.kept
  repeat' (first | (simp (disch := first | omega | assumption | (simp only [List.length_set]; omega) | (simp [*] <;> fail) | assumption) [-Bool.decide_and, -Bool.decide_or, -Bool.not_and, -Bool.not_or, toNat_pred, toNat_succ, wrap64, wr_new, wr_new0, ok_if, ok_ifn, iadV_sl, makeV_int, decT, decF, over_at, *]) | (with_reducible refine Gd_split (fun hc => ?_) (fun hc => ?_) <;> (have hc2 := hc; try simp at hc2)) | (with_reducible refine Br_split (fun hc => ?_) (fun hc => ?_) <;> (have hc2 := hc; try simp at hc2)) | (with_reducible refine GdT_split (fun hc => ?_) (fun hc => ?_) <;> (have hc2 := hc; try simp at hc2)) | (with_reducible refine WT_alt ?_ ?_) | omega)
  refine c_toRoom (hAl.kept K8) (hBl.kept K8) hnl hml (by have := K8.1; omega) fun a0c a0p g9 ha0c ha0p Fra0 => ?_
  have Za0 : ∀ s ∈ [a0c, a0p], s ≠ .nils → g7.length ≤ s.id ∧ s.id < g9.length := fun s hs q => by simp only [List.mem_cons, List.not_mem_nil, or_false] at hs; rcases hs with rfl | rfl; exact ha0c.lt q; exact ha0p.lt q
  have K10 := K8.trans ha0c.kept
  have Q10 := ha0c.kept.1
  have P10 := K10.1
  have Za0c := ha0c.foot
  have Na0c := ha0c.base K8
  have Za0p := ha0p.foot
  have Na0p := ha0p.base K8
  replace Ns0 := Ns0.later ha0c.kept
  replace Ns1 := Ns1.later ha0c.kept
  repeat' (first | (simp (disch := first | omega | assumption | (simp only [List.length_set]; omega) | (simp [*] <;> fail) | assumption) [-Bool.decide_and, -Bool.decide_or, -Bool.not_and, -Bool.not_or, toNat_pred, toNat_succ, wrap64, wr_new, wr_new0, ok_if, ok_ifn, iadV_sl, makeV_int, decT, decF, over_at, *]) | (with_reducible refine Gd_split (fun hc => ?_) (fun hc => ?_) <;> (have hc2 := hc; try simp at hc2)) | (with_reducible refine Br_split (fun hc => ?_) (fun hc => ?_) <;> (have hc2 := hc; try simp at hc2)) | (with_reducible refine GdT_split (fun hc => ?_) (fun hc => ?_) <;> (have hc2 := hc; try simp at hc2)) | (with_reducible refine WT_alt ?_ ?_) | omega)
  have kx := Kept.app g9 [⟨[a0c, a0p, .flt .f32 x, .flt .f32 y], .own 59 1⟩]
  have bx : rdCells (g9 ++ [⟨[a0c, a0p, .flt .f32 x, .flt .f32 y], .own 59 1⟩]) g9.length 0 4 = some [a0c, a0p, .flt .f32 x, .flt .f32 y] := Cel.new.rd (by simp)
  replace Ns0 := Ns0.later kx
  replace Ns1 := Ns1.later kx
  replace Na0c := Na0c.later kx
  replace Na0p := Na0p.later kx
  have hG11 : (g9 ++ [⟨[a0c, a0p, .flt .f32 x, .flt .f32 y], .own 59 1⟩] : Hp).length = g9.length + 1 := by simp
  have K11 := K10.trans kx
  have P11 := K11.1
  generalize (g9 ++ [⟨[a0c, a0p, .flt .f32 x, .flt .f32 y], .own 59 1⟩] : Hp) = G11 at *
  refine c_toFloat32SS (hAl2.kept K11) (hIl2.kept K11) hnl2 hml2 (by have := K11.1; omega) fun a1 g12 pa1 ha1 Ea1 => ?_
  have Ba1 : pa1.length ≤ 16777216 ∧ szD ssRows pa1 ≤ 16777216 := ⟨by rw [map_len Ea1]; omega, by rw [szD_map Ea1]; omega⟩
  have K13 := K11.trans ha1.kept
  have Q13 := ha1.kept.1
  have P13 := K13.1
  have Za1 := ha1.lvs_lt
  have Na1 := ha1.base K11
  replace Ns0 := Ns0.later ha1.kept
  replace Ns1 := Ns1.later ha1.kept
  replace Na0c := Na0c.later ha1.kept
  replace Na0p := Na0p.later ha1.kept
  replace bx := ha1.kept.rd bx
  repeat' (first | (simp (disch := first | omega | assumption | (simp only [List.length_set]; omega) | (simp [*] <;> fail) | assumption) [-Bool.decide_and, -Bool.decide_or, -Bool.not_and, -Bool.not_or, toNat_pred, toNat_succ, wrap64, wr_new, wr_new0, ok_if, ok_ifn, iadV_sl, makeV_int, decT, decF, over_at, *]) | (with_reducible refine Gd_split (fun hc => ?_) (fun hc => ?_) <;> (have hc2 := hc; try simp at hc2)) | (with_reducible refine Br_split (fun hc => ?_) (fun hc => ?_) <;> (have hc2 := hc; try simp at hc2)) | (with_reducible refine GdT_split (fun hc => ?_) (fun hc => ?_) <;> (have hc2 := hc; try simp at hc2)) | (with_reducible refine WT_alt ?_ ?_) | omega)
  refine c_toFloat32S (hAl3.kept K13) hnl3 (by have := K13.1; omega) fun a2 g14 ha2 => ?_
  have K15 := K13.trans ha2.kept
  have Q15 := ha2.kept.1
  have P15 := K15.1
  have Za2 := ha2.foot
  have Na2 := ha2.base K13
  replace Ns0 := Ns0.later ha2.kept
  replace Ns1 := Ns1.later ha2.kept
  replace Na0c := Na0c.later ha2.kept
  replace Na0p := Na0p.later ha2.kept
  replace Na1 := Na1.later ha2.kept
  replace bx := ha2.kept.rd bx
  repeat' (first | (simp (disch := first | omega | assumption | (simp only [List.length_set]; omega) | (simp [*] <;> fail) | assumption) [-Bool.decide_and, -Bool.decide_or, -Bool.not_and, -Bool.not_or, toNat_pred, toNat_succ, wrap64, wr_new, wr_new0, ok_if, ok_ifn, iadV_sl, makeV_int, decT, decF, over_at, *]) | (with_reducible refine Gd_split (fun hc => ?_) (fun hc => ?_) <;> (have hc2 := hc; try simp at hc2)) | (with_reducible refine Br_split (fun hc => ?_) (fun hc => ?_) <;> (have hc2 := hc; try simp at hc2)) | (with_reducible refine GdT_split (fun hc => ?_) (fun hc => ?_) <;> (have hc2 := hc; try simp at hc2)) | (with_reducible refine WT_alt ?_ ?_) | omega)
  refine ci Na0c Na0p Na1 Ea1 Na2 (by have := K15.1; omega) fun r0 r1 pr1 g16 hr0 hr1 Er1 Fr0r1 => ?_
  have Br1 := hlo1 Er1
  have K17 := K15.trans hr0.kept
  have Q17 := hr0.kept.1
  have P17 := K17.1
  have Zr0 := hr0.foot
  have Nr0 := hr0.base K15
  have Zr1 := hr1.lvs_lt
  have Nr1 := hr1.base K15
  replace Ns0 := Ns0.later hr0.kept
  replace Ns1 := Ns1.later hr0.kept
  replace Na0c := Na0c.later hr0.kept
  replace Na0p := Na0p.later hr0.kept
  replace Na1 := Na1.later hr0.kept
  replace Na2 := Na2.later hr0.kept
  replace bx := hr0.kept.rd bx
  repeat' (first | (simp (disch := first | omega | assumption | (simp only [List.length_set]; omega) | (simp [*] <;> fail) | assumption) [-Bool.decide_and, -Bool.decide_or, -Bool.not_and, -Bool.not_or, toNat_pred, toNat_succ, wrap64, wr_new, wr_new0, ok_if, ok_ifn, iadV_sl, makeV_int, decT, decF, over_at, *, c_eqFloat32S Nr0.arr Ns0.arr, c_eqFloat32SS Nr1.arr Nr1.ins Ns1.arr Ns1.ins (Es1.trans Er1.symm)]) | (with_reducible refine Gd_split (fun hc => ?_) (fun hc => ?_) <;> (have hc2 := hc; try simp at hc2)) | (with_reducible refine Br_split (fun hc => ?_) (fun hc => ?_) <;> (have hc2 := hc; try simp at hc2)) | (with_reducible refine GdT_split (fun hc => ?_) (fun hc => ?_) <;> (have hc2 := hc; try simp at hc2)) | (with_reducible refine WT_alt ?_ ?_) | omega)
  all_goals
    refine c_toRoom (hAl.kept K17) (hBl.kept K17) hnl hml (by have := K17.1; omega) fun y0c y0p g18 hy0c hy0p Fry0 => ?_
    have Zy0 : ∀ s ∈ [y0c, y0p], s ≠ .nils → g16.length ≤ s.id ∧ s.id < g18.length := fun s hs q => by simp only [List.mem_cons, List.not_mem_nil, or_false] at hs; rcases hs with rfl | rfl; exact hy0c.lt q; exact hy0p.lt q
    have K19 := K17.trans hy0c.kept
    have Q19 := hy0c.kept.1
    have P19 := K19.1
    have Zy0c := hy0c.foot
    have Ny0c := hy0c.base K17
    have Zy0p := hy0p.foot
    have Ny0p := hy0p.base K17
    replace Ns0 := Ns0.later hy0c.kept
    replace Ns1 := Ns1.later hy0c.kept
    replace Na0c := Na0c.later hy0c.kept
    replace Na0p := Na0p.later hy0c.kept
    replace Na1 := Na1.later hy0c.kept
    replace Na2 := Na2.later hy0c.kept
    replace Nr0 := Nr0.later hy0c.kept
    replace Nr1 := Nr1.later hy0c.kept
    replace bx := hy0c.kept.rd bx
    repeat' (first | (simp (disch := first | omega | assumption | (simp only [List.length_set]; omega) | (simp [*] <;> fail) | assumption) [-Bool.decide_and, -Bool.decide_or, -Bool.not_and, -Bool.not_or, toNat_pred, toNat_succ, wrap64, wr_new, wr_new0, ok_if, ok_ifn, iadV_sl, makeV_int, decT, decF, over_at, *, c_eqRoom Na0c.arr Na0p.arr Ny0c.arr Ny0p.arr]) | (with_reducible refine Gd_split (fun hc => ?_) (fun hc => ?_) <;> (have hc2 := hc; try simp at hc2)) | (with_reducible refine Br_split (fun hc => ?_) (fun hc => ?_) <;> (have hc2 := hc; try simp at hc2)) | (with_reducible refine GdT_split (fun hc => ?_) (fun hc => ?_) <;> (have hc2 := hc; try simp at hc2)) | (with_reducible refine WT_alt ?_ ?_) | omega)
    refine c_toFloat32SS (hAl2.kept K19) (hIl2.kept K19) hnl2 hml2 (by have := K19.1; omega) fun y1 g20 py1 hy1 Ey1 => ?_
    have By1 : py1.length ≤ 16777216 ∧ szD ssRows py1 ≤ 16777216 := ⟨by rw [map_len Ey1]; omega, by rw [szD_map Ey1]; omega⟩
    have K21 := K19.trans hy1.kept
    have Q21 := hy1.kept.1
    have P21 := K21.1
    have Zy1 := hy1.lvs_lt
    have Ny1 := hy1.base K19
    replace Ns0 := Ns0.later hy1.kept
    replace Ns1 := Ns1.later hy1.kept
    replace Na0c := Na0c.later hy1.kept
    replace Na0p := Na0p.later hy1.kept
    replace Na1 := Na1.later hy1.kept
    replace Na2 := Na2.later hy1.kept
    replace Nr0 := Nr0.later hy1.kept
    replace Nr1 := Nr1.later hy1.kept
    replace bx := hy1.kept.rd bx
    repeat' (first | (simp (disch := first | omega | assumption | (simp only [List.length_set]; omega) | (simp [*] <;> fail) | assumption) [-Bool.decide_and, -Bool.decide_or, -Bool.not_and, -Bool.not_or, toNat_pred, toNat_succ, wrap64, wr_new, wr_new0, ok_if, ok_ifn, iadV_sl, makeV_int, decT, decF, over_at, *, c_eqFloat32SS Na1.arr Na1.ins Ny1.arr Ny1.ins (Ey1.trans Ea1.symm)]) | (with_reducible refine Gd_split (fun hc => ?_) (fun hc => ?_) <;> (have hc2 := hc; try simp at hc2)) | (with_reducible refine Br_split (fun hc => ?_) (fun hc => ?_) <;> (have hc2 := hc; try simp at hc2)) | (with_reducible refine GdT_split (fun hc => ?_) (fun hc => ?_) <;> (have hc2 := hc; try simp at hc2)) | (with_reducible refine WT_alt ?_ ?_) | omega)
    refine c_toFloat32S (hAl3.kept K21) hnl3 (by have := K21.1; omega) fun y2 g22 hy2 => ?_
    have K23 := K21.trans hy2.kept
    have Q23 := hy2.kept.1
    have P23 := K23.1
    have Zy2 := hy2.foot
    have Ny2 := hy2.base K21
    replace Ns0 := Ns0.later hy2.kept
    replace Ns1 := Ns1.later hy2.kept
    replace Na0c := Na0c.later hy2.kept
    replace Na0p := Na0p.later hy2.kept
    replace Na1 := Na1.later hy2.kept
    replace Na2 := Na2.later hy2.kept
    replace Nr0 := Nr0.later hy2.kept
    replace Nr1 := Nr1.later hy2.kept
    replace bx := hy2.kept.rd bx
    repeat' (first | (simp (disch := first | omega | assumption | (simp only [List.length_set]; omega) | (simp [*] <;> fail) | assumption) [-Bool.decide_and, -Bool.decide_or, -Bool.not_and, -Bool.not_or, toNat_pred, toNat_succ, wrap64, wr_new, wr_new0, ok_if, ok_ifn, iadV_sl, makeV_int, decT, decF, over_at, *, c_eqFloat32S Na2.arr Ny2.arr]) | (with_reducible refine Gd_split (fun hc => ?_) (fun hc => ?_) <;> (have hc2 := hc; try simp at hc2)) | (with_reducible refine Br_split (fun hc => ?_) (fun hc => ?_) <;> (have hc2 := hc; try simp at hc2)) | (with_reducible refine GdT_split (fun hc => ?_) (fun hc => ?_) <;> (have hc2 := hc; try simp at hc2)) | (with_reducible refine WT_alt ?_ ?_) | omega)
    refine c_markRoom Na0c Na0p Fra0 hnl hml (by omega) fun kq24 g24 hk024 hk124 hB24 => ?_
    have O24 : ∀ s ∈ [a0c, a0p], s ≠ .nils → h1.length ≤ s.id := fun s hs q => by have := Za0 s hs q; omega
    have Q24 := hB24.len
    have K24 := hB24.kept K23 O24
    replace Ns0 := hB24.new Ns0 O24 (fun s hs => ((fun s hs t ht q1 q2 e => by have := Za0 s hs q1; have := Zs0 t ht q2; omega) : ∀ s ∈ [a0c, a0p], ∀ t ∈ [s0], Far s t) s hs s0 (List.mem_singleton.2 rfl))
    replace Ns1 := hB24.newD Ns1 O24 (fun s hs t ht q1 q2 e => by have := Za0 s hs q1; have := Zs1 t ht q2; omega)
    replace Na1 := hB24.newD Na1 O24 (fun s hs t ht q1 q2 e => by have := Za0 s hs q1; have := Za1 t ht q2; omega)
    replace Na2 := hB24.new Na2 O24 (fun s hs => ((fun s hs t ht q1 q2 e => by have := Za0 s hs q1; have := Za2 t ht q2; omega) : ∀ s ∈ [a0c, a0p], ∀ t ∈ [a2], Far s t) s hs a2 (List.mem_singleton.2 rfl))
    replace Nr0 := hB24.new Nr0 O24 (fun s hs => ((fun s hs t ht q1 q2 e => by have := Za0 s hs q1; have := Zr0 t ht q2; omega) : ∀ s ∈ [a0c, a0p], ∀ t ∈ [r0], Far s t) s hs r0 (List.mem_singleton.2 rfl))
    replace Nr1 := hB24.newD Nr1 O24 (fun s hs t ht q1 q2 e => by have := Za0 s hs q1; have := Zr1 t ht q2; omega)
    clear bx
    repeat' (first | (simp (disch := first | omega | assumption | (simp only [List.length_set]; omega) | (simp [*] <;> fail) | assumption) [-Bool.decide_and, -Bool.decide_or, -Bool.not_and, -Bool.not_or, toNat_pred, toNat_succ, wrap64, wr_new, wr_new0, ok_if, ok_ifn, iadV_sl, makeV_int, decT, decF, over_at, *]) | (with_reducible refine Gd_split (fun hc => ?_) (fun hc => ?_) <;> (have hc2 := hc; try simp at hc2)) | (with_reducible refine Br_split (fun hc => ?_) (fun hc => ?_) <;> (have hc2 := hc; try simp at hc2)) | (with_reducible refine GdT_split (fun hc => ?_) (fun hc => ?_) <;> (have hc2 := hc; try simp at hc2)) | (with_reducible refine WT_alt ?_ ?_) | omega)
    refine c_markFloat32SS Na1 (by omega) (by have := Ba1; rw [kAt_all (ro := ssRows) (c := 0) (k := kq24) (ps := pa1)]; omega) Ba1.1 Ba1.2 (by omega) fun g25 hM25 hB25 => ?_
    have O25 : ∀ s ∈ lvs a1 pa1, s ≠ .nils → h1.length ≤ s.id := fun s hs q => by have := Za1 s hs q; omega
    have Q25 := hB25.len
    have K25 := hB25.kept K24 O25
    replace Ns0 := hB25.new Ns0 O25 (fun s hs => ((fun s hs t ht q1 q2 e => by have := Za1 s hs q1; have := Zs0 t ht q2; omega) : ∀ s ∈ lvs a1 pa1, ∀ t ∈ [s0], Far s t) s hs s0 (List.mem_singleton.2 rfl))
    replace Ns1 := hB25.newD Ns1 O25 (fun s hs t ht q1 q2 e => by have := Za1 s hs q1; have := Zs1 t ht q2; omega)
    replace Na2 := hB25.new Na2 O25 (fun s hs => ((fun s hs t ht q1 q2 e => by have := Za1 s hs q1; have := Za2 t ht q2; omega) : ∀ s ∈ lvs a1 pa1, ∀ t ∈ [a2], Far s t) s hs a2 (List.mem_singleton.2 rfl))
    replace Nr0 := hB25.new Nr0 O25 (fun s hs => ((fun s hs t ht q1 q2 e => by have := Za1 s hs q1; have := Zr0 t ht q2; omega) : ∀ s ∈ lvs a1 pa1, ∀ t ∈ [r0], Far s t) s hs r0 (List.mem_singleton.2 rfl))
    replace Nr1 := hB25.newD Nr1 O25 (fun s hs t ht q1 q2 e => by have := Za1 s hs q1; have := Zr1 t ht q2; omega)
    have V25 : kq24 ≤ kAt ssRows 0 kq24 pa1 pa1.length ∧ kAt ssRows 0 kq24 pa1 pa1.length ≤ kq24 + 0 * 16777216 + 16777216 := by have := Ba1; rw [kAt_all (ro := ssRows) (c := 0) (k := kq24) (ps := pa1)]; omega
    replace Na1 := hM25
    repeat' (first | (simp (disch := first | omega | assumption | (simp only [List.length_set]; omega) | (simp [*] <;> fail) | assumption) [-Bool.decide_and, -Bool.decide_or, -Bool.not_and, -Bool.not_or, toNat_pred, toNat_succ, wrap64, wr_new, wr_new0, ok_if, ok_ifn, iadV_sl, makeV_int, decT, decF, over_at, *]) | (with_reducible refine Gd_split (fun hc => ?_) (fun hc => ?_) <;> (have hc2 := hc; try simp at hc2)) | (with_reducible refine Br_split (fun hc => ?_) (fun hc => ?_) <;> (have hc2 := hc; try simp at hc2)) | (with_reducible refine GdT_split (fun hc => ?_) (fun hc => ?_) <;> (have hc2 := hc; try simp at hc2)) | (with_reducible refine WT_alt ?_ ?_) | omega)
    refine c_markFloat32S Na2 (by simp; omega) (by omega) (by omega) (by omega) fun g26 hM26 hC26 => ?_
    have hB26 := hC26.buts
    have O26 : ∀ s ∈ [a2], s ≠ .nils → h1.length ≤ s.id := fun s hs q => by have := Za2 s hs q; omega
    have Q26 := hB26.len
    have K26 := hB26.kept K25 O26
    replace Ns0 := hB26.new Ns0 O26 (fun s hs => ((fun s hs t ht q1 q2 e => by have := Za2 s hs q1; have := Zs0 t ht q2; omega) : ∀ s ∈ [a2], ∀ t ∈ [s0], Far s t) s hs s0 (List.mem_singleton.2 rfl))
    replace Ns1 := hB26.newD Ns1 O26 (fun s hs t ht q1 q2 e => by have := Za2 s hs q1; have := Zs1 t ht q2; omega)
    replace Nr0 := hB26.new Nr0 O26 (fun s hs => ((fun s hs t ht q1 q2 e => by have := Za2 s hs q1; have := Zr0 t ht q2; omega) : ∀ s ∈ [a2], ∀ t ∈ [r0], Far s t) s hs r0 (List.mem_singleton.2 rfl))
    replace Nr1 := hB26.newD Nr1 O26 (fun s hs t ht q1 q2 e => by have := Za2 s hs q1; have := Zr1 t ht q2; omega)
    simp only [List.length_map] at hM26
    replace Na2 := hM26
    repeat' (first | (simp (disch := first | omega | assumption | (simp only [List.length_set]; omega) | (simp [*] <;> fail) | assumption) [-Bool.decide_and, -Bool.decide_or, -Bool.not_and, -Bool.not_or, toNat_pred, toNat_succ, wrap64, wr_new, wr_new0, ok_if, ok_ifn, iadV_sl, makeV_int, decT, decF, over_at, *, c_eqFloat32S Nr0.arr Ns0.arr, c_eqFloat32SS Nr1.arr Nr1.ins Ns1.arr Ns1.ins (Es1.trans Er1.symm)]) | (with_reducible refine Gd_split (fun hc => ?_) (fun hc => ?_) <;> (have hc2 := hc; try simp at hc2)) | (with_reducible refine Br_split (fun hc => ?_) (fun hc => ?_) <;> (have hc2 := hc; try simp at hc2)) | (with_reducible refine GdT_split (fun hc => ?_) (fun hc => ?_) <;> (have hc2 := hc; try simp at hc2)) | (with_reducible refine WT_alt ?_ ?_) | omega)
    refine c_markFloat32S Nr0 (by simp; omega) (by omega) (by omega) (by omega) fun g27 hM27 hC27 => ?_
    have hB27 := hC27.buts
    have O27 : ∀ s ∈ [r0], s ≠ .nils → h1.length ≤ s.id := fun s hs q => by have := Zr0 s hs q; omega
    have Q27 := hB27.len
    have K27 := hB27.kept K26 O27
    replace Ns0 := hB27.new Ns0 O27 (fun s hs => ((fun s hs t ht q1 q2 e => by have := Zr0 s hs q1; have := Zs0 t ht q2; omega) : ∀ s ∈ [r0], ∀ t ∈ [s0], Far s t) s hs s0 (List.mem_singleton.2 rfl))
    replace Ns1 := hB27.newD Ns1 O27 (fun s hs t ht q1 q2 e => by have := Zr0 s hs q1; have := Zs1 t ht q2; omega)
    replace Nr1 := hB27.newD Nr1 O27 Fr0r1
    simp only [List.length_map] at hM27
    replace Nr0 := hM27
    repeat' (first | (simp (disch := first | omega | assumption | (simp only [List.length_set]; omega) | (simp [*] <;> fail) | assumption) [-Bool.decide_and, -Bool.decide_or, -Bool.not_and, -Bool.not_or, toNat_pred, toNat_succ, wrap64, wr_new, wr_new0, ok_if, ok_ifn, iadV_sl, makeV_int, decT, decF, over_at, *]) | (with_reducible refine Gd_split (fun hc => ?_) (fun hc => ?_) <;> (have hc2 := hc; try simp at hc2)) | (with_reducible refine Br_split (fun hc => ?_) (fun hc => ?_) <;> (have hc2 := hc; try simp at hc2)) | (with_reducible refine GdT_split (fun hc => ?_) (fun hc => ?_) <;> (have hc2 := hc; try simp at hc2)) | (with_reducible refine WT_alt ?_ ?_) | omega)
    refine c_markFloat32SS Nr1 (by omega) (by have := Br1; rw [kAt_all (ro := ssRows) (c := 0) (k := (1 + (yy1.length : Int))) (ps := pr1)]; omega) Br1.1 Br1.2 (by omega) fun g28 hM28 hB28 => ?_
    have O28 : ∀ s ∈ lvs r1 pr1, s ≠ .nils → h1.length ≤ s.id := fun s hs q => by have := Zr1 s hs q; omega
    have Q28 := hB28.len
    have K28 := hB28.kept K27 O28
    replace Ns0 := hB28.new Ns0 O28 (fun s hs => ((fun s hs t ht q1 q2 e => by have := Zr1 s hs q1; have := Zs0 t ht q2; omega) : ∀ s ∈ lvs r1 pr1, ∀ t ∈ [s0], Far s t) s hs s0 (List.mem_singleton.2 rfl))
    replace Ns1 := hB28.newD Ns1 O28 (fun s hs t ht q1 q2 e => by have := Zr1 s hs q1; have := Zs1 t ht q2; omega)
    replace Nr0 := hB28.new Nr0 O28 (fun s hs => ((fun s hs t ht => (Fr0r1 t ht s hs).symm) : ∀ s ∈ lvs r1 pr1, ∀ t ∈ [r0], Far s t) s hs r0 (List.mem_singleton.2 rfl))
    have V28 : (1 + (yy1.length : Int)) ≤ kAt ssRows 0 (1 + (yy1.length : Int)) pr1 pr1.length ∧ kAt ssRows 0 (1 + (yy1.length : Int)) pr1 pr1.length ≤ (1 + (yy1.length : Int)) + 0 * 16777216 + 16777216 := by have := Br1; rw [kAt_all (ro := ssRows) (c := 0) (k := (1 + (yy1.length : Int))) (ps := pr1)]; omega
    replace Nr1 := hM28
    rw [← lvs_mkD (l := r1) (ps := pr1) (mk := mkSS) (ro := ssRows) (c := 0) (k := (1 + (yy1.length : Int)))] at Zr1 Fr0r1
    repeat' (first | (simp (disch := first | omega | assumption | (simp only [List.length_set]; omega) | (simp [*] <;> fail) | assumption) [-Bool.decide_and, -Bool.decide_or, -Bool.not_and, -Bool.not_or, toNat_pred, toNat_succ, wrap64, wr_new, wr_new0, ok_if, ok_ifn, iadV_sl, makeV_int, decT, decF, over_at, *, c_heldFloat32S Nr0.arr, c_heldFloat32SS Nr1.arr Nr1.ins (by omega) (by have := Br1; rw [kAt_all (ro := ssRows) (c := 0) (k := (1 + (yy1.length : Int))) (ps := pr1)]; omega) Br1.1 Br1.2]) | (with_reducible refine Gd_split (fun hc => ?_) (fun hc => ?_) <;> (have hc2 := hc; try simp at hc2)) | (with_reducible refine Br_split (fun hc => ?_) (fun hc => ?_) <;> (have hc2 := hc; try simp at hc2)) | (with_reducible refine GdT_split (fun hc => ?_) (fun hc => ?_) <;> (have hc2 := hc; try simp at hc2)) | (with_reducible refine WT_alt ?_ ?_) | omega)
    refine c_toRoom (hAl.kept K28) (hBl.kept K28) hnl hml (by have := K28.1; omega) fun w0c w0p g29 hw0c hw0p Frw0 => ?_
    have Zw0 : ∀ s ∈ [w0c, w0p], s ≠ .nils → g28.length ≤ s.id ∧ s.id < g29.length := fun s hs q => by simp only [List.mem_cons, List.not_mem_nil, or_false] at hs; rcases hs with rfl | rfl; exact hw0c.lt q; exact hw0p.lt q
    have K30 := K28.trans hw0c.kept
    have Q30 := hw0c.kept.1
    have P30 := K30.1
    have Zw0c := hw0c.foot
    have Nw0c := hw0c.base K28
    have Zw0p := hw0p.foot
    have Nw0p := hw0p.base K28
    replace Ns0 := Ns0.later hw0c.kept
    replace Ns1 := Ns1.later hw0c.kept
    replace Nr0 := Nr0.later hw0c.kept
    replace Nr1 := Nr1.later hw0c.kept
    repeat' (first | (simp (disch := first | omega | assumption | (simp only [List.length_set]; omega) | (simp [*] <;> fail) | assumption) [-Bool.decide_and, -Bool.decide_or, -Bool.not_and, -Bool.not_or, toNat_pred, toNat_succ, wrap64, wr_new, wr_new0, ok_if, ok_ifn, iadV_sl, makeV_int, decT, decF, over_at, *]) | (with_reducible refine Gd_split (fun hc => ?_) (fun hc => ?_) <;> (have hc2 := hc; try simp at hc2)) | (with_reducible refine Br_split (fun hc => ?_) (fun hc => ?_) <;> (have hc2 := hc; try simp at hc2)) | (with_reducible refine GdT_split (fun hc => ?_) (fun hc => ?_) <;> (have hc2 := hc; try simp at hc2)) | (with_reducible refine WT_alt ?_ ?_) | omega)
    refine c_toFloat32SS (hAl2.kept K30) (hIl2.kept K30) hnl2 hml2 (by have := K30.1; omega) fun w1 g31 pw1 hw1 Ew1 => ?_
    have Bw1 : pw1.length ≤ 16777216 ∧ szD ssRows pw1 ≤ 16777216 := ⟨by rw [map_len Ew1]; omega, by rw [szD_map Ew1]; omega⟩
    have K32 := K30.trans hw1.kept
    have Q32 := hw1.kept.1
    have P32 := K32.1
    have Zw1 := hw1.lvs_lt
    have Nw1 := hw1.base K30
    replace Ns0 := Ns0.later hw1.kept
    replace Ns1 := Ns1.later hw1.kept
    replace Nr0 := Nr0.later hw1.kept
    replace Nr1 := Nr1.later hw1.kept
    replace Nw0c := Nw0c.later hw1.kept
    replace Nw0p := Nw0p.later hw1.kept
    repeat' (first | (simp (disch := first | omega | assumption | (simp only [List.length_set]; omega) | (simp [*] <;> fail) | assumption) [-Bool.decide_and, -Bool.decide_or, -Bool.not_and, -Bool.not_or, toNat_pred, toNat_succ, wrap64, wr_new, wr_new0, ok_if, ok_ifn, iadV_sl, makeV_int, decT, decF, over_at, *]) | (with_reducible refine Gd_split (fun hc => ?_) (fun hc => ?_) <;> (have hc2 := hc; try simp at hc2)) | (with_reducible refine Br_split (fun hc => ?_) (fun hc => ?_) <;> (have hc2 := hc; try simp at hc2)) | (with_reducible refine GdT_split (fun hc => ?_) (fun hc => ?_) <;> (have hc2 := hc; try simp at hc2)) | (with_reducible refine WT_alt ?_ ?_) | omega)
    refine c_toFloat32S (hAl3.kept K32) hnl3 (by have := K32.1; omega) fun w2 g33 hw2 => ?_
    have K34 := K32.trans hw2.kept
    have Q34 := hw2.kept.1
    have P34 := K34.1
    have Zw2 := hw2.foot
    have Nw2 := hw2.base K32
    replace Ns0 := Ns0.later hw2.kept
    replace Ns1 := Ns1.later hw2.kept
    replace Nr0 := Nr0.later hw2.kept
    replace Nr1 := Nr1.later hw2.kept
    replace Nw0c := Nw0c.later hw2.kept
    replace Nw0p := Nw0p.later hw2.kept
    replace Nw1 := Nw1.later hw2.kept
    repeat' (first | (simp (disch := first | omega | assumption | (simp only [List.length_set]; omega) | (simp [*] <;> fail) | assumption) [-Bool.decide_and, -Bool.decide_or, -Bool.not_and, -Bool.not_or, toNat_pred, toNat_succ, wrap64, wr_new, wr_new0, ok_if, ok_ifn, iadV_sl, makeV_int, decT, decF, over_at, *]) | (with_reducible refine Gd_split (fun hc => ?_) (fun hc => ?_) <;> (have hc2 := hc; try simp at hc2)) | (with_reducible refine Br_split (fun hc => ?_) (fun hc => ?_) <;> (have hc2 := hc; try simp at hc2)) | (with_reducible refine GdT_split (fun hc => ?_) (fun hc => ?_) <;> (have hc2 := hc; try simp at hc2)) | (with_reducible refine WT_alt ?_ ?_) | omega)
    refine ci Nw0c Nw0p Nw1 Ew1 Nw2 (by have := K34.1; omega) fun u0 u1 pu1 g35 hu0 hu1 Eu1 Fu0u1 => ?_
    have Bu1 := hlo1 Eu1
    have K36 := K34.trans hu0.kept
    have Q36 := hu0.kept.1
    have P36 := K36.1
    have Zu0 := hu0.foot
    have Nu0 := hu0.base K34
    have Zu1 := hu1.lvs_lt
    have Nu1 := hu1.base K34
    replace Ns0 := Ns0.later hu0.kept
    replace Ns1 := Ns1.later hu0.kept
    replace Nr0 := Nr0.later hu0.kept
    replace Nr1 := Nr1.later hu0.kept
    replace Nw0c := Nw0c.later hu0.kept
    replace Nw0p := Nw0p.later hu0.kept
    replace Nw1 := Nw1.later hu0.kept
    replace Nw2 := Nw2.later hu0.kept
    repeat' (first | (simp (disch := first | omega | assumption | (simp only [List.length_set]; omega) | (simp [*] <;> fail) | assumption) [-Bool.decide_and, -Bool.decide_or, -Bool.not_and, -Bool.not_or, toNat_pred, toNat_succ, wrap64, wr_new, wr_new0, ok_if, ok_ifn, iadV_sl, makeV_int, decT, decF, over_at, *, c_eqFloat32S Nu0.arr Ns0.arr, c_eqFloat32SS Nu1.arr Nu1.ins Ns1.arr Ns1.ins (Es1.trans Eu1.symm), c_heldFloat32S Nr0.arr, c_heldFloat32SS Nr1.arr Nr1.ins (by omega) (by have := Br1; rw [kAt_all (ro := ssRows) (c := 0) (k := (1 + (yy1.length : Int))) (ps := pr1)]; omega) Br1.1 Br1.2]) | (with_reducible refine Gd_split (fun hc => ?_) (fun hc => ?_) <;> (have hc2 := hc; try simp at hc2)) | (with_reducible refine Br_split (fun hc => ?_) (fun hc => ?_) <;> (have hc2 := hc; try simp at hc2)) | (with_reducible refine GdT_split (fun hc => ?_) (fun hc => ?_) <;> (have hc2 := hc; try simp at hc2)) | (with_reducible refine WT_alt ?_ ?_) | omega)
end Go.E
namespace Go.E.RunRoom
open Go Go.E
def pure : FuncId → Bool := fun f => List.elem f [3, 4, 5, 6, 7, 8, 9, 10, 11, 13, 14, 16, 18, 19, 20, 22, 23, 24, 28, 30, 31, 32, 36, 38, 39, 40, 45, 47, 51, 55, 57, 58, 59, 60, 62, 63, 64, 65, 67, 68, 69, 70, 73, 74, 75, 76, 77, 78, 79, 80, 81, 82, 83, 84, 85, 90, 91, 95, 96, 99, 100, 101, 102, 103, 106, 108, 111, 112, 113, 115, 116, 118, 122, 124, 127, 128, 129, 130, 131, 132, 133, 134, 135, 136, 138, 139, 140, 142, 145, 146, 147, 148, 151, 153, 154, 155, 159, 161, 162, 163, 165, 166, 168, 169, 173, 174, 175, 176, 177, 178, 179, 180, 181, 182, 183, 184, 186, 187, 188, 189, 192, 193, 194, 195, 196, 197, 198, 199, 200, 201, 202, 204, 205, 206, 207, 208, 209, 210, 211, 212, 213, 214, 215, 216, 217, 218, 219, 220, 221, 222, 223, 224, 226, 228, 230, 237, 240]
def funs : List (Nat × LFn) := [(74, L74), (85, L85), (91, L91), (84, L84), (90, L90), (112, L112), (115, L115), (148, L148), (149, L149), (155, L155), (156, L156), (197, L197), (198, L198), (189, L189), (206, L206), (217, L217), (218, L218), (192, L192), (157, L157), (150, L150), (151, L151), (152, L152), (158, L158), (159, L159), (160, L160), (190, L190), (191, L191), (87, L87), (92, L92), (114, L114), (79, L79), (113, L113), (41, L41), (44, L44), (67, L67), (82, L82), (88, L88), (95, L95), (97, L97), (153, L153), (161, L161), (83, L83), (89, L89), (96, L96), (98, L98), (154, L154), (162, L162), (24, L24), (26, L26), (28, L28), (29, L29), (16, L16), (17, L17), (18, L18), (43, L43), (111, L111), (40, L40), (42, L42), (45, L45), (46, L46), (47, L47), (9, L9)]
def Sy : Sys := sysOf funs
theorem lfn74 : lFn Go.Proofs.Try.prog pure Go.Proofs.Try.f74 = some L74 := by kernel_rfl
theorem lfn85 : lFn Go.Proofs.Try.prog pure Go.Proofs.Try.f85 = some L85 := by kernel_rfl
theorem lfn91 : lFn Go.Proofs.Try.prog pure Go.Proofs.Try.f91 = some L91 := by kernel_rfl
theorem lfn84 : lFn Go.Proofs.Try.prog pure Go.Proofs.Try.f84 = some L84 := by kernel_rfl
theorem lfn90 : lFn Go.Proofs.Try.prog pure Go.Proofs.Try.f90 = some L90 := by kernel_rfl
theorem lfn112 : lFn Go.Proofs.Try.prog pure Go.Proofs.Try.f112 = some L112 := by kernel_rfl
theorem lfn115 : lFn Go.Proofs.Try.prog pure Go.Proofs.Try.f115 = some L115 := by kernel_rfl
theorem lfn148 : lFn Go.Proofs.Try.prog pure Go.Proofs.Try.f148 = some L148 := by kernel_rfl
theorem lfn149 : lFn Go.Proofs.Try.prog pure Go.Proofs.Try.f149 = some L149 := by kernel_rfl
theorem lfn155 : lFn Go.Proofs.Try.prog pure Go.Proofs.Try.f155 = some L155 := by kernel_rfl
theorem lfn156 : lFn Go.Proofs.Try.prog pure Go.Proofs.Try.f156 = some L156 := by kernel_rfl
theorem lfn197 : lFn Go.Proofs.Try.prog pure Go.Proofs.Try.f197 = some L197 := by kernel_rfl
theorem lfn198 : lFn Go.Proofs.Try.prog pure Go.Proofs.Try.f198 = some L198 := by kernel_rfl
theorem lfn189 : lFn Go.Proofs.Try.prog pure Go.Proofs.Try.f189 = some L189 := by kernel_rfl
theorem lfn206 : lFn Go.Proofs.Try.prog pure Go.Proofs.Try.f206 = some L206 := by kernel_rfl
theorem lfn217 : lFn Go.Proofs.Try.prog pure Go.Proofs.Try.f217 = some L217 := by kernel_rfl
theorem lfn218 : lFn Go.Proofs.Try.prog pure Go.Proofs.Try.f218 = some L218 := by kernel_rfl
theorem lfn192 : lFn Go.Proofs.Try.prog pure Go.Proofs.Try.f192 = some L192 := by kernel_rfl
theorem lfn157 : lFn Go.Proofs.Try.prog pure Go.Proofs.Try.f157 = some L157 := by kernel_rfl
theorem lfn150 : lFn Go.Proofs.Try.prog pure Go.Proofs.Try.f150 = some L150 := by kernel_rfl
theorem lfn151 : lFn Go.Proofs.Try.prog pure Go.Proofs.Try.f151 = some L151 := by kernel_rfl
theorem lfn152 : lFn Go.Proofs.Try.prog pure Go.Proofs.Try.f152 = some L152 := by kernel_rfl
theorem lfn158 : lFn Go.Proofs.Try.prog pure Go.Proofs.Try.f158 = some L158 := by kernel_rfl
theorem lfn159 : lFn Go.Proofs.Try.prog pure Go.Proofs.Try.f159 = some L159 := by kernel_rfl
theorem lfn160 : lFn Go.Proofs.Try.prog pure Go.Proofs.Try.f160 = some L160 := by kernel_rfl
theorem lfn190 : lFn Go.Proofs.Try.prog pure Go.Proofs.Try.f190 = some L190 := by kernel_rfl
theorem lfn191 : lFn Go.Proofs.Try.prog pure Go.Proofs.Try.f191 = some L191 := by kernel_rfl
theorem lfn87 : lFn Go.Proofs.Try.prog pure Go.Proofs.Try.f87 = some L87 := by kernel_rfl
theorem lfn92 : lFn Go.Proofs.Try.prog pure Go.Proofs.Try.f92 = some L92 := by kernel_rfl
theorem lfn114 : lFn Go.Proofs.Try.prog pure Go.Proofs.Try.f114 = some L114 := by kernel_rfl
theorem lfn79 : lFn Go.Proofs.Try.prog pure Go.Proofs.Try.f79 = some L79 := by kernel_rfl
theorem lfn113 : lFn Go.Proofs.Try.prog pure Go.Proofs.Try.f113 = some L113 := by kernel_rfl
theorem lfn41 : lFn Go.Proofs.Try.prog pure Go.Proofs.Try.f41 = some L41 := by kernel_rfl
theorem lfn44 : lFn Go.Proofs.Try.prog pure Go.Proofs.Try.f44 = some L44 := by kernel_rfl
theorem lfn67 : lFn Go.Proofs.Try.prog pure Go.Proofs.Try.f67 = some L67 := by kernel_rfl
theorem lfn82 : lFn Go.Proofs.Try.prog pure Go.Proofs.Try.f82 = some L82 := by kernel_rfl
theorem lfn88 : lFn Go.Proofs.Try.prog pure Go.Proofs.Try.f88 = some L88 := by kernel_rfl
theorem lfn95 : lFn Go.Proofs.Try.prog pure Go.Proofs.Try.f95 = some L95 := by kernel_rfl
theorem lfn97 : lFn Go.Proofs.Try.prog pure Go.Proofs.Try.f97 = some L97 := by kernel_rfl
theorem lfn153 : lFn Go.Proofs.Try.prog pure Go.Proofs.Try.f153 = some L153 := by kernel_rfl
theorem lfn161 : lFn Go.Proofs.Try.prog pure Go.Proofs.Try.f161 = some L161 := by kernel_rfl
theorem lfn83 : lFn Go.Proofs.Try.prog pure Go.Proofs.Try.f83 = some L83 := by kernel_rfl
theorem lfn89 : lFn Go.Proofs.Try.prog pure Go.Proofs.Try.f89 = some L89 := by kernel_rfl
theorem lfn96 : lFn Go.Proofs.Try.prog pure Go.Proofs.Try.f96 = some L96 := by kernel_rfl
theorem lfn98 : lFn Go.Proofs.Try.prog pure Go.Proofs.Try.f98 = some L98 := by kernel_rfl
theorem lfn154 : lFn Go.Proofs.Try.prog pure Go.Proofs.Try.f154 = some L154 := by kernel_rfl
theorem lfn162 : lFn Go.Proofs.Try.prog pure Go.Proofs.Try.f162 = some L162 := by kernel_rfl
theorem lfn24 : lFn Go.Proofs.Try.prog pure Go.Proofs.Try.f24 = some L24 := by kernel_rfl
theorem lfn26 : lFn Go.Proofs.Try.prog pure Go.Proofs.Try.f26 = some L26 := by kernel_rfl
theorem lfn28 : lFn Go.Proofs.Try.prog pure Go.Proofs.Try.f28 = some L28 := by kernel_rfl
theorem lfn29 : lFn Go.Proofs.Try.prog pure Go.Proofs.Try.f29 = some L29 := by kernel_rfl
theorem lfn16 : lFn Go.Proofs.Try.prog pure Go.Proofs.Try.f16 = some L16 := by kernel_rfl
theorem lfn17 : lFn Go.Proofs.Try.prog pure Go.Proofs.Try.f17 = some L17 := by kernel_rfl
theorem lfn18 : lFn Go.Proofs.Try.prog pure Go.Proofs.Try.f18 = some L18 := by kernel_rfl
theorem lfn43 : lFn Go.Proofs.Try.prog pure Go.Proofs.Try.f43 = some L43 := by kernel_rfl
theorem lfn111 : lFn Go.Proofs.Try.prog pure Go.Proofs.Try.f111 = some L111 := by kernel_rfl
theorem lfn40 : lFn Go.Proofs.Try.prog pure Go.Proofs.Try.f40 = some L40 := by kernel_rfl
theorem lfn42 : lFn Go.Proofs.Try.prog pure Go.Proofs.Try.f42 = some L42 := by kernel_rfl
theorem lfn45 : lFn Go.Proofs.Try.prog pure Go.Proofs.Try.f45 = some L45 := by kernel_rfl
theorem lfn46 : lFn Go.Proofs.Try.prog pure Go.Proofs.Try.f46 = some L46 := by kernel_rfl
theorem lfn47 : lFn Go.Proofs.Try.prog pure Go.Proofs.Try.f47 = some L47 := by kernel_rfl
theorem lfn9 : lFn Go.Proofs.Try.prog pure Go.Proofs.Try.f9 = some L9 := by kernel_rfl
instance : HasA Sy := { f74 := rfl, f85 := rfl, f91 := rfl }
instance : HasRv Sy := { f84 := rfl, f90 := rfl, f112 := rfl, f115 := rfl, f148 := rfl, f149 := rfl, f155 := rfl, f156 := rfl }
instance : HasFb Sy := { f197 := rfl, f198 := rfl }
instance : HasFf Sy := { f189 := rfl, f206 := rfl, f217 := rfl, f218 := rfl }
instance : HasFl2 Sy := { f192 := rfl }
instance : HasCn Sy := { f157 := rfl }
instance : HasRp Sy := { f150 := rfl, f151 := rfl, f152 := rfl, f158 := rfl, f159 := rfl, f160 := rfl, f190 := rfl, f191 := rfl }
instance : HasRq Sy := { f87 := rfl, f92 := rfl, f114 := rfl }
instance : HasP Sy := { f79 := rfl, f113 := rfl }
instance : HasRw Sy := { f41 := rfl, f44 := rfl }
instance : HasSame Sy := { f67 := rfl }
instance : HasDLY Sy := { f82 := rfl, f88 := rfl, f95 := rfl, f97 := rfl, f153 := rfl, f161 := rfl }
instance : HasPAS Sy := { f83 := rfl, f89 := rfl, f96 := rfl, f98 := rfl, f154 := rfl, f162 := rfl }
instance : HasRMH Sy := { f24 := rfl, f26 := rfl, f28 := rfl, f29 := rfl }
instance : HasF Sy := { f16 := rfl, f17 := rfl, f18 := rfl, f43 := rfl }
instance : HasSz Sy := { f111 := rfl }
instance : HasDSS Sy := { f40 := rfl, f42 := rfl, f45 := rfl }
instance : HasKSS Sy := { f46 := rfl, f47 := rfl }
instance : HasLRunRoom Sy := { f9 := rfl }
theorem sysOK {B : Nat} {w0 : World} : SysOK Go.Proofs.Try.prog pure Sy B w0 := SysOK.of (by
  intro p hp
  simp only [funs, List.mem_cons, List.not_mem_nil, or_false] at hp
  rcases hp with rfl | rfl | rfl | rfl | rfl | rfl | rfl | rfl | rfl | rfl | rfl | rfl | rfl | rfl | rfl | rfl | rfl | rfl | rfl | rfl | rfl | rfl | rfl | rfl | rfl | rfl | rfl | rfl | rfl | rfl | rfl | rfl | rfl | rfl | rfl | rfl | rfl | rfl | rfl | rfl | rfl | rfl | rfl | rfl | rfl | rfl | rfl | rfl | rfl | rfl | rfl | rfl | rfl | rfl | rfl | rfl | rfl | rfl | rfl | rfl | rfl | rfl
  · exact ⟨_, Go.Proofs.Try.func74, lfn74⟩
  · exact ⟨_, Go.Proofs.Try.func85, lfn85⟩
  · exact ⟨_, Go.Proofs.Try.func91, lfn91⟩
  · exact ⟨_, Go.Proofs.Try.func84, lfn84⟩
  · exact ⟨_, Go.Proofs.Try.func90, lfn90⟩
  · exact ⟨_, Go.Proofs.Try.func112, lfn112⟩
  · exact ⟨_, Go.Proofs.Try.func115, lfn115⟩
  · exact ⟨_, Go.Proofs.Try.func148, lfn148⟩
  · exact ⟨_, Go.Proofs.Try.func149, lfn149⟩
  · exact ⟨_, Go.Proofs.Try.func155, lfn155⟩
  · exact ⟨_, Go.Proofs.Try.func156, lfn156⟩
  · exact ⟨_, Go.Proofs.Try.func197, lfn197⟩
  · exact ⟨_, Go.Proofs.Try.func198, lfn198⟩
  · exact ⟨_, Go.Proofs.Try.func189, lfn189⟩
  · exact ⟨_, Go.Proofs.Try.func206, lfn206⟩
  · exact ⟨_, Go.Proofs.Try.func217, lfn217⟩
  · exact ⟨_, Go.Proofs.Try.func218, lfn218⟩
  · exact ⟨_, Go.Proofs.Try.func192, lfn192⟩
  · exact ⟨_, Go.Proofs.Try.func157, lfn157⟩
  · exact ⟨_, Go.Proofs.Try.func150, lfn150⟩
  · exact ⟨_, Go.Proofs.Try.func151, lfn151⟩
  · exact ⟨_, Go.Proofs.Try.func152, lfn152⟩
  · exact ⟨_, Go.Proofs.Try.func158, lfn158⟩
  · exact ⟨_, Go.Proofs.Try.func159, lfn159⟩
  · exact ⟨_, Go.Proofs.Try.func160, lfn160⟩
  · exact ⟨_, Go.Proofs.Try.func190, lfn190⟩
  · exact ⟨_, Go.Proofs.Try.func191, lfn191⟩
  · exact ⟨_, Go.Proofs.Try.func87, lfn87⟩
  · exact ⟨_, Go.Proofs.Try.func92, lfn92⟩
  · exact ⟨_, Go.Proofs.Try.func114, lfn114⟩
  · exact ⟨_, Go.Proofs.Try.func79, lfn79⟩
  · exact ⟨_, Go.Proofs.Try.func113, lfn113⟩
  · exact ⟨_, Go.Proofs.Try.func41, lfn41⟩
  · exact ⟨_, Go.Proofs.Try.func44, lfn44⟩
  · exact ⟨_, Go.Proofs.Try.func67, lfn67⟩
  · exact ⟨_, Go.Proofs.Try.func82, lfn82⟩
  · exact ⟨_, Go.Proofs.Try.func88, lfn88⟩
  · exact ⟨_, Go.Proofs.Try.func95, lfn95⟩
  · exact ⟨_, Go.Proofs.Try.func97, lfn97⟩
  · exact ⟨_, Go.Proofs.Try.func153, lfn153⟩
  · exact ⟨_, Go.Proofs.Try.func161, lfn161⟩
  · exact ⟨_, Go.Proofs.Try.func83, lfn83⟩
  · exact ⟨_, Go.Proofs.Try.func89, lfn89⟩
  · exact ⟨_, Go.Proofs.Try.func96, lfn96⟩
  · exact ⟨_, Go.Proofs.Try.func98, lfn98⟩
  · exact ⟨_, Go.Proofs.Try.func154, lfn154⟩
  · exact ⟨_, Go.Proofs.Try.func162, lfn162⟩
  · exact ⟨_, Go.Proofs.Try.func24, lfn24⟩
  · exact ⟨_, Go.Proofs.Try.func26, lfn26⟩
  · exact ⟨_, Go.Proofs.Try.func28, lfn28⟩
  · exact ⟨_, Go.Proofs.Try.func29, lfn29⟩
  · exact ⟨_, Go.Proofs.Try.func16, lfn16⟩
  · exact ⟨_, Go.Proofs.Try.func17, lfn17⟩
  · exact ⟨_, Go.Proofs.Try.func18, lfn18⟩
  · exact ⟨_, Go.Proofs.Try.func43, lfn43⟩
  · exact ⟨_, Go.Proofs.Try.func111, lfn111⟩
  · exact ⟨_, Go.Proofs.Try.func40, lfn40⟩
  · exact ⟨_, Go.Proofs.Try.func42, lfn42⟩
  · exact ⟨_, Go.Proofs.Try.func45, lfn45⟩
  · exact ⟨_, Go.Proofs.Try.func46, lfn46⟩
  · exact ⟨_, Go.Proofs.Try.func47, lfn47⟩
  · exact ⟨_, Go.Proofs.Try.func9, lfn9⟩)

end Go.E.RunRoom
