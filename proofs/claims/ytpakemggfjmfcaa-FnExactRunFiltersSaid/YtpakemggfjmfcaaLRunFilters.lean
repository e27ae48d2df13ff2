/- The law of RunFilters: what the evaluator finds. -/
import Derived.Test.YtpakemggfjmfcaaMRs
import Derived.Test.YtpakemggfjmfcaaMFm
import Derived.Test.YtpakemggfjmfcaaEE
import Derived.Test.YtpakemggfjmfcaaProg
set_option linter.unusedVariables false
set_option linter.unusedSimpArgs false
namespace Go.E
open Go
def L13 : LFn := ⟨5, (.seq (.reg [⟨(.some 10), (.mv (.c (.lf (.bool false)))), none⟩])
 (.seq (.seq (.reg [⟨(.some 27), (.mv (.t 4)), none⟩, ⟨(.some 28), (.len (.t 27)), none⟩, ⟨(.some 29), (.bin .gtr (.t 28) (.c (.lf (.int .i64 1048576)))), none⟩])
 (.cond (.t 29) (.seq (.reg [⟨(.some 10), (.mv (.c (.lf (.bool true)))), none⟩])
 .ret) .skip))
 (.seq (.reg [⟨(.some 11), (.mv (.c (.lf (.int .i64 1048576)))), none⟩])
 (.seq (.reg [⟨(.some 30), (.mv (.t 0)), none⟩, ⟨(.some 31), (.mv (.t 11)), none⟩, ⟨(.some 32), (.call true 72 [(.t 30), (.t 31)]), none⟩, ⟨(.some 11), (.mv (.t 32)), none⟩])
 (.seq (.seq (.reg [⟨(.some 33), (.mv (.t 11)), none⟩, ⟨(.some 34), (.bin .lss (.t 33) (.c (.lf (.int .i64 0)))), none⟩])
 (.cond (.t 34) (.seq (.reg [⟨(.some 10), (.mv (.c (.lf (.bool true)))), none⟩])
 .ret) .skip))
 (.seq (.reg [⟨(.some 35), (.mv (.t 3)), none⟩, ⟨(.some 36), (.mv (.t 11)), none⟩, ⟨(.some 37), (.call true 73 [(.t 35), (.t 36)]), none⟩, ⟨(.some 11), (.mv (.t 37)), none⟩])
 (.seq (.seq (.reg [⟨(.some 38), (.mv (.t 11)), none⟩, ⟨(.some 39), (.bin .lss (.t 38) (.c (.lf (.int .i64 0)))), none⟩])
 (.cond (.t 39) (.seq (.reg [⟨(.some 10), (.mv (.c (.lf (.bool true)))), none⟩])
 .ret) .skip))
 (.seq (.reg [⟨(.some 41), (.mv (.t 0)), none⟩, ⟨(.some 42), (.call false 75 [(.t 41)]), none⟩, ⟨(.some 43), (.mv (.t 1)), none⟩, ⟨(.some 44), (.mv (.t 2)), none⟩, ⟨(.some 45), (.mv (.t 3)), none⟩, ⟨(.some 46), (.call false 76 [(.t 45)]), none⟩, ⟨(.some 47), (.mv (.t 4)), none⟩, ⟨(.some 48), (.call false 18 [(.t 47)]), none⟩, ⟨(.some 49), (.call false 74 [(.t 42), (.t 43), (.t 44), (.t 46), (.t 48)]), none⟩, ⟨(.some 40), (.mv (.t 49)), none⟩, ⟨(.some 50), (.ext (.t 40) 0), none⟩, ⟨(.some 51), (.ext (.t 40) 1), none⟩, ⟨(.some 52), (.ext (.t 40) 2), none⟩, ⟨(.some 12), (.mv (.t 50)), none⟩, ⟨(.some 13), (.mv (.t 51)), none⟩, ⟨(.some 14), (.mv (.t 52)), none⟩])
 (.seq (.reg [⟨(.some 53), (.mv (.t 0)), none⟩, ⟨(.some 54), (.call false 75 [(.t 53)]), none⟩, ⟨(.some 15), (.mv (.t 54)), none⟩])
 (.seq (.reg [⟨(.some 55), (.mv (.t 3)), none⟩, ⟨(.some 56), (.call false 76 [(.t 55)]), none⟩, ⟨(.some 16), (.mv (.t 56)), none⟩])
 (.seq (.reg [⟨(.some 57), (.mv (.t 4)), none⟩, ⟨(.some 58), (.call false 18 [(.t 57)]), none⟩, ⟨(.some 17), (.mv (.t 58)), none⟩])
 (.seq (.reg [⟨(.some 60), (.mv (.t 15)), none⟩, ⟨(.some 61), (.mv (.t 1)), none⟩, ⟨(.some 62), (.mv (.t 2)), none⟩, ⟨(.some 63), (.mv (.t 16)), none⟩, ⟨(.some 64), (.mv (.t 17)), none⟩, ⟨(.some 65), (.call false 77 [(.t 60), (.t 61), (.t 62), (.t 63), (.t 64)]), none⟩, ⟨(.some 59), (.mv (.t 65)), none⟩, ⟨(.some 66), (.ext (.t 59) 0), none⟩, ⟨(.some 67), (.ext (.t 59) 1), none⟩, ⟨(.some 68), (.ext (.t 59) 2), none⟩, ⟨(.some 18), (.mv (.t 66)), none⟩, ⟨(.some 19), (.mv (.t 67)), none⟩, ⟨(.some 20), (.mv (.t 68)), none⟩])
 (.seq (.seq (.reg [⟨(.some 69), (.mv (.t 18)), none⟩, ⟨(.some 70), (.mv (.t 12)), none⟩, ⟨(.some 71), (.call true 20 [(.t 69), (.t 70)]), none⟩, ⟨(.some 72), (.una .not (.t 71)), none⟩, ⟨(.some 73), (.mv (.t 72)), none⟩, ⟨(.some 74), (.mv (.t 19)), (.some (73, false))⟩, ⟨(.some 75), (.mv (.t 13)), (.some (73, false))⟩, ⟨(.some 76), (.call true 78 [(.t 74), (.t 75)]), (.some (73, false))⟩, ⟨(.some 77), (.una .not (.t 76)), (.some (73, false))⟩, ⟨(.some 78), (.pick (.t 73) (.c (.lf (.bool true))) (.t 77)), none⟩, ⟨(.some 79), (.mv (.t 78)), none⟩, ⟨(.some 80), (.mv (.t 20)), (.some (79, false))⟩, ⟨(.some 81), (.mv (.t 14)), (.some (79, false))⟩, ⟨(.some 82), (.beq true (.t 80) (.t 81)), (.some (79, false))⟩, ⟨(.some 83), (.pick (.t 79) (.c (.lf (.bool true))) (.t 82)), none⟩])
 (.cond (.t 83) (.seq (.reg [⟨(.some 10), (.mv (.c (.lf (.bool false)))), none⟩])
 .ret) .skip))
 (.seq (.seq (.reg [⟨(.some 84), (.mv (.t 15)), none⟩, ⟨(.some 85), (.mv (.t 0)), none⟩, ⟨(.some 86), (.call false 75 [(.t 85)]), none⟩, ⟨(.some 87), (.call true 79 [(.t 84), (.t 86)]), none⟩, ⟨(.some 88), (.una .not (.t 87)), none⟩])
 (.cond (.t 88) (.seq (.reg [⟨(.some 10), (.mv (.c (.lf (.bool false)))), none⟩])
 .ret) .skip))
 (.seq (.seq (.reg [⟨(.some 89), (.mv (.t 16)), none⟩, ⟨(.some 90), (.mv (.t 3)), none⟩, ⟨(.some 91), (.call false 76 [(.t 90)]), none⟩, ⟨(.some 92), (.call true 78 [(.t 89), (.t 91)]), none⟩, ⟨(.some 93), (.una .not (.t 92)), none⟩])
 (.cond (.t 93) (.seq (.reg [⟨(.some 10), (.mv (.c (.lf (.bool false)))), none⟩])
 .ret) .skip))
 (.seq (.seq (.reg [⟨(.some 94), (.mv (.t 17)), none⟩, ⟨(.some 95), (.mv (.t 4)), none⟩, ⟨(.some 96), (.call false 18 [(.t 95)]), none⟩, ⟨(.some 97), (.call true 20 [(.t 94), (.t 96)]), none⟩, ⟨(.some 98), (.una .not (.t 97)), none⟩])
 (.cond (.t 98) (.seq (.reg [⟨(.some 10), (.mv (.c (.lf (.bool false)))), none⟩])
 .ret) .skip))
 (.seq (.reg [⟨(.some 21), (.mv (.c (.lf (.int .i64 1)))), none⟩])
 (.seq (.reg [⟨(.some 99), (.mv (.t 15)), none⟩, ⟨(.some 100), (.mv (.t 21)), none⟩, ⟨(.some 101), (.call false 80 [(.t 99), (.t 100)]), none⟩, ⟨(.some 21), (.mv (.t 101)), none⟩])
 (.seq (.reg [⟨(.some 102), (.mv (.t 16)), none⟩, ⟨(.some 103), (.mv (.t 21)), none⟩, ⟨(.some 104), (.call false 81 [(.t 102), (.t 103)]), none⟩, ⟨(.some 21), (.mv (.t 104)), none⟩])
 (.seq (.reg [⟨(.some 105), (.mv (.t 17)), none⟩, ⟨(.some 106), (.mv (.t 21)), none⟩, ⟨(.some 107), (.call false 22 [(.t 105), (.t 106)]), none⟩, ⟨(.some 21), (.mv (.t 107)), none⟩])
 (.seq (.seq (.reg [⟨(.some 108), (.mv (.t 21)), none⟩, ⟨(.some 109), (.bin .lss (.t 108) (.c (.lf (.int .i64 0)))), none⟩, ⟨(.some 110), (.mv (.t 109)), none⟩, ⟨(.some 111), (.mv (.t 18)), (.some (110, false))⟩, ⟨(.some 112), (.mv (.t 12)), (.some (110, false))⟩, ⟨(.some 113), (.call true 20 [(.t 111), (.t 112)]), (.some (110, false))⟩, ⟨(.some 114), (.una .not (.t 113)), (.some (110, false))⟩, ⟨(.some 115), (.pick (.t 110) (.c (.lf (.bool true))) (.t 114)), none⟩, ⟨(.some 116), (.mv (.t 115)), none⟩, ⟨(.some 117), (.mv (.t 19)), (.some (116, false))⟩, ⟨(.some 118), (.mv (.t 13)), (.some (116, false))⟩, ⟨(.some 119), (.call true 78 [(.t 117), (.t 118)]), (.some (116, false))⟩, ⟨(.some 120), (.una .not (.t 119)), (.some (116, false))⟩, ⟨(.some 121), (.pick (.t 116) (.c (.lf (.bool true))) (.t 120)), none⟩, ⟨(.some 122), (.mv (.t 121)), none⟩, ⟨(.some 123), (.mv (.t 20)), (.some (122, false))⟩, ⟨(.some 124), (.mv (.t 14)), (.some (122, false))⟩, ⟨(.some 125), (.beq true (.t 123) (.t 124)), (.some (122, false))⟩, ⟨(.some 126), (.pick (.t 122) (.c (.lf (.bool true))) (.t 125)), none⟩])
 (.cond (.t 126) (.seq (.reg [⟨(.some 10), (.mv (.c (.lf (.bool false)))), none⟩])
 .ret) .skip))
 (.seq (.reg [⟨(.some 22), (.mv (.c (.lf (.int .i64 1)))), none⟩])
 (.seq (.reg [⟨(.some 127), (.mv (.t 18)), none⟩, ⟨(.some 128), (.mv (.t 22)), none⟩, ⟨(.some 129), (.call false 22 [(.t 127), (.t 128)]), none⟩, ⟨(.some 22), (.mv (.t 129)), none⟩])
 (.seq (.reg [⟨(.some 130), (.mv (.t 19)), none⟩, ⟨(.some 131), (.mv (.t 22)), none⟩, ⟨(.some 132), (.call false 81 [(.t 130), (.t 131)]), none⟩, ⟨(.some 22), (.mv (.t 132)), none⟩])
 (.seq (.reg [⟨(.some 23), (.mv (.c (.lf (.int .i64 1)))), none⟩])
 (.seq (.reg [⟨(.some 133), (.mv (.t 18)), none⟩, ⟨(.some 134), (.mv (.t 23)), none⟩, ⟨(.some 135), (.call true 23 [(.t 133), (.t 134)]), none⟩, ⟨(.some 23), (.mv (.t 135)), none⟩])
 (.seq (.seq (.reg [⟨(.some 136), (.mv (.t 23)), none⟩, ⟨(.some 137), (.bin .lss (.t 136) (.c (.lf (.int .i64 0)))), none⟩])
 (.cond (.t 137) (.seq (.reg [⟨(.some 10), (.mv (.c (.lf (.bool false)))), none⟩])
 .ret) .skip))
 (.seq (.reg [⟨(.some 138), (.mv (.t 19)), none⟩, ⟨(.some 139), (.mv (.t 23)), none⟩, ⟨(.some 140), (.call true 82 [(.t 138), (.t 139)]), none⟩, ⟨(.some 23), (.mv (.t 140)), none⟩])
 (.seq (.seq (.reg [⟨(.some 141), (.mv (.t 23)), none⟩, ⟨(.some 142), (.bin .lss (.t 141) (.c (.lf (.int .i64 0)))), none⟩])
 (.cond (.t 142) (.seq (.reg [⟨(.some 10), (.mv (.c (.lf (.bool false)))), none⟩])
 .ret) .skip))
 (.seq (.seq (.reg [⟨(.some 143), (.mv (.t 23)), none⟩, ⟨(.some 144), (.mv (.t 22)), none⟩, ⟨(.some 145), (.bin .neq (.t 143) (.t 144)), none⟩])
 (.cond (.t 145) (.seq (.reg [⟨(.some 10), (.mv (.c (.lf (.bool false)))), none⟩])
 .ret) .skip))
 (.seq (.reg [⟨(.some 147), (.mv (.t 0)), none⟩, ⟨(.some 148), (.call false 75 [(.t 147)]), none⟩, ⟨(.some 149), (.mv (.t 1)), none⟩, ⟨(.some 150), (.mv (.t 2)), none⟩, ⟨(.some 151), (.mv (.t 3)), none⟩, ⟨(.some 152), (.call false 76 [(.t 151)]), none⟩, ⟨(.some 153), (.mv (.t 4)), none⟩, ⟨(.some 154), (.call false 18 [(.t 153)]), none⟩, ⟨(.some 155), (.call false 77 [(.t 148), (.t 149), (.t 150), (.t 152), (.t 154)]), none⟩, ⟨(.some 146), (.mv (.t 155)), none⟩, ⟨(.some 156), (.ext (.t 146) 0), none⟩, ⟨(.some 157), (.ext (.t 146) 1), none⟩, ⟨(.some 158), (.ext (.t 146) 2), none⟩, ⟨(.some 24), (.mv (.t 156)), none⟩, ⟨(.some 25), (.mv (.t 157)), none⟩, ⟨(.some 26), (.mv (.t 158)), none⟩])
 (.seq (.seq (.reg [⟨(.some 159), (.mv (.t 24)), none⟩, ⟨(.some 160), (.mv (.t 12)), none⟩, ⟨(.some 161), (.call true 20 [(.t 159), (.t 160)]), none⟩, ⟨(.some 162), (.una .not (.t 161)), none⟩, ⟨(.some 163), (.mv (.t 162)), none⟩, ⟨(.some 164), (.mv (.t 25)), (.some (163, false))⟩, ⟨(.some 165), (.mv (.t 13)), (.some (163, false))⟩, ⟨(.some 166), (.call true 78 [(.t 164), (.t 165)]), (.some (163, false))⟩, ⟨(.some 167), (.una .not (.t 166)), (.some (163, false))⟩, ⟨(.some 168), (.pick (.t 163) (.c (.lf (.bool true))) (.t 167)), none⟩, ⟨(.some 169), (.mv (.t 168)), none⟩, ⟨(.some 170), (.mv (.t 26)), (.some (169, false))⟩, ⟨(.some 171), (.mv (.t 14)), (.some (169, false))⟩, ⟨(.some 172), (.beq true (.t 170) (.t 171)), (.some (169, false))⟩, ⟨(.some 173), (.pick (.t 169) (.c (.lf (.bool true))) (.t 172)), none⟩])
 (.cond (.t 173) (.seq (.reg [⟨(.some 10), (.mv (.c (.lf (.bool false)))), none⟩])
 .ret) .skip))
 (.seq (.reg [⟨(.some 23), (.mv (.c (.lf (.int .i64 1)))), none⟩])
 (.seq (.reg [⟨(.some 174), (.mv (.t 18)), none⟩, ⟨(.some 175), (.mv (.t 23)), none⟩, ⟨(.some 176), (.call true 23 [(.t 174), (.t 175)]), none⟩, ⟨(.some 23), (.mv (.t 176)), none⟩])
 (.seq (.seq (.reg [⟨(.some 177), (.mv (.t 23)), none⟩, ⟨(.some 178), (.bin .lss (.t 177) (.c (.lf (.int .i64 0)))), none⟩])
 (.cond (.t 178) (.seq (.reg [⟨(.some 10), (.mv (.c (.lf (.bool false)))), none⟩])
 .ret) .skip))
 (.seq (.reg [⟨(.some 179), (.mv (.t 19)), none⟩, ⟨(.some 180), (.mv (.t 23)), none⟩, ⟨(.some 181), (.call true 82 [(.t 179), (.t 180)]), none⟩, ⟨(.some 23), (.mv (.t 181)), none⟩])
 (.seq (.seq (.reg [⟨(.some 182), (.mv (.t 23)), none⟩, ⟨(.some 183), (.bin .lss (.t 182) (.c (.lf (.int .i64 0)))), none⟩])
 (.cond (.t 183) (.seq (.reg [⟨(.some 10), (.mv (.c (.lf (.bool false)))), none⟩])
 .ret) .skip))
 (.seq (.seq (.reg [⟨(.some 184), (.mv (.t 23)), none⟩, ⟨(.some 185), (.mv (.t 22)), none⟩, ⟨(.some 186), (.bin .neq (.t 184) (.t 185)), none⟩])
 (.cond (.t 186) (.seq (.reg [⟨(.some 10), (.mv (.c (.lf (.bool false)))), none⟩])
 .ret) .skip))
 (.seq (.reg [⟨(.some 10), (.mv (.c (.lf (.bool true)))), none⟩])
 .ret))))))))))))))))))))))))))))))))))))))), [(.tmp 10)]⟩
class HasLRunFilters (S : Sys) : Prop extends HasRs S, HasFs S, HasMs S, HasF S where
  f13 : S.fs 13 = some L13
def flSh : Sh := .flt .f32
def filSh : Sh := .cat 1 flSh (.cat 1 flSh (.cat 1 flSh (.cat 1 flSh (.cat 1 flSh .emp))))
def memSh : Sh := .cat 1 flSh (.cat 1 flSh (.cat 1 flSh (.cat 1 flSh .emp)))
theorem fl_of' {h : Hp} {r : List Lf} (t : Ty h (.flt .f32) r) : ∃ x : Nat, r = fl x ∧ CF x := by
  obtain ⟨x, rfl, h1, h2⟩ := t
  exact ⟨x, rfl, ⟨h1, h2⟩⟩
theorem fil_of {h : Hp} {r : List Lf} (t : Ty h filSh r) : ∃ f : Fil, r = f.cells ∧ True := by
  obtain ⟨a1, a2, rfl, _, ⟨x1, rfl, _⟩, b1, b2, rfl, _, ⟨x2, rfl, _⟩, c1, c2, rfl, _, ⟨x3, rfl, _⟩, d1, d2, rfl, _, ⟨x4, rfl, _⟩, e1, e2, rfl, _, ⟨x5, rfl, _⟩, rfl⟩ := t
  exact ⟨⟨x1, x2, x3, x4, x5⟩, rfl, trivial⟩
theorem mem_of {h : Hp} {r : List Lf} (t : Ty h memSh r) : ∃ m : Mem, r = m.cells ∧ m.CF := by
  obtain ⟨a1, a2, rfl, _, ⟨x1, rfl, p1, q1⟩, b1, b2, rfl, _, ⟨x2, rfl, p2, q2⟩, c1, c2, rfl, _, ⟨x3, rfl, p3, q3⟩, d1, d2, rfl, _, ⟨x4, rfl, p4, q4⟩, rfl⟩ := t
  exact ⟨⟨x1, x2, x3, x4⟩, rfl, ⟨p1, q1⟩, ⟨p2, q2⟩, ⟨p3, q3⟩, ⟨p4, q4⟩⟩
set_option maxRecDepth 20000 in
set_option maxHeartbeats 4000000 in
theorem lawRunFilters {S : Sys} [HasLRunFilters S] : LawHolds S 13 [(false, .sl 5 filSh), (false, .int .i64), (false, .bool), (false, .sl 4 memSh), (false, .sl 1 (.flt .f32))] := by
  intro h cs hcs
  obtain ⟨c1, _, rfl, ⟨ls1, rfl, l1, rows1, rfl, hAl1, hr1⟩, c2, _, rfl, ⟨ls2, rfl, form, rfl, _⟩, c3, _, rfl, ⟨ls3, rfl, fb, rfl⟩, c4, _, rfl, ⟨ls4, rfl, l4, rows4, rfl, hAl4, hr4⟩, c5, _, rfl, ⟨ls5, rfl, l5, rows5, rfl, hAl5, hr5⟩, rfl⟩ := hcs
  obtain ⟨fs, rfl, _⟩ := rows_map (Q := fun _ => True) fun r hr => fil_of (hr1 r hr)
  obtain ⟨ms, rfl, hm⟩ := rows_map (Q := Mem.CF) fun r hr => mem_of (hr4 r hr)
  obtain ⟨xs, rfl, hx⟩ := rows_map (Q := CF) fun r hr => fl_of' (hr5 r hr)
  clear hr1 hr4 hr5
  obtain ⟨hlo1, hlo2⟩ := runFs_len (form := form) (fb := fb) (fs := fs) (ms := ms) (xs := xs)
  have cs : ∀ {l1 l4 l5 g b1 b4 b5 t1 t4 K}, New b1 g l1 t1 5 (fs.map Fil.cells) → New b4 g l4 t4 4 (ms.map Mem.cells) → New b5 g l5 22 1 (xs.map fl) → h.length ≤ g.length → (∀ o q g', New g g' o 22 1 ((runFs form fb fs ms xs).1.map fl) → New g g' q 28 4 ((runFs form fb fs ms xs).2.map Mem.cells) → Far o q → K (.tup [.lf o, .lf q, .lf (.bool (decide (okRs form xs.length fs.length ms.length)))]) g') → CallT S false 74 [.lf l1, .lf (.int .i64 form), .lf (.bool fb), .lf l4, .lf l5] g h.length K := fun h1 h4 h5 hl hk => d_specRunFilters (Sm.new h5) h1.arr h4.arr hm hx hl hk
  have ci : ∀ {l1 l4 l5 g b1 b4 b5 t1 t4 K}, New b1 g l1 t1 5 (fs.map Fil.cells) → New b4 g l4 t4 4 (ms.map Mem.cells) → New b5 g l5 22 1 (xs.map fl) → h.length ≤ g.length → (∀ o q g', New g g' o 22 1 ((runFs form fb fs ms xs).1.map fl) → New g g' q 28 4 ((runFs form fb fs ms xs).2.map Mem.cells) → Far o q → K (.tup [.lf o, .lf q, .lf (.bool (decide (okRs form xs.length fs.length ms.length)))]) g') → CallT S false 77 [.lf l1, .lf (.int .i64 form), .lf (.bool fb), .lf l4, .lf l5] g h.length K := fun h1 h4 h5 hl hk => d_implRunFilters (Sm.new h5) h1.arr h4.arr hm hx hl hk
  generalize runFs form fb fs ms xs = y at *
  generalize decide (okRs form xs.length fs.length ms.length) = ok at *
  obtain ⟨y1, y2⟩ := y
  simp only at hlo1 hlo2 cs ci
  refine law_of (F := L13) HasLRunFilters.f13 rfl ?_
  unfold L13
  dsimp only []
  repeat' (first | (simp (disch := first | omega | assumption | (simp only [List.length_set]; omega) | (simp [*] <;> fail) | assumption) [-Bool.decide_and, -Bool.decide_or, -Bool.not_and, -Bool.not_or, toNat_pred, toNat_succ, wrap64, wr_new, wr_new0, ok_if, ok_ifn, iadV_sl, makeV_int, decT, decF, over_at, *, hAl5.len, c_szFilterS hAl1, c_szMemoryS hAl4]) | (with_reducible refine Gd_split (fun hc => ?_) (fun hc => ?_) <;> (have hc2 := hc; try simp at hc2)) | (with_reducible refine Br_split (fun hc => ?_) (fun hc => ?_) <;> (have hc2 := hc; try simp at hc2)) | (with_reducible refine GdT_split (fun hc => ?_) (fun hc => ?_) <;> (have hc2 := hc; try simp at hc2)) | (with_reducible refine WT_alt ?_ ?_) | omega)
  have hnl5 : xs.length ≤ 16777216 := by omega
  have hnl1 : fs.length ≤ 16777216 := by omega
  have hnl4 : ms.length ≤ 16777216 := by omega
  refine c_toFilterS (hAl1.kept (Kept.refl h)) hnl1 (Kept.refl h).1 fun x0 g1 hx0 => ?_
  have K2 := (Kept.refl h).trans hx0.kept
  have Q2 := hx0.kept.1
  have P2 := K2.1
  have Nx0 := hx0.base (Kept.refl h)
  repeat' (first | (simp (disch := first | omega | assumption | (simp only [List.length_set]; omega) | (simp [*] <;> fail) | assumption) [-Bool.decide_and, -Bool.decide_or, -Bool.not_and, -Bool.not_or, toNat_pred, toNat_succ, wrap64, wr_new, wr_new0, ok_if, ok_ifn, iadV_sl, makeV_int, decT, decF, over_at, *]) | (with_reducible refine Gd_split (fun hc => ?_) (fun hc => ?_) <;> (have hc2 := hc; try simp at hc2)) | (with_reducible refine Br_split (fun hc => ?_) (fun hc => ?_) <;> (have hc2 := hc; try simp at hc2)) | (with_reducible refine GdT_split (fun hc => ?_) (fun hc => ?_) <;> (have hc2 := hc; try simp at hc2)) | (with_reducible refine WT_alt ?_ ?_) | omega)
  refine c_toMemoryS (hAl4.kept K2) hnl4 K2.1 fun x1 g3 hx1 => ?_
  have Fx0x1 : Far x0 x1 := fun q1 q2 => by have := (Nx0.lt q1).2; have := (hx1.lt q2).1; omega
  have K4 := K2.trans hx1.kept
  have Q4 := hx1.kept.1
  have P4 := K4.1
  have Nx1 := hx1.base K2
  replace Nx0 := Nx0.later hx1.kept
  repeat' (first | (simp (disch := first | omega | assumption | (simp only [List.length_set]; omega) | (simp [*] <;> fail) | assumption) [-Bool.decide_and, -Bool.decide_or, -Bool.not_and, -Bool.not_or, toNat_pred, toNat_succ, wrap64, wr_new, wr_new0, ok_if, ok_ifn, iadV_sl, makeV_int, decT, decF, over_at, *]) | (with_reducible refine Gd_split (fun hc => ?_) (fun hc => ?_) <;> (have hc2 := hc; try simp at hc2)) | (with_reducible refine Br_split (fun hc => ?_) (fun hc => ?_) <;> (have hc2 := hc; try simp at hc2)) | (with_reducible refine GdT_split (fun hc => ?_) (fun hc => ?_) <;> (have hc2 := hc; try simp at hc2)) | (with_reducible refine WT_alt ?_ ?_) | omega)
  refine c_toFloat32S (hAl5.kept K4) hnl5 K4.1 fun x2 g5 hx2 => ?_
  have Fx0x2 : Far x0 x2 := fun q1 q2 => by have := (Nx0.lt q1).2; have := (hx2.lt q2).1; omega
  have Fx1x2 : Far x1 x2 := fun q1 q2 => by have := (Nx1.lt q1).2; have := (hx2.lt q2).1; omega
  have K6 := K4.trans hx2.kept
  have Q6 := hx2.kept.1
  have P6 := K6.1
  have Nx2 := hx2.base K4
  replace Nx0 := Nx0.later hx2.kept
  replace Nx1 := Nx1.later hx2.kept
  repeat' (first | (simp (disch := first | omega | assumption | (simp only [List.length_set]; omega) | (simp [*] <;> fail) | assumption) [-Bool.decide_and, -Bool.decide_or, -Bool.not_and, -Bool.not_or, toNat_pred, toNat_succ, wrap64, wr_new, wr_new0, ok_if, ok_ifn, iadV_sl, makeV_int, decT, decF, over_at, *]) | (with_reducible refine Gd_split (fun hc => ?_) (fun hc => ?_) <;> (have hc2 := hc; try simp at hc2)) | (with_reducible refine Br_split (fun hc => ?_) (fun hc => ?_) <;> (have hc2 := hc; try simp at hc2)) | (with_reducible refine GdT_split (fun hc => ?_) (fun hc => ?_) <;> (have hc2 := hc; try simp at hc2)) | (with_reducible refine WT_alt ?_ ?_) | omega)
  refine cs Nx0 Nx1 Nx2 K6.1 fun s0 s1 g7 hs0 hs1 hfs0s1 => ?_
  have Fs0x0 : Far s0 x0 := fun q1 q2 => by have := (Nx0.lt q2).2; have := (hs0.lt q1).1; omega
  have Fs0x1 : Far s0 x1 := fun q1 q2 => by have := (Nx1.lt q2).2; have := (hs0.lt q1).1; omega
  have Fs0x2 : Far s0 x2 := fun q1 q2 => by have := (Nx2.lt q2).2; have := (hs0.lt q1).1; omega
  have Fs1x0 : Far s1 x0 := fun q1 q2 => by have := (Nx0.lt q2).2; have := (hs1.lt q1).1; omega
  have Fs1x1 : Far s1 x1 := fun q1 q2 => by have := (Nx1.lt q2).2; have := (hs1.lt q1).1; omega
  have Fs1x2 : Far s1 x2 := fun q1 q2 => by have := (Nx2.lt q2).2; have := (hs1.lt q1).1; omega
  have K8 := K6.trans hs0.kept
  have Q8 := hs0.kept.1
  have P8 := K8.1
  have Ns0 := hs0.base K6
  have Ns1 := hs1.base K6
  replace Nx0 := Nx0.later hs0.kept
  replace Nx1 := Nx1.later hs0.kept
  replace Nx2 := Nx2.later hs0.kept
  have Fs0s1 : Far s0 s1 := hfs0s1
  repeat' (first | (simp (disch := first | omega | assumption | (simp only [List.length_set]; omega) | (simp [*] <;> fail) | assumption) [-Bool.decide_and, -Bool.decide_or, -Bool.not_and, -Bool.not_or, toNat_pred, toNat_succ, wrap64, wr_new, wr_new0, ok_if, ok_ifn, iadV_sl, makeV_int, decT, decF, over_at, *]) | (with_reducible refine Gd_split (fun hc => ?_) (fun hc => ?_) <;> (have hc2 := hc; try simp at hc2)) | (with_reducible refine Br_split (fun hc => ?_) (fun hc => ?_) <;> (have hc2 := hc; try simp at hc2)) | (with_reducible refine GdT_split (fun hc => ?_) (fun hc => ?_) <;> (have hc2 := hc; try simp at hc2)) | (with_reducible refine WT_alt ?_ ?_) | omega)
  refine c_toFilterS (hAl1.kept K8) hnl1 K8.1 fun a0 g9 ha0 => ?_
  have Fa0s0 : Far a0 s0 := fun q1 q2 => by have := (Ns0.lt q2).2; have := (ha0.lt q1).1; omega
  have Fa0s1 : Far a0 s1 := fun q1 q2 => by have := (Ns1.lt q2).2; have := (ha0.lt q1).1; omega
  have K10 := K8.trans ha0.kept
  have Q10 := ha0.kept.1
  have P10 := K10.1
  have Na0 := ha0.base K8
  replace Ns0 := Ns0.later ha0.kept
  replace Ns1 := Ns1.later ha0.kept
  repeat' (first | (simp (disch := first | omega | assumption | (simp only [List.length_set]; omega) | (simp [*] <;> fail) | assumption) [-Bool.decide_and, -Bool.decide_or, -Bool.not_and, -Bool.not_or, toNat_pred, toNat_succ, wrap64, wr_new, wr_new0, ok_if, ok_ifn, iadV_sl, makeV_int, decT, decF, over_at, *]) | (with_reducible refine Gd_split (fun hc => ?_) (fun hc => ?_) <;> (have hc2 := hc; try simp at hc2)) | (with_reducible refine Br_split (fun hc => ?_) (fun hc => ?_) <;> (have hc2 := hc; try simp at hc2)) | (with_reducible refine GdT_split (fun hc => ?_) (fun hc => ?_) <;> (have hc2 := hc; try simp at hc2)) | (with_reducible refine WT_alt ?_ ?_) | omega)
  refine c_toMemoryS (hAl4.kept K10) hnl4 K10.1 fun a1 g11 ha1 => ?_
  have Fa1s0 : Far a1 s0 := fun q1 q2 => by have := (Ns0.lt q2).2; have := (ha1.lt q1).1; omega
  have Fa1s1 : Far a1 s1 := fun q1 q2 => by have := (Ns1.lt q2).2; have := (ha1.lt q1).1; omega
  have Fa0a1 : Far a0 a1 := fun q1 q2 => by have := (Na0.lt q1).2; have := (ha1.lt q2).1; omega
  have K12 := K10.trans ha1.kept
  have Q12 := ha1.kept.1
  have P12 := K12.1
  have Na1 := ha1.base K10
  replace Ns0 := Ns0.later ha1.kept
  replace Ns1 := Ns1.later ha1.kept
  replace Na0 := Na0.later ha1.kept
  repeat' (first | (simp (disch := first | omega | assumption | (simp only [List.length_set]; omega) | (simp [*] <;> fail) | assumption) [-Bool.decide_and, -Bool.decide_or, -Bool.not_and, -Bool.not_or, toNat_pred, toNat_succ, wrap64, wr_new, wr_new0, ok_if, ok_ifn, iadV_sl, makeV_int, decT, decF, over_at, *]) | (with_reducible refine Gd_split (fun hc => ?_) (fun hc => ?_) <;> (have hc2 := hc; try simp at hc2)) | (with_reducible refine Br_split (fun hc => ?_) (fun hc => ?_) <;> (have hc2 := hc; try simp at hc2)) | (with_reducible refine GdT_split (fun hc => ?_) (fun hc => ?_) <;> (have hc2 := hc; try simp at hc2)) | (with_reducible refine WT_alt ?_ ?_) | omega)
  refine c_toFloat32S (hAl5.kept K12) hnl5 K12.1 fun a2 g13 ha2 => ?_
  have Fa2s0 : Far a2 s0 := fun q1 q2 => by have := (Ns0.lt q2).2; have := (ha2.lt q1).1; omega
  have Fa2s1 : Far a2 s1 := fun q1 q2 => by have := (Ns1.lt q2).2; have := (ha2.lt q1).1; omega
  have Fa0a2 : Far a0 a2 := fun q1 q2 => by have := (Na0.lt q1).2; have := (ha2.lt q2).1; omega
  have Fa1a2 : Far a1 a2 := fun q1 q2 => by have := (Na1.lt q1).2; have := (ha2.lt q2).1; omega
  have K14 := K12.trans ha2.kept
  have Q14 := ha2.kept.1
  have P14 := K14.1
  have Na2 := ha2.base K12
  replace Ns0 := Ns0.later ha2.kept
  replace Ns1 := Ns1.later ha2.kept
  replace Na0 := Na0.later ha2.kept
  replace Na1 := Na1.later ha2.kept
  repeat' (first | (simp (disch := first | omega | assumption | (simp only [List.length_set]; omega) | (simp [*] <;> fail) | assumption) [-Bool.decide_and, -Bool.decide_or, -Bool.not_and, -Bool.not_or, toNat_pred, toNat_succ, wrap64, wr_new, wr_new0, ok_if, ok_ifn, iadV_sl, makeV_int, decT, decF, over_at, *]) | (with_reducible refine Gd_split (fun hc => ?_) (fun hc => ?_) <;> (have hc2 := hc; try simp at hc2)) | (with_reducible refine Br_split (fun hc => ?_) (fun hc => ?_) <;> (have hc2 := hc; try simp at hc2)) | (with_reducible refine GdT_split (fun hc => ?_) (fun hc => ?_) <;> (have hc2 := hc; try simp at hc2)) | (with_reducible refine WT_alt ?_ ?_) | omega)
  refine ci Na0 Na1 Na2 K14.1 fun r0 r1 g15 hr0 hr1 hfr0r1 => ?_
  have Fr0s0 : Far r0 s0 := fun q1 q2 => by have := (Ns0.lt q2).2; have := (hr0.lt q1).1; omega
  have Fr0s1 : Far r0 s1 := fun q1 q2 => by have := (Ns1.lt q2).2; have := (hr0.lt q1).1; omega
  have Fa0r0 : Far a0 r0 := fun q1 q2 => by have := (Na0.lt q1).2; have := (hr0.lt q2).1; omega
  have Fa1r0 : Far a1 r0 := fun q1 q2 => by have := (Na1.lt q1).2; have := (hr0.lt q2).1; omega
  have Fa2r0 : Far a2 r0 := fun q1 q2 => by have := (Na2.lt q1).2; have := (hr0.lt q2).1; omega
  have Fr1s0 : Far r1 s0 := fun q1 q2 => by have := (Ns0.lt q2).2; have := (hr1.lt q1).1; omega
  have Fr1s1 : Far r1 s1 := fun q1 q2 => by have := (Ns1.lt q2).2; have := (hr1.lt q1).1; omega
  have Fa0r1 : Far a0 r1 := fun q1 q2 => by have := (Na0.lt q1).2; have := (hr1.lt q2).1; omega
  have Fa1r1 : Far a1 r1 := fun q1 q2 => by have := (Na1.lt q1).2; have := (hr1.lt q2).1; omega
  have Fa2r1 : Far a2 r1 := fun q1 q2 => by have := (Na2.lt q1).2; have := (hr1.lt q2).1; omega
  have K16 := K14.trans hr0.kept
  have Q16 := hr0.kept.1
  have P16 := K16.1
  have Nr0 := hr0.base K14
  have Nr1 := hr1.base K14
  replace Ns0 := Ns0.later hr0.kept
  replace Ns1 := Ns1.later hr0.kept
  replace Na0 := Na0.later hr0.kept
  replace Na1 := Na1.later hr0.kept
  replace Na2 := Na2.later hr0.kept
  have Fr0r1 : Far r0 r1 := hfr0r1
  repeat' (first | (simp (disch := first | omega | assumption | (simp only [List.length_set]; omega) | (simp [*] <;> fail) | assumption) [-Bool.decide_and, -Bool.decide_or, -Bool.not_and, -Bool.not_or, toNat_pred, toNat_succ, wrap64, wr_new, wr_new0, ok_if, ok_ifn, iadV_sl, makeV_int, decT, decF, over_at, *, c_eqFloat32S Nr0.arr Ns0.arr, c_eqMemoryS Nr1.arr Ns1.arr]) | (with_reducible refine Gd_split (fun hc => ?_) (fun hc => ?_) <;> (have hc2 := hc; try simp at hc2)) | (with_reducible refine Br_split (fun hc => ?_) (fun hc => ?_) <;> (have hc2 := hc; try simp at hc2)) | (with_reducible refine GdT_split (fun hc => ?_) (fun hc => ?_) <;> (have hc2 := hc; try simp at hc2)) | (with_reducible refine WT_alt ?_ ?_) | omega)
  refine c_toFilterS (hAl1.kept K16) hnl1 K16.1 fun y0 g17 hy0 => ?_
  have Fs0y0 : Far s0 y0 := fun q1 q2 => by have := (Ns0.lt q1).2; have := (hy0.lt q2).1; omega
  have Fs1y0 : Far s1 y0 := fun q1 q2 => by have := (Ns1.lt q1).2; have := (hy0.lt q2).1; omega
  have Fa0y0 : Far a0 y0 := fun q1 q2 => by have := (Na0.lt q1).2; have := (hy0.lt q2).1; omega
  have Fa1y0 : Far a1 y0 := fun q1 q2 => by have := (Na1.lt q1).2; have := (hy0.lt q2).1; omega
  have Fa2y0 : Far a2 y0 := fun q1 q2 => by have := (Na2.lt q1).2; have := (hy0.lt q2).1; omega
  have Fr0y0 : Far r0 y0 := fun q1 q2 => by have := (Nr0.lt q1).2; have := (hy0.lt q2).1; omega
  have Fr1y0 : Far r1 y0 := fun q1 q2 => by have := (Nr1.lt q1).2; have := (hy0.lt q2).1; omega
  have K18 := K16.trans hy0.kept
  have Q18 := hy0.kept.1
  have P18 := K18.1
  have Ny0 := hy0.base K16
  replace Ns0 := Ns0.later hy0.kept
  replace Ns1 := Ns1.later hy0.kept
  replace Na0 := Na0.later hy0.kept
  replace Na1 := Na1.later hy0.kept
  replace Na2 := Na2.later hy0.kept
  replace Nr0 := Nr0.later hy0.kept
  replace Nr1 := Nr1.later hy0.kept
  repeat' (first | (simp (disch := first | omega | assumption | (simp only [List.length_set]; omega) | (simp [*] <;> fail) | assumption) [-Bool.decide_and, -Bool.decide_or, -Bool.not_and, -Bool.not_or, toNat_pred, toNat_succ, wrap64, wr_new, wr_new0, ok_if, ok_ifn, iadV_sl, makeV_int, decT, decF, over_at, *, c_eqFilterS Na0.arr Ny0.arr]) | (with_reducible refine Gd_split (fun hc => ?_) (fun hc => ?_) <;> (have hc2 := hc; try simp at hc2)) | (with_reducible refine Br_split (fun hc => ?_) (fun hc => ?_) <;> (have hc2 := hc; try simp at hc2)) | (with_reducible refine GdT_split (fun hc => ?_) (fun hc => ?_) <;> (have hc2 := hc; try simp at hc2)) | (with_reducible refine WT_alt ?_ ?_) | omega)
  refine c_toMemoryS (hAl4.kept K18) hnl4 K18.1 fun y1 g19 hy1 => ?_
  have Fs0y1 : Far s0 y1 := fun q1 q2 => by have := (Ns0.lt q1).2; have := (hy1.lt q2).1; omega
  have Fs1y1 : Far s1 y1 := fun q1 q2 => by have := (Ns1.lt q1).2; have := (hy1.lt q2).1; omega
  have Fa0y1 : Far a0 y1 := fun q1 q2 => by have := (Na0.lt q1).2; have := (hy1.lt q2).1; omega
  have Fa1y1 : Far a1 y1 := fun q1 q2 => by have := (Na1.lt q1).2; have := (hy1.lt q2).1; omega
  have Fa2y1 : Far a2 y1 := fun q1 q2 => by have := (Na2.lt q1).2; have := (hy1.lt q2).1; omega
  have Fr0y1 : Far r0 y1 := fun q1 q2 => by have := (Nr0.lt q1).2; have := (hy1.lt q2).1; omega
  have Fr1y1 : Far r1 y1 := fun q1 q2 => by have := (Nr1.lt q1).2; have := (hy1.lt q2).1; omega
  have K20 := K18.trans hy1.kept
  have Q20 := hy1.kept.1
  have P20 := K20.1
  have Ny1 := hy1.base K18
  replace Ns0 := Ns0.later hy1.kept
  replace Ns1 := Ns1.later hy1.kept
  replace Na0 := Na0.later hy1.kept
  replace Na1 := Na1.later hy1.kept
  replace Na2 := Na2.later hy1.kept
  replace Nr0 := Nr0.later hy1.kept
  replace Nr1 := Nr1.later hy1.kept
  repeat' (first | (simp (disch := first | omega | assumption | (simp only [List.length_set]; omega) | (simp [*] <;> fail) | assumption) [-Bool.decide_and, -Bool.decide_or, -Bool.not_and, -Bool.not_or, toNat_pred, toNat_succ, wrap64, wr_new, wr_new0, ok_if, ok_ifn, iadV_sl, makeV_int, decT, decF, over_at, *, c_eqMemoryS Na1.arr Ny1.arr]) | (with_reducible refine Gd_split (fun hc => ?_) (fun hc => ?_) <;> (have hc2 := hc; try simp at hc2)) | (with_reducible refine Br_split (fun hc => ?_) (fun hc => ?_) <;> (have hc2 := hc; try simp at hc2)) | (with_reducible refine GdT_split (fun hc => ?_) (fun hc => ?_) <;> (have hc2 := hc; try simp at hc2)) | (with_reducible refine WT_alt ?_ ?_) | omega)
  refine c_toFloat32S (hAl5.kept K20) hnl5 K20.1 fun y2 g21 hy2 => ?_
  have Fs0y2 : Far s0 y2 := fun q1 q2 => by have := (Ns0.lt q1).2; have := (hy2.lt q2).1; omega
  have Fs1y2 : Far s1 y2 := fun q1 q2 => by have := (Ns1.lt q1).2; have := (hy2.lt q2).1; omega
  have Fa0y2 : Far a0 y2 := fun q1 q2 => by have := (Na0.lt q1).2; have := (hy2.lt q2).1; omega
  have Fa1y2 : Far a1 y2 := fun q1 q2 => by have := (Na1.lt q1).2; have := (hy2.lt q2).1; omega
  have Fa2y2 : Far a2 y2 := fun q1 q2 => by have := (Na2.lt q1).2; have := (hy2.lt q2).1; omega
  have Fr0y2 : Far r0 y2 := fun q1 q2 => by have := (Nr0.lt q1).2; have := (hy2.lt q2).1; omega
  have Fr1y2 : Far r1 y2 := fun q1 q2 => by have := (Nr1.lt q1).2; have := (hy2.lt q2).1; omega
  have K22 := K20.trans hy2.kept
  have Q22 := hy2.kept.1
  have P22 := K22.1
  have Ny2 := hy2.base K20
  replace Ns0 := Ns0.later hy2.kept
  replace Ns1 := Ns1.later hy2.kept
  replace Na0 := Na0.later hy2.kept
  replace Na1 := Na1.later hy2.kept
  replace Na2 := Na2.later hy2.kept
  replace Nr0 := Nr0.later hy2.kept
  replace Nr1 := Nr1.later hy2.kept
  repeat' (first | (simp (disch := first | omega | assumption | (simp only [List.length_set]; omega) | (simp [*] <;> fail) | assumption) [-Bool.decide_and, -Bool.decide_or, -Bool.not_and, -Bool.not_or, toNat_pred, toNat_succ, wrap64, wr_new, wr_new0, ok_if, ok_ifn, iadV_sl, makeV_int, decT, decF, over_at, *, c_eqFloat32S Na2.arr Ny2.arr]) | (with_reducible refine Gd_split (fun hc => ?_) (fun hc => ?_) <;> (have hc2 := hc; try simp at hc2)) | (with_reducible refine Br_split (fun hc => ?_) (fun hc => ?_) <;> (have hc2 := hc; try simp at hc2)) | (with_reducible refine GdT_split (fun hc => ?_) (fun hc => ?_) <;> (have hc2 := hc; try simp at hc2)) | (with_reducible refine WT_alt ?_ ?_) | omega)
  refine c_markFilterS Na0 (by simp; omega) (by omega) (by omega) (Nat.le_refl _) fun g23 hB23 => ?_
  have Q23 := hB23.len
  have K23 := hB23.kept K22 (fun hn => (Na0.lt hn).1)
  replace Ns0 := hB23.new Ns0 (fun hn => (Na0.lt hn).1) (fun q1 q2 => Fa0s0.symm q2 q1)
  replace Ns1 := hB23.new Ns1 (fun hn => (Na0.lt hn).1) (fun q1 q2 => Fa0s1.symm q2 q1)
  replace Na1 := hB23.new Na1 (fun hn => (Na0.lt hn).1) (fun q1 q2 => Fa0a1.symm q2 q1)
  replace Na2 := hB23.new Na2 (fun hn => (Na0.lt hn).1) (fun q1 q2 => Fa0a2.symm q2 q1)
  replace Nr0 := hB23.new Nr0 (fun hn => (Na0.lt hn).1) (fun q1 q2 => Fa0r0.symm q2 q1)
  replace Nr1 := hB23.new Nr1 (fun hn => (Na0.lt hn).1) (fun q1 q2 => Fa0r1.symm q2 q1)
  repeat' (first | (simp (disch := first | omega | assumption | (simp only [List.length_set]; omega) | (simp [*] <;> fail) | assumption) [-Bool.decide_and, -Bool.decide_or, -Bool.not_and, -Bool.not_or, toNat_pred, toNat_succ, wrap64, wr_new, wr_new0, ok_if, ok_ifn, iadV_sl, makeV_int, decT, decF, over_at, *]) | (with_reducible refine Gd_split (fun hc => ?_) (fun hc => ?_) <;> (have hc2 := hc; try simp at hc2)) | (with_reducible refine Br_split (fun hc => ?_) (fun hc => ?_) <;> (have hc2 := hc; try simp at hc2)) | (with_reducible refine GdT_split (fun hc => ?_) (fun hc => ?_) <;> (have hc2 := hc; try simp at hc2)) | (with_reducible refine WT_alt ?_ ?_) | omega)
  refine c_markMemoryS Na1 (by simp; omega) (by omega) (by omega) (Nat.le_refl _) fun g24 hM24 hB24 => ?_
  have Q24 := hB24.len
  have K24 := hB24.kept K23 (fun hn => (Na1.lt hn).1)
  replace Ns0 := hB24.new Ns0 (fun hn => (Na1.lt hn).1) (fun q1 q2 => Fa1s0.symm q2 q1)
  replace Ns1 := hB24.new Ns1 (fun hn => (Na1.lt hn).1) (fun q1 q2 => Fa1s1.symm q2 q1)
  replace Na2 := hB24.new Na2 (fun hn => (Na1.lt hn).1) (fun q1 q2 => Fa1a2.symm q2 q1)
  replace Nr0 := hB24.new Nr0 (fun hn => (Na1.lt hn).1) (fun q1 q2 => Fa1r0.symm q2 q1)
  replace Nr1 := hB24.new Nr1 (fun hn => (Na1.lt hn).1) (fun q1 q2 => Fa1r1.symm q2 q1)
  simp only [List.length_map] at hM24
  replace Na1 := hM24
  repeat' (first | (simp (disch := first | omega | assumption | (simp only [List.length_set]; omega) | (simp [*] <;> fail) | assumption) [-Bool.decide_and, -Bool.decide_or, -Bool.not_and, -Bool.not_or, toNat_pred, toNat_succ, wrap64, wr_new, wr_new0, ok_if, ok_ifn, iadV_sl, makeV_int, decT, decF, over_at, *]) | (with_reducible refine Gd_split (fun hc => ?_) (fun hc => ?_) <;> (have hc2 := hc; try simp at hc2)) | (with_reducible refine Br_split (fun hc => ?_) (fun hc => ?_) <;> (have hc2 := hc; try simp at hc2)) | (with_reducible refine GdT_split (fun hc => ?_) (fun hc => ?_) <;> (have hc2 := hc; try simp at hc2)) | (with_reducible refine WT_alt ?_ ?_) | omega)
  refine c_markFloat32S Na2 (by simp; omega) (by omega) (by omega) (Nat.le_refl _) fun g25 hM25 hB25 => ?_
  have Q25 := hB25.len
  have K25 := hB25.kept K24 (fun hn => (Na2.lt hn).1)
  replace Ns0 := hB25.new Ns0 (fun hn => (Na2.lt hn).1) (fun q1 q2 => Fa2s0.symm q2 q1)
  replace Ns1 := hB25.new Ns1 (fun hn => (Na2.lt hn).1) (fun q1 q2 => Fa2s1.symm q2 q1)
  replace Na1 := hB25.new Na1 (fun hn => (Na2.lt hn).1) (fun q1 q2 => Fa1a2 q2 q1)
  replace Nr0 := hB25.new Nr0 (fun hn => (Na2.lt hn).1) (fun q1 q2 => Fa2r0.symm q2 q1)
  replace Nr1 := hB25.new Nr1 (fun hn => (Na2.lt hn).1) (fun q1 q2 => Fa2r1.symm q2 q1)
  simp only [List.length_map] at hM25
  replace Na2 := hM25
  repeat' (first | (simp (disch := first | omega | assumption | (simp only [List.length_set]; omega) | (simp [*] <;> fail) | assumption) [-Bool.decide_and, -Bool.decide_or, -Bool.not_and, -Bool.not_or, toNat_pred, toNat_succ, wrap64, wr_new, wr_new0, ok_if, ok_ifn, iadV_sl, makeV_int, decT, decF, over_at, *, c_eqFloat32S Nr0.arr Ns0.arr, c_eqMemoryS Nr1.arr Ns1.arr]) | (with_reducible refine Gd_split (fun hc => ?_) (fun hc => ?_) <;> (have hc2 := hc; try simp at hc2)) | (with_reducible refine Br_split (fun hc => ?_) (fun hc => ?_) <;> (have hc2 := hc; try simp at hc2)) | (with_reducible refine GdT_split (fun hc => ?_) (fun hc => ?_) <;> (have hc2 := hc; try simp at hc2)) | (with_reducible refine WT_alt ?_ ?_) | omega)
  refine c_markFloat32S Nr0 (by simp; omega) (by omega) (by omega) (Nat.le_refl _) fun g26 hM26 hB26 => ?_
  have Q26 := hB26.len
  have K26 := hB26.kept K25 (fun hn => (Nr0.lt hn).1)
  replace Ns0 := hB26.new Ns0 (fun hn => (Nr0.lt hn).1) (fun q1 q2 => Fr0s0.symm q2 q1)
  replace Ns1 := hB26.new Ns1 (fun hn => (Nr0.lt hn).1) (fun q1 q2 => Fr0s1.symm q2 q1)
  replace Nr1 := hB26.new Nr1 (fun hn => (Nr0.lt hn).1) (fun q1 q2 => Fr0r1.symm q2 q1)
  simp only [List.length_map] at hM26
  replace Nr0 := hM26
  repeat' (first | (simp (disch := first | omega | assumption | (simp only [List.length_set]; omega) | (simp [*] <;> fail) | assumption) [-Bool.decide_and, -Bool.decide_or, -Bool.not_and, -Bool.not_or, toNat_pred, toNat_succ, wrap64, wr_new, wr_new0, ok_if, ok_ifn, iadV_sl, makeV_int, decT, decF, over_at, *]) | (with_reducible refine Gd_split (fun hc => ?_) (fun hc => ?_) <;> (have hc2 := hc; try simp at hc2)) | (with_reducible refine Br_split (fun hc => ?_) (fun hc => ?_) <;> (have hc2 := hc; try simp at hc2)) | (with_reducible refine GdT_split (fun hc => ?_) (fun hc => ?_) <;> (have hc2 := hc; try simp at hc2)) | (with_reducible refine WT_alt ?_ ?_) | omega)
  refine c_markMemoryS Nr1 (by simp; omega) (by omega) (by omega) (Nat.le_refl _) fun g27 hM27 hB27 => ?_
  have Q27 := hB27.len
  have K27 := hB27.kept K26 (fun hn => (Nr1.lt hn).1)
  replace Ns0 := hB27.new Ns0 (fun hn => (Nr1.lt hn).1) (fun q1 q2 => Fr1s0.symm q2 q1)
  replace Ns1 := hB27.new Ns1 (fun hn => (Nr1.lt hn).1) (fun q1 q2 => Fr1s1.symm q2 q1)
  replace Nr0 := hB27.new Nr0 (fun hn => (Nr1.lt hn).1) (fun q1 q2 => Fr0r1 q2 q1)
  simp only [List.length_map] at hM27
  replace Nr1 := hM27
  repeat' (first | (simp (disch := first | omega | assumption | (simp only [List.length_set]; omega) | (simp [*] <;> fail) | assumption) [-Bool.decide_and, -Bool.decide_or, -Bool.not_and, -Bool.not_or, toNat_pred, toNat_succ, wrap64, wr_new, wr_new0, ok_if, ok_ifn, iadV_sl, makeV_int, decT, decF, over_at, *, c_heldFloat32S Nr0.arr, c_heldMemoryS Nr1.arr]) | (with_reducible refine Gd_split (fun hc => ?_) (fun hc => ?_) <;> (have hc2 := hc; try simp at hc2)) | (with_reducible refine Br_split (fun hc => ?_) (fun hc => ?_) <;> (have hc2 := hc; try simp at hc2)) | (with_reducible refine GdT_split (fun hc => ?_) (fun hc => ?_) <;> (have hc2 := hc; try simp at hc2)) | (with_reducible refine WT_alt ?_ ?_) | omega)
  refine c_toFilterS (hAl1.kept K27) hnl1 K27.1 fun w0 g28 hw0 => ?_
  have Fs0w0 : Far s0 w0 := fun q1 q2 => by have := (Ns0.lt q1).2; have := (hw0.lt q2).1; omega
  have Fs1w0 : Far s1 w0 := fun q1 q2 => by have := (Ns1.lt q1).2; have := (hw0.lt q2).1; omega
  have Fr0w0 : Far r0 w0 := fun q1 q2 => by have := (Nr0.lt q1).2; have := (hw0.lt q2).1; omega
  have Fr1w0 : Far r1 w0 := fun q1 q2 => by have := (Nr1.lt q1).2; have := (hw0.lt q2).1; omega
  have K29 := K27.trans hw0.kept
  have Q29 := hw0.kept.1
  have P29 := K29.1
  have Nw0 := hw0.base K27
  replace Ns0 := Ns0.later hw0.kept
  replace Ns1 := Ns1.later hw0.kept
  replace Nr0 := Nr0.later hw0.kept
  replace Nr1 := Nr1.later hw0.kept
  repeat' (first | (simp (disch := first | omega | assumption | (simp only [List.length_set]; omega) | (simp [*] <;> fail) | assumption) [-Bool.decide_and, -Bool.decide_or, -Bool.not_and, -Bool.not_or, toNat_pred, toNat_succ, wrap64, wr_new, wr_new0, ok_if, ok_ifn, iadV_sl, makeV_int, decT, decF, over_at, *]) | (with_reducible refine Gd_split (fun hc => ?_) (fun hc => ?_) <;> (have hc2 := hc; try simp at hc2)) | (with_reducible refine Br_split (fun hc => ?_) (fun hc => ?_) <;> (have hc2 := hc; try simp at hc2)) | (with_reducible refine GdT_split (fun hc => ?_) (fun hc => ?_) <;> (have hc2 := hc; try simp at hc2)) | (with_reducible refine WT_alt ?_ ?_) | omega)
  refine c_toMemoryS (hAl4.kept K29) hnl4 K29.1 fun w1 g30 hw1 => ?_
  have Fs0w1 : Far s0 w1 := fun q1 q2 => by have := (Ns0.lt q1).2; have := (hw1.lt q2).1; omega
  have Fs1w1 : Far s1 w1 := fun q1 q2 => by have := (Ns1.lt q1).2; have := (hw1.lt q2).1; omega
  have Fr0w1 : Far r0 w1 := fun q1 q2 => by have := (Nr0.lt q1).2; have := (hw1.lt q2).1; omega
  have Fr1w1 : Far r1 w1 := fun q1 q2 => by have := (Nr1.lt q1).2; have := (hw1.lt q2).1; omega
  have Fw0w1 : Far w0 w1 := fun q1 q2 => by have := (Nw0.lt q1).2; have := (hw1.lt q2).1; omega
  have K31 := K29.trans hw1.kept
  have Q31 := hw1.kept.1
  have P31 := K31.1
  have Nw1 := hw1.base K29
  replace Ns0 := Ns0.later hw1.kept
  replace Ns1 := Ns1.later hw1.kept
  replace Nr0 := Nr0.later hw1.kept
  replace Nr1 := Nr1.later hw1.kept
  replace Nw0 := Nw0.later hw1.kept
  repeat' (first | (simp (disch := first | omega | assumption | (simp only [List.length_set]; omega) | (simp [*] <;> fail) | assumption) [-Bool.decide_and, -Bool.decide_or, -Bool.not_and, -Bool.not_or, toNat_pred, toNat_succ, wrap64, wr_new, wr_new0, ok_if, ok_ifn, iadV_sl, makeV_int, decT, decF, over_at, *]) | (with_reducible refine Gd_split (fun hc => ?_) (fun hc => ?_) <;> (have hc2 := hc; try simp at hc2)) | (with_reducible refine Br_split (fun hc => ?_) (fun hc => ?_) <;> (have hc2 := hc; try simp at hc2)) | (with_reducible refine GdT_split (fun hc => ?_) (fun hc => ?_) <;> (have hc2 := hc; try simp at hc2)) | (with_reducible refine WT_alt ?_ ?_) | omega)
  refine c_toFloat32S (hAl5.kept K31) hnl5 K31.1 fun w2 g32 hw2 => ?_
  have Fs0w2 : Far s0 w2 := fun q1 q2 => by have := (Ns0.lt q1).2; have := (hw2.lt q2).1; omega
  have Fs1w2 : Far s1 w2 := fun q1 q2 => by have := (Ns1.lt q1).2; have := (hw2.lt q2).1; omega
  have Fr0w2 : Far r0 w2 := fun q1 q2 => by have := (Nr0.lt q1).2; have := (hw2.lt q2).1; omega
  have Fr1w2 : Far r1 w2 := fun q1 q2 => by have := (Nr1.lt q1).2; have := (hw2.lt q2).1; omega
  have Fw0w2 : Far w0 w2 := fun q1 q2 => by have := (Nw0.lt q1).2; have := (hw2.lt q2).1; omega
  have Fw1w2 : Far w1 w2 := fun q1 q2 => by have := (Nw1.lt q1).2; have := (hw2.lt q2).1; omega
  have K33 := K31.trans hw2.kept
  have Q33 := hw2.kept.1
  have P33 := K33.1
  have Nw2 := hw2.base K31
  replace Ns0 := Ns0.later hw2.kept
  replace Ns1 := Ns1.later hw2.kept
  replace Nr0 := Nr0.later hw2.kept
  replace Nr1 := Nr1.later hw2.kept
  replace Nw0 := Nw0.later hw2.kept
  replace Nw1 := Nw1.later hw2.kept
  repeat' (first | (simp (disch := first | omega | assumption | (simp only [List.length_set]; omega) | (simp [*] <;> fail) | assumption) [-Bool.decide_and, -Bool.decide_or, -Bool.not_and, -Bool.not_or, toNat_pred, toNat_succ, wrap64, wr_new, wr_new0, ok_if, ok_ifn, iadV_sl, makeV_int, decT, decF, over_at, *]) | (with_reducible refine Gd_split (fun hc => ?_) (fun hc => ?_) <;> (have hc2 := hc; try simp at hc2)) | (with_reducible refine Br_split (fun hc => ?_) (fun hc => ?_) <;> (have hc2 := hc; try simp at hc2)) | (with_reducible refine GdT_split (fun hc => ?_) (fun hc => ?_) <;> (have hc2 := hc; try simp at hc2)) | (with_reducible refine WT_alt ?_ ?_) | omega)
  refine ci Nw0 Nw1 Nw2 K33.1 fun u0 u1 g34 hu0 hu1 hfu0u1 => ?_
  have Fs0u0 : Far s0 u0 := fun q1 q2 => by have := (Ns0.lt q1).2; have := (hu0.lt q2).1; omega
  have Fs1u0 : Far s1 u0 := fun q1 q2 => by have := (Ns1.lt q1).2; have := (hu0.lt q2).1; omega
  have Fr0u0 : Far r0 u0 := fun q1 q2 => by have := (Nr0.lt q1).2; have := (hu0.lt q2).1; omega
  have Fr1u0 : Far r1 u0 := fun q1 q2 => by have := (Nr1.lt q1).2; have := (hu0.lt q2).1; omega
  have Fu0w0 : Far u0 w0 := fun q1 q2 => by have := (Nw0.lt q2).2; have := (hu0.lt q1).1; omega
  have Fu0w1 : Far u0 w1 := fun q1 q2 => by have := (Nw1.lt q2).2; have := (hu0.lt q1).1; omega
  have Fu0w2 : Far u0 w2 := fun q1 q2 => by have := (Nw2.lt q2).2; have := (hu0.lt q1).1; omega
  have Fs0u1 : Far s0 u1 := fun q1 q2 => by have := (Ns0.lt q1).2; have := (hu1.lt q2).1; omega
  have Fs1u1 : Far s1 u1 := fun q1 q2 => by have := (Ns1.lt q1).2; have := (hu1.lt q2).1; omega
  have Fr0u1 : Far r0 u1 := fun q1 q2 => by have := (Nr0.lt q1).2; have := (hu1.lt q2).1; omega
  have Fr1u1 : Far r1 u1 := fun q1 q2 => by have := (Nr1.lt q1).2; have := (hu1.lt q2).1; omega
  have Fu1w0 : Far u1 w0 := fun q1 q2 => by have := (Nw0.lt q2).2; have := (hu1.lt q1).1; omega
  have Fu1w1 : Far u1 w1 := fun q1 q2 => by have := (Nw1.lt q2).2; have := (hu1.lt q1).1; omega
  have Fu1w2 : Far u1 w2 := fun q1 q2 => by have := (Nw2.lt q2).2; have := (hu1.lt q1).1; omega
  have K35 := K33.trans hu0.kept
  have Q35 := hu0.kept.1
  have P35 := K35.1
  have Nu0 := hu0.base K33
  have Nu1 := hu1.base K33
  replace Ns0 := Ns0.later hu0.kept
  replace Ns1 := Ns1.later hu0.kept
  replace Nr0 := Nr0.later hu0.kept
  replace Nr1 := Nr1.later hu0.kept
  replace Nw0 := Nw0.later hu0.kept
  replace Nw1 := Nw1.later hu0.kept
  replace Nw2 := Nw2.later hu0.kept
  have Fu0u1 : Far u0 u1 := hfu0u1
  repeat' (first | (simp (disch := first | omega | assumption | (simp only [List.length_set]; omega) | (simp [*] <;> fail) | assumption) [-Bool.decide_and, -Bool.decide_or, -Bool.not_and, -Bool.not_or, toNat_pred, toNat_succ, wrap64, wr_new, wr_new0, ok_if, ok_ifn, iadV_sl, makeV_int, decT, decF, over_at, *, c_eqFloat32S Nu0.arr Ns0.arr, c_eqMemoryS Nu1.arr Ns1.arr, c_heldFloat32S Nr0.arr, c_heldMemoryS Nr1.arr]) | (with_reducible refine Gd_split (fun hc => ?_) (fun hc => ?_) <;> (have hc2 := hc; try simp at hc2)) | (with_reducible refine Br_split (fun hc => ?_) (fun hc => ?_) <;> (have hc2 := hc; try simp at hc2)) | (with_reducible refine GdT_split (fun hc => ?_) (fun hc => ?_) <;> (have hc2 := hc; try simp at hc2)) | (with_reducible refine WT_alt ?_ ?_) | omega)
end Go.E
namespace Go.E.RunFilters
open Go Go.E
def pure : FuncId → Bool := fun f => List.elem f [3, 4, 5, 6, 7, 8, 9, 10, 11, 12, 13, 14, 16, 17, 20, 21, 23, 26, 30, 31, 34, 35, 36, 37, 38, 39, 41, 42, 43, 44, 47, 48, 49, 53, 54, 58, 61, 63, 65, 68, 69, 71, 72, 73, 78, 79, 82, 85, 86, 88, 89, 91, 92, 93, 94, 95, 96, 97, 98, 99, 100, 101, 104, 106, 109, 110, 111, 112, 113, 115, 116, 117, 118, 120, 122, 123, 126, 128, 129, 130, 132, 133, 134, 135, 136, 137, 143, 144, 146, 147, 149, 150, 151, 152, 153, 154, 155, 156, 157, 160, 161, 162, 164, 165, 166, 168, 169, 170, 171, 172, 173, 174, 176, 177, 178, 179, 180, 181, 182, 183, 184, 185, 186, 187, 188, 189, 190, 191, 192, 195, 198, 200, 201, 202, 203, 204, 205, 206, 207, 208, 209, 210, 211, 212, 213, 215, 216, 217, 218, 219, 220, 222, 223, 224, 225, 227, 229, 231, 238, 240, 241]
def funs : List (Nat × LFn) := [(93, L93), (130, L130), (150, L150), (189, L189), (190, L190), (178, L178), (195, L195), (212, L212), (213, L213), (177, L177), (179, L179), (149, L149), (151, L151), (87, L87), (90, L90), (86, L86), (89, L89), (145, L145), (85, L85), (88, L88), (74, L74), (77, L77), (91, L91), (16, L16), (72, L72), (75, L75), (79, L79), (80, L80), (146, L146), (17, L17), (21, L21), (73, L73), (76, L76), (78, L78), (81, L81), (82, L82), (18, L18), (20, L20), (22, L22), (23, L23), (13, L13)]
def Sy : Sys := sysOf funs
theorem lfn93 : lFn Go.Proofs.Try.prog pure Go.Proofs.Try.f93 = some L93 := by kernel_rfl
theorem lfn130 : lFn Go.Proofs.Try.prog pure Go.Proofs.Try.f130 = some L130 := by kernel_rfl
theorem lfn150 : lFn Go.Proofs.Try.prog pure Go.Proofs.Try.f150 = some L150 := by kernel_rfl
theorem lfn189 : lFn Go.Proofs.Try.prog pure Go.Proofs.Try.f189 = some L189 := by kernel_rfl
theorem lfn190 : lFn Go.Proofs.Try.prog pure Go.Proofs.Try.f190 = some L190 := by kernel_rfl
theorem lfn178 : lFn Go.Proofs.Try.prog pure Go.Proofs.Try.f178 = some L178 := by kernel_rfl
theorem lfn195 : lFn Go.Proofs.Try.prog pure Go.Proofs.Try.f195 = some L195 := by kernel_rfl
theorem lfn212 : lFn Go.Proofs.Try.prog pure Go.Proofs.Try.f212 = some L212 := by kernel_rfl
theorem lfn213 : lFn Go.Proofs.Try.prog pure Go.Proofs.Try.f213 = some L213 := by kernel_rfl
theorem lfn177 : lFn Go.Proofs.Try.prog pure Go.Proofs.Try.f177 = some L177 := by kernel_rfl
theorem lfn179 : lFn Go.Proofs.Try.prog pure Go.Proofs.Try.f179 = some L179 := by kernel_rfl
theorem lfn149 : lFn Go.Proofs.Try.prog pure Go.Proofs.Try.f149 = some L149 := by kernel_rfl
theorem lfn151 : lFn Go.Proofs.Try.prog pure Go.Proofs.Try.f151 = some L151 := by kernel_rfl
theorem lfn87 : lFn Go.Proofs.Try.prog pure Go.Proofs.Try.f87 = some L87 := by kernel_rfl
theorem lfn90 : lFn Go.Proofs.Try.prog pure Go.Proofs.Try.f90 = some L90 := by kernel_rfl
theorem lfn86 : lFn Go.Proofs.Try.prog pure Go.Proofs.Try.f86 = some L86 := by kernel_rfl
theorem lfn89 : lFn Go.Proofs.Try.prog pure Go.Proofs.Try.f89 = some L89 := by kernel_rfl
theorem lfn145 : lFn Go.Proofs.Try.prog pure Go.Proofs.Try.f145 = some L145 := by kernel_rfl
theorem lfn85 : lFn Go.Proofs.Try.prog pure Go.Proofs.Try.f85 = some L85 := by kernel_rfl
theorem lfn88 : lFn Go.Proofs.Try.prog pure Go.Proofs.Try.f88 = some L88 := by kernel_rfl
theorem lfn74 : lFn Go.Proofs.Try.prog pure Go.Proofs.Try.f74 = some L74 := by kernel_rfl
theorem lfn77 : lFn Go.Proofs.Try.prog pure Go.Proofs.Try.f77 = some L77 := by kernel_rfl
theorem lfn91 : lFn Go.Proofs.Try.prog pure Go.Proofs.Try.f91 = some L91 := by kernel_rfl
theorem lfn16 : lFn Go.Proofs.Try.prog pure Go.Proofs.Try.f16 = some L16 := by kernel_rfl
theorem lfn72 : lFn Go.Proofs.Try.prog pure Go.Proofs.Try.f72 = some L72 := by kernel_rfl
theorem lfn75 : lFn Go.Proofs.Try.prog pure Go.Proofs.Try.f75 = some L75 := by kernel_rfl
theorem lfn79 : lFn Go.Proofs.Try.prog pure Go.Proofs.Try.f79 = some L79 := by kernel_rfl
theorem lfn80 : lFn Go.Proofs.Try.prog pure Go.Proofs.Try.f80 = some L80 := by kernel_rfl
theorem lfn146 : lFn Go.Proofs.Try.prog pure Go.Proofs.Try.f146 = some L146 := by kernel_rfl
theorem lfn17 : lFn Go.Proofs.Try.prog pure Go.Proofs.Try.f17 = some L17 := by kernel_rfl
theorem lfn21 : lFn Go.Proofs.Try.prog pure Go.Proofs.Try.f21 = some L21 := by kernel_rfl
theorem lfn73 : lFn Go.Proofs.Try.prog pure Go.Proofs.Try.f73 = some L73 := by kernel_rfl
theorem lfn76 : lFn Go.Proofs.Try.prog pure Go.Proofs.Try.f76 = some L76 := by kernel_rfl
theorem lfn78 : lFn Go.Proofs.Try.prog pure Go.Proofs.Try.f78 = some L78 := by kernel_rfl
theorem lfn81 : lFn Go.Proofs.Try.prog pure Go.Proofs.Try.f81 = some L81 := by kernel_rfl
theorem lfn82 : lFn Go.Proofs.Try.prog pure Go.Proofs.Try.f82 = some L82 := by kernel_rfl
theorem lfn18 : lFn Go.Proofs.Try.prog pure Go.Proofs.Try.f18 = some L18 := by kernel_rfl
theorem lfn20 : lFn Go.Proofs.Try.prog pure Go.Proofs.Try.f20 = some L20 := by kernel_rfl
theorem lfn22 : lFn Go.Proofs.Try.prog pure Go.Proofs.Try.f22 = some L22 := by kernel_rfl
theorem lfn23 : lFn Go.Proofs.Try.prog pure Go.Proofs.Try.f23 = some L23 := by kernel_rfl
theorem lfn13 : lFn Go.Proofs.Try.prog pure Go.Proofs.Try.f13 = some L13 := by kernel_rfl
instance : HasA Sy := { f93 := rfl, f130 := rfl, f150 := rfl }
instance : HasFb Sy := { f189 := rfl, f190 := rfl }
instance : HasFf Sy := { f178 := rfl, f195 := rfl, f212 := rfl, f213 := rfl }
instance : HasFl2 Sy := { f177 := rfl, f179 := rfl }
instance : HasFi Sy := { f149 := rfl, f151 := rfl }
instance : HasFr Sy := { f87 := rfl, f90 := rfl }
instance : HasP Sy := { f86 := rfl, f89 := rfl }
instance : HasCn Sy := { f145 := rfl }
instance : HasFo Sy := { f85 := rfl, f88 := rfl }
instance : HasRs Sy := { f74 := rfl, f77 := rfl }
instance : HasSame Sy := { f91 := rfl }
instance : HasFs Sy := { f16 := rfl, f72 := rfl, f75 := rfl, f79 := rfl, f80 := rfl, f146 := rfl }
instance : HasMs Sy := { f17 := rfl, f21 := rfl, f73 := rfl, f76 := rfl, f78 := rfl, f81 := rfl, f82 := rfl }
instance : HasF Sy := { f18 := rfl, f20 := rfl, f22 := rfl, f23 := rfl }
instance : HasLRunFilters Sy := { f13 := rfl }
theorem sysOK {B : Nat} {w0 : World} : SysOK Go.Proofs.Try.prog pure Sy B w0 := SysOK.of (by
  intro p hp
  simp only [funs, List.mem_cons, List.not_mem_nil, or_false] at hp
  rcases hp with rfl | rfl | rfl | rfl | rfl | rfl | rfl | rfl | rfl | rfl | rfl | rfl | rfl | rfl | rfl | rfl | rfl | rfl | rfl | rfl | rfl | rfl | rfl | rfl | rfl | rfl | rfl | rfl | rfl | rfl | rfl | rfl | rfl | rfl | rfl | rfl | rfl | rfl | rfl | rfl | rfl
  · exact ⟨_, Go.Proofs.Try.func93, lfn93⟩
  · exact ⟨_, Go.Proofs.Try.func130, lfn130⟩
  · exact ⟨_, Go.Proofs.Try.func150, lfn150⟩
  · exact ⟨_, Go.Proofs.Try.func189, lfn189⟩
  · exact ⟨_, Go.Proofs.Try.func190, lfn190⟩
  · exact ⟨_, Go.Proofs.Try.func178, lfn178⟩
  · exact ⟨_, Go.Proofs.Try.func195, lfn195⟩
  · exact ⟨_, Go.Proofs.Try.func212, lfn212⟩
  · exact ⟨_, Go.Proofs.Try.func213, lfn213⟩
  · exact ⟨_, Go.Proofs.Try.func177, lfn177⟩
  · exact ⟨_, Go.Proofs.Try.func179, lfn179⟩
  · exact ⟨_, Go.Proofs.Try.func149, lfn149⟩
  · exact ⟨_, Go.Proofs.Try.func151, lfn151⟩
  · exact ⟨_, Go.Proofs.Try.func87, lfn87⟩
  · exact ⟨_, Go.Proofs.Try.func90, lfn90⟩
  · exact ⟨_, Go.Proofs.Try.func86, lfn86⟩
  · exact ⟨_, Go.Proofs.Try.func89, lfn89⟩
  · exact ⟨_, Go.Proofs.Try.func145, lfn145⟩
  · exact ⟨_, Go.Proofs.Try.func85, lfn85⟩
  · exact ⟨_, Go.Proofs.Try.func88, lfn88⟩
  · exact ⟨_, Go.Proofs.Try.func74, lfn74⟩
  · exact ⟨_, Go.Proofs.Try.func77, lfn77⟩
  · exact ⟨_, Go.Proofs.Try.func91, lfn91⟩
  · exact ⟨_, Go.Proofs.Try.func16, lfn16⟩
  · exact ⟨_, Go.Proofs.Try.func72, lfn72⟩
  · exact ⟨_, Go.Proofs.Try.func75, lfn75⟩
  · exact ⟨_, Go.Proofs.Try.func79, lfn79⟩
  · exact ⟨_, Go.Proofs.Try.func80, lfn80⟩
  · exact ⟨_, Go.Proofs.Try.func146, lfn146⟩
  · exact ⟨_, Go.Proofs.Try.func17, lfn17⟩
  · exact ⟨_, Go.Proofs.Try.func21, lfn21⟩
  · exact ⟨_, Go.Proofs.Try.func73, lfn73⟩
  · exact ⟨_, Go.Proofs.Try.func76, lfn76⟩
  · exact ⟨_, Go.Proofs.Try.func78, lfn78⟩
  · exact ⟨_, Go.Proofs.Try.func81, lfn81⟩
  · exact ⟨_, Go.Proofs.Try.func82, lfn82⟩
  · exact ⟨_, Go.Proofs.Try.func18, lfn18⟩
  · exact ⟨_, Go.Proofs.Try.func20, lfn20⟩
  · exact ⟨_, Go.Proofs.Try.func22, lfn22⟩
  · exact ⟨_, Go.Proofs.Try.func23, lfn23⟩
  · exact ⟨_, Go.Proofs.Try.func13, lfn13⟩)

end Go.E.RunFilters
