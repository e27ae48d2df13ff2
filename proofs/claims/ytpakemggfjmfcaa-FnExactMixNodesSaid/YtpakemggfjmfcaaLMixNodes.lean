/- The law of MixNodes: what the evaluator finds. -/
import Derived.Test.YtpakemggfjmfcaaMMn
import Derived.Test.YtpakemggfjmfcaaMDk
import Derived.Test.YtpakemggfjmfcaaMDs
import Derived.Test.YtpakemggfjmfcaaProg
set_option linter.unusedVariables false
set_option linter.unusedSimpArgs false
namespace Go.E
open Go
def L60 : LFn := ⟨2, (.seq (.reg [⟨(.some 4), (.mv (.c (.lf (.int .i64 0)))), none⟩])
 (.seq (.seq (.reg [⟨(.some 5), (.mv (.c (.lf (.int .i64 0)))), none⟩])
 (.block 0 (.loop (.seq (.seq (.reg [⟨(.some 6), (.mv (.t 5)), none⟩, ⟨(.some 7), (.mv (.t 0)), none⟩, ⟨(.some 8), (.len (.t 7)), none⟩, ⟨(.some 9), (.bin .lss (.t 6) (.t 8)), none⟩])
 (.cond (.t 9) .skip (.exit 0)))
 (.seq (.block 1 (.seq (.reg [⟨(.some 12), (.mv (.t 0)), none⟩, ⟨(.some 13), (.mv (.t 5)), none⟩, ⟨(.some 14), (.mv (.t 1)), none⟩, ⟨(.some 15), (.iaddr 3 (.t 12) (.t 13)), none⟩, ⟨(.some 16), (.faddr 0 (.t 15)), none⟩, ⟨none, (.store 1 (.t 16) (.t 14)), none⟩])
 (.seq (.reg [⟨(.some 17), (.mv (.t 1)), none⟩, ⟨(.some 18), (.bin .add (.t 17) (.c (.lf (.int .i64 1)))), none⟩, ⟨(.some 1), (.mv (.t 18)), none⟩])
 (.seq (.reg [⟨(.some 19), (.mv (.t 0)), none⟩, ⟨(.some 20), (.mv (.t 5)), none⟩, ⟨(.some 21), (.mv (.t 1)), none⟩, ⟨(.some 22), (.iaddr 3 (.t 19) (.t 20)), none⟩, ⟨(.some 23), (.faddr 1 (.t 22)), none⟩, ⟨none, (.store 1 (.t 23) (.t 21)), none⟩])
 (.seq (.reg [⟨(.some 24), (.mv (.t 1)), none⟩, ⟨(.some 25), (.bin .add (.t 24) (.c (.lf (.int .i64 1)))), none⟩, ⟨(.some 1), (.mv (.t 25)), none⟩])
 (.seq (.reg [⟨(.some 26), (.mv (.t 0)), none⟩, ⟨(.some 27), (.mv (.t 5)), none⟩, ⟨(.some 28), (.mv (.t 1)), none⟩, ⟨(.some 29), (.toflt .f32 (.t 28)), none⟩, ⟨(.some 30), (.iaddr 3 (.t 26) (.t 27)), none⟩, ⟨(.some 31), (.faddr 2 (.t 30)), none⟩, ⟨none, (.store 1 (.t 31) (.t 29)), none⟩])
 (.reg [⟨(.some 32), (.mv (.t 1)), none⟩, ⟨(.some 33), (.bin .add (.t 32) (.c (.lf (.int .i64 1)))), none⟩, ⟨(.some 1), (.mv (.t 33)), none⟩])))))))
 (.reg [⟨(.some 10), (.mv (.t 5)), none⟩, ⟨(.some 11), (.bin .add (.t 10) (.c (.lf (.int .i64 1)))), none⟩, ⟨(.some 5), (.mv (.t 11)), none⟩]))))))
 (.seq (.reg [⟨(.some 34), (.mv (.t 1)), none⟩, ⟨(.some 4), (.mv (.t 34)), none⟩])
 .ret))), [(.tmp 4)]⟩
class HasSmk (S : Sys) : Prop where
  f60 : S.fs 60 = some L60
section
variable {S : Sys} {lim : Nat} {h : Hp} {K : CV → Hp → Prop} [HasSmk S]
/-- What is handed in is written over: nothing else changes. -/
theorem c_markSendS {g : Hp} {l : Lf} {rows : List (List Lf)} {k : Int} (hN : New h g l 165 3 rows) (hn : rows.length ≤ 16777216) (h0 : 0 ≤ k) (h1 : k ≤ 1099511627776) (hl : lim ≤ h.length) (hK : ∀ g', But g g' l l → K (.lf (.int .i64 (k + 3 * rows.length))) g') : CallT S false 60 [.lf l, .lf (.int .i64 k)] g lim K := by
  rcases hN.own with ⟨rfl, rfl⟩ | ⟨id, rfl, h2, h3⟩
  · refine CallT_of_body (F := L60) (HasSmk.f60) rfl ?_; unfold L60; dsimp only []
    repeat' (first | (simp (disch := first | omega | assumption | (simp only [List.length_set]; omega) | (simp [*] <;> fail) | assumption) [-Bool.decide_and, -Bool.decide_or, -Bool.not_and, -Bool.not_or, toNat_pred, toNat_succ, wrap64, wr_new, wr_new0, ok_if, ok_ifn, iadV_sl, makeV_int, decT, decF, over_at, *]) | (with_reducible refine Gd_split (fun hc => ?_) (fun hc => ?_) <;> (have hc2 := hc; try simp at hc2)) | (with_reducible refine Br_split (fun hc => ?_) (fun hc => ?_) <;> (have hc2 := hc; try simp at hc2)) | (with_reducible refine GdT_split (fun hc => ?_) (fun hc => ?_) <;> (have hc2 := hc; try simp at hc2)) | (with_reducible refine WT_alt ?_ ?_) | omega)
    refine WL_forM 17179869154 (by decide +kernel) (0) (fun i b g' => i ≤ 0 ∧ b 1 = .lf (.int .i64 k) ∧ b 5 = .lf (.int .i64 i) ∧ g' = g) (fun _ _ _ hi => hi.1) ⟨by simp, by simp, by simp, rfl⟩ ?_
    rintro i b g' ⟨hi, e1, e5, rfl⟩
    have : i = 0 := by omega
    subst this
    repeat' (first | (simp (disch := first | omega | assumption | (simp only [List.length_set]; omega) | (simp [*] <;> fail) | assumption) [-Bool.decide_and, -Bool.decide_or, -Bool.not_and, -Bool.not_or, toNat_pred, toNat_succ, wrap64, wr_new, wr_new0, ok_if, ok_ifn, iadV_sl, makeV_int, decT, decF, over_at, *]) | (with_reducible refine Gd_split (fun hc => ?_) (fun hc => ?_) <;> (have hc2 := hc; try simp at hc2)) | (with_reducible refine Br_split (fun hc => ?_) (fun hc => ?_) <;> (have hc2 := hc; try simp at hc2)) | (with_reducible refine GdT_split (fun hc => ?_) (fun hc => ?_) <;> (have hc2 := hc; try simp at hc2)) | (with_reducible refine WT_alt ?_ ?_) | omega)
    simpa using hK g' ⟨Nat.le_refl _, fun _ _ _ => rfl, .inl rfl⟩
  · have hfl := flat_len h3.len
    have hlt := h3.lt
    refine CallT_of_body (F := L60) (HasSmk.f60) rfl ?_; unfold L60; dsimp only []
    repeat' (first | (simp (disch := first | omega | assumption | (simp only [List.length_set]; omega) | (simp [*] <;> fail) | assumption) [-Bool.decide_and, -Bool.decide_or, -Bool.not_and, -Bool.not_or, toNat_pred, toNat_succ, wrap64, wr_new, wr_new0, ok_if, ok_ifn, iadV_sl, makeV_int, decT, decF, over_at, *]) | (with_reducible refine Gd_split (fun hc => ?_) (fun hc => ?_) <;> (have hc2 := hc; try simp at hc2)) | (with_reducible refine Br_split (fun hc => ?_) (fun hc => ?_) <;> (have hc2 := hc; try simp at hc2)) | (with_reducible refine GdT_split (fun hc => ?_) (fun hc => ?_) <;> (have hc2 := hc; try simp at hc2)) | (with_reducible refine WT_alt ?_ ?_) | omega)
    refine WL_forM 17179869154 (by decide +kernel) (rows.length) (fun i b g' => i ≤ rows.length ∧ b 1 = .lf (.int .i64 (k + 3 * i)) ∧ b 5 = .lf (.int .i64 i) ∧ But g g' (.sl id 0 rows.length 3) (.sl id 0 rows.length 3) ∧ ∃ cs, g'[id]? = some ⟨cs, .own 165 3⟩ ∧ cs.length = rows.length * 3) (fun _ _ _ hi => hi.1) ⟨by omega, by simp, by simp, ⟨Nat.le_refl _, fun _ _ _ => rfl, .inl rfl⟩, _, h3.get, hfl⟩ ?_
    rintro i b g' ⟨hi, e1, e5, hB, cs, hg, hcs⟩
    have hlt2 : id < g'.length := (List.getElem?_eq_some_iff.1 hg).1
    by_cases hi2 : i < rows.length
    · clear hK
      repeat' (first | (simp (disch := first | omega | assumption | (simp only [List.length_set]; omega) | (simp [*] <;> fail) | assumption) [-Bool.decide_and, -Bool.decide_or, -Bool.not_and, -Bool.not_or, toNat_pred, toNat_succ, wrap64, wr_new, wr_new0, ok_if, ok_ifn, iadV_sl, makeV_int, decT, decF, over_at, *, wr_get1 hg, wr_set1]) | (with_reducible refine Gd_split (fun hc => ?_) (fun hc => ?_) <;> (have hc2 := hc; try simp at hc2)) | (with_reducible refine Br_split (fun hc => ?_) (fun hc => ?_) <;> (have hc2 := hc; try simp at hc2)) | (with_reducible refine GdT_split (fun hc => ?_) (fun hc => ?_) <;> (have hc2 := hc; try simp at hc2)) | (with_reducible refine WT_alt ?_ ?_) | omega)
      all_goals ((repeat' apply And.intro) <;> first | omega | exact hB.set | exact ⟨_, List.getElem?_set_self hlt2, by simp only [List.length_set]; exact hcs⟩ | (simp; omega) | trace_state)
    · have : i = rows.length := by omega
      subst this
      repeat' (first | (simp (disch := first | omega | assumption | (simp only [List.length_set]; omega) | (simp [*] <;> fail) | assumption) [-Bool.decide_and, -Bool.decide_or, -Bool.not_and, -Bool.not_or, toNat_pred, toNat_succ, wrap64, wr_new, wr_new0, ok_if, ok_ifn, iadV_sl, makeV_int, decT, decF, over_at, *]) | (with_reducible refine Gd_split (fun hc => ?_) (fun hc => ?_) <;> (have hc2 := hc; try simp at hc2)) | (with_reducible refine Br_split (fun hc => ?_) (fun hc => ?_) <;> (have hc2 := hc; try simp at hc2)) | (with_reducible refine GdT_split (fun hc => ?_) (fun hc => ?_) <;> (have hc2 := hc; try simp at hc2)) | (with_reducible refine WT_alt ?_ ?_) | omega)
      all_goals exact hK g' hB

end
def L9 : LFn := ⟨2, (.seq (.reg [⟨(.some 4), (.mv (.c (.lf (.bool false)))), none⟩])
 (.seq (.reg [⟨(.some 5), (.mv (.c (.lf (.int .i64 1048576)))), none⟩])
 (.seq (.reg [⟨(.some 17), (.mv (.t 0)), none⟩, ⟨(.some 18), (.mv (.t 5)), none⟩, ⟨(.some 19), (.call true 43 [(.t 17), (.t 18)]), none⟩, ⟨(.some 5), (.mv (.t 19)), none⟩])
 (.seq (.seq (.reg [⟨(.some 20), (.mv (.t 5)), none⟩, ⟨(.some 21), (.bin .lss (.t 20) (.c (.lf (.int .i64 0)))), none⟩])
 (.cond (.t 21) (.seq (.reg [⟨(.some 4), (.mv (.c (.lf (.bool true)))), none⟩])
 .ret) .skip))
 (.seq (.reg [⟨(.some 22), (.mv (.t 1)), none⟩, ⟨(.some 23), (.mv (.t 5)), none⟩, ⟨(.some 24), (.call true 54 [(.t 22), (.t 23)]), none⟩, ⟨(.some 5), (.mv (.t 24)), none⟩])
 (.seq (.seq (.reg [⟨(.some 25), (.mv (.t 5)), none⟩, ⟨(.some 26), (.bin .lss (.t 25) (.c (.lf (.int .i64 0)))), none⟩])
 (.cond (.t 26) (.seq (.reg [⟨(.some 4), (.mv (.c (.lf (.bool true)))), none⟩])
 .ret) .skip))
 (.seq (.reg [⟨(.some 28), (.mv (.t 0)), none⟩, ⟨(.some 29), (.call false 46 [(.t 28)]), none⟩, ⟨(.some 30), (.mv (.t 1)), none⟩, ⟨(.some 31), (.call false 56 [(.t 30)]), none⟩, ⟨(.some 32), (.call false 55 [(.t 29), (.t 31)]), none⟩, ⟨(.some 27), (.mv (.t 32)), none⟩, ⟨(.some 33), (.ext (.t 27) 0), none⟩, ⟨(.some 34), (.ext (.t 27) 1), none⟩, ⟨(.some 6), (.mv (.t 33)), none⟩, ⟨(.some 7), (.mv (.t 34)), none⟩])
 (.seq (.reg [⟨(.some 35), (.mv (.t 0)), none⟩, ⟨(.some 36), (.call false 46 [(.t 35)]), none⟩, ⟨(.some 8), (.mv (.t 36)), none⟩])
 (.seq (.reg [⟨(.some 37), (.mv (.t 1)), none⟩, ⟨(.some 38), (.call false 56 [(.t 37)]), none⟩, ⟨(.some 9), (.mv (.t 38)), none⟩])
 (.seq (.reg [⟨(.some 40), (.mv (.t 8)), none⟩, ⟨(.some 41), (.mv (.t 9)), none⟩, ⟨(.some 42), (.call false 57 [(.t 40), (.t 41)]), none⟩, ⟨(.some 39), (.mv (.t 42)), none⟩, ⟨(.some 43), (.ext (.t 39) 0), none⟩, ⟨(.some 44), (.ext (.t 39) 1), none⟩, ⟨(.some 10), (.mv (.t 43)), none⟩, ⟨(.some 11), (.mv (.t 44)), none⟩])
 (.seq (.seq (.reg [⟨(.some 45), (.mv (.t 10)), none⟩, ⟨(.some 46), (.mv (.t 6)), none⟩, ⟨(.some 47), (.call true 49 [(.t 45), (.t 46)]), none⟩, ⟨(.some 48), (.una .not (.t 47)), none⟩, ⟨(.some 49), (.mv (.t 48)), none⟩, ⟨(.some 50), (.mv (.t 11)), (.some (49, false))⟩, ⟨(.some 51), (.mv (.t 7)), (.some (49, false))⟩, ⟨(.some 52), (.beq true (.t 50) (.t 51)), (.some (49, false))⟩, ⟨(.some 53), (.pick (.t 49) (.c (.lf (.bool true))) (.t 52)), none⟩])
 (.cond (.t 53) (.seq (.reg [⟨(.some 4), (.mv (.c (.lf (.bool false)))), none⟩])
 .ret) .skip))
 (.seq (.seq (.reg [⟨(.some 54), (.mv (.t 8)), none⟩, ⟨(.some 55), (.mv (.t 0)), none⟩, ⟨(.some 56), (.call false 46 [(.t 55)]), none⟩, ⟨(.some 57), (.call true 49 [(.t 54), (.t 56)]), none⟩, ⟨(.some 58), (.una .not (.t 57)), none⟩])
 (.cond (.t 58) (.seq (.reg [⟨(.some 4), (.mv (.c (.lf (.bool false)))), none⟩])
 .ret) .skip))
 (.seq (.seq (.reg [⟨(.some 59), (.mv (.t 9)), none⟩, ⟨(.some 60), (.mv (.t 1)), none⟩, ⟨(.some 61), (.call false 56 [(.t 60)]), none⟩, ⟨(.some 62), (.call true 58 [(.t 59), (.t 61)]), none⟩, ⟨(.some 63), (.una .not (.t 62)), none⟩])
 (.cond (.t 63) (.seq (.reg [⟨(.some 4), (.mv (.c (.lf (.bool false)))), none⟩])
 .ret) .skip))
 (.seq (.reg [⟨(.some 12), (.mv (.c (.lf (.int .i64 1)))), none⟩])
 (.seq (.reg [⟨(.some 64), (.mv (.t 8)), none⟩, ⟨(.some 65), (.mv (.t 12)), none⟩, ⟨(.some 66), (.call false 59 [(.t 64), (.t 65)]), none⟩, ⟨(.some 12), (.mv (.t 66)), none⟩])
 (.seq (.reg [⟨(.some 67), (.mv (.t 9)), none⟩, ⟨(.some 68), (.mv (.t 12)), none⟩, ⟨(.some 69), (.call false 60 [(.t 67), (.t 68)]), none⟩, ⟨(.some 12), (.mv (.t 69)), none⟩])
 (.seq (.seq (.reg [⟨(.some 70), (.mv (.t 12)), none⟩, ⟨(.some 71), (.bin .lss (.t 70) (.c (.lf (.int .i64 0)))), none⟩, ⟨(.some 72), (.mv (.t 71)), none⟩, ⟨(.some 73), (.mv (.t 10)), (.some (72, false))⟩, ⟨(.some 74), (.mv (.t 6)), (.some (72, false))⟩, ⟨(.some 75), (.call true 49 [(.t 73), (.t 74)]), (.some (72, false))⟩, ⟨(.some 76), (.una .not (.t 75)), (.some (72, false))⟩, ⟨(.some 77), (.pick (.t 72) (.c (.lf (.bool true))) (.t 76)), none⟩, ⟨(.some 78), (.mv (.t 77)), none⟩, ⟨(.some 79), (.mv (.t 11)), (.some (78, false))⟩, ⟨(.some 80), (.mv (.t 7)), (.some (78, false))⟩, ⟨(.some 81), (.beq true (.t 79) (.t 80)), (.some (78, false))⟩, ⟨(.some 82), (.pick (.t 78) (.c (.lf (.bool true))) (.t 81)), none⟩])
 (.cond (.t 82) (.seq (.reg [⟨(.some 4), (.mv (.c (.lf (.bool false)))), none⟩])
 .ret) .skip))
 (.seq (.reg [⟨(.some 13), (.mv (.c (.lf (.int .i64 1)))), none⟩])
 (.seq (.reg [⟨(.some 83), (.mv (.t 10)), none⟩, ⟨(.some 84), (.mv (.t 13)), none⟩, ⟨(.some 85), (.call false 59 [(.t 83), (.t 84)]), none⟩, ⟨(.some 13), (.mv (.t 85)), none⟩])
 (.seq (.reg [⟨(.some 14), (.mv (.c (.lf (.int .i64 1)))), none⟩])
 (.seq (.reg [⟨(.some 86), (.mv (.t 10)), none⟩, ⟨(.some 87), (.mv (.t 14)), none⟩, ⟨(.some 88), (.call true 61 [(.t 86), (.t 87)]), none⟩, ⟨(.some 14), (.mv (.t 88)), none⟩])
 (.seq (.seq (.reg [⟨(.some 89), (.mv (.t 14)), none⟩, ⟨(.some 90), (.bin .lss (.t 89) (.c (.lf (.int .i64 0)))), none⟩])
 (.cond (.t 90) (.seq (.reg [⟨(.some 4), (.mv (.c (.lf (.bool false)))), none⟩])
 .ret) .skip))
 (.seq (.seq (.reg [⟨(.some 91), (.mv (.t 14)), none⟩, ⟨(.some 92), (.mv (.t 13)), none⟩, ⟨(.some 93), (.bin .neq (.t 91) (.t 92)), none⟩])
 (.cond (.t 93) (.seq (.reg [⟨(.some 4), (.mv (.c (.lf (.bool false)))), none⟩])
 .ret) .skip))
 (.seq (.reg [⟨(.some 95), (.mv (.t 0)), none⟩, ⟨(.some 96), (.call false 46 [(.t 95)]), none⟩, ⟨(.some 97), (.mv (.t 1)), none⟩, ⟨(.some 98), (.call false 56 [(.t 97)]), none⟩, ⟨(.some 99), (.call false 57 [(.t 96), (.t 98)]), none⟩, ⟨(.some 94), (.mv (.t 99)), none⟩, ⟨(.some 100), (.ext (.t 94) 0), none⟩, ⟨(.some 101), (.ext (.t 94) 1), none⟩, ⟨(.some 15), (.mv (.t 100)), none⟩, ⟨(.some 16), (.mv (.t 101)), none⟩])
 (.seq (.seq (.reg [⟨(.some 102), (.mv (.t 15)), none⟩, ⟨(.some 103), (.mv (.t 6)), none⟩, ⟨(.some 104), (.call true 49 [(.t 102), (.t 103)]), none⟩, ⟨(.some 105), (.una .not (.t 104)), none⟩, ⟨(.some 106), (.mv (.t 105)), none⟩, ⟨(.some 107), (.mv (.t 16)), (.some (106, false))⟩, ⟨(.some 108), (.mv (.t 7)), (.some (106, false))⟩, ⟨(.some 109), (.beq true (.t 107) (.t 108)), (.some (106, false))⟩, ⟨(.some 110), (.pick (.t 106) (.c (.lf (.bool true))) (.t 109)), none⟩])
 (.cond (.t 110) (.seq (.reg [⟨(.some 4), (.mv (.c (.lf (.bool false)))), none⟩])
 .ret) .skip))
 (.seq (.reg [⟨(.some 14), (.mv (.c (.lf (.int .i64 1)))), none⟩])
 (.seq (.reg [⟨(.some 111), (.mv (.t 10)), none⟩, ⟨(.some 112), (.mv (.t 14)), none⟩, ⟨(.some 113), (.call true 61 [(.t 111), (.t 112)]), none⟩, ⟨(.some 14), (.mv (.t 113)), none⟩])
 (.seq (.seq (.reg [⟨(.some 114), (.mv (.t 14)), none⟩, ⟨(.some 115), (.bin .lss (.t 114) (.c (.lf (.int .i64 0)))), none⟩])
 (.cond (.t 115) (.seq (.reg [⟨(.some 4), (.mv (.c (.lf (.bool false)))), none⟩])
 .ret) .skip))
 (.seq (.seq (.reg [⟨(.some 116), (.mv (.t 14)), none⟩, ⟨(.some 117), (.mv (.t 13)), none⟩, ⟨(.some 118), (.bin .neq (.t 116) (.t 117)), none⟩])
 (.cond (.t 118) (.seq (.reg [⟨(.some 4), (.mv (.c (.lf (.bool false)))), none⟩])
 .ret) .skip))
 (.seq (.reg [⟨(.some 4), (.mv (.c (.lf (.bool true)))), none⟩])
 .ret)))))))))))))))))))))))))))))), [(.tmp 4)]⟩
class HasLMixNodes (S : Sys) : Prop extends HasMn S, HasSH S, HasDSS S, HasKSS S, HasSmk S where
  f9 : S.fs 9 = some L9
def sndSh : Sh := .cat 1 (.int .i64) (.cat 1 (.int .i64) (.cat 1 (.flt .f32) .emp))
theorem snd_of {h : Hp} {r : List Lf} (t : Ty h sndSh r) : ∃ p : Snd, r = p.cells ∧ True := by
  obtain ⟨a1, a2, rfl, _, ⟨x, rfl, _⟩, b1, b2, rfl, _, ⟨y, rfl, _⟩, c1, c2, rfl, _, ⟨z, rfl, _, _⟩, rfl⟩ := t
  exact ⟨⟨x, y, z⟩, rfl, trivial⟩
set_option maxRecDepth 20000 in
set_option maxHeartbeats 4000000 in
theorem lawMixNodes {S : Sys} [HasLMixNodes S] : LawHolds S 9 [(false, .sl 1 flSl), (false, .sl 3 sndSh)] := by
  intro h cs hcs
  obtain ⟨c0, _, rfl, ⟨ls0, rfl, l, rows, rfl, hAl, hrows⟩, c1, _, rfl, ⟨ls1, rfl, l2, rows2, rfl, hAl2, hrows2⟩, rfl⟩ := hcs
  obtain ⟨ps, rfl, hIl, _⟩ := sss_of hrows
  obtain ⟨ss, rfl, _⟩ := rows_map (Q := fun _ => True) fun r hr => snd_of (hrows2 r hr)
  clear hrows hrows2
  have cs : ∀ {g a0 a1 p0 K}, NewD h g a0 27 1 ssCells ssRows 22 p0 → p0.map (·.1) = ps.map (·.1) → New h g a1 165 3 (ss.map Snd.cells) → h.length ≤ g.length → (∀ o po g', NewD g g' o 27 1 ssCells ssRows 22 po → po.map (·.1) = mnR (ps.map (·.1)) ss → K (.tup [.lf o, .lf (.bool (decide (okMn (ps.map (·.1)) ss)))]) g') → CallT S false 55 [.lf a0, .lf a1] g h.length K := fun h0 e0 h1 hl hk => c_specMixNodes h0.arr (Sms.new h0) h1.arr hl (fun o g qs hD hq => by rw [e0] at hq ⊢; exact hk o qs g hD hq)
  have ci : ∀ {g a0 a1 p0 K}, NewD h g a0 27 1 ssCells ssRows 22 p0 → p0.map (·.1) = ps.map (·.1) → New h g a1 165 3 (ss.map Snd.cells) → h.length ≤ g.length → (∀ o po g', NewD g g' o 27 1 ssCells ssRows 22 po → po.map (·.1) = mnR (ps.map (·.1)) ss → K (.tup [.lf o, .lf (.bool (decide (okMn (ps.map (·.1)) ss)))]) g') → CallT S false 57 [.lf a0, .lf a1] g h.length K := fun h0 e0 h1 hl hk => c_implMixNodes h0.arr (Sms.new h0) h1.arr hl (fun o g qs hD hq => by rw [e0] at hq ⊢; exact hk o qs g hD hq)
  have hsm := mnR_small (xss := ps.map (·.1)) (ss := ss)
  generalize mnR (ps.map (·.1)) ss = y at *
  generalize decide (okMn (ps.map (·.1)) ss) = ok at *
  have hlo0 : ∀ {qs : List (List Nat × Lf)}, qs.map (·.1) = y → qs.length ≤ 16777216 ∧ szD ssRows qs ≤ 16777216 := fun he => by have := small_of (ro := ssRows) hsm.1 hsm.2 he; omega
  clear hsm
  refine law_of (F := L9) HasLMixNodes.f9 rfl ?_
  have hs := fun K lim => c_szFloat32SS (S := S) (K := K) (lim := lim) hAl hIl (b := 1048576) (by decide) (by decide)
  by_cases hsz : (1048576 : Int) < ps.length + szD ssRows ps
  · rw [if_pos hsz] at hs
    unfold L9
    dsimp only []
    repeat' (first | (simp (disch := first | omega | assumption | (simp only [List.length_set]; omega) | (simp [*] <;> fail) | assumption) [-Bool.decide_and, -Bool.decide_or, -Bool.not_and, -Bool.not_or, toNat_pred, toNat_succ, wrap64, wr_new, wr_new0, ok_if, ok_ifn, iadV_sl, makeV_int, decT, decF, over_at, *]) | (with_reducible refine Gd_split (fun hc => ?_) (fun hc => ?_) <;> (have hc2 := hc; try simp at hc2)) | (with_reducible refine Br_split (fun hc => ?_) (fun hc => ?_) <;> (have hc2 := hc; try simp at hc2)) | (with_reducible refine GdT_split (fun hc => ?_) (fun hc => ?_) <;> (have hc2 := hc; try simp at hc2)) | (with_reducible refine WT_alt ?_ ?_) | omega)
  rw [if_neg hsz] at hs
  unfold L9
  dsimp only []
  repeat' (first | (simp (disch := first | omega | assumption | (simp only [List.length_set]; omega) | (simp [*] <;> fail) | assumption) [-Bool.decide_and, -Bool.decide_or, -Bool.not_and, -Bool.not_or, toNat_pred, toNat_succ, wrap64, wr_new, wr_new0, ok_if, ok_ifn, iadV_sl, makeV_int, decT, decF, over_at, *, c_szSendS hAl2]) | (with_reducible refine Gd_split (fun hc => ?_) (fun hc => ?_) <;> (have hc2 := hc; try simp at hc2)) | (with_reducible refine Br_split (fun hc => ?_) (fun hc => ?_) <;> (have hc2 := hc; try simp at hc2)) | (with_reducible refine GdT_split (fun hc => ?_) (fun hc => ?_) <;> (have hc2 := hc; try simp at hc2)) | (with_reducible refine WT_alt ?_ ?_) | omega)
  have hnl2 : ss.length ≤ 16777216 := by split at hc2 <;> omega
  have hnl : ps.length ≤ 16777216 := by omega
  have hml : szD ssRows ps ≤ 16777216 := by omega
  clear hs hsz
  refine c_toFloat32SS (hAl.kept (Kept.refl h)) (hIl.kept (Kept.refl h)) hnl hml (Kept.refl h).1 fun x0 g1 px0 hx0 Ex0 => ?_
  have Bx0 : px0.length ≤ 16777216 ∧ szD ssRows px0 ≤ 16777216 := ⟨by rw [map_len Ex0]; omega, by rw [szD_map Ex0]; omega⟩
  have K2 := (Kept.refl h).trans hx0.kept
  have Q2 := hx0.kept.1
  have P2 := K2.1
  have Zx0 := hx0.lvs_lt
  have Nx0 := hx0.base (Kept.refl h)
  repeat' (first | (simp (disch := first | omega | assumption | (simp only [List.length_set]; omega) | (simp [*] <;> fail) | assumption) [-Bool.decide_and, -Bool.decide_or, -Bool.not_and, -Bool.not_or, toNat_pred, toNat_succ, wrap64, wr_new, wr_new0, ok_if, ok_ifn, iadV_sl, makeV_int, decT, decF, over_at, *]) | (with_reducible refine Gd_split (fun hc => ?_) (fun hc => ?_) <;> (have hc2 := hc; try simp at hc2)) | (with_reducible refine Br_split (fun hc => ?_) (fun hc => ?_) <;> (have hc2 := hc; try simp at hc2)) | (with_reducible refine GdT_split (fun hc => ?_) (fun hc => ?_) <;> (have hc2 := hc; try simp at hc2)) | (with_reducible refine WT_alt ?_ ?_) | omega)
  refine c_toSendS (hAl2.kept K2) hnl2 K2.1 fun x1 g3 hx1 => ?_
  have K4 := K2.trans hx1.kept
  have Q4 := hx1.kept.1
  have P4 := K4.1
  have Zx1 := hx1.foot
  have Nx1 := hx1.base K2
  replace Nx0 := Nx0.later hx1.kept
  repeat' (first | (simp (disch := first | omega | assumption | (simp only [List.length_set]; omega) | (simp [*] <;> fail) | assumption) [-Bool.decide_and, -Bool.decide_or, -Bool.not_and, -Bool.not_or, toNat_pred, toNat_succ, wrap64, wr_new, wr_new0, ok_if, ok_ifn, iadV_sl, makeV_int, decT, decF, over_at, *]) | (with_reducible refine Gd_split (fun hc => ?_) (fun hc => ?_) <;> (have hc2 := hc; try simp at hc2)) | (with_reducible refine Br_split (fun hc => ?_) (fun hc => ?_) <;> (have hc2 := hc; try simp at hc2)) | (with_reducible refine GdT_split (fun hc => ?_) (fun hc => ?_) <;> (have hc2 := hc; try simp at hc2)) | (with_reducible refine WT_alt ?_ ?_) | omega)
  refine cs Nx0 Ex0 Nx1 K4.1 fun s0 ps0 g5 hs0 Es0  => ?_
  have Bs0 := hlo0 Es0
  have K6 := K4.trans hs0.kept
  have Q6 := hs0.kept.1
  have P6 := K6.1
  have Zs0 := hs0.lvs_lt
  have Ns0 := hs0.base K4
  replace Nx0 := Nx0.later hs0.kept
  replace Nx1 := Nx1.later hs0.kept
  repeat' (first | (simp (disch := first | omega | assumption | (simp only [List.length_set]; omega) | (simp [*] <;> fail) | assumption) [-Bool.decide_and, -Bool.decide_or, -Bool.not_and, -Bool.not_or, toNat_pred, toNat_succ, wrap64, wr_new, wr_new0, ok_if, ok_ifn, iadV_sl, makeV_int, decT, decF, over_at, *]) | (with_reducible refine Gd_split (fun hc => ?_) (fun hc => ?_) <;> (have hc2 := hc; try simp at hc2)) | (with_reducible refine Br_split (fun hc => ?_) (fun hc => ?_) <;> (have hc2 := hc; try simp at hc2)) | (with_reducible refine GdT_split (fun hc => ?_) (fun hc => ?_) <;> (have hc2 := hc; try simp at hc2)) | (with_reducible refine WT_alt ?_ ?_) | omega)
  refine c_toFloat32SS (hAl.kept K6) (hIl.kept K6) hnl hml K6.1 fun a0 g7 pa0 ha0 Ea0 => ?_
  have Ba0 : pa0.length ≤ 16777216 ∧ szD ssRows pa0 ≤ 16777216 := ⟨by rw [map_len Ea0]; omega, by rw [szD_map Ea0]; omega⟩
  have K8 := K6.trans ha0.kept
  have Q8 := ha0.kept.1
  have P8 := K8.1
  have Za0 := ha0.lvs_lt
  have Na0 := ha0.base K6
  replace Ns0 := Ns0.later ha0.kept
  repeat' (first | (simp (disch := first | omega | assumption | (simp only [List.length_set]; omega) | (simp [*] <;> fail) | assumption) [-Bool.decide_and, -Bool.decide_or, -Bool.not_and, -Bool.not_or, toNat_pred, toNat_succ, wrap64, wr_new, wr_new0, ok_if, ok_ifn, iadV_sl, makeV_int, decT, decF, over_at, *]) | (with_reducible refine Gd_split (fun hc => ?_) (fun hc => ?_) <;> (have hc2 := hc; try simp at hc2)) | (with_reducible refine Br_split (fun hc => ?_) (fun hc => ?_) <;> (have hc2 := hc; try simp at hc2)) | (with_reducible refine GdT_split (fun hc => ?_) (fun hc => ?_) <;> (have hc2 := hc; try simp at hc2)) | (with_reducible refine WT_alt ?_ ?_) | omega)
  refine c_toSendS (hAl2.kept K8) hnl2 K8.1 fun a1 g9 ha1 => ?_
  have K10 := K8.trans ha1.kept
  have Q10 := ha1.kept.1
  have P10 := K10.1
  have Za1 := ha1.foot
  have Na1 := ha1.base K8
  replace Ns0 := Ns0.later ha1.kept
  replace Na0 := Na0.later ha1.kept
  repeat' (first | (simp (disch := first | omega | assumption | (simp only [List.length_set]; omega) | (simp [*] <;> fail) | assumption) [-Bool.decide_and, -Bool.decide_or, -Bool.not_and, -Bool.not_or, toNat_pred, toNat_succ, wrap64, wr_new, wr_new0, ok_if, ok_ifn, iadV_sl, makeV_int, decT, decF, over_at, *]) | (with_reducible refine Gd_split (fun hc => ?_) (fun hc => ?_) <;> (have hc2 := hc; try simp at hc2)) | (with_reducible refine Br_split (fun hc => ?_) (fun hc => ?_) <;> (have hc2 := hc; try simp at hc2)) | (with_reducible refine GdT_split (fun hc => ?_) (fun hc => ?_) <;> (have hc2 := hc; try simp at hc2)) | (with_reducible refine WT_alt ?_ ?_) | omega)
  refine ci Na0 Ea0 Na1 K10.1 fun r0 pr0 g11 hr0 Er0  => ?_
  have Br0 := hlo0 Er0
  have K12 := K10.trans hr0.kept
  have Q12 := hr0.kept.1
  have P12 := K12.1
  have Zr0 := hr0.lvs_lt
  have Nr0 := hr0.base K10
  replace Ns0 := Ns0.later hr0.kept
  replace Na0 := Na0.later hr0.kept
  replace Na1 := Na1.later hr0.kept
  repeat' (first | (simp (disch := first | omega | assumption | (simp only [List.length_set]; omega) | (simp [*] <;> fail) | assumption) [-Bool.decide_and, -Bool.decide_or, -Bool.not_and, -Bool.not_or, toNat_pred, toNat_succ, wrap64, wr_new, wr_new0, ok_if, ok_ifn, iadV_sl, makeV_int, decT, decF, over_at, *, c_eqFloat32SS Nr0.arr Nr0.ins Ns0.arr Ns0.ins (Es0.trans Er0.symm)]) | (with_reducible refine Gd_split (fun hc => ?_) (fun hc => ?_) <;> (have hc2 := hc; try simp at hc2)) | (with_reducible refine Br_split (fun hc => ?_) (fun hc => ?_) <;> (have hc2 := hc; try simp at hc2)) | (with_reducible refine GdT_split (fun hc => ?_) (fun hc => ?_) <;> (have hc2 := hc; try simp at hc2)) | (with_reducible refine WT_alt ?_ ?_) | omega)
  refine c_toFloat32SS (hAl.kept K12) (hIl.kept K12) hnl hml K12.1 fun y0 g13 py0 hy0 Ey0 => ?_
  have By0 : py0.length ≤ 16777216 ∧ szD ssRows py0 ≤ 16777216 := ⟨by rw [map_len Ey0]; omega, by rw [szD_map Ey0]; omega⟩
  have K14 := K12.trans hy0.kept
  have Q14 := hy0.kept.1
  have P14 := K14.1
  have Zy0 := hy0.lvs_lt
  have Ny0 := hy0.base K12
  replace Ns0 := Ns0.later hy0.kept
  replace Na0 := Na0.later hy0.kept
  replace Na1 := Na1.later hy0.kept
  replace Nr0 := Nr0.later hy0.kept
  repeat' (first | (simp (disch := first | omega | assumption | (simp only [List.length_set]; omega) | (simp [*] <;> fail) | assumption) [-Bool.decide_and, -Bool.decide_or, -Bool.not_and, -Bool.not_or, toNat_pred, toNat_succ, wrap64, wr_new, wr_new0, ok_if, ok_ifn, iadV_sl, makeV_int, decT, decF, over_at, *, c_eqFloat32SS Na0.arr Na0.ins Ny0.arr Ny0.ins (Ey0.trans Ea0.symm)]) | (with_reducible refine Gd_split (fun hc => ?_) (fun hc => ?_) <;> (have hc2 := hc; try simp at hc2)) | (with_reducible refine Br_split (fun hc => ?_) (fun hc => ?_) <;> (have hc2 := hc; try simp at hc2)) | (with_reducible refine GdT_split (fun hc => ?_) (fun hc => ?_) <;> (have hc2 := hc; try simp at hc2)) | (with_reducible refine WT_alt ?_ ?_) | omega)
  refine c_toSendS (hAl2.kept K14) hnl2 K14.1 fun y1 g15 hy1 => ?_
  have K16 := K14.trans hy1.kept
  have Q16 := hy1.kept.1
  have P16 := K16.1
  have Zy1 := hy1.foot
  have Ny1 := hy1.base K14
  replace Ns0 := Ns0.later hy1.kept
  replace Na0 := Na0.later hy1.kept
  replace Na1 := Na1.later hy1.kept
  replace Nr0 := Nr0.later hy1.kept
  repeat' (first | (simp (disch := first | omega | assumption | (simp only [List.length_set]; omega) | (simp [*] <;> fail) | assumption) [-Bool.decide_and, -Bool.decide_or, -Bool.not_and, -Bool.not_or, toNat_pred, toNat_succ, wrap64, wr_new, wr_new0, ok_if, ok_ifn, iadV_sl, makeV_int, decT, decF, over_at, *, c_eqSendS Na1.arr Ny1.arr]) | (with_reducible refine Gd_split (fun hc => ?_) (fun hc => ?_) <;> (have hc2 := hc; try simp at hc2)) | (with_reducible refine Br_split (fun hc => ?_) (fun hc => ?_) <;> (have hc2 := hc; try simp at hc2)) | (with_reducible refine GdT_split (fun hc => ?_) (fun hc => ?_) <;> (have hc2 := hc; try simp at hc2)) | (with_reducible refine WT_alt ?_ ?_) | omega)
  refine c_markFloat32SS Na0 (by omega) (by have := Ba0; rw [kAt_all]; omega) Ba0.1 Ba0.2 (Nat.le_refl _) fun g17 hM17 hB17 => ?_
  have O17 : ∀ s ∈ lvs a0 pa0, s ≠ .nils → h.length ≤ s.id := fun s hs q => by have := Za0 s hs q; omega
  have Q17 := hB17.len
  have K17 := hB17.kept K16 O17
  replace Ns0 := hB17.newD Ns0 O17 (fun s hs t ht q1 q2 e => by have := Za0 s hs q1; have := Zs0 t ht q2; omega)
  replace Na1 := hB17.new Na1 O17 (fun s hs => ((fun s hs t ht q1 q2 e => by have := Za0 s hs q1; have := Za1 t ht q2; omega) : ∀ s ∈ lvs a0 pa0, ∀ t ∈ [a1], Far s t) s hs a1 (List.mem_singleton.2 rfl))
  replace Nr0 := hB17.newD Nr0 O17 (fun s hs t ht q1 q2 e => by have := Za0 s hs q1; have := Zr0 t ht q2; omega)
  have V17 : 1 ≤ kAt ssRows 0 1 pa0 pa0.length ∧ kAt ssRows 0 1 pa0 pa0.length ≤ 1 + 0 * 16777216 + 16777216 := by have := Ba0; rw [kAt_all]; omega
  replace Na0 := hM17
  repeat' (first | (simp (disch := first | omega | assumption | (simp only [List.length_set]; omega) | (simp [*] <;> fail) | assumption) [-Bool.decide_and, -Bool.decide_or, -Bool.not_and, -Bool.not_or, toNat_pred, toNat_succ, wrap64, wr_new, wr_new0, ok_if, ok_ifn, iadV_sl, makeV_int, decT, decF, over_at, *]) | (with_reducible refine Gd_split (fun hc => ?_) (fun hc => ?_) <;> (have hc2 := hc; try simp at hc2)) | (with_reducible refine Br_split (fun hc => ?_) (fun hc => ?_) <;> (have hc2 := hc; try simp at hc2)) | (with_reducible refine GdT_split (fun hc => ?_) (fun hc => ?_) <;> (have hc2 := hc; try simp at hc2)) | (with_reducible refine WT_alt ?_ ?_) | omega)
  refine c_markSendS Na1 (by simp; omega) (by omega) (by omega) (Nat.le_refl _) fun g18 hC18 => ?_
  have hB18 := hC18.buts
  have O18 : ∀ s ∈ [a1], s ≠ .nils → h.length ≤ s.id := fun s hs q => by have := Za1 s hs q; omega
  have Q18 := hB18.len
  have K18 := hB18.kept K17 O18
  replace Ns0 := hB18.newD Ns0 O18 (fun s hs t ht q1 q2 e => by have := Za1 s hs q1; have := Zs0 t ht q2; omega)
  replace Nr0 := hB18.newD Nr0 O18 (fun s hs t ht q1 q2 e => by have := Za1 s hs q1; have := Zr0 t ht q2; omega)
  repeat' (first | (simp (disch := first | omega | assumption | (simp only [List.length_set]; omega) | (simp [*] <;> fail) | assumption) [-Bool.decide_and, -Bool.decide_or, -Bool.not_and, -Bool.not_or, toNat_pred, toNat_succ, wrap64, wr_new, wr_new0, ok_if, ok_ifn, iadV_sl, makeV_int, decT, decF, over_at, *, c_eqFloat32SS Nr0.arr Nr0.ins Ns0.arr Ns0.ins (Es0.trans Er0.symm)]) | (with_reducible refine Gd_split (fun hc => ?_) (fun hc => ?_) <;> (have hc2 := hc; try simp at hc2)) | (with_reducible refine Br_split (fun hc => ?_) (fun hc => ?_) <;> (have hc2 := hc; try simp at hc2)) | (with_reducible refine GdT_split (fun hc => ?_) (fun hc => ?_) <;> (have hc2 := hc; try simp at hc2)) | (with_reducible refine WT_alt ?_ ?_) | omega)
  refine c_markFloat32SS Nr0 (by omega) (by have := Br0; rw [kAt_all]; omega) Br0.1 Br0.2 (Nat.le_refl _) fun g19 hM19 hB19 => ?_
  have O19 : ∀ s ∈ lvs r0 pr0, s ≠ .nils → h.length ≤ s.id := fun s hs q => by have := Zr0 s hs q; omega
  have Q19 := hB19.len
  have K19 := hB19.kept K18 O19
  replace Ns0 := hB19.newD Ns0 O19 (fun s hs t ht q1 q2 e => by have := Zr0 s hs q1; have := Zs0 t ht q2; omega)
  have V19 : 1 ≤ kAt ssRows 0 1 pr0 pr0.length ∧ kAt ssRows 0 1 pr0 pr0.length ≤ 1 + 0 * 16777216 + 16777216 := by have := Br0; rw [kAt_all]; omega
  replace Nr0 := hM19
  rw [← lvs_mkD (mk := mkSS) (ro := ssRows) (c := 0) (k := 1)] at Zr0
  repeat' (first | (simp (disch := first | omega | assumption | (simp only [List.length_set]; omega) | (simp [*] <;> fail) | assumption) [-Bool.decide_and, -Bool.decide_or, -Bool.not_and, -Bool.not_or, toNat_pred, toNat_succ, wrap64, wr_new, wr_new0, ok_if, ok_ifn, iadV_sl, makeV_int, decT, decF, over_at, *, c_heldFloat32SS Nr0.arr Nr0.ins (by omega) (by have := Br0; rw [kAt_all]; omega) Br0.1 Br0.2]) | (with_reducible refine Gd_split (fun hc => ?_) (fun hc => ?_) <;> (have hc2 := hc; try simp at hc2)) | (with_reducible refine Br_split (fun hc => ?_) (fun hc => ?_) <;> (have hc2 := hc; try simp at hc2)) | (with_reducible refine GdT_split (fun hc => ?_) (fun hc => ?_) <;> (have hc2 := hc; try simp at hc2)) | (with_reducible refine WT_alt ?_ ?_) | omega)
  refine c_toFloat32SS (hAl.kept K19) (hIl.kept K19) hnl hml K19.1 fun w0 g20 pw0 hw0 Ew0 => ?_
  have Bw0 : pw0.length ≤ 16777216 ∧ szD ssRows pw0 ≤ 16777216 := ⟨by rw [map_len Ew0]; omega, by rw [szD_map Ew0]; omega⟩
  have K21 := K19.trans hw0.kept
  have Q21 := hw0.kept.1
  have P21 := K21.1
  have Zw0 := hw0.lvs_lt
  have Nw0 := hw0.base K19
  replace Ns0 := Ns0.later hw0.kept
  replace Nr0 := Nr0.later hw0.kept
  repeat' (first | (simp (disch := first | omega | assumption | (simp only [List.length_set]; omega) | (simp [*] <;> fail) | assumption) [-Bool.decide_and, -Bool.decide_or, -Bool.not_and, -Bool.not_or, toNat_pred, toNat_succ, wrap64, wr_new, wr_new0, ok_if, ok_ifn, iadV_sl, makeV_int, decT, decF, over_at, *]) | (with_reducible refine Gd_split (fun hc => ?_) (fun hc => ?_) <;> (have hc2 := hc; try simp at hc2)) | (with_reducible refine Br_split (fun hc => ?_) (fun hc => ?_) <;> (have hc2 := hc; try simp at hc2)) | (with_reducible refine GdT_split (fun hc => ?_) (fun hc => ?_) <;> (have hc2 := hc; try simp at hc2)) | (with_reducible refine WT_alt ?_ ?_) | omega)
  refine c_toSendS (hAl2.kept K21) hnl2 K21.1 fun w1 g22 hw1 => ?_
  have K23 := K21.trans hw1.kept
  have Q23 := hw1.kept.1
  have P23 := K23.1
  have Zw1 := hw1.foot
  have Nw1 := hw1.base K21
  replace Ns0 := Ns0.later hw1.kept
  replace Nr0 := Nr0.later hw1.kept
  replace Nw0 := Nw0.later hw1.kept
  repeat' (first | (simp (disch := first | omega | assumption | (simp only [List.length_set]; omega) | (simp [*] <;> fail) | assumption) [-Bool.decide_and, -Bool.decide_or, -Bool.not_and, -Bool.not_or, toNat_pred, toNat_succ, wrap64, wr_new, wr_new0, ok_if, ok_ifn, iadV_sl, makeV_int, decT, decF, over_at, *]) | (with_reducible refine Gd_split (fun hc => ?_) (fun hc => ?_) <;> (have hc2 := hc; try simp at hc2)) | (with_reducible refine Br_split (fun hc => ?_) (fun hc => ?_) <;> (have hc2 := hc; try simp at hc2)) | (with_reducible refine GdT_split (fun hc => ?_) (fun hc => ?_) <;> (have hc2 := hc; try simp at hc2)) | (with_reducible refine WT_alt ?_ ?_) | omega)
  refine ci Nw0 Ew0 Nw1 K23.1 fun u0 pu0 g24 hu0 Eu0  => ?_
  have Bu0 := hlo0 Eu0
  have K25 := K23.trans hu0.kept
  have Q25 := hu0.kept.1
  have P25 := K25.1
  have Zu0 := hu0.lvs_lt
  have Nu0 := hu0.base K23
  replace Ns0 := Ns0.later hu0.kept
  replace Nr0 := Nr0.later hu0.kept
  replace Nw0 := Nw0.later hu0.kept
  replace Nw1 := Nw1.later hu0.kept
  repeat' (first | (simp (disch := first | omega | assumption | (simp only [List.length_set]; omega) | (simp [*] <;> fail) | assumption) [-Bool.decide_and, -Bool.decide_or, -Bool.not_and, -Bool.not_or, toNat_pred, toNat_succ, wrap64, wr_new, wr_new0, ok_if, ok_ifn, iadV_sl, makeV_int, decT, decF, over_at, *, c_eqFloat32SS Nu0.arr Nu0.ins Ns0.arr Ns0.ins (Es0.trans Eu0.symm), c_heldFloat32SS Nr0.arr Nr0.ins (by omega) (by have := Br0; rw [kAt_all]; omega) Br0.1 Br0.2]) | (with_reducible refine Gd_split (fun hc => ?_) (fun hc => ?_) <;> (have hc2 := hc; try simp at hc2)) | (with_reducible refine Br_split (fun hc => ?_) (fun hc => ?_) <;> (have hc2 := hc; try simp at hc2)) | (with_reducible refine GdT_split (fun hc => ?_) (fun hc => ?_) <;> (have hc2 := hc; try simp at hc2)) | (with_reducible refine WT_alt ?_ ?_) | omega)
end Go.E
namespace Go.E.MixNodes
open Go Go.E
def pure : FuncId → Bool := fun f => List.elem f [3, 4, 5, 6, 7, 8, 9, 10, 11, 12, 13, 14, 16, 17, 20, 21, 23, 26, 30, 31, 34, 35, 36, 37, 38, 39, 41, 42, 43, 44, 47, 48, 49, 53, 54, 58, 61, 63, 65, 68, 69, 71, 72, 73, 78, 79, 82, 85, 86, 88, 89, 91, 92, 93, 94, 95, 96, 97, 98, 99, 100, 101, 104, 106, 109, 110, 111, 112, 113, 115, 116, 117, 118, 120, 122, 123, 126, 128, 129, 130, 132, 133, 134, 135, 136, 137, 143, 144, 146, 147, 149, 150, 151, 152, 153, 154, 155, 156, 157, 160, 161, 162, 164, 165, 166, 168, 169, 170, 171, 172, 173, 174, 176, 177, 178, 179, 180, 181, 182, 183, 184, 185, 186, 187, 188, 189, 190, 191, 192, 195, 198, 200, 201, 202, 203, 204, 205, 206, 207, 208, 209, 210, 211, 212, 213, 215, 216, 217, 218, 219, 220, 222, 223, 224, 225, 227, 229, 231, 238, 240, 241]
def funs : List (Nat × LFn) := [(93, L93), (130, L130), (150, L150), (86, L86), (89, L89), (109, L109), (126, L126), (129, L129), (168, L168), (91, L91), (54, L54), (56, L56), (58, L58), (128, L128), (132, L132), (117, L117), (18, L18), (20, L20), (22, L22), (23, L23), (43, L43), (46, L46), (49, L49), (59, L59), (61, L61), (145, L145), (127, L127), (131, L131), (167, L167), (55, L55), (57, L57), (60, L60), (9, L9)]
def Sy : Sys := sysOf funs
theorem lfn93 : lFn Go.Proofs.Try.prog pure Go.Proofs.Try.f93 = some L93 := by kernel_rfl
theorem lfn130 : lFn Go.Proofs.Try.prog pure Go.Proofs.Try.f130 = some L130 := by kernel_rfl
theorem lfn150 : lFn Go.Proofs.Try.prog pure Go.Proofs.Try.f150 = some L150 := by kernel_rfl
theorem lfn86 : lFn Go.Proofs.Try.prog pure Go.Proofs.Try.f86 = some L86 := by kernel_rfl
theorem lfn89 : lFn Go.Proofs.Try.prog pure Go.Proofs.Try.f89 = some L89 := by kernel_rfl
theorem lfn109 : lFn Go.Proofs.Try.prog pure Go.Proofs.Try.f109 = some L109 := by kernel_rfl
theorem lfn126 : lFn Go.Proofs.Try.prog pure Go.Proofs.Try.f126 = some L126 := by kernel_rfl
theorem lfn129 : lFn Go.Proofs.Try.prog pure Go.Proofs.Try.f129 = some L129 := by kernel_rfl
theorem lfn168 : lFn Go.Proofs.Try.prog pure Go.Proofs.Try.f168 = some L168 := by kernel_rfl
theorem lfn91 : lFn Go.Proofs.Try.prog pure Go.Proofs.Try.f91 = some L91 := by kernel_rfl
theorem lfn54 : lFn Go.Proofs.Try.prog pure Go.Proofs.Try.f54 = some L54 := by kernel_rfl
theorem lfn56 : lFn Go.Proofs.Try.prog pure Go.Proofs.Try.f56 = some L56 := by kernel_rfl
theorem lfn58 : lFn Go.Proofs.Try.prog pure Go.Proofs.Try.f58 = some L58 := by kernel_rfl
theorem lfn128 : lFn Go.Proofs.Try.prog pure Go.Proofs.Try.f128 = some L128 := by kernel_rfl
theorem lfn132 : lFn Go.Proofs.Try.prog pure Go.Proofs.Try.f132 = some L132 := by kernel_rfl
theorem lfn117 : lFn Go.Proofs.Try.prog pure Go.Proofs.Try.f117 = some L117 := by kernel_rfl
theorem lfn18 : lFn Go.Proofs.Try.prog pure Go.Proofs.Try.f18 = some L18 := by kernel_rfl
theorem lfn20 : lFn Go.Proofs.Try.prog pure Go.Proofs.Try.f20 = some L20 := by kernel_rfl
theorem lfn22 : lFn Go.Proofs.Try.prog pure Go.Proofs.Try.f22 = some L22 := by kernel_rfl
theorem lfn23 : lFn Go.Proofs.Try.prog pure Go.Proofs.Try.f23 = some L23 := by kernel_rfl
theorem lfn43 : lFn Go.Proofs.Try.prog pure Go.Proofs.Try.f43 = some L43 := by kernel_rfl
theorem lfn46 : lFn Go.Proofs.Try.prog pure Go.Proofs.Try.f46 = some L46 := by kernel_rfl
theorem lfn49 : lFn Go.Proofs.Try.prog pure Go.Proofs.Try.f49 = some L49 := by kernel_rfl
theorem lfn59 : lFn Go.Proofs.Try.prog pure Go.Proofs.Try.f59 = some L59 := by kernel_rfl
theorem lfn61 : lFn Go.Proofs.Try.prog pure Go.Proofs.Try.f61 = some L61 := by kernel_rfl
theorem lfn145 : lFn Go.Proofs.Try.prog pure Go.Proofs.Try.f145 = some L145 := by kernel_rfl
theorem lfn127 : lFn Go.Proofs.Try.prog pure Go.Proofs.Try.f127 = some L127 := by kernel_rfl
theorem lfn131 : lFn Go.Proofs.Try.prog pure Go.Proofs.Try.f131 = some L131 := by kernel_rfl
theorem lfn167 : lFn Go.Proofs.Try.prog pure Go.Proofs.Try.f167 = some L167 := by kernel_rfl
theorem lfn55 : lFn Go.Proofs.Try.prog pure Go.Proofs.Try.f55 = some L55 := by kernel_rfl
theorem lfn57 : lFn Go.Proofs.Try.prog pure Go.Proofs.Try.f57 = some L57 := by kernel_rfl
theorem lfn60 : lFn Go.Proofs.Try.prog pure Go.Proofs.Try.f60 = some L60 := by kernel_rfl
theorem lfn9 : lFn Go.Proofs.Try.prog pure Go.Proofs.Try.f9 = some L9 := by kernel_rfl
instance : HasA Sy := { f93 := rfl, f130 := rfl, f150 := rfl }
instance : HasP Sy := { f86 := rfl, f89 := rfl }
instance : HasS Sy := { f109 := rfl, f126 := rfl, f129 := rfl, f168 := rfl }
instance : HasSame Sy := { f91 := rfl }
instance : HasSH Sy := { f54 := rfl, f56 := rfl, f58 := rfl, f128 := rfl, f132 := rfl }
instance : HasSz Sy := { f117 := rfl }
instance : HasF Sy := { f18 := rfl, f20 := rfl, f22 := rfl, f23 := rfl }
instance : HasDSS Sy := { f43 := rfl, f46 := rfl, f49 := rfl }
instance : HasKSS Sy := { f59 := rfl, f61 := rfl }
instance : HasCn Sy := { f145 := rfl }
instance : HasMx Sy := { f127 := rfl, f131 := rfl, f167 := rfl }
instance : HasMn Sy := { f55 := rfl, f57 := rfl }
instance : HasSmk Sy := { f60 := rfl }
instance : HasLMixNodes Sy := { f9 := rfl }
theorem sysOK {B : Nat} {w0 : World} : SysOK Go.Proofs.Try.prog pure Sy B w0 := SysOK.of (by
  intro p hp
  simp only [funs, List.mem_cons, List.not_mem_nil, or_false] at hp
  rcases hp with rfl | rfl | rfl | rfl | rfl | rfl | rfl | rfl | rfl | rfl | rfl | rfl | rfl | rfl | rfl | rfl | rfl | rfl | rfl | rfl | rfl | rfl | rfl | rfl | rfl | rfl | rfl | rfl | rfl | rfl | rfl | rfl | rfl
  · exact ⟨_, Go.Proofs.Try.func93, lfn93⟩
  · exact ⟨_, Go.Proofs.Try.func130, lfn130⟩
  · exact ⟨_, Go.Proofs.Try.func150, lfn150⟩
  · exact ⟨_, Go.Proofs.Try.func86, lfn86⟩
  · exact ⟨_, Go.Proofs.Try.func89, lfn89⟩
  · exact ⟨_, Go.Proofs.Try.func109, lfn109⟩
  · exact ⟨_, Go.Proofs.Try.func126, lfn126⟩
  · exact ⟨_, Go.Proofs.Try.func129, lfn129⟩
  · exact ⟨_, Go.Proofs.Try.func168, lfn168⟩
  · exact ⟨_, Go.Proofs.Try.func91, lfn91⟩
  · exact ⟨_, Go.Proofs.Try.func54, lfn54⟩
  · exact ⟨_, Go.Proofs.Try.func56, lfn56⟩
  · exact ⟨_, Go.Proofs.Try.func58, lfn58⟩
  · exact ⟨_, Go.Proofs.Try.func128, lfn128⟩
  · exact ⟨_, Go.Proofs.Try.func132, lfn132⟩
  · exact ⟨_, Go.Proofs.Try.func117, lfn117⟩
  · exact ⟨_, Go.Proofs.Try.func18, lfn18⟩
  · exact ⟨_, Go.Proofs.Try.func20, lfn20⟩
  · exact ⟨_, Go.Proofs.Try.func22, lfn22⟩
  · exact ⟨_, Go.Proofs.Try.func23, lfn23⟩
  · exact ⟨_, Go.Proofs.Try.func43, lfn43⟩
  · exact ⟨_, Go.Proofs.Try.func46, lfn46⟩
  · exact ⟨_, Go.Proofs.Try.func49, lfn49⟩
  · exact ⟨_, Go.Proofs.Try.func59, lfn59⟩
  · exact ⟨_, Go.Proofs.Try.func61, lfn61⟩
  · exact ⟨_, Go.Proofs.Try.func145, lfn145⟩
  · exact ⟨_, Go.Proofs.Try.func127, lfn127⟩
  · exact ⟨_, Go.Proofs.Try.func131, lfn131⟩
  · exact ⟨_, Go.Proofs.Try.func167, lfn167⟩
  · exact ⟨_, Go.Proofs.Try.func55, lfn55⟩
  · exact ⟨_, Go.Proofs.Try.func57, lfn57⟩
  · exact ⟨_, Go.Proofs.Try.func60, lfn60⟩
  · exact ⟨_, Go.Proofs.Try.func9, lfn9⟩)

end Go.E.MixNodes
