/- The law of UsedNodes: what the evaluator finds. -/
import Derived.Test.YtonfalhekphaeaaMUn
import Derived.Test.YtonfalhekphaeaaEE
import Derived.Test.YtonfalhekphaeaaProg
set_option linter.unusedVariables false
set_option linter.unusedSimpArgs false
namespace Go.E
open Go
def L49 : LFn := ⟨2, (.seq (.reg [⟨(.some 4), (.mv (.c (.lf (.int .i64 0)))), none⟩])
 (.seq (.seq (.reg [⟨(.some 5), (.mv (.c (.lf (.int .i64 0)))), none⟩])
 (.block 0 (.loop (.seq (.seq (.reg [⟨(.some 6), (.mv (.t 5)), none⟩, ⟨(.some 7), (.mv (.t 0)), none⟩, ⟨(.some 8), (.len (.t 7)), none⟩, ⟨(.some 9), (.bin .lss (.t 6) (.t 8)), none⟩])
 (.cond (.t 9) .skip (.exit 0)))
 (.seq (.block 1 (.seq (.reg [⟨(.some 12), (.mv (.t 0)), none⟩, ⟨(.some 13), (.mv (.t 5)), none⟩, ⟨(.some 14), (.mv (.t 1)), none⟩, ⟨(.some 15), (.iaddr 3 (.t 12) (.t 13)), none⟩, ⟨(.some 16), (.faddr 0 (.t 15)), none⟩, ⟨none, (.store 1 (.t 16) (.t 14)), none⟩])
 (.seq (.reg [⟨(.some 17), (.mv (.t 1)), none⟩, ⟨(.some 18), (.bin .add (.t 17) (.c (.lf (.int .i64 1)))), none⟩, ⟨(.some 1), (.mv (.t 18)), none⟩])
 (.seq (.reg [⟨(.some 19), (.mv (.t 0)), none⟩, ⟨(.some 20), (.mv (.t 5)), none⟩, ⟨(.some 21), (.mv (.t 1)), none⟩, ⟨(.some 22), (.iaddr 3 (.t 19) (.t 20)), none⟩, ⟨(.some 23), (.faddr 1 (.t 22)), none⟩, ⟨none, (.store 1 (.t 23) (.t 21)), none⟩])
 (.seq (.reg [⟨(.some 24), (.mv (.t 1)), none⟩, ⟨(.some 25), (.bin .add (.t 24) (.c (.lf (.int .i64 1)))), none⟩, ⟨(.some 1), (.mv (.t 25)), none⟩])
 (.seq (.reg [⟨(.some 26), (.mv (.t 0)), none⟩, ⟨(.some 27), (.mv (.t 5)), none⟩, ⟨(.some 28), (.mv (.t 1)), none⟩, ⟨(.some 29), (.toflt .f32 (.t 28)), none⟩, ⟨(.some 30), (.iaddr 3 (.t 26) (.t 27)), none⟩, ⟨(.some 31), (.faddr 2 (.t 30)), none⟩, ⟨none, (.store 1 (.t 31) (.t 29)), none⟩])
 (.reg [⟨(.some 32), (.mv (.t 1)), none⟩, ⟨(.some 33), (.bin .add (.t 32) (.c (.lf (.int .i64 1)))), none⟩, ⟨(.some 1), (.mv (.t 33)), none⟩])))))))
 (.reg [⟨(.some 10), (.mv (.t 5)), none⟩, ⟨(.some 11), (.bin .add (.t 10) (.c (.lf (.int .i64 1)))), none⟩, ⟨(.some 5), (.mv (.t 11)), none⟩]))))))
 (.seq (.reg [⟨(.some 34), (.mv (.t 1)), none⟩, ⟨(.some 4), (.mv (.t 34)), none⟩])
 .ret))), [(.tmp 4)]⟩
class HasSmk (S : Sys) : Prop where
  f49 : S.fs 49 = some L49
section
variable {S : Sys} {lim : Nat} {h : Hp} {K : CV → Hp → Prop} [HasSmk S]
/-- What is handed in is written over: nothing else changes. -/
theorem c_markSendS {g : Hp} {l : Lf} {rows : List (List Lf)} {k : Int} (hN : New h g l 134 3 rows) (hn : rows.length ≤ 16777216) (h0 : 0 ≤ k) (h1 : k ≤ 1099511627776) (hl : lim ≤ h.length) (hK : ∀ g', But g g' l l → K (.lf (.int .i64 (k + 3 * rows.length))) g') : CallT S false 49 [.lf l, .lf (.int .i64 k)] g lim K := by
  rcases hN.own with ⟨rfl, rfl⟩ | ⟨id, rfl, h2, h3⟩
  · refine CallT_of_body (F := L49) (HasSmk.f49) rfl ?_; unfold L49; dsimp only []
    repeat' (first | (simp (disch := first | omega | assumption | (simp only [List.length_set]; omega) | (simp [*] <;> fail) | assumption) [-Bool.decide_and, -Bool.decide_or, -Bool.not_and, -Bool.not_or, toNat_pred, toNat_succ, wrap64, wr_new, wr_new0, ok_if, ok_ifn, iadV_sl, makeV_int, decT, decF, over_at, *]) | (with_reducible refine Gd_split (fun hc => ?_) (fun hc => ?_) <;> (have hc2 := hc; try simp at hc2)) | (with_reducible refine Br_split (fun hc => ?_) (fun hc => ?_) <;> (have hc2 := hc; try simp at hc2)) | (with_reducible refine GdT_split (fun hc => ?_) (fun hc => ?_) <;> (have hc2 := hc; try simp at hc2)) | (with_reducible refine WT_alt ?_ ?_) | omega)
    refine WL_forM 17179869154 (by decide +kernel) (0) (fun i b g' => i ≤ 0 ∧ b 1 = .lf (.int .i64 k) ∧ b 5 = .lf (.int .i64 i) ∧ g' = g) (fun _ _ _ hi => hi.1) ⟨by simp, by simp, by simp, rfl⟩ ?_
    rintro i b g' ⟨hi, e1, e5, rfl⟩
    have : i = 0 := by omega
    subst this
    repeat' (first | (simp (disch := first | omega | assumption | (simp only [List.length_set]; omega) | (simp [*] <;> fail) | assumption) [-Bool.decide_and, -Bool.decide_or, -Bool.not_and, -Bool.not_or, toNat_pred, toNat_succ, wrap64, wr_new, wr_new0, ok_if, ok_ifn, iadV_sl, makeV_int, decT, decF, over_at, *]) | (with_reducible refine Gd_split (fun hc => ?_) (fun hc => ?_) <;> (have hc2 := hc; try simp at hc2)) | (with_reducible refine Br_split (fun hc => ?_) (fun hc => ?_) <;> (have hc2 := hc; try simp at hc2)) | (with_reducible refine GdT_split (fun hc => ?_) (fun hc => ?_) <;> (have hc2 := hc; try simp at hc2)) | (with_reducible refine WT_alt ?_ ?_) | omega)
    simpa using hK g' ⟨Nat.le_refl _, fun _ _ _ => rfl, .inl rfl⟩
  · have hfl := flat_len h3.len
    have hlt := h3.lt
    refine CallT_of_body (F := L49) (HasSmk.f49) rfl ?_; unfold L49; dsimp only []
    repeat' (first | (simp (disch := first | omega | assumption | (simp only [List.length_set]; omega) | (simp [*] <;> fail) | assumption) [-Bool.decide_and, -Bool.decide_or, -Bool.not_and, -Bool.not_or, toNat_pred, toNat_succ, wrap64, wr_new, wr_new0, ok_if, ok_ifn, iadV_sl, makeV_int, decT, decF, over_at, *]) | (with_reducible refine Gd_split (fun hc => ?_) (fun hc => ?_) <;> (have hc2 := hc; try simp at hc2)) | (with_reducible refine Br_split (fun hc => ?_) (fun hc => ?_) <;> (have hc2 := hc; try simp at hc2)) | (with_reducible refine GdT_split (fun hc => ?_) (fun hc => ?_) <;> (have hc2 := hc; try simp at hc2)) | (with_reducible refine WT_alt ?_ ?_) | omega)
    refine WL_forM 17179869154 (by decide +kernel) (rows.length) (fun i b g' => i ≤ rows.length ∧ b 1 = .lf (.int .i64 (k + 3 * i)) ∧ b 5 = .lf (.int .i64 i) ∧ But g g' (.sl id 0 rows.length 3) (.sl id 0 rows.length 3) ∧ ∃ cs, g'[id]? = some ⟨cs, .own 134 3⟩ ∧ cs.length = rows.length * 3) (fun _ _ _ hi => hi.1) ⟨by omega, by simp, by simp, ⟨Nat.le_refl _, fun _ _ _ => rfl, .inl rfl⟩, _, h3.get, hfl⟩ ?_
    rintro i b g' ⟨hi, e1, e5, hB, cs, hg, hcs⟩
    have hlt2 : id < g'.length := (List.getElem?_eq_some_iff.1 hg).1
    by_cases hi2 : i < rows.length
    · clear hK
      repeat' (first | (simp (disch := first | omega | assumption | (simp only [List.length_set]; omega) | (simp [*] <;> fail) | assumption) [-Bool.decide_and, -Bool.decide_or, -Bool.not_and, -Bool.not_or, toNat_pred, toNat_succ, wrap64, wr_new, wr_new0, ok_if, ok_ifn, iadV_sl, makeV_int, decT, decF, over_at, *, wr_get1 hg, wr_set1]) | (with_reducible refine Gd_split (fun hc => ?_) (fun hc => ?_) <;> (have hc2 := hc; try simp at hc2)) | (with_reducible refine Br_split (fun hc => ?_) (fun hc => ?_) <;> (have hc2 := hc; try simp at hc2)) | (with_reducible refine GdT_split (fun hc => ?_) (fun hc => ?_) <;> (have hc2 := hc; try simp at hc2)) | (with_reducible refine WT_alt ?_ ?_) | omega)
      all_goals ((repeat' apply And.intro) <;> first | omega | exact hB.set | exact ⟨_, List.getElem?_set_self hlt2, by simp only [List.length_set]; exact hcs⟩ | (simp; omega) | trace_state)
    · have : i = rows.length := by omega
      subst this
      repeat' (first | (simp (disch := first | omega | assumption | (simp only [List.length_set]; omega) | (simp [*] <;> fail) | assumption) [-Bool.decide_and, -Bool.decide_or, -Bool.not_and, -Bool.not_or, toNat_pred, toNat_succ, wrap64, wr_new, wr_new0, ok_if, ok_ifn, iadV_sl, makeV_int, decT, decF, over_at, *]) | (with_reducible refine Gd_split (fun hc => ?_) (fun hc => ?_) <;> (have hc2 := hc; try simp at hc2)) | (with_reducible refine Br_split (fun hc => ?_) (fun hc => ?_) <;> (have hc2 := hc; try simp at hc2)) | (with_reducible refine GdT_split (fun hc => ?_) (fun hc => ?_) <;> (have hc2 := hc; try simp at hc2)) | (with_reducible refine WT_alt ?_ ?_) | omega)
      all_goals exact hK g' hB

end
def L9 : LFn := ⟨2, (.seq (.reg [⟨(.some 4), (.mv (.c (.lf (.bool false)))), none⟩])
 (.seq (.reg [⟨(.some 5), (.mv (.c (.lf (.int .i64 1048576)))), none⟩])
 (.seq (.reg [⟨(.some 16), (.mv (.t 1)), none⟩, ⟨(.some 17), (.mv (.t 5)), none⟩, ⟨(.some 18), (.call true 44 [(.t 16), (.t 17)]), none⟩, ⟨(.some 5), (.mv (.t 18)), none⟩])
 (.seq (.seq (.reg [⟨(.some 19), (.mv (.t 5)), none⟩, ⟨(.some 20), (.bin .lss (.t 19) (.c (.lf (.int .i64 0)))), none⟩])
 (.cond (.t 20) (.seq (.reg [⟨(.some 4), (.mv (.c (.lf (.bool true)))), none⟩])
 .ret) .skip))
 (.seq (.reg [⟨(.some 22), (.mv (.t 0)), none⟩, ⟨(.some 23), (.mv (.t 1)), none⟩, ⟨(.some 24), (.call false 46 [(.t 23)]), none⟩, ⟨(.some 25), (.call false 45 [(.t 22), (.t 24)]), none⟩, ⟨(.some 21), (.mv (.t 25)), none⟩, ⟨(.some 26), (.ext (.t 21) 0), none⟩, ⟨(.some 27), (.ext (.t 21) 1), none⟩, ⟨(.some 6), (.mv (.t 26)), none⟩, ⟨(.some 7), (.mv (.t 27)), none⟩])
 (.seq (.reg [⟨(.some 28), (.mv (.t 1)), none⟩, ⟨(.some 29), (.call false 46 [(.t 28)]), none⟩, ⟨(.some 8), (.mv (.t 29)), none⟩])
 (.seq (.reg [⟨(.some 31), (.mv (.t 0)), none⟩, ⟨(.some 32), (.mv (.t 8)), none⟩, ⟨(.some 33), (.call false 47 [(.t 31), (.t 32)]), none⟩, ⟨(.some 30), (.mv (.t 33)), none⟩, ⟨(.some 34), (.ext (.t 30) 0), none⟩, ⟨(.some 35), (.ext (.t 30) 1), none⟩, ⟨(.some 9), (.mv (.t 34)), none⟩, ⟨(.some 10), (.mv (.t 35)), none⟩])
 (.seq (.seq (.reg [⟨(.some 36), (.mv (.t 9)), none⟩, ⟨(.some 37), (.mv (.t 6)), none⟩, ⟨(.some 38), (.call true 19 [(.t 36), (.t 37)]), none⟩, ⟨(.some 39), (.una .not (.t 38)), none⟩, ⟨(.some 40), (.mv (.t 39)), none⟩, ⟨(.some 41), (.mv (.t 10)), (.some (40, false))⟩, ⟨(.some 42), (.mv (.t 7)), (.some (40, false))⟩, ⟨(.some 43), (.beq true (.t 41) (.t 42)), (.some (40, false))⟩, ⟨(.some 44), (.pick (.t 40) (.c (.lf (.bool true))) (.t 43)), none⟩])
 (.cond (.t 44) (.seq (.reg [⟨(.some 4), (.mv (.c (.lf (.bool false)))), none⟩])
 .ret) .skip))
 (.seq (.seq (.reg [⟨(.some 45), (.mv (.t 8)), none⟩, ⟨(.some 46), (.mv (.t 1)), none⟩, ⟨(.some 47), (.call false 46 [(.t 46)]), none⟩, ⟨(.some 48), (.call true 48 [(.t 45), (.t 47)]), none⟩, ⟨(.some 49), (.una .not (.t 48)), none⟩])
 (.cond (.t 49) (.seq (.reg [⟨(.some 4), (.mv (.c (.lf (.bool false)))), none⟩])
 .ret) .skip))
 (.seq (.reg [⟨(.some 11), (.mv (.c (.lf (.int .i64 1)))), none⟩])
 (.seq (.reg [⟨(.some 50), (.mv (.t 8)), none⟩, ⟨(.some 51), (.mv (.t 11)), none⟩, ⟨(.some 52), (.call false 49 [(.t 50), (.t 51)]), none⟩, ⟨(.some 11), (.mv (.t 52)), none⟩])
 (.seq (.seq (.reg [⟨(.some 53), (.mv (.t 11)), none⟩, ⟨(.some 54), (.bin .lss (.t 53) (.c (.lf (.int .i64 0)))), none⟩, ⟨(.some 55), (.mv (.t 54)), none⟩, ⟨(.some 56), (.mv (.t 9)), (.some (55, false))⟩, ⟨(.some 57), (.mv (.t 6)), (.some (55, false))⟩, ⟨(.some 58), (.call true 19 [(.t 56), (.t 57)]), (.some (55, false))⟩, ⟨(.some 59), (.una .not (.t 58)), (.some (55, false))⟩, ⟨(.some 60), (.pick (.t 55) (.c (.lf (.bool true))) (.t 59)), none⟩, ⟨(.some 61), (.mv (.t 60)), none⟩, ⟨(.some 62), (.mv (.t 10)), (.some (61, false))⟩, ⟨(.some 63), (.mv (.t 7)), (.some (61, false))⟩, ⟨(.some 64), (.beq true (.t 62) (.t 63)), (.some (61, false))⟩, ⟨(.some 65), (.pick (.t 61) (.c (.lf (.bool true))) (.t 64)), none⟩])
 (.cond (.t 65) (.seq (.reg [⟨(.some 4), (.mv (.c (.lf (.bool false)))), none⟩])
 .ret) .skip))
 (.seq (.reg [⟨(.some 12), (.mv (.c (.lf (.int .i64 1)))), none⟩])
 (.seq (.reg [⟨(.some 66), (.mv (.t 9)), none⟩, ⟨(.some 67), (.mv (.t 12)), none⟩, ⟨(.some 68), (.call false 22 [(.t 66), (.t 67)]), none⟩, ⟨(.some 12), (.mv (.t 68)), none⟩])
 (.seq (.reg [⟨(.some 13), (.mv (.c (.lf (.int .i64 1)))), none⟩])
 (.seq (.reg [⟨(.some 69), (.mv (.t 9)), none⟩, ⟨(.some 70), (.mv (.t 13)), none⟩, ⟨(.some 71), (.call true 23 [(.t 69), (.t 70)]), none⟩, ⟨(.some 13), (.mv (.t 71)), none⟩])
 (.seq (.seq (.reg [⟨(.some 72), (.mv (.t 13)), none⟩, ⟨(.some 73), (.bin .lss (.t 72) (.c (.lf (.int .i64 0)))), none⟩])
 (.cond (.t 73) (.seq (.reg [⟨(.some 4), (.mv (.c (.lf (.bool false)))), none⟩])
 .ret) .skip))
 (.seq (.seq (.reg [⟨(.some 74), (.mv (.t 13)), none⟩, ⟨(.some 75), (.mv (.t 12)), none⟩, ⟨(.some 76), (.bin .neq (.t 74) (.t 75)), none⟩])
 (.cond (.t 76) (.seq (.reg [⟨(.some 4), (.mv (.c (.lf (.bool false)))), none⟩])
 .ret) .skip))
 (.seq (.reg [⟨(.some 78), (.mv (.t 0)), none⟩, ⟨(.some 79), (.mv (.t 1)), none⟩, ⟨(.some 80), (.call false 46 [(.t 79)]), none⟩, ⟨(.some 81), (.call false 47 [(.t 78), (.t 80)]), none⟩, ⟨(.some 77), (.mv (.t 81)), none⟩, ⟨(.some 82), (.ext (.t 77) 0), none⟩, ⟨(.some 83), (.ext (.t 77) 1), none⟩, ⟨(.some 14), (.mv (.t 82)), none⟩, ⟨(.some 15), (.mv (.t 83)), none⟩])
 (.seq (.seq (.reg [⟨(.some 84), (.mv (.t 14)), none⟩, ⟨(.some 85), (.mv (.t 6)), none⟩, ⟨(.some 86), (.call true 19 [(.t 84), (.t 85)]), none⟩, ⟨(.some 87), (.una .not (.t 86)), none⟩, ⟨(.some 88), (.mv (.t 87)), none⟩, ⟨(.some 89), (.mv (.t 15)), (.some (88, false))⟩, ⟨(.some 90), (.mv (.t 7)), (.some (88, false))⟩, ⟨(.some 91), (.beq true (.t 89) (.t 90)), (.some (88, false))⟩, ⟨(.some 92), (.pick (.t 88) (.c (.lf (.bool true))) (.t 91)), none⟩])
 (.cond (.t 92) (.seq (.reg [⟨(.some 4), (.mv (.c (.lf (.bool false)))), none⟩])
 .ret) .skip))
 (.seq (.reg [⟨(.some 13), (.mv (.c (.lf (.int .i64 1)))), none⟩])
 (.seq (.reg [⟨(.some 93), (.mv (.t 9)), none⟩, ⟨(.some 94), (.mv (.t 13)), none⟩, ⟨(.some 95), (.call true 23 [(.t 93), (.t 94)]), none⟩, ⟨(.some 13), (.mv (.t 95)), none⟩])
 (.seq (.seq (.reg [⟨(.some 96), (.mv (.t 13)), none⟩, ⟨(.some 97), (.bin .lss (.t 96) (.c (.lf (.int .i64 0)))), none⟩])
 (.cond (.t 97) (.seq (.reg [⟨(.some 4), (.mv (.c (.lf (.bool false)))), none⟩])
 .ret) .skip))
 (.seq (.seq (.reg [⟨(.some 98), (.mv (.t 13)), none⟩, ⟨(.some 99), (.mv (.t 12)), none⟩, ⟨(.some 100), (.bin .neq (.t 98) (.t 99)), none⟩])
 (.cond (.t 100) (.seq (.reg [⟨(.some 4), (.mv (.c (.lf (.bool false)))), none⟩])
 .ret) .skip))
 (.seq (.reg [⟨(.some 4), (.mv (.c (.lf (.bool true)))), none⟩])
 .ret))))))))))))))))))))))))), [(.tmp 4)]⟩
class HasLUsedNodes (S : Sys) : Prop extends HasUn S, HasSH S, HasSmk S, HasI S where
  f9 : S.fs 9 = some L9
def sndSh : Sh := .cat 1 (.int .i64) (.cat 1 (.int .i64) (.cat 1 (.flt .f32) .emp))
theorem snd_of {h : Hp} {r : List Lf} (t : Ty h sndSh r) : ∃ p : Snd, r = p.cells ∧ True := by
  obtain ⟨a1, a2, rfl, _, ⟨x, rfl, _⟩, b1, b2, rfl, _, ⟨y, rfl, _⟩, c1, c2, rfl, _, ⟨z, rfl, _, _⟩, rfl⟩ := t
  exact ⟨⟨x, y, z⟩, rfl, trivial⟩
set_option maxRecDepth 20000 in
set_option maxHeartbeats 2000000 in
theorem lawUsedNodes {S : Sys} [HasLUsedNodes S] : LawHolds S 9 [(false, .int .i64), (false, .sl 3 sndSh)] := by
  intro h cs hcs
  obtain ⟨c0, _, rfl, ⟨ls0, rfl, n, rfl, _⟩, c1, _, rfl, ⟨ls1, rfl, l, rows, rfl, hAl, hrows⟩, rfl⟩ := hcs
  obtain ⟨ps, rfl, _⟩ := rows_map (Q := fun _ => True) fun r hr => snd_of (hrows r hr)
  clear hrows
  have hlo := usedN_len (ps := ps) (n := n)
  have cs : ∀ {l g K}, Arr g l 3 (ps.map Snd.cells) → h.length ≤ g.length → (∀ o g', New g g' o 2 1 ((usedN ps n).map il) → K (.tup [.lf o, .lf (.bool (decide (areSends n ps)))]) g') → CallT S false 45 [.lf (.int .i64 n), .lf l] g h.length K := fun ha hl hk => d_specUsedNodes ha hl hk
  have ci : ∀ {l g K}, Arr g l 3 (ps.map Snd.cells) → h.length ≤ g.length → (∀ o g', New g g' o 2 1 ((usedN ps n).map il) → K (.tup [.lf o, .lf (.bool (decide (areSends n ps)))]) g') → CallT S false 47 [.lf (.int .i64 n), .lf l] g h.length K := fun ha hl hk => d_implUsedNodes ha hl hk
  generalize usedN ps n = y at *
  generalize decide (areSends n ps) = ok at *
  refine law_of (F := L9) HasLUsedNodes.f9 rfl ?_
  unfold L9
  dsimp only []
  repeat' (first | (simp (disch := first | omega | assumption | (simp only [List.length_set]; omega) | (simp [*] <;> fail) | assumption) [-Bool.decide_and, -Bool.decide_or, -Bool.not_and, -Bool.not_or, toNat_pred, toNat_succ, wrap64, wr_new, wr_new0, ok_if, ok_ifn, iadV_sl, makeV_int, decT, decF, over_at, *, c_szSendS hAl]) | (with_reducible refine Gd_split (fun hc => ?_) (fun hc => ?_) <;> (have hc2 := hc; try simp at hc2)) | (with_reducible refine Br_split (fun hc => ?_) (fun hc => ?_) <;> (have hc2 := hc; try simp at hc2)) | (with_reducible refine GdT_split (fun hc => ?_) (fun hc => ?_) <;> (have hc2 := hc; try simp at hc2)) | (with_reducible refine WT_alt ?_ ?_) | omega)
  have hnl : ps.length ≤ 16777216 := by split at hc2 <;> omega
  refine c_toSendS (hAl.kept (Kept.refl h)) hnl (Kept.refl h).1 fun x0 g1 hx0 => ?_
  have K2 := (Kept.refl h).trans hx0.kept
  have Q2 := hx0.kept.1
  have P2 := K2.1
  have Nx0 := hx0.base (Kept.refl h)
  repeat' (first | (simp (disch := first | omega | assumption | (simp only [List.length_set]; omega) | (simp [*] <;> fail) | assumption) [-Bool.decide_and, -Bool.decide_or, -Bool.not_and, -Bool.not_or, toNat_pred, toNat_succ, wrap64, wr_new, wr_new0, ok_if, ok_ifn, iadV_sl, makeV_int, decT, decF, over_at, *]) | (with_reducible refine Gd_split (fun hc => ?_) (fun hc => ?_) <;> (have hc2 := hc; try simp at hc2)) | (with_reducible refine Br_split (fun hc => ?_) (fun hc => ?_) <;> (have hc2 := hc; try simp at hc2)) | (with_reducible refine GdT_split (fun hc => ?_) (fun hc => ?_) <;> (have hc2 := hc; try simp at hc2)) | (with_reducible refine WT_alt ?_ ?_) | omega)
  refine cs Nx0.arr K2.1 fun s0 g3 hs0  => ?_
  have Fs0x0 : Far s0 x0 := fun q1 q2 => by have := (Nx0.lt q2).2; have := (hs0.lt q1).1; omega
  have K4 := K2.trans hs0.kept
  have Q4 := hs0.kept.1
  have P4 := K4.1
  have Ns0 := hs0.base K2
  replace Nx0 := Nx0.later hs0.kept
  repeat' (first | (simp (disch := first | omega | assumption | (simp only [List.length_set]; omega) | (simp [*] <;> fail) | assumption) [-Bool.decide_and, -Bool.decide_or, -Bool.not_and, -Bool.not_or, toNat_pred, toNat_succ, wrap64, wr_new, wr_new0, ok_if, ok_ifn, iadV_sl, makeV_int, decT, decF, over_at, *]) | (with_reducible refine Gd_split (fun hc => ?_) (fun hc => ?_) <;> (have hc2 := hc; try simp at hc2)) | (with_reducible refine Br_split (fun hc => ?_) (fun hc => ?_) <;> (have hc2 := hc; try simp at hc2)) | (with_reducible refine GdT_split (fun hc => ?_) (fun hc => ?_) <;> (have hc2 := hc; try simp at hc2)) | (with_reducible refine WT_alt ?_ ?_) | omega)
  refine c_toSendS (hAl.kept K4) hnl K4.1 fun a0 g5 ha0 => ?_
  have Fa0s0 : Far a0 s0 := fun q1 q2 => by have := (Ns0.lt q2).2; have := (ha0.lt q1).1; omega
  have K6 := K4.trans ha0.kept
  have Q6 := ha0.kept.1
  have P6 := K6.1
  have Na0 := ha0.base K4
  replace Ns0 := Ns0.later ha0.kept
  repeat' (first | (simp (disch := first | omega | assumption | (simp only [List.length_set]; omega) | (simp [*] <;> fail) | assumption) [-Bool.decide_and, -Bool.decide_or, -Bool.not_and, -Bool.not_or, toNat_pred, toNat_succ, wrap64, wr_new, wr_new0, ok_if, ok_ifn, iadV_sl, makeV_int, decT, decF, over_at, *]) | (with_reducible refine Gd_split (fun hc => ?_) (fun hc => ?_) <;> (have hc2 := hc; try simp at hc2)) | (with_reducible refine Br_split (fun hc => ?_) (fun hc => ?_) <;> (have hc2 := hc; try simp at hc2)) | (with_reducible refine GdT_split (fun hc => ?_) (fun hc => ?_) <;> (have hc2 := hc; try simp at hc2)) | (with_reducible refine WT_alt ?_ ?_) | omega)
  refine ci Na0.arr K6.1 fun r0 g7 hr0  => ?_
  have Fr0s0 : Far r0 s0 := fun q1 q2 => by have := (Ns0.lt q2).2; have := (hr0.lt q1).1; omega
  have Fa0r0 : Far a0 r0 := fun q1 q2 => by have := (Na0.lt q1).2; have := (hr0.lt q2).1; omega
  have K8 := K6.trans hr0.kept
  have Q8 := hr0.kept.1
  have P8 := K8.1
  have Nr0 := hr0.base K6
  replace Ns0 := Ns0.later hr0.kept
  replace Na0 := Na0.later hr0.kept
  repeat' (first | (simp (disch := first | omega | assumption | (simp only [List.length_set]; omega) | (simp [*] <;> fail) | assumption) [-Bool.decide_and, -Bool.decide_or, -Bool.not_and, -Bool.not_or, toNat_pred, toNat_succ, wrap64, wr_new, wr_new0, ok_if, ok_ifn, iadV_sl, makeV_int, decT, decF, over_at, *, c_eqInt64S Nr0.arr Ns0.arr]) | (with_reducible refine Gd_split (fun hc => ?_) (fun hc => ?_) <;> (have hc2 := hc; try simp at hc2)) | (with_reducible refine Br_split (fun hc => ?_) (fun hc => ?_) <;> (have hc2 := hc; try simp at hc2)) | (with_reducible refine GdT_split (fun hc => ?_) (fun hc => ?_) <;> (have hc2 := hc; try simp at hc2)) | (with_reducible refine WT_alt ?_ ?_) | omega)
  refine c_toSendS (hAl.kept K8) hnl K8.1 fun y0 g9 hy0 => ?_
  have Fs0y0 : Far s0 y0 := fun q1 q2 => by have := (Ns0.lt q1).2; have := (hy0.lt q2).1; omega
  have Fa0y0 : Far a0 y0 := fun q1 q2 => by have := (Na0.lt q1).2; have := (hy0.lt q2).1; omega
  have Fr0y0 : Far r0 y0 := fun q1 q2 => by have := (Nr0.lt q1).2; have := (hy0.lt q2).1; omega
  have K10 := K8.trans hy0.kept
  have Q10 := hy0.kept.1
  have P10 := K10.1
  have Ny0 := hy0.base K8
  replace Ns0 := Ns0.later hy0.kept
  replace Na0 := Na0.later hy0.kept
  replace Nr0 := Nr0.later hy0.kept
  repeat' (first | (simp (disch := first | omega | assumption | (simp only [List.length_set]; omega) | (simp [*] <;> fail) | assumption) [-Bool.decide_and, -Bool.decide_or, -Bool.not_and, -Bool.not_or, toNat_pred, toNat_succ, wrap64, wr_new, wr_new0, ok_if, ok_ifn, iadV_sl, makeV_int, decT, decF, over_at, *, c_eqSendS Na0.arr Ny0.arr]) | (with_reducible refine Gd_split (fun hc => ?_) (fun hc => ?_) <;> (have hc2 := hc; try simp at hc2)) | (with_reducible refine Br_split (fun hc => ?_) (fun hc => ?_) <;> (have hc2 := hc; try simp at hc2)) | (with_reducible refine GdT_split (fun hc => ?_) (fun hc => ?_) <;> (have hc2 := hc; try simp at hc2)) | (with_reducible refine WT_alt ?_ ?_) | omega)
  refine c_markSendS Na0 (by simp; omega) (by omega) (by omega) (Nat.le_refl _) fun g11 hB11 => ?_
  have Q11 := hB11.len
  have K11 := hB11.kept K10 (fun hn => (Na0.lt hn).1)
  replace Ns0 := hB11.new Ns0 (fun hn => (Na0.lt hn).1) (fun q1 q2 => Fa0s0.symm q2 q1)
  replace Nr0 := hB11.new Nr0 (fun hn => (Na0.lt hn).1) (fun q1 q2 => Fa0r0.symm q2 q1)
  repeat' (first | (simp (disch := first | omega | assumption | (simp only [List.length_set]; omega) | (simp [*] <;> fail) | assumption) [-Bool.decide_and, -Bool.decide_or, -Bool.not_and, -Bool.not_or, toNat_pred, toNat_succ, wrap64, wr_new, wr_new0, ok_if, ok_ifn, iadV_sl, makeV_int, decT, decF, over_at, *, c_eqInt64S Nr0.arr Ns0.arr]) | (with_reducible refine Gd_split (fun hc => ?_) (fun hc => ?_) <;> (have hc2 := hc; try simp at hc2)) | (with_reducible refine Br_split (fun hc => ?_) (fun hc => ?_) <;> (have hc2 := hc; try simp at hc2)) | (with_reducible refine GdT_split (fun hc => ?_) (fun hc => ?_) <;> (have hc2 := hc; try simp at hc2)) | (with_reducible refine WT_alt ?_ ?_) | omega)
  refine c_markInt64S Nr0 (by simp; omega) (by omega) (by omega) (Nat.le_refl _) fun g12 hM12 hB12 => ?_
  have Q12 := hB12.len
  have K12 := hB12.kept K11 (fun hn => (Nr0.lt hn).1)
  replace Ns0 := hB12.new Ns0 (fun hn => (Nr0.lt hn).1) (fun q1 q2 => Fr0s0.symm q2 q1)
  simp only [List.length_map] at hM12
  replace Nr0 := hM12
  repeat' (first | (simp (disch := first | omega | assumption | (simp only [List.length_set]; omega) | (simp [*] <;> fail) | assumption) [-Bool.decide_and, -Bool.decide_or, -Bool.not_and, -Bool.not_or, toNat_pred, toNat_succ, wrap64, wr_new, wr_new0, ok_if, ok_ifn, iadV_sl, makeV_int, decT, decF, over_at, *, c_heldInt64S Nr0.arr]) | (with_reducible refine Gd_split (fun hc => ?_) (fun hc => ?_) <;> (have hc2 := hc; try simp at hc2)) | (with_reducible refine Br_split (fun hc => ?_) (fun hc => ?_) <;> (have hc2 := hc; try simp at hc2)) | (with_reducible refine GdT_split (fun hc => ?_) (fun hc => ?_) <;> (have hc2 := hc; try simp at hc2)) | (with_reducible refine WT_alt ?_ ?_) | omega)
  refine c_toSendS (hAl.kept K12) hnl K12.1 fun w0 g13 hw0 => ?_
  have Fs0w0 : Far s0 w0 := fun q1 q2 => by have := (Ns0.lt q1).2; have := (hw0.lt q2).1; omega
  have Fr0w0 : Far r0 w0 := fun q1 q2 => by have := (Nr0.lt q1).2; have := (hw0.lt q2).1; omega
  have K14 := K12.trans hw0.kept
  have Q14 := hw0.kept.1
  have P14 := K14.1
  have Nw0 := hw0.base K12
  replace Ns0 := Ns0.later hw0.kept
  replace Nr0 := Nr0.later hw0.kept
  repeat' (first | (simp (disch := first | omega | assumption | (simp only [List.length_set]; omega) | (simp [*] <;> fail) | assumption) [-Bool.decide_and, -Bool.decide_or, -Bool.not_and, -Bool.not_or, toNat_pred, toNat_succ, wrap64, wr_new, wr_new0, ok_if, ok_ifn, iadV_sl, makeV_int, decT, decF, over_at, *]) | (with_reducible refine Gd_split (fun hc => ?_) (fun hc => ?_) <;> (have hc2 := hc; try simp at hc2)) | (with_reducible refine Br_split (fun hc => ?_) (fun hc => ?_) <;> (have hc2 := hc; try simp at hc2)) | (with_reducible refine GdT_split (fun hc => ?_) (fun hc => ?_) <;> (have hc2 := hc; try simp at hc2)) | (with_reducible refine WT_alt ?_ ?_) | omega)
  refine ci Nw0.arr K14.1 fun u0 g15 hu0  => ?_
  have Fs0u0 : Far s0 u0 := fun q1 q2 => by have := (Ns0.lt q1).2; have := (hu0.lt q2).1; omega
  have Fr0u0 : Far r0 u0 := fun q1 q2 => by have := (Nr0.lt q1).2; have := (hu0.lt q2).1; omega
  have Fu0w0 : Far u0 w0 := fun q1 q2 => by have := (Nw0.lt q2).2; have := (hu0.lt q1).1; omega
  have K16 := K14.trans hu0.kept
  have Q16 := hu0.kept.1
  have P16 := K16.1
  have Nu0 := hu0.base K14
  replace Ns0 := Ns0.later hu0.kept
  replace Nr0 := Nr0.later hu0.kept
  replace Nw0 := Nw0.later hu0.kept
  repeat' (first | (simp (disch := first | omega | assumption | (simp only [List.length_set]; omega) | (simp [*] <;> fail) | assumption) [-Bool.decide_and, -Bool.decide_or, -Bool.not_and, -Bool.not_or, toNat_pred, toNat_succ, wrap64, wr_new, wr_new0, ok_if, ok_ifn, iadV_sl, makeV_int, decT, decF, over_at, *, c_eqInt64S Nu0.arr Ns0.arr, c_heldInt64S Nr0.arr]) | (with_reducible refine Gd_split (fun hc => ?_) (fun hc => ?_) <;> (have hc2 := hc; try simp at hc2)) | (with_reducible refine Br_split (fun hc => ?_) (fun hc => ?_) <;> (have hc2 := hc; try simp at hc2)) | (with_reducible refine GdT_split (fun hc => ?_) (fun hc => ?_) <;> (have hc2 := hc; try simp at hc2)) | (with_reducible refine WT_alt ?_ ?_) | omega)
end Go.E
namespace Go.E.UsedNodes
open Go Go.E
def pure : FuncId → Bool := fun f => List.elem f [3, 4, 5, 6, 7, 8, 9, 10, 11, 12, 13, 14, 19, 20, 23, 24, 28, 30, 31, 32, 33, 34, 35, 37, 38, 40, 44, 48, 50, 51, 54, 55, 57, 58, 59, 60, 61, 62, 63, 64, 66, 69, 71, 72, 73, 74, 75, 76, 77, 78, 79, 80, 81, 82, 83, 84, 85, 86, 87, 88, 89, 90, 91, 92, 93, 94, 95, 96, 97, 99, 100, 101, 103, 106, 107, 108, 110, 111, 112, 113, 114, 115, 116, 117, 122, 123, 124, 125, 126, 128, 129, 131, 132, 133, 134, 135, 136, 137, 138, 139, 140, 141, 142, 143, 144, 146, 147, 148, 149, 150, 151, 152, 153, 154, 155, 156, 157, 158, 159, 160, 161, 162, 163, 164, 165, 166, 167, 168, 169, 170, 171, 172, 173, 174, 175, 176, 177, 178, 179, 180, 181, 182, 183, 184, 185, 186, 187, 188, 189, 190, 191, 192, 193, 195, 197, 199, 206, 208, 209, 210]
def funs : List (Nat × LFn) := [(73, L73), (86, L86), (106, L106), (133, L133), (78, L78), (107, L107), (111, L111), (146, L146), (45, L45), (47, L47), (108, L108), (109, L109), (33, L33), (44, L44), (46, L46), (48, L48), (110, L110), (112, L112), (49, L49), (17, L17), (19, L19), (22, L22), (23, L23), (9, L9)]
def Sy : Sys := sysOf funs
theorem lfn73 : lFn Go.Proofs.Try.prog pure Go.Proofs.Try.f73 = some L73 := by kernel_rfl
theorem lfn86 : lFn Go.Proofs.Try.prog pure Go.Proofs.Try.f86 = some L86 := by kernel_rfl
theorem lfn106 : lFn Go.Proofs.Try.prog pure Go.Proofs.Try.f106 = some L106 := by kernel_rfl
theorem lfn133 : lFn Go.Proofs.Try.prog pure Go.Proofs.Try.f133 = some L133 := by kernel_rfl
theorem lfn78 : lFn Go.Proofs.Try.prog pure Go.Proofs.Try.f78 = some L78 := by kernel_rfl
theorem lfn107 : lFn Go.Proofs.Try.prog pure Go.Proofs.Try.f107 = some L107 := by kernel_rfl
theorem lfn111 : lFn Go.Proofs.Try.prog pure Go.Proofs.Try.f111 = some L111 := by kernel_rfl
theorem lfn146 : lFn Go.Proofs.Try.prog pure Go.Proofs.Try.f146 = some L146 := by kernel_rfl
theorem lfn45 : lFn Go.Proofs.Try.prog pure Go.Proofs.Try.f45 = some L45 := by kernel_rfl
theorem lfn47 : lFn Go.Proofs.Try.prog pure Go.Proofs.Try.f47 = some L47 := by kernel_rfl
theorem lfn108 : lFn Go.Proofs.Try.prog pure Go.Proofs.Try.f108 = some L108 := by kernel_rfl
theorem lfn109 : lFn Go.Proofs.Try.prog pure Go.Proofs.Try.f109 = some L109 := by kernel_rfl
theorem lfn33 : lFn Go.Proofs.Try.prog pure Go.Proofs.Try.f33 = some L33 := by kernel_rfl
theorem lfn44 : lFn Go.Proofs.Try.prog pure Go.Proofs.Try.f44 = some L44 := by kernel_rfl
theorem lfn46 : lFn Go.Proofs.Try.prog pure Go.Proofs.Try.f46 = some L46 := by kernel_rfl
theorem lfn48 : lFn Go.Proofs.Try.prog pure Go.Proofs.Try.f48 = some L48 := by kernel_rfl
theorem lfn110 : lFn Go.Proofs.Try.prog pure Go.Proofs.Try.f110 = some L110 := by kernel_rfl
theorem lfn112 : lFn Go.Proofs.Try.prog pure Go.Proofs.Try.f112 = some L112 := by kernel_rfl
theorem lfn49 : lFn Go.Proofs.Try.prog pure Go.Proofs.Try.f49 = some L49 := by kernel_rfl
theorem lfn17 : lFn Go.Proofs.Try.prog pure Go.Proofs.Try.f17 = some L17 := by kernel_rfl
theorem lfn19 : lFn Go.Proofs.Try.prog pure Go.Proofs.Try.f19 = some L19 := by kernel_rfl
theorem lfn22 : lFn Go.Proofs.Try.prog pure Go.Proofs.Try.f22 = some L22 := by kernel_rfl
theorem lfn23 : lFn Go.Proofs.Try.prog pure Go.Proofs.Try.f23 = some L23 := by kernel_rfl
theorem lfn9 : lFn Go.Proofs.Try.prog pure Go.Proofs.Try.f9 = some L9 := by kernel_rfl
instance : HasA Sy := { f73 := rfl, f86 := rfl, f106 := rfl, f133 := rfl }
instance : HasS Sy := { f78 := rfl, f107 := rfl, f111 := rfl, f146 := rfl }
instance : HasUn Sy := { f45 := rfl, f47 := rfl, f108 := rfl, f109 := rfl }
instance : HasSame Sy := { f33 := rfl }
instance : HasSH Sy := { f44 := rfl, f46 := rfl, f48 := rfl, f110 := rfl, f112 := rfl }
instance : HasSmk Sy := { f49 := rfl }
instance : HasI Sy := { f17 := rfl, f19 := rfl, f22 := rfl, f23 := rfl }
instance : HasLUsedNodes Sy := { f9 := rfl }
theorem sysOK {B : Nat} {w0 : World} : SysOK Go.Proofs.Try.prog pure Sy B w0 := SysOK.of (by
  intro p hp
  simp only [funs, List.mem_cons, List.not_mem_nil, or_false] at hp
  rcases hp with rfl | rfl | rfl | rfl | rfl | rfl | rfl | rfl | rfl | rfl | rfl | rfl | rfl | rfl | rfl | rfl | rfl | rfl | rfl | rfl | rfl | rfl | rfl | rfl
  · exact ⟨_, Go.Proofs.Try.func73, lfn73⟩
  · exact ⟨_, Go.Proofs.Try.func86, lfn86⟩
  · exact ⟨_, Go.Proofs.Try.func106, lfn106⟩
  · exact ⟨_, Go.Proofs.Try.func133, lfn133⟩
  · exact ⟨_, Go.Proofs.Try.func78, lfn78⟩
  · exact ⟨_, Go.Proofs.Try.func107, lfn107⟩
  · exact ⟨_, Go.Proofs.Try.func111, lfn111⟩
  · exact ⟨_, Go.Proofs.Try.func146, lfn146⟩
  · exact ⟨_, Go.Proofs.Try.func45, lfn45⟩
  · exact ⟨_, Go.Proofs.Try.func47, lfn47⟩
  · exact ⟨_, Go.Proofs.Try.func108, lfn108⟩
  · exact ⟨_, Go.Proofs.Try.func109, lfn109⟩
  · exact ⟨_, Go.Proofs.Try.func33, lfn33⟩
  · exact ⟨_, Go.Proofs.Try.func44, lfn44⟩
  · exact ⟨_, Go.Proofs.Try.func46, lfn46⟩
  · exact ⟨_, Go.Proofs.Try.func48, lfn48⟩
  · exact ⟨_, Go.Proofs.Try.func110, lfn110⟩
  · exact ⟨_, Go.Proofs.Try.func112, lfn112⟩
  · exact ⟨_, Go.Proofs.Try.func49, lfn49⟩
  · exact ⟨_, Go.Proofs.Try.func17, lfn17⟩
  · exact ⟨_, Go.Proofs.Try.func19, lfn19⟩
  · exact ⟨_, Go.Proofs.Try.func22, lfn22⟩
  · exact ⟨_, Go.Proofs.Try.func23, lfn23⟩
  · exact ⟨_, Go.Proofs.Try.func9, lfn9⟩)

end Go.E.UsedNodes
