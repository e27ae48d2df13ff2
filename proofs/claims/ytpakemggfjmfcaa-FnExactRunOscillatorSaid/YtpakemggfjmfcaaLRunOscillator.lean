/- The law of RunOscillator: what the evaluator finds. -/
import Derived.Test.YtpakemggfjmfcaaMOs
import Derived.Test.YtpakemggfjmfcaaMC
import Derived.Test.YtpakemggfjmfcaaEE
import Derived.Test.YtpakemggfjmfcaaProg
set_option linter.unusedVariables false
set_option linter.unusedSimpArgs false
namespace Go.E
open Go
def L63 : LFn := ⟨1, (.seq (.reg [⟨(.some 1), (.box 94 (.t 0)), none⟩, ⟨(.some 2), (.alloc 95 [(.int .i64 0), (.flt .f32 0), (.flt .f32 0)]), none⟩])
 (.seq (.reg [⟨(.some 3), (.alloc 95 [(.int .i64 0), (.flt .f32 0), (.flt .f32 0)]), none⟩])
 (.seq (.reg [⟨(.some 4), (.faddr 0 (.t 1)), none⟩, ⟨(.some 5), (.load false 1 (.t 4)), none⟩, ⟨(.some 6), (.faddr 0 (.t 3)), none⟩, ⟨none, (.store 1 (.t 6) (.t 5)), none⟩])
 (.seq (.reg [⟨(.some 7), (.faddr 1 (.t 1)), none⟩, ⟨(.some 8), (.load false 1 (.t 7)), none⟩, ⟨(.some 9), (.faddr 1 (.t 3)), none⟩, ⟨none, (.store 1 (.t 9) (.t 8)), none⟩])
 (.seq (.reg [⟨(.some 10), (.faddr 2 (.t 1)), none⟩, ⟨(.some 11), (.load false 1 (.t 10)), none⟩, ⟨(.some 12), (.faddr 2 (.t 3)), none⟩, ⟨none, (.store 1 (.t 12) (.t 11)), none⟩])
 (.seq (.reg [⟨(.some 13), (.load true 3 (.t 3)), none⟩, ⟨none, (.store 3 (.t 2) (.t 13)), none⟩])
 .ret)))))), [(.cell 2 true 3)]⟩
def L65 : LFn := ⟨2, (.seq (.reg [⟨(.some 2), (.box 95 (.t 0)), none⟩, ⟨(.some 3), (.box 95 (.t 1)), none⟩, ⟨(.some 4), (.mv (.c (.lf (.bool false)))), none⟩])
 (.seq (.seq (.reg [⟨(.some 5), (.faddr 0 (.t 2)), none⟩, ⟨(.some 6), (.load false 1 (.t 5)), none⟩, ⟨(.some 7), (.faddr 0 (.t 3)), none⟩, ⟨(.some 8), (.load false 1 (.t 7)), none⟩, ⟨(.some 9), (.bin .neq (.t 6) (.t 8)), none⟩])
 (.cond (.t 9) (.seq (.reg [⟨(.some 4), (.mv (.c (.lf (.bool false)))), none⟩])
 .ret) .skip))
 (.seq (.seq (.reg [⟨(.some 10), (.faddr 1 (.t 2)), none⟩, ⟨(.some 11), (.load false 1 (.t 10)), none⟩, ⟨(.some 12), (.toflt .f64 (.t 11)), none⟩, ⟨(.some 13), (.faddr 1 (.t 3)), none⟩, ⟨(.some 14), (.load false 1 (.t 13)), none⟩, ⟨(.some 15), (.toflt .f64 (.t 14)), none⟩, ⟨(.some 16), (.call true 91 [(.t 12), (.t 15)]), none⟩, ⟨(.some 17), (.una .not (.t 16)), none⟩])
 (.cond (.t 17) (.seq (.reg [⟨(.some 4), (.mv (.c (.lf (.bool false)))), none⟩])
 .ret) .skip))
 (.seq (.seq (.reg [⟨(.some 18), (.faddr 2 (.t 2)), none⟩, ⟨(.some 19), (.load false 1 (.t 18)), none⟩, ⟨(.some 20), (.toflt .f64 (.t 19)), none⟩, ⟨(.some 21), (.faddr 2 (.t 3)), none⟩, ⟨(.some 22), (.load false 1 (.t 21)), none⟩, ⟨(.some 23), (.toflt .f64 (.t 22)), none⟩, ⟨(.some 24), (.call true 91 [(.t 20), (.t 23)]), none⟩, ⟨(.some 25), (.una .not (.t 24)), none⟩])
 (.cond (.t 25) (.seq (.reg [⟨(.some 4), (.mv (.c (.lf (.bool false)))), none⟩])
 .ret) .skip))
 (.seq (.reg [⟨(.some 4), (.mv (.c (.lf (.bool true)))), none⟩])
 .ret))))), [(.tmp 4)]⟩
def L10 : LFn := ⟨2, (.seq (.reg [⟨(.some 2), (.box 94 (.t 0)), none⟩, ⟨(.some 4), (.mv (.c (.lf (.bool false)))), none⟩])
 (.seq (.reg [⟨(.some 17), (.load true 3 (.t 2)), none⟩, ⟨(.some 18), (.call true 63 [(.t 17)]), none⟩, ⟨(.some 19), (.mv (.t 1)), none⟩, ⟨(.some 20), (.call false 62 [(.t 18), (.t 19)]), none⟩, ⟨(.some 16), (.mv (.t 20)), none⟩, ⟨(.some 21), (.ext (.t 16) 0), none⟩, ⟨(.some 22), (.ext (.t 16) 1), none⟩, ⟨(.some 23), (.ext (.t 16) 2), none⟩, ⟨(.some 6), (.alloc 95 [(.int .i64 0), (.flt .f32 0), (.flt .f32 0)]), none⟩, ⟨(.some 5), (.mv (.t 21)), none⟩, ⟨none, (.store 3 (.t 6) (.t 22)), none⟩, ⟨(.some 7), (.mv (.t 23)), none⟩])
 (.seq (.reg [⟨(.some 25), (.load true 3 (.t 2)), none⟩, ⟨(.some 26), (.call true 63 [(.t 25)]), none⟩, ⟨(.some 27), (.mv (.t 1)), none⟩, ⟨(.some 28), (.call false 64 [(.t 26), (.t 27)]), none⟩, ⟨(.some 24), (.mv (.t 28)), none⟩, ⟨(.some 29), (.ext (.t 24) 0), none⟩, ⟨(.some 30), (.ext (.t 24) 1), none⟩, ⟨(.some 31), (.ext (.t 24) 2), none⟩, ⟨(.some 9), (.alloc 95 [(.int .i64 0), (.flt .f32 0), (.flt .f32 0)]), none⟩, ⟨(.some 8), (.mv (.t 29)), none⟩, ⟨none, (.store 3 (.t 9) (.t 30)), none⟩, ⟨(.some 10), (.mv (.t 31)), none⟩])
 (.seq (.seq (.reg [⟨(.some 32), (.mv (.t 8)), none⟩, ⟨(.some 33), (.mv (.t 5)), none⟩, ⟨(.some 34), (.call true 20 [(.t 32), (.t 33)]), none⟩, ⟨(.some 35), (.una .not (.t 34)), none⟩, ⟨(.some 36), (.mv (.t 35)), none⟩, ⟨(.some 37), (.load true 3 (.t 9)), (.some (36, false))⟩, ⟨(.some 38), (.load true 3 (.t 6)), (.some (36, false))⟩, ⟨(.some 39), (.call true 65 [(.t 37), (.t 38)]), (.some (36, false))⟩, ⟨(.some 40), (.una .not (.t 39)), (.some (36, false))⟩, ⟨(.some 41), (.pick (.t 36) (.c (.lf (.bool true))) (.t 40)), none⟩, ⟨(.some 42), (.mv (.t 41)), none⟩, ⟨(.some 43), (.mv (.t 10)), (.some (42, false))⟩, ⟨(.some 44), (.mv (.t 7)), (.some (42, false))⟩, ⟨(.some 45), (.beq true (.t 43) (.t 44)), (.some (42, false))⟩, ⟨(.some 46), (.pick (.t 42) (.c (.lf (.bool true))) (.t 45)), none⟩])
 (.cond (.t 46) (.seq (.reg [⟨(.some 4), (.mv (.c (.lf (.bool false)))), none⟩])
 .ret) .skip))
 (.seq (.reg [⟨(.some 11), (.mv (.c (.lf (.int .i64 1)))), none⟩])
 (.seq (.reg [⟨(.some 47), (.mv (.t 8)), none⟩, ⟨(.some 48), (.mv (.t 11)), none⟩, ⟨(.some 49), (.call false 22 [(.t 47), (.t 48)]), none⟩, ⟨(.some 11), (.mv (.t 49)), none⟩])
 (.seq (.reg [⟨(.some 12), (.mv (.c (.lf (.int .i64 1)))), none⟩])
 (.seq (.reg [⟨(.some 50), (.mv (.t 8)), none⟩, ⟨(.some 51), (.mv (.t 12)), none⟩, ⟨(.some 52), (.call true 23 [(.t 50), (.t 51)]), none⟩, ⟨(.some 12), (.mv (.t 52)), none⟩])
 (.seq (.seq (.reg [⟨(.some 53), (.mv (.t 12)), none⟩, ⟨(.some 54), (.bin .lss (.t 53) (.c (.lf (.int .i64 0)))), none⟩])
 (.cond (.t 54) (.seq (.reg [⟨(.some 4), (.mv (.c (.lf (.bool false)))), none⟩])
 .ret) .skip))
 (.seq (.seq (.reg [⟨(.some 55), (.mv (.t 12)), none⟩, ⟨(.some 56), (.mv (.t 11)), none⟩, ⟨(.some 57), (.bin .neq (.t 55) (.t 56)), none⟩])
 (.cond (.t 57) (.seq (.reg [⟨(.some 4), (.mv (.c (.lf (.bool false)))), none⟩])
 .ret) .skip))
 (.seq (.reg [⟨(.some 59), (.load true 3 (.t 2)), none⟩, ⟨(.some 60), (.call true 63 [(.t 59)]), none⟩, ⟨(.some 61), (.mv (.t 1)), none⟩, ⟨(.some 62), (.call false 64 [(.t 60), (.t 61)]), none⟩, ⟨(.some 58), (.mv (.t 62)), none⟩, ⟨(.some 63), (.ext (.t 58) 0), none⟩, ⟨(.some 64), (.ext (.t 58) 1), none⟩, ⟨(.some 65), (.ext (.t 58) 2), none⟩, ⟨(.some 14), (.alloc 95 [(.int .i64 0), (.flt .f32 0), (.flt .f32 0)]), none⟩, ⟨(.some 13), (.mv (.t 63)), none⟩, ⟨none, (.store 3 (.t 14) (.t 64)), none⟩, ⟨(.some 15), (.mv (.t 65)), none⟩])
 (.seq (.seq (.reg [⟨(.some 66), (.mv (.t 13)), none⟩, ⟨(.some 67), (.mv (.t 5)), none⟩, ⟨(.some 68), (.call true 20 [(.t 66), (.t 67)]), none⟩, ⟨(.some 69), (.una .not (.t 68)), none⟩, ⟨(.some 70), (.mv (.t 69)), none⟩, ⟨(.some 71), (.load true 3 (.t 14)), (.some (70, false))⟩, ⟨(.some 72), (.load true 3 (.t 6)), (.some (70, false))⟩, ⟨(.some 73), (.call true 65 [(.t 71), (.t 72)]), (.some (70, false))⟩, ⟨(.some 74), (.una .not (.t 73)), (.some (70, false))⟩, ⟨(.some 75), (.pick (.t 70) (.c (.lf (.bool true))) (.t 74)), none⟩, ⟨(.some 76), (.mv (.t 75)), none⟩, ⟨(.some 77), (.mv (.t 15)), (.some (76, false))⟩, ⟨(.some 78), (.mv (.t 7)), (.some (76, false))⟩, ⟨(.some 79), (.beq true (.t 77) (.t 78)), (.some (76, false))⟩, ⟨(.some 80), (.pick (.t 76) (.c (.lf (.bool true))) (.t 79)), none⟩])
 (.cond (.t 80) (.seq (.reg [⟨(.some 4), (.mv (.c (.lf (.bool false)))), none⟩])
 .ret) .skip))
 (.seq (.reg [⟨(.some 12), (.mv (.c (.lf (.int .i64 1)))), none⟩])
 (.seq (.reg [⟨(.some 81), (.mv (.t 8)), none⟩, ⟨(.some 82), (.mv (.t 12)), none⟩, ⟨(.some 83), (.call true 23 [(.t 81), (.t 82)]), none⟩, ⟨(.some 12), (.mv (.t 83)), none⟩])
 (.seq (.seq (.reg [⟨(.some 84), (.mv (.t 12)), none⟩, ⟨(.some 85), (.bin .lss (.t 84) (.c (.lf (.int .i64 0)))), none⟩])
 (.cond (.t 85) (.seq (.reg [⟨(.some 4), (.mv (.c (.lf (.bool false)))), none⟩])
 .ret) .skip))
 (.seq (.seq (.reg [⟨(.some 86), (.mv (.t 12)), none⟩, ⟨(.some 87), (.mv (.t 11)), none⟩, ⟨(.some 88), (.bin .neq (.t 86) (.t 87)), none⟩])
 (.cond (.t 88) (.seq (.reg [⟨(.some 4), (.mv (.c (.lf (.bool false)))), none⟩])
 .ret) .skip))
 (.seq (.reg [⟨(.some 4), (.mv (.c (.lf (.bool true)))), none⟩])
 .ret))))))))))))))))), [(.tmp 4)]⟩
class HasLRunOscillator (S : Sys) : Prop extends HasOs S, HasSame S, HasF S where
  f63 : S.fs 63 = some L63
  f65 : S.fs 65 = some L65
  f10 : S.fs 10 = some L10
section
variable {S : Sys} {lim : Nat} {h : Hp} {K : CV → Hp → Prop} [HasLRunOscillator S]
@[simp] theorem c_toOscillator {x : Int} {y z : Nat} : CallT S true 63 [.agg [.int .i64 x, .flt .f32 y, .flt .f32 z]] h lim K = K (.agg [.int .i64 x, .flt .f32 y, .flt .f32 z]) h := by
  refine CallT_pure (F := L63) (HasLRunOscillator.f63) rfl (by first | rfl | (split <;> rfl) | simp) ?_; unfold L63; dsimp only []
  repeat' (first | (simp (disch := first | omega | assumption | (simp only [List.length_set]; omega) | (simp [*] <;> fail) | assumption) [-Bool.decide_and, -Bool.decide_or, -Bool.not_and, -Bool.not_or, toNat_pred, toNat_succ, wrap64, wr_new, wr_new0, ok_if, ok_ifn, iadV_sl, makeV_int, decT, decF, over_at, *]) | (with_reducible refine Gd_split (fun hc => ?_) (fun hc => ?_) <;> (have hc2 := hc; try simp at hc2)) | (with_reducible refine Br_split (fun hc => ?_) (fun hc => ?_) <;> (have hc2 := hc; try simp at hc2)) | (with_reducible refine GdT_split (fun hc => ?_) (fun hc => ?_) <;> (have hc2 := hc; try simp at hc2)) | (with_reducible refine WT_alt ?_ ?_) | omega)
@[simp] theorem c_eqOscillator {x : Int} {y z : Nat} : CallT S true 65 [.agg [.int .i64 x, .flt .f32 y, .flt .f32 z], .agg [.int .i64 x, .flt .f32 y, .flt .f32 z]] h lim K = K (.lf (.bool true)) h := by
  refine CallT_pure (F := L65) (HasLRunOscillator.f65) rfl (by first | rfl | (split <;> rfl) | simp) ?_; unfold L65; dsimp only []
  repeat' (first | (simp (disch := first | omega | assumption | (simp only [List.length_set]; omega) | (simp [*] <;> fail) | assumption) [-Bool.decide_and, -Bool.decide_or, -Bool.not_and, -Bool.not_or, toNat_pred, toNat_succ, wrap64, wr_new, wr_new0, ok_if, ok_ifn, iadV_sl, makeV_int, decT, decF, over_at, *]) | (with_reducible refine Gd_split (fun hc => ?_) (fun hc => ?_) <;> (have hc2 := hc; try simp at hc2)) | (with_reducible refine Br_split (fun hc => ?_) (fun hc => ?_) <;> (have hc2 := hc; try simp at hc2)) | (with_reducible refine GdT_split (fun hc => ?_) (fun hc => ?_) <;> (have hc2 := hc; try simp at hc2)) | (with_reducible refine WT_alt ?_ ?_) | omega)
end
def oscSh : Sh := .cat 1 (.int .i64) (.cat 1 (.flt .f32) (.cat 1 (.flt .f32) .emp))
theorem osc_of {h : Hp} {r : List Lf} (t : Ty h oscSh r) : ∃ (k : Int) (s p : Nat), r = [.int .i64 k, .flt .f32 s, .flt .f32 p] ∧ CF p := by
  obtain ⟨_, _, rfl, _, ⟨x, rfl, _⟩, _, _, rfl, _, ⟨y, rfl, _⟩, _, _, rfl, _, ⟨z, rfl, z1, z2⟩, rfl⟩ := t
  exact ⟨x, y, z, rfl, z1, z2⟩
set_option maxHeartbeats 2000000 in
theorem lawRunOscillator {S : Sys} [HasLRunOscillator S] : LawHolds S 10 [(true, oscSh), (false, .int .i64)] := by
  intro h cs hcs
  obtain ⟨c0, _, rfl, ⟨ls0, rfl, t0⟩, c1, _, rfl, ⟨ls1, rfl, n, rfl, _⟩, rfl⟩ := hcs
  obtain ⟨k, s, p, rfl, hp⟩ := osc_of t0
  clear t0
  have cs : ∀ {g K}, h.length ≤ g.length → (∀ o g', New g g' o 22 1 ((oscR k s p n).map fl) → K (.tup [.lf o, .agg (oscF k s p n), .lf (.bool (decide (oscOk k s p n)))]) g') → CallT S false 62 [.agg [.int .i64 k, .flt .f32 s, .flt .f32 p], .lf (.int .i64 n)] g h.length K := fun hl hK => c_specRunOscillator hp hl hK
  have ci : ∀ {g K}, h.length ≤ g.length → (∀ o g', New g g' o 22 1 ((oscR k s p n).map fl) → K (.tup [.lf o, .agg (oscF k s p n), .lf (.bool (decide (oscOk k s p n)))]) g') → CallT S false 64 [.agg [.int .i64 k, .flt .f32 s, .flt .f32 p], .lf (.int .i64 n)] g h.length K := fun hl hK => c_implRunOscillator hp hl hK
  have hy := oscR_len (k := k) (s := s) (p := p) (n := n)
  obtain ⟨a, b, c, hF⟩ : ∃ a b c, oscF k s p n = [.int .i64 a, .flt .f32 b, .flt .f32 c] := by
    unfold oscF; split
    · exact ⟨_, _, _, rfl⟩
    · exact ⟨_, _, _, rfl⟩
  rw [hF] at cs ci
  clear hF
  generalize oscR k s p n = y at *
  generalize decide (oscOk k s p n) = ok at *
  refine law_of (F := L10) HasLRunOscillator.f10 rfl ?_
  unfold L10
  dsimp only []
  repeat' (first | (simp (disch := first | omega | assumption | (simp only [List.length_set]; omega) | (simp [*] <;> fail) | assumption) [-Bool.decide_and, -Bool.decide_or, -Bool.not_and, -Bool.not_or, toNat_pred, toNat_succ, wrap64, wr_new, wr_new0, ok_if, ok_ifn, iadV_sl, makeV_int, decT, decF, over_at, *, leavesAll, fillL]) | (with_reducible refine Gd_split (fun hc => ?_) (fun hc => ?_) <;> (have hc2 := hc; try simp at hc2)) | (with_reducible refine Br_split (fun hc => ?_) (fun hc => ?_) <;> (have hc2 := hc; try simp at hc2)) | (with_reducible refine GdT_split (fun hc => ?_) (fun hc => ?_) <;> (have hc2 := hc; try simp at hc2)) | (with_reducible refine WT_alt ?_ ?_) | omega)
  refine cs (by simp) fun s1 g1 hS => ?_
  obtain ⟨t1, rfl⟩ := hS.kept.split
  simp only [List.append_assoc, List.cons_append, List.nil_append] at hS ⊢
  repeat' (first | (simp (disch := first | omega | assumption | (simp only [List.length_set]; omega) | (simp [*] <;> fail) | assumption) [-Bool.decide_and, -Bool.decide_or, -Bool.not_and, -Bool.not_or, toNat_pred, toNat_succ, wrap64, wr_new, wr_new0, ok_if, ok_ifn, iadV_sl, makeV_int, decT, decF, over_at, *, leavesAll, fillL]) | (with_reducible refine Gd_split (fun hc => ?_) (fun hc => ?_) <;> (have hc2 := hc; try simp at hc2)) | (with_reducible refine Br_split (fun hc => ?_) (fun hc => ?_) <;> (have hc2 := hc; try simp at hc2)) | (with_reducible refine GdT_split (fun hc => ?_) (fun hc => ?_) <;> (have hc2 := hc; try simp at hc2)) | (with_reducible refine WT_alt ?_ ?_) | omega)
  refine ci (by simp) fun r1 g2 hR => ?_
  obtain ⟨t2, rfl⟩ := hR.kept.split
  have hRA := fun t => hR.arr.app (t := t)
  have hSA := fun t => hS.arr.app (t := t)
  simp only [List.append_assoc, List.cons_append, List.nil_append] at hR hRA hSA ⊢
  have he := fun t K lim => c_eqFloat32S (S := S) (K := K) (lim := lim) (hRA t) (hSA (⟨[.int .i64 a, .flt .f32 b, .flt .f32 c], .own 95 1⟩ :: (t2 ++ t)))
  have hb2 := hR.later (Kept.app _ [⟨[.int .i64 a, .flt .f32 b, .flt .f32 c], .own 95 1⟩])
  simp only [List.append_assoc, List.cons_append, List.nil_append] at hb2
  clear hRA
  repeat' (first | (simp (disch := first | omega | assumption | (simp only [List.length_set]; omega) | (simp [*] <;> fail) | assumption) [-Bool.decide_and, -Bool.decide_or, -Bool.not_and, -Bool.not_or, toNat_pred, toNat_succ, wrap64, wr_new, wr_new0, ok_if, ok_ifn, iadV_sl, makeV_int, decT, decF, over_at, *, leavesAll, fillL]) | (with_reducible refine Gd_split (fun hc => ?_) (fun hc => ?_) <;> (have hc2 := hc; try simp at hc2)) | (with_reducible refine Br_split (fun hc => ?_) (fun hc => ?_) <;> (have hc2 := hc; try simp at hc2)) | (with_reducible refine GdT_split (fun hc => ?_) (fun hc => ?_) <;> (have hc2 := hc; try simp at hc2)) | (with_reducible refine WT_alt ?_ ?_) | omega)
  refine c_markFloat32S hb2 (by simp; omega) (by omega) (by omega) (by simp) fun g3 hM hB => ?_
  obtain ⟨t3, rfl⟩ := hM.kept.split
  simp only [List.length_map] at hM
  have hMA := fun t => hM.arr.app (t := t)
  simp only [List.append_assoc, List.cons_append, List.nil_append] at hM hMA ⊢
  have hh0 := fun K lim => c_heldFloat32S (S := S) (K := K) (lim := lim) hM.arr (by omega) (by omega) (by omega)
  clear he hb2
  repeat' (first | (simp (disch := first | omega | assumption | (simp only [List.length_set]; omega) | (simp [*] <;> fail) | assumption) [-Bool.decide_and, -Bool.decide_or, -Bool.not_and, -Bool.not_or, toNat_pred, toNat_succ, wrap64, wr_new, wr_new0, ok_if, ok_ifn, iadV_sl, makeV_int, decT, decF, over_at, *]) | (with_reducible refine Gd_split (fun hc => ?_) (fun hc => ?_) <;> (have hc2 := hc; try simp at hc2)) | (with_reducible refine Br_split (fun hc => ?_) (fun hc => ?_) <;> (have hc2 := hc; try simp at hc2)) | (with_reducible refine GdT_split (fun hc => ?_) (fun hc => ?_) <;> (have hc2 := hc; try simp at hc2)) | (with_reducible refine WT_alt ?_ ?_) | omega)
  refine ci (by simp) fun u1 g4 hU => ?_
  obtain ⟨t4, rfl⟩ := hU.kept.split
  have hUA := fun t => hU.arr.app (t := t)
  simp only [List.append_assoc, List.cons_append, List.nil_append] at hU hUA ⊢
  have he := fun t K lim => c_eqFloat32S (S := S) (K := K) (lim := lim) (hUA t) (hSA (⟨[.int .i64 a, .flt .f32 b, .flt .f32 c], .own 95 1⟩ :: (t3 ++ (t4 ++ t))))
  have hh1 := fun t K lim => c_heldFloat32S (S := S) (K := K) (lim := lim) (hMA (t4 ++ t)) (by omega) (by omega) (by omega)
  clear hh0 hMA hUA
  repeat' (first | (simp (disch := first | omega | assumption | (simp only [List.length_set]; omega) | (simp [*] <;> fail) | assumption) [-Bool.decide_and, -Bool.decide_or, -Bool.not_and, -Bool.not_or, toNat_pred, toNat_succ, wrap64, wr_new, wr_new0, ok_if, ok_ifn, iadV_sl, makeV_int, decT, decF, over_at, *, leavesAll, fillL]) | (with_reducible refine Gd_split (fun hc => ?_) (fun hc => ?_) <;> (have hc2 := hc; try simp at hc2)) | (with_reducible refine Br_split (fun hc => ?_) (fun hc => ?_) <;> (have hc2 := hc; try simp at hc2)) | (with_reducible refine GdT_split (fun hc => ?_) (fun hc => ?_) <;> (have hc2 := hc; try simp at hc2)) | (with_reducible refine WT_alt ?_ ?_) | omega)
end Go.E
namespace Go.E.RunOscillator
open Go Go.E
def pure : FuncId → Bool := fun f => List.elem f [3, 4, 5, 6, 7, 8, 9, 10, 11, 12, 13, 14, 16, 17, 20, 21, 23, 26, 30, 31, 34, 35, 36, 37, 38, 39, 41, 42, 43, 44, 47, 48, 49, 53, 54, 58, 61, 63, 65, 68, 69, 71, 72, 73, 78, 79, 82, 85, 86, 88, 89, 91, 92, 93, 94, 95, 96, 97, 98, 99, 100, 101, 104, 106, 109, 110, 111, 112, 113, 115, 116, 117, 118, 120, 122, 123, 126, 128, 129, 130, 132, 133, 134, 135, 136, 137, 143, 144, 146, 147, 149, 150, 151, 152, 153, 154, 155, 156, 157, 160, 161, 162, 164, 165, 166, 168, 169, 170, 171, 172, 173, 174, 176, 177, 178, 179, 180, 181, 182, 183, 184, 185, 186, 187, 188, 189, 190, 191, 192, 195, 198, 200, 201, 202, 203, 204, 205, 206, 207, 208, 209, 210, 211, 212, 213, 215, 216, 217, 218, 219, 220, 222, 223, 224, 225, 227, 229, 231, 238, 240, 241]
def funs : List (Nat × LFn) := [(93, L93), (130, L130), (150, L150), (189, L189), (190, L190), (192, L192), (211, L211), (96, L96), (171, L171), (187, L187), (188, L188), (191, L191), (206, L206), (209, L209), (210, L210), (217, L217), (219, L219), (113, L113), (135, L135), (169, L169), (170, L170), (172, L172), (173, L173), (174, L174), (62, L62), (64, L64), (97, L97), (133, L133), (134, L134), (136, L136), (137, L137), (138, L138), (91, L91), (18, L18), (20, L20), (22, L22), (23, L23), (10, L10), (63, L63), (65, L65)]
def Sy : Sys := sysOf funs
theorem lfn93 : lFn Go.Proofs.Try.prog pure Go.Proofs.Try.f93 = some L93 := by kernel_rfl
theorem lfn130 : lFn Go.Proofs.Try.prog pure Go.Proofs.Try.f130 = some L130 := by kernel_rfl
theorem lfn150 : lFn Go.Proofs.Try.prog pure Go.Proofs.Try.f150 = some L150 := by kernel_rfl
theorem lfn189 : lFn Go.Proofs.Try.prog pure Go.Proofs.Try.f189 = some L189 := by kernel_rfl
theorem lfn190 : lFn Go.Proofs.Try.prog pure Go.Proofs.Try.f190 = some L190 := by kernel_rfl
theorem lfn192 : lFn Go.Proofs.Try.prog pure Go.Proofs.Try.f192 = some L192 := by kernel_rfl
theorem lfn211 : lFn Go.Proofs.Try.prog pure Go.Proofs.Try.f211 = some L211 := by kernel_rfl
theorem lfn96 : lFn Go.Proofs.Try.prog pure Go.Proofs.Try.f96 = some L96 := by kernel_rfl
theorem lfn171 : lFn Go.Proofs.Try.prog pure Go.Proofs.Try.f171 = some L171 := by kernel_rfl
theorem lfn187 : lFn Go.Proofs.Try.prog pure Go.Proofs.Try.f187 = some L187 := by kernel_rfl
theorem lfn188 : lFn Go.Proofs.Try.prog pure Go.Proofs.Try.f188 = some L188 := by kernel_rfl
theorem lfn191 : lFn Go.Proofs.Try.prog pure Go.Proofs.Try.f191 = some L191 := by kernel_rfl
theorem lfn206 : lFn Go.Proofs.Try.prog pure Go.Proofs.Try.f206 = some L206 := by kernel_rfl
theorem lfn209 : lFn Go.Proofs.Try.prog pure Go.Proofs.Try.f209 = some L209 := by kernel_rfl
theorem lfn210 : lFn Go.Proofs.Try.prog pure Go.Proofs.Try.f210 = some L210 := by kernel_rfl
theorem lfn217 : lFn Go.Proofs.Try.prog pure Go.Proofs.Try.f217 = some L217 := by kernel_rfl
theorem lfn219 : lFn Go.Proofs.Try.prog pure Go.Proofs.Try.f219 = some L219 := by kernel_rfl
theorem lfn113 : lFn Go.Proofs.Try.prog pure Go.Proofs.Try.f113 = some L113 := by kernel_rfl
theorem lfn135 : lFn Go.Proofs.Try.prog pure Go.Proofs.Try.f135 = some L135 := by kernel_rfl
theorem lfn169 : lFn Go.Proofs.Try.prog pure Go.Proofs.Try.f169 = some L169 := by kernel_rfl
theorem lfn170 : lFn Go.Proofs.Try.prog pure Go.Proofs.Try.f170 = some L170 := by kernel_rfl
theorem lfn172 : lFn Go.Proofs.Try.prog pure Go.Proofs.Try.f172 = some L172 := by kernel_rfl
theorem lfn173 : lFn Go.Proofs.Try.prog pure Go.Proofs.Try.f173 = some L173 := by kernel_rfl
theorem lfn174 : lFn Go.Proofs.Try.prog pure Go.Proofs.Try.f174 = some L174 := by kernel_rfl
theorem lfn62 : lFn Go.Proofs.Try.prog pure Go.Proofs.Try.f62 = some L62 := by kernel_rfl
theorem lfn64 : lFn Go.Proofs.Try.prog pure Go.Proofs.Try.f64 = some L64 := by kernel_rfl
theorem lfn97 : lFn Go.Proofs.Try.prog pure Go.Proofs.Try.f97 = some L97 := by kernel_rfl
theorem lfn133 : lFn Go.Proofs.Try.prog pure Go.Proofs.Try.f133 = some L133 := by kernel_rfl
theorem lfn134 : lFn Go.Proofs.Try.prog pure Go.Proofs.Try.f134 = some L134 := by kernel_rfl
theorem lfn136 : lFn Go.Proofs.Try.prog pure Go.Proofs.Try.f136 = some L136 := by kernel_rfl
theorem lfn137 : lFn Go.Proofs.Try.prog pure Go.Proofs.Try.f137 = some L137 := by kernel_rfl
theorem lfn138 : lFn Go.Proofs.Try.prog pure Go.Proofs.Try.f138 = some L138 := by kernel_rfl
theorem lfn91 : lFn Go.Proofs.Try.prog pure Go.Proofs.Try.f91 = some L91 := by kernel_rfl
theorem lfn18 : lFn Go.Proofs.Try.prog pure Go.Proofs.Try.f18 = some L18 := by kernel_rfl
theorem lfn20 : lFn Go.Proofs.Try.prog pure Go.Proofs.Try.f20 = some L20 := by kernel_rfl
theorem lfn22 : lFn Go.Proofs.Try.prog pure Go.Proofs.Try.f22 = some L22 := by kernel_rfl
theorem lfn23 : lFn Go.Proofs.Try.prog pure Go.Proofs.Try.f23 = some L23 := by kernel_rfl
theorem lfn10 : lFn Go.Proofs.Try.prog pure Go.Proofs.Try.f10 = some L10 := by kernel_rfl
theorem lfn63 : lFn Go.Proofs.Try.prog pure Go.Proofs.Try.f63 = some L63 := by kernel_rfl
theorem lfn65 : lFn Go.Proofs.Try.prog pure Go.Proofs.Try.f65 = some L65 := by kernel_rfl
instance : HasA Sy := { f93 := rfl, f130 := rfl, f150 := rfl }
instance : HasFb Sy := { f189 := rfl, f190 := rfl }
instance : HasFa Sy := { f192 := rfl, f211 := rfl }
instance : HasSi Sy := { f96 := rfl, f171 := rfl, f187 := rfl, f188 := rfl, f191 := rfl, f206 := rfl, f209 := rfl, f210 := rfl, f217 := rfl, f219 := rfl }
instance : HasWv Sy := { f113 := rfl, f135 := rfl, f169 := rfl, f170 := rfl, f172 := rfl, f173 := rfl, f174 := rfl }
instance : HasOs Sy := { f62 := rfl, f64 := rfl, f97 := rfl, f133 := rfl, f134 := rfl, f136 := rfl, f137 := rfl, f138 := rfl }
instance : HasSame Sy := { f91 := rfl }
instance : HasF Sy := { f18 := rfl, f20 := rfl, f22 := rfl, f23 := rfl }
instance : HasLRunOscillator Sy := { f10 := rfl, f63 := rfl, f65 := rfl }
theorem sysOK {B : Nat} {w0 : World} : SysOK Go.Proofs.Try.prog pure Sy B w0 := SysOK.of (by
  intro p hp
  simp only [funs, List.mem_cons, List.not_mem_nil, or_false] at hp
  rcases hp with rfl | rfl | rfl | rfl | rfl | rfl | rfl | rfl | rfl | rfl | rfl | rfl | rfl | rfl | rfl | rfl | rfl | rfl | rfl | rfl | rfl | rfl | rfl | rfl | rfl | rfl | rfl | rfl | rfl | rfl | rfl | rfl | rfl | rfl | rfl | rfl | rfl | rfl | rfl | rfl
  · exact ⟨_, Go.Proofs.Try.func93, lfn93⟩
  · exact ⟨_, Go.Proofs.Try.func130, lfn130⟩
  · exact ⟨_, Go.Proofs.Try.func150, lfn150⟩
  · exact ⟨_, Go.Proofs.Try.func189, lfn189⟩
  · exact ⟨_, Go.Proofs.Try.func190, lfn190⟩
  · exact ⟨_, Go.Proofs.Try.func192, lfn192⟩
  · exact ⟨_, Go.Proofs.Try.func211, lfn211⟩
  · exact ⟨_, Go.Proofs.Try.func96, lfn96⟩
  · exact ⟨_, Go.Proofs.Try.func171, lfn171⟩
  · exact ⟨_, Go.Proofs.Try.func187, lfn187⟩
  · exact ⟨_, Go.Proofs.Try.func188, lfn188⟩
  · exact ⟨_, Go.Proofs.Try.func191, lfn191⟩
  · exact ⟨_, Go.Proofs.Try.func206, lfn206⟩
  · exact ⟨_, Go.Proofs.Try.func209, lfn209⟩
  · exact ⟨_, Go.Proofs.Try.func210, lfn210⟩
  · exact ⟨_, Go.Proofs.Try.func217, lfn217⟩
  · exact ⟨_, Go.Proofs.Try.func219, lfn219⟩
  · exact ⟨_, Go.Proofs.Try.func113, lfn113⟩
  · exact ⟨_, Go.Proofs.Try.func135, lfn135⟩
  · exact ⟨_, Go.Proofs.Try.func169, lfn169⟩
  · exact ⟨_, Go.Proofs.Try.func170, lfn170⟩
  · exact ⟨_, Go.Proofs.Try.func172, lfn172⟩
  · exact ⟨_, Go.Proofs.Try.func173, lfn173⟩
  · exact ⟨_, Go.Proofs.Try.func174, lfn174⟩
  · exact ⟨_, Go.Proofs.Try.func62, lfn62⟩
  · exact ⟨_, Go.Proofs.Try.func64, lfn64⟩
  · exact ⟨_, Go.Proofs.Try.func97, lfn97⟩
  · exact ⟨_, Go.Proofs.Try.func133, lfn133⟩
  · exact ⟨_, Go.Proofs.Try.func134, lfn134⟩
  · exact ⟨_, Go.Proofs.Try.func136, lfn136⟩
  · exact ⟨_, Go.Proofs.Try.func137, lfn137⟩
  · exact ⟨_, Go.Proofs.Try.func138, lfn138⟩
  · exact ⟨_, Go.Proofs.Try.func91, lfn91⟩
  · exact ⟨_, Go.Proofs.Try.func18, lfn18⟩
  · exact ⟨_, Go.Proofs.Try.func20, lfn20⟩
  · exact ⟨_, Go.Proofs.Try.func22, lfn22⟩
  · exact ⟨_, Go.Proofs.Try.func23, lfn23⟩
  · exact ⟨_, Go.Proofs.Try.func10, lfn10⟩
  · exact ⟨_, Go.Proofs.Try.func63, lfn63⟩
  · exact ⟨_, Go.Proofs.Try.func65, lfn65⟩)

end Go.E.RunOscillator
