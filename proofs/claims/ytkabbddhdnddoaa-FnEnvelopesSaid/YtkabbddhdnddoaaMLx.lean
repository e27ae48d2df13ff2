/- What the law of envelopes calls, beside notes. -/
import Derived.Test.YtkabbddhdnddoaaMLw
import Derived.Test.YtkabbddhdnddoaaMDb
import Derived.Test.YtkabbddhdnddoaaMKw
set_option linter.unusedVariables false
set_option linter.unusedSimpArgs false
namespace Go.E
open Go
def L7 : LFn := ⟨1, (.seq (.reg [⟨(.some 2), (.alloc 26 [(.int .i64 0), (.int .i64 0), (.flt .f32 0), (.int .i64 0)]), none⟩])
 (.seq (.reg [⟨(.some 5), (.mv (.t 0)), none⟩, ⟨(.some 6), (.call false 24 [(.t 5)]), none⟩, ⟨(.some 3), (.mv (.t 6)), none⟩])
 (.seq (.reg [⟨(.some 7), (.mv (.t 3)), none⟩, ⟨(.some 8), (.call false 25 [(.t 7), (.c (.lf (.int .i64 8)))]), none⟩, ⟨(.some 9), (.build [(.int .i64 0), (.int .i64 0), (.flt .f32 0), (.int .i64 0)] [(0, (1, (.t 8)))]), none⟩, ⟨(.some 4), (.alloc 26 [(.int .i64 0), (.int .i64 0), (.flt .f32 0), (.int .i64 0)]), none⟩, ⟨none, (.store 4 (.t 4) (.t 9)), none⟩])
 (.seq (.reg [⟨(.some 10), (.mv (.t 3)), none⟩, ⟨(.some 11), (.call false 25 [(.t 10), (.c (.lf (.int .i64 8)))]), none⟩, ⟨(.some 12), (.faddr 1 (.t 4)), none⟩, ⟨none, (.store 1 (.t 12) (.t 11)), none⟩])
 (.seq (.reg [⟨(.some 13), (.mv (.t 3)), none⟩, ⟨(.some 14), (.call false 25 [(.t 13), (.c (.lf (.int .i64 17)))]), none⟩, ⟨(.some 15), (.toflt .f32 (.t 14)), none⟩, ⟨(.some 16), (.bin .quo (.t 15) (.c (.lf (.flt .f32 1098907648)))), none⟩, ⟨(.some 17), (.faddr 2 (.t 4)), none⟩, ⟨none, (.store 1 (.t 17) (.t 16)), none⟩])
 (.seq (.reg [⟨(.some 18), (.mv (.t 3)), none⟩, ⟨(.some 19), (.call false 25 [(.t 18), (.c (.lf (.int .i64 10)))]), none⟩, ⟨(.some 20), (.faddr 3 (.t 4)), none⟩, ⟨none, (.store 1 (.t 20) (.t 19)), none⟩])
 (.seq (.reg [⟨(.some 21), (.load true 4 (.t 4)), none⟩, ⟨none, (.store 4 (.t 2) (.t 21)), none⟩])
 .ret))))))), [(.cell 2 true 4)]⟩
def L22 : LFn := ⟨3, (.seq (.reg [⟨(.some 3), (.box 26 (.t 0)), none⟩, ⟨(.some 6), (.mv (.c (.lf (.flt .f32 0)))), none⟩, ⟨(.some 7), (.mv (.c (.lf (.bool false)))), none⟩])
 (.seq (.seq (.reg [⟨(.some 8), (.load true 4 (.t 3)), none⟩, ⟨(.some 9), (.call true 23 [(.t 8)]), none⟩, ⟨(.some 10), (.una .not (.t 9)), none⟩, ⟨(.some 11), (.mv (.t 10)), none⟩, ⟨(.some 12), (.mv (.t 1)), (.some (11, false))⟩, ⟨(.some 13), (.mv (.t 2)), (.some (11, false))⟩, ⟨(.some 14), (.lit 2 1 2 [(.int .i64 0), (.int .i64 0)] [(0, (1, (.t 12))), (1, (1, (.t 13)))]), (.some (11, false))⟩, ⟨(.some 15), (.call true 41 [(.t 14), (.c (.lf (.int .i64 0))), (.c (.lf (.int .i64 4000)))]), (.some (11, false))⟩, ⟨(.some 16), (.una .not (.t 15)), (.some (11, false))⟩, ⟨(.some 17), (.pick (.t 11) (.c (.lf (.bool true))) (.t 16)), none⟩])
 (.cond (.t 17) (.seq (.reg [⟨(.some 6), (.mv (.c (.lf (.flt .f32 0)))), none⟩, ⟨(.some 7), (.mv (.c (.lf (.bool false)))), none⟩])
 .ret) .skip))
 (.seq (.reg [⟨(.some 18), (.load true 4 (.t 3)), none⟩, ⟨(.some 19), (.mv (.t 1)), none⟩, ⟨(.some 20), (.mv (.t 2)), none⟩, ⟨(.some 21), (.call true 42 [(.t 18), (.t 19), (.t 20)]), none⟩, ⟨(.some 6), (.mv (.t 21)), none⟩, ⟨(.some 7), (.mv (.c (.lf (.bool true)))), none⟩])
 .ret))), [(.tmp 6), (.tmp 7)]⟩
class HasLx (S : Sys) : Prop extends HasDr S, HasLv S, HasW S where
  f7 : S.fs 7 = some L7
  f22 : S.fs 22 = some L22
section
variable {S : Sys} {lim : Nat} {h : Hp} {K : CV → Hp → Prop} [HasLx S] {l : Lf} {cs : List Int}
set_option maxHeartbeats 2000000 in
theorem c_B10EnvelopeN (hA : Arr h l 1 (cs.map ul)) (hc : ∀ c ∈ cs, 0 ≤ c ∧ c < 256) (hl : lim ≤ h.length)
    (hK : ∀ a d v r : Nat, a < 8 → d < 8 → v < 17 → r < 10 → ∀ t, K (.agg [.int .i64 a, .int .i64 d, .flt .f32 (susN v), .int .i64 r]) (h ++ t)) : CallT S false 7 [.lf l] h lim K := by
  have hb := hA.bound
  refine CallT_of_body (F := L7) (HasLx.f7) rfl ?_; unfold L7; dsimp only []
  repeat' (first | (simp (disch := first | omega | assumption | (simp only [List.length_set]; omega) | (simp [*] <;> fail) | assumption) [-Bool.decide_and, -Bool.decide_or, -Bool.not_and, -Bool.not_or, toNat_pred, toNat_succ, wrap64, wr_new, wr_new0, ok_if, ok_ifn, iadV_sl, makeV_int, decT, decF, over_at, *]) | (with_reducible refine Gd_split (fun hc => ?_) (fun hc => ?_) <;> (have hc2 := hc; try simp at hc2)) | (with_reducible refine Br_split (fun hc => ?_) (fun hc => ?_) <;> (have hc2 := hc; try simp at hc2)) | (with_reducible refine GdT_split (fun hc => ?_) (fun hc => ?_) <;> (have hc2 := hc; try simp at hc2)) | (with_reducible refine WT_alt ?_ ?_) | omega)
  refine c_From ?_
  repeat' (first | (simp (disch := first | omega | assumption | (simp only [List.length_set]; omega) | (simp [*] <;> fail) | assumption) [-Bool.decide_and, -Bool.decide_or, -Bool.not_and, -Bool.not_or, toNat_pred, toNat_succ, wrap64, wr_new, wr_new0, ok_if, ok_ifn, iadV_sl, makeV_int, decT, decF, over_at, *]) | (with_reducible refine Gd_split (fun hc => ?_) (fun hc => ?_) <;> (have hc2 := hc; try simp at hc2)) | (with_reducible refine Br_split (fun hc => ?_) (fun hc => ?_) <;> (have hc2 := hc; try simp at hc2)) | (with_reducible refine GdT_split (fun hc => ?_) (fun hc => ?_) <;> (have hc2 := hc; try simp at hc2)) | (with_reducible refine WT_alt ?_ ?_) | omega)
  refine c_pick1 hA hc (by omega) (by omega) hl fun v1 sd1 a1 a2 => ?_
  obtain ⟨w1, rfl⟩ := Int.eq_ofNat_of_zero_le a1
  repeat' (first | (simp (disch := first | omega | assumption | (simp only [List.length_set]; omega) | (simp [*] <;> fail) | assumption) [-Bool.decide_and, -Bool.decide_or, -Bool.not_and, -Bool.not_or, toNat_pred, toNat_succ, wrap64, wr_new, wr_new0, ok_if, ok_ifn, iadV_sl, makeV_int, decT, decF, over_at, *, leavesAll, fillL]) | (with_reducible refine Gd_split (fun hc => ?_) (fun hc => ?_) <;> (have hc2 := hc; try simp at hc2)) | (with_reducible refine Br_split (fun hc => ?_) (fun hc => ?_) <;> (have hc2 := hc; try simp at hc2)) | (with_reducible refine GdT_split (fun hc => ?_) (fun hc => ?_) <;> (have hc2 := hc; try simp at hc2)) | (with_reducible refine WT_alt ?_ ?_) | omega)
  refine c_pick1 hA hc (by omega) (by omega) hl fun v2 sd2 b1 b2 => ?_
  obtain ⟨w2, rfl⟩ := Int.eq_ofNat_of_zero_le b1
  repeat' (first | (simp (disch := first | omega | assumption | (simp only [List.length_set]; omega) | (simp [*] <;> fail) | assumption) [-Bool.decide_and, -Bool.decide_or, -Bool.not_and, -Bool.not_or, toNat_pred, toNat_succ, wrap64, wr_new, wr_new0, ok_if, ok_ifn, iadV_sl, makeV_int, decT, decF, over_at, *]) | (with_reducible refine Gd_split (fun hc => ?_) (fun hc => ?_) <;> (have hc2 := hc; try simp at hc2)) | (with_reducible refine Br_split (fun hc => ?_) (fun hc => ?_) <;> (have hc2 := hc; try simp at hc2)) | (with_reducible refine GdT_split (fun hc => ?_) (fun hc => ?_) <;> (have hc2 := hc; try simp at hc2)) | (with_reducible refine WT_alt ?_ ?_) | omega)
  refine c_pick1 hA hc (by omega) (by omega) hl fun v3 sd3 c1 c2 => ?_
  obtain ⟨w3, rfl⟩ := Int.eq_ofNat_of_zero_le c1
  repeat' (first | (simp (disch := first | omega | assumption | (simp only [List.length_set]; omega) | (simp [*] <;> fail) | assumption) [-Bool.decide_and, -Bool.decide_or, -Bool.not_and, -Bool.not_or, toNat_pred, toNat_succ, wrap64, wr_new, wr_new0, ok_if, ok_ifn, iadV_sl, makeV_int, decT, decF, over_at, *]) | (with_reducible refine Gd_split (fun hc => ?_) (fun hc => ?_) <;> (have hc2 := hc; try simp at hc2)) | (with_reducible refine Br_split (fun hc => ?_) (fun hc => ?_) <;> (have hc2 := hc; try simp at hc2)) | (with_reducible refine GdT_split (fun hc => ?_) (fun hc => ?_) <;> (have hc2 := hc; try simp at hc2)) | (with_reducible refine WT_alt ?_ ?_) | omega)
  refine c_pick1 hA hc (by omega) (by omega) hl fun v4 sd4 d1 d2 => ?_
  obtain ⟨w4, rfl⟩ := Int.eq_ofNat_of_zero_le d1
  have hk2 := hK w1 w2 w3 w4 (by omega) (by omega) (by omega) (by omega)
  simp only [susN] at hk2
  clear hK
  repeat' (first | (simp (disch := first | omega | assumption | (simp only [List.length_set]; omega) | (simp [*] <;> fail) | assumption) [-Bool.decide_and, -Bool.decide_or, -Bool.not_and, -Bool.not_or, toNat_pred, toNat_succ, wrap64, wr_new, wr_new0, ok_if, ok_ifn, iadV_sl, makeV_int, decT, decF, over_at, *]) | (with_reducible refine Gd_split (fun hc => ?_) (fun hc => ?_) <;> (have hc2 := hc; try simp at hc2)) | (with_reducible refine Br_split (fun hc => ?_) (fun hc => ?_) <;> (have hc2 := hc; try simp at hc2)) | (with_reducible refine GdT_split (fun hc => ?_) (fun hc => ?_) <;> (have hc2 := hc; try simp at hc2)) | (with_reducible refine WT_alt ?_ ?_) | omega)
theorem c_LevelAt {a d r u n : Int} {s : Nat} (he : held3 a d r = true) (hu : 0 ≤ u ∧ u ≤ 4000) (hn : 0 ≤ n ∧ n ≤ 4000) : CallT S true 22 [.agg [.int .i64 a, .int .i64 d, .flt .f32 s, .int .i64 r], .lf (.int .i64 u), .lf (.int .i64 n)] h lim K = K (.tup [.lf (.flt .f32 (levF a d s r u n)), .lf (.bool true)]) h := by
  have hS : Sl (h ++ [⟨[.int .i64 a, .int .i64 d, .flt .f32 s, .int .i64 r], .own 26 1⟩, ⟨[.int .i64 u, .int .i64 n], .own 2 1⟩]) (h.length + 1) 2 1 ([u, n].map il) := ⟨by simp [il], fun i r hi => by
    have hm := List.mem_of_getElem? hi
    simp [il] at hm
    rcases hm with rfl | rfl <;> rfl⟩
  have hin : allIn 0 4000 [u, n] := by
    intro i hi _
    rcases (show i = 0 ∨ i = 1 by simp at hi; omega) with rfl | rfl
    · exact hu
    · exact hn
  have hw : ∀ lim K, CallT S true 41 [.lf (.sl (h.length + 1) 0 2 1), .lf (.int .i64 0), .lf (.int .i64 4000)] (h ++ [⟨[.int .i64 a, .int .i64 d, .flt .f32 s, .int .i64 r], .own 26 1⟩, ⟨[.int .i64 u, .int .i64 n], .own 2 1⟩]) lim K = K (.lf (.bool true)) (h ++ [⟨[.int .i64 a, .int .i64 d, .flt .f32 s, .int .i64 r], .own 26 1⟩, ⟨[.int .i64 u, .int .i64 n], .own 2 1⟩]) := fun lim K => by
    have := c_allWithin (S := S) (lim := lim) (K := K) (p := 0) (q := 4000) (hS.arr (by simp))
    rw [decide_eq_true hin] at this
    exact this
  have hh := he
  simp only [held3, decide_eq_true_eq] at hh
  have hv := fun h lim K => c_level (S := S) (h := h) (lim := lim) (K := K) (a := a) (d := d) (s := s) (r := r) (u := u) (n := n) (by omega) hu (by omega)
  have ev := fun h lim K => c_ValidEnvelope (S := S) (h := h) (lim := lim) (K := K) (a := a) (d := d) (s := s) (r := r)
  rw [he] at ev
  generalize levF a d s r u n = y at *
  clear hS he hin hu hn hh
  refine CallT_pure (F := L22) (HasLx.f22) rfl (by first | rfl | (split <;> rfl) | simp) ?_; unfold L22; dsimp only []
  repeat' (first | (simp (disch := first | omega | assumption | (simp only [List.length_set]; omega) | (simp [*] <;> fail) | assumption) [-Bool.decide_and, -Bool.decide_or, -Bool.not_and, -Bool.not_or, toNat_pred, toNat_succ, wrap64, wr_new, wr_new0, ok_if, ok_ifn, iadV_sl, makeV_int, decT, decF, over_at, *, leavesAll, fillL]) | (with_reducible refine Gd_split (fun hc => ?_) (fun hc => ?_) <;> (have hc2 := hc; try simp at hc2)) | (with_reducible refine Br_split (fun hc => ?_) (fun hc => ?_) <;> (have hc2 := hc; try simp at hc2)) | (with_reducible refine GdT_split (fun hc => ?_) (fun hc => ?_) <;> (have hc2 := hc; try simp at hc2)) | (with_reducible refine WT_alt ?_ ?_) | omega)
end
end Go.E
