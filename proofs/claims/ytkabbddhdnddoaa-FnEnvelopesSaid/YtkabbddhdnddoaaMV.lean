/- Voices: envelopes and notes. -/
import Derived.Test.YtkabbddhdnddoaaMA
import Derived.Test.YtkabbddhdnddoaaEC
set_option linter.unusedVariables false
set_option linter.unusedSimpArgs false
namespace Go.E
open Go
def L23 : LFn := ⟨1, (.seq (.reg [⟨(.some 1), (.box 26 (.t 0)), none⟩, ⟨(.some 2), (.mv (.c (.lf (.bool false)))), none⟩])
 (.seq (.reg [⟨(.some 3), (.faddr 0 (.t 1)), none⟩, ⟨(.some 4), (.load false 1 (.t 3)), none⟩, ⟨(.some 5), (.call true 43 [(.t 4)]), none⟩, ⟨(.some 6), (.mv (.t 5)), none⟩, ⟨(.some 7), (.faddr 1 (.t 1)), (.some (6, true))⟩, ⟨(.some 8), (.load false 1 (.t 7)), (.some (6, true))⟩, ⟨(.some 9), (.call true 43 [(.t 8)]), (.some (6, true))⟩, ⟨(.some 10), (.pick (.t 6) (.t 9) (.c (.lf (.bool false)))), none⟩, ⟨(.some 11), (.mv (.t 10)), none⟩, ⟨(.some 12), (.faddr 3 (.t 1)), (.some (11, true))⟩, ⟨(.some 13), (.load false 1 (.t 12)), (.some (11, true))⟩, ⟨(.some 14), (.call true 43 [(.t 13)]), (.some (11, true))⟩, ⟨(.some 15), (.pick (.t 11) (.t 14) (.c (.lf (.bool false)))), none⟩, ⟨(.some 2), (.mv (.t 15)), none⟩])
 .ret)), [(.tmp 2)]⟩
def L33 : LFn := ⟨1, (.seq (.reg [⟨(.some 1), (.box 40 (.t 0)), none⟩, ⟨(.some 2), (.mv (.c (.lf (.bool false)))), none⟩])
 (.seq (.reg [⟨(.some 3), (.faddr 0 (.t 1)), none⟩, ⟨(.some 4), (.load false 1 (.t 3)), none⟩, ⟨(.some 5), (.call true 43 [(.t 4)]), none⟩, ⟨(.some 6), (.mv (.t 5)), none⟩, ⟨(.some 7), (.faddr 1 (.t 1)), (.some (6, true))⟩, ⟨(.some 8), (.load false 1 (.t 7)), (.some (6, true))⟩, ⟨(.some 9), (.call true 43 [(.t 8)]), (.some (6, true))⟩, ⟨(.some 10), (.pick (.t 6) (.t 9) (.c (.lf (.bool false)))), none⟩, ⟨(.some 11), (.mv (.t 10)), none⟩, ⟨(.some 12), (.faddr 2 (.t 1)), (.some (11, true))⟩, ⟨(.some 13), (.load false 1 (.t 12)), (.some (11, true))⟩, ⟨(.some 14), (.call true 39 [(.t 13)]), (.some (11, true))⟩, ⟨(.some 15), (.pick (.t 11) (.t 14) (.c (.lf (.bool false)))), none⟩, ⟨(.some 2), (.mv (.t 15)), none⟩])
 .ret)), [(.tmp 2)]⟩
def L43 : LFn := ⟨1, (.seq (.reg [⟨(.some 2), (.mv (.c (.lf (.bool false)))), none⟩])
 (.seq (.reg [⟨(.some 3), (.mv (.t 0)), none⟩, ⟨(.some 4), (.call true 45 [(.t 3), (.c (.lf (.int .i64 0))), (.c (.lf (.int .i64 1000)))]), none⟩, ⟨(.some 2), (.mv (.t 4)), none⟩])
 .ret)), [(.tmp 2)]⟩
def L39 : LFn := ⟨1, (.seq (.reg [⟨(.some 2), (.mv (.c (.lf (.bool false)))), none⟩])
 (.seq (.reg [⟨(.some 3), (.mv (.t 0)), none⟩, ⟨(.some 4), (.call true 45 [(.t 3), (.c (.lf (.int .i64 0))), (.c (.lf (.int .i64 127)))]), none⟩, ⟨(.some 2), (.mv (.t 4)), none⟩])
 .ret)), [(.tmp 2)]⟩
def L34 : LFn := ⟨2, (.seq (.reg [⟨(.some 2), (.box 26 (.t 0)), none⟩, ⟨(.some 3), (.box 40 (.t 1)), none⟩, ⟨(.some 4), (.mv (.c (.lf (.int .i64 0)))), none⟩])
 (.seq (.reg [⟨(.some 5), (.faddr 0 (.t 3)), none⟩, ⟨(.some 6), (.load false 1 (.t 5)), none⟩, ⟨(.some 7), (.faddr 1 (.t 3)), none⟩, ⟨(.some 8), (.load false 1 (.t 7)), none⟩, ⟨(.some 9), (.bin .add (.t 6) (.t 8)), none⟩, ⟨(.some 10), (.faddr 3 (.t 2)), none⟩, ⟨(.some 11), (.load false 1 (.t 10)), none⟩, ⟨(.some 12), (.bin .add (.t 9) (.t 11)), none⟩, ⟨(.some 4), (.mv (.t 12)), none⟩])
 .ret)), [(.tmp 4)]⟩
def L14 : LFn := ⟨2, (.seq (.reg [⟨(.some 2), (.box 26 (.t 0)), none⟩, ⟨(.some 3), (.box 40 (.t 1)), none⟩, ⟨(.some 4), (.mv (.c (.lf (.int .i64 0)))), none⟩, ⟨(.some 5), (.mv (.c (.lf (.bool false)))), none⟩])
 (.seq (.seq (.reg [⟨(.some 6), (.load true 4 (.t 2)), none⟩, ⟨(.some 7), (.call true 23 [(.t 6)]), none⟩, ⟨(.some 8), (.una .not (.t 7)), none⟩, ⟨(.some 9), (.mv (.t 8)), none⟩, ⟨(.some 10), (.load true 4 (.t 3)), (.some (9, false))⟩, ⟨(.some 11), (.call true 33 [(.t 10)]), (.some (9, false))⟩, ⟨(.some 12), (.una .not (.t 11)), (.some (9, false))⟩, ⟨(.some 13), (.pick (.t 9) (.c (.lf (.bool true))) (.t 12)), none⟩])
 (.cond (.t 13) (.seq (.reg [⟨(.some 4), (.mv (.c (.lf (.int .i64 0)))), none⟩, ⟨(.some 5), (.mv (.c (.lf (.bool false)))), none⟩])
 .ret) .skip))
 (.seq (.reg [⟨(.some 14), (.load true 4 (.t 2)), none⟩, ⟨(.some 15), (.load true 4 (.t 3)), none⟩, ⟨(.some 16), (.call true 34 [(.t 14), (.t 15)]), none⟩, ⟨(.some 4), (.mv (.t 16)), none⟩, ⟨(.some 5), (.mv (.c (.lf (.bool true)))), none⟩])
 .ret))), [(.tmp 4), (.tmp 5)]⟩
class HasV (S : Sys) : Prop extends HasA S where
  f23 : S.fs 23 = some L23
  f33 : S.fs 33 = some L33
  f43 : S.fs 43 = some L43
  f39 : S.fs 39 = some L39
  f34 : S.fs 34 = some L34
  f14 : S.fs 14 = some L14
def held3 (x y z : Int) : Bool := decide (0 ≤ x ∧ x ≤ 1000 ∧ 0 ≤ y ∧ y ≤ 1000 ∧ 0 ≤ z ∧ z ≤ 1000)
def noted (x y z : Int) : Bool := decide (0 ≤ x ∧ x ≤ 1000 ∧ 0 ≤ y ∧ y ≤ 1000 ∧ 0 ≤ z ∧ z ≤ 127)
section
variable {S : Sys} {lim : Nat} {h : Hp} {K : CV → Hp → Prop} [HasV S]
@[simp] theorem c_isHeld {x : Int} : CallT S true 43 [.lf (.int .i64 x)] h lim K = K (.lf (.bool (decide (0 ≤ x ∧ x ≤ 1000)))) h := by
  refine CallT_pure (F := L43) (HasV.f43) rfl (by first | rfl | (split <;> rfl) | simp) ?_; unfold L43; dsimp only []
  repeat' (first | (simp (disch := first | omega | assumption | (simp only [List.length_set]; omega) | (simp [*] <;> fail) | assumption) [-Bool.decide_and, -Bool.decide_or, -Bool.not_and, -Bool.not_or, toNat_pred, toNat_succ, wrap64, wr_new, wr_new0, ok_if, ok_ifn, iadV_sl, makeV_int, decT, decF, over_at, *]) | (with_reducible refine Gd_split (fun hc => ?_) (fun hc => ?_) <;> (have hc2 := hc; try simp at hc2)) | (with_reducible refine Br_split (fun hc => ?_) (fun hc => ?_) <;> (have hc2 := hc; try simp at hc2)) | (with_reducible refine GdT_split (fun hc => ?_) (fun hc => ?_) <;> (have hc2 := hc; try simp at hc2)) | (with_reducible refine WT_alt ?_ ?_) | omega)
@[simp] theorem c_isPitch {x : Int} : CallT S true 39 [.lf (.int .i64 x)] h lim K = K (.lf (.bool (decide (0 ≤ x ∧ x ≤ 127)))) h := by
  refine CallT_pure (F := L39) (HasV.f39) rfl (by first | rfl | (split <;> rfl) | simp) ?_; unfold L39; dsimp only []
  repeat' (first | (simp (disch := first | omega | assumption | (simp only [List.length_set]; omega) | (simp [*] <;> fail) | assumption) [-Bool.decide_and, -Bool.decide_or, -Bool.not_and, -Bool.not_or, toNat_pred, toNat_succ, wrap64, wr_new, wr_new0, ok_if, ok_ifn, iadV_sl, makeV_int, decT, decF, over_at, *]) | (with_reducible refine Gd_split (fun hc => ?_) (fun hc => ?_) <;> (have hc2 := hc; try simp at hc2)) | (with_reducible refine Br_split (fun hc => ?_) (fun hc => ?_) <;> (have hc2 := hc; try simp at hc2)) | (with_reducible refine GdT_split (fun hc => ?_) (fun hc => ?_) <;> (have hc2 := hc; try simp at hc2)) | (with_reducible refine WT_alt ?_ ?_) | omega)
@[simp] theorem c_ValidEnvelope {a d r : Int} {s : Nat} : CallT S true 23 [.agg [.int .i64 a, .int .i64 d, .flt .f32 s, .int .i64 r]] h lim K = K (.lf (.bool (held3 a d r))) h := by
  unfold held3
  refine CallT_pure (F := L23) (HasV.f23) rfl (by first | rfl | (split <;> rfl) | simp) ?_; unfold L23; dsimp only []
  repeat' (first | (simp (disch := first | omega | assumption | (simp only [List.length_set]; omega) | (simp [*] <;> fail) | assumption) [-Bool.decide_and, -Bool.decide_or, -Bool.not_and, -Bool.not_or, toNat_pred, toNat_succ, wrap64, wr_new, wr_new0, ok_if, ok_ifn, iadV_sl, makeV_int, decT, decF, over_at, *]) | (with_reducible refine Gd_split (fun hc => ?_) (fun hc => ?_) <;> (have hc2 := hc; try simp at hc2)) | (with_reducible refine Br_split (fun hc => ?_) (fun hc => ?_) <;> (have hc2 := hc; try simp at hc2)) | (with_reducible refine GdT_split (fun hc => ?_) (fun hc => ?_) <;> (have hc2 := hc; try simp at hc2)) | (with_reducible refine WT_alt ?_ ?_) | omega)
@[simp] theorem c_isNote {a d r : Int} {s : Nat} : CallT S true 33 [.agg [.int .i64 a, .int .i64 d, .int .i64 r, .flt .f32 s]] h lim K = K (.lf (.bool (noted a d r))) h := by
  unfold noted
  refine CallT_pure (F := L33) (HasV.f33) rfl (by first | rfl | (split <;> rfl) | simp) ?_; unfold L33; dsimp only []
  repeat' (first | (simp (disch := first | omega | assumption | (simp only [List.length_set]; omega) | (simp [*] <;> fail) | assumption) [-Bool.decide_and, -Bool.decide_or, -Bool.not_and, -Bool.not_or, toNat_pred, toNat_succ, wrap64, wr_new, wr_new0, ok_if, ok_ifn, iadV_sl, makeV_int, decT, decF, over_at, *]) | (with_reducible refine Gd_split (fun hc => ?_) (fun hc => ?_) <;> (have hc2 := hc; try simp at hc2)) | (with_reducible refine Br_split (fun hc => ?_) (fun hc => ?_) <;> (have hc2 := hc; try simp at hc2)) | (with_reducible refine GdT_split (fun hc => ?_) (fun hc => ?_) <;> (have hc2 := hc; try simp at hc2)) | (with_reducible refine WT_alt ?_ ?_) | omega)
@[simp] theorem c_implEnd {a d r b e p : Int} {s g : Nat} (h1 : held3 a d r = true) (h2 : noted b e p = true) : CallT S true 34 [.agg [.int .i64 a, .int .i64 d, .flt .f32 s, .int .i64 r], .agg [.int .i64 b, .int .i64 e, .int .i64 p, .flt .f32 g]] h lim K = K (.lf (.int .i64 (b + e + r))) h := by
  simp only [held3, noted, decide_eq_true_eq] at h1 h2
  refine CallT_pure (F := L34) (HasV.f34) rfl (by first | rfl | (split <;> rfl) | simp) ?_; unfold L34; dsimp only []
  repeat' (first | (simp (disch := first | omega | assumption | (simp only [List.length_set]; omega) | (simp [*] <;> fail) | assumption) [-Bool.decide_and, -Bool.decide_or, -Bool.not_and, -Bool.not_or, toNat_pred, toNat_succ, wrap64, wr_new, wr_new0, ok_if, ok_ifn, iadV_sl, makeV_int, decT, decF, over_at, *]) | (with_reducible refine Gd_split (fun hc => ?_) (fun hc => ?_) <;> (have hc2 := hc; try simp at hc2)) | (with_reducible refine Br_split (fun hc => ?_) (fun hc => ?_) <;> (have hc2 := hc; try simp at hc2)) | (with_reducible refine GdT_split (fun hc => ?_) (fun hc => ?_) <;> (have hc2 := hc; try simp at hc2)) | (with_reducible refine WT_alt ?_ ?_) | omega)
def envL : List Lf → Option (Int × Int × Nat × Int)
  | [.int .i64 a, .int .i64 d, .flt .f32 s, .int .i64 r] => some (a, d, s, r)
  | _ => none
theorem envL_some {ls : List Lf} {a d r : Int} {s : Nat} (h : envL ls = some (a, d, s, r)) : ls = [.int .i64 a, .int .i64 d, .flt .f32 s, .int .i64 r] := by
  unfold envL at h; split at h
  · injection h with h; simp only [Prod.mk.injEq] at h; obtain ⟨rfl, rfl, rfl, rfl⟩ := h; rfl
  · cases h
def endOfNote (a d r b e p : Int) : List TV := if held3 a d r = true ∧ noted b e p = true then [.lf (.int .i64 (b + e + r)), .lf (.bool true)] else [.lf (.int .i64 0), .lf (.bool false)]
@[simp] theorem c_implEndOfNote {a d r b e p : Int} {s g : Nat} : CallT S true 14 [.agg [.int .i64 a, .int .i64 d, .flt .f32 s, .int .i64 r], .agg [.int .i64 b, .int .i64 e, .int .i64 p, .flt .f32 g]] h lim K = K (.tup (endOfNote a d r b e p)) h := by
  unfold endOfNote
  refine CallT_pure (F := L14) (HasV.f14) rfl (by first | rfl | (split <;> rfl) | simp) ?_; unfold L14; dsimp only []
  repeat' (first | (simp (disch := first | omega | assumption | (simp only [List.length_set]; omega) | (simp [*] <;> fail) | assumption) [-Bool.decide_and, -Bool.decide_or, -Bool.not_and, -Bool.not_or, toNat_pred, toNat_succ, wrap64, wr_new, wr_new0, ok_if, ok_ifn, iadV_sl, makeV_int, decT, decF, over_at, *]) | (with_reducible refine Gd_split (fun hc => ?_) (fun hc => ?_) <;> (have hc2 := hc; try simp at hc2)) | (with_reducible refine Br_split (fun hc => ?_) (fun hc => ?_) <;> (have hc2 := hc; try simp at hc2)) | (with_reducible refine GdT_split (fun hc => ?_) (fun hc => ?_) <;> (have hc2 := hc; try simp at hc2)) | (with_reducible refine WT_alt ?_ ?_) | omega)
end
end Go.E
