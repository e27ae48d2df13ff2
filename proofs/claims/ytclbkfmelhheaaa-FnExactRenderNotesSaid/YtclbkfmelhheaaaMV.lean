/- Voices: envelopes and notes. -/
import Derived.Test.YtclbkfmelhheaaaMA
import Derived.Test.YtclbkfmelhheaaaEC
set_option linter.unusedVariables false
set_option linter.unusedSimpArgs false
namespace Go.E
open Go
def L13 : LFn := ⟨1, (.seq (.reg [⟨(.some 1), (.box 24 (.t 0)), none⟩, ⟨(.some 2), (.alloc 30 [(.int .i64 0), (.int .i64 0), (.flt .f32 0), (.int .i64 0)]), none⟩])
 (.seq (.reg [⟨(.some 3), (.alloc 30 [(.int .i64 0), (.int .i64 0), (.flt .f32 0), (.int .i64 0)]), none⟩])
 (.seq (.reg [⟨(.some 4), (.faddr 0 (.t 1)), none⟩, ⟨(.some 5), (.load false 1 (.t 4)), none⟩, ⟨(.some 6), (.faddr 0 (.t 3)), none⟩, ⟨none, (.store 1 (.t 6) (.t 5)), none⟩])
 (.seq (.reg [⟨(.some 7), (.faddr 1 (.t 1)), none⟩, ⟨(.some 8), (.load false 1 (.t 7)), none⟩, ⟨(.some 9), (.faddr 1 (.t 3)), none⟩, ⟨none, (.store 1 (.t 9) (.t 8)), none⟩])
 (.seq (.reg [⟨(.some 10), (.faddr 2 (.t 1)), none⟩, ⟨(.some 11), (.load false 1 (.t 10)), none⟩, ⟨(.some 12), (.faddr 2 (.t 3)), none⟩, ⟨none, (.store 1 (.t 12) (.t 11)), none⟩])
 (.seq (.reg [⟨(.some 13), (.faddr 3 (.t 1)), none⟩, ⟨(.some 14), (.load false 1 (.t 13)), none⟩, ⟨(.some 15), (.faddr 3 (.t 3)), none⟩, ⟨none, (.store 1 (.t 15) (.t 14)), none⟩])
 (.seq (.reg [⟨(.some 16), (.load true 4 (.t 3)), none⟩, ⟨none, (.store 4 (.t 2) (.t 16)), none⟩])
 .ret))))))), [(.cell 2 true 4)]⟩
def L14 : LFn := ⟨1, (.seq (.reg [⟨(.some 1), (.box 26 (.t 0)), none⟩, ⟨(.some 2), (.alloc 32 [(.int .i64 0), (.int .i64 0), (.int .i64 0), (.flt .f32 0)]), none⟩])
 (.seq (.reg [⟨(.some 3), (.alloc 32 [(.int .i64 0), (.int .i64 0), (.int .i64 0), (.flt .f32 0)]), none⟩])
 (.seq (.reg [⟨(.some 4), (.faddr 0 (.t 1)), none⟩, ⟨(.some 5), (.load false 1 (.t 4)), none⟩, ⟨(.some 6), (.faddr 0 (.t 3)), none⟩, ⟨none, (.store 1 (.t 6) (.t 5)), none⟩])
 (.seq (.reg [⟨(.some 7), (.faddr 1 (.t 1)), none⟩, ⟨(.some 8), (.load false 1 (.t 7)), none⟩, ⟨(.some 9), (.faddr 1 (.t 3)), none⟩, ⟨none, (.store 1 (.t 9) (.t 8)), none⟩])
 (.seq (.reg [⟨(.some 10), (.faddr 2 (.t 1)), none⟩, ⟨(.some 11), (.load false 1 (.t 10)), none⟩, ⟨(.some 12), (.faddr 2 (.t 3)), none⟩, ⟨none, (.store 1 (.t 12) (.t 11)), none⟩])
 (.seq (.reg [⟨(.some 13), (.faddr 3 (.t 1)), none⟩, ⟨(.some 14), (.load false 1 (.t 13)), none⟩, ⟨(.some 15), (.faddr 3 (.t 3)), none⟩, ⟨none, (.store 1 (.t 15) (.t 14)), none⟩])
 (.seq (.reg [⟨(.some 16), (.load true 4 (.t 3)), none⟩, ⟨none, (.store 4 (.t 2) (.t 16)), none⟩])
 .ret))))))), [(.cell 2 true 4)]⟩
def L58 : LFn := ⟨1, (.seq (.reg [⟨(.some 2), (.mv (.c (.lf (.bool false)))), none⟩])
 (.seq (.reg [⟨(.some 3), (.mv (.t 0)), none⟩, ⟨(.some 4), (.nilck (.t 3)), none⟩, ⟨(.some 5), (.faddr 0 (.t 4)), none⟩, ⟨(.some 6), (.load false 1 (.t 5)), none⟩, ⟨(.some 7), (.call true 85 [(.t 6), (.c (.lf (.int .i64 0))), (.c (.lf (.int .i64 1000)))]), none⟩, ⟨(.some 8), (.mv (.t 7)), none⟩, ⟨(.some 9), (.mv (.t 0)), (.some (8, true))⟩, ⟨(.some 10), (.nilck (.t 9)), (.some (8, true))⟩, ⟨(.some 11), (.faddr 1 (.t 10)), (.some (8, true))⟩, ⟨(.some 12), (.load false 1 (.t 11)), (.some (8, true))⟩, ⟨(.some 13), (.call true 85 [(.t 12), (.c (.lf (.int .i64 0))), (.c (.lf (.int .i64 1000)))]), (.some (8, true))⟩, ⟨(.some 14), (.pick (.t 8) (.t 13) (.c (.lf (.bool false)))), none⟩, ⟨(.some 15), (.mv (.t 14)), none⟩, ⟨(.some 16), (.mv (.t 0)), (.some (15, true))⟩, ⟨(.some 17), (.nilck (.t 16)), (.some (15, true))⟩, ⟨(.some 18), (.faddr 3 (.t 17)), (.some (15, true))⟩, ⟨(.some 19), (.load false 1 (.t 18)), (.some (15, true))⟩, ⟨(.some 20), (.call true 85 [(.t 19), (.c (.lf (.int .i64 0))), (.c (.lf (.int .i64 1000)))]), (.some (15, true))⟩, ⟨(.some 21), (.pick (.t 15) (.t 20) (.c (.lf (.bool false)))), none⟩, ⟨(.some 2), (.mv (.t 21)), none⟩])
 .ret)), [(.tmp 2)]⟩
def L59 : LFn := ⟨1, (.seq (.reg [⟨(.some 2), (.mv (.c (.lf (.bool false)))), none⟩])
 (.seq (.reg [⟨(.some 3), (.mv (.t 0)), none⟩, ⟨(.some 4), (.nilck (.t 3)), none⟩, ⟨(.some 5), (.faddr 0 (.t 4)), none⟩, ⟨(.some 6), (.load false 1 (.t 5)), none⟩, ⟨(.some 7), (.call true 85 [(.t 6), (.c (.lf (.int .i64 0))), (.c (.lf (.int .i64 1000)))]), none⟩, ⟨(.some 8), (.mv (.t 7)), none⟩, ⟨(.some 9), (.mv (.t 0)), (.some (8, true))⟩, ⟨(.some 10), (.nilck (.t 9)), (.some (8, true))⟩, ⟨(.some 11), (.faddr 1 (.t 10)), (.some (8, true))⟩, ⟨(.some 12), (.load false 1 (.t 11)), (.some (8, true))⟩, ⟨(.some 13), (.call true 85 [(.t 12), (.c (.lf (.int .i64 0))), (.c (.lf (.int .i64 1000)))]), (.some (8, true))⟩, ⟨(.some 14), (.pick (.t 8) (.t 13) (.c (.lf (.bool false)))), none⟩, ⟨(.some 15), (.mv (.t 14)), none⟩, ⟨(.some 16), (.mv (.t 0)), (.some (15, true))⟩, ⟨(.some 17), (.nilck (.t 16)), (.some (15, true))⟩, ⟨(.some 18), (.faddr 2 (.t 17)), (.some (15, true))⟩, ⟨(.some 19), (.load false 1 (.t 18)), (.some (15, true))⟩, ⟨(.some 20), (.call true 85 [(.t 19), (.c (.lf (.int .i64 0))), (.c (.lf (.int .i64 127)))]), (.some (15, true))⟩, ⟨(.some 21), (.pick (.t 15) (.t 20) (.c (.lf (.bool false)))), none⟩, ⟨(.some 2), (.mv (.t 21)), none⟩])
 .ret)), [(.tmp 2)]⟩
def L129 : LFn := ⟨2, (.seq (.reg [⟨(.some 4), (.mv (.c (.lf (.int .i64 0)))), none⟩])
 (.seq (.reg [⟨(.some 5), (.mv (.t 1)), none⟩, ⟨(.some 6), (.nilck (.t 5)), none⟩, ⟨(.some 7), (.faddr 0 (.t 6)), none⟩, ⟨(.some 8), (.load false 1 (.t 7)), none⟩, ⟨(.some 9), (.mv (.t 1)), none⟩, ⟨(.some 10), (.nilck (.t 9)), none⟩, ⟨(.some 11), (.faddr 1 (.t 10)), none⟩, ⟨(.some 12), (.load false 1 (.t 11)), none⟩, ⟨(.some 13), (.bin .add (.t 8) (.t 12)), none⟩, ⟨(.some 14), (.mv (.t 0)), none⟩, ⟨(.some 15), (.nilck (.t 14)), none⟩, ⟨(.some 16), (.faddr 3 (.t 15)), none⟩, ⟨(.some 17), (.load false 1 (.t 16)), none⟩, ⟨(.some 18), (.bin .add (.t 13) (.t 17)), none⟩, ⟨(.some 4), (.mv (.t 18)), none⟩])
 .ret)), [(.tmp 4)]⟩
def L63 : LFn := ⟨1, (.seq (.reg [⟨(.some 1), (.box 30 (.t 0)), none⟩, ⟨(.some 2), (.mv (.c (.lf (.bool false)))), none⟩])
 (.seq (.reg [⟨(.some 3), (.faddr 0 (.t 1)), none⟩, ⟨(.some 4), (.load false 1 (.t 3)), none⟩, ⟨(.some 5), (.call true 133 [(.t 4)]), none⟩, ⟨(.some 6), (.mv (.t 5)), none⟩, ⟨(.some 7), (.faddr 1 (.t 1)), (.some (6, true))⟩, ⟨(.some 8), (.load false 1 (.t 7)), (.some (6, true))⟩, ⟨(.some 9), (.call true 133 [(.t 8)]), (.some (6, true))⟩, ⟨(.some 10), (.pick (.t 6) (.t 9) (.c (.lf (.bool false)))), none⟩, ⟨(.some 11), (.mv (.t 10)), none⟩, ⟨(.some 12), (.faddr 3 (.t 1)), (.some (11, true))⟩, ⟨(.some 13), (.load false 1 (.t 12)), (.some (11, true))⟩, ⟨(.some 14), (.call true 133 [(.t 13)]), (.some (11, true))⟩, ⟨(.some 15), (.pick (.t 11) (.t 14) (.c (.lf (.bool false)))), none⟩, ⟨(.some 2), (.mv (.t 15)), none⟩])
 .ret)), [(.tmp 2)]⟩
def L64 : LFn := ⟨1, (.seq (.reg [⟨(.some 1), (.box 32 (.t 0)), none⟩, ⟨(.some 2), (.mv (.c (.lf (.bool false)))), none⟩])
 (.seq (.reg [⟨(.some 3), (.faddr 0 (.t 1)), none⟩, ⟨(.some 4), (.load false 1 (.t 3)), none⟩, ⟨(.some 5), (.call true 133 [(.t 4)]), none⟩, ⟨(.some 6), (.mv (.t 5)), none⟩, ⟨(.some 7), (.faddr 1 (.t 1)), (.some (6, true))⟩, ⟨(.some 8), (.load false 1 (.t 7)), (.some (6, true))⟩, ⟨(.some 9), (.call true 133 [(.t 8)]), (.some (6, true))⟩, ⟨(.some 10), (.pick (.t 6) (.t 9) (.c (.lf (.bool false)))), none⟩, ⟨(.some 11), (.mv (.t 10)), none⟩, ⟨(.some 12), (.faddr 2 (.t 1)), (.some (11, true))⟩, ⟨(.some 13), (.load false 1 (.t 12)), (.some (11, true))⟩, ⟨(.some 14), (.call true 134 [(.t 13)]), (.some (11, true))⟩, ⟨(.some 15), (.pick (.t 11) (.t 14) (.c (.lf (.bool false)))), none⟩, ⟨(.some 2), (.mv (.t 15)), none⟩])
 .ret)), [(.tmp 2)]⟩
def L133 : LFn := ⟨1, (.seq (.reg [⟨(.some 2), (.mv (.c (.lf (.bool false)))), none⟩])
 (.seq (.reg [⟨(.some 3), (.mv (.t 0)), none⟩, ⟨(.some 4), (.call true 91 [(.t 3), (.c (.lf (.int .i64 0))), (.c (.lf (.int .i64 1000)))]), none⟩, ⟨(.some 2), (.mv (.t 4)), none⟩])
 .ret)), [(.tmp 2)]⟩
def L134 : LFn := ⟨1, (.seq (.reg [⟨(.some 2), (.mv (.c (.lf (.bool false)))), none⟩])
 (.seq (.reg [⟨(.some 3), (.mv (.t 0)), none⟩, ⟨(.some 4), (.call true 91 [(.t 3), (.c (.lf (.int .i64 0))), (.c (.lf (.int .i64 127)))]), none⟩, ⟨(.some 2), (.mv (.t 4)), none⟩])
 .ret)), [(.tmp 2)]⟩
def L136 : LFn := ⟨2, (.seq (.reg [⟨(.some 2), (.box 30 (.t 0)), none⟩, ⟨(.some 3), (.box 32 (.t 1)), none⟩, ⟨(.some 4), (.mv (.c (.lf (.int .i64 0)))), none⟩])
 (.seq (.reg [⟨(.some 5), (.faddr 0 (.t 3)), none⟩, ⟨(.some 6), (.load false 1 (.t 5)), none⟩, ⟨(.some 7), (.faddr 1 (.t 3)), none⟩, ⟨(.some 8), (.load false 1 (.t 7)), none⟩, ⟨(.some 9), (.bin .add (.t 6) (.t 8)), none⟩, ⟨(.some 10), (.faddr 3 (.t 2)), none⟩, ⟨(.some 11), (.load false 1 (.t 10)), none⟩, ⟨(.some 12), (.bin .add (.t 9) (.t 11)), none⟩, ⟨(.some 4), (.mv (.t 12)), none⟩])
 .ret)), [(.tmp 4)]⟩
class HasV (S : Sys) : Prop extends HasA S where
  f13 : S.fs 13 = some L13
  f14 : S.fs 14 = some L14
  f58 : S.fs 58 = some L58
  f59 : S.fs 59 = some L59
  f129 : S.fs 129 = some L129
  f63 : S.fs 63 = some L63
  f64 : S.fs 64 = some L64
  f133 : S.fs 133 = some L133
  f134 : S.fs 134 = some L134
  f136 : S.fs 136 = some L136
def held3 (x y z : Int) : Bool := decide (0 ≤ x ∧ x ≤ 1000 ∧ 0 ≤ y ∧ y ≤ 1000 ∧ 0 ≤ z ∧ z ≤ 1000)
def noted (x y z : Int) : Bool := decide (0 ≤ x ∧ x ≤ 1000 ∧ 0 ≤ y ∧ y ≤ 1000 ∧ 0 ≤ z ∧ z ≤ 127)
section
variable {S : Sys} {lim : Nat} {h : Hp} {K : CV → Hp → Prop} [HasV S]
@[simp] theorem c_toEnvelope {a d r : Int} {s : Nat} : CallT S true 13 [.agg [.int .i64 a, .int .i64 d, .flt .f32 s, .int .i64 r]] h lim K = K (.agg [.int .i64 a, .int .i64 d, .flt .f32 s, .int .i64 r]) h := by
  refine CallT_pure (F := L13) (HasV.f13) rfl (by first | rfl | (split <;> rfl) | simp) ?_; unfold L13; dsimp only []
  repeat' (first | (simp (disch := first | omega | assumption | (simp only [List.length_set]; omega) | (simp [*] <;> fail) | assumption) [-Bool.decide_and, -Bool.decide_or, -Bool.not_and, -Bool.not_or, toNat_pred, toNat_succ, wrap64, wr_new, wr_new0, ok_if, ok_ifn, iadV_sl, makeV_int, decT, decF, over_at, *]) | (with_reducible refine Gd_split (fun hc => ?_) (fun hc => ?_) <;> (have hc2 := hc; try simp at hc2)) | (with_reducible refine Br_split (fun hc => ?_) (fun hc => ?_) <;> (have hc2 := hc; try simp at hc2)) | (with_reducible refine GdT_split (fun hc => ?_) (fun hc => ?_) <;> (have hc2 := hc; try simp at hc2)) | (with_reducible refine WT_alt ?_ ?_) | omega)
@[simp] theorem c_toNote {a d r : Int} {s : Nat} : CallT S true 14 [.agg [.int .i64 a, .int .i64 d, .int .i64 r, .flt .f32 s]] h lim K = K (.agg [.int .i64 a, .int .i64 d, .int .i64 r, .flt .f32 s]) h := by
  refine CallT_pure (F := L14) (HasV.f14) rfl (by first | rfl | (split <;> rfl) | simp) ?_; unfold L14; dsimp only []
  repeat' (first | (simp (disch := first | omega | assumption | (simp only [List.length_set]; omega) | (simp [*] <;> fail) | assumption) [-Bool.decide_and, -Bool.decide_or, -Bool.not_and, -Bool.not_or, toNat_pred, toNat_succ, wrap64, wr_new, wr_new0, ok_if, ok_ifn, iadV_sl, makeV_int, decT, decF, over_at, *]) | (with_reducible refine Gd_split (fun hc => ?_) (fun hc => ?_) <;> (have hc2 := hc; try simp at hc2)) | (with_reducible refine Br_split (fun hc => ?_) (fun hc => ?_) <;> (have hc2 := hc; try simp at hc2)) | (with_reducible refine GdT_split (fun hc => ?_) (fun hc => ?_) <;> (have hc2 := hc; try simp at hc2)) | (with_reducible refine WT_alt ?_ ?_) | omega)
@[simp] theorem c_isHeld {x : Int} : CallT S true 133 [.lf (.int .i64 x)] h lim K = K (.lf (.bool (decide (0 ≤ x ∧ x ≤ 1000)))) h := by
  refine CallT_pure (F := L133) (HasV.f133) rfl (by first | rfl | (split <;> rfl) | simp) ?_; unfold L133; dsimp only []
  repeat' (first | (simp (disch := first | omega | assumption | (simp only [List.length_set]; omega) | (simp [*] <;> fail) | assumption) [-Bool.decide_and, -Bool.decide_or, -Bool.not_and, -Bool.not_or, toNat_pred, toNat_succ, wrap64, wr_new, wr_new0, ok_if, ok_ifn, iadV_sl, makeV_int, decT, decF, over_at, *]) | (with_reducible refine Gd_split (fun hc => ?_) (fun hc => ?_) <;> (have hc2 := hc; try simp at hc2)) | (with_reducible refine Br_split (fun hc => ?_) (fun hc => ?_) <;> (have hc2 := hc; try simp at hc2)) | (with_reducible refine GdT_split (fun hc => ?_) (fun hc => ?_) <;> (have hc2 := hc; try simp at hc2)) | (with_reducible refine WT_alt ?_ ?_) | omega)
@[simp] theorem c_isPitch {x : Int} : CallT S true 134 [.lf (.int .i64 x)] h lim K = K (.lf (.bool (decide (0 ≤ x ∧ x ≤ 127)))) h := by
  refine CallT_pure (F := L134) (HasV.f134) rfl (by first | rfl | (split <;> rfl) | simp) ?_; unfold L134; dsimp only []
  repeat' (first | (simp (disch := first | omega | assumption | (simp only [List.length_set]; omega) | (simp [*] <;> fail) | assumption) [-Bool.decide_and, -Bool.decide_or, -Bool.not_and, -Bool.not_or, toNat_pred, toNat_succ, wrap64, wr_new, wr_new0, ok_if, ok_ifn, iadV_sl, makeV_int, decT, decF, over_at, *]) | (with_reducible refine Gd_split (fun hc => ?_) (fun hc => ?_) <;> (have hc2 := hc; try simp at hc2)) | (with_reducible refine Br_split (fun hc => ?_) (fun hc => ?_) <;> (have hc2 := hc; try simp at hc2)) | (with_reducible refine GdT_split (fun hc => ?_) (fun hc => ?_) <;> (have hc2 := hc; try simp at hc2)) | (with_reducible refine WT_alt ?_ ?_) | omega)
@[simp] theorem c_ValidEnvelope {a d r : Int} {s : Nat} : CallT S true 63 [.agg [.int .i64 a, .int .i64 d, .flt .f32 s, .int .i64 r]] h lim K = K (.lf (.bool (held3 a d r))) h := by
  unfold held3
  refine CallT_pure (F := L63) (HasV.f63) rfl (by first | rfl | (split <;> rfl) | simp) ?_; unfold L63; dsimp only []
  repeat' (first | (simp (disch := first | omega | assumption | (simp only [List.length_set]; omega) | (simp [*] <;> fail) | assumption) [-Bool.decide_and, -Bool.decide_or, -Bool.not_and, -Bool.not_or, toNat_pred, toNat_succ, wrap64, wr_new, wr_new0, ok_if, ok_ifn, iadV_sl, makeV_int, decT, decF, over_at, *]) | (with_reducible refine Gd_split (fun hc => ?_) (fun hc => ?_) <;> (have hc2 := hc; try simp at hc2)) | (with_reducible refine Br_split (fun hc => ?_) (fun hc => ?_) <;> (have hc2 := hc; try simp at hc2)) | (with_reducible refine GdT_split (fun hc => ?_) (fun hc => ?_) <;> (have hc2 := hc; try simp at hc2)) | (with_reducible refine WT_alt ?_ ?_) | omega)
@[simp] theorem c_isNote {a d r : Int} {s : Nat} : CallT S true 64 [.agg [.int .i64 a, .int .i64 d, .int .i64 r, .flt .f32 s]] h lim K = K (.lf (.bool (noted a d r))) h := by
  unfold noted
  refine CallT_pure (F := L64) (HasV.f64) rfl (by first | rfl | (split <;> rfl) | simp) ?_; unfold L64; dsimp only []
  repeat' (first | (simp (disch := first | omega | assumption | (simp only [List.length_set]; omega) | (simp [*] <;> fail) | assumption) [-Bool.decide_and, -Bool.decide_or, -Bool.not_and, -Bool.not_or, toNat_pred, toNat_succ, wrap64, wr_new, wr_new0, ok_if, ok_ifn, iadV_sl, makeV_int, decT, decF, over_at, *]) | (with_reducible refine Gd_split (fun hc => ?_) (fun hc => ?_) <;> (have hc2 := hc; try simp at hc2)) | (with_reducible refine Br_split (fun hc => ?_) (fun hc => ?_) <;> (have hc2 := hc; try simp at hc2)) | (with_reducible refine GdT_split (fun hc => ?_) (fun hc => ?_) <;> (have hc2 := hc; try simp at hc2)) | (with_reducible refine WT_alt ?_ ?_) | omega)
@[simp] theorem c_implEnd {a d r b e p : Int} {s g : Nat} (h1 : held3 a d r = true) (h2 : noted b e p = true) : CallT S true 136 [.agg [.int .i64 a, .int .i64 d, .flt .f32 s, .int .i64 r], .agg [.int .i64 b, .int .i64 e, .int .i64 p, .flt .f32 g]] h lim K = K (.lf (.int .i64 (b + e + r))) h := by
  simp only [held3, noted, decide_eq_true_eq] at h1 h2
  refine CallT_pure (F := L136) (HasV.f136) rfl (by first | rfl | (split <;> rfl) | simp) ?_; unfold L136; dsimp only []
  repeat' (first | (simp (disch := first | omega | assumption | (simp only [List.length_set]; omega) | (simp [*] <;> fail) | assumption) [-Bool.decide_and, -Bool.decide_or, -Bool.not_and, -Bool.not_or, toNat_pred, toNat_succ, wrap64, wr_new, wr_new0, ok_if, ok_ifn, iadV_sl, makeV_int, decT, decF, over_at, *]) | (with_reducible refine Gd_split (fun hc => ?_) (fun hc => ?_) <;> (have hc2 := hc; try simp at hc2)) | (with_reducible refine Br_split (fun hc => ?_) (fun hc => ?_) <;> (have hc2 := hc; try simp at hc2)) | (with_reducible refine GdT_split (fun hc => ?_) (fun hc => ?_) <;> (have hc2 := hc; try simp at hc2)) | (with_reducible refine WT_alt ?_ ?_) | omega)
def envL : List Lf → Option (Int × Int × Nat × Int)
  | [.int .i64 a, .int .i64 d, .flt .f32 s, .int .i64 r] => some (a, d, s, r)
  | _ => none
theorem envL_some {ls : List Lf} {a d r : Int} {s : Nat} (h : envL ls = some (a, d, s, r)) : ls = [.int .i64 a, .int .i64 d, .flt .f32 s, .int .i64 r] := by
  unfold envL at h; split at h
  · injection h with h; simp only [Prod.mk.injEq] at h; obtain ⟨rfl, rfl, rfl, rfl⟩ := h; rfl
  · cases h
@[simp] theorem c_l05Envelope {id off : Nat} {a d r : Int} {s : Nat} (hr : rdCells h id off 4 = some [.int .i64 a, .int .i64 d, .flt .f32 s, .int .i64 r]) : CallT S true 58 [.lf (.ptr id off)] h lim K = K (.lf (.bool (held3 a d r))) h := by
  have r0 := rd_sub hr (j := 0) (m := 1) (by omega)
  have r1 := rd_sub hr (j := 1) (m := 1) (by omega)
  have r3 := rd_sub hr (j := 3) (m := 1) (by omega)
  simp at r0 r1 r3
  unfold held3
  refine CallT_pure (F := L58) (HasV.f58) rfl (by first | rfl | (split <;> rfl) | simp) ?_; unfold L58; dsimp only []
  repeat' (first | (simp (disch := first | omega | assumption | (simp only [List.length_set]; omega) | (simp [*] <;> fail) | assumption) [-Bool.decide_and, -Bool.decide_or, -Bool.not_and, -Bool.not_or, toNat_pred, toNat_succ, wrap64, wr_new, wr_new0, ok_if, ok_ifn, iadV_sl, makeV_int, decT, decF, over_at, *]) | (with_reducible refine Gd_split (fun hc => ?_) (fun hc => ?_) <;> (have hc2 := hc; try simp at hc2)) | (with_reducible refine Br_split (fun hc => ?_) (fun hc => ?_) <;> (have hc2 := hc; try simp at hc2)) | (with_reducible refine GdT_split (fun hc => ?_) (fun hc => ?_) <;> (have hc2 := hc; try simp at hc2)) | (with_reducible refine WT_alt ?_ ?_) | omega)
@[simp] theorem c_l05Note {id off : Nat} {a d r : Int} {s : Nat} (hr : rdCells h id off 4 = some [.int .i64 a, .int .i64 d, .int .i64 r, .flt .f32 s]) : CallT S true 59 [.lf (.ptr id off)] h lim K = K (.lf (.bool (noted a d r))) h := by
  have r0 := rd_sub hr (j := 0) (m := 1) (by omega)
  have r1 := rd_sub hr (j := 1) (m := 1) (by omega)
  have r3 := rd_sub hr (j := 2) (m := 1) (by omega)
  simp at r0 r1 r3
  unfold noted
  refine CallT_pure (F := L59) (HasV.f59) rfl (by first | rfl | (split <;> rfl) | simp) ?_; unfold L59; dsimp only []
  repeat' (first | (simp (disch := first | omega | assumption | (simp only [List.length_set]; omega) | (simp [*] <;> fail) | assumption) [-Bool.decide_and, -Bool.decide_or, -Bool.not_and, -Bool.not_or, toNat_pred, toNat_succ, wrap64, wr_new, wr_new0, ok_if, ok_ifn, iadV_sl, makeV_int, decT, decF, over_at, *]) | (with_reducible refine Gd_split (fun hc => ?_) (fun hc => ?_) <;> (have hc2 := hc; try simp at hc2)) | (with_reducible refine Br_split (fun hc => ?_) (fun hc => ?_) <;> (have hc2 := hc; try simp at hc2)) | (with_reducible refine GdT_split (fun hc => ?_) (fun hc => ?_) <;> (have hc2 := hc; try simp at hc2)) | (with_reducible refine WT_alt ?_ ?_) | omega)
@[simp] theorem c_l05End {id off id2 off2 : Nat} {a d r b e p : Int} {s g : Nat} (hr : rdCells h id off 4 = some [.int .i64 a, .int .i64 d, .flt .f32 s, .int .i64 r]) (hr2 : rdCells h id2 off2 4 = some [.int .i64 b, .int .i64 e, .int .i64 p, .flt .f32 g]) (h1 : held3 a d r = true) (h2 : noted b e p = true) : CallT S true 129 [.lf (.ptr id off), .lf (.ptr id2 off2)] h lim K = K (.lf (.int .i64 (b + e + r))) h := by
  have r0 := rd_sub hr2 (j := 0) (m := 1) (by omega)
  have r1 := rd_sub hr2 (j := 1) (m := 1) (by omega)
  have r3 := rd_sub hr (j := 3) (m := 1) (by omega)
  simp at r0 r1 r3
  simp only [held3, noted, decide_eq_true_eq] at h1 h2
  refine CallT_pure (F := L129) (HasV.f129) rfl (by first | rfl | (split <;> rfl) | simp) ?_; unfold L129; dsimp only []
  repeat' (first | (simp (disch := first | omega | assumption | (simp only [List.length_set]; omega) | (simp [*] <;> fail) | assumption) [-Bool.decide_and, -Bool.decide_or, -Bool.not_and, -Bool.not_or, toNat_pred, toNat_succ, wrap64, wr_new, wr_new0, ok_if, ok_ifn, iadV_sl, makeV_int, decT, decF, over_at, *]) | (with_reducible refine Gd_split (fun hc => ?_) (fun hc => ?_) <;> (have hc2 := hc; try simp at hc2)) | (with_reducible refine Br_split (fun hc => ?_) (fun hc => ?_) <;> (have hc2 := hc; try simp at hc2)) | (with_reducible refine GdT_split (fun hc => ?_) (fun hc => ?_) <;> (have hc2 := hc; try simp at hc2)) | (with_reducible refine WT_alt ?_ ?_) | omega)
def endOfNote (a d r b e p : Int) : List TV := if held3 a d r = true ∧ noted b e p = true then [.lf (.int .i64 (b + e + r)), .lf (.bool true)] else [.lf (.int .i64 0), .lf (.bool false)]
end
end Go.E
