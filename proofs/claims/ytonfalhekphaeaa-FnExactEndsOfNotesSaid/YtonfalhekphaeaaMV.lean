/- Voices: envelopes and notes. -/
import Derived.Test.YtonfalhekphaeaaMA
import Derived.Test.YtonfalhekphaeaaEC
set_option linter.unusedVariables false
set_option linter.unusedSimpArgs false
namespace Go.E
open Go
def L66 : LFn := ⟨1, (.seq (.reg [⟨(.some 1), (.box 89 (.t 0)), none⟩, ⟨(.some 2), (.alloc 93 [(.int .i64 0), (.int .i64 0), (.flt .f32 0), (.int .i64 0)]), none⟩])
 (.seq (.reg [⟨(.some 3), (.alloc 93 [(.int .i64 0), (.int .i64 0), (.flt .f32 0), (.int .i64 0)]), none⟩])
 (.seq (.reg [⟨(.some 4), (.faddr 0 (.t 1)), none⟩, ⟨(.some 5), (.load false 1 (.t 4)), none⟩, ⟨(.some 6), (.faddr 0 (.t 3)), none⟩, ⟨none, (.store 1 (.t 6) (.t 5)), none⟩])
 (.seq (.reg [⟨(.some 7), (.faddr 1 (.t 1)), none⟩, ⟨(.some 8), (.load false 1 (.t 7)), none⟩, ⟨(.some 9), (.faddr 1 (.t 3)), none⟩, ⟨none, (.store 1 (.t 9) (.t 8)), none⟩])
 (.seq (.reg [⟨(.some 10), (.faddr 2 (.t 1)), none⟩, ⟨(.some 11), (.load false 1 (.t 10)), none⟩, ⟨(.some 12), (.faddr 2 (.t 3)), none⟩, ⟨none, (.store 1 (.t 12) (.t 11)), none⟩])
 (.seq (.reg [⟨(.some 13), (.faddr 3 (.t 1)), none⟩, ⟨(.some 14), (.load false 1 (.t 13)), none⟩, ⟨(.some 15), (.faddr 3 (.t 3)), none⟩, ⟨none, (.store 1 (.t 15) (.t 14)), none⟩])
 (.seq (.reg [⟨(.some 16), (.load true 4 (.t 3)), none⟩, ⟨none, (.store 4 (.t 2) (.t 16)), none⟩])
 .ret))))))), [(.cell 2 true 4)]⟩
def L128 : LFn := ⟨1, (.seq (.reg [⟨(.some 1), (.box 154 (.t 0)), none⟩, ⟨(.some 2), (.alloc 152 [(.int .i64 0), (.int .i64 0), (.int .i64 0), (.flt .f32 0)]), none⟩])
 (.seq (.reg [⟨(.some 3), (.alloc 152 [(.int .i64 0), (.int .i64 0), (.int .i64 0), (.flt .f32 0)]), none⟩])
 (.seq (.reg [⟨(.some 4), (.faddr 0 (.t 1)), none⟩, ⟨(.some 5), (.load false 1 (.t 4)), none⟩, ⟨(.some 6), (.faddr 0 (.t 3)), none⟩, ⟨none, (.store 1 (.t 6) (.t 5)), none⟩])
 (.seq (.reg [⟨(.some 7), (.faddr 1 (.t 1)), none⟩, ⟨(.some 8), (.load false 1 (.t 7)), none⟩, ⟨(.some 9), (.faddr 1 (.t 3)), none⟩, ⟨none, (.store 1 (.t 9) (.t 8)), none⟩])
 (.seq (.reg [⟨(.some 10), (.faddr 2 (.t 1)), none⟩, ⟨(.some 11), (.load false 1 (.t 10)), none⟩, ⟨(.some 12), (.faddr 2 (.t 3)), none⟩, ⟨none, (.store 1 (.t 12) (.t 11)), none⟩])
 (.seq (.reg [⟨(.some 13), (.faddr 3 (.t 1)), none⟩, ⟨(.some 14), (.load false 1 (.t 13)), none⟩, ⟨(.some 15), (.faddr 3 (.t 3)), none⟩, ⟨none, (.store 1 (.t 15) (.t 14)), none⟩])
 (.seq (.reg [⟨(.some 16), (.load true 4 (.t 3)), none⟩, ⟨none, (.store 4 (.t 2) (.t 16)), none⟩])
 .ret))))))), [(.cell 2 true 4)]⟩
def L125 : LFn := ⟨1, (.seq (.reg [⟨(.some 2), (.mv (.c (.lf (.bool false)))), none⟩])
 (.seq (.reg [⟨(.some 3), (.mv (.t 0)), none⟩, ⟨(.some 4), (.nilck (.t 3)), none⟩, ⟨(.some 5), (.faddr 0 (.t 4)), none⟩, ⟨(.some 6), (.load false 1 (.t 5)), none⟩, ⟨(.some 7), (.call true 73 [(.t 6), (.c (.lf (.int .i64 0))), (.c (.lf (.int .i64 1000)))]), none⟩, ⟨(.some 8), (.mv (.t 7)), none⟩, ⟨(.some 9), (.mv (.t 0)), (.some (8, true))⟩, ⟨(.some 10), (.nilck (.t 9)), (.some (8, true))⟩, ⟨(.some 11), (.faddr 1 (.t 10)), (.some (8, true))⟩, ⟨(.some 12), (.load false 1 (.t 11)), (.some (8, true))⟩, ⟨(.some 13), (.call true 73 [(.t 12), (.c (.lf (.int .i64 0))), (.c (.lf (.int .i64 1000)))]), (.some (8, true))⟩, ⟨(.some 14), (.pick (.t 8) (.t 13) (.c (.lf (.bool false)))), none⟩, ⟨(.some 15), (.mv (.t 14)), none⟩, ⟨(.some 16), (.mv (.t 0)), (.some (15, true))⟩, ⟨(.some 17), (.nilck (.t 16)), (.some (15, true))⟩, ⟨(.some 18), (.faddr 3 (.t 17)), (.some (15, true))⟩, ⟨(.some 19), (.load false 1 (.t 18)), (.some (15, true))⟩, ⟨(.some 20), (.call true 73 [(.t 19), (.c (.lf (.int .i64 0))), (.c (.lf (.int .i64 1000)))]), (.some (15, true))⟩, ⟨(.some 21), (.pick (.t 15) (.t 20) (.c (.lf (.bool false)))), none⟩, ⟨(.some 2), (.mv (.t 21)), none⟩])
 .ret)), [(.tmp 2)]⟩
def L152 : LFn := ⟨1, (.seq (.reg [⟨(.some 2), (.mv (.c (.lf (.bool false)))), none⟩])
 (.seq (.reg [⟨(.some 3), (.mv (.t 0)), none⟩, ⟨(.some 4), (.nilck (.t 3)), none⟩, ⟨(.some 5), (.faddr 0 (.t 4)), none⟩, ⟨(.some 6), (.load false 1 (.t 5)), none⟩, ⟨(.some 7), (.call true 73 [(.t 6), (.c (.lf (.int .i64 0))), (.c (.lf (.int .i64 1000)))]), none⟩, ⟨(.some 8), (.mv (.t 7)), none⟩, ⟨(.some 9), (.mv (.t 0)), (.some (8, true))⟩, ⟨(.some 10), (.nilck (.t 9)), (.some (8, true))⟩, ⟨(.some 11), (.faddr 1 (.t 10)), (.some (8, true))⟩, ⟨(.some 12), (.load false 1 (.t 11)), (.some (8, true))⟩, ⟨(.some 13), (.call true 73 [(.t 12), (.c (.lf (.int .i64 0))), (.c (.lf (.int .i64 1000)))]), (.some (8, true))⟩, ⟨(.some 14), (.pick (.t 8) (.t 13) (.c (.lf (.bool false)))), none⟩, ⟨(.some 15), (.mv (.t 14)), none⟩, ⟨(.some 16), (.mv (.t 0)), (.some (15, true))⟩, ⟨(.some 17), (.nilck (.t 16)), (.some (15, true))⟩, ⟨(.some 18), (.faddr 2 (.t 17)), (.some (15, true))⟩, ⟨(.some 19), (.load false 1 (.t 18)), (.some (15, true))⟩, ⟨(.some 20), (.call true 73 [(.t 19), (.c (.lf (.int .i64 0))), (.c (.lf (.int .i64 127)))]), (.some (15, true))⟩, ⟨(.some 21), (.pick (.t 15) (.t 20) (.c (.lf (.bool false)))), none⟩, ⟨(.some 2), (.mv (.t 21)), none⟩])
 .ret)), [(.tmp 2)]⟩
def L153 : LFn := ⟨2, (.seq (.reg [⟨(.some 4), (.mv (.c (.lf (.int .i64 0)))), none⟩])
 (.seq (.reg [⟨(.some 5), (.mv (.t 1)), none⟩, ⟨(.some 6), (.nilck (.t 5)), none⟩, ⟨(.some 7), (.faddr 0 (.t 6)), none⟩, ⟨(.some 8), (.load false 1 (.t 7)), none⟩, ⟨(.some 9), (.mv (.t 1)), none⟩, ⟨(.some 10), (.nilck (.t 9)), none⟩, ⟨(.some 11), (.faddr 1 (.t 10)), none⟩, ⟨(.some 12), (.load false 1 (.t 11)), none⟩, ⟨(.some 13), (.bin .add (.t 8) (.t 12)), none⟩, ⟨(.some 14), (.mv (.t 0)), none⟩, ⟨(.some 15), (.nilck (.t 14)), none⟩, ⟨(.some 16), (.faddr 3 (.t 15)), none⟩, ⟨(.some 17), (.load false 1 (.t 16)), none⟩, ⟨(.some 18), (.bin .add (.t 13) (.t 17)), none⟩, ⟨(.some 4), (.mv (.t 18)), none⟩])
 .ret)), [(.tmp 4)]⟩
def L154 : LFn := ⟨1, (.seq (.reg [⟨(.some 1), (.box 93 (.t 0)), none⟩, ⟨(.some 2), (.mv (.c (.lf (.bool false)))), none⟩])
 (.seq (.reg [⟨(.some 3), (.faddr 0 (.t 1)), none⟩, ⟨(.some 4), (.load false 1 (.t 3)), none⟩, ⟨(.some 5), (.call true 177 [(.t 4)]), none⟩, ⟨(.some 6), (.mv (.t 5)), none⟩, ⟨(.some 7), (.faddr 1 (.t 1)), (.some (6, true))⟩, ⟨(.some 8), (.load false 1 (.t 7)), (.some (6, true))⟩, ⟨(.some 9), (.call true 177 [(.t 8)]), (.some (6, true))⟩, ⟨(.some 10), (.pick (.t 6) (.t 9) (.c (.lf (.bool false)))), none⟩, ⟨(.some 11), (.mv (.t 10)), none⟩, ⟨(.some 12), (.faddr 3 (.t 1)), (.some (11, true))⟩, ⟨(.some 13), (.load false 1 (.t 12)), (.some (11, true))⟩, ⟨(.some 14), (.call true 177 [(.t 13)]), (.some (11, true))⟩, ⟨(.some 15), (.pick (.t 11) (.t 14) (.c (.lf (.bool false)))), none⟩, ⟨(.some 2), (.mv (.t 15)), none⟩])
 .ret)), [(.tmp 2)]⟩
def L178 : LFn := ⟨1, (.seq (.reg [⟨(.some 1), (.box 152 (.t 0)), none⟩, ⟨(.some 2), (.mv (.c (.lf (.bool false)))), none⟩])
 (.seq (.reg [⟨(.some 3), (.faddr 0 (.t 1)), none⟩, ⟨(.some 4), (.load false 1 (.t 3)), none⟩, ⟨(.some 5), (.call true 177 [(.t 4)]), none⟩, ⟨(.some 6), (.mv (.t 5)), none⟩, ⟨(.some 7), (.faddr 1 (.t 1)), (.some (6, true))⟩, ⟨(.some 8), (.load false 1 (.t 7)), (.some (6, true))⟩, ⟨(.some 9), (.call true 177 [(.t 8)]), (.some (6, true))⟩, ⟨(.some 10), (.pick (.t 6) (.t 9) (.c (.lf (.bool false)))), none⟩, ⟨(.some 11), (.mv (.t 10)), none⟩, ⟨(.some 12), (.faddr 2 (.t 1)), (.some (11, true))⟩, ⟨(.some 13), (.load false 1 (.t 12)), (.some (11, true))⟩, ⟨(.some 14), (.call true 123 [(.t 13)]), (.some (11, true))⟩, ⟨(.some 15), (.pick (.t 11) (.t 14) (.c (.lf (.bool false)))), none⟩, ⟨(.some 2), (.mv (.t 15)), none⟩])
 .ret)), [(.tmp 2)]⟩
def L177 : LFn := ⟨1, (.seq (.reg [⟨(.some 2), (.mv (.c (.lf (.bool false)))), none⟩])
 (.seq (.reg [⟨(.some 3), (.mv (.t 0)), none⟩, ⟨(.some 4), (.call true 133 [(.t 3), (.c (.lf (.int .i64 0))), (.c (.lf (.int .i64 1000)))]), none⟩, ⟨(.some 2), (.mv (.t 4)), none⟩])
 .ret)), [(.tmp 2)]⟩
def L123 : LFn := ⟨1, (.seq (.reg [⟨(.some 2), (.mv (.c (.lf (.bool false)))), none⟩])
 (.seq (.reg [⟨(.some 3), (.mv (.t 0)), none⟩, ⟨(.some 4), (.call true 133 [(.t 3), (.c (.lf (.int .i64 0))), (.c (.lf (.int .i64 127)))]), none⟩, ⟨(.some 2), (.mv (.t 4)), none⟩])
 .ret)), [(.tmp 2)]⟩
def L156 : LFn := ⟨2, (.seq (.reg [⟨(.some 2), (.box 93 (.t 0)), none⟩, ⟨(.some 3), (.box 152 (.t 1)), none⟩, ⟨(.some 4), (.mv (.c (.lf (.int .i64 0)))), none⟩])
 (.seq (.reg [⟨(.some 5), (.faddr 0 (.t 3)), none⟩, ⟨(.some 6), (.load false 1 (.t 5)), none⟩, ⟨(.some 7), (.faddr 1 (.t 3)), none⟩, ⟨(.some 8), (.load false 1 (.t 7)), none⟩, ⟨(.some 9), (.bin .add (.t 6) (.t 8)), none⟩, ⟨(.some 10), (.faddr 3 (.t 2)), none⟩, ⟨(.some 11), (.load false 1 (.t 10)), none⟩, ⟨(.some 12), (.bin .add (.t 9) (.t 11)), none⟩, ⟨(.some 4), (.mv (.t 12)), none⟩])
 .ret)), [(.tmp 4)]⟩
class HasV (S : Sys) : Prop extends HasA S where
  f66 : S.fs 66 = some L66
  f128 : S.fs 128 = some L128
  f125 : S.fs 125 = some L125
  f152 : S.fs 152 = some L152
  f153 : S.fs 153 = some L153
  f154 : S.fs 154 = some L154
  f178 : S.fs 178 = some L178
  f177 : S.fs 177 = some L177
  f123 : S.fs 123 = some L123
  f156 : S.fs 156 = some L156
def held3 (x y z : Int) : Bool := decide (0 ≤ x ∧ x ≤ 1000 ∧ 0 ≤ y ∧ y ≤ 1000 ∧ 0 ≤ z ∧ z ≤ 1000)
def noted (x y z : Int) : Bool := decide (0 ≤ x ∧ x ≤ 1000 ∧ 0 ≤ y ∧ y ≤ 1000 ∧ 0 ≤ z ∧ z ≤ 127)
section
variable {S : Sys} {lim : Nat} {h : Hp} {K : CV → Hp → Prop} [HasV S]
@[simp] theorem c_toEnvelope {a d r : Int} {s : Nat} : CallT S true 66 [.agg [.int .i64 a, .int .i64 d, .flt .f32 s, .int .i64 r]] h lim K = K (.agg [.int .i64 a, .int .i64 d, .flt .f32 s, .int .i64 r]) h := by
  refine CallT_pure (F := L66) (HasV.f66) rfl (by first | rfl | (split <;> rfl) | simp) ?_; unfold L66; dsimp only []
  repeat' (first | (simp (disch := first | omega | assumption | (simp only [List.length_set]; omega) | (simp [*] <;> fail) | assumption) [-Bool.decide_and, -Bool.decide_or, -Bool.not_and, -Bool.not_or, toNat_pred, toNat_succ, wrap64, wr_new, wr_new0, ok_if, ok_ifn, iadV_sl, makeV_int, decT, decF, over_at, *]) | (with_reducible refine Gd_split (fun hc => ?_) (fun hc => ?_) <;> (have hc2 := hc; try simp at hc2)) | (with_reducible refine Br_split (fun hc => ?_) (fun hc => ?_) <;> (have hc2 := hc; try simp at hc2)) | (with_reducible refine GdT_split (fun hc => ?_) (fun hc => ?_) <;> (have hc2 := hc; try simp at hc2)) | (with_reducible refine WT_alt ?_ ?_) | omega)
@[simp] theorem c_toNote {a d r : Int} {s : Nat} : CallT S true 128 [.agg [.int .i64 a, .int .i64 d, .int .i64 r, .flt .f32 s]] h lim K = K (.agg [.int .i64 a, .int .i64 d, .int .i64 r, .flt .f32 s]) h := by
  refine CallT_pure (F := L128) (HasV.f128) rfl (by first | rfl | (split <;> rfl) | simp) ?_; unfold L128; dsimp only []
  repeat' (first | (simp (disch := first | omega | assumption | (simp only [List.length_set]; omega) | (simp [*] <;> fail) | assumption) [-Bool.decide_and, -Bool.decide_or, -Bool.not_and, -Bool.not_or, toNat_pred, toNat_succ, wrap64, wr_new, wr_new0, ok_if, ok_ifn, iadV_sl, makeV_int, decT, decF, over_at, *]) | (with_reducible refine Gd_split (fun hc => ?_) (fun hc => ?_) <;> (have hc2 := hc; try simp at hc2)) | (with_reducible refine Br_split (fun hc => ?_) (fun hc => ?_) <;> (have hc2 := hc; try simp at hc2)) | (with_reducible refine GdT_split (fun hc => ?_) (fun hc => ?_) <;> (have hc2 := hc; try simp at hc2)) | (with_reducible refine WT_alt ?_ ?_) | omega)
@[simp] theorem c_isHeld {x : Int} : CallT S true 177 [.lf (.int .i64 x)] h lim K = K (.lf (.bool (decide (0 ≤ x ∧ x ≤ 1000)))) h := by
  refine CallT_pure (F := L177) (HasV.f177) rfl (by first | rfl | (split <;> rfl) | simp) ?_; unfold L177; dsimp only []
  repeat' (first | (simp (disch := first | omega | assumption | (simp only [List.length_set]; omega) | (simp [*] <;> fail) | assumption) [-Bool.decide_and, -Bool.decide_or, -Bool.not_and, -Bool.not_or, toNat_pred, toNat_succ, wrap64, wr_new, wr_new0, ok_if, ok_ifn, iadV_sl, makeV_int, decT, decF, over_at, *]) | (with_reducible refine Gd_split (fun hc => ?_) (fun hc => ?_) <;> (have hc2 := hc; try simp at hc2)) | (with_reducible refine Br_split (fun hc => ?_) (fun hc => ?_) <;> (have hc2 := hc; try simp at hc2)) | (with_reducible refine GdT_split (fun hc => ?_) (fun hc => ?_) <;> (have hc2 := hc; try simp at hc2)) | (with_reducible refine WT_alt ?_ ?_) | omega)
@[simp] theorem c_isPitch {x : Int} : CallT S true 123 [.lf (.int .i64 x)] h lim K = K (.lf (.bool (decide (0 ≤ x ∧ x ≤ 127)))) h := by
  refine CallT_pure (F := L123) (HasV.f123) rfl (by first | rfl | (split <;> rfl) | simp) ?_; unfold L123; dsimp only []
  repeat' (first | (simp (disch := first | omega | assumption | (simp only [List.length_set]; omega) | (simp [*] <;> fail) | assumption) [-Bool.decide_and, -Bool.decide_or, -Bool.not_and, -Bool.not_or, toNat_pred, toNat_succ, wrap64, wr_new, wr_new0, ok_if, ok_ifn, iadV_sl, makeV_int, decT, decF, over_at, *]) | (with_reducible refine Gd_split (fun hc => ?_) (fun hc => ?_) <;> (have hc2 := hc; try simp at hc2)) | (with_reducible refine Br_split (fun hc => ?_) (fun hc => ?_) <;> (have hc2 := hc; try simp at hc2)) | (with_reducible refine GdT_split (fun hc => ?_) (fun hc => ?_) <;> (have hc2 := hc; try simp at hc2)) | (with_reducible refine WT_alt ?_ ?_) | omega)
@[simp] theorem c_ValidEnvelope {a d r : Int} {s : Nat} : CallT S true 154 [.agg [.int .i64 a, .int .i64 d, .flt .f32 s, .int .i64 r]] h lim K = K (.lf (.bool (held3 a d r))) h := by
  unfold held3
  refine CallT_pure (F := L154) (HasV.f154) rfl (by first | rfl | (split <;> rfl) | simp) ?_; unfold L154; dsimp only []
  repeat' (first | (simp (disch := first | omega | assumption | (simp only [List.length_set]; omega) | (simp [*] <;> fail) | assumption) [-Bool.decide_and, -Bool.decide_or, -Bool.not_and, -Bool.not_or, toNat_pred, toNat_succ, wrap64, wr_new, wr_new0, ok_if, ok_ifn, iadV_sl, makeV_int, decT, decF, over_at, *]) | (with_reducible refine Gd_split (fun hc => ?_) (fun hc => ?_) <;> (have hc2 := hc; try simp at hc2)) | (with_reducible refine Br_split (fun hc => ?_) (fun hc => ?_) <;> (have hc2 := hc; try simp at hc2)) | (with_reducible refine GdT_split (fun hc => ?_) (fun hc => ?_) <;> (have hc2 := hc; try simp at hc2)) | (with_reducible refine WT_alt ?_ ?_) | omega)
@[simp] theorem c_isNote {a d r : Int} {s : Nat} : CallT S true 178 [.agg [.int .i64 a, .int .i64 d, .int .i64 r, .flt .f32 s]] h lim K = K (.lf (.bool (noted a d r))) h := by
  unfold noted
  refine CallT_pure (F := L178) (HasV.f178) rfl (by first | rfl | (split <;> rfl) | simp) ?_; unfold L178; dsimp only []
  repeat' (first | (simp (disch := first | omega | assumption | (simp only [List.length_set]; omega) | (simp [*] <;> fail) | assumption) [-Bool.decide_and, -Bool.decide_or, -Bool.not_and, -Bool.not_or, toNat_pred, toNat_succ, wrap64, wr_new, wr_new0, ok_if, ok_ifn, iadV_sl, makeV_int, decT, decF, over_at, *]) | (with_reducible refine Gd_split (fun hc => ?_) (fun hc => ?_) <;> (have hc2 := hc; try simp at hc2)) | (with_reducible refine Br_split (fun hc => ?_) (fun hc => ?_) <;> (have hc2 := hc; try simp at hc2)) | (with_reducible refine GdT_split (fun hc => ?_) (fun hc => ?_) <;> (have hc2 := hc; try simp at hc2)) | (with_reducible refine WT_alt ?_ ?_) | omega)
@[simp] theorem c_implEnd {a d r b e p : Int} {s g : Nat} (h1 : held3 a d r = true) (h2 : noted b e p = true) : CallT S true 156 [.agg [.int .i64 a, .int .i64 d, .flt .f32 s, .int .i64 r], .agg [.int .i64 b, .int .i64 e, .int .i64 p, .flt .f32 g]] h lim K = K (.lf (.int .i64 (b + e + r))) h := by
  simp only [held3, noted, decide_eq_true_eq] at h1 h2
  refine CallT_pure (F := L156) (HasV.f156) rfl (by first | rfl | (split <;> rfl) | simp) ?_; unfold L156; dsimp only []
  repeat' (first | (simp (disch := first | omega | assumption | (simp only [List.length_set]; omega) | (simp [*] <;> fail) | assumption) [-Bool.decide_and, -Bool.decide_or, -Bool.not_and, -Bool.not_or, toNat_pred, toNat_succ, wrap64, wr_new, wr_new0, ok_if, ok_ifn, iadV_sl, makeV_int, decT, decF, over_at, *]) | (with_reducible refine Gd_split (fun hc => ?_) (fun hc => ?_) <;> (have hc2 := hc; try simp at hc2)) | (with_reducible refine Br_split (fun hc => ?_) (fun hc => ?_) <;> (have hc2 := hc; try simp at hc2)) | (with_reducible refine GdT_split (fun hc => ?_) (fun hc => ?_) <;> (have hc2 := hc; try simp at hc2)) | (with_reducible refine WT_alt ?_ ?_) | omega)
def envL : List Lf → Option (Int × Int × Nat × Int)
  | [.int .i64 a, .int .i64 d, .flt .f32 s, .int .i64 r] => some (a, d, s, r)
  | _ => none
theorem envL_some {ls : List Lf} {a d r : Int} {s : Nat} (h : envL ls = some (a, d, s, r)) : ls = [.int .i64 a, .int .i64 d, .flt .f32 s, .int .i64 r] := by
  unfold envL at h; split at h
  · injection h with h; simp only [Prod.mk.injEq] at h; obtain ⟨rfl, rfl, rfl, rfl⟩ := h; rfl
  · cases h
@[simp] theorem c_l05Envelope {id off : Nat} {a d r : Int} {s : Nat} (hr : rdCells h id off 4 = some [.int .i64 a, .int .i64 d, .flt .f32 s, .int .i64 r]) : CallT S true 125 [.lf (.ptr id off)] h lim K = K (.lf (.bool (held3 a d r))) h := by
  have r0 := rd_sub hr (j := 0) (m := 1) (by omega)
  have r1 := rd_sub hr (j := 1) (m := 1) (by omega)
  have r3 := rd_sub hr (j := 3) (m := 1) (by omega)
  simp at r0 r1 r3
  unfold held3
  refine CallT_pure (F := L125) (HasV.f125) rfl (by first | rfl | (split <;> rfl) | simp) ?_; unfold L125; dsimp only []
  repeat' (first | (simp (disch := first | omega | assumption | (simp only [List.length_set]; omega) | (simp [*] <;> fail) | assumption) [-Bool.decide_and, -Bool.decide_or, -Bool.not_and, -Bool.not_or, toNat_pred, toNat_succ, wrap64, wr_new, wr_new0, ok_if, ok_ifn, iadV_sl, makeV_int, decT, decF, over_at, *]) | (with_reducible refine Gd_split (fun hc => ?_) (fun hc => ?_) <;> (have hc2 := hc; try simp at hc2)) | (with_reducible refine Br_split (fun hc => ?_) (fun hc => ?_) <;> (have hc2 := hc; try simp at hc2)) | (with_reducible refine GdT_split (fun hc => ?_) (fun hc => ?_) <;> (have hc2 := hc; try simp at hc2)) | (with_reducible refine WT_alt ?_ ?_) | omega)
@[simp] theorem c_l05Note {id off : Nat} {a d r : Int} {s : Nat} (hr : rdCells h id off 4 = some [.int .i64 a, .int .i64 d, .int .i64 r, .flt .f32 s]) : CallT S true 152 [.lf (.ptr id off)] h lim K = K (.lf (.bool (noted a d r))) h := by
  have r0 := rd_sub hr (j := 0) (m := 1) (by omega)
  have r1 := rd_sub hr (j := 1) (m := 1) (by omega)
  have r3 := rd_sub hr (j := 2) (m := 1) (by omega)
  simp at r0 r1 r3
  unfold noted
  refine CallT_pure (F := L152) (HasV.f152) rfl (by first | rfl | (split <;> rfl) | simp) ?_; unfold L152; dsimp only []
  repeat' (first | (simp (disch := first | omega | assumption | (simp only [List.length_set]; omega) | (simp [*] <;> fail) | assumption) [-Bool.decide_and, -Bool.decide_or, -Bool.not_and, -Bool.not_or, toNat_pred, toNat_succ, wrap64, wr_new, wr_new0, ok_if, ok_ifn, iadV_sl, makeV_int, decT, decF, over_at, *]) | (with_reducible refine Gd_split (fun hc => ?_) (fun hc => ?_) <;> (have hc2 := hc; try simp at hc2)) | (with_reducible refine Br_split (fun hc => ?_) (fun hc => ?_) <;> (have hc2 := hc; try simp at hc2)) | (with_reducible refine GdT_split (fun hc => ?_) (fun hc => ?_) <;> (have hc2 := hc; try simp at hc2)) | (with_reducible refine WT_alt ?_ ?_) | omega)
@[simp] theorem c_l05End {id off id2 off2 : Nat} {a d r b e p : Int} {s g : Nat} (hr : rdCells h id off 4 = some [.int .i64 a, .int .i64 d, .flt .f32 s, .int .i64 r]) (hr2 : rdCells h id2 off2 4 = some [.int .i64 b, .int .i64 e, .int .i64 p, .flt .f32 g]) (h1 : held3 a d r = true) (h2 : noted b e p = true) : CallT S true 153 [.lf (.ptr id off), .lf (.ptr id2 off2)] h lim K = K (.lf (.int .i64 (b + e + r))) h := by
  have r0 := rd_sub hr2 (j := 0) (m := 1) (by omega)
  have r1 := rd_sub hr2 (j := 1) (m := 1) (by omega)
  have r3 := rd_sub hr (j := 3) (m := 1) (by omega)
  simp at r0 r1 r3
  simp only [held3, noted, decide_eq_true_eq] at h1 h2
  refine CallT_pure (F := L153) (HasV.f153) rfl (by first | rfl | (split <;> rfl) | simp) ?_; unfold L153; dsimp only []
  repeat' (first | (simp (disch := first | omega | assumption | (simp only [List.length_set]; omega) | (simp [*] <;> fail) | assumption) [-Bool.decide_and, -Bool.decide_or, -Bool.not_and, -Bool.not_or, toNat_pred, toNat_succ, wrap64, wr_new, wr_new0, ok_if, ok_ifn, iadV_sl, makeV_int, decT, decF, over_at, *]) | (with_reducible refine Gd_split (fun hc => ?_) (fun hc => ?_) <;> (have hc2 := hc; try simp at hc2)) | (with_reducible refine Br_split (fun hc => ?_) (fun hc => ?_) <;> (have hc2 := hc; try simp at hc2)) | (with_reducible refine GdT_split (fun hc => ?_) (fun hc => ?_) <;> (have hc2 := hc; try simp at hc2)) | (with_reducible refine WT_alt ?_ ?_) | omega)
def endOfNote (a d r b e p : Int) : List TV := if held3 a d r = true ∧ noted b e p = true then [.lf (.int .i64 (b + e + r)), .lf (.bool true)] else [.lf (.int .i64 0), .lf (.bool false)]
end
end Go.E
