/- Levels of envelopes, both sides. -/
import Derived.Test.YtkabbddhdnddoaaMV
set_option linter.unusedVariables false
set_option linter.unusedSimpArgs false
namespace Go.E
open Go
def L51 : LFn := ⟨2, (.seq (.reg [⟨(.some 4), (.mv (.c (.lf (.flt .f32 0)))), none⟩])
 (.seq (.reg [⟨(.some 5), (.mv (.t 0)), none⟩, ⟨(.some 6), (.toflt .f32 (.t 5)), none⟩, ⟨(.some 7), (.mv (.t 1)), none⟩, ⟨(.some 8), (.toflt .f32 (.t 7)), none⟩, ⟨(.some 9), (.bin .quo (.t 6) (.t 8)), none⟩, ⟨(.some 4), (.mv (.t 9)), none⟩])
 .ret)), [(.tmp 4)]⟩
def L50 : LFn := ⟨2, (.seq (.reg [⟨(.some 2), (.box 26 (.t 0)), none⟩, ⟨(.some 4), (.mv (.c (.lf (.flt .f32 0)))), none⟩])
 (.seq (.reg [⟨(.some 6), (.mv (.t 1)), none⟩, ⟨(.some 7), (.faddr 0 (.t 2)), none⟩, ⟨(.some 8), (.load false 1 (.t 7)), none⟩, ⟨(.some 9), (.bin .sub (.t 6) (.t 8)), none⟩, ⟨(.some 5), (.mv (.t 9)), none⟩])
 (.seq (.block 0 (.seq (.reg [⟨(.some 11), (.mv (.t 5)), none⟩, ⟨(.some 12), (.bin .lss (.t 11) (.c (.lf (.int .i64 0)))), none⟩, ⟨(.some 10), (.mv (.t 12)), none⟩])
 (.cond (.t 10) (.seq (.reg [⟨(.some 13), (.mv (.t 1)), none⟩, ⟨(.some 14), (.faddr 0 (.t 2)), none⟩, ⟨(.some 15), (.load false 1 (.t 14)), none⟩, ⟨(.some 16), (.call true 51 [(.t 13), (.t 15)]), none⟩, ⟨(.some 4), (.mv (.t 16)), none⟩])
 .ret) (.seq (.reg [⟨(.some 18), (.mv (.t 5)), none⟩, ⟨(.some 19), (.faddr 1 (.t 2)), none⟩, ⟨(.some 20), (.load false 1 (.t 19)), none⟩, ⟨(.some 21), (.bin .lss (.t 18) (.t 20)), none⟩, ⟨(.some 17), (.mv (.t 21)), none⟩])
 (.cond (.t 17) (.seq (.reg [⟨(.some 22), (.mv (.t 5)), none⟩, ⟨(.some 23), (.faddr 1 (.t 2)), none⟩, ⟨(.some 24), (.load false 1 (.t 23)), none⟩, ⟨(.some 25), (.call true 51 [(.t 22), (.t 24)]), none⟩, ⟨(.some 26), (.faddr 2 (.t 2)), none⟩, ⟨(.some 27), (.load false 1 (.t 26)), none⟩, ⟨(.some 28), (.bin .sub (.c (.lf (.flt .f32 1065353216))) (.t 27)), none⟩, ⟨(.some 29), (.bin .mul (.t 25) (.t 28)), none⟩, ⟨(.some 30), (.bin .sub (.c (.lf (.flt .f32 1065353216))) (.t 29)), none⟩, ⟨(.some 4), (.mv (.t 30)), none⟩])
 .ret) .skip)))))
 (.seq (.reg [⟨(.some 31), (.faddr 2 (.t 2)), none⟩, ⟨(.some 32), (.load false 1 (.t 31)), none⟩, ⟨(.some 4), (.mv (.t 32)), none⟩])
 .ret)))), [(.tmp 4)]⟩
def L42 : LFn := ⟨3, (.seq (.reg [⟨(.some 3), (.box 26 (.t 0)), none⟩, ⟨(.some 6), (.mv (.c (.lf (.flt .f32 0)))), none⟩])
 (.seq (.seq (.reg [⟨(.some 8), (.mv (.t 2)), none⟩, ⟨(.some 9), (.mv (.t 1)), none⟩, ⟨(.some 10), (.bin .lss (.t 8) (.t 9)), none⟩])
 (.cond (.t 10) (.seq (.reg [⟨(.some 11), (.load true 4 (.t 3)), none⟩, ⟨(.some 12), (.mv (.t 2)), none⟩, ⟨(.some 13), (.call true 50 [(.t 11), (.t 12)]), none⟩, ⟨(.some 6), (.mv (.t 13)), none⟩])
 .ret) .skip))
 (.seq (.reg [⟨(.some 14), (.mv (.t 2)), none⟩, ⟨(.some 15), (.mv (.t 1)), none⟩, ⟨(.some 16), (.bin .sub (.t 14) (.t 15)), none⟩, ⟨(.some 7), (.mv (.t 16)), none⟩])
 (.seq (.seq (.reg [⟨(.some 17), (.mv (.t 7)), none⟩, ⟨(.some 18), (.faddr 3 (.t 3)), none⟩, ⟨(.some 19), (.load false 1 (.t 18)), none⟩, ⟨(.some 20), (.bin .geq (.t 17) (.t 19)), none⟩])
 (.cond (.t 20) (.seq (.reg [⟨(.some 6), (.mv (.c (.lf (.flt .f32 0)))), none⟩])
 .ret) .skip))
 (.seq (.reg [⟨(.some 21), (.load true 4 (.t 3)), none⟩, ⟨(.some 22), (.mv (.t 1)), none⟩, ⟨(.some 23), (.call true 50 [(.t 21), (.t 22)]), none⟩, ⟨(.some 24), (.mv (.t 7)), none⟩, ⟨(.some 25), (.faddr 3 (.t 3)), none⟩, ⟨(.some 26), (.load false 1 (.t 25)), none⟩, ⟨(.some 27), (.call true 51 [(.t 24), (.t 26)]), none⟩, ⟨(.some 28), (.bin .sub (.c (.lf (.flt .f32 1065353216))) (.t 27)), none⟩, ⟨(.some 29), (.bin .mul (.t 23) (.t 28)), none⟩, ⟨(.some 6), (.mv (.t 29)), none⟩])
 .ret))))), [(.tmp 6)]⟩
class HasLv (S : Sys) : Prop extends HasV S where
  f51 : S.fs 51 = some L51
  f50 : S.fs 50 = some L50
  f42 : S.fs 42 = some L42
/-- The level as long as it is held. -/
def holdF (a d : Int) (s : Nat) (n : Int) : Nat := if n < a then fbin .quo .f32 (fofint .f32 n) (fofint .f32 a) else if n - a < d then fbin .sub .f32 1065353216 (fbin .mul .f32 (fbin .quo .f32 (fofint .f32 (n - a)) (fofint .f32 d)) (fbin .sub .f32 1065353216 s)) else s
def levF (a d : Int) (s : Nat) (r u n : Int) : Nat := if n < u then holdF a d s n else if r ≤ n - u then 0 else fbin .mul .f32 (holdF a d s u) (fbin .sub .f32 1065353216 (fbin .quo .f32 (fofint .f32 (n - u)) (fofint .f32 r)))
section
variable {S : Sys} {lim : Nat} {h : Hp} {K : CV → Hp → Prop} [HasLv S] {a d r u n : Int} {s id off : Nat}
theorem env_parts (hr : rdCells h id off 4 = some [.int .i64 a, .int .i64 d, .flt .f32 s, .int .i64 r]) : rdCells h id off 1 = some [.int .i64 a] ∧ rdCells h id (off + 1) 1 = some [.int .i64 d] ∧ rdCells h id (off + 2) 1 = some [.flt .f32 s] ∧ rdCells h id (off + 3) 1 = some [.int .i64 r] := by
  have r0 := rd_sub hr (j := 0) (m := 1) (by omega)
  have r1 := rd_sub hr (j := 1) (m := 1) (by omega)
  have r2 := rd_sub hr (j := 2) (m := 1) (by omega)
  have r3 := rd_sub hr (j := 3) (m := 1) (by omega)
  simp at r0 r1 r2 r3
  exact ⟨r0, r1, r2, r3⟩
@[simp] theorem c_share {x y : Int} : CallT S true 51 [.lf (.int .i64 x), .lf (.int .i64 y)] h lim K = K (.lf (.flt .f32 (fbin .quo .f32 (fofint .f32 x) (fofint .f32 y)))) h := by
  refine CallT_pure (F := L51) (HasLv.f51) rfl (by first | rfl | (split <;> rfl) | simp) ?_; unfold L51; dsimp only []
  repeat' (first | (simp (disch := first | omega | assumption | (simp only [List.length_set]; omega) | (simp [*] <;> fail) | assumption) [-Bool.decide_and, -Bool.decide_or, -Bool.not_and, -Bool.not_or, toNat_pred, toNat_succ, wrap64, wr_new, wr_new0, ok_if, ok_ifn, iadV_sl, makeV_int, decT, decF, over_at, *]) | (with_reducible refine Gd_split (fun hc => ?_) (fun hc => ?_) <;> (have hc2 := hc; try simp at hc2)) | (with_reducible refine Br_split (fun hc => ?_) (fun hc => ?_) <;> (have hc2 := hc; try simp at hc2)) | (with_reducible refine GdT_split (fun hc => ?_) (fun hc => ?_) <;> (have hc2 := hc; try simp at hc2)) | (with_reducible refine WT_alt ?_ ?_) | omega)
theorem c_holding (ha : 0 ≤ a ∧ a ≤ 1000) (hn : 0 ≤ n ∧ n ≤ 10000) : CallT S true 50 [.agg [.int .i64 a, .int .i64 d, .flt .f32 s, .int .i64 r], .lf (.int .i64 n)] h lim K = K (.lf (.flt .f32 (holdF a d s n))) h := by
  unfold holdF
  by_cases h1 : n < a
  · rw [if_pos h1]
    have h1' : n - a < 0 := by omega
    refine CallT_pure (F := L50) (HasLv.f50) rfl (by first | rfl | (split <;> rfl) | simp) ?_; unfold L50; dsimp only []
    repeat' (first | (simp (disch := first | omega | assumption | (simp only [List.length_set]; omega) | (simp [*] <;> fail) | assumption) [-Bool.decide_and, -Bool.decide_or, -Bool.not_and, -Bool.not_or, toNat_pred, toNat_succ, wrap64, wr_new, wr_new0, ok_if, ok_ifn, iadV_sl, makeV_int, decT, decF, over_at, *]) | (with_reducible refine Gd_split (fun hc => ?_) (fun hc => ?_) <;> (have hc2 := hc; try simp at hc2)) | (with_reducible refine Br_split (fun hc => ?_) (fun hc => ?_) <;> (have hc2 := hc; try simp at hc2)) | (with_reducible refine GdT_split (fun hc => ?_) (fun hc => ?_) <;> (have hc2 := hc; try simp at hc2)) | (with_reducible refine WT_alt ?_ ?_) | omega)
  · rw [if_neg h1]
    have h1' : ¬ n - a < 0 := by omega
    by_cases h2 : n - a < d
    · rw [if_pos h2]
      refine CallT_pure (F := L50) (HasLv.f50) rfl (by first | rfl | (split <;> rfl) | simp) ?_; unfold L50; dsimp only []
      repeat' (first | (simp (disch := first | omega | assumption | (simp only [List.length_set]; omega) | (simp [*] <;> fail) | assumption) [-Bool.decide_and, -Bool.decide_or, -Bool.not_and, -Bool.not_or, toNat_pred, toNat_succ, wrap64, wr_new, wr_new0, ok_if, ok_ifn, iadV_sl, makeV_int, decT, decF, over_at, *]) | (with_reducible refine Gd_split (fun hc => ?_) (fun hc => ?_) <;> (have hc2 := hc; try simp at hc2)) | (with_reducible refine Br_split (fun hc => ?_) (fun hc => ?_) <;> (have hc2 := hc; try simp at hc2)) | (with_reducible refine GdT_split (fun hc => ?_) (fun hc => ?_) <;> (have hc2 := hc; try simp at hc2)) | (with_reducible refine WT_alt ?_ ?_) | omega)
    · rw [if_neg h2]
      refine CallT_pure (F := L50) (HasLv.f50) rfl (by first | rfl | (split <;> rfl) | simp) ?_; unfold L50; dsimp only []
      repeat' (first | (simp (disch := first | omega | assumption | (simp only [List.length_set]; omega) | (simp [*] <;> fail) | assumption) [-Bool.decide_and, -Bool.decide_or, -Bool.not_and, -Bool.not_or, toNat_pred, toNat_succ, wrap64, wr_new, wr_new0, ok_if, ok_ifn, iadV_sl, makeV_int, decT, decF, over_at, *]) | (with_reducible refine Gd_split (fun hc => ?_) (fun hc => ?_) <;> (have hc2 := hc; try simp at hc2)) | (with_reducible refine Br_split (fun hc => ?_) (fun hc => ?_) <;> (have hc2 := hc; try simp at hc2)) | (with_reducible refine GdT_split (fun hc => ?_) (fun hc => ?_) <;> (have hc2 := hc; try simp at hc2)) | (with_reducible refine WT_alt ?_ ?_) | omega)
theorem c_level (ha : 0 ≤ a ∧ a ≤ 1000) (hu : 0 ≤ u ∧ u ≤ 4000) (hn : 0 ≤ n ∧ n ≤ 10000) : CallT S true 42 [.agg [.int .i64 a, .int .i64 d, .flt .f32 s, .int .i64 r], .lf (.int .i64 u), .lf (.int .i64 n)] h lim K = K (.lf (.flt .f32 (levF a d s r u n))) h := by
  have h1 := fun h lim K => c_holding (S := S) (h := h) (lim := lim) (K := K) (n := n) (a := a) (d := d) (s := s) (r := r) ha hn
  have h2 := fun h lim K => c_holding (S := S) (h := h) (lim := lim) (K := K) (n := u) (a := a) (d := d) (s := s) (r := r) ha (by omega)
  unfold levF
  generalize holdF a d s n = x at *
  generalize holdF a d s u = y at *
  by_cases k1 : n < u
  · rw [if_pos k1]
    refine CallT_pure (F := L42) (HasLv.f42) rfl (by first | rfl | (split <;> rfl) | simp) ?_; unfold L42; dsimp only []
    repeat' (first | (simp (disch := first | omega | assumption | (simp only [List.length_set]; omega) | (simp [*] <;> fail) | assumption) [-Bool.decide_and, -Bool.decide_or, -Bool.not_and, -Bool.not_or, toNat_pred, toNat_succ, wrap64, wr_new, wr_new0, ok_if, ok_ifn, iadV_sl, makeV_int, decT, decF, over_at, *]) | (with_reducible refine Gd_split (fun hc => ?_) (fun hc => ?_) <;> (have hc2 := hc; try simp at hc2)) | (with_reducible refine Br_split (fun hc => ?_) (fun hc => ?_) <;> (have hc2 := hc; try simp at hc2)) | (with_reducible refine GdT_split (fun hc => ?_) (fun hc => ?_) <;> (have hc2 := hc; try simp at hc2)) | (with_reducible refine WT_alt ?_ ?_) | omega)
  · rw [if_neg k1]
    by_cases k2 : r ≤ n - u
    · rw [if_pos k2]
      refine CallT_pure (F := L42) (HasLv.f42) rfl (by first | rfl | (split <;> rfl) | simp) ?_; unfold L42; dsimp only []
      repeat' (first | (simp (disch := first | omega | assumption | (simp only [List.length_set]; omega) | (simp [*] <;> fail) | assumption) [-Bool.decide_and, -Bool.decide_or, -Bool.not_and, -Bool.not_or, toNat_pred, toNat_succ, wrap64, wr_new, wr_new0, ok_if, ok_ifn, iadV_sl, makeV_int, decT, decF, over_at, *]) | (with_reducible refine Gd_split (fun hc => ?_) (fun hc => ?_) <;> (have hc2 := hc; try simp at hc2)) | (with_reducible refine Br_split (fun hc => ?_) (fun hc => ?_) <;> (have hc2 := hc; try simp at hc2)) | (with_reducible refine GdT_split (fun hc => ?_) (fun hc => ?_) <;> (have hc2 := hc; try simp at hc2)) | (with_reducible refine WT_alt ?_ ?_) | omega)
    · rw [if_neg k2]
      refine CallT_pure (F := L42) (HasLv.f42) rfl (by first | rfl | (split <;> rfl) | simp) ?_; unfold L42; dsimp only []
      repeat' (first | (simp (disch := first | omega | assumption | (simp only [List.length_set]; omega) | (simp [*] <;> fail) | assumption) [-Bool.decide_and, -Bool.decide_or, -Bool.not_and, -Bool.not_or, toNat_pred, toNat_succ, wrap64, wr_new, wr_new0, ok_if, ok_ifn, iadV_sl, makeV_int, decT, decF, over_at, *]) | (with_reducible refine Gd_split (fun hc => ?_) (fun hc => ?_) <;> (have hc2 := hc; try simp at hc2)) | (with_reducible refine Br_split (fun hc => ?_) (fun hc => ?_) <;> (have hc2 := hc; try simp at hc2)) | (with_reducible refine GdT_split (fun hc => ?_) (fun hc => ?_) <;> (have hc2 := hc; try simp at hc2)) | (with_reducible refine WT_alt ?_ ?_) | omega)
end
end Go.E
