/- Oscillators, both sides. -/
import Derived.Test.YtpakemggfjmfcaaMWa
import Derived.Test.YtpakemggfjmfcaaMD
set_option linter.unusedVariables false
set_option linter.unusedSimpArgs false
set_option exponentiation.threshold 3000
namespace Go.E
open Go
def L133 : LFn := ⟨1, (.seq (.reg [⟨(.some 2), (.mv (.c (.lf (.bool false)))), none⟩])
 (.seq (.reg [⟨(.some 3), (.mv (.t 0)), none⟩, ⟨(.some 4), (.nilck (.t 3)), none⟩, ⟨(.some 5), (.faddr 0 (.t 4)), none⟩, ⟨(.some 6), (.load false 1 (.t 5)), none⟩, ⟨(.some 7), (.call true 169 [(.t 6)]), none⟩, ⟨(.some 8), (.mv (.t 7)), none⟩, ⟨(.some 9), (.mv (.t 0)), (.some (8, true))⟩, ⟨(.some 10), (.nilck (.t 9)), (.some (8, true))⟩, ⟨(.some 11), (.faddr 1 (.t 10)), (.some (8, true))⟩, ⟨(.some 12), (.load false 1 (.t 11)), (.some (8, true))⟩, ⟨(.some 13), (.call true 170 [(.t 12)]), (.some (8, true))⟩, ⟨(.some 14), (.pick (.t 8) (.t 13) (.c (.lf (.bool false)))), none⟩, ⟨(.some 15), (.mv (.t 14)), none⟩, ⟨(.some 16), (.mv (.t 0)), (.some (15, true))⟩, ⟨(.some 17), (.nilck (.t 16)), (.some (15, true))⟩, ⟨(.some 18), (.faddr 2 (.t 17)), (.some (15, true))⟩, ⟨(.some 19), (.load false 1 (.t 18)), (.some (15, true))⟩, ⟨(.some 20), (.call true 170 [(.t 19)]), (.some (15, true))⟩, ⟨(.some 21), (.pick (.t 15) (.t 20) (.c (.lf (.bool false)))), none⟩, ⟨(.some 2), (.mv (.t 21)), none⟩])
 .ret)), [(.tmp 2)]⟩
def L134 : LFn := ⟨1, (.seq (.reg [⟨(.some 2), (.mv (.c (.lf (.bool false)))), none⟩])
 (.seq (.reg [⟨(.some 3), (.mv (.t 0)), none⟩, ⟨(.some 4), (.call true 93 [(.t 3), (.c (.lf (.int .i64 0))), (.c (.lf (.int .i64 256)))]), none⟩, ⟨(.some 2), (.mv (.t 4)), none⟩])
 .ret)), [(.tmp 2)]⟩
def L136 : LFn := ⟨2, (.seq (.reg [⟨(.some 4), (.mv (.c (.lf (.flt .f32 0)))), none⟩])
 (.seq (.reg [⟨(.some 6), (.mv (.t 0)), none⟩, ⟨(.some 7), (.mv (.t 1)), none⟩, ⟨(.some 8), (.bin .add (.t 6) (.t 7)), none⟩, ⟨(.some 5), (.mv (.t 8)), none⟩])
 (.seq (.seq (.reg [⟨(.some 9), (.mv (.t 5)), none⟩, ⟨(.some 10), (.bin .geq (.t 9) (.c (.lf (.flt .f32 1065353216)))), none⟩])
 (.cond (.t 10) (.reg [⟨(.some 11), (.mv (.t 5)), none⟩, ⟨(.some 12), (.bin .sub (.t 11) (.c (.lf (.flt .f32 1065353216)))), none⟩, ⟨(.some 5), (.mv (.t 12)), none⟩]) .skip))
 (.seq (.reg [⟨(.some 13), (.mv (.t 5)), none⟩, ⟨(.some 4), (.mv (.t 13)), none⟩])
 .ret)))), [(.tmp 4)]⟩
def L62 : LFn := ⟨2, (.seq (.reg [⟨(.some 2), (.box 95 (.t 0)), none⟩, ⟨(.some 4), (.mv (.c (.lf .nils))), none⟩, ⟨(.some 5), (.alloc 95 [(.int .i64 0), (.flt .f32 0), (.flt .f32 0)]), none⟩, ⟨(.some 6), (.mv (.c (.lf (.bool false)))), none⟩])
 (.seq (.seq (.reg [⟨(.some 8), (.call true 133 [(.t 2)]), none⟩, ⟨(.some 9), (.una .not (.t 8)), none⟩, ⟨(.some 10), (.mv (.t 9)), none⟩, ⟨(.some 11), (.mv (.t 1)), (.some (10, false))⟩, ⟨(.some 12), (.call true 134 [(.t 11)]), (.some (10, false))⟩, ⟨(.some 13), (.una .not (.t 12)), (.some (10, false))⟩, ⟨(.some 14), (.pick (.t 10) (.c (.lf (.bool true))) (.t 13)), none⟩])
 (.cond (.t 14) (.seq (.reg [⟨(.some 15), (.build [(.int .i64 0), (.flt .f32 0), (.flt .f32 0)] []), none⟩, ⟨(.some 4), (.mv (.c (.lf .nils))), none⟩, ⟨none, (.store 3 (.t 5) (.t 15)), none⟩, ⟨(.some 6), (.mv (.c (.lf (.bool false)))), none⟩])
 .ret) .skip))
 (.seq (.reg [⟨(.some 16), (.lit 22 1 0 [] []), none⟩, ⟨(.some 7), (.mv (.t 16)), none⟩])
 (.seq (.block 0 (.loop (.seq (.seq (.reg [⟨(.some 17), (.mv (.t 1)), none⟩, ⟨(.some 18), (.bin .gtr (.t 17) (.c (.lf (.int .i64 0)))), none⟩])
 (.cond (.t 18) .skip (.exit 0)))
 (.seq (.block 1 (.seq (.reg [⟨(.some 21), (.mv (.t 7)), none⟩, ⟨(.some 22), (.faddr 0 (.t 2)), none⟩, ⟨(.some 23), (.load false 1 (.t 22)), none⟩, ⟨(.some 24), (.faddr 2 (.t 2)), none⟩, ⟨(.some 25), (.load false 1 (.t 24)), none⟩, ⟨(.some 26), (.call true 135 [(.t 23), (.t 25)]), none⟩, ⟨(.some 27), (.lit 22 1 1 [(.flt .f32 0)] [(0, (1, (.t 26)))]), none⟩, ⟨(.some 28), (.app 22 1 4 (.t 21) (.t 27)), none⟩, ⟨(.some 7), (.mv (.t 28)), none⟩])
 (.reg [⟨(.some 29), (.faddr 2 (.t 2)), none⟩, ⟨(.some 30), (.load false 1 (.t 29)), none⟩, ⟨(.some 31), (.faddr 1 (.t 2)), none⟩, ⟨(.some 32), (.load false 1 (.t 31)), none⟩, ⟨(.some 33), (.call true 136 [(.t 30), (.t 32)]), none⟩, ⟨(.some 34), (.faddr 2 (.t 2)), none⟩, ⟨none, (.store 1 (.t 34) (.t 33)), none⟩])))
 (.reg [⟨(.some 19), (.mv (.t 1)), none⟩, ⟨(.some 20), (.bin .sub (.t 19) (.c (.lf (.int .i64 1)))), none⟩, ⟨(.some 1), (.mv (.t 20)), none⟩])))))
 (.seq (.reg [⟨(.some 35), (.mv (.t 7)), none⟩, ⟨(.some 36), (.load true 3 (.t 2)), none⟩, ⟨(.some 4), (.mv (.t 35)), none⟩, ⟨none, (.store 3 (.t 5) (.t 36)), none⟩, ⟨(.some 6), (.mv (.c (.lf (.bool true)))), none⟩])
 .ret))))), [(.tmp 4), (.cell 5 true 3), (.tmp 6)]⟩
def L137 : LFn := ⟨1, (.seq (.reg [⟨(.some 1), (.box 95 (.t 0)), none⟩, ⟨(.some 2), (.mv (.c (.lf (.bool false)))), none⟩])
 (.seq (.reg [⟨(.some 3), (.faddr 0 (.t 1)), none⟩, ⟨(.some 4), (.load false 1 (.t 3)), none⟩, ⟨(.some 5), (.call true 113 [(.t 4)]), none⟩, ⟨(.some 6), (.mv (.t 5)), none⟩, ⟨(.some 7), (.faddr 1 (.t 1)), (.some (6, true))⟩, ⟨(.some 8), (.load false 1 (.t 7)), (.some (6, true))⟩, ⟨(.some 9), (.call true 173 [(.t 8)]), (.some (6, true))⟩, ⟨(.some 10), (.pick (.t 6) (.t 9) (.c (.lf (.bool false)))), none⟩, ⟨(.some 11), (.mv (.t 10)), none⟩, ⟨(.some 12), (.faddr 2 (.t 1)), (.some (11, true))⟩, ⟨(.some 13), (.load false 1 (.t 12)), (.some (11, true))⟩, ⟨(.some 14), (.call true 173 [(.t 13)]), (.some (11, true))⟩, ⟨(.some 15), (.pick (.t 11) (.t 14) (.c (.lf (.bool false)))), none⟩, ⟨(.some 2), (.mv (.t 15)), none⟩])
 .ret)), [(.tmp 2)]⟩
def L97 : LFn := ⟨1, (.seq (.reg [⟨(.some 2), (.mv (.c (.lf (.bool false)))), none⟩])
 (.seq (.reg [⟨(.some 3), (.mv (.t 0)), none⟩, ⟨(.some 4), (.call true 150 [(.t 3), (.c (.lf (.int .i64 0))), (.c (.lf (.int .i64 256)))]), none⟩, ⟨(.some 2), (.mv (.t 4)), none⟩])
 .ret)), [(.tmp 2)]⟩
def L138 : LFn := ⟨2, (.seq (.reg [⟨(.some 2), (.box 95 (.t 0)), none⟩, ⟨(.some 4), (.mv (.c (.lf .nils))), none⟩, ⟨(.some 5), (.alloc 95 [(.int .i64 0), (.flt .f32 0), (.flt .f32 0)]), none⟩])
 (.seq (.reg [⟨(.some 6), (.mv (.c (.lf .nils))), none⟩])
 (.seq (.block 0 (.loop (.seq (.seq (.reg [⟨(.some 7), (.mv (.t 1)), none⟩, ⟨(.some 8), (.bin .gtr (.t 7) (.c (.lf (.int .i64 0)))), none⟩])
 (.cond (.t 8) .skip (.exit 0)))
 (.seq (.block 1 (.seq (.reg [⟨(.some 11), (.mv (.t 6)), none⟩, ⟨(.some 12), (.faddr 0 (.t 2)), none⟩, ⟨(.some 13), (.load false 1 (.t 12)), none⟩, ⟨(.some 14), (.faddr 2 (.t 2)), none⟩, ⟨(.some 15), (.load false 1 (.t 14)), none⟩, ⟨(.some 16), (.call true 174 [(.t 13), (.t 15)]), none⟩, ⟨(.some 17), (.lit 22 1 1 [(.flt .f32 0)] [(0, (1, (.t 16)))]), none⟩, ⟨(.some 18), (.app 22 1 4 (.t 11) (.t 17)), none⟩, ⟨(.some 6), (.mv (.t 18)), none⟩])
 (.seq (.reg [⟨(.some 19), (.faddr 2 (.t 2)), none⟩, ⟨(.some 20), (.load false 1 (.t 19)), none⟩, ⟨(.some 21), (.faddr 1 (.t 2)), none⟩, ⟨(.some 22), (.load false 1 (.t 21)), none⟩, ⟨(.some 23), (.bin .add (.t 20) (.t 22)), none⟩, ⟨(.some 24), (.faddr 2 (.t 2)), none⟩, ⟨none, (.store 1 (.t 24) (.t 23)), none⟩])
 (.seq (.reg [⟨(.some 25), (.faddr 2 (.t 2)), none⟩, ⟨(.some 26), (.load false 1 (.t 25)), none⟩, ⟨(.some 27), (.bin .geq (.t 26) (.c (.lf (.flt .f32 1065353216)))), none⟩])
 (.cond (.t 27) (.reg [⟨(.some 28), (.faddr 2 (.t 2)), none⟩, ⟨(.some 29), (.load false 1 (.t 28)), none⟩, ⟨(.some 30), (.bin .sub (.t 29) (.c (.lf (.flt .f32 1065353216)))), none⟩, ⟨(.some 31), (.faddr 2 (.t 2)), none⟩, ⟨none, (.store 1 (.t 31) (.t 30)), none⟩]) .skip)))))
 (.reg [⟨(.some 9), (.mv (.t 1)), none⟩, ⟨(.some 10), (.bin .sub (.t 9) (.c (.lf (.int .i64 1)))), none⟩, ⟨(.some 1), (.mv (.t 10)), none⟩])))))
 (.seq (.reg [⟨(.some 32), (.mv (.t 6)), none⟩, ⟨(.some 33), (.load true 3 (.t 2)), none⟩, ⟨(.some 4), (.mv (.t 32)), none⟩, ⟨none, (.store 3 (.t 5) (.t 33)), none⟩])
 .ret)))), [(.tmp 4), (.cell 5 true 3)]⟩
def L64 : LFn := ⟨2, (.seq (.reg [⟨(.some 2), (.box 95 (.t 0)), none⟩, ⟨(.some 4), (.mv (.c (.lf .nils))), none⟩, ⟨(.some 5), (.alloc 95 [(.int .i64 0), (.flt .f32 0), (.flt .f32 0)]), none⟩, ⟨(.some 6), (.mv (.c (.lf (.bool false)))), none⟩])
 (.seq (.seq (.reg [⟨(.some 9), (.load true 3 (.t 2)), none⟩, ⟨(.some 10), (.call true 137 [(.t 9)]), none⟩, ⟨(.some 11), (.una .not (.t 10)), none⟩, ⟨(.some 12), (.mv (.t 11)), none⟩, ⟨(.some 13), (.mv (.t 1)), (.some (12, false))⟩, ⟨(.some 14), (.call true 97 [(.t 13)]), (.some (12, false))⟩, ⟨(.some 15), (.una .not (.t 14)), (.some (12, false))⟩, ⟨(.some 16), (.pick (.t 12) (.c (.lf (.bool true))) (.t 15)), none⟩])
 (.cond (.t 16) (.seq (.reg [⟨(.some 17), (.build [(.int .i64 0), (.flt .f32 0), (.flt .f32 0)] []), none⟩, ⟨(.some 4), (.mv (.c (.lf .nils))), none⟩, ⟨none, (.store 3 (.t 5) (.t 17)), none⟩, ⟨(.some 6), (.mv (.c (.lf (.bool false)))), none⟩])
 .ret) .skip))
 (.seq (.reg [⟨(.some 19), (.load true 3 (.t 2)), none⟩, ⟨(.some 20), (.mv (.t 1)), none⟩, ⟨(.some 21), (.call false 138 [(.t 19), (.t 20)]), none⟩, ⟨(.some 18), (.mv (.t 21)), none⟩, ⟨(.some 22), (.ext (.t 18) 0), none⟩, ⟨(.some 23), (.ext (.t 18) 1), none⟩, ⟨(.some 8), (.alloc 95 [(.int .i64 0), (.flt .f32 0), (.flt .f32 0)]), none⟩, ⟨(.some 7), (.mv (.t 22)), none⟩, ⟨none, (.store 3 (.t 8) (.t 23)), none⟩])
 (.seq (.reg [⟨(.some 24), (.mv (.t 7)), none⟩, ⟨(.some 25), (.load true 3 (.t 8)), none⟩, ⟨(.some 4), (.mv (.t 24)), none⟩, ⟨none, (.store 3 (.t 5) (.t 25)), none⟩, ⟨(.some 6), (.mv (.c (.lf (.bool true)))), none⟩])
 .ret)))), [(.tmp 4), (.cell 5 true 3), (.tmp 6)]⟩
class HasOs (S : Sys) : Prop extends HasWv S where
  f133 : S.fs 133 = some L133
  f134 : S.fs 134 = some L134
  f136 : S.fs 136 = some L136
  f62 : S.fs 62 = some L62
  f137 : S.fs 137 = some L137
  f97 : S.fs 97 = some L97
  f138 : S.fs 138 = some L138
  f64 : S.fs 64 = some L64
def onP (p s : Nat) : Nat := if fcmp .geq .f32 (fbin .add .f32 p s) 1065353216 = true then fbin .sub .f32 (fbin .add .f32 p s) 1065353216 else fbin .add .f32 p s
def phT (s p : Nat) : Nat → Nat
  | 0 => p
  | i + 1 => onP (phT s p i) s
def osT (k : Int) (s p i : Nat) : List Nat := (List.range i).map fun j => wave32 k (phT s p j)
theorem osT_len {k : Int} {s p i : Nat} : (osT k s p i).length = i := by simp [osT]
theorem osT_fl {k : Int} {s p i : Nat} : (osT k s p (i + 1)).map fl = (osT k s p i).map fl ++ [[.flt .f32 (wave32 k (phT s p i))]] := by
  unfold osT
  rw [List.range_succ, List.map_append, List.map_append]; rfl
theorem CF_on {p s : Nat} : CF (onP p s) := by unfold onP; split <;> exact CF_bin
theorem CF_ph {s p i : Nat} (hp : CF p) : CF (phT s p i) := by
  cases i with
  | zero => exact hp
  | succ i => exact CF_on
def oscOk (k : Int) (s p : Nat) (n : Int) : Prop := ((0 ≤ k ∧ k ≤ 3) ∧ phB s = true ∧ phB p = true) ∧ 0 ≤ n ∧ n ≤ 256
instance {k n : Int} {s p : Nat} : Decidable (oscOk k s p n) := by unfold oscOk; infer_instance
section
variable {S : Sys} {lim : Nat} {h : Hp} {K : CV → Hp → Prop} [HasOs S]
@[simp] theorem c_l05Count {x : Int} : CallT S true 134 [.lf (.int .i64 x)] h lim K = K (.lf (.bool (decide (0 ≤ x ∧ x ≤ 256)))) h := by
  refine CallT_pure (F := L134) (HasOs.f134) rfl (by first | rfl | (split <;> rfl) | simp) ?_; unfold L134; dsimp only []
  repeat' (first | (simp (disch := first | omega | assumption | (simp only [List.length_set]; omega) | (simp [*] <;> fail) | assumption) [-Bool.decide_and, -Bool.decide_or, -Bool.not_and, -Bool.not_or, toNat_pred, toNat_succ, wrap64, wr_new, wr_new0, ok_if, ok_ifn, iadV_sl, makeV_int, decT, decF, over_at, *]) | (with_reducible refine Gd_split (fun hc => ?_) (fun hc => ?_) <;> (have hc2 := hc; try simp at hc2)) | (with_reducible refine Br_split (fun hc => ?_) (fun hc => ?_) <;> (have hc2 := hc; try simp at hc2)) | (with_reducible refine GdT_split (fun hc => ?_) (fun hc => ?_) <;> (have hc2 := hc; try simp at hc2)) | (with_reducible refine WT_alt ?_ ?_) | omega)
@[simp] theorem c_isCount {x : Int} : CallT S true 97 [.lf (.int .i64 x)] h lim K = K (.lf (.bool (decide (0 ≤ x ∧ x ≤ 256)))) h := by
  refine CallT_pure (F := L97) (HasOs.f97) rfl (by first | rfl | (split <;> rfl) | simp) ?_; unfold L97; dsimp only []
  repeat' (first | (simp (disch := first | omega | assumption | (simp only [List.length_set]; omega) | (simp [*] <;> fail) | assumption) [-Bool.decide_and, -Bool.decide_or, -Bool.not_and, -Bool.not_or, toNat_pred, toNat_succ, wrap64, wr_new, wr_new0, ok_if, ok_ifn, iadV_sl, makeV_int, decT, decF, over_at, *]) | (with_reducible refine Gd_split (fun hc => ?_) (fun hc => ?_) <;> (have hc2 := hc; try simp at hc2)) | (with_reducible refine Br_split (fun hc => ?_) (fun hc => ?_) <;> (have hc2 := hc; try simp at hc2)) | (with_reducible refine GdT_split (fun hc => ?_) (fun hc => ?_) <;> (have hc2 := hc; try simp at hc2)) | (with_reducible refine WT_alt ?_ ?_) | omega)
theorem c_l05On {p s : Nat} : CallT S true 136 [.lf (.flt .f32 p), .lf (.flt .f32 s)] h lim K = K (.lf (.flt .f32 (onP p s))) h := by
  unfold onP
  cases hh : fcmp .geq .f32 (fbin .add .f32 p s) 1065353216
  · simp only [Bool.false_eq_true, if_false]
    refine CallT_pure (F := L136) (HasOs.f136) rfl (by first | rfl | (split <;> rfl) | simp) ?_; unfold L136; dsimp only []
    repeat' (first | (simp (disch := first | omega | assumption | (simp only [List.length_set]; omega) | (simp [*] <;> fail) | assumption) [-Bool.decide_and, -Bool.decide_or, -Bool.not_and, -Bool.not_or, toNat_pred, toNat_succ, wrap64, wr_new, wr_new0, ok_if, ok_ifn, iadV_sl, makeV_int, decT, decF, over_at, *]) | (with_reducible refine Gd_split (fun hc => ?_) (fun hc => ?_) <;> (have hc2 := hc; try simp at hc2)) | (with_reducible refine Br_split (fun hc => ?_) (fun hc => ?_) <;> (have hc2 := hc; try simp at hc2)) | (with_reducible refine GdT_split (fun hc => ?_) (fun hc => ?_) <;> (have hc2 := hc; try simp at hc2)) | (with_reducible refine WT_alt ?_ ?_) | omega)
  · simp only [if_true]
    refine CallT_pure (F := L136) (HasOs.f136) rfl (by first | rfl | (split <;> rfl) | simp) ?_; unfold L136; dsimp only []
    repeat' (first | (simp (disch := first | omega | assumption | (simp only [List.length_set]; omega) | (simp [*] <;> fail) | assumption) [-Bool.decide_and, -Bool.decide_or, -Bool.not_and, -Bool.not_or, toNat_pred, toNat_succ, wrap64, wr_new, wr_new0, ok_if, ok_ifn, iadV_sl, makeV_int, decT, decF, over_at, *]) | (with_reducible refine Gd_split (fun hc => ?_) (fun hc => ?_) <;> (have hc2 := hc; try simp at hc2)) | (with_reducible refine Br_split (fun hc => ?_) (fun hc => ?_) <;> (have hc2 := hc; try simp at hc2)) | (with_reducible refine GdT_split (fun hc => ?_) (fun hc => ?_) <;> (have hc2 := hc; try simp at hc2)) | (with_reducible refine WT_alt ?_ ?_) | omega)
theorem c_l05Is {id off : Nat} {k : Int} {s p : Nat} (hr : rdCells h id off 3 = some [.int .i64 k, .flt .f32 s, .flt .f32 p]) : CallT S true 133 [.lf (.ptr id off)] h lim K = K (.lf (.bool (decide ((0 ≤ k ∧ k ≤ 3) ∧ phB s = true ∧ phB p = true)))) h := by
  have r0 : rdCells h id off 1 = some [.int .i64 k] := by have := rd_sub hr (j := 0) (m := 1) (by omega); simpa using this
  have r1 : rdCells h id (off + 1) 1 = some [.flt .f32 s] := by have := rd_sub hr (j := 1) (m := 1) (by omega); simpa using this
  have r2 : rdCells h id (off + 2) 1 = some [.flt .f32 p] := by have := rd_sub hr (j := 2) (m := 1) (by omega); simpa using this
  by_cases hk : 0 ≤ k ∧ k ≤ 3
  · cases h1 : phB s
    · rw [show decide ((0 ≤ k ∧ k ≤ 3) ∧ false = true ∧ phB p = true) = false by simp]
      refine CallT_pure (F := L133) (HasOs.f133) rfl (by first | rfl | (split <;> rfl) | simp) ?_; unfold L133; dsimp only []
      repeat' (first | (simp (disch := first | omega | assumption | (simp only [List.length_set]; omega) | (simp [*] <;> fail) | assumption) [-Bool.decide_and, -Bool.decide_or, -Bool.not_and, -Bool.not_or, toNat_pred, toNat_succ, wrap64, wr_new, wr_new0, ok_if, ok_ifn, iadV_sl, makeV_int, decT, decF, over_at, *]) | (with_reducible refine Gd_split (fun hc => ?_) (fun hc => ?_) <;> (have hc2 := hc; try simp at hc2)) | (with_reducible refine Br_split (fun hc => ?_) (fun hc => ?_) <;> (have hc2 := hc; try simp at hc2)) | (with_reducible refine GdT_split (fun hc => ?_) (fun hc => ?_) <;> (have hc2 := hc; try simp at hc2)) | (with_reducible refine WT_alt ?_ ?_) | omega)
    · cases h2 : phB p
      · rw [show decide ((0 ≤ k ∧ k ≤ 3) ∧ true = true ∧ false = true) = false by simp]
        refine CallT_pure (F := L133) (HasOs.f133) rfl (by first | rfl | (split <;> rfl) | simp) ?_; unfold L133; dsimp only []
        repeat' (first | (simp (disch := first | omega | assumption | (simp only [List.length_set]; omega) | (simp [*] <;> fail) | assumption) [-Bool.decide_and, -Bool.decide_or, -Bool.not_and, -Bool.not_or, toNat_pred, toNat_succ, wrap64, wr_new, wr_new0, ok_if, ok_ifn, iadV_sl, makeV_int, decT, decF, over_at, *]) | (with_reducible refine Gd_split (fun hc => ?_) (fun hc => ?_) <;> (have hc2 := hc; try simp at hc2)) | (with_reducible refine Br_split (fun hc => ?_) (fun hc => ?_) <;> (have hc2 := hc; try simp at hc2)) | (with_reducible refine GdT_split (fun hc => ?_) (fun hc => ?_) <;> (have hc2 := hc; try simp at hc2)) | (with_reducible refine WT_alt ?_ ?_) | omega)
      · rw [show decide ((0 ≤ k ∧ k ≤ 3) ∧ true = true ∧ true = true) = true by simp [hk]]
        refine CallT_pure (F := L133) (HasOs.f133) rfl (by first | rfl | (split <;> rfl) | simp) ?_; unfold L133; dsimp only []
        repeat' (first | (simp (disch := first | omega | assumption | (simp only [List.length_set]; omega) | (simp [*] <;> fail) | assumption) [-Bool.decide_and, -Bool.decide_or, -Bool.not_and, -Bool.not_or, toNat_pred, toNat_succ, wrap64, wr_new, wr_new0, ok_if, ok_ifn, iadV_sl, makeV_int, decT, decF, over_at, *]) | (with_reducible refine Gd_split (fun hc => ?_) (fun hc => ?_) <;> (have hc2 := hc; try simp at hc2)) | (with_reducible refine Br_split (fun hc => ?_) (fun hc => ?_) <;> (have hc2 := hc; try simp at hc2)) | (with_reducible refine GdT_split (fun hc => ?_) (fun hc => ?_) <;> (have hc2 := hc; try simp at hc2)) | (with_reducible refine WT_alt ?_ ?_) | omega)
  · rw [show decide ((0 ≤ k ∧ k ≤ 3) ∧ phB s = true ∧ phB p = true) = false by simp; omega]
    refine CallT_pure (F := L133) (HasOs.f133) rfl (by first | rfl | (split <;> rfl) | simp) ?_; unfold L133; dsimp only []
    repeat' (first | (simp (disch := first | omega | assumption | (simp only [List.length_set]; omega) | (simp [*] <;> fail) | assumption) [-Bool.decide_and, -Bool.decide_or, -Bool.not_and, -Bool.not_or, toNat_pred, toNat_succ, wrap64, wr_new, wr_new0, ok_if, ok_ifn, iadV_sl, makeV_int, decT, decF, over_at, *]) | (with_reducible refine Gd_split (fun hc => ?_) (fun hc => ?_) <;> (have hc2 := hc; try simp at hc2)) | (with_reducible refine Br_split (fun hc => ?_) (fun hc => ?_) <;> (have hc2 := hc; try simp at hc2)) | (with_reducible refine GdT_split (fun hc => ?_) (fun hc => ?_) <;> (have hc2 := hc; try simp at hc2)) | (with_reducible refine WT_alt ?_ ?_) | omega)
theorem c_ValidOscillator {k : Int} {s p : Nat} : CallT S true 137 [.agg [.int .i64 k, .flt .f32 s, .flt .f32 p]] h lim K = K (.lf (.bool (decide ((0 ≤ k ∧ k ≤ 3) ∧ phB s = true ∧ phB p = true)))) h := by
  by_cases hk : 0 ≤ k ∧ k ≤ 3
  · cases h1 : phB s
    · rw [show decide ((0 ≤ k ∧ k ≤ 3) ∧ false = true ∧ phB p = true) = false by simp]
      refine CallT_pure (F := L137) (HasOs.f137) rfl (by first | rfl | (split <;> rfl) | simp) ?_; unfold L137; dsimp only []
      repeat' (first | (simp (disch := first | omega | assumption | (simp only [List.length_set]; omega) | (simp [*] <;> fail) | assumption) [-Bool.decide_and, -Bool.decide_or, -Bool.not_and, -Bool.not_or, toNat_pred, toNat_succ, wrap64, wr_new, wr_new0, ok_if, ok_ifn, iadV_sl, makeV_int, decT, decF, over_at, *]) | (with_reducible refine Gd_split (fun hc => ?_) (fun hc => ?_) <;> (have hc2 := hc; try simp at hc2)) | (with_reducible refine Br_split (fun hc => ?_) (fun hc => ?_) <;> (have hc2 := hc; try simp at hc2)) | (with_reducible refine GdT_split (fun hc => ?_) (fun hc => ?_) <;> (have hc2 := hc; try simp at hc2)) | (with_reducible refine WT_alt ?_ ?_) | omega)
    · cases h2 : phB p
      · rw [show decide ((0 ≤ k ∧ k ≤ 3) ∧ true = true ∧ false = true) = false by simp]
        refine CallT_pure (F := L137) (HasOs.f137) rfl (by first | rfl | (split <;> rfl) | simp) ?_; unfold L137; dsimp only []
        repeat' (first | (simp (disch := first | omega | assumption | (simp only [List.length_set]; omega) | (simp [*] <;> fail) | assumption) [-Bool.decide_and, -Bool.decide_or, -Bool.not_and, -Bool.not_or, toNat_pred, toNat_succ, wrap64, wr_new, wr_new0, ok_if, ok_ifn, iadV_sl, makeV_int, decT, decF, over_at, *]) | (with_reducible refine Gd_split (fun hc => ?_) (fun hc => ?_) <;> (have hc2 := hc; try simp at hc2)) | (with_reducible refine Br_split (fun hc => ?_) (fun hc => ?_) <;> (have hc2 := hc; try simp at hc2)) | (with_reducible refine GdT_split (fun hc => ?_) (fun hc => ?_) <;> (have hc2 := hc; try simp at hc2)) | (with_reducible refine WT_alt ?_ ?_) | omega)
      · rw [show decide ((0 ≤ k ∧ k ≤ 3) ∧ true = true ∧ true = true) = true by simp [hk]]
        refine CallT_pure (F := L137) (HasOs.f137) rfl (by first | rfl | (split <;> rfl) | simp) ?_; unfold L137; dsimp only []
        repeat' (first | (simp (disch := first | omega | assumption | (simp only [List.length_set]; omega) | (simp [*] <;> fail) | assumption) [-Bool.decide_and, -Bool.decide_or, -Bool.not_and, -Bool.not_or, toNat_pred, toNat_succ, wrap64, wr_new, wr_new0, ok_if, ok_ifn, iadV_sl, makeV_int, decT, decF, over_at, *]) | (with_reducible refine Gd_split (fun hc => ?_) (fun hc => ?_) <;> (have hc2 := hc; try simp at hc2)) | (with_reducible refine Br_split (fun hc => ?_) (fun hc => ?_) <;> (have hc2 := hc; try simp at hc2)) | (with_reducible refine GdT_split (fun hc => ?_) (fun hc => ?_) <;> (have hc2 := hc; try simp at hc2)) | (with_reducible refine WT_alt ?_ ?_) | omega)
  · rw [show decide ((0 ≤ k ∧ k ≤ 3) ∧ phB s = true ∧ phB p = true) = false by simp; omega]
    refine CallT_pure (F := L137) (HasOs.f137) rfl (by first | rfl | (split <;> rfl) | simp) ?_; unfold L137; dsimp only []
    repeat' (first | (simp (disch := first | omega | assumption | (simp only [List.length_set]; omega) | (simp [*] <;> fail) | assumption) [-Bool.decide_and, -Bool.decide_or, -Bool.not_and, -Bool.not_or, toNat_pred, toNat_succ, wrap64, wr_new, wr_new0, ok_if, ok_ifn, iadV_sl, makeV_int, decT, decF, over_at, *]) | (with_reducible refine Gd_split (fun hc => ?_) (fun hc => ?_) <;> (have hc2 := hc; try simp at hc2)) | (with_reducible refine Br_split (fun hc => ?_) (fun hc => ?_) <;> (have hc2 := hc; try simp at hc2)) | (with_reducible refine GdT_split (fun hc => ?_) (fun hc => ?_) <;> (have hc2 := hc; try simp at hc2)) | (with_reducible refine WT_alt ?_ ?_) | omega)
/-- The samples, and the oscillator behind them. -/
def oscR (k : Int) (s p : Nat) (n : Int) : List Nat := if oscOk k s p n then osT k s p n.toNat else []
def oscF (k : Int) (s p : Nat) (n : Int) : List Lf := if oscOk k s p n then [.int .i64 k, .flt .f32 s, .flt .f32 (phT s p n.toNat)] else [.int .i64 0, .flt .f32 0, .flt .f32 0]
theorem oscR_len {k : Int} {s p : Nat} {n : Int} : (oscR k s p n).length ≤ 256 := by
  unfold oscR
  split
  · rename_i h
    rw [osT_len]
    have := h.2
    omega
  · simp
set_option maxHeartbeats 2000000 in
theorem c_specRunOscillator {k : Int} {s p : Nat} {n : Int} (hp : CF p) (hl : lim ≤ h.length) (hK : ∀ o g, New h g o 22 1 ((oscR k s p n).map fl) → K (.tup [.lf o, .agg (oscF k s p n), .lf (.bool (decide (oscOk k s p n)))]) g) : CallT S false 62 [.agg [.int .i64 k, .flt .f32 s, .flt .f32 p], .lf (.int .i64 n)] h lim K := by
  have hi0 := fun lim K => c_l05Is (S := S) (h := h ++ [⟨[.int .i64 k, .flt .f32 s, .flt .f32 p], .own 95 1⟩, ⟨[.int .i64 0, .flt .f32 0, .flt .f32 0], .own 95 1⟩]) (lim := lim) (K := K) (id := h.length) (off := 0) (k := k) (s := s) (p := p) (by simp)
  by_cases hv : (0 ≤ k ∧ k ≤ 3) ∧ phB s = true ∧ phB p = true
  · have hd : decide ((0 ≤ k ∧ k ≤ 3) ∧ phB s = true ∧ phB p = true) = true := decide_eq_true hv
    rw [hd] at hi0
    clear hd
    by_cases hn : 0 ≤ n ∧ n ≤ 256
    · have hok : oscOk k s p n := ⟨hv, hn⟩
      unfold oscR oscF at hK
      rw [if_pos hok, if_pos hok, decide_eq_true hok] at hK
      have hk := hv.1
      clear hv hok
      obtain ⟨N, rfl⟩ : ∃ N : Nat, n = N := ⟨n.toNat, by omega⟩
      rw [Int.toNat_natCast] at hK
      have hN : N ≤ 256 := by omega
      refine CallT_of_body (F := L62) (HasOs.f62) rfl ?_; unfold L62; dsimp only []
      repeat' (first | (simp (disch := first | omega | assumption | (simp only [List.length_set]; omega) | (simp [*] <;> fail) | assumption) [-Bool.decide_and, -Bool.decide_or, -Bool.not_and, -Bool.not_or, toNat_pred, toNat_succ, wrap64, wr_new, wr_new0, ok_if, ok_ifn, iadV_sl, makeV_int, decT, decF, over_at, *, leavesAll, fillL]) | (with_reducible refine Gd_split (fun hc => ?_) (fun hc => ?_) <;> (have hc2 := hc; try simp at hc2)) | (with_reducible refine Br_split (fun hc => ?_) (fun hc => ?_) <;> (have hc2 := hc; try simp at hc2)) | (with_reducible refine GdT_split (fun hc => ?_) (fun hc => ?_) <;> (have hc2 := hc; try simp at hc2)) | (with_reducible refine WT_alt ?_ ?_) | omega)
      clear hi0
      refine WL_forM 34359607426 (by decide +kernel) (N) (fun i b g => i ≤ N ∧ b 1 = .lf (.int .i64 (N - i)) ∧ Cel g h.length 95 [.int .i64 k, .flt .f32 s, .flt .f32 (phT s p i)] ∧ Cel g (h.length + 1) 95 [.int .i64 0, .flt .f32 0, .flt .f32 0] ∧ ∃ o, b 7 = .lf o ∧ New h g o 22 1 ((osT k s p i).map fl) ∧ Not o h.length ∧ Not o (h.length + 1)) (fun _ _ _ hi => hi.1) ?_ ?_
      · refine ⟨by omega, by simp, by simp [Cel, phT], by simp [Cel], .sl (h.length + 2) 0 0 1, by simp, ?_, fun _ => by simp [Lf.id], fun _ => by simp [Lf.id]⟩
        have := New.litN (h := h) (g := h ++ [⟨[.int .i64 k, .flt .f32 s, .flt .f32 p], .own 95 1⟩, ⟨[.int .i64 0, .flt .f32 0, .flt .f32 0], .own 95 1⟩]) (ty := 22) (sz := 1) (Kept.app _ _)
        simpa [osT] using this
      rintro i b g ⟨hi, e1, hc2, hc5, o, e7, hM, hn2, hn5⟩
      have hlt2 := hc2.lt
      have hlt5 := hc5.lt
      by_cases hlt : i < N
      · have hw := fun h lim K => c_l05Wave (S := S) (h := h) (lim := lim) (K := K) hk (CF_ph (s := s) (i := i) hp)
        have ho := fun h lim K => c_l05On (S := S) (h := h) (lim := lim) (K := K) (p := phT s p i) (s := s)
        have hol := osT_len (k := k) (s := s) (p := p) (i := i)
        have hos := osT_fl (k := k) (s := s) (p := p) (i := i)
        have hps : phT s p (i + 1) = onP (phT s p i) s := rfl
        generalize wave32 k (phT s p i) = y at *
        simp only [← hps] at ho
        obtain ⟨p2, hp2e⟩ : ∃ p2, phT s p (i + 1) = p2 := ⟨_, rfl⟩
        simp only [hp2e] at ho
        rw [hp2e] at hps
        have hp2H : Hid (phT s p (i + 1) = p2) := hp2e
        clear hp2e
        generalize phT s p i = p1 at *
        clear hps
        have c0 : rdCells g h.length 0 1 = some [.int .i64 k] := by have := hc2.rd (off := 0) (n := 1) (by simp); simpa using this
        have c2 : rdCells g h.length 2 1 = some [.flt .f32 p1] := by have := hc2.rd (off := 2) (n := 1) (by simp); simpa using this
        clear hK
        repeat' (first | (simp (disch := first | omega | assumption | (simp only [List.length_set]; omega) | (simp [*] <;> fail) | assumption) [-Bool.decide_and, -Bool.decide_or, -Bool.not_and, -Bool.not_or, toNat_pred, toNat_succ, wrap64, wr_new, wr_new0, ok_if, ok_ifn, iadV_sl, makeV_int, decT, decF, over_at, *, leavesAll, fillL]) | (with_reducible refine Gd_split (fun hc => ?_) (fun hc => ?_) <;> (have hc2 := hc; try simp at hc2)) | (with_reducible refine Br_split (fun hc => ?_) (fun hc => ?_) <;> (have hc2 := hc; try simp at hc2)) | (with_reducible refine GdT_split (fun hc => ?_) (fun hc => ?_) <;> (have hc2 := hc; try simp at hc2)) | (with_reducible refine WT_alt ?_ ?_) | omega)
        refine oc_push (r := [.flt .f32 y]) (bytes := 4) hM ?_ ?_ ?_ (by decide) rfl (by decide)
        · exact hl
        · simp; omega
        intro o2 g5 hP hB
        rw [← hos] at hP
        have d2 := hc2.but hB fun q => (hn2 q).symm
        have d5 := hc5.but hB fun q => (hn5 q).symm
        have n2 := hn2.but hB (by omega)
        have n5 := hn5.but hB (by omega)
        have x1 : rdCells g5 h.length 1 1 = some [.flt .f32 s] := by have := d2.rd (off := 1) (n := 1) (by simp); simpa using this
        have x2 : rdCells g5 h.length 2 1 = some [.flt .f32 p1] := by have := d2.rd (off := 2) (n := 1) (by simp); simpa using this
        have w2 : wrCells lim g5 h.length 2 [.flt .f32 p2] = some (g5.set h.length ⟨[.int .i64 k, .flt .f32 s, .flt .f32 p2], .own 95 1⟩) := by
          rw [wr_get1 d2 hl (by simp)]; rfl
        clear hB hM hc2 hc5 c0 c2 hn2 hn5 hos
        repeat' (first | (simp (disch := first | omega | assumption | (simp only [List.length_set]; omega) | (simp [*] <;> fail) | assumption) [-Bool.decide_and, -Bool.decide_or, -Bool.not_and, -Bool.not_or, toNat_pred, toNat_succ, wrap64, wr_new, wr_new0, ok_if, ok_ifn, iadV_sl, makeV_int, decT, decF, over_at, *]) | (with_reducible refine Gd_split (fun hc => ?_) (fun hc => ?_) <;> (have hc2 := hc; try simp at hc2)) | (with_reducible refine Br_split (fun hc => ?_) (fun hc => ?_) <;> (have hc2 := hc; try simp at hc2)) | (with_reducible refine GdT_split (fun hc => ?_) (fun hc => ?_) <;> (have hc2 := hc; try simp at hc2)) | (with_reducible refine WT_alt ?_ ?_) | omega)
        exact ⟨by omega, by omega, by rw [show phT s p (i + 1) = _ from hp2H]; exact Cel.put d2.lt, d5.set (by omega), hP.set_other (Nat.le_refl _) n2⟩
      · have : i = N := by omega
        subst this
        have c0 : rdCells g h.length 0 3 = some [.int .i64 k, .flt .f32 s, .flt .f32 (phT s p i)] := hc2.rd (by simp)
        have w5 : wrCells lim g (h.length + 1) 0 [.int .i64 k, .flt .f32 s, .flt .f32 (phT s p i)] = some (g.set (h.length + 1) ⟨[.int .i64 k, .flt .f32 s, .flt .f32 (phT s p i)], .own 95 1⟩) := hc5.wr (by omega) rfl
        have r5 : rdCells (g.set (h.length + 1) ⟨[.int .i64 k, .flt .f32 s, .flt .f32 (phT s p i)], .own 95 1⟩) (h.length + 1) 0 3 = some [.int .i64 k, .flt .f32 s, .flt .f32 (phT s p i)] := (Cel.put hlt5).rd (by simp)
        generalize phT s p i = p1 at *
        repeat' (first | (simp (disch := first | omega | assumption | (simp only [List.length_set]; omega) | (simp [*] <;> fail) | assumption) [-Bool.decide_and, -Bool.decide_or, -Bool.not_and, -Bool.not_or, toNat_pred, toNat_succ, wrap64, wr_new, wr_new0, ok_if, ok_ifn, iadV_sl, makeV_int, decT, decF, over_at, *]) | (with_reducible refine Gd_split (fun hc => ?_) (fun hc => ?_) <;> (have hc2 := hc; try simp at hc2)) | (with_reducible refine Br_split (fun hc => ?_) (fun hc => ?_) <;> (have hc2 := hc; try simp at hc2)) | (with_reducible refine GdT_split (fun hc => ?_) (fun hc => ?_) <;> (have hc2 := hc; try simp at hc2)) | (with_reducible refine WT_alt ?_ ?_) | omega)
        exact hK _ _ (hM.set_other (by omega) hn5)
    · have hok : ¬ oscOk k s p n := fun q => hn q.2
      unfold oscR oscF at hK
      rw [if_neg hok, if_neg hok, decide_eq_false hok] at hK
      refine CallT_of_body (F := L62) (HasOs.f62) rfl ?_; unfold L62; dsimp only []
      repeat' (first | (simp (disch := first | omega | assumption | (simp only [List.length_set]; omega) | (simp [*] <;> fail) | assumption) [-Bool.decide_and, -Bool.decide_or, -Bool.not_and, -Bool.not_or, toNat_pred, toNat_succ, wrap64, wr_new, wr_new0, ok_if, ok_ifn, iadV_sl, makeV_int, decT, decF, over_at, *, leavesAll, fillL]) | (with_reducible refine Gd_split (fun hc => ?_) (fun hc => ?_) <;> (have hc2 := hc; try simp at hc2)) | (with_reducible refine Br_split (fun hc => ?_) (fun hc => ?_) <;> (have hc2 := hc; try simp at hc2)) | (with_reducible refine GdT_split (fun hc => ?_) (fun hc => ?_) <;> (have hc2 := hc; try simp at hc2)) | (with_reducible refine WT_alt ?_ ?_) | omega)
      exact hK _ _ (New.nil (Kept.app _ _))
  · have hd : decide ((0 ≤ k ∧ k ≤ 3) ∧ phB s = true ∧ phB p = true) = false := decide_eq_false hv
    rw [hd] at hi0
    have hok : ¬ oscOk k s p n := fun q => hv q.1
    unfold oscR oscF at hK
    rw [if_neg hok, if_neg hok, decide_eq_false hok] at hK
    refine CallT_of_body (F := L62) (HasOs.f62) rfl ?_; unfold L62; dsimp only []
    repeat' (first | (simp (disch := first | omega | assumption | (simp only [List.length_set]; omega) | (simp [*] <;> fail) | assumption) [-Bool.decide_and, -Bool.decide_or, -Bool.not_and, -Bool.not_or, toNat_pred, toNat_succ, wrap64, wr_new, wr_new0, ok_if, ok_ifn, iadV_sl, makeV_int, decT, decF, over_at, *, leavesAll, fillL]) | (with_reducible refine Gd_split (fun hc => ?_) (fun hc => ?_) <;> (have hc2 := hc; try simp at hc2)) | (with_reducible refine Br_split (fun hc => ?_) (fun hc => ?_) <;> (have hc2 := hc; try simp at hc2)) | (with_reducible refine GdT_split (fun hc => ?_) (fun hc => ?_) <;> (have hc2 := hc; try simp at hc2)) | (with_reducible refine WT_alt ?_ ?_) | omega)
    exact hK _ _ (New.nil (Kept.app _ _))
set_option maxHeartbeats 2000000 in
theorem c_oscRun {k : Int} {s p N : Nat} (hk : 0 ≤ k ∧ k ≤ 3) (hp : CF p) (hN : N ≤ 256) (hl : lim ≤ h.length) (hK : ∀ o g, New h g o 22 1 ((osT k s p N).map fl) → K (.tup [.lf o, .agg [.int .i64 k, .flt .f32 s, .flt .f32 (phT s p N)]]) g) : CallT S false 138 [.agg [.int .i64 k, .flt .f32 s, .flt .f32 p], .lf (.int .i64 N)] h lim K := by
  refine CallT_of_body (F := L138) (HasOs.f138) rfl ?_; unfold L138; dsimp only []
  repeat' (first | (simp (disch := first | omega | assumption | (simp only [List.length_set]; omega) | (simp [*] <;> fail) | assumption) [-Bool.decide_and, -Bool.decide_or, -Bool.not_and, -Bool.not_or, toNat_pred, toNat_succ, wrap64, wr_new, wr_new0, ok_if, ok_ifn, iadV_sl, makeV_int, decT, decF, over_at, *, leavesAll, fillL]) | (with_reducible refine Gd_split (fun hc => ?_) (fun hc => ?_) <;> (have hc2 := hc; try simp at hc2)) | (with_reducible refine Br_split (fun hc => ?_) (fun hc => ?_) <;> (have hc2 := hc; try simp at hc2)) | (with_reducible refine GdT_split (fun hc => ?_) (fun hc => ?_) <;> (have hc2 := hc; try simp at hc2)) | (with_reducible refine WT_alt ?_ ?_) | omega)
  refine WL_forM 4294967234 (by decide +kernel) (N) (fun i b g => i ≤ N ∧ b 1 = .lf (.int .i64 (N - i)) ∧ Cel g h.length 95 [.int .i64 k, .flt .f32 s, .flt .f32 (phT s p i)] ∧ Cel g (h.length + 1) 95 [.int .i64 0, .flt .f32 0, .flt .f32 0] ∧ ∃ o, b 6 = .lf o ∧ New h g o 22 1 ((osT k s p i).map fl) ∧ Not o h.length ∧ Not o (h.length + 1)) (fun _ _ _ hi => hi.1) ?_ ?_
  · refine ⟨by omega, by simp, by simp [Cel, phT], by simp [Cel], .nils, by simp, ?_, fun q => absurd rfl q, fun q => absurd rfl q⟩
    exact New.nil (Kept.app _ _)
  rintro i b g ⟨hi, e1, hc2, hc5, o, e7, hM, hn2, hn5⟩
  have hlt2 := hc2.lt
  have hlt5 := hc5.lt
  by_cases hlt : i < N
  · have hw := fun h lim K => c_waveAt (S := S) (h := h) (lim := lim) (K := K) hk (CF_ph (s := s) (i := i) hp)
    have hol := osT_len (k := k) (s := s) (p := p) (i := i)
    have hos := osT_fl (k := k) (s := s) (p := p) (i := i)
    have hps : phT s p (i + 1) = onP (phT s p i) s := rfl
    generalize wave32 k (phT s p i) = y at *
    obtain ⟨p2, hp2e⟩ : ∃ p2, phT s p (i + 1) = p2 := ⟨_, rfl⟩
    rw [hp2e] at hps
    have hp2H : Hid (phT s p (i + 1) = p2) := hp2e
    clear hp2e
    generalize phT s p i = p1 at *
    have c0 : rdCells g h.length 0 1 = some [.int .i64 k] := by have := hc2.rd (off := 0) (n := 1) (by simp); simpa using this
    have c2 : rdCells g h.length 2 1 = some [.flt .f32 p1] := by have := hc2.rd (off := 2) (n := 1) (by simp); simpa using this
    clear hK
    have hpsH : Hid (p2 = onP p1 s) := hps
    clear hps
    repeat' (first | (simp (disch := first | omega | assumption | (simp only [List.length_set]; omega) | (simp [*] <;> fail) | assumption) [-Bool.decide_and, -Bool.decide_or, -Bool.not_and, -Bool.not_or, toNat_pred, toNat_succ, wrap64, wr_new, wr_new0, ok_if, ok_ifn, iadV_sl, makeV_int, decT, decF, over_at, *, leavesAll, fillL]) | (with_reducible refine Gd_split (fun hc => ?_) (fun hc => ?_) <;> (have hc2 := hc; try simp at hc2)) | (with_reducible refine Br_split (fun hc => ?_) (fun hc => ?_) <;> (have hc2 := hc; try simp at hc2)) | (with_reducible refine GdT_split (fun hc => ?_) (fun hc => ?_) <;> (have hc2 := hc; try simp at hc2)) | (with_reducible refine WT_alt ?_ ?_) | omega)
    refine oc_push (r := [.flt .f32 y]) (bytes := 4) hM ?_ ?_ ?_ (by decide) rfl (by decide)
    · exact hl
    · simp; omega
    intro o2 g5 hP hB
    rw [← hos] at hP
    have d2 := hc2.but hB fun q => (hn2 q).symm
    have d5 := hc5.but hB fun q => (hn5 q).symm
    have n2 := hn2.but hB (by omega)
    have n5 := hn5.but hB (by omega)
    have l2 := d2.lt
    have x1 : rdCells g5 h.length 1 1 = some [.flt .f32 s] := by have := d2.rd (off := 1) (n := 1) (by simp); simpa using this
    have x2 : rdCells g5 h.length 2 1 = some [.flt .f32 p1] := by have := d2.rd (off := 2) (n := 1) (by simp); simpa using this
    have w2 : ∀ q, wrCells lim g5 h.length 2 [.flt .f32 q] = some (g5.set h.length ⟨[.int .i64 k, .flt .f32 s, .flt .f32 q], .own 95 1⟩) := fun q => by
      rw [wr_get1 d2 hl (by simp)]; rfl
    have x3 : ∀ q, rdCells (g5.set h.length ⟨[.int .i64 k, .flt .f32 s, .flt .f32 q], .own 95 1⟩) h.length 2 1 = some [.flt .f32 q] := fun q => by
      have := (Cel.put (ty := 95) (new := [.int .i64 k, .flt .f32 s, .flt .f32 q]) l2).rd (off := 2) (n := 1) (by simp); simpa using this
    have w3 : ∀ q r, wrCells lim (g5.set h.length ⟨[.int .i64 k, .flt .f32 s, .flt .f32 q], .own 95 1⟩) h.length 2 [.flt .f32 r] = some (g5.set h.length ⟨[.int .i64 k, .flt .f32 s, .flt .f32 r], .own 95 1⟩) := fun q r => by
      rw [wr_set1 l2 hl (by simp)]; rfl
    clear hB hM hc2 hc5 c0 c2 hn2 hn5 hos
    cases hge : fcmp .geq .f32 (fbin .add .f32 p1 s) 1065353216
    · have hp2 : p2 = fbin .add .f32 p1 s := by rw [show p2 = _ from hpsH]; unfold onP; rw [hge]; rfl
      subst hp2
      clear hpsH
      repeat' (first | (simp (disch := first | omega | assumption | (simp only [List.length_set]; omega) | (simp [*] <;> fail) | assumption) [-Bool.decide_and, -Bool.decide_or, -Bool.not_and, -Bool.not_or, toNat_pred, toNat_succ, wrap64, wr_new, wr_new0, ok_if, ok_ifn, iadV_sl, makeV_int, decT, decF, over_at, *]) | (with_reducible refine Gd_split (fun hc => ?_) (fun hc => ?_) <;> (have hc2 := hc; try simp at hc2)) | (with_reducible refine Br_split (fun hc => ?_) (fun hc => ?_) <;> (have hc2 := hc; try simp at hc2)) | (with_reducible refine GdT_split (fun hc => ?_) (fun hc => ?_) <;> (have hc2 := hc; try simp at hc2)) | (with_reducible refine WT_alt ?_ ?_) | omega)
      exact ⟨by omega, by omega, by rw [show phT s p (i + 1) = _ from hp2H]; exact Cel.put l2, d5.set (by omega), hP.set_other (Nat.le_refl _) n2⟩
    · have hp2 : p2 = fbin .sub .f32 (fbin .add .f32 p1 s) 1065353216 := by rw [show p2 = _ from hpsH]; unfold onP; rw [hge]; rfl
      subst hp2
      clear hpsH
      repeat' (first | (simp (disch := first | omega | assumption | (simp only [List.length_set]; omega) | (simp [*] <;> fail) | assumption) [-Bool.decide_and, -Bool.decide_or, -Bool.not_and, -Bool.not_or, toNat_pred, toNat_succ, wrap64, wr_new, wr_new0, ok_if, ok_ifn, iadV_sl, makeV_int, decT, decF, over_at, *]) | (with_reducible refine Gd_split (fun hc => ?_) (fun hc => ?_) <;> (have hc2 := hc; try simp at hc2)) | (with_reducible refine Br_split (fun hc => ?_) (fun hc => ?_) <;> (have hc2 := hc; try simp at hc2)) | (with_reducible refine GdT_split (fun hc => ?_) (fun hc => ?_) <;> (have hc2 := hc; try simp at hc2)) | (with_reducible refine WT_alt ?_ ?_) | omega)
      exact ⟨by omega, by omega, by rw [show phT s p (i + 1) = _ from hp2H]; exact Cel.put l2, d5.set (by omega), hP.set_other (Nat.le_refl _) n2⟩
  · have : i = N := by omega
    subst this
    have c0 : rdCells g h.length 0 3 = some [.int .i64 k, .flt .f32 s, .flt .f32 (phT s p i)] := hc2.rd (by simp)
    have w5 : wrCells lim g (h.length + 1) 0 [.int .i64 k, .flt .f32 s, .flt .f32 (phT s p i)] = some (g.set (h.length + 1) ⟨[.int .i64 k, .flt .f32 s, .flt .f32 (phT s p i)], .own 95 1⟩) := hc5.wr (by omega) rfl
    have r5 : rdCells (g.set (h.length + 1) ⟨[.int .i64 k, .flt .f32 s, .flt .f32 (phT s p i)], .own 95 1⟩) (h.length + 1) 0 3 = some [.int .i64 k, .flt .f32 s, .flt .f32 (phT s p i)] := (Cel.put hlt5).rd (by simp)
    generalize phT s p i = p1 at *
    repeat' (first | (simp (disch := first | omega | assumption | (simp only [List.length_set]; omega) | (simp [*] <;> fail) | assumption) [-Bool.decide_and, -Bool.decide_or, -Bool.not_and, -Bool.not_or, toNat_pred, toNat_succ, wrap64, wr_new, wr_new0, ok_if, ok_ifn, iadV_sl, makeV_int, decT, decF, over_at, *]) | (with_reducible refine Gd_split (fun hc => ?_) (fun hc => ?_) <;> (have hc2 := hc; try simp at hc2)) | (with_reducible refine Br_split (fun hc => ?_) (fun hc => ?_) <;> (have hc2 := hc; try simp at hc2)) | (with_reducible refine GdT_split (fun hc => ?_) (fun hc => ?_) <;> (have hc2 := hc; try simp at hc2)) | (with_reducible refine WT_alt ?_ ?_) | omega)
    exact hK _ _ (hM.set_other (by omega) hn5)
set_option maxHeartbeats 2000000 in
theorem c_implRunOscillator {k : Int} {s p : Nat} {n : Int} (hp : CF p) (hl : lim ≤ h.length) (hK : ∀ o g, New h g o 22 1 ((oscR k s p n).map fl) → K (.tup [.lf o, .agg (oscF k s p n), .lf (.bool (decide (oscOk k s p n)))]) g) : CallT S false 64 [.agg [.int .i64 k, .flt .f32 s, .flt .f32 p], .lf (.int .i64 n)] h lim K := by
  have hi0 := fun h lim K => c_ValidOscillator (S := S) (h := h) (lim := lim) (K := K) (k := k) (s := s) (p := p)
  by_cases hv : (0 ≤ k ∧ k ≤ 3) ∧ phB s = true ∧ phB p = true
  · have hd : decide ((0 ≤ k ∧ k ≤ 3) ∧ phB s = true ∧ phB p = true) = true := decide_eq_true hv
    rw [hd] at hi0
    clear hd
    by_cases hn : 0 ≤ n ∧ n ≤ 256
    · have hok : oscOk k s p n := ⟨hv, hn⟩
      unfold oscR oscF at hK
      rw [if_pos hok, if_pos hok, decide_eq_true hok] at hK
      have hk := hv.1
      clear hv hok
      obtain ⟨N, rfl⟩ : ∃ N : Nat, n = N := ⟨n.toNat, by omega⟩
      rw [Int.toNat_natCast] at hK
      have hN : N ≤ 256 := by omega
      refine CallT_of_body (F := L64) (HasOs.f64) rfl ?_; unfold L64; dsimp only []
      repeat' (first | (simp (disch := first | omega | assumption | (simp only [List.length_set]; omega) | (simp [*] <;> fail) | assumption) [-Bool.decide_and, -Bool.decide_or, -Bool.not_and, -Bool.not_or, toNat_pred, toNat_succ, wrap64, wr_new, wr_new0, ok_if, ok_ifn, iadV_sl, makeV_int, decT, decF, over_at, *, leavesAll, fillL]) | (with_reducible refine Gd_split (fun hc => ?_) (fun hc => ?_) <;> (have hc2 := hc; try simp at hc2)) | (with_reducible refine Br_split (fun hc => ?_) (fun hc => ?_) <;> (have hc2 := hc; try simp at hc2)) | (with_reducible refine GdT_split (fun hc => ?_) (fun hc => ?_) <;> (have hc2 := hc; try simp at hc2)) | (with_reducible refine WT_alt ?_ ?_) | omega)
      refine c_oscRun hk hp hN (by simp; omega) fun o g hM => ?_
      obtain ⟨t, rfl⟩ := hM.kept.split
      rw [List.append_assoc] at hM
      simp only [List.cons_append, List.nil_append, List.append_assoc] at hM ⊢
      generalize phT s p N = p1 at *
      repeat' (first | (simp (disch := first | omega | assumption | (simp only [List.length_set]; omega) | (simp [*] <;> fail) | assumption) [-Bool.decide_and, -Bool.decide_or, -Bool.not_and, -Bool.not_or, toNat_pred, toNat_succ, wrap64, wr_new, wr_new0, ok_if, ok_ifn, iadV_sl, makeV_int, decT, decF, over_at, *]) | (with_reducible refine Gd_split (fun hc => ?_) (fun hc => ?_) <;> (have hc2 := hc; try simp at hc2)) | (with_reducible refine Br_split (fun hc => ?_) (fun hc => ?_) <;> (have hc2 := hc; try simp at hc2)) | (with_reducible refine GdT_split (fun hc => ?_) (fun hc => ?_) <;> (have hc2 := hc; try simp at hc2)) | (with_reducible refine WT_alt ?_ ?_) | omega)
      refine hK _ _ ?_
      have h1 := (New.swap2 (a' := ⟨[.int .i64 k, .flt .f32 s, .flt .f32 p], .own 95 1⟩) (b' := ⟨[.int .i64 k, .flt .f32 s, .flt .f32 p1], .own 95 1⟩) hM).app (t := [⟨[.int .i64 k, .flt .f32 s, .flt .f32 p1], .own 95 1⟩])
      simpa using h1
    · have hok : ¬ oscOk k s p n := fun q => hn q.2
      unfold oscR oscF at hK
      rw [if_neg hok, if_neg hok, decide_eq_false hok] at hK
      refine CallT_of_body (F := L64) (HasOs.f64) rfl ?_; unfold L64; dsimp only []
      repeat' (first | (simp (disch := first | omega | assumption | (simp only [List.length_set]; omega) | (simp [*] <;> fail) | assumption) [-Bool.decide_and, -Bool.decide_or, -Bool.not_and, -Bool.not_or, toNat_pred, toNat_succ, wrap64, wr_new, wr_new0, ok_if, ok_ifn, iadV_sl, makeV_int, decT, decF, over_at, *, leavesAll, fillL]) | (with_reducible refine Gd_split (fun hc => ?_) (fun hc => ?_) <;> (have hc2 := hc; try simp at hc2)) | (with_reducible refine Br_split (fun hc => ?_) (fun hc => ?_) <;> (have hc2 := hc; try simp at hc2)) | (with_reducible refine GdT_split (fun hc => ?_) (fun hc => ?_) <;> (have hc2 := hc; try simp at hc2)) | (with_reducible refine WT_alt ?_ ?_) | omega)
      exact hK _ _ (New.nil (Kept.app _ _))
  · have hd : decide ((0 ≤ k ∧ k ≤ 3) ∧ phB s = true ∧ phB p = true) = false := decide_eq_false hv
    rw [hd] at hi0
    have hok : ¬ oscOk k s p n := fun q => hv q.1
    unfold oscR oscF at hK
    rw [if_neg hok, if_neg hok, decide_eq_false hok] at hK
    refine CallT_of_body (F := L64) (HasOs.f64) rfl ?_; unfold L64; dsimp only []
    repeat' (first | (simp (disch := first | omega | assumption | (simp only [List.length_set]; omega) | (simp [*] <;> fail) | assumption) [-Bool.decide_and, -Bool.decide_or, -Bool.not_and, -Bool.not_or, toNat_pred, toNat_succ, wrap64, wr_new, wr_new0, ok_if, ok_ifn, iadV_sl, makeV_int, decT, decF, over_at, *, leavesAll, fillL]) | (with_reducible refine Gd_split (fun hc => ?_) (fun hc => ?_) <;> (have hc2 := hc; try simp at hc2)) | (with_reducible refine Br_split (fun hc => ?_) (fun hc => ?_) <;> (have hc2 := hc; try simp at hc2)) | (with_reducible refine GdT_split (fun hc => ?_) (fun hc => ?_) <;> (have hc2 := hc; try simp at hc2)) | (with_reducible refine WT_alt ?_ ?_) | omega)
    exact hK _ _ (New.nil (Kept.app _ _))
end
end Go.E
