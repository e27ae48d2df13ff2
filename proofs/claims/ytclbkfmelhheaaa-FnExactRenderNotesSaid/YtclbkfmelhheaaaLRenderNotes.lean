/- The law of RenderNotes: what the evaluator finds. -/
import Derived.Test.YtclbkfmelhheaaaMRa
import Derived.Test.YtclbkfmelhheaaaMC
import Derived.Test.YtclbkfmelhheaaaEE
import Derived.Test.YtclbkfmelhheaaaProg
set_option linter.unusedVariables false
set_option linter.unusedSimpArgs false
namespace Go.E
open Go
def L127 : LFn := ⟨2, (.seq (.reg [⟨(.some 2), (.box 32 (.t 0)), none⟩, ⟨(.some 3), (.box 32 (.t 1)), none⟩, ⟨(.some 4), (.mv (.c (.lf (.bool false)))), none⟩])
 (.seq (.seq (.reg [⟨(.some 5), (.faddr 0 (.t 2)), none⟩, ⟨(.some 6), (.load false 1 (.t 5)), none⟩, ⟨(.some 7), (.faddr 0 (.t 3)), none⟩, ⟨(.some 8), (.load false 1 (.t 7)), none⟩, ⟨(.some 9), (.bin .neq (.t 6) (.t 8)), none⟩])
 (.cond (.t 9) (.seq (.reg [⟨(.some 4), (.mv (.c (.lf (.bool false)))), none⟩])
 .ret) .skip))
 (.seq (.seq (.reg [⟨(.some 10), (.faddr 1 (.t 2)), none⟩, ⟨(.some 11), (.load false 1 (.t 10)), none⟩, ⟨(.some 12), (.faddr 1 (.t 3)), none⟩, ⟨(.some 13), (.load false 1 (.t 12)), none⟩, ⟨(.some 14), (.bin .neq (.t 11) (.t 13)), none⟩])
 (.cond (.t 14) (.seq (.reg [⟨(.some 4), (.mv (.c (.lf (.bool false)))), none⟩])
 .ret) .skip))
 (.seq (.seq (.reg [⟨(.some 15), (.faddr 2 (.t 2)), none⟩, ⟨(.some 16), (.load false 1 (.t 15)), none⟩, ⟨(.some 17), (.faddr 2 (.t 3)), none⟩, ⟨(.some 18), (.load false 1 (.t 17)), none⟩, ⟨(.some 19), (.bin .neq (.t 16) (.t 18)), none⟩])
 (.cond (.t 19) (.seq (.reg [⟨(.some 4), (.mv (.c (.lf (.bool false)))), none⟩])
 .ret) .skip))
 (.seq (.seq (.reg [⟨(.some 20), (.faddr 3 (.t 2)), none⟩, ⟨(.some 21), (.load false 1 (.t 20)), none⟩, ⟨(.some 22), (.toflt .f64 (.t 21)), none⟩, ⟨(.some 23), (.faddr 3 (.t 3)), none⟩, ⟨(.some 24), (.load false 1 (.t 23)), none⟩, ⟨(.some 25), (.toflt .f64 (.t 24)), none⟩, ⟨(.some 26), (.call true 67 [(.t 22), (.t 25)]), none⟩, ⟨(.some 27), (.una .not (.t 26)), none⟩])
 (.cond (.t 27) (.seq (.reg [⟨(.some 4), (.mv (.c (.lf (.bool false)))), none⟩])
 .ret) .skip))
 (.seq (.reg [⟨(.some 4), (.mv (.c (.lf (.bool true)))), none⟩])
 .ret)))))), [(.tmp 4)]⟩
def L53 : LFn := ⟨1, (.seq (.reg [⟨(.some 2), (.mv (.c (.lf .nils))), none⟩])
 (.seq (.reg [⟨(.some 5), (.mv (.t 0)), none⟩, ⟨(.some 6), (.len (.t 5)), none⟩, ⟨(.some 7), (.make 32 4 32 [(.int .i64 0), (.int .i64 0), (.int .i64 0), (.flt .f32 0)] (.t 6) (.t 6)), none⟩, ⟨(.some 3), (.mv (.t 7)), none⟩])
 (.seq (.seq (.reg [⟨(.some 4), (.mv (.c (.lf (.int .i64 0)))), none⟩])
 (.block 0 (.loop (.seq (.seq (.reg [⟨(.some 8), (.mv (.t 4)), none⟩, ⟨(.some 9), (.mv (.t 0)), none⟩, ⟨(.some 10), (.len (.t 9)), none⟩, ⟨(.some 11), (.bin .lss (.t 8) (.t 10)), none⟩])
 (.cond (.t 11) .skip (.exit 0)))
 (.seq (.block 1 (.reg [⟨(.some 14), (.mv (.t 3)), none⟩, ⟨(.some 15), (.mv (.t 4)), none⟩, ⟨(.some 16), (.mv (.t 0)), none⟩, ⟨(.some 17), (.mv (.t 4)), none⟩, ⟨(.some 18), (.iaddr 4 (.t 16) (.t 17)), none⟩, ⟨(.some 19), (.load true 4 (.t 18)), none⟩, ⟨(.some 20), (.call true 14 [(.t 19)]), none⟩, ⟨(.some 21), (.iaddr 4 (.t 14) (.t 15)), none⟩, ⟨none, (.store 4 (.t 21) (.t 20)), none⟩]))
 (.reg [⟨(.some 12), (.mv (.t 4)), none⟩, ⟨(.some 13), (.bin .add (.t 12) (.c (.lf (.int .i64 1)))), none⟩, ⟨(.some 4), (.mv (.t 13)), none⟩]))))))
 (.seq (.reg [⟨(.some 22), (.mv (.t 3)), none⟩, ⟨(.some 2), (.mv (.t 22)), none⟩])
 .ret)))), [(.tmp 2)]⟩
def L51 : LFn := ⟨2, (.seq (.reg [⟨(.some 4), (.mv (.c (.lf (.int .i64 0)))), none⟩])
 (.seq (.reg [⟨(.some 5), (.mv (.t 1)), none⟩, ⟨(.some 6), (.mv (.t 0)), none⟩, ⟨(.some 7), (.len (.t 6)), none⟩, ⟨(.some 8), (.bin .sub (.t 5) (.t 7)), none⟩, ⟨(.some 1), (.mv (.t 8)), none⟩])
 (.seq (.seq (.reg [⟨(.some 9), (.mv (.t 1)), none⟩, ⟨(.some 10), (.bin .lss (.t 9) (.c (.lf (.int .i64 0)))), none⟩])
 (.cond (.t 10) (.seq (.reg [⟨(.some 4), (.mv (.c (.lf (.int .i64 (-1))))), none⟩])
 .ret) .skip))
 (.seq (.reg [⟨(.some 11), (.mv (.t 1)), none⟩, ⟨(.some 4), (.mv (.t 11)), none⟩])
 .ret)))), [(.tmp 4)]⟩
def L55 : LFn := ⟨2, (.seq (.reg [⟨(.some 4), (.mv (.c (.lf (.bool false)))), none⟩])
 (.seq (.seq (.reg [⟨(.some 6), (.mv (.t 0)), none⟩, ⟨(.some 7), (.len (.t 6)), none⟩, ⟨(.some 8), (.mv (.t 1)), none⟩, ⟨(.some 9), (.len (.t 8)), none⟩, ⟨(.some 10), (.bin .neq (.t 7) (.t 9)), none⟩])
 (.cond (.t 10) (.seq (.reg [⟨(.some 4), (.mv (.c (.lf (.bool false)))), none⟩])
 .ret) .skip))
 (.seq (.seq (.reg [⟨(.some 5), (.mv (.c (.lf (.int .i64 0)))), none⟩])
 (.block 0 (.loop (.seq (.seq (.reg [⟨(.some 11), (.mv (.t 5)), none⟩, ⟨(.some 12), (.mv (.t 0)), none⟩, ⟨(.some 13), (.len (.t 12)), none⟩, ⟨(.some 14), (.bin .lss (.t 11) (.t 13)), none⟩])
 (.cond (.t 14) .skip (.exit 0)))
 (.seq (.block 1 (.seq (.reg [⟨(.some 17), (.mv (.t 0)), none⟩, ⟨(.some 18), (.mv (.t 5)), none⟩, ⟨(.some 19), (.iaddr 4 (.t 17) (.t 18)), none⟩, ⟨(.some 20), (.load true 4 (.t 19)), none⟩, ⟨(.some 21), (.mv (.t 1)), none⟩, ⟨(.some 22), (.mv (.t 5)), none⟩, ⟨(.some 23), (.iaddr 4 (.t 21) (.t 22)), none⟩, ⟨(.some 24), (.load true 4 (.t 23)), none⟩, ⟨(.some 25), (.call true 127 [(.t 20), (.t 24)]), none⟩, ⟨(.some 26), (.una .not (.t 25)), none⟩])
 (.cond (.t 26) (.seq (.reg [⟨(.some 4), (.mv (.c (.lf (.bool false)))), none⟩])
 .ret) .skip)))
 (.reg [⟨(.some 15), (.mv (.t 5)), none⟩, ⟨(.some 16), (.bin .add (.t 15) (.c (.lf (.int .i64 1)))), none⟩, ⟨(.some 5), (.mv (.t 16)), none⟩]))))))
 (.seq (.reg [⟨(.some 4), (.mv (.c (.lf (.bool true)))), none⟩])
 .ret)))), [(.tmp 4)]⟩
def L56 : LFn := ⟨2, (.seq (.reg [⟨(.some 4), (.mv (.c (.lf (.int .i64 0)))), none⟩])
 (.seq (.seq (.reg [⟨(.some 5), (.mv (.c (.lf (.int .i64 0)))), none⟩])
 (.block 0 (.loop (.seq (.seq (.reg [⟨(.some 6), (.mv (.t 5)), none⟩, ⟨(.some 7), (.mv (.t 0)), none⟩, ⟨(.some 8), (.len (.t 7)), none⟩, ⟨(.some 9), (.bin .lss (.t 6) (.t 8)), none⟩])
 (.cond (.t 9) .skip (.exit 0)))
 (.seq (.block 1 (.seq (.reg [⟨(.some 12), (.mv (.t 0)), none⟩, ⟨(.some 13), (.mv (.t 5)), none⟩, ⟨(.some 14), (.mv (.t 1)), none⟩, ⟨(.some 15), (.iaddr 4 (.t 12) (.t 13)), none⟩, ⟨(.some 16), (.faddr 0 (.t 15)), none⟩, ⟨none, (.store 1 (.t 16) (.t 14)), none⟩])
 (.seq (.reg [⟨(.some 17), (.mv (.t 1)), none⟩, ⟨(.some 18), (.bin .add (.t 17) (.c (.lf (.int .i64 1)))), none⟩, ⟨(.some 1), (.mv (.t 18)), none⟩])
 (.seq (.reg [⟨(.some 19), (.mv (.t 0)), none⟩, ⟨(.some 20), (.mv (.t 5)), none⟩, ⟨(.some 21), (.mv (.t 1)), none⟩, ⟨(.some 22), (.iaddr 4 (.t 19) (.t 20)), none⟩, ⟨(.some 23), (.faddr 1 (.t 22)), none⟩, ⟨none, (.store 1 (.t 23) (.t 21)), none⟩])
 (.seq (.reg [⟨(.some 24), (.mv (.t 1)), none⟩, ⟨(.some 25), (.bin .add (.t 24) (.c (.lf (.int .i64 1)))), none⟩, ⟨(.some 1), (.mv (.t 25)), none⟩])
 (.seq (.reg [⟨(.some 26), (.mv (.t 0)), none⟩, ⟨(.some 27), (.mv (.t 5)), none⟩, ⟨(.some 28), (.mv (.t 1)), none⟩, ⟨(.some 29), (.iaddr 4 (.t 26) (.t 27)), none⟩, ⟨(.some 30), (.faddr 2 (.t 29)), none⟩, ⟨none, (.store 1 (.t 30) (.t 28)), none⟩])
 (.seq (.reg [⟨(.some 31), (.mv (.t 1)), none⟩, ⟨(.some 32), (.bin .add (.t 31) (.c (.lf (.int .i64 1)))), none⟩, ⟨(.some 1), (.mv (.t 32)), none⟩])
 (.seq (.reg [⟨(.some 33), (.mv (.t 0)), none⟩, ⟨(.some 34), (.mv (.t 5)), none⟩, ⟨(.some 35), (.mv (.t 1)), none⟩, ⟨(.some 36), (.toflt .f32 (.t 35)), none⟩, ⟨(.some 37), (.iaddr 4 (.t 33) (.t 34)), none⟩, ⟨(.some 38), (.faddr 3 (.t 37)), none⟩, ⟨none, (.store 1 (.t 38) (.t 36)), none⟩])
 (.reg [⟨(.some 39), (.mv (.t 1)), none⟩, ⟨(.some 40), (.bin .add (.t 39) (.c (.lf (.int .i64 1)))), none⟩, ⟨(.some 1), (.mv (.t 40)), none⟩])))))))))
 (.reg [⟨(.some 10), (.mv (.t 5)), none⟩, ⟨(.some 11), (.bin .add (.t 10) (.c (.lf (.int .i64 1)))), none⟩, ⟨(.some 5), (.mv (.t 11)), none⟩]))))))
 (.seq (.reg [⟨(.some 41), (.mv (.t 1)), none⟩, ⟨(.some 4), (.mv (.t 41)), none⟩])
 .ret))), [(.tmp 4)]⟩
class HasNs (S : Sys) : Prop extends HasSame S, HasV S where
  f127 : S.fs 127 = some L127
  f53 : S.fs 53 = some L53
  f51 : S.fs 51 = some L51
  f55 : S.fs 55 = some L55
  f56 : S.fs 56 = some L56
namespace EN
section
variable {S : Sys} {lim : Nat} {h : Hp} {K : CV → Hp → Prop} [HasNs S]
@[simp] theorem c_toNote {x y z : Int} {u : Nat} : CallT S true 14 [.agg [.int .i64 x, .int .i64 y, .int .i64 z, .flt .f32 u]] h lim K = K (.agg [.int .i64 x, .int .i64 y, .int .i64 z, .flt .f32 u]) h := by
  refine CallT_pure (F := L14) (HasV.f14) rfl (by first | rfl | (split <;> rfl) | simp) ?_; unfold L14; dsimp only []
  repeat' (first | (simp (disch := first | omega | assumption | (simp only [List.length_set]; omega) | (simp [*] <;> fail) | assumption) [-Bool.decide_and, -Bool.decide_or, -Bool.not_and, -Bool.not_or, toNat_pred, toNat_succ, wrap64, wr_new, wr_new0, ok_if, ok_ifn, iadV_sl, makeV_int, decT, decF, over_at, *]) | (with_reducible refine Gd_split (fun hc => ?_) (fun hc => ?_) <;> (have hc2 := hc; try simp at hc2)) | (with_reducible refine Br_split (fun hc => ?_) (fun hc => ?_) <;> (have hc2 := hc; try simp at hc2)) | (with_reducible refine GdT_split (fun hc => ?_) (fun hc => ?_) <;> (have hc2 := hc; try simp at hc2)) | (with_reducible refine WT_alt ?_ ?_) | omega)
@[simp] theorem c_eqNote {x y z : Int} {u : Nat} : CallT S true 127 [.agg [.int .i64 x, .int .i64 y, .int .i64 z, .flt .f32 u], .agg [.int .i64 x, .int .i64 y, .int .i64 z, .flt .f32 u]] h lim K = K (.lf (.bool true)) h := by
  refine CallT_pure (F := L127) (HasNs.f127) rfl (by first | rfl | (split <;> rfl) | simp) ?_; unfold L127; dsimp only []
  repeat' (first | (simp (disch := first | omega | assumption | (simp only [List.length_set]; omega) | (simp [*] <;> fail) | assumption) [-Bool.decide_and, -Bool.decide_or, -Bool.not_and, -Bool.not_or, toNat_pred, toNat_succ, wrap64, wr_new, wr_new0, ok_if, ok_ifn, iadV_sl, makeV_int, decT, decF, over_at, *]) | (with_reducible refine Gd_split (fun hc => ?_) (fun hc => ?_) <;> (have hc2 := hc; try simp at hc2)) | (with_reducible refine Br_split (fun hc => ?_) (fun hc => ?_) <;> (have hc2 := hc; try simp at hc2)) | (with_reducible refine GdT_split (fun hc => ?_) (fun hc => ?_) <;> (have hc2 := hc; try simp at hc2)) | (with_reducible refine WT_alt ?_ ?_) | omega)
theorem c_szNoteS {l : Lf} {xs : List Nt} (hA : Arr h l 4 (xs.map Nt.cells)) {b : Int} (h1 : 0 ≤ b) (h2 : b ≤ 9223372036854775807) : CallT S true 51 [.lf l, .lf (.int .i64 b)] h lim K = K (.lf (.int .i64 (if b < xs.length then -1 else b - xs.length))) h := by
  have hb := hA.bound
  refine CallT_pure (F := L51) (HasNs.f51) rfl (by first | rfl | (split <;> rfl) | simp) ?_; unfold L51; dsimp only []
  repeat' (first | (simp (disch := first | omega | assumption | (simp only [List.length_set]; omega) | (simp [*] <;> fail) | assumption) [-Bool.decide_and, -Bool.decide_or, -Bool.not_and, -Bool.not_or, toNat_pred, toNat_succ, wrap64, wr_new, wr_new0, ok_if, ok_ifn, iadV_sl, makeV_int, decT, decF, over_at, *, hA.len, hA.at_, hA.at_', hA.rd, hA.rdIn, hA.rdIn0, hA.rdA, hA.rdInA, hA.rdIn0A]) | (with_reducible refine Gd_split (fun hc => ?_) (fun hc => ?_) <;> (have hc2 := hc; try simp at hc2)) | (with_reducible refine Br_split (fun hc => ?_) (fun hc => ?_) <;> (have hc2 := hc; try simp at hc2)) | (with_reducible refine GdT_split (fun hc => ?_) (fun hc => ?_) <;> (have hc2 := hc; try simp at hc2)) | (with_reducible refine WT_alt ?_ ?_) | omega)
theorem c_eqNoteS {l l2 : Lf} {xs : List Nt} (hA : Arr h l 4 (xs.map Nt.cells)) (hA2 : Arr h l2 4 (xs.map Nt.cells)) : CallT S true 55 [.lf l, .lf l2] h lim K = K (.lf (.bool true)) h := by
  have hb := hA.bound
  refine CallT_pure (F := L55) (HasNs.f55) rfl (by first | rfl | (split <;> rfl) | simp) ?_; unfold L55; dsimp only []
  repeat' (first | (simp (disch := first | omega | assumption | (simp only [List.length_set]; omega) | (simp [*] <;> fail) | assumption) [-Bool.decide_and, -Bool.decide_or, -Bool.not_and, -Bool.not_or, toNat_pred, toNat_succ, wrap64, wr_new, wr_new0, ok_if, ok_ifn, iadV_sl, makeV_int, decT, decF, over_at, *, hA.len, hA.at_, hA.at_', hA.rd, hA.rdIn, hA.rdIn0, hA.rdA, hA.rdInA, hA.rdIn0A, hA2.len, hA2.at_, hA2.at_', hA2.rd, hA2.rdIn, hA2.rdIn0, hA2.rdA, hA2.rdInA, hA2.rdIn0A]) | (with_reducible refine Gd_split (fun hc => ?_) (fun hc => ?_) <;> (have hc2 := hc; try simp at hc2)) | (with_reducible refine Br_split (fun hc => ?_) (fun hc => ?_) <;> (have hc2 := hc; try simp at hc2)) | (with_reducible refine GdT_split (fun hc => ?_) (fun hc => ?_) <;> (have hc2 := hc; try simp at hc2)) | (with_reducible refine WT_alt ?_ ?_) | omega)
  refine WL_for xs.length (fun i a' h' => i ≤ xs.length ∧ a' 0 = .lf l ∧ a' 1 = .lf l2 ∧ a' 5 = .lf (.int .i64 i) ∧ h' = h) (fun i a' h' hi => hi.1) ?_ (by simp)
  rintro i a' h' ⟨hi, e0, e1, e5, rfl⟩
  by_cases hlt : i < xs.length
  · repeat' (first | (simp (disch := first | omega | assumption | (simp only [List.length_set]; omega) | (simp [*] <;> fail) | assumption) [-Bool.decide_and, -Bool.decide_or, -Bool.not_and, -Bool.not_or, toNat_pred, toNat_succ, wrap64, wr_new, wr_new0, ok_if, ok_ifn, iadV_sl, makeV_int, decT, decF, over_at, *, hA.len, hA.at_, hA.at_', hA.rd, hA.rdIn, hA.rdIn0, hA.rdA, hA.rdInA, hA.rdIn0A, hA2.len, hA2.at_, hA2.at_', hA2.rd, hA2.rdIn, hA2.rdIn0, hA2.rdA, hA2.rdInA, hA2.rdIn0A, Nt.cells]) | (with_reducible refine Gd_split (fun hc => ?_) (fun hc => ?_) <;> (have hc2 := hc; try simp at hc2)) | (with_reducible refine Br_split (fun hc => ?_) (fun hc => ?_) <;> (have hc2 := hc; try simp at hc2)) | (with_reducible refine GdT_split (fun hc => ?_) (fun hc => ?_) <;> (have hc2 := hc; try simp at hc2)) | (with_reducible refine WT_alt ?_ ?_) | omega)
  · repeat' (first | (simp (disch := first | omega | assumption | (simp only [List.length_set]; omega) | (simp [*] <;> fail) | assumption) [-Bool.decide_and, -Bool.decide_or, -Bool.not_and, -Bool.not_or, toNat_pred, toNat_succ, wrap64, wr_new, wr_new0, ok_if, ok_ifn, iadV_sl, makeV_int, decT, decF, over_at, *, hA.len, hA.at_, hA.at_', hA.rd, hA.rdIn, hA.rdIn0, hA.rdA, hA.rdInA, hA.rdIn0A, hA2.len, hA2.at_, hA2.at_', hA2.rd, hA2.rdIn, hA2.rdIn0, hA2.rdA, hA2.rdInA, hA2.rdIn0A, Nt.cells]) | (with_reducible refine Gd_split (fun hc => ?_) (fun hc => ?_) <;> (have hc2 := hc; try simp at hc2)) | (with_reducible refine Br_split (fun hc => ?_) (fun hc => ?_) <;> (have hc2 := hc; try simp at hc2)) | (with_reducible refine GdT_split (fun hc => ?_) (fun hc => ?_) <;> (have hc2 := hc; try simp at hc2)) | (with_reducible refine WT_alt ?_ ?_) | omega)
theorem c_toNoteS {l : Lf} {xs : List Nt} (hA : Arr h l 4 (xs.map Nt.cells)) (hn : xs.length ≤ 16777216) (hl : lim ≤ h.length) (hK : ∀ l' g, New h g l' 32 4 (xs.map Nt.cells) → K (.lf l') g) : CallT S false 53 [.lf l] h lim K := by
  have hb := hA.bound
  refine CallT_of_body (F := L53) (HasNs.f53) rfl ?_; unfold L53; dsimp only []
  repeat' (first | (simp (disch := first | omega | assumption | (simp only [List.length_set]; omega) | (simp [*] <;> fail) | assumption) [-Bool.decide_and, -Bool.decide_or, -Bool.not_and, -Bool.not_or, toNat_pred, toNat_succ, wrap64, wr_new, wr_new0, ok_if, ok_ifn, iadV_sl, makeV_int, decT, decF, over_at, *, hA.len, hA.at_, hA.at_', hA.rd, hA.rdIn, hA.rdIn0, hA.rdA, hA.rdInA, hA.rdIn0A]) | (with_reducible refine Gd_split (fun hc => ?_) (fun hc => ?_) <;> (have hc2 := hc; try simp at hc2)) | (with_reducible refine Br_split (fun hc => ?_) (fun hc => ?_) <;> (have hc2 := hc; try simp at hc2)) | (with_reducible refine GdT_split (fun hc => ?_) (fun hc => ?_) <;> (have hc2 := hc; try simp at hc2)) | (with_reducible refine WT_alt ?_ ?_) | omega)
  refine WL_for xs.length (fun i a' g => i ≤ xs.length ∧ a' 0 = .lf l ∧ a' 3 = .lf (.sl h.length 0 xs.length 4) ∧ a' 4 = .lf (.int .i64 i) ∧ Kept h g ∧ Sl g h.length 32 4 (filled (nth (xs.map Nt.cells)) [.int .i64 0, .int .i64 0, .int .i64 0, .flt .f32 0] xs.length i)) (fun i a' h' hi => hi.1) ?_ ⟨by omega, by simp, by simp, by simp, Kept.app _ _, Sl.step0 rfl⟩
  rintro i a' g ⟨hi, e0, e3, e4, hk, hs⟩
  replace hA := hA.kept hk
  by_cases hlt : i < xs.length
  · repeat' (first | (simp (disch := first | omega | assumption | (simp only [List.length_set]; omega) | (simp [*] <;> fail) | assumption) [-Bool.decide_and, -Bool.decide_or, -Bool.not_and, -Bool.not_or, toNat_pred, toNat_succ, wrap64, wr_new, wr_new0, ok_if, ok_ifn, iadV_sl, makeV_int, decT, decF, over_at, *, hA.len, hA.at_, hA.at_', hA.rd, hA.rdIn, hA.rdIn0, hA.rdA, hA.rdInA, hA.rdIn0A, Nt.cells, hs.wr]) | (with_reducible refine Gd_split (fun hc => ?_) (fun hc => ?_) <;> (have hc2 := hc; try simp at hc2)) | (with_reducible refine Br_split (fun hc => ?_) (fun hc => ?_) <;> (have hc2 := hc; try simp at hc2)) | (with_reducible refine GdT_split (fun hc => ?_) (fun hc => ?_) <;> (have hc2 := hc; try simp at hc2)) | (with_reducible refine WT_alt ?_ ?_) | omega)
    exact ⟨hlt, hk.set (Nat.le_refl _), hs.step (by rw [nth_map hlt]; rfl) rfl⟩
  · have : i = xs.length := by omega
    subst this
    repeat' (first | (simp (disch := first | omega | assumption | (simp only [List.length_set]; omega) | (simp [*] <;> fail) | assumption) [-Bool.decide_and, -Bool.decide_or, -Bool.not_and, -Bool.not_or, toNat_pred, toNat_succ, wrap64, wr_new, wr_new0, ok_if, ok_ifn, iadV_sl, makeV_int, decT, decF, over_at, *, hA.len, hA.at_, hA.at_', hA.rd, hA.rdIn, hA.rdIn0, hA.rdA, hA.rdInA, hA.rdIn0A]) | (with_reducible refine Gd_split (fun hc => ?_) (fun hc => ?_) <;> (have hc2 := hc; try simp at hc2)) | (with_reducible refine Br_split (fun hc => ?_) (fun hc => ?_) <;> (have hc2 := hc; try simp at hc2)) | (with_reducible refine GdT_split (fun hc => ?_) (fun hc => ?_) <;> (have hc2 := hc; try simp at hc2)) | (with_reducible refine WT_alt ?_ ?_) | omega)
    exact hK _ _ (New.filled hk hs (by simp) (Nat.le_refl _) (by simpa using hb))

/-- What is handed in is written over: nothing else changes. -/
theorem c_markNoteS {g : Hp} {l : Lf} {rows : List (List Lf)} {k : Int} (hN : New h g l 32 4 rows) (hn : rows.length ≤ 16777216) (h0 : 0 ≤ k) (h1 : k ≤ 1099511627776) (hl : lim ≤ h.length) (hK : ∀ g', But g g' l l → K (.lf (.int .i64 (k + 4 * rows.length))) g') : CallT S false 56 [.lf l, .lf (.int .i64 k)] g lim K := by
  rcases hN.own with ⟨rfl, rfl⟩ | ⟨id, rfl, h2, h3⟩
  · refine CallT_of_body (F := L56) (HasNs.f56) rfl ?_; unfold L56; dsimp only []
    repeat' (first | (simp (disch := first | omega | assumption | (simp only [List.length_set]; omega) | (simp [*] <;> fail) | assumption) [-Bool.decide_and, -Bool.decide_or, -Bool.not_and, -Bool.not_or, toNat_pred, toNat_succ, wrap64, wr_new, wr_new0, ok_if, ok_ifn, iadV_sl, makeV_int, decT, decF, over_at, *]) | (with_reducible refine Gd_split (fun hc => ?_) (fun hc => ?_) <;> (have hc2 := hc; try simp at hc2)) | (with_reducible refine Br_split (fun hc => ?_) (fun hc => ?_) <;> (have hc2 := hc; try simp at hc2)) | (with_reducible refine GdT_split (fun hc => ?_) (fun hc => ?_) <;> (have hc2 := hc; try simp at hc2)) | (with_reducible refine WT_alt ?_ ?_) | omega)
    refine WL_forM 2199023255522 (by decide +kernel) (0) (fun i b g' => i ≤ 0 ∧ b 1 = .lf (.int .i64 k) ∧ b 5 = .lf (.int .i64 i) ∧ g' = g) (fun _ _ _ hi => hi.1) ⟨by simp, by simp, by simp, rfl⟩ ?_
    rintro i b g' ⟨hi, e1, e5, rfl⟩
    have : i = 0 := by omega
    subst this
    repeat' (first | (simp (disch := first | omega | assumption | (simp only [List.length_set]; omega) | (simp [*] <;> fail) | assumption) [-Bool.decide_and, -Bool.decide_or, -Bool.not_and, -Bool.not_or, toNat_pred, toNat_succ, wrap64, wr_new, wr_new0, ok_if, ok_ifn, iadV_sl, makeV_int, decT, decF, over_at, *]) | (with_reducible refine Gd_split (fun hc => ?_) (fun hc => ?_) <;> (have hc2 := hc; try simp at hc2)) | (with_reducible refine Br_split (fun hc => ?_) (fun hc => ?_) <;> (have hc2 := hc; try simp at hc2)) | (with_reducible refine GdT_split (fun hc => ?_) (fun hc => ?_) <;> (have hc2 := hc; try simp at hc2)) | (with_reducible refine WT_alt ?_ ?_) | omega)
    simpa using hK g' ⟨Nat.le_refl _, fun _ _ _ => rfl, .inl rfl⟩
  · have hfl := flat_len h3.len
    have hlt := h3.lt
    refine CallT_of_body (F := L56) (HasNs.f56) rfl ?_; unfold L56; dsimp only []
    repeat' (first | (simp (disch := first | omega | assumption | (simp only [List.length_set]; omega) | (simp [*] <;> fail) | assumption) [-Bool.decide_and, -Bool.decide_or, -Bool.not_and, -Bool.not_or, toNat_pred, toNat_succ, wrap64, wr_new, wr_new0, ok_if, ok_ifn, iadV_sl, makeV_int, decT, decF, over_at, *]) | (with_reducible refine Gd_split (fun hc => ?_) (fun hc => ?_) <;> (have hc2 := hc; try simp at hc2)) | (with_reducible refine Br_split (fun hc => ?_) (fun hc => ?_) <;> (have hc2 := hc; try simp at hc2)) | (with_reducible refine GdT_split (fun hc => ?_) (fun hc => ?_) <;> (have hc2 := hc; try simp at hc2)) | (with_reducible refine WT_alt ?_ ?_) | omega)
    refine WL_forM 2199023255522 (by decide +kernel) (rows.length) (fun i b g' => i ≤ rows.length ∧ b 1 = .lf (.int .i64 (k + 4 * i)) ∧ b 5 = .lf (.int .i64 i) ∧ But g g' (.sl id 0 rows.length 4) (.sl id 0 rows.length 4) ∧ ∃ cs, g'[id]? = some ⟨cs, .own 32 4⟩ ∧ cs.length = rows.length * 4) (fun _ _ _ hi => hi.1) ⟨by omega, by simp, by simp, ⟨Nat.le_refl _, fun _ _ _ => rfl, .inl rfl⟩, _, h3.get, hfl⟩ ?_
    rintro i b g' ⟨hi, e1, e5, hB, cs, hg, hcs⟩
    have hlt2 : id < g'.length := (List.getElem?_eq_some_iff.1 hg).1
    by_cases hi2 : i < rows.length
    · clear hK
      repeat' (first | (simp (disch := first | omega | assumption | (simp only [List.length_set]; omega) | (simp [*] <;> fail) | assumption) [-Bool.decide_and, -Bool.decide_or, -Bool.not_and, -Bool.not_or, toNat_pred, toNat_succ, wrap64, wr_new, wr_new0, ok_if, ok_ifn, iadV_sl, makeV_int, decT, decF, over_at, *, wr_get1 hg, wr_set1]) | (with_reducible refine Gd_split (fun hc => ?_) (fun hc => ?_) <;> (have hc2 := hc; try simp at hc2)) | (with_reducible refine Br_split (fun hc => ?_) (fun hc => ?_) <;> (have hc2 := hc; try simp at hc2)) | (with_reducible refine GdT_split (fun hc => ?_) (fun hc => ?_) <;> (have hc2 := hc; try simp at hc2)) | (with_reducible refine WT_alt ?_ ?_) | omega)
      all_goals ((repeat' apply And.intro) <;> first | omega | exact hB.set | exact ⟨_, List.getElem?_set_self hlt2, by simp only [List.length_set]; exact hcs⟩ | (simp; omega) | trace_state)
    · have : i = rows.length := by omega
      subst this
      repeat' (first | (simp (disch := first | omega | assumption | (simp only [List.length_set]; omega) | (simp [*] <;> fail) | assumption) [-Bool.decide_and, -Bool.decide_or, -Bool.not_and, -Bool.not_or, toNat_pred, toNat_succ, wrap64, wr_new, wr_new0, ok_if, ok_ifn, iadV_sl, makeV_int, decT, decF, over_at, *]) | (with_reducible refine Gd_split (fun hc => ?_) (fun hc => ?_) <;> (have hc2 := hc; try simp at hc2)) | (with_reducible refine Br_split (fun hc => ?_) (fun hc => ?_) <;> (have hc2 := hc; try simp at hc2)) | (with_reducible refine GdT_split (fun hc => ?_) (fun hc => ?_) <;> (have hc2 := hc; try simp at hc2)) | (with_reducible refine WT_alt ?_ ?_) | omega)
      all_goals exact hK g' hB

end
end EN
open EN
def L11 : LFn := ⟨5, (.seq (.reg [⟨(.some 6), (.box 24 (.t 1)), none⟩, ⟨(.some 10), (.mv (.c (.lf (.bool false)))), none⟩])
 (.seq (.reg [⟨(.some 11), (.mv (.c (.lf (.int .i64 1048576)))), none⟩])
 (.seq (.reg [⟨(.some 22), (.mv (.t 2)), none⟩, ⟨(.some 23), (.mv (.t 11)), none⟩, ⟨(.some 24), (.call true 51 [(.t 22), (.t 23)]), none⟩, ⟨(.some 11), (.mv (.t 24)), none⟩])
 (.seq (.seq (.reg [⟨(.some 25), (.mv (.t 11)), none⟩, ⟨(.some 26), (.bin .lss (.t 25) (.c (.lf (.int .i64 0)))), none⟩])
 (.cond (.t 26) (.seq (.reg [⟨(.some 10), (.mv (.c (.lf (.bool true)))), none⟩])
 .ret) .skip))
 (.seq (.reg [⟨(.some 28), (.mv (.t 0)), none⟩, ⟨(.some 29), (.load true 4 (.t 6)), none⟩, ⟨(.some 30), (.call true 13 [(.t 29)]), none⟩, ⟨(.some 31), (.mv (.t 2)), none⟩, ⟨(.some 32), (.call false 53 [(.t 31)]), none⟩, ⟨(.some 33), (.mv (.t 3)), none⟩, ⟨(.some 34), (.mv (.t 4)), none⟩, ⟨(.some 35), (.call false 52 [(.t 28), (.t 30), (.t 32), (.t 33), (.t 34)]), none⟩, ⟨(.some 27), (.mv (.t 35)), none⟩, ⟨(.some 36), (.ext (.t 27) 0), none⟩, ⟨(.some 37), (.ext (.t 27) 1), none⟩, ⟨(.some 12), (.mv (.t 36)), none⟩, ⟨(.some 13), (.mv (.t 37)), none⟩])
 (.seq (.reg [⟨(.some 38), (.mv (.t 2)), none⟩, ⟨(.some 39), (.call false 53 [(.t 38)]), none⟩, ⟨(.some 14), (.mv (.t 39)), none⟩])
 (.seq (.reg [⟨(.some 41), (.mv (.t 0)), none⟩, ⟨(.some 42), (.load true 4 (.t 6)), none⟩, ⟨(.some 43), (.call true 13 [(.t 42)]), none⟩, ⟨(.some 44), (.mv (.t 14)), none⟩, ⟨(.some 45), (.mv (.t 3)), none⟩, ⟨(.some 46), (.mv (.t 4)), none⟩, ⟨(.some 47), (.call false 54 [(.t 41), (.t 43), (.t 44), (.t 45), (.t 46)]), none⟩, ⟨(.some 40), (.mv (.t 47)), none⟩, ⟨(.some 48), (.ext (.t 40) 0), none⟩, ⟨(.some 49), (.ext (.t 40) 1), none⟩, ⟨(.some 15), (.mv (.t 48)), none⟩, ⟨(.some 16), (.mv (.t 49)), none⟩])
 (.seq (.seq (.reg [⟨(.some 50), (.mv (.t 15)), none⟩, ⟨(.some 51), (.mv (.t 12)), none⟩, ⟨(.some 52), (.call true 16 [(.t 50), (.t 51)]), none⟩, ⟨(.some 53), (.una .not (.t 52)), none⟩, ⟨(.some 54), (.mv (.t 53)), none⟩, ⟨(.some 55), (.mv (.t 16)), (.some (54, false))⟩, ⟨(.some 56), (.mv (.t 13)), (.some (54, false))⟩, ⟨(.some 57), (.beq true (.t 55) (.t 56)), (.some (54, false))⟩, ⟨(.some 58), (.pick (.t 54) (.c (.lf (.bool true))) (.t 57)), none⟩])
 (.cond (.t 58) (.seq (.reg [⟨(.some 10), (.mv (.c (.lf (.bool false)))), none⟩])
 .ret) .skip))
 (.seq (.seq (.reg [⟨(.some 59), (.mv (.t 14)), none⟩, ⟨(.some 60), (.mv (.t 2)), none⟩, ⟨(.some 61), (.call false 53 [(.t 60)]), none⟩, ⟨(.some 62), (.call true 55 [(.t 59), (.t 61)]), none⟩, ⟨(.some 63), (.una .not (.t 62)), none⟩])
 (.cond (.t 63) (.seq (.reg [⟨(.some 10), (.mv (.c (.lf (.bool false)))), none⟩])
 .ret) .skip))
 (.seq (.reg [⟨(.some 17), (.mv (.c (.lf (.int .i64 1)))), none⟩])
 (.seq (.reg [⟨(.some 64), (.mv (.t 14)), none⟩, ⟨(.some 65), (.mv (.t 17)), none⟩, ⟨(.some 66), (.call false 56 [(.t 64), (.t 65)]), none⟩, ⟨(.some 17), (.mv (.t 66)), none⟩])
 (.seq (.seq (.reg [⟨(.some 67), (.mv (.t 17)), none⟩, ⟨(.some 68), (.bin .lss (.t 67) (.c (.lf (.int .i64 0)))), none⟩, ⟨(.some 69), (.mv (.t 68)), none⟩, ⟨(.some 70), (.mv (.t 15)), (.some (69, false))⟩, ⟨(.some 71), (.mv (.t 12)), (.some (69, false))⟩, ⟨(.some 72), (.call true 16 [(.t 70), (.t 71)]), (.some (69, false))⟩, ⟨(.some 73), (.una .not (.t 72)), (.some (69, false))⟩, ⟨(.some 74), (.pick (.t 69) (.c (.lf (.bool true))) (.t 73)), none⟩, ⟨(.some 75), (.mv (.t 74)), none⟩, ⟨(.some 76), (.mv (.t 16)), (.some (75, false))⟩, ⟨(.some 77), (.mv (.t 13)), (.some (75, false))⟩, ⟨(.some 78), (.beq true (.t 76) (.t 77)), (.some (75, false))⟩, ⟨(.some 79), (.pick (.t 75) (.c (.lf (.bool true))) (.t 78)), none⟩])
 (.cond (.t 79) (.seq (.reg [⟨(.some 10), (.mv (.c (.lf (.bool false)))), none⟩])
 .ret) .skip))
 (.seq (.reg [⟨(.some 18), (.mv (.c (.lf (.int .i64 1)))), none⟩])
 (.seq (.reg [⟨(.some 80), (.mv (.t 15)), none⟩, ⟨(.some 81), (.mv (.t 18)), none⟩, ⟨(.some 82), (.call false 17 [(.t 80), (.t 81)]), none⟩, ⟨(.some 18), (.mv (.t 82)), none⟩])
 (.seq (.reg [⟨(.some 19), (.mv (.c (.lf (.int .i64 1)))), none⟩])
 (.seq (.reg [⟨(.some 83), (.mv (.t 15)), none⟩, ⟨(.some 84), (.mv (.t 19)), none⟩, ⟨(.some 85), (.call true 18 [(.t 83), (.t 84)]), none⟩, ⟨(.some 19), (.mv (.t 85)), none⟩])
 (.seq (.seq (.reg [⟨(.some 86), (.mv (.t 19)), none⟩, ⟨(.some 87), (.bin .lss (.t 86) (.c (.lf (.int .i64 0)))), none⟩])
 (.cond (.t 87) (.seq (.reg [⟨(.some 10), (.mv (.c (.lf (.bool false)))), none⟩])
 .ret) .skip))
 (.seq (.seq (.reg [⟨(.some 88), (.mv (.t 19)), none⟩, ⟨(.some 89), (.mv (.t 18)), none⟩, ⟨(.some 90), (.bin .neq (.t 88) (.t 89)), none⟩])
 (.cond (.t 90) (.seq (.reg [⟨(.some 10), (.mv (.c (.lf (.bool false)))), none⟩])
 .ret) .skip))
 (.seq (.reg [⟨(.some 92), (.mv (.t 0)), none⟩, ⟨(.some 93), (.load true 4 (.t 6)), none⟩, ⟨(.some 94), (.call true 13 [(.t 93)]), none⟩, ⟨(.some 95), (.mv (.t 2)), none⟩, ⟨(.some 96), (.call false 53 [(.t 95)]), none⟩, ⟨(.some 97), (.mv (.t 3)), none⟩, ⟨(.some 98), (.mv (.t 4)), none⟩, ⟨(.some 99), (.call false 54 [(.t 92), (.t 94), (.t 96), (.t 97), (.t 98)]), none⟩, ⟨(.some 91), (.mv (.t 99)), none⟩, ⟨(.some 100), (.ext (.t 91) 0), none⟩, ⟨(.some 101), (.ext (.t 91) 1), none⟩, ⟨(.some 20), (.mv (.t 100)), none⟩, ⟨(.some 21), (.mv (.t 101)), none⟩])
 (.seq (.seq (.reg [⟨(.some 102), (.mv (.t 20)), none⟩, ⟨(.some 103), (.mv (.t 12)), none⟩, ⟨(.some 104), (.call true 16 [(.t 102), (.t 103)]), none⟩, ⟨(.some 105), (.una .not (.t 104)), none⟩, ⟨(.some 106), (.mv (.t 105)), none⟩, ⟨(.some 107), (.mv (.t 21)), (.some (106, false))⟩, ⟨(.some 108), (.mv (.t 13)), (.some (106, false))⟩, ⟨(.some 109), (.beq true (.t 107) (.t 108)), (.some (106, false))⟩, ⟨(.some 110), (.pick (.t 106) (.c (.lf (.bool true))) (.t 109)), none⟩])
 (.cond (.t 110) (.seq (.reg [⟨(.some 10), (.mv (.c (.lf (.bool false)))), none⟩])
 .ret) .skip))
 (.seq (.reg [⟨(.some 19), (.mv (.c (.lf (.int .i64 1)))), none⟩])
 (.seq (.reg [⟨(.some 111), (.mv (.t 15)), none⟩, ⟨(.some 112), (.mv (.t 19)), none⟩, ⟨(.some 113), (.call true 18 [(.t 111), (.t 112)]), none⟩, ⟨(.some 19), (.mv (.t 113)), none⟩])
 (.seq (.seq (.reg [⟨(.some 114), (.mv (.t 19)), none⟩, ⟨(.some 115), (.bin .lss (.t 114) (.c (.lf (.int .i64 0)))), none⟩])
 (.cond (.t 115) (.seq (.reg [⟨(.some 10), (.mv (.c (.lf (.bool false)))), none⟩])
 .ret) .skip))
 (.seq (.seq (.reg [⟨(.some 116), (.mv (.t 19)), none⟩, ⟨(.some 117), (.mv (.t 18)), none⟩, ⟨(.some 118), (.bin .neq (.t 116) (.t 117)), none⟩])
 (.cond (.t 118) (.seq (.reg [⟨(.some 10), (.mv (.c (.lf (.bool false)))), none⟩])
 .ret) .skip))
 (.seq (.reg [⟨(.some 10), (.mv (.c (.lf (.bool true)))), none⟩])
 .ret))))))))))))))))))))))))), [(.tmp 10)]⟩
class HasLRenderNotes (S : Sys) : Prop extends HasRa S, HasNs S, HasF S where
  f11 : S.fs 11 = some L11
def noteSh : Sh := .cat 1 (.int .i64) (.cat 1 (.int .i64) (.cat 1 (.int .i64) (.cat 1 (.flt .f32) .emp)))
def envSh : Sh := .cat 1 (.int .i64) (.cat 1 (.int .i64) (.cat 1 (.flt .f32) (.cat 1 (.int .i64) .emp)))
theorem note_of {h : Hp} {r : List Lf} (t : Ty h noteSh r) : ∃ p : Nt, r = p.cells ∧ True := by
  obtain ⟨a1, a2, rfl, _, ⟨x, rfl, _⟩, b1, b2, rfl, _, ⟨y, rfl, _⟩, c1, c2, rfl, _, ⟨z, rfl, _⟩, d1, d2, rfl, _, ⟨u, rfl, _, _⟩, rfl⟩ := t
  exact ⟨⟨x, y, z, u⟩, rfl, trivial⟩
theorem env_of {h : Hp} {r : List Lf} (t : Ty h envSh r) : ∃ p : Ev, r = p.cells := by
  obtain ⟨a1, a2, rfl, _, ⟨x, rfl, _⟩, b1, b2, rfl, _, ⟨y, rfl, _⟩, c1, c2, rfl, _, ⟨z, rfl, _, _⟩, d1, d2, rfl, _, ⟨u, rfl, _⟩, rfl⟩ := t
  exact ⟨⟨x, y, z, u⟩, rfl⟩
set_option maxRecDepth 20000 in
set_option maxHeartbeats 2000000 in
theorem lawRenderNotes {S : Sys} [HasLRenderNotes S] : LawHolds S 11 [(false, .int .i64), (true, envSh), (false, .sl 4 noteSh), (false, .int .i64), (false, .int .i64)] := by
  intro h cs hcs
  obtain ⟨ck, _, rfl, ⟨lsk, rfl, k, rfl, _⟩, c0, _, rfl, ⟨ls0, rfl, ht0⟩, c1, _, rfl, ⟨ls1, rfl, l, rows, rfl, hAl, hrows⟩, c2, _, rfl, ⟨ls2, rfl, v, rfl, _⟩, c3, _, rfl, ⟨ls3, rfl, n, rfl, _⟩, rfl⟩ := hcs
  obtain ⟨e, rfl⟩ := env_of ht0
  obtain ⟨ps, rfl, _⟩ := rows_map (Q := fun _ => True) fun r hr => note_of (hrows r hr)
  clear ht0 hrows
  have hf5 : e.cells.length = 4 := rfl
  have ht5 : List.take 4 e.cells = e.cells := rfl
  have hmk : mkV true e.cells = .agg e.cells := rfl
  have te : ∀ {h' K lim}, CallT S true 13 [.agg e.cells] h' lim K = K (.agg e.cells) h' := fun {h' K lim} => c_toEnvelope (S := S) (h := h') (K := K) (lim := lim) (a := e.a) (d := e.d) (r := e.r) (s := e.s)
  have hlo := raR_len (k := k) (e := e) (ps := ps) (v := v) (n := n)
  have cs : ∀ {l g K}, Arr g l 4 (ps.map Nt.cells) → h.length ≤ g.length → (∀ o g', New g g' o 22 1 ((raR k e ps v n).map fl) → K (.tup [.lf o, .lf (.bool (decide (okRa k e ps v n)))]) g') → CallT S false 52 [.lf (.int .i64 k), .agg e.cells, .lf l, .lf (.int .i64 v), .lf (.int .i64 n)] g h.length K := fun ha hl hk => c_specRenderNotes ha hl hk
  have ci : ∀ {l g K}, Arr g l 4 (ps.map Nt.cells) → h.length ≤ g.length → (∀ o g', New g g' o 22 1 ((raR k e ps v n).map fl) → K (.tup [.lf o, .lf (.bool (decide (okRa k e ps v n)))]) g') → CallT S false 54 [.lf (.int .i64 k), .agg e.cells, .lf l, .lf (.int .i64 v), .lf (.int .i64 n)] g h.length K := fun ha hl hk => c_implRenderNotes ha hl hk
  generalize raR k e ps v n = y at *
  generalize decide (okRa k e ps v n) = ok at *
  refine law_of (F := L11) HasLRenderNotes.f11 rfl ?_
  unfold L11
  dsimp only []
  have b5 : ∀ g, Kept (h ++ [⟨e.cells, .own 24 1⟩]) g → rdCells g h.length 0 4 = some e.cells := fun g k => k.rd (Cel.new.rd (by simp [hf5]))
  have b50 := b5 _ (Kept.refl _)
  have hl1 : h.length + 1 ≤ (h ++ [⟨e.cells, .own 24 1⟩] : Hp).length := by simp
  have hAx := hAl.app (t := [⟨e.cells, .own 24 1⟩])
  repeat' (first | (simp (disch := first | omega | assumption | (simp only [List.length_set]; omega) | (simp [*] <;> fail) | assumption) [-Bool.decide_and, -Bool.decide_or, -Bool.not_and, -Bool.not_or, toNat_pred, toNat_succ, wrap64, wr_new, wr_new0, ok_if, ok_ifn, iadV_sl, makeV_int, decT, decF, over_at, *, c_szNoteS hAx]) | (with_reducible refine Gd_split (fun hc => ?_) (fun hc => ?_) <;> (have hc2 := hc; try simp at hc2)) | (with_reducible refine Br_split (fun hc => ?_) (fun hc => ?_) <;> (have hc2 := hc; try simp at hc2)) | (with_reducible refine GdT_split (fun hc => ?_) (fun hc => ?_) <;> (have hc2 := hc; try simp at hc2)) | (with_reducible refine WT_alt ?_ ?_) | omega)
  have hnl : ps.length ≤ 16777216 := by split at hc2 <;> omega
  clear b50 hAl
  have hAl := hAx
  clear hAx
  generalize (h ++ [⟨e.cells, .own 24 1⟩] : Hp) = h1 at *
  refine c_toNoteS (hAl.kept (Kept.refl h1)) hnl (by omega) fun x0 g1 hx0 => ?_
  have K2 := (Kept.refl h1).trans hx0.kept
  have Q2 := hx0.kept.1
  have P2 := K2.1
  have Nx0 := hx0.base (Kept.refl h1)
  repeat' (first | (simp (disch := first | omega | assumption | (simp only [List.length_set]; omega) | (simp [*] <;> fail) | assumption) [-Bool.decide_and, -Bool.decide_or, -Bool.not_and, -Bool.not_or, toNat_pred, toNat_succ, wrap64, wr_new, wr_new0, ok_if, ok_ifn, iadV_sl, makeV_int, decT, decF, over_at, *]) | (with_reducible refine Gd_split (fun hc => ?_) (fun hc => ?_) <;> (have hc2 := hc; try simp at hc2)) | (with_reducible refine Br_split (fun hc => ?_) (fun hc => ?_) <;> (have hc2 := hc; try simp at hc2)) | (with_reducible refine GdT_split (fun hc => ?_) (fun hc => ?_) <;> (have hc2 := hc; try simp at hc2)) | (with_reducible refine WT_alt ?_ ?_) | omega)
  refine cs Nx0.arr (by omega) fun s0 g3 hs0  => ?_
  have Fs0x0 : Far s0 x0 := fun q1 q2 => by have := (Nx0.lt q2).2; have := (hs0.lt q1).1; omega
  have K4 := K2.trans hs0.kept
  have Q4 := hs0.kept.1
  have P4 := K4.1
  have Ns0 := hs0.base K2
  replace Nx0 := Nx0.later hs0.kept
  repeat' (first | (simp (disch := first | omega | assumption | (simp only [List.length_set]; omega) | (simp [*] <;> fail) | assumption) [-Bool.decide_and, -Bool.decide_or, -Bool.not_and, -Bool.not_or, toNat_pred, toNat_succ, wrap64, wr_new, wr_new0, ok_if, ok_ifn, iadV_sl, makeV_int, decT, decF, over_at, *]) | (with_reducible refine Gd_split (fun hc => ?_) (fun hc => ?_) <;> (have hc2 := hc; try simp at hc2)) | (with_reducible refine Br_split (fun hc => ?_) (fun hc => ?_) <;> (have hc2 := hc; try simp at hc2)) | (with_reducible refine GdT_split (fun hc => ?_) (fun hc => ?_) <;> (have hc2 := hc; try simp at hc2)) | (with_reducible refine WT_alt ?_ ?_) | omega)
  refine c_toNoteS (hAl.kept K4) hnl (by omega) fun a0 g5 ha0 => ?_
  have Fa0s0 : Far a0 s0 := fun q1 q2 => by have := (Ns0.lt q2).2; have := (ha0.lt q1).1; omega
  have K6 := K4.trans ha0.kept
  have Q6 := ha0.kept.1
  have P6 := K6.1
  have Na0 := ha0.base K4
  replace Ns0 := Ns0.later ha0.kept
  repeat' (first | (simp (disch := first | omega | assumption | (simp only [List.length_set]; omega) | (simp [*] <;> fail) | assumption) [-Bool.decide_and, -Bool.decide_or, -Bool.not_and, -Bool.not_or, toNat_pred, toNat_succ, wrap64, wr_new, wr_new0, ok_if, ok_ifn, iadV_sl, makeV_int, decT, decF, over_at, *]) | (with_reducible refine Gd_split (fun hc => ?_) (fun hc => ?_) <;> (have hc2 := hc; try simp at hc2)) | (with_reducible refine Br_split (fun hc => ?_) (fun hc => ?_) <;> (have hc2 := hc; try simp at hc2)) | (with_reducible refine GdT_split (fun hc => ?_) (fun hc => ?_) <;> (have hc2 := hc; try simp at hc2)) | (with_reducible refine WT_alt ?_ ?_) | omega)
  refine ci Na0.arr (by omega) fun r0 g7 hr0  => ?_
  have Fr0s0 : Far r0 s0 := fun q1 q2 => by have := (Ns0.lt q2).2; have := (hr0.lt q1).1; omega
  have Fa0r0 : Far a0 r0 := fun q1 q2 => by have := (Na0.lt q1).2; have := (hr0.lt q2).1; omega
  have K8 := K6.trans hr0.kept
  have Q8 := hr0.kept.1
  have P8 := K8.1
  have Nr0 := hr0.base K6
  replace Ns0 := Ns0.later hr0.kept
  replace Na0 := Na0.later hr0.kept
  repeat' (first | (simp (disch := first | omega | assumption | (simp only [List.length_set]; omega) | (simp [*] <;> fail) | assumption) [-Bool.decide_and, -Bool.decide_or, -Bool.not_and, -Bool.not_or, toNat_pred, toNat_succ, wrap64, wr_new, wr_new0, ok_if, ok_ifn, iadV_sl, makeV_int, decT, decF, over_at, *, c_eqFloat32S Nr0.arr Ns0.arr]) | (with_reducible refine Gd_split (fun hc => ?_) (fun hc => ?_) <;> (have hc2 := hc; try simp at hc2)) | (with_reducible refine Br_split (fun hc => ?_) (fun hc => ?_) <;> (have hc2 := hc; try simp at hc2)) | (with_reducible refine GdT_split (fun hc => ?_) (fun hc => ?_) <;> (have hc2 := hc; try simp at hc2)) | (with_reducible refine WT_alt ?_ ?_) | omega)
  refine c_toNoteS (hAl.kept K8) hnl (by omega) fun y0 g9 hy0 => ?_
  have Fs0y0 : Far s0 y0 := fun q1 q2 => by have := (Ns0.lt q1).2; have := (hy0.lt q2).1; omega
  have Fa0y0 : Far a0 y0 := fun q1 q2 => by have := (Na0.lt q1).2; have := (hy0.lt q2).1; omega
  have Fr0y0 : Far r0 y0 := fun q1 q2 => by have := (Nr0.lt q1).2; have := (hy0.lt q2).1; omega
  have K10 := K8.trans hy0.kept
  have Q10 := hy0.kept.1
  have P10 := K10.1
  have Ny0 := hy0.base K8
  replace Ns0 := Ns0.later hy0.kept
  replace Na0 := Na0.later hy0.kept
  replace Nr0 := Nr0.later hy0.kept
  repeat' (first | (simp (disch := first | omega | assumption | (simp only [List.length_set]; omega) | (simp [*] <;> fail) | assumption) [-Bool.decide_and, -Bool.decide_or, -Bool.not_and, -Bool.not_or, toNat_pred, toNat_succ, wrap64, wr_new, wr_new0, ok_if, ok_ifn, iadV_sl, makeV_int, decT, decF, over_at, *, c_eqNoteS Na0.arr Ny0.arr]) | (with_reducible refine Gd_split (fun hc => ?_) (fun hc => ?_) <;> (have hc2 := hc; try simp at hc2)) | (with_reducible refine Br_split (fun hc => ?_) (fun hc => ?_) <;> (have hc2 := hc; try simp at hc2)) | (with_reducible refine GdT_split (fun hc => ?_) (fun hc => ?_) <;> (have hc2 := hc; try simp at hc2)) | (with_reducible refine WT_alt ?_ ?_) | omega)
  refine c_markNoteS Na0 (by simp; omega) (by omega) (by omega) (by omega) fun g11 hB11 => ?_
  have Q11 := hB11.len
  have K11 := hB11.kept K10 (fun hn => (Na0.lt hn).1)
  replace Ns0 := hB11.new Ns0 (fun hn => (Na0.lt hn).1) (fun q1 q2 => Fa0s0.symm q2 q1)
  replace Nr0 := hB11.new Nr0 (fun hn => (Na0.lt hn).1) (fun q1 q2 => Fa0r0.symm q2 q1)
  repeat' (first | (simp (disch := first | omega | assumption | (simp only [List.length_set]; omega) | (simp [*] <;> fail) | assumption) [-Bool.decide_and, -Bool.decide_or, -Bool.not_and, -Bool.not_or, toNat_pred, toNat_succ, wrap64, wr_new, wr_new0, ok_if, ok_ifn, iadV_sl, makeV_int, decT, decF, over_at, *, c_eqFloat32S Nr0.arr Ns0.arr]) | (with_reducible refine Gd_split (fun hc => ?_) (fun hc => ?_) <;> (have hc2 := hc; try simp at hc2)) | (with_reducible refine Br_split (fun hc => ?_) (fun hc => ?_) <;> (have hc2 := hc; try simp at hc2)) | (with_reducible refine GdT_split (fun hc => ?_) (fun hc => ?_) <;> (have hc2 := hc; try simp at hc2)) | (with_reducible refine WT_alt ?_ ?_) | omega)
  refine c_markFloat32S Nr0 (by simp; omega) (by omega) (by omega) (by omega) fun g12 hM12 hB12 => ?_
  have Q12 := hB12.len
  have K12 := hB12.kept K11 (fun hn => (Nr0.lt hn).1)
  replace Ns0 := hB12.new Ns0 (fun hn => (Nr0.lt hn).1) (fun q1 q2 => Fr0s0.symm q2 q1)
  simp only [List.length_map] at hM12
  replace Nr0 := hM12
  repeat' (first | (simp (disch := first | omega | assumption | (simp only [List.length_set]; omega) | (simp [*] <;> fail) | assumption) [-Bool.decide_and, -Bool.decide_or, -Bool.not_and, -Bool.not_or, toNat_pred, toNat_succ, wrap64, wr_new, wr_new0, ok_if, ok_ifn, iadV_sl, makeV_int, decT, decF, over_at, *, c_heldFloat32S Nr0.arr]) | (with_reducible refine Gd_split (fun hc => ?_) (fun hc => ?_) <;> (have hc2 := hc; try simp at hc2)) | (with_reducible refine Br_split (fun hc => ?_) (fun hc => ?_) <;> (have hc2 := hc; try simp at hc2)) | (with_reducible refine GdT_split (fun hc => ?_) (fun hc => ?_) <;> (have hc2 := hc; try simp at hc2)) | (with_reducible refine WT_alt ?_ ?_) | omega)
  refine c_toNoteS (hAl.kept K12) hnl (by omega) fun w0 g13 hw0 => ?_
  have Fs0w0 : Far s0 w0 := fun q1 q2 => by have := (Ns0.lt q1).2; have := (hw0.lt q2).1; omega
  have Fr0w0 : Far r0 w0 := fun q1 q2 => by have := (Nr0.lt q1).2; have := (hw0.lt q2).1; omega
  have K14 := K12.trans hw0.kept
  have Q14 := hw0.kept.1
  have P14 := K14.1
  have Nw0 := hw0.base K12
  replace Ns0 := Ns0.later hw0.kept
  replace Nr0 := Nr0.later hw0.kept
  repeat' (first | (simp (disch := first | omega | assumption | (simp only [List.length_set]; omega) | (simp [*] <;> fail) | assumption) [-Bool.decide_and, -Bool.decide_or, -Bool.not_and, -Bool.not_or, toNat_pred, toNat_succ, wrap64, wr_new, wr_new0, ok_if, ok_ifn, iadV_sl, makeV_int, decT, decF, over_at, *]) | (with_reducible refine Gd_split (fun hc => ?_) (fun hc => ?_) <;> (have hc2 := hc; try simp at hc2)) | (with_reducible refine Br_split (fun hc => ?_) (fun hc => ?_) <;> (have hc2 := hc; try simp at hc2)) | (with_reducible refine GdT_split (fun hc => ?_) (fun hc => ?_) <;> (have hc2 := hc; try simp at hc2)) | (with_reducible refine WT_alt ?_ ?_) | omega)
  refine ci Nw0.arr (by omega) fun u0 g15 hu0  => ?_
  have Fs0u0 : Far s0 u0 := fun q1 q2 => by have := (Ns0.lt q1).2; have := (hu0.lt q2).1; omega
  have Fr0u0 : Far r0 u0 := fun q1 q2 => by have := (Nr0.lt q1).2; have := (hu0.lt q2).1; omega
  have Fu0w0 : Far u0 w0 := fun q1 q2 => by have := (Nw0.lt q2).2; have := (hu0.lt q1).1; omega
  have K16 := K14.trans hu0.kept
  have Q16 := hu0.kept.1
  have P16 := K16.1
  have Nu0 := hu0.base K14
  replace Ns0 := Ns0.later hu0.kept
  replace Nr0 := Nr0.later hu0.kept
  replace Nw0 := Nw0.later hu0.kept
  repeat' (first | (simp (disch := first | omega | assumption | (simp only [List.length_set]; omega) | (simp [*] <;> fail) | assumption) [-Bool.decide_and, -Bool.decide_or, -Bool.not_and, -Bool.not_or, toNat_pred, toNat_succ, wrap64, wr_new, wr_new0, ok_if, ok_ifn, iadV_sl, makeV_int, decT, decF, over_at, *, c_eqFloat32S Nu0.arr Ns0.arr, c_heldFloat32S Nr0.arr]) | (with_reducible refine Gd_split (fun hc => ?_) (fun hc => ?_) <;> (have hc2 := hc; try simp at hc2)) | (with_reducible refine Br_split (fun hc => ?_) (fun hc => ?_) <;> (have hc2 := hc; try simp at hc2)) | (with_reducible refine GdT_split (fun hc => ?_) (fun hc => ?_) <;> (have hc2 := hc; try simp at hc2)) | (with_reducible refine WT_alt ?_ ?_) | omega)
end Go.E
namespace Go.E.RenderNotes
open Go Go.E
def pure : FuncId → Bool := fun f => List.elem f [3, 4, 5, 6, 7, 8, 9, 10, 11, 13, 14, 16, 18, 19, 20, 22, 23, 24, 28, 30, 31, 32, 36, 38, 39, 40, 45, 47, 51, 55, 57, 58, 59, 60, 62, 63, 64, 65, 67, 68, 69, 70, 73, 74, 75, 76, 77, 78, 79, 80, 81, 82, 83, 84, 85, 87, 90, 91, 95, 96, 99, 100, 101, 102, 103, 106, 108, 111, 112, 113, 115, 116, 118, 122, 124, 127, 128, 129, 130, 131, 132, 133, 134, 135, 136, 138, 139, 140, 142, 145, 146, 147, 148, 150, 151, 152, 153, 154, 155, 159, 161, 162, 163, 165, 166, 168, 169, 173, 174, 175, 176, 177, 178, 179, 180, 181, 182, 183, 184, 186, 187, 188, 189, 192, 193, 194, 195, 196, 197, 198, 199, 200, 201, 202, 204, 205, 206, 207, 208, 209, 210, 211, 212, 213, 214, 215, 216, 217, 218, 219, 220, 221, 222, 223, 224, 226, 228, 230, 237, 240]
def funs : List (Nat × LFn) := [(74, L74), (85, L85), (91, L91), (13, L13), (14, L14), (58, L58), (59, L59), (63, L63), (64, L64), (129, L129), (133, L133), (134, L134), (136, L136), (131, L131), (138, L138), (178, L178), (181, L181), (182, L182), (199, L199), (215, L215), (175, L175), (176, L176), (193, L193), (196, L196), (207, L207), (208, L208), (209, L209), (210, L210), (219, L219), (221, L221), (197, L197), (198, L198), (57, L57), (62, L62), (130, L130), (177, L177), (180, L180), (60, L60), (65, L65), (132, L132), (137, L137), (174, L174), (179, L179), (128, L128), (135, L135), (125, L125), (61, L61), (66, L66), (122, L122), (124, L124), (126, L126), (172, L172), (173, L173), (52, L52), (54, L54), (123, L123), (67, L67), (51, L51), (53, L53), (55, L55), (56, L56), (127, L127), (16, L16), (17, L17), (18, L18), (43, L43), (11, L11)]
def Sy : Sys := sysOf funs
theorem lfn74 : lFn Go.Proofs.Try.prog pure Go.Proofs.Try.f74 = some L74 := by kernel_rfl
theorem lfn85 : lFn Go.Proofs.Try.prog pure Go.Proofs.Try.f85 = some L85 := by kernel_rfl
theorem lfn91 : lFn Go.Proofs.Try.prog pure Go.Proofs.Try.f91 = some L91 := by kernel_rfl
theorem lfn13 : lFn Go.Proofs.Try.prog pure Go.Proofs.Try.f13 = some L13 := by kernel_rfl
theorem lfn14 : lFn Go.Proofs.Try.prog pure Go.Proofs.Try.f14 = some L14 := by kernel_rfl
theorem lfn58 : lFn Go.Proofs.Try.prog pure Go.Proofs.Try.f58 = some L58 := by kernel_rfl
theorem lfn59 : lFn Go.Proofs.Try.prog pure Go.Proofs.Try.f59 = some L59 := by kernel_rfl
theorem lfn63 : lFn Go.Proofs.Try.prog pure Go.Proofs.Try.f63 = some L63 := by kernel_rfl
theorem lfn64 : lFn Go.Proofs.Try.prog pure Go.Proofs.Try.f64 = some L64 := by kernel_rfl
theorem lfn129 : lFn Go.Proofs.Try.prog pure Go.Proofs.Try.f129 = some L129 := by kernel_rfl
theorem lfn133 : lFn Go.Proofs.Try.prog pure Go.Proofs.Try.f133 = some L133 := by kernel_rfl
theorem lfn134 : lFn Go.Proofs.Try.prog pure Go.Proofs.Try.f134 = some L134 := by kernel_rfl
theorem lfn136 : lFn Go.Proofs.Try.prog pure Go.Proofs.Try.f136 = some L136 := by kernel_rfl
theorem lfn131 : lFn Go.Proofs.Try.prog pure Go.Proofs.Try.f131 = some L131 := by kernel_rfl
theorem lfn138 : lFn Go.Proofs.Try.prog pure Go.Proofs.Try.f138 = some L138 := by kernel_rfl
theorem lfn178 : lFn Go.Proofs.Try.prog pure Go.Proofs.Try.f178 = some L178 := by kernel_rfl
theorem lfn181 : lFn Go.Proofs.Try.prog pure Go.Proofs.Try.f181 = some L181 := by kernel_rfl
theorem lfn182 : lFn Go.Proofs.Try.prog pure Go.Proofs.Try.f182 = some L182 := by kernel_rfl
theorem lfn199 : lFn Go.Proofs.Try.prog pure Go.Proofs.Try.f199 = some L199 := by kernel_rfl
theorem lfn215 : lFn Go.Proofs.Try.prog pure Go.Proofs.Try.f215 = some L215 := by kernel_rfl
theorem lfn175 : lFn Go.Proofs.Try.prog pure Go.Proofs.Try.f175 = some L175 := by kernel_rfl
theorem lfn176 : lFn Go.Proofs.Try.prog pure Go.Proofs.Try.f176 = some L176 := by kernel_rfl
theorem lfn193 : lFn Go.Proofs.Try.prog pure Go.Proofs.Try.f193 = some L193 := by kernel_rfl
theorem lfn196 : lFn Go.Proofs.Try.prog pure Go.Proofs.Try.f196 = some L196 := by kernel_rfl
theorem lfn207 : lFn Go.Proofs.Try.prog pure Go.Proofs.Try.f207 = some L207 := by kernel_rfl
theorem lfn208 : lFn Go.Proofs.Try.prog pure Go.Proofs.Try.f208 = some L208 := by kernel_rfl
theorem lfn209 : lFn Go.Proofs.Try.prog pure Go.Proofs.Try.f209 = some L209 := by kernel_rfl
theorem lfn210 : lFn Go.Proofs.Try.prog pure Go.Proofs.Try.f210 = some L210 := by kernel_rfl
theorem lfn219 : lFn Go.Proofs.Try.prog pure Go.Proofs.Try.f219 = some L219 := by kernel_rfl
theorem lfn221 : lFn Go.Proofs.Try.prog pure Go.Proofs.Try.f221 = some L221 := by kernel_rfl
theorem lfn197 : lFn Go.Proofs.Try.prog pure Go.Proofs.Try.f197 = some L197 := by kernel_rfl
theorem lfn198 : lFn Go.Proofs.Try.prog pure Go.Proofs.Try.f198 = some L198 := by kernel_rfl
theorem lfn57 : lFn Go.Proofs.Try.prog pure Go.Proofs.Try.f57 = some L57 := by kernel_rfl
theorem lfn62 : lFn Go.Proofs.Try.prog pure Go.Proofs.Try.f62 = some L62 := by kernel_rfl
theorem lfn130 : lFn Go.Proofs.Try.prog pure Go.Proofs.Try.f130 = some L130 := by kernel_rfl
theorem lfn177 : lFn Go.Proofs.Try.prog pure Go.Proofs.Try.f177 = some L177 := by kernel_rfl
theorem lfn180 : lFn Go.Proofs.Try.prog pure Go.Proofs.Try.f180 = some L180 := by kernel_rfl
theorem lfn60 : lFn Go.Proofs.Try.prog pure Go.Proofs.Try.f60 = some L60 := by kernel_rfl
theorem lfn65 : lFn Go.Proofs.Try.prog pure Go.Proofs.Try.f65 = some L65 := by kernel_rfl
theorem lfn132 : lFn Go.Proofs.Try.prog pure Go.Proofs.Try.f132 = some L132 := by kernel_rfl
theorem lfn137 : lFn Go.Proofs.Try.prog pure Go.Proofs.Try.f137 = some L137 := by kernel_rfl
theorem lfn174 : lFn Go.Proofs.Try.prog pure Go.Proofs.Try.f174 = some L174 := by kernel_rfl
theorem lfn179 : lFn Go.Proofs.Try.prog pure Go.Proofs.Try.f179 = some L179 := by kernel_rfl
theorem lfn128 : lFn Go.Proofs.Try.prog pure Go.Proofs.Try.f128 = some L128 := by kernel_rfl
theorem lfn135 : lFn Go.Proofs.Try.prog pure Go.Proofs.Try.f135 = some L135 := by kernel_rfl
theorem lfn125 : lFn Go.Proofs.Try.prog pure Go.Proofs.Try.f125 = some L125 := by kernel_rfl
theorem lfn61 : lFn Go.Proofs.Try.prog pure Go.Proofs.Try.f61 = some L61 := by kernel_rfl
theorem lfn66 : lFn Go.Proofs.Try.prog pure Go.Proofs.Try.f66 = some L66 := by kernel_rfl
theorem lfn122 : lFn Go.Proofs.Try.prog pure Go.Proofs.Try.f122 = some L122 := by kernel_rfl
theorem lfn124 : lFn Go.Proofs.Try.prog pure Go.Proofs.Try.f124 = some L124 := by kernel_rfl
theorem lfn126 : lFn Go.Proofs.Try.prog pure Go.Proofs.Try.f126 = some L126 := by kernel_rfl
theorem lfn172 : lFn Go.Proofs.Try.prog pure Go.Proofs.Try.f172 = some L172 := by kernel_rfl
theorem lfn173 : lFn Go.Proofs.Try.prog pure Go.Proofs.Try.f173 = some L173 := by kernel_rfl
theorem lfn52 : lFn Go.Proofs.Try.prog pure Go.Proofs.Try.f52 = some L52 := by kernel_rfl
theorem lfn54 : lFn Go.Proofs.Try.prog pure Go.Proofs.Try.f54 = some L54 := by kernel_rfl
theorem lfn123 : lFn Go.Proofs.Try.prog pure Go.Proofs.Try.f123 = some L123 := by kernel_rfl
theorem lfn67 : lFn Go.Proofs.Try.prog pure Go.Proofs.Try.f67 = some L67 := by kernel_rfl
theorem lfn51 : lFn Go.Proofs.Try.prog pure Go.Proofs.Try.f51 = some L51 := by kernel_rfl
theorem lfn53 : lFn Go.Proofs.Try.prog pure Go.Proofs.Try.f53 = some L53 := by kernel_rfl
theorem lfn55 : lFn Go.Proofs.Try.prog pure Go.Proofs.Try.f55 = some L55 := by kernel_rfl
theorem lfn56 : lFn Go.Proofs.Try.prog pure Go.Proofs.Try.f56 = some L56 := by kernel_rfl
theorem lfn127 : lFn Go.Proofs.Try.prog pure Go.Proofs.Try.f127 = some L127 := by kernel_rfl
theorem lfn16 : lFn Go.Proofs.Try.prog pure Go.Proofs.Try.f16 = some L16 := by kernel_rfl
theorem lfn17 : lFn Go.Proofs.Try.prog pure Go.Proofs.Try.f17 = some L17 := by kernel_rfl
theorem lfn18 : lFn Go.Proofs.Try.prog pure Go.Proofs.Try.f18 = some L18 := by kernel_rfl
theorem lfn43 : lFn Go.Proofs.Try.prog pure Go.Proofs.Try.f43 = some L43 := by kernel_rfl
theorem lfn11 : lFn Go.Proofs.Try.prog pure Go.Proofs.Try.f11 = some L11 := by kernel_rfl
instance : HasA Sy := { f74 := rfl, f85 := rfl, f91 := rfl }
instance : HasV Sy := { f13 := rfl, f14 := rfl, f58 := rfl, f59 := rfl, f63 := rfl, f64 := rfl, f129 := rfl, f133 := rfl, f134 := rfl, f136 := rfl }
instance : HasLv Sy := { f131 := rfl, f138 := rfl, f178 := rfl, f181 := rfl, f182 := rfl }
instance : HasFa Sy := { f199 := rfl, f215 := rfl }
instance : HasSi Sy := { f175 := rfl, f176 := rfl, f193 := rfl, f196 := rfl, f207 := rfl, f208 := rfl, f209 := rfl, f210 := rfl, f219 := rfl, f221 := rfl }
instance : HasFb Sy := { f197 := rfl, f198 := rfl }
instance : HasWv Sy := { f57 := rfl, f62 := rfl, f130 := rfl, f177 := rfl, f180 := rfl }
instance : HasOs Sy := { f60 := rfl, f65 := rfl, f132 := rfl, f137 := rfl }
instance : HasEx Sy := { f174 := rfl, f179 := rfl }
instance : HasSp Sy := { f128 := rfl, f135 := rfl }
instance : HasN Sy := { f125 := rfl }
instance : HasRn Sy := { f61 := rfl, f66 := rfl }
instance : HasEn Sy := { f122 := rfl, f124 := rfl, f126 := rfl, f172 := rfl, f173 := rfl }
instance : HasRa Sy := { f52 := rfl, f54 := rfl, f123 := rfl }
instance : HasSame Sy := { f67 := rfl }
instance : HasNs Sy := { f51 := rfl, f53 := rfl, f55 := rfl, f56 := rfl, f127 := rfl }
instance : HasF Sy := { f16 := rfl, f17 := rfl, f18 := rfl, f43 := rfl }
instance : HasLRenderNotes Sy := { f11 := rfl }
theorem sysOK {B : Nat} {w0 : World} : SysOK Go.Proofs.Try.prog pure Sy B w0 := SysOK.of (by
  intro p hp
  simp only [funs, List.mem_cons, List.not_mem_nil, or_false] at hp
  rcases hp with rfl | rfl | rfl | rfl | rfl | rfl | rfl | rfl | rfl | rfl | rfl | rfl | rfl | rfl | rfl | rfl | rfl | rfl | rfl | rfl | rfl | rfl | rfl | rfl | rfl | rfl | rfl | rfl | rfl | rfl | rfl | rfl | rfl | rfl | rfl | rfl | rfl | rfl | rfl | rfl | rfl | rfl | rfl | rfl | rfl | rfl | rfl | rfl | rfl | rfl | rfl | rfl | rfl | rfl | rfl | rfl | rfl | rfl | rfl | rfl | rfl | rfl | rfl | rfl | rfl | rfl | rfl
  · exact ⟨_, Go.Proofs.Try.func74, lfn74⟩
  · exact ⟨_, Go.Proofs.Try.func85, lfn85⟩
  · exact ⟨_, Go.Proofs.Try.func91, lfn91⟩
  · exact ⟨_, Go.Proofs.Try.func13, lfn13⟩
  · exact ⟨_, Go.Proofs.Try.func14, lfn14⟩
  · exact ⟨_, Go.Proofs.Try.func58, lfn58⟩
  · exact ⟨_, Go.Proofs.Try.func59, lfn59⟩
  · exact ⟨_, Go.Proofs.Try.func63, lfn63⟩
  · exact ⟨_, Go.Proofs.Try.func64, lfn64⟩
  · exact ⟨_, Go.Proofs.Try.func129, lfn129⟩
  · exact ⟨_, Go.Proofs.Try.func133, lfn133⟩
  · exact ⟨_, Go.Proofs.Try.func134, lfn134⟩
  · exact ⟨_, Go.Proofs.Try.func136, lfn136⟩
  · exact ⟨_, Go.Proofs.Try.func131, lfn131⟩
  · exact ⟨_, Go.Proofs.Try.func138, lfn138⟩
  · exact ⟨_, Go.Proofs.Try.func178, lfn178⟩
  · exact ⟨_, Go.Proofs.Try.func181, lfn181⟩
  · exact ⟨_, Go.Proofs.Try.func182, lfn182⟩
  · exact ⟨_, Go.Proofs.Try.func199, lfn199⟩
  · exact ⟨_, Go.Proofs.Try.func215, lfn215⟩
  · exact ⟨_, Go.Proofs.Try.func175, lfn175⟩
  · exact ⟨_, Go.Proofs.Try.func176, lfn176⟩
  · exact ⟨_, Go.Proofs.Try.func193, lfn193⟩
  · exact ⟨_, Go.Proofs.Try.func196, lfn196⟩
  · exact ⟨_, Go.Proofs.Try.func207, lfn207⟩
  · exact ⟨_, Go.Proofs.Try.func208, lfn208⟩
  · exact ⟨_, Go.Proofs.Try.func209, lfn209⟩
  · exact ⟨_, Go.Proofs.Try.func210, lfn210⟩
  · exact ⟨_, Go.Proofs.Try.func219, lfn219⟩
  · exact ⟨_, Go.Proofs.Try.func221, lfn221⟩
  · exact ⟨_, Go.Proofs.Try.func197, lfn197⟩
  · exact ⟨_, Go.Proofs.Try.func198, lfn198⟩
  · exact ⟨_, Go.Proofs.Try.func57, lfn57⟩
  · exact ⟨_, Go.Proofs.Try.func62, lfn62⟩
  · exact ⟨_, Go.Proofs.Try.func130, lfn130⟩
  · exact ⟨_, Go.Proofs.Try.func177, lfn177⟩
  · exact ⟨_, Go.Proofs.Try.func180, lfn180⟩
  · exact ⟨_, Go.Proofs.Try.func60, lfn60⟩
  · exact ⟨_, Go.Proofs.Try.func65, lfn65⟩
  · exact ⟨_, Go.Proofs.Try.func132, lfn132⟩
  · exact ⟨_, Go.Proofs.Try.func137, lfn137⟩
  · exact ⟨_, Go.Proofs.Try.func174, lfn174⟩
  · exact ⟨_, Go.Proofs.Try.func179, lfn179⟩
  · exact ⟨_, Go.Proofs.Try.func128, lfn128⟩
  · exact ⟨_, Go.Proofs.Try.func135, lfn135⟩
  · exact ⟨_, Go.Proofs.Try.func125, lfn125⟩
  · exact ⟨_, Go.Proofs.Try.func61, lfn61⟩
  · exact ⟨_, Go.Proofs.Try.func66, lfn66⟩
  · exact ⟨_, Go.Proofs.Try.func122, lfn122⟩
  · exact ⟨_, Go.Proofs.Try.func124, lfn124⟩
  · exact ⟨_, Go.Proofs.Try.func126, lfn126⟩
  · exact ⟨_, Go.Proofs.Try.func172, lfn172⟩
  · exact ⟨_, Go.Proofs.Try.func173, lfn173⟩
  · exact ⟨_, Go.Proofs.Try.func52, lfn52⟩
  · exact ⟨_, Go.Proofs.Try.func54, lfn54⟩
  · exact ⟨_, Go.Proofs.Try.func123, lfn123⟩
  · exact ⟨_, Go.Proofs.Try.func67, lfn67⟩
  · exact ⟨_, Go.Proofs.Try.func51, lfn51⟩
  · exact ⟨_, Go.Proofs.Try.func53, lfn53⟩
  · exact ⟨_, Go.Proofs.Try.func55, lfn55⟩
  · exact ⟨_, Go.Proofs.Try.func56, lfn56⟩
  · exact ⟨_, Go.Proofs.Try.func127, lfn127⟩
  · exact ⟨_, Go.Proofs.Try.func16, lfn16⟩
  · exact ⟨_, Go.Proofs.Try.func17, lfn17⟩
  · exact ⟨_, Go.Proofs.Try.func18, lfn18⟩
  · exact ⟨_, Go.Proofs.Try.func43, lfn43⟩
  · exact ⟨_, Go.Proofs.Try.func11, lfn11⟩)

end Go.E.RenderNotes
