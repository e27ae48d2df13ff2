/- The law of EndsOfNotes: what the evaluator finds. -/
import Derived.Test.YtonfalhekphaeaaMEn
import Derived.Test.YtonfalhekphaeaaMC
import Derived.Test.YtonfalhekphaeaaEE
import Derived.Test.YtonfalhekphaeaaProg
set_option linter.unusedVariables false
set_option linter.unusedSimpArgs false
namespace Go.E
open Go
def L131 : LFn := ⟨2, (.seq (.reg [⟨(.some 2), (.box 152 (.t 0)), none⟩, ⟨(.some 3), (.box 152 (.t 1)), none⟩, ⟨(.some 4), (.mv (.c (.lf (.bool false)))), none⟩])
 (.seq (.seq (.reg [⟨(.some 5), (.faddr 0 (.t 2)), none⟩, ⟨(.some 6), (.load false 1 (.t 5)), none⟩, ⟨(.some 7), (.faddr 0 (.t 3)), none⟩, ⟨(.some 8), (.load false 1 (.t 7)), none⟩, ⟨(.some 9), (.bin .neq (.t 6) (.t 8)), none⟩])
 (.cond (.t 9) (.seq (.reg [⟨(.some 4), (.mv (.c (.lf (.bool false)))), none⟩])
 .ret) .skip))
 (.seq (.seq (.reg [⟨(.some 10), (.faddr 1 (.t 2)), none⟩, ⟨(.some 11), (.load false 1 (.t 10)), none⟩, ⟨(.some 12), (.faddr 1 (.t 3)), none⟩, ⟨(.some 13), (.load false 1 (.t 12)), none⟩, ⟨(.some 14), (.bin .neq (.t 11) (.t 13)), none⟩])
 (.cond (.t 14) (.seq (.reg [⟨(.some 4), (.mv (.c (.lf (.bool false)))), none⟩])
 .ret) .skip))
 (.seq (.seq (.reg [⟨(.some 15), (.faddr 2 (.t 2)), none⟩, ⟨(.some 16), (.load false 1 (.t 15)), none⟩, ⟨(.some 17), (.faddr 2 (.t 3)), none⟩, ⟨(.some 18), (.load false 1 (.t 17)), none⟩, ⟨(.some 19), (.bin .neq (.t 16) (.t 18)), none⟩])
 (.cond (.t 19) (.seq (.reg [⟨(.some 4), (.mv (.c (.lf (.bool false)))), none⟩])
 .ret) .skip))
 (.seq (.seq (.reg [⟨(.some 20), (.faddr 3 (.t 2)), none⟩, ⟨(.some 21), (.load false 1 (.t 20)), none⟩, ⟨(.some 22), (.toflt .f64 (.t 21)), none⟩, ⟨(.some 23), (.faddr 3 (.t 3)), none⟩, ⟨(.some 24), (.load false 1 (.t 23)), none⟩, ⟨(.some 25), (.toflt .f64 (.t 24)), none⟩, ⟨(.some 26), (.call true 33 [(.t 22), (.t 25)]), none⟩, ⟨(.some 27), (.una .not (.t 26)), none⟩])
 (.cond (.t 27) (.seq (.reg [⟨(.some 4), (.mv (.c (.lf (.bool false)))), none⟩])
 .ret) .skip))
 (.seq (.reg [⟨(.some 4), (.mv (.c (.lf (.bool true)))), none⟩])
 .ret)))))), [(.tmp 4)]⟩
def L67 : LFn := ⟨1, (.seq (.reg [⟨(.some 2), (.mv (.c (.lf .nils))), none⟩])
 (.seq (.reg [⟨(.some 5), (.mv (.t 0)), none⟩, ⟨(.some 6), (.len (.t 5)), none⟩, ⟨(.some 7), (.make 152 4 32 [(.int .i64 0), (.int .i64 0), (.int .i64 0), (.flt .f32 0)] (.t 6) (.t 6)), none⟩, ⟨(.some 3), (.mv (.t 7)), none⟩])
 (.seq (.seq (.reg [⟨(.some 4), (.mv (.c (.lf (.int .i64 0)))), none⟩])
 (.block 0 (.loop (.seq (.seq (.reg [⟨(.some 8), (.mv (.t 4)), none⟩, ⟨(.some 9), (.mv (.t 0)), none⟩, ⟨(.some 10), (.len (.t 9)), none⟩, ⟨(.some 11), (.bin .lss (.t 8) (.t 10)), none⟩])
 (.cond (.t 11) .skip (.exit 0)))
 (.seq (.block 1 (.reg [⟨(.some 14), (.mv (.t 3)), none⟩, ⟨(.some 15), (.mv (.t 4)), none⟩, ⟨(.some 16), (.mv (.t 0)), none⟩, ⟨(.some 17), (.mv (.t 4)), none⟩, ⟨(.some 18), (.iaddr 4 (.t 16) (.t 17)), none⟩, ⟨(.some 19), (.load true 4 (.t 18)), none⟩, ⟨(.some 20), (.call true 128 [(.t 19)]), none⟩, ⟨(.some 21), (.iaddr 4 (.t 14) (.t 15)), none⟩, ⟨none, (.store 4 (.t 21) (.t 20)), none⟩]))
 (.reg [⟨(.some 12), (.mv (.t 4)), none⟩, ⟨(.some 13), (.bin .add (.t 12) (.c (.lf (.int .i64 1)))), none⟩, ⟨(.some 4), (.mv (.t 13)), none⟩]))))))
 (.seq (.reg [⟨(.some 22), (.mv (.t 3)), none⟩, ⟨(.some 2), (.mv (.t 22)), none⟩])
 .ret)))), [(.tmp 2)]⟩
def L64 : LFn := ⟨2, (.seq (.reg [⟨(.some 4), (.mv (.c (.lf (.int .i64 0)))), none⟩])
 (.seq (.reg [⟨(.some 5), (.mv (.t 1)), none⟩, ⟨(.some 6), (.mv (.t 0)), none⟩, ⟨(.some 7), (.len (.t 6)), none⟩, ⟨(.some 8), (.bin .sub (.t 5) (.t 7)), none⟩, ⟨(.some 1), (.mv (.t 8)), none⟩])
 (.seq (.seq (.reg [⟨(.some 9), (.mv (.t 1)), none⟩, ⟨(.some 10), (.bin .lss (.t 9) (.c (.lf (.int .i64 0)))), none⟩])
 (.cond (.t 10) (.seq (.reg [⟨(.some 4), (.mv (.c (.lf (.int .i64 (-1))))), none⟩])
 .ret) .skip))
 (.seq (.reg [⟨(.some 11), (.mv (.t 1)), none⟩, ⟨(.some 4), (.mv (.t 11)), none⟩])
 .ret)))), [(.tmp 4)]⟩
def L69 : LFn := ⟨2, (.seq (.reg [⟨(.some 4), (.mv (.c (.lf (.bool false)))), none⟩])
 (.seq (.seq (.reg [⟨(.some 6), (.mv (.t 0)), none⟩, ⟨(.some 7), (.len (.t 6)), none⟩, ⟨(.some 8), (.mv (.t 1)), none⟩, ⟨(.some 9), (.len (.t 8)), none⟩, ⟨(.some 10), (.bin .neq (.t 7) (.t 9)), none⟩])
 (.cond (.t 10) (.seq (.reg [⟨(.some 4), (.mv (.c (.lf (.bool false)))), none⟩])
 .ret) .skip))
 (.seq (.seq (.reg [⟨(.some 5), (.mv (.c (.lf (.int .i64 0)))), none⟩])
 (.block 0 (.loop (.seq (.seq (.reg [⟨(.some 11), (.mv (.t 5)), none⟩, ⟨(.some 12), (.mv (.t 0)), none⟩, ⟨(.some 13), (.len (.t 12)), none⟩, ⟨(.some 14), (.bin .lss (.t 11) (.t 13)), none⟩])
 (.cond (.t 14) .skip (.exit 0)))
 (.seq (.block 1 (.seq (.reg [⟨(.some 17), (.mv (.t 0)), none⟩, ⟨(.some 18), (.mv (.t 5)), none⟩, ⟨(.some 19), (.iaddr 4 (.t 17) (.t 18)), none⟩, ⟨(.some 20), (.load true 4 (.t 19)), none⟩, ⟨(.some 21), (.mv (.t 1)), none⟩, ⟨(.some 22), (.mv (.t 5)), none⟩, ⟨(.some 23), (.iaddr 4 (.t 21) (.t 22)), none⟩, ⟨(.some 24), (.load true 4 (.t 23)), none⟩, ⟨(.some 25), (.call true 131 [(.t 20), (.t 24)]), none⟩, ⟨(.some 26), (.una .not (.t 25)), none⟩])
 (.cond (.t 26) (.seq (.reg [⟨(.some 4), (.mv (.c (.lf (.bool false)))), none⟩])
 .ret) .skip)))
 (.reg [⟨(.some 15), (.mv (.t 5)), none⟩, ⟨(.some 16), (.bin .add (.t 15) (.c (.lf (.int .i64 1)))), none⟩, ⟨(.some 5), (.mv (.t 16)), none⟩]))))))
 (.seq (.reg [⟨(.some 4), (.mv (.c (.lf (.bool true)))), none⟩])
 .ret)))), [(.tmp 4)]⟩
def L70 : LFn := ⟨2, (.seq (.reg [⟨(.some 4), (.mv (.c (.lf (.int .i64 0)))), none⟩])
 (.seq (.seq (.reg [⟨(.some 5), (.mv (.c (.lf (.int .i64 0)))), none⟩])
 (.block 0 (.loop (.seq (.seq (.reg [⟨(.some 6), (.mv (.t 5)), none⟩, ⟨(.some 7), (.mv (.t 0)), none⟩, ⟨(.some 8), (.len (.t 7)), none⟩, ⟨(.some 9), (.bin .lss (.t 6) (.t 8)), none⟩])
 (.cond (.t 9) .skip (.exit 0)))
 (.seq (.block 1 (.seq (.reg [⟨(.some 12), (.mv (.t 0)), none⟩, ⟨(.some 13), (.mv (.t 5)), none⟩, ⟨(.some 14), (.mv (.t 1)), none⟩, ⟨(.some 15), (.iaddr 4 (.t 12) (.t 13)), none⟩, ⟨(.some 16), (.faddr 0 (.t 15)), none⟩, ⟨none, (.store 1 (.t 16) (.t 14)), none⟩])
 (.seq (.reg [⟨(.some 17), (.mv (.t 1)), none⟩, ⟨(.some 18), (.bin .add (.t 17) (.c (.lf (.int .i64 1)))), none⟩, ⟨(.some 1), (.mv (.t 18)), none⟩])
 (.seq (.reg [⟨(.some 19), (.mv (.t 0)), none⟩, ⟨(.some 20), (.mv (.t 5)), none⟩, ⟨(.some 21), (.mv (.t 1)), none⟩, ⟨(.some 22), (.iaddr 4 (.t 19) (.t 20)), none⟩, ⟨(.some 23), (.faddr 1 (.t 22)), none⟩, ⟨none, (.store 1 (.t 23) (.t 21)), none⟩])
 (.seq (.reg [⟨(.some 24), (.mv (.t 1)), none⟩, ⟨(.some 25), (.bin .add (.t 24) (.c (.lf (.int .i64 1)))), none⟩, ⟨(.some 1), (.mv (.t 25)), none⟩])
 (.seq (.reg [⟨(.some 26), (.mv (.t 0)), none⟩, ⟨(.some 27), (.mv (.t 5)), none⟩, ⟨(.some 28), (.mv (.t 1)), none⟩, ⟨(.some 29), (.iaddr 4 (.t 26) (.t 27)), none⟩, ⟨(.some 30), (.faddr 2 (.t 29)), none⟩, ⟨none, (.store 1 (.t 30) (.t 28)), none⟩])
 (.seq (.reg [⟨(.some 31), (.mv (.t 1)), none⟩, ⟨(.some 32), (.bin .add (.t 31) (.c (.lf (.int .i64 1)))), none⟩, ⟨(.some 1), (.mv (.t 32)), none⟩])
 (.seq (.reg [⟨(.some 33), (.mv (.t 0)), none⟩, ⟨(.some 34), (.mv (.t 5)), none⟩, ⟨(.some 35), (.mv (.t 1)), none⟩, ⟨(.some 36), (.toflt .f32 (.t 35)), none⟩, ⟨(.some 37), (.iaddr 4 (.t 33) (.t 34)), none⟩, ⟨(.some 38), (.faddr 3 (.t 37)), none⟩, ⟨none, (.store 1 (.t 38) (.t 36)), none⟩])
 (.reg [⟨(.some 39), (.mv (.t 1)), none⟩, ⟨(.some 40), (.bin .add (.t 39) (.c (.lf (.int .i64 1)))), none⟩, ⟨(.some 1), (.mv (.t 40)), none⟩])))))))))
 (.reg [⟨(.some 10), (.mv (.t 5)), none⟩, ⟨(.some 11), (.bin .add (.t 10) (.c (.lf (.int .i64 1)))), none⟩, ⟨(.some 5), (.mv (.t 11)), none⟩]))))))
 (.seq (.reg [⟨(.some 41), (.mv (.t 1)), none⟩, ⟨(.some 4), (.mv (.t 41)), none⟩])
 .ret))), [(.tmp 4)]⟩
class HasNs (S : Sys) : Prop extends HasSame S, HasV S where
  f131 : S.fs 131 = some L131
  f67 : S.fs 67 = some L67
  f64 : S.fs 64 = some L64
  f69 : S.fs 69 = some L69
  f70 : S.fs 70 = some L70
namespace EN
section
variable {S : Sys} {lim : Nat} {h : Hp} {K : CV → Hp → Prop} [HasNs S]
@[simp] theorem c_toNote {x y z : Int} {u : Nat} : CallT S true 128 [.agg [.int .i64 x, .int .i64 y, .int .i64 z, .flt .f32 u]] h lim K = K (.agg [.int .i64 x, .int .i64 y, .int .i64 z, .flt .f32 u]) h := by
  refine CallT_pure (F := L128) (HasV.f128) rfl (by first | rfl | (split <;> rfl) | simp) ?_; unfold L128; dsimp only []
  repeat' (first | (simp (disch := first | omega | assumption | (simp only [List.length_set]; omega) | (simp [*] <;> fail) | assumption) [-Bool.decide_and, -Bool.decide_or, -Bool.not_and, -Bool.not_or, toNat_pred, toNat_succ, wrap64, wr_new, wr_new0, ok_if, ok_ifn, iadV_sl, makeV_int, decT, decF, over_at, *]) | (with_reducible refine Gd_split (fun hc => ?_) (fun hc => ?_) <;> (have hc2 := hc; try simp at hc2)) | (with_reducible refine Br_split (fun hc => ?_) (fun hc => ?_) <;> (have hc2 := hc; try simp at hc2)) | (with_reducible refine GdT_split (fun hc => ?_) (fun hc => ?_) <;> (have hc2 := hc; try simp at hc2)) | (with_reducible refine WT_alt ?_ ?_) | omega)
@[simp] theorem c_eqNote {x y z : Int} {u : Nat} : CallT S true 131 [.agg [.int .i64 x, .int .i64 y, .int .i64 z, .flt .f32 u], .agg [.int .i64 x, .int .i64 y, .int .i64 z, .flt .f32 u]] h lim K = K (.lf (.bool true)) h := by
  refine CallT_pure (F := L131) (HasNs.f131) rfl (by first | rfl | (split <;> rfl) | simp) ?_; unfold L131; dsimp only []
  repeat' (first | (simp (disch := first | omega | assumption | (simp only [List.length_set]; omega) | (simp [*] <;> fail) | assumption) [-Bool.decide_and, -Bool.decide_or, -Bool.not_and, -Bool.not_or, toNat_pred, toNat_succ, wrap64, wr_new, wr_new0, ok_if, ok_ifn, iadV_sl, makeV_int, decT, decF, over_at, *]) | (with_reducible refine Gd_split (fun hc => ?_) (fun hc => ?_) <;> (have hc2 := hc; try simp at hc2)) | (with_reducible refine Br_split (fun hc => ?_) (fun hc => ?_) <;> (have hc2 := hc; try simp at hc2)) | (with_reducible refine GdT_split (fun hc => ?_) (fun hc => ?_) <;> (have hc2 := hc; try simp at hc2)) | (with_reducible refine WT_alt ?_ ?_) | omega)
theorem c_szNoteS {l : Lf} {xs : List Nt} (hA : Arr h l 4 (xs.map Nt.cells)) {b : Int} (h1 : 0 ≤ b) (h2 : b ≤ 9223372036854775807) : CallT S true 64 [.lf l, .lf (.int .i64 b)] h lim K = K (.lf (.int .i64 (if b < xs.length then -1 else b - xs.length))) h := by
  have hb := hA.bound
  refine CallT_pure (F := L64) (HasNs.f64) rfl (by first | rfl | (split <;> rfl) | simp) ?_; unfold L64; dsimp only []
  repeat' (first | (simp (disch := first | omega | assumption | (simp only [List.length_set]; omega) | (simp [*] <;> fail) | assumption) [-Bool.decide_and, -Bool.decide_or, -Bool.not_and, -Bool.not_or, toNat_pred, toNat_succ, wrap64, wr_new, wr_new0, ok_if, ok_ifn, iadV_sl, makeV_int, decT, decF, over_at, *, hA.len, hA.at_, hA.at_', hA.rd, hA.rdIn, hA.rdIn0, hA.rdA, hA.rdInA, hA.rdIn0A]) | (with_reducible refine Gd_split (fun hc => ?_) (fun hc => ?_) <;> (have hc2 := hc; try simp at hc2)) | (with_reducible refine Br_split (fun hc => ?_) (fun hc => ?_) <;> (have hc2 := hc; try simp at hc2)) | (with_reducible refine GdT_split (fun hc => ?_) (fun hc => ?_) <;> (have hc2 := hc; try simp at hc2)) | (with_reducible refine WT_alt ?_ ?_) | omega)
theorem c_eqNoteS {l l2 : Lf} {xs : List Nt} (hA : Arr h l 4 (xs.map Nt.cells)) (hA2 : Arr h l2 4 (xs.map Nt.cells)) : CallT S true 69 [.lf l, .lf l2] h lim K = K (.lf (.bool true)) h := by
  have hb := hA.bound
  refine CallT_pure (F := L69) (HasNs.f69) rfl (by first | rfl | (split <;> rfl) | simp) ?_; unfold L69; dsimp only []
  repeat' (first | (simp (disch := first | omega | assumption | (simp only [List.length_set]; omega) | (simp [*] <;> fail) | assumption) [-Bool.decide_and, -Bool.decide_or, -Bool.not_and, -Bool.not_or, toNat_pred, toNat_succ, wrap64, wr_new, wr_new0, ok_if, ok_ifn, iadV_sl, makeV_int, decT, decF, over_at, *, hA.len, hA.at_, hA.at_', hA.rd, hA.rdIn, hA.rdIn0, hA.rdA, hA.rdInA, hA.rdIn0A, hA2.len, hA2.at_, hA2.at_', hA2.rd, hA2.rdIn, hA2.rdIn0, hA2.rdA, hA2.rdInA, hA2.rdIn0A]) | (with_reducible refine Gd_split (fun hc => ?_) (fun hc => ?_) <;> (have hc2 := hc; try simp at hc2)) | (with_reducible refine Br_split (fun hc => ?_) (fun hc => ?_) <;> (have hc2 := hc; try simp at hc2)) | (with_reducible refine GdT_split (fun hc => ?_) (fun hc => ?_) <;> (have hc2 := hc; try simp at hc2)) | (with_reducible refine WT_alt ?_ ?_) | omega)
  refine WL_for xs.length (fun i a' h' => i ≤ xs.length ∧ a' 0 = .lf l ∧ a' 1 = .lf l2 ∧ a' 5 = .lf (.int .i64 i) ∧ h' = h) (fun i a' h' hi => hi.1) ?_ (by simp)
  rintro i a' h' ⟨hi, e0, e1, e5, rfl⟩
  by_cases hlt : i < xs.length
  · repeat' (first | (simp (disch := first | omega | assumption | (simp only [List.length_set]; omega) | (simp [*] <;> fail) | assumption) [-Bool.decide_and, -Bool.decide_or, -Bool.not_and, -Bool.not_or, toNat_pred, toNat_succ, wrap64, wr_new, wr_new0, ok_if, ok_ifn, iadV_sl, makeV_int, decT, decF, over_at, *, hA.len, hA.at_, hA.at_', hA.rd, hA.rdIn, hA.rdIn0, hA.rdA, hA.rdInA, hA.rdIn0A, hA2.len, hA2.at_, hA2.at_', hA2.rd, hA2.rdIn, hA2.rdIn0, hA2.rdA, hA2.rdInA, hA2.rdIn0A, Nt.cells]) | (with_reducible refine Gd_split (fun hc => ?_) (fun hc => ?_) <;> (have hc2 := hc; try simp at hc2)) | (with_reducible refine Br_split (fun hc => ?_) (fun hc => ?_) <;> (have hc2 := hc; try simp at hc2)) | (with_reducible refine GdT_split (fun hc => ?_) (fun hc => ?_) <;> (have hc2 := hc; try simp at hc2)) | (with_reducible refine WT_alt ?_ ?_) | omega)
  · repeat' (first | (simp (disch := first | omega | assumption | (simp only [List.length_set]; omega) | (simp [*] <;> fail) | assumption) [-Bool.decide_and, -Bool.decide_or, -Bool.not_and, -Bool.not_or, toNat_pred, toNat_succ, wrap64, wr_new, wr_new0, ok_if, ok_ifn, iadV_sl, makeV_int, decT, decF, over_at, *, hA.len, hA.at_, hA.at_', hA.rd, hA.rdIn, hA.rdIn0, hA.rdA, hA.rdInA, hA.rdIn0A, hA2.len, hA2.at_, hA2.at_', hA2.rd, hA2.rdIn, hA2.rdIn0, hA2.rdA, hA2.rdInA, hA2.rdIn0A, Nt.cells]) | (with_reducible refine Gd_split (fun hc => ?_) (fun hc => ?_) <;> (have hc2 := hc; try simp at hc2)) | (with_reducible refine Br_split (fun hc => ?_) (fun hc => ?_) <;> (have hc2 := hc; try simp at hc2)) | (with_reducible refine GdT_split (fun hc => ?_) (fun hc => ?_) <;> (have hc2 := hc; try simp at hc2)) | (with_reducible refine WT_alt ?_ ?_) | omega)
theorem c_toNoteS {l : Lf} {xs : List Nt} (hA : Arr h l 4 (xs.map Nt.cells)) (hn : xs.length ≤ 16777216) (hl : lim ≤ h.length) (hK : ∀ l' g, New h g l' 152 4 (xs.map Nt.cells) → K (.lf l') g) : CallT S false 67 [.lf l] h lim K := by
  have hb := hA.bound
  refine CallT_of_body (F := L67) (HasNs.f67) rfl ?_; unfold L67; dsimp only []
  repeat' (first | (simp (disch := first | omega | assumption | (simp only [List.length_set]; omega) | (simp [*] <;> fail) | assumption) [-Bool.decide_and, -Bool.decide_or, -Bool.not_and, -Bool.not_or, toNat_pred, toNat_succ, wrap64, wr_new, wr_new0, ok_if, ok_ifn, iadV_sl, makeV_int, decT, decF, over_at, *, hA.len, hA.at_, hA.at_', hA.rd, hA.rdIn, hA.rdIn0, hA.rdA, hA.rdInA, hA.rdIn0A]) | (with_reducible refine Gd_split (fun hc => ?_) (fun hc => ?_) <;> (have hc2 := hc; try simp at hc2)) | (with_reducible refine Br_split (fun hc => ?_) (fun hc => ?_) <;> (have hc2 := hc; try simp at hc2)) | (with_reducible refine GdT_split (fun hc => ?_) (fun hc => ?_) <;> (have hc2 := hc; try simp at hc2)) | (with_reducible refine WT_alt ?_ ?_) | omega)
  refine WL_for xs.length (fun i a' g => i ≤ xs.length ∧ a' 0 = .lf l ∧ a' 3 = .lf (.sl h.length 0 xs.length 4) ∧ a' 4 = .lf (.int .i64 i) ∧ Kept h g ∧ Sl g h.length 152 4 (filled (nth (xs.map Nt.cells)) [.int .i64 0, .int .i64 0, .int .i64 0, .flt .f32 0] xs.length i)) (fun i a' h' hi => hi.1) ?_ ⟨by omega, by simp, by simp, by simp, Kept.app _ _, Sl.step0 rfl⟩
  rintro i a' g ⟨hi, e0, e3, e4, hk, hs⟩
  replace hA := hA.kept hk
  by_cases hlt : i < xs.length
  · repeat' (first | (simp (disch := first | omega | assumption | (simp only [List.length_set]; omega) | (simp [*] <;> fail) | assumption) [-Bool.decide_and, -Bool.decide_or, -Bool.not_and, -Bool.not_or, toNat_pred, toNat_succ, wrap64, wr_new, wr_new0, ok_if, ok_ifn, iadV_sl, makeV_int, decT, decF, over_at, *, hA.len, hA.at_, hA.at_', hA.rd, hA.rdIn, hA.rdIn0, hA.rdA, hA.rdInA, hA.rdIn0A, Nt.cells, hs.wr]) | (with_reducible refine Gd_split (fun hc => ?_) (fun hc => ?_) <;> (have hc2 := hc; try simp at hc2)) | (with_reducible refine Br_split (fun hc => ?_) (fun hc => ?_) <;> (have hc2 := hc; try simp at hc2)) | (with_reducible refine GdT_split (fun hc => ?_) (fun hc => ?_) <;> (have hc2 := hc; try simp at hc2)) | (with_reducible refine WT_alt ?_ ?_) | omega)
    exact ⟨hlt, hk.set (Nat.le_refl _), hs.step (by rw [nth_map hlt]; rfl) rfl⟩
  · have : i = xs.length := by omega
    subst this
    repeat' (first | (simp (disch := first | omega | assumption | (simp only [List.length_set]; omega) | (simp [*] <;> fail) | assumption) [-Bool.decide_and, -Bool.decide_or, -Bool.not_and, -Bool.not_or, toNat_pred, toNat_succ, wrap64, wr_new, wr_new0, ok_if, ok_ifn, iadV_sl, makeV_int, decT, decF, over_at, *, hA.len, hA.at_, hA.at_', hA.rd, hA.rdIn, hA.rdIn0, hA.rdA, hA.rdInA, hA.rdIn0A]) | (with_reducible refine Gd_split (fun hc => ?_) (fun hc => ?_) <;> (have hc2 := hc; try simp at hc2)) | (with_reducible refine Br_split (fun hc => ?_) (fun hc => ?_) <;> (have hc2 := hc; try simp at hc2)) | (with_reducible refine GdT_split (fun hc => ?_) (fun hc => ?_) <;> (have hc2 := hc; try simp at hc2)) | (with_reducible refine WT_alt ?_ ?_) | omega)
    exact hK _ _ (New.filled hk hs (by simp) (Nat.le_refl _) (by simpa using hb))

/-- What is handed in is written over: nothing else changes. -/
theorem c_markNoteS {g : Hp} {l : Lf} {rows : List (List Lf)} {k : Int} (hN : New h g l 152 4 rows) (hn : rows.length ≤ 16777216) (h0 : 0 ≤ k) (h1 : k ≤ 1099511627776) (hl : lim ≤ h.length) (hK : ∀ g', But g g' l l → K (.lf (.int .i64 (k + 4 * rows.length))) g') : CallT S false 70 [.lf l, .lf (.int .i64 k)] g lim K := by
  rcases hN.own with ⟨rfl, rfl⟩ | ⟨id, rfl, h2, h3⟩
  · refine CallT_of_body (F := L70) (HasNs.f70) rfl ?_; unfold L70; dsimp only []
    repeat' (first | (simp (disch := first | omega | assumption | (simp only [List.length_set]; omega) | (simp [*] <;> fail) | assumption) [-Bool.decide_and, -Bool.decide_or, -Bool.not_and, -Bool.not_or, toNat_pred, toNat_succ, wrap64, wr_new, wr_new0, ok_if, ok_ifn, iadV_sl, makeV_int, decT, decF, over_at, *]) | (with_reducible refine Gd_split (fun hc => ?_) (fun hc => ?_) <;> (have hc2 := hc; try simp at hc2)) | (with_reducible refine Br_split (fun hc => ?_) (fun hc => ?_) <;> (have hc2 := hc; try simp at hc2)) | (with_reducible refine GdT_split (fun hc => ?_) (fun hc => ?_) <;> (have hc2 := hc; try simp at hc2)) | (with_reducible refine WT_alt ?_ ?_) | omega)
    refine WL_forM 2199023255522 (by decide +kernel) (0) (fun i b g' => i ≤ 0 ∧ b 1 = .lf (.int .i64 k) ∧ b 5 = .lf (.int .i64 i) ∧ g' = g) (fun _ _ _ hi => hi.1) ⟨by simp, by simp, by simp, rfl⟩ ?_
    rintro i b g' ⟨hi, e1, e5, rfl⟩
    have : i = 0 := by omega
    subst this
    repeat' (first | (simp (disch := first | omega | assumption | (simp only [List.length_set]; omega) | (simp [*] <;> fail) | assumption) [-Bool.decide_and, -Bool.decide_or, -Bool.not_and, -Bool.not_or, toNat_pred, toNat_succ, wrap64, wr_new, wr_new0, ok_if, ok_ifn, iadV_sl, makeV_int, decT, decF, over_at, *]) | (with_reducible refine Gd_split (fun hc => ?_) (fun hc => ?_) <;> (have hc2 := hc; try simp at hc2)) | (with_reducible refine Br_split (fun hc => ?_) (fun hc => ?_) <;> (have hc2 := hc; try simp at hc2)) | (with_reducible refine GdT_split (fun hc => ?_) (fun hc => ?_) <;> (have hc2 := hc; try simp at hc2)) | (with_reducible refine WT_alt ?_ ?_) | omega)
    simpa using hK g' ⟨Nat.le_refl _, fun _ _ _ => rfl, .inl rfl⟩
  · have hfl := flat_len h3.len
    have hlt := h3.lt
    refine CallT_of_body (F := L70) (HasNs.f70) rfl ?_; unfold L70; dsimp only []
    repeat' (first | (simp (disch := first | omega | assumption | (simp only [List.length_set]; omega) | (simp [*] <;> fail) | assumption) [-Bool.decide_and, -Bool.decide_or, -Bool.not_and, -Bool.not_or, toNat_pred, toNat_succ, wrap64, wr_new, wr_new0, ok_if, ok_ifn, iadV_sl, makeV_int, decT, decF, over_at, *]) | (with_reducible refine Gd_split (fun hc => ?_) (fun hc => ?_) <;> (have hc2 := hc; try simp at hc2)) | (with_reducible refine Br_split (fun hc => ?_) (fun hc => ?_) <;> (have hc2 := hc; try simp at hc2)) | (with_reducible refine GdT_split (fun hc => ?_) (fun hc => ?_) <;> (have hc2 := hc; try simp at hc2)) | (with_reducible refine WT_alt ?_ ?_) | omega)
    refine WL_forM 2199023255522 (by decide +kernel) (rows.length) (fun i b g' => i ≤ rows.length ∧ b 1 = .lf (.int .i64 (k + 4 * i)) ∧ b 5 = .lf (.int .i64 i) ∧ But g g' (.sl id 0 rows.length 4) (.sl id 0 rows.length 4) ∧ ∃ cs, g'[id]? = some ⟨cs, .own 152 4⟩ ∧ cs.length = rows.length * 4) (fun _ _ _ hi => hi.1) ⟨by omega, by simp, by simp, ⟨Nat.le_refl _, fun _ _ _ => rfl, .inl rfl⟩, _, h3.get, hfl⟩ ?_
    rintro i b g' ⟨hi, e1, e5, hB, cs, hg, hcs⟩
    have hlt2 : id < g'.length := (List.getElem?_eq_some_iff.1 hg).1
    by_cases hi2 : i < rows.length
    · clear hK
      repeat' (first | (simp (disch := first | omega | assumption | (simp only [List.length_set]; omega) | (simp [*] <;> fail) | assumption) [-Bool.decide_and, -Bool.decide_or, -Bool.not_and, -Bool.not_or, toNat_pred, toNat_succ, wrap64, wr_new, wr_new0, ok_if, ok_ifn, iadV_sl, makeV_int, decT, decF, over_at, *, wr_get1 hg, wr_set1]) | (with_reducible refine Gd_split (fun hc => ?_) (fun hc => ?_) <;> (have hc2 := hc; try simp at hc2)) | (with_reducible refine Br_split (fun hc => ?_) (fun hc => ?_) <;> (have hc2 := hc; try simp at hc2)) | (with_reducible refine GdT_split (fun hc => ?_) (fun hc => ?_) <;> (have hc2 := hc; try simp at hc2)) | (with_reducible refine WT_alt ?_ ?_) | omega)
      all_goals ((repeat' apply And.intro) <;> first | omega | exact hB.set | exact ⟨_, List.getElem?_set_self hlt2, by simp only [List.length_set]; exact hcs⟩ | (simp; omega) | trace_state)
    · have : i = rows.length := by omega
      subst this
      repeat' (first | (simp (disch := first | omega | assumption | (simp only [List.length_set]; omega) | (simp [*] <;> fail) | assumption) [-Bool.decide_and, -Bool.decide_or, -Bool.not_and, -Bool.not_or, toNat_pred, toNat_succ, wrap64, wr_new, wr_new0, ok_if, ok_ifn, iadV_sl, makeV_int, decT, decF, over_at, *]) | (with_reducible refine Gd_split (fun hc => ?_) (fun hc => ?_) <;> (have hc2 := hc; try simp at hc2)) | (with_reducible refine Br_split (fun hc => ?_) (fun hc => ?_) <;> (have hc2 := hc; try simp at hc2)) | (with_reducible refine GdT_split (fun hc => ?_) (fun hc => ?_) <;> (have hc2 := hc; try simp at hc2)) | (with_reducible refine WT_alt ?_ ?_) | omega)
      all_goals exact hK g' hB

end
end EN
open EN
def L14 : LFn := ⟨3, (.seq (.reg [⟨(.some 3), (.box 89 (.t 0)), none⟩, ⟨(.some 6), (.mv (.c (.lf (.bool false)))), none⟩])
 (.seq (.reg [⟨(.some 7), (.mv (.c (.lf (.int .i64 1048576)))), none⟩])
 (.seq (.reg [⟨(.some 18), (.mv (.t 1)), none⟩, ⟨(.some 19), (.mv (.t 7)), none⟩, ⟨(.some 20), (.call true 64 [(.t 18), (.t 19)]), none⟩, ⟨(.some 7), (.mv (.t 20)), none⟩])
 (.seq (.seq (.reg [⟨(.some 21), (.mv (.t 7)), none⟩, ⟨(.some 22), (.bin .lss (.t 21) (.c (.lf (.int .i64 0)))), none⟩])
 (.cond (.t 22) (.seq (.reg [⟨(.some 6), (.mv (.c (.lf (.bool true)))), none⟩])
 .ret) .skip))
 (.seq (.reg [⟨(.some 24), (.load true 4 (.t 3)), none⟩, ⟨(.some 25), (.call true 66 [(.t 24)]), none⟩, ⟨(.some 26), (.mv (.t 1)), none⟩, ⟨(.some 27), (.call false 67 [(.t 26)]), none⟩, ⟨(.some 28), (.mv (.t 2)), none⟩, ⟨(.some 29), (.call false 65 [(.t 25), (.t 27), (.t 28)]), none⟩, ⟨(.some 23), (.mv (.t 29)), none⟩, ⟨(.some 30), (.ext (.t 23) 0), none⟩, ⟨(.some 31), (.ext (.t 23) 1), none⟩, ⟨(.some 8), (.mv (.t 30)), none⟩, ⟨(.some 9), (.mv (.t 31)), none⟩])
 (.seq (.reg [⟨(.some 32), (.mv (.t 1)), none⟩, ⟨(.some 33), (.call false 67 [(.t 32)]), none⟩, ⟨(.some 10), (.mv (.t 33)), none⟩])
 (.seq (.reg [⟨(.some 35), (.load true 4 (.t 3)), none⟩, ⟨(.some 36), (.call true 66 [(.t 35)]), none⟩, ⟨(.some 37), (.mv (.t 10)), none⟩, ⟨(.some 38), (.mv (.t 2)), none⟩, ⟨(.some 39), (.call false 68 [(.t 36), (.t 37), (.t 38)]), none⟩, ⟨(.some 34), (.mv (.t 39)), none⟩, ⟨(.some 40), (.ext (.t 34) 0), none⟩, ⟨(.some 41), (.ext (.t 34) 1), none⟩, ⟨(.some 11), (.mv (.t 40)), none⟩, ⟨(.some 12), (.mv (.t 41)), none⟩])
 (.seq (.seq (.reg [⟨(.some 42), (.mv (.t 11)), none⟩, ⟨(.some 43), (.mv (.t 8)), none⟩, ⟨(.some 44), (.call true 19 [(.t 42), (.t 43)]), none⟩, ⟨(.some 45), (.una .not (.t 44)), none⟩, ⟨(.some 46), (.mv (.t 45)), none⟩, ⟨(.some 47), (.mv (.t 12)), (.some (46, false))⟩, ⟨(.some 48), (.mv (.t 9)), (.some (46, false))⟩, ⟨(.some 49), (.beq true (.t 47) (.t 48)), (.some (46, false))⟩, ⟨(.some 50), (.pick (.t 46) (.c (.lf (.bool true))) (.t 49)), none⟩])
 (.cond (.t 50) (.seq (.reg [⟨(.some 6), (.mv (.c (.lf (.bool false)))), none⟩])
 .ret) .skip))
 (.seq (.seq (.reg [⟨(.some 51), (.mv (.t 10)), none⟩, ⟨(.some 52), (.mv (.t 1)), none⟩, ⟨(.some 53), (.call false 67 [(.t 52)]), none⟩, ⟨(.some 54), (.call true 69 [(.t 51), (.t 53)]), none⟩, ⟨(.some 55), (.una .not (.t 54)), none⟩])
 (.cond (.t 55) (.seq (.reg [⟨(.some 6), (.mv (.c (.lf (.bool false)))), none⟩])
 .ret) .skip))
 (.seq (.reg [⟨(.some 13), (.mv (.c (.lf (.int .i64 1)))), none⟩])
 (.seq (.reg [⟨(.some 56), (.mv (.t 10)), none⟩, ⟨(.some 57), (.mv (.t 13)), none⟩, ⟨(.some 58), (.call false 70 [(.t 56), (.t 57)]), none⟩, ⟨(.some 13), (.mv (.t 58)), none⟩])
 (.seq (.seq (.reg [⟨(.some 59), (.mv (.t 13)), none⟩, ⟨(.some 60), (.bin .lss (.t 59) (.c (.lf (.int .i64 0)))), none⟩, ⟨(.some 61), (.mv (.t 60)), none⟩, ⟨(.some 62), (.mv (.t 11)), (.some (61, false))⟩, ⟨(.some 63), (.mv (.t 8)), (.some (61, false))⟩, ⟨(.some 64), (.call true 19 [(.t 62), (.t 63)]), (.some (61, false))⟩, ⟨(.some 65), (.una .not (.t 64)), (.some (61, false))⟩, ⟨(.some 66), (.pick (.t 61) (.c (.lf (.bool true))) (.t 65)), none⟩, ⟨(.some 67), (.mv (.t 66)), none⟩, ⟨(.some 68), (.mv (.t 12)), (.some (67, false))⟩, ⟨(.some 69), (.mv (.t 9)), (.some (67, false))⟩, ⟨(.some 70), (.beq true (.t 68) (.t 69)), (.some (67, false))⟩, ⟨(.some 71), (.pick (.t 67) (.c (.lf (.bool true))) (.t 70)), none⟩])
 (.cond (.t 71) (.seq (.reg [⟨(.some 6), (.mv (.c (.lf (.bool false)))), none⟩])
 .ret) .skip))
 (.seq (.reg [⟨(.some 14), (.mv (.c (.lf (.int .i64 1)))), none⟩])
 (.seq (.reg [⟨(.some 72), (.mv (.t 11)), none⟩, ⟨(.some 73), (.mv (.t 14)), none⟩, ⟨(.some 74), (.call false 22 [(.t 72), (.t 73)]), none⟩, ⟨(.some 14), (.mv (.t 74)), none⟩])
 (.seq (.reg [⟨(.some 15), (.mv (.c (.lf (.int .i64 1)))), none⟩])
 (.seq (.reg [⟨(.some 75), (.mv (.t 11)), none⟩, ⟨(.some 76), (.mv (.t 15)), none⟩, ⟨(.some 77), (.call true 23 [(.t 75), (.t 76)]), none⟩, ⟨(.some 15), (.mv (.t 77)), none⟩])
 (.seq (.seq (.reg [⟨(.some 78), (.mv (.t 15)), none⟩, ⟨(.some 79), (.bin .lss (.t 78) (.c (.lf (.int .i64 0)))), none⟩])
 (.cond (.t 79) (.seq (.reg [⟨(.some 6), (.mv (.c (.lf (.bool false)))), none⟩])
 .ret) .skip))
 (.seq (.seq (.reg [⟨(.some 80), (.mv (.t 15)), none⟩, ⟨(.some 81), (.mv (.t 14)), none⟩, ⟨(.some 82), (.bin .neq (.t 80) (.t 81)), none⟩])
 (.cond (.t 82) (.seq (.reg [⟨(.some 6), (.mv (.c (.lf (.bool false)))), none⟩])
 .ret) .skip))
 (.seq (.reg [⟨(.some 84), (.load true 4 (.t 3)), none⟩, ⟨(.some 85), (.call true 66 [(.t 84)]), none⟩, ⟨(.some 86), (.mv (.t 1)), none⟩, ⟨(.some 87), (.call false 67 [(.t 86)]), none⟩, ⟨(.some 88), (.mv (.t 2)), none⟩, ⟨(.some 89), (.call false 68 [(.t 85), (.t 87), (.t 88)]), none⟩, ⟨(.some 83), (.mv (.t 89)), none⟩, ⟨(.some 90), (.ext (.t 83) 0), none⟩, ⟨(.some 91), (.ext (.t 83) 1), none⟩, ⟨(.some 16), (.mv (.t 90)), none⟩, ⟨(.some 17), (.mv (.t 91)), none⟩])
 (.seq (.seq (.reg [⟨(.some 92), (.mv (.t 16)), none⟩, ⟨(.some 93), (.mv (.t 8)), none⟩, ⟨(.some 94), (.call true 19 [(.t 92), (.t 93)]), none⟩, ⟨(.some 95), (.una .not (.t 94)), none⟩, ⟨(.some 96), (.mv (.t 95)), none⟩, ⟨(.some 97), (.mv (.t 17)), (.some (96, false))⟩, ⟨(.some 98), (.mv (.t 9)), (.some (96, false))⟩, ⟨(.some 99), (.beq true (.t 97) (.t 98)), (.some (96, false))⟩, ⟨(.some 100), (.pick (.t 96) (.c (.lf (.bool true))) (.t 99)), none⟩])
 (.cond (.t 100) (.seq (.reg [⟨(.some 6), (.mv (.c (.lf (.bool false)))), none⟩])
 .ret) .skip))
 (.seq (.reg [⟨(.some 15), (.mv (.c (.lf (.int .i64 1)))), none⟩])
 (.seq (.reg [⟨(.some 101), (.mv (.t 11)), none⟩, ⟨(.some 102), (.mv (.t 15)), none⟩, ⟨(.some 103), (.call true 23 [(.t 101), (.t 102)]), none⟩, ⟨(.some 15), (.mv (.t 103)), none⟩])
 (.seq (.seq (.reg [⟨(.some 104), (.mv (.t 15)), none⟩, ⟨(.some 105), (.bin .lss (.t 104) (.c (.lf (.int .i64 0)))), none⟩])
 (.cond (.t 105) (.seq (.reg [⟨(.some 6), (.mv (.c (.lf (.bool false)))), none⟩])
 .ret) .skip))
 (.seq (.seq (.reg [⟨(.some 106), (.mv (.t 15)), none⟩, ⟨(.some 107), (.mv (.t 14)), none⟩, ⟨(.some 108), (.bin .neq (.t 106) (.t 107)), none⟩])
 (.cond (.t 108) (.seq (.reg [⟨(.some 6), (.mv (.c (.lf (.bool false)))), none⟩])
 .ret) .skip))
 (.seq (.reg [⟨(.some 6), (.mv (.c (.lf (.bool true)))), none⟩])
 .ret))))))))))))))))))))))))), [(.tmp 6)]⟩
class HasLEndsOfNotes (S : Sys) : Prop extends HasEn S, HasNs S, HasI S where
  f14 : S.fs 14 = some L14
def noteSh : Sh := .cat 1 (.int .i64) (.cat 1 (.int .i64) (.cat 1 (.int .i64) (.cat 1 (.flt .f32) .emp)))
def envSh : Sh := .cat 1 (.int .i64) (.cat 1 (.int .i64) (.cat 1 (.flt .f32) (.cat 1 (.int .i64) .emp)))
theorem note_of {h : Hp} {r : List Lf} (t : Ty h noteSh r) : ∃ p : Nt, r = p.cells ∧ True := by
  obtain ⟨a1, a2, rfl, _, ⟨x, rfl, _⟩, b1, b2, rfl, _, ⟨y, rfl, _⟩, c1, c2, rfl, _, ⟨z, rfl, _⟩, d1, d2, rfl, _, ⟨u, rfl, _, _⟩, rfl⟩ := t
  exact ⟨⟨x, y, z, u⟩, rfl, trivial⟩
theorem env_of {h : Hp} {r : List Lf} (t : Ty h envSh r) : ∃ p : Ev, r = p.cells := by
  obtain ⟨a1, a2, rfl, _, ⟨x, rfl, _⟩, b1, b2, rfl, _, ⟨y, rfl, _⟩, c1, c2, rfl, _, ⟨z, rfl, _, _⟩, d1, d2, rfl, _, ⟨u, rfl, _⟩, rfl⟩ := t
  exact ⟨⟨x, y, z, u⟩, rfl⟩
set_option maxRecDepth 20000 in
set_option maxHeartbeats 2000000 in
theorem lawEndsOfNotes {S : Sys} [HasLEndsOfNotes S] : LawHolds S 14 [(true, envSh), (false, .sl 4 noteSh), (false, .int .i64)] := by
  intro h cs hcs
  obtain ⟨c0, _, rfl, ⟨ls0, rfl, ht0⟩, c1, _, rfl, ⟨ls1, rfl, l, rows, rfl, hAl, hrows⟩, c2, _, rfl, ⟨ls2, rfl, v, rfl, _⟩, rfl⟩ := hcs
  obtain ⟨e, rfl⟩ := env_of ht0
  obtain ⟨ps, rfl, _⟩ := rows_map (Q := fun _ => True) fun r hr => note_of (hrows r hr)
  clear ht0 hrows
  have hf5 : e.cells.length = 4 := rfl
  have ht5 : List.take 4 e.cells = e.cells := rfl
  have hmk : mkV true e.cells = .agg e.cells := rfl
  have te : ∀ {h' K lim}, CallT S true 66 [.agg e.cells] h' lim K = K (.agg e.cells) h' := fun {h' K lim} => c_toEnvelope (S := S) (h := h') (K := K) (lim := lim) (a := e.a) (d := e.d) (r := e.r) (s := e.s)
  have hlo := endsN_len (e := e) (ps := ps) (v := v)
  have cs : ∀ {l g K}, Arr g l 4 (ps.map Nt.cells) → h.length ≤ g.length → (∀ o g', New g g' o 2 1 ((endsN e ps v).map il) → K (.tup [.lf o, .lf (.bool (decide (okEn e ps v)))]) g') → CallT S false 65 [.agg e.cells, .lf l, .lf (.int .i64 v)] g h.length K := fun ha hl hk => d_specEndsOfNotes ha hl hk
  have ci : ∀ {l g K}, Arr g l 4 (ps.map Nt.cells) → h.length ≤ g.length → (∀ o g', New g g' o 2 1 ((endsN e ps v).map il) → K (.tup [.lf o, .lf (.bool (decide (okEn e ps v)))]) g') → CallT S false 68 [.agg e.cells, .lf l, .lf (.int .i64 v)] g h.length K := fun ha hl hk => d_implEndsOfNotes ha hl hk
  generalize endsN e ps v = y at *
  generalize decide (okEn e ps v) = ok at *
  refine law_of (F := L14) HasLEndsOfNotes.f14 rfl ?_
  unfold L14
  dsimp only []
  have b5 : ∀ g, Kept (h ++ [⟨e.cells, .own 89 1⟩]) g → rdCells g h.length 0 4 = some e.cells := fun g k => k.rd (Cel.new.rd (by simp [hf5]))
  have b50 := b5 _ (Kept.refl _)
  have hl1 : h.length + 1 ≤ (h ++ [⟨e.cells, .own 89 1⟩] : Hp).length := by simp
  have hAx := hAl.app (t := [⟨e.cells, .own 89 1⟩])
  repeat' (first | (simp (disch := first | omega | assumption | (simp only [List.length_set]; omega) | (simp [*] <;> fail) | assumption) [-Bool.decide_and, -Bool.decide_or, -Bool.not_and, -Bool.not_or, toNat_pred, toNat_succ, wrap64, wr_new, wr_new0, ok_if, ok_ifn, iadV_sl, makeV_int, decT, decF, over_at, *, c_szNoteS hAx]) | (with_reducible refine Gd_split (fun hc => ?_) (fun hc => ?_) <;> (have hc2 := hc; try simp at hc2)) | (with_reducible refine Br_split (fun hc => ?_) (fun hc => ?_) <;> (have hc2 := hc; try simp at hc2)) | (with_reducible refine GdT_split (fun hc => ?_) (fun hc => ?_) <;> (have hc2 := hc; try simp at hc2)) | (with_reducible refine WT_alt ?_ ?_) | omega)
  have hnl : ps.length ≤ 16777216 := by split at hc2 <;> omega
  clear b50 hAl
  have hAl := hAx
  clear hAx
  generalize (h ++ [⟨e.cells, .own 89 1⟩] : Hp) = h1 at *
  refine c_toNoteS (hAl.kept (Kept.refl h1)) hnl (by omega) fun x0 g1 hx0 => ?_
  have K2 := (Kept.refl h1).trans hx0.kept
  have Q2 := hx0.kept.1
  have P2 := K2.1
  have Nx0 := hx0.base (Kept.refl h1)
  repeat' (first | (simp (disch := first | omega | assumption | (simp only [List.length_set]; omega) | (simp [*] <;> fail) | assumption) [-Bool.decide_and, -Bool.decide_or, -Bool.not_and, -Bool.not_or, toNat_pred, toNat_succ, wrap64, wr_new, wr_new0, ok_if, ok_ifn, iadV_sl, makeV_int, decT, decF, over_at, *]) | (with_reducible refine Gd_split (fun hc => ?_) (fun hc => ?_) <;> (have hc2 := hc; try simp at hc2)) | (with_reducible refine Br_split (fun hc => ?_) (fun hc => ?_) <;> (have hc2 := hc; try simp at hc2)) | (with_reducible refine GdT_split (fun hc => ?_) (fun hc => ?_) <;> (have hc2 := hc; try simp at hc2)) | (with_reducible refine WT_alt ?_ ?_) | omega)
  refine cs Nx0.arr (by omega) fun s0 g3 hs0  => ?_
  have Fs0x0 : Far s0 x0 := fun q1 q2 => by have := (Nx0.lt q2).2; have := (hs0.lt q1).1; omega
  have K4 := K2.trans hs0.kept
  have Q4 := hs0.kept.1
  have P4 := K4.1
  have Ns0 := hs0.base K2
  replace Nx0 := Nx0.later hs0.kept
  repeat' (first | (simp (disch := first | omega | assumption | (simp only [List.length_set]; omega) | (simp [*] <;> fail) | assumption) [-Bool.decide_and, -Bool.decide_or, -Bool.not_and, -Bool.not_or, toNat_pred, toNat_succ, wrap64, wr_new, wr_new0, ok_if, ok_ifn, iadV_sl, makeV_int, decT, decF, over_at, *]) | (with_reducible refine Gd_split (fun hc => ?_) (fun hc => ?_) <;> (have hc2 := hc; try simp at hc2)) | (with_reducible refine Br_split (fun hc => ?_) (fun hc => ?_) <;> (have hc2 := hc; try simp at hc2)) | (with_reducible refine GdT_split (fun hc => ?_) (fun hc => ?_) <;> (have hc2 := hc; try simp at hc2)) | (with_reducible refine WT_alt ?_ ?_) | omega)
  refine c_toNoteS (hAl.kept K4) hnl (by omega) fun a0 g5 ha0 => ?_
  have Fa0s0 : Far a0 s0 := fun q1 q2 => by have := (Ns0.lt q2).2; have := (ha0.lt q1).1; omega
  have K6 := K4.trans ha0.kept
  have Q6 := ha0.kept.1
  have P6 := K6.1
  have Na0 := ha0.base K4
  replace Ns0 := Ns0.later ha0.kept
  repeat' (first | (simp (disch := first | omega | assumption | (simp only [List.length_set]; omega) | (simp [*] <;> fail) | assumption) [-Bool.decide_and, -Bool.decide_or, -Bool.not_and, -Bool.not_or, toNat_pred, toNat_succ, wrap64, wr_new, wr_new0, ok_if, ok_ifn, iadV_sl, makeV_int, decT, decF, over_at, *]) | (with_reducible refine Gd_split (fun hc => ?_) (fun hc => ?_) <;> (have hc2 := hc; try simp at hc2)) | (with_reducible refine Br_split (fun hc => ?_) (fun hc => ?_) <;> (have hc2 := hc; try simp at hc2)) | (with_reducible refine GdT_split (fun hc => ?_) (fun hc => ?_) <;> (have hc2 := hc; try simp at hc2)) | (with_reducible refine WT_alt ?_ ?_) | omega)
  refine ci Na0.arr (by omega) fun r0 g7 hr0  => ?_
  have Fr0s0 : Far r0 s0 := fun q1 q2 => by have := (Ns0.lt q2).2; have := (hr0.lt q1).1; omega
  have Fa0r0 : Far a0 r0 := fun q1 q2 => by have := (Na0.lt q1).2; have := (hr0.lt q2).1; omega
  have K8 := K6.trans hr0.kept
  have Q8 := hr0.kept.1
  have P8 := K8.1
  have Nr0 := hr0.base K6
  replace Ns0 := Ns0.later hr0.kept
  replace Na0 := Na0.later hr0.kept
  repeat' (first | (simp (disch := first | omega | assumption | (simp only [List.length_set]; omega) | (simp [*] <;> fail) | assumption) [-Bool.decide_and, -Bool.decide_or, -Bool.not_and, -Bool.not_or, toNat_pred, toNat_succ, wrap64, wr_new, wr_new0, ok_if, ok_ifn, iadV_sl, makeV_int, decT, decF, over_at, *, c_eqInt64S Nr0.arr Ns0.arr]) | (with_reducible refine Gd_split (fun hc => ?_) (fun hc => ?_) <;> (have hc2 := hc; try simp at hc2)) | (with_reducible refine Br_split (fun hc => ?_) (fun hc => ?_) <;> (have hc2 := hc; try simp at hc2)) | (with_reducible refine GdT_split (fun hc => ?_) (fun hc => ?_) <;> (have hc2 := hc; try simp at hc2)) | (with_reducible refine WT_alt ?_ ?_) | omega)
  refine c_toNoteS (hAl.kept K8) hnl (by omega) fun y0 g9 hy0 => ?_
  have Fs0y0 : Far s0 y0 := fun q1 q2 => by have := (Ns0.lt q1).2; have := (hy0.lt q2).1; omega
  have Fa0y0 : Far a0 y0 := fun q1 q2 => by have := (Na0.lt q1).2; have := (hy0.lt q2).1; omega
  have Fr0y0 : Far r0 y0 := fun q1 q2 => by have := (Nr0.lt q1).2; have := (hy0.lt q2).1; omega
  have K10 := K8.trans hy0.kept
  have Q10 := hy0.kept.1
  have P10 := K10.1
  have Ny0 := hy0.base K8
  replace Ns0 := Ns0.later hy0.kept
  replace Na0 := Na0.later hy0.kept
  replace Nr0 := Nr0.later hy0.kept
  repeat' (first | (simp (disch := first | omega | assumption | (simp only [List.length_set]; omega) | (simp [*] <;> fail) | assumption) [-Bool.decide_and, -Bool.decide_or, -Bool.not_and, -Bool.not_or, toNat_pred, toNat_succ, wrap64, wr_new, wr_new0, ok_if, ok_ifn, iadV_sl, makeV_int, decT, decF, over_at, *, c_eqNoteS Na0.arr Ny0.arr]) | (with_reducible refine Gd_split (fun hc => ?_) (fun hc => ?_) <;> (have hc2 := hc; try simp at hc2)) | (with_reducible refine Br_split (fun hc => ?_) (fun hc => ?_) <;> (have hc2 := hc; try simp at hc2)) | (with_reducible refine GdT_split (fun hc => ?_) (fun hc => ?_) <;> (have hc2 := hc; try simp at hc2)) | (with_reducible refine WT_alt ?_ ?_) | omega)
  refine c_markNoteS Na0 (by simp; omega) (by omega) (by omega) (by omega) fun g11 hB11 => ?_
  have Q11 := hB11.len
  have K11 := hB11.kept K10 (fun hn => (Na0.lt hn).1)
  replace Ns0 := hB11.new Ns0 (fun hn => (Na0.lt hn).1) (fun q1 q2 => Fa0s0.symm q2 q1)
  replace Nr0 := hB11.new Nr0 (fun hn => (Na0.lt hn).1) (fun q1 q2 => Fa0r0.symm q2 q1)
  repeat' (first | (simp (disch := first | omega | assumption | (simp only [List.length_set]; omega) | (simp [*] <;> fail) | assumption) [-Bool.decide_and, -Bool.decide_or, -Bool.not_and, -Bool.not_or, toNat_pred, toNat_succ, wrap64, wr_new, wr_new0, ok_if, ok_ifn, iadV_sl, makeV_int, decT, decF, over_at, *, c_eqInt64S Nr0.arr Ns0.arr]) | (with_reducible refine Gd_split (fun hc => ?_) (fun hc => ?_) <;> (have hc2 := hc; try simp at hc2)) | (with_reducible refine Br_split (fun hc => ?_) (fun hc => ?_) <;> (have hc2 := hc; try simp at hc2)) | (with_reducible refine GdT_split (fun hc => ?_) (fun hc => ?_) <;> (have hc2 := hc; try simp at hc2)) | (with_reducible refine WT_alt ?_ ?_) | omega)
  refine c_markInt64S Nr0 (by simp; omega) (by omega) (by omega) (by omega) fun g12 hM12 hB12 => ?_
  have Q12 := hB12.len
  have K12 := hB12.kept K11 (fun hn => (Nr0.lt hn).1)
  replace Ns0 := hB12.new Ns0 (fun hn => (Nr0.lt hn).1) (fun q1 q2 => Fr0s0.symm q2 q1)
  simp only [List.length_map] at hM12
  replace Nr0 := hM12
  repeat' (first | (simp (disch := first | omega | assumption | (simp only [List.length_set]; omega) | (simp [*] <;> fail) | assumption) [-Bool.decide_and, -Bool.decide_or, -Bool.not_and, -Bool.not_or, toNat_pred, toNat_succ, wrap64, wr_new, wr_new0, ok_if, ok_ifn, iadV_sl, makeV_int, decT, decF, over_at, *, c_heldInt64S Nr0.arr]) | (with_reducible refine Gd_split (fun hc => ?_) (fun hc => ?_) <;> (have hc2 := hc; try simp at hc2)) | (with_reducible refine Br_split (fun hc => ?_) (fun hc => ?_) <;> (have hc2 := hc; try simp at hc2)) | (with_reducible refine GdT_split (fun hc => ?_) (fun hc => ?_) <;> (have hc2 := hc; try simp at hc2)) | (with_reducible refine WT_alt ?_ ?_) | omega)
  refine c_toNoteS (hAl.kept K12) hnl (by omega) fun w0 g13 hw0 => ?_
  have Fs0w0 : Far s0 w0 := fun q1 q2 => by have := (Ns0.lt q1).2; have := (hw0.lt q2).1; omega
  have Fr0w0 : Far r0 w0 := fun q1 q2 => by have := (Nr0.lt q1).2; have := (hw0.lt q2).1; omega
  have K14 := K12.trans hw0.kept
  have Q14 := hw0.kept.1
  have P14 := K14.1
  have Nw0 := hw0.base K12
  replace Ns0 := Ns0.later hw0.kept
  replace Nr0 := Nr0.later hw0.kept
  repeat' (first | (simp (disch := first | omega | assumption | (simp only [List.length_set]; omega) | (simp [*] <;> fail) | assumption) [-Bool.decide_and, -Bool.decide_or, -Bool.not_and, -Bool.not_or, toNat_pred, toNat_succ, wrap64, wr_new, wr_new0, ok_if, ok_ifn, iadV_sl, makeV_int, decT, decF, over_at, *]) | (with_reducible refine Gd_split (fun hc => ?_) (fun hc => ?_) <;> (have hc2 := hc; try simp at hc2)) | (with_reducible refine Br_split (fun hc => ?_) (fun hc => ?_) <;> (have hc2 := hc; try simp at hc2)) | (with_reducible refine GdT_split (fun hc => ?_) (fun hc => ?_) <;> (have hc2 := hc; try simp at hc2)) | (with_reducible refine WT_alt ?_ ?_) | omega)
  refine ci Nw0.arr (by omega) fun u0 g15 hu0  => ?_
  have Fs0u0 : Far s0 u0 := fun q1 q2 => by have := (Ns0.lt q1).2; have := (hu0.lt q2).1; omega
  have Fr0u0 : Far r0 u0 := fun q1 q2 => by have := (Nr0.lt q1).2; have := (hu0.lt q2).1; omega
  have Fu0w0 : Far u0 w0 := fun q1 q2 => by have := (Nw0.lt q2).2; have := (hu0.lt q1).1; omega
  have K16 := K14.trans hu0.kept
  have Q16 := hu0.kept.1
  have P16 := K16.1
  have Nu0 := hu0.base K14
  replace Ns0 := Ns0.later hu0.kept
  replace Nr0 := Nr0.later hu0.kept
  replace Nw0 := Nw0.later hu0.kept
  repeat' (first | (simp (disch := first | omega | assumption | (simp only [List.length_set]; omega) | (simp [*] <;> fail) | assumption) [-Bool.decide_and, -Bool.decide_or, -Bool.not_and, -Bool.not_or, toNat_pred, toNat_succ, wrap64, wr_new, wr_new0, ok_if, ok_ifn, iadV_sl, makeV_int, decT, decF, over_at, *, c_eqInt64S Nu0.arr Ns0.arr, c_heldInt64S Nr0.arr]) | (with_reducible refine Gd_split (fun hc => ?_) (fun hc => ?_) <;> (have hc2 := hc; try simp at hc2)) | (with_reducible refine Br_split (fun hc => ?_) (fun hc => ?_) <;> (have hc2 := hc; try simp at hc2)) | (with_reducible refine GdT_split (fun hc => ?_) (fun hc => ?_) <;> (have hc2 := hc; try simp at hc2)) | (with_reducible refine WT_alt ?_ ?_) | omega)
end Go.E
namespace Go.E.EndsOfNotes
open Go Go.E
def pure : FuncId → Bool := fun f => List.elem f [3, 4, 5, 6, 7, 8, 9, 10, 11, 12, 13, 14, 19, 20, 23, 24, 28, 30, 31, 32, 33, 34, 35, 37, 38, 40, 44, 48, 50, 51, 54, 55, 57, 58, 59, 60, 61, 62, 63, 64, 66, 69, 71, 72, 73, 74, 75, 76, 77, 78, 79, 80, 81, 82, 83, 84, 85, 86, 87, 88, 89, 90, 91, 92, 93, 94, 95, 96, 97, 99, 100, 101, 103, 106, 107, 108, 110, 111, 112, 113, 114, 115, 116, 117, 122, 123, 124, 125, 126, 128, 129, 131, 132, 133, 134, 135, 136, 137, 138, 139, 140, 141, 142, 143, 144, 146, 147, 148, 149, 150, 151, 152, 153, 154, 155, 156, 157, 158, 159, 160, 161, 162, 163, 164, 165, 166, 167, 168, 169, 170, 171, 172, 173, 174, 175, 176, 177, 178, 179, 180, 181, 182, 183, 184, 185, 186, 187, 188, 189, 190, 191, 192, 193, 195, 197, 199, 206, 208, 209, 210]
def funs : List (Nat × LFn) := [(73, L73), (86, L86), (106, L106), (133, L133), (66, L66), (123, L123), (125, L125), (128, L128), (152, L152), (153, L153), (154, L154), (156, L156), (177, L177), (178, L178), (65, L65), (68, L68), (126, L126), (127, L127), (129, L129), (130, L130), (155, L155), (33, L33), (64, L64), (67, L67), (69, L69), (70, L70), (131, L131), (17, L17), (19, L19), (22, L22), (23, L23), (14, L14)]
def Sy : Sys := sysOf funs
theorem lfn73 : lFn Go.Proofs.Try.prog pure Go.Proofs.Try.f73 = some L73 := by kernel_rfl
theorem lfn86 : lFn Go.Proofs.Try.prog pure Go.Proofs.Try.f86 = some L86 := by kernel_rfl
theorem lfn106 : lFn Go.Proofs.Try.prog pure Go.Proofs.Try.f106 = some L106 := by kernel_rfl
theorem lfn133 : lFn Go.Proofs.Try.prog pure Go.Proofs.Try.f133 = some L133 := by kernel_rfl
theorem lfn66 : lFn Go.Proofs.Try.prog pure Go.Proofs.Try.f66 = some L66 := by kernel_rfl
theorem lfn123 : lFn Go.Proofs.Try.prog pure Go.Proofs.Try.f123 = some L123 := by kernel_rfl
theorem lfn125 : lFn Go.Proofs.Try.prog pure Go.Proofs.Try.f125 = some L125 := by kernel_rfl
theorem lfn128 : lFn Go.Proofs.Try.prog pure Go.Proofs.Try.f128 = some L128 := by kernel_rfl
theorem lfn152 : lFn Go.Proofs.Try.prog pure Go.Proofs.Try.f152 = some L152 := by kernel_rfl
theorem lfn153 : lFn Go.Proofs.Try.prog pure Go.Proofs.Try.f153 = some L153 := by kernel_rfl
theorem lfn154 : lFn Go.Proofs.Try.prog pure Go.Proofs.Try.f154 = some L154 := by kernel_rfl
theorem lfn156 : lFn Go.Proofs.Try.prog pure Go.Proofs.Try.f156 = some L156 := by kernel_rfl
theorem lfn177 : lFn Go.Proofs.Try.prog pure Go.Proofs.Try.f177 = some L177 := by kernel_rfl
theorem lfn178 : lFn Go.Proofs.Try.prog pure Go.Proofs.Try.f178 = some L178 := by kernel_rfl
theorem lfn65 : lFn Go.Proofs.Try.prog pure Go.Proofs.Try.f65 = some L65 := by kernel_rfl
theorem lfn68 : lFn Go.Proofs.Try.prog pure Go.Proofs.Try.f68 = some L68 := by kernel_rfl
theorem lfn126 : lFn Go.Proofs.Try.prog pure Go.Proofs.Try.f126 = some L126 := by kernel_rfl
theorem lfn127 : lFn Go.Proofs.Try.prog pure Go.Proofs.Try.f127 = some L127 := by kernel_rfl
theorem lfn129 : lFn Go.Proofs.Try.prog pure Go.Proofs.Try.f129 = some L129 := by kernel_rfl
theorem lfn130 : lFn Go.Proofs.Try.prog pure Go.Proofs.Try.f130 = some L130 := by kernel_rfl
theorem lfn155 : lFn Go.Proofs.Try.prog pure Go.Proofs.Try.f155 = some L155 := by kernel_rfl
theorem lfn33 : lFn Go.Proofs.Try.prog pure Go.Proofs.Try.f33 = some L33 := by kernel_rfl
theorem lfn64 : lFn Go.Proofs.Try.prog pure Go.Proofs.Try.f64 = some L64 := by kernel_rfl
theorem lfn67 : lFn Go.Proofs.Try.prog pure Go.Proofs.Try.f67 = some L67 := by kernel_rfl
theorem lfn69 : lFn Go.Proofs.Try.prog pure Go.Proofs.Try.f69 = some L69 := by kernel_rfl
theorem lfn70 : lFn Go.Proofs.Try.prog pure Go.Proofs.Try.f70 = some L70 := by kernel_rfl
theorem lfn131 : lFn Go.Proofs.Try.prog pure Go.Proofs.Try.f131 = some L131 := by kernel_rfl
theorem lfn17 : lFn Go.Proofs.Try.prog pure Go.Proofs.Try.f17 = some L17 := by kernel_rfl
theorem lfn19 : lFn Go.Proofs.Try.prog pure Go.Proofs.Try.f19 = some L19 := by kernel_rfl
theorem lfn22 : lFn Go.Proofs.Try.prog pure Go.Proofs.Try.f22 = some L22 := by kernel_rfl
theorem lfn23 : lFn Go.Proofs.Try.prog pure Go.Proofs.Try.f23 = some L23 := by kernel_rfl
theorem lfn14 : lFn Go.Proofs.Try.prog pure Go.Proofs.Try.f14 = some L14 := by kernel_rfl
instance : HasA Sy := { f73 := rfl, f86 := rfl, f106 := rfl, f133 := rfl }
instance : HasV Sy := { f66 := rfl, f123 := rfl, f125 := rfl, f128 := rfl, f152 := rfl, f153 := rfl, f154 := rfl, f156 := rfl, f177 := rfl, f178 := rfl }
instance : HasEn Sy := { f65 := rfl, f68 := rfl, f126 := rfl, f127 := rfl, f129 := rfl, f130 := rfl, f155 := rfl }
instance : HasSame Sy := { f33 := rfl }
instance : HasNs Sy := { f64 := rfl, f67 := rfl, f69 := rfl, f70 := rfl, f131 := rfl }
instance : HasI Sy := { f17 := rfl, f19 := rfl, f22 := rfl, f23 := rfl }
instance : HasLEndsOfNotes Sy := { f14 := rfl }
theorem sysOK {B : Nat} {w0 : World} : SysOK Go.Proofs.Try.prog pure Sy B w0 := SysOK.of (by
  intro p hp
  simp only [funs, List.mem_cons, List.not_mem_nil, or_false] at hp
  rcases hp with rfl | rfl | rfl | rfl | rfl | rfl | rfl | rfl | rfl | rfl | rfl | rfl | rfl | rfl | rfl | rfl | rfl | rfl | rfl | rfl | rfl | rfl | rfl | rfl | rfl | rfl | rfl | rfl | rfl | rfl | rfl | rfl
  · exact ⟨_, Go.Proofs.Try.func73, lfn73⟩
  · exact ⟨_, Go.Proofs.Try.func86, lfn86⟩
  · exact ⟨_, Go.Proofs.Try.func106, lfn106⟩
  · exact ⟨_, Go.Proofs.Try.func133, lfn133⟩
  · exact ⟨_, Go.Proofs.Try.func66, lfn66⟩
  · exact ⟨_, Go.Proofs.Try.func123, lfn123⟩
  · exact ⟨_, Go.Proofs.Try.func125, lfn125⟩
  · exact ⟨_, Go.Proofs.Try.func128, lfn128⟩
  · exact ⟨_, Go.Proofs.Try.func152, lfn152⟩
  · exact ⟨_, Go.Proofs.Try.func153, lfn153⟩
  · exact ⟨_, Go.Proofs.Try.func154, lfn154⟩
  · exact ⟨_, Go.Proofs.Try.func156, lfn156⟩
  · exact ⟨_, Go.Proofs.Try.func177, lfn177⟩
  · exact ⟨_, Go.Proofs.Try.func178, lfn178⟩
  · exact ⟨_, Go.Proofs.Try.func65, lfn65⟩
  · exact ⟨_, Go.Proofs.Try.func68, lfn68⟩
  · exact ⟨_, Go.Proofs.Try.func126, lfn126⟩
  · exact ⟨_, Go.Proofs.Try.func127, lfn127⟩
  · exact ⟨_, Go.Proofs.Try.func129, lfn129⟩
  · exact ⟨_, Go.Proofs.Try.func130, lfn130⟩
  · exact ⟨_, Go.Proofs.Try.func155, lfn155⟩
  · exact ⟨_, Go.Proofs.Try.func33, lfn33⟩
  · exact ⟨_, Go.Proofs.Try.func64, lfn64⟩
  · exact ⟨_, Go.Proofs.Try.func67, lfn67⟩
  · exact ⟨_, Go.Proofs.Try.func69, lfn69⟩
  · exact ⟨_, Go.Proofs.Try.func70, lfn70⟩
  · exact ⟨_, Go.Proofs.Try.func131, lfn131⟩
  · exact ⟨_, Go.Proofs.Try.func17, lfn17⟩
  · exact ⟨_, Go.Proofs.Try.func19, lfn19⟩
  · exact ⟨_, Go.Proofs.Try.func22, lfn22⟩
  · exact ⟨_, Go.Proofs.Try.func23, lfn23⟩
  · exact ⟨_, Go.Proofs.Try.func14, lfn14⟩)

end Go.E.EndsOfNotes
