/- Sends. -/
import Derived.Test.YtpakemggfjmfcaaMB
import Derived.Test.YtpakemggfjmfcaaMC
import Derived.Test.YtpakemggfjmfcaaEF
set_option linter.unusedVariables false
set_option linter.unusedSimpArgs false
namespace Go.E
open Go
def L128 : LFn := ⟨1, (.seq (.reg [⟨(.some 1), (.box 167 (.t 0)), none⟩, ⟨(.some 2), (.alloc 165 [(.int .i64 0), (.int .i64 0), (.flt .f32 0)]), none⟩])
 (.seq (.reg [⟨(.some 3), (.alloc 165 [(.int .i64 0), (.int .i64 0), (.flt .f32 0)]), none⟩])
 (.seq (.reg [⟨(.some 4), (.faddr 0 (.t 1)), none⟩, ⟨(.some 5), (.load false 1 (.t 4)), none⟩, ⟨(.some 6), (.faddr 0 (.t 3)), none⟩, ⟨none, (.store 1 (.t 6) (.t 5)), none⟩])
 (.seq (.reg [⟨(.some 7), (.faddr 1 (.t 1)), none⟩, ⟨(.some 8), (.load false 1 (.t 7)), none⟩, ⟨(.some 9), (.faddr 1 (.t 3)), none⟩, ⟨none, (.store 1 (.t 9) (.t 8)), none⟩])
 (.seq (.reg [⟨(.some 10), (.faddr 2 (.t 1)), none⟩, ⟨(.some 11), (.load false 1 (.t 10)), none⟩, ⟨(.some 12), (.faddr 2 (.t 3)), none⟩, ⟨none, (.store 1 (.t 12) (.t 11)), none⟩])
 (.seq (.reg [⟨(.some 13), (.load true 3 (.t 3)), none⟩, ⟨none, (.store 3 (.t 2) (.t 13)), none⟩])
 .ret)))))), [(.cell 2 true 3)]⟩
def L132 : LFn := ⟨2, (.seq (.reg [⟨(.some 2), (.box 165 (.t 0)), none⟩, ⟨(.some 3), (.box 165 (.t 1)), none⟩, ⟨(.some 4), (.mv (.c (.lf (.bool false)))), none⟩])
 (.seq (.seq (.reg [⟨(.some 5), (.faddr 0 (.t 2)), none⟩, ⟨(.some 6), (.load false 1 (.t 5)), none⟩, ⟨(.some 7), (.faddr 0 (.t 3)), none⟩, ⟨(.some 8), (.load false 1 (.t 7)), none⟩, ⟨(.some 9), (.bin .neq (.t 6) (.t 8)), none⟩])
 (.cond (.t 9) (.seq (.reg [⟨(.some 4), (.mv (.c (.lf (.bool false)))), none⟩])
 .ret) .skip))
 (.seq (.seq (.reg [⟨(.some 10), (.faddr 1 (.t 2)), none⟩, ⟨(.some 11), (.load false 1 (.t 10)), none⟩, ⟨(.some 12), (.faddr 1 (.t 3)), none⟩, ⟨(.some 13), (.load false 1 (.t 12)), none⟩, ⟨(.some 14), (.bin .neq (.t 11) (.t 13)), none⟩])
 (.cond (.t 14) (.seq (.reg [⟨(.some 4), (.mv (.c (.lf (.bool false)))), none⟩])
 .ret) .skip))
 (.seq (.seq (.reg [⟨(.some 15), (.faddr 2 (.t 2)), none⟩, ⟨(.some 16), (.load false 1 (.t 15)), none⟩, ⟨(.some 17), (.toflt .f64 (.t 16)), none⟩, ⟨(.some 18), (.faddr 2 (.t 3)), none⟩, ⟨(.some 19), (.load false 1 (.t 18)), none⟩, ⟨(.some 20), (.toflt .f64 (.t 19)), none⟩, ⟨(.some 21), (.call true 91 [(.t 17), (.t 20)]), none⟩, ⟨(.some 22), (.una .not (.t 21)), none⟩])
 (.cond (.t 22) (.seq (.reg [⟨(.some 4), (.mv (.c (.lf (.bool false)))), none⟩])
 .ret) .skip))
 (.seq (.reg [⟨(.some 4), (.mv (.c (.lf (.bool true)))), none⟩])
 .ret))))), [(.tmp 4)]⟩
def L54 : LFn := ⟨2, (.seq (.reg [⟨(.some 4), (.mv (.c (.lf (.int .i64 0)))), none⟩])
 (.seq (.reg [⟨(.some 5), (.mv (.t 1)), none⟩, ⟨(.some 6), (.mv (.t 0)), none⟩, ⟨(.some 7), (.len (.t 6)), none⟩, ⟨(.some 8), (.bin .sub (.t 5) (.t 7)), none⟩, ⟨(.some 1), (.mv (.t 8)), none⟩])
 (.seq (.seq (.reg [⟨(.some 9), (.mv (.t 1)), none⟩, ⟨(.some 10), (.bin .lss (.t 9) (.c (.lf (.int .i64 0)))), none⟩])
 (.cond (.t 10) (.seq (.reg [⟨(.some 4), (.mv (.c (.lf (.int .i64 (-1))))), none⟩])
 .ret) .skip))
 (.seq (.reg [⟨(.some 11), (.mv (.t 1)), none⟩, ⟨(.some 4), (.mv (.t 11)), none⟩])
 .ret)))), [(.tmp 4)]⟩
def L58 : LFn := ⟨2, (.seq (.reg [⟨(.some 4), (.mv (.c (.lf (.bool false)))), none⟩])
 (.seq (.seq (.reg [⟨(.some 6), (.mv (.t 0)), none⟩, ⟨(.some 7), (.len (.t 6)), none⟩, ⟨(.some 8), (.mv (.t 1)), none⟩, ⟨(.some 9), (.len (.t 8)), none⟩, ⟨(.some 10), (.bin .neq (.t 7) (.t 9)), none⟩])
 (.cond (.t 10) (.seq (.reg [⟨(.some 4), (.mv (.c (.lf (.bool false)))), none⟩])
 .ret) .skip))
 (.seq (.seq (.reg [⟨(.some 5), (.mv (.c (.lf (.int .i64 0)))), none⟩])
 (.block 0 (.loop (.seq (.seq (.reg [⟨(.some 11), (.mv (.t 5)), none⟩, ⟨(.some 12), (.mv (.t 0)), none⟩, ⟨(.some 13), (.len (.t 12)), none⟩, ⟨(.some 14), (.bin .lss (.t 11) (.t 13)), none⟩])
 (.cond (.t 14) .skip (.exit 0)))
 (.seq (.block 1 (.seq (.reg [⟨(.some 17), (.mv (.t 0)), none⟩, ⟨(.some 18), (.mv (.t 5)), none⟩, ⟨(.some 19), (.iaddr 3 (.t 17) (.t 18)), none⟩, ⟨(.some 20), (.load true 3 (.t 19)), none⟩, ⟨(.some 21), (.mv (.t 1)), none⟩, ⟨(.some 22), (.mv (.t 5)), none⟩, ⟨(.some 23), (.iaddr 3 (.t 21) (.t 22)), none⟩, ⟨(.some 24), (.load true 3 (.t 23)), none⟩, ⟨(.some 25), (.call true 132 [(.t 20), (.t 24)]), none⟩, ⟨(.some 26), (.una .not (.t 25)), none⟩])
 (.cond (.t 26) (.seq (.reg [⟨(.some 4), (.mv (.c (.lf (.bool false)))), none⟩])
 .ret) .skip)))
 (.reg [⟨(.some 15), (.mv (.t 5)), none⟩, ⟨(.some 16), (.bin .add (.t 15) (.c (.lf (.int .i64 1)))), none⟩, ⟨(.some 5), (.mv (.t 16)), none⟩]))))))
 (.seq (.reg [⟨(.some 4), (.mv (.c (.lf (.bool true)))), none⟩])
 .ret)))), [(.tmp 4)]⟩
def L56 : LFn := ⟨1, (.seq (.reg [⟨(.some 2), (.mv (.c (.lf .nils))), none⟩])
 (.seq (.reg [⟨(.some 5), (.mv (.t 0)), none⟩, ⟨(.some 6), (.len (.t 5)), none⟩, ⟨(.some 7), (.make 165 3 24 [(.int .i64 0), (.int .i64 0), (.flt .f32 0)] (.t 6) (.t 6)), none⟩, ⟨(.some 3), (.mv (.t 7)), none⟩])
 (.seq (.seq (.reg [⟨(.some 4), (.mv (.c (.lf (.int .i64 0)))), none⟩])
 (.block 0 (.loop (.seq (.seq (.reg [⟨(.some 8), (.mv (.t 4)), none⟩, ⟨(.some 9), (.mv (.t 0)), none⟩, ⟨(.some 10), (.len (.t 9)), none⟩, ⟨(.some 11), (.bin .lss (.t 8) (.t 10)), none⟩])
 (.cond (.t 11) .skip (.exit 0)))
 (.seq (.block 1 (.reg [⟨(.some 14), (.mv (.t 3)), none⟩, ⟨(.some 15), (.mv (.t 4)), none⟩, ⟨(.some 16), (.mv (.t 0)), none⟩, ⟨(.some 17), (.mv (.t 4)), none⟩, ⟨(.some 18), (.iaddr 3 (.t 16) (.t 17)), none⟩, ⟨(.some 19), (.load true 3 (.t 18)), none⟩, ⟨(.some 20), (.call true 128 [(.t 19)]), none⟩, ⟨(.some 21), (.iaddr 3 (.t 14) (.t 15)), none⟩, ⟨none, (.store 3 (.t 21) (.t 20)), none⟩]))
 (.reg [⟨(.some 12), (.mv (.t 4)), none⟩, ⟨(.some 13), (.bin .add (.t 12) (.c (.lf (.int .i64 1)))), none⟩, ⟨(.some 4), (.mv (.t 13)), none⟩]))))))
 (.seq (.reg [⟨(.some 22), (.mv (.t 3)), none⟩, ⟨(.some 2), (.mv (.t 22)), none⟩])
 .ret)))), [(.tmp 2)]⟩
class HasSH (S : Sys) : Prop extends HasSame S where
  f128 : S.fs 128 = some L128
  f132 : S.fs 132 = some L132
  f54 : S.fs 54 = some L54
  f58 : S.fs 58 = some L58
  f56 : S.fs 56 = some L56
def L126 : LFn := ⟨2, (.seq (.reg [⟨(.some 4), (.mv (.c (.lf (.bool false)))), none⟩])
 (.seq (.seq (.reg [⟨(.some 6), (.mv (.t 0)), none⟩, ⟨(.some 7), (.call true 93 [(.t 6), (.c (.lf (.int .i64 1))), (.c (.lf (.int .i64 8)))]), none⟩, ⟨(.some 8), (.una .not (.t 7)), none⟩])
 (.cond (.t 8) (.seq (.reg [⟨(.some 4), (.mv (.c (.lf (.bool false)))), none⟩])
 .ret) .skip))
 (.seq (.seq (.reg [⟨(.some 9), (.mv (.t 1)), none⟩, ⟨(.some 10), (.len (.t 9)), none⟩, ⟨(.some 11), (.mv (.c (.lf (.int .i64 0)))), none⟩])
 (.block 0 (.loop (.seq (.reg [⟨(.some 12), (.bin .lss (.t 11) (.t 10)), none⟩])
 (.seq (.cond (.t 12) .skip (.exit 0))
 (.seq (.block 1 (.seq (.reg [⟨(.some 13), (.mv (.t 11)), none⟩, ⟨(.some 5), (.mv (.t 13)), none⟩])
 (.seq (.reg [⟨(.some 14), (.mv (.t 1)), none⟩, ⟨(.some 15), (.mv (.t 5)), none⟩, ⟨(.some 16), (.iaddr 3 (.t 14) (.t 15)), none⟩, ⟨(.some 17), (.faddr 0 (.t 16)), none⟩, ⟨(.some 18), (.load false 1 (.t 17)), none⟩, ⟨(.some 19), (.mv (.t 0)), none⟩, ⟨(.some 20), (.bin .sub (.t 19) (.c (.lf (.int .i64 1)))), none⟩, ⟨(.some 21), (.call true 93 [(.t 18), (.c (.lf (.int .i64 0))), (.t 20)]), none⟩, ⟨(.some 22), (.una .not (.t 21)), none⟩, ⟨(.some 23), (.mv (.t 22)), none⟩, ⟨(.some 24), (.mv (.t 1)), (.some (23, false))⟩, ⟨(.some 25), (.mv (.t 5)), (.some (23, false))⟩, ⟨(.some 26), (.iaddr 3 (.t 24) (.t 25)), (.some (23, false))⟩, ⟨(.some 27), (.faddr 1 (.t 26)), (.some (23, false))⟩, ⟨(.some 28), (.load false 1 (.t 27)), (.some (23, false))⟩, ⟨(.some 29), (.mv (.t 1)), (.some (23, false))⟩, ⟨(.some 30), (.mv (.t 5)), (.some (23, false))⟩, ⟨(.some 31), (.iaddr 3 (.t 29) (.t 30)), (.some (23, false))⟩, ⟨(.some 32), (.faddr 0 (.t 31)), (.some (23, false))⟩, ⟨(.some 33), (.load false 1 (.t 32)), (.some (23, false))⟩, ⟨(.some 34), (.bin .add (.t 33) (.c (.lf (.int .i64 1)))), (.some (23, false))⟩, ⟨(.some 35), (.mv (.t 0)), (.some (23, false))⟩, ⟨(.some 36), (.bin .sub (.t 35) (.c (.lf (.int .i64 1)))), (.some (23, false))⟩, ⟨(.some 37), (.call true 93 [(.t 28), (.t 34), (.t 36)]), (.some (23, false))⟩, ⟨(.some 38), (.una .not (.t 37)), (.some (23, false))⟩, ⟨(.some 39), (.pick (.t 23) (.c (.lf (.bool true))) (.t 38)), none⟩])
 (.cond (.t 39) (.seq (.reg [⟨(.some 4), (.mv (.c (.lf (.bool false)))), none⟩])
 .ret) .skip))))
 (.reg [⟨(.some 40), (.bin .add (.t 11) (.c (.lf (.int .i64 1)))), none⟩, ⟨(.some 11), (.mv (.t 40)), none⟩])))))))
 (.seq (.reg [⟨(.some 41), (.mv (.t 1)), none⟩, ⟨(.some 42), (.len (.t 41)), none⟩, ⟨(.some 43), (.bin .leq (.t 42) (.c (.lf (.int .i64 20)))), none⟩, ⟨(.some 4), (.mv (.t 43)), none⟩])
 .ret)))), [(.tmp 4)]⟩
def L168 : LFn := ⟨1, (.seq (.reg [⟨(.some 2), (.mv (.c (.lf (.bool false)))), none⟩])
 (.seq (.reg [⟨(.some 3), (.mv (.t 0)), none⟩, ⟨(.some 4), (.call true 150 [(.t 3), (.c (.lf (.int .i64 1))), (.c (.lf (.int .i64 8)))]), none⟩, ⟨(.some 2), (.mv (.t 4)), none⟩])
 .ret)), [(.tmp 2)]⟩
def L109 : LFn := ⟨3, (.seq (.reg [⟨(.some 6), (.mv (.c (.lf (.bool false)))), none⟩])
 (.seq (.seq (.reg [⟨(.some 9), (.mv (.t 0)), none⟩, ⟨(.some 10), (.len (.t 9)), none⟩, ⟨(.some 11), (.mv (.c (.lf (.int .i64 0)))), none⟩])
 (.block 0 (.loop (.seq (.reg [⟨(.some 12), (.bin .lss (.t 11) (.t 10)), none⟩])
 (.seq (.cond (.t 12) .skip (.exit 0))
 (.seq (.block 1 (.seq (.reg [⟨(.some 13), (.iaddr 1 (.t 9) (.t 11)), none⟩, ⟨(.some 14), (.load false 1 (.t 13)), none⟩, ⟨(.some 8), (.mv (.t 14)), none⟩])
 (.seq (.reg [⟨(.some 15), (.mv (.t 8)), none⟩, ⟨(.some 16), (.mv (.t 1)), none⟩, ⟨(.some 17), (.mv (.t 2)), none⟩, ⟨(.some 18), (.call true 150 [(.t 15), (.t 16), (.t 17)]), none⟩, ⟨(.some 19), (.una .not (.t 18)), none⟩])
 (.cond (.t 19) (.seq (.reg [⟨(.some 6), (.mv (.c (.lf (.bool false)))), none⟩])
 .ret) .skip))))
 (.reg [⟨(.some 20), (.bin .add (.t 11) (.c (.lf (.int .i64 1)))), none⟩, ⟨(.some 11), (.mv (.t 20)), none⟩])))))))
 (.seq (.reg [⟨(.some 6), (.mv (.c (.lf (.bool true)))), none⟩])
 .ret))), [(.tmp 6)]⟩
def L129 : LFn := ⟨2, (.seq (.reg [⟨(.some 4), (.mv (.c (.lf (.bool false)))), none⟩])
 (.seq (.seq (.reg [⟨(.some 7), (.mv (.t 0)), none⟩, ⟨(.some 8), (.call true 168 [(.t 7)]), none⟩, ⟨(.some 9), (.una .not (.t 8)), none⟩, ⟨(.some 10), (.mv (.t 9)), none⟩, ⟨(.some 11), (.mv (.t 1)), (.some (10, false))⟩, ⟨(.some 12), (.len (.t 11)), (.some (10, false))⟩, ⟨(.some 13), (.bin .gtr (.t 12) (.c (.lf (.int .i64 20)))), (.some (10, false))⟩, ⟨(.some 14), (.pick (.t 10) (.c (.lf (.bool true))) (.t 13)), none⟩])
 (.cond (.t 14) (.seq (.reg [⟨(.some 4), (.mv (.c (.lf (.bool false)))), none⟩])
 .ret) .skip))
 (.seq (.seq (.reg [⟨(.some 15), (.mv (.t 1)), none⟩, ⟨(.some 16), (.len (.t 15)), none⟩, ⟨(.some 17), (.mv (.c (.lf (.int .i64 0)))), none⟩])
 (.block 0 (.loop (.seq (.reg [⟨(.some 18), (.bin .lss (.t 17) (.t 16)), none⟩])
 (.seq (.cond (.t 18) .skip (.exit 0))
 (.seq (.block 1 (.seq (.reg [⟨(.some 19), (.iaddr 3 (.t 15) (.t 17)), none⟩, ⟨(.some 20), (.load true 3 (.t 19)), none⟩, ⟨(.some 6), (.alloc 165 [(.int .i64 0), (.int .i64 0), (.flt .f32 0)]), none⟩, ⟨none, (.store 3 (.t 6) (.t 20)), none⟩])
 (.seq (.reg [⟨(.some 21), (.faddr 0 (.t 6)), none⟩, ⟨(.some 22), (.load false 1 (.t 21)), none⟩, ⟨(.some 23), (.faddr 1 (.t 6)), none⟩, ⟨(.some 24), (.load false 1 (.t 23)), none⟩, ⟨(.some 25), (.lit 2 1 2 [(.int .i64 0), (.int .i64 0)] [(0, (1, (.t 22))), (1, (1, (.t 24)))]), none⟩, ⟨(.some 26), (.mv (.t 0)), none⟩, ⟨(.some 27), (.bin .sub (.t 26) (.c (.lf (.int .i64 1)))), none⟩, ⟨(.some 28), (.call true 109 [(.t 25), (.c (.lf (.int .i64 0))), (.t 27)]), none⟩, ⟨(.some 29), (.una .not (.t 28)), none⟩, ⟨(.some 30), (.mv (.t 29)), none⟩, ⟨(.some 31), (.faddr 0 (.t 6)), (.some (30, false))⟩, ⟨(.some 32), (.load false 1 (.t 31)), (.some (30, false))⟩, ⟨(.some 33), (.faddr 1 (.t 6)), (.some (30, false))⟩, ⟨(.some 34), (.load false 1 (.t 33)), (.some (30, false))⟩, ⟨(.some 35), (.bin .geq (.t 32) (.t 34)), (.some (30, false))⟩, ⟨(.some 36), (.pick (.t 30) (.c (.lf (.bool true))) (.t 35)), none⟩])
 (.cond (.t 36) (.seq (.reg [⟨(.some 4), (.mv (.c (.lf (.bool false)))), none⟩])
 .ret) .skip))))
 (.reg [⟨(.some 37), (.bin .add (.t 17) (.c (.lf (.int .i64 1)))), none⟩, ⟨(.some 17), (.mv (.t 37)), none⟩])))))))
 (.seq (.reg [⟨(.some 4), (.mv (.c (.lf (.bool true)))), none⟩])
 .ret)))), [(.tmp 4)]⟩
class HasS (S : Sys) : Prop extends HasA S where
  f126 : S.fs 126 = some L126
  f168 : S.fs 168 = some L168
  f109 : S.fs 109 = some L109
  f129 : S.fs 129 = some L129
/-- A send: from where, to where, how much. -/
structure Snd where
  frm : Int
  to_ : Int
  gain : Nat
def Snd.cells (p : Snd) : List Lf := [.int .i64 p.frm, .int .i64 p.to_, .flt .f32 p.gain]
def sendOk (n : Int) (p : Snd) : Prop := 0 ≤ p.frm ∧ p.frm ≤ n - 1 ∧ p.frm + 1 ≤ p.to_ ∧ p.to_ ≤ n - 1
def sendsUpto (n : Int) (ps : List Snd) (k : Nat) : Prop := ∀ i (hi : i < ps.length), i < k → sendOk n ps[i]
theorem sendsUpto.succ {n : Int} {ps : List Snd} {i : Nat} (h : sendsUpto n ps i) (hi : i < ps.length) (h1 : sendOk n ps[i]) : sendsUpto n ps (i + 1) := by
  intro j hj hlt
  by_cases e : j = i
  · subst e; exact h1
  · exact h j hj (by omega)
theorem sendsUpto.zero {n : Int} {ps : List Snd} : sendsUpto n ps 0 := fun i _ h => by omega
def areSends (n : Int) (ps : List Snd) : Prop := (1 ≤ n ∧ n ≤ 8) ∧ ps.length ≤ 20 ∧ sendsUpto n ps ps.length
noncomputable instance (n : Int) (ps : List Snd) : Decidable (areSends n ps) := Classical.propDecidable _
theorem not_areSends {n : Int} {ps : List Snd} {i : Nat} (hi : i < ps.length) (h1 : ¬ sendOk n ps[i]) : ¬ areSends n ps := fun h => h1 (h.2.2 i hi hi)
section
variable {S : Sys} {lim : Nat} {h : Hp} {K : CV → Hp → Prop}
section
variable [HasSH S]
@[simp] theorem c_toSend {x y : Int} {z : Nat} : CallT S true 128 [.agg [.int .i64 x, .int .i64 y, .flt .f32 z]] h lim K = K (.agg [.int .i64 x, .int .i64 y, .flt .f32 z]) h := by
  refine CallT_pure (F := L128) (HasSH.f128) rfl (by first | rfl | (split <;> rfl) | simp) ?_; unfold L128; dsimp only []
  repeat' (first | (simp (disch := first | omega | assumption | (simp only [List.length_set]; omega) | (simp [*] <;> fail) | assumption) [-Bool.decide_and, -Bool.decide_or, -Bool.not_and, -Bool.not_or, toNat_pred, toNat_succ, wrap64, wr_new, wr_new0, ok_if, ok_ifn, iadV_sl, makeV_int, decT, decF, over_at, *]) | (with_reducible refine Gd_split (fun hc => ?_) (fun hc => ?_) <;> (have hc2 := hc; try simp at hc2)) | (with_reducible refine Br_split (fun hc => ?_) (fun hc => ?_) <;> (have hc2 := hc; try simp at hc2)) | (with_reducible refine GdT_split (fun hc => ?_) (fun hc => ?_) <;> (have hc2 := hc; try simp at hc2)) | (with_reducible refine WT_alt ?_ ?_) | omega)
@[simp] theorem c_eqSend {x y : Int} {z : Nat} : CallT S true 132 [.agg [.int .i64 x, .int .i64 y, .flt .f32 z], .agg [.int .i64 x, .int .i64 y, .flt .f32 z]] h lim K = K (.lf (.bool true)) h := by
  refine CallT_pure (F := L132) (HasSH.f132) rfl (by first | rfl | (split <;> rfl) | simp) ?_; unfold L132; dsimp only []
  repeat' (first | (simp (disch := first | omega | assumption | (simp only [List.length_set]; omega) | (simp [*] <;> fail) | assumption) [-Bool.decide_and, -Bool.decide_or, -Bool.not_and, -Bool.not_or, toNat_pred, toNat_succ, wrap64, wr_new, wr_new0, ok_if, ok_ifn, iadV_sl, makeV_int, decT, decF, over_at, *]) | (with_reducible refine Gd_split (fun hc => ?_) (fun hc => ?_) <;> (have hc2 := hc; try simp at hc2)) | (with_reducible refine Br_split (fun hc => ?_) (fun hc => ?_) <;> (have hc2 := hc; try simp at hc2)) | (with_reducible refine GdT_split (fun hc => ?_) (fun hc => ?_) <;> (have hc2 := hc; try simp at hc2)) | (with_reducible refine WT_alt ?_ ?_) | omega)
theorem c_szSendS {l : Lf} {xs : List Snd} (hA : Arr h l 3 (xs.map Snd.cells)) {b : Int} (h1 : 0 ≤ b) (h2 : b ≤ 9223372036854775807) : CallT S true 54 [.lf l, .lf (.int .i64 b)] h lim K = K (.lf (.int .i64 (if b < xs.length then -1 else b - xs.length))) h := by
  have hb := hA.bound
  refine CallT_pure (F := L54) (HasSH.f54) rfl (by first | rfl | (split <;> rfl) | simp) ?_; unfold L54; dsimp only []
  repeat' (first | (simp (disch := first | omega | assumption | (simp only [List.length_set]; omega) | (simp [*] <;> fail) | assumption) [-Bool.decide_and, -Bool.decide_or, -Bool.not_and, -Bool.not_or, toNat_pred, toNat_succ, wrap64, wr_new, wr_new0, ok_if, ok_ifn, iadV_sl, makeV_int, decT, decF, over_at, *, hA.len, hA.at_, hA.at_', hA.rd, hA.rdIn, hA.rdIn0, hA.rdA, hA.rdInA, hA.rdIn0A]) | (with_reducible refine Gd_split (fun hc => ?_) (fun hc => ?_) <;> (have hc2 := hc; try simp at hc2)) | (with_reducible refine Br_split (fun hc => ?_) (fun hc => ?_) <;> (have hc2 := hc; try simp at hc2)) | (with_reducible refine GdT_split (fun hc => ?_) (fun hc => ?_) <;> (have hc2 := hc; try simp at hc2)) | (with_reducible refine WT_alt ?_ ?_) | omega)
theorem c_eqSendS {l l2 : Lf} {xs : List Snd} (hA : Arr h l 3 (xs.map Snd.cells)) (hA2 : Arr h l2 3 (xs.map Snd.cells)) : CallT S true 58 [.lf l, .lf l2] h lim K = K (.lf (.bool true)) h := by
  have hb := hA.bound
  refine CallT_pure (F := L58) (HasSH.f58) rfl (by first | rfl | (split <;> rfl) | simp) ?_; unfold L58; dsimp only []
  repeat' (first | (simp (disch := first | omega | assumption | (simp only [List.length_set]; omega) | (simp [*] <;> fail) | assumption) [-Bool.decide_and, -Bool.decide_or, -Bool.not_and, -Bool.not_or, toNat_pred, toNat_succ, wrap64, wr_new, wr_new0, ok_if, ok_ifn, iadV_sl, makeV_int, decT, decF, over_at, *, hA.len, hA.at_, hA.at_', hA.rd, hA.rdIn, hA.rdIn0, hA.rdA, hA.rdInA, hA.rdIn0A, hA2.len, hA2.at_, hA2.at_', hA2.rd, hA2.rdIn, hA2.rdIn0, hA2.rdA, hA2.rdInA, hA2.rdIn0A]) | (with_reducible refine Gd_split (fun hc => ?_) (fun hc => ?_) <;> (have hc2 := hc; try simp at hc2)) | (with_reducible refine Br_split (fun hc => ?_) (fun hc => ?_) <;> (have hc2 := hc; try simp at hc2)) | (with_reducible refine GdT_split (fun hc => ?_) (fun hc => ?_) <;> (have hc2 := hc; try simp at hc2)) | (with_reducible refine WT_alt ?_ ?_) | omega)
  refine WL_for xs.length (fun i a' h' => i ≤ xs.length ∧ a' 0 = .lf l ∧ a' 1 = .lf l2 ∧ a' 5 = .lf (.int .i64 i) ∧ h' = h) (fun i a' h' hi => hi.1) ?_ (by simp)
  rintro i a' h' ⟨hi, e0, e1, e5, rfl⟩
  by_cases hlt : i < xs.length
  · repeat' (first | (simp (disch := first | omega | assumption | (simp only [List.length_set]; omega) | (simp [*] <;> fail) | assumption) [-Bool.decide_and, -Bool.decide_or, -Bool.not_and, -Bool.not_or, toNat_pred, toNat_succ, wrap64, wr_new, wr_new0, ok_if, ok_ifn, iadV_sl, makeV_int, decT, decF, over_at, *, hA.len, hA.at_, hA.at_', hA.rd, hA.rdIn, hA.rdIn0, hA.rdA, hA.rdInA, hA.rdIn0A, hA2.len, hA2.at_, hA2.at_', hA2.rd, hA2.rdIn, hA2.rdIn0, hA2.rdA, hA2.rdInA, hA2.rdIn0A, Snd.cells]) | (with_reducible refine Gd_split (fun hc => ?_) (fun hc => ?_) <;> (have hc2 := hc; try simp at hc2)) | (with_reducible refine Br_split (fun hc => ?_) (fun hc => ?_) <;> (have hc2 := hc; try simp at hc2)) | (with_reducible refine GdT_split (fun hc => ?_) (fun hc => ?_) <;> (have hc2 := hc; try simp at hc2)) | (with_reducible refine WT_alt ?_ ?_) | omega)
  · repeat' (first | (simp (disch := first | omega | assumption | (simp only [List.length_set]; omega) | (simp [*] <;> fail) | assumption) [-Bool.decide_and, -Bool.decide_or, -Bool.not_and, -Bool.not_or, toNat_pred, toNat_succ, wrap64, wr_new, wr_new0, ok_if, ok_ifn, iadV_sl, makeV_int, decT, decF, over_at, *, hA.len, hA.at_, hA.at_', hA.rd, hA.rdIn, hA.rdIn0, hA.rdA, hA.rdInA, hA.rdIn0A, hA2.len, hA2.at_, hA2.at_', hA2.rd, hA2.rdIn, hA2.rdIn0, hA2.rdA, hA2.rdInA, hA2.rdIn0A, Snd.cells]) | (with_reducible refine Gd_split (fun hc => ?_) (fun hc => ?_) <;> (have hc2 := hc; try simp at hc2)) | (with_reducible refine Br_split (fun hc => ?_) (fun hc => ?_) <;> (have hc2 := hc; try simp at hc2)) | (with_reducible refine GdT_split (fun hc => ?_) (fun hc => ?_) <;> (have hc2 := hc; try simp at hc2)) | (with_reducible refine WT_alt ?_ ?_) | omega)
theorem c_toSendS {l : Lf} {xs : List Snd} (hA : Arr h l 3 (xs.map Snd.cells)) (hn : xs.length ≤ 16777216) (hl : lim ≤ h.length) (hK : ∀ l' g, New h g l' 165 3 (xs.map Snd.cells) → K (.lf l') g) : CallT S false 56 [.lf l] h lim K := by
  have hb := hA.bound
  refine CallT_of_body (F := L56) (HasSH.f56) rfl ?_; unfold L56; dsimp only []
  repeat' (first | (simp (disch := first | omega | assumption | (simp only [List.length_set]; omega) | (simp [*] <;> fail) | assumption) [-Bool.decide_and, -Bool.decide_or, -Bool.not_and, -Bool.not_or, toNat_pred, toNat_succ, wrap64, wr_new, wr_new0, ok_if, ok_ifn, iadV_sl, makeV_int, decT, decF, over_at, *, hA.len, hA.at_, hA.at_', hA.rd, hA.rdIn, hA.rdIn0, hA.rdA, hA.rdInA, hA.rdIn0A]) | (with_reducible refine Gd_split (fun hc => ?_) (fun hc => ?_) <;> (have hc2 := hc; try simp at hc2)) | (with_reducible refine Br_split (fun hc => ?_) (fun hc => ?_) <;> (have hc2 := hc; try simp at hc2)) | (with_reducible refine GdT_split (fun hc => ?_) (fun hc => ?_) <;> (have hc2 := hc; try simp at hc2)) | (with_reducible refine WT_alt ?_ ?_) | omega)
  refine WL_for xs.length (fun i a' g => i ≤ xs.length ∧ a' 0 = .lf l ∧ a' 3 = .lf (.sl h.length 0 xs.length 3) ∧ a' 4 = .lf (.int .i64 i) ∧ Kept h g ∧ Sl g h.length 165 3 (filled (nth (xs.map Snd.cells)) [.int .i64 0, .int .i64 0, .flt .f32 0] xs.length i)) (fun i a' h' hi => hi.1) ?_ ⟨by omega, by simp, by simp, by simp, Kept.app _ _, Sl.step0 rfl⟩
  rintro i a' g ⟨hi, e0, e3, e4, hk, hs⟩
  replace hA := hA.kept hk
  by_cases hlt : i < xs.length
  · repeat' (first | (simp (disch := first | omega | assumption | (simp only [List.length_set]; omega) | (simp [*] <;> fail) | assumption) [-Bool.decide_and, -Bool.decide_or, -Bool.not_and, -Bool.not_or, toNat_pred, toNat_succ, wrap64, wr_new, wr_new0, ok_if, ok_ifn, iadV_sl, makeV_int, decT, decF, over_at, *, hA.len, hA.at_, hA.at_', hA.rd, hA.rdIn, hA.rdIn0, hA.rdA, hA.rdInA, hA.rdIn0A, Snd.cells, hs.wr]) | (with_reducible refine Gd_split (fun hc => ?_) (fun hc => ?_) <;> (have hc2 := hc; try simp at hc2)) | (with_reducible refine Br_split (fun hc => ?_) (fun hc => ?_) <;> (have hc2 := hc; try simp at hc2)) | (with_reducible refine GdT_split (fun hc => ?_) (fun hc => ?_) <;> (have hc2 := hc; try simp at hc2)) | (with_reducible refine WT_alt ?_ ?_) | omega)
    exact ⟨hlt, hk.set (Nat.le_refl _), hs.step (by rw [nth_map hlt]; rfl) rfl⟩
  · have : i = xs.length := by omega
    subst this
    repeat' (first | (simp (disch := first | omega | assumption | (simp only [List.length_set]; omega) | (simp [*] <;> fail) | assumption) [-Bool.decide_and, -Bool.decide_or, -Bool.not_and, -Bool.not_or, toNat_pred, toNat_succ, wrap64, wr_new, wr_new0, ok_if, ok_ifn, iadV_sl, makeV_int, decT, decF, over_at, *, hA.len, hA.at_, hA.at_', hA.rd, hA.rdIn, hA.rdIn0, hA.rdA, hA.rdInA, hA.rdIn0A]) | (with_reducible refine Gd_split (fun hc => ?_) (fun hc => ?_) <;> (have hc2 := hc; try simp at hc2)) | (with_reducible refine Br_split (fun hc => ?_) (fun hc => ?_) <;> (have hc2 := hc; try simp at hc2)) | (with_reducible refine GdT_split (fun hc => ?_) (fun hc => ?_) <;> (have hc2 := hc; try simp at hc2)) | (with_reducible refine WT_alt ?_ ?_) | omega)
    exact hK _ _ (New.filled hk hs (by simp) (Nat.le_refl _) (by simpa using hb))

end
section
variable [HasS S] {l : Lf} {ps : List Snd}
@[simp] theorem c_areNodes {x : Int} : CallT S true 168 [.lf (.int .i64 x)] h lim K = K (.lf (.bool (decide (1 ≤ x ∧ x ≤ 8)))) h := by
  refine CallT_pure (F := L168) (HasS.f168) rfl (by first | rfl | (split <;> rfl) | simp) ?_; unfold L168; dsimp only []
  repeat' (first | (simp (disch := first | omega | assumption | (simp only [List.length_set]; omega) | (simp [*] <;> fail) | assumption) [-Bool.decide_and, -Bool.decide_or, -Bool.not_and, -Bool.not_or, toNat_pred, toNat_succ, wrap64, wr_new, wr_new0, ok_if, ok_ifn, iadV_sl, makeV_int, decT, decF, over_at, *]) | (with_reducible refine Gd_split (fun hc => ?_) (fun hc => ?_) <;> (have hc2 := hc; try simp at hc2)) | (with_reducible refine Br_split (fun hc => ?_) (fun hc => ?_) <;> (have hc2 := hc; try simp at hc2)) | (with_reducible refine GdT_split (fun hc => ?_) (fun hc => ?_) <;> (have hc2 := hc; try simp at hc2)) | (with_reducible refine WT_alt ?_ ?_) | omega)
/-- Of two numbers. -/
theorem c_allWithin2 {id off : Nat} {x y p q : Int} (h1 : rdCells h id off 1 = some [.int .i64 x]) (h2 : rdCells h id (off + 1) 1 = some [.int .i64 y]) : CallT S true 109 [.lf (.sl id off 2 1), .lf (.int .i64 p), .lf (.int .i64 q)] h lim K = K (.lf (.bool (decide ((p ≤ x ∧ x ≤ q) ∧ p ≤ y ∧ y ≤ q)))) h := by
  refine CallT_pure (F := L109) (HasS.f109) rfl (by first | rfl | (split <;> rfl) | simp) ?_; unfold L109; dsimp only []
  repeat' (first | (simp (disch := first | omega | assumption | (simp only [List.length_set]; omega) | (simp [*] <;> fail) | assumption) [-Bool.decide_and, -Bool.decide_or, -Bool.not_and, -Bool.not_or, toNat_pred, toNat_succ, wrap64, wr_new, wr_new0, ok_if, ok_ifn, iadV_sl, makeV_int, decT, decF, over_at, *]) | (with_reducible refine Gd_split (fun hc => ?_) (fun hc => ?_) <;> (have hc2 := hc; try simp at hc2)) | (with_reducible refine Br_split (fun hc => ?_) (fun hc => ?_) <;> (have hc2 := hc; try simp at hc2)) | (with_reducible refine GdT_split (fun hc => ?_) (fun hc => ?_) <;> (have hc2 := hc; try simp at hc2)) | (with_reducible refine WT_alt ?_ ?_) | omega)
  refine WL_for 2 (fun i a' h' => i ≤ 2 ∧ a' 1 = .lf (.int .i64 p) ∧ a' 2 = .lf (.int .i64 q) ∧ a' 9 = .lf (.sl id off 2 1) ∧ a' 10 = .lf (.int .i64 2) ∧ a' 11 = .lf (.int .i64 i) ∧ h' = h ∧ (0 < i → p ≤ x ∧ x ≤ q) ∧ (1 < i → p ≤ y ∧ y ≤ q)) (fun i a' h' hi => hi.1) ?_ (by simp)
  rintro i a' h' ⟨hi, e1, e2, e9, e10, e11, rfl, hx, hy⟩
  rcases (show i = 0 ∨ i = 1 ∨ i = 2 by omega) with rfl | rfl | rfl
  · repeat' (first | (simp (disch := first | omega | assumption | (simp only [List.length_set]; omega) | (simp [*] <;> fail) | assumption) [-Bool.decide_and, -Bool.decide_or, -Bool.not_and, -Bool.not_or, toNat_pred, toNat_succ, wrap64, wr_new, wr_new0, ok_if, ok_ifn, iadV_sl, makeV_int, decT, decF, over_at, *]) | (with_reducible refine Gd_split (fun hc => ?_) (fun hc => ?_) <;> (have hc2 := hc; try simp at hc2)) | (with_reducible refine Br_split (fun hc => ?_) (fun hc => ?_) <;> (have hc2 := hc; try simp at hc2)) | (with_reducible refine GdT_split (fun hc => ?_) (fun hc => ?_) <;> (have hc2 := hc; try simp at hc2)) | (with_reducible refine WT_alt ?_ ?_) | omega)
  · repeat' (first | (simp (disch := first | omega | assumption | (simp only [List.length_set]; omega) | (simp [*] <;> fail) | assumption) [-Bool.decide_and, -Bool.decide_or, -Bool.not_and, -Bool.not_or, toNat_pred, toNat_succ, wrap64, wr_new, wr_new0, ok_if, ok_ifn, iadV_sl, makeV_int, decT, decF, over_at, *]) | (with_reducible refine Gd_split (fun hc => ?_) (fun hc => ?_) <;> (have hc2 := hc; try simp at hc2)) | (with_reducible refine Br_split (fun hc => ?_) (fun hc => ?_) <;> (have hc2 := hc; try simp at hc2)) | (with_reducible refine GdT_split (fun hc => ?_) (fun hc => ?_) <;> (have hc2 := hc; try simp at hc2)) | (with_reducible refine WT_alt ?_ ?_) | omega)
  · repeat' (first | (simp (disch := first | omega | assumption | (simp only [List.length_set]; omega) | (simp [*] <;> fail) | assumption) [-Bool.decide_and, -Bool.decide_or, -Bool.not_and, -Bool.not_or, toNat_pred, toNat_succ, wrap64, wr_new, wr_new0, ok_if, ok_ifn, iadV_sl, makeV_int, decT, decF, over_at, *]) | (with_reducible refine Gd_split (fun hc => ?_) (fun hc => ?_) <;> (have hc2 := hc; try simp at hc2)) | (with_reducible refine Br_split (fun hc => ?_) (fun hc => ?_) <;> (have hc2 := hc; try simp at hc2)) | (with_reducible refine GdT_split (fun hc => ?_) (fun hc => ?_) <;> (have hc2 := hc; try simp at hc2)) | (with_reducible refine WT_alt ?_ ?_) | omega)
theorem c_l07Sends {n : Int} (hA : Arr h l 3 (ps.map Snd.cells)) : CallT S true 126 [.lf (.int .i64 n), .lf l] h lim K = K (.lf (.bool (decide (areSends n ps)))) h := by
  have hb := hA.bound
  refine CallT_pure (F := L126) (HasS.f126) rfl (by first | rfl | (split <;> rfl) | simp) ?_; unfold L126; dsimp only []
  repeat' (first | (simp (disch := first | omega | assumption | (simp only [List.length_set]; omega) | (simp [*] <;> fail) | assumption) [-Bool.decide_and, -Bool.decide_or, -Bool.not_and, -Bool.not_or, toNat_pred, toNat_succ, wrap64, wr_new, wr_new0, ok_if, ok_ifn, iadV_sl, makeV_int, decT, decF, over_at, *, hA.len, hA.at_, hA.at_', hA.rd, hA.rdIn, hA.rdIn0, hA.rdA, hA.rdInA, hA.rdIn0A]) | (with_reducible refine Gd_split (fun hc => ?_) (fun hc => ?_) <;> (have hc2 := hc; try simp at hc2)) | (with_reducible refine Br_split (fun hc => ?_) (fun hc => ?_) <;> (have hc2 := hc; try simp at hc2)) | (with_reducible refine GdT_split (fun hc => ?_) (fun hc => ?_) <;> (have hc2 := hc; try simp at hc2)) | (with_reducible refine WT_alt ?_ ?_) | omega)
  · exact fun h => by have := h.1; omega
  refine WL_for ps.length (fun i a' h' => i ≤ ps.length ∧ a' 0 = .lf (.int .i64 n) ∧ a' 1 = .lf l ∧ a' 10 = .lf (.int .i64 ps.length) ∧ a' 11 = .lf (.int .i64 i) ∧ h' = h ∧ sendsUpto n ps i) (fun i a' h' hi => hi.1) ?_ (by simp [sendsUpto.zero])
  rintro i a' h' ⟨hi, e0, e1, e10, e11, rfl, hl⟩
  by_cases hlt : i < ps.length
  · repeat' (first | (simp (disch := first | omega | assumption | (simp only [List.length_set]; omega) | (simp [*] <;> fail) | assumption) [-Bool.decide_and, -Bool.decide_or, -Bool.not_and, -Bool.not_or, toNat_pred, toNat_succ, wrap64, wr_new, wr_new0, ok_if, ok_ifn, iadV_sl, makeV_int, decT, decF, over_at, *, hA.len, hA.at_, hA.at_', hA.rd, hA.rdIn, hA.rdIn0, hA.rdA, hA.rdInA, hA.rdIn0A, Snd.cells]) | (with_reducible refine Gd_split (fun hc => ?_) (fun hc => ?_) <;> (have hc2 := hc; try simp at hc2)) | (with_reducible refine Br_split (fun hc => ?_) (fun hc => ?_) <;> (have hc2 := hc; try simp at hc2)) | (with_reducible refine GdT_split (fun hc => ?_) (fun hc => ?_) <;> (have hc2 := hc; try simp at hc2)) | (with_reducible refine WT_alt ?_ ?_) | omega)
    · exact not_areSends hlt (by unfold sendOk; omega)
    · exact ⟨hlt, hl.succ hlt (by unfold sendOk; omega)⟩
    · exact not_areSends hlt (by unfold sendOk; omega)
  · have : i = ps.length := by omega
    subst this
    repeat' (first | (simp (disch := first | omega | assumption | (simp only [List.length_set]; omega) | (simp [*] <;> fail) | assumption) [-Bool.decide_and, -Bool.decide_or, -Bool.not_and, -Bool.not_or, toNat_pred, toNat_succ, wrap64, wr_new, wr_new0, ok_if, ok_ifn, iadV_sl, makeV_int, decT, decF, over_at, *, hA.len, hA.at_, hA.at_', hA.rd, hA.rdIn, hA.rdIn0, hA.rdA, hA.rdInA, hA.rdIn0A]) | (with_reducible refine Gd_split (fun hc => ?_) (fun hc => ?_) <;> (have hc2 := hc; try simp at hc2)) | (with_reducible refine Br_split (fun hc => ?_) (fun hc => ?_) <;> (have hc2 := hc; try simp at hc2)) | (with_reducible refine GdT_split (fun hc => ?_) (fun hc => ?_) <;> (have hc2 := hc; try simp at hc2)) | (with_reducible refine WT_alt ?_ ?_) | omega)
    exact ⟨fun h => ⟨by omega, by omega, hl⟩, fun h => by have := h.2.1; omega⟩
theorem c_implAreSends {n : Int} (hA : Arr h l 3 (ps.map Snd.cells)) : CallT S true 129 [.lf (.int .i64 n), .lf l] h lim K = K (.lf (.bool (decide (areSends n ps)))) h := by
  have hb := hA.bound
  refine CallT_pure (F := L129) (HasS.f129) rfl (by first | rfl | (split <;> rfl) | simp) ?_; unfold L129; dsimp only []
  repeat' (first | (simp (disch := first | omega | assumption | (simp only [List.length_set]; omega) | (simp [*] <;> fail) | assumption) [-Bool.decide_and, -Bool.decide_or, -Bool.not_and, -Bool.not_or, toNat_pred, toNat_succ, wrap64, wr_new, wr_new0, ok_if, ok_ifn, iadV_sl, makeV_int, decT, decF, over_at, *, hA.len, hA.at_, hA.at_', hA.rd, hA.rdIn, hA.rdIn0, hA.rdA, hA.rdInA, hA.rdIn0A]) | (with_reducible refine Gd_split (fun hc => ?_) (fun hc => ?_) <;> (have hc2 := hc; try simp at hc2)) | (with_reducible refine Br_split (fun hc => ?_) (fun hc => ?_) <;> (have hc2 := hc; try simp at hc2)) | (with_reducible refine GdT_split (fun hc => ?_) (fun hc => ?_) <;> (have hc2 := hc; try simp at hc2)) | (with_reducible refine WT_alt ?_ ?_) | omega)
  · exact fun h => by have := h.2.1; omega
  · refine WL_for ps.length (fun i a' g => i ≤ ps.length ∧ a' 0 = .lf (.int .i64 n) ∧ a' 15 = .lf l ∧ a' 16 = .lf (.int .i64 ps.length) ∧ a' 17 = .lf (.int .i64 i) ∧ Kept h g ∧ sendsUpto n ps i) (fun i a' h' hi => hi.1) ?_ (by simp [sendsUpto.zero, Kept.refl])
    rintro i a' g ⟨hi, e0, e1, e10, e11, hk, hl⟩
    replace hA := hA.kept hk; have hg := hk.1
    by_cases hlt : i < ps.length
    · repeat' (first | (simp (disch := first | omega | assumption | (simp only [List.length_set]; omega) | (simp [*] <;> fail) | assumption) [-Bool.decide_and, -Bool.decide_or, -Bool.not_and, -Bool.not_or, toNat_pred, toNat_succ, wrap64, wr_new, wr_new0, ok_if, ok_ifn, iadV_sl, makeV_int, decT, decF, over_at, *, hA.len, hA.at_, hA.at_', hA.rd, hA.rdIn, hA.rdIn0, hA.rdA, hA.rdInA, hA.rdIn0A, Snd.cells, leavesAll, fillL]) | (with_reducible refine Gd_split (fun hc => ?_) (fun hc => ?_) <;> (have hc2 := hc; try simp at hc2)) | (with_reducible refine Br_split (fun hc => ?_) (fun hc => ?_) <;> (have hc2 := hc; try simp at hc2)) | (with_reducible refine GdT_split (fun hc => ?_) (fun hc => ?_) <;> (have hc2 := hc; try simp at hc2)) | (with_reducible refine WT_alt ?_ ?_) | omega)
      rw [c_allWithin2 (x := ps[i].frm) (y := ps[i].to_) (by simp) (by simp)]
      repeat' (first | (simp (disch := first | omega | assumption | (simp only [List.length_set]; omega) | (simp [*] <;> fail) | assumption) [-Bool.decide_and, -Bool.decide_or, -Bool.not_and, -Bool.not_or, toNat_pred, toNat_succ, wrap64, wr_new, wr_new0, ok_if, ok_ifn, iadV_sl, makeV_int, decT, decF, over_at, *]) | (with_reducible refine Gd_split (fun hc => ?_) (fun hc => ?_) <;> (have hc2 := hc; try simp at hc2)) | (with_reducible refine Br_split (fun hc => ?_) (fun hc => ?_) <;> (have hc2 := hc; try simp at hc2)) | (with_reducible refine GdT_split (fun hc => ?_) (fun hc => ?_) <;> (have hc2 := hc; try simp at hc2)) | (with_reducible refine WT_alt ?_ ?_) | omega)
      · exact not_areSends hlt (by unfold sendOk; omega)
      · exact ⟨hlt, hl.succ hlt (by unfold sendOk; omega)⟩
      · exact not_areSends hlt (by unfold sendOk; omega)
    · have : i = ps.length := by omega
      subst this
      repeat' (first | (simp (disch := first | omega | assumption | (simp only [List.length_set]; omega) | (simp [*] <;> fail) | assumption) [-Bool.decide_and, -Bool.decide_or, -Bool.not_and, -Bool.not_or, toNat_pred, toNat_succ, wrap64, wr_new, wr_new0, ok_if, ok_ifn, iadV_sl, makeV_int, decT, decF, over_at, *, hA.len, hA.at_, hA.at_', hA.rd, hA.rdIn, hA.rdIn0, hA.rdA, hA.rdInA, hA.rdIn0A]) | (with_reducible refine Gd_split (fun hc => ?_) (fun hc => ?_) <;> (have hc2 := hc; try simp at hc2)) | (with_reducible refine Br_split (fun hc => ?_) (fun hc => ?_) <;> (have hc2 := hc; try simp at hc2)) | (with_reducible refine GdT_split (fun hc => ?_) (fun hc => ?_) <;> (have hc2 := hc; try simp at hc2)) | (with_reducible refine WT_alt ?_ ?_) | omega)
      exact ⟨by omega, by omega, hl⟩
  · exact fun h => by have := h.1; omega
end
end
end Go.E
