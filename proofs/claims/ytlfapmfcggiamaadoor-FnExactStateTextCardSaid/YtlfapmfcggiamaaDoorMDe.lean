/- Effects and lists of lists: the laws' helpers. -/
import Derived.Test.YtlfapmfcggiamaaDoorMD
set_option linter.unusedVariables false
set_option linter.unusedSimpArgs false
namespace Go.E
open Go
def L13 : LFn := ⟨2, (.seq (.reg [⟨(.some 4), (.mv (.c (.lf (.int .i64 0)))), none⟩])
 (.seq (.reg [⟨(.some 5), (.mv (.t 1)), none⟩, ⟨(.some 6), (.mv (.t 0)), none⟩, ⟨(.some 7), (.len (.t 6)), none⟩, ⟨(.some 8), (.bin .sub (.t 5) (.t 7)), none⟩, ⟨(.some 1), (.mv (.t 8)), none⟩])
 (.seq (.seq (.reg [⟨(.some 9), (.mv (.t 1)), none⟩, ⟨(.some 10), (.bin .lss (.t 9) (.c (.lf (.int .i64 0)))), none⟩])
 (.cond (.t 10) (.seq (.reg [⟨(.some 4), (.mv (.c (.lf (.int .i64 (-1))))), none⟩])
 .ret) .skip))
 (.seq (.reg [⟨(.some 11), (.mv (.t 1)), none⟩, ⟨(.some 4), (.mv (.t 11)), none⟩])
 .ret)))), [(.tmp 4)]⟩
class HasSz (S : Sys) : Prop where
  f13 : S.fs 13 = some L13
def L8 : LFn := ⟨1, (.seq (.reg [⟨(.some 2), (.mv (.c (.lf .nils))), none⟩])
 (.seq (.reg [⟨(.some 5), (.mv (.t 0)), none⟩, ⟨(.some 6), (.len (.t 5)), none⟩, ⟨(.some 7), (.make 35 1 24 [.nils] (.t 6) (.t 6)), none⟩, ⟨(.some 3), (.mv (.t 7)), none⟩])
 (.seq (.seq (.reg [⟨(.some 4), (.mv (.c (.lf (.int .i64 0)))), none⟩])
 (.block 0 (.loop (.seq (.seq (.reg [⟨(.some 8), (.mv (.t 4)), none⟩, ⟨(.some 9), (.mv (.t 0)), none⟩, ⟨(.some 10), (.len (.t 9)), none⟩, ⟨(.some 11), (.bin .lss (.t 8) (.t 10)), none⟩])
 (.cond (.t 11) .skip (.exit 0)))
 (.seq (.block 1 (.reg [⟨(.some 14), (.mv (.t 3)), none⟩, ⟨(.some 15), (.mv (.t 4)), none⟩, ⟨(.some 16), (.mv (.t 0)), none⟩, ⟨(.some 17), (.mv (.t 4)), none⟩, ⟨(.some 18), (.iaddr 1 (.t 16) (.t 17)), none⟩, ⟨(.some 19), (.load false 1 (.t 18)), none⟩, ⟨(.some 20), (.call false 17 [(.t 19)]), none⟩, ⟨(.some 21), (.iaddr 1 (.t 14) (.t 15)), none⟩, ⟨none, (.store 1 (.t 21) (.t 20)), none⟩]))
 (.reg [⟨(.some 12), (.mv (.t 4)), none⟩, ⟨(.some 13), (.bin .add (.t 12) (.c (.lf (.int .i64 1)))), none⟩, ⟨(.some 4), (.mv (.t 13)), none⟩]))))))
 (.seq (.reg [⟨(.some 22), (.mv (.t 3)), none⟩, ⟨(.some 2), (.mv (.t 22)), none⟩])
 .ret)))), [(.tmp 2)]⟩
def L11 : LFn := ⟨2, (.seq (.reg [⟨(.some 4), (.mv (.c (.lf (.bool false)))), none⟩])
 (.seq (.seq (.reg [⟨(.some 6), (.mv (.t 0)), none⟩, ⟨(.some 7), (.len (.t 6)), none⟩, ⟨(.some 8), (.mv (.t 1)), none⟩, ⟨(.some 9), (.len (.t 8)), none⟩, ⟨(.some 10), (.bin .neq (.t 7) (.t 9)), none⟩])
 (.cond (.t 10) (.seq (.reg [⟨(.some 4), (.mv (.c (.lf (.bool false)))), none⟩])
 .ret) .skip))
 (.seq (.seq (.reg [⟨(.some 5), (.mv (.c (.lf (.int .i64 0)))), none⟩])
 (.block 0 (.loop (.seq (.seq (.reg [⟨(.some 11), (.mv (.t 5)), none⟩, ⟨(.some 12), (.mv (.t 0)), none⟩, ⟨(.some 13), (.len (.t 12)), none⟩, ⟨(.some 14), (.bin .lss (.t 11) (.t 13)), none⟩])
 (.cond (.t 14) .skip (.exit 0)))
 (.seq (.block 1 (.seq (.reg [⟨(.some 17), (.mv (.t 0)), none⟩, ⟨(.some 18), (.mv (.t 5)), none⟩, ⟨(.some 19), (.iaddr 1 (.t 17) (.t 18)), none⟩, ⟨(.some 20), (.load false 1 (.t 19)), none⟩, ⟨(.some 21), (.mv (.t 1)), none⟩, ⟨(.some 22), (.mv (.t 5)), none⟩, ⟨(.some 23), (.iaddr 1 (.t 21) (.t 22)), none⟩, ⟨(.some 24), (.load false 1 (.t 23)), none⟩, ⟨(.some 25), (.call true 21 [(.t 20), (.t 24)]), none⟩, ⟨(.some 26), (.una .not (.t 25)), none⟩])
 (.cond (.t 26) (.seq (.reg [⟨(.some 4), (.mv (.c (.lf (.bool false)))), none⟩])
 .ret) .skip)))
 (.reg [⟨(.some 15), (.mv (.t 5)), none⟩, ⟨(.some 16), (.bin .add (.t 15) (.c (.lf (.int .i64 1)))), none⟩, ⟨(.some 5), (.mv (.t 16)), none⟩]))))))
 (.seq (.reg [⟨(.some 4), (.mv (.c (.lf (.bool true)))), none⟩])
 .ret)))), [(.tmp 4)]⟩
def L5 : LFn := ⟨2, (.seq (.reg [⟨(.some 4), (.mv (.c (.lf (.int .i64 0)))), none⟩])
 (.seq (.reg [⟨(.some 6), (.mv (.t 1)), none⟩, ⟨(.some 7), (.mv (.t 0)), none⟩, ⟨(.some 8), (.len (.t 7)), none⟩, ⟨(.some 9), (.bin .sub (.t 6) (.t 8)), none⟩, ⟨(.some 1), (.mv (.t 9)), none⟩])
 (.seq (.seq (.reg [⟨(.some 10), (.mv (.t 1)), none⟩, ⟨(.some 11), (.bin .lss (.t 10) (.c (.lf (.int .i64 0)))), none⟩])
 (.cond (.t 11) (.seq (.reg [⟨(.some 4), (.mv (.c (.lf (.int .i64 (-1))))), none⟩])
 .ret) .skip))
 (.seq (.seq (.reg [⟨(.some 5), (.mv (.c (.lf (.int .i64 0)))), none⟩])
 (.block 0 (.loop (.seq (.seq (.reg [⟨(.some 12), (.mv (.t 5)), none⟩, ⟨(.some 13), (.mv (.t 0)), none⟩, ⟨(.some 14), (.len (.t 13)), none⟩, ⟨(.some 15), (.bin .lss (.t 12) (.t 14)), none⟩])
 (.cond (.t 15) .skip (.exit 0)))
 (.seq (.block 1 (.seq (.reg [⟨(.some 18), (.mv (.t 0)), none⟩, ⟨(.some 19), (.mv (.t 5)), none⟩, ⟨(.some 20), (.iaddr 1 (.t 18) (.t 19)), none⟩, ⟨(.some 21), (.load false 1 (.t 20)), none⟩, ⟨(.some 22), (.mv (.t 1)), none⟩, ⟨(.some 23), (.call true 13 [(.t 21), (.t 22)]), none⟩, ⟨(.some 1), (.mv (.t 23)), none⟩])
 (.seq (.reg [⟨(.some 24), (.mv (.t 1)), none⟩, ⟨(.some 25), (.bin .lss (.t 24) (.c (.lf (.int .i64 0)))), none⟩])
 (.cond (.t 25) (.seq (.reg [⟨(.some 4), (.mv (.c (.lf (.int .i64 (-1))))), none⟩])
 .ret) .skip))))
 (.reg [⟨(.some 16), (.mv (.t 5)), none⟩, ⟨(.some 17), (.bin .add (.t 16) (.c (.lf (.int .i64 1)))), none⟩, ⟨(.some 5), (.mv (.t 17)), none⟩]))))))
 (.seq (.reg [⟨(.some 26), (.mv (.t 1)), none⟩, ⟨(.some 4), (.mv (.t 26)), none⟩])
 .ret))))), [(.tmp 4)]⟩
class HasDSS (S : Sys) : Prop extends HasF S, HasSz S where
  f8 : S.fs 8 = some L8
  f11 : S.fs 11 = some L11
  f5 : S.fs 5 = some L5
def L16 : LFn := ⟨1, (.seq (.reg [⟨(.some 1), (.box 37 (.t 0)), none⟩, ⟨(.some 2), (.alloc 41 [(.int .i64 0), (.int .i64 0), .nils]), none⟩])
 (.seq (.reg [⟨(.some 3), (.alloc 41 [(.int .i64 0), (.int .i64 0), .nils]), none⟩])
 (.seq (.reg [⟨(.some 4), (.faddr 0 (.t 1)), none⟩, ⟨(.some 5), (.load false 1 (.t 4)), none⟩, ⟨(.some 6), (.faddr 0 (.t 3)), none⟩, ⟨none, (.store 1 (.t 6) (.t 5)), none⟩])
 (.seq (.reg [⟨(.some 7), (.faddr 1 (.t 1)), none⟩, ⟨(.some 8), (.load false 1 (.t 7)), none⟩, ⟨(.some 9), (.faddr 1 (.t 3)), none⟩, ⟨none, (.store 1 (.t 9) (.t 8)), none⟩])
 (.seq (.reg [⟨(.some 10), (.faddr 2 (.t 1)), none⟩, ⟨(.some 11), (.load false 1 (.t 10)), none⟩, ⟨(.some 12), (.call false 17 [(.t 11)]), none⟩, ⟨(.some 13), (.faddr 2 (.t 3)), none⟩, ⟨none, (.store 1 (.t 13) (.t 12)), none⟩])
 (.seq (.reg [⟨(.some 14), (.load true 3 (.t 3)), none⟩, ⟨none, (.store 3 (.t 2) (.t 14)), none⟩])
 .ret)))))), [(.cell 2 true 3)]⟩
def L20 : LFn := ⟨2, (.seq (.reg [⟨(.some 2), (.box 41 (.t 0)), none⟩, ⟨(.some 3), (.box 41 (.t 1)), none⟩, ⟨(.some 4), (.mv (.c (.lf (.bool false)))), none⟩])
 (.seq (.seq (.reg [⟨(.some 5), (.faddr 0 (.t 2)), none⟩, ⟨(.some 6), (.load false 1 (.t 5)), none⟩, ⟨(.some 7), (.faddr 0 (.t 3)), none⟩, ⟨(.some 8), (.load false 1 (.t 7)), none⟩, ⟨(.some 9), (.bin .neq (.t 6) (.t 8)), none⟩])
 (.cond (.t 9) (.seq (.reg [⟨(.some 4), (.mv (.c (.lf (.bool false)))), none⟩])
 .ret) .skip))
 (.seq (.seq (.reg [⟨(.some 10), (.faddr 1 (.t 2)), none⟩, ⟨(.some 11), (.load false 1 (.t 10)), none⟩, ⟨(.some 12), (.faddr 1 (.t 3)), none⟩, ⟨(.some 13), (.load false 1 (.t 12)), none⟩, ⟨(.some 14), (.bin .neq (.t 11) (.t 13)), none⟩])
 (.cond (.t 14) (.seq (.reg [⟨(.some 4), (.mv (.c (.lf (.bool false)))), none⟩])
 .ret) .skip))
 (.seq (.seq (.reg [⟨(.some 15), (.faddr 2 (.t 2)), none⟩, ⟨(.some 16), (.load false 1 (.t 15)), none⟩, ⟨(.some 17), (.faddr 2 (.t 3)), none⟩, ⟨(.some 18), (.load false 1 (.t 17)), none⟩, ⟨(.some 19), (.call true 21 [(.t 16), (.t 18)]), none⟩, ⟨(.some 20), (.una .not (.t 19)), none⟩])
 (.cond (.t 20) (.seq (.reg [⟨(.some 4), (.mv (.c (.lf (.bool false)))), none⟩])
 .ret) .skip))
 (.seq (.reg [⟨(.some 4), (.mv (.c (.lf (.bool true)))), none⟩])
 .ret))))), [(.tmp 4)]⟩
def L12 : LFn := ⟨2, (.seq (.reg [⟨(.some 2), (.box 37 (.t 0)), none⟩, ⟨(.some 4), (.mv (.c (.lf (.int .i64 0)))), none⟩])
 (.seq (.reg [⟨(.some 5), (.faddr 2 (.t 2)), none⟩, ⟨(.some 6), (.load false 1 (.t 5)), none⟩, ⟨(.some 7), (.mv (.t 1)), none⟩, ⟨(.some 8), (.call true 13 [(.t 6), (.t 7)]), none⟩, ⟨(.some 1), (.mv (.t 8)), none⟩])
 (.seq (.seq (.reg [⟨(.some 9), (.mv (.t 1)), none⟩, ⟨(.some 10), (.bin .lss (.t 9) (.c (.lf (.int .i64 0)))), none⟩])
 (.cond (.t 10) (.seq (.reg [⟨(.some 4), (.mv (.c (.lf (.int .i64 (-1))))), none⟩])
 .ret) .skip))
 (.seq (.reg [⟨(.some 11), (.mv (.t 1)), none⟩, ⟨(.some 4), (.mv (.t 11)), none⟩])
 .ret)))), [(.tmp 4)]⟩
def L7 : LFn := ⟨1, (.seq (.reg [⟨(.some 2), (.mv (.c (.lf .nils))), none⟩])
 (.seq (.reg [⟨(.some 5), (.mv (.t 0)), none⟩, ⟨(.some 6), (.len (.t 5)), none⟩, ⟨(.some 7), (.make 41 3 40 [(.int .i64 0), (.int .i64 0), .nils] (.t 6) (.t 6)), none⟩, ⟨(.some 3), (.mv (.t 7)), none⟩])
 (.seq (.seq (.reg [⟨(.some 4), (.mv (.c (.lf (.int .i64 0)))), none⟩])
 (.block 0 (.loop (.seq (.seq (.reg [⟨(.some 8), (.mv (.t 4)), none⟩, ⟨(.some 9), (.mv (.t 0)), none⟩, ⟨(.some 10), (.len (.t 9)), none⟩, ⟨(.some 11), (.bin .lss (.t 8) (.t 10)), none⟩])
 (.cond (.t 11) .skip (.exit 0)))
 (.seq (.block 1 (.reg [⟨(.some 14), (.mv (.t 3)), none⟩, ⟨(.some 15), (.mv (.t 4)), none⟩, ⟨(.some 16), (.mv (.t 0)), none⟩, ⟨(.some 17), (.mv (.t 4)), none⟩, ⟨(.some 18), (.iaddr 3 (.t 16) (.t 17)), none⟩, ⟨(.some 19), (.load true 3 (.t 18)), none⟩, ⟨(.some 20), (.call false 16 [(.t 19)]), none⟩, ⟨(.some 21), (.iaddr 3 (.t 14) (.t 15)), none⟩, ⟨none, (.store 3 (.t 21) (.t 20)), none⟩]))
 (.reg [⟨(.some 12), (.mv (.t 4)), none⟩, ⟨(.some 13), (.bin .add (.t 12) (.c (.lf (.int .i64 1)))), none⟩, ⟨(.some 4), (.mv (.t 13)), none⟩]))))))
 (.seq (.reg [⟨(.some 22), (.mv (.t 3)), none⟩, ⟨(.some 2), (.mv (.t 22)), none⟩])
 .ret)))), [(.tmp 2)]⟩
def L10 : LFn := ⟨2, (.seq (.reg [⟨(.some 4), (.mv (.c (.lf (.bool false)))), none⟩])
 (.seq (.seq (.reg [⟨(.some 6), (.mv (.t 0)), none⟩, ⟨(.some 7), (.len (.t 6)), none⟩, ⟨(.some 8), (.mv (.t 1)), none⟩, ⟨(.some 9), (.len (.t 8)), none⟩, ⟨(.some 10), (.bin .neq (.t 7) (.t 9)), none⟩])
 (.cond (.t 10) (.seq (.reg [⟨(.some 4), (.mv (.c (.lf (.bool false)))), none⟩])
 .ret) .skip))
 (.seq (.seq (.reg [⟨(.some 5), (.mv (.c (.lf (.int .i64 0)))), none⟩])
 (.block 0 (.loop (.seq (.seq (.reg [⟨(.some 11), (.mv (.t 5)), none⟩, ⟨(.some 12), (.mv (.t 0)), none⟩, ⟨(.some 13), (.len (.t 12)), none⟩, ⟨(.some 14), (.bin .lss (.t 11) (.t 13)), none⟩])
 (.cond (.t 14) .skip (.exit 0)))
 (.seq (.block 1 (.seq (.reg [⟨(.some 17), (.mv (.t 0)), none⟩, ⟨(.some 18), (.mv (.t 5)), none⟩, ⟨(.some 19), (.iaddr 3 (.t 17) (.t 18)), none⟩, ⟨(.some 20), (.load true 3 (.t 19)), none⟩, ⟨(.some 21), (.mv (.t 1)), none⟩, ⟨(.some 22), (.mv (.t 5)), none⟩, ⟨(.some 23), (.iaddr 3 (.t 21) (.t 22)), none⟩, ⟨(.some 24), (.load true 3 (.t 23)), none⟩, ⟨(.some 25), (.call true 20 [(.t 20), (.t 24)]), none⟩, ⟨(.some 26), (.una .not (.t 25)), none⟩])
 (.cond (.t 26) (.seq (.reg [⟨(.some 4), (.mv (.c (.lf (.bool false)))), none⟩])
 .ret) .skip)))
 (.reg [⟨(.some 15), (.mv (.t 5)), none⟩, ⟨(.some 16), (.bin .add (.t 15) (.c (.lf (.int .i64 1)))), none⟩, ⟨(.some 5), (.mv (.t 16)), none⟩]))))))
 (.seq (.reg [⟨(.some 4), (.mv (.c (.lf (.bool true)))), none⟩])
 .ret)))), [(.tmp 4)]⟩
def L4 : LFn := ⟨2, (.seq (.reg [⟨(.some 4), (.mv (.c (.lf (.int .i64 0)))), none⟩])
 (.seq (.reg [⟨(.some 6), (.mv (.t 1)), none⟩, ⟨(.some 7), (.mv (.t 0)), none⟩, ⟨(.some 8), (.len (.t 7)), none⟩, ⟨(.some 9), (.bin .sub (.t 6) (.t 8)), none⟩, ⟨(.some 1), (.mv (.t 9)), none⟩])
 (.seq (.seq (.reg [⟨(.some 10), (.mv (.t 1)), none⟩, ⟨(.some 11), (.bin .lss (.t 10) (.c (.lf (.int .i64 0)))), none⟩])
 (.cond (.t 11) (.seq (.reg [⟨(.some 4), (.mv (.c (.lf (.int .i64 (-1))))), none⟩])
 .ret) .skip))
 (.seq (.seq (.reg [⟨(.some 5), (.mv (.c (.lf (.int .i64 0)))), none⟩])
 (.block 0 (.loop (.seq (.seq (.reg [⟨(.some 12), (.mv (.t 5)), none⟩, ⟨(.some 13), (.mv (.t 0)), none⟩, ⟨(.some 14), (.len (.t 13)), none⟩, ⟨(.some 15), (.bin .lss (.t 12) (.t 14)), none⟩])
 (.cond (.t 15) .skip (.exit 0)))
 (.seq (.block 1 (.seq (.reg [⟨(.some 18), (.mv (.t 0)), none⟩, ⟨(.some 19), (.mv (.t 5)), none⟩, ⟨(.some 20), (.iaddr 3 (.t 18) (.t 19)), none⟩, ⟨(.some 21), (.load true 3 (.t 20)), none⟩, ⟨(.some 22), (.mv (.t 1)), none⟩, ⟨(.some 23), (.call true 12 [(.t 21), (.t 22)]), none⟩, ⟨(.some 1), (.mv (.t 23)), none⟩])
 (.seq (.reg [⟨(.some 24), (.mv (.t 1)), none⟩, ⟨(.some 25), (.bin .lss (.t 24) (.c (.lf (.int .i64 0)))), none⟩])
 (.cond (.t 25) (.seq (.reg [⟨(.some 4), (.mv (.c (.lf (.int .i64 (-1))))), none⟩])
 .ret) .skip))))
 (.reg [⟨(.some 16), (.mv (.t 5)), none⟩, ⟨(.some 17), (.bin .add (.t 16) (.c (.lf (.int .i64 1)))), none⟩, ⟨(.some 5), (.mv (.t 17)), none⟩]))))))
 (.seq (.reg [⟨(.some 26), (.mv (.t 1)), none⟩, ⟨(.some 4), (.mv (.t 26)), none⟩])
 .ret))))), [(.tmp 4)]⟩
class HasDE (S : Sys) : Prop extends HasF S, HasSz S where
  f16 : S.fs 16 = some L16
  f20 : S.fs 20 = some L20
  f12 : S.fs 12 = some L12
  f7 : S.fs 7 = some L7
  f10 : S.fs 10 = some L10
  f4 : S.fs 4 = some L4

class HasDT (S : Sys) : Prop extends HasF S, HasSz S where

/-- An effect but for where its numbers lie. -/
structure Eff where
  kind : Int
  len : Int
  nums : List Nat
def Eff.cells (p : Eff × Lf) : List Lf := [.int .i64 p.1.kind, .int .i64 p.1.len, p.2]
structure Trk where
  xs : List Nat
  tenths : Int
  pan : Nat
  mute : Bool
  solo : Bool
def Trk.cells (p : Trk × Lf) : List Lf := [p.2, .int .i64 p.1.tenths, .flt .f32 p.1.pan, .bool p.1.mute, .bool p.1.solo]
def ssCells (p : List Nat × Lf) : List Lf := [p.2]
abbrev ssRows (a : List Nat) : List Nat := a
section
variable {S : Sys} {lim : Nat} {h : Hp} {K : CV → Hp → Prop}
theorem c_szFloat32S [HasSz S] {l : Lf} {xs : List Nat} (hA : Arr h l 1 (xs.map fl)) {b : Int} (h1 : 0 ≤ b) (h2 : b ≤ 9223372036854775807) : CallT S true 13 [.lf l, .lf (.int .i64 b)] h lim K = K (.lf (.int .i64 (if b < xs.length then -1 else b - xs.length))) h := by
  have hb := hA.bound
  refine CallT_pure (F := L13) (HasSz.f13) rfl (by first | rfl | (split <;> rfl) | simp) ?_; unfold L13; dsimp only []
  repeat' (first | (simp (disch := first | omega | assumption | (simp only [List.length_set]; omega) | (simp [*] <;> fail) | assumption) [-Bool.decide_and, -Bool.decide_or, -Bool.not_and, -Bool.not_or, toNat_pred, toNat_succ, wrap64, wr_new, wr_new0, ok_if, ok_ifn, iadV_sl, makeV_int, decT, decF, over_at, *, hA.len, hA.at_, hA.at_', hA.rd, hA.rdIn, hA.rdIn0, hA.rdA, hA.rdInA, hA.rdIn0A]) | (with_reducible refine Gd_split (fun hc => ?_) (fun hc => ?_) <;> (have hc2 := hc; try simp at hc2)) | (with_reducible refine Br_split (fun hc => ?_) (fun hc => ?_) <;> (have hc2 := hc; try simp at hc2)) | (with_reducible refine GdT_split (fun hc => ?_) (fun hc => ?_) <;> (have hc2 := hc; try simp at hc2)) | (with_reducible refine WT_alt ?_ ?_) | omega)
section
variable [HasDSS S]
theorem c_eqFloat32SS {l l2 : Lf} {ps qs : List (List Nat × Lf)} (hA : Arr h l 1 (ps.map ssCells)) (hI : In h ssRows ps) (hA2 : Arr h l2 1 (qs.map ssCells)) (hI2 : In h ssRows qs) (hq : qs.map (·.1) = ps.map (·.1)) : CallT S true 11 [.lf l, .lf l2] h lim K = K (.lf (.bool true)) h := by
  have hb := hA.bound
  have hlen := map_len hq
  refine CallT_pure (F := L11) (HasDSS.f11) rfl (by first | rfl | (split <;> rfl) | simp) ?_; unfold L11; dsimp only []
  repeat' (first | (simp (disch := first | omega | assumption | (simp only [List.length_set]; omega) | (simp [*] <;> fail) | assumption) [-Bool.decide_and, -Bool.decide_or, -Bool.not_and, -Bool.not_or, toNat_pred, toNat_succ, wrap64, wr_new, wr_new0, ok_if, ok_ifn, iadV_sl, makeV_int, decT, decF, over_at, *, hA.len, hA.at_, hA.at_', hA.rd, hA.rdIn, hA.rdIn0, hA.rdA, hA.rdInA, hA.rdIn0A, hA2.len, hA2.at_, hA2.at_', hA2.rd, hA2.rdIn, hA2.rdIn0, hA2.rdA, hA2.rdInA, hA2.rdIn0A]) | (with_reducible refine Gd_split (fun hc => ?_) (fun hc => ?_) <;> (have hc2 := hc; try simp at hc2)) | (with_reducible refine Br_split (fun hc => ?_) (fun hc => ?_) <;> (have hc2 := hc; try simp at hc2)) | (with_reducible refine GdT_split (fun hc => ?_) (fun hc => ?_) <;> (have hc2 := hc; try simp at hc2)) | (with_reducible refine WT_alt ?_ ?_) | omega)
  refine WL_for ps.length (fun i a' h' => i ≤ ps.length ∧ a' 0 = .lf l ∧ a' 1 = .lf l2 ∧ a' 5 = .lf (.int .i64 i) ∧ h' = h) (fun i a' h' hi => hi.1) ?_ (by simp)
  rintro i a' h' ⟨hi, e0, e1, e5, rfl⟩
  by_cases hlt : i < ps.length
  · have hlt2 : i < qs.length := by omega
    have e := map_get hq hlt
    have i1 := hI i hlt
    have i2 := hI2 i hlt2
    rw [e] at i2
    repeat' (first | (simp (disch := first | omega | assumption | (simp only [List.length_set]; omega) | (simp [*] <;> fail) | assumption) [-Bool.decide_and, -Bool.decide_or, -Bool.not_and, -Bool.not_or, toNat_pred, toNat_succ, wrap64, wr_new, wr_new0, ok_if, ok_ifn, iadV_sl, makeV_int, decT, decF, over_at, *, hA.len, hA.at_, hA.at_', hA.rd, hA.rdIn, hA.rdIn0, hA.rdA, hA.rdInA, hA.rdIn0A, hA.rd1, hA2.len, hA2.at_, hA2.at_', hA2.rd, hA2.rdIn, hA2.rdIn0, hA2.rdA, hA2.rdInA, hA2.rdIn0A, hA2.rd1, ssCells, c_eqFloat32S i1 i2]) | (with_reducible refine Gd_split (fun hc => ?_) (fun hc => ?_) <;> (have hc2 := hc; try simp at hc2)) | (with_reducible refine Br_split (fun hc => ?_) (fun hc => ?_) <;> (have hc2 := hc; try simp at hc2)) | (with_reducible refine GdT_split (fun hc => ?_) (fun hc => ?_) <;> (have hc2 := hc; try simp at hc2)) | (with_reducible refine WT_alt ?_ ?_) | omega)
  · repeat' (first | (simp (disch := first | omega | assumption | (simp only [List.length_set]; omega) | (simp [*] <;> fail) | assumption) [-Bool.decide_and, -Bool.decide_or, -Bool.not_and, -Bool.not_or, toNat_pred, toNat_succ, wrap64, wr_new, wr_new0, ok_if, ok_ifn, iadV_sl, makeV_int, decT, decF, over_at, *, hA.len, hA.at_, hA.at_', hA.rd, hA.rdIn, hA.rdIn0, hA.rdA, hA.rdInA, hA.rdIn0A, hA2.len, hA2.at_, hA2.at_', hA2.rd, hA2.rdIn, hA2.rdIn0, hA2.rdA, hA2.rdInA, hA2.rdIn0A]) | (with_reducible refine Gd_split (fun hc => ?_) (fun hc => ?_) <;> (have hc2 := hc; try simp at hc2)) | (with_reducible refine Br_split (fun hc => ?_) (fun hc => ?_) <;> (have hc2 := hc; try simp at hc2)) | (with_reducible refine GdT_split (fun hc => ?_) (fun hc => ?_) <;> (have hc2 := hc; try simp at hc2)) | (with_reducible refine WT_alt ?_ ?_) | omega)
theorem c_szFloat32SS {l : Lf} {ps : List (List Nat × Lf)} (hA : Arr h l 1 (ps.map ssCells)) (hI : In h ssRows ps) {b : Int} (h1 : 0 ≤ b) (h2 : b ≤ 4611686018427387904) : CallT S true 5 [.lf l, .lf (.int .i64 b)] h lim K = K (.lf (.int .i64 (if b < ps.length + szD ssRows ps then -1 else b - (ps.length + szD ssRows ps)))) h := by
  have hb := hA.bound
  by_cases h0 : b < ps.length
  · rw [if_pos (by omega)]
    refine CallT_pure (F := L5) (HasDSS.f5) rfl (by first | rfl | (split <;> rfl) | simp) ?_; unfold L5; dsimp only []
    repeat' (first | (simp (disch := first | omega | assumption | (simp only [List.length_set]; omega) | (simp [*] <;> fail) | assumption) [-Bool.decide_and, -Bool.decide_or, -Bool.not_and, -Bool.not_or, toNat_pred, toNat_succ, wrap64, wr_new, wr_new0, ok_if, ok_ifn, iadV_sl, makeV_int, decT, decF, over_at, *, hA.len, hA.at_, hA.at_', hA.rd, hA.rdIn, hA.rdIn0, hA.rdA, hA.rdInA, hA.rdIn0A]) | (with_reducible refine Gd_split (fun hc => ?_) (fun hc => ?_) <;> (have hc2 := hc; try simp at hc2)) | (with_reducible refine Br_split (fun hc => ?_) (fun hc => ?_) <;> (have hc2 := hc; try simp at hc2)) | (with_reducible refine GdT_split (fun hc => ?_) (fun hc => ?_) <;> (have hc2 := hc; try simp at hc2)) | (with_reducible refine WT_alt ?_ ?_) | omega)
  · refine CallT_pure (F := L5) (HasDSS.f5) rfl (by first | rfl | (split <;> rfl) | simp) ?_; unfold L5; dsimp only []
    repeat' (first | (simp (disch := first | omega | assumption | (simp only [List.length_set]; omega) | (simp [*] <;> fail) | assumption) [-Bool.decide_and, -Bool.decide_or, -Bool.not_and, -Bool.not_or, toNat_pred, toNat_succ, wrap64, wr_new, wr_new0, ok_if, ok_ifn, iadV_sl, makeV_int, decT, decF, over_at, *, hA.len, hA.at_, hA.at_', hA.rd, hA.rdIn, hA.rdIn0, hA.rdA, hA.rdInA, hA.rdIn0A]) | (with_reducible refine Gd_split (fun hc => ?_) (fun hc => ?_) <;> (have hc2 := hc; try simp at hc2)) | (with_reducible refine Br_split (fun hc => ?_) (fun hc => ?_) <;> (have hc2 := hc; try simp at hc2)) | (with_reducible refine GdT_split (fun hc => ?_) (fun hc => ?_) <;> (have hc2 := hc; try simp at hc2)) | (with_reducible refine WT_alt ?_ ?_) | omega)
    refine WL_forM 67104818 (by decide +kernel) (ps.length) (fun i a' h' => i ≤ ps.length ∧ szD ssRows (ps.take i) ≤ b - ps.length ∧ a' 1 = .lf (.int .i64 (b - ps.length - szD ssRows (ps.take i))) ∧ a' 5 = .lf (.int .i64 i) ∧ h = h') (fun i a' h' hi => hi.1) ⟨by omega, by simp [szD]; omega, by simp [szD], by simp, rfl⟩ ?_
    rintro i a' h' ⟨hi, hle, e1, e10, rfl⟩
    by_cases hlt : i < ps.length
    · have hs := szD_take (ro := ssRows) hlt
      have hs2 := szD_take_le (ro := ssRows) (ps := ps) (i := i + 1)
      have hc := fun K lim => c_szFloat32S (hI i hlt)  (S := S) (K := K) (lim := lim) (b := b - ps.length - szD ssRows (ps.take i)) (by omega) (by omega)
      by_cases hover : b - ps.length - szD ssRows (ps.take i) < (ssRows ps[i].1).length
      · rw [if_pos (by omega)]
        rw [if_pos hover] at hc
        repeat' (first | (simp (disch := first | omega | assumption | (simp only [List.length_set]; omega) | (simp [*] <;> fail) | assumption) [-Bool.decide_and, -Bool.decide_or, -Bool.not_and, -Bool.not_or, toNat_pred, toNat_succ, wrap64, wr_new, wr_new0, ok_if, ok_ifn, iadV_sl, makeV_int, decT, decF, over_at, *, hA.len, hA.at_, hA.at_', hA.rd, hA.rdIn, hA.rdIn0, hA.rdA, hA.rdInA, hA.rdIn0A, hA.rd1, ssCells]) | (with_reducible refine Gd_split (fun hc => ?_) (fun hc => ?_) <;> (have hc2 := hc; try simp at hc2)) | (with_reducible refine Br_split (fun hc => ?_) (fun hc => ?_) <;> (have hc2 := hc; try simp at hc2)) | (with_reducible refine GdT_split (fun hc => ?_) (fun hc => ?_) <;> (have hc2 := hc; try simp at hc2)) | (with_reducible refine WT_alt ?_ ?_) | omega)
      · rw [if_neg hover] at hc
        repeat' (first | (simp (disch := first | omega | assumption | (simp only [List.length_set]; omega) | (simp [*] <;> fail) | assumption) [-Bool.decide_and, -Bool.decide_or, -Bool.not_and, -Bool.not_or, toNat_pred, toNat_succ, wrap64, wr_new, wr_new0, ok_if, ok_ifn, iadV_sl, makeV_int, decT, decF, over_at, *, hA.len, hA.at_, hA.at_', hA.rd, hA.rdIn, hA.rdIn0, hA.rdA, hA.rdInA, hA.rdIn0A, hA.rd1, ssCells]) | (with_reducible refine Gd_split (fun hc => ?_) (fun hc => ?_) <;> (have hc2 := hc; try simp at hc2)) | (with_reducible refine Br_split (fun hc => ?_) (fun hc => ?_) <;> (have hc2 := hc; try simp at hc2)) | (with_reducible refine GdT_split (fun hc => ?_) (fun hc => ?_) <;> (have hc2 := hc; try simp at hc2)) | (with_reducible refine WT_alt ?_ ?_) | omega)
        all_goals exact ⟨hlt, by omega, by omega⟩
    · have : i = ps.length := by omega
      subst this
      rw [List.take_length] at *
      rw [if_neg (by omega), show b - ((ps.length : Int) + (szD ssRows ps : Int)) = b - ps.length - szD ssRows ps by omega]
      repeat' (first | (simp (disch := first | omega | assumption | (simp only [List.length_set]; omega) | (simp [*] <;> fail) | assumption) [-Bool.decide_and, -Bool.decide_or, -Bool.not_and, -Bool.not_or, toNat_pred, toNat_succ, wrap64, wr_new, wr_new0, ok_if, ok_ifn, iadV_sl, makeV_int, decT, decF, over_at, *, hA.len, hA.at_, hA.at_', hA.rd, hA.rdIn, hA.rdIn0, hA.rdA, hA.rdInA, hA.rdIn0A]) | (with_reducible refine Gd_split (fun hc => ?_) (fun hc => ?_) <;> (have hc2 := hc; try simp at hc2)) | (with_reducible refine Br_split (fun hc => ?_) (fun hc => ?_) <;> (have hc2 := hc; try simp at hc2)) | (with_reducible refine GdT_split (fun hc => ?_) (fun hc => ?_) <;> (have hc2 := hc; try simp at hc2)) | (with_reducible refine WT_alt ?_ ?_) | omega)
theorem c_toFloat32SS {l : Lf} {ps : List (List Nat × Lf)} (hA : Arr h l 1 (ps.map ssCells)) (hI : In h ssRows ps) (hn : ps.length ≤ 16777216) (hn2 : szD ssRows ps ≤ 16777216) (hl : lim ≤ h.length) (hK : ∀ l' g qs, NewD h g l' 35 1 ssCells ssRows 53 qs → qs.map (·.1) = ps.map (·.1) → K (.lf l') g) : CallT S false 8 [.lf l] h lim K := by
  have hb := hA.bound
  refine CallT_of_body (F := L8) (HasDSS.f8) rfl ?_; unfold L8; dsimp only []
  repeat' (first | (simp (disch := first | omega | assumption | (simp only [List.length_set]; omega) | (simp [*] <;> fail) | assumption) [-Bool.decide_and, -Bool.decide_or, -Bool.not_and, -Bool.not_or, toNat_pred, toNat_succ, wrap64, wr_new, wr_new0, ok_if, ok_ifn, iadV_sl, makeV_int, decT, decF, over_at, *, hA.len, hA.at_, hA.at_', hA.rd, hA.rdIn, hA.rdIn0, hA.rdA, hA.rdInA, hA.rdIn0A]) | (with_reducible refine Gd_split (fun hc => ?_) (fun hc => ?_) <;> (have hc2 := hc; try simp at hc2)) | (with_reducible refine Br_split (fun hc => ?_) (fun hc => ?_) <;> (have hc2 := hc; try simp at hc2)) | (with_reducible refine GdT_split (fun hc => ?_) (fun hc => ?_) <;> (have hc2 := hc; try simp at hc2)) | (with_reducible refine WT_alt ?_ ?_) | omega)
  refine WL_forM 4194064 (by decide +kernel) (ps.length) (fun i a' g => i ≤ ps.length ∧ a' 4 = .lf (.int .i64 i) ∧ ∃ qs : List (List Nat × Lf), qs.map (·.1) = (ps.map (·.1)).take i ∧ Fill h g h.length 35 1 ssCells ssRows 53 ps.length [.nils] qs) (fun i a' h' hi => hi.1) ⟨by omega, by simp, [], by simp, by simpa using Fill.start (h := h) (n := ps.length) (z := [.nils]) rfl⟩ ?_
  rintro i a' g ⟨hi, e4, qs, hq, hF⟩
  have hql := congrArg List.length hq
  rw [List.length_map, List.length_take, List.length_map, Nat.min_eq_left hi] at hql
  subst hql
  have hk := hF.kept
  have hk1 := hk.1
  replace hA := hA.kept hk
  replace hI := hI.kept hk
  by_cases hlt : qs.length < ps.length
  · have hle := szD_get (ro := ssRows) hlt
    repeat' (first | (simp (disch := first | omega | assumption | (simp only [List.length_set]; omega) | (simp [*] <;> fail) | assumption) [-Bool.decide_and, -Bool.decide_or, -Bool.not_and, -Bool.not_or, toNat_pred, toNat_succ, wrap64, wr_new, wr_new0, ok_if, ok_ifn, iadV_sl, makeV_int, decT, decF, over_at, *, hA.len, hA.at_, hA.at_', hA.rd, hA.rdIn, hA.rdIn0, hA.rdA, hA.rdInA, hA.rdIn0A, hA.rd1, ssCells]) | (with_reducible refine Gd_split (fun hc => ?_) (fun hc => ?_) <;> (have hc2 := hc; try simp at hc2)) | (with_reducible refine Br_split (fun hc => ?_) (fun hc => ?_) <;> (have hc2 := hc; try simp at hc2)) | (with_reducible refine GdT_split (fun hc => ?_) (fun hc => ?_) <;> (have hc2 := hc; try simp at hc2)) | (with_reducible refine WT_alt ?_ ?_) | omega)
    refine c_toFloat32S (hI _ hlt) (by omega) (by omega) fun l' g' hN => ?_
    have hk2 := hN.kept.1
    have hA2 := hA.kept hN.kept
    repeat' (first | (simp (disch := first | omega | assumption | (simp only [List.length_set]; omega) | (simp [*] <;> fail) | assumption) [-Bool.decide_and, -Bool.decide_or, -Bool.not_and, -Bool.not_or, toNat_pred, toNat_succ, wrap64, wr_new, wr_new0, ok_if, ok_ifn, iadV_sl, makeV_int, decT, decF, over_at, *, hF.wr1 hN.kept, hA2.len, hA2.at_, hA2.at_', hA2.rd, hA2.rdIn, hA2.rdIn0, hA2.rdA, hA2.rdInA, hA2.rdIn0A, hA2.rd1]) | (with_reducible refine Gd_split (fun hc => ?_) (fun hc => ?_) <;> (have hc2 := hc; try simp at hc2)) | (with_reducible refine Br_split (fun hc => ?_) (fun hc => ?_) <;> (have hc2 := hc; try simp at hc2)) | (with_reducible refine GdT_split (fun hc => ?_) (fun hc => ?_) <;> (have hc2 := hc; try simp at hc2)) | (with_reducible refine WT_alt ?_ ?_) | omega)
    exact ⟨hlt, _, map_take hq hlt, hF.add hN hlt rfl rfl⟩
  · have he : qs.length = ps.length := by omega
    rw [he, ← List.length_map (f := (·.1)) (as := ps), List.take_length] at hq
    repeat' (first | (simp (disch := first | omega | assumption | (simp only [List.length_set]; omega) | (simp [*] <;> fail) | assumption) [-Bool.decide_and, -Bool.decide_or, -Bool.not_and, -Bool.not_or, toNat_pred, toNat_succ, wrap64, wr_new, wr_new0, ok_if, ok_ifn, iadV_sl, makeV_int, decT, decF, over_at, *, hA.len, hA.at_, hA.at_', hA.rd, hA.rdIn, hA.rdIn0, hA.rdA, hA.rdInA, hA.rdIn0A]) | (with_reducible refine Gd_split (fun hc => ?_) (fun hc => ?_) <;> (have hc2 := hc; try simp at hc2)) | (with_reducible refine Br_split (fun hc => ?_) (fun hc => ?_) <;> (have hc2 := hc; try simp at hc2)) | (with_reducible refine GdT_split (fun hc => ?_) (fun hc => ?_) <;> (have hc2 := hc; try simp at hc2)) | (with_reducible refine WT_alt ?_ ?_) | omega)
    exact hK _ _ qs (hF.full he.symm hb) hq

end
section
variable [HasDE S]
theorem c_toEffect {x y : Int} {l : Lf} {xs : List Nat} (hA : Arr h l 1 (xs.map fl)) (hn : xs.length ≤ 16777216) (hl : lim ≤ h.length) (hK : ∀ l' g, New h g l' 53 1 (xs.map fl) → K (.agg [.int .i64 x, .int .i64 y, l']) g) : CallT S false 16 [.agg [.int .i64 x, .int .i64 y, l]] h lim K := by
  refine CallT_of_body (F := L16) (HasDE.f16) rfl ?_; unfold L16; dsimp only []
  repeat' (first | (simp (disch := first | omega | assumption | (simp only [List.length_set]; omega) | (simp [*] <;> fail) | assumption) [-Bool.decide_and, -Bool.decide_or, -Bool.not_and, -Bool.not_or, toNat_pred, toNat_succ, wrap64, wr_new, wr_new0, ok_if, ok_ifn, iadV_sl, makeV_int, decT, decF, over_at, *]) | (with_reducible refine Gd_split (fun hc => ?_) (fun hc => ?_) <;> (have hc2 := hc; try simp at hc2)) | (with_reducible refine Br_split (fun hc => ?_) (fun hc => ?_) <;> (have hc2 := hc; try simp at hc2)) | (with_reducible refine GdT_split (fun hc => ?_) (fun hc => ?_) <;> (have hc2 := hc; try simp at hc2)) | (with_reducible refine WT_alt ?_ ?_) | omega)
  refine c_toFloat32S hA.app hn (by simp; omega) fun l' g hN => ?_
  obtain ⟨t, rfl⟩ := hN.kept.split
  rw [List.append_assoc] at hN
  simp only [List.cons_append, List.nil_append, List.append_assoc] at hN ⊢
  repeat' (first | (simp (disch := first | omega | assumption | (simp only [List.length_set]; omega) | (simp [*] <;> fail) | assumption) [-Bool.decide_and, -Bool.decide_or, -Bool.not_and, -Bool.not_or, toNat_pred, toNat_succ, wrap64, wr_new, wr_new0, ok_if, ok_ifn, iadV_sl, makeV_int, decT, decF, over_at, *]) | (with_reducible refine Gd_split (fun hc => ?_) (fun hc => ?_) <;> (have hc2 := hc; try simp at hc2)) | (with_reducible refine Br_split (fun hc => ?_) (fun hc => ?_) <;> (have hc2 := hc; try simp at hc2)) | (with_reducible refine GdT_split (fun hc => ?_) (fun hc => ?_) <;> (have hc2 := hc; try simp at hc2)) | (with_reducible refine WT_alt ?_ ?_) | omega)
  exact hK _ _ hN.swap3
theorem c_eqEffect {x y : Int} {l l2 : Lf} {xs : List Nat} (hA : Arr h l 1 (xs.map fl)) (hA2 : Arr h l2 1 (xs.map fl)) : CallT S true 20 [.agg [.int .i64 x, .int .i64 y, l], .agg [.int .i64 x, .int .i64 y, l2]] h lim K = K (.lf (.bool true)) h := by
  refine CallT_pure (F := L20) (HasDE.f20) rfl (by first | rfl | (split <;> rfl) | simp) ?_; unfold L20; dsimp only []
  repeat' (first | (simp (disch := first | omega | assumption | (simp only [List.length_set]; omega) | (simp [*] <;> fail) | assumption) [-Bool.decide_and, -Bool.decide_or, -Bool.not_and, -Bool.not_or, toNat_pred, toNat_succ, wrap64, wr_new, wr_new0, ok_if, ok_ifn, iadV_sl, makeV_int, decT, decF, over_at, *, c_eqFloat32S hA.app hA2.app]) | (with_reducible refine Gd_split (fun hc => ?_) (fun hc => ?_) <;> (have hc2 := hc; try simp at hc2)) | (with_reducible refine Br_split (fun hc => ?_) (fun hc => ?_) <;> (have hc2 := hc; try simp at hc2)) | (with_reducible refine GdT_split (fun hc => ?_) (fun hc => ?_) <;> (have hc2 := hc; try simp at hc2)) | (with_reducible refine WT_alt ?_ ?_) | omega)
theorem c_szEffect {x y : Int} {l : Lf} {xs : List Nat} (hA : Arr h l 1 (xs.map fl)) {b : Int} (h1 : 0 ≤ b) (h2 : b ≤ 9223372036854775807) : CallT S true 12 [.agg [.int .i64 x, .int .i64 y, l], .lf (.int .i64 b)] h lim K = K (.lf (.int .i64 (if b < xs.length then -1 else b - xs.length))) h := by
  have hb := hA.bound
  by_cases hlt : b < xs.length
  · have hs := fun K t => c_szFloat32S (S := S) (K := K) (h := h ++ t) (lim := h.length) hA.app h1 h2
    rw [if_pos hlt] at hs ⊢
    refine CallT_pure (F := L12) (HasDE.f12) rfl (by first | rfl | (split <;> rfl) | simp) ?_; unfold L12; dsimp only []
    repeat' (first | (simp (disch := first | omega | assumption | (simp only [List.length_set]; omega) | (simp [*] <;> fail) | assumption) [-Bool.decide_and, -Bool.decide_or, -Bool.not_and, -Bool.not_or, toNat_pred, toNat_succ, wrap64, wr_new, wr_new0, ok_if, ok_ifn, iadV_sl, makeV_int, decT, decF, over_at, *]) | (with_reducible refine Gd_split (fun hc => ?_) (fun hc => ?_) <;> (have hc2 := hc; try simp at hc2)) | (with_reducible refine Br_split (fun hc => ?_) (fun hc => ?_) <;> (have hc2 := hc; try simp at hc2)) | (with_reducible refine GdT_split (fun hc => ?_) (fun hc => ?_) <;> (have hc2 := hc; try simp at hc2)) | (with_reducible refine WT_alt ?_ ?_) | omega)
  · have hs := fun K t => c_szFloat32S (S := S) (K := K) (h := h ++ t) (lim := h.length) hA.app h1 h2
    rw [if_neg hlt] at hs ⊢
    refine CallT_pure (F := L12) (HasDE.f12) rfl (by first | rfl | (split <;> rfl) | simp) ?_; unfold L12; dsimp only []
    repeat' (first | (simp (disch := first | omega | assumption | (simp only [List.length_set]; omega) | (simp [*] <;> fail) | assumption) [-Bool.decide_and, -Bool.decide_or, -Bool.not_and, -Bool.not_or, toNat_pred, toNat_succ, wrap64, wr_new, wr_new0, ok_if, ok_ifn, iadV_sl, makeV_int, decT, decF, over_at, *]) | (with_reducible refine Gd_split (fun hc => ?_) (fun hc => ?_) <;> (have hc2 := hc; try simp at hc2)) | (with_reducible refine Br_split (fun hc => ?_) (fun hc => ?_) <;> (have hc2 := hc; try simp at hc2)) | (with_reducible refine GdT_split (fun hc => ?_) (fun hc => ?_) <;> (have hc2 := hc; try simp at hc2)) | (with_reducible refine WT_alt ?_ ?_) | omega)
theorem c_eqEffectS {l l2 : Lf} {ps qs : List (Eff × Lf)} (hA : Arr h l 3 (ps.map Eff.cells)) (hI : In h Eff.nums ps) (hA2 : Arr h l2 3 (qs.map Eff.cells)) (hI2 : In h Eff.nums qs) (hq : qs.map (·.1) = ps.map (·.1)) : CallT S true 10 [.lf l, .lf l2] h lim K = K (.lf (.bool true)) h := by
  have hb := hA.bound
  have hlen := map_len hq
  refine CallT_pure (F := L10) (HasDE.f10) rfl (by first | rfl | (split <;> rfl) | simp) ?_; unfold L10; dsimp only []
  repeat' (first | (simp (disch := first | omega | assumption | (simp only [List.length_set]; omega) | (simp [*] <;> fail) | assumption) [-Bool.decide_and, -Bool.decide_or, -Bool.not_and, -Bool.not_or, toNat_pred, toNat_succ, wrap64, wr_new, wr_new0, ok_if, ok_ifn, iadV_sl, makeV_int, decT, decF, over_at, *, hA.len, hA.at_, hA.at_', hA.rd, hA.rdIn, hA.rdIn0, hA.rdA, hA.rdInA, hA.rdIn0A, hA2.len, hA2.at_, hA2.at_', hA2.rd, hA2.rdIn, hA2.rdIn0, hA2.rdA, hA2.rdInA, hA2.rdIn0A]) | (with_reducible refine Gd_split (fun hc => ?_) (fun hc => ?_) <;> (have hc2 := hc; try simp at hc2)) | (with_reducible refine Br_split (fun hc => ?_) (fun hc => ?_) <;> (have hc2 := hc; try simp at hc2)) | (with_reducible refine GdT_split (fun hc => ?_) (fun hc => ?_) <;> (have hc2 := hc; try simp at hc2)) | (with_reducible refine WT_alt ?_ ?_) | omega)
  refine WL_for ps.length (fun i a' h' => i ≤ ps.length ∧ a' 0 = .lf l ∧ a' 1 = .lf l2 ∧ a' 5 = .lf (.int .i64 i) ∧ h' = h) (fun i a' h' hi => hi.1) ?_ (by simp)
  rintro i a' h' ⟨hi, e0, e1, e5, rfl⟩
  by_cases hlt : i < ps.length
  · have hlt2 : i < qs.length := by omega
    have e := map_get hq hlt
    have i1 := hI i hlt
    have i2 := hI2 i hlt2
    rw [e] at i2
    repeat' (first | (simp (disch := first | omega | assumption | (simp only [List.length_set]; omega) | (simp [*] <;> fail) | assumption) [-Bool.decide_and, -Bool.decide_or, -Bool.not_and, -Bool.not_or, toNat_pred, toNat_succ, wrap64, wr_new, wr_new0, ok_if, ok_ifn, iadV_sl, makeV_int, decT, decF, over_at, *, hA.len, hA.at_, hA.at_', hA.rd, hA.rdIn, hA.rdIn0, hA.rdA, hA.rdInA, hA.rdIn0A, hA2.len, hA2.at_, hA2.at_', hA2.rd, hA2.rdIn, hA2.rdIn0, hA2.rdA, hA2.rdInA, hA2.rdIn0A, Eff.cells, c_eqEffect (i1) (i2)]) | (with_reducible refine Gd_split (fun hc => ?_) (fun hc => ?_) <;> (have hc2 := hc; try simp at hc2)) | (with_reducible refine Br_split (fun hc => ?_) (fun hc => ?_) <;> (have hc2 := hc; try simp at hc2)) | (with_reducible refine GdT_split (fun hc => ?_) (fun hc => ?_) <;> (have hc2 := hc; try simp at hc2)) | (with_reducible refine WT_alt ?_ ?_) | omega)
  · repeat' (first | (simp (disch := first | omega | assumption | (simp only [List.length_set]; omega) | (simp [*] <;> fail) | assumption) [-Bool.decide_and, -Bool.decide_or, -Bool.not_and, -Bool.not_or, toNat_pred, toNat_succ, wrap64, wr_new, wr_new0, ok_if, ok_ifn, iadV_sl, makeV_int, decT, decF, over_at, *, hA.len, hA.at_, hA.at_', hA.rd, hA.rdIn, hA.rdIn0, hA.rdA, hA.rdInA, hA.rdIn0A, hA2.len, hA2.at_, hA2.at_', hA2.rd, hA2.rdIn, hA2.rdIn0, hA2.rdA, hA2.rdInA, hA2.rdIn0A]) | (with_reducible refine Gd_split (fun hc => ?_) (fun hc => ?_) <;> (have hc2 := hc; try simp at hc2)) | (with_reducible refine Br_split (fun hc => ?_) (fun hc => ?_) <;> (have hc2 := hc; try simp at hc2)) | (with_reducible refine GdT_split (fun hc => ?_) (fun hc => ?_) <;> (have hc2 := hc; try simp at hc2)) | (with_reducible refine WT_alt ?_ ?_) | omega)
theorem c_szEffectS {l : Lf} {ps : List (Eff × Lf)} (hA : Arr h l 3 (ps.map Eff.cells)) (hI : In h Eff.nums ps) {b : Int} (h1 : 0 ≤ b) (h2 : b ≤ 4611686018427387904) : CallT S true 4 [.lf l, .lf (.int .i64 b)] h lim K = K (.lf (.int .i64 (if b < ps.length + szD Eff.nums ps then -1 else b - (ps.length + szD Eff.nums ps)))) h := by
  have hb := hA.bound
  by_cases h0 : b < ps.length
  · rw [if_pos (by omega)]
    refine CallT_pure (F := L4) (HasDE.f4) rfl (by first | rfl | (split <;> rfl) | simp) ?_; unfold L4; dsimp only []
    repeat' (first | (simp (disch := first | omega | assumption | (simp only [List.length_set]; omega) | (simp [*] <;> fail) | assumption) [-Bool.decide_and, -Bool.decide_or, -Bool.not_and, -Bool.not_or, toNat_pred, toNat_succ, wrap64, wr_new, wr_new0, ok_if, ok_ifn, iadV_sl, makeV_int, decT, decF, over_at, *, hA.len, hA.at_, hA.at_', hA.rd, hA.rdIn, hA.rdIn0, hA.rdA, hA.rdInA, hA.rdIn0A]) | (with_reducible refine Gd_split (fun hc => ?_) (fun hc => ?_) <;> (have hc2 := hc; try simp at hc2)) | (with_reducible refine Br_split (fun hc => ?_) (fun hc => ?_) <;> (have hc2 := hc; try simp at hc2)) | (with_reducible refine GdT_split (fun hc => ?_) (fun hc => ?_) <;> (have hc2 := hc; try simp at hc2)) | (with_reducible refine WT_alt ?_ ?_) | omega)
  · refine CallT_pure (F := L4) (HasDE.f4) rfl (by first | rfl | (split <;> rfl) | simp) ?_; unfold L4; dsimp only []
    repeat' (first | (simp (disch := first | omega | assumption | (simp only [List.length_set]; omega) | (simp [*] <;> fail) | assumption) [-Bool.decide_and, -Bool.decide_or, -Bool.not_and, -Bool.not_or, toNat_pred, toNat_succ, wrap64, wr_new, wr_new0, ok_if, ok_ifn, iadV_sl, makeV_int, decT, decF, over_at, *, hA.len, hA.at_, hA.at_', hA.rd, hA.rdIn, hA.rdIn0, hA.rdA, hA.rdInA, hA.rdIn0A]) | (with_reducible refine Gd_split (fun hc => ?_) (fun hc => ?_) <;> (have hc2 := hc; try simp at hc2)) | (with_reducible refine Br_split (fun hc => ?_) (fun hc => ?_) <;> (have hc2 := hc; try simp at hc2)) | (with_reducible refine GdT_split (fun hc => ?_) (fun hc => ?_) <;> (have hc2 := hc; try simp at hc2)) | (with_reducible refine WT_alt ?_ ?_) | omega)
    refine WL_forM 67104818 (by decide +kernel) (ps.length) (fun i a' h' => i ≤ ps.length ∧ szD Eff.nums (ps.take i) ≤ b - ps.length ∧ a' 1 = .lf (.int .i64 (b - ps.length - szD Eff.nums (ps.take i))) ∧ a' 5 = .lf (.int .i64 i) ∧ h = h') (fun i a' h' hi => hi.1) ⟨by omega, by simp [szD]; omega, by simp [szD], by simp, rfl⟩ ?_
    rintro i a' h' ⟨hi, hle, e1, e10, rfl⟩
    by_cases hlt : i < ps.length
    · have hs := szD_take (ro := Eff.nums) hlt
      have hs2 := szD_take_le (ro := Eff.nums) (ps := ps) (i := i + 1)
      have hc := fun K lim => c_szEffect (hI i hlt) (x := ps[i].1.kind) (y := ps[i].1.len) (S := S) (K := K) (lim := lim) (b := b - ps.length - szD Eff.nums (ps.take i)) (by omega) (by omega)
      by_cases hover : b - ps.length - szD Eff.nums (ps.take i) < (Eff.nums ps[i].1).length
      · rw [if_pos (by omega)]
        rw [if_pos hover] at hc
        repeat' (first | (simp (disch := first | omega | assumption | (simp only [List.length_set]; omega) | (simp [*] <;> fail) | assumption) [-Bool.decide_and, -Bool.decide_or, -Bool.not_and, -Bool.not_or, toNat_pred, toNat_succ, wrap64, wr_new, wr_new0, ok_if, ok_ifn, iadV_sl, makeV_int, decT, decF, over_at, *, hA.len, hA.at_, hA.at_', hA.rd, hA.rdIn, hA.rdIn0, hA.rdA, hA.rdInA, hA.rdIn0A, Eff.cells]) | (with_reducible refine Gd_split (fun hc => ?_) (fun hc => ?_) <;> (have hc2 := hc; try simp at hc2)) | (with_reducible refine Br_split (fun hc => ?_) (fun hc => ?_) <;> (have hc2 := hc; try simp at hc2)) | (with_reducible refine GdT_split (fun hc => ?_) (fun hc => ?_) <;> (have hc2 := hc; try simp at hc2)) | (with_reducible refine WT_alt ?_ ?_) | omega)
      · rw [if_neg hover] at hc
        repeat' (first | (simp (disch := first | omega | assumption | (simp only [List.length_set]; omega) | (simp [*] <;> fail) | assumption) [-Bool.decide_and, -Bool.decide_or, -Bool.not_and, -Bool.not_or, toNat_pred, toNat_succ, wrap64, wr_new, wr_new0, ok_if, ok_ifn, iadV_sl, makeV_int, decT, decF, over_at, *, hA.len, hA.at_, hA.at_', hA.rd, hA.rdIn, hA.rdIn0, hA.rdA, hA.rdInA, hA.rdIn0A, Eff.cells]) | (with_reducible refine Gd_split (fun hc => ?_) (fun hc => ?_) <;> (have hc2 := hc; try simp at hc2)) | (with_reducible refine Br_split (fun hc => ?_) (fun hc => ?_) <;> (have hc2 := hc; try simp at hc2)) | (with_reducible refine GdT_split (fun hc => ?_) (fun hc => ?_) <;> (have hc2 := hc; try simp at hc2)) | (with_reducible refine WT_alt ?_ ?_) | omega)
        all_goals exact ⟨hlt, by omega, by omega⟩
    · have : i = ps.length := by omega
      subst this
      rw [List.take_length] at *
      rw [if_neg (by omega), show b - ((ps.length : Int) + (szD Eff.nums ps : Int)) = b - ps.length - szD Eff.nums ps by omega]
      repeat' (first | (simp (disch := first | omega | assumption | (simp only [List.length_set]; omega) | (simp [*] <;> fail) | assumption) [-Bool.decide_and, -Bool.decide_or, -Bool.not_and, -Bool.not_or, toNat_pred, toNat_succ, wrap64, wr_new, wr_new0, ok_if, ok_ifn, iadV_sl, makeV_int, decT, decF, over_at, *, hA.len, hA.at_, hA.at_', hA.rd, hA.rdIn, hA.rdIn0, hA.rdA, hA.rdInA, hA.rdIn0A]) | (with_reducible refine Gd_split (fun hc => ?_) (fun hc => ?_) <;> (have hc2 := hc; try simp at hc2)) | (with_reducible refine Br_split (fun hc => ?_) (fun hc => ?_) <;> (have hc2 := hc; try simp at hc2)) | (with_reducible refine GdT_split (fun hc => ?_) (fun hc => ?_) <;> (have hc2 := hc; try simp at hc2)) | (with_reducible refine WT_alt ?_ ?_) | omega)
theorem c_toEffectS {l : Lf} {ps : List (Eff × Lf)} (hA : Arr h l 3 (ps.map Eff.cells)) (hI : In h Eff.nums ps) (hn : ps.length ≤ 16777216) (hn2 : szD Eff.nums ps ≤ 16777216) (hl : lim ≤ h.length) (hK : ∀ l' g qs, NewD h g l' 41 3 Eff.cells Eff.nums 53 qs → qs.map (·.1) = ps.map (·.1) → K (.lf l') g) : CallT S false 7 [.lf l] h lim K := by
  have hb := hA.bound
  refine CallT_of_body (F := L7) (HasDE.f7) rfl ?_; unfold L7; dsimp only []
  repeat' (first | (simp (disch := first | omega | assumption | (simp only [List.length_set]; omega) | (simp [*] <;> fail) | assumption) [-Bool.decide_and, -Bool.decide_or, -Bool.not_and, -Bool.not_or, toNat_pred, toNat_succ, wrap64, wr_new, wr_new0, ok_if, ok_ifn, iadV_sl, makeV_int, decT, decF, over_at, *, hA.len, hA.at_, hA.at_', hA.rd, hA.rdIn, hA.rdIn0, hA.rdA, hA.rdInA, hA.rdIn0A]) | (with_reducible refine Gd_split (fun hc => ?_) (fun hc => ?_) <;> (have hc2 := hc; try simp at hc2)) | (with_reducible refine Br_split (fun hc => ?_) (fun hc => ?_) <;> (have hc2 := hc; try simp at hc2)) | (with_reducible refine GdT_split (fun hc => ?_) (fun hc => ?_) <;> (have hc2 := hc; try simp at hc2)) | (with_reducible refine WT_alt ?_ ?_) | omega)
  refine WL_forM 4194064 (by decide +kernel) (ps.length) (fun i a' g => i ≤ ps.length ∧ a' 4 = .lf (.int .i64 i) ∧ ∃ qs : List (Eff × Lf), qs.map (·.1) = (ps.map (·.1)).take i ∧ Fill h g h.length 41 3 Eff.cells Eff.nums 53 ps.length [.int .i64 0, .int .i64 0, .nils] qs) (fun i a' h' hi => hi.1) ⟨by omega, by simp, [], by simp, by simpa using Fill.start (h := h) (n := ps.length) (z := [.int .i64 0, .int .i64 0, .nils]) rfl⟩ ?_
  rintro i a' g ⟨hi, e4, qs, hq, hF⟩
  have hql := congrArg List.length hq
  rw [List.length_map, List.length_take, List.length_map, Nat.min_eq_left hi] at hql
  subst hql
  have hk := hF.kept
  have hk1 := hk.1
  replace hA := hA.kept hk
  replace hI := hI.kept hk
  by_cases hlt : qs.length < ps.length
  · have hle := szD_get (ro := Eff.nums) hlt
    repeat' (first | (simp (disch := first | omega | assumption | (simp only [List.length_set]; omega) | (simp [*] <;> fail) | assumption) [-Bool.decide_and, -Bool.decide_or, -Bool.not_and, -Bool.not_or, toNat_pred, toNat_succ, wrap64, wr_new, wr_new0, ok_if, ok_ifn, iadV_sl, makeV_int, decT, decF, over_at, *, hA.len, hA.at_, hA.at_', hA.rd, hA.rdIn, hA.rdIn0, hA.rdA, hA.rdInA, hA.rdIn0A, Eff.cells]) | (with_reducible refine Gd_split (fun hc => ?_) (fun hc => ?_) <;> (have hc2 := hc; try simp at hc2)) | (with_reducible refine Br_split (fun hc => ?_) (fun hc => ?_) <;> (have hc2 := hc; try simp at hc2)) | (with_reducible refine GdT_split (fun hc => ?_) (fun hc => ?_) <;> (have hc2 := hc; try simp at hc2)) | (with_reducible refine WT_alt ?_ ?_) | omega)
    refine c_toEffect (hI _ hlt) (by omega) (by omega) fun l' g' hN => ?_
    have hk2 := hN.kept.1
    have hA2 := hA.kept hN.kept
    repeat' (first | (simp (disch := first | omega | assumption | (simp only [List.length_set]; omega) | (simp [*] <;> fail) | assumption) [-Bool.decide_and, -Bool.decide_or, -Bool.not_and, -Bool.not_or, toNat_pred, toNat_succ, wrap64, wr_new, wr_new0, ok_if, ok_ifn, iadV_sl, makeV_int, decT, decF, over_at, *, hF.wr hN.kept, hA2.len, hA2.at_, hA2.at_', hA2.rd, hA2.rdIn, hA2.rdIn0, hA2.rdA, hA2.rdInA, hA2.rdIn0A]) | (with_reducible refine Gd_split (fun hc => ?_) (fun hc => ?_) <;> (have hc2 := hc; try simp at hc2)) | (with_reducible refine Br_split (fun hc => ?_) (fun hc => ?_) <;> (have hc2 := hc; try simp at hc2)) | (with_reducible refine GdT_split (fun hc => ?_) (fun hc => ?_) <;> (have hc2 := hc; try simp at hc2)) | (with_reducible refine WT_alt ?_ ?_) | omega)
    exact ⟨hlt, _, map_take hq hlt, hF.add hN hlt rfl rfl⟩
  · have he : qs.length = ps.length := by omega
    rw [he, ← List.length_map (f := (·.1)) (as := ps), List.take_length] at hq
    repeat' (first | (simp (disch := first | omega | assumption | (simp only [List.length_set]; omega) | (simp [*] <;> fail) | assumption) [-Bool.decide_and, -Bool.decide_or, -Bool.not_and, -Bool.not_or, toNat_pred, toNat_succ, wrap64, wr_new, wr_new0, ok_if, ok_ifn, iadV_sl, makeV_int, decT, decF, over_at, *, hA.len, hA.at_, hA.at_', hA.rd, hA.rdIn, hA.rdIn0, hA.rdA, hA.rdInA, hA.rdIn0A]) | (with_reducible refine Gd_split (fun hc => ?_) (fun hc => ?_) <;> (have hc2 := hc; try simp at hc2)) | (with_reducible refine Br_split (fun hc => ?_) (fun hc => ?_) <;> (have hc2 := hc; try simp at hc2)) | (with_reducible refine GdT_split (fun hc => ?_) (fun hc => ?_) <;> (have hc2 := hc; try simp at hc2)) | (with_reducible refine WT_alt ?_ ?_) | omega)
    exact hK _ _ qs (hF.full he.symm hb) hq

end
end
end Go.E
