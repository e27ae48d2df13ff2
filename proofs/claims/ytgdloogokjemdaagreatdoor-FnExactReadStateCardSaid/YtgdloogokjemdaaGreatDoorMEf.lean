/- Effects and chains: what is valid. -/
import Derived.Test.YtgdloogokjemdaaGreatDoorMDe
import Derived.Test.YtgdloogokjemdaaGreatDoorMA
set_option linter.unusedVariables false
set_option linter.unusedSimpArgs false
namespace Go.E
open Go
def L49 : LFn := ⟨1, (.seq (.reg [⟨(.some 2), (.mv (.c (.lf (.bool false)))), none⟩])
 (.seq (.reg [⟨(.some 3), (.mv (.c (.lf (.int .i64 0)))), none⟩])
 (.seq (.reg [⟨(.some 4), (.mv (.c (.lf (.int .i64 0)))), none⟩])
 (.seq (.seq (.reg [⟨(.some 7), (.mv (.t 0)), none⟩, ⟨(.some 8), (.nilck (.t 7)), none⟩, ⟨(.some 9), (.faddr 0 (.t 8)), none⟩, ⟨(.some 10), (.load false 1 (.t 9)), none⟩, ⟨(.some 11), (.bin .eql (.t 10) (.c (.lf (.int .i64 2)))), none⟩])
 (.cond (.t 11) (.seq (.reg [⟨(.some 3), (.mv (.c (.lf (.int .i64 1)))), none⟩])
 (.reg [⟨(.some 4), (.mv (.c (.lf (.int .i64 32)))), none⟩])) .skip))
 (.seq (.seq (.reg [⟨(.some 12), (.mv (.t 0)), none⟩, ⟨(.some 13), (.nilck (.t 12)), none⟩, ⟨(.some 14), (.faddr 0 (.t 13)), none⟩, ⟨(.some 15), (.load false 1 (.t 14)), none⟩, ⟨(.some 16), (.bin .eql (.t 15) (.c (.lf (.int .i64 6)))), none⟩])
 (.cond (.t 16) (.reg [⟨(.some 4), (.mv (.c (.lf (.int .i64 32)))), none⟩]) .skip))
 (.seq (.seq (.reg [⟨(.some 17), (.mv (.t 0)), none⟩, ⟨(.some 18), (.nilck (.t 17)), none⟩, ⟨(.some 19), (.faddr 1 (.t 18)), none⟩, ⟨(.some 20), (.load false 1 (.t 19)), none⟩, ⟨(.some 21), (.mv (.t 3)), none⟩, ⟨(.some 22), (.mv (.t 4)), none⟩, ⟨(.some 23), (.call true 48 [(.t 20), (.t 21), (.t 22)]), none⟩, ⟨(.some 24), (.una .not (.t 23)), none⟩])
 (.cond (.t 24) (.seq (.reg [⟨(.some 2), (.mv (.c (.lf (.bool false)))), none⟩])
 .ret) .skip))
 (.seq (.reg [⟨(.some 26), (.mv (.t 0)), none⟩, ⟨(.some 27), (.nilck (.t 26)), none⟩, ⟨(.some 28), (.faddr 0 (.t 27)), none⟩, ⟨(.some 29), (.load false 1 (.t 28)), none⟩, ⟨(.some 30), (.mv (.t 0)), none⟩, ⟨(.some 31), (.nilck (.t 30)), none⟩, ⟨(.some 32), (.faddr 1 (.t 31)), none⟩, ⟨(.some 33), (.load false 1 (.t 32)), none⟩, ⟨(.some 34), (.call true 32 [(.t 29), (.t 33)]), none⟩, ⟨(.some 25), (.mv (.t 34)), none⟩, ⟨(.some 35), (.ext (.t 25) 0), none⟩, ⟨(.some 36), (.ext (.t 25) 1), none⟩, ⟨(.some 5), (.mv (.t 35)), none⟩, ⟨(.some 6), (.mv (.t 36)), none⟩])
 (.seq (.reg [⟨(.some 37), (.mv (.t 0)), none⟩, ⟨(.some 38), (.nilck (.t 37)), none⟩, ⟨(.some 39), (.faddr 2 (.t 38)), none⟩, ⟨(.some 40), (.load false 1 (.t 39)), none⟩, ⟨(.some 41), (.len (.t 40)), none⟩, ⟨(.some 42), (.mv (.t 5)), none⟩, ⟨(.some 43), (.bin .eql (.t 41) (.t 42)), none⟩, ⟨(.some 44), (.mv (.t 43)), none⟩, ⟨(.some 45), (.mv (.t 0)), (.some (44, true))⟩, ⟨(.some 46), (.nilck (.t 45)), (.some (44, true))⟩, ⟨(.some 47), (.faddr 0 (.t 46)), (.some (44, true))⟩, ⟨(.some 48), (.load false 1 (.t 47)), (.some (44, true))⟩, ⟨(.some 49), (.bin .neq (.t 48) (.c (.lf (.int .i64 6)))), (.some (44, true))⟩, ⟨(.some 50), (.mv (.t 49)), (.some (44, true))⟩, ⟨(.some 51), (.mv (.t 0)), (.some (50, false))⟩, ⟨(.some 52), (.nilck (.t 51)), (.some (50, false))⟩, ⟨(.some 53), (.faddr 2 (.t 52)), (.some (50, false))⟩, ⟨(.some 54), (.load false 1 (.t 53)), (.some (50, false))⟩, ⟨(.some 55), (.iaddr 1 (.t 54) (.c (.lf (.int .i64 0)))), (.some (50, false))⟩, ⟨(.some 56), (.load false 1 (.t 55)), (.some (50, false))⟩, ⟨(.some 57), (.call true 67 [(.t 56)]), (.some (50, false))⟩, ⟨(.some 58), (.pick (.t 50) (.c (.lf (.bool true))) (.t 57)), (.some (44, true))⟩, ⟨(.some 59), (.pick (.t 44) (.t 58) (.c (.lf (.bool false)))), none⟩, ⟨(.some 2), (.mv (.t 59)), none⟩])
 .ret)))))))), [(.tmp 2)]⟩
def L32 : LFn := ⟨2, (.seq (.reg [⟨(.some 4), (.mv (.c (.lf (.int .i64 0)))), none⟩, ⟨(.some 5), (.mv (.c (.lf (.int .i64 0)))), none⟩])
 (.seq (.seq (.reg [⟨(.some 6), (.mv (.t 0)), none⟩])
 (.block 0 (.seq (.seq (.reg [⟨(.some 8), (.bin .eql (.t 6) (.c (.lf (.int .i64 0)))), none⟩, ⟨(.some 7), (.mv (.t 8)), none⟩])
 (.cond (.t 7) .skip (.reg [⟨(.some 9), (.bin .eql (.t 6) (.c (.lf (.int .i64 4)))), none⟩, ⟨(.some 7), (.mv (.t 9)), none⟩])))
 (.cond (.t 7) (.seq (.reg [⟨(.some 4), (.mv (.c (.lf (.int .i64 1)))), none⟩, ⟨(.some 5), (.mv (.c (.lf (.int .i64 0)))), none⟩])
 .ret) (.seq (.reg [⟨(.some 11), (.bin .eql (.t 6) (.c (.lf (.int .i64 1)))), none⟩, ⟨(.some 10), (.mv (.t 11)), none⟩])
 (.cond (.t 10) (.seq (.reg [⟨(.some 4), (.mv (.c (.lf (.int .i64 5)))), none⟩, ⟨(.some 5), (.mv (.c (.lf (.int .i64 2)))), none⟩])
 .ret) (.seq (.reg [⟨(.some 13), (.bin .eql (.t 6) (.c (.lf (.int .i64 2)))), none⟩, ⟨(.some 12), (.mv (.t 13)), none⟩])
 (.cond (.t 12) (.seq (.reg [⟨(.some 14), (.mv (.t 1)), none⟩, ⟨(.some 4), (.mv (.c (.lf (.int .i64 2)))), none⟩, ⟨(.some 5), (.mv (.t 14)), none⟩])
 .ret) (.seq (.reg [⟨(.some 16), (.bin .eql (.t 6) (.c (.lf (.int .i64 3)))), none⟩, ⟨(.some 15), (.mv (.t 16)), none⟩])
 (.cond (.t 15) (.seq (.reg [⟨(.some 4), (.mv (.c (.lf (.int .i64 4)))), none⟩, ⟨(.some 5), (.mv (.c (.lf (.int .i64 1)))), none⟩])
 .ret) (.seq (.reg [⟨(.some 18), (.bin .eql (.t 6) (.c (.lf (.int .i64 5)))), none⟩, ⟨(.some 17), (.mv (.t 18)), none⟩])
 (.cond (.t 17) (.seq (.reg [⟨(.some 4), (.mv (.c (.lf (.int .i64 0)))), none⟩, ⟨(.some 5), (.mv (.c (.lf (.int .i64 0)))), none⟩])
 .ret) (.seq (.reg [⟨(.some 20), (.bin .eql (.t 6) (.c (.lf (.int .i64 6)))), none⟩, ⟨(.some 19), (.mv (.t 20)), none⟩])
 (.cond (.t 19) (.seq (.reg [⟨(.some 21), (.mv (.t 1)), none⟩, ⟨(.some 22), (.bin .add (.c (.lf (.int .i64 1))) (.t 21)), none⟩, ⟨(.some 4), (.mv (.c (.lf (.int .i64 2)))), none⟩, ⟨(.some 5), (.mv (.t 22)), none⟩])
 .ret) .skip))))))))))))))
 (.seq (.reg [⟨(.some 4), (.mv (.c (.lf (.int .i64 (-1))))), none⟩, ⟨(.some 5), (.mv (.c (.lf (.int .i64 (-1))))), none⟩])
 .ret))), [(.tmp 4), (.tmp 5)]⟩
def L67 : LFn := ⟨1, (.seq (.reg [⟨(.some 2), (.mv (.c (.lf (.bool false)))), none⟩])
 (.seq (.reg [⟨(.some 3), (.mv (.t 0)), none⟩, ⟨(.some 4), (.call true 82 [(.t 3)]), none⟩, ⟨(.some 5), (.mv (.t 4)), none⟩, ⟨(.some 6), (.mv (.t 0)), (.some (5, true))⟩, ⟨(.some 7), (.bin .gtr (.t 6) (.c (.lf (.flt .f32 0)))), (.some (5, true))⟩, ⟨(.some 8), (.pick (.t 5) (.t 7) (.c (.lf (.bool false)))), none⟩, ⟨(.some 2), (.mv (.t 8)), none⟩])
 .ret)), [(.tmp 2)]⟩
def L82 : LFn := ⟨1, (.seq (.reg [⟨(.some 2), (.mv (.c (.lf (.bool false)))), none⟩])
 (.seq (.reg [⟨(.some 3), (.mv (.t 0)), none⟩, ⟨(.some 4), (.mv (.t 0)), none⟩, ⟨(.some 5), (.bin .sub (.t 3) (.t 4)), none⟩, ⟨(.some 6), (.bin .eql (.t 5) (.c (.lf (.flt .f32 0)))), none⟩, ⟨(.some 2), (.mv (.t 6)), none⟩])
 .ret)), [(.tmp 2)]⟩
def L92 : LFn := ⟨1, (.seq (.reg [⟨(.some 2), (.mv (.c (.lf (.bool false)))), none⟩])
 (.seq (.reg [⟨(.some 3), (.mv (.t 0)), none⟩, ⟨(.some 4), (.mv (.t 0)), none⟩, ⟨(.some 5), (.bin .sub (.t 3) (.t 4)), none⟩, ⟨(.some 6), (.bin .eql (.t 5) (.c (.lf (.flt .f32 0)))), none⟩, ⟨(.some 2), (.mv (.t 6)), none⟩])
 .ret)), [(.tmp 2)]⟩
def L75 : LFn := ⟨1, (.seq (.reg [⟨(.some 2), (.mv (.c (.lf (.bool false)))), none⟩])
 (.seq (.reg [⟨(.some 3), (.mv (.t 0)), none⟩, ⟨(.some 4), (.call true 92 [(.t 3)]), none⟩, ⟨(.some 5), (.mv (.t 4)), none⟩, ⟨(.some 6), (.mv (.t 0)), (.some (5, true))⟩, ⟨(.some 7), (.bin .gtr (.t 6) (.c (.lf (.flt .f32 0)))), (.some (5, true))⟩, ⟨(.some 8), (.pick (.t 5) (.t 7) (.c (.lf (.bool false)))), none⟩, ⟨(.some 2), (.mv (.t 8)), none⟩])
 .ret)), [(.tmp 2)]⟩
def L74 : LFn := ⟨4, (.seq (.reg [⟨(.some 4), (.box 44 (.t 0)), none⟩, ⟨(.some 8), (.mv (.c (.lf (.bool false)))), none⟩])
 (.seq (.reg [⟨(.some 9), (.faddr 1 (.t 4)), none⟩, ⟨(.some 10), (.load false 1 (.t 9)), none⟩, ⟨(.some 11), (.mv (.t 1)), none⟩, ⟨(.some 12), (.mv (.t 2)), none⟩, ⟨(.some 13), (.call true 57 [(.t 10), (.t 11), (.t 12)]), none⟩, ⟨(.some 14), (.mv (.t 13)), none⟩, ⟨(.some 15), (.faddr 2 (.t 4)), (.some (14, true))⟩, ⟨(.some 16), (.load false 1 (.t 15)), (.some (14, true))⟩, ⟨(.some 17), (.len (.t 16)), (.some (14, true))⟩, ⟨(.some 18), (.mv (.t 3)), (.some (14, true))⟩, ⟨(.some 19), (.bin .eql (.t 17) (.t 18)), (.some (14, true))⟩, ⟨(.some 20), (.pick (.t 14) (.t 19) (.c (.lf (.bool false)))), none⟩, ⟨(.some 8), (.mv (.t 20)), none⟩])
 .ret)), [(.tmp 8)]⟩
def L58 : LFn := ⟨1, (.seq (.reg [⟨(.some 1), (.box 44 (.t 0)), none⟩, ⟨(.some 2), (.mv (.c (.lf (.bool false)))), none⟩])
 (.seq (.seq (.reg [⟨(.some 3), (.faddr 0 (.t 1)), none⟩, ⟨(.some 4), (.load false 1 (.t 3)), none⟩])
 (.block 0 (.seq (.seq (.reg [⟨(.some 6), (.bin .eql (.t 4) (.c (.lf (.int .i64 0)))), none⟩, ⟨(.some 5), (.mv (.t 6)), none⟩])
 (.cond (.t 5) .skip (.reg [⟨(.some 7), (.bin .eql (.t 4) (.c (.lf (.int .i64 4)))), none⟩, ⟨(.some 5), (.mv (.t 7)), none⟩])))
 (.cond (.t 5) (.seq (.reg [⟨(.some 8), (.load true 3 (.t 1)), none⟩, ⟨(.some 9), (.call true 74 [(.t 8), (.c (.lf (.int .i64 0))), (.c (.lf (.int .i64 0))), (.c (.lf (.int .i64 1)))]), none⟩, ⟨(.some 2), (.mv (.t 9)), none⟩])
 .ret) (.seq (.reg [⟨(.some 11), (.bin .eql (.t 4) (.c (.lf (.int .i64 1)))), none⟩, ⟨(.some 10), (.mv (.t 11)), none⟩])
 (.cond (.t 10) (.seq (.reg [⟨(.some 12), (.load true 3 (.t 1)), none⟩, ⟨(.some 13), (.call true 74 [(.t 12), (.c (.lf (.int .i64 0))), (.c (.lf (.int .i64 0))), (.c (.lf (.int .i64 5)))]), none⟩, ⟨(.some 2), (.mv (.t 13)), none⟩])
 .ret) (.seq (.reg [⟨(.some 15), (.bin .eql (.t 4) (.c (.lf (.int .i64 2)))), none⟩, ⟨(.some 14), (.mv (.t 15)), none⟩])
 (.cond (.t 14) (.seq (.reg [⟨(.some 16), (.load true 3 (.t 1)), none⟩, ⟨(.some 17), (.call true 74 [(.t 16), (.c (.lf (.int .i64 1))), (.c (.lf (.int .i64 32))), (.c (.lf (.int .i64 2)))]), none⟩, ⟨(.some 2), (.mv (.t 17)), none⟩])
 .ret) (.seq (.reg [⟨(.some 19), (.bin .eql (.t 4) (.c (.lf (.int .i64 3)))), none⟩, ⟨(.some 18), (.mv (.t 19)), none⟩])
 (.cond (.t 18) (.seq (.reg [⟨(.some 20), (.load true 3 (.t 1)), none⟩, ⟨(.some 21), (.call true 74 [(.t 20), (.c (.lf (.int .i64 0))), (.c (.lf (.int .i64 0))), (.c (.lf (.int .i64 4)))]), none⟩, ⟨(.some 2), (.mv (.t 21)), none⟩])
 .ret) (.seq (.reg [⟨(.some 23), (.bin .eql (.t 4) (.c (.lf (.int .i64 5)))), none⟩, ⟨(.some 22), (.mv (.t 23)), none⟩])
 (.cond (.t 22) (.seq (.reg [⟨(.some 24), (.load true 3 (.t 1)), none⟩, ⟨(.some 25), (.call true 74 [(.t 24), (.c (.lf (.int .i64 0))), (.c (.lf (.int .i64 0))), (.c (.lf (.int .i64 0)))]), none⟩, ⟨(.some 2), (.mv (.t 25)), none⟩])
 .ret) (.seq (.reg [⟨(.some 27), (.bin .eql (.t 4) (.c (.lf (.int .i64 6)))), none⟩, ⟨(.some 26), (.mv (.t 27)), none⟩])
 (.cond (.t 26) (.seq (.reg [⟨(.some 28), (.load true 3 (.t 1)), none⟩, ⟨(.some 29), (.call true 74 [(.t 28), (.c (.lf (.int .i64 0))), (.c (.lf (.int .i64 32))), (.c (.lf (.int .i64 2)))]), none⟩, ⟨(.some 30), (.mv (.t 29)), none⟩, ⟨(.some 31), (.faddr 2 (.t 1)), (.some (30, true))⟩, ⟨(.some 32), (.load false 1 (.t 31)), (.some (30, true))⟩, ⟨(.some 33), (.iaddr 1 (.t 32) (.c (.lf (.int .i64 0)))), (.some (30, true))⟩, ⟨(.some 34), (.load false 1 (.t 33)), (.some (30, true))⟩, ⟨(.some 35), (.call true 75 [(.t 34)]), (.some (30, true))⟩, ⟨(.some 36), (.pick (.t 30) (.t 35) (.c (.lf (.bool false)))), none⟩, ⟨(.some 2), (.mv (.t 36)), none⟩])
 .ret) .skip))))))))))))))
 (.seq (.reg [⟨(.some 2), (.mv (.c (.lf (.bool false)))), none⟩])
 .ret))), [(.tmp 2)]⟩
def L28 : LFn := ⟨1, (.seq (.reg [⟨(.some 2), (.mv (.c (.lf (.bool false)))), none⟩])
 (.seq (.seq (.reg [⟨(.some 3), (.mv (.c (.lf (.int .i64 0)))), none⟩])
 (.block 0 (.loop (.seq (.seq (.reg [⟨(.some 4), (.mv (.t 3)), none⟩, ⟨(.some 5), (.mv (.t 0)), none⟩, ⟨(.some 6), (.len (.t 5)), none⟩, ⟨(.some 7), (.bin .lss (.t 4) (.t 6)), none⟩, ⟨(.some 8), (.mv (.t 7)), none⟩, ⟨(.some 9), (.mv (.t 0)), (.some (8, true))⟩, ⟨(.some 10), (.len (.t 9)), (.some (8, true))⟩, ⟨(.some 11), (.bin .leq (.t 10) (.c (.lf (.int .i64 8)))), (.some (8, true))⟩, ⟨(.some 12), (.pick (.t 8) (.t 11) (.c (.lf (.bool false)))), none⟩])
 (.cond (.t 12) .skip (.exit 0)))
 (.seq (.block 1 (.seq (.reg [⟨(.some 15), (.mv (.t 0)), none⟩, ⟨(.some 16), (.mv (.t 3)), none⟩, ⟨(.some 17), (.iaddr 3 (.t 15) (.t 16)), none⟩, ⟨(.some 18), (.call true 49 [(.t 17)]), none⟩, ⟨(.some 19), (.una .not (.t 18)), none⟩])
 (.cond (.t 19) (.seq (.reg [⟨(.some 2), (.mv (.c (.lf (.bool false)))), none⟩])
 .ret) .skip)))
 (.reg [⟨(.some 13), (.mv (.t 3)), none⟩, ⟨(.some 14), (.bin .add (.t 13) (.c (.lf (.int .i64 1)))), none⟩, ⟨(.some 3), (.mv (.t 14)), none⟩]))))))
 (.seq (.reg [⟨(.some 20), (.mv (.t 0)), none⟩, ⟨(.some 21), (.len (.t 20)), none⟩, ⟨(.some 22), (.bin .leq (.t 21) (.c (.lf (.int .i64 8)))), none⟩, ⟨(.some 2), (.mv (.t 22)), none⟩])
 .ret))), [(.tmp 2)]⟩
def L38 : LFn := ⟨1, (.seq (.reg [⟨(.some 2), (.mv (.c (.lf (.bool false)))), none⟩])
 (.seq (.seq (.reg [⟨(.some 5), (.mv (.t 0)), none⟩, ⟨(.some 6), (.len (.t 5)), none⟩, ⟨(.some 7), (.bin .gtr (.t 6) (.c (.lf (.int .i64 8)))), none⟩])
 (.cond (.t 7) (.seq (.reg [⟨(.some 2), (.mv (.c (.lf (.bool false)))), none⟩])
 .ret) .skip))
 (.seq (.seq (.reg [⟨(.some 8), (.mv (.t 0)), none⟩, ⟨(.some 9), (.len (.t 8)), none⟩, ⟨(.some 10), (.mv (.c (.lf (.int .i64 0)))), none⟩])
 (.block 0 (.loop (.seq (.reg [⟨(.some 11), (.bin .lss (.t 10) (.t 9)), none⟩])
 (.seq (.cond (.t 11) .skip (.exit 0))
 (.seq (.block 1 (.seq (.reg [⟨(.some 12), (.iaddr 3 (.t 8) (.t 10)), none⟩, ⟨(.some 13), (.load true 3 (.t 12)), none⟩, ⟨(.some 4), (.alloc 44 [(.int .i64 0), (.int .i64 0), .nils]), none⟩, ⟨none, (.store 3 (.t 4) (.t 13)), none⟩])
 (.seq (.reg [⟨(.some 14), (.load true 3 (.t 4)), none⟩, ⟨(.some 15), (.call true 58 [(.t 14)]), none⟩, ⟨(.some 16), (.una .not (.t 15)), none⟩])
 (.cond (.t 16) (.seq (.reg [⟨(.some 2), (.mv (.c (.lf (.bool false)))), none⟩])
 .ret) .skip))))
 (.reg [⟨(.some 17), (.bin .add (.t 10) (.c (.lf (.int .i64 1)))), none⟩, ⟨(.some 10), (.mv (.t 17)), none⟩])))))))
 (.seq (.reg [⟨(.some 2), (.mv (.c (.lf (.bool true)))), none⟩])
 .ret)))), [(.tmp 2)]⟩
class HasEf (S : Sys) : Prop extends HasA S where
  f49 : S.fs 49 = some L49
  f32 : S.fs 32 = some L32
  f67 : S.fs 67 = some L67
  f82 : S.fs 82 = some L82
  f92 : S.fs 92 = some L92
  f75 : S.fs 75 = some L75
  f74 : S.fs 74 = some L74
  f58 : S.fs 58 = some L58
  f28 : S.fs 28 = some L28
  f38 : S.fs 38 = some L38
def limB (x : Nat) : Bool := fcmp .eql .f32 (fbin .sub .f32 x x) 0 && fcmp .gtr .f32 x 0
/-- How many numbers an effect of a kind has. -/
def cntE (k : Int) : Int := if k = 0 ∨ k = 4 then 1 else if k = 1 then 5 else if k = 2 then 2 else if k = 3 then 4 else if k = 5 then 0 else if k = 6 then 2 else -1
/-- How long an effect's state is. -/
def stE (k n : Int) : Int := if k = 0 ∨ k = 4 then 0 else if k = 1 then 2 else if k = 2 then n else if k = 3 then 1 else if k = 5 then 0 else if k = 6 then 1 + n else -1
def effOk (e : Eff) : Prop := ((if e.kind = 2 then 1 else 0) ≤ e.len ∧ e.len ≤ (if e.kind = 2 ∨ e.kind = 6 then 32 else 0)) ∧ (e.nums.length : Int) = cntE e.kind ∧ (e.kind = 6 → limB (e.nums.getD 0 0) = true)
noncomputable instance (e : Eff) : Decidable (effOk e) := Classical.propDecidable _
def isCh (es : List Eff) : Prop := es.length ≤ 8 ∧ ∀ e ∈ es, effOk e
noncomputable instance (es : List Eff) : Decidable (isCh es) := Classical.propDecidable _
theorem not_isCh {ps : List (Eff × Lf)} {i : Nat} (hi : i < ps.length) (h1 : ¬ effOk ps[i].1) : ¬ isCh (ps.map (·.1)) := fun h => upto.not hi h1 h.2
theorem all_isCh {ps : List (Eff × Lf)} (hn : ps.length ≤ 8) (h1 : upto effOk ps ps.length) : isCh (ps.map (·.1)) := ⟨by simpa using hn, h1.all⟩
theorem long_isCh {ps : List (Eff × Lf)} (hn : ¬ ps.length ≤ 8) : ¬ isCh (ps.map (·.1)) := fun h => hn (by simpa using h.1)
theorem kinds (k : Int) : k = 0 ∨ k = 4 ∨ k = 1 ∨ k = 2 ∨ k = 3 ∨ k = 5 ∨ k = 6 ∨ (k ≠ 0 ∧ k ≠ 4 ∧ k ≠ 1 ∧ k ≠ 2 ∧ k ≠ 3 ∧ k ≠ 5 ∧ k ≠ 6) := by omega
section
variable {S : Sys} {lim : Nat} {h : Hp} {K : CV → Hp → Prop} [HasEf S] {l : Lf}
@[simp] theorem c_l04Limit {x : Nat} : CallT S true 67 [.lf (.flt .f32 x)] h lim K = K (.lf (.bool (limB x))) h := by
  have e : ∀ h lim K, CallT S true 82 [.lf (.flt .f32 x)] h lim K = K (.lf (.bool (fcmp .eql .f32 (fbin .sub .f32 x x) 0))) h := by
    intro h lim K
    refine CallT_pure (F := L82) (HasEf.f82) rfl (by first | rfl | (split <;> rfl) | simp) ?_; unfold L82; dsimp only []
    repeat' (first | (simp (disch := first | omega | assumption | (simp only [List.length_set]; omega) | (simp [*] <;> fail) | assumption) [-Bool.decide_and, -Bool.decide_or, -Bool.not_and, -Bool.not_or, toNat_pred, toNat_succ, wrap64, wr_new, wr_new0, ok_if, ok_ifn, iadV_sl, makeV_int, decT, decF, over_at, *]) | (with_reducible refine Gd_split (fun hc => ?_) (fun hc => ?_) <;> (have hc2 := hc; try simp at hc2)) | (with_reducible refine Br_split (fun hc => ?_) (fun hc => ?_) <;> (have hc2 := hc; try simp at hc2)) | (with_reducible refine GdT_split (fun hc => ?_) (fun hc => ?_) <;> (have hc2 := hc; try simp at hc2)) | (with_reducible refine WT_alt ?_ ?_) | omega)
  unfold limB
  refine CallT_pure (F := L67) (HasEf.f67) rfl (by first | rfl | (split <;> rfl) | simp) ?_; unfold L67; dsimp only []
  repeat' (first | (simp (disch := first | omega | assumption | (simp only [List.length_set]; omega) | (simp [*] <;> fail) | assumption) [-Bool.decide_and, -Bool.decide_or, -Bool.not_and, -Bool.not_or, toNat_pred, toNat_succ, wrap64, wr_new, wr_new0, ok_if, ok_ifn, iadV_sl, makeV_int, decT, decF, over_at, *]) | (with_reducible refine Gd_split (fun hc => ?_) (fun hc => ?_) <;> (have hc2 := hc; try simp at hc2)) | (with_reducible refine Br_split (fun hc => ?_) (fun hc => ?_) <;> (have hc2 := hc; try simp at hc2)) | (with_reducible refine GdT_split (fun hc => ?_) (fun hc => ?_) <;> (have hc2 := hc; try simp at hc2)) | (with_reducible refine WT_alt ?_ ?_) | omega)
@[simp] theorem c_isLimit {x : Nat} : CallT S true 75 [.lf (.flt .f32 x)] h lim K = K (.lf (.bool (limB x))) h := by
  have e : ∀ h lim K, CallT S true 92 [.lf (.flt .f32 x)] h lim K = K (.lf (.bool (fcmp .eql .f32 (fbin .sub .f32 x x) 0))) h := by
    intro h lim K
    refine CallT_pure (F := L92) (HasEf.f92) rfl (by first | rfl | (split <;> rfl) | simp) ?_; unfold L92; dsimp only []
    repeat' (first | (simp (disch := first | omega | assumption | (simp only [List.length_set]; omega) | (simp [*] <;> fail) | assumption) [-Bool.decide_and, -Bool.decide_or, -Bool.not_and, -Bool.not_or, toNat_pred, toNat_succ, wrap64, wr_new, wr_new0, ok_if, ok_ifn, iadV_sl, makeV_int, decT, decF, over_at, *]) | (with_reducible refine Gd_split (fun hc => ?_) (fun hc => ?_) <;> (have hc2 := hc; try simp at hc2)) | (with_reducible refine Br_split (fun hc => ?_) (fun hc => ?_) <;> (have hc2 := hc; try simp at hc2)) | (with_reducible refine GdT_split (fun hc => ?_) (fun hc => ?_) <;> (have hc2 := hc; try simp at hc2)) | (with_reducible refine WT_alt ?_ ?_) | omega)
  unfold limB
  refine CallT_pure (F := L75) (HasEf.f75) rfl (by first | rfl | (split <;> rfl) | simp) ?_; unfold L75; dsimp only []
  repeat' (first | (simp (disch := first | omega | assumption | (simp only [List.length_set]; omega) | (simp [*] <;> fail) | assumption) [-Bool.decide_and, -Bool.decide_or, -Bool.not_and, -Bool.not_or, toNat_pred, toNat_succ, wrap64, wr_new, wr_new0, ok_if, ok_ifn, iadV_sl, makeV_int, decT, decF, over_at, *]) | (with_reducible refine Gd_split (fun hc => ?_) (fun hc => ?_) <;> (have hc2 := hc; try simp at hc2)) | (with_reducible refine Br_split (fun hc => ?_) (fun hc => ?_) <;> (have hc2 := hc; try simp at hc2)) | (with_reducible refine GdT_split (fun hc => ?_) (fun hc => ?_) <;> (have hc2 := hc; try simp at hc2)) | (with_reducible refine WT_alt ?_ ?_) | omega)
theorem c_l08Counts {k n : Int} (hn : -1000 ≤ n ∧ n ≤ 1000) : CallT S true 32 [.lf (.int .i64 k), .lf (.int .i64 n)] h lim K = K (.tup [.lf (.int .i64 (cntE k)), .lf (.int .i64 (stE k n))]) h := by
  rcases kinds k with rfl | rfl | rfl | rfl | rfl | rfl | rfl | ⟨k0, k4, k1, k2, k3, k5, k6⟩
  all_goals (simp only [cntE, stE]; refine CallT_pure (F := L32) (HasEf.f32) rfl (by first | rfl | (split <;> rfl) | simp) ?_; unfold L32; dsimp only []; repeat' (first | (simp (disch := first | omega | assumption | (simp only [List.length_set]; omega) | (simp [*] <;> fail) | assumption) [-Bool.decide_and, -Bool.decide_or, -Bool.not_and, -Bool.not_or, toNat_pred, toNat_succ, wrap64, wr_new, wr_new0, ok_if, ok_ifn, iadV_sl, makeV_int, decT, decF, over_at, *]) | (with_reducible refine Gd_split (fun hc => ?_) (fun hc => ?_) <;> (have hc2 := hc; try simp at hc2)) | (with_reducible refine Br_split (fun hc => ?_) (fun hc => ?_) <;> (have hc2 := hc; try simp at hc2)) | (with_reducible refine GdT_split (fun hc => ?_) (fun hc => ?_) <;> (have hc2 := hc; try simp at hc2)) | (with_reducible refine WT_alt ?_ ?_) | omega))
set_option maxHeartbeats 2000000 in
theorem c_l08Effect {id off : Nat} {e : Eff} (hr : ∀ t : Hp, rdCells (h ++ t) id off 3 = some (Eff.cells (e, l))) (hA : Arr h l 1 (e.nums.map fl)) : CallT S true 49 [.lf (.ptr id off)] h lim K = K (.lf (.bool (decide (effOk e)))) h := by
  obtain ⟨k, n, xs⟩ := e
  have hr0 := hr []
  rw [List.append_nil] at hr0
  have r0 : rdCells h id off 1 = some [.int .i64 k] := by have := rd_sub hr0 (j := 0) (m := 1) (by omega); simpa [Eff.cells] using this
  have r1 : rdCells h id (off + 1) 1 = some [.int .i64 n] := by have := rd_sub hr0 (j := 1) (m := 1) (by omega); simpa [Eff.cells] using this
  have r2 : rdCells h id (off + 2) 1 = some [l] := by have := rd_sub hr0 (j := 2) (m := 1) (by omega); simpa [Eff.cells] using this
  clear hr hr0
  simp only at hA
  by_cases hw : (if k = 2 then 1 else 0) ≤ n ∧ n ≤ (if k = 2 ∨ k = 6 then 32 else 0)
  · have hn : -1000 ≤ n ∧ n ≤ 1000 := by
      obtain ⟨w1, w2⟩ := hw
      split at w1 <;> split at w2 <;> omega
    by_cases hc : (xs.length : Int) = cntE k
    · by_cases h6 : k = 6
      · subst h6
        simp only [cntE] at hc
        simp at hc
        have hx : 0 < xs.length := by omega
        have hg : xs.getD 0 0 = xs[0] := by simp [hx]
        have he : effOk ⟨6, n, xs⟩ ↔ limB xs[0] = true := by
          unfold effOk
          simp only [hg]
          refine ⟨fun q => q.2.2 trivial, fun q => ⟨hw, by simpa [cntE] using hc, fun _ => q⟩⟩
        have hcn : CallT S true 32 [.lf (.int .i64 6), .lf (.int .i64 n)] = fun h lim K => K (.tup [.lf (.int .i64 2), .lf (.int .i64 (1 + n))]) h := by
          funext h lim K
          exact c_l08Counts hn
        simp at hw
        cases hlb : limB xs[0]
        · have hd : decide (effOk ⟨6, n, xs⟩) = false := by rw [decide_eq_false_iff_not, he, hlb]; simp
          rw [hd]
          refine CallT_pure (F := L49) (HasEf.f49) rfl (by first | rfl | (split <;> rfl) | simp) ?_; unfold L49; dsimp only []
          repeat' (first | (simp (disch := first | omega | assumption | (simp only [List.length_set]; omega) | (simp [*] <;> fail) | assumption) [-Bool.decide_and, -Bool.decide_or, -Bool.not_and, -Bool.not_or, toNat_pred, toNat_succ, wrap64, wr_new, wr_new0, ok_if, ok_ifn, iadV_sl, makeV_int, decT, decF, over_at, *, hA.len, hA.at_, hA.at_', hA.rd, hA.rdIn, hA.rdIn0, hA.rdA, hA.rdInA, hA.rdIn0A, hA.at0, hA.rd0, hA.rd0j, hA.rd0A, hA.rd0jA, fl]) | (with_reducible refine Gd_split (fun hc => ?_) (fun hc => ?_) <;> (have hc2 := hc; try simp at hc2)) | (with_reducible refine Br_split (fun hc => ?_) (fun hc => ?_) <;> (have hc2 := hc; try simp at hc2)) | (with_reducible refine GdT_split (fun hc => ?_) (fun hc => ?_) <;> (have hc2 := hc; try simp at hc2)) | (with_reducible refine WT_alt ?_ ?_) | omega)
        · have hd : decide (effOk ⟨6, n, xs⟩) = true := by rw [decide_eq_true_eq, he, hlb]
          rw [hd]
          refine CallT_pure (F := L49) (HasEf.f49) rfl (by first | rfl | (split <;> rfl) | simp) ?_; unfold L49; dsimp only []
          repeat' (first | (simp (disch := first | omega | assumption | (simp only [List.length_set]; omega) | (simp [*] <;> fail) | assumption) [-Bool.decide_and, -Bool.decide_or, -Bool.not_and, -Bool.not_or, toNat_pred, toNat_succ, wrap64, wr_new, wr_new0, ok_if, ok_ifn, iadV_sl, makeV_int, decT, decF, over_at, *, hA.len, hA.at_, hA.at_', hA.rd, hA.rdIn, hA.rdIn0, hA.rdA, hA.rdInA, hA.rdIn0A, hA.at0, hA.rd0, hA.rd0j, hA.rd0A, hA.rd0jA, fl]) | (with_reducible refine Gd_split (fun hc => ?_) (fun hc => ?_) <;> (have hc2 := hc; try simp at hc2)) | (with_reducible refine Br_split (fun hc => ?_) (fun hc => ?_) <;> (have hc2 := hc; try simp at hc2)) | (with_reducible refine GdT_split (fun hc => ?_) (fun hc => ?_) <;> (have hc2 := hc; try simp at hc2)) | (with_reducible refine WT_alt ?_ ?_) | omega)
      · have he : effOk ⟨k, n, xs⟩ := ⟨hw, hc, fun q => absurd q h6⟩
        have hd : decide (effOk ⟨k, n, xs⟩) = true := decide_eq_true he
        rw [hd]
        have hcn := fun h lim K => c_l08Counts (S := S) (h := h) (lim := lim) (K := K) (k := k) hn
        rw [← hc] at hcn
        by_cases k2 : k = 2
        · subst k2
          simp at hw
          refine CallT_pure (F := L49) (HasEf.f49) rfl (by first | rfl | (split <;> rfl) | simp) ?_; unfold L49; dsimp only []
          repeat' (first | (simp (disch := first | omega | assumption | (simp only [List.length_set]; omega) | (simp [*] <;> fail) | assumption) [-Bool.decide_and, -Bool.decide_or, -Bool.not_and, -Bool.not_or, toNat_pred, toNat_succ, wrap64, wr_new, wr_new0, ok_if, ok_ifn, iadV_sl, makeV_int, decT, decF, over_at, *, hA.len, hA.at_, hA.at_', hA.rd, hA.rdIn, hA.rdIn0, hA.rdA, hA.rdInA, hA.rdIn0A]) | (with_reducible refine Gd_split (fun hc => ?_) (fun hc => ?_) <;> (have hc2 := hc; try simp at hc2)) | (with_reducible refine Br_split (fun hc => ?_) (fun hc => ?_) <;> (have hc2 := hc; try simp at hc2)) | (with_reducible refine GdT_split (fun hc => ?_) (fun hc => ?_) <;> (have hc2 := hc; try simp at hc2)) | (with_reducible refine WT_alt ?_ ?_) | omega)
        · simp [k2, h6] at hw
          refine CallT_pure (F := L49) (HasEf.f49) rfl (by first | rfl | (split <;> rfl) | simp) ?_; unfold L49; dsimp only []
          repeat' (first | (simp (disch := first | omega | assumption | (simp only [List.length_set]; omega) | (simp [*] <;> fail) | assumption) [-Bool.decide_and, -Bool.decide_or, -Bool.not_and, -Bool.not_or, toNat_pred, toNat_succ, wrap64, wr_new, wr_new0, ok_if, ok_ifn, iadV_sl, makeV_int, decT, decF, over_at, *, hA.len, hA.at_, hA.at_', hA.rd, hA.rdIn, hA.rdIn0, hA.rdA, hA.rdInA, hA.rdIn0A]) | (with_reducible refine Gd_split (fun hc => ?_) (fun hc => ?_) <;> (have hc2 := hc; try simp at hc2)) | (with_reducible refine Br_split (fun hc => ?_) (fun hc => ?_) <;> (have hc2 := hc; try simp at hc2)) | (with_reducible refine GdT_split (fun hc => ?_) (fun hc => ?_) <;> (have hc2 := hc; try simp at hc2)) | (with_reducible refine WT_alt ?_ ?_) | omega)
    · have hd : decide (effOk ⟨k, n, xs⟩) = false := by rw [decide_eq_false_iff_not]; exact fun q => hc q.2.1
      rw [hd]
      have hcn := fun h lim K => c_l08Counts (S := S) (h := h) (lim := lim) (K := K) (k := k) hn
      generalize cntE k = c at *
      by_cases k2 : k = 2
      · subst k2
        simp at hw
        refine CallT_pure (F := L49) (HasEf.f49) rfl (by first | rfl | (split <;> rfl) | simp) ?_; unfold L49; dsimp only []
        repeat' (first | (simp (disch := first | omega | assumption | (simp only [List.length_set]; omega) | (simp [*] <;> fail) | assumption) [-Bool.decide_and, -Bool.decide_or, -Bool.not_and, -Bool.not_or, toNat_pred, toNat_succ, wrap64, wr_new, wr_new0, ok_if, ok_ifn, iadV_sl, makeV_int, decT, decF, over_at, *, hA.len, hA.at_, hA.at_', hA.rd, hA.rdIn, hA.rdIn0, hA.rdA, hA.rdInA, hA.rdIn0A]) | (with_reducible refine Gd_split (fun hc => ?_) (fun hc => ?_) <;> (have hc2 := hc; try simp at hc2)) | (with_reducible refine Br_split (fun hc => ?_) (fun hc => ?_) <;> (have hc2 := hc; try simp at hc2)) | (with_reducible refine GdT_split (fun hc => ?_) (fun hc => ?_) <;> (have hc2 := hc; try simp at hc2)) | (with_reducible refine WT_alt ?_ ?_) | omega)
      · by_cases k6 : k = 6
        · subst k6
          simp at hw
          refine CallT_pure (F := L49) (HasEf.f49) rfl (by first | rfl | (split <;> rfl) | simp) ?_; unfold L49; dsimp only []
          repeat' (first | (simp (disch := first | omega | assumption | (simp only [List.length_set]; omega) | (simp [*] <;> fail) | assumption) [-Bool.decide_and, -Bool.decide_or, -Bool.not_and, -Bool.not_or, toNat_pred, toNat_succ, wrap64, wr_new, wr_new0, ok_if, ok_ifn, iadV_sl, makeV_int, decT, decF, over_at, *, hA.len, hA.at_, hA.at_', hA.rd, hA.rdIn, hA.rdIn0, hA.rdA, hA.rdInA, hA.rdIn0A]) | (with_reducible refine Gd_split (fun hc => ?_) (fun hc => ?_) <;> (have hc2 := hc; try simp at hc2)) | (with_reducible refine Br_split (fun hc => ?_) (fun hc => ?_) <;> (have hc2 := hc; try simp at hc2)) | (with_reducible refine GdT_split (fun hc => ?_) (fun hc => ?_) <;> (have hc2 := hc; try simp at hc2)) | (with_reducible refine WT_alt ?_ ?_) | omega)
        · simp [k2, k6] at hw
          refine CallT_pure (F := L49) (HasEf.f49) rfl (by first | rfl | (split <;> rfl) | simp) ?_; unfold L49; dsimp only []
          repeat' (first | (simp (disch := first | omega | assumption | (simp only [List.length_set]; omega) | (simp [*] <;> fail) | assumption) [-Bool.decide_and, -Bool.decide_or, -Bool.not_and, -Bool.not_or, toNat_pred, toNat_succ, wrap64, wr_new, wr_new0, ok_if, ok_ifn, iadV_sl, makeV_int, decT, decF, over_at, *, hA.len, hA.at_, hA.at_', hA.rd, hA.rdIn, hA.rdIn0, hA.rdA, hA.rdInA, hA.rdIn0A]) | (with_reducible refine Gd_split (fun hc => ?_) (fun hc => ?_) <;> (have hc2 := hc; try simp at hc2)) | (with_reducible refine Br_split (fun hc => ?_) (fun hc => ?_) <;> (have hc2 := hc; try simp at hc2)) | (with_reducible refine GdT_split (fun hc => ?_) (fun hc => ?_) <;> (have hc2 := hc; try simp at hc2)) | (with_reducible refine WT_alt ?_ ?_) | omega)
  · have hd : decide (effOk ⟨k, n, xs⟩) = false := by rw [decide_eq_false_iff_not]; exact fun q => hw q.1
    rw [hd]
    by_cases k2 : k = 2
    · subst k2
      simp at hw
      refine CallT_pure (F := L49) (HasEf.f49) rfl (by first | rfl | (split <;> rfl) | simp) ?_; unfold L49; dsimp only []
      repeat' (first | (simp (disch := first | omega | assumption | (simp only [List.length_set]; omega) | (simp [*] <;> fail) | assumption) [-Bool.decide_and, -Bool.decide_or, -Bool.not_and, -Bool.not_or, toNat_pred, toNat_succ, wrap64, wr_new, wr_new0, ok_if, ok_ifn, iadV_sl, makeV_int, decT, decF, over_at, *, hA.len, hA.at_, hA.at_', hA.rd, hA.rdIn, hA.rdIn0, hA.rdA, hA.rdInA, hA.rdIn0A]) | (with_reducible refine Gd_split (fun hc => ?_) (fun hc => ?_) <;> (have hc2 := hc; try simp at hc2)) | (with_reducible refine Br_split (fun hc => ?_) (fun hc => ?_) <;> (have hc2 := hc; try simp at hc2)) | (with_reducible refine GdT_split (fun hc => ?_) (fun hc => ?_) <;> (have hc2 := hc; try simp at hc2)) | (with_reducible refine WT_alt ?_ ?_) | omega)
    · by_cases k6 : k = 6
      · subst k6
        simp at hw
        refine CallT_pure (F := L49) (HasEf.f49) rfl (by first | rfl | (split <;> rfl) | simp) ?_; unfold L49; dsimp only []
        repeat' (first | (simp (disch := first | omega | assumption | (simp only [List.length_set]; omega) | (simp [*] <;> fail) | assumption) [-Bool.decide_and, -Bool.decide_or, -Bool.not_and, -Bool.not_or, toNat_pred, toNat_succ, wrap64, wr_new, wr_new0, ok_if, ok_ifn, iadV_sl, makeV_int, decT, decF, over_at, *, hA.len, hA.at_, hA.at_', hA.rd, hA.rdIn, hA.rdIn0, hA.rdA, hA.rdInA, hA.rdIn0A]) | (with_reducible refine Gd_split (fun hc => ?_) (fun hc => ?_) <;> (have hc2 := hc; try simp at hc2)) | (with_reducible refine Br_split (fun hc => ?_) (fun hc => ?_) <;> (have hc2 := hc; try simp at hc2)) | (with_reducible refine GdT_split (fun hc => ?_) (fun hc => ?_) <;> (have hc2 := hc; try simp at hc2)) | (with_reducible refine WT_alt ?_ ?_) | omega)
      · simp [k2, k6] at hw
        refine CallT_pure (F := L49) (HasEf.f49) rfl (by first | rfl | (split <;> rfl) | simp) ?_; unfold L49; dsimp only []
        repeat' (first | (simp (disch := first | omega | assumption | (simp only [List.length_set]; omega) | (simp [*] <;> fail) | assumption) [-Bool.decide_and, -Bool.decide_or, -Bool.not_and, -Bool.not_or, toNat_pred, toNat_succ, wrap64, wr_new, wr_new0, ok_if, ok_ifn, iadV_sl, makeV_int, decT, decF, over_at, *, hA.len, hA.at_, hA.at_', hA.rd, hA.rdIn, hA.rdIn0, hA.rdA, hA.rdInA, hA.rdIn0A]) | (with_reducible refine Gd_split (fun hc => ?_) (fun hc => ?_) <;> (have hc2 := hc; try simp at hc2)) | (with_reducible refine Br_split (fun hc => ?_) (fun hc => ?_) <;> (have hc2 := hc; try simp at hc2)) | (with_reducible refine GdT_split (fun hc => ?_) (fun hc => ?_) <;> (have hc2 := hc; try simp at hc2)) | (with_reducible refine WT_alt ?_ ?_) | omega)
theorem c_has {k n p q m : Int} {xs : List Nat} (hA : Arr h l 1 (xs.map fl)) : CallT S true 74 [.agg [.int .i64 k, .int .i64 n, l], .lf (.int .i64 p), .lf (.int .i64 q), .lf (.int .i64 m)] h lim K = K (.lf (.bool (decide ((p ≤ n ∧ n ≤ q) ∧ (xs.length : Int) = m)))) h := by
  have hA' := hA.len
  refine CallT_pure (F := L74) (HasEf.f74) rfl (by first | rfl | (split <;> rfl) | simp) ?_; unfold L74; dsimp only []
  repeat' (first | (simp (disch := first | omega | assumption | (simp only [List.length_set]; omega) | (simp [*] <;> fail) | assumption) [-Bool.decide_and, -Bool.decide_or, -Bool.not_and, -Bool.not_or, toNat_pred, toNat_succ, wrap64, wr_new, wr_new0, ok_if, ok_ifn, iadV_sl, makeV_int, decT, decF, over_at, *]) | (with_reducible refine Gd_split (fun hc => ?_) (fun hc => ?_) <;> (have hc2 := hc; try simp at hc2)) | (with_reducible refine Br_split (fun hc => ?_) (fun hc => ?_) <;> (have hc2 := hc; try simp at hc2)) | (with_reducible refine GdT_split (fun hc => ?_) (fun hc => ?_) <;> (have hc2 := hc; try simp at hc2)) | (with_reducible refine WT_alt ?_ ?_) | omega)
set_option maxHeartbeats 2000000 in
theorem c_implValidEffect {e : Eff} (hA : Arr h l 1 (e.nums.map fl)) : CallT S true 58 [.agg [.int .i64 e.kind, .int .i64 e.len, l]] h lim K = K (.lf (.bool (decide (effOk e)))) h := by
  obtain ⟨k, n, xs⟩ := e
  simp only at hA ⊢
  have hh := fun t k p q m lim K => c_has (S := S) (h := h ++ t) (lim := lim) (K := K) (k := k) (n := n) (p := p) (q := q) (m := m) (hA.app (t := t))
  rcases kinds k with rfl | rfl | rfl | rfl | rfl | rfl | rfl | ⟨k0, k4, k1, k2, k3, k5, k6⟩
  · have he : decide (effOk ⟨0, n, xs⟩) = decide ((0 ≤ n ∧ n ≤ 0) ∧ (xs.length : Int) = 1) := by congr 1; simp [effOk, cntE]
    rw [he]
    refine CallT_pure (F := L58) (HasEf.f58) rfl (by first | rfl | (split <;> rfl) | simp) ?_; unfold L58; dsimp only []
    repeat' (first | (simp (disch := first | omega | assumption | (simp only [List.length_set]; omega) | (simp [*] <;> fail) | assumption) [-Bool.decide_and, -Bool.decide_or, -Bool.not_and, -Bool.not_or, toNat_pred, toNat_succ, wrap64, wr_new, wr_new0, ok_if, ok_ifn, iadV_sl, makeV_int, decT, decF, over_at, *]) | (with_reducible refine Gd_split (fun hc => ?_) (fun hc => ?_) <;> (have hc2 := hc; try simp at hc2)) | (with_reducible refine Br_split (fun hc => ?_) (fun hc => ?_) <;> (have hc2 := hc; try simp at hc2)) | (with_reducible refine GdT_split (fun hc => ?_) (fun hc => ?_) <;> (have hc2 := hc; try simp at hc2)) | (with_reducible refine WT_alt ?_ ?_) | omega)
  · have he : decide (effOk ⟨4, n, xs⟩) = decide ((0 ≤ n ∧ n ≤ 0) ∧ (xs.length : Int) = 1) := by congr 1; simp [effOk, cntE]
    rw [he]
    refine CallT_pure (F := L58) (HasEf.f58) rfl (by first | rfl | (split <;> rfl) | simp) ?_; unfold L58; dsimp only []
    repeat' (first | (simp (disch := first | omega | assumption | (simp only [List.length_set]; omega) | (simp [*] <;> fail) | assumption) [-Bool.decide_and, -Bool.decide_or, -Bool.not_and, -Bool.not_or, toNat_pred, toNat_succ, wrap64, wr_new, wr_new0, ok_if, ok_ifn, iadV_sl, makeV_int, decT, decF, over_at, *]) | (with_reducible refine Gd_split (fun hc => ?_) (fun hc => ?_) <;> (have hc2 := hc; try simp at hc2)) | (with_reducible refine Br_split (fun hc => ?_) (fun hc => ?_) <;> (have hc2 := hc; try simp at hc2)) | (with_reducible refine GdT_split (fun hc => ?_) (fun hc => ?_) <;> (have hc2 := hc; try simp at hc2)) | (with_reducible refine WT_alt ?_ ?_) | omega)
  · have he : decide (effOk ⟨1, n, xs⟩) = decide ((0 ≤ n ∧ n ≤ 0) ∧ (xs.length : Int) = 5) := by congr 1; simp [effOk, cntE]
    rw [he]
    refine CallT_pure (F := L58) (HasEf.f58) rfl (by first | rfl | (split <;> rfl) | simp) ?_; unfold L58; dsimp only []
    repeat' (first | (simp (disch := first | omega | assumption | (simp only [List.length_set]; omega) | (simp [*] <;> fail) | assumption) [-Bool.decide_and, -Bool.decide_or, -Bool.not_and, -Bool.not_or, toNat_pred, toNat_succ, wrap64, wr_new, wr_new0, ok_if, ok_ifn, iadV_sl, makeV_int, decT, decF, over_at, *]) | (with_reducible refine Gd_split (fun hc => ?_) (fun hc => ?_) <;> (have hc2 := hc; try simp at hc2)) | (with_reducible refine Br_split (fun hc => ?_) (fun hc => ?_) <;> (have hc2 := hc; try simp at hc2)) | (with_reducible refine GdT_split (fun hc => ?_) (fun hc => ?_) <;> (have hc2 := hc; try simp at hc2)) | (with_reducible refine WT_alt ?_ ?_) | omega)
  · have he : decide (effOk ⟨2, n, xs⟩) = decide ((1 ≤ n ∧ n ≤ 32) ∧ (xs.length : Int) = 2) := by congr 1; simp [effOk, cntE]
    rw [he]
    refine CallT_pure (F := L58) (HasEf.f58) rfl (by first | rfl | (split <;> rfl) | simp) ?_; unfold L58; dsimp only []
    repeat' (first | (simp (disch := first | omega | assumption | (simp only [List.length_set]; omega) | (simp [*] <;> fail) | assumption) [-Bool.decide_and, -Bool.decide_or, -Bool.not_and, -Bool.not_or, toNat_pred, toNat_succ, wrap64, wr_new, wr_new0, ok_if, ok_ifn, iadV_sl, makeV_int, decT, decF, over_at, *]) | (with_reducible refine Gd_split (fun hc => ?_) (fun hc => ?_) <;> (have hc2 := hc; try simp at hc2)) | (with_reducible refine Br_split (fun hc => ?_) (fun hc => ?_) <;> (have hc2 := hc; try simp at hc2)) | (with_reducible refine GdT_split (fun hc => ?_) (fun hc => ?_) <;> (have hc2 := hc; try simp at hc2)) | (with_reducible refine WT_alt ?_ ?_) | omega)
  · have he : decide (effOk ⟨3, n, xs⟩) = decide ((0 ≤ n ∧ n ≤ 0) ∧ (xs.length : Int) = 4) := by congr 1; simp [effOk, cntE]
    rw [he]
    refine CallT_pure (F := L58) (HasEf.f58) rfl (by first | rfl | (split <;> rfl) | simp) ?_; unfold L58; dsimp only []
    repeat' (first | (simp (disch := first | omega | assumption | (simp only [List.length_set]; omega) | (simp [*] <;> fail) | assumption) [-Bool.decide_and, -Bool.decide_or, -Bool.not_and, -Bool.not_or, toNat_pred, toNat_succ, wrap64, wr_new, wr_new0, ok_if, ok_ifn, iadV_sl, makeV_int, decT, decF, over_at, *]) | (with_reducible refine Gd_split (fun hc => ?_) (fun hc => ?_) <;> (have hc2 := hc; try simp at hc2)) | (with_reducible refine Br_split (fun hc => ?_) (fun hc => ?_) <;> (have hc2 := hc; try simp at hc2)) | (with_reducible refine GdT_split (fun hc => ?_) (fun hc => ?_) <;> (have hc2 := hc; try simp at hc2)) | (with_reducible refine WT_alt ?_ ?_) | omega)
  · have he : decide (effOk ⟨5, n, xs⟩) = decide ((0 ≤ n ∧ n ≤ 0) ∧ (xs.length : Int) = 0) := by congr 1; simp [effOk, cntE]
    rw [he]
    refine CallT_pure (F := L58) (HasEf.f58) rfl (by first | rfl | (split <;> rfl) | simp) ?_; unfold L58; dsimp only []
    repeat' (first | (simp (disch := first | omega | assumption | (simp only [List.length_set]; omega) | (simp [*] <;> fail) | assumption) [-Bool.decide_and, -Bool.decide_or, -Bool.not_and, -Bool.not_or, toNat_pred, toNat_succ, wrap64, wr_new, wr_new0, ok_if, ok_ifn, iadV_sl, makeV_int, decT, decF, over_at, *]) | (with_reducible refine Gd_split (fun hc => ?_) (fun hc => ?_) <;> (have hc2 := hc; try simp at hc2)) | (with_reducible refine Br_split (fun hc => ?_) (fun hc => ?_) <;> (have hc2 := hc; try simp at hc2)) | (with_reducible refine GdT_split (fun hc => ?_) (fun hc => ?_) <;> (have hc2 := hc; try simp at hc2)) | (with_reducible refine WT_alt ?_ ?_) | omega)
  · by_cases hc : (0 ≤ n ∧ n ≤ 32) ∧ (xs.length : Int) = 2
    · have hx : 0 < xs.length := by omega
      have hg : xs.getD 0 0 = xs[0] := by simp [hx]
      have he : decide (effOk ⟨6, n, xs⟩) = limB xs[0] := by
        have : effOk ⟨6, n, xs⟩ ↔ limB xs[0] = true := by
          unfold effOk
          simp only [hg]
          refine ⟨fun q => q.2.2 trivial, fun q => ⟨by simpa using hc.1, by simpa [cntE] using hc.2, fun _ => q⟩⟩
        rw [Bool.eq_iff_iff, decide_eq_true_eq, this]
      rw [he]
      obtain ⟨⟨c1, c2⟩, c3⟩ := hc
      refine CallT_pure (F := L58) (HasEf.f58) rfl (by first | rfl | (split <;> rfl) | simp) ?_; unfold L58; dsimp only []
      repeat' (first | (simp (disch := first | omega | assumption | (simp only [List.length_set]; omega) | (simp [*] <;> fail) | assumption) [-Bool.decide_and, -Bool.decide_or, -Bool.not_and, -Bool.not_or, toNat_pred, toNat_succ, wrap64, wr_new, wr_new0, ok_if, ok_ifn, iadV_sl, makeV_int, decT, decF, over_at, *, hA.len, hA.at_, hA.at_', hA.rd, hA.rdIn, hA.rdIn0, hA.rdA, hA.rdInA, hA.rdIn0A, hA.at0, hA.rd0, hA.rd0j, hA.rd0A, hA.rd0jA, fl]) | (with_reducible refine Gd_split (fun hc => ?_) (fun hc => ?_) <;> (have hc2 := hc; try simp at hc2)) | (with_reducible refine Br_split (fun hc => ?_) (fun hc => ?_) <;> (have hc2 := hc; try simp at hc2)) | (with_reducible refine GdT_split (fun hc => ?_) (fun hc => ?_) <;> (have hc2 := hc; try simp at hc2)) | (with_reducible refine WT_alt ?_ ?_) | omega)
    · have he : decide (effOk ⟨6, n, xs⟩) = false := by
        rw [decide_eq_false_iff_not]
        exact fun q => hc ⟨by simpa using q.1, by simpa [cntE] using q.2.1⟩
      rw [he]
      have hd : decide ((0 ≤ n ∧ n ≤ 32) ∧ (xs.length : Int) = 2) = false := decide_eq_false hc
      refine CallT_pure (F := L58) (HasEf.f58) rfl (by first | rfl | (split <;> rfl) | simp) ?_; unfold L58; dsimp only []
      repeat' (first | (simp (disch := first | omega | assumption | (simp only [List.length_set]; omega) | (simp [*] <;> fail) | assumption) [-Bool.decide_and, -Bool.decide_or, -Bool.not_and, -Bool.not_or, toNat_pred, toNat_succ, wrap64, wr_new, wr_new0, ok_if, ok_ifn, iadV_sl, makeV_int, decT, decF, over_at, *]) | (with_reducible refine Gd_split (fun hc => ?_) (fun hc => ?_) <;> (have hc2 := hc; try simp at hc2)) | (with_reducible refine Br_split (fun hc => ?_) (fun hc => ?_) <;> (have hc2 := hc; try simp at hc2)) | (with_reducible refine GdT_split (fun hc => ?_) (fun hc => ?_) <;> (have hc2 := hc; try simp at hc2)) | (with_reducible refine WT_alt ?_ ?_) | omega)
  · have he : decide (effOk ⟨k, n, xs⟩) = false := by
      rw [decide_eq_false_iff_not]
      intro q
      have := q.2.1
      simp [cntE, k0, k1, k2, k3, k4, k5, k6] at this
    rw [he]
    refine CallT_pure (F := L58) (HasEf.f58) rfl (by first | rfl | (split <;> rfl) | simp) ?_; unfold L58; dsimp only []
    repeat' (first | (simp (disch := first | omega | assumption | (simp only [List.length_set]; omega) | (simp [*] <;> fail) | assumption) [-Bool.decide_and, -Bool.decide_or, -Bool.not_and, -Bool.not_or, toNat_pred, toNat_succ, wrap64, wr_new, wr_new0, ok_if, ok_ifn, iadV_sl, makeV_int, decT, decF, over_at, *]) | (with_reducible refine Gd_split (fun hc => ?_) (fun hc => ?_) <;> (have hc2 := hc; try simp at hc2)) | (with_reducible refine Br_split (fun hc => ?_) (fun hc => ?_) <;> (have hc2 := hc; try simp at hc2)) | (with_reducible refine GdT_split (fun hc => ?_) (fun hc => ?_) <;> (have hc2 := hc; try simp at hc2)) | (with_reducible refine WT_alt ?_ ?_) | omega)
end
end Go.E
