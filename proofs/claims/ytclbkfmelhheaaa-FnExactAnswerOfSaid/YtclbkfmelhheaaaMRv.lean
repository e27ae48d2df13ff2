/- Rooms: valid or not, their lines' lengths, both sides. -/
import Derived.Test.YtclbkfmelhheaaaMRx
import Derived.Test.YtclbkfmelhheaaaMH
set_option linter.unusedVariables false
set_option linter.unusedSimpArgs false
namespace Go.E
open Go
def L148 : LFn := ⟨1, (.seq (.reg [⟨(.some 2), (.mv (.c (.lf (.bool false)))), none⟩])
 (.seq (.reg [⟨(.some 3), (.mv (.t 0)), none⟩, ⟨(.some 4), (.call true 85 [(.t 3), (.c (.lf (.int .i64 1))), (.c (.lf (.int .i64 64)))]), none⟩, ⟨(.some 2), (.mv (.t 4)), none⟩])
 .ret)), [(.tmp 2)]⟩
def L84 : LFn := ⟨1, (.seq (.reg [⟨(.some 2), (.mv (.c (.lf (.bool false)))), none⟩])
 (.seq (.seq (.reg [⟨(.some 3), (.mv (.c (.lf (.int .i64 0)))), none⟩])
 (.block 0 (.loop (.seq (.seq (.reg [⟨(.some 5), (.mv (.t 3)), none⟩, ⟨(.some 6), (.mv (.t 0)), none⟩, ⟨(.some 7), (.nilck (.t 6)), none⟩, ⟨(.some 8), (.faddr 0 (.t 7)), none⟩, ⟨(.some 9), (.load false 1 (.t 8)), none⟩, ⟨(.some 10), (.len (.t 9)), none⟩, ⟨(.some 11), (.bin .lss (.t 5) (.t 10)), none⟩])
 (.cond (.t 11) .skip (.exit 0)))
 (.seq (.block 1 (.seq (.reg [⟨(.some 14), (.mv (.t 0)), none⟩, ⟨(.some 15), (.nilck (.t 14)), none⟩, ⟨(.some 16), (.faddr 0 (.t 15)), none⟩, ⟨(.some 17), (.load false 1 (.t 16)), none⟩, ⟨(.some 18), (.mv (.t 3)), none⟩, ⟨(.some 19), (.iaddr 5 (.t 17) (.t 18)), none⟩, ⟨(.some 20), (.faddr 0 (.t 19)), none⟩, ⟨(.some 21), (.load false 1 (.t 20)), none⟩, ⟨(.some 22), (.call true 148 [(.t 21)]), none⟩, ⟨(.some 23), (.una .not (.t 22)), none⟩])
 (.cond (.t 23) (.seq (.reg [⟨(.some 2), (.mv (.c (.lf (.bool false)))), none⟩])
 .ret) .skip)))
 (.reg [⟨(.some 12), (.mv (.t 3)), none⟩, ⟨(.some 13), (.bin .add (.t 12) (.c (.lf (.int .i64 1)))), none⟩, ⟨(.some 3), (.mv (.t 13)), none⟩]))))))
 (.seq (.seq (.reg [⟨(.some 4), (.mv (.c (.lf (.int .i64 0)))), none⟩])
 (.block 2 (.loop (.seq (.seq (.reg [⟨(.some 24), (.mv (.t 4)), none⟩, ⟨(.some 25), (.mv (.t 0)), none⟩, ⟨(.some 26), (.nilck (.t 25)), none⟩, ⟨(.some 27), (.faddr 1 (.t 26)), none⟩, ⟨(.some 28), (.load false 1 (.t 27)), none⟩, ⟨(.some 29), (.len (.t 28)), none⟩, ⟨(.some 30), (.bin .lss (.t 24) (.t 29)), none⟩])
 (.cond (.t 30) .skip (.exit 2)))
 (.seq (.block 3 (.seq (.reg [⟨(.some 33), (.mv (.t 0)), none⟩, ⟨(.some 34), (.nilck (.t 33)), none⟩, ⟨(.some 35), (.faddr 1 (.t 34)), none⟩, ⟨(.some 36), (.load false 1 (.t 35)), none⟩, ⟨(.some 37), (.mv (.t 4)), none⟩, ⟨(.some 38), (.iaddr 2 (.t 36) (.t 37)), none⟩, ⟨(.some 39), (.faddr 0 (.t 38)), none⟩, ⟨(.some 40), (.load false 1 (.t 39)), none⟩, ⟨(.some 41), (.call true 148 [(.t 40)]), none⟩, ⟨(.some 42), (.una .not (.t 41)), none⟩])
 (.cond (.t 42) (.seq (.reg [⟨(.some 2), (.mv (.c (.lf (.bool false)))), none⟩])
 .ret) .skip)))
 (.reg [⟨(.some 31), (.mv (.t 4)), none⟩, ⟨(.some 32), (.bin .add (.t 31) (.c (.lf (.int .i64 1)))), none⟩, ⟨(.some 4), (.mv (.t 32)), none⟩]))))))
 (.seq (.reg [⟨(.some 43), (.mv (.t 0)), none⟩, ⟨(.some 44), (.nilck (.t 43)), none⟩, ⟨(.some 45), (.faddr 0 (.t 44)), none⟩, ⟨(.some 46), (.load false 1 (.t 45)), none⟩, ⟨(.some 47), (.len (.t 46)), none⟩, ⟨(.some 48), (.bin .geq (.t 47) (.c (.lf (.int .i64 1)))), none⟩, ⟨(.some 49), (.mv (.t 48)), none⟩, ⟨(.some 50), (.mv (.t 0)), (.some (49, true))⟩, ⟨(.some 51), (.nilck (.t 50)), (.some (49, true))⟩, ⟨(.some 52), (.faddr 0 (.t 51)), (.some (49, true))⟩, ⟨(.some 53), (.load false 1 (.t 52)), (.some (49, true))⟩, ⟨(.some 54), (.len (.t 53)), (.some (49, true))⟩, ⟨(.some 55), (.bin .leq (.t 54) (.c (.lf (.int .i64 4)))), (.some (49, true))⟩, ⟨(.some 56), (.pick (.t 49) (.t 55) (.c (.lf (.bool false)))), none⟩, ⟨(.some 57), (.mv (.t 56)), none⟩, ⟨(.some 58), (.mv (.t 0)), (.some (57, true))⟩, ⟨(.some 59), (.nilck (.t 58)), (.some (57, true))⟩, ⟨(.some 60), (.faddr 1 (.t 59)), (.some (57, true))⟩, ⟨(.some 61), (.load false 1 (.t 60)), (.some (57, true))⟩, ⟨(.some 62), (.len (.t 61)), (.some (57, true))⟩, ⟨(.some 63), (.bin .leq (.t 62) (.c (.lf (.int .i64 3)))), (.some (57, true))⟩, ⟨(.some 64), (.pick (.t 57) (.t 63) (.c (.lf (.bool false)))), none⟩, ⟨(.some 2), (.mv (.t 64)), none⟩])
 .ret)))), [(.tmp 2)]⟩
def L149 : LFn := ⟨1, (.seq (.reg [⟨(.some 2), (.mv (.c (.lf .nils))), none⟩])
 (.seq (.reg [⟨(.some 6), (.lit 2 1 0 [] []), none⟩, ⟨(.some 3), (.mv (.t 6)), none⟩])
 (.seq (.seq (.reg [⟨(.some 4), (.mv (.c (.lf (.int .i64 0)))), none⟩])
 (.block 0 (.loop (.seq (.seq (.reg [⟨(.some 7), (.mv (.t 4)), none⟩, ⟨(.some 8), (.mv (.t 0)), none⟩, ⟨(.some 9), (.nilck (.t 8)), none⟩, ⟨(.some 10), (.faddr 0 (.t 9)), none⟩, ⟨(.some 11), (.load false 1 (.t 10)), none⟩, ⟨(.some 12), (.len (.t 11)), none⟩, ⟨(.some 13), (.bin .lss (.t 7) (.t 12)), none⟩])
 (.cond (.t 13) .skip (.exit 0)))
 (.seq (.block 1 (.reg [⟨(.some 16), (.mv (.t 3)), none⟩, ⟨(.some 17), (.mv (.t 0)), none⟩, ⟨(.some 18), (.nilck (.t 17)), none⟩, ⟨(.some 19), (.faddr 0 (.t 18)), none⟩, ⟨(.some 20), (.load false 1 (.t 19)), none⟩, ⟨(.some 21), (.mv (.t 4)), none⟩, ⟨(.some 22), (.iaddr 5 (.t 20) (.t 21)), none⟩, ⟨(.some 23), (.faddr 0 (.t 22)), none⟩, ⟨(.some 24), (.load false 1 (.t 23)), none⟩, ⟨(.some 25), (.lit 2 1 1 [(.int .i64 0)] [(0, (1, (.t 24)))]), none⟩, ⟨(.some 26), (.app 2 1 8 (.t 16) (.t 25)), none⟩, ⟨(.some 3), (.mv (.t 26)), none⟩]))
 (.reg [⟨(.some 14), (.mv (.t 4)), none⟩, ⟨(.some 15), (.bin .add (.t 14) (.c (.lf (.int .i64 1)))), none⟩, ⟨(.some 4), (.mv (.t 15)), none⟩]))))))
 (.seq (.seq (.reg [⟨(.some 5), (.mv (.c (.lf (.int .i64 0)))), none⟩])
 (.block 2 (.loop (.seq (.seq (.reg [⟨(.some 27), (.mv (.t 5)), none⟩, ⟨(.some 28), (.mv (.t 0)), none⟩, ⟨(.some 29), (.nilck (.t 28)), none⟩, ⟨(.some 30), (.faddr 1 (.t 29)), none⟩, ⟨(.some 31), (.load false 1 (.t 30)), none⟩, ⟨(.some 32), (.len (.t 31)), none⟩, ⟨(.some 33), (.bin .lss (.t 27) (.t 32)), none⟩])
 (.cond (.t 33) .skip (.exit 2)))
 (.seq (.block 3 (.reg [⟨(.some 36), (.mv (.t 3)), none⟩, ⟨(.some 37), (.mv (.t 0)), none⟩, ⟨(.some 38), (.nilck (.t 37)), none⟩, ⟨(.some 39), (.faddr 1 (.t 38)), none⟩, ⟨(.some 40), (.load false 1 (.t 39)), none⟩, ⟨(.some 41), (.mv (.t 5)), none⟩, ⟨(.some 42), (.iaddr 2 (.t 40) (.t 41)), none⟩, ⟨(.some 43), (.faddr 0 (.t 42)), none⟩, ⟨(.some 44), (.load false 1 (.t 43)), none⟩, ⟨(.some 45), (.lit 2 1 1 [(.int .i64 0)] [(0, (1, (.t 44)))]), none⟩, ⟨(.some 46), (.app 2 1 8 (.t 36) (.t 45)), none⟩, ⟨(.some 3), (.mv (.t 46)), none⟩]))
 (.reg [⟨(.some 34), (.mv (.t 5)), none⟩, ⟨(.some 35), (.bin .add (.t 34) (.c (.lf (.int .i64 1)))), none⟩, ⟨(.some 5), (.mv (.t 35)), none⟩]))))))
 (.seq (.reg [⟨(.some 47), (.mv (.t 3)), none⟩, ⟨(.some 2), (.mv (.t 47)), none⟩])
 .ret))))), [(.tmp 2)]⟩
def L112 : LFn := ⟨2, (.seq (.reg [⟨(.some 4), (.mv (.c (.lf (.bool false)))), none⟩])
 (.seq (.reg [⟨(.some 7), (.mv (.t 0)), none⟩, ⟨(.some 8), (.call false 149 [(.t 7)]), none⟩, ⟨(.some 5), (.mv (.t 8)), none⟩])
 (.seq (.seq (.reg [⟨(.some 9), (.mv (.t 1)), none⟩, ⟨(.some 10), (.len (.t 9)), none⟩, ⟨(.some 11), (.mv (.t 5)), none⟩, ⟨(.some 12), (.len (.t 11)), none⟩, ⟨(.some 13), (.bin .neq (.t 10) (.t 12)), none⟩])
 (.cond (.t 13) (.seq (.reg [⟨(.some 4), (.mv (.c (.lf (.bool false)))), none⟩])
 .ret) .skip))
 (.seq (.seq (.reg [⟨(.some 14), (.mv (.t 1)), none⟩, ⟨(.some 15), (.len (.t 14)), none⟩, ⟨(.some 16), (.mv (.c (.lf (.int .i64 0)))), none⟩])
 (.block 0 (.loop (.seq (.reg [⟨(.some 17), (.bin .lss (.t 16) (.t 15)), none⟩])
 (.seq (.cond (.t 17) .skip (.exit 0))
 (.seq (.block 1 (.seq (.reg [⟨(.some 18), (.mv (.t 16)), none⟩, ⟨(.some 6), (.mv (.t 18)), none⟩])
 (.seq (.reg [⟨(.some 19), (.mv (.t 1)), none⟩, ⟨(.some 20), (.mv (.t 6)), none⟩, ⟨(.some 21), (.iaddr 1 (.t 19) (.t 20)), none⟩, ⟨(.some 22), (.load false 1 (.t 21)), none⟩, ⟨(.some 23), (.len (.t 22)), none⟩, ⟨(.some 24), (.mv (.t 5)), none⟩, ⟨(.some 25), (.mv (.t 6)), none⟩, ⟨(.some 26), (.iaddr 1 (.t 24) (.t 25)), none⟩, ⟨(.some 27), (.load false 1 (.t 26)), none⟩, ⟨(.some 28), (.bin .neq (.t 23) (.t 27)), none⟩])
 (.cond (.t 28) (.seq (.reg [⟨(.some 4), (.mv (.c (.lf (.bool false)))), none⟩])
 .ret) .skip))))
 (.reg [⟨(.some 29), (.bin .add (.t 16) (.c (.lf (.int .i64 1)))), none⟩, ⟨(.some 16), (.mv (.t 29)), none⟩])))))))
 (.seq (.reg [⟨(.some 4), (.mv (.c (.lf (.bool true)))), none⟩])
 .ret))))), [(.tmp 4)]⟩
def L155 : LFn := ⟨3, (.seq (.reg [⟨(.some 6), (.mv (.c (.lf (.bool false)))), none⟩])
 (.seq (.seq (.reg [⟨(.some 9), (.mv (.t 0)), none⟩, ⟨(.some 10), (.len (.t 9)), none⟩, ⟨(.some 11), (.mv (.c (.lf (.int .i64 0)))), none⟩])
 (.block 0 (.loop (.seq (.reg [⟨(.some 12), (.bin .lss (.t 11) (.t 10)), none⟩])
 (.seq (.cond (.t 12) .skip (.exit 0))
 (.seq (.block 1 (.seq (.reg [⟨(.some 13), (.iaddr 1 (.t 9) (.t 11)), none⟩, ⟨(.some 14), (.load false 1 (.t 13)), none⟩, ⟨(.some 8), (.mv (.t 14)), none⟩])
 (.seq (.reg [⟨(.some 15), (.mv (.t 8)), none⟩, ⟨(.some 16), (.mv (.t 1)), none⟩, ⟨(.some 17), (.mv (.t 2)), none⟩, ⟨(.some 18), (.call true 91 [(.t 15), (.t 16), (.t 17)]), none⟩, ⟨(.some 19), (.una .not (.t 18)), none⟩])
 (.cond (.t 19) (.seq (.reg [⟨(.some 6), (.mv (.c (.lf (.bool false)))), none⟩])
 .ret) .skip))))
 (.reg [⟨(.some 20), (.bin .add (.t 11) (.c (.lf (.int .i64 1)))), none⟩, ⟨(.some 11), (.mv (.t 20)), none⟩])))))))
 (.seq (.reg [⟨(.some 6), (.mv (.c (.lf (.bool true)))), none⟩])
 .ret))), [(.tmp 6)]⟩
def L156 : LFn := ⟨1, (.seq (.reg [⟨(.some 1), (.box 59 (.t 0)), none⟩, ⟨(.some 2), (.mv (.c (.lf .nils))), none⟩])
 (.seq (.reg [⟨(.some 3), (.mv (.c (.lf .nils))), none⟩])
 (.seq (.seq (.reg [⟨(.some 8), (.faddr 0 (.t 1)), none⟩, ⟨(.some 9), (.load false 1 (.t 8)), none⟩, ⟨(.some 10), (.len (.t 9)), none⟩, ⟨(.some 11), (.mv (.c (.lf (.int .i64 0)))), none⟩])
 (.block 0 (.loop (.seq (.reg [⟨(.some 12), (.bin .lss (.t 11) (.t 10)), none⟩])
 (.seq (.cond (.t 12) .skip (.exit 0))
 (.seq (.block 1 (.seq (.reg [⟨(.some 13), (.iaddr 5 (.t 9) (.t 11)), none⟩, ⟨(.some 14), (.load true 5 (.t 13)), none⟩, ⟨(.some 5), (.alloc 197 [(.int .i64 0), (.flt .f32 0), (.flt .f32 0), (.flt .f32 0), (.bool false)]), none⟩, ⟨none, (.store 5 (.t 5) (.t 14)), none⟩])
 (.reg [⟨(.some 15), (.mv (.t 3)), none⟩, ⟨(.some 16), (.faddr 0 (.t 5)), none⟩, ⟨(.some 17), (.load false 1 (.t 16)), none⟩, ⟨(.some 18), (.lit 2 1 1 [(.int .i64 0)] [(0, (1, (.t 17)))]), none⟩, ⟨(.some 19), (.app 2 1 8 (.t 15) (.t 18)), none⟩, ⟨(.some 3), (.mv (.t 19)), none⟩])))
 (.reg [⟨(.some 20), (.bin .add (.t 11) (.c (.lf (.int .i64 1)))), none⟩, ⟨(.some 11), (.mv (.t 20)), none⟩])))))))
 (.seq (.seq (.reg [⟨(.some 21), (.faddr 1 (.t 1)), none⟩, ⟨(.some 22), (.load false 1 (.t 21)), none⟩, ⟨(.some 23), (.len (.t 22)), none⟩, ⟨(.some 24), (.mv (.c (.lf (.int .i64 0)))), none⟩])
 (.block 2 (.loop (.seq (.reg [⟨(.some 25), (.bin .lss (.t 24) (.t 23)), none⟩])
 (.seq (.cond (.t 25) .skip (.exit 2))
 (.seq (.block 3 (.seq (.reg [⟨(.some 26), (.iaddr 2 (.t 22) (.t 24)), none⟩, ⟨(.some 27), (.load true 2 (.t 26)), none⟩, ⟨(.some 7), (.alloc 199 [(.int .i64 0), (.flt .f32 0)]), none⟩, ⟨none, (.store 2 (.t 7) (.t 27)), none⟩])
 (.reg [⟨(.some 28), (.mv (.t 3)), none⟩, ⟨(.some 29), (.faddr 0 (.t 7)), none⟩, ⟨(.some 30), (.load false 1 (.t 29)), none⟩, ⟨(.some 31), (.lit 2 1 1 [(.int .i64 0)] [(0, (1, (.t 30)))]), none⟩, ⟨(.some 32), (.app 2 1 8 (.t 28) (.t 31)), none⟩, ⟨(.some 3), (.mv (.t 32)), none⟩])))
 (.reg [⟨(.some 33), (.bin .add (.t 24) (.c (.lf (.int .i64 1)))), none⟩, ⟨(.some 24), (.mv (.t 33)), none⟩])))))))
 (.seq (.reg [⟨(.some 34), (.mv (.t 3)), none⟩, ⟨(.some 2), (.mv (.t 34)), none⟩])
 .ret))))), [(.tmp 2)]⟩
def L90 : LFn := ⟨1, (.seq (.reg [⟨(.some 1), (.box 59 (.t 0)), none⟩, ⟨(.some 2), (.mv (.c (.lf (.bool false)))), none⟩])
 (.seq (.reg [⟨(.some 3), (.faddr 0 (.t 1)), none⟩, ⟨(.some 4), (.load false 1 (.t 3)), none⟩, ⟨(.some 5), (.len (.t 4)), none⟩, ⟨(.some 6), (.call true 74 [(.t 5)]), none⟩, ⟨(.some 7), (.call true 91 [(.t 6), (.c (.lf (.int .i64 1))), (.c (.lf (.int .i64 4)))]), none⟩, ⟨(.some 8), (.mv (.t 7)), none⟩, ⟨(.some 9), (.faddr 1 (.t 1)), (.some (8, true))⟩, ⟨(.some 10), (.load false 1 (.t 9)), (.some (8, true))⟩, ⟨(.some 11), (.len (.t 10)), (.some (8, true))⟩, ⟨(.some 12), (.bin .leq (.t 11) (.c (.lf (.int .i64 3)))), (.some (8, true))⟩, ⟨(.some 13), (.pick (.t 8) (.t 12) (.c (.lf (.bool false)))), none⟩, ⟨(.some 14), (.mv (.t 13)), none⟩, ⟨(.some 15), (.load true 4 (.t 1)), (.some (14, true))⟩, ⟨(.some 16), (.call false 156 [(.t 15)]), (.some (14, true))⟩, ⟨(.some 17), (.call true 155 [(.t 16), (.c (.lf (.int .i64 1))), (.c (.lf (.int .i64 64)))]), (.some (14, true))⟩, ⟨(.some 18), (.pick (.t 14) (.t 17) (.c (.lf (.bool false)))), none⟩, ⟨(.some 2), (.mv (.t 18)), none⟩])
 .ret)), [(.tmp 2)]⟩
def L115 : LFn := ⟨2, (.seq (.reg [⟨(.some 2), (.box 59 (.t 0)), none⟩, ⟨(.some 4), (.mv (.c (.lf (.bool false)))), none⟩])
 (.seq (.reg [⟨(.some 8), (.load true 4 (.t 2)), none⟩, ⟨(.some 9), (.call false 156 [(.t 8)]), none⟩, ⟨(.some 5), (.mv (.t 9)), none⟩])
 (.seq (.seq (.reg [⟨(.some 10), (.mv (.t 1)), none⟩, ⟨(.some 11), (.len (.t 10)), none⟩, ⟨(.some 12), (.mv (.t 5)), none⟩, ⟨(.some 13), (.len (.t 12)), none⟩, ⟨(.some 14), (.bin .neq (.t 11) (.t 13)), none⟩])
 (.cond (.t 14) (.seq (.reg [⟨(.some 4), (.mv (.c (.lf (.bool false)))), none⟩])
 .ret) .skip))
 (.seq (.seq (.reg [⟨(.some 15), (.mv (.t 1)), none⟩, ⟨(.some 16), (.len (.t 15)), none⟩, ⟨(.some 17), (.mv (.c (.lf (.int .i64 0)))), none⟩])
 (.block 0 (.loop (.seq (.reg [⟨(.some 18), (.bin .lss (.t 17) (.t 16)), none⟩])
 (.seq (.cond (.t 18) .skip (.exit 0))
 (.seq (.block 1 (.seq (.reg [⟨(.some 19), (.mv (.t 17)), none⟩, ⟨(.some 20), (.iaddr 1 (.t 15) (.t 17)), none⟩, ⟨(.some 21), (.load false 1 (.t 20)), none⟩, ⟨(.some 6), (.mv (.t 19)), none⟩, ⟨(.some 7), (.mv (.t 21)), none⟩])
 (.seq (.reg [⟨(.some 22), (.mv (.t 7)), none⟩, ⟨(.some 23), (.len (.t 22)), none⟩, ⟨(.some 24), (.call true 74 [(.t 23)]), none⟩, ⟨(.some 25), (.mv (.t 5)), none⟩, ⟨(.some 26), (.mv (.t 6)), none⟩, ⟨(.some 27), (.iaddr 1 (.t 25) (.t 26)), none⟩, ⟨(.some 28), (.load false 1 (.t 27)), none⟩, ⟨(.some 29), (.bin .neq (.t 24) (.t 28)), none⟩])
 (.cond (.t 29) (.seq (.reg [⟨(.some 4), (.mv (.c (.lf (.bool false)))), none⟩])
 .ret) .skip))))
 (.reg [⟨(.some 30), (.bin .add (.t 17) (.c (.lf (.int .i64 1)))), none⟩, ⟨(.some 17), (.mv (.t 30)), none⟩])))))))
 (.seq (.reg [⟨(.some 4), (.mv (.c (.lf (.bool true)))), none⟩])
 .ret))))), [(.tmp 4)]⟩
class HasRv (S : Sys) : Prop extends HasA S where
  f148 : S.fs 148 = some L148
  f84 : S.fs 84 = some L84
  f149 : S.fs 149 = some L149
  f112 : S.fs 112 = some L112
  f155 : S.fs 155 = some L155
  f156 : S.fs 156 = some L156
  f90 : S.fs 90 = some L90
  f115 : S.fs 115 = some L115
def lensR (R : Rm) : List Int := R.ds.map (·.len) ++ R.qs.map (·.len)
theorem lensR_len {R : Rm} : (lensR R).length = R.ds.length + R.qs.length := by simp [lensR]
def in64 (n : Int) : Prop := 1 ≤ n ∧ n ≤ 64
def rmOk (R : Rm) : Prop := (∀ n ∈ lensR R, in64 n) ∧ 1 ≤ R.ds.length ∧ R.ds.length ≤ 4 ∧ R.qs.length ≤ 3
noncomputable instance (R : Rm) : Decidable (rmOk R) := Classical.propDecidable _
def fitR (R : Rm) (ls : List (List Nat)) : Prop := ls.length = (lensR R).length ∧ ∀ (i : Nat) (x : List Nat) (n : Int), ls[i]? = some x → (lensR R)[i]? = some n → (x.length : Int) = n
noncomputable instance (R : Rm) (ls : List (List Nat)) : Decidable (fitR R ls) := Classical.propDecidable _
theorem fit_lines {R : Rm} {ls : List (List Nat)} (h1 : rmOk R) (h2 : fitR R ls) : linesOk (R.ds.length + R.qs.length) ls := by
  refine ⟨by rw [h2.1, lensR_len], fun s hs => ?_⟩
  obtain ⟨i, hi, e⟩ := List.mem_iff_getElem.1 hs
  have hi2 : i < (lensR R).length := by rw [← h2.1]; exact hi
  have h3 := h2.2 i s _ (by rw [← e]; exact List.getElem?_eq_getElem hi) (List.getElem?_eq_getElem hi2)
  have h4 := h1.1 _ (List.getElem_mem hi2)
  unfold in64 at h4
  omega
/-- The lengths of all delays and of the first i passes. -/
def lensT (R : Rm) (i : Nat) : List Int := R.ds.map (·.len) ++ mapTo (·.len) R.qs i
theorem lensT_zero {R : Rm} : lensT R 0 = R.ds.map (·.len) := by simp [lensT]
theorem lensT_all {R : Rm} : lensT R R.qs.length = lensR R := by unfold lensT; rw [mapTo_all]; rfl
theorem lensT_len {R : Rm} {i : Nat} : (lensT R i).length ≤ R.ds.length + i := by
  have := mapTo_len (f := fun d : Pas => d.len) (xs := R.qs) (i := i)
  unfold lensT; rw [List.length_append, List.length_map]; omega
theorem lensT_il {R : Rm} {i : Nat} (hi : i < R.qs.length) : (lensT R (i + 1)).map il = (lensT R i).map il ++ [[.int .i64 R.qs[i].len]] := by
  unfold lensT
  rw [List.map_append, mapTo_il hi, List.map_append, List.append_assoc]
section
variable {S : Sys} {lim : Nat} {h : Hp} {K : CV → Hp → Prop} [HasRv S] {l l2 sg : Lf} {R : Rm} {rs : List (List Nat × Lf)}
theorem rm_parts {id off : Nat} (hr : rdCells h id off 4 = some (R.cells l l2)) : rdCells h id off 1 = some [l] ∧ rdCells h id (off + 1) 1 = some [l2] := by
  have r0 := rd_sub hr (j := 0) (m := 1) (by omega)
  have r1 := rd_sub hr (j := 1) (m := 1) (by omega)
  simp [Rm.cells] at r0 r1
  exact ⟨r0, r1⟩
@[simp] theorem c_l03Length {x : Int} : CallT S true 148 [.lf (.int .i64 x)] h lim K = K (.lf (.bool (decide (1 ≤ x ∧ x ≤ 64)))) h := by
  refine CallT_pure (F := L148) (HasRv.f148) rfl (by first | rfl | (split <;> rfl) | simp) ?_; unfold L148; dsimp only []
  repeat' (first | (simp (disch := first | omega | assumption | (simp only [List.length_set]; omega) | (simp [*] <;> fail) | assumption) [-Bool.decide_and, -Bool.decide_or, -Bool.not_and, -Bool.not_or, toNat_pred, toNat_succ, wrap64, wr_new, wr_new0, ok_if, ok_ifn, iadV_sl, makeV_int, decT, decF, over_at, *]) | (with_reducible refine Gd_split (fun hc => ?_) (fun hc => ?_) <;> (have hc2 := hc; try simp at hc2)) | (with_reducible refine Br_split (fun hc => ?_) (fun hc => ?_) <;> (have hc2 := hc; try simp at hc2)) | (with_reducible refine GdT_split (fun hc => ?_) (fun hc => ?_) <;> (have hc2 := hc; try simp at hc2)) | (with_reducible refine WT_alt ?_ ?_) | omega)
set_option maxHeartbeats 2000000 in
theorem c_l03Is {id off : Nat} (hr : rdCells h id off 4 = some (R.cells l l2)) (hA : Arr h l 5 (R.ds.map Dly.cells)) (hB : Arr h l2 2 (R.qs.map Pas.cells)) : CallT S true 84 [.lf (.ptr id off)] h lim K = K (.lf (.bool (decide (rmOk R)))) h := by
  obtain ⟨r0, r1⟩ := rm_parts hr
  have hbA := hA.bound
  have hbB := hB.bound
  have bad : ∀ n ∈ lensR R, ¬ in64 n → decide (rmOk R) = false := fun n hn h => decide_eq_false fun q => h (q.1 n hn)
  clear hr
  refine CallT_pure (F := L84) (HasRv.f84) rfl (by first | rfl | (split <;> rfl) | simp) ?_; unfold L84; dsimp only []
  repeat' (first | (simp (disch := first | omega | assumption | (simp only [List.length_set]; omega) | (simp [*] <;> fail) | assumption) [-Bool.decide_and, -Bool.decide_or, -Bool.not_and, -Bool.not_or, toNat_pred, toNat_succ, wrap64, wr_new, wr_new0, ok_if, ok_ifn, iadV_sl, makeV_int, decT, decF, over_at, *]) | (with_reducible refine Gd_split (fun hc => ?_) (fun hc => ?_) <;> (have hc2 := hc; try simp at hc2)) | (with_reducible refine Br_split (fun hc => ?_) (fun hc => ?_) <;> (have hc2 := hc; try simp at hc2)) | (with_reducible refine GdT_split (fun hc => ?_) (fun hc => ?_) <;> (have hc2 := hc; try simp at hc2)) | (with_reducible refine WT_alt ?_ ?_) | omega)
  refine WL_forM 16777196 (by decide +kernel) (R.ds.length) (fun i b g => i ≤ R.ds.length ∧ b 3 = .lf (.int .i64 i) ∧ h = g ∧ ∀ j (hj : j < R.ds.length), j < i → in64 R.ds[j].len) (fun _ _ _ hi => hi.1) ⟨by omega, by simp, rfl, fun j _ q => by omega⟩ ?_
  rintro i b g ⟨hi, e3, rfl, hu⟩
  by_cases hlt : i < R.ds.length
  · by_cases k1 : 1 ≤ R.ds[i].len ∧ R.ds[i].len ≤ 64
    · have hok : ∀ j (hj : j < R.ds.length), j < i + 1 → in64 R.ds[j].len := fun j hj q => by
        by_cases e : j = i
        · subst e; exact k1
        · exact hu j hj (by omega)
      clear hu bad
      repeat' (first | (simp (disch := first | omega | assumption | (simp only [List.length_set]; omega) | (simp [*] <;> fail) | assumption) [-Bool.decide_and, -Bool.decide_or, -Bool.not_and, -Bool.not_or, toNat_pred, toNat_succ, wrap64, wr_new, wr_new0, ok_if, ok_ifn, iadV_sl, makeV_int, decT, decF, over_at, *, hA.len, hA.at_, hA.at_', hA.rd, hA.rdIn, hA.rdIn0, hA.rdA, hA.rdInA, hA.rdIn0A, Dly.cells]) | (with_reducible refine Gd_split (fun hc => ?_) (fun hc => ?_) <;> (have hc2 := hc; try simp at hc2)) | (with_reducible refine Br_split (fun hc => ?_) (fun hc => ?_) <;> (have hc2 := hc; try simp at hc2)) | (with_reducible refine GdT_split (fun hc => ?_) (fun hc => ?_) <;> (have hc2 := hc; try simp at hc2)) | (with_reducible refine WT_alt ?_ ?_) | omega)
      exact ⟨hlt, hok⟩
    · have hno := bad R.ds[i].len (by unfold lensR; exact List.mem_append_left _ (List.mem_map.2 ⟨R.ds[i], List.getElem_mem hlt, rfl⟩)) k1
      clear hu bad
      repeat' (first | (simp (disch := first | omega | assumption | (simp only [List.length_set]; omega) | (simp [*] <;> fail) | assumption) [-Bool.decide_and, -Bool.decide_or, -Bool.not_and, -Bool.not_or, toNat_pred, toNat_succ, wrap64, wr_new, wr_new0, ok_if, ok_ifn, iadV_sl, makeV_int, decT, decF, over_at, *, hA.len, hA.at_, hA.at_', hA.rd, hA.rdIn, hA.rdIn0, hA.rdA, hA.rdInA, hA.rdIn0A, Dly.cells]) | (with_reducible refine Gd_split (fun hc => ?_) (fun hc => ?_) <;> (have hc2 := hc; try simp at hc2)) | (with_reducible refine Br_split (fun hc => ?_) (fun hc => ?_) <;> (have hc2 := hc; try simp at hc2)) | (with_reducible refine GdT_split (fun hc => ?_) (fun hc => ?_) <;> (have hc2 := hc; try simp at hc2)) | (with_reducible refine WT_alt ?_ ?_) | omega)
  · have : i = R.ds.length := by omega
    subst this
    repeat' (first | (simp (disch := first | omega | assumption | (simp only [List.length_set]; omega) | (simp [*] <;> fail) | assumption) [-Bool.decide_and, -Bool.decide_or, -Bool.not_and, -Bool.not_or, toNat_pred, toNat_succ, wrap64, wr_new, wr_new0, ok_if, ok_ifn, iadV_sl, makeV_int, decT, decF, over_at, *, hA.len]) | (with_reducible refine Gd_split (fun hc => ?_) (fun hc => ?_) <;> (have hc2 := hc; try simp at hc2)) | (with_reducible refine Br_split (fun hc => ?_) (fun hc => ?_) <;> (have hc2 := hc; try simp at hc2)) | (with_reducible refine GdT_split (fun hc => ?_) (fun hc => ?_) <;> (have hc2 := hc; try simp at hc2)) | (with_reducible refine WT_alt ?_ ?_) | omega)
    refine WL_forM 8796076245012 (by decide +kernel) (R.qs.length) (fun i b g => i ≤ R.qs.length ∧ b 4 = .lf (.int .i64 i) ∧ h = g ∧ ∀ j (hj : j < R.qs.length), j < i → in64 R.qs[j].len) (fun _ _ _ hi => hi.1) ⟨by omega, by simp, rfl, fun j _ q => by omega⟩ ?_
    rintro i b g ⟨hi, e3, rfl, hv⟩
    by_cases hlt : i < R.qs.length
    · by_cases k1 : 1 ≤ R.qs[i].len ∧ R.qs[i].len ≤ 64
      · have hok : ∀ j (hj : j < R.qs.length), j < i + 1 → in64 R.qs[j].len := fun j hj q => by
          by_cases e : j = i
          · subst e; exact k1
          · exact hv j hj (by omega)
        clear hu bad hv
        repeat' (first | (simp (disch := first | omega | assumption | (simp only [List.length_set]; omega) | (simp [*] <;> fail) | assumption) [-Bool.decide_and, -Bool.decide_or, -Bool.not_and, -Bool.not_or, toNat_pred, toNat_succ, wrap64, wr_new, wr_new0, ok_if, ok_ifn, iadV_sl, makeV_int, decT, decF, over_at, *, hB.len, hB.at_, hB.at_', hB.rd, hB.rdIn, hB.rdIn0, hB.rdA, hB.rdInA, hB.rdIn0A, Pas.cells]) | (with_reducible refine Gd_split (fun hc => ?_) (fun hc => ?_) <;> (have hc2 := hc; try simp at hc2)) | (with_reducible refine Br_split (fun hc => ?_) (fun hc => ?_) <;> (have hc2 := hc; try simp at hc2)) | (with_reducible refine GdT_split (fun hc => ?_) (fun hc => ?_) <;> (have hc2 := hc; try simp at hc2)) | (with_reducible refine WT_alt ?_ ?_) | omega)
        exact ⟨hlt, hok⟩
      · have hno := bad R.qs[i].len (by unfold lensR; exact List.mem_append_right _ (List.mem_map.2 ⟨R.qs[i], List.getElem_mem hlt, rfl⟩)) k1
        clear hu bad hv
        repeat' (first | (simp (disch := first | omega | assumption | (simp only [List.length_set]; omega) | (simp [*] <;> fail) | assumption) [-Bool.decide_and, -Bool.decide_or, -Bool.not_and, -Bool.not_or, toNat_pred, toNat_succ, wrap64, wr_new, wr_new0, ok_if, ok_ifn, iadV_sl, makeV_int, decT, decF, over_at, *, hB.len, hB.at_, hB.at_', hB.rd, hB.rdIn, hB.rdIn0, hB.rdA, hB.rdInA, hB.rdIn0A, Pas.cells]) | (with_reducible refine Gd_split (fun hc => ?_) (fun hc => ?_) <;> (have hc2 := hc; try simp at hc2)) | (with_reducible refine Br_split (fun hc => ?_) (fun hc => ?_) <;> (have hc2 := hc; try simp at hc2)) | (with_reducible refine GdT_split (fun hc => ?_) (fun hc => ?_) <;> (have hc2 := hc; try simp at hc2)) | (with_reducible refine WT_alt ?_ ?_) | omega)
    · have : i = R.qs.length := by omega
      subst this
      have hall : ∀ n ∈ lensR R, in64 n := by
        intro n hn
        unfold lensR at hn
        rcases List.mem_append.1 hn with hn | hn
        · obtain ⟨d, hd, rfl⟩ := List.mem_map.1 hn
          obtain ⟨j, hj, rfl⟩ := List.mem_iff_getElem.1 hd
          exact hu j hj hj
        · obtain ⟨d, hd, rfl⟩ := List.mem_map.1 hn
          obtain ⟨j, hj, rfl⟩ := List.mem_iff_getElem.1 hd
          exact hv j hj hj
      clear hu hv bad
      have hd : decide (rmOk R) = (decide ((1 : Int) ≤ R.ds.length) && decide ((R.ds.length : Int) ≤ 4) && decide ((R.qs.length : Int) ≤ 3)) := by
        rw [Bool.eq_iff_iff]
        simp only [decide_eq_true_eq, Bool.and_eq_true]
        unfold rmOk
        exact ⟨fun q => by have := q.2; omega, fun q => ⟨hall, by omega⟩⟩
      rw [hd]
      clear hd hall
      by_cases k1 : (1 : Int) ≤ R.ds.length
      · by_cases k2 : (R.ds.length : Int) ≤ 4
        · repeat' (first | (simp (disch := first | omega | assumption | (simp only [List.length_set]; omega) | (simp [*] <;> fail) | assumption) [-Bool.decide_and, -Bool.decide_or, -Bool.not_and, -Bool.not_or, toNat_pred, toNat_succ, wrap64, wr_new, wr_new0, ok_if, ok_ifn, iadV_sl, makeV_int, decT, decF, over_at, *, hA.len, hB.len]) | (with_reducible refine Gd_split (fun hc => ?_) (fun hc => ?_) <;> (have hc2 := hc; try simp at hc2)) | (with_reducible refine Br_split (fun hc => ?_) (fun hc => ?_) <;> (have hc2 := hc; try simp at hc2)) | (with_reducible refine GdT_split (fun hc => ?_) (fun hc => ?_) <;> (have hc2 := hc; try simp at hc2)) | (with_reducible refine WT_alt ?_ ?_) | omega)
        · repeat' (first | (simp (disch := first | omega | assumption | (simp only [List.length_set]; omega) | (simp [*] <;> fail) | assumption) [-Bool.decide_and, -Bool.decide_or, -Bool.not_and, -Bool.not_or, toNat_pred, toNat_succ, wrap64, wr_new, wr_new0, ok_if, ok_ifn, iadV_sl, makeV_int, decT, decF, over_at, *, hA.len, hB.len]) | (with_reducible refine Gd_split (fun hc => ?_) (fun hc => ?_) <;> (have hc2 := hc; try simp at hc2)) | (with_reducible refine Br_split (fun hc => ?_) (fun hc => ?_) <;> (have hc2 := hc; try simp at hc2)) | (with_reducible refine GdT_split (fun hc => ?_) (fun hc => ?_) <;> (have hc2 := hc; try simp at hc2)) | (with_reducible refine WT_alt ?_ ?_) | omega)
      · repeat' (first | (simp (disch := first | omega | assumption | (simp only [List.length_set]; omega) | (simp [*] <;> fail) | assumption) [-Bool.decide_and, -Bool.decide_or, -Bool.not_and, -Bool.not_or, toNat_pred, toNat_succ, wrap64, wr_new, wr_new0, ok_if, ok_ifn, iadV_sl, makeV_int, decT, decF, over_at, *, hA.len, hB.len]) | (with_reducible refine Gd_split (fun hc => ?_) (fun hc => ?_) <;> (have hc2 := hc; try simp at hc2)) | (with_reducible refine Br_split (fun hc => ?_) (fun hc => ?_) <;> (have hc2 := hc; try simp at hc2)) | (with_reducible refine GdT_split (fun hc => ?_) (fun hc => ?_) <;> (have hc2 := hc; try simp at hc2)) | (with_reducible refine WT_alt ?_ ?_) | omega)
set_option maxHeartbeats 2000000 in
theorem c_l03Lengths {id off : Nat} (hr : rdCells h id off 4 = some (R.cells l l2)) (hA : Arr h l 5 (R.ds.map Dly.cells)) (hB : Arr h l2 2 (R.qs.map Pas.cells)) (hn : R.ds.length ≤ 400000 ∧ R.qs.length ≤ 400000) (hl : lim ≤ h.length) (hK : ∀ o g, New h g o 2 1 ((lensR R).map il) → K (.lf o) g) : CallT S false 149 [.lf (.ptr id off)] h lim K := by
  obtain ⟨r0, r1⟩ := rm_parts hr
  clear hr
  refine CallT_of_body (F := L149) (HasRv.f149) rfl ?_; unfold L149; dsimp only []
  repeat' (first | (simp (disch := first | omega | assumption | (simp only [List.length_set]; omega) | (simp [*] <;> fail) | assumption) [-Bool.decide_and, -Bool.decide_or, -Bool.not_and, -Bool.not_or, toNat_pred, toNat_succ, wrap64, wr_new, wr_new0, ok_if, ok_ifn, iadV_sl, makeV_int, decT, decF, over_at, *, leavesAll, fillL]) | (with_reducible refine Gd_split (fun hc => ?_) (fun hc => ?_) <;> (have hc2 := hc; try simp at hc2)) | (with_reducible refine Br_split (fun hc => ?_) (fun hc => ?_) <;> (have hc2 := hc; try simp at hc2)) | (with_reducible refine GdT_split (fun hc => ?_) (fun hc => ?_) <;> (have hc2 := hc; try simp at hc2)) | (with_reducible refine WT_alt ?_ ?_) | omega)
  refine WL_forM 134217624 (by decide +kernel) (R.ds.length) (fun i b g => i ≤ R.ds.length ∧ b 4 = .lf (.int .i64 i) ∧ ∃ o, b 3 = .lf o ∧ New h g o 2 1 ((mapTo (·.len) R.ds i).map il)) (fun _ _ _ hi => hi.1) ⟨by omega, by simp, .sl h.length 0 0 1, by simp, by simpa using New.lit0 (h := h)⟩ ?_
  rintro i b g ⟨hi, e4, o, e3, hN⟩
  have hk := hN.kept
  have hA1 := hA.kept hk
  have s0 := hk.rd r0
  have hl1 := mapTo_len (f := fun d : Dly => d.len) (xs := R.ds) (i := i)
  by_cases hlt : i < R.ds.length
  · have s1 := mapTo_il (f := fun d : Dly => d.len) hlt
    have s1H : Hid ((mapTo (fun d : Dly => d.len) R.ds (i + 1)).map il = (mapTo (fun d : Dly => d.len) R.ds i).map il ++ [[.int .i64 R.ds[i].len]]) := s1
    clear hK s1
    repeat' (first | (simp (disch := first | omega | assumption | (simp only [List.length_set]; omega) | (simp [*] <;> fail) | assumption) [-Bool.decide_and, -Bool.decide_or, -Bool.not_and, -Bool.not_or, toNat_pred, toNat_succ, wrap64, wr_new, wr_new0, ok_if, ok_ifn, iadV_sl, makeV_int, decT, decF, over_at, *, hA1.len, hA1.at_, hA1.at_', hA1.rd, hA1.rdIn, hA1.rdIn0, hA1.rdA, hA1.rdInA, hA1.rdIn0A, Dly.cells, leavesAll, fillL]) | (with_reducible refine Gd_split (fun hc => ?_) (fun hc => ?_) <;> (have hc2 := hc; try simp at hc2)) | (with_reducible refine Br_split (fun hc => ?_) (fun hc => ?_) <;> (have hc2 := hc; try simp at hc2)) | (with_reducible refine GdT_split (fun hc => ?_) (fun hc => ?_) <;> (have hc2 := hc; try simp at hc2)) | (with_reducible refine WT_alt ?_ ?_) | omega)
    refine oc_push (bytes := 8) (r := [.int .i64 R.ds[i].len]) hN ?_ ?_ ?_ (by decide) rfl (by decide)
    · exact hl
    · simp; omega
    intro o2 g5 hN5 hB5
    rw [← show (mapTo (fun d : Dly => d.len) R.ds (i + 1)).map il = _ from s1H] at hN5
    clear s1H
    repeat' (first | (simp (disch := first | omega | assumption | (simp only [List.length_set]; omega) | (simp [*] <;> fail) | assumption) [-Bool.decide_and, -Bool.decide_or, -Bool.not_and, -Bool.not_or, toNat_pred, toNat_succ, wrap64, wr_new, wr_new0, ok_if, ok_ifn, iadV_sl, makeV_int, decT, decF, over_at, *]) | (with_reducible refine Gd_split (fun hc => ?_) (fun hc => ?_) <;> (have hc2 := hc; try simp at hc2)) | (with_reducible refine Br_split (fun hc => ?_) (fun hc => ?_) <;> (have hc2 := hc; try simp at hc2)) | (with_reducible refine GdT_split (fun hc => ?_) (fun hc => ?_) <;> (have hc2 := hc; try simp at hc2)) | (with_reducible refine WT_alt ?_ ?_) | omega)
  · have : i = R.ds.length := by omega
    subst this
    rw [mapTo_all] at hN
    repeat' (first | (simp (disch := first | omega | assumption | (simp only [List.length_set]; omega) | (simp [*] <;> fail) | assumption) [-Bool.decide_and, -Bool.decide_or, -Bool.not_and, -Bool.not_or, toNat_pred, toNat_succ, wrap64, wr_new, wr_new0, ok_if, ok_ifn, iadV_sl, makeV_int, decT, decF, over_at, *, hA1.len]) | (with_reducible refine Gd_split (fun hc => ?_) (fun hc => ?_) <;> (have hc2 := hc; try simp at hc2)) | (with_reducible refine Br_split (fun hc => ?_) (fun hc => ?_) <;> (have hc2 := hc; try simp at hc2)) | (with_reducible refine GdT_split (fun hc => ?_) (fun hc => ?_) <;> (have hc2 := hc; try simp at hc2)) | (with_reducible refine WT_alt ?_ ?_) | omega)
    rw [← lensT_zero] at hN
    refine WL_forM 140737354137640 (by decide +kernel) (R.qs.length) (fun i b g => i ≤ R.qs.length ∧ b 5 = .lf (.int .i64 i) ∧ ∃ o, b 3 = .lf o ∧ New h g o 2 1 ((lensT R i).map il)) (fun _ _ _ hi => hi.1) ⟨by omega, by simp, o, by simp [over_at, e3], hN⟩ ?_
    rintro i b2 g2 ⟨hi, e5, o2, e32, hN2⟩
    have hk2 := hN2.kept
    have hB2 := hB.kept hk2
    have s1 := hk2.rd r1
    have hl2 := lensT_len (R := R) (i := i)
    by_cases hlt : i < R.qs.length
    · have t1 := lensT_il hlt
      have t1H : Hid ((lensT R (i + 1)).map il = (lensT R i).map il ++ [[.int .i64 R.qs[i].len]]) := t1
      clear hK t1
      repeat' (first | (simp (disch := first | omega | assumption | (simp only [List.length_set]; omega) | (simp [*] <;> fail) | assumption) [-Bool.decide_and, -Bool.decide_or, -Bool.not_and, -Bool.not_or, toNat_pred, toNat_succ, wrap64, wr_new, wr_new0, ok_if, ok_ifn, iadV_sl, makeV_int, decT, decF, over_at, *, hB2.len, hB2.at_, hB2.at_', hB2.rd, hB2.rdIn, hB2.rdIn0, hB2.rdA, hB2.rdInA, hB2.rdIn0A, Pas.cells, leavesAll, fillL]) | (with_reducible refine Gd_split (fun hc => ?_) (fun hc => ?_) <;> (have hc2 := hc; try simp at hc2)) | (with_reducible refine Br_split (fun hc => ?_) (fun hc => ?_) <;> (have hc2 := hc; try simp at hc2)) | (with_reducible refine GdT_split (fun hc => ?_) (fun hc => ?_) <;> (have hc2 := hc; try simp at hc2)) | (with_reducible refine WT_alt ?_ ?_) | omega)
      refine oc_push (bytes := 8) (r := [.int .i64 R.qs[i].len]) hN2 ?_ ?_ ?_ (by decide) rfl (by decide)
      · exact hl
      · simp; omega
      intro o3 g5 hN5 hB5
      rw [← show (lensT R (i + 1)).map il = _ from t1H] at hN5
      clear t1H
      repeat' (first | (simp (disch := first | omega | assumption | (simp only [List.length_set]; omega) | (simp [*] <;> fail) | assumption) [-Bool.decide_and, -Bool.decide_or, -Bool.not_and, -Bool.not_or, toNat_pred, toNat_succ, wrap64, wr_new, wr_new0, ok_if, ok_ifn, iadV_sl, makeV_int, decT, decF, over_at, *]) | (with_reducible refine Gd_split (fun hc => ?_) (fun hc => ?_) <;> (have hc2 := hc; try simp at hc2)) | (with_reducible refine Br_split (fun hc => ?_) (fun hc => ?_) <;> (have hc2 := hc; try simp at hc2)) | (with_reducible refine GdT_split (fun hc => ?_) (fun hc => ?_) <;> (have hc2 := hc; try simp at hc2)) | (with_reducible refine WT_alt ?_ ?_) | omega)
    · have : i = R.qs.length := by omega
      subst this
      rw [lensT_all] at hN2
      have hk3 := hK _ _ hN2
      clear hK
      repeat' (first | (simp (disch := first | omega | assumption | (simp only [List.length_set]; omega) | (simp [*] <;> fail) | assumption) [-Bool.decide_and, -Bool.decide_or, -Bool.not_and, -Bool.not_or, toNat_pred, toNat_succ, wrap64, wr_new, wr_new0, ok_if, ok_ifn, iadV_sl, makeV_int, decT, decF, over_at, *, hB2.len]) | (with_reducible refine Gd_split (fun hc => ?_) (fun hc => ?_) <;> (have hc2 := hc; try simp at hc2)) | (with_reducible refine Br_split (fun hc => ?_) (fun hc => ?_) <;> (have hc2 := hc; try simp at hc2)) | (with_reducible refine GdT_split (fun hc => ?_) (fun hc => ?_) <;> (have hc2 := hc; try simp at hc2)) | (with_reducible refine WT_alt ?_ ?_) | omega)
set_option maxHeartbeats 2000000 in
theorem c_lengths (hA : Arr h l 5 (R.ds.map Dly.cells)) (hB : Arr h l2 2 (R.qs.map Pas.cells)) (hn : R.ds.length ≤ 400000 ∧ R.qs.length ≤ 400000) (hl : lim ≤ h.length) (hK : ∀ o g, New h g o 2 1 ((lensR R).map il) → K (.lf o) g) : CallT S false 156 [.agg (R.cells l l2)] h lim K := by
  have kb := Kept.app h [⟨R.cells l l2, .own 59 1⟩]
  have r0 : rdCells (h ++ [⟨R.cells l l2, .own 59 1⟩]) h.length 0 1 = some [l] := Cel.new.rd (by simp [Rm.cells])
  have r1 : rdCells (h ++ [⟨R.cells l l2, .own 59 1⟩]) h.length 1 1 = some [l2] := Cel.new.rd (by simp [Rm.cells])
  have hle : (R.cells l l2).length = 4 := rfl
  have hlb : lim ≤ (h ++ [⟨R.cells l l2, .own 59 1⟩] : Hp).length := by simp; omega
  refine CallT_of_body (F := L156) (HasRv.f156) rfl ?_; unfold L156; dsimp only []
  repeat' (first | (simp (disch := first | omega | assumption | (simp only [List.length_set]; omega) | (simp [*] <;> fail) | assumption) [-Bool.decide_and, -Bool.decide_or, -Bool.not_and, -Bool.not_or, toNat_pred, toNat_succ, wrap64, wr_new, wr_new0, ok_if, ok_ifn, iadV_sl, makeV_int, decT, decF, over_at, *, hA.len]) | (with_reducible refine Gd_split (fun hc => ?_) (fun hc => ?_) <;> (have hc2 := hc; try simp at hc2)) | (with_reducible refine Br_split (fun hc => ?_) (fun hc => ?_) <;> (have hc2 := hc; try simp at hc2)) | (with_reducible refine GdT_split (fun hc => ?_) (fun hc => ?_) <;> (have hc2 := hc; try simp at hc2)) | (with_reducible refine WT_alt ?_ ?_) | omega)
  replace hA := hA.kept kb
  replace hB := hB.kept kb
  refine WL_forM 2095144 (by decide +kernel) (R.ds.length) (fun i b g => i ≤ R.ds.length ∧ b 11 = .lf (.int .i64 i) ∧ ∃ o, b 3 = .lf o ∧ New (h ++ [⟨R.cells l l2, .own 59 1⟩]) g o 2 1 ((mapTo (·.len) R.ds i).map il)) (fun _ _ _ hi => hi.1) ⟨by omega, by simp, .nils, by simp, by simpa using New.nil (Kept.refl _)⟩ ?_
  rintro i b g ⟨hi, e4, o, e3, hN⟩
  have hk := hN.kept
  have hgl := Nat.le_trans hlb hk.1
  have hA1 := hA.kept hk
  have hl1 := mapTo_len (f := fun d : Dly => d.len) (xs := R.ds) (i := i)
  by_cases hlt : i < R.ds.length
  · have s1 := mapTo_il (f := fun d : Dly => d.len) hlt
    have s1H : Hid ((mapTo (fun d : Dly => d.len) R.ds (i + 1)).map il = (mapTo (fun d : Dly => d.len) R.ds i).map il ++ [[.int .i64 R.ds[i].len]]) := s1
    have hN1 := hN.app (t := [⟨[.int .i64 R.ds[i].len, .flt .f32 R.ds[i].fb, .flt .f32 R.ds[i].dry, .flt .f32 R.ds[i].wet, .bool R.ds[i].fl], .own 197 1⟩, ⟨[.int .i64 R.ds[i].len], .own 2 1⟩])
    clear hK s1
    repeat' (first | (simp (disch := first | omega | assumption | (simp only [List.length_set]; omega) | (simp [*] <;> fail) | assumption) [-Bool.decide_and, -Bool.decide_or, -Bool.not_and, -Bool.not_or, toNat_pred, toNat_succ, wrap64, wr_new, wr_new0, ok_if, ok_ifn, iadV_sl, makeV_int, decT, decF, over_at, *, hA1.len, hA1.at_, hA1.at_', hA1.rd, hA1.rdIn, hA1.rdIn0, hA1.rdA, hA1.rdInA, hA1.rdIn0A, Dly.cells, leavesAll, fillL]) | (with_reducible refine Gd_split (fun hc => ?_) (fun hc => ?_) <;> (have hc2 := hc; try simp at hc2)) | (with_reducible refine Br_split (fun hc => ?_) (fun hc => ?_) <;> (have hc2 := hc; try simp at hc2)) | (with_reducible refine GdT_split (fun hc => ?_) (fun hc => ?_) <;> (have hc2 := hc; try simp at hc2)) | (with_reducible refine WT_alt ?_ ?_) | omega)
    refine oc_pushS hN1 (r := [.int .i64 R.ds[i].len]) (by simp) hlb (by simp; omega) (fun o2 g5 hN5 hB5 => ?_) (by decide) (by decide)
    rw [← show (mapTo (fun d : Dly => d.len) R.ds (i + 1)).map il = _ from s1H] at hN5
    clear s1H
    repeat' (first | (simp (disch := first | omega | assumption | (simp only [List.length_set]; omega) | (simp [*] <;> fail) | assumption) [-Bool.decide_and, -Bool.decide_or, -Bool.not_and, -Bool.not_or, toNat_pred, toNat_succ, wrap64, wr_new, wr_new0, ok_if, ok_ifn, iadV_sl, makeV_int, decT, decF, over_at, *]) | (with_reducible refine Gd_split (fun hc => ?_) (fun hc => ?_) <;> (have hc2 := hc; try simp at hc2)) | (with_reducible refine Br_split (fun hc => ?_) (fun hc => ?_) <;> (have hc2 := hc; try simp at hc2)) | (with_reducible refine GdT_split (fun hc => ?_) (fun hc => ?_) <;> (have hc2 := hc; try simp at hc2)) | (with_reducible refine WT_alt ?_ ?_) | omega)
  · have : i = R.ds.length := by omega
    subst this
    rw [mapTo_all, ← lensT_zero] at hN
    have u1 := hk.rd r1
    repeat' (first | (simp (disch := first | omega | assumption | (simp only [List.length_set]; omega) | (simp [*] <;> fail) | assumption) [-Bool.decide_and, -Bool.decide_or, -Bool.not_and, -Bool.not_or, toNat_pred, toNat_succ, wrap64, wr_new, wr_new0, ok_if, ok_ifn, iadV_sl, makeV_int, decT, decF, over_at, *, (hB.kept hk).len]) | (with_reducible refine Gd_split (fun hc => ?_) (fun hc => ?_) <;> (have hc2 := hc; try simp at hc2)) | (with_reducible refine Br_split (fun hc => ?_) (fun hc => ?_) <;> (have hc2 := hc; try simp at hc2)) | (with_reducible refine GdT_split (fun hc => ?_) (fun hc => ?_) <;> (have hc2 := hc; try simp at hc2)) | (with_reducible refine WT_alt ?_ ?_) | omega)
    refine WL_forM 17163092104 (by decide +kernel) (R.qs.length) (fun i b g => i ≤ R.qs.length ∧ b 24 = .lf (.int .i64 i) ∧ ∃ o, b 3 = .lf o ∧ New (h ++ [⟨R.cells l l2, .own 59 1⟩]) g o 2 1 ((lensT R i).map il)) (fun _ _ _ hi => hi.1) ⟨by omega, by simp, o, by simp [over_at, e3], hN⟩ ?_
    rintro i b2 g2 ⟨hi, e5, o2, e32, hN2⟩
    have hk2 := hN2.kept
    have hgl2 := Nat.le_trans hlb hk2.1
    have hB2 := hB.kept hk2
    have hl2 := lensT_len (R := R) (i := i)
    by_cases hlt : i < R.qs.length
    · have t1 := lensT_il hlt
      have t1H : Hid ((lensT R (i + 1)).map il = (lensT R i).map il ++ [[.int .i64 R.qs[i].len]]) := t1
      have hN3 := hN2.app (t := [⟨[.int .i64 R.qs[i].len, .flt .f32 R.qs[i].g], .own 199 1⟩, ⟨[.int .i64 R.qs[i].len], .own 2 1⟩])
      clear hK t1
      repeat' (first | (simp (disch := first | omega | assumption | (simp only [List.length_set]; omega) | (simp [*] <;> fail) | assumption) [-Bool.decide_and, -Bool.decide_or, -Bool.not_and, -Bool.not_or, toNat_pred, toNat_succ, wrap64, wr_new, wr_new0, ok_if, ok_ifn, iadV_sl, makeV_int, decT, decF, over_at, *, hB2.len, hB2.at_, hB2.at_', hB2.rd, hB2.rdIn, hB2.rdIn0, hB2.rdA, hB2.rdInA, hB2.rdIn0A, Pas.cells, leavesAll, fillL]) | (with_reducible refine Gd_split (fun hc => ?_) (fun hc => ?_) <;> (have hc2 := hc; try simp at hc2)) | (with_reducible refine Br_split (fun hc => ?_) (fun hc => ?_) <;> (have hc2 := hc; try simp at hc2)) | (with_reducible refine GdT_split (fun hc => ?_) (fun hc => ?_) <;> (have hc2 := hc; try simp at hc2)) | (with_reducible refine WT_alt ?_ ?_) | omega)
      refine oc_pushS hN3 (r := [.int .i64 R.qs[i].len]) (by simp) hlb (by simp; omega) (fun o3 g5 hN5 hB5 => ?_) (by decide) (by decide)
      rw [← show (lensT R (i + 1)).map il = _ from t1H] at hN5
      clear t1H
      repeat' (first | (simp (disch := first | omega | assumption | (simp only [List.length_set]; omega) | (simp [*] <;> fail) | assumption) [-Bool.decide_and, -Bool.decide_or, -Bool.not_and, -Bool.not_or, toNat_pred, toNat_succ, wrap64, wr_new, wr_new0, ok_if, ok_ifn, iadV_sl, makeV_int, decT, decF, over_at, *]) | (with_reducible refine Gd_split (fun hc => ?_) (fun hc => ?_) <;> (have hc2 := hc; try simp at hc2)) | (with_reducible refine Br_split (fun hc => ?_) (fun hc => ?_) <;> (have hc2 := hc; try simp at hc2)) | (with_reducible refine GdT_split (fun hc => ?_) (fun hc => ?_) <;> (have hc2 := hc; try simp at hc2)) | (with_reducible refine WT_alt ?_ ?_) | omega)
    · have : i = R.qs.length := by omega
      subst this
      rw [lensT_all] at hN2
      have hk3 := hK _ _ (hN2.base kb)
      clear hK
      repeat' (first | (simp (disch := first | omega | assumption | (simp only [List.length_set]; omega) | (simp [*] <;> fail) | assumption) [-Bool.decide_and, -Bool.decide_or, -Bool.not_and, -Bool.not_or, toNat_pred, toNat_succ, wrap64, wr_new, wr_new0, ok_if, ok_ifn, iadV_sl, makeV_int, decT, decF, over_at, *, hB2.len]) | (with_reducible refine Gd_split (fun hc => ?_) (fun hc => ?_) <;> (have hc2 := hc; try simp at hc2)) | (with_reducible refine Br_split (fun hc => ?_) (fun hc => ?_) <;> (have hc2 := hc; try simp at hc2)) | (with_reducible refine GdT_split (fun hc => ?_) (fun hc => ?_) <;> (have hc2 := hc; try simp at hc2)) | (with_reducible refine WT_alt ?_ ?_) | omega)
theorem c_allW {xs : List Int} {u v : Int} (hA : Arr h l 1 (xs.map il)) : CallT S true 155 [.lf l, .lf (.int .i64 u), .lf (.int .i64 v)] h lim K = K (.lf (.bool (decide (∀ n ∈ xs, u ≤ n ∧ n ≤ v)))) h := by
  have hb := hA.bound
  refine CallT_pure (F := L155) (HasRv.f155) rfl (by first | rfl | (split <;> rfl) | simp) ?_; unfold L155; dsimp only []
  repeat' (first | (simp (disch := first | omega | assumption | (simp only [List.length_set]; omega) | (simp [*] <;> fail) | assumption) [-Bool.decide_and, -Bool.decide_or, -Bool.not_and, -Bool.not_or, toNat_pred, toNat_succ, wrap64, wr_new, wr_new0, ok_if, ok_ifn, iadV_sl, makeV_int, decT, decF, over_at, *, hA.len]) | (with_reducible refine Gd_split (fun hc => ?_) (fun hc => ?_) <;> (have hc2 := hc; try simp at hc2)) | (with_reducible refine Br_split (fun hc => ?_) (fun hc => ?_) <;> (have hc2 := hc; try simp at hc2)) | (with_reducible refine GdT_split (fun hc => ?_) (fun hc => ?_) <;> (have hc2 := hc; try simp at hc2)) | (with_reducible refine WT_alt ?_ ?_) | omega)
  refine WL_forM 2095424 (by decide +kernel) (xs.length) (fun i b g => i ≤ xs.length ∧ b 11 = .lf (.int .i64 i) ∧ h = g ∧ ∀ j (hj : j < xs.length), j < i → u ≤ xs[j] ∧ xs[j] ≤ v) (fun _ _ _ hi => hi.1) ⟨by omega, by simp, rfl, fun j _ q => by omega⟩ ?_
  rintro i b g ⟨hi, e3, rfl, hu⟩
  by_cases hlt : i < xs.length
  · by_cases k1 : u ≤ xs[i] ∧ xs[i] ≤ v
    · have hok : ∀ j (hj : j < xs.length), j < i + 1 → u ≤ xs[j] ∧ xs[j] ≤ v := fun j hj q => by
        by_cases e : j = i
        · subst e; exact k1
        · exact hu j hj (by omega)
      clear hu
      repeat' (first | (simp (disch := first | omega | assumption | (simp only [List.length_set]; omega) | (simp [*] <;> fail) | assumption) [-Bool.decide_and, -Bool.decide_or, -Bool.not_and, -Bool.not_or, toNat_pred, toNat_succ, wrap64, wr_new, wr_new0, ok_if, ok_ifn, iadV_sl, makeV_int, decT, decF, over_at, *, hA.len, hA.at_, hA.at_', hA.rd, hA.rdIn, hA.rdIn0, hA.rdA, hA.rdInA, hA.rdIn0A, hA.rd1, il]) | (with_reducible refine Gd_split (fun hc => ?_) (fun hc => ?_) <;> (have hc2 := hc; try simp at hc2)) | (with_reducible refine Br_split (fun hc => ?_) (fun hc => ?_) <;> (have hc2 := hc; try simp at hc2)) | (with_reducible refine GdT_split (fun hc => ?_) (fun hc => ?_) <;> (have hc2 := hc; try simp at hc2)) | (with_reducible refine WT_alt ?_ ?_) | omega)
      exact ⟨hlt, hok⟩
    · have hno : decide (∀ n ∈ xs, u ≤ n ∧ n ≤ v) = false := decide_eq_false fun q => k1 (q _ (List.getElem_mem hlt))
      clear hu
      repeat' (first | (simp (disch := first | omega | assumption | (simp only [List.length_set]; omega) | (simp [*] <;> fail) | assumption) [-Bool.decide_and, -Bool.decide_or, -Bool.not_and, -Bool.not_or, toNat_pred, toNat_succ, wrap64, wr_new, wr_new0, ok_if, ok_ifn, iadV_sl, makeV_int, decT, decF, over_at, *, hA.len, hA.at_, hA.at_', hA.rd, hA.rdIn, hA.rdIn0, hA.rdA, hA.rdInA, hA.rdIn0A, hA.rd1, il]) | (with_reducible refine Gd_split (fun hc => ?_) (fun hc => ?_) <;> (have hc2 := hc; try simp at hc2)) | (with_reducible refine Br_split (fun hc => ?_) (fun hc => ?_) <;> (have hc2 := hc; try simp at hc2)) | (with_reducible refine GdT_split (fun hc => ?_) (fun hc => ?_) <;> (have hc2 := hc; try simp at hc2)) | (with_reducible refine WT_alt ?_ ?_) | omega)
  · have : i = xs.length := by omega
    subst this
    have hyes : decide (∀ n ∈ xs, u ≤ n ∧ n ≤ v) = true := decide_eq_true fun n hn => by
      obtain ⟨j, hj, rfl⟩ := List.mem_iff_getElem.1 hn
      exact hu j hj hj
    clear hu
    repeat' (first | (simp (disch := first | omega | assumption | (simp only [List.length_set]; omega) | (simp [*] <;> fail) | assumption) [-Bool.decide_and, -Bool.decide_or, -Bool.not_and, -Bool.not_or, toNat_pred, toNat_succ, wrap64, wr_new, wr_new0, ok_if, ok_ifn, iadV_sl, makeV_int, decT, decF, over_at, *]) | (with_reducible refine Gd_split (fun hc => ?_) (fun hc => ?_) <;> (have hc2 := hc; try simp at hc2)) | (with_reducible refine Br_split (fun hc => ?_) (fun hc => ?_) <;> (have hc2 := hc; try simp at hc2)) | (with_reducible refine GdT_split (fun hc => ?_) (fun hc => ?_) <;> (have hc2 := hc; try simp at hc2)) | (with_reducible refine WT_alt ?_ ?_) | omega)
theorem c_ValidRoom (hA : Arr h l 5 (R.ds.map Dly.cells)) (hB : Arr h l2 2 (R.qs.map Pas.cells)) : CallT S true 90 [.agg (R.cells l l2)] h lim K = K (.lf (.bool (decide (rmOk R)))) h := by
  have hbA := hA.bound
  have hbB := hB.bound
  have kb := Kept.app h [⟨R.cells l l2, .own 59 1⟩]
  have r0 : rdCells (h ++ [⟨R.cells l l2, .own 59 1⟩]) h.length 0 1 = some [l] := Cel.new.rd (by simp [Rm.cells])
  have r1 : rdCells (h ++ [⟨R.cells l l2, .own 59 1⟩]) h.length 1 1 = some [l2] := Cel.new.rd (by simp [Rm.cells])
  have hle : (R.cells l l2).length = 4 := rfl
  have hte : List.take 4 (R.cells l l2) = R.cells l l2 := rfl
  by_cases k1 : (1 : Int) ≤ R.ds.length ∧ (R.ds.length : Int) ≤ 4
  · by_cases k2 : (R.qs.length : Int) ≤ 3
    · have hd : decide (rmOk R) = decide (∀ n ∈ lensR R, 1 ≤ n ∧ n ≤ 64) := by
        rw [Bool.eq_iff_iff]
        simp only [decide_eq_true_eq]
        unfold rmOk in64
        exact ⟨fun q => q.1, fun q => ⟨q, by omega⟩⟩
      rw [hd]
      clear hd
      have k2' : ¬ (3 : Int) < R.qs.length := by omega
      refine CallT_pure (F := L90) (HasRv.f90) rfl (by first | rfl | (split <;> rfl) | simp) ?_; unfold L90; dsimp only []
      repeat' (first | (simp (disch := first | omega | assumption | (simp only [List.length_set]; omega) | (simp [*] <;> fail) | assumption) [-Bool.decide_and, -Bool.decide_or, -Bool.not_and, -Bool.not_or, toNat_pred, toNat_succ, wrap64, wr_new, wr_new0, ok_if, ok_ifn, iadV_sl, makeV_int, decT, decF, over_at, *, hA.len, hB.len]) | (with_reducible refine Gd_split (fun hc => ?_) (fun hc => ?_) <;> (have hc2 := hc; try simp at hc2)) | (with_reducible refine Br_split (fun hc => ?_) (fun hc => ?_) <;> (have hc2 := hc; try simp at hc2)) | (with_reducible refine GdT_split (fun hc => ?_) (fun hc => ?_) <;> (have hc2 := hc; try simp at hc2)) | (with_reducible refine WT_alt ?_ ?_) | omega)
      refine c_lengths (hA.kept kb) (hB.kept kb) (by omega) (by simp) fun o g hO => ?_
      have hw := fun lim K => c_allW (S := S) (h := g) (lim := lim) (K := K) (u := 1) (v := 64) hO.arr
      generalize decide (∀ n ∈ lensR R, (1 : Int) ≤ n ∧ n ≤ 64) = ok at *
      repeat' (first | (simp (disch := first | omega | assumption | (simp only [List.length_set]; omega) | (simp [*] <;> fail) | assumption) [-Bool.decide_and, -Bool.decide_or, -Bool.not_and, -Bool.not_or, toNat_pred, toNat_succ, wrap64, wr_new, wr_new0, ok_if, ok_ifn, iadV_sl, makeV_int, decT, decF, over_at, *]) | (with_reducible refine Gd_split (fun hc => ?_) (fun hc => ?_) <;> (have hc2 := hc; try simp at hc2)) | (with_reducible refine Br_split (fun hc => ?_) (fun hc => ?_) <;> (have hc2 := hc; try simp at hc2)) | (with_reducible refine GdT_split (fun hc => ?_) (fun hc => ?_) <;> (have hc2 := hc; try simp at hc2)) | (with_reducible refine WT_alt ?_ ?_) | omega)
    · have hno : decide (rmOk R) = false := decide_eq_false fun q => k2 (by have := q.2; omega)
      refine CallT_pure (F := L90) (HasRv.f90) rfl (by first | rfl | (split <;> rfl) | simp) ?_; unfold L90; dsimp only []
      repeat' (first | (simp (disch := first | omega | assumption | (simp only [List.length_set]; omega) | (simp [*] <;> fail) | assumption) [-Bool.decide_and, -Bool.decide_or, -Bool.not_and, -Bool.not_or, toNat_pred, toNat_succ, wrap64, wr_new, wr_new0, ok_if, ok_ifn, iadV_sl, makeV_int, decT, decF, over_at, *, hA.len, hB.len]) | (with_reducible refine Gd_split (fun hc => ?_) (fun hc => ?_) <;> (have hc2 := hc; try simp at hc2)) | (with_reducible refine Br_split (fun hc => ?_) (fun hc => ?_) <;> (have hc2 := hc; try simp at hc2)) | (with_reducible refine GdT_split (fun hc => ?_) (fun hc => ?_) <;> (have hc2 := hc; try simp at hc2)) | (with_reducible refine WT_alt ?_ ?_) | omega)
  · have hno : decide (rmOk R) = false := decide_eq_false fun q => k1 (by have := q.2; omega)
    refine CallT_pure (F := L90) (HasRv.f90) rfl (by first | rfl | (split <;> rfl) | simp) ?_; unfold L90; dsimp only []
    repeat' (first | (simp (disch := first | omega | assumption | (simp only [List.length_set]; omega) | (simp [*] <;> fail) | assumption) [-Bool.decide_and, -Bool.decide_or, -Bool.not_and, -Bool.not_or, toNat_pred, toNat_succ, wrap64, wr_new, wr_new0, ok_if, ok_ifn, iadV_sl, makeV_int, decT, decF, over_at, *, hA.len, hB.len]) | (with_reducible refine Gd_split (fun hc => ?_) (fun hc => ?_) <;> (have hc2 := hc; try simp at hc2)) | (with_reducible refine Br_split (fun hc => ?_) (fun hc => ?_) <;> (have hc2 := hc; try simp at hc2)) | (with_reducible refine GdT_split (fun hc => ?_) (fun hc => ?_) <;> (have hc2 := hc; try simp at hc2)) | (with_reducible refine WT_alt ?_ ?_) | omega)
end
end Go.E
