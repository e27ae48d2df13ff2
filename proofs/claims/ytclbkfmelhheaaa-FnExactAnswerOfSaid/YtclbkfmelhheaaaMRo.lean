/- Rooms: the laws' helpers. -/
import Derived.Test.YtclbkfmelhheaaaMC
import Derived.Test.YtclbkfmelhheaaaMDm
set_option linter.unusedVariables false
set_option linter.unusedSimpArgs false
namespace Go.E
open Go
def L153 : LFn := ⟨1, (.seq (.reg [⟨(.some 1), (.box 207 (.t 0)), none⟩, ⟨(.some 2), (.alloc 197 [(.int .i64 0), (.flt .f32 0), (.flt .f32 0), (.flt .f32 0), (.bool false)]), none⟩])
 (.seq (.reg [⟨(.some 3), (.alloc 197 [(.int .i64 0), (.flt .f32 0), (.flt .f32 0), (.flt .f32 0), (.bool false)]), none⟩])
 (.seq (.reg [⟨(.some 4), (.faddr 0 (.t 1)), none⟩, ⟨(.some 5), (.load false 1 (.t 4)), none⟩, ⟨(.some 6), (.faddr 0 (.t 3)), none⟩, ⟨none, (.store 1 (.t 6) (.t 5)), none⟩])
 (.seq (.reg [⟨(.some 7), (.faddr 1 (.t 1)), none⟩, ⟨(.some 8), (.load false 1 (.t 7)), none⟩, ⟨(.some 9), (.faddr 1 (.t 3)), none⟩, ⟨none, (.store 1 (.t 9) (.t 8)), none⟩])
 (.seq (.reg [⟨(.some 10), (.faddr 2 (.t 1)), none⟩, ⟨(.some 11), (.load false 1 (.t 10)), none⟩, ⟨(.some 12), (.faddr 2 (.t 3)), none⟩, ⟨none, (.store 1 (.t 12) (.t 11)), none⟩])
 (.seq (.reg [⟨(.some 13), (.faddr 3 (.t 1)), none⟩, ⟨(.some 14), (.load false 1 (.t 13)), none⟩, ⟨(.some 15), (.faddr 3 (.t 3)), none⟩, ⟨none, (.store 1 (.t 15) (.t 14)), none⟩])
 (.seq (.reg [⟨(.some 16), (.faddr 4 (.t 1)), none⟩, ⟨(.some 17), (.load false 1 (.t 16)), none⟩, ⟨(.some 18), (.faddr 4 (.t 3)), none⟩, ⟨none, (.store 1 (.t 18) (.t 17)), none⟩])
 (.seq (.reg [⟨(.some 19), (.load true 5 (.t 3)), none⟩, ⟨none, (.store 5 (.t 2) (.t 19)), none⟩])
 .ret)))))))), [(.cell 2 true 5)]⟩
def L161 : LFn := ⟨2, (.seq (.reg [⟨(.some 2), (.box 197 (.t 0)), none⟩, ⟨(.some 3), (.box 197 (.t 1)), none⟩, ⟨(.some 4), (.mv (.c (.lf (.bool false)))), none⟩])
 (.seq (.seq (.reg [⟨(.some 5), (.faddr 0 (.t 2)), none⟩, ⟨(.some 6), (.load false 1 (.t 5)), none⟩, ⟨(.some 7), (.faddr 0 (.t 3)), none⟩, ⟨(.some 8), (.load false 1 (.t 7)), none⟩, ⟨(.some 9), (.bin .neq (.t 6) (.t 8)), none⟩])
 (.cond (.t 9) (.seq (.reg [⟨(.some 4), (.mv (.c (.lf (.bool false)))), none⟩])
 .ret) .skip))
 (.seq (.seq (.reg [⟨(.some 10), (.faddr 1 (.t 2)), none⟩, ⟨(.some 11), (.load false 1 (.t 10)), none⟩, ⟨(.some 12), (.toflt .f64 (.t 11)), none⟩, ⟨(.some 13), (.faddr 1 (.t 3)), none⟩, ⟨(.some 14), (.load false 1 (.t 13)), none⟩, ⟨(.some 15), (.toflt .f64 (.t 14)), none⟩, ⟨(.some 16), (.call true 67 [(.t 12), (.t 15)]), none⟩, ⟨(.some 17), (.una .not (.t 16)), none⟩])
 (.cond (.t 17) (.seq (.reg [⟨(.some 4), (.mv (.c (.lf (.bool false)))), none⟩])
 .ret) .skip))
 (.seq (.seq (.reg [⟨(.some 18), (.faddr 2 (.t 2)), none⟩, ⟨(.some 19), (.load false 1 (.t 18)), none⟩, ⟨(.some 20), (.toflt .f64 (.t 19)), none⟩, ⟨(.some 21), (.faddr 2 (.t 3)), none⟩, ⟨(.some 22), (.load false 1 (.t 21)), none⟩, ⟨(.some 23), (.toflt .f64 (.t 22)), none⟩, ⟨(.some 24), (.call true 67 [(.t 20), (.t 23)]), none⟩, ⟨(.some 25), (.una .not (.t 24)), none⟩])
 (.cond (.t 25) (.seq (.reg [⟨(.some 4), (.mv (.c (.lf (.bool false)))), none⟩])
 .ret) .skip))
 (.seq (.seq (.reg [⟨(.some 26), (.faddr 3 (.t 2)), none⟩, ⟨(.some 27), (.load false 1 (.t 26)), none⟩, ⟨(.some 28), (.toflt .f64 (.t 27)), none⟩, ⟨(.some 29), (.faddr 3 (.t 3)), none⟩, ⟨(.some 30), (.load false 1 (.t 29)), none⟩, ⟨(.some 31), (.toflt .f64 (.t 30)), none⟩, ⟨(.some 32), (.call true 67 [(.t 28), (.t 31)]), none⟩, ⟨(.some 33), (.una .not (.t 32)), none⟩])
 (.cond (.t 33) (.seq (.reg [⟨(.some 4), (.mv (.c (.lf (.bool false)))), none⟩])
 .ret) .skip))
 (.seq (.seq (.reg [⟨(.some 34), (.faddr 4 (.t 2)), none⟩, ⟨(.some 35), (.load false 1 (.t 34)), none⟩, ⟨(.some 36), (.faddr 4 (.t 3)), none⟩, ⟨(.some 37), (.load false 1 (.t 36)), none⟩, ⟨(.some 38), (.beq true (.t 35) (.t 37)), none⟩])
 (.cond (.t 38) (.seq (.reg [⟨(.some 4), (.mv (.c (.lf (.bool false)))), none⟩])
 .ret) .skip))
 (.seq (.reg [⟨(.some 4), (.mv (.c (.lf (.bool true)))), none⟩])
 .ret))))))), [(.tmp 4)]⟩
def L88 : LFn := ⟨1, (.seq (.reg [⟨(.some 2), (.mv (.c (.lf .nils))), none⟩])
 (.seq (.reg [⟨(.some 5), (.mv (.t 0)), none⟩, ⟨(.some 6), (.len (.t 5)), none⟩, ⟨(.some 7), (.make 197 5 24 [(.int .i64 0), (.flt .f32 0), (.flt .f32 0), (.flt .f32 0), (.bool false)] (.t 6) (.t 6)), none⟩, ⟨(.some 3), (.mv (.t 7)), none⟩])
 (.seq (.seq (.reg [⟨(.some 4), (.mv (.c (.lf (.int .i64 0)))), none⟩])
 (.block 0 (.loop (.seq (.seq (.reg [⟨(.some 8), (.mv (.t 4)), none⟩, ⟨(.some 9), (.mv (.t 0)), none⟩, ⟨(.some 10), (.len (.t 9)), none⟩, ⟨(.some 11), (.bin .lss (.t 8) (.t 10)), none⟩])
 (.cond (.t 11) .skip (.exit 0)))
 (.seq (.block 1 (.reg [⟨(.some 14), (.mv (.t 3)), none⟩, ⟨(.some 15), (.mv (.t 4)), none⟩, ⟨(.some 16), (.mv (.t 0)), none⟩, ⟨(.some 17), (.mv (.t 4)), none⟩, ⟨(.some 18), (.iaddr 5 (.t 16) (.t 17)), none⟩, ⟨(.some 19), (.load true 5 (.t 18)), none⟩, ⟨(.some 20), (.call true 153 [(.t 19)]), none⟩, ⟨(.some 21), (.iaddr 5 (.t 14) (.t 15)), none⟩, ⟨none, (.store 5 (.t 21) (.t 20)), none⟩]))
 (.reg [⟨(.some 12), (.mv (.t 4)), none⟩, ⟨(.some 13), (.bin .add (.t 12) (.c (.lf (.int .i64 1)))), none⟩, ⟨(.some 4), (.mv (.t 13)), none⟩]))))))
 (.seq (.reg [⟨(.some 22), (.mv (.t 3)), none⟩, ⟨(.some 2), (.mv (.t 22)), none⟩])
 .ret)))), [(.tmp 2)]⟩
def L95 : LFn := ⟨2, (.seq (.reg [⟨(.some 4), (.mv (.c (.lf (.bool false)))), none⟩])
 (.seq (.seq (.reg [⟨(.some 6), (.mv (.t 0)), none⟩, ⟨(.some 7), (.len (.t 6)), none⟩, ⟨(.some 8), (.mv (.t 1)), none⟩, ⟨(.some 9), (.len (.t 8)), none⟩, ⟨(.some 10), (.bin .neq (.t 7) (.t 9)), none⟩])
 (.cond (.t 10) (.seq (.reg [⟨(.some 4), (.mv (.c (.lf (.bool false)))), none⟩])
 .ret) .skip))
 (.seq (.seq (.reg [⟨(.some 5), (.mv (.c (.lf (.int .i64 0)))), none⟩])
 (.block 0 (.loop (.seq (.seq (.reg [⟨(.some 11), (.mv (.t 5)), none⟩, ⟨(.some 12), (.mv (.t 0)), none⟩, ⟨(.some 13), (.len (.t 12)), none⟩, ⟨(.some 14), (.bin .lss (.t 11) (.t 13)), none⟩])
 (.cond (.t 14) .skip (.exit 0)))
 (.seq (.block 1 (.seq (.reg [⟨(.some 17), (.mv (.t 0)), none⟩, ⟨(.some 18), (.mv (.t 5)), none⟩, ⟨(.some 19), (.iaddr 5 (.t 17) (.t 18)), none⟩, ⟨(.some 20), (.load true 5 (.t 19)), none⟩, ⟨(.some 21), (.mv (.t 1)), none⟩, ⟨(.some 22), (.mv (.t 5)), none⟩, ⟨(.some 23), (.iaddr 5 (.t 21) (.t 22)), none⟩, ⟨(.some 24), (.load true 5 (.t 23)), none⟩, ⟨(.some 25), (.call true 161 [(.t 20), (.t 24)]), none⟩, ⟨(.some 26), (.una .not (.t 25)), none⟩])
 (.cond (.t 26) (.seq (.reg [⟨(.some 4), (.mv (.c (.lf (.bool false)))), none⟩])
 .ret) .skip)))
 (.reg [⟨(.some 15), (.mv (.t 5)), none⟩, ⟨(.some 16), (.bin .add (.t 15) (.c (.lf (.int .i64 1)))), none⟩, ⟨(.some 5), (.mv (.t 16)), none⟩]))))))
 (.seq (.reg [⟨(.some 4), (.mv (.c (.lf (.bool true)))), none⟩])
 .ret)))), [(.tmp 4)]⟩
def L82 : LFn := ⟨2, (.seq (.reg [⟨(.some 4), (.mv (.c (.lf (.int .i64 0)))), none⟩])
 (.seq (.reg [⟨(.some 5), (.mv (.t 1)), none⟩, ⟨(.some 6), (.mv (.t 0)), none⟩, ⟨(.some 7), (.len (.t 6)), none⟩, ⟨(.some 8), (.bin .sub (.t 5) (.t 7)), none⟩, ⟨(.some 1), (.mv (.t 8)), none⟩])
 (.seq (.seq (.reg [⟨(.some 9), (.mv (.t 1)), none⟩, ⟨(.some 10), (.bin .lss (.t 9) (.c (.lf (.int .i64 0)))), none⟩])
 (.cond (.t 10) (.seq (.reg [⟨(.some 4), (.mv (.c (.lf (.int .i64 (-1))))), none⟩])
 .ret) .skip))
 (.seq (.reg [⟨(.some 11), (.mv (.t 1)), none⟩, ⟨(.some 4), (.mv (.t 11)), none⟩])
 .ret)))), [(.tmp 4)]⟩
def L97 : LFn := ⟨2, (.seq (.reg [⟨(.some 4), (.mv (.c (.lf (.int .i64 0)))), none⟩])
 (.seq (.seq (.reg [⟨(.some 5), (.mv (.c (.lf (.int .i64 0)))), none⟩])
 (.block 0 (.loop (.seq (.seq (.reg [⟨(.some 6), (.mv (.t 5)), none⟩, ⟨(.some 7), (.mv (.t 0)), none⟩, ⟨(.some 8), (.len (.t 7)), none⟩, ⟨(.some 9), (.bin .lss (.t 6) (.t 8)), none⟩])
 (.cond (.t 9) .skip (.exit 0)))
 (.seq (.block 1 (.seq (.reg [⟨(.some 12), (.mv (.t 0)), none⟩, ⟨(.some 13), (.mv (.t 5)), none⟩, ⟨(.some 14), (.mv (.t 1)), none⟩, ⟨(.some 15), (.iaddr 5 (.t 12) (.t 13)), none⟩, ⟨(.some 16), (.faddr 0 (.t 15)), none⟩, ⟨none, (.store 1 (.t 16) (.t 14)), none⟩])
 (.seq (.reg [⟨(.some 17), (.mv (.t 1)), none⟩, ⟨(.some 18), (.bin .add (.t 17) (.c (.lf (.int .i64 1)))), none⟩, ⟨(.some 1), (.mv (.t 18)), none⟩])
 (.seq (.reg [⟨(.some 19), (.mv (.t 0)), none⟩, ⟨(.some 20), (.mv (.t 5)), none⟩, ⟨(.some 21), (.mv (.t 1)), none⟩, ⟨(.some 22), (.toflt .f32 (.t 21)), none⟩, ⟨(.some 23), (.iaddr 5 (.t 19) (.t 20)), none⟩, ⟨(.some 24), (.faddr 1 (.t 23)), none⟩, ⟨none, (.store 1 (.t 24) (.t 22)), none⟩])
 (.seq (.reg [⟨(.some 25), (.mv (.t 1)), none⟩, ⟨(.some 26), (.bin .add (.t 25) (.c (.lf (.int .i64 1)))), none⟩, ⟨(.some 1), (.mv (.t 26)), none⟩])
 (.seq (.reg [⟨(.some 27), (.mv (.t 0)), none⟩, ⟨(.some 28), (.mv (.t 5)), none⟩, ⟨(.some 29), (.mv (.t 1)), none⟩, ⟨(.some 30), (.toflt .f32 (.t 29)), none⟩, ⟨(.some 31), (.iaddr 5 (.t 27) (.t 28)), none⟩, ⟨(.some 32), (.faddr 2 (.t 31)), none⟩, ⟨none, (.store 1 (.t 32) (.t 30)), none⟩])
 (.seq (.reg [⟨(.some 33), (.mv (.t 1)), none⟩, ⟨(.some 34), (.bin .add (.t 33) (.c (.lf (.int .i64 1)))), none⟩, ⟨(.some 1), (.mv (.t 34)), none⟩])
 (.seq (.reg [⟨(.some 35), (.mv (.t 0)), none⟩, ⟨(.some 36), (.mv (.t 5)), none⟩, ⟨(.some 37), (.mv (.t 1)), none⟩, ⟨(.some 38), (.toflt .f32 (.t 37)), none⟩, ⟨(.some 39), (.iaddr 5 (.t 35) (.t 36)), none⟩, ⟨(.some 40), (.faddr 3 (.t 39)), none⟩, ⟨none, (.store 1 (.t 40) (.t 38)), none⟩])
 (.seq (.reg [⟨(.some 41), (.mv (.t 1)), none⟩, ⟨(.some 42), (.bin .add (.t 41) (.c (.lf (.int .i64 1)))), none⟩, ⟨(.some 1), (.mv (.t 42)), none⟩])
 (.seq (.reg [⟨(.some 43), (.mv (.t 0)), none⟩, ⟨(.some 44), (.mv (.t 5)), none⟩, ⟨(.some 45), (.mv (.t 1)), none⟩, ⟨(.some 46), (.bin .rem (.t 45) (.c (.lf (.int .i64 3)))), none⟩, ⟨(.some 47), (.bin .eql (.t 46) (.c (.lf (.int .i64 0)))), none⟩, ⟨(.some 48), (.iaddr 5 (.t 43) (.t 44)), none⟩, ⟨(.some 49), (.faddr 4 (.t 48)), none⟩, ⟨none, (.store 1 (.t 49) (.t 47)), none⟩])
 (.reg [⟨(.some 50), (.mv (.t 1)), none⟩, ⟨(.some 51), (.bin .add (.t 50) (.c (.lf (.int .i64 1)))), none⟩, ⟨(.some 1), (.mv (.t 51)), none⟩])))))))))))
 (.reg [⟨(.some 10), (.mv (.t 5)), none⟩, ⟨(.some 11), (.bin .add (.t 10) (.c (.lf (.int .i64 1)))), none⟩, ⟨(.some 5), (.mv (.t 11)), none⟩]))))))
 (.seq (.reg [⟨(.some 52), (.mv (.t 1)), none⟩, ⟨(.some 4), (.mv (.t 52)), none⟩])
 .ret))), [(.tmp 4)]⟩
class HasDLY (S : Sys) : Prop extends HasSame S where
  f153 : S.fs 153 = some L153
  f161 : S.fs 161 = some L161
  f88 : S.fs 88 = some L88
  f95 : S.fs 95 = some L95
  f82 : S.fs 82 = some L82
  f97 : S.fs 97 = some L97
def L154 : LFn := ⟨1, (.seq (.reg [⟨(.some 1), (.box 209 (.t 0)), none⟩, ⟨(.some 2), (.alloc 199 [(.int .i64 0), (.flt .f32 0)]), none⟩])
 (.seq (.reg [⟨(.some 3), (.alloc 199 [(.int .i64 0), (.flt .f32 0)]), none⟩])
 (.seq (.reg [⟨(.some 4), (.faddr 0 (.t 1)), none⟩, ⟨(.some 5), (.load false 1 (.t 4)), none⟩, ⟨(.some 6), (.faddr 0 (.t 3)), none⟩, ⟨none, (.store 1 (.t 6) (.t 5)), none⟩])
 (.seq (.reg [⟨(.some 7), (.faddr 1 (.t 1)), none⟩, ⟨(.some 8), (.load false 1 (.t 7)), none⟩, ⟨(.some 9), (.faddr 1 (.t 3)), none⟩, ⟨none, (.store 1 (.t 9) (.t 8)), none⟩])
 (.seq (.reg [⟨(.some 10), (.load true 2 (.t 3)), none⟩, ⟨none, (.store 2 (.t 2) (.t 10)), none⟩])
 .ret))))), [(.cell 2 true 2)]⟩
def L162 : LFn := ⟨2, (.seq (.reg [⟨(.some 2), (.box 199 (.t 0)), none⟩, ⟨(.some 3), (.box 199 (.t 1)), none⟩, ⟨(.some 4), (.mv (.c (.lf (.bool false)))), none⟩])
 (.seq (.seq (.reg [⟨(.some 5), (.faddr 0 (.t 2)), none⟩, ⟨(.some 6), (.load false 1 (.t 5)), none⟩, ⟨(.some 7), (.faddr 0 (.t 3)), none⟩, ⟨(.some 8), (.load false 1 (.t 7)), none⟩, ⟨(.some 9), (.bin .neq (.t 6) (.t 8)), none⟩])
 (.cond (.t 9) (.seq (.reg [⟨(.some 4), (.mv (.c (.lf (.bool false)))), none⟩])
 .ret) .skip))
 (.seq (.seq (.reg [⟨(.some 10), (.faddr 1 (.t 2)), none⟩, ⟨(.some 11), (.load false 1 (.t 10)), none⟩, ⟨(.some 12), (.toflt .f64 (.t 11)), none⟩, ⟨(.some 13), (.faddr 1 (.t 3)), none⟩, ⟨(.some 14), (.load false 1 (.t 13)), none⟩, ⟨(.some 15), (.toflt .f64 (.t 14)), none⟩, ⟨(.some 16), (.call true 67 [(.t 12), (.t 15)]), none⟩, ⟨(.some 17), (.una .not (.t 16)), none⟩])
 (.cond (.t 17) (.seq (.reg [⟨(.some 4), (.mv (.c (.lf (.bool false)))), none⟩])
 .ret) .skip))
 (.seq (.reg [⟨(.some 4), (.mv (.c (.lf (.bool true)))), none⟩])
 .ret)))), [(.tmp 4)]⟩
def L89 : LFn := ⟨1, (.seq (.reg [⟨(.some 2), (.mv (.c (.lf .nils))), none⟩])
 (.seq (.reg [⟨(.some 5), (.mv (.t 0)), none⟩, ⟨(.some 6), (.len (.t 5)), none⟩, ⟨(.some 7), (.make 199 2 16 [(.int .i64 0), (.flt .f32 0)] (.t 6) (.t 6)), none⟩, ⟨(.some 3), (.mv (.t 7)), none⟩])
 (.seq (.seq (.reg [⟨(.some 4), (.mv (.c (.lf (.int .i64 0)))), none⟩])
 (.block 0 (.loop (.seq (.seq (.reg [⟨(.some 8), (.mv (.t 4)), none⟩, ⟨(.some 9), (.mv (.t 0)), none⟩, ⟨(.some 10), (.len (.t 9)), none⟩, ⟨(.some 11), (.bin .lss (.t 8) (.t 10)), none⟩])
 (.cond (.t 11) .skip (.exit 0)))
 (.seq (.block 1 (.reg [⟨(.some 14), (.mv (.t 3)), none⟩, ⟨(.some 15), (.mv (.t 4)), none⟩, ⟨(.some 16), (.mv (.t 0)), none⟩, ⟨(.some 17), (.mv (.t 4)), none⟩, ⟨(.some 18), (.iaddr 2 (.t 16) (.t 17)), none⟩, ⟨(.some 19), (.load true 2 (.t 18)), none⟩, ⟨(.some 20), (.call true 154 [(.t 19)]), none⟩, ⟨(.some 21), (.iaddr 2 (.t 14) (.t 15)), none⟩, ⟨none, (.store 2 (.t 21) (.t 20)), none⟩]))
 (.reg [⟨(.some 12), (.mv (.t 4)), none⟩, ⟨(.some 13), (.bin .add (.t 12) (.c (.lf (.int .i64 1)))), none⟩, ⟨(.some 4), (.mv (.t 13)), none⟩]))))))
 (.seq (.reg [⟨(.some 22), (.mv (.t 3)), none⟩, ⟨(.some 2), (.mv (.t 22)), none⟩])
 .ret)))), [(.tmp 2)]⟩
def L96 : LFn := ⟨2, (.seq (.reg [⟨(.some 4), (.mv (.c (.lf (.bool false)))), none⟩])
 (.seq (.seq (.reg [⟨(.some 6), (.mv (.t 0)), none⟩, ⟨(.some 7), (.len (.t 6)), none⟩, ⟨(.some 8), (.mv (.t 1)), none⟩, ⟨(.some 9), (.len (.t 8)), none⟩, ⟨(.some 10), (.bin .neq (.t 7) (.t 9)), none⟩])
 (.cond (.t 10) (.seq (.reg [⟨(.some 4), (.mv (.c (.lf (.bool false)))), none⟩])
 .ret) .skip))
 (.seq (.seq (.reg [⟨(.some 5), (.mv (.c (.lf (.int .i64 0)))), none⟩])
 (.block 0 (.loop (.seq (.seq (.reg [⟨(.some 11), (.mv (.t 5)), none⟩, ⟨(.some 12), (.mv (.t 0)), none⟩, ⟨(.some 13), (.len (.t 12)), none⟩, ⟨(.some 14), (.bin .lss (.t 11) (.t 13)), none⟩])
 (.cond (.t 14) .skip (.exit 0)))
 (.seq (.block 1 (.seq (.reg [⟨(.some 17), (.mv (.t 0)), none⟩, ⟨(.some 18), (.mv (.t 5)), none⟩, ⟨(.some 19), (.iaddr 2 (.t 17) (.t 18)), none⟩, ⟨(.some 20), (.load true 2 (.t 19)), none⟩, ⟨(.some 21), (.mv (.t 1)), none⟩, ⟨(.some 22), (.mv (.t 5)), none⟩, ⟨(.some 23), (.iaddr 2 (.t 21) (.t 22)), none⟩, ⟨(.some 24), (.load true 2 (.t 23)), none⟩, ⟨(.some 25), (.call true 162 [(.t 20), (.t 24)]), none⟩, ⟨(.some 26), (.una .not (.t 25)), none⟩])
 (.cond (.t 26) (.seq (.reg [⟨(.some 4), (.mv (.c (.lf (.bool false)))), none⟩])
 .ret) .skip)))
 (.reg [⟨(.some 15), (.mv (.t 5)), none⟩, ⟨(.some 16), (.bin .add (.t 15) (.c (.lf (.int .i64 1)))), none⟩, ⟨(.some 5), (.mv (.t 16)), none⟩]))))))
 (.seq (.reg [⟨(.some 4), (.mv (.c (.lf (.bool true)))), none⟩])
 .ret)))), [(.tmp 4)]⟩
def L83 : LFn := ⟨2, (.seq (.reg [⟨(.some 4), (.mv (.c (.lf (.int .i64 0)))), none⟩])
 (.seq (.reg [⟨(.some 5), (.mv (.t 1)), none⟩, ⟨(.some 6), (.mv (.t 0)), none⟩, ⟨(.some 7), (.len (.t 6)), none⟩, ⟨(.some 8), (.bin .sub (.t 5) (.t 7)), none⟩, ⟨(.some 1), (.mv (.t 8)), none⟩])
 (.seq (.seq (.reg [⟨(.some 9), (.mv (.t 1)), none⟩, ⟨(.some 10), (.bin .lss (.t 9) (.c (.lf (.int .i64 0)))), none⟩])
 (.cond (.t 10) (.seq (.reg [⟨(.some 4), (.mv (.c (.lf (.int .i64 (-1))))), none⟩])
 .ret) .skip))
 (.seq (.reg [⟨(.some 11), (.mv (.t 1)), none⟩, ⟨(.some 4), (.mv (.t 11)), none⟩])
 .ret)))), [(.tmp 4)]⟩
def L98 : LFn := ⟨2, (.seq (.reg [⟨(.some 4), (.mv (.c (.lf (.int .i64 0)))), none⟩])
 (.seq (.seq (.reg [⟨(.some 5), (.mv (.c (.lf (.int .i64 0)))), none⟩])
 (.block 0 (.loop (.seq (.seq (.reg [⟨(.some 6), (.mv (.t 5)), none⟩, ⟨(.some 7), (.mv (.t 0)), none⟩, ⟨(.some 8), (.len (.t 7)), none⟩, ⟨(.some 9), (.bin .lss (.t 6) (.t 8)), none⟩])
 (.cond (.t 9) .skip (.exit 0)))
 (.seq (.block 1 (.seq (.reg [⟨(.some 12), (.mv (.t 0)), none⟩, ⟨(.some 13), (.mv (.t 5)), none⟩, ⟨(.some 14), (.mv (.t 1)), none⟩, ⟨(.some 15), (.iaddr 2 (.t 12) (.t 13)), none⟩, ⟨(.some 16), (.faddr 0 (.t 15)), none⟩, ⟨none, (.store 1 (.t 16) (.t 14)), none⟩])
 (.seq (.reg [⟨(.some 17), (.mv (.t 1)), none⟩, ⟨(.some 18), (.bin .add (.t 17) (.c (.lf (.int .i64 1)))), none⟩, ⟨(.some 1), (.mv (.t 18)), none⟩])
 (.seq (.reg [⟨(.some 19), (.mv (.t 0)), none⟩, ⟨(.some 20), (.mv (.t 5)), none⟩, ⟨(.some 21), (.mv (.t 1)), none⟩, ⟨(.some 22), (.toflt .f32 (.t 21)), none⟩, ⟨(.some 23), (.iaddr 2 (.t 19) (.t 20)), none⟩, ⟨(.some 24), (.faddr 1 (.t 23)), none⟩, ⟨none, (.store 1 (.t 24) (.t 22)), none⟩])
 (.reg [⟨(.some 25), (.mv (.t 1)), none⟩, ⟨(.some 26), (.bin .add (.t 25) (.c (.lf (.int .i64 1)))), none⟩, ⟨(.some 1), (.mv (.t 26)), none⟩])))))
 (.reg [⟨(.some 10), (.mv (.t 5)), none⟩, ⟨(.some 11), (.bin .add (.t 10) (.c (.lf (.int .i64 1)))), none⟩, ⟨(.some 5), (.mv (.t 11)), none⟩]))))))
 (.seq (.reg [⟨(.some 27), (.mv (.t 1)), none⟩, ⟨(.some 4), (.mv (.t 27)), none⟩])
 .ret))), [(.tmp 4)]⟩
class HasPAS (S : Sys) : Prop extends HasSame S where
  f154 : S.fs 154 = some L154
  f162 : S.fs 162 = some L162
  f89 : S.fs 89 = some L89
  f96 : S.fs 96 = some L96
  f83 : S.fs 83 = some L83
  f98 : S.fs 98 = some L98
def L26 : LFn := ⟨1, (.seq (.reg [⟨(.some 1), (.box 53 (.t 0)), none⟩, ⟨(.some 2), (.alloc 59 [.nils, .nils, (.flt .f32 0), (.flt .f32 0)]), none⟩])
 (.seq (.reg [⟨(.some 3), (.alloc 59 [.nils, .nils, (.flt .f32 0), (.flt .f32 0)]), none⟩])
 (.seq (.reg [⟨(.some 4), (.faddr 0 (.t 1)), none⟩, ⟨(.some 5), (.load false 1 (.t 4)), none⟩, ⟨(.some 6), (.call false 88 [(.t 5)]), none⟩, ⟨(.some 7), (.faddr 0 (.t 3)), none⟩, ⟨none, (.store 1 (.t 7) (.t 6)), none⟩])
 (.seq (.reg [⟨(.some 8), (.faddr 1 (.t 1)), none⟩, ⟨(.some 9), (.load false 1 (.t 8)), none⟩, ⟨(.some 10), (.call false 89 [(.t 9)]), none⟩, ⟨(.some 11), (.faddr 1 (.t 3)), none⟩, ⟨none, (.store 1 (.t 11) (.t 10)), none⟩])
 (.seq (.reg [⟨(.some 12), (.faddr 2 (.t 1)), none⟩, ⟨(.some 13), (.load false 1 (.t 12)), none⟩, ⟨(.some 14), (.faddr 2 (.t 3)), none⟩, ⟨none, (.store 1 (.t 14) (.t 13)), none⟩])
 (.seq (.reg [⟨(.some 15), (.faddr 3 (.t 1)), none⟩, ⟨(.some 16), (.load false 1 (.t 15)), none⟩, ⟨(.some 17), (.faddr 3 (.t 3)), none⟩, ⟨none, (.store 1 (.t 17) (.t 16)), none⟩])
 (.seq (.reg [⟨(.some 18), (.load true 4 (.t 3)), none⟩, ⟨none, (.store 4 (.t 2) (.t 18)), none⟩])
 .ret))))))), [(.cell 2 true 4)]⟩
def L28 : LFn := ⟨2, (.seq (.reg [⟨(.some 2), (.box 59 (.t 0)), none⟩, ⟨(.some 3), (.box 59 (.t 1)), none⟩, ⟨(.some 4), (.mv (.c (.lf (.bool false)))), none⟩])
 (.seq (.seq (.reg [⟨(.some 5), (.faddr 0 (.t 2)), none⟩, ⟨(.some 6), (.load false 1 (.t 5)), none⟩, ⟨(.some 7), (.faddr 0 (.t 3)), none⟩, ⟨(.some 8), (.load false 1 (.t 7)), none⟩, ⟨(.some 9), (.call true 95 [(.t 6), (.t 8)]), none⟩, ⟨(.some 10), (.una .not (.t 9)), none⟩])
 (.cond (.t 10) (.seq (.reg [⟨(.some 4), (.mv (.c (.lf (.bool false)))), none⟩])
 .ret) .skip))
 (.seq (.seq (.reg [⟨(.some 11), (.faddr 1 (.t 2)), none⟩, ⟨(.some 12), (.load false 1 (.t 11)), none⟩, ⟨(.some 13), (.faddr 1 (.t 3)), none⟩, ⟨(.some 14), (.load false 1 (.t 13)), none⟩, ⟨(.some 15), (.call true 96 [(.t 12), (.t 14)]), none⟩, ⟨(.some 16), (.una .not (.t 15)), none⟩])
 (.cond (.t 16) (.seq (.reg [⟨(.some 4), (.mv (.c (.lf (.bool false)))), none⟩])
 .ret) .skip))
 (.seq (.seq (.reg [⟨(.some 17), (.faddr 2 (.t 2)), none⟩, ⟨(.some 18), (.load false 1 (.t 17)), none⟩, ⟨(.some 19), (.toflt .f64 (.t 18)), none⟩, ⟨(.some 20), (.faddr 2 (.t 3)), none⟩, ⟨(.some 21), (.load false 1 (.t 20)), none⟩, ⟨(.some 22), (.toflt .f64 (.t 21)), none⟩, ⟨(.some 23), (.call true 67 [(.t 19), (.t 22)]), none⟩, ⟨(.some 24), (.una .not (.t 23)), none⟩])
 (.cond (.t 24) (.seq (.reg [⟨(.some 4), (.mv (.c (.lf (.bool false)))), none⟩])
 .ret) .skip))
 (.seq (.seq (.reg [⟨(.some 25), (.faddr 3 (.t 2)), none⟩, ⟨(.some 26), (.load false 1 (.t 25)), none⟩, ⟨(.some 27), (.toflt .f64 (.t 26)), none⟩, ⟨(.some 28), (.faddr 3 (.t 3)), none⟩, ⟨(.some 29), (.load false 1 (.t 28)), none⟩, ⟨(.some 30), (.toflt .f64 (.t 29)), none⟩, ⟨(.some 31), (.call true 67 [(.t 27), (.t 30)]), none⟩, ⟨(.some 32), (.una .not (.t 31)), none⟩])
 (.cond (.t 32) (.seq (.reg [⟨(.some 4), (.mv (.c (.lf (.bool false)))), none⟩])
 .ret) .skip))
 (.seq (.reg [⟨(.some 4), (.mv (.c (.lf (.bool true)))), none⟩])
 .ret)))))), [(.tmp 4)]⟩
def L24 : LFn := ⟨2, (.seq (.reg [⟨(.some 2), (.box 53 (.t 0)), none⟩, ⟨(.some 4), (.mv (.c (.lf (.int .i64 0)))), none⟩])
 (.seq (.reg [⟨(.some 5), (.faddr 0 (.t 2)), none⟩, ⟨(.some 6), (.load false 1 (.t 5)), none⟩, ⟨(.some 7), (.mv (.t 1)), none⟩, ⟨(.some 8), (.call true 82 [(.t 6), (.t 7)]), none⟩, ⟨(.some 1), (.mv (.t 8)), none⟩])
 (.seq (.seq (.reg [⟨(.some 9), (.mv (.t 1)), none⟩, ⟨(.some 10), (.bin .lss (.t 9) (.c (.lf (.int .i64 0)))), none⟩])
 (.cond (.t 10) (.seq (.reg [⟨(.some 4), (.mv (.c (.lf (.int .i64 (-1))))), none⟩])
 .ret) .skip))
 (.seq (.reg [⟨(.some 11), (.faddr 1 (.t 2)), none⟩, ⟨(.some 12), (.load false 1 (.t 11)), none⟩, ⟨(.some 13), (.mv (.t 1)), none⟩, ⟨(.some 14), (.call true 83 [(.t 12), (.t 13)]), none⟩, ⟨(.some 1), (.mv (.t 14)), none⟩])
 (.seq (.seq (.reg [⟨(.some 15), (.mv (.t 1)), none⟩, ⟨(.some 16), (.bin .lss (.t 15) (.c (.lf (.int .i64 0)))), none⟩])
 (.cond (.t 16) (.seq (.reg [⟨(.some 4), (.mv (.c (.lf (.int .i64 (-1))))), none⟩])
 .ret) .skip))
 (.seq (.reg [⟨(.some 17), (.mv (.t 1)), none⟩, ⟨(.some 4), (.mv (.t 17)), none⟩])
 .ret)))))), [(.tmp 4)]⟩
def L29 : LFn := ⟨2, (.seq (.reg [⟨(.some 2), (.box 59 (.t 0)), none⟩, ⟨(.some 4), (.mv (.c (.lf (.int .i64 0)))), none⟩])
 (.seq (.reg [⟨(.some 5), (.faddr 0 (.t 2)), none⟩, ⟨(.some 6), (.load false 1 (.t 5)), none⟩, ⟨(.some 7), (.mv (.t 1)), none⟩, ⟨(.some 8), (.call false 97 [(.t 6), (.t 7)]), none⟩, ⟨(.some 1), (.mv (.t 8)), none⟩])
 (.seq (.reg [⟨(.some 9), (.faddr 1 (.t 2)), none⟩, ⟨(.some 10), (.load false 1 (.t 9)), none⟩, ⟨(.some 11), (.mv (.t 1)), none⟩, ⟨(.some 12), (.call false 98 [(.t 10), (.t 11)]), none⟩, ⟨(.some 1), (.mv (.t 12)), none⟩])
 (.seq (.reg [⟨(.some 13), (.mv (.t 1)), none⟩, ⟨(.some 4), (.mv (.t 13)), none⟩])
 .ret)))), [(.tmp 4)]⟩
class HasRMH (S : Sys) : Prop extends HasDLY S, HasPAS S where
  f26 : S.fs 26 = some L26
  f28 : S.fs 28 = some L28
  f24 : S.fs 24 = some L24
  f29 : S.fs 29 = some L29
structure Dly where
  len : Int
  fb : Nat
  dry : Nat
  wet : Nat
  fl : Bool
def Dly.cells (d : Dly) : List Lf := [.int .i64 d.len, .flt .f32 d.fb, .flt .f32 d.dry, .flt .f32 d.wet, .bool d.fl]
structure Pas where
  len : Int
  g : Nat
def Pas.cells (p : Pas) : List Lf := [.int .i64 p.len, .flt .f32 p.g]
section
variable {h g : Hp} {l : Lf} {ty sz : Nat} {rows : List (List Lf)}
theorem New.swapF {bs bs' t : Hp} (hN : New (h ++ bs) (h ++ (bs ++ t)) l ty sz rows) (he : bs'.length = bs.length) : New (h ++ bs') (h ++ (bs' ++ t)) l ty sz rows := by
  have hk : Kept (h ++ bs') (h ++ (bs' ++ t)) := by rw [← List.append_assoc]; exact Kept.app _ _
  rcases hN.own with ⟨rfl, rfl⟩ | ⟨i, rfl, h2, h3⟩
  · exact New.nil hk
  · have h4 : Sl (h ++ (bs' ++ t)) i ty sz rows := by
      refine ⟨?_, h3.len⟩
      have := h3.get
      rw [← List.append_assoc, List.getElem?_append_right h2] at this
      rw [← List.append_assoc, List.getElem?_append_right (by simp at h2 ⊢; omega), ← this]
      simp [he]
    exact ⟨hk, h4.arr hN.arr.small, .inr ⟨i, rfl, by simp at h2 ⊢; omega, h4⟩⟩
theorem Buts.tran {g g' g2 : Hp} {ls ls' : List Lf} (a : Buts g g' ls) (b : Buts g' g2 ls') (hs : ∀ s ∈ ls', s ∈ ls) : Buts g g2 ls :=
  ⟨Nat.le_trans a.len b.len, fun id hid hne => by
    rw [b.same id (Nat.lt_of_lt_of_le hid a.len) (fun s q hn => hne s (hs s q) hn), a.same id hid hne]⟩
theorem Buts.more {g g' : Hp} {ls ls' : List Lf} (a : Buts g g' ls) (hs : ∀ s ∈ ls, s ∈ ls') : Buts g g' ls' := ⟨a.len, fun id hid hne => a.same id hid fun s q hn => hne s (hs s q) hn⟩
end
section
variable {S : Sys} {lim : Nat} {h : Hp} {K : CV → Hp → Prop}
section
variable [HasDLY S]
@[simp] theorem c_toDelay {x : Int} {u v w : Nat} {m : Bool} : CallT S true 153 [.agg [.int .i64 x, .flt .f32 u, .flt .f32 v, .flt .f32 w, .bool m]] h lim K = K (.agg [.int .i64 x, .flt .f32 u, .flt .f32 v, .flt .f32 w, .bool m]) h := by
  refine CallT_pure (F := L153) (HasDLY.f153) rfl (by first | rfl | (split <;> rfl) | simp) ?_; unfold L153; dsimp only []
  repeat' (first | (simp (disch := first | omega | assumption | (simp only [List.length_set]; omega) | (simp [*] <;> fail) | assumption) [-Bool.decide_and, -Bool.decide_or, -Bool.not_and, -Bool.not_or, toNat_pred, toNat_succ, wrap64, wr_new, wr_new0, ok_if, ok_ifn, iadV_sl, makeV_int, decT, decF, over_at, *]) | (with_reducible refine Gd_split (fun hc => ?_) (fun hc => ?_) <;> (have hc2 := hc; try simp at hc2)) | (with_reducible refine Br_split (fun hc => ?_) (fun hc => ?_) <;> (have hc2 := hc; try simp at hc2)) | (with_reducible refine GdT_split (fun hc => ?_) (fun hc => ?_) <;> (have hc2 := hc; try simp at hc2)) | (with_reducible refine WT_alt ?_ ?_) | omega)
@[simp] theorem c_eqDelay {x : Int} {u v w : Nat} {m : Bool} : CallT S true 161 [.agg [.int .i64 x, .flt .f32 u, .flt .f32 v, .flt .f32 w, .bool m], .agg [.int .i64 x, .flt .f32 u, .flt .f32 v, .flt .f32 w, .bool m]] h lim K = K (.lf (.bool true)) h := by
  refine CallT_pure (F := L161) (HasDLY.f161) rfl (by first | rfl | (split <;> rfl) | simp) ?_; unfold L161; dsimp only []
  repeat' (first | (simp (disch := first | omega | assumption | (simp only [List.length_set]; omega) | (simp [*] <;> fail) | assumption) [-Bool.decide_and, -Bool.decide_or, -Bool.not_and, -Bool.not_or, toNat_pred, toNat_succ, wrap64, wr_new, wr_new0, ok_if, ok_ifn, iadV_sl, makeV_int, decT, decF, over_at, *]) | (with_reducible refine Gd_split (fun hc => ?_) (fun hc => ?_) <;> (have hc2 := hc; try simp at hc2)) | (with_reducible refine Br_split (fun hc => ?_) (fun hc => ?_) <;> (have hc2 := hc; try simp at hc2)) | (with_reducible refine GdT_split (fun hc => ?_) (fun hc => ?_) <;> (have hc2 := hc; try simp at hc2)) | (with_reducible refine WT_alt ?_ ?_) | omega)
theorem c_szDelayS {l : Lf} {xs : List Dly} (hA : Arr h l 5 (xs.map Dly.cells)) {b : Int} (h1 : 0 ≤ b) (h2 : b ≤ 9223372036854775807) : CallT S true 82 [.lf l, .lf (.int .i64 b)] h lim K = K (.lf (.int .i64 (if b < xs.length then -1 else b - xs.length))) h := by
  have hb := hA.bound
  refine CallT_pure (F := L82) (HasDLY.f82) rfl (by first | rfl | (split <;> rfl) | simp) ?_; unfold L82; dsimp only []
  repeat' (first | (simp (disch := first | omega | assumption | (simp only [List.length_set]; omega) | (simp [*] <;> fail) | assumption) [-Bool.decide_and, -Bool.decide_or, -Bool.not_and, -Bool.not_or, toNat_pred, toNat_succ, wrap64, wr_new, wr_new0, ok_if, ok_ifn, iadV_sl, makeV_int, decT, decF, over_at, *, hA.len, hA.at_, hA.at_', hA.rd, hA.rdIn, hA.rdIn0, hA.rdA, hA.rdInA, hA.rdIn0A]) | (with_reducible refine Gd_split (fun hc => ?_) (fun hc => ?_) <;> (have hc2 := hc; try simp at hc2)) | (with_reducible refine Br_split (fun hc => ?_) (fun hc => ?_) <;> (have hc2 := hc; try simp at hc2)) | (with_reducible refine GdT_split (fun hc => ?_) (fun hc => ?_) <;> (have hc2 := hc; try simp at hc2)) | (with_reducible refine WT_alt ?_ ?_) | omega)
theorem c_eqDelayS {l l2 : Lf} {xs : List Dly} (hA : Arr h l 5 (xs.map Dly.cells)) (hA2 : Arr h l2 5 (xs.map Dly.cells)) : CallT S true 95 [.lf l, .lf l2] h lim K = K (.lf (.bool true)) h := by
  have hb := hA.bound
  refine CallT_pure (F := L95) (HasDLY.f95) rfl (by first | rfl | (split <;> rfl) | simp) ?_; unfold L95; dsimp only []
  repeat' (first | (simp (disch := first | omega | assumption | (simp only [List.length_set]; omega) | (simp [*] <;> fail) | assumption) [-Bool.decide_and, -Bool.decide_or, -Bool.not_and, -Bool.not_or, toNat_pred, toNat_succ, wrap64, wr_new, wr_new0, ok_if, ok_ifn, iadV_sl, makeV_int, decT, decF, over_at, *, hA.len, hA.at_, hA.at_', hA.rd, hA.rdIn, hA.rdIn0, hA.rdA, hA.rdInA, hA.rdIn0A, hA2.len, hA2.at_, hA2.at_', hA2.rd, hA2.rdIn, hA2.rdIn0, hA2.rdA, hA2.rdInA, hA2.rdIn0A]) | (with_reducible refine Gd_split (fun hc => ?_) (fun hc => ?_) <;> (have hc2 := hc; try simp at hc2)) | (with_reducible refine Br_split (fun hc => ?_) (fun hc => ?_) <;> (have hc2 := hc; try simp at hc2)) | (with_reducible refine GdT_split (fun hc => ?_) (fun hc => ?_) <;> (have hc2 := hc; try simp at hc2)) | (with_reducible refine WT_alt ?_ ?_) | omega)
  refine WL_for xs.length (fun i a' h' => i ≤ xs.length ∧ a' 0 = .lf l ∧ a' 1 = .lf l2 ∧ a' 5 = .lf (.int .i64 i) ∧ h' = h) (fun i a' h' hi => hi.1) ?_ (by simp)
  rintro i a' h' ⟨hi, e0, e1, e5, rfl⟩
  by_cases hlt : i < xs.length
  · repeat' (first | (simp (disch := first | omega | assumption | (simp only [List.length_set]; omega) | (simp [*] <;> fail) | assumption) [-Bool.decide_and, -Bool.decide_or, -Bool.not_and, -Bool.not_or, toNat_pred, toNat_succ, wrap64, wr_new, wr_new0, ok_if, ok_ifn, iadV_sl, makeV_int, decT, decF, over_at, *, hA.len, hA.at_, hA.at_', hA.rd, hA.rdIn, hA.rdIn0, hA.rdA, hA.rdInA, hA.rdIn0A, hA2.len, hA2.at_, hA2.at_', hA2.rd, hA2.rdIn, hA2.rdIn0, hA2.rdA, hA2.rdInA, hA2.rdIn0A, Dly.cells]) | (with_reducible refine Gd_split (fun hc => ?_) (fun hc => ?_) <;> (have hc2 := hc; try simp at hc2)) | (with_reducible refine Br_split (fun hc => ?_) (fun hc => ?_) <;> (have hc2 := hc; try simp at hc2)) | (with_reducible refine GdT_split (fun hc => ?_) (fun hc => ?_) <;> (have hc2 := hc; try simp at hc2)) | (with_reducible refine WT_alt ?_ ?_) | omega)
  · repeat' (first | (simp (disch := first | omega | assumption | (simp only [List.length_set]; omega) | (simp [*] <;> fail) | assumption) [-Bool.decide_and, -Bool.decide_or, -Bool.not_and, -Bool.not_or, toNat_pred, toNat_succ, wrap64, wr_new, wr_new0, ok_if, ok_ifn, iadV_sl, makeV_int, decT, decF, over_at, *, hA.len, hA.at_, hA.at_', hA.rd, hA.rdIn, hA.rdIn0, hA.rdA, hA.rdInA, hA.rdIn0A, hA2.len, hA2.at_, hA2.at_', hA2.rd, hA2.rdIn, hA2.rdIn0, hA2.rdA, hA2.rdInA, hA2.rdIn0A, Dly.cells]) | (with_reducible refine Gd_split (fun hc => ?_) (fun hc => ?_) <;> (have hc2 := hc; try simp at hc2)) | (with_reducible refine Br_split (fun hc => ?_) (fun hc => ?_) <;> (have hc2 := hc; try simp at hc2)) | (with_reducible refine GdT_split (fun hc => ?_) (fun hc => ?_) <;> (have hc2 := hc; try simp at hc2)) | (with_reducible refine WT_alt ?_ ?_) | omega)
theorem c_toDelayS {l : Lf} {xs : List Dly} (hA : Arr h l 5 (xs.map Dly.cells)) (hn : xs.length ≤ 16777216) (hl : lim ≤ h.length) (hK : ∀ l' g, New h g l' 197 5 (xs.map Dly.cells) → K (.lf l') g) : CallT S false 88 [.lf l] h lim K := by
  have hb := hA.bound
  refine CallT_of_body (F := L88) (HasDLY.f88) rfl ?_; unfold L88; dsimp only []
  repeat' (first | (simp (disch := first | omega | assumption | (simp only [List.length_set]; omega) | (simp [*] <;> fail) | assumption) [-Bool.decide_and, -Bool.decide_or, -Bool.not_and, -Bool.not_or, toNat_pred, toNat_succ, wrap64, wr_new, wr_new0, ok_if, ok_ifn, iadV_sl, makeV_int, decT, decF, over_at, *, hA.len, hA.at_, hA.at_', hA.rd, hA.rdIn, hA.rdIn0, hA.rdA, hA.rdInA, hA.rdIn0A]) | (with_reducible refine Gd_split (fun hc => ?_) (fun hc => ?_) <;> (have hc2 := hc; try simp at hc2)) | (with_reducible refine Br_split (fun hc => ?_) (fun hc => ?_) <;> (have hc2 := hc; try simp at hc2)) | (with_reducible refine GdT_split (fun hc => ?_) (fun hc => ?_) <;> (have hc2 := hc; try simp at hc2)) | (with_reducible refine WT_alt ?_ ?_) | omega)
  refine WL_for xs.length (fun i a' g => i ≤ xs.length ∧ a' 0 = .lf l ∧ a' 3 = .lf (.sl h.length 0 xs.length 5) ∧ a' 4 = .lf (.int .i64 i) ∧ Kept h g ∧ Sl g h.length 197 5 (filled (nth (xs.map Dly.cells)) [.int .i64 0, .flt .f32 0, .flt .f32 0, .flt .f32 0, .bool false] xs.length i)) (fun i a' h' hi => hi.1) ?_ ⟨by omega, by simp, by simp, by simp, Kept.app _ _, Sl.step0 rfl⟩
  rintro i a' g ⟨hi, e0, e3, e4, hk, hs⟩
  replace hA := hA.kept hk
  by_cases hlt : i < xs.length
  · repeat' (first | (simp (disch := first | omega | assumption | (simp only [List.length_set]; omega) | (simp [*] <;> fail) | assumption) [-Bool.decide_and, -Bool.decide_or, -Bool.not_and, -Bool.not_or, toNat_pred, toNat_succ, wrap64, wr_new, wr_new0, ok_if, ok_ifn, iadV_sl, makeV_int, decT, decF, over_at, *, hA.len, hA.at_, hA.at_', hA.rd, hA.rdIn, hA.rdIn0, hA.rdA, hA.rdInA, hA.rdIn0A, Dly.cells, hs.wr]) | (with_reducible refine Gd_split (fun hc => ?_) (fun hc => ?_) <;> (have hc2 := hc; try simp at hc2)) | (with_reducible refine Br_split (fun hc => ?_) (fun hc => ?_) <;> (have hc2 := hc; try simp at hc2)) | (with_reducible refine GdT_split (fun hc => ?_) (fun hc => ?_) <;> (have hc2 := hc; try simp at hc2)) | (with_reducible refine WT_alt ?_ ?_) | omega)
    exact ⟨hlt, hk.set (Nat.le_refl _), hs.step (by rw [nth_map hlt]; rfl) rfl⟩
  · have : i = xs.length := by omega
    subst this
    repeat' (first | (simp (disch := first | omega | assumption | (simp only [List.length_set]; omega) | (simp [*] <;> fail) | assumption) [-Bool.decide_and, -Bool.decide_or, -Bool.not_and, -Bool.not_or, toNat_pred, toNat_succ, wrap64, wr_new, wr_new0, ok_if, ok_ifn, iadV_sl, makeV_int, decT, decF, over_at, *, hA.len, hA.at_, hA.at_', hA.rd, hA.rdIn, hA.rdIn0, hA.rdA, hA.rdInA, hA.rdIn0A]) | (with_reducible refine Gd_split (fun hc => ?_) (fun hc => ?_) <;> (have hc2 := hc; try simp at hc2)) | (with_reducible refine Br_split (fun hc => ?_) (fun hc => ?_) <;> (have hc2 := hc; try simp at hc2)) | (with_reducible refine GdT_split (fun hc => ?_) (fun hc => ?_) <;> (have hc2 := hc; try simp at hc2)) | (with_reducible refine WT_alt ?_ ?_) | omega)
    exact hK _ _ (New.filled hk hs (by simp) (Nat.le_refl _) (by simpa using hb))

/-- What is handed in is written over: nothing else changes. -/
theorem c_markDelayS {g : Hp} {l : Lf} {rows : List (List Lf)} {k : Int} (hN : New h g l 197 5 rows) (hn : rows.length ≤ 16777216) (h0 : 0 ≤ k) (h1 : k ≤ 1099511627776) (hl : lim ≤ h.length) (hK : ∀ g', But g g' l l → K (.lf (.int .i64 (k + 5 * rows.length))) g') : CallT S false 97 [.lf l, .lf (.int .i64 k)] g lim K := by
  rcases hN.own with ⟨rfl, rfl⟩ | ⟨id, rfl, h2, h3⟩
  · refine CallT_of_body (F := L97) (HasDLY.f97) rfl ?_; unfold L97; dsimp only []
    repeat' (first | (simp (disch := first | omega | assumption | (simp only [List.length_set]; omega) | (simp [*] <;> fail) | assumption) [-Bool.decide_and, -Bool.decide_or, -Bool.not_and, -Bool.not_or, toNat_pred, toNat_succ, wrap64, wr_new, wr_new0, ok_if, ok_ifn, iadV_sl, makeV_int, decT, decF, over_at, *]) | (with_reducible refine Gd_split (fun hc => ?_) (fun hc => ?_) <;> (have hc2 := hc; try simp at hc2)) | (with_reducible refine Br_split (fun hc => ?_) (fun hc => ?_) <;> (have hc2 := hc; try simp at hc2)) | (with_reducible refine GdT_split (fun hc => ?_) (fun hc => ?_) <;> (have hc2 := hc; try simp at hc2)) | (with_reducible refine WT_alt ?_ ?_) | omega)
    refine WL_forM 4503599627370466 (by decide +kernel) (0) (fun i b g' => i ≤ 0 ∧ b 1 = .lf (.int .i64 k) ∧ b 5 = .lf (.int .i64 i) ∧ g' = g) (fun _ _ _ hi => hi.1) ⟨by simp, by simp, by simp, rfl⟩ ?_
    rintro i b g' ⟨hi, e1, e5, rfl⟩
    have : i = 0 := by omega
    subst this
    repeat' (first | (simp (disch := first | omega | assumption | (simp only [List.length_set]; omega) | (simp [*] <;> fail) | assumption) [-Bool.decide_and, -Bool.decide_or, -Bool.not_and, -Bool.not_or, toNat_pred, toNat_succ, wrap64, wr_new, wr_new0, ok_if, ok_ifn, iadV_sl, makeV_int, decT, decF, over_at, *]) | (with_reducible refine Gd_split (fun hc => ?_) (fun hc => ?_) <;> (have hc2 := hc; try simp at hc2)) | (with_reducible refine Br_split (fun hc => ?_) (fun hc => ?_) <;> (have hc2 := hc; try simp at hc2)) | (with_reducible refine GdT_split (fun hc => ?_) (fun hc => ?_) <;> (have hc2 := hc; try simp at hc2)) | (with_reducible refine WT_alt ?_ ?_) | omega)
    simpa using hK g' ⟨Nat.le_refl _, fun _ _ _ => rfl, .inl rfl⟩
  · have hfl := flat_len h3.len
    have hlt := h3.lt
    refine CallT_of_body (F := L97) (HasDLY.f97) rfl ?_; unfold L97; dsimp only []
    repeat' (first | (simp (disch := first | omega | assumption | (simp only [List.length_set]; omega) | (simp [*] <;> fail) | assumption) [-Bool.decide_and, -Bool.decide_or, -Bool.not_and, -Bool.not_or, toNat_pred, toNat_succ, wrap64, wr_new, wr_new0, ok_if, ok_ifn, iadV_sl, makeV_int, decT, decF, over_at, *]) | (with_reducible refine Gd_split (fun hc => ?_) (fun hc => ?_) <;> (have hc2 := hc; try simp at hc2)) | (with_reducible refine Br_split (fun hc => ?_) (fun hc => ?_) <;> (have hc2 := hc; try simp at hc2)) | (with_reducible refine GdT_split (fun hc => ?_) (fun hc => ?_) <;> (have hc2 := hc; try simp at hc2)) | (with_reducible refine WT_alt ?_ ?_) | omega)
    refine WL_forM 4503599627370466 (by decide +kernel) (rows.length) (fun i b g' => i ≤ rows.length ∧ b 1 = .lf (.int .i64 (k + 5 * i)) ∧ b 5 = .lf (.int .i64 i) ∧ But g g' (.sl id 0 rows.length 5) (.sl id 0 rows.length 5) ∧ ∃ cs, g'[id]? = some ⟨cs, .own 197 5⟩ ∧ cs.length = rows.length * 5) (fun _ _ _ hi => hi.1) ⟨by omega, by simp, by simp, ⟨Nat.le_refl _, fun _ _ _ => rfl, .inl rfl⟩, _, h3.get, hfl⟩ ?_
    rintro i b g' ⟨hi, e1, e5, hB, cs, hg, hcs⟩
    have hlt2 : id < g'.length := (List.getElem?_eq_some_iff.1 hg).1
    by_cases hi2 : i < rows.length
    · clear hK
      repeat' (first | (simp (disch := first | omega | assumption | (simp only [List.length_set]; omega) | (simp [*] <;> fail) | assumption) [-Bool.decide_and, -Bool.decide_or, -Bool.not_and, -Bool.not_or, toNat_pred, toNat_succ, wrap64, wr_new, wr_new0, ok_if, ok_ifn, iadV_sl, makeV_int, decT, decF, over_at, *, wr_get1 hg, wr_set1]) | (with_reducible refine Gd_split (fun hc => ?_) (fun hc => ?_) <;> (have hc2 := hc; try simp at hc2)) | (with_reducible refine Br_split (fun hc => ?_) (fun hc => ?_) <;> (have hc2 := hc; try simp at hc2)) | (with_reducible refine GdT_split (fun hc => ?_) (fun hc => ?_) <;> (have hc2 := hc; try simp at hc2)) | (with_reducible refine WT_alt ?_ ?_) | omega)
      all_goals ((repeat' apply And.intro) <;> first | omega | exact hB.set | exact ⟨_, List.getElem?_set_self hlt2, by simp only [List.length_set]; exact hcs⟩ | (simp; omega) | trace_state)
    · have : i = rows.length := by omega
      subst this
      repeat' (first | (simp (disch := first | omega | assumption | (simp only [List.length_set]; omega) | (simp [*] <;> fail) | assumption) [-Bool.decide_and, -Bool.decide_or, -Bool.not_and, -Bool.not_or, toNat_pred, toNat_succ, wrap64, wr_new, wr_new0, ok_if, ok_ifn, iadV_sl, makeV_int, decT, decF, over_at, *]) | (with_reducible refine Gd_split (fun hc => ?_) (fun hc => ?_) <;> (have hc2 := hc; try simp at hc2)) | (with_reducible refine Br_split (fun hc => ?_) (fun hc => ?_) <;> (have hc2 := hc; try simp at hc2)) | (with_reducible refine GdT_split (fun hc => ?_) (fun hc => ?_) <;> (have hc2 := hc; try simp at hc2)) | (with_reducible refine WT_alt ?_ ?_) | omega)
      all_goals exact hK g' hB

end
section
variable [HasPAS S]
@[simp] theorem c_toPass {x : Int} {u : Nat} : CallT S true 154 [.agg [.int .i64 x, .flt .f32 u]] h lim K = K (.agg [.int .i64 x, .flt .f32 u]) h := by
  refine CallT_pure (F := L154) (HasPAS.f154) rfl (by first | rfl | (split <;> rfl) | simp) ?_; unfold L154; dsimp only []
  repeat' (first | (simp (disch := first | omega | assumption | (simp only [List.length_set]; omega) | (simp [*] <;> fail) | assumption) [-Bool.decide_and, -Bool.decide_or, -Bool.not_and, -Bool.not_or, toNat_pred, toNat_succ, wrap64, wr_new, wr_new0, ok_if, ok_ifn, iadV_sl, makeV_int, decT, decF, over_at, *]) | (with_reducible refine Gd_split (fun hc => ?_) (fun hc => ?_) <;> (have hc2 := hc; try simp at hc2)) | (with_reducible refine Br_split (fun hc => ?_) (fun hc => ?_) <;> (have hc2 := hc; try simp at hc2)) | (with_reducible refine GdT_split (fun hc => ?_) (fun hc => ?_) <;> (have hc2 := hc; try simp at hc2)) | (with_reducible refine WT_alt ?_ ?_) | omega)
@[simp] theorem c_eqPass {x : Int} {u : Nat} : CallT S true 162 [.agg [.int .i64 x, .flt .f32 u], .agg [.int .i64 x, .flt .f32 u]] h lim K = K (.lf (.bool true)) h := by
  refine CallT_pure (F := L162) (HasPAS.f162) rfl (by first | rfl | (split <;> rfl) | simp) ?_; unfold L162; dsimp only []
  repeat' (first | (simp (disch := first | omega | assumption | (simp only [List.length_set]; omega) | (simp [*] <;> fail) | assumption) [-Bool.decide_and, -Bool.decide_or, -Bool.not_and, -Bool.not_or, toNat_pred, toNat_succ, wrap64, wr_new, wr_new0, ok_if, ok_ifn, iadV_sl, makeV_int, decT, decF, over_at, *]) | (with_reducible refine Gd_split (fun hc => ?_) (fun hc => ?_) <;> (have hc2 := hc; try simp at hc2)) | (with_reducible refine Br_split (fun hc => ?_) (fun hc => ?_) <;> (have hc2 := hc; try simp at hc2)) | (with_reducible refine GdT_split (fun hc => ?_) (fun hc => ?_) <;> (have hc2 := hc; try simp at hc2)) | (with_reducible refine WT_alt ?_ ?_) | omega)
theorem c_szPassS {l : Lf} {xs : List Pas} (hA : Arr h l 2 (xs.map Pas.cells)) {b : Int} (h1 : 0 ≤ b) (h2 : b ≤ 9223372036854775807) : CallT S true 83 [.lf l, .lf (.int .i64 b)] h lim K = K (.lf (.int .i64 (if b < xs.length then -1 else b - xs.length))) h := by
  have hb := hA.bound
  refine CallT_pure (F := L83) (HasPAS.f83) rfl (by first | rfl | (split <;> rfl) | simp) ?_; unfold L83; dsimp only []
  repeat' (first | (simp (disch := first | omega | assumption | (simp only [List.length_set]; omega) | (simp [*] <;> fail) | assumption) [-Bool.decide_and, -Bool.decide_or, -Bool.not_and, -Bool.not_or, toNat_pred, toNat_succ, wrap64, wr_new, wr_new0, ok_if, ok_ifn, iadV_sl, makeV_int, decT, decF, over_at, *, hA.len, hA.at_, hA.at_', hA.rd, hA.rdIn, hA.rdIn0, hA.rdA, hA.rdInA, hA.rdIn0A]) | (with_reducible refine Gd_split (fun hc => ?_) (fun hc => ?_) <;> (have hc2 := hc; try simp at hc2)) | (with_reducible refine Br_split (fun hc => ?_) (fun hc => ?_) <;> (have hc2 := hc; try simp at hc2)) | (with_reducible refine GdT_split (fun hc => ?_) (fun hc => ?_) <;> (have hc2 := hc; try simp at hc2)) | (with_reducible refine WT_alt ?_ ?_) | omega)
theorem c_eqPassS {l l2 : Lf} {xs : List Pas} (hA : Arr h l 2 (xs.map Pas.cells)) (hA2 : Arr h l2 2 (xs.map Pas.cells)) : CallT S true 96 [.lf l, .lf l2] h lim K = K (.lf (.bool true)) h := by
  have hb := hA.bound
  refine CallT_pure (F := L96) (HasPAS.f96) rfl (by first | rfl | (split <;> rfl) | simp) ?_; unfold L96; dsimp only []
  repeat' (first | (simp (disch := first | omega | assumption | (simp only [List.length_set]; omega) | (simp [*] <;> fail) | assumption) [-Bool.decide_and, -Bool.decide_or, -Bool.not_and, -Bool.not_or, toNat_pred, toNat_succ, wrap64, wr_new, wr_new0, ok_if, ok_ifn, iadV_sl, makeV_int, decT, decF, over_at, *, hA.len, hA.at_, hA.at_', hA.rd, hA.rdIn, hA.rdIn0, hA.rdA, hA.rdInA, hA.rdIn0A, hA2.len, hA2.at_, hA2.at_', hA2.rd, hA2.rdIn, hA2.rdIn0, hA2.rdA, hA2.rdInA, hA2.rdIn0A]) | (with_reducible refine Gd_split (fun hc => ?_) (fun hc => ?_) <;> (have hc2 := hc; try simp at hc2)) | (with_reducible refine Br_split (fun hc => ?_) (fun hc => ?_) <;> (have hc2 := hc; try simp at hc2)) | (with_reducible refine GdT_split (fun hc => ?_) (fun hc => ?_) <;> (have hc2 := hc; try simp at hc2)) | (with_reducible refine WT_alt ?_ ?_) | omega)
  refine WL_for xs.length (fun i a' h' => i ≤ xs.length ∧ a' 0 = .lf l ∧ a' 1 = .lf l2 ∧ a' 5 = .lf (.int .i64 i) ∧ h' = h) (fun i a' h' hi => hi.1) ?_ (by simp)
  rintro i a' h' ⟨hi, e0, e1, e5, rfl⟩
  by_cases hlt : i < xs.length
  · repeat' (first | (simp (disch := first | omega | assumption | (simp only [List.length_set]; omega) | (simp [*] <;> fail) | assumption) [-Bool.decide_and, -Bool.decide_or, -Bool.not_and, -Bool.not_or, toNat_pred, toNat_succ, wrap64, wr_new, wr_new0, ok_if, ok_ifn, iadV_sl, makeV_int, decT, decF, over_at, *, hA.len, hA.at_, hA.at_', hA.rd, hA.rdIn, hA.rdIn0, hA.rdA, hA.rdInA, hA.rdIn0A, hA2.len, hA2.at_, hA2.at_', hA2.rd, hA2.rdIn, hA2.rdIn0, hA2.rdA, hA2.rdInA, hA2.rdIn0A, Pas.cells]) | (with_reducible refine Gd_split (fun hc => ?_) (fun hc => ?_) <;> (have hc2 := hc; try simp at hc2)) | (with_reducible refine Br_split (fun hc => ?_) (fun hc => ?_) <;> (have hc2 := hc; try simp at hc2)) | (with_reducible refine GdT_split (fun hc => ?_) (fun hc => ?_) <;> (have hc2 := hc; try simp at hc2)) | (with_reducible refine WT_alt ?_ ?_) | omega)
  · repeat' (first | (simp (disch := first | omega | assumption | (simp only [List.length_set]; omega) | (simp [*] <;> fail) | assumption) [-Bool.decide_and, -Bool.decide_or, -Bool.not_and, -Bool.not_or, toNat_pred, toNat_succ, wrap64, wr_new, wr_new0, ok_if, ok_ifn, iadV_sl, makeV_int, decT, decF, over_at, *, hA.len, hA.at_, hA.at_', hA.rd, hA.rdIn, hA.rdIn0, hA.rdA, hA.rdInA, hA.rdIn0A, hA2.len, hA2.at_, hA2.at_', hA2.rd, hA2.rdIn, hA2.rdIn0, hA2.rdA, hA2.rdInA, hA2.rdIn0A, Pas.cells]) | (with_reducible refine Gd_split (fun hc => ?_) (fun hc => ?_) <;> (have hc2 := hc; try simp at hc2)) | (with_reducible refine Br_split (fun hc => ?_) (fun hc => ?_) <;> (have hc2 := hc; try simp at hc2)) | (with_reducible refine GdT_split (fun hc => ?_) (fun hc => ?_) <;> (have hc2 := hc; try simp at hc2)) | (with_reducible refine WT_alt ?_ ?_) | omega)
theorem c_toPassS {l : Lf} {xs : List Pas} (hA : Arr h l 2 (xs.map Pas.cells)) (hn : xs.length ≤ 16777216) (hl : lim ≤ h.length) (hK : ∀ l' g, New h g l' 199 2 (xs.map Pas.cells) → K (.lf l') g) : CallT S false 89 [.lf l] h lim K := by
  have hb := hA.bound
  refine CallT_of_body (F := L89) (HasPAS.f89) rfl ?_; unfold L89; dsimp only []
  repeat' (first | (simp (disch := first | omega | assumption | (simp only [List.length_set]; omega) | (simp [*] <;> fail) | assumption) [-Bool.decide_and, -Bool.decide_or, -Bool.not_and, -Bool.not_or, toNat_pred, toNat_succ, wrap64, wr_new, wr_new0, ok_if, ok_ifn, iadV_sl, makeV_int, decT, decF, over_at, *, hA.len, hA.at_, hA.at_', hA.rd, hA.rdIn, hA.rdIn0, hA.rdA, hA.rdInA, hA.rdIn0A]) | (with_reducible refine Gd_split (fun hc => ?_) (fun hc => ?_) <;> (have hc2 := hc; try simp at hc2)) | (with_reducible refine Br_split (fun hc => ?_) (fun hc => ?_) <;> (have hc2 := hc; try simp at hc2)) | (with_reducible refine GdT_split (fun hc => ?_) (fun hc => ?_) <;> (have hc2 := hc; try simp at hc2)) | (with_reducible refine WT_alt ?_ ?_) | omega)
  refine WL_for xs.length (fun i a' g => i ≤ xs.length ∧ a' 0 = .lf l ∧ a' 3 = .lf (.sl h.length 0 xs.length 2) ∧ a' 4 = .lf (.int .i64 i) ∧ Kept h g ∧ Sl g h.length 199 2 (filled (nth (xs.map Pas.cells)) [.int .i64 0, .flt .f32 0] xs.length i)) (fun i a' h' hi => hi.1) ?_ ⟨by omega, by simp, by simp, by simp, Kept.app _ _, Sl.step0 rfl⟩
  rintro i a' g ⟨hi, e0, e3, e4, hk, hs⟩
  replace hA := hA.kept hk
  by_cases hlt : i < xs.length
  · repeat' (first | (simp (disch := first | omega | assumption | (simp only [List.length_set]; omega) | (simp [*] <;> fail) | assumption) [-Bool.decide_and, -Bool.decide_or, -Bool.not_and, -Bool.not_or, toNat_pred, toNat_succ, wrap64, wr_new, wr_new0, ok_if, ok_ifn, iadV_sl, makeV_int, decT, decF, over_at, *, hA.len, hA.at_, hA.at_', hA.rd, hA.rdIn, hA.rdIn0, hA.rdA, hA.rdInA, hA.rdIn0A, Pas.cells, hs.wr]) | (with_reducible refine Gd_split (fun hc => ?_) (fun hc => ?_) <;> (have hc2 := hc; try simp at hc2)) | (with_reducible refine Br_split (fun hc => ?_) (fun hc => ?_) <;> (have hc2 := hc; try simp at hc2)) | (with_reducible refine GdT_split (fun hc => ?_) (fun hc => ?_) <;> (have hc2 := hc; try simp at hc2)) | (with_reducible refine WT_alt ?_ ?_) | omega)
    exact ⟨hlt, hk.set (Nat.le_refl _), hs.step (by rw [nth_map hlt]; rfl) rfl⟩
  · have : i = xs.length := by omega
    subst this
    repeat' (first | (simp (disch := first | omega | assumption | (simp only [List.length_set]; omega) | (simp [*] <;> fail) | assumption) [-Bool.decide_and, -Bool.decide_or, -Bool.not_and, -Bool.not_or, toNat_pred, toNat_succ, wrap64, wr_new, wr_new0, ok_if, ok_ifn, iadV_sl, makeV_int, decT, decF, over_at, *, hA.len, hA.at_, hA.at_', hA.rd, hA.rdIn, hA.rdIn0, hA.rdA, hA.rdInA, hA.rdIn0A]) | (with_reducible refine Gd_split (fun hc => ?_) (fun hc => ?_) <;> (have hc2 := hc; try simp at hc2)) | (with_reducible refine Br_split (fun hc => ?_) (fun hc => ?_) <;> (have hc2 := hc; try simp at hc2)) | (with_reducible refine GdT_split (fun hc => ?_) (fun hc => ?_) <;> (have hc2 := hc; try simp at hc2)) | (with_reducible refine WT_alt ?_ ?_) | omega)
    exact hK _ _ (New.filled hk hs (by simp) (Nat.le_refl _) (by simpa using hb))

/-- What is handed in is written over: nothing else changes. -/
theorem c_markPassS {g : Hp} {l : Lf} {rows : List (List Lf)} {k : Int} (hN : New h g l 199 2 rows) (hn : rows.length ≤ 16777216) (h0 : 0 ≤ k) (h1 : k ≤ 1099511627776) (hl : lim ≤ h.length) (hK : ∀ g', But g g' l l → K (.lf (.int .i64 (k + 2 * rows.length))) g') : CallT S false 98 [.lf l, .lf (.int .i64 k)] g lim K := by
  rcases hN.own with ⟨rfl, rfl⟩ | ⟨id, rfl, h2, h3⟩
  · refine CallT_of_body (F := L98) (HasPAS.f98) rfl ?_; unfold L98; dsimp only []
    repeat' (first | (simp (disch := first | omega | assumption | (simp only [List.length_set]; omega) | (simp [*] <;> fail) | assumption) [-Bool.decide_and, -Bool.decide_or, -Bool.not_and, -Bool.not_or, toNat_pred, toNat_succ, wrap64, wr_new, wr_new0, ok_if, ok_ifn, iadV_sl, makeV_int, decT, decF, over_at, *]) | (with_reducible refine Gd_split (fun hc => ?_) (fun hc => ?_) <;> (have hc2 := hc; try simp at hc2)) | (with_reducible refine Br_split (fun hc => ?_) (fun hc => ?_) <;> (have hc2 := hc; try simp at hc2)) | (with_reducible refine GdT_split (fun hc => ?_) (fun hc => ?_) <;> (have hc2 := hc; try simp at hc2)) | (with_reducible refine WT_alt ?_ ?_) | omega)
    refine WL_forM 134217698 (by decide +kernel) (0) (fun i b g' => i ≤ 0 ∧ b 1 = .lf (.int .i64 k) ∧ b 5 = .lf (.int .i64 i) ∧ g' = g) (fun _ _ _ hi => hi.1) ⟨by simp, by simp, by simp, rfl⟩ ?_
    rintro i b g' ⟨hi, e1, e5, rfl⟩
    have : i = 0 := by omega
    subst this
    repeat' (first | (simp (disch := first | omega | assumption | (simp only [List.length_set]; omega) | (simp [*] <;> fail) | assumption) [-Bool.decide_and, -Bool.decide_or, -Bool.not_and, -Bool.not_or, toNat_pred, toNat_succ, wrap64, wr_new, wr_new0, ok_if, ok_ifn, iadV_sl, makeV_int, decT, decF, over_at, *]) | (with_reducible refine Gd_split (fun hc => ?_) (fun hc => ?_) <;> (have hc2 := hc; try simp at hc2)) | (with_reducible refine Br_split (fun hc => ?_) (fun hc => ?_) <;> (have hc2 := hc; try simp at hc2)) | (with_reducible refine GdT_split (fun hc => ?_) (fun hc => ?_) <;> (have hc2 := hc; try simp at hc2)) | (with_reducible refine WT_alt ?_ ?_) | omega)
    simpa using hK g' ⟨Nat.le_refl _, fun _ _ _ => rfl, .inl rfl⟩
  · have hfl := flat_len h3.len
    have hlt := h3.lt
    refine CallT_of_body (F := L98) (HasPAS.f98) rfl ?_; unfold L98; dsimp only []
    repeat' (first | (simp (disch := first | omega | assumption | (simp only [List.length_set]; omega) | (simp [*] <;> fail) | assumption) [-Bool.decide_and, -Bool.decide_or, -Bool.not_and, -Bool.not_or, toNat_pred, toNat_succ, wrap64, wr_new, wr_new0, ok_if, ok_ifn, iadV_sl, makeV_int, decT, decF, over_at, *]) | (with_reducible refine Gd_split (fun hc => ?_) (fun hc => ?_) <;> (have hc2 := hc; try simp at hc2)) | (with_reducible refine Br_split (fun hc => ?_) (fun hc => ?_) <;> (have hc2 := hc; try simp at hc2)) | (with_reducible refine GdT_split (fun hc => ?_) (fun hc => ?_) <;> (have hc2 := hc; try simp at hc2)) | (with_reducible refine WT_alt ?_ ?_) | omega)
    refine WL_forM 134217698 (by decide +kernel) (rows.length) (fun i b g' => i ≤ rows.length ∧ b 1 = .lf (.int .i64 (k + 2 * i)) ∧ b 5 = .lf (.int .i64 i) ∧ But g g' (.sl id 0 rows.length 2) (.sl id 0 rows.length 2) ∧ ∃ cs, g'[id]? = some ⟨cs, .own 199 2⟩ ∧ cs.length = rows.length * 2) (fun _ _ _ hi => hi.1) ⟨by omega, by simp, by simp, ⟨Nat.le_refl _, fun _ _ _ => rfl, .inl rfl⟩, _, h3.get, hfl⟩ ?_
    rintro i b g' ⟨hi, e1, e5, hB, cs, hg, hcs⟩
    have hlt2 : id < g'.length := (List.getElem?_eq_some_iff.1 hg).1
    by_cases hi2 : i < rows.length
    · clear hK
      repeat' (first | (simp (disch := first | omega | assumption | (simp only [List.length_set]; omega) | (simp [*] <;> fail) | assumption) [-Bool.decide_and, -Bool.decide_or, -Bool.not_and, -Bool.not_or, toNat_pred, toNat_succ, wrap64, wr_new, wr_new0, ok_if, ok_ifn, iadV_sl, makeV_int, decT, decF, over_at, *, wr_get1 hg, wr_set1]) | (with_reducible refine Gd_split (fun hc => ?_) (fun hc => ?_) <;> (have hc2 := hc; try simp at hc2)) | (with_reducible refine Br_split (fun hc => ?_) (fun hc => ?_) <;> (have hc2 := hc; try simp at hc2)) | (with_reducible refine GdT_split (fun hc => ?_) (fun hc => ?_) <;> (have hc2 := hc; try simp at hc2)) | (with_reducible refine WT_alt ?_ ?_) | omega)
      all_goals ((repeat' apply And.intro) <;> first | omega | exact hB.set | exact ⟨_, List.getElem?_set_self hlt2, by simp only [List.length_set]; exact hcs⟩ | (simp; omega) | trace_state)
    · have : i = rows.length := by omega
      subst this
      repeat' (first | (simp (disch := first | omega | assumption | (simp only [List.length_set]; omega) | (simp [*] <;> fail) | assumption) [-Bool.decide_and, -Bool.decide_or, -Bool.not_and, -Bool.not_or, toNat_pred, toNat_succ, wrap64, wr_new, wr_new0, ok_if, ok_ifn, iadV_sl, makeV_int, decT, decF, over_at, *]) | (with_reducible refine Gd_split (fun hc => ?_) (fun hc => ?_) <;> (have hc2 := hc; try simp at hc2)) | (with_reducible refine Br_split (fun hc => ?_) (fun hc => ?_) <;> (have hc2 := hc; try simp at hc2)) | (with_reducible refine GdT_split (fun hc => ?_) (fun hc => ?_) <;> (have hc2 := hc; try simp at hc2)) | (with_reducible refine WT_alt ?_ ?_) | omega)
      all_goals exact hK g' hB

end
section
variable [HasRMH S] {l l2 m m2 : Lf} {ds : List Dly} {qs : List Pas} {x y : Nat}
theorem c_eqRoom (hA : Arr h l 5 (ds.map Dly.cells)) (hB : Arr h l2 2 (qs.map Pas.cells)) (hA2 : Arr h m 5 (ds.map Dly.cells)) (hB2 : Arr h m2 2 (qs.map Pas.cells)) : CallT S true 28 [.agg [l, l2, .flt .f32 x, .flt .f32 y], .agg [m, m2, .flt .f32 x, .flt .f32 y]] h lim K = K (.lf (.bool true)) h := by
  refine CallT_pure (F := L28) (HasRMH.f28) rfl (by first | rfl | (split <;> rfl) | simp) ?_; unfold L28; dsimp only []
  repeat' (first | (simp (disch := first | omega | assumption | (simp only [List.length_set]; omega) | (simp [*] <;> fail) | assumption) [-Bool.decide_and, -Bool.decide_or, -Bool.not_and, -Bool.not_or, toNat_pred, toNat_succ, wrap64, wr_new, wr_new0, ok_if, ok_ifn, iadV_sl, makeV_int, decT, decF, over_at, *, c_eqDelayS hA.app hA2.app, c_eqPassS hB.app hB2.app]) | (with_reducible refine Gd_split (fun hc => ?_) (fun hc => ?_) <;> (have hc2 := hc; try simp at hc2)) | (with_reducible refine Br_split (fun hc => ?_) (fun hc => ?_) <;> (have hc2 := hc; try simp at hc2)) | (with_reducible refine GdT_split (fun hc => ?_) (fun hc => ?_) <;> (have hc2 := hc; try simp at hc2)) | (with_reducible refine WT_alt ?_ ?_) | omega)
theorem c_szRoom (hA : Arr h l 5 (ds.map Dly.cells)) (hB : Arr h l2 2 (qs.map Pas.cells)) : CallT S true 24 [.agg [l, l2, .flt .f32 x, .flt .f32 y], .lf (.int .i64 1048576)] h lim K = K (.lf (.int .i64 (if (1048576 : Int) < ds.length + qs.length then -1 else 1048576 - (ds.length + qs.length)))) h := by
  have hb1 := hA.bound
  have hb2 := hB.bound
  have h1 := fun t lim K => c_szDelayS (S := S) (h := h ++ t) (lim := lim) (K := K) hA.app (b := 1048576) (by decide) (by decide)
  by_cases k1 : (1048576 : Int) < ds.length
  · rw [if_pos k1] at h1
    rw [if_pos (by omega)]
    refine CallT_pure (F := L24) (HasRMH.f24) rfl (by first | rfl | (split <;> rfl) | simp) ?_; unfold L24; dsimp only []
    repeat' (first | (simp (disch := first | omega | assumption | (simp only [List.length_set]; omega) | (simp [*] <;> fail) | assumption) [-Bool.decide_and, -Bool.decide_or, -Bool.not_and, -Bool.not_or, toNat_pred, toNat_succ, wrap64, wr_new, wr_new0, ok_if, ok_ifn, iadV_sl, makeV_int, decT, decF, over_at, *]) | (with_reducible refine Gd_split (fun hc => ?_) (fun hc => ?_) <;> (have hc2 := hc; try simp at hc2)) | (with_reducible refine Br_split (fun hc => ?_) (fun hc => ?_) <;> (have hc2 := hc; try simp at hc2)) | (with_reducible refine GdT_split (fun hc => ?_) (fun hc => ?_) <;> (have hc2 := hc; try simp at hc2)) | (with_reducible refine WT_alt ?_ ?_) | omega)
  · rw [if_neg k1] at h1
    have h2 := fun t lim K => c_szPassS (S := S) (h := h ++ t) (lim := lim) (K := K) hB.app (b := 1048576 - ds.length) (by omega) (by omega)
    by_cases k2 : (1048576 : Int) - ds.length < qs.length
    · rw [if_pos k2] at h2
      rw [if_pos (by omega)]
      refine CallT_pure (F := L24) (HasRMH.f24) rfl (by first | rfl | (split <;> rfl) | simp) ?_; unfold L24; dsimp only []
      repeat' (first | (simp (disch := first | omega | assumption | (simp only [List.length_set]; omega) | (simp [*] <;> fail) | assumption) [-Bool.decide_and, -Bool.decide_or, -Bool.not_and, -Bool.not_or, toNat_pred, toNat_succ, wrap64, wr_new, wr_new0, ok_if, ok_ifn, iadV_sl, makeV_int, decT, decF, over_at, *]) | (with_reducible refine Gd_split (fun hc => ?_) (fun hc => ?_) <;> (have hc2 := hc; try simp at hc2)) | (with_reducible refine Br_split (fun hc => ?_) (fun hc => ?_) <;> (have hc2 := hc; try simp at hc2)) | (with_reducible refine GdT_split (fun hc => ?_) (fun hc => ?_) <;> (have hc2 := hc; try simp at hc2)) | (with_reducible refine WT_alt ?_ ?_) | omega)
    · rw [if_neg k2] at h2
      rw [if_neg (by omega), show (1048576 : Int) - (ds.length + qs.length) = 1048576 - ds.length - qs.length by omega]
      refine CallT_pure (F := L24) (HasRMH.f24) rfl (by first | rfl | (split <;> rfl) | simp) ?_; unfold L24; dsimp only []
      repeat' (first | (simp (disch := first | omega | assumption | (simp only [List.length_set]; omega) | (simp [*] <;> fail) | assumption) [-Bool.decide_and, -Bool.decide_or, -Bool.not_and, -Bool.not_or, toNat_pred, toNat_succ, wrap64, wr_new, wr_new0, ok_if, ok_ifn, iadV_sl, makeV_int, decT, decF, over_at, *]) | (with_reducible refine Gd_split (fun hc => ?_) (fun hc => ?_) <;> (have hc2 := hc; try simp at hc2)) | (with_reducible refine Br_split (fun hc => ?_) (fun hc => ?_) <;> (have hc2 := hc; try simp at hc2)) | (with_reducible refine GdT_split (fun hc => ?_) (fun hc => ?_) <;> (have hc2 := hc; try simp at hc2)) | (with_reducible refine WT_alt ?_ ?_) | omega)
set_option maxHeartbeats 2000000 in
theorem c_toRoom (hA : Arr h l 5 (ds.map Dly.cells)) (hB : Arr h l2 2 (qs.map Pas.cells)) (hn : ds.length ≤ 16777216) (hm : qs.length ≤ 16777216) (hl : lim ≤ h.length)
    (hK : ∀ m m2 g, New h g m 197 5 (ds.map Dly.cells) → New h g m2 199 2 (qs.map Pas.cells) → Far m m2 → K (.agg [m, m2, .flt .f32 x, .flt .f32 y]) g) : CallT S false 26 [.agg [l, l2, .flt .f32 x, .flt .f32 y]] h lim K := by
  refine CallT_of_body (F := L26) (HasRMH.f26) rfl ?_; unfold L26; dsimp only []
  repeat' (first | (simp (disch := first | omega | assumption | (simp only [List.length_set]; omega) | (simp [*] <;> fail) | assumption) [-Bool.decide_and, -Bool.decide_or, -Bool.not_and, -Bool.not_or, toNat_pred, toNat_succ, wrap64, wr_new, wr_new0, ok_if, ok_ifn, iadV_sl, makeV_int, decT, decF, over_at, *]) | (with_reducible refine Gd_split (fun hc => ?_) (fun hc => ?_) <;> (have hc2 := hc; try simp at hc2)) | (with_reducible refine Br_split (fun hc => ?_) (fun hc => ?_) <;> (have hc2 := hc; try simp at hc2)) | (with_reducible refine GdT_split (fun hc => ?_) (fun hc => ?_) <;> (have hc2 := hc; try simp at hc2)) | (with_reducible refine WT_alt ?_ ?_) | omega)
  refine c_toDelayS hA.app hn (by simp; omega) fun m g hN => ?_
  obtain ⟨t, rfl⟩ := hN.kept.split
  rw [List.append_assoc] at hN
  simp only [List.cons_append, List.nil_append, List.append_assoc] at hN ⊢
  repeat' (first | (simp (disch := first | omega | assumption | (simp only [List.length_set]; omega) | (simp [*] <;> fail) | assumption) [-Bool.decide_and, -Bool.decide_or, -Bool.not_and, -Bool.not_or, toNat_pred, toNat_succ, wrap64, wr_new, wr_new0, ok_if, ok_ifn, iadV_sl, makeV_int, decT, decF, over_at, *]) | (with_reducible refine Gd_split (fun hc => ?_) (fun hc => ?_) <;> (have hc2 := hc; try simp at hc2)) | (with_reducible refine Br_split (fun hc => ?_) (fun hc => ?_) <;> (have hc2 := hc; try simp at hc2)) | (with_reducible refine GdT_split (fun hc => ?_) (fun hc => ?_) <;> (have hc2 := hc; try simp at hc2)) | (with_reducible refine WT_alt ?_ ?_) | omega)
  refine c_toPassS hB.app hm (by simp; omega) fun m2 g2 hR => ?_
  obtain ⟨t2, rfl⟩ := hR.kept.split
  have hf : Far m m2 := fun q1 q2 => by
    have h1 := (hN.lt q1).2
    have h2 := (hR.lt q2).1
    simp only [List.length_append, List.length_cons, List.length_nil] at h1 h2
    omega
  have fN : ∀ o1 o2, New h (h ++ ⟨[l, l2, .flt .f32 x, .flt .f32 y], .own 53 1⟩ :: o1 :: o2 :: (t ++ t2)) m 197 5 (ds.map Dly.cells) := fun o1 o2 => by
    have := ((New.swapF (bs := [⟨[l, l2, .flt .f32 x, .flt .f32 y], .own 53 1⟩, _, _]) (bs' := [⟨[l, l2, .flt .f32 x, .flt .f32 y], .own 53 1⟩, o1, o2]) hN rfl).later (Kept.app _ t2)).base (Kept.app h _)
    simpa only [List.append_assoc, List.cons_append, List.nil_append] using this
  have fR : ∀ o1 o2, New h (h ++ ⟨[l, l2, .flt .f32 x, .flt .f32 y], .own 53 1⟩ :: o1 :: o2 :: (t ++ t2)) m2 199 2 (qs.map Pas.cells) := fun o1 o2 => by
    rw [List.append_assoc] at hR
    have := (New.swapF (bs' := ⟨[l, l2, .flt .f32 x, .flt .f32 y], .own 53 1⟩ :: o1 :: o2 :: t) hR (by simp)).base (Kept.app h _)
    simpa only [List.append_assoc, List.cons_append, List.nil_append] using this
  simp only [List.append_assoc, List.cons_append, List.nil_append]
  clear hN hR
  repeat' (first | (simp (disch := first | omega | assumption | (simp only [List.length_set]; omega) | (simp [*] <;> fail) | assumption) [-Bool.decide_and, -Bool.decide_or, -Bool.not_and, -Bool.not_or, toNat_pred, toNat_succ, wrap64, wr_new, wr_new0, ok_if, ok_ifn, iadV_sl, makeV_int, decT, decF, over_at, *]) | (with_reducible refine Gd_split (fun hc => ?_) (fun hc => ?_) <;> (have hc2 := hc; try simp at hc2)) | (with_reducible refine Br_split (fun hc => ?_) (fun hc => ?_) <;> (have hc2 := hc; try simp at hc2)) | (with_reducible refine GdT_split (fun hc => ?_) (fun hc => ?_) <;> (have hc2 := hc; try simp at hc2)) | (with_reducible refine WT_alt ?_ ?_) | omega)
  all_goals exact hK _ _ _ (fN _ _) (fR _ _) hf
set_option maxHeartbeats 1000000 in
theorem c_markRoom {h0 g : Hp} (hA : New h0 g l 197 5 (ds.map Dly.cells)) (hB : New h0 g l2 199 2 (qs.map Pas.cells)) (hf : Far l l2) (hn : ds.length ≤ 16777216) (hm : qs.length ≤ 16777216) (hl : lim ≤ h0.length)
    (hK : ∀ k' g', 0 ≤ k' → k' ≤ 1073741824 → Buts g g' [l, l2] → K (.lf (.int .i64 k')) g') : CallT S false 29 [.agg [l, l2, .flt .f32 x, .flt .f32 y], .lf (.int .i64 1)] g lim K := by
  have kb := Kept.app g [⟨[l, l2, .flt .f32 x, .flt .f32 y], .own 59 1⟩]
  have bx : rdCells (g ++ [⟨[l, l2, .flt .f32 x, .flt .f32 y], .own 59 1⟩]) g.length 1 1 = some [l2] := Cel.new.rd (by simp)
  have hA1 := hA.later kb
  have hB1 := hB.later kb
  refine CallT_of_body (F := L29) (HasRMH.f29) rfl ?_; unfold L29; dsimp only []
  repeat' (first | (simp (disch := first | omega | assumption | (simp only [List.length_set]; omega) | (simp [*] <;> fail) | assumption) [-Bool.decide_and, -Bool.decide_or, -Bool.not_and, -Bool.not_or, toNat_pred, toNat_succ, wrap64, wr_new, wr_new0, ok_if, ok_ifn, iadV_sl, makeV_int, decT, decF, over_at, *]) | (with_reducible refine Gd_split (fun hc => ?_) (fun hc => ?_) <;> (have hc2 := hc; try simp at hc2)) | (with_reducible refine Br_split (fun hc => ?_) (fun hc => ?_) <;> (have hc2 := hc; try simp at hc2)) | (with_reducible refine GdT_split (fun hc => ?_) (fun hc => ?_) <;> (have hc2 := hc; try simp at hc2)) | (with_reducible refine WT_alt ?_ ?_) | omega)
  refine c_markDelayS hA1 (by simpa using hn) (by omega) (by omega) hl fun g2 hC => ?_
  simp only [List.length_map]
  have hb2 := hC.rd bx (fun q => by have := (hA.lt q).2; omega)
  have hB2 := hC.buts.new hB1 (fun s hs q => by rw [List.mem_singleton] at hs; subst hs; exact (hA.lt q).1) (fun s hs => by rw [List.mem_singleton] at hs; subst hs; exact hf)
  obtain ⟨k2, hk2⟩ : ∃ k2 : Int, (1 : Int) + 5 * (ds.length : Int) = k2 := ⟨_, rfl⟩
  rw [hk2]
  repeat' (first | (simp (disch := first | omega | assumption | (simp only [List.length_set]; omega) | (simp [*] <;> fail) | assumption) [-Bool.decide_and, -Bool.decide_or, -Bool.not_and, -Bool.not_or, toNat_pred, toNat_succ, wrap64, wr_new, wr_new0, ok_if, ok_ifn, iadV_sl, makeV_int, decT, decF, over_at, *]) | (with_reducible refine Gd_split (fun hc => ?_) (fun hc => ?_) <;> (have hc2 := hc; try simp at hc2)) | (with_reducible refine Br_split (fun hc => ?_) (fun hc => ?_) <;> (have hc2 := hc; try simp at hc2)) | (with_reducible refine GdT_split (fun hc => ?_) (fun hc => ?_) <;> (have hc2 := hc; try simp at hc2)) | (with_reducible refine WT_alt ?_ ?_) | omega)
  refine c_markPassS hB2 (by simpa using hm) (by omega) (by omega) hl fun g3 hC2 => ?_
  simp only [List.length_map]
  obtain ⟨k3, hk3⟩ : ∃ k3 : Int, k2 + 2 * (qs.length : Int) = k3 := ⟨_, rfl⟩
  rw [hk3]
  have hk4 := hK k3 g3 (by omega) (by omega) (((Buts.tran (ls := [l, l2]) ⟨kb.1, fun id hid _ => kb.2 id hid⟩ hC.buts (fun s hs => by simp at hs; simp [hs]))).tran hC2.buts (fun s hs => by simp at hs; simp [hs]))
  clear hK hk2 hk3
  repeat' (first | (simp (disch := first | omega | assumption | (simp only [List.length_set]; omega) | (simp [*] <;> fail) | assumption) [-Bool.decide_and, -Bool.decide_or, -Bool.not_and, -Bool.not_or, toNat_pred, toNat_succ, wrap64, wr_new, wr_new0, ok_if, ok_ifn, iadV_sl, makeV_int, decT, decF, over_at, *]) | (with_reducible refine Gd_split (fun hc => ?_) (fun hc => ?_) <;> (have hc2 := hc; try simp at hc2)) | (with_reducible refine Br_split (fun hc => ?_) (fun hc => ?_) <;> (have hc2 := hc; try simp at hc2)) | (with_reducible refine GdT_split (fun hc => ?_) (fun hc => ?_) <;> (have hc2 := hc; try simp at hc2)) | (with_reducible refine WT_alt ?_ ?_) | omega)
end
end
end Go.E
