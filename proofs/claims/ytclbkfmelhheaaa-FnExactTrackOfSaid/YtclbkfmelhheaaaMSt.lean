/- Clips, strips and sessions: the laws' helpers. -/
import Derived.Test.YtclbkfmelhheaaaMDe
import Derived.Test.YtclbkfmelhheaaaMDm
set_option linter.unusedVariables false
set_option linter.unusedSimpArgs false
namespace Go.E
open Go
def L143 : LFn := ⟨1, (.seq (.reg [⟨(.some 1), (.box 182 (.t 0)), none⟩, ⟨(.some 2), (.alloc 118 [(.int .i64 0), (.int .i64 0), .nils]), none⟩])
 (.seq (.reg [⟨(.some 3), (.alloc 118 [(.int .i64 0), (.int .i64 0), .nils]), none⟩])
 (.seq (.reg [⟨(.some 4), (.faddr 0 (.t 1)), none⟩, ⟨(.some 5), (.load false 1 (.t 4)), none⟩, ⟨(.some 6), (.faddr 0 (.t 3)), none⟩, ⟨none, (.store 1 (.t 6) (.t 5)), none⟩])
 (.seq (.reg [⟨(.some 7), (.faddr 1 (.t 1)), none⟩, ⟨(.some 8), (.load false 1 (.t 7)), none⟩, ⟨(.some 9), (.faddr 1 (.t 3)), none⟩, ⟨none, (.store 1 (.t 9) (.t 8)), none⟩])
 (.seq (.reg [⟨(.some 10), (.faddr 2 (.t 1)), none⟩, ⟨(.some 11), (.load false 1 (.t 10)), none⟩, ⟨(.some 12), (.call false 43 [(.t 11)]), none⟩, ⟨(.some 13), (.faddr 2 (.t 3)), none⟩, ⟨none, (.store 1 (.t 13) (.t 12)), none⟩])
 (.seq (.reg [⟨(.some 14), (.load true 3 (.t 3)), none⟩, ⟨none, (.store 3 (.t 2) (.t 14)), none⟩])
 .ret)))))), [(.cell 2 true 3)]⟩
def L146 : LFn := ⟨2, (.seq (.reg [⟨(.some 2), (.box 118 (.t 0)), none⟩, ⟨(.some 3), (.box 118 (.t 1)), none⟩, ⟨(.some 4), (.mv (.c (.lf (.bool false)))), none⟩])
 (.seq (.seq (.reg [⟨(.some 5), (.faddr 0 (.t 2)), none⟩, ⟨(.some 6), (.load false 1 (.t 5)), none⟩, ⟨(.some 7), (.faddr 0 (.t 3)), none⟩, ⟨(.some 8), (.load false 1 (.t 7)), none⟩, ⟨(.some 9), (.bin .neq (.t 6) (.t 8)), none⟩])
 (.cond (.t 9) (.seq (.reg [⟨(.some 4), (.mv (.c (.lf (.bool false)))), none⟩])
 .ret) .skip))
 (.seq (.seq (.reg [⟨(.some 10), (.faddr 1 (.t 2)), none⟩, ⟨(.some 11), (.load false 1 (.t 10)), none⟩, ⟨(.some 12), (.faddr 1 (.t 3)), none⟩, ⟨(.some 13), (.load false 1 (.t 12)), none⟩, ⟨(.some 14), (.bin .neq (.t 11) (.t 13)), none⟩])
 (.cond (.t 14) (.seq (.reg [⟨(.some 4), (.mv (.c (.lf (.bool false)))), none⟩])
 .ret) .skip))
 (.seq (.seq (.reg [⟨(.some 15), (.faddr 2 (.t 2)), none⟩, ⟨(.some 16), (.load false 1 (.t 15)), none⟩, ⟨(.some 17), (.faddr 2 (.t 3)), none⟩, ⟨(.some 18), (.load false 1 (.t 17)), none⟩, ⟨(.some 19), (.call true 16 [(.t 16), (.t 18)]), none⟩, ⟨(.some 20), (.una .not (.t 19)), none⟩])
 (.cond (.t 20) (.seq (.reg [⟨(.some 4), (.mv (.c (.lf (.bool false)))), none⟩])
 .ret) .skip))
 (.seq (.reg [⟨(.some 4), (.mv (.c (.lf (.bool true)))), none⟩])
 .ret))))), [(.tmp 4)]⟩
def L139 : LFn := ⟨2, (.seq (.reg [⟨(.some 2), (.box 182 (.t 0)), none⟩, ⟨(.some 4), (.mv (.c (.lf (.int .i64 0)))), none⟩])
 (.seq (.reg [⟨(.some 5), (.faddr 2 (.t 2)), none⟩, ⟨(.some 6), (.load false 1 (.t 5)), none⟩, ⟨(.some 7), (.mv (.t 1)), none⟩, ⟨(.some 8), (.call true 111 [(.t 6), (.t 7)]), none⟩, ⟨(.some 1), (.mv (.t 8)), none⟩])
 (.seq (.seq (.reg [⟨(.some 9), (.mv (.t 1)), none⟩, ⟨(.some 10), (.bin .lss (.t 9) (.c (.lf (.int .i64 0)))), none⟩])
 (.cond (.t 10) (.seq (.reg [⟨(.some 4), (.mv (.c (.lf (.int .i64 (-1))))), none⟩])
 .ret) .skip))
 (.seq (.reg [⟨(.some 11), (.mv (.t 1)), none⟩, ⟨(.some 4), (.mv (.t 11)), none⟩])
 .ret)))), [(.tmp 4)]⟩
def L71 : LFn := ⟨1, (.seq (.reg [⟨(.some 2), (.mv (.c (.lf .nils))), none⟩])
 (.seq (.reg [⟨(.some 5), (.mv (.t 0)), none⟩, ⟨(.some 6), (.len (.t 5)), none⟩, ⟨(.some 7), (.make 118 3 40 [(.int .i64 0), (.int .i64 0), .nils] (.t 6) (.t 6)), none⟩, ⟨(.some 3), (.mv (.t 7)), none⟩])
 (.seq (.seq (.reg [⟨(.some 4), (.mv (.c (.lf (.int .i64 0)))), none⟩])
 (.block 0 (.loop (.seq (.seq (.reg [⟨(.some 8), (.mv (.t 4)), none⟩, ⟨(.some 9), (.mv (.t 0)), none⟩, ⟨(.some 10), (.len (.t 9)), none⟩, ⟨(.some 11), (.bin .lss (.t 8) (.t 10)), none⟩])
 (.cond (.t 11) .skip (.exit 0)))
 (.seq (.block 1 (.reg [⟨(.some 14), (.mv (.t 3)), none⟩, ⟨(.some 15), (.mv (.t 4)), none⟩, ⟨(.some 16), (.mv (.t 0)), none⟩, ⟨(.some 17), (.mv (.t 4)), none⟩, ⟨(.some 18), (.iaddr 3 (.t 16) (.t 17)), none⟩, ⟨(.some 19), (.load true 3 (.t 18)), none⟩, ⟨(.some 20), (.call false 143 [(.t 19)]), none⟩, ⟨(.some 21), (.iaddr 3 (.t 14) (.t 15)), none⟩, ⟨none, (.store 3 (.t 21) (.t 20)), none⟩]))
 (.reg [⟨(.some 12), (.mv (.t 4)), none⟩, ⟨(.some 13), (.bin .add (.t 12) (.c (.lf (.int .i64 1)))), none⟩, ⟨(.some 4), (.mv (.t 13)), none⟩]))))))
 (.seq (.reg [⟨(.some 22), (.mv (.t 3)), none⟩, ⟨(.some 2), (.mv (.t 22)), none⟩])
 .ret)))), [(.tmp 2)]⟩
def L80 : LFn := ⟨2, (.seq (.reg [⟨(.some 4), (.mv (.c (.lf (.bool false)))), none⟩])
 (.seq (.seq (.reg [⟨(.some 6), (.mv (.t 0)), none⟩, ⟨(.some 7), (.len (.t 6)), none⟩, ⟨(.some 8), (.mv (.t 1)), none⟩, ⟨(.some 9), (.len (.t 8)), none⟩, ⟨(.some 10), (.bin .neq (.t 7) (.t 9)), none⟩])
 (.cond (.t 10) (.seq (.reg [⟨(.some 4), (.mv (.c (.lf (.bool false)))), none⟩])
 .ret) .skip))
 (.seq (.seq (.reg [⟨(.some 5), (.mv (.c (.lf (.int .i64 0)))), none⟩])
 (.block 0 (.loop (.seq (.seq (.reg [⟨(.some 11), (.mv (.t 5)), none⟩, ⟨(.some 12), (.mv (.t 0)), none⟩, ⟨(.some 13), (.len (.t 12)), none⟩, ⟨(.some 14), (.bin .lss (.t 11) (.t 13)), none⟩])
 (.cond (.t 14) .skip (.exit 0)))
 (.seq (.block 1 (.seq (.reg [⟨(.some 17), (.mv (.t 0)), none⟩, ⟨(.some 18), (.mv (.t 5)), none⟩, ⟨(.some 19), (.iaddr 3 (.t 17) (.t 18)), none⟩, ⟨(.some 20), (.load true 3 (.t 19)), none⟩, ⟨(.some 21), (.mv (.t 1)), none⟩, ⟨(.some 22), (.mv (.t 5)), none⟩, ⟨(.some 23), (.iaddr 3 (.t 21) (.t 22)), none⟩, ⟨(.some 24), (.load true 3 (.t 23)), none⟩, ⟨(.some 25), (.call true 146 [(.t 20), (.t 24)]), none⟩, ⟨(.some 26), (.una .not (.t 25)), none⟩])
 (.cond (.t 26) (.seq (.reg [⟨(.some 4), (.mv (.c (.lf (.bool false)))), none⟩])
 .ret) .skip)))
 (.reg [⟨(.some 15), (.mv (.t 5)), none⟩, ⟨(.some 16), (.bin .add (.t 15) (.c (.lf (.int .i64 1)))), none⟩, ⟨(.some 5), (.mv (.t 16)), none⟩]))))))
 (.seq (.reg [⟨(.some 4), (.mv (.c (.lf (.bool true)))), none⟩])
 .ret)))), [(.tmp 4)]⟩
def L68 : LFn := ⟨2, (.seq (.reg [⟨(.some 4), (.mv (.c (.lf (.int .i64 0)))), none⟩])
 (.seq (.reg [⟨(.some 6), (.mv (.t 1)), none⟩, ⟨(.some 7), (.mv (.t 0)), none⟩, ⟨(.some 8), (.len (.t 7)), none⟩, ⟨(.some 9), (.bin .sub (.t 6) (.t 8)), none⟩, ⟨(.some 1), (.mv (.t 9)), none⟩])
 (.seq (.seq (.reg [⟨(.some 10), (.mv (.t 1)), none⟩, ⟨(.some 11), (.bin .lss (.t 10) (.c (.lf (.int .i64 0)))), none⟩])
 (.cond (.t 11) (.seq (.reg [⟨(.some 4), (.mv (.c (.lf (.int .i64 (-1))))), none⟩])
 .ret) .skip))
 (.seq (.seq (.reg [⟨(.some 5), (.mv (.c (.lf (.int .i64 0)))), none⟩])
 (.block 0 (.loop (.seq (.seq (.reg [⟨(.some 12), (.mv (.t 5)), none⟩, ⟨(.some 13), (.mv (.t 0)), none⟩, ⟨(.some 14), (.len (.t 13)), none⟩, ⟨(.some 15), (.bin .lss (.t 12) (.t 14)), none⟩])
 (.cond (.t 15) .skip (.exit 0)))
 (.seq (.block 1 (.seq (.reg [⟨(.some 18), (.mv (.t 0)), none⟩, ⟨(.some 19), (.mv (.t 5)), none⟩, ⟨(.some 20), (.iaddr 3 (.t 18) (.t 19)), none⟩, ⟨(.some 21), (.load true 3 (.t 20)), none⟩, ⟨(.some 22), (.mv (.t 1)), none⟩, ⟨(.some 23), (.call true 139 [(.t 21), (.t 22)]), none⟩, ⟨(.some 1), (.mv (.t 23)), none⟩])
 (.seq (.reg [⟨(.some 24), (.mv (.t 1)), none⟩, ⟨(.some 25), (.bin .lss (.t 24) (.c (.lf (.int .i64 0)))), none⟩])
 (.cond (.t 25) (.seq (.reg [⟨(.some 4), (.mv (.c (.lf (.int .i64 (-1))))), none⟩])
 .ret) .skip))))
 (.reg [⟨(.some 16), (.mv (.t 5)), none⟩, ⟨(.some 17), (.bin .add (.t 16) (.c (.lf (.int .i64 1)))), none⟩, ⟨(.some 5), (.mv (.t 17)), none⟩]))))))
 (.seq (.reg [⟨(.some 26), (.mv (.t 1)), none⟩, ⟨(.some 4), (.mv (.t 26)), none⟩])
 .ret))))), [(.tmp 4)]⟩
class HasDC (S : Sys) : Prop extends HasF S, HasSz S where
  f143 : S.fs 143 = some L143
  f146 : S.fs 146 = some L146
  f139 : S.fs 139 = some L139
  f71 : S.fs 71 = some L71
  f80 : S.fs 80 = some L80
  f68 : S.fs 68 = some L68
def L144 : LFn := ⟨1, (.seq (.reg [⟨(.some 1), (.box 186 (.t 0)), none⟩, ⟨(.some 2), (.alloc 114 [.nils, (.int .i64 0), (.flt .f32 0), (.bool false), (.bool false)]), none⟩])
 (.seq (.reg [⟨(.some 3), (.alloc 114 [.nils, (.int .i64 0), (.flt .f32 0), (.bool false), (.bool false)]), none⟩])
 (.seq (.reg [⟨(.some 4), (.faddr 0 (.t 1)), none⟩, ⟨(.some 5), (.load false 1 (.t 4)), none⟩, ⟨(.some 6), (.call false 185 [(.t 5)]), none⟩, ⟨(.some 7), (.faddr 0 (.t 3)), none⟩, ⟨none, (.store 1 (.t 7) (.t 6)), none⟩])
 (.seq (.reg [⟨(.some 8), (.faddr 1 (.t 1)), none⟩, ⟨(.some 9), (.load false 1 (.t 8)), none⟩, ⟨(.some 10), (.faddr 1 (.t 3)), none⟩, ⟨none, (.store 1 (.t 10) (.t 9)), none⟩])
 (.seq (.reg [⟨(.some 11), (.faddr 2 (.t 1)), none⟩, ⟨(.some 12), (.load false 1 (.t 11)), none⟩, ⟨(.some 13), (.faddr 2 (.t 3)), none⟩, ⟨none, (.store 1 (.t 13) (.t 12)), none⟩])
 (.seq (.reg [⟨(.some 14), (.faddr 3 (.t 1)), none⟩, ⟨(.some 15), (.load false 1 (.t 14)), none⟩, ⟨(.some 16), (.faddr 3 (.t 3)), none⟩, ⟨none, (.store 1 (.t 16) (.t 15)), none⟩])
 (.seq (.reg [⟨(.some 17), (.faddr 4 (.t 1)), none⟩, ⟨(.some 18), (.load false 1 (.t 17)), none⟩, ⟨(.some 19), (.faddr 4 (.t 3)), none⟩, ⟨none, (.store 1 (.t 19) (.t 18)), none⟩])
 (.seq (.reg [⟨(.some 20), (.load true 5 (.t 3)), none⟩, ⟨none, (.store 5 (.t 2) (.t 20)), none⟩])
 .ret)))))))), [(.cell 2 true 5)]⟩
def L147 : LFn := ⟨2, (.seq (.reg [⟨(.some 2), (.box 114 (.t 0)), none⟩, ⟨(.some 3), (.box 114 (.t 1)), none⟩, ⟨(.some 4), (.mv (.c (.lf (.bool false)))), none⟩])
 (.seq (.seq (.reg [⟨(.some 5), (.faddr 0 (.t 2)), none⟩, ⟨(.some 6), (.load false 1 (.t 5)), none⟩, ⟨(.some 7), (.faddr 0 (.t 3)), none⟩, ⟨(.some 8), (.load false 1 (.t 7)), none⟩, ⟨(.some 9), (.call true 188 [(.t 6), (.t 8)]), none⟩, ⟨(.some 10), (.una .not (.t 9)), none⟩])
 (.cond (.t 10) (.seq (.reg [⟨(.some 4), (.mv (.c (.lf (.bool false)))), none⟩])
 .ret) .skip))
 (.seq (.seq (.reg [⟨(.some 11), (.faddr 1 (.t 2)), none⟩, ⟨(.some 12), (.load false 1 (.t 11)), none⟩, ⟨(.some 13), (.faddr 1 (.t 3)), none⟩, ⟨(.some 14), (.load false 1 (.t 13)), none⟩, ⟨(.some 15), (.bin .neq (.t 12) (.t 14)), none⟩])
 (.cond (.t 15) (.seq (.reg [⟨(.some 4), (.mv (.c (.lf (.bool false)))), none⟩])
 .ret) .skip))
 (.seq (.seq (.reg [⟨(.some 16), (.faddr 2 (.t 2)), none⟩, ⟨(.some 17), (.load false 1 (.t 16)), none⟩, ⟨(.some 18), (.toflt .f64 (.t 17)), none⟩, ⟨(.some 19), (.faddr 2 (.t 3)), none⟩, ⟨(.some 20), (.load false 1 (.t 19)), none⟩, ⟨(.some 21), (.toflt .f64 (.t 20)), none⟩, ⟨(.some 22), (.call true 67 [(.t 18), (.t 21)]), none⟩, ⟨(.some 23), (.una .not (.t 22)), none⟩])
 (.cond (.t 23) (.seq (.reg [⟨(.some 4), (.mv (.c (.lf (.bool false)))), none⟩])
 .ret) .skip))
 (.seq (.seq (.reg [⟨(.some 24), (.faddr 3 (.t 2)), none⟩, ⟨(.some 25), (.load false 1 (.t 24)), none⟩, ⟨(.some 26), (.faddr 3 (.t 3)), none⟩, ⟨(.some 27), (.load false 1 (.t 26)), none⟩, ⟨(.some 28), (.beq true (.t 25) (.t 27)), none⟩])
 (.cond (.t 28) (.seq (.reg [⟨(.some 4), (.mv (.c (.lf (.bool false)))), none⟩])
 .ret) .skip))
 (.seq (.seq (.reg [⟨(.some 29), (.faddr 4 (.t 2)), none⟩, ⟨(.some 30), (.load false 1 (.t 29)), none⟩, ⟨(.some 31), (.faddr 4 (.t 3)), none⟩, ⟨(.some 32), (.load false 1 (.t 31)), none⟩, ⟨(.some 33), (.beq true (.t 30) (.t 32)), none⟩])
 (.cond (.t 33) (.seq (.reg [⟨(.some 4), (.mv (.c (.lf (.bool false)))), none⟩])
 .ret) .skip))
 (.seq (.reg [⟨(.some 4), (.mv (.c (.lf (.bool true)))), none⟩])
 .ret))))))), [(.tmp 4)]⟩
def L140 : LFn := ⟨2, (.seq (.reg [⟨(.some 2), (.box 186 (.t 0)), none⟩, ⟨(.some 4), (.mv (.c (.lf (.int .i64 0)))), none⟩])
 (.seq (.reg [⟨(.some 5), (.faddr 0 (.t 2)), none⟩, ⟨(.some 6), (.load false 1 (.t 5)), none⟩, ⟨(.some 7), (.mv (.t 1)), none⟩, ⟨(.some 8), (.call true 183 [(.t 6), (.t 7)]), none⟩, ⟨(.some 1), (.mv (.t 8)), none⟩])
 (.seq (.seq (.reg [⟨(.some 9), (.mv (.t 1)), none⟩, ⟨(.some 10), (.bin .lss (.t 9) (.c (.lf (.int .i64 0)))), none⟩])
 (.cond (.t 10) (.seq (.reg [⟨(.some 4), (.mv (.c (.lf (.int .i64 (-1))))), none⟩])
 .ret) .skip))
 (.seq (.reg [⟨(.some 11), (.mv (.t 1)), none⟩, ⟨(.some 4), (.mv (.t 11)), none⟩])
 .ret)))), [(.tmp 4)]⟩
def L72 : LFn := ⟨1, (.seq (.reg [⟨(.some 2), (.mv (.c (.lf .nils))), none⟩])
 (.seq (.reg [⟨(.some 5), (.mv (.t 0)), none⟩, ⟨(.some 6), (.len (.t 5)), none⟩, ⟨(.some 7), (.make 114 5 40 [.nils, (.int .i64 0), (.flt .f32 0), (.bool false), (.bool false)] (.t 6) (.t 6)), none⟩, ⟨(.some 3), (.mv (.t 7)), none⟩])
 (.seq (.seq (.reg [⟨(.some 4), (.mv (.c (.lf (.int .i64 0)))), none⟩])
 (.block 0 (.loop (.seq (.seq (.reg [⟨(.some 8), (.mv (.t 4)), none⟩, ⟨(.some 9), (.mv (.t 0)), none⟩, ⟨(.some 10), (.len (.t 9)), none⟩, ⟨(.some 11), (.bin .lss (.t 8) (.t 10)), none⟩])
 (.cond (.t 11) .skip (.exit 0)))
 (.seq (.block 1 (.reg [⟨(.some 14), (.mv (.t 3)), none⟩, ⟨(.some 15), (.mv (.t 4)), none⟩, ⟨(.some 16), (.mv (.t 0)), none⟩, ⟨(.some 17), (.mv (.t 4)), none⟩, ⟨(.some 18), (.iaddr 5 (.t 16) (.t 17)), none⟩, ⟨(.some 19), (.load true 5 (.t 18)), none⟩, ⟨(.some 20), (.call false 144 [(.t 19)]), none⟩, ⟨(.some 21), (.iaddr 5 (.t 14) (.t 15)), none⟩, ⟨none, (.store 5 (.t 21) (.t 20)), none⟩]))
 (.reg [⟨(.some 12), (.mv (.t 4)), none⟩, ⟨(.some 13), (.bin .add (.t 12) (.c (.lf (.int .i64 1)))), none⟩, ⟨(.some 4), (.mv (.t 13)), none⟩]))))))
 (.seq (.reg [⟨(.some 22), (.mv (.t 3)), none⟩, ⟨(.some 2), (.mv (.t 22)), none⟩])
 .ret)))), [(.tmp 2)]⟩
def L81 : LFn := ⟨2, (.seq (.reg [⟨(.some 4), (.mv (.c (.lf (.bool false)))), none⟩])
 (.seq (.seq (.reg [⟨(.some 6), (.mv (.t 0)), none⟩, ⟨(.some 7), (.len (.t 6)), none⟩, ⟨(.some 8), (.mv (.t 1)), none⟩, ⟨(.some 9), (.len (.t 8)), none⟩, ⟨(.some 10), (.bin .neq (.t 7) (.t 9)), none⟩])
 (.cond (.t 10) (.seq (.reg [⟨(.some 4), (.mv (.c (.lf (.bool false)))), none⟩])
 .ret) .skip))
 (.seq (.seq (.reg [⟨(.some 5), (.mv (.c (.lf (.int .i64 0)))), none⟩])
 (.block 0 (.loop (.seq (.seq (.reg [⟨(.some 11), (.mv (.t 5)), none⟩, ⟨(.some 12), (.mv (.t 0)), none⟩, ⟨(.some 13), (.len (.t 12)), none⟩, ⟨(.some 14), (.bin .lss (.t 11) (.t 13)), none⟩])
 (.cond (.t 14) .skip (.exit 0)))
 (.seq (.block 1 (.seq (.reg [⟨(.some 17), (.mv (.t 0)), none⟩, ⟨(.some 18), (.mv (.t 5)), none⟩, ⟨(.some 19), (.iaddr 5 (.t 17) (.t 18)), none⟩, ⟨(.some 20), (.load true 5 (.t 19)), none⟩, ⟨(.some 21), (.mv (.t 1)), none⟩, ⟨(.some 22), (.mv (.t 5)), none⟩, ⟨(.some 23), (.iaddr 5 (.t 21) (.t 22)), none⟩, ⟨(.some 24), (.load true 5 (.t 23)), none⟩, ⟨(.some 25), (.call true 147 [(.t 20), (.t 24)]), none⟩, ⟨(.some 26), (.una .not (.t 25)), none⟩])
 (.cond (.t 26) (.seq (.reg [⟨(.some 4), (.mv (.c (.lf (.bool false)))), none⟩])
 .ret) .skip)))
 (.reg [⟨(.some 15), (.mv (.t 5)), none⟩, ⟨(.some 16), (.bin .add (.t 15) (.c (.lf (.int .i64 1)))), none⟩, ⟨(.some 5), (.mv (.t 16)), none⟩]))))))
 (.seq (.reg [⟨(.some 4), (.mv (.c (.lf (.bool true)))), none⟩])
 .ret)))), [(.tmp 4)]⟩
def L69 : LFn := ⟨2, (.seq (.reg [⟨(.some 4), (.mv (.c (.lf (.int .i64 0)))), none⟩])
 (.seq (.reg [⟨(.some 6), (.mv (.t 1)), none⟩, ⟨(.some 7), (.mv (.t 0)), none⟩, ⟨(.some 8), (.len (.t 7)), none⟩, ⟨(.some 9), (.bin .sub (.t 6) (.t 8)), none⟩, ⟨(.some 1), (.mv (.t 9)), none⟩])
 (.seq (.seq (.reg [⟨(.some 10), (.mv (.t 1)), none⟩, ⟨(.some 11), (.bin .lss (.t 10) (.c (.lf (.int .i64 0)))), none⟩])
 (.cond (.t 11) (.seq (.reg [⟨(.some 4), (.mv (.c (.lf (.int .i64 (-1))))), none⟩])
 .ret) .skip))
 (.seq (.seq (.reg [⟨(.some 5), (.mv (.c (.lf (.int .i64 0)))), none⟩])
 (.block 0 (.loop (.seq (.seq (.reg [⟨(.some 12), (.mv (.t 5)), none⟩, ⟨(.some 13), (.mv (.t 0)), none⟩, ⟨(.some 14), (.len (.t 13)), none⟩, ⟨(.some 15), (.bin .lss (.t 12) (.t 14)), none⟩])
 (.cond (.t 15) .skip (.exit 0)))
 (.seq (.block 1 (.seq (.reg [⟨(.some 18), (.mv (.t 0)), none⟩, ⟨(.some 19), (.mv (.t 5)), none⟩, ⟨(.some 20), (.iaddr 5 (.t 18) (.t 19)), none⟩, ⟨(.some 21), (.load true 5 (.t 20)), none⟩, ⟨(.some 22), (.mv (.t 1)), none⟩, ⟨(.some 23), (.call true 140 [(.t 21), (.t 22)]), none⟩, ⟨(.some 1), (.mv (.t 23)), none⟩])
 (.seq (.reg [⟨(.some 24), (.mv (.t 1)), none⟩, ⟨(.some 25), (.bin .lss (.t 24) (.c (.lf (.int .i64 0)))), none⟩])
 (.cond (.t 25) (.seq (.reg [⟨(.some 4), (.mv (.c (.lf (.int .i64 (-1))))), none⟩])
 .ret) .skip))))
 (.reg [⟨(.some 16), (.mv (.t 5)), none⟩, ⟨(.some 17), (.bin .add (.t 16) (.c (.lf (.int .i64 1)))), none⟩, ⟨(.some 5), (.mv (.t 17)), none⟩]))))))
 (.seq (.reg [⟨(.some 26), (.mv (.t 1)), none⟩, ⟨(.some 4), (.mv (.t 26)), none⟩])
 .ret))))), [(.tmp 4)]⟩
class HasDP (S : Sys) : Prop extends HasDE S where
  f144 : S.fs 144 = some L144
  f147 : S.fs 147 = some L147
  f140 : S.fs 140 = some L140
  f72 : S.fs 72 = some L72
  f81 : S.fs 81 = some L81
  f69 : S.fs 69 = some L69
def L21 : LFn := ⟨1, (.seq (.reg [⟨(.some 1), (.box 40 (.t 0)), none⟩, ⟨(.some 2), (.alloc 46 [.nils, .nils]), none⟩])
 (.seq (.reg [⟨(.some 3), (.alloc 46 [.nils, .nils]), none⟩])
 (.seq (.reg [⟨(.some 4), (.faddr 0 (.t 1)), none⟩, ⟨(.some 5), (.load false 1 (.t 4)), none⟩, ⟨(.some 6), (.call false 71 [(.t 5)]), none⟩, ⟨(.some 7), (.faddr 0 (.t 3)), none⟩, ⟨none, (.store 1 (.t 7) (.t 6)), none⟩])
 (.seq (.reg [⟨(.some 8), (.faddr 1 (.t 1)), none⟩, ⟨(.some 9), (.load false 1 (.t 8)), none⟩, ⟨(.some 10), (.call false 72 [(.t 9)]), none⟩, ⟨(.some 11), (.faddr 1 (.t 3)), none⟩, ⟨none, (.store 1 (.t 11) (.t 10)), none⟩])
 (.seq (.reg [⟨(.some 12), (.load true 2 (.t 3)), none⟩, ⟨none, (.store 2 (.t 2) (.t 12)), none⟩])
 .ret))))), [(.cell 2 true 2)]⟩
def L23 : LFn := ⟨2, (.seq (.reg [⟨(.some 2), (.box 46 (.t 0)), none⟩, ⟨(.some 3), (.box 46 (.t 1)), none⟩, ⟨(.some 4), (.mv (.c (.lf (.bool false)))), none⟩])
 (.seq (.seq (.reg [⟨(.some 5), (.faddr 0 (.t 2)), none⟩, ⟨(.some 6), (.load false 1 (.t 5)), none⟩, ⟨(.some 7), (.faddr 0 (.t 3)), none⟩, ⟨(.some 8), (.load false 1 (.t 7)), none⟩, ⟨(.some 9), (.call true 80 [(.t 6), (.t 8)]), none⟩, ⟨(.some 10), (.una .not (.t 9)), none⟩])
 (.cond (.t 10) (.seq (.reg [⟨(.some 4), (.mv (.c (.lf (.bool false)))), none⟩])
 .ret) .skip))
 (.seq (.seq (.reg [⟨(.some 11), (.faddr 1 (.t 2)), none⟩, ⟨(.some 12), (.load false 1 (.t 11)), none⟩, ⟨(.some 13), (.faddr 1 (.t 3)), none⟩, ⟨(.some 14), (.load false 1 (.t 13)), none⟩, ⟨(.some 15), (.call true 81 [(.t 12), (.t 14)]), none⟩, ⟨(.some 16), (.una .not (.t 15)), none⟩])
 (.cond (.t 16) (.seq (.reg [⟨(.some 4), (.mv (.c (.lf (.bool false)))), none⟩])
 .ret) .skip))
 (.seq (.reg [⟨(.some 4), (.mv (.c (.lf (.bool true)))), none⟩])
 .ret)))), [(.tmp 4)]⟩
def L19 : LFn := ⟨2, (.seq (.reg [⟨(.some 2), (.box 40 (.t 0)), none⟩, ⟨(.some 4), (.mv (.c (.lf (.int .i64 0)))), none⟩])
 (.seq (.reg [⟨(.some 5), (.faddr 0 (.t 2)), none⟩, ⟨(.some 6), (.load false 1 (.t 5)), none⟩, ⟨(.some 7), (.mv (.t 1)), none⟩, ⟨(.some 8), (.call true 68 [(.t 6), (.t 7)]), none⟩, ⟨(.some 1), (.mv (.t 8)), none⟩])
 (.seq (.seq (.reg [⟨(.some 9), (.mv (.t 1)), none⟩, ⟨(.some 10), (.bin .lss (.t 9) (.c (.lf (.int .i64 0)))), none⟩])
 (.cond (.t 10) (.seq (.reg [⟨(.some 4), (.mv (.c (.lf (.int .i64 (-1))))), none⟩])
 .ret) .skip))
 (.seq (.reg [⟨(.some 11), (.faddr 1 (.t 2)), none⟩, ⟨(.some 12), (.load false 1 (.t 11)), none⟩, ⟨(.some 13), (.mv (.t 1)), none⟩, ⟨(.some 14), (.call true 69 [(.t 12), (.t 13)]), none⟩, ⟨(.some 1), (.mv (.t 14)), none⟩])
 (.seq (.seq (.reg [⟨(.some 15), (.mv (.t 1)), none⟩, ⟨(.some 16), (.bin .lss (.t 15) (.c (.lf (.int .i64 0)))), none⟩])
 (.cond (.t 16) (.seq (.reg [⟨(.some 4), (.mv (.c (.lf (.int .i64 (-1))))), none⟩])
 .ret) .skip))
 (.seq (.reg [⟨(.some 17), (.mv (.t 1)), none⟩, ⟨(.some 4), (.mv (.t 17)), none⟩])
 .ret)))))), [(.tmp 4)]⟩
class HasDN (S : Sys) : Prop extends HasDC S, HasDP S where
  f21 : S.fs 21 = some L21
  f23 : S.fs 23 = some L23
  f19 : S.fs 19 = some L19
/-- A strip, with its effects where they lie (the leaf of their slice stands beside it). -/
structure Str where
  ps : List (Eff × Lf)
  tenths : Int
  pan : Nat
  mute : Bool
  solo : Bool
def Str.cells (p : Str × Lf) : List Lf := [p.2, .int .i64 p.1.tenths, .flt .f32 p.1.pan, .bool p.1.mute, .bool p.1.solo]
structure StrV where
  effs : List Eff
  tenths : Int
  pan : Nat
  mute : Bool
  solo : Bool
/-- What a strip holds, wherever it lies. -/
def Str.val (s : Str) : StrV := ⟨s.ps.map (·.1), s.tenths, s.pan, s.mute, s.solo⟩
def valS (ss : List (Str × Lf)) : List StrV := ss.map fun p => p.1.val
theorem valS_len {ss : List (Str × Lf)} : (valS ss).length = ss.length := by simp [valS]
theorem valS_get {ss : List (Str × Lf)} {i : Nat} (hi : i < ss.length) : (valS ss)[i]'(by simpa [valS] using hi) = ss[i].1.val := by simp [valS]
theorem valS_eq {ss rs : List (Str × Lf)} (h : valS rs = valS ss) : rs.length = ss.length := by have := congrArg List.length h; simpa [valS] using this
theorem valS_at {ss rs : List (Str × Lf)} (h : valS rs = valS ss) {i : Nat} (hi : i < ss.length) : (rs[i]'(by rw [valS_eq h]; exact hi)).1.val = ss[i].1.val := by
  have h1 : (valS rs)[i]'(by simp [valS, valS_eq h, hi]) = (valS ss)[i]'(by simpa [valS] using hi) := by simp only [h]
  simpa [valS] using h1
/-- So many effects and numbers a strip has. -/
def Str.ro (s : Str) : List Nat := List.replicate (s.ps.length + szD Eff.nums s.ps) 0
@[simp] theorem Str.ro_len {s : Str} : s.ro.length = s.ps.length + szD Eff.nums s.ps := by simp [Str.ro]
/-- What the strips' slices hold. -/
def InS (h : Hp) (ss : List (Str × Lf)) : Prop := ∀ i (hi : i < ss.length), Arr h ss[i].2 3 (ss[i].1.ps.map Eff.cells) ∧ In h Eff.nums ss[i].1.ps
theorem InS.kept {h g : Hp} {ss : List (Str × Lf)} (hI : InS h ss) (k : Kept h g) : InS g ss := fun i hi => ⟨(hI i hi).1.kept k, (hI i hi).2.kept k⟩
theorem InS.of {h : Hp} {ss : List (Str × Lf)} (hI : ∀ p ∈ ss, Arr h p.2 3 (p.1.ps.map Eff.cells) ∧ In h Eff.nums p.1.ps) : InS h ss := fun i hi => hI _ (List.getElem_mem hi)
section
variable {α : Type} {h g : Hp} {l : Lf} {ty sz fty : Nat} {ce : α × Lf → List Lf} {ro : α → List Nat} {ps : List (α × Lf)}
theorem New.swapB {rows : List (List Lf)} {bs bs' t : Hp} (hN : New (h ++ bs) (h ++ (bs ++ t)) l ty sz rows) (he : bs'.length = bs.length) : New (h ++ bs') (h ++ (bs' ++ t)) l ty sz rows := by
  have hk : Kept (h ++ bs') (h ++ (bs' ++ t)) := by rw [← List.append_assoc]; exact Kept.app _ _
  rcases hN.own with ⟨rfl, rfl⟩ | ⟨i, rfl, h2, h3⟩
  · exact New.nil hk
  · have h4 : Sl (h ++ (bs' ++ t)) i ty sz rows := by
      refine ⟨?_, h3.len⟩
      have := h3.get
      rw [← List.append_assoc, List.getElem?_append_right h2] at this
      rw [← List.append_assoc, List.getElem?_append_right (by simp at h2 ⊢; omega), ← this]
      simp [he]
    exact ⟨hk, h4.arr hN.arr.small, .inr ⟨i, rfl, by simp at h2 ⊢; omega, h4⟩⟩
theorem NewD.swapB {bs bs' t : Hp} (hN : NewD (h ++ bs) (h ++ (bs ++ t)) l ty sz ce ro fty ps) (he : bs'.length = bs.length) : NewD (h ++ bs') (h ++ (bs' ++ t)) l ty sz ce ro fty ps :=
  ⟨hN.out.swapB he, fun p hp => (hN.inn p hp).swapB he, hN.far, hN.faro⟩
theorem NewD.swap3 {a b c a' b' c' : Ob} {t : Hp} (hN : NewD (h ++ [a, b, c]) (h ++ a :: b :: c :: t) l ty sz ce ro fty ps) : NewD h (h ++ a' :: b' :: c' :: t) l ty sz ce ro fty ps :=
  (NewD.swapB (bs := [a, b, c]) (bs' := [a', b', c']) hN rfl).base (Kept.app _ _)
theorem NewD.set_other {id : Nat} {ob : Ob} (hN : NewD h g l ty sz ce ro fty ps) (h1 : h.length ≤ id) (h2 : ∀ a ∈ lvs l ps, a ≠ .nils → a.id ≠ id) : NewD h (g.set id ob) l ty sz ce ro fty ps :=
  ⟨hN.out.set_other h1 (h2 l lvs_head), fun p hp => (hN.inn p hp).set_other h1 (h2 p.2 (by unfold lvs; exact List.mem_cons_of_mem _ (List.mem_map.2 ⟨p, hp, rfl⟩))), hN.far, hN.faro⟩
end
/-- Effects that were made here. -/
abbrev NewE (h g : Hp) (p : Str × Lf) : Prop := NewD h g p.2 192 3 Eff.cells Eff.nums 22 p.1.ps
/-- Where a strip's effects lie. -/
def lvE (p : Str × Lf) : List Lf := lvs p.2 p.1.ps
def lvS (l : Lf) (ss : List (Str × Lf)) : List Lf := l :: ss.flatMap lvE
/-- Strips that were made here, with their effects; all lie apart. -/
structure NewS (h g : Hp) (l : Lf) (ss : List (Str × Lf)) : Prop where
  out : New h g l 114 5 (ss.map Str.cells)
  inn : ∀ p ∈ ss, NewE h g p
  far : ss.Pairwise fun p q => ∀ a ∈ lvE p, ∀ b ∈ lvE q, Far a b
  faro : ∀ p ∈ ss, ∀ a ∈ lvE p, Far l a
section
variable {h g : Hp} {l : Lf} {ss : List (Str × Lf)}
theorem NewS.arr (hN : NewS h g l ss) : Arr g l 5 (ss.map Str.cells) := hN.out.arr
theorem NewS.ins (hN : NewS h g l ss) : InS g ss := .of fun p hp => ⟨(hN.inn p hp).arr, (hN.inn p hp).ins⟩
theorem NewS.kept (hN : NewS h g l ss) : Kept h g := hN.out.kept
theorem NewS.later {g' : Hp} (hN : NewS h g l ss) (k : Kept g g') : NewS h g' l ss := ⟨hN.out.later k, fun p hp => (hN.inn p hp).later k, hN.far, hN.faro⟩
theorem NewS.base {h0 : Hp} (hN : NewS h g l ss) (k : Kept h0 h) : NewS h0 g l ss := ⟨hN.out.base k, fun p hp => (hN.inn p hp).base k, hN.far, hN.faro⟩
theorem NewS.swapB {bs bs' t : Hp} (hN : NewS (h ++ bs) (h ++ (bs ++ t)) l ss) (he : bs'.length = bs.length) : NewS (h ++ bs') (h ++ (bs' ++ t)) l ss :=
  ⟨hN.out.swapB he, fun p hp => NewD.swapB (hN.inn p hp) he, hN.far, hN.faro⟩
theorem lvS_cases {a : Lf} (ha : a ∈ lvS l ss) : a = l ∨ ∃ p ∈ ss, a ∈ lvE p := by
  unfold lvS at ha
  rcases List.mem_cons.1 ha with rfl | ha
  · exact .inl rfl
  · obtain ⟨p, hp, h1⟩ := List.mem_flatMap.1 ha
    exact .inr ⟨p, hp, h1⟩
theorem NewS.lvs_lt (hN : NewS h g l ss) : ∀ s ∈ lvS l ss, s ≠ .nils → h.length ≤ s.id ∧ s.id < g.length := by
  intro s hs hn
  rcases lvS_cases hs with rfl | ⟨p, hp, h1⟩
  · exact hN.out.lt hn
  · exact NewD.lvs_lt (hN.inn p hp) s h1 hn
/-- The rows while they are filled. -/
def rowsS (n : Nat) (ss : List (Str × Lf)) : List (List Lf) := ss.map Str.cells ++ List.replicate (n - ss.length) [.nils, .int .i64 0, .flt .f32 0, .bool false, .bool false]
structure FillS (h g : Hp) (id n : Nat) (ss : List (Str × Lf)) : Prop where
  kept : Kept h g
  ge : h.length ≤ id
  sl : Sl g id 114 5 (rowsS n ss)
  inn : ∀ p ∈ ss, NewE h g p ∧ ∀ a ∈ lvE p, a ≠ .nils → a.id ≠ id
  far : ss.Pairwise fun p q => ∀ a ∈ lvE p, ∀ b ∈ lvE q, Far a b
variable {id n : Nat}
theorem FillS.start : FillS h (h ++ [⟨(List.replicate n [.nils, .int .i64 0, .flt .f32 0, .bool false, .bool false]).flatten, .own 114 5⟩]) h.length n [] :=
  ⟨Kept.app _ _, Nat.le_refl _, by simpa [rowsS] using Sl.make (h := h) (ty := 114) (sz := 5) (n := n) (z := [.nils, .int .i64 0, .flt .f32 0, .bool false, .bool false]) rfl, fun p hp => by simp at hp, List.Pairwise.nil⟩
theorem FillS.lt (hF : FillS h g id n ss) : id < g.length := hF.sl.lt
theorem FillS.wr {lim : Nat} {g' : Hp} {r : List Lf} (hF : FillS h g id n ss) (k : Kept g g') (hl : lim ≤ id) (hlt : ss.length < n) (hr : r.length = 5) : wrCells lim g' id (ss.length * 5) r = some (g'.set id ⟨((rowsS n ss).set ss.length r).flatten, .own 114 5⟩) :=
  (hF.sl.kept k).wr hl (by simp [rowsS]; omega) hr
theorem FillS.add {g' : Hp} {p : Str × Lf} {r : List Lf} (hF : FillS h g id n ss) (hN : NewE g g' p) (hlt : ss.length < n) (hr : r = Str.cells p) :
    FillS h (g'.set id ⟨((rowsS n ss).set ss.length r).flatten, .own 114 5⟩) id n (ss ++ [p]) := by
  have hid := hF.lt
  have k := NewD.kept hN
  have hS := (hF.sl.kept k).set (i := ss.length) (new := r) (by rw [hr]; rfl)
  refine ⟨(hF.kept.trans k).set hF.ge, hF.ge, ?_, ?_, ?_⟩
  · have e : (rowsS n ss).set ss.length r = rowsS n (ss ++ [p]) := by
      unfold rowsS
      rw [List.set_append_right _ _ (by simp)]
      simp only [List.length_map, Nat.sub_self, List.map_append, List.map_cons, List.map_nil, List.length_append, List.length_cons, List.length_nil, List.append_assoc]
      congr 1
      obtain ⟨m, hm⟩ : ∃ m, n - ss.length = m + 1 := ⟨n - ss.length - 1, by omega⟩
      have hm2 : n - (ss.length + (0 + 1)) = m := by omega
      rw [hm, hm2, hr, List.replicate_succ]; rfl
    rw [e] at hS ⊢; exact hS
  · intro q hq
    rcases List.mem_append.1 hq with hq | hq
    · obtain ⟨h1, h2⟩ := hF.inn q hq
      exact ⟨NewD.set_other (NewD.later h1 k) hF.ge h2, h2⟩
    · simp only [List.mem_singleton] at hq
      subst hq
      have hne : ∀ a ∈ lvE q, a ≠ .nils → a.id ≠ id := fun a ha hn => by have := (NewD.lvs_lt hN a ha hn).1; omega
      exact ⟨NewD.set_other (NewD.base hN hF.kept) hF.ge hne, hne⟩
  · rw [List.pairwise_append]
    refine ⟨hF.far, List.pairwise_singleton _ _, fun q hq q2 hq2 => ?_⟩
    simp only [List.mem_singleton] at hq2
    subst hq2
    intro a ha b hb q1 q2
    have := (NewD.lvs_lt (hF.inn q hq).1 a ha q1).2
    have := (NewD.lvs_lt hN b hb q2).1
    omega
theorem FillS.full (hF : FillS h g id n ss) (hn : n = ss.length) (hb : n ≤ 140737488355328) : NewS h g (.sl id 0 n 5) ss := by
  have hS := hF.sl
  subst hn
  unfold rowsS at hS
  rw [Nat.sub_self, List.replicate_zero, List.append_nil] at hS
  have := New.of_sl hF.kept hS hF.ge (by simpa using hb)
  rw [List.length_map] at this
  exact ⟨this, fun p hp => (hF.inn p hp).1, hF.far, fun p hp a ha _ q2 e => (hF.inn p hp).2 a ha q2 e.symm⟩
end
theorem valS_take {ss qs : List (Str × Lf)} {p : Str × Lf} (hq : valS qs = (valS ss).take qs.length) (hi : qs.length < ss.length) (hp : p.1.val = ss[qs.length].1.val) : valS (qs ++ [p]) = (valS ss).take (qs.length + 1) := by
  rw [List.take_succ_eq_append_getElem (by rw [valS_len]; exact hi), valS_get hi, ← hp, ← hq]
  simp [valS]
section
variable {S : Sys} {lim : Nat} {h : Hp} {K : CV → Hp → Prop}
section
variable [HasDC S]
theorem c_toClip {x y : Int} {l : Lf} {xs : List Nat} (hA : Arr h l 1 (xs.map fl)) (hn : xs.length ≤ 16777216) (hl : lim ≤ h.length) (hK : ∀ l' g, New h g l' 22 1 (xs.map fl) → K (.agg [.int .i64 x, .int .i64 y, l']) g) : CallT S false 143 [.agg [.int .i64 x, .int .i64 y, l]] h lim K := by
  refine CallT_of_body (F := L143) (HasDC.f143) rfl ?_; unfold L143; dsimp only []
  repeat' (first | (simp (disch := first | omega | assumption | (simp only [List.length_set]; omega) | (simp [*] <;> fail) | assumption) [-Bool.decide_and, -Bool.decide_or, -Bool.not_and, -Bool.not_or, toNat_pred, toNat_succ, wrap64, wr_new, wr_new0, ok_if, ok_ifn, iadV_sl, makeV_int, decT, decF, over_at, *]) | (with_reducible refine Gd_split (fun hc => ?_) (fun hc => ?_) <;> (have hc2 := hc; try simp at hc2)) | (with_reducible refine Br_split (fun hc => ?_) (fun hc => ?_) <;> (have hc2 := hc; try simp at hc2)) | (with_reducible refine GdT_split (fun hc => ?_) (fun hc => ?_) <;> (have hc2 := hc; try simp at hc2)) | (with_reducible refine WT_alt ?_ ?_) | omega)
  refine c_toFloat32S hA.app hn (by simp; omega) fun l' g hN => ?_
  obtain ⟨t, rfl⟩ := hN.kept.split
  rw [List.append_assoc] at hN
  simp only [List.cons_append, List.nil_append, List.append_assoc] at hN ⊢
  repeat' (first | (simp (disch := first | omega | assumption | (simp only [List.length_set]; omega) | (simp [*] <;> fail) | assumption) [-Bool.decide_and, -Bool.decide_or, -Bool.not_and, -Bool.not_or, toNat_pred, toNat_succ, wrap64, wr_new, wr_new0, ok_if, ok_ifn, iadV_sl, makeV_int, decT, decF, over_at, *]) | (with_reducible refine Gd_split (fun hc => ?_) (fun hc => ?_) <;> (have hc2 := hc; try simp at hc2)) | (with_reducible refine Br_split (fun hc => ?_) (fun hc => ?_) <;> (have hc2 := hc; try simp at hc2)) | (with_reducible refine GdT_split (fun hc => ?_) (fun hc => ?_) <;> (have hc2 := hc; try simp at hc2)) | (with_reducible refine WT_alt ?_ ?_) | omega)
  exact hK _ _ hN.swap3
theorem c_eqClip {x y : Int} {l l2 : Lf} {xs : List Nat} (hA : Arr h l 1 (xs.map fl)) (hA2 : Arr h l2 1 (xs.map fl)) : CallT S true 146 [.agg [.int .i64 x, .int .i64 y, l], .agg [.int .i64 x, .int .i64 y, l2]] h lim K = K (.lf (.bool true)) h := by
  refine CallT_pure (F := L146) (HasDC.f146) rfl (by first | rfl | (split <;> rfl) | simp) ?_; unfold L146; dsimp only []
  repeat' (first | (simp (disch := first | omega | assumption | (simp only [List.length_set]; omega) | (simp [*] <;> fail) | assumption) [-Bool.decide_and, -Bool.decide_or, -Bool.not_and, -Bool.not_or, toNat_pred, toNat_succ, wrap64, wr_new, wr_new0, ok_if, ok_ifn, iadV_sl, makeV_int, decT, decF, over_at, *, c_eqFloat32S hA.app hA2.app]) | (with_reducible refine Gd_split (fun hc => ?_) (fun hc => ?_) <;> (have hc2 := hc; try simp at hc2)) | (with_reducible refine Br_split (fun hc => ?_) (fun hc => ?_) <;> (have hc2 := hc; try simp at hc2)) | (with_reducible refine GdT_split (fun hc => ?_) (fun hc => ?_) <;> (have hc2 := hc; try simp at hc2)) | (with_reducible refine WT_alt ?_ ?_) | omega)
theorem c_szClip {x y : Int} {l : Lf} {xs : List Nat} (hA : Arr h l 1 (xs.map fl)) {b : Int} (h1 : 0 ≤ b) (h2 : b ≤ 9223372036854775807) : CallT S true 139 [.agg [.int .i64 x, .int .i64 y, l], .lf (.int .i64 b)] h lim K = K (.lf (.int .i64 (if b < xs.length then -1 else b - xs.length))) h := by
  have hb := hA.bound
  by_cases hlt : b < xs.length
  · have hs := fun K t => c_szFloat32S (S := S) (K := K) (h := h ++ t) (lim := h.length) hA.app h1 h2
    rw [if_pos hlt] at hs ⊢
    refine CallT_pure (F := L139) (HasDC.f139) rfl (by first | rfl | (split <;> rfl) | simp) ?_; unfold L139; dsimp only []
    repeat' (first | (simp (disch := first | omega | assumption | (simp only [List.length_set]; omega) | (simp [*] <;> fail) | assumption) [-Bool.decide_and, -Bool.decide_or, -Bool.not_and, -Bool.not_or, toNat_pred, toNat_succ, wrap64, wr_new, wr_new0, ok_if, ok_ifn, iadV_sl, makeV_int, decT, decF, over_at, *]) | (with_reducible refine Gd_split (fun hc => ?_) (fun hc => ?_) <;> (have hc2 := hc; try simp at hc2)) | (with_reducible refine Br_split (fun hc => ?_) (fun hc => ?_) <;> (have hc2 := hc; try simp at hc2)) | (with_reducible refine GdT_split (fun hc => ?_) (fun hc => ?_) <;> (have hc2 := hc; try simp at hc2)) | (with_reducible refine WT_alt ?_ ?_) | omega)
  · have hs := fun K t => c_szFloat32S (S := S) (K := K) (h := h ++ t) (lim := h.length) hA.app h1 h2
    rw [if_neg hlt] at hs ⊢
    refine CallT_pure (F := L139) (HasDC.f139) rfl (by first | rfl | (split <;> rfl) | simp) ?_; unfold L139; dsimp only []
    repeat' (first | (simp (disch := first | omega | assumption | (simp only [List.length_set]; omega) | (simp [*] <;> fail) | assumption) [-Bool.decide_and, -Bool.decide_or, -Bool.not_and, -Bool.not_or, toNat_pred, toNat_succ, wrap64, wr_new, wr_new0, ok_if, ok_ifn, iadV_sl, makeV_int, decT, decF, over_at, *]) | (with_reducible refine Gd_split (fun hc => ?_) (fun hc => ?_) <;> (have hc2 := hc; try simp at hc2)) | (with_reducible refine Br_split (fun hc => ?_) (fun hc => ?_) <;> (have hc2 := hc; try simp at hc2)) | (with_reducible refine GdT_split (fun hc => ?_) (fun hc => ?_) <;> (have hc2 := hc; try simp at hc2)) | (with_reducible refine WT_alt ?_ ?_) | omega)
theorem c_eqClipS {l l2 : Lf} {ps qs : List (Eff × Lf)} (hA : Arr h l 3 (ps.map Eff.cells)) (hI : In h Eff.nums ps) (hA2 : Arr h l2 3 (qs.map Eff.cells)) (hI2 : In h Eff.nums qs) (hq : qs.map (·.1) = ps.map (·.1)) : CallT S true 80 [.lf l, .lf l2] h lim K = K (.lf (.bool true)) h := by
  have hb := hA.bound
  have hlen := map_len hq
  refine CallT_pure (F := L80) (HasDC.f80) rfl (by first | rfl | (split <;> rfl) | simp) ?_; unfold L80; dsimp only []
  repeat' (first | (simp (disch := first | omega | assumption | (simp only [List.length_set]; omega) | (simp [*] <;> fail) | assumption) [-Bool.decide_and, -Bool.decide_or, -Bool.not_and, -Bool.not_or, toNat_pred, toNat_succ, wrap64, wr_new, wr_new0, ok_if, ok_ifn, iadV_sl, makeV_int, decT, decF, over_at, *, hA.len, hA.at_, hA.at_', hA.rd, hA.rdIn, hA.rdIn0, hA.rdA, hA.rdInA, hA.rdIn0A, hA2.len, hA2.at_, hA2.at_', hA2.rd, hA2.rdIn, hA2.rdIn0, hA2.rdA, hA2.rdInA, hA2.rdIn0A]) | (with_reducible refine Gd_split (fun hc => ?_) (fun hc => ?_) <;> (have hc2 := hc; try simp at hc2)) | (with_reducible refine Br_split (fun hc => ?_) (fun hc => ?_) <;> (have hc2 := hc; try simp at hc2)) | (with_reducible refine GdT_split (fun hc => ?_) (fun hc => ?_) <;> (have hc2 := hc; try simp at hc2)) | (with_reducible refine WT_alt ?_ ?_) | omega)
  refine WL_for ps.length (fun i a' h' => i ≤ ps.length ∧ a' 0 = .lf l ∧ a' 1 = .lf l2 ∧ a' 5 = .lf (.int .i64 i) ∧ h' = h) (fun i a' h' hi => hi.1) ?_ (by simp)
  rintro i a' h' ⟨hi, e0, e1, e5, rfl⟩
  by_cases hlt : i < ps.length
  · have hlt2 : i < qs.length := by omega
    have e := map_get hq hlt
    have i1 := hI i hlt
    have i2 := hI2 i hlt2
    rw [e] at i2
    repeat' (first | (simp (disch := first | omega | assumption | (simp only [List.length_set]; omega) | (simp [*] <;> fail) | assumption) [-Bool.decide_and, -Bool.decide_or, -Bool.not_and, -Bool.not_or, toNat_pred, toNat_succ, wrap64, wr_new, wr_new0, ok_if, ok_ifn, iadV_sl, makeV_int, decT, decF, over_at, *, hA.len, hA.at_, hA.at_', hA.rd, hA.rdIn, hA.rdIn0, hA.rdA, hA.rdInA, hA.rdIn0A, hA2.len, hA2.at_, hA2.at_', hA2.rd, hA2.rdIn, hA2.rdIn0, hA2.rdA, hA2.rdInA, hA2.rdIn0A, Eff.cells, c_eqClip (i1) (i2)]) | (with_reducible refine Gd_split (fun hc => ?_) (fun hc => ?_) <;> (have hc2 := hc; try simp at hc2)) | (with_reducible refine Br_split (fun hc => ?_) (fun hc => ?_) <;> (have hc2 := hc; try simp at hc2)) | (with_reducible refine GdT_split (fun hc => ?_) (fun hc => ?_) <;> (have hc2 := hc; try simp at hc2)) | (with_reducible refine WT_alt ?_ ?_) | omega)
  · repeat' (first | (simp (disch := first | omega | assumption | (simp only [List.length_set]; omega) | (simp [*] <;> fail) | assumption) [-Bool.decide_and, -Bool.decide_or, -Bool.not_and, -Bool.not_or, toNat_pred, toNat_succ, wrap64, wr_new, wr_new0, ok_if, ok_ifn, iadV_sl, makeV_int, decT, decF, over_at, *, hA.len, hA.at_, hA.at_', hA.rd, hA.rdIn, hA.rdIn0, hA.rdA, hA.rdInA, hA.rdIn0A, hA2.len, hA2.at_, hA2.at_', hA2.rd, hA2.rdIn, hA2.rdIn0, hA2.rdA, hA2.rdInA, hA2.rdIn0A]) | (with_reducible refine Gd_split (fun hc => ?_) (fun hc => ?_) <;> (have hc2 := hc; try simp at hc2)) | (with_reducible refine Br_split (fun hc => ?_) (fun hc => ?_) <;> (have hc2 := hc; try simp at hc2)) | (with_reducible refine GdT_split (fun hc => ?_) (fun hc => ?_) <;> (have hc2 := hc; try simp at hc2)) | (with_reducible refine WT_alt ?_ ?_) | omega)
theorem c_szClipS {l : Lf} {ps : List (Eff × Lf)} (hA : Arr h l 3 (ps.map Eff.cells)) (hI : In h Eff.nums ps) {b : Int} (h1 : 0 ≤ b) (h2 : b ≤ 4611686018427387904) : CallT S true 68 [.lf l, .lf (.int .i64 b)] h lim K = K (.lf (.int .i64 (if b < ps.length + szD Eff.nums ps then -1 else b - (ps.length + szD Eff.nums ps)))) h := by
  have hb := hA.bound
  by_cases h0 : b < ps.length
  · rw [if_pos (by omega)]
    refine CallT_pure (F := L68) (HasDC.f68) rfl (by first | rfl | (split <;> rfl) | simp) ?_; unfold L68; dsimp only []
    repeat' (first | (simp (disch := first | omega | assumption | (simp only [List.length_set]; omega) | (simp [*] <;> fail) | assumption) [-Bool.decide_and, -Bool.decide_or, -Bool.not_and, -Bool.not_or, toNat_pred, toNat_succ, wrap64, wr_new, wr_new0, ok_if, ok_ifn, iadV_sl, makeV_int, decT, decF, over_at, *, hA.len, hA.at_, hA.at_', hA.rd, hA.rdIn, hA.rdIn0, hA.rdA, hA.rdInA, hA.rdIn0A]) | (with_reducible refine Gd_split (fun hc => ?_) (fun hc => ?_) <;> (have hc2 := hc; try simp at hc2)) | (with_reducible refine Br_split (fun hc => ?_) (fun hc => ?_) <;> (have hc2 := hc; try simp at hc2)) | (with_reducible refine GdT_split (fun hc => ?_) (fun hc => ?_) <;> (have hc2 := hc; try simp at hc2)) | (with_reducible refine WT_alt ?_ ?_) | omega)
  · refine CallT_pure (F := L68) (HasDC.f68) rfl (by first | rfl | (split <;> rfl) | simp) ?_; unfold L68; dsimp only []
    repeat' (first | (simp (disch := first | omega | assumption | (simp only [List.length_set]; omega) | (simp [*] <;> fail) | assumption) [-Bool.decide_and, -Bool.decide_or, -Bool.not_and, -Bool.not_or, toNat_pred, toNat_succ, wrap64, wr_new, wr_new0, ok_if, ok_ifn, iadV_sl, makeV_int, decT, decF, over_at, *, hA.len, hA.at_, hA.at_', hA.rd, hA.rdIn, hA.rdIn0, hA.rdA, hA.rdInA, hA.rdIn0A]) | (with_reducible refine Gd_split (fun hc => ?_) (fun hc => ?_) <;> (have hc2 := hc; try simp at hc2)) | (with_reducible refine Br_split (fun hc => ?_) (fun hc => ?_) <;> (have hc2 := hc; try simp at hc2)) | (with_reducible refine GdT_split (fun hc => ?_) (fun hc => ?_) <;> (have hc2 := hc; try simp at hc2)) | (with_reducible refine WT_alt ?_ ?_) | omega)
    refine WL_forM 67104818 (by decide +kernel) (ps.length) (fun i a' h' => i ≤ ps.length ∧ szD Eff.nums (ps.take i) ≤ b - ps.length ∧ a' 1 = .lf (.int .i64 (b - ps.length - szD Eff.nums (ps.take i))) ∧ a' 5 = .lf (.int .i64 i) ∧ h = h') (fun i a' h' hi => hi.1) ⟨by omega, by simp [szD]; omega, by simp [szD], by simp, rfl⟩ ?_
    rintro i a' h' ⟨hi, hle, e1, e10, rfl⟩
    by_cases hlt : i < ps.length
    · have hs := szD_take (ro := Eff.nums) hlt
      have hs2 := szD_take_le (ro := Eff.nums) (ps := ps) (i := i + 1)
      have hc := fun K lim => c_szClip (hI i hlt) (x := ps[i].1.kind) (y := ps[i].1.len) (S := S) (K := K) (lim := lim) (b := b - ps.length - szD Eff.nums (ps.take i)) (by omega) (by omega)
      by_cases hover : b - ps.length - szD Eff.nums (ps.take i) < (Eff.nums ps[i].1).length
      · rw [if_pos (by omega)]
        rw [if_pos hover] at hc
        repeat' (first | (simp (disch := first | omega | assumption | (simp only [List.length_set]; omega) | (simp [*] <;> fail) | assumption) [-Bool.decide_and, -Bool.decide_or, -Bool.not_and, -Bool.not_or, toNat_pred, toNat_succ, wrap64, wr_new, wr_new0, ok_if, ok_ifn, iadV_sl, makeV_int, decT, decF, over_at, *, hA.len, hA.at_, hA.at_', hA.rd, hA.rdIn, hA.rdIn0, hA.rdA, hA.rdInA, hA.rdIn0A, Eff.cells]) | (with_reducible refine Gd_split (fun hc => ?_) (fun hc => ?_) <;> (have hc2 := hc; try simp at hc2)) | (with_reducible refine Br_split (fun hc => ?_) (fun hc => ?_) <;> (have hc2 := hc; try simp at hc2)) | (with_reducible refine GdT_split (fun hc => ?_) (fun hc => ?_) <;> (have hc2 := hc; try simp at hc2)) | (with_reducible refine WT_alt ?_ ?_) | omega)
      · rw [if_neg hover] at hc
        repeat' (first | (simp (disch := first | omega | assumption | (simp only [List.length_set]; omega) | (simp [*] <;> fail) | assumption) [-Bool.decide_and, -Bool.decide_or, -Bool.not_and, -Bool.not_or, toNat_pred, toNat_succ, wrap64, wr_new, wr_new0, ok_if, ok_ifn, iadV_sl, makeV_int, decT, decF, over_at, *, hA.len, hA.at_, hA.at_', hA.rd, hA.rdIn, hA.rdIn0, hA.rdA, hA.rdInA, hA.rdIn0A, Eff.cells]) | (with_reducible refine Gd_split (fun hc => ?_) (fun hc => ?_) <;> (have hc2 := hc; try simp at hc2)) | (with_reducible refine Br_split (fun hc => ?_) (fun hc => ?_) <;> (have hc2 := hc; try simp at hc2)) | (with_reducible refine GdT_split (fun hc => ?_) (fun hc => ?_) <;> (have hc2 := hc; try simp at hc2)) | (with_reducible refine WT_alt ?_ ?_) | omega)
        all_goals exact ⟨hlt, by omega, by omega⟩
    · have : i = ps.length := by omega
      subst this
      rw [List.take_length] at *
      rw [if_neg (by omega), show b - ((ps.length : Int) + (szD Eff.nums ps : Int)) = b - ps.length - szD Eff.nums ps by omega]
      repeat' (first | (simp (disch := first | omega | assumption | (simp only [List.length_set]; omega) | (simp [*] <;> fail) | assumption) [-Bool.decide_and, -Bool.decide_or, -Bool.not_and, -Bool.not_or, toNat_pred, toNat_succ, wrap64, wr_new, wr_new0, ok_if, ok_ifn, iadV_sl, makeV_int, decT, decF, over_at, *, hA.len, hA.at_, hA.at_', hA.rd, hA.rdIn, hA.rdIn0, hA.rdA, hA.rdInA, hA.rdIn0A]) | (with_reducible refine Gd_split (fun hc => ?_) (fun hc => ?_) <;> (have hc2 := hc; try simp at hc2)) | (with_reducible refine Br_split (fun hc => ?_) (fun hc => ?_) <;> (have hc2 := hc; try simp at hc2)) | (with_reducible refine GdT_split (fun hc => ?_) (fun hc => ?_) <;> (have hc2 := hc; try simp at hc2)) | (with_reducible refine WT_alt ?_ ?_) | omega)
theorem c_toClipS {l : Lf} {ps : List (Eff × Lf)} (hA : Arr h l 3 (ps.map Eff.cells)) (hI : In h Eff.nums ps) (hn : ps.length ≤ 16777216) (hn2 : szD Eff.nums ps ≤ 16777216) (hl : lim ≤ h.length) (hK : ∀ l' g qs, NewD h g l' 118 3 Eff.cells Eff.nums 22 qs → qs.map (·.1) = ps.map (·.1) → K (.lf l') g) : CallT S false 71 [.lf l] h lim K := by
  have hb := hA.bound
  refine CallT_of_body (F := L71) (HasDC.f71) rfl ?_; unfold L71; dsimp only []
  repeat' (first | (simp (disch := first | omega | assumption | (simp only [List.length_set]; omega) | (simp [*] <;> fail) | assumption) [-Bool.decide_and, -Bool.decide_or, -Bool.not_and, -Bool.not_or, toNat_pred, toNat_succ, wrap64, wr_new, wr_new0, ok_if, ok_ifn, iadV_sl, makeV_int, decT, decF, over_at, *, hA.len, hA.at_, hA.at_', hA.rd, hA.rdIn, hA.rdIn0, hA.rdA, hA.rdInA, hA.rdIn0A]) | (with_reducible refine Gd_split (fun hc => ?_) (fun hc => ?_) <;> (have hc2 := hc; try simp at hc2)) | (with_reducible refine Br_split (fun hc => ?_) (fun hc => ?_) <;> (have hc2 := hc; try simp at hc2)) | (with_reducible refine GdT_split (fun hc => ?_) (fun hc => ?_) <;> (have hc2 := hc; try simp at hc2)) | (with_reducible refine WT_alt ?_ ?_) | omega)
  refine WL_forM 4194064 (by decide +kernel) (ps.length) (fun i a' g => i ≤ ps.length ∧ a' 4 = .lf (.int .i64 i) ∧ ∃ qs : List (Eff × Lf), qs.map (·.1) = (ps.map (·.1)).take i ∧ Fill h g h.length 118 3 Eff.cells Eff.nums 22 ps.length [.int .i64 0, .int .i64 0, .nils] qs) (fun i a' h' hi => hi.1) ⟨by omega, by simp, [], by simp, by simpa using Fill.start (h := h) (n := ps.length) (z := [.int .i64 0, .int .i64 0, .nils]) rfl⟩ ?_
  rintro i a' g ⟨hi, e4, qs, hq, hF⟩
  have hql := congrArg List.length hq
  rw [List.length_map, List.length_take, List.length_map, Nat.min_eq_left hi] at hql
  subst hql
  have hk := hF.kept
  have hk1 := hk.1
  replace hA := hA.kept hk
  replace hI := hI.kept hk
  by_cases hlt : qs.length < ps.length
  · have hle := szD_get (ro := Eff.nums) hlt
    repeat' (first | (simp (disch := first | omega | assumption | (simp only [List.length_set]; omega) | (simp [*] <;> fail) | assumption) [-Bool.decide_and, -Bool.decide_or, -Bool.not_and, -Bool.not_or, toNat_pred, toNat_succ, wrap64, wr_new, wr_new0, ok_if, ok_ifn, iadV_sl, makeV_int, decT, decF, over_at, *, hA.len, hA.at_, hA.at_', hA.rd, hA.rdIn, hA.rdIn0, hA.rdA, hA.rdInA, hA.rdIn0A, Eff.cells]) | (with_reducible refine Gd_split (fun hc => ?_) (fun hc => ?_) <;> (have hc2 := hc; try simp at hc2)) | (with_reducible refine Br_split (fun hc => ?_) (fun hc => ?_) <;> (have hc2 := hc; try simp at hc2)) | (with_reducible refine GdT_split (fun hc => ?_) (fun hc => ?_) <;> (have hc2 := hc; try simp at hc2)) | (with_reducible refine WT_alt ?_ ?_) | omega)
    refine c_toClip (hI _ hlt) (by omega) (by omega) fun l' g' hN => ?_
    have hk2 := hN.kept.1
    have hA2 := hA.kept hN.kept
    repeat' (first | (simp (disch := first | omega | assumption | (simp only [List.length_set]; omega) | (simp [*] <;> fail) | assumption) [-Bool.decide_and, -Bool.decide_or, -Bool.not_and, -Bool.not_or, toNat_pred, toNat_succ, wrap64, wr_new, wr_new0, ok_if, ok_ifn, iadV_sl, makeV_int, decT, decF, over_at, *, hF.wr hN.kept, hA2.len, hA2.at_, hA2.at_', hA2.rd, hA2.rdIn, hA2.rdIn0, hA2.rdA, hA2.rdInA, hA2.rdIn0A]) | (with_reducible refine Gd_split (fun hc => ?_) (fun hc => ?_) <;> (have hc2 := hc; try simp at hc2)) | (with_reducible refine Br_split (fun hc => ?_) (fun hc => ?_) <;> (have hc2 := hc; try simp at hc2)) | (with_reducible refine GdT_split (fun hc => ?_) (fun hc => ?_) <;> (have hc2 := hc; try simp at hc2)) | (with_reducible refine WT_alt ?_ ?_) | omega)
    exact ⟨hlt, _, map_take hq hlt, hF.add hN hlt rfl rfl⟩
  · have he : qs.length = ps.length := by omega
    rw [he, ← List.length_map (f := (·.1)) (as := ps), List.take_length] at hq
    repeat' (first | (simp (disch := first | omega | assumption | (simp only [List.length_set]; omega) | (simp [*] <;> fail) | assumption) [-Bool.decide_and, -Bool.decide_or, -Bool.not_and, -Bool.not_or, toNat_pred, toNat_succ, wrap64, wr_new, wr_new0, ok_if, ok_ifn, iadV_sl, makeV_int, decT, decF, over_at, *, hA.len, hA.at_, hA.at_', hA.rd, hA.rdIn, hA.rdIn0, hA.rdA, hA.rdInA, hA.rdIn0A]) | (with_reducible refine Gd_split (fun hc => ?_) (fun hc => ?_) <;> (have hc2 := hc; try simp at hc2)) | (with_reducible refine Br_split (fun hc => ?_) (fun hc => ?_) <;> (have hc2 := hc; try simp at hc2)) | (with_reducible refine GdT_split (fun hc => ?_) (fun hc => ?_) <;> (have hc2 := hc; try simp at hc2)) | (with_reducible refine WT_alt ?_ ?_) | omega)
    exact hK _ _ qs (hF.full he.symm hb) hq

end
section
variable [HasDP S] {l l2 : Lf} {x : Int} {y : Nat} {m s : Bool} {ps qs : List (Eff × Lf)}
set_option maxHeartbeats 1000000 in
theorem c_toStrip (hA : Arr h l 3 (ps.map Eff.cells)) (hI : In h Eff.nums ps) (hn : ps.length ≤ 16777216) (hn2 : szD Eff.nums ps ≤ 16777216) (hl : lim ≤ h.length) (hK : ∀ l' g qs, NewD h g l' 192 3 Eff.cells Eff.nums 22 qs → qs.map (·.1) = ps.map (·.1) → K (.agg [l', .int .i64 x, .flt .f32 y, .bool m, .bool s]) g) : CallT S false 144 [.agg [l, .int .i64 x, .flt .f32 y, .bool m, .bool s]] h lim K := by
  refine CallT_of_body (F := L144) (HasDP.f144) rfl ?_; unfold L144; dsimp only []
  repeat' (first | (simp (disch := first | omega | assumption | (simp only [List.length_set]; omega) | (simp [*] <;> fail) | assumption) [-Bool.decide_and, -Bool.decide_or, -Bool.not_and, -Bool.not_or, toNat_pred, toNat_succ, wrap64, wr_new, wr_new0, ok_if, ok_ifn, iadV_sl, makeV_int, decT, decF, over_at, *]) | (with_reducible refine Gd_split (fun hc => ?_) (fun hc => ?_) <;> (have hc2 := hc; try simp at hc2)) | (with_reducible refine Br_split (fun hc => ?_) (fun hc => ?_) <;> (have hc2 := hc; try simp at hc2)) | (with_reducible refine GdT_split (fun hc => ?_) (fun hc => ?_) <;> (have hc2 := hc; try simp at hc2)) | (with_reducible refine WT_alt ?_ ?_) | omega)
  refine c_toEffectS hA.app (hI.kept (Kept.app _ _)) hn hn2 (by simp; omega) fun l' g qs hN hq => ?_
  obtain ⟨t, rfl⟩ := hN.kept.split
  rw [List.append_assoc] at hN
  simp only [List.cons_append, List.nil_append, List.append_assoc] at hN ⊢
  repeat' (first | (simp (disch := first | omega | assumption | (simp only [List.length_set]; omega) | (simp [*] <;> fail) | assumption) [-Bool.decide_and, -Bool.decide_or, -Bool.not_and, -Bool.not_or, toNat_pred, toNat_succ, wrap64, wr_new, wr_new0, ok_if, ok_ifn, iadV_sl, makeV_int, decT, decF, over_at, *]) | (with_reducible refine Gd_split (fun hc => ?_) (fun hc => ?_) <;> (have hc2 := hc; try simp at hc2)) | (with_reducible refine Br_split (fun hc => ?_) (fun hc => ?_) <;> (have hc2 := hc; try simp at hc2)) | (with_reducible refine GdT_split (fun hc => ?_) (fun hc => ?_) <;> (have hc2 := hc; try simp at hc2)) | (with_reducible refine WT_alt ?_ ?_) | omega)
  exact hK _ _ _ hN.swap3 hq
theorem c_eqStrip (hA : Arr h l 3 (ps.map Eff.cells)) (hI : In h Eff.nums ps) (hA2 : Arr h l2 3 (qs.map Eff.cells)) (hI2 : In h Eff.nums qs) (hq : qs.map (·.1) = ps.map (·.1)) : CallT S true 147 [.agg [l, .int .i64 x, .flt .f32 y, .bool m, .bool s], .agg [l2, .int .i64 x, .flt .f32 y, .bool m, .bool s]] h lim K = K (.lf (.bool true)) h := by
  refine CallT_pure (F := L147) (HasDP.f147) rfl (by first | rfl | (split <;> rfl) | simp) ?_; unfold L147; dsimp only []
  repeat' (first | (simp (disch := first | omega | assumption | (simp only [List.length_set]; omega) | (simp [*] <;> fail) | assumption) [-Bool.decide_and, -Bool.decide_or, -Bool.not_and, -Bool.not_or, toNat_pred, toNat_succ, wrap64, wr_new, wr_new0, ok_if, ok_ifn, iadV_sl, makeV_int, decT, decF, over_at, *, c_eqEffectS hA.app (hI.kept (Kept.app _ _)) hA2.app (hI2.kept (Kept.app _ _)) hq]) | (with_reducible refine Gd_split (fun hc => ?_) (fun hc => ?_) <;> (have hc2 := hc; try simp at hc2)) | (with_reducible refine Br_split (fun hc => ?_) (fun hc => ?_) <;> (have hc2 := hc; try simp at hc2)) | (with_reducible refine GdT_split (fun hc => ?_) (fun hc => ?_) <;> (have hc2 := hc; try simp at hc2)) | (with_reducible refine WT_alt ?_ ?_) | omega)
theorem c_szStrip (hA : Arr h l 3 (ps.map Eff.cells)) (hI : In h Eff.nums ps) {b : Int} (h1 : 0 ≤ b) (h2 : b ≤ 4611686018427387904) : CallT S true 140 [.agg [l, .int .i64 x, .flt .f32 y, .bool m, .bool s], .lf (.int .i64 b)] h lim K = K (.lf (.int .i64 (if b < ps.length + szD Eff.nums ps then -1 else b - (ps.length + szD Eff.nums ps)))) h := by
  have hb := hA.bound
  by_cases hlt : b < ps.length + szD Eff.nums ps
  · have hs := fun K t => c_szEffectS (S := S) (K := K) (h := h ++ t) (lim := h.length) hA.app (hI.kept (Kept.app _ _)) h1 h2
    rw [if_pos hlt] at hs ⊢
    refine CallT_pure (F := L140) (HasDP.f140) rfl (by first | rfl | (split <;> rfl) | simp) ?_; unfold L140; dsimp only []
    repeat' (first | (simp (disch := first | omega | assumption | (simp only [List.length_set]; omega) | (simp [*] <;> fail) | assumption) [-Bool.decide_and, -Bool.decide_or, -Bool.not_and, -Bool.not_or, toNat_pred, toNat_succ, wrap64, wr_new, wr_new0, ok_if, ok_ifn, iadV_sl, makeV_int, decT, decF, over_at, *]) | (with_reducible refine Gd_split (fun hc => ?_) (fun hc => ?_) <;> (have hc2 := hc; try simp at hc2)) | (with_reducible refine Br_split (fun hc => ?_) (fun hc => ?_) <;> (have hc2 := hc; try simp at hc2)) | (with_reducible refine GdT_split (fun hc => ?_) (fun hc => ?_) <;> (have hc2 := hc; try simp at hc2)) | (with_reducible refine WT_alt ?_ ?_) | omega)
  · have hs := fun K t => c_szEffectS (S := S) (K := K) (h := h ++ t) (lim := h.length) hA.app (hI.kept (Kept.app _ _)) h1 h2
    rw [if_neg hlt] at hs ⊢
    refine CallT_pure (F := L140) (HasDP.f140) rfl (by first | rfl | (split <;> rfl) | simp) ?_; unfold L140; dsimp only []
    repeat' (first | (simp (disch := first | omega | assumption | (simp only [List.length_set]; omega) | (simp [*] <;> fail) | assumption) [-Bool.decide_and, -Bool.decide_or, -Bool.not_and, -Bool.not_or, toNat_pred, toNat_succ, wrap64, wr_new, wr_new0, ok_if, ok_ifn, iadV_sl, makeV_int, decT, decF, over_at, *]) | (with_reducible refine Gd_split (fun hc => ?_) (fun hc => ?_) <;> (have hc2 := hc; try simp at hc2)) | (with_reducible refine Br_split (fun hc => ?_) (fun hc => ?_) <;> (have hc2 := hc; try simp at hc2)) | (with_reducible refine GdT_split (fun hc => ?_) (fun hc => ?_) <;> (have hc2 := hc; try simp at hc2)) | (with_reducible refine WT_alt ?_ ?_) | omega)
set_option maxHeartbeats 1000000 in
theorem c_eqStripS {ss rs : List (Str × Lf)} (hA : Arr h l 5 (ss.map Str.cells)) (hI : InS h ss) (hA2 : Arr h l2 5 (rs.map Str.cells)) (hI2 : InS h rs) (hq : valS rs = valS ss) : CallT S true 81 [.lf l, .lf l2] h lim K = K (.lf (.bool true)) h := by
  have hb := hA.bound
  have hlen := valS_eq hq
  refine CallT_pure (F := L81) (HasDP.f81) rfl (by first | rfl | (split <;> rfl) | simp) ?_; unfold L81; dsimp only []
  repeat' (first | (simp (disch := first | omega | assumption | (simp only [List.length_set]; omega) | (simp [*] <;> fail) | assumption) [-Bool.decide_and, -Bool.decide_or, -Bool.not_and, -Bool.not_or, toNat_pred, toNat_succ, wrap64, wr_new, wr_new0, ok_if, ok_ifn, iadV_sl, makeV_int, decT, decF, over_at, *, hA.len, hA.at_, hA.at_', hA.rd, hA.rdIn, hA.rdIn0, hA.rdA, hA.rdInA, hA.rdIn0A, hA2.len, hA2.at_, hA2.at_', hA2.rd, hA2.rdIn, hA2.rdIn0, hA2.rdA, hA2.rdInA, hA2.rdIn0A]) | (with_reducible refine Gd_split (fun hc => ?_) (fun hc => ?_) <;> (have hc2 := hc; try simp at hc2)) | (with_reducible refine Br_split (fun hc => ?_) (fun hc => ?_) <;> (have hc2 := hc; try simp at hc2)) | (with_reducible refine GdT_split (fun hc => ?_) (fun hc => ?_) <;> (have hc2 := hc; try simp at hc2)) | (with_reducible refine WT_alt ?_ ?_) | omega)
  refine WL_for ss.length (fun i a' h' => i ≤ ss.length ∧ a' 0 = .lf l ∧ a' 1 = .lf l2 ∧ a' 5 = .lf (.int .i64 i) ∧ h' = h) (fun i a' h' hi => hi.1) ?_ (by simp)
  rintro i a' h' ⟨hi, e0, e1, e5, rfl⟩
  by_cases hlt : i < ss.length
  · have hlt2 : i < rs.length := by omega
    have e := valS_at hq hlt
    obtain ⟨i1, j1⟩ := hI i hlt
    obtain ⟨i2, j2⟩ := hI2 i hlt2
    have t1 : rs[i].1.tenths = ss[i].1.tenths := congrArg StrV.tenths e
    have t2 : rs[i].1.pan = ss[i].1.pan := congrArg StrV.pan e
    have t3 : rs[i].1.mute = ss[i].1.mute := congrArg StrV.mute e
    have t4 : rs[i].1.solo = ss[i].1.solo := congrArg StrV.solo e
    have t5 : rs[i].1.ps.map (·.1) = ss[i].1.ps.map (·.1) := congrArg StrV.effs e
    have hc := fun lim K => c_eqStrip (S := S) (lim := lim) (K := K) (x := ss[i].1.tenths) (y := ss[i].1.pan) (m := ss[i].1.mute) (s := ss[i].1.solo) i1 j1 i2 j2 t5
    clear t5 e
    repeat' (first | (simp (disch := first | omega | assumption | (simp only [List.length_set]; omega) | (simp [*] <;> fail) | assumption) [-Bool.decide_and, -Bool.decide_or, -Bool.not_and, -Bool.not_or, toNat_pred, toNat_succ, wrap64, wr_new, wr_new0, ok_if, ok_ifn, iadV_sl, makeV_int, decT, decF, over_at, *, hA.len, hA.at_, hA.at_', hA.rd, hA.rdIn, hA.rdIn0, hA.rdA, hA.rdInA, hA.rdIn0A, hA2.len, hA2.at_, hA2.at_', hA2.rd, hA2.rdIn, hA2.rdIn0, hA2.rdA, hA2.rdInA, hA2.rdIn0A, Str.cells]) | (with_reducible refine Gd_split (fun hc => ?_) (fun hc => ?_) <;> (have hc2 := hc; try simp at hc2)) | (with_reducible refine Br_split (fun hc => ?_) (fun hc => ?_) <;> (have hc2 := hc; try simp at hc2)) | (with_reducible refine GdT_split (fun hc => ?_) (fun hc => ?_) <;> (have hc2 := hc; try simp at hc2)) | (with_reducible refine WT_alt ?_ ?_) | omega)
  · repeat' (first | (simp (disch := first | omega | assumption | (simp only [List.length_set]; omega) | (simp [*] <;> fail) | assumption) [-Bool.decide_and, -Bool.decide_or, -Bool.not_and, -Bool.not_or, toNat_pred, toNat_succ, wrap64, wr_new, wr_new0, ok_if, ok_ifn, iadV_sl, makeV_int, decT, decF, over_at, *, hA.len, hA.at_, hA.at_', hA.rd, hA.rdIn, hA.rdIn0, hA.rdA, hA.rdInA, hA.rdIn0A, hA2.len, hA2.at_, hA2.at_', hA2.rd, hA2.rdIn, hA2.rdIn0, hA2.rdA, hA2.rdInA, hA2.rdIn0A]) | (with_reducible refine Gd_split (fun hc => ?_) (fun hc => ?_) <;> (have hc2 := hc; try simp at hc2)) | (with_reducible refine Br_split (fun hc => ?_) (fun hc => ?_) <;> (have hc2 := hc; try simp at hc2)) | (with_reducible refine GdT_split (fun hc => ?_) (fun hc => ?_) <;> (have hc2 := hc; try simp at hc2)) | (with_reducible refine WT_alt ?_ ?_) | omega)
theorem c_szStripS {ss : List (Str × Lf)} (hA : Arr h l 5 (ss.map Str.cells)) (hI : InS h ss) {b : Int} (h1 : 0 ≤ b) (h2 : b ≤ 4611686018427387904) : CallT S true 69 [.lf l, .lf (.int .i64 b)] h lim K = K (.lf (.int .i64 (if b < ss.length + szD Str.ro ss then -1 else b - (ss.length + szD Str.ro ss)))) h := by
  have hb := hA.bound
  by_cases h0 : b < ss.length
  · rw [if_pos (by omega)]
    refine CallT_pure (F := L69) (HasDP.f69) rfl (by first | rfl | (split <;> rfl) | simp) ?_; unfold L69; dsimp only []
    repeat' (first | (simp (disch := first | omega | assumption | (simp only [List.length_set]; omega) | (simp [*] <;> fail) | assumption) [-Bool.decide_and, -Bool.decide_or, -Bool.not_and, -Bool.not_or, toNat_pred, toNat_succ, wrap64, wr_new, wr_new0, ok_if, ok_ifn, iadV_sl, makeV_int, decT, decF, over_at, *, hA.len, hA.at_, hA.at_', hA.rd, hA.rdIn, hA.rdIn0, hA.rdA, hA.rdInA, hA.rdIn0A]) | (with_reducible refine Gd_split (fun hc => ?_) (fun hc => ?_) <;> (have hc2 := hc; try simp at hc2)) | (with_reducible refine Br_split (fun hc => ?_) (fun hc => ?_) <;> (have hc2 := hc; try simp at hc2)) | (with_reducible refine GdT_split (fun hc => ?_) (fun hc => ?_) <;> (have hc2 := hc; try simp at hc2)) | (with_reducible refine WT_alt ?_ ?_) | omega)
  · refine CallT_pure (F := L69) (HasDP.f69) rfl (by first | rfl | (split <;> rfl) | simp) ?_; unfold L69; dsimp only []
    repeat' (first | (simp (disch := first | omega | assumption | (simp only [List.length_set]; omega) | (simp [*] <;> fail) | assumption) [-Bool.decide_and, -Bool.decide_or, -Bool.not_and, -Bool.not_or, toNat_pred, toNat_succ, wrap64, wr_new, wr_new0, ok_if, ok_ifn, iadV_sl, makeV_int, decT, decF, over_at, *, hA.len, hA.at_, hA.at_', hA.rd, hA.rdIn, hA.rdIn0, hA.rdA, hA.rdInA, hA.rdIn0A]) | (with_reducible refine Gd_split (fun hc => ?_) (fun hc => ?_) <;> (have hc2 := hc; try simp at hc2)) | (with_reducible refine Br_split (fun hc => ?_) (fun hc => ?_) <;> (have hc2 := hc; try simp at hc2)) | (with_reducible refine GdT_split (fun hc => ?_) (fun hc => ?_) <;> (have hc2 := hc; try simp at hc2)) | (with_reducible refine WT_alt ?_ ?_) | omega)
    refine WL_forM 67104818 (by decide +kernel) (ss.length) (fun i a' h' => i ≤ ss.length ∧ szD Str.ro (ss.take i) ≤ b - ss.length ∧ a' 1 = .lf (.int .i64 (b - ss.length - szD Str.ro (ss.take i))) ∧ a' 5 = .lf (.int .i64 i) ∧ h = h') (fun i a' h' hi => hi.1) ⟨by omega, by simp [szD]; omega, by simp [szD], by simp, rfl⟩ ?_
    rintro i a' h' ⟨hi, hle, e1, e10, rfl⟩
    by_cases hlt : i < ss.length
    · have hs := szD_take (ro := Str.ro) hlt
      have hs2 := szD_take_le (ro := Str.ro) (ps := ss) (i := i + 1)
      rw [Str.ro_len] at hs
      have hc := fun K lim => c_szStrip (x := ss[i].1.tenths) (y := ss[i].1.pan) (m := ss[i].1.mute) (s := ss[i].1.solo) (S := S) (K := K) (lim := lim) (hI i hlt).1 (hI i hlt).2 (b := b - ss.length - szD Str.ro (ss.take i)) (by omega) (by omega)
      by_cases hover : b - ss.length - szD Str.ro (ss.take i) < ss[i].1.ps.length + szD Eff.nums ss[i].1.ps
      · rw [if_pos (by omega)]
        rw [if_pos hover] at hc
        repeat' (first | (simp (disch := first | omega | assumption | (simp only [List.length_set]; omega) | (simp [*] <;> fail) | assumption) [-Bool.decide_and, -Bool.decide_or, -Bool.not_and, -Bool.not_or, toNat_pred, toNat_succ, wrap64, wr_new, wr_new0, ok_if, ok_ifn, iadV_sl, makeV_int, decT, decF, over_at, *, hA.len, hA.at_, hA.at_', hA.rd, hA.rdIn, hA.rdIn0, hA.rdA, hA.rdInA, hA.rdIn0A, Str.cells]) | (with_reducible refine Gd_split (fun hc => ?_) (fun hc => ?_) <;> (have hc2 := hc; try simp at hc2)) | (with_reducible refine Br_split (fun hc => ?_) (fun hc => ?_) <;> (have hc2 := hc; try simp at hc2)) | (with_reducible refine GdT_split (fun hc => ?_) (fun hc => ?_) <;> (have hc2 := hc; try simp at hc2)) | (with_reducible refine WT_alt ?_ ?_) | omega)
      · rw [if_neg hover] at hc
        repeat' (first | (simp (disch := first | omega | assumption | (simp only [List.length_set]; omega) | (simp [*] <;> fail) | assumption) [-Bool.decide_and, -Bool.decide_or, -Bool.not_and, -Bool.not_or, toNat_pred, toNat_succ, wrap64, wr_new, wr_new0, ok_if, ok_ifn, iadV_sl, makeV_int, decT, decF, over_at, *, hA.len, hA.at_, hA.at_', hA.rd, hA.rdIn, hA.rdIn0, hA.rdA, hA.rdInA, hA.rdIn0A, Str.cells]) | (with_reducible refine Gd_split (fun hc => ?_) (fun hc => ?_) <;> (have hc2 := hc; try simp at hc2)) | (with_reducible refine Br_split (fun hc => ?_) (fun hc => ?_) <;> (have hc2 := hc; try simp at hc2)) | (with_reducible refine GdT_split (fun hc => ?_) (fun hc => ?_) <;> (have hc2 := hc; try simp at hc2)) | (with_reducible refine WT_alt ?_ ?_) | omega)
        all_goals exact ⟨hlt, by omega, by omega⟩
    · have : i = ss.length := by omega
      subst this
      rw [List.take_length] at *
      rw [if_neg (by omega), show b - ((ss.length : Int) + (szD Str.ro ss : Int)) = b - ss.length - szD Str.ro ss by omega]
      repeat' (first | (simp (disch := first | omega | assumption | (simp only [List.length_set]; omega) | (simp [*] <;> fail) | assumption) [-Bool.decide_and, -Bool.decide_or, -Bool.not_and, -Bool.not_or, toNat_pred, toNat_succ, wrap64, wr_new, wr_new0, ok_if, ok_ifn, iadV_sl, makeV_int, decT, decF, over_at, *, hA.len, hA.at_, hA.at_', hA.rd, hA.rdIn, hA.rdIn0, hA.rdA, hA.rdInA, hA.rdIn0A]) | (with_reducible refine Gd_split (fun hc => ?_) (fun hc => ?_) <;> (have hc2 := hc; try simp at hc2)) | (with_reducible refine Br_split (fun hc => ?_) (fun hc => ?_) <;> (have hc2 := hc; try simp at hc2)) | (with_reducible refine GdT_split (fun hc => ?_) (fun hc => ?_) <;> (have hc2 := hc; try simp at hc2)) | (with_reducible refine WT_alt ?_ ?_) | omega)
set_option maxHeartbeats 1000000 in
theorem c_toStripS {ss : List (Str × Lf)} (hA : Arr h l 5 (ss.map Str.cells)) (hI : InS h ss) (hn : ss.length ≤ 16777216) (hn2 : szD Str.ro ss ≤ 16777216) (hl : lim ≤ h.length) (hK : ∀ l' g qs, NewS h g l' qs → valS qs = valS ss → K (.lf l') g) : CallT S false 72 [.lf l] h lim K := by
  have hb := hA.bound
  refine CallT_of_body (F := L72) (HasDP.f72) rfl ?_; unfold L72; dsimp only []
  repeat' (first | (simp (disch := first | omega | assumption | (simp only [List.length_set]; omega) | (simp [*] <;> fail) | assumption) [-Bool.decide_and, -Bool.decide_or, -Bool.not_and, -Bool.not_or, toNat_pred, toNat_succ, wrap64, wr_new, wr_new0, ok_if, ok_ifn, iadV_sl, makeV_int, decT, decF, over_at, *, hA.len, hA.at_, hA.at_', hA.rd, hA.rdIn, hA.rdIn0, hA.rdA, hA.rdInA, hA.rdIn0A]) | (with_reducible refine Gd_split (fun hc => ?_) (fun hc => ?_) <;> (have hc2 := hc; try simp at hc2)) | (with_reducible refine Br_split (fun hc => ?_) (fun hc => ?_) <;> (have hc2 := hc; try simp at hc2)) | (with_reducible refine GdT_split (fun hc => ?_) (fun hc => ?_) <;> (have hc2 := hc; try simp at hc2)) | (with_reducible refine WT_alt ?_ ?_) | omega)
  refine WL_forM 4194064 (by decide +kernel) (ss.length) (fun i a' g => i ≤ ss.length ∧ a' 4 = .lf (.int .i64 i) ∧ ∃ qs : List (Str × Lf), qs.length = i ∧ valS qs = (valS ss).take i ∧ FillS h g h.length ss.length qs) (fun i a' h' hi => hi.1) ⟨by omega, by simp, [], rfl, by simp [valS], by simpa using FillS.start (h := h) (n := ss.length)⟩ ?_
  rintro i a' g ⟨hi, e4, qs, hql, hq, hF⟩
  subst hql
  have hk := hF.kept
  have hk1 := hk.1
  replace hA := hA.kept hk
  replace hI := hI.kept hk
  by_cases hlt : qs.length < ss.length
  · have hle := szD_get (ro := Str.ro) hlt
    rw [Str.ro_len] at hle
    repeat' (first | (simp (disch := first | omega | assumption | (simp only [List.length_set]; omega) | (simp [*] <;> fail) | assumption) [-Bool.decide_and, -Bool.decide_or, -Bool.not_and, -Bool.not_or, toNat_pred, toNat_succ, wrap64, wr_new, wr_new0, ok_if, ok_ifn, iadV_sl, makeV_int, decT, decF, over_at, *, hA.len, hA.at_, hA.at_', hA.rd, hA.rdIn, hA.rdIn0, hA.rdA, hA.rdInA, hA.rdIn0A, Str.cells]) | (with_reducible refine Gd_split (fun hc => ?_) (fun hc => ?_) <;> (have hc2 := hc; try simp at hc2)) | (with_reducible refine Br_split (fun hc => ?_) (fun hc => ?_) <;> (have hc2 := hc; try simp at hc2)) | (with_reducible refine GdT_split (fun hc => ?_) (fun hc => ?_) <;> (have hc2 := hc; try simp at hc2)) | (with_reducible refine WT_alt ?_ ?_) | omega)
    refine c_toStrip (hI _ hlt).1 (hI _ hlt).2 (by omega) (by omega) (by omega) fun l' g' es hN he => ?_
    have hk2 := (NewD.kept hN).1
    have hA2 := hA.kept (NewD.kept hN)
    have hqs := valS_take (p := (⟨es, ss[qs.length].1.tenths, ss[qs.length].1.pan, ss[qs.length].1.mute, ss[qs.length].1.solo⟩, l')) hq hlt (by unfold Str.val; rw [he])
    have hadd := hF.add (p := (⟨es, ss[qs.length].1.tenths, ss[qs.length].1.pan, ss[qs.length].1.mute, ss[qs.length].1.solo⟩, l')) hN hlt rfl
    clear he hq
    repeat' (first | (simp (disch := first | omega | assumption | (simp only [List.length_set]; omega) | (simp [*] <;> fail) | assumption) [-Bool.decide_and, -Bool.decide_or, -Bool.not_and, -Bool.not_or, toNat_pred, toNat_succ, wrap64, wr_new, wr_new0, ok_if, ok_ifn, iadV_sl, makeV_int, decT, decF, over_at, *, hF.wr (NewD.kept hN), hA2.len, hA2.at_, hA2.at_', hA2.rd, hA2.rdIn, hA2.rdIn0, hA2.rdA, hA2.rdInA, hA2.rdIn0A, Str.cells]) | (with_reducible refine Gd_split (fun hc => ?_) (fun hc => ?_) <;> (have hc2 := hc; try simp at hc2)) | (with_reducible refine Br_split (fun hc => ?_) (fun hc => ?_) <;> (have hc2 := hc; try simp at hc2)) | (with_reducible refine GdT_split (fun hc => ?_) (fun hc => ?_) <;> (have hc2 := hc; try simp at hc2)) | (with_reducible refine WT_alt ?_ ?_) | omega)
    exact ⟨hlt, _, by simp, hqs, hadd⟩
  · have he : qs.length = ss.length := by omega
    rw [he, ← valS_len, List.take_length] at hq
    repeat' (first | (simp (disch := first | omega | assumption | (simp only [List.length_set]; omega) | (simp [*] <;> fail) | assumption) [-Bool.decide_and, -Bool.decide_or, -Bool.not_and, -Bool.not_or, toNat_pred, toNat_succ, wrap64, wr_new, wr_new0, ok_if, ok_ifn, iadV_sl, makeV_int, decT, decF, over_at, *, hA.len, hA.at_, hA.at_', hA.rd, hA.rdIn, hA.rdIn0, hA.rdA, hA.rdInA, hA.rdIn0A]) | (with_reducible refine Gd_split (fun hc => ?_) (fun hc => ?_) <;> (have hc2 := hc; try simp at hc2)) | (with_reducible refine Br_split (fun hc => ?_) (fun hc => ?_) <;> (have hc2 := hc; try simp at hc2)) | (with_reducible refine GdT_split (fun hc => ?_) (fun hc => ?_) <;> (have hc2 := hc; try simp at hc2)) | (with_reducible refine WT_alt ?_ ?_) | omega)
    exact hK _ _ qs (hF.full he.symm hb) hq
end
section
variable [HasDN S] {l l2 m m2 : Lf} {cs ds : List (Eff × Lf)} {ss rs : List (Str × Lf)}
theorem c_eqSession (hA : Arr h l 3 (cs.map Eff.cells)) (hI : In h Eff.nums cs) (hA2 : Arr h m 3 (ds.map Eff.cells)) (hI2 : In h Eff.nums ds) (hq : ds.map (·.1) = cs.map (·.1)) (hS : Arr h l2 5 (ss.map Str.cells)) (hSI : InS h ss) (hS2 : Arr h m2 5 (rs.map Str.cells)) (hSI2 : InS h rs) (hr : valS rs = valS ss) : CallT S true 23 [.agg [l, l2], .agg [m, m2]] h lim K = K (.lf (.bool true)) h := by
  refine CallT_pure (F := L23) (HasDN.f23) rfl (by first | rfl | (split <;> rfl) | simp) ?_; unfold L23; dsimp only []
  repeat' (first | (simp (disch := first | omega | assumption | (simp only [List.length_set]; omega) | (simp [*] <;> fail) | assumption) [-Bool.decide_and, -Bool.decide_or, -Bool.not_and, -Bool.not_or, toNat_pred, toNat_succ, wrap64, wr_new, wr_new0, ok_if, ok_ifn, iadV_sl, makeV_int, decT, decF, over_at, *, c_eqClipS hA.app (hI.kept (Kept.app _ _)) hA2.app (hI2.kept (Kept.app _ _)) hq, c_eqStripS hS.app (hSI.kept (Kept.app _ _)) hS2.app (hSI2.kept (Kept.app _ _)) hr]) | (with_reducible refine Gd_split (fun hc => ?_) (fun hc => ?_) <;> (have hc2 := hc; try simp at hc2)) | (with_reducible refine Br_split (fun hc => ?_) (fun hc => ?_) <;> (have hc2 := hc; try simp at hc2)) | (with_reducible refine GdT_split (fun hc => ?_) (fun hc => ?_) <;> (have hc2 := hc; try simp at hc2)) | (with_reducible refine WT_alt ?_ ?_) | omega)
theorem c_szSession (hA : Arr h l 3 (cs.map Eff.cells)) (hI : In h Eff.nums cs) (hS : Arr h l2 5 (ss.map Str.cells)) (hSI : InS h ss) {b : Int} (h1 : 0 ≤ b) (h2 : b ≤ 4611686018427387904) : CallT S true 19 [.agg [l, l2], .lf (.int .i64 b)] h lim K = K (.lf (.int .i64 (if b < cs.length + szD Eff.nums cs + (ss.length + szD Str.ro ss) then -1 else b - (cs.length + szD Eff.nums cs + (ss.length + szD Str.ro ss))))) h := by
  have hs := fun K t lim => c_szClipS (S := S) (K := K) (h := h ++ t) (lim := lim) hA.app (hI.kept (Kept.app _ _)) h1 h2
  by_cases hlt : b < cs.length + szD Eff.nums cs
  · rw [if_pos hlt] at hs
    rw [if_pos (by omega)]
    refine CallT_pure (F := L19) (HasDN.f19) rfl (by first | rfl | (split <;> rfl) | simp) ?_; unfold L19; dsimp only []
    repeat' (first | (simp (disch := first | omega | assumption | (simp only [List.length_set]; omega) | (simp [*] <;> fail) | assumption) [-Bool.decide_and, -Bool.decide_or, -Bool.not_and, -Bool.not_or, toNat_pred, toNat_succ, wrap64, wr_new, wr_new0, ok_if, ok_ifn, iadV_sl, makeV_int, decT, decF, over_at, *]) | (with_reducible refine Gd_split (fun hc => ?_) (fun hc => ?_) <;> (have hc2 := hc; try simp at hc2)) | (with_reducible refine Br_split (fun hc => ?_) (fun hc => ?_) <;> (have hc2 := hc; try simp at hc2)) | (with_reducible refine GdT_split (fun hc => ?_) (fun hc => ?_) <;> (have hc2 := hc; try simp at hc2)) | (with_reducible refine WT_alt ?_ ?_) | omega)
  · rw [if_neg hlt] at hs
    have hs2 := fun K t lim => c_szStripS (S := S) (K := K) (h := h ++ t) (lim := lim) hS.app (hSI.kept (Kept.app _ _)) (b := b - (cs.length + szD Eff.nums cs)) (by omega) (by omega)
    by_cases hlt2 : b - (cs.length + szD Eff.nums cs) < ss.length + szD Str.ro ss
    · rw [if_pos hlt2] at hs2
      rw [if_pos (by omega)]
      refine CallT_pure (F := L19) (HasDN.f19) rfl (by first | rfl | (split <;> rfl) | simp) ?_; unfold L19; dsimp only []
      repeat' (first | (simp (disch := first | omega | assumption | (simp only [List.length_set]; omega) | (simp [*] <;> fail) | assumption) [-Bool.decide_and, -Bool.decide_or, -Bool.not_and, -Bool.not_or, toNat_pred, toNat_succ, wrap64, wr_new, wr_new0, ok_if, ok_ifn, iadV_sl, makeV_int, decT, decF, over_at, *]) | (with_reducible refine Gd_split (fun hc => ?_) (fun hc => ?_) <;> (have hc2 := hc; try simp at hc2)) | (with_reducible refine Br_split (fun hc => ?_) (fun hc => ?_) <;> (have hc2 := hc; try simp at hc2)) | (with_reducible refine GdT_split (fun hc => ?_) (fun hc => ?_) <;> (have hc2 := hc; try simp at hc2)) | (with_reducible refine WT_alt ?_ ?_) | omega)
    · rw [if_neg hlt2] at hs2
      rw [if_neg (by omega), show b - (cs.length + szD Eff.nums cs + (ss.length + szD Str.ro ss)) = b - (cs.length + szD Eff.nums cs) - (ss.length + szD Str.ro ss) by omega]
      refine CallT_pure (F := L19) (HasDN.f19) rfl (by first | rfl | (split <;> rfl) | simp) ?_; unfold L19; dsimp only []
      repeat' (first | (simp (disch := first | omega | assumption | (simp only [List.length_set]; omega) | (simp [*] <;> fail) | assumption) [-Bool.decide_and, -Bool.decide_or, -Bool.not_and, -Bool.not_or, toNat_pred, toNat_succ, wrap64, wr_new, wr_new0, ok_if, ok_ifn, iadV_sl, makeV_int, decT, decF, over_at, *]) | (with_reducible refine Gd_split (fun hc => ?_) (fun hc => ?_) <;> (have hc2 := hc; try simp at hc2)) | (with_reducible refine Br_split (fun hc => ?_) (fun hc => ?_) <;> (have hc2 := hc; try simp at hc2)) | (with_reducible refine GdT_split (fun hc => ?_) (fun hc => ?_) <;> (have hc2 := hc; try simp at hc2)) | (with_reducible refine WT_alt ?_ ?_) | omega)
set_option maxHeartbeats 2000000 in
theorem c_toSession (hA : Arr h l 3 (cs.map Eff.cells)) (hI : In h Eff.nums cs) (hn : cs.length ≤ 16777216) (hn2 : szD Eff.nums cs ≤ 16777216) (hS : Arr h l2 5 (ss.map Str.cells)) (hSI : InS h ss) (hn3 : ss.length ≤ 16777216) (hn4 : szD Str.ro ss ≤ 16777216) (hl : lim ≤ h.length)
    (hK : ∀ m m2 g ds rs, NewD h g m 118 3 Eff.cells Eff.nums 22 ds → ds.map (·.1) = cs.map (·.1) → NewS h g m2 rs → valS rs = valS ss → (∀ a ∈ lvs m ds, ∀ b ∈ lvS m2 rs, Far a b) → K (.agg [m, m2]) g) : CallT S false 21 [.agg [l, l2]] h lim K := by
  refine CallT_of_body (F := L21) (HasDN.f21) rfl ?_; unfold L21; dsimp only []
  repeat' (first | (simp (disch := first | omega | assumption | (simp only [List.length_set]; omega) | (simp [*] <;> fail) | assumption) [-Bool.decide_and, -Bool.decide_or, -Bool.not_and, -Bool.not_or, toNat_pred, toNat_succ, wrap64, wr_new, wr_new0, ok_if, ok_ifn, iadV_sl, makeV_int, decT, decF, over_at, *]) | (with_reducible refine Gd_split (fun hc => ?_) (fun hc => ?_) <;> (have hc2 := hc; try simp at hc2)) | (with_reducible refine Br_split (fun hc => ?_) (fun hc => ?_) <;> (have hc2 := hc; try simp at hc2)) | (with_reducible refine GdT_split (fun hc => ?_) (fun hc => ?_) <;> (have hc2 := hc; try simp at hc2)) | (with_reducible refine WT_alt ?_ ?_) | omega)
  refine c_toClipS hA.app (hI.kept (Kept.app _ _)) hn hn2 (by simp; omega) fun m g ds hN hq => ?_
  obtain ⟨t, rfl⟩ := hN.kept.split
  rw [List.append_assoc] at hN
  simp only [List.cons_append, List.nil_append, List.append_assoc] at hN ⊢
  repeat' (first | (simp (disch := first | omega | assumption | (simp only [List.length_set]; omega) | (simp [*] <;> fail) | assumption) [-Bool.decide_and, -Bool.decide_or, -Bool.not_and, -Bool.not_or, toNat_pred, toNat_succ, wrap64, wr_new, wr_new0, ok_if, ok_ifn, iadV_sl, makeV_int, decT, decF, over_at, *]) | (with_reducible refine Gd_split (fun hc => ?_) (fun hc => ?_) <;> (have hc2 := hc; try simp at hc2)) | (with_reducible refine Br_split (fun hc => ?_) (fun hc => ?_) <;> (have hc2 := hc; try simp at hc2)) | (with_reducible refine GdT_split (fun hc => ?_) (fun hc => ?_) <;> (have hc2 := hc; try simp at hc2)) | (with_reducible refine WT_alt ?_ ?_) | omega)
  refine c_toStripS hS.app (hSI.kept (Kept.app _ _)) hn3 hn4 (by simp; omega) fun m2 g2 rs hR hr => ?_
  obtain ⟨t2, rfl⟩ := hR.kept.split
  have hf : ∀ a ∈ lvs m ds, ∀ b ∈ lvS m2 rs, Far a b := fun a ha b hb q1 q2 => by
    have h1 := (hN.lvs_lt a ha q1).2
    have h2 := (hR.lvs_lt b hb q2).1
    simp only [List.length_append, List.length_cons, List.length_nil] at h1 h2
    omega
  have fN : ∀ o1 o2, NewD h (h ++ ⟨[l, l2], .own 40 1⟩ :: o1 :: o2 :: (t ++ t2)) m 118 3 Eff.cells Eff.nums 22 ds := fun o1 o2 => by
    have := ((NewD.swapB (bs := [⟨[l, l2], .own 40 1⟩, _, _]) (bs' := [⟨[l, l2], .own 40 1⟩, o1, o2]) hN rfl).later (Kept.app _ t2)).base (Kept.app h _)
    simpa only [List.append_assoc, List.cons_append, List.nil_append] using this
  have fR : ∀ o1 o2, NewS h (h ++ ⟨[l, l2], .own 40 1⟩ :: o1 :: o2 :: (t ++ t2)) m2 rs := fun o1 o2 => by
    rw [List.append_assoc] at hR
    have := (NewS.swapB (bs' := ⟨[l, l2], .own 40 1⟩ :: o1 :: o2 :: t) hR (by simp)).base (Kept.app h _)
    simpa only [List.append_assoc, List.cons_append, List.nil_append] using this
  simp only [List.append_assoc, List.cons_append, List.nil_append]
  clear hN hR
  repeat' (first | (simp (disch := first | omega | assumption | (simp only [List.length_set]; omega) | (simp [*] <;> fail) | assumption) [-Bool.decide_and, -Bool.decide_or, -Bool.not_and, -Bool.not_or, toNat_pred, toNat_succ, wrap64, wr_new, wr_new0, ok_if, ok_ifn, iadV_sl, makeV_int, decT, decF, over_at, *]) | (with_reducible refine Gd_split (fun hc => ?_) (fun hc => ?_) <;> (have hc2 := hc; try simp at hc2)) | (with_reducible refine Br_split (fun hc => ?_) (fun hc => ?_) <;> (have hc2 := hc; try simp at hc2)) | (with_reducible refine GdT_split (fun hc => ?_) (fun hc => ?_) <;> (have hc2 := hc; try simp at hc2)) | (with_reducible refine WT_alt ?_ ?_) | omega)
  exact hK _ _ _ _ _ (fN _ _) hq (fR _ _) hr hf
end
end
end Go.E
