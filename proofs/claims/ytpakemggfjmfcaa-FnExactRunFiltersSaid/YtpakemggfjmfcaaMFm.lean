/- Slices of filters and of memories: the laws' helpers. -/
import Derived.Test.YtpakemggfjmfcaaMRf
import Derived.Test.YtpakemggfjmfcaaMC
set_option linter.unusedVariables false
set_option linter.unusedSimpArgs false
namespace Go.E
open Go
def L16 : LFn := ⟨1, (.seq (.reg [⟨(.some 1), (.box 24 (.t 0)), none⟩, ⟨(.some 2), (.alloc 31 [(.flt .f32 0), (.flt .f32 0), (.flt .f32 0), (.flt .f32 0), (.flt .f32 0)]), none⟩])
 (.seq (.reg [⟨(.some 3), (.alloc 31 [(.flt .f32 0), (.flt .f32 0), (.flt .f32 0), (.flt .f32 0), (.flt .f32 0)]), none⟩])
 (.seq (.reg [⟨(.some 4), (.faddr 0 (.t 1)), none⟩, ⟨(.some 5), (.load false 1 (.t 4)), none⟩, ⟨(.some 6), (.faddr 0 (.t 3)), none⟩, ⟨none, (.store 1 (.t 6) (.t 5)), none⟩])
 (.seq (.reg [⟨(.some 7), (.faddr 1 (.t 1)), none⟩, ⟨(.some 8), (.load false 1 (.t 7)), none⟩, ⟨(.some 9), (.faddr 1 (.t 3)), none⟩, ⟨none, (.store 1 (.t 9) (.t 8)), none⟩])
 (.seq (.reg [⟨(.some 10), (.faddr 2 (.t 1)), none⟩, ⟨(.some 11), (.load false 1 (.t 10)), none⟩, ⟨(.some 12), (.faddr 2 (.t 3)), none⟩, ⟨none, (.store 1 (.t 12) (.t 11)), none⟩])
 (.seq (.reg [⟨(.some 13), (.faddr 3 (.t 1)), none⟩, ⟨(.some 14), (.load false 1 (.t 13)), none⟩, ⟨(.some 15), (.faddr 3 (.t 3)), none⟩, ⟨none, (.store 1 (.t 15) (.t 14)), none⟩])
 (.seq (.reg [⟨(.some 16), (.faddr 4 (.t 1)), none⟩, ⟨(.some 17), (.load false 1 (.t 16)), none⟩, ⟨(.some 18), (.faddr 4 (.t 3)), none⟩, ⟨none, (.store 1 (.t 18) (.t 17)), none⟩])
 (.seq (.reg [⟨(.some 19), (.load true 5 (.t 3)), none⟩, ⟨none, (.store 5 (.t 2) (.t 19)), none⟩])
 .ret)))))))), [(.cell 2 true 5)]⟩
def L146 : LFn := ⟨2, (.seq (.reg [⟨(.some 2), (.box 31 (.t 0)), none⟩, ⟨(.some 3), (.box 31 (.t 1)), none⟩, ⟨(.some 4), (.mv (.c (.lf (.bool false)))), none⟩])
 (.seq (.seq (.reg [⟨(.some 5), (.faddr 0 (.t 2)), none⟩, ⟨(.some 6), (.load false 1 (.t 5)), none⟩, ⟨(.some 7), (.toflt .f64 (.t 6)), none⟩, ⟨(.some 8), (.faddr 0 (.t 3)), none⟩, ⟨(.some 9), (.load false 1 (.t 8)), none⟩, ⟨(.some 10), (.toflt .f64 (.t 9)), none⟩, ⟨(.some 11), (.call true 91 [(.t 7), (.t 10)]), none⟩, ⟨(.some 12), (.una .not (.t 11)), none⟩])
 (.cond (.t 12) (.seq (.reg [⟨(.some 4), (.mv (.c (.lf (.bool false)))), none⟩])
 .ret) .skip))
 (.seq (.seq (.reg [⟨(.some 13), (.faddr 1 (.t 2)), none⟩, ⟨(.some 14), (.load false 1 (.t 13)), none⟩, ⟨(.some 15), (.toflt .f64 (.t 14)), none⟩, ⟨(.some 16), (.faddr 1 (.t 3)), none⟩, ⟨(.some 17), (.load false 1 (.t 16)), none⟩, ⟨(.some 18), (.toflt .f64 (.t 17)), none⟩, ⟨(.some 19), (.call true 91 [(.t 15), (.t 18)]), none⟩, ⟨(.some 20), (.una .not (.t 19)), none⟩])
 (.cond (.t 20) (.seq (.reg [⟨(.some 4), (.mv (.c (.lf (.bool false)))), none⟩])
 .ret) .skip))
 (.seq (.seq (.reg [⟨(.some 21), (.faddr 2 (.t 2)), none⟩, ⟨(.some 22), (.load false 1 (.t 21)), none⟩, ⟨(.some 23), (.toflt .f64 (.t 22)), none⟩, ⟨(.some 24), (.faddr 2 (.t 3)), none⟩, ⟨(.some 25), (.load false 1 (.t 24)), none⟩, ⟨(.some 26), (.toflt .f64 (.t 25)), none⟩, ⟨(.some 27), (.call true 91 [(.t 23), (.t 26)]), none⟩, ⟨(.some 28), (.una .not (.t 27)), none⟩])
 (.cond (.t 28) (.seq (.reg [⟨(.some 4), (.mv (.c (.lf (.bool false)))), none⟩])
 .ret) .skip))
 (.seq (.seq (.reg [⟨(.some 29), (.faddr 3 (.t 2)), none⟩, ⟨(.some 30), (.load false 1 (.t 29)), none⟩, ⟨(.some 31), (.toflt .f64 (.t 30)), none⟩, ⟨(.some 32), (.faddr 3 (.t 3)), none⟩, ⟨(.some 33), (.load false 1 (.t 32)), none⟩, ⟨(.some 34), (.toflt .f64 (.t 33)), none⟩, ⟨(.some 35), (.call true 91 [(.t 31), (.t 34)]), none⟩, ⟨(.some 36), (.una .not (.t 35)), none⟩])
 (.cond (.t 36) (.seq (.reg [⟨(.some 4), (.mv (.c (.lf (.bool false)))), none⟩])
 .ret) .skip))
 (.seq (.seq (.reg [⟨(.some 37), (.faddr 4 (.t 2)), none⟩, ⟨(.some 38), (.load false 1 (.t 37)), none⟩, ⟨(.some 39), (.toflt .f64 (.t 38)), none⟩, ⟨(.some 40), (.faddr 4 (.t 3)), none⟩, ⟨(.some 41), (.load false 1 (.t 40)), none⟩, ⟨(.some 42), (.toflt .f64 (.t 41)), none⟩, ⟨(.some 43), (.call true 91 [(.t 39), (.t 42)]), none⟩, ⟨(.some 44), (.una .not (.t 43)), none⟩])
 (.cond (.t 44) (.seq (.reg [⟨(.some 4), (.mv (.c (.lf (.bool false)))), none⟩])
 .ret) .skip))
 (.seq (.reg [⟨(.some 4), (.mv (.c (.lf (.bool true)))), none⟩])
 .ret))))))), [(.tmp 4)]⟩
def L75 : LFn := ⟨1, (.seq (.reg [⟨(.some 2), (.mv (.c (.lf .nils))), none⟩])
 (.seq (.reg [⟨(.some 5), (.mv (.t 0)), none⟩, ⟨(.some 6), (.len (.t 5)), none⟩, ⟨(.some 7), (.make 31 5 20 [(.flt .f32 0), (.flt .f32 0), (.flt .f32 0), (.flt .f32 0), (.flt .f32 0)] (.t 6) (.t 6)), none⟩, ⟨(.some 3), (.mv (.t 7)), none⟩])
 (.seq (.seq (.reg [⟨(.some 4), (.mv (.c (.lf (.int .i64 0)))), none⟩])
 (.block 0 (.loop (.seq (.seq (.reg [⟨(.some 8), (.mv (.t 4)), none⟩, ⟨(.some 9), (.mv (.t 0)), none⟩, ⟨(.some 10), (.len (.t 9)), none⟩, ⟨(.some 11), (.bin .lss (.t 8) (.t 10)), none⟩])
 (.cond (.t 11) .skip (.exit 0)))
 (.seq (.block 1 (.reg [⟨(.some 14), (.mv (.t 3)), none⟩, ⟨(.some 15), (.mv (.t 4)), none⟩, ⟨(.some 16), (.mv (.t 0)), none⟩, ⟨(.some 17), (.mv (.t 4)), none⟩, ⟨(.some 18), (.iaddr 5 (.t 16) (.t 17)), none⟩, ⟨(.some 19), (.load true 5 (.t 18)), none⟩, ⟨(.some 20), (.call true 16 [(.t 19)]), none⟩, ⟨(.some 21), (.iaddr 5 (.t 14) (.t 15)), none⟩, ⟨none, (.store 5 (.t 21) (.t 20)), none⟩]))
 (.reg [⟨(.some 12), (.mv (.t 4)), none⟩, ⟨(.some 13), (.bin .add (.t 12) (.c (.lf (.int .i64 1)))), none⟩, ⟨(.some 4), (.mv (.t 13)), none⟩]))))))
 (.seq (.reg [⟨(.some 22), (.mv (.t 3)), none⟩, ⟨(.some 2), (.mv (.t 22)), none⟩])
 .ret)))), [(.tmp 2)]⟩
def L72 : LFn := ⟨2, (.seq (.reg [⟨(.some 4), (.mv (.c (.lf (.int .i64 0)))), none⟩])
 (.seq (.reg [⟨(.some 5), (.mv (.t 1)), none⟩, ⟨(.some 6), (.mv (.t 0)), none⟩, ⟨(.some 7), (.len (.t 6)), none⟩, ⟨(.some 8), (.bin .sub (.t 5) (.t 7)), none⟩, ⟨(.some 1), (.mv (.t 8)), none⟩])
 (.seq (.seq (.reg [⟨(.some 9), (.mv (.t 1)), none⟩, ⟨(.some 10), (.bin .lss (.t 9) (.c (.lf (.int .i64 0)))), none⟩])
 (.cond (.t 10) (.seq (.reg [⟨(.some 4), (.mv (.c (.lf (.int .i64 (-1))))), none⟩])
 .ret) .skip))
 (.seq (.reg [⟨(.some 11), (.mv (.t 1)), none⟩, ⟨(.some 4), (.mv (.t 11)), none⟩])
 .ret)))), [(.tmp 4)]⟩
def L79 : LFn := ⟨2, (.seq (.reg [⟨(.some 4), (.mv (.c (.lf (.bool false)))), none⟩])
 (.seq (.seq (.reg [⟨(.some 6), (.mv (.t 0)), none⟩, ⟨(.some 7), (.len (.t 6)), none⟩, ⟨(.some 8), (.mv (.t 1)), none⟩, ⟨(.some 9), (.len (.t 8)), none⟩, ⟨(.some 10), (.bin .neq (.t 7) (.t 9)), none⟩])
 (.cond (.t 10) (.seq (.reg [⟨(.some 4), (.mv (.c (.lf (.bool false)))), none⟩])
 .ret) .skip))
 (.seq (.seq (.reg [⟨(.some 5), (.mv (.c (.lf (.int .i64 0)))), none⟩])
 (.block 0 (.loop (.seq (.seq (.reg [⟨(.some 11), (.mv (.t 5)), none⟩, ⟨(.some 12), (.mv (.t 0)), none⟩, ⟨(.some 13), (.len (.t 12)), none⟩, ⟨(.some 14), (.bin .lss (.t 11) (.t 13)), none⟩])
 (.cond (.t 14) .skip (.exit 0)))
 (.seq (.block 1 (.seq (.reg [⟨(.some 17), (.mv (.t 0)), none⟩, ⟨(.some 18), (.mv (.t 5)), none⟩, ⟨(.some 19), (.iaddr 5 (.t 17) (.t 18)), none⟩, ⟨(.some 20), (.load true 5 (.t 19)), none⟩, ⟨(.some 21), (.mv (.t 1)), none⟩, ⟨(.some 22), (.mv (.t 5)), none⟩, ⟨(.some 23), (.iaddr 5 (.t 21) (.t 22)), none⟩, ⟨(.some 24), (.load true 5 (.t 23)), none⟩, ⟨(.some 25), (.call true 146 [(.t 20), (.t 24)]), none⟩, ⟨(.some 26), (.una .not (.t 25)), none⟩])
 (.cond (.t 26) (.seq (.reg [⟨(.some 4), (.mv (.c (.lf (.bool false)))), none⟩])
 .ret) .skip)))
 (.reg [⟨(.some 15), (.mv (.t 5)), none⟩, ⟨(.some 16), (.bin .add (.t 15) (.c (.lf (.int .i64 1)))), none⟩, ⟨(.some 5), (.mv (.t 16)), none⟩]))))))
 (.seq (.reg [⟨(.some 4), (.mv (.c (.lf (.bool true)))), none⟩])
 .ret)))), [(.tmp 4)]⟩
def L80 : LFn := ⟨2, (.seq (.reg [⟨(.some 4), (.mv (.c (.lf (.int .i64 0)))), none⟩])
 (.seq (.seq (.reg [⟨(.some 5), (.mv (.c (.lf (.int .i64 0)))), none⟩])
 (.block 0 (.loop (.seq (.seq (.reg [⟨(.some 6), (.mv (.t 5)), none⟩, ⟨(.some 7), (.mv (.t 0)), none⟩, ⟨(.some 8), (.len (.t 7)), none⟩, ⟨(.some 9), (.bin .lss (.t 6) (.t 8)), none⟩])
 (.cond (.t 9) .skip (.exit 0)))
 (.seq (.block 1 (.seq (.reg [⟨(.some 12), (.mv (.t 0)), none⟩, ⟨(.some 13), (.mv (.t 5)), none⟩, ⟨(.some 14), (.mv (.t 1)), none⟩, ⟨(.some 15), (.toflt .f32 (.t 14)), none⟩, ⟨(.some 16), (.iaddr 5 (.t 12) (.t 13)), none⟩, ⟨(.some 17), (.faddr 0 (.t 16)), none⟩, ⟨none, (.store 1 (.t 17) (.t 15)), none⟩])
 (.seq (.reg [⟨(.some 18), (.mv (.t 1)), none⟩, ⟨(.some 19), (.bin .add (.t 18) (.c (.lf (.int .i64 1)))), none⟩, ⟨(.some 1), (.mv (.t 19)), none⟩])
 (.seq (.reg [⟨(.some 20), (.mv (.t 0)), none⟩, ⟨(.some 21), (.mv (.t 5)), none⟩, ⟨(.some 22), (.mv (.t 1)), none⟩, ⟨(.some 23), (.toflt .f32 (.t 22)), none⟩, ⟨(.some 24), (.iaddr 5 (.t 20) (.t 21)), none⟩, ⟨(.some 25), (.faddr 1 (.t 24)), none⟩, ⟨none, (.store 1 (.t 25) (.t 23)), none⟩])
 (.seq (.reg [⟨(.some 26), (.mv (.t 1)), none⟩, ⟨(.some 27), (.bin .add (.t 26) (.c (.lf (.int .i64 1)))), none⟩, ⟨(.some 1), (.mv (.t 27)), none⟩])
 (.seq (.reg [⟨(.some 28), (.mv (.t 0)), none⟩, ⟨(.some 29), (.mv (.t 5)), none⟩, ⟨(.some 30), (.mv (.t 1)), none⟩, ⟨(.some 31), (.toflt .f32 (.t 30)), none⟩, ⟨(.some 32), (.iaddr 5 (.t 28) (.t 29)), none⟩, ⟨(.some 33), (.faddr 2 (.t 32)), none⟩, ⟨none, (.store 1 (.t 33) (.t 31)), none⟩])
 (.seq (.reg [⟨(.some 34), (.mv (.t 1)), none⟩, ⟨(.some 35), (.bin .add (.t 34) (.c (.lf (.int .i64 1)))), none⟩, ⟨(.some 1), (.mv (.t 35)), none⟩])
 (.seq (.reg [⟨(.some 36), (.mv (.t 0)), none⟩, ⟨(.some 37), (.mv (.t 5)), none⟩, ⟨(.some 38), (.mv (.t 1)), none⟩, ⟨(.some 39), (.toflt .f32 (.t 38)), none⟩, ⟨(.some 40), (.iaddr 5 (.t 36) (.t 37)), none⟩, ⟨(.some 41), (.faddr 3 (.t 40)), none⟩, ⟨none, (.store 1 (.t 41) (.t 39)), none⟩])
 (.seq (.reg [⟨(.some 42), (.mv (.t 1)), none⟩, ⟨(.some 43), (.bin .add (.t 42) (.c (.lf (.int .i64 1)))), none⟩, ⟨(.some 1), (.mv (.t 43)), none⟩])
 (.seq (.reg [⟨(.some 44), (.mv (.t 0)), none⟩, ⟨(.some 45), (.mv (.t 5)), none⟩, ⟨(.some 46), (.mv (.t 1)), none⟩, ⟨(.some 47), (.toflt .f32 (.t 46)), none⟩, ⟨(.some 48), (.iaddr 5 (.t 44) (.t 45)), none⟩, ⟨(.some 49), (.faddr 4 (.t 48)), none⟩, ⟨none, (.store 1 (.t 49) (.t 47)), none⟩])
 (.reg [⟨(.some 50), (.mv (.t 1)), none⟩, ⟨(.some 51), (.bin .add (.t 50) (.c (.lf (.int .i64 1)))), none⟩, ⟨(.some 1), (.mv (.t 51)), none⟩])))))))))))
 (.reg [⟨(.some 10), (.mv (.t 5)), none⟩, ⟨(.some 11), (.bin .add (.t 10) (.c (.lf (.int .i64 1)))), none⟩, ⟨(.some 5), (.mv (.t 11)), none⟩]))))))
 (.seq (.reg [⟨(.some 52), (.mv (.t 1)), none⟩, ⟨(.some 4), (.mv (.t 52)), none⟩])
 .ret))), [(.tmp 4)]⟩
class HasFs (S : Sys) : Prop extends HasSame S where
  f16 : S.fs 16 = some L16
  f146 : S.fs 146 = some L146
  f75 : S.fs 75 = some L75
  f72 : S.fs 72 = some L72
  f79 : S.fs 79 = some L79
  f80 : S.fs 80 = some L80
def L17 : LFn := ⟨1, (.seq (.reg [⟨(.some 1), (.box 26 (.t 0)), none⟩, ⟨(.some 2), (.alloc 28 [(.flt .f32 0), (.flt .f32 0), (.flt .f32 0), (.flt .f32 0)]), none⟩])
 (.seq (.reg [⟨(.some 3), (.alloc 28 [(.flt .f32 0), (.flt .f32 0), (.flt .f32 0), (.flt .f32 0)]), none⟩])
 (.seq (.reg [⟨(.some 4), (.faddr 0 (.t 1)), none⟩, ⟨(.some 5), (.load false 1 (.t 4)), none⟩, ⟨(.some 6), (.faddr 0 (.t 3)), none⟩, ⟨none, (.store 1 (.t 6) (.t 5)), none⟩])
 (.seq (.reg [⟨(.some 7), (.faddr 1 (.t 1)), none⟩, ⟨(.some 8), (.load false 1 (.t 7)), none⟩, ⟨(.some 9), (.faddr 1 (.t 3)), none⟩, ⟨none, (.store 1 (.t 9) (.t 8)), none⟩])
 (.seq (.reg [⟨(.some 10), (.faddr 2 (.t 1)), none⟩, ⟨(.some 11), (.load false 1 (.t 10)), none⟩, ⟨(.some 12), (.faddr 2 (.t 3)), none⟩, ⟨none, (.store 1 (.t 12) (.t 11)), none⟩])
 (.seq (.reg [⟨(.some 13), (.faddr 3 (.t 1)), none⟩, ⟨(.some 14), (.load false 1 (.t 13)), none⟩, ⟨(.some 15), (.faddr 3 (.t 3)), none⟩, ⟨none, (.store 1 (.t 15) (.t 14)), none⟩])
 (.seq (.reg [⟨(.some 16), (.load true 4 (.t 3)), none⟩, ⟨none, (.store 4 (.t 2) (.t 16)), none⟩])
 .ret))))))), [(.cell 2 true 4)]⟩
def L21 : LFn := ⟨2, (.seq (.reg [⟨(.some 2), (.box 28 (.t 0)), none⟩, ⟨(.some 3), (.box 28 (.t 1)), none⟩, ⟨(.some 4), (.mv (.c (.lf (.bool false)))), none⟩])
 (.seq (.seq (.reg [⟨(.some 5), (.faddr 0 (.t 2)), none⟩, ⟨(.some 6), (.load false 1 (.t 5)), none⟩, ⟨(.some 7), (.toflt .f64 (.t 6)), none⟩, ⟨(.some 8), (.faddr 0 (.t 3)), none⟩, ⟨(.some 9), (.load false 1 (.t 8)), none⟩, ⟨(.some 10), (.toflt .f64 (.t 9)), none⟩, ⟨(.some 11), (.call true 91 [(.t 7), (.t 10)]), none⟩, ⟨(.some 12), (.una .not (.t 11)), none⟩])
 (.cond (.t 12) (.seq (.reg [⟨(.some 4), (.mv (.c (.lf (.bool false)))), none⟩])
 .ret) .skip))
 (.seq (.seq (.reg [⟨(.some 13), (.faddr 1 (.t 2)), none⟩, ⟨(.some 14), (.load false 1 (.t 13)), none⟩, ⟨(.some 15), (.toflt .f64 (.t 14)), none⟩, ⟨(.some 16), (.faddr 1 (.t 3)), none⟩, ⟨(.some 17), (.load false 1 (.t 16)), none⟩, ⟨(.some 18), (.toflt .f64 (.t 17)), none⟩, ⟨(.some 19), (.call true 91 [(.t 15), (.t 18)]), none⟩, ⟨(.some 20), (.una .not (.t 19)), none⟩])
 (.cond (.t 20) (.seq (.reg [⟨(.some 4), (.mv (.c (.lf (.bool false)))), none⟩])
 .ret) .skip))
 (.seq (.seq (.reg [⟨(.some 21), (.faddr 2 (.t 2)), none⟩, ⟨(.some 22), (.load false 1 (.t 21)), none⟩, ⟨(.some 23), (.toflt .f64 (.t 22)), none⟩, ⟨(.some 24), (.faddr 2 (.t 3)), none⟩, ⟨(.some 25), (.load false 1 (.t 24)), none⟩, ⟨(.some 26), (.toflt .f64 (.t 25)), none⟩, ⟨(.some 27), (.call true 91 [(.t 23), (.t 26)]), none⟩, ⟨(.some 28), (.una .not (.t 27)), none⟩])
 (.cond (.t 28) (.seq (.reg [⟨(.some 4), (.mv (.c (.lf (.bool false)))), none⟩])
 .ret) .skip))
 (.seq (.seq (.reg [⟨(.some 29), (.faddr 3 (.t 2)), none⟩, ⟨(.some 30), (.load false 1 (.t 29)), none⟩, ⟨(.some 31), (.toflt .f64 (.t 30)), none⟩, ⟨(.some 32), (.faddr 3 (.t 3)), none⟩, ⟨(.some 33), (.load false 1 (.t 32)), none⟩, ⟨(.some 34), (.toflt .f64 (.t 33)), none⟩, ⟨(.some 35), (.call true 91 [(.t 31), (.t 34)]), none⟩, ⟨(.some 36), (.una .not (.t 35)), none⟩])
 (.cond (.t 36) (.seq (.reg [⟨(.some 4), (.mv (.c (.lf (.bool false)))), none⟩])
 .ret) .skip))
 (.seq (.reg [⟨(.some 4), (.mv (.c (.lf (.bool true)))), none⟩])
 .ret)))))), [(.tmp 4)]⟩
def L76 : LFn := ⟨1, (.seq (.reg [⟨(.some 2), (.mv (.c (.lf .nils))), none⟩])
 (.seq (.reg [⟨(.some 5), (.mv (.t 0)), none⟩, ⟨(.some 6), (.len (.t 5)), none⟩, ⟨(.some 7), (.make 28 4 16 [(.flt .f32 0), (.flt .f32 0), (.flt .f32 0), (.flt .f32 0)] (.t 6) (.t 6)), none⟩, ⟨(.some 3), (.mv (.t 7)), none⟩])
 (.seq (.seq (.reg [⟨(.some 4), (.mv (.c (.lf (.int .i64 0)))), none⟩])
 (.block 0 (.loop (.seq (.seq (.reg [⟨(.some 8), (.mv (.t 4)), none⟩, ⟨(.some 9), (.mv (.t 0)), none⟩, ⟨(.some 10), (.len (.t 9)), none⟩, ⟨(.some 11), (.bin .lss (.t 8) (.t 10)), none⟩])
 (.cond (.t 11) .skip (.exit 0)))
 (.seq (.block 1 (.reg [⟨(.some 14), (.mv (.t 3)), none⟩, ⟨(.some 15), (.mv (.t 4)), none⟩, ⟨(.some 16), (.mv (.t 0)), none⟩, ⟨(.some 17), (.mv (.t 4)), none⟩, ⟨(.some 18), (.iaddr 4 (.t 16) (.t 17)), none⟩, ⟨(.some 19), (.load true 4 (.t 18)), none⟩, ⟨(.some 20), (.call true 17 [(.t 19)]), none⟩, ⟨(.some 21), (.iaddr 4 (.t 14) (.t 15)), none⟩, ⟨none, (.store 4 (.t 21) (.t 20)), none⟩]))
 (.reg [⟨(.some 12), (.mv (.t 4)), none⟩, ⟨(.some 13), (.bin .add (.t 12) (.c (.lf (.int .i64 1)))), none⟩, ⟨(.some 4), (.mv (.t 13)), none⟩]))))))
 (.seq (.reg [⟨(.some 22), (.mv (.t 3)), none⟩, ⟨(.some 2), (.mv (.t 22)), none⟩])
 .ret)))), [(.tmp 2)]⟩
def L73 : LFn := ⟨2, (.seq (.reg [⟨(.some 4), (.mv (.c (.lf (.int .i64 0)))), none⟩])
 (.seq (.reg [⟨(.some 5), (.mv (.t 1)), none⟩, ⟨(.some 6), (.mv (.t 0)), none⟩, ⟨(.some 7), (.len (.t 6)), none⟩, ⟨(.some 8), (.bin .sub (.t 5) (.t 7)), none⟩, ⟨(.some 1), (.mv (.t 8)), none⟩])
 (.seq (.seq (.reg [⟨(.some 9), (.mv (.t 1)), none⟩, ⟨(.some 10), (.bin .lss (.t 9) (.c (.lf (.int .i64 0)))), none⟩])
 (.cond (.t 10) (.seq (.reg [⟨(.some 4), (.mv (.c (.lf (.int .i64 (-1))))), none⟩])
 .ret) .skip))
 (.seq (.reg [⟨(.some 11), (.mv (.t 1)), none⟩, ⟨(.some 4), (.mv (.t 11)), none⟩])
 .ret)))), [(.tmp 4)]⟩
def L78 : LFn := ⟨2, (.seq (.reg [⟨(.some 4), (.mv (.c (.lf (.bool false)))), none⟩])
 (.seq (.seq (.reg [⟨(.some 6), (.mv (.t 0)), none⟩, ⟨(.some 7), (.len (.t 6)), none⟩, ⟨(.some 8), (.mv (.t 1)), none⟩, ⟨(.some 9), (.len (.t 8)), none⟩, ⟨(.some 10), (.bin .neq (.t 7) (.t 9)), none⟩])
 (.cond (.t 10) (.seq (.reg [⟨(.some 4), (.mv (.c (.lf (.bool false)))), none⟩])
 .ret) .skip))
 (.seq (.seq (.reg [⟨(.some 5), (.mv (.c (.lf (.int .i64 0)))), none⟩])
 (.block 0 (.loop (.seq (.seq (.reg [⟨(.some 11), (.mv (.t 5)), none⟩, ⟨(.some 12), (.mv (.t 0)), none⟩, ⟨(.some 13), (.len (.t 12)), none⟩, ⟨(.some 14), (.bin .lss (.t 11) (.t 13)), none⟩])
 (.cond (.t 14) .skip (.exit 0)))
 (.seq (.block 1 (.seq (.reg [⟨(.some 17), (.mv (.t 0)), none⟩, ⟨(.some 18), (.mv (.t 5)), none⟩, ⟨(.some 19), (.iaddr 4 (.t 17) (.t 18)), none⟩, ⟨(.some 20), (.load true 4 (.t 19)), none⟩, ⟨(.some 21), (.mv (.t 1)), none⟩, ⟨(.some 22), (.mv (.t 5)), none⟩, ⟨(.some 23), (.iaddr 4 (.t 21) (.t 22)), none⟩, ⟨(.some 24), (.load true 4 (.t 23)), none⟩, ⟨(.some 25), (.call true 21 [(.t 20), (.t 24)]), none⟩, ⟨(.some 26), (.una .not (.t 25)), none⟩])
 (.cond (.t 26) (.seq (.reg [⟨(.some 4), (.mv (.c (.lf (.bool false)))), none⟩])
 .ret) .skip)))
 (.reg [⟨(.some 15), (.mv (.t 5)), none⟩, ⟨(.some 16), (.bin .add (.t 15) (.c (.lf (.int .i64 1)))), none⟩, ⟨(.some 5), (.mv (.t 16)), none⟩]))))))
 (.seq (.reg [⟨(.some 4), (.mv (.c (.lf (.bool true)))), none⟩])
 .ret)))), [(.tmp 4)]⟩
def L81 : LFn := ⟨2, (.seq (.reg [⟨(.some 4), (.mv (.c (.lf (.int .i64 0)))), none⟩])
 (.seq (.seq (.reg [⟨(.some 5), (.mv (.c (.lf (.int .i64 0)))), none⟩])
 (.block 0 (.loop (.seq (.seq (.reg [⟨(.some 6), (.mv (.t 5)), none⟩, ⟨(.some 7), (.mv (.t 0)), none⟩, ⟨(.some 8), (.len (.t 7)), none⟩, ⟨(.some 9), (.bin .lss (.t 6) (.t 8)), none⟩])
 (.cond (.t 9) .skip (.exit 0)))
 (.seq (.block 1 (.seq (.reg [⟨(.some 12), (.mv (.t 0)), none⟩, ⟨(.some 13), (.mv (.t 5)), none⟩, ⟨(.some 14), (.mv (.t 1)), none⟩, ⟨(.some 15), (.toflt .f32 (.t 14)), none⟩, ⟨(.some 16), (.iaddr 4 (.t 12) (.t 13)), none⟩, ⟨(.some 17), (.faddr 0 (.t 16)), none⟩, ⟨none, (.store 1 (.t 17) (.t 15)), none⟩])
 (.seq (.reg [⟨(.some 18), (.mv (.t 1)), none⟩, ⟨(.some 19), (.bin .add (.t 18) (.c (.lf (.int .i64 1)))), none⟩, ⟨(.some 1), (.mv (.t 19)), none⟩])
 (.seq (.reg [⟨(.some 20), (.mv (.t 0)), none⟩, ⟨(.some 21), (.mv (.t 5)), none⟩, ⟨(.some 22), (.mv (.t 1)), none⟩, ⟨(.some 23), (.toflt .f32 (.t 22)), none⟩, ⟨(.some 24), (.iaddr 4 (.t 20) (.t 21)), none⟩, ⟨(.some 25), (.faddr 1 (.t 24)), none⟩, ⟨none, (.store 1 (.t 25) (.t 23)), none⟩])
 (.seq (.reg [⟨(.some 26), (.mv (.t 1)), none⟩, ⟨(.some 27), (.bin .add (.t 26) (.c (.lf (.int .i64 1)))), none⟩, ⟨(.some 1), (.mv (.t 27)), none⟩])
 (.seq (.reg [⟨(.some 28), (.mv (.t 0)), none⟩, ⟨(.some 29), (.mv (.t 5)), none⟩, ⟨(.some 30), (.mv (.t 1)), none⟩, ⟨(.some 31), (.toflt .f32 (.t 30)), none⟩, ⟨(.some 32), (.iaddr 4 (.t 28) (.t 29)), none⟩, ⟨(.some 33), (.faddr 2 (.t 32)), none⟩, ⟨none, (.store 1 (.t 33) (.t 31)), none⟩])
 (.seq (.reg [⟨(.some 34), (.mv (.t 1)), none⟩, ⟨(.some 35), (.bin .add (.t 34) (.c (.lf (.int .i64 1)))), none⟩, ⟨(.some 1), (.mv (.t 35)), none⟩])
 (.seq (.reg [⟨(.some 36), (.mv (.t 0)), none⟩, ⟨(.some 37), (.mv (.t 5)), none⟩, ⟨(.some 38), (.mv (.t 1)), none⟩, ⟨(.some 39), (.toflt .f32 (.t 38)), none⟩, ⟨(.some 40), (.iaddr 4 (.t 36) (.t 37)), none⟩, ⟨(.some 41), (.faddr 3 (.t 40)), none⟩, ⟨none, (.store 1 (.t 41) (.t 39)), none⟩])
 (.reg [⟨(.some 42), (.mv (.t 1)), none⟩, ⟨(.some 43), (.bin .add (.t 42) (.c (.lf (.int .i64 1)))), none⟩, ⟨(.some 1), (.mv (.t 43)), none⟩])))))))))
 (.reg [⟨(.some 10), (.mv (.t 5)), none⟩, ⟨(.some 11), (.bin .add (.t 10) (.c (.lf (.int .i64 1)))), none⟩, ⟨(.some 5), (.mv (.t 11)), none⟩]))))))
 (.seq (.reg [⟨(.some 44), (.mv (.t 1)), none⟩, ⟨(.some 4), (.mv (.t 44)), none⟩])
 .ret))), [(.tmp 4)]⟩
def L82 : LFn := ⟨2, (.seq (.reg [⟨(.some 4), (.mv (.c (.lf (.int .i64 0)))), none⟩])
 (.seq (.seq (.reg [⟨(.some 5), (.mv (.c (.lf (.int .i64 0)))), none⟩])
 (.block 0 (.loop (.seq (.seq (.reg [⟨(.some 6), (.mv (.t 5)), none⟩, ⟨(.some 7), (.mv (.t 0)), none⟩, ⟨(.some 8), (.len (.t 7)), none⟩, ⟨(.some 9), (.bin .lss (.t 6) (.t 8)), none⟩])
 (.cond (.t 9) .skip (.exit 0)))
 (.seq (.block 1 (.seq (.seq (.reg [⟨(.some 12), (.mv (.t 0)), none⟩, ⟨(.some 13), (.mv (.t 5)), none⟩, ⟨(.some 14), (.iaddr 4 (.t 12) (.t 13)), none⟩, ⟨(.some 15), (.faddr 0 (.t 14)), none⟩, ⟨(.some 16), (.load false 1 (.t 15)), none⟩, ⟨(.some 17), (.mv (.t 1)), none⟩, ⟨(.some 18), (.toflt .f32 (.t 17)), none⟩, ⟨(.some 19), (.bin .neq (.t 16) (.t 18)), none⟩])
 (.cond (.t 19) (.seq (.reg [⟨(.some 4), (.mv (.c (.lf (.int .i64 (-1))))), none⟩])
 .ret) .skip))
 (.seq (.reg [⟨(.some 20), (.mv (.t 1)), none⟩, ⟨(.some 21), (.bin .add (.t 20) (.c (.lf (.int .i64 1)))), none⟩, ⟨(.some 1), (.mv (.t 21)), none⟩])
 (.seq (.seq (.reg [⟨(.some 22), (.mv (.t 0)), none⟩, ⟨(.some 23), (.mv (.t 5)), none⟩, ⟨(.some 24), (.iaddr 4 (.t 22) (.t 23)), none⟩, ⟨(.some 25), (.faddr 1 (.t 24)), none⟩, ⟨(.some 26), (.load false 1 (.t 25)), none⟩, ⟨(.some 27), (.mv (.t 1)), none⟩, ⟨(.some 28), (.toflt .f32 (.t 27)), none⟩, ⟨(.some 29), (.bin .neq (.t 26) (.t 28)), none⟩])
 (.cond (.t 29) (.seq (.reg [⟨(.some 4), (.mv (.c (.lf (.int .i64 (-1))))), none⟩])
 .ret) .skip))
 (.seq (.reg [⟨(.some 30), (.mv (.t 1)), none⟩, ⟨(.some 31), (.bin .add (.t 30) (.c (.lf (.int .i64 1)))), none⟩, ⟨(.some 1), (.mv (.t 31)), none⟩])
 (.seq (.seq (.reg [⟨(.some 32), (.mv (.t 0)), none⟩, ⟨(.some 33), (.mv (.t 5)), none⟩, ⟨(.some 34), (.iaddr 4 (.t 32) (.t 33)), none⟩, ⟨(.some 35), (.faddr 2 (.t 34)), none⟩, ⟨(.some 36), (.load false 1 (.t 35)), none⟩, ⟨(.some 37), (.mv (.t 1)), none⟩, ⟨(.some 38), (.toflt .f32 (.t 37)), none⟩, ⟨(.some 39), (.bin .neq (.t 36) (.t 38)), none⟩])
 (.cond (.t 39) (.seq (.reg [⟨(.some 4), (.mv (.c (.lf (.int .i64 (-1))))), none⟩])
 .ret) .skip))
 (.seq (.reg [⟨(.some 40), (.mv (.t 1)), none⟩, ⟨(.some 41), (.bin .add (.t 40) (.c (.lf (.int .i64 1)))), none⟩, ⟨(.some 1), (.mv (.t 41)), none⟩])
 (.seq (.seq (.reg [⟨(.some 42), (.mv (.t 0)), none⟩, ⟨(.some 43), (.mv (.t 5)), none⟩, ⟨(.some 44), (.iaddr 4 (.t 42) (.t 43)), none⟩, ⟨(.some 45), (.faddr 3 (.t 44)), none⟩, ⟨(.some 46), (.load false 1 (.t 45)), none⟩, ⟨(.some 47), (.mv (.t 1)), none⟩, ⟨(.some 48), (.toflt .f32 (.t 47)), none⟩, ⟨(.some 49), (.bin .neq (.t 46) (.t 48)), none⟩])
 (.cond (.t 49) (.seq (.reg [⟨(.some 4), (.mv (.c (.lf (.int .i64 (-1))))), none⟩])
 .ret) .skip))
 (.reg [⟨(.some 50), (.mv (.t 1)), none⟩, ⟨(.some 51), (.bin .add (.t 50) (.c (.lf (.int .i64 1)))), none⟩, ⟨(.some 1), (.mv (.t 51)), none⟩])))))))))
 (.reg [⟨(.some 10), (.mv (.t 5)), none⟩, ⟨(.some 11), (.bin .add (.t 10) (.c (.lf (.int .i64 1)))), none⟩, ⟨(.some 5), (.mv (.t 11)), none⟩]))))))
 (.seq (.reg [⟨(.some 52), (.mv (.t 1)), none⟩, ⟨(.some 4), (.mv (.t 52)), none⟩])
 .ret))), [(.tmp 4)]⟩
class HasMs (S : Sys) : Prop extends HasSame S where
  f17 : S.fs 17 = some L17
  f21 : S.fs 21 = some L21
  f76 : S.fs 76 = some L76
  f73 : S.fs 73 = some L73
  f78 : S.fs 78 = some L78
  f81 : S.fs 81 = some L81
  f82 : S.fs 82 = some L82
theorem flat_setc {sz c : Nat} {v : Lf} : ∀ {rows : List (List Lf)} {i : Nat}, (∀ (i : Nat) (r : List Lf), rows[i]? = some r → r.length = sz) → (hi : i < rows.length) → c < sz → rows.flatten.set (i * sz + c) v = (rows.set i (rows[i].set c v)).flatten
  | [], i, _, hi, _ => by simp at hi
  | r :: rs, 0, hl, _, hc => by
    have h0 := hl 0 r rfl
    simp only [Nat.zero_mul, Nat.zero_add, List.flatten_cons, List.set_cons_zero, List.getElem_cons_zero]
    rw [List.set_append_left _ _ (by omega)]
  | r :: rs, i + 1, hl, hi, hc => by
    have h0 := hl 0 r rfl
    have ih := flat_setc (rows := rs) (i := i) (v := v) (fun j q hj => hl (j + 1) q (by simpa using hj)) (by simpa using hi) hc
    simp only [List.flatten_cons, List.set_cons_succ, List.getElem_cons_succ]
    rw [← ih, List.set_append_right _ _ (by rw [h0, Nat.succ_mul]; omega)]
    congr 2
    rw [h0, Nat.succ_mul]; omega
theorem set_len {rows : List (List Lf)} {i sz : Nat} {r : List Lf} (hl : ∀ (i : Nat) (r : List Lf), rows[i]? = some r → r.length = sz) (hr : r.length = sz) : ∀ (j : Nat) (q : List Lf), (rows.set i r)[j]? = some q → q.length = sz := by
  intro j q hj
  rw [List.getElem?_set] at hj
  split at hj
  · split at hj
    · injection hj with hj; subst hj; exact hr
    · cases hj
  · exact hl j q hj
theorem flat_set4 {rows : List (List Lf)} {i : Nat} {v0 v1 v2 v3 : Lf} (hl : ∀ (i : Nat) (r : List Lf), rows[i]? = some r → r.length = 4) (hi : i < rows.length) :
    (((rows.flatten.set (i * 4) v0).set (i * 4 + 1) v1).set (i * 4 + 2) v2).set (i * 4 + 3) v3 = (rows.set i [v0, v1, v2, v3]).flatten := by
  have hr : rows[i].length = 4 := hl i _ (List.getElem?_eq_getElem hi)
  obtain ⟨a0, a1, a2, a3, e⟩ : ∃ a0 a1 a2 a3, rows[i] = [a0, a1, a2, a3] := by
    match rows[i], hr with
    | [a0, a1, a2, a3], _ => exact ⟨a0, a1, a2, a3, rfl⟩
  have e0 := flat_setc (c := 0) (v := v0) hl hi (by omega)
  rw [Nat.add_zero] at e0
  rw [e0]
  have l1 := set_len (i := i) (r := rows[i].set 0 v0) hl (by simpa using hr)
  rw [flat_setc (c := 1) l1 (by simpa using hi) (by omega)]
  simp only [List.getElem_set_self, List.set_set]
  have l2 := set_len (i := i) (r := (rows[i].set 0 v0).set 1 v1) hl (by simpa using hr)
  rw [flat_setc (c := 2) l2 (by simpa using hi) (by omega)]
  simp only [List.getElem_set_self, List.set_set]
  have l3 := set_len (i := i) (r := ((rows[i].set 0 v0).set 1 v1).set 2 v2) hl (by simpa using hr)
  rw [flat_setc (c := 3) l3 (by simpa using hi) (by omega)]
  simp only [List.getElem_set_self, List.set_set, e]
  rfl
section
variable {S : Sys} {lim : Nat} {h : Hp} {K : CV → Hp → Prop} [HasFs S]
@[simp] theorem c_toFilter {x y z u v : Nat} : CallT S true 16 [.agg [.flt .f32 x, .flt .f32 y, .flt .f32 z, .flt .f32 u, .flt .f32 v]] h lim K = K (.agg [.flt .f32 x, .flt .f32 y, .flt .f32 z, .flt .f32 u, .flt .f32 v]) h := by
  refine CallT_pure (F := L16) (HasFs.f16) rfl (by first | rfl | (split <;> rfl) | simp) ?_; unfold L16; dsimp only []
  repeat' (first | (simp (disch := first | omega | assumption | (simp only [List.length_set]; omega) | (simp [*] <;> fail) | assumption) [-Bool.decide_and, -Bool.decide_or, -Bool.not_and, -Bool.not_or, toNat_pred, toNat_succ, wrap64, wr_new, wr_new0, ok_if, ok_ifn, iadV_sl, makeV_int, decT, decF, over_at, *]) | (with_reducible refine Gd_split (fun hc => ?_) (fun hc => ?_) <;> (have hc2 := hc; try simp at hc2)) | (with_reducible refine Br_split (fun hc => ?_) (fun hc => ?_) <;> (have hc2 := hc; try simp at hc2)) | (with_reducible refine GdT_split (fun hc => ?_) (fun hc => ?_) <;> (have hc2 := hc; try simp at hc2)) | (with_reducible refine WT_alt ?_ ?_) | omega)
@[simp] theorem c_eqFilter {x y z u v : Nat} : CallT S true 146 [.agg [.flt .f32 x, .flt .f32 y, .flt .f32 z, .flt .f32 u, .flt .f32 v], .agg [.flt .f32 x, .flt .f32 y, .flt .f32 z, .flt .f32 u, .flt .f32 v]] h lim K = K (.lf (.bool true)) h := by
  refine CallT_pure (F := L146) (HasFs.f146) rfl (by first | rfl | (split <;> rfl) | simp) ?_; unfold L146; dsimp only []
  repeat' (first | (simp (disch := first | omega | assumption | (simp only [List.length_set]; omega) | (simp [*] <;> fail) | assumption) [-Bool.decide_and, -Bool.decide_or, -Bool.not_and, -Bool.not_or, toNat_pred, toNat_succ, wrap64, wr_new, wr_new0, ok_if, ok_ifn, iadV_sl, makeV_int, decT, decF, over_at, *]) | (with_reducible refine Gd_split (fun hc => ?_) (fun hc => ?_) <;> (have hc2 := hc; try simp at hc2)) | (with_reducible refine Br_split (fun hc => ?_) (fun hc => ?_) <;> (have hc2 := hc; try simp at hc2)) | (with_reducible refine GdT_split (fun hc => ?_) (fun hc => ?_) <;> (have hc2 := hc; try simp at hc2)) | (with_reducible refine WT_alt ?_ ?_) | omega)
theorem c_szFilterS {l : Lf} {xs : List Fil} (hA : Arr h l 5 (xs.map Fil.cells)) {b : Int} (h1 : 0 ≤ b) (h2 : b ≤ 9223372036854775807) : CallT S true 72 [.lf l, .lf (.int .i64 b)] h lim K = K (.lf (.int .i64 (if b < xs.length then -1 else b - xs.length))) h := by
  have hb := hA.bound
  refine CallT_pure (F := L72) (HasFs.f72) rfl (by first | rfl | (split <;> rfl) | simp) ?_; unfold L72; dsimp only []
  repeat' (first | (simp (disch := first | omega | assumption | (simp only [List.length_set]; omega) | (simp [*] <;> fail) | assumption) [-Bool.decide_and, -Bool.decide_or, -Bool.not_and, -Bool.not_or, toNat_pred, toNat_succ, wrap64, wr_new, wr_new0, ok_if, ok_ifn, iadV_sl, makeV_int, decT, decF, over_at, *, hA.len, hA.at_, hA.at_', hA.rd, hA.rdIn, hA.rdIn0, hA.rdA, hA.rdInA, hA.rdIn0A]) | (with_reducible refine Gd_split (fun hc => ?_) (fun hc => ?_) <;> (have hc2 := hc; try simp at hc2)) | (with_reducible refine Br_split (fun hc => ?_) (fun hc => ?_) <;> (have hc2 := hc; try simp at hc2)) | (with_reducible refine GdT_split (fun hc => ?_) (fun hc => ?_) <;> (have hc2 := hc; try simp at hc2)) | (with_reducible refine WT_alt ?_ ?_) | omega)
theorem c_eqFilterS {l l2 : Lf} {xs : List Fil} (hA : Arr h l 5 (xs.map Fil.cells)) (hA2 : Arr h l2 5 (xs.map Fil.cells)) : CallT S true 79 [.lf l, .lf l2] h lim K = K (.lf (.bool true)) h := by
  have hb := hA.bound
  refine CallT_pure (F := L79) (HasFs.f79) rfl (by first | rfl | (split <;> rfl) | simp) ?_; unfold L79; dsimp only []
  repeat' (first | (simp (disch := first | omega | assumption | (simp only [List.length_set]; omega) | (simp [*] <;> fail) | assumption) [-Bool.decide_and, -Bool.decide_or, -Bool.not_and, -Bool.not_or, toNat_pred, toNat_succ, wrap64, wr_new, wr_new0, ok_if, ok_ifn, iadV_sl, makeV_int, decT, decF, over_at, *, hA.len, hA.at_, hA.at_', hA.rd, hA.rdIn, hA.rdIn0, hA.rdA, hA.rdInA, hA.rdIn0A, hA2.len, hA2.at_, hA2.at_', hA2.rd, hA2.rdIn, hA2.rdIn0, hA2.rdA, hA2.rdInA, hA2.rdIn0A]) | (with_reducible refine Gd_split (fun hc => ?_) (fun hc => ?_) <;> (have hc2 := hc; try simp at hc2)) | (with_reducible refine Br_split (fun hc => ?_) (fun hc => ?_) <;> (have hc2 := hc; try simp at hc2)) | (with_reducible refine GdT_split (fun hc => ?_) (fun hc => ?_) <;> (have hc2 := hc; try simp at hc2)) | (with_reducible refine WT_alt ?_ ?_) | omega)
  refine WL_for xs.length (fun i a' h' => i ≤ xs.length ∧ a' 0 = .lf l ∧ a' 1 = .lf l2 ∧ a' 5 = .lf (.int .i64 i) ∧ h' = h) (fun i a' h' hi => hi.1) ?_ (by simp)
  rintro i a' h' ⟨hi, e0, e1, e5, rfl⟩
  by_cases hlt : i < xs.length
  · repeat' (first | (simp (disch := first | omega | assumption | (simp only [List.length_set]; omega) | (simp [*] <;> fail) | assumption) [-Bool.decide_and, -Bool.decide_or, -Bool.not_and, -Bool.not_or, toNat_pred, toNat_succ, wrap64, wr_new, wr_new0, ok_if, ok_ifn, iadV_sl, makeV_int, decT, decF, over_at, *, hA.len, hA.at_, hA.at_', hA.rd, hA.rdIn, hA.rdIn0, hA.rdA, hA.rdInA, hA.rdIn0A, hA2.len, hA2.at_, hA2.at_', hA2.rd, hA2.rdIn, hA2.rdIn0, hA2.rdA, hA2.rdInA, hA2.rdIn0A, Fil.cells]) | (with_reducible refine Gd_split (fun hc => ?_) (fun hc => ?_) <;> (have hc2 := hc; try simp at hc2)) | (with_reducible refine Br_split (fun hc => ?_) (fun hc => ?_) <;> (have hc2 := hc; try simp at hc2)) | (with_reducible refine GdT_split (fun hc => ?_) (fun hc => ?_) <;> (have hc2 := hc; try simp at hc2)) | (with_reducible refine WT_alt ?_ ?_) | omega)
  · repeat' (first | (simp (disch := first | omega | assumption | (simp only [List.length_set]; omega) | (simp [*] <;> fail) | assumption) [-Bool.decide_and, -Bool.decide_or, -Bool.not_and, -Bool.not_or, toNat_pred, toNat_succ, wrap64, wr_new, wr_new0, ok_if, ok_ifn, iadV_sl, makeV_int, decT, decF, over_at, *, hA.len, hA.at_, hA.at_', hA.rd, hA.rdIn, hA.rdIn0, hA.rdA, hA.rdInA, hA.rdIn0A, hA2.len, hA2.at_, hA2.at_', hA2.rd, hA2.rdIn, hA2.rdIn0, hA2.rdA, hA2.rdInA, hA2.rdIn0A, Fil.cells]) | (with_reducible refine Gd_split (fun hc => ?_) (fun hc => ?_) <;> (have hc2 := hc; try simp at hc2)) | (with_reducible refine Br_split (fun hc => ?_) (fun hc => ?_) <;> (have hc2 := hc; try simp at hc2)) | (with_reducible refine GdT_split (fun hc => ?_) (fun hc => ?_) <;> (have hc2 := hc; try simp at hc2)) | (with_reducible refine WT_alt ?_ ?_) | omega)
theorem c_toFilterS {l : Lf} {xs : List Fil} (hA : Arr h l 5 (xs.map Fil.cells)) (hn : xs.length ≤ 16777216) (hl : lim ≤ h.length) (hK : ∀ l' g, New h g l' 31 5 (xs.map Fil.cells) → K (.lf l') g) : CallT S false 75 [.lf l] h lim K := by
  have hb := hA.bound
  refine CallT_of_body (F := L75) (HasFs.f75) rfl ?_; unfold L75; dsimp only []
  repeat' (first | (simp (disch := first | omega | assumption | (simp only [List.length_set]; omega) | (simp [*] <;> fail) | assumption) [-Bool.decide_and, -Bool.decide_or, -Bool.not_and, -Bool.not_or, toNat_pred, toNat_succ, wrap64, wr_new, wr_new0, ok_if, ok_ifn, iadV_sl, makeV_int, decT, decF, over_at, *, hA.len, hA.at_, hA.at_', hA.rd, hA.rdIn, hA.rdIn0, hA.rdA, hA.rdInA, hA.rdIn0A]) | (with_reducible refine Gd_split (fun hc => ?_) (fun hc => ?_) <;> (have hc2 := hc; try simp at hc2)) | (with_reducible refine Br_split (fun hc => ?_) (fun hc => ?_) <;> (have hc2 := hc; try simp at hc2)) | (with_reducible refine GdT_split (fun hc => ?_) (fun hc => ?_) <;> (have hc2 := hc; try simp at hc2)) | (with_reducible refine WT_alt ?_ ?_) | omega)
  refine WL_for xs.length (fun i a' g => i ≤ xs.length ∧ a' 0 = .lf l ∧ a' 3 = .lf (.sl h.length 0 xs.length 5) ∧ a' 4 = .lf (.int .i64 i) ∧ Kept h g ∧ Sl g h.length 31 5 (filled (nth (xs.map Fil.cells)) [.flt .f32 0, .flt .f32 0, .flt .f32 0, .flt .f32 0, .flt .f32 0] xs.length i)) (fun i a' h' hi => hi.1) ?_ ⟨by omega, by simp, by simp, by simp, Kept.app _ _, Sl.step0 rfl⟩
  rintro i a' g ⟨hi, e0, e3, e4, hk, hs⟩
  replace hA := hA.kept hk
  by_cases hlt : i < xs.length
  · repeat' (first | (simp (disch := first | omega | assumption | (simp only [List.length_set]; omega) | (simp [*] <;> fail) | assumption) [-Bool.decide_and, -Bool.decide_or, -Bool.not_and, -Bool.not_or, toNat_pred, toNat_succ, wrap64, wr_new, wr_new0, ok_if, ok_ifn, iadV_sl, makeV_int, decT, decF, over_at, *, hA.len, hA.at_, hA.at_', hA.rd, hA.rdIn, hA.rdIn0, hA.rdA, hA.rdInA, hA.rdIn0A, Fil.cells, hs.wr]) | (with_reducible refine Gd_split (fun hc => ?_) (fun hc => ?_) <;> (have hc2 := hc; try simp at hc2)) | (with_reducible refine Br_split (fun hc => ?_) (fun hc => ?_) <;> (have hc2 := hc; try simp at hc2)) | (with_reducible refine GdT_split (fun hc => ?_) (fun hc => ?_) <;> (have hc2 := hc; try simp at hc2)) | (with_reducible refine WT_alt ?_ ?_) | omega)
    exact ⟨hlt, hk.set (Nat.le_refl _), hs.step (by rw [nth_map hlt]; rfl) rfl⟩
  · have : i = xs.length := by omega
    subst this
    repeat' (first | (simp (disch := first | omega | assumption | (simp only [List.length_set]; omega) | (simp [*] <;> fail) | assumption) [-Bool.decide_and, -Bool.decide_or, -Bool.not_and, -Bool.not_or, toNat_pred, toNat_succ, wrap64, wr_new, wr_new0, ok_if, ok_ifn, iadV_sl, makeV_int, decT, decF, over_at, *, hA.len, hA.at_, hA.at_', hA.rd, hA.rdIn, hA.rdIn0, hA.rdA, hA.rdInA, hA.rdIn0A]) | (with_reducible refine Gd_split (fun hc => ?_) (fun hc => ?_) <;> (have hc2 := hc; try simp at hc2)) | (with_reducible refine Br_split (fun hc => ?_) (fun hc => ?_) <;> (have hc2 := hc; try simp at hc2)) | (with_reducible refine GdT_split (fun hc => ?_) (fun hc => ?_) <;> (have hc2 := hc; try simp at hc2)) | (with_reducible refine WT_alt ?_ ?_) | omega)
    exact hK _ _ (New.filled hk hs (by simp) (Nat.le_refl _) (by simpa using hb))

/-- What is handed in is written over: nothing else changes. -/
theorem c_markFilterS {g : Hp} {l : Lf} {rows : List (List Lf)} {k : Int} (hN : New h g l 31 5 rows) (hn : rows.length ≤ 16777216) (h0 : 0 ≤ k) (h1 : k ≤ 1099511627776) (hl : lim ≤ h.length) (hK : ∀ g', But g g' l l → K (.lf (.int .i64 (k + 5 * rows.length))) g') : CallT S false 80 [.lf l, .lf (.int .i64 k)] g lim K := by
  rcases hN.own with ⟨rfl, rfl⟩ | ⟨id, rfl, h2, h3⟩
  · refine CallT_of_body (F := L80) (HasFs.f80) rfl ?_; unfold L80; dsimp only []
    repeat' (first | (simp (disch := first | omega | assumption | (simp only [List.length_set]; omega) | (simp [*] <;> fail) | assumption) [-Bool.decide_and, -Bool.decide_or, -Bool.not_and, -Bool.not_or, toNat_pred, toNat_succ, wrap64, wr_new, wr_new0, ok_if, ok_ifn, iadV_sl, makeV_int, decT, decF, over_at, *]) | (with_reducible refine Gd_split (fun hc => ?_) (fun hc => ?_) <;> (have hc2 := hc; try simp at hc2)) | (with_reducible refine Br_split (fun hc => ?_) (fun hc => ?_) <;> (have hc2 := hc; try simp at hc2)) | (with_reducible refine GdT_split (fun hc => ?_) (fun hc => ?_) <;> (have hc2 := hc; try simp at hc2)) | (with_reducible refine WT_alt ?_ ?_) | omega)
    refine WL_forM 4503599627370466 (by decide +kernel) (0) (fun i b g' => i ≤ 0 ∧ b 1 = .lf (.int .i64 k) ∧ b 5 = .lf (.int .i64 i) ∧ g' = g) (fun _ _ _ hi => hi.1) ⟨by simp, by simp, by simp, rfl⟩ ?_
    rintro i b g' ⟨hi, e1, e5, rfl⟩
    have : i = 0 := by omega
    subst this
    repeat' (first | (simp (disch := first | omega | assumption | (simp only [List.length_set]; omega) | (simp [*] <;> fail) | assumption) [-Bool.decide_and, -Bool.decide_or, -Bool.not_and, -Bool.not_or, toNat_pred, toNat_succ, wrap64, wr_new, wr_new0, ok_if, ok_ifn, iadV_sl, makeV_int, decT, decF, over_at, *]) | (with_reducible refine Gd_split (fun hc => ?_) (fun hc => ?_) <;> (have hc2 := hc; try simp at hc2)) | (with_reducible refine Br_split (fun hc => ?_) (fun hc => ?_) <;> (have hc2 := hc; try simp at hc2)) | (with_reducible refine GdT_split (fun hc => ?_) (fun hc => ?_) <;> (have hc2 := hc; try simp at hc2)) | (with_reducible refine WT_alt ?_ ?_) | omega)
    simpa using hK g' ⟨Nat.le_refl _, fun _ _ _ => rfl, .inl rfl⟩
  · have hfl := flat_len h3.len
    have hlt := h3.lt
    refine CallT_of_body (F := L80) (HasFs.f80) rfl ?_; unfold L80; dsimp only []
    repeat' (first | (simp (disch := first | omega | assumption | (simp only [List.length_set]; omega) | (simp [*] <;> fail) | assumption) [-Bool.decide_and, -Bool.decide_or, -Bool.not_and, -Bool.not_or, toNat_pred, toNat_succ, wrap64, wr_new, wr_new0, ok_if, ok_ifn, iadV_sl, makeV_int, decT, decF, over_at, *]) | (with_reducible refine Gd_split (fun hc => ?_) (fun hc => ?_) <;> (have hc2 := hc; try simp at hc2)) | (with_reducible refine Br_split (fun hc => ?_) (fun hc => ?_) <;> (have hc2 := hc; try simp at hc2)) | (with_reducible refine GdT_split (fun hc => ?_) (fun hc => ?_) <;> (have hc2 := hc; try simp at hc2)) | (with_reducible refine WT_alt ?_ ?_) | omega)
    refine WL_forM 4503599627370466 (by decide +kernel) (rows.length) (fun i b g' => i ≤ rows.length ∧ b 1 = .lf (.int .i64 (k + 5 * i)) ∧ b 5 = .lf (.int .i64 i) ∧ But g g' (.sl id 0 rows.length 5) (.sl id 0 rows.length 5) ∧ ∃ cs, g'[id]? = some ⟨cs, .own 31 5⟩ ∧ cs.length = rows.length * 5) (fun _ _ _ hi => hi.1) ⟨by omega, by simp, by simp, ⟨Nat.le_refl _, fun _ _ _ => rfl, .inl rfl⟩, _, h3.get, hfl⟩ ?_
    rintro i b g' ⟨hi, e1, e5, hB, cs, hg, hcs⟩
    have hlt2 : id < g'.length := (List.getElem?_eq_some_iff.1 hg).1
    by_cases hi2 : i < rows.length
    · clear hK
      repeat' (first | (simp (disch := first | omega | assumption | (simp only [List.length_set]; omega) | (simp [*] <;> fail) | assumption) [-Bool.decide_and, -Bool.decide_or, -Bool.not_and, -Bool.not_or, toNat_pred, toNat_succ, wrap64, wr_new, wr_new0, ok_if, ok_ifn, iadV_sl, makeV_int, decT, decF, over_at, *, wr_get1 hg, wr_set1]) | (with_reducible refine Gd_split (fun hc => ?_) (fun hc => ?_) <;> (have hc2 := hc; try simp at hc2)) | (with_reducible refine Br_split (fun hc => ?_) (fun hc => ?_) <;> (have hc2 := hc; try simp at hc2)) | (with_reducible refine GdT_split (fun hc => ?_) (fun hc => ?_) <;> (have hc2 := hc; try simp at hc2)) | (with_reducible refine WT_alt ?_ ?_) | omega)
      all_goals ((repeat' apply And.intro) <;> first | omega | exact hB.set | exact ⟨_, List.getElem?_set_self hlt2, by simp only [List.length_set]; exact hcs⟩ | (simp; omega) | trace_state)
    · have : i = rows.length := by omega
      subst this
      repeat' (first | (simp (disch := first | omega | assumption | (simp only [List.length_set]; omega) | (simp [*] <;> fail) | assumption) [-Bool.decide_and, -Bool.decide_or, -Bool.not_and, -Bool.not_or, toNat_pred, toNat_succ, wrap64, wr_new, wr_new0, ok_if, ok_ifn, iadV_sl, makeV_int, decT, decF, over_at, *]) | (with_reducible refine Gd_split (fun hc => ?_) (fun hc => ?_) <;> (have hc2 := hc; try simp at hc2)) | (with_reducible refine Br_split (fun hc => ?_) (fun hc => ?_) <;> (have hc2 := hc; try simp at hc2)) | (with_reducible refine GdT_split (fun hc => ?_) (fun hc => ?_) <;> (have hc2 := hc; try simp at hc2)) | (with_reducible refine WT_alt ?_ ?_) | omega)
      all_goals exact hK g' hB

end
section
variable {S : Sys} {lim : Nat} {h : Hp} {K : CV → Hp → Prop} [HasMs S]
@[simp] theorem c_toMemory {x y z u : Nat} : CallT S true 17 [.agg [.flt .f32 x, .flt .f32 y, .flt .f32 z, .flt .f32 u]] h lim K = K (.agg [.flt .f32 x, .flt .f32 y, .flt .f32 z, .flt .f32 u]) h := by
  refine CallT_pure (F := L17) (HasMs.f17) rfl (by first | rfl | (split <;> rfl) | simp) ?_; unfold L17; dsimp only []
  repeat' (first | (simp (disch := first | omega | assumption | (simp only [List.length_set]; omega) | (simp [*] <;> fail) | assumption) [-Bool.decide_and, -Bool.decide_or, -Bool.not_and, -Bool.not_or, toNat_pred, toNat_succ, wrap64, wr_new, wr_new0, ok_if, ok_ifn, iadV_sl, makeV_int, decT, decF, over_at, *]) | (with_reducible refine Gd_split (fun hc => ?_) (fun hc => ?_) <;> (have hc2 := hc; try simp at hc2)) | (with_reducible refine Br_split (fun hc => ?_) (fun hc => ?_) <;> (have hc2 := hc; try simp at hc2)) | (with_reducible refine GdT_split (fun hc => ?_) (fun hc => ?_) <;> (have hc2 := hc; try simp at hc2)) | (with_reducible refine WT_alt ?_ ?_) | omega)
@[simp] theorem c_eqMemory {x y z u : Nat} : CallT S true 21 [.agg [.flt .f32 x, .flt .f32 y, .flt .f32 z, .flt .f32 u], .agg [.flt .f32 x, .flt .f32 y, .flt .f32 z, .flt .f32 u]] h lim K = K (.lf (.bool true)) h := by
  refine CallT_pure (F := L21) (HasMs.f21) rfl (by first | rfl | (split <;> rfl) | simp) ?_; unfold L21; dsimp only []
  repeat' (first | (simp (disch := first | omega | assumption | (simp only [List.length_set]; omega) | (simp [*] <;> fail) | assumption) [-Bool.decide_and, -Bool.decide_or, -Bool.not_and, -Bool.not_or, toNat_pred, toNat_succ, wrap64, wr_new, wr_new0, ok_if, ok_ifn, iadV_sl, makeV_int, decT, decF, over_at, *]) | (with_reducible refine Gd_split (fun hc => ?_) (fun hc => ?_) <;> (have hc2 := hc; try simp at hc2)) | (with_reducible refine Br_split (fun hc => ?_) (fun hc => ?_) <;> (have hc2 := hc; try simp at hc2)) | (with_reducible refine GdT_split (fun hc => ?_) (fun hc => ?_) <;> (have hc2 := hc; try simp at hc2)) | (with_reducible refine WT_alt ?_ ?_) | omega)
theorem c_szMemoryS {l : Lf} {xs : List Mem} (hA : Arr h l 4 (xs.map Mem.cells)) {b : Int} (h1 : 0 ≤ b) (h2 : b ≤ 9223372036854775807) : CallT S true 73 [.lf l, .lf (.int .i64 b)] h lim K = K (.lf (.int .i64 (if b < xs.length then -1 else b - xs.length))) h := by
  have hb := hA.bound
  refine CallT_pure (F := L73) (HasMs.f73) rfl (by first | rfl | (split <;> rfl) | simp) ?_; unfold L73; dsimp only []
  repeat' (first | (simp (disch := first | omega | assumption | (simp only [List.length_set]; omega) | (simp [*] <;> fail) | assumption) [-Bool.decide_and, -Bool.decide_or, -Bool.not_and, -Bool.not_or, toNat_pred, toNat_succ, wrap64, wr_new, wr_new0, ok_if, ok_ifn, iadV_sl, makeV_int, decT, decF, over_at, *, hA.len, hA.at_, hA.at_', hA.rd, hA.rdIn, hA.rdIn0, hA.rdA, hA.rdInA, hA.rdIn0A]) | (with_reducible refine Gd_split (fun hc => ?_) (fun hc => ?_) <;> (have hc2 := hc; try simp at hc2)) | (with_reducible refine Br_split (fun hc => ?_) (fun hc => ?_) <;> (have hc2 := hc; try simp at hc2)) | (with_reducible refine GdT_split (fun hc => ?_) (fun hc => ?_) <;> (have hc2 := hc; try simp at hc2)) | (with_reducible refine WT_alt ?_ ?_) | omega)
theorem c_eqMemoryS {l l2 : Lf} {xs : List Mem} (hA : Arr h l 4 (xs.map Mem.cells)) (hA2 : Arr h l2 4 (xs.map Mem.cells)) : CallT S true 78 [.lf l, .lf l2] h lim K = K (.lf (.bool true)) h := by
  have hb := hA.bound
  refine CallT_pure (F := L78) (HasMs.f78) rfl (by first | rfl | (split <;> rfl) | simp) ?_; unfold L78; dsimp only []
  repeat' (first | (simp (disch := first | omega | assumption | (simp only [List.length_set]; omega) | (simp [*] <;> fail) | assumption) [-Bool.decide_and, -Bool.decide_or, -Bool.not_and, -Bool.not_or, toNat_pred, toNat_succ, wrap64, wr_new, wr_new0, ok_if, ok_ifn, iadV_sl, makeV_int, decT, decF, over_at, *, hA.len, hA.at_, hA.at_', hA.rd, hA.rdIn, hA.rdIn0, hA.rdA, hA.rdInA, hA.rdIn0A, hA2.len, hA2.at_, hA2.at_', hA2.rd, hA2.rdIn, hA2.rdIn0, hA2.rdA, hA2.rdInA, hA2.rdIn0A]) | (with_reducible refine Gd_split (fun hc => ?_) (fun hc => ?_) <;> (have hc2 := hc; try simp at hc2)) | (with_reducible refine Br_split (fun hc => ?_) (fun hc => ?_) <;> (have hc2 := hc; try simp at hc2)) | (with_reducible refine GdT_split (fun hc => ?_) (fun hc => ?_) <;> (have hc2 := hc; try simp at hc2)) | (with_reducible refine WT_alt ?_ ?_) | omega)
  refine WL_for xs.length (fun i a' h' => i ≤ xs.length ∧ a' 0 = .lf l ∧ a' 1 = .lf l2 ∧ a' 5 = .lf (.int .i64 i) ∧ h' = h) (fun i a' h' hi => hi.1) ?_ (by simp)
  rintro i a' h' ⟨hi, e0, e1, e5, rfl⟩
  by_cases hlt : i < xs.length
  · repeat' (first | (simp (disch := first | omega | assumption | (simp only [List.length_set]; omega) | (simp [*] <;> fail) | assumption) [-Bool.decide_and, -Bool.decide_or, -Bool.not_and, -Bool.not_or, toNat_pred, toNat_succ, wrap64, wr_new, wr_new0, ok_if, ok_ifn, iadV_sl, makeV_int, decT, decF, over_at, *, hA.len, hA.at_, hA.at_', hA.rd, hA.rdIn, hA.rdIn0, hA.rdA, hA.rdInA, hA.rdIn0A, hA2.len, hA2.at_, hA2.at_', hA2.rd, hA2.rdIn, hA2.rdIn0, hA2.rdA, hA2.rdInA, hA2.rdIn0A, Mem.cells]) | (with_reducible refine Gd_split (fun hc => ?_) (fun hc => ?_) <;> (have hc2 := hc; try simp at hc2)) | (with_reducible refine Br_split (fun hc => ?_) (fun hc => ?_) <;> (have hc2 := hc; try simp at hc2)) | (with_reducible refine GdT_split (fun hc => ?_) (fun hc => ?_) <;> (have hc2 := hc; try simp at hc2)) | (with_reducible refine WT_alt ?_ ?_) | omega)
  · repeat' (first | (simp (disch := first | omega | assumption | (simp only [List.length_set]; omega) | (simp [*] <;> fail) | assumption) [-Bool.decide_and, -Bool.decide_or, -Bool.not_and, -Bool.not_or, toNat_pred, toNat_succ, wrap64, wr_new, wr_new0, ok_if, ok_ifn, iadV_sl, makeV_int, decT, decF, over_at, *, hA.len, hA.at_, hA.at_', hA.rd, hA.rdIn, hA.rdIn0, hA.rdA, hA.rdInA, hA.rdIn0A, hA2.len, hA2.at_, hA2.at_', hA2.rd, hA2.rdIn, hA2.rdIn0, hA2.rdA, hA2.rdInA, hA2.rdIn0A, Mem.cells]) | (with_reducible refine Gd_split (fun hc => ?_) (fun hc => ?_) <;> (have hc2 := hc; try simp at hc2)) | (with_reducible refine Br_split (fun hc => ?_) (fun hc => ?_) <;> (have hc2 := hc; try simp at hc2)) | (with_reducible refine GdT_split (fun hc => ?_) (fun hc => ?_) <;> (have hc2 := hc; try simp at hc2)) | (with_reducible refine WT_alt ?_ ?_) | omega)
theorem c_toMemoryS {l : Lf} {xs : List Mem} (hA : Arr h l 4 (xs.map Mem.cells)) (hn : xs.length ≤ 16777216) (hl : lim ≤ h.length) (hK : ∀ l' g, New h g l' 28 4 (xs.map Mem.cells) → K (.lf l') g) : CallT S false 76 [.lf l] h lim K := by
  have hb := hA.bound
  refine CallT_of_body (F := L76) (HasMs.f76) rfl ?_; unfold L76; dsimp only []
  repeat' (first | (simp (disch := first | omega | assumption | (simp only [List.length_set]; omega) | (simp [*] <;> fail) | assumption) [-Bool.decide_and, -Bool.decide_or, -Bool.not_and, -Bool.not_or, toNat_pred, toNat_succ, wrap64, wr_new, wr_new0, ok_if, ok_ifn, iadV_sl, makeV_int, decT, decF, over_at, *, hA.len, hA.at_, hA.at_', hA.rd, hA.rdIn, hA.rdIn0, hA.rdA, hA.rdInA, hA.rdIn0A]) | (with_reducible refine Gd_split (fun hc => ?_) (fun hc => ?_) <;> (have hc2 := hc; try simp at hc2)) | (with_reducible refine Br_split (fun hc => ?_) (fun hc => ?_) <;> (have hc2 := hc; try simp at hc2)) | (with_reducible refine GdT_split (fun hc => ?_) (fun hc => ?_) <;> (have hc2 := hc; try simp at hc2)) | (with_reducible refine WT_alt ?_ ?_) | omega)
  refine WL_for xs.length (fun i a' g => i ≤ xs.length ∧ a' 0 = .lf l ∧ a' 3 = .lf (.sl h.length 0 xs.length 4) ∧ a' 4 = .lf (.int .i64 i) ∧ Kept h g ∧ Sl g h.length 28 4 (filled (nth (xs.map Mem.cells)) [.flt .f32 0, .flt .f32 0, .flt .f32 0, .flt .f32 0] xs.length i)) (fun i a' h' hi => hi.1) ?_ ⟨by omega, by simp, by simp, by simp, Kept.app _ _, Sl.step0 rfl⟩
  rintro i a' g ⟨hi, e0, e3, e4, hk, hs⟩
  replace hA := hA.kept hk
  by_cases hlt : i < xs.length
  · repeat' (first | (simp (disch := first | omega | assumption | (simp only [List.length_set]; omega) | (simp [*] <;> fail) | assumption) [-Bool.decide_and, -Bool.decide_or, -Bool.not_and, -Bool.not_or, toNat_pred, toNat_succ, wrap64, wr_new, wr_new0, ok_if, ok_ifn, iadV_sl, makeV_int, decT, decF, over_at, *, hA.len, hA.at_, hA.at_', hA.rd, hA.rdIn, hA.rdIn0, hA.rdA, hA.rdInA, hA.rdIn0A, Mem.cells, hs.wr]) | (with_reducible refine Gd_split (fun hc => ?_) (fun hc => ?_) <;> (have hc2 := hc; try simp at hc2)) | (with_reducible refine Br_split (fun hc => ?_) (fun hc => ?_) <;> (have hc2 := hc; try simp at hc2)) | (with_reducible refine GdT_split (fun hc => ?_) (fun hc => ?_) <;> (have hc2 := hc; try simp at hc2)) | (with_reducible refine WT_alt ?_ ?_) | omega)
    exact ⟨hlt, hk.set (Nat.le_refl _), hs.step (by rw [nth_map hlt]; rfl) rfl⟩
  · have : i = xs.length := by omega
    subst this
    repeat' (first | (simp (disch := first | omega | assumption | (simp only [List.length_set]; omega) | (simp [*] <;> fail) | assumption) [-Bool.decide_and, -Bool.decide_or, -Bool.not_and, -Bool.not_or, toNat_pred, toNat_succ, wrap64, wr_new, wr_new0, ok_if, ok_ifn, iadV_sl, makeV_int, decT, decF, over_at, *, hA.len, hA.at_, hA.at_', hA.rd, hA.rdIn, hA.rdIn0, hA.rdA, hA.rdInA, hA.rdIn0A]) | (with_reducible refine Gd_split (fun hc => ?_) (fun hc => ?_) <;> (have hc2 := hc; try simp at hc2)) | (with_reducible refine Br_split (fun hc => ?_) (fun hc => ?_) <;> (have hc2 := hc; try simp at hc2)) | (with_reducible refine GdT_split (fun hc => ?_) (fun hc => ?_) <;> (have hc2 := hc; try simp at hc2)) | (with_reducible refine WT_alt ?_ ?_) | omega)
    exact hK _ _ (New.filled hk hs (by simp) (Nat.le_refl _) (by simpa using hb))

def markOfMemoryS (k : Int) (j : Nat) : Mem := ⟨fofint .f32 (k + 4 * (j : Int)), fofint .f32 (k + 4 * (j : Int) + 1), fofint .f32 (k + 4 * (j : Int) + 1 + 1), fofint .f32 (k + 4 * (j : Int) + 1 + 1 + 1)⟩
def marksMemoryS (k : Int) (n : Nat) : List Mem := tabTo (markOfMemoryS k) n
@[simp] theorem marksMemoryS_len {k : Int} {n : Nat} : (marksMemoryS k n).length = n := tabTo_len
theorem c_markMemoryS {g : Hp} {l : Lf} {rows : List (List Lf)} {k : Int} (hN : New h g l 28 4 rows) (hn : rows.length ≤ 16777216) (h0 : 0 ≤ k) (h1 : k ≤ 1099511627776) (hl : lim ≤ h.length) (hK : ∀ g', New h g' l 28 4 ((marksMemoryS k rows.length).map Mem.cells) → But g g' l l → K (.lf (.int .i64 (k + 4 * rows.length))) g') : CallT S false 81 [.lf l, .lf (.int .i64 k)] g lim K := by
  rcases hN.own with ⟨rfl, rfl⟩ | ⟨id, rfl, h2, h3⟩
  · refine CallT_of_body (F := L81) (HasMs.f81) rfl ?_; unfold L81; dsimp only []
    repeat' (first | (simp (disch := first | omega | assumption | (simp only [List.length_set]; omega) | (simp [*] <;> fail) | assumption) [-Bool.decide_and, -Bool.decide_or, -Bool.not_and, -Bool.not_or, toNat_pred, toNat_succ, wrap64, wr_new, wr_new0, ok_if, ok_ifn, iadV_sl, makeV_int, decT, decF, over_at, *]) | (with_reducible refine Gd_split (fun hc => ?_) (fun hc => ?_) <;> (have hc2 := hc; try simp at hc2)) | (with_reducible refine Br_split (fun hc => ?_) (fun hc => ?_) <;> (have hc2 := hc; try simp at hc2)) | (with_reducible refine GdT_split (fun hc => ?_) (fun hc => ?_) <;> (have hc2 := hc; try simp at hc2)) | (with_reducible refine WT_alt ?_ ?_) | omega)
    refine WL_forM 17592186044386 (by decide +kernel) (0) (fun i b g' => i ≤ 0 ∧ b 1 = .lf (.int .i64 k) ∧ b 5 = .lf (.int .i64 i) ∧ g' = g) (fun _ _ _ hi => hi.1) ⟨by simp, by simp, by simp, rfl⟩ ?_
    rintro i b g' ⟨hi, e1, e5, rfl⟩
    have : i = 0 := by omega
    subst this
    repeat' (first | (simp (disch := first | omega | assumption | (simp only [List.length_set]; omega) | (simp [*] <;> fail) | assumption) [-Bool.decide_and, -Bool.decide_or, -Bool.not_and, -Bool.not_or, toNat_pred, toNat_succ, wrap64, wr_new, wr_new0, ok_if, ok_ifn, iadV_sl, makeV_int, decT, decF, over_at, *]) | (with_reducible refine Gd_split (fun hc => ?_) (fun hc => ?_) <;> (have hc2 := hc; try simp at hc2)) | (with_reducible refine Br_split (fun hc => ?_) (fun hc => ?_) <;> (have hc2 := hc; try simp at hc2)) | (with_reducible refine GdT_split (fun hc => ?_) (fun hc => ?_) <;> (have hc2 := hc; try simp at hc2)) | (with_reducible refine WT_alt ?_ ?_) | omega)
    simpa using hK g' (New.nil hN.kept) ⟨Nat.le_refl _, fun _ _ _ => rfl, .inl rfl⟩
  · have hfl := flat_len h3.len
    have hlt := h3.lt
    refine CallT_of_body (F := L81) (HasMs.f81) rfl ?_; unfold L81; dsimp only []
    repeat' (first | (simp (disch := first | omega | assumption | (simp only [List.length_set]; omega) | (simp [*] <;> fail) | assumption) [-Bool.decide_and, -Bool.decide_or, -Bool.not_and, -Bool.not_or, toNat_pred, toNat_succ, wrap64, wr_new, wr_new0, ok_if, ok_ifn, iadV_sl, makeV_int, decT, decF, over_at, *]) | (with_reducible refine Gd_split (fun hc => ?_) (fun hc => ?_) <;> (have hc2 := hc; try simp at hc2)) | (with_reducible refine Br_split (fun hc => ?_) (fun hc => ?_) <;> (have hc2 := hc; try simp at hc2)) | (with_reducible refine GdT_split (fun hc => ?_) (fun hc => ?_) <;> (have hc2 := hc; try simp at hc2)) | (with_reducible refine WT_alt ?_ ?_) | omega)
    refine WL_forM 17592186044386 (by decide +kernel) (rows.length) (fun i b g' => i ≤ rows.length ∧ b 1 = .lf (.int .i64 (k + 4 * i)) ∧ b 5 = .lf (.int .i64 i) ∧ But g g' (.sl id 0 rows.length 4) (.sl id 0 rows.length 4) ∧ Sl g' id 28 4 (mixed (fun j => (markOfMemoryS k j).cells) rows i)) (fun _ _ _ hi => hi.1) ⟨by omega, by simp, by simp, ⟨Nat.le_refl _, fun _ _ _ => rfl, .inl rfl⟩, by rw [mixed_zero]; exact h3⟩ ?_
    rintro i b g' ⟨hi, e1, e5, hB, hs⟩
    have hlt2 := hs.lt
    have hcs := flat_len hs.len
    rw [mixed_len] at hcs
    by_cases hi2 : i < rows.length
    · have hstep := hs.mix (i := i) (r := (markOfMemoryS k i).cells) rfl rfl
      rw [show ((mixed (fun j => (markOfMemoryS k j).cells) rows i).set i (markOfMemoryS k i).cells).flatten = _ from (flat_set4 hs.len (by simpa using hi2)).symm] at hstep
      have hg := hs.get
      generalize (mixed (fun j => (markOfMemoryS k j).cells) rows i).flatten = cs at *
      clear hK hs hfl h3 hN
      repeat' (first | (simp (disch := first | omega | assumption | (simp only [List.length_set]; omega) | (simp [*] <;> fail) | assumption) [-Bool.decide_and, -Bool.decide_or, -Bool.not_and, -Bool.not_or, toNat_pred, toNat_succ, wrap64, wr_new, wr_new0, ok_if, ok_ifn, iadV_sl, makeV_int, decT, decF, over_at, *, wr_get1 hg, wr_set1]) | (with_reducible refine Gd_split (fun hc => ?_) (fun hc => ?_) <;> (have hc2 := hc; try simp at hc2)) | (with_reducible refine Br_split (fun hc => ?_) (fun hc => ?_) <;> (have hc2 := hc; try simp at hc2)) | (with_reducible refine GdT_split (fun hc => ?_) (fun hc => ?_) <;> (have hc2 := hc; try simp at hc2)) | (with_reducible refine WT_alt ?_ ?_) | omega)
      all_goals ((repeat' apply And.intro) <;> first | omega | exact hB.set | exact hstep | (simp; omega) | trace_state)
    · have : i = rows.length := by omega
      subst this
      rw [mixed_all] at hs
      have hN2 := New.of_sl (hB.kept hN.kept (fun _ => h2)) hs h2 (by simp; omega)
      have hK2 := hK g' (by simpa [marksMemoryS, tabTo, Function.comp_def] using hN2) hB
      clear hK
      repeat' (first | (simp (disch := first | omega | assumption | (simp only [List.length_set]; omega) | (simp [*] <;> fail) | assumption) [-Bool.decide_and, -Bool.decide_or, -Bool.not_and, -Bool.not_or, toNat_pred, toNat_succ, wrap64, wr_new, wr_new0, ok_if, ok_ifn, iadV_sl, makeV_int, decT, decF, over_at, *]) | (with_reducible refine Gd_split (fun hc => ?_) (fun hc => ?_) <;> (have hc2 := hc; try simp at hc2)) | (with_reducible refine Br_split (fun hc => ?_) (fun hc => ?_) <;> (have hc2 := hc; try simp at hc2)) | (with_reducible refine GdT_split (fun hc => ?_) (fun hc => ?_) <;> (have hc2 := hc; try simp at hc2)) | (with_reducible refine WT_alt ?_ ?_) | omega)
theorem c_heldMemoryS {l : Lf} {k : Int} {n : Nat} (hA : Arr h l 4 ((marksMemoryS k n).map Mem.cells)) (hn : n ≤ 16777216) (h0 : 0 ≤ k) (h1 : k ≤ 1099511627776) : CallT S true 82 [.lf l, .lf (.int .i64 k)] h lim K = K (.lf (.int .i64 (k + 4 * n))) h := by
  refine CallT_pure (F := L82) (HasMs.f82) rfl (by first | rfl | (split <;> rfl) | simp) ?_; unfold L82; dsimp only []
  repeat' (first | (simp (disch := first | omega | assumption | (simp only [List.length_set]; omega) | (simp [*] <;> fail) | assumption) [-Bool.decide_and, -Bool.decide_or, -Bool.not_and, -Bool.not_or, toNat_pred, toNat_succ, wrap64, wr_new, wr_new0, ok_if, ok_ifn, iadV_sl, makeV_int, decT, decF, over_at, *, hA.len]) | (with_reducible refine Gd_split (fun hc => ?_) (fun hc => ?_) <;> (have hc2 := hc; try simp at hc2)) | (with_reducible refine Br_split (fun hc => ?_) (fun hc => ?_) <;> (have hc2 := hc; try simp at hc2)) | (with_reducible refine GdT_split (fun hc => ?_) (fun hc => ?_) <;> (have hc2 := hc; try simp at hc2)) | (with_reducible refine WT_alt ?_ ?_) | omega)
  refine WL_for n (fun i a' h' => i ≤ n ∧ a' 0 = .lf l ∧ a' 1 = .lf (.int .i64 (k + 4 * i)) ∧ a' 5 = .lf (.int .i64 i) ∧ h' = h) (fun i a' h' hi => hi.1) ?_ (by simp)
  rintro i a' h' ⟨hi, e0, e1, e5, rfl⟩
  by_cases hlt : i < n
  · have hlt2 : i < (marksMemoryS k n).length := by simpa using hlt
    have hg : (marksMemoryS k n)[i] = markOfMemoryS k i := by simp [marksMemoryS, tabTo]
    have q1 := hA.at_ (k := .i64) (i := i) hlt2
    have q2 := fun j m (hj : j + m ≤ 4) => hA.rdIn (i := i) (j := j) (m := m) hlt2 hj
    have q3 := fun m (hj : m ≤ 4) => hA.rdIn0 (i := i) (m := m) hlt2 hj
    rw [hg] at q2 q3
    repeat' (first | (simp (disch := first | omega | assumption | (simp only [List.length_set]; omega) | (simp [*] <;> fail) | assumption) [-Bool.decide_and, -Bool.decide_or, -Bool.not_and, -Bool.not_or, toNat_pred, toNat_succ, wrap64, wr_new, wr_new0, ok_if, ok_ifn, iadV_sl, makeV_int, decT, decF, over_at, *, hA.len, Mem.cells, markOfMemoryS, fcmp_neq, fcmp_self (fofint_not_nan _ _)]) | (with_reducible refine Gd_split (fun hc => ?_) (fun hc => ?_) <;> (have hc2 := hc; try simp at hc2)) | (with_reducible refine Br_split (fun hc => ?_) (fun hc => ?_) <;> (have hc2 := hc; try simp at hc2)) | (with_reducible refine GdT_split (fun hc => ?_) (fun hc => ?_) <;> (have hc2 := hc; try simp at hc2)) | (with_reducible refine WT_alt ?_ ?_) | omega)
    all_goals ((repeat' apply And.intro) <;> first | omega | trace_state)
  · have : i = n := by omega
    subst this
    repeat' (first | (simp (disch := first | omega | assumption | (simp only [List.length_set]; omega) | (simp [*] <;> fail) | assumption) [-Bool.decide_and, -Bool.decide_or, -Bool.not_and, -Bool.not_or, toNat_pred, toNat_succ, wrap64, wr_new, wr_new0, ok_if, ok_ifn, iadV_sl, makeV_int, decT, decF, over_at, *, hA.len]) | (with_reducible refine Gd_split (fun hc => ?_) (fun hc => ?_) <;> (have hc2 := hc; try simp at hc2)) | (with_reducible refine Br_split (fun hc => ?_) (fun hc => ?_) <;> (have hc2 := hc; try simp at hc2)) | (with_reducible refine GdT_split (fun hc => ?_) (fun hc => ?_) <;> (have hc2 := hc; try simp at hc2)) | (with_reducible refine WT_alt ?_ ?_) | omega)

end
end Go.E
