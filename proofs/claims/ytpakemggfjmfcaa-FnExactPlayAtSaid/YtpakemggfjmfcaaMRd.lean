/- Samples read at a place between them, both sides. -/
import Derived.Test.YtpakemggfjmfcaaMP
import Derived.Test.YtpakemggfjmfcaaEM
import Derived.Test.YtpakemggfjmfcaaMH
set_option linter.unusedVariables false
set_option linter.unusedSimpArgs false
namespace Go.E
open Go
def L92 : LFn := ⟨1, (.seq (.reg [⟨(.some 2), (.mv (.c (.lf (.bool false)))), none⟩])
 (.seq (.reg [⟨(.some 3), (.mv (.t 0)), none⟩, ⟨(.some 4), (.call true 93 [(.t 3), (.c (.lf (.int .i64 0))), (.c (.lf (.int .i64 2)))]), none⟩, ⟨(.some 2), (.mv (.t 4)), none⟩])
 .ret)), [(.tmp 2)]⟩
def L181 : LFn := ⟨2, (.seq (.reg [⟨(.some 4), (.mv (.c (.lf (.int .i64 0)))), none⟩])
 (.seq (.seq (.reg [⟨(.some 5), (.mv (.t 0)), none⟩, ⟨(.some 6), (.mv (.t 1)), none⟩, ⟨(.some 7), (.bin .lss (.t 5) (.t 6)), none⟩])
 (.cond (.t 7) (.seq (.reg [⟨(.some 8), (.mv (.t 0)), none⟩, ⟨(.some 4), (.mv (.t 8)), none⟩])
 .ret) .skip))
 (.seq (.reg [⟨(.some 9), (.mv (.t 1)), none⟩, ⟨(.some 4), (.mv (.t 9)), none⟩])
 .ret))), [(.tmp 4)]⟩
def L180 : LFn := ⟨2, (.seq (.reg [⟨(.some 4), (.mv (.c (.lf (.int .i64 0)))), none⟩])
 (.seq (.seq (.reg [⟨(.some 5), (.mv (.t 0)), none⟩, ⟨(.some 6), (.mv (.t 1)), none⟩, ⟨(.some 7), (.bin .gtr (.t 5) (.t 6)), none⟩])
 (.cond (.t 7) (.seq (.reg [⟨(.some 8), (.mv (.t 0)), none⟩, ⟨(.some 4), (.mv (.t 8)), none⟩])
 .ret) .skip))
 (.seq (.reg [⟨(.some 9), (.mv (.t 1)), none⟩, ⟨(.some 4), (.mv (.t 9)), none⟩])
 .ret))), [(.tmp 4)]⟩
def L152 : LFn := ⟨2, (.seq (.reg [⟨(.some 4), (.mv (.c (.lf (.flt .f32 0)))), none⟩])
 (.seq (.reg [⟨(.some 5), (.mv (.t 0)), none⟩, ⟨(.some 6), (.mv (.t 1)), none⟩, ⟨(.some 7), (.mv (.t 0)), none⟩, ⟨(.some 8), (.len (.t 7)), none⟩, ⟨(.some 9), (.bin .sub (.t 8) (.c (.lf (.int .i64 1)))), none⟩, ⟨(.some 10), (.call true 181 [(.t 6), (.t 9)]), none⟩, ⟨(.some 11), (.call true 180 [(.c (.lf (.int .i64 0))), (.t 10)]), none⟩, ⟨(.some 12), (.iaddr 1 (.t 5) (.t 11)), none⟩, ⟨(.some 13), (.load false 1 (.t 12)), none⟩, ⟨(.some 4), (.mv (.t 13)), none⟩])
 .ret)), [(.tmp 4)]⟩
def L94 : LFn := ⟨3, (.seq (.reg [⟨(.some 6), (.mv (.c (.lf (.flt .f32 0)))), none⟩, ⟨(.some 7), (.mv (.c (.lf (.bool false)))), none⟩])
 (.seq (.seq (.reg [⟨(.some 19), (.mv (.t 2)), none⟩, ⟨(.some 20), (.bin .geq (.t 19) (.c (.lf (.flt .f64 0)))), none⟩, ⟨(.some 21), (.mv (.t 20)), none⟩, ⟨(.some 22), (.mv (.t 2)), (.some (21, true))⟩, ⟨(.some 23), (.mv (.t 1)), (.some (21, true))⟩, ⟨(.some 24), (.len (.t 23)), (.some (21, true))⟩, ⟨(.some 25), (.bin .sub (.t 24) (.c (.lf (.int .i64 1)))), (.some (21, true))⟩, ⟨(.some 26), (.toflt .f64 (.t 25)), (.some (21, true))⟩, ⟨(.some 27), (.bin .leq (.t 22) (.t 26)), (.some (21, true))⟩, ⟨(.some 28), (.pick (.t 21) (.t 27) (.c (.lf (.bool false)))), none⟩, ⟨(.some 29), (.una .not (.t 28)), none⟩])
 (.cond (.t 29) (.seq (.reg [⟨(.some 6), (.mv (.c (.lf (.flt .f32 0)))), none⟩, ⟨(.some 7), (.mv (.c (.lf (.bool false)))), none⟩])
 .ret) .skip))
 (.seq (.reg [⟨(.some 30), (.mv (.t 2)), none⟩, ⟨(.some 31), (.toint .i64 (.t 30)), none⟩, ⟨(.some 8), (.mv (.t 31)), none⟩])
 (.seq (.reg [⟨(.some 32), (.mv (.t 2)), none⟩, ⟨(.some 33), (.mv (.t 8)), none⟩, ⟨(.some 34), (.toflt .f64 (.t 33)), none⟩, ⟨(.some 35), (.bin .sub (.t 32) (.t 34)), none⟩, ⟨(.some 36), (.toflt .f32 (.t 35)), none⟩, ⟨(.some 9), (.mv (.t 36)), none⟩])
 (.seq (.reg [⟨(.some 37), (.mv (.t 1)), none⟩, ⟨(.some 38), (.mv (.t 8)), none⟩, ⟨(.some 39), (.call true 152 [(.t 37), (.t 38)]), none⟩, ⟨(.some 10), (.mv (.t 39)), none⟩])
 (.seq (.reg [⟨(.some 40), (.mv (.t 1)), none⟩, ⟨(.some 41), (.mv (.t 8)), none⟩, ⟨(.some 42), (.bin .add (.t 41) (.c (.lf (.int .i64 1)))), none⟩, ⟨(.some 43), (.call true 152 [(.t 40), (.t 42)]), none⟩, ⟨(.some 11), (.mv (.t 43)), none⟩])
 (.seq (.seq (.reg [⟨(.some 44), (.mv (.t 0)), none⟩])
 (.block 0 (.seq (.reg [⟨(.some 46), (.bin .eql (.t 44) (.c (.lf (.int .i64 0)))), none⟩, ⟨(.some 45), (.mv (.t 46)), none⟩])
 (.cond (.t 45) (.seq (.seq (.reg [⟨(.some 47), (.mv (.t 9)), none⟩, ⟨(.some 48), (.bin .geq (.t 47) (.c (.lf (.flt .f32 1056964608)))), none⟩])
 (.cond (.t 48) (.seq (.reg [⟨(.some 49), (.mv (.t 11)), none⟩, ⟨(.some 6), (.mv (.t 49)), none⟩, ⟨(.some 7), (.mv (.c (.lf (.bool true)))), none⟩])
 .ret) .skip))
 (.seq (.reg [⟨(.some 50), (.mv (.t 10)), none⟩, ⟨(.some 6), (.mv (.t 50)), none⟩, ⟨(.some 7), (.mv (.c (.lf (.bool true)))), none⟩])
 .ret)) (.seq (.reg [⟨(.some 52), (.bin .eql (.t 44) (.c (.lf (.int .i64 1)))), none⟩, ⟨(.some 51), (.mv (.t 52)), none⟩])
 (.cond (.t 51) (.seq (.reg [⟨(.some 53), (.mv (.t 11)), none⟩, ⟨(.some 54), (.mv (.t 10)), none⟩, ⟨(.some 55), (.bin .sub (.t 53) (.t 54)), none⟩, ⟨(.some 12), (.mv (.t 55)), none⟩])
 (.seq (.reg [⟨(.some 56), (.mv (.t 10)), none⟩, ⟨(.some 57), (.mv (.t 9)), none⟩, ⟨(.some 58), (.mv (.t 12)), none⟩, ⟨(.some 59), (.bin .mul (.t 57) (.t 58)), none⟩, ⟨(.some 60), (.bin .add (.t 56) (.t 59)), none⟩, ⟨(.some 6), (.mv (.t 60)), none⟩, ⟨(.some 7), (.mv (.c (.lf (.bool true)))), none⟩])
 .ret)) .skip))))))
 (.seq (.reg [⟨(.some 61), (.mv (.t 1)), none⟩, ⟨(.some 62), (.mv (.t 8)), none⟩, ⟨(.some 63), (.bin .sub (.t 62) (.c (.lf (.int .i64 1)))), none⟩, ⟨(.some 64), (.call true 152 [(.t 61), (.t 63)]), none⟩, ⟨(.some 13), (.mv (.t 64)), none⟩])
 (.seq (.reg [⟨(.some 65), (.mv (.t 1)), none⟩, ⟨(.some 66), (.mv (.t 8)), none⟩, ⟨(.some 67), (.bin .add (.t 66) (.c (.lf (.int .i64 2)))), none⟩, ⟨(.some 68), (.call true 152 [(.t 65), (.t 67)]), none⟩, ⟨(.some 14), (.mv (.t 68)), none⟩])
 (.seq (.reg [⟨(.some 69), (.mv (.t 11)), none⟩, ⟨(.some 70), (.mv (.t 13)), none⟩, ⟨(.some 71), (.bin .sub (.t 69) (.t 70)), none⟩, ⟨(.some 72), (.bin .mul (.c (.lf (.flt .f32 1056964608))) (.t 71)), none⟩, ⟨(.some 15), (.mv (.t 72)), none⟩])
 (.seq (.reg [⟨(.some 73), (.mv (.t 13)), none⟩, ⟨(.some 74), (.mv (.t 10)), none⟩, ⟨(.some 75), (.bin .mul (.c (.lf (.flt .f32 1075838976))) (.t 74)), none⟩, ⟨(.some 76), (.bin .sub (.t 73) (.t 75)), none⟩, ⟨(.some 16), (.mv (.t 76)), none⟩])
 (.seq (.reg [⟨(.some 77), (.mv (.t 16)), none⟩, ⟨(.some 78), (.mv (.t 11)), none⟩, ⟨(.some 79), (.bin .mul (.c (.lf (.flt .f32 1073741824))) (.t 78)), none⟩, ⟨(.some 80), (.bin .add (.t 77) (.t 79)), none⟩, ⟨(.some 16), (.mv (.t 80)), none⟩])
 (.seq (.reg [⟨(.some 81), (.mv (.t 16)), none⟩, ⟨(.some 82), (.mv (.t 14)), none⟩, ⟨(.some 83), (.bin .mul (.c (.lf (.flt .f32 1056964608))) (.t 82)), none⟩, ⟨(.some 84), (.bin .sub (.t 81) (.t 83)), none⟩, ⟨(.some 16), (.mv (.t 84)), none⟩])
 (.seq (.reg [⟨(.some 85), (.mv (.t 10)), none⟩, ⟨(.some 86), (.mv (.t 11)), none⟩, ⟨(.some 87), (.bin .sub (.t 85) (.t 86)), none⟩, ⟨(.some 88), (.bin .mul (.c (.lf (.flt .f32 1069547520))) (.t 87)), none⟩, ⟨(.some 89), (.mv (.t 14)), none⟩, ⟨(.some 90), (.mv (.t 13)), none⟩, ⟨(.some 91), (.bin .sub (.t 89) (.t 90)), none⟩, ⟨(.some 92), (.bin .mul (.c (.lf (.flt .f32 1056964608))) (.t 91)), none⟩, ⟨(.some 93), (.bin .add (.t 88) (.t 92)), none⟩, ⟨(.some 17), (.mv (.t 93)), none⟩])
 (.seq (.reg [⟨(.some 94), (.mv (.t 17)), none⟩, ⟨(.some 95), (.mv (.t 9)), none⟩, ⟨(.some 96), (.bin .mul (.t 94) (.t 95)), none⟩, ⟨(.some 97), (.mv (.t 16)), none⟩, ⟨(.some 98), (.bin .add (.t 96) (.t 97)), none⟩, ⟨(.some 18), (.mv (.t 98)), none⟩])
 (.seq (.reg [⟨(.some 99), (.mv (.t 18)), none⟩, ⟨(.some 100), (.mv (.t 9)), none⟩, ⟨(.some 101), (.bin .mul (.t 99) (.t 100)), none⟩, ⟨(.some 102), (.mv (.t 15)), none⟩, ⟨(.some 103), (.bin .add (.t 101) (.t 102)), none⟩, ⟨(.some 18), (.mv (.t 103)), none⟩])
 (.seq (.reg [⟨(.some 104), (.mv (.t 18)), none⟩, ⟨(.some 105), (.mv (.t 9)), none⟩, ⟨(.some 106), (.bin .mul (.t 104) (.t 105)), none⟩, ⟨(.some 107), (.mv (.t 10)), none⟩, ⟨(.some 108), (.bin .add (.t 106) (.t 107)), none⟩, ⟨(.some 6), (.mv (.t 108)), none⟩, ⟨(.some 7), (.mv (.c (.lf (.bool true)))), none⟩])
 .ret))))))))))))))))), [(.tmp 6), (.tmp 7)]⟩
def L153 : LFn := ⟨1, (.seq (.reg [⟨(.some 2), (.mv (.c (.lf (.flt .f64 0)))), none⟩])
 (.seq (.cond (.c (.lf (.bool true))) (.seq (.reg [⟨(.some 3), (.mv (.t 0)), none⟩, ⟨(.some 4), (.xop .floor [(.t 3)]), none⟩, ⟨(.some 2), (.mv (.t 4)), none⟩])
 .ret) .skip)
 (.seq (.reg [⟨(.some 5), (.mv (.t 0)), none⟩, ⟨(.some 6), (.call true 183 [(.t 5)]), none⟩, ⟨(.some 2), (.mv (.t 6)), none⟩])
 .ret))), [(.tmp 2)]⟩
def L95 : LFn := ⟨1, (.seq (.reg [⟨(.some 2), (.mv (.c (.lf (.bool false)))), none⟩])
 (.seq (.reg [⟨(.some 3), (.mv (.t 0)), none⟩, ⟨(.some 4), (.call true 150 [(.t 3), (.c (.lf (.int .i64 0))), (.c (.lf (.int .i64 2)))]), none⟩, ⟨(.some 2), (.mv (.t 4)), none⟩])
 .ret)), [(.tmp 2)]⟩
def L98 : LFn := ⟨2, (.seq (.reg [⟨(.some 4), (.mv (.c (.lf (.bool false)))), none⟩])
 (.seq (.reg [⟨(.some 5), (.mv (.t 1)), none⟩, ⟨(.some 6), (.bin .geq (.t 5) (.c (.lf (.flt .f64 0)))), none⟩, ⟨(.some 7), (.mv (.t 6)), none⟩, ⟨(.some 8), (.mv (.t 1)), (.some (7, true))⟩, ⟨(.some 9), (.mv (.t 0)), (.some (7, true))⟩, ⟨(.some 10), (.len (.t 9)), (.some (7, true))⟩, ⟨(.some 11), (.bin .sub (.t 10) (.c (.lf (.int .i64 1)))), (.some (7, true))⟩, ⟨(.some 12), (.toflt .f64 (.t 11)), (.some (7, true))⟩, ⟨(.some 13), (.bin .leq (.t 8) (.t 12)), (.some (7, true))⟩, ⟨(.some 14), (.pick (.t 7) (.t 13) (.c (.lf (.bool false)))), none⟩, ⟨(.some 4), (.mv (.t 14)), none⟩])
 .ret)), [(.tmp 4)]⟩
def L154 : LFn := ⟨3, (.seq (.reg [⟨(.some 4), (.mv (.c (.lf (.flt .f32 0)))), none⟩])
 (.seq (.reg [⟨(.some 5), (.load false 1 (.t 1)), none⟩, ⟨(.some 6), (.load false 1 (.t 2)), none⟩, ⟨(.some 7), (.toint .i64 (.t 6)), none⟩, ⟨(.some 8), (.mv (.t 0)), none⟩, ⟨(.some 9), (.bin .add (.t 7) (.t 8)), none⟩, ⟨(.some 10), (.mnmx true [(.c (.lf (.int .i64 0))), (.t 9)]), none⟩, ⟨(.some 11), (.load false 1 (.t 1)), none⟩, ⟨(.some 12), (.len (.t 11)), none⟩, ⟨(.some 13), (.bin .sub (.t 12) (.c (.lf (.int .i64 1)))), none⟩, ⟨(.some 14), (.mnmx false [(.t 10), (.t 13)]), none⟩, ⟨(.some 15), (.iaddr 1 (.t 5) (.t 14)), none⟩, ⟨(.some 16), (.load false 1 (.t 15)), none⟩, ⟨(.some 4), (.mv (.t 16)), none⟩])
 .ret)), [(.tmp 4)]⟩
def L99 : LFn := ⟨3, (.seq (.reg [⟨(.some 4), (.box 27 (.t 1)), none⟩, ⟨(.some 6), (.mv (.c (.lf (.flt .f32 0)))), none⟩])
 (.seq (.reg [⟨(.some 17), (.mv (.t 2)), none⟩, ⟨(.some 18), (.call true 153 [(.t 17)]), none⟩, ⟨(.some 7), (.alloc 39 [(.flt .f64 0)]), none⟩, ⟨none, (.store 1 (.t 7) (.t 18)), none⟩])
 (.seq (.seq (.reg [⟨(.some 19), (.load false 1 (.t 7)), none⟩, ⟨(.some 20), (.bin .eql (.t 19) (.c (.lf (.flt .f64 0)))), none⟩])
 (.cond (.t 20) (.reg [⟨none, (.store 1 (.t 7) (.c (.lf (.flt .f64 0)))), none⟩]) .skip))
 (.seq (.reg [⟨(.some 21), (.mv (.t 2)), none⟩, ⟨(.some 22), (.load false 1 (.t 7)), none⟩, ⟨(.some 23), (.bin .sub (.t 21) (.t 22)), none⟩, ⟨(.some 24), (.toflt .f32 (.t 23)), none⟩, ⟨(.some 8), (.mv (.t 24)), none⟩])
 (.seq (.reg [⟨(.some 25), (.mkf 154 [(.t 4), (.t 7)]), none⟩, ⟨(.some 9), (.mv (.t 25)), none⟩])
 (.seq (.reg [⟨(.some 26), (.mv (.t 9)), none⟩, ⟨(.some 27), (.callv (.t 26) [(.c (.lf (.int .i64 0)))]), none⟩, ⟨(.some 28), (.mv (.t 9)), none⟩, ⟨(.some 29), (.callv (.t 28) [(.c (.lf (.int .i64 1)))]), none⟩, ⟨(.some 10), (.mv (.t 27)), none⟩, ⟨(.some 11), (.mv (.t 29)), none⟩])
 (.seq (.seq (.reg [⟨(.some 30), (.mv (.t 0)), none⟩])
 (.block 0 (.seq (.reg [⟨(.some 32), (.bin .eql (.t 30) (.c (.lf (.int .i64 0)))), none⟩, ⟨(.some 31), (.mv (.t 32)), none⟩])
 (.cond (.t 31) (.seq (.seq (.reg [⟨(.some 33), (.mv (.t 8)), none⟩, ⟨(.some 34), (.bin .geq (.t 33) (.c (.lf (.flt .f32 1056964608)))), none⟩])
 (.cond (.t 34) (.seq (.reg [⟨(.some 35), (.mv (.t 11)), none⟩, ⟨(.some 6), (.mv (.t 35)), none⟩])
 .ret) .skip))
 (.seq (.reg [⟨(.some 36), (.mv (.t 10)), none⟩, ⟨(.some 6), (.mv (.t 36)), none⟩])
 .ret)) (.seq (.reg [⟨(.some 38), (.bin .eql (.t 30) (.c (.lf (.int .i64 1)))), none⟩, ⟨(.some 37), (.mv (.t 38)), none⟩])
 (.cond (.t 37) (.seq (.reg [⟨(.some 39), (.mv (.t 10)), none⟩, ⟨(.some 40), (.mv (.t 8)), none⟩, ⟨(.some 41), (.mv (.t 11)), none⟩, ⟨(.some 42), (.mv (.t 10)), none⟩, ⟨(.some 43), (.bin .sub (.t 41) (.t 42)), none⟩, ⟨(.some 44), (.bin .mul (.t 40) (.t 43)), none⟩, ⟨(.some 45), (.bin .add (.t 39) (.t 44)), none⟩, ⟨(.some 6), (.mv (.t 45)), none⟩])
 .ret) .skip))))))
 (.seq (.reg [⟨(.some 46), (.mv (.t 9)), none⟩, ⟨(.some 47), (.callv (.t 46) [(.c (.lf (.int .i64 (-1))))]), none⟩, ⟨(.some 48), (.mv (.t 9)), none⟩, ⟨(.some 49), (.callv (.t 48) [(.c (.lf (.int .i64 2)))]), none⟩, ⟨(.some 12), (.mv (.t 47)), none⟩, ⟨(.some 13), (.mv (.t 49)), none⟩])
 (.seq (.reg [⟨(.some 50), (.mv (.t 11)), none⟩, ⟨(.some 51), (.mv (.t 12)), none⟩, ⟨(.some 52), (.bin .sub (.t 50) (.t 51)), none⟩, ⟨(.some 53), (.bin .mul (.c (.lf (.flt .f32 1056964608))) (.t 52)), none⟩, ⟨(.some 14), (.mv (.t 53)), none⟩])
 (.seq (.reg [⟨(.some 54), (.mv (.t 12)), none⟩, ⟨(.some 55), (.mv (.t 10)), none⟩, ⟨(.some 56), (.bin .mul (.c (.lf (.flt .f32 1075838976))) (.t 55)), none⟩, ⟨(.some 57), (.bin .sub (.t 54) (.t 56)), none⟩, ⟨(.some 58), (.mv (.t 11)), none⟩, ⟨(.some 59), (.bin .mul (.c (.lf (.flt .f32 1073741824))) (.t 58)), none⟩, ⟨(.some 60), (.bin .add (.t 57) (.t 59)), none⟩, ⟨(.some 61), (.mv (.t 13)), none⟩, ⟨(.some 62), (.bin .mul (.c (.lf (.flt .f32 1056964608))) (.t 61)), none⟩, ⟨(.some 63), (.bin .sub (.t 60) (.t 62)), none⟩, ⟨(.some 15), (.mv (.t 63)), none⟩])
 (.seq (.reg [⟨(.some 64), (.mv (.t 10)), none⟩, ⟨(.some 65), (.mv (.t 11)), none⟩, ⟨(.some 66), (.bin .sub (.t 64) (.t 65)), none⟩, ⟨(.some 67), (.bin .mul (.c (.lf (.flt .f32 1069547520))) (.t 66)), none⟩, ⟨(.some 68), (.mv (.t 13)), none⟩, ⟨(.some 69), (.mv (.t 12)), none⟩, ⟨(.some 70), (.bin .sub (.t 68) (.t 69)), none⟩, ⟨(.some 71), (.bin .mul (.c (.lf (.flt .f32 1056964608))) (.t 70)), none⟩, ⟨(.some 72), (.bin .add (.t 67) (.t 71)), none⟩, ⟨(.some 16), (.mv (.t 72)), none⟩])
 (.seq (.reg [⟨(.some 73), (.mv (.t 16)), none⟩, ⟨(.some 74), (.mv (.t 8)), none⟩, ⟨(.some 75), (.bin .mul (.t 73) (.t 74)), none⟩, ⟨(.some 76), (.mv (.t 15)), none⟩, ⟨(.some 77), (.bin .add (.t 75) (.t 76)), none⟩, ⟨(.some 78), (.mv (.t 8)), none⟩, ⟨(.some 79), (.bin .mul (.t 77) (.t 78)), none⟩, ⟨(.some 80), (.mv (.t 14)), none⟩, ⟨(.some 81), (.bin .add (.t 79) (.t 80)), none⟩, ⟨(.some 82), (.mv (.t 8)), none⟩, ⟨(.some 83), (.bin .mul (.t 81) (.t 82)), none⟩, ⟨(.some 84), (.mv (.t 10)), none⟩, ⟨(.some 85), (.bin .add (.t 83) (.t 84)), none⟩, ⟨(.some 6), (.mv (.t 85)), none⟩])
 .ret)))))))))))), [(.tmp 6)]⟩
class HasRd (S : Sys) : Prop extends HasA S, HasP S where
  f92 : S.fs 92 = some L92
  f181 : S.fs 181 = some L181
  f180 : S.fs 180 = some L180
  f152 : S.fs 152 = some L152
  f94 : S.fs 94 = some L94
  f153 : S.fs 153 = some L153
  f95 : S.fs 95 = some L95
  f98 : S.fs 98 = some L98
  f154 : S.fs 154 = some L154
  f99 : S.fs 99 = some L99
def clampI (j : Int) (n : Nat) : Nat := if j < 0 then 0 else if (n : Int) - 1 < j then n - 1 else j.toNat
theorem clampI_lt {j : Int} {n : Nat} (hn : 0 < n) : clampI j n < n := by unfold clampI; split; omega; split <;> omega
def smpl (xs : List Nat) (j : Int) : Nat := xs.getD (clampI j xs.length) 0
def readN (kind : Int) (s0 s1 sm s2 fr : Nat) : Nat :=
  if kind = 0 then (if fcmp .geq .f32 fr 1056964608 = true then s1 else s0)
  else if kind = 1 then fbin .add .f32 s0 (fbin .mul .f32 fr (fbin .sub .f32 s1 s0))
  else fbin .add .f32 (fbin .mul .f32 (fbin .add .f32 (fbin .mul .f32 (fbin .add .f32 (fbin .mul .f32 (fbin .add .f32 (fbin .mul .f32 1069547520 (fbin .sub .f32 s0 s1)) (fbin .mul .f32 1056964608 (fbin .sub .f32 s2 sm))) fr) (fbin .sub .f32 (fbin .add .f32 (fbin .sub .f32 sm (fbin .mul .f32 1075838976 s0)) (fbin .mul .f32 1073741824 s1)) (fbin .mul .f32 1056964608 s2))) fr) (fbin .mul .f32 1056964608 (fbin .sub .f32 s1 sm))) fr) s0
def okPl (n : Nat) (x : Nat) : Bool := fcmp .geq .f64 x 0 && fcmp .leq .f64 x (fofint .f64 ((n : Int) - 1))
/-- What is read from xs at the place x. -/
noncomputable def rdAt (kind : Int) (xs : List Nat) (x : Nat) : Nat :=
  let N := (ftoint .f64 x .i64).getD 0
  readN kind (smpl xs N) (smpl xs (N + 1)) (smpl xs (N - 1)) (smpl xs (N + 2)) ((fconv .f64 .f32 (fbin .sub .f64 x (fofint .f64 N))).getD 0)
theorem D_zero : D 0 = 0 := by show valOf Ieee.double 0 = 0; decide +kernel
theorem fofint_zero : fofint .f64 0 = 0 := by decide +kernel
/-- What is known of a place that is not refused. -/
theorem pl_facts {n x : Nat} (hn : 0 < n) (hn2 : n ≤ 256) (hx : CD x) (h : okPl n x = true) : ∃ (N fr : Nat), N < n ∧ ftoint .f64 x .i64 = some (N : Int) ∧ fconv .f64 .f32 (fbin .sub .f64 x (fofint .f64 (N : Int))) = some fr ∧
    ((N ≠ 0 ∧ ftow .down x = fofint .f64 (N : Int) ∧ fcmp .eql .f64 (ftow .down x) 0 = false) ∨ (N = 0 ∧ fcmp .eql .f64 (ftow .down x) 0 = true)) := by
  unfold okPl at h
  simp only [Bool.and_eq_true] at h
  have hnn : isNaN .f64 x = false := by
    cases hc : isNaN .f64 x
    · rfl
    · rw [cmp_nan1 hc (by decide)] at h; exact absurd h.1 (by decide)
  have h0n : isNaN .f64 0 = false := by decide +kernel
  rw [geq64 hnn h0n, leq64 hnn (fofint_not_nan _ _), D_zero, D_int (by omega)] at h
  simp only [decide_eq_true_eq] at h
  have hU := U_pos
  have hb : D x ≤ ((n - 1 : Nat) : Int) * U := by
    have e : (((n - 1 : Nat) : Int)) = (n : Int) - 1 := by omega
    rw [e]; exact h.2
  obtain ⟨N, g1, g2, g3, g4, g5, g6, m, e, s, g7, g8⟩ := floor_int (b := n - 1) hx.1 hnn h.1 hb (by omega)
  obtain ⟨fr, hfr⟩ := frac_some hnn (by omega) g3 g4 g7 g8
  refine ⟨N, fr, by omega, g2, hfr, ?_⟩
  by_cases hN : N = 0
  · obtain ⟨s', hs'⟩ := g6 hN
    refine .inr ⟨hN, ?_⟩
    obtain ⟨d1, d2, d3, d4⟩ := consts64
    rw [hs', eql64 (double_read_nan (by omega)) h0n, D_word (by omega), D_zero, magOf_zero]
    unfold sgn; cases s' <;> rfl
  · refine .inl ⟨hN, g5 hN, ?_⟩
    rw [g5 hN, eql64 (fofint_not_nan _ _) h0n, D_int (by omega), D_zero]
    have : 0 < (N : Int) * U := Int.mul_pos (by omega) (by omega)
    simp only [decide_eq_false_iff_not]
    omega
section
variable {S : Sys} {lim : Nat} {h : Hp} {K : CV → Hp → Prop} [HasRd S] {l : Lf} {xs : List Nat}
@[simp] theorem c_l06Kind {x : Int} : CallT S true 92 [.lf (.int .i64 x)] h lim K = K (.lf (.bool (decide (0 ≤ x ∧ x ≤ 2)))) h := by
  refine CallT_pure (F := L92) (HasRd.f92) rfl (by first | rfl | (split <;> rfl) | simp) ?_; unfold L92; dsimp only []
  repeat' (first | (simp (disch := first | omega | assumption | (simp only [List.length_set]; omega) | (simp [*] <;> fail) | assumption) [-Bool.decide_and, -Bool.decide_or, -Bool.not_and, -Bool.not_or, toNat_pred, toNat_succ, wrap64, wr_new, wr_new0, ok_if, ok_ifn, iadV_sl, makeV_int, decT, decF, over_at, *]) | (with_reducible refine Gd_split (fun hc => ?_) (fun hc => ?_) <;> (have hc2 := hc; try simp at hc2)) | (with_reducible refine Br_split (fun hc => ?_) (fun hc => ?_) <;> (have hc2 := hc; try simp at hc2)) | (with_reducible refine GdT_split (fun hc => ?_) (fun hc => ?_) <;> (have hc2 := hc; try simp at hc2)) | (with_reducible refine WT_alt ?_ ?_) | omega)
@[simp] theorem c_isReading {x : Int} : CallT S true 95 [.lf (.int .i64 x)] h lim K = K (.lf (.bool (decide (0 ≤ x ∧ x ≤ 2)))) h := by
  refine CallT_pure (F := L95) (HasRd.f95) rfl (by first | rfl | (split <;> rfl) | simp) ?_; unfold L95; dsimp only []
  repeat' (first | (simp (disch := first | omega | assumption | (simp only [List.length_set]; omega) | (simp [*] <;> fail) | assumption) [-Bool.decide_and, -Bool.decide_or, -Bool.not_and, -Bool.not_or, toNat_pred, toNat_succ, wrap64, wr_new, wr_new0, ok_if, ok_ifn, iadV_sl, makeV_int, decT, decF, over_at, *]) | (with_reducible refine Gd_split (fun hc => ?_) (fun hc => ?_) <;> (have hc2 := hc; try simp at hc2)) | (with_reducible refine Br_split (fun hc => ?_) (fun hc => ?_) <;> (have hc2 := hc; try simp at hc2)) | (with_reducible refine GdT_split (fun hc => ?_) (fun hc => ?_) <;> (have hc2 := hc; try simp at hc2)) | (with_reducible refine WT_alt ?_ ?_) | omega)
theorem c_l00Min {x y : Int} : CallT S true 181 [.lf (.int .i64 x), .lf (.int .i64 y)] h lim K = K (.lf (.int .i64 (if x < y then x else y))) h := by
  refine CallT_pure (F := L181) (HasRd.f181) rfl (by first | rfl | (split <;> rfl) | simp) ?_; unfold L181; dsimp only []
  repeat' (first | (simp (disch := first | omega | assumption | (simp only [List.length_set]; omega) | (simp [*] <;> fail) | assumption) [-Bool.decide_and, -Bool.decide_or, -Bool.not_and, -Bool.not_or, toNat_pred, toNat_succ, wrap64, wr_new, wr_new0, ok_if, ok_ifn, iadV_sl, makeV_int, decT, decF, over_at, *]) | (with_reducible refine Gd_split (fun hc => ?_) (fun hc => ?_) <;> (have hc2 := hc; try simp at hc2)) | (with_reducible refine Br_split (fun hc => ?_) (fun hc => ?_) <;> (have hc2 := hc; try simp at hc2)) | (with_reducible refine GdT_split (fun hc => ?_) (fun hc => ?_) <;> (have hc2 := hc; try simp at hc2)) | (with_reducible refine WT_alt ?_ ?_) | omega)
theorem c_l00Max {x y : Int} : CallT S true 180 [.lf (.int .i64 x), .lf (.int .i64 y)] h lim K = K (.lf (.int .i64 (if y < x then x else y))) h := by
  refine CallT_pure (F := L180) (HasRd.f180) rfl (by first | rfl | (split <;> rfl) | simp) ?_; unfold L180; dsimp only []
  repeat' (first | (simp (disch := first | omega | assumption | (simp only [List.length_set]; omega) | (simp [*] <;> fail) | assumption) [-Bool.decide_and, -Bool.decide_or, -Bool.not_and, -Bool.not_or, toNat_pred, toNat_succ, wrap64, wr_new, wr_new0, ok_if, ok_ifn, iadV_sl, makeV_int, decT, decF, over_at, *]) | (with_reducible refine Gd_split (fun hc => ?_) (fun hc => ?_) <;> (have hc2 := hc; try simp at hc2)) | (with_reducible refine Br_split (fun hc => ?_) (fun hc => ?_) <;> (have hc2 := hc; try simp at hc2)) | (with_reducible refine GdT_split (fun hc => ?_) (fun hc => ?_) <;> (have hc2 := hc; try simp at hc2)) | (with_reducible refine WT_alt ?_ ?_) | omega)
theorem c_floor {x : Nat} : CallT S true 153 [.lf (.flt .f64 x)] h lim K = K (.lf (.flt .f64 (ftow .down x))) h := by
  have x0 : xopV .floor [.lf (.flt .f64 x)] = some (.lf (.flt .f64 (ftow .down x))) := rfl
  refine CallT_pure (F := L153) (HasRd.f153) rfl (by first | rfl | (split <;> rfl) | simp) ?_; unfold L153; dsimp only []
  repeat' (first | (simp (disch := first | omega | assumption | (simp only [List.length_set]; omega) | (simp [*] <;> fail) | assumption) [-Bool.decide_and, -Bool.decide_or, -Bool.not_and, -Bool.not_or, toNat_pred, toNat_succ, wrap64, wr_new, wr_new0, ok_if, ok_ifn, iadV_sl, makeV_int, decT, decF, over_at, *]) | (with_reducible refine Gd_split (fun hc => ?_) (fun hc => ?_) <;> (have hc2 := hc; try simp at hc2)) | (with_reducible refine Br_split (fun hc => ?_) (fun hc => ?_) <;> (have hc2 := hc; try simp at hc2)) | (with_reducible refine GdT_split (fun hc => ?_) (fun hc => ?_) <;> (have hc2 := hc; try simp at hc2)) | (with_reducible refine WT_alt ?_ ?_) | omega)
theorem c_l06Sample {j : Int} (hA : Arr h l 1 (xs.map fl)) (hn : 0 < xs.length) (hn2 : xs.length ≤ 256) : CallT S true 152 [.lf l, .lf (.int .i64 j)] h lim K = K (.lf (.flt .f32 (smpl xs j))) h := by
  have hlt := clampI_lt (j := j) hn
  have hs : xs[clampI j xs.length] = smpl xs j := by simp [smpl, hlt]
  have hmm : (if (if j < (xs.length : Int) - 1 then j else (xs.length : Int) - 1) < 0 then 0 else (if j < (xs.length : Int) - 1 then j else (xs.length : Int) - 1)) = ((clampI j xs.length : Nat) : Int) := by
    unfold clampI; repeat' split
    all_goals omega
  have q1 := hA.at_ (k := .i64) hlt
  have q2 := hA.rd1 hlt
  rw [hs] at q2
  generalize clampI j xs.length = c at *
  have hmm2 : (if (if j < (xs.length : Int) - 1 then j else (xs.length : Int) - 1) < 0 then (0 : Int) else (if j < (xs.length : Int) - 1 then j else (xs.length : Int) - 1)) = (c : Int) := hmm
  refine CallT_pure (F := L152) (HasRd.f152) rfl (by first | rfl | (split <;> rfl) | simp) ?_; unfold L152; dsimp only []
  repeat' (first | (simp (disch := first | omega | assumption | (simp only [List.length_set]; omega) | (simp [*] <;> fail) | assumption) [-Bool.decide_and, -Bool.decide_or, -Bool.not_and, -Bool.not_or, toNat_pred, toNat_succ, wrap64, wr_new, wr_new0, ok_if, ok_ifn, iadV_sl, makeV_int, decT, decF, over_at, *, hA.len, c_l00Min, c_l00Max, fl]) | (with_reducible refine Gd_split (fun hc => ?_) (fun hc => ?_) <;> (have hc2 := hc; try simp at hc2)) | (with_reducible refine Br_split (fun hc => ?_) (fun hc => ?_) <;> (have hc2 := hc; try simp at hc2)) | (with_reducible refine GdT_split (fun hc => ?_) (fun hc => ?_) <;> (have hc2 := hc; try simp at hc2)) | (with_reducible refine WT_alt ?_ ?_) | omega)
theorem c_isPlaceOf {x : Nat} (hA : Arr h l 1 (xs.map fl)) (hn2 : xs.length ≤ 256) : CallT S true 98 [.lf l, .lf (.flt .f64 x)] h lim K = K (.lf (.bool (okPl xs.length x))) h := by
  unfold okPl
  refine CallT_pure (F := L98) (HasRd.f98) rfl (by first | rfl | (split <;> rfl) | simp) ?_; unfold L98; dsimp only []
  repeat' (first | (simp (disch := first | omega | assumption | (simp only [List.length_set]; omega) | (simp [*] <;> fail) | assumption) [-Bool.decide_and, -Bool.decide_or, -Bool.not_and, -Bool.not_or, toNat_pred, toNat_succ, wrap64, wr_new, wr_new0, ok_if, ok_ifn, iadV_sl, makeV_int, decT, decF, over_at, *, hA.len]) | (with_reducible refine Gd_split (fun hc => ?_) (fun hc => ?_) <;> (have hc2 := hc; try simp at hc2)) | (with_reducible refine Br_split (fun hc => ?_) (fun hc => ?_) <;> (have hc2 := hc; try simp at hc2)) | (with_reducible refine GdT_split (fun hc => ?_) (fun hc => ?_) <;> (have hc2 := hc; try simp at hc2)) | (with_reducible refine WT_alt ?_ ?_) | omega)
set_option maxRecDepth 20000 in
set_option maxHeartbeats 2000000 in
theorem c_l06Read {kind : Int} {x : Nat} (hA : Arr h l 1 (xs.map fl)) (hn : 0 < xs.length) (hn2 : xs.length ≤ 256) (hx : CD x) (hk : 0 ≤ kind ∧ kind ≤ 2) : CallT S true 94 [.lf (.int .i64 kind), .lf l, .lf (.flt .f64 x)] h lim K = K (if okPl xs.length x = true then .tup [.lf (.flt .f32 (rdAt kind xs x)), .lf (.bool true)] else .tup [.lf (.flt .f32 0), .lf (.bool false)]) h := by
  cases hp : okPl xs.length x
  · unfold okPl at hp
    cases w1 : fcmp .geq .f64 x 0
    · clear hp
      refine CallT_pure (F := L94) (HasRd.f94) rfl (by first | rfl | (split <;> rfl) | simp) ?_; unfold L94; dsimp only []
      repeat' (first | (simp (disch := first | omega | assumption | (simp only [List.length_set]; omega) | (simp [*] <;> fail) | assumption) [-Bool.decide_and, -Bool.decide_or, -Bool.not_and, -Bool.not_or, toNat_pred, toNat_succ, wrap64, wr_new, wr_new0, ok_if, ok_ifn, iadV_sl, makeV_int, decT, decF, over_at, *, hA.len]) | (with_reducible refine Gd_split (fun hc => ?_) (fun hc => ?_) <;> (have hc2 := hc; try simp at hc2)) | (with_reducible refine Br_split (fun hc => ?_) (fun hc => ?_) <;> (have hc2 := hc; try simp at hc2)) | (with_reducible refine GdT_split (fun hc => ?_) (fun hc => ?_) <;> (have hc2 := hc; try simp at hc2)) | (with_reducible refine WT_alt ?_ ?_) | omega)
    · rw [w1, Bool.true_and] at hp
      refine CallT_pure (F := L94) (HasRd.f94) rfl (by first | rfl | (split <;> rfl) | simp) ?_; unfold L94; dsimp only []
      repeat' (first | (simp (disch := first | omega | assumption | (simp only [List.length_set]; omega) | (simp [*] <;> fail) | assumption) [-Bool.decide_and, -Bool.decide_or, -Bool.not_and, -Bool.not_or, toNat_pred, toNat_succ, wrap64, wr_new, wr_new0, ok_if, ok_ifn, iadV_sl, makeV_int, decT, decF, over_at, *, hA.len]) | (with_reducible refine Gd_split (fun hc => ?_) (fun hc => ?_) <;> (have hc2 := hc; try simp at hc2)) | (with_reducible refine Br_split (fun hc => ?_) (fun hc => ?_) <;> (have hc2 := hc; try simp at hc2)) | (with_reducible refine GdT_split (fun hc => ?_) (fun hc => ?_) <;> (have hc2 := hc; try simp at hc2)) | (with_reducible refine WT_alt ?_ ?_) | omega)
  · obtain ⟨N, fr, g1, g2, g3, _⟩ := pl_facts hn hn2 hx hp
    have hr : rdAt kind xs x = readN kind (smpl xs N) (smpl xs (N + 1)) (smpl xs (N - 1)) (smpl xs (N + 2)) fr := by unfold rdAt; simp only [g2, g3, Option.getD_some]
    rw [hr]
    unfold okPl at hp
    have sm := fun j lim K => c_l06Sample (S := S) (lim := lim) (K := K) (j := j) hA hn hn2
    simp only [Bool.and_eq_true] at hp
    obtain ⟨hp1, hp2⟩ := hp
    clear hr hx
    refine CallT_pure (F := L94) (HasRd.f94) rfl (by first | rfl | (split <;> rfl) | simp) ?_; unfold L94; dsimp only []
    repeat' (first | (simp (disch := first | omega | assumption | (simp only [List.length_set]; omega) | (simp [*] <;> fail) | assumption) [-Bool.decide_and, -Bool.decide_or, -Bool.not_and, -Bool.not_or, toNat_pred, toNat_succ, wrap64, wr_new, wr_new0, ok_if, ok_ifn, iadV_sl, makeV_int, decT, decF, over_at, *, hA.len, readN]) | (with_reducible refine Gd_split (fun hc => ?_) (fun hc => ?_) <;> (have hc2 := hc; try simp at hc2)) | (with_reducible refine Br_split (fun hc => ?_) (fun hc => ?_) <;> (have hc2 := hc; try simp at hc2)) | (with_reducible refine GdT_split (fun hc => ?_) (fun hc => ?_) <;> (have hc2 := hc; try simp at hc2)) | (with_reducible refine WT_alt ?_ ?_) | omega)
theorem c_readAt1 {id1 id2 N : Nat} {j : Int} (hA : Arr h l 1 (xs.map fl)) (hn : 0 < xs.length) (hn2 : xs.length ≤ 256) (hN : N ≤ 256) (hj : -2 ≤ j ∧ j ≤ 2) (h1 : rdCells h id1 0 1 = some [l]) (h2 : rdCells h id2 0 1 = some [.flt .f64 (fofint .f64 (N : Int))]) (hK : K (.lf (.flt .f32 (smpl xs (N + j)))) h) : CallT S false 154 [.lf (.int .i64 j), .lf (.ptr id1 0), .lf (.ptr id2 0)] h lim K := by
  have hlt := clampI_lt (j := N + j) hn
  have hs : xs[clampI (N + j) xs.length] = smpl xs (N + j) := by simp [smpl, hlt]
  have hti : ftoint .f64 (fofint .f64 (N : Int)) .i64 = some (N : Int) := toint_int (by omega)
  have q1 := hA.at_ (k := .i64) hlt
  have q2 := hA.rd1 hlt
  rw [hs] at q2
  have e1 : mnmxV true [.lf (.int .i64 0), .lf (.int .i64 ((N : Int) + j))] = some (.lf (.int .i64 (if 0 < (N : Int) + j then (N : Int) + j else 0))) := by simp [mnmxV, mnmx2]
  have e2 : mnmxV false [.lf (.int .i64 (if 0 < (N : Int) + j then (N : Int) + j else 0)), .lf (.int .i64 ((xs.length : Int) - 1))] = some (.lf (.int .i64 ((clampI ((N : Int) + j) xs.length : Nat) : Int))) := by
    have hm : (if (xs.length : Int) - 1 < (if 0 < (N : Int) + j then (N : Int) + j else 0) then (xs.length : Int) - 1 else (if 0 < (N : Int) + j then (N : Int) + j else 0)) = ((clampI ((N : Int) + j) xs.length : Nat) : Int) := by
      unfold clampI; repeat' split
      all_goals omega
    simp only [mnmxV, mnmx2, List.foldlM_cons, List.foldlM_nil, if_true, Bool.false_eq_true, if_false, hm]; rfl
  generalize clampI ((N : Int) + j) xs.length = c at *
  generalize (if 0 < (N : Int) + j then (N : Int) + j else 0) = c0 at *
  refine CallT_of_body (F := L154) (HasRd.f154) rfl ?_; unfold L154; dsimp only []
  repeat' (first | (simp (disch := first | omega | assumption | (simp only [List.length_set]; omega) | (simp [*] <;> fail) | assumption) [-Bool.decide_and, -Bool.decide_or, -Bool.not_and, -Bool.not_or, toNat_pred, toNat_succ, wrap64, wr_new, wr_new0, ok_if, ok_ifn, iadV_sl, makeV_int, decT, decF, over_at, *, hA.len, fl]) | (with_reducible refine Gd_split (fun hc => ?_) (fun hc => ?_) <;> (have hc2 := hc; try simp at hc2)) | (with_reducible refine Br_split (fun hc => ?_) (fun hc => ?_) <;> (have hc2 := hc; try simp at hc2)) | (with_reducible refine GdT_split (fun hc => ?_) (fun hc => ?_) <;> (have hc2 := hc; try simp at hc2)) | (with_reducible refine WT_alt ?_ ?_) | omega)
theorem c_readAt {kind : Int} {x : Nat} (hA : Arr h l 1 (xs.map fl)) (hn : 0 < xs.length) (hn2 : xs.length ≤ 256) (hx : CD x) (hk : 0 ≤ kind ∧ kind ≤ 2) (hp : okPl xs.length x = true) : CallT S true 99 [.lf (.int .i64 kind), .lf l, .lf (.flt .f64 x)] h lim K = K (.lf (.flt .f32 (rdAt kind xs x))) h := by
  obtain ⟨N, fr, g1, g2, g3, g4⟩ := pl_facts hn hn2 hx hp
  have hr : rdAt kind xs x = readN kind (smpl xs N) (smpl xs (N + 1)) (smpl xs (N - 1)) (smpl xs (N + 2)) fr := by unfold rdAt; simp only [g2, g3, Option.getD_some]
  rw [hr]
  have hf := HasRd.f154 (S := S)
  clear hr hx hp
  have hcell : Cel (h ++ [⟨[l], .own 27 1⟩, ⟨[.flt .f64 (fofint .f64 (N : Int))], .own 39 1⟩]) (h.length + 1) 39 [.flt .f64 (fofint .f64 (N : Int))] := cel_cons
  have h2 : rdCells (h ++ [⟨[l], .own 27 1⟩, ⟨[.flt .f64 (fofint .f64 (N : Int))], .own 39 1⟩]) (h.length + 1) 0 1 = some [.flt .f64 (fofint .f64 (N : Int))] := hcell.rd (by simp)
  have h1 : rdCells (h ++ [⟨[l], .own 27 1⟩, ⟨[.flt .f64 (fofint .f64 (N : Int))], .own 39 1⟩]) h.length 0 1 = some [l] := by simp [rdCells, Ob.live]
  have cl := fun (j : Int) (hj : -2 ≤ j ∧ j ≤ 2) K => c_readAt1 (S := S) (lim := h.length) (K := K) (j := j) (hA.app (t := [⟨[l], .own 27 1⟩, ⟨[.flt .f64 (fofint .f64 (N : Int))], .own 39 1⟩])) hn hn2 (by omega) hj h1 h2
  have cl0 := cl 0 (by omega)
  have cl1 := cl 1 (by omega)
  have clm := cl (-1) (by omega)
  have cl2 := cl 2 (by omega)
  rw [Int.add_zero] at cl0
  rw [show (N : Int) + -1 = N - 1 by omega] at clm
  clear cl
  rcases g4 with ⟨hN, w1, w2⟩ | ⟨hN, w2⟩
  · rw [w1] at w2
    refine CallT_pure (F := L99) (HasRd.f99) rfl (by first | rfl | (split <;> rfl) | simp) ?_; unfold L99; dsimp only []
    repeat' (first | (simp (disch := first | omega | assumption | (simp only [List.length_set]; omega) | (simp [*] <;> fail) | assumption) [-Bool.decide_and, -Bool.decide_or, -Bool.not_and, -Bool.not_or, toNat_pred, toNat_succ, wrap64, wr_new, wr_new0, ok_if, ok_ifn, iadV_sl, makeV_int, decT, decF, over_at, *, c_floor]) | (with_reducible refine Gd_split (fun hc => ?_) (fun hc => ?_) <;> (have hc2 := hc; try simp at hc2)) | (with_reducible refine Br_split (fun hc => ?_) (fun hc => ?_) <;> (have hc2 := hc; try simp at hc2)) | (with_reducible refine GdT_split (fun hc => ?_) (fun hc => ?_) <;> (have hc2 := hc; try simp at hc2)) | (with_reducible refine WT_alt ?_ ?_) | omega)
    refine cl0 _ ?_
    repeat' (first | (simp (disch := first | omega | assumption | (simp only [List.length_set]; omega) | (simp [*] <;> fail) | assumption) [-Bool.decide_and, -Bool.decide_or, -Bool.not_and, -Bool.not_or, toNat_pred, toNat_succ, wrap64, wr_new, wr_new0, ok_if, ok_ifn, iadV_sl, makeV_int, decT, decF, over_at, *]) | (with_reducible refine Gd_split (fun hc => ?_) (fun hc => ?_) <;> (have hc2 := hc; try simp at hc2)) | (with_reducible refine Br_split (fun hc => ?_) (fun hc => ?_) <;> (have hc2 := hc; try simp at hc2)) | (with_reducible refine GdT_split (fun hc => ?_) (fun hc => ?_) <;> (have hc2 := hc; try simp at hc2)) | (with_reducible refine WT_alt ?_ ?_) | omega)
    refine cl1 _ ?_
    clear cl0 cl1
    repeat' (first | (simp (disch := first | omega | assumption | (simp only [List.length_set]; omega) | (simp [*] <;> fail) | assumption) [-Bool.decide_and, -Bool.decide_or, -Bool.not_and, -Bool.not_or, toNat_pred, toNat_succ, wrap64, wr_new, wr_new0, ok_if, ok_ifn, iadV_sl, makeV_int, decT, decF, over_at, *, readN]) | (with_reducible refine Gd_split (fun hc => ?_) (fun hc => ?_) <;> (have hc2 := hc; try simp at hc2)) | (with_reducible refine Br_split (fun hc => ?_) (fun hc => ?_) <;> (have hc2 := hc; try simp at hc2)) | (with_reducible refine GdT_split (fun hc => ?_) (fun hc => ?_) <;> (have hc2 := hc; try simp at hc2)) | (with_reducible refine WT_alt ?_ ?_) | omega)
    all_goals refine clm _ ?_
    all_goals clear clm
    all_goals repeat' (first | (simp (disch := first | omega | assumption | (simp only [List.length_set]; omega) | (simp [*] <;> fail) | assumption) [-Bool.decide_and, -Bool.decide_or, -Bool.not_and, -Bool.not_or, toNat_pred, toNat_succ, wrap64, wr_new, wr_new0, ok_if, ok_ifn, iadV_sl, makeV_int, decT, decF, over_at, *]) | (with_reducible refine Gd_split (fun hc => ?_) (fun hc => ?_) <;> (have hc2 := hc; try simp at hc2)) | (with_reducible refine Br_split (fun hc => ?_) (fun hc => ?_) <;> (have hc2 := hc; try simp at hc2)) | (with_reducible refine GdT_split (fun hc => ?_) (fun hc => ?_) <;> (have hc2 := hc; try simp at hc2)) | (with_reducible refine WT_alt ?_ ?_) | omega)
    all_goals refine cl2 _ ?_
    all_goals clear cl2
    all_goals repeat' (first | (simp (disch := first | omega | assumption | (simp only [List.length_set]; omega) | (simp [*] <;> fail) | assumption) [-Bool.decide_and, -Bool.decide_or, -Bool.not_and, -Bool.not_or, toNat_pred, toNat_succ, wrap64, wr_new, wr_new0, ok_if, ok_ifn, iadV_sl, makeV_int, decT, decF, over_at, *, readN]) | (with_reducible refine Gd_split (fun hc => ?_) (fun hc => ?_) <;> (have hc2 := hc; try simp at hc2)) | (with_reducible refine Br_split (fun hc => ?_) (fun hc => ?_) <;> (have hc2 := hc; try simp at hc2)) | (with_reducible refine GdT_split (fun hc => ?_) (fun hc => ?_) <;> (have hc2 := hc; try simp at hc2)) | (with_reducible refine WT_alt ?_ ?_) | omega)
  · have hz : fofint .f64 (N : Int) = 0 := by rw [hN]; exact fofint_zero
    rw [hz] at cl0 cl1 clm cl2 h1 h2 g3 hcell
    clear hN hz
    refine CallT_pure (F := L99) (HasRd.f99) rfl (by first | rfl | (split <;> rfl) | simp) ?_; unfold L99; dsimp only []
    repeat' (first | (simp (disch := first | omega | assumption | (simp only [List.length_set]; omega) | (simp [*] <;> fail) | assumption) [-Bool.decide_and, -Bool.decide_or, -Bool.not_and, -Bool.not_or, toNat_pred, toNat_succ, wrap64, wr_new, wr_new0, ok_if, ok_ifn, iadV_sl, makeV_int, decT, decF, over_at, *, c_floor]) | (with_reducible refine Gd_split (fun hc => ?_) (fun hc => ?_) <;> (have hc2 := hc; try simp at hc2)) | (with_reducible refine Br_split (fun hc => ?_) (fun hc => ?_) <;> (have hc2 := hc; try simp at hc2)) | (with_reducible refine GdT_split (fun hc => ?_) (fun hc => ?_) <;> (have hc2 := hc; try simp at hc2)) | (with_reducible refine WT_alt ?_ ?_) | omega)
    refine cl0 _ ?_
    repeat' (first | (simp (disch := first | omega | assumption | (simp only [List.length_set]; omega) | (simp [*] <;> fail) | assumption) [-Bool.decide_and, -Bool.decide_or, -Bool.not_and, -Bool.not_or, toNat_pred, toNat_succ, wrap64, wr_new, wr_new0, ok_if, ok_ifn, iadV_sl, makeV_int, decT, decF, over_at, *]) | (with_reducible refine Gd_split (fun hc => ?_) (fun hc => ?_) <;> (have hc2 := hc; try simp at hc2)) | (with_reducible refine Br_split (fun hc => ?_) (fun hc => ?_) <;> (have hc2 := hc; try simp at hc2)) | (with_reducible refine GdT_split (fun hc => ?_) (fun hc => ?_) <;> (have hc2 := hc; try simp at hc2)) | (with_reducible refine WT_alt ?_ ?_) | omega)
    refine cl1 _ ?_
    clear cl0 cl1
    repeat' (first | (simp (disch := first | omega | assumption | (simp only [List.length_set]; omega) | (simp [*] <;> fail) | assumption) [-Bool.decide_and, -Bool.decide_or, -Bool.not_and, -Bool.not_or, toNat_pred, toNat_succ, wrap64, wr_new, wr_new0, ok_if, ok_ifn, iadV_sl, makeV_int, decT, decF, over_at, *, readN]) | (with_reducible refine Gd_split (fun hc => ?_) (fun hc => ?_) <;> (have hc2 := hc; try simp at hc2)) | (with_reducible refine Br_split (fun hc => ?_) (fun hc => ?_) <;> (have hc2 := hc; try simp at hc2)) | (with_reducible refine GdT_split (fun hc => ?_) (fun hc => ?_) <;> (have hc2 := hc; try simp at hc2)) | (with_reducible refine WT_alt ?_ ?_) | omega)
    all_goals refine clm _ ?_
    all_goals clear clm
    all_goals repeat' (first | (simp (disch := first | omega | assumption | (simp only [List.length_set]; omega) | (simp [*] <;> fail) | assumption) [-Bool.decide_and, -Bool.decide_or, -Bool.not_and, -Bool.not_or, toNat_pred, toNat_succ, wrap64, wr_new, wr_new0, ok_if, ok_ifn, iadV_sl, makeV_int, decT, decF, over_at, *]) | (with_reducible refine Gd_split (fun hc => ?_) (fun hc => ?_) <;> (have hc2 := hc; try simp at hc2)) | (with_reducible refine Br_split (fun hc => ?_) (fun hc => ?_) <;> (have hc2 := hc; try simp at hc2)) | (with_reducible refine GdT_split (fun hc => ?_) (fun hc => ?_) <;> (have hc2 := hc; try simp at hc2)) | (with_reducible refine WT_alt ?_ ?_) | omega)
    all_goals refine cl2 _ ?_
    all_goals clear cl2
    all_goals repeat' (first | (simp (disch := first | omega | assumption | (simp only [List.length_set]; omega) | (simp [*] <;> fail) | assumption) [-Bool.decide_and, -Bool.decide_or, -Bool.not_and, -Bool.not_or, toNat_pred, toNat_succ, wrap64, wr_new, wr_new0, ok_if, ok_ifn, iadV_sl, makeV_int, decT, decF, over_at, *, readN]) | (with_reducible refine Gd_split (fun hc => ?_) (fun hc => ?_) <;> (have hc2 := hc; try simp at hc2)) | (with_reducible refine Br_split (fun hc => ?_) (fun hc => ?_) <;> (have hc2 := hc; try simp at hc2)) | (with_reducible refine GdT_split (fun hc => ?_) (fun hc => ?_) <;> (have hc2 := hc; try simp at hc2)) | (with_reducible refine WT_alt ?_ ?_) | omega)
end
end Go.E
