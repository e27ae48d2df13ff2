/- Playing a loop: places that are wrapped, samples between two. -/
import Derived.Test.YtpjgmichaeiifaaMP
import Derived.Test.YtpjgmichaeiifaaMH
import Derived.Test.YtpjgmichaeiifaaMKw
set_option linter.unusedVariables false
set_option linter.unusedSimpArgs false
namespace Go.E
open Go
def L133 : LFn := ⟨1, (.seq (.reg [⟨(.some 2), (.mv (.c (.lf (.bool false)))), none⟩])
 (.seq (.reg [⟨(.some 3), (.mv (.t 0)), none⟩, ⟨(.some 4), (.call true 86 [(.t 3), (.c (.lf (.int .i64 0))), (.c (.lf (.int .i64 256)))]), none⟩, ⟨(.some 2), (.mv (.t 4)), none⟩])
 .ret)), [(.tmp 2)]⟩
def L134 : LFn := ⟨1, (.seq (.reg [⟨(.some 2), (.mv (.c (.lf (.bool false)))), none⟩])
 (.seq (.reg [⟨(.some 3), (.mv (.t 0)), none⟩, ⟨(.some 4), (.call true 127 [(.t 3), (.c (.lf (.int .i64 0))), (.c (.lf (.int .i64 256)))]), none⟩, ⟨(.some 2), (.mv (.t 4)), none⟩])
 .ret)), [(.tmp 2)]⟩
def L103 : LFn := ⟨4, (.seq (.reg [⟨(.some 8), (.mv (.c (.lf (.bool false)))), none⟩])
 (.seq (.reg [⟨(.some 9), (.mv (.t 0)), none⟩, ⟨(.some 10), (.len (.t 9)), none⟩, ⟨(.some 11), (.bin .geq (.t 10) (.c (.lf (.int .i64 1)))), none⟩, ⟨(.some 12), (.mv (.t 11)), none⟩, ⟨(.some 13), (.mv (.t 0)), (.some (12, true))⟩, ⟨(.some 14), (.call true 70 [(.t 13)]), (.some (12, true))⟩, ⟨(.some 15), (.pick (.t 12) (.t 14) (.c (.lf (.bool false)))), none⟩, ⟨(.some 16), (.mv (.t 15)), none⟩, ⟨(.some 17), (.mv (.t 1)), (.some (16, true))⟩, ⟨(.some 18), (.call true 86 [(.t 17), (.c (.lf (.int .i64 0))), (.c (.lf (.int .i64 16777216)))]), (.some (16, true))⟩, ⟨(.some 19), (.pick (.t 16) (.t 18) (.c (.lf (.bool false)))), none⟩, ⟨(.some 20), (.mv (.t 19)), none⟩, ⟨(.some 21), (.mv (.t 2)), (.some (20, true))⟩, ⟨(.some 22), (.call true 86 [(.t 21), (.c (.lf (.int .i64 0))), (.c (.lf (.int .i64 655360)))]), (.some (20, true))⟩, ⟨(.some 23), (.pick (.t 20) (.t 22) (.c (.lf (.bool false)))), none⟩, ⟨(.some 24), (.mv (.t 23)), none⟩, ⟨(.some 25), (.mv (.t 3)), (.some (24, true))⟩, ⟨(.some 26), (.call true 133 [(.t 25)]), (.some (24, true))⟩, ⟨(.some 27), (.pick (.t 24) (.t 26) (.c (.lf (.bool false)))), none⟩, ⟨(.some 8), (.mv (.t 27)), none⟩])
 .ret)), [(.tmp 8)]⟩
def L106 : LFn := ⟨4, (.seq (.reg [⟨(.some 8), (.mv (.c (.lf (.bool false)))), none⟩])
 (.seq (.reg [⟨(.some 9), (.mv (.t 0)), none⟩, ⟨(.some 10), (.call true 66 [(.t 9)]), none⟩, ⟨(.some 11), (.mv (.t 10)), none⟩, ⟨(.some 12), (.mv (.t 0)), (.some (11, true))⟩, ⟨(.some 13), (.len (.t 12)), (.some (11, true))⟩, ⟨(.some 14), (.bin .gtr (.t 13) (.c (.lf (.int .i64 0)))), (.some (11, true))⟩, ⟨(.some 15), (.pick (.t 11) (.t 14) (.c (.lf (.bool false)))), none⟩, ⟨(.some 16), (.mv (.t 15)), none⟩, ⟨(.some 17), (.mv (.t 1)), (.some (16, true))⟩, ⟨(.some 18), (.call true 127 [(.t 17), (.c (.lf (.int .i64 0))), (.c (.lf (.int .i64 16777216)))]), (.some (16, true))⟩, ⟨(.some 19), (.pick (.t 16) (.t 18) (.c (.lf (.bool false)))), none⟩, ⟨(.some 20), (.mv (.t 19)), none⟩, ⟨(.some 21), (.mv (.t 2)), (.some (20, true))⟩, ⟨(.some 22), (.call true 127 [(.t 21), (.c (.lf (.int .i64 0))), (.c (.lf (.int .i64 655360)))]), (.some (20, true))⟩, ⟨(.some 23), (.pick (.t 20) (.t 22) (.c (.lf (.bool false)))), none⟩, ⟨(.some 24), (.mv (.t 23)), none⟩, ⟨(.some 25), (.mv (.t 3)), (.some (24, true))⟩, ⟨(.some 26), (.call true 134 [(.t 25)]), (.some (24, true))⟩, ⟨(.some 27), (.pick (.t 24) (.t 26) (.c (.lf (.bool false)))), none⟩, ⟨(.some 8), (.mv (.t 27)), none⟩])
 .ret)), [(.tmp 8)]⟩
def L104 : LFn := ⟨3, (.seq (.reg [⟨(.some 6), (.mv (.c (.lf (.int .i64 0)))), none⟩])
 (.seq (.block 0 (.loop (.seq (.seq (.reg [⟨(.some 7), (.mv (.t 2)), none⟩, ⟨(.some 8), (.mv (.t 1)), none⟩, ⟨(.some 9), (.bin .mul (.c (.lf (.int .i64 65536))) (.t 8)), none⟩, ⟨(.some 10), (.bin .geq (.t 7) (.t 9)), none⟩])
 (.cond (.t 10) .skip (.exit 0)))
 (.block 1 (.reg [⟨(.some 11), (.mv (.t 2)), none⟩, ⟨(.some 12), (.mv (.t 1)), none⟩, ⟨(.some 13), (.mv (.t 0)), none⟩, ⟨(.some 14), (.bin .sub (.t 12) (.t 13)), none⟩, ⟨(.some 15), (.bin .mul (.c (.lf (.int .i64 65536))) (.t 14)), none⟩, ⟨(.some 16), (.bin .sub (.t 11) (.t 15)), none⟩, ⟨(.some 2), (.mv (.t 16)), none⟩])))))
 (.seq (.reg [⟨(.some 17), (.mv (.t 2)), none⟩, ⟨(.some 6), (.mv (.t 17)), none⟩])
 .ret))), [(.tmp 6)]⟩
def L105 : LFn := ⟨3, (.seq (.reg [⟨(.some 6), (.mv (.c (.lf (.flt .f32 0)))), none⟩])
 (.seq (.seq (.reg [⟨(.some 8), (.mv (.t 2)), none⟩, ⟨(.some 9), (.bin .rem (.t 8) (.c (.lf (.int .i64 65536)))), none⟩, ⟨(.some 10), (.bin .eql (.t 9) (.c (.lf (.int .i64 0)))), none⟩])
 (.cond (.t 10) (.seq (.reg [⟨(.some 11), (.mv (.t 0)), none⟩, ⟨(.some 6), (.mv (.t 11)), none⟩])
 .ret) .skip))
 (.seq (.reg [⟨(.some 12), (.mv (.t 2)), none⟩, ⟨(.some 13), (.bin .rem (.t 12) (.c (.lf (.int .i64 65536)))), none⟩, ⟨(.some 14), (.toflt .f32 (.t 13)), none⟩, ⟨(.some 15), (.bin .quo (.t 14) (.c (.lf (.flt .f32 1199570944)))), none⟩, ⟨(.some 7), (.mv (.t 15)), none⟩])
 (.seq (.reg [⟨(.some 16), (.mv (.t 0)), none⟩, ⟨(.some 17), (.mv (.t 1)), none⟩, ⟨(.some 18), (.mv (.t 0)), none⟩, ⟨(.some 19), (.bin .sub (.t 17) (.t 18)), none⟩, ⟨(.some 20), (.mv (.t 7)), none⟩, ⟨(.some 21), (.bin .mul (.t 19) (.t 20)), none⟩, ⟨(.some 22), (.bin .add (.t 16) (.t 21)), none⟩, ⟨(.some 6), (.mv (.t 22)), none⟩])
 .ret)))), [(.tmp 6)]⟩
def L109 : LFn := ⟨4, (.seq (.reg [⟨(.some 5), (.mv (.c (.lf (.flt .f32 0)))), none⟩])
 (.seq (.seq (.reg [⟨(.some 6), (.mv (.t 0)), none⟩, ⟨(.some 7), (.load false 1 (.t 1)), none⟩, ⟨(.some 8), (.bin .eql (.t 6) (.t 7)), none⟩])
 (.cond (.t 8) (.reg [⟨(.some 9), (.load false 1 (.t 2)), none⟩, ⟨(.some 0), (.mv (.t 9)), none⟩]) .skip))
 (.seq (.reg [⟨(.some 10), (.load false 1 (.t 3)), none⟩, ⟨(.some 11), (.mv (.t 0)), none⟩, ⟨(.some 12), (.iaddr 1 (.t 10) (.t 11)), none⟩, ⟨(.some 13), (.load false 1 (.t 12)), none⟩, ⟨(.some 5), (.mv (.t 13)), none⟩])
 .ret))), [(.tmp 5)]⟩
def L110 : LFn := ⟨3, (.seq (.reg [⟨(.some 4), (.mv (.c (.lf (.int .i64 0)))), none⟩])
 (.seq (.seq (.reg [⟨(.some 6), (.load false 1 (.t 1)), none⟩, ⟨(.some 7), (.bin .mul (.c (.lf (.int .i64 65536))) (.t 6)), none⟩, ⟨(.some 5), (.mv (.t 7)), none⟩])
 (.seq (.reg [⟨(.some 8), (.mv (.t 0)), none⟩, ⟨(.some 9), (.mv (.t 5)), none⟩, ⟨(.some 10), (.bin .geq (.t 8) (.t 9)), none⟩])
 (.cond (.t 10) (.reg [⟨(.some 11), (.load false 1 (.t 2)), none⟩, ⟨(.some 12), (.bin .mul (.c (.lf (.int .i64 65536))) (.t 11)), none⟩, ⟨(.some 13), (.mv (.t 0)), none⟩, ⟨(.some 14), (.mv (.t 5)), none⟩, ⟨(.some 15), (.bin .sub (.t 13) (.t 14)), none⟩, ⟨(.some 16), (.load false 1 (.t 1)), none⟩, ⟨(.some 17), (.load false 1 (.t 2)), none⟩, ⟨(.some 18), (.bin .sub (.t 16) (.t 17)), none⟩, ⟨(.some 19), (.bin .mul (.c (.lf (.int .i64 65536))) (.t 18)), none⟩, ⟨(.some 20), (.bin .rem (.t 15) (.t 19)), none⟩, ⟨(.some 21), (.bin .add (.t 12) (.t 20)), none⟩, ⟨(.some 0), (.mv (.t 21)), none⟩]) .skip)))
 (.seq (.reg [⟨(.some 22), (.mv (.t 0)), none⟩, ⟨(.some 4), (.mv (.t 22)), none⟩])
 .ret))), [(.tmp 4)]⟩
def L108 : LFn := ⟨5, (.seq (.reg [⟨(.some 10), (.mv (.c (.lf .nils))), none⟩, ⟨(.some 11), (.mv (.c (.lf (.int .i64 0)))), none⟩])
 (.seq (.reg [⟨(.some 12), (.mv (.c (.lf .nils))), none⟩])
 (.seq (.reg [⟨(.some 17), (.mv (.t 1)), none⟩, ⟨(.some 18), (.mv (.t 2)), none⟩, ⟨(.some 19), (.callv (.t 17) [(.t 18)]), none⟩, ⟨(.some 2), (.mv (.t 19)), none⟩])
 (.seq (.block 0 (.loop (.seq (.seq (.reg [⟨(.some 20), (.mv (.t 4)), none⟩, ⟨(.some 21), (.bin .gtr (.t 20) (.c (.lf (.int .i64 0)))), none⟩])
 (.cond (.t 21) .skip (.exit 0)))
 (.seq (.block 1 (.seq (.reg [⟨(.some 24), (.mv (.t 2)), none⟩, ⟨(.some 25), (.bin .quo (.t 24) (.c (.lf (.int .i64 65536)))), none⟩, ⟨(.some 26), (.mv (.t 2)), none⟩, ⟨(.some 27), (.bin .rem (.t 26) (.c (.lf (.int .i64 65536)))), none⟩, ⟨(.some 13), (.mv (.t 25)), none⟩, ⟨(.some 14), (.mv (.t 27)), none⟩])
 (.seq (.reg [⟨(.some 28), (.mv (.t 0)), none⟩, ⟨(.some 29), (.mv (.t 13)), none⟩, ⟨(.some 30), (.callv (.t 28) [(.t 29)]), none⟩, ⟨(.some 15), (.mv (.t 30)), none⟩])
 (.seq (.seq (.reg [⟨(.some 31), (.mv (.t 14)), none⟩, ⟨(.some 32), (.bin .gtr (.t 31) (.c (.lf (.int .i64 0)))), none⟩])
 (.cond (.t 32) (.seq (.reg [⟨(.some 33), (.mv (.t 14)), none⟩, ⟨(.some 34), (.toflt .f32 (.t 33)), none⟩, ⟨(.some 35), (.bin .quo (.t 34) (.c (.lf (.flt .f32 1199570944)))), none⟩, ⟨(.some 16), (.mv (.t 35)), none⟩])
 (.reg [⟨(.some 36), (.mv (.t 15)), none⟩, ⟨(.some 37), (.mv (.t 0)), none⟩, ⟨(.some 38), (.mv (.t 13)), none⟩, ⟨(.some 39), (.bin .add (.t 38) (.c (.lf (.int .i64 1)))), none⟩, ⟨(.some 40), (.callv (.t 37) [(.t 39)]), none⟩, ⟨(.some 41), (.mv (.t 15)), none⟩, ⟨(.some 42), (.bin .sub (.t 40) (.t 41)), none⟩, ⟨(.some 43), (.mv (.t 16)), none⟩, ⟨(.some 44), (.bin .mul (.t 42) (.t 43)), none⟩, ⟨(.some 45), (.bin .add (.t 36) (.t 44)), none⟩, ⟨(.some 15), (.mv (.t 45)), none⟩])) .skip))
 (.seq (.reg [⟨(.some 46), (.mv (.t 12)), none⟩, ⟨(.some 47), (.mv (.t 15)), none⟩, ⟨(.some 48), (.lit 24 1 1 [(.flt .f32 0)] [(0, (1, (.t 47)))]), none⟩, ⟨(.some 49), (.app 24 1 4 (.t 46) (.t 48)), none⟩, ⟨(.some 12), (.mv (.t 49)), none⟩])
 (.reg [⟨(.some 50), (.mv (.t 1)), none⟩, ⟨(.some 51), (.mv (.t 2)), none⟩, ⟨(.some 52), (.mv (.t 3)), none⟩, ⟨(.some 53), (.bin .add (.t 51) (.t 52)), none⟩, ⟨(.some 54), (.callv (.t 50) [(.t 53)]), none⟩, ⟨(.some 2), (.mv (.t 54)), none⟩]))))))
 (.reg [⟨(.some 22), (.mv (.t 4)), none⟩, ⟨(.some 23), (.bin .sub (.t 22) (.c (.lf (.int .i64 1)))), none⟩, ⟨(.some 4), (.mv (.t 23)), none⟩])))))
 (.seq (.reg [⟨(.some 55), (.mv (.t 12)), none⟩, ⟨(.some 56), (.mv (.t 2)), none⟩, ⟨(.some 10), (.mv (.t 55)), none⟩, ⟨(.some 11), (.mv (.t 56)), none⟩])
 .ret))))), [(.tmp 10), (.tmp 11)]⟩
def L49 : LFn := ⟨6, (.seq (.reg [⟨(.some 12), (.mv (.c (.lf .nils))), none⟩, ⟨(.some 13), (.mv (.c (.lf (.int .i64 0)))), none⟩, ⟨(.some 14), (.mv (.c (.lf (.bool false)))), none⟩])
 (.seq (.seq (.reg [⟨(.some 18), (.mv (.t 0)), none⟩, ⟨(.some 19), (.mv (.t 3)), none⟩, ⟨(.some 20), (.mv (.t 4)), none⟩, ⟨(.some 21), (.mv (.t 5)), none⟩, ⟨(.some 22), (.call true 103 [(.t 18), (.t 19), (.t 20), (.t 21)]), none⟩, ⟨(.some 23), (.una .not (.t 22)), none⟩, ⟨(.some 24), (.mv (.t 23)), none⟩, ⟨(.some 25), (.mv (.t 2)), (.some (24, false))⟩, ⟨(.some 26), (.mv (.t 0)), (.some (24, false))⟩, ⟨(.some 27), (.len (.t 26)), (.some (24, false))⟩, ⟨(.some 28), (.call true 86 [(.t 25), (.c (.lf (.int .i64 1))), (.t 27)]), (.some (24, false))⟩, ⟨(.some 29), (.una .not (.t 28)), (.some (24, false))⟩, ⟨(.some 30), (.pick (.t 24) (.c (.lf (.bool true))) (.t 29)), none⟩, ⟨(.some 31), (.mv (.t 30)), none⟩, ⟨(.some 32), (.mv (.t 1)), (.some (31, false))⟩, ⟨(.some 33), (.mv (.t 2)), (.some (31, false))⟩, ⟨(.some 34), (.bin .sub (.t 33) (.c (.lf (.int .i64 1)))), (.some (31, false))⟩, ⟨(.some 35), (.call true 86 [(.t 32), (.c (.lf (.int .i64 0))), (.t 34)]), (.some (31, false))⟩, ⟨(.some 36), (.una .not (.t 35)), (.some (31, false))⟩, ⟨(.some 37), (.pick (.t 31) (.c (.lf (.bool true))) (.t 36)), none⟩])
 (.cond (.t 37) (.seq (.reg [⟨(.some 12), (.mv (.c (.lf .nils))), none⟩, ⟨(.some 13), (.mv (.c (.lf (.int .i64 0)))), none⟩, ⟨(.some 14), (.mv (.c (.lf (.bool false)))), none⟩])
 .ret) .skip))
 (.seq (.reg [⟨(.some 38), (.lit 24 1 0 [] []), none⟩, ⟨(.some 15), (.mv (.t 38)), none⟩])
 (.seq (.reg [⟨(.some 39), (.mv (.t 1)), none⟩, ⟨(.some 40), (.mv (.t 2)), none⟩, ⟨(.some 41), (.mv (.t 3)), none⟩, ⟨(.some 42), (.call true 104 [(.t 39), (.t 40), (.t 41)]), none⟩, ⟨(.some 3), (.mv (.t 42)), none⟩])
 (.seq (.block 0 (.loop (.seq (.seq (.reg [⟨(.some 43), (.mv (.t 5)), none⟩, ⟨(.some 44), (.bin .gtr (.t 43) (.c (.lf (.int .i64 0)))), none⟩])
 (.cond (.t 44) .skip (.exit 0)))
 (.seq (.block 1 (.seq (.reg [⟨(.some 47), (.mv (.t 3)), none⟩, ⟨(.some 48), (.bin .quo (.t 47) (.c (.lf (.int .i64 65536)))), none⟩, ⟨(.some 16), (.mv (.t 48)), none⟩])
 (.seq (.reg [⟨(.some 49), (.mv (.t 16)), none⟩, ⟨(.some 50), (.bin .add (.t 49) (.c (.lf (.int .i64 1)))), none⟩, ⟨(.some 17), (.mv (.t 50)), none⟩])
 (.seq (.seq (.reg [⟨(.some 51), (.mv (.t 17)), none⟩, ⟨(.some 52), (.mv (.t 2)), none⟩, ⟨(.some 53), (.bin .eql (.t 51) (.t 52)), none⟩])
 (.cond (.t 53) (.reg [⟨(.some 54), (.mv (.t 1)), none⟩, ⟨(.some 17), (.mv (.t 54)), none⟩]) .skip))
 (.seq (.reg [⟨(.some 55), (.mv (.t 15)), none⟩, ⟨(.some 56), (.mv (.t 0)), none⟩, ⟨(.some 57), (.mv (.t 16)), none⟩, ⟨(.some 58), (.iaddr 1 (.t 56) (.t 57)), none⟩, ⟨(.some 59), (.load false 1 (.t 58)), none⟩, ⟨(.some 60), (.mv (.t 0)), none⟩, ⟨(.some 61), (.mv (.t 17)), none⟩, ⟨(.some 62), (.iaddr 1 (.t 60) (.t 61)), none⟩, ⟨(.some 63), (.load false 1 (.t 62)), none⟩, ⟨(.some 64), (.mv (.t 3)), none⟩, ⟨(.some 65), (.call true 105 [(.t 59), (.t 63), (.t 64)]), none⟩, ⟨(.some 66), (.lit 24 1 1 [(.flt .f32 0)] [(0, (1, (.t 65)))]), none⟩, ⟨(.some 67), (.app 24 1 4 (.t 55) (.t 66)), none⟩, ⟨(.some 15), (.mv (.t 67)), none⟩])
 (.reg [⟨(.some 68), (.mv (.t 1)), none⟩, ⟨(.some 69), (.mv (.t 2)), none⟩, ⟨(.some 70), (.mv (.t 3)), none⟩, ⟨(.some 71), (.mv (.t 4)), none⟩, ⟨(.some 72), (.bin .add (.t 70) (.t 71)), none⟩, ⟨(.some 73), (.call true 104 [(.t 68), (.t 69), (.t 72)]), none⟩, ⟨(.some 3), (.mv (.t 73)), none⟩]))))))
 (.reg [⟨(.some 45), (.mv (.t 5)), none⟩, ⟨(.some 46), (.bin .sub (.t 45) (.c (.lf (.int .i64 1)))), none⟩, ⟨(.some 5), (.mv (.t 46)), none⟩])))))
 (.seq (.reg [⟨(.some 74), (.mv (.t 15)), none⟩, ⟨(.some 75), (.mv (.t 3)), none⟩, ⟨(.some 12), (.mv (.t 74)), none⟩, ⟨(.some 13), (.mv (.t 75)), none⟩, ⟨(.some 14), (.mv (.c (.lf (.bool true)))), none⟩])
 .ret)))))), [(.tmp 12), (.tmp 13), (.tmp 14)]⟩
def L50 : LFn := ⟨6, (.seq (.reg [⟨(.some 6), (.box 28 (.t 0)), none⟩, ⟨(.some 7), (.box 2 (.t 1)), none⟩, ⟨(.some 8), (.box 2 (.t 2)), none⟩, ⟨(.some 12), (.mv (.c (.lf .nils))), none⟩, ⟨(.some 13), (.mv (.c (.lf (.int .i64 0)))), none⟩, ⟨(.some 14), (.mv (.c (.lf (.bool false)))), none⟩])
 (.seq (.seq (.any (.op ⟨(.some 17), (.load false 1 (.t 6)), none⟩ (.op ⟨(.some 18), (.mv (.t 3)), none⟩ (.op ⟨(.some 19), (.mv (.t 4)), none⟩ (.op ⟨(.some 20), (.mv (.t 5)), none⟩ (.op ⟨(.some 21), (.call true 106 [(.t 17), (.t 18), (.t 19), (.t 20)]), none⟩ (.op ⟨(.some 22), (.una .not (.t 21)), none⟩ (.op ⟨(.some 23), (.mv (.t 22)), none⟩ (.op ⟨(.some 24), (.load false 1 (.t 7)), (.some (23, false))⟩ (.op ⟨(.some 25), (.load false 1 (.t 8)), (.some (23, false))⟩ (.op ⟨(.some 27), (.load false 1 (.t 6)), (.some (23, false))⟩ (.op ⟨(.some 28), (.len (.t 27)), (.some (23, false))⟩ (.alt (.op ⟨(.some 26), (.lit 2 1 2 [(.int .i64 0), (.int .i64 0)] [(0, (1, (.t 24))), (1, (1, (.t 25)))]), (.some (23, false))⟩ (.op ⟨(.some 29), (.call true 76 [(.t 28)]), (.some (23, false))⟩ (.op ⟨(.some 30), (.call true 107 [(.t 26), (.c (.lf (.int .i64 0))), (.t 29)]), (.some (23, false))⟩ (.op ⟨(.some 31), (.una .not (.t 30)), (.some (23, false))⟩ (.op ⟨(.some 32), (.pick (.t 23) (.c (.lf (.bool true))) (.t 31)), none⟩ (.op ⟨(.some 33), (.mv (.t 32)), none⟩ (.op ⟨(.some 34), (.load false 1 (.t 7)), (.some (33, false))⟩ (.op ⟨(.some 35), (.load false 1 (.t 8)), (.some (33, false))⟩ (.op ⟨(.some 36), (.bin .geq (.t 34) (.t 35)), (.some (33, false))⟩ (.op ⟨(.some 37), (.pick (.t 33) (.c (.lf (.bool true))) (.t 36)), none⟩ .nil)))))))))) (.op ⟨(.some 29), (.call true 76 [(.t 28)]), (.some (23, false))⟩ (.op ⟨(.some 26), (.lit 2 1 2 [(.int .i64 0), (.int .i64 0)] [(0, (1, (.t 24))), (1, (1, (.t 25)))]), (.some (23, false))⟩ (.op ⟨(.some 30), (.call true 107 [(.t 26), (.c (.lf (.int .i64 0))), (.t 29)]), (.some (23, false))⟩ (.op ⟨(.some 31), (.una .not (.t 30)), (.some (23, false))⟩ (.op ⟨(.some 32), (.pick (.t 23) (.c (.lf (.bool true))) (.t 31)), none⟩ (.op ⟨(.some 33), (.mv (.t 32)), none⟩ (.op ⟨(.some 34), (.load false 1 (.t 7)), (.some (33, false))⟩ (.op ⟨(.some 35), (.load false 1 (.t 8)), (.some (33, false))⟩ (.op ⟨(.some 36), (.bin .geq (.t 34) (.t 35)), (.some (33, false))⟩ (.op ⟨(.some 37), (.pick (.t 33) (.c (.lf (.bool true))) (.t 36)), none⟩ .nil)))))))))))))))))))))))
 (.cond (.t 37) (.seq (.reg [⟨(.some 12), (.mv (.c (.lf .nils))), none⟩, ⟨(.some 13), (.mv (.c (.lf (.int .i64 0)))), none⟩, ⟨(.some 14), (.mv (.c (.lf (.bool false)))), none⟩])
 .ret) .skip))
 (.seq (.reg [⟨(.some 39), (.mkf 109 [(.t 8), (.t 7), (.t 6)]), none⟩, ⟨(.some 40), (.mkf 110 [(.t 8), (.t 7)]), none⟩, ⟨(.some 41), (.mv (.t 3)), none⟩, ⟨(.some 42), (.mv (.t 4)), none⟩, ⟨(.some 43), (.mv (.t 5)), none⟩, ⟨(.some 44), (.call false 108 [(.t 39), (.t 40), (.t 41), (.t 42), (.t 43)]), none⟩, ⟨(.some 38), (.mv (.t 44)), none⟩, ⟨(.some 45), (.ext (.t 38) 0), none⟩, ⟨(.some 46), (.ext (.t 38) 1), none⟩, ⟨(.some 15), (.mv (.t 45)), none⟩, ⟨(.some 16), (.mv (.t 46)), none⟩])
 (.seq (.reg [⟨(.some 47), (.mv (.t 15)), none⟩, ⟨(.some 48), (.mv (.t 16)), none⟩, ⟨(.some 12), (.mv (.t 47)), none⟩, ⟨(.some 13), (.mv (.t 48)), none⟩, ⟨(.some 14), (.mv (.c (.lf (.bool true)))), none⟩])
 .ret)))), [(.tmp 12), (.tmp 13), (.tmp 14)]⟩
class HasPl (S : Sys) : Prop extends HasP S, HasW S where
  f133 : S.fs 133 = some L133
  f134 : S.fs 134 = some L134
  f103 : S.fs 103 = some L103
  f106 : S.fs 106 = some L106
  f104 : S.fs 104 = some L104
  f105 : S.fs 105 = some L105
  f109 : S.fs 109 = some L109
  f110 : S.fs 110 = some L110
  f108 : S.fs 108 = some L108
  f49 : S.fs 49 = some L49
  f50 : S.fs 50 = some L50
def wrapI (f e a : Int) : Int := if a < 65536 * e then a else 65536 * f + (a - 65536 * e) % (65536 * (e - f))
theorem wrapI_range {f e a : Int} (h1 : 0 ≤ f) (h2 : f < e) (h3 : 0 ≤ a) : 0 ≤ wrapI f e a ∧ wrapI f e a < 65536 * e := by
  unfold wrapI
  split
  · omega
  · have p1 := Int.emod_nonneg (a - 65536 * e) (show 65536 * (e - f) ≠ 0 by omega)
    have p2 := Int.emod_lt_of_pos (a - 65536 * e) (show 0 < 65536 * (e - f) by omega)
    omega
theorem wrapI_step {f e a : Int} (h2 : f < e) (h3 : 65536 * e ≤ a) : wrapI f e (a - 65536 * (e - f)) = wrapI f e a := by
  unfold wrapI
  rw [if_neg (show ¬ a < 65536 * e by omega)]
  split
  · rename_i hlt
    rw [Int.emod_eq_of_lt (by omega) (by omega)]; omega
  · have e1 : a - 65536 * e = (a - 65536 * (e - f) - 65536 * e) + 65536 * (e - f) := by omega
    rw [e1]; simp
def betw (a b : Nat) (p : Int) : Nat := if p % 65536 = 0 then a else fbin .add .f32 a (fbin .mul .f32 (fbin .sub .f32 b a) (fbin .quo .f32 (fofint .f32 (p % 65536)) 1199570944))
def nxtI (f e i : Int) : Int := if i = e then f else i
def plN (xs : List Nat) (f e p : Int) : Nat := betw (xs.getD (p / 65536).toNat 0) (xs.getD (nxtI f e (p / 65536 + 1)).toNat 0) p
def atN (f e s a : Int) : Nat → Int
  | 0 => wrapI f e a
  | i + 1 => wrapI f e (atN f e s a i + s)
theorem atN_range {f e s a : Int} (h1 : 0 ≤ f) (h2 : f < e) (h3 : 0 ≤ a) (hs : 0 ≤ s) : ∀ {i : Nat}, 0 ≤ atN f e s a i ∧ atN f e s a i < 65536 * e
  | 0 => wrapI_range h1 h2 h3
  | i + 1 => wrapI_range h1 h2 (by have := atN_range h1 h2 h3 hs (i := i); omega)
section
variable {S : Sys} {lim : Nat} {h : Hp} {K : CV → Hp → Prop} [HasPl S] {l : Lf} {xs : List Nat}
@[simp] theorem c_l05Count {x : Int} : CallT S true 133 [.lf (.int .i64 x)] h lim K = K (.lf (.bool (decide (0 ≤ x ∧ x ≤ 256)))) h := by
  refine CallT_pure (F := L133) (HasPl.f133) rfl (by first | rfl | (split <;> rfl) | simp) ?_; unfold L133; dsimp only []
  repeat' (first | (simp (disch := first | omega | assumption | (simp only [List.length_set]; omega) | (simp [*] <;> fail) | assumption) [-Bool.decide_and, -Bool.decide_or, -Bool.not_and, -Bool.not_or, toNat_pred, toNat_succ, wrap64, wr_new, wr_new0, ok_if, ok_ifn, iadV_sl, makeV_int, decT, decF, over_at, *]) | (with_reducible refine Gd_split (fun hc => ?_) (fun hc => ?_) <;> (have hc2 := hc; try simp at hc2)) | (with_reducible refine Br_split (fun hc => ?_) (fun hc => ?_) <;> (have hc2 := hc; try simp at hc2)) | (with_reducible refine GdT_split (fun hc => ?_) (fun hc => ?_) <;> (have hc2 := hc; try simp at hc2)) | (with_reducible refine WT_alt ?_ ?_) | omega)
@[simp] theorem c_isCount {x : Int} : CallT S true 134 [.lf (.int .i64 x)] h lim K = K (.lf (.bool (decide (0 ≤ x ∧ x ≤ 256)))) h := by
  refine CallT_pure (F := L134) (HasPl.f134) rfl (by first | rfl | (split <;> rfl) | simp) ?_; unfold L134; dsimp only []
  repeat' (first | (simp (disch := first | omega | assumption | (simp only [List.length_set]; omega) | (simp [*] <;> fail) | assumption) [-Bool.decide_and, -Bool.decide_or, -Bool.not_and, -Bool.not_or, toNat_pred, toNat_succ, wrap64, wr_new, wr_new0, ok_if, ok_ifn, iadV_sl, makeV_int, decT, decF, over_at, *]) | (with_reducible refine Gd_split (fun hc => ?_) (fun hc => ?_) <;> (have hc2 := hc; try simp at hc2)) | (with_reducible refine Br_split (fun hc => ?_) (fun hc => ?_) <;> (have hc2 := hc; try simp at hc2)) | (with_reducible refine GdT_split (fun hc => ?_) (fun hc => ?_) <;> (have hc2 := hc; try simp at hc2)) | (with_reducible refine WT_alt ?_ ?_) | omega)
def isPl (n : Nat) (a s c : Int) : Prop := (1 ≤ n ∧ n ≤ 256) ∧ (0 ≤ a ∧ a ≤ 16777216) ∧ (0 ≤ s ∧ s ≤ 655360) ∧ 0 ≤ c ∧ c ≤ 256
instance {n : Nat} {a s c : Int} : Decidable (isPl n a s c) := by unfold isPl; infer_instance
theorem c_l05Play {a s c : Int} (hA : Arr h l 1 (xs.map fl)) : CallT S true 103 [.lf l, .lf (.int .i64 a), .lf (.int .i64 s), .lf (.int .i64 c)] h lim K = K (.lf (.bool (decide (isPl xs.length a s c)))) h := by
  by_cases hk : isPl xs.length a s c
  · rw [decide_eq_true hk]
    obtain ⟨⟨k1, k2⟩, k3, k4, k5⟩ := hk
    refine CallT_pure (F := L103) (HasPl.f103) rfl (by first | rfl | (split <;> rfl) | simp) ?_; unfold L103; dsimp only []
    repeat' (first | (simp (disch := first | omega | assumption | (simp only [List.length_set]; omega) | (simp [*] <;> fail) | assumption) [-Bool.decide_and, -Bool.decide_or, -Bool.not_and, -Bool.not_or, toNat_pred, toNat_succ, wrap64, wr_new, wr_new0, ok_if, ok_ifn, iadV_sl, makeV_int, decT, decF, over_at, *, hA.len, c_l01Few hA]) | (with_reducible refine Gd_split (fun hc => ?_) (fun hc => ?_) <;> (have hc2 := hc; try simp at hc2)) | (with_reducible refine Br_split (fun hc => ?_) (fun hc => ?_) <;> (have hc2 := hc; try simp at hc2)) | (with_reducible refine GdT_split (fun hc => ?_) (fun hc => ?_) <;> (have hc2 := hc; try simp at hc2)) | (with_reducible refine WT_alt ?_ ?_) | omega)
  · rw [decide_eq_false hk]
    unfold isPl at hk
    refine CallT_pure (F := L103) (HasPl.f103) rfl (by first | rfl | (split <;> rfl) | simp) ?_; unfold L103; dsimp only []
    repeat' (first | (simp (disch := first | omega | assumption | (simp only [List.length_set]; omega) | (simp [*] <;> fail) | assumption) [-Bool.decide_and, -Bool.decide_or, -Bool.not_and, -Bool.not_or, toNat_pred, toNat_succ, wrap64, wr_new, wr_new0, ok_if, ok_ifn, iadV_sl, makeV_int, decT, decF, over_at, *, hA.len, c_l01Few hA]) | (with_reducible refine Gd_split (fun hc => ?_) (fun hc => ?_) <;> (have hc2 := hc; try simp at hc2)) | (with_reducible refine Br_split (fun hc => ?_) (fun hc => ?_) <;> (have hc2 := hc; try simp at hc2)) | (with_reducible refine GdT_split (fun hc => ?_) (fun hc => ?_) <;> (have hc2 := hc; try simp at hc2)) | (with_reducible refine WT_alt ?_ ?_) | omega)
    all_goals first | omega | (rw [decide_eq_false_iff_not]; omega)
theorem c_isPlayed {a s c : Int} (hA : Arr h l 1 (xs.map fl)) : CallT S true 106 [.lf l, .lf (.int .i64 a), .lf (.int .i64 s), .lf (.int .i64 c)] h lim K = K (.lf (.bool (decide (isPl xs.length a s c)))) h := by
  by_cases hk : isPl xs.length a s c
  · rw [decide_eq_true hk]
    obtain ⟨⟨k1, k2⟩, k3, k4, k5⟩ := hk
    refine CallT_pure (F := L106) (HasPl.f106) rfl (by first | rfl | (split <;> rfl) | simp) ?_; unfold L106; dsimp only []
    repeat' (first | (simp (disch := first | omega | assumption | (simp only [List.length_set]; omega) | (simp [*] <;> fail) | assumption) [-Bool.decide_and, -Bool.decide_or, -Bool.not_and, -Bool.not_or, toNat_pred, toNat_succ, wrap64, wr_new, wr_new0, ok_if, ok_ifn, iadV_sl, makeV_int, decT, decF, over_at, *, hA.len, c_areSamples hA]) | (with_reducible refine Gd_split (fun hc => ?_) (fun hc => ?_) <;> (have hc2 := hc; try simp at hc2)) | (with_reducible refine Br_split (fun hc => ?_) (fun hc => ?_) <;> (have hc2 := hc; try simp at hc2)) | (with_reducible refine GdT_split (fun hc => ?_) (fun hc => ?_) <;> (have hc2 := hc; try simp at hc2)) | (with_reducible refine WT_alt ?_ ?_) | omega)
  · rw [decide_eq_false hk]
    unfold isPl at hk
    refine CallT_pure (F := L106) (HasPl.f106) rfl (by first | rfl | (split <;> rfl) | simp) ?_; unfold L106; dsimp only []
    repeat' (first | (simp (disch := first | omega | assumption | (simp only [List.length_set]; omega) | (simp [*] <;> fail) | assumption) [-Bool.decide_and, -Bool.decide_or, -Bool.not_and, -Bool.not_or, toNat_pred, toNat_succ, wrap64, wr_new, wr_new0, ok_if, ok_ifn, iadV_sl, makeV_int, decT, decF, over_at, *, hA.len, c_areSamples hA]) | (with_reducible refine Gd_split (fun hc => ?_) (fun hc => ?_) <;> (have hc2 := hc; try simp at hc2)) | (with_reducible refine Br_split (fun hc => ?_) (fun hc => ?_) <;> (have hc2 := hc; try simp at hc2)) | (with_reducible refine GdT_split (fun hc => ?_) (fun hc => ?_) <;> (have hc2 := hc; try simp at hc2)) | (with_reducible refine WT_alt ?_ ?_) | omega)
    all_goals first | omega | (rw [decide_eq_false_iff_not]; omega)
theorem c_l05Back {f e a : Int} (h1 : 0 ≤ f) (h2 : f < e) (h3 : e ≤ 256) (h4 : 0 ≤ a) (h5 : a ≤ 134217728) : CallT S true 104 [.lf (.int .i64 f), .lf (.int .i64 e), .lf (.int .i64 a)] h lim K = K (.lf (.int .i64 (wrapI f e a))) h := by
  refine CallT_pure (F := L104) (HasPl.f104) rfl (by first | rfl | (split <;> rfl) | simp) ?_; unfold L104; dsimp only []
  repeat' (first | (simp (disch := first | omega | assumption | (simp only [List.length_set]; omega) | (simp [*] <;> fail) | assumption) [-Bool.decide_and, -Bool.decide_or, -Bool.not_and, -Bool.not_or, toNat_pred, toNat_succ, wrap64, wr_new, wr_new0, ok_if, ok_ifn, iadV_sl, makeV_int, decT, decF, over_at, *]) | (with_reducible refine Gd_split (fun hc => ?_) (fun hc => ?_) <;> (have hc2 := hc; try simp at hc2)) | (with_reducible refine Br_split (fun hc => ?_) (fun hc => ?_) <;> (have hc2 := hc; try simp at hc2)) | (with_reducible refine GdT_split (fun hc => ?_) (fun hc => ?_) <;> (have hc2 := hc; try simp at hc2)) | (with_reducible refine WT_alt ?_ ?_) | omega)
  refine WL_rule (fun (v : Int) a' g => a' 0 = .lf (.int .i64 f) ∧ a' 1 = .lf (.int .i64 e) ∧ a' 2 = .lf (.int .i64 v) ∧ 0 ≤ v ∧ v ≤ 134217728 ∧ wrapI f e v = wrapI f e a ∧ g = h) (fun v => v.toNat) ?_ (x := a) ?_
  · rintro v a' g ⟨e0, e1, e2, q1, q2, q3, rfl⟩
    by_cases hlt : v < 65536 * e
    · have q4 : wrapI f e v = v := by unfold wrapI; rw [if_pos hlt]
      rw [q4] at q3
      repeat' (first | (simp (disch := first | omega | assumption | (simp only [List.length_set]; omega) | (simp [*] <;> fail) | assumption) [-Bool.decide_and, -Bool.decide_or, -Bool.not_and, -Bool.not_or, toNat_pred, toNat_succ, wrap64, wr_new, wr_new0, ok_if, ok_ifn, iadV_sl, makeV_int, decT, decF, over_at, *]) | (with_reducible refine Gd_split (fun hc => ?_) (fun hc => ?_) <;> (have hc2 := hc; try simp at hc2)) | (with_reducible refine Br_split (fun hc => ?_) (fun hc => ?_) <;> (have hc2 := hc; try simp at hc2)) | (with_reducible refine GdT_split (fun hc => ?_) (fun hc => ?_) <;> (have hc2 := hc; try simp at hc2)) | (with_reducible refine WT_alt ?_ ?_) | omega)
    · have q4 := wrapI_step h2 (show 65536 * e ≤ v by omega)
      rw [q3] at q4
      repeat' (first | (simp (disch := first | omega | assumption | (simp only [List.length_set]; omega) | (simp [*] <;> fail) | assumption) [-Bool.decide_and, -Bool.decide_or, -Bool.not_and, -Bool.not_or, toNat_pred, toNat_succ, wrap64, wr_new, wr_new0, ok_if, ok_ifn, iadV_sl, makeV_int, decT, decF, over_at, *]) | (with_reducible refine Gd_split (fun hc => ?_) (fun hc => ?_) <;> (have hc2 := hc; try simp at hc2)) | (with_reducible refine Br_split (fun hc => ?_) (fun hc => ?_) <;> (have hc2 := hc; try simp at hc2)) | (with_reducible refine GdT_split (fun hc => ?_) (fun hc => ?_) <;> (have hc2 := hc; try simp at hc2)) | (with_reducible refine WT_alt ?_ ?_) | omega)
      exact ⟨v - 65536 * (e - f), by omega, rfl, by omega, by omega, q4⟩
  · exact ⟨by simp, by simp, by simp, h4, h5, rfl, rfl⟩
theorem c_l05Between {x y : Nat} {p : Int} (hp : 0 ≤ p) (hp2 : p ≤ 134217728) : CallT S true 105 [.lf (.flt .f32 x), .lf (.flt .f32 y), .lf (.int .i64 p)] h lim K = K (.lf (.flt .f32 (betw x y p))) h := by
  unfold betw
  refine CallT_pure (F := L105) (HasPl.f105) rfl (by first | rfl | (split <;> rfl) | simp) ?_; unfold L105; dsimp only []
  have htm : p.tmod 65536 = p % 65536 := Int.tmod_eq_emod_of_nonneg hp
  by_cases hz : p % 65536 = 0
  · repeat' (first | (simp (disch := first | omega | assumption | (simp only [List.length_set]; omega) | (simp [*] <;> fail) | assumption) [-Bool.decide_and, -Bool.decide_or, -Bool.not_and, -Bool.not_or, toNat_pred, toNat_succ, wrap64, wr_new, wr_new0, ok_if, ok_ifn, iadV_sl, makeV_int, decT, decF, over_at, *]) | (with_reducible refine Gd_split (fun hc => ?_) (fun hc => ?_) <;> (have hc2 := hc; try simp at hc2)) | (with_reducible refine Br_split (fun hc => ?_) (fun hc => ?_) <;> (have hc2 := hc; try simp at hc2)) | (with_reducible refine GdT_split (fun hc => ?_) (fun hc => ?_) <;> (have hc2 := hc; try simp at hc2)) | (with_reducible refine WT_alt ?_ ?_) | omega)
  · repeat' (first | (simp (disch := first | omega | assumption | (simp only [List.length_set]; omega) | (simp [*] <;> fail) | assumption) [-Bool.decide_and, -Bool.decide_or, -Bool.not_and, -Bool.not_or, toNat_pred, toNat_succ, wrap64, wr_new, wr_new0, ok_if, ok_ifn, iadV_sl, makeV_int, decT, decF, over_at, *]) | (with_reducible refine Gd_split (fun hc => ?_) (fun hc => ?_) <;> (have hc2 := hc; try simp at hc2)) | (with_reducible refine Br_split (fun hc => ?_) (fun hc => ?_) <;> (have hc2 := hc; try simp at hc2)) | (with_reducible refine GdT_split (fun hc => ?_) (fun hc => ?_) <;> (have hc2 := hc; try simp at hc2)) | (with_reducible refine WT_alt ?_ ?_) | omega)
theorem c_pl1 {id8 id7 id6 : Nat} {f e : Int} {k : Int} (hA : Arr h l 1 (xs.map fl)) (hf : 0 ≤ f) (hfe : f < e) (he : e ≤ xs.length) (hk : 0 ≤ k ∧ k ≤ e) (r8 : rdCells h id8 0 1 = some [.int .i64 e]) (r7 : rdCells h id7 0 1 = some [.int .i64 f]) (r6 : rdCells h id6 0 1 = some [l]) (hK : K (.lf (.flt .f32 (xs.getD (nxtI f e k).toNat 0))) h) : CallT S false 109 [.lf (.int .i64 k), .lf (.ptr id8 0), .lf (.ptr id7 0), .lf (.ptr id6 0)] h lim K := by
  obtain ⟨j, hj⟩ : ∃ j : Nat, j = (nxtI f e k).toNat := ⟨_, rfl⟩
  rw [← hj] at hK
  have hjl : j < xs.length := by rw [hj]; unfold nxtI; split <;> omega
  have q1 := hA.at_ (k := .i64) hjl
  have q2 := hA.rd1 hjl
  have q3 : xs.getD j 0 = xs[j] := by simp [hjl]
  rw [q3] at hK
  refine CallT_of_body (F := L109) (HasPl.f109) rfl ?_; unfold L109; dsimp only []
  by_cases hke : k = e
  · have hj2 : f = (j : Int) := by rw [hj]; unfold nxtI; rw [if_pos hke]; omega
    clear hj q3
    subst hj2
    repeat' (first | (simp (disch := first | omega | assumption | (simp only [List.length_set]; omega) | (simp [*] <;> fail) | assumption) [-Bool.decide_and, -Bool.decide_or, -Bool.not_and, -Bool.not_or, toNat_pred, toNat_succ, wrap64, wr_new, wr_new0, ok_if, ok_ifn, iadV_sl, makeV_int, decT, decF, over_at, *, hA.len, fl]) | (with_reducible refine Gd_split (fun hc => ?_) (fun hc => ?_) <;> (have hc2 := hc; try simp at hc2)) | (with_reducible refine Br_split (fun hc => ?_) (fun hc => ?_) <;> (have hc2 := hc; try simp at hc2)) | (with_reducible refine GdT_split (fun hc => ?_) (fun hc => ?_) <;> (have hc2 := hc; try simp at hc2)) | (with_reducible refine WT_alt ?_ ?_) | omega)
  · have hj2 : k = (j : Int) := by rw [hj]; unfold nxtI; rw [if_neg hke]; omega
    clear hj q3
    subst hj2
    repeat' (first | (simp (disch := first | omega | assumption | (simp only [List.length_set]; omega) | (simp [*] <;> fail) | assumption) [-Bool.decide_and, -Bool.decide_or, -Bool.not_and, -Bool.not_or, toNat_pred, toNat_succ, wrap64, wr_new, wr_new0, ok_if, ok_ifn, iadV_sl, makeV_int, decT, decF, over_at, *, hA.len, fl]) | (with_reducible refine Gd_split (fun hc => ?_) (fun hc => ?_) <;> (have hc2 := hc; try simp at hc2)) | (with_reducible refine Br_split (fun hc => ?_) (fun hc => ?_) <;> (have hc2 := hc; try simp at hc2)) | (with_reducible refine GdT_split (fun hc => ?_) (fun hc => ?_) <;> (have hc2 := hc; try simp at hc2)) | (with_reducible refine WT_alt ?_ ?_) | omega)
theorem c_pl2 {id8 id7 : Nat} {f e a : Int} (h1 : 0 ≤ f) (h2 : f < e) (h3 : e ≤ 256) (h4 : 0 ≤ a) (h5 : a ≤ 134217728) (r8 : rdCells h id8 0 1 = some [.int .i64 e]) (r7 : rdCells h id7 0 1 = some [.int .i64 f]) (hK : K (.lf (.int .i64 (wrapI f e a))) h) : CallT S false 110 [.lf (.int .i64 a), .lf (.ptr id8 0), .lf (.ptr id7 0)] h lim K := by
  have hr := wrapI_range h1 h2 h4
  refine CallT_of_body (F := L110) (HasPl.f110) rfl ?_; unfold L110; dsimp only []
  by_cases hlt : a < 65536 * e
  · have q4 : wrapI f e a = a := by unfold wrapI; rw [if_pos hlt]
    rw [q4] at hK
    repeat' (first | (simp (disch := first | omega | assumption | (simp only [List.length_set]; omega) | (simp [*] <;> fail) | assumption) [-Bool.decide_and, -Bool.decide_or, -Bool.not_and, -Bool.not_or, toNat_pred, toNat_succ, wrap64, wr_new, wr_new0, ok_if, ok_ifn, iadV_sl, makeV_int, decT, decF, over_at, *]) | (with_reducible refine Gd_split (fun hc => ?_) (fun hc => ?_) <;> (have hc2 := hc; try simp at hc2)) | (with_reducible refine Br_split (fun hc => ?_) (fun hc => ?_) <;> (have hc2 := hc; try simp at hc2)) | (with_reducible refine GdT_split (fun hc => ?_) (fun hc => ?_) <;> (have hc2 := hc; try simp at hc2)) | (with_reducible refine WT_alt ?_ ?_) | omega)
  · have q4 : wrapI f e a = 65536 * f + (a - 65536 * e) % (65536 * (e - f)) := by unfold wrapI; rw [if_neg hlt]
    have htm : (a - 65536 * e).tmod (65536 * (e - f)) = (a - 65536 * e) % (65536 * (e - f)) := Int.tmod_eq_emod_of_nonneg (by omega)
    have hnz : ¬ 65536 * (e - f) = 0 := by omega
    have p1 := Int.emod_nonneg (a - 65536 * e) hnz
    have p2 := Int.emod_lt_of_pos (a - 65536 * e) (show 0 < 65536 * (e - f) by omega)
    rw [q4] at hK
    generalize (a - 65536 * e) % (65536 * (e - f)) = m at *
    repeat' (first | (simp (disch := first | omega | assumption | (simp only [List.length_set]; omega) | (simp [*] <;> fail) | assumption) [-Bool.decide_and, -Bool.decide_or, -Bool.not_and, -Bool.not_or, toNat_pred, toNat_succ, wrap64, wr_new, wr_new0, ok_if, ok_ifn, iadV_sl, makeV_int, decT, decF, over_at, *]) | (with_reducible refine Gd_split (fun hc => ?_) (fun hc => ?_) <;> (have hc2 := hc; try simp at hc2)) | (with_reducible refine Br_split (fun hc => ?_) (fun hc => ?_) <;> (have hc2 := hc; try simp at hc2)) | (with_reducible refine GdT_split (fun hc => ?_) (fun hc => ?_) <;> (have hc2 := hc; try simp at hc2)) | (with_reducible refine WT_alt ?_ ?_) | omega)
theorem c_play {id8 id7 id6 n : Nat} {f e a st : Int} (hA : Arr h l 1 (xs.map fl)) (hxl : xs.length ≤ 256) (hf : 0 ≤ f) (hfe : f < e) (he : e ≤ xs.length) (ha : 0 ≤ a ∧ a ≤ 16777216) (hs : 0 ≤ st ∧ st ≤ 655360) (hn : n ≤ 256) (r8 : rdCells h id8 0 1 = some [.int .i64 e]) (r7 : rdCells h id7 0 1 = some [.int .i64 f]) (r6 : rdCells h id6 0 1 = some [l]) (hl : lim ≤ h.length)
    (hK : ∀ o g, New h g o 24 1 ((tabTo (fun i => plN xs f e (atN f e st a i)) n).map fl) → K (.tup [.lf o, .lf (.int .i64 (atN f e st a n))]) g) :
    CallT S false 108 [.lf (.fn 109 [(id8, 0), (id7, 0), (id6, 0)]), .lf (.fn 110 [(id8, 0), (id7, 0)]), .lf (.int .i64 a), .lf (.int .i64 st), .lf (.int .i64 n)] h lim K := by
  have hf1 := HasPl.f109 (S := S)
  have hf2 := HasPl.f110 (S := S)
  have he2 : e ≤ 256 := by omega
  have hrg := fun i => atN_range (i := i) hf hfe ha.1 hs.1
  refine CallT_of_body (F := L108) (HasPl.f108) rfl ?_; unfold L108; dsimp only []
  repeat' (first | (simp (disch := first | omega | assumption | (simp only [List.length_set]; omega) | (simp [*] <;> fail) | assumption) [-Bool.decide_and, -Bool.decide_or, -Bool.not_and, -Bool.not_or, toNat_pred, toNat_succ, wrap64, wr_new, wr_new0, ok_if, ok_ifn, iadV_sl, makeV_int, decT, decF, over_at, *]) | (with_reducible refine Gd_split (fun hc => ?_) (fun hc => ?_) <;> (have hc2 := hc; try simp at hc2)) | (with_reducible refine Br_split (fun hc => ?_) (fun hc => ?_) <;> (have hc2 := hc; try simp at hc2)) | (with_reducible refine GdT_split (fun hc => ?_) (fun hc => ?_) <;> (have hc2 := hc; try simp at hc2)) | (with_reducible refine WT_alt ?_ ?_) | omega)
  refine c_pl2 hf hfe he2 ha.1 (by omega) r8 r7 ?_
  repeat' (first | (simp (disch := first | omega | assumption | (simp only [List.length_set]; omega) | (simp [*] <;> fail) | assumption) [-Bool.decide_and, -Bool.decide_or, -Bool.not_and, -Bool.not_or, toNat_pred, toNat_succ, wrap64, wr_new, wr_new0, ok_if, ok_ifn, iadV_sl, makeV_int, decT, decF, over_at, *]) | (with_reducible refine Gd_split (fun hc => ?_) (fun hc => ?_) <;> (have hc2 := hc; try simp at hc2)) | (with_reducible refine Br_split (fun hc => ?_) (fun hc => ?_) <;> (have hc2 := hc; try simp at hc2)) | (with_reducible refine GdT_split (fun hc => ?_) (fun hc => ?_) <;> (have hc2 := hc; try simp at hc2)) | (with_reducible refine WT_alt ?_ ?_) | omega)
  refine WL_forM 36028797018042388 (by decide +kernel) (n) (fun i b g => i ≤ n ∧ b 4 = .lf (.int .i64 (n - i)) ∧ b 2 = .lf (.int .i64 (atN f e st a i)) ∧ ∃ o, b 12 = .lf o ∧ New h g o 24 1 ((tabTo (fun i => plN xs f e (atN f e st a i)) i).map fl)) (fun _ _ _ hi => hi.1) ⟨by simp, by simp, by simp [atN], .nils, by simp, by simpa using New.nil (Kept.refl h)⟩ ?_
  rintro i b g ⟨hi, e4, e2, o, e12, hN⟩
  have hA1 := hA.kept hN.kept
  have r8' := hN.kept.rd r8
  have r7' := hN.kept.rd r7
  have r6' := hN.kept.rd r6
  have hlo := tabTo_len (f := fun i => plN xs f e (atN f e st a i)) (n := i)
  by_cases hlt : i < n
  · have s1 := tabTo_fl (f := fun i => plN xs f e (atN f e st a i)) (n := i)
    have hri := hrg i
    have hw : wrapI f e (atN f e st a i + st) = atN f e st a (i + 1) := rfl
    have c2 := fun K => c_pl2 (S := S) (lim := lim) (K := K) (id8 := id8) (id7 := id7) (h := g) (f := f) (e := e) (a := atN f e st a i + st)
    generalize atN f e st a i = p at *
    have htd : p.tdiv 65536 = p / 65536 := Int.tdiv_eq_ediv_of_nonneg hri.1
    have htm : p.tmod 65536 = p % 65536 := Int.tmod_eq_emod_of_nonneg hri.1
    have hm1 := Int.emod_nonneg p (show (65536 : Int) ≠ 0 by decide)
    have hm2 := Int.emod_lt_of_pos p (show (0 : Int) < 65536 by decide)
    have hd1 : 0 ≤ p / 65536 ∧ p / 65536 < e := by omega
    have hnx : nxtI f e (p / 65536) = p / 65536 := by unfold nxtI; rw [if_neg (by omega)]
    clear hK
    repeat' (first | (simp (disch := first | omega | assumption | (simp only [List.length_set]; omega) | (simp [*] <;> fail) | assumption) [-Bool.decide_and, -Bool.decide_or, -Bool.not_and, -Bool.not_or, toNat_pred, toNat_succ, wrap64, wr_new, wr_new0, ok_if, ok_ifn, iadV_sl, makeV_int, decT, decF, over_at, *]) | (with_reducible refine Gd_split (fun hc => ?_) (fun hc => ?_) <;> (have hc2 := hc; try simp at hc2)) | (with_reducible refine Br_split (fun hc => ?_) (fun hc => ?_) <;> (have hc2 := hc; try simp at hc2)) | (with_reducible refine GdT_split (fun hc => ?_) (fun hc => ?_) <;> (have hc2 := hc; try simp at hc2)) | (with_reducible refine WT_alt ?_ ?_) | omega)
    refine c_pl1 hA1 hf hfe he ⟨by omega, by omega⟩ r8' r7' r6' ?_
    rw [hnx]
    by_cases hz : p % 65536 = 0
    · have hv : plN xs f e p = xs.getD (p / 65536).toNat 0 := by unfold plN betw; rw [if_pos hz]
      rw [hv] at s1
      generalize xs.getD (p / 65536).toNat 0 = y at *
      repeat' (first | (simp (disch := first | omega | assumption | (simp only [List.length_set]; omega) | (simp [*] <;> fail) | assumption) [-Bool.decide_and, -Bool.decide_or, -Bool.not_and, -Bool.not_or, toNat_pred, toNat_succ, wrap64, wr_new, wr_new0, ok_if, ok_ifn, iadV_sl, makeV_int, decT, decF, over_at, *, leavesAll, fillL]) | (with_reducible refine Gd_split (fun hc => ?_) (fun hc => ?_) <;> (have hc2 := hc; try simp at hc2)) | (with_reducible refine Br_split (fun hc => ?_) (fun hc => ?_) <;> (have hc2 := hc; try simp at hc2)) | (with_reducible refine GdT_split (fun hc => ?_) (fun hc => ?_) <;> (have hc2 := hc; try simp at hc2)) | (with_reducible refine WT_alt ?_ ?_) | omega)
      refine oc_push hN hl (by simp; omega) fun q g1 hP hC => ?_
      rw [← s1] at hP
      have r8'' := hP.kept.rd r8
      have r7'' := hP.kept.rd r7
      clear s1
      repeat' (first | (simp (disch := first | omega | assumption | (simp only [List.length_set]; omega) | (simp [*] <;> fail) | assumption) [-Bool.decide_and, -Bool.decide_or, -Bool.not_and, -Bool.not_or, toNat_pred, toNat_succ, wrap64, wr_new, wr_new0, ok_if, ok_ifn, iadV_sl, makeV_int, decT, decF, over_at, *]) | (with_reducible refine Gd_split (fun hc => ?_) (fun hc => ?_) <;> (have hc2 := hc; try simp at hc2)) | (with_reducible refine Br_split (fun hc => ?_) (fun hc => ?_) <;> (have hc2 := hc; try simp at hc2)) | (with_reducible refine GdT_split (fun hc => ?_) (fun hc => ?_) <;> (have hc2 := hc; try simp at hc2)) | (with_reducible refine WT_alt ?_ ?_) | omega)
      refine c_pl2 hf hfe he2 (by omega) (by omega) r8'' r7'' ?_
      repeat' (first | (simp (disch := first | omega | assumption | (simp only [List.length_set]; omega) | (simp [*] <;> fail) | assumption) [-Bool.decide_and, -Bool.decide_or, -Bool.not_and, -Bool.not_or, toNat_pred, toNat_succ, wrap64, wr_new, wr_new0, ok_if, ok_ifn, iadV_sl, makeV_int, decT, decF, over_at, *]) | (with_reducible refine Gd_split (fun hc => ?_) (fun hc => ?_) <;> (have hc2 := hc; try simp at hc2)) | (with_reducible refine Br_split (fun hc => ?_) (fun hc => ?_) <;> (have hc2 := hc; try simp at hc2)) | (with_reducible refine GdT_split (fun hc => ?_) (fun hc => ?_) <;> (have hc2 := hc; try simp at hc2)) | (with_reducible refine WT_alt ?_ ?_) | omega)
      all_goals ((repeat' apply And.intro) <;> first | omega | assumption)
    · have hv : plN xs f e p = fbin .add .f32 (xs.getD (p / 65536).toNat 0) (fbin .mul .f32 (fbin .sub .f32 (xs.getD (nxtI f e (p / 65536 + 1)).toNat 0) (xs.getD (p / 65536).toNat 0)) (fbin .quo .f32 (fofint .f32 (p % 65536)) 1199570944)) := by unfold plN betw; rw [if_neg hz]
      rw [hv] at s1
      have hpos : 0 < p % 65536 := by omega
      generalize xs.getD (p / 65536).toNat 0 = y at *
      repeat' (first | (simp (disch := first | omega | assumption | (simp only [List.length_set]; omega) | (simp [*] <;> fail) | assumption) [-Bool.decide_and, -Bool.decide_or, -Bool.not_and, -Bool.not_or, toNat_pred, toNat_succ, wrap64, wr_new, wr_new0, ok_if, ok_ifn, iadV_sl, makeV_int, decT, decF, over_at, *, leavesAll, fillL]) | (with_reducible refine Gd_split (fun hc => ?_) (fun hc => ?_) <;> (have hc2 := hc; try simp at hc2)) | (with_reducible refine Br_split (fun hc => ?_) (fun hc => ?_) <;> (have hc2 := hc; try simp at hc2)) | (with_reducible refine GdT_split (fun hc => ?_) (fun hc => ?_) <;> (have hc2 := hc; try simp at hc2)) | (with_reducible refine WT_alt ?_ ?_) | omega)
      refine c_pl1 hA1 hf hfe he ⟨by omega, by omega⟩ r8' r7' r6' ?_
      generalize xs.getD (nxtI f e (p / 65536 + 1)).toNat 0 = z at *
      repeat' (first | (simp (disch := first | omega | assumption | (simp only [List.length_set]; omega) | (simp [*] <;> fail) | assumption) [-Bool.decide_and, -Bool.decide_or, -Bool.not_and, -Bool.not_or, toNat_pred, toNat_succ, wrap64, wr_new, wr_new0, ok_if, ok_ifn, iadV_sl, makeV_int, decT, decF, over_at, *, leavesAll, fillL]) | (with_reducible refine Gd_split (fun hc => ?_) (fun hc => ?_) <;> (have hc2 := hc; try simp at hc2)) | (with_reducible refine Br_split (fun hc => ?_) (fun hc => ?_) <;> (have hc2 := hc; try simp at hc2)) | (with_reducible refine GdT_split (fun hc => ?_) (fun hc => ?_) <;> (have hc2 := hc; try simp at hc2)) | (with_reducible refine WT_alt ?_ ?_) | omega)
      refine oc_push hN hl (by simp; omega) fun q g1 hP hC => ?_
      rw [← s1] at hP
      have r8'' := hP.kept.rd r8
      have r7'' := hP.kept.rd r7
      clear s1
      repeat' (first | (simp (disch := first | omega | assumption | (simp only [List.length_set]; omega) | (simp [*] <;> fail) | assumption) [-Bool.decide_and, -Bool.decide_or, -Bool.not_and, -Bool.not_or, toNat_pred, toNat_succ, wrap64, wr_new, wr_new0, ok_if, ok_ifn, iadV_sl, makeV_int, decT, decF, over_at, *]) | (with_reducible refine Gd_split (fun hc => ?_) (fun hc => ?_) <;> (have hc2 := hc; try simp at hc2)) | (with_reducible refine Br_split (fun hc => ?_) (fun hc => ?_) <;> (have hc2 := hc; try simp at hc2)) | (with_reducible refine GdT_split (fun hc => ?_) (fun hc => ?_) <;> (have hc2 := hc; try simp at hc2)) | (with_reducible refine WT_alt ?_ ?_) | omega)
      refine c_pl2 hf hfe he2 (by omega) (by omega) r8'' r7'' ?_
      repeat' (first | (simp (disch := first | omega | assumption | (simp only [List.length_set]; omega) | (simp [*] <;> fail) | assumption) [-Bool.decide_and, -Bool.decide_or, -Bool.not_and, -Bool.not_or, toNat_pred, toNat_succ, wrap64, wr_new, wr_new0, ok_if, ok_ifn, iadV_sl, makeV_int, decT, decF, over_at, *]) | (with_reducible refine Gd_split (fun hc => ?_) (fun hc => ?_) <;> (have hc2 := hc; try simp at hc2)) | (with_reducible refine Br_split (fun hc => ?_) (fun hc => ?_) <;> (have hc2 := hc; try simp at hc2)) | (with_reducible refine GdT_split (fun hc => ?_) (fun hc => ?_) <;> (have hc2 := hc; try simp at hc2)) | (with_reducible refine WT_alt ?_ ?_) | omega)
      all_goals ((repeat' apply And.intro) <;> first | omega | assumption)
  · have : i = n := by omega
    subst this
    repeat' (first | (simp (disch := first | omega | assumption | (simp only [List.length_set]; omega) | (simp [*] <;> fail) | assumption) [-Bool.decide_and, -Bool.decide_or, -Bool.not_and, -Bool.not_or, toNat_pred, toNat_succ, wrap64, wr_new, wr_new0, ok_if, ok_ifn, iadV_sl, makeV_int, decT, decF, over_at, *]) | (with_reducible refine Gd_split (fun hc => ?_) (fun hc => ?_) <;> (have hc2 := hc; try simp at hc2)) | (with_reducible refine Br_split (fun hc => ?_) (fun hc => ?_) <;> (have hc2 := hc; try simp at hc2)) | (with_reducible refine GdT_split (fun hc => ?_) (fun hc => ?_) <;> (have hc2 := hc; try simp at hc2)) | (with_reducible refine WT_alt ?_ ?_) | omega)
    all_goals ((repeat' apply And.intro) <;> first | omega | assumption | exact hK _ _ hN)
def okLo (n : Nat) (f e a s c : Int) : Prop := isPl n a s c ∧ (1 ≤ e ∧ e ≤ n) ∧ 0 ≤ f ∧ f ≤ e - 1
instance {n : Nat} {f e a s c : Int} : Decidable (okLo n f e a s c) := by unfold okLo; infer_instance
def plA (xs : List Nat) (f e a s c : Int) : List Nat × Int := if okLo xs.length f e a s c then (tabTo (fun i => plN xs f e (atN f e s a i)) c.toNat, atN f e s a c.toNat) else ([], 0)
theorem plA_len {xs : List Nat} {f e a s c : Int} : (plA xs f e a s c).1.length ≤ 256 := by
  unfold plA
  split
  · rename_i hk
    have := hk.1.2.2.2
    simp only [tabTo_len]; omega
  · simp
theorem c_specPlayLoop {f e a s c : Int} (hA : Arr h l 1 (xs.map fl)) (hl : lim ≤ h.length) (hT : okLo xs.length f e a s c → ∀ o g, New h g o 24 1 ((tabTo (fun i => plN xs f e (atN f e s a i)) c.toNat).map fl) → K (.tup [.lf o, .lf (.int .i64 (atN f e s a c.toNat)), .lf (.bool true)]) g) (hF : ¬ okLo xs.length f e a s c → K (.tup [.lf .nils, .lf (.int .i64 0), .lf (.bool false)]) h) :
    CallT S false 49 [.lf l, .lf (.int .i64 f), .lf (.int .i64 e), .lf (.int .i64 a), .lf (.int .i64 s), .lf (.int .i64 c)] h lim K := by
  by_cases h1 : isPl xs.length a s c
  · have h1' := h1
    obtain ⟨⟨k1, k2⟩, k3, k4, k5⟩ := h1
    by_cases h2 : 1 ≤ e ∧ e ≤ xs.length
    · by_cases h3 : 0 ≤ f ∧ f ≤ e - 1
      · have hT2 := hT ⟨h1', h2, h3⟩
        clear hT hF
        obtain ⟨n, rfl⟩ := Int.eq_ofNat_of_zero_le k5.1
        simp only [Int.toNat_natCast] at hT2
        have hfe : f < e := by omega
        have he2 : e ≤ 256 := by omega
        have hrg := fun i => atN_range (i := i) h3.1 hfe k3.1 k4.1
        have bk := fun p (q1 : 0 ≤ p) (q2 : p ≤ 134217728) h K lim => c_l05Back (S := S) (h := h) (K := K) (lim := lim) h3.1 hfe he2 q1 q2
        have b0 := bk a k3.1 (by omega)
        refine CallT_of_body (F := L49) (HasPl.f49) rfl ?_; unfold L49; dsimp only []
        repeat' (first | (simp (disch := first | omega | assumption | (simp only [List.length_set]; omega) | (simp [*] <;> fail) | assumption) [-Bool.decide_and, -Bool.decide_or, -Bool.not_and, -Bool.not_or, toNat_pred, toNat_succ, wrap64, wr_new, wr_new0, ok_if, ok_ifn, iadV_sl, makeV_int, decT, decF, over_at, *, c_l05Play hA, hA.len, leavesAll, fillL]) | (with_reducible refine Gd_split (fun hc => ?_) (fun hc => ?_) <;> (have hc2 := hc; try simp at hc2)) | (with_reducible refine Br_split (fun hc => ?_) (fun hc => ?_) <;> (have hc2 := hc; try simp at hc2)) | (with_reducible refine GdT_split (fun hc => ?_) (fun hc => ?_) <;> (have hc2 := hc; try simp at hc2)) | (with_reducible refine WT_alt ?_ ?_) | omega)
        refine WL_forM 18889465922682488061992 (by decide +kernel) (n) (fun i b g => i ≤ n ∧ b 5 = .lf (.int .i64 (n - i)) ∧ b 3 = .lf (.int .i64 (atN f e s a i)) ∧ ∃ o, b 15 = .lf o ∧ New h g o 24 1 ((tabTo (fun i => plN xs f e (atN f e s a i)) i).map fl)) (fun _ _ _ hi => hi.1) ⟨by simp, by simp, by simp [atN], .sl h.length 0 0 1, by simp, by simpa using New.lit0⟩ ?_
        rintro i b g ⟨hi, e5, e3, o, e15, hN⟩
        have hA1 := hA.kept hN.kept
        have hlo := tabTo_len (f := fun i => plN xs f e (atN f e s a i)) (n := i)
        by_cases hlt : i < n
        · have s1 := tabTo_fl (f := fun i => plN xs f e (atN f e s a i)) (n := i)
          have hri := hrg i
          have hw : wrapI f e (atN f e s a i + s) = atN f e s a (i + 1) := rfl
          have b1 := bk (atN f e s a i + s) (by omega) (by omega)
          rw [hw] at b1
          generalize atN f e s a i = p at *
          have htd : p.tdiv 65536 = p / 65536 := Int.tdiv_eq_ediv_of_nonneg hri.1
          obtain ⟨j1, hj1⟩ := Int.eq_ofNat_of_zero_le (show 0 ≤ p / 65536 by omega)
          have hjl1 : j1 < xs.length := by omega
          have hje : (j1 : Int) < e := by omega
          have bw := fun x y h K lim => c_l05Between (S := S) (h := h) (K := K) (lim := lim) (x := x) (y := y) hri.1 (show p ≤ 134217728 by omega)
          have hy1 : xs.getD j1 0 = xs[j1] := by simp [hjl1]
          have hpl : plN xs f e p = betw (xs.getD j1 0) (xs.getD (nxtI f e (p / 65536 + 1)).toNat 0) p := by unfold plN; rw [hj1, Int.toNat_natCast]
          rw [hpl, hy1] at s1
          rw [hj1] at htd s1
          clear hT2 hpl bk b0 hw
          by_cases hwr : (j1 : Int) + 1 = e
          · obtain ⟨j2, rfl⟩ := Int.eq_ofNat_of_zero_le h3.1
            have hjl2 : j2 < xs.length := by omega
            have hnx : nxtI (j2 : Int) e ((j1 : Int) + 1) = (j2 : Int) := by unfold nxtI; rw [if_pos hwr]
            have hy2 : xs.getD j2 0 = xs[j2] := by simp [hjl2]
            rw [hnx, Int.toNat_natCast, hy2] at s1
            repeat' (first | (simp (disch := first | omega | assumption | (simp only [List.length_set]; omega) | (simp [*] <;> fail) | assumption) [-Bool.decide_and, -Bool.decide_or, -Bool.not_and, -Bool.not_or, toNat_pred, toNat_succ, wrap64, wr_new, wr_new0, ok_if, ok_ifn, iadV_sl, makeV_int, decT, decF, over_at, *, hA1.len, hA1.at_, hA1.at_', hA1.rd, hA1.rdIn, hA1.rdIn0, hA1.rdA, hA1.rdInA, hA1.rdIn0A, hA1.rd1, fl, leavesAll, fillL]) | (with_reducible refine Gd_split (fun hc => ?_) (fun hc => ?_) <;> (have hc2 := hc; try simp at hc2)) | (with_reducible refine Br_split (fun hc => ?_) (fun hc => ?_) <;> (have hc2 := hc; try simp at hc2)) | (with_reducible refine GdT_split (fun hc => ?_) (fun hc => ?_) <;> (have hc2 := hc; try simp at hc2)) | (with_reducible refine WT_alt ?_ ?_) | omega)
            refine oc_push hN hl (by simp; omega) fun q g1 hP hC => ?_
            rw [← s1] at hP
            clear s1
            repeat' (first | (simp (disch := first | omega | assumption | (simp only [List.length_set]; omega) | (simp [*] <;> fail) | assumption) [-Bool.decide_and, -Bool.decide_or, -Bool.not_and, -Bool.not_or, toNat_pred, toNat_succ, wrap64, wr_new, wr_new0, ok_if, ok_ifn, iadV_sl, makeV_int, decT, decF, over_at, *]) | (with_reducible refine Gd_split (fun hc => ?_) (fun hc => ?_) <;> (have hc2 := hc; try simp at hc2)) | (with_reducible refine Br_split (fun hc => ?_) (fun hc => ?_) <;> (have hc2 := hc; try simp at hc2)) | (with_reducible refine GdT_split (fun hc => ?_) (fun hc => ?_) <;> (have hc2 := hc; try simp at hc2)) | (with_reducible refine WT_alt ?_ ?_) | omega)
            all_goals ((repeat' apply And.intro) <;> first | omega | assumption)
          · have hjl2 : j1 + 1 < xs.length := by omega
            have hnx : nxtI f e ((j1 : Int) + 1) = ((j1 + 1 : Nat) : Int) := by unfold nxtI; rw [if_neg hwr]; omega
            have hy2 : xs.getD (j1 + 1) 0 = xs[j1 + 1] := by simp [hjl2]
            rw [hnx, Int.toNat_natCast, hy2] at s1
            repeat' (first | (simp (disch := first | omega | assumption | (simp only [List.length_set]; omega) | (simp [*] <;> fail) | assumption) [-Bool.decide_and, -Bool.decide_or, -Bool.not_and, -Bool.not_or, toNat_pred, toNat_succ, wrap64, wr_new, wr_new0, ok_if, ok_ifn, iadV_sl, makeV_int, decT, decF, over_at, *, hA1.len, hA1.at_, hA1.at_', hA1.rd, hA1.rdIn, hA1.rdIn0, hA1.rdA, hA1.rdInA, hA1.rdIn0A, hA1.rd1, fl, leavesAll, fillL]) | (with_reducible refine Gd_split (fun hc => ?_) (fun hc => ?_) <;> (have hc2 := hc; try simp at hc2)) | (with_reducible refine Br_split (fun hc => ?_) (fun hc => ?_) <;> (have hc2 := hc; try simp at hc2)) | (with_reducible refine GdT_split (fun hc => ?_) (fun hc => ?_) <;> (have hc2 := hc; try simp at hc2)) | (with_reducible refine WT_alt ?_ ?_) | omega)
            refine oc_push hN hl (by simp; omega) fun q g1 hP hC => ?_
            rw [← s1] at hP
            clear s1
            repeat' (first | (simp (disch := first | omega | assumption | (simp only [List.length_set]; omega) | (simp [*] <;> fail) | assumption) [-Bool.decide_and, -Bool.decide_or, -Bool.not_and, -Bool.not_or, toNat_pred, toNat_succ, wrap64, wr_new, wr_new0, ok_if, ok_ifn, iadV_sl, makeV_int, decT, decF, over_at, *]) | (with_reducible refine Gd_split (fun hc => ?_) (fun hc => ?_) <;> (have hc2 := hc; try simp at hc2)) | (with_reducible refine Br_split (fun hc => ?_) (fun hc => ?_) <;> (have hc2 := hc; try simp at hc2)) | (with_reducible refine GdT_split (fun hc => ?_) (fun hc => ?_) <;> (have hc2 := hc; try simp at hc2)) | (with_reducible refine WT_alt ?_ ?_) | omega)
            all_goals ((repeat' apply And.intro) <;> first | omega | assumption)
        · have : i = n := by omega
          subst this
          repeat' (first | (simp (disch := first | omega | assumption | (simp only [List.length_set]; omega) | (simp [*] <;> fail) | assumption) [-Bool.decide_and, -Bool.decide_or, -Bool.not_and, -Bool.not_or, toNat_pred, toNat_succ, wrap64, wr_new, wr_new0, ok_if, ok_ifn, iadV_sl, makeV_int, decT, decF, over_at, *]) | (with_reducible refine Gd_split (fun hc => ?_) (fun hc => ?_) <;> (have hc2 := hc; try simp at hc2)) | (with_reducible refine Br_split (fun hc => ?_) (fun hc => ?_) <;> (have hc2 := hc; try simp at hc2)) | (with_reducible refine GdT_split (fun hc => ?_) (fun hc => ?_) <;> (have hc2 := hc; try simp at hc2)) | (with_reducible refine WT_alt ?_ ?_) | omega)
          all_goals ((repeat' apply And.intro) <;> first | omega | assumption | exact hT2 _ _ hN)
      · have hF2 := hF fun q => h3 q.2.2
        clear hT hF
        refine CallT_of_body (F := L49) (HasPl.f49) rfl ?_; unfold L49; dsimp only []
        repeat' (first | (simp (disch := first | omega | assumption | (simp only [List.length_set]; omega) | (simp [*] <;> fail) | assumption) [-Bool.decide_and, -Bool.decide_or, -Bool.not_and, -Bool.not_or, toNat_pred, toNat_succ, wrap64, wr_new, wr_new0, ok_if, ok_ifn, iadV_sl, makeV_int, decT, decF, over_at, *, c_l05Play hA, hA.len]) | (with_reducible refine Gd_split (fun hc => ?_) (fun hc => ?_) <;> (have hc2 := hc; try simp at hc2)) | (with_reducible refine Br_split (fun hc => ?_) (fun hc => ?_) <;> (have hc2 := hc; try simp at hc2)) | (with_reducible refine GdT_split (fun hc => ?_) (fun hc => ?_) <;> (have hc2 := hc; try simp at hc2)) | (with_reducible refine WT_alt ?_ ?_) | omega)
    · have hF2 := hF fun q => h2 q.2.1
      clear hT hF
      refine CallT_of_body (F := L49) (HasPl.f49) rfl ?_; unfold L49; dsimp only []
      repeat' (first | (simp (disch := first | omega | assumption | (simp only [List.length_set]; omega) | (simp [*] <;> fail) | assumption) [-Bool.decide_and, -Bool.decide_or, -Bool.not_and, -Bool.not_or, toNat_pred, toNat_succ, wrap64, wr_new, wr_new0, ok_if, ok_ifn, iadV_sl, makeV_int, decT, decF, over_at, *, c_l05Play hA, hA.len]) | (with_reducible refine Gd_split (fun hc => ?_) (fun hc => ?_) <;> (have hc2 := hc; try simp at hc2)) | (with_reducible refine Br_split (fun hc => ?_) (fun hc => ?_) <;> (have hc2 := hc; try simp at hc2)) | (with_reducible refine GdT_split (fun hc => ?_) (fun hc => ?_) <;> (have hc2 := hc; try simp at hc2)) | (with_reducible refine WT_alt ?_ ?_) | omega)
  · have hF2 := hF fun q => h1 q.1
    clear hT hF
    refine CallT_of_body (F := L49) (HasPl.f49) rfl ?_; unfold L49; dsimp only []
    repeat' (first | (simp (disch := first | omega | assumption | (simp only [List.length_set]; omega) | (simp [*] <;> fail) | assumption) [-Bool.decide_and, -Bool.decide_or, -Bool.not_and, -Bool.not_or, toNat_pred, toNat_succ, wrap64, wr_new, wr_new0, ok_if, ok_ifn, iadV_sl, makeV_int, decT, decF, over_at, *, c_l05Play hA, hA.len]) | (with_reducible refine Gd_split (fun hc => ?_) (fun hc => ?_) <;> (have hc2 := hc; try simp at hc2)) | (with_reducible refine Br_split (fun hc => ?_) (fun hc => ?_) <;> (have hc2 := hc; try simp at hc2)) | (with_reducible refine GdT_split (fun hc => ?_) (fun hc => ?_) <;> (have hc2 := hc; try simp at hc2)) | (with_reducible refine WT_alt ?_ ?_) | omega)
theorem allIn_two {p q x y : Int} : allIn p q [x, y] ↔ (p ≤ x ∧ x ≤ q) ∧ (p ≤ y ∧ y ≤ q) := by
  constructor
  · intro h
    exact ⟨h 0 (by simp) (by simp), h 1 (by simp) (by simp)⟩
  · rintro ⟨h1, h2⟩ i hi _
    match i, hi with
    | 0, _ => exact h1
    | 1, _ => exact h2
    | i + 2, hi => simp at hi; omega
theorem c_implPlayLoop {f e a s c : Int} (hA : Arr h l 1 (xs.map fl)) (hl : lim ≤ h.length) (hT : okLo xs.length f e a s c → ∀ o g, New h g o 24 1 ((tabTo (fun i => plN xs f e (atN f e s a i)) c.toNat).map fl) → K (.tup [.lf o, .lf (.int .i64 (atN f e s a c.toNat)), .lf (.bool true)]) g) (hF : ¬ okLo xs.length f e a s c → ∀ g, Kept h g → K (.tup [.lf .nils, .lf (.int .i64 0), .lf (.bool false)]) g) :
    CallT S false 50 [.lf l, .lf (.int .i64 f), .lf (.int .i64 e), .lf (.int .i64 a), .lf (.int .i64 s), .lf (.int .i64 c)] h lim K := by
  have hk1 : ∀ t, Kept h (h ++ t) := fun t => Kept.app h t
  have isp := fun t K lim => c_isPlayed (S := S) (K := K) (lim := lim) (a := a) (s := s) (c := c) (hA.app (t := t))
  by_cases h1 : isPl xs.length a s c
  · have h1' := h1
    obtain ⟨⟨k1, k2⟩, k3, k4, k5⟩ := h1
    have hlit : Arr (h ++ [⟨[l], .own 28 1⟩, ⟨[.int .i64 f], .own 2 1⟩, ⟨[.int .i64 e], .own 2 1⟩, ⟨[.int .i64 f, .int .i64 e], .own 2 1⟩]) (.sl (h.length + 3) 0 2 1) 1 ([f, e].map il) := by
      have hs : Sl (h ++ [⟨[l], .own 28 1⟩, ⟨[.int .i64 f], .own 2 1⟩, ⟨[.int .i64 e], .own 2 1⟩, ⟨[.int .i64 f, .int .i64 e], .own 2 1⟩]) (h.length + 3) 2 1 ([f, e].map il) := ⟨by simp [List.getElem?_append_right, il], fun i r hi => by
        rw [List.getElem?_map] at hi
        obtain ⟨x, _, rfl⟩ := Option.map_eq_some_iff.1 hi
        rfl⟩
      exact hs.arr (by simp)
    have aw := fun K lim => c_allWithin (S := S) (K := K) (lim := lim) (p := 0) (q := xs.length) hlit
    have hal : decide (allIn 0 (xs.length : Int) [f, e]) = decide ((0 ≤ f ∧ f ≤ xs.length) ∧ (0 ≤ e ∧ e ≤ xs.length)) := by congr 1; rw [allIn_two]
    rw [hal] at aw
    clear hal hlit
    by_cases hk : (1 ≤ e ∧ e ≤ xs.length) ∧ 0 ≤ f ∧ f ≤ e - 1
    · have hT2 := hT ⟨h1', hk⟩
      clear hT hF
      obtain ⟨n, rfl⟩ := Int.eq_ofNat_of_zero_le k5.1
      simp only [Int.toNat_natCast] at hT2
      obtain ⟨⟨j1, j2⟩, j3, j4⟩ := hk
      refine CallT_of_body (F := L50) (HasPl.f50) rfl ?_; unfold L50; dsimp only []
      repeat' (first | (simp (disch := first | omega | assumption | (simp only [List.length_set]; omega) | (simp [*] <;> fail) | assumption) [-Bool.decide_and, -Bool.decide_or, -Bool.not_and, -Bool.not_or, toNat_pred, toNat_succ, wrap64, wr_new, wr_new0, ok_if, ok_ifn, iadV_sl, makeV_int, decT, decF, over_at, *, hA.len, leavesAll, fillL]) | (with_reducible refine Gd_split (fun hc => ?_) (fun hc => ?_) <;> (have hc2 := hc; try simp at hc2)) | (with_reducible refine Br_split (fun hc => ?_) (fun hc => ?_) <;> (have hc2 := hc; try simp at hc2)) | (with_reducible refine GdT_split (fun hc => ?_) (fun hc => ?_) <;> (have hc2 := hc; try simp at hc2)) | (with_reducible refine WT_alt ?_ ?_) | omega)
      all_goals refine c_play hA.app k2 j3 (by omega) j2 k3 k4 (by omega) (by simp [rdCells, List.getElem?_append_right, Ob.live]) (by simp [rdCells, List.getElem?_append_right, Ob.live]) (by simp [rdCells, List.getElem?_append_right, Ob.live]) (by simp; omega) fun o g hN => ?_
      all_goals have hT3 := hT2 _ _ (hN.base (hk1 _))
      all_goals clear aw isp hT2
      all_goals repeat' (first | (simp (disch := first | omega | assumption | (simp only [List.length_set]; omega) | (simp [*] <;> fail) | assumption) [-Bool.decide_and, -Bool.decide_or, -Bool.not_and, -Bool.not_or, toNat_pred, toNat_succ, wrap64, wr_new, wr_new0, ok_if, ok_ifn, iadV_sl, makeV_int, decT, decF, over_at, *]) | (with_reducible refine Gd_split (fun hc => ?_) (fun hc => ?_) <;> (have hc2 := hc; try simp at hc2)) | (with_reducible refine Br_split (fun hc => ?_) (fun hc => ?_) <;> (have hc2 := hc; try simp at hc2)) | (with_reducible refine GdT_split (fun hc => ?_) (fun hc => ?_) <;> (have hc2 := hc; try simp at hc2)) | (with_reducible refine WT_alt ?_ ?_) | omega)
    · have hF2 := fun t => hF (fun q => hk q.2) _ (hk1 t)
      clear hT hF
      have hk' : ¬ (((0 ≤ f ∧ f ≤ xs.length) ∧ (0 ≤ e ∧ e ≤ xs.length)) ∧ f < e) := fun q => hk (by omega)
      refine CallT_of_body (F := L50) (HasPl.f50) rfl ?_; unfold L50; dsimp only []
      repeat' (first | (simp (disch := first | omega | assumption | (simp only [List.length_set]; omega) | (simp [*] <;> fail) | assumption) [-Bool.decide_and, -Bool.decide_or, -Bool.not_and, -Bool.not_or, toNat_pred, toNat_succ, wrap64, wr_new, wr_new0, ok_if, ok_ifn, iadV_sl, makeV_int, decT, decF, over_at, *, hA.len, leavesAll, fillL]) | (with_reducible refine Gd_split (fun hc => ?_) (fun hc => ?_) <;> (have hc2 := hc; try simp at hc2)) | (with_reducible refine Br_split (fun hc => ?_) (fun hc => ?_) <;> (have hc2 := hc; try simp at hc2)) | (with_reducible refine GdT_split (fun hc => ?_) (fun hc => ?_) <;> (have hc2 := hc; try simp at hc2)) | (with_reducible refine WT_alt ?_ ?_) | omega)
  · have hF2 := fun t => hF (fun q => h1 q.1) _ (hk1 t)
    clear hT hF
    refine CallT_of_body (F := L50) (HasPl.f50) rfl ?_; unfold L50; dsimp only []
    repeat' (first | (simp (disch := first | omega | assumption | (simp only [List.length_set]; omega) | (simp [*] <;> fail) | assumption) [-Bool.decide_and, -Bool.decide_or, -Bool.not_and, -Bool.not_or, toNat_pred, toNat_succ, wrap64, wr_new, wr_new0, ok_if, ok_ifn, iadV_sl, makeV_int, decT, decF, over_at, *, hA.len]) | (with_reducible refine Gd_split (fun hc => ?_) (fun hc => ?_) <;> (have hc2 := hc; try simp at hc2)) | (with_reducible refine Br_split (fun hc => ?_) (fun hc => ?_) <;> (have hc2 := hc; try simp at hc2)) | (with_reducible refine GdT_split (fun hc => ?_) (fun hc => ?_) <;> (have hc2 := hc; try simp at hc2)) | (with_reducible refine WT_alt ?_ ?_) | omega)
theorem d_specPlayLoop {f e a s c : Int} (hA : Arr h l 1 (xs.map fl)) (hl : lim ≤ h.length) (hK : ∀ o g, New h g o 24 1 ((plA xs f e a s c).1.map fl) → K (.tup [.lf o, .lf (.int .i64 (plA xs f e a s c).2), .lf (.bool (decide (okLo xs.length f e a s c)))]) g) :
    CallT S false 49 [.lf l, .lf (.int .i64 f), .lf (.int .i64 e), .lf (.int .i64 a), .lf (.int .i64 s), .lf (.int .i64 c)] h lim K :=
  c_specPlayLoop hA hl (fun hk o g hN => by simpa [hk, plA] using hK o g (by simpa [plA, hk] using hN)) (fun hk => by simpa [hk, plA] using hK .nils h (by simpa [plA, hk] using New.nil (Kept.refl h)))
theorem d_implPlayLoop {f e a s c : Int} (hA : Arr h l 1 (xs.map fl)) (hl : lim ≤ h.length) (hK : ∀ o g, New h g o 24 1 ((plA xs f e a s c).1.map fl) → K (.tup [.lf o, .lf (.int .i64 (plA xs f e a s c).2), .lf (.bool (decide (okLo xs.length f e a s c)))]) g) :
    CallT S false 50 [.lf l, .lf (.int .i64 f), .lf (.int .i64 e), .lf (.int .i64 a), .lf (.int .i64 s), .lf (.int .i64 c)] h lim K :=
  c_implPlayLoop hA hl (fun hk o g hN => by simpa [hk, plA] using hK o g (by simpa [plA, hk] using hN)) (fun hk g q => by simpa [hk, plA] using hK .nils g (by simpa [plA, hk] using New.nil q))
end
end Go.E
