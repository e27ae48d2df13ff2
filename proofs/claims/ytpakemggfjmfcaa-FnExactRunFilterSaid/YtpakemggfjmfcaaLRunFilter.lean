/- The law of RunFilter: what the evaluator finds. -/
import Derived.Test.YtpakemggfjmfcaaMRf
import Derived.Test.YtpakemggfjmfcaaMC
import Derived.Test.YtpakemggfjmfcaaEE
import Derived.Test.YtpakemggfjmfcaaProg
set_option linter.unusedVariables false
set_option linter.unusedSimpArgs false
namespace Go.E
open Go
def L16 : LFn := ⟨1, (.seq (.reg [⟨(.some 1), (.box 24 (.t 0)), none⟩, ⟨(.some 2), (.alloc 31 [(.flt .f32 0), (.flt .f32 0), (.flt .f32 0), (.flt .f32 0), (.flt .f32 0)]), none⟩])
 (.seq (.reg [⟨(.some 3), (.alloc 31 [(.flt .f32 0), (.flt .f32 0), (.flt .f32 0), (.flt .f32 0), (.flt .f32 0)]), none⟩])
 (.seq (.reg [⟨(.some 4), (.faddr 0 (.t 1)), none⟩, ⟨(.some 5), (.load false 1 (.t 4)), none⟩, ⟨(.some 6), (.faddr 0 (.t 3)), none⟩, ⟨none, (.store 1 (.t 6) (.t 5)), none⟩])
 (.seq (.reg [⟨(.some 7), (.faddr 1 (.t 1)), none⟩, ⟨(.some 8), (.load false 1 (.t 7)), none⟩, ⟨(.some 9), (.faddr 1 (.t 3)), none⟩, ⟨none, (.store 1 (.t 9) (.t 8)), none⟩])
 (.seq (.reg [⟨(.some 10), (.faddr 2 (.t 1)), none⟩, ⟨(.some 11), (.load false 1 (.t 10)), none⟩, ⟨(.some 12), (.faddr 2 (.t 3)), none⟩, ⟨none, (.store 1 (.t 12) (.t 11)), none⟩])
 (.seq (.reg [⟨(.some 13), (.faddr 3 (.t 1)), none⟩, ⟨(.some 14), (.load false 1 (.t 13)), none⟩, ⟨(.some 15), (.faddr 3 (.t 3)), none⟩, ⟨none, (.store 1 (.t 15) (.t 14)), none⟩])
 (.seq (.reg [⟨(.some 16), (.faddr 4 (.t 1)), none⟩, ⟨(.some 17), (.load false 1 (.t 16)), none⟩, ⟨(.some 18), (.faddr 4 (.t 3)), none⟩, ⟨none, (.store 1 (.t 18) (.t 17)), none⟩])
 (.seq (.reg [⟨(.some 19), (.load true 5 (.t 3)), none⟩, ⟨none, (.store 5 (.t 2) (.t 19)), none⟩])
 .ret)))))))), [(.cell 2 true 5)]⟩
def L17 : LFn := ⟨1, (.seq (.reg [⟨(.some 1), (.box 26 (.t 0)), none⟩, ⟨(.some 2), (.alloc 28 [(.flt .f32 0), (.flt .f32 0), (.flt .f32 0), (.flt .f32 0)]), none⟩])
 (.seq (.reg [⟨(.some 3), (.alloc 28 [(.flt .f32 0), (.flt .f32 0), (.flt .f32 0), (.flt .f32 0)]), none⟩])
 (.seq (.reg [⟨(.some 4), (.faddr 0 (.t 1)), none⟩, ⟨(.some 5), (.load false 1 (.t 4)), none⟩, ⟨(.some 6), (.faddr 0 (.t 3)), none⟩, ⟨none, (.store 1 (.t 6) (.t 5)), none⟩])
 (.seq (.reg [⟨(.some 7), (.faddr 1 (.t 1)), none⟩, ⟨(.some 8), (.load false 1 (.t 7)), none⟩, ⟨(.some 9), (.faddr 1 (.t 3)), none⟩, ⟨none, (.store 1 (.t 9) (.t 8)), none⟩])
 (.seq (.reg [⟨(.some 10), (.faddr 2 (.t 1)), none⟩, ⟨(.some 11), (.load false 1 (.t 10)), none⟩, ⟨(.some 12), (.faddr 2 (.t 3)), none⟩, ⟨none, (.store 1 (.t 12) (.t 11)), none⟩])
 (.seq (.reg [⟨(.some 13), (.faddr 3 (.t 1)), none⟩, ⟨(.some 14), (.load false 1 (.t 13)), none⟩, ⟨(.some 15), (.faddr 3 (.t 3)), none⟩, ⟨none, (.store 1 (.t 15) (.t 14)), none⟩])
 (.seq (.reg [⟨(.some 16), (.load true 4 (.t 3)), none⟩, ⟨none, (.store 4 (.t 2) (.t 16)), none⟩])
 .ret))))))), [(.cell 2 true 4)]⟩
def L21 : LFn := ⟨2, (.seq (.reg [⟨(.some 2), (.box 28 (.t 0)), none⟩, ⟨(.some 3), (.box 28 (.t 1)), none⟩, ⟨(.some 4), (.mv (.c (.lf (.bool false)))), none⟩])
 (.seq (.seq (.reg [⟨(.some 5), (.faddr 0 (.t 2)), none⟩, ⟨(.some 6), (.load false 1 (.t 5)), none⟩, ⟨(.some 7), (.toflt .f64 (.t 6)), none⟩, ⟨(.some 8), (.faddr 0 (.t 3)), none⟩, ⟨(.some 9), (.load false 1 (.t 8)), none⟩, ⟨(.some 10), (.toflt .f64 (.t 9)), none⟩, ⟨(.some 11), (.call true 91 [(.t 7), (.t 10)]), none⟩, ⟨(.some 12), (.una .not (.t 11)), none⟩])
 (.cond (.t 12) (.seq (.reg [⟨(.some 4), (.mv (.c (.lf (.bool false)))), none⟩])
 .ret) .skip))
 (.seq (.seq (.reg [⟨(.some 13), (.faddr 1 (.t 2)), none⟩, ⟨(.some 14), (.load false 1 (.t 13)), none⟩, ⟨(.some 15), (.toflt .f64 (.t 14)), none⟩, ⟨(.some 16), (.faddr 1 (.t 3)), none⟩, ⟨(.some 17), (.load false 1 (.t 16)), none⟩, ⟨(.some 18), (.toflt .f64 (.t 17)), none⟩, ⟨(.some 19), (.call true 91 [(.t 15), (.t 18)]), none⟩, ⟨(.some 20), (.una .not (.t 19)), none⟩])
 (.cond (.t 20) (.seq (.reg [⟨(.some 4), (.mv (.c (.lf (.bool false)))), none⟩])
 .ret) .skip))
 (.seq (.seq (.reg [⟨(.some 21), (.faddr 2 (.t 2)), none⟩, ⟨(.some 22), (.load false 1 (.t 21)), none⟩, ⟨(.some 23), (.toflt .f64 (.t 22)), none⟩, ⟨(.some 24), (.faddr 2 (.t 3)), none⟩, ⟨(.some 25), (.load false 1 (.t 24)), none⟩, ⟨(.some 26), (.toflt .f64 (.t 25)), none⟩, ⟨(.some 27), (.call true 91 [(.t 23), (.t 26)]), none⟩, ⟨(.some 28), (.una .not (.t 27)), none⟩])
 (.cond (.t 28) (.seq (.reg [⟨(.some 4), (.mv (.c (.lf (.bool false)))), none⟩])
 .ret) .skip))
 (.seq (.seq (.reg [⟨(.some 29), (.faddr 3 (.t 2)), none⟩, ⟨(.some 30), (.load false 1 (.t 29)), none⟩, ⟨(.some 31), (.toflt .f64 (.t 30)), none⟩, ⟨(.some 32), (.faddr 3 (.t 3)), none⟩, ⟨(.some 33), (.load false 1 (.t 32)), none⟩, ⟨(.some 34), (.toflt .f64 (.t 33)), none⟩, ⟨(.some 35), (.call true 91 [(.t 31), (.t 34)]), none⟩, ⟨(.some 36), (.una .not (.t 35)), none⟩])
 (.cond (.t 36) (.seq (.reg [⟨(.some 4), (.mv (.c (.lf (.bool false)))), none⟩])
 .ret) .skip))
 (.seq (.reg [⟨(.some 4), (.mv (.c (.lf (.bool true)))), none⟩])
 .ret)))))), [(.tmp 4)]⟩
def L3 : LFn := ⟨5, (.seq (.reg [⟨(.some 5), (.box 24 (.t 0)), none⟩, ⟨(.some 8), (.box 26 (.t 3)), none⟩, ⟨(.some 10), (.mv (.c (.lf (.bool false)))), none⟩])
 (.seq (.seq (.reg [⟨(.some 24), (.mv (.t 4)), none⟩, ⟨(.some 25), (.len (.t 24)), none⟩, ⟨(.some 26), (.bin .gtr (.t 25) (.c (.lf (.int .i64 1048576)))), none⟩])
 (.cond (.t 26) (.seq (.reg [⟨(.some 10), (.mv (.c (.lf (.bool true)))), none⟩])
 .ret) .skip))
 (.seq (.any (.op ⟨(.some 28), (.load true 5 (.t 5)), none⟩ (.op ⟨(.some 30), (.mv (.t 1)), none⟩ (.op ⟨(.some 31), (.mv (.t 2)), none⟩ (.op ⟨(.some 32), (.load true 4 (.t 8)), none⟩ (.op ⟨(.some 34), (.mv (.t 4)), none⟩ (.alt (.op ⟨(.some 29), (.call true 16 [(.t 28)]), none⟩ (.alt (.op ⟨(.some 33), (.call true 17 [(.t 32)]), none⟩ (.alt (.op ⟨(.some 35), (.call false 18 [(.t 34)]), none⟩ (.alt (.op ⟨(.some 36), (.call false 15 [(.t 29), (.t 30), (.t 31), (.t 33), (.t 35)]), none⟩ (.op ⟨(.some 27), (.mv (.t 36)), none⟩ (.op ⟨(.some 37), (.ext (.t 27) 0), none⟩ (.op ⟨(.some 38), (.ext (.t 27) 1), none⟩ (.op ⟨(.some 39), (.ext (.t 27) 2), none⟩ (.op ⟨(.some 12), (.alloc 28 [(.flt .f32 0), (.flt .f32 0), (.flt .f32 0), (.flt .f32 0)]), none⟩ (.op ⟨(.some 11), (.mv (.t 37)), none⟩ (.op ⟨none, (.store 4 (.t 12) (.t 38)), none⟩ (.op ⟨(.some 13), (.mv (.t 39)), none⟩ .nil))))))))) (.op ⟨(.some 12), (.alloc 28 [(.flt .f32 0), (.flt .f32 0), (.flt .f32 0), (.flt .f32 0)]), none⟩ (.op ⟨(.some 36), (.call false 15 [(.t 29), (.t 30), (.t 31), (.t 33), (.t 35)]), none⟩ (.op ⟨(.some 27), (.mv (.t 36)), none⟩ (.op ⟨(.some 37), (.ext (.t 27) 0), none⟩ (.op ⟨(.some 38), (.ext (.t 27) 1), none⟩ (.op ⟨(.some 39), (.ext (.t 27) 2), none⟩ (.op ⟨(.some 11), (.mv (.t 37)), none⟩ (.op ⟨none, (.store 4 (.t 12) (.t 38)), none⟩ (.op ⟨(.some 13), (.mv (.t 39)), none⟩ .nil))))))))))) (.op ⟨(.some 12), (.alloc 28 [(.flt .f32 0), (.flt .f32 0), (.flt .f32 0), (.flt .f32 0)]), none⟩ (.op ⟨(.some 35), (.call false 18 [(.t 34)]), none⟩ (.op ⟨(.some 36), (.call false 15 [(.t 29), (.t 30), (.t 31), (.t 33), (.t 35)]), none⟩ (.op ⟨(.some 27), (.mv (.t 36)), none⟩ (.op ⟨(.some 37), (.ext (.t 27) 0), none⟩ (.op ⟨(.some 38), (.ext (.t 27) 1), none⟩ (.op ⟨(.some 39), (.ext (.t 27) 2), none⟩ (.op ⟨(.some 11), (.mv (.t 37)), none⟩ (.op ⟨none, (.store 4 (.t 12) (.t 38)), none⟩ (.op ⟨(.some 13), (.mv (.t 39)), none⟩ .nil)))))))))))) (.op ⟨(.some 12), (.alloc 28 [(.flt .f32 0), (.flt .f32 0), (.flt .f32 0), (.flt .f32 0)]), none⟩ (.op ⟨(.some 33), (.call true 17 [(.t 32)]), none⟩ (.op ⟨(.some 35), (.call false 18 [(.t 34)]), none⟩ (.op ⟨(.some 36), (.call false 15 [(.t 29), (.t 30), (.t 31), (.t 33), (.t 35)]), none⟩ (.op ⟨(.some 27), (.mv (.t 36)), none⟩ (.op ⟨(.some 37), (.ext (.t 27) 0), none⟩ (.op ⟨(.some 38), (.ext (.t 27) 1), none⟩ (.op ⟨(.some 39), (.ext (.t 27) 2), none⟩ (.op ⟨(.some 11), (.mv (.t 37)), none⟩ (.op ⟨none, (.store 4 (.t 12) (.t 38)), none⟩ (.op ⟨(.some 13), (.mv (.t 39)), none⟩ .nil))))))))))))) (.op ⟨(.some 12), (.alloc 28 [(.flt .f32 0), (.flt .f32 0), (.flt .f32 0), (.flt .f32 0)]), none⟩ (.op ⟨(.some 29), (.call true 16 [(.t 28)]), none⟩ (.op ⟨(.some 33), (.call true 17 [(.t 32)]), none⟩ (.op ⟨(.some 35), (.call false 18 [(.t 34)]), none⟩ (.op ⟨(.some 36), (.call false 15 [(.t 29), (.t 30), (.t 31), (.t 33), (.t 35)]), none⟩ (.op ⟨(.some 27), (.mv (.t 36)), none⟩ (.op ⟨(.some 37), (.ext (.t 27) 0), none⟩ (.op ⟨(.some 38), (.ext (.t 27) 1), none⟩ (.op ⟨(.some 39), (.ext (.t 27) 2), none⟩ (.op ⟨(.some 11), (.mv (.t 37)), none⟩ (.op ⟨none, (.store 4 (.t 12) (.t 38)), none⟩ (.op ⟨(.some 13), (.mv (.t 39)), none⟩ .nil)))))))))))))))))))
 (.seq (.reg [⟨(.some 40), (.mv (.t 4)), none⟩, ⟨(.some 41), (.call false 18 [(.t 40)]), none⟩, ⟨(.some 14), (.mv (.t 41)), none⟩])
 (.seq (.any (.op ⟨(.some 43), (.load true 5 (.t 5)), none⟩ (.op ⟨(.some 45), (.mv (.t 1)), none⟩ (.op ⟨(.some 46), (.mv (.t 2)), none⟩ (.op ⟨(.some 47), (.load true 4 (.t 8)), none⟩ (.op ⟨(.some 49), (.mv (.t 14)), none⟩ (.alt (.op ⟨(.some 44), (.call true 16 [(.t 43)]), none⟩ (.alt (.op ⟨(.some 48), (.call true 17 [(.t 47)]), none⟩ (.alt (.op ⟨(.some 50), (.call false 19 [(.t 44), (.t 45), (.t 46), (.t 48), (.t 49)]), none⟩ (.op ⟨(.some 42), (.mv (.t 50)), none⟩ (.op ⟨(.some 51), (.ext (.t 42) 0), none⟩ (.op ⟨(.some 52), (.ext (.t 42) 1), none⟩ (.op ⟨(.some 53), (.ext (.t 42) 2), none⟩ (.op ⟨(.some 16), (.alloc 28 [(.flt .f32 0), (.flt .f32 0), (.flt .f32 0), (.flt .f32 0)]), none⟩ (.op ⟨(.some 15), (.mv (.t 51)), none⟩ (.op ⟨none, (.store 4 (.t 16) (.t 52)), none⟩ (.op ⟨(.some 17), (.mv (.t 53)), none⟩ .nil))))))))) (.op ⟨(.some 16), (.alloc 28 [(.flt .f32 0), (.flt .f32 0), (.flt .f32 0), (.flt .f32 0)]), none⟩ (.op ⟨(.some 50), (.call false 19 [(.t 44), (.t 45), (.t 46), (.t 48), (.t 49)]), none⟩ (.op ⟨(.some 42), (.mv (.t 50)), none⟩ (.op ⟨(.some 51), (.ext (.t 42) 0), none⟩ (.op ⟨(.some 52), (.ext (.t 42) 1), none⟩ (.op ⟨(.some 53), (.ext (.t 42) 2), none⟩ (.op ⟨(.some 15), (.mv (.t 51)), none⟩ (.op ⟨none, (.store 4 (.t 16) (.t 52)), none⟩ (.op ⟨(.some 17), (.mv (.t 53)), none⟩ .nil))))))))))) (.op ⟨(.some 16), (.alloc 28 [(.flt .f32 0), (.flt .f32 0), (.flt .f32 0), (.flt .f32 0)]), none⟩ (.op ⟨(.some 48), (.call true 17 [(.t 47)]), none⟩ (.op ⟨(.some 50), (.call false 19 [(.t 44), (.t 45), (.t 46), (.t 48), (.t 49)]), none⟩ (.op ⟨(.some 42), (.mv (.t 50)), none⟩ (.op ⟨(.some 51), (.ext (.t 42) 0), none⟩ (.op ⟨(.some 52), (.ext (.t 42) 1), none⟩ (.op ⟨(.some 53), (.ext (.t 42) 2), none⟩ (.op ⟨(.some 15), (.mv (.t 51)), none⟩ (.op ⟨none, (.store 4 (.t 16) (.t 52)), none⟩ (.op ⟨(.some 17), (.mv (.t 53)), none⟩ .nil)))))))))))) (.op ⟨(.some 16), (.alloc 28 [(.flt .f32 0), (.flt .f32 0), (.flt .f32 0), (.flt .f32 0)]), none⟩ (.op ⟨(.some 44), (.call true 16 [(.t 43)]), none⟩ (.op ⟨(.some 48), (.call true 17 [(.t 47)]), none⟩ (.op ⟨(.some 50), (.call false 19 [(.t 44), (.t 45), (.t 46), (.t 48), (.t 49)]), none⟩ (.op ⟨(.some 42), (.mv (.t 50)), none⟩ (.op ⟨(.some 51), (.ext (.t 42) 0), none⟩ (.op ⟨(.some 52), (.ext (.t 42) 1), none⟩ (.op ⟨(.some 53), (.ext (.t 42) 2), none⟩ (.op ⟨(.some 15), (.mv (.t 51)), none⟩ (.op ⟨none, (.store 4 (.t 16) (.t 52)), none⟩ (.op ⟨(.some 17), (.mv (.t 53)), none⟩ .nil))))))))))))))))))
 (.seq (.seq (.reg [⟨(.some 54), (.mv (.t 15)), none⟩, ⟨(.some 55), (.mv (.t 11)), none⟩, ⟨(.some 56), (.call true 20 [(.t 54), (.t 55)]), none⟩, ⟨(.some 57), (.una .not (.t 56)), none⟩, ⟨(.some 58), (.mv (.t 57)), none⟩, ⟨(.some 59), (.load true 4 (.t 16)), (.some (58, false))⟩, ⟨(.some 60), (.load true 4 (.t 12)), (.some (58, false))⟩, ⟨(.some 61), (.call true 21 [(.t 59), (.t 60)]), (.some (58, false))⟩, ⟨(.some 62), (.una .not (.t 61)), (.some (58, false))⟩, ⟨(.some 63), (.pick (.t 58) (.c (.lf (.bool true))) (.t 62)), none⟩, ⟨(.some 64), (.mv (.t 63)), none⟩, ⟨(.some 65), (.mv (.t 17)), (.some (64, false))⟩, ⟨(.some 66), (.mv (.t 13)), (.some (64, false))⟩, ⟨(.some 67), (.beq true (.t 65) (.t 66)), (.some (64, false))⟩, ⟨(.some 68), (.pick (.t 64) (.c (.lf (.bool true))) (.t 67)), none⟩])
 (.cond (.t 68) (.seq (.reg [⟨(.some 10), (.mv (.c (.lf (.bool false)))), none⟩])
 .ret) .skip))
 (.seq (.seq (.reg [⟨(.some 69), (.mv (.t 14)), none⟩, ⟨(.some 70), (.mv (.t 4)), none⟩, ⟨(.some 71), (.call false 18 [(.t 70)]), none⟩, ⟨(.some 72), (.call true 20 [(.t 69), (.t 71)]), none⟩, ⟨(.some 73), (.una .not (.t 72)), none⟩])
 (.cond (.t 73) (.seq (.reg [⟨(.some 10), (.mv (.c (.lf (.bool false)))), none⟩])
 .ret) .skip))
 (.seq (.reg [⟨(.some 18), (.mv (.c (.lf (.int .i64 1)))), none⟩])
 (.seq (.reg [⟨(.some 74), (.mv (.t 14)), none⟩, ⟨(.some 75), (.mv (.t 18)), none⟩, ⟨(.some 76), (.call false 22 [(.t 74), (.t 75)]), none⟩, ⟨(.some 18), (.mv (.t 76)), none⟩])
 (.seq (.seq (.reg [⟨(.some 77), (.mv (.t 18)), none⟩, ⟨(.some 78), (.bin .lss (.t 77) (.c (.lf (.int .i64 0)))), none⟩, ⟨(.some 79), (.mv (.t 78)), none⟩, ⟨(.some 80), (.mv (.t 15)), (.some (79, false))⟩, ⟨(.some 81), (.mv (.t 11)), (.some (79, false))⟩, ⟨(.some 82), (.call true 20 [(.t 80), (.t 81)]), (.some (79, false))⟩, ⟨(.some 83), (.una .not (.t 82)), (.some (79, false))⟩, ⟨(.some 84), (.pick (.t 79) (.c (.lf (.bool true))) (.t 83)), none⟩, ⟨(.some 85), (.mv (.t 84)), none⟩, ⟨(.some 86), (.load true 4 (.t 16)), (.some (85, false))⟩, ⟨(.some 87), (.load true 4 (.t 12)), (.some (85, false))⟩, ⟨(.some 88), (.call true 21 [(.t 86), (.t 87)]), (.some (85, false))⟩, ⟨(.some 89), (.una .not (.t 88)), (.some (85, false))⟩, ⟨(.some 90), (.pick (.t 85) (.c (.lf (.bool true))) (.t 89)), none⟩, ⟨(.some 91), (.mv (.t 90)), none⟩, ⟨(.some 92), (.mv (.t 17)), (.some (91, false))⟩, ⟨(.some 93), (.mv (.t 13)), (.some (91, false))⟩, ⟨(.some 94), (.beq true (.t 92) (.t 93)), (.some (91, false))⟩, ⟨(.some 95), (.pick (.t 91) (.c (.lf (.bool true))) (.t 94)), none⟩])
 (.cond (.t 95) (.seq (.reg [⟨(.some 10), (.mv (.c (.lf (.bool false)))), none⟩])
 .ret) .skip))
 (.seq (.reg [⟨(.some 19), (.mv (.c (.lf (.int .i64 1)))), none⟩])
 (.seq (.reg [⟨(.some 96), (.mv (.t 15)), none⟩, ⟨(.some 97), (.mv (.t 19)), none⟩, ⟨(.some 98), (.call false 22 [(.t 96), (.t 97)]), none⟩, ⟨(.some 19), (.mv (.t 98)), none⟩])
 (.seq (.reg [⟨(.some 20), (.mv (.c (.lf (.int .i64 1)))), none⟩])
 (.seq (.reg [⟨(.some 99), (.mv (.t 15)), none⟩, ⟨(.some 100), (.mv (.t 20)), none⟩, ⟨(.some 101), (.call true 23 [(.t 99), (.t 100)]), none⟩, ⟨(.some 20), (.mv (.t 101)), none⟩])
 (.seq (.seq (.reg [⟨(.some 102), (.mv (.t 20)), none⟩, ⟨(.some 103), (.bin .lss (.t 102) (.c (.lf (.int .i64 0)))), none⟩])
 (.cond (.t 103) (.seq (.reg [⟨(.some 10), (.mv (.c (.lf (.bool false)))), none⟩])
 .ret) .skip))
 (.seq (.seq (.reg [⟨(.some 104), (.mv (.t 20)), none⟩, ⟨(.some 105), (.mv (.t 19)), none⟩, ⟨(.some 106), (.bin .neq (.t 104) (.t 105)), none⟩])
 (.cond (.t 106) (.seq (.reg [⟨(.some 10), (.mv (.c (.lf (.bool false)))), none⟩])
 .ret) .skip))
 (.seq (.any (.op ⟨(.some 108), (.load true 5 (.t 5)), none⟩ (.op ⟨(.some 110), (.mv (.t 1)), none⟩ (.op ⟨(.some 111), (.mv (.t 2)), none⟩ (.op ⟨(.some 112), (.load true 4 (.t 8)), none⟩ (.op ⟨(.some 114), (.mv (.t 4)), none⟩ (.alt (.op ⟨(.some 109), (.call true 16 [(.t 108)]), none⟩ (.alt (.op ⟨(.some 113), (.call true 17 [(.t 112)]), none⟩ (.alt (.op ⟨(.some 115), (.call false 18 [(.t 114)]), none⟩ (.alt (.op ⟨(.some 116), (.call false 19 [(.t 109), (.t 110), (.t 111), (.t 113), (.t 115)]), none⟩ (.op ⟨(.some 107), (.mv (.t 116)), none⟩ (.op ⟨(.some 117), (.ext (.t 107) 0), none⟩ (.op ⟨(.some 118), (.ext (.t 107) 1), none⟩ (.op ⟨(.some 119), (.ext (.t 107) 2), none⟩ (.op ⟨(.some 22), (.alloc 28 [(.flt .f32 0), (.flt .f32 0), (.flt .f32 0), (.flt .f32 0)]), none⟩ (.op ⟨(.some 21), (.mv (.t 117)), none⟩ (.op ⟨none, (.store 4 (.t 22) (.t 118)), none⟩ (.op ⟨(.some 23), (.mv (.t 119)), none⟩ .nil))))))))) (.op ⟨(.some 22), (.alloc 28 [(.flt .f32 0), (.flt .f32 0), (.flt .f32 0), (.flt .f32 0)]), none⟩ (.op ⟨(.some 116), (.call false 19 [(.t 109), (.t 110), (.t 111), (.t 113), (.t 115)]), none⟩ (.op ⟨(.some 107), (.mv (.t 116)), none⟩ (.op ⟨(.some 117), (.ext (.t 107) 0), none⟩ (.op ⟨(.some 118), (.ext (.t 107) 1), none⟩ (.op ⟨(.some 119), (.ext (.t 107) 2), none⟩ (.op ⟨(.some 21), (.mv (.t 117)), none⟩ (.op ⟨none, (.store 4 (.t 22) (.t 118)), none⟩ (.op ⟨(.some 23), (.mv (.t 119)), none⟩ .nil))))))))))) (.op ⟨(.some 22), (.alloc 28 [(.flt .f32 0), (.flt .f32 0), (.flt .f32 0), (.flt .f32 0)]), none⟩ (.op ⟨(.some 115), (.call false 18 [(.t 114)]), none⟩ (.op ⟨(.some 116), (.call false 19 [(.t 109), (.t 110), (.t 111), (.t 113), (.t 115)]), none⟩ (.op ⟨(.some 107), (.mv (.t 116)), none⟩ (.op ⟨(.some 117), (.ext (.t 107) 0), none⟩ (.op ⟨(.some 118), (.ext (.t 107) 1), none⟩ (.op ⟨(.some 119), (.ext (.t 107) 2), none⟩ (.op ⟨(.some 21), (.mv (.t 117)), none⟩ (.op ⟨none, (.store 4 (.t 22) (.t 118)), none⟩ (.op ⟨(.some 23), (.mv (.t 119)), none⟩ .nil)))))))))))) (.op ⟨(.some 22), (.alloc 28 [(.flt .f32 0), (.flt .f32 0), (.flt .f32 0), (.flt .f32 0)]), none⟩ (.op ⟨(.some 113), (.call true 17 [(.t 112)]), none⟩ (.op ⟨(.some 115), (.call false 18 [(.t 114)]), none⟩ (.op ⟨(.some 116), (.call false 19 [(.t 109), (.t 110), (.t 111), (.t 113), (.t 115)]), none⟩ (.op ⟨(.some 107), (.mv (.t 116)), none⟩ (.op ⟨(.some 117), (.ext (.t 107) 0), none⟩ (.op ⟨(.some 118), (.ext (.t 107) 1), none⟩ (.op ⟨(.some 119), (.ext (.t 107) 2), none⟩ (.op ⟨(.some 21), (.mv (.t 117)), none⟩ (.op ⟨none, (.store 4 (.t 22) (.t 118)), none⟩ (.op ⟨(.some 23), (.mv (.t 119)), none⟩ .nil))))))))))))) (.op ⟨(.some 22), (.alloc 28 [(.flt .f32 0), (.flt .f32 0), (.flt .f32 0), (.flt .f32 0)]), none⟩ (.op ⟨(.some 109), (.call true 16 [(.t 108)]), none⟩ (.op ⟨(.some 113), (.call true 17 [(.t 112)]), none⟩ (.op ⟨(.some 115), (.call false 18 [(.t 114)]), none⟩ (.op ⟨(.some 116), (.call false 19 [(.t 109), (.t 110), (.t 111), (.t 113), (.t 115)]), none⟩ (.op ⟨(.some 107), (.mv (.t 116)), none⟩ (.op ⟨(.some 117), (.ext (.t 107) 0), none⟩ (.op ⟨(.some 118), (.ext (.t 107) 1), none⟩ (.op ⟨(.some 119), (.ext (.t 107) 2), none⟩ (.op ⟨(.some 21), (.mv (.t 117)), none⟩ (.op ⟨none, (.store 4 (.t 22) (.t 118)), none⟩ (.op ⟨(.some 23), (.mv (.t 119)), none⟩ .nil)))))))))))))))))))
 (.seq (.seq (.reg [⟨(.some 120), (.mv (.t 21)), none⟩, ⟨(.some 121), (.mv (.t 11)), none⟩, ⟨(.some 122), (.call true 20 [(.t 120), (.t 121)]), none⟩, ⟨(.some 123), (.una .not (.t 122)), none⟩, ⟨(.some 124), (.mv (.t 123)), none⟩, ⟨(.some 125), (.load true 4 (.t 22)), (.some (124, false))⟩, ⟨(.some 126), (.load true 4 (.t 12)), (.some (124, false))⟩, ⟨(.some 127), (.call true 21 [(.t 125), (.t 126)]), (.some (124, false))⟩, ⟨(.some 128), (.una .not (.t 127)), (.some (124, false))⟩, ⟨(.some 129), (.pick (.t 124) (.c (.lf (.bool true))) (.t 128)), none⟩, ⟨(.some 130), (.mv (.t 129)), none⟩, ⟨(.some 131), (.mv (.t 23)), (.some (130, false))⟩, ⟨(.some 132), (.mv (.t 13)), (.some (130, false))⟩, ⟨(.some 133), (.beq true (.t 131) (.t 132)), (.some (130, false))⟩, ⟨(.some 134), (.pick (.t 130) (.c (.lf (.bool true))) (.t 133)), none⟩])
 (.cond (.t 134) (.seq (.reg [⟨(.some 10), (.mv (.c (.lf (.bool false)))), none⟩])
 .ret) .skip))
 (.seq (.reg [⟨(.some 20), (.mv (.c (.lf (.int .i64 1)))), none⟩])
 (.seq (.reg [⟨(.some 135), (.mv (.t 15)), none⟩, ⟨(.some 136), (.mv (.t 20)), none⟩, ⟨(.some 137), (.call true 23 [(.t 135), (.t 136)]), none⟩, ⟨(.some 20), (.mv (.t 137)), none⟩])
 (.seq (.seq (.reg [⟨(.some 138), (.mv (.t 20)), none⟩, ⟨(.some 139), (.bin .lss (.t 138) (.c (.lf (.int .i64 0)))), none⟩])
 (.cond (.t 139) (.seq (.reg [⟨(.some 10), (.mv (.c (.lf (.bool false)))), none⟩])
 .ret) .skip))
 (.seq (.seq (.reg [⟨(.some 140), (.mv (.t 20)), none⟩, ⟨(.some 141), (.mv (.t 19)), none⟩, ⟨(.some 142), (.bin .neq (.t 140) (.t 141)), none⟩])
 (.cond (.t 142) (.seq (.reg [⟨(.some 10), (.mv (.c (.lf (.bool false)))), none⟩])
 .ret) .skip))
 (.seq (.reg [⟨(.some 10), (.mv (.c (.lf (.bool true)))), none⟩])
 .ret))))))))))))))))))))))), [(.tmp 10)]⟩
class HasLRunFilter (S : Sys) : Prop extends HasRf S, HasSame S, HasF S where
  f16 : S.fs 16 = some L16
  f17 : S.fs 17 = some L17
  f21 : S.fs 21 = some L21
  f3 : S.fs 3 = some L3
section
variable {S : Sys} {lim : Nat} {h : Hp} {K : CV → Hp → Prop} [HasLRunFilter S]
@[simp] theorem c_toFilter {f : Fil} : CallT S true 16 [.agg f.cells] h lim K = K (.agg f.cells) h := by
  refine CallT_pure (F := L16) (HasLRunFilter.f16) rfl (by first | rfl | (split <;> rfl) | simp) ?_; unfold L16; dsimp only []
  repeat' (first | (simp (disch := first | omega | assumption | (simp only [List.length_set]; omega) | (simp [*] <;> fail) | assumption) [-Bool.decide_and, -Bool.decide_or, -Bool.not_and, -Bool.not_or, toNat_pred, toNat_succ, wrap64, wr_new, wr_new0, ok_if, ok_ifn, iadV_sl, makeV_int, decT, decF, over_at, *, Fil.cells]) | (with_reducible refine Gd_split (fun hc => ?_) (fun hc => ?_) <;> (have hc2 := hc; try simp at hc2)) | (with_reducible refine Br_split (fun hc => ?_) (fun hc => ?_) <;> (have hc2 := hc; try simp at hc2)) | (with_reducible refine GdT_split (fun hc => ?_) (fun hc => ?_) <;> (have hc2 := hc; try simp at hc2)) | (with_reducible refine WT_alt ?_ ?_) | omega)
@[simp] theorem c_toMemory {f : Mem} : CallT S true 17 [.agg f.cells] h lim K = K (.agg f.cells) h := by
  refine CallT_pure (F := L17) (HasLRunFilter.f17) rfl (by first | rfl | (split <;> rfl) | simp) ?_; unfold L17; dsimp only []
  repeat' (first | (simp (disch := first | omega | assumption | (simp only [List.length_set]; omega) | (simp [*] <;> fail) | assumption) [-Bool.decide_and, -Bool.decide_or, -Bool.not_and, -Bool.not_or, toNat_pred, toNat_succ, wrap64, wr_new, wr_new0, ok_if, ok_ifn, iadV_sl, makeV_int, decT, decF, over_at, *, Mem.cells]) | (with_reducible refine Gd_split (fun hc => ?_) (fun hc => ?_) <;> (have hc2 := hc; try simp at hc2)) | (with_reducible refine Br_split (fun hc => ?_) (fun hc => ?_) <;> (have hc2 := hc; try simp at hc2)) | (with_reducible refine GdT_split (fun hc => ?_) (fun hc => ?_) <;> (have hc2 := hc; try simp at hc2)) | (with_reducible refine WT_alt ?_ ?_) | omega)
@[simp] theorem c_eqMemory {f : Mem} : CallT S true 21 [.agg f.cells, .agg f.cells] h lim K = K (.lf (.bool true)) h := by
  refine CallT_pure (F := L21) (HasLRunFilter.f21) rfl (by first | rfl | (split <;> rfl) | simp) ?_; unfold L21; dsimp only []
  repeat' (first | (simp (disch := first | omega | assumption | (simp only [List.length_set]; omega) | (simp [*] <;> fail) | assumption) [-Bool.decide_and, -Bool.decide_or, -Bool.not_and, -Bool.not_or, toNat_pred, toNat_succ, wrap64, wr_new, wr_new0, ok_if, ok_ifn, iadV_sl, makeV_int, decT, decF, over_at, *, Mem.cells]) | (with_reducible refine Gd_split (fun hc => ?_) (fun hc => ?_) <;> (have hc2 := hc; try simp at hc2)) | (with_reducible refine Br_split (fun hc => ?_) (fun hc => ?_) <;> (have hc2 := hc; try simp at hc2)) | (with_reducible refine GdT_split (fun hc => ?_) (fun hc => ?_) <;> (have hc2 := hc; try simp at hc2)) | (with_reducible refine WT_alt ?_ ?_) | omega)
end
def flSh : Sh := .flt .f32
def filSh : Sh := .cat 1 flSh (.cat 1 flSh (.cat 1 flSh (.cat 1 flSh (.cat 1 flSh .emp))))
def memSh : Sh := .cat 1 flSh (.cat 1 flSh (.cat 1 flSh (.cat 1 flSh .emp)))
theorem fl_of' {h : Hp} {r : List Lf} (t : Ty h (.flt .f32) r) : ∃ x : Nat, r = fl x ∧ CF x := by
  obtain ⟨x, rfl, h1, h2⟩ := t
  exact ⟨x, rfl, ⟨h1, h2⟩⟩
theorem fil_of {h : Hp} {r : List Lf} (t : Ty h filSh r) : ∃ f : Fil, r = f.cells := by
  obtain ⟨a1, a2, rfl, _, ⟨x1, rfl, _⟩, b1, b2, rfl, _, ⟨x2, rfl, _⟩, c1, c2, rfl, _, ⟨x3, rfl, _⟩, d1, d2, rfl, _, ⟨x4, rfl, _⟩, e1, e2, rfl, _, ⟨x5, rfl, _⟩, rfl⟩ := t
  exact ⟨⟨x1, x2, x3, x4, x5⟩, rfl⟩
theorem mem_of {h : Hp} {r : List Lf} (t : Ty h memSh r) : ∃ m : Mem, r = m.cells ∧ m.CF := by
  obtain ⟨a1, a2, rfl, _, ⟨x1, rfl, p1, q1⟩, b1, b2, rfl, _, ⟨x2, rfl, p2, q2⟩, c1, c2, rfl, _, ⟨x3, rfl, p3, q3⟩, d1, d2, rfl, _, ⟨x4, rfl, p4, q4⟩, rfl⟩ := t
  exact ⟨⟨x1, x2, x3, x4⟩, rfl, ⟨p1, q1⟩, ⟨p2, q2⟩, ⟨p3, q3⟩, ⟨p4, q4⟩⟩
set_option maxRecDepth 20000 in
set_option maxHeartbeats 2000000 in
theorem lawRunFilter {S : Sys} [HasLRunFilter S] : LawHolds S 3 [(true, filSh), (false, .int .i64), (false, .bool), (true, memSh), (false, .sl 1 (.flt .f32))] := by
  intro h cs hcs
  obtain ⟨c1, _, rfl, ⟨ls1, rfl, ht1⟩, c2, _, rfl, ⟨ls2, rfl, form, rfl, _⟩, c3, _, rfl, ⟨ls3, rfl, fb, rfl⟩, c4, _, rfl, ⟨ls4, rfl, ht4⟩, c5, _, rfl, ⟨ls5, rfl, l, rows, rfl, hA, hrows⟩, rfl⟩ := hcs
  obtain ⟨f, rfl⟩ := fil_of ht1
  obtain ⟨m, rfl, hm⟩ := mem_of ht4
  obtain ⟨xs, rfl, hx⟩ := rows_map (Q := CF) fun r hr => fl_of' (hrows r hr)
  clear hrows ht1 ht4
  have hm4 := m.len
  have hf5 : f.cells.length = 5 := rfl
  have hmk : mkV true f.cells = .agg f.cells := rfl
  have hmk4 : mkV true m.cells = .agg m.cells := rfl
  refine law_of (F := L3) HasLRunFilter.f3 rfl ?_
  unfold L3
  dsimp only []
  repeat' (first | (simp (disch := first | omega | assumption | (simp only [List.length_set]; omega) | (simp [*] <;> fail) | assumption) [-Bool.decide_and, -Bool.decide_or, -Bool.not_and, -Bool.not_or, toNat_pred, toNat_succ, wrap64, wr_new, wr_new0, ok_if, ok_ifn, iadV_sl, makeV_int, decT, decF, over_at, *, hA.len, hA.at_, hA.at_', hA.rd, hA.rdIn, hA.rdIn0, hA.rdA, hA.rdInA, hA.rdIn0A, leavesAll, fillL, -W_any]) | (with_reducible refine Gd_split (fun hc => ?_) (fun hc => ?_) <;> (have hc2 := hc; try simp at hc2)) | (with_reducible refine Br_split (fun hc => ?_) (fun hc => ?_) <;> (have hc2 := hc; try simp at hc2)) | (with_reducible refine GdT_split (fun hc => ?_) (fun hc => ?_) <;> (have hc2 := hc; try simp at hc2)) | (with_reducible refine WT_alt ?_ ?_) | omega)
  have hn : xs.length ≤ 16777216 := by omega
  have ht4 : ∀ q : Mem, List.take 4 q.cells = q.cells := fun _ => rfl
  have ht5 : List.take 5 f.cells = f.cells := rfl
  have hy4 : ∀ q : Mem, q.cells.length = 4 := fun _ => rfl
  have cs : ∀ {l g K}, Arr g l 1 (xs.map fl) → h.length ≤ g.length → (∀ o g', New g g' o 22 1 ((runF f form fb m xs).1.map fl) → K (.tup [.lf o, .agg (runF f form fb m xs).2.cells, .lf (.bool (decide (okRf form xs.length)))]) g') → CallT S false 15 [.agg f.cells, .lf (.int .i64 form), .lf (.bool fb), .agg m.cells, .lf l] g h.length K := fun ha hl hk => c_specRunFilter hm ha hx hl hk
  have ci : ∀ {l g K}, Arr g l 1 (xs.map fl) → h.length ≤ g.length → (∀ o g', New g g' o 22 1 ((runF f form fb m xs).1.map fl) → K (.tup [.lf o, .agg (runF f form fb m xs).2.cells, .lf (.bool (decide (okRf form xs.length)))]) g') → CallT S false 19 [.agg f.cells, .lf (.int .i64 form), .lf (.bool fb), .agg m.cells, .lf l] g h.length K := fun ha hl hk => c_implRunFilter hm ha hx hl hk
  have hyl : (runF f form fb m xs).1.length ≤ 256 := runF_len
  generalize runF f form fb m xs = y at *
  generalize decide (okRf form xs.length) = ok at *
  have b5 : rdCells (h ++ [⟨f.cells, .own 24 1⟩, ⟨m.cells, .own 26 1⟩]) h.length 0 5 = some f.cells := Cel.new.rd (by simp [hf5])
  have b8 : rdCells (h ++ [⟨f.cells, .own 24 1⟩, ⟨m.cells, .own 26 1⟩]) (h.length + 1) 0 4 = some m.cells := by
    have := (Cel.new (g := h ++ [⟨f.cells, .own 24 1⟩]) (t := []) (ty := 26) (cs := m.cells)).rd (off := 0) (n := 4) (by simp [hm4])
    simpa [ht4] using this
  have hA1 : Arr (h ++ [⟨f.cells, .own 24 1⟩, ⟨m.cells, .own 26 1⟩]) l 1 (xs.map fl) := hA.app
  have hl1 : h.length + 2 ≤ (h ++ [⟨f.cells, .own 24 1⟩, ⟨m.cells, .own 26 1⟩] : Hp).length := by simp
  generalize (h ++ [⟨f.cells, .own 24 1⟩, ⟨m.cells, .own 26 1⟩] : Hp) = h1 at *
  clear hA
  rw [W_any]
  refine WT_cutM 1099377424384 (by decide +kernel) (fun b g => ∃ s i, b 11 = .lf s ∧ b 12 = .lf (.ptr i 0) ∧ b 13 = .lf (.bool ok) ∧ New h1 g s 22 1 (y.1.map fl) ∧ Cel g i 28 y.2.cells ∧ Not s i ∧ h1.length ≤ i) ?_ ?_
  · repeat' (first | (simp (disch := first | omega | assumption | (simp only [List.length_set]; omega) | (simp [*] <;> fail) | assumption) [-Bool.decide_and, -Bool.decide_or, -Bool.not_and, -Bool.not_or, toNat_pred, toNat_succ, wrap64, wr_new, wr_new0, ok_if, ok_ifn, iadV_sl, makeV_int, decT, decF, over_at, *, leavesAll, fillL]) | (with_reducible refine Gd_split (fun hc => ?_) (fun hc => ?_) <;> (have hc2 := hc; try simp at hc2)) | (with_reducible refine Br_split (fun hc => ?_) (fun hc => ?_) <;> (have hc2 := hc; try simp at hc2)) | (with_reducible refine GdT_split (fun hc => ?_) (fun hc => ?_) <;> (have hc2 := hc; try simp at hc2)) | (with_reducible refine WT_alt ?_ ?_) | omega)
    · refine c_toFloat32S hA1 hn (by omega) fun l1 k1 hN => ?_
      have := hN.kept.1
      repeat' (first | (simp (disch := first | omega | assumption | (simp only [List.length_set]; omega) | (simp [*] <;> fail) | assumption) [-Bool.decide_and, -Bool.decide_or, -Bool.not_and, -Bool.not_or, toNat_pred, toNat_succ, wrap64, wr_new, wr_new0, ok_if, ok_ifn, iadV_sl, makeV_int, decT, decF, over_at, *, leavesAll, fillL]) | (with_reducible refine Gd_split (fun hc => ?_) (fun hc => ?_) <;> (have hc2 := hc; try simp at hc2)) | (with_reducible refine Br_split (fun hc => ?_) (fun hc => ?_) <;> (have hc2 := hc; try simp at hc2)) | (with_reducible refine GdT_split (fun hc => ?_) (fun hc => ?_) <;> (have hc2 := hc; try simp at hc2)) | (with_reducible refine WT_alt ?_ ?_) | omega)
      · refine cs hN.arr (by omega) fun s k2 hS => ?_
        have := hS.kept.1
        have w : wrCells h.length (k2 ++ [⟨[.flt .f32 0, .flt .f32 0, .flt .f32 0, .flt .f32 0], .own 28 1⟩]) k2.length 0 y.2.cells = some (k2 ++ [⟨y.2.cells, .own 28 1⟩]) := by
          have := (Cel.new (g := k2) (t := []) (ty := 28) (cs := [.flt .f32 0, .flt .f32 0, .flt .f32 0, .flt .f32 0])).wr (lim := h.length) (new := y.2.cells) (by omega) rfl
          simpa using this
        have p1 : New h1 (k2 ++ [⟨y.2.cells, .own 28 1⟩]) s 22 1 (y.1.map fl) := (hS.base hN.kept).app
        have p2 : Cel (k2 ++ [⟨y.2.cells, .own 28 1⟩]) (k2.length) 28 y.2.cells := Cel.new
        have p3 : Not s (k2.length) := by
          intro q
          have := hS.lt q
          try simp only [List.length_append, List.length_singleton] at this
          omega
        have p4 : h1.length ≤ k2.length := by omega
        repeat' (first | (simp (disch := first | omega | assumption | (simp only [List.length_set]; omega) | (simp [*] <;> fail) | assumption) [-Bool.decide_and, -Bool.decide_or, -Bool.not_and, -Bool.not_or, toNat_pred, toNat_succ, wrap64, wr_new, wr_new0, ok_if, ok_ifn, iadV_sl, makeV_int, decT, decF, over_at, *, leavesAll, fillL, p1, p2, p3, p4]) | (with_reducible refine Gd_split (fun hc => ?_) (fun hc => ?_) <;> (have hc2 := hc; try simp at hc2)) | (with_reducible refine Br_split (fun hc => ?_) (fun hc => ?_) <;> (have hc2 := hc; try simp at hc2)) | (with_reducible refine GdT_split (fun hc => ?_) (fun hc => ?_) <;> (have hc2 := hc; try simp at hc2)) | (with_reducible refine WT_alt ?_ ?_) | omega)
        all_goals exact ⟨p1, p2, p3, p4⟩
      · refine cs hN.arr.app (by simp; omega) fun s k2 hS => ?_
        have := hS.kept.1
        try simp only [List.length_append, List.length_singleton] at this
        have c := (Cel.new (g := k1) (t := []) (ty := 28) (cs := [.flt .f32 0, .flt .f32 0, .flt .f32 0, .flt .f32 0])).kept hS.kept
        have w := c.wr (lim := h.length) (new := y.2.cells) (by omega) rfl
        have clt := c.lt
        have p1 : New h1 (k2.set k1.length ⟨y.2.cells, .own 28 1⟩) s 22 1 (y.1.map fl) := (hS.base hN.kept.more).set_other (by omega) (by intro q; have := hS.lt q; (try simp only [List.length_append, List.length_singleton] at this); omega)
        have p2 : Cel (k2.set k1.length ⟨y.2.cells, .own 28 1⟩) (k1.length) 28 y.2.cells := Cel.put c.lt
        have p3 : Not s (k1.length) := by
          intro q
          have := hS.lt q
          try simp only [List.length_append, List.length_singleton] at this
          omega
        have p4 : h1.length ≤ k1.length := by omega
        repeat' (first | (simp (disch := first | omega | assumption | (simp only [List.length_set]; omega) | (simp [*] <;> fail) | assumption) [-Bool.decide_and, -Bool.decide_or, -Bool.not_and, -Bool.not_or, toNat_pred, toNat_succ, wrap64, wr_new, wr_new0, ok_if, ok_ifn, iadV_sl, makeV_int, decT, decF, over_at, *, leavesAll, fillL, p1, p2, p3, p4]) | (with_reducible refine Gd_split (fun hc => ?_) (fun hc => ?_) <;> (have hc2 := hc; try simp at hc2)) | (with_reducible refine Br_split (fun hc => ?_) (fun hc => ?_) <;> (have hc2 := hc; try simp at hc2)) | (with_reducible refine GdT_split (fun hc => ?_) (fun hc => ?_) <;> (have hc2 := hc; try simp at hc2)) | (with_reducible refine WT_alt ?_ ?_) | omega)
        all_goals exact ⟨p1, p2, p3, p4⟩
    · refine c_toFloat32S hA1.app hn (by simp; omega) fun l1 k1 hN => ?_
      have := hN.kept.1
      try simp only [List.length_append, List.length_singleton] at this
      repeat' (first | (simp (disch := first | omega | assumption | (simp only [List.length_set]; omega) | (simp [*] <;> fail) | assumption) [-Bool.decide_and, -Bool.decide_or, -Bool.not_and, -Bool.not_or, toNat_pred, toNat_succ, wrap64, wr_new, wr_new0, ok_if, ok_ifn, iadV_sl, makeV_int, decT, decF, over_at, *, leavesAll, fillL]) | (with_reducible refine Gd_split (fun hc => ?_) (fun hc => ?_) <;> (have hc2 := hc; try simp at hc2)) | (with_reducible refine Br_split (fun hc => ?_) (fun hc => ?_) <;> (have hc2 := hc; try simp at hc2)) | (with_reducible refine GdT_split (fun hc => ?_) (fun hc => ?_) <;> (have hc2 := hc; try simp at hc2)) | (with_reducible refine WT_alt ?_ ?_) | omega)
      refine cs hN.arr (by omega) fun s k2 hS => ?_
      have := hS.kept.1
      have c := ((Cel.new (g := h1) (t := []) (ty := 28) (cs := [.flt .f32 0, .flt .f32 0, .flt .f32 0, .flt .f32 0])).kept hN.kept).kept hS.kept
      have w := c.wr (lim := h.length) (new := y.2.cells) (by omega) rfl
      have clt := c.lt
      have p1 : New h1 (k2.set h1.length ⟨y.2.cells, .own 28 1⟩) s 22 1 (y.1.map fl) := (hS.base ((Kept.app _ _).trans hN.kept)).set_other (by omega) (by intro q; have := hS.lt q; (try simp only [List.length_append, List.length_singleton] at this); omega)
      have p2 : Cel (k2.set h1.length ⟨y.2.cells, .own 28 1⟩) (h1.length) 28 y.2.cells := Cel.put c.lt
      have p3 : Not s (h1.length) := by
        intro q
        have := hS.lt q
        try simp only [List.length_append, List.length_singleton] at this
        omega
      have p4 : h1.length ≤ h1.length := by omega
      repeat' (first | (simp (disch := first | omega | assumption | (simp only [List.length_set]; omega) | (simp [*] <;> fail) | assumption) [-Bool.decide_and, -Bool.decide_or, -Bool.not_and, -Bool.not_or, toNat_pred, toNat_succ, wrap64, wr_new, wr_new0, ok_if, ok_ifn, iadV_sl, makeV_int, decT, decF, over_at, *, leavesAll, fillL, p1, p2, p3, p4]) | (with_reducible refine Gd_split (fun hc => ?_) (fun hc => ?_) <;> (have hc2 := hc; try simp at hc2)) | (with_reducible refine Br_split (fun hc => ?_) (fun hc => ?_) <;> (have hc2 := hc; try simp at hc2)) | (with_reducible refine GdT_split (fun hc => ?_) (fun hc => ?_) <;> (have hc2 := hc; try simp at hc2)) | (with_reducible refine WT_alt ?_ ?_) | omega)
      all_goals exact ⟨p1, p2, p3, p4⟩
    · refine c_toFloat32S hA1.app hn (by simp; omega) fun l1 k1 hN => ?_
      have := hN.kept.1
      try simp only [List.length_append, List.length_singleton] at this
      repeat' (first | (simp (disch := first | omega | assumption | (simp only [List.length_set]; omega) | (simp [*] <;> fail) | assumption) [-Bool.decide_and, -Bool.decide_or, -Bool.not_and, -Bool.not_or, toNat_pred, toNat_succ, wrap64, wr_new, wr_new0, ok_if, ok_ifn, iadV_sl, makeV_int, decT, decF, over_at, *, leavesAll, fillL]) | (with_reducible refine Gd_split (fun hc => ?_) (fun hc => ?_) <;> (have hc2 := hc; try simp at hc2)) | (with_reducible refine Br_split (fun hc => ?_) (fun hc => ?_) <;> (have hc2 := hc; try simp at hc2)) | (with_reducible refine GdT_split (fun hc => ?_) (fun hc => ?_) <;> (have hc2 := hc; try simp at hc2)) | (with_reducible refine WT_alt ?_ ?_) | omega)
      refine cs hN.arr (by omega) fun s k2 hS => ?_
      have := hS.kept.1
      have c := ((Cel.new (g := h1) (t := []) (ty := 28) (cs := [.flt .f32 0, .flt .f32 0, .flt .f32 0, .flt .f32 0])).kept hN.kept).kept hS.kept
      have w := c.wr (lim := h.length) (new := y.2.cells) (by omega) rfl
      have clt := c.lt
      have p1 : New h1 (k2.set h1.length ⟨y.2.cells, .own 28 1⟩) s 22 1 (y.1.map fl) := (hS.base ((Kept.app _ _).trans hN.kept)).set_other (by omega) (by intro q; have := hS.lt q; (try simp only [List.length_append, List.length_singleton] at this); omega)
      have p2 : Cel (k2.set h1.length ⟨y.2.cells, .own 28 1⟩) (h1.length) 28 y.2.cells := Cel.put c.lt
      have p3 : Not s (h1.length) := by
        intro q
        have := hS.lt q
        try simp only [List.length_append, List.length_singleton] at this
        omega
      have p4 : h1.length ≤ h1.length := by omega
      repeat' (first | (simp (disch := first | omega | assumption | (simp only [List.length_set]; omega) | (simp [*] <;> fail) | assumption) [-Bool.decide_and, -Bool.decide_or, -Bool.not_and, -Bool.not_or, toNat_pred, toNat_succ, wrap64, wr_new, wr_new0, ok_if, ok_ifn, iadV_sl, makeV_int, decT, decF, over_at, *, leavesAll, fillL, p1, p2, p3, p4]) | (with_reducible refine Gd_split (fun hc => ?_) (fun hc => ?_) <;> (have hc2 := hc; try simp at hc2)) | (with_reducible refine Br_split (fun hc => ?_) (fun hc => ?_) <;> (have hc2 := hc; try simp at hc2)) | (with_reducible refine GdT_split (fun hc => ?_) (fun hc => ?_) <;> (have hc2 := hc; try simp at hc2)) | (with_reducible refine WT_alt ?_ ?_) | omega)
      all_goals exact ⟨p1, p2, p3, p4⟩
    · refine c_toFloat32S hA1.app hn (by simp; omega) fun l1 k1 hN => ?_
      have := hN.kept.1
      try simp only [List.length_append, List.length_singleton] at this
      repeat' (first | (simp (disch := first | omega | assumption | (simp only [List.length_set]; omega) | (simp [*] <;> fail) | assumption) [-Bool.decide_and, -Bool.decide_or, -Bool.not_and, -Bool.not_or, toNat_pred, toNat_succ, wrap64, wr_new, wr_new0, ok_if, ok_ifn, iadV_sl, makeV_int, decT, decF, over_at, *, leavesAll, fillL]) | (with_reducible refine Gd_split (fun hc => ?_) (fun hc => ?_) <;> (have hc2 := hc; try simp at hc2)) | (with_reducible refine Br_split (fun hc => ?_) (fun hc => ?_) <;> (have hc2 := hc; try simp at hc2)) | (with_reducible refine GdT_split (fun hc => ?_) (fun hc => ?_) <;> (have hc2 := hc; try simp at hc2)) | (with_reducible refine WT_alt ?_ ?_) | omega)
      refine cs hN.arr (by omega) fun s k2 hS => ?_
      have := hS.kept.1
      have c := ((Cel.new (g := h1) (t := []) (ty := 28) (cs := [.flt .f32 0, .flt .f32 0, .flt .f32 0, .flt .f32 0])).kept hN.kept).kept hS.kept
      have w := c.wr (lim := h.length) (new := y.2.cells) (by omega) rfl
      have clt := c.lt
      have p1 : New h1 (k2.set h1.length ⟨y.2.cells, .own 28 1⟩) s 22 1 (y.1.map fl) := (hS.base ((Kept.app _ _).trans hN.kept)).set_other (by omega) (by intro q; have := hS.lt q; (try simp only [List.length_append, List.length_singleton] at this); omega)
      have p2 : Cel (k2.set h1.length ⟨y.2.cells, .own 28 1⟩) (h1.length) 28 y.2.cells := Cel.put c.lt
      have p3 : Not s (h1.length) := by
        intro q
        have := hS.lt q
        try simp only [List.length_append, List.length_singleton] at this
        omega
      have p4 : h1.length ≤ h1.length := by omega
      repeat' (first | (simp (disch := first | omega | assumption | (simp only [List.length_set]; omega) | (simp [*] <;> fail) | assumption) [-Bool.decide_and, -Bool.decide_or, -Bool.not_and, -Bool.not_or, toNat_pred, toNat_succ, wrap64, wr_new, wr_new0, ok_if, ok_ifn, iadV_sl, makeV_int, decT, decF, over_at, *, leavesAll, fillL, p1, p2, p3, p4]) | (with_reducible refine Gd_split (fun hc => ?_) (fun hc => ?_) <;> (have hc2 := hc; try simp at hc2)) | (with_reducible refine Br_split (fun hc => ?_) (fun hc => ?_) <;> (have hc2 := hc; try simp at hc2)) | (with_reducible refine GdT_split (fun hc => ?_) (fun hc => ?_) <;> (have hc2 := hc; try simp at hc2)) | (with_reducible refine WT_alt ?_ ?_) | omega)
      all_goals exact ⟨p1, p2, p3, p4⟩
  rintro b g1 ⟨s, i1, e1, e2, e3, hs, ci1, nsi1, qi1⟩
  have z1 := hs.kept.1
  have d1 := ci1.lt
  have b5' := hs.kept.rd b5
  have b8' := hs.kept.rd b8
  have Ns := hs
  repeat' (first | (simp (disch := first | omega | assumption | (simp only [List.length_set]; omega) | (simp [*] <;> fail) | assumption) [-Bool.decide_and, -Bool.decide_or, -Bool.not_and, -Bool.not_or, toNat_pred, toNat_succ, wrap64, wr_new, wr_new0, ok_if, ok_ifn, iadV_sl, makeV_int, decT, decF, over_at, *, -W_any]) | (with_reducible refine Gd_split (fun hc => ?_) (fun hc => ?_) <;> (have hc2 := hc; try simp at hc2)) | (with_reducible refine Br_split (fun hc => ?_) (fun hc => ?_) <;> (have hc2 := hc; try simp at hc2)) | (with_reducible refine GdT_split (fun hc => ?_) (fun hc => ?_) <;> (have hc2 := hc; try simp at hc2)) | (with_reducible refine WT_alt ?_ ?_) | omega)
  refine c_toFloat32S (hA1.kept Ns.kept) hn (by omega) fun a g2 ha => ?_
  have z2 := ha.kept.1
  have Na := ha.base Ns.kept
  have Fas : Far a s := fun q1 q2 => by have := (ha.lt q1).1; have := (hs.lt q2).2; omega
  replace Ns := Ns.later ha.kept
  replace ci1 := ci1.kept ha.kept
  have nai1 : Not a i1 := fun q => by have := (ha.lt q).1; omega
  replace b5' := Ns.kept.rd b5
  replace b8' := Ns.kept.rd b8
  repeat' (first | (simp (disch := first | omega | assumption | (simp only [List.length_set]; omega) | (simp [*] <;> fail) | assumption) [-Bool.decide_and, -Bool.decide_or, -Bool.not_and, -Bool.not_or, toNat_pred, toNat_succ, wrap64, wr_new, wr_new0, ok_if, ok_ifn, iadV_sl, makeV_int, decT, decF, over_at, *, -W_any]) | (with_reducible refine Gd_split (fun hc => ?_) (fun hc => ?_) <;> (have hc2 := hc; try simp at hc2)) | (with_reducible refine Br_split (fun hc => ?_) (fun hc => ?_) <;> (have hc2 := hc; try simp at hc2)) | (with_reducible refine GdT_split (fun hc => ?_) (fun hc => ?_) <;> (have hc2 := hc; try simp at hc2)) | (with_reducible refine WT_alt ?_ ?_) | omega)
  rw [W_any]
  refine WT_cutM 18010000463200256 (by decide +kernel) (fun b g => ∃ s i, b 15 = .lf s ∧ b 16 = .lf (.ptr i 0) ∧ b 17 = .lf (.bool ok) ∧ New g2 g s 22 1 (y.1.map fl) ∧ Cel g i 28 y.2.cells ∧ Not s i ∧ g2.length ≤ i) ?_ ?_
  · repeat' (first | (simp (disch := first | omega | assumption | (simp only [List.length_set]; omega) | (simp [*] <;> fail) | assumption) [-Bool.decide_and, -Bool.decide_or, -Bool.not_and, -Bool.not_or, toNat_pred, toNat_succ, wrap64, wr_new, wr_new0, ok_if, ok_ifn, iadV_sl, makeV_int, decT, decF, over_at, *, leavesAll, fillL]) | (with_reducible refine Gd_split (fun hc => ?_) (fun hc => ?_) <;> (have hc2 := hc; try simp at hc2)) | (with_reducible refine Br_split (fun hc => ?_) (fun hc => ?_) <;> (have hc2 := hc; try simp at hc2)) | (with_reducible refine GdT_split (fun hc => ?_) (fun hc => ?_) <;> (have hc2 := hc; try simp at hc2)) | (with_reducible refine WT_alt ?_ ?_) | omega)
    · refine ci Na.arr (by omega) fun s k2 hS => ?_
      have := hS.kept.1
      have w : wrCells h.length (k2 ++ [⟨[.flt .f32 0, .flt .f32 0, .flt .f32 0, .flt .f32 0], .own 28 1⟩]) k2.length 0 y.2.cells = some (k2 ++ [⟨y.2.cells, .own 28 1⟩]) := by
        have := (Cel.new (g := k2) (t := []) (ty := 28) (cs := [.flt .f32 0, .flt .f32 0, .flt .f32 0, .flt .f32 0])).wr (lim := h.length) (new := y.2.cells) (by omega) rfl
        simpa using this
      have p1 : New g2 (k2 ++ [⟨y.2.cells, .own 28 1⟩]) s 22 1 (y.1.map fl) := hS.app
      have p2 : Cel (k2 ++ [⟨y.2.cells, .own 28 1⟩]) (k2.length) 28 y.2.cells := Cel.new
      have p3 : Not s (k2.length) := by
        intro q
        have := hS.lt q
        try simp only [List.length_append, List.length_singleton] at this
        omega
      have p4 : g2.length ≤ k2.length := by omega
      repeat' (first | (simp (disch := first | omega | assumption | (simp only [List.length_set]; omega) | (simp [*] <;> fail) | assumption) [-Bool.decide_and, -Bool.decide_or, -Bool.not_and, -Bool.not_or, toNat_pred, toNat_succ, wrap64, wr_new, wr_new0, ok_if, ok_ifn, iadV_sl, makeV_int, decT, decF, over_at, *, leavesAll, fillL, p1, p2, p3, p4]) | (with_reducible refine Gd_split (fun hc => ?_) (fun hc => ?_) <;> (have hc2 := hc; try simp at hc2)) | (with_reducible refine Br_split (fun hc => ?_) (fun hc => ?_) <;> (have hc2 := hc; try simp at hc2)) | (with_reducible refine GdT_split (fun hc => ?_) (fun hc => ?_) <;> (have hc2 := hc; try simp at hc2)) | (with_reducible refine WT_alt ?_ ?_) | omega)
      all_goals exact ⟨p1, p2, p3, p4⟩
    · refine ci Na.arr.app (by simp; omega) fun s k2 hS => ?_
      have := hS.kept.1
      have c := (Cel.new (g := g2) (t := []) (ty := 28) (cs := [.flt .f32 0, .flt .f32 0, .flt .f32 0, .flt .f32 0])).kept hS.kept
      have w := c.wr (lim := h.length) (new := y.2.cells) (by omega) rfl
      have clt := c.lt
      have p1 : New g2 (k2.set g2.length ⟨y.2.cells, .own 28 1⟩) s 22 1 (y.1.map fl) := (hS.base (Kept.app _ _)).set_other (by omega) (by intro q; have := hS.lt q; (try simp only [List.length_append, List.length_singleton] at this); omega)
      have p2 : Cel (k2.set g2.length ⟨y.2.cells, .own 28 1⟩) (g2.length) 28 y.2.cells := Cel.put c.lt
      have p3 : Not s (g2.length) := by
        intro q
        have := hS.lt q
        try simp only [List.length_append, List.length_singleton] at this
        omega
      have p4 : g2.length ≤ g2.length := by omega
      repeat' (first | (simp (disch := first | omega | assumption | (simp only [List.length_set]; omega) | (simp [*] <;> fail) | assumption) [-Bool.decide_and, -Bool.decide_or, -Bool.not_and, -Bool.not_or, toNat_pred, toNat_succ, wrap64, wr_new, wr_new0, ok_if, ok_ifn, iadV_sl, makeV_int, decT, decF, over_at, *, leavesAll, fillL, p1, p2, p3, p4]) | (with_reducible refine Gd_split (fun hc => ?_) (fun hc => ?_) <;> (have hc2 := hc; try simp at hc2)) | (with_reducible refine Br_split (fun hc => ?_) (fun hc => ?_) <;> (have hc2 := hc; try simp at hc2)) | (with_reducible refine GdT_split (fun hc => ?_) (fun hc => ?_) <;> (have hc2 := hc; try simp at hc2)) | (with_reducible refine WT_alt ?_ ?_) | omega)
      all_goals exact ⟨p1, p2, p3, p4⟩
    · refine ci Na.arr.app (by simp; omega) fun s k2 hS => ?_
      have := hS.kept.1
      have c := (Cel.new (g := g2) (t := []) (ty := 28) (cs := [.flt .f32 0, .flt .f32 0, .flt .f32 0, .flt .f32 0])).kept hS.kept
      have w := c.wr (lim := h.length) (new := y.2.cells) (by omega) rfl
      have clt := c.lt
      have p1 : New g2 (k2.set g2.length ⟨y.2.cells, .own 28 1⟩) s 22 1 (y.1.map fl) := (hS.base (Kept.app _ _)).set_other (by omega) (by intro q; have := hS.lt q; (try simp only [List.length_append, List.length_singleton] at this); omega)
      have p2 : Cel (k2.set g2.length ⟨y.2.cells, .own 28 1⟩) (g2.length) 28 y.2.cells := Cel.put c.lt
      have p3 : Not s (g2.length) := by
        intro q
        have := hS.lt q
        try simp only [List.length_append, List.length_singleton] at this
        omega
      have p4 : g2.length ≤ g2.length := by omega
      repeat' (first | (simp (disch := first | omega | assumption | (simp only [List.length_set]; omega) | (simp [*] <;> fail) | assumption) [-Bool.decide_and, -Bool.decide_or, -Bool.not_and, -Bool.not_or, toNat_pred, toNat_succ, wrap64, wr_new, wr_new0, ok_if, ok_ifn, iadV_sl, makeV_int, decT, decF, over_at, *, leavesAll, fillL, p1, p2, p3, p4]) | (with_reducible refine Gd_split (fun hc => ?_) (fun hc => ?_) <;> (have hc2 := hc; try simp at hc2)) | (with_reducible refine Br_split (fun hc => ?_) (fun hc => ?_) <;> (have hc2 := hc; try simp at hc2)) | (with_reducible refine GdT_split (fun hc => ?_) (fun hc => ?_) <;> (have hc2 := hc; try simp at hc2)) | (with_reducible refine WT_alt ?_ ?_) | omega)
      all_goals exact ⟨p1, p2, p3, p4⟩
    · refine ci Na.arr.app (by simp; omega) fun s k2 hS => ?_
      have := hS.kept.1
      have c := (Cel.new (g := g2) (t := []) (ty := 28) (cs := [.flt .f32 0, .flt .f32 0, .flt .f32 0, .flt .f32 0])).kept hS.kept
      have w := c.wr (lim := h.length) (new := y.2.cells) (by omega) rfl
      have clt := c.lt
      have p1 : New g2 (k2.set g2.length ⟨y.2.cells, .own 28 1⟩) s 22 1 (y.1.map fl) := (hS.base (Kept.app _ _)).set_other (by omega) (by intro q; have := hS.lt q; (try simp only [List.length_append, List.length_singleton] at this); omega)
      have p2 : Cel (k2.set g2.length ⟨y.2.cells, .own 28 1⟩) (g2.length) 28 y.2.cells := Cel.put c.lt
      have p3 : Not s (g2.length) := by
        intro q
        have := hS.lt q
        try simp only [List.length_append, List.length_singleton] at this
        omega
      have p4 : g2.length ≤ g2.length := by omega
      repeat' (first | (simp (disch := first | omega | assumption | (simp only [List.length_set]; omega) | (simp [*] <;> fail) | assumption) [-Bool.decide_and, -Bool.decide_or, -Bool.not_and, -Bool.not_or, toNat_pred, toNat_succ, wrap64, wr_new, wr_new0, ok_if, ok_ifn, iadV_sl, makeV_int, decT, decF, over_at, *, leavesAll, fillL, p1, p2, p3, p4]) | (with_reducible refine Gd_split (fun hc => ?_) (fun hc => ?_) <;> (have hc2 := hc; try simp at hc2)) | (with_reducible refine Br_split (fun hc => ?_) (fun hc => ?_) <;> (have hc2 := hc; try simp at hc2)) | (with_reducible refine GdT_split (fun hc => ?_) (fun hc => ?_) <;> (have hc2 := hc; try simp at hc2)) | (with_reducible refine WT_alt ?_ ?_) | omega)
      all_goals exact ⟨p1, p2, p3, p4⟩
  rintro b g3 ⟨r, i2, e1, e2, e3, hr, ci2, nri2, qi2⟩
  have z3 := hr.kept.1
  have d2 := ci2.lt
  have Nr := hr.base Na.kept
  have Far_ : Far a r := fun q1 q2 => by have := (Na.lt q1).2; have := (hr.lt q2).1; omega
  have Fsr : Far s r := fun q1 q2 => by have := (Ns.lt q1).2; have := (hr.lt q2).1; omega
  replace Na := Na.later hr.kept
  replace Ns := Ns.later hr.kept
  replace ci1 := ci1.kept hr.kept
  have nri1 : Not r i1 := fun q => by have := (hr.lt q).1; omega
  have nai2 : Not a i2 := fun q => by have := (ha.lt q).2; omega
  have r1 : rdCells g3 i1 0 4 = some y.2.cells := ci1.rd (by simp [hy4])
  have r2 : rdCells g3 i2 0 4 = some y.2.cells := ci2.rd (by simp [hy4])
  repeat' (first | (simp (disch := first | omega | assumption | (simp only [List.length_set]; omega) | (simp [*] <;> fail) | assumption) [-Bool.decide_and, -Bool.decide_or, -Bool.not_and, -Bool.not_or, toNat_pred, toNat_succ, wrap64, wr_new, wr_new0, ok_if, ok_ifn, iadV_sl, makeV_int, decT, decF, over_at, *, c_eqFloat32S Nr.arr Ns.arr, c_eqMemory]) | (with_reducible refine Gd_split (fun hc => ?_) (fun hc => ?_) <;> (have hc2 := hc; try simp at hc2)) | (with_reducible refine Br_split (fun hc => ?_) (fun hc => ?_) <;> (have hc2 := hc; try simp at hc2)) | (with_reducible refine GdT_split (fun hc => ?_) (fun hc => ?_) <;> (have hc2 := hc; try simp at hc2)) | (with_reducible refine WT_alt ?_ ?_) | omega)
  refine c_toFloat32S (hA1.kept Ns.kept) hn (by omega) fun a9 g4 ha9 => ?_
  have z4 := ha9.kept.1
  have Na9 := ha9.base Ns.kept
  replace Na := Na.later ha9.kept
  replace Ns := Ns.later ha9.kept
  replace Nr := Nr.later ha9.kept
  replace ci1 := ci1.kept ha9.kept
  replace ci2 := ci2.kept ha9.kept
  clear r1 r2
  repeat' (first | (simp (disch := first | omega | assumption | (simp only [List.length_set]; omega) | (simp [*] <;> fail) | assumption) [-Bool.decide_and, -Bool.decide_or, -Bool.not_and, -Bool.not_or, toNat_pred, toNat_succ, wrap64, wr_new, wr_new0, ok_if, ok_ifn, iadV_sl, makeV_int, decT, decF, over_at, *, c_eqFloat32S Na.arr Na9.arr]) | (with_reducible refine Gd_split (fun hc => ?_) (fun hc => ?_) <;> (have hc2 := hc; try simp at hc2)) | (with_reducible refine Br_split (fun hc => ?_) (fun hc => ?_) <;> (have hc2 := hc; try simp at hc2)) | (with_reducible refine GdT_split (fun hc => ?_) (fun hc => ?_) <;> (have hc2 := hc; try simp at hc2)) | (with_reducible refine WT_alt ?_ ?_) | omega)
  refine c_markFloat32S Na (by simp; omega) (by omega) (by omega) (by omega) fun g5 hM hB => ?_
  have z5 := hB.len
  replace Ns := hB.new Ns (fun hn => (Na.lt hn).1) (fun q1 q2 => (Fas q1 q2).symm)
  replace Nr := hB.new Nr (fun hn => (Na.lt hn).1) (fun q1 q2 => (Far_ q1 q2).symm)
  replace ci1 := ci1.but hB (fun q => (nai1 q).symm)
  replace ci2 := ci2.but hB (fun q => (nai2 q).symm)
  have r1 : rdCells g5 i1 0 4 = some y.2.cells := ci1.rd (by simp [hy4])
  have r2 : rdCells g5 i2 0 4 = some y.2.cells := ci2.rd (by simp [hy4])
  repeat' (first | (simp (disch := first | omega | assumption | (simp only [List.length_set]; omega) | (simp [*] <;> fail) | assumption) [-Bool.decide_and, -Bool.decide_or, -Bool.not_and, -Bool.not_or, toNat_pred, toNat_succ, wrap64, wr_new, wr_new0, ok_if, ok_ifn, iadV_sl, makeV_int, decT, decF, over_at, *, c_eqFloat32S Nr.arr Ns.arr, c_eqMemory]) | (with_reducible refine Gd_split (fun hc => ?_) (fun hc => ?_) <;> (have hc2 := hc; try simp at hc2)) | (with_reducible refine Br_split (fun hc => ?_) (fun hc => ?_) <;> (have hc2 := hc; try simp at hc2)) | (with_reducible refine GdT_split (fun hc => ?_) (fun hc => ?_) <;> (have hc2 := hc; try simp at hc2)) | (with_reducible refine WT_alt ?_ ?_) | omega)
  clear r1 r2
  refine c_markFloat32S Nr (by simp; omega) (by omega) (by omega) (by omega) fun g6 hM6 hB6 => ?_
  have z6 := hB6.len
  replace Ns := hB6.new Ns (fun hn => (Nr.lt hn).1) (fun q1 q2 => Fsr q2 q1)
  replace ci1 := ci1.but hB6 (fun q => (nri1 q).symm)
  simp only [List.length_map] at hM6
  replace Nr := hM6
  replace b5' := Ns.kept.rd b5
  replace b8' := Ns.kept.rd b8
  repeat' (first | (simp (disch := first | omega | assumption | (simp only [List.length_set]; omega) | (simp [*] <;> fail) | assumption) [-Bool.decide_and, -Bool.decide_or, -Bool.not_and, -Bool.not_or, toNat_pred, toNat_succ, wrap64, wr_new, wr_new0, ok_if, ok_ifn, iadV_sl, makeV_int, decT, decF, over_at, *, c_heldFloat32S Nr.arr, -W_any]) | (with_reducible refine Gd_split (fun hc => ?_) (fun hc => ?_) <;> (have hc2 := hc; try simp at hc2)) | (with_reducible refine Br_split (fun hc => ?_) (fun hc => ?_) <;> (have hc2 := hc; try simp at hc2)) | (with_reducible refine GdT_split (fun hc => ?_) (fun hc => ?_) <;> (have hc2 := hc; try simp at hc2)) | (with_reducible refine WT_alt ?_ ?_) | omega)
  rw [W_any]
  refine WT_cutM 1329065736508086659540415482284736512 (by decide +kernel) (fun b g => ∃ s i, b 21 = .lf s ∧ b 22 = .lf (.ptr i 0) ∧ b 23 = .lf (.bool ok) ∧ New g6 g s 22 1 (y.1.map fl) ∧ Cel g i 28 y.2.cells ∧ Not s i ∧ g6.length ≤ i) ?_ ?_
  · repeat' (first | (simp (disch := first | omega | assumption | (simp only [List.length_set]; omega) | (simp [*] <;> fail) | assumption) [-Bool.decide_and, -Bool.decide_or, -Bool.not_and, -Bool.not_or, toNat_pred, toNat_succ, wrap64, wr_new, wr_new0, ok_if, ok_ifn, iadV_sl, makeV_int, decT, decF, over_at, *, leavesAll, fillL]) | (with_reducible refine Gd_split (fun hc => ?_) (fun hc => ?_) <;> (have hc2 := hc; try simp at hc2)) | (with_reducible refine Br_split (fun hc => ?_) (fun hc => ?_) <;> (have hc2 := hc; try simp at hc2)) | (with_reducible refine GdT_split (fun hc => ?_) (fun hc => ?_) <;> (have hc2 := hc; try simp at hc2)) | (with_reducible refine WT_alt ?_ ?_) | omega)
    · refine c_toFloat32S (hA1.kept Ns.kept) hn (by omega) fun l1 k1 hN => ?_
      have := hN.kept.1
      repeat' (first | (simp (disch := first | omega | assumption | (simp only [List.length_set]; omega) | (simp [*] <;> fail) | assumption) [-Bool.decide_and, -Bool.decide_or, -Bool.not_and, -Bool.not_or, toNat_pred, toNat_succ, wrap64, wr_new, wr_new0, ok_if, ok_ifn, iadV_sl, makeV_int, decT, decF, over_at, *, leavesAll, fillL]) | (with_reducible refine Gd_split (fun hc => ?_) (fun hc => ?_) <;> (have hc2 := hc; try simp at hc2)) | (with_reducible refine Br_split (fun hc => ?_) (fun hc => ?_) <;> (have hc2 := hc; try simp at hc2)) | (with_reducible refine GdT_split (fun hc => ?_) (fun hc => ?_) <;> (have hc2 := hc; try simp at hc2)) | (with_reducible refine WT_alt ?_ ?_) | omega)
      · refine ci hN.arr (by omega) fun s k2 hS => ?_
        have := hS.kept.1
        have w : wrCells h.length (k2 ++ [⟨[.flt .f32 0, .flt .f32 0, .flt .f32 0, .flt .f32 0], .own 28 1⟩]) k2.length 0 y.2.cells = some (k2 ++ [⟨y.2.cells, .own 28 1⟩]) := by
          have := (Cel.new (g := k2) (t := []) (ty := 28) (cs := [.flt .f32 0, .flt .f32 0, .flt .f32 0, .flt .f32 0])).wr (lim := h.length) (new := y.2.cells) (by omega) rfl
          simpa using this
        have p1 : New g6 (k2 ++ [⟨y.2.cells, .own 28 1⟩]) s 22 1 (y.1.map fl) := (hS.base hN.kept).app
        have p2 : Cel (k2 ++ [⟨y.2.cells, .own 28 1⟩]) (k2.length) 28 y.2.cells := Cel.new
        have p3 : Not s (k2.length) := by
          intro q
          have := hS.lt q
          try simp only [List.length_append, List.length_singleton] at this
          omega
        have p4 : g6.length ≤ k2.length := by omega
        repeat' (first | (simp (disch := first | omega | assumption | (simp only [List.length_set]; omega) | (simp [*] <;> fail) | assumption) [-Bool.decide_and, -Bool.decide_or, -Bool.not_and, -Bool.not_or, toNat_pred, toNat_succ, wrap64, wr_new, wr_new0, ok_if, ok_ifn, iadV_sl, makeV_int, decT, decF, over_at, *, leavesAll, fillL, p1, p2, p3, p4]) | (with_reducible refine Gd_split (fun hc => ?_) (fun hc => ?_) <;> (have hc2 := hc; try simp at hc2)) | (with_reducible refine Br_split (fun hc => ?_) (fun hc => ?_) <;> (have hc2 := hc; try simp at hc2)) | (with_reducible refine GdT_split (fun hc => ?_) (fun hc => ?_) <;> (have hc2 := hc; try simp at hc2)) | (with_reducible refine WT_alt ?_ ?_) | omega)
        all_goals exact ⟨p1, p2, p3, p4⟩
      · refine ci hN.arr.app (by simp; omega) fun s k2 hS => ?_
        have := hS.kept.1
        try simp only [List.length_append, List.length_singleton] at this
        have c := (Cel.new (g := k1) (t := []) (ty := 28) (cs := [.flt .f32 0, .flt .f32 0, .flt .f32 0, .flt .f32 0])).kept hS.kept
        have w := c.wr (lim := h.length) (new := y.2.cells) (by omega) rfl
        have clt := c.lt
        have p1 : New g6 (k2.set k1.length ⟨y.2.cells, .own 28 1⟩) s 22 1 (y.1.map fl) := (hS.base hN.kept.more).set_other (by omega) (by intro q; have := hS.lt q; (try simp only [List.length_append, List.length_singleton] at this); omega)
        have p2 : Cel (k2.set k1.length ⟨y.2.cells, .own 28 1⟩) (k1.length) 28 y.2.cells := Cel.put c.lt
        have p3 : Not s (k1.length) := by
          intro q
          have := hS.lt q
          try simp only [List.length_append, List.length_singleton] at this
          omega
        have p4 : g6.length ≤ k1.length := by omega
        repeat' (first | (simp (disch := first | omega | assumption | (simp only [List.length_set]; omega) | (simp [*] <;> fail) | assumption) [-Bool.decide_and, -Bool.decide_or, -Bool.not_and, -Bool.not_or, toNat_pred, toNat_succ, wrap64, wr_new, wr_new0, ok_if, ok_ifn, iadV_sl, makeV_int, decT, decF, over_at, *, leavesAll, fillL, p1, p2, p3, p4]) | (with_reducible refine Gd_split (fun hc => ?_) (fun hc => ?_) <;> (have hc2 := hc; try simp at hc2)) | (with_reducible refine Br_split (fun hc => ?_) (fun hc => ?_) <;> (have hc2 := hc; try simp at hc2)) | (with_reducible refine GdT_split (fun hc => ?_) (fun hc => ?_) <;> (have hc2 := hc; try simp at hc2)) | (with_reducible refine WT_alt ?_ ?_) | omega)
        all_goals exact ⟨p1, p2, p3, p4⟩
    · refine c_toFloat32S (hA1.kept Ns.kept).app hn (by simp; omega) fun l1 k1 hN => ?_
      have := hN.kept.1
      try simp only [List.length_append, List.length_singleton] at this
      repeat' (first | (simp (disch := first | omega | assumption | (simp only [List.length_set]; omega) | (simp [*] <;> fail) | assumption) [-Bool.decide_and, -Bool.decide_or, -Bool.not_and, -Bool.not_or, toNat_pred, toNat_succ, wrap64, wr_new, wr_new0, ok_if, ok_ifn, iadV_sl, makeV_int, decT, decF, over_at, *, leavesAll, fillL]) | (with_reducible refine Gd_split (fun hc => ?_) (fun hc => ?_) <;> (have hc2 := hc; try simp at hc2)) | (with_reducible refine Br_split (fun hc => ?_) (fun hc => ?_) <;> (have hc2 := hc; try simp at hc2)) | (with_reducible refine GdT_split (fun hc => ?_) (fun hc => ?_) <;> (have hc2 := hc; try simp at hc2)) | (with_reducible refine WT_alt ?_ ?_) | omega)
      refine ci hN.arr (by omega) fun s k2 hS => ?_
      have := hS.kept.1
      have c := ((Cel.new (g := g6) (t := []) (ty := 28) (cs := [.flt .f32 0, .flt .f32 0, .flt .f32 0, .flt .f32 0])).kept hN.kept).kept hS.kept
      have w := c.wr (lim := h.length) (new := y.2.cells) (by omega) rfl
      have clt := c.lt
      have p1 : New g6 (k2.set g6.length ⟨y.2.cells, .own 28 1⟩) s 22 1 (y.1.map fl) := (hS.base ((Kept.app _ _).trans hN.kept)).set_other (by omega) (by intro q; have := hS.lt q; (try simp only [List.length_append, List.length_singleton] at this); omega)
      have p2 : Cel (k2.set g6.length ⟨y.2.cells, .own 28 1⟩) (g6.length) 28 y.2.cells := Cel.put c.lt
      have p3 : Not s (g6.length) := by
        intro q
        have := hS.lt q
        try simp only [List.length_append, List.length_singleton] at this
        omega
      have p4 : g6.length ≤ g6.length := by omega
      repeat' (first | (simp (disch := first | omega | assumption | (simp only [List.length_set]; omega) | (simp [*] <;> fail) | assumption) [-Bool.decide_and, -Bool.decide_or, -Bool.not_and, -Bool.not_or, toNat_pred, toNat_succ, wrap64, wr_new, wr_new0, ok_if, ok_ifn, iadV_sl, makeV_int, decT, decF, over_at, *, leavesAll, fillL, p1, p2, p3, p4]) | (with_reducible refine Gd_split (fun hc => ?_) (fun hc => ?_) <;> (have hc2 := hc; try simp at hc2)) | (with_reducible refine Br_split (fun hc => ?_) (fun hc => ?_) <;> (have hc2 := hc; try simp at hc2)) | (with_reducible refine GdT_split (fun hc => ?_) (fun hc => ?_) <;> (have hc2 := hc; try simp at hc2)) | (with_reducible refine WT_alt ?_ ?_) | omega)
      all_goals exact ⟨p1, p2, p3, p4⟩
    · refine c_toFloat32S (hA1.kept Ns.kept).app hn (by simp; omega) fun l1 k1 hN => ?_
      have := hN.kept.1
      try simp only [List.length_append, List.length_singleton] at this
      repeat' (first | (simp (disch := first | omega | assumption | (simp only [List.length_set]; omega) | (simp [*] <;> fail) | assumption) [-Bool.decide_and, -Bool.decide_or, -Bool.not_and, -Bool.not_or, toNat_pred, toNat_succ, wrap64, wr_new, wr_new0, ok_if, ok_ifn, iadV_sl, makeV_int, decT, decF, over_at, *, leavesAll, fillL]) | (with_reducible refine Gd_split (fun hc => ?_) (fun hc => ?_) <;> (have hc2 := hc; try simp at hc2)) | (with_reducible refine Br_split (fun hc => ?_) (fun hc => ?_) <;> (have hc2 := hc; try simp at hc2)) | (with_reducible refine GdT_split (fun hc => ?_) (fun hc => ?_) <;> (have hc2 := hc; try simp at hc2)) | (with_reducible refine WT_alt ?_ ?_) | omega)
      refine ci hN.arr (by omega) fun s k2 hS => ?_
      have := hS.kept.1
      have c := ((Cel.new (g := g6) (t := []) (ty := 28) (cs := [.flt .f32 0, .flt .f32 0, .flt .f32 0, .flt .f32 0])).kept hN.kept).kept hS.kept
      have w := c.wr (lim := h.length) (new := y.2.cells) (by omega) rfl
      have clt := c.lt
      have p1 : New g6 (k2.set g6.length ⟨y.2.cells, .own 28 1⟩) s 22 1 (y.1.map fl) := (hS.base ((Kept.app _ _).trans hN.kept)).set_other (by omega) (by intro q; have := hS.lt q; (try simp only [List.length_append, List.length_singleton] at this); omega)
      have p2 : Cel (k2.set g6.length ⟨y.2.cells, .own 28 1⟩) (g6.length) 28 y.2.cells := Cel.put c.lt
      have p3 : Not s (g6.length) := by
        intro q
        have := hS.lt q
        try simp only [List.length_append, List.length_singleton] at this
        omega
      have p4 : g6.length ≤ g6.length := by omega
      repeat' (first | (simp (disch := first | omega | assumption | (simp only [List.length_set]; omega) | (simp [*] <;> fail) | assumption) [-Bool.decide_and, -Bool.decide_or, -Bool.not_and, -Bool.not_or, toNat_pred, toNat_succ, wrap64, wr_new, wr_new0, ok_if, ok_ifn, iadV_sl, makeV_int, decT, decF, over_at, *, leavesAll, fillL, p1, p2, p3, p4]) | (with_reducible refine Gd_split (fun hc => ?_) (fun hc => ?_) <;> (have hc2 := hc; try simp at hc2)) | (with_reducible refine Br_split (fun hc => ?_) (fun hc => ?_) <;> (have hc2 := hc; try simp at hc2)) | (with_reducible refine GdT_split (fun hc => ?_) (fun hc => ?_) <;> (have hc2 := hc; try simp at hc2)) | (with_reducible refine WT_alt ?_ ?_) | omega)
      all_goals exact ⟨p1, p2, p3, p4⟩
    · refine c_toFloat32S (hA1.kept Ns.kept).app hn (by simp; omega) fun l1 k1 hN => ?_
      have := hN.kept.1
      try simp only [List.length_append, List.length_singleton] at this
      repeat' (first | (simp (disch := first | omega | assumption | (simp only [List.length_set]; omega) | (simp [*] <;> fail) | assumption) [-Bool.decide_and, -Bool.decide_or, -Bool.not_and, -Bool.not_or, toNat_pred, toNat_succ, wrap64, wr_new, wr_new0, ok_if, ok_ifn, iadV_sl, makeV_int, decT, decF, over_at, *, leavesAll, fillL]) | (with_reducible refine Gd_split (fun hc => ?_) (fun hc => ?_) <;> (have hc2 := hc; try simp at hc2)) | (with_reducible refine Br_split (fun hc => ?_) (fun hc => ?_) <;> (have hc2 := hc; try simp at hc2)) | (with_reducible refine GdT_split (fun hc => ?_) (fun hc => ?_) <;> (have hc2 := hc; try simp at hc2)) | (with_reducible refine WT_alt ?_ ?_) | omega)
      refine ci hN.arr (by omega) fun s k2 hS => ?_
      have := hS.kept.1
      have c := ((Cel.new (g := g6) (t := []) (ty := 28) (cs := [.flt .f32 0, .flt .f32 0, .flt .f32 0, .flt .f32 0])).kept hN.kept).kept hS.kept
      have w := c.wr (lim := h.length) (new := y.2.cells) (by omega) rfl
      have clt := c.lt
      have p1 : New g6 (k2.set g6.length ⟨y.2.cells, .own 28 1⟩) s 22 1 (y.1.map fl) := (hS.base ((Kept.app _ _).trans hN.kept)).set_other (by omega) (by intro q; have := hS.lt q; (try simp only [List.length_append, List.length_singleton] at this); omega)
      have p2 : Cel (k2.set g6.length ⟨y.2.cells, .own 28 1⟩) (g6.length) 28 y.2.cells := Cel.put c.lt
      have p3 : Not s (g6.length) := by
        intro q
        have := hS.lt q
        try simp only [List.length_append, List.length_singleton] at this
        omega
      have p4 : g6.length ≤ g6.length := by omega
      repeat' (first | (simp (disch := first | omega | assumption | (simp only [List.length_set]; omega) | (simp [*] <;> fail) | assumption) [-Bool.decide_and, -Bool.decide_or, -Bool.not_and, -Bool.not_or, toNat_pred, toNat_succ, wrap64, wr_new, wr_new0, ok_if, ok_ifn, iadV_sl, makeV_int, decT, decF, over_at, *, leavesAll, fillL, p1, p2, p3, p4]) | (with_reducible refine Gd_split (fun hc => ?_) (fun hc => ?_) <;> (have hc2 := hc; try simp at hc2)) | (with_reducible refine Br_split (fun hc => ?_) (fun hc => ?_) <;> (have hc2 := hc; try simp at hc2)) | (with_reducible refine GdT_split (fun hc => ?_) (fun hc => ?_) <;> (have hc2 := hc; try simp at hc2)) | (with_reducible refine WT_alt ?_ ?_) | omega)
      all_goals exact ⟨p1, p2, p3, p4⟩
  rintro b g7 ⟨u, i3, e1, e2, e3, hu, ci3, nui3, qi3⟩
  have z7 := hu.kept.1
  replace Ns := Ns.later hu.kept
  replace Nr := Nr.later hu.kept
  replace ci1 := ci1.kept hu.kept
  have r1 : rdCells g7 i1 0 4 = some y.2.cells := ci1.rd (by simp [hy4])
  have r3 : rdCells g7 i3 0 4 = some y.2.cells := ci3.rd (by simp [hy4])
  repeat' (first | (simp (disch := first | omega | assumption | (simp only [List.length_set]; omega) | (simp [*] <;> fail) | assumption) [-Bool.decide_and, -Bool.decide_or, -Bool.not_and, -Bool.not_or, toNat_pred, toNat_succ, wrap64, wr_new, wr_new0, ok_if, ok_ifn, iadV_sl, makeV_int, decT, decF, over_at, *, c_eqFloat32S hu.arr Ns.arr, c_eqMemory, c_heldFloat32S Nr.arr]) | (with_reducible refine Gd_split (fun hc => ?_) (fun hc => ?_) <;> (have hc2 := hc; try simp at hc2)) | (with_reducible refine Br_split (fun hc => ?_) (fun hc => ?_) <;> (have hc2 := hc; try simp at hc2)) | (with_reducible refine GdT_split (fun hc => ?_) (fun hc => ?_) <;> (have hc2 := hc; try simp at hc2)) | (with_reducible refine WT_alt ?_ ?_) | omega)
end Go.E
namespace Go.E.RunFilter
open Go Go.E
def pure : FuncId → Bool := fun f => List.elem f [3, 4, 5, 6, 7, 8, 9, 10, 11, 12, 13, 14, 16, 17, 20, 21, 23, 26, 30, 31, 34, 35, 36, 37, 38, 39, 41, 42, 43, 44, 47, 48, 49, 53, 54, 58, 61, 63, 65, 68, 69, 71, 72, 73, 78, 79, 82, 85, 86, 88, 89, 91, 92, 93, 94, 95, 96, 97, 98, 99, 100, 101, 104, 106, 109, 110, 111, 112, 113, 115, 116, 117, 118, 120, 122, 123, 126, 128, 129, 130, 132, 133, 134, 135, 136, 137, 143, 144, 146, 147, 149, 150, 151, 152, 153, 154, 155, 156, 157, 160, 161, 162, 164, 165, 166, 168, 169, 170, 171, 172, 173, 174, 176, 177, 178, 179, 180, 181, 182, 183, 184, 185, 186, 187, 188, 189, 190, 191, 192, 195, 198, 200, 201, 202, 203, 204, 205, 206, 207, 208, 209, 210, 211, 212, 213, 215, 216, 217, 218, 219, 220, 222, 223, 224, 225, 227, 229, 231, 238, 240, 241]
def funs : List (Nat × LFn) := [(93, L93), (130, L130), (150, L150), (189, L189), (190, L190), (178, L178), (195, L195), (212, L212), (213, L213), (177, L177), (179, L179), (149, L149), (151, L151), (87, L87), (90, L90), (86, L86), (89, L89), (15, L15), (19, L19), (85, L85), (88, L88), (91, L91), (18, L18), (20, L20), (22, L22), (23, L23), (3, L3), (16, L16), (17, L17), (21, L21)]
def Sy : Sys := sysOf funs
theorem lfn93 : lFn Go.Proofs.Try.prog pure Go.Proofs.Try.f93 = some L93 := by kernel_rfl
theorem lfn130 : lFn Go.Proofs.Try.prog pure Go.Proofs.Try.f130 = some L130 := by kernel_rfl
theorem lfn150 : lFn Go.Proofs.Try.prog pure Go.Proofs.Try.f150 = some L150 := by kernel_rfl
theorem lfn189 : lFn Go.Proofs.Try.prog pure Go.Proofs.Try.f189 = some L189 := by kernel_rfl
theorem lfn190 : lFn Go.Proofs.Try.prog pure Go.Proofs.Try.f190 = some L190 := by kernel_rfl
theorem lfn178 : lFn Go.Proofs.Try.prog pure Go.Proofs.Try.f178 = some L178 := by kernel_rfl
theorem lfn195 : lFn Go.Proofs.Try.prog pure Go.Proofs.Try.f195 = some L195 := by kernel_rfl
theorem lfn212 : lFn Go.Proofs.Try.prog pure Go.Proofs.Try.f212 = some L212 := by kernel_rfl
theorem lfn213 : lFn Go.Proofs.Try.prog pure Go.Proofs.Try.f213 = some L213 := by kernel_rfl
theorem lfn177 : lFn Go.Proofs.Try.prog pure Go.Proofs.Try.f177 = some L177 := by kernel_rfl
theorem lfn179 : lFn Go.Proofs.Try.prog pure Go.Proofs.Try.f179 = some L179 := by kernel_rfl
theorem lfn149 : lFn Go.Proofs.Try.prog pure Go.Proofs.Try.f149 = some L149 := by kernel_rfl
theorem lfn151 : lFn Go.Proofs.Try.prog pure Go.Proofs.Try.f151 = some L151 := by kernel_rfl
theorem lfn87 : lFn Go.Proofs.Try.prog pure Go.Proofs.Try.f87 = some L87 := by kernel_rfl
theorem lfn90 : lFn Go.Proofs.Try.prog pure Go.Proofs.Try.f90 = some L90 := by kernel_rfl
theorem lfn86 : lFn Go.Proofs.Try.prog pure Go.Proofs.Try.f86 = some L86 := by kernel_rfl
theorem lfn89 : lFn Go.Proofs.Try.prog pure Go.Proofs.Try.f89 = some L89 := by kernel_rfl
theorem lfn15 : lFn Go.Proofs.Try.prog pure Go.Proofs.Try.f15 = some L15 := by kernel_rfl
theorem lfn19 : lFn Go.Proofs.Try.prog pure Go.Proofs.Try.f19 = some L19 := by kernel_rfl
theorem lfn85 : lFn Go.Proofs.Try.prog pure Go.Proofs.Try.f85 = some L85 := by kernel_rfl
theorem lfn88 : lFn Go.Proofs.Try.prog pure Go.Proofs.Try.f88 = some L88 := by kernel_rfl
theorem lfn91 : lFn Go.Proofs.Try.prog pure Go.Proofs.Try.f91 = some L91 := by kernel_rfl
theorem lfn18 : lFn Go.Proofs.Try.prog pure Go.Proofs.Try.f18 = some L18 := by kernel_rfl
theorem lfn20 : lFn Go.Proofs.Try.prog pure Go.Proofs.Try.f20 = some L20 := by kernel_rfl
theorem lfn22 : lFn Go.Proofs.Try.prog pure Go.Proofs.Try.f22 = some L22 := by kernel_rfl
theorem lfn23 : lFn Go.Proofs.Try.prog pure Go.Proofs.Try.f23 = some L23 := by kernel_rfl
theorem lfn3 : lFn Go.Proofs.Try.prog pure Go.Proofs.Try.f3 = some L3 := by kernel_rfl
theorem lfn16 : lFn Go.Proofs.Try.prog pure Go.Proofs.Try.f16 = some L16 := by kernel_rfl
theorem lfn17 : lFn Go.Proofs.Try.prog pure Go.Proofs.Try.f17 = some L17 := by kernel_rfl
theorem lfn21 : lFn Go.Proofs.Try.prog pure Go.Proofs.Try.f21 = some L21 := by kernel_rfl
instance : HasA Sy := { f93 := rfl, f130 := rfl, f150 := rfl }
instance : HasFb Sy := { f189 := rfl, f190 := rfl }
instance : HasFf Sy := { f178 := rfl, f195 := rfl, f212 := rfl, f213 := rfl }
instance : HasFl2 Sy := { f177 := rfl, f179 := rfl }
instance : HasFi Sy := { f149 := rfl, f151 := rfl }
instance : HasFr Sy := { f87 := rfl, f90 := rfl }
instance : HasP Sy := { f86 := rfl, f89 := rfl }
instance : HasRf Sy := { f15 := rfl, f19 := rfl, f85 := rfl, f88 := rfl }
instance : HasSame Sy := { f91 := rfl }
instance : HasF Sy := { f18 := rfl, f20 := rfl, f22 := rfl, f23 := rfl }
instance : HasLRunFilter Sy := { f3 := rfl, f16 := rfl, f17 := rfl, f21 := rfl }
theorem sysOK {B : Nat} {w0 : World} : SysOK Go.Proofs.Try.prog pure Sy B w0 := SysOK.of (by
  intro p hp
  simp only [funs, List.mem_cons, List.not_mem_nil, or_false] at hp
  rcases hp with rfl | rfl | rfl | rfl | rfl | rfl | rfl | rfl | rfl | rfl | rfl | rfl | rfl | rfl | rfl | rfl | rfl | rfl | rfl | rfl | rfl | rfl | rfl | rfl | rfl | rfl | rfl | rfl | rfl | rfl
  · exact ⟨_, Go.Proofs.Try.func93, lfn93⟩
  · exact ⟨_, Go.Proofs.Try.func130, lfn130⟩
  · exact ⟨_, Go.Proofs.Try.func150, lfn150⟩
  · exact ⟨_, Go.Proofs.Try.func189, lfn189⟩
  · exact ⟨_, Go.Proofs.Try.func190, lfn190⟩
  · exact ⟨_, Go.Proofs.Try.func178, lfn178⟩
  · exact ⟨_, Go.Proofs.Try.func195, lfn195⟩
  · exact ⟨_, Go.Proofs.Try.func212, lfn212⟩
  · exact ⟨_, Go.Proofs.Try.func213, lfn213⟩
  · exact ⟨_, Go.Proofs.Try.func177, lfn177⟩
  · exact ⟨_, Go.Proofs.Try.func179, lfn179⟩
  · exact ⟨_, Go.Proofs.Try.func149, lfn149⟩
  · exact ⟨_, Go.Proofs.Try.func151, lfn151⟩
  · exact ⟨_, Go.Proofs.Try.func87, lfn87⟩
  · exact ⟨_, Go.Proofs.Try.func90, lfn90⟩
  · exact ⟨_, Go.Proofs.Try.func86, lfn86⟩
  · exact ⟨_, Go.Proofs.Try.func89, lfn89⟩
  · exact ⟨_, Go.Proofs.Try.func15, lfn15⟩
  · exact ⟨_, Go.Proofs.Try.func19, lfn19⟩
  · exact ⟨_, Go.Proofs.Try.func85, lfn85⟩
  · exact ⟨_, Go.Proofs.Try.func88, lfn88⟩
  · exact ⟨_, Go.Proofs.Try.func91, lfn91⟩
  · exact ⟨_, Go.Proofs.Try.func18, lfn18⟩
  · exact ⟨_, Go.Proofs.Try.func20, lfn20⟩
  · exact ⟨_, Go.Proofs.Try.func22, lfn22⟩
  · exact ⟨_, Go.Proofs.Try.func23, lfn23⟩
  · exact ⟨_, Go.Proofs.Try.func3, lfn3⟩
  · exact ⟨_, Go.Proofs.Try.func16, lfn16⟩
  · exact ⟨_, Go.Proofs.Try.func17, lfn17⟩
  · exact ⟨_, Go.Proofs.Try.func21, lfn21⟩)

end Go.E.RunFilter
