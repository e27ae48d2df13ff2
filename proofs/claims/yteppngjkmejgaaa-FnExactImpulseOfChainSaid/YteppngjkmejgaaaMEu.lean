/- What an effect makes of samples, the reference's side. -/
import Derived.Test.YteppngjkmejgaaaMEt
import Derived.Test.YteppngjkmejgaaaMRc
set_option linter.unusedVariables false
set_option linter.unusedSimpArgs false
namespace Go.E
open Go
def L45 : LFn := ⟨3, (.seq (.reg [⟨(.some 6), (.mv (.c (.lf .nils))), none⟩, ⟨(.some 7), (.mv (.c (.lf .nils))), none⟩])
 (.seq (.reg [⟨(.some 27), (.mv (.t 0)), none⟩, ⟨(.some 28), (.nilck (.t 27)), none⟩, ⟨(.some 29), (.faddr 2 (.t 28)), none⟩, ⟨(.some 30), (.load false 1 (.t 29)), none⟩, ⟨(.some 8), (.mv (.t 30)), none⟩])
 (.seq (.seq (.reg [⟨(.some 31), (.mv (.t 0)), none⟩, ⟨(.some 32), (.nilck (.t 31)), none⟩, ⟨(.some 33), (.faddr 0 (.t 32)), none⟩, ⟨(.some 34), (.load false 1 (.t 33)), none⟩])
 (.block 0 (.seq (.reg [⟨(.some 36), (.bin .eql (.t 34) (.c (.lf (.int .i64 0)))), none⟩, ⟨(.some 35), (.mv (.t 36)), none⟩])
 (.cond (.t 35) (.seq (.reg [⟨(.some 37), (.mv (.t 2)), none⟩, ⟨(.some 38), (.mv (.t 8)), none⟩, ⟨(.some 39), (.iaddr 1 (.t 38) (.c (.lf (.int .i64 0)))), none⟩, ⟨(.some 40), (.load false 1 (.t 39)), none⟩, ⟨(.some 41), (.call false 54 [(.t 37), (.t 40)]), none⟩, ⟨(.some 42), (.lit 50 1 0 [] []), none⟩, ⟨(.some 6), (.mv (.t 41)), none⟩, ⟨(.some 7), (.mv (.t 42)), none⟩])
 .ret) (.seq (.reg [⟨(.some 44), (.bin .eql (.t 34) (.c (.lf (.int .i64 1)))), none⟩, ⟨(.some 43), (.mv (.t 44)), none⟩])
 (.cond (.t 43) (.seq (.reg [⟨(.some 45), (.mv (.t 8)), none⟩, ⟨(.some 46), (.iaddr 1 (.t 45) (.c (.lf (.int .i64 0)))), none⟩, ⟨(.some 47), (.load false 1 (.t 46)), none⟩, ⟨(.some 48), (.mv (.t 8)), none⟩, ⟨(.some 49), (.iaddr 1 (.t 48) (.c (.lf (.int .i64 1)))), none⟩, ⟨(.some 50), (.load false 1 (.t 49)), none⟩, ⟨(.some 51), (.mv (.t 8)), none⟩, ⟨(.some 52), (.iaddr 1 (.t 51) (.c (.lf (.int .i64 2)))), none⟩, ⟨(.some 53), (.load false 1 (.t 52)), none⟩, ⟨(.some 54), (.mv (.t 8)), none⟩, ⟨(.some 55), (.iaddr 1 (.t 54) (.c (.lf (.int .i64 3)))), none⟩, ⟨(.some 56), (.load false 1 (.t 55)), none⟩, ⟨(.some 57), (.mv (.t 8)), none⟩, ⟨(.some 58), (.iaddr 1 (.t 57) (.c (.lf (.int .i64 4)))), none⟩, ⟨(.some 59), (.load false 1 (.t 58)), none⟩, ⟨(.some 60), (.build [(.flt .f32 0), (.flt .f32 0), (.flt .f32 0), (.flt .f32 0), (.flt .f32 0)] [(0, (1, (.t 47))), (1, (1, (.t 50))), (2, (1, (.t 53))), (3, (1, (.t 56))), (4, (1, (.t 59)))]), none⟩, ⟨(.some 9), (.alloc 76 [(.flt .f32 0), (.flt .f32 0), (.flt .f32 0), (.flt .f32 0), (.flt .f32 0)]), none⟩, ⟨none, (.store 5 (.t 9) (.t 60)), none⟩])
 (.seq (.any (.op ⟨(.some 62), (.mv (.t 1)), none⟩ (.op ⟨(.some 63), (.iaddr 1 (.t 62) (.c (.lf (.int .i64 0)))), none⟩ (.op ⟨(.some 64), (.load false 1 (.t 63)), none⟩ (.op ⟨(.some 65), (.mv (.t 1)), none⟩ (.op ⟨(.some 66), (.iaddr 1 (.t 65) (.c (.lf (.int .i64 1)))), none⟩ (.op ⟨(.some 67), (.load false 1 (.t 66)), none⟩ (.op ⟨(.some 68), (.build [(.flt .f32 0), (.flt .f32 0), (.flt .f32 0), (.flt .f32 0)] [(0, (1, (.t 64))), (1, (1, (.t 67)))]), none⟩ (.op ⟨(.some 69), (.mv (.t 2)), none⟩ (.alt (.op ⟨(.some 70), (.call false 55 [(.t 9), (.c (.lf (.int .i64 1))), (.c (.lf (.bool true))), (.t 68), (.t 69)]), none⟩ (.op ⟨(.some 61), (.mv (.t 70)), none⟩ (.op ⟨(.some 71), (.ext (.t 61) 0), none⟩ (.op ⟨(.some 72), (.ext (.t 61) 1), none⟩ (.op ⟨(.some 11), (.alloc 78 [(.flt .f32 0), (.flt .f32 0), (.flt .f32 0), (.flt .f32 0)]), none⟩ (.op ⟨(.some 10), (.mv (.t 71)), none⟩ (.op ⟨none, (.store 4 (.t 11) (.t 72)), none⟩ .nil))))))) (.op ⟨(.some 11), (.alloc 78 [(.flt .f32 0), (.flt .f32 0), (.flt .f32 0), (.flt .f32 0)]), none⟩ (.op ⟨(.some 70), (.call false 55 [(.t 9), (.c (.lf (.int .i64 1))), (.c (.lf (.bool true))), (.t 68), (.t 69)]), none⟩ (.op ⟨(.some 61), (.mv (.t 70)), none⟩ (.op ⟨(.some 71), (.ext (.t 61) 0), none⟩ (.op ⟨(.some 72), (.ext (.t 61) 1), none⟩ (.op ⟨(.some 10), (.mv (.t 71)), none⟩ (.op ⟨none, (.store 4 (.t 11) (.t 72)), none⟩ .nil)))))))))))))))))
 (.seq (.reg [⟨(.some 73), (.mv (.t 10)), none⟩, ⟨(.some 74), (.faddr 0 (.t 11)), none⟩, ⟨(.some 75), (.load false 1 (.t 74)), none⟩, ⟨(.some 76), (.faddr 1 (.t 11)), none⟩, ⟨(.some 77), (.load false 1 (.t 76)), none⟩, ⟨(.some 78), (.lit 50 1 2 [(.flt .f32 0), (.flt .f32 0)] [(0, (1, (.t 75))), (1, (1, (.t 77)))]), none⟩, ⟨(.some 6), (.mv (.t 73)), none⟩, ⟨(.some 7), (.mv (.t 78)), none⟩])
 .ret))) (.seq (.reg [⟨(.some 80), (.bin .eql (.t 34) (.c (.lf (.int .i64 2)))), none⟩, ⟨(.some 79), (.mv (.t 80)), none⟩])
 (.cond (.t 79) (.seq (.reg [⟨(.some 81), (.lit 50 1 0 [] []), none⟩, ⟨(.some 82), (.mv (.t 1)), none⟩, ⟨(.some 83), (.app 50 1 4 (.t 81) (.t 82)), none⟩, ⟨(.some 12), (.mv (.t 83)), none⟩])
 (.seq (.reg [⟨(.some 84), (.lit 50 1 0 [] []), none⟩, ⟨(.some 13), (.mv (.t 84)), none⟩])
 (.seq (.seq (.reg [⟨(.some 14), (.mv (.c (.lf (.int .i64 0)))), none⟩])
 (.block 1 (.loop (.seq (.seq (.reg [⟨(.some 85), (.mv (.t 14)), none⟩, ⟨(.some 86), (.mv (.t 2)), none⟩, ⟨(.some 87), (.len (.t 86)), none⟩, ⟨(.some 88), (.bin .lss (.t 85) (.t 87)), none⟩])
 (.cond (.t 88) .skip (.exit 1)))
 (.seq (.block 2 (.seq (.reg [⟨(.some 91), (.mv (.t 12)), none⟩, ⟨(.some 92), (.iaddr 1 (.t 91) (.c (.lf (.int .i64 0)))), none⟩, ⟨(.some 93), (.load false 1 (.t 92)), none⟩, ⟨(.some 15), (.mv (.t 93)), none⟩])
 (.seq (.reg [⟨(.some 94), (.mv (.t 13)), none⟩, ⟨(.some 95), (.mv (.t 2)), none⟩, ⟨(.some 96), (.mv (.t 14)), none⟩, ⟨(.some 97), (.iaddr 1 (.t 95) (.t 96)), none⟩, ⟨(.some 98), (.load false 1 (.t 97)), none⟩, ⟨(.some 99), (.mv (.t 8)), none⟩, ⟨(.some 100), (.iaddr 1 (.t 99) (.c (.lf (.int .i64 1)))), none⟩, ⟨(.some 101), (.load false 1 (.t 100)), none⟩, ⟨(.some 102), (.mv (.t 15)), none⟩, ⟨(.some 103), (.bin .mul (.t 101) (.t 102)), none⟩, ⟨(.some 104), (.bin .add (.t 98) (.t 103)), none⟩, ⟨(.some 105), (.lit 50 1 1 [(.flt .f32 0)] [(0, (1, (.t 104)))]), none⟩, ⟨(.some 106), (.app 50 1 4 (.t 94) (.t 105)), none⟩, ⟨(.some 13), (.mv (.t 106)), none⟩])
 (.any (.op ⟨(.some 108), (.mv (.t 12)), none⟩ (.op ⟨(.some 109), (.slice 1 (.t 108) (.some (.c (.lf (.int .i64 1)))) none), none⟩ (.op ⟨(.some 111), (.mv (.t 2)), none⟩ (.op ⟨(.some 112), (.mv (.t 14)), none⟩ (.op ⟨(.some 113), (.iaddr 1 (.t 111) (.t 112)), none⟩ (.op ⟨(.some 115), (.mv (.t 8)), none⟩ (.op ⟨(.some 116), (.iaddr 1 (.t 115) (.c (.lf (.int .i64 0)))), none⟩ (.op ⟨(.some 118), (.mv (.t 15)), none⟩ (.alt (.op ⟨(.some 107), (.lit 50 1 0 [] []), none⟩ (.alt (.op ⟨(.some 110), (.app 50 1 4 (.t 107) (.t 109)), none⟩ (.op ⟨(.some 114), (.load false 1 (.t 113)), none⟩ (.op ⟨(.some 117), (.load false 1 (.t 116)), none⟩ (.op ⟨(.some 119), (.bin .mul (.t 117) (.t 118)), none⟩ (.op ⟨(.some 120), (.bin .add (.t 114) (.t 119)), none⟩ (.op ⟨(.some 121), (.call true 56 [(.t 120)]), none⟩ (.op ⟨(.some 122), (.lit 50 1 1 [(.flt .f32 0)] [(0, (1, (.t 121)))]), none⟩ (.op ⟨(.some 123), (.app 50 1 4 (.t 110) (.t 122)), none⟩ (.op ⟨(.some 12), (.mv (.t 123)), none⟩ .nil))))))))) (.alt (.op ⟨(.some 114), (.load false 1 (.t 113)), none⟩ (.alt (.op ⟨(.some 110), (.app 50 1 4 (.t 107) (.t 109)), none⟩ (.op ⟨(.some 117), (.load false 1 (.t 116)), none⟩ (.op ⟨(.some 119), (.bin .mul (.t 117) (.t 118)), none⟩ (.op ⟨(.some 120), (.bin .add (.t 114) (.t 119)), none⟩ (.op ⟨(.some 121), (.call true 56 [(.t 120)]), none⟩ (.op ⟨(.some 122), (.lit 50 1 1 [(.flt .f32 0)] [(0, (1, (.t 121)))]), none⟩ (.op ⟨(.some 123), (.app 50 1 4 (.t 110) (.t 122)), none⟩ (.op ⟨(.some 12), (.mv (.t 123)), none⟩ .nil)))))))) (.op ⟨(.some 117), (.load false 1 (.t 116)), none⟩ (.op ⟨(.some 110), (.app 50 1 4 (.t 107) (.t 109)), none⟩ (.op ⟨(.some 119), (.bin .mul (.t 117) (.t 118)), none⟩ (.op ⟨(.some 120), (.bin .add (.t 114) (.t 119)), none⟩ (.op ⟨(.some 121), (.call true 56 [(.t 120)]), none⟩ (.op ⟨(.some 122), (.lit 50 1 1 [(.flt .f32 0)] [(0, (1, (.t 121)))]), none⟩ (.op ⟨(.some 123), (.app 50 1 4 (.t 110) (.t 122)), none⟩ (.op ⟨(.some 12), (.mv (.t 123)), none⟩ .nil)))))))))) (.op ⟨(.some 117), (.load false 1 (.t 116)), none⟩ (.op ⟨(.some 119), (.bin .mul (.t 117) (.t 118)), none⟩ (.alt (.op ⟨(.some 110), (.app 50 1 4 (.t 107) (.t 109)), none⟩ (.op ⟨(.some 114), (.load false 1 (.t 113)), none⟩ (.op ⟨(.some 120), (.bin .add (.t 114) (.t 119)), none⟩ (.op ⟨(.some 121), (.call true 56 [(.t 120)]), none⟩ (.op ⟨(.some 122), (.lit 50 1 1 [(.flt .f32 0)] [(0, (1, (.t 121)))]), none⟩ (.op ⟨(.some 123), (.app 50 1 4 (.t 110) (.t 122)), none⟩ (.op ⟨(.some 12), (.mv (.t 123)), none⟩ .nil))))))) (.op ⟨(.some 114), (.load false 1 (.t 113)), none⟩ (.op ⟨(.some 110), (.app 50 1 4 (.t 107) (.t 109)), none⟩ (.op ⟨(.some 120), (.bin .add (.t 114) (.t 119)), none⟩ (.op ⟨(.some 121), (.call true 56 [(.t 120)]), none⟩ (.op ⟨(.some 122), (.lit 50 1 1 [(.flt .f32 0)] [(0, (1, (.t 121)))]), none⟩ (.op ⟨(.some 123), (.app 50 1 4 (.t 110) (.t 122)), none⟩ (.op ⟨(.some 12), (.mv (.t 123)), none⟩ .nil))))))))))))) (.alt (.op ⟨(.some 114), (.load false 1 (.t 113)), none⟩ (.alt (.op ⟨(.some 107), (.lit 50 1 0 [] []), none⟩ (.alt (.op ⟨(.some 110), (.app 50 1 4 (.t 107) (.t 109)), none⟩ (.op ⟨(.some 117), (.load false 1 (.t 116)), none⟩ (.op ⟨(.some 119), (.bin .mul (.t 117) (.t 118)), none⟩ (.op ⟨(.some 120), (.bin .add (.t 114) (.t 119)), none⟩ (.op ⟨(.some 121), (.call true 56 [(.t 120)]), none⟩ (.op ⟨(.some 122), (.lit 50 1 1 [(.flt .f32 0)] [(0, (1, (.t 121)))]), none⟩ (.op ⟨(.some 123), (.app 50 1 4 (.t 110) (.t 122)), none⟩ (.op ⟨(.some 12), (.mv (.t 123)), none⟩ .nil)))))))) (.op ⟨(.some 117), (.load false 1 (.t 116)), none⟩ (.op ⟨(.some 110), (.app 50 1 4 (.t 107) (.t 109)), none⟩ (.op ⟨(.some 119), (.bin .mul (.t 117) (.t 118)), none⟩ (.op ⟨(.some 120), (.bin .add (.t 114) (.t 119)), none⟩ (.op ⟨(.some 121), (.call true 56 [(.t 120)]), none⟩ (.op ⟨(.some 122), (.lit 50 1 1 [(.flt .f32 0)] [(0, (1, (.t 121)))]), none⟩ (.op ⟨(.some 123), (.app 50 1 4 (.t 110) (.t 122)), none⟩ (.op ⟨(.some 12), (.mv (.t 123)), none⟩ .nil)))))))))) (.op ⟨(.some 117), (.load false 1 (.t 116)), none⟩ (.op ⟨(.some 107), (.lit 50 1 0 [] []), none⟩ (.op ⟨(.some 110), (.app 50 1 4 (.t 107) (.t 109)), none⟩ (.op ⟨(.some 119), (.bin .mul (.t 117) (.t 118)), none⟩ (.op ⟨(.some 120), (.bin .add (.t 114) (.t 119)), none⟩ (.op ⟨(.some 121), (.call true 56 [(.t 120)]), none⟩ (.op ⟨(.some 122), (.lit 50 1 1 [(.flt .f32 0)] [(0, (1, (.t 121)))]), none⟩ (.op ⟨(.some 123), (.app 50 1 4 (.t 110) (.t 122)), none⟩ (.op ⟨(.some 12), (.mv (.t 123)), none⟩ .nil))))))))))) (.op ⟨(.some 117), (.load false 1 (.t 116)), none⟩ (.op ⟨(.some 119), (.bin .mul (.t 117) (.t 118)), none⟩ (.alt (.op ⟨(.some 107), (.lit 50 1 0 [] []), none⟩ (.alt (.op ⟨(.some 110), (.app 50 1 4 (.t 107) (.t 109)), none⟩ (.op ⟨(.some 114), (.load false 1 (.t 113)), none⟩ (.op ⟨(.some 120), (.bin .add (.t 114) (.t 119)), none⟩ (.op ⟨(.some 121), (.call true 56 [(.t 120)]), none⟩ (.op ⟨(.some 122), (.lit 50 1 1 [(.flt .f32 0)] [(0, (1, (.t 121)))]), none⟩ (.op ⟨(.some 123), (.app 50 1 4 (.t 110) (.t 122)), none⟩ (.op ⟨(.some 12), (.mv (.t 123)), none⟩ .nil))))))) (.op ⟨(.some 114), (.load false 1 (.t 113)), none⟩ (.op ⟨(.some 110), (.app 50 1 4 (.t 107) (.t 109)), none⟩ (.op ⟨(.some 120), (.bin .add (.t 114) (.t 119)), none⟩ (.op ⟨(.some 121), (.call true 56 [(.t 120)]), none⟩ (.op ⟨(.some 122), (.lit 50 1 1 [(.flt .f32 0)] [(0, (1, (.t 121)))]), none⟩ (.op ⟨(.some 123), (.app 50 1 4 (.t 110) (.t 122)), none⟩ (.op ⟨(.some 12), (.mv (.t 123)), none⟩ .nil))))))))) (.op ⟨(.some 114), (.load false 1 (.t 113)), none⟩ (.op ⟨(.some 107), (.lit 50 1 0 [] []), none⟩ (.op ⟨(.some 110), (.app 50 1 4 (.t 107) (.t 109)), none⟩ (.op ⟨(.some 120), (.bin .add (.t 114) (.t 119)), none⟩ (.op ⟨(.some 121), (.call true 56 [(.t 120)]), none⟩ (.op ⟨(.some 122), (.lit 50 1 1 [(.flt .f32 0)] [(0, (1, (.t 121)))]), none⟩ (.op ⟨(.some 123), (.app 50 1 4 (.t 110) (.t 122)), none⟩ (.op ⟨(.some 12), (.mv (.t 123)), none⟩ .nil)))))))))))))))))))))))))
 (.reg [⟨(.some 89), (.mv (.t 14)), none⟩, ⟨(.some 90), (.bin .add (.t 89) (.c (.lf (.int .i64 1)))), none⟩, ⟨(.some 14), (.mv (.t 90)), none⟩]))))))
 (.seq (.reg [⟨(.some 124), (.mv (.t 13)), none⟩, ⟨(.some 125), (.mv (.t 12)), none⟩, ⟨(.some 6), (.mv (.t 124)), none⟩, ⟨(.some 7), (.mv (.t 125)), none⟩])
 .ret)))) (.seq (.reg [⟨(.some 127), (.bin .eql (.t 34) (.c (.lf (.int .i64 3)))), none⟩, ⟨(.some 126), (.mv (.t 127)), none⟩])
 (.cond (.t 126) (.seq (.reg [⟨(.some 128), (.mv (.t 8)), none⟩, ⟨(.some 129), (.iaddr 1 (.t 128) (.c (.lf (.int .i64 0)))), none⟩, ⟨(.some 130), (.load false 1 (.t 129)), none⟩, ⟨(.some 131), (.mv (.t 8)), none⟩, ⟨(.some 132), (.iaddr 1 (.t 131) (.c (.lf (.int .i64 1)))), none⟩, ⟨(.some 133), (.load false 1 (.t 132)), none⟩, ⟨(.some 134), (.mv (.t 1)), none⟩, ⟨(.some 135), (.iaddr 1 (.t 134) (.c (.lf (.int .i64 0)))), none⟩, ⟨(.some 136), (.load false 1 (.t 135)), none⟩, ⟨(.some 137), (.build [(.flt .f32 0), (.flt .f32 0), (.flt .f32 0)] [(0, (1, (.t 130))), (1, (1, (.t 133))), (2, (1, (.t 136)))]), none⟩, ⟨(.some 138), (.mv (.t 8)), none⟩, ⟨(.some 139), (.iaddr 1 (.t 138) (.c (.lf (.int .i64 2)))), none⟩, ⟨(.some 140), (.load false 1 (.t 139)), none⟩, ⟨(.some 141), (.mv (.t 8)), none⟩, ⟨(.some 142), (.iaddr 1 (.t 141) (.c (.lf (.int .i64 3)))), none⟩, ⟨(.some 143), (.load false 1 (.t 142)), none⟩, ⟨(.some 144), (.build [(.flt .f32 0), (.flt .f32 0), (.flt .f32 0), (.flt .f32 0), (.flt .f32 0)] [(0, (3, (.t 137))), (3, (1, (.t 140))), (4, (1, (.t 143)))]), none⟩, ⟨(.some 16), (.alloc 86 [(.flt .f32 0), (.flt .f32 0), (.flt .f32 0), (.flt .f32 0), (.flt .f32 0)]), none⟩, ⟨none, (.store 5 (.t 16) (.t 144)), none⟩])
 (.seq (.reg [⟨(.some 146), (.load true 5 (.t 16)), none⟩, ⟨(.some 147), (.mv (.t 2)), none⟩, ⟨(.some 148), (.mv (.t 2)), none⟩, ⟨(.some 149), (.call false 57 [(.t 146), (.t 147), (.t 148)]), none⟩, ⟨(.some 145), (.mv (.t 149)), none⟩, ⟨(.some 150), (.ext (.t 145) 0), none⟩, ⟨(.some 151), (.ext (.t 145) 1), none⟩, ⟨(.some 18), (.alloc 86 [(.flt .f32 0), (.flt .f32 0), (.flt .f32 0), (.flt .f32 0), (.flt .f32 0)]), none⟩, ⟨(.some 17), (.mv (.t 150)), none⟩, ⟨none, (.store 5 (.t 18) (.t 151)), none⟩])
 (.seq (.reg [⟨(.some 152), (.mv (.t 17)), none⟩, ⟨(.some 153), (.faddr 0 (.t 18)), none⟩, ⟨(.some 154), (.faddr 2 (.t 153)), none⟩, ⟨(.some 155), (.load false 1 (.t 154)), none⟩, ⟨(.some 156), (.lit 50 1 1 [(.flt .f32 0)] [(0, (1, (.t 155)))]), none⟩, ⟨(.some 6), (.mv (.t 152)), none⟩, ⟨(.some 7), (.mv (.t 156)), none⟩])
 .ret))) (.seq (.reg [⟨(.some 158), (.bin .eql (.t 34) (.c (.lf (.int .i64 4)))), none⟩, ⟨(.some 157), (.mv (.t 158)), none⟩])
 (.cond (.t 157) (.seq (.reg [⟨(.some 160), (.mv (.t 2)), none⟩, ⟨(.some 161), (.mv (.t 8)), none⟩, ⟨(.some 162), (.iaddr 1 (.t 161) (.c (.lf (.int .i64 0)))), none⟩, ⟨(.some 163), (.load false 1 (.t 162)), none⟩, ⟨(.some 164), (.call false 58 [(.t 160), (.t 163)]), none⟩, ⟨(.some 159), (.mv (.t 164)), none⟩, ⟨(.some 165), (.ext (.t 159) 0), none⟩, ⟨(.some 166), (.ext (.t 159) 1), none⟩, ⟨(.some 19), (.mv (.t 165)), none⟩, ⟨(.some 20), (.mv (.t 166)), none⟩])
 (.seq (.reg [⟨(.some 167), (.mv (.t 19)), none⟩, ⟨(.some 168), (.lit 50 1 0 [] []), none⟩, ⟨(.some 6), (.mv (.t 167)), none⟩, ⟨(.some 7), (.mv (.t 168)), none⟩])
 .ret)) (.seq (.reg [⟨(.some 170), (.bin .eql (.t 34) (.c (.lf (.int .i64 5)))), none⟩, ⟨(.some 169), (.mv (.t 170)), none⟩])
 (.cond (.t 169) (.seq (.reg [⟨(.some 171), (.lit 50 1 0 [] []), none⟩, ⟨(.some 21), (.mv (.t 171)), none⟩])
 (.seq (.seq (.reg [⟨(.some 22), (.mv (.c (.lf (.int .i64 0)))), none⟩])
 (.block 3 (.loop (.seq (.seq (.reg [⟨(.some 172), (.mv (.t 22)), none⟩, ⟨(.some 173), (.mv (.t 2)), none⟩, ⟨(.some 174), (.len (.t 173)), none⟩, ⟨(.some 175), (.bin .lss (.t 172) (.t 174)), none⟩])
 (.cond (.t 175) .skip (.exit 3)))
 (.seq (.block 4 (.reg [⟨(.some 178), (.mv (.t 21)), none⟩, ⟨(.some 179), (.mv (.t 2)), none⟩, ⟨(.some 180), (.mv (.t 22)), none⟩, ⟨(.some 181), (.iaddr 1 (.t 179) (.t 180)), none⟩, ⟨(.some 182), (.load false 1 (.t 181)), none⟩, ⟨(.some 183), (.call true 59 [(.t 182)]), none⟩, ⟨(.some 184), (.lit 50 1 1 [(.flt .f32 0)] [(0, (1, (.t 183)))]), none⟩, ⟨(.some 185), (.app 50 1 4 (.t 178) (.t 184)), none⟩, ⟨(.some 21), (.mv (.t 185)), none⟩]))
 (.reg [⟨(.some 176), (.mv (.t 22)), none⟩, ⟨(.some 177), (.bin .add (.t 176) (.c (.lf (.int .i64 1)))), none⟩, ⟨(.some 22), (.mv (.t 177)), none⟩]))))))
 (.seq (.reg [⟨(.some 186), (.mv (.t 21)), none⟩, ⟨(.some 187), (.lit 50 1 0 [] []), none⟩, ⟨(.some 6), (.mv (.t 186)), none⟩, ⟨(.some 7), (.mv (.t 187)), none⟩])
 .ret))) .skip))))))))))))))
 (.seq (.reg [⟨(.some 188), (.mv (.t 8)), none⟩, ⟨(.some 189), (.iaddr 1 (.t 188) (.c (.lf (.int .i64 0)))), none⟩, ⟨(.some 190), (.load false 1 (.t 189)), none⟩, ⟨(.some 191), (.mv (.t 8)), none⟩, ⟨(.some 192), (.iaddr 1 (.t 191) (.c (.lf (.int .i64 1)))), none⟩, ⟨(.some 193), (.load false 1 (.t 192)), none⟩, ⟨(.some 194), (.mv (.t 1)), none⟩, ⟨(.some 195), (.iaddr 1 (.t 194) (.c (.lf (.int .i64 0)))), none⟩, ⟨(.some 196), (.load false 1 (.t 195)), none⟩, ⟨(.some 197), (.mv (.t 1)), none⟩, ⟨(.some 198), (.slice 1 (.t 197) (.some (.c (.lf (.int .i64 1)))) none), none⟩, ⟨(.some 199), (.build [(.flt .f32 0), (.flt .f32 0), (.flt .f32 0), .nils] [(0, (1, (.t 190))), (1, (1, (.t 193))), (2, (1, (.t 196))), (3, (1, (.t 198)))]), none⟩, ⟨(.some 23), (.alloc 91 [(.flt .f32 0), (.flt .f32 0), (.flt .f32 0), .nils]), none⟩, ⟨none, (.store 4 (.t 23) (.t 199)), none⟩])
 (.seq (.reg [⟨(.some 201), (.load true 4 (.t 23)), none⟩, ⟨(.some 202), (.mv (.t 2)), none⟩, ⟨(.some 203), (.call false 60 [(.t 201), (.t 202)]), none⟩, ⟨(.some 200), (.mv (.t 203)), none⟩, ⟨(.some 204), (.ext (.t 200) 0), none⟩, ⟨(.some 205), (.ext (.t 200) 1), none⟩, ⟨(.some 206), (.ext (.t 200) 2), none⟩, ⟨(.some 25), (.alloc 91 [(.flt .f32 0), (.flt .f32 0), (.flt .f32 0), .nils]), none⟩, ⟨(.some 24), (.mv (.t 204)), none⟩, ⟨none, (.store 4 (.t 25) (.t 205)), none⟩, ⟨(.some 26), (.mv (.t 206)), none⟩])
 (.seq (.reg [⟨(.some 207), (.mv (.t 24)), none⟩, ⟨(.some 208), (.faddr 2 (.t 25)), none⟩, ⟨(.some 209), (.load false 1 (.t 208)), none⟩, ⟨(.some 210), (.lit 50 1 1 [(.flt .f32 0)] [(0, (1, (.t 209)))]), none⟩, ⟨(.some 211), (.faddr 3 (.t 25)), none⟩, ⟨(.some 212), (.load false 1 (.t 211)), none⟩, ⟨(.some 213), (.app 50 1 4 (.t 210) (.t 212)), none⟩, ⟨(.some 6), (.mv (.t 207)), none⟩, ⟨(.some 7), (.mv (.t 213)), none⟩])
 .ret)))))), [(.tmp 6), (.tmp 7)]⟩
class HasEs (S : Sys) : Prop extends HasZl S, HasZb S, HasZq S, HasZs S, HasFr S, HasFf S where
  f45 : S.fs 45 = some L45
section
variable {S : Sys} {lim : Nat} {h : Hp} {K : CV → Hp → Prop} [HasEs S] {l l2 l3 : Lf} {xs st : List Nat} {id off : Nat}
theorem far_end {g g1 : Hp} {o : Lf} {ty n : Nat} {rows : List (List Lf)} (hN : New h g o ty 1 rows) (hg : g.length ≤ g1.length) : Far o (.sl g1.length 0 n 1) := fun q1 _ => by have := (hN.lt q1).2; simp only [Lf.id_sl]; omega
theorem c_eff0 {x : Nat} (hk : rdCells h id off 1 = some [.int .i64 0]) (hp : rdCells h id (off + 2) 1 = some [l]) (hA : Arr h l 1 ([x].map fl)) (hX : Arr h l3 1 (xs.map fl)) (hn : xs.length ≤ 256) (hl : lim ≤ h.length) (hK : ∀ o s g, New h g o 50 1 ((xs.map (scl x)).map fl) → New h g s 50 1 [] → Far o s → K (.tup [.lf o, .lf s]) g) : CallT S false 45 [.lf (.ptr id off), .lf l2, .lf l3] h lim K := by
  refine CallT_of_body (F := L45) (HasEs.f45) rfl ?_; unfold L45; dsimp only []
  repeat' (first | (simp (disch := first | omega | assumption | (simp only [List.length_set]; omega) | (simp [*] <;> fail) | assumption) [-Bool.decide_and, -Bool.decide_or, -Bool.not_and, -Bool.not_or, toNat_pred, toNat_succ, wrap64, wr_new, wr_new0, ok_if, ok_ifn, iadV_sl, makeV_int, decT, decF, over_at, *, hA.len, hA.at_, hA.at_', hA.rd, hA.rdIn, hA.rdIn0, hA.rdA, hA.rdInA, hA.rdIn0A, hA.at0, hA.rd0, hA.rd0j, hA.rd0A, hA.rd0jA, fl]) | (with_reducible refine Gd_split (fun hc => ?_) (fun hc => ?_) <;> (have hc2 := hc; try simp at hc2)) | (with_reducible refine Br_split (fun hc => ?_) (fun hc => ?_) <;> (have hc2 := hc; try simp at hc2)) | (with_reducible refine GdT_split (fun hc => ?_) (fun hc => ?_) <;> (have hc2 := hc; try simp at hc2)) | (with_reducible refine WT_alt ?_ ?_) | omega)
  refine c_l01Scale hX hn hl fun o g hN => ?_
  have hk2 := hK o (.sl g.length 0 0 1) (g ++ [⟨[], .own 50 1⟩]) hN.app (New.litN hN.kept) (far_end hN (Nat.le_refl _))
  clear hK
  repeat' (first | (simp (disch := first | omega | assumption | (simp only [List.length_set]; omega) | (simp [*] <;> fail) | assumption) [-Bool.decide_and, -Bool.decide_or, -Bool.not_and, -Bool.not_or, toNat_pred, toNat_succ, wrap64, wr_new, wr_new0, ok_if, ok_ifn, iadV_sl, makeV_int, decT, decF, over_at, *, leavesAll, fillL]) | (with_reducible refine Gd_split (fun hc => ?_) (fun hc => ?_) <;> (have hc2 := hc; try simp at hc2)) | (with_reducible refine Br_split (fun hc => ?_) (fun hc => ?_) <;> (have hc2 := hc; try simp at hc2)) | (with_reducible refine GdT_split (fun hc => ?_) (fun hc => ?_) <;> (have hc2 := hc; try simp at hc2)) | (with_reducible refine WT_alt ?_ ?_) | omega)
theorem c_eff4 {x : Nat} (hk : rdCells h id off 1 = some [.int .i64 4]) (hp : rdCells h id (off + 2) 1 = some [l]) (hA : Arr h l 1 ([x].map fl)) (hX : Arr h l3 1 (xs.map fl)) (hx : ∀ x ∈ xs, CF x) (hn : xs.length ≤ 256) (hl : lim ≤ h.length) (hK : ∀ o s g, New h g o 50 1 ((xs.map (clipF x)).map fl) → New h g s 50 1 [] → Far o s → K (.tup [.lf o, .lf s]) g) : CallT S false 45 [.lf (.ptr id off), .lf l2, .lf l3] h lim K := by
  refine CallT_of_body (F := L45) (HasEs.f45) rfl ?_; unfold L45; dsimp only []
  repeat' (first | (simp (disch := first | omega | assumption | (simp only [List.length_set]; omega) | (simp [*] <;> fail) | assumption) [-Bool.decide_and, -Bool.decide_or, -Bool.not_and, -Bool.not_or, toNat_pred, toNat_succ, wrap64, wr_new, wr_new0, ok_if, ok_ifn, iadV_sl, makeV_int, decT, decF, over_at, *, hA.len, hA.at_, hA.at_', hA.rd, hA.rdIn, hA.rdIn0, hA.rdA, hA.rdInA, hA.rdIn0A, hA.at0, hA.rd0, hA.rd0j, hA.rd0A, hA.rd0jA, fl]) | (with_reducible refine Gd_split (fun hc => ?_) (fun hc => ?_) <;> (have hc2 := hc; try simp at hc2)) | (with_reducible refine Br_split (fun hc => ?_) (fun hc => ?_) <;> (have hc2 := hc; try simp at hc2)) | (with_reducible refine GdT_split (fun hc => ?_) (fun hc => ?_) <;> (have hc2 := hc; try simp at hc2)) | (with_reducible refine WT_alt ?_ ?_) | omega)
  refine c_specClip hX hx hn hl fun o g hN => ?_
  have hk2 := hK o (.sl g.length 0 0 1) (g ++ [⟨[], .own 50 1⟩]) hN.app (New.litN hN.kept) (far_end hN (Nat.le_refl _))
  clear hK
  repeat' (first | (simp (disch := first | omega | assumption | (simp only [List.length_set]; omega) | (simp [*] <;> fail) | assumption) [-Bool.decide_and, -Bool.decide_or, -Bool.not_and, -Bool.not_or, toNat_pred, toNat_succ, wrap64, wr_new, wr_new0, ok_if, ok_ifn, iadV_sl, makeV_int, decT, decF, over_at, *, leavesAll, fillL]) | (with_reducible refine Gd_split (fun hc => ?_) (fun hc => ?_) <;> (have hc2 := hc; try simp at hc2)) | (with_reducible refine Br_split (fun hc => ?_) (fun hc => ?_) <;> (have hc2 := hc; try simp at hc2)) | (with_reducible refine GdT_split (fun hc => ?_) (fun hc => ?_) <;> (have hc2 := hc; try simp at hc2)) | (with_reducible refine WT_alt ?_ ?_) | omega)
theorem c_eff5 (hk : rdCells h id off 1 = some [.int .i64 5]) (hp : rdCells h id (off + 2) 1 = some [l]) (hX : Arr h l3 1 (xs.map fl)) (hn : xs.length ≤ 256) (hl : lim ≤ h.length) (hK : ∀ o s g, New h g o 50 1 ((xs.map bendF).map fl) → New h g s 50 1 [] → Far o s → K (.tup [.lf o, .lf s]) g) : CallT S false 45 [.lf (.ptr id off), .lf l2, .lf l3] h lim K := by
  refine CallT_of_body (F := L45) (HasEs.f45) rfl ?_; unfold L45; dsimp only []
  repeat' (first | (simp (disch := first | omega | assumption | (simp only [List.length_set]; omega) | (simp [*] <;> fail) | assumption) [-Bool.decide_and, -Bool.decide_or, -Bool.not_and, -Bool.not_or, toNat_pred, toNat_succ, wrap64, wr_new, wr_new0, ok_if, ok_ifn, iadV_sl, makeV_int, decT, decF, over_at, *, hX.len, leavesAll, fillL]) | (with_reducible refine Gd_split (fun hc => ?_) (fun hc => ?_) <;> (have hc2 := hc; try simp at hc2)) | (with_reducible refine Br_split (fun hc => ?_) (fun hc => ?_) <;> (have hc2 := hc; try simp at hc2)) | (with_reducible refine GdT_split (fun hc => ?_) (fun hc => ?_) <;> (have hc2 := hc; try simp at hc2)) | (with_reducible refine WT_alt ?_ ?_) | omega)
  refine WL_forM 98073728304710379556581247444544981856350793120060801024 (by decide +kernel) (xs.length) (fun i b g => i ≤ xs.length ∧ b 22 = .lf (.int .i64 i) ∧ ∃ o, b 21 = .lf o ∧ New h g o 50 1 ((mapTo bendF xs i).map fl)) (fun _ _ _ hi => hi.1) ⟨by omega, by simp, .sl h.length 0 0 1, by simp, by simpa using New.lit0 (h := h)⟩ ?_
  rintro i b g ⟨hi, e14, o, e6, hN⟩
  have hl1 := mapTo_len (f := bendF) (xs := xs) (i := i)
  have hA1 := hX.kept hN.kept
  by_cases hlt : i < xs.length
  · have s1 := mapTo_fl (f := bendF) hlt
    have s1H : Hid ((mapTo bendF xs (i + 1)).map fl = (mapTo bendF xs i).map fl ++ [[.flt .f32 (bendF xs[i])]]) := s1
    clear hK s1
    repeat' (first | (simp (disch := first | omega | assumption | (simp only [List.length_set]; omega) | (simp [*] <;> fail) | assumption) [-Bool.decide_and, -Bool.decide_or, -Bool.not_and, -Bool.not_or, toNat_pred, toNat_succ, wrap64, wr_new, wr_new0, ok_if, ok_ifn, iadV_sl, makeV_int, decT, decF, over_at, *, hA1.len, hA1.at_, hA1.at_', hA1.rd, hA1.rdIn, hA1.rdIn0, hA1.rdA, hA1.rdInA, hA1.rdIn0A, hA1.rd1, fl, c_specBend, leavesAll, fillL]) | (with_reducible refine Gd_split (fun hc => ?_) (fun hc => ?_) <;> (have hc2 := hc; try simp at hc2)) | (with_reducible refine Br_split (fun hc => ?_) (fun hc => ?_) <;> (have hc2 := hc; try simp at hc2)) | (with_reducible refine GdT_split (fun hc => ?_) (fun hc => ?_) <;> (have hc2 := hc; try simp at hc2)) | (with_reducible refine WT_alt ?_ ?_) | omega)
    refine oc_push (bytes := 4) (r := [.flt .f32 (bendF xs[i])]) hN ?_ ?_ ?_ (by decide) rfl (by decide)
    · exact hl
    · simp; omega
    intro o2 g5 hN5 hB5
    rw [← show (mapTo bendF xs (i + 1)).map fl = _ from s1H] at hN5
    clear s1H
    repeat' (first | (simp (disch := first | omega | assumption | (simp only [List.length_set]; omega) | (simp [*] <;> fail) | assumption) [-Bool.decide_and, -Bool.decide_or, -Bool.not_and, -Bool.not_or, toNat_pred, toNat_succ, wrap64, wr_new, wr_new0, ok_if, ok_ifn, iadV_sl, makeV_int, decT, decF, over_at, *]) | (with_reducible refine Gd_split (fun hc => ?_) (fun hc => ?_) <;> (have hc2 := hc; try simp at hc2)) | (with_reducible refine Br_split (fun hc => ?_) (fun hc => ?_) <;> (have hc2 := hc; try simp at hc2)) | (with_reducible refine GdT_split (fun hc => ?_) (fun hc => ?_) <;> (have hc2 := hc; try simp at hc2)) | (with_reducible refine WT_alt ?_ ?_) | omega)
  · have : i = xs.length := by omega
    subst this
    rw [mapTo_all] at hN
    have hk2 := hK o (.sl g.length 0 0 1) (g ++ [⟨[], .own 50 1⟩]) hN.app (New.litN hN.kept) (far_end hN (Nat.le_refl _))
    clear hK
    repeat' (first | (simp (disch := first | omega | assumption | (simp only [List.length_set]; omega) | (simp [*] <;> fail) | assumption) [-Bool.decide_and, -Bool.decide_or, -Bool.not_and, -Bool.not_or, toNat_pred, toNat_succ, wrap64, wr_new, wr_new0, ok_if, ok_ifn, iadV_sl, makeV_int, decT, decF, over_at, *, hA1.len, leavesAll, fillL]) | (with_reducible refine Gd_split (fun hc => ?_) (fun hc => ?_) <;> (have hc2 := hc; try simp at hc2)) | (with_reducible refine Br_split (fun hc => ?_) (fun hc => ?_) <;> (have hc2 := hc; try simp at hc2)) | (with_reducible refine GdT_split (fun hc => ?_) (fun hc => ?_) <;> (have hc2 := hc; try simp at hc2)) | (with_reducible refine WT_alt ?_ ?_) | omega)
set_option maxHeartbeats 4000000 in
theorem c_eff3 {a0 a1 a2 a3 s0 : Nat} (hk : rdCells h id off 1 = some [.int .i64 3]) (hp : rdCells h id (off + 2) 1 = some [l]) (hA : Arr h l 1 ([a0, a1, a2, a3].map fl)) (hS : Arr h l2 1 ([s0].map fl)) (hX : Arr h l3 1 (xs.map fl)) (hx : ∀ x ∈ xs, CF x) (hn : xs.length ≤ 256) (hl : lim ≤ h.length)
    (hK : ∀ o s g, New h g o 50 1 ((scan (sqzS a0 a1 a2 a3) s0 xs).1.map fl) → New h g s 50 1 ([(scan (sqzS a0 a1 a2 a3) s0 xs).2].map fl) → Far o s → K (.tup [.lf o, .lf s]) g) : CallT S false 45 [.lf (.ptr id off), .lf l2, .lf l3] h lim K := by
  obtain ⟨n0, v0⟩ := lit_at (t := []) hA (j := 0) (by simp)
  obtain ⟨n1, v1⟩ := lit_at (t := []) hA (j := 1) (by simp)
  obtain ⟨n2, v2⟩ := lit_at (t := []) hA (j := 2) (by simp)
  obtain ⟨n3, v3⟩ := lit_at (t := []) hA (j := 3) (by simp)
  obtain ⟨m0, u0⟩ := lit_at (t := []) hS (j := 0) (by simp)
  replace n0 : iadV 1 (.lf l) (.lf (.int .i64 0)) = some (.lf (.ptr l.id (l.off + 0))) := n0
  replace n1 : iadV 1 (.lf l) (.lf (.int .i64 1)) = some (.lf (.ptr l.id (l.off + 1))) := n1
  replace n2 : iadV 1 (.lf l) (.lf (.int .i64 2)) = some (.lf (.ptr l.id (l.off + 2))) := n2
  replace n3 : iadV 1 (.lf l) (.lf (.int .i64 3)) = some (.lf (.ptr l.id (l.off + 3))) := n3
  replace m0 : iadV 1 (.lf l2) (.lf (.int .i64 0)) = some (.lf (.ptr l2.id (l2.off + 0))) := m0
  simp only [List.getElem_cons_zero, List.getElem_cons_succ, Nat.add_zero, List.append_nil] at n0 v0 v1 v2 v3 m0 u0
  refine CallT_of_body (F := L45) (HasEs.f45) rfl ?_; unfold L45; dsimp only []
  repeat' (first | (simp (disch := first | omega | assumption | (simp only [List.length_set]; omega) | (simp [*] <;> fail) | assumption) [-Bool.decide_and, -Bool.decide_or, -Bool.not_and, -Bool.not_or, toNat_pred, toNat_succ, wrap64, wr_new, wr_new0, ok_if, ok_ifn, iadV_sl, makeV_int, decT, decF, over_at, *, leavesAll, fillL]) | (with_reducible refine Gd_split (fun hc => ?_) (fun hc => ?_) <;> (have hc2 := hc; try simp at hc2)) | (with_reducible refine Br_split (fun hc => ?_) (fun hc => ?_) <;> (have hc2 := hc; try simp at hc2)) | (with_reducible refine GdT_split (fun hc => ?_) (fun hc => ?_) <;> (have hc2 := hc; try simp at hc2)) | (with_reducible refine WT_alt ?_ ?_) | omega)
  refine c_l04Squeeze (hX.app) hx hn (by simp; omega) fun o g hN => ?_
  have hN1 := hN.base (Kept.app h _)
  clear hN
  generalize (scan (sqzS a0 a1 a2 a3) s0 xs).2 = lv at *
  have hN2 := hN1.app (t := [⟨[.flt .f32 a0, .flt .f32 a1, .flt .f32 lv, .flt .f32 a2, .flt .f32 a3], .own 86 1⟩, ⟨[.flt .f32 lv], .own 50 1⟩])
  have hF := New.fls (h := h) (g := g ++ [⟨[.flt .f32 a0, .flt .f32 a1, .flt .f32 lv, .flt .f32 a2, .flt .f32 a3], .own 86 1⟩]) (xs := [lv]) (cs := [.flt .f32 lv]) (ty := 50) (hN1.kept.trans (Kept.app g _)) rfl (by simp)
  have hfar : Far o (.sl (g ++ ([⟨[.flt .f32 a0, .flt .f32 a1, .flt .f32 lv, .flt .f32 a2, .flt .f32 a3], .own 86 1⟩] : List Ob)).length 0 [lv].length 1) := far_end hN1 (by simp)
  rw [List.append_assoc] at hF
  have hk2 := hK _ _ _ hN2 hF hfar
  simp only [List.append_assoc, List.cons_append, List.nil_append, List.length_append, List.length_cons, List.length_nil] at hk2
  have hgl := hN1.kept.1
  have w := fun new hn => (Cel.new (g := g) (t := []) (ty := 86) (cs := [.flt .f32 0, .flt .f32 0, .flt .f32 0, .flt .f32 0, .flt .f32 0])).wr (lim := lim) (new := new) (by omega) hn
  clear hK hN1 hN2 hF hfar
  repeat' (first | (simp (disch := first | omega | assumption | (simp only [List.length_set]; omega) | (simp [*] <;> fail) | assumption) [-Bool.decide_and, -Bool.decide_or, -Bool.not_and, -Bool.not_or, toNat_pred, toNat_succ, wrap64, wr_new, wr_new0, ok_if, ok_ifn, iadV_sl, makeV_int, decT, decF, over_at, *, leavesAll, fillL]) | (with_reducible refine Gd_split (fun hc => ?_) (fun hc => ?_) <;> (have hc2 := hc; try simp at hc2)) | (with_reducible refine Br_split (fun hc => ?_) (fun hc => ?_) <;> (have hc2 := hc; try simp at hc2)) | (with_reducible refine GdT_split (fun hc => ?_) (fun hc => ?_) <;> (have hc2 := hc; try simp at hc2)) | (with_reducible refine WT_alt ?_ ?_) | omega)
set_option maxHeartbeats 4000000 in
theorem c_eff6 {L rise : Nat} (hk : rdCells h id off 1 = some [.int .i64 6]) (hp : rdCells h id (off + 2) 1 = some [l]) (hA : Arr h l 1 ([L, rise].map fl)) (hL : limB L = true) (hS : Sm h l2 st) (h1 : 0 < st.length) (h2 : st.length ≤ 65) (hsc : ∀ x ∈ st, CF x) (hX : Arr h l3 1 (xs.map fl)) (hx : ∀ x ∈ xs, CF x) (hn : xs.length ≤ 256) (hl : lim ≤ h.length)
    (hK : ∀ o s g, New h g o 50 1 ((scan (limS L rise) (st.getD 0 0, st.drop 1) xs).1.map fl) → New h g s 50 1 (((scan (limS L rise) (st.getD 0 0, st.drop 1) xs).2.1 :: (scan (limS L rise) (st.getD 0 0, st.drop 1) xs).2.2).map fl) → Far o s → K (.tup [.lf o, .lf s]) g) : CallT S false 45 [.lf (.ptr id off), .lf l2, .lf l3] h lim K := by
  obtain ⟨n0, v0⟩ := lit_at (t := []) hA (j := 0) (by simp)
  obtain ⟨n1, v1⟩ := lit_at (t := []) hA (j := 1) (by simp)
  obtain ⟨m0, u0⟩ := lit_at (t := []) hS.arr (j := 0) h1
  replace n0 : iadV 1 (.lf l) (.lf (.int .i64 0)) = some (.lf (.ptr l.id (l.off + 0))) := n0
  replace n1 : iadV 1 (.lf l) (.lf (.int .i64 1)) = some (.lf (.ptr l.id (l.off + 1))) := n1
  replace m0 : iadV 1 (.lf l2) (.lf (.int .i64 0)) = some (.lf (.ptr l2.id (l2.off + 0))) := m0
  have hg0 : st.getD 0 0 = st[0] := by simp [h1]
  rw [hg0] at hK
  simp only [List.getElem_cons_zero, List.getElem_cons_succ, Nat.add_zero, List.append_nil] at n0 v0 v1 m0 u0
  have e1 : slcV 1 (.lf l2) (some (.lf (.int .i64 1))) none = some (.lf (l2.from_ 1 1)) := slcV_from (j := 1) hS.arr (by decide) (by simp; omega)
  have hSd := hS.drop (j := 1) (by omega)
  have hdl : (st.drop 1).length ≤ 64 := by simp; omega
  have hdc : ∀ x ∈ st.drop 1, CF x := fun x hx => hsc x (List.mem_of_mem_drop hx)
  generalize st[0] = g0 at *
  generalize st.drop 1 = ah at *
  have hz : (scan (limS L rise) (g0, ah) xs).2.2.length = ah.length := by
    have : aheadOk (stTo (limS L rise) (g0, ah) xs xs.length) ah.length := stTo_inv (I := fun st => aheadOk st ah.length) ⟨rfl, hdc⟩ (fun t x ht hx' => limS_ok ht (hx x hx')) (Nat.le_refl _)
    rw [stTo_all] at this
    exact this.1
  refine CallT_of_body (F := L45) (HasEs.f45) rfl ?_; unfold L45; dsimp only []
  repeat' (first | (simp (disch := first | omega | assumption | (simp only [List.length_set]; omega) | (simp [*] <;> fail) | assumption) [-Bool.decide_and, -Bool.decide_or, -Bool.not_and, -Bool.not_or, toNat_pred, toNat_succ, wrap64, wr_new, wr_new0, ok_if, ok_ifn, iadV_sl, makeV_int, decT, decF, over_at, *, leavesAll, fillL]) | (with_reducible refine Gd_split (fun hc => ?_) (fun hc => ?_) <;> (have hc2 := hc; try simp at hc2)) | (with_reducible refine Br_split (fun hc => ?_) (fun hc => ?_) <;> (have hc2 := hc; try simp at hc2)) | (with_reducible refine GdT_split (fun hc => ?_) (fun hc => ?_) <;> (have hc2 := hc; try simp at hc2)) | (with_reducible refine WT_alt ?_ ?_) | omega)
  refine c_specLimiter hL (hSd.kept (Kept.app h _)) hdl hdc hX.app hx hn (by simp; omega) fun o q g hO0 hQ0 hf => ?_
  have hO := hO0.base (Kept.app h _)
  have hQ := hQ0.base (Kept.app h _)
  clear hO0 hQ0
  generalize (scan (limS L rise) (g0, ah) xs).2.1 = gv at *
  have hk1 := hO.kept.1
  have w := fun new hn => (Cel.new (g := g) (t := []) (ty := 91) (cs := [.flt .f32 0, .flt .f32 0, .flt .f32 0, .nils])).wr (lim := lim) (new := new) (by omega) hn
  have hk2 : Kept h (g ++ [⟨[.flt .f32 L, .flt .f32 rise, .flt .f32 gv, q], .own 91 1⟩]) := hO.kept.trans (Kept.app g _)
  have hO1 := hO.app (t := [⟨[.flt .f32 L, .flt .f32 rise, .flt .f32 gv, q], .own 91 1⟩])
  have hQ1 := hQ.app (t := [⟨[.flt .f32 L, .flt .f32 rise, .flt .f32 gv, q], .own 91 1⟩])
  have hF := New.fls (h := h) (g := g ++ [⟨[.flt .f32 L, .flt .f32 rise, .flt .f32 gv, q], .own 91 1⟩]) (xs := [gv]) (cs := [.flt .f32 gv]) (ty := 50) hk2 rfl (by simp)
  obtain ⟨s', g', j1, j2, j3⟩ := (New.fls (h := g ++ [⟨[.flt .f32 L, .flt .f32 rise, .flt .f32 gv, q], .own 91 1⟩]) (g := g ++ [⟨[.flt .f32 L, .flt .f32 rise, .flt .f32 gv, q], .own 91 1⟩]) (xs := [gv]) (cs := [.flt .f32 gv]) (ty := 50) (Kept.refl _) rfl (by simp)).joined (lim := lim) ((Sm.new hQ1).kept (Kept.app _ _)) (by simp; omega) (by simp only [List.length_singleton]; omega)
  simp only [List.length_singleton, List.append_assoc, List.cons_append, List.nil_append, List.length_append, List.length_cons, List.length_nil] at j1
  have hO2 := hO1.later j2.kept
  have hf2 : Far o s' := fun q1 q2 => by have := (hO1.lt q1).2; have := (j2.lt q2).1; omega
  have hk3 := hK _ _ _ hO2 (j2.base hk2) hf2
  clear hK hO hQ hO1 hQ1 hF hO2 hf2
  repeat' (first | (simp (disch := first | omega | assumption | (simp only [List.length_set]; omega) | (simp [*] <;> fail) | assumption) [-Bool.decide_and, -Bool.decide_or, -Bool.not_and, -Bool.not_or, toNat_pred, toNat_succ, wrap64, wr_new, wr_new0, ok_if, ok_ifn, iadV_sl, makeV_int, decT, decF, over_at, *, leavesAll, fillL]) | (with_reducible refine Gd_split (fun hc => ?_) (fun hc => ?_) <;> (have hc2 := hc; try simp at hc2)) | (with_reducible refine Br_split (fun hc => ?_) (fun hc => ?_) <;> (have hc2 := hc; try simp at hc2)) | (with_reducible refine GdT_split (fun hc => ?_) (fun hc => ?_) <;> (have hc2 := hc; try simp at hc2)) | (with_reducible refine WT_alt ?_ ?_) | omega)
set_option maxHeartbeats 4000000 in
theorem c_eff1 {a0 a1 a2 a3 a4 s0 s1 : Nat} (hk : rdCells h id off 1 = some [.int .i64 1]) (hp : rdCells h id (off + 2) 1 = some [l]) (hA : Arr h l 1 ([a0, a1, a2, a3, a4].map fl)) (hS : Arr h l2 1 ([s0, s1].map fl)) (hs0 : CF s0) (hs1 : CF s1) (hX : Arr h l3 1 (xs.map fl)) (hx : ∀ x ∈ xs, CF x) (hn : xs.length ≤ 256) (hl : lim ≤ h.length)
    (hK : ∀ o s g, New h g o 50 1 ((scan (stepF ⟨a0, a1, a2, a3, a4⟩ 1 true) ⟨s0, s1, 0, 0⟩ xs).1.map fl) → New h g s 50 1 ([(scan (stepF ⟨a0, a1, a2, a3, a4⟩ 1 true) ⟨s0, s1, 0, 0⟩ xs).2.a, (scan (stepF ⟨a0, a1, a2, a3, a4⟩ 1 true) ⟨s0, s1, 0, 0⟩ xs).2.b].map fl) → Far o s → K (.tup [.lf o, .lf s]) g) : CallT S false 45 [.lf (.ptr id off), .lf l2, .lf l3] h lim K := by
  obtain ⟨n0, v0⟩ := lit_at (t := []) hA (j := 0) (by simp)
  obtain ⟨n1, v1⟩ := lit_at (t := []) hA (j := 1) (by simp)
  obtain ⟨n2, v2⟩ := lit_at (t := []) hA (j := 2) (by simp)
  obtain ⟨n3, v3⟩ := lit_at (t := []) hA (j := 3) (by simp)
  obtain ⟨n4, v4⟩ := lit_at (t := []) hA (j := 4) (by simp)
  have x0 := (lit_at (t := [⟨[.flt .f32 a0, .flt .f32 a1, .flt .f32 a2, .flt .f32 a3, .flt .f32 a4], .own 76 1⟩]) hS (j := 0) (by simp)).2
  have m0 := (lit_at (t := []) hS (j := 0) (by simp)).1
  have x1 := (lit_at (t := [⟨[.flt .f32 a0, .flt .f32 a1, .flt .f32 a2, .flt .f32 a3, .flt .f32 a4], .own 76 1⟩]) hS (j := 1) (by simp)).2
  have m1 := (lit_at (t := []) hS (j := 1) (by simp)).1
  replace n0 : iadV 1 (.lf l) (.lf (.int .i64 0)) = some (.lf (.ptr l.id (l.off + 0))) := n0
  replace n1 : iadV 1 (.lf l) (.lf (.int .i64 1)) = some (.lf (.ptr l.id (l.off + 1))) := n1
  replace n2 : iadV 1 (.lf l) (.lf (.int .i64 2)) = some (.lf (.ptr l.id (l.off + 2))) := n2
  replace n3 : iadV 1 (.lf l) (.lf (.int .i64 3)) = some (.lf (.ptr l.id (l.off + 3))) := n3
  replace n4 : iadV 1 (.lf l) (.lf (.int .i64 4)) = some (.lf (.ptr l.id (l.off + 4))) := n4
  replace m0 : iadV 1 (.lf l2) (.lf (.int .i64 0)) = some (.lf (.ptr l2.id (l2.off + 0))) := m0
  replace m1 : iadV 1 (.lf l2) (.lf (.int .i64 1)) = some (.lf (.ptr l2.id (l2.off + 1))) := m1
  simp only [List.getElem_cons_zero, List.getElem_cons_succ, Nat.add_zero, List.append_nil] at n0 v0 v1 v2 v3 v4 m0 x0 x1
  have hz : CF 0 := ⟨by decide, by decide⟩
  refine CallT_of_body (F := L45) (HasEs.f45) rfl ?_; unfold L45; dsimp only []
  repeat' (first | (simp (disch := first | omega | assumption | (simp only [List.length_set]; omega) | (simp [*] <;> fail) | assumption) [-Bool.decide_and, -Bool.decide_or, -Bool.not_and, -Bool.not_or, toNat_pred, toNat_succ, wrap64, wr_new, wr_new0, ok_if, ok_ifn, iadV_sl, makeV_int, decT, decF, over_at, *, leavesAll, fillL, -W_any]) | (with_reducible refine Gd_split (fun hc => ?_) (fun hc => ?_) <;> (have hc2 := hc; try simp at hc2)) | (with_reducible refine Br_split (fun hc => ?_) (fun hc => ?_) <;> (have hc2 := hc; try simp at hc2)) | (with_reducible refine GdT_split (fun hc => ?_) (fun hc => ?_) <;> (have hc2 := hc; try simp at hc2)) | (with_reducible refine WT_alt ?_ ?_) | omega)
  rw [W_any]
  refine WT_cutM 9442427122730076736512 (by decide +kernel) (fun b g => ∃ o ib, b 10 = .lf o ∧ b 11 = .lf (.ptr ib 0) ∧ New h g o 50 1 ((scan (stepF ⟨a0, a1, a2, a3, a4⟩ 1 true) ⟨s0, s1, 0, 0⟩ xs).1.map fl) ∧ Cel g ib 78 (scan (stepF ⟨a0, a1, a2, a3, a4⟩ 1 true) ⟨s0, s1, 0, 0⟩ xs).2.cells) ?_ ?_
  · clear hK
    repeat' (first | (simp (disch := first | omega | assumption | (simp only [List.length_set]; omega) | (simp [*] <;> fail) | assumption) [-Bool.decide_and, -Bool.decide_or, -Bool.not_and, -Bool.not_or, toNat_pred, toNat_succ, wrap64, wr_new, wr_new0, ok_if, ok_ifn, iadV_sl, makeV_int, decT, decF, over_at, *, leavesAll, fillL]) | (with_reducible refine Gd_split (fun hc => ?_) (fun hc => ?_) <;> (have hc2 := hc; try simp at hc2)) | (with_reducible refine Br_split (fun hc => ?_) (fun hc => ?_) <;> (have hc2 := hc; try simp at hc2)) | (with_reducible refine GdT_split (fun hc => ?_) (fun hc => ?_) <;> (have hc2 := hc; try simp at hc2)) | (with_reducible refine WT_alt ?_ ?_) | omega)
    · refine c_l02Run (f := ⟨a0, a1, a2, a3, a4⟩) (m := ⟨s0, s1, 0, 0⟩) (by simp [rdCells, List.getElem?_append_right, Ob.live, Fil.cells]) ⟨hs0, hs1, hz, hz⟩ hX.app hx (by omega) (by simp; omega) fun o g hO => ?_
      have hO2 := (hO.base (Kept.app h _)).app (t := [⟨(scan (stepF ⟨a0, a1, a2, a3, a4⟩ 1 true) ⟨s0, s1, 0, 0⟩ xs).2.cells, .own 78 1⟩])
      have hgl := (hO.base (Kept.app h _)).kept.1
      have hm4 := (scan (stepF ⟨a0, a1, a2, a3, a4⟩ 1 true) ⟨s0, s1, 0, 0⟩ xs).2.len
      have hmt : List.take 4 (scan (stepF ⟨a0, a1, a2, a3, a4⟩ 1 true) ⟨s0, s1, 0, 0⟩ xs).2.cells = (scan (stepF ⟨a0, a1, a2, a3, a4⟩ 1 true) ⟨s0, s1, 0, 0⟩ xs).2.cells := rfl
      have w := (Cel.new (g := g) (t := []) (ty := 78) (cs := [.flt .f32 0, .flt .f32 0, .flt .f32 0, .flt .f32 0])).wr (lim := lim) (new := (scan (stepF ⟨a0, a1, a2, a3, a4⟩ 1 true) ⟨s0, s1, 0, 0⟩ xs).2.cells) (by omega) hm4
      generalize (scan (stepF ⟨a0, a1, a2, a3, a4⟩ 1 true) ⟨s0, s1, 0, 0⟩ xs).2 = m' at *
      repeat' (first | (simp (disch := first | omega | assumption | (simp only [List.length_set]; omega) | (simp [*] <;> fail) | assumption) [-Bool.decide_and, -Bool.decide_or, -Bool.not_and, -Bool.not_or, toNat_pred, toNat_succ, wrap64, wr_new, wr_new0, ok_if, ok_ifn, iadV_sl, makeV_int, decT, decF, over_at, *, leavesAll, fillL]) | (with_reducible refine Gd_split (fun hc => ?_) (fun hc => ?_) <;> (have hc2 := hc; try simp at hc2)) | (with_reducible refine Br_split (fun hc => ?_) (fun hc => ?_) <;> (have hc2 := hc; try simp at hc2)) | (with_reducible refine GdT_split (fun hc => ?_) (fun hc => ?_) <;> (have hc2 := hc; try simp at hc2)) | (with_reducible refine WT_alt ?_ ?_) | omega)
      exact Cel.new (t := [])
    · refine c_l02Run (f := ⟨a0, a1, a2, a3, a4⟩) (m := ⟨s0, s1, 0, 0⟩) (by simp [rdCells, List.getElem?_append_right, Ob.live, Fil.cells]) ⟨hs0, hs1, hz, hz⟩ hX.app hx (by omega) (by simp; omega) fun o g hO => ?_
      have hm4 := (scan (stepF ⟨a0, a1, a2, a3, a4⟩ 1 true) ⟨s0, s1, 0, 0⟩ xs).2.len
      have hmt : List.take 4 (scan (stepF ⟨a0, a1, a2, a3, a4⟩ 1 true) ⟨s0, s1, 0, 0⟩ xs).2.cells = (scan (stepF ⟨a0, a1, a2, a3, a4⟩ 1 true) ⟨s0, s1, 0, 0⟩ xs).2.cells := rfl
      obtain ⟨t, rfl⟩ := hO.kept.split
      simp only [List.append_assoc, List.cons_append, List.nil_append] at hO ⊢
      have hO2 := New.swap2 (a' := ⟨[.flt .f32 a0, .flt .f32 a1, .flt .f32 a2, .flt .f32 a3, .flt .f32 a4], .own 76 1⟩) (b' := ⟨(scan (stepF ⟨a0, a1, a2, a3, a4⟩ 1 true) ⟨s0, s1, 0, 0⟩ xs).2.cells, .own 78 1⟩) hO
      have hC := Cel.new (g := h ++ [⟨[.flt .f32 a0, .flt .f32 a1, .flt .f32 a2, .flt .f32 a3, .flt .f32 a4], .own 76 1⟩]) (t := t) (ty := 78) (cs := (scan (stepF ⟨a0, a1, a2, a3, a4⟩ 1 true) ⟨s0, s1, 0, 0⟩ xs).2.cells)
      simp only [List.append_assoc, List.cons_append, List.nil_append, List.length_append, List.length_cons, List.length_nil] at hC
      generalize (scan (stepF ⟨a0, a1, a2, a3, a4⟩ 1 true) ⟨s0, s1, 0, 0⟩ xs).2 = m' at *
      clear hO
      repeat' (first | (simp (disch := first | omega | assumption | (simp only [List.length_set]; omega) | (simp [*] <;> fail) | assumption) [-Bool.decide_and, -Bool.decide_or, -Bool.not_and, -Bool.not_or, toNat_pred, toNat_succ, wrap64, wr_new, wr_new0, ok_if, ok_ifn, iadV_sl, makeV_int, decT, decF, over_at, *, leavesAll, fillL, hm4]) | (with_reducible refine Gd_split (fun hc => ?_) (fun hc => ?_) <;> (have hc2 := hc; try simp at hc2)) | (with_reducible refine Br_split (fun hc => ?_) (fun hc => ?_) <;> (have hc2 := hc; try simp at hc2)) | (with_reducible refine GdT_split (fun hc => ?_) (fun hc => ?_) <;> (have hc2 := hc; try simp at hc2)) | (with_reducible refine WT_alt ?_ ?_) | omega)
  · rintro b g ⟨o, ib, e10, e11, hO, hc⟩
    generalize (scan (stepF ⟨a0, a1, a2, a3, a4⟩ 1 true) ⟨s0, s1, 0, 0⟩ xs).2 = m' at *
    have hk := hO.kept
    have hk1 := hk.1
    have c0 : rdCells g ib 0 1 = some [.flt .f32 m'.a] := by have := hc.rd (off := 0) (n := 1) (by simp [Mem.cells]); simpa [Mem.cells] using this
    have c1 : rdCells g ib 1 1 = some [.flt .f32 m'.b] := by have := hc.rd (off := 1) (n := 1) (by simp [Mem.cells]); simpa [Mem.cells] using this
    have hF := New.fls (h := h) (g := g) (xs := [m'.a, m'.b]) (cs := [.flt .f32 m'.a, .flt .f32 m'.b]) (ty := 50) hk rfl (by simp)
    have hO2 := hO.app (t := [⟨[.flt .f32 m'.a, .flt .f32 m'.b], .own 50 1⟩])
    have hf2 : Far o (.sl g.length 0 [m'.a, m'.b].length 1) := fun q1 _ => by have := (hO.lt q1).2; simp only [Lf.id_sl]; omega
    have hk2 := hK _ _ _ hO2 hF hf2
    clear hK hF hf2
    simp only [List.length_cons, List.length_nil] at hk2
    repeat' (first | (simp (disch := first | omega | assumption | (simp only [List.length_set]; omega) | (simp [*] <;> fail) | assumption) [-Bool.decide_and, -Bool.decide_or, -Bool.not_and, -Bool.not_or, toNat_pred, toNat_succ, wrap64, wr_new, wr_new0, ok_if, ok_ifn, iadV_sl, makeV_int, decT, decF, over_at, *, leavesAll, fillL]) | (with_reducible refine Gd_split (fun hc => ?_) (fun hc => ?_) <;> (have hc2 := hc; try simp at hc2)) | (with_reducible refine Br_split (fun hc => ?_) (fun hc => ?_) <;> (have hc2 := hc; try simp at hc2)) | (with_reducible refine GdT_split (fun hc => ?_) (fun hc => ?_) <;> (have hc2 := hc; try simp at hc2)) | (with_reducible refine WT_alt ?_ ?_) | omega)
set_option maxHeartbeats 4000000 in
theorem c_eff2 {n0 n1 : Nat} {last : List Nat} (hk : rdCells h id off 1 = some [.int .i64 2]) (hp : rdCells h id (off + 2) 1 = some [l]) (hA : Arr h l 1 ([n0, n1].map fl)) (hS : Sm h l2 last) (h0 : 0 < last.length) (hlast : last.length ≤ 100) (hX : Arr h l3 1 (xs.map fl)) (hn : xs.length ≤ 256) (hl : lim ≤ h.length)
    (hK : ∀ o s g, New h g o 50 1 ((scan (echoS n0 n1) last xs).1.map fl) → New h g s 50 1 ((scan (echoS n0 n1) last xs).2.map fl) → Far o s → K (.tup [.lf o, .lf s]) g) : CallT S false 45 [.lf (.ptr id off), .lf l2, .lf l3] h lim K := by
  obtain ⟨s0, g0, i1, i2, i3⟩ := (New.litN (ty := 50) (sz := 1) (Kept.refl h)).joined (ys := []) (lim := lim) (hS.kept (Kept.app _ _)) hl (by simp; omega)
  rw [List.nil_append] at i2
  have hk0 := i2.kept
  have hk01 := hk0.1
  have hX0 := hX.kept hk0
  refine CallT_of_body (F := L45) (HasEs.f45) rfl ?_; unfold L45; dsimp only []
  repeat' (first | (simp (disch := first | omega | assumption | (simp only [List.length_set]; omega) | (simp [*] <;> fail) | assumption) [-Bool.decide_and, -Bool.decide_or, -Bool.not_and, -Bool.not_or, toNat_pred, toNat_succ, wrap64, wr_new, wr_new0, ok_if, ok_ifn, iadV_sl, makeV_int, decT, decF, over_at, *, hX0.len, leavesAll, fillL]) | (with_reducible refine Gd_split (fun hc => ?_) (fun hc => ?_) <;> (have hc2 := hc; try simp at hc2)) | (with_reducible refine Br_split (fun hc => ?_) (fun hc => ?_) <;> (have hc2 := hc; try simp at hc2)) | (with_reducible refine GdT_split (fun hc => ?_) (fun hc => ?_) <;> (have hc2 := hc; try simp at hc2)) | (with_reducible refine WT_alt ?_ ?_) | omega)
  refine WL_forM 21267647932519968340233244830894977024 (by decide +kernel) (xs.length) (fun i b g => i ≤ xs.length ∧ b 14 = .lf (.int .i64 i) ∧ ∃ o s, b 13 = .lf o ∧ b 12 = .lf s ∧ New h g o 50 1 ((outTo (echoS n0 n1) last xs i).map fl) ∧ New h g s 50 1 ((stTo (echoS n0 n1) last xs i).map fl) ∧ Far o s) (fun _ _ _ hi => hi.1) ⟨by omega, by simp, .sl g0.length 0 0 1, s0, by simp, by simp, by simpa using New.litN (ty := 50) (sz := 1) hk0, by simpa using i2.app, (far_end (n := 0) i2 (Nat.le_refl _)).symm⟩ ?_
  rintro i b g ⟨hi, e82, o, s, e13, e12, hN, hT, hf⟩
  have hk := hN.kept
  have hk1 := hk.1
  have hX1 := hX.kept hk
  have hA1 := hA.kept hk
  have hol := outTo_len (step := echoS n0 n1) (s := last) hi
  have htl := echo_len (n0 := n0) (n1 := n1) (xs := xs) h0 hi
  by_cases hlt : i < xs.length
  · have s1 := outTo_fl (step := echoS n0 n1) (s := last) hlt
    have s2 := stTo_succ (step := echoS n0 n1) (s := last) hlt
    generalize stTo (echoS n0 n1) last xs i = st at *
    have hst0 : 0 < st.length := by omega
    have hg0 : st.getD 0 0 = st[0] := by simp [hst0]
    have s1H : Hid ((outTo (echoS n0 n1) last xs (i + 1)).map fl = (outTo (echoS n0 n1) last xs i).map fl ++ [[.flt .f32 (fbin .add .f32 xs[i] (fbin .mul .f32 n1 st[0]))]]) := by rw [← hg0]; exact s1
    have s2H : Hid (stTo (echoS n0 n1) last xs (i + 1) = st.drop 1 ++ [flushF (fbin .add .f32 xs[i] (fbin .mul .f32 n0 st[0]))]) := by rw [← hg0]; exact s2
    clear s1 s2 hg0 hK
    have hTA := hT.arr
    repeat' (first | (simp (disch := first | omega | assumption | (simp only [List.length_set]; omega) | (simp [*] <;> fail) | assumption) [-Bool.decide_and, -Bool.decide_or, -Bool.not_and, -Bool.not_or, toNat_pred, toNat_succ, wrap64, wr_new, wr_new0, ok_if, ok_ifn, iadV_sl, makeV_int, decT, decF, over_at, *, hX1.len, hX1.at_, hX1.at_', hX1.rd, hX1.rdIn, hX1.rdIn0, hX1.rdA, hX1.rdInA, hX1.rdIn0A, hX1.rd1, hTA.len, hTA.at_, hTA.at_', hTA.rd, hTA.rdIn, hTA.rdIn0, hTA.rdA, hTA.rdInA, hTA.rdIn0A, hTA.at0, hTA.rd0, hTA.rd0j, hTA.rd0A, hTA.rd0jA, hA1.len, hA1.at_, hA1.at_', hA1.rd, hA1.rdIn, hA1.rdIn0, hA1.rdA, hA1.rdInA, hA1.rdIn0A, hA1.rd1, hA1.at0, hA1.rd0, hA1.rd0j, hA1.rd0A, hA1.rd0jA, fl, leavesAll, fillL]) | (with_reducible refine Gd_split (fun hc => ?_) (fun hc => ?_) <;> (have hc2 := hc; try simp at hc2)) | (with_reducible refine Br_split (fun hc => ?_) (fun hc => ?_) <;> (have hc2 := hc; try simp at hc2)) | (with_reducible refine GdT_split (fun hc => ?_) (fun hc => ?_) <;> (have hc2 := hc; try simp at hc2)) | (with_reducible refine WT_alt ?_ ?_) | omega)
    refine oc_push (bytes := 4) (r := [.flt .f32 (fbin .add .f32 xs[i] (fbin .mul .f32 n1 st[0]))]) hN ?_ ?_ ?_ (by decide) rfl (by decide)
    · exact hl
    · simp; omega
    intro o2 g5 hN5 hB5
    obtain ⟨hT5, hf5⟩ := hB5.other hN hT hf
    rw [← show (outTo (echoS n0 n1) last xs (i + 1)).map fl = _ from s1H] at hN5
    have hk5 := hN5.kept
    have hk51 := hk5.1
    have hA5 := hA.kept hk5
    have hX5 := hX.kept hk5
    have e1 : slcV 1 (.lf s) (some (.lf (.int .i64 1))) none = some (.lf (s.from_ 1 1)) := slcV_from (j := 1) hT5.arr (by decide) (by simp; omega)
    have hfl := fun h K lim => c_l01Flush (S := S) (h := h) (lim := lim) (K := K) (x := fbin .add .f32 xs[i] (fbin .mul .f32 n0 st[0])) CF_bin
    have hSd := (Sm.new hT5).drop (j := 1) (by omega)
    have hdl : (st.drop 1).length ≤ 100 := by simp; omega
    have hN5H := hN5.lt
    obtain ⟨al, g6, j1, j2, j3⟩ := (New.litN (ty := 50) (sz := 1) (Kept.refl g5)).joined (ys := []) (lim := lim) (hSd.kept (Kept.app g5 _)) (by omega) (by simp; omega)
    rw [List.nil_append] at j2
    generalize flushF (fbin .add .f32 xs[i] (fbin .mul .f32 n0 st[0])) = fv at *
    clear hA1 hX1 hTA hT hN hB5 s1H hX0
    repeat' (first | (simp (disch := first | omega | assumption | (simp only [List.length_set]; omega) | (simp [*] <;> fail) | assumption) [-Bool.decide_and, -Bool.decide_or, -Bool.not_and, -Bool.not_or, toNat_pred, toNat_succ, wrap64, wr_new, wr_new0, ok_if, ok_ifn, iadV_sl, makeV_int, decT, decF, over_at, *, hX5.len, hX5.at_, hX5.at_', hX5.rd, hX5.rdIn, hX5.rdIn0, hX5.rdA, hX5.rdInA, hX5.rdIn0A, hX5.rd1, hA5.len, hA5.at_, hA5.at_', hA5.rd, hA5.rdIn, hA5.rdIn0, hA5.rdA, hA5.rdInA, hA5.rdIn0A, hA5.rd1, hA5.at0, hA5.rd0, hA5.rd0j, hA5.rd0A, hA5.rd0jA, fl, -W_any]) | (with_reducible refine Gd_split (fun hc => ?_) (fun hc => ?_) <;> (have hc2 := hc; try simp at hc2)) | (with_reducible refine Br_split (fun hc => ?_) (fun hc => ?_) <;> (have hc2 := hc; try simp at hc2)) | (with_reducible refine GdT_split (fun hc => ?_) (fun hc => ?_) <;> (have hc2 := hc; try simp at hc2)) | (with_reducible refine WT_alt ?_ ?_) | omega)
    rw [W_any]
    refine WT_cutM 21267485673281824753097521386475229184 (by decide +kernel) (fun b g => ∃ q, b 12 = .lf q ∧ New g5 g q 50 1 ((st.drop 1 ++ [fv]).map fl)) ?_ ?_
    · have hX6 := hX5.kept j2.kept
      have hA6 := hA5.kept j2.kept
      have hg6 := j2.kept.1
      clear j3
      repeat' (first | (simp (disch := first | omega | assumption | (simp only [List.length_set]; omega) | (simp [*] <;> fail) | assumption) [-Bool.decide_and, -Bool.decide_or, -Bool.not_and, -Bool.not_or, toNat_pred, toNat_succ, wrap64, wr_new, wr_new0, ok_if, ok_ifn, iadV_sl, makeV_int, decT, decF, over_at, *, hX5.len, hX5.at_, hX5.at_', hX5.rd, hX5.rdIn, hX5.rdIn0, hX5.rdA, hX5.rdInA, hX5.rdIn0A, hX5.rd1, hX5.rd1A, hA5.len, hA5.at_, hA5.at_', hA5.rd, hA5.rdIn, hA5.rdIn0, hA5.rdA, hA5.rdInA, hA5.rdIn0A, hA5.rd1, hA5.rd1A, hA5.at0, hA5.rd0, hA5.rd0j, hA5.rd0A, hA5.rd0jA, hX6.len, hX6.at_, hX6.at_', hX6.rd, hX6.rdIn, hX6.rdIn0, hX6.rdA, hX6.rdInA, hX6.rdIn0A, hX6.rd1, hA6.len, hA6.at_, hA6.at_', hA6.rd, hA6.rdIn, hA6.rdIn0, hA6.rdA, hA6.rdInA, hA6.rdIn0A, hA6.rd1, hA6.at0, hA6.rd0, hA6.rd0j, hA6.rd0A, hA6.rd0jA, fl, leavesAll, fillL]) | (with_reducible refine Gd_split (fun hc => ?_) (fun hc => ?_) <;> (have hc2 := hc; try simp at hc2)) | (with_reducible refine Br_split (fun hc => ?_) (fun hc => ?_) <;> (have hc2 := hc; try simp at hc2)) | (with_reducible refine GdT_split (fun hc => ?_) (fun hc => ?_) <;> (have hc2 := hc; try simp at hc2)) | (with_reducible refine WT_alt ?_ ?_) | omega)
      all_goals (
        refine oc_push (bytes := 4) (r := [.flt .f32 fv]) j2 ?_ ?_ ?_ (by decide) rfl (by decide)
        · omega
        · simp; omega
        intro al2 g7 hN7 hB7
        have hN7' : New g5 g7 al2 50 1 ((st.drop 1 ++ [fv]).map fl) := by rw [List.map_append]; exact hN7
        repeat' (first | (simp (disch := first | omega | assumption | (simp only [List.length_set]; omega) | (simp [*] <;> fail) | assumption) [-Bool.decide_and, -Bool.decide_or, -Bool.not_and, -Bool.not_or, toNat_pred, toNat_succ, wrap64, wr_new, wr_new0, ok_if, ok_ifn, iadV_sl, makeV_int, decT, decF, over_at, *]) | (with_reducible refine Gd_split (fun hc => ?_) (fun hc => ?_) <;> (have hc2 := hc; try simp at hc2)) | (with_reducible refine Br_split (fun hc => ?_) (fun hc => ?_) <;> (have hc2 := hc; try simp at hc2)) | (with_reducible refine GdT_split (fun hc => ?_) (fun hc => ?_) <;> (have hc2 := hc; try simp at hc2)) | (with_reducible refine WT_alt ?_ ?_) | omega)
        simpa [fl] using hN7')
    · rintro b6 g6 ⟨q, e12, hQ⟩
      rw [← show stTo (echoS n0 n1) last xs (i + 1) = _ from s2H] at hQ
      have hN6 := hN5.later hQ.kept
      have hS7 := hQ.base hk5
      have hf6 : Far o2 q := fun q1 q2 => by have := (hN5.lt q1).2; have := (hQ.lt q2).1; omega
      clear hfl hA5 s2H hQ hT5
      repeat' (first | (simp (disch := first | omega | assumption | (simp only [List.length_set]; omega) | (simp [*] <;> fail) | assumption) [-Bool.decide_and, -Bool.decide_or, -Bool.not_and, -Bool.not_or, toNat_pred, toNat_succ, wrap64, wr_new, wr_new0, ok_if, ok_ifn, iadV_sl, makeV_int, decT, decF, over_at, *]) | (with_reducible refine Gd_split (fun hc => ?_) (fun hc => ?_) <;> (have hc2 := hc; try simp at hc2)) | (with_reducible refine Br_split (fun hc => ?_) (fun hc => ?_) <;> (have hc2 := hc; try simp at hc2)) | (with_reducible refine GdT_split (fun hc => ?_) (fun hc => ?_) <;> (have hc2 := hc; try simp at hc2)) | (with_reducible refine WT_alt ?_ ?_) | omega)
  · have : i = xs.length := by omega
    subst this
    rw [outTo_all] at hN
    rw [stTo_all] at hT
    repeat' (first | (simp (disch := first | omega | assumption | (simp only [List.length_set]; omega) | (simp [*] <;> fail) | assumption) [-Bool.decide_and, -Bool.decide_or, -Bool.not_and, -Bool.not_or, toNat_pred, toNat_succ, wrap64, wr_new, wr_new0, ok_if, ok_ifn, iadV_sl, makeV_int, decT, decF, over_at, *, hX1.len]) | (with_reducible refine Gd_split (fun hc => ?_) (fun hc => ?_) <;> (have hc2 := hc; try simp at hc2)) | (with_reducible refine Br_split (fun hc => ?_) (fun hc => ?_) <;> (have hc2 := hc; try simp at hc2)) | (with_reducible refine GdT_split (fun hc => ?_) (fun hc => ?_) <;> (have hc2 := hc; try simp at hc2)) | (with_reducible refine WT_alt ?_ ?_) | omega)
    all_goals exact hK _ _ _ hN hT hf
end
end Go.E
