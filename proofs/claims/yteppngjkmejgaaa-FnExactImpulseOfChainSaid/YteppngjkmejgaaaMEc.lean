/- The echo of a chain, the program's side. -/
import Derived.Test.YteppngjkmejgaaaMSm
import Derived.Test.YteppngjkmejgaaaMFl
import Derived.Test.YteppngjkmejgaaaMH
import Derived.Test.YteppngjkmejgaaaMN
set_option linter.unusedVariables false
set_option linter.unusedSimpArgs false
namespace Go.E
open Go
def L65 : LFn := ⟨2, (.seq (.reg [⟨(.some 4), (.mv (.c (.lf .nils))), none⟩])
 (.seq (.reg [⟨(.some 5), (.mv (.t 0)), none⟩, ⟨(.some 6), (.slice 1 (.t 5) (.some (.c (.lf (.int .i64 1)))) none), none⟩, ⟨(.some 7), (.call false 49 [(.t 6)]), none⟩, ⟨(.some 8), (.mv (.t 1)), none⟩, ⟨(.some 9), (.lit 50 1 1 [(.flt .f32 0)] [(0, (1, (.t 8)))]), none⟩, ⟨(.some 10), (.app 50 1 4 (.t 7) (.t 9)), none⟩, ⟨(.some 4), (.mv (.t 10)), none⟩])
 .ret)), [(.tmp 4)]⟩
def L50 : LFn := ⟨3, (.seq (.reg [⟨(.some 3), (.box 54 (.t 0)), none⟩, ⟨(.some 6), (.mv (.c (.lf .nils))), none⟩, ⟨(.some 7), (.mv (.c (.lf .nils))), none⟩])
 (.seq (.reg [⟨(.some 28), (.faddr 2 (.t 3)), none⟩, ⟨(.some 29), (.load false 1 (.t 28)), none⟩, ⟨(.some 8), (.mv (.t 29)), none⟩])
 (.seq (.seq (.reg [⟨(.some 30), (.faddr 0 (.t 3)), none⟩, ⟨(.some 31), (.load false 1 (.t 30)), none⟩])
 (.block 0 (.seq (.reg [⟨(.some 33), (.bin .eql (.t 31) (.c (.lf (.int .i64 0)))), none⟩, ⟨(.some 32), (.mv (.t 33)), none⟩])
 (.cond (.t 32) (.seq (.reg [⟨(.some 34), (.mv (.t 2)), none⟩, ⟨(.some 35), (.mv (.t 8)), none⟩, ⟨(.some 36), (.iaddr 1 (.t 35) (.c (.lf (.int .i64 0)))), none⟩, ⟨(.some 37), (.load false 1 (.t 36)), none⟩, ⟨(.some 38), (.call false 63 [(.t 34), (.t 37)]), none⟩, ⟨(.some 6), (.mv (.t 38)), none⟩, ⟨(.some 7), (.mv (.c (.lf .nils))), none⟩])
 .ret) (.seq (.reg [⟨(.some 40), (.bin .eql (.t 31) (.c (.lf (.int .i64 1)))), none⟩, ⟨(.some 39), (.mv (.t 40)), none⟩])
 (.cond (.t 39) (.seq (.reg [⟨(.some 41), (.mv (.t 8)), none⟩, ⟨(.some 42), (.iaddr 1 (.t 41) (.c (.lf (.int .i64 0)))), none⟩, ⟨(.some 43), (.load false 1 (.t 42)), none⟩, ⟨(.some 44), (.mv (.t 8)), none⟩, ⟨(.some 45), (.iaddr 1 (.t 44) (.c (.lf (.int .i64 1)))), none⟩, ⟨(.some 46), (.load false 1 (.t 45)), none⟩, ⟨(.some 47), (.mv (.t 8)), none⟩, ⟨(.some 48), (.iaddr 1 (.t 47) (.c (.lf (.int .i64 2)))), none⟩, ⟨(.some 49), (.load false 1 (.t 48)), none⟩, ⟨(.some 50), (.mv (.t 8)), none⟩, ⟨(.some 51), (.iaddr 1 (.t 50) (.c (.lf (.int .i64 3)))), none⟩, ⟨(.some 52), (.load false 1 (.t 51)), none⟩, ⟨(.some 53), (.mv (.t 8)), none⟩, ⟨(.some 54), (.iaddr 1 (.t 53) (.c (.lf (.int .i64 4)))), none⟩, ⟨(.some 55), (.load false 1 (.t 54)), none⟩, ⟨(.some 56), (.build [(.flt .f32 0), (.flt .f32 0), (.flt .f32 0), (.flt .f32 0), (.flt .f32 0)] [(0, (1, (.t 43))), (1, (1, (.t 46))), (2, (1, (.t 49))), (3, (1, (.t 52))), (4, (1, (.t 55)))]), none⟩, ⟨(.some 9), (.alloc 76 [(.flt .f32 0), (.flt .f32 0), (.flt .f32 0), (.flt .f32 0), (.flt .f32 0)]), none⟩, ⟨none, (.store 5 (.t 9) (.t 56)), none⟩])
 (.seq (.any (.op ⟨(.some 58), (.load true 5 (.t 9)), none⟩ (.op ⟨(.some 59), (.mv (.t 1)), none⟩ (.op ⟨(.some 60), (.iaddr 1 (.t 59) (.c (.lf (.int .i64 0)))), none⟩ (.op ⟨(.some 61), (.load false 1 (.t 60)), none⟩ (.op ⟨(.some 62), (.mv (.t 1)), none⟩ (.op ⟨(.some 63), (.iaddr 1 (.t 62) (.c (.lf (.int .i64 1)))), none⟩ (.op ⟨(.some 64), (.load false 1 (.t 63)), none⟩ (.op ⟨(.some 65), (.build [(.flt .f32 0), (.flt .f32 0), (.flt .f32 0), (.flt .f32 0)] [(0, (1, (.t 61))), (1, (1, (.t 64)))]), none⟩ (.op ⟨(.some 66), (.mv (.t 2)), none⟩ (.alt (.op ⟨(.some 67), (.call false 64 [(.t 58), (.c (.lf (.int .i64 1))), (.c (.lf (.bool true))), (.t 65), (.t 66)]), none⟩ (.op ⟨(.some 57), (.mv (.t 67)), none⟩ (.op ⟨(.some 68), (.ext (.t 57) 0), none⟩ (.op ⟨(.some 69), (.ext (.t 57) 1), none⟩ (.op ⟨(.some 11), (.alloc 78 [(.flt .f32 0), (.flt .f32 0), (.flt .f32 0), (.flt .f32 0)]), none⟩ (.op ⟨(.some 10), (.mv (.t 68)), none⟩ (.op ⟨none, (.store 4 (.t 11) (.t 69)), none⟩ .nil))))))) (.op ⟨(.some 11), (.alloc 78 [(.flt .f32 0), (.flt .f32 0), (.flt .f32 0), (.flt .f32 0)]), none⟩ (.op ⟨(.some 67), (.call false 64 [(.t 58), (.c (.lf (.int .i64 1))), (.c (.lf (.bool true))), (.t 65), (.t 66)]), none⟩ (.op ⟨(.some 57), (.mv (.t 67)), none⟩ (.op ⟨(.some 68), (.ext (.t 57) 0), none⟩ (.op ⟨(.some 69), (.ext (.t 57) 1), none⟩ (.op ⟨(.some 10), (.mv (.t 68)), none⟩ (.op ⟨none, (.store 4 (.t 11) (.t 69)), none⟩ .nil))))))))))))))))))
 (.seq (.reg [⟨(.some 70), (.mv (.t 10)), none⟩, ⟨(.some 71), (.faddr 0 (.t 11)), none⟩, ⟨(.some 72), (.load false 1 (.t 71)), none⟩, ⟨(.some 73), (.faddr 1 (.t 11)), none⟩, ⟨(.some 74), (.load false 1 (.t 73)), none⟩, ⟨(.some 75), (.lit 50 1 2 [(.flt .f32 0), (.flt .f32 0)] [(0, (1, (.t 72))), (1, (1, (.t 74)))]), none⟩, ⟨(.some 6), (.mv (.t 70)), none⟩, ⟨(.some 7), (.mv (.t 75)), none⟩])
 .ret))) (.seq (.reg [⟨(.some 77), (.bin .eql (.t 31) (.c (.lf (.int .i64 2)))), none⟩, ⟨(.some 76), (.mv (.t 77)), none⟩])
 (.cond (.t 76) (.seq (.reg [⟨(.some 78), (.mv (.t 1)), none⟩, ⟨(.some 79), (.call false 49 [(.t 78)]), none⟩, ⟨(.some 12), (.mv (.t 79)), none⟩])
 (.seq (.reg [⟨(.some 13), (.mv (.c (.lf .nils))), none⟩])
 (.seq (.seq (.reg [⟨(.some 80), (.mv (.t 2)), none⟩, ⟨(.some 81), (.len (.t 80)), none⟩, ⟨(.some 82), (.mv (.c (.lf (.int .i64 0)))), none⟩])
 (.block 1 (.loop (.seq (.reg [⟨(.some 83), (.bin .lss (.t 82) (.t 81)), none⟩])
 (.seq (.cond (.t 83) .skip (.exit 1))
 (.seq (.block 2 (.seq (.reg [⟨(.some 84), (.iaddr 1 (.t 80) (.t 82)), none⟩, ⟨(.some 85), (.load false 1 (.t 84)), none⟩, ⟨(.some 15), (.mv (.t 85)), none⟩])
 (.seq (.reg [⟨(.some 86), (.mv (.t 12)), none⟩, ⟨(.some 87), (.iaddr 1 (.t 86) (.c (.lf (.int .i64 0)))), none⟩, ⟨(.some 88), (.load false 1 (.t 87)), none⟩, ⟨(.some 16), (.mv (.t 88)), none⟩])
 (.seq (.reg [⟨(.some 89), (.mv (.t 13)), none⟩, ⟨(.some 90), (.mv (.t 15)), none⟩, ⟨(.some 91), (.mv (.t 8)), none⟩, ⟨(.some 92), (.iaddr 1 (.t 91) (.c (.lf (.int .i64 1)))), none⟩, ⟨(.some 93), (.load false 1 (.t 92)), none⟩, ⟨(.some 94), (.mv (.t 16)), none⟩, ⟨(.some 95), (.bin .mul (.t 93) (.t 94)), none⟩, ⟨(.some 96), (.bin .add (.t 90) (.t 95)), none⟩, ⟨(.some 97), (.lit 50 1 1 [(.flt .f32 0)] [(0, (1, (.t 96)))]), none⟩, ⟨(.some 98), (.app 50 1 4 (.t 89) (.t 97)), none⟩, ⟨(.some 13), (.mv (.t 98)), none⟩])
 (.reg [⟨(.some 99), (.mv (.t 12)), none⟩, ⟨(.some 100), (.mv (.t 15)), none⟩, ⟨(.some 101), (.mv (.t 8)), none⟩, ⟨(.some 102), (.iaddr 1 (.t 101) (.c (.lf (.int .i64 0)))), none⟩, ⟨(.some 103), (.load false 1 (.t 102)), none⟩, ⟨(.some 104), (.mv (.t 16)), none⟩, ⟨(.some 105), (.bin .mul (.t 103) (.t 104)), none⟩, ⟨(.some 106), (.bin .add (.t 100) (.t 105)), none⟩, ⟨(.some 107), (.call true 66 [(.t 106)]), none⟩, ⟨(.some 108), (.call false 65 [(.t 99), (.t 107)]), none⟩, ⟨(.some 12), (.mv (.t 108)), none⟩])))))
 (.reg [⟨(.some 109), (.bin .add (.t 82) (.c (.lf (.int .i64 1)))), none⟩, ⟨(.some 82), (.mv (.t 109)), none⟩])))))))
 (.seq (.reg [⟨(.some 110), (.mv (.t 13)), none⟩, ⟨(.some 111), (.mv (.t 12)), none⟩, ⟨(.some 6), (.mv (.t 110)), none⟩, ⟨(.some 7), (.mv (.t 111)), none⟩])
 .ret)))) (.seq (.reg [⟨(.some 113), (.bin .eql (.t 31) (.c (.lf (.int .i64 3)))), none⟩, ⟨(.some 112), (.mv (.t 113)), none⟩])
 (.cond (.t 112) (.seq (.reg [⟨(.some 114), (.mv (.t 8)), none⟩, ⟨(.some 115), (.iaddr 1 (.t 114) (.c (.lf (.int .i64 0)))), none⟩, ⟨(.some 116), (.load false 1 (.t 115)), none⟩, ⟨(.some 117), (.mv (.t 8)), none⟩, ⟨(.some 118), (.iaddr 1 (.t 117) (.c (.lf (.int .i64 1)))), none⟩, ⟨(.some 119), (.load false 1 (.t 118)), none⟩, ⟨(.some 120), (.mv (.t 1)), none⟩, ⟨(.some 121), (.iaddr 1 (.t 120) (.c (.lf (.int .i64 0)))), none⟩, ⟨(.some 122), (.load false 1 (.t 121)), none⟩, ⟨(.some 123), (.build [(.flt .f32 0), (.flt .f32 0), (.flt .f32 0)] [(0, (1, (.t 116))), (1, (1, (.t 119))), (2, (1, (.t 122)))]), none⟩, ⟨(.some 124), (.mv (.t 8)), none⟩, ⟨(.some 125), (.iaddr 1 (.t 124) (.c (.lf (.int .i64 2)))), none⟩, ⟨(.some 126), (.load false 1 (.t 125)), none⟩, ⟨(.some 127), (.mv (.t 8)), none⟩, ⟨(.some 128), (.iaddr 1 (.t 127) (.c (.lf (.int .i64 3)))), none⟩, ⟨(.some 129), (.load false 1 (.t 128)), none⟩, ⟨(.some 130), (.build [(.flt .f32 0), (.flt .f32 0), (.flt .f32 0), (.flt .f32 0), (.flt .f32 0)] [(0, (3, (.t 123))), (3, (1, (.t 126))), (4, (1, (.t 129)))]), none⟩, ⟨(.some 17), (.alloc 86 [(.flt .f32 0), (.flt .f32 0), (.flt .f32 0), (.flt .f32 0), (.flt .f32 0)]), none⟩, ⟨none, (.store 5 (.t 17) (.t 130)), none⟩])
 (.seq (.reg [⟨(.some 132), (.load true 5 (.t 17)), none⟩, ⟨(.some 133), (.mv (.t 2)), none⟩, ⟨(.some 134), (.call false 67 [(.t 132), (.t 133)]), none⟩, ⟨(.some 131), (.mv (.t 134)), none⟩, ⟨(.some 135), (.ext (.t 131) 0), none⟩, ⟨(.some 136), (.ext (.t 131) 1), none⟩, ⟨(.some 137), (.ext (.t 131) 2), none⟩, ⟨(.some 18), (.mv (.t 135)), none⟩, ⟨none, (.store 5 (.t 17) (.t 136)), none⟩, ⟨(.some 19), (.mv (.t 137)), none⟩])
 (.seq (.reg [⟨(.some 138), (.mv (.t 18)), none⟩, ⟨(.some 139), (.faddr 0 (.t 17)), none⟩, ⟨(.some 140), (.faddr 2 (.t 139)), none⟩, ⟨(.some 141), (.load false 1 (.t 140)), none⟩, ⟨(.some 142), (.lit 50 1 1 [(.flt .f32 0)] [(0, (1, (.t 141)))]), none⟩, ⟨(.some 6), (.mv (.t 138)), none⟩, ⟨(.some 7), (.mv (.t 142)), none⟩])
 .ret))) (.seq (.reg [⟨(.some 144), (.bin .eql (.t 31) (.c (.lf (.int .i64 4)))), none⟩, ⟨(.some 143), (.mv (.t 144)), none⟩])
 (.cond (.t 143) (.seq (.reg [⟨(.some 146), (.mv (.t 2)), none⟩, ⟨(.some 147), (.mv (.t 8)), none⟩, ⟨(.some 148), (.iaddr 1 (.t 147) (.c (.lf (.int .i64 0)))), none⟩, ⟨(.some 149), (.load false 1 (.t 148)), none⟩, ⟨(.some 150), (.call false 68 [(.t 146), (.t 149)]), none⟩, ⟨(.some 145), (.mv (.t 150)), none⟩, ⟨(.some 151), (.ext (.t 145) 0), none⟩, ⟨(.some 152), (.ext (.t 145) 1), none⟩, ⟨(.some 20), (.mv (.t 151)), none⟩, ⟨(.some 21), (.mv (.t 152)), none⟩])
 (.seq (.reg [⟨(.some 153), (.mv (.t 20)), none⟩, ⟨(.some 6), (.mv (.t 153)), none⟩, ⟨(.some 7), (.mv (.c (.lf .nils))), none⟩])
 .ret)) (.seq (.reg [⟨(.some 155), (.bin .eql (.t 31) (.c (.lf (.int .i64 5)))), none⟩, ⟨(.some 154), (.mv (.t 155)), none⟩])
 (.cond (.t 154) (.seq (.reg [⟨(.some 22), (.mv (.c (.lf .nils))), none⟩])
 (.seq (.seq (.reg [⟨(.some 156), (.mv (.t 2)), none⟩, ⟨(.some 157), (.len (.t 156)), none⟩, ⟨(.some 158), (.mv (.c (.lf (.int .i64 0)))), none⟩])
 (.block 3 (.loop (.seq (.reg [⟨(.some 159), (.bin .lss (.t 158) (.t 157)), none⟩])
 (.seq (.cond (.t 159) .skip (.exit 3))
 (.seq (.block 4 (.seq (.reg [⟨(.some 160), (.iaddr 1 (.t 156) (.t 158)), none⟩, ⟨(.some 161), (.load false 1 (.t 160)), none⟩, ⟨(.some 24), (.mv (.t 161)), none⟩])
 (.reg [⟨(.some 162), (.mv (.t 22)), none⟩, ⟨(.some 163), (.mv (.t 24)), none⟩, ⟨(.some 164), (.call true 69 [(.t 163)]), none⟩, ⟨(.some 165), (.lit 50 1 1 [(.flt .f32 0)] [(0, (1, (.t 164)))]), none⟩, ⟨(.some 166), (.app 50 1 4 (.t 162) (.t 165)), none⟩, ⟨(.some 22), (.mv (.t 166)), none⟩])))
 (.reg [⟨(.some 167), (.bin .add (.t 158) (.c (.lf (.int .i64 1)))), none⟩, ⟨(.some 158), (.mv (.t 167)), none⟩])))))))
 (.seq (.reg [⟨(.some 168), (.mv (.t 22)), none⟩, ⟨(.some 6), (.mv (.t 168)), none⟩, ⟨(.some 7), (.mv (.c (.lf .nils))), none⟩])
 .ret))) .skip))))))))))))))
 (.seq (.any (.op ⟨(.some 170), (.mv (.t 8)), none⟩ (.op ⟨(.some 171), (.iaddr 1 (.t 170) (.c (.lf (.int .i64 0)))), none⟩ (.op ⟨(.some 172), (.load false 1 (.t 171)), none⟩ (.op ⟨(.some 173), (.mv (.t 8)), none⟩ (.op ⟨(.some 174), (.iaddr 1 (.t 173) (.c (.lf (.int .i64 1)))), none⟩ (.op ⟨(.some 175), (.load false 1 (.t 174)), none⟩ (.op ⟨(.some 176), (.mv (.t 1)), none⟩ (.op ⟨(.some 177), (.iaddr 1 (.t 176) (.c (.lf (.int .i64 0)))), none⟩ (.op ⟨(.some 178), (.load false 1 (.t 177)), none⟩ (.op ⟨(.some 179), (.mv (.t 1)), none⟩ (.op ⟨(.some 180), (.slice 1 (.t 179) (.some (.c (.lf (.int .i64 1)))) none), none⟩ (.op ⟨(.some 181), (.build [(.flt .f32 0), (.flt .f32 0), (.flt .f32 0), .nils] [(0, (1, (.t 172))), (1, (1, (.t 175))), (2, (1, (.t 178))), (3, (1, (.t 180)))]), none⟩ (.op ⟨(.some 182), (.mv (.t 2)), none⟩ (.alt (.op ⟨(.some 183), (.call false 70 [(.t 181), (.t 182)]), none⟩ (.op ⟨(.some 169), (.mv (.t 183)), none⟩ (.op ⟨(.some 184), (.ext (.t 169) 0), none⟩ (.op ⟨(.some 185), (.ext (.t 169) 1), none⟩ (.op ⟨(.some 186), (.ext (.t 169) 2), none⟩ (.op ⟨(.some 26), (.alloc 91 [(.flt .f32 0), (.flt .f32 0), (.flt .f32 0), .nils]), none⟩ (.op ⟨(.some 25), (.mv (.t 184)), none⟩ (.op ⟨none, (.store 4 (.t 26) (.t 185)), none⟩ (.op ⟨(.some 27), (.mv (.t 186)), none⟩ .nil))))))))) (.op ⟨(.some 26), (.alloc 91 [(.flt .f32 0), (.flt .f32 0), (.flt .f32 0), .nils]), none⟩ (.op ⟨(.some 183), (.call false 70 [(.t 181), (.t 182)]), none⟩ (.op ⟨(.some 169), (.mv (.t 183)), none⟩ (.op ⟨(.some 184), (.ext (.t 169) 0), none⟩ (.op ⟨(.some 185), (.ext (.t 169) 1), none⟩ (.op ⟨(.some 186), (.ext (.t 169) 2), none⟩ (.op ⟨(.some 25), (.mv (.t 184)), none⟩ (.op ⟨none, (.store 4 (.t 26) (.t 185)), none⟩ (.op ⟨(.some 27), (.mv (.t 186)), none⟩ .nil))))))))))))))))))))))))
 (.seq (.reg [⟨(.some 187), (.mv (.t 25)), none⟩, ⟨(.some 188), (.faddr 2 (.t 26)), none⟩, ⟨(.some 189), (.load false 1 (.t 188)), none⟩, ⟨(.some 190), (.lit 50 1 1 [(.flt .f32 0)] [(0, (1, (.t 189)))]), none⟩, ⟨(.some 191), (.faddr 3 (.t 26)), none⟩, ⟨(.some 192), (.load false 1 (.t 191)), none⟩, ⟨(.some 193), (.app 50 1 4 (.t 190) (.t 192)), none⟩, ⟨(.some 6), (.mv (.t 187)), none⟩, ⟨(.some 7), (.mv (.t 193)), none⟩])
 .ret))))), [(.tmp 6), (.tmp 7)]⟩
class HasEc (S : Sys) : Prop extends HasCn S, HasFf S where
  f65 : S.fs 65 = some L65
  f50 : S.fs 50 = some L50
def L35 : LFn := ⟨1, (.seq (.reg [⟨(.some 2), (.mv (.c (.lf .nils))), none⟩])
 (.seq (.reg [⟨(.some 4), (.mv (.t 0)), none⟩, ⟨(.some 5), (.call false 52 [(.t 4)]), none⟩, ⟨(.some 3), (.mv (.t 5)), none⟩])
 (.seq (.seq (.reg [⟨(.some 6), (.mv (.t 0)), none⟩, ⟨(.some 7), (.bin .gtr (.t 6) (.c (.lf (.int .i64 0)))), none⟩])
 (.cond (.t 7) (.reg [⟨(.some 8), (.mv (.t 3)), none⟩, ⟨(.some 9), (.iaddr 1 (.t 8) (.c (.lf (.int .i64 0)))), none⟩, ⟨none, (.store 1 (.t 9) (.c (.lf (.flt .f32 1065353216)))), none⟩]) .skip))
 (.seq (.reg [⟨(.some 10), (.mv (.t 3)), none⟩, ⟨(.some 2), (.mv (.t 10)), none⟩])
 .ret)))), [(.tmp 2)]⟩
class HasIe (S : Sys) : Prop extends HasN S where
  f35 : S.fs 35 = some L35
/-- One step of an echo: the sample, and the line behind it. -/
def echoS (n0 n1 : Nat) (last : List Nat) (x : Nat) : Nat × List Nat :=
  (fbin .add .f32 x (fbin .mul .f32 n1 (last.getD 0 0)), last.drop 1 ++ [flushF (fbin .add .f32 x (fbin .mul .f32 n0 (last.getD 0 0)))])
theorem echoS_len {n0 n1 x : Nat} {last : List Nat} (h : 0 < last.length) : (echoS n0 n1 last x).2.length = last.length := by simp [echoS]; omega
theorem echo_len {n0 n1 : Nat} {last xs : List Nat} (h0 : 0 < last.length) {i : Nat} (hi : i ≤ xs.length) : (stTo (echoS n0 n1) last xs i).length = last.length :=
  stTo_inv (I := fun t : List Nat => t.length = last.length) rfl (fun t x ht _ => by rw [echoS_len (by omega)]; exact ht) hi
def impN (n : Nat) : List Nat := if n = 0 then [] else 1065353216 :: List.replicate (n - 1) 0
section
variable {S : Sys} {lim : Nat} {h : Hp} {K : CV → Hp → Prop} {l l2 l3 : Lf} {xs : List Nat}
theorem Sm.drop {j : Nat} (s : Sm h l xs) (hj : j ≤ xs.length) : Sm h (l.from_ j 1) (xs.drop j) := by
  refine ⟨?_, ?_⟩
  · have := s.arr.from_ (j := j) (by simpa using hj)
    simpa using this
  · have := src_from fl_rows s.src (j := j) (by simpa using hj)
    simpa using this
section
variable [HasEc S]
theorem c_take {x : Nat} (s : Sm h l xs) (h0 : 0 < xs.length) (hn : xs.length ≤ 100000) (hl : lim ≤ h.length) (hK : ∀ o g, New h g o 50 1 ((xs.drop 1 ++ [x]).map fl) → K (.lf o) g) : CallT S false 65 [.lf l, .lf (.flt .f32 x)] h lim K := by
  have e1 := slcV_from (j := 1) s.arr (by decide) (by simp; omega)
  have e1' : slcV 1 (.lf l) (some (.lf (.int .i64 1))) none = some (.lf (l.from_ 1 1)) := e1
  refine CallT_of_body (F := L65) (HasEc.f65) rfl ?_; unfold L65; dsimp only []
  repeat' (first | (simp (disch := first | omega | assumption | (simp only [List.length_set]; omega) | (simp [*] <;> fail) | assumption) [-Bool.decide_and, -Bool.decide_or, -Bool.not_and, -Bool.not_or, toNat_pred, toNat_succ, wrap64, wr_new, wr_new0, ok_if, ok_ifn, iadV_sl, makeV_int, decT, decF, over_at, *]) | (with_reducible refine Gd_split (fun hc => ?_) (fun hc => ?_) <;> (have hc2 := hc; try simp at hc2)) | (with_reducible refine Br_split (fun hc => ?_) (fun hc => ?_) <;> (have hc2 := hc; try simp at hc2)) | (with_reducible refine GdT_split (fun hc => ?_) (fun hc => ?_) <;> (have hc2 := hc; try simp at hc2)) | (with_reducible refine WT_alt ?_ ?_) | omega)
  refine c_copyNumbers (s.drop (j := 1) (by omega)) (by simp; omega) hl fun o g hN => ?_
  repeat' (first | (simp (disch := first | omega | assumption | (simp only [List.length_set]; omega) | (simp [*] <;> fail) | assumption) [-Bool.decide_and, -Bool.decide_or, -Bool.not_and, -Bool.not_or, toNat_pred, toNat_succ, wrap64, wr_new, wr_new0, ok_if, ok_ifn, iadV_sl, makeV_int, decT, decF, over_at, *, leavesAll, fillL]) | (with_reducible refine Gd_split (fun hc => ?_) (fun hc => ?_) <;> (have hc2 := hc; try simp at hc2)) | (with_reducible refine Br_split (fun hc => ?_) (fun hc => ?_) <;> (have hc2 := hc; try simp at hc2)) | (with_reducible refine GdT_split (fun hc => ?_) (fun hc => ?_) <;> (have hc2 := hc; try simp at hc2)) | (with_reducible refine WT_alt ?_ ?_) | omega)
  refine oc_push (bytes := 4) (r := [.flt .f32 x]) hN ?_ ?_ ?_ (by decide) rfl (by decide)
  · exact hl
  · simp; omega
  intro o2 g5 hN5 hB5
  repeat' (first | (simp (disch := first | omega | assumption | (simp only [List.length_set]; omega) | (simp [*] <;> fail) | assumption) [-Bool.decide_and, -Bool.decide_or, -Bool.not_and, -Bool.not_or, toNat_pred, toNat_succ, wrap64, wr_new, wr_new0, ok_if, ok_ifn, iadV_sl, makeV_int, decT, decF, over_at, *]) | (with_reducible refine Gd_split (fun hc => ?_) (fun hc => ?_) <;> (have hc2 := hc; try simp at hc2)) | (with_reducible refine Br_split (fun hc => ?_) (fun hc => ?_) <;> (have hc2 := hc; try simp at hc2)) | (with_reducible refine GdT_split (fun hc => ?_) (fun hc => ?_) <;> (have hc2 := hc; try simp at hc2)) | (with_reducible refine WT_alt ?_ ?_) | omega)
  exact hK _ _ (by rw [List.map_append]; exact hN5)
set_option maxHeartbeats 4000000 in
theorem c_runEcho {len : Int} {n0 n1 : Nat} {last : List Nat} (hA : Arr h l 1 ([n0, n1].map fl)) (hS : Sm h l2 last) (h0 : 0 < last.length) (hlast : last.length ≤ 100) (hX : Arr h l3 1 (xs.map fl)) (hn : xs.length ≤ 256) (hl : lim ≤ h.length)
    (hK : ∀ o s g, New h g o 50 1 ((scan (echoS n0 n1) last xs).1.map fl) → New h g s 50 1 ((scan (echoS n0 n1) last xs).2.map fl) → Far o s → K (.tup [.lf o, .lf s]) g) : CallT S false 50 [.agg [.int .i64 2, .int .i64 len, l], .lf l2, .lf l3] h lim K := by
  refine CallT_of_body (F := L50) (HasEc.f50) rfl ?_; unfold L50; dsimp only []
  repeat' (first | (simp (disch := first | omega | assumption | (simp only [List.length_set]; omega) | (simp [*] <;> fail) | assumption) [-Bool.decide_and, -Bool.decide_or, -Bool.not_and, -Bool.not_or, toNat_pred, toNat_succ, wrap64, wr_new, wr_new0, ok_if, ok_ifn, iadV_sl, makeV_int, decT, decF, over_at, *]) | (with_reducible refine Gd_split (fun hc => ?_) (fun hc => ?_) <;> (have hc2 := hc; try simp at hc2)) | (with_reducible refine Br_split (fun hc => ?_) (fun hc => ?_) <;> (have hc2 := hc; try simp at hc2)) | (with_reducible refine GdT_split (fun hc => ?_) (fun hc => ?_) <;> (have hc2 := hc; try simp at hc2)) | (with_reducible refine WT_alt ?_ ?_) | omega)
  refine c_copyNumbers (hS.kept (Kept.app h _)) (by omega) (by simp; omega) fun s0 g0 hC0 => ?_
  have hC := hC0.base (Kept.app h _)
  have hk0 := hC.kept
  have hX0 := hX.kept hk0
  repeat' (first | (simp (disch := first | omega | assumption | (simp only [List.length_set]; omega) | (simp [*] <;> fail) | assumption) [-Bool.decide_and, -Bool.decide_or, -Bool.not_and, -Bool.not_or, toNat_pred, toNat_succ, wrap64, wr_new, wr_new0, ok_if, ok_ifn, iadV_sl, makeV_int, decT, decF, over_at, *, hX0.len]) | (with_reducible refine Gd_split (fun hc => ?_) (fun hc => ?_) <;> (have hc2 := hc; try simp at hc2)) | (with_reducible refine Br_split (fun hc => ?_) (fun hc => ?_) <;> (have hc2 := hc; try simp at hc2)) | (with_reducible refine GdT_split (fun hc => ?_) (fun hc => ?_) <;> (have hc2 := hc; try simp at hc2)) | (with_reducible refine WT_alt ?_ ?_) | omega)
  refine WL_forM 1298074209798003628674107383590912 (by decide +kernel) (xs.length) (fun i b g => i ≤ xs.length ∧ b 82 = .lf (.int .i64 i) ∧ ∃ o s, b 13 = .lf o ∧ b 12 = .lf s ∧ New h g o 50 1 ((outTo (echoS n0 n1) last xs i).map fl) ∧ New h g s 50 1 ((stTo (echoS n0 n1) last xs i).map fl) ∧ Far o s) (fun _ _ _ hi => hi.1) ⟨by omega, by simp, .nils, s0, by simp, by simp, by simpa using New.nil hk0, by simpa using hC, Far.nil_left⟩ ?_
  rintro i b g ⟨hi, e82, o, s, e13, e12, hN, hT, hf⟩
  have hk := hN.kept
  have hk1 := hk.1
  have hX1 := hX.kept hk
  have hA1 := hA.kept hk
  have hol := outTo_len (step := echoS n0 n1) (s := last) hi
  have htl := echo_len (n0 := n0) (n1 := n1) (xs := xs) h0 hi
  by_cases hlt : i < xs.length
  · have s1 := outTo_fl (step := echoS n0 n1) (s := last) hlt
    have s2 := stTo_succ (step := echoS n0 n1) (s := last) hlt
    generalize stTo (echoS n0 n1) last xs i = st at *
    have hst0 : 0 < st.length := by omega
    have hg0 : st.getD 0 0 = st[0] := by simp [hst0]
    have s1H : Hid ((outTo (echoS n0 n1) last xs (i + 1)).map fl = (outTo (echoS n0 n1) last xs i).map fl ++ [[.flt .f32 (fbin .add .f32 xs[i] (fbin .mul .f32 n1 st[0]))]]) := by rw [← hg0]; exact s1
    have s2H : Hid (stTo (echoS n0 n1) last xs (i + 1) = st.drop 1 ++ [flushF (fbin .add .f32 xs[i] (fbin .mul .f32 n0 st[0]))]) := by rw [← hg0]; exact s2
    clear s1 s2 hg0 hK
    have hTA := hT.arr
    repeat' (first | (simp (disch := first | omega | assumption | (simp only [List.length_set]; omega) | (simp [*] <;> fail) | assumption) [-Bool.decide_and, -Bool.decide_or, -Bool.not_and, -Bool.not_or, toNat_pred, toNat_succ, wrap64, wr_new, wr_new0, ok_if, ok_ifn, iadV_sl, makeV_int, decT, decF, over_at, *, hX1.len, hX1.at_, hX1.at_', hX1.rd, hX1.rdIn, hX1.rdIn0, hX1.rdA, hX1.rdInA, hX1.rdIn0A, hX1.rd1, hTA.len, hTA.at_, hTA.at_', hTA.rd, hTA.rdIn, hTA.rdIn0, hTA.rdA, hTA.rdInA, hTA.rdIn0A, hTA.at0, hTA.rd0, hTA.rd0j, hTA.rd0A, hTA.rd0jA, hA1.len, hA1.at_, hA1.at_', hA1.rd, hA1.rdIn, hA1.rdIn0, hA1.rdA, hA1.rdInA, hA1.rdIn0A, hA1.rd1, hA1.at0, hA1.rd0, hA1.rd0j, hA1.rd0A, hA1.rd0jA, fl, leavesAll, fillL]) | (with_reducible refine Gd_split (fun hc => ?_) (fun hc => ?_) <;> (have hc2 := hc; try simp at hc2)) | (with_reducible refine Br_split (fun hc => ?_) (fun hc => ?_) <;> (have hc2 := hc; try simp at hc2)) | (with_reducible refine GdT_split (fun hc => ?_) (fun hc => ?_) <;> (have hc2 := hc; try simp at hc2)) | (with_reducible refine WT_alt ?_ ?_) | omega)
    refine oc_push (bytes := 4) (r := [.flt .f32 (fbin .add .f32 xs[i] (fbin .mul .f32 n1 st[0]))]) hN ?_ ?_ ?_ (by decide) rfl (by decide)
    · exact hl
    · simp; omega
    intro o2 g5 hN5 hB5
    obtain ⟨hT5, hf5⟩ := hB5.other hN hT hf
    rw [← show (outTo (echoS n0 n1) last xs (i + 1)).map fl = _ from s1H] at hN5
    have hk5 := hN5.kept
    have hk51 := hk5.1
    have hA5 := hA.kept hk5
    have hTA5 := hT5.arr
    have hfl := fun K lim => c_FlushNumber (S := S) (h := g5) (lim := lim) (K := K) (x := fbin .add .f32 xs[i] (fbin .mul .f32 n0 st[0])) CF_bin
    clear hA1 hX1 hTA hT hN hB5 s1H
    repeat' (first | (simp (disch := first | omega | assumption | (simp only [List.length_set]; omega) | (simp [*] <;> fail) | assumption) [-Bool.decide_and, -Bool.decide_or, -Bool.not_and, -Bool.not_or, toNat_pred, toNat_succ, wrap64, wr_new, wr_new0, ok_if, ok_ifn, iadV_sl, makeV_int, decT, decF, over_at, *, hTA5.len, hTA5.at_, hTA5.at_', hTA5.rd, hTA5.rdIn, hTA5.rdIn0, hTA5.rdA, hTA5.rdInA, hTA5.rdIn0A, hTA5.at0, hTA5.rd0, hTA5.rd0j, hTA5.rd0A, hTA5.rd0jA, hA5.len, hA5.at_, hA5.at_', hA5.rd, hA5.rdIn, hA5.rdIn0, hA5.rdA, hA5.rdInA, hA5.rdIn0A, hA5.rd1, hA5.at0, hA5.rd0, hA5.rd0j, hA5.rd0A, hA5.rd0jA, fl, leavesAll, fillL]) | (with_reducible refine Gd_split (fun hc => ?_) (fun hc => ?_) <;> (have hc2 := hc; try simp at hc2)) | (with_reducible refine Br_split (fun hc => ?_) (fun hc => ?_) <;> (have hc2 := hc; try simp at hc2)) | (with_reducible refine GdT_split (fun hc => ?_) (fun hc => ?_) <;> (have hc2 := hc; try simp at hc2)) | (with_reducible refine WT_alt ?_ ?_) | omega)
    refine c_take (Sm.new hT5) hst0 (by omega) (by omega) fun s' g6 hS6 => ?_
    rw [← show stTo (echoS n0 n1) last xs (i + 1) = _ from s2H] at hS6
    have hN6 := hN5.later hS6.kept
    have hS7 := hS6.base hk5
    have hf6 : Far o2 s' := fun q1 q2 => by have := (hN5.lt q1).2; have := (hS6.lt q2).1; omega
    clear hfl hTA5 hA5 s2H hS6 hT5
    repeat' (first | (simp (disch := first | omega | assumption | (simp only [List.length_set]; omega) | (simp [*] <;> fail) | assumption) [-Bool.decide_and, -Bool.decide_or, -Bool.not_and, -Bool.not_or, toNat_pred, toNat_succ, wrap64, wr_new, wr_new0, ok_if, ok_ifn, iadV_sl, makeV_int, decT, decF, over_at, *]) | (with_reducible refine Gd_split (fun hc => ?_) (fun hc => ?_) <;> (have hc2 := hc; try simp at hc2)) | (with_reducible refine Br_split (fun hc => ?_) (fun hc => ?_) <;> (have hc2 := hc; try simp at hc2)) | (with_reducible refine GdT_split (fun hc => ?_) (fun hc => ?_) <;> (have hc2 := hc; try simp at hc2)) | (with_reducible refine WT_alt ?_ ?_) | omega)
  · have : i = xs.length := by omega
    subst this
    rw [outTo_all] at hN
    rw [stTo_all] at hT
    repeat' (first | (simp (disch := first | omega | assumption | (simp only [List.length_set]; omega) | (simp [*] <;> fail) | assumption) [-Bool.decide_and, -Bool.decide_or, -Bool.not_and, -Bool.not_or, toNat_pred, toNat_succ, wrap64, wr_new, wr_new0, ok_if, ok_ifn, iadV_sl, makeV_int, decT, decF, over_at, *]) | (with_reducible refine Gd_split (fun hc => ?_) (fun hc => ?_) <;> (have hc2 := hc; try simp at hc2)) | (with_reducible refine Br_split (fun hc => ?_) (fun hc => ?_) <;> (have hc2 := hc; try simp at hc2)) | (with_reducible refine GdT_split (fun hc => ?_) (fun hc => ?_) <;> (have hc2 := hc; try simp at hc2)) | (with_reducible refine WT_alt ?_ ?_) | omega)
    all_goals exact hK _ _ _ hN hT hf
end
end
end Go.E
