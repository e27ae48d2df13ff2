/- The law of RunBoth: what the evaluator finds. -/
import Derived.Test.YteppngjkmejgaaaMBo
import Derived.Test.YteppngjkmejgaaaMDk
import Derived.Test.YteppngjkmejgaaaMDs
import Derived.Test.YteppngjkmejgaaaProg
set_option linter.unusedVariables false
set_option linter.unusedSimpArgs false
namespace Go.E
open Go
def L5 : LFn := ⟨5, (.seq (.reg [⟨(.some 10), (.mv (.c (.lf (.bool false)))), none⟩])
 (.seq (.seq (.reg [⟨(.some 32), (.mv (.t 4)), none⟩, ⟨(.some 33), (.len (.t 32)), none⟩, ⟨(.some 34), (.bin .gtr (.t 33) (.c (.lf (.int .i64 1048576)))), none⟩])
 (.cond (.t 34) (.seq (.reg [⟨(.some 10), (.mv (.c (.lf (.bool true)))), none⟩])
 .ret) .skip))
 (.seq (.reg [⟨(.some 11), (.mv (.c (.lf (.int .i64 1048576)))), none⟩])
 (.seq (.reg [⟨(.some 35), (.mv (.t 0)), none⟩, ⟨(.some 36), (.mv (.t 11)), none⟩, ⟨(.some 37), (.call true 6 [(.t 35), (.t 36)]), none⟩, ⟨(.some 11), (.mv (.t 37)), none⟩])
 (.seq (.seq (.reg [⟨(.some 38), (.mv (.t 11)), none⟩, ⟨(.some 39), (.bin .lss (.t 38) (.c (.lf (.int .i64 0)))), none⟩])
 (.cond (.t 39) (.seq (.reg [⟨(.some 10), (.mv (.c (.lf (.bool true)))), none⟩])
 .ret) .skip))
 (.seq (.reg [⟨(.some 40), (.mv (.t 1)), none⟩, ⟨(.some 41), (.mv (.t 11)), none⟩, ⟨(.some 42), (.call true 6 [(.t 40), (.t 41)]), none⟩, ⟨(.some 11), (.mv (.t 42)), none⟩])
 (.seq (.seq (.reg [⟨(.some 43), (.mv (.t 11)), none⟩, ⟨(.some 44), (.bin .lss (.t 43) (.c (.lf (.int .i64 0)))), none⟩])
 (.cond (.t 44) (.seq (.reg [⟨(.some 10), (.mv (.c (.lf (.bool true)))), none⟩])
 .ret) .skip))
 (.seq (.reg [⟨(.some 45), (.mv (.t 2)), none⟩, ⟨(.some 46), (.mv (.t 11)), none⟩, ⟨(.some 47), (.call true 15 [(.t 45), (.t 46)]), none⟩, ⟨(.some 11), (.mv (.t 47)), none⟩])
 (.seq (.seq (.reg [⟨(.some 48), (.mv (.t 11)), none⟩, ⟨(.some 49), (.bin .lss (.t 48) (.c (.lf (.int .i64 0)))), none⟩])
 (.cond (.t 49) (.seq (.reg [⟨(.some 10), (.mv (.c (.lf (.bool true)))), none⟩])
 .ret) .skip))
 (.seq (.reg [⟨(.some 50), (.mv (.t 3)), none⟩, ⟨(.some 51), (.mv (.t 11)), none⟩, ⟨(.some 52), (.call true 15 [(.t 50), (.t 51)]), none⟩, ⟨(.some 11), (.mv (.t 52)), none⟩])
 (.seq (.seq (.reg [⟨(.some 53), (.mv (.t 11)), none⟩, ⟨(.some 54), (.bin .lss (.t 53) (.c (.lf (.int .i64 0)))), none⟩])
 (.cond (.t 54) (.seq (.reg [⟨(.some 10), (.mv (.c (.lf (.bool true)))), none⟩])
 .ret) .skip))
 (.seq (.reg [⟨(.some 56), (.mv (.t 0)), none⟩, ⟨(.some 57), (.call false 8 [(.t 56)]), none⟩, ⟨(.some 58), (.mv (.t 1)), none⟩, ⟨(.some 59), (.call false 8 [(.t 58)]), none⟩, ⟨(.some 60), (.mv (.t 2)), none⟩, ⟨(.some 61), (.call false 17 [(.t 60)]), none⟩, ⟨(.some 62), (.mv (.t 3)), none⟩, ⟨(.some 63), (.call false 17 [(.t 62)]), none⟩, ⟨(.some 64), (.mv (.t 4)), none⟩, ⟨(.some 65), (.call false 18 [(.t 64)]), none⟩, ⟨(.some 66), (.call false 23 [(.t 57), (.t 59), (.t 61), (.t 63), (.t 65)]), none⟩, ⟨(.some 55), (.mv (.t 66)), none⟩, ⟨(.some 67), (.ext (.t 55) 0), none⟩, ⟨(.some 68), (.ext (.t 55) 1), none⟩, ⟨(.some 69), (.ext (.t 55) 2), none⟩, ⟨(.some 70), (.ext (.t 55) 3), none⟩, ⟨(.some 12), (.mv (.t 67)), none⟩, ⟨(.some 13), (.mv (.t 68)), none⟩, ⟨(.some 14), (.mv (.t 69)), none⟩, ⟨(.some 15), (.mv (.t 70)), none⟩])
 (.seq (.reg [⟨(.some 71), (.mv (.t 0)), none⟩, ⟨(.some 72), (.call false 8 [(.t 71)]), none⟩, ⟨(.some 16), (.mv (.t 72)), none⟩])
 (.seq (.reg [⟨(.some 73), (.mv (.t 1)), none⟩, ⟨(.some 74), (.call false 8 [(.t 73)]), none⟩, ⟨(.some 17), (.mv (.t 74)), none⟩])
 (.seq (.reg [⟨(.some 75), (.mv (.t 2)), none⟩, ⟨(.some 76), (.call false 17 [(.t 75)]), none⟩, ⟨(.some 18), (.mv (.t 76)), none⟩])
 (.seq (.reg [⟨(.some 77), (.mv (.t 3)), none⟩, ⟨(.some 78), (.call false 17 [(.t 77)]), none⟩, ⟨(.some 19), (.mv (.t 78)), none⟩])
 (.seq (.reg [⟨(.some 79), (.mv (.t 4)), none⟩, ⟨(.some 80), (.call false 18 [(.t 79)]), none⟩, ⟨(.some 20), (.mv (.t 80)), none⟩])
 (.seq (.reg [⟨(.some 82), (.mv (.t 16)), none⟩, ⟨(.some 83), (.mv (.t 17)), none⟩, ⟨(.some 84), (.mv (.t 18)), none⟩, ⟨(.some 85), (.mv (.t 19)), none⟩, ⟨(.some 86), (.mv (.t 20)), none⟩, ⟨(.some 87), (.call false 24 [(.t 82), (.t 83), (.t 84), (.t 85), (.t 86)]), none⟩, ⟨(.some 81), (.mv (.t 87)), none⟩, ⟨(.some 88), (.ext (.t 81) 0), none⟩, ⟨(.some 89), (.ext (.t 81) 1), none⟩, ⟨(.some 90), (.ext (.t 81) 2), none⟩, ⟨(.some 91), (.ext (.t 81) 3), none⟩, ⟨(.some 21), (.mv (.t 88)), none⟩, ⟨(.some 22), (.mv (.t 89)), none⟩, ⟨(.some 23), (.mv (.t 90)), none⟩, ⟨(.some 24), (.mv (.t 91)), none⟩])
 (.seq (.seq (.reg [⟨(.some 92), (.mv (.t 21)), none⟩, ⟨(.some 93), (.mv (.t 12)), none⟩, ⟨(.some 94), (.call true 10 [(.t 92), (.t 93)]), none⟩, ⟨(.some 95), (.una .not (.t 94)), none⟩, ⟨(.some 96), (.mv (.t 95)), none⟩, ⟨(.some 97), (.mv (.t 22)), (.some (96, false))⟩, ⟨(.some 98), (.mv (.t 13)), (.some (96, false))⟩, ⟨(.some 99), (.call true 20 [(.t 97), (.t 98)]), (.some (96, false))⟩, ⟨(.some 100), (.una .not (.t 99)), (.some (96, false))⟩, ⟨(.some 101), (.pick (.t 96) (.c (.lf (.bool true))) (.t 100)), none⟩, ⟨(.some 102), (.mv (.t 101)), none⟩, ⟨(.some 103), (.mv (.t 23)), (.some (102, false))⟩, ⟨(.some 104), (.mv (.t 14)), (.some (102, false))⟩, ⟨(.some 105), (.call true 20 [(.t 103), (.t 104)]), (.some (102, false))⟩, ⟨(.some 106), (.una .not (.t 105)), (.some (102, false))⟩, ⟨(.some 107), (.pick (.t 102) (.c (.lf (.bool true))) (.t 106)), none⟩, ⟨(.some 108), (.mv (.t 107)), none⟩, ⟨(.some 109), (.mv (.t 24)), (.some (108, false))⟩, ⟨(.some 110), (.mv (.t 15)), (.some (108, false))⟩, ⟨(.some 111), (.beq true (.t 109) (.t 110)), (.some (108, false))⟩, ⟨(.some 112), (.pick (.t 108) (.c (.lf (.bool true))) (.t 111)), none⟩])
 (.cond (.t 112) (.seq (.reg [⟨(.some 10), (.mv (.c (.lf (.bool false)))), none⟩])
 .ret) .skip))
 (.seq (.seq (.reg [⟨(.some 113), (.mv (.t 16)), none⟩, ⟨(.some 114), (.mv (.t 0)), none⟩, ⟨(.some 115), (.call false 8 [(.t 114)]), none⟩, ⟨(.some 116), (.call true 11 [(.t 113), (.t 115)]), none⟩, ⟨(.some 117), (.una .not (.t 116)), none⟩])
 (.cond (.t 117) (.seq (.reg [⟨(.some 10), (.mv (.c (.lf (.bool false)))), none⟩])
 .ret) .skip))
 (.seq (.seq (.reg [⟨(.some 118), (.mv (.t 17)), none⟩, ⟨(.some 119), (.mv (.t 1)), none⟩, ⟨(.some 120), (.call false 8 [(.t 119)]), none⟩, ⟨(.some 121), (.call true 11 [(.t 118), (.t 120)]), none⟩, ⟨(.some 122), (.una .not (.t 121)), none⟩])
 (.cond (.t 122) (.seq (.reg [⟨(.some 10), (.mv (.c (.lf (.bool false)))), none⟩])
 .ret) .skip))
 (.seq (.seq (.reg [⟨(.some 123), (.mv (.t 18)), none⟩, ⟨(.some 124), (.mv (.t 2)), none⟩, ⟨(.some 125), (.call false 17 [(.t 124)]), none⟩, ⟨(.some 126), (.call true 20 [(.t 123), (.t 125)]), none⟩, ⟨(.some 127), (.una .not (.t 126)), none⟩])
 (.cond (.t 127) (.seq (.reg [⟨(.some 10), (.mv (.c (.lf (.bool false)))), none⟩])
 .ret) .skip))
 (.seq (.seq (.reg [⟨(.some 128), (.mv (.t 19)), none⟩, ⟨(.some 129), (.mv (.t 3)), none⟩, ⟨(.some 130), (.call false 17 [(.t 129)]), none⟩, ⟨(.some 131), (.call true 20 [(.t 128), (.t 130)]), none⟩, ⟨(.some 132), (.una .not (.t 131)), none⟩])
 (.cond (.t 132) (.seq (.reg [⟨(.some 10), (.mv (.c (.lf (.bool false)))), none⟩])
 .ret) .skip))
 (.seq (.seq (.reg [⟨(.some 133), (.mv (.t 20)), none⟩, ⟨(.some 134), (.mv (.t 4)), none⟩, ⟨(.some 135), (.call false 18 [(.t 134)]), none⟩, ⟨(.some 136), (.call true 10 [(.t 133), (.t 135)]), none⟩, ⟨(.some 137), (.una .not (.t 136)), none⟩])
 (.cond (.t 137) (.seq (.reg [⟨(.some 10), (.mv (.c (.lf (.bool false)))), none⟩])
 .ret) .skip))
 (.seq (.reg [⟨(.some 25), (.mv (.c (.lf (.int .i64 1)))), none⟩])
 (.seq (.reg [⟨(.some 138), (.mv (.t 16)), none⟩, ⟨(.some 139), (.mv (.t 25)), none⟩, ⟨(.some 140), (.call false 12 [(.t 138), (.t 139)]), none⟩, ⟨(.some 25), (.mv (.t 140)), none⟩])
 (.seq (.reg [⟨(.some 141), (.mv (.t 17)), none⟩, ⟨(.some 142), (.mv (.t 25)), none⟩, ⟨(.some 143), (.call false 12 [(.t 141), (.t 142)]), none⟩, ⟨(.some 25), (.mv (.t 143)), none⟩])
 (.seq (.reg [⟨(.some 144), (.mv (.t 18)), none⟩, ⟨(.some 145), (.mv (.t 25)), none⟩, ⟨(.some 146), (.call false 21 [(.t 144), (.t 145)]), none⟩, ⟨(.some 25), (.mv (.t 146)), none⟩])
 (.seq (.reg [⟨(.some 147), (.mv (.t 19)), none⟩, ⟨(.some 148), (.mv (.t 25)), none⟩, ⟨(.some 149), (.call false 21 [(.t 147), (.t 148)]), none⟩, ⟨(.some 25), (.mv (.t 149)), none⟩])
 (.seq (.reg [⟨(.some 150), (.mv (.t 20)), none⟩, ⟨(.some 151), (.mv (.t 25)), none⟩, ⟨(.some 152), (.call false 13 [(.t 150), (.t 151)]), none⟩, ⟨(.some 25), (.mv (.t 152)), none⟩])
 (.seq (.seq (.reg [⟨(.some 153), (.mv (.t 25)), none⟩, ⟨(.some 154), (.bin .lss (.t 153) (.c (.lf (.int .i64 0)))), none⟩, ⟨(.some 155), (.mv (.t 154)), none⟩, ⟨(.some 156), (.mv (.t 21)), (.some (155, false))⟩, ⟨(.some 157), (.mv (.t 12)), (.some (155, false))⟩, ⟨(.some 158), (.call true 10 [(.t 156), (.t 157)]), (.some (155, false))⟩, ⟨(.some 159), (.una .not (.t 158)), (.some (155, false))⟩, ⟨(.some 160), (.pick (.t 155) (.c (.lf (.bool true))) (.t 159)), none⟩, ⟨(.some 161), (.mv (.t 160)), none⟩, ⟨(.some 162), (.mv (.t 22)), (.some (161, false))⟩, ⟨(.some 163), (.mv (.t 13)), (.some (161, false))⟩, ⟨(.some 164), (.call true 20 [(.t 162), (.t 163)]), (.some (161, false))⟩, ⟨(.some 165), (.una .not (.t 164)), (.some (161, false))⟩, ⟨(.some 166), (.pick (.t 161) (.c (.lf (.bool true))) (.t 165)), none⟩, ⟨(.some 167), (.mv (.t 166)), none⟩, ⟨(.some 168), (.mv (.t 23)), (.some (167, false))⟩, ⟨(.some 169), (.mv (.t 14)), (.some (167, false))⟩, ⟨(.some 170), (.call true 20 [(.t 168), (.t 169)]), (.some (167, false))⟩, ⟨(.some 171), (.una .not (.t 170)), (.some (167, false))⟩, ⟨(.some 172), (.pick (.t 167) (.c (.lf (.bool true))) (.t 171)), none⟩, ⟨(.some 173), (.mv (.t 172)), none⟩, ⟨(.some 174), (.mv (.t 24)), (.some (173, false))⟩, ⟨(.some 175), (.mv (.t 15)), (.some (173, false))⟩, ⟨(.some 176), (.beq true (.t 174) (.t 175)), (.some (173, false))⟩, ⟨(.some 177), (.pick (.t 173) (.c (.lf (.bool true))) (.t 176)), none⟩])
 (.cond (.t 177) (.seq (.reg [⟨(.some 10), (.mv (.c (.lf (.bool false)))), none⟩])
 .ret) .skip))
 (.seq (.reg [⟨(.some 26), (.mv (.c (.lf (.int .i64 1)))), none⟩])
 (.seq (.reg [⟨(.some 178), (.mv (.t 21)), none⟩, ⟨(.some 179), (.mv (.t 26)), none⟩, ⟨(.some 180), (.call false 13 [(.t 178), (.t 179)]), none⟩, ⟨(.some 26), (.mv (.t 180)), none⟩])
 (.seq (.reg [⟨(.some 181), (.mv (.t 22)), none⟩, ⟨(.some 182), (.mv (.t 26)), none⟩, ⟨(.some 183), (.call false 21 [(.t 181), (.t 182)]), none⟩, ⟨(.some 26), (.mv (.t 183)), none⟩])
 (.seq (.reg [⟨(.some 184), (.mv (.t 23)), none⟩, ⟨(.some 185), (.mv (.t 26)), none⟩, ⟨(.some 186), (.call false 21 [(.t 184), (.t 185)]), none⟩, ⟨(.some 26), (.mv (.t 186)), none⟩])
 (.seq (.reg [⟨(.some 27), (.mv (.c (.lf (.int .i64 1)))), none⟩])
 (.seq (.reg [⟨(.some 187), (.mv (.t 21)), none⟩, ⟨(.some 188), (.mv (.t 27)), none⟩, ⟨(.some 189), (.call true 14 [(.t 187), (.t 188)]), none⟩, ⟨(.some 27), (.mv (.t 189)), none⟩])
 (.seq (.seq (.reg [⟨(.some 190), (.mv (.t 27)), none⟩, ⟨(.some 191), (.bin .lss (.t 190) (.c (.lf (.int .i64 0)))), none⟩])
 (.cond (.t 191) (.seq (.reg [⟨(.some 10), (.mv (.c (.lf (.bool false)))), none⟩])
 .ret) .skip))
 (.seq (.reg [⟨(.some 192), (.mv (.t 22)), none⟩, ⟨(.some 193), (.mv (.t 27)), none⟩, ⟨(.some 194), (.call true 22 [(.t 192), (.t 193)]), none⟩, ⟨(.some 27), (.mv (.t 194)), none⟩])
 (.seq (.seq (.reg [⟨(.some 195), (.mv (.t 27)), none⟩, ⟨(.some 196), (.bin .lss (.t 195) (.c (.lf (.int .i64 0)))), none⟩])
 (.cond (.t 196) (.seq (.reg [⟨(.some 10), (.mv (.c (.lf (.bool false)))), none⟩])
 .ret) .skip))
 (.seq (.reg [⟨(.some 197), (.mv (.t 23)), none⟩, ⟨(.some 198), (.mv (.t 27)), none⟩, ⟨(.some 199), (.call true 22 [(.t 197), (.t 198)]), none⟩, ⟨(.some 27), (.mv (.t 199)), none⟩])
 (.seq (.seq (.reg [⟨(.some 200), (.mv (.t 27)), none⟩, ⟨(.some 201), (.bin .lss (.t 200) (.c (.lf (.int .i64 0)))), none⟩])
 (.cond (.t 201) (.seq (.reg [⟨(.some 10), (.mv (.c (.lf (.bool false)))), none⟩])
 .ret) .skip))
 (.seq (.seq (.reg [⟨(.some 202), (.mv (.t 27)), none⟩, ⟨(.some 203), (.mv (.t 26)), none⟩, ⟨(.some 204), (.bin .neq (.t 202) (.t 203)), none⟩])
 (.cond (.t 204) (.seq (.reg [⟨(.some 10), (.mv (.c (.lf (.bool false)))), none⟩])
 .ret) .skip))
 (.seq (.reg [⟨(.some 206), (.mv (.t 0)), none⟩, ⟨(.some 207), (.call false 8 [(.t 206)]), none⟩, ⟨(.some 208), (.mv (.t 1)), none⟩, ⟨(.some 209), (.call false 8 [(.t 208)]), none⟩, ⟨(.some 210), (.mv (.t 2)), none⟩, ⟨(.some 211), (.call false 17 [(.t 210)]), none⟩, ⟨(.some 212), (.mv (.t 3)), none⟩, ⟨(.some 213), (.call false 17 [(.t 212)]), none⟩, ⟨(.some 214), (.mv (.t 4)), none⟩, ⟨(.some 215), (.call false 18 [(.t 214)]), none⟩, ⟨(.some 216), (.call false 24 [(.t 207), (.t 209), (.t 211), (.t 213), (.t 215)]), none⟩, ⟨(.some 205), (.mv (.t 216)), none⟩, ⟨(.some 217), (.ext (.t 205) 0), none⟩, ⟨(.some 218), (.ext (.t 205) 1), none⟩, ⟨(.some 219), (.ext (.t 205) 2), none⟩, ⟨(.some 220), (.ext (.t 205) 3), none⟩, ⟨(.some 28), (.mv (.t 217)), none⟩, ⟨(.some 29), (.mv (.t 218)), none⟩, ⟨(.some 30), (.mv (.t 219)), none⟩, ⟨(.some 31), (.mv (.t 220)), none⟩])
 (.seq (.seq (.reg [⟨(.some 221), (.mv (.t 28)), none⟩, ⟨(.some 222), (.mv (.t 12)), none⟩, ⟨(.some 223), (.call true 10 [(.t 221), (.t 222)]), none⟩, ⟨(.some 224), (.una .not (.t 223)), none⟩, ⟨(.some 225), (.mv (.t 224)), none⟩, ⟨(.some 226), (.mv (.t 29)), (.some (225, false))⟩, ⟨(.some 227), (.mv (.t 13)), (.some (225, false))⟩, ⟨(.some 228), (.call true 20 [(.t 226), (.t 227)]), (.some (225, false))⟩, ⟨(.some 229), (.una .not (.t 228)), (.some (225, false))⟩, ⟨(.some 230), (.pick (.t 225) (.c (.lf (.bool true))) (.t 229)), none⟩, ⟨(.some 231), (.mv (.t 230)), none⟩, ⟨(.some 232), (.mv (.t 30)), (.some (231, false))⟩, ⟨(.some 233), (.mv (.t 14)), (.some (231, false))⟩, ⟨(.some 234), (.call true 20 [(.t 232), (.t 233)]), (.some (231, false))⟩, ⟨(.some 235), (.una .not (.t 234)), (.some (231, false))⟩, ⟨(.some 236), (.pick (.t 231) (.c (.lf (.bool true))) (.t 235)), none⟩, ⟨(.some 237), (.mv (.t 236)), none⟩, ⟨(.some 238), (.mv (.t 31)), (.some (237, false))⟩, ⟨(.some 239), (.mv (.t 15)), (.some (237, false))⟩, ⟨(.some 240), (.beq true (.t 238) (.t 239)), (.some (237, false))⟩, ⟨(.some 241), (.pick (.t 237) (.c (.lf (.bool true))) (.t 240)), none⟩])
 (.cond (.t 241) (.seq (.reg [⟨(.some 10), (.mv (.c (.lf (.bool false)))), none⟩])
 .ret) .skip))
 (.seq (.reg [⟨(.some 27), (.mv (.c (.lf (.int .i64 1)))), none⟩])
 (.seq (.reg [⟨(.some 242), (.mv (.t 21)), none⟩, ⟨(.some 243), (.mv (.t 27)), none⟩, ⟨(.some 244), (.call true 14 [(.t 242), (.t 243)]), none⟩, ⟨(.some 27), (.mv (.t 244)), none⟩])
 (.seq (.seq (.reg [⟨(.some 245), (.mv (.t 27)), none⟩, ⟨(.some 246), (.bin .lss (.t 245) (.c (.lf (.int .i64 0)))), none⟩])
 (.cond (.t 246) (.seq (.reg [⟨(.some 10), (.mv (.c (.lf (.bool false)))), none⟩])
 .ret) .skip))
 (.seq (.reg [⟨(.some 247), (.mv (.t 22)), none⟩, ⟨(.some 248), (.mv (.t 27)), none⟩, ⟨(.some 249), (.call true 22 [(.t 247), (.t 248)]), none⟩, ⟨(.some 27), (.mv (.t 249)), none⟩])
 (.seq (.seq (.reg [⟨(.some 250), (.mv (.t 27)), none⟩, ⟨(.some 251), (.bin .lss (.t 250) (.c (.lf (.int .i64 0)))), none⟩])
 (.cond (.t 251) (.seq (.reg [⟨(.some 10), (.mv (.c (.lf (.bool false)))), none⟩])
 .ret) .skip))
 (.seq (.reg [⟨(.some 252), (.mv (.t 23)), none⟩, ⟨(.some 253), (.mv (.t 27)), none⟩, ⟨(.some 254), (.call true 22 [(.t 252), (.t 253)]), none⟩, ⟨(.some 27), (.mv (.t 254)), none⟩])
 (.seq (.seq (.reg [⟨(.some 255), (.mv (.t 27)), none⟩, ⟨(.some 256), (.bin .lss (.t 255) (.c (.lf (.int .i64 0)))), none⟩])
 (.cond (.t 256) (.seq (.reg [⟨(.some 10), (.mv (.c (.lf (.bool false)))), none⟩])
 .ret) .skip))
 (.seq (.seq (.reg [⟨(.some 257), (.mv (.t 27)), none⟩, ⟨(.some 258), (.mv (.t 26)), none⟩, ⟨(.some 259), (.bin .neq (.t 257) (.t 258)), none⟩])
 (.cond (.t 259) (.seq (.reg [⟨(.some 10), (.mv (.c (.lf (.bool false)))), none⟩])
 .ret) .skip))
 (.seq (.reg [⟨(.some 10), (.mv (.c (.lf (.bool true)))), none⟩])
 .ret)))))))))))))))))))))))))))))))))))))))))))))))))))))), [(.tmp 10)]⟩
class HasLRunBoth (S : Sys) : Prop extends HasBo S, HasDE S, HasDSS S, HasKE S, HasKSS S, HasF S where
  f5 : S.fs 5 = some L5
set_option maxRecDepth 20000 in
set_option maxHeartbeats 16000000 in
theorem lawRunBoth {S : Sys} [HasLRunBoth S] : LawHolds S 5 [(false, .sl 3 effSh), (false, .sl 3 effSh), (false, .sl 1 flSl), (false, .sl 1 flSl), (false, .sl 1 (.flt .f32))] := by
  intro h cs hcs
  obtain ⟨c0, _, rfl, ⟨ls0, rfl, l, rows, rfl, hAl, hrows⟩, c1, _, rfl, ⟨ls1, rfl, l2, rows2, rfl, hAl2, hrows2⟩, c2, _, rfl, ⟨ls2, rfl, l3, rows3, rfl, hAl3, hrows3⟩, c3, _, rfl, ⟨ls3, rfl, l4, rows4, rfl, hAl4, hrows4⟩, c4, _, rfl, ⟨ls4, rfl, l5, rows5, rfl, hAl5, hrows5⟩, rfl⟩ := hcs
  obtain ⟨ps, rfl, hIl, hpc⟩ := effs_of hrows
  obtain ⟨p', rfl, hIl2, hpc'⟩ := effs_of hrows2
  obtain ⟨qs, rfl, hIl3, hqc⟩ := sss_of hrows3
  obtain ⟨q', rfl, hIl4, hqc'⟩ := sss_of hrows4
  obtain ⟨xs, rfl, hxc⟩ := cf_rows hrows5
  clear hrows hrows2 hrows3 hrows4 hrows5
  have hnc : ∀ e ∈ ps.map (·.1), ∀ x ∈ e.nums, CF x := fun e he x hx => by
    obtain ⟨p, hp, rfl⟩ := List.mem_map.1 he
    exact ⟨(hpc p hp x hx).1, (hpc p hp x hx).2⟩
  have hnc' : ∀ e ∈ p'.map (·.1), ∀ x ∈ e.nums, CF x := fun e he x hx => by
    obtain ⟨p, hp, rfl⟩ := List.mem_map.1 he
    exact ⟨(hpc' p hp x hx).1, (hpc' p hp x hx).2⟩
  have hsc : ∀ s ∈ qs.map (·.1), ∀ x ∈ s, CF x := fun s hs x hx => by
    obtain ⟨p, hp, rfl⟩ := List.mem_map.1 hs
    exact ⟨(hqc p hp x hx).1, (hqc p hp x hx).2⟩
  have hsc' : ∀ s ∈ q'.map (·.1), ∀ x ∈ s, CF x := fun s hs x hx => by
    obtain ⟨p, hp, rfl⟩ := List.mem_map.1 hs
    exact ⟨(hqc' p hp x hx).1, (hqc' p hp x hx).2⟩
  have hx : ∀ x ∈ xs, CF x := fun x hx => ⟨(hxc x hx).1, (hxc x hx).2⟩
  clear hpc hpc' hqc hqc' hxc
  have cs : ∀ {g a0 a1 a2 a3 a4 p0 p1 p2 p3 K}, NewD h g a0 54 3 Eff.cells Eff.nums 50 p0 → p0.map (·.1) = ps.map (·.1) → NewD h g a1 54 3 Eff.cells Eff.nums 50 p1 → p1.map (·.1) = p'.map (·.1) → NewD h g a2 24 1 ssCells ssRows 50 p2 → p2.map (·.1) = qs.map (·.1) → NewD h g a3 24 1 ssCells ssRows 50 p3 → p3.map (·.1) = q'.map (·.1) → New h g a4 50 1 (xs.map fl) → h.length ≤ g.length → (∀ o s po s2 po2 g', New g g' o 50 1 ((rbR (ps.map (·.1)) (p'.map (·.1)) (qs.map (·.1)) (q'.map (·.1)) xs).1.map fl) → NewD g g' s 24 1 ssCells ssRows 50 po → po.map (·.1) = (rbR (ps.map (·.1)) (p'.map (·.1)) (qs.map (·.1)) (q'.map (·.1)) xs).2.1 → NewD g g' s2 24 1 ssCells ssRows 50 po2 → po2.map (·.1) = (rbR (ps.map (·.1)) (p'.map (·.1)) (qs.map (·.1)) (q'.map (·.1)) xs).2.2 → (∀ x ∈ [o], ∀ t ∈ lvs s po, Far x t) → (∀ x ∈ [o], ∀ t ∈ lvs s2 po2, Far x t) → (∀ x ∈ lvs s po, ∀ t ∈ lvs s2 po2, Far x t) → K (.tup [.lf o, .lf s, .lf s2, .lf (.bool (decide (okRb (ps.map (·.1)) (p'.map (·.1)) (qs.map (·.1)) (q'.map (·.1)) xs.length)))]) g') → CallT S false 23 [.lf a0, .lf a1, .lf a2, .lf a3, .lf a4] g h.length K := fun h0 e0 h1 e1 h2 e2 h3 e3 h4 hl hk => c_specRunBoth h0.arr h0.ins h1.arr h1.ins h2.arr (Sms.new h2) h2.ins h3.arr (Sms.new h3) h3.ins (by rw [e0]; exact hnc) (by rw [e1]; exact hnc') (by rw [e2]; exact hsc) (by rw [e3]; exact hsc') (Sm.new h4) hx hl (fun o s rs s2 rs2 g hO hD hr hD2 hr2 hf hf2 hf3 => by rw [e0, e1, e2, e3] at hO hr hr2 ⊢; exact hk o s rs s2 rs2 g hO hD hr hD2 hr2 (fun x hx t ht => by rw [List.mem_singleton.1 hx]; exact hf t ht) (fun x hx t ht => by rw [List.mem_singleton.1 hx]; exact hf2 t ht) hf3)
  have ci : ∀ {g a0 a1 a2 a3 a4 p0 p1 p2 p3 K}, NewD h g a0 54 3 Eff.cells Eff.nums 50 p0 → p0.map (·.1) = ps.map (·.1) → NewD h g a1 54 3 Eff.cells Eff.nums 50 p1 → p1.map (·.1) = p'.map (·.1) → NewD h g a2 24 1 ssCells ssRows 50 p2 → p2.map (·.1) = qs.map (·.1) → NewD h g a3 24 1 ssCells ssRows 50 p3 → p3.map (·.1) = q'.map (·.1) → New h g a4 50 1 (xs.map fl) → h.length ≤ g.length → (∀ o s po s2 po2 g', New g g' o 50 1 ((rbR (ps.map (·.1)) (p'.map (·.1)) (qs.map (·.1)) (q'.map (·.1)) xs).1.map fl) → NewD g g' s 24 1 ssCells ssRows 50 po → po.map (·.1) = (rbR (ps.map (·.1)) (p'.map (·.1)) (qs.map (·.1)) (q'.map (·.1)) xs).2.1 → NewD g g' s2 24 1 ssCells ssRows 50 po2 → po2.map (·.1) = (rbR (ps.map (·.1)) (p'.map (·.1)) (qs.map (·.1)) (q'.map (·.1)) xs).2.2 → (∀ x ∈ [o], ∀ t ∈ lvs s po, Far x t) → (∀ x ∈ [o], ∀ t ∈ lvs s2 po2, Far x t) → (∀ x ∈ lvs s po, ∀ t ∈ lvs s2 po2, Far x t) → K (.tup [.lf o, .lf s, .lf s2, .lf (.bool (decide (okRb (ps.map (·.1)) (p'.map (·.1)) (qs.map (·.1)) (q'.map (·.1)) xs.length)))]) g') → CallT S false 24 [.lf a0, .lf a1, .lf a2, .lf a3, .lf a4] g h.length K := fun h0 e0 h1 e1 h2 e2 h3 e3 h4 hl hk => c_implRunBoth h0.arr h0.ins h1.arr h1.ins h2.arr (Sms.new h2) h2.ins h3.arr (Sms.new h3) h3.ins (by rw [e0]; exact hnc) (by rw [e1]; exact hnc') (by rw [e2]; exact hsc) (by rw [e3]; exact hsc') (Sm.new h4) hx hl (fun o s rs s2 rs2 g hO hD hr hD2 hr2 hf hf2 hf3 => by rw [e0, e1, e2, e3] at hO hr hr2 ⊢; exact hk o s rs s2 rs2 g hO hD hr hD2 hr2 (fun x hx t ht => by rw [List.mem_singleton.1 hx]; exact hf t ht) (fun x hx t ht => by rw [List.mem_singleton.1 hx]; exact hf2 t ht) hf3)
  obtain ⟨hsm0, ⟨hsm1, hsm2⟩, hsm3, hsm4⟩ := rbR_small (es := ps.map (·.1)) (fs := p'.map (·.1)) (ss := qs.map (·.1)) (ts := q'.map (·.1)) (xs := xs)
  generalize decide (okRb (ps.map (·.1)) (p'.map (·.1)) (qs.map (·.1)) (q'.map (·.1)) xs.length) = ok at *
  generalize rbR (ps.map (·.1)) (p'.map (·.1)) (qs.map (·.1)) (q'.map (·.1)) xs = y at *
  obtain ⟨yy1, yy2, yy3⟩ := y
  simp only at hsm0 hsm1 hsm2 hsm3 hsm4 cs ci
  have hlo1 : ∀ {rs : List (List Nat × Lf)}, rs.map (·.1) = yy2 → rs.length ≤ 16777216 ∧ szD ssRows rs ≤ 16777216 := fun he => by have := small_of (ro := ssRows) hsm1 hsm2 he; omega
  have hlo2 : ∀ {rs : List (List Nat × Lf)}, rs.map (·.1) = yy3 → rs.length ≤ 16777216 ∧ szD ssRows rs ≤ 16777216 := fun he => by have := small_of (ro := ssRows) hsm3 hsm4 he; omega
  clear hsm1 hsm2 hsm3 hsm4 hnc hnc' hsc hsc' hx
  refine law_of (F := L5) HasLRunBoth.f5 rfl ?_
  by_cases hn5 : xs.length ≤ 1048576
  rotate_left
  · unfold L5
    dsimp only []
    repeat' (first | (simp (disch := first | omega | assumption | (simp only [List.length_set]; omega) | (simp [*] <;> fail) | assumption) [-Bool.decide_and, -Bool.decide_or, -Bool.not_and, -Bool.not_or, toNat_pred, toNat_succ, wrap64, wr_new, wr_new0, ok_if, ok_ifn, iadV_sl, makeV_int, decT, decF, over_at, *, hAl5.len]) | (with_reducible refine Gd_split (fun hc => ?_) (fun hc => ?_) <;> (have hc2 := hc; try simp at hc2)) | (with_reducible refine Br_split (fun hc => ?_) (fun hc => ?_) <;> (have hc2 := hc; try simp at hc2)) | (with_reducible refine GdT_split (fun hc => ?_) (fun hc => ?_) <;> (have hc2 := hc; try simp at hc2)) | (with_reducible refine WT_alt ?_ ?_) | omega)
  have hs0 := fun K lim => c_szEffectS (S := S) (K := K) (lim := lim) hAl hIl (b := 1048576) (by omega) (by omega)
  by_cases hsz0 : (1048576 : Int) < ps.length + szD Eff.nums ps
  · rw [if_pos hsz0] at hs0
    unfold L5
    dsimp only []
    repeat' (first | (simp (disch := first | omega | assumption | (simp only [List.length_set]; omega) | (simp [*] <;> fail) | assumption) [-Bool.decide_and, -Bool.decide_or, -Bool.not_and, -Bool.not_or, toNat_pred, toNat_succ, wrap64, wr_new, wr_new0, ok_if, ok_ifn, iadV_sl, makeV_int, decT, decF, over_at, *, hAl5.len]) | (with_reducible refine Gd_split (fun hc => ?_) (fun hc => ?_) <;> (have hc2 := hc; try simp at hc2)) | (with_reducible refine Br_split (fun hc => ?_) (fun hc => ?_) <;> (have hc2 := hc; try simp at hc2)) | (with_reducible refine GdT_split (fun hc => ?_) (fun hc => ?_) <;> (have hc2 := hc; try simp at hc2)) | (with_reducible refine WT_alt ?_ ?_) | omega)
  rw [if_neg hsz0] at hs0
  have hs1 := fun K lim => c_szEffectS (S := S) (K := K) (lim := lim) hAl2 hIl2 (b := 1048576 - (ps.length + szD Eff.nums ps)) (by omega) (by omega)
  by_cases hsz1 : (1048576 - (ps.length + szD Eff.nums ps) : Int) < p'.length + szD Eff.nums p'
  · rw [if_pos hsz1] at hs1
    unfold L5
    dsimp only []
    repeat' (first | (simp (disch := first | omega | assumption | (simp only [List.length_set]; omega) | (simp [*] <;> fail) | assumption) [-Bool.decide_and, -Bool.decide_or, -Bool.not_and, -Bool.not_or, toNat_pred, toNat_succ, wrap64, wr_new, wr_new0, ok_if, ok_ifn, iadV_sl, makeV_int, decT, decF, over_at, *, hAl5.len]) | (with_reducible refine Gd_split (fun hc => ?_) (fun hc => ?_) <;> (have hc2 := hc; try simp at hc2)) | (with_reducible refine Br_split (fun hc => ?_) (fun hc => ?_) <;> (have hc2 := hc; try simp at hc2)) | (with_reducible refine GdT_split (fun hc => ?_) (fun hc => ?_) <;> (have hc2 := hc; try simp at hc2)) | (with_reducible refine WT_alt ?_ ?_) | omega)
  rw [if_neg hsz1] at hs1
  have hs2 := fun K lim => c_szFloat32SS (S := S) (K := K) (lim := lim) hAl3 hIl3 (b := 1048576 - (ps.length + szD Eff.nums ps) - (p'.length + szD Eff.nums p')) (by omega) (by omega)
  by_cases hsz2 : (1048576 - (ps.length + szD Eff.nums ps) - (p'.length + szD Eff.nums p') : Int) < qs.length + szD ssRows qs
  · rw [if_pos hsz2] at hs2
    unfold L5
    dsimp only []
    repeat' (first | (simp (disch := first | omega | assumption | (simp only [List.length_set]; omega) | (simp [*] <;> fail) | assumption) [-Bool.decide_and, -Bool.decide_or, -Bool.not_and, -Bool.not_or, toNat_pred, toNat_succ, wrap64, wr_new, wr_new0, ok_if, ok_ifn, iadV_sl, makeV_int, decT, decF, over_at, *, hAl5.len]) | (with_reducible refine Gd_split (fun hc => ?_) (fun hc => ?_) <;> (have hc2 := hc; try simp at hc2)) | (with_reducible refine Br_split (fun hc => ?_) (fun hc => ?_) <;> (have hc2 := hc; try simp at hc2)) | (with_reducible refine GdT_split (fun hc => ?_) (fun hc => ?_) <;> (have hc2 := hc; try simp at hc2)) | (with_reducible refine WT_alt ?_ ?_) | omega)
  rw [if_neg hsz2] at hs2
  have hs3 := fun K lim => c_szFloat32SS (S := S) (K := K) (lim := lim) hAl4 hIl4 (b := 1048576 - (ps.length + szD Eff.nums ps) - (p'.length + szD Eff.nums p') - (qs.length + szD ssRows qs)) (by omega) (by omega)
  by_cases hsz3 : (1048576 - (ps.length + szD Eff.nums ps) - (p'.length + szD Eff.nums p') - (qs.length + szD ssRows qs) : Int) < q'.length + szD ssRows q'
  · rw [if_pos hsz3] at hs3
    unfold L5
    dsimp only []
    repeat' (first | (simp (disch := first | omega | assumption | (simp only [List.length_set]; omega) | (simp [*] <;> fail) | assumption) [-Bool.decide_and, -Bool.decide_or, -Bool.not_and, -Bool.not_or, toNat_pred, toNat_succ, wrap64, wr_new, wr_new0, ok_if, ok_ifn, iadV_sl, makeV_int, decT, decF, over_at, *, hAl5.len]) | (with_reducible refine Gd_split (fun hc => ?_) (fun hc => ?_) <;> (have hc2 := hc; try simp at hc2)) | (with_reducible refine Br_split (fun hc => ?_) (fun hc => ?_) <;> (have hc2 := hc; try simp at hc2)) | (with_reducible refine GdT_split (fun hc => ?_) (fun hc => ?_) <;> (have hc2 := hc; try simp at hc2)) | (with_reducible refine WT_alt ?_ ?_) | omega)
  rw [if_neg hsz3] at hs3
  unfold L5
  dsimp only []
  repeat' (first | (simp (disch := first | omega | assumption | (simp only [List.length_set]; omega) | (simp [*] <;> fail) | assumption) [-Bool.decide_and, -Bool.decide_or, -Bool.not_and, -Bool.not_or, toNat_pred, toNat_succ, wrap64, wr_new, wr_new0, ok_if, ok_ifn, iadV_sl, makeV_int, decT, decF, over_at, *, hAl5.len]) | (with_reducible refine Gd_split (fun hc => ?_) (fun hc => ?_) <;> (have hc2 := hc; try simp at hc2)) | (with_reducible refine Br_split (fun hc => ?_) (fun hc => ?_) <;> (have hc2 := hc; try simp at hc2)) | (with_reducible refine GdT_split (fun hc => ?_) (fun hc => ?_) <;> (have hc2 := hc; try simp at hc2)) | (with_reducible refine WT_alt ?_ ?_) | omega)
  have hnl : ps.length ≤ 16777216 := by omega
  have hml : szD Eff.nums ps ≤ 16777216 := by omega
  have hnl2 : p'.length ≤ 16777216 := by omega
  have hml2 : szD Eff.nums p' ≤ 16777216 := by omega
  have hnl3 : qs.length ≤ 16777216 := by omega
  have hml3 : szD ssRows qs ≤ 16777216 := by omega
  have hnl4 : q'.length ≤ 16777216 := by omega
  have hml4 : szD ssRows q' ≤ 16777216 := by omega
  have hnl5 : xs.length ≤ 16777216 := by omega
  clear hs0 hs1 hs2 hs3 hsz0 hsz1 hsz2 hsz3
  refine c_toEffectS (hAl.kept (Kept.refl h)) (hIl.kept (Kept.refl h)) hnl hml (Kept.refl h).1 fun x0 g1 px0 hx0 Ex0 => ?_
  have Bx0 : px0.length ≤ 16777216 ∧ szD Eff.nums px0 ≤ 16777216 := ⟨by rw [map_len Ex0]; omega, by rw [szD_map Ex0]; omega⟩
  have K2 := (Kept.refl h).trans hx0.kept
  have Q2 := hx0.kept.1
  have P2 := K2.1
  have Zx0 := hx0.lvs_lt
  have Nx0 := hx0.base (Kept.refl h)
  repeat' (first | (simp (disch := first | omega | assumption | (simp only [List.length_set]; omega) | (simp [*] <;> fail) | assumption) [-Bool.decide_and, -Bool.decide_or, -Bool.not_and, -Bool.not_or, toNat_pred, toNat_succ, wrap64, wr_new, wr_new0, ok_if, ok_ifn, iadV_sl, makeV_int, decT, decF, over_at, *]) | (with_reducible refine Gd_split (fun hc => ?_) (fun hc => ?_) <;> (have hc2 := hc; try simp at hc2)) | (with_reducible refine Br_split (fun hc => ?_) (fun hc => ?_) <;> (have hc2 := hc; try simp at hc2)) | (with_reducible refine GdT_split (fun hc => ?_) (fun hc => ?_) <;> (have hc2 := hc; try simp at hc2)) | (with_reducible refine WT_alt ?_ ?_) | omega)
  refine c_toEffectS (hAl2.kept K2) (hIl2.kept K2) hnl2 hml2 K2.1 fun x1 g3 px1 hx1 Ex1 => ?_
  have Bx1 : px1.length ≤ 16777216 ∧ szD Eff.nums px1 ≤ 16777216 := ⟨by rw [map_len Ex1]; omega, by rw [szD_map Ex1]; omega⟩
  have K4 := K2.trans hx1.kept
  have Q4 := hx1.kept.1
  have P4 := K4.1
  have Zx1 := hx1.lvs_lt
  have Nx1 := hx1.base K2
  replace Nx0 := Nx0.later hx1.kept
  repeat' (first | (simp (disch := first | omega | assumption | (simp only [List.length_set]; omega) | (simp [*] <;> fail) | assumption) [-Bool.decide_and, -Bool.decide_or, -Bool.not_and, -Bool.not_or, toNat_pred, toNat_succ, wrap64, wr_new, wr_new0, ok_if, ok_ifn, iadV_sl, makeV_int, decT, decF, over_at, *]) | (with_reducible refine Gd_split (fun hc => ?_) (fun hc => ?_) <;> (have hc2 := hc; try simp at hc2)) | (with_reducible refine Br_split (fun hc => ?_) (fun hc => ?_) <;> (have hc2 := hc; try simp at hc2)) | (with_reducible refine GdT_split (fun hc => ?_) (fun hc => ?_) <;> (have hc2 := hc; try simp at hc2)) | (with_reducible refine WT_alt ?_ ?_) | omega)
  refine c_toFloat32SS (hAl3.kept K4) (hIl3.kept K4) hnl3 hml3 K4.1 fun x2 g5 px2 hx2 Ex2 => ?_
  have Bx2 : px2.length ≤ 16777216 ∧ szD ssRows px2 ≤ 16777216 := ⟨by rw [map_len Ex2]; omega, by rw [szD_map Ex2]; omega⟩
  have K6 := K4.trans hx2.kept
  have Q6 := hx2.kept.1
  have P6 := K6.1
  have Zx2 := hx2.lvs_lt
  have Nx2 := hx2.base K4
  replace Nx0 := Nx0.later hx2.kept
  replace Nx1 := Nx1.later hx2.kept
  repeat' (first | (simp (disch := first | omega | assumption | (simp only [List.length_set]; omega) | (simp [*] <;> fail) | assumption) [-Bool.decide_and, -Bool.decide_or, -Bool.not_and, -Bool.not_or, toNat_pred, toNat_succ, wrap64, wr_new, wr_new0, ok_if, ok_ifn, iadV_sl, makeV_int, decT, decF, over_at, *]) | (with_reducible refine Gd_split (fun hc => ?_) (fun hc => ?_) <;> (have hc2 := hc; try simp at hc2)) | (with_reducible refine Br_split (fun hc => ?_) (fun hc => ?_) <;> (have hc2 := hc; try simp at hc2)) | (with_reducible refine GdT_split (fun hc => ?_) (fun hc => ?_) <;> (have hc2 := hc; try simp at hc2)) | (with_reducible refine WT_alt ?_ ?_) | omega)
  refine c_toFloat32SS (hAl4.kept K6) (hIl4.kept K6) hnl4 hml4 K6.1 fun x3 g7 px3 hx3 Ex3 => ?_
  have Bx3 : px3.length ≤ 16777216 ∧ szD ssRows px3 ≤ 16777216 := ⟨by rw [map_len Ex3]; omega, by rw [szD_map Ex3]; omega⟩
  have K8 := K6.trans hx3.kept
  have Q8 := hx3.kept.1
  have P8 := K8.1
  have Zx3 := hx3.lvs_lt
  have Nx3 := hx3.base K6
  replace Nx0 := Nx0.later hx3.kept
  replace Nx1 := Nx1.later hx3.kept
  replace Nx2 := Nx2.later hx3.kept
  repeat' (first | (simp (disch := first | omega | assumption | (simp only [List.length_set]; omega) | (simp [*] <;> fail) | assumption) [-Bool.decide_and, -Bool.decide_or, -Bool.not_and, -Bool.not_or, toNat_pred, toNat_succ, wrap64, wr_new, wr_new0, ok_if, ok_ifn, iadV_sl, makeV_int, decT, decF, over_at, *]) | (with_reducible refine Gd_split (fun hc => ?_) (fun hc => ?_) <;> (have hc2 := hc; try simp at hc2)) | (with_reducible refine Br_split (fun hc => ?_) (fun hc => ?_) <;> (have hc2 := hc; try simp at hc2)) | (with_reducible refine GdT_split (fun hc => ?_) (fun hc => ?_) <;> (have hc2 := hc; try simp at hc2)) | (with_reducible refine WT_alt ?_ ?_) | omega)
  refine c_toFloat32S (hAl5.kept K8) hnl5 K8.1 fun x4 g9 hx4 => ?_
  have K10 := K8.trans hx4.kept
  have Q10 := hx4.kept.1
  have P10 := K10.1
  have Zx4 := hx4.foot
  have Nx4 := hx4.base K8
  replace Nx0 := Nx0.later hx4.kept
  replace Nx1 := Nx1.later hx4.kept
  replace Nx2 := Nx2.later hx4.kept
  replace Nx3 := Nx3.later hx4.kept
  repeat' (first | (simp (disch := first | omega | assumption | (simp only [List.length_set]; omega) | (simp [*] <;> fail) | assumption) [-Bool.decide_and, -Bool.decide_or, -Bool.not_and, -Bool.not_or, toNat_pred, toNat_succ, wrap64, wr_new, wr_new0, ok_if, ok_ifn, iadV_sl, makeV_int, decT, decF, over_at, *]) | (with_reducible refine Gd_split (fun hc => ?_) (fun hc => ?_) <;> (have hc2 := hc; try simp at hc2)) | (with_reducible refine Br_split (fun hc => ?_) (fun hc => ?_) <;> (have hc2 := hc; try simp at hc2)) | (with_reducible refine GdT_split (fun hc => ?_) (fun hc => ?_) <;> (have hc2 := hc; try simp at hc2)) | (with_reducible refine WT_alt ?_ ?_) | omega)
  refine cs Nx0 Ex0 Nx1 Ex1 Nx2 Ex2 Nx3 Ex3 Nx4 K10.1 fun s0 s1 ps1 s2 ps2 g11 hs0 hs1 Es1 hs2 Es2 Fs0s1 Fs0s2 Fs1s2 => ?_
  have Bs1 := hlo1 Es1
  have Bs2 := hlo2 Es2
  have K12 := K10.trans hs0.kept
  have Q12 := hs0.kept.1
  have P12 := K12.1
  have Zs0 := hs0.foot
  have Ns0 := hs0.base K10
  have Zs1 := hs1.lvs_lt
  have Ns1 := hs1.base K10
  have Zs2 := hs2.lvs_lt
  have Ns2 := hs2.base K10
  replace Nx0 := Nx0.later hs0.kept
  replace Nx1 := Nx1.later hs0.kept
  replace Nx2 := Nx2.later hs0.kept
  replace Nx3 := Nx3.later hs0.kept
  replace Nx4 := Nx4.later hs0.kept
  repeat' (first | (simp (disch := first | omega | assumption | (simp only [List.length_set]; omega) | (simp [*] <;> fail) | assumption) [-Bool.decide_and, -Bool.decide_or, -Bool.not_and, -Bool.not_or, toNat_pred, toNat_succ, wrap64, wr_new, wr_new0, ok_if, ok_ifn, iadV_sl, makeV_int, decT, decF, over_at, *]) | (with_reducible refine Gd_split (fun hc => ?_) (fun hc => ?_) <;> (have hc2 := hc; try simp at hc2)) | (with_reducible refine Br_split (fun hc => ?_) (fun hc => ?_) <;> (have hc2 := hc; try simp at hc2)) | (with_reducible refine GdT_split (fun hc => ?_) (fun hc => ?_) <;> (have hc2 := hc; try simp at hc2)) | (with_reducible refine WT_alt ?_ ?_) | omega)
  refine c_toEffectS (hAl.kept K12) (hIl.kept K12) hnl hml K12.1 fun a0 g13 pa0 ha0 Ea0 => ?_
  have Ba0 : pa0.length ≤ 16777216 ∧ szD Eff.nums pa0 ≤ 16777216 := ⟨by rw [map_len Ea0]; omega, by rw [szD_map Ea0]; omega⟩
  have K14 := K12.trans ha0.kept
  have Q14 := ha0.kept.1
  have P14 := K14.1
  have Za0 := ha0.lvs_lt
  have Na0 := ha0.base K12
  replace Ns0 := Ns0.later ha0.kept
  replace Ns1 := Ns1.later ha0.kept
  replace Ns2 := Ns2.later ha0.kept
  repeat' (first | (simp (disch := first | omega | assumption | (simp only [List.length_set]; omega) | (simp [*] <;> fail) | assumption) [-Bool.decide_and, -Bool.decide_or, -Bool.not_and, -Bool.not_or, toNat_pred, toNat_succ, wrap64, wr_new, wr_new0, ok_if, ok_ifn, iadV_sl, makeV_int, decT, decF, over_at, *]) | (with_reducible refine Gd_split (fun hc => ?_) (fun hc => ?_) <;> (have hc2 := hc; try simp at hc2)) | (with_reducible refine Br_split (fun hc => ?_) (fun hc => ?_) <;> (have hc2 := hc; try simp at hc2)) | (with_reducible refine GdT_split (fun hc => ?_) (fun hc => ?_) <;> (have hc2 := hc; try simp at hc2)) | (with_reducible refine WT_alt ?_ ?_) | omega)
  refine c_toEffectS (hAl2.kept K14) (hIl2.kept K14) hnl2 hml2 K14.1 fun a1 g15 pa1 ha1 Ea1 => ?_
  have Ba1 : pa1.length ≤ 16777216 ∧ szD Eff.nums pa1 ≤ 16777216 := ⟨by rw [map_len Ea1]; omega, by rw [szD_map Ea1]; omega⟩
  have K16 := K14.trans ha1.kept
  have Q16 := ha1.kept.1
  have P16 := K16.1
  have Za1 := ha1.lvs_lt
  have Na1 := ha1.base K14
  replace Ns0 := Ns0.later ha1.kept
  replace Ns1 := Ns1.later ha1.kept
  replace Ns2 := Ns2.later ha1.kept
  replace Na0 := Na0.later ha1.kept
  repeat' (first | (simp (disch := first | omega | assumption | (simp only [List.length_set]; omega) | (simp [*] <;> fail) | assumption) [-Bool.decide_and, -Bool.decide_or, -Bool.not_and, -Bool.not_or, toNat_pred, toNat_succ, wrap64, wr_new, wr_new0, ok_if, ok_ifn, iadV_sl, makeV_int, decT, decF, over_at, *]) | (with_reducible refine Gd_split (fun hc => ?_) (fun hc => ?_) <;> (have hc2 := hc; try simp at hc2)) | (with_reducible refine Br_split (fun hc => ?_) (fun hc => ?_) <;> (have hc2 := hc; try simp at hc2)) | (with_reducible refine GdT_split (fun hc => ?_) (fun hc => ?_) <;> (have hc2 := hc; try simp at hc2)) | (with_reducible refine WT_alt ?_ ?_) | omega)
  refine c_toFloat32SS (hAl3.kept K16) (hIl3.kept K16) hnl3 hml3 K16.1 fun a2 g17 pa2 ha2 Ea2 => ?_
  have Ba2 : pa2.length ≤ 16777216 ∧ szD ssRows pa2 ≤ 16777216 := ⟨by rw [map_len Ea2]; omega, by rw [szD_map Ea2]; omega⟩
  have K18 := K16.trans ha2.kept
  have Q18 := ha2.kept.1
  have P18 := K18.1
  have Za2 := ha2.lvs_lt
  have Na2 := ha2.base K16
  replace Ns0 := Ns0.later ha2.kept
  replace Ns1 := Ns1.later ha2.kept
  replace Ns2 := Ns2.later ha2.kept
  replace Na0 := Na0.later ha2.kept
  replace Na1 := Na1.later ha2.kept
  repeat' (first | (simp (disch := first | omega | assumption | (simp only [List.length_set]; omega) | (simp [*] <;> fail) | assumption) [-Bool.decide_and, -Bool.decide_or, -Bool.not_and, -Bool.not_or, toNat_pred, toNat_succ, wrap64, wr_new, wr_new0, ok_if, ok_ifn, iadV_sl, makeV_int, decT, decF, over_at, *]) | (with_reducible refine Gd_split (fun hc => ?_) (fun hc => ?_) <;> (have hc2 := hc; try simp at hc2)) | (with_reducible refine Br_split (fun hc => ?_) (fun hc => ?_) <;> (have hc2 := hc; try simp at hc2)) | (with_reducible refine GdT_split (fun hc => ?_) (fun hc => ?_) <;> (have hc2 := hc; try simp at hc2)) | (with_reducible refine WT_alt ?_ ?_) | omega)
  refine c_toFloat32SS (hAl4.kept K18) (hIl4.kept K18) hnl4 hml4 K18.1 fun a3 g19 pa3 ha3 Ea3 => ?_
  have Ba3 : pa3.length ≤ 16777216 ∧ szD ssRows pa3 ≤ 16777216 := ⟨by rw [map_len Ea3]; omega, by rw [szD_map Ea3]; omega⟩
  have K20 := K18.trans ha3.kept
  have Q20 := ha3.kept.1
  have P20 := K20.1
  have Za3 := ha3.lvs_lt
  have Na3 := ha3.base K18
  replace Ns0 := Ns0.later ha3.kept
  replace Ns1 := Ns1.later ha3.kept
  replace Ns2 := Ns2.later ha3.kept
  replace Na0 := Na0.later ha3.kept
  replace Na1 := Na1.later ha3.kept
  replace Na2 := Na2.later ha3.kept
  repeat' (first | (simp (disch := first | omega | assumption | (simp only [List.length_set]; omega) | (simp [*] <;> fail) | assumption) [-Bool.decide_and, -Bool.decide_or, -Bool.not_and, -Bool.not_or, toNat_pred, toNat_succ, wrap64, wr_new, wr_new0, ok_if, ok_ifn, iadV_sl, makeV_int, decT, decF, over_at, *]) | (with_reducible refine Gd_split (fun hc => ?_) (fun hc => ?_) <;> (have hc2 := hc; try simp at hc2)) | (with_reducible refine Br_split (fun hc => ?_) (fun hc => ?_) <;> (have hc2 := hc; try simp at hc2)) | (with_reducible refine GdT_split (fun hc => ?_) (fun hc => ?_) <;> (have hc2 := hc; try simp at hc2)) | (with_reducible refine WT_alt ?_ ?_) | omega)
  refine c_toFloat32S (hAl5.kept K20) hnl5 K20.1 fun a4 g21 ha4 => ?_
  have K22 := K20.trans ha4.kept
  have Q22 := ha4.kept.1
  have P22 := K22.1
  have Za4 := ha4.foot
  have Na4 := ha4.base K20
  replace Ns0 := Ns0.later ha4.kept
  replace Ns1 := Ns1.later ha4.kept
  replace Ns2 := Ns2.later ha4.kept
  replace Na0 := Na0.later ha4.kept
  replace Na1 := Na1.later ha4.kept
  replace Na2 := Na2.later ha4.kept
  replace Na3 := Na3.later ha4.kept
  repeat' (first | (simp (disch := first | omega | assumption | (simp only [List.length_set]; omega) | (simp [*] <;> fail) | assumption) [-Bool.decide_and, -Bool.decide_or, -Bool.not_and, -Bool.not_or, toNat_pred, toNat_succ, wrap64, wr_new, wr_new0, ok_if, ok_ifn, iadV_sl, makeV_int, decT, decF, over_at, *]) | (with_reducible refine Gd_split (fun hc => ?_) (fun hc => ?_) <;> (have hc2 := hc; try simp at hc2)) | (with_reducible refine Br_split (fun hc => ?_) (fun hc => ?_) <;> (have hc2 := hc; try simp at hc2)) | (with_reducible refine GdT_split (fun hc => ?_) (fun hc => ?_) <;> (have hc2 := hc; try simp at hc2)) | (with_reducible refine WT_alt ?_ ?_) | omega)
  refine ci Na0 Ea0 Na1 Ea1 Na2 Ea2 Na3 Ea3 Na4 K22.1 fun r0 r1 pr1 r2 pr2 g23 hr0 hr1 Er1 hr2 Er2 Fr0r1 Fr0r2 Fr1r2 => ?_
  have Br1 := hlo1 Er1
  have Br2 := hlo2 Er2
  have K24 := K22.trans hr0.kept
  have Q24 := hr0.kept.1
  have P24 := K24.1
  have Zr0 := hr0.foot
  have Nr0 := hr0.base K22
  have Zr1 := hr1.lvs_lt
  have Nr1 := hr1.base K22
  have Zr2 := hr2.lvs_lt
  have Nr2 := hr2.base K22
  replace Ns0 := Ns0.later hr0.kept
  replace Ns1 := Ns1.later hr0.kept
  replace Ns2 := Ns2.later hr0.kept
  replace Na0 := Na0.later hr0.kept
  replace Na1 := Na1.later hr0.kept
  replace Na2 := Na2.later hr0.kept
  replace Na3 := Na3.later hr0.kept
  replace Na4 := Na4.later hr0.kept
  repeat' (first | (simp (disch := first | omega | assumption | (simp only [List.length_set]; omega) | (simp [*] <;> fail) | assumption) [-Bool.decide_and, -Bool.decide_or, -Bool.not_and, -Bool.not_or, toNat_pred, toNat_succ, wrap64, wr_new, wr_new0, ok_if, ok_ifn, iadV_sl, makeV_int, decT, decF, over_at, *, c_eqFloat32S Nr0.arr Ns0.arr, c_eqFloat32SS Nr1.arr Nr1.ins Ns1.arr Ns1.ins (Es1.trans Er1.symm), c_eqFloat32SS Nr2.arr Nr2.ins Ns2.arr Ns2.ins (Es2.trans Er2.symm)]) | (with_reducible refine Gd_split (fun hc => ?_) (fun hc => ?_) <;> (have hc2 := hc; try simp at hc2)) | (with_reducible refine Br_split (fun hc => ?_) (fun hc => ?_) <;> (have hc2 := hc; try simp at hc2)) | (with_reducible refine GdT_split (fun hc => ?_) (fun hc => ?_) <;> (have hc2 := hc; try simp at hc2)) | (with_reducible refine WT_alt ?_ ?_) | omega)
  refine c_toEffectS (hAl.kept K24) (hIl.kept K24) hnl hml K24.1 fun y0 g25 py0 hy0 Ey0 => ?_
  have By0 : py0.length ≤ 16777216 ∧ szD Eff.nums py0 ≤ 16777216 := ⟨by rw [map_len Ey0]; omega, by rw [szD_map Ey0]; omega⟩
  have K26 := K24.trans hy0.kept
  have Q26 := hy0.kept.1
  have P26 := K26.1
  have Zy0 := hy0.lvs_lt
  have Ny0 := hy0.base K24
  replace Ns0 := Ns0.later hy0.kept
  replace Ns1 := Ns1.later hy0.kept
  replace Ns2 := Ns2.later hy0.kept
  replace Na0 := Na0.later hy0.kept
  replace Na1 := Na1.later hy0.kept
  replace Na2 := Na2.later hy0.kept
  replace Na3 := Na3.later hy0.kept
  replace Na4 := Na4.later hy0.kept
  replace Nr0 := Nr0.later hy0.kept
  replace Nr1 := Nr1.later hy0.kept
  replace Nr2 := Nr2.later hy0.kept
  repeat' (first | (simp (disch := first | omega | assumption | (simp only [List.length_set]; omega) | (simp [*] <;> fail) | assumption) [-Bool.decide_and, -Bool.decide_or, -Bool.not_and, -Bool.not_or, toNat_pred, toNat_succ, wrap64, wr_new, wr_new0, ok_if, ok_ifn, iadV_sl, makeV_int, decT, decF, over_at, *, c_eqEffectS Na0.arr Na0.ins Ny0.arr Ny0.ins (Ey0.trans Ea0.symm)]) | (with_reducible refine Gd_split (fun hc => ?_) (fun hc => ?_) <;> (have hc2 := hc; try simp at hc2)) | (with_reducible refine Br_split (fun hc => ?_) (fun hc => ?_) <;> (have hc2 := hc; try simp at hc2)) | (with_reducible refine GdT_split (fun hc => ?_) (fun hc => ?_) <;> (have hc2 := hc; try simp at hc2)) | (with_reducible refine WT_alt ?_ ?_) | omega)
  refine c_toEffectS (hAl2.kept K26) (hIl2.kept K26) hnl2 hml2 K26.1 fun y1 g27 py1 hy1 Ey1 => ?_
  have By1 : py1.length ≤ 16777216 ∧ szD Eff.nums py1 ≤ 16777216 := ⟨by rw [map_len Ey1]; omega, by rw [szD_map Ey1]; omega⟩
  have K28 := K26.trans hy1.kept
  have Q28 := hy1.kept.1
  have P28 := K28.1
  have Zy1 := hy1.lvs_lt
  have Ny1 := hy1.base K26
  replace Ns0 := Ns0.later hy1.kept
  replace Ns1 := Ns1.later hy1.kept
  replace Ns2 := Ns2.later hy1.kept
  replace Na0 := Na0.later hy1.kept
  replace Na1 := Na1.later hy1.kept
  replace Na2 := Na2.later hy1.kept
  replace Na3 := Na3.later hy1.kept
  replace Na4 := Na4.later hy1.kept
  replace Nr0 := Nr0.later hy1.kept
  replace Nr1 := Nr1.later hy1.kept
  replace Nr2 := Nr2.later hy1.kept
  repeat' (first | (simp (disch := first | omega | assumption | (simp only [List.length_set]; omega) | (simp [*] <;> fail) | assumption) [-Bool.decide_and, -Bool.decide_or, -Bool.not_and, -Bool.not_or, toNat_pred, toNat_succ, wrap64, wr_new, wr_new0, ok_if, ok_ifn, iadV_sl, makeV_int, decT, decF, over_at, *, c_eqEffectS Na1.arr Na1.ins Ny1.arr Ny1.ins (Ey1.trans Ea1.symm)]) | (with_reducible refine Gd_split (fun hc => ?_) (fun hc => ?_) <;> (have hc2 := hc; try simp at hc2)) | (with_reducible refine Br_split (fun hc => ?_) (fun hc => ?_) <;> (have hc2 := hc; try simp at hc2)) | (with_reducible refine GdT_split (fun hc => ?_) (fun hc => ?_) <;> (have hc2 := hc; try simp at hc2)) | (with_reducible refine WT_alt ?_ ?_) | omega)
  refine c_toFloat32SS (hAl3.kept K28) (hIl3.kept K28) hnl3 hml3 K28.1 fun y2 g29 py2 hy2 Ey2 => ?_
  have By2 : py2.length ≤ 16777216 ∧ szD ssRows py2 ≤ 16777216 := ⟨by rw [map_len Ey2]; omega, by rw [szD_map Ey2]; omega⟩
  have K30 := K28.trans hy2.kept
  have Q30 := hy2.kept.1
  have P30 := K30.1
  have Zy2 := hy2.lvs_lt
  have Ny2 := hy2.base K28
  replace Ns0 := Ns0.later hy2.kept
  replace Ns1 := Ns1.later hy2.kept
  replace Ns2 := Ns2.later hy2.kept
  replace Na0 := Na0.later hy2.kept
  replace Na1 := Na1.later hy2.kept
  replace Na2 := Na2.later hy2.kept
  replace Na3 := Na3.later hy2.kept
  replace Na4 := Na4.later hy2.kept
  replace Nr0 := Nr0.later hy2.kept
  replace Nr1 := Nr1.later hy2.kept
  replace Nr2 := Nr2.later hy2.kept
  repeat' (first | (simp (disch := first | omega | assumption | (simp only [List.length_set]; omega) | (simp [*] <;> fail) | assumption) [-Bool.decide_and, -Bool.decide_or, -Bool.not_and, -Bool.not_or, toNat_pred, toNat_succ, wrap64, wr_new, wr_new0, ok_if, ok_ifn, iadV_sl, makeV_int, decT, decF, over_at, *, c_eqFloat32SS Na2.arr Na2.ins Ny2.arr Ny2.ins (Ey2.trans Ea2.symm)]) | (with_reducible refine Gd_split (fun hc => ?_) (fun hc => ?_) <;> (have hc2 := hc; try simp at hc2)) | (with_reducible refine Br_split (fun hc => ?_) (fun hc => ?_) <;> (have hc2 := hc; try simp at hc2)) | (with_reducible refine GdT_split (fun hc => ?_) (fun hc => ?_) <;> (have hc2 := hc; try simp at hc2)) | (with_reducible refine WT_alt ?_ ?_) | omega)
  refine c_toFloat32SS (hAl4.kept K30) (hIl4.kept K30) hnl4 hml4 K30.1 fun y3 g31 py3 hy3 Ey3 => ?_
  have By3 : py3.length ≤ 16777216 ∧ szD ssRows py3 ≤ 16777216 := ⟨by rw [map_len Ey3]; omega, by rw [szD_map Ey3]; omega⟩
  have K32 := K30.trans hy3.kept
  have Q32 := hy3.kept.1
  have P32 := K32.1
  have Zy3 := hy3.lvs_lt
  have Ny3 := hy3.base K30
  replace Ns0 := Ns0.later hy3.kept
  replace Ns1 := Ns1.later hy3.kept
  replace Ns2 := Ns2.later hy3.kept
  replace Na0 := Na0.later hy3.kept
  replace Na1 := Na1.later hy3.kept
  replace Na2 := Na2.later hy3.kept
  replace Na3 := Na3.later hy3.kept
  replace Na4 := Na4.later hy3.kept
  replace Nr0 := Nr0.later hy3.kept
  replace Nr1 := Nr1.later hy3.kept
  replace Nr2 := Nr2.later hy3.kept
  repeat' (first | (simp (disch := first | omega | assumption | (simp only [List.length_set]; omega) | (simp [*] <;> fail) | assumption) [-Bool.decide_and, -Bool.decide_or, -Bool.not_and, -Bool.not_or, toNat_pred, toNat_succ, wrap64, wr_new, wr_new0, ok_if, ok_ifn, iadV_sl, makeV_int, decT, decF, over_at, *, c_eqFloat32SS Na3.arr Na3.ins Ny3.arr Ny3.ins (Ey3.trans Ea3.symm)]) | (with_reducible refine Gd_split (fun hc => ?_) (fun hc => ?_) <;> (have hc2 := hc; try simp at hc2)) | (with_reducible refine Br_split (fun hc => ?_) (fun hc => ?_) <;> (have hc2 := hc; try simp at hc2)) | (with_reducible refine GdT_split (fun hc => ?_) (fun hc => ?_) <;> (have hc2 := hc; try simp at hc2)) | (with_reducible refine WT_alt ?_ ?_) | omega)
  refine c_toFloat32S (hAl5.kept K32) hnl5 K32.1 fun y4 g33 hy4 => ?_
  have K34 := K32.trans hy4.kept
  have Q34 := hy4.kept.1
  have P34 := K34.1
  have Zy4 := hy4.foot
  have Ny4 := hy4.base K32
  replace Ns0 := Ns0.later hy4.kept
  replace Ns1 := Ns1.later hy4.kept
  replace Ns2 := Ns2.later hy4.kept
  replace Na0 := Na0.later hy4.kept
  replace Na1 := Na1.later hy4.kept
  replace Na2 := Na2.later hy4.kept
  replace Na3 := Na3.later hy4.kept
  replace Na4 := Na4.later hy4.kept
  replace Nr0 := Nr0.later hy4.kept
  replace Nr1 := Nr1.later hy4.kept
  replace Nr2 := Nr2.later hy4.kept
  repeat' (first | (simp (disch := first | omega | assumption | (simp only [List.length_set]; omega) | (simp [*] <;> fail) | assumption) [-Bool.decide_and, -Bool.decide_or, -Bool.not_and, -Bool.not_or, toNat_pred, toNat_succ, wrap64, wr_new, wr_new0, ok_if, ok_ifn, iadV_sl, makeV_int, decT, decF, over_at, *, c_eqFloat32S Na4.arr Ny4.arr]) | (with_reducible refine Gd_split (fun hc => ?_) (fun hc => ?_) <;> (have hc2 := hc; try simp at hc2)) | (with_reducible refine Br_split (fun hc => ?_) (fun hc => ?_) <;> (have hc2 := hc; try simp at hc2)) | (with_reducible refine GdT_split (fun hc => ?_) (fun hc => ?_) <;> (have hc2 := hc; try simp at hc2)) | (with_reducible refine WT_alt ?_ ?_) | omega)
  refine c_markEffectS Na0 (by omega) (by have := Ba0; rw [kAt_all (ro := Eff.nums) (c := 2) (k := 1) (ps := pa0)]; omega) Ba0.1 Ba0.2 (Nat.le_refl _) fun g35 hM35 hB35 => ?_
  have O35 : ∀ s ∈ lvs a0 pa0, s ≠ .nils → h.length ≤ s.id := fun s hs q => by have := Za0 s hs q; omega
  have Q35 := hB35.len
  have K35 := hB35.kept K34 O35
  replace Ns0 := hB35.new Ns0 O35 (fun s hs => ((fun s hs t ht q1 q2 e => by have := Za0 s hs q1; have := Zs0 t ht q2; omega) : ∀ s ∈ lvs a0 pa0, ∀ t ∈ [s0], Far s t) s hs s0 (List.mem_singleton.2 rfl))
  replace Ns1 := hB35.newD Ns1 O35 (fun s hs t ht q1 q2 e => by have := Za0 s hs q1; have := Zs1 t ht q2; omega)
  replace Ns2 := hB35.newD Ns2 O35 (fun s hs t ht q1 q2 e => by have := Za0 s hs q1; have := Zs2 t ht q2; omega)
  replace Na1 := hB35.newD Na1 O35 (fun s hs t ht q1 q2 e => by have := Za0 s hs q1; have := Za1 t ht q2; omega)
  replace Na2 := hB35.newD Na2 O35 (fun s hs t ht q1 q2 e => by have := Za0 s hs q1; have := Za2 t ht q2; omega)
  replace Na3 := hB35.newD Na3 O35 (fun s hs t ht q1 q2 e => by have := Za0 s hs q1; have := Za3 t ht q2; omega)
  replace Na4 := hB35.new Na4 O35 (fun s hs => ((fun s hs t ht q1 q2 e => by have := Za0 s hs q1; have := Za4 t ht q2; omega) : ∀ s ∈ lvs a0 pa0, ∀ t ∈ [a4], Far s t) s hs a4 (List.mem_singleton.2 rfl))
  replace Nr0 := hB35.new Nr0 O35 (fun s hs => ((fun s hs t ht q1 q2 e => by have := Za0 s hs q1; have := Zr0 t ht q2; omega) : ∀ s ∈ lvs a0 pa0, ∀ t ∈ [r0], Far s t) s hs r0 (List.mem_singleton.2 rfl))
  replace Nr1 := hB35.newD Nr1 O35 (fun s hs t ht q1 q2 e => by have := Za0 s hs q1; have := Zr1 t ht q2; omega)
  replace Nr2 := hB35.newD Nr2 O35 (fun s hs t ht q1 q2 e => by have := Za0 s hs q1; have := Zr2 t ht q2; omega)
  have V35 : 1 ≤ kAt Eff.nums 2 1 pa0 pa0.length ∧ kAt Eff.nums 2 1 pa0 pa0.length ≤ 1 + 2 * 16777216 + 16777216 := by have := Ba0; rw [kAt_all (ro := Eff.nums) (c := 2) (k := 1) (ps := pa0)]; omega
  replace Na0 := hM35
  repeat' (first | (simp (disch := first | omega | assumption | (simp only [List.length_set]; omega) | (simp [*] <;> fail) | assumption) [-Bool.decide_and, -Bool.decide_or, -Bool.not_and, -Bool.not_or, toNat_pred, toNat_succ, wrap64, wr_new, wr_new0, ok_if, ok_ifn, iadV_sl, makeV_int, decT, decF, over_at, *]) | (with_reducible refine Gd_split (fun hc => ?_) (fun hc => ?_) <;> (have hc2 := hc; try simp at hc2)) | (with_reducible refine Br_split (fun hc => ?_) (fun hc => ?_) <;> (have hc2 := hc; try simp at hc2)) | (with_reducible refine GdT_split (fun hc => ?_) (fun hc => ?_) <;> (have hc2 := hc; try simp at hc2)) | (with_reducible refine WT_alt ?_ ?_) | omega)
  refine c_markEffectS Na1 (by omega) (by have := Ba1; rw [kAt_all (ro := Eff.nums) (c := 2) (k := (kAt Eff.nums 2 1 pa0 pa0.length)) (ps := pa1)]; omega) Ba1.1 Ba1.2 (Nat.le_refl _) fun g36 hM36 hB36 => ?_
  have O36 : ∀ s ∈ lvs a1 pa1, s ≠ .nils → h.length ≤ s.id := fun s hs q => by have := Za1 s hs q; omega
  have Q36 := hB36.len
  have K36 := hB36.kept K35 O36
  replace Ns0 := hB36.new Ns0 O36 (fun s hs => ((fun s hs t ht q1 q2 e => by have := Za1 s hs q1; have := Zs0 t ht q2; omega) : ∀ s ∈ lvs a1 pa1, ∀ t ∈ [s0], Far s t) s hs s0 (List.mem_singleton.2 rfl))
  replace Ns1 := hB36.newD Ns1 O36 (fun s hs t ht q1 q2 e => by have := Za1 s hs q1; have := Zs1 t ht q2; omega)
  replace Ns2 := hB36.newD Ns2 O36 (fun s hs t ht q1 q2 e => by have := Za1 s hs q1; have := Zs2 t ht q2; omega)
  replace Na2 := hB36.newD Na2 O36 (fun s hs t ht q1 q2 e => by have := Za1 s hs q1; have := Za2 t ht q2; omega)
  replace Na3 := hB36.newD Na3 O36 (fun s hs t ht q1 q2 e => by have := Za1 s hs q1; have := Za3 t ht q2; omega)
  replace Na4 := hB36.new Na4 O36 (fun s hs => ((fun s hs t ht q1 q2 e => by have := Za1 s hs q1; have := Za4 t ht q2; omega) : ∀ s ∈ lvs a1 pa1, ∀ t ∈ [a4], Far s t) s hs a4 (List.mem_singleton.2 rfl))
  replace Nr0 := hB36.new Nr0 O36 (fun s hs => ((fun s hs t ht q1 q2 e => by have := Za1 s hs q1; have := Zr0 t ht q2; omega) : ∀ s ∈ lvs a1 pa1, ∀ t ∈ [r0], Far s t) s hs r0 (List.mem_singleton.2 rfl))
  replace Nr1 := hB36.newD Nr1 O36 (fun s hs t ht q1 q2 e => by have := Za1 s hs q1; have := Zr1 t ht q2; omega)
  replace Nr2 := hB36.newD Nr2 O36 (fun s hs t ht q1 q2 e => by have := Za1 s hs q1; have := Zr2 t ht q2; omega)
  have V36 : (kAt Eff.nums 2 1 pa0 pa0.length) ≤ kAt Eff.nums 2 (kAt Eff.nums 2 1 pa0 pa0.length) pa1 pa1.length ∧ kAt Eff.nums 2 (kAt Eff.nums 2 1 pa0 pa0.length) pa1 pa1.length ≤ (kAt Eff.nums 2 1 pa0 pa0.length) + 2 * 16777216 + 16777216 := by have := Ba1; rw [kAt_all (ro := Eff.nums) (c := 2) (k := (kAt Eff.nums 2 1 pa0 pa0.length)) (ps := pa1)]; omega
  replace Na1 := hM36
  repeat' (first | (simp (disch := first | omega | assumption | (simp only [List.length_set]; omega) | (simp [*] <;> fail) | assumption) [-Bool.decide_and, -Bool.decide_or, -Bool.not_and, -Bool.not_or, toNat_pred, toNat_succ, wrap64, wr_new, wr_new0, ok_if, ok_ifn, iadV_sl, makeV_int, decT, decF, over_at, *]) | (with_reducible refine Gd_split (fun hc => ?_) (fun hc => ?_) <;> (have hc2 := hc; try simp at hc2)) | (with_reducible refine Br_split (fun hc => ?_) (fun hc => ?_) <;> (have hc2 := hc; try simp at hc2)) | (with_reducible refine GdT_split (fun hc => ?_) (fun hc => ?_) <;> (have hc2 := hc; try simp at hc2)) | (with_reducible refine WT_alt ?_ ?_) | omega)
  refine c_markFloat32SS Na2 (by omega) (by have := Ba2; rw [kAt_all (ro := ssRows) (c := 0) (k := (kAt Eff.nums 2 (kAt Eff.nums 2 1 pa0 pa0.length) pa1 pa1.length)) (ps := pa2)]; omega) Ba2.1 Ba2.2 (Nat.le_refl _) fun g37 hM37 hB37 => ?_
  have O37 : ∀ s ∈ lvs a2 pa2, s ≠ .nils → h.length ≤ s.id := fun s hs q => by have := Za2 s hs q; omega
  have Q37 := hB37.len
  have K37 := hB37.kept K36 O37
  replace Ns0 := hB37.new Ns0 O37 (fun s hs => ((fun s hs t ht q1 q2 e => by have := Za2 s hs q1; have := Zs0 t ht q2; omega) : ∀ s ∈ lvs a2 pa2, ∀ t ∈ [s0], Far s t) s hs s0 (List.mem_singleton.2 rfl))
  replace Ns1 := hB37.newD Ns1 O37 (fun s hs t ht q1 q2 e => by have := Za2 s hs q1; have := Zs1 t ht q2; omega)
  replace Ns2 := hB37.newD Ns2 O37 (fun s hs t ht q1 q2 e => by have := Za2 s hs q1; have := Zs2 t ht q2; omega)
  replace Na3 := hB37.newD Na3 O37 (fun s hs t ht q1 q2 e => by have := Za2 s hs q1; have := Za3 t ht q2; omega)
  replace Na4 := hB37.new Na4 O37 (fun s hs => ((fun s hs t ht q1 q2 e => by have := Za2 s hs q1; have := Za4 t ht q2; omega) : ∀ s ∈ lvs a2 pa2, ∀ t ∈ [a4], Far s t) s hs a4 (List.mem_singleton.2 rfl))
  replace Nr0 := hB37.new Nr0 O37 (fun s hs => ((fun s hs t ht q1 q2 e => by have := Za2 s hs q1; have := Zr0 t ht q2; omega) : ∀ s ∈ lvs a2 pa2, ∀ t ∈ [r0], Far s t) s hs r0 (List.mem_singleton.2 rfl))
  replace Nr1 := hB37.newD Nr1 O37 (fun s hs t ht q1 q2 e => by have := Za2 s hs q1; have := Zr1 t ht q2; omega)
  replace Nr2 := hB37.newD Nr2 O37 (fun s hs t ht q1 q2 e => by have := Za2 s hs q1; have := Zr2 t ht q2; omega)
  have V37 : (kAt Eff.nums 2 (kAt Eff.nums 2 1 pa0 pa0.length) pa1 pa1.length) ≤ kAt ssRows 0 (kAt Eff.nums 2 (kAt Eff.nums 2 1 pa0 pa0.length) pa1 pa1.length) pa2 pa2.length ∧ kAt ssRows 0 (kAt Eff.nums 2 (kAt Eff.nums 2 1 pa0 pa0.length) pa1 pa1.length) pa2 pa2.length ≤ (kAt Eff.nums 2 (kAt Eff.nums 2 1 pa0 pa0.length) pa1 pa1.length) + 0 * 16777216 + 16777216 := by have := Ba2; rw [kAt_all (ro := ssRows) (c := 0) (k := (kAt Eff.nums 2 (kAt Eff.nums 2 1 pa0 pa0.length) pa1 pa1.length)) (ps := pa2)]; omega
  replace Na2 := hM37
  repeat' (first | (simp (disch := first | omega | assumption | (simp only [List.length_set]; omega) | (simp [*] <;> fail) | assumption) [-Bool.decide_and, -Bool.decide_or, -Bool.not_and, -Bool.not_or, toNat_pred, toNat_succ, wrap64, wr_new, wr_new0, ok_if, ok_ifn, iadV_sl, makeV_int, decT, decF, over_at, *]) | (with_reducible refine Gd_split (fun hc => ?_) (fun hc => ?_) <;> (have hc2 := hc; try simp at hc2)) | (with_reducible refine Br_split (fun hc => ?_) (fun hc => ?_) <;> (have hc2 := hc; try simp at hc2)) | (with_reducible refine GdT_split (fun hc => ?_) (fun hc => ?_) <;> (have hc2 := hc; try simp at hc2)) | (with_reducible refine WT_alt ?_ ?_) | omega)
  refine c_markFloat32SS Na3 (by omega) (by have := Ba3; rw [kAt_all (ro := ssRows) (c := 0) (k := (kAt ssRows 0 (kAt Eff.nums 2 (kAt Eff.nums 2 1 pa0 pa0.length) pa1 pa1.length) pa2 pa2.length)) (ps := pa3)]; omega) Ba3.1 Ba3.2 (Nat.le_refl _) fun g38 hM38 hB38 => ?_
  have O38 : ∀ s ∈ lvs a3 pa3, s ≠ .nils → h.length ≤ s.id := fun s hs q => by have := Za3 s hs q; omega
  have Q38 := hB38.len
  have K38 := hB38.kept K37 O38
  replace Ns0 := hB38.new Ns0 O38 (fun s hs => ((fun s hs t ht q1 q2 e => by have := Za3 s hs q1; have := Zs0 t ht q2; omega) : ∀ s ∈ lvs a3 pa3, ∀ t ∈ [s0], Far s t) s hs s0 (List.mem_singleton.2 rfl))
  replace Ns1 := hB38.newD Ns1 O38 (fun s hs t ht q1 q2 e => by have := Za3 s hs q1; have := Zs1 t ht q2; omega)
  replace Ns2 := hB38.newD Ns2 O38 (fun s hs t ht q1 q2 e => by have := Za3 s hs q1; have := Zs2 t ht q2; omega)
  replace Na4 := hB38.new Na4 O38 (fun s hs => ((fun s hs t ht q1 q2 e => by have := Za3 s hs q1; have := Za4 t ht q2; omega) : ∀ s ∈ lvs a3 pa3, ∀ t ∈ [a4], Far s t) s hs a4 (List.mem_singleton.2 rfl))
  replace Nr0 := hB38.new Nr0 O38 (fun s hs => ((fun s hs t ht q1 q2 e => by have := Za3 s hs q1; have := Zr0 t ht q2; omega) : ∀ s ∈ lvs a3 pa3, ∀ t ∈ [r0], Far s t) s hs r0 (List.mem_singleton.2 rfl))
  replace Nr1 := hB38.newD Nr1 O38 (fun s hs t ht q1 q2 e => by have := Za3 s hs q1; have := Zr1 t ht q2; omega)
  replace Nr2 := hB38.newD Nr2 O38 (fun s hs t ht q1 q2 e => by have := Za3 s hs q1; have := Zr2 t ht q2; omega)
  have V38 : (kAt ssRows 0 (kAt Eff.nums 2 (kAt Eff.nums 2 1 pa0 pa0.length) pa1 pa1.length) pa2 pa2.length) ≤ kAt ssRows 0 (kAt ssRows 0 (kAt Eff.nums 2 (kAt Eff.nums 2 1 pa0 pa0.length) pa1 pa1.length) pa2 pa2.length) pa3 pa3.length ∧ kAt ssRows 0 (kAt ssRows 0 (kAt Eff.nums 2 (kAt Eff.nums 2 1 pa0 pa0.length) pa1 pa1.length) pa2 pa2.length) pa3 pa3.length ≤ (kAt ssRows 0 (kAt Eff.nums 2 (kAt Eff.nums 2 1 pa0 pa0.length) pa1 pa1.length) pa2 pa2.length) + 0 * 16777216 + 16777216 := by have := Ba3; rw [kAt_all (ro := ssRows) (c := 0) (k := (kAt ssRows 0 (kAt Eff.nums 2 (kAt Eff.nums 2 1 pa0 pa0.length) pa1 pa1.length) pa2 pa2.length)) (ps := pa3)]; omega
  replace Na3 := hM38
  repeat' (first | (simp (disch := first | omega | assumption | (simp only [List.length_set]; omega) | (simp [*] <;> fail) | assumption) [-Bool.decide_and, -Bool.decide_or, -Bool.not_and, -Bool.not_or, toNat_pred, toNat_succ, wrap64, wr_new, wr_new0, ok_if, ok_ifn, iadV_sl, makeV_int, decT, decF, over_at, *]) | (with_reducible refine Gd_split (fun hc => ?_) (fun hc => ?_) <;> (have hc2 := hc; try simp at hc2)) | (with_reducible refine Br_split (fun hc => ?_) (fun hc => ?_) <;> (have hc2 := hc; try simp at hc2)) | (with_reducible refine GdT_split (fun hc => ?_) (fun hc => ?_) <;> (have hc2 := hc; try simp at hc2)) | (with_reducible refine WT_alt ?_ ?_) | omega)
  refine c_markFloat32S Na4 (by simp; omega) (by omega) (by omega) (Nat.le_refl _) fun g39 hM39 hC39 => ?_
  have hB39 := hC39.buts
  have O39 : ∀ s ∈ [a4], s ≠ .nils → h.length ≤ s.id := fun s hs q => by have := Za4 s hs q; omega
  have Q39 := hB39.len
  have K39 := hB39.kept K38 O39
  replace Ns0 := hB39.new Ns0 O39 (fun s hs => ((fun s hs t ht q1 q2 e => by have := Za4 s hs q1; have := Zs0 t ht q2; omega) : ∀ s ∈ [a4], ∀ t ∈ [s0], Far s t) s hs s0 (List.mem_singleton.2 rfl))
  replace Ns1 := hB39.newD Ns1 O39 (fun s hs t ht q1 q2 e => by have := Za4 s hs q1; have := Zs1 t ht q2; omega)
  replace Ns2 := hB39.newD Ns2 O39 (fun s hs t ht q1 q2 e => by have := Za4 s hs q1; have := Zs2 t ht q2; omega)
  replace Nr0 := hB39.new Nr0 O39 (fun s hs => ((fun s hs t ht q1 q2 e => by have := Za4 s hs q1; have := Zr0 t ht q2; omega) : ∀ s ∈ [a4], ∀ t ∈ [r0], Far s t) s hs r0 (List.mem_singleton.2 rfl))
  replace Nr1 := hB39.newD Nr1 O39 (fun s hs t ht q1 q2 e => by have := Za4 s hs q1; have := Zr1 t ht q2; omega)
  replace Nr2 := hB39.newD Nr2 O39 (fun s hs t ht q1 q2 e => by have := Za4 s hs q1; have := Zr2 t ht q2; omega)
  simp only [List.length_map] at hM39
  replace Na4 := hM39
  repeat' (first | (simp (disch := first | omega | assumption | (simp only [List.length_set]; omega) | (simp [*] <;> fail) | assumption) [-Bool.decide_and, -Bool.decide_or, -Bool.not_and, -Bool.not_or, toNat_pred, toNat_succ, wrap64, wr_new, wr_new0, ok_if, ok_ifn, iadV_sl, makeV_int, decT, decF, over_at, *, c_eqFloat32S Nr0.arr Ns0.arr, c_eqFloat32SS Nr1.arr Nr1.ins Ns1.arr Ns1.ins (Es1.trans Er1.symm), c_eqFloat32SS Nr2.arr Nr2.ins Ns2.arr Ns2.ins (Es2.trans Er2.symm)]) | (with_reducible refine Gd_split (fun hc => ?_) (fun hc => ?_) <;> (have hc2 := hc; try simp at hc2)) | (with_reducible refine Br_split (fun hc => ?_) (fun hc => ?_) <;> (have hc2 := hc; try simp at hc2)) | (with_reducible refine GdT_split (fun hc => ?_) (fun hc => ?_) <;> (have hc2 := hc; try simp at hc2)) | (with_reducible refine WT_alt ?_ ?_) | omega)
  refine c_markFloat32S Nr0 (by simp; omega) (by omega) (by omega) (Nat.le_refl _) fun g40 hM40 hC40 => ?_
  have hB40 := hC40.buts
  have O40 : ∀ s ∈ [r0], s ≠ .nils → h.length ≤ s.id := fun s hs q => by have := Zr0 s hs q; omega
  have Q40 := hB40.len
  have K40 := hB40.kept K39 O40
  replace Ns0 := hB40.new Ns0 O40 (fun s hs => ((fun s hs t ht q1 q2 e => by have := Zr0 s hs q1; have := Zs0 t ht q2; omega) : ∀ s ∈ [r0], ∀ t ∈ [s0], Far s t) s hs s0 (List.mem_singleton.2 rfl))
  replace Ns1 := hB40.newD Ns1 O40 (fun s hs t ht q1 q2 e => by have := Zr0 s hs q1; have := Zs1 t ht q2; omega)
  replace Ns2 := hB40.newD Ns2 O40 (fun s hs t ht q1 q2 e => by have := Zr0 s hs q1; have := Zs2 t ht q2; omega)
  replace Nr1 := hB40.newD Nr1 O40 Fr0r1
  replace Nr2 := hB40.newD Nr2 O40 Fr0r2
  simp only [List.length_map] at hM40
  replace Nr0 := hM40
  repeat' (first | (simp (disch := first | omega | assumption | (simp only [List.length_set]; omega) | (simp [*] <;> fail) | assumption) [-Bool.decide_and, -Bool.decide_or, -Bool.not_and, -Bool.not_or, toNat_pred, toNat_succ, wrap64, wr_new, wr_new0, ok_if, ok_ifn, iadV_sl, makeV_int, decT, decF, over_at, *]) | (with_reducible refine Gd_split (fun hc => ?_) (fun hc => ?_) <;> (have hc2 := hc; try simp at hc2)) | (with_reducible refine Br_split (fun hc => ?_) (fun hc => ?_) <;> (have hc2 := hc; try simp at hc2)) | (with_reducible refine GdT_split (fun hc => ?_) (fun hc => ?_) <;> (have hc2 := hc; try simp at hc2)) | (with_reducible refine WT_alt ?_ ?_) | omega)
  refine c_markFloat32SS Nr1 (by omega) (by have := Br1; rw [kAt_all (ro := ssRows) (c := 0) (k := (1 + (yy1.length : Int))) (ps := pr1)]; omega) Br1.1 Br1.2 (Nat.le_refl _) fun g41 hM41 hB41 => ?_
  have O41 : ∀ s ∈ lvs r1 pr1, s ≠ .nils → h.length ≤ s.id := fun s hs q => by have := Zr1 s hs q; omega
  have Q41 := hB41.len
  have K41 := hB41.kept K40 O41
  replace Ns0 := hB41.new Ns0 O41 (fun s hs => ((fun s hs t ht q1 q2 e => by have := Zr1 s hs q1; have := Zs0 t ht q2; omega) : ∀ s ∈ lvs r1 pr1, ∀ t ∈ [s0], Far s t) s hs s0 (List.mem_singleton.2 rfl))
  replace Ns1 := hB41.newD Ns1 O41 (fun s hs t ht q1 q2 e => by have := Zr1 s hs q1; have := Zs1 t ht q2; omega)
  replace Ns2 := hB41.newD Ns2 O41 (fun s hs t ht q1 q2 e => by have := Zr1 s hs q1; have := Zs2 t ht q2; omega)
  replace Nr0 := hB41.new Nr0 O41 (fun s hs => ((fun s hs t ht => (Fr0r1 t ht s hs).symm) : ∀ s ∈ lvs r1 pr1, ∀ t ∈ [r0], Far s t) s hs r0 (List.mem_singleton.2 rfl))
  replace Nr2 := hB41.newD Nr2 O41 Fr1r2
  have V41 : (1 + (yy1.length : Int)) ≤ kAt ssRows 0 (1 + (yy1.length : Int)) pr1 pr1.length ∧ kAt ssRows 0 (1 + (yy1.length : Int)) pr1 pr1.length ≤ (1 + (yy1.length : Int)) + 0 * 16777216 + 16777216 := by have := Br1; rw [kAt_all (ro := ssRows) (c := 0) (k := (1 + (yy1.length : Int))) (ps := pr1)]; omega
  replace Nr1 := hM41
  rw [← lvs_mkD (l := r1) (ps := pr1) (mk := mkSS) (ro := ssRows) (c := 0) (k := (1 + (yy1.length : Int)))] at Zr1 Fr0r1 Fr1r2
  repeat' (first | (simp (disch := first | omega | assumption | (simp only [List.length_set]; omega) | (simp [*] <;> fail) | assumption) [-Bool.decide_and, -Bool.decide_or, -Bool.not_and, -Bool.not_or, toNat_pred, toNat_succ, wrap64, wr_new, wr_new0, ok_if, ok_ifn, iadV_sl, makeV_int, decT, decF, over_at, *]) | (with_reducible refine Gd_split (fun hc => ?_) (fun hc => ?_) <;> (have hc2 := hc; try simp at hc2)) | (with_reducible refine Br_split (fun hc => ?_) (fun hc => ?_) <;> (have hc2 := hc; try simp at hc2)) | (with_reducible refine GdT_split (fun hc => ?_) (fun hc => ?_) <;> (have hc2 := hc; try simp at hc2)) | (with_reducible refine WT_alt ?_ ?_) | omega)
  refine c_markFloat32SS Nr2 (by omega) (by have := Br2; rw [kAt_all (ro := ssRows) (c := 0) (k := (kAt ssRows 0 (1 + (yy1.length : Int)) pr1 pr1.length)) (ps := pr2)]; omega) Br2.1 Br2.2 (Nat.le_refl _) fun g42 hM42 hB42 => ?_
  have O42 : ∀ s ∈ lvs r2 pr2, s ≠ .nils → h.length ≤ s.id := fun s hs q => by have := Zr2 s hs q; omega
  have Q42 := hB42.len
  have K42 := hB42.kept K41 O42
  replace Ns0 := hB42.new Ns0 O42 (fun s hs => ((fun s hs t ht q1 q2 e => by have := Zr2 s hs q1; have := Zs0 t ht q2; omega) : ∀ s ∈ lvs r2 pr2, ∀ t ∈ [s0], Far s t) s hs s0 (List.mem_singleton.2 rfl))
  replace Ns1 := hB42.newD Ns1 O42 (fun s hs t ht q1 q2 e => by have := Zr2 s hs q1; have := Zs1 t ht q2; omega)
  replace Ns2 := hB42.newD Ns2 O42 (fun s hs t ht q1 q2 e => by have := Zr2 s hs q1; have := Zs2 t ht q2; omega)
  replace Nr0 := hB42.new Nr0 O42 (fun s hs => ((fun s hs t ht => (Fr0r2 t ht s hs).symm) : ∀ s ∈ lvs r2 pr2, ∀ t ∈ [r0], Far s t) s hs r0 (List.mem_singleton.2 rfl))
  replace Nr1 := hB42.newD Nr1 O42 (fun s hs t ht => (Fr1r2 t ht s hs).symm)
  have V42 : (kAt ssRows 0 (1 + (yy1.length : Int)) pr1 pr1.length) ≤ kAt ssRows 0 (kAt ssRows 0 (1 + (yy1.length : Int)) pr1 pr1.length) pr2 pr2.length ∧ kAt ssRows 0 (kAt ssRows 0 (1 + (yy1.length : Int)) pr1 pr1.length) pr2 pr2.length ≤ (kAt ssRows 0 (1 + (yy1.length : Int)) pr1 pr1.length) + 0 * 16777216 + 16777216 := by have := Br2; rw [kAt_all (ro := ssRows) (c := 0) (k := (kAt ssRows 0 (1 + (yy1.length : Int)) pr1 pr1.length)) (ps := pr2)]; omega
  replace Nr2 := hM42
  rw [← lvs_mkD (l := r2) (ps := pr2) (mk := mkSS) (ro := ssRows) (c := 0) (k := (kAt ssRows 0 (1 + (yy1.length : Int)) pr1 pr1.length))] at Zr2 Fr0r2 Fr1r2
  repeat' (first | (simp (disch := first | omega | assumption | (simp only [List.length_set]; omega) | (simp [*] <;> fail) | assumption) [-Bool.decide_and, -Bool.decide_or, -Bool.not_and, -Bool.not_or, toNat_pred, toNat_succ, wrap64, wr_new, wr_new0, ok_if, ok_ifn, iadV_sl, makeV_int, decT, decF, over_at, *, c_heldFloat32S Nr0.arr, c_heldFloat32SS Nr1.arr Nr1.ins (by omega) (by have := Br1; rw [kAt_all (ro := ssRows) (c := 0) (k := (1 + (yy1.length : Int))) (ps := pr1)]; omega) Br1.1 Br1.2, c_heldFloat32SS Nr2.arr Nr2.ins (by omega) (by have := Br2; rw [kAt_all (ro := ssRows) (c := 0) (k := (kAt ssRows 0 (1 + (yy1.length : Int)) pr1 pr1.length)) (ps := pr2)]; omega) Br2.1 Br2.2]) | (with_reducible refine Gd_split (fun hc => ?_) (fun hc => ?_) <;> (have hc2 := hc; try simp at hc2)) | (with_reducible refine Br_split (fun hc => ?_) (fun hc => ?_) <;> (have hc2 := hc; try simp at hc2)) | (with_reducible refine GdT_split (fun hc => ?_) (fun hc => ?_) <;> (have hc2 := hc; try simp at hc2)) | (with_reducible refine WT_alt ?_ ?_) | omega)
  refine c_toEffectS (hAl.kept K42) (hIl.kept K42) hnl hml K42.1 fun w0 g43 pw0 hw0 Ew0 => ?_
  have Bw0 : pw0.length ≤ 16777216 ∧ szD Eff.nums pw0 ≤ 16777216 := ⟨by rw [map_len Ew0]; omega, by rw [szD_map Ew0]; omega⟩
  have K44 := K42.trans hw0.kept
  have Q44 := hw0.kept.1
  have P44 := K44.1
  have Zw0 := hw0.lvs_lt
  have Nw0 := hw0.base K42
  replace Ns0 := Ns0.later hw0.kept
  replace Ns1 := Ns1.later hw0.kept
  replace Ns2 := Ns2.later hw0.kept
  replace Nr0 := Nr0.later hw0.kept
  replace Nr1 := Nr1.later hw0.kept
  replace Nr2 := Nr2.later hw0.kept
  repeat' (first | (simp (disch := first | omega | assumption | (simp only [List.length_set]; omega) | (simp [*] <;> fail) | assumption) [-Bool.decide_and, -Bool.decide_or, -Bool.not_and, -Bool.not_or, toNat_pred, toNat_succ, wrap64, wr_new, wr_new0, ok_if, ok_ifn, iadV_sl, makeV_int, decT, decF, over_at, *]) | (with_reducible refine Gd_split (fun hc => ?_) (fun hc => ?_) <;> (have hc2 := hc; try simp at hc2)) | (with_reducible refine Br_split (fun hc => ?_) (fun hc => ?_) <;> (have hc2 := hc; try simp at hc2)) | (with_reducible refine GdT_split (fun hc => ?_) (fun hc => ?_) <;> (have hc2 := hc; try simp at hc2)) | (with_reducible refine WT_alt ?_ ?_) | omega)
  refine c_toEffectS (hAl2.kept K44) (hIl2.kept K44) hnl2 hml2 K44.1 fun w1 g45 pw1 hw1 Ew1 => ?_
  have Bw1 : pw1.length ≤ 16777216 ∧ szD Eff.nums pw1 ≤ 16777216 := ⟨by rw [map_len Ew1]; omega, by rw [szD_map Ew1]; omega⟩
  have K46 := K44.trans hw1.kept
  have Q46 := hw1.kept.1
  have P46 := K46.1
  have Zw1 := hw1.lvs_lt
  have Nw1 := hw1.base K44
  replace Ns0 := Ns0.later hw1.kept
  replace Ns1 := Ns1.later hw1.kept
  replace Ns2 := Ns2.later hw1.kept
  replace Nr0 := Nr0.later hw1.kept
  replace Nr1 := Nr1.later hw1.kept
  replace Nr2 := Nr2.later hw1.kept
  replace Nw0 := Nw0.later hw1.kept
  repeat' (first | (simp (disch := first | omega | assumption | (simp only [List.length_set]; omega) | (simp [*] <;> fail) | assumption) [-Bool.decide_and, -Bool.decide_or, -Bool.not_and, -Bool.not_or, toNat_pred, toNat_succ, wrap64, wr_new, wr_new0, ok_if, ok_ifn, iadV_sl, makeV_int, decT, decF, over_at, *]) | (with_reducible refine Gd_split (fun hc => ?_) (fun hc => ?_) <;> (have hc2 := hc; try simp at hc2)) | (with_reducible refine Br_split (fun hc => ?_) (fun hc => ?_) <;> (have hc2 := hc; try simp at hc2)) | (with_reducible refine GdT_split (fun hc => ?_) (fun hc => ?_) <;> (have hc2 := hc; try simp at hc2)) | (with_reducible refine WT_alt ?_ ?_) | omega)
  refine c_toFloat32SS (hAl3.kept K46) (hIl3.kept K46) hnl3 hml3 K46.1 fun w2 g47 pw2 hw2 Ew2 => ?_
  have Bw2 : pw2.length ≤ 16777216 ∧ szD ssRows pw2 ≤ 16777216 := ⟨by rw [map_len Ew2]; omega, by rw [szD_map Ew2]; omega⟩
  have K48 := K46.trans hw2.kept
  have Q48 := hw2.kept.1
  have P48 := K48.1
  have Zw2 := hw2.lvs_lt
  have Nw2 := hw2.base K46
  replace Ns0 := Ns0.later hw2.kept
  replace Ns1 := Ns1.later hw2.kept
  replace Ns2 := Ns2.later hw2.kept
  replace Nr0 := Nr0.later hw2.kept
  replace Nr1 := Nr1.later hw2.kept
  replace Nr2 := Nr2.later hw2.kept
  replace Nw0 := Nw0.later hw2.kept
  replace Nw1 := Nw1.later hw2.kept
  repeat' (first | (simp (disch := first | omega | assumption | (simp only [List.length_set]; omega) | (simp [*] <;> fail) | assumption) [-Bool.decide_and, -Bool.decide_or, -Bool.not_and, -Bool.not_or, toNat_pred, toNat_succ, wrap64, wr_new, wr_new0, ok_if, ok_ifn, iadV_sl, makeV_int, decT, decF, over_at, *]) | (with_reducible refine Gd_split (fun hc => ?_) (fun hc => ?_) <;> (have hc2 := hc; try simp at hc2)) | (with_reducible refine Br_split (fun hc => ?_) (fun hc => ?_) <;> (have hc2 := hc; try simp at hc2)) | (with_reducible refine GdT_split (fun hc => ?_) (fun hc => ?_) <;> (have hc2 := hc; try simp at hc2)) | (with_reducible refine WT_alt ?_ ?_) | omega)
  refine c_toFloat32SS (hAl4.kept K48) (hIl4.kept K48) hnl4 hml4 K48.1 fun w3 g49 pw3 hw3 Ew3 => ?_
  have Bw3 : pw3.length ≤ 16777216 ∧ szD ssRows pw3 ≤ 16777216 := ⟨by rw [map_len Ew3]; omega, by rw [szD_map Ew3]; omega⟩
  have K50 := K48.trans hw3.kept
  have Q50 := hw3.kept.1
  have P50 := K50.1
  have Zw3 := hw3.lvs_lt
  have Nw3 := hw3.base K48
  replace Ns0 := Ns0.later hw3.kept
  replace Ns1 := Ns1.later hw3.kept
  replace Ns2 := Ns2.later hw3.kept
  replace Nr0 := Nr0.later hw3.kept
  replace Nr1 := Nr1.later hw3.kept
  replace Nr2 := Nr2.later hw3.kept
  replace Nw0 := Nw0.later hw3.kept
  replace Nw1 := Nw1.later hw3.kept
  replace Nw2 := Nw2.later hw3.kept
  repeat' (first | (simp (disch := first | omega | assumption | (simp only [List.length_set]; omega) | (simp [*] <;> fail) | assumption) [-Bool.decide_and, -Bool.decide_or, -Bool.not_and, -Bool.not_or, toNat_pred, toNat_succ, wrap64, wr_new, wr_new0, ok_if, ok_ifn, iadV_sl, makeV_int, decT, decF, over_at, *]) | (with_reducible refine Gd_split (fun hc => ?_) (fun hc => ?_) <;> (have hc2 := hc; try simp at hc2)) | (with_reducible refine Br_split (fun hc => ?_) (fun hc => ?_) <;> (have hc2 := hc; try simp at hc2)) | (with_reducible refine GdT_split (fun hc => ?_) (fun hc => ?_) <;> (have hc2 := hc; try simp at hc2)) | (with_reducible refine WT_alt ?_ ?_) | omega)
  refine c_toFloat32S (hAl5.kept K50) hnl5 K50.1 fun w4 g51 hw4 => ?_
  have K52 := K50.trans hw4.kept
  have Q52 := hw4.kept.1
  have P52 := K52.1
  have Zw4 := hw4.foot
  have Nw4 := hw4.base K50
  replace Ns0 := Ns0.later hw4.kept
  replace Ns1 := Ns1.later hw4.kept
  replace Ns2 := Ns2.later hw4.kept
  replace Nr0 := Nr0.later hw4.kept
  replace Nr1 := Nr1.later hw4.kept
  replace Nr2 := Nr2.later hw4.kept
  replace Nw0 := Nw0.later hw4.kept
  replace Nw1 := Nw1.later hw4.kept
  replace Nw2 := Nw2.later hw4.kept
  replace Nw3 := Nw3.later hw4.kept
  repeat' (first | (simp (disch := first | omega | assumption | (simp only [List.length_set]; omega) | (simp [*] <;> fail) | assumption) [-Bool.decide_and, -Bool.decide_or, -Bool.not_and, -Bool.not_or, toNat_pred, toNat_succ, wrap64, wr_new, wr_new0, ok_if, ok_ifn, iadV_sl, makeV_int, decT, decF, over_at, *]) | (with_reducible refine Gd_split (fun hc => ?_) (fun hc => ?_) <;> (have hc2 := hc; try simp at hc2)) | (with_reducible refine Br_split (fun hc => ?_) (fun hc => ?_) <;> (have hc2 := hc; try simp at hc2)) | (with_reducible refine GdT_split (fun hc => ?_) (fun hc => ?_) <;> (have hc2 := hc; try simp at hc2)) | (with_reducible refine WT_alt ?_ ?_) | omega)
  refine ci Nw0 Ew0 Nw1 Ew1 Nw2 Ew2 Nw3 Ew3 Nw4 K52.1 fun u0 u1 pu1 u2 pu2 g53 hu0 hu1 Eu1 hu2 Eu2 Fu0u1 Fu0u2 Fu1u2 => ?_
  have Bu1 := hlo1 Eu1
  have Bu2 := hlo2 Eu2
  have K54 := K52.trans hu0.kept
  have Q54 := hu0.kept.1
  have P54 := K54.1
  have Zu0 := hu0.foot
  have Nu0 := hu0.base K52
  have Zu1 := hu1.lvs_lt
  have Nu1 := hu1.base K52
  have Zu2 := hu2.lvs_lt
  have Nu2 := hu2.base K52
  replace Ns0 := Ns0.later hu0.kept
  replace Ns1 := Ns1.later hu0.kept
  replace Ns2 := Ns2.later hu0.kept
  replace Nr0 := Nr0.later hu0.kept
  replace Nr1 := Nr1.later hu0.kept
  replace Nr2 := Nr2.later hu0.kept
  replace Nw0 := Nw0.later hu0.kept
  replace Nw1 := Nw1.later hu0.kept
  replace Nw2 := Nw2.later hu0.kept
  replace Nw3 := Nw3.later hu0.kept
  replace Nw4 := Nw4.later hu0.kept
  repeat' (first | (simp (disch := first | omega | assumption | (simp only [List.length_set]; omega) | (simp [*] <;> fail) | assumption) [-Bool.decide_and, -Bool.decide_or, -Bool.not_and, -Bool.not_or, toNat_pred, toNat_succ, wrap64, wr_new, wr_new0, ok_if, ok_ifn, iadV_sl, makeV_int, decT, decF, over_at, *, c_eqFloat32S Nu0.arr Ns0.arr, c_eqFloat32SS Nu1.arr Nu1.ins Ns1.arr Ns1.ins (Es1.trans Eu1.symm), c_eqFloat32SS Nu2.arr Nu2.ins Ns2.arr Ns2.ins (Es2.trans Eu2.symm), c_heldFloat32S Nr0.arr, c_heldFloat32SS Nr1.arr Nr1.ins (by omega) (by have := Br1; rw [kAt_all (ro := ssRows) (c := 0) (k := (1 + (yy1.length : Int))) (ps := pr1)]; omega) Br1.1 Br1.2, c_heldFloat32SS Nr2.arr Nr2.ins (by omega) (by have := Br2; rw [kAt_all (ro := ssRows) (c := 0) (k := (kAt ssRows 0 (1 + (yy1.length : Int)) pr1 pr1.length)) (ps := pr2)]; omega) Br2.1 Br2.2]) | (with_reducible refine Gd_split (fun hc => ?_) (fun hc => ?_) <;> (have hc2 := hc; try simp at hc2)) | (with_reducible refine Br_split (fun hc => ?_) (fun hc => ?_) <;> (have hc2 := hc; try simp at hc2)) | (with_reducible refine GdT_split (fun hc => ?_) (fun hc => ?_) <;> (have hc2 := hc; try simp at hc2)) | (with_reducible refine WT_alt ?_ ?_) | omega)
end Go.E
namespace Go.E.RunBoth
open Go Go.E
def pure : FuncId → Bool := fun f => List.elem f [3, 4, 5, 6, 10, 11, 14, 15, 20, 22, 25, 26, 27, 31, 32, 36, 37, 38, 39, 40, 41, 42, 44, 46, 47, 48, 53, 56, 59, 61, 62, 66, 69, 71, 72, 73, 74, 75, 76, 77, 78, 79, 80, 81, 82, 84, 85, 86, 87, 88, 89, 90, 91, 93, 94, 95, 96, 98, 100, 102, 109, 111, 112]
def funs : List (Nat × LFn) := [(27, L27), (48, L48), (40, L40), (42, L42), (73, L73), (74, L74), (58, L58), (77, L77), (78, L78), (26, L26), (31, L31), (44, L44), (46, L46), (47, L47), (53, L53), (61, L61), (62, L62), (71, L71), (79, L79), (60, L60), (54, L54), (59, L59), (56, L56), (66, L66), (81, L81), (82, L82), (57, L57), (75, L75), (76, L76), (86, L86), (89, L89), (72, L72), (80, L80), (55, L55), (64, L64), (45, L45), (49, L49), (28, L28), (50, L50), (65, L65), (63, L63), (94, L94), (95, L95), (68, L68), (84, L84), (69, L69), (67, L67), (83, L83), (92, L92), (93, L93), (70, L70), (85, L85), (33, L33), (52, L52), (39, L39), (41, L41), (51, L51), (16, L16), (19, L19), (23, L23), (24, L24), (43, L43), (36, L36), (10, L10), (13, L13), (14, L14), (18, L18), (38, L38), (6, L6), (8, L8), (11, L11), (25, L25), (30, L30), (37, L37), (15, L15), (17, L17), (20, L20), (12, L12), (21, L21), (22, L22), (5, L5)]
def Sy : Sys := sysOf funs
theorem lfn27 : lFn Go.Proofs.Try.prog pure Go.Proofs.Try.f27 = some L27 := by kernel_rfl
theorem lfn48 : lFn Go.Proofs.Try.prog pure Go.Proofs.Try.f48 = some L48 := by kernel_rfl
theorem lfn40 : lFn Go.Proofs.Try.prog pure Go.Proofs.Try.f40 = some L40 := by kernel_rfl
theorem lfn42 : lFn Go.Proofs.Try.prog pure Go.Proofs.Try.f42 = some L42 := by kernel_rfl
theorem lfn73 : lFn Go.Proofs.Try.prog pure Go.Proofs.Try.f73 = some L73 := by kernel_rfl
theorem lfn74 : lFn Go.Proofs.Try.prog pure Go.Proofs.Try.f74 = some L74 := by kernel_rfl
theorem lfn58 : lFn Go.Proofs.Try.prog pure Go.Proofs.Try.f58 = some L58 := by kernel_rfl
theorem lfn77 : lFn Go.Proofs.Try.prog pure Go.Proofs.Try.f77 = some L77 := by kernel_rfl
theorem lfn78 : lFn Go.Proofs.Try.prog pure Go.Proofs.Try.f78 = some L78 := by kernel_rfl
theorem lfn26 : lFn Go.Proofs.Try.prog pure Go.Proofs.Try.f26 = some L26 := by kernel_rfl
theorem lfn31 : lFn Go.Proofs.Try.prog pure Go.Proofs.Try.f31 = some L31 := by kernel_rfl
theorem lfn44 : lFn Go.Proofs.Try.prog pure Go.Proofs.Try.f44 = some L44 := by kernel_rfl
theorem lfn46 : lFn Go.Proofs.Try.prog pure Go.Proofs.Try.f46 = some L46 := by kernel_rfl
theorem lfn47 : lFn Go.Proofs.Try.prog pure Go.Proofs.Try.f47 = some L47 := by kernel_rfl
theorem lfn53 : lFn Go.Proofs.Try.prog pure Go.Proofs.Try.f53 = some L53 := by kernel_rfl
theorem lfn61 : lFn Go.Proofs.Try.prog pure Go.Proofs.Try.f61 = some L61 := by kernel_rfl
theorem lfn62 : lFn Go.Proofs.Try.prog pure Go.Proofs.Try.f62 = some L62 := by kernel_rfl
theorem lfn71 : lFn Go.Proofs.Try.prog pure Go.Proofs.Try.f71 = some L71 := by kernel_rfl
theorem lfn79 : lFn Go.Proofs.Try.prog pure Go.Proofs.Try.f79 = some L79 := by kernel_rfl
theorem lfn60 : lFn Go.Proofs.Try.prog pure Go.Proofs.Try.f60 = some L60 := by kernel_rfl
theorem lfn54 : lFn Go.Proofs.Try.prog pure Go.Proofs.Try.f54 = some L54 := by kernel_rfl
theorem lfn59 : lFn Go.Proofs.Try.prog pure Go.Proofs.Try.f59 = some L59 := by kernel_rfl
theorem lfn56 : lFn Go.Proofs.Try.prog pure Go.Proofs.Try.f56 = some L56 := by kernel_rfl
theorem lfn66 : lFn Go.Proofs.Try.prog pure Go.Proofs.Try.f66 = some L66 := by kernel_rfl
theorem lfn81 : lFn Go.Proofs.Try.prog pure Go.Proofs.Try.f81 = some L81 := by kernel_rfl
theorem lfn82 : lFn Go.Proofs.Try.prog pure Go.Proofs.Try.f82 = some L82 := by kernel_rfl
theorem lfn57 : lFn Go.Proofs.Try.prog pure Go.Proofs.Try.f57 = some L57 := by kernel_rfl
theorem lfn75 : lFn Go.Proofs.Try.prog pure Go.Proofs.Try.f75 = some L75 := by kernel_rfl
theorem lfn76 : lFn Go.Proofs.Try.prog pure Go.Proofs.Try.f76 = some L76 := by kernel_rfl
theorem lfn86 : lFn Go.Proofs.Try.prog pure Go.Proofs.Try.f86 = some L86 := by kernel_rfl
theorem lfn89 : lFn Go.Proofs.Try.prog pure Go.Proofs.Try.f89 = some L89 := by kernel_rfl
theorem lfn72 : lFn Go.Proofs.Try.prog pure Go.Proofs.Try.f72 = some L72 := by kernel_rfl
theorem lfn80 : lFn Go.Proofs.Try.prog pure Go.Proofs.Try.f80 = some L80 := by kernel_rfl
theorem lfn55 : lFn Go.Proofs.Try.prog pure Go.Proofs.Try.f55 = some L55 := by kernel_rfl
theorem lfn64 : lFn Go.Proofs.Try.prog pure Go.Proofs.Try.f64 = some L64 := by kernel_rfl
theorem lfn45 : lFn Go.Proofs.Try.prog pure Go.Proofs.Try.f45 = some L45 := by kernel_rfl
theorem lfn49 : lFn Go.Proofs.Try.prog pure Go.Proofs.Try.f49 = some L49 := by kernel_rfl
theorem lfn28 : lFn Go.Proofs.Try.prog pure Go.Proofs.Try.f28 = some L28 := by kernel_rfl
theorem lfn50 : lFn Go.Proofs.Try.prog pure Go.Proofs.Try.f50 = some L50 := by kernel_rfl
theorem lfn65 : lFn Go.Proofs.Try.prog pure Go.Proofs.Try.f65 = some L65 := by kernel_rfl
theorem lfn63 : lFn Go.Proofs.Try.prog pure Go.Proofs.Try.f63 = some L63 := by kernel_rfl
theorem lfn94 : lFn Go.Proofs.Try.prog pure Go.Proofs.Try.f94 = some L94 := by kernel_rfl
theorem lfn95 : lFn Go.Proofs.Try.prog pure Go.Proofs.Try.f95 = some L95 := by kernel_rfl
theorem lfn68 : lFn Go.Proofs.Try.prog pure Go.Proofs.Try.f68 = some L68 := by kernel_rfl
theorem lfn84 : lFn Go.Proofs.Try.prog pure Go.Proofs.Try.f84 = some L84 := by kernel_rfl
theorem lfn69 : lFn Go.Proofs.Try.prog pure Go.Proofs.Try.f69 = some L69 := by kernel_rfl
theorem lfn67 : lFn Go.Proofs.Try.prog pure Go.Proofs.Try.f67 = some L67 := by kernel_rfl
theorem lfn83 : lFn Go.Proofs.Try.prog pure Go.Proofs.Try.f83 = some L83 := by kernel_rfl
theorem lfn92 : lFn Go.Proofs.Try.prog pure Go.Proofs.Try.f92 = some L92 := by kernel_rfl
theorem lfn93 : lFn Go.Proofs.Try.prog pure Go.Proofs.Try.f93 = some L93 := by kernel_rfl
theorem lfn70 : lFn Go.Proofs.Try.prog pure Go.Proofs.Try.f70 = some L70 := by kernel_rfl
theorem lfn85 : lFn Go.Proofs.Try.prog pure Go.Proofs.Try.f85 = some L85 := by kernel_rfl
theorem lfn33 : lFn Go.Proofs.Try.prog pure Go.Proofs.Try.f33 = some L33 := by kernel_rfl
theorem lfn52 : lFn Go.Proofs.Try.prog pure Go.Proofs.Try.f52 = some L52 := by kernel_rfl
theorem lfn39 : lFn Go.Proofs.Try.prog pure Go.Proofs.Try.f39 = some L39 := by kernel_rfl
theorem lfn41 : lFn Go.Proofs.Try.prog pure Go.Proofs.Try.f41 = some L41 := by kernel_rfl
theorem lfn51 : lFn Go.Proofs.Try.prog pure Go.Proofs.Try.f51 = some L51 := by kernel_rfl
theorem lfn16 : lFn Go.Proofs.Try.prog pure Go.Proofs.Try.f16 = some L16 := by kernel_rfl
theorem lfn19 : lFn Go.Proofs.Try.prog pure Go.Proofs.Try.f19 = some L19 := by kernel_rfl
theorem lfn23 : lFn Go.Proofs.Try.prog pure Go.Proofs.Try.f23 = some L23 := by kernel_rfl
theorem lfn24 : lFn Go.Proofs.Try.prog pure Go.Proofs.Try.f24 = some L24 := by kernel_rfl
theorem lfn43 : lFn Go.Proofs.Try.prog pure Go.Proofs.Try.f43 = some L43 := by kernel_rfl
theorem lfn36 : lFn Go.Proofs.Try.prog pure Go.Proofs.Try.f36 = some L36 := by kernel_rfl
theorem lfn10 : lFn Go.Proofs.Try.prog pure Go.Proofs.Try.f10 = some L10 := by kernel_rfl
theorem lfn13 : lFn Go.Proofs.Try.prog pure Go.Proofs.Try.f13 = some L13 := by kernel_rfl
theorem lfn14 : lFn Go.Proofs.Try.prog pure Go.Proofs.Try.f14 = some L14 := by kernel_rfl
theorem lfn18 : lFn Go.Proofs.Try.prog pure Go.Proofs.Try.f18 = some L18 := by kernel_rfl
theorem lfn38 : lFn Go.Proofs.Try.prog pure Go.Proofs.Try.f38 = some L38 := by kernel_rfl
theorem lfn6 : lFn Go.Proofs.Try.prog pure Go.Proofs.Try.f6 = some L6 := by kernel_rfl
theorem lfn8 : lFn Go.Proofs.Try.prog pure Go.Proofs.Try.f8 = some L8 := by kernel_rfl
theorem lfn11 : lFn Go.Proofs.Try.prog pure Go.Proofs.Try.f11 = some L11 := by kernel_rfl
theorem lfn25 : lFn Go.Proofs.Try.prog pure Go.Proofs.Try.f25 = some L25 := by kernel_rfl
theorem lfn30 : lFn Go.Proofs.Try.prog pure Go.Proofs.Try.f30 = some L30 := by kernel_rfl
theorem lfn37 : lFn Go.Proofs.Try.prog pure Go.Proofs.Try.f37 = some L37 := by kernel_rfl
theorem lfn15 : lFn Go.Proofs.Try.prog pure Go.Proofs.Try.f15 = some L15 := by kernel_rfl
theorem lfn17 : lFn Go.Proofs.Try.prog pure Go.Proofs.Try.f17 = some L17 := by kernel_rfl
theorem lfn20 : lFn Go.Proofs.Try.prog pure Go.Proofs.Try.f20 = some L20 := by kernel_rfl
theorem lfn12 : lFn Go.Proofs.Try.prog pure Go.Proofs.Try.f12 = some L12 := by kernel_rfl
theorem lfn21 : lFn Go.Proofs.Try.prog pure Go.Proofs.Try.f21 = some L21 := by kernel_rfl
theorem lfn22 : lFn Go.Proofs.Try.prog pure Go.Proofs.Try.f22 = some L22 := by kernel_rfl
theorem lfn5 : lFn Go.Proofs.Try.prog pure Go.Proofs.Try.f5 = some L5 := by kernel_rfl
instance : HasA Sy := { f27 := rfl, f48 := rfl }
instance : HasP Sy := { f40 := rfl, f42 := rfl }
instance : HasFb Sy := { f73 := rfl, f74 := rfl }
instance : HasZs Sy := { f58 := rfl, f77 := rfl, f78 := rfl }
instance : HasEf Sy := { f26 := rfl, f31 := rfl, f44 := rfl, f46 := rfl, f47 := rfl, f53 := rfl, f61 := rfl, f62 := rfl, f71 := rfl, f79 := rfl }
instance : HasZl Sy := { f60 := rfl }
instance : HasZb Sy := { f54 := rfl, f59 := rfl }
instance : HasFf Sy := { f56 := rfl, f66 := rfl, f81 := rfl, f82 := rfl }
instance : HasZq Sy := { f57 := rfl, f75 := rfl, f76 := rfl }
instance : HasFl2 Sy := { f86 := rfl, f89 := rfl }
instance : HasFi Sy := { f72 := rfl, f80 := rfl }
instance : HasFr Sy := { f55 := rfl, f64 := rfl }
instance : HasEs Sy := { f45 := rfl }
instance : HasCn Sy := { f49 := rfl }
instance : HasSr Sy := { f28 := rfl }
instance : HasEc Sy := { f50 := rfl, f65 := rfl }
instance : HasSc Sy := { f63 := rfl }
instance : HasFa Sy := { f94 := rfl, f95 := rfl }
instance : HasCl Sy := { f68 := rfl, f84 := rfl }
instance : HasBe Sy := { f69 := rfl }
instance : HasSq Sy := { f67 := rfl, f83 := rfl, f92 := rfl, f93 := rfl }
instance : HasLi Sy := { f70 := rfl, f85 := rfl }
instance : HasRc Sy := { f33 := rfl }
instance : HasN Sy := { f52 := rfl }
instance : HasIs Sy := { f39 := rfl, f41 := rfl, f51 := rfl }
instance : HasRu Sy := { f16 := rfl, f19 := rfl }
instance : HasBo Sy := { f23 := rfl, f24 := rfl, f43 := rfl }
instance : HasSame Sy := { f36 := rfl }
instance : HasF Sy := { f10 := rfl, f13 := rfl, f14 := rfl, f18 := rfl }
instance : HasSz Sy := { f38 := rfl }
instance : HasDE Sy := { f6 := rfl, f8 := rfl, f11 := rfl, f25 := rfl, f30 := rfl, f37 := rfl }
instance : HasDSS Sy := { f15 := rfl, f17 := rfl, f20 := rfl }
instance : HasKE Sy := { f12 := rfl }
instance : HasKSS Sy := { f21 := rfl, f22 := rfl }
instance : HasLRunBoth Sy := { f5 := rfl }
theorem sysOK {B : Nat} {w0 : World} : SysOK Go.Proofs.Try.prog pure Sy B w0 := SysOK.of (by
  intro p hp
  simp only [funs, List.mem_cons, List.not_mem_nil, or_false] at hp
  rcases hp with rfl | rfl | rfl | rfl | rfl | rfl | rfl | rfl | rfl | rfl | rfl | rfl | rfl | rfl | rfl | rfl | rfl | rfl | rfl | rfl | rfl | rfl | rfl | rfl | rfl | rfl | rfl | rfl | rfl | rfl | rfl | rfl | rfl | rfl | rfl | rfl | rfl | rfl | rfl | rfl | rfl | rfl | rfl | rfl | rfl | rfl | rfl | rfl | rfl | rfl | rfl | rfl | rfl | rfl | rfl | rfl | rfl | rfl | rfl | rfl | rfl | rfl | rfl | rfl | rfl | rfl | rfl | rfl | rfl | rfl | rfl | rfl | rfl | rfl | rfl | rfl | rfl | rfl | rfl | rfl | rfl
  · exact ⟨_, Go.Proofs.Try.func27, lfn27⟩
  · exact ⟨_, Go.Proofs.Try.func48, lfn48⟩
  · exact ⟨_, Go.Proofs.Try.func40, lfn40⟩
  · exact ⟨_, Go.Proofs.Try.func42, lfn42⟩
  · exact ⟨_, Go.Proofs.Try.func73, lfn73⟩
  · exact ⟨_, Go.Proofs.Try.func74, lfn74⟩
  · exact ⟨_, Go.Proofs.Try.func58, lfn58⟩
  · exact ⟨_, Go.Proofs.Try.func77, lfn77⟩
  · exact ⟨_, Go.Proofs.Try.func78, lfn78⟩
  · exact ⟨_, Go.Proofs.Try.func26, lfn26⟩
  · exact ⟨_, Go.Proofs.Try.func31, lfn31⟩
  · exact ⟨_, Go.Proofs.Try.func44, lfn44⟩
  · exact ⟨_, Go.Proofs.Try.func46, lfn46⟩
  · exact ⟨_, Go.Proofs.Try.func47, lfn47⟩
  · exact ⟨_, Go.Proofs.Try.func53, lfn53⟩
  · exact ⟨_, Go.Proofs.Try.func61, lfn61⟩
  · exact ⟨_, Go.Proofs.Try.func62, lfn62⟩
  · exact ⟨_, Go.Proofs.Try.func71, lfn71⟩
  · exact ⟨_, Go.Proofs.Try.func79, lfn79⟩
  · exact ⟨_, Go.Proofs.Try.func60, lfn60⟩
  · exact ⟨_, Go.Proofs.Try.func54, lfn54⟩
  · exact ⟨_, Go.Proofs.Try.func59, lfn59⟩
  · exact ⟨_, Go.Proofs.Try.func56, lfn56⟩
  · exact ⟨_, Go.Proofs.Try.func66, lfn66⟩
  · exact ⟨_, Go.Proofs.Try.func81, lfn81⟩
  · exact ⟨_, Go.Proofs.Try.func82, lfn82⟩
  · exact ⟨_, Go.Proofs.Try.func57, lfn57⟩
  · exact ⟨_, Go.Proofs.Try.func75, lfn75⟩
  · exact ⟨_, Go.Proofs.Try.func76, lfn76⟩
  · exact ⟨_, Go.Proofs.Try.func86, lfn86⟩
  · exact ⟨_, Go.Proofs.Try.func89, lfn89⟩
  · exact ⟨_, Go.Proofs.Try.func72, lfn72⟩
  · exact ⟨_, Go.Proofs.Try.func80, lfn80⟩
  · exact ⟨_, Go.Proofs.Try.func55, lfn55⟩
  · exact ⟨_, Go.Proofs.Try.func64, lfn64⟩
  · exact ⟨_, Go.Proofs.Try.func45, lfn45⟩
  · exact ⟨_, Go.Proofs.Try.func49, lfn49⟩
  · exact ⟨_, Go.Proofs.Try.func28, lfn28⟩
  · exact ⟨_, Go.Proofs.Try.func50, lfn50⟩
  · exact ⟨_, Go.Proofs.Try.func65, lfn65⟩
  · exact ⟨_, Go.Proofs.Try.func63, lfn63⟩
  · exact ⟨_, Go.Proofs.Try.func94, lfn94⟩
  · exact ⟨_, Go.Proofs.Try.func95, lfn95⟩
  · exact ⟨_, Go.Proofs.Try.func68, lfn68⟩
  · exact ⟨_, Go.Proofs.Try.func84, lfn84⟩
  · exact ⟨_, Go.Proofs.Try.func69, lfn69⟩
  · exact ⟨_, Go.Proofs.Try.func67, lfn67⟩
  · exact ⟨_, Go.Proofs.Try.func83, lfn83⟩
  · exact ⟨_, Go.Proofs.Try.func92, lfn92⟩
  · exact ⟨_, Go.Proofs.Try.func93, lfn93⟩
  · exact ⟨_, Go.Proofs.Try.func70, lfn70⟩
  · exact ⟨_, Go.Proofs.Try.func85, lfn85⟩
  · exact ⟨_, Go.Proofs.Try.func33, lfn33⟩
  · exact ⟨_, Go.Proofs.Try.func52, lfn52⟩
  · exact ⟨_, Go.Proofs.Try.func39, lfn39⟩
  · exact ⟨_, Go.Proofs.Try.func41, lfn41⟩
  · exact ⟨_, Go.Proofs.Try.func51, lfn51⟩
  · exact ⟨_, Go.Proofs.Try.func16, lfn16⟩
  · exact ⟨_, Go.Proofs.Try.func19, lfn19⟩
  · exact ⟨_, Go.Proofs.Try.func23, lfn23⟩
  · exact ⟨_, Go.Proofs.Try.func24, lfn24⟩
  · exact ⟨_, Go.Proofs.Try.func43, lfn43⟩
  · exact ⟨_, Go.Proofs.Try.func36, lfn36⟩
  · exact ⟨_, Go.Proofs.Try.func10, lfn10⟩
  · exact ⟨_, Go.Proofs.Try.func13, lfn13⟩
  · exact ⟨_, Go.Proofs.Try.func14, lfn14⟩
  · exact ⟨_, Go.Proofs.Try.func18, lfn18⟩
  · exact ⟨_, Go.Proofs.Try.func38, lfn38⟩
  · exact ⟨_, Go.Proofs.Try.func6, lfn6⟩
  · exact ⟨_, Go.Proofs.Try.func8, lfn8⟩
  · exact ⟨_, Go.Proofs.Try.func11, lfn11⟩
  · exact ⟨_, Go.Proofs.Try.func25, lfn25⟩
  · exact ⟨_, Go.Proofs.Try.func30, lfn30⟩
  · exact ⟨_, Go.Proofs.Try.func37, lfn37⟩
  · exact ⟨_, Go.Proofs.Try.func15, lfn15⟩
  · exact ⟨_, Go.Proofs.Try.func17, lfn17⟩
  · exact ⟨_, Go.Proofs.Try.func20, lfn20⟩
  · exact ⟨_, Go.Proofs.Try.func12, lfn12⟩
  · exact ⟨_, Go.Proofs.Try.func21, lfn21⟩
  · exact ⟨_, Go.Proofs.Try.func22, lfn22⟩
  · exact ⟨_, Go.Proofs.Try.func5, lfn5⟩)

end Go.E.RunBoth
