/- Tracks mixed to left and right, both sides. -/
import Derived.Test.YtclbkfmelhheaaaMEx
import Derived.Test.YtclbkfmelhheaaaMHd
import Derived.Test.YtclbkfmelhheaaaMN
set_option linter.unusedVariables false
set_option linter.unusedSimpArgs false
namespace Go.E
open Go
def L166 : LFn := ⟨1, (.seq (.reg [⟨(.some 2), (.mv (.c (.lf (.flt .f32 0)))), none⟩, ⟨(.some 3), (.mv (.c (.lf (.flt .f32 0)))), none⟩])
 (.seq (.reg [⟨(.some 4), (.mv (.t 0)), none⟩, ⟨(.some 5), (.bin .sub (.c (.lf (.flt .f32 1065353216))) (.t 4)), none⟩, ⟨(.some 6), (.bin .quo (.t 5) (.c (.lf (.flt .f32 1082130432)))), none⟩, ⟨(.some 7), (.call true 176 [(.t 6)]), none⟩, ⟨(.some 8), (.mv (.t 0)), none⟩, ⟨(.some 9), (.bin .quo (.t 8) (.c (.lf (.flt .f32 1082130432)))), none⟩, ⟨(.some 10), (.call true 176 [(.t 9)]), none⟩, ⟨(.some 2), (.mv (.t 7)), none⟩, ⟨(.some 3), (.mv (.t 10)), none⟩])
 .ret)), [(.tmp 2), (.tmp 3)]⟩
def L169 : LFn := ⟨1, (.seq (.reg [⟨(.some 2), (.mv (.c (.lf (.flt .f32 0)))), none⟩, ⟨(.some 3), (.mv (.c (.lf (.flt .f32 0)))), none⟩, ⟨(.some 4), (.mv (.c (.lf (.bool false)))), none⟩])
 (.seq (.seq (.reg [⟨(.some 5), (.mv (.t 0)), none⟩, ⟨(.some 6), (.call true 77 [(.t 5)]), none⟩, ⟨(.some 7), (.una .not (.t 6)), none⟩])
 (.cond (.t 7) (.seq (.reg [⟨(.some 2), (.mv (.c (.lf (.flt .f32 0)))), none⟩, ⟨(.some 3), (.mv (.c (.lf (.flt .f32 0)))), none⟩, ⟨(.some 4), (.mv (.c (.lf (.bool false)))), none⟩])
 .ret) .skip))
 (.seq (.reg [⟨(.some 8), (.mv (.t 0)), none⟩, ⟨(.some 9), (.bin .sub (.c (.lf (.flt .f32 1065353216))) (.t 8)), none⟩, ⟨(.some 10), (.bin .quo (.t 9) (.c (.lf (.flt .f32 1082130432)))), none⟩, ⟨(.some 11), (.call true 193 [(.t 10)]), none⟩, ⟨(.some 12), (.mv (.t 0)), none⟩, ⟨(.some 13), (.bin .quo (.t 12) (.c (.lf (.flt .f32 1082130432)))), none⟩, ⟨(.some 14), (.call true 193 [(.t 13)]), none⟩, ⟨(.some 2), (.mv (.t 11)), none⟩, ⟨(.some 3), (.mv (.t 14)), none⟩, ⟨(.some 4), (.mv (.c (.lf (.bool true)))), none⟩])
 .ret))), [(.tmp 2), (.tmp 3), (.tmp 4)]⟩
def L65 : LFn := ⟨1, (.seq (.reg [⟨(.some 2), (.mv (.c (.lf (.bool false)))), none⟩])
 (.seq (.reg [⟨(.some 3), (.mv (.t 0)), none⟩, ⟨(.some 4), (.call true 91 [(.t 3), (.c (.lf (.int .i64 0))), (.c (.lf (.int .i64 256)))]), none⟩, ⟨(.some 2), (.mv (.t 4)), none⟩])
 .ret)), [(.tmp 2)]⟩
def L104 : LFn := ⟨2, (.seq (.reg [⟨(.some 4), (.mv (.c (.lf .nils))), none⟩, ⟨(.some 5), (.mv (.c (.lf .nils))), none⟩])
 (.seq (.reg [⟨(.some 16), (.mv (.t 1)), none⟩, ⟨(.some 17), (.make 22 1 4 [(.flt .f32 0)] (.t 16) (.t 16)), none⟩, ⟨(.some 6), (.mv (.t 17)), none⟩])
 (.seq (.reg [⟨(.some 18), (.mv (.t 1)), none⟩, ⟨(.some 19), (.make 22 1 4 [(.flt .f32 0)] (.t 18) (.t 18)), none⟩, ⟨(.some 7), (.mv (.t 19)), none⟩])
 (.seq (.reg [⟨(.some 20), (.mv (.t 0)), none⟩, ⟨(.some 21), (.call false 164 [(.t 20)]), none⟩, ⟨(.some 8), (.mv (.t 21)), none⟩])
 (.seq (.seq (.reg [⟨(.some 22), (.mv (.t 8)), none⟩, ⟨(.some 23), (.len (.t 22)), none⟩, ⟨(.some 24), (.mv (.c (.lf (.int .i64 0)))), none⟩])
 (.block 0 (.loop (.seq (.reg [⟨(.some 25), (.bin .lss (.t 24) (.t 23)), none⟩])
 (.seq (.cond (.t 25) .skip (.exit 0))
 (.seq (.block 1 (.seq (.reg [⟨(.some 26), (.mv (.t 24)), none⟩, ⟨(.some 9), (.mv (.t 26)), none⟩])
 (.seq (.reg [⟨(.some 27), (.mv (.t 0)), none⟩, ⟨(.some 28), (.mv (.t 8)), none⟩, ⟨(.some 29), (.mv (.t 9)), none⟩, ⟨(.some 30), (.iaddr 1 (.t 28) (.t 29)), none⟩, ⟨(.some 31), (.load false 1 (.t 30)), none⟩, ⟨(.some 32), (.iaddr 5 (.t 27) (.t 31)), none⟩, ⟨(.some 33), (.load true 5 (.t 32)), none⟩, ⟨(.some 10), (.alloc 151 [.nils, (.int .i64 0), (.flt .f32 0), (.bool false), (.bool false)]), none⟩, ⟨none, (.store 5 (.t 10) (.t 33)), none⟩])
 (.seq (.reg [⟨(.some 34), (.faddr 1 (.t 10)), none⟩, ⟨(.some 35), (.load false 1 (.t 34)), none⟩, ⟨(.some 36), (.call true 165 [(.t 35)]), none⟩, ⟨(.some 11), (.mv (.t 36)), none⟩])
 (.seq (.reg [⟨(.some 38), (.faddr 2 (.t 10)), none⟩, ⟨(.some 39), (.load false 1 (.t 38)), none⟩, ⟨(.some 40), (.call true 166 [(.t 39)]), none⟩, ⟨(.some 37), (.mv (.t 40)), none⟩, ⟨(.some 41), (.ext (.t 37) 0), none⟩, ⟨(.some 42), (.ext (.t 37) 1), none⟩, ⟨(.some 12), (.mv (.t 41)), none⟩, ⟨(.some 13), (.mv (.t 42)), none⟩])
 (.seq (.reg [⟨(.some 14), (.mv (.c (.lf (.int .i64 0)))), none⟩])
 (.block 2 (.loop (.seq (.seq (.reg [⟨(.some 43), (.mv (.t 14)), none⟩, ⟨(.some 44), (.mv (.t 1)), none⟩, ⟨(.some 45), (.bin .lss (.t 43) (.t 44)), none⟩, ⟨(.some 46), (.mv (.t 45)), none⟩, ⟨(.some 47), (.mv (.t 14)), (.some (46, true))⟩, ⟨(.some 48), (.faddr 0 (.t 10)), (.some (46, true))⟩, ⟨(.some 49), (.load false 1 (.t 48)), (.some (46, true))⟩, ⟨(.some 50), (.len (.t 49)), (.some (46, true))⟩, ⟨(.some 51), (.bin .lss (.t 47) (.t 50)), (.some (46, true))⟩, ⟨(.some 52), (.pick (.t 46) (.t 51) (.c (.lf (.bool false)))), none⟩])
 (.cond (.t 52) .skip (.exit 2)))
 (.seq (.block 3 (.seq (.reg [⟨(.some 55), (.faddr 0 (.t 10)), none⟩, ⟨(.some 56), (.load false 1 (.t 55)), none⟩, ⟨(.some 57), (.mv (.t 14)), none⟩, ⟨(.some 58), (.iaddr 1 (.t 56) (.t 57)), none⟩, ⟨(.some 59), (.load false 1 (.t 58)), none⟩, ⟨(.some 60), (.mv (.t 11)), none⟩, ⟨(.some 61), (.bin .mul (.t 59) (.t 60)), none⟩, ⟨(.some 15), (.mv (.t 61)), none⟩])
 (.seq (.reg [⟨(.some 62), (.mv (.t 6)), none⟩, ⟨(.some 63), (.mv (.t 14)), none⟩, ⟨(.some 64), (.iaddr 1 (.t 62) (.t 63)), none⟩, ⟨(.some 65), (.load false 1 (.t 64)), none⟩, ⟨(.some 66), (.mv (.t 15)), none⟩, ⟨(.some 67), (.mv (.t 12)), none⟩, ⟨(.some 68), (.bin .mul (.t 66) (.t 67)), none⟩, ⟨(.some 69), (.bin .add (.t 65) (.t 68)), none⟩, ⟨(.some 70), (.iaddr 1 (.t 62) (.t 63)), none⟩, ⟨none, (.store 1 (.t 70) (.t 69)), none⟩])
 (.reg [⟨(.some 71), (.mv (.t 7)), none⟩, ⟨(.some 72), (.mv (.t 14)), none⟩, ⟨(.some 73), (.iaddr 1 (.t 71) (.t 72)), none⟩, ⟨(.some 74), (.load false 1 (.t 73)), none⟩, ⟨(.some 75), (.mv (.t 15)), none⟩, ⟨(.some 76), (.mv (.t 13)), none⟩, ⟨(.some 77), (.bin .mul (.t 75) (.t 76)), none⟩, ⟨(.some 78), (.bin .add (.t 74) (.t 77)), none⟩, ⟨(.some 79), (.iaddr 1 (.t 71) (.t 72)), none⟩, ⟨none, (.store 1 (.t 79) (.t 78)), none⟩]))))
 (.reg [⟨(.some 53), (.mv (.t 14)), none⟩, ⟨(.some 54), (.bin .add (.t 53) (.c (.lf (.int .i64 1)))), none⟩, ⟨(.some 14), (.mv (.t 54)), none⟩])))))))))))
 (.reg [⟨(.some 80), (.bin .add (.t 24) (.c (.lf (.int .i64 1)))), none⟩, ⟨(.some 24), (.mv (.t 80)), none⟩])))))))
 (.seq (.reg [⟨(.some 81), (.mv (.t 6)), none⟩, ⟨(.some 82), (.mv (.t 7)), none⟩, ⟨(.some 4), (.mv (.t 81)), none⟩, ⟨(.some 5), (.mv (.t 82)), none⟩])
 .ret)))))), [(.tmp 4), (.tmp 5)]⟩
def L107 : LFn := ⟨2, (.seq (.reg [⟨(.some 4), (.mv (.c (.lf .nils))), none⟩, ⟨(.some 5), (.mv (.c (.lf .nils))), none⟩])
 (.seq (.reg [⟨(.some 19), (.mv (.t 1)), none⟩, ⟨(.some 20), (.call false 125 [(.t 19)]), none⟩, ⟨(.some 21), (.mv (.t 1)), none⟩, ⟨(.some 22), (.call false 125 [(.t 21)]), none⟩, ⟨(.some 6), (.mv (.t 20)), none⟩, ⟨(.some 7), (.mv (.t 22)), none⟩])
 (.seq (.reg [⟨(.some 23), (.mv (.t 0)), none⟩, ⟨(.some 24), (.call false 167 [(.t 23)]), none⟩, ⟨(.some 8), (.mv (.t 24)), none⟩])
 (.seq (.seq (.reg [⟨(.some 25), (.mv (.t 0)), none⟩, ⟨(.some 26), (.len (.t 25)), none⟩, ⟨(.some 27), (.mv (.c (.lf (.int .i64 0)))), none⟩])
 (.block 0 (.loop (.seq (.reg [⟨(.some 28), (.bin .lss (.t 27) (.t 26)), none⟩])
 (.seq (.cond (.t 28) .skip (.exit 0))
 (.seq (.block 1 (.seq (.reg [⟨(.some 29), (.mv (.t 27)), none⟩, ⟨(.some 30), (.iaddr 5 (.t 25) (.t 27)), none⟩, ⟨(.some 31), (.load true 5 (.t 30)), none⟩, ⟨(.some 10), (.alloc 151 [.nils, (.int .i64 0), (.flt .f32 0), (.bool false), (.bool false)]), none⟩, ⟨(.some 9), (.mv (.t 29)), none⟩, ⟨none, (.store 5 (.t 10) (.t 31)), none⟩])
 (.seq (.seq (.reg [⟨(.some 32), (.mv (.t 8)), none⟩, ⟨(.some 33), (.mv (.t 9)), none⟩, ⟨(.some 34), (.iaddr 1 (.t 32) (.t 33)), none⟩, ⟨(.some 35), (.load false 1 (.t 34)), none⟩, ⟨(.some 36), (.una .not (.t 35)), none⟩])
 (.cond (.t 36) (.exit 1) .skip))
 (.seq (.reg [⟨(.some 38), (.faddr 1 (.t 10)), none⟩, ⟨(.some 39), (.load false 1 (.t 38)), none⟩, ⟨(.some 40), (.call true 168 [(.t 39)]), none⟩, ⟨(.some 37), (.mv (.t 40)), none⟩, ⟨(.some 41), (.ext (.t 37) 0), none⟩, ⟨(.some 42), (.ext (.t 37) 1), none⟩, ⟨(.some 11), (.mv (.t 41)), none⟩, ⟨(.some 12), (.mv (.t 42)), none⟩])
 (.seq (.reg [⟨(.some 44), (.faddr 2 (.t 10)), none⟩, ⟨(.some 45), (.load false 1 (.t 44)), none⟩, ⟨(.some 46), (.call true 169 [(.t 45)]), none⟩, ⟨(.some 43), (.mv (.t 46)), none⟩, ⟨(.some 47), (.ext (.t 43) 0), none⟩, ⟨(.some 48), (.ext (.t 43) 1), none⟩, ⟨(.some 49), (.ext (.t 43) 2), none⟩, ⟨(.some 13), (.mv (.t 47)), none⟩, ⟨(.some 14), (.mv (.t 48)), none⟩, ⟨(.some 15), (.mv (.t 49)), none⟩])
 (.seq (.reg [⟨(.some 50), (.faddr 0 (.t 10)), none⟩, ⟨(.some 51), (.load false 1 (.t 50)), none⟩, ⟨(.some 52), (.mv (.t 1)), none⟩, ⟨(.some 53), (.faddr 0 (.t 10)), none⟩, ⟨(.some 54), (.load false 1 (.t 53)), none⟩, ⟨(.some 55), (.len (.t 54)), none⟩, ⟨(.some 56), (.call true 74 [(.t 55)]), none⟩, ⟨(.some 57), (.mnmx false [(.t 52), (.t 56)]), none⟩, ⟨(.some 58), (.slice 1 (.t 51) none (.some (.t 57))), none⟩, ⟨(.some 59), (.len (.t 58)), none⟩, ⟨(.some 60), (.mv (.c (.lf (.int .i64 0)))), none⟩])
 (.block 2 (.loop (.seq (.reg [⟨(.some 61), (.bin .lss (.t 60) (.t 59)), none⟩])
 (.seq (.cond (.t 61) .skip (.exit 2))
 (.seq (.block 3 (.seq (.reg [⟨(.some 62), (.mv (.t 60)), none⟩, ⟨(.some 63), (.iaddr 1 (.t 58) (.t 60)), none⟩, ⟨(.some 64), (.load false 1 (.t 63)), none⟩, ⟨(.some 16), (.mv (.t 62)), none⟩, ⟨(.some 17), (.mv (.t 64)), none⟩])
 (.seq (.reg [⟨(.some 65), (.mv (.t 17)), none⟩, ⟨(.some 66), (.mv (.t 11)), none⟩, ⟨(.some 67), (.bin .mul (.t 65) (.t 66)), none⟩, ⟨(.some 18), (.mv (.t 67)), none⟩])
 (.seq (.reg [⟨(.some 68), (.mv (.t 6)), none⟩, ⟨(.some 69), (.mv (.t 16)), none⟩, ⟨(.some 70), (.iaddr 1 (.t 68) (.t 69)), none⟩, ⟨(.some 71), (.load false 1 (.t 70)), none⟩, ⟨(.some 72), (.mv (.t 18)), none⟩, ⟨(.some 73), (.mv (.t 13)), none⟩, ⟨(.some 74), (.bin .mul (.t 72) (.t 73)), none⟩, ⟨(.some 75), (.bin .add (.t 71) (.t 74)), none⟩, ⟨(.some 76), (.iaddr 1 (.t 68) (.t 69)), none⟩, ⟨none, (.store 1 (.t 76) (.t 75)), none⟩])
 (.reg [⟨(.some 77), (.mv (.t 7)), none⟩, ⟨(.some 78), (.mv (.t 16)), none⟩, ⟨(.some 79), (.iaddr 1 (.t 77) (.t 78)), none⟩, ⟨(.some 80), (.load false 1 (.t 79)), none⟩, ⟨(.some 81), (.mv (.t 18)), none⟩, ⟨(.some 82), (.mv (.t 14)), none⟩, ⟨(.some 83), (.bin .mul (.t 81) (.t 82)), none⟩, ⟨(.some 84), (.bin .add (.t 80) (.t 83)), none⟩, ⟨(.some 85), (.iaddr 1 (.t 77) (.t 78)), none⟩, ⟨none, (.store 1 (.t 85) (.t 84)), none⟩])))))
 (.reg [⟨(.some 86), (.bin .add (.t 60) (.c (.lf (.int .i64 1)))), none⟩, ⟨(.some 60), (.mv (.t 86)), none⟩]))))))))))))
 (.reg [⟨(.some 87), (.bin .add (.t 27) (.c (.lf (.int .i64 1)))), none⟩, ⟨(.some 27), (.mv (.t 87)), none⟩])))))))
 (.seq (.reg [⟨(.some 88), (.mv (.t 6)), none⟩, ⟨(.some 89), (.mv (.t 7)), none⟩, ⟨(.some 4), (.mv (.t 88)), none⟩, ⟨(.some 5), (.mv (.t 89)), none⟩])
 .ret))))), [(.tmp 4), (.tmp 5)]⟩
class HasMk (S : Sys) : Prop extends HasHd S, HasGn S, HasN S where
  f166 : S.fs 166 = some L166
  f169 : S.fs 169 = some L169
  f65 : S.fs 65 = some L65
  f104 : S.fs 104 = some L104
  f107 : S.fs 107 = some L107
def L33 : LFn := ⟨2, (.seq (.reg [⟨(.some 4), (.mv (.c (.lf .nils))), none⟩, ⟨(.some 5), (.mv (.c (.lf .nils))), none⟩, ⟨(.some 6), (.mv (.c (.lf (.bool false)))), none⟩])
 (.seq (.seq (.reg [⟨(.some 9), (.mv (.t 0)), none⟩, ⟨(.some 10), (.call true 103 [(.t 9)]), none⟩, ⟨(.some 11), (.una .not (.t 10)), none⟩, ⟨(.some 12), (.mv (.t 11)), none⟩, ⟨(.some 13), (.mv (.t 1)), (.some (12, false))⟩, ⟨(.some 14), (.call true 85 [(.t 13), (.c (.lf (.int .i64 0))), (.c (.lf (.int .i64 256)))]), (.some (12, false))⟩, ⟨(.some 15), (.una .not (.t 14)), (.some (12, false))⟩, ⟨(.some 16), (.pick (.t 12) (.c (.lf (.bool true))) (.t 15)), none⟩])
 (.cond (.t 16) (.seq (.reg [⟨(.some 4), (.mv (.c (.lf .nils))), none⟩, ⟨(.some 5), (.mv (.c (.lf .nils))), none⟩, ⟨(.some 6), (.mv (.c (.lf (.bool false)))), none⟩])
 .ret) .skip))
 (.seq (.reg [⟨(.some 18), (.mv (.t 0)), none⟩, ⟨(.some 19), (.mv (.t 1)), none⟩, ⟨(.some 20), (.call false 104 [(.t 18), (.t 19)]), none⟩, ⟨(.some 17), (.mv (.t 20)), none⟩, ⟨(.some 21), (.ext (.t 17) 0), none⟩, ⟨(.some 22), (.ext (.t 17) 1), none⟩, ⟨(.some 7), (.mv (.t 21)), none⟩, ⟨(.some 8), (.mv (.t 22)), none⟩])
 (.seq (.reg [⟨(.some 23), (.mv (.t 7)), none⟩, ⟨(.some 24), (.mv (.t 8)), none⟩, ⟨(.some 4), (.mv (.t 23)), none⟩, ⟨(.some 5), (.mv (.t 24)), none⟩, ⟨(.some 6), (.mv (.c (.lf (.bool true)))), none⟩])
 .ret)))), [(.tmp 4), (.tmp 5), (.tmp 6)]⟩
def L35 : LFn := ⟨2, (.seq (.reg [⟨(.some 4), (.mv (.c (.lf .nils))), none⟩, ⟨(.some 5), (.mv (.c (.lf .nils))), none⟩, ⟨(.some 6), (.mv (.c (.lf (.bool false)))), none⟩])
 (.seq (.seq (.reg [⟨(.some 9), (.mv (.t 0)), none⟩, ⟨(.some 10), (.call true 106 [(.t 9)]), none⟩, ⟨(.some 11), (.una .not (.t 10)), none⟩, ⟨(.some 12), (.mv (.t 11)), none⟩, ⟨(.some 13), (.mv (.t 1)), (.some (12, false))⟩, ⟨(.some 14), (.call true 65 [(.t 13)]), (.some (12, false))⟩, ⟨(.some 15), (.una .not (.t 14)), (.some (12, false))⟩, ⟨(.some 16), (.pick (.t 12) (.c (.lf (.bool true))) (.t 15)), none⟩])
 (.cond (.t 16) (.seq (.reg [⟨(.some 4), (.mv (.c (.lf .nils))), none⟩, ⟨(.some 5), (.mv (.c (.lf .nils))), none⟩, ⟨(.some 6), (.mv (.c (.lf (.bool false)))), none⟩])
 .ret) .skip))
 (.seq (.reg [⟨(.some 18), (.mv (.t 0)), none⟩, ⟨(.some 19), (.mv (.t 1)), none⟩, ⟨(.some 20), (.call false 107 [(.t 18), (.t 19)]), none⟩, ⟨(.some 17), (.mv (.t 20)), none⟩, ⟨(.some 21), (.ext (.t 17) 0), none⟩, ⟨(.some 22), (.ext (.t 17) 1), none⟩, ⟨(.some 7), (.mv (.t 21)), none⟩, ⟨(.some 8), (.mv (.t 22)), none⟩])
 (.seq (.reg [⟨(.some 23), (.mv (.t 7)), none⟩, ⟨(.some 24), (.mv (.t 8)), none⟩, ⟨(.some 4), (.mv (.t 23)), none⟩, ⟨(.some 5), (.mv (.t 24)), none⟩, ⟨(.some 6), (.mv (.c (.lf (.bool true)))), none⟩])
 .ret)))), [(.tmp 4), (.tmp 5), (.tmp 6)]⟩
class HasMt (S : Sys) : Prop extends HasMk S where
  f33 : S.fs 33 = some L33
  f35 : S.fs 35 = some L35
/-- The slice up to the j-th. -/
def Lf.to_ (j : Nat) : Lf → Lf
  | .sl id off n s => .sl id off j s
  | l => l
theorem slcV_to {g : Hp} {l : Lf} {sz j : Nat} {rows : List (List Lf)} (hA : Arr g l sz rows) (hsz : 0 < sz) (hj : j ≤ rows.length) : slcV sz (.lf l) none (some (.lf (.int .i64 j))) = some (.lf (l.to_ j)) := by
  have hn := hA.n
  have hs := hA.isS
  cases l <;> simp [Lf.isS] at hs
  · simp [Lf.n] at hn
    have : j = 0 := by omega
    subst this
    simp [slcV, boundV, Lf.to_]
  · subst hs
    simp only [Lf.n] at hn
    simp [slcV, boundV, Lf.to_, hsz]
    omega
theorem Arr.to_ {g : Hp} {l : Lf} {sz j : Nat} {rows : List (List Lf)} (hA : Arr g l sz rows) (hj : j ≤ rows.length) : Arr g (l.to_ j) sz (rows.take j) := by
  have hn := hA.n
  have hs := hA.isS
  have hsm := hA.small
  cases l <;> simp [Lf.isS] at hs
  · simp [Lf.n] at hn
    have : rows = [] := List.length_eq_zero_iff.1 hn.symm
    subst this
    simpa [Lf.to_] using hA
  · subst hs
    simp only [Lf.n] at hn
    refine ⟨rfl, by simp [Lf.to_, Lf.n]; omega, by simp; omega, fun i r hi => ?_⟩
    rw [List.getElem?_take] at hi
    split at hi
    · have := hA.row i r hi
      refine ⟨this.1, ?_⟩
      have h2 := this.2
      simp only [Lf.id, Lf.off, Lf.to_] at h2 ⊢
      exact h2
    · cases hi
/-- The list, to which the first i numbers of another one are added, times two factors. -/
def addG (g a : Nat) (xs out : List Nat) : Nat → List Nat
  | 0 => out
  | i + 1 => (addG g a xs out i).set i (fbin .add .f32 ((addG g a xs out i).getD i 0) (fbin .mul .f32 (fbin .mul .f32 (xs.getD i 0) g) a))
@[simp] theorem addG_len {g a : Nat} {xs out : List Nat} {i : Nat} : (addG g a xs out i).length = out.length := by
  induction i with
  | zero => rfl
  | succ i ih => unfold addG; simp [ih]
theorem addG_succ {g a i : Nat} {xs out : List Nat} (h : i < out.length) (hj : i < xs.length) : addG g a xs out (i + 1) = (addG g a xs out i).set i (fbin .add .f32 ((addG g a xs out i)[i]'(by simpa using h)) (fbin .mul .f32 (fbin .mul .f32 xs[i] g) a)) := by
  rw [addG]
  congr 2
  · simp [h]
  · simp [hj]
def panL (x : Nat) : Nat := sine32 (fbin .quo .f32 (fbin .sub .f32 1065353216 x) 1082130432)
def panR (x : Nat) : Nat := sine32 (fbin .quo .f32 x 1082130432)
/-- What is there with one more track. -/
def oneT (f : Nat → Nat) (ts : List Trk) (n : Nat) (out : List Nat) (k : Nat) : List Nat :=
  addG (gain32 (ts.getD k ⟨[], 0, 0, false, false⟩).tenths) (f (ts.getD k ⟨[], 0, 0, false, false⟩).pan) (ts.getD k ⟨[], 0, 0, false, false⟩).xs out (min n (ts.getD k ⟨[], 0, 0, false, false⟩).xs.length)
theorem oneT_get {f : Nat → Nat} {ps : List (Trk × Lf)} {n : Nat} {out : List Nat} {k : Nat} (hk : k < ps.length) : oneT f (ps.map (·.1)) n out k = addG (gain32 ps[k].1.tenths) (f ps[k].1.pan) ps[k].1.xs out (min n ps[k].1.xs.length) := by
  have e : (ps.map (·.1)).getD k ⟨[], 0, 0, false, false⟩ = ps[k].1 := by simp [hk]
  unfold oneT; rw [e]
def mtTo (f : Nat → Nat) (ts : List Trk) (n : Nat) : Nat → List Nat
  | 0 => List.replicate n 0
  | k + 1 => if hdB ts k = true then oneT f ts n (mtTo f ts n k) k else mtTo f ts n k
@[simp] theorem oneT_len {f : Nat → Nat} {ts : List Trk} {n : Nat} {out : List Nat} {k : Nat} : (oneT f ts n out k).length = out.length := by unfold oneT; simp
@[simp] theorem mtTo_len {f : Nat → Nat} {ts : List Trk} {n k : Nat} : (mtTo f ts n k).length = n := by
  induction k with
  | zero => simp [mtTo]
  | succ k ih => unfold mtTo; split <;> simp [ih]
def mtS (f : Nat → Nat) (ts : List Trk) (n : Nat) (ks : List Int) (j : Nat) : List Nat := (ks.take j).foldl (fun o k => oneT f ts n o k.toNat) (List.replicate n 0)
theorem mtS_zero {f : Nat → Nat} {ts : List Trk} {n : Nat} {ks : List Int} : mtS f ts n ks 0 = List.replicate n 0 := by simp [mtS]
theorem mtS_succ {f : Nat → Nat} {ts : List Trk} {n : Nat} {ks : List Int} {j : Nat} (hj : j < ks.length) : mtS f ts n ks (j + 1) = oneT f ts n (mtS f ts n ks j) ks[j].toNat := by
  unfold mtS
  rw [List.take_succ_eq_append_getElem hj, List.foldl_append]; rfl
@[simp] theorem mtS_len {f : Nat → Nat} {ts : List Trk} {n : Nat} {ks : List Int} : ∀ {j : Nat}, j ≤ ks.length → (mtS f ts n ks j).length = n
  | 0, _ => by simp [mtS]
  | j + 1, hj => by rw [mtS_succ (by omega), oneT_len]; exact mtS_len (by omega)
theorem mt_fold {f : Nat → Nat} {ts : List Trk} {n : Nat} : ∀ {N : Nat}, (hdTo ts N).foldl (fun o k => oneT f ts n o k.toNat) (List.replicate n 0) = mtTo f ts n N
  | 0 => by simp [hdTo, mtTo]
  | N + 1 => by
    rw [hdTo_succ, List.foldl_append, mt_fold (N := N), mtTo]
    split <;> simp
theorem mtS_all {f : Nat → Nat} {ts : List Trk} {n N : Nat} : mtS f ts n (hdTo ts N) (hdTo ts N).length = mtTo f ts n N := by unfold mtS; rw [List.take_length, mt_fold]
theorem hd_get {ts : List Trk} {n j : Nat} (hj : j < (hdTo ts n).length) : ∃ m : Nat, (hdTo ts n)[j] = (m : Int) ∧ m < n := by
  have h := List.getElem_mem hj
  unfold hdTo at h
  obtain ⟨m, hm, e⟩ := List.mem_map.1 h
  exact ⟨m, e.symm, by simpa using (List.mem_filter.1 hm).1⟩
theorem min_i64 {x y : Int} : mnmxV false [.lf (.int .i64 x), .lf (.int .i64 y)] = some (.lf (.int .i64 (min x y))) := by
  have h : (if y < x then y else x) = min x y := by split <;> omega
  simp [mnmxV, mnmx2, h]
def okMt (ts : List Trk) (n : Int) : Prop := areTrk ts ∧ 0 ≤ n ∧ n ≤ 256
noncomputable instance (ts : List Trk) (n : Int) : Decidable (okMt ts n) := Classical.propDecidable _
noncomputable def mtR (f : Nat → Nat) (ts : List Trk) (n : Int) : List Nat := if okMt ts n then mtTo f ts n.toNat ts.length else []
theorem mtR_len {f : Nat → Nat} {ts : List Trk} {n : Int} : (mtR f ts n).length ≤ 256 := by
  unfold mtR
  split
  · rename_i h
    have := h.2
    simp; omega
  · simp
section
variable {S : Sys} {lim : Nat} {h : Hp} {K : CV → Hp → Prop} {l : Lf} {ps : List (Trk × Lf)} [HasMk S]
theorem New.zeros {h g : Hp} {n : Nat} (k : Kept h g) (hn : n ≤ 256) : New h (g ++ [⟨List.replicate n (.flt .f32 0), .own 22 1⟩]) (.sl g.length 0 n 1) 22 1 ((List.replicate n 0).map fl) := by
  have := New.of_sl (k.trans (Kept.app g _)) (Sl.make (h := g) (ty := 22) (sz := 1) (n := n) (z := [.flt .f32 0]) rfl) k.1 (by simp; omega)
  simpa [fl] using this
@[simp] theorem c_isCount {x : Int} : CallT S true 65 [.lf (.int .i64 x)] h lim K = K (.lf (.bool (decide (0 ≤ x ∧ x ≤ 256)))) h := by
  refine CallT_pure (F := L65) (HasMk.f65) rfl (by first | rfl | (split <;> rfl) | simp) ?_; unfold L65; dsimp only []
  repeat' (first | (simp (disch := first | omega | assumption | (simp only [List.length_set]; omega) | (simp [*] <;> fail) | assumption) [-Bool.decide_and, -Bool.decide_or, -Bool.not_and, -Bool.not_or, toNat_pred, toNat_succ, wrap64, wr_new, wr_new0, ok_if, ok_ifn, iadV_sl, makeV_int, decT, decF, over_at, *]) | (with_reducible refine Gd_split (fun hc => ?_) (fun hc => ?_) <;> (have hc2 := hc; try simp at hc2)) | (with_reducible refine Br_split (fun hc => ?_) (fun hc => ?_) <;> (have hc2 := hc; try simp at hc2)) | (with_reducible refine GdT_split (fun hc => ?_) (fun hc => ?_) <;> (have hc2 := hc; try simp at hc2)) | (with_reducible refine WT_alt ?_ ?_) | omega)
theorem c_l07Gains {x : Nat} : CallT S true 166 [.lf (.flt .f32 x)] h lim K = K (.tup [.lf (.flt .f32 (panL x)), .lf (.flt .f32 (panR x))]) h := by
  have s1 := fun h lim K => c_specSine (S := S) (h := h) (lim := lim) (K := K) (f32_lt .quo (fbin .sub .f32 1065353216 x) 1082130432)
  have s2 := fun h lim K => c_specSine (S := S) (h := h) (lim := lim) (K := K) (f32_lt .quo x 1082130432)
  unfold panL panR
  refine CallT_pure (F := L166) (HasMk.f166) rfl (by first | rfl | (split <;> rfl) | simp) ?_; unfold L166; dsimp only []
  repeat' (first | (simp (disch := first | omega | assumption | (simp only [List.length_set]; omega) | (simp [*] <;> fail) | assumption) [-Bool.decide_and, -Bool.decide_or, -Bool.not_and, -Bool.not_or, toNat_pred, toNat_succ, wrap64, wr_new, wr_new0, ok_if, ok_ifn, iadV_sl, makeV_int, decT, decF, over_at, *]) | (with_reducible refine Gd_split (fun hc => ?_) (fun hc => ?_) <;> (have hc2 := hc; try simp at hc2)) | (with_reducible refine Br_split (fun hc => ?_) (fun hc => ?_) <;> (have hc2 := hc; try simp at hc2)) | (with_reducible refine GdT_split (fun hc => ?_) (fun hc => ?_) <;> (have hc2 := hc; try simp at hc2)) | (with_reducible refine WT_alt ?_ ?_) | omega)
theorem c_PanOf {x : Nat} (hx : panB x = true) : CallT S true 169 [.lf (.flt .f32 x)] h lim K = K (.tup [.lf (.flt .f32 (panL x)), .lf (.flt .f32 (panR x)), .lf (.bool true)]) h := by
  have s1 := fun h lim K => c_implSine (S := S) (h := h) (lim := lim) (K := K) (f32_lt .quo (fbin .sub .f32 1065353216 x) 1082130432)
  have s2 := fun h lim K => c_implSine (S := S) (h := h) (lim := lim) (K := K) (f32_lt .quo x 1082130432)
  unfold panL panR
  refine CallT_pure (F := L169) (HasMk.f169) rfl (by first | rfl | (split <;> rfl) | simp) ?_; unfold L169; dsimp only []
  repeat' (first | (simp (disch := first | omega | assumption | (simp only [List.length_set]; omega) | (simp [*] <;> fail) | assumption) [-Bool.decide_and, -Bool.decide_or, -Bool.not_and, -Bool.not_or, toNat_pred, toNat_succ, wrap64, wr_new, wr_new0, ok_if, ok_ifn, iadV_sl, makeV_int, decT, decF, over_at, *]) | (with_reducible refine Gd_split (fun hc => ?_) (fun hc => ?_) <;> (have hc2 := hc; try simp at hc2)) | (with_reducible refine Br_split (fun hc => ?_) (fun hc => ?_) <;> (have hc2 := hc; try simp at hc2)) | (with_reducible refine GdT_split (fun hc => ?_) (fun hc => ?_) <;> (have hc2 := hc; try simp at hc2)) | (with_reducible refine WT_alt ?_ ?_) | omega)
set_option maxHeartbeats 8000000 in
theorem c_l07Both {n : Nat} (hA : Arr h l 5 (ps.map Trk.cells)) (hI : In h Trk.xs ps) (hok : areTrk (ps.map (·.1))) (hn : n ≤ 256) (hl : lim ≤ h.length)
    (hK : ∀ o1 o2 g, New h g o1 22 1 ((mtTo panL (ps.map (·.1)) n ps.length).map fl) → New h g o2 22 1 ((mtTo panR (ps.map (·.1)) n ps.length).map fl) → Far o1 o2 → K (.tup [.lf o1, .lf o2]) g) : CallT S false 104 [.lf l, .lf (.int .i64 n)] h lim K := by
  have h8 : ps.length ≤ 8 := by have := hok.1; simpa using this
  have z1 := (New.zeros (n := n) (Kept.refl h) hn).later (Kept.app _ [⟨List.replicate n (.flt .f32 0), .own 22 1⟩])
  have z2 := New.zeros (n := n) (Kept.app h [⟨List.replicate n (.flt .f32 0), .own 22 1⟩]) hn
  simp only [List.append_assoc, List.cons_append, List.nil_append, List.length_append, List.length_cons, List.length_nil, Nat.zero_add] at z1 z2
  have hkk := Kept.app h [⟨List.replicate n (.flt .f32 0), .own 22 1⟩, ⟨List.replicate n (.flt .f32 0), .own 22 1⟩]
  refine CallT_of_body (F := L104) (HasMk.f104) rfl ?_; unfold L104; dsimp only []
  repeat' (first | (simp (disch := first | omega | assumption | (simp only [List.length_set]; omega) | (simp [*] <;> fail) | assumption) [-Bool.decide_and, -Bool.decide_or, -Bool.not_and, -Bool.not_or, toNat_pred, toNat_succ, wrap64, wr_new, wr_new0, ok_if, ok_ifn, iadV_sl, makeV_int, decT, decF, over_at, *, leavesAll, fillL]) | (with_reducible refine Gd_split (fun hc => ?_) (fun hc => ?_) <;> (have hc2 := hc; try simp at hc2)) | (with_reducible refine Br_split (fun hc => ?_) (fun hc => ?_) <;> (have hc2 := hc; try simp at hc2)) | (with_reducible refine GdT_split (fun hc => ?_) (fun hc => ?_) <;> (have hc2 := hc; try simp at hc2)) | (with_reducible refine WT_alt ?_ ?_) | omega)
  have hfar : Far (.sl h.length 0 n 1) (.sl (h.length + 1) 0 n 1) := fun _ _ => by simp
  refine c_l07Heard (hA.kept hkk) (by omega) (by simp; omega) fun oh g0 hH => ?_
  have hk0 := hkk.trans hH.kept
  have hHA := hH.arr
  obtain ⟨ks, hks⟩ : ∃ ks, hdTo (ps.map (·.1)) ps.length = ks := ⟨_, rfl⟩
  have hget : ∀ j (hj : j < ks.length), ∃ m : Nat, ks[j] = (m : Int) ∧ m < ps.length := by subst hks; exact fun j hj => hd_get hj
  have hfL : Hid (mtS panL (ps.map (·.1)) n ks ks.length = mtTo panL (ps.map (·.1)) n ps.length) := by subst hks; exact mtS_all
  have hfR : Hid (mtS panR (ps.map (·.1)) n ks ks.length = mtTo panR (ps.map (·.1)) n ps.length) := by subst hks; exact mtS_all
  rw [hks] at hHA
  have z1' := z1.later hH.kept
  have z2' := z2.later hH.kept
  have hHb := hH.base hkk
  rw [hks] at hHb
  have hkl : ks.length ≤ 8 := by have := hdTo_len (ts := ps.map (·.1)) (n := ps.length); rw [hks] at this; omega
  have hohid : ∀ s, oh = s → s ≠ .nils → h.length + 2 ≤ s.id := fun s e q => by subst e; have := (hH.lt q).1; simpa using this
  obtain ⟨o1, ho1⟩ : ∃ o1, (.sl h.length 0 n 1 : Lf) = o1 := ⟨_, rfl⟩
  obtain ⟨o2, ho2⟩ : ∃ o2, (.sl (h.length + 1) 0 n 1 : Lf) = o2 := ⟨_, rfl⟩
  have hi1 : o1.id ≤ h.length ∧ h.length ≤ o1.id := by rw [← ho1]; simp
  have hi2 : o2.id ≤ h.length + 1 ∧ h.length + 1 ≤ o2.id := by rw [← ho2]; simp
  have hg00 : h.length + 2 ≤ g0.length := by have := hH.kept.1; simpa using this
  rw [ho1] at z1' hfar
  rw [ho2] at z2' hfar
  rw [ho1, ho2]
  have hfo1 : Far oh o1 := fun p1 p2 e => by have := hohid oh rfl p1; omega
  have hfo2 : Far oh o2 := fun p1 p2 e => by have := hohid oh rfl p1; omega
  clear z1 z2 hks hH ho1 ho2 hohid
  repeat' (first | (simp (disch := first | omega | assumption | (simp only [List.length_set]; omega) | (simp [*] <;> fail) | assumption) [-Bool.decide_and, -Bool.decide_or, -Bool.not_and, -Bool.not_or, toNat_pred, toNat_succ, wrap64, wr_new, wr_new0, ok_if, ok_ifn, iadV_sl, makeV_int, decT, decF, over_at, *, hHA.len]) | (with_reducible refine Gd_split (fun hc => ?_) (fun hc => ?_) <;> (have hc2 := hc; try simp at hc2)) | (with_reducible refine Br_split (fun hc => ?_) (fun hc => ?_) <;> (have hc2 := hc; try simp at hc2)) | (with_reducible refine GdT_split (fun hc => ?_) (fun hc => ?_) <;> (have hc2 := hc; try simp at hc2)) | (with_reducible refine WT_alt ?_ ?_) | omega)
  refine WL_forM 2417851639229258332700160 (by decide +kernel) (ks.length) (fun j b g => j ≤ ks.length ∧ b 24 = .lf (.int .i64 j) ∧ New h g o1 22 1 ((mtS panL (ps.map (·.1)) n ks j).map fl) ∧ New h g o2 22 1 ((mtS panR (ps.map (·.1)) n ks j).map fl) ∧ New h g oh 2 1 (ks.map il) ∧ g0.length ≤ g.length) (fun _ _ _ hi => hi.1) ⟨by omega, by simp, by rw [mtS_zero]; exact z1', by rw [mtS_zero]; exact z2', hHb, Nat.le_refl _⟩ ?_
  rintro j b g ⟨hj, e24, hL, hR, hO, hg0⟩
  have hk := hL.kept
  have hA1 := hA.kept hk
  have hg := hk.1
  have hOA := hO.arr
  by_cases hlt : j < ks.length
  · obtain ⟨m, hm, hms⟩ := hget j hlt
    have hsL := mtS_succ (f := panL) (ts := ps.map (·.1)) (n := n) hlt
    have hsR := mtS_succ (f := panR) (ts := ps.map (·.1)) (n := n) hlt
    rw [hm, Int.toNat_natCast, oneT_get hms] at hsL hsR
    have hrd := hOA.rd1 hlt
    have hat := hOA.at_ (k := .i64) hlt
    rw [hm] at hrd
    have hat2 := hA1.at_ (k := .i64) hms
    have hrd2 := hA1.rd hms
    obtain ⟨o3, ⟨o4, o5⟩, o6⟩ := hok.2 ps[m].1 (List.mem_map.2 ⟨ps[m], List.getElem_mem hms, rfl⟩)
    have hlL : (mtS panL (ps.map (·.1)) n ks j).length = n := mtS_len hj
    have hlR : (mtS panR (ps.map (·.1)) n ks j).length = n := mtS_len hj
    have hgn := fun h lim K => c_l01Gain (S := S) (h := h) (lim := lim) (K := K) (n := ps[m].1.tenths) ⟨o4, o5⟩
    have hpn := fun h lim K => c_l07Gains (S := S) (h := h) (lim := lim) (K := K) (x := ps[m].1.pan)
    have hIm := hI m hms
    generalize mtS panL (ps.map (·.1)) n ks j = oL at *
    generalize mtS panR (ps.map (·.1)) n ks j = oR at *
    have hsLH : Hid (mtS panL (ps.map (·.1)) n ks (j + 1) = addG (gain32 ps[m].1.tenths) (panL ps[m].1.pan) ps[m].1.xs oL (min n ps[m].1.xs.length)) := hsL
    have hsRH : Hid (mtS panR (ps.map (·.1)) n ks (j + 1) = addG (gain32 ps[m].1.tenths) (panR ps[m].1.pan) ps[m].1.xs oR (min n ps[m].1.xs.length)) := hsR
    clear hsL hsR hm hget hK hI
    generalize gain32 ps[m].1.tenths = gn at *
    generalize panL ps[m].1.pan = pl at *
    generalize panR ps[m].1.pan = pr at *
    generalize hxs : ps[m].1.xs = xs at *
    obtain ⟨M, hM⟩ : ∃ M, min n xs.length = M := ⟨_, rfl⟩
    rw [hM] at hsLH hsRH
    have hMn : M ≤ n ∧ M ≤ xs.length ∧ (M = n ∨ M = xs.length) := by omega
    repeat' (first | (simp (disch := first | omega | assumption | (simp only [List.length_set]; omega) | (simp [*] <;> fail) | assumption) [-Bool.decide_and, -Bool.decide_or, -Bool.not_and, -Bool.not_or, toNat_pred, toNat_succ, wrap64, wr_new, wr_new0, ok_if, ok_ifn, iadV_sl, makeV_int, decT, decF, over_at, *, il, Trk.cells, leavesAll, fillL]) | (with_reducible refine Gd_split (fun hc => ?_) (fun hc => ?_) <;> (have hc2 := hc; try simp at hc2)) | (with_reducible refine Br_split (fun hc => ?_) (fun hc => ?_) <;> (have hc2 := hc; try simp at hc2)) | (with_reducible refine GdT_split (fun hc => ?_) (fun hc => ?_) <;> (have hc2 := hc; try simp at hc2)) | (with_reducible refine WT_alt ?_ ?_) | omega)
    refine WL_forM 1208925819605833081733120 (by decide +kernel) (M) (fun i b' g' => i ≤ M ∧ b' 14 = .lf (.int .i64 i) ∧ New h g' o1 22 1 ((addG gn pl xs oL i).map fl) ∧ New h g' o2 22 1 ((addG gn pr xs oR i).map fl) ∧ New h g' oh 2 1 (ks.map il) ∧ Cel g' g.length 151 [ps[m].2, .int .i64 ps[m].1.tenths, .flt .f32 ps[m].1.pan, .bool ps[m].1.mute, .bool ps[m].1.solo]) (fun _ _ _ hi => hi.1) ⟨by omega, by simp, hL.app, hR.app, hO.app, Cel.new⟩ ?_
    rintro i b' g' ⟨hi, e14, hL2, hR2, hO2, hc⟩
    have r0 := hc.rd (off := 0) (n := 1) (by simp)
    simp only [List.drop_zero, List.take_succ_cons, List.take_zero] at r0
    have hX := hIm.kept hL2.kept
    have hll : (addG gn pl xs oL i).length = n := by rw [addG_len, hlL]
    have hlr : (addG gn pr xs oR i).length = n := by rw [addG_len, hlR]
    by_cases hlt2 : i < M
    · have c1 : (i : Int) < n := by omega
      have c2 : i < xs.length := by omega
      have c2' : (i : Int) < xs.length := by omega
      have s1 := addG_succ (g := gn) (a := pl) (xs := xs) (out := oL) (i := i) (by omega) c2
      have s2 := addG_succ (g := gn) (a := pr) (xs := xs) (out := oR) (i := i) (by omega) c2
      have s1H : Hid (addG gn pl xs oL (i + 1) = (addG gn pl xs oL i).set i (fbin .add .f32 ((addG gn pl xs oL i)[i]'(by omega)) (fbin .mul .f32 (fbin .mul .f32 xs[i] gn) pl))) := s1
      have s2H : Hid (addG gn pr xs oR (i + 1) = (addG gn pr xs oR i).set i (fbin .add .f32 ((addG gn pr xs oR i)[i]'(by omega)) (fbin .mul .f32 (fbin .mul .f32 xs[i] gn) pr))) := s2
      clear s1 s2
      have hiL : i < (addG gn pl xs oL i).length := by omega
      have hiR : i < (addG gn pr xs oR i).length := by omega
      have aL := hL2.arr.at_ (k := .i64) hiL
      have dL := hL2.arr.rd1 hiL
      have aR := hR2.arr.at_ (k := .i64) hiR
      have wL := fun v K => oc_wr (lim := lim) (K := K) (i := i) (c := .flt .f32 v) hL2 (by simpa using hiL) hl
      repeat' (first | (simp (disch := first | omega | assumption | (simp only [List.length_set]; omega) | (simp [*] <;> fail) | assumption) [-Bool.decide_and, -Bool.decide_or, -Bool.not_and, -Bool.not_or, toNat_pred, toNat_succ, wrap64, wr_new, wr_new0, ok_if, ok_ifn, iadV_sl, makeV_int, decT, decF, over_at, *, hX.len, hX.at_, hX.at_', hX.rd, hX.rdIn, hX.rdIn0, hX.rdA, hX.rdInA, hX.rdIn0A, hX.rd1, fl]) | (with_reducible refine Gd_split (fun hc => ?_) (fun hc => ?_) <;> (have hc2 := hc; try simp at hc2)) | (with_reducible refine Br_split (fun hc => ?_) (fun hc => ?_) <;> (have hc2 := hc; try simp at hc2)) | (with_reducible refine GdT_split (fun hc => ?_) (fun hc => ?_) <;> (have hc2 := hc; try simp at hc2)) | (with_reducible refine WT_alt ?_ ?_) | omega)
      refine wL _ _ fun g3 hL3 hB3 => ?_
      rw [fl_set] at hL3
      have hR3 := (hB3.buts).new hR2 (fun s hs q => by rw [List.mem_singleton] at hs; subst hs; omega) (fun s hs => by rw [List.mem_singleton] at hs; subst hs; exact hfar)
      have hO3 := (hB3.buts).new hO2 (fun s hs q => by rw [List.mem_singleton] at hs; subst hs; omega) (fun s hs => by rw [List.mem_singleton] at hs; subst hs; exact hfo1.symm)
      have hc3 := hc.but hB3 (fun _ => by omega)
      have dR := hR3.arr.rd1 hiR
      have wR := fun v K => oc_wr (lim := lim) (K := K) (i := i) (c := .flt .f32 v) hR3 (by simpa using hiR) hl
      have hX3 := hIm.kept hL3.kept
      clear wL dL aL r0 hX hL2 hR2 hO2 hc
      repeat' (first | (simp (disch := first | omega | assumption | (simp only [List.length_set]; omega) | (simp [*] <;> fail) | assumption) [-Bool.decide_and, -Bool.decide_or, -Bool.not_and, -Bool.not_or, toNat_pred, toNat_succ, wrap64, wr_new, wr_new0, ok_if, ok_ifn, iadV_sl, makeV_int, decT, decF, over_at, *, fl]) | (with_reducible refine Gd_split (fun hc => ?_) (fun hc => ?_) <;> (have hc2 := hc; try simp at hc2)) | (with_reducible refine Br_split (fun hc => ?_) (fun hc => ?_) <;> (have hc2 := hc; try simp at hc2)) | (with_reducible refine GdT_split (fun hc => ?_) (fun hc => ?_) <;> (have hc2 := hc; try simp at hc2)) | (with_reducible refine WT_alt ?_ ?_) | omega)
      refine wR _ _ fun g4 hR4 hB4 => ?_
      rw [fl_set] at hR4
      have hL4 := (hB4.buts).new hL3 (fun s hs q => by rw [List.mem_singleton] at hs; subst hs; omega) (fun s hs => by rw [List.mem_singleton] at hs; subst hs; exact hfar.symm)
      have hO4 := (hB4.buts).new hO3 (fun s hs q => by rw [List.mem_singleton] at hs; subst hs; omega) (fun s hs => by rw [List.mem_singleton] at hs; subst hs; exact hfo2.symm)
      have hc4 := hc3.but hB4 (fun _ => by omega)
      rw [← show addG gn pl xs oL (i + 1) = _ from s1H] at hL4
      rw [← show addG gn pr xs oR (i + 1) = _ from s2H] at hR4
      clear wR dR aR hX3 hL3 hR3 hO3 hc3 s1H s2H
      repeat' (first | (simp (disch := first | omega | assumption | (simp only [List.length_set]; omega) | (simp [*] <;> fail) | assumption) [-Bool.decide_and, -Bool.decide_or, -Bool.not_and, -Bool.not_or, toNat_pred, toNat_succ, wrap64, wr_new, wr_new0, ok_if, ok_ifn, iadV_sl, makeV_int, decT, decF, over_at, *]) | (with_reducible refine Gd_split (fun hc => ?_) (fun hc => ?_) <;> (have hc2 := hc; try simp at hc2)) | (with_reducible refine Br_split (fun hc => ?_) (fun hc => ?_) <;> (have hc2 := hc; try simp at hc2)) | (with_reducible refine GdT_split (fun hc => ?_) (fun hc => ?_) <;> (have hc2 := hc; try simp at hc2)) | (with_reducible refine WT_alt ?_ ?_) | omega)
    · have : i = M := by omega
      subst this
      have hgl := hc.lt
      rcases hMn.2.2 with q | q
      · have c1 : ¬ (i : Int) < n := by omega
        repeat' (first | (simp (disch := first | omega | assumption | (simp only [List.length_set]; omega) | (simp [*] <;> fail) | assumption) [-Bool.decide_and, -Bool.decide_or, -Bool.not_and, -Bool.not_or, toNat_pred, toNat_succ, wrap64, wr_new, wr_new0, ok_if, ok_ifn, iadV_sl, makeV_int, decT, decF, over_at, *, hX.len]) | (with_reducible refine Gd_split (fun hc => ?_) (fun hc => ?_) <;> (have hc2 := hc; try simp at hc2)) | (with_reducible refine Br_split (fun hc => ?_) (fun hc => ?_) <;> (have hc2 := hc; try simp at hc2)) | (with_reducible refine GdT_split (fun hc => ?_) (fun hc => ?_) <;> (have hc2 := hc; try simp at hc2)) | (with_reducible refine WT_alt ?_ ?_) | omega)
        all_goals (repeat' apply And.intro) <;> first | assumption | omega | (rw [show mtS panL _ n ks (j + 1) = _ from hsLH]; assumption) | (rw [show mtS panR _ n ks (j + 1) = _ from hsRH]; assumption)
      · have c2 : ¬ (i : Int) < xs.length := by omega
        by_cases c1 : (i : Int) < n
        · repeat' (first | (simp (disch := first | omega | assumption | (simp only [List.length_set]; omega) | (simp [*] <;> fail) | assumption) [-Bool.decide_and, -Bool.decide_or, -Bool.not_and, -Bool.not_or, toNat_pred, toNat_succ, wrap64, wr_new, wr_new0, ok_if, ok_ifn, iadV_sl, makeV_int, decT, decF, over_at, *, hX.len]) | (with_reducible refine Gd_split (fun hc => ?_) (fun hc => ?_) <;> (have hc2 := hc; try simp at hc2)) | (with_reducible refine Br_split (fun hc => ?_) (fun hc => ?_) <;> (have hc2 := hc; try simp at hc2)) | (with_reducible refine GdT_split (fun hc => ?_) (fun hc => ?_) <;> (have hc2 := hc; try simp at hc2)) | (with_reducible refine WT_alt ?_ ?_) | omega)
          all_goals (repeat' apply And.intro) <;> first | assumption | omega | (rw [show mtS panL _ n ks (j + 1) = _ from hsLH]; assumption) | (rw [show mtS panR _ n ks (j + 1) = _ from hsRH]; assumption)
        · repeat' (first | (simp (disch := first | omega | assumption | (simp only [List.length_set]; omega) | (simp [*] <;> fail) | assumption) [-Bool.decide_and, -Bool.decide_or, -Bool.not_and, -Bool.not_or, toNat_pred, toNat_succ, wrap64, wr_new, wr_new0, ok_if, ok_ifn, iadV_sl, makeV_int, decT, decF, over_at, *, hX.len]) | (with_reducible refine Gd_split (fun hc => ?_) (fun hc => ?_) <;> (have hc2 := hc; try simp at hc2)) | (with_reducible refine Br_split (fun hc => ?_) (fun hc => ?_) <;> (have hc2 := hc; try simp at hc2)) | (with_reducible refine GdT_split (fun hc => ?_) (fun hc => ?_) <;> (have hc2 := hc; try simp at hc2)) | (with_reducible refine WT_alt ?_ ?_) | omega)
          all_goals (repeat' apply And.intro) <;> first | assumption | omega | (rw [show mtS panL _ n ks (j + 1) = _ from hsLH]; assumption) | (rw [show mtS panR _ n ks (j + 1) = _ from hsRH]; assumption)
  · have : j = ks.length := by omega
    subst this
    rw [show mtS panL _ n ks ks.length = _ from hfL] at hL
    rw [show mtS panR _ n ks ks.length = _ from hfR] at hR
    have hk2 := hK _ _ _ hL hR hfar
    clear hK
    repeat' (first | (simp (disch := first | omega | assumption | (simp only [List.length_set]; omega) | (simp [*] <;> fail) | assumption) [-Bool.decide_and, -Bool.decide_or, -Bool.not_and, -Bool.not_or, toNat_pred, toNat_succ, wrap64, wr_new, wr_new0, ok_if, ok_ifn, iadV_sl, makeV_int, decT, decF, over_at, *, hOA.len]) | (with_reducible refine Gd_split (fun hc => ?_) (fun hc => ?_) <;> (have hc2 := hc; try simp at hc2)) | (with_reducible refine Br_split (fun hc => ?_) (fun hc => ?_) <;> (have hc2 := hc; try simp at hc2)) | (with_reducible refine GdT_split (fun hc => ?_) (fun hc => ?_) <;> (have hc2 := hc; try simp at hc2)) | (with_reducible refine WT_alt ?_ ?_) | omega)
set_option maxHeartbeats 8000000 in
theorem c_mixTracks {n : Nat} (hA : Arr h l 5 (ps.map Trk.cells)) (hI : In h Trk.xs ps) (hok : areTrk (ps.map (·.1))) (hn : n ≤ 256) (hl : lim ≤ h.length)
    (hK : ∀ o1 o2 g, New h g o1 22 1 ((mtTo panL (ps.map (·.1)) n ps.length).map fl) → New h g o2 22 1 ((mtTo panR (ps.map (·.1)) n ps.length).map fl) → Far o1 o2 → K (.tup [.lf o1, .lf o2]) g) : CallT S false 107 [.lf l, .lf (.int .i64 n)] h lim K := by
  have h8 : ps.length ≤ 8 := by have := hok.1; simpa using this
  refine CallT_of_body (F := L107) (HasMk.f107) rfl ?_; unfold L107; dsimp only []
  repeat' (first | (simp (disch := first | omega | assumption | (simp only [List.length_set]; omega) | (simp [*] <;> fail) | assumption) [-Bool.decide_and, -Bool.decide_or, -Bool.not_and, -Bool.not_or, toNat_pred, toNat_succ, wrap64, wr_new, wr_new0, ok_if, ok_ifn, iadV_sl, makeV_int, decT, decF, over_at, *]) | (with_reducible refine Gd_split (fun hc => ?_) (fun hc => ?_) <;> (have hc2 := hc; try simp at hc2)) | (with_reducible refine Br_split (fun hc => ?_) (fun hc => ?_) <;> (have hc2 := hc; try simp at hc2)) | (with_reducible refine GdT_split (fun hc => ?_) (fun hc => ?_) <;> (have hc2 := hc; try simp at hc2)) | (with_reducible refine WT_alt ?_ ?_) | omega)
  refine c_zeros (by omega) hl fun o1 ga z1 => ?_
  have hga := z1.kept.1
  repeat' (first | (simp (disch := first | omega | assumption | (simp only [List.length_set]; omega) | (simp [*] <;> fail) | assumption) [-Bool.decide_and, -Bool.decide_or, -Bool.not_and, -Bool.not_or, toNat_pred, toNat_succ, wrap64, wr_new, wr_new0, ok_if, ok_ifn, iadV_sl, makeV_int, decT, decF, over_at, *]) | (with_reducible refine Gd_split (fun hc => ?_) (fun hc => ?_) <;> (have hc2 := hc; try simp at hc2)) | (with_reducible refine Br_split (fun hc => ?_) (fun hc => ?_) <;> (have hc2 := hc; try simp at hc2)) | (with_reducible refine GdT_split (fun hc => ?_) (fun hc => ?_) <;> (have hc2 := hc; try simp at hc2)) | (with_reducible refine WT_alt ?_ ?_) | omega)
  refine c_zeros (by omega) (by omega) fun o2 gb z2 => ?_
  have hgb := z2.kept.1
  have hfar : Far o1 o2 := fun p1 p2 e => by have := (z1.lt p1).2; have := (z2.lt p2).1; omega
  have hkab := z1.kept.trans z2.kept
  repeat' (first | (simp (disch := first | omega | assumption | (simp only [List.length_set]; omega) | (simp [*] <;> fail) | assumption) [-Bool.decide_and, -Bool.decide_or, -Bool.not_and, -Bool.not_or, toNat_pred, toNat_succ, wrap64, wr_new, wr_new0, ok_if, ok_ifn, iadV_sl, makeV_int, decT, decF, over_at, *]) | (with_reducible refine Gd_split (fun hc => ?_) (fun hc => ?_) <;> (have hc2 := hc; try simp at hc2)) | (with_reducible refine Br_split (fun hc => ?_) (fun hc => ?_) <;> (have hc2 := hc; try simp at hc2)) | (with_reducible refine GdT_split (fun hc => ?_) (fun hc => ?_) <;> (have hc2 := hc; try simp at hc2)) | (with_reducible refine WT_alt ?_ ?_) | omega)
  refine c_heardTracks (hA.kept hkab) (by omega) (by omega) fun ob g0 hH => ?_
  have hk0 := hkab.trans hH.kept
  have hfo1 : Far ob o1 := fun p1 p2 e => by have := (hH.lt p1).1; have := (z1.lt p2).2; omega
  have hfo2 : Far ob o2 := fun p1 p2 e => by have := (hH.lt p1).1; have := (z2.lt p2).2; omega
  have z1' := z1.later (z2.kept.trans hH.kept)
  have z2' := (z2.later hH.kept).base z1.kept
  have hHb := hH.base hkab
  have hlo1 : o1 ≠ .nils → h.length ≤ o1.id := fun q => (z1.lt q).1
  have hlo2 : o2 ≠ .nils → h.length ≤ o2.id := fun q => (z1'.kept.1 |> fun _ => by have := (z2.lt q).1; omega)
  have hid1 : o1 ≠ .nils → o1.id < g0.length := fun q => by have := (z1'.lt q).2; exact this
  have hid2 : o2 ≠ .nils → o2.id < g0.length := fun q => by have := (z2'.lt q).2; exact this
  clear z1 z2 hH
  repeat' (first | (simp (disch := first | omega | assumption | (simp only [List.length_set]; omega) | (simp [*] <;> fail) | assumption) [-Bool.decide_and, -Bool.decide_or, -Bool.not_and, -Bool.not_or, toNat_pred, toNat_succ, wrap64, wr_new, wr_new0, ok_if, ok_ifn, iadV_sl, makeV_int, decT, decF, over_at, *, (hA.kept hk0).len]) | (with_reducible refine Gd_split (fun hc => ?_) (fun hc => ?_) <;> (have hc2 := hc; try simp at hc2)) | (with_reducible refine Br_split (fun hc => ?_) (fun hc => ?_) <;> (have hc2 := hc; try simp at hc2)) | (with_reducible refine GdT_split (fun hc => ?_) (fun hc => ?_) <;> (have hc2 := hc; try simp at hc2)) | (with_reducible refine WT_alt ?_ ?_) | omega)
  refine WL_forM 309485009821345068591087104 (by decide +kernel) (ps.length) (fun k b g => k ≤ ps.length ∧ b 27 = .lf (.int .i64 k) ∧ New h g o1 22 1 ((mtTo panL (ps.map (·.1)) n k).map fl) ∧ New h g o2 22 1 ((mtTo panR (ps.map (·.1)) n k).map fl) ∧ New h g ob 4 1 ((tabTo (hdB (ps.map (·.1))) ps.length).map bl) ∧ g0.length ≤ g.length) (fun _ _ _ hi => hi.1) ⟨by omega, by simp, z1', z2', hHb, Nat.le_refl _⟩ ?_
  rintro m b g ⟨hj, e27, hL, hR, hO, hg0⟩
  have hk := hL.kept
  have hA1 := hA.kept hk
  have hg := hk.1
  have hOA := hO.arr
  by_cases hms : m < ps.length
  · have hlt2 : m < (tabTo (hdB (ps.map (·.1))) ps.length).length := by rw [tabTo_len]; exact hms
    have hrd := fun t => hOA.rd1A (t := t) hlt2
    have hat := hOA.at_ (k := .i64) hlt2
    have hv2 : (tabTo (hdB (ps.map (·.1))) ps.length)[m] = hdB (ps.map (·.1)) m := by simp [tabTo]
    simp only [hv2] at hrd
    clear hv2
    cases hd : hdB (ps.map (·.1)) m
    · have sL : Hid (mtTo panL (ps.map (·.1)) n (m + 1) = mtTo panL (ps.map (·.1)) n m) := by show _ = _; rw [mtTo, hd]; rfl
      have sR : Hid (mtTo panR (ps.map (·.1)) n (m + 1) = mtTo panR (ps.map (·.1)) n m) := by show _ = _; rw [mtTo, hd]; rfl
      simp only [hd] at hrd
      have hL2 := hL.app (t := [⟨[ps[m].2, .int .i64 ps[m].1.tenths, .flt .f32 ps[m].1.pan, .bool ps[m].1.mute, .bool ps[m].1.solo], .own 151 1⟩])
      have hR2 := hR.app (t := [⟨[ps[m].2, .int .i64 ps[m].1.tenths, .flt .f32 ps[m].1.pan, .bool ps[m].1.mute, .bool ps[m].1.solo], .own 151 1⟩])
      have hO2 := hO.app (t := [⟨[ps[m].2, .int .i64 ps[m].1.tenths, .flt .f32 ps[m].1.pan, .bool ps[m].1.mute, .bool ps[m].1.solo], .own 151 1⟩])
      clear hK hd hL hR hO
      repeat' (first | (simp (disch := first | omega | assumption | (simp only [List.length_set]; omega) | (simp [*] <;> fail) | assumption) [-Bool.decide_and, -Bool.decide_or, -Bool.not_and, -Bool.not_or, toNat_pred, toNat_succ, wrap64, wr_new, wr_new0, ok_if, ok_ifn, iadV_sl, makeV_int, decT, decF, over_at, *, hA1.len, hA1.at_, hA1.at_', hA1.rd, hA1.rdIn, hA1.rdIn0, hA1.rdA, hA1.rdInA, hA1.rdIn0A, bl, Trk.cells, leavesAll, fillL]) | (with_reducible refine Gd_split (fun hc => ?_) (fun hc => ?_) <;> (have hc2 := hc; try simp at hc2)) | (with_reducible refine Br_split (fun hc => ?_) (fun hc => ?_) <;> (have hc2 := hc; try simp at hc2)) | (with_reducible refine GdT_split (fun hc => ?_) (fun hc => ?_) <;> (have hc2 := hc; try simp at hc2)) | (with_reducible refine WT_alt ?_ ?_) | omega)
      all_goals (repeat' apply And.intro) <;> first | assumption | omega | (rw [show mtTo panL _ n (m + 1) = _ from sL]; assumption) | (rw [show mtTo panR _ n (m + 1) = _ from sR]; assumption) | (simp; omega)
    · simp only [hd] at hrd
      have hsL : mtTo panL (ps.map (·.1)) n (m + 1) = oneT panL (ps.map (·.1)) n (mtTo panL (ps.map (·.1)) n m) m := by rw [mtTo, if_pos hd]
      have hsR : mtTo panR (ps.map (·.1)) n (m + 1) = oneT panR (ps.map (·.1)) n (mtTo panR (ps.map (·.1)) n m) m := by rw [mtTo, if_pos hd]
      rw [oneT_get hms] at hsL hsR
      obtain ⟨o3, ⟨o4, o5⟩, o6⟩ := hok.2 ps[m].1 (List.mem_map.2 ⟨ps[m], List.getElem_mem hms, rfl⟩)
      have hlL : (mtTo panL (ps.map (·.1)) n m).length = n := mtTo_len
      have hlR : (mtTo panR (ps.map (·.1)) n m).length = n := mtTo_len
      have hgn := fun h lim K => c_GainOf (S := S) (h := h) (lim := lim) (K := K) (n := ps[m].1.tenths) ⟨o4, o5⟩ (fun h lim K => by rw [c_isTenths, decide_eq_true (show -2000 ≤ ps[m].1.tenths ∧ ps[m].1.tenths ≤ 2000 from ⟨o4, o5⟩)])
      have hpn := fun h lim K => c_PanOf (S := S) (h := h) (lim := lim) (K := K) (x := ps[m].1.pan) o6
      have hIm := hI m hms
      generalize mtTo panL (ps.map (·.1)) n m = oL at *
      generalize mtTo panR (ps.map (·.1)) n m = oR at *
      have hsLH : Hid (mtTo panL (ps.map (·.1)) n (m + 1) = addG (gain32 ps[m].1.tenths) (panL ps[m].1.pan) ps[m].1.xs oL (min n ps[m].1.xs.length)) := hsL
      have hsRH : Hid (mtTo panR (ps.map (·.1)) n (m + 1) = addG (gain32 ps[m].1.tenths) (panR ps[m].1.pan) ps[m].1.xs oR (min n ps[m].1.xs.length)) := hsR
      clear hsL hsR hK hI hd
      generalize gain32 ps[m].1.tenths = gn at *
      generalize panL ps[m].1.pan = pl at *
      generalize panR ps[m].1.pan = pr at *
      generalize hxs : ps[m].1.xs = xs at *
      obtain ⟨M, hM⟩ : ∃ M, min n xs.length = M := ⟨_, rfl⟩
      rw [hM] at hsLH hsRH
      have hMm : min (n : Int) (xs.length : Int) = (M : Int) := by omega
      have hMn : M ≤ n ∧ M ≤ xs.length ∧ (M = n ∨ M = xs.length) := by omega
      have hsl := slcV_to hIm (j := M) (by decide) (by simpa using hMn.2.1)
      have hT := hIm.to_ (j := M) (by simpa using hMn.2.1)
      obtain ⟨ws, hws⟩ : ∃ ws, xs.take M = ws := ⟨_, rfl⟩
      rw [← List.map_take, hws] at hT
      have hwl : ws.length = M := by rw [← hws, List.length_take]; omega
      have hwg : ∀ i (h1 : i < ws.length) (h2 : i < xs.length), ws[i] = xs[i] := by subst hws; intro i h1 h2; simp
      have hTl := hT.len
      rw [hwl] at hTl
      clear hws
      generalize hwt : ps[m].2.to_ M = wl at *
      repeat' (first | (simp (disch := first | omega | assumption | (simp only [List.length_set]; omega) | (simp [*] <;> fail) | assumption) [-Bool.decide_and, -Bool.decide_or, -Bool.not_and, -Bool.not_or, toNat_pred, toNat_succ, wrap64, wr_new, wr_new0, ok_if, ok_ifn, iadV_sl, makeV_int, decT, decF, over_at, *, Trk.cells, bl, leavesAll, fillL, min_i64, hIm.len, hA1.len, hA1.at_, hA1.at_', hA1.rd, hA1.rdIn, hA1.rdIn0, hA1.rdA, hA1.rdInA, hA1.rdIn0A]) | (with_reducible refine Gd_split (fun hc => ?_) (fun hc => ?_) <;> (have hc2 := hc; try simp at hc2)) | (with_reducible refine Br_split (fun hc => ?_) (fun hc => ?_) <;> (have hc2 := hc; try simp at hc2)) | (with_reducible refine GdT_split (fun hc => ?_) (fun hc => ?_) <;> (have hc2 := hc; try simp at hc2)) | (with_reducible refine WT_alt ?_ ?_) | omega)
      refine WL_forM 154742503757751029756002304 (by decide +kernel) (M) (fun i b' g' => i ≤ M ∧ b' 60 = .lf (.int .i64 i) ∧ New h g' o1 22 1 ((addG gn pl xs oL i).map fl) ∧ New h g' o2 22 1 ((addG gn pr xs oR i).map fl) ∧ New h g' ob 4 1 ((tabTo (hdB (ps.map (·.1))) ps.length).map bl) ∧ g.length < g'.length) (fun _ _ _ hi => hi.1) ⟨by omega, by simp, hL.app, hR.app, hO.app, by simp⟩ ?_
      rintro i b' g' ⟨hi, e14, hL2, hR2, hO2, hgg⟩
      have hX := hT.kept hL2.kept
      have hll : (addG gn pl xs oL i).length = n := by rw [addG_len, hlL]
      have hlr : (addG gn pr xs oR i).length = n := by rw [addG_len, hlR]
      by_cases hlt2 : i < M
      · have c2 : i < xs.length := by omega
        have c3 : i < ws.length := by omega
        have hwx := hwg i c3 c2
        have s1 := addG_succ (g := gn) (a := pl) (xs := xs) (out := oL) (i := i) (by omega) c2
        have s2 := addG_succ (g := gn) (a := pr) (xs := xs) (out := oR) (i := i) (by omega) c2
        rw [← hwx] at s1 s2
        have s1H : Hid (addG gn pl xs oL (i + 1) = (addG gn pl xs oL i).set i (fbin .add .f32 ((addG gn pl xs oL i)[i]'(by omega)) (fbin .mul .f32 (fbin .mul .f32 ws[i] gn) pl))) := s1
        have s2H : Hid (addG gn pr xs oR (i + 1) = (addG gn pr xs oR i).set i (fbin .add .f32 ((addG gn pr xs oR i)[i]'(by omega)) (fbin .mul .f32 (fbin .mul .f32 ws[i] gn) pr))) := s2
        clear s1 s2 hwx hwg
        have hiL : i < (addG gn pl xs oL i).length := by omega
        have hiR : i < (addG gn pr xs oR i).length := by omega
        have aL := hL2.arr.at_ (k := .i64) hiL
        have dL := hL2.arr.rd1 hiL
        have aR := hR2.arr.at_ (k := .i64) hiR
        have wL := fun v K => oc_wr (lim := lim) (K := K) (i := i) (c := .flt .f32 v) hL2 (by simpa using hiL) hl
        repeat' (first | (simp (disch := first | omega | assumption | (simp only [List.length_set]; omega) | (simp [*] <;> fail) | assumption) [-Bool.decide_and, -Bool.decide_or, -Bool.not_and, -Bool.not_or, toNat_pred, toNat_succ, wrap64, wr_new, wr_new0, ok_if, ok_ifn, iadV_sl, makeV_int, decT, decF, over_at, *, hX.len, hX.at_, hX.at_', hX.rd, hX.rdIn, hX.rdIn0, hX.rdA, hX.rdInA, hX.rdIn0A, hX.rd1, fl]) | (with_reducible refine Gd_split (fun hc => ?_) (fun hc => ?_) <;> (have hc2 := hc; try simp at hc2)) | (with_reducible refine Br_split (fun hc => ?_) (fun hc => ?_) <;> (have hc2 := hc; try simp at hc2)) | (with_reducible refine GdT_split (fun hc => ?_) (fun hc => ?_) <;> (have hc2 := hc; try simp at hc2)) | (with_reducible refine WT_alt ?_ ?_) | omega)
        refine wL _ _ fun g3 hL3 hB3 => ?_
        rw [fl_set] at hL3
        have hR3 := (hB3.buts).new hR2 (fun s hs q => by rw [List.mem_singleton] at hs; subst hs; exact hlo1 q) (fun s hs => by rw [List.mem_singleton] at hs; subst hs; exact hfar)
        have hO3 := (hB3.buts).new hO2 (fun s hs q => by rw [List.mem_singleton] at hs; subst hs; exact hlo1 q) (fun s hs => by rw [List.mem_singleton] at hs; subst hs; exact hfo1.symm)
        have dR := hR3.arr.rd1 hiR
        have wR := fun v K => oc_wr (lim := lim) (K := K) (i := i) (c := .flt .f32 v) hR3 (by simpa using hiR) hl
        have hl3 := hB3.len
        clear wL dL aL hX hL2 hR2 hO2 hB3
        repeat' (first | (simp (disch := first | omega | assumption | (simp only [List.length_set]; omega) | (simp [*] <;> fail) | assumption) [-Bool.decide_and, -Bool.decide_or, -Bool.not_and, -Bool.not_or, toNat_pred, toNat_succ, wrap64, wr_new, wr_new0, ok_if, ok_ifn, iadV_sl, makeV_int, decT, decF, over_at, *, fl]) | (with_reducible refine Gd_split (fun hc => ?_) (fun hc => ?_) <;> (have hc2 := hc; try simp at hc2)) | (with_reducible refine Br_split (fun hc => ?_) (fun hc => ?_) <;> (have hc2 := hc; try simp at hc2)) | (with_reducible refine GdT_split (fun hc => ?_) (fun hc => ?_) <;> (have hc2 := hc; try simp at hc2)) | (with_reducible refine WT_alt ?_ ?_) | omega)
        refine wR _ _ fun g4 hR4 hB4 => ?_
        rw [fl_set] at hR4
        have hL4 := (hB4.buts).new hL3 (fun s hs q => by rw [List.mem_singleton] at hs; subst hs; exact hlo2 q) (fun s hs => by rw [List.mem_singleton] at hs; subst hs; exact hfar.symm)
        have hO4 := (hB4.buts).new hO3 (fun s hs q => by rw [List.mem_singleton] at hs; subst hs; exact hlo2 q) (fun s hs => by rw [List.mem_singleton] at hs; subst hs; exact hfo2.symm)
        have hl4 := hB4.len
        rw [← show addG gn pl xs oL (i + 1) = _ from s1H] at hL4
        rw [← show addG gn pr xs oR (i + 1) = _ from s2H] at hR4
        clear wR dR aR hL3 hR3 hO3 s1H s2H hB4
        repeat' (first | (simp (disch := first | omega | assumption | (simp only [List.length_set]; omega) | (simp [*] <;> fail) | assumption) [-Bool.decide_and, -Bool.decide_or, -Bool.not_and, -Bool.not_or, toNat_pred, toNat_succ, wrap64, wr_new, wr_new0, ok_if, ok_ifn, iadV_sl, makeV_int, decT, decF, over_at, *]) | (with_reducible refine Gd_split (fun hc => ?_) (fun hc => ?_) <;> (have hc2 := hc; try simp at hc2)) | (with_reducible refine Br_split (fun hc => ?_) (fun hc => ?_) <;> (have hc2 := hc; try simp at hc2)) | (with_reducible refine GdT_split (fun hc => ?_) (fun hc => ?_) <;> (have hc2 := hc; try simp at hc2)) | (with_reducible refine WT_alt ?_ ?_) | omega)
        all_goals (repeat' apply And.intro) <;> first | assumption | omega
      · have : i = M := by omega
        subst this
        repeat' (first | (simp (disch := first | omega | assumption | (simp only [List.length_set]; omega) | (simp [*] <;> fail) | assumption) [-Bool.decide_and, -Bool.decide_or, -Bool.not_and, -Bool.not_or, toNat_pred, toNat_succ, wrap64, wr_new, wr_new0, ok_if, ok_ifn, iadV_sl, makeV_int, decT, decF, over_at, *, hX.len]) | (with_reducible refine Gd_split (fun hc => ?_) (fun hc => ?_) <;> (have hc2 := hc; try simp at hc2)) | (with_reducible refine Br_split (fun hc => ?_) (fun hc => ?_) <;> (have hc2 := hc; try simp at hc2)) | (with_reducible refine GdT_split (fun hc => ?_) (fun hc => ?_) <;> (have hc2 := hc; try simp at hc2)) | (with_reducible refine WT_alt ?_ ?_) | omega)
        all_goals (repeat' apply And.intro) <;> first | assumption | omega | (rw [show mtTo panL _ n (m + 1) = _ from hsLH]; assumption) | (rw [show mtTo panR _ n (m + 1) = _ from hsRH]; assumption)
  · have : m = ps.length := by omega
    subst this
    have hk2 := hK _ _ _ hL hR hfar
    clear hK
    repeat' (first | (simp (disch := first | omega | assumption | (simp only [List.length_set]; omega) | (simp [*] <;> fail) | assumption) [-Bool.decide_and, -Bool.decide_or, -Bool.not_and, -Bool.not_or, toNat_pred, toNat_succ, wrap64, wr_new, wr_new0, ok_if, ok_ifn, iadV_sl, makeV_int, decT, decF, over_at, *, hA1.len]) | (with_reducible refine Gd_split (fun hc => ?_) (fun hc => ?_) <;> (have hc2 := hc; try simp at hc2)) | (with_reducible refine Br_split (fun hc => ?_) (fun hc => ?_) <;> (have hc2 := hc; try simp at hc2)) | (with_reducible refine GdT_split (fun hc => ?_) (fun hc => ?_) <;> (have hc2 := hc; try simp at hc2)) | (with_reducible refine WT_alt ?_ ?_) | omega)
end
section
variable {S : Sys} {lim : Nat} {h : Hp} {K : CV → Hp → Prop} {l : Lf} {ps : List (Trk × Lf)} [HasMt S]
set_option maxHeartbeats 2000000 in
theorem c_specMixTracks {n : Int} (hA : Arr h l 5 (ps.map Trk.cells)) (hI : In h Trk.xs ps) (hl : lim ≤ h.length)
    (hK : ∀ o1 o2 g, New h g o1 22 1 ((mtR panL (ps.map (·.1)) n).map fl) → New h g o2 22 1 ((mtR panR (ps.map (·.1)) n).map fl) → Far o1 o2 → K (.tup [.lf o1, .lf o2, .lf (.bool (decide (okMt (ps.map (·.1)) n)))]) g) : CallT S false 33 [.lf l, .lf (.int .i64 n)] h lim K := by
  have hv := fun lim K => c_l07Tracks (S := S) (lim := lim) (K := K) hA hI
  by_cases hok : okMt (ps.map (·.1)) n
  · unfold mtR at hK
    rw [if_pos hok, if_pos hok, decide_eq_true hok] at hK
    obtain ⟨k1, k2⟩ := hok
    rw [decide_eq_true k1] at hv
    obtain ⟨N, rfl⟩ := Int.eq_ofNat_of_zero_le k2.1
    rw [Int.toNat_natCast, List.length_map] at hK
    have hb := fun K => c_l07Both (S := S) (lim := lim) (K := K) (n := N) hA hI k1 (by omega) hl
    clear k1
    refine CallT_of_body (F := L33) (HasMt.f33) rfl ?_; unfold L33; dsimp only []
    repeat' (first | (simp (disch := first | omega | assumption | (simp only [List.length_set]; omega) | (simp [*] <;> fail) | assumption) [-Bool.decide_and, -Bool.decide_or, -Bool.not_and, -Bool.not_or, toNat_pred, toNat_succ, wrap64, wr_new, wr_new0, ok_if, ok_ifn, iadV_sl, makeV_int, decT, decF, over_at, *]) | (with_reducible refine Gd_split (fun hc => ?_) (fun hc => ?_) <;> (have hc2 := hc; try simp at hc2)) | (with_reducible refine Br_split (fun hc => ?_) (fun hc => ?_) <;> (have hc2 := hc; try simp at hc2)) | (with_reducible refine GdT_split (fun hc => ?_) (fun hc => ?_) <;> (have hc2 := hc; try simp at hc2)) | (with_reducible refine WT_alt ?_ ?_) | omega)
    refine hb _ fun o1 o2 g h1 h2 h3 => ?_
    have hk2 := hK _ _ _ h1 h2 h3
    clear hK hb
    repeat' (first | (simp (disch := first | omega | assumption | (simp only [List.length_set]; omega) | (simp [*] <;> fail) | assumption) [-Bool.decide_and, -Bool.decide_or, -Bool.not_and, -Bool.not_or, toNat_pred, toNat_succ, wrap64, wr_new, wr_new0, ok_if, ok_ifn, iadV_sl, makeV_int, decT, decF, over_at, *]) | (with_reducible refine Gd_split (fun hc => ?_) (fun hc => ?_) <;> (have hc2 := hc; try simp at hc2)) | (with_reducible refine Br_split (fun hc => ?_) (fun hc => ?_) <;> (have hc2 := hc; try simp at hc2)) | (with_reducible refine GdT_split (fun hc => ?_) (fun hc => ?_) <;> (have hc2 := hc; try simp at hc2)) | (with_reducible refine WT_alt ?_ ?_) | omega)
  · have hk2 := hK .nils .nils h (by unfold mtR; rw [if_neg hok]; exact New.nil (Kept.refl h)) (by unfold mtR; rw [if_neg hok]; exact New.nil (Kept.refl h)) Far.nil_left
    rw [decide_eq_false hok] at hk2
    clear hK
    by_cases k1 : areTrk (ps.map (·.1))
    · have k2 : ¬ (0 ≤ n ∧ n ≤ 256) := fun q => hok ⟨k1, q⟩
      rw [decide_eq_true k1] at hv
      clear hok k1
      refine CallT_of_body (F := L33) (HasMt.f33) rfl ?_; unfold L33; dsimp only []
      repeat' (first | (simp (disch := first | omega | assumption | (simp only [List.length_set]; omega) | (simp [*] <;> fail) | assumption) [-Bool.decide_and, -Bool.decide_or, -Bool.not_and, -Bool.not_or, toNat_pred, toNat_succ, wrap64, wr_new, wr_new0, ok_if, ok_ifn, iadV_sl, makeV_int, decT, decF, over_at, *]) | (with_reducible refine Gd_split (fun hc => ?_) (fun hc => ?_) <;> (have hc2 := hc; try simp at hc2)) | (with_reducible refine Br_split (fun hc => ?_) (fun hc => ?_) <;> (have hc2 := hc; try simp at hc2)) | (with_reducible refine GdT_split (fun hc => ?_) (fun hc => ?_) <;> (have hc2 := hc; try simp at hc2)) | (with_reducible refine WT_alt ?_ ?_) | omega)
    · rw [decide_eq_false k1] at hv
      clear hok k1
      refine CallT_of_body (F := L33) (HasMt.f33) rfl ?_; unfold L33; dsimp only []
      repeat' (first | (simp (disch := first | omega | assumption | (simp only [List.length_set]; omega) | (simp [*] <;> fail) | assumption) [-Bool.decide_and, -Bool.decide_or, -Bool.not_and, -Bool.not_or, toNat_pred, toNat_succ, wrap64, wr_new, wr_new0, ok_if, ok_ifn, iadV_sl, makeV_int, decT, decF, over_at, *]) | (with_reducible refine Gd_split (fun hc => ?_) (fun hc => ?_) <;> (have hc2 := hc; try simp at hc2)) | (with_reducible refine Br_split (fun hc => ?_) (fun hc => ?_) <;> (have hc2 := hc; try simp at hc2)) | (with_reducible refine GdT_split (fun hc => ?_) (fun hc => ?_) <;> (have hc2 := hc; try simp at hc2)) | (with_reducible refine WT_alt ?_ ?_) | omega)
set_option maxHeartbeats 2000000 in
theorem c_implMixTracks {n : Int} (hA : Arr h l 5 (ps.map Trk.cells)) (hI : In h Trk.xs ps) (hl : lim ≤ h.length)
    (hK : ∀ o1 o2 g, New h g o1 22 1 ((mtR panL (ps.map (·.1)) n).map fl) → New h g o2 22 1 ((mtR panR (ps.map (·.1)) n).map fl) → Far o1 o2 → K (.tup [.lf o1, .lf o2, .lf (.bool (decide (okMt (ps.map (·.1)) n)))]) g) : CallT S false 35 [.lf l, .lf (.int .i64 n)] h lim K := by
  have hv := fun lim K => c_implAreTracks (S := S) (lim := lim) (K := K) hA hI
  by_cases hok : okMt (ps.map (·.1)) n
  · unfold mtR at hK
    rw [if_pos hok, if_pos hok, decide_eq_true hok] at hK
    obtain ⟨k1, k2⟩ := hok
    rw [decide_eq_true k1] at hv
    obtain ⟨N, rfl⟩ := Int.eq_ofNat_of_zero_le k2.1
    rw [Int.toNat_natCast, List.length_map] at hK
    have hb := fun K => c_mixTracks (S := S) (lim := lim) (K := K) (n := N) hA hI k1 (by omega) hl
    clear k1
    refine CallT_of_body (F := L35) (HasMt.f35) rfl ?_; unfold L35; dsimp only []
    repeat' (first | (simp (disch := first | omega | assumption | (simp only [List.length_set]; omega) | (simp [*] <;> fail) | assumption) [-Bool.decide_and, -Bool.decide_or, -Bool.not_and, -Bool.not_or, toNat_pred, toNat_succ, wrap64, wr_new, wr_new0, ok_if, ok_ifn, iadV_sl, makeV_int, decT, decF, over_at, *]) | (with_reducible refine Gd_split (fun hc => ?_) (fun hc => ?_) <;> (have hc2 := hc; try simp at hc2)) | (with_reducible refine Br_split (fun hc => ?_) (fun hc => ?_) <;> (have hc2 := hc; try simp at hc2)) | (with_reducible refine GdT_split (fun hc => ?_) (fun hc => ?_) <;> (have hc2 := hc; try simp at hc2)) | (with_reducible refine WT_alt ?_ ?_) | omega)
    refine hb _ fun o1 o2 g h1 h2 h3 => ?_
    have hk2 := hK _ _ _ h1 h2 h3
    clear hK hb
    repeat' (first | (simp (disch := first | omega | assumption | (simp only [List.length_set]; omega) | (simp [*] <;> fail) | assumption) [-Bool.decide_and, -Bool.decide_or, -Bool.not_and, -Bool.not_or, toNat_pred, toNat_succ, wrap64, wr_new, wr_new0, ok_if, ok_ifn, iadV_sl, makeV_int, decT, decF, over_at, *]) | (with_reducible refine Gd_split (fun hc => ?_) (fun hc => ?_) <;> (have hc2 := hc; try simp at hc2)) | (with_reducible refine Br_split (fun hc => ?_) (fun hc => ?_) <;> (have hc2 := hc; try simp at hc2)) | (with_reducible refine GdT_split (fun hc => ?_) (fun hc => ?_) <;> (have hc2 := hc; try simp at hc2)) | (with_reducible refine WT_alt ?_ ?_) | omega)
  · have hk2 := hK .nils .nils h (by unfold mtR; rw [if_neg hok]; exact New.nil (Kept.refl h)) (by unfold mtR; rw [if_neg hok]; exact New.nil (Kept.refl h)) Far.nil_left
    rw [decide_eq_false hok] at hk2
    clear hK
    by_cases k1 : areTrk (ps.map (·.1))
    · have k2 : ¬ (0 ≤ n ∧ n ≤ 256) := fun q => hok ⟨k1, q⟩
      rw [decide_eq_true k1] at hv
      clear hok k1
      refine CallT_of_body (F := L35) (HasMt.f35) rfl ?_; unfold L35; dsimp only []
      repeat' (first | (simp (disch := first | omega | assumption | (simp only [List.length_set]; omega) | (simp [*] <;> fail) | assumption) [-Bool.decide_and, -Bool.decide_or, -Bool.not_and, -Bool.not_or, toNat_pred, toNat_succ, wrap64, wr_new, wr_new0, ok_if, ok_ifn, iadV_sl, makeV_int, decT, decF, over_at, *]) | (with_reducible refine Gd_split (fun hc => ?_) (fun hc => ?_) <;> (have hc2 := hc; try simp at hc2)) | (with_reducible refine Br_split (fun hc => ?_) (fun hc => ?_) <;> (have hc2 := hc; try simp at hc2)) | (with_reducible refine GdT_split (fun hc => ?_) (fun hc => ?_) <;> (have hc2 := hc; try simp at hc2)) | (with_reducible refine WT_alt ?_ ?_) | omega)
    · rw [decide_eq_false k1] at hv
      clear hok k1
      refine CallT_of_body (F := L35) (HasMt.f35) rfl ?_; unfold L35; dsimp only []
      repeat' (first | (simp (disch := first | omega | assumption | (simp only [List.length_set]; omega) | (simp [*] <;> fail) | assumption) [-Bool.decide_and, -Bool.decide_or, -Bool.not_and, -Bool.not_or, toNat_pred, toNat_succ, wrap64, wr_new, wr_new0, ok_if, ok_ifn, iadV_sl, makeV_int, decT, decF, over_at, *]) | (with_reducible refine Gd_split (fun hc => ?_) (fun hc => ?_) <;> (have hc2 := hc; try simp at hc2)) | (with_reducible refine Br_split (fun hc => ?_) (fun hc => ?_) <;> (have hc2 := hc; try simp at hc2)) | (with_reducible refine GdT_split (fun hc => ?_) (fun hc => ?_) <;> (have hc2 := hc; try simp at hc2)) | (with_reducible refine WT_alt ?_ ?_) | omega)
end
end Go.E
