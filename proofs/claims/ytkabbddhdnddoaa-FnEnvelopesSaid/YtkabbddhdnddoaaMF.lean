/- The laws' helpers for slices of numbers. -/
import Derived.Test.YtkabbddhdnddoaaMC
import Derived.Test.YtkabbddhdnddoaaEF
set_option linter.unusedVariables false
set_option linter.unusedSimpArgs false
namespace Go.E
open Go

class HasF (S : Sys) : Prop extends HasSame S where


class HasI (S : Sys) : Prop where

def fl (x : Nat) : List Lf := [.flt .f32 x]
def il (n : Int) : List Lf := [.int .i64 n]
section
variable {S : Sys} {lim : Nat} {h : Hp} {K : CV → Hp → Prop}
section
variable [HasF S]
def marksFloat32S (k : Int) (n : Nat) : List (List Lf) := (List.range n).map fun j : Nat => fl (fofint .f32 (k + (j : Int)))
@[simp] theorem marksFloat32S_len {k : Int} {n : Nat} : (marksFloat32S k n).length = n := by simp [marksFloat32S]
end
end
end Go.E
