/- The laws' own helpers for points: copying, comparing, counting. -/
import Derived.Test.YtkabbddhdnddoaaMB
import Derived.Test.YtkabbddhdnddoaaEC
set_option linter.unusedVariables false
set_option linter.unusedSimpArgs false
namespace Go.E
open Go

class HasSame (S : Sys) : Prop where


class HasC (S : Sys) : Prop extends HasSame S where

section
variable {S : Sys} {lim : Nat} {h : Hp} {K : CV → Hp → Prop}
variable [HasC S] {l : Lf} {ps : List Pt}
end
end Go.E
