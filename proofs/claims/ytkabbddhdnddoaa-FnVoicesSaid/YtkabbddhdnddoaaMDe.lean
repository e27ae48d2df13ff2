/- Effects and lists of lists: the laws' helpers. -/
import Derived.Test.YtkabbddhdnddoaaMD
set_option linter.unusedVariables false
set_option linter.unusedSimpArgs false
namespace Go.E
open Go

class HasSz (S : Sys) : Prop where


class HasDSS (S : Sys) : Prop extends HasF S, HasSz S where


class HasDE (S : Sys) : Prop extends HasF S, HasSz S where


class HasDT (S : Sys) : Prop extends HasF S, HasSz S where

/-- An effect but for where its numbers lie. -/
structure Eff where
  kind : Int
  len : Int
  nums : List Nat
def Eff.cells (p : Eff × Lf) : List Lf := [.int .i64 p.1.kind, .int .i64 p.1.len, p.2]
structure Trk where
  xs : List Nat
  tenths : Int
  pan : Nat
  mute : Bool
  solo : Bool
def Trk.cells (p : Trk × Lf) : List Lf := [p.2, .int .i64 p.1.tenths, .flt .f32 p.1.pan, .bool p.1.mute, .bool p.1.solo]
def ssCells (p : List Nat × Lf) : List Lf := [p.2]
abbrev ssRows (a : List Nat) : List Nat := a
section
variable {S : Sys} {lim : Nat} {h : Hp} {K : CV → Hp → Prop}
end
end Go.E
