/- Lanes: what says whether points are a lane. -/
import Derived.Test.YtgdloogokjemdaaGreatDoorMA
set_option linter.unusedVariables false
set_option linter.unusedSimpArgs false
namespace Go.E
open Go

class HasB (S : Sys) : Prop extends HasA S where

/-- A point: its place and its gain. -/
structure Pt where
  at_ : Int
  gain : Nat
def Pt.cells (p : Pt) : List Lf := [.int .i64 p.at_, .flt .f32 p.gain]
/-- All places are from 0 to 100000 and they rise, from the k-th on. -/
def laneUpto (ps : List Pt) (k : Nat) : Prop := ∀ i (hi : i < ps.length), i < k → 0 ≤ ps[i].at_ ∧ ps[i].at_ ≤ 100000 ∧ (0 < i → ps[i-1].at_ < ps[i].at_)
def isLane (ps : List Pt) : Prop := 1 ≤ ps.length ∧ ps.length ≤ 12 ∧ laneUpto ps ps.length
noncomputable instance (ps : List Pt) : Decidable (isLane ps) := Classical.propDecidable _
theorem laneUpto.succ {ps : List Pt} {i : Nat} (h : laneUpto ps i) (hi : i < ps.length) (h1 : 0 ≤ ps[i].at_ ∧ ps[i].at_ ≤ 100000) (h2 : 0 < i → ps[i-1].at_ < ps[i].at_) : laneUpto ps (i + 1) := by
  intro j hj hlt
  by_cases e : j = i
  · subst e; exact ⟨h1.1, h1.2, h2⟩
  · exact h j hj (by omega)
theorem laneUpto.zero {ps : List Pt} : laneUpto ps 0 := fun i _ h => by omega
theorem not_isLane {ps : List Pt} {i : Nat} (hi : i < ps.length) (h1 : ¬ (0 ≤ ps[i].at_ ∧ ps[i].at_ ≤ 100000 ∧ (0 < i → ps[i-1].at_ < ps[i].at_))) : ¬ isLane ps := fun h => h1 (h.2.2 i hi hi)
section
variable {S : Sys} {lim : Nat} {h : Hp} {K : CV → Hp → Prop} [HasB S] {l : Lf} {ps : List Pt}
end
end Go.E
