/- What is handed in: sessions. Plain lemmas; no condition. -/
import Derived.Test.YtclbkfmelhheaaaMSt
import Derived.Test.YtclbkfmelhheaaaMDs
set_option linter.unusedVariables false
set_option linter.unusedSimpArgs false
namespace Go.E
open Go
def strSh : Sh := .cat 1 (.sl 3 effSh) (.cat 1 (.int .i64) (.cat 1 (.flt .f32) (.cat 1 .bool (.cat 1 .bool .emp))))
def sesSh : Sh := .cat 1 (.sl 3 effSh) (.cat 1 (.sl 5 strSh) .emp)
/-- Canonical numbers. -/
def CFs (xs : List Nat) : Prop := ∀ x ∈ xs, x < 2 ^ FloatKind.f32.format.width ∧ can .f32 x = x
theorem strs_of {h : Hp} {rows : List (List Lf)} (t : ∀ r ∈ rows, Ty h strSh r) : ∃ ss : List (Str × Lf), rows = ss.map Str.cells ∧ InS h ss ∧ ∀ p ∈ ss, ∀ q ∈ p.1.ps, CFs q.1.nums := by
  obtain ⟨ss, h1, h2⟩ := rows_map (f := Str.cells) (Q := fun p => (Arr h p.2 3 (p.1.ps.map Eff.cells) ∧ In h Eff.nums p.1.ps) ∧ ∀ q ∈ p.1.ps, CFs q.1.nums) fun r hr0 => (by
    obtain ⟨_, _, rfl, _, ⟨l, rows, rfl, hA, hr⟩, _, _, rfl, _, ⟨x, rfl, _⟩, _, _, rfl, _, ⟨y, rfl, _⟩, _, _, rfl, _, ⟨m, rfl⟩, _, _, rfl, _, ⟨s, rfl⟩, rfl⟩ := t r hr0
    obtain ⟨ps, rfl, hI, hx⟩ := effs_of hr
    exact ⟨(⟨ps, x, y, m, s⟩, l), rfl, ⟨hA, hI⟩, hx⟩)
  exact ⟨ss, h1, .of fun p hp => (h2 p hp).1, fun p hp => (h2 p hp).2⟩
theorem ses_of {h : Hp} {r : List Lf} (t : Ty h sesSh r) : ∃ (l l2 : Lf) (es : List (Eff × Lf)) (ss : List (Str × Lf)), r = [l, l2] ∧ Arr h l 3 (es.map Eff.cells) ∧ In h Eff.nums es ∧ Arr h l2 5 (ss.map Str.cells) ∧ InS h ss ∧ (∀ p ∈ es, CFs p.1.nums) ∧ ∀ p ∈ ss, ∀ q ∈ p.1.ps, CFs q.1.nums := by
  obtain ⟨_, _, rfl, _, ⟨l, rows, rfl, hA, hr⟩, _, _, rfl, _, ⟨l2, rows2, rfl, hA2, hr2⟩, rfl⟩ := t
  obtain ⟨es, rfl, hI, hx⟩ := effs_of hr
  obtain ⟨ss, rfl, hI2, hx2⟩ := strs_of hr2
  exact ⟨l, l2, es, ss, rfl, hA, hI, hA2, hI2, hx, hx2⟩
end Go.E
