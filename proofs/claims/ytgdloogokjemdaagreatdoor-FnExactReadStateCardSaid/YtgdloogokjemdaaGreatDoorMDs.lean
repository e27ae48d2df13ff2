/- What is handed in: slices of effects, of lists. Plain lemmas; no condition. -/
import Derived.Test.YtgdloogokjemdaaGreatDoorMDe
import Derived.Test.YtgdloogokjemdaaGreatDoorEE
set_option linter.unusedVariables false
set_option linter.unusedSimpArgs false
namespace Go.E
open Go
def flSl : Sh := .sl 1 (.flt .f32)
def effSh : Sh := .cat 1 (.int .i64) (.cat 1 (.int .i64) (.cat 1 flSl .emp))
theorem cf_rows {h : Hp} {rows : List (List Lf)} (t : ∀ r ∈ rows, Ty h (.flt .f32) r) : ∃ xs : List Nat, rows = xs.map fl ∧ ∀ x ∈ xs, x < 2 ^ FloatKind.f32.format.width ∧ can .f32 x = x :=
  rows_map (f := fl) fun r hr => (by obtain ⟨x, rfl, h1, h2⟩ := t r hr; exact ⟨x, rfl, h1, h2⟩)
theorem eff_of {h : Hp} {r : List Lf} (t : Ty h effSh r) : ∃ p : Eff × Lf, r = Eff.cells p ∧ Arr h p.2 1 (p.1.nums.map fl) ∧ ∀ x ∈ p.1.nums, x < 2 ^ FloatKind.f32.format.width ∧ can .f32 x = x := by
  obtain ⟨_, _, rfl, _, ⟨x, rfl, _⟩, _, _, rfl, _, ⟨y, rfl, _⟩, _, _, rfl, _, ⟨l, rows, rfl, hA, hr⟩, rfl⟩ := t
  obtain ⟨xs, rfl, hx⟩ := cf_rows hr
  exact ⟨(⟨x, y, xs⟩, l), rfl, hA, hx⟩
theorem effs_of {h : Hp} {rows : List (List Lf)} (t : ∀ r ∈ rows, Ty h effSh r) : ∃ ps : List (Eff × Lf), rows = ps.map Eff.cells ∧ In h Eff.nums ps ∧ ∀ p ∈ ps, ∀ x ∈ p.1.nums, x < 2 ^ FloatKind.f32.format.width ∧ can .f32 x = x := by
  obtain ⟨ps, h1, h2⟩ := rows_map fun r hr => eff_of (t r hr)
  exact ⟨ps, h1, .of fun p hp => (h2 p hp).1, fun p hp => (h2 p hp).2⟩
theorem sss_of {h : Hp} {rows : List (List Lf)} (t : ∀ r ∈ rows, Ty h flSl r) : ∃ ps : List (List Nat × Lf), rows = ps.map ssCells ∧ In h ssRows ps ∧ ∀ p ∈ ps, ∀ x ∈ p.1, x < 2 ^ FloatKind.f32.format.width ∧ can .f32 x = x := by
  obtain ⟨ps, h1, h2⟩ := rows_map (f := ssCells) (Q := fun p => Arr h p.2 1 ((ssRows p.1).map fl) ∧ ∀ x ∈ p.1, x < 2 ^ FloatKind.f32.format.width ∧ can .f32 x = x) fun r hr => (by
    obtain ⟨l, rows, rfl, hA, hr⟩ := t r hr
    obtain ⟨xs, rfl, hx⟩ := cf_rows hr
    exact ⟨(xs, l), rfl, hA, hx⟩)
  exact ⟨ps, h1, .of fun p hp => (h2 p hp).1, fun p hp => (h2 p hp).2⟩
def trkShp : Sh := .cat 1 flSl (.cat 1 (.int .i64) (.cat 1 (.flt .f32) (.cat 1 .bool (.cat 1 .bool .emp))))
theorem trks_of {h : Hp} {rows : List (List Lf)} (t : ∀ r ∈ rows, Ty h trkShp r) : ∃ ps : List (Trk × Lf), rows = ps.map Trk.cells ∧ In h Trk.xs ps := by
  obtain ⟨ps, h1, h2⟩ := rows_map (f := Trk.cells) (Q := fun p => Arr h p.2 1 (p.1.xs.map fl)) fun r hr0 => (by
    obtain ⟨_, _, rfl, _, ⟨l, rows, rfl, hA, hr⟩, _, _, rfl, _, ⟨x, rfl, _⟩, _, _, rfl, _, ⟨y, rfl, _⟩, _, _, rfl, _, ⟨m, rfl⟩, _, _, rfl, _, ⟨s, rfl⟩, rfl⟩ := t r hr0
    obtain ⟨xs, rfl, _⟩ := cf_rows hr
    exact ⟨(⟨xs, x, y, m, s⟩, l), rfl, hA⟩)
  exact ⟨ps, h1, .of h2⟩
end Go.E
