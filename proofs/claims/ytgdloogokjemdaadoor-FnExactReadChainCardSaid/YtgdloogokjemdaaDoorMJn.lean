/- strings.Join and decimal numbers, as the library's contracts tell them: for the evaluator. -/
import Derived.Test.YtgdloogokjemdaaDoorMJs
import Derived.Test.YtgdloogokjemdaaDoorEE
import Derived.Lib.AppendIntMem
import Derived.Lib.Join
set_option linter.unusedVariables false
set_option linter.unusedSimpArgs false
namespace Go.E
open Go Go.RowKit Go.Proofs
/-- What lies above a heap's end does not touch the objects. -/
theorem Rel.above {B : Nat} {w0 w w' : World} {ρ : Lo} {h : Hp} (hr : Rel B w0 ρ h w) (hb : Below w.heap.size w w') : Rel B w0 ρ h w' := by
  refine ⟨hr.len, hr.below.trans (hb.mono hr.base), Nat.le_trans hr.base hb.size, ?_, hr.inj⟩
  intro id ob l h1 h2
  have hOR := hr.obs id ob l h1 h2
  unfold OR at hOR ⊢
  split
  · rename_i e'; rw [e'] at hOR
    obtain ⟨k1, k2, k3, k4, arr, k5, k6⟩ := hOR
    refine ⟨k1, k2, k3, k4, arr, ?_, k6⟩
    rw [hb.block l.b (Array.getElem?_eq_some_iff.1 k5).1]; exact k5
  · rename_i e'; rw [e'] at hOR
    obtain ⟨k1, k2, k3⟩ := hOR
    refine ⟨k1, k2, fun j x hx => ?_⟩
    obtain ⟨v, q1, q2⟩ := k3 j x hx
    exact ⟨v, by rw [hb.cell (Nat.lt_of_lt_of_le k2 hr.base)]; exact q1, q2⟩
  · trivial
def strsL : List Lf → Option (List ByteArray)
  | [] => some []
  | .str s :: r => (strsL r).map (s :: ·)
  | _ => none
theorem strsL_at : ∀ {cs : List Lf} {ls : List ByteArray}, strsL cs = some ls → cs = ls.map .str
  | [], ls, h => by injection h with h; subst h; rfl
  | .str s :: r, ls, h => by
    obtain ⟨q, h1, rfl⟩ := Option.map_eq_some_iff.1 (show (strsL r).map (s :: ·) = some ls from h)
    rw [strsL_at h1]; rfl
  | .bool _ :: _, _, h => by cases h
  | .int _ _ :: _, _, h => by cases h
  | .flt _ _ :: _, _, h => by cases h
  | .nilp :: _, _, h => by cases h
  | .ptr _ _ :: _, _, h => by cases h
  | .nils :: _, _, h => by cases h
  | .sl _ _ _ _ :: _, _, h => by cases h
  | .nilf :: _, _, h => by cases h
  | .fn _ _ :: _, _, h => by cases h
  | .nili :: _, _, h => by cases h
  | .nb :: _, _, h => by cases h
def joinB (ls : List ByteArray) (sep : ByteArray) : List UInt8 := Lib.join (ls.map (·.data.toList)) sep.data.toList
theorem LRs_at {ρ : Lo} : ∀ {cs : List Lf} {us : List Value} {j : Nat} {x : Lf}, LRs ρ cs us → cs[j]? = some x → ∃ u, us[j]? = some u ∧ LR ρ x u
  | c :: cs, us, 0, x, h, hx => by
    obtain ⟨v, vs', rfl, h1, h2⟩ := h
    simp at hx; subst hx
    exact ⟨v, rfl, h1⟩
  | c :: cs, us, j + 1, x, h, hx => by
    obtain ⟨v, vs', rfl, h1, h2⟩ := h
    simp at hx
    obtain ⟨u, q1, q2⟩ := LRs_at h2 hx
    exact ⟨u, by simpa using q1, q2⟩
theorem Below.grown' (w : World) (os : Array Obj) : Below w.heap.size w (Go.Sort.grow w os) := by
  refine ⟨rfl, rfl, rfl, ?_, fun k hk => ?_⟩
  · show w.heap.size ≤ (w.heap ++ os).size
    rw [Array.size_append]; omega
  · show (w.heap ++ os)[k]? = w.heap[k]?
    rw [Array.getElem?_append_left hk]
/-- The table of powers is as the text lays it, and stays so. -/
def TabH (B : Nat) (w0 : World) : Prop := Lib.TabBelow Tryd.prog B w0 "internal/strconv.uint64pow10" .u64 Lib.pow10Tab
end Go.E
