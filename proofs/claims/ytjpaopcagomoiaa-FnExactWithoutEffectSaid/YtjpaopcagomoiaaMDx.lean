/- slices.Delete of one effect: the contract. -/
import Derived.Test.YtjpaopcagomoiaaMDl
import Derived.Test.YtjpaopcagomoiaaEH
set_option linter.unusedVariables false
set_option linter.unusedSimpArgs false
namespace Go.E
open Go
class HasDel (S : Sys) : Prop where
  none_ : S.fs 26 = none
  xt_ : S.xt = delX
theorem flat_take {rows : List (List Lf)} (h : ∀ (i : Nat) (r : List Lf), rows[i]? = some r → r.length = 3) {k : Nat} (hk : k ≤ rows.length) : rows.flatten.take (k * 3) = (rows.take k).flatten ∧ rows.flatten.drop (k * 3) = (rows.drop k).flatten := by
  have h1 : (rows.take k).flatten.length = k * 3 := by
    rw [flat_len (sz := 3) (fun i r hi => h i r (by rw [List.getElem?_take] at hi; split at hi; exact hi; cases hi)), List.length_take, Nat.min_eq_left hk]
  have h2 : rows.flatten = (rows.take k).flatten ++ (rows.drop k).flatten := by rw [← List.flatten_append, List.take_append_drop]
  rw [h2, ← h1]
  exact ⟨List.take_left, List.drop_left⟩
theorem c_Delete {S : Sys} [HasDel S] {lim : Nat} {h g : Hp} {K : CV → Hp → Prop} {l : Lf} {ty k : Nat} {rows : List (List Lf)} (hN : New h g l ty 3 rows) (hk : k < rows.length) (hl : lim ≤ h.length)
    (hK : ∀ l' g', New h g' l' ty 3 (rows.eraseIdx k) → But g g' l l' → K (.lf l') g') : CallT S false 26 [.lf l, .lf (.int .i64 k), .lf (.int .i64 ((k : Int) + 1))] g lim K := by
  rcases hN.own with ⟨_, h2⟩ | ⟨id, rfl, h2, h3⟩
  · rw [h2] at hk; simp at hk
  have hs := hN.arr.small
  obtain ⟨t1, _⟩ := flat_take h3.len (Nat.le_of_lt hk)
  obtain ⟨_, t2⟩ := flat_take (k := k + 1) h3.len hk
  have hxt : S.xt 26 [.lf (.sl id 0 rows.length 3), .lf (.int .i64 k), .lf (.int .i64 ((k : Int) + 1))] g lim = some (.lf (.sl g.length 0 (rows.length - 1) 3), g.set id ⟨[], .dead⟩ ++ [⟨(rows.eraseIdx k).flatten, .own ty 3⟩]) := by
    rw [HasDel.xt_]
    unfold delX
    rw [if_pos rfl]
    simp only [h3.get]
    rw [if_pos (by refine ⟨by omega, ?_, ?_, ?_, flat_len h3.len, by omega, ?_, by omega⟩ <;> trivial)]
    rw [Int.toNat_natCast, t1, t2, ← List.flatten_append, List.eraseIdx_eq_take_drop_succ]
  have hsl : Sl (g.set id ⟨[], .dead⟩ ++ [⟨(rows.eraseIdx k).flatten, .own ty 3⟩]) g.length ty 3 (rows.eraseIdx k) := ⟨by rw [List.getElem?_append_right (by simp)]; simp, fun i r hi => by
    rw [List.getElem?_eraseIdx] at hi
    split at hi
    · exact h3.len _ _ hi
    · exact h3.len _ _ hi⟩
  have hB : But g (g.set id ⟨[], .dead⟩ ++ [⟨(rows.eraseIdx k).flatten, .own ty 3⟩]) (.sl id 0 rows.length 3) (.sl g.length 0 (rows.length - 1) 3) := ⟨by simp, fun j hj hne => by
    rw [List.getElem?_append_left (by simpa using hj), List.getElem?_set_ne (fun e => hne (by simp) (by simp [e]))], .inr (by simp)⟩
  have hkp := hB.kept hN.kept (fun _ => by simpa using h2)
  have hN' := New.of_sl hkp hsl (hN.kept.1) (by rw [List.length_eraseIdx]; split <;> omega)
  rw [List.length_eraseIdx, if_pos hk] at hN'
  exact Holds.xt HasDel.none_ hxt (hK _ _ hN' hB)
end Go.E
