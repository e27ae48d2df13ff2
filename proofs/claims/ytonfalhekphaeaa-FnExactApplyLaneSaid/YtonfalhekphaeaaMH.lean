/- Lists that are written element by element. -/
import Derived.Test.YtonfalhekphaeaaMF
import Derived.Test.YtonfalhekphaeaaEH
set_option linter.unusedVariables false
set_option linter.unusedSimpArgs false
namespace Go.E
open Go
def mapTo {α β : Type} (f : α → β) (xs : List α) (i : Nat) : List β := (xs.take i).map f
@[simp] theorem mapTo_zero {α β : Type} {f : α → β} {xs : List α} : mapTo f xs 0 = [] := by simp [mapTo]
theorem mapTo_len {α β : Type} {f : α → β} {xs : List α} {i : Nat} : (mapTo f xs i).length ≤ i := by simp [mapTo]; omega
theorem mapTo_len' {α β : Type} {f : α → β} {xs : List α} {i : Nat} (hi : i ≤ xs.length) : (mapTo f xs i).length = i := by simp [mapTo]; omega
theorem mapTo_succ {α β : Type} {f : α → β} {xs : List α} {i : Nat} (hi : i < xs.length) : mapTo f xs (i + 1) = mapTo f xs i ++ [f xs[i]] := by
  unfold mapTo; rw [List.take_succ_eq_append_getElem hi, List.map_append]; rfl
theorem mapTo_all {α β : Type} {f : α → β} {xs : List α} : mapTo f xs xs.length = xs.map f := by simp [mapTo]
theorem mapTo_fl {α : Type} {f : α → Nat} {xs : List α} {i : Nat} (hi : i < xs.length) : (mapTo f xs (i + 1)).map fl = (mapTo f xs i).map fl ++ [[.flt .f32 (f xs[i])]] := by
  rw [mapTo_succ hi, List.map_append]; rfl
theorem mapTo_il {α : Type} {f : α → Int} {xs : List α} {i : Nat} (hi : i < xs.length) : (mapTo f xs (i + 1)).map il = (mapTo f xs i).map il ++ [[.int .i64 (f xs[i])]] := by
  rw [mapTo_succ hi, List.map_append]; rfl
/-- The values of f at 0, 1, .., n - 1. -/
def tabTo {β : Type} (f : Nat → β) (n : Nat) : List β := (List.range n).map f
@[simp] theorem tabTo_zero {β : Type} {f : Nat → β} : tabTo f 0 = [] := rfl
theorem tabTo_len {β : Type} {f : Nat → β} {n : Nat} : (tabTo f n).length = n := by simp [tabTo]
theorem tabTo_succ {β : Type} {f : Nat → β} {n : Nat} : tabTo f (n + 1) = tabTo f n ++ [f n] := by simp [tabTo, List.range_succ]
theorem tabTo_fl {f : Nat → Nat} {n : Nat} : (tabTo f (n + 1)).map fl = (tabTo f n).map fl ++ [[.flt .f32 (f n)]] := by rw [tabTo_succ, List.map_append]; rfl
theorem tabTo_il {f : Nat → Int} {n : Nat} : (tabTo f (n + 1)).map il = (tabTo f n).map il ++ [[.int .i64 (f n)]] := by rw [tabTo_succ, List.map_append]; rfl
/-- The list, of which the first i are written anew. -/
def updTo (f : Nat → Nat) (ls : List Nat) (i : Nat) : List Nat := (List.range ls.length).map fun j => if j < i then f j else ls.getD j 0
@[simp] theorem updTo_len {f : Nat → Nat} {ls : List Nat} {i : Nat} : (updTo f ls i).length = ls.length := by simp [updTo]
theorem updTo_zero {f : Nat → Nat} {ls : List Nat} : updTo f ls 0 = ls := by
  apply List.ext_getElem
  · simp
  · intro j h1 h2; simp [updTo, h2]
theorem updTo_get {f : Nat → Nat} {ls : List Nat} {i j : Nat} (hj : j < ls.length) (hi : i ≤ j) : (updTo f ls i)[j]'(by simpa using hj) = ls[j] := by
  simp only [updTo, List.getElem_map, List.getElem_range]
  rw [if_neg (by omega)]; simp [hj]
theorem updTo_set {f : Nat → Nat} {ls : List Nat} {i : Nat} {c : Nat} (hc : c = f i) : (updTo f ls i).set i c = updTo f ls (i + 1) := by
  subst hc
  apply List.ext_getElem
  · simp
  · intro j h1 h2
    simp only [List.getElem_set, updTo, List.getElem_map, List.getElem_range]
    by_cases e : i = j
    · subst e; simp
    · rw [if_neg e]
      by_cases h3 : j < i
      · rw [if_pos h3, if_pos (by omega)]
      · rw [if_neg h3, if_neg (by omega)]
theorem updTo_all {f : Nat → Nat} {ls : List Nat} {n : Nat} (hn : n = ls.length) : updTo f ls n = tabTo f n := by
  subst hn
  apply List.ext_getElem
  · simp [tabTo]
  · intro j h1 h2
    simp only [updTo, tabTo, List.getElem_map, List.getElem_range]
    rw [if_pos (by simpa using h1)]
theorem fl_set {zs : List Nat} {i c : Nat} : (zs.map fl).set i [.flt .f32 c] = (zs.set i c).map fl := by rw [List.map_set]; rfl
end Go.E
