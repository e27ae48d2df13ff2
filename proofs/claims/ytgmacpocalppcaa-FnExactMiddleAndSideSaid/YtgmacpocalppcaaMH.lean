/- Lists that are written element by element. -/
import Derived.Test.YtgmacpocalppcaaMF
import Derived.Test.YtgmacpocalppcaaEH
set_option linter.unusedVariables false
set_option linter.unusedSimpArgs false
namespace Go.E
open Go
def mapTo {α β : Type} (f : α → β) (xs : List α) (i : Nat) : List β := (xs.take i).map f
@[simp] theorem mapTo_zero {α β : Type} {f : α → β} {xs : List α} : mapTo f xs 0 = [] := by simp [mapTo]
theorem mapTo_len {α β : Type} {f : α → β} {xs : List α} {i : Nat} : (mapTo f xs i).length ≤ i := by simp [mapTo]; omega
theorem mapTo_len' {α β : Type} {f : α → β} {xs : List α} {i : Nat} (hi : i ≤ xs.length) : (mapTo f xs i).length = i := by simp [mapTo]; omega
theorem mapTo_succ {α β : Type} {f : α → β} {xs : List α} {i : Nat} (hi : i < xs.length) : mapTo f xs (i + 1) = mapTo f xs i ++ [f xs[i]] := by
  unfold mapTo; rw [List.take_succ_eq_append_getElem hi, List.map_append]; rfl
theorem mapTo_all {α β : Type} {f : α → β} {xs : List α} : mapTo f xs xs.length = xs.map f := by simp [mapTo]
theorem mapTo_fl {α : Type} {f : α → Nat} {xs : List α} {i : Nat} (hi : i < xs.length) : (mapTo f xs (i + 1)).map fl = (mapTo f xs i).map fl ++ [[.flt .f32 (f xs[i])]] := by
  rw [mapTo_succ hi, List.map_append]; rfl
theorem mapTo_il {α : Type} {f : α → Int} {xs : List α} {i : Nat} (hi : i < xs.length) : (mapTo f xs (i + 1)).map il = (mapTo f xs i).map il ++ [[.int .i64 (f xs[i])]] := by
  rw [mapTo_succ hi, List.map_append]; rfl
/-- The values of f at 0, 1, .., n - 1. -/
def tabTo {β : Type} (f : Nat → β) (n : Nat) : List β := (List.range n).map f
@[simp] theorem tabTo_zero {β : Type} {f : Nat → β} : tabTo f 0 = [] := rfl
theorem tabTo_len {β : Type} {f : Nat → β} {n : Nat} : (tabTo f n).length = n := by simp [tabTo]
theorem tabTo_succ {β : Type} {f : Nat → β} {n : Nat} : tabTo f (n + 1) = tabTo f n ++ [f n] := by simp [tabTo, List.range_succ]
theorem tabTo_fl {f : Nat → Nat} {n : Nat} : (tabTo f (n + 1)).map fl = (tabTo f n).map fl ++ [[.flt .f32 (f n)]] := by rw [tabTo_succ, List.map_append]; rfl
theorem tabTo_il {f : Nat → Int} {n : Nat} : (tabTo f (n + 1)).map il = (tabTo f n).map il ++ [[.int .i64 (f n)]] := by rw [tabTo_succ, List.map_append]; rfl
end Go.E
