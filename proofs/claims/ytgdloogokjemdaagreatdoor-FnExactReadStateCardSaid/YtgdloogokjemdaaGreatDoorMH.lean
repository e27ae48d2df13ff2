/- Lists that are written element by element. -/
import Derived.Test.YtgdloogokjemdaaGreatDoorMF
import Derived.Test.YtgdloogokjemdaaGreatDoorEH
set_option linter.unusedVariables false
set_option linter.unusedSimpArgs false
namespace Go.E
open Go
def mapTo {α β : Type} (f : α → β) (xs : List α) (i : Nat) : List β := (xs.take i).map f
@[simp] theorem mapTo_zero {α β : Type} {f : α → β} {xs : List α} : mapTo f xs 0 = [] := by simp [mapTo]
theorem mapTo_len {α β : Type} {f : α → β} {xs : List α} {i : Nat} : (mapTo f xs i).length ≤ i := by simp [mapTo]; omega
theorem mapTo_len' {α β : Type} {f : α → β} {xs : List α} {i : Nat} (hi : i ≤ xs.length) : (mapTo f xs i).length = i := by simp [mapTo]; omega
theorem mapTo_succ {α β : Type} {f : α → β} {xs : List α} {i : Nat} (hi : i < xs.length) : mapTo f xs (i + 1) = mapTo f xs i ++ [f xs[i]] := by
  unfold mapTo; rw [List.take_succ_eq_append_getElem hi, List.map_append]; rfl
theorem mapTo_all {α β : Type} {f : α → β} {xs : List α} : mapTo f xs xs.length = xs.map f := by simp [mapTo]
theorem mapTo_fl {α : Type} {f : α → Nat} {xs : List α} {i : Nat} (hi : i < xs.length) : (mapTo f xs (i + 1)).map fl = (mapTo f xs i).map fl ++ [[.flt .f32 (f xs[i])]] := by
  rw [mapTo_succ hi, List.map_append]; rfl
theorem mapTo_il {α : Type} {f : α → Int} {xs : List α} {i : Nat} (hi : i < xs.length) : (mapTo f xs (i + 1)).map il = (mapTo f xs i).map il ++ [[.int .i64 (f xs[i])]] := by
  rw [mapTo_succ hi, List.map_append]; rfl
/-- The values of f at 0, 1, .., n - 1. -/
def tabTo {β : Type} (f : Nat → β) (n : Nat) : List β := (List.range n).map f
@[simp] theorem tabTo_zero {β : Type} {f : Nat → β} : tabTo f 0 = [] := rfl
theorem tabTo_len {β : Type} {f : Nat → β} {n : Nat} : (tabTo f n).length = n := by simp [tabTo]
theorem tabTo_succ {β : Type} {f : Nat → β} {n : Nat} : tabTo f (n + 1) = tabTo f n ++ [f n] := by simp [tabTo, List.range_succ]
theorem tabTo_fl {f : Nat → Nat} {n : Nat} : (tabTo f (n + 1)).map fl = (tabTo f n).map fl ++ [[.flt .f32 (f n)]] := by rw [tabTo_succ, List.map_append]; rfl
theorem tabTo_il {f : Nat → Int} {n : Nat} : (tabTo f (n + 1)).map il = (tabTo f n).map il ++ [[.int .i64 (f n)]] := by rw [tabTo_succ, List.map_append]; rfl
/-- The list, of which the first i are written anew. -/
def updTo (f : Nat → Nat) (ls : List Nat) (i : Nat) : List Nat := (List.range ls.length).map fun j => if j < i then f j else ls.getD j 0
@[simp] theorem updTo_len {f : Nat → Nat} {ls : List Nat} {i : Nat} : (updTo f ls i).length = ls.length := by simp [updTo]
theorem updTo_zero {f : Nat → Nat} {ls : List Nat} : updTo f ls 0 = ls := by
  apply List.ext_getElem
  · simp
  · intro j h1 h2; simp [updTo, h2]
theorem updTo_get {f : Nat → Nat} {ls : List Nat} {i j : Nat} (hj : j < ls.length) (hi : i ≤ j) : (updTo f ls i)[j]'(by simpa using hj) = ls[j] := by
  simp only [updTo, List.getElem_map, List.getElem_range]
  rw [if_neg (by omega)]; simp [hj]
theorem updTo_set {f : Nat → Nat} {ls : List Nat} {i : Nat} {c : Nat} (hc : c = f i) : (updTo f ls i).set i c = updTo f ls (i + 1) := by
  subst hc
  apply List.ext_getElem
  · simp
  · intro j h1 h2
    simp only [List.getElem_set, updTo, List.getElem_map, List.getElem_range]
    by_cases e : i = j
    · subst e; simp
    · rw [if_neg e]
      by_cases h3 : j < i
      · rw [if_pos h3, if_pos (by omega)]
      · rw [if_neg h3, if_neg (by omega)]
theorem updTo_all {f : Nat → Nat} {ls : List Nat} {n : Nat} (hn : n = ls.length) : updTo f ls n = tabTo f n := by
  subst hn
  apply List.ext_getElem
  · simp [tabTo]
  · intro j h1 h2
    simp only [updTo, tabTo, List.getElem_map, List.getElem_range]
    rw [if_pos (by simpa using h1)]
theorem fl_set {zs : List Nat} {i c : Nat} : (zs.map fl).set i [.flt .f32 c] = (zs.set i c).map fl := by rw [List.map_set]; rfl
/-- What a step makes of a list, element by element, and the state behind it. -/
def scanS {σ α : Type} (step : σ → α → Nat × σ) (st : List Nat × σ) (x : α) : List Nat × σ := (st.1 ++ [(step st.2 x).1], (step st.2 x).2)
def scan {σ α : Type} (step : σ → α → Nat × σ) (s : σ) (xs : List α) : List Nat × σ := xs.foldl (scanS step) ([], s)
def outTo {σ α : Type} (step : σ → α → Nat × σ) (s : σ) (xs : List α) (i : Nat) : List Nat := (scan step s (xs.take i)).1
def stTo {σ α : Type} (step : σ → α → Nat × σ) (s : σ) (xs : List α) (i : Nat) : σ := (scan step s (xs.take i)).2
section
variable {σ α : Type} {step : σ → α → Nat × σ} {s : σ} {xs : List α} {i : Nat}
@[simp] theorem outTo_zero : outTo step s xs 0 = [] := by simp [outTo, scan]
@[simp] theorem stTo_zero : stTo step s xs 0 = s := by simp [stTo, scan]
theorem stTo_succ (hi : i < xs.length) : stTo step s xs (i + 1) = (step (stTo step s xs i) xs[i]).2 := by
  unfold stTo scan; rw [List.take_succ_eq_append_getElem hi, List.foldl_append]; rfl
theorem outTo_succ (hi : i < xs.length) : outTo step s xs (i + 1) = outTo step s xs i ++ [(step (stTo step s xs i) xs[i]).1] := by
  unfold outTo stTo scan; rw [List.take_succ_eq_append_getElem hi, List.foldl_append]; rfl
theorem outTo_fl (hi : i < xs.length) : (outTo step s xs (i + 1)).map fl = (outTo step s xs i).map fl ++ [[.flt .f32 (step (stTo step s xs i) xs[i]).1]] := by
  rw [outTo_succ hi, List.map_append]; rfl
theorem outTo_all : outTo step s xs xs.length = (scan step s xs).1 := by simp [outTo]
theorem stTo_all : stTo step s xs xs.length = (scan step s xs).2 := by simp [stTo]
theorem outTo_len (hi : i ≤ xs.length) : (outTo step s xs i).length = i := by
  induction i with
  | zero => simp
  | succ i ih => rw [outTo_succ (by omega), List.length_append, ih (by omega)]; rfl
theorem scan_len : (scan step s xs).1.length = xs.length := by rw [← outTo_all]; exact outTo_len (Nat.le_refl _)
theorem stTo_inv {I : σ → Prop} (h0 : I s) (hs : ∀ t x, I t → x ∈ xs → I (step t x).2) (hi : i ≤ xs.length) : I (stTo step s xs i) := by
  induction i with
  | zero => simpa using h0
  | succ i ih => rw [stTo_succ (by omega)]; exact hs _ _ (ih (by omega)) (List.getElem_mem _)
end
section
variable {h g : Hp}
theorem fls_flat : ∀ {xs : List Nat}, (xs.map fl).flatten = xs.map (Lf.flt .f32)
  | [] => rfl
  | x :: r => by simp [fl, fls_flat (xs := r)]
theorem New.fls {h g : Hp} {xs : List Nat} {cs : List Lf} {ty : Nat} (hk : Kept h g) (hc : cs = xs.map (Lf.flt .f32)) (hb : xs.length ≤ 140737488355328) : New h (g ++ [⟨cs, .own ty 1⟩]) (.sl g.length 0 xs.length 1) ty 1 (xs.map fl) := by
  subst hc
  have hs : Sl (g ++ [⟨xs.map (Lf.flt .f32), .own ty 1⟩]) g.length ty 1 (xs.map fl) := ⟨by rw [List.getElem?_append_right (Nat.le_refl _)]; simp [fls_flat], fun i r hi => by
    rw [List.getElem?_map] at hi
    obtain ⟨x, _, rfl⟩ := Option.map_eq_some_iff.1 hi
    rfl⟩
  have := New.of_sl (hk.trans (Kept.app g [⟨xs.map (Lf.flt .f32), .own ty 1⟩])) hs hk.1 (by simpa using hb)
  simpa using this
theorem wr_last {lim ty : Nat} {g : Hp} {cs new : List Lf} (hl : lim ≤ g.length) (hn : new.length = cs.length) : wrCells lim (g ++ [⟨cs, .own ty 1⟩]) g.length 0 new = some (g ++ [⟨new, .own ty 1⟩]) := by
  have := (Cel.new (g := g) (t := []) (ty := ty) (cs := cs)).wr (lim := lim) (new := new) hl hn
  simpa using this
theorem kept_cons {h t : Hp} {a : Ob} : Kept (h ++ [a]) (h ++ a :: t) := by
  have := Kept.app (h ++ [a]) t
  simpa using this
theorem cel_cons {h t : Hp} {a : Ob} {cs : List Lf} {ty : Nat} : Cel (h ++ a :: ⟨cs, .own ty 1⟩ :: t) (h.length + 1) ty cs := by
  have := Cel.new (g := h ++ [a]) (t := t) (ty := ty) (cs := cs)
  simpa using this
end
end Go.E
