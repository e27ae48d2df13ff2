/- A slice that can be had at once, and its copy. -/
import Derived.Test.YtjpaopcagomoiaaMP
set_option linter.unusedVariables false
set_option linter.unusedSimpArgs false
namespace Go.E
open Go
def L25 : LFn := ⟨1, (.seq (.reg [⟨(.some 2), (.mv (.c (.lf .nils))), none⟩])
 (.seq (.reg [⟨(.some 3), (.lit 53 1 0 [] []), none⟩, ⟨(.some 4), (.mv (.t 0)), none⟩, ⟨(.some 5), (.app 53 1 4 (.t 3) (.t 4)), none⟩, ⟨(.some 2), (.mv (.t 5)), none⟩])
 .ret)), [(.tmp 2)]⟩
class HasCn (S : Sys) : Prop where
  f25 : S.fs 25 = some L25
section
variable {S : Sys} {lim : Nat} {h : Hp} {K : CV → Hp → Prop} [HasCn S] {l1 l2 l3 l : Lf} {xs : List Nat}
theorem fl_rows : ∀ (i : Nat) (r : List Lf), (xs.map fl)[i]? = some r → r.length = 1 := by
  intro i r hi
  rw [List.getElem?_map] at hi
  obtain ⟨x, _, rfl⟩ := Option.map_eq_some_iff.1 hi
  rfl
/-- Known of a slice: its rows, and that they can be had at once. -/
structure Sm (h : Hp) (l : Lf) (xs : List Nat) : Prop where
  arr : Arr h l 1 (xs.map fl)
  src : srcCells 1 h (.lf l) = some ((xs.map fl).length, (xs.map fl).flatten)
theorem Sm.kept {g : Hp} (s : Sm h l xs) (k : Kept h g) : Sm g l xs := ⟨s.arr.kept k, src_kept k s.src⟩
theorem Sm.new {g : Hp} (hN : New h g l 53 1 (xs.map fl)) : Sm g l xs := ⟨hN.arr, hN.src⟩
theorem New.joined {g : Hp} {ys : List Nat} (hN : New h g l 53 1 (ys.map fl)) (s : Sm g l2 xs) (hl : lim ≤ h.length) (hb : ys.length + xs.length ≤ 1000000) : ∃ l' g', appV lim 53 1 4 g (.lf l) (.lf l2) = some (.lf l', g') ∧ New h g' l' 53 1 ((ys ++ xs).map fl) ∧ But g g' l l' := by
  obtain ⟨l', g', h1, h2, h3⟩ := hN.append (lim := lim) (bytes := 4) (by omega) hl s.src fl_rows (by simp; omega) (by simp; omega)
  exact ⟨l', g', h1, by simpa using h2, h3⟩
theorem c_copyNumbers (s : Sm h l xs) (hn : xs.length ≤ 1000000) (hl : lim ≤ h.length) (hK : ∀ l' g, New h g l' 53 1 (xs.map fl) → K (.lf l') g) : CallT S false 25 [.lf l] h lim K := by
  obtain ⟨l', g', h1, h2, h3⟩ := (New.lit0 (h := h) (ty := 53) (sz := 1)).joined (ys := []) (lim := lim) (s.kept (Kept.app h _)) hl (by simp; omega)
  rw [List.nil_append] at h2
  refine CallT_of_body (F := L25) (HasCn.f25) rfl ?_; unfold L25; dsimp only []
  repeat' (first | (simp (disch := first | omega | assumption | (simp only [List.length_set]; omega) | (simp [*] <;> fail) | assumption) [-Bool.decide_and, -Bool.decide_or, -Bool.not_and, -Bool.not_or, toNat_pred, toNat_succ, wrap64, wr_new, wr_new0, ok_if, ok_ifn, iadV_sl, makeV_int, decT, decF, over_at, *, leavesAll, fillL]) | (with_reducible refine Gd_split (fun hc => ?_) (fun hc => ?_) <;> (have hc2 := hc; try simp at hc2)) | (with_reducible refine Br_split (fun hc => ?_) (fun hc => ?_) <;> (have hc2 := hc; try simp at hc2)) | (with_reducible refine GdT_split (fun hc => ?_) (fun hc => ?_) <;> (have hc2 := hc; try simp at hc2)) | (with_reducible refine WT_alt ?_ ?_) | omega)
end
end Go.E
