/- Picking, spreading and folding of samples. -/
import Derived.Test.YtgdloogokjemdaaGreatDoorMF
set_option linter.unusedVariables false
set_option linter.unusedSimpArgs false
namespace Go.E
open Go
def L63 : LFn := ⟨1, (.seq (.reg [⟨(.some 2), (.mv (.c (.lf (.bool false)))), none⟩])
 (.seq (.reg [⟨(.some 3), (.mv (.t 0)), none⟩, ⟨(.some 4), (.len (.t 3)), none⟩, ⟨(.some 5), (.bin .leq (.t 4) (.c (.lf (.int .i64 256)))), none⟩, ⟨(.some 2), (.mv (.t 5)), none⟩])
 .ret)), [(.tmp 2)]⟩
class HasP (S : Sys) : Prop extends HasA S where
  f63 : S.fs 63 = some L63
/-- Every f-th of xs from the p-th on. -/
def pk (f p : Nat) (xs : List Nat) : List Nat := if h : 0 < f ∧ p < xs.length then xs[p]'h.2 :: pk f (p + f) xs else []
termination_by xs.length - p
theorem pk_step {f p : Nat} {xs : List Nat} (h1 : 0 < f) (h2 : p < xs.length) : pk f p xs = xs[p] :: pk f (p + f) xs := by
  rw [pk, dif_pos ⟨h1, h2⟩]
theorem pk_end {f p : Nat} {xs : List Nat} (h2 : ¬ p < xs.length) : pk f p xs = [] := by
  rw [pk, dif_neg (fun h => h2 h.2)]
theorem pk_len {f : Nat} {xs : List Nat} : ∀ {n p : Nat}, xs.length - p ≤ n → (pk f p xs).length ≤ n
  | 0, p, h => by rw [pk_end (by omega)]; simp
  | n + 1, p, h => by
    by_cases h1 : 0 < f ∧ p < xs.length
    · rw [pk_step h1.1 h1.2]; simp; exact pk_len (by omega)
    · rw [pk, dif_neg h1]; simp
section
variable {S : Sys} {lim : Nat} {h : Hp} {K : CV → Hp → Prop} [HasP S] {l : Lf} {xs : List Nat}
theorem c_areSamples (hA : Arr h l 1 (xs.map fl)) : CallT S true 63 [.lf l] h lim K = K (.lf (.bool (decide ((xs.length : Int) ≤ 256)))) h := by
  refine CallT_pure (F := L63) (HasP.f63) rfl (by first | rfl | (split <;> rfl) | simp) ?_; unfold L63; dsimp only []
  repeat' (first | (simp (disch := first | omega | assumption | (simp only [List.length_set]; omega) | (simp [*] <;> fail) | assumption) [-Bool.decide_and, -Bool.decide_or, -Bool.not_and, -Bool.not_or, toNat_pred, toNat_succ, wrap64, wr_new, wr_new0, ok_if, ok_ifn, iadV_sl, makeV_int, decT, decF, over_at, *, hA.len]) | (with_reducible refine Gd_split (fun hc => ?_) (fun hc => ?_) <;> (have hc2 := hc; try simp at hc2)) | (with_reducible refine Br_split (fun hc => ?_) (fun hc => ?_) <;> (have hc2 := hc; try simp at hc2)) | (with_reducible refine GdT_split (fun hc => ?_) (fun hc => ?_) <;> (have hc2 := hc; try simp at hc2)) | (with_reducible refine WT_alt ?_ ?_) | omega)
def okF (f p : Int) (xs : List Nat) : Bool := decide ((1 ≤ f ∧ f ≤ 8) ∧ (0 ≤ p ∧ p ≤ f - 1) ∧ (xs.length : Int) ≤ 256)
def pickBy (f p : Int) (xs : List Nat) : List Nat := if okF f p xs then pk f.toNat p.toNat xs else []
theorem pickBy_len {f p : Int} {xs : List Nat} : (pickBy f p xs).length ≤ 256 := by
  unfold pickBy
  split
  · rename_i h
    simp only [okF, decide_eq_true_eq] at h
    exact Nat.le_trans (pk_len (n := xs.length) (by omega)) (by omega)
  · simp
end
end Go.E
