/- What the law of oscillators calls, beside the oscillators. -/
import Derived.Test.YtkabbddhdnddoaaMWb
import Derived.Test.YtkabbddhdnddoaaMSu
import Derived.Test.YtkabbddhdnddoaaMDb
import Derived.Test.YtkabbddhdnddoaaMV
set_option linter.unusedVariables false
set_option linter.unusedSimpArgs false
namespace Go.E
open Go
def L21 : LFn := ⟨2, (.seq (.reg [⟨(.some 4), (.mv (.c (.lf (.flt .f64 0)))), none⟩])
 (.seq (.seq (.reg [⟨(.some 5), (.mv (.t 0)), none⟩, ⟨(.some 6), (.mv (.t 1)), none⟩, ⟨(.some 7), (.bin .lss (.t 5) (.t 6)), none⟩])
 (.cond (.t 7) (.seq (.reg [⟨(.some 8), (.mv (.t 1)), none⟩, ⟨(.some 9), (.mv (.t 0)), none⟩, ⟨(.some 10), (.bin .sub (.t 8) (.t 9)), none⟩, ⟨(.some 4), (.mv (.t 10)), none⟩])
 .ret) .skip))
 (.seq (.reg [⟨(.some 11), (.mv (.t 0)), none⟩, ⟨(.some 12), (.mv (.t 1)), none⟩, ⟨(.some 13), (.bin .sub (.t 11) (.t 12)), none⟩, ⟨(.some 4), (.mv (.t 13)), none⟩])
 .ret))), [(.tmp 4)]⟩
def L20 : LFn := ⟨1, (.seq (.reg [⟨(.some 2), (.mv (.c (.lf (.flt .f32 0)))), none⟩, ⟨(.some 3), (.mv (.c (.lf (.bool false)))), none⟩])
 (.seq (.seq (.reg [⟨(.some 4), (.mv (.t 0)), none⟩, ⟨(.some 5), (.call true 39 [(.t 4)]), none⟩, ⟨(.some 6), (.una .not (.t 5)), none⟩])
 (.cond (.t 6) (.seq (.reg [⟨(.some 2), (.mv (.c (.lf (.flt .f32 0)))), none⟩, ⟨(.some 3), (.mv (.c (.lf (.bool false)))), none⟩])
 .ret) .skip))
 (.seq (.reg [⟨(.some 7), (.mv (.t 0)), none⟩, ⟨(.some 8), (.call true 40 [(.t 7)]), none⟩, ⟨(.some 2), (.mv (.t 8)), none⟩, ⟨(.some 3), (.mv (.c (.lf (.bool true)))), none⟩])
 .ret))), [(.tmp 2), (.tmp 3)]⟩
class HasOl (S : Sys) : Prop extends HasSp S, HasV S where
  f21 : S.fs 21 = some L21
  f20 : S.fs 20 = some L20
theorem phT_add {s p a : Nat} : ∀ {b : Nat}, phT s (phT s p a) b = phT s p (a + b)
  | 0 => rfl
  | b + 1 => by
    have := phT_add (s := s) (p := p) (a := a) (b := b)
    show onP (phT s (phT s p a) b) s = onP (phT s p (a + b)) s
    rw [this]
theorem osT_add {k : Int} {s p a b : Nat} : osT k s p a ++ osT k s (phT s p a) b = osT k s p (a + b) := by
  unfold osT
  apply List.ext_getElem
  · simp
  · intro i h1 h2
    simp only [List.length_append, List.length_map, List.length_range] at h1 h2
    rcases Nat.lt_or_ge i a with q | q
    · rw [List.getElem_append_left (by simpa using q)]
      simp
    · rw [List.getElem_append_right (by simpa using q)]
      simp only [List.length_map, List.length_range, List.getElem_map, List.getElem_range]
      rw [phT_add]
      congr 2; omega
theorem osT_get {k : Int} {s p n i : Nat} (h : i < (osT k s p n).length) : (osT k s p n)[i] = wave32 k (phT s p i) := by simp [osT]
theorem CF_wave {k : Int} {x : Nat} (hk : 0 ≤ k ∧ k ≤ 3) (hx : CF x) (h : Unit32 (wave32 k x)) : CF (wave32 k x) := by
  rcases (show k = 0 ∨ k = 1 ∨ k = 2 ∨ k = 3 by omega) with rfl | rfl | rfl | rfl
  · rw [wave_0] at h ⊢
    exact ⟨h.2.2, can_of_not h.1⟩
  · rw [wave_1]; exact CF_bin
  · rw [wave_2]; split <;> exact ⟨by decide, by decide⟩
  · rw [wave_3]; exact CF_bin
theorem step_all : ∀ j : Nat, j < 101 → phB (fbin .quo .f32 (fofint .f32 j) 1120534528) = true := by decide +kernel
theorem phase_all : ∀ j : Nat, j < 128 → phB (fbin .quo .f32 (fofint .f32 j) 1124073472) = true := by decide +kernel
section
variable {S : Sys} {lim : Nat} {h : Hp} {K : CV → Hp → Prop} [HasOl S]
theorem c_b10Gap {x y : Nat} : CallT S true 21 [.lf (.flt .f64 x), .lf (.flt .f64 y)] h lim K = K (.lf (.flt .f64 (gapB x y))) h := by
  unfold gapB
  cases hc : fcmp .lss .f64 x y
  · rw [if_neg (by simp)]
    refine CallT_pure (F := L21) (HasOl.f21) rfl (by first | rfl | (split <;> rfl) | simp) ?_; unfold L21; dsimp only []
    repeat' (first | (simp (disch := first | omega | assumption | (simp only [List.length_set]; omega) | (simp [*] <;> fail) | assumption) [-Bool.decide_and, -Bool.decide_or, -Bool.not_and, -Bool.not_or, toNat_pred, toNat_succ, wrap64, wr_new, wr_new0, ok_if, ok_ifn, iadV_sl, makeV_int, decT, decF, over_at, *]) | (with_reducible refine Gd_split (fun hc => ?_) (fun hc => ?_) <;> (have hc2 := hc; try simp at hc2)) | (with_reducible refine Br_split (fun hc => ?_) (fun hc => ?_) <;> (have hc2 := hc; try simp at hc2)) | (with_reducible refine GdT_split (fun hc => ?_) (fun hc => ?_) <;> (have hc2 := hc; try simp at hc2)) | (with_reducible refine WT_alt ?_ ?_) | omega)
  · rw [if_pos rfl]
    refine CallT_pure (F := L21) (HasOl.f21) rfl (by first | rfl | (split <;> rfl) | simp) ?_; unfold L21; dsimp only []
    repeat' (first | (simp (disch := first | omega | assumption | (simp only [List.length_set]; omega) | (simp [*] <;> fail) | assumption) [-Bool.decide_and, -Bool.decide_or, -Bool.not_and, -Bool.not_or, toNat_pred, toNat_succ, wrap64, wr_new, wr_new0, ok_if, ok_ifn, iadV_sl, makeV_int, decT, decF, over_at, *]) | (with_reducible refine Gd_split (fun hc => ?_) (fun hc => ?_) <;> (have hc2 := hc; try simp at hc2)) | (with_reducible refine Br_split (fun hc => ?_) (fun hc => ?_) <;> (have hc2 := hc; try simp at hc2)) | (with_reducible refine GdT_split (fun hc => ?_) (fun hc => ?_) <;> (have hc2 := hc; try simp at hc2)) | (with_reducible refine WT_alt ?_ ?_) | omega)
theorem c_StepOfPitch {p : Int} (hp : 0 ≤ p ∧ p ≤ 127) : CallT S true 20 [.lf (.int .i64 p)] h lim K = K (.tup [.lf (.flt .f32 (step32 p)), .lf (.bool true)]) h := by
  have h1 := fun h lim K => c_stepOf (S := S) (h := h) (lim := lim) (K := K) hp
  generalize step32 p = y at *
  refine CallT_pure (F := L20) (HasOl.f20) rfl (by first | rfl | (split <;> rfl) | simp) ?_; unfold L20; dsimp only []
  repeat' (first | (simp (disch := first | omega | assumption | (simp only [List.length_set]; omega) | (simp [*] <;> fail) | assumption) [-Bool.decide_and, -Bool.decide_or, -Bool.not_and, -Bool.not_or, toNat_pred, toNat_succ, wrap64, wr_new, wr_new0, ok_if, ok_ifn, iadV_sl, makeV_int, decT, decF, over_at, *]) | (with_reducible refine Gd_split (fun hc => ?_) (fun hc => ?_) <;> (have hc2 := hc; try simp at hc2)) | (with_reducible refine Br_split (fun hc => ?_) (fun hc => ?_) <;> (have hc2 := hc; try simp at hc2)) | (with_reducible refine GdT_split (fun hc => ?_) (fun hc => ?_) <;> (have hc2 := hc; try simp at hc2)) | (with_reducible refine WT_alt ?_ ?_) | omega)
end
section
variable {S : Sys} {lim : Nat} {h : Hp} {K : CV → Hp → Prop} [HasDr S] {l l2 : Lf} {cs : List Int}
theorem c_b10At1 {k n : Nat} (hA : Arr h l 1 (cs.map ul)) (hc : ∀ c ∈ cs, 0 ≤ c ∧ c < 256) (hn : 1 ≤ n) (hn2 : n ≤ 200) (hk : k ≤ 100) : ∃ v : Nat, v < n ∧ ∀ g, Kept h g → ∀ lim K, CallT S true 9 [.lf l, .lf (.int .i64 k), .lf (.int .i64 n)] g lim K = K (.lf (.int .i64 v)) g := by
  rcases Nat.lt_or_ge 1 n with q | q
  · exact c_b10At hA hc q hn2 hk
  · obtain rfl : n = 1 := by omega
    refine ⟨0, by decide, fun g kg lim K => ?_⟩
    refine CallT_pure (F := L9) (HasDr.f9) rfl (by first | rfl | (split <;> rfl) | simp) ?_; unfold L9; dsimp only []
    repeat' (first | (simp (disch := first | omega | assumption | (simp only [List.length_set]; omega) | (simp [*] <;> fail) | assumption) [-Bool.decide_and, -Bool.decide_or, -Bool.not_and, -Bool.not_or, toNat_pred, toNat_succ, wrap64, wr_new, wr_new0, ok_if, ok_ifn, iadV_sl, makeV_int, decT, decF, over_at, *]) | (with_reducible refine Gd_split (fun hc => ?_) (fun hc => ?_) <;> (have hc2 := hc; try simp at hc2)) | (with_reducible refine Br_split (fun hc => ?_) (fun hc => ?_) <;> (have hc2 := hc; try simp at hc2)) | (with_reducible refine GdT_split (fun hc => ?_) (fun hc => ?_) <;> (have hc2 := hc; try simp at hc2)) | (with_reducible refine WT_alt ?_ ?_) | omega)
end
end Go.E
