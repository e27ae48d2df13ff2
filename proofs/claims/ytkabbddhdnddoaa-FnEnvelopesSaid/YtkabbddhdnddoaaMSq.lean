/- The sine of turns as float32, both sides; pans. -/
import Derived.Test.YtkabbddhdnddoaaMSp
set_option linter.unusedVariables false
set_option linter.unusedSimpArgs false
set_option exponentiation.threshold 3000
namespace Go.E
open Go
def finB (x : Nat) : Bool := fcmp .eql .f64 (fbin .sub .f64 x x) 0
def sine32 (x : Nat) : Nat := if finB (wid x) = true then (if farB (wid x) = true then 0 else (fconv .f64 .f32 (nearW (wid x))).getD 0) else nanOf .f32
theorem near_some {x : Nat} (hx : x < 18446744073709551616) (hf : finB x = true) (hfar : farB x = false) : fconv .f64 .f32 (nearW x) = some ((fconv .f64 .f32 (nearW x)).getD 0) := by
  obtain ⟨_, hl, _⟩ := near_facts hx hf hfar
  obtain ⟨⟨y, hy⟩, ⟨z, hz⟩⟩ := sine_some hl
  unfold nearW
  split
  · rw [hz]; rfl
  · rw [hy]; rfl
theorem nan_conv : fconv .f64 .f32 (nanOf .f64) = some (nanOf .f32) := by decide +kernel
theorem zero_conv : fconv .f64 .f32 0 = some 0 := by decide +kernel
theorem f32_lt (op : BinOp) (x y : Nat) : fbin op .f32 x y < 4294967296 := by
  unfold fbin
  cases hb : floatBits op .f32 x y with
  | none => exact nanOf_lt .f32
  | some r => exact bits_lt hb
section
variable {S : Sys} {lim : Nat} {h : Hp} {K : CV → Hp → Prop} 
section
variable [HasSi S]
theorem c_implSine {x : Nat} (hx : x < 4294967296) : CallT S true 47 [.lf (.flt .f32 x)] h lim K = K (.lf (.flt .f32 (sine32 x))) h := by
  have hw := wid_lt hx
  have hnc := nan_conv
  have hfi := fun h lim K => c_isFinite (S := S) (h := h) (lim := lim) (K := K) (x := wid x)
  cases hf : finB (wid x)
  · have e : sine32 x = nanOf .f32 := by unfold sine32; rw [hf]; rfl
    rw [e]
    unfold finB at hf
    rw [hf] at hfi
    refine CallT_pure (F := L47) (HasSi.f47) rfl (by first | rfl | (split <;> rfl) | simp) ?_; unfold L47; dsimp only []
    repeat' (first | (simp (disch := first | omega | assumption | (simp only [List.length_set]; omega) | (simp [*] <;> fail) | assumption) [-Bool.decide_and, -Bool.decide_or, -Bool.not_and, -Bool.not_or, toNat_pred, toNat_succ, wrap64, wr_new, wr_new0, ok_if, ok_ifn, iadV_sl, makeV_int, decT, decF, over_at, *, c_NaN]) | (with_reducible refine Gd_split (fun hc => ?_) (fun hc => ?_) <;> (have hc2 := hc; try simp at hc2)) | (with_reducible refine Br_split (fun hc => ?_) (fun hc => ?_) <;> (have hc2 := hc; try simp at hc2)) | (with_reducible refine GdT_split (fun hc => ?_) (fun hc => ?_) <;> (have hc2 := hc; try simp at hc2)) | (with_reducible refine WT_alt ?_ ?_) | omega)
  · have hn := (fin_of hf).1
    have hfr := fun h lim K => c_isFar (S := S) (h := h) (lim := lim) (K := K) hw hn
    cases hfar : farB (wid x)
    · have e : sine32 x = (fconv .f64 .f32 (nearW (wid x))).getD 0 := by unfold sine32; rw [hf, hfar]; rfl
      rw [e]
      have hc : ∀ h lim K, CallT S true 56 [.lf (.flt .f64 (wid x))] h lim K = K (.lf (.flt .f64 (nearW (wid x)))) h := fun h lim K => c_sine (S := S) (h := h) (lim := lim) (K := K) hw hf hfar
      have hs := near_some hw hf hfar
      generalize (fconv .f64 .f32 (nearW (wid x))).getD 0 = y at *
      generalize nearW (wid x) = z at *
      rw [hfar] at hfr
      unfold finB at hf
      rw [hf] at hfi
      refine CallT_pure (F := L47) (HasSi.f47) rfl (by first | rfl | (split <;> rfl) | simp) ?_; unfold L47; dsimp only []
      repeat' (first | (simp (disch := first | omega | assumption | (simp only [List.length_set]; omega) | (simp [*] <;> fail) | assumption) [-Bool.decide_and, -Bool.decide_or, -Bool.not_and, -Bool.not_or, toNat_pred, toNat_succ, wrap64, wr_new, wr_new0, ok_if, ok_ifn, iadV_sl, makeV_int, decT, decF, over_at, *]) | (with_reducible refine Gd_split (fun hc => ?_) (fun hc => ?_) <;> (have hc2 := hc; try simp at hc2)) | (with_reducible refine Br_split (fun hc => ?_) (fun hc => ?_) <;> (have hc2 := hc; try simp at hc2)) | (with_reducible refine GdT_split (fun hc => ?_) (fun hc => ?_) <;> (have hc2 := hc; try simp at hc2)) | (with_reducible refine WT_alt ?_ ?_) | omega)
    · have e : sine32 x = 0 := by unfold sine32; rw [hf, hfar]; rfl
      rw [e]
      rw [hfar] at hfr
      unfold finB at hf
      rw [hf] at hfi
      refine CallT_pure (F := L47) (HasSi.f47) rfl (by first | rfl | (split <;> rfl) | simp) ?_; unfold L47; dsimp only []
      repeat' (first | (simp (disch := first | omega | assumption | (simp only [List.length_set]; omega) | (simp [*] <;> fail) | assumption) [-Bool.decide_and, -Bool.decide_or, -Bool.not_and, -Bool.not_or, toNat_pred, toNat_succ, wrap64, wr_new, wr_new0, ok_if, ok_ifn, iadV_sl, makeV_int, decT, decF, over_at, *]) | (with_reducible refine Gd_split (fun hc => ?_) (fun hc => ?_) <;> (have hc2 := hc; try simp at hc2)) | (with_reducible refine Br_split (fun hc => ?_) (fun hc => ?_) <;> (have hc2 := hc; try simp at hc2)) | (with_reducible refine GdT_split (fun hc => ?_) (fun hc => ?_) <;> (have hc2 := hc; try simp at hc2)) | (with_reducible refine WT_alt ?_ ?_) | omega)
end
end
end Go.E
