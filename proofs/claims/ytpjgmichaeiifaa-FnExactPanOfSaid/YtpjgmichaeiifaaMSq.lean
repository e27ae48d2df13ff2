/- The sine of turns as float32, both sides; pans. -/
import Derived.Test.YtpjgmichaeiifaaMSp
set_option linter.unusedVariables false
set_option linter.unusedSimpArgs false
set_option exponentiation.threshold 3000
namespace Go.E
open Go
def L111 : LFn := ⟨1, (.seq (.reg [⟨(.some 2), (.mv (.c (.lf (.bool false)))), none⟩])
 (.seq (.reg [⟨(.some 3), (.mv (.t 0)), none⟩, ⟨(.some 4), (.bin .geq (.t 3) (.c (.lf (.flt .f32 0)))), none⟩, ⟨(.some 5), (.mv (.t 4)), none⟩, ⟨(.some 6), (.mv (.t 0)), (.some (5, true))⟩, ⟨(.some 7), (.bin .leq (.t 6) (.c (.lf (.flt .f32 1065353216)))), (.some (5, true))⟩, ⟨(.some 8), (.pick (.t 5) (.t 7) (.c (.lf (.bool false)))), none⟩, ⟨(.some 2), (.mv (.t 8)), none⟩])
 .ret)), [(.tmp 2)]⟩
def L112 : LFn := ⟨1, (.seq (.reg [⟨(.some 2), (.mv (.c (.lf (.flt .f32 0)))), none⟩, ⟨(.some 3), (.mv (.c (.lf (.flt .f32 0)))), none⟩])
 (.seq (.reg [⟨(.some 4), (.mv (.t 0)), none⟩, ⟨(.some 5), (.bin .sub (.c (.lf (.flt .f32 1065353216))) (.t 4)), none⟩, ⟨(.some 6), (.bin .quo (.t 5) (.c (.lf (.flt .f32 1082130432)))), none⟩, ⟨(.some 7), (.call true 135 [(.t 6)]), none⟩, ⟨(.some 8), (.mv (.t 0)), none⟩, ⟨(.some 9), (.bin .quo (.t 8) (.c (.lf (.flt .f32 1082130432)))), none⟩, ⟨(.some 10), (.call true 135 [(.t 9)]), none⟩, ⟨(.some 2), (.mv (.t 7)), none⟩, ⟨(.some 3), (.mv (.t 10)), none⟩])
 .ret)), [(.tmp 2), (.tmp 3)]⟩
def L51 : LFn := ⟨1, (.seq (.reg [⟨(.some 2), (.mv (.c (.lf (.flt .f32 0)))), none⟩, ⟨(.some 3), (.mv (.c (.lf (.flt .f32 0)))), none⟩, ⟨(.some 4), (.mv (.c (.lf (.bool false)))), none⟩])
 (.seq (.seq (.reg [⟨(.some 7), (.mv (.t 0)), none⟩, ⟨(.some 8), (.call true 111 [(.t 7)]), none⟩, ⟨(.some 9), (.una .not (.t 8)), none⟩])
 (.cond (.t 9) (.seq (.reg [⟨(.some 2), (.mv (.c (.lf (.flt .f32 0)))), none⟩, ⟨(.some 3), (.mv (.c (.lf (.flt .f32 0)))), none⟩, ⟨(.some 4), (.mv (.c (.lf (.bool false)))), none⟩])
 .ret) .skip))
 (.seq (.reg [⟨(.some 11), (.mv (.t 0)), none⟩, ⟨(.some 12), (.call true 112 [(.t 11)]), none⟩, ⟨(.some 10), (.mv (.t 12)), none⟩, ⟨(.some 13), (.ext (.t 10) 0), none⟩, ⟨(.some 14), (.ext (.t 10) 1), none⟩, ⟨(.some 5), (.mv (.t 13)), none⟩, ⟨(.some 6), (.mv (.t 14)), none⟩])
 (.seq (.reg [⟨(.some 15), (.mv (.t 5)), none⟩, ⟨(.some 16), (.mv (.t 6)), none⟩, ⟨(.some 2), (.mv (.t 15)), none⟩, ⟨(.some 3), (.mv (.t 16)), none⟩, ⟨(.some 4), (.mv (.c (.lf (.bool true)))), none⟩])
 .ret)))), [(.tmp 2), (.tmp 3), (.tmp 4)]⟩
def L101 : LFn := ⟨1, (.seq (.reg [⟨(.some 2), (.mv (.c (.lf (.bool false)))), none⟩])
 (.seq (.reg [⟨(.some 3), (.mv (.t 0)), none⟩, ⟨(.some 4), (.bin .geq (.t 3) (.c (.lf (.flt .f32 0)))), none⟩, ⟨(.some 5), (.mv (.t 4)), none⟩, ⟨(.some 6), (.mv (.t 0)), (.some (5, true))⟩, ⟨(.some 7), (.bin .leq (.t 6) (.c (.lf (.flt .f32 1065353216)))), (.some (5, true))⟩, ⟨(.some 8), (.pick (.t 5) (.t 7) (.c (.lf (.bool false)))), none⟩, ⟨(.some 2), (.mv (.t 8)), none⟩])
 .ret)), [(.tmp 2)]⟩
def L52 : LFn := ⟨1, (.seq (.reg [⟨(.some 2), (.mv (.c (.lf (.flt .f32 0)))), none⟩, ⟨(.some 3), (.mv (.c (.lf (.flt .f32 0)))), none⟩, ⟨(.some 4), (.mv (.c (.lf (.bool false)))), none⟩])
 (.seq (.seq (.reg [⟨(.some 5), (.mv (.t 0)), none⟩, ⟨(.some 6), (.call true 101 [(.t 5)]), none⟩, ⟨(.some 7), (.una .not (.t 6)), none⟩])
 (.cond (.t 7) (.seq (.reg [⟨(.some 2), (.mv (.c (.lf (.flt .f32 0)))), none⟩, ⟨(.some 3), (.mv (.c (.lf (.flt .f32 0)))), none⟩, ⟨(.some 4), (.mv (.c (.lf (.bool false)))), none⟩])
 .ret) .skip))
 (.seq (.reg [⟨(.some 8), (.mv (.t 0)), none⟩, ⟨(.some 9), (.bin .sub (.c (.lf (.flt .f32 1065353216))) (.t 8)), none⟩, ⟨(.some 10), (.bin .quo (.t 9) (.c (.lf (.flt .f32 1082130432)))), none⟩, ⟨(.some 11), (.call true 113 [(.t 10)]), none⟩, ⟨(.some 12), (.mv (.t 0)), none⟩, ⟨(.some 13), (.bin .quo (.t 12) (.c (.lf (.flt .f32 1082130432)))), none⟩, ⟨(.some 14), (.call true 113 [(.t 13)]), none⟩, ⟨(.some 2), (.mv (.t 11)), none⟩, ⟨(.some 3), (.mv (.t 14)), none⟩, ⟨(.some 4), (.mv (.c (.lf (.bool true)))), none⟩])
 .ret))), [(.tmp 2), (.tmp 3), (.tmp 4)]⟩
class HasPan (S : Sys) : Prop extends HasSi S where
  f111 : S.fs 111 = some L111
  f112 : S.fs 112 = some L112
  f51 : S.fs 51 = some L51
  f101 : S.fs 101 = some L101
  f52 : S.fs 52 = some L52
def finB (x : Nat) : Bool := fcmp .eql .f64 (fbin .sub .f64 x x) 0
def sine32 (x : Nat) : Nat := if finB (wid x) = true then (if farB (wid x) = true then 0 else (fconv .f64 .f32 (nearW (wid x))).getD 0) else nanOf .f32
theorem near_some {x : Nat} (hx : x < 18446744073709551616) (hf : finB x = true) (hfar : farB x = false) : fconv .f64 .f32 (nearW x) = some ((fconv .f64 .f32 (nearW x)).getD 0) := by
  obtain ⟨_, hl, _⟩ := near_facts hx hf hfar
  obtain ⟨⟨y, hy⟩, ⟨z, hz⟩⟩ := sine_some hl
  unfold nearW
  split
  · rw [hz]; rfl
  · rw [hy]; rfl
theorem nan_conv : fconv .f64 .f32 (nanOf .f64) = some (nanOf .f32) := by decide +kernel
theorem zero_conv : fconv .f64 .f32 0 = some 0 := by decide +kernel
section
variable {S : Sys} {lim : Nat} {h : Hp} {K : CV → Hp → Prop} 
section
variable [HasSi S]
theorem c_l01Narrow {x y : Nat} (hy : fconv .f64 .f32 x = some y) : CallT S true 144 [.lf (.flt .f64 x)] h lim K = K (.lf (.flt .f32 y)) h := by
  refine CallT_pure (F := L144) (HasSi.f144) rfl (by first | rfl | (split <;> rfl) | simp) ?_; unfold L144; dsimp only []
  repeat' (first | (simp (disch := first | omega | assumption | (simp only [List.length_set]; omega) | (simp [*] <;> fail) | assumption) [-Bool.decide_and, -Bool.decide_or, -Bool.not_and, -Bool.not_or, toNat_pred, toNat_succ, wrap64, wr_new, wr_new0, ok_if, ok_ifn, iadV_sl, makeV_int, decT, decF, over_at, *]) | (with_reducible refine Gd_split (fun hc => ?_) (fun hc => ?_) <;> (have hc2 := hc; try simp at hc2)) | (with_reducible refine Br_split (fun hc => ?_) (fun hc => ?_) <;> (have hc2 := hc; try simp at hc2)) | (with_reducible refine GdT_split (fun hc => ?_) (fun hc => ?_) <;> (have hc2 := hc; try simp at hc2)) | (with_reducible refine WT_alt ?_ ?_) | omega)
theorem c_specSine {x : Nat} (hx : x < 4294967296) : CallT S true 135 [.lf (.flt .f32 x)] h lim K = K (.lf (.flt .f32 (sine32 x))) h := by
  have hw := wid_lt hx
  cases hf : finB (wid x)
  · have e : sine32 x = nanOf .f32 := by unfold sine32; rw [hf]; rfl
    rw [e]
    have hne : fcmp .neq .f64 (fbin .sub .f64 (wid x) (wid x)) 0 = true := by unfold finB at hf; rw [fcmp_neq, hf]; rfl
    have hc : ∀ h lim K, CallT S true 145 [.lf (.flt .f64 (wid x))] h lim K = K (.lf (.flt .f64 (nanOf .f64))) h := by
      intro h lim K
      refine CallT_pure (F := L145) (HasSi.f145) rfl (by first | rfl | (split <;> rfl) | simp) ?_; unfold L145; dsimp only []
      repeat' (first | (simp (disch := first | omega | assumption | (simp only [List.length_set]; omega) | (simp [*] <;> fail) | assumption) [-Bool.decide_and, -Bool.decide_or, -Bool.not_and, -Bool.not_or, toNat_pred, toNat_succ, wrap64, wr_new, wr_new0, ok_if, ok_ifn, iadV_sl, makeV_int, decT, decF, over_at, *, c_NaN]) | (with_reducible refine Gd_split (fun hc => ?_) (fun hc => ?_) <;> (have hc2 := hc; try simp at hc2)) | (with_reducible refine Br_split (fun hc => ?_) (fun hc => ?_) <;> (have hc2 := hc; try simp at hc2)) | (with_reducible refine GdT_split (fun hc => ?_) (fun hc => ?_) <;> (have hc2 := hc; try simp at hc2)) | (with_reducible refine WT_alt ?_ ?_) | omega)
    have hn := fun h lim K => c_l01Narrow (S := S) (h := h) (lim := lim) (K := K) nan_conv
    refine CallT_pure (F := L135) (HasSi.f135) rfl (by first | rfl | (split <;> rfl) | simp) ?_; unfold L135; dsimp only []
    repeat' (first | (simp (disch := first | omega | assumption | (simp only [List.length_set]; omega) | (simp [*] <;> fail) | assumption) [-Bool.decide_and, -Bool.decide_or, -Bool.not_and, -Bool.not_or, toNat_pred, toNat_succ, wrap64, wr_new, wr_new0, ok_if, ok_ifn, iadV_sl, makeV_int, decT, decF, over_at, *]) | (with_reducible refine Gd_split (fun hc => ?_) (fun hc => ?_) <;> (have hc2 := hc; try simp at hc2)) | (with_reducible refine Br_split (fun hc => ?_) (fun hc => ?_) <;> (have hc2 := hc; try simp at hc2)) | (with_reducible refine GdT_split (fun hc => ?_) (fun hc => ?_) <;> (have hc2 := hc; try simp at hc2)) | (with_reducible refine WT_alt ?_ ?_) | omega)
  · cases hfar : farB (wid x)
    · have e : sine32 x = (fconv .f64 .f32 (nearW (wid x))).getD 0 := by unfold sine32; rw [hf, hfar]; rfl
      rw [e]
      have hc := fun h lim K => c_l01SineNear (S := S) (h := h) (lim := lim) (K := K) hw hf hfar
      have hn := fun h lim K => c_l01Narrow (S := S) (h := h) (lim := lim) (K := K) (near_some hw hf hfar)
      generalize (fconv .f64 .f32 (nearW (wid x))).getD 0 = y at *
      generalize nearW (wid x) = z at *
      refine CallT_pure (F := L135) (HasSi.f135) rfl (by first | rfl | (split <;> rfl) | simp) ?_; unfold L135; dsimp only []
      repeat' (first | (simp (disch := first | omega | assumption | (simp only [List.length_set]; omega) | (simp [*] <;> fail) | assumption) [-Bool.decide_and, -Bool.decide_or, -Bool.not_and, -Bool.not_or, toNat_pred, toNat_succ, wrap64, wr_new, wr_new0, ok_if, ok_ifn, iadV_sl, makeV_int, decT, decF, over_at, *]) | (with_reducible refine Gd_split (fun hc => ?_) (fun hc => ?_) <;> (have hc2 := hc; try simp at hc2)) | (with_reducible refine Br_split (fun hc => ?_) (fun hc => ?_) <;> (have hc2 := hc; try simp at hc2)) | (with_reducible refine GdT_split (fun hc => ?_) (fun hc => ?_) <;> (have hc2 := hc; try simp at hc2)) | (with_reducible refine WT_alt ?_ ?_) | omega)
    · have e : sine32 x = 0 := by unfold sine32; rw [hf, hfar]; rfl
      rw [e]
      have hne : fcmp .neq .f64 (fbin .sub .f64 (wid x) (wid x)) 0 = false := by unfold finB at hf; rw [fcmp_neq, hf]; rfl
      unfold farB bigD negBigD at hfar
      have hc : ∀ h lim K, CallT S true 145 [.lf (.flt .f64 (wid x))] h lim K = K (.lf (.flt .f64 0)) h := by
        intro h lim K
        cases f1 : fcmp .geq .f64 (wid x) 4841369599423283200
        · rw [f1, Bool.false_or] at hfar
          refine CallT_pure (F := L145) (HasSi.f145) rfl (by first | rfl | (split <;> rfl) | simp) ?_; unfold L145; dsimp only []
          repeat' (first | (simp (disch := first | omega | assumption | (simp only [List.length_set]; omega) | (simp [*] <;> fail) | assumption) [-Bool.decide_and, -Bool.decide_or, -Bool.not_and, -Bool.not_or, toNat_pred, toNat_succ, wrap64, wr_new, wr_new0, ok_if, ok_ifn, iadV_sl, makeV_int, decT, decF, over_at, *]) | (with_reducible refine Gd_split (fun hc => ?_) (fun hc => ?_) <;> (have hc2 := hc; try simp at hc2)) | (with_reducible refine Br_split (fun hc => ?_) (fun hc => ?_) <;> (have hc2 := hc; try simp at hc2)) | (with_reducible refine GdT_split (fun hc => ?_) (fun hc => ?_) <;> (have hc2 := hc; try simp at hc2)) | (with_reducible refine WT_alt ?_ ?_) | omega)
        · refine CallT_pure (F := L145) (HasSi.f145) rfl (by first | rfl | (split <;> rfl) | simp) ?_; unfold L145; dsimp only []
          repeat' (first | (simp (disch := first | omega | assumption | (simp only [List.length_set]; omega) | (simp [*] <;> fail) | assumption) [-Bool.decide_and, -Bool.decide_or, -Bool.not_and, -Bool.not_or, toNat_pred, toNat_succ, wrap64, wr_new, wr_new0, ok_if, ok_ifn, iadV_sl, makeV_int, decT, decF, over_at, *]) | (with_reducible refine Gd_split (fun hc => ?_) (fun hc => ?_) <;> (have hc2 := hc; try simp at hc2)) | (with_reducible refine Br_split (fun hc => ?_) (fun hc => ?_) <;> (have hc2 := hc; try simp at hc2)) | (with_reducible refine GdT_split (fun hc => ?_) (fun hc => ?_) <;> (have hc2 := hc; try simp at hc2)) | (with_reducible refine WT_alt ?_ ?_) | omega)
      have hn := fun h lim K => c_l01Narrow (S := S) (h := h) (lim := lim) (K := K) zero_conv
      refine CallT_pure (F := L135) (HasSi.f135) rfl (by first | rfl | (split <;> rfl) | simp) ?_; unfold L135; dsimp only []
      repeat' (first | (simp (disch := first | omega | assumption | (simp only [List.length_set]; omega) | (simp [*] <;> fail) | assumption) [-Bool.decide_and, -Bool.decide_or, -Bool.not_and, -Bool.not_or, toNat_pred, toNat_succ, wrap64, wr_new, wr_new0, ok_if, ok_ifn, iadV_sl, makeV_int, decT, decF, over_at, *]) | (with_reducible refine Gd_split (fun hc => ?_) (fun hc => ?_) <;> (have hc2 := hc; try simp at hc2)) | (with_reducible refine Br_split (fun hc => ?_) (fun hc => ?_) <;> (have hc2 := hc; try simp at hc2)) | (with_reducible refine GdT_split (fun hc => ?_) (fun hc => ?_) <;> (have hc2 := hc; try simp at hc2)) | (with_reducible refine WT_alt ?_ ?_) | omega)
theorem c_implSine {x : Nat} (hx : x < 4294967296) : CallT S true 113 [.lf (.flt .f32 x)] h lim K = K (.lf (.flt .f32 (sine32 x))) h := by
  have hw := wid_lt hx
  have hnc := nan_conv
  have hfi := fun h lim K => c_isFinite (S := S) (h := h) (lim := lim) (K := K) (x := wid x)
  cases hf : finB (wid x)
  · have e : sine32 x = nanOf .f32 := by unfold sine32; rw [hf]; rfl
    rw [e]
    unfold finB at hf
    rw [hf] at hfi
    refine CallT_pure (F := L113) (HasSi.f113) rfl (by first | rfl | (split <;> rfl) | simp) ?_; unfold L113; dsimp only []
    repeat' (first | (simp (disch := first | omega | assumption | (simp only [List.length_set]; omega) | (simp [*] <;> fail) | assumption) [-Bool.decide_and, -Bool.decide_or, -Bool.not_and, -Bool.not_or, toNat_pred, toNat_succ, wrap64, wr_new, wr_new0, ok_if, ok_ifn, iadV_sl, makeV_int, decT, decF, over_at, *, c_NaN]) | (with_reducible refine Gd_split (fun hc => ?_) (fun hc => ?_) <;> (have hc2 := hc; try simp at hc2)) | (with_reducible refine Br_split (fun hc => ?_) (fun hc => ?_) <;> (have hc2 := hc; try simp at hc2)) | (with_reducible refine GdT_split (fun hc => ?_) (fun hc => ?_) <;> (have hc2 := hc; try simp at hc2)) | (with_reducible refine WT_alt ?_ ?_) | omega)
  · have hn := (fin_of hf).1
    have hfr := fun h lim K => c_isFar (S := S) (h := h) (lim := lim) (K := K) hw hn
    cases hfar : farB (wid x)
    · have e : sine32 x = (fconv .f64 .f32 (nearW (wid x))).getD 0 := by unfold sine32; rw [hf, hfar]; rfl
      rw [e]
      have hc : ∀ h lim K, CallT S true 139 [.lf (.flt .f64 (wid x))] h lim K = K (.lf (.flt .f64 (nearW (wid x)))) h := fun h lim K => c_sine (S := S) (h := h) (lim := lim) (K := K) hw hf hfar
      have hs := near_some hw hf hfar
      generalize (fconv .f64 .f32 (nearW (wid x))).getD 0 = y at *
      generalize nearW (wid x) = z at *
      rw [hfar] at hfr
      unfold finB at hf
      rw [hf] at hfi
      refine CallT_pure (F := L113) (HasSi.f113) rfl (by first | rfl | (split <;> rfl) | simp) ?_; unfold L113; dsimp only []
      repeat' (first | (simp (disch := first | omega | assumption | (simp only [List.length_set]; omega) | (simp [*] <;> fail) | assumption) [-Bool.decide_and, -Bool.decide_or, -Bool.not_and, -Bool.not_or, toNat_pred, toNat_succ, wrap64, wr_new, wr_new0, ok_if, ok_ifn, iadV_sl, makeV_int, decT, decF, over_at, *]) | (with_reducible refine Gd_split (fun hc => ?_) (fun hc => ?_) <;> (have hc2 := hc; try simp at hc2)) | (with_reducible refine Br_split (fun hc => ?_) (fun hc => ?_) <;> (have hc2 := hc; try simp at hc2)) | (with_reducible refine GdT_split (fun hc => ?_) (fun hc => ?_) <;> (have hc2 := hc; try simp at hc2)) | (with_reducible refine WT_alt ?_ ?_) | omega)
    · have e : sine32 x = 0 := by unfold sine32; rw [hf, hfar]; rfl
      rw [e]
      rw [hfar] at hfr
      unfold finB at hf
      rw [hf] at hfi
      refine CallT_pure (F := L113) (HasSi.f113) rfl (by first | rfl | (split <;> rfl) | simp) ?_; unfold L113; dsimp only []
      repeat' (first | (simp (disch := first | omega | assumption | (simp only [List.length_set]; omega) | (simp [*] <;> fail) | assumption) [-Bool.decide_and, -Bool.decide_or, -Bool.not_and, -Bool.not_or, toNat_pred, toNat_succ, wrap64, wr_new, wr_new0, ok_if, ok_ifn, iadV_sl, makeV_int, decT, decF, over_at, *]) | (with_reducible refine Gd_split (fun hc => ?_) (fun hc => ?_) <;> (have hc2 := hc; try simp at hc2)) | (with_reducible refine Br_split (fun hc => ?_) (fun hc => ?_) <;> (have hc2 := hc; try simp at hc2)) | (with_reducible refine GdT_split (fun hc => ?_) (fun hc => ?_) <;> (have hc2 := hc; try simp at hc2)) | (with_reducible refine WT_alt ?_ ?_) | omega)
end
section
variable [HasPan S]
def panB' (x : Nat) : Bool := fcmp .geq .f32 x 0 && fcmp .leq .f32 x 1065353216
def panT (x : Nat) : CV := if panB' x = true then .tup [.lf (.flt .f32 (sine32 (fbin .quo .f32 (fbin .sub .f32 1065353216 x) 1082130432))), .lf (.flt .f32 (sine32 (fbin .quo .f32 x 1082130432))), .lf (.bool true)] else .tup [.lf (.flt .f32 0), .lf (.flt .f32 0), .lf (.bool false)]
theorem f32_lt (op : BinOp) (x y : Nat) : fbin op .f32 x y < 4294967296 := by
  unfold fbin
  cases hb : floatBits op .f32 x y with
  | none => exact nanOf_lt .f32
  | some r => exact bits_lt hb
theorem c_specPanOf {x : Nat} : CallT S true 51 [.lf (.flt .f32 x)] h lim K = K (panT x) h := by
  have hp : ∀ h lim K, CallT S true 111 [.lf (.flt .f32 x)] h lim K = K (.lf (.bool (panB' x))) h := by
    intro h lim K
    unfold panB'
    refine CallT_pure (F := L111) (HasPan.f111) rfl (by first | rfl | (split <;> rfl) | simp) ?_; unfold L111; dsimp only []
    repeat' (first | (simp (disch := first | omega | assumption | (simp only [List.length_set]; omega) | (simp [*] <;> fail) | assumption) [-Bool.decide_and, -Bool.decide_or, -Bool.not_and, -Bool.not_or, toNat_pred, toNat_succ, wrap64, wr_new, wr_new0, ok_if, ok_ifn, iadV_sl, makeV_int, decT, decF, over_at, *]) | (with_reducible refine Gd_split (fun hc => ?_) (fun hc => ?_) <;> (have hc2 := hc; try simp at hc2)) | (with_reducible refine Br_split (fun hc => ?_) (fun hc => ?_) <;> (have hc2 := hc; try simp at hc2)) | (with_reducible refine GdT_split (fun hc => ?_) (fun hc => ?_) <;> (have hc2 := hc; try simp at hc2)) | (with_reducible refine WT_alt ?_ ?_) | omega)
  have hg : ∀ h lim K, CallT S true 112 [.lf (.flt .f32 x)] h lim K = K (.tup [.lf (.flt .f32 (sine32 (fbin .quo .f32 (fbin .sub .f32 1065353216 x) 1082130432))), .lf (.flt .f32 (sine32 (fbin .quo .f32 x 1082130432)))]) h := by
    intro h lim K
    have s1 := fun h lim K => c_specSine (S := S) (h := h) (lim := lim) (K := K) (f32_lt .quo (fbin .sub .f32 1065353216 x) 1082130432)
    have s2 := fun h lim K => c_specSine (S := S) (h := h) (lim := lim) (K := K) (f32_lt .quo x 1082130432)
    refine CallT_pure (F := L112) (HasPan.f112) rfl (by first | rfl | (split <;> rfl) | simp) ?_; unfold L112; dsimp only []
    repeat' (first | (simp (disch := first | omega | assumption | (simp only [List.length_set]; omega) | (simp [*] <;> fail) | assumption) [-Bool.decide_and, -Bool.decide_or, -Bool.not_and, -Bool.not_or, toNat_pred, toNat_succ, wrap64, wr_new, wr_new0, ok_if, ok_ifn, iadV_sl, makeV_int, decT, decF, over_at, *]) | (with_reducible refine Gd_split (fun hc => ?_) (fun hc => ?_) <;> (have hc2 := hc; try simp at hc2)) | (with_reducible refine Br_split (fun hc => ?_) (fun hc => ?_) <;> (have hc2 := hc; try simp at hc2)) | (with_reducible refine GdT_split (fun hc => ?_) (fun hc => ?_) <;> (have hc2 := hc; try simp at hc2)) | (with_reducible refine WT_alt ?_ ?_) | omega)
  unfold panT
  cases hb : panB' x
  · rw [hb] at hp
    refine CallT_pure (F := L51) (HasPan.f51) rfl (by first | rfl | (split <;> rfl) | simp) ?_; unfold L51; dsimp only []
    repeat' (first | (simp (disch := first | omega | assumption | (simp only [List.length_set]; omega) | (simp [*] <;> fail) | assumption) [-Bool.decide_and, -Bool.decide_or, -Bool.not_and, -Bool.not_or, toNat_pred, toNat_succ, wrap64, wr_new, wr_new0, ok_if, ok_ifn, iadV_sl, makeV_int, decT, decF, over_at, *]) | (with_reducible refine Gd_split (fun hc => ?_) (fun hc => ?_) <;> (have hc2 := hc; try simp at hc2)) | (with_reducible refine Br_split (fun hc => ?_) (fun hc => ?_) <;> (have hc2 := hc; try simp at hc2)) | (with_reducible refine GdT_split (fun hc => ?_) (fun hc => ?_) <;> (have hc2 := hc; try simp at hc2)) | (with_reducible refine WT_alt ?_ ?_) | omega)
  · rw [hb] at hp
    refine CallT_pure (F := L51) (HasPan.f51) rfl (by first | rfl | (split <;> rfl) | simp) ?_; unfold L51; dsimp only []
    repeat' (first | (simp (disch := first | omega | assumption | (simp only [List.length_set]; omega) | (simp [*] <;> fail) | assumption) [-Bool.decide_and, -Bool.decide_or, -Bool.not_and, -Bool.not_or, toNat_pred, toNat_succ, wrap64, wr_new, wr_new0, ok_if, ok_ifn, iadV_sl, makeV_int, decT, decF, over_at, *]) | (with_reducible refine Gd_split (fun hc => ?_) (fun hc => ?_) <;> (have hc2 := hc; try simp at hc2)) | (with_reducible refine Br_split (fun hc => ?_) (fun hc => ?_) <;> (have hc2 := hc; try simp at hc2)) | (with_reducible refine GdT_split (fun hc => ?_) (fun hc => ?_) <;> (have hc2 := hc; try simp at hc2)) | (with_reducible refine WT_alt ?_ ?_) | omega)
theorem c_implPanOf {x : Nat} : CallT S true 52 [.lf (.flt .f32 x)] h lim K = K (panT x) h := by
  have hp : ∀ h lim K, CallT S true 101 [.lf (.flt .f32 x)] h lim K = K (.lf (.bool (panB' x))) h := by
    intro h lim K
    unfold panB'
    refine CallT_pure (F := L101) (HasPan.f101) rfl (by first | rfl | (split <;> rfl) | simp) ?_; unfold L101; dsimp only []
    repeat' (first | (simp (disch := first | omega | assumption | (simp only [List.length_set]; omega) | (simp [*] <;> fail) | assumption) [-Bool.decide_and, -Bool.decide_or, -Bool.not_and, -Bool.not_or, toNat_pred, toNat_succ, wrap64, wr_new, wr_new0, ok_if, ok_ifn, iadV_sl, makeV_int, decT, decF, over_at, *]) | (with_reducible refine Gd_split (fun hc => ?_) (fun hc => ?_) <;> (have hc2 := hc; try simp at hc2)) | (with_reducible refine Br_split (fun hc => ?_) (fun hc => ?_) <;> (have hc2 := hc; try simp at hc2)) | (with_reducible refine GdT_split (fun hc => ?_) (fun hc => ?_) <;> (have hc2 := hc; try simp at hc2)) | (with_reducible refine WT_alt ?_ ?_) | omega)
  have s1 := fun h lim K => c_implSine (S := S) (h := h) (lim := lim) (K := K) (f32_lt .quo (fbin .sub .f32 1065353216 x) 1082130432)
  have s2 := fun h lim K => c_implSine (S := S) (h := h) (lim := lim) (K := K) (f32_lt .quo x 1082130432)
  unfold panT
  cases hb : panB' x
  · rw [hb] at hp
    refine CallT_pure (F := L52) (HasPan.f52) rfl (by first | rfl | (split <;> rfl) | simp) ?_; unfold L52; dsimp only []
    repeat' (first | (simp (disch := first | omega | assumption | (simp only [List.length_set]; omega) | (simp [*] <;> fail) | assumption) [-Bool.decide_and, -Bool.decide_or, -Bool.not_and, -Bool.not_or, toNat_pred, toNat_succ, wrap64, wr_new, wr_new0, ok_if, ok_ifn, iadV_sl, makeV_int, decT, decF, over_at, *]) | (with_reducible refine Gd_split (fun hc => ?_) (fun hc => ?_) <;> (have hc2 := hc; try simp at hc2)) | (with_reducible refine Br_split (fun hc => ?_) (fun hc => ?_) <;> (have hc2 := hc; try simp at hc2)) | (with_reducible refine GdT_split (fun hc => ?_) (fun hc => ?_) <;> (have hc2 := hc; try simp at hc2)) | (with_reducible refine WT_alt ?_ ?_) | omega)
  · rw [hb] at hp
    refine CallT_pure (F := L52) (HasPan.f52) rfl (by first | rfl | (split <;> rfl) | simp) ?_; unfold L52; dsimp only []
    repeat' (first | (simp (disch := first | omega | assumption | (simp only [List.length_set]; omega) | (simp [*] <;> fail) | assumption) [-Bool.decide_and, -Bool.decide_or, -Bool.not_and, -Bool.not_or, toNat_pred, toNat_succ, wrap64, wr_new, wr_new0, ok_if, ok_ifn, iadV_sl, makeV_int, decT, decF, over_at, *]) | (with_reducible refine Gd_split (fun hc => ?_) (fun hc => ?_) <;> (have hc2 := hc; try simp at hc2)) | (with_reducible refine Br_split (fun hc => ?_) (fun hc => ?_) <;> (have hc2 := hc; try simp at hc2)) | (with_reducible refine GdT_split (fun hc => ?_) (fun hc => ?_) <;> (have hc2 := hc; try simp at hc2)) | (with_reducible refine WT_alt ?_ ?_) | omega)
end
end
end Go.E
