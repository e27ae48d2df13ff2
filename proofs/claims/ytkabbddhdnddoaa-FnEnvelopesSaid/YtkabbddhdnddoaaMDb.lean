/- What laws draw from bytes, and numbers that are the same. -/
import Derived.Test.YtkabbddhdnddoaaMDr
import Derived.Test.YtkabbddhdnddoaaMFl
set_option linter.unusedVariables false
set_option linter.unusedSimpArgs false
namespace Go.E
open Go
def L37 : LFn := ⟨2, (.seq (.reg [⟨(.some 4), (.mv (.c (.lf (.bool false)))), none⟩])
 (.seq (.reg [⟨(.some 5), (.mv (.t 0)), none⟩, ⟨(.some 6), (.call true 46 [(.t 5)]), none⟩, ⟨(.some 7), (.mv (.t 1)), none⟩, ⟨(.some 8), (.call true 46 [(.t 7)]), none⟩, ⟨(.some 9), (.bin .eql (.t 6) (.t 8)), none⟩, ⟨(.some 4), (.mv (.t 9)), none⟩])
 .ret)), [(.tmp 4)]⟩
def L18 : LFn := ⟨2, (.seq (.reg [⟨(.some 4), (.mv (.c (.lf (.bool false)))), none⟩])
 (.seq (.reg [⟨(.some 5), (.mv (.t 0)), none⟩, ⟨(.some 6), (.mv (.t 1)), none⟩, ⟨(.some 7), (.call true 37 [(.t 5), (.t 6)]), none⟩, ⟨(.some 4), (.mv (.t 7)), none⟩])
 .ret)), [(.tmp 4)]⟩
def L15 : LFn := ⟨2, (.seq (.reg [⟨(.some 4), (.mv (.c (.lf (.bool false)))), none⟩])
 (.seq (.seq (.reg [⟨(.some 6), (.mv (.t 0)), none⟩, ⟨(.some 7), (.len (.t 6)), none⟩, ⟨(.some 8), (.mv (.t 1)), none⟩, ⟨(.some 9), (.len (.t 8)), none⟩, ⟨(.some 10), (.bin .neq (.t 7) (.t 9)), none⟩])
 (.cond (.t 10) (.seq (.reg [⟨(.some 4), (.mv (.c (.lf (.bool false)))), none⟩])
 .ret) .skip))
 (.seq (.seq (.reg [⟨(.some 5), (.mv (.c (.lf (.int .i64 0)))), none⟩])
 (.block 0 (.loop (.seq (.seq (.reg [⟨(.some 11), (.mv (.t 5)), none⟩, ⟨(.some 12), (.mv (.t 0)), none⟩, ⟨(.some 13), (.len (.t 12)), none⟩, ⟨(.some 14), (.bin .lss (.t 11) (.t 13)), none⟩])
 (.cond (.t 14) .skip (.exit 0)))
 (.seq (.block 1 (.seq (.reg [⟨(.some 17), (.mv (.t 0)), none⟩, ⟨(.some 18), (.mv (.t 5)), none⟩, ⟨(.some 19), (.iaddr 1 (.t 17) (.t 18)), none⟩, ⟨(.some 20), (.load false 1 (.t 19)), none⟩, ⟨(.some 21), (.mv (.t 1)), none⟩, ⟨(.some 22), (.mv (.t 5)), none⟩, ⟨(.some 23), (.iaddr 1 (.t 21) (.t 22)), none⟩, ⟨(.some 24), (.load false 1 (.t 23)), none⟩, ⟨(.some 25), (.call true 18 [(.t 20), (.t 24)]), none⟩, ⟨(.some 26), (.una .not (.t 25)), none⟩])
 (.cond (.t 26) (.seq (.reg [⟨(.some 4), (.mv (.c (.lf (.bool false)))), none⟩])
 .ret) .skip)))
 (.reg [⟨(.some 15), (.mv (.t 5)), none⟩, ⟨(.some 16), (.bin .add (.t 15) (.c (.lf (.int .i64 1)))), none⟩, ⟨(.some 5), (.mv (.t 16)), none⟩]))))))
 (.seq (.reg [⟨(.some 4), (.mv (.c (.lf (.bool true)))), none⟩])
 .ret)))), [(.tmp 4)]⟩
class HasVs (S : Sys) : Prop extends HasFb S where
  f37 : S.fs 37 = some L37
  f18 : S.fs 18 = some L18
  f15 : S.fs 15 = some L15
section
variable {S : Sys} {lim : Nat} {h : Hp} {K : CV → Hp → Prop} [HasDr S] {l l2 : Lf} {cs ds : List Int}
theorem c_b10Long (hA : Arr h l 1 (cs.map ul)) (hB : Arr h l2 1 (ds.map ul)) : CallT S true 6 [.lf l, .lf l2] h lim K = K (.lf (.bool (decide (1048576 < (cs.length : Int)) || decide (1048576 < (ds.length : Int))))) h := by
  by_cases h1 : (1048576 : Int) < cs.length
  · rw [decide_eq_true h1, Bool.true_or]
    refine CallT_pure (F := L6) (HasDr.f6) rfl (by first | rfl | (split <;> rfl) | simp) ?_; unfold L6; dsimp only []
    repeat' (first | (simp (disch := first | omega | assumption | (simp only [List.length_set]; omega) | (simp [*] <;> fail) | assumption) [-Bool.decide_and, -Bool.decide_or, -Bool.not_and, -Bool.not_or, toNat_pred, toNat_succ, wrap64, wr_new, wr_new0, ok_if, ok_ifn, iadV_sl, makeV_int, decT, decF, over_at, *, hA.len, hB.len]) | (with_reducible refine Gd_split (fun hc => ?_) (fun hc => ?_) <;> (have hc2 := hc; try simp at hc2)) | (with_reducible refine Br_split (fun hc => ?_) (fun hc => ?_) <;> (have hc2 := hc; try simp at hc2)) | (with_reducible refine GdT_split (fun hc => ?_) (fun hc => ?_) <;> (have hc2 := hc; try simp at hc2)) | (with_reducible refine WT_alt ?_ ?_) | omega)
  · rw [decide_eq_false h1, Bool.false_or]
    refine CallT_pure (F := L6) (HasDr.f6) rfl (by first | rfl | (split <;> rfl) | simp) ?_; unfold L6; dsimp only []
    repeat' (first | (simp (disch := first | omega | assumption | (simp only [List.length_set]; omega) | (simp [*] <;> fail) | assumption) [-Bool.decide_and, -Bool.decide_or, -Bool.not_and, -Bool.not_or, toNat_pred, toNat_succ, wrap64, wr_new, wr_new0, ok_if, ok_ifn, iadV_sl, makeV_int, decT, decF, over_at, *, hA.len, hB.len]) | (with_reducible refine Gd_split (fun hc => ?_) (fun hc => ?_) <;> (have hc2 := hc; try simp at hc2)) | (with_reducible refine Br_split (fun hc => ?_) (fun hc => ?_) <;> (have hc2 := hc; try simp at hc2)) | (with_reducible refine GdT_split (fun hc => ?_) (fun hc => ?_) <;> (have hc2 := hc; try simp at hc2)) | (with_reducible refine WT_alt ?_ ?_) | omega)
theorem c_b10At {k n : Nat} (hA : Arr h l 1 (cs.map ul)) (hc : ∀ c ∈ cs, 0 ≤ c ∧ c < 256) (hn : 1 < n) (hn2 : n ≤ 200) (hk : k ≤ 100) : ∃ v : Nat, v < n ∧ ∀ g, Kept h g → ∀ lim K, CallT S true 9 [.lf l, .lf (.int .i64 k), .lf (.int .i64 n)] g lim K = K (.lf (.int .i64 v)) g := by
  have hn' : ¬ (n : Int) ≤ 1 := by omega
  have hn0 : ¬ (n : Int) = 0 := by omega
  by_cases hlt : k < cs.length
  · obtain ⟨c0, c1⟩ := hc _ (List.getElem_mem hlt)
    obtain ⟨c, hcv⟩ := Int.eq_ofNat_of_zero_le c0
    refine ⟨c % n, Nat.mod_lt _ (by omega), fun g kg lim K => ?_⟩
    have hA1 := hA.kept kg
    have ht : (c : Int).tmod (n : Int) = ((c % n : Nat) : Int) := by rw [Int.ofNat_tmod]
    have hk' : ¬ (cs.length : Int) ≤ k := by omega
    have hr := hA1.rd1 hlt
    rw [hcv] at hr
    simp only [ul] at hr
    refine CallT_pure (F := L9) (HasDr.f9) rfl (by first | rfl | (split <;> rfl) | simp) ?_; unfold L9; dsimp only []
    repeat' (first | (simp (disch := first | omega | assumption | (simp only [List.length_set]; omega) | (simp [*] <;> fail) | assumption) [-Bool.decide_and, -Bool.decide_or, -Bool.not_and, -Bool.not_or, toNat_pred, toNat_succ, wrap64, wr_new, wr_new0, ok_if, ok_ifn, iadV_sl, makeV_int, decT, decF, over_at, *, hA1.len, hA1.at_, hA1.at_', hA1.rd, hA1.rdIn, hA1.rdIn0, hA1.rdA, hA1.rdInA, hA1.rdIn0A]) | (with_reducible refine Gd_split (fun hc => ?_) (fun hc => ?_) <;> (have hc2 := hc; try simp at hc2)) | (with_reducible refine Br_split (fun hc => ?_) (fun hc => ?_) <;> (have hc2 := hc; try simp at hc2)) | (with_reducible refine GdT_split (fun hc => ?_) (fun hc => ?_) <;> (have hc2 := hc; try simp at hc2)) | (with_reducible refine WT_alt ?_ ?_) | omega)
  · refine ⟨(k * 37 + 11) % n, Nat.mod_lt _ (by omega), fun g kg lim K => ?_⟩
    have hA1 := hA.kept kg
    have hk' : (cs.length : Int) ≤ k := by omega
    have ht : ((k : Int) * 37 + 11).tmod (n : Int) = (((k * 37 + 11) % n : Nat) : Int) := by rw [show (k : Int) * 37 + 11 = ((k * 37 + 11 : Nat) : Int) by omega, Int.ofNat_tmod]
    refine CallT_pure (F := L9) (HasDr.f9) rfl (by first | rfl | (split <;> rfl) | simp) ?_; unfold L9; dsimp only []
    repeat' (first | (simp (disch := first | omega | assumption | (simp only [List.length_set]; omega) | (simp [*] <;> fail) | assumption) [-Bool.decide_and, -Bool.decide_or, -Bool.not_and, -Bool.not_or, toNat_pred, toNat_succ, wrap64, wr_new, wr_new0, ok_if, ok_ifn, iadV_sl, makeV_int, decT, decF, over_at, *, hA1.len]) | (with_reducible refine Gd_split (fun hc => ?_) (fun hc => ?_) <;> (have hc2 := hc; try simp at hc2)) | (with_reducible refine Br_split (fun hc => ?_) (fun hc => ?_) <;> (have hc2 := hc; try simp at hc2)) | (with_reducible refine GdT_split (fun hc => ?_) (fun hc => ?_) <;> (have hc2 := hc; try simp at hc2)) | (with_reducible refine WT_alt ?_ ?_) | omega)
end
section
variable {S : Sys} {lim : Nat} {h : Hp} {K : CV → Hp → Prop} [HasVs S] {l l2 : Lf} {xs : List Nat}
theorem c_l01Same {x : Nat} (hx : CF x) : CallT S true 37 [.lf (.flt .f32 x), .lf (.flt .f32 x)] h lim K = K (.lf (.bool true)) h := by
  refine CallT_pure (F := L37) (HasVs.f37) rfl (by first | rfl | (split <;> rfl) | simp) ?_; unfold L37; dsimp only []
  repeat' (first | (simp (disch := first | omega | assumption | (simp only [List.length_set]; omega) | (simp [*] <;> fail) | assumption) [-Bool.decide_and, -Bool.decide_or, -Bool.not_and, -Bool.not_or, toNat_pred, toNat_succ, wrap64, wr_new, wr_new0, ok_if, ok_ifn, iadV_sl, makeV_int, decT, decF, over_at, *, c_l01Bits hx]) | (with_reducible refine Gd_split (fun hc => ?_) (fun hc => ?_) <;> (have hc2 := hc; try simp at hc2)) | (with_reducible refine Br_split (fun hc => ?_) (fun hc => ?_) <;> (have hc2 := hc; try simp at hc2)) | (with_reducible refine GdT_split (fun hc => ?_) (fun hc => ?_) <;> (have hc2 := hc; try simp at hc2)) | (with_reducible refine WT_alt ?_ ?_) | omega)
theorem c_SameNumber {x : Nat} (hx : CF x) : CallT S true 18 [.lf (.flt .f32 x), .lf (.flt .f32 x)] h lim K = K (.lf (.bool true)) h := by
  refine CallT_pure (F := L18) (HasVs.f18) rfl (by first | rfl | (split <;> rfl) | simp) ?_; unfold L18; dsimp only []
  repeat' (first | (simp (disch := first | omega | assumption | (simp only [List.length_set]; omega) | (simp [*] <;> fail) | assumption) [-Bool.decide_and, -Bool.decide_or, -Bool.not_and, -Bool.not_or, toNat_pred, toNat_succ, wrap64, wr_new, wr_new0, ok_if, ok_ifn, iadV_sl, makeV_int, decT, decF, over_at, *, c_l01Same hx]) | (with_reducible refine Gd_split (fun hc => ?_) (fun hc => ?_) <;> (have hc2 := hc; try simp at hc2)) | (with_reducible refine Br_split (fun hc => ?_) (fun hc => ?_) <;> (have hc2 := hc; try simp at hc2)) | (with_reducible refine GdT_split (fun hc => ?_) (fun hc => ?_) <;> (have hc2 := hc; try simp at hc2)) | (with_reducible refine WT_alt ?_ ?_) | omega)
theorem c_b10Same (hA : Arr h l 1 (xs.map fl)) (hB : Arr h l2 1 (xs.map fl)) (hcf : ∀ x ∈ xs, CF x) : CallT S true 15 [.lf l, .lf l2] h lim K = K (.lf (.bool true)) h := by
  have hb := hA.bound
  refine CallT_pure (F := L15) (HasVs.f15) rfl (by first | rfl | (split <;> rfl) | simp) ?_; unfold L15; dsimp only []
  repeat' (first | (simp (disch := first | omega | assumption | (simp only [List.length_set]; omega) | (simp [*] <;> fail) | assumption) [-Bool.decide_and, -Bool.decide_or, -Bool.not_and, -Bool.not_or, toNat_pred, toNat_succ, wrap64, wr_new, wr_new0, ok_if, ok_ifn, iadV_sl, makeV_int, decT, decF, over_at, *, hA.len, hB.len]) | (with_reducible refine Gd_split (fun hc => ?_) (fun hc => ?_) <;> (have hc2 := hc; try simp at hc2)) | (with_reducible refine Br_split (fun hc => ?_) (fun hc => ?_) <;> (have hc2 := hc; try simp at hc2)) | (with_reducible refine GdT_split (fun hc => ?_) (fun hc => ?_) <;> (have hc2 := hc; try simp at hc2)) | (with_reducible refine WT_alt ?_ ?_) | omega)
  refine WL_forM 134215728 (by decide +kernel) (xs.length) (fun i b g => i ≤ xs.length ∧ b 5 = .lf (.int .i64 i) ∧ h = g) (fun _ _ _ hi => hi.1) ⟨by omega, by simp, rfl⟩ ?_
  rintro i b g ⟨hi, e5, rfl⟩
  by_cases hlt : i < xs.length
  · have hc := hcf _ (List.getElem_mem hlt)
    repeat' (first | (simp (disch := first | omega | assumption | (simp only [List.length_set]; omega) | (simp [*] <;> fail) | assumption) [-Bool.decide_and, -Bool.decide_or, -Bool.not_and, -Bool.not_or, toNat_pred, toNat_succ, wrap64, wr_new, wr_new0, ok_if, ok_ifn, iadV_sl, makeV_int, decT, decF, over_at, *, hA.len, hA.at_, hA.at_', hA.rd, hA.rdIn, hA.rdIn0, hA.rdA, hA.rdInA, hA.rdIn0A, hA.rd1, hB.len, hB.at_, hB.at_', hB.rd, hB.rdIn, hB.rdIn0, hB.rdA, hB.rdInA, hB.rdIn0A, hB.rd1, fl, c_SameNumber hc]) | (with_reducible refine Gd_split (fun hc => ?_) (fun hc => ?_) <;> (have hc2 := hc; try simp at hc2)) | (with_reducible refine Br_split (fun hc => ?_) (fun hc => ?_) <;> (have hc2 := hc; try simp at hc2)) | (with_reducible refine GdT_split (fun hc => ?_) (fun hc => ?_) <;> (have hc2 := hc; try simp at hc2)) | (with_reducible refine WT_alt ?_ ?_) | omega)
  · have : i = xs.length := by omega
    subst this
    repeat' (first | (simp (disch := first | omega | assumption | (simp only [List.length_set]; omega) | (simp [*] <;> fail) | assumption) [-Bool.decide_and, -Bool.decide_or, -Bool.not_and, -Bool.not_or, toNat_pred, toNat_succ, wrap64, wr_new, wr_new0, ok_if, ok_ifn, iadV_sl, makeV_int, decT, decF, over_at, *, hA.len, hB.len]) | (with_reducible refine Gd_split (fun hc => ?_) (fun hc => ?_) <;> (have hc2 := hc; try simp at hc2)) | (with_reducible refine Br_split (fun hc => ?_) (fun hc => ?_) <;> (have hc2 := hc; try simp at hc2)) | (with_reducible refine GdT_split (fun hc => ?_) (fun hc => ?_) <;> (have hc2 := hc; try simp at hc2)) | (with_reducible refine WT_alt ?_ ?_) | omega)
end
end Go.E
