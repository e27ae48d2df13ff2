/- The laws' helpers for slices of numbers. -/
import Derived.Test.YtgdloogokjemdaaGreatDoorMC
import Derived.Test.YtgdloogokjemdaaGreatDoorEF
set_option linter.unusedVariables false
set_option linter.unusedSimpArgs false
namespace Go.E
open Go
def L24 : LFn := ⟨2, (.seq (.reg [⟨(.some 4), (.mv (.c (.lf (.bool false)))), none⟩])
 (.seq (.seq (.reg [⟨(.some 6), (.mv (.t 0)), none⟩, ⟨(.some 7), (.len (.t 6)), none⟩, ⟨(.some 8), (.mv (.t 1)), none⟩, ⟨(.some 9), (.len (.t 8)), none⟩, ⟨(.some 10), (.bin .neq (.t 7) (.t 9)), none⟩])
 (.cond (.t 10) (.seq (.reg [⟨(.some 4), (.mv (.c (.lf (.bool false)))), none⟩])
 .ret) .skip))
 (.seq (.seq (.reg [⟨(.some 5), (.mv (.c (.lf (.int .i64 0)))), none⟩])
 (.block 0 (.loop (.seq (.seq (.reg [⟨(.some 11), (.mv (.t 5)), none⟩, ⟨(.some 12), (.mv (.t 0)), none⟩, ⟨(.some 13), (.len (.t 12)), none⟩, ⟨(.some 14), (.bin .lss (.t 11) (.t 13)), none⟩])
 (.cond (.t 14) .skip (.exit 0)))
 (.seq (.block 1 (.seq (.reg [⟨(.some 17), (.mv (.t 0)), none⟩, ⟨(.some 18), (.mv (.t 5)), none⟩, ⟨(.some 19), (.iaddr 1 (.t 17) (.t 18)), none⟩, ⟨(.some 20), (.load false 1 (.t 19)), none⟩, ⟨(.some 21), (.toflt .f64 (.t 20)), none⟩, ⟨(.some 22), (.mv (.t 1)), none⟩, ⟨(.some 23), (.mv (.t 5)), none⟩, ⟨(.some 24), (.iaddr 1 (.t 22) (.t 23)), none⟩, ⟨(.some 25), (.load false 1 (.t 24)), none⟩, ⟨(.some 26), (.toflt .f64 (.t 25)), none⟩, ⟨(.some 27), (.call true 47 [(.t 21), (.t 26)]), none⟩, ⟨(.some 28), (.una .not (.t 27)), none⟩])
 (.cond (.t 28) (.seq (.reg [⟨(.some 4), (.mv (.c (.lf (.bool false)))), none⟩])
 .ret) .skip)))
 (.reg [⟨(.some 15), (.mv (.t 5)), none⟩, ⟨(.some 16), (.bin .add (.t 15) (.c (.lf (.int .i64 1)))), none⟩, ⟨(.some 5), (.mv (.t 16)), none⟩]))))))
 (.seq (.reg [⟨(.some 4), (.mv (.c (.lf (.bool true)))), none⟩])
 .ret)))), [(.tmp 4)]⟩
def L25 : LFn := ⟨2, (.seq (.reg [⟨(.some 4), (.mv (.c (.lf (.int .i64 0)))), none⟩])
 (.seq (.seq (.reg [⟨(.some 5), (.mv (.c (.lf (.int .i64 0)))), none⟩])
 (.block 0 (.loop (.seq (.seq (.reg [⟨(.some 6), (.mv (.t 5)), none⟩, ⟨(.some 7), (.mv (.t 0)), none⟩, ⟨(.some 8), (.len (.t 7)), none⟩, ⟨(.some 9), (.bin .lss (.t 6) (.t 8)), none⟩])
 (.cond (.t 9) .skip (.exit 0)))
 (.seq (.block 1 (.seq (.reg [⟨(.some 12), (.mv (.t 0)), none⟩, ⟨(.some 13), (.mv (.t 5)), none⟩, ⟨(.some 14), (.mv (.t 1)), none⟩, ⟨(.some 15), (.toflt .f32 (.t 14)), none⟩, ⟨(.some 16), (.iaddr 1 (.t 12) (.t 13)), none⟩, ⟨none, (.store 1 (.t 16) (.t 15)), none⟩])
 (.reg [⟨(.some 17), (.mv (.t 1)), none⟩, ⟨(.some 18), (.bin .add (.t 17) (.c (.lf (.int .i64 1)))), none⟩, ⟨(.some 1), (.mv (.t 18)), none⟩])))
 (.reg [⟨(.some 10), (.mv (.t 5)), none⟩, ⟨(.some 11), (.bin .add (.t 10) (.c (.lf (.int .i64 1)))), none⟩, ⟨(.some 5), (.mv (.t 11)), none⟩]))))))
 (.seq (.reg [⟨(.some 19), (.mv (.t 1)), none⟩, ⟨(.some 4), (.mv (.t 19)), none⟩])
 .ret))), [(.tmp 4)]⟩
def L26 : LFn := ⟨2, (.seq (.reg [⟨(.some 4), (.mv (.c (.lf (.int .i64 0)))), none⟩])
 (.seq (.seq (.reg [⟨(.some 5), (.mv (.c (.lf (.int .i64 0)))), none⟩])
 (.block 0 (.loop (.seq (.seq (.reg [⟨(.some 6), (.mv (.t 5)), none⟩, ⟨(.some 7), (.mv (.t 0)), none⟩, ⟨(.some 8), (.len (.t 7)), none⟩, ⟨(.some 9), (.bin .lss (.t 6) (.t 8)), none⟩])
 (.cond (.t 9) .skip (.exit 0)))
 (.seq (.block 1 (.seq (.seq (.reg [⟨(.some 12), (.mv (.t 0)), none⟩, ⟨(.some 13), (.mv (.t 5)), none⟩, ⟨(.some 14), (.iaddr 1 (.t 12) (.t 13)), none⟩, ⟨(.some 15), (.load false 1 (.t 14)), none⟩, ⟨(.some 16), (.mv (.t 1)), none⟩, ⟨(.some 17), (.toflt .f32 (.t 16)), none⟩, ⟨(.some 18), (.bin .neq (.t 15) (.t 17)), none⟩])
 (.cond (.t 18) (.seq (.reg [⟨(.some 4), (.mv (.c (.lf (.int .i64 (-1))))), none⟩])
 .ret) .skip))
 (.reg [⟨(.some 19), (.mv (.t 1)), none⟩, ⟨(.some 20), (.bin .add (.t 19) (.c (.lf (.int .i64 1)))), none⟩, ⟨(.some 1), (.mv (.t 20)), none⟩])))
 (.reg [⟨(.some 10), (.mv (.t 5)), none⟩, ⟨(.some 11), (.bin .add (.t 10) (.c (.lf (.int .i64 1)))), none⟩, ⟨(.some 5), (.mv (.t 11)), none⟩]))))))
 (.seq (.reg [⟨(.some 21), (.mv (.t 1)), none⟩, ⟨(.some 4), (.mv (.t 21)), none⟩])
 .ret))), [(.tmp 4)]⟩
class HasF (S : Sys) : Prop extends HasSame S where
  f24 : S.fs 24 = some L24
  f25 : S.fs 25 = some L25
  f26 : S.fs 26 = some L26

class HasI (S : Sys) : Prop where

def fl (x : Nat) : List Lf := [.flt .f32 x]
def il (n : Int) : List Lf := [.int .i64 n]
section
variable {S : Sys} {lim : Nat} {h : Hp} {K : CV → Hp → Prop}
section
variable [HasF S]
theorem c_eqFloat32S {l l2 : Lf} {xs : List Nat} (hA : Arr h l 1 (xs.map fl)) (hA2 : Arr h l2 1 (xs.map fl)) : CallT S true 24 [.lf l, .lf l2] h lim K = K (.lf (.bool true)) h := by
  have hb := hA.bound
  refine CallT_pure (F := L24) (HasF.f24) rfl (by first | rfl | (split <;> rfl) | simp) ?_; unfold L24; dsimp only []
  repeat' (first | (simp (disch := first | omega | assumption | (simp only [List.length_set]; omega) | (simp [*] <;> fail) | assumption) [-Bool.decide_and, -Bool.decide_or, -Bool.not_and, -Bool.not_or, toNat_pred, toNat_succ, wrap64, wr_new, wr_new0, ok_if, ok_ifn, iadV_sl, makeV_int, decT, decF, over_at, *, hA.len, hA.at_, hA.at_', hA.rd, hA.rdIn, hA.rdIn0, hA.rdA, hA.rdInA, hA.rdIn0A, hA2.len, hA2.at_, hA2.at_', hA2.rd, hA2.rdIn, hA2.rdIn0, hA2.rdA, hA2.rdInA, hA2.rdIn0A]) | (with_reducible refine Gd_split (fun hc => ?_) (fun hc => ?_) <;> (have hc2 := hc; try simp at hc2)) | (with_reducible refine Br_split (fun hc => ?_) (fun hc => ?_) <;> (have hc2 := hc; try simp at hc2)) | (with_reducible refine GdT_split (fun hc => ?_) (fun hc => ?_) <;> (have hc2 := hc; try simp at hc2)) | (with_reducible refine WT_alt ?_ ?_) | omega)
  refine WL_for xs.length (fun i a' h' => i ≤ xs.length ∧ a' 0 = .lf l ∧ a' 1 = .lf l2 ∧ a' 5 = .lf (.int .i64 i) ∧ h' = h) (fun i a' h' hi => hi.1) ?_ (by simp)
  rintro i a' h' ⟨hi, e0, e1, e5, rfl⟩
  by_cases hlt : i < xs.length
  · repeat' (first | (simp (disch := first | omega | assumption | (simp only [List.length_set]; omega) | (simp [*] <;> fail) | assumption) [-Bool.decide_and, -Bool.decide_or, -Bool.not_and, -Bool.not_or, toNat_pred, toNat_succ, wrap64, wr_new, wr_new0, ok_if, ok_ifn, iadV_sl, makeV_int, decT, decF, over_at, *, hA.len, hA.at_, hA.at_', hA.rd, hA.rdIn, hA.rdIn0, hA.rdA, hA.rdInA, hA.rdIn0A, hA.rd1, hA2.len, hA2.at_, hA2.at_', hA2.rd, hA2.rdIn, hA2.rdIn0, hA2.rdA, hA2.rdInA, hA2.rdIn0A, hA2.rd1, fl]) | (with_reducible refine Gd_split (fun hc => ?_) (fun hc => ?_) <;> (have hc2 := hc; try simp at hc2)) | (with_reducible refine Br_split (fun hc => ?_) (fun hc => ?_) <;> (have hc2 := hc; try simp at hc2)) | (with_reducible refine GdT_split (fun hc => ?_) (fun hc => ?_) <;> (have hc2 := hc; try simp at hc2)) | (with_reducible refine WT_alt ?_ ?_) | omega)
  · repeat' (first | (simp (disch := first | omega | assumption | (simp only [List.length_set]; omega) | (simp [*] <;> fail) | assumption) [-Bool.decide_and, -Bool.decide_or, -Bool.not_and, -Bool.not_or, toNat_pred, toNat_succ, wrap64, wr_new, wr_new0, ok_if, ok_ifn, iadV_sl, makeV_int, decT, decF, over_at, *, hA.len, hA.at_, hA.at_', hA.rd, hA.rdIn, hA.rdIn0, hA.rdA, hA.rdInA, hA.rdIn0A, hA2.len, hA2.at_, hA2.at_', hA2.rd, hA2.rdIn, hA2.rdIn0, hA2.rdA, hA2.rdInA, hA2.rdIn0A]) | (with_reducible refine Gd_split (fun hc => ?_) (fun hc => ?_) <;> (have hc2 := hc; try simp at hc2)) | (with_reducible refine Br_split (fun hc => ?_) (fun hc => ?_) <;> (have hc2 := hc; try simp at hc2)) | (with_reducible refine GdT_split (fun hc => ?_) (fun hc => ?_) <;> (have hc2 := hc; try simp at hc2)) | (with_reducible refine WT_alt ?_ ?_) | omega)
def marksFloat32S (k : Int) (n : Nat) : List (List Lf) := (List.range n).map fun j : Nat => fl (fofint .f32 (k + (j : Int)))
@[simp] theorem marksFloat32S_len {k : Int} {n : Nat} : (marksFloat32S k n).length = n := by simp [marksFloat32S]
theorem c_markFloat32S {g : Hp} {l : Lf} {rows : List (List Lf)} {k : Int} (hN : New h g l 51 1 rows) (hn : rows.length ≤ 16777216) (h0 : 0 ≤ k) (h1 : k ≤ 1099511627776) (hl : lim ≤ h.length) (hK : ∀ g', New h g' l 51 1 (marksFloat32S k rows.length) → But g g' l l → K (.lf (.int .i64 (k + rows.length))) g') : CallT S false 25 [.lf l, .lf (.int .i64 k)] g lim K := by
  rcases hN.own with ⟨rfl, rfl⟩ | ⟨id, rfl, h2, h3⟩
  · refine CallT_of_body (F := L25) (HasF.f25) rfl ?_; unfold L25; dsimp only []
    repeat' (first | (simp (disch := first | omega | assumption | (simp only [List.length_set]; omega) | (simp [*] <;> fail) | assumption) [-Bool.decide_and, -Bool.decide_or, -Bool.not_and, -Bool.not_or, toNat_pred, toNat_succ, wrap64, wr_new, wr_new0, ok_if, ok_ifn, iadV_sl, makeV_int, decT, decF, over_at, *]) | (with_reducible refine Gd_split (fun hc => ?_) (fun hc => ?_) <;> (have hc2 := hc; try simp at hc2)) | (with_reducible refine Br_split (fun hc => ?_) (fun hc => ?_) <;> (have hc2 := hc; try simp at hc2)) | (with_reducible refine GdT_split (fun hc => ?_) (fun hc => ?_) <;> (have hc2 := hc; try simp at hc2)) | (with_reducible refine WT_alt ?_ ?_) | omega)
    refine WL_for 0 (fun i a' g' => i ≤ 0 ∧ a' 0 = .lf .nils ∧ a' 1 = .lf (.int .i64 k) ∧ a' 5 = .lf (.int .i64 i) ∧ g' = g) (fun i a' h' hi => hi.1) ?_ (by simp)
    rintro i a' g' ⟨hi, e0, e1, e5, rfl⟩
    have : i = 0 := by omega
    subst this
    repeat' (first | (simp (disch := first | omega | assumption | (simp only [List.length_set]; omega) | (simp [*] <;> fail) | assumption) [-Bool.decide_and, -Bool.decide_or, -Bool.not_and, -Bool.not_or, toNat_pred, toNat_succ, wrap64, wr_new, wr_new0, ok_if, ok_ifn, iadV_sl, makeV_int, decT, decF, over_at, *]) | (with_reducible refine Gd_split (fun hc => ?_) (fun hc => ?_) <;> (have hc2 := hc; try simp at hc2)) | (with_reducible refine Br_split (fun hc => ?_) (fun hc => ?_) <;> (have hc2 := hc; try simp at hc2)) | (with_reducible refine GdT_split (fun hc => ?_) (fun hc => ?_) <;> (have hc2 := hc; try simp at hc2)) | (with_reducible refine WT_alt ?_ ?_) | omega)
    simpa using hK g' (New.nil hN.kept) ⟨Nat.le_refl _, fun _ _ _ => rfl, .inl rfl⟩
  · refine CallT_of_body (F := L25) (HasF.f25) rfl ?_; unfold L25; dsimp only []
    repeat' (first | (simp (disch := first | omega | assumption | (simp only [List.length_set]; omega) | (simp [*] <;> fail) | assumption) [-Bool.decide_and, -Bool.decide_or, -Bool.not_and, -Bool.not_or, toNat_pred, toNat_succ, wrap64, wr_new, wr_new0, ok_if, ok_ifn, iadV_sl, makeV_int, decT, decF, over_at, *]) | (with_reducible refine Gd_split (fun hc => ?_) (fun hc => ?_) <;> (have hc2 := hc; try simp at hc2)) | (with_reducible refine Br_split (fun hc => ?_) (fun hc => ?_) <;> (have hc2 := hc; try simp at hc2)) | (with_reducible refine GdT_split (fun hc => ?_) (fun hc => ?_) <;> (have hc2 := hc; try simp at hc2)) | (with_reducible refine WT_alt ?_ ?_) | omega)
    refine WL_for rows.length (fun i a' g' => i ≤ rows.length ∧ a' 0 = .lf (.sl id 0 rows.length 1) ∧ a' 1 = .lf (.int .i64 (k + i)) ∧ a' 5 = .lf (.int .i64 i) ∧ But g g' (.sl id 0 rows.length 1) (.sl id 0 rows.length 1) ∧ Sl g' id 51 1 (mixed (fun j : Nat => fl (fofint .f32 (k + (j : Int)))) rows i)) (fun i a' h' hi => hi.1) ?_ ⟨by omega, by simp, by simp, by simp, ⟨Nat.le_refl _, fun _ _ _ => rfl, .inl rfl⟩, by rw [mixed_zero]; exact h3⟩
    rintro i a' g' ⟨hi, e0, e1, e5, hB, hs⟩
    have hid : lim ≤ id := by omega
    by_cases hlt : i < rows.length
    · repeat' (first | (simp (disch := first | omega | assumption | (simp only [List.length_set]; omega) | (simp [*] <;> fail) | assumption) [-Bool.decide_and, -Bool.decide_or, -Bool.not_and, -Bool.not_or, toNat_pred, toNat_succ, wrap64, wr_new, wr_new0, ok_if, ok_ifn, iadV_sl, makeV_int, decT, decF, over_at, *, hs.wr1]) | (with_reducible refine Gd_split (fun hc => ?_) (fun hc => ?_) <;> (have hc2 := hc; try simp at hc2)) | (with_reducible refine Br_split (fun hc => ?_) (fun hc => ?_) <;> (have hc2 := hc; try simp at hc2)) | (with_reducible refine GdT_split (fun hc => ?_) (fun hc => ?_) <;> (have hc2 := hc; try simp at hc2)) | (with_reducible refine WT_alt ?_ ?_) | omega)
      refine ⟨hlt, by omega, ⟨by simpa using hB.len, fun id' hid' hne => ?_, .inl rfl⟩, ?_⟩
      · have hne' : id' ≠ id := hne (by simp)
        rw [List.getElem?_set_ne (Ne.symm hne')]; exact hB.same id' hid' hne
      · exact hs.mix rfl rfl
    · have : i = rows.length := by omega
      subst this
      repeat' (first | (simp (disch := first | omega | assumption | (simp only [List.length_set]; omega) | (simp [*] <;> fail) | assumption) [-Bool.decide_and, -Bool.decide_or, -Bool.not_and, -Bool.not_or, toNat_pred, toNat_succ, wrap64, wr_new, wr_new0, ok_if, ok_ifn, iadV_sl, makeV_int, decT, decF, over_at, *]) | (with_reducible refine Gd_split (fun hc => ?_) (fun hc => ?_) <;> (have hc2 := hc; try simp at hc2)) | (with_reducible refine Br_split (fun hc => ?_) (fun hc => ?_) <;> (have hc2 := hc; try simp at hc2)) | (with_reducible refine GdT_split (fun hc => ?_) (fun hc => ?_) <;> (have hc2 := hc; try simp at hc2)) | (with_reducible refine WT_alt ?_ ?_) | omega)
      refine hK g' ?_ hB
      rw [mixed_all] at hs
      have hk := hB.kept hN.kept (fun _ => h2)
      have := New.of_sl (rows := marksFloat32S k rows.length) hk hs h2 (by simp; omega)
      simpa using this
theorem c_heldFloat32S {l : Lf} {k : Int} {n : Nat} (hA : Arr h l 1 (marksFloat32S k n)) (hn : n ≤ 16777216) (h0 : 0 ≤ k) (h1 : k ≤ 1099511627776) : CallT S true 26 [.lf l, .lf (.int .i64 k)] h lim K = K (.lf (.int .i64 (k + n))) h := by
  have hA' : Arr h l 1 (((List.range n).map fun j : Nat => fofint .f32 (k + (j : Int))).map fl) := by simpa [marksFloat32S, Function.comp_def] using hA
  clear hA
  refine CallT_pure (F := L26) (HasF.f26) rfl (by first | rfl | (split <;> rfl) | simp) ?_; unfold L26; dsimp only []
  repeat' (first | (simp (disch := first | omega | assumption | (simp only [List.length_set]; omega) | (simp [*] <;> fail) | assumption) [-Bool.decide_and, -Bool.decide_or, -Bool.not_and, -Bool.not_or, toNat_pred, toNat_succ, wrap64, wr_new, wr_new0, ok_if, ok_ifn, iadV_sl, makeV_int, decT, decF, over_at, *, hA'.len]) | (with_reducible refine Gd_split (fun hc => ?_) (fun hc => ?_) <;> (have hc2 := hc; try simp at hc2)) | (with_reducible refine Br_split (fun hc => ?_) (fun hc => ?_) <;> (have hc2 := hc; try simp at hc2)) | (with_reducible refine GdT_split (fun hc => ?_) (fun hc => ?_) <;> (have hc2 := hc; try simp at hc2)) | (with_reducible refine WT_alt ?_ ?_) | omega)
  refine WL_for n (fun i a' h' => i ≤ n ∧ a' 0 = .lf l ∧ a' 1 = .lf (.int .i64 (k + i)) ∧ a' 5 = .lf (.int .i64 i) ∧ h' = h) (fun i a' h' hi => hi.1) ?_ (by simp)
  rintro i a' h' ⟨hi, e0, e1, e5, rfl⟩
  by_cases hlt : i < n
  · have q1 := hA'.at_ (k := .i64) (i := i) (by simpa using hlt)
    have q2 := hA'.rd1 (i := i) (by simpa using hlt)
    simp [fl] at q1 q2
    repeat' (first | (simp (disch := first | omega | assumption | (simp only [List.length_set]; omega) | (simp [*] <;> fail) | assumption) [-Bool.decide_and, -Bool.decide_or, -Bool.not_and, -Bool.not_or, toNat_pred, toNat_succ, wrap64, wr_new, wr_new0, ok_if, ok_ifn, iadV_sl, makeV_int, decT, decF, over_at, *, hA'.len, fcmp_neq, fcmp_self (fofint_not_nan _ _)]) | (with_reducible refine Gd_split (fun hc => ?_) (fun hc => ?_) <;> (have hc2 := hc; try simp at hc2)) | (with_reducible refine Br_split (fun hc => ?_) (fun hc => ?_) <;> (have hc2 := hc; try simp at hc2)) | (with_reducible refine GdT_split (fun hc => ?_) (fun hc => ?_) <;> (have hc2 := hc; try simp at hc2)) | (with_reducible refine WT_alt ?_ ?_) | omega)
  · have : i = n := by omega
    subst this
    repeat' (first | (simp (disch := first | omega | assumption | (simp only [List.length_set]; omega) | (simp [*] <;> fail) | assumption) [-Bool.decide_and, -Bool.decide_or, -Bool.not_and, -Bool.not_or, toNat_pred, toNat_succ, wrap64, wr_new, wr_new0, ok_if, ok_ifn, iadV_sl, makeV_int, decT, decF, over_at, *, hA'.len]) | (with_reducible refine Gd_split (fun hc => ?_) (fun hc => ?_) <;> (have hc2 := hc; try simp at hc2)) | (with_reducible refine Br_split (fun hc => ?_) (fun hc => ?_) <;> (have hc2 := hc; try simp at hc2)) | (with_reducible refine GdT_split (fun hc => ?_) (fun hc => ?_) <;> (have hc2 := hc; try simp at hc2)) | (with_reducible refine WT_alt ?_ ?_) | omega)

end
end
end Go.E
