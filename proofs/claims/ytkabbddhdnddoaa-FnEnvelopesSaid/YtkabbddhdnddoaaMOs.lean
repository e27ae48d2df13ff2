/- Oscillators, both sides. -/
import Derived.Test.YtkabbddhdnddoaaMWa
import Derived.Test.YtkabbddhdnddoaaMD
set_option linter.unusedVariables false
set_option linter.unusedSimpArgs false
set_option exponentiation.threshold 3000
namespace Go.E
open Go
def L17 : LFn := ⟨1, (.seq (.reg [⟨(.some 1), (.box 45 (.t 0)), none⟩, ⟨(.some 2), (.mv (.c (.lf (.bool false)))), none⟩])
 (.seq (.reg [⟨(.some 3), (.faddr 0 (.t 1)), none⟩, ⟨(.some 4), (.load false 1 (.t 3)), none⟩, ⟨(.some 5), (.call true 29 [(.t 4)]), none⟩, ⟨(.some 6), (.mv (.t 5)), none⟩, ⟨(.some 7), (.faddr 1 (.t 1)), (.some (6, true))⟩, ⟨(.some 8), (.load false 1 (.t 7)), (.some (6, true))⟩, ⟨(.some 9), (.call true 36 [(.t 8)]), (.some (6, true))⟩, ⟨(.some 10), (.pick (.t 6) (.t 9) (.c (.lf (.bool false)))), none⟩, ⟨(.some 11), (.mv (.t 10)), none⟩, ⟨(.some 12), (.faddr 2 (.t 1)), (.some (11, true))⟩, ⟨(.some 13), (.load false 1 (.t 12)), (.some (11, true))⟩, ⟨(.some 14), (.call true 36 [(.t 13)]), (.some (11, true))⟩, ⟨(.some 15), (.pick (.t 11) (.t 14) (.c (.lf (.bool false)))), none⟩, ⟨(.some 2), (.mv (.t 15)), none⟩])
 .ret)), [(.tmp 2)]⟩
def L30 : LFn := ⟨1, (.seq (.reg [⟨(.some 2), (.mv (.c (.lf (.bool false)))), none⟩])
 (.seq (.reg [⟨(.some 3), (.mv (.t 0)), none⟩, ⟨(.some 4), (.call true 45 [(.t 3), (.c (.lf (.int .i64 0))), (.c (.lf (.int .i64 256)))]), none⟩, ⟨(.some 2), (.mv (.t 4)), none⟩])
 .ret)), [(.tmp 2)]⟩
def L35 : LFn := ⟨2, (.seq (.reg [⟨(.some 2), (.box 45 (.t 0)), none⟩, ⟨(.some 4), (.mv (.c (.lf .nils))), none⟩, ⟨(.some 5), (.alloc 45 [(.int .i64 0), (.flt .f32 0), (.flt .f32 0)]), none⟩])
 (.seq (.reg [⟨(.some 6), (.mv (.c (.lf .nils))), none⟩])
 (.seq (.block 0 (.loop (.seq (.seq (.reg [⟨(.some 7), (.mv (.t 1)), none⟩, ⟨(.some 8), (.bin .gtr (.t 7) (.c (.lf (.int .i64 0)))), none⟩])
 (.cond (.t 8) .skip (.exit 0)))
 (.seq (.block 1 (.seq (.reg [⟨(.some 11), (.mv (.t 6)), none⟩, ⟨(.some 12), (.faddr 0 (.t 2)), none⟩, ⟨(.some 13), (.load false 1 (.t 12)), none⟩, ⟨(.some 14), (.faddr 2 (.t 2)), none⟩, ⟨(.some 15), (.load false 1 (.t 14)), none⟩, ⟨(.some 16), (.call true 38 [(.t 13), (.t 15)]), none⟩, ⟨(.some 17), (.lit 24 1 1 [(.flt .f32 0)] [(0, (1, (.t 16)))]), none⟩, ⟨(.some 18), (.app 24 1 4 (.t 11) (.t 17)), none⟩, ⟨(.some 6), (.mv (.t 18)), none⟩])
 (.seq (.reg [⟨(.some 19), (.faddr 2 (.t 2)), none⟩, ⟨(.some 20), (.load false 1 (.t 19)), none⟩, ⟨(.some 21), (.faddr 1 (.t 2)), none⟩, ⟨(.some 22), (.load false 1 (.t 21)), none⟩, ⟨(.some 23), (.bin .add (.t 20) (.t 22)), none⟩, ⟨(.some 24), (.faddr 2 (.t 2)), none⟩, ⟨none, (.store 1 (.t 24) (.t 23)), none⟩])
 (.seq (.reg [⟨(.some 25), (.faddr 2 (.t 2)), none⟩, ⟨(.some 26), (.load false 1 (.t 25)), none⟩, ⟨(.some 27), (.bin .geq (.t 26) (.c (.lf (.flt .f32 1065353216)))), none⟩])
 (.cond (.t 27) (.reg [⟨(.some 28), (.faddr 2 (.t 2)), none⟩, ⟨(.some 29), (.load false 1 (.t 28)), none⟩, ⟨(.some 30), (.bin .sub (.t 29) (.c (.lf (.flt .f32 1065353216)))), none⟩, ⟨(.some 31), (.faddr 2 (.t 2)), none⟩, ⟨none, (.store 1 (.t 31) (.t 30)), none⟩]) .skip)))))
 (.reg [⟨(.some 9), (.mv (.t 1)), none⟩, ⟨(.some 10), (.bin .sub (.t 9) (.c (.lf (.int .i64 1)))), none⟩, ⟨(.some 1), (.mv (.t 10)), none⟩])))))
 (.seq (.reg [⟨(.some 32), (.mv (.t 6)), none⟩, ⟨(.some 33), (.load true 3 (.t 2)), none⟩, ⟨(.some 4), (.mv (.t 32)), none⟩, ⟨none, (.store 3 (.t 5) (.t 33)), none⟩])
 .ret)))), [(.tmp 4), (.cell 5 true 3)]⟩
def L16 : LFn := ⟨2, (.seq (.reg [⟨(.some 2), (.box 45 (.t 0)), none⟩, ⟨(.some 4), (.mv (.c (.lf .nils))), none⟩, ⟨(.some 5), (.alloc 45 [(.int .i64 0), (.flt .f32 0), (.flt .f32 0)]), none⟩, ⟨(.some 6), (.mv (.c (.lf (.bool false)))), none⟩])
 (.seq (.seq (.reg [⟨(.some 9), (.load true 3 (.t 2)), none⟩, ⟨(.some 10), (.call true 17 [(.t 9)]), none⟩, ⟨(.some 11), (.una .not (.t 10)), none⟩, ⟨(.some 12), (.mv (.t 11)), none⟩, ⟨(.some 13), (.mv (.t 1)), (.some (12, false))⟩, ⟨(.some 14), (.call true 30 [(.t 13)]), (.some (12, false))⟩, ⟨(.some 15), (.una .not (.t 14)), (.some (12, false))⟩, ⟨(.some 16), (.pick (.t 12) (.c (.lf (.bool true))) (.t 15)), none⟩])
 (.cond (.t 16) (.seq (.reg [⟨(.some 17), (.build [(.int .i64 0), (.flt .f32 0), (.flt .f32 0)] []), none⟩, ⟨(.some 4), (.mv (.c (.lf .nils))), none⟩, ⟨none, (.store 3 (.t 5) (.t 17)), none⟩, ⟨(.some 6), (.mv (.c (.lf (.bool false)))), none⟩])
 .ret) .skip))
 (.seq (.reg [⟨(.some 19), (.load true 3 (.t 2)), none⟩, ⟨(.some 20), (.mv (.t 1)), none⟩, ⟨(.some 21), (.call false 35 [(.t 19), (.t 20)]), none⟩, ⟨(.some 18), (.mv (.t 21)), none⟩, ⟨(.some 22), (.ext (.t 18) 0), none⟩, ⟨(.some 23), (.ext (.t 18) 1), none⟩, ⟨(.some 8), (.alloc 45 [(.int .i64 0), (.flt .f32 0), (.flt .f32 0)]), none⟩, ⟨(.some 7), (.mv (.t 22)), none⟩, ⟨none, (.store 3 (.t 8) (.t 23)), none⟩])
 (.seq (.reg [⟨(.some 24), (.mv (.t 7)), none⟩, ⟨(.some 25), (.load true 3 (.t 8)), none⟩, ⟨(.some 4), (.mv (.t 24)), none⟩, ⟨none, (.store 3 (.t 5) (.t 25)), none⟩, ⟨(.some 6), (.mv (.c (.lf (.bool true)))), none⟩])
 .ret)))), [(.tmp 4), (.cell 5 true 3), (.tmp 6)]⟩
class HasOs (S : Sys) : Prop extends HasWv S where
  f17 : S.fs 17 = some L17
  f30 : S.fs 30 = some L30
  f35 : S.fs 35 = some L35
  f16 : S.fs 16 = some L16
def onP (p s : Nat) : Nat := if fcmp .geq .f32 (fbin .add .f32 p s) 1065353216 = true then fbin .sub .f32 (fbin .add .f32 p s) 1065353216 else fbin .add .f32 p s
def phT (s p : Nat) : Nat → Nat
  | 0 => p
  | i + 1 => onP (phT s p i) s
def osT (k : Int) (s p i : Nat) : List Nat := (List.range i).map fun j => wave32 k (phT s p j)
theorem osT_len {k : Int} {s p i : Nat} : (osT k s p i).length = i := by simp [osT]
theorem osT_fl {k : Int} {s p i : Nat} : (osT k s p (i + 1)).map fl = (osT k s p i).map fl ++ [[.flt .f32 (wave32 k (phT s p i))]] := by
  unfold osT
  rw [List.range_succ, List.map_append, List.map_append]; rfl
theorem CF_on {p s : Nat} : CF (onP p s) := by unfold onP; split <;> exact CF_bin
theorem CF_ph {s p i : Nat} (hp : CF p) : CF (phT s p i) := by
  cases i with
  | zero => exact hp
  | succ i => exact CF_on
def oscOk (k : Int) (s p : Nat) (n : Int) : Prop := ((0 ≤ k ∧ k ≤ 3) ∧ phB s = true ∧ phB p = true) ∧ 0 ≤ n ∧ n ≤ 256
instance {k n : Int} {s p : Nat} : Decidable (oscOk k s p n) := by unfold oscOk; infer_instance
section
variable {S : Sys} {lim : Nat} {h : Hp} {K : CV → Hp → Prop} [HasOs S]
@[simp] theorem c_isCount {x : Int} : CallT S true 30 [.lf (.int .i64 x)] h lim K = K (.lf (.bool (decide (0 ≤ x ∧ x ≤ 256)))) h := by
  refine CallT_pure (F := L30) (HasOs.f30) rfl (by first | rfl | (split <;> rfl) | simp) ?_; unfold L30; dsimp only []
  repeat' (first | (simp (disch := first | omega | assumption | (simp only [List.length_set]; omega) | (simp [*] <;> fail) | assumption) [-Bool.decide_and, -Bool.decide_or, -Bool.not_and, -Bool.not_or, toNat_pred, toNat_succ, wrap64, wr_new, wr_new0, ok_if, ok_ifn, iadV_sl, makeV_int, decT, decF, over_at, *]) | (with_reducible refine Gd_split (fun hc => ?_) (fun hc => ?_) <;> (have hc2 := hc; try simp at hc2)) | (with_reducible refine Br_split (fun hc => ?_) (fun hc => ?_) <;> (have hc2 := hc; try simp at hc2)) | (with_reducible refine GdT_split (fun hc => ?_) (fun hc => ?_) <;> (have hc2 := hc; try simp at hc2)) | (with_reducible refine WT_alt ?_ ?_) | omega)
theorem c_ValidOscillator {k : Int} {s p : Nat} : CallT S true 17 [.agg [.int .i64 k, .flt .f32 s, .flt .f32 p]] h lim K = K (.lf (.bool (decide ((0 ≤ k ∧ k ≤ 3) ∧ phB s = true ∧ phB p = true)))) h := by
  by_cases hk : 0 ≤ k ∧ k ≤ 3
  · cases h1 : phB s
    · rw [show decide ((0 ≤ k ∧ k ≤ 3) ∧ false = true ∧ phB p = true) = false by simp]
      refine CallT_pure (F := L17) (HasOs.f17) rfl (by first | rfl | (split <;> rfl) | simp) ?_; unfold L17; dsimp only []
      repeat' (first | (simp (disch := first | omega | assumption | (simp only [List.length_set]; omega) | (simp [*] <;> fail) | assumption) [-Bool.decide_and, -Bool.decide_or, -Bool.not_and, -Bool.not_or, toNat_pred, toNat_succ, wrap64, wr_new, wr_new0, ok_if, ok_ifn, iadV_sl, makeV_int, decT, decF, over_at, *]) | (with_reducible refine Gd_split (fun hc => ?_) (fun hc => ?_) <;> (have hc2 := hc; try simp at hc2)) | (with_reducible refine Br_split (fun hc => ?_) (fun hc => ?_) <;> (have hc2 := hc; try simp at hc2)) | (with_reducible refine GdT_split (fun hc => ?_) (fun hc => ?_) <;> (have hc2 := hc; try simp at hc2)) | (with_reducible refine WT_alt ?_ ?_) | omega)
    · cases h2 : phB p
      · rw [show decide ((0 ≤ k ∧ k ≤ 3) ∧ true = true ∧ false = true) = false by simp]
        refine CallT_pure (F := L17) (HasOs.f17) rfl (by first | rfl | (split <;> rfl) | simp) ?_; unfold L17; dsimp only []
        repeat' (first | (simp (disch := first | omega | assumption | (simp only [List.length_set]; omega) | (simp [*] <;> fail) | assumption) [-Bool.decide_and, -Bool.decide_or, -Bool.not_and, -Bool.not_or, toNat_pred, toNat_succ, wrap64, wr_new, wr_new0, ok_if, ok_ifn, iadV_sl, makeV_int, decT, decF, over_at, *]) | (with_reducible refine Gd_split (fun hc => ?_) (fun hc => ?_) <;> (have hc2 := hc; try simp at hc2)) | (with_reducible refine Br_split (fun hc => ?_) (fun hc => ?_) <;> (have hc2 := hc; try simp at hc2)) | (with_reducible refine GdT_split (fun hc => ?_) (fun hc => ?_) <;> (have hc2 := hc; try simp at hc2)) | (with_reducible refine WT_alt ?_ ?_) | omega)
      · rw [show decide ((0 ≤ k ∧ k ≤ 3) ∧ true = true ∧ true = true) = true by simp [hk]]
        refine CallT_pure (F := L17) (HasOs.f17) rfl (by first | rfl | (split <;> rfl) | simp) ?_; unfold L17; dsimp only []
        repeat' (first | (simp (disch := first | omega | assumption | (simp only [List.length_set]; omega) | (simp [*] <;> fail) | assumption) [-Bool.decide_and, -Bool.decide_or, -Bool.not_and, -Bool.not_or, toNat_pred, toNat_succ, wrap64, wr_new, wr_new0, ok_if, ok_ifn, iadV_sl, makeV_int, decT, decF, over_at, *]) | (with_reducible refine Gd_split (fun hc => ?_) (fun hc => ?_) <;> (have hc2 := hc; try simp at hc2)) | (with_reducible refine Br_split (fun hc => ?_) (fun hc => ?_) <;> (have hc2 := hc; try simp at hc2)) | (with_reducible refine GdT_split (fun hc => ?_) (fun hc => ?_) <;> (have hc2 := hc; try simp at hc2)) | (with_reducible refine WT_alt ?_ ?_) | omega)
  · rw [show decide ((0 ≤ k ∧ k ≤ 3) ∧ phB s = true ∧ phB p = true) = false by simp; omega]
    refine CallT_pure (F := L17) (HasOs.f17) rfl (by first | rfl | (split <;> rfl) | simp) ?_; unfold L17; dsimp only []
    repeat' (first | (simp (disch := first | omega | assumption | (simp only [List.length_set]; omega) | (simp [*] <;> fail) | assumption) [-Bool.decide_and, -Bool.decide_or, -Bool.not_and, -Bool.not_or, toNat_pred, toNat_succ, wrap64, wr_new, wr_new0, ok_if, ok_ifn, iadV_sl, makeV_int, decT, decF, over_at, *]) | (with_reducible refine Gd_split (fun hc => ?_) (fun hc => ?_) <;> (have hc2 := hc; try simp at hc2)) | (with_reducible refine Br_split (fun hc => ?_) (fun hc => ?_) <;> (have hc2 := hc; try simp at hc2)) | (with_reducible refine GdT_split (fun hc => ?_) (fun hc => ?_) <;> (have hc2 := hc; try simp at hc2)) | (with_reducible refine WT_alt ?_ ?_) | omega)
/-- The samples, and the oscillator behind them. -/
def oscR (k : Int) (s p : Nat) (n : Int) : List Nat := if oscOk k s p n then osT k s p n.toNat else []
def oscF (k : Int) (s p : Nat) (n : Int) : List Lf := if oscOk k s p n then [.int .i64 k, .flt .f32 s, .flt .f32 (phT s p n.toNat)] else [.int .i64 0, .flt .f32 0, .flt .f32 0]
theorem oscR_len {k : Int} {s p : Nat} {n : Int} : (oscR k s p n).length ≤ 256 := by
  unfold oscR
  split
  · rename_i h
    rw [osT_len]
    have := h.2
    omega
  · simp
set_option maxHeartbeats 2000000 in
set_option maxHeartbeats 2000000 in
theorem c_oscRun {k : Int} {s p N : Nat} (hk : 0 ≤ k ∧ k ≤ 3) (hp : CF p) (hN : N ≤ 256) (hl : lim ≤ h.length) (hK : ∀ o g, New h g o 24 1 ((osT k s p N).map fl) → K (.tup [.lf o, .agg [.int .i64 k, .flt .f32 s, .flt .f32 (phT s p N)]]) g) : CallT S false 35 [.agg [.int .i64 k, .flt .f32 s, .flt .f32 p], .lf (.int .i64 N)] h lim K := by
  refine CallT_of_body (F := L35) (HasOs.f35) rfl ?_; unfold L35; dsimp only []
  repeat' (first | (simp (disch := first | omega | assumption | (simp only [List.length_set]; omega) | (simp [*] <;> fail) | assumption) [-Bool.decide_and, -Bool.decide_or, -Bool.not_and, -Bool.not_or, toNat_pred, toNat_succ, wrap64, wr_new, wr_new0, ok_if, ok_ifn, iadV_sl, makeV_int, decT, decF, over_at, *, leavesAll, fillL]) | (with_reducible refine Gd_split (fun hc => ?_) (fun hc => ?_) <;> (have hc2 := hc; try simp at hc2)) | (with_reducible refine Br_split (fun hc => ?_) (fun hc => ?_) <;> (have hc2 := hc; try simp at hc2)) | (with_reducible refine GdT_split (fun hc => ?_) (fun hc => ?_) <;> (have hc2 := hc; try simp at hc2)) | (with_reducible refine WT_alt ?_ ?_) | omega)
  refine WL_forM 4294967234 (by decide +kernel) (N) (fun i b g => i ≤ N ∧ b 1 = .lf (.int .i64 (N - i)) ∧ Cel g h.length 45 [.int .i64 k, .flt .f32 s, .flt .f32 (phT s p i)] ∧ Cel g (h.length + 1) 45 [.int .i64 0, .flt .f32 0, .flt .f32 0] ∧ ∃ o, b 6 = .lf o ∧ New h g o 24 1 ((osT k s p i).map fl) ∧ Not o h.length ∧ Not o (h.length + 1)) (fun _ _ _ hi => hi.1) ?_ ?_
  · refine ⟨by omega, by simp, by simp [Cel, phT], by simp [Cel], .nils, by simp, ?_, fun q => absurd rfl q, fun q => absurd rfl q⟩
    exact New.nil (Kept.app _ _)
  rintro i b g ⟨hi, e1, hc2, hc5, o, e7, hM, hn2, hn5⟩
  have hlt2 := hc2.lt
  have hlt5 := hc5.lt
  by_cases hlt : i < N
  · have hw := fun h lim K => c_waveAt (S := S) (h := h) (lim := lim) (K := K) hk (CF_ph (s := s) (i := i) hp)
    have hol := osT_len (k := k) (s := s) (p := p) (i := i)
    have hos := osT_fl (k := k) (s := s) (p := p) (i := i)
    have hps : phT s p (i + 1) = onP (phT s p i) s := rfl
    generalize wave32 k (phT s p i) = y at *
    obtain ⟨p2, hp2e⟩ : ∃ p2, phT s p (i + 1) = p2 := ⟨_, rfl⟩
    rw [hp2e] at hps
    have hp2H : Hid (phT s p (i + 1) = p2) := hp2e
    clear hp2e
    generalize phT s p i = p1 at *
    have c0 : rdCells g h.length 0 1 = some [.int .i64 k] := by have := hc2.rd (off := 0) (n := 1) (by simp); simpa using this
    have c2 : rdCells g h.length 2 1 = some [.flt .f32 p1] := by have := hc2.rd (off := 2) (n := 1) (by simp); simpa using this
    clear hK
    have hpsH : Hid (p2 = onP p1 s) := hps
    clear hps
    repeat' (first | (simp (disch := first | omega | assumption | (simp only [List.length_set]; omega) | (simp [*] <;> fail) | assumption) [-Bool.decide_and, -Bool.decide_or, -Bool.not_and, -Bool.not_or, toNat_pred, toNat_succ, wrap64, wr_new, wr_new0, ok_if, ok_ifn, iadV_sl, makeV_int, decT, decF, over_at, *, leavesAll, fillL]) | (with_reducible refine Gd_split (fun hc => ?_) (fun hc => ?_) <;> (have hc2 := hc; try simp at hc2)) | (with_reducible refine Br_split (fun hc => ?_) (fun hc => ?_) <;> (have hc2 := hc; try simp at hc2)) | (with_reducible refine GdT_split (fun hc => ?_) (fun hc => ?_) <;> (have hc2 := hc; try simp at hc2)) | (with_reducible refine WT_alt ?_ ?_) | omega)
    refine oc_push (r := [.flt .f32 y]) (bytes := 4) hM ?_ ?_ ?_ (by decide) rfl (by decide)
    · exact hl
    · simp; omega
    intro o2 g5 hP hB
    rw [← hos] at hP
    have d2 := hc2.but hB fun q => (hn2 q).symm
    have d5 := hc5.but hB fun q => (hn5 q).symm
    have n2 := hn2.but hB (by omega)
    have n5 := hn5.but hB (by omega)
    have l2 := d2.lt
    have x1 : rdCells g5 h.length 1 1 = some [.flt .f32 s] := by have := d2.rd (off := 1) (n := 1) (by simp); simpa using this
    have x2 : rdCells g5 h.length 2 1 = some [.flt .f32 p1] := by have := d2.rd (off := 2) (n := 1) (by simp); simpa using this
    have w2 : ∀ q, wrCells lim g5 h.length 2 [.flt .f32 q] = some (g5.set h.length ⟨[.int .i64 k, .flt .f32 s, .flt .f32 q], .own 45 1⟩) := fun q => by
      rw [wr_get1 d2 hl (by simp)]; rfl
    have x3 : ∀ q, rdCells (g5.set h.length ⟨[.int .i64 k, .flt .f32 s, .flt .f32 q], .own 45 1⟩) h.length 2 1 = some [.flt .f32 q] := fun q => by
      have := (Cel.put (ty := 45) (new := [.int .i64 k, .flt .f32 s, .flt .f32 q]) l2).rd (off := 2) (n := 1) (by simp); simpa using this
    have w3 : ∀ q r, wrCells lim (g5.set h.length ⟨[.int .i64 k, .flt .f32 s, .flt .f32 q], .own 45 1⟩) h.length 2 [.flt .f32 r] = some (g5.set h.length ⟨[.int .i64 k, .flt .f32 s, .flt .f32 r], .own 45 1⟩) := fun q r => by
      rw [wr_set1 l2 hl (by simp)]; rfl
    clear hB hM hc2 hc5 c0 c2 hn2 hn5 hos
    cases hge : fcmp .geq .f32 (fbin .add .f32 p1 s) 1065353216
    · have hp2 : p2 = fbin .add .f32 p1 s := by rw [show p2 = _ from hpsH]; unfold onP; rw [hge]; rfl
      subst hp2
      clear hpsH
      repeat' (first | (simp (disch := first | omega | assumption | (simp only [List.length_set]; omega) | (simp [*] <;> fail) | assumption) [-Bool.decide_and, -Bool.decide_or, -Bool.not_and, -Bool.not_or, toNat_pred, toNat_succ, wrap64, wr_new, wr_new0, ok_if, ok_ifn, iadV_sl, makeV_int, decT, decF, over_at, *]) | (with_reducible refine Gd_split (fun hc => ?_) (fun hc => ?_) <;> (have hc2 := hc; try simp at hc2)) | (with_reducible refine Br_split (fun hc => ?_) (fun hc => ?_) <;> (have hc2 := hc; try simp at hc2)) | (with_reducible refine GdT_split (fun hc => ?_) (fun hc => ?_) <;> (have hc2 := hc; try simp at hc2)) | (with_reducible refine WT_alt ?_ ?_) | omega)
      exact ⟨by omega, by omega, by rw [show phT s p (i + 1) = _ from hp2H]; exact Cel.put l2, d5.set (by omega), hP.set_other (Nat.le_refl _) n2⟩
    · have hp2 : p2 = fbin .sub .f32 (fbin .add .f32 p1 s) 1065353216 := by rw [show p2 = _ from hpsH]; unfold onP; rw [hge]; rfl
      subst hp2
      clear hpsH
      repeat' (first | (simp (disch := first | omega | assumption | (simp only [List.length_set]; omega) | (simp [*] <;> fail) | assumption) [-Bool.decide_and, -Bool.decide_or, -Bool.not_and, -Bool.not_or, toNat_pred, toNat_succ, wrap64, wr_new, wr_new0, ok_if, ok_ifn, iadV_sl, makeV_int, decT, decF, over_at, *]) | (with_reducible refine Gd_split (fun hc => ?_) (fun hc => ?_) <;> (have hc2 := hc; try simp at hc2)) | (with_reducible refine Br_split (fun hc => ?_) (fun hc => ?_) <;> (have hc2 := hc; try simp at hc2)) | (with_reducible refine GdT_split (fun hc => ?_) (fun hc => ?_) <;> (have hc2 := hc; try simp at hc2)) | (with_reducible refine WT_alt ?_ ?_) | omega)
      exact ⟨by omega, by omega, by rw [show phT s p (i + 1) = _ from hp2H]; exact Cel.put l2, d5.set (by omega), hP.set_other (Nat.le_refl _) n2⟩
  · have : i = N := by omega
    subst this
    have c0 : rdCells g h.length 0 3 = some [.int .i64 k, .flt .f32 s, .flt .f32 (phT s p i)] := hc2.rd (by simp)
    have w5 : wrCells lim g (h.length + 1) 0 [.int .i64 k, .flt .f32 s, .flt .f32 (phT s p i)] = some (g.set (h.length + 1) ⟨[.int .i64 k, .flt .f32 s, .flt .f32 (phT s p i)], .own 45 1⟩) := hc5.wr (by omega) rfl
    have r5 : rdCells (g.set (h.length + 1) ⟨[.int .i64 k, .flt .f32 s, .flt .f32 (phT s p i)], .own 45 1⟩) (h.length + 1) 0 3 = some [.int .i64 k, .flt .f32 s, .flt .f32 (phT s p i)] := (Cel.put hlt5).rd (by simp)
    generalize phT s p i = p1 at *
    repeat' (first | (simp (disch := first | omega | assumption | (simp only [List.length_set]; omega) | (simp [*] <;> fail) | assumption) [-Bool.decide_and, -Bool.decide_or, -Bool.not_and, -Bool.not_or, toNat_pred, toNat_succ, wrap64, wr_new, wr_new0, ok_if, ok_ifn, iadV_sl, makeV_int, decT, decF, over_at, *]) | (with_reducible refine Gd_split (fun hc => ?_) (fun hc => ?_) <;> (have hc2 := hc; try simp at hc2)) | (with_reducible refine Br_split (fun hc => ?_) (fun hc => ?_) <;> (have hc2 := hc; try simp at hc2)) | (with_reducible refine GdT_split (fun hc => ?_) (fun hc => ?_) <;> (have hc2 := hc; try simp at hc2)) | (with_reducible refine WT_alt ?_ ?_) | omega)
    exact hK _ _ (hM.set_other (by omega) hn5)
set_option maxHeartbeats 2000000 in
theorem c_implRunOscillator {k : Int} {s p : Nat} {n : Int} (hp : CF p) (hl : lim ≤ h.length) (hK : ∀ o g, New h g o 24 1 ((oscR k s p n).map fl) → K (.tup [.lf o, .agg (oscF k s p n), .lf (.bool (decide (oscOk k s p n)))]) g) : CallT S false 16 [.agg [.int .i64 k, .flt .f32 s, .flt .f32 p], .lf (.int .i64 n)] h lim K := by
  have hi0 := fun h lim K => c_ValidOscillator (S := S) (h := h) (lim := lim) (K := K) (k := k) (s := s) (p := p)
  by_cases hv : (0 ≤ k ∧ k ≤ 3) ∧ phB s = true ∧ phB p = true
  · have hd : decide ((0 ≤ k ∧ k ≤ 3) ∧ phB s = true ∧ phB p = true) = true := decide_eq_true hv
    rw [hd] at hi0
    clear hd
    by_cases hn : 0 ≤ n ∧ n ≤ 256
    · have hok : oscOk k s p n := ⟨hv, hn⟩
      unfold oscR oscF at hK
      rw [if_pos hok, if_pos hok, decide_eq_true hok] at hK
      have hk := hv.1
      clear hv hok
      obtain ⟨N, rfl⟩ : ∃ N : Nat, n = N := ⟨n.toNat, by omega⟩
      rw [Int.toNat_natCast] at hK
      have hN : N ≤ 256 := by omega
      refine CallT_of_body (F := L16) (HasOs.f16) rfl ?_; unfold L16; dsimp only []
      repeat' (first | (simp (disch := first | omega | assumption | (simp only [List.length_set]; omega) | (simp [*] <;> fail) | assumption) [-Bool.decide_and, -Bool.decide_or, -Bool.not_and, -Bool.not_or, toNat_pred, toNat_succ, wrap64, wr_new, wr_new0, ok_if, ok_ifn, iadV_sl, makeV_int, decT, decF, over_at, *, leavesAll, fillL]) | (with_reducible refine Gd_split (fun hc => ?_) (fun hc => ?_) <;> (have hc2 := hc; try simp at hc2)) | (with_reducible refine Br_split (fun hc => ?_) (fun hc => ?_) <;> (have hc2 := hc; try simp at hc2)) | (with_reducible refine GdT_split (fun hc => ?_) (fun hc => ?_) <;> (have hc2 := hc; try simp at hc2)) | (with_reducible refine WT_alt ?_ ?_) | omega)
      refine c_oscRun hk hp hN (by simp; omega) fun o g hM => ?_
      obtain ⟨t, rfl⟩ := hM.kept.split
      rw [List.append_assoc] at hM
      simp only [List.cons_append, List.nil_append, List.append_assoc] at hM ⊢
      generalize phT s p N = p1 at *
      repeat' (first | (simp (disch := first | omega | assumption | (simp only [List.length_set]; omega) | (simp [*] <;> fail) | assumption) [-Bool.decide_and, -Bool.decide_or, -Bool.not_and, -Bool.not_or, toNat_pred, toNat_succ, wrap64, wr_new, wr_new0, ok_if, ok_ifn, iadV_sl, makeV_int, decT, decF, over_at, *]) | (with_reducible refine Gd_split (fun hc => ?_) (fun hc => ?_) <;> (have hc2 := hc; try simp at hc2)) | (with_reducible refine Br_split (fun hc => ?_) (fun hc => ?_) <;> (have hc2 := hc; try simp at hc2)) | (with_reducible refine GdT_split (fun hc => ?_) (fun hc => ?_) <;> (have hc2 := hc; try simp at hc2)) | (with_reducible refine WT_alt ?_ ?_) | omega)
      refine hK _ _ ?_
      have h1 := (New.swap2 (a' := ⟨[.int .i64 k, .flt .f32 s, .flt .f32 p], .own 45 1⟩) (b' := ⟨[.int .i64 k, .flt .f32 s, .flt .f32 p1], .own 45 1⟩) hM).app (t := [⟨[.int .i64 k, .flt .f32 s, .flt .f32 p1], .own 45 1⟩])
      simpa using h1
    · have hok : ¬ oscOk k s p n := fun q => hn q.2
      unfold oscR oscF at hK
      rw [if_neg hok, if_neg hok, decide_eq_false hok] at hK
      refine CallT_of_body (F := L16) (HasOs.f16) rfl ?_; unfold L16; dsimp only []
      repeat' (first | (simp (disch := first | omega | assumption | (simp only [List.length_set]; omega) | (simp [*] <;> fail) | assumption) [-Bool.decide_and, -Bool.decide_or, -Bool.not_and, -Bool.not_or, toNat_pred, toNat_succ, wrap64, wr_new, wr_new0, ok_if, ok_ifn, iadV_sl, makeV_int, decT, decF, over_at, *, leavesAll, fillL]) | (with_reducible refine Gd_split (fun hc => ?_) (fun hc => ?_) <;> (have hc2 := hc; try simp at hc2)) | (with_reducible refine Br_split (fun hc => ?_) (fun hc => ?_) <;> (have hc2 := hc; try simp at hc2)) | (with_reducible refine GdT_split (fun hc => ?_) (fun hc => ?_) <;> (have hc2 := hc; try simp at hc2)) | (with_reducible refine WT_alt ?_ ?_) | omega)
      exact hK _ _ (New.nil (Kept.app _ _))
  · have hd : decide ((0 ≤ k ∧ k ≤ 3) ∧ phB s = true ∧ phB p = true) = false := decide_eq_false hv
    rw [hd] at hi0
    have hok : ¬ oscOk k s p n := fun q => hv q.1
    unfold oscR oscF at hK
    rw [if_neg hok, if_neg hok, decide_eq_false hok] at hK
    refine CallT_of_body (F := L16) (HasOs.f16) rfl ?_; unfold L16; dsimp only []
    repeat' (first | (simp (disch := first | omega | assumption | (simp only [List.length_set]; omega) | (simp [*] <;> fail) | assumption) [-Bool.decide_and, -Bool.decide_or, -Bool.not_and, -Bool.not_or, toNat_pred, toNat_succ, wrap64, wr_new, wr_new0, ok_if, ok_ifn, iadV_sl, makeV_int, decT, decF, over_at, *, leavesAll, fillL]) | (with_reducible refine Gd_split (fun hc => ?_) (fun hc => ?_) <;> (have hc2 := hc; try simp at hc2)) | (with_reducible refine Br_split (fun hc => ?_) (fun hc => ?_) <;> (have hc2 := hc; try simp at hc2)) | (with_reducible refine GdT_split (fun hc => ?_) (fun hc => ?_) <;> (have hc2 := hc; try simp at hc2)) | (with_reducible refine WT_alt ?_ ?_) | omega)
    exact hK _ _ (New.nil (Kept.app _ _))
end
end Go.E
