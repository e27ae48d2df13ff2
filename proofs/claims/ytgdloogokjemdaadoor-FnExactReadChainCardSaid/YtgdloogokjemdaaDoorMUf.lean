/- Decimal numbers that are read, for the evaluator. -/
import Derived.Test.YtgdloogokjemdaaDoorMUe
set_option linter.unusedVariables false
set_option linter.unusedSimpArgs false
namespace Go.E
open Go
def L19 : LFn := ⟨1, (.seq (.reg [⟨(.some 2), (.mv (.c (.lf (.int .i64 0)))), none⟩, ⟨(.some 3), (.mv (.c (.lf (.bool false)))), none⟩])
 (.seq (.seq (.reg [⟨(.some 6), (.mv (.t 0)), none⟩, ⟨(.some 7), (.slen (.t 6)), none⟩, ⟨(.some 8), (.bin .lss (.t 7) (.c (.lf (.int .i64 1)))), none⟩, ⟨(.some 9), (.mv (.t 8)), none⟩, ⟨(.some 10), (.mv (.t 0)), (.some (9, false))⟩, ⟨(.some 11), (.slen (.t 10)), (.some (9, false))⟩, ⟨(.some 12), (.bin .gtr (.t 11) (.c (.lf (.int .i64 17)))), (.some (9, false))⟩, ⟨(.some 13), (.pick (.t 9) (.c (.lf (.bool true))) (.t 12)), none⟩])
 (.cond (.t 13) (.seq (.reg [⟨(.some 2), (.mv (.c (.lf (.int .i64 0)))), none⟩, ⟨(.some 3), (.mv (.c (.lf (.bool false)))), none⟩])
 .ret) .skip))
 (.seq (.reg [⟨(.some 4), (.mv (.c (.lf (.int .i64 0)))), none⟩])
 (.seq (.seq (.reg [⟨(.some 5), (.mv (.c (.lf (.int .i64 0)))), none⟩])
 (.block 0 (.loop (.seq (.seq (.reg [⟨(.some 14), (.mv (.t 5)), none⟩, ⟨(.some 15), (.mv (.t 0)), none⟩, ⟨(.some 16), (.slen (.t 15)), none⟩, ⟨(.some 17), (.bin .lss (.t 14) (.t 16)), none⟩])
 (.cond (.t 17) .skip (.exit 0)))
 (.seq (.block 1 (.seq (.reg [⟨(.some 20), (.mv (.t 0)), none⟩, ⟨(.some 21), (.mv (.t 5)), none⟩, ⟨(.some 22), (.idx (.t 20) (.t 21)), none⟩, ⟨(.some 23), (.bin .geq (.t 22) (.c (.lf (.int .u8 48)))), none⟩, ⟨(.some 24), (.mv (.t 23)), none⟩, ⟨(.some 25), (.mv (.t 0)), (.some (24, true))⟩, ⟨(.some 26), (.mv (.t 5)), (.some (24, true))⟩, ⟨(.some 27), (.idx (.t 25) (.t 26)), (.some (24, true))⟩, ⟨(.some 28), (.bin .leq (.t 27) (.c (.lf (.int .u8 57)))), (.some (24, true))⟩, ⟨(.some 29), (.pick (.t 24) (.t 28) (.c (.lf (.bool false)))), none⟩])
 (.cond (.t 29) (.reg [⟨(.some 30), (.mv (.t 4)), none⟩, ⟨(.some 31), (.bin .mul (.c (.lf (.int .i64 10))) (.t 30)), none⟩, ⟨(.some 32), (.mv (.t 0)), none⟩, ⟨(.some 33), (.mv (.t 5)), none⟩, ⟨(.some 34), (.idx (.t 32) (.t 33)), none⟩, ⟨(.some 35), (.bin .sub (.t 34) (.c (.lf (.int .u8 48)))), none⟩, ⟨(.some 36), (.toint .i64 (.t 35)), none⟩, ⟨(.some 37), (.bin .add (.t 31) (.t 36)), none⟩, ⟨(.some 4), (.mv (.t 37)), none⟩]) .skip)))
 (.reg [⟨(.some 18), (.mv (.t 5)), none⟩, ⟨(.some 19), (.bin .add (.t 18) (.c (.lf (.int .i64 1)))), none⟩, ⟨(.some 5), (.mv (.t 19)), none⟩]))))))
 (.seq (.seq (.reg [⟨(.some 38), (.mv (.t 0)), none⟩, ⟨(.some 39), (.idx (.t 38) (.c (.lf (.int .i64 0)))), none⟩, ⟨(.some 40), (.bin .eql (.t 39) (.c (.lf (.int .u8 45)))), none⟩])
 (.cond (.t 40) (.reg [⟨(.some 41), (.mv (.t 4)), none⟩, ⟨(.some 42), (.una .neg (.t 41)), none⟩, ⟨(.some 4), (.mv (.t 42)), none⟩]) .skip))
 (.seq (.seq (.reg [⟨(.some 43), (.mv (.t 4)), none⟩, ⟨(.some 44), (.call true 31 [(.t 43), (.c (.lf (.int .i64 (-1000000000000000)))), (.c (.lf (.int .i64 1000000000000000)))]), none⟩, ⟨(.some 45), (.una .not (.t 44)), none⟩, ⟨(.some 46), (.mv (.t 45)), none⟩, ⟨(.some 47), (.mv (.t 4)), (.some (46, false))⟩, ⟨(.some 48), (.call true 32 [(.t 47)]), (.some (46, false))⟩, ⟨(.some 49), (.mv (.t 0)), (.some (46, false))⟩, ⟨(.some 50), (.bin .neq (.t 48) (.t 49)), (.some (46, false))⟩, ⟨(.some 51), (.pick (.t 46) (.c (.lf (.bool true))) (.t 50)), none⟩])
 (.cond (.t 51) (.seq (.reg [⟨(.some 2), (.mv (.c (.lf (.int .i64 0)))), none⟩, ⟨(.some 3), (.mv (.c (.lf (.bool false)))), none⟩])
 .ret) .skip))
 (.seq (.reg [⟨(.some 52), (.mv (.t 4)), none⟩, ⟨(.some 2), (.mv (.t 52)), none⟩, ⟨(.some 3), (.mv (.c (.lf (.bool true)))), none⟩])
 .ret))))))), [(.tmp 2), (.tmp 3)]⟩
class HasUf (S : Sys) : Prop extends HasUe S where
  f19 : S.fs 19 = some L19
section
variable {S : Sys} {lim : Nat} {h : Hp} {K : CV → Hp → Prop}
theorem tmod10n {n : Nat} : (-((n : Nat) : Int)).tmod 10 = -((n % 10 : Nat) : Int) := by rw [Int.neg_tmod]; rfl
theorem tdiv10n {n : Nat} : (-((n : Nat) : Int)).tdiv 10 = -((n / 10 : Nat) : Int) := by rw [Int.neg_tdiv]; rfl
section
variable [HasTx S]
set_option maxHeartbeats 2000000 in
theorem c_l01DecN {n : Nat} (hn : n ≤ 1000000000000000) (hn0 : 0 < n) : CallT S true 32 [.lf (.int .i64 (-(n : Int)))] h lim K = K (.lf (.str ⟨(45 :: Lib.decDigits n).toArray⟩)) h := by
  have z0 : New h (h ++ [⟨[], .own 5 1⟩]) (.sl h.length 0 0 1) 5 1 (([] : List UInt8).map ub) := New.litN (Kept.refl h)
  refine CallT_pure (F := L32) (HasTx.f32) rfl (by first | rfl | (split <;> rfl) | simp) ?_; unfold L32; dsimp only []
  repeat' (first | (simp (disch := first | omega | assumption | (simp only [List.length_set]; omega) | (simp [*] <;> fail) | assumption) [-Bool.decide_and, -Bool.decide_or, -Bool.not_and, -Bool.not_or, toNat_pred, toNat_succ, wrap64, wr_new, wr_new0, ok_if, ok_ifn, iadV_sl, makeV_int, decT, decF, over_at, *, leavesAll, fillL]) | (with_reducible refine Gd_split (fun hc => ?_) (fun hc => ?_) <;> (have hc2 := hc; try simp at hc2)) | (with_reducible refine Br_split (fun hc => ?_) (fun hc => ?_) <;> (have hc2 := hc; try simp at hc2)) | (with_reducible refine GdT_split (fun hc => ?_) (fun hc => ?_) <;> (have hc2 := hc; try simp at hc2)) | (with_reducible refine WT_alt ?_ ?_) | omega)
  refine WL_forM 536870712 (by decide +kernel) (20) (fun i b g => i ≤ 20 ∧ ∃ r out o, b 4 = .lf (.int .i64 (-((r : Nat) : Int))) ∧ b 3 = .lf o ∧ New h g o 5 1 (out.map ub) ∧ DecI n r out ∧ out.length = i ∧ r * 10 ^ i ≤ n) (fun _ _ _ hi => hi.1) ⟨by omega, n, [], _, by simp, rfl, z0, by simp [DecI], rfl, by simp⟩ ?_
  clear z0
  rintro i b g ⟨hi, r, out, o, e4, e3, hN, hD, hlen, hp⟩
  have hl := hN.arr.len
  rw [hlen] at hl
  by_cases hc : i = 0 ∨ r ≠ 0
  · have hlt : i < 20 := by
      rcases hc with hc | hc
      · omega
      · apply Nat.lt_of_not_le
        intro h20
        have : 10 ^ 20 ≤ 10 ^ i := Nat.pow_le_pow_right (by omega) h20
        have h2 : 1 * 10 ^ i ≤ r * 10 ^ i := Nat.mul_le_mul_right _ (by omega)
        omega
    have hr2 : r ≤ n := by
      have : r * 1 ≤ r * 10 ^ i := Nat.mul_le_mul_left _ (Nat.one_le_pow _ _ (by omega))
      omega
    have hd : r % 10 < 10 := Nat.mod_lt _ (by omega)
    have hstep := hD.step (by rcases hc with q | q; exact .inr (List.length_eq_zero_iff.1 (by omega)); exact .inl q)
    have hp2 : r / 10 * 10 ^ (i + 1) ≤ n := by
      have h1 : r / 10 * 10 ≤ r := Nat.div_mul_le_self _ _
      have h2 := Nat.mul_le_mul_right (10 ^ i) h1
      rw [Nat.pow_succ, Nat.mul_comm (10 ^ i) 10, ← Nat.mul_assoc]
      omega
    have hub := ub_dig hd
    have hw : IntKind.u8.wrap (48 + ((r % 10 : Nat) : Int)) = 48 + ((r % 10 : Nat) : Int) := by rw [IntKind.wrap_u8]; omega
    have tm := tmod10n (n := r)
    have td := tdiv10n (n := r)
    have hsrc := hN.src
    have hrow := fun i r hi => (hN.arr.row i r hi).1
    have kN := hN.kept
    have hq1 : r / 10 ≤ r := Nat.div_le_self _ _
    obtain ⟨q, hq⟩ : ∃ q, r / 10 = q := ⟨_, rfl⟩
    rw [hq] at hstep hp2 td hq1
    obtain ⟨d, hdd⟩ : ∃ d, r % 10 = d := ⟨_, rfl⟩
    rw [hdd] at hstep hd hub hw tm
    have hSd : Hid (DecI n q (UInt8.ofNat (48 + d) :: out)) := hstep
    clear hD hstep hq hdd
    have fin : ∀ o2 g2, New h g2 o2 5 1 ([.int .u8 (48 + (d : Int))] :: out.map ub) → New h g2 o2 5 1 ((UInt8.ofNat (48 + d) :: out).map ub) := fun o2 g2 hh => by
      rw [List.map_cons, hub]; exact hh
    have zl : New h (g ++ [⟨[.int .u8 (48 + (d : Int))], .own 5 1⟩]) (.sl g.length 0 1 1) 5 1 [[.int .u8 (48 + (d : Int))]] := by
      have hS : Sl (g ++ [(⟨[.int .u8 (48 + (d : Int))], .own 5 1⟩ : Ob)]) g.length 5 1 [[.int .u8 (48 + (d : Int))]] := ⟨by rw [List.getElem?_append_right (Nat.le_refl _)]; simp, fun i r hi => by
        have hm := List.mem_of_getElem? hi
        simp at hm; subst hm; rfl⟩
      exact New.of_sl kN.more hS kN.1 (by simp)
    have hsrc2 := src_kept (Kept.app g [(⟨[.int .u8 (48 + (d : Int))], .own 5 1⟩ : Ob)]) hsrc
    have hlen2 : (UInt8.ofNat (48 + d) :: out).length = i + 1 := by simp [hlen]
    have hr9 : r ≤ 9223372036854775807 := by omega
    clear hN kN hp hsrc hub
    by_cases hd0 : d = 0
    · subst hd0
      have tm0 : (-(r : Int)).tmod 10 = 0 := by rw [tm]; rfl
      clear tm
      by_cases hi0 : i = 0
      · subst hi0
        repeat' (first | (simp (disch := first | omega | assumption | (simp only [List.length_set]; omega) | (simp [*] <;> fail) | assumption) [-Bool.decide_and, -Bool.decide_or, -Bool.not_and, -Bool.not_or, toNat_pred, toNat_succ, wrap64, wr_new, wr_new0, ok_if, ok_ifn, iadV_sl, makeV_int, decT, decF, over_at, *, leavesAll, fillL]) | (with_reducible refine Gd_split (fun hc => ?_) (fun hc => ?_) <;> (have hc2 := hc; try simp at hc2)) | (with_reducible refine Br_split (fun hc => ?_) (fun hc => ?_) <;> (have hc2 := hc; try simp at hc2)) | (with_reducible refine GdT_split (fun hc => ?_) (fun hc => ?_) <;> (have hc2 := hc; try simp at hc2)) | (with_reducible refine WT_alt ?_ ?_) | omega)
        refine oc_app (new := out.map ub) zl (Nat.le_refl _) hsrc2 hrow (by simp; omega) (fun o2 g2 hN2 hB => ?_)
        have hN3 := fin o2 g2 hN2
        clear hN2 hB zl fin hrow hsrc2 hl
        repeat' (first | (simp (disch := first | omega | assumption | (simp only [List.length_set]; omega) | (simp [*] <;> fail) | assumption) [-Bool.decide_and, -Bool.decide_or, -Bool.not_and, -Bool.not_or, toNat_pred, toNat_succ, wrap64, wr_new, wr_new0, ok_if, ok_ifn, iadV_sl, makeV_int, decT, decF, over_at, *]) | (with_reducible refine Gd_split (fun hc => ?_) (fun hc => ?_) <;> (have hc2 := hc; try simp at hc2)) | (with_reducible refine Br_split (fun hc => ?_) (fun hc => ?_) <;> (have hc2 := hc; try simp at hc2)) | (with_reducible refine GdT_split (fun hc => ?_) (fun hc => ?_) <;> (have hc2 := hc; try simp at hc2)) | (with_reducible refine WT_alt ?_ ?_) | omega)
        exact ⟨q, rfl, _, hN3, hSd, hlen2, by simpa using hp2⟩
      · have hi1 : ¬ (i : Int) = 0 := by omega
        have hrn : ¬ (r : Int) = 0 := by omega
        have hrn2 : ¬ -(r : Int) = 0 := by omega
        repeat' (first | (simp (disch := first | omega | assumption | (simp only [List.length_set]; omega) | (simp [*] <;> fail) | assumption) [-Bool.decide_and, -Bool.decide_or, -Bool.not_and, -Bool.not_or, toNat_pred, toNat_succ, wrap64, wr_new, wr_new0, ok_if, ok_ifn, iadV_sl, makeV_int, decT, decF, over_at, *, leavesAll, fillL]) | (with_reducible refine Gd_split (fun hc => ?_) (fun hc => ?_) <;> (have hc2 := hc; try simp at hc2)) | (with_reducible refine Br_split (fun hc => ?_) (fun hc => ?_) <;> (have hc2 := hc; try simp at hc2)) | (with_reducible refine GdT_split (fun hc => ?_) (fun hc => ?_) <;> (have hc2 := hc; try simp at hc2)) | (with_reducible refine WT_alt ?_ ?_) | omega)
        refine oc_app (new := out.map ub) zl (Nat.le_refl _) hsrc2 hrow (by simp; omega) (fun o2 g2 hN2 hB => ?_)
        have hN3 := fin o2 g2 hN2
        clear hN2 hB zl fin hrow hsrc2 hl
        repeat' (first | (simp (disch := first | omega | assumption | (simp only [List.length_set]; omega) | (simp [*] <;> fail) | assumption) [-Bool.decide_and, -Bool.decide_or, -Bool.not_and, -Bool.not_or, toNat_pred, toNat_succ, wrap64, wr_new, wr_new0, ok_if, ok_ifn, iadV_sl, makeV_int, decT, decF, over_at, *]) | (with_reducible refine Gd_split (fun hc => ?_) (fun hc => ?_) <;> (have hc2 := hc; try simp at hc2)) | (with_reducible refine Br_split (fun hc => ?_) (fun hc => ?_) <;> (have hc2 := hc; try simp at hc2)) | (with_reducible refine GdT_split (fun hc => ?_) (fun hc => ?_) <;> (have hc2 := hc; try simp at hc2)) | (with_reducible refine WT_alt ?_ ?_) | omega)
        exact ⟨by omega, q, rfl, _, hN3, hSd, hlen2, hp2⟩
    · have hd1 : -(d : Int) < 0 := by omega
      have hd2 : (0 : Int) < d := by omega
      by_cases hi0 : i = 0
      · subst hi0
        repeat' (first | (simp (disch := first | omega | assumption | (simp only [List.length_set]; omega) | (simp [*] <;> fail) | assumption) [-Bool.decide_and, -Bool.decide_or, -Bool.not_and, -Bool.not_or, toNat_pred, toNat_succ, wrap64, wr_new, wr_new0, ok_if, ok_ifn, iadV_sl, makeV_int, decT, decF, over_at, *, leavesAll, fillL]) | (with_reducible refine Gd_split (fun hc => ?_) (fun hc => ?_) <;> (have hc2 := hc; try simp at hc2)) | (with_reducible refine Br_split (fun hc => ?_) (fun hc => ?_) <;> (have hc2 := hc; try simp at hc2)) | (with_reducible refine GdT_split (fun hc => ?_) (fun hc => ?_) <;> (have hc2 := hc; try simp at hc2)) | (with_reducible refine WT_alt ?_ ?_) | omega)
        refine oc_app (new := out.map ub) zl (Nat.le_refl _) hsrc2 hrow (by simp; omega) (fun o2 g2 hN2 hB => ?_)
        have hN3 := fin o2 g2 hN2
        clear hN2 hB zl fin hrow hsrc2 hl
        repeat' (first | (simp (disch := first | omega | assumption | (simp only [List.length_set]; omega) | (simp [*] <;> fail) | assumption) [-Bool.decide_and, -Bool.decide_or, -Bool.not_and, -Bool.not_or, toNat_pred, toNat_succ, wrap64, wr_new, wr_new0, ok_if, ok_ifn, iadV_sl, makeV_int, decT, decF, over_at, *]) | (with_reducible refine Gd_split (fun hc => ?_) (fun hc => ?_) <;> (have hc2 := hc; try simp at hc2)) | (with_reducible refine Br_split (fun hc => ?_) (fun hc => ?_) <;> (have hc2 := hc; try simp at hc2)) | (with_reducible refine GdT_split (fun hc => ?_) (fun hc => ?_) <;> (have hc2 := hc; try simp at hc2)) | (with_reducible refine WT_alt ?_ ?_) | omega)
        exact ⟨q, rfl, _, hN3, hSd, hlen2, by simpa using hp2⟩
      · have hi1 : ¬ (i : Int) = 0 := by omega
        have hrn : ¬ (r : Int) = 0 := by omega
        have hrn2 : ¬ -(r : Int) = 0 := by omega
        repeat' (first | (simp (disch := first | omega | assumption | (simp only [List.length_set]; omega) | (simp [*] <;> fail) | assumption) [-Bool.decide_and, -Bool.decide_or, -Bool.not_and, -Bool.not_or, toNat_pred, toNat_succ, wrap64, wr_new, wr_new0, ok_if, ok_ifn, iadV_sl, makeV_int, decT, decF, over_at, *, leavesAll, fillL]) | (with_reducible refine Gd_split (fun hc => ?_) (fun hc => ?_) <;> (have hc2 := hc; try simp at hc2)) | (with_reducible refine Br_split (fun hc => ?_) (fun hc => ?_) <;> (have hc2 := hc; try simp at hc2)) | (with_reducible refine GdT_split (fun hc => ?_) (fun hc => ?_) <;> (have hc2 := hc; try simp at hc2)) | (with_reducible refine WT_alt ?_ ?_) | omega)
        refine oc_app (new := out.map ub) zl (Nat.le_refl _) hsrc2 hrow (by simp; omega) (fun o2 g2 hN2 hB => ?_)
        have hN3 := fin o2 g2 hN2
        clear hN2 hB zl fin hrow hsrc2 hl
        repeat' (first | (simp (disch := first | omega | assumption | (simp only [List.length_set]; omega) | (simp [*] <;> fail) | assumption) [-Bool.decide_and, -Bool.decide_or, -Bool.not_and, -Bool.not_or, toNat_pred, toNat_succ, wrap64, wr_new, wr_new0, ok_if, ok_ifn, iadV_sl, makeV_int, decT, decF, over_at, *]) | (with_reducible refine Gd_split (fun hc => ?_) (fun hc => ?_) <;> (have hc2 := hc; try simp at hc2)) | (with_reducible refine Br_split (fun hc => ?_) (fun hc => ?_) <;> (have hc2 := hc; try simp at hc2)) | (with_reducible refine GdT_split (fun hc => ?_) (fun hc => ?_) <;> (have hc2 := hc; try simp at hc2)) | (with_reducible refine WT_alt ?_ ?_) | omega)
        exact ⟨by omega, q, rfl, _, hN3, hSd, hlen2, hp2⟩
  · have hr0 : r = 0 := by omega
    have hi0 : ¬ (i : Int) = 0 := by omega
    have hout : out = Lib.decDigits n := by
      unfold DecI at hD
      rw [hD, if_pos ⟨hr0, by intro q; rw [q] at hlen; simp at hlen; omega⟩]; rfl
    subst hr0
    have hneg : -(n : Int) < 0 := by omega
    have hneg2 : (0 : Int) < n := by omega
    have hsrc := hN.src
    have hrow := fun i r hi => (hN.arr.row i r hi).1
    have kN := hN.kept
    have zl : New h (g ++ [⟨[.int .u8 45], .own 5 1⟩]) (.sl g.length 0 1 1) 5 1 [[.int .u8 45]] := by
      have hS : Sl (g ++ [(⟨[.int .u8 45], .own 5 1⟩ : Ob)]) g.length 5 1 [[.int .u8 45]] := ⟨by rw [List.getElem?_append_right (Nat.le_refl _)]; simp, fun i r hi => by
        have hm := List.mem_of_getElem? hi
        simp at hm; subst hm; rfl⟩
      exact New.of_sl kN.more hS kN.1 (by simp)
    have hsrc2 := src_kept (Kept.app g [(⟨[.int .u8 45], .own 5 1⟩ : Ob)]) hsrc
    have hol : out.length ≤ 20 := by omega
    clear hD hp hN hsrc kN
    repeat' (first | (simp (disch := first | omega | assumption | (simp only [List.length_set]; omega) | (simp [*] <;> fail) | assumption) [-Bool.decide_and, -Bool.decide_or, -Bool.not_and, -Bool.not_or, toNat_pred, toNat_succ, wrap64, wr_new, wr_new0, ok_if, ok_ifn, iadV_sl, makeV_int, decT, decF, over_at, *, leavesAll, fillL]) | (with_reducible refine Gd_split (fun hc => ?_) (fun hc => ?_) <;> (have hc2 := hc; try simp at hc2)) | (with_reducible refine Br_split (fun hc => ?_) (fun hc => ?_) <;> (have hc2 := hc; try simp at hc2)) | (with_reducible refine GdT_split (fun hc => ?_) (fun hc => ?_) <;> (have hc2 := hc; try simp at hc2)) | (with_reducible refine WT_alt ?_ ?_) | omega)
    refine oc_app (new := out.map ub) zl (Nat.le_refl _) hsrc2 hrow (by simp; omega) (fun o2 g2 hN2 hB => ?_)
    have hN3 : New h g2 o2 5 1 ((45 :: out).map ub) := hN2
    have ht := tostr_of hN3
    rw [hout] at ht
    clear hN2 hN3 hB zl hrow hsrc2 hl hout
    repeat' (first | (simp (disch := first | omega | assumption | (simp only [List.length_set]; omega) | (simp [*] <;> fail) | assumption) [-Bool.decide_and, -Bool.decide_or, -Bool.not_and, -Bool.not_or, toNat_pred, toNat_succ, wrap64, wr_new, wr_new0, ok_if, ok_ifn, iadV_sl, makeV_int, decT, decF, over_at, *]) | (with_reducible refine Gd_split (fun hc => ?_) (fun hc => ?_) <;> (have hc2 := hc; try simp at hc2)) | (with_reducible refine Br_split (fun hc => ?_) (fun hc => ?_) <;> (have hc2 := hc; try simp at hc2)) | (with_reducible refine GdT_split (fun hc => ?_) (fun hc => ?_) <;> (have hc2 := hc; try simp at hc2)) | (with_reducible refine WT_alt ?_ ?_) | omega)
theorem c_l01DecI {n : Int} (hn : inVal n) : CallT S true 32 [.lf (.int .i64 n)] h lim K = K (.lf (.str ⟨(Lib.itoa n).toArray⟩)) h := by
  obtain ⟨h1, h2⟩ := hn
  by_cases h0 : n < 0
  · obtain ⟨m, rfl⟩ : ∃ m : Nat, n = -(m : Int) := ⟨n.natAbs, by omega⟩
    rw [Lib.itoa_neg m (by omega)]
    exact c_l01DecN (by omega) (by omega)
  · obtain ⟨m, rfl⟩ : ∃ m : Nat, n = (m : Int) := ⟨n.toNat, by omega⟩
    rw [Lib.itoa_nonneg m]
    exact c_l01Dec (by omega) (by omega)
end
section
variable [HasUf S] {s : List UInt8}
theorem digV_take {i : Nat} (hi : i < s.length) : digV 0 (s.take (i + 1)) = if isDig s[i] then 10 * digV 0 (s.take i) + (s[i].toNat - 48) else digV 0 (s.take i) := by
  rw [List.take_succ_eq_append_getElem hi, digV_app]; rfl
set_option maxHeartbeats 2000000 in
theorem c_l01Value : CallT S true 19 [.lf (.str ⟨s.toArray⟩)] h lim K = K (.tup [.lf (.int .i64 (decN s)), .lf (.bool (decide (isDec s)))]) h := by
  have hlen := tlen (l := s)
  by_cases hok : 1 ≤ s.length ∧ s.length ≤ 17
  · obtain ⟨h1, h17⟩ := hok
    have hp1 : ¬ (s.length : Int) < 1 := by omega
    have hp2 : ¬ (17 : Int) < (s.length : Int) := by omega
    have hat0 := tat (l := s) (i := 0) (k := .i64) h1
    have e00 : ((0 : Nat) : Int) = 0 := rfl
    rw [e00] at hat0
    have hV : valI s = if s[0] = 45 then -(digV 0 s : Int) else (digV 0 s : Int) := by
      unfold valI
      have : s.head? = some s[0] := by rw [List.head?_eq_getElem?, List.getElem?_eq_getElem h1]
      rw [this]
      by_cases q : s[0] = 45
      · rw [if_pos q, if_pos (by rw [q])]
      · rw [if_neg q, if_neg (by simpa using q)]
    have hdl : digV 0 s < 100000000000000000 := by
      have := digV_lt s 0 0 (by decide)
      have h2 : 10 ^ (0 + s.length) ≤ 10 ^ 17 := Nat.pow_le_pow_right (by omega) (by omega)
      omega
    have hc0 : s[0].toNat < 256 := UInt8.toNat_lt _
    have h45 : s[0] = 45 ↔ (s[0].toNat : Int) = 45 := by
      rw [← UInt8.toNat_inj]
      show s[0].toNat = 45 ↔ _
      omega
    obtain ⟨c0, hc0e⟩ : ∃ c0, Hid (s[0].toNat = c0) := ⟨s[0].toNat, rfl⟩
    rw [show s[0].toNat = c0 from hc0e] at hat0 hc0 h45
    obtain ⟨D, hD⟩ : ∃ D, Hid (digV 0 s = D) := ⟨_, rfl⟩
    rw [show digV 0 s = D from hD] at hdl hV
    refine CallT_pure (F := L19) (HasUf.f19) rfl (by first | rfl | (split <;> rfl) | simp) ?_; unfold L19; dsimp only []
    repeat' (first | (simp (disch := first | omega | assumption | (simp only [List.length_set]; omega) | (simp [*] <;> fail) | assumption) [-Bool.decide_and, -Bool.decide_or, -Bool.not_and, -Bool.not_or, toNat_pred, toNat_succ, wrap64, wr_new, wr_new0, ok_if, ok_ifn, iadV_sl, makeV_int, decT, decF, over_at, *]) | (with_reducible refine Gd_split (fun hc => ?_) (fun hc => ?_) <;> (have hc2 := hc; try simp at hc2)) | (with_reducible refine Br_split (fun hc => ?_) (fun hc => ?_) <;> (have hc2 := hc; try simp at hc2)) | (with_reducible refine GdT_split (fun hc => ?_) (fun hc => ?_) <;> (have hc2 := hc; try simp at hc2)) | (with_reducible refine WT_alt ?_ ?_) | omega)
    refine WL_forM 274877890608 (by decide +kernel) (s.length) (fun i b g => i ≤ s.length ∧ b 5 = .lf (.int .i64 i) ∧ b 4 = .lf (.int .i64 ((digV 0 (s.take i) : Nat) : Int)) ∧ h = g) (fun i _ _ hi => hi.1) ⟨by omega, by simp, by simp [digV], rfl⟩ ?_
    rintro i b g ⟨hi, e5, e4, rfl⟩
    by_cases hlt : i < s.length
    · have hat := tat (l := s) (k := .i64) hlt
      have hcl : s[i].toNat < 256 := UInt8.toNat_lt _
      have hlt2 : (i : Int) < (s.length : Int) := by omega
      have hnb : digV 0 (s.take i) < 10000000000000000 := by
        have := digV_lt (s.take i) 0 0 (by decide)
        have h2 : 10 ^ (0 + (s.take i).length) ≤ 10 ^ 16 := Nat.pow_le_pow_right (by omega) (by rw [List.length_take]; omega)
        omega
      have hst := digV_take hlt
      obtain ⟨nx, hnx⟩ : ∃ nx, Hid (digV 0 (s.take (i + 1)) = nx) := ⟨_, rfl⟩
      rw [show digV 0 (s.take (i + 1)) = nx from hnx] at hst
      have hg : isDig s[i] = (decide (48 ≤ s[i].toNat) && decide (s[i].toNat ≤ 57)) := rfl
      rw [hg] at hst
      clear hg hat0 hV h45
      generalize s[i].toNat = c at *
      generalize digV 0 (s.take i) = n at *
      by_cases hd : 48 ≤ c ∧ c ≤ 57
      · have hst2 : ((nx : Nat) : Int) = 10 * (n : Int) + ((c : Int) - 48) := by
          rw [hst, decide_eq_true hd.1, decide_eq_true hd.2]; simp; omega
        have hw : IntKind.u8.wrap ((c : Int) - 48) = (c : Int) - 48 := by rw [IntKind.wrap_u8]; omega
        have d1 : (48 : Int) ≤ c := by omega
        have d2 : (c : Int) ≤ 57 := by omega
        have hS : Hid (((nx : Nat) : Int) = 10 * (n : Int) + ((c : Int) - 48)) := hst2
        clear hst hst2 hd
        repeat' (first | (simp (disch := first | omega | assumption | (simp only [List.length_set]; omega) | (simp [*] <;> fail) | assumption) [-Bool.decide_and, -Bool.decide_or, -Bool.not_and, -Bool.not_or, toNat_pred, toNat_succ, wrap64, wr_new, wr_new0, ok_if, ok_ifn, iadV_sl, makeV_int, decT, decF, over_at, *, u8to64]) | (with_reducible refine Gd_split (fun hc => ?_) (fun hc => ?_) <;> (have hc2 := hc; try simp at hc2)) | (with_reducible refine Br_split (fun hc => ?_) (fun hc => ?_) <;> (have hc2 := hc; try simp at hc2)) | (with_reducible refine GdT_split (fun hc => ?_) (fun hc => ?_) <;> (have hc2 := hc; try simp at hc2)) | (with_reducible refine WT_alt ?_ ?_) | omega)
        exact ⟨by omega, by rw [show digV 0 (s.take (i + 1)) = nx from hnx, show ((nx : Nat) : Int) = _ from hS]⟩
      · have hst2 : nx = n := by
          rw [hst, if_neg]
          intro q
          simp only [Bool.and_eq_true, decide_eq_true_eq] at q
          exact hd q
        clear hst
        by_cases d1 : (48 : Int) ≤ c
        · have d2 : ¬ (c : Int) ≤ 57 := by omega
          repeat' (first | (simp (disch := first | omega | assumption | (simp only [List.length_set]; omega) | (simp [*] <;> fail) | assumption) [-Bool.decide_and, -Bool.decide_or, -Bool.not_and, -Bool.not_or, toNat_pred, toNat_succ, wrap64, wr_new, wr_new0, ok_if, ok_ifn, iadV_sl, makeV_int, decT, decF, over_at, *]) | (with_reducible refine Gd_split (fun hc => ?_) (fun hc => ?_) <;> (have hc2 := hc; try simp at hc2)) | (with_reducible refine Br_split (fun hc => ?_) (fun hc => ?_) <;> (have hc2 := hc; try simp at hc2)) | (with_reducible refine GdT_split (fun hc => ?_) (fun hc => ?_) <;> (have hc2 := hc; try simp at hc2)) | (with_reducible refine WT_alt ?_ ?_) | omega)
          exact ⟨by omega, by rw [show digV 0 (s.take (i + 1)) = nx from hnx, hst2]⟩
        · repeat' (first | (simp (disch := first | omega | assumption | (simp only [List.length_set]; omega) | (simp [*] <;> fail) | assumption) [-Bool.decide_and, -Bool.decide_or, -Bool.not_and, -Bool.not_or, toNat_pred, toNat_succ, wrap64, wr_new, wr_new0, ok_if, ok_ifn, iadV_sl, makeV_int, decT, decF, over_at, *]) | (with_reducible refine Gd_split (fun hc => ?_) (fun hc => ?_) <;> (have hc2 := hc; try simp at hc2)) | (with_reducible refine Br_split (fun hc => ?_) (fun hc => ?_) <;> (have hc2 := hc; try simp at hc2)) | (with_reducible refine GdT_split (fun hc => ?_) (fun hc => ?_) <;> (have hc2 := hc; try simp at hc2)) | (with_reducible refine WT_alt ?_ ?_) | omega)
          exact ⟨by omega, by rw [show digV 0 (s.take (i + 1)) = nx from hnx, hst2]⟩
    · have : i = s.length := by omega
      subst this
      rw [List.take_length, show digV 0 s = D from hD] at e4
      have hVI : valI s = if (c0 : Int) = 45 then -(D : Int) else (D : Int) := by
        rw [hV]
        by_cases q : s[0] = 45
        · rw [if_pos q, if_pos (h45.1 q)]
        · rw [if_neg q, if_neg (fun w => q (h45.2 w))]
      obtain ⟨V, hVe⟩ : ∃ V, Hid (valI s = V) := ⟨_, rfl⟩
      rw [show valI s = V from hVe] at hVI
      have hisD : isDec s ↔ inVal V ∧ Lib.itoa V = s := by unfold isDec; rw [show valI s = V from hVe]
      have hdN : decN s = if isDec s then V else 0 := by unfold decN; rw [show valI s = V from hVe]
      have hdec := fun (q : inVal V) h lim K => c_l01DecI (S := S) (h := h) (lim := lim) (K := K) q
      have htn := tneq (x := Lib.itoa V) (y := s)
      clear hV h45 hlt
      have hVb : (-100000000000000000 ≤ V ∧ V ≤ 100000000000000000) := by
        rw [hVI]; split <;> omega
      by_cases hin : inVal V
      · have hin2 := hin
        obtain ⟨i1, i2⟩ := hin2
        replace hdec := hdec hin
        by_cases heq : Lib.itoa V = s
        · have hY : isDec s := hisD.2 ⟨hin, heq⟩
          rw [if_pos hY] at hdN
          rw [decide_eq_true hY, hdN]
          rw [decide_eq_true heq] at htn
          clear hisD hdN hY hin heq
          by_cases hc : (c0 : Int) = 45
          · rw [if_pos hc] at hVI
            subst hVI
            repeat' (first | (simp (disch := first | omega | assumption | (simp only [List.length_set]; omega) | (simp [*] <;> fail) | assumption) [-Bool.decide_and, -Bool.decide_or, -Bool.not_and, -Bool.not_or, toNat_pred, toNat_succ, wrap64, wr_new, wr_new0, ok_if, ok_ifn, iadV_sl, makeV_int, decT, decF, over_at, *]) | (with_reducible refine Gd_split (fun hc => ?_) (fun hc => ?_) <;> (have hc2 := hc; try simp at hc2)) | (with_reducible refine Br_split (fun hc => ?_) (fun hc => ?_) <;> (have hc2 := hc; try simp at hc2)) | (with_reducible refine GdT_split (fun hc => ?_) (fun hc => ?_) <;> (have hc2 := hc; try simp at hc2)) | (with_reducible refine WT_alt ?_ ?_) | omega)
          · rw [if_neg hc] at hVI
            subst hVI
            repeat' (first | (simp (disch := first | omega | assumption | (simp only [List.length_set]; omega) | (simp [*] <;> fail) | assumption) [-Bool.decide_and, -Bool.decide_or, -Bool.not_and, -Bool.not_or, toNat_pred, toNat_succ, wrap64, wr_new, wr_new0, ok_if, ok_ifn, iadV_sl, makeV_int, decT, decF, over_at, *]) | (with_reducible refine Gd_split (fun hc => ?_) (fun hc => ?_) <;> (have hc2 := hc; try simp at hc2)) | (with_reducible refine Br_split (fun hc => ?_) (fun hc => ?_) <;> (have hc2 := hc; try simp at hc2)) | (with_reducible refine GdT_split (fun hc => ?_) (fun hc => ?_) <;> (have hc2 := hc; try simp at hc2)) | (with_reducible refine WT_alt ?_ ?_) | omega)
        · have hY : ¬ isDec s := fun q => heq (hisD.1 q).2
          rw [if_neg hY] at hdN
          rw [decide_eq_false hY, hdN]
          rw [decide_eq_false heq] at htn
          clear hisD hdN hY hin heq
          by_cases hc : (c0 : Int) = 45
          · rw [if_pos hc] at hVI
            subst hVI
            repeat' (first | (simp (disch := first | omega | assumption | (simp only [List.length_set]; omega) | (simp [*] <;> fail) | assumption) [-Bool.decide_and, -Bool.decide_or, -Bool.not_and, -Bool.not_or, toNat_pred, toNat_succ, wrap64, wr_new, wr_new0, ok_if, ok_ifn, iadV_sl, makeV_int, decT, decF, over_at, *]) | (with_reducible refine Gd_split (fun hc => ?_) (fun hc => ?_) <;> (have hc2 := hc; try simp at hc2)) | (with_reducible refine Br_split (fun hc => ?_) (fun hc => ?_) <;> (have hc2 := hc; try simp at hc2)) | (with_reducible refine GdT_split (fun hc => ?_) (fun hc => ?_) <;> (have hc2 := hc; try simp at hc2)) | (with_reducible refine WT_alt ?_ ?_) | omega)
          · rw [if_neg hc] at hVI
            subst hVI
            repeat' (first | (simp (disch := first | omega | assumption | (simp only [List.length_set]; omega) | (simp [*] <;> fail) | assumption) [-Bool.decide_and, -Bool.decide_or, -Bool.not_and, -Bool.not_or, toNat_pred, toNat_succ, wrap64, wr_new, wr_new0, ok_if, ok_ifn, iadV_sl, makeV_int, decT, decF, over_at, *]) | (with_reducible refine Gd_split (fun hc => ?_) (fun hc => ?_) <;> (have hc2 := hc; try simp at hc2)) | (with_reducible refine Br_split (fun hc => ?_) (fun hc => ?_) <;> (have hc2 := hc; try simp at hc2)) | (with_reducible refine GdT_split (fun hc => ?_) (fun hc => ?_) <;> (have hc2 := hc; try simp at hc2)) | (with_reducible refine WT_alt ?_ ?_) | omega)
      · have hY : ¬ isDec s := fun q => hin (hisD.1 q).1
        rw [if_neg hY] at hdN
        rw [decide_eq_false hY, hdN]
        have hin2 : ¬ (-1000000000000000 ≤ V ∧ V ≤ 1000000000000000) := hin
        clear hisD hdN hY hin hdec htn
        by_cases hc : (c0 : Int) = 45
        · rw [if_pos hc] at hVI
          subst hVI
          repeat' (first | (simp (disch := first | omega | assumption | (simp only [List.length_set]; omega) | (simp [*] <;> fail) | assumption) [-Bool.decide_and, -Bool.decide_or, -Bool.not_and, -Bool.not_or, toNat_pred, toNat_succ, wrap64, wr_new, wr_new0, ok_if, ok_ifn, iadV_sl, makeV_int, decT, decF, over_at, *]) | (with_reducible refine Gd_split (fun hc => ?_) (fun hc => ?_) <;> (have hc2 := hc; try simp at hc2)) | (with_reducible refine Br_split (fun hc => ?_) (fun hc => ?_) <;> (have hc2 := hc; try simp at hc2)) | (with_reducible refine GdT_split (fun hc => ?_) (fun hc => ?_) <;> (have hc2 := hc; try simp at hc2)) | (with_reducible refine WT_alt ?_ ?_) | omega)
        · rw [if_neg hc] at hVI
          subst hVI
          repeat' (first | (simp (disch := first | omega | assumption | (simp only [List.length_set]; omega) | (simp [*] <;> fail) | assumption) [-Bool.decide_and, -Bool.decide_or, -Bool.not_and, -Bool.not_or, toNat_pred, toNat_succ, wrap64, wr_new, wr_new0, ok_if, ok_ifn, iadV_sl, makeV_int, decT, decF, over_at, *]) | (with_reducible refine Gd_split (fun hc => ?_) (fun hc => ?_) <;> (have hc2 := hc; try simp at hc2)) | (with_reducible refine Br_split (fun hc => ?_) (fun hc => ?_) <;> (have hc2 := hc; try simp at hc2)) | (with_reducible refine GdT_split (fun hc => ?_) (fun hc => ?_) <;> (have hc2 := hc; try simp at hc2)) | (with_reducible refine WT_alt ?_ ?_) | omega)
  · have hY : ¬ isDec s := fun q => by
      have := itoa_len17 q.1
      rw [q.2] at this
      exact hok this
    have hdN : decN s = 0 := by unfold decN; rw [if_neg hY]
    rw [decide_eq_false hY, hdN]
    clear hY hdN
    by_cases h1 : (s.length : Int) < 1
    · refine CallT_pure (F := L19) (HasUf.f19) rfl (by first | rfl | (split <;> rfl) | simp) ?_; unfold L19; dsimp only []
      repeat' (first | (simp (disch := first | omega | assumption | (simp only [List.length_set]; omega) | (simp [*] <;> fail) | assumption) [-Bool.decide_and, -Bool.decide_or, -Bool.not_and, -Bool.not_or, toNat_pred, toNat_succ, wrap64, wr_new, wr_new0, ok_if, ok_ifn, iadV_sl, makeV_int, decT, decF, over_at, *]) | (with_reducible refine Gd_split (fun hc => ?_) (fun hc => ?_) <;> (have hc2 := hc; try simp at hc2)) | (with_reducible refine Br_split (fun hc => ?_) (fun hc => ?_) <;> (have hc2 := hc; try simp at hc2)) | (with_reducible refine GdT_split (fun hc => ?_) (fun hc => ?_) <;> (have hc2 := hc; try simp at hc2)) | (with_reducible refine WT_alt ?_ ?_) | omega)
    · have h2 : (17 : Int) < (s.length : Int) := by omega
      refine CallT_pure (F := L19) (HasUf.f19) rfl (by first | rfl | (split <;> rfl) | simp) ?_; unfold L19; dsimp only []
      repeat' (first | (simp (disch := first | omega | assumption | (simp only [List.length_set]; omega) | (simp [*] <;> fail) | assumption) [-Bool.decide_and, -Bool.decide_or, -Bool.not_and, -Bool.not_or, toNat_pred, toNat_succ, wrap64, wr_new, wr_new0, ok_if, ok_ifn, iadV_sl, makeV_int, decT, decF, over_at, *]) | (with_reducible refine Gd_split (fun hc => ?_) (fun hc => ?_) <;> (have hc2 := hc; try simp at hc2)) | (with_reducible refine Br_split (fun hc => ?_) (fun hc => ?_) <;> (have hc2 := hc; try simp at hc2)) | (with_reducible refine GdT_split (fun hc => ?_) (fun hc => ?_) <;> (have hc2 := hc; try simp at hc2)) | (with_reducible refine WT_alt ?_ ?_) | omega)
end
end
end Go.E
