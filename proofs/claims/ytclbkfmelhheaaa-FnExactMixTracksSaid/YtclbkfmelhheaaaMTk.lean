/- Tracks. -/
import Derived.Test.YtclbkfmelhheaaaMDe
import Derived.Test.YtclbkfmelhheaaaMP
set_option linter.unusedVariables false
set_option linter.unusedSimpArgs false
namespace Go.E
open Go
def L103 : LFn := ⟨1, (.seq (.reg [⟨(.some 2), (.mv (.c (.lf (.bool false)))), none⟩])
 (.seq (.seq (.reg [⟨(.some 4), (.mv (.t 0)), none⟩, ⟨(.some 5), (.len (.t 4)), none⟩, ⟨(.some 6), (.mv (.c (.lf (.int .i64 0)))), none⟩])
 (.block 0 (.loop (.seq (.reg [⟨(.some 7), (.bin .lss (.t 6) (.t 5)), none⟩])
 (.seq (.cond (.t 7) .skip (.exit 0))
 (.seq (.block 1 (.seq (.reg [⟨(.some 8), (.mv (.t 6)), none⟩, ⟨(.some 3), (.mv (.t 8)), none⟩])
 (.seq (.reg [⟨(.some 9), (.mv (.t 0)), none⟩, ⟨(.some 10), (.mv (.t 3)), none⟩, ⟨(.some 11), (.iaddr 5 (.t 9) (.t 10)), none⟩, ⟨(.some 12), (.faddr 0 (.t 11)), none⟩, ⟨(.some 13), (.load false 1 (.t 12)), none⟩, ⟨(.some 14), (.call true 113 [(.t 13)]), none⟩, ⟨(.some 15), (.una .not (.t 14)), none⟩, ⟨(.some 16), (.mv (.t 15)), none⟩, ⟨(.some 17), (.mv (.t 0)), (.some (16, false))⟩, ⟨(.some 18), (.mv (.t 3)), (.some (16, false))⟩, ⟨(.some 19), (.iaddr 5 (.t 17) (.t 18)), (.some (16, false))⟩, ⟨(.some 20), (.faddr 1 (.t 19)), (.some (16, false))⟩, ⟨(.some 21), (.load false 1 (.t 20)), (.some (16, false))⟩, ⟨(.some 22), (.call true 85 [(.t 21), (.c (.lf (.int .i64 (-2000)))), (.c (.lf (.int .i64 2000)))]), (.some (16, false))⟩, ⟨(.some 23), (.una .not (.t 22)), (.some (16, false))⟩, ⟨(.some 24), (.pick (.t 16) (.c (.lf (.bool true))) (.t 23)), none⟩, ⟨(.some 25), (.mv (.t 24)), none⟩, ⟨(.some 26), (.mv (.t 0)), (.some (25, false))⟩, ⟨(.some 27), (.mv (.t 3)), (.some (25, false))⟩, ⟨(.some 28), (.iaddr 5 (.t 26) (.t 27)), (.some (25, false))⟩, ⟨(.some 29), (.faddr 2 (.t 28)), (.some (25, false))⟩, ⟨(.some 30), (.load false 1 (.t 29)), (.some (25, false))⟩, ⟨(.some 31), (.call true 163 [(.t 30)]), (.some (25, false))⟩, ⟨(.some 32), (.una .not (.t 31)), (.some (25, false))⟩, ⟨(.some 33), (.pick (.t 25) (.c (.lf (.bool true))) (.t 32)), none⟩])
 (.cond (.t 33) (.seq (.reg [⟨(.some 2), (.mv (.c (.lf (.bool false)))), none⟩])
 .ret) .skip))))
 (.reg [⟨(.some 34), (.bin .add (.t 6) (.c (.lf (.int .i64 1)))), none⟩, ⟨(.some 6), (.mv (.t 34)), none⟩])))))))
 (.seq (.reg [⟨(.some 35), (.mv (.t 0)), none⟩, ⟨(.some 36), (.len (.t 35)), none⟩, ⟨(.some 37), (.bin .leq (.t 36) (.c (.lf (.int .i64 8)))), none⟩, ⟨(.some 2), (.mv (.t 37)), none⟩])
 .ret))), [(.tmp 2)]⟩
def L163 : LFn := ⟨1, (.seq (.reg [⟨(.some 2), (.mv (.c (.lf (.bool false)))), none⟩])
 (.seq (.reg [⟨(.some 3), (.mv (.t 0)), none⟩, ⟨(.some 4), (.bin .geq (.t 3) (.c (.lf (.flt .f32 0)))), none⟩, ⟨(.some 5), (.mv (.t 4)), none⟩, ⟨(.some 6), (.mv (.t 0)), (.some (5, true))⟩, ⟨(.some 7), (.bin .leq (.t 6) (.c (.lf (.flt .f32 1065353216)))), (.some (5, true))⟩, ⟨(.some 8), (.pick (.t 5) (.t 7) (.c (.lf (.bool false)))), none⟩, ⟨(.some 2), (.mv (.t 8)), none⟩])
 .ret)), [(.tmp 2)]⟩
def L77 : LFn := ⟨1, (.seq (.reg [⟨(.some 2), (.mv (.c (.lf (.bool false)))), none⟩])
 (.seq (.reg [⟨(.some 3), (.mv (.t 0)), none⟩, ⟨(.some 4), (.bin .geq (.t 3) (.c (.lf (.flt .f32 0)))), none⟩, ⟨(.some 5), (.mv (.t 4)), none⟩, ⟨(.some 6), (.mv (.t 0)), (.some (5, true))⟩, ⟨(.some 7), (.bin .leq (.t 6) (.c (.lf (.flt .f32 1065353216)))), (.some (5, true))⟩, ⟨(.some 8), (.pick (.t 5) (.t 7) (.c (.lf (.bool false)))), none⟩, ⟨(.some 2), (.mv (.t 8)), none⟩])
 .ret)), [(.tmp 2)]⟩
def L76 : LFn := ⟨1, (.seq (.reg [⟨(.some 2), (.mv (.c (.lf (.bool false)))), none⟩])
 (.seq (.reg [⟨(.some 3), (.mv (.t 0)), none⟩, ⟨(.some 4), (.call true 91 [(.t 3), (.c (.lf (.int .i64 (-2000)))), (.c (.lf (.int .i64 2000)))]), none⟩, ⟨(.some 2), (.mv (.t 4)), none⟩])
 .ret)), [(.tmp 2)]⟩
def L106 : LFn := ⟨1, (.seq (.reg [⟨(.some 2), (.mv (.c (.lf (.bool false)))), none⟩])
 (.seq (.seq (.reg [⟨(.some 5), (.mv (.t 0)), none⟩, ⟨(.some 6), (.len (.t 5)), none⟩, ⟨(.some 7), (.bin .gtr (.t 6) (.c (.lf (.int .i64 8)))), none⟩])
 (.cond (.t 7) (.seq (.reg [⟨(.some 2), (.mv (.c (.lf (.bool false)))), none⟩])
 .ret) .skip))
 (.seq (.seq (.reg [⟨(.some 8), (.mv (.t 0)), none⟩, ⟨(.some 9), (.len (.t 8)), none⟩, ⟨(.some 10), (.mv (.c (.lf (.int .i64 0)))), none⟩])
 (.block 0 (.loop (.seq (.reg [⟨(.some 11), (.bin .lss (.t 10) (.t 9)), none⟩])
 (.seq (.cond (.t 11) .skip (.exit 0))
 (.seq (.block 1 (.seq (.reg [⟨(.some 12), (.iaddr 5 (.t 8) (.t 10)), none⟩, ⟨(.some 13), (.load true 5 (.t 12)), none⟩, ⟨(.some 4), (.alloc 151 [.nils, (.int .i64 0), (.flt .f32 0), (.bool false), (.bool false)]), none⟩, ⟨none, (.store 5 (.t 4) (.t 13)), none⟩])
 (.seq (.reg [⟨(.some 14), (.faddr 0 (.t 4)), none⟩, ⟨(.some 15), (.load false 1 (.t 14)), none⟩, ⟨(.some 16), (.call true 79 [(.t 15)]), none⟩, ⟨(.some 17), (.una .not (.t 16)), none⟩, ⟨(.some 18), (.mv (.t 17)), none⟩, ⟨(.some 19), (.faddr 1 (.t 4)), (.some (18, false))⟩, ⟨(.some 20), (.load false 1 (.t 19)), (.some (18, false))⟩, ⟨(.some 21), (.call true 76 [(.t 20)]), (.some (18, false))⟩, ⟨(.some 22), (.una .not (.t 21)), (.some (18, false))⟩, ⟨(.some 23), (.pick (.t 18) (.c (.lf (.bool true))) (.t 22)), none⟩, ⟨(.some 24), (.mv (.t 23)), none⟩, ⟨(.some 25), (.faddr 2 (.t 4)), (.some (24, false))⟩, ⟨(.some 26), (.load false 1 (.t 25)), (.some (24, false))⟩, ⟨(.some 27), (.call true 77 [(.t 26)]), (.some (24, false))⟩, ⟨(.some 28), (.una .not (.t 27)), (.some (24, false))⟩, ⟨(.some 29), (.pick (.t 24) (.c (.lf (.bool true))) (.t 28)), none⟩])
 (.cond (.t 29) (.seq (.reg [⟨(.some 2), (.mv (.c (.lf (.bool false)))), none⟩])
 .ret) .skip))))
 (.reg [⟨(.some 30), (.bin .add (.t 10) (.c (.lf (.int .i64 1)))), none⟩, ⟨(.some 10), (.mv (.t 30)), none⟩])))))))
 (.seq (.reg [⟨(.some 2), (.mv (.c (.lf (.bool true)))), none⟩])
 .ret)))), [(.tmp 2)]⟩
class HasTk (S : Sys) : Prop extends HasA S, HasP S where
  f103 : S.fs 103 = some L103
  f163 : S.fs 163 = some L163
  f77 : S.fs 77 = some L77
  f76 : S.fs 76 = some L76
  f106 : S.fs 106 = some L106
def panB (x : Nat) : Bool := fcmp .geq .f32 x 0 && fcmp .leq .f32 x 1065353216
def trkOk (t : Trk) : Prop := t.xs.length ≤ 256 ∧ (-2000 ≤ t.tenths ∧ t.tenths ≤ 2000) ∧ panB t.pan = true
def areTrk (ts : List Trk) : Prop := ts.length ≤ 8 ∧ ∀ t ∈ ts, trkOk t
noncomputable instance (ts : List Trk) : Decidable (areTrk ts) := Classical.propDecidable _
theorem not_areTrk {ps : List (Trk × Lf)} {i : Nat} (hi : i < ps.length) (h1 : ¬ trkOk ps[i].1) : ¬ areTrk (ps.map (·.1)) := fun h => upto.not hi h1 h.2
theorem all_areTrk {ps : List (Trk × Lf)} (hn : ps.length ≤ 8) (h1 : upto trkOk ps ps.length) : areTrk (ps.map (·.1)) := ⟨by simpa using hn, h1.all⟩
theorem long_areTrk {ps : List (Trk × Lf)} (hn : ¬ ps.length ≤ 8) : ¬ areTrk (ps.map (·.1)) := fun h => hn (by simpa using h.1)
section
variable {S : Sys} {lim : Nat} {h : Hp} {K : CV → Hp → Prop} [HasTk S] {l : Lf} {ps : List (Trk × Lf)}
@[simp] theorem c_l07Pan {x : Nat} : CallT S true 163 [.lf (.flt .f32 x)] h lim K = K (.lf (.bool (panB x))) h := by
  unfold panB
  refine CallT_pure (F := L163) (HasTk.f163) rfl (by first | rfl | (split <;> rfl) | simp) ?_; unfold L163; dsimp only []
  repeat' (first | (simp (disch := first | omega | assumption | (simp only [List.length_set]; omega) | (simp [*] <;> fail) | assumption) [-Bool.decide_and, -Bool.decide_or, -Bool.not_and, -Bool.not_or, toNat_pred, toNat_succ, wrap64, wr_new, wr_new0, ok_if, ok_ifn, iadV_sl, makeV_int, decT, decF, over_at, *]) | (with_reducible refine Gd_split (fun hc => ?_) (fun hc => ?_) <;> (have hc2 := hc; try simp at hc2)) | (with_reducible refine Br_split (fun hc => ?_) (fun hc => ?_) <;> (have hc2 := hc; try simp at hc2)) | (with_reducible refine GdT_split (fun hc => ?_) (fun hc => ?_) <;> (have hc2 := hc; try simp at hc2)) | (with_reducible refine WT_alt ?_ ?_) | omega)
@[simp] theorem c_isPan {x : Nat} : CallT S true 77 [.lf (.flt .f32 x)] h lim K = K (.lf (.bool (panB x))) h := by
  unfold panB
  refine CallT_pure (F := L77) (HasTk.f77) rfl (by first | rfl | (split <;> rfl) | simp) ?_; unfold L77; dsimp only []
  repeat' (first | (simp (disch := first | omega | assumption | (simp only [List.length_set]; omega) | (simp [*] <;> fail) | assumption) [-Bool.decide_and, -Bool.decide_or, -Bool.not_and, -Bool.not_or, toNat_pred, toNat_succ, wrap64, wr_new, wr_new0, ok_if, ok_ifn, iadV_sl, makeV_int, decT, decF, over_at, *]) | (with_reducible refine Gd_split (fun hc => ?_) (fun hc => ?_) <;> (have hc2 := hc; try simp at hc2)) | (with_reducible refine Br_split (fun hc => ?_) (fun hc => ?_) <;> (have hc2 := hc; try simp at hc2)) | (with_reducible refine GdT_split (fun hc => ?_) (fun hc => ?_) <;> (have hc2 := hc; try simp at hc2)) | (with_reducible refine WT_alt ?_ ?_) | omega)
@[simp] theorem c_isTenths {x : Int} : CallT S true 76 [.lf (.int .i64 x)] h lim K = K (.lf (.bool (decide (-2000 ≤ x ∧ x ≤ 2000)))) h := by
  refine CallT_pure (F := L76) (HasTk.f76) rfl (by first | rfl | (split <;> rfl) | simp) ?_; unfold L76; dsimp only []
  repeat' (first | (simp (disch := first | omega | assumption | (simp only [List.length_set]; omega) | (simp [*] <;> fail) | assumption) [-Bool.decide_and, -Bool.decide_or, -Bool.not_and, -Bool.not_or, toNat_pred, toNat_succ, wrap64, wr_new, wr_new0, ok_if, ok_ifn, iadV_sl, makeV_int, decT, decF, over_at, *]) | (with_reducible refine Gd_split (fun hc => ?_) (fun hc => ?_) <;> (have hc2 := hc; try simp at hc2)) | (with_reducible refine Br_split (fun hc => ?_) (fun hc => ?_) <;> (have hc2 := hc; try simp at hc2)) | (with_reducible refine GdT_split (fun hc => ?_) (fun hc => ?_) <;> (have hc2 := hc; try simp at hc2)) | (with_reducible refine WT_alt ?_ ?_) | omega)
set_option maxHeartbeats 1000000 in
theorem c_l07Tracks (hA : Arr h l 5 (ps.map Trk.cells)) (hI : In h Trk.xs ps) : CallT S true 103 [.lf l] h lim K = K (.lf (.bool (decide (areTrk (ps.map (·.1)))))) h := by
  have hb := hA.bound
  refine CallT_pure (F := L103) (HasTk.f103) rfl (by first | rfl | (split <;> rfl) | simp) ?_; unfold L103; dsimp only []
  repeat' (first | (simp (disch := first | omega | assumption | (simp only [List.length_set]; omega) | (simp [*] <;> fail) | assumption) [-Bool.decide_and, -Bool.decide_or, -Bool.not_and, -Bool.not_or, toNat_pred, toNat_succ, wrap64, wr_new, wr_new0, ok_if, ok_ifn, iadV_sl, makeV_int, decT, decF, over_at, *, hA.len, hA.at_, hA.at_', hA.rd, hA.rdIn, hA.rdIn0, hA.rdA, hA.rdInA, hA.rdIn0A]) | (with_reducible refine Gd_split (fun hc => ?_) (fun hc => ?_) <;> (have hc2 := hc; try simp at hc2)) | (with_reducible refine Br_split (fun hc => ?_) (fun hc => ?_) <;> (have hc2 := hc; try simp at hc2)) | (with_reducible refine GdT_split (fun hc => ?_) (fun hc => ?_) <;> (have hc2 := hc; try simp at hc2)) | (with_reducible refine WT_alt ?_ ?_) | omega)
  refine WL_forM 34359738316 (by decide +kernel) (ps.length) (fun i b g => i ≤ ps.length ∧ b 6 = .lf (.int .i64 i) ∧ h = g ∧ upto trkOk ps i) (fun _ _ _ hi => hi.1) ⟨by omega, by simp, rfl, .zero⟩ ?_
  rintro i b g ⟨hi, e6, rfl, hu⟩
  by_cases hlt : i < ps.length
  · have hI1 := hI i hlt
    by_cases k1 : ps[i].1.xs.length ≤ 256
    · by_cases k2 : -2000 ≤ ps[i].1.tenths ∧ ps[i].1.tenths ≤ 2000
      · cases k3 : panB ps[i].1.pan
        · have hno := not_areTrk hlt (fun q => by have := q.2.2; rw [k3] at this; cases this)
          repeat' (first | (simp (disch := first | omega | assumption | (simp only [List.length_set]; omega) | (simp [*] <;> fail) | assumption) [-Bool.decide_and, -Bool.decide_or, -Bool.not_and, -Bool.not_or, toNat_pred, toNat_succ, wrap64, wr_new, wr_new0, ok_if, ok_ifn, iadV_sl, makeV_int, decT, decF, over_at, *, hA.len, hA.at_, hA.at_', hA.rd, hA.rdIn, hA.rdIn0, hA.rdA, hA.rdInA, hA.rdIn0A, Trk.cells, c_l01Few hI1]) | (with_reducible refine Gd_split (fun hc => ?_) (fun hc => ?_) <;> (have hc2 := hc; try simp at hc2)) | (with_reducible refine Br_split (fun hc => ?_) (fun hc => ?_) <;> (have hc2 := hc; try simp at hc2)) | (with_reducible refine GdT_split (fun hc => ?_) (fun hc => ?_) <;> (have hc2 := hc; try simp at hc2)) | (with_reducible refine WT_alt ?_ ?_) | omega)
        · have hok := hu.succ hlt ⟨k1, k2, k3⟩
          repeat' (first | (simp (disch := first | omega | assumption | (simp only [List.length_set]; omega) | (simp [*] <;> fail) | assumption) [-Bool.decide_and, -Bool.decide_or, -Bool.not_and, -Bool.not_or, toNat_pred, toNat_succ, wrap64, wr_new, wr_new0, ok_if, ok_ifn, iadV_sl, makeV_int, decT, decF, over_at, *, hA.len, hA.at_, hA.at_', hA.rd, hA.rdIn, hA.rdIn0, hA.rdA, hA.rdInA, hA.rdIn0A, Trk.cells, c_l01Few hI1]) | (with_reducible refine Gd_split (fun hc => ?_) (fun hc => ?_) <;> (have hc2 := hc; try simp at hc2)) | (with_reducible refine Br_split (fun hc => ?_) (fun hc => ?_) <;> (have hc2 := hc; try simp at hc2)) | (with_reducible refine GdT_split (fun hc => ?_) (fun hc => ?_) <;> (have hc2 := hc; try simp at hc2)) | (with_reducible refine WT_alt ?_ ?_) | omega)
      · have hno := not_areTrk hlt (fun q => k2 q.2.1)
        repeat' (first | (simp (disch := first | omega | assumption | (simp only [List.length_set]; omega) | (simp [*] <;> fail) | assumption) [-Bool.decide_and, -Bool.decide_or, -Bool.not_and, -Bool.not_or, toNat_pred, toNat_succ, wrap64, wr_new, wr_new0, ok_if, ok_ifn, iadV_sl, makeV_int, decT, decF, over_at, *, hA.len, hA.at_, hA.at_', hA.rd, hA.rdIn, hA.rdIn0, hA.rdA, hA.rdInA, hA.rdIn0A, Trk.cells, c_l01Few hI1]) | (with_reducible refine Gd_split (fun hc => ?_) (fun hc => ?_) <;> (have hc2 := hc; try simp at hc2)) | (with_reducible refine Br_split (fun hc => ?_) (fun hc => ?_) <;> (have hc2 := hc; try simp at hc2)) | (with_reducible refine GdT_split (fun hc => ?_) (fun hc => ?_) <;> (have hc2 := hc; try simp at hc2)) | (with_reducible refine WT_alt ?_ ?_) | omega)
    · have hno := not_areTrk hlt (fun q => k1 q.1)
      repeat' (first | (simp (disch := first | omega | assumption | (simp only [List.length_set]; omega) | (simp [*] <;> fail) | assumption) [-Bool.decide_and, -Bool.decide_or, -Bool.not_and, -Bool.not_or, toNat_pred, toNat_succ, wrap64, wr_new, wr_new0, ok_if, ok_ifn, iadV_sl, makeV_int, decT, decF, over_at, *, hA.len, hA.at_, hA.at_', hA.rd, hA.rdIn, hA.rdIn0, hA.rdA, hA.rdInA, hA.rdIn0A, Trk.cells, c_l01Few hI1]) | (with_reducible refine Gd_split (fun hc => ?_) (fun hc => ?_) <;> (have hc2 := hc; try simp at hc2)) | (with_reducible refine Br_split (fun hc => ?_) (fun hc => ?_) <;> (have hc2 := hc; try simp at hc2)) | (with_reducible refine GdT_split (fun hc => ?_) (fun hc => ?_) <;> (have hc2 := hc; try simp at hc2)) | (with_reducible refine WT_alt ?_ ?_) | omega)
  · have : i = ps.length := by omega
    subst this
    by_cases hn : ps.length ≤ 8
    · have hyes := all_areTrk hn hu
      have hn2 : (ps.length : Int) ≤ 8 := by omega
      repeat' (first | (simp (disch := first | omega | assumption | (simp only [List.length_set]; omega) | (simp [*] <;> fail) | assumption) [-Bool.decide_and, -Bool.decide_or, -Bool.not_and, -Bool.not_or, toNat_pred, toNat_succ, wrap64, wr_new, wr_new0, ok_if, ok_ifn, iadV_sl, makeV_int, decT, decF, over_at, *, hA.len, hA.at_, hA.at_', hA.rd, hA.rdIn, hA.rdIn0, hA.rdA, hA.rdInA, hA.rdIn0A]) | (with_reducible refine Gd_split (fun hc => ?_) (fun hc => ?_) <;> (have hc2 := hc; try simp at hc2)) | (with_reducible refine Br_split (fun hc => ?_) (fun hc => ?_) <;> (have hc2 := hc; try simp at hc2)) | (with_reducible refine GdT_split (fun hc => ?_) (fun hc => ?_) <;> (have hc2 := hc; try simp at hc2)) | (with_reducible refine WT_alt ?_ ?_) | omega)
    · have hno := long_areTrk hn
      have hn2 : ¬ (ps.length : Int) ≤ 8 := by omega
      repeat' (first | (simp (disch := first | omega | assumption | (simp only [List.length_set]; omega) | (simp [*] <;> fail) | assumption) [-Bool.decide_and, -Bool.decide_or, -Bool.not_and, -Bool.not_or, toNat_pred, toNat_succ, wrap64, wr_new, wr_new0, ok_if, ok_ifn, iadV_sl, makeV_int, decT, decF, over_at, *, hA.len, hA.at_, hA.at_', hA.rd, hA.rdIn, hA.rdIn0, hA.rdA, hA.rdInA, hA.rdIn0A]) | (with_reducible refine Gd_split (fun hc => ?_) (fun hc => ?_) <;> (have hc2 := hc; try simp at hc2)) | (with_reducible refine Br_split (fun hc => ?_) (fun hc => ?_) <;> (have hc2 := hc; try simp at hc2)) | (with_reducible refine GdT_split (fun hc => ?_) (fun hc => ?_) <;> (have hc2 := hc; try simp at hc2)) | (with_reducible refine WT_alt ?_ ?_) | omega)
set_option maxHeartbeats 1000000 in
theorem c_implAreTracks (hA : Arr h l 5 (ps.map Trk.cells)) (hI : In h Trk.xs ps) : CallT S true 106 [.lf l] h lim K = K (.lf (.bool (decide (areTrk (ps.map (·.1)))))) h := by
  have hb := hA.bound
  by_cases hn : ps.length ≤ 8
  · have hn2 : ¬ (8 : Int) < ps.length := by omega
    refine CallT_pure (F := L106) (HasTk.f106) rfl (by first | rfl | (split <;> rfl) | simp) ?_; unfold L106; dsimp only []
    repeat' (first | (simp (disch := first | omega | assumption | (simp only [List.length_set]; omega) | (simp [*] <;> fail) | assumption) [-Bool.decide_and, -Bool.decide_or, -Bool.not_and, -Bool.not_or, toNat_pred, toNat_succ, wrap64, wr_new, wr_new0, ok_if, ok_ifn, iadV_sl, makeV_int, decT, decF, over_at, *, hA.len, hA.at_, hA.at_', hA.rd, hA.rdIn, hA.rdIn0, hA.rdA, hA.rdInA, hA.rdIn0A]) | (with_reducible refine Gd_split (fun hc => ?_) (fun hc => ?_) <;> (have hc2 := hc; try simp at hc2)) | (with_reducible refine Br_split (fun hc => ?_) (fun hc => ?_) <;> (have hc2 := hc; try simp at hc2)) | (with_reducible refine GdT_split (fun hc => ?_) (fun hc => ?_) <;> (have hc2 := hc; try simp at hc2)) | (with_reducible refine WT_alt ?_ ?_) | omega)
    refine WL_forM 2147482644 (by decide +kernel) (ps.length) (fun i b g => i ≤ ps.length ∧ b 10 = .lf (.int .i64 i) ∧ Kept h g ∧ upto trkOk ps i) (fun _ _ _ hi => hi.1) ⟨by omega, by simp, Kept.refl _, .zero⟩ ?_
    rintro i b g ⟨hi, e6, hk, hu⟩
    replace hA := hA.kept hk
    replace hI := hI.kept hk
    have hg := hk.1
    by_cases hlt : i < ps.length
    · have hI1 := hI i hlt
      by_cases k1 : ps[i].1.xs.length ≤ 256
      · by_cases k2 : -2000 ≤ ps[i].1.tenths ∧ ps[i].1.tenths ≤ 2000
        · cases k3 : panB ps[i].1.pan
          · have hno := not_areTrk hlt (fun q => by have := q.2.2; rw [k3] at this; cases this)
            repeat' (first | (simp (disch := first | omega | assumption | (simp only [List.length_set]; omega) | (simp [*] <;> fail) | assumption) [-Bool.decide_and, -Bool.decide_or, -Bool.not_and, -Bool.not_or, toNat_pred, toNat_succ, wrap64, wr_new, wr_new0, ok_if, ok_ifn, iadV_sl, makeV_int, decT, decF, over_at, *, hA.len, hA.at_, hA.at_', hA.rd, hA.rdIn, hA.rdIn0, hA.rdA, hA.rdInA, hA.rdIn0A, Trk.cells, c_areSamples hI1.app]) | (with_reducible refine Gd_split (fun hc => ?_) (fun hc => ?_) <;> (have hc2 := hc; try simp at hc2)) | (with_reducible refine Br_split (fun hc => ?_) (fun hc => ?_) <;> (have hc2 := hc; try simp at hc2)) | (with_reducible refine GdT_split (fun hc => ?_) (fun hc => ?_) <;> (have hc2 := hc; try simp at hc2)) | (with_reducible refine WT_alt ?_ ?_) | omega)
          · have hok := hu.succ hlt ⟨k1, k2, k3⟩
            repeat' (first | (simp (disch := first | omega | assumption | (simp only [List.length_set]; omega) | (simp [*] <;> fail) | assumption) [-Bool.decide_and, -Bool.decide_or, -Bool.not_and, -Bool.not_or, toNat_pred, toNat_succ, wrap64, wr_new, wr_new0, ok_if, ok_ifn, iadV_sl, makeV_int, decT, decF, over_at, *, hA.len, hA.at_, hA.at_', hA.rd, hA.rdIn, hA.rdIn0, hA.rdA, hA.rdInA, hA.rdIn0A, Trk.cells, c_areSamples hI1.app]) | (with_reducible refine Gd_split (fun hc => ?_) (fun hc => ?_) <;> (have hc2 := hc; try simp at hc2)) | (with_reducible refine Br_split (fun hc => ?_) (fun hc => ?_) <;> (have hc2 := hc; try simp at hc2)) | (with_reducible refine GdT_split (fun hc => ?_) (fun hc => ?_) <;> (have hc2 := hc; try simp at hc2)) | (with_reducible refine WT_alt ?_ ?_) | omega)
        · have hno := not_areTrk hlt (fun q => k2 q.2.1)
          repeat' (first | (simp (disch := first | omega | assumption | (simp only [List.length_set]; omega) | (simp [*] <;> fail) | assumption) [-Bool.decide_and, -Bool.decide_or, -Bool.not_and, -Bool.not_or, toNat_pred, toNat_succ, wrap64, wr_new, wr_new0, ok_if, ok_ifn, iadV_sl, makeV_int, decT, decF, over_at, *, hA.len, hA.at_, hA.at_', hA.rd, hA.rdIn, hA.rdIn0, hA.rdA, hA.rdInA, hA.rdIn0A, Trk.cells, c_areSamples hI1.app]) | (with_reducible refine Gd_split (fun hc => ?_) (fun hc => ?_) <;> (have hc2 := hc; try simp at hc2)) | (with_reducible refine Br_split (fun hc => ?_) (fun hc => ?_) <;> (have hc2 := hc; try simp at hc2)) | (with_reducible refine GdT_split (fun hc => ?_) (fun hc => ?_) <;> (have hc2 := hc; try simp at hc2)) | (with_reducible refine WT_alt ?_ ?_) | omega)
      · have hno := not_areTrk hlt (fun q => k1 q.1)
        repeat' (first | (simp (disch := first | omega | assumption | (simp only [List.length_set]; omega) | (simp [*] <;> fail) | assumption) [-Bool.decide_and, -Bool.decide_or, -Bool.not_and, -Bool.not_or, toNat_pred, toNat_succ, wrap64, wr_new, wr_new0, ok_if, ok_ifn, iadV_sl, makeV_int, decT, decF, over_at, *, hA.len, hA.at_, hA.at_', hA.rd, hA.rdIn, hA.rdIn0, hA.rdA, hA.rdInA, hA.rdIn0A, Trk.cells, c_areSamples hI1.app]) | (with_reducible refine Gd_split (fun hc => ?_) (fun hc => ?_) <;> (have hc2 := hc; try simp at hc2)) | (with_reducible refine Br_split (fun hc => ?_) (fun hc => ?_) <;> (have hc2 := hc; try simp at hc2)) | (with_reducible refine GdT_split (fun hc => ?_) (fun hc => ?_) <;> (have hc2 := hc; try simp at hc2)) | (with_reducible refine WT_alt ?_ ?_) | omega)
    · have : i = ps.length := by omega
      subst this
      have hyes := all_areTrk hn hu
      repeat' (first | (simp (disch := first | omega | assumption | (simp only [List.length_set]; omega) | (simp [*] <;> fail) | assumption) [-Bool.decide_and, -Bool.decide_or, -Bool.not_and, -Bool.not_or, toNat_pred, toNat_succ, wrap64, wr_new, wr_new0, ok_if, ok_ifn, iadV_sl, makeV_int, decT, decF, over_at, *, hA.len, hA.at_, hA.at_', hA.rd, hA.rdIn, hA.rdIn0, hA.rdA, hA.rdInA, hA.rdIn0A]) | (with_reducible refine Gd_split (fun hc => ?_) (fun hc => ?_) <;> (have hc2 := hc; try simp at hc2)) | (with_reducible refine Br_split (fun hc => ?_) (fun hc => ?_) <;> (have hc2 := hc; try simp at hc2)) | (with_reducible refine GdT_split (fun hc => ?_) (fun hc => ?_) <;> (have hc2 := hc; try simp at hc2)) | (with_reducible refine WT_alt ?_ ?_) | omega)
  · have hno := long_areTrk hn
    have hn2 : (8 : Int) < ps.length := by omega
    refine CallT_pure (F := L106) (HasTk.f106) rfl (by first | rfl | (split <;> rfl) | simp) ?_; unfold L106; dsimp only []
    repeat' (first | (simp (disch := first | omega | assumption | (simp only [List.length_set]; omega) | (simp [*] <;> fail) | assumption) [-Bool.decide_and, -Bool.decide_or, -Bool.not_and, -Bool.not_or, toNat_pred, toNat_succ, wrap64, wr_new, wr_new0, ok_if, ok_ifn, iadV_sl, makeV_int, decT, decF, over_at, *, hA.len, hA.at_, hA.at_', hA.rd, hA.rdIn, hA.rdIn0, hA.rdA, hA.rdInA, hA.rdIn0A]) | (with_reducible refine Gd_split (fun hc => ?_) (fun hc => ?_) <;> (have hc2 := hc; try simp at hc2)) | (with_reducible refine Br_split (fun hc => ?_) (fun hc => ?_) <;> (have hc2 := hc; try simp at hc2)) | (with_reducible refine GdT_split (fun hc => ?_) (fun hc => ?_) <;> (have hc2 := hc; try simp at hc2)) | (with_reducible refine WT_alt ?_ ?_) | omega)
end
end Go.E
