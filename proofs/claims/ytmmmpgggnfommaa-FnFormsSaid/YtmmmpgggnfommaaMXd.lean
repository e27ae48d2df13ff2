/- Filters with numbers in halves and whole samples that are drawn; a filter that is scaled. -/
import Derived.Test.YtmmmpgggnfommaaMXg
import Derived.Test.YtmmmpgggnfommaaMDr
import Derived.Test.YtmmmpgggnfommaaMD
set_option linter.unusedVariables false
set_option linter.unusedSimpArgs false
namespace Go.E
open Go
def L5 : LFn := ⟨1, (.seq (.reg [⟨(.some 2), (.alloc 26 [(.flt .f32 0), (.flt .f32 0), (.flt .f32 0), (.flt .f32 0), (.flt .f32 0)]), none⟩])
 (.seq (.reg [⟨(.some 5), (.mv (.t 0)), none⟩, ⟨(.some 6), (.call false 9 [(.t 5)]), none⟩, ⟨(.some 3), (.mv (.t 6)), none⟩])
 (.seq (.reg [⟨(.some 7), (.mv (.t 3)), none⟩, ⟨(.some 8), (.call false 10 [(.t 7), (.c (.lf (.int .i64 5)))]), none⟩, ⟨(.some 9), (.bin .sub (.t 8) (.c (.lf (.int .i64 2)))), none⟩, ⟨(.some 10), (.toflt .f32 (.t 9)), none⟩, ⟨(.some 11), (.bin .quo (.t 10) (.c (.lf (.flt .f32 1073741824)))), none⟩, ⟨(.some 12), (.build [(.flt .f32 0), (.flt .f32 0), (.flt .f32 0), (.flt .f32 0), (.flt .f32 0)] [(0, (1, (.t 11)))]), none⟩, ⟨(.some 4), (.alloc 26 [(.flt .f32 0), (.flt .f32 0), (.flt .f32 0), (.flt .f32 0), (.flt .f32 0)]), none⟩, ⟨none, (.store 5 (.t 4) (.t 12)), none⟩])
 (.seq (.reg [⟨(.some 13), (.mv (.t 3)), none⟩, ⟨(.some 14), (.call false 10 [(.t 13), (.c (.lf (.int .i64 5)))]), none⟩, ⟨(.some 15), (.bin .sub (.t 14) (.c (.lf (.int .i64 2)))), none⟩, ⟨(.some 16), (.toflt .f32 (.t 15)), none⟩, ⟨(.some 17), (.bin .quo (.t 16) (.c (.lf (.flt .f32 1073741824)))), none⟩, ⟨(.some 18), (.faddr 1 (.t 4)), none⟩, ⟨none, (.store 1 (.t 18) (.t 17)), none⟩])
 (.seq (.reg [⟨(.some 19), (.mv (.t 3)), none⟩, ⟨(.some 20), (.call false 10 [(.t 19), (.c (.lf (.int .i64 5)))]), none⟩, ⟨(.some 21), (.bin .sub (.t 20) (.c (.lf (.int .i64 2)))), none⟩, ⟨(.some 22), (.toflt .f32 (.t 21)), none⟩, ⟨(.some 23), (.bin .quo (.t 22) (.c (.lf (.flt .f32 1073741824)))), none⟩, ⟨(.some 24), (.faddr 2 (.t 4)), none⟩, ⟨none, (.store 1 (.t 24) (.t 23)), none⟩])
 (.seq (.reg [⟨(.some 25), (.mv (.t 3)), none⟩, ⟨(.some 26), (.call false 10 [(.t 25), (.c (.lf (.int .i64 5)))]), none⟩, ⟨(.some 27), (.bin .sub (.t 26) (.c (.lf (.int .i64 2)))), none⟩, ⟨(.some 28), (.toflt .f32 (.t 27)), none⟩, ⟨(.some 29), (.bin .quo (.t 28) (.c (.lf (.flt .f32 1073741824)))), none⟩, ⟨(.some 30), (.faddr 3 (.t 4)), none⟩, ⟨none, (.store 1 (.t 30) (.t 29)), none⟩])
 (.seq (.reg [⟨(.some 31), (.mv (.t 3)), none⟩, ⟨(.some 32), (.call false 10 [(.t 31), (.c (.lf (.int .i64 5)))]), none⟩, ⟨(.some 33), (.bin .sub (.t 32) (.c (.lf (.int .i64 2)))), none⟩, ⟨(.some 34), (.toflt .f32 (.t 33)), none⟩, ⟨(.some 35), (.bin .quo (.t 34) (.c (.lf (.flt .f32 1073741824)))), none⟩, ⟨(.some 36), (.faddr 4 (.t 4)), none⟩, ⟨none, (.store 1 (.t 36) (.t 35)), none⟩])
 (.seq (.reg [⟨(.some 37), (.load true 5 (.t 4)), none⟩, ⟨none, (.store 5 (.t 2) (.t 37)), none⟩])
 .ret)))))))), [(.cell 2 true 5)]⟩
def L6 : LFn := ⟨3, (.seq (.reg [⟨(.some 6), (.mv (.c (.lf .nils))), none⟩])
 (.seq (.reg [⟨(.some 10), (.mv (.t 0)), none⟩, ⟨(.some 11), (.call false 9 [(.t 10)]), none⟩, ⟨(.some 7), (.mv (.t 11)), none⟩])
 (.seq (.reg [⟨(.some 12), (.lit 24 1 0 [] []), none⟩, ⟨(.some 8), (.mv (.t 12)), none⟩])
 (.seq (.seq (.reg [⟨(.some 9), (.mv (.c (.lf (.int .i64 0)))), none⟩])
 (.block 0 (.loop (.seq (.seq (.reg [⟨(.some 13), (.mv (.t 9)), none⟩, ⟨(.some 14), (.mv (.t 1)), none⟩, ⟨(.some 15), (.bin .lss (.t 13) (.t 14)), none⟩])
 (.cond (.t 15) .skip (.exit 0)))
 (.seq (.block 1 (.reg [⟨(.some 18), (.mv (.t 8)), none⟩, ⟨(.some 19), (.mv (.t 7)), none⟩, ⟨(.some 20), (.mv (.t 2)), none⟩, ⟨(.some 21), (.bin .mul (.c (.lf (.int .i64 2))) (.t 20)), none⟩, ⟨(.some 22), (.bin .add (.t 21) (.c (.lf (.int .i64 1)))), none⟩, ⟨(.some 23), (.call false 10 [(.t 19), (.t 22)]), none⟩, ⟨(.some 24), (.mv (.t 2)), none⟩, ⟨(.some 25), (.bin .sub (.t 23) (.t 24)), none⟩, ⟨(.some 26), (.toflt .f32 (.t 25)), none⟩, ⟨(.some 27), (.lit 24 1 1 [(.flt .f32 0)] [(0, (1, (.t 26)))]), none⟩, ⟨(.some 28), (.app 24 1 4 (.t 18) (.t 27)), none⟩, ⟨(.some 8), (.mv (.t 28)), none⟩]))
 (.reg [⟨(.some 16), (.mv (.t 9)), none⟩, ⟨(.some 17), (.bin .add (.t 16) (.c (.lf (.int .i64 1)))), none⟩, ⟨(.some 9), (.mv (.t 17)), none⟩]))))))
 (.seq (.reg [⟨(.some 29), (.mv (.t 8)), none⟩, ⟨(.some 6), (.mv (.t 29)), none⟩])
 .ret))))), [(.tmp 6)]⟩
def L4 : LFn := ⟨2, (.seq (.reg [⟨(.some 4), (.mv (.c (.lf (.bool false)))), none⟩])
 (.seq (.reg [⟨(.some 5), (.mv (.t 0)), none⟩, ⟨(.some 6), (.len (.t 5)), none⟩, ⟨(.some 7), (.bin .gtr (.t 6) (.c (.lf (.int .i64 48)))), none⟩, ⟨(.some 8), (.mv (.t 7)), none⟩, ⟨(.some 9), (.mv (.t 1)), (.some (8, false))⟩, ⟨(.some 10), (.len (.t 9)), (.some (8, false))⟩, ⟨(.some 11), (.bin .gtr (.t 10) (.c (.lf (.int .i64 48)))), (.some (8, false))⟩, ⟨(.some 12), (.pick (.t 8) (.c (.lf (.bool true))) (.t 11)), none⟩, ⟨(.some 4), (.mv (.t 12)), none⟩])
 .ret)), [(.tmp 4)]⟩
def L8 : LFn := ⟨2, (.seq (.reg [⟨(.some 2), (.box 26 (.t 0)), none⟩, ⟨(.some 4), (.alloc 26 [(.flt .f32 0), (.flt .f32 0), (.flt .f32 0), (.flt .f32 0), (.flt .f32 0)]), none⟩])
 (.seq (.reg [⟨(.some 5), (.faddr 0 (.t 2)), none⟩, ⟨(.some 6), (.load false 1 (.t 5)), none⟩, ⟨(.some 7), (.mv (.t 1)), none⟩, ⟨(.some 8), (.bin .mul (.t 6) (.t 7)), none⟩, ⟨(.some 9), (.faddr 1 (.t 2)), none⟩, ⟨(.some 10), (.load false 1 (.t 9)), none⟩, ⟨(.some 11), (.mv (.t 1)), none⟩, ⟨(.some 12), (.bin .mul (.t 10) (.t 11)), none⟩, ⟨(.some 13), (.faddr 2 (.t 2)), none⟩, ⟨(.some 14), (.load false 1 (.t 13)), none⟩, ⟨(.some 15), (.mv (.t 1)), none⟩, ⟨(.some 16), (.bin .mul (.t 14) (.t 15)), none⟩, ⟨(.some 17), (.faddr 3 (.t 2)), none⟩, ⟨(.some 18), (.load false 1 (.t 17)), none⟩, ⟨(.some 19), (.faddr 4 (.t 2)), none⟩, ⟨(.some 20), (.load false 1 (.t 19)), none⟩, ⟨(.some 21), (.build [(.flt .f32 0), (.flt .f32 0), (.flt .f32 0), (.flt .f32 0), (.flt .f32 0)] [(0, (1, (.t 8))), (1, (1, (.t 12))), (2, (1, (.t 16))), (3, (1, (.t 18))), (4, (1, (.t 20)))]), none⟩, ⟨none, (.store 5 (.t 4) (.t 21)), none⟩])
 .ret)), [(.cell 4 true 5)]⟩
class HasXd (S : Sys) : Prop extends HasDr S where
  f5 : S.fs 5 = some L5
  f6 : S.fs 6 = some L6
  f4 : S.fs 4 = some L4
  f8 : S.fs 8 = some L8
/-- A filter in halves that is not yet doubled. -/
structure Hvh (f : Fil) (B : Hv) : Prop where
  b0 : Ds f.b0 B.b0 1
  b1 : Ds f.b1 B.b1 1
  b2 : Ds f.b2 B.b2 1
  a1 : Ds f.a1 B.a1 1
  a2 : Ds f.a2 B.a2 1
  c0 : B.b0.natAbs ≤ 2
  c1 : B.b1.natAbs ≤ 2
  c2 : B.b2.natAbs ≤ 2
  d1 : B.a1.natAbs ≤ 2
  d2 : B.a2.natAbs ≤ 2
def Fil.by (f : Fil) (k : Nat) : Fil := ⟨mu f.b0 k, mu f.b1 k, mu f.b2 k, f.a1, f.a2⟩
theorem Hvh.toHvs {f : Fil} {B : Hv} (h : Hvh f B) : Hvs f B := by
  obtain ⟨h0, h1, h2, h3, h4, k0, k1, k2, k3, k4⟩ := h
  exact ⟨h0, h1, h2, h3, h4, by omega, by omega, by omega, by omega, by omega⟩
theorem Hvh.dbl {f : Fil} {B : Hv} (h : Hvh f B) : Hvs (f.by 1073741824) B.dbl := by
  obtain ⟨h0, h1, h2, h3, h4, k0, k1, k2, k3, k4⟩ := h
  have q : ∀ {x : Nat} {k : Int}, Ds x k 1 → k.natAbs ≤ 2 → Ds (mu x 1073741824) (2 * k) 1 := fun {x k} hx hk => by
    have := Dy32.mul hx two_Ds (by omega) (by omega)
    rwa [Int.mul_comm] at this
  refine ⟨q h0 k0, q h1 k1, q h2 k2, h3, h4, ?_, ?_, ?_, k3, k4⟩
  · show (2 * B.b0).natAbs ≤ 4; omega
  · show (2 * B.b1).natAbs ≤ 4; omega
  · show (2 * B.b2).natAbs ≤ 4; omega
theorem Hvh.of {v0 v1 v2 v3 v4 : Int} (h0 : 0 ≤ v0 ∧ v0 < 5) (h1 : 0 ≤ v1 ∧ v1 < 5) (h2 : 0 ≤ v2 ∧ v2 < 5) (h3 : 0 ≤ v3 ∧ v3 < 5) (h4 : 0 ≤ v4 ∧ v4 < 5) : Hvh ⟨halfN v0, halfN v1, halfN v2, halfN v3, halfN v4⟩ ⟨v0 - 2, v1 - 2, v2 - 2, v3 - 2, v4 - 2⟩ :=
  ⟨half_Ds h0, half_Ds h1, half_Ds h2, half_Ds h3, half_Ds h4, by simp only; omega, by simp only; omega, by simp only; omega, by simp only; omega, by simp only; omega⟩
def wholeN (v : Int) : Nat := fofint .f32 (v - 8)
theorem Smp.of {ks : List Int} (hl : ks.length = 6) (hk : ∀ k ∈ ks, 0 ≤ k ∧ k < 17) : Smp (ks.map wholeN) (fun i => ks.getD i 8 - 8) := by
  refine ⟨by simp [hl], fun i => ?_, fun i h => ?_⟩
  · rcases Nat.lt_or_ge i ks.length with q | q
    · have := hk _ (List.getElem_mem q)
      have e : ks.getD i 8 = ks[i] := by simp [q]
      simp only [e]; omega
    · have e : ks.getD i 8 = 8 := by simp [q]
      simp only [e]; omega
  · have q : i < ks.length := by simpa using h
    have e : ks.getD i 8 = ks[i] := by simp [q]
    simp only [e, List.getElem_map]
    exact whole_Ds (hk _ (List.getElem_mem q))
section
variable {S : Sys} {lim : Nat} {h : Hp} {K : CV → Hp → Prop} [HasXd S] {l l2 : Lf} {cs : List Int}
theorem c_r8Long {ds : List Int} (hA : Arr h l 1 (cs.map ul)) (hB : Arr h l2 1 (ds.map ul)) : CallT S true 4 [.lf l, .lf l2] h lim K = K (.lf (.bool (decide (48 < (cs.length : Int)) || decide (48 < (ds.length : Int))))) h := by
  by_cases h1 : (48 : Int) < cs.length
  · rw [decide_eq_true h1, Bool.true_or]
    refine CallT_pure (F := L4) (HasXd.f4) rfl (by first | rfl | (split <;> rfl) | simp) ?_; unfold L4; dsimp only []
    repeat' (first | (simp (disch := first | omega | assumption | (simp only [List.length_set]; omega) | (simp [*] <;> fail) | assumption) [-Bool.decide_and, -Bool.decide_or, -Bool.not_and, -Bool.not_or, toNat_pred, toNat_succ, wrap64, wr_new, wr_new0, ok_if, ok_ifn, iadV_sl, makeV_int, decT, decF, over_at, *, hA.len, hB.len]) | (with_reducible refine Gd_split (fun hc => ?_) (fun hc => ?_) <;> (have hc2 := hc; try simp at hc2)) | (with_reducible refine Br_split (fun hc => ?_) (fun hc => ?_) <;> (have hc2 := hc; try simp at hc2)) | (with_reducible refine GdT_split (fun hc => ?_) (fun hc => ?_) <;> (have hc2 := hc; try simp at hc2)) | (with_reducible refine WT_alt ?_ ?_) | omega)
  · rw [decide_eq_false h1, Bool.false_or]
    refine CallT_pure (F := L4) (HasXd.f4) rfl (by first | rfl | (split <;> rfl) | simp) ?_; unfold L4; dsimp only []
    repeat' (first | (simp (disch := first | omega | assumption | (simp only [List.length_set]; omega) | (simp [*] <;> fail) | assumption) [-Bool.decide_and, -Bool.decide_or, -Bool.not_and, -Bool.not_or, toNat_pred, toNat_succ, wrap64, wr_new, wr_new0, ok_if, ok_ifn, iadV_sl, makeV_int, decT, decF, over_at, *, hA.len, hB.len]) | (with_reducible refine Gd_split (fun hc => ?_) (fun hc => ?_) <;> (have hc2 := hc; try simp at hc2)) | (with_reducible refine Br_split (fun hc => ?_) (fun hc => ?_) <;> (have hc2 := hc; try simp at hc2)) | (with_reducible refine GdT_split (fun hc => ?_) (fun hc => ?_) <;> (have hc2 := hc; try simp at hc2)) | (with_reducible refine WT_alt ?_ ?_) | omega)
theorem c_ScaleFilter {f : Fil} {k : Nat} : CallT S true 8 [.agg f.cells, .lf (.flt .f32 k)] h lim K = K (.agg (f.by k).cells) h := by
  refine CallT_pure (F := L8) (HasXd.f8) rfl (by first | rfl | (split <;> rfl) | simp) ?_; unfold L8; dsimp only []
  repeat' (first | (simp (disch := first | omega | assumption | (simp only [List.length_set]; omega) | (simp [*] <;> fail) | assumption) [-Bool.decide_and, -Bool.decide_or, -Bool.not_and, -Bool.not_or, toNat_pred, toNat_succ, wrap64, wr_new, wr_new0, ok_if, ok_ifn, iadV_sl, makeV_int, decT, decF, over_at, *, Fil.cells, Fil.by, leavesAll, fillL]) | (with_reducible refine Gd_split (fun hc => ?_) (fun hc => ?_) <;> (have hc2 := hc; try simp at hc2)) | (with_reducible refine Br_split (fun hc => ?_) (fun hc => ?_) <;> (have hc2 := hc; try simp at hc2)) | (with_reducible refine GdT_split (fun hc => ?_) (fun hc => ?_) <;> (have hc2 := hc; try simp at hc2)) | (with_reducible refine WT_alt ?_ ?_) | omega)
set_option maxHeartbeats 2000000 in
theorem c_R8Halves (hA : Arr h l 1 (cs.map ul)) (hc : ∀ c ∈ cs, 0 ≤ c ∧ c < 256) (hl : lim ≤ h.length)
    (hK : ∀ f B t, Hvh f B → K (.agg f.cells) (h ++ t)) : CallT S false 5 [.lf l] h lim K := by
  have hb := hA.bound
  refine CallT_of_body (F := L5) (HasXd.f5) rfl ?_; unfold L5; dsimp only []
  repeat' (first | (simp (disch := first | omega | assumption | (simp only [List.length_set]; omega) | (simp [*] <;> fail) | assumption) [-Bool.decide_and, -Bool.decide_or, -Bool.not_and, -Bool.not_or, toNat_pred, toNat_succ, wrap64, wr_new, wr_new0, ok_if, ok_ifn, iadV_sl, makeV_int, decT, decF, over_at, *]) | (with_reducible refine Gd_split (fun hc => ?_) (fun hc => ?_) <;> (have hc2 := hc; try simp at hc2)) | (with_reducible refine Br_split (fun hc => ?_) (fun hc => ?_) <;> (have hc2 := hc; try simp at hc2)) | (with_reducible refine GdT_split (fun hc => ?_) (fun hc => ?_) <;> (have hc2 := hc; try simp at hc2)) | (with_reducible refine WT_alt ?_ ?_) | omega)
  refine c_From ?_
  repeat' (first | (simp (disch := first | omega | assumption | (simp only [List.length_set]; omega) | (simp [*] <;> fail) | assumption) [-Bool.decide_and, -Bool.decide_or, -Bool.not_and, -Bool.not_or, toNat_pred, toNat_succ, wrap64, wr_new, wr_new0, ok_if, ok_ifn, iadV_sl, makeV_int, decT, decF, over_at, *]) | (with_reducible refine Gd_split (fun hc => ?_) (fun hc => ?_) <;> (have hc2 := hc; try simp at hc2)) | (with_reducible refine Br_split (fun hc => ?_) (fun hc => ?_) <;> (have hc2 := hc; try simp at hc2)) | (with_reducible refine GdT_split (fun hc => ?_) (fun hc => ?_) <;> (have hc2 := hc; try simp at hc2)) | (with_reducible refine WT_alt ?_ ?_) | omega)
  refine c_pick1 hA hc (by omega) (by omega) hl fun v0 sd0 a1 a2 => ?_
  repeat' (first | (simp (disch := first | omega | assumption | (simp only [List.length_set]; omega) | (simp [*] <;> fail) | assumption) [-Bool.decide_and, -Bool.decide_or, -Bool.not_and, -Bool.not_or, toNat_pred, toNat_succ, wrap64, wr_new, wr_new0, ok_if, ok_ifn, iadV_sl, makeV_int, decT, decF, over_at, *, leavesAll, fillL]) | (with_reducible refine Gd_split (fun hc => ?_) (fun hc => ?_) <;> (have hc2 := hc; try simp at hc2)) | (with_reducible refine Br_split (fun hc => ?_) (fun hc => ?_) <;> (have hc2 := hc; try simp at hc2)) | (with_reducible refine GdT_split (fun hc => ?_) (fun hc => ?_) <;> (have hc2 := hc; try simp at hc2)) | (with_reducible refine WT_alt ?_ ?_) | omega)
  refine c_pick1 hA hc (by omega) (by omega) hl fun v1 sd1 b1 b2 => ?_
  repeat' (first | (simp (disch := first | omega | assumption | (simp only [List.length_set]; omega) | (simp [*] <;> fail) | assumption) [-Bool.decide_and, -Bool.decide_or, -Bool.not_and, -Bool.not_or, toNat_pred, toNat_succ, wrap64, wr_new, wr_new0, ok_if, ok_ifn, iadV_sl, makeV_int, decT, decF, over_at, *]) | (with_reducible refine Gd_split (fun hc => ?_) (fun hc => ?_) <;> (have hc2 := hc; try simp at hc2)) | (with_reducible refine Br_split (fun hc => ?_) (fun hc => ?_) <;> (have hc2 := hc; try simp at hc2)) | (with_reducible refine GdT_split (fun hc => ?_) (fun hc => ?_) <;> (have hc2 := hc; try simp at hc2)) | (with_reducible refine WT_alt ?_ ?_) | omega)
  refine c_pick1 hA hc (by omega) (by omega) hl fun v2 sd2 c1 c2 => ?_
  repeat' (first | (simp (disch := first | omega | assumption | (simp only [List.length_set]; omega) | (simp [*] <;> fail) | assumption) [-Bool.decide_and, -Bool.decide_or, -Bool.not_and, -Bool.not_or, toNat_pred, toNat_succ, wrap64, wr_new, wr_new0, ok_if, ok_ifn, iadV_sl, makeV_int, decT, decF, over_at, *]) | (with_reducible refine Gd_split (fun hc => ?_) (fun hc => ?_) <;> (have hc2 := hc; try simp at hc2)) | (with_reducible refine Br_split (fun hc => ?_) (fun hc => ?_) <;> (have hc2 := hc; try simp at hc2)) | (with_reducible refine GdT_split (fun hc => ?_) (fun hc => ?_) <;> (have hc2 := hc; try simp at hc2)) | (with_reducible refine WT_alt ?_ ?_) | omega)
  refine c_pick1 hA hc (by omega) (by omega) hl fun v3 sd3 d1 d2 => ?_
  repeat' (first | (simp (disch := first | omega | assumption | (simp only [List.length_set]; omega) | (simp [*] <;> fail) | assumption) [-Bool.decide_and, -Bool.decide_or, -Bool.not_and, -Bool.not_or, toNat_pred, toNat_succ, wrap64, wr_new, wr_new0, ok_if, ok_ifn, iadV_sl, makeV_int, decT, decF, over_at, *]) | (with_reducible refine Gd_split (fun hc => ?_) (fun hc => ?_) <;> (have hc2 := hc; try simp at hc2)) | (with_reducible refine Br_split (fun hc => ?_) (fun hc => ?_) <;> (have hc2 := hc; try simp at hc2)) | (with_reducible refine GdT_split (fun hc => ?_) (fun hc => ?_) <;> (have hc2 := hc; try simp at hc2)) | (with_reducible refine WT_alt ?_ ?_) | omega)
  refine c_pick1 hA hc (by omega) (by omega) hl fun v4 sd4 e1 e2 => ?_
  have hk2 := fun t => hK _ _ t (Hvh.of ⟨a1, a2⟩ ⟨b1, b2⟩ ⟨c1, c2⟩ ⟨d1, d2⟩ ⟨e1, e2⟩)
  simp only [Fil.cells, halfN] at hk2
  clear hK
  repeat' (first | (simp (disch := first | omega | assumption | (simp only [List.length_set]; omega) | (simp [*] <;> fail) | assumption) [-Bool.decide_and, -Bool.decide_or, -Bool.not_and, -Bool.not_or, toNat_pred, toNat_succ, wrap64, wr_new, wr_new0, ok_if, ok_ifn, iadV_sl, makeV_int, decT, decF, over_at, *]) | (with_reducible refine Gd_split (fun hc => ?_) (fun hc => ?_) <;> (have hc2 := hc; try simp at hc2)) | (with_reducible refine Br_split (fun hc => ?_) (fun hc => ?_) <;> (have hc2 := hc; try simp at hc2)) | (with_reducible refine GdT_split (fun hc => ?_) (fun hc => ?_) <;> (have hc2 := hc; try simp at hc2)) | (with_reducible refine WT_alt ?_ ?_) | omega)
set_option maxHeartbeats 2000000 in
theorem c_R8Whole (hA : Arr h l 1 (cs.map ul)) (hc : ∀ c ∈ cs, 0 ≤ c ∧ c < 256) (hl : lim ≤ h.length)
    (hK : ∀ o g xs X, New h g o 24 1 (xs.map fl) → Smp xs X → (∀ x ∈ xs, CF x) → K (.lf o) g) : CallT S false 6 [.lf l, .lf (.int .i64 6), .lf (.int .i64 8)] h lim K := by
  have hb := hA.bound
  refine CallT_of_body (F := L6) (HasXd.f6) rfl ?_; unfold L6; dsimp only []
  repeat' (first | (simp (disch := first | omega | assumption | (simp only [List.length_set]; omega) | (simp [*] <;> fail) | assumption) [-Bool.decide_and, -Bool.decide_or, -Bool.not_and, -Bool.not_or, toNat_pred, toNat_succ, wrap64, wr_new, wr_new0, ok_if, ok_ifn, iadV_sl, makeV_int, decT, decF, over_at, *]) | (with_reducible refine Gd_split (fun hc => ?_) (fun hc => ?_) <;> (have hc2 := hc; try simp at hc2)) | (with_reducible refine Br_split (fun hc => ?_) (fun hc => ?_) <;> (have hc2 := hc; try simp at hc2)) | (with_reducible refine GdT_split (fun hc => ?_) (fun hc => ?_) <;> (have hc2 := hc; try simp at hc2)) | (with_reducible refine WT_alt ?_ ?_) | omega)
  refine c_From ?_
  have z0 : ∀ sd, New (h ++ [srcO l 0 sd]) (h ++ [srcO l 0 sd, ⟨[], .own 24 1⟩]) (.sl (h.length + 1) 0 0 1) 24 1 [] := fun sd => by
    have := New.litN (ty := 24) (sz := 1) (Kept.refl (h ++ [srcO l 0 sd]))
    simpa using this
  repeat' (first | (simp (disch := first | omega | assumption | (simp only [List.length_set]; omega) | (simp [*] <;> fail) | assumption) [-Bool.decide_and, -Bool.decide_or, -Bool.not_and, -Bool.not_or, toNat_pred, toNat_succ, wrap64, wr_new, wr_new0, ok_if, ok_ifn, iadV_sl, makeV_int, decT, decF, over_at, *, leavesAll, fillL]) | (with_reducible refine Gd_split (fun hc => ?_) (fun hc => ?_) <;> (have hc2 := hc; try simp at hc2)) | (with_reducible refine Br_split (fun hc => ?_) (fun hc => ?_) <;> (have hc2 := hc; try simp at hc2)) | (with_reducible refine GdT_split (fun hc => ?_) (fun hc => ?_) <;> (have hc2 := hc; try simp at hc2)) | (with_reducible refine WT_alt ?_ ?_) | omega)
  refine WL_forM 536863488 (by decide +kernel) (6) (fun i b g => i ≤ 6 ∧ b 9 = .lf (.int .i64 i) ∧ ∃ (o : Lf) (ks : List Int) (sd : Int) (t : Hp), b 8 = .lf o ∧ g = h ++ srcO l i sd :: t ∧ New (h ++ [srcO l i sd]) (h ++ srcO l i sd :: t) o 24 1 ((ks.map wholeN).map fl) ∧ ks.length = i ∧ ∀ k ∈ ks, 0 ≤ k ∧ k < 17) (fun _ _ _ hi => hi.1) ⟨by omega, by simp, .sl (h.length + 1) 0 0 1, [], 0, [⟨[], .own 24 1⟩], by simp, by simp, by simpa using z0 0, rfl, by simp⟩ ?_
  rintro i b g ⟨hi, e9, o, ks, sd, t, e8, rfl, hN, hkl, hks⟩
  by_cases hlt : i < 6
  · clear hK z0
    repeat' (first | (simp (disch := first | omega | assumption | (simp only [List.length_set]; omega) | (simp [*] <;> fail) | assumption) [-Bool.decide_and, -Bool.decide_or, -Bool.not_and, -Bool.not_or, toNat_pred, toNat_succ, wrap64, wr_new, wr_new0, ok_if, ok_ifn, iadV_sl, makeV_int, decT, decF, over_at, *]) | (with_reducible refine Gd_split (fun hc => ?_) (fun hc => ?_) <;> (have hc2 := hc; try simp at hc2)) | (with_reducible refine Br_split (fun hc => ?_) (fun hc => ?_) <;> (have hc2 := hc; try simp at hc2)) | (with_reducible refine GdT_split (fun hc => ?_) (fun hc => ?_) <;> (have hc2 := hc; try simp at hc2)) | (with_reducible refine WT_alt ?_ ?_) | omega)
    refine c_pick hA hc (by omega) (by omega) hl fun v2 sd2 b1 b2 => ?_
    repeat' (first | (simp (disch := first | omega | assumption | (simp only [List.length_set]; omega) | (simp [*] <;> fail) | assumption) [-Bool.decide_and, -Bool.decide_or, -Bool.not_and, -Bool.not_or, toNat_pred, toNat_succ, wrap64, wr_new, wr_new0, ok_if, ok_ifn, iadV_sl, makeV_int, decT, decF, over_at, *, leavesAll, fillL]) | (with_reducible refine Gd_split (fun hc => ?_) (fun hc => ?_) <;> (have hc2 := hc; try simp at hc2)) | (with_reducible refine Br_split (fun hc => ?_) (fun hc => ?_) <;> (have hc2 := hc; try simp at hc2)) | (with_reducible refine GdT_split (fun hc => ?_) (fun hc => ?_) <;> (have hc2 := hc; try simp at hc2)) | (with_reducible refine WT_alt ?_ ?_) | omega)
    have k3 := Kept.app (h ++ srcO l (i + 1) sd2 :: t) [⟨[.flt .f32 (fofint .f32 (v2 - 8))], .own 24 1⟩]
    simp only [List.append_assoc, List.cons_append] at k3
    have hN3 := (hN.swapK (a' := srcO l (i + 1) sd2)).later k3
    refine oc_pushS hN3 (r := [.flt .f32 (fofint .f32 (v2 - 8))]) (by simp) (by simp; omega) (by simp; omega) (fun o2 g5 hN5 hB5 => ?_) (by decide) (by decide)
    obtain ⟨t5, rfl⟩ := hN5.kept.split
    simp only [List.append_assoc, List.cons_append, List.nil_append] at hN5 ⊢
    have hN6 : New (h ++ [srcO l (i + 1) sd2]) (h ++ srcO l (i + 1) sd2 :: t5) o2 24 1 (((ks ++ [v2]).map wholeN).map fl) := by
      rw [List.map_append, List.map_append]; exact hN5
    have hk6 : ∀ k ∈ ks ++ [v2], 0 ≤ k ∧ k < 17 := fun k hk => by
      rcases List.mem_append.1 hk with hk | hk
      · exact hks k hk
      · rw [List.mem_singleton.1 hk]; exact ⟨b1, b2⟩
    clear hN5 hB5 hN3 hN hks
    repeat' (first | (simp (disch := first | omega | assumption | (simp only [List.length_set]; omega) | (simp [*] <;> fail) | assumption) [-Bool.decide_and, -Bool.decide_or, -Bool.not_and, -Bool.not_or, toNat_pred, toNat_succ, wrap64, wr_new, wr_new0, ok_if, ok_ifn, iadV_sl, makeV_int, decT, decF, over_at, *]) | (with_reducible refine Gd_split (fun hc => ?_) (fun hc => ?_) <;> (have hc2 := hc; try simp at hc2)) | (with_reducible refine Br_split (fun hc => ?_) (fun hc => ?_) <;> (have hc2 := hc; try simp at hc2)) | (with_reducible refine GdT_split (fun hc => ?_) (fun hc => ?_) <;> (have hc2 := hc; try simp at hc2)) | (with_reducible refine WT_alt ?_ ?_) | omega)
    exact ⟨by omega, ks ++ [v2], sd2, t5, ⟨rfl, rfl⟩, by rw [← List.map_map]; exact hN6, by simp; omega, hk6⟩
  · have : i = 6 := by omega
    subst this
    have hk2 := hK o _ _ _ (hN.base (Kept.app h _)) (Smp.of hkl hks) (fun x hx => by obtain ⟨k, _, rfl⟩ := List.mem_map.1 hx; exact CF_int)
    clear hK
    repeat' (first | (simp (disch := first | omega | assumption | (simp only [List.length_set]; omega) | (simp [*] <;> fail) | assumption) [-Bool.decide_and, -Bool.decide_or, -Bool.not_and, -Bool.not_or, toNat_pred, toNat_succ, wrap64, wr_new, wr_new0, ok_if, ok_ifn, iadV_sl, makeV_int, decT, decF, over_at, *]) | (with_reducible refine Gd_split (fun hc => ?_) (fun hc => ?_) <;> (have hc2 := hc; try simp at hc2)) | (with_reducible refine Br_split (fun hc => ?_) (fun hc => ?_) <;> (have hc2 := hc; try simp at hc2)) | (with_reducible refine GdT_split (fun hc => ?_) (fun hc => ?_) <;> (have hc2 := hc; try simp at hc2)) | (with_reducible refine WT_alt ?_ ?_) | omega)
end
end Go.E
