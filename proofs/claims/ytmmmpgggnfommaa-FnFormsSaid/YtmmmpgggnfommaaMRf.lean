/- RunFilter, both sides. -/
import Derived.Test.YtmmmpgggnfommaaMFr
set_option linter.unusedVariables false
set_option linter.unusedSimpArgs false
namespace Go.E
open Go
def L11 : LFn := ⟨1, (.seq (.reg [⟨(.some 2), (.mv (.c (.lf (.bool false)))), none⟩])
 (.seq (.reg [⟨(.some 3), (.mv (.t 0)), none⟩, ⟨(.some 4), (.call true 15 [(.t 3), (.c (.lf (.int .i64 0))), (.c (.lf (.int .i64 2)))]), none⟩, ⟨(.some 2), (.mv (.t 4)), none⟩])
 .ret)), [(.tmp 2)]⟩
class HasFo (S : Sys) : Prop extends HasA S where
  f11 : S.fs 11 = some L11
def L7 : LFn := ⟨5, (.seq (.reg [⟨(.some 5), (.box 26 (.t 0)), none⟩, ⟨(.some 8), (.box 31 (.t 3)), none⟩, ⟨(.some 10), (.mv (.c (.lf .nils))), none⟩, ⟨(.some 11), (.alloc 31 [(.flt .f32 0), (.flt .f32 0), (.flt .f32 0), (.flt .f32 0)]), none⟩, ⟨(.some 12), (.mv (.c (.lf (.bool false)))), none⟩])
 (.seq (.seq (.reg [⟨(.some 15), (.mv (.t 1)), none⟩, ⟨(.some 16), (.call true 11 [(.t 15)]), none⟩, ⟨(.some 17), (.una .not (.t 16)), none⟩, ⟨(.some 18), (.mv (.t 17)), none⟩, ⟨(.some 19), (.mv (.t 4)), (.some (18, false))⟩, ⟨(.some 20), (.call true 12 [(.t 19)]), (.some (18, false))⟩, ⟨(.some 21), (.una .not (.t 20)), (.some (18, false))⟩, ⟨(.some 22), (.pick (.t 18) (.c (.lf (.bool true))) (.t 21)), none⟩])
 (.cond (.t 22) (.seq (.reg [⟨(.some 23), (.build [(.flt .f32 0), (.flt .f32 0), (.flt .f32 0), (.flt .f32 0)] []), none⟩, ⟨(.some 10), (.mv (.c (.lf .nils))), none⟩, ⟨none, (.store 4 (.t 11) (.t 23)), none⟩, ⟨(.some 12), (.mv (.c (.lf (.bool false)))), none⟩])
 .ret) .skip))
 (.seq (.reg [⟨(.some 25), (.load true 5 (.t 5)), none⟩, ⟨(.some 26), (.mv (.t 1)), none⟩, ⟨(.some 27), (.mv (.t 2)), none⟩, ⟨(.some 28), (.load true 4 (.t 8)), none⟩, ⟨(.some 29), (.mv (.t 4)), none⟩, ⟨(.some 30), (.call false 13 [(.t 25), (.t 26), (.t 27), (.t 28), (.t 29)]), none⟩, ⟨(.some 24), (.mv (.t 30)), none⟩, ⟨(.some 31), (.ext (.t 24) 0), none⟩, ⟨(.some 32), (.ext (.t 24) 1), none⟩, ⟨(.some 14), (.alloc 31 [(.flt .f32 0), (.flt .f32 0), (.flt .f32 0), (.flt .f32 0)]), none⟩, ⟨(.some 13), (.mv (.t 31)), none⟩, ⟨none, (.store 4 (.t 14) (.t 32)), none⟩])
 (.seq (.reg [⟨(.some 33), (.mv (.t 13)), none⟩, ⟨(.some 34), (.load true 4 (.t 14)), none⟩, ⟨(.some 10), (.mv (.t 33)), none⟩, ⟨none, (.store 4 (.t 11) (.t 34)), none⟩, ⟨(.some 12), (.mv (.c (.lf (.bool true)))), none⟩])
 .ret)))), [(.tmp 10), (.cell 11 true 4), (.tmp 12)]⟩
class HasRf (S : Sys) : Prop extends HasFr S, HasP S, HasFo S where
  f7 : S.fs 7 = some L7
section
variable {S : Sys} {lim : Nat} {h : Hp} {K : CV → Hp → Prop} [HasFo S]
@[simp] theorem c_isForm {x : Int} : CallT S true 11 [.lf (.int .i64 x)] h lim K = K (.lf (.bool (decide (0 ≤ x ∧ x ≤ 2)))) h := by
  refine CallT_pure (F := L11) (HasFo.f11) rfl (by first | rfl | (split <;> rfl) | simp) ?_; unfold L11; dsimp only []
  repeat' (first | (simp (disch := first | omega | assumption | (simp only [List.length_set]; omega) | (simp [*] <;> fail) | assumption) [-Bool.decide_and, -Bool.decide_or, -Bool.not_and, -Bool.not_or, toNat_pred, toNat_succ, wrap64, wr_new, wr_new0, ok_if, ok_ifn, iadV_sl, makeV_int, decT, decF, over_at, *]) | (with_reducible refine Gd_split (fun hc => ?_) (fun hc => ?_) <;> (have hc2 := hc; try simp at hc2)) | (with_reducible refine Br_split (fun hc => ?_) (fun hc => ?_) <;> (have hc2 := hc; try simp at hc2)) | (with_reducible refine GdT_split (fun hc => ?_) (fun hc => ?_) <;> (have hc2 := hc; try simp at hc2)) | (with_reducible refine WT_alt ?_ ?_) | omega)
end
def Mem.zero : Mem := ⟨0, 0, 0, 0⟩
theorem CF_memz : Mem.zero.CF := ⟨CF_zero, CF_zero, CF_zero, CF_zero⟩
def okRf (form : Int) (n : Nat) : Prop := (0 ≤ form ∧ form ≤ 2) ∧ n ≤ 256
instance {form : Int} {n : Nat} : Decidable (okRf form n) := by unfold okRf; infer_instance
noncomputable def runF (f : Fil) (form : Int) (fb : Bool) (m : Mem) (xs : List Nat) : List Nat × Mem := if okRf form xs.length then scan (stepF f form fb) m xs else ([], Mem.zero)
theorem runF_len {f : Fil} {form : Int} {fb : Bool} {m : Mem} {xs : List Nat} : (runF f form fb m xs).1.length ≤ 256 := by
  unfold runF
  split
  · rename_i hk
    have := outTo_len (step := stepF f form fb) (s := m) (Nat.le_refl xs.length)
    rw [outTo_all] at this
    have := hk.2
    omega
  · simp
section
variable {S : Sys} {lim : Nat} {h : Hp} {K : CV → Hp → Prop} [HasRf S] {l : Lf} {xs : List Nat}
theorem c_implRunFilter {f : Fil} {form : Int} {fb : Bool} {m : Mem} (hm : m.CF) (hA : Arr h l 1 (xs.map fl)) (hx : ∀ x ∈ xs, CF x) (hl : lim ≤ h.length)
    (hK : ∀ o g, New h g o 24 1 ((runF f form fb m xs).1.map fl) → K (.tup [.lf o, .agg (runF f form fb m xs).2.cells, .lf (.bool (decide (okRf form xs.length)))]) g) :
    CallT S false 7 [.agg f.cells, .lf (.int .i64 form), .lf (.bool fb), .agg m.cells, .lf l] h lim K := by
  have hm4 := m.len
  have hf5 : f.cells.length = 5 := rfl
  have hF : ∀ o g, okRf form xs.length → New h g o 24 1 ((scan (stepF f form fb) m xs).1.map fl) → K (.tup [.lf o, .agg (scan (stepF f form fb) m xs).2.cells, .lf (.bool true)]) g := fun o g hk hN => by
    have := hK o g (by simpa [runF, hk] using hN); simpa [runF, hk] using this
  have hT : ∀ g, ¬ okRf form xs.length → Kept h g → K (.tup [.lf .nils, .agg Mem.zero.cells, .lf (.bool false)]) g := fun g hk q => by
    have := hK .nils g (by simpa [runF, hk] using New.nil q); simpa [runF, hk] using this
  clear hK
  have few := fun t K => c_areSamples (S := S) (K := K) (lim := lim) (hA.app (t := t))
  by_cases hk : okRf form xs.length
  · have hF2 := fun o g => hF o g hk
    obtain ⟨⟨hk1, hk2⟩, hk3⟩ := hk
    clear hT hF
    refine CallT_of_body (F := L7) (HasRf.f7) rfl ?_; unfold L7; dsimp only []
    have ht5 : List.take 5 f.cells = f.cells := rfl
    repeat' (first | (simp (disch := first | omega | assumption | (simp only [List.length_set]; omega) | (simp [*] <;> fail) | assumption) [-Bool.decide_and, -Bool.decide_or, -Bool.not_and, -Bool.not_or, toNat_pred, toNat_succ, wrap64, wr_new, wr_new0, ok_if, ok_ifn, iadV_sl, makeV_int, decT, decF, over_at, *, few, leavesAll, fillL]) | (with_reducible refine Gd_split (fun hc => ?_) (fun hc => ?_) <;> (have hc2 := hc; try simp at hc2)) | (with_reducible refine Br_split (fun hc => ?_) (fun hc => ?_) <;> (have hc2 := hc; try simp at hc2)) | (with_reducible refine GdT_split (fun hc => ?_) (fun hc => ?_) <;> (have hc2 := hc; try simp at hc2)) | (with_reducible refine WT_alt ?_ ?_) | omega)
    refine c_implRun (f := f) hm hA.app hx (by omega) (by simp; omega) fun o g hN => ?_
    have hk := hN.kept
    have hb := hN.base (Kept.app _ _)
    have c11 : Cel g (h.length + 2) 31 Mem.zero.cells := Cel.kept (by simp [Cel, Mem.zero, Mem.cells]) hN.kept
    have hlt11 := c11.lt
    have n11 : Not o (h.length + 2) := fun q1 => by have := (hN.lt q1).1; simp at this; omega
    have hy4 := (scan (stepF f form fb) m xs).2.len
    have ht4 : List.take 4 (scan (stepF f form fb) m xs).2.cells = (scan (stepF f form fb) m xs).2.cells := rfl
    generalize scan (stepF f form fb) m xs = r at *
    have w11 := fun t => (c11.app (t := t)).wr (lim := lim) (new := r.2.cells) (by omega) (by rw [hy4, Mem.len])
    have r11 : ∀ t : Hp, rdCells (g.set (h.length + 2) ⟨r.2.cells, .own 31 1⟩ ++ t) (h.length + 2) 0 4 = some r.2.cells := fun t => (Cel.put (ty := 31) hlt11).rdA (by simp [Mem.len])
    clear few
    repeat' (first | (simp (disch := first | omega | assumption | (simp only [List.length_set]; omega) | (simp [*] <;> fail) | assumption) [-Bool.decide_and, -Bool.decide_or, -Bool.not_and, -Bool.not_or, toNat_pred, toNat_succ, wrap64, wr_new, wr_new0, ok_if, ok_ifn, iadV_sl, makeV_int, decT, decF, over_at, *, leavesAll, fillL]) | (with_reducible refine Gd_split (fun hc => ?_) (fun hc => ?_) <;> (have hc2 := hc; try simp at hc2)) | (with_reducible refine Br_split (fun hc => ?_) (fun hc => ?_) <;> (have hc2 := hc; try simp at hc2)) | (with_reducible refine GdT_split (fun hc => ?_) (fun hc => ?_) <;> (have hc2 := hc; try simp at hc2)) | (with_reducible refine WT_alt ?_ ?_) | omega)
    exact hF2 _ _ ((hb.set_other (by omega) n11).app)
  · have hT2 := fun g => hT g hk
    clear hT hF
    have hk' : ¬ ((0 ≤ form ∧ form ≤ 2) ∧ (xs.length : Int) ≤ 256) := fun q => hk ⟨q.1, by omega⟩
    refine CallT_of_body (F := L7) (HasRf.f7) rfl ?_; unfold L7; dsimp only []
    by_cases h1 : 0 ≤ form ∧ form ≤ 2
    · repeat' (first | (simp (disch := first | omega | assumption | (simp only [List.length_set]; omega) | (simp [*] <;> fail) | assumption) [-Bool.decide_and, -Bool.decide_or, -Bool.not_and, -Bool.not_or, toNat_pred, toNat_succ, wrap64, wr_new, wr_new0, ok_if, ok_ifn, iadV_sl, makeV_int, decT, decF, over_at, *, few, leavesAll, fillL]) | (with_reducible refine Gd_split (fun hc => ?_) (fun hc => ?_) <;> (have hc2 := hc; try simp at hc2)) | (with_reducible refine Br_split (fun hc => ?_) (fun hc => ?_) <;> (have hc2 := hc; try simp at hc2)) | (with_reducible refine GdT_split (fun hc => ?_) (fun hc => ?_) <;> (have hc2 := hc; try simp at hc2)) | (with_reducible refine WT_alt ?_ ?_) | omega)
      exact hT2 _ (Kept.app _ _)
    · repeat' (first | (simp (disch := first | omega | assumption | (simp only [List.length_set]; omega) | (simp [*] <;> fail) | assumption) [-Bool.decide_and, -Bool.decide_or, -Bool.not_and, -Bool.not_or, toNat_pred, toNat_succ, wrap64, wr_new, wr_new0, ok_if, ok_ifn, iadV_sl, makeV_int, decT, decF, over_at, *, few, leavesAll, fillL]) | (with_reducible refine Gd_split (fun hc => ?_) (fun hc => ?_) <;> (have hc2 := hc; try simp at hc2)) | (with_reducible refine Br_split (fun hc => ?_) (fun hc => ?_) <;> (have hc2 := hc; try simp at hc2)) | (with_reducible refine GdT_split (fun hc => ?_) (fun hc => ?_) <;> (have hc2 := hc; try simp at hc2)) | (with_reducible refine WT_alt ?_ ?_) | omega)
      exact hT2 _ (Kept.app _ _)
end
end Go.E
