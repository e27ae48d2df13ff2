/- RunFilter, both sides. -/
import Derived.Test.YtonfalhekphaeaaMFr
set_option linter.unusedVariables false
set_option linter.unusedSimpArgs false
namespace Go.E
open Go
def L101 : LFn := ⟨1, (.seq (.reg [⟨(.some 2), (.mv (.c (.lf (.bool false)))), none⟩])
 (.seq (.reg [⟨(.some 3), (.mv (.t 0)), none⟩, ⟨(.some 4), (.call true 73 [(.t 3), (.c (.lf (.int .i64 0))), (.c (.lf (.int .i64 2)))]), none⟩, ⟨(.some 2), (.mv (.t 4)), none⟩])
 .ret)), [(.tmp 2)]⟩
def L103 : LFn := ⟨1, (.seq (.reg [⟨(.some 2), (.mv (.c (.lf (.bool false)))), none⟩])
 (.seq (.reg [⟨(.some 3), (.mv (.t 0)), none⟩, ⟨(.some 4), (.call true 133 [(.t 3), (.c (.lf (.int .i64 0))), (.c (.lf (.int .i64 2)))]), none⟩, ⟨(.some 2), (.mv (.t 4)), none⟩])
 .ret)), [(.tmp 2)]⟩
class HasRf (S : Sys) : Prop extends HasFr S, HasP S where
  f101 : S.fs 101 = some L101
  f103 : S.fs 103 = some L103
def Mem.zero : Mem := ⟨0, 0, 0, 0⟩
def okRf (form : Int) (n : Nat) : Prop := (0 ≤ form ∧ form ≤ 2) ∧ n ≤ 256
instance {form : Int} {n : Nat} : Decidable (okRf form n) := by unfold okRf; infer_instance
noncomputable def runF (f : Fil) (form : Int) (fb : Bool) (m : Mem) (xs : List Nat) : List Nat × Mem := if okRf form xs.length then scan (stepF f form fb) m xs else ([], Mem.zero)
theorem runF_len {f : Fil} {form : Int} {fb : Bool} {m : Mem} {xs : List Nat} : (runF f form fb m xs).1.length ≤ 256 := by
  unfold runF
  split
  · rename_i hk
    have := outTo_len (step := stepF f form fb) (s := m) (Nat.le_refl xs.length)
    rw [outTo_all] at this
    have := hk.2
    omega
  · simp
section
variable {S : Sys} {lim : Nat} {h : Hp} {K : CV → Hp → Prop} [HasRf S] {l : Lf} {xs : List Nat}
@[simp] theorem c_l02Form {x : Int} : CallT S true 101 [.lf (.int .i64 x)] h lim K = K (.lf (.bool (decide (0 ≤ x ∧ x ≤ 2)))) h := by
  refine CallT_pure (F := L101) (HasRf.f101) rfl (by first | rfl | (split <;> rfl) | simp) ?_; unfold L101; dsimp only []
  repeat' (first | (simp (disch := first | omega | assumption | (simp only [List.length_set]; omega) | (simp [*] <;> fail) | assumption) [-Bool.decide_and, -Bool.decide_or, -Bool.not_and, -Bool.not_or, toNat_pred, toNat_succ, wrap64, wr_new, wr_new0, ok_if, ok_ifn, iadV_sl, makeV_int, decT, decF, over_at, *]) | (with_reducible refine Gd_split (fun hc => ?_) (fun hc => ?_) <;> (have hc2 := hc; try simp at hc2)) | (with_reducible refine Br_split (fun hc => ?_) (fun hc => ?_) <;> (have hc2 := hc; try simp at hc2)) | (with_reducible refine GdT_split (fun hc => ?_) (fun hc => ?_) <;> (have hc2 := hc; try simp at hc2)) | (with_reducible refine WT_alt ?_ ?_) | omega)
@[simp] theorem c_isForm {x : Int} : CallT S true 103 [.lf (.int .i64 x)] h lim K = K (.lf (.bool (decide (0 ≤ x ∧ x ≤ 2)))) h := by
  refine CallT_pure (F := L103) (HasRf.f103) rfl (by first | rfl | (split <;> rfl) | simp) ?_; unfold L103; dsimp only []
  repeat' (first | (simp (disch := first | omega | assumption | (simp only [List.length_set]; omega) | (simp [*] <;> fail) | assumption) [-Bool.decide_and, -Bool.decide_or, -Bool.not_and, -Bool.not_or, toNat_pred, toNat_succ, wrap64, wr_new, wr_new0, ok_if, ok_ifn, iadV_sl, makeV_int, decT, decF, over_at, *]) | (with_reducible refine Gd_split (fun hc => ?_) (fun hc => ?_) <;> (have hc2 := hc; try simp at hc2)) | (with_reducible refine Br_split (fun hc => ?_) (fun hc => ?_) <;> (have hc2 := hc; try simp at hc2)) | (with_reducible refine GdT_split (fun hc => ?_) (fun hc => ?_) <;> (have hc2 := hc; try simp at hc2)) | (with_reducible refine WT_alt ?_ ?_) | omega)
end
end Go.E
