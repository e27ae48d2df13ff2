/- Picking, spreading and folding of samples. -/
import Derived.Test.YtpjgmichaeiifaaMF
set_option linter.unusedVariables false
set_option linter.unusedSimpArgs false
namespace Go.E
open Go
def L68 : LFn := ⟨1, (.seq (.reg [⟨(.some 2), (.mv (.c (.lf (.bool false)))), none⟩])
 (.seq (.reg [⟨(.some 3), (.mv (.t 0)), none⟩, ⟨(.some 4), (.call true 86 [(.t 3), (.c (.lf (.int .i64 1))), (.c (.lf (.int .i64 8)))]), none⟩, ⟨(.some 2), (.mv (.t 4)), none⟩])
 .ret)), [(.tmp 2)]⟩
def L70 : LFn := ⟨1, (.seq (.reg [⟨(.some 2), (.mv (.c (.lf (.bool false)))), none⟩])
 (.seq (.reg [⟨(.some 3), (.mv (.t 0)), none⟩, ⟨(.some 4), (.len (.t 3)), none⟩, ⟨(.some 5), (.bin .leq (.t 4) (.c (.lf (.int .i64 256)))), none⟩, ⟨(.some 2), (.mv (.t 5)), none⟩])
 .ret)), [(.tmp 2)]⟩
def L72 : LFn := ⟨3, (.seq (.reg [⟨(.some 6), (.mv (.c (.lf .nils))), none⟩])
 (.seq (.reg [⟨(.some 9), (.lit 24 1 0 [] []), none⟩, ⟨(.some 7), (.mv (.t 9)), none⟩])
 (.seq (.seq (.reg [⟨(.some 10), (.mv (.t 1)), none⟩, ⟨(.some 8), (.mv (.t 10)), none⟩])
 (.block 0 (.loop (.seq (.seq (.reg [⟨(.some 11), (.mv (.t 8)), none⟩, ⟨(.some 12), (.mv (.t 2)), none⟩, ⟨(.some 13), (.len (.t 12)), none⟩, ⟨(.some 14), (.bin .lss (.t 11) (.t 13)), none⟩])
 (.cond (.t 14) .skip (.exit 0)))
 (.seq (.block 1 (.reg [⟨(.some 18), (.mv (.t 7)), none⟩, ⟨(.some 19), (.mv (.t 2)), none⟩, ⟨(.some 20), (.mv (.t 8)), none⟩, ⟨(.some 21), (.iaddr 1 (.t 19) (.t 20)), none⟩, ⟨(.some 22), (.load false 1 (.t 21)), none⟩, ⟨(.some 23), (.lit 24 1 1 [(.flt .f32 0)] [(0, (1, (.t 22)))]), none⟩, ⟨(.some 24), (.app 24 1 4 (.t 18) (.t 23)), none⟩, ⟨(.some 7), (.mv (.t 24)), none⟩]))
 (.reg [⟨(.some 15), (.mv (.t 8)), none⟩, ⟨(.some 16), (.mv (.t 0)), none⟩, ⟨(.some 17), (.bin .add (.t 15) (.t 16)), none⟩, ⟨(.some 8), (.mv (.t 17)), none⟩]))))))
 (.seq (.reg [⟨(.some 25), (.mv (.t 7)), none⟩, ⟨(.some 6), (.mv (.t 25)), none⟩])
 .ret)))), [(.tmp 6)]⟩
def L130 : LFn := ⟨1, (.seq (.reg [⟨(.some 2), (.mv (.c (.lf (.bool false)))), none⟩])
 (.seq (.reg [⟨(.some 3), (.mv (.t 0)), none⟩, ⟨(.some 4), (.call true 127 [(.t 3), (.c (.lf (.int .i64 1))), (.c (.lf (.int .i64 8)))]), none⟩, ⟨(.some 2), (.mv (.t 4)), none⟩])
 .ret)), [(.tmp 2)]⟩
def L66 : LFn := ⟨1, (.seq (.reg [⟨(.some 2), (.mv (.c (.lf (.bool false)))), none⟩])
 (.seq (.reg [⟨(.some 3), (.mv (.t 0)), none⟩, ⟨(.some 4), (.len (.t 3)), none⟩, ⟨(.some 5), (.bin .leq (.t 4) (.c (.lf (.int .i64 256)))), none⟩, ⟨(.some 2), (.mv (.t 5)), none⟩])
 .ret)), [(.tmp 2)]⟩
def L77 : LFn := ⟨3, (.seq (.reg [⟨(.some 6), (.mv (.c (.lf .nils))), none⟩, ⟨(.some 7), (.mv (.c (.lf (.bool false)))), none⟩])
 (.seq (.seq (.reg [⟨(.some 10), (.mv (.t 0)), none⟩, ⟨(.some 11), (.call true 130 [(.t 10)]), none⟩, ⟨(.some 12), (.una .not (.t 11)), none⟩, ⟨(.some 13), (.mv (.t 12)), none⟩, ⟨(.some 14), (.mv (.t 1)), (.some (13, false))⟩, ⟨(.some 15), (.mv (.t 0)), (.some (13, false))⟩, ⟨(.some 16), (.bin .sub (.t 15) (.c (.lf (.int .i64 1)))), (.some (13, false))⟩, ⟨(.some 17), (.call true 127 [(.t 14), (.c (.lf (.int .i64 0))), (.t 16)]), (.some (13, false))⟩, ⟨(.some 18), (.una .not (.t 17)), (.some (13, false))⟩, ⟨(.some 19), (.pick (.t 13) (.c (.lf (.bool true))) (.t 18)), none⟩, ⟨(.some 20), (.mv (.t 19)), none⟩, ⟨(.some 21), (.mv (.t 2)), (.some (20, false))⟩, ⟨(.some 22), (.call true 66 [(.t 21)]), (.some (20, false))⟩, ⟨(.some 23), (.una .not (.t 22)), (.some (20, false))⟩, ⟨(.some 24), (.pick (.t 20) (.c (.lf (.bool true))) (.t 23)), none⟩])
 (.cond (.t 24) (.seq (.reg [⟨(.some 6), (.mv (.c (.lf .nils))), none⟩, ⟨(.some 7), (.mv (.c (.lf (.bool false)))), none⟩])
 .ret) .skip))
 (.seq (.reg [⟨(.some 8), (.mv (.c (.lf .nils))), none⟩])
 (.seq (.seq (.reg [⟨(.some 25), (.mv (.t 1)), none⟩, ⟨(.some 9), (.mv (.t 25)), none⟩])
 (.block 0 (.loop (.seq (.seq (.reg [⟨(.some 26), (.mv (.t 9)), none⟩, ⟨(.some 27), (.mv (.t 2)), none⟩, ⟨(.some 28), (.len (.t 27)), none⟩, ⟨(.some 29), (.call true 76 [(.t 28)]), none⟩, ⟨(.some 30), (.bin .lss (.t 26) (.t 29)), none⟩])
 (.cond (.t 30) .skip (.exit 0)))
 (.seq (.block 1 (.reg [⟨(.some 34), (.mv (.t 8)), none⟩, ⟨(.some 35), (.mv (.t 2)), none⟩, ⟨(.some 36), (.mv (.t 9)), none⟩, ⟨(.some 37), (.iaddr 1 (.t 35) (.t 36)), none⟩, ⟨(.some 38), (.load false 1 (.t 37)), none⟩, ⟨(.some 39), (.lit 24 1 1 [(.flt .f32 0)] [(0, (1, (.t 38)))]), none⟩, ⟨(.some 40), (.app 24 1 4 (.t 34) (.t 39)), none⟩, ⟨(.some 8), (.mv (.t 40)), none⟩]))
 (.reg [⟨(.some 31), (.mv (.t 9)), none⟩, ⟨(.some 32), (.mv (.t 0)), none⟩, ⟨(.some 33), (.bin .add (.t 31) (.t 32)), none⟩, ⟨(.some 9), (.mv (.t 33)), none⟩]))))))
 (.seq (.reg [⟨(.some 41), (.mv (.t 8)), none⟩, ⟨(.some 6), (.mv (.t 41)), none⟩, ⟨(.some 7), (.mv (.c (.lf (.bool true)))), none⟩])
 .ret))))), [(.tmp 6), (.tmp 7)]⟩
class HasP (S : Sys) : Prop extends HasA S where
  f68 : S.fs 68 = some L68
  f70 : S.fs 70 = some L70
  f72 : S.fs 72 = some L72
  f130 : S.fs 130 = some L130
  f66 : S.fs 66 = some L66
  f77 : S.fs 77 = some L77
/-- Every f-th of xs from the p-th on. -/
def pk (f p : Nat) (xs : List Nat) : List Nat := if h : 0 < f ∧ p < xs.length then xs[p]'h.2 :: pk f (p + f) xs else []
termination_by xs.length - p
theorem pk_step {f p : Nat} {xs : List Nat} (h1 : 0 < f) (h2 : p < xs.length) : pk f p xs = xs[p] :: pk f (p + f) xs := by
  rw [pk, dif_pos ⟨h1, h2⟩]
theorem pk_end {f p : Nat} {xs : List Nat} (h2 : ¬ p < xs.length) : pk f p xs = [] := by
  rw [pk, dif_neg (fun h => h2 h.2)]
theorem pk_len {f : Nat} {xs : List Nat} : ∀ {n p : Nat}, xs.length - p ≤ n → (pk f p xs).length ≤ n
  | 0, p, h => by rw [pk_end (by omega)]; simp
  | n + 1, p, h => by
    by_cases h1 : 0 < f ∧ p < xs.length
    · rw [pk_step h1.1 h1.2]; simp; exact pk_len (by omega)
    · rw [pk, dif_neg h1]; simp
section
variable {S : Sys} {lim : Nat} {h : Hp} {K : CV → Hp → Prop} [HasP S] {l : Lf} {xs : List Nat}
@[simp] theorem c_l06Factor {x : Int} : CallT S true 68 [.lf (.int .i64 x)] h lim K = K (.lf (.bool (decide (1 ≤ x ∧ x ≤ 8)))) h := by
  refine CallT_pure (F := L68) (HasP.f68) rfl (by first | rfl | (split <;> rfl) | simp) ?_; unfold L68; dsimp only []
  repeat' (first | (simp (disch := first | omega | assumption | (simp only [List.length_set]; omega) | (simp [*] <;> fail) | assumption) [-Bool.decide_and, -Bool.decide_or, -Bool.not_and, -Bool.not_or, toNat_pred, toNat_succ, wrap64, wr_new, wr_new0, ok_if, ok_ifn, iadV_sl, makeV_int, decT, decF, over_at, *]) | (with_reducible refine Gd_split (fun hc => ?_) (fun hc => ?_) <;> (have hc2 := hc; try simp at hc2)) | (with_reducible refine Br_split (fun hc => ?_) (fun hc => ?_) <;> (have hc2 := hc; try simp at hc2)) | (with_reducible refine GdT_split (fun hc => ?_) (fun hc => ?_) <;> (have hc2 := hc; try simp at hc2)) | (with_reducible refine WT_alt ?_ ?_) | omega)
@[simp] theorem c_isFactor {x : Int} : CallT S true 130 [.lf (.int .i64 x)] h lim K = K (.lf (.bool (decide (1 ≤ x ∧ x ≤ 8)))) h := by
  refine CallT_pure (F := L130) (HasP.f130) rfl (by first | rfl | (split <;> rfl) | simp) ?_; unfold L130; dsimp only []
  repeat' (first | (simp (disch := first | omega | assumption | (simp only [List.length_set]; omega) | (simp [*] <;> fail) | assumption) [-Bool.decide_and, -Bool.decide_or, -Bool.not_and, -Bool.not_or, toNat_pred, toNat_succ, wrap64, wr_new, wr_new0, ok_if, ok_ifn, iadV_sl, makeV_int, decT, decF, over_at, *]) | (with_reducible refine Gd_split (fun hc => ?_) (fun hc => ?_) <;> (have hc2 := hc; try simp at hc2)) | (with_reducible refine Br_split (fun hc => ?_) (fun hc => ?_) <;> (have hc2 := hc; try simp at hc2)) | (with_reducible refine GdT_split (fun hc => ?_) (fun hc => ?_) <;> (have hc2 := hc; try simp at hc2)) | (with_reducible refine WT_alt ?_ ?_) | omega)
theorem c_l01Few (hA : Arr h l 1 (xs.map fl)) : CallT S true 70 [.lf l] h lim K = K (.lf (.bool (decide ((xs.length : Int) ≤ 256)))) h := by
  refine CallT_pure (F := L70) (HasP.f70) rfl (by first | rfl | (split <;> rfl) | simp) ?_; unfold L70; dsimp only []
  repeat' (first | (simp (disch := first | omega | assumption | (simp only [List.length_set]; omega) | (simp [*] <;> fail) | assumption) [-Bool.decide_and, -Bool.decide_or, -Bool.not_and, -Bool.not_or, toNat_pred, toNat_succ, wrap64, wr_new, wr_new0, ok_if, ok_ifn, iadV_sl, makeV_int, decT, decF, over_at, *, hA.len]) | (with_reducible refine Gd_split (fun hc => ?_) (fun hc => ?_) <;> (have hc2 := hc; try simp at hc2)) | (with_reducible refine Br_split (fun hc => ?_) (fun hc => ?_) <;> (have hc2 := hc; try simp at hc2)) | (with_reducible refine GdT_split (fun hc => ?_) (fun hc => ?_) <;> (have hc2 := hc; try simp at hc2)) | (with_reducible refine WT_alt ?_ ?_) | omega)
theorem c_areSamples (hA : Arr h l 1 (xs.map fl)) : CallT S true 66 [.lf l] h lim K = K (.lf (.bool (decide ((xs.length : Int) ≤ 256)))) h := by
  refine CallT_pure (F := L66) (HasP.f66) rfl (by first | rfl | (split <;> rfl) | simp) ?_; unfold L66; dsimp only []
  repeat' (first | (simp (disch := first | omega | assumption | (simp only [List.length_set]; omega) | (simp [*] <;> fail) | assumption) [-Bool.decide_and, -Bool.decide_or, -Bool.not_and, -Bool.not_or, toNat_pred, toNat_succ, wrap64, wr_new, wr_new0, ok_if, ok_ifn, iadV_sl, makeV_int, decT, decF, over_at, *, hA.len]) | (with_reducible refine Gd_split (fun hc => ?_) (fun hc => ?_) <;> (have hc2 := hc; try simp at hc2)) | (with_reducible refine Br_split (fun hc => ?_) (fun hc => ?_) <;> (have hc2 := hc; try simp at hc2)) | (with_reducible refine GdT_split (fun hc => ?_) (fun hc => ?_) <;> (have hc2 := hc; try simp at hc2)) | (with_reducible refine WT_alt ?_ ?_) | omega)
theorem c_l06Pick {f p : Nat} (hf : 0 < f) (hf8 : f ≤ 8) (hp : p < f) (hA : Arr h l 1 (xs.map fl)) (hn : xs.length ≤ 256) (hl : lim ≤ h.length) (hK : ∀ l' g, New h g l' 24 1 ((pk f p xs).map fl) → K (.lf l') g) :
    CallT S false 72 [.lf (.int .i64 f), .lf (.int .i64 p), .lf l] h lim K := by
  refine CallT_of_body (F := L72) (HasP.f72) rfl ?_; unfold L72; dsimp only []
  repeat' (first | (simp (disch := first | omega | assumption | (simp only [List.length_set]; omega) | (simp [*] <;> fail) | assumption) [-Bool.decide_and, -Bool.decide_or, -Bool.not_and, -Bool.not_or, toNat_pred, toNat_succ, wrap64, wr_new, wr_new0, ok_if, ok_ifn, iadV_sl, makeV_int, decT, decF, over_at, *, leavesAll, fillL]) | (with_reducible refine Gd_split (fun hc => ?_) (fun hc => ?_) <;> (have hc2 := hc; try simp at hc2)) | (with_reducible refine Br_split (fun hc => ?_) (fun hc => ?_) <;> (have hc2 := hc; try simp at hc2)) | (with_reducible refine GdT_split (fun hc => ?_) (fun hc => ?_) <;> (have hc2 := hc; try simp at hc2)) | (with_reducible refine WT_alt ?_ ?_) | omega)
  refine WL_rule (fun (x : List Nat × Nat) a' g => a' 0 = .lf (.int .i64 f) ∧ a' 2 = .lf l ∧ (∃ l', a' 7 = .lf l' ∧ New h g l' 24 1 (x.1.map fl)) ∧ a' 8 = .lf (.int .i64 x.2) ∧ x.2 ≤ xs.length + 8 ∧ x.1.length ≤ x.2 ∧ x.1 ++ pk f x.2 xs = pk f p xs) (fun x => xs.length + 8 - x.2) ?_ (x := ([], p)) ?_
  · rintro ⟨out, q⟩ a' g ⟨e0, e2, ⟨l', e7, hN⟩, e8, hq, ho, hpk⟩
    simp only at hN hpk ho hq e8
    replace hA := hA.kept hN.kept
    by_cases hlt : q < xs.length
    · repeat' (first | (simp (disch := first | omega | assumption | (simp only [List.length_set]; omega) | (simp [*] <;> fail) | assumption) [-Bool.decide_and, -Bool.decide_or, -Bool.not_and, -Bool.not_or, toNat_pred, toNat_succ, wrap64, wr_new, wr_new0, ok_if, ok_ifn, iadV_sl, makeV_int, decT, decF, over_at, *, hA.len, hA.at_, hA.at_', hA.rd, hA.rdIn, hA.rdIn0, hA.rdA, hA.rdInA, hA.rdIn0A, hA.rd1, fl, leavesAll, fillL]) | (with_reducible refine Gd_split (fun hc => ?_) (fun hc => ?_) <;> (have hc2 := hc; try simp at hc2)) | (with_reducible refine Br_split (fun hc => ?_) (fun hc => ?_) <;> (have hc2 := hc; try simp at hc2)) | (with_reducible refine GdT_split (fun hc => ?_) (fun hc => ?_) <;> (have hc2 := hc; try simp at hc2)) | (with_reducible refine WT_alt ?_ ?_) | omega)
      obtain ⟨l2, g2, e, hN2, _⟩ := hN.push (lim := lim) (bytes := 4) (r := fl xs[q]) (by omega) hl rfl (by simp; omega) (by simp; omega)
      refine oc_of e ?_
      repeat' (first | (simp (disch := first | omega | assumption | (simp only [List.length_set]; omega) | (simp [*] <;> fail) | assumption) [-Bool.decide_and, -Bool.decide_or, -Bool.not_and, -Bool.not_or, toNat_pred, toNat_succ, wrap64, wr_new, wr_new0, ok_if, ok_ifn, iadV_sl, makeV_int, decT, decF, over_at, *]) | (with_reducible refine Gd_split (fun hc => ?_) (fun hc => ?_) <;> (have hc2 := hc; try simp at hc2)) | (with_reducible refine Br_split (fun hc => ?_) (fun hc => ?_) <;> (have hc2 := hc; try simp at hc2)) | (with_reducible refine GdT_split (fun hc => ?_) (fun hc => ?_) <;> (have hc2 := hc; try simp at hc2)) | (with_reducible refine WT_alt ?_ ?_) | omega)
      exact ⟨out ++ [xs[q]], q + f, by omega, by simpa using hN2, by simp, by omega, by simp; omega, by rw [← hpk, pk_step hf hlt]; simp⟩
    · rw [pk_end hlt, List.append_nil] at hpk
      subst hpk
      repeat' (first | (simp (disch := first | omega | assumption | (simp only [List.length_set]; omega) | (simp [*] <;> fail) | assumption) [-Bool.decide_and, -Bool.decide_or, -Bool.not_and, -Bool.not_or, toNat_pred, toNat_succ, wrap64, wr_new, wr_new0, ok_if, ok_ifn, iadV_sl, makeV_int, decT, decF, over_at, *, hA.len]) | (with_reducible refine Gd_split (fun hc => ?_) (fun hc => ?_) <;> (have hc2 := hc; try simp at hc2)) | (with_reducible refine Br_split (fun hc => ?_) (fun hc => ?_) <;> (have hc2 := hc; try simp at hc2)) | (with_reducible refine GdT_split (fun hc => ?_) (fun hc => ?_) <;> (have hc2 := hc; try simp at hc2)) | (with_reducible refine WT_alt ?_ ?_) | omega)
  · exact ⟨by simp, by simp, ⟨_, by simp, New.lit0⟩, by simp, by simp; omega, by simp, by simp⟩
theorem c_implPick {f p : Nat} (hf : 0 < f) (hf8 : f ≤ 8) (hp : p < f) (hA : Arr h l 1 (xs.map fl)) (hn : xs.length ≤ 256) (hl : lim ≤ h.length) (hK : ∀ l' g, New h g l' 24 1 ((pk f p xs).map fl) → K (.tup [.lf l', .lf (.bool true)]) g) :
    CallT S false 77 [.lf (.int .i64 f), .lf (.int .i64 p), .lf l] h lim K := by
  have hb := hA.bound
  refine CallT_of_body (F := L77) (HasP.f77) rfl ?_; unfold L77; dsimp only []
  repeat' (first | (simp (disch := first | omega | assumption | (simp only [List.length_set]; omega) | (simp [*] <;> fail) | assumption) [-Bool.decide_and, -Bool.decide_or, -Bool.not_and, -Bool.not_or, toNat_pred, toNat_succ, wrap64, wr_new, wr_new0, ok_if, ok_ifn, iadV_sl, makeV_int, decT, decF, over_at, *, c_areSamples hA]) | (with_reducible refine Gd_split (fun hc => ?_) (fun hc => ?_) <;> (have hc2 := hc; try simp at hc2)) | (with_reducible refine Br_split (fun hc => ?_) (fun hc => ?_) <;> (have hc2 := hc; try simp at hc2)) | (with_reducible refine GdT_split (fun hc => ?_) (fun hc => ?_) <;> (have hc2 := hc; try simp at hc2)) | (with_reducible refine WT_alt ?_ ?_) | omega)
  refine WL_rule (fun (x : List Nat × Nat) a' g => a' 0 = .lf (.int .i64 f) ∧ a' 2 = .lf l ∧ (∃ l', a' 8 = .lf l' ∧ New h g l' 24 1 (x.1.map fl)) ∧ a' 9 = .lf (.int .i64 x.2) ∧ x.2 ≤ xs.length + 8 ∧ x.1.length ≤ x.2 ∧ x.1 ++ pk f x.2 xs = pk f p xs) (fun x => xs.length + 8 - x.2) ?_ (x := ([], p)) ?_
  · rintro ⟨out, q⟩ a' g ⟨e0, e2, ⟨l', e7, hN⟩, e8, hq, ho, hpk⟩
    simp only at hN hpk ho hq e8
    replace hA := hA.kept hN.kept
    by_cases hlt : q < xs.length
    · repeat' (first | (simp (disch := first | omega | assumption | (simp only [List.length_set]; omega) | (simp [*] <;> fail) | assumption) [-Bool.decide_and, -Bool.decide_or, -Bool.not_and, -Bool.not_or, toNat_pred, toNat_succ, wrap64, wr_new, wr_new0, ok_if, ok_ifn, iadV_sl, makeV_int, decT, decF, over_at, *, hA.len, hA.at_, hA.at_', hA.rd, hA.rdIn, hA.rdIn0, hA.rdA, hA.rdInA, hA.rdIn0A, hA.rd1, fl, leavesAll, fillL]) | (with_reducible refine Gd_split (fun hc => ?_) (fun hc => ?_) <;> (have hc2 := hc; try simp at hc2)) | (with_reducible refine Br_split (fun hc => ?_) (fun hc => ?_) <;> (have hc2 := hc; try simp at hc2)) | (with_reducible refine GdT_split (fun hc => ?_) (fun hc => ?_) <;> (have hc2 := hc; try simp at hc2)) | (with_reducible refine WT_alt ?_ ?_) | omega)
      obtain ⟨l2, g2, e, hN2, _⟩ := hN.push (lim := lim) (bytes := 4) (r := fl xs[q]) (by omega) hl rfl (by simp; omega) (by simp; omega)
      refine oc_of e ?_
      repeat' (first | (simp (disch := first | omega | assumption | (simp only [List.length_set]; omega) | (simp [*] <;> fail) | assumption) [-Bool.decide_and, -Bool.decide_or, -Bool.not_and, -Bool.not_or, toNat_pred, toNat_succ, wrap64, wr_new, wr_new0, ok_if, ok_ifn, iadV_sl, makeV_int, decT, decF, over_at, *]) | (with_reducible refine Gd_split (fun hc => ?_) (fun hc => ?_) <;> (have hc2 := hc; try simp at hc2)) | (with_reducible refine Br_split (fun hc => ?_) (fun hc => ?_) <;> (have hc2 := hc; try simp at hc2)) | (with_reducible refine GdT_split (fun hc => ?_) (fun hc => ?_) <;> (have hc2 := hc; try simp at hc2)) | (with_reducible refine WT_alt ?_ ?_) | omega)
      exact ⟨out ++ [xs[q]], q + f, by omega, by simpa using hN2, by simp, by omega, by simp; omega, by rw [← hpk, pk_step hf hlt]; simp⟩
    · rw [pk_end hlt, List.append_nil] at hpk
      subst hpk
      repeat' (first | (simp (disch := first | omega | assumption | (simp only [List.length_set]; omega) | (simp [*] <;> fail) | assumption) [-Bool.decide_and, -Bool.decide_or, -Bool.not_and, -Bool.not_or, toNat_pred, toNat_succ, wrap64, wr_new, wr_new0, ok_if, ok_ifn, iadV_sl, makeV_int, decT, decF, over_at, *, hA.len]) | (with_reducible refine Gd_split (fun hc => ?_) (fun hc => ?_) <;> (have hc2 := hc; try simp at hc2)) | (with_reducible refine Br_split (fun hc => ?_) (fun hc => ?_) <;> (have hc2 := hc; try simp at hc2)) | (with_reducible refine GdT_split (fun hc => ?_) (fun hc => ?_) <;> (have hc2 := hc; try simp at hc2)) | (with_reducible refine WT_alt ?_ ?_) | omega)
  · exact ⟨by simp, by simp, ⟨_, by simp, New.nil (Kept.refl h)⟩, by simp, by simp; omega, by simp, by simp⟩
def okF (f p : Int) (xs : List Nat) : Bool := decide ((1 ≤ f ∧ f ≤ 8) ∧ (0 ≤ p ∧ p ≤ f - 1) ∧ (xs.length : Int) ≤ 256)
theorem c_implPickBy {f p : Int} (hA : Arr h l 1 (xs.map fl)) (hl : lim ≤ h.length) (hK : okF f p xs = true → ∀ l' g, New h g l' 24 1 ((pk f.toNat p.toNat xs).map fl) → K (.tup [.lf l', .lf (.bool true)]) g) (hK2 : okF f p xs = false → K (.tup [.lf .nils, .lf (.bool false)]) h) :
    CallT S false 77 [.lf (.int .i64 f), .lf (.int .i64 p), .lf l] h lim K := by
  cases hok : okF f p xs
  · replace hK2 := hK2 hok
    simp only [okF, decide_eq_false_iff_not] at hok
    refine CallT_of_body (F := L77) (HasP.f77) rfl ?_; unfold L77; dsimp only []
    repeat' (first | (simp (disch := first | omega | assumption | (simp only [List.length_set]; omega) | (simp [*] <;> fail) | assumption) [-Bool.decide_and, -Bool.decide_or, -Bool.not_and, -Bool.not_or, toNat_pred, toNat_succ, wrap64, wr_new, wr_new0, ok_if, ok_ifn, iadV_sl, makeV_int, decT, decF, over_at, *, c_areSamples hA]) | (with_reducible refine Gd_split (fun hc => ?_) (fun hc => ?_) <;> (have hc2 := hc; try simp at hc2)) | (with_reducible refine Br_split (fun hc => ?_) (fun hc => ?_) <;> (have hc2 := hc; try simp at hc2)) | (with_reducible refine GdT_split (fun hc => ?_) (fun hc => ?_) <;> (have hc2 := hc; try simp at hc2)) | (with_reducible refine WT_alt ?_ ?_) | omega)
  · replace hK := hK hok
    simp only [okF, decide_eq_true_eq] at hok
    obtain ⟨f', rfl⟩ := Int.eq_ofNat_of_zero_le (show 0 ≤ f by omega)
    obtain ⟨p', rfl⟩ := Int.eq_ofNat_of_zero_le (show 0 ≤ p by omega)
    exact c_implPick (by omega) (by omega) (by omega) hA (by omega) hl fun l' g hN => hK _ _ (by simpa using hN)
def pickBy (f p : Int) (xs : List Nat) : List Nat := if okF f p xs then pk f.toNat p.toNat xs else []
theorem pickBy_len {f p : Int} {xs : List Nat} : (pickBy f p xs).length ≤ 256 := by
  unfold pickBy
  split
  · rename_i h
    simp only [okF, decide_eq_true_eq] at h
    exact Nat.le_trans (pk_len (n := xs.length) (by omega)) (by omega)
  · simp
theorem d_implPickBy {f p : Int} (hA : Arr h l 1 (xs.map fl)) (hl : lim ≤ h.length) (hK : ∀ l' g, New h g l' 24 1 ((pickBy f p xs).map fl) → K (.tup [.lf l', .lf (.bool (okF f p xs))]) g) :
    CallT S false 77 [.lf (.int .i64 f), .lf (.int .i64 p), .lf l] h lim K :=
  c_implPickBy hA hl (fun hok l' g hN => by have := hK l' g (by simpa [pickBy, hok] using hN); rwa [hok] at this) (fun hok => by have := hK .nils h (by simpa [pickBy, hok] using New.nil (Kept.refl h)); rwa [hok] at this)
end
end Go.E
