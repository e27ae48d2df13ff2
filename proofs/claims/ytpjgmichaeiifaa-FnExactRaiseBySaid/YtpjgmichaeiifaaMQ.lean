/- Spreading of samples. -/
import Derived.Test.YtpjgmichaeiifaaMP
import Derived.Test.YtpjgmichaeiifaaMN
set_option linter.unusedVariables false
set_option linter.unusedSimpArgs false
namespace Go.E
open Go
def L83 : LFn := ⟨2, (.seq (.reg [⟨(.some 4), (.mv (.c (.lf .nils))), none⟩])
 (.seq (.reg [⟨(.some 8), (.lit 24 1 0 [] []), none⟩, ⟨(.some 5), (.mv (.t 8)), none⟩])
 (.seq (.seq (.reg [⟨(.some 6), (.mv (.c (.lf (.int .i64 0)))), none⟩])
 (.block 0 (.loop (.seq (.seq (.reg [⟨(.some 9), (.mv (.t 6)), none⟩, ⟨(.some 10), (.mv (.t 1)), none⟩, ⟨(.some 11), (.len (.t 10)), none⟩, ⟨(.some 12), (.bin .lss (.t 9) (.t 11)), none⟩])
 (.cond (.t 12) .skip (.exit 0)))
 (.seq (.block 1 (.seq (.reg [⟨(.some 15), (.mv (.t 5)), none⟩, ⟨(.some 16), (.mv (.t 1)), none⟩, ⟨(.some 17), (.mv (.t 6)), none⟩, ⟨(.some 18), (.iaddr 1 (.t 16) (.t 17)), none⟩, ⟨(.some 19), (.load false 1 (.t 18)), none⟩, ⟨(.some 20), (.lit 24 1 1 [(.flt .f32 0)] [(0, (1, (.t 19)))]), none⟩, ⟨(.some 21), (.app 24 1 4 (.t 15) (.t 20)), none⟩, ⟨(.some 5), (.mv (.t 21)), none⟩])
 (.seq (.reg [⟨(.some 7), (.mv (.c (.lf (.int .i64 1)))), none⟩])
 (.block 2 (.loop (.seq (.seq (.reg [⟨(.some 22), (.mv (.t 7)), none⟩, ⟨(.some 23), (.mv (.t 0)), none⟩, ⟨(.some 24), (.bin .lss (.t 22) (.t 23)), none⟩])
 (.cond (.t 24) .skip (.exit 2)))
 (.seq (.block 3 (.reg [⟨(.some 27), (.mv (.t 5)), none⟩, ⟨(.some 28), (.lit 24 1 1 [(.flt .f32 0)] [(0, (1, (.c (.lf (.flt .f32 0)))))]), none⟩, ⟨(.some 29), (.app 24 1 4 (.t 27) (.t 28)), none⟩, ⟨(.some 5), (.mv (.t 29)), none⟩]))
 (.reg [⟨(.some 25), (.mv (.t 7)), none⟩, ⟨(.some 26), (.bin .add (.t 25) (.c (.lf (.int .i64 1)))), none⟩, ⟨(.some 7), (.mv (.t 26)), none⟩]))))))))
 (.reg [⟨(.some 13), (.mv (.t 6)), none⟩, ⟨(.some 14), (.bin .add (.t 13) (.c (.lf (.int .i64 1)))), none⟩, ⟨(.some 6), (.mv (.t 14)), none⟩]))))))
 (.seq (.reg [⟨(.some 30), (.mv (.t 5)), none⟩, ⟨(.some 4), (.mv (.t 30)), none⟩])
 .ret)))), [(.tmp 4)]⟩
def L84 : LFn := ⟨2, (.seq (.reg [⟨(.some 4), (.mv (.c (.lf .nils))), none⟩, ⟨(.some 5), (.mv (.c (.lf (.bool false)))), none⟩])
 (.seq (.seq (.reg [⟨(.some 9), (.mv (.t 0)), none⟩, ⟨(.some 10), (.call true 130 [(.t 9)]), none⟩, ⟨(.some 11), (.una .not (.t 10)), none⟩, ⟨(.some 12), (.mv (.t 11)), none⟩, ⟨(.some 13), (.mv (.t 1)), (.some (12, false))⟩, ⟨(.some 14), (.call true 66 [(.t 13)]), (.some (12, false))⟩, ⟨(.some 15), (.una .not (.t 14)), (.some (12, false))⟩, ⟨(.some 16), (.pick (.t 12) (.c (.lf (.bool true))) (.t 15)), none⟩, ⟨(.some 17), (.mv (.t 16)), none⟩, ⟨(.some 18), (.mv (.t 1)), (.some (17, false))⟩, ⟨(.some 19), (.len (.t 18)), (.some (17, false))⟩, ⟨(.some 20), (.call true 76 [(.t 19)]), (.some (17, false))⟩, ⟨(.some 21), (.mv (.t 0)), (.some (17, false))⟩, ⟨(.some 22), (.bin .mul (.t 20) (.t 21)), (.some (17, false))⟩, ⟨(.some 23), (.bin .gtr (.t 22) (.c (.lf (.int .i64 256)))), (.some (17, false))⟩, ⟨(.some 24), (.pick (.t 17) (.c (.lf (.bool true))) (.t 23)), none⟩])
 (.cond (.t 24) (.seq (.reg [⟨(.some 4), (.mv (.c (.lf .nils))), none⟩, ⟨(.some 5), (.mv (.c (.lf (.bool false)))), none⟩])
 .ret) .skip))
 (.seq (.reg [⟨(.some 6), (.mv (.c (.lf .nils))), none⟩])
 (.seq (.seq (.reg [⟨(.some 25), (.mv (.t 1)), none⟩, ⟨(.some 26), (.len (.t 25)), none⟩, ⟨(.some 27), (.mv (.c (.lf (.int .i64 0)))), none⟩])
 (.block 0 (.loop (.seq (.reg [⟨(.some 28), (.bin .lss (.t 27) (.t 26)), none⟩])
 (.seq (.cond (.t 28) .skip (.exit 0))
 (.seq (.block 1 (.seq (.reg [⟨(.some 29), (.iaddr 1 (.t 25) (.t 27)), none⟩, ⟨(.some 30), (.load false 1 (.t 29)), none⟩, ⟨(.some 8), (.mv (.t 30)), none⟩])
 (.reg [⟨(.some 31), (.mv (.t 6)), none⟩, ⟨(.some 32), (.mv (.t 8)), none⟩, ⟨(.some 33), (.lit 24 1 1 [(.flt .f32 0)] [(0, (1, (.t 32)))]), none⟩, ⟨(.some 34), (.app 24 1 4 (.t 31) (.t 33)), none⟩, ⟨(.some 35), (.mv (.t 0)), none⟩, ⟨(.some 36), (.bin .sub (.t 35) (.c (.lf (.int .i64 1)))), none⟩, ⟨(.some 37), (.call false 75 [(.t 36)]), none⟩, ⟨(.some 38), (.app 24 1 4 (.t 34) (.t 37)), none⟩, ⟨(.some 6), (.mv (.t 38)), none⟩])))
 (.reg [⟨(.some 39), (.bin .add (.t 27) (.c (.lf (.int .i64 1)))), none⟩, ⟨(.some 27), (.mv (.t 39)), none⟩])))))))
 (.seq (.reg [⟨(.some 40), (.mv (.t 6)), none⟩, ⟨(.some 4), (.mv (.t 40)), none⟩, ⟨(.some 5), (.mv (.c (.lf (.bool true)))), none⟩])
 .ret))))), [(.tmp 4), (.tmp 5)]⟩
class HasQ (S : Sys) : Prop extends HasP S, HasN S where
  f83 : S.fs 83 = some L83
  f84 : S.fs 84 = some L84
/-- Each of xs, and n zeros behind it. -/
def sprd (n : Nat) (xs : List Nat) : List Nat := xs.flatMap fun x => x :: List.replicate n 0
theorem sprd_len {n : Nat} : ∀ {xs : List Nat}, (sprd n xs).length = xs.length * (n + 1)
  | [] => by simp [sprd]
  | x :: xs => by
    have := sprd_len (n := n) (xs := xs)
    simp only [sprd, List.flatMap_cons, List.length_append, List.length_cons, List.length_replicate] at this ⊢
    rw [this, Nat.add_mul]; omega
theorem sprd_take {n i : Nat} {xs : List Nat} (hi : i < xs.length) : sprd n (xs.take (i + 1)) = sprd n (xs.take i) ++ (xs[i] :: List.replicate n 0) := by
  rw [List.take_succ_eq_append_getElem hi]
  simp only [sprd, List.flatMap_append, List.flatMap_cons, List.flatMap_nil, List.append_nil]
theorem sprd_take_len {n i : Nat} {xs : List Nat} (hi : i ≤ xs.length) : (sprd n (xs.take i)).length ≤ xs.length * (n + 1) := by
  rw [sprd_len]
  exact Nat.mul_le_mul_right _ (by simp; omega)
section
variable {S : Sys} {lim : Nat} {h : Hp} {K : CV → Hp → Prop} [HasQ S] {l : Lf} {xs : List Nat}
theorem c_l06Spread {f : Nat} (hf : 0 < f) (hf8 : f ≤ 8) (hA : Arr h l 1 (xs.map fl)) (hn : xs.length ≤ 256) (hl : lim ≤ h.length) (hK : ∀ l' g, New h g l' 24 1 ((sprd (f - 1) xs).map fl) → K (.lf l') g) :
    CallT S false 83 [.lf (.int .i64 f), .lf l] h lim K := by
  have hm : ∀ i, i ≤ xs.length → (sprd (f - 1) (xs.take i)).length ≤ 2048 := fun i hi => by
    have := sprd_take_len (n := f - 1) hi
    have h3 : xs.length * (f - 1 + 1) ≤ 256 * 8 := Nat.mul_le_mul hn (by omega)
    omega
  refine CallT_of_body (F := L83) (HasQ.f83) rfl ?_; unfold L83; dsimp only []
  repeat' (first | (simp (disch := first | omega | assumption | (simp [*] <;> fail) | assumption) [-Bool.decide_and, -Bool.decide_or, -Bool.not_and, -Bool.not_or, toNat_pred, toNat_succ, wrap64, wr_new, wr_new0, ok_if, ok_ifn, iadV_sl, makeV_int, decT, decF, over_at, *, leavesAll, fillL]) | (with_reducible refine Gd_split (fun hc => ?_) (fun hc => ?_) <;> (have hc2 := hc; try simp at hc2)) | (with_reducible refine Br_split (fun hc => ?_) (fun hc => ?_) <;> (have hc2 := hc; try simp at hc2)) | (with_reducible refine GdT_split (fun hc => ?_) (fun hc => ?_) <;> (have hc2 := hc; try simp at hc2)) | (with_reducible refine WT_alt ?_ ?_) | omega)
  refine WL_for xs.length (fun i a' g => i ≤ xs.length ∧ a' 0 = .lf (.int .i64 f) ∧ a' 1 = .lf l ∧ (∃ l', a' 5 = .lf l' ∧ New h g l' 24 1 ((sprd (f - 1) (xs.take i)).map fl)) ∧ a' 6 = .lf (.int .i64 i)) (fun i a' h' hi => hi.1) ?_ ⟨by simp, by simp, by simp, ⟨.sl h.length 0 0 1, by simp, by simpa [sprd] using New.lit0⟩, by simp⟩
  rintro i a' g ⟨hi, e0, e1, ⟨l', e5, hN⟩, e6⟩
  have hmi := hm i hi
  replace hA := hA.kept hN.kept
  by_cases hlt : i < xs.length
  · repeat' (first | (simp (disch := first | omega | assumption | (simp [*] <;> fail) | assumption) [-Bool.decide_and, -Bool.decide_or, -Bool.not_and, -Bool.not_or, toNat_pred, toNat_succ, wrap64, wr_new, wr_new0, ok_if, ok_ifn, iadV_sl, makeV_int, decT, decF, over_at, *, hA.len, hA.at_, hA.at_', hA.rd, hA.rdIn, hA.rdIn0, hA.rdA, hA.rdInA, hA.rdIn0A, hA.rd1, fl, leavesAll, fillL]) | (with_reducible refine Gd_split (fun hc => ?_) (fun hc => ?_) <;> (have hc2 := hc; try simp at hc2)) | (with_reducible refine Br_split (fun hc => ?_) (fun hc => ?_) <;> (have hc2 := hc; try simp at hc2)) | (with_reducible refine GdT_split (fun hc => ?_) (fun hc => ?_) <;> (have hc2 := hc; try simp at hc2)) | (with_reducible refine WT_alt ?_ ?_) | omega)
    obtain ⟨l2, g2, e, hN2, _⟩ := hN.push (lim := lim) (bytes := 4) (r := fl xs[i]) (by omega) hl rfl (by simp; omega) (by simp; omega)
    refine oc_of e ?_
    repeat' (first | (simp (disch := first | omega | assumption | (simp [*] <;> fail) | assumption) [-Bool.decide_and, -Bool.decide_or, -Bool.not_and, -Bool.not_or, toNat_pred, toNat_succ, wrap64, wr_new, wr_new0, ok_if, ok_ifn, iadV_sl, makeV_int, decT, decF, over_at, *]) | (with_reducible refine Gd_split (fun hc => ?_) (fun hc => ?_) <;> (have hc2 := hc; try simp at hc2)) | (with_reducible refine Br_split (fun hc => ?_) (fun hc => ?_) <;> (have hc2 := hc; try simp at hc2)) | (with_reducible refine GdT_split (fun hc => ?_) (fun hc => ?_) <;> (have hc2 := hc; try simp at hc2)) | (with_reducible refine WT_alt ?_ ?_) | omega)
    refine WL_for f (fun j a' g => j ≤ f - 1 ∧ a' 0 = .lf (.int .i64 f) ∧ a' 1 = .lf l ∧ (∃ l', a' 5 = .lf l' ∧ New h g l' 24 1 ((sprd (f - 1) (xs.take i) ++ (xs[i] :: List.replicate j 0)).map fl)) ∧ a' 6 = .lf (.int .i64 i) ∧ a' 7 = .lf (.int .i64 (j + 1))) (fun i a' h' hi => by omega) ?_ ⟨by omega, by simp [e0], by simp [e1], ⟨l2, by simp, by simpa using hN2⟩, by simp [e6], by simp⟩
    rintro j a' g ⟨hj, e0, e1, ⟨l', e5, hN⟩, e6, e7⟩
    by_cases hjf : j < f - 1
    · repeat' (first | (simp (disch := first | omega | assumption | (simp [*] <;> fail) | assumption) [-Bool.decide_and, -Bool.decide_or, -Bool.not_and, -Bool.not_or, toNat_pred, toNat_succ, wrap64, wr_new, wr_new0, ok_if, ok_ifn, iadV_sl, makeV_int, decT, decF, over_at, *, leavesAll, fillL]) | (with_reducible refine Gd_split (fun hc => ?_) (fun hc => ?_) <;> (have hc2 := hc; try simp at hc2)) | (with_reducible refine Br_split (fun hc => ?_) (fun hc => ?_) <;> (have hc2 := hc; try simp at hc2)) | (with_reducible refine GdT_split (fun hc => ?_) (fun hc => ?_) <;> (have hc2 := hc; try simp at hc2)) | (with_reducible refine WT_alt ?_ ?_) | omega)
      obtain ⟨l3, g3, e, hN3, _⟩ := hN.push (lim := lim) (bytes := 4) (r := fl 0) (by omega) hl rfl (by simp; omega) (by simp; omega)
      refine oc_of e ?_
      repeat' (first | (simp (disch := first | omega | assumption | (simp [*] <;> fail) | assumption) [-Bool.decide_and, -Bool.decide_or, -Bool.not_and, -Bool.not_or, toNat_pred, toNat_succ, wrap64, wr_new, wr_new0, ok_if, ok_ifn, iadV_sl, makeV_int, decT, decF, over_at, *]) | (with_reducible refine Gd_split (fun hc => ?_) (fun hc => ?_) <;> (have hc2 := hc; try simp at hc2)) | (with_reducible refine Br_split (fun hc => ?_) (fun hc => ?_) <;> (have hc2 := hc; try simp at hc2)) | (with_reducible refine GdT_split (fun hc => ?_) (fun hc => ?_) <;> (have hc2 := hc; try simp at hc2)) | (with_reducible refine WT_alt ?_ ?_) | omega)
      refine ⟨by omega, ?_⟩
      simpa [List.replicate_succ'] using hN3
    · have : j = f - 1 := by omega
      subst this
      repeat' (first | (simp (disch := first | omega | assumption | (simp [*] <;> fail) | assumption) [-Bool.decide_and, -Bool.decide_or, -Bool.not_and, -Bool.not_or, toNat_pred, toNat_succ, wrap64, wr_new, wr_new0, ok_if, ok_ifn, iadV_sl, makeV_int, decT, decF, over_at, *]) | (with_reducible refine Gd_split (fun hc => ?_) (fun hc => ?_) <;> (have hc2 := hc; try simp at hc2)) | (with_reducible refine Br_split (fun hc => ?_) (fun hc => ?_) <;> (have hc2 := hc; try simp at hc2)) | (with_reducible refine GdT_split (fun hc => ?_) (fun hc => ?_) <;> (have hc2 := hc; try simp at hc2)) | (with_reducible refine WT_alt ?_ ?_) | omega)
      refine ⟨hlt, ?_⟩
      rw [sprd_take hlt]; exact hN
  · have : i = xs.length := by omega
    subst this
    rw [List.take_length] at hN
    repeat' (first | (simp (disch := first | omega | assumption | (simp [*] <;> fail) | assumption) [-Bool.decide_and, -Bool.decide_or, -Bool.not_and, -Bool.not_or, toNat_pred, toNat_succ, wrap64, wr_new, wr_new0, ok_if, ok_ifn, iadV_sl, makeV_int, decT, decF, over_at, *, hA.len]) | (with_reducible refine Gd_split (fun hc => ?_) (fun hc => ?_) <;> (have hc2 := hc; try simp at hc2)) | (with_reducible refine Br_split (fun hc => ?_) (fun hc => ?_) <;> (have hc2 := hc; try simp at hc2)) | (with_reducible refine GdT_split (fun hc => ?_) (fun hc => ?_) <;> (have hc2 := hc; try simp at hc2)) | (with_reducible refine WT_alt ?_ ?_) | omega)
def okS (f : Int) (xs : List Nat) : Bool := decide ((1 ≤ f ∧ f ≤ 8) ∧ (xs.length : Int) ≤ 256 ∧ (xs.length : Int) * f ≤ 256)
def spreadBy (f : Int) (xs : List Nat) : List Nat := if okS f xs then sprd (f.toNat - 1) xs else []
theorem spreadBy_len {f : Int} {xs : List Nat} : (spreadBy f xs).length ≤ 256 := by
  unfold spreadBy
  split
  · rename_i hk
    simp only [okS, decide_eq_true_eq] at hk
    obtain ⟨f', rfl⟩ := Int.eq_ofNat_of_zero_le (show 0 ≤ f by omega)
    rw [sprd_len]
    have e : (f' : Int).toNat - 1 + 1 = f' := by omega
    rw [e]
    have := hk.2.2
    have h2 : ((xs.length * f' : Nat) : Int) ≤ 256 := by rw [Int.natCast_mul]; exact this
    omega
  · simp
theorem c_implSpread {f : Nat} (hf : 0 < f) (hf8 : f ≤ 8) (hA : Arr h l 1 (xs.map fl)) (hn : xs.length ≤ 256) (hl : lim ≤ h.length) (hok : (xs.length : Int) * f ≤ 256) (hw : IntKind.i64.wrap ((xs.length : Int) * f) = (xs.length : Int) * f) (hK : ∀ l' g, New h g l' 24 1 ((sprd (f - 1) xs).map fl) → K (.tup [.lf l', .lf (.bool true)]) g) :
    CallT S false 84 [.lf (.int .i64 f), .lf l] h lim K := by
  have hm : ∀ i, i ≤ xs.length → (sprd (f - 1) (xs.take i)).length ≤ 2048 := fun i hi => by
    have := sprd_take_len (n := f - 1) hi
    have h3 : xs.length * (f - 1 + 1) ≤ 256 * 8 := Nat.mul_le_mul hn (by omega)
    omega
  refine CallT_of_body (F := L84) (HasQ.f84) rfl ?_; unfold L84; dsimp only []
  repeat' (first | (simp (disch := first | omega | assumption | (simp [*] <;> fail) | assumption) [-Bool.decide_and, -Bool.decide_or, -Bool.not_and, -Bool.not_or, toNat_pred, toNat_succ, wrap64, wr_new, wr_new0, ok_if, ok_ifn, iadV_sl, makeV_int, decT, decF, over_at, *, c_areSamples hA, hA.len, hw]) | (with_reducible refine Gd_split (fun hc => ?_) (fun hc => ?_) <;> (have hc2 := hc; try simp at hc2)) | (with_reducible refine Br_split (fun hc => ?_) (fun hc => ?_) <;> (have hc2 := hc; try simp at hc2)) | (with_reducible refine GdT_split (fun hc => ?_) (fun hc => ?_) <;> (have hc2 := hc; try simp at hc2)) | (with_reducible refine WT_alt ?_ ?_) | omega)
  refine WL_for xs.length (fun i a' g => i ≤ xs.length ∧ a' 0 = .lf (.int .i64 f) ∧ a' 25 = .lf l ∧ a' 26 = .lf (.int .i64 xs.length) ∧ (∃ l', a' 6 = .lf l' ∧ New h g l' 24 1 ((sprd (f - 1) (xs.take i)).map fl)) ∧ a' 27 = .lf (.int .i64 i)) (fun i a' h' hi => hi.1) ?_ ⟨by simp, by simp, by simp, by simp, ⟨.nils, by simp, by simpa [sprd] using New.nil (Kept.refl h)⟩, by simp⟩
  rintro i a' g ⟨hi, e0, e1, e2, ⟨l', e5, hN⟩, e6⟩
  have hmi := hm i hi
  replace hA := hA.kept hN.kept
  by_cases hlt : i < xs.length
  · repeat' (first | (simp (disch := first | omega | assumption | (simp [*] <;> fail) | assumption) [-Bool.decide_and, -Bool.decide_or, -Bool.not_and, -Bool.not_or, toNat_pred, toNat_succ, wrap64, wr_new, wr_new0, ok_if, ok_ifn, iadV_sl, makeV_int, decT, decF, over_at, *, hA.len, hA.at_, hA.at_', hA.rd, hA.rdIn, hA.rdIn0, hA.rdA, hA.rdInA, hA.rdIn0A, hA.rd1, fl, leavesAll, fillL]) | (with_reducible refine Gd_split (fun hc => ?_) (fun hc => ?_) <;> (have hc2 := hc; try simp at hc2)) | (with_reducible refine Br_split (fun hc => ?_) (fun hc => ?_) <;> (have hc2 := hc; try simp at hc2)) | (with_reducible refine GdT_split (fun hc => ?_) (fun hc => ?_) <;> (have hc2 := hc; try simp at hc2)) | (with_reducible refine WT_alt ?_ ?_) | omega)
    obtain ⟨l2, g2, e, hN2, _⟩ := hN.push (lim := lim) (bytes := 4) (r := fl xs[i]) (by omega) hl rfl (by simp; omega) (by simp; omega)
    refine oc_of e ?_
    repeat' (first | (simp (disch := first | omega | assumption | (simp [*] <;> fail) | assumption) [-Bool.decide_and, -Bool.decide_or, -Bool.not_and, -Bool.not_or, toNat_pred, toNat_succ, wrap64, wr_new, wr_new0, ok_if, ok_ifn, iadV_sl, makeV_int, decT, decF, over_at, *]) | (with_reducible refine Gd_split (fun hc => ?_) (fun hc => ?_) <;> (have hc2 := hc; try simp at hc2)) | (with_reducible refine Br_split (fun hc => ?_) (fun hc => ?_) <;> (have hc2 := hc; try simp at hc2)) | (with_reducible refine GdT_split (fun hc => ?_) (fun hc => ?_) <;> (have hc2 := hc; try simp at hc2)) | (with_reducible refine WT_alt ?_ ?_) | omega)
    have ef : ((f : Int) - 1) = ((f - 1 : Nat) : Int) := by omega
    rw [ef]
    have k2 := hN2.kept.1
    refine c_zeros (by omega) (by omega) fun lz g3 hZ => ?_
    obtain ⟨l4, g4, e4, hN4, _⟩ := (hN2.later hZ.kept).append (lim := lim) (bytes := 4) (new := (List.replicate (f - 1) 0).map fl) (by omega) hl hZ.src (fun i r hi => by
      simp only [List.map_replicate, List.getElem?_replicate] at hi
      split at hi
      · injection hi with hi; subst hi; rfl
      · cases hi) (by simp; omega) (by simp; omega)
    repeat' (first | (simp (disch := first | omega | assumption | (simp [*] <;> fail) | assumption) [-Bool.decide_and, -Bool.decide_or, -Bool.not_and, -Bool.not_or, toNat_pred, toNat_succ, wrap64, wr_new, wr_new0, ok_if, ok_ifn, iadV_sl, makeV_int, decT, decF, over_at, *]) | (with_reducible refine Gd_split (fun hc => ?_) (fun hc => ?_) <;> (have hc2 := hc; try simp at hc2)) | (with_reducible refine Br_split (fun hc => ?_) (fun hc => ?_) <;> (have hc2 := hc; try simp at hc2)) | (with_reducible refine GdT_split (fun hc => ?_) (fun hc => ?_) <;> (have hc2 := hc; try simp at hc2)) | (with_reducible refine WT_alt ?_ ?_) | omega)
    refine ⟨hlt, ?_⟩
    rw [sprd_take hlt]
    simpa using hN4
  · have : i = xs.length := by omega
    subst this
    rw [List.take_length] at hN
    repeat' (first | (simp (disch := first | omega | assumption | (simp [*] <;> fail) | assumption) [-Bool.decide_and, -Bool.decide_or, -Bool.not_and, -Bool.not_or, toNat_pred, toNat_succ, wrap64, wr_new, wr_new0, ok_if, ok_ifn, iadV_sl, makeV_int, decT, decF, over_at, *, hA.len]) | (with_reducible refine Gd_split (fun hc => ?_) (fun hc => ?_) <;> (have hc2 := hc; try simp at hc2)) | (with_reducible refine Br_split (fun hc => ?_) (fun hc => ?_) <;> (have hc2 := hc; try simp at hc2)) | (with_reducible refine GdT_split (fun hc => ?_) (fun hc => ?_) <;> (have hc2 := hc; try simp at hc2)) | (with_reducible refine WT_alt ?_ ?_) | omega)
theorem d_implSpreadBy {f : Int} (hA : Arr h l 1 (xs.map fl)) (hl : lim ≤ h.length) (hK : ∀ l' g, New h g l' 24 1 ((spreadBy f xs).map fl) → K (.tup [.lf l', .lf (.bool (okS f xs))]) g) :
    CallT S false 84 [.lf (.int .i64 f), .lf l] h lim K := by
  cases hok : okS f xs
  · have hK2 := hK .nils h (by simpa [spreadBy, hok] using New.nil (Kept.refl h))
    rw [hok] at hK2
    clear hK
    simp only [okS, decide_eq_false_iff_not] at hok
    by_cases h1 : (1 ≤ f ∧ f ≤ 8) ∧ (xs.length : Int) ≤ 256
    · have hw : IntKind.i64.wrap (↑xs.length * f) = ↑xs.length * f := by
        obtain ⟨f', rfl⟩ := Int.eq_ofNat_of_zero_le (show 0 ≤ f by omega)
        have h3 : xs.length * f' ≤ 256 * 8 := Nat.mul_le_mul (by omega) (by omega)
        rw [← Int.natCast_mul]
        exact wrap64 (by omega) (by omega)
      have h2 : ¬ (↑xs.length * f ≤ 256) := fun h => hok ⟨h1.1, h1.2, h⟩
      refine CallT_of_body (F := L84) (HasQ.f84) rfl ?_; unfold L84; dsimp only []
      repeat' (first | (simp (disch := first | omega | assumption | (simp [*] <;> fail) | assumption) [-Bool.decide_and, -Bool.decide_or, -Bool.not_and, -Bool.not_or, toNat_pred, toNat_succ, wrap64, wr_new, wr_new0, ok_if, ok_ifn, iadV_sl, makeV_int, decT, decF, over_at, *, c_areSamples hA, hA.len, hw]) | (with_reducible refine Gd_split (fun hc => ?_) (fun hc => ?_) <;> (have hc2 := hc; try simp at hc2)) | (with_reducible refine Br_split (fun hc => ?_) (fun hc => ?_) <;> (have hc2 := hc; try simp at hc2)) | (with_reducible refine GdT_split (fun hc => ?_) (fun hc => ?_) <;> (have hc2 := hc; try simp at hc2)) | (with_reducible refine WT_alt ?_ ?_) | omega)
    · refine CallT_of_body (F := L84) (HasQ.f84) rfl ?_; unfold L84; dsimp only []
      repeat' (first | (simp (disch := first | omega | assumption | (simp [*] <;> fail) | assumption) [-Bool.decide_and, -Bool.decide_or, -Bool.not_and, -Bool.not_or, toNat_pred, toNat_succ, wrap64, wr_new, wr_new0, ok_if, ok_ifn, iadV_sl, makeV_int, decT, decF, over_at, *, c_areSamples hA, hA.len]) | (with_reducible refine Gd_split (fun hc => ?_) (fun hc => ?_) <;> (have hc2 := hc; try simp at hc2)) | (with_reducible refine Br_split (fun hc => ?_) (fun hc => ?_) <;> (have hc2 := hc; try simp at hc2)) | (with_reducible refine GdT_split (fun hc => ?_) (fun hc => ?_) <;> (have hc2 := hc; try simp at hc2)) | (with_reducible refine WT_alt ?_ ?_) | omega)
  · have hK2 := fun l' g => hK l' g
    simp only [spreadBy, hok, if_true] at hK2
    clear hK
    simp only [okS, decide_eq_true_eq] at hok
    obtain ⟨f', rfl⟩ := Int.eq_ofNat_of_zero_le (show 0 ≤ f by omega)
    have hw : IntKind.i64.wrap (↑xs.length * ↑f') = ↑xs.length * ↑f' := by
      have h3 : xs.length * f' ≤ 256 * 8 := Nat.mul_le_mul (by omega) (by omega)
      rw [← Int.natCast_mul]
      exact wrap64 (by omega) (by omega)
    exact c_implSpread (by omega) (by omega) hA (by omega) hl hok.2.2 hw fun l' g hN => hK2 _ _ (by simpa using hN)
end
end Go.E
