/- A filter forward and backward. -/
import Derived.Test.YtonfalhekphaeaaMFr
import Derived.Test.YtonfalhekphaeaaMSm
import Derived.Test.YtonfalhekphaeaaMIo
set_option linter.unusedVariables false
set_option linter.unusedSimpArgs false
namespace Go.E
open Go
def L118 : LFn := ⟨1, (.seq (.reg [⟨(.some 2), (.mv (.c (.lf .nils))), none⟩])
 (.seq (.reg [⟨(.some 5), (.lit 42 1 0 [] []), none⟩, ⟨(.some 3), (.mv (.t 5)), none⟩])
 (.seq (.seq (.reg [⟨(.some 6), (.mv (.t 0)), none⟩, ⟨(.some 7), (.len (.t 6)), none⟩, ⟨(.some 8), (.bin .sub (.t 7) (.c (.lf (.int .i64 1)))), none⟩, ⟨(.some 4), (.mv (.t 8)), none⟩])
 (.block 0 (.loop (.seq (.seq (.reg [⟨(.some 9), (.mv (.t 4)), none⟩, ⟨(.some 10), (.bin .geq (.t 9) (.c (.lf (.int .i64 0)))), none⟩])
 (.cond (.t 10) .skip (.exit 0)))
 (.seq (.block 1 (.reg [⟨(.some 13), (.mv (.t 3)), none⟩, ⟨(.some 14), (.mv (.t 0)), none⟩, ⟨(.some 15), (.mv (.t 4)), none⟩, ⟨(.some 16), (.iaddr 1 (.t 14) (.t 15)), none⟩, ⟨(.some 17), (.load false 1 (.t 16)), none⟩, ⟨(.some 18), (.lit 42 1 1 [(.flt .f32 0)] [(0, (1, (.t 17)))]), none⟩, ⟨(.some 19), (.app 42 1 4 (.t 13) (.t 18)), none⟩, ⟨(.some 3), (.mv (.t 19)), none⟩]))
 (.reg [⟨(.some 11), (.mv (.t 4)), none⟩, ⟨(.some 12), (.bin .sub (.t 11) (.c (.lf (.int .i64 1)))), none⟩, ⟨(.some 4), (.mv (.t 12)), none⟩]))))))
 (.seq (.reg [⟨(.some 20), (.mv (.t 3)), none⟩, ⟨(.some 2), (.mv (.t 20)), none⟩])
 .ret)))), [(.tmp 2)]⟩
def L52 : LFn := ⟨2, (.seq (.reg [⟨(.some 2), (.box 58 (.t 0)), none⟩, ⟨(.some 4), (.mv (.c (.lf .nils))), none⟩, ⟨(.some 5), (.mv (.c (.lf (.bool false)))), none⟩])
 (.seq (.seq (.reg [⟨(.some 10), (.mv (.t 1)), none⟩, ⟨(.some 11), (.call true 72 [(.t 10)]), none⟩, ⟨(.some 12), (.una .not (.t 11)), none⟩])
 (.cond (.t 12) (.seq (.reg [⟨(.some 4), (.mv (.c (.lf .nils))), none⟩, ⟨(.some 5), (.mv (.c (.lf (.bool false)))), none⟩])
 .ret) .skip))
 (.seq (.reg [⟨(.some 14), (.build [(.flt .f32 0), (.flt .f32 0), (.flt .f32 0), (.flt .f32 0)] []), none⟩, ⟨(.some 15), (.mv (.t 1)), none⟩, ⟨(.some 16), (.call false 102 [(.t 2), (.c (.lf (.int .i64 0))), (.c (.lf (.bool false))), (.t 14), (.t 15)]), none⟩, ⟨(.some 13), (.mv (.t 16)), none⟩, ⟨(.some 17), (.ext (.t 13) 0), none⟩, ⟨(.some 18), (.ext (.t 13) 1), none⟩, ⟨(.some 7), (.alloc 125 [(.flt .f32 0), (.flt .f32 0), (.flt .f32 0), (.flt .f32 0)]), none⟩, ⟨(.some 6), (.mv (.t 17)), none⟩, ⟨none, (.store 4 (.t 7) (.t 18)), none⟩])
 (.seq (.reg [⟨(.some 20), (.build [(.flt .f32 0), (.flt .f32 0), (.flt .f32 0), (.flt .f32 0)] []), none⟩, ⟨(.some 21), (.mv (.t 6)), none⟩, ⟨(.some 22), (.call false 118 [(.t 21)]), none⟩, ⟨(.some 23), (.call false 102 [(.t 2), (.c (.lf (.int .i64 0))), (.c (.lf (.bool false))), (.t 20), (.t 22)]), none⟩, ⟨(.some 19), (.mv (.t 23)), none⟩, ⟨(.some 24), (.ext (.t 19) 0), none⟩, ⟨(.some 25), (.ext (.t 19) 1), none⟩, ⟨(.some 9), (.alloc 125 [(.flt .f32 0), (.flt .f32 0), (.flt .f32 0), (.flt .f32 0)]), none⟩, ⟨(.some 8), (.mv (.t 24)), none⟩, ⟨none, (.store 4 (.t 9) (.t 25)), none⟩])
 (.seq (.reg [⟨(.some 26), (.mv (.t 8)), none⟩, ⟨(.some 27), (.call false 118 [(.t 26)]), none⟩, ⟨(.some 4), (.mv (.t 27)), none⟩, ⟨(.some 5), (.mv (.c (.lf (.bool true)))), none⟩])
 .ret))))), [(.tmp 4), (.tmp 5)]⟩
def L120 : LFn := ⟨1, (.seq (.reg [⟨(.some 4), (.mv (.t 0)), none⟩, ⟨(.some 5), (.len (.t 4)), none⟩, ⟨(.some 6), (.bin .sub (.t 5) (.c (.lf (.int .i64 1)))), none⟩, ⟨(.some 2), (.mv (.c (.lf (.int .i64 0)))), none⟩, ⟨(.some 3), (.mv (.t 6)), none⟩])
 (.block 0 (.loop (.seq (.seq (.reg [⟨(.some 7), (.mv (.t 2)), none⟩, ⟨(.some 8), (.mv (.t 3)), none⟩, ⟨(.some 9), (.bin .lss (.t 7) (.t 8)), none⟩])
 (.cond (.t 9) .skip (.exit 0)))
 (.seq (.block 1 (.reg [⟨(.some 14), (.mv (.t 0)), none⟩, ⟨(.some 15), (.mv (.t 2)), none⟩, ⟨(.some 16), (.mv (.t 0)), none⟩, ⟨(.some 17), (.mv (.t 3)), none⟩, ⟨(.some 18), (.mv (.t 0)), none⟩, ⟨(.some 19), (.mv (.t 3)), none⟩, ⟨(.some 20), (.iaddr 1 (.t 18) (.t 19)), none⟩, ⟨(.some 21), (.load false 1 (.t 20)), none⟩, ⟨(.some 22), (.mv (.t 0)), none⟩, ⟨(.some 23), (.mv (.t 2)), none⟩, ⟨(.some 24), (.iaddr 1 (.t 22) (.t 23)), none⟩, ⟨(.some 25), (.load false 1 (.t 24)), none⟩, ⟨(.some 26), (.iaddr 1 (.t 14) (.t 15)), none⟩, ⟨none, (.store 1 (.t 26) (.t 21)), none⟩, ⟨(.some 27), (.iaddr 1 (.t 16) (.t 17)), none⟩, ⟨none, (.store 1 (.t 27) (.t 25)), none⟩]))
 (.reg [⟨(.some 10), (.mv (.t 2)), none⟩, ⟨(.some 11), (.bin .add (.t 10) (.c (.lf (.int .i64 1)))), none⟩, ⟨(.some 12), (.mv (.t 3)), none⟩, ⟨(.some 13), (.bin .sub (.t 12) (.c (.lf (.int .i64 1)))), none⟩, ⟨(.some 2), (.mv (.t 11)), none⟩, ⟨(.some 3), (.mv (.t 13)), none⟩])))))), []⟩
def L53 : LFn := ⟨2, (.seq (.reg [⟨(.some 2), (.box 58 (.t 0)), none⟩, ⟨(.some 4), (.mv (.c (.lf .nils))), none⟩, ⟨(.some 5), (.mv (.c (.lf (.bool false)))), none⟩])
 (.seq (.seq (.reg [⟨(.some 8), (.mv (.t 1)), none⟩, ⟨(.some 9), (.call true 77 [(.t 8)]), none⟩, ⟨(.some 10), (.una .not (.t 9)), none⟩])
 (.cond (.t 10) (.seq (.reg [⟨(.some 4), (.mv (.c (.lf .nils))), none⟩, ⟨(.some 5), (.mv (.c (.lf (.bool false)))), none⟩])
 .ret) .skip))
 (.seq (.reg [⟨(.some 11), (.mv (.t 1)), none⟩, ⟨(.some 12), (.call false 119 [(.t 11)]), none⟩, ⟨(.some 6), (.mv (.t 12)), none⟩])
 (.seq (.seq (.reg [⟨(.some 7), (.mv (.c (.lf (.int .i64 0)))), none⟩])
 (.block 0 (.loop (.seq (.seq (.reg [⟨(.some 13), (.mv (.t 7)), none⟩, ⟨(.some 14), (.bin .lss (.t 13) (.c (.lf (.int .i64 2)))), none⟩])
 (.cond (.t 14) .skip (.exit 0)))
 (.seq (.block 1 (.seq (.reg [⟨(.some 18), (.load true 5 (.t 2)), none⟩, ⟨(.some 19), (.build [(.flt .f32 0), (.flt .f32 0), (.flt .f32 0), (.flt .f32 0)] []), none⟩, ⟨(.some 20), (.mv (.t 6)), none⟩, ⟨(.some 21), (.call false 104 [(.t 18), (.c (.lf (.int .i64 0))), (.c (.lf (.bool false))), (.t 19), (.t 20)]), none⟩, ⟨(.some 17), (.mv (.t 21)), none⟩, ⟨(.some 22), (.ext (.t 17) 0), none⟩, ⟨(.some 23), (.ext (.t 17) 1), none⟩, ⟨(.some 6), (.mv (.t 22)), none⟩])
 (.reg [⟨(.some 24), (.mv (.t 6)), none⟩, ⟨(.some 25), (.call false 120 [(.t 24)]), none⟩])))
 (.reg [⟨(.some 15), (.mv (.t 7)), none⟩, ⟨(.some 16), (.bin .add (.t 15) (.c (.lf (.int .i64 1)))), none⟩, ⟨(.some 7), (.mv (.t 16)), none⟩]))))))
 (.seq (.reg [⟨(.some 26), (.mv (.t 6)), none⟩, ⟨(.some 4), (.mv (.t 26)), none⟩, ⟨(.some 5), (.mv (.c (.lf (.bool true)))), none⟩])
 .ret))))), [(.tmp 4), (.tmp 5)]⟩
class HasBw (S : Sys) : Prop extends HasFr S, HasP S, HasCn S where
  f118 : S.fs 118 = some L118
  f52 : S.fs 52 = some L52
  f120 : S.fs 120 = some L120
  f53 : S.fs 53 = some L53
def revN (xs : List Nat) (j : Nat) : Nat := xs.getD (xs.length - 1 - j) 0
def rev (xs : List Nat) : List Nat := tabTo (revN xs) xs.length
theorem rev_len {xs : List Nat} : (rev xs).length = xs.length := by simp [rev, tabTo_len]
/-- The first i and the last i in each other's places. -/
def swpN (xs : List Nat) (i j : Nat) : Nat := if j < i ∨ xs.length - i ≤ j then revN xs j else xs.getD j 0
def swpTo (xs : List Nat) (i : Nat) : List Nat := tabTo (swpN xs i) xs.length
theorem swpTo_len {xs : List Nat} {i : Nat} : (swpTo xs i).length = xs.length := by simp [swpTo, tabTo_len]
theorem tabTo_get {f : Nat → Nat} {n j : Nat} (hj : j < (tabTo f n).length) : (tabTo f n)[j] = f j := by simp [tabTo]
theorem swpTo_zero {xs : List Nat} : swpTo xs 0 = xs := by
  apply List.ext_getElem swpTo_len
  intro j h1 h2
  rw [swpTo_len] at h1
  simp only [swpTo, tabTo_get, swpN]
  rw [if_neg (by omega)]
  simp [h1]
theorem swpTo_mid {xs : List Nat} {i j : Nat} (h1 : i ≤ j) (h2 : j < xs.length - i) (h3 : j < (swpTo xs i).length) : (swpTo xs i)[j] = xs[j]'(by omega) := by
  simp only [swpTo, tabTo_get, swpN]
  rw [if_neg (by omega)]
  have : j < xs.length := by omega
  simp [this]
theorem swpTo_step {xs : List Nat} {i k : Nat} (hk : k = xs.length - 1 - i) (hi : i < k) : ((swpTo xs i).set i (xs[k]'(by omega))).set k (xs[i]'(by omega)) = swpTo xs (i + 1) := by
  apply List.ext_getElem
  · simp [swpTo_len]
  intro j h1 h2
  rw [swpTo_len] at h2
  simp only [List.getElem_set, swpTo, tabTo_get, swpN]
  by_cases e1 : k = j
  · subst e1
    rw [if_pos rfl, if_pos (by omega)]
    have : xs.length - 1 - k = i := by omega
    simp only [revN, this]
    have : i < xs.length := by omega
    simp [this]
  · rw [if_neg e1]
    by_cases e2 : i = j
    · subst e2
      rw [if_pos rfl, if_pos (by omega)]
      simp only [revN, ← hk]
      have : k < xs.length := by omega
      simp [this]
    · rw [if_neg e2]
      by_cases h : j < i ∨ xs.length - i ≤ j
      · rw [if_pos h, if_pos (by omega)]
      · rw [if_neg h, if_neg (by omega)]
theorem swpTo_all {xs : List Nat} {i : Nat} (hi : xs.length ≤ 2 * i + 1) : swpTo xs i = rev xs := by
  apply List.ext_getElem
  · rw [swpTo_len, rev_len]
  intro j h1 h2
  rw [swpTo_len] at h1
  simp only [rev, swpTo, tabTo_get, swpN]
  by_cases h : j < i ∨ xs.length - i ≤ j
  · rw [if_pos h]
  · rw [if_neg h]
    have : xs.length - 1 - j = j := by omega
    simp only [revN, this]
theorem CF_rev {xs : List Nat} (h : ∀ x ∈ xs, CF x) : ∀ x ∈ rev xs, CF x := by
  intro x hx
  obtain ⟨j, hj, rfl⟩ := List.getElem_of_mem hx
  rw [rev_len] at hj
  simp only [rev, tabTo_get, revN]
  have : xs.length - 1 - j < xs.length := by omega
  have e : xs.getD (xs.length - 1 - j) 0 = xs[xs.length - 1 - j] := by simp [this]
  rw [e]
  exact h _ (List.getElem_mem this)
theorem CF_scan {f : Fil} {form : Int} {fb : Bool} {m : Mem} {xs : List Nat} (hm : m.CF) (hx : ∀ x ∈ xs, CF x) : ∀ y ∈ (scan (stepF f form fb) m xs).1, CF y := by
  have key : ∀ i, i ≤ xs.length → ∀ y ∈ outTo (stepF f form fb) m xs i, CF y := by
    intro i
    induction i with
    | zero => intro _ y hy; simp at hy
    | succ i ih =>
      intro hi y hy
      rw [outTo_succ (by omega)] at hy
      rcases List.mem_append.1 hy with h1 | h1
      · exact ih (by omega) y h1
      · rw [List.mem_singleton] at h1
        rw [h1]
        exact (CF_step (st_CF hm hx (by omega)) (hx _ (List.getElem_mem (by omega)))).1
  have := key xs.length (Nat.le_refl _)
  rwa [outTo_all] at this
noncomputable def onceB (f : Fil) (xs : List Nat) : List Nat := rev (scan (stepF f 0 false) Mem.zero xs).1
theorem onceB_len {f : Fil} {xs : List Nat} : (onceB f xs).length = xs.length := by rw [onceB, rev_len, scan_len]
theorem onceB_CF {f : Fil} {xs : List Nat} (hx : ∀ x ∈ xs, CF x) : ∀ x ∈ onceB f xs, CF x := CF_rev (CF_scan CF_memz hx)
noncomputable def itB (f : Fil) (xs : List Nat) : Nat → List Nat
  | 0 => xs
  | i + 1 => onceB f (itB f xs i)
theorem itB_len {f : Fil} {xs : List Nat} : ∀ {i : Nat}, (itB f xs i).length = xs.length
  | 0 => rfl
  | i + 1 => by rw [itB, onceB_len]; exact itB_len
theorem itB_CF {f : Fil} {xs : List Nat} (hx : ∀ x ∈ xs, CF x) : ∀ {i : Nat}, ∀ x ∈ itB f xs i, CF x
  | 0 => hx
  | i + 1 => onceB_CF (itB_CF hx)
theorem But.again {g g1 g2 : Hp} {l : Lf} (a : But g g1 l l) (b : But g1 g2 l l) : But g g2 l l :=
  ⟨Nat.le_trans a.len b.len, fun id h1 h2 => by rw [b.same id (Nat.lt_of_lt_of_le h1 a.len) h2, a.same id h1 h2], .inl rfl⟩
noncomputable def bothB (f : Fil) (xs : List Nat) : List Nat := if xs.length ≤ 256 then onceB f (onceB f xs) else []
theorem bothB_len {f : Fil} {xs : List Nat} : (bothB f xs).length ≤ 256 := by
  unfold bothB
  split
  · rw [onceB_len, onceB_len]; assumption
  · simp
section
variable {S : Sys} {lim : Nat} {h : Hp} {K : CV → Hp → Prop} [HasBw S] {l : Lf} {xs : List Nat}
theorem c_l02Turned (hA : Arr h l 1 (xs.map fl)) (hn : xs.length ≤ 100000) (hl : lim ≤ h.length) (hK : ∀ o g, New h g o 42 1 ((rev xs).map fl) → K (.lf o) g) : CallT S false 118 [.lf l] h lim K := by
  refine CallT_of_body (F := L118) (HasBw.f118) rfl ?_; unfold L118; dsimp only []
  repeat' (first | (simp (disch := first | omega | assumption | (simp only [List.length_set]; omega) | (simp [*] <;> fail) | assumption) [-Bool.decide_and, -Bool.decide_or, -Bool.not_and, -Bool.not_or, toNat_pred, toNat_succ, wrap64, wr_new, wr_new0, ok_if, ok_ifn, iadV_sl, makeV_int, decT, decF, over_at, *, hA.len, hA.at_, hA.at_', hA.rd, hA.rdIn, hA.rdIn0, hA.rdA, hA.rdInA, hA.rdIn0A, leavesAll, fillL]) | (with_reducible refine Gd_split (fun hc => ?_) (fun hc => ?_) <;> (have hc2 := hc; try simp at hc2)) | (with_reducible refine Br_split (fun hc => ?_) (fun hc => ?_) <;> (have hc2 := hc; try simp at hc2)) | (with_reducible refine GdT_split (fun hc => ?_) (fun hc => ?_) <;> (have hc2 := hc; try simp at hc2)) | (with_reducible refine WT_alt ?_ ?_) | omega)
  refine WL_forM 1048088 (by decide +kernel) (xs.length) (fun i b g => i ≤ xs.length ∧ b 4 = .lf (.int .i64 (xs.length - 1 - i)) ∧ ∃ o, b 3 = .lf o ∧ New h g o 42 1 ((tabTo (revN xs) i).map fl)) (fun _ _ _ hi => hi.1) ⟨by simp, by simp, .sl h.length 0 0 1, by simp, by simpa using New.lit0⟩ ?_
  rintro i b g ⟨hi, e4, o, e3, hN⟩
  have hA1 := hA.kept hN.kept
  have hl1 := tabTo_len (f := revN xs) (n := i)
  by_cases hlt : i < xs.length
  · obtain ⟨k, hk⟩ : ∃ k : Nat, k = xs.length - 1 - i := ⟨_, rfl⟩
    have hk2 : ((xs.length : Int) - 1 - i) = (k : Int) := by omega
    rw [hk2] at e4
    have hk3 : k < xs.length := by omega
    have s1 : (tabTo (revN xs) (i + 1)).map fl = (tabTo (revN xs) i).map fl ++ [[.flt .f32 xs[k]]] := by rw [tabTo_fl]; simp [revN, ← hk, hk3]
    have hk4 : Hid (k + 1 + i = xs.length) := by show k + 1 + i = xs.length; omega
    clear hK hk
    repeat' (first | (simp (disch := first | omega | assumption | (simp only [List.length_set]; omega) | (simp [*] <;> fail) | assumption) [-Bool.decide_and, -Bool.decide_or, -Bool.not_and, -Bool.not_or, toNat_pred, toNat_succ, wrap64, wr_new, wr_new0, ok_if, ok_ifn, iadV_sl, makeV_int, decT, decF, over_at, *, hA1.len, hA1.at_, hA1.at_', hA1.rd, hA1.rdIn, hA1.rdIn0, hA1.rdA, hA1.rdInA, hA1.rdIn0A, hA1.rd1, fl, leavesAll, fillL]) | (with_reducible refine Gd_split (fun hc => ?_) (fun hc => ?_) <;> (have hc2 := hc; try simp at hc2)) | (with_reducible refine Br_split (fun hc => ?_) (fun hc => ?_) <;> (have hc2 := hc; try simp at hc2)) | (with_reducible refine GdT_split (fun hc => ?_) (fun hc => ?_) <;> (have hc2 := hc; try simp at hc2)) | (with_reducible refine WT_alt ?_ ?_) | omega)
    refine oc_push hN hl (by simp; omega) fun p g1 hP hC => ?_
    rw [← s1] at hP
    clear s1 hk2
    replace hk4 : k + 1 + i = xs.length := hk4
    repeat' (first | (simp (disch := first | omega | assumption | (simp only [List.length_set]; omega) | (simp [*] <;> fail) | assumption) [-Bool.decide_and, -Bool.decide_or, -Bool.not_and, -Bool.not_or, toNat_pred, toNat_succ, wrap64, wr_new, wr_new0, ok_if, ok_ifn, iadV_sl, makeV_int, decT, decF, over_at, *]) | (with_reducible refine Gd_split (fun hc => ?_) (fun hc => ?_) <;> (have hc2 := hc; try simp at hc2)) | (with_reducible refine Br_split (fun hc => ?_) (fun hc => ?_) <;> (have hc2 := hc; try simp at hc2)) | (with_reducible refine GdT_split (fun hc => ?_) (fun hc => ?_) <;> (have hc2 := hc; try simp at hc2)) | (with_reducible refine WT_alt ?_ ?_) | omega)
    all_goals ((repeat' apply And.intro) <;> first | omega | assumption)
  · have : i = xs.length := by omega
    subst this
    repeat' (first | (simp (disch := first | omega | assumption | (simp only [List.length_set]; omega) | (simp [*] <;> fail) | assumption) [-Bool.decide_and, -Bool.decide_or, -Bool.not_and, -Bool.not_or, toNat_pred, toNat_succ, wrap64, wr_new, wr_new0, ok_if, ok_ifn, iadV_sl, makeV_int, decT, decF, over_at, *]) | (with_reducible refine Gd_split (fun hc => ?_) (fun hc => ?_) <;> (have hc2 := hc; try simp at hc2)) | (with_reducible refine Br_split (fun hc => ?_) (fun hc => ?_) <;> (have hc2 := hc; try simp at hc2)) | (with_reducible refine GdT_split (fun hc => ?_) (fun hc => ?_) <;> (have hc2 := hc; try simp at hc2)) | (with_reducible refine WT_alt ?_ ?_) | omega)
    all_goals ((repeat' apply And.intro) <;> first | omega | assumption | exact hK _ _ hN)
theorem c_reverse {h1 : Hp} (hN : New h h1 l 42 1 (xs.map fl)) (hn : xs.length ≤ 100000) (hl : lim ≤ h.length) (hK : ∀ g, New h g l 42 1 ((rev xs).map fl) → But h1 g l l → K (.tup []) g) : CallT S false 120 [.lf l] h1 lim K := by
  refine CallT_of_body (F := L120) (HasBw.f120) rfl ?_; unfold L120; dsimp only []
  repeat' (first | (simp (disch := first | omega | assumption | (simp only [List.length_set]; omega) | (simp [*] <;> fail) | assumption) [-Bool.decide_and, -Bool.decide_or, -Bool.not_and, -Bool.not_or, toNat_pred, toNat_succ, wrap64, wr_new, wr_new0, ok_if, ok_ifn, iadV_sl, makeV_int, decT, decF, over_at, *, hN.arr.len]) | (with_reducible refine Gd_split (fun hc => ?_) (fun hc => ?_) <;> (have hc2 := hc; try simp at hc2)) | (with_reducible refine Br_split (fun hc => ?_) (fun hc => ?_) <;> (have hc2 := hc; try simp at hc2)) | (with_reducible refine GdT_split (fun hc => ?_) (fun hc => ?_) <;> (have hc2 := hc; try simp at hc2)) | (with_reducible refine WT_alt ?_ ?_) | omega)
  refine WL_forM 268435340 (by decide +kernel) (xs.length) (fun i b g => i ≤ xs.length ∧ b 2 = .lf (.int .i64 i) ∧ b 3 = .lf (.int .i64 (xs.length - 1 - i)) ∧ New h g l 42 1 ((swpTo xs i).map fl) ∧ But h1 g l l) (fun _ _ _ hi => hi.1) ⟨by simp, by simp, by simp, by rw [swpTo_zero]; exact hN, ⟨Nat.le_refl _, fun _ _ _ => rfl, .inl rfl⟩⟩ ?_
  rintro i b g ⟨hi, e2, e3, hM, hB⟩
  by_cases hlt : (i : Int) < xs.length - 1 - i
  · obtain ⟨k, hk⟩ : ∃ k : Nat, k = xs.length - 1 - i := ⟨_, rfl⟩
    have hk2 : ((xs.length : Int) - 1 - i) = (k : Int) := by omega
    rw [hk2] at e3 hlt
    have hik : i < k := by omega
    have hk3 : k < xs.length := by omega
    have hi3 : i < xs.length := by omega
    have hi4 : i < (swpTo xs i).length := by rw [swpTo_len]; exact hi3
    have hk5 : k < (swpTo xs i).length := by rw [swpTo_len]; exact hk3
    have s1 : ((swpTo xs i).set i xs[k]).set k xs[i] = swpTo xs (i + 1) := swpTo_step hk hik
    have z1 : (swpTo xs i)[i] = xs[i] := swpTo_mid (Nat.le_refl _) (by omega) _
    have z2 : (swpTo xs i)[k] = xs[k] := swpTo_mid (by omega) (by omega) _
    have hk4 : Hid (k + 1 + i = xs.length) := by show k + 1 + i = xs.length; omega
    have hC := hM.arr
    have hsl := swpTo_len (xs := xs) (i := i)
    clear hK hk
    repeat' (first | (simp (disch := first | omega | assumption | (simp only [List.length_set]; omega) | (simp [*] <;> fail) | assumption) [-Bool.decide_and, -Bool.decide_or, -Bool.not_and, -Bool.not_or, toNat_pred, toNat_succ, wrap64, wr_new, wr_new0, ok_if, ok_ifn, iadV_sl, makeV_int, decT, decF, over_at, *, hC.len, hC.at_, hC.at_', hC.rd, hC.rdIn, hC.rdIn0, hC.rdA, hC.rdInA, hC.rdIn0A, hC.rd1, fl]) | (with_reducible refine Gd_split (fun hc => ?_) (fun hc => ?_) <;> (have hc2 := hc; try simp at hc2)) | (with_reducible refine Br_split (fun hc => ?_) (fun hc => ?_) <;> (have hc2 := hc; try simp at hc2)) | (with_reducible refine GdT_split (fun hc => ?_) (fun hc => ?_) <;> (have hc2 := hc; try simp at hc2)) | (with_reducible refine WT_alt ?_ ?_) | omega)
    refine oc_wr hM (by simp; omega) hl fun g1 hM1 hB1 => ?_
    rw [fl_set] at hM1
    have hD := hM1.arr
    repeat' (first | (simp (disch := first | omega | assumption | (simp only [List.length_set]; omega) | (simp [*] <;> fail) | assumption) [-Bool.decide_and, -Bool.decide_or, -Bool.not_and, -Bool.not_or, toNat_pred, toNat_succ, wrap64, wr_new, wr_new0, ok_if, ok_ifn, iadV_sl, makeV_int, decT, decF, over_at, *, hD.len, hD.at_, hD.at_', hD.rd, hD.rdIn, hD.rdIn0, hD.rdA, hD.rdInA, hD.rdIn0A]) | (with_reducible refine Gd_split (fun hc => ?_) (fun hc => ?_) <;> (have hc2 := hc; try simp at hc2)) | (with_reducible refine Br_split (fun hc => ?_) (fun hc => ?_) <;> (have hc2 := hc; try simp at hc2)) | (with_reducible refine GdT_split (fun hc => ?_) (fun hc => ?_) <;> (have hc2 := hc; try simp at hc2)) | (with_reducible refine WT_alt ?_ ?_) | omega)
    refine oc_wr hM1 (by simp; omega) hl fun g2 hM2 hB2 => ?_
    rw [fl_set, s1] at hM2
    have hB3 := (hB.again hB1).again hB2
    clear s1 z1 z2 hM1 hD
    repeat' (first | (simp (disch := first | omega | assumption | (simp only [List.length_set]; omega) | (simp [*] <;> fail) | assumption) [-Bool.decide_and, -Bool.decide_or, -Bool.not_and, -Bool.not_or, toNat_pred, toNat_succ, wrap64, wr_new, wr_new0, ok_if, ok_ifn, iadV_sl, makeV_int, decT, decF, over_at, *]) | (with_reducible refine Gd_split (fun hc => ?_) (fun hc => ?_) <;> (have hc2 := hc; try simp at hc2)) | (with_reducible refine Br_split (fun hc => ?_) (fun hc => ?_) <;> (have hc2 := hc; try simp at hc2)) | (with_reducible refine GdT_split (fun hc => ?_) (fun hc => ?_) <;> (have hc2 := hc; try simp at hc2)) | (with_reducible refine WT_alt ?_ ?_) | omega)
  · repeat' (first | (simp (disch := first | omega | assumption | (simp only [List.length_set]; omega) | (simp [*] <;> fail) | assumption) [-Bool.decide_and, -Bool.decide_or, -Bool.not_and, -Bool.not_or, toNat_pred, toNat_succ, wrap64, wr_new, wr_new0, ok_if, ok_ifn, iadV_sl, makeV_int, decT, decF, over_at, *]) | (with_reducible refine Gd_split (fun hc => ?_) (fun hc => ?_) <;> (have hc2 := hc; try simp at hc2)) | (with_reducible refine Br_split (fun hc => ?_) (fun hc => ?_) <;> (have hc2 := hc; try simp at hc2)) | (with_reducible refine GdT_split (fun hc => ?_) (fun hc => ?_) <;> (have hc2 := hc; try simp at hc2)) | (with_reducible refine WT_alt ?_ ?_) | omega)
    rw [swpTo_all (by omega)] at hM
    all_goals ((repeat' apply And.intro) <;> first | omega | assumption | exact hK _ hM hB)
theorem d_specFilterBothWays {f : Fil} (hA : Sm h l xs) (hx : ∀ x ∈ xs, CF x) (hl : lim ≤ h.length) (hK : ∀ o g, New h g o 42 1 ((bothB f xs).map fl) → K (.tup [.lf o, .lf (.bool (decide (xs.length ≤ 256)))]) g) :
    CallT S false 52 [.agg f.cells, .lf l] h lim K := by
  replace hA := hA.arr
  have hf5 : f.cells.length = 5 := rfl
  have hy4 : ∀ q : Mem, q.cells.length = 4 := fun _ => rfl
  have ht4 : ∀ q : Mem, List.take 4 q.cells = q.cells := fun _ => rfl
  have hz4 : Mem.zero.cells = [.flt .f32 0, .flt .f32 0, .flt .f32 0, .flt .f32 0] := rfl
  have b5 : ∀ g, Kept (h ++ [⟨f.cells, .own 58 1⟩]) g → rdCells g h.length 0 5 = some f.cells := fun g k => k.rd (Cel.new.rd (by simp [hf5]))
  have few := fun t K => c_l01Few (S := S) (K := K) (lim := lim) (hA.app (t := t))
  by_cases hn : xs.length ≤ 256
  · have hT : ∀ o g, New h g o 42 1 ((onceB f (onceB f xs)).map fl) → K (.tup [.lf o, .lf (.bool true)]) g := fun o g hN => by
      have := hK o g (by simpa [bothB, hn] using hN); simpa [hn] using this
    clear hK
    have hx2 := onceB_CF (f := f) hx
    have hx3 := CF_scan (f := f) (form := 0) (fb := false) CF_memz hx
    have hx4 := CF_scan (f := f) (form := 0) (fb := false) CF_memz hx2
    have l2 : (scan (stepF f 0 false) Mem.zero xs).1.length = xs.length := scan_len
    have l3 : (onceB f xs).length = xs.length := onceB_len
    have l4 : (scan (stepF f 0 false) Mem.zero (onceB f xs)).1.length = xs.length := by rw [scan_len, l3]
    refine CallT_of_body (F := L52) (HasBw.f52) rfl ?_; unfold L52; dsimp only []
    repeat' (first | (simp (disch := first | omega | assumption | (simp only [List.length_set]; omega) | (simp [*] <;> fail) | assumption) [-Bool.decide_and, -Bool.decide_or, -Bool.not_and, -Bool.not_or, toNat_pred, toNat_succ, wrap64, wr_new, wr_new0, ok_if, ok_ifn, iadV_sl, makeV_int, decT, decF, over_at, *, few, leavesAll, fillL]) | (with_reducible refine Gd_split (fun hc => ?_) (fun hc => ?_) <;> (have hc2 := hc; try simp at hc2)) | (with_reducible refine Br_split (fun hc => ?_) (fun hc => ?_) <;> (have hc2 := hc; try simp at hc2)) | (with_reducible refine GdT_split (fun hc => ?_) (fun hc => ?_) <;> (have hc2 := hc; try simp at hc2)) | (with_reducible refine WT_alt ?_ ?_) | omega)
    rw [← hz4]
    refine c_l02Run (f := f) (m := Mem.zero) (b5 _ (Kept.refl _)) CF_memz hA.app hx (by omega) (by simp; omega) fun o1 g1 h1 => ?_
    have z1 := h1.kept.1
    simp only [List.length_append, List.length_cons, List.length_nil] at z1
    have k1 := h1.kept
    have w1 := fun q : Mem => wr_last (ty := 125) (cs := [.flt .f32 0, .flt .f32 0, .flt .f32 0, .flt .f32 0]) (new := q.cells) (show lim ≤ g1.length by omega) rfl
    repeat' (first | (simp (disch := first | omega | assumption | (simp only [List.length_set]; omega) | (simp [*] <;> fail) | assumption) [-Bool.decide_and, -Bool.decide_or, -Bool.not_and, -Bool.not_or, toNat_pred, toNat_succ, wrap64, wr_new, wr_new0, ok_if, ok_ifn, iadV_sl, makeV_int, decT, decF, over_at, *, leavesAll, fillL]) | (with_reducible refine Gd_split (fun hc => ?_) (fun hc => ?_) <;> (have hc2 := hc; try simp at hc2)) | (with_reducible refine Br_split (fun hc => ?_) (fun hc => ?_) <;> (have hc2 := hc; try simp at hc2)) | (with_reducible refine GdT_split (fun hc => ?_) (fun hc => ?_) <;> (have hc2 := hc; try simp at hc2)) | (with_reducible refine WT_alt ?_ ?_) | omega)
    refine c_l02Turned h1.arr.app (by omega) (by simp; omega) fun o2 g2 h2 => ?_
    have z2 := h2.kept.1
    simp only [List.length_append, List.length_cons, List.length_nil] at z2
    have k2 := (k1.trans (Kept.app _ _)).trans h2.kept
    have b52 := b5 _ k2
    repeat' (first | (simp (disch := first | omega | assumption | (simp only [List.length_set]; omega) | (simp [*] <;> fail) | assumption) [-Bool.decide_and, -Bool.decide_or, -Bool.not_and, -Bool.not_or, toNat_pred, toNat_succ, wrap64, wr_new, wr_new0, ok_if, ok_ifn, iadV_sl, makeV_int, decT, decF, over_at, *, leavesAll, fillL]) | (with_reducible refine Gd_split (fun hc => ?_) (fun hc => ?_) <;> (have hc2 := hc; try simp at hc2)) | (with_reducible refine Br_split (fun hc => ?_) (fun hc => ?_) <;> (have hc2 := hc; try simp at hc2)) | (with_reducible refine GdT_split (fun hc => ?_) (fun hc => ?_) <;> (have hc2 := hc; try simp at hc2)) | (with_reducible refine WT_alt ?_ ?_) | omega)
    refine c_l02Run (f := f) (m := Mem.zero) (xs := onceB f xs) b52 CF_memz h2.arr hx2 (by omega) (by omega) fun o3 g3 h3 => ?_
    have z3 := h3.kept.1
    have w3 := fun q : Mem => wr_last (ty := 125) (cs := [.flt .f32 0, .flt .f32 0, .flt .f32 0, .flt .f32 0]) (new := q.cells) (show lim ≤ g3.length by omega) rfl
    repeat' (first | (simp (disch := first | omega | assumption | (simp only [List.length_set]; omega) | (simp [*] <;> fail) | assumption) [-Bool.decide_and, -Bool.decide_or, -Bool.not_and, -Bool.not_or, toNat_pred, toNat_succ, wrap64, wr_new, wr_new0, ok_if, ok_ifn, iadV_sl, makeV_int, decT, decF, over_at, *, leavesAll, fillL]) | (with_reducible refine Gd_split (fun hc => ?_) (fun hc => ?_) <;> (have hc2 := hc; try simp at hc2)) | (with_reducible refine Br_split (fun hc => ?_) (fun hc => ?_) <;> (have hc2 := hc; try simp at hc2)) | (with_reducible refine GdT_split (fun hc => ?_) (fun hc => ?_) <;> (have hc2 := hc; try simp at hc2)) | (with_reducible refine WT_alt ?_ ?_) | omega)
    refine c_l02Turned h3.arr.app (by omega) (by simp; omega) fun o4 g4 h4 => ?_
    have hT2 := hT _ _ (h4.base ((((Kept.app h _).trans k2).trans h3.kept).trans (Kept.app _ _)))
    repeat' (first | (simp (disch := first | omega | assumption | (simp only [List.length_set]; omega) | (simp [*] <;> fail) | assumption) [-Bool.decide_and, -Bool.decide_or, -Bool.not_and, -Bool.not_or, toNat_pred, toNat_succ, wrap64, wr_new, wr_new0, ok_if, ok_ifn, iadV_sl, makeV_int, decT, decF, over_at, *]) | (with_reducible refine Gd_split (fun hc => ?_) (fun hc => ?_) <;> (have hc2 := hc; try simp at hc2)) | (with_reducible refine Br_split (fun hc => ?_) (fun hc => ?_) <;> (have hc2 := hc; try simp at hc2)) | (with_reducible refine GdT_split (fun hc => ?_) (fun hc => ?_) <;> (have hc2 := hc; try simp at hc2)) | (with_reducible refine WT_alt ?_ ?_) | omega)
  · have hF : ∀ g, Kept h g → K (.tup [.lf .nils, .lf (.bool false)]) g := fun g q => by
      have := hK .nils g (by simpa [bothB, hn] using New.nil q); simpa [hn] using this
    clear hK
    have hn2 : ¬ ((xs.length : Int) ≤ 256) := by omega
    refine CallT_of_body (F := L52) (HasBw.f52) rfl ?_; unfold L52; dsimp only []
    have hF2 := hF _ (Kept.app h [⟨f.cells, .own 58 1⟩])
    clear hF
    repeat' (first | (simp (disch := first | omega | assumption | (simp only [List.length_set]; omega) | (simp [*] <;> fail) | assumption) [-Bool.decide_and, -Bool.decide_or, -Bool.not_and, -Bool.not_or, toNat_pred, toNat_succ, wrap64, wr_new, wr_new0, ok_if, ok_ifn, iadV_sl, makeV_int, decT, decF, over_at, *, few]) | (with_reducible refine Gd_split (fun hc => ?_) (fun hc => ?_) <;> (have hc2 := hc; try simp at hc2)) | (with_reducible refine Br_split (fun hc => ?_) (fun hc => ?_) <;> (have hc2 := hc; try simp at hc2)) | (with_reducible refine GdT_split (fun hc => ?_) (fun hc => ?_) <;> (have hc2 := hc; try simp at hc2)) | (with_reducible refine WT_alt ?_ ?_) | omega)
theorem d_implFilterBothWays {f : Fil} (hA : Sm h l xs) (hx : ∀ x ∈ xs, CF x) (hl : lim ≤ h.length) (hK : ∀ o g, New h g o 42 1 ((bothB f xs).map fl) → K (.tup [.lf o, .lf (.bool (decide (xs.length ≤ 256)))]) g) :
    CallT S false 53 [.agg f.cells, .lf l] h lim K := by
  have hf5 : f.cells.length = 5 := rfl
  have b5 : ∀ g, Kept (h ++ [⟨f.cells, .own 58 1⟩]) g → rdCells g h.length 0 5 = some f.cells := fun g k => k.rd (Cel.new.rd (by simp [hf5]))
  have few := fun t K => c_areSamples (S := S) (K := K) (lim := lim) (hA.arr.app (t := t))
  by_cases hn : xs.length ≤ 256
  · have hT : ∀ o g, New h g o 42 1 ((onceB f (onceB f xs)).map fl) → K (.tup [.lf o, .lf (.bool true)]) g := fun o g hN => by
      have := hK o g (by simpa [bothB, hn] using hN); simpa [hn] using this
    clear hK
    have hz4 : Mem.zero.cells = [.flt .f32 0, .flt .f32 0, .flt .f32 0, .flt .f32 0] := rfl
    refine CallT_of_body (F := L53) (HasBw.f53) rfl ?_; unfold L53; dsimp only []
    repeat' (first | (simp (disch := first | omega | assumption | (simp only [List.length_set]; omega) | (simp [*] <;> fail) | assumption) [-Bool.decide_and, -Bool.decide_or, -Bool.not_and, -Bool.not_or, toNat_pred, toNat_succ, wrap64, wr_new, wr_new0, ok_if, ok_ifn, iadV_sl, makeV_int, decT, decF, over_at, *, few]) | (with_reducible refine Gd_split (fun hc => ?_) (fun hc => ?_) <;> (have hc2 := hc; try simp at hc2)) | (with_reducible refine Br_split (fun hc => ?_) (fun hc => ?_) <;> (have hc2 := hc; try simp at hc2)) | (with_reducible refine GdT_split (fun hc => ?_) (fun hc => ?_) <;> (have hc2 := hc; try simp at hc2)) | (with_reducible refine WT_alt ?_ ?_) | omega)
    refine c_copyNumbers (hA.kept (Kept.app _ _)) (by omega) (by simp; omega) fun o1 g1 h1 => ?_
    have z1 := h1.kept.1
    simp only [List.length_append, List.length_cons, List.length_nil] at z1
    repeat' (first | (simp (disch := first | omega | assumption | (simp only [List.length_set]; omega) | (simp [*] <;> fail) | assumption) [-Bool.decide_and, -Bool.decide_or, -Bool.not_and, -Bool.not_or, toNat_pred, toNat_succ, wrap64, wr_new, wr_new0, ok_if, ok_ifn, iadV_sl, makeV_int, decT, decF, over_at, *]) | (with_reducible refine Gd_split (fun hc => ?_) (fun hc => ?_) <;> (have hc2 := hc; try simp at hc2)) | (with_reducible refine Br_split (fun hc => ?_) (fun hc => ?_) <;> (have hc2 := hc; try simp at hc2)) | (with_reducible refine GdT_split (fun hc => ?_) (fun hc => ?_) <;> (have hc2 := hc; try simp at hc2)) | (with_reducible refine WT_alt ?_ ?_) | omega)
    refine WL_forM 67100864 (by decide +kernel) (2) (fun i b g => i ≤ 2 ∧ b 7 = .lf (.int .i64 i) ∧ ∃ o, b 6 = .lf o ∧ New (h ++ [⟨f.cells, .own 58 1⟩]) g o 42 1 ((itB f xs i).map fl)) (fun _ _ _ hi => hi.1) ⟨by simp, by simp, o1, by simp, h1⟩ ?_
    rintro i b g ⟨hi, e7, o, e6, hN⟩
    have hlen := itB_len (f := f) (xs := xs) (i := i)
    by_cases hlt : i < 2
    · have hxi := itB_CF (f := f) (i := i) hx
      have b5g := b5 _ hN.kept
      have ht5 : List.take 5 f.cells = f.cells := rfl
      clear hT
      have zg := hN.kept.1
      simp only [List.length_append, List.length_cons, List.length_nil] at zg
      repeat' (first | (simp (disch := first | omega | assumption | (simp only [List.length_set]; omega) | (simp [*] <;> fail) | assumption) [-Bool.decide_and, -Bool.decide_or, -Bool.not_and, -Bool.not_or, toNat_pred, toNat_succ, wrap64, wr_new, wr_new0, ok_if, ok_ifn, iadV_sl, makeV_int, decT, decF, over_at, *, leavesAll, fillL]) | (with_reducible refine Gd_split (fun hc => ?_) (fun hc => ?_) <;> (have hc2 := hc; try simp at hc2)) | (with_reducible refine Br_split (fun hc => ?_) (fun hc => ?_) <;> (have hc2 := hc; try simp at hc2)) | (with_reducible refine GdT_split (fun hc => ?_) (fun hc => ?_) <;> (have hc2 := hc; try simp at hc2)) | (with_reducible refine WT_alt ?_ ?_) | omega)
      rw [← hz4]
      refine c_implRun (f := f) (m := Mem.zero) CF_memz hN.arr hxi (by omega) (by omega) fun o2 g2 h2 => ?_
      have z2 := h2.kept.1
      repeat' (first | (simp (disch := first | omega | assumption | (simp only [List.length_set]; omega) | (simp [*] <;> fail) | assumption) [-Bool.decide_and, -Bool.decide_or, -Bool.not_and, -Bool.not_or, toNat_pred, toNat_succ, wrap64, wr_new, wr_new0, ok_if, ok_ifn, iadV_sl, makeV_int, decT, decF, over_at, *, leavesAll, fillL]) | (with_reducible refine Gd_split (fun hc => ?_) (fun hc => ?_) <;> (have hc2 := hc; try simp at hc2)) | (with_reducible refine Br_split (fun hc => ?_) (fun hc => ?_) <;> (have hc2 := hc; try simp at hc2)) | (with_reducible refine GdT_split (fun hc => ?_) (fun hc => ?_) <;> (have hc2 := hc; try simp at hc2)) | (with_reducible refine WT_alt ?_ ?_) | omega)
      refine c_reverse (h2.base hN.kept) (by rw [scan_len]; omega) (by simp; omega) fun g3 h3 hB => ?_
      have h4 : New (h ++ [⟨f.cells, .own 58 1⟩]) g3 o2 42 1 ((itB f xs (i + 1)).map fl) := h3
      repeat' (first | (simp (disch := first | omega | assumption | (simp only [List.length_set]; omega) | (simp [*] <;> fail) | assumption) [-Bool.decide_and, -Bool.decide_or, -Bool.not_and, -Bool.not_or, toNat_pred, toNat_succ, wrap64, wr_new, wr_new0, ok_if, ok_ifn, iadV_sl, makeV_int, decT, decF, over_at, *]) | (with_reducible refine Gd_split (fun hc => ?_) (fun hc => ?_) <;> (have hc2 := hc; try simp at hc2)) | (with_reducible refine Br_split (fun hc => ?_) (fun hc => ?_) <;> (have hc2 := hc; try simp at hc2)) | (with_reducible refine GdT_split (fun hc => ?_) (fun hc => ?_) <;> (have hc2 := hc; try simp at hc2)) | (with_reducible refine WT_alt ?_ ?_) | omega)
      all_goals ((repeat' apply And.intro) <;> first | omega | assumption)
    · have : i = 2 := by omega
      subst this
      have hT2 := hT _ _ (hN.base (Kept.app _ _))
      repeat' (first | (simp (disch := first | omega | assumption | (simp only [List.length_set]; omega) | (simp [*] <;> fail) | assumption) [-Bool.decide_and, -Bool.decide_or, -Bool.not_and, -Bool.not_or, toNat_pred, toNat_succ, wrap64, wr_new, wr_new0, ok_if, ok_ifn, iadV_sl, makeV_int, decT, decF, over_at, *]) | (with_reducible refine Gd_split (fun hc => ?_) (fun hc => ?_) <;> (have hc2 := hc; try simp at hc2)) | (with_reducible refine Br_split (fun hc => ?_) (fun hc => ?_) <;> (have hc2 := hc; try simp at hc2)) | (with_reducible refine GdT_split (fun hc => ?_) (fun hc => ?_) <;> (have hc2 := hc; try simp at hc2)) | (with_reducible refine WT_alt ?_ ?_) | omega)
      all_goals ((repeat' apply And.intro) <;> first | omega | assumption)
  · have hF : ∀ g, Kept h g → K (.tup [.lf .nils, .lf (.bool false)]) g := fun g q => by
      have := hK .nils g (by simpa [bothB, hn] using New.nil q); simpa [hn] using this
    clear hK
    have hn2 : ¬ ((xs.length : Int) ≤ 256) := by omega
    refine CallT_of_body (F := L53) (HasBw.f53) rfl ?_; unfold L53; dsimp only []
    have hF2 := hF _ (Kept.app h [⟨f.cells, .own 58 1⟩])
    clear hF
    repeat' (first | (simp (disch := first | omega | assumption | (simp only [List.length_set]; omega) | (simp [*] <;> fail) | assumption) [-Bool.decide_and, -Bool.decide_or, -Bool.not_and, -Bool.not_or, toNat_pred, toNat_succ, wrap64, wr_new, wr_new0, ok_if, ok_ifn, iadV_sl, makeV_int, decT, decF, over_at, *, few]) | (with_reducible refine Gd_split (fun hc => ?_) (fun hc => ?_) <;> (have hc2 := hc; try simp at hc2)) | (with_reducible refine Br_split (fun hc => ?_) (fun hc => ?_) <;> (have hc2 := hc; try simp at hc2)) | (with_reducible refine GdT_split (fun hc => ?_) (fun hc => ?_) <;> (have hc2 := hc; try simp at hc2)) | (with_reducible refine WT_alt ?_ ?_) | omega)
end
end Go.E
