/- What two chains make of samples together, both sides. -/
import Derived.Test.YteppngjkmejgaaaMSr
set_option linter.unusedVariables false
set_option linter.unusedSimpArgs false
namespace Go.E
open Go
def L43 : LFn := ⟨2, (.seq (.reg [⟨(.some 4), (.mv (.c (.lf .nils))), none⟩, ⟨(.some 5), (.mv (.c (.lf (.bool false)))), none⟩])
 (.seq (.seq (.reg [⟨(.some 8), (.mv (.t 0)), none⟩, ⟨(.some 9), (.call true 42 [(.t 8)]), none⟩, ⟨(.some 10), (.una .not (.t 9)), none⟩, ⟨(.some 11), (.mv (.t 10)), none⟩, ⟨(.some 12), (.mv (.t 0)), (.some (11, false))⟩, ⟨(.some 13), (.len (.t 12)), (.some (11, false))⟩, ⟨(.some 14), (.mv (.t 1)), (.some (11, false))⟩, ⟨(.some 15), (.len (.t 14)), (.some (11, false))⟩, ⟨(.some 16), (.bin .neq (.t 13) (.t 15)), (.some (11, false))⟩, ⟨(.some 17), (.pick (.t 11) (.c (.lf (.bool true))) (.t 16)), none⟩])
 (.cond (.t 17) (.seq (.reg [⟨(.some 4), (.mv (.c (.lf .nils))), none⟩, ⟨(.some 5), (.mv (.c (.lf (.bool false)))), none⟩])
 .ret) .skip))
 (.seq (.reg [⟨(.some 6), (.mv (.c (.lf .nils))), none⟩])
 (.seq (.seq (.reg [⟨(.some 18), (.mv (.t 0)), none⟩, ⟨(.some 19), (.len (.t 18)), none⟩, ⟨(.some 20), (.mv (.c (.lf (.int .i64 0)))), none⟩])
 (.block 0 (.loop (.seq (.reg [⟨(.some 21), (.bin .lss (.t 20) (.t 19)), none⟩])
 (.seq (.cond (.t 21) .skip (.exit 0))
 (.seq (.block 1 (.seq (.reg [⟨(.some 22), (.mv (.t 20)), none⟩, ⟨(.some 7), (.mv (.t 22)), none⟩])
 (.reg [⟨(.some 23), (.mv (.t 6)), none⟩, ⟨(.some 24), (.mv (.t 0)), none⟩, ⟨(.some 25), (.mv (.t 7)), none⟩, ⟨(.some 26), (.iaddr 1 (.t 24) (.t 25)), none⟩, ⟨(.some 27), (.load false 1 (.t 26)), none⟩, ⟨(.some 28), (.mv (.t 1)), none⟩, ⟨(.some 29), (.mv (.t 7)), none⟩, ⟨(.some 30), (.iaddr 1 (.t 28) (.t 29)), none⟩, ⟨(.some 31), (.load false 1 (.t 30)), none⟩, ⟨(.some 32), (.bin .add (.t 27) (.t 31)), none⟩, ⟨(.some 33), (.lit 50 1 1 [(.flt .f32 0)] [(0, (1, (.t 32)))]), none⟩, ⟨(.some 34), (.app 50 1 4 (.t 23) (.t 33)), none⟩, ⟨(.some 6), (.mv (.t 34)), none⟩])))
 (.reg [⟨(.some 35), (.bin .add (.t 20) (.c (.lf (.int .i64 1)))), none⟩, ⟨(.some 20), (.mv (.t 35)), none⟩])))))))
 (.seq (.reg [⟨(.some 36), (.mv (.t 6)), none⟩, ⟨(.some 4), (.mv (.t 36)), none⟩, ⟨(.some 5), (.mv (.c (.lf (.bool true)))), none⟩])
 .ret))))), [(.tmp 4), (.tmp 5)]⟩
def L23 : LFn := ⟨5, (.seq (.reg [⟨(.some 10), (.mv (.c (.lf .nils))), none⟩, ⟨(.some 11), (.mv (.c (.lf .nils))), none⟩, ⟨(.some 12), (.mv (.c (.lf .nils))), none⟩, ⟨(.some 13), (.mv (.c (.lf (.bool false)))), none⟩])
 (.seq (.seq (.reg [⟨(.some 20), (.mv (.t 0)), none⟩, ⟨(.some 21), (.mv (.t 2)), none⟩, ⟨(.some 22), (.call true 39 [(.t 20), (.t 21)]), none⟩, ⟨(.some 23), (.una .not (.t 22)), none⟩, ⟨(.some 24), (.mv (.t 23)), none⟩, ⟨(.some 25), (.mv (.t 1)), (.some (24, false))⟩, ⟨(.some 26), (.mv (.t 3)), (.some (24, false))⟩, ⟨(.some 27), (.call true 39 [(.t 25), (.t 26)]), (.some (24, false))⟩, ⟨(.some 28), (.una .not (.t 27)), (.some (24, false))⟩, ⟨(.some 29), (.pick (.t 24) (.c (.lf (.bool true))) (.t 28)), none⟩, ⟨(.some 30), (.mv (.t 29)), none⟩, ⟨(.some 31), (.mv (.t 4)), (.some (30, false))⟩, ⟨(.some 32), (.call true 40 [(.t 31)]), (.some (30, false))⟩, ⟨(.some 33), (.una .not (.t 32)), (.some (30, false))⟩, ⟨(.some 34), (.pick (.t 30) (.c (.lf (.bool true))) (.t 33)), none⟩])
 (.cond (.t 34) (.seq (.reg [⟨(.some 10), (.mv (.c (.lf .nils))), none⟩, ⟨(.some 11), (.mv (.c (.lf .nils))), none⟩, ⟨(.some 12), (.mv (.c (.lf .nils))), none⟩, ⟨(.some 13), (.mv (.c (.lf (.bool false)))), none⟩])
 .ret) .skip))
 (.seq (.reg [⟨(.some 36), (.mv (.t 0)), none⟩, ⟨(.some 37), (.mv (.t 2)), none⟩, ⟨(.some 38), (.mv (.t 4)), none⟩, ⟨(.some 39), (.call false 28 [(.t 36), (.t 37), (.t 38)]), none⟩, ⟨(.some 35), (.mv (.t 39)), none⟩, ⟨(.some 40), (.ext (.t 35) 0), none⟩, ⟨(.some 41), (.ext (.t 35) 1), none⟩, ⟨(.some 14), (.mv (.t 40)), none⟩, ⟨(.some 15), (.mv (.t 41)), none⟩])
 (.seq (.reg [⟨(.some 43), (.mv (.t 1)), none⟩, ⟨(.some 44), (.mv (.t 3)), none⟩, ⟨(.some 45), (.mv (.t 4)), none⟩, ⟨(.some 46), (.call false 28 [(.t 43), (.t 44), (.t 45)]), none⟩, ⟨(.some 42), (.mv (.t 46)), none⟩, ⟨(.some 47), (.ext (.t 42) 0), none⟩, ⟨(.some 48), (.ext (.t 42) 1), none⟩, ⟨(.some 16), (.mv (.t 47)), none⟩, ⟨(.some 17), (.mv (.t 48)), none⟩])
 (.seq (.reg [⟨(.some 49), (.lit 50 1 0 [] []), none⟩, ⟨(.some 18), (.mv (.t 49)), none⟩])
 (.seq (.seq (.reg [⟨(.some 19), (.mv (.c (.lf (.int .i64 0)))), none⟩])
 (.block 0 (.loop (.seq (.seq (.reg [⟨(.some 50), (.mv (.t 19)), none⟩, ⟨(.some 51), (.mv (.t 14)), none⟩, ⟨(.some 52), (.len (.t 51)), none⟩, ⟨(.some 53), (.bin .lss (.t 50) (.t 52)), none⟩])
 (.cond (.t 53) .skip (.exit 0)))
 (.seq (.block 1 (.reg [⟨(.some 56), (.mv (.t 18)), none⟩, ⟨(.some 57), (.mv (.t 14)), none⟩, ⟨(.some 58), (.mv (.t 19)), none⟩, ⟨(.some 59), (.iaddr 1 (.t 57) (.t 58)), none⟩, ⟨(.some 60), (.load false 1 (.t 59)), none⟩, ⟨(.some 61), (.mv (.t 16)), none⟩, ⟨(.some 62), (.mv (.t 19)), none⟩, ⟨(.some 63), (.iaddr 1 (.t 61) (.t 62)), none⟩, ⟨(.some 64), (.load false 1 (.t 63)), none⟩, ⟨(.some 65), (.bin .add (.t 60) (.t 64)), none⟩, ⟨(.some 66), (.lit 50 1 1 [(.flt .f32 0)] [(0, (1, (.t 65)))]), none⟩, ⟨(.some 67), (.app 50 1 4 (.t 56) (.t 66)), none⟩, ⟨(.some 18), (.mv (.t 67)), none⟩]))
 (.reg [⟨(.some 54), (.mv (.t 19)), none⟩, ⟨(.some 55), (.bin .add (.t 54) (.c (.lf (.int .i64 1)))), none⟩, ⟨(.some 19), (.mv (.t 55)), none⟩]))))))
 (.seq (.reg [⟨(.some 68), (.mv (.t 18)), none⟩, ⟨(.some 69), (.mv (.t 15)), none⟩, ⟨(.some 70), (.mv (.t 17)), none⟩, ⟨(.some 10), (.mv (.t 68)), none⟩, ⟨(.some 11), (.mv (.t 69)), none⟩, ⟨(.some 12), (.mv (.t 70)), none⟩, ⟨(.some 13), (.mv (.c (.lf (.bool true)))), none⟩])
 .ret))))))), [(.tmp 10), (.tmp 11), (.tmp 12), (.tmp 13)]⟩
def L24 : LFn := ⟨5, (.seq (.reg [⟨(.some 10), (.mv (.c (.lf .nils))), none⟩, ⟨(.some 11), (.mv (.c (.lf .nils))), none⟩, ⟨(.some 12), (.mv (.c (.lf .nils))), none⟩, ⟨(.some 13), (.mv (.c (.lf (.bool false)))), none⟩])
 (.seq (.seq (.reg [⟨(.some 20), (.mv (.t 0)), none⟩, ⟨(.some 21), (.mv (.t 2)), none⟩, ⟨(.some 22), (.call true 41 [(.t 20), (.t 21)]), none⟩, ⟨(.some 23), (.una .not (.t 22)), none⟩, ⟨(.some 24), (.mv (.t 23)), none⟩, ⟨(.some 25), (.mv (.t 1)), (.some (24, false))⟩, ⟨(.some 26), (.mv (.t 3)), (.some (24, false))⟩, ⟨(.some 27), (.call true 41 [(.t 25), (.t 26)]), (.some (24, false))⟩, ⟨(.some 28), (.una .not (.t 27)), (.some (24, false))⟩, ⟨(.some 29), (.pick (.t 24) (.c (.lf (.bool true))) (.t 28)), none⟩, ⟨(.some 30), (.mv (.t 29)), none⟩, ⟨(.some 31), (.mv (.t 4)), (.some (30, false))⟩, ⟨(.some 32), (.call true 42 [(.t 31)]), (.some (30, false))⟩, ⟨(.some 33), (.una .not (.t 32)), (.some (30, false))⟩, ⟨(.some 34), (.pick (.t 30) (.c (.lf (.bool true))) (.t 33)), none⟩])
 (.cond (.t 34) (.seq (.reg [⟨(.some 10), (.mv (.c (.lf .nils))), none⟩, ⟨(.some 11), (.mv (.c (.lf .nils))), none⟩, ⟨(.some 12), (.mv (.c (.lf .nils))), none⟩, ⟨(.some 13), (.mv (.c (.lf (.bool false)))), none⟩])
 .ret) .skip))
 (.seq (.reg [⟨(.some 36), (.mv (.t 0)), none⟩, ⟨(.some 37), (.mv (.t 2)), none⟩, ⟨(.some 38), (.mv (.t 4)), none⟩, ⟨(.some 39), (.call false 33 [(.t 36), (.t 37), (.t 38)]), none⟩, ⟨(.some 35), (.mv (.t 39)), none⟩, ⟨(.some 40), (.ext (.t 35) 0), none⟩, ⟨(.some 41), (.ext (.t 35) 1), none⟩, ⟨(.some 14), (.mv (.t 40)), none⟩, ⟨(.some 15), (.mv (.t 41)), none⟩])
 (.seq (.reg [⟨(.some 43), (.mv (.t 1)), none⟩, ⟨(.some 44), (.mv (.t 3)), none⟩, ⟨(.some 45), (.mv (.t 4)), none⟩, ⟨(.some 46), (.call false 33 [(.t 43), (.t 44), (.t 45)]), none⟩, ⟨(.some 42), (.mv (.t 46)), none⟩, ⟨(.some 47), (.ext (.t 42) 0), none⟩, ⟨(.some 48), (.ext (.t 42) 1), none⟩, ⟨(.some 16), (.mv (.t 47)), none⟩, ⟨(.some 17), (.mv (.t 48)), none⟩])
 (.seq (.reg [⟨(.some 50), (.mv (.t 14)), none⟩, ⟨(.some 51), (.mv (.t 16)), none⟩, ⟨(.some 52), (.call false 43 [(.t 50), (.t 51)]), none⟩, ⟨(.some 49), (.mv (.t 52)), none⟩, ⟨(.some 53), (.ext (.t 49) 0), none⟩, ⟨(.some 54), (.ext (.t 49) 1), none⟩, ⟨(.some 18), (.mv (.t 53)), none⟩, ⟨(.some 19), (.mv (.t 54)), none⟩])
 (.seq (.reg [⟨(.some 55), (.mv (.t 18)), none⟩, ⟨(.some 56), (.mv (.t 15)), none⟩, ⟨(.some 57), (.mv (.t 17)), none⟩, ⟨(.some 10), (.mv (.t 55)), none⟩, ⟨(.some 11), (.mv (.t 56)), none⟩, ⟨(.some 12), (.mv (.t 57)), none⟩, ⟨(.some 13), (.mv (.c (.lf (.bool true)))), none⟩])
 .ret)))))), [(.tmp 10), (.tmp 11), (.tmp 12), (.tmp 13)]⟩
class HasBo (S : Sys) : Prop extends HasRu S where
  f43 : S.fs 43 = some L43
  f23 : S.fs 23 = some L23
  f24 : S.fs 24 = some L24
def addF (xs ys : List Nat) (j : Nat) : Nat := fbin .add .f32 (xs.getD j 0) (ys.getD j 0)
theorem addF_at {xs ys : List Nat} {i : Nat} (h1 : i < xs.length) (h2 : i < ys.length) : addF xs ys i = fbin .add .f32 xs[i] ys[i] := by
  unfold addF
  rw [List.getD_eq_getElem?_getD, List.getElem?_eq_getElem h1, List.getD_eq_getElem?_getD, List.getElem?_eq_getElem h2]
  rfl
/-- The sums of two lists. -/
def addL (xs ys : List Nat) : List Nat := tabTo (addF xs ys) xs.length
theorem addL_len {xs ys : List Nat} : (addL xs ys).length = xs.length := tabTo_len
def okRb (es fs : List Eff) (ss ts : List (List Nat)) (n : Nat) : Prop := isFit es ss ∧ isFit fs ts ∧ n ≤ 256
noncomputable instance (es fs : List Eff) (ss ts : List (List Nat)) (n : Nat) : Decidable (okRb es fs ss ts n) := Classical.propDecidable _
noncomputable def rbR (es fs : List Eff) (ss ts : List (List Nat)) (xs : List Nat) : List Nat × List (List Nat) × List (List Nat) := if okRb es fs ss ts xs.length then (addL (runL es ss xs).1 (runL fs ts xs).1, (runL es ss xs).2, (runL fs ts xs).2) else ([], [], [])
theorem runL_small {es : List Eff} {ss : List (List Nat)} {xs : List Nat} (h : isFit es ss) : (runL es ss xs).1.length = xs.length ∧ (runL es ss xs).2.length ≤ 8 ∧ ∀ s ∈ (runL es ss xs).2, s.length ≤ 33 := by
  obtain ⟨a, b⟩ := runTo_sts (es := es) (xs := xs) h.2.1 (Nat.le_refl _)
  have := h.1.1
  unfold runL
  exact ⟨b, by rw [a]; omega, runTo_st h (Nat.le_refl _)⟩
theorem rbR_small {es fs : List Eff} {ss ts : List (List Nat)} {xs : List Nat} : (rbR es fs ss ts xs).1.length ≤ 256 ∧ ((rbR es fs ss ts xs).2.1.length ≤ 8 ∧ ∀ s ∈ (rbR es fs ss ts xs).2.1, s.length ≤ 33) ∧ ((rbR es fs ss ts xs).2.2.length ≤ 8 ∧ ∀ s ∈ (rbR es fs ss ts xs).2.2, s.length ≤ 33) := by
  unfold rbR
  split
  · rename_i hok
    obtain ⟨a1, a2⟩ := runL_small (xs := xs) hok.1
    obtain ⟨b1, b2⟩ := runL_small (xs := xs) hok.2.1
    exact ⟨by simp only []; rw [addL_len, a1]; exact hok.2.2, a2, b2⟩
  · simp
theorem fresh1 {α : Type} {h g g' : Hp} {l s : Lf} {ty sz fty t2 s2 : Nat} {ce : α × Lf → List Lf} {ro : α → List Nat} {ps : List (α × Lf)} {rows : List (List Lf)} (hD : NewD h g l ty sz ce ro fty ps) (hS : New g g' s t2 s2 rows) : ∀ t ∈ lvs l ps, Far s t := by
  obtain ⟨a, b⟩ := hD.fresh hS
  intro t ht
  unfold lvs at ht
  rcases List.mem_cons.1 ht with rfl | ht
  · exact a.symm
  · obtain ⟨p, hp, rfl⟩ := List.mem_map.1 ht
    exact (b p hp).symm
theorem fresh2 {α β : Type} {h g g' : Hp} {l l2 : Lf} {ty sz fty ty2 sz2 fty2 : Nat} {ce : α × Lf → List Lf} {ro : α → List Nat} {ce2 : β × Lf → List Lf} {ro2 : β → List Nat} {ps : List (α × Lf)} {qs : List (β × Lf)} (hD : NewD h g l ty sz ce ro fty ps) (hE : NewD g g' l2 ty2 sz2 ce2 ro2 fty2 qs) : ∀ s ∈ lvs l ps, ∀ t ∈ lvs l2 qs, Far s t := by
  intro s hs t ht
  unfold lvs at ht
  rcases List.mem_cons.1 ht with rfl | ht
  · exact (fresh1 hD hE.out s hs).symm
  · obtain ⟨p, hp, rfl⟩ := List.mem_map.1 ht
    exact (fresh1 hD (hE.inn p hp) s hs).symm
section
variable {S : Sys} {lim : Nat} {h : Hp} {K : CV → Hp → Prop} {l l2 l3 m m2 : Lf} {xs ys : List Nat} {ps p' : List (Eff × Lf)} {qs q' : List (List Nat × Lf)} [HasBo S]
theorem c_mixSamples (hA : Arr h l 1 (xs.map fl)) (hB : Arr h l2 1 (ys.map fl)) (hn : xs.length ≤ 256) (he : ys.length = xs.length) (hl : lim ≤ h.length) (hK : ∀ o g, New h g o 50 1 ((addL xs ys).map fl) → K (.tup [.lf o, .lf (.bool true)]) g) : CallT S false 43 [.lf l, .lf l2] h lim K := by
  have hf := fun lim K => c_areSamples (S := S) (lim := lim) (K := K) hA
  rw [decide_eq_true (show (xs.length : Int) ≤ 256 by omega)] at hf
  refine CallT_of_body (F := L43) (HasBo.f43) rfl ?_; unfold L43; dsimp only []
  repeat' (first | (simp (disch := first | omega | assumption | (simp only [List.length_set]; omega) | (simp [*] <;> fail) | assumption) [-Bool.decide_and, -Bool.decide_or, -Bool.not_and, -Bool.not_or, toNat_pred, toNat_succ, wrap64, wr_new, wr_new0, ok_if, ok_ifn, iadV_sl, makeV_int, decT, decF, over_at, *, hA.len, hB.len]) | (with_reducible refine Gd_split (fun hc => ?_) (fun hc => ?_) <;> (have hc2 := hc; try simp at hc2)) | (with_reducible refine Br_split (fun hc => ?_) (fun hc => ?_) <;> (have hc2 := hc; try simp at hc2)) | (with_reducible refine GdT_split (fun hc => ?_) (fun hc => ?_) <;> (have hc2 := hc; try simp at hc2)) | (with_reducible refine WT_alt ?_ ?_) | omega)
  refine WL_forM 68718428352 (by decide +kernel) (xs.length) (fun i b g => i ≤ xs.length ∧ b 20 = .lf (.int .i64 i) ∧ ∃ o, b 6 = .lf o ∧ New h g o 50 1 ((tabTo (addF xs ys) i).map fl)) (fun _ _ _ hi => hi.1) ⟨by omega, by simp, .nils, by simp, by simpa using New.nil (Kept.refl h)⟩ ?_
  rintro i b g ⟨hi, e20, o, e6, hN⟩
  have hl1 := tabTo_len (f := addF xs ys) (n := i)
  have hA1 := hA.kept hN.kept
  have hB1 := hB.kept hN.kept
  have hk1 := hN.kept.1
  by_cases hlt : i < xs.length
  · have hlt2 : i < ys.length := by omega
    have s1 := tabTo_fl (f := addF xs ys) (n := i)
    rw [addF_at hlt hlt2] at s1
    have s1H : Hid ((tabTo (addF xs ys) (i + 1)).map fl = (tabTo (addF xs ys) i).map fl ++ [[.flt .f32 (fbin .add .f32 xs[i] ys[i])]]) := s1
    clear hK s1
    repeat' (first | (simp (disch := first | omega | assumption | (simp only [List.length_set]; omega) | (simp [*] <;> fail) | assumption) [-Bool.decide_and, -Bool.decide_or, -Bool.not_and, -Bool.not_or, toNat_pred, toNat_succ, wrap64, wr_new, wr_new0, ok_if, ok_ifn, iadV_sl, makeV_int, decT, decF, over_at, *, hA1.len, hA1.at_, hA1.at_', hA1.rd, hA1.rdIn, hA1.rdIn0, hA1.rdA, hA1.rdInA, hA1.rdIn0A, hB1.len, hB1.at_, hB1.at_', hB1.rd, hB1.rdIn, hB1.rdIn0, hB1.rdA, hB1.rdInA, hB1.rdIn0A, hA1.rd1, hB1.rd1, fl, leavesAll, fillL]) | (with_reducible refine Gd_split (fun hc => ?_) (fun hc => ?_) <;> (have hc2 := hc; try simp at hc2)) | (with_reducible refine Br_split (fun hc => ?_) (fun hc => ?_) <;> (have hc2 := hc; try simp at hc2)) | (with_reducible refine GdT_split (fun hc => ?_) (fun hc => ?_) <;> (have hc2 := hc; try simp at hc2)) | (with_reducible refine WT_alt ?_ ?_) | omega)
    refine oc_push (bytes := 4) (r := [.flt .f32 (fbin .add .f32 xs[i] ys[i])]) hN ?_ ?_ ?_ (by decide) rfl (by decide)
    · exact hl
    · simp; omega
    intro o2 g5 hN5 hB5
    rw [← show (tabTo (addF xs ys) (i + 1)).map fl = _ from s1H] at hN5
    clear s1H
    repeat' (first | (simp (disch := first | omega | assumption | (simp only [List.length_set]; omega) | (simp [*] <;> fail) | assumption) [-Bool.decide_and, -Bool.decide_or, -Bool.not_and, -Bool.not_or, toNat_pred, toNat_succ, wrap64, wr_new, wr_new0, ok_if, ok_ifn, iadV_sl, makeV_int, decT, decF, over_at, *]) | (with_reducible refine Gd_split (fun hc => ?_) (fun hc => ?_) <;> (have hc2 := hc; try simp at hc2)) | (with_reducible refine Br_split (fun hc => ?_) (fun hc => ?_) <;> (have hc2 := hc; try simp at hc2)) | (with_reducible refine GdT_split (fun hc => ?_) (fun hc => ?_) <;> (have hc2 := hc; try simp at hc2)) | (with_reducible refine WT_alt ?_ ?_) | omega)
  · have : i = xs.length := by omega
    subst this
    have hk2 := hK _ _ hN
    clear hK
    repeat' (first | (simp (disch := first | omega | assumption | (simp only [List.length_set]; omega) | (simp [*] <;> fail) | assumption) [-Bool.decide_and, -Bool.decide_or, -Bool.not_and, -Bool.not_or, toNat_pred, toNat_succ, wrap64, wr_new, wr_new0, ok_if, ok_ifn, iadV_sl, makeV_int, decT, decF, over_at, *, hA1.len]) | (with_reducible refine Gd_split (fun hc => ?_) (fun hc => ?_) <;> (have hc2 := hc; try simp at hc2)) | (with_reducible refine Br_split (fun hc => ?_) (fun hc => ?_) <;> (have hc2 := hc; try simp at hc2)) | (with_reducible refine GdT_split (fun hc => ?_) (fun hc => ?_) <;> (have hc2 := hc; try simp at hc2)) | (with_reducible refine WT_alt ?_ ?_) | omega)
set_option maxHeartbeats 4000000 in
theorem c_specRunBoth (hL : Arr h l 3 (ps.map Eff.cells)) (hI : In h Eff.nums ps) (hL' : Arr h m 3 (p'.map Eff.cells)) (hI' : In h Eff.nums p') (hS : Arr h l2 1 (qs.map ssCells)) (hT : Sms h ssRows qs) (hT2 : In h ssRows qs) (hS' : Arr h m2 1 (q'.map ssCells)) (hT' : Sms h ssRows q') (hT2' : In h ssRows q') (hnc : ∀ e ∈ ps.map (·.1), ∀ x ∈ e.nums, CF x) (hnc' : ∀ e ∈ p'.map (·.1), ∀ x ∈ e.nums, CF x) (hsc : ∀ s ∈ qs.map (·.1), ∀ x ∈ s, CF x) (hsc' : ∀ s ∈ q'.map (·.1), ∀ x ∈ s, CF x) (hX : Sm h l3 xs) (hx : ∀ x ∈ xs, CF x) (hl : lim ≤ h.length)
    (hK : ∀ o sg rs sg2 rs2 g, New h g o 50 1 ((rbR (ps.map (·.1)) (p'.map (·.1)) (qs.map (·.1)) (q'.map (·.1)) xs).1.map fl) → NewD h g sg 24 1 ssCells ssRows 50 rs → rs.map (·.1) = (rbR (ps.map (·.1)) (p'.map (·.1)) (qs.map (·.1)) (q'.map (·.1)) xs).2.1 → NewD h g sg2 24 1 ssCells ssRows 50 rs2 → rs2.map (·.1) = (rbR (ps.map (·.1)) (p'.map (·.1)) (qs.map (·.1)) (q'.map (·.1)) xs).2.2 → (∀ t ∈ lvs sg rs, Far o t) → (∀ t ∈ lvs sg2 rs2, Far o t) → (∀ s ∈ lvs sg rs, ∀ t ∈ lvs sg2 rs2, Far s t) → K (.tup [.lf o, .lf sg, .lf sg2, .lf (.bool (decide (okRb (ps.map (·.1)) (p'.map (·.1)) (qs.map (·.1)) (q'.map (·.1)) xs.length)))]) g) : CallT S false 23 [.lf l, .lf m, .lf l2, .lf m2, .lf l3] h lim K := by
  have hc := fun lim K => c_l08Fit (S := S) (lim := lim) (K := K) hL hI hS hT2
  have hc' := fun lim K => c_l08Fit (S := S) (lim := lim) (K := K) hL' hI' hS' hT2'
  have hf := fun lim K => c_l01Few (S := S) (lim := lim) (K := K) hX.arr
  by_cases hok : okRb (ps.map (·.1)) (p'.map (·.1)) (qs.map (·.1)) (q'.map (·.1)) xs.length
  · unfold rbR at hK
    rw [if_pos hok, decide_eq_true hok] at hK
    rw [decide_eq_true hok.1] at hc
    rw [decide_eq_true hok.2.1] at hc'
    rw [decide_eq_true (show (xs.length : Int) ≤ 256 by have := hok.2.2; omega)] at hf
    obtain ⟨k1, k1', k2⟩ := hok
    have hrun := fun K => c_l08Run (S := S) (lim := lim) (K := K) hL hI hS hT k1 hnc hsc hX hx k2 hl
    have hrun' := fun g (k : Kept h g) K => c_l08Run (S := S) (h := g) (lim := lim) (K := K) (hL'.kept k) (hI'.kept k) (hS'.kept k) (hT'.kept k) k1' hnc' hsc' (hX.kept k) hx k2 (Nat.le_trans hl k.1)
    have z1 := (runL_small (xs := xs) k1).1
    have z2 := (runL_small (xs := xs) k1').1
    clear k1 k1'
    refine CallT_of_body (F := L23) (HasBo.f23) rfl ?_; unfold L23; dsimp only []
    repeat' (first | (simp (disch := first | omega | assumption | (simp only [List.length_set]; omega) | (simp [*] <;> fail) | assumption) [-Bool.decide_and, -Bool.decide_or, -Bool.not_and, -Bool.not_or, toNat_pred, toNat_succ, wrap64, wr_new, wr_new0, ok_if, ok_ifn, iadV_sl, makeV_int, decT, decF, over_at, *]) | (with_reducible refine Gd_split (fun hc => ?_) (fun hc => ?_) <;> (have hc2 := hc; try simp at hc2)) | (with_reducible refine Br_split (fun hc => ?_) (fun hc => ?_) <;> (have hc2 := hc; try simp at hc2)) | (with_reducible refine GdT_split (fun hc => ?_) (fun hc => ?_) <;> (have hc2 := hc; try simp at hc2)) | (with_reducible refine WT_alt ?_ ?_) | omega)
    refine hrun _ fun o1 sg1 rs1 g1 h1 h2 h3 h4 => ?_
    have w3 : Hid (rs1.map (·.1) = (runL (ps.map (·.1)) (qs.map (·.1)) xs).2) := h3
    clear hrun h3
    repeat' (first | (simp (disch := first | omega | assumption | (simp only [List.length_set]; omega) | (simp [*] <;> fail) | assumption) [-Bool.decide_and, -Bool.decide_or, -Bool.not_and, -Bool.not_or, toNat_pred, toNat_succ, wrap64, wr_new, wr_new0, ok_if, ok_ifn, iadV_sl, makeV_int, decT, decF, over_at, *]) | (with_reducible refine Gd_split (fun hc => ?_) (fun hc => ?_) <;> (have hc2 := hc; try simp at hc2)) | (with_reducible refine Br_split (fun hc => ?_) (fun hc => ?_) <;> (have hc2 := hc; try simp at hc2)) | (with_reducible refine GdT_split (fun hc => ?_) (fun hc => ?_) <;> (have hc2 := hc; try simp at hc2)) | (with_reducible refine WT_alt ?_ ?_) | omega)
    refine hrun' g1 h1.kept _ fun o2 sg2 rs2 g2 i1 i2 i3 i4 => ?_
    have v3 : Hid (rs2.map (·.1) = (runL (p'.map (·.1)) (q'.map (·.1)) xs).2) := i3
    clear hrun' i3
    have k12 := h1.kept.trans i1.kept
    have k12l := k12.1
    have hA := h1.arr.kept i1.kept
    have hB := i1.arr
    obtain ⟨a, ha⟩ : ∃ a, (runL (ps.map (·.1)) (qs.map (·.1)) xs).1 = a := ⟨_, rfl⟩
    obtain ⟨c, hc2⟩ : ∃ c, (runL (p'.map (·.1)) (q'.map (·.1)) xs).1 = c := ⟨_, rfl⟩
    rw [ha, hc2] at hK
    rw [ha] at hA z1
    rw [hc2] at hB z2
    clear ha hc2
    repeat' (first | (simp (disch := first | omega | assumption | (simp only [List.length_set]; omega) | (simp [*] <;> fail) | assumption) [-Bool.decide_and, -Bool.decide_or, -Bool.not_and, -Bool.not_or, toNat_pred, toNat_succ, wrap64, wr_new, wr_new0, ok_if, ok_ifn, iadV_sl, makeV_int, decT, decF, over_at, *, hA.len, leavesAll, fillL]) | (with_reducible refine Gd_split (fun hc => ?_) (fun hc => ?_) <;> (have hc2 := hc; try simp at hc2)) | (with_reducible refine Br_split (fun hc => ?_) (fun hc => ?_) <;> (have hc2 := hc; try simp at hc2)) | (with_reducible refine GdT_split (fun hc => ?_) (fun hc => ?_) <;> (have hc2 := hc; try simp at hc2)) | (with_reducible refine WT_alt ?_ ?_) | omega)
    refine WL_forM 295146779279446769664 (by decide +kernel) (a.length) (fun i b g => i ≤ a.length ∧ b 19 = .lf (.int .i64 i) ∧ ∃ o, b 18 = .lf o ∧ New g2 g o 50 1 ((tabTo (addF a c) i).map fl)) (fun _ _ _ hi => hi.1) ⟨by omega, by simp, .sl g2.length 0 0 1, by simp, by simpa using New.lit0 (h := g2)⟩ ?_
    rintro i b g ⟨hi, e20, o, e6, hN⟩
    have hl1 := tabTo_len (f := addF a c) (n := i)
    have hA1 := hA.kept hN.kept
    have hB1 := hB.kept hN.kept
    have hk1 := hN.kept.1
    by_cases hlt : i < a.length
    · have hlt2 : i < c.length := by omega
      have s1 := tabTo_fl (f := addF a c) (n := i)
      rw [addF_at hlt hlt2] at s1
      have s1H : Hid ((tabTo (addF a c) (i + 1)).map fl = (tabTo (addF a c) i).map fl ++ [[.flt .f32 (fbin .add .f32 a[i] c[i])]]) := s1
      clear hK s1
      repeat' (first | (simp (disch := first | omega | assumption | (simp only [List.length_set]; omega) | (simp [*] <;> fail) | assumption) [-Bool.decide_and, -Bool.decide_or, -Bool.not_and, -Bool.not_or, toNat_pred, toNat_succ, wrap64, wr_new, wr_new0, ok_if, ok_ifn, iadV_sl, makeV_int, decT, decF, over_at, *, hA1.len, hA1.at_, hA1.at_', hA1.rd, hA1.rdIn, hA1.rdIn0, hA1.rdA, hA1.rdInA, hA1.rdIn0A, hB1.len, hB1.at_, hB1.at_', hB1.rd, hB1.rdIn, hB1.rdIn0, hB1.rdA, hB1.rdInA, hB1.rdIn0A, hA1.rd1, hB1.rd1, fl, leavesAll, fillL]) | (with_reducible refine Gd_split (fun hc => ?_) (fun hc => ?_) <;> (have hc2 := hc; try simp at hc2)) | (with_reducible refine Br_split (fun hc => ?_) (fun hc => ?_) <;> (have hc2 := hc; try simp at hc2)) | (with_reducible refine GdT_split (fun hc => ?_) (fun hc => ?_) <;> (have hc2 := hc; try simp at hc2)) | (with_reducible refine WT_alt ?_ ?_) | omega)
      refine oc_push (bytes := 4) (r := [.flt .f32 (fbin .add .f32 a[i] c[i])]) hN ?_ ?_ ?_ (by decide) rfl (by decide)
      · omega
      · simp; omega
      intro o2 g5 hN5 hB5
      rw [← show (tabTo (addF a c) (i + 1)).map fl = _ from s1H] at hN5
      clear s1H
      repeat' (first | (simp (disch := first | omega | assumption | (simp only [List.length_set]; omega) | (simp [*] <;> fail) | assumption) [-Bool.decide_and, -Bool.decide_or, -Bool.not_and, -Bool.not_or, toNat_pred, toNat_succ, wrap64, wr_new, wr_new0, ok_if, ok_ifn, iadV_sl, makeV_int, decT, decF, over_at, *]) | (with_reducible refine Gd_split (fun hc => ?_) (fun hc => ?_) <;> (have hc2 := hc; try simp at hc2)) | (with_reducible refine Br_split (fun hc => ?_) (fun hc => ?_) <;> (have hc2 := hc; try simp at hc2)) | (with_reducible refine GdT_split (fun hc => ?_) (fun hc => ?_) <;> (have hc2 := hc; try simp at hc2)) | (with_reducible refine WT_alt ?_ ?_) | omega)
    · have : i = a.length := by omega
      subst this
      have hk2 := hK o sg1 rs1 sg2 rs2 g (hN.base k12) (h2.later (i1.kept.trans hN.kept)) w3 ((i2.base h1.kept).later hN.kept) v3 (fresh1 (h2.later i1.kept) hN) (fresh1 (i2.base h1.kept) hN) (fresh2 h2 i2)
      clear hK w3 v3
      repeat' (first | (simp (disch := first | omega | assumption | (simp only [List.length_set]; omega) | (simp [*] <;> fail) | assumption) [-Bool.decide_and, -Bool.decide_or, -Bool.not_and, -Bool.not_or, toNat_pred, toNat_succ, wrap64, wr_new, wr_new0, ok_if, ok_ifn, iadV_sl, makeV_int, decT, decF, over_at, *, hA1.len]) | (with_reducible refine Gd_split (fun hc => ?_) (fun hc => ?_) <;> (have hc2 := hc; try simp at hc2)) | (with_reducible refine Br_split (fun hc => ?_) (fun hc => ?_) <;> (have hc2 := hc; try simp at hc2)) | (with_reducible refine GdT_split (fun hc => ?_) (fun hc => ?_) <;> (have hc2 := hc; try simp at hc2)) | (with_reducible refine WT_alt ?_ ?_) | omega)
  · have hk2 := hK .nils .nils [] .nils [] h (by unfold rbR; rw [if_neg hok]; exact New.nil (Kept.refl h)) (NewD.start (Kept.refl h)) (by unfold rbR; rw [if_neg hok]; rfl) (NewD.start (Kept.refl h)) (by unfold rbR; rw [if_neg hok]; rfl) (fun t ht => Far.nil_left) (fun t ht => Far.nil_left) (fun s hs t ht => by simp [lvs] at hs; subst hs; exact Far.nil_left)
    rw [decide_eq_false hok] at hk2
    clear hK
    by_cases k1 : isFit (ps.map (·.1)) (qs.map (·.1))
    · rw [decide_eq_true k1] at hc
      by_cases k1' : isFit (p'.map (·.1)) (q'.map (·.1))
      · have k2 : ¬ ((xs.length : Int) ≤ 256) := fun q => hok ⟨k1, k1', by omega⟩
        rw [decide_eq_true k1'] at hc'
        rw [decide_eq_false k2] at hf
        clear hok k1 k1'
        refine CallT_of_body (F := L23) (HasBo.f23) rfl ?_; unfold L23; dsimp only []
        repeat' (first | (simp (disch := first | omega | assumption | (simp only [List.length_set]; omega) | (simp [*] <;> fail) | assumption) [-Bool.decide_and, -Bool.decide_or, -Bool.not_and, -Bool.not_or, toNat_pred, toNat_succ, wrap64, wr_new, wr_new0, ok_if, ok_ifn, iadV_sl, makeV_int, decT, decF, over_at, *]) | (with_reducible refine Gd_split (fun hc => ?_) (fun hc => ?_) <;> (have hc2 := hc; try simp at hc2)) | (with_reducible refine Br_split (fun hc => ?_) (fun hc => ?_) <;> (have hc2 := hc; try simp at hc2)) | (with_reducible refine GdT_split (fun hc => ?_) (fun hc => ?_) <;> (have hc2 := hc; try simp at hc2)) | (with_reducible refine WT_alt ?_ ?_) | omega)
      · rw [decide_eq_false k1'] at hc'
        clear hok k1 k1'
        refine CallT_of_body (F := L23) (HasBo.f23) rfl ?_; unfold L23; dsimp only []
        repeat' (first | (simp (disch := first | omega | assumption | (simp only [List.length_set]; omega) | (simp [*] <;> fail) | assumption) [-Bool.decide_and, -Bool.decide_or, -Bool.not_and, -Bool.not_or, toNat_pred, toNat_succ, wrap64, wr_new, wr_new0, ok_if, ok_ifn, iadV_sl, makeV_int, decT, decF, over_at, *]) | (with_reducible refine Gd_split (fun hc => ?_) (fun hc => ?_) <;> (have hc2 := hc; try simp at hc2)) | (with_reducible refine Br_split (fun hc => ?_) (fun hc => ?_) <;> (have hc2 := hc; try simp at hc2)) | (with_reducible refine GdT_split (fun hc => ?_) (fun hc => ?_) <;> (have hc2 := hc; try simp at hc2)) | (with_reducible refine WT_alt ?_ ?_) | omega)
    · rw [decide_eq_false k1] at hc
      clear hok k1
      refine CallT_of_body (F := L23) (HasBo.f23) rfl ?_; unfold L23; dsimp only []
      repeat' (first | (simp (disch := first | omega | assumption | (simp only [List.length_set]; omega) | (simp [*] <;> fail) | assumption) [-Bool.decide_and, -Bool.decide_or, -Bool.not_and, -Bool.not_or, toNat_pred, toNat_succ, wrap64, wr_new, wr_new0, ok_if, ok_ifn, iadV_sl, makeV_int, decT, decF, over_at, *]) | (with_reducible refine Gd_split (fun hc => ?_) (fun hc => ?_) <;> (have hc2 := hc; try simp at hc2)) | (with_reducible refine Br_split (fun hc => ?_) (fun hc => ?_) <;> (have hc2 := hc; try simp at hc2)) | (with_reducible refine GdT_split (fun hc => ?_) (fun hc => ?_) <;> (have hc2 := hc; try simp at hc2)) | (with_reducible refine WT_alt ?_ ?_) | omega)
set_option maxHeartbeats 4000000 in
theorem c_implRunBoth (hL : Arr h l 3 (ps.map Eff.cells)) (hI : In h Eff.nums ps) (hL' : Arr h m 3 (p'.map Eff.cells)) (hI' : In h Eff.nums p') (hS : Arr h l2 1 (qs.map ssCells)) (hT : Sms h ssRows qs) (hT2 : In h ssRows qs) (hS' : Arr h m2 1 (q'.map ssCells)) (hT' : Sms h ssRows q') (hT2' : In h ssRows q') (hnc : ∀ e ∈ ps.map (·.1), ∀ x ∈ e.nums, CF x) (hnc' : ∀ e ∈ p'.map (·.1), ∀ x ∈ e.nums, CF x) (hsc : ∀ s ∈ qs.map (·.1), ∀ x ∈ s, CF x) (hsc' : ∀ s ∈ q'.map (·.1), ∀ x ∈ s, CF x) (hX : Sm h l3 xs) (hx : ∀ x ∈ xs, CF x) (hl : lim ≤ h.length)
    (hK : ∀ o sg rs sg2 rs2 g, New h g o 50 1 ((rbR (ps.map (·.1)) (p'.map (·.1)) (qs.map (·.1)) (q'.map (·.1)) xs).1.map fl) → NewD h g sg 24 1 ssCells ssRows 50 rs → rs.map (·.1) = (rbR (ps.map (·.1)) (p'.map (·.1)) (qs.map (·.1)) (q'.map (·.1)) xs).2.1 → NewD h g sg2 24 1 ssCells ssRows 50 rs2 → rs2.map (·.1) = (rbR (ps.map (·.1)) (p'.map (·.1)) (qs.map (·.1)) (q'.map (·.1)) xs).2.2 → (∀ t ∈ lvs sg rs, Far o t) → (∀ t ∈ lvs sg2 rs2, Far o t) → (∀ s ∈ lvs sg rs, ∀ t ∈ lvs sg2 rs2, Far s t) → K (.tup [.lf o, .lf sg, .lf sg2, .lf (.bool (decide (okRb (ps.map (·.1)) (p'.map (·.1)) (qs.map (·.1)) (q'.map (·.1)) xs.length)))]) g) : CallT S false 24 [.lf l, .lf m, .lf l2, .lf m2, .lf l3] h lim K := by
  have hc := fun lim K => c_implIsState (S := S) (lim := lim) (K := K) hL hI hS hT2
  have hc' := fun lim K => c_implIsState (S := S) (lim := lim) (K := K) hL' hI' hS' hT2'
  have hf := fun lim K => c_areSamples (S := S) (lim := lim) (K := K) hX.arr
  by_cases hok : okRb (ps.map (·.1)) (p'.map (·.1)) (qs.map (·.1)) (q'.map (·.1)) xs.length
  · unfold rbR at hK
    rw [if_pos hok, decide_eq_true hok] at hK
    rw [decide_eq_true hok.1] at hc
    rw [decide_eq_true hok.2.1] at hc'
    rw [decide_eq_true (show (xs.length : Int) ≤ 256 by have := hok.2.2; omega)] at hf
    obtain ⟨k1, k1', k2⟩ := hok
    have hrun := fun K => c_runChain (S := S) (lim := lim) (K := K) hL hI hS hT k1 hnc hsc hX hx k2 hl
    have hrun' := fun g (k : Kept h g) K => c_runChain (S := S) (h := g) (lim := lim) (K := K) (hL'.kept k) (hI'.kept k) (hS'.kept k) (hT'.kept k) k1' hnc' hsc' (hX.kept k) hx k2 (Nat.le_trans hl k.1)
    have z1 := (runL_small (xs := xs) k1).1
    have z2 := (runL_small (xs := xs) k1').1
    clear k1 k1'
    refine CallT_of_body (F := L24) (HasBo.f24) rfl ?_; unfold L24; dsimp only []
    repeat' (first | (simp (disch := first | omega | assumption | (simp only [List.length_set]; omega) | (simp [*] <;> fail) | assumption) [-Bool.decide_and, -Bool.decide_or, -Bool.not_and, -Bool.not_or, toNat_pred, toNat_succ, wrap64, wr_new, wr_new0, ok_if, ok_ifn, iadV_sl, makeV_int, decT, decF, over_at, *]) | (with_reducible refine Gd_split (fun hc => ?_) (fun hc => ?_) <;> (have hc2 := hc; try simp at hc2)) | (with_reducible refine Br_split (fun hc => ?_) (fun hc => ?_) <;> (have hc2 := hc; try simp at hc2)) | (with_reducible refine GdT_split (fun hc => ?_) (fun hc => ?_) <;> (have hc2 := hc; try simp at hc2)) | (with_reducible refine WT_alt ?_ ?_) | omega)
    refine hrun _ fun o1 sg1 rs1 g1 h1 h2 h3 h4 => ?_
    have w3 : Hid (rs1.map (·.1) = (runL (ps.map (·.1)) (qs.map (·.1)) xs).2) := h3
    clear hrun h3
    repeat' (first | (simp (disch := first | omega | assumption | (simp only [List.length_set]; omega) | (simp [*] <;> fail) | assumption) [-Bool.decide_and, -Bool.decide_or, -Bool.not_and, -Bool.not_or, toNat_pred, toNat_succ, wrap64, wr_new, wr_new0, ok_if, ok_ifn, iadV_sl, makeV_int, decT, decF, over_at, *]) | (with_reducible refine Gd_split (fun hc => ?_) (fun hc => ?_) <;> (have hc2 := hc; try simp at hc2)) | (with_reducible refine Br_split (fun hc => ?_) (fun hc => ?_) <;> (have hc2 := hc; try simp at hc2)) | (with_reducible refine GdT_split (fun hc => ?_) (fun hc => ?_) <;> (have hc2 := hc; try simp at hc2)) | (with_reducible refine WT_alt ?_ ?_) | omega)
    refine hrun' g1 h1.kept _ fun o2 sg2 rs2 g2 i1 i2 i3 i4 => ?_
    have v3 : Hid (rs2.map (·.1) = (runL (p'.map (·.1)) (q'.map (·.1)) xs).2) := i3
    clear hrun' i3
    have k12 := h1.kept.trans i1.kept
    have k12l := k12.1
    have hA := h1.arr.kept i1.kept
    have hB := i1.arr
    obtain ⟨a, ha⟩ : ∃ a, (runL (ps.map (·.1)) (qs.map (·.1)) xs).1 = a := ⟨_, rfl⟩
    obtain ⟨c, hc2⟩ : ∃ c, (runL (p'.map (·.1)) (q'.map (·.1)) xs).1 = c := ⟨_, rfl⟩
    rw [ha, hc2] at hK
    rw [ha] at hA z1
    rw [hc2] at hB z2
    clear ha hc2
    repeat' (first | (simp (disch := first | omega | assumption | (simp only [List.length_set]; omega) | (simp [*] <;> fail) | assumption) [-Bool.decide_and, -Bool.decide_or, -Bool.not_and, -Bool.not_or, toNat_pred, toNat_succ, wrap64, wr_new, wr_new0, ok_if, ok_ifn, iadV_sl, makeV_int, decT, decF, over_at, *]) | (with_reducible refine Gd_split (fun hc => ?_) (fun hc => ?_) <;> (have hc2 := hc; try simp at hc2)) | (with_reducible refine Br_split (fun hc => ?_) (fun hc => ?_) <;> (have hc2 := hc; try simp at hc2)) | (with_reducible refine GdT_split (fun hc => ?_) (fun hc => ?_) <;> (have hc2 := hc; try simp at hc2)) | (with_reducible refine WT_alt ?_ ?_) | omega)
    refine c_mixSamples hA hB (by omega) (by omega) (Nat.le_trans hl k12l) fun o g hN => ?_
    have hk2 := hK o sg1 rs1 sg2 rs2 g (hN.base k12) (h2.later (i1.kept.trans hN.kept)) w3 ((i2.base h1.kept).later hN.kept) v3 (fresh1 (h2.later i1.kept) hN) (fresh1 (i2.base h1.kept) hN) (fresh2 h2 i2)
    clear hK w3 v3
    repeat' (first | (simp (disch := first | omega | assumption | (simp only [List.length_set]; omega) | (simp [*] <;> fail) | assumption) [-Bool.decide_and, -Bool.decide_or, -Bool.not_and, -Bool.not_or, toNat_pred, toNat_succ, wrap64, wr_new, wr_new0, ok_if, ok_ifn, iadV_sl, makeV_int, decT, decF, over_at, *]) | (with_reducible refine Gd_split (fun hc => ?_) (fun hc => ?_) <;> (have hc2 := hc; try simp at hc2)) | (with_reducible refine Br_split (fun hc => ?_) (fun hc => ?_) <;> (have hc2 := hc; try simp at hc2)) | (with_reducible refine GdT_split (fun hc => ?_) (fun hc => ?_) <;> (have hc2 := hc; try simp at hc2)) | (with_reducible refine WT_alt ?_ ?_) | omega)
  · have hk2 := hK .nils .nils [] .nils [] h (by unfold rbR; rw [if_neg hok]; exact New.nil (Kept.refl h)) (NewD.start (Kept.refl h)) (by unfold rbR; rw [if_neg hok]; rfl) (NewD.start (Kept.refl h)) (by unfold rbR; rw [if_neg hok]; rfl) (fun t ht => Far.nil_left) (fun t ht => Far.nil_left) (fun s hs t ht => by simp [lvs] at hs; subst hs; exact Far.nil_left)
    rw [decide_eq_false hok] at hk2
    clear hK
    by_cases k1 : isFit (ps.map (·.1)) (qs.map (·.1))
    · rw [decide_eq_true k1] at hc
      by_cases k1' : isFit (p'.map (·.1)) (q'.map (·.1))
      · have k2 : ¬ ((xs.length : Int) ≤ 256) := fun q => hok ⟨k1, k1', by omega⟩
        rw [decide_eq_true k1'] at hc'
        rw [decide_eq_false k2] at hf
        clear hok k1 k1'
        refine CallT_of_body (F := L24) (HasBo.f24) rfl ?_; unfold L24; dsimp only []
        repeat' (first | (simp (disch := first | omega | assumption | (simp only [List.length_set]; omega) | (simp [*] <;> fail) | assumption) [-Bool.decide_and, -Bool.decide_or, -Bool.not_and, -Bool.not_or, toNat_pred, toNat_succ, wrap64, wr_new, wr_new0, ok_if, ok_ifn, iadV_sl, makeV_int, decT, decF, over_at, *]) | (with_reducible refine Gd_split (fun hc => ?_) (fun hc => ?_) <;> (have hc2 := hc; try simp at hc2)) | (with_reducible refine Br_split (fun hc => ?_) (fun hc => ?_) <;> (have hc2 := hc; try simp at hc2)) | (with_reducible refine GdT_split (fun hc => ?_) (fun hc => ?_) <;> (have hc2 := hc; try simp at hc2)) | (with_reducible refine WT_alt ?_ ?_) | omega)
      · rw [decide_eq_false k1'] at hc'
        clear hok k1 k1'
        refine CallT_of_body (F := L24) (HasBo.f24) rfl ?_; unfold L24; dsimp only []
        repeat' (first | (simp (disch := first | omega | assumption | (simp only [List.length_set]; omega) | (simp [*] <;> fail) | assumption) [-Bool.decide_and, -Bool.decide_or, -Bool.not_and, -Bool.not_or, toNat_pred, toNat_succ, wrap64, wr_new, wr_new0, ok_if, ok_ifn, iadV_sl, makeV_int, decT, decF, over_at, *]) | (with_reducible refine Gd_split (fun hc => ?_) (fun hc => ?_) <;> (have hc2 := hc; try simp at hc2)) | (with_reducible refine Br_split (fun hc => ?_) (fun hc => ?_) <;> (have hc2 := hc; try simp at hc2)) | (with_reducible refine GdT_split (fun hc => ?_) (fun hc => ?_) <;> (have hc2 := hc; try simp at hc2)) | (with_reducible refine WT_alt ?_ ?_) | omega)
    · rw [decide_eq_false k1] at hc
      clear hok k1
      refine CallT_of_body (F := L24) (HasBo.f24) rfl ?_; unfold L24; dsimp only []
      repeat' (first | (simp (disch := first | omega | assumption | (simp only [List.length_set]; omega) | (simp [*] <;> fail) | assumption) [-Bool.decide_and, -Bool.decide_or, -Bool.not_and, -Bool.not_or, toNat_pred, toNat_succ, wrap64, wr_new, wr_new0, ok_if, ok_ifn, iadV_sl, makeV_int, decT, decF, over_at, *]) | (with_reducible refine Gd_split (fun hc => ?_) (fun hc => ?_) <;> (have hc2 := hc; try simp at hc2)) | (with_reducible refine Br_split (fun hc => ?_) (fun hc => ?_) <;> (have hc2 := hc; try simp at hc2)) | (with_reducible refine GdT_split (fun hc => ?_) (fun hc => ?_) <;> (have hc2 := hc; try simp at hc2)) | (with_reducible refine WT_alt ?_ ?_) | omega)
end
end Go.E
