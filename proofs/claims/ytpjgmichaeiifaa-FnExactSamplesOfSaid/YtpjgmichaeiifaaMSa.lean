/- Samples of codes. -/
import Derived.Test.YtpjgmichaeiifaaMK
set_option linter.unusedVariables false
set_option linter.unusedSimpArgs false
namespace Go.E
open Go
def L82 : LFn := ⟨2, (.seq (.reg [⟨(.some 4), (.mv (.c (.lf (.flt .f32 0)))), none⟩])
 (.seq (.reg [⟨(.some 5), (.mv (.t 0)), none⟩, ⟨(.some 6), (.toflt .f32 (.t 5)), none⟩, ⟨(.some 7), (.mv (.t 1)), none⟩, ⟨(.some 8), (.toflt .f32 (.t 7)), none⟩, ⟨(.some 9), (.bin .quo (.t 6) (.t 8)), none⟩, ⟨(.some 4), (.mv (.t 9)), none⟩])
 .ret)), [(.tmp 4)]⟩
def L26 : LFn := ⟨2, (.seq (.reg [⟨(.some 4), (.mv (.c (.lf .nils))), none⟩, ⟨(.some 5), (.mv (.c (.lf (.bool false)))), none⟩])
 (.seq (.seq (.reg [⟨(.some 8), (.mv (.t 0)), none⟩, ⟨(.some 9), (.call true 78 [(.t 8)]), none⟩, ⟨(.some 10), (.una .not (.t 9)), none⟩, ⟨(.some 11), (.mv (.t 10)), none⟩, ⟨(.some 12), (.mv (.t 0)), (.some (11, false))⟩, ⟨(.some 13), (.mv (.t 1)), (.some (11, false))⟩, ⟨(.some 14), (.call true 79 [(.t 12), (.t 13)]), (.some (11, false))⟩, ⟨(.some 15), (.una .not (.t 14)), (.some (11, false))⟩, ⟨(.some 16), (.pick (.t 11) (.c (.lf (.bool true))) (.t 15)), none⟩])
 (.cond (.t 16) (.seq (.reg [⟨(.some 4), (.mv (.c (.lf .nils))), none⟩, ⟨(.some 5), (.mv (.c (.lf (.bool false)))), none⟩])
 .ret) .skip))
 (.seq (.reg [⟨(.some 17), (.lit 24 1 0 [] []), none⟩, ⟨(.some 6), (.mv (.t 17)), none⟩])
 (.seq (.seq (.reg [⟨(.some 7), (.mv (.c (.lf (.int .i64 0)))), none⟩])
 (.block 0 (.loop (.seq (.seq (.reg [⟨(.some 18), (.mv (.t 7)), none⟩, ⟨(.some 19), (.mv (.t 1)), none⟩, ⟨(.some 20), (.len (.t 19)), none⟩, ⟨(.some 21), (.bin .lss (.t 18) (.t 20)), none⟩])
 (.cond (.t 21) .skip (.exit 0)))
 (.seq (.block 1 (.reg [⟨(.some 24), (.mv (.t 6)), none⟩, ⟨(.some 25), (.mv (.t 1)), none⟩, ⟨(.some 26), (.mv (.t 7)), none⟩, ⟨(.some 27), (.iaddr 1 (.t 25) (.t 26)), none⟩, ⟨(.some 28), (.load false 1 (.t 27)), none⟩, ⟨(.some 29), (.toflt .f32 (.t 28)), none⟩, ⟨(.some 30), (.mv (.t 0)), none⟩, ⟨(.some 31), (.call true 80 [(.t 30)]), none⟩, ⟨(.some 32), (.toflt .f32 (.t 31)), none⟩, ⟨(.some 33), (.bin .quo (.t 29) (.t 32)), none⟩, ⟨(.some 34), (.lit 24 1 1 [(.flt .f32 0)] [(0, (1, (.t 33)))]), none⟩, ⟨(.some 35), (.app 24 1 4 (.t 24) (.t 34)), none⟩, ⟨(.some 6), (.mv (.t 35)), none⟩]))
 (.reg [⟨(.some 22), (.mv (.t 7)), none⟩, ⟨(.some 23), (.bin .add (.t 22) (.c (.lf (.int .i64 1)))), none⟩, ⟨(.some 7), (.mv (.t 23)), none⟩]))))))
 (.seq (.reg [⟨(.some 36), (.mv (.t 6)), none⟩, ⟨(.some 4), (.mv (.t 36)), none⟩, ⟨(.some 5), (.mv (.c (.lf (.bool true)))), none⟩])
 .ret))))), [(.tmp 4), (.tmp 5)]⟩
def L28 : LFn := ⟨2, (.seq (.reg [⟨(.some 4), (.mv (.c (.lf .nils))), none⟩, ⟨(.some 5), (.mv (.c (.lf (.bool false)))), none⟩])
 (.seq (.seq (.reg [⟨(.some 9), (.mv (.t 0)), none⟩, ⟨(.some 10), (.mv (.t 1)), none⟩, ⟨(.some 11), (.call true 81 [(.t 9), (.t 10)]), none⟩, ⟨(.some 12), (.una .not (.t 11)), none⟩])
 (.cond (.t 12) (.seq (.reg [⟨(.some 4), (.mv (.c (.lf .nils))), none⟩, ⟨(.some 5), (.mv (.c (.lf (.bool false)))), none⟩])
 .ret) .skip))
 (.seq (.reg [⟨(.some 6), (.mv (.c (.lf .nils))), none⟩])
 (.seq (.seq (.reg [⟨(.some 13), (.mv (.t 1)), none⟩, ⟨(.some 14), (.len (.t 13)), none⟩, ⟨(.some 15), (.mv (.c (.lf (.int .i64 0)))), none⟩])
 (.block 0 (.loop (.seq (.reg [⟨(.some 16), (.bin .lss (.t 15) (.t 14)), none⟩])
 (.seq (.cond (.t 16) .skip (.exit 0))
 (.seq (.block 1 (.seq (.reg [⟨(.some 17), (.iaddr 1 (.t 13) (.t 15)), none⟩, ⟨(.some 18), (.load false 1 (.t 17)), none⟩, ⟨(.some 8), (.mv (.t 18)), none⟩])
 (.reg [⟨(.some 19), (.mv (.t 6)), none⟩, ⟨(.some 20), (.mv (.t 8)), none⟩, ⟨(.some 21), (.mv (.t 0)), none⟩, ⟨(.some 22), (.bin .sub (.t 21) (.c (.lf (.int .i64 1)))), none⟩, ⟨(.some 23), (.bin .shl (.c (.lf (.int .i64 1))) (.t 22)), none⟩, ⟨(.some 24), (.call true 82 [(.t 20), (.t 23)]), none⟩, ⟨(.some 25), (.lit 24 1 1 [(.flt .f32 0)] [(0, (1, (.t 24)))]), none⟩, ⟨(.some 26), (.app 24 1 4 (.t 19) (.t 25)), none⟩, ⟨(.some 6), (.mv (.t 26)), none⟩])))
 (.reg [⟨(.some 27), (.bin .add (.t 15) (.c (.lf (.int .i64 1)))), none⟩, ⟨(.some 15), (.mv (.t 27)), none⟩])))))))
 (.seq (.reg [⟨(.some 28), (.mv (.t 6)), none⟩, ⟨(.some 4), (.mv (.t 28)), none⟩, ⟨(.some 5), (.mv (.c (.lf (.bool true)))), none⟩])
 .ret))))), [(.tmp 4), (.tmp 5)]⟩
class HasSa (S : Sys) : Prop extends HasK S where
  f82 : S.fs 82 = some L82
  f26 : S.fs 26 = some L26
  f28 : S.fs 28 = some L28
def smp (b : Int) (x : Int) : Nat := fbin .quo .f32 (fofint .f32 x) (fofint .f32 (mst b))
noncomputable def okSa (b : Int) (xs : List Int) : Bool := decide ((2 ≤ b ∧ b ≤ 16) ∧ areCodes b xs)
noncomputable def samplesOf (b : Int) (xs : List Int) : List Nat := if okSa b xs then xs.map (smp b) else []
theorem samplesOf_len {b : Int} {xs : List Int} : (samplesOf b xs).length ≤ 256 := by
  unfold samplesOf; split
  · rename_i hok; simp only [okSa, decide_eq_true_eq] at hok; simpa using hok.2.1
  · simp
section
variable {S : Sys} {lim : Nat} {h : Hp} {K : CV → Hp → Prop} [HasSa S] {l : Lf} {xs : List Int}
@[simp] theorem c_share {x y : Int} : CallT S true 82 [.lf (.int .i64 x), .lf (.int .i64 y)] h lim K = K (.lf (.flt .f32 (fbin .quo .f32 (fofint .f32 x) (fofint .f32 y)))) h := by
  refine CallT_pure (F := L82) (HasSa.f82) rfl (by first | rfl | (split <;> rfl) | simp) ?_; unfold L82; dsimp only []
  repeat' (first | (simp (disch := first | omega | assumption | (simp [*] <;> fail) | assumption) [-Bool.decide_and, -Bool.decide_or, -Bool.not_and, -Bool.not_or, toNat_pred, toNat_succ, wrap64, wr_new, wr_new0, ok_if, ok_ifn, iadV_sl, makeV_int, decT, decF, *]) | (refine Gd_split (fun hc => ?_) (fun hc => ?_) <;> (have hc2 := hc; try simp at hc2)) | (refine Br_split (fun hc => ?_) (fun hc => ?_) <;> (have hc2 := hc; try simp at hc2)) | omega)
theorem d_specSamplesOf {b : Int} (hA : Arr h l 1 (xs.map il)) (hl : lim ≤ h.length) (hK : ∀ o g, New h g o 24 1 ((samplesOf b xs).map fl) → K (.tup [.lf o, .lf (.bool (okSa b xs))]) g) :
    CallT S false 26 [.lf (.int .i64 b), .lf l] h lim K := by
  have hb := hA.bound
  cases hok : okSa b xs
  · have hK2 := hK .nils h (by simpa [samplesOf, hok] using New.nil (Kept.refl h))
    rw [hok] at hK2
    clear hK
    simp only [okSa, decide_eq_false_iff_not] at hok
    refine CallT_of_body (F := L26) (HasSa.f26) rfl ?_; unfold L26; dsimp only []
    by_cases h1 : 2 ≤ b ∧ b ≤ 16
    · have h2 : ¬ areCodes b xs := fun h => hok ⟨h1, h⟩
      repeat' (first | (simp (disch := first | omega | assumption | (simp [*] <;> fail) | assumption) [-Bool.decide_and, -Bool.decide_or, -Bool.not_and, -Bool.not_or, toNat_pred, toNat_succ, wrap64, wr_new, wr_new0, ok_if, ok_ifn, iadV_sl, makeV_int, decT, decF, *, c_l06Codes h1.1 h1.2 hA]) | (refine Gd_split (fun hc => ?_) (fun hc => ?_) <;> (have hc2 := hc; try simp at hc2)) | (refine Br_split (fun hc => ?_) (fun hc => ?_) <;> (have hc2 := hc; try simp at hc2)) | omega)
    · repeat' (first | (simp (disch := first | omega | assumption | (simp [*] <;> fail) | assumption) [-Bool.decide_and, -Bool.decide_or, -Bool.not_and, -Bool.not_or, toNat_pred, toNat_succ, wrap64, wr_new, wr_new0, ok_if, ok_ifn, iadV_sl, makeV_int, decT, decF, *]) | (refine Gd_split (fun hc => ?_) (fun hc => ?_) <;> (have hc2 := hc; try simp at hc2)) | (refine Br_split (fun hc => ?_) (fun hc => ?_) <;> (have hc2 := hc; try simp at hc2)) | omega)
  · have hK2 := fun o g => hK o g
    simp only [samplesOf, hok, if_true] at hK2
    clear hK
    simp only [okSa, decide_eq_true_eq] at hok
    have hlen := hok.2.1
    refine CallT_of_body (F := L26) (HasSa.f26) rfl ?_; unfold L26; dsimp only []
    repeat' (first | (simp (disch := first | omega | assumption | (simp [*] <;> fail) | assumption) [-Bool.decide_and, -Bool.decide_or, -Bool.not_and, -Bool.not_or, toNat_pred, toNat_succ, wrap64, wr_new, wr_new0, ok_if, ok_ifn, iadV_sl, makeV_int, decT, decF, *, c_l06Codes hok.1.1 hok.1.2 hA, leavesAll, fillL]) | (refine Gd_split (fun hc => ?_) (fun hc => ?_) <;> (have hc2 := hc; try simp at hc2)) | (refine Br_split (fun hc => ?_) (fun hc => ?_) <;> (have hc2 := hc; try simp at hc2)) | omega)
    refine WL_for xs.length (fun i a' g => i ≤ xs.length ∧ a' 0 = .lf (.int .i64 b) ∧ a' 1 = .lf l ∧ a' 7 = .lf (.int .i64 i) ∧ (∃ o, a' 6 = .lf o ∧ New h g o 24 1 (((xs.take i).map (smp b)).map fl))) (fun i a' h' hi => hi.1) ?_ ⟨by simp, by simp, by simp, by simp, ⟨.sl h.length 0 0 1, by simp, by simpa using New.lit0⟩⟩
    rintro i a' g ⟨hi, e0, e1, e7, ⟨o, e6, hN⟩⟩
    replace hA := hA.kept hN.kept
    by_cases hlt : i < xs.length
    · obtain ⟨l2, g2, e, hN2, _⟩ := hN.push (lim := lim) (bytes := 4) (r := [.flt .f32 (fbin .quo .f32 (fofint .f32 xs[i]) (fofint .f32 (mst b)))]) (by omega) hl rfl (by simp; omega) (by simp; omega)
      repeat' (first | (simp (disch := first | omega | assumption | (simp [*] <;> fail) | assumption) [-Bool.decide_and, -Bool.decide_or, -Bool.not_and, -Bool.not_or, toNat_pred, toNat_succ, wrap64, wr_new, wr_new0, ok_if, ok_ifn, iadV_sl, makeV_int, decT, decF, *, hA.len, hA.at_, hA.at_', hA.rd, hA.rdIn, hA.rdIn0, hA.rdA, hA.rdInA, hA.rdIn0A, hA.rd1, il, c_l06Most hok.1.1 hok.1.2, leavesAll, fillL]) | (refine Gd_split (fun hc => ?_) (fun hc => ?_) <;> (have hc2 := hc; try simp at hc2)) | (refine Br_split (fun hc => ?_) (fun hc => ?_) <;> (have hc2 := hc; try simp at hc2)) | omega)
      refine ⟨by omega, ?_⟩
      rw [List.take_succ_eq_append_getElem (by simpa using hlt)]
      simpa [fl, smp] using hN2
    · have : i = xs.length := by omega
      subst this
      rw [List.take_length] at hN
      repeat' (first | (simp (disch := first | omega | assumption | (simp [*] <;> fail) | assumption) [-Bool.decide_and, -Bool.decide_or, -Bool.not_and, -Bool.not_or, toNat_pred, toNat_succ, wrap64, wr_new, wr_new0, ok_if, ok_ifn, iadV_sl, makeV_int, decT, decF, *, hA.len]) | (refine Gd_split (fun hc => ?_) (fun hc => ?_) <;> (have hc2 := hc; try simp at hc2)) | (refine Br_split (fun hc => ?_) (fun hc => ?_) <;> (have hc2 := hc; try simp at hc2)) | omega)
theorem d_implSamplesOf {b : Int} (hA : Arr h l 1 (xs.map il)) (hl : lim ≤ h.length) (hK : ∀ o g, New h g o 24 1 ((samplesOf b xs).map fl) → K (.tup [.lf o, .lf (.bool (okSa b xs))]) g) :
    CallT S false 28 [.lf (.int .i64 b), .lf l] h lim K := by
  have hb := hA.bound
  cases hok : okSa b xs
  · have hK2 := hK .nils h (by simpa [samplesOf, hok] using New.nil (Kept.refl h))
    rw [hok] at hK2
    clear hK
    simp only [okSa, decide_eq_false_iff_not] at hok
    refine CallT_of_body (F := L28) (HasSa.f28) rfl ?_; unfold L28; dsimp only []
    repeat' (first | (simp (disch := first | omega | assumption | (simp [*] <;> fail) | assumption) [-Bool.decide_and, -Bool.decide_or, -Bool.not_and, -Bool.not_or, toNat_pred, toNat_succ, wrap64, wr_new, wr_new0, ok_if, ok_ifn, iadV_sl, makeV_int, decT, decF, *, c_areCodes hA]) | (refine Gd_split (fun hc => ?_) (fun hc => ?_) <;> (have hc2 := hc; try simp at hc2)) | (refine Br_split (fun hc => ?_) (fun hc => ?_) <;> (have hc2 := hc; try simp at hc2)) | omega)
  · have hK2 := fun o g => hK o g
    simp only [samplesOf, hok, if_true] at hK2
    clear hK
    simp only [okSa, decide_eq_true_eq] at hok
    have hlen := hok.2.1
    refine CallT_of_body (F := L28) (HasSa.f28) rfl ?_; unfold L28; dsimp only []
    repeat' (first | (simp (disch := first | omega | assumption | (simp [*] <;> fail) | assumption) [-Bool.decide_and, -Bool.decide_or, -Bool.not_and, -Bool.not_or, toNat_pred, toNat_succ, wrap64, wr_new, wr_new0, ok_if, ok_ifn, iadV_sl, makeV_int, decT, decF, *, c_areCodes hA, hA.len]) | (refine Gd_split (fun hc => ?_) (fun hc => ?_) <;> (have hc2 := hc; try simp at hc2)) | (refine Br_split (fun hc => ?_) (fun hc => ?_) <;> (have hc2 := hc; try simp at hc2)) | omega)
    refine WL_for xs.length (fun i a' g => i ≤ xs.length ∧ a' 0 = .lf (.int .i64 b) ∧ a' 13 = .lf l ∧ a' 14 = .lf (.int .i64 xs.length) ∧ a' 15 = .lf (.int .i64 i) ∧ (∃ o, a' 6 = .lf o ∧ New h g o 24 1 (((xs.take i).map (smp b)).map fl))) (fun i a' h' hi => hi.1) ?_ ⟨by simp, by simp, by simp, by simp, by simp, ⟨.nils, by simp, by simpa using New.nil (Kept.refl h)⟩⟩
    rintro i a' g ⟨hi, e0, e1, e14, e7, ⟨o, e6, hN⟩⟩
    replace hA := hA.kept hN.kept
    by_cases hlt : i < xs.length
    · obtain ⟨l2, g2, e, hN2, _⟩ := hN.push (lim := lim) (bytes := 4) (r := [.flt .f32 (fbin .quo .f32 (fofint .f32 xs[i]) (fofint .f32 (mst b)))]) (by omega) hl rfl (by simp; omega) (by simp; omega)
      repeat' (first | (simp (disch := first | omega | assumption | (simp [*] <;> fail) | assumption) [-Bool.decide_and, -Bool.decide_or, -Bool.not_and, -Bool.not_or, toNat_pred, toNat_succ, wrap64, wr_new, wr_new0, ok_if, ok_ifn, iadV_sl, makeV_int, decT, decF, *, hA.len, hA.at_, hA.at_', hA.rd, hA.rdIn, hA.rdIn0, hA.rdA, hA.rdInA, hA.rdIn0A, hA.rd1, il, shl_mst, leavesAll, fillL]) | (refine Gd_split (fun hc => ?_) (fun hc => ?_) <;> (have hc2 := hc; try simp at hc2)) | (refine Br_split (fun hc => ?_) (fun hc => ?_) <;> (have hc2 := hc; try simp at hc2)) | omega)
      refine ⟨by omega, ?_⟩
      rw [List.take_succ_eq_append_getElem (by simpa using hlt)]
      simpa [fl, smp] using hN2
    · have : i = xs.length := by omega
      subst this
      rw [List.take_length] at hN
      repeat' (first | (simp (disch := first | omega | assumption | (simp [*] <;> fail) | assumption) [-Bool.decide_and, -Bool.decide_or, -Bool.not_and, -Bool.not_or, toNat_pred, toNat_succ, wrap64, wr_new, wr_new0, ok_if, ok_ifn, iadV_sl, makeV_int, decT, decF, *, hA.len]) | (refine Gd_split (fun hc => ?_) (fun hc => ?_) <;> (have hc2 := hc; try simp at hc2)) | (refine Br_split (fun hc => ?_) (fun hc => ?_) <;> (have hc2 := hc; try simp at hc2)) | omega)
end
end Go.E
