/- Lowering of a rate. -/
import Derived.Test.YtpjgmichaeiifaaMT
import Derived.Test.YtpjgmichaeiifaaMN
set_option linter.unusedVariables false
set_option linter.unusedSimpArgs false
namespace Go.E
open Go
def L20 : LFn := ⟨3, (.seq (.reg [⟨(.some 6), (.mv (.c (.lf .nils))), none⟩, ⟨(.some 7), (.mv (.c (.lf (.bool false)))), none⟩])
 (.seq (.seq (.reg [⟨(.some 10), (.mv (.t 0)), none⟩, ⟨(.some 11), (.call true 68 [(.t 10)]), none⟩, ⟨(.some 12), (.una .not (.t 11)), none⟩, ⟨(.some 13), (.mv (.t 12)), none⟩, ⟨(.some 14), (.mv (.t 1)), (.some (13, false))⟩, ⟨(.some 15), (.call true 69 [(.t 14)]), (.some (13, false))⟩, ⟨(.some 16), (.una .not (.t 15)), (.some (13, false))⟩, ⟨(.some 17), (.pick (.t 13) (.c (.lf (.bool true))) (.t 16)), none⟩, ⟨(.some 18), (.mv (.t 17)), none⟩, ⟨(.some 19), (.mv (.t 2)), (.some (18, false))⟩, ⟨(.some 20), (.call true 70 [(.t 19)]), (.some (18, false))⟩, ⟨(.some 21), (.una .not (.t 20)), (.some (18, false))⟩, ⟨(.some 22), (.pick (.t 18) (.c (.lf (.bool true))) (.t 21)), none⟩])
 (.cond (.t 22) (.seq (.reg [⟨(.some 6), (.mv (.c (.lf .nils))), none⟩, ⟨(.some 7), (.mv (.c (.lf (.bool false)))), none⟩])
 .ret) .skip))
 (.seq (.reg [⟨(.some 24), (.mv (.t 1)), none⟩, ⟨(.some 25), (.mv (.t 1)), none⟩, ⟨(.some 26), (.len (.t 25)), none⟩, ⟨(.some 27), (.bin .sub (.t 26) (.c (.lf (.int .i64 1)))), none⟩, ⟨(.some 28), (.make 24 1 4 [(.flt .f32 0)] (.t 27) (.t 27)), none⟩, ⟨(.some 29), (.mv (.t 2)), none⟩, ⟨(.some 30), (.call false 71 [(.t 24), (.t 28), (.t 29)]), none⟩, ⟨(.some 23), (.mv (.t 30)), none⟩, ⟨(.some 31), (.ext (.t 23) 0), none⟩, ⟨(.some 32), (.ext (.t 23) 1), none⟩, ⟨(.some 8), (.mv (.t 31)), none⟩, ⟨(.some 9), (.mv (.t 32)), none⟩])
 (.seq (.reg [⟨(.some 33), (.mv (.t 0)), none⟩, ⟨(.some 34), (.mv (.t 8)), none⟩, ⟨(.some 35), (.call false 72 [(.t 33), (.c (.lf (.int .i64 0))), (.t 34)]), none⟩, ⟨(.some 6), (.mv (.t 35)), none⟩, ⟨(.some 7), (.mv (.c (.lf (.bool true)))), none⟩])
 .ret)))), [(.tmp 6), (.tmp 7)]⟩
def L22 : LFn := ⟨3, (.seq (.reg [⟨(.some 6), (.mv (.c (.lf .nils))), none⟩, ⟨(.some 7), (.mv (.c (.lf (.bool false)))), none⟩])
 (.seq (.seq (.reg [⟨(.some 10), (.mv (.t 1)), none⟩, ⟨(.some 11), (.call true 73 [(.t 10)]), none⟩, ⟨(.some 12), (.una .not (.t 11)), none⟩, ⟨(.some 13), (.mv (.t 12)), none⟩, ⟨(.some 14), (.mv (.t 2)), (.some (13, false))⟩, ⟨(.some 15), (.call true 66 [(.t 14)]), (.some (13, false))⟩, ⟨(.some 16), (.una .not (.t 15)), (.some (13, false))⟩, ⟨(.some 17), (.pick (.t 13) (.c (.lf (.bool true))) (.t 16)), none⟩])
 (.cond (.t 17) (.seq (.reg [⟨(.some 6), (.mv (.c (.lf .nils))), none⟩, ⟨(.some 7), (.mv (.c (.lf (.bool false)))), none⟩])
 .ret) .skip))
 (.seq (.reg [⟨(.some 19), (.mv (.t 1)), none⟩, ⟨(.some 20), (.mv (.t 1)), none⟩, ⟨(.some 21), (.len (.t 20)), none⟩, ⟨(.some 22), (.call true 76 [(.t 21)]), none⟩, ⟨(.some 23), (.bin .sub (.t 22) (.c (.lf (.int .i64 1)))), none⟩, ⟨(.some 24), (.call false 75 [(.t 23)]), none⟩, ⟨(.some 25), (.mv (.t 2)), none⟩, ⟨(.some 26), (.call false 74 [(.t 19), (.t 24), (.t 25)]), none⟩, ⟨(.some 18), (.mv (.t 26)), none⟩, ⟨(.some 27), (.ext (.t 18) 0), none⟩, ⟨(.some 28), (.ext (.t 18) 1), none⟩, ⟨(.some 8), (.mv (.t 27)), none⟩, ⟨(.some 9), (.mv (.t 28)), none⟩])
 (.seq (.reg [⟨(.some 29), (.mv (.t 0)), none⟩, ⟨(.some 30), (.mv (.t 8)), none⟩, ⟨(.some 31), (.call false 77 [(.t 29), (.c (.lf (.int .i64 0))), (.t 30)]), none⟩, ⟨(.some 32), (.ext (.t 31) 0), none⟩, ⟨(.some 33), (.ext (.t 31) 1), none⟩, ⟨(.some 6), (.mv (.t 32)), none⟩, ⟨(.some 7), (.mv (.t 33)), none⟩])
 .ret)))), [(.tmp 6), (.tmp 7)]⟩
class HasU (S : Sys) : Prop extends HasT S, HasN S where
  f20 : S.fs 20 = some L20
  f22 : S.fs 22 = some L22
def okL (f : Int) (ts xs : List Nat) : Bool := decide ((1 ≤ f ∧ f ≤ 8) ∧ (1 ≤ ts.length ∧ ts.length ≤ 32) ∧ xs.length ≤ 256)
def lowerBy (f : Int) (ts xs : List Nat) : List Nat := if okL f ts xs then pk f.toNat 0 (folded ts (List.replicate (ts.length - 1) 0) xs xs.length) else []
theorem lowerBy_len {f : Int} {ts xs : List Nat} : (lowerBy f ts xs).length ≤ 256 := by
  unfold lowerBy; split
  · rename_i hok; simp only [okL, decide_eq_true_eq] at hok
    refine Nat.le_trans (pk_len (n := xs.length) (by simp)) (by omega)
  · simp
section
variable {S : Sys} {lim : Nat} {h : Hp} {K : CV → Hp → Prop} [HasU S] {l1 l2 : Lf} {ts xs : List Nat}
theorem d_specLowerBy {f : Int} (h1 : Sm h l1 ts) (h2 : Sm h l2 xs) (hl : lim ≤ h.length) (hK : ∀ o g, New h g o 24 1 ((lowerBy f ts xs).map fl) → K (.tup [.lf o, .lf (.bool (okL f ts xs))]) g) :
    CallT S false 20 [.lf (.int .i64 f), .lf l1, .lf l2] h lim K := by
  have hb1 := h1.arr.bound
  have hb2 := h2.arr.bound
  cases hok : okL f ts xs
  · have hK2 := hK .nils h (by simpa [lowerBy, hok] using New.nil (Kept.refl h))
    rw [hok] at hK2
    clear hK
    simp only [okL, decide_eq_false_iff_not] at hok
    refine CallT_of_body (F := L20) (HasU.f20) rfl ?_; unfold L20; dsimp only []
    by_cases c1 : 1 ≤ f ∧ f ≤ 8
    · by_cases c2 : 1 ≤ ts.length ∧ ts.length ≤ 32
      · have c3 : ¬ xs.length ≤ 256 := fun h => hok ⟨c1, c2, h⟩
        repeat' (first | (simp (disch := first | omega | assumption | (simp [*] <;> fail) | assumption) [-Bool.decide_and, -Bool.decide_or, -Bool.not_and, -Bool.not_or, toNat_pred, toNat_succ, wrap64, wr_new, wr_new0, ok_if, ok_ifn, iadV_sl, makeV_int, decT, decF, *, c_l06Taps h1.arr, c_l01Few h2.arr]) | (refine Gd_split (fun hc => ?_) (fun hc => ?_) <;> (have hc2 := hc; try simp at hc2)) | (refine Br_split (fun hc => ?_) (fun hc => ?_) <;> (have hc2 := hc; try simp at hc2)) | omega)
      · repeat' (first | (simp (disch := first | omega | assumption | (simp [*] <;> fail) | assumption) [-Bool.decide_and, -Bool.decide_or, -Bool.not_and, -Bool.not_or, toNat_pred, toNat_succ, wrap64, wr_new, wr_new0, ok_if, ok_ifn, iadV_sl, makeV_int, decT, decF, *, c_l06Taps h1.arr, c_l01Few h2.arr]) | (refine Gd_split (fun hc => ?_) (fun hc => ?_) <;> (have hc2 := hc; try simp at hc2)) | (refine Br_split (fun hc => ?_) (fun hc => ?_) <;> (have hc2 := hc; try simp at hc2)) | omega)
    · repeat' (first | (simp (disch := first | omega | assumption | (simp [*] <;> fail) | assumption) [-Bool.decide_and, -Bool.decide_or, -Bool.not_and, -Bool.not_or, toNat_pred, toNat_succ, wrap64, wr_new, wr_new0, ok_if, ok_ifn, iadV_sl, makeV_int, decT, decF, *, c_l06Taps h1.arr, c_l01Few h2.arr]) | (refine Gd_split (fun hc => ?_) (fun hc => ?_) <;> (have hc2 := hc; try simp at hc2)) | (refine Br_split (fun hc => ?_) (fun hc => ?_) <;> (have hc2 := hc; try simp at hc2)) | omega)
  · have hK2 := fun o g => hK o g
    simp only [lowerBy, hok, if_true] at hK2
    clear hK
    simp only [okL, decide_eq_true_eq] at hok
    obtain ⟨f', rfl⟩ := Int.eq_ofNat_of_zero_le (show 0 ≤ f by omega)
    have ez : (ts.length : Int) - 1 = ((ts.length - 1 : Nat) : Int) := by omega
    have hz : New h (h ++ [⟨List.replicate (ts.length - 1) (.flt .f32 0), .own 24 1⟩]) (.sl h.length 0 (ts.length - 1) 1) 24 1 ((List.replicate (ts.length - 1) 0).map fl) := by
      have := New.of_sl (Kept.app h _) (Sl.make (h := h) (ty := 24) (sz := 1) (n := ts.length - 1) (z := [.flt .f32 0]) rfl) (Nat.le_refl _) (by simp; omega)
      simpa [fl] using this
    refine CallT_of_body (F := L20) (HasU.f20) rfl ?_; unfold L20; dsimp only []
    repeat' (first | (simp (disch := first | omega | assumption | (simp [*] <;> fail) | assumption) [-Bool.decide_and, -Bool.decide_or, -Bool.not_and, -Bool.not_or, toNat_pred, toNat_succ, wrap64, wr_new, wr_new0, ok_if, ok_ifn, iadV_sl, makeV_int, decT, decF, *, c_l06Taps h1.arr, c_l01Few h2.arr, h1.arr.len]) | (refine Gd_split (fun hc => ?_) (fun hc => ?_) <;> (have hc2 := hc; try simp at hc2)) | (refine Br_split (fun hc => ?_) (fun hc => ?_) <;> (have hc2 := hc; try simp at hc2)) | omega)
    refine c_l06Fold (h1.kept hz.kept) (Sm.new hz) (h2.kept hz.kept) (by simp only [okT, decide_eq_true_eq]; simp; omega) (by simp; omega) fun o g3 r g4 hO hR => ?_
    have k4 := (hz.kept.trans hO.kept).trans hR.kept
    repeat' (first | (simp (disch := first | omega | assumption | (simp [*] <;> fail) | assumption) [-Bool.decide_and, -Bool.decide_or, -Bool.not_and, -Bool.not_or, toNat_pred, toNat_succ, wrap64, wr_new, wr_new0, ok_if, ok_ifn, iadV_sl, makeV_int, decT, decF, *]) | (refine Gd_split (fun hc => ?_) (fun hc => ?_) <;> (have hc2 := hc; try simp at hc2)) | (refine Br_split (fun hc => ?_) (fun hc => ?_) <;> (have hc2 := hc; try simp at hc2)) | omega)
    refine c_l06Pick (f := f') (p := 0) (by omega) (by omega) (by omega) (hO.arr.kept hR.kept) (by simp; omega) (Nat.le_trans hl k4.1) fun q g5 hQ => ?_
    have := hK2 q g5 (by simpa using hQ.base k4)
    repeat' (first | (simp (disch := first | omega | assumption | (simp [*] <;> fail) | assumption) [-Bool.decide_and, -Bool.decide_or, -Bool.not_and, -Bool.not_or, toNat_pred, toNat_succ, wrap64, wr_new, wr_new0, ok_if, ok_ifn, iadV_sl, makeV_int, decT, decF, *]) | (refine Gd_split (fun hc => ?_) (fun hc => ?_) <;> (have hc2 := hc; try simp at hc2)) | (refine Br_split (fun hc => ?_) (fun hc => ?_) <;> (have hc2 := hc; try simp at hc2)) | omega)
theorem d_implLowerBy {f : Int} (h1 : Sm h l1 ts) (h2 : Sm h l2 xs) (hl : lim ≤ h.length) (hK : ∀ o g, New h g o 24 1 ((lowerBy f ts xs).map fl) → K (.tup [.lf o, .lf (.bool (okL f ts xs))]) g) :
    CallT S false 22 [.lf (.int .i64 f), .lf l1, .lf l2] h lim K := by
  have hb1 := h1.arr.bound
  have hb2 := h2.arr.bound
  by_cases c : (1 ≤ ts.length ∧ ts.length ≤ 32) ∧ xs.length ≤ 256
  · have ez : (ts.length : Int) - 1 = ((ts.length - 1 : Nat) : Int) := by omega
    refine CallT_of_body (F := L22) (HasU.f22) rfl ?_; unfold L22; dsimp only []
    repeat' (first | (simp (disch := first | omega | assumption | (simp [*] <;> fail) | assumption) [-Bool.decide_and, -Bool.decide_or, -Bool.not_and, -Bool.not_or, toNat_pred, toNat_succ, wrap64, wr_new, wr_new0, ok_if, ok_ifn, iadV_sl, makeV_int, decT, decF, *, c_areTaps h1.arr, c_areSamples h2.arr, h1.arr.len]) | (refine Gd_split (fun hc => ?_) (fun hc => ?_) <;> (have hc2 := hc; try simp at hc2)) | (refine Br_split (fun hc => ?_) (fun hc => ?_) <;> (have hc2 := hc; try simp at hc2)) | omega)
    refine c_zeros (by omega) hl fun z g1 hz => ?_
    repeat' (first | (simp (disch := first | omega | assumption | (simp [*] <;> fail) | assumption) [-Bool.decide_and, -Bool.decide_or, -Bool.not_and, -Bool.not_or, toNat_pred, toNat_succ, wrap64, wr_new, wr_new0, ok_if, ok_ifn, iadV_sl, makeV_int, decT, decF, *]) | (refine Gd_split (fun hc => ?_) (fun hc => ?_) <;> (have hc2 := hc; try simp at hc2)) | (refine Br_split (fun hc => ?_) (fun hc => ?_) <;> (have hc2 := hc; try simp at hc2)) | omega)
    refine c_implFold (h1.kept hz.kept) (Sm.new hz) (h2.kept hz.kept) (by simp only [okT, decide_eq_true_eq]; simp; omega) (Nat.le_trans hl hz.kept.1) fun o g3 r g4 hO hR => ?_
    have k4 := (hz.kept.trans hO.kept).trans hR.kept
    repeat' (first | (simp (disch := first | omega | assumption | (simp [*] <;> fail) | assumption) [-Bool.decide_and, -Bool.decide_or, -Bool.not_and, -Bool.not_or, toNat_pred, toNat_succ, wrap64, wr_new, wr_new0, ok_if, ok_ifn, iadV_sl, makeV_int, decT, decF, *]) | (refine Gd_split (fun hc => ?_) (fun hc => ?_) <;> (have hc2 := hc; try simp at hc2)) | (refine Br_split (fun hc => ?_) (fun hc => ?_) <;> (have hc2 := hc; try simp at hc2)) | omega)
    have hlen : (folded ts (List.replicate (ts.length - 1) 0) xs xs.length).length = xs.length := by simp
    refine c_implPickBy (hO.arr.kept hR.kept) (Nat.le_trans hl k4.1) (fun hokf q g5 hQ => ?_) (fun hokf => ?_)
    · simp only [okF, decide_eq_true_eq] at hokf
      have hok : okL f ts xs = true := by simp only [okL, decide_eq_true_eq]; omega
      have := hK q g5 (by simpa [lowerBy, hok] using hQ.base k4)
      rw [hok] at this
      repeat' (first | (simp (disch := first | omega | assumption | (simp [*] <;> fail) | assumption) [-Bool.decide_and, -Bool.decide_or, -Bool.not_and, -Bool.not_or, toNat_pred, toNat_succ, wrap64, wr_new, wr_new0, ok_if, ok_ifn, iadV_sl, makeV_int, decT, decF, *]) | (refine Gd_split (fun hc => ?_) (fun hc => ?_) <;> (have hc2 := hc; try simp at hc2)) | (refine Br_split (fun hc => ?_) (fun hc => ?_) <;> (have hc2 := hc; try simp at hc2)) | omega)
    · simp only [okF, decide_eq_false_iff_not, hlen] at hokf
      have hok : okL f ts xs = false := by simp only [okL, decide_eq_false_iff_not]; omega
      have := hK .nils g4 (by simpa [lowerBy, hok] using New.nil k4)
      rw [hok] at this
      repeat' (first | (simp (disch := first | omega | assumption | (simp [*] <;> fail) | assumption) [-Bool.decide_and, -Bool.decide_or, -Bool.not_and, -Bool.not_or, toNat_pred, toNat_succ, wrap64, wr_new, wr_new0, ok_if, ok_ifn, iadV_sl, makeV_int, decT, decF, *]) | (refine Gd_split (fun hc => ?_) (fun hc => ?_) <;> (have hc2 := hc; try simp at hc2)) | (refine Br_split (fun hc => ?_) (fun hc => ?_) <;> (have hc2 := hc; try simp at hc2)) | omega)
  · have hok : okL f ts xs = false := by simp only [okL, decide_eq_false_iff_not]; exact fun h => c h.2
    have hK2 := hK .nils h (by simpa [lowerBy, hok] using New.nil (Kept.refl h))
    rw [hok] at hK2
    refine CallT_of_body (F := L22) (HasU.f22) rfl ?_; unfold L22; dsimp only []
    repeat' (first | (simp (disch := first | omega | assumption | (simp [*] <;> fail) | assumption) [-Bool.decide_and, -Bool.decide_or, -Bool.not_and, -Bool.not_or, toNat_pred, toNat_succ, wrap64, wr_new, wr_new0, ok_if, ok_ifn, iadV_sl, makeV_int, decT, decF, *, c_areTaps h1.arr, c_areSamples h2.arr]) | (refine Gd_split (fun hc => ?_) (fun hc => ?_) <;> (have hc2 := hc; try simp at hc2)) | (refine Br_split (fun hc => ?_) (fun hc => ?_) <;> (have hc2 := hc; try simp at hc2)) | omega)
end
end Go.E
