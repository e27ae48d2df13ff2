/- Raising of a rate. -/
import Derived.Test.YtpjgmichaeiifaaMQ
import Derived.Test.YtpjgmichaeiifaaMT
import Derived.Test.YtpjgmichaeiifaaEH
set_option linter.unusedVariables false
set_option linter.unusedSimpArgs false
namespace Go.E
open Go
def L31 : LFn := ⟨3, (.seq (.reg [⟨(.some 6), (.mv (.c (.lf .nils))), none⟩, ⟨(.some 7), (.mv (.c (.lf (.bool false)))), none⟩])
 (.seq (.seq (.reg [⟨(.some 10), (.mv (.t 0)), none⟩, ⟨(.some 11), (.call true 68 [(.t 10)]), none⟩, ⟨(.some 12), (.una .not (.t 11)), none⟩, ⟨(.some 13), (.mv (.t 12)), none⟩, ⟨(.some 14), (.mv (.t 1)), (.some (13, false))⟩, ⟨(.some 15), (.call true 69 [(.t 14)]), (.some (13, false))⟩, ⟨(.some 16), (.una .not (.t 15)), (.some (13, false))⟩, ⟨(.some 17), (.pick (.t 13) (.c (.lf (.bool true))) (.t 16)), none⟩, ⟨(.some 18), (.mv (.t 17)), none⟩, ⟨(.some 19), (.mv (.t 2)), (.some (18, false))⟩, ⟨(.some 20), (.call true 70 [(.t 19)]), (.some (18, false))⟩, ⟨(.some 21), (.una .not (.t 20)), (.some (18, false))⟩, ⟨(.some 22), (.pick (.t 18) (.c (.lf (.bool true))) (.t 21)), none⟩, ⟨(.some 23), (.mv (.t 22)), none⟩, ⟨(.some 24), (.mv (.t 2)), (.some (23, false))⟩, ⟨(.some 25), (.len (.t 24)), (.some (23, false))⟩, ⟨(.some 26), (.mv (.t 0)), (.some (23, false))⟩, ⟨(.some 27), (.bin .mul (.t 25) (.t 26)), (.some (23, false))⟩, ⟨(.some 28), (.bin .gtr (.t 27) (.c (.lf (.int .i64 256)))), (.some (23, false))⟩, ⟨(.some 29), (.pick (.t 23) (.c (.lf (.bool true))) (.t 28)), none⟩])
 (.cond (.t 29) (.seq (.reg [⟨(.some 6), (.mv (.c (.lf .nils))), none⟩, ⟨(.some 7), (.mv (.c (.lf (.bool false)))), none⟩])
 .ret) .skip))
 (.seq (.any (.op ⟨(.some 31), (.mv (.t 1)), none⟩ (.op ⟨(.some 32), (.mv (.t 1)), none⟩ (.op ⟨(.some 33), (.len (.t 32)), none⟩ (.op ⟨(.some 34), (.bin .sub (.t 33) (.c (.lf (.int .i64 1)))), none⟩ (.op ⟨(.some 36), (.mv (.t 0)), none⟩ (.op ⟨(.some 37), (.mv (.t 2)), none⟩ (.alt (.op ⟨(.some 35), (.make 24 1 4 [(.flt .f32 0)] (.t 34) (.t 34)), none⟩ (.op ⟨(.some 38), (.call false 83 [(.t 36), (.t 37)]), none⟩ (.op ⟨(.some 39), (.call false 71 [(.t 31), (.t 35), (.t 38)]), none⟩ (.op ⟨(.some 30), (.mv (.t 39)), none⟩ (.op ⟨(.some 40), (.ext (.t 30) 0), none⟩ (.op ⟨(.some 41), (.ext (.t 30) 1), none⟩ (.op ⟨(.some 8), (.mv (.t 40)), none⟩ (.op ⟨(.some 9), (.mv (.t 41)), none⟩ .nil)))))))) (.op ⟨(.some 38), (.call false 83 [(.t 36), (.t 37)]), none⟩ (.op ⟨(.some 35), (.make 24 1 4 [(.flt .f32 0)] (.t 34) (.t 34)), none⟩ (.op ⟨(.some 39), (.call false 71 [(.t 31), (.t 35), (.t 38)]), none⟩ (.op ⟨(.some 30), (.mv (.t 39)), none⟩ (.op ⟨(.some 40), (.ext (.t 30) 0), none⟩ (.op ⟨(.some 41), (.ext (.t 30) 1), none⟩ (.op ⟨(.some 8), (.mv (.t 40)), none⟩ (.op ⟨(.some 9), (.mv (.t 41)), none⟩ .nil))))))))))))))))
 (.seq (.reg [⟨(.some 42), (.mv (.t 8)), none⟩, ⟨(.some 6), (.mv (.t 42)), none⟩, ⟨(.some 7), (.mv (.c (.lf (.bool true)))), none⟩])
 .ret)))), [(.tmp 6), (.tmp 7)]⟩
def L32 : LFn := ⟨3, (.seq (.reg [⟨(.some 6), (.mv (.c (.lf .nils))), none⟩, ⟨(.some 7), (.mv (.c (.lf (.bool false)))), none⟩])
 (.seq (.reg [⟨(.some 13), (.mv (.t 0)), none⟩, ⟨(.some 14), (.mv (.t 2)), none⟩, ⟨(.some 15), (.call false 84 [(.t 13), (.t 14)]), none⟩, ⟨(.some 12), (.mv (.t 15)), none⟩, ⟨(.some 16), (.ext (.t 12) 0), none⟩, ⟨(.some 17), (.ext (.t 12) 1), none⟩, ⟨(.some 8), (.mv (.t 16)), none⟩, ⟨(.some 9), (.mv (.t 17)), none⟩])
 (.seq (.seq (.reg [⟨(.some 18), (.mv (.t 9)), none⟩, ⟨(.some 19), (.una .not (.t 18)), none⟩, ⟨(.some 20), (.mv (.t 19)), none⟩, ⟨(.some 21), (.mv (.t 1)), (.some (20, false))⟩, ⟨(.some 22), (.call true 73 [(.t 21)]), (.some (20, false))⟩, ⟨(.some 23), (.una .not (.t 22)), (.some (20, false))⟩, ⟨(.some 24), (.pick (.t 20) (.c (.lf (.bool true))) (.t 23)), none⟩])
 (.cond (.t 24) (.seq (.reg [⟨(.some 6), (.mv (.c (.lf .nils))), none⟩, ⟨(.some 7), (.mv (.c (.lf (.bool false)))), none⟩])
 .ret) .skip))
 (.seq (.reg [⟨(.some 26), (.mv (.t 1)), none⟩, ⟨(.some 27), (.mv (.t 1)), none⟩, ⟨(.some 28), (.len (.t 27)), none⟩, ⟨(.some 29), (.call true 76 [(.t 28)]), none⟩, ⟨(.some 30), (.bin .sub (.t 29) (.c (.lf (.int .i64 1)))), none⟩, ⟨(.some 31), (.call false 75 [(.t 30)]), none⟩, ⟨(.some 32), (.mv (.t 8)), none⟩, ⟨(.some 33), (.call false 74 [(.t 26), (.t 31), (.t 32)]), none⟩, ⟨(.some 25), (.mv (.t 33)), none⟩, ⟨(.some 34), (.ext (.t 25) 0), none⟩, ⟨(.some 35), (.ext (.t 25) 1), none⟩, ⟨(.some 10), (.mv (.t 34)), none⟩, ⟨(.some 11), (.mv (.t 35)), none⟩])
 (.seq (.reg [⟨(.some 36), (.mv (.t 10)), none⟩, ⟨(.some 6), (.mv (.t 36)), none⟩, ⟨(.some 7), (.mv (.c (.lf (.bool true)))), none⟩])
 .ret))))), [(.tmp 6), (.tmp 7)]⟩
class HasRb (S : Sys) : Prop extends HasQ S, HasT S where
  f31 : S.fs 31 = some L31
  f32 : S.fs 32 = some L32
def okR (f : Int) (ts xs : List Nat) : Prop := (1 ≤ f ∧ f ≤ 8) ∧ (1 ≤ ts.length ∧ ts.length ≤ 32) ∧ xs.length ≤ 256 ∧ (xs.length : Int) * f ≤ 256
instance {f : Int} {ts xs : List Nat} : Decidable (okR f ts xs) := by unfold okR; infer_instance
def raised (f : Int) (ts xs : List Nat) : List Nat := folded ts (List.replicate (ts.length - 1) 0) (sprd (f.toNat - 1) xs) (sprd (f.toNat - 1) xs).length
def raiseBy (f : Int) (ts xs : List Nat) : List Nat := if okR f ts xs then raised f ts xs else []
theorem sprd_few {f : Nat} {xs : List Nat} (hf : 0 < f) (h : (xs.length : Int) * f ≤ 256) : (sprd (f - 1) xs).length ≤ 256 := by
  rw [sprd_len]
  have e : f - 1 + 1 = f := by omega
  rw [e]
  have h2 : ((xs.length * f : Nat) : Int) ≤ 256 := by rw [Int.natCast_mul]; exact h
  omega
theorem raiseBy_len {f : Int} {ts xs : List Nat} : (raiseBy f ts xs).length ≤ 256 := by
  unfold raiseBy; split
  · rename_i hok; unfold okR at hok
    obtain ⟨f', rfl⟩ := Int.eq_ofNat_of_zero_le (show 0 ≤ f by omega)
    simp only [raised, folded_len, Int.toNat_natCast]
    exact sprd_few (by omega) hok.2.2.2
  · simp
section
variable {S : Sys} {lim : Nat} {h : Hp} {K : CV → Hp → Prop} [HasRb S] {l1 l2 : Lf} {ts xs : List Nat}
theorem c_specRaiseBy {f : Int} (h1 : Sm h l1 ts) (h2 : Sm h l2 xs) (hl : lim ≤ h.length) (hT : okR f ts xs → ∀ o g, New h g o 24 1 ((raised f ts xs).map fl) → K (.tup [.lf o, .lf (.bool true)]) g) (hF : ¬ okR f ts xs → K (.tup [.lf .nils, .lf (.bool false)]) h) :
    CallT S false 31 [.lf (.int .i64 f), .lf l1, .lf l2] h lim K := by
  have hb1 := h1.arr.bound
  have hb2 := h2.arr.bound
  have hw : (1 ≤ f ∧ f ≤ 8) → (xs.length : Int) ≤ 256 → IntKind.i64.wrap (↑xs.length * f) = ↑xs.length * f := fun c1 c2 => by
    obtain ⟨f', rfl⟩ := Int.eq_ofNat_of_zero_le (show 0 ≤ f by omega)
    have h3 : xs.length * f' ≤ 256 * 8 := Nat.mul_le_mul (by omega) (by omega)
    rw [← Int.natCast_mul]
    exact wrap64 (by omega) (by omega)
  unfold okR at hT hF
  have ez : 1 ≤ ts.length → (ts.length : Int) - 1 = ((ts.length - 1 : Nat) : Int) := fun _ => by omega
  have hz : ∀ h : Hp, ts.length ≤ 32 → New h (h ++ [⟨List.replicate (ts.length - 1) (.flt .f32 0), .own 24 1⟩]) (.sl h.length 0 (ts.length - 1) 1) 24 1 ((List.replicate (ts.length - 1) 0).map fl) := fun h _ => by
    have := New.of_sl (Kept.app h _) (Sl.make (h := h) (ty := 24) (sz := 1) (n := ts.length - 1) (z := [.flt .f32 0]) rfl) (Nat.le_refl _) (by simp; omega)
    simpa [fl] using this
  refine CallT_of_body (F := L31) (HasRb.f31) rfl ?_; unfold L31; dsimp only []
  repeat' (first | (simp (disch := first | omega | assumption | (simp [*] <;> fail) | assumption) [-Bool.decide_and, -Bool.decide_or, -Bool.not_and, -Bool.not_or, toNat_pred, toNat_succ, wrap64, wr_new, wr_new0, ok_if, ok_ifn, iadV_sl, makeV_int, decT, decF, over_at, *, c_l06Taps h1.arr, c_l01Few h2.arr, h1.arr.len, h2.arr.len]) | (with_reducible refine Gd_split (fun hc => ?_) (fun hc => ?_) <;> (have hc2 := hc; try simp at hc2)) | (with_reducible refine Br_split (fun hc => ?_) (fun hc => ?_) <;> (have hc2 := hc; try simp at hc2)) | (with_reducible refine GdT_split (fun hc => ?_) (fun hc => ?_) <;> (have hc2 := hc; try simp at hc2)) | (with_reducible refine WT_alt ?_ ?_) | omega)
  · obtain ⟨f', rfl⟩ := Int.eq_ofNat_of_zero_le (show 0 ≤ f by omega)
    have hz0 := hz h (by omega)
    refine c_l06Spread (f := f') (by omega) (by omega) (h2.arr.kept hz0.kept) (by omega) (Nat.le_trans hl hz0.kept.1) fun l' g hN => ?_
    repeat' (first | (simp (disch := first | omega | assumption | (simp [*] <;> fail) | assumption) [-Bool.decide_and, -Bool.decide_or, -Bool.not_and, -Bool.not_or, toNat_pred, toNat_succ, wrap64, wr_new, wr_new0, ok_if, ok_ifn, iadV_sl, makeV_int, decT, decF, over_at, *]) | (with_reducible refine Gd_split (fun hc => ?_) (fun hc => ?_) <;> (have hc2 := hc; try simp at hc2)) | (with_reducible refine Br_split (fun hc => ?_) (fun hc => ?_) <;> (have hc2 := hc; try simp at hc2)) | (with_reducible refine GdT_split (fun hc => ?_) (fun hc => ?_) <;> (have hc2 := hc; try simp at hc2)) | (with_reducible refine WT_alt ?_ ?_) | omega)
    have hN2 := hz0.later hN.kept
    have hs := sprd_few (f := f') (xs := xs) (by omega) (by omega)
    refine c_l06Fold (h1.kept hN2.kept) (Sm.new hN2) (Sm.new hN) (by simp only [okT, decide_eq_true_eq]; simp; omega) (Nat.le_trans hl hN2.kept.1) fun o g3 r g4 hO hR => ?_
    repeat' (first | (simp (disch := first | omega | assumption | (simp [*] <;> fail) | assumption) [-Bool.decide_and, -Bool.decide_or, -Bool.not_and, -Bool.not_or, toNat_pred, toNat_succ, wrap64, wr_new, wr_new0, ok_if, ok_ifn, iadV_sl, makeV_int, decT, decF, over_at, *]) | (with_reducible refine Gd_split (fun hc => ?_) (fun hc => ?_) <;> (have hc2 := hc; try simp at hc2)) | (with_reducible refine Br_split (fun hc => ?_) (fun hc => ?_) <;> (have hc2 := hc; try simp at hc2)) | (with_reducible refine GdT_split (fun hc => ?_) (fun hc => ?_) <;> (have hc2 := hc; try simp at hc2)) | (with_reducible refine WT_alt ?_ ?_) | omega)
    exact hT (by omega) o g4 (by simpa [raised] using (hO.later hR.kept).base hN2.kept)
  · obtain ⟨f', rfl⟩ := Int.eq_ofNat_of_zero_le (show 0 ≤ f by omega)
    refine c_l06Spread (f := f') (by omega) (by omega) h2.arr (by omega) hl fun l' g hN => ?_
    have hz0 := hz g (by omega)
    repeat' (first | (simp (disch := first | omega | assumption | (simp [*] <;> fail) | assumption) [-Bool.decide_and, -Bool.decide_or, -Bool.not_and, -Bool.not_or, toNat_pred, toNat_succ, wrap64, wr_new, wr_new0, ok_if, ok_ifn, iadV_sl, makeV_int, decT, decF, over_at, *]) | (with_reducible refine Gd_split (fun hc => ?_) (fun hc => ?_) <;> (have hc2 := hc; try simp at hc2)) | (with_reducible refine Br_split (fun hc => ?_) (fun hc => ?_) <;> (have hc2 := hc; try simp at hc2)) | (with_reducible refine GdT_split (fun hc => ?_) (fun hc => ?_) <;> (have hc2 := hc; try simp at hc2)) | (with_reducible refine WT_alt ?_ ?_) | omega)
    have hN2 := hN.later hz0.kept
    have hs := sprd_few (f := f') (xs := xs) (by omega) (by omega)
    refine c_l06Fold (h1.kept hN2.kept) (Sm.new hz0) (Sm.new hN2) (by simp only [okT, decide_eq_true_eq]; simp; omega) (Nat.le_trans hl hN2.kept.1) fun o g3 r g4 hO hR => ?_
    repeat' (first | (simp (disch := first | omega | assumption | (simp [*] <;> fail) | assumption) [-Bool.decide_and, -Bool.decide_or, -Bool.not_and, -Bool.not_or, toNat_pred, toNat_succ, wrap64, wr_new, wr_new0, ok_if, ok_ifn, iadV_sl, makeV_int, decT, decF, over_at, *]) | (with_reducible refine Gd_split (fun hc => ?_) (fun hc => ?_) <;> (have hc2 := hc; try simp at hc2)) | (with_reducible refine Br_split (fun hc => ?_) (fun hc => ?_) <;> (have hc2 := hc; try simp at hc2)) | (with_reducible refine GdT_split (fun hc => ?_) (fun hc => ?_) <;> (have hc2 := hc; try simp at hc2)) | (with_reducible refine WT_alt ?_ ?_) | omega)
    exact hT (by omega) o g4 (by simpa [raised] using (hO.later hR.kept).base hN2.kept)
theorem c_implRaiseBy {f : Int} (h1 : Sm h l1 ts) (h2 : Sm h l2 xs) (hl : lim ≤ h.length) (hT : okR f ts xs → ∀ o g, New h g o 24 1 ((raised f ts xs).map fl) → K (.tup [.lf o, .lf (.bool true)]) g) (hF : ¬ okR f ts xs → ∀ g, Kept h g → K (.tup [.lf .nils, .lf (.bool false)]) g) :
    CallT S false 32 [.lf (.int .i64 f), .lf l1, .lf l2] h lim K := by
  have hb1 := h1.arr.bound
  have hb2 := h2.arr.bound
  unfold okR at hT hF
  have ez : 1 ≤ ts.length → (ts.length : Int) - 1 = ((ts.length - 1 : Nat) : Int) := fun _ => by omega
  refine CallT_of_body (F := L32) (HasRb.f32) rfl ?_; unfold L32; dsimp only []
  repeat' (first | (simp (disch := first | omega | assumption | (simp [*] <;> fail) | assumption) [-Bool.decide_and, -Bool.decide_or, -Bool.not_and, -Bool.not_or, toNat_pred, toNat_succ, wrap64, wr_new, wr_new0, ok_if, ok_ifn, iadV_sl, makeV_int, decT, decF, over_at, *]) | (with_reducible refine Gd_split (fun hc => ?_) (fun hc => ?_) <;> (have hc2 := hc; try simp at hc2)) | (with_reducible refine Br_split (fun hc => ?_) (fun hc => ?_) <;> (have hc2 := hc; try simp at hc2)) | (with_reducible refine GdT_split (fun hc => ?_) (fun hc => ?_) <;> (have hc2 := hc; try simp at hc2)) | (with_reducible refine WT_alt ?_ ?_) | omega)
  refine d_implSpreadBy h2.arr hl fun l' g hN => ?_
  have hs := spreadBy_len (f := f) (xs := xs)
  have k1 := hN.kept
  cases ho : okS f xs
  · repeat' (first | (simp (disch := first | omega | assumption | (simp [*] <;> fail) | assumption) [-Bool.decide_and, -Bool.decide_or, -Bool.not_and, -Bool.not_or, toNat_pred, toNat_succ, wrap64, wr_new, wr_new0, ok_if, ok_ifn, iadV_sl, makeV_int, decT, decF, over_at, *]) | (with_reducible refine Gd_split (fun hc => ?_) (fun hc => ?_) <;> (have hc2 := hc; try simp at hc2)) | (with_reducible refine Br_split (fun hc => ?_) (fun hc => ?_) <;> (have hc2 := hc; try simp at hc2)) | (with_reducible refine GdT_split (fun hc => ?_) (fun hc => ?_) <;> (have hc2 := hc; try simp at hc2)) | (with_reducible refine WT_alt ?_ ?_) | omega)
    exact hF (fun hh => by simp only [okS, decide_eq_false_iff_not] at ho; omega) g k1
  · have hok := ho
    simp only [okS, decide_eq_true_eq] at hok
    repeat' (first | (simp (disch := first | omega | assumption | (simp [*] <;> fail) | assumption) [-Bool.decide_and, -Bool.decide_or, -Bool.not_and, -Bool.not_or, toNat_pred, toNat_succ, wrap64, wr_new, wr_new0, ok_if, ok_ifn, iadV_sl, makeV_int, decT, decF, over_at, *, c_areTaps (h1.kept k1).arr, (h1.kept k1).arr.len]) | (with_reducible refine Gd_split (fun hc => ?_) (fun hc => ?_) <;> (have hc2 := hc; try simp at hc2)) | (with_reducible refine Br_split (fun hc => ?_) (fun hc => ?_) <;> (have hc2 := hc; try simp at hc2)) | (with_reducible refine GdT_split (fun hc => ?_) (fun hc => ?_) <;> (have hc2 := hc; try simp at hc2)) | (with_reducible refine WT_alt ?_ ?_) | omega)
    refine c_zeros (by omega) (Nat.le_trans hl k1.1) fun z g2 hZ => ?_
    have k2 := k1.trans hZ.kept
    repeat' (first | (simp (disch := first | omega | assumption | (simp [*] <;> fail) | assumption) [-Bool.decide_and, -Bool.decide_or, -Bool.not_and, -Bool.not_or, toNat_pred, toNat_succ, wrap64, wr_new, wr_new0, ok_if, ok_ifn, iadV_sl, makeV_int, decT, decF, over_at, *]) | (with_reducible refine Gd_split (fun hc => ?_) (fun hc => ?_) <;> (have hc2 := hc; try simp at hc2)) | (with_reducible refine Br_split (fun hc => ?_) (fun hc => ?_) <;> (have hc2 := hc; try simp at hc2)) | (with_reducible refine GdT_split (fun hc => ?_) (fun hc => ?_) <;> (have hc2 := hc; try simp at hc2)) | (with_reducible refine WT_alt ?_ ?_) | omega)
    refine c_implFold (h1.kept k2) (Sm.new hZ) ((Sm.new hN).kept hZ.kept) (by simp only [okT, decide_eq_true_eq]; simp; omega) (Nat.le_trans hl k2.1) fun o g3 r g4 hO hR => ?_
    repeat' (first | (simp (disch := first | omega | assumption | (simp [*] <;> fail) | assumption) [-Bool.decide_and, -Bool.decide_or, -Bool.not_and, -Bool.not_or, toNat_pred, toNat_succ, wrap64, wr_new, wr_new0, ok_if, ok_ifn, iadV_sl, makeV_int, decT, decF, over_at, *]) | (with_reducible refine Gd_split (fun hc => ?_) (fun hc => ?_) <;> (have hc2 := hc; try simp at hc2)) | (with_reducible refine Br_split (fun hc => ?_) (fun hc => ?_) <;> (have hc2 := hc; try simp at hc2)) | (with_reducible refine GdT_split (fun hc => ?_) (fun hc => ?_) <;> (have hc2 := hc; try simp at hc2)) | (with_reducible refine WT_alt ?_ ?_) | omega)
    exact hT (by omega) o g4 (by simpa [raised, spreadBy, ho] using (hO.later hR.kept).base k2)
theorem d_specRaiseBy {f : Int} (h1 : Sm h l1 ts) (h2 : Sm h l2 xs) (hl : lim ≤ h.length) (hK : ∀ o g, New h g o 24 1 ((raiseBy f ts xs).map fl) → K (.tup [.lf o, .lf (.bool (decide (okR f ts xs)))]) g) :
    CallT S false 31 [.lf (.int .i64 f), .lf l1, .lf l2] h lim K :=
  c_specRaiseBy h1 h2 hl (fun hk o g hN => by simpa [hk] using hK o g (by simpa [raiseBy, hk] using hN)) (fun hk => by simpa [hk] using hK .nils h (by simpa [raiseBy, hk] using New.nil (Kept.refl h)))
theorem d_implRaiseBy {f : Int} (h1 : Sm h l1 ts) (h2 : Sm h l2 xs) (hl : lim ≤ h.length) (hK : ∀ o g, New h g o 24 1 ((raiseBy f ts xs).map fl) → K (.tup [.lf o, .lf (.bool (decide (okR f ts xs)))]) g) :
    CallT S false 32 [.lf (.int .i64 f), .lf l1, .lf l2] h lim K :=
  c_implRaiseBy h1 h2 hl (fun hk o g hN => by simpa [hk] using hK o g (by simpa [raiseBy, hk] using hN)) (fun hk g k => by simpa [hk] using hK .nils g (by simpa [raiseBy, hk] using New.nil k))
end
end Go.E
