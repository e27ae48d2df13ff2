/- Left and right out of middle and side. -/
import Derived.Test.YtgmacpocalppcaaMP
import Derived.Test.YtgmacpocalppcaaEH
set_option linter.unusedVariables false
set_option linter.unusedSimpArgs false
namespace Go.E
open Go
def L27 : LFn := ⟨2, (.seq (.reg [⟨(.some 4), (.mv (.c (.lf .nils))), none⟩, ⟨(.some 5), (.mv (.c (.lf .nils))), none⟩, ⟨(.some 6), (.mv (.c (.lf (.bool false)))), none⟩])
 (.seq (.seq (.reg [⟨(.some 10), (.mv (.t 0)), none⟩, ⟨(.some 11), (.call true 70 [(.t 10)]), none⟩, ⟨(.some 12), (.una .not (.t 11)), none⟩, ⟨(.some 13), (.mv (.t 12)), none⟩, ⟨(.some 14), (.mv (.t 0)), (.some (13, false))⟩, ⟨(.some 15), (.len (.t 14)), (.some (13, false))⟩, ⟨(.some 16), (.mv (.t 1)), (.some (13, false))⟩, ⟨(.some 17), (.len (.t 16)), (.some (13, false))⟩, ⟨(.some 18), (.bin .neq (.t 15) (.t 17)), (.some (13, false))⟩, ⟨(.some 19), (.pick (.t 13) (.c (.lf (.bool true))) (.t 18)), none⟩])
 (.cond (.t 19) (.seq (.reg [⟨(.some 4), (.mv (.c (.lf .nils))), none⟩, ⟨(.some 5), (.mv (.c (.lf .nils))), none⟩, ⟨(.some 6), (.mv (.c (.lf (.bool false)))), none⟩])
 .ret) .skip))
 (.seq (.reg [⟨(.some 20), (.lit 22 1 0 [] []), none⟩, ⟨(.some 7), (.mv (.t 20)), none⟩])
 (.seq (.reg [⟨(.some 21), (.lit 22 1 0 [] []), none⟩, ⟨(.some 8), (.mv (.t 21)), none⟩])
 (.seq (.seq (.reg [⟨(.some 22), (.mv (.t 0)), none⟩, ⟨(.some 23), (.len (.t 22)), none⟩, ⟨(.some 24), (.mv (.c (.lf (.int .i64 0)))), none⟩])
 (.block 0 (.loop (.seq (.reg [⟨(.some 25), (.bin .lss (.t 24) (.t 23)), none⟩])
 (.seq (.cond (.t 25) .skip (.exit 0))
 (.seq (.block 1 (.seq (.reg [⟨(.some 26), (.mv (.t 24)), none⟩, ⟨(.some 9), (.mv (.t 26)), none⟩])
 (.seq (.reg [⟨(.some 27), (.mv (.t 7)), none⟩, ⟨(.some 28), (.mv (.t 0)), none⟩, ⟨(.some 29), (.mv (.t 9)), none⟩, ⟨(.some 30), (.iaddr 1 (.t 28) (.t 29)), none⟩, ⟨(.some 31), (.load false 1 (.t 30)), none⟩, ⟨(.some 32), (.mv (.t 1)), none⟩, ⟨(.some 33), (.mv (.t 9)), none⟩, ⟨(.some 34), (.iaddr 1 (.t 32) (.t 33)), none⟩, ⟨(.some 35), (.load false 1 (.t 34)), none⟩, ⟨(.some 36), (.bin .add (.t 31) (.t 35)), none⟩, ⟨(.some 37), (.lit 22 1 1 [(.flt .f32 0)] [(0, (1, (.t 36)))]), none⟩, ⟨(.some 38), (.app 22 1 4 (.t 27) (.t 37)), none⟩, ⟨(.some 7), (.mv (.t 38)), none⟩])
 (.reg [⟨(.some 39), (.mv (.t 8)), none⟩, ⟨(.some 40), (.mv (.t 0)), none⟩, ⟨(.some 41), (.mv (.t 9)), none⟩, ⟨(.some 42), (.iaddr 1 (.t 40) (.t 41)), none⟩, ⟨(.some 43), (.load false 1 (.t 42)), none⟩, ⟨(.some 44), (.mv (.t 1)), none⟩, ⟨(.some 45), (.mv (.t 9)), none⟩, ⟨(.some 46), (.iaddr 1 (.t 44) (.t 45)), none⟩, ⟨(.some 47), (.load false 1 (.t 46)), none⟩, ⟨(.some 48), (.bin .sub (.t 43) (.t 47)), none⟩, ⟨(.some 49), (.lit 22 1 1 [(.flt .f32 0)] [(0, (1, (.t 48)))]), none⟩, ⟨(.some 50), (.app 22 1 4 (.t 39) (.t 49)), none⟩, ⟨(.some 8), (.mv (.t 50)), none⟩]))))
 (.reg [⟨(.some 51), (.bin .add (.t 24) (.c (.lf (.int .i64 1)))), none⟩, ⟨(.some 24), (.mv (.t 51)), none⟩])))))))
 (.seq (.reg [⟨(.some 52), (.mv (.t 7)), none⟩, ⟨(.some 53), (.mv (.t 8)), none⟩, ⟨(.some 4), (.mv (.t 52)), none⟩, ⟨(.some 5), (.mv (.t 53)), none⟩, ⟨(.some 6), (.mv (.c (.lf (.bool true)))), none⟩])
 .ret)))))), [(.tmp 4), (.tmp 5), (.tmp 6)]⟩
def L29 : LFn := ⟨2, (.seq (.reg [⟨(.some 4), (.mv (.c (.lf .nils))), none⟩, ⟨(.some 5), (.mv (.c (.lf .nils))), none⟩, ⟨(.some 6), (.mv (.c (.lf (.bool false)))), none⟩])
 (.seq (.seq (.reg [⟨(.some 11), (.mv (.t 0)), none⟩, ⟨(.some 12), (.call true 71 [(.t 11)]), none⟩, ⟨(.some 13), (.una .not (.t 12)), none⟩, ⟨(.some 14), (.mv (.t 13)), none⟩, ⟨(.some 15), (.mv (.t 1)), (.some (14, false))⟩, ⟨(.some 16), (.len (.t 15)), (.some (14, false))⟩, ⟨(.some 17), (.mv (.t 0)), (.some (14, false))⟩, ⟨(.some 18), (.len (.t 17)), (.some (14, false))⟩, ⟨(.some 19), (.bin .neq (.t 16) (.t 18)), (.some (14, false))⟩, ⟨(.some 20), (.pick (.t 14) (.c (.lf (.bool true))) (.t 19)), none⟩])
 (.cond (.t 20) (.seq (.reg [⟨(.some 4), (.mv (.c (.lf .nils))), none⟩, ⟨(.some 5), (.mv (.c (.lf .nils))), none⟩, ⟨(.some 6), (.mv (.c (.lf (.bool false)))), none⟩])
 .ret) .skip))
 (.seq (.reg [⟨(.some 7), (.mv (.c (.lf .nils))), none⟩, ⟨(.some 8), (.mv (.c (.lf .nils))), none⟩])
 (.seq (.seq (.reg [⟨(.some 21), (.mv (.t 0)), none⟩, ⟨(.some 22), (.len (.t 21)), none⟩, ⟨(.some 23), (.mv (.c (.lf (.int .i64 0)))), none⟩])
 (.block 0 (.loop (.seq (.reg [⟨(.some 24), (.bin .lss (.t 23) (.t 22)), none⟩])
 (.seq (.cond (.t 24) .skip (.exit 0))
 (.seq (.block 1 (.seq (.reg [⟨(.some 25), (.mv (.t 23)), none⟩, ⟨(.some 26), (.iaddr 1 (.t 21) (.t 23)), none⟩, ⟨(.some 27), (.load false 1 (.t 26)), none⟩, ⟨(.some 9), (.mv (.t 25)), none⟩, ⟨(.some 10), (.mv (.t 27)), none⟩])
 (.any (.op ⟨(.some 28), (.mv (.t 7)), none⟩ (.op ⟨(.some 29), (.mv (.t 10)), none⟩ (.op ⟨(.some 30), (.mv (.t 1)), none⟩ (.op ⟨(.some 31), (.mv (.t 9)), none⟩ (.op ⟨(.some 32), (.iaddr 1 (.t 30) (.t 31)), none⟩ (.op ⟨(.some 33), (.load false 1 (.t 32)), none⟩ (.op ⟨(.some 34), (.bin .add (.t 29) (.t 33)), none⟩ (.op ⟨(.some 37), (.mv (.t 8)), none⟩ (.op ⟨(.some 38), (.mv (.t 10)), none⟩ (.op ⟨(.some 39), (.mv (.t 1)), none⟩ (.op ⟨(.some 40), (.mv (.t 9)), none⟩ (.op ⟨(.some 41), (.iaddr 1 (.t 39) (.t 40)), none⟩ (.alt (.op ⟨(.some 35), (.lit 22 1 1 [(.flt .f32 0)] [(0, (1, (.t 34)))]), none⟩ (.alt (.op ⟨(.some 36), (.app 22 1 4 (.t 28) (.t 35)), none⟩ (.op ⟨(.some 42), (.load false 1 (.t 41)), none⟩ (.op ⟨(.some 43), (.bin .sub (.t 38) (.t 42)), none⟩ (.op ⟨(.some 44), (.lit 22 1 1 [(.flt .f32 0)] [(0, (1, (.t 43)))]), none⟩ (.op ⟨(.some 45), (.app 22 1 4 (.t 37) (.t 44)), none⟩ (.op ⟨(.some 7), (.mv (.t 36)), none⟩ (.op ⟨(.some 8), (.mv (.t 45)), none⟩ .nil))))))) (.op ⟨(.some 42), (.load false 1 (.t 41)), none⟩ (.op ⟨(.some 43), (.bin .sub (.t 38) (.t 42)), none⟩ (.alt (.op ⟨(.some 36), (.app 22 1 4 (.t 28) (.t 35)), none⟩ (.op ⟨(.some 44), (.lit 22 1 1 [(.flt .f32 0)] [(0, (1, (.t 43)))]), none⟩ (.op ⟨(.some 45), (.app 22 1 4 (.t 37) (.t 44)), none⟩ (.op ⟨(.some 7), (.mv (.t 36)), none⟩ (.op ⟨(.some 8), (.mv (.t 45)), none⟩ .nil))))) (.op ⟨(.some 44), (.lit 22 1 1 [(.flt .f32 0)] [(0, (1, (.t 43)))]), none⟩ (.op ⟨(.some 36), (.app 22 1 4 (.t 28) (.t 35)), none⟩ (.op ⟨(.some 45), (.app 22 1 4 (.t 37) (.t 44)), none⟩ (.op ⟨(.some 7), (.mv (.t 36)), none⟩ (.op ⟨(.some 8), (.mv (.t 45)), none⟩ .nil)))))))))) (.op ⟨(.some 42), (.load false 1 (.t 41)), none⟩ (.op ⟨(.some 43), (.bin .sub (.t 38) (.t 42)), none⟩ (.alt (.op ⟨(.some 35), (.lit 22 1 1 [(.flt .f32 0)] [(0, (1, (.t 34)))]), none⟩ (.alt (.op ⟨(.some 36), (.app 22 1 4 (.t 28) (.t 35)), none⟩ (.op ⟨(.some 44), (.lit 22 1 1 [(.flt .f32 0)] [(0, (1, (.t 43)))]), none⟩ (.op ⟨(.some 45), (.app 22 1 4 (.t 37) (.t 44)), none⟩ (.op ⟨(.some 7), (.mv (.t 36)), none⟩ (.op ⟨(.some 8), (.mv (.t 45)), none⟩ .nil))))) (.op ⟨(.some 44), (.lit 22 1 1 [(.flt .f32 0)] [(0, (1, (.t 43)))]), none⟩ (.op ⟨(.some 36), (.app 22 1 4 (.t 28) (.t 35)), none⟩ (.op ⟨(.some 45), (.app 22 1 4 (.t 37) (.t 44)), none⟩ (.op ⟨(.some 7), (.mv (.t 36)), none⟩ (.op ⟨(.some 8), (.mv (.t 45)), none⟩ .nil))))))) (.op ⟨(.some 44), (.lit 22 1 1 [(.flt .f32 0)] [(0, (1, (.t 43)))]), none⟩ (.op ⟨(.some 35), (.lit 22 1 1 [(.flt .f32 0)] [(0, (1, (.t 34)))]), none⟩ (.op ⟨(.some 36), (.app 22 1 4 (.t 28) (.t 35)), none⟩ (.op ⟨(.some 45), (.app 22 1 4 (.t 37) (.t 44)), none⟩ (.op ⟨(.some 7), (.mv (.t 36)), none⟩ (.op ⟨(.some 8), (.mv (.t 45)), none⟩ .nil)))))))))))))))))))))))))
 (.reg [⟨(.some 46), (.bin .add (.t 23) (.c (.lf (.int .i64 1)))), none⟩, ⟨(.some 23), (.mv (.t 46)), none⟩])))))))
 (.seq (.reg [⟨(.some 47), (.mv (.t 7)), none⟩, ⟨(.some 48), (.mv (.t 8)), none⟩, ⟨(.some 4), (.mv (.t 47)), none⟩, ⟨(.some 5), (.mv (.t 48)), none⟩, ⟨(.some 6), (.mv (.c (.lf (.bool true)))), none⟩])
 .ret))))), [(.tmp 4), (.tmp 5), (.tmp 6)]⟩
class HasLr (S : Sys) : Prop extends HasP S where
  f27 : S.fs 27 = some L27
  f29 : S.fs 29 = some L29
def okLr (xs ys : List Nat) : Prop := xs.length ≤ 256 ∧ xs.length = ys.length
instance {xs ys : List Nat} : Decidable (okLr xs ys) := by unfold okLr; infer_instance
def fadd (x y : Nat) : Nat := fbin .add .f32 x y
def fsub (x y : Nat) : Nat := fbin .sub .f32 x y
def sums (xs ys : List Nat) : List Nat := if okLr xs ys then List.zipWith fadd xs ys else []
def diffs (xs ys : List Nat) : List Nat := if okLr xs ys then List.zipWith fsub xs ys else []
theorem zip_take {f : Nat → Nat → Nat} {xs ys : List Nat} {i : Nat} (h1 : i < xs.length) (h2 : i < ys.length) : List.zipWith f (xs.take (i + 1)) (ys.take (i + 1)) = List.zipWith f (xs.take i) (ys.take i) ++ [f xs[i] ys[i]] := by
  rw [List.take_succ_eq_append_getElem h1, List.take_succ_eq_append_getElem h2, List.zipWith_append (by simp; omega)]; rfl
def sumsTo (xs ys : List Nat) (i : Nat) : List Nat := List.zipWith fadd (xs.take i) (ys.take i)
def diffsTo (xs ys : List Nat) (i : Nat) : List Nat := List.zipWith fsub (xs.take i) (ys.take i)
@[simp] theorem sumsTo_zero {xs ys : List Nat} : sumsTo xs ys 0 = [] := by simp [sumsTo]
@[simp] theorem diffsTo_zero {xs ys : List Nat} : diffsTo xs ys 0 = [] := by simp [diffsTo]
theorem sumsTo_len {xs ys : List Nat} {i : Nat} : (sumsTo xs ys i).length ≤ i := by simp [sumsTo]; omega
theorem diffsTo_len {xs ys : List Nat} {i : Nat} : (diffsTo xs ys i).length ≤ i := by simp [diffsTo]; omega
theorem sumsTo_succ {xs ys : List Nat} {i : Nat} (h1 : i < xs.length) (h2 : i < ys.length) : (sumsTo xs ys (i + 1)).map fl = (sumsTo xs ys i).map fl ++ [[.flt .f32 (fbin .add .f32 xs[i] ys[i])]] := by
  unfold sumsTo; rw [zip_take h1 h2, List.map_append]; rfl
theorem diffsTo_succ {xs ys : List Nat} {i : Nat} (h1 : i < xs.length) (h2 : i < ys.length) : (diffsTo xs ys (i + 1)).map fl = (diffsTo xs ys i).map fl ++ [[.flt .f32 (fbin .sub .f32 xs[i] ys[i])]] := by
  unfold diffsTo; rw [zip_take h1 h2, List.map_append]; rfl
theorem sumsTo_all {xs ys : List Nat} (h : xs.length = ys.length) : sumsTo xs ys xs.length = List.zipWith fadd xs ys := by unfold sumsTo; rw [List.take_length, List.take_of_length_le (by omega)]
theorem diffsTo_all {xs ys : List Nat} (h : xs.length = ys.length) : diffsTo xs ys xs.length = List.zipWith fsub xs ys := by unfold diffsTo; rw [List.take_length, List.take_of_length_le (by omega)]
section
variable {S : Sys} {lim : Nat} {h : Hp} {K : CV → Hp → Prop} [HasLr S] {l1 l2 : Lf} {xs ys : List Nat}
theorem c_specLeftAndRight (hA : Arr h l1 1 (xs.map fl)) (hB : Arr h l2 1 (ys.map fl)) (hl : lim ≤ h.length) (hT : okLr xs ys → ∀ o1 o2 g, New h g o1 22 1 ((List.zipWith fadd xs ys).map fl) → New h g o2 22 1 ((List.zipWith fsub xs ys).map fl) → Far o1 o2 → K (.tup [.lf o1, .lf o2, .lf (.bool true)]) g) (hF : ¬ okLr xs ys → K (.tup [.lf .nils, .lf .nils, .lf (.bool false)]) h) :
    CallT S false 27 [.lf l1, .lf l2] h lim K := by
  have hb1 := hA.bound
  have hb2 := hB.bound
  unfold okLr at hT hF
  refine CallT_of_body (F := L27) (HasLr.f27) rfl ?_; unfold L27; dsimp only []
  repeat' (first | (simp (disch := first | omega | assumption | (simp [*] <;> fail) | assumption) [-Bool.decide_and, -Bool.decide_or, -Bool.not_and, -Bool.not_or, toNat_pred, toNat_succ, wrap64, wr_new, wr_new0, ok_if, ok_ifn, iadV_sl, makeV_int, decT, decF, over_at, *, c_l01Few hA, hA.len, hB.len, leavesAll, fillL]) | (with_reducible refine Gd_split (fun hc => ?_) (fun hc => ?_) <;> (have hc2 := hc; try simp at hc2)) | (with_reducible refine Br_split (fun hc => ?_) (fun hc => ?_) <;> (have hc2 := hc; try simp at hc2)) | (with_reducible refine GdT_split (fun hc => ?_) (fun hc => ?_) <;> (have hc2 := hc; try simp at hc2)) | (with_reducible refine WT_alt ?_ ?_) | omega)
  have hlen : xs.length = ys.length := by omega
  refine WL_forM 4503599610594176 (by decide +kernel) (xs.length) (fun i b g => i ≤ xs.length ∧ b 24 = .lf (.int .i64 i) ∧ ∃ o1 o2, b 7 = .lf o1 ∧ b 8 = .lf o2 ∧ New h g o1 22 1 ((sumsTo xs ys i).map fl) ∧ New h g o2 22 1 ((diffsTo xs ys i).map fl) ∧ Far o1 o2) (fun _ _ _ hi => hi.1) ⟨by simp, by simp, .sl h.length 0 0 1, .sl (h.length + 1) 0 0 1, by simp, by simp, by simpa using (New.lit0 (h := h)).app, by simpa using (New.litN (h := h) (g := h ++ [⟨[], .own 22 1⟩]) (Kept.app _ _)), fun _ _ => by simp [Lf.id]⟩ ?_
  rintro i b g ⟨hi, e24, o1, o2, e7, e8, hN1, hN2, hf⟩
  have hl1 := sumsTo_len (xs := xs) (ys := ys) (i := i)
  have hl2 := diffsTo_len (xs := xs) (ys := ys) (i := i)
  have hA1 := hA.kept hN1.kept
  have hB1 := hB.kept hN1.kept
  by_cases hlt : i < xs.length
  · have hlt2 : i < ys.length := by omega
    have s1 := sumsTo_succ hlt hlt2
    have s2 := diffsTo_succ hlt hlt2
    repeat' (first | (simp (disch := first | omega | assumption | (simp [*] <;> fail) | assumption) [-Bool.decide_and, -Bool.decide_or, -Bool.not_and, -Bool.not_or, toNat_pred, toNat_succ, wrap64, wr_new, wr_new0, ok_if, ok_ifn, iadV_sl, makeV_int, decT, decF, over_at, *, hA1.len, hA1.at_, hA1.at_', hA1.rd, hA1.rdIn, hA1.rdIn0, hA1.rdA, hA1.rdInA, hA1.rdIn0A, hA1.rd1, hB1.len, hB1.at_, hB1.at_', hB1.rd, hB1.rdIn, hB1.rdIn0, hB1.rdA, hB1.rdInA, hB1.rdIn0A, hB1.rd1, fl, leavesAll, fillL]) | (with_reducible refine Gd_split (fun hc => ?_) (fun hc => ?_) <;> (have hc2 := hc; try simp at hc2)) | (with_reducible refine Br_split (fun hc => ?_) (fun hc => ?_) <;> (have hc2 := hc; try simp at hc2)) | (with_reducible refine GdT_split (fun hc => ?_) (fun hc => ?_) <;> (have hc2 := hc; try simp at hc2)) | (with_reducible refine WT_alt ?_ ?_) | omega)
    refine oc_push hN1 hl (by simp; omega) fun p1 g1 hP1 hC1 => ?_
    obtain ⟨hP2, hf1⟩ := hC1.other hN1 hN2 hf
    have hA2 := hA.kept hP1.kept
    have hB2 := hB.kept hP1.kept
    repeat' (first | (simp (disch := first | omega | assumption | (simp [*] <;> fail) | assumption) [-Bool.decide_and, -Bool.decide_or, -Bool.not_and, -Bool.not_or, toNat_pred, toNat_succ, wrap64, wr_new, wr_new0, ok_if, ok_ifn, iadV_sl, makeV_int, decT, decF, over_at, *, hA2.len, hA2.at_, hA2.at_', hA2.rd, hA2.rdIn, hA2.rdIn0, hA2.rdA, hA2.rdInA, hA2.rdIn0A, hA2.rd1, hB2.len, hB2.at_, hB2.at_', hB2.rd, hB2.rdIn, hB2.rdIn0, hB2.rdA, hB2.rdInA, hB2.rdIn0A, hB2.rd1, fl, leavesAll, fillL]) | (with_reducible refine Gd_split (fun hc => ?_) (fun hc => ?_) <;> (have hc2 := hc; try simp at hc2)) | (with_reducible refine Br_split (fun hc => ?_) (fun hc => ?_) <;> (have hc2 := hc; try simp at hc2)) | (with_reducible refine GdT_split (fun hc => ?_) (fun hc => ?_) <;> (have hc2 := hc; try simp at hc2)) | (with_reducible refine WT_alt ?_ ?_) | omega)
    refine oc_push hP2 hl (by simp; omega) fun q2 g2 hQ2 hC2 => ?_
    obtain ⟨hQ1, hf2⟩ := hC2.other hP2 hP1 hf1.symm
    repeat' (first | (simp (disch := first | omega | assumption | (simp [*] <;> fail) | assumption) [-Bool.decide_and, -Bool.decide_or, -Bool.not_and, -Bool.not_or, toNat_pred, toNat_succ, wrap64, wr_new, wr_new0, ok_if, ok_ifn, iadV_sl, makeV_int, decT, decF, over_at, *]) | (with_reducible refine Gd_split (fun hc => ?_) (fun hc => ?_) <;> (have hc2 := hc; try simp at hc2)) | (with_reducible refine Br_split (fun hc => ?_) (fun hc => ?_) <;> (have hc2 := hc; try simp at hc2)) | (with_reducible refine GdT_split (fun hc => ?_) (fun hc => ?_) <;> (have hc2 := hc; try simp at hc2)) | (with_reducible refine WT_alt ?_ ?_) | omega)
    (repeat' apply And.intro) <;> first | omega | assumption | exact hf2.symm
  · have e : i = xs.length := by omega
    subst e
    repeat' (first | (simp (disch := first | omega | assumption | (simp [*] <;> fail) | assumption) [-Bool.decide_and, -Bool.decide_or, -Bool.not_and, -Bool.not_or, toNat_pred, toNat_succ, wrap64, wr_new, wr_new0, ok_if, ok_ifn, iadV_sl, makeV_int, decT, decF, over_at, *]) | (with_reducible refine Gd_split (fun hc => ?_) (fun hc => ?_) <;> (have hc2 := hc; try simp at hc2)) | (with_reducible refine Br_split (fun hc => ?_) (fun hc => ?_) <;> (have hc2 := hc; try simp at hc2)) | (with_reducible refine GdT_split (fun hc => ?_) (fun hc => ?_) <;> (have hc2 := hc; try simp at hc2)) | (with_reducible refine WT_alt ?_ ?_) | omega)
    rw [sumsTo_all hlen] at hN1
    rw [diffsTo_all hlen] at hN2
    exact hT (by omega) o1 o2 g hN1 hN2 hf
set_option maxHeartbeats 1000000 in
theorem c_implLeftAndRight (hA : Arr h l1 1 (xs.map fl)) (hB : Arr h l2 1 (ys.map fl)) (hl : lim ≤ h.length) (hT : okLr xs ys → ∀ o1 o2 g, New h g o1 22 1 ((List.zipWith fadd xs ys).map fl) → New h g o2 22 1 ((List.zipWith fsub xs ys).map fl) → Far o1 o2 → K (.tup [.lf o1, .lf o2, .lf (.bool true)]) g) (hF : ¬ okLr xs ys → K (.tup [.lf .nils, .lf .nils, .lf (.bool false)]) h) :
    CallT S false 29 [.lf l1, .lf l2] h lim K := by
  have hb1 := hA.bound
  have hb2 := hB.bound
  unfold okLr at hT hF
  refine CallT_of_body (F := L29) (HasLr.f29) rfl ?_; unfold L29; dsimp only []
  repeat' (first | (simp (disch := first | omega | assumption | (simp [*] <;> fail) | assumption) [-Bool.decide_and, -Bool.decide_or, -Bool.not_and, -Bool.not_or, toNat_pred, toNat_succ, wrap64, wr_new, wr_new0, ok_if, ok_ifn, iadV_sl, makeV_int, decT, decF, over_at, *, c_areSamples hA, hA.len, hB.len]) | (with_reducible refine Gd_split (fun hc => ?_) (fun hc => ?_) <;> (have hc2 := hc; try simp at hc2)) | (with_reducible refine Br_split (fun hc => ?_) (fun hc => ?_) <;> (have hc2 := hc; try simp at hc2)) | (with_reducible refine GdT_split (fun hc => ?_) (fun hc => ?_) <;> (have hc2 := hc; try simp at hc2)) | (with_reducible refine WT_alt ?_ ?_) | omega)
  have hlen : ys.length = xs.length := by omega
  refine WL_forM 140737479968640 (by decide +kernel) (xs.length) (fun i b g => i ≤ xs.length ∧ b 23 = .lf (.int .i64 i) ∧ ∃ o1 o2, b 7 = .lf o1 ∧ b 8 = .lf o2 ∧ New h g o1 22 1 ((sumsTo xs ys i).map fl) ∧ New h g o2 22 1 ((diffsTo xs ys i).map fl) ∧ Far o1 o2) (fun _ _ _ hi => hi.1) ⟨by simp, by simp, .nils, .nils, by simp, by simp, by simpa using New.nil (Kept.refl h), by simpa using New.nil (Kept.refl h), Far.nil_left⟩ ?_
  rintro i b g ⟨hi, e23, o1, o2, e7, e8, hN1, hN2, hf⟩
  have hl1 := sumsTo_len (xs := xs) (ys := ys) (i := i)
  have hl2 := diffsTo_len (xs := xs) (ys := ys) (i := i)
  have hA1 := hA.kept hN1.kept
  have hB1 := hB.kept hN1.kept
  by_cases hlt : i < xs.length
  · have hlt2 : i < ys.length := by omega
    have s1 := sumsTo_succ hlt hlt2
    have s2 := diffsTo_succ hlt hlt2
    clear hT hF
    repeat' (first | (simp (disch := first | omega | assumption | (simp [*] <;> fail) | assumption) [-Bool.decide_and, -Bool.decide_or, -Bool.not_and, -Bool.not_or, toNat_pred, toNat_succ, wrap64, wr_new, wr_new0, ok_if, ok_ifn, iadV_sl, makeV_int, decT, decF, over_at, *, hA1.len, hA1.at_, hA1.at_', hA1.rd, hA1.rdIn, hA1.rdIn0, hA1.rdA, hA1.rdInA, hA1.rdIn0A, hA1.rd1, hA1.rd1A, hB1.len, hB1.at_, hB1.at_', hB1.rd, hB1.rdIn, hB1.rdIn0, hB1.rdA, hB1.rdInA, hB1.rdIn0A, hB1.rd1, hB1.rd1A, fl, leavesAll, fillL]) | (with_reducible refine Gd_split (fun hc => ?_) (fun hc => ?_) <;> (have hc2 := hc; try simp at hc2)) | (with_reducible refine Br_split (fun hc => ?_) (fun hc => ?_) <;> (have hc2 := hc; try simp at hc2)) | (with_reducible refine GdT_split (fun hc => ?_) (fun hc => ?_) <;> (have hc2 := hc; try simp at hc2)) | (with_reducible refine WT_alt ?_ ?_) | omega)
    all_goals refine oc_pushS hN1.app (by simp; rfl) hl (by simp; omega) fun p1 g1 hP1 hC1 => ?_
    all_goals obtain ⟨hP2, hf1⟩ := hC1.other hN1.app hN2.app hf
    all_goals have hA2 := hA.kept hP1.kept
    all_goals have hB2 := hB.kept hP1.kept
    all_goals repeat' (first | (simp (disch := first | omega | assumption | (simp [*] <;> fail) | assumption) [-Bool.decide_and, -Bool.decide_or, -Bool.not_and, -Bool.not_or, toNat_pred, toNat_succ, wrap64, wr_new, wr_new0, ok_if, ok_ifn, iadV_sl, makeV_int, decT, decF, over_at, *, hA2.len, hA2.at_, hA2.at_', hA2.rd, hA2.rdIn, hA2.rdIn0, hA2.rdA, hA2.rdInA, hA2.rdIn0A, hA2.rd1, hA2.rd1A, hB2.len, hB2.at_, hB2.at_', hB2.rd, hB2.rdIn, hB2.rdIn0, hB2.rdA, hB2.rdInA, hB2.rdIn0A, hB2.rd1, hB2.rd1A, fl, leavesAll, fillL]) | (with_reducible refine Gd_split (fun hc => ?_) (fun hc => ?_) <;> (have hc2 := hc; try simp at hc2)) | (with_reducible refine Br_split (fun hc => ?_) (fun hc => ?_) <;> (have hc2 := hc; try simp at hc2)) | (with_reducible refine GdT_split (fun hc => ?_) (fun hc => ?_) <;> (have hc2 := hc; try simp at hc2)) | (with_reducible refine WT_alt ?_ ?_) | omega)
    all_goals first
      | refine oc_pushS hP2.app (by simp; rfl) hl (by simp; omega) fun q2 g2 hQ2 hC2 => ?_
      | refine oc_pushS hP2 (hC1.rd (by simp; rfl) (fun hn => by have := (hN1.lt hn).2; omega)) hl (by simp; omega) fun q2 g2 hQ2 hC2 => ?_
    all_goals have hQf : New h g2 p1 22 1 ((sumsTo xs ys i).map fl ++ [[.flt .f32 (fbin .add .f32 xs[i] ys[i])]]) ∧ Far q2 p1 := by first | exact hC2.other hP2.app hP1.app hf1.symm | exact hC2.other hP2 hP1 hf1.symm
    all_goals obtain ⟨hQ1, hf2⟩ := hQf
    all_goals rw [← s1] at hQ1
    all_goals rw [← s2] at hQ2
    all_goals clear s1 s2
    all_goals repeat' (first | (simp (disch := first | omega | assumption | (simp [*] <;> fail) | assumption) [-Bool.decide_and, -Bool.decide_or, -Bool.not_and, -Bool.not_or, toNat_pred, toNat_succ, wrap64, wr_new, wr_new0, ok_if, ok_ifn, iadV_sl, makeV_int, decT, decF, over_at, *]) | (with_reducible refine Gd_split (fun hc => ?_) (fun hc => ?_) <;> (have hc2 := hc; try simp at hc2)) | (with_reducible refine Br_split (fun hc => ?_) (fun hc => ?_) <;> (have hc2 := hc; try simp at hc2)) | (with_reducible refine GdT_split (fun hc => ?_) (fun hc => ?_) <;> (have hc2 := hc; try simp at hc2)) | (with_reducible refine WT_alt ?_ ?_) | omega)
    all_goals (repeat' apply And.intro) <;> first | omega | assumption | exact hf2.symm
  · have e : i = xs.length := by omega
    subst e
    repeat' (first | (simp (disch := first | omega | assumption | (simp [*] <;> fail) | assumption) [-Bool.decide_and, -Bool.decide_or, -Bool.not_and, -Bool.not_or, toNat_pred, toNat_succ, wrap64, wr_new, wr_new0, ok_if, ok_ifn, iadV_sl, makeV_int, decT, decF, over_at, *]) | (with_reducible refine Gd_split (fun hc => ?_) (fun hc => ?_) <;> (have hc2 := hc; try simp at hc2)) | (with_reducible refine Br_split (fun hc => ?_) (fun hc => ?_) <;> (have hc2 := hc; try simp at hc2)) | (with_reducible refine GdT_split (fun hc => ?_) (fun hc => ?_) <;> (have hc2 := hc; try simp at hc2)) | (with_reducible refine WT_alt ?_ ?_) | omega)
    rw [sumsTo_all hlen.symm] at hN1
    rw [diffsTo_all hlen.symm] at hN2
    exact hT (by omega) o1 o2 g hN1 hN2 hf
theorem d_specLeftAndRight (hA : Arr h l1 1 (xs.map fl)) (hB : Arr h l2 1 (ys.map fl)) (hl : lim ≤ h.length) (hK : ∀ o1 o2 g, New h g o1 22 1 ((sums xs ys).map fl) → New h g o2 22 1 ((diffs xs ys).map fl) → Far o1 o2 → K (.tup [.lf o1, .lf o2, .lf (.bool (decide (okLr xs ys)))]) g) :
    CallT S false 27 [.lf l1, .lf l2] h lim K :=
  c_specLeftAndRight hA hB hl (fun hk o1 o2 g h1 h2 hf => by simpa [hk] using hK o1 o2 g (by simpa [sums, hk] using h1) (by simpa [diffs, hk] using h2) hf) (fun hk => by simpa [hk] using hK .nils .nils h (by simpa [sums, hk] using New.nil (Kept.refl h)) (by simpa [diffs, hk] using New.nil (Kept.refl h)) Far.nil_left)
theorem d_implLeftAndRight (hA : Arr h l1 1 (xs.map fl)) (hB : Arr h l2 1 (ys.map fl)) (hl : lim ≤ h.length) (hK : ∀ o1 o2 g, New h g o1 22 1 ((sums xs ys).map fl) → New h g o2 22 1 ((diffs xs ys).map fl) → Far o1 o2 → K (.tup [.lf o1, .lf o2, .lf (.bool (decide (okLr xs ys)))]) g) :
    CallT S false 29 [.lf l1, .lf l2] h lim K :=
  c_implLeftAndRight hA hB hl (fun hk o1 o2 g h1 h2 hf => by simpa [hk] using hK o1 o2 g (by simpa [sums, hk] using h1) (by simpa [diffs, hk] using h2) hf) (fun hk => by simpa [hk] using hK .nils .nils h (by simpa [sums, hk] using New.nil (Kept.refl h)) (by simpa [diffs, hk] using New.nil (Kept.refl h)) Far.nil_left)
theorem sums_len {xs ys : List Nat} : (sums xs ys).length ≤ 256 := by unfold sums; split; (rename_i hk; unfold okLr at hk; simp; omega); simp
theorem diffs_len {xs ys : List Nat} : (diffs xs ys).length ≤ 256 := by unfold diffs; split; (rename_i hk; unfold okLr at hk; simp; omega); simp
end
end Go.E
