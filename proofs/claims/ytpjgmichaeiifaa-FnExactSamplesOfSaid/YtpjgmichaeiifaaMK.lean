/- Codes of samples: what says whether numbers are codes of so many bits; how many are at an end. -/
import Derived.Test.YtpjgmichaeiifaaMF
set_option linter.unusedVariables false
set_option linter.unusedSimpArgs false
namespace Go.E
open Go
def L107 : LFn := ⟨3, (.seq (.reg [⟨(.some 6), (.mv (.c (.lf (.bool false)))), none⟩])
 (.seq (.seq (.reg [⟨(.some 9), (.mv (.t 0)), none⟩, ⟨(.some 10), (.len (.t 9)), none⟩, ⟨(.some 11), (.mv (.c (.lf (.int .i64 0)))), none⟩])
 (.block 0 (.loop (.seq (.reg [⟨(.some 12), (.bin .lss (.t 11) (.t 10)), none⟩])
 (.seq (.cond (.t 12) .skip (.exit 0))
 (.seq (.block 1 (.seq (.reg [⟨(.some 13), (.iaddr 1 (.t 9) (.t 11)), none⟩, ⟨(.some 14), (.load false 1 (.t 13)), none⟩, ⟨(.some 8), (.mv (.t 14)), none⟩])
 (.seq (.reg [⟨(.some 15), (.mv (.t 8)), none⟩, ⟨(.some 16), (.mv (.t 1)), none⟩, ⟨(.some 17), (.mv (.t 2)), none⟩, ⟨(.some 18), (.call true 127 [(.t 15), (.t 16), (.t 17)]), none⟩, ⟨(.some 19), (.una .not (.t 18)), none⟩])
 (.cond (.t 19) (.seq (.reg [⟨(.some 6), (.mv (.c (.lf (.bool false)))), none⟩])
 .ret) .skip))))
 (.reg [⟨(.some 20), (.bin .add (.t 11) (.c (.lf (.int .i64 1)))), none⟩, ⟨(.some 11), (.mv (.t 20)), none⟩])))))))
 (.seq (.reg [⟨(.some 6), (.mv (.c (.lf (.bool true)))), none⟩])
 .ret))), [(.tmp 6)]⟩
class HasW (S : Sys) : Prop where
  f107 : S.fs 107 = some L107
def L78 : LFn := ⟨1, (.seq (.reg [⟨(.some 2), (.mv (.c (.lf (.bool false)))), none⟩])
 (.seq (.reg [⟨(.some 3), (.mv (.t 0)), none⟩, ⟨(.some 4), (.call true 86 [(.t 3), (.c (.lf (.int .i64 2))), (.c (.lf (.int .i64 16)))]), none⟩, ⟨(.some 2), (.mv (.t 4)), none⟩])
 .ret)), [(.tmp 2)]⟩
def L80 : LFn := ⟨1, (.seq (.reg [⟨(.some 2), (.mv (.c (.lf (.int .i64 0)))), none⟩])
 (.seq (.reg [⟨(.some 3), (.mv (.t 0)), none⟩, ⟨(.some 4), (.bin .sub (.t 3) (.c (.lf (.int .i64 1)))), none⟩, ⟨(.some 5), (.toint .u64 (.t 4)), none⟩, ⟨(.some 6), (.bin .shl (.c (.lf (.int .i64 1))) (.t 5)), none⟩, ⟨(.some 2), (.mv (.t 6)), none⟩])
 .ret)), [(.tmp 2)]⟩
def L79 : LFn := ⟨2, (.seq (.reg [⟨(.some 4), (.mv (.c (.lf (.bool false)))), none⟩])
 (.seq (.seq (.reg [⟨(.some 5), (.mv (.c (.lf (.int .i64 0)))), none⟩])
 (.block 0 (.loop (.seq (.seq (.reg [⟨(.some 6), (.mv (.t 5)), none⟩, ⟨(.some 7), (.mv (.t 1)), none⟩, ⟨(.some 8), (.len (.t 7)), none⟩, ⟨(.some 9), (.bin .lss (.t 6) (.t 8)), none⟩, ⟨(.some 10), (.mv (.t 9)), none⟩, ⟨(.some 11), (.mv (.t 1)), (.some (10, true))⟩, ⟨(.some 12), (.len (.t 11)), (.some (10, true))⟩, ⟨(.some 13), (.bin .leq (.t 12) (.c (.lf (.int .i64 256)))), (.some (10, true))⟩, ⟨(.some 14), (.pick (.t 10) (.t 13) (.c (.lf (.bool false)))), none⟩])
 (.cond (.t 14) .skip (.exit 0)))
 (.seq (.block 1 (.seq (.reg [⟨(.some 17), (.mv (.t 1)), none⟩, ⟨(.some 18), (.mv (.t 5)), none⟩, ⟨(.some 19), (.iaddr 1 (.t 17) (.t 18)), none⟩, ⟨(.some 20), (.load false 1 (.t 19)), none⟩, ⟨(.some 21), (.mv (.t 0)), none⟩, ⟨(.some 22), (.call true 80 [(.t 21)]), none⟩, ⟨(.some 23), (.una .neg (.t 22)), none⟩, ⟨(.some 24), (.mv (.t 0)), none⟩, ⟨(.some 25), (.call true 80 [(.t 24)]), none⟩, ⟨(.some 26), (.bin .sub (.t 25) (.c (.lf (.int .i64 1)))), none⟩, ⟨(.some 27), (.call true 86 [(.t 20), (.t 23), (.t 26)]), none⟩, ⟨(.some 28), (.una .not (.t 27)), none⟩])
 (.cond (.t 28) (.seq (.reg [⟨(.some 4), (.mv (.c (.lf (.bool false)))), none⟩])
 .ret) .skip)))
 (.reg [⟨(.some 15), (.mv (.t 5)), none⟩, ⟨(.some 16), (.bin .add (.t 15) (.c (.lf (.int .i64 1)))), none⟩, ⟨(.some 5), (.mv (.t 16)), none⟩]))))))
 (.seq (.reg [⟨(.some 29), (.mv (.t 1)), none⟩, ⟨(.some 30), (.len (.t 29)), none⟩, ⟨(.some 31), (.bin .leq (.t 30) (.c (.lf (.int .i64 256)))), none⟩, ⟨(.some 4), (.mv (.t 31)), none⟩])
 .ret))), [(.tmp 4)]⟩
def L115 : LFn := ⟨1, (.seq (.reg [⟨(.some 2), (.mv (.c (.lf (.bool false)))), none⟩])
 (.seq (.reg [⟨(.some 3), (.mv (.t 0)), none⟩, ⟨(.some 4), (.call true 127 [(.t 3), (.c (.lf (.int .i64 2))), (.c (.lf (.int .i64 16)))]), none⟩, ⟨(.some 2), (.mv (.t 4)), none⟩])
 .ret)), [(.tmp 2)]⟩
def L81 : LFn := ⟨2, (.seq (.reg [⟨(.some 4), (.mv (.c (.lf (.bool false)))), none⟩])
 (.seq (.seq (.reg [⟨(.some 6), (.mv (.t 0)), none⟩, ⟨(.some 7), (.call true 115 [(.t 6)]), none⟩, ⟨(.some 8), (.una .not (.t 7)), none⟩, ⟨(.some 9), (.mv (.t 8)), none⟩, ⟨(.some 10), (.mv (.t 1)), (.some (9, false))⟩, ⟨(.some 11), (.len (.t 10)), (.some (9, false))⟩, ⟨(.some 12), (.bin .gtr (.t 11) (.c (.lf (.int .i64 256)))), (.some (9, false))⟩, ⟨(.some 13), (.pick (.t 9) (.c (.lf (.bool true))) (.t 12)), none⟩])
 (.cond (.t 13) (.seq (.reg [⟨(.some 4), (.mv (.c (.lf (.bool false)))), none⟩])
 .ret) .skip))
 (.seq (.reg [⟨(.some 14), (.mv (.t 0)), none⟩, ⟨(.some 15), (.bin .sub (.t 14) (.c (.lf (.int .i64 1)))), none⟩, ⟨(.some 16), (.bin .shl (.c (.lf (.int .i64 1))) (.t 15)), none⟩, ⟨(.some 5), (.mv (.t 16)), none⟩])
 (.seq (.reg [⟨(.some 17), (.mv (.t 1)), none⟩, ⟨(.some 18), (.mv (.t 5)), none⟩, ⟨(.some 19), (.una .neg (.t 18)), none⟩, ⟨(.some 20), (.mv (.t 5)), none⟩, ⟨(.some 21), (.bin .sub (.t 20) (.c (.lf (.int .i64 1)))), none⟩, ⟨(.some 22), (.call true 107 [(.t 17), (.t 19), (.t 21)]), none⟩, ⟨(.some 4), (.mv (.t 22)), none⟩])
 .ret)))), [(.tmp 4)]⟩
class HasK (S : Sys) : Prop extends HasA S, HasW S where
  f78 : S.fs 78 = some L78
  f80 : S.fs 80 = some L80
  f79 : S.fs 79 = some L79
  f115 : S.fs 115 = some L115
  f81 : S.fs 81 = some L81
/-- All are between p and q, up to the k-th. -/
def withinUpto (p q : Int) (xs : List Int) (k : Nat) : Prop := ∀ i (hi : i < xs.length), i < k → p ≤ xs[i] ∧ xs[i] ≤ q
theorem withinUpto.succ {p q : Int} {xs : List Int} {i : Nat} (h : withinUpto p q xs i) (hi : i < xs.length) (h1 : p ≤ xs[i] ∧ xs[i] ≤ q) : withinUpto p q xs (i + 1) := by
  intro j hj hlt
  by_cases e : j = i
  · subst e; exact h1
  · exact h j hj (by omega)
theorem withinUpto.zero {p q : Int} {xs : List Int} : withinUpto p q xs 0 := fun i _ h => by omega
def allIn (p q : Int) (xs : List Int) : Prop := withinUpto p q xs xs.length
noncomputable instance (p q : Int) (xs : List Int) : Decidable (allIn p q xs) := Classical.propDecidable _
theorem not_allIn {p q : Int} {xs : List Int} {i : Nat} (hi : i < xs.length) (h1 : ¬ (p ≤ xs[i] ∧ xs[i] ≤ q)) : ¬ allIn p q xs := fun h => h1 (h i hi hi)
/-- Half of the numbers of b bits. -/
def mst (b : Int) : Int := 2 ^ (b - 1).toNat
theorem mst_bound {b : Int} (h1 : 2 ≤ b) (h2 : b ≤ 16) : 2 ≤ mst b ∧ mst b ≤ 32768 := by
  obtain ⟨n, rfl⟩ := Int.eq_ofNat_of_zero_le (show 0 ≤ b by omega)
  have : n ≤ 16 := by omega
  have : 2 ≤ n := by omega
  unfold mst
  rcases (show n = 2 ∨ n = 3 ∨ n = 4 ∨ n = 5 ∨ n = 6 ∨ n = 7 ∨ n = 8 ∨ n = 9 ∨ n = 10 ∨ n = 11 ∨ n = 12 ∨ n = 13 ∨ n = 14 ∨ n = 15 ∨ n = 16 by omega) with rfl | rfl | rfl | rfl | rfl | rfl | rfl | rfl | rfl | rfl | rfl | rfl | rfl | rfl | rfl <;> decide
theorem shl_mst {b : Int} {k : IntKind} (h1 : 2 ≤ b) (h2 : b ≤ 16) : binV .shl (.lf (.int .i64 1)) (.lf (.int k (b - 1))) = some (.lf (.int .i64 (mst b))) := by
  have hm := mst_bound h1 h2
  simp only [binV, isShift, if_true, ishift]
  rw [if_neg (by omega)]
  have e : min (b - 1).toNat IntKind.i64.bits = (b - 1).toNat := by
    show min (b - 1).toNat 64 = _
    omega
  have e2 : (1 : Int) * 2 ^ min (b - 1).toNat IntKind.i64.bits = mst b := by rw [e, Int.one_mul]; rfl
  rw [e2, wrap64 (by omega) (by omega)]
theorem wrapU64 {x : Int} (h1 : 0 ≤ x) (h2 : x ≤ 18446744073709551615) : IntKind.u64.wrap x = x := by
  rw [IntKind.wrap_u64]; omega
section
variable {S : Sys} {lim : Nat} {h : Hp} {K : CV → Hp → Prop} {l : Lf} {xs : List Int}
theorem c_allWithin [HasW S] [HasA S] {p q : Int} (hA : Arr h l 1 (xs.map il)) : CallT S true 107 [.lf l, .lf (.int .i64 p), .lf (.int .i64 q)] h lim K = K (.lf (.bool (decide (allIn p q xs)))) h := by
  have hb := hA.bound
  refine CallT_pure (F := L107) (HasW.f107) rfl (by first | rfl | (split <;> rfl) | simp) ?_; unfold L107; dsimp only []
  repeat' (first | (simp (disch := first | omega | assumption | (simp [*] <;> fail) | assumption) [-Bool.decide_and, -Bool.decide_or, -Bool.not_and, -Bool.not_or, toNat_pred, toNat_succ, wrap64, wr_new, wr_new0, ok_if, ok_ifn, iadV_sl, makeV_int, decT, decF, *, hA.len, hA.at_, hA.at_', hA.rd, hA.rdIn, hA.rdIn0, hA.rdA, hA.rdInA, hA.rdIn0A]) | (refine Gd_split (fun hc => ?_) (fun hc => ?_) <;> (have hc2 := hc; try simp at hc2)) | (refine Br_split (fun hc => ?_) (fun hc => ?_) <;> (have hc2 := hc; try simp at hc2)) | omega)
  refine WL_for xs.length (fun i a' h' => i ≤ xs.length ∧ a' 1 = .lf (.int .i64 p) ∧ a' 2 = .lf (.int .i64 q) ∧ a' 9 = .lf l ∧ a' 10 = .lf (.int .i64 xs.length) ∧ a' 11 = .lf (.int .i64 i) ∧ h' = h ∧ withinUpto p q xs i) (fun i a' h' hi => hi.1) ?_ (by simp [withinUpto.zero])
  rintro i a' h' ⟨hi, e1, e2, e9, e10, e11, rfl, hl⟩
  by_cases hlt : i < xs.length
  · repeat' (first | (simp (disch := first | omega | assumption | (simp [*] <;> fail) | assumption) [-Bool.decide_and, -Bool.decide_or, -Bool.not_and, -Bool.not_or, toNat_pred, toNat_succ, wrap64, wr_new, wr_new0, ok_if, ok_ifn, iadV_sl, makeV_int, decT, decF, *, hA.len, hA.at_, hA.at_', hA.rd, hA.rdIn, hA.rdIn0, hA.rdA, hA.rdInA, hA.rdIn0A, hA.rd1, il]) | (refine Gd_split (fun hc => ?_) (fun hc => ?_) <;> (have hc2 := hc; try simp at hc2)) | (refine Br_split (fun hc => ?_) (fun hc => ?_) <;> (have hc2 := hc; try simp at hc2)) | omega)
    · exact not_allIn hlt (by omega)
    · exact ⟨hlt, hl.succ hlt (by omega)⟩
  · have : i = xs.length := by omega
    subst this
    repeat' (first | (simp (disch := first | omega | assumption | (simp [*] <;> fail) | assumption) [-Bool.decide_and, -Bool.decide_or, -Bool.not_and, -Bool.not_or, toNat_pred, toNat_succ, wrap64, wr_new, wr_new0, ok_if, ok_ifn, iadV_sl, makeV_int, decT, decF, *, hA.len, hA.at_, hA.at_', hA.rd, hA.rdIn, hA.rdIn0, hA.rdA, hA.rdInA, hA.rdIn0A]) | (refine Gd_split (fun hc => ?_) (fun hc => ?_) <;> (have hc2 := hc; try simp at hc2)) | (refine Br_split (fun hc => ?_) (fun hc => ?_) <;> (have hc2 := hc; try simp at hc2)) | omega)
    exact hl
variable [HasK S]
@[simp] theorem c_l06Bits {x : Int} : CallT S true 78 [.lf (.int .i64 x)] h lim K = K (.lf (.bool (decide (2 ≤ x ∧ x ≤ 16)))) h := by
  refine CallT_pure (F := L78) (HasK.f78) rfl (by first | rfl | (split <;> rfl) | simp) ?_; unfold L78; dsimp only []
  repeat' (first | (simp (disch := first | omega | assumption | (simp [*] <;> fail) | assumption) [-Bool.decide_and, -Bool.decide_or, -Bool.not_and, -Bool.not_or, toNat_pred, toNat_succ, wrap64, wr_new, wr_new0, ok_if, ok_ifn, iadV_sl, makeV_int, decT, decF, *]) | (refine Gd_split (fun hc => ?_) (fun hc => ?_) <;> (have hc2 := hc; try simp at hc2)) | (refine Br_split (fun hc => ?_) (fun hc => ?_) <;> (have hc2 := hc; try simp at hc2)) | omega)
@[simp] theorem c_isBits {x : Int} : CallT S true 115 [.lf (.int .i64 x)] h lim K = K (.lf (.bool (decide (2 ≤ x ∧ x ≤ 16)))) h := by
  refine CallT_pure (F := L115) (HasK.f115) rfl (by first | rfl | (split <;> rfl) | simp) ?_; unfold L115; dsimp only []
  repeat' (first | (simp (disch := first | omega | assumption | (simp [*] <;> fail) | assumption) [-Bool.decide_and, -Bool.decide_or, -Bool.not_and, -Bool.not_or, toNat_pred, toNat_succ, wrap64, wr_new, wr_new0, ok_if, ok_ifn, iadV_sl, makeV_int, decT, decF, *]) | (refine Gd_split (fun hc => ?_) (fun hc => ?_) <;> (have hc2 := hc; try simp at hc2)) | (refine Br_split (fun hc => ?_) (fun hc => ?_) <;> (have hc2 := hc; try simp at hc2)) | omega)
theorem c_l06Most {b : Int} (h1 : 2 ≤ b) (h2 : b ≤ 16) : CallT S true 80 [.lf (.int .i64 b)] h lim K = K (.lf (.int .i64 (mst b))) h := by
  refine CallT_pure (F := L80) (HasK.f80) rfl (by first | rfl | (split <;> rfl) | simp) ?_; unfold L80; dsimp only []
  repeat' (first | (simp (disch := first | omega | assumption | (simp [*] <;> fail) | assumption) [-Bool.decide_and, -Bool.decide_or, -Bool.not_and, -Bool.not_or, toNat_pred, toNat_succ, wrap64, wr_new, wr_new0, ok_if, ok_ifn, iadV_sl, makeV_int, decT, decF, *, wrapU64, shl_mst]) | (refine Gd_split (fun hc => ?_) (fun hc => ?_) <;> (have hc2 := hc; try simp at hc2)) | (refine Br_split (fun hc => ?_) (fun hc => ?_) <;> (have hc2 := hc; try simp at hc2)) | omega)
def areCodes (b : Int) (xs : List Int) : Prop := xs.length ≤ 256 ∧ allIn (-mst b) (mst b - 1) xs
noncomputable instance (b : Int) (xs : List Int) : Decidable (areCodes b xs) := Classical.propDecidable _
theorem c_l06Codes {b : Int} (h1 : 2 ≤ b) (h2 : b ≤ 16) (hA : Arr h l 1 (xs.map il)) : CallT S true 79 [.lf (.int .i64 b), .lf l] h lim K = K (.lf (.bool (decide (areCodes b xs)))) h := by
  have hb := hA.bound
  have hm := mst_bound h1 h2
  refine CallT_pure (F := L79) (HasK.f79) rfl (by first | rfl | (split <;> rfl) | simp) ?_; unfold L79; dsimp only []
  repeat' (first | (simp (disch := first | omega | assumption | (simp [*] <;> fail) | assumption) [-Bool.decide_and, -Bool.decide_or, -Bool.not_and, -Bool.not_or, toNat_pred, toNat_succ, wrap64, wr_new, wr_new0, ok_if, ok_ifn, iadV_sl, makeV_int, decT, decF, *, hA.len, hA.at_, hA.at_', hA.rd, hA.rdIn, hA.rdIn0, hA.rdA, hA.rdInA, hA.rdIn0A]) | (refine Gd_split (fun hc => ?_) (fun hc => ?_) <;> (have hc2 := hc; try simp at hc2)) | (refine Br_split (fun hc => ?_) (fun hc => ?_) <;> (have hc2 := hc; try simp at hc2)) | omega)
  refine WL_for xs.length (fun i a' h' => i ≤ xs.length ∧ a' 0 = .lf (.int .i64 b) ∧ a' 1 = .lf l ∧ a' 5 = .lf (.int .i64 i) ∧ h' = h ∧ withinUpto (-mst b) (mst b - 1) xs i) (fun i a' h' hi => hi.1) ?_ (by simp [withinUpto.zero])
  rintro i a' h' ⟨hi, e0, e1, e5, rfl, hl⟩
  by_cases hlt : i < xs.length
  · repeat' (first | (simp (disch := first | omega | assumption | (simp [*] <;> fail) | assumption) [-Bool.decide_and, -Bool.decide_or, -Bool.not_and, -Bool.not_or, toNat_pred, toNat_succ, wrap64, wr_new, wr_new0, ok_if, ok_ifn, iadV_sl, makeV_int, decT, decF, *, hA.len, hA.at_, hA.at_', hA.rd, hA.rdIn, hA.rdIn0, hA.rdA, hA.rdInA, hA.rdIn0A, hA.rd1, il, c_l06Most h1 h2]) | (refine Gd_split (fun hc => ?_) (fun hc => ?_) <;> (have hc2 := hc; try simp at hc2)) | (refine Br_split (fun hc => ?_) (fun hc => ?_) <;> (have hc2 := hc; try simp at hc2)) | omega)
    · exact fun h => not_allIn hlt (by omega) h.2
    · exact ⟨hlt, hl.succ hlt (by omega)⟩
    · exact fun h => by have := h.1; omega
  · have : i = xs.length := by omega
    subst this
    repeat' (first | (simp (disch := first | omega | assumption | (simp [*] <;> fail) | assumption) [-Bool.decide_and, -Bool.decide_or, -Bool.not_and, -Bool.not_or, toNat_pred, toNat_succ, wrap64, wr_new, wr_new0, ok_if, ok_ifn, iadV_sl, makeV_int, decT, decF, *, hA.len, hA.at_, hA.at_', hA.rd, hA.rdIn, hA.rdIn0, hA.rdA, hA.rdInA, hA.rdIn0A]) | (refine Gd_split (fun hc => ?_) (fun hc => ?_) <;> (have hc2 := hc; try simp at hc2)) | (refine Br_split (fun hc => ?_) (fun hc => ?_) <;> (have hc2 := hc; try simp at hc2)) | omega)
    exact ⟨fun h => ⟨by omega, hl⟩, fun h => by have := h.1; omega⟩
theorem c_areCodes {b : Int} (hA : Arr h l 1 (xs.map il)) : CallT S true 81 [.lf (.int .i64 b), .lf l] h lim K = K (.lf (.bool (decide ((2 ≤ b ∧ b ≤ 16) ∧ areCodes b xs)))) h := by
  have hb := hA.bound
  by_cases hbits : 2 ≤ b ∧ b ≤ 16
  · have hm := mst_bound hbits.1 hbits.2
    refine CallT_pure (F := L81) (HasK.f81) rfl (by first | rfl | (split <;> rfl) | simp) ?_; unfold L81; dsimp only []
    repeat' (first | (simp (disch := first | omega | assumption | (simp [*] <;> fail) | assumption) [-Bool.decide_and, -Bool.decide_or, -Bool.not_and, -Bool.not_or, toNat_pred, toNat_succ, wrap64, wr_new, wr_new0, ok_if, ok_ifn, iadV_sl, makeV_int, decT, decF, *, hA.len, hA.at_, hA.at_', hA.rd, hA.rdIn, hA.rdIn0, hA.rdA, hA.rdInA, hA.rdIn0A, shl_mst, c_allWithin hA]) | (refine Gd_split (fun hc => ?_) (fun hc => ?_) <;> (have hc2 := hc; try simp at hc2)) | (refine Br_split (fun hc => ?_) (fun hc => ?_) <;> (have hc2 := hc; try simp at hc2)) | omega)
    · exact fun h => by have := h.1; omega
    · exact ⟨fun h => ⟨by omega, h⟩, fun h => h.2⟩
  · refine CallT_pure (F := L81) (HasK.f81) rfl (by first | rfl | (split <;> rfl) | simp) ?_; unfold L81; dsimp only []
    repeat' (first | (simp (disch := first | omega | assumption | (simp [*] <;> fail) | assumption) [-Bool.decide_and, -Bool.decide_or, -Bool.not_and, -Bool.not_or, toNat_pred, toNat_succ, wrap64, wr_new, wr_new0, ok_if, ok_ifn, iadV_sl, makeV_int, decT, decF, *, hA.len, hA.at_, hA.at_', hA.rd, hA.rdIn, hA.rdIn0, hA.rdA, hA.rdInA, hA.rdIn0A]) | (refine Gd_split (fun hc => ?_) (fun hc => ?_) <;> (have hc2 := hc; try simp at hc2)) | (refine Br_split (fun hc => ?_) (fun hc => ?_) <;> (have hc2 := hc; try simp at hc2)) | omega)
/-- How many are at an end. -/
def atEnd (m : Int) (x : Int) : Bool := decide (x = -m) || decide (x = m - 1)
def cnt (m : Int) (xs : List Int) : Nat := xs.countP (atEnd m)
theorem cnt_take {m : Int} {xs : List Int} {i : Nat} (hi : i < xs.length) : cnt m (xs.take (i + 1)) = cnt m (xs.take i) + (if xs[i] = -m ∨ xs[i] = m - 1 then 1 else 0) := by
  rw [List.take_succ_eq_append_getElem hi]
  simp only [cnt, List.countP_append, List.countP_cons, List.countP_nil, Nat.zero_add, atEnd]
  congr 1
  by_cases h1 : xs[i] = -m <;> by_cases h2 : xs[i] = m - 1 <;> simp [h1, h2]
theorem cnt_le {m : Int} {xs : List Int} : cnt m xs ≤ xs.length := List.countP_le_length
noncomputable def countClipped (b : Int) (xs : List Int) : List TV := if (2 ≤ b ∧ b ≤ 16) ∧ areCodes b xs then [.lf (.int .i64 (cnt (mst b) xs)), .lf (.bool true)] else [.lf (.int .i64 0), .lf (.bool false)]
end
end Go.E
