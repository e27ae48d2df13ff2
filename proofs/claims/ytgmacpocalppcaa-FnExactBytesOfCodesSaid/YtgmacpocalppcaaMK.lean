/- Codes of samples: what says whether numbers are codes of so many bits; how many are at an end. -/
import Derived.Test.YtgmacpocalppcaaMF
set_option linter.unusedVariables false
set_option linter.unusedSimpArgs false
namespace Go.E
open Go
def L100 : LFn := ⟨3, (.seq (.reg [⟨(.some 6), (.mv (.c (.lf (.bool false)))), none⟩])
 (.seq (.seq (.reg [⟨(.some 9), (.mv (.t 0)), none⟩, ⟨(.some 10), (.len (.t 9)), none⟩, ⟨(.some 11), (.mv (.c (.lf (.int .i64 0)))), none⟩])
 (.block 0 (.loop (.seq (.reg [⟨(.some 12), (.bin .lss (.t 11) (.t 10)), none⟩])
 (.seq (.cond (.t 12) .skip (.exit 0))
 (.seq (.block 1 (.seq (.reg [⟨(.some 13), (.iaddr 1 (.t 9) (.t 11)), none⟩, ⟨(.some 14), (.load false 1 (.t 13)), none⟩, ⟨(.some 8), (.mv (.t 14)), none⟩])
 (.seq (.reg [⟨(.some 15), (.mv (.t 8)), none⟩, ⟨(.some 16), (.mv (.t 1)), none⟩, ⟨(.some 17), (.mv (.t 2)), none⟩, ⟨(.some 18), (.call true 77 [(.t 15), (.t 16), (.t 17)]), none⟩, ⟨(.some 19), (.una .not (.t 18)), none⟩])
 (.cond (.t 19) (.seq (.reg [⟨(.some 6), (.mv (.c (.lf (.bool false)))), none⟩])
 .ret) .skip))))
 (.reg [⟨(.some 20), (.bin .add (.t 11) (.c (.lf (.int .i64 1)))), none⟩, ⟨(.some 11), (.mv (.t 20)), none⟩])))))))
 (.seq (.reg [⟨(.some 6), (.mv (.c (.lf (.bool true)))), none⟩])
 .ret))), [(.tmp 6)]⟩
class HasW (S : Sys) : Prop where
  f100 : S.fs 100 = some L100
def L73 : LFn := ⟨1, (.seq (.reg [⟨(.some 2), (.mv (.c (.lf (.bool false)))), none⟩])
 (.seq (.reg [⟨(.some 3), (.mv (.t 0)), none⟩, ⟨(.some 4), (.call true 82 [(.t 3), (.c (.lf (.int .i64 2))), (.c (.lf (.int .i64 16)))]), none⟩, ⟨(.some 2), (.mv (.t 4)), none⟩])
 .ret)), [(.tmp 2)]⟩
def L74 : LFn := ⟨1, (.seq (.reg [⟨(.some 2), (.mv (.c (.lf (.int .i64 0)))), none⟩])
 (.seq (.reg [⟨(.some 3), (.mv (.t 0)), none⟩, ⟨(.some 4), (.bin .sub (.t 3) (.c (.lf (.int .i64 1)))), none⟩, ⟨(.some 5), (.toint .u64 (.t 4)), none⟩, ⟨(.some 6), (.bin .shl (.c (.lf (.int .i64 1))) (.t 5)), none⟩, ⟨(.some 2), (.mv (.t 6)), none⟩])
 .ret)), [(.tmp 2)]⟩
def L68 : LFn := ⟨2, (.seq (.reg [⟨(.some 4), (.mv (.c (.lf (.bool false)))), none⟩])
 (.seq (.seq (.reg [⟨(.some 5), (.mv (.c (.lf (.int .i64 0)))), none⟩])
 (.block 0 (.loop (.seq (.seq (.reg [⟨(.some 6), (.mv (.t 5)), none⟩, ⟨(.some 7), (.mv (.t 1)), none⟩, ⟨(.some 8), (.len (.t 7)), none⟩, ⟨(.some 9), (.bin .lss (.t 6) (.t 8)), none⟩, ⟨(.some 10), (.mv (.t 9)), none⟩, ⟨(.some 11), (.mv (.t 1)), (.some (10, true))⟩, ⟨(.some 12), (.len (.t 11)), (.some (10, true))⟩, ⟨(.some 13), (.bin .leq (.t 12) (.c (.lf (.int .i64 256)))), (.some (10, true))⟩, ⟨(.some 14), (.pick (.t 10) (.t 13) (.c (.lf (.bool false)))), none⟩])
 (.cond (.t 14) .skip (.exit 0)))
 (.seq (.block 1 (.seq (.reg [⟨(.some 17), (.mv (.t 1)), none⟩, ⟨(.some 18), (.mv (.t 5)), none⟩, ⟨(.some 19), (.iaddr 1 (.t 17) (.t 18)), none⟩, ⟨(.some 20), (.load false 1 (.t 19)), none⟩, ⟨(.some 21), (.mv (.t 0)), none⟩, ⟨(.some 22), (.call true 74 [(.t 21)]), none⟩, ⟨(.some 23), (.una .neg (.t 22)), none⟩, ⟨(.some 24), (.mv (.t 0)), none⟩, ⟨(.some 25), (.call true 74 [(.t 24)]), none⟩, ⟨(.some 26), (.bin .sub (.t 25) (.c (.lf (.int .i64 1)))), none⟩, ⟨(.some 27), (.call true 82 [(.t 20), (.t 23), (.t 26)]), none⟩, ⟨(.some 28), (.una .not (.t 27)), none⟩])
 (.cond (.t 28) (.seq (.reg [⟨(.some 4), (.mv (.c (.lf (.bool false)))), none⟩])
 .ret) .skip)))
 (.reg [⟨(.some 15), (.mv (.t 5)), none⟩, ⟨(.some 16), (.bin .add (.t 15) (.c (.lf (.int .i64 1)))), none⟩, ⟨(.some 5), (.mv (.t 16)), none⟩]))))))
 (.seq (.reg [⟨(.some 29), (.mv (.t 1)), none⟩, ⟨(.some 30), (.len (.t 29)), none⟩, ⟨(.some 31), (.bin .leq (.t 30) (.c (.lf (.int .i64 256)))), none⟩, ⟨(.some 4), (.mv (.t 31)), none⟩])
 .ret))), [(.tmp 4)]⟩
def L33 : LFn := ⟨2, (.seq (.reg [⟨(.some 4), (.mv (.c (.lf (.int .i64 0)))), none⟩, ⟨(.some 5), (.mv (.c (.lf (.bool false)))), none⟩])
 (.seq (.seq (.reg [⟨(.some 8), (.mv (.t 0)), none⟩, ⟨(.some 9), (.call true 73 [(.t 8)]), none⟩, ⟨(.some 10), (.una .not (.t 9)), none⟩, ⟨(.some 11), (.mv (.t 10)), none⟩, ⟨(.some 12), (.mv (.t 0)), (.some (11, false))⟩, ⟨(.some 13), (.mv (.t 1)), (.some (11, false))⟩, ⟨(.some 14), (.call true 68 [(.t 12), (.t 13)]), (.some (11, false))⟩, ⟨(.some 15), (.una .not (.t 14)), (.some (11, false))⟩, ⟨(.some 16), (.pick (.t 11) (.c (.lf (.bool true))) (.t 15)), none⟩])
 (.cond (.t 16) (.seq (.reg [⟨(.some 4), (.mv (.c (.lf (.int .i64 0)))), none⟩, ⟨(.some 5), (.mv (.c (.lf (.bool false)))), none⟩])
 .ret) .skip))
 (.seq (.reg [⟨(.some 6), (.mv (.c (.lf (.int .i64 0)))), none⟩])
 (.seq (.seq (.reg [⟨(.some 7), (.mv (.c (.lf (.int .i64 0)))), none⟩])
 (.block 0 (.loop (.seq (.seq (.reg [⟨(.some 17), (.mv (.t 7)), none⟩, ⟨(.some 18), (.mv (.t 1)), none⟩, ⟨(.some 19), (.len (.t 18)), none⟩, ⟨(.some 20), (.bin .lss (.t 17) (.t 19)), none⟩])
 (.cond (.t 20) .skip (.exit 0)))
 (.seq (.block 1 (.seq (.reg [⟨(.some 23), (.mv (.t 1)), none⟩, ⟨(.some 24), (.mv (.t 7)), none⟩, ⟨(.some 25), (.iaddr 1 (.t 23) (.t 24)), none⟩, ⟨(.some 26), (.load false 1 (.t 25)), none⟩, ⟨(.some 27), (.mv (.t 0)), none⟩, ⟨(.some 28), (.call true 74 [(.t 27)]), none⟩, ⟨(.some 29), (.una .neg (.t 28)), none⟩, ⟨(.some 30), (.bin .eql (.t 26) (.t 29)), none⟩, ⟨(.some 31), (.mv (.t 30)), none⟩, ⟨(.some 32), (.mv (.t 1)), (.some (31, false))⟩, ⟨(.some 33), (.mv (.t 7)), (.some (31, false))⟩, ⟨(.some 34), (.iaddr 1 (.t 32) (.t 33)), (.some (31, false))⟩, ⟨(.some 35), (.load false 1 (.t 34)), (.some (31, false))⟩, ⟨(.some 36), (.mv (.t 0)), (.some (31, false))⟩, ⟨(.some 37), (.call true 74 [(.t 36)]), (.some (31, false))⟩, ⟨(.some 38), (.bin .sub (.t 37) (.c (.lf (.int .i64 1)))), (.some (31, false))⟩, ⟨(.some 39), (.bin .eql (.t 35) (.t 38)), (.some (31, false))⟩, ⟨(.some 40), (.pick (.t 31) (.c (.lf (.bool true))) (.t 39)), none⟩])
 (.cond (.t 40) (.reg [⟨(.some 41), (.mv (.t 6)), none⟩, ⟨(.some 42), (.bin .add (.t 41) (.c (.lf (.int .i64 1)))), none⟩, ⟨(.some 6), (.mv (.t 42)), none⟩]) .skip)))
 (.reg [⟨(.some 21), (.mv (.t 7)), none⟩, ⟨(.some 22), (.bin .add (.t 21) (.c (.lf (.int .i64 1)))), none⟩, ⟨(.some 7), (.mv (.t 22)), none⟩]))))))
 (.seq (.reg [⟨(.some 43), (.mv (.t 6)), none⟩, ⟨(.some 4), (.mv (.t 43)), none⟩, ⟨(.some 5), (.mv (.c (.lf (.bool true)))), none⟩])
 .ret))))), [(.tmp 4), (.tmp 5)]⟩
def L108 : LFn := ⟨1, (.seq (.reg [⟨(.some 2), (.mv (.c (.lf (.bool false)))), none⟩])
 (.seq (.reg [⟨(.some 3), (.mv (.t 0)), none⟩, ⟨(.some 4), (.call true 77 [(.t 3), (.c (.lf (.int .i64 2))), (.c (.lf (.int .i64 16)))]), none⟩, ⟨(.some 2), (.mv (.t 4)), none⟩])
 .ret)), [(.tmp 2)]⟩
def L69 : LFn := ⟨2, (.seq (.reg [⟨(.some 4), (.mv (.c (.lf (.bool false)))), none⟩])
 (.seq (.seq (.reg [⟨(.some 6), (.mv (.t 0)), none⟩, ⟨(.some 7), (.call true 108 [(.t 6)]), none⟩, ⟨(.some 8), (.una .not (.t 7)), none⟩, ⟨(.some 9), (.mv (.t 8)), none⟩, ⟨(.some 10), (.mv (.t 1)), (.some (9, false))⟩, ⟨(.some 11), (.len (.t 10)), (.some (9, false))⟩, ⟨(.some 12), (.bin .gtr (.t 11) (.c (.lf (.int .i64 256)))), (.some (9, false))⟩, ⟨(.some 13), (.pick (.t 9) (.c (.lf (.bool true))) (.t 12)), none⟩])
 (.cond (.t 13) (.seq (.reg [⟨(.some 4), (.mv (.c (.lf (.bool false)))), none⟩])
 .ret) .skip))
 (.seq (.reg [⟨(.some 14), (.mv (.t 0)), none⟩, ⟨(.some 15), (.bin .sub (.t 14) (.c (.lf (.int .i64 1)))), none⟩, ⟨(.some 16), (.bin .shl (.c (.lf (.int .i64 1))) (.t 15)), none⟩, ⟨(.some 5), (.mv (.t 16)), none⟩])
 (.seq (.reg [⟨(.some 17), (.mv (.t 1)), none⟩, ⟨(.some 18), (.mv (.t 5)), none⟩, ⟨(.some 19), (.una .neg (.t 18)), none⟩, ⟨(.some 20), (.mv (.t 5)), none⟩, ⟨(.some 21), (.bin .sub (.t 20) (.c (.lf (.int .i64 1)))), none⟩, ⟨(.some 22), (.call true 100 [(.t 17), (.t 19), (.t 21)]), none⟩, ⟨(.some 4), (.mv (.t 22)), none⟩])
 .ret)))), [(.tmp 4)]⟩
def L34 : LFn := ⟨2, (.seq (.reg [⟨(.some 4), (.mv (.c (.lf (.int .i64 0)))), none⟩, ⟨(.some 5), (.mv (.c (.lf (.bool false)))), none⟩])
 (.seq (.seq (.reg [⟨(.some 10), (.mv (.t 0)), none⟩, ⟨(.some 11), (.mv (.t 1)), none⟩, ⟨(.some 12), (.call true 69 [(.t 10), (.t 11)]), none⟩, ⟨(.some 13), (.una .not (.t 12)), none⟩])
 (.cond (.t 13) (.seq (.reg [⟨(.some 4), (.mv (.c (.lf (.int .i64 0)))), none⟩, ⟨(.some 5), (.mv (.c (.lf (.bool false)))), none⟩])
 .ret) .skip))
 (.seq (.reg [⟨(.some 14), (.mv (.t 0)), none⟩, ⟨(.some 15), (.bin .sub (.t 14) (.c (.lf (.int .i64 1)))), none⟩, ⟨(.some 16), (.bin .shl (.c (.lf (.int .i64 1))) (.t 15)), none⟩, ⟨(.some 6), (.mv (.t 16)), none⟩])
 (.seq (.reg [⟨(.some 7), (.mv (.c (.lf (.int .i64 0)))), none⟩])
 (.seq (.seq (.reg [⟨(.some 17), (.mv (.t 1)), none⟩, ⟨(.some 18), (.len (.t 17)), none⟩, ⟨(.some 19), (.mv (.c (.lf (.int .i64 0)))), none⟩])
 (.block 0 (.loop (.seq (.reg [⟨(.some 20), (.bin .lss (.t 19) (.t 18)), none⟩])
 (.seq (.cond (.t 20) .skip (.exit 0))
 (.seq (.block 1 (.seq (.reg [⟨(.some 21), (.iaddr 1 (.t 17) (.t 19)), none⟩, ⟨(.some 22), (.load false 1 (.t 21)), none⟩, ⟨(.some 9), (.mv (.t 22)), none⟩])
 (.seq (.reg [⟨(.some 23), (.mv (.t 9)), none⟩, ⟨(.some 24), (.mv (.t 6)), none⟩, ⟨(.some 25), (.una .neg (.t 24)), none⟩, ⟨(.some 26), (.bin .eql (.t 23) (.t 25)), none⟩, ⟨(.some 27), (.mv (.t 26)), none⟩, ⟨(.some 28), (.mv (.t 9)), (.some (27, false))⟩, ⟨(.some 29), (.mv (.t 6)), (.some (27, false))⟩, ⟨(.some 30), (.bin .sub (.t 29) (.c (.lf (.int .i64 1)))), (.some (27, false))⟩, ⟨(.some 31), (.bin .eql (.t 28) (.t 30)), (.some (27, false))⟩, ⟨(.some 32), (.pick (.t 27) (.c (.lf (.bool true))) (.t 31)), none⟩])
 (.cond (.t 32) (.reg [⟨(.some 33), (.mv (.t 7)), none⟩, ⟨(.some 34), (.bin .add (.t 33) (.c (.lf (.int .i64 1)))), none⟩, ⟨(.some 7), (.mv (.t 34)), none⟩]) .skip))))
 (.reg [⟨(.some 35), (.bin .add (.t 19) (.c (.lf (.int .i64 1)))), none⟩, ⟨(.some 19), (.mv (.t 35)), none⟩])))))))
 (.seq (.reg [⟨(.some 36), (.mv (.t 7)), none⟩, ⟨(.some 4), (.mv (.t 36)), none⟩, ⟨(.some 5), (.mv (.c (.lf (.bool true)))), none⟩])
 .ret)))))), [(.tmp 4), (.tmp 5)]⟩
class HasK (S : Sys) : Prop extends HasA S, HasW S where
  f73 : S.fs 73 = some L73
  f74 : S.fs 74 = some L74
  f68 : S.fs 68 = some L68
  f33 : S.fs 33 = some L33
  f108 : S.fs 108 = some L108
  f69 : S.fs 69 = some L69
  f34 : S.fs 34 = some L34
/-- All are between p and q, up to the k-th. -/
def withinUpto (p q : Int) (xs : List Int) (k : Nat) : Prop := ∀ i (hi : i < xs.length), i < k → p ≤ xs[i] ∧ xs[i] ≤ q
theorem withinUpto.succ {p q : Int} {xs : List Int} {i : Nat} (h : withinUpto p q xs i) (hi : i < xs.length) (h1 : p ≤ xs[i] ∧ xs[i] ≤ q) : withinUpto p q xs (i + 1) := by
  intro j hj hlt
  by_cases e : j = i
  · subst e; exact h1
  · exact h j hj (by omega)
theorem withinUpto.zero {p q : Int} {xs : List Int} : withinUpto p q xs 0 := fun i _ h => by omega
def allIn (p q : Int) (xs : List Int) : Prop := withinUpto p q xs xs.length
noncomputable instance (p q : Int) (xs : List Int) : Decidable (allIn p q xs) := Classical.propDecidable _
theorem not_allIn {p q : Int} {xs : List Int} {i : Nat} (hi : i < xs.length) (h1 : ¬ (p ≤ xs[i] ∧ xs[i] ≤ q)) : ¬ allIn p q xs := fun h => h1 (h i hi hi)
/-- Half of the numbers of b bits. -/
def mst (b : Int) : Int := 2 ^ (b - 1).toNat
theorem mst_bound {b : Int} (h1 : 2 ≤ b) (h2 : b ≤ 16) : 2 ≤ mst b ∧ mst b ≤ 32768 := by
  obtain ⟨n, rfl⟩ := Int.eq_ofNat_of_zero_le (show 0 ≤ b by omega)
  have : n ≤ 16 := by omega
  have : 2 ≤ n := by omega
  unfold mst
  rcases (show n = 2 ∨ n = 3 ∨ n = 4 ∨ n = 5 ∨ n = 6 ∨ n = 7 ∨ n = 8 ∨ n = 9 ∨ n = 10 ∨ n = 11 ∨ n = 12 ∨ n = 13 ∨ n = 14 ∨ n = 15 ∨ n = 16 by omega) with rfl | rfl | rfl | rfl | rfl | rfl | rfl | rfl | rfl | rfl | rfl | rfl | rfl | rfl | rfl <;> decide
theorem shl_mst {b : Int} {k : IntKind} (h1 : 2 ≤ b) (h2 : b ≤ 16) : binV .shl (.lf (.int .i64 1)) (.lf (.int k (b - 1))) = some (.lf (.int .i64 (mst b))) := by
  have hm := mst_bound h1 h2
  simp only [binV, isShift, if_true, ishift]
  rw [if_neg (by omega)]
  have e : min (b - 1).toNat IntKind.i64.bits = (b - 1).toNat := by
    show min (b - 1).toNat 64 = _
    omega
  have e2 : (1 : Int) * 2 ^ min (b - 1).toNat IntKind.i64.bits = mst b := by rw [e, Int.one_mul]; rfl
  rw [e2, wrap64 (by omega) (by omega)]
theorem wrapU64 {x : Int} (h1 : 0 ≤ x) (h2 : x ≤ 18446744073709551615) : IntKind.u64.wrap x = x := by
  rw [IntKind.wrap_u64]; omega
section
variable {S : Sys} {lim : Nat} {h : Hp} {K : CV → Hp → Prop} {l : Lf} {xs : List Int}
theorem c_allWithin [HasW S] [HasA S] {p q : Int} (hA : Arr h l 1 (xs.map il)) : CallT S true 100 [.lf l, .lf (.int .i64 p), .lf (.int .i64 q)] h lim K = K (.lf (.bool (decide (allIn p q xs)))) h := by
  have hb := hA.bound
  refine CallT_pure (F := L100) (HasW.f100) rfl (by first | rfl | (split <;> rfl) | simp) ?_; unfold L100; dsimp only []
  repeat' (first | (simp (disch := first | omega | assumption | (simp [*] <;> fail) | assumption) [-Bool.decide_and, -Bool.decide_or, -Bool.not_and, -Bool.not_or, toNat_pred, toNat_succ, wrap64, wr_new, wr_new0, ok_if, ok_ifn, iadV_sl, makeV_int, decT, decF, *, hA.len, hA.at_, hA.at_', hA.rd, hA.rdIn, hA.rdIn0, hA.rdA, hA.rdInA, hA.rdIn0A]) | (refine Gd_split (fun hc => ?_) (fun hc => ?_) <;> (have hc2 := hc; try simp at hc2)) | (refine Br_split (fun hc => ?_) (fun hc => ?_) <;> (have hc2 := hc; try simp at hc2)) | omega)
  refine WL_for xs.length (fun i a' h' => i ≤ xs.length ∧ a' 1 = .lf (.int .i64 p) ∧ a' 2 = .lf (.int .i64 q) ∧ a' 9 = .lf l ∧ a' 10 = .lf (.int .i64 xs.length) ∧ a' 11 = .lf (.int .i64 i) ∧ h' = h ∧ withinUpto p q xs i) (fun i a' h' hi => hi.1) ?_ (by simp [withinUpto.zero])
  rintro i a' h' ⟨hi, e1, e2, e9, e10, e11, rfl, hl⟩
  by_cases hlt : i < xs.length
  · repeat' (first | (simp (disch := first | omega | assumption | (simp [*] <;> fail) | assumption) [-Bool.decide_and, -Bool.decide_or, -Bool.not_and, -Bool.not_or, toNat_pred, toNat_succ, wrap64, wr_new, wr_new0, ok_if, ok_ifn, iadV_sl, makeV_int, decT, decF, *, hA.len, hA.at_, hA.at_', hA.rd, hA.rdIn, hA.rdIn0, hA.rdA, hA.rdInA, hA.rdIn0A, hA.rd1, il]) | (refine Gd_split (fun hc => ?_) (fun hc => ?_) <;> (have hc2 := hc; try simp at hc2)) | (refine Br_split (fun hc => ?_) (fun hc => ?_) <;> (have hc2 := hc; try simp at hc2)) | omega)
    · exact not_allIn hlt (by omega)
    · exact ⟨hlt, hl.succ hlt (by omega)⟩
  · have : i = xs.length := by omega
    subst this
    repeat' (first | (simp (disch := first | omega | assumption | (simp [*] <;> fail) | assumption) [-Bool.decide_and, -Bool.decide_or, -Bool.not_and, -Bool.not_or, toNat_pred, toNat_succ, wrap64, wr_new, wr_new0, ok_if, ok_ifn, iadV_sl, makeV_int, decT, decF, *, hA.len, hA.at_, hA.at_', hA.rd, hA.rdIn, hA.rdIn0, hA.rdA, hA.rdInA, hA.rdIn0A]) | (refine Gd_split (fun hc => ?_) (fun hc => ?_) <;> (have hc2 := hc; try simp at hc2)) | (refine Br_split (fun hc => ?_) (fun hc => ?_) <;> (have hc2 := hc; try simp at hc2)) | omega)
    exact hl
variable [HasK S]
@[simp] theorem c_l06Bits {x : Int} : CallT S true 73 [.lf (.int .i64 x)] h lim K = K (.lf (.bool (decide (2 ≤ x ∧ x ≤ 16)))) h := by
  refine CallT_pure (F := L73) (HasK.f73) rfl (by first | rfl | (split <;> rfl) | simp) ?_; unfold L73; dsimp only []
  repeat' (first | (simp (disch := first | omega | assumption | (simp [*] <;> fail) | assumption) [-Bool.decide_and, -Bool.decide_or, -Bool.not_and, -Bool.not_or, toNat_pred, toNat_succ, wrap64, wr_new, wr_new0, ok_if, ok_ifn, iadV_sl, makeV_int, decT, decF, *]) | (refine Gd_split (fun hc => ?_) (fun hc => ?_) <;> (have hc2 := hc; try simp at hc2)) | (refine Br_split (fun hc => ?_) (fun hc => ?_) <;> (have hc2 := hc; try simp at hc2)) | omega)
@[simp] theorem c_isBits {x : Int} : CallT S true 108 [.lf (.int .i64 x)] h lim K = K (.lf (.bool (decide (2 ≤ x ∧ x ≤ 16)))) h := by
  refine CallT_pure (F := L108) (HasK.f108) rfl (by first | rfl | (split <;> rfl) | simp) ?_; unfold L108; dsimp only []
  repeat' (first | (simp (disch := first | omega | assumption | (simp [*] <;> fail) | assumption) [-Bool.decide_and, -Bool.decide_or, -Bool.not_and, -Bool.not_or, toNat_pred, toNat_succ, wrap64, wr_new, wr_new0, ok_if, ok_ifn, iadV_sl, makeV_int, decT, decF, *]) | (refine Gd_split (fun hc => ?_) (fun hc => ?_) <;> (have hc2 := hc; try simp at hc2)) | (refine Br_split (fun hc => ?_) (fun hc => ?_) <;> (have hc2 := hc; try simp at hc2)) | omega)
theorem c_l06Most {b : Int} (h1 : 2 ≤ b) (h2 : b ≤ 16) : CallT S true 74 [.lf (.int .i64 b)] h lim K = K (.lf (.int .i64 (mst b))) h := by
  refine CallT_pure (F := L74) (HasK.f74) rfl (by first | rfl | (split <;> rfl) | simp) ?_; unfold L74; dsimp only []
  repeat' (first | (simp (disch := first | omega | assumption | (simp [*] <;> fail) | assumption) [-Bool.decide_and, -Bool.decide_or, -Bool.not_and, -Bool.not_or, toNat_pred, toNat_succ, wrap64, wr_new, wr_new0, ok_if, ok_ifn, iadV_sl, makeV_int, decT, decF, *, wrapU64, shl_mst]) | (refine Gd_split (fun hc => ?_) (fun hc => ?_) <;> (have hc2 := hc; try simp at hc2)) | (refine Br_split (fun hc => ?_) (fun hc => ?_) <;> (have hc2 := hc; try simp at hc2)) | omega)
def areCodes (b : Int) (xs : List Int) : Prop := xs.length ≤ 256 ∧ allIn (-mst b) (mst b - 1) xs
noncomputable instance (b : Int) (xs : List Int) : Decidable (areCodes b xs) := Classical.propDecidable _
theorem c_l06Codes {b : Int} (h1 : 2 ≤ b) (h2 : b ≤ 16) (hA : Arr h l 1 (xs.map il)) : CallT S true 68 [.lf (.int .i64 b), .lf l] h lim K = K (.lf (.bool (decide (areCodes b xs)))) h := by
  have hb := hA.bound
  have hm := mst_bound h1 h2
  refine CallT_pure (F := L68) (HasK.f68) rfl (by first | rfl | (split <;> rfl) | simp) ?_; unfold L68; dsimp only []
  repeat' (first | (simp (disch := first | omega | assumption | (simp [*] <;> fail) | assumption) [-Bool.decide_and, -Bool.decide_or, -Bool.not_and, -Bool.not_or, toNat_pred, toNat_succ, wrap64, wr_new, wr_new0, ok_if, ok_ifn, iadV_sl, makeV_int, decT, decF, *, hA.len, hA.at_, hA.at_', hA.rd, hA.rdIn, hA.rdIn0, hA.rdA, hA.rdInA, hA.rdIn0A]) | (refine Gd_split (fun hc => ?_) (fun hc => ?_) <;> (have hc2 := hc; try simp at hc2)) | (refine Br_split (fun hc => ?_) (fun hc => ?_) <;> (have hc2 := hc; try simp at hc2)) | omega)
  refine WL_for xs.length (fun i a' h' => i ≤ xs.length ∧ a' 0 = .lf (.int .i64 b) ∧ a' 1 = .lf l ∧ a' 5 = .lf (.int .i64 i) ∧ h' = h ∧ withinUpto (-mst b) (mst b - 1) xs i) (fun i a' h' hi => hi.1) ?_ (by simp [withinUpto.zero])
  rintro i a' h' ⟨hi, e0, e1, e5, rfl, hl⟩
  by_cases hlt : i < xs.length
  · repeat' (first | (simp (disch := first | omega | assumption | (simp [*] <;> fail) | assumption) [-Bool.decide_and, -Bool.decide_or, -Bool.not_and, -Bool.not_or, toNat_pred, toNat_succ, wrap64, wr_new, wr_new0, ok_if, ok_ifn, iadV_sl, makeV_int, decT, decF, *, hA.len, hA.at_, hA.at_', hA.rd, hA.rdIn, hA.rdIn0, hA.rdA, hA.rdInA, hA.rdIn0A, hA.rd1, il, c_l06Most h1 h2]) | (refine Gd_split (fun hc => ?_) (fun hc => ?_) <;> (have hc2 := hc; try simp at hc2)) | (refine Br_split (fun hc => ?_) (fun hc => ?_) <;> (have hc2 := hc; try simp at hc2)) | omega)
    · exact fun h => not_allIn hlt (by omega) h.2
    · exact ⟨hlt, hl.succ hlt (by omega)⟩
    · exact fun h => by have := h.1; omega
  · have : i = xs.length := by omega
    subst this
    repeat' (first | (simp (disch := first | omega | assumption | (simp [*] <;> fail) | assumption) [-Bool.decide_and, -Bool.decide_or, -Bool.not_and, -Bool.not_or, toNat_pred, toNat_succ, wrap64, wr_new, wr_new0, ok_if, ok_ifn, iadV_sl, makeV_int, decT, decF, *, hA.len, hA.at_, hA.at_', hA.rd, hA.rdIn, hA.rdIn0, hA.rdA, hA.rdInA, hA.rdIn0A]) | (refine Gd_split (fun hc => ?_) (fun hc => ?_) <;> (have hc2 := hc; try simp at hc2)) | (refine Br_split (fun hc => ?_) (fun hc => ?_) <;> (have hc2 := hc; try simp at hc2)) | omega)
    exact ⟨fun h => ⟨by omega, hl⟩, fun h => by have := h.1; omega⟩
theorem c_areCodes {b : Int} (hA : Arr h l 1 (xs.map il)) : CallT S true 69 [.lf (.int .i64 b), .lf l] h lim K = K (.lf (.bool (decide ((2 ≤ b ∧ b ≤ 16) ∧ areCodes b xs)))) h := by
  have hb := hA.bound
  by_cases hbits : 2 ≤ b ∧ b ≤ 16
  · have hm := mst_bound hbits.1 hbits.2
    refine CallT_pure (F := L69) (HasK.f69) rfl (by first | rfl | (split <;> rfl) | simp) ?_; unfold L69; dsimp only []
    repeat' (first | (simp (disch := first | omega | assumption | (simp [*] <;> fail) | assumption) [-Bool.decide_and, -Bool.decide_or, -Bool.not_and, -Bool.not_or, toNat_pred, toNat_succ, wrap64, wr_new, wr_new0, ok_if, ok_ifn, iadV_sl, makeV_int, decT, decF, *, hA.len, hA.at_, hA.at_', hA.rd, hA.rdIn, hA.rdIn0, hA.rdA, hA.rdInA, hA.rdIn0A, shl_mst, c_allWithin hA]) | (refine Gd_split (fun hc => ?_) (fun hc => ?_) <;> (have hc2 := hc; try simp at hc2)) | (refine Br_split (fun hc => ?_) (fun hc => ?_) <;> (have hc2 := hc; try simp at hc2)) | omega)
    · exact fun h => by have := h.1; omega
    · exact ⟨fun h => ⟨by omega, h⟩, fun h => h.2⟩
  · refine CallT_pure (F := L69) (HasK.f69) rfl (by first | rfl | (split <;> rfl) | simp) ?_; unfold L69; dsimp only []
    repeat' (first | (simp (disch := first | omega | assumption | (simp [*] <;> fail) | assumption) [-Bool.decide_and, -Bool.decide_or, -Bool.not_and, -Bool.not_or, toNat_pred, toNat_succ, wrap64, wr_new, wr_new0, ok_if, ok_ifn, iadV_sl, makeV_int, decT, decF, *, hA.len, hA.at_, hA.at_', hA.rd, hA.rdIn, hA.rdIn0, hA.rdA, hA.rdInA, hA.rdIn0A]) | (refine Gd_split (fun hc => ?_) (fun hc => ?_) <;> (have hc2 := hc; try simp at hc2)) | (refine Br_split (fun hc => ?_) (fun hc => ?_) <;> (have hc2 := hc; try simp at hc2)) | omega)
/-- How many are at an end. -/
def atEnd (m : Int) (x : Int) : Bool := decide (x = -m) || decide (x = m - 1)
def cnt (m : Int) (xs : List Int) : Nat := xs.countP (atEnd m)
theorem cnt_take {m : Int} {xs : List Int} {i : Nat} (hi : i < xs.length) : cnt m (xs.take (i + 1)) = cnt m (xs.take i) + (if xs[i] = -m ∨ xs[i] = m - 1 then 1 else 0) := by
  rw [List.take_succ_eq_append_getElem hi]
  simp only [cnt, List.countP_append, List.countP_cons, List.countP_nil, Nat.zero_add, atEnd]
  congr 1
  by_cases h1 : xs[i] = -m <;> by_cases h2 : xs[i] = m - 1 <;> simp [h1, h2]
theorem cnt_le {m : Int} {xs : List Int} : cnt m xs ≤ xs.length := List.countP_le_length
noncomputable def countClipped (b : Int) (xs : List Int) : List TV := if (2 ≤ b ∧ b ≤ 16) ∧ areCodes b xs then [.lf (.int .i64 (cnt (mst b) xs)), .lf (.bool true)] else [.lf (.int .i64 0), .lf (.bool false)]
theorem c_specCountClipped {b : Int} (hA : Arr h l 1 (xs.map il)) : CallT S true 33 [.lf (.int .i64 b), .lf l] h lim K = K (.tup (countClipped b xs)) h := by
  have hb := hA.bound
  unfold countClipped
  by_cases hk : (2 ≤ b ∧ b ≤ 16) ∧ areCodes b xs
  · have hm := mst_bound hk.1.1 hk.1.2
    have hlen := hk.2.1
    refine CallT_pure (F := L33) (HasK.f33) rfl (by first | rfl | (split <;> rfl) | simp) ?_; unfold L33; dsimp only []
    repeat' (first | (simp (disch := first | omega | assumption | (simp [*] <;> fail) | assumption) [-Bool.decide_and, -Bool.decide_or, -Bool.not_and, -Bool.not_or, toNat_pred, toNat_succ, wrap64, wr_new, wr_new0, ok_if, ok_ifn, iadV_sl, makeV_int, decT, decF, *, hA.len, hA.at_, hA.at_', hA.rd, hA.rdIn, hA.rdIn0, hA.rdA, hA.rdInA, hA.rdIn0A, c_l06Codes hk.1.1 hk.1.2 hA]) | (refine Gd_split (fun hc => ?_) (fun hc => ?_) <;> (have hc2 := hc; try simp at hc2)) | (refine Br_split (fun hc => ?_) (fun hc => ?_) <;> (have hc2 := hc; try simp at hc2)) | omega)
    refine WL_for xs.length (fun i a' h' => i ≤ xs.length ∧ a' 0 = .lf (.int .i64 b) ∧ a' 1 = .lf l ∧ a' 6 = .lf (.int .i64 (cnt (mst b) (xs.take i))) ∧ a' 7 = .lf (.int .i64 i) ∧ h' = h) (fun i a' h' hi => hi.1) ?_ (by simp [cnt])
    rintro i a' h' ⟨hi, e0, e1, e6, e7, rfl⟩
    have hc := cnt_le (m := mst b) (xs := xs.take i)
    rw [List.length_take] at hc
    by_cases hlt : i < xs.length
    · have ht := cnt_take (m := mst b) hlt
      repeat' (first | (simp (disch := first | omega | assumption | (simp [*] <;> fail) | assumption) [-Bool.decide_and, -Bool.decide_or, -Bool.not_and, -Bool.not_or, toNat_pred, toNat_succ, wrap64, wr_new, wr_new0, ok_if, ok_ifn, iadV_sl, makeV_int, decT, decF, *, hA.len, hA.at_, hA.at_', hA.rd, hA.rdIn, hA.rdIn0, hA.rdA, hA.rdInA, hA.rdIn0A, hA.rd1, il, c_l06Most hk.1.1 hk.1.2]) | (refine Gd_split (fun hc => ?_) (fun hc => ?_) <;> (have hc2 := hc; try simp at hc2)) | (refine Br_split (fun hc => ?_) (fun hc => ?_) <;> (have hc2 := hc; try simp at hc2)) | omega)
    · have : i = xs.length := by omega
      subst this
      rw [List.take_length] at e6
      repeat' (first | (simp (disch := first | omega | assumption | (simp [*] <;> fail) | assumption) [-Bool.decide_and, -Bool.decide_or, -Bool.not_and, -Bool.not_or, toNat_pred, toNat_succ, wrap64, wr_new, wr_new0, ok_if, ok_ifn, iadV_sl, makeV_int, decT, decF, *, hA.len, hA.at_, hA.at_', hA.rd, hA.rdIn, hA.rdIn0, hA.rdA, hA.rdInA, hA.rdIn0A]) | (refine Gd_split (fun hc => ?_) (fun hc => ?_) <;> (have hc2 := hc; try simp at hc2)) | (refine Br_split (fun hc => ?_) (fun hc => ?_) <;> (have hc2 := hc; try simp at hc2)) | omega)
  · refine CallT_pure (F := L33) (HasK.f33) rfl (by first | rfl | (split <;> rfl) | simp) ?_; unfold L33; dsimp only []
    by_cases h1 : 2 ≤ b ∧ b ≤ 16
    · have h2 : ¬ areCodes b xs := fun h => hk ⟨h1, h⟩
      repeat' (first | (simp (disch := first | omega | assumption | (simp [*] <;> fail) | assumption) [-Bool.decide_and, -Bool.decide_or, -Bool.not_and, -Bool.not_or, toNat_pred, toNat_succ, wrap64, wr_new, wr_new0, ok_if, ok_ifn, iadV_sl, makeV_int, decT, decF, *, hA.len, hA.at_, hA.at_', hA.rd, hA.rdIn, hA.rdIn0, hA.rdA, hA.rdInA, hA.rdIn0A, c_l06Codes h1.1 h1.2 hA]) | (refine Gd_split (fun hc => ?_) (fun hc => ?_) <;> (have hc2 := hc; try simp at hc2)) | (refine Br_split (fun hc => ?_) (fun hc => ?_) <;> (have hc2 := hc; try simp at hc2)) | omega)
    · repeat' (first | (simp (disch := first | omega | assumption | (simp [*] <;> fail) | assumption) [-Bool.decide_and, -Bool.decide_or, -Bool.not_and, -Bool.not_or, toNat_pred, toNat_succ, wrap64, wr_new, wr_new0, ok_if, ok_ifn, iadV_sl, makeV_int, decT, decF, *, hA.len, hA.at_, hA.at_', hA.rd, hA.rdIn, hA.rdIn0, hA.rdA, hA.rdInA, hA.rdIn0A]) | (refine Gd_split (fun hc => ?_) (fun hc => ?_) <;> (have hc2 := hc; try simp at hc2)) | (refine Br_split (fun hc => ?_) (fun hc => ?_) <;> (have hc2 := hc; try simp at hc2)) | omega)
theorem c_implCountClipped {b : Int} (hA : Arr h l 1 (xs.map il)) : CallT S true 34 [.lf (.int .i64 b), .lf l] h lim K = K (.tup (countClipped b xs)) h := by
  have hb := hA.bound
  unfold countClipped
  by_cases hk : (2 ≤ b ∧ b ≤ 16) ∧ areCodes b xs
  · have hm := mst_bound hk.1.1 hk.1.2
    have hlen := hk.2.1
    refine CallT_pure (F := L34) (HasK.f34) rfl (by first | rfl | (split <;> rfl) | simp) ?_; unfold L34; dsimp only []
    repeat' (first | (simp (disch := first | omega | assumption | (simp [*] <;> fail) | assumption) [-Bool.decide_and, -Bool.decide_or, -Bool.not_and, -Bool.not_or, toNat_pred, toNat_succ, wrap64, wr_new, wr_new0, ok_if, ok_ifn, iadV_sl, makeV_int, decT, decF, *, hA.len, hA.at_, hA.at_', hA.rd, hA.rdIn, hA.rdIn0, hA.rdA, hA.rdInA, hA.rdIn0A, c_areCodes hA, shl_mst]) | (refine Gd_split (fun hc => ?_) (fun hc => ?_) <;> (have hc2 := hc; try simp at hc2)) | (refine Br_split (fun hc => ?_) (fun hc => ?_) <;> (have hc2 := hc; try simp at hc2)) | omega)
    refine WL_for xs.length (fun i a' h' => i ≤ xs.length ∧ a' 6 = .lf (.int .i64 (mst b)) ∧ a' 17 = .lf l ∧ a' 18 = .lf (.int .i64 xs.length) ∧ a' 7 = .lf (.int .i64 (cnt (mst b) (xs.take i))) ∧ a' 19 = .lf (.int .i64 i) ∧ h' = h) (fun i a' h' hi => hi.1) ?_ (by simp [cnt])
    rintro i a' h' ⟨hi, e0, e1, e5, e6, e7, rfl⟩
    have hc := cnt_le (m := mst b) (xs := xs.take i)
    rw [List.length_take] at hc
    by_cases hlt : i < xs.length
    · have ht := cnt_take (m := mst b) hlt
      repeat' (first | (simp (disch := first | omega | assumption | (simp [*] <;> fail) | assumption) [-Bool.decide_and, -Bool.decide_or, -Bool.not_and, -Bool.not_or, toNat_pred, toNat_succ, wrap64, wr_new, wr_new0, ok_if, ok_ifn, iadV_sl, makeV_int, decT, decF, *, hA.len, hA.at_, hA.at_', hA.rd, hA.rdIn, hA.rdIn0, hA.rdA, hA.rdInA, hA.rdIn0A, hA.rd1, il]) | (refine Gd_split (fun hc => ?_) (fun hc => ?_) <;> (have hc2 := hc; try simp at hc2)) | (refine Br_split (fun hc => ?_) (fun hc => ?_) <;> (have hc2 := hc; try simp at hc2)) | omega)
    · have : i = xs.length := by omega
      subst this
      rw [List.take_length] at e6
      repeat' (first | (simp (disch := first | omega | assumption | (simp [*] <;> fail) | assumption) [-Bool.decide_and, -Bool.decide_or, -Bool.not_and, -Bool.not_or, toNat_pred, toNat_succ, wrap64, wr_new, wr_new0, ok_if, ok_ifn, iadV_sl, makeV_int, decT, decF, *, hA.len, hA.at_, hA.at_', hA.rd, hA.rdIn, hA.rdIn0, hA.rdA, hA.rdInA, hA.rdIn0A]) | (refine Gd_split (fun hc => ?_) (fun hc => ?_) <;> (have hc2 := hc; try simp at hc2)) | (refine Br_split (fun hc => ?_) (fun hc => ?_) <;> (have hc2 := hc; try simp at hc2)) | omega)
  · refine CallT_pure (F := L34) (HasK.f34) rfl (by first | rfl | (split <;> rfl) | simp) ?_; unfold L34; dsimp only []
    repeat' (first | (simp (disch := first | omega | assumption | (simp [*] <;> fail) | assumption) [-Bool.decide_and, -Bool.decide_or, -Bool.not_and, -Bool.not_or, toNat_pred, toNat_succ, wrap64, wr_new, wr_new0, ok_if, ok_ifn, iadV_sl, makeV_int, decT, decF, *, hA.len, hA.at_, hA.at_', hA.rd, hA.rdIn, hA.rdIn0, hA.rdA, hA.rdInA, hA.rdIn0A, c_areCodes hA]) | (refine Gd_split (fun hc => ?_) (fun hc => ?_) <;> (have hc2 := hc; try simp at hc2)) | (refine Br_split (fun hc => ?_) (fun hc => ?_) <;> (have hc2 := hc; try simp at hc2)) | omega)
end
end Go.E
