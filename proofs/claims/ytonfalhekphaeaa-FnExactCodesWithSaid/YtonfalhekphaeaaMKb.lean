/- Half of the numbers of so many bits; what a float64 is as a code. -/
import Derived.Test.YtonfalhekphaeaaMP
import Derived.Test.YtonfalhekphaeaaEL
set_option linter.unusedVariables false
set_option linter.unusedSimpArgs false
namespace Go.E
open Go
def L71 : LFn := ⟨1, (.seq (.reg [⟨(.some 2), (.mv (.c (.lf (.bool false)))), none⟩])
 (.seq (.reg [⟨(.some 3), (.mv (.t 0)), none⟩, ⟨(.some 4), (.call true 73 [(.t 3), (.c (.lf (.int .i64 2))), (.c (.lf (.int .i64 16)))]), none⟩, ⟨(.some 2), (.mv (.t 4)), none⟩])
 .ret)), [(.tmp 2)]⟩
def L76 : LFn := ⟨1, (.seq (.reg [⟨(.some 2), (.mv (.c (.lf (.bool false)))), none⟩])
 (.seq (.reg [⟨(.some 3), (.mv (.t 0)), none⟩, ⟨(.some 4), (.call true 133 [(.t 3), (.c (.lf (.int .i64 2))), (.c (.lf (.int .i64 16)))]), none⟩, ⟨(.some 2), (.mv (.t 4)), none⟩])
 .ret)), [(.tmp 2)]⟩
def L74 : LFn := ⟨1, (.seq (.reg [⟨(.some 2), (.mv (.c (.lf (.int .i64 0)))), none⟩])
 (.seq (.reg [⟨(.some 3), (.mv (.t 0)), none⟩, ⟨(.some 4), (.bin .sub (.t 3) (.c (.lf (.int .i64 1)))), none⟩, ⟨(.some 5), (.toint .u64 (.t 4)), none⟩, ⟨(.some 6), (.bin .shl (.c (.lf (.int .i64 1))) (.t 5)), none⟩, ⟨(.some 2), (.mv (.t 6)), none⟩])
 .ret)), [(.tmp 2)]⟩
def L75 : LFn := ⟨2, (.seq (.reg [⟨(.some 4), (.mv (.c (.lf (.int .i64 0)))), none⟩])
 (.seq (.reg [⟨(.some 6), (.mv (.t 0)), none⟩, ⟨(.some 7), (.call true 74 [(.t 6)]), none⟩, ⟨(.some 5), (.mv (.t 7)), none⟩])
 (.seq (.seq (.reg [⟨(.some 8), (.mv (.t 1)), none⟩, ⟨(.some 9), (.mv (.t 1)), none⟩, ⟨(.some 10), (.bin .neq (.t 8) (.t 9)), none⟩])
 (.cond (.t 10) (.seq (.reg [⟨(.some 4), (.mv (.c (.lf (.int .i64 0)))), none⟩])
 .ret) .skip))
 (.seq (.seq (.reg [⟨(.some 11), (.mv (.t 1)), none⟩, ⟨(.some 12), (.mv (.t 5)), none⟩, ⟨(.some 13), (.bin .sub (.t 12) (.c (.lf (.int .i64 1)))), none⟩, ⟨(.some 14), (.toflt .f64 (.t 13)), none⟩, ⟨(.some 15), (.bin .geq (.t 11) (.t 14)), none⟩])
 (.cond (.t 15) (.seq (.reg [⟨(.some 16), (.mv (.t 5)), none⟩, ⟨(.some 17), (.bin .sub (.t 16) (.c (.lf (.int .i64 1)))), none⟩, ⟨(.some 4), (.mv (.t 17)), none⟩])
 .ret) .skip))
 (.seq (.seq (.reg [⟨(.some 18), (.mv (.t 1)), none⟩, ⟨(.some 19), (.mv (.t 5)), none⟩, ⟨(.some 20), (.una .neg (.t 19)), none⟩, ⟨(.some 21), (.toflt .f64 (.t 20)), none⟩, ⟨(.some 22), (.bin .leq (.t 18) (.t 21)), none⟩])
 (.cond (.t 22) (.seq (.reg [⟨(.some 23), (.mv (.t 5)), none⟩, ⟨(.some 24), (.una .neg (.t 23)), none⟩, ⟨(.some 4), (.mv (.t 24)), none⟩])
 .ret) .skip))
 (.seq (.reg [⟨(.some 25), (.mv (.t 1)), none⟩, ⟨(.some 26), (.xop .even [(.t 25)]), none⟩, ⟨(.some 27), (.toint .i64 (.t 26)), none⟩, ⟨(.some 4), (.mv (.t 27)), none⟩])
 .ret)))))), [(.tmp 4)]⟩
def L79 : LFn := ⟨2, (.seq (.reg [⟨(.some 4), (.mv (.c (.lf (.int .i64 0)))), none⟩])
 (.seq (.reg [⟨(.some 6), (.mv (.t 0)), none⟩, ⟨(.some 7), (.bin .sub (.t 6) (.c (.lf (.int .i64 1)))), none⟩, ⟨(.some 8), (.bin .shl (.c (.lf (.int .i64 1))) (.t 7)), none⟩, ⟨(.some 9), (.toflt .f64 (.t 8)), none⟩, ⟨(.some 5), (.mv (.t 9)), none⟩])
 (.seq (.seq (.reg [⟨(.some 10), (.mv (.t 1)), none⟩, ⟨(.some 11), (.mv (.t 1)), none⟩, ⟨(.some 12), (.bin .neq (.t 10) (.t 11)), none⟩])
 (.cond (.t 12) (.seq (.reg [⟨(.some 4), (.mv (.c (.lf (.int .i64 0)))), none⟩])
 .ret) .skip))
 (.seq (.reg [⟨(.some 13), (.mv (.t 1)), none⟩, ⟨(.some 14), (.xop .even [(.t 13)]), none⟩, ⟨(.some 15), (.mv (.t 5)), none⟩, ⟨(.some 16), (.una .neg (.t 15)), none⟩, ⟨(.some 17), (.mnmx true [(.t 14), (.t 16)]), none⟩, ⟨(.some 18), (.mv (.t 5)), none⟩, ⟨(.some 19), (.bin .sub (.t 18) (.c (.lf (.flt .f64 4607182418800017408)))), none⟩, ⟨(.some 20), (.mnmx false [(.t 17), (.t 19)]), none⟩, ⟨(.some 21), (.toint .i64 (.t 20)), none⟩, ⟨(.some 4), (.mv (.t 21)), none⟩])
 .ret)))), [(.tmp 4)]⟩
def L80 : LFn := ⟨2, (.seq (.reg [⟨(.some 4), (.mv (.c (.lf (.flt .f64 0)))), none⟩])
 (.seq (.reg [⟨(.some 5), (.mv (.t 1)), none⟩, ⟨(.some 6), (.toflt .f64 (.t 5)), none⟩, ⟨(.some 7), (.mv (.t 0)), none⟩, ⟨(.some 8), (.bin .sub (.t 7) (.c (.lf (.int .i64 1)))), none⟩, ⟨(.some 9), (.bin .shl (.c (.lf (.int .i64 1))) (.t 8)), none⟩, ⟨(.some 10), (.toflt .f64 (.t 9)), none⟩, ⟨(.some 11), (.bin .mul (.t 6) (.t 10)), none⟩, ⟨(.some 4), (.mv (.t 11)), none⟩])
 .ret)), [(.tmp 4)]⟩
class HasKb (S : Sys) : Prop extends HasA S where
  f71 : S.fs 71 = some L71
  f76 : S.fs 76 = some L76
  f74 : S.fs 74 = some L74
  f75 : S.fs 75 = some L75
  f79 : S.fs 79 = some L79
  f80 : S.fs 80 = some L80
/-- Half of the numbers of b bits. -/
def mst (b : Int) : Int := 2 ^ (b - 1).toNat
theorem bits_cases {b : Int} (h1 : 2 ≤ b) (h2 : b ≤ 16) : b = 2 ∨ b = 3 ∨ b = 4 ∨ b = 5 ∨ b = 6 ∨ b = 7 ∨ b = 8 ∨ b = 9 ∨ b = 10 ∨ b = 11 ∨ b = 12 ∨ b = 13 ∨ b = 14 ∨ b = 15 ∨ b = 16 := by omega
theorem mst_bound {b : Int} (h1 : 2 ≤ b) (h2 : b ≤ 16) : 2 ≤ mst b ∧ mst b ≤ 32768 := by
  rcases bits_cases h1 h2 with rfl | rfl | rfl | rfl | rfl | rfl | rfl | rfl | rfl | rfl | rfl | rfl | rfl | rfl | rfl <;> decide
theorem mst_neg {b : Int} (h1 : 2 ≤ b) (h2 : b ≤ 16) : fneg .f64 (fofint .f64 (mst b)) = fofint .f64 (-mst b) := by
  rcases bits_cases h1 h2 with rfl | rfl | rfl | rfl | rfl | rfl | rfl | rfl | rfl | rfl | rfl | rfl | rfl | rfl | rfl <;> decide +kernel
theorem mst_sub {b : Int} (h1 : 2 ≤ b) (h2 : b ≤ 16) : fbin .sub .f64 (fofint .f64 (mst b)) 4607182418800017408 = fofint .f64 (mst b - 1) := by
  rcases bits_cases h1 h2 with rfl | rfl | rfl | rfl | rfl | rfl | rfl | rfl | rfl | rfl | rfl | rfl | rfl | rfl | rfl <;> decide +kernel
theorem shl_mst {b : Int} {k : IntKind} (h1 : 2 ≤ b) (h2 : b ≤ 16) : binV .shl (.lf (.int .i64 1)) (.lf (.int k (b - 1))) = some (.lf (.int .i64 (mst b))) := by
  have hm := mst_bound h1 h2
  simp only [binV, isShift, if_true, ishift]
  rw [if_neg (by omega)]
  have e : min (b - 1).toNat IntKind.i64.bits = (b - 1).toNat := by
    show min (b - 1).toNat 64 = _
    omega
  have e2 : (1 : Int) * 2 ^ min (b - 1).toNat IntKind.i64.bits = mst b := by rw [e, Int.one_mul]; rfl
  rw [e2, wrap64 (by omega) (by omega)]
theorem wrapU64 {x : Int} (h1 : 0 ≤ x) (h2 : x ≤ 18446744073709551615) : IntKind.u64.wrap x = x := by
  rw [IntKind.wrap_u64]; omega
noncomputable def codeN (M : Int) (v : Nat) : Int := if isNaN .f64 v = true then 0 else if (M - 1) * U ≤ D v then M - 1 else if D v ≤ -M * U then -M else (ftoint .f64 (ftow .even v) .i64).getD 0
section
variable {M : Int} {v : Nat}
theorem sgn_le {s : Bool} {m : Nat} {n : Int} : sgn s m ≤ n * U ↔ (if s then (-n).toNat * U ≤ m ∨ 0 ≤ n else 0 ≤ n ∧ m ≤ n.toNat * U) := by
  have hU := U_pos
  unfold sgn
  by_cases h : 0 ≤ n
  · obtain ⟨k, rfl⟩ := Int.eq_ofNat_of_zero_le h
    have e : ((k : Int) * (U : Int)) = ((k * U : Nat) : Int) := by rw [Int.natCast_mul]
    cases s
    · simp only [Bool.false_eq_true, if_false, e, Int.toNat_natCast]; omega
    · simp only [if_true, e, h, or_true, iff_true]; omega
  · obtain ⟨k, hk⟩ := Int.eq_ofNat_of_zero_le (show 0 ≤ -n by omega)
    have hn : n = -(k : Int) := by omega
    subst hn
    have e : (-(k : Int) * (U : Int)) = -((k * U : Nat) : Int) := by rw [Int.neg_mul, Int.natCast_mul]
    have hk0 : 0 < k := by omega
    have hkU : 0 < k * U := Nat.mul_pos hk0 hU
    cases s
    · simp only [Bool.false_eq_true, if_false, e, h, false_and, iff_false]; omega
    · simp only [if_true, e, h, or_false, Int.neg_neg, Int.toNat_natCast]; omega
theorem le_sgn {s : Bool} {m : Nat} {n : Int} : n * U ≤ sgn s m ↔ (if s then n ≤ 0 ∧ m ≤ (-n).toNat * U else n.toNat * U ≤ m ∨ n ≤ 0) := by
  have hU := U_pos
  unfold sgn
  by_cases h : 0 < n
  · obtain ⟨k, rfl⟩ := Int.eq_ofNat_of_zero_le (show 0 ≤ n by omega)
    have e : ((k : Int) * (U : Int)) = ((k * U : Nat) : Int) := by rw [Int.natCast_mul]
    have hkU : 0 < k * U := Nat.mul_pos (by omega) hU
    cases s
    · simp only [Bool.false_eq_true, if_false, e, Int.toNat_natCast]; omega
    · simp only [if_true, e]; omega
  · obtain ⟨k, hk⟩ := Int.eq_ofNat_of_zero_le (show 0 ≤ -n by omega)
    have hn : n = -(k : Int) := by omega
    subst hn
    have e : (-(k : Int) * (U : Int)) = -((k * U : Nat) : Int) := by rw [Int.neg_mul, Int.natCast_mul]
    cases s
    · simp only [Bool.false_eq_true, if_false, e]; omega
    · simp only [if_true, e, Int.neg_neg, Int.toNat_natCast]; omega
theorem even_le {n : Int} (hv : CD v) (hn : isNaN .f64 v = false) : (D v ≤ n * U → D (ftow .even v) ≤ n * U) ∧ (n * U ≤ D v → n * U ≤ D (ftow .even v)) ∧ isNaN .f64 (ftow .even v) = false := by
  obtain ⟨d1, d2, d3, d4⟩ := consts64
  obtain ⟨r, h1, h2, h3, h4, h5⟩ := even_word hv.1 hn
  have hD : D v = sgn (negOf Ieee.double v) (magOf Ieee.double (v % Ieee.double.signWeight)) := rfl
  rw [h2, D_word h1, hD]
  refine ⟨fun h => ?_, fun h => ?_, double_read_nan h1⟩
  · rw [sgn_le] at h ⊢
    generalize negOf Ieee.double v = s at h ⊢
    cases s
    · simp only [Bool.false_eq_true, if_false] at h ⊢
      exact ⟨h.1, h4 _ h.2⟩
    · simp only [if_true] at h ⊢
      rcases h with h | h
      · exact .inl (h3 _ h)
      · exact .inr h
  · rw [le_sgn] at h ⊢
    generalize negOf Ieee.double v = s at h ⊢
    cases s
    · simp only [Bool.false_eq_true, if_false] at h ⊢
      rcases h with h | h
      · exact .inl (h3 _ h)
      · exact .inr h
    · simp only [if_true] at h ⊢
      exact ⟨h.1, h4 _ h.2⟩
theorem even_mid (hM : 2 ≤ M ∧ M ≤ 32768) (hv : CD v) (hn : isNaN .f64 v = false) (h1 : D v ≤ (M - 1) * U) (h2 : -M * U ≤ D v) : ∃ n, ftoint .f64 (ftow .even v) .i64 = some n ∧ D (ftow .even v) = n * U := by
  obtain ⟨d1, d2, d3, d4⟩ := consts64
  obtain ⟨e1, e2, e3⟩ := even_le (n := M - 1) hv hn
  obtain ⟨f1, f2, f3⟩ := even_le (n := -M) hv hn
  have g1 := e1 h1
  have g2 := f2 h2
  obtain ⟨r, k1, k2, k3, k4, k5⟩ := even_word hv.1 hn
  rw [k2, D_word k1] at g1 g2
  rw [k2, D_word k1]
  have hU := U_pos
  have hb : magOf Ieee.double r ≤ 32768 * U := by
    rw [sgn_le] at g1
    rw [le_sgn] at g2
    cases hs : negOf Ieee.double v
    · rw [hs] at g1; simp only [Bool.false_eq_true, if_false] at g1
      have : (M - 1).toNat * U ≤ 32768 * U := Nat.mul_le_mul_right _ (by omega)
      omega
    · rw [hs] at g2; simp only [if_true] at g2
      have : (- -M).toNat * U ≤ 32768 * U := Nat.mul_le_mul_right _ (by omega)
      omega
  have hr : r < Ieee.double.infRung := by
    obtain ⟨q, hq1, hq2⟩ := rung_of (m := 32768) (by decide)
    by_cases hc : r < Ieee.double.infRung
    · exact hc
    · have : magOf Ieee.double q < magOf Ieee.double r := magOf_lt (by omega)
      omega
  obtain ⟨N, hN⟩ := k5 hr
  rw [hN] at hb
  have hN2 := Nat.le_of_mul_le_mul_right hb hU
  refine ⟨sgn (negOf Ieee.double v) N, toint_word hr hN (by omega), ?_⟩
  rw [hN]; exact sgn_mul
theorem neg_of_D {x : Nat} (hn : isNaN .f64 x = false) : (D x < 0 → (FloatKind.f64.decode x).neg = true) ∧ (0 < D x → (FloatKind.f64.decode x).neg = false) := by
  have hD : D x = sgn (negOf Ieee.double x) (magOf Ieee.double (x % Ieee.double.signWeight)) := rfl
  have hneg : (FloatKind.f64.decode x).neg = negOf Ieee.double x := by
    rcases read_cases Ieee.double double_ok x hn with ⟨_, m, e, h2, _⟩ | ⟨_, h2⟩
    · have h2' : FloatKind.f64.decode x = .number (negOf Ieee.double x) m (Ieee.double.leastPlace + (e : Int)) := h2
      rw [h2']; rfl
    · have h2' : FloatKind.f64.decode x = .infinity (negOf Ieee.double x) := h2
      rw [h2']; rfl
  rw [hneg, hD]
  unfold sgn
  cases negOf Ieee.double x
  · simp only [Bool.false_eq_true, if_false]; exact ⟨fun h => by omega, fun _ => trivial⟩
  · simp only [if_true]; exact ⟨fun _ => trivial, fun h => by omega⟩
theorem mx64 {x y : Nat} (hx : isNaN .f64 x = false) (hy : isNaN .f64 y = false) : (D y < D x → mnmx2 true (.lf (.flt .f64 x)) (.lf (.flt .f64 y)) = some (.lf (.flt .f64 x))) ∧ (D x < D y → mnmx2 true (.lf (.flt .f64 x)) (.lf (.flt .f64 y)) = some (.lf (.flt .f64 y))) ∧ (D x = D y → D x < 0 → mnmx2 true (.lf (.flt .f64 x)) (.lf (.flt .f64 y)) = some (.lf (.flt .f64 y))) := by
  have ho := order64 hx hy
  refine ⟨fun h => ?_, fun h => ?_, fun h h0 => ?_⟩
  · have e : compare (D x) (D y) = .gt := Int.compare_eq_gt.2 h
    rw [e] at ho; unfold mnmx2; simp [ho]
  · have e : compare (D x) (D y) = .lt := Int.compare_eq_lt.2 h
    rw [e] at ho; unfold mnmx2; simp [ho]
  · have e : compare (D x) (D y) = .eq := Int.compare_eq_eq.2 h
    rw [e] at ho; unfold mnmx2; simp [ho, (neg_of_D hx).1 h0]
theorem mn64 {x y : Nat} (hx : isNaN .f64 x = false) (hy : isNaN .f64 y = false) : (D x < D y → mnmx2 false (.lf (.flt .f64 x)) (.lf (.flt .f64 y)) = some (.lf (.flt .f64 x))) ∧ (D y < D x → mnmx2 false (.lf (.flt .f64 x)) (.lf (.flt .f64 y)) = some (.lf (.flt .f64 y))) ∧ (D x = D y → 0 < D x → mnmx2 false (.lf (.flt .f64 x)) (.lf (.flt .f64 y)) = some (.lf (.flt .f64 y))) := by
  have ho := order64 hx hy
  refine ⟨fun h => ?_, fun h => ?_, fun h h0 => ?_⟩
  · have e : compare (D x) (D y) = .lt := Int.compare_eq_lt.2 h
    rw [e] at ho; unfold mnmx2; simp [ho]
  · have e : compare (D x) (D y) = .gt := Int.compare_eq_gt.2 h
    rw [e] at ho; unfold mnmx2; simp [ho]
  · have e : compare (D x) (D y) = .eq := Int.compare_eq_eq.2 h
    rw [e] at ho; unfold mnmx2; simp [ho, (neg_of_D hx).2 h0]
/-- A float64 made whole and put between the ends. -/
theorem clip (hM : 2 ≤ M ∧ M ≤ 32768) (hv : CD v) (hn : isNaN .f64 v = false) : ∃ p q, mnmx2 true (.lf (.flt .f64 (ftow .even v))) (.lf (.flt .f64 (fofint .f64 (-M)))) = some (.lf (.flt .f64 p)) ∧ mnmx2 false (.lf (.flt .f64 p)) (.lf (.flt .f64 (fofint .f64 (M - 1)))) = some (.lf (.flt .f64 q)) ∧ ftoint .f64 q .i64 = some (codeN M v) := by
  have hU := U_pos
  have n1 := fofint_not_nan .f64 (-M)
  have n2 := fofint_not_nan .f64 (M - 1)
  have D1 : D (fofint .f64 (-M)) = -M * U := D_int (by omega)
  have D2 : D (fofint .f64 (M - 1)) = (M - 1) * U := D_int (by omega)
  have T1 : ftoint .f64 (fofint .f64 (-M)) .i64 = some (-M) := toint_int (by omega)
  have T2 : ftoint .f64 (fofint .f64 (M - 1)) .i64 = some (M - 1) := toint_int (by omega)
  obtain ⟨e1, e2, e3⟩ := even_le (n := M - 1) hv hn
  obtain ⟨f1, f2, _⟩ := even_le (n := -M) hv hn
  have hlt : -M * (U : Int) < (M - 1) * U := Int.mul_lt_mul_of_pos_right (by omega) (by omega)
  have hpos : 0 < (M - 1) * (U : Int) := Int.mul_pos (by omega) (by omega)
  have hneg : -M * (U : Int) < 0 := by
    have : 0 < M * (U : Int) := Int.mul_pos (by omega) (by omega)
    rw [Int.neg_mul]; omega
  obtain ⟨x1, x2, x3⟩ := mx64 e3 n1
  have mm := mn64 n1 n2
  obtain ⟨y1, y2, y3⟩ := mn64 e3 n2
  unfold codeN
  rw [hn]
  simp only [Bool.false_eq_true, if_false]
  rw [D1] at x1 x2 x3 mm
  rw [D2] at y1 y2 y3 mm
  by_cases h1 : (M - 1) * (U : Int) ≤ D v
  · rw [if_pos h1]
    have g := e2 h1
    refine ⟨_, _, x1 (by omega), ?_, T2⟩
    by_cases h2 : (M - 1) * (U : Int) < D (ftow .even v)
    · exact y2 h2
    · exact y3 (by omega) (by omega)
  · rw [if_neg h1]
    by_cases h2 : D v ≤ -M * (U : Int)
    · rw [if_pos h2]
      have g := f1 h2
      refine ⟨_, _, ?_, mm.1 hlt, T1⟩
      by_cases h3 : D (ftow .even v) < -M * (U : Int)
      · exact x2 h3
      · exact x3 (by omega) (by omega)
    · rw [if_neg h2]
      have g1 := e1 (by omega)
      have g2 := f2 (by omega)
      obtain ⟨n, hn1, hn2⟩ := even_mid hM hv hn (by omega) (by omega)
      rw [hn1]
      simp only [Option.getD_some]
      by_cases h3 : D (ftow .even v) = -M * (U : Int)
      · have en : n = -M := by
          rw [hn2] at h3
          exact Int.eq_of_mul_eq_mul_right (by omega) h3
        subst en
        exact ⟨_, _, x3 h3 (by omega), mm.1 hlt, T1⟩
      · refine ⟨ftow .even v, ?_⟩
        by_cases h4 : D (ftow .even v) = (M - 1) * (U : Int)
        · have en : n = M - 1 := by
            rw [hn2] at h4
            exact Int.eq_of_mul_eq_mul_right (by omega) h4
          subst en
          exact ⟨_, x1 (by omega), y3 h4 (by omega), T2⟩
        · exact ⟨ftow .even v, x1 (by omega), y1 (by omega), hn1⟩
end
section
variable {S : Sys} {lim : Nat} {h : Hp} {K : CV → Hp → Prop} [HasKb S]
@[simp] theorem c_l06Bits {x : Int} : CallT S true 71 [.lf (.int .i64 x)] h lim K = K (.lf (.bool (decide (2 ≤ x ∧ x ≤ 16)))) h := by
  refine CallT_pure (F := L71) (HasKb.f71) rfl (by first | rfl | (split <;> rfl) | simp) ?_; unfold L71; dsimp only []
  repeat' (first | (simp (disch := first | omega | assumption | (simp only [List.length_set]; omega) | (simp [*] <;> fail) | assumption) [-Bool.decide_and, -Bool.decide_or, -Bool.not_and, -Bool.not_or, toNat_pred, toNat_succ, wrap64, wr_new, wr_new0, ok_if, ok_ifn, iadV_sl, makeV_int, decT, decF, over_at, *]) | (with_reducible refine Gd_split (fun hc => ?_) (fun hc => ?_) <;> (have hc2 := hc; try simp at hc2)) | (with_reducible refine Br_split (fun hc => ?_) (fun hc => ?_) <;> (have hc2 := hc; try simp at hc2)) | (with_reducible refine GdT_split (fun hc => ?_) (fun hc => ?_) <;> (have hc2 := hc; try simp at hc2)) | (with_reducible refine WT_alt ?_ ?_) | omega)
@[simp] theorem c_isBits {x : Int} : CallT S true 76 [.lf (.int .i64 x)] h lim K = K (.lf (.bool (decide (2 ≤ x ∧ x ≤ 16)))) h := by
  refine CallT_pure (F := L76) (HasKb.f76) rfl (by first | rfl | (split <;> rfl) | simp) ?_; unfold L76; dsimp only []
  repeat' (first | (simp (disch := first | omega | assumption | (simp only [List.length_set]; omega) | (simp [*] <;> fail) | assumption) [-Bool.decide_and, -Bool.decide_or, -Bool.not_and, -Bool.not_or, toNat_pred, toNat_succ, wrap64, wr_new, wr_new0, ok_if, ok_ifn, iadV_sl, makeV_int, decT, decF, over_at, *]) | (with_reducible refine Gd_split (fun hc => ?_) (fun hc => ?_) <;> (have hc2 := hc; try simp at hc2)) | (with_reducible refine Br_split (fun hc => ?_) (fun hc => ?_) <;> (have hc2 := hc; try simp at hc2)) | (with_reducible refine GdT_split (fun hc => ?_) (fun hc => ?_) <;> (have hc2 := hc; try simp at hc2)) | (with_reducible refine WT_alt ?_ ?_) | omega)
theorem c_l06Most {b : Int} (h1 : 2 ≤ b) (h2 : b ≤ 16) : CallT S true 74 [.lf (.int .i64 b)] h lim K = K (.lf (.int .i64 (mst b))) h := by
  refine CallT_pure (F := L74) (HasKb.f74) rfl (by first | rfl | (split <;> rfl) | simp) ?_; unfold L74; dsimp only []
  repeat' (first | (simp (disch := first | omega | assumption | (simp only [List.length_set]; omega) | (simp [*] <;> fail) | assumption) [-Bool.decide_and, -Bool.decide_or, -Bool.not_and, -Bool.not_or, toNat_pred, toNat_succ, wrap64, wr_new, wr_new0, ok_if, ok_ifn, iadV_sl, makeV_int, decT, decF, over_at, *, wrapU64, shl_mst]) | (with_reducible refine Gd_split (fun hc => ?_) (fun hc => ?_) <;> (have hc2 := hc; try simp at hc2)) | (with_reducible refine Br_split (fun hc => ?_) (fun hc => ?_) <;> (have hc2 := hc; try simp at hc2)) | (with_reducible refine GdT_split (fun hc => ?_) (fun hc => ?_) <;> (have hc2 := hc; try simp at hc2)) | (with_reducible refine WT_alt ?_ ?_) | omega)
theorem c_raised {b : Int} {x : Nat} (h1 : 2 ≤ b) (h2 : b ≤ 16) : CallT S true 80 [.lf (.int .i64 b), .lf (.flt .f32 x)] h lim K = K (.lf (.flt .f64 (fbin .mul .f64 (wid x) (fofint .f64 (mst b))))) h := by
  refine CallT_pure (F := L80) (HasKb.f80) rfl (by first | rfl | (split <;> rfl) | simp) ?_; unfold L80; dsimp only []
  repeat' (first | (simp (disch := first | omega | assumption | (simp only [List.length_set]; omega) | (simp [*] <;> fail) | assumption) [-Bool.decide_and, -Bool.decide_or, -Bool.not_and, -Bool.not_or, toNat_pred, toNat_succ, wrap64, wr_new, wr_new0, ok_if, ok_ifn, iadV_sl, makeV_int, decT, decF, over_at, *, shl_mst h1 h2]) | (with_reducible refine Gd_split (fun hc => ?_) (fun hc => ?_) <;> (have hc2 := hc; try simp at hc2)) | (with_reducible refine Br_split (fun hc => ?_) (fun hc => ?_) <;> (have hc2 := hc; try simp at hc2)) | (with_reducible refine GdT_split (fun hc => ?_) (fun hc => ?_) <;> (have hc2 := hc; try simp at hc2)) | (with_reducible refine WT_alt ?_ ?_) | omega)
theorem c_l06Code {b : Int} {v : Nat} (h1 : 2 ≤ b) (h2 : b ≤ 16) (hv : CD v) : CallT S true 75 [.lf (.int .i64 b), .lf (.flt .f64 v)] h lim K = K (.lf (.int .i64 (codeN (mst b) v))) h := by
  have hm := mst_bound h1 h2
  refine CallT_pure (F := L75) (HasKb.f75) rfl (by first | rfl | (split <;> rfl) | simp) ?_; unfold L75; dsimp only []
  unfold codeN
  cases hn : isNaN .f64 v
  · have q1 := fcmp_self hn
    have D1 : D (fofint .f64 (-mst b)) = -mst b * U := D_int (by omega)
    have D2 : D (fofint .f64 (mst b - 1)) = (mst b - 1) * U := D_int (by omega)
    have c1 := geq64 hn (fofint_not_nan .f64 (mst b - 1))
    have c2 := leq64 hn (fofint_not_nan .f64 (-mst b))
    rw [D2] at c1
    rw [D1] at c2
    by_cases g1 : (mst b - 1) * (U : Int) ≤ D v
    · repeat' (first | (simp (disch := first | omega | assumption | (simp only [List.length_set]; omega) | (simp [*] <;> fail) | assumption) [-Bool.decide_and, -Bool.decide_or, -Bool.not_and, -Bool.not_or, toNat_pred, toNat_succ, wrap64, wr_new, wr_new0, ok_if, ok_ifn, iadV_sl, makeV_int, decT, decF, over_at, *, c_l06Most h1 h2, fcmp_neq]) | (with_reducible refine Gd_split (fun hc => ?_) (fun hc => ?_) <;> (have hc2 := hc; try simp at hc2)) | (with_reducible refine Br_split (fun hc => ?_) (fun hc => ?_) <;> (have hc2 := hc; try simp at hc2)) | (with_reducible refine GdT_split (fun hc => ?_) (fun hc => ?_) <;> (have hc2 := hc; try simp at hc2)) | (with_reducible refine WT_alt ?_ ?_) | omega)
    · by_cases g2 : D v ≤ -mst b * (U : Int)
      · repeat' (first | (simp (disch := first | omega | assumption | (simp only [List.length_set]; omega) | (simp [*] <;> fail) | assumption) [-Bool.decide_and, -Bool.decide_or, -Bool.not_and, -Bool.not_or, toNat_pred, toNat_succ, wrap64, wr_new, wr_new0, ok_if, ok_ifn, iadV_sl, makeV_int, decT, decF, over_at, *, c_l06Most h1 h2, fcmp_neq]) | (with_reducible refine Gd_split (fun hc => ?_) (fun hc => ?_) <;> (have hc2 := hc; try simp at hc2)) | (with_reducible refine Br_split (fun hc => ?_) (fun hc => ?_) <;> (have hc2 := hc; try simp at hc2)) | (with_reducible refine GdT_split (fun hc => ?_) (fun hc => ?_) <;> (have hc2 := hc; try simp at hc2)) | (with_reducible refine WT_alt ?_ ?_) | omega)
      · obtain ⟨n, e1, _⟩ := even_mid hm hv hn (by omega) (by omega)
        have x0 : xopV .even [.lf (.flt .f64 v)] = some (.lf (.flt .f64 (ftow .even v))) := rfl
        repeat' (first | (simp (disch := first | omega | assumption | (simp only [List.length_set]; omega) | (simp [*] <;> fail) | assumption) [-Bool.decide_and, -Bool.decide_or, -Bool.not_and, -Bool.not_or, toNat_pred, toNat_succ, wrap64, wr_new, wr_new0, ok_if, ok_ifn, iadV_sl, makeV_int, decT, decF, over_at, *, c_l06Most h1 h2, fcmp_neq]) | (with_reducible refine Gd_split (fun hc => ?_) (fun hc => ?_) <;> (have hc2 := hc; try simp at hc2)) | (with_reducible refine Br_split (fun hc => ?_) (fun hc => ?_) <;> (have hc2 := hc; try simp at hc2)) | (with_reducible refine GdT_split (fun hc => ?_) (fun hc => ?_) <;> (have hc2 := hc; try simp at hc2)) | (with_reducible refine WT_alt ?_ ?_) | omega)
  · have q1 := fcmp_self_nan hn
    repeat' (first | (simp (disch := first | omega | assumption | (simp only [List.length_set]; omega) | (simp [*] <;> fail) | assumption) [-Bool.decide_and, -Bool.decide_or, -Bool.not_and, -Bool.not_or, toNat_pred, toNat_succ, wrap64, wr_new, wr_new0, ok_if, ok_ifn, iadV_sl, makeV_int, decT, decF, over_at, *, c_l06Most h1 h2, fcmp_neq]) | (with_reducible refine Gd_split (fun hc => ?_) (fun hc => ?_) <;> (have hc2 := hc; try simp at hc2)) | (with_reducible refine Br_split (fun hc => ?_) (fun hc => ?_) <;> (have hc2 := hc; try simp at hc2)) | (with_reducible refine GdT_split (fun hc => ?_) (fun hc => ?_) <;> (have hc2 := hc; try simp at hc2)) | (with_reducible refine WT_alt ?_ ?_) | omega)
theorem c_codeOf {b : Int} {v : Nat} (h1 : 2 ≤ b) (h2 : b ≤ 16) (hv : CD v) : CallT S true 79 [.lf (.int .i64 b), .lf (.flt .f64 v)] h lim K = K (.lf (.int .i64 (codeN (mst b) v))) h := by
  have hm := mst_bound h1 h2
  have hng := mst_neg h1 h2
  have hsb := mst_sub h1 h2
  refine CallT_pure (F := L79) (HasKb.f79) rfl (by first | rfl | (split <;> rfl) | simp) ?_; unfold L79; dsimp only []
  cases hn : isNaN .f64 v
  · have q1 := fcmp_self hn
    obtain ⟨p, q, m1, m2, m3⟩ := clip hm hv hn
    have x0 : xopV .even [.lf (.flt .f64 v)] = some (.lf (.flt .f64 (ftow .even v))) := rfl
    have n1 : mnmxV true [.lf (.flt .f64 (ftow .even v)), .lf (.flt .f64 (fofint .f64 (-mst b)))] = some (.lf (.flt .f64 p)) := by unfold mnmxV; simp [m1]
    have n2 : mnmxV false [.lf (.flt .f64 p), .lf (.flt .f64 (fofint .f64 (mst b - 1)))] = some (.lf (.flt .f64 q)) := by unfold mnmxV; simp [m2]
    repeat' (first | (simp (disch := first | omega | assumption | (simp only [List.length_set]; omega) | (simp [*] <;> fail) | assumption) [-Bool.decide_and, -Bool.decide_or, -Bool.not_and, -Bool.not_or, toNat_pred, toNat_succ, wrap64, wr_new, wr_new0, ok_if, ok_ifn, iadV_sl, makeV_int, decT, decF, over_at, *, shl_mst h1 h2, fcmp_neq]) | (with_reducible refine Gd_split (fun hc => ?_) (fun hc => ?_) <;> (have hc2 := hc; try simp at hc2)) | (with_reducible refine Br_split (fun hc => ?_) (fun hc => ?_) <;> (have hc2 := hc; try simp at hc2)) | (with_reducible refine GdT_split (fun hc => ?_) (fun hc => ?_) <;> (have hc2 := hc; try simp at hc2)) | (with_reducible refine WT_alt ?_ ?_) | omega)
  · have q1 := fcmp_self_nan hn
    have q2 : codeN (mst b) v = 0 := by unfold codeN; rw [hn]; rfl
    repeat' (first | (simp (disch := first | omega | assumption | (simp only [List.length_set]; omega) | (simp [*] <;> fail) | assumption) [-Bool.decide_and, -Bool.decide_or, -Bool.not_and, -Bool.not_or, toNat_pred, toNat_succ, wrap64, wr_new, wr_new0, ok_if, ok_ifn, iadV_sl, makeV_int, decT, decF, over_at, *, shl_mst h1 h2, fcmp_neq]) | (with_reducible refine Gd_split (fun hc => ?_) (fun hc => ?_) <;> (have hc2 := hc; try simp at hc2)) | (with_reducible refine Br_split (fun hc => ?_) (fun hc => ?_) <;> (have hc2 := hc; try simp at hc2)) | (with_reducible refine GdT_split (fun hc => ?_) (fun hc => ?_) <;> (have hc2 := hc; try simp at hc2)) | (with_reducible refine WT_alt ?_ ?_) | omega)
end
end Go.E
