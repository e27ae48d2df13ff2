/- The sine of turns, both sides. -/
import Derived.Test.YtkabbddhdnddoaaMFl
import Derived.Test.YtkabbddhdnddoaaMH
import Derived.Test.YtkabbddhdnddoaaEO
set_option linter.unusedVariables false
set_option linter.unusedSimpArgs false
set_option exponentiation.threshold 3000
namespace Go.E
open Go
def L54 : LFn := ⟨0, (.seq (.reg [⟨(.some 0), (.mv (.c (.lf (.flt .f64 0)))), none⟩])
 (.seq (.reg [⟨(.some 1), (.xop .from64 [(.c (.lf (.int .u64 9221120237041090561)))]), none⟩, ⟨(.some 0), (.mv (.t 1)), none⟩])
 .ret)), [(.tmp 0)]⟩
def L62 : LFn := ⟨1, (.seq (.reg [⟨(.some 2), (.mv (.c (.lf (.flt .f64 0)))), none⟩])
 (.seq (.cond (.c (.lf (.bool true))) (.seq (.reg [⟨(.some 3), (.mv (.t 0)), none⟩, ⟨(.some 4), (.xop .trunc [(.t 3)]), none⟩, ⟨(.some 2), (.mv (.t 4)), none⟩])
 .ret) .skip)
 (.seq (.reg [⟨(.some 5), (.mv (.t 0)), none⟩, ⟨(.some 6), (.call true 64 [(.t 5)]), none⟩, ⟨(.some 2), (.mv (.t 6)), none⟩])
 .ret))), [(.tmp 2)]⟩
def L53 : LFn := ⟨1, (.seq (.reg [⟨(.some 2), (.mv (.c (.lf (.bool false)))), none⟩])
 (.seq (.reg [⟨(.some 3), (.mv (.t 0)), none⟩, ⟨(.some 4), (.mv (.t 0)), none⟩, ⟨(.some 5), (.bin .sub (.t 3) (.t 4)), none⟩, ⟨(.some 6), (.bin .eql (.t 5) (.c (.lf (.flt .f64 0)))), none⟩, ⟨(.some 2), (.mv (.t 6)), none⟩])
 .ret)), [(.tmp 2)]⟩
def L55 : LFn := ⟨1, (.seq (.reg [⟨(.some 2), (.mv (.c (.lf (.bool false)))), none⟩])
 (.seq (.reg [⟨(.some 3), (.mv (.t 0)), none⟩, ⟨(.some 4), (.call true 57 [(.t 3)]), none⟩, ⟨(.some 5), (.bin .geq (.t 4) (.c (.lf (.flt .f64 4841369599423283200)))), none⟩, ⟨(.some 2), (.mv (.t 5)), none⟩])
 .ret)), [(.tmp 2)]⟩
def L60 : LFn := ⟨1, (.seq (.reg [⟨(.some 2), (.mv (.c (.lf (.flt .f64 0)))), none⟩])
 (.seq (.reg [⟨(.some 5), (.mv (.t 0)), none⟩, ⟨(.some 6), (.call true 62 [(.t 5)]), none⟩, ⟨(.some 3), (.mv (.t 6)), none⟩])
 (.seq (.seq (.reg [⟨(.some 7), (.mv (.t 3)), none⟩, ⟨(.some 8), (.bin .eql (.t 7) (.c (.lf (.flt .f64 0)))), none⟩])
 (.cond (.t 8) (.reg [⟨(.some 3), (.mv (.c (.lf (.flt .f64 0)))), none⟩]) .skip))
 (.seq (.reg [⟨(.some 9), (.mv (.t 0)), none⟩, ⟨(.some 10), (.mv (.t 3)), none⟩, ⟨(.some 11), (.bin .sub (.t 9) (.t 10)), none⟩, ⟨(.some 4), (.mv (.t 11)), none⟩])
 (.seq (.seq (.reg [⟨(.some 12), (.mv (.t 4)), none⟩, ⟨(.some 13), (.bin .lss (.t 12) (.c (.lf (.flt .f64 0)))), none⟩])
 (.cond (.t 13) (.reg [⟨(.some 14), (.mv (.t 4)), none⟩, ⟨(.some 15), (.bin .add (.t 14) (.c (.lf (.flt .f64 4607182418800017408)))), none⟩, ⟨(.some 4), (.mv (.t 15)), none⟩]) .skip))
 (.seq (.reg [⟨(.some 16), (.mv (.t 4)), none⟩, ⟨(.some 2), (.mv (.t 16)), none⟩])
 .ret)))))), [(.tmp 2)]⟩
def L56 : LFn := ⟨1, (.seq (.reg [⟨(.some 2), (.mv (.c (.lf (.flt .f64 0)))), none⟩])
 (.seq (.reg [⟨(.some 9), (.mv (.t 0)), none⟩, ⟨(.some 10), (.call true 60 [(.t 9)]), none⟩, ⟨(.some 3), (.mv (.t 10)), none⟩])
 (.seq (.reg [⟨(.some 11), (.mv (.t 3)), none⟩, ⟨(.some 12), (.bin .geq (.t 11) (.c (.lf (.flt .f64 4602678819172646912)))), none⟩, ⟨(.some 4), (.mv (.t 12)), none⟩])
 (.seq (.seq (.reg [⟨(.some 13), (.mv (.t 4)), none⟩])
 (.cond (.t 13) (.reg [⟨(.some 14), (.mv (.t 3)), none⟩, ⟨(.some 15), (.bin .sub (.t 14) (.c (.lf (.flt .f64 4602678819172646912)))), none⟩, ⟨(.some 3), (.mv (.t 15)), none⟩]) .skip))
 (.seq (.seq (.reg [⟨(.some 16), (.mv (.t 3)), none⟩, ⟨(.some 17), (.bin .gtr (.t 16) (.c (.lf (.flt .f64 4598175219545276416)))), none⟩])
 (.cond (.t 17) (.reg [⟨(.some 18), (.mv (.t 3)), none⟩, ⟨(.some 19), (.bin .sub (.c (.lf (.flt .f64 4602678819172646912))) (.t 18)), none⟩, ⟨(.some 3), (.mv (.t 19)), none⟩]) .skip))
 (.seq (.reg [⟨(.some 20), (.mv (.t 3)), none⟩, ⟨(.some 21), (.bin .mul (.t 20) (.c (.lf (.flt .f64 4618760256179416344)))), none⟩, ⟨(.some 5), (.mv (.t 21)), none⟩])
 (.seq (.reg [⟨(.some 22), (.mv (.t 5)), none⟩, ⟨(.some 23), (.mv (.t 5)), none⟩, ⟨(.some 24), (.bin .mul (.t 22) (.t 23)), none⟩, ⟨(.some 6), (.mv (.t 24)), none⟩])
 (.seq (.reg [⟨(.some 7), (.mv (.c (.lf (.flt .f64 4607182418800017408)))), none⟩])
 (.seq (.seq (.reg [⟨(.some 8), (.mv (.c (.lf (.flt .f64 4620693217682128896)))), none⟩])
 (.block 0 (.loop (.seq (.seq (.reg [⟨(.some 25), (.mv (.t 8)), none⟩, ⟨(.some 26), (.bin .geq (.t 25) (.c (.lf (.flt .f64 4607182418800017408)))), none⟩])
 (.cond (.t 26) .skip (.exit 0)))
 (.seq (.block 1 (.reg [⟨(.some 29), (.mv (.t 6)), none⟩, ⟨(.some 30), (.mv (.t 7)), none⟩, ⟨(.some 31), (.bin .mul (.t 29) (.t 30)), none⟩, ⟨(.some 32), (.mv (.t 8)), none⟩, ⟨(.some 33), (.bin .mul (.c (.lf (.flt .f64 4611686018427387904))) (.t 32)), none⟩, ⟨(.some 34), (.mv (.t 8)), none⟩, ⟨(.some 35), (.bin .mul (.c (.lf (.flt .f64 4611686018427387904))) (.t 34)), none⟩, ⟨(.some 36), (.bin .add (.t 35) (.c (.lf (.flt .f64 4607182418800017408)))), none⟩, ⟨(.some 37), (.bin .mul (.t 33) (.t 36)), none⟩, ⟨(.some 38), (.bin .quo (.t 31) (.t 37)), none⟩, ⟨(.some 39), (.bin .sub (.c (.lf (.flt .f64 4607182418800017408))) (.t 38)), none⟩, ⟨(.some 7), (.mv (.t 39)), none⟩]))
 (.reg [⟨(.some 27), (.mv (.t 8)), none⟩, ⟨(.some 28), (.bin .sub (.t 27) (.c (.lf (.flt .f64 4607182418800017408)))), none⟩, ⟨(.some 8), (.mv (.t 28)), none⟩]))))))
 (.seq (.seq (.reg [⟨(.some 40), (.mv (.t 4)), none⟩])
 (.cond (.t 40) (.seq (.reg [⟨(.some 41), (.mv (.t 5)), none⟩, ⟨(.some 42), (.mv (.t 7)), none⟩, ⟨(.some 43), (.bin .mul (.t 41) (.t 42)), none⟩, ⟨(.some 44), (.una .neg (.t 43)), none⟩, ⟨(.some 2), (.mv (.t 44)), none⟩])
 .ret) .skip))
 (.seq (.reg [⟨(.some 45), (.mv (.t 5)), none⟩, ⟨(.some 46), (.mv (.t 7)), none⟩, ⟨(.some 47), (.bin .mul (.t 45) (.t 46)), none⟩, ⟨(.some 2), (.mv (.t 47)), none⟩])
 .ret))))))))))), [(.tmp 2)]⟩
def L47 : LFn := ⟨1, (.seq (.reg [⟨(.some 2), (.mv (.c (.lf (.flt .f32 0)))), none⟩])
 (.seq (.reg [⟨(.some 4), (.mv (.t 0)), none⟩, ⟨(.some 5), (.toflt .f64 (.t 4)), none⟩, ⟨(.some 3), (.mv (.t 5)), none⟩])
 (.seq (.block 0 (.seq (.reg [⟨(.some 7), (.mv (.t 3)), none⟩, ⟨(.some 8), (.call true 53 [(.t 7)]), none⟩, ⟨(.some 9), (.una .not (.t 8)), none⟩, ⟨(.some 6), (.mv (.t 9)), none⟩])
 (.cond (.t 6) (.seq (.reg [⟨(.some 10), (.call true 54 []), none⟩, ⟨(.some 11), (.toflt .f32 (.t 10)), none⟩, ⟨(.some 2), (.mv (.t 11)), none⟩])
 .ret) (.seq (.reg [⟨(.some 13), (.mv (.t 3)), none⟩, ⟨(.some 14), (.call true 55 [(.t 13)]), none⟩, ⟨(.some 12), (.mv (.t 14)), none⟩])
 (.cond (.t 12) (.seq (.reg [⟨(.some 2), (.mv (.c (.lf (.flt .f32 0)))), none⟩])
 .ret) .skip)))))
 (.seq (.reg [⟨(.some 15), (.mv (.t 3)), none⟩, ⟨(.some 16), (.call true 56 [(.t 15)]), none⟩, ⟨(.some 17), (.toflt .f32 (.t 16)), none⟩, ⟨(.some 2), (.mv (.t 17)), none⟩])
 .ret)))), [(.tmp 2)]⟩
class HasSi (S : Sys) : Prop extends HasFa S where
  f54 : S.fs 54 = some L54
  f62 : S.fs 62 = some L62
  f53 : S.fs 53 = some L53
  f55 : S.fs 55 = some L55
  f60 : S.fs 60 = some L60
  f56 : S.fs 56 = some L56
  f47 : S.fs 47 = some L47
def bigD : Nat := 4841369599423283200
def negBigD : Nat := 14064741636278059008
theorem D_big : D bigD = 4503599627370496 * U := by rw [show bigD = fofint .f64 4503599627370496 by decide +kernel, D_int (by decide)]
theorem D_negBig : D negBigD = -4503599627370496 * U := by rw [show negBigD = fofint .f64 (-4503599627370496) by decide +kernel, D_int (by decide)]
theorem big_not : isNaN .f64 bigD = false ∧ isNaN .f64 negBigD = false := by constructor <;> decide +kernel
theorem fin_of {x : Nat} (h : fcmp .eql .f64 (fbin .sub .f64 x x) 0 = true) : isNaN .f64 x = false ∧ x % Ieee.double.signWeight < Ieee.double.infRung := by
  cases hn : isNaN .f64 x
  · refine ⟨rfl, ?_⟩
    rcases read_cases Ieee.double double_ok x hn with ⟨q, _⟩ | ⟨_, q⟩
    · exact q
    · exfalso
      have q' : FloatKind.f64.decode x = .infinity (negOf Ieee.double x) := q
      have hs : fbin .sub .f64 x x = nanOf .f64 := by
        show (Option.map Ieee.double.write ((FloatKind.f64.decode x).sum (FloatKind.f64.decode x).opposite)).getD _ = _
        rw [q']
        cases negOf Ieee.double x <;> rfl
      rw [hs] at h
      have : fcmp .eql .f64 (nanOf .f64) 0 = false := by decide +kernel
      rw [this] at h; cases h
  · exfalso
    have hs : fbin .sub .f64 x x = nanOf .f64 := by unfold fbin; rw [bits_nan_left hn]; rfl
    rw [hs] at h
    have : fcmp .eql .f64 (nanOf .f64) 0 = false := by decide +kernel
    rw [this] at h; cases h
def farB (x : Nat) : Bool := fcmp .geq .f64 x bigD || fcmp .leq .f64 x negBigD
theorem far_abs {x : Nat} (hx : x < 18446744073709551616) (hn : isNaN .f64 x = false) : fcmp .geq .f64 (fabs64 x) bigD = farB x ∧ (farB x = false → magOf Ieee.double (x % Ieee.double.signWeight) ≤ 4503599627370496 * U) := by
  have hU := U_pos
  have hf : fabs64 x = x % 9223372036854775808 := by unfold fabs64; rw [hn]; rfl
  have hfn : isNaN .f64 (fabs64 x) = false := by rw [hf, isNaN64, Nat.mod_mod]; rw [isNaN64] at hn; exact hn
  have hDf : D (fabs64 x) = magOf Ieee.double (x % Ieee.double.signWeight) := by rw [hf, D_pos (Nat.mod_lt _ (by decide)), sw64]
  have hD : D x = sgn (negOf Ieee.double x) (magOf Ieee.double (x % Ieee.double.signWeight)) := rfl
  unfold farB
  rw [geq64 hfn big_not.1, geq64 hn big_not.1, leq64 hn big_not.2, D_big, D_negBig, hDf, hD]
  generalize magOf Ieee.double (x % Ieee.double.signWeight) = mg
  have e : (4503599627370496 * (U : Int)) = ((4503599627370496 * U : Nat) : Int) := by omega
  have e2 : (-4503599627370496 * (U : Int)) = -((4503599627370496 * U : Nat) : Int) := by omega
  rw [e, e2]
  have hpos : 0 < 4503599627370496 * U := by omega
  generalize 4503599627370496 * U = B at hpos
  unfold sgn
  cases negOf Ieee.double x
  · simp only [Bool.false_eq_true, if_false]
    refine ⟨?_, fun h => ?_⟩
    · rw [← Bool.decide_or]; congr 1; apply propext; omega
    · simp only [Bool.or_eq_false_iff, decide_eq_false_iff_not] at h; omega
  · simp only [if_true]
    refine ⟨?_, fun h => ?_⟩
    · rw [← Bool.decide_or]; congr 1; apply propext; omega
    · simp only [Bool.or_eq_false_iff, decide_eq_false_iff_not] at h; omega
def wholeI (x : Nat) : Int := (ftoint .f64 x .i64).getD 0
def sineR (x : Nat) : Nat := restD x (wholeI x)
def sineW (x : Nat) : Nat := if fcmp .eql .f64 (fbin .sub .f64 x x) 0 = true then (if farB x = true then 0 else if fcmp .geq .f64 (sineR x) halfD = true then fneg .f64 (valD (sineR x)) else valD (sineR x)) else nanOf .f64
theorem near_facts {x : Nat} (hx : x < 18446744073709551616) (hf : fcmp .eql .f64 (fbin .sub .f64 x x) 0 = true) (hfar : farB x = false) : ftoint .f64 x .i64 = some (wholeI x) ∧ Ld (sineR x) 1074 ∧ ((fcmp .eql .f64 (ftow .zero x) 0 = true ∧ wholeI x = 0) ∨ (fcmp .eql .f64 (ftow .zero x) 0 = false ∧ ftow .zero x = fofint .f64 (wholeI x))) := by
  obtain ⟨hn, hfin⟩ := fin_of hf
  obtain ⟨N, m, e, g1, g2, g3, g4, g5, g6, g7⟩ := trunc_int hx hn ((far_abs hx hn).2 hfar) (Nat.le_refl _)
  have hU := U_pos
  have hw : wholeI x = sgn (negOf Ieee.double x) N := by unfold wholeI; rw [g2]; rfl
  have hD : D x = sgn (negOf Ieee.double x) (magOf Ieee.double (x % Ieee.double.signWeight)) := rfl
  obtain ⟨m', e', q1, q2, q3⟩ := read_num hfin
  have hme : magOf Ieee.double (x % Ieee.double.signWeight) = m * 2 ^ e := by
    rw [g5] at q1
    injection q1 with _ a1 a2
    have : e = e' := by omega
    rw [q2, a1, this]
  rw [hw]
  have hab : (sgn (negOf Ieee.double x) N).natAbs = N := by unfold sgn; split <;> omega
  have h0n : isNaN .f64 0 = false := by decide +kernel
  have hD0 : D 0 = 0 := by show valOf Ieee.double 0 = 0; decide +kernel
  refine ⟨g2, ?_, ?_⟩
  · unfold sineR
    rw [hw]
    refine rest_Ld (Prt_of hfin) (by rw [hab]; omega) ?_
    rw [hD, hme, ← sgn_mul]
    rw [Nat.add_mul, Nat.one_mul] at g7
    clear hme q2 q3 q1 g5 hD hw hab g1 g2 g3 g4 hfin hfar hx
    generalize m * 2 ^ e = M at g6 g7 ⊢
    generalize N * U = NU at g6 g7 ⊢
    generalize negOf Ieee.double x = ng
    unfold sgn
    cases ng
    · simp only [Bool.false_eq_true, if_false]; omega
    · simp only [if_true]; omega
  · by_cases h0 : N = 0
    · left
      obtain ⟨d1, d2, d3, d4⟩ := consts64
      rw [g4 h0]
      refine ⟨?_, by rw [h0]; unfold sgn; split <;> rfl⟩
      rw [eql64 (double_read_nan (by omega)) h0n, D_word (by omega), hD0, magOf_zero]
      unfold sgn; split <;> rfl
    · right
      rw [g3 h0]
      refine ⟨?_, rfl⟩
      rw [eql64 (fofint_not_nan _ _) h0n, D_int (by rw [hab]; omega), hD0, decide_eq_false_iff_not]
      intro q
      rcases Int.mul_eq_zero.1 q with q | q
      · rw [q] at hab; simp at hab; omega
      · omega
theorem pN_succ {q i : Nat} : pN q (i + 1) = fbin .sub .f64 oneD (fbin .quo .f64 (fbin .mul .f64 q (pN q i)) (fofint .f64 (dvN (8 - (i : Int))))) := rfl
section
variable {S : Sys} {lim : Nat} {h : Hp} {K : CV → Hp → Prop} [HasSi S]
theorem c_NaN : CallT S true 54 [] h lim K = K (.lf (.flt .f64 (nanOf .f64))) h := by
  have x0 : xopV .from64 [.lf (.int .u64 9221120237041090561)] = some (.lf (.flt .f64 (nanOf .f64))) := by
    have e : can .f64 9221120237041090561 = nanOf .f64 := by decide +kernel
    have e2 : (9221120237041090561 : Int).toNat = 9221120237041090561 := by decide +kernel
    simp only [xopV, xFrom64]
    rw [if_pos (by decide +kernel), e2, e]
  refine CallT_pure (F := L54) (HasSi.f54) rfl (by first | rfl | (split <;> rfl) | simp) ?_; unfold L54; dsimp only []
  repeat' (first | (simp (disch := first | omega | assumption | (simp only [List.length_set]; omega) | (simp [*] <;> fail) | assumption) [-Bool.decide_and, -Bool.decide_or, -Bool.not_and, -Bool.not_or, toNat_pred, toNat_succ, wrap64, wr_new, wr_new0, ok_if, ok_ifn, iadV_sl, makeV_int, decT, decF, over_at, *]) | (with_reducible refine Gd_split (fun hc => ?_) (fun hc => ?_) <;> (have hc2 := hc; try simp at hc2)) | (with_reducible refine Br_split (fun hc => ?_) (fun hc => ?_) <;> (have hc2 := hc; try simp at hc2)) | (with_reducible refine GdT_split (fun hc => ?_) (fun hc => ?_) <;> (have hc2 := hc; try simp at hc2)) | (with_reducible refine WT_alt ?_ ?_) | omega)
theorem c_Trunc {x : Nat} : CallT S true 62 [.lf (.flt .f64 x)] h lim K = K (.lf (.flt .f64 (ftow .zero x))) h := by
  have x0 : xopV .trunc [.lf (.flt .f64 x)] = some (.lf (.flt .f64 (ftow .zero x))) := rfl
  refine CallT_pure (F := L62) (HasSi.f62) rfl (by first | rfl | (split <;> rfl) | simp) ?_; unfold L62; dsimp only []
  repeat' (first | (simp (disch := first | omega | assumption | (simp only [List.length_set]; omega) | (simp [*] <;> fail) | assumption) [-Bool.decide_and, -Bool.decide_or, -Bool.not_and, -Bool.not_or, toNat_pred, toNat_succ, wrap64, wr_new, wr_new0, ok_if, ok_ifn, iadV_sl, makeV_int, decT, decF, over_at, *]) | (with_reducible refine Gd_split (fun hc => ?_) (fun hc => ?_) <;> (have hc2 := hc; try simp at hc2)) | (with_reducible refine Br_split (fun hc => ?_) (fun hc => ?_) <;> (have hc2 := hc; try simp at hc2)) | (with_reducible refine GdT_split (fun hc => ?_) (fun hc => ?_) <;> (have hc2 := hc; try simp at hc2)) | (with_reducible refine WT_alt ?_ ?_) | omega)
theorem c_isFinite {x : Nat} : CallT S true 53 [.lf (.flt .f64 x)] h lim K = K (.lf (.bool (fcmp .eql .f64 (fbin .sub .f64 x x) 0))) h := by
  refine CallT_pure (F := L53) (HasSi.f53) rfl (by first | rfl | (split <;> rfl) | simp) ?_; unfold L53; dsimp only []
  repeat' (first | (simp (disch := first | omega | assumption | (simp only [List.length_set]; omega) | (simp [*] <;> fail) | assumption) [-Bool.decide_and, -Bool.decide_or, -Bool.not_and, -Bool.not_or, toNat_pred, toNat_succ, wrap64, wr_new, wr_new0, ok_if, ok_ifn, iadV_sl, makeV_int, decT, decF, over_at, *]) | (with_reducible refine Gd_split (fun hc => ?_) (fun hc => ?_) <;> (have hc2 := hc; try simp at hc2)) | (with_reducible refine Br_split (fun hc => ?_) (fun hc => ?_) <;> (have hc2 := hc; try simp at hc2)) | (with_reducible refine GdT_split (fun hc => ?_) (fun hc => ?_) <;> (have hc2 := hc; try simp at hc2)) | (with_reducible refine WT_alt ?_ ?_) | omega)
theorem c_isFar {x : Nat} (hx : x < 18446744073709551616) (hn : isNaN .f64 x = false) : CallT S true 55 [.lf (.flt .f64 x)] h lim K = K (.lf (.bool (farB x))) h := by
  have e := (far_abs hx hn).1
  unfold bigD at e
  refine CallT_pure (F := L55) (HasSi.f55) rfl (by first | rfl | (split <;> rfl) | simp) ?_; unfold L55; dsimp only []
  repeat' (first | (simp (disch := first | omega | assumption | (simp only [List.length_set]; omega) | (simp [*] <;> fail) | assumption) [-Bool.decide_and, -Bool.decide_or, -Bool.not_and, -Bool.not_or, toNat_pred, toNat_succ, wrap64, wr_new, wr_new0, ok_if, ok_ifn, iadV_sl, makeV_int, decT, decF, over_at, *, c_Abs hx]) | (with_reducible refine Gd_split (fun hc => ?_) (fun hc => ?_) <;> (have hc2 := hc; try simp at hc2)) | (with_reducible refine Br_split (fun hc => ?_) (fun hc => ?_) <;> (have hc2 := hc; try simp at hc2)) | (with_reducible refine GdT_split (fun hc => ?_) (fun hc => ?_) <;> (have hc2 := hc; try simp at hc2)) | (with_reducible refine WT_alt ?_ ?_) | omega)
theorem c_rest {x : Nat} (hx : x < 18446744073709551616) (hf : fcmp .eql .f64 (fbin .sub .f64 x x) 0 = true) (hfar : farB x = false) : CallT S true 60 [.lf (.flt .f64 x)] h lim K = K (.lf (.flt .f64 (sineR x))) h := by
  obtain ⟨g1, g2, g3⟩ := near_facts hx hf hfar
  have hz : fofint .f64 0 = 0 := by decide +kernel
  unfold sineR restD oneD
  clear g1 g2 hf hfar
  rcases g3 with ⟨w1, w2⟩ | ⟨w1, w2⟩
  · rw [w2, hz]
    refine CallT_pure (F := L60) (HasSi.f60) rfl (by first | rfl | (split <;> rfl) | simp) ?_; unfold L60; dsimp only []
    repeat' (first | (simp (disch := first | omega | assumption | (simp only [List.length_set]; omega) | (simp [*] <;> fail) | assumption) [-Bool.decide_and, -Bool.decide_or, -Bool.not_and, -Bool.not_or, toNat_pred, toNat_succ, wrap64, wr_new, wr_new0, ok_if, ok_ifn, iadV_sl, makeV_int, decT, decF, over_at, *, c_Trunc]) | (with_reducible refine Gd_split (fun hc => ?_) (fun hc => ?_) <;> (have hc2 := hc; try simp at hc2)) | (with_reducible refine Br_split (fun hc => ?_) (fun hc => ?_) <;> (have hc2 := hc; try simp at hc2)) | (with_reducible refine GdT_split (fun hc => ?_) (fun hc => ?_) <;> (have hc2 := hc; try simp at hc2)) | (with_reducible refine WT_alt ?_ ?_) | omega)
  · rw [w2] at w1
    generalize fofint .f64 (wholeI x) = n at *
    refine CallT_pure (F := L60) (HasSi.f60) rfl (by first | rfl | (split <;> rfl) | simp) ?_; unfold L60; dsimp only []
    repeat' (first | (simp (disch := first | omega | assumption | (simp only [List.length_set]; omega) | (simp [*] <;> fail) | assumption) [-Bool.decide_and, -Bool.decide_or, -Bool.not_and, -Bool.not_or, toNat_pred, toNat_succ, wrap64, wr_new, wr_new0, ok_if, ok_ifn, iadV_sl, makeV_int, decT, decF, over_at, *, c_Trunc]) | (with_reducible refine Gd_split (fun hc => ?_) (fun hc => ?_) <;> (have hc2 := hc; try simp at hc2)) | (with_reducible refine Br_split (fun hc => ?_) (fun hc => ?_) <;> (have hc2 := hc; try simp at hc2)) | (with_reducible refine GdT_split (fun hc => ?_) (fun hc => ?_) <;> (have hc2 := hc; try simp at hc2)) | (with_reducible refine WT_alt ?_ ?_) | omega)
set_option maxRecDepth 20000 in
set_option maxHeartbeats 2000000 in
theorem c_sine {x : Nat} (hx : x < 18446744073709551616) (hf : fcmp .eql .f64 (fbin .sub .f64 x x) 0 = true) (hfar : farB x = false) : CallT S true 56 [.lf (.flt .f64 x)] h lim K = K (.lf (.flt .f64 (if fcmp .geq .f64 (sineR x) halfD = true then fneg .f64 (valD (sineR x)) else valD (sineR x)))) h := by
  have cr := fun h K lim => c_rest (S := S) (h := h) (K := K) (lim := lim) hx hf hfar
  generalize sineR x = r at *
  clear hf hfar
  obtain ⟨q, hq⟩ : ∃ q, q = fbin .mul .f64 (fbin .mul .f64 (foldZ (foldY r)) tpiD) (fbin .mul .f64 (foldZ (foldY r)) tpiD) := ⟨_, rfl⟩
  have hv : valD r = fbin .mul .f64 (fbin .mul .f64 (foldZ (foldY r)) tpiD) (pN q 8) := by rw [hq]; rfl
  rw [hv]
  have hz8 : fofint .f64 8 = 4620693217682128896 := by decide +kernel
  cases w1 : fcmp .geq .f64 r halfD
  · have hy : foldY r = r := by unfold foldY; rw [w1]; rfl
    rw [hy] at hq ⊢
    clear hv hy
    cases w2 : fcmp .gtr .f64 r qtrD
    · have hzz : foldZ r = r := by unfold foldZ; rw [w2]; rfl
      rw [hzz] at hq ⊢
      clear hzz
      unfold halfD at w1
      unfold qtrD at w2
      unfold tpiD at hq ⊢
      subst hq
      refine CallT_pure (F := L56) (HasSi.f56) rfl (by first | rfl | (split <;> rfl) | simp) ?_; unfold L56; dsimp only []
      repeat' (first | (simp (disch := first | omega | assumption | (simp only [List.length_set]; omega) | (simp [*] <;> fail) | assumption) [-Bool.decide_and, -Bool.decide_or, -Bool.not_and, -Bool.not_or, toNat_pred, toNat_succ, wrap64, wr_new, wr_new0, ok_if, ok_ifn, iadV_sl, makeV_int, decT, decF, over_at, *]) | (with_reducible refine Gd_split (fun hc => ?_) (fun hc => ?_) <;> (have hc2 := hc; try simp at hc2)) | (with_reducible refine Br_split (fun hc => ?_) (fun hc => ?_) <;> (have hc2 := hc; try simp at hc2)) | (with_reducible refine GdT_split (fun hc => ?_) (fun hc => ?_) <;> (have hc2 := hc; try simp at hc2)) | (with_reducible refine WT_alt ?_ ?_) | omega)
      refine WL_forM 1099478073728 (by decide +kernel) (8) (fun i b g => i ≤ 8 ∧ b 8 = .lf (.flt .f64 (fofint .f64 (8 - i))) ∧ b 7 = .lf (.flt .f64 (pN (fbin .mul .f64 (fbin .mul .f64 r 4618760256179416344) (fbin .mul .f64 r 4618760256179416344)) i)) ∧ h = g) (fun _ _ _ hi => hi.1) ⟨by simp, by simp [hz8], by simp [pN, oneD], rfl⟩ ?_
      rintro i b g ⟨hi, e8, e7, rfl⟩
      by_cases hlt : i < 8
      · obtain ⟨t1, t2, t3⟩ := term_consts hlt
        have sp := pN_succ (q := (fbin .mul .f64 (fbin .mul .f64 r 4618760256179416344) (fbin .mul .f64 r 4618760256179416344))) (i := i)
        unfold oneD twoD at *
        repeat' (first | (simp (disch := first | omega | assumption | (simp only [List.length_set]; omega) | (simp [*] <;> fail) | assumption) [-Bool.decide_and, -Bool.decide_or, -Bool.not_and, -Bool.not_or, toNat_pred, toNat_succ, wrap64, wr_new, wr_new0, ok_if, ok_ifn, iadV_sl, makeV_int, decT, decF, over_at, *]) | (with_reducible refine Gd_split (fun hc => ?_) (fun hc => ?_) <;> (have hc2 := hc; try simp at hc2)) | (with_reducible refine Br_split (fun hc => ?_) (fun hc => ?_) <;> (have hc2 := hc; try simp at hc2)) | (with_reducible refine GdT_split (fun hc => ?_) (fun hc => ?_) <;> (have hc2 := hc; try simp at hc2)) | (with_reducible refine WT_alt ?_ ?_) | omega)
        exact ⟨by omega, by congr 1; omega⟩
      · have : i = 8 := by omega
        subst this
        have lc := last_const
        unfold oneD at lc
        repeat' (first | (simp (disch := first | omega | assumption | (simp only [List.length_set]; omega) | (simp [*] <;> fail) | assumption) [-Bool.decide_and, -Bool.decide_or, -Bool.not_and, -Bool.not_or, toNat_pred, toNat_succ, wrap64, wr_new, wr_new0, ok_if, ok_ifn, iadV_sl, makeV_int, decT, decF, over_at, *]) | (with_reducible refine Gd_split (fun hc => ?_) (fun hc => ?_) <;> (have hc2 := hc; try simp at hc2)) | (with_reducible refine Br_split (fun hc => ?_) (fun hc => ?_) <;> (have hc2 := hc; try simp at hc2)) | (with_reducible refine GdT_split (fun hc => ?_) (fun hc => ?_) <;> (have hc2 := hc; try simp at hc2)) | (with_reducible refine WT_alt ?_ ?_) | omega)
    · have hzz : foldZ r = fbin .sub .f64 halfD r := by unfold foldZ; rw [w2]; rfl
      rw [hzz] at hq ⊢
      clear hzz
      unfold halfD at w1 hq ⊢
      unfold qtrD at w2
      unfold tpiD at hq ⊢
      subst hq
      refine CallT_pure (F := L56) (HasSi.f56) rfl (by first | rfl | (split <;> rfl) | simp) ?_; unfold L56; dsimp only []
      repeat' (first | (simp (disch := first | omega | assumption | (simp only [List.length_set]; omega) | (simp [*] <;> fail) | assumption) [-Bool.decide_and, -Bool.decide_or, -Bool.not_and, -Bool.not_or, toNat_pred, toNat_succ, wrap64, wr_new, wr_new0, ok_if, ok_ifn, iadV_sl, makeV_int, decT, decF, over_at, *]) | (with_reducible refine Gd_split (fun hc => ?_) (fun hc => ?_) <;> (have hc2 := hc; try simp at hc2)) | (with_reducible refine Br_split (fun hc => ?_) (fun hc => ?_) <;> (have hc2 := hc; try simp at hc2)) | (with_reducible refine GdT_split (fun hc => ?_) (fun hc => ?_) <;> (have hc2 := hc; try simp at hc2)) | (with_reducible refine WT_alt ?_ ?_) | omega)
      refine WL_forM 1099478073728 (by decide +kernel) (8) (fun i b g => i ≤ 8 ∧ b 8 = .lf (.flt .f64 (fofint .f64 (8 - i))) ∧ b 7 = .lf (.flt .f64 (pN (fbin .mul .f64 (fbin .mul .f64 (fbin .sub .f64 4602678819172646912 r) 4618760256179416344) (fbin .mul .f64 (fbin .sub .f64 4602678819172646912 r) 4618760256179416344)) i)) ∧ h = g) (fun _ _ _ hi => hi.1) ⟨by simp, by simp [hz8], by simp [pN, oneD], rfl⟩ ?_
      rintro i b g ⟨hi, e8, e7, rfl⟩
      by_cases hlt : i < 8
      · obtain ⟨t1, t2, t3⟩ := term_consts hlt
        have sp := pN_succ (q := (fbin .mul .f64 (fbin .mul .f64 (fbin .sub .f64 4602678819172646912 r) 4618760256179416344) (fbin .mul .f64 (fbin .sub .f64 4602678819172646912 r) 4618760256179416344))) (i := i)
        unfold oneD twoD at *
        repeat' (first | (simp (disch := first | omega | assumption | (simp only [List.length_set]; omega) | (simp [*] <;> fail) | assumption) [-Bool.decide_and, -Bool.decide_or, -Bool.not_and, -Bool.not_or, toNat_pred, toNat_succ, wrap64, wr_new, wr_new0, ok_if, ok_ifn, iadV_sl, makeV_int, decT, decF, over_at, *]) | (with_reducible refine Gd_split (fun hc => ?_) (fun hc => ?_) <;> (have hc2 := hc; try simp at hc2)) | (with_reducible refine Br_split (fun hc => ?_) (fun hc => ?_) <;> (have hc2 := hc; try simp at hc2)) | (with_reducible refine GdT_split (fun hc => ?_) (fun hc => ?_) <;> (have hc2 := hc; try simp at hc2)) | (with_reducible refine WT_alt ?_ ?_) | omega)
        exact ⟨by omega, by congr 1; omega⟩
      · have : i = 8 := by omega
        subst this
        have lc := last_const
        unfold oneD at lc
        repeat' (first | (simp (disch := first | omega | assumption | (simp only [List.length_set]; omega) | (simp [*] <;> fail) | assumption) [-Bool.decide_and, -Bool.decide_or, -Bool.not_and, -Bool.not_or, toNat_pred, toNat_succ, wrap64, wr_new, wr_new0, ok_if, ok_ifn, iadV_sl, makeV_int, decT, decF, over_at, *]) | (with_reducible refine Gd_split (fun hc => ?_) (fun hc => ?_) <;> (have hc2 := hc; try simp at hc2)) | (with_reducible refine Br_split (fun hc => ?_) (fun hc => ?_) <;> (have hc2 := hc; try simp at hc2)) | (with_reducible refine GdT_split (fun hc => ?_) (fun hc => ?_) <;> (have hc2 := hc; try simp at hc2)) | (with_reducible refine WT_alt ?_ ?_) | omega)
  · have hy : foldY r = fbin .sub .f64 r halfD := by unfold foldY; rw [w1]; rfl
    rw [hy] at hq ⊢
    clear hv hy
    cases w2 : fcmp .gtr .f64 (fbin .sub .f64 r halfD) qtrD
    · have hzz : foldZ (fbin .sub .f64 r halfD) = fbin .sub .f64 r halfD := by unfold foldZ; rw [w2]; rfl
      rw [hzz] at hq ⊢
      clear hzz
      unfold halfD at w1 w2 hq ⊢
      unfold qtrD at w2
      unfold tpiD at hq ⊢
      subst hq
      refine CallT_pure (F := L56) (HasSi.f56) rfl (by first | rfl | (split <;> rfl) | simp) ?_; unfold L56; dsimp only []
      repeat' (first | (simp (disch := first | omega | assumption | (simp only [List.length_set]; omega) | (simp [*] <;> fail) | assumption) [-Bool.decide_and, -Bool.decide_or, -Bool.not_and, -Bool.not_or, toNat_pred, toNat_succ, wrap64, wr_new, wr_new0, ok_if, ok_ifn, iadV_sl, makeV_int, decT, decF, over_at, *]) | (with_reducible refine Gd_split (fun hc => ?_) (fun hc => ?_) <;> (have hc2 := hc; try simp at hc2)) | (with_reducible refine Br_split (fun hc => ?_) (fun hc => ?_) <;> (have hc2 := hc; try simp at hc2)) | (with_reducible refine GdT_split (fun hc => ?_) (fun hc => ?_) <;> (have hc2 := hc; try simp at hc2)) | (with_reducible refine WT_alt ?_ ?_) | omega)
      refine WL_forM 1099478073728 (by decide +kernel) (8) (fun i b g => i ≤ 8 ∧ b 8 = .lf (.flt .f64 (fofint .f64 (8 - i))) ∧ b 7 = .lf (.flt .f64 (pN (fbin .mul .f64 (fbin .mul .f64 (fbin .sub .f64 r 4602678819172646912) 4618760256179416344) (fbin .mul .f64 (fbin .sub .f64 r 4602678819172646912) 4618760256179416344)) i)) ∧ h = g) (fun _ _ _ hi => hi.1) ⟨by simp, by simp [hz8], by simp [pN, oneD], rfl⟩ ?_
      rintro i b g ⟨hi, e8, e7, rfl⟩
      by_cases hlt : i < 8
      · obtain ⟨t1, t2, t3⟩ := term_consts hlt
        have sp := pN_succ (q := (fbin .mul .f64 (fbin .mul .f64 (fbin .sub .f64 r 4602678819172646912) 4618760256179416344) (fbin .mul .f64 (fbin .sub .f64 r 4602678819172646912) 4618760256179416344))) (i := i)
        unfold oneD twoD at *
        repeat' (first | (simp (disch := first | omega | assumption | (simp only [List.length_set]; omega) | (simp [*] <;> fail) | assumption) [-Bool.decide_and, -Bool.decide_or, -Bool.not_and, -Bool.not_or, toNat_pred, toNat_succ, wrap64, wr_new, wr_new0, ok_if, ok_ifn, iadV_sl, makeV_int, decT, decF, over_at, *]) | (with_reducible refine Gd_split (fun hc => ?_) (fun hc => ?_) <;> (have hc2 := hc; try simp at hc2)) | (with_reducible refine Br_split (fun hc => ?_) (fun hc => ?_) <;> (have hc2 := hc; try simp at hc2)) | (with_reducible refine GdT_split (fun hc => ?_) (fun hc => ?_) <;> (have hc2 := hc; try simp at hc2)) | (with_reducible refine WT_alt ?_ ?_) | omega)
        exact ⟨by omega, by congr 1; omega⟩
      · have : i = 8 := by omega
        subst this
        have lc := last_const
        unfold oneD at lc
        repeat' (first | (simp (disch := first | omega | assumption | (simp only [List.length_set]; omega) | (simp [*] <;> fail) | assumption) [-Bool.decide_and, -Bool.decide_or, -Bool.not_and, -Bool.not_or, toNat_pred, toNat_succ, wrap64, wr_new, wr_new0, ok_if, ok_ifn, iadV_sl, makeV_int, decT, decF, over_at, *]) | (with_reducible refine Gd_split (fun hc => ?_) (fun hc => ?_) <;> (have hc2 := hc; try simp at hc2)) | (with_reducible refine Br_split (fun hc => ?_) (fun hc => ?_) <;> (have hc2 := hc; try simp at hc2)) | (with_reducible refine GdT_split (fun hc => ?_) (fun hc => ?_) <;> (have hc2 := hc; try simp at hc2)) | (with_reducible refine WT_alt ?_ ?_) | omega)
    · have hzz : foldZ (fbin .sub .f64 r halfD) = fbin .sub .f64 halfD (fbin .sub .f64 r halfD) := by unfold foldZ; rw [w2]; rfl
      rw [hzz] at hq ⊢
      clear hzz
      unfold halfD at w1 w2 hq ⊢
      unfold qtrD at w2
      unfold tpiD at hq ⊢
      subst hq
      refine CallT_pure (F := L56) (HasSi.f56) rfl (by first | rfl | (split <;> rfl) | simp) ?_; unfold L56; dsimp only []
      repeat' (first | (simp (disch := first | omega | assumption | (simp only [List.length_set]; omega) | (simp [*] <;> fail) | assumption) [-Bool.decide_and, -Bool.decide_or, -Bool.not_and, -Bool.not_or, toNat_pred, toNat_succ, wrap64, wr_new, wr_new0, ok_if, ok_ifn, iadV_sl, makeV_int, decT, decF, over_at, *]) | (with_reducible refine Gd_split (fun hc => ?_) (fun hc => ?_) <;> (have hc2 := hc; try simp at hc2)) | (with_reducible refine Br_split (fun hc => ?_) (fun hc => ?_) <;> (have hc2 := hc; try simp at hc2)) | (with_reducible refine GdT_split (fun hc => ?_) (fun hc => ?_) <;> (have hc2 := hc; try simp at hc2)) | (with_reducible refine WT_alt ?_ ?_) | omega)
      refine WL_forM 1099478073728 (by decide +kernel) (8) (fun i b g => i ≤ 8 ∧ b 8 = .lf (.flt .f64 (fofint .f64 (8 - i))) ∧ b 7 = .lf (.flt .f64 (pN (fbin .mul .f64 (fbin .mul .f64 (fbin .sub .f64 4602678819172646912 (fbin .sub .f64 r 4602678819172646912)) 4618760256179416344) (fbin .mul .f64 (fbin .sub .f64 4602678819172646912 (fbin .sub .f64 r 4602678819172646912)) 4618760256179416344)) i)) ∧ h = g) (fun _ _ _ hi => hi.1) ⟨by simp, by simp [hz8], by simp [pN, oneD], rfl⟩ ?_
      rintro i b g ⟨hi, e8, e7, rfl⟩
      by_cases hlt : i < 8
      · obtain ⟨t1, t2, t3⟩ := term_consts hlt
        have sp := pN_succ (q := (fbin .mul .f64 (fbin .mul .f64 (fbin .sub .f64 4602678819172646912 (fbin .sub .f64 r 4602678819172646912)) 4618760256179416344) (fbin .mul .f64 (fbin .sub .f64 4602678819172646912 (fbin .sub .f64 r 4602678819172646912)) 4618760256179416344))) (i := i)
        unfold oneD twoD at *
        repeat' (first | (simp (disch := first | omega | assumption | (simp only [List.length_set]; omega) | (simp [*] <;> fail) | assumption) [-Bool.decide_and, -Bool.decide_or, -Bool.not_and, -Bool.not_or, toNat_pred, toNat_succ, wrap64, wr_new, wr_new0, ok_if, ok_ifn, iadV_sl, makeV_int, decT, decF, over_at, *]) | (with_reducible refine Gd_split (fun hc => ?_) (fun hc => ?_) <;> (have hc2 := hc; try simp at hc2)) | (with_reducible refine Br_split (fun hc => ?_) (fun hc => ?_) <;> (have hc2 := hc; try simp at hc2)) | (with_reducible refine GdT_split (fun hc => ?_) (fun hc => ?_) <;> (have hc2 := hc; try simp at hc2)) | (with_reducible refine WT_alt ?_ ?_) | omega)
        exact ⟨by omega, by congr 1; omega⟩
      · have : i = 8 := by omega
        subst this
        have lc := last_const
        unfold oneD at lc
        repeat' (first | (simp (disch := first | omega | assumption | (simp only [List.length_set]; omega) | (simp [*] <;> fail) | assumption) [-Bool.decide_and, -Bool.decide_or, -Bool.not_and, -Bool.not_or, toNat_pred, toNat_succ, wrap64, wr_new, wr_new0, ok_if, ok_ifn, iadV_sl, makeV_int, decT, decF, over_at, *]) | (with_reducible refine Gd_split (fun hc => ?_) (fun hc => ?_) <;> (have hc2 := hc; try simp at hc2)) | (with_reducible refine Br_split (fun hc => ?_) (fun hc => ?_) <;> (have hc2 := hc; try simp at hc2)) | (with_reducible refine GdT_split (fun hc => ?_) (fun hc => ?_) <;> (have hc2 := hc; try simp at hc2)) | (with_reducible refine WT_alt ?_ ?_) | omega)
end
end Go.E
