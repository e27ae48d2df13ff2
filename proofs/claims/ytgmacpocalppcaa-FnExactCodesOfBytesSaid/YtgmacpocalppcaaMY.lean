/- Codes of bytes, and bytes of codes. -/
import Derived.Test.YtgmacpocalppcaaMK
import Derived.Test.YtgmacpocalppcaaEG
set_option linter.unusedVariables false
set_option linter.unusedSimpArgs false
namespace Go.E
open Go
def L19 : LFn := ⟨1, (.seq (.reg [⟨(.some 2), (.mv (.c (.lf .nils))), none⟩, ⟨(.some 3), (.mv (.c (.lf (.bool false)))), none⟩])
 (.seq (.seq (.reg [⟨(.some 7), (.mv (.t 0)), none⟩, ⟨(.some 8), (.slen (.t 7)), none⟩, ⟨(.some 9), (.bin .rem (.t 8) (.c (.lf (.int .i64 2)))), none⟩, ⟨(.some 10), (.bin .neq (.t 9) (.c (.lf (.int .i64 0)))), none⟩, ⟨(.some 11), (.mv (.t 10)), none⟩, ⟨(.some 12), (.mv (.t 0)), (.some (11, false))⟩, ⟨(.some 13), (.slen (.t 12)), (.some (11, false))⟩, ⟨(.some 14), (.bin .gtr (.t 13) (.c (.lf (.int .i64 512)))), (.some (11, false))⟩, ⟨(.some 15), (.pick (.t 11) (.c (.lf (.bool true))) (.t 14)), none⟩])
 (.cond (.t 15) (.seq (.reg [⟨(.some 2), (.mv (.c (.lf .nils))), none⟩, ⟨(.some 3), (.mv (.c (.lf (.bool false)))), none⟩])
 .ret) .skip))
 (.seq (.reg [⟨(.some 16), (.lit 2 1 0 [] []), none⟩, ⟨(.some 4), (.mv (.t 16)), none⟩])
 (.seq (.seq (.reg [⟨(.some 5), (.mv (.c (.lf (.int .i64 0)))), none⟩])
 (.block 0 (.loop (.seq (.seq (.reg [⟨(.some 17), (.mv (.t 5)), none⟩, ⟨(.some 18), (.mv (.t 0)), none⟩, ⟨(.some 19), (.slen (.t 18)), none⟩, ⟨(.some 20), (.bin .lss (.t 17) (.t 19)), none⟩])
 (.cond (.t 20) .skip (.exit 0)))
 (.seq (.block 1 (.seq (.reg [⟨(.some 23), (.mv (.t 0)), none⟩, ⟨(.some 24), (.mv (.t 5)), none⟩, ⟨(.some 25), (.idx (.t 23) (.t 24)), none⟩, ⟨(.some 26), (.toint .i64 (.t 25)), none⟩, ⟨(.some 27), (.mv (.t 0)), none⟩, ⟨(.some 28), (.mv (.t 5)), none⟩, ⟨(.some 29), (.bin .add (.t 28) (.c (.lf (.int .i64 1)))), none⟩, ⟨(.some 30), (.idx (.t 27) (.t 29)), none⟩, ⟨(.some 31), (.toint .i64 (.t 30)), none⟩, ⟨(.some 32), (.bin .mul (.c (.lf (.int .i64 256))) (.t 31)), none⟩, ⟨(.some 33), (.bin .add (.t 26) (.t 32)), none⟩, ⟨(.some 6), (.mv (.t 33)), none⟩])
 (.seq (.seq (.reg [⟨(.some 34), (.mv (.t 6)), none⟩, ⟨(.some 35), (.bin .geq (.t 34) (.c (.lf (.int .i64 32768)))), none⟩])
 (.cond (.t 35) (.reg [⟨(.some 36), (.mv (.t 6)), none⟩, ⟨(.some 37), (.bin .sub (.t 36) (.c (.lf (.int .i64 65536)))), none⟩, ⟨(.some 6), (.mv (.t 37)), none⟩]) .skip))
 (.reg [⟨(.some 38), (.mv (.t 4)), none⟩, ⟨(.some 39), (.mv (.t 6)), none⟩, ⟨(.some 40), (.lit 2 1 1 [(.int .i64 0)] [(0, (1, (.t 39)))]), none⟩, ⟨(.some 41), (.app 2 1 8 (.t 38) (.t 40)), none⟩, ⟨(.some 4), (.mv (.t 41)), none⟩]))))
 (.reg [⟨(.some 21), (.mv (.t 5)), none⟩, ⟨(.some 22), (.bin .add (.t 21) (.c (.lf (.int .i64 2)))), none⟩, ⟨(.some 5), (.mv (.t 22)), none⟩]))))))
 (.seq (.reg [⟨(.some 42), (.mv (.t 4)), none⟩, ⟨(.some 2), (.mv (.t 42)), none⟩, ⟨(.some 3), (.mv (.c (.lf (.bool true)))), none⟩])
 .ret))))), [(.tmp 2), (.tmp 3)]⟩
def L20 : LFn := ⟨1, (.seq (.reg [⟨(.some 2), (.mv (.c (.lf .nils))), none⟩, ⟨(.some 3), (.mv (.c (.lf (.bool false)))), none⟩])
 (.seq (.seq (.reg [⟨(.some 6), (.mv (.t 0)), none⟩, ⟨(.some 7), (.slen (.t 6)), none⟩, ⟨(.some 8), (.bin .rem (.t 7) (.c (.lf (.int .i64 2)))), none⟩, ⟨(.some 9), (.bin .neq (.t 8) (.c (.lf (.int .i64 0)))), none⟩, ⟨(.some 10), (.mv (.t 9)), none⟩, ⟨(.some 11), (.mv (.t 0)), (.some (10, false))⟩, ⟨(.some 12), (.slen (.t 11)), (.some (10, false))⟩, ⟨(.some 13), (.bin .gtr (.t 12) (.c (.lf (.int .i64 512)))), (.some (10, false))⟩, ⟨(.some 14), (.pick (.t 10) (.c (.lf (.bool true))) (.t 13)), none⟩])
 (.cond (.t 14) (.seq (.reg [⟨(.some 2), (.mv (.c (.lf .nils))), none⟩, ⟨(.some 3), (.mv (.c (.lf (.bool false)))), none⟩])
 .ret) .skip))
 (.seq (.reg [⟨(.some 4), (.mv (.c (.lf .nils))), none⟩])
 (.seq (.seq (.reg [⟨(.some 5), (.mv (.c (.lf (.int .i64 0)))), none⟩])
 (.block 0 (.loop (.seq (.seq (.reg [⟨(.some 15), (.mv (.t 5)), none⟩, ⟨(.some 16), (.mv (.t 0)), none⟩, ⟨(.some 17), (.slen (.t 16)), none⟩, ⟨(.some 18), (.bin .lss (.t 15) (.t 17)), none⟩])
 (.cond (.t 18) .skip (.exit 0)))
 (.seq (.block 1 (.reg [⟨(.some 21), (.mv (.t 4)), none⟩, ⟨(.some 22), (.mv (.t 0)), none⟩, ⟨(.some 23), (.mv (.t 5)), none⟩, ⟨(.some 24), (.idx (.t 22) (.t 23)), none⟩, ⟨(.some 25), (.toint .u16 (.t 24)), none⟩, ⟨(.some 26), (.mv (.t 0)), none⟩, ⟨(.some 27), (.mv (.t 5)), none⟩, ⟨(.some 28), (.bin .add (.t 27) (.c (.lf (.int .i64 1)))), none⟩, ⟨(.some 29), (.idx (.t 26) (.t 28)), none⟩, ⟨(.some 30), (.toint .u16 (.t 29)), none⟩, ⟨(.some 31), (.bin .shl (.t 30) (.c (.lf (.int .u64 8)))), none⟩, ⟨(.some 32), (.bin .or (.t 25) (.t 31)), none⟩, ⟨(.some 33), (.toint .i16 (.t 32)), none⟩, ⟨(.some 34), (.toint .i64 (.t 33)), none⟩, ⟨(.some 35), (.lit 2 1 1 [(.int .i64 0)] [(0, (1, (.t 34)))]), none⟩, ⟨(.some 36), (.app 2 1 8 (.t 21) (.t 35)), none⟩, ⟨(.some 4), (.mv (.t 36)), none⟩]))
 (.reg [⟨(.some 19), (.mv (.t 5)), none⟩, ⟨(.some 20), (.bin .add (.t 19) (.c (.lf (.int .i64 2)))), none⟩, ⟨(.some 5), (.mv (.t 20)), none⟩]))))))
 (.seq (.reg [⟨(.some 37), (.mv (.t 4)), none⟩, ⟨(.some 2), (.mv (.t 37)), none⟩, ⟨(.some 3), (.mv (.c (.lf (.bool true)))), none⟩])
 .ret))))), [(.tmp 2), (.tmp 3)]⟩
class HasY (S : Sys) : Prop where
  f19 : S.fs 19 = some L19
  f20 : S.fs 20 = some L20
/-- The codes of a string's first n pairs of bytes. -/
def cods (s : ByteArray) (n : Nat) : List Int := (List.range n).map fun j => code16 (byteAt s (2 * j)) (byteAt s (2 * j + 1))
@[simp] theorem cods_len {s : ByteArray} {n : Nat} : (cods s n).length = n := by simp [cods]
theorem cods_succ {s : ByteArray} {n : Nat} : cods s (n + 1) = cods s n ++ [code16 (byteAt s (2 * n)) (byteAt s (2 * n + 1))] := by simp [cods, List.range_succ]
def okY (s : ByteArray) : Bool := decide (s.size % 2 = 0 ∧ s.size ≤ 512)
def codesOfBytes (s : ByteArray) : List Int := if okY s then cods s (s.size / 2) else []
theorem codesOfBytes_len {s : ByteArray} : (codesOfBytes s).length ≤ 256 := by
  unfold codesOfBytes
  split
  · rename_i hk; simp only [okY, decide_eq_true_eq] at hk; simp; omega
  · simp
section
variable {S : Sys} {lim : Nat} {h : Hp} {K : CV → Hp → Prop} [HasY S] {s : ByteArray}
theorem d_specCodesOfBytes (hl : lim ≤ h.length) (hK : ∀ l' g, New h g l' 2 1 ((codesOfBytes s).map il) → K (.tup [.lf l', .lf (.bool (okY s))]) g) :
    CallT S false 19 [.lf (.str s)] h lim K := by
  cases hok : okY s
  · have hK2 := hK .nils h (by simpa [codesOfBytes, hok] using New.nil (Kept.refl h))
    rw [hok] at hK2
    clear hK
    simp only [okY, decide_eq_false_iff_not] at hok
    refine CallT_of_body (F := L19) (HasY.f19) rfl ?_; unfold L19; dsimp only []
    repeat' (first | (simp (disch := first | omega | assumption | (simp [*] <;> fail) | assumption) [-Bool.decide_and, -Bool.decide_or, -Bool.not_and, -Bool.not_or, toNat_pred, toNat_succ, wrap64, wr_new, wr_new0, ok_if, ok_ifn, iadV_sl, makeV_int, decT, decF, *, tmod2]) | (refine Gd_split (fun hc => ?_) (fun hc => ?_) <;> (have hc2 := hc; try simp at hc2)) | (refine Br_split (fun hc => ?_) (fun hc => ?_) <;> (have hc2 := hc; try simp at hc2)) | omega)
  · have hK2 := fun l' g => hK l' g
    simp only [codesOfBytes, hok, if_true] at hK2
    clear hK
    simp only [okY, decide_eq_true_eq] at hok
    refine CallT_of_body (F := L19) (HasY.f19) rfl ?_; unfold L19; dsimp only []
    repeat' (first | (simp (disch := first | omega | assumption | (simp [*] <;> fail) | assumption) [-Bool.decide_and, -Bool.decide_or, -Bool.not_and, -Bool.not_or, toNat_pred, toNat_succ, wrap64, wr_new, wr_new0, ok_if, ok_ifn, iadV_sl, makeV_int, decT, decF, *, tmod2, leavesAll, fillL]) | (refine Gd_split (fun hc => ?_) (fun hc => ?_) <;> (have hc2 := hc; try simp at hc2)) | (refine Br_split (fun hc => ?_) (fun hc => ?_) <;> (have hc2 := hc; try simp at hc2)) | omega)
    refine WL_for (s.size / 2) (fun i a' g => i ≤ s.size / 2 ∧ a' 0 = .lf (.str s) ∧ (∃ l', a' 4 = .lf l' ∧ New h g l' 2 1 ((cods s i).map il)) ∧ a' 5 = .lf (.int .i64 ((2 * i : Nat) : Int))) (fun i a' h' hi => hi.1) ?_ ⟨by simp, by simp, ⟨.sl h.length 0 0 1, by simp, by simpa [cods] using New.lit0⟩, by simp⟩
    rintro i a' g ⟨hi, e0, ⟨l', e4, hN⟩, e5⟩
    by_cases hlt : i < s.size / 2
    · have b0 := byteAt_bound (s := s) (i := 2 * i)
      have b1 := byteAt_bound (s := s) (i := 2 * i + 1)
      have t1 : (2 * (i : Int)).toNat = 2 * i := by omega
      have t2 : (2 * (i : Int) + 1).toNat = 2 * i + 1 := by omega
      generalize hx : byteAt s (2 * i) = x at b0
      generalize hy : byteAt s (2 * i + 1) = y at b1
      have hcs : cods s (i + 1) = cods s i ++ [code16 x y] := by rw [cods_succ, hx, hy]
      repeat' (first | (simp (disch := first | omega | assumption | (simp [*] <;> fail) | assumption) [-Bool.decide_and, -Bool.decide_or, -Bool.not_and, -Bool.not_or, toNat_pred, toNat_succ, wrap64, wr_new, wr_new0, ok_if, ok_ifn, iadV_sl, makeV_int, decT, decF, *, idxV_str, u8to64, t1, t2, hx, hy, leavesAll, fillL]) | (refine Gd_split (fun hc => ?_) (fun hc => ?_) <;> (have hc2 := hc; try simp at hc2)) | (refine Br_split (fun hc => ?_) (fun hc => ?_) <;> (have hc2 := hc; try simp at hc2)) | omega)
      · obtain ⟨l2, g2, e, hN2, _⟩ := hN.push (lim := lim) (bytes := 8) (r := [.int .i64 (x + 256 * y - 65536)]) (by omega) hl rfl (by simp; omega) (by simp; omega)
        have hcode : code16 x y = x + 256 * y - 65536 := by unfold code16; rw [if_pos (by omega)]
        repeat' (first | (simp (disch := first | omega | assumption | (simp [*] <;> fail) | assumption) [-Bool.decide_and, -Bool.decide_or, -Bool.not_and, -Bool.not_or, toNat_pred, toNat_succ, wrap64, wr_new, wr_new0, ok_if, ok_ifn, iadV_sl, makeV_int, decT, decF, *]) | (refine Gd_split (fun hc => ?_) (fun hc => ?_) <;> (have hc2 := hc; try simp at hc2)) | (refine Br_split (fun hc => ?_) (fun hc => ?_) <;> (have hc2 := hc; try simp at hc2)) | omega)
        refine ⟨by omega, ?_, by omega⟩
        simpa [hcode, il] using hN2
      · obtain ⟨l2, g2, e, hN2, _⟩ := hN.push (lim := lim) (bytes := 8) (r := [.int .i64 (x + 256 * y)]) (by omega) hl rfl (by simp; omega) (by simp; omega)
        have hcode : code16 x y = x + 256 * y := by unfold code16; rw [if_neg (by omega)]
        repeat' (first | (simp (disch := first | omega | assumption | (simp [*] <;> fail) | assumption) [-Bool.decide_and, -Bool.decide_or, -Bool.not_and, -Bool.not_or, toNat_pred, toNat_succ, wrap64, wr_new, wr_new0, ok_if, ok_ifn, iadV_sl, makeV_int, decT, decF, *]) | (refine Gd_split (fun hc => ?_) (fun hc => ?_) <;> (have hc2 := hc; try simp at hc2)) | (refine Br_split (fun hc => ?_) (fun hc => ?_) <;> (have hc2 := hc; try simp at hc2)) | omega)
        refine ⟨by omega, ?_, by omega⟩
        simpa [hcode, il] using hN2
    · have : i = s.size / 2 := by omega
      subst this
      repeat' (first | (simp (disch := first | omega | assumption | (simp [*] <;> fail) | assumption) [-Bool.decide_and, -Bool.decide_or, -Bool.not_and, -Bool.not_or, toNat_pred, toNat_succ, wrap64, wr_new, wr_new0, ok_if, ok_ifn, iadV_sl, makeV_int, decT, decF, *]) | (refine Gd_split (fun hc => ?_) (fun hc => ?_) <;> (have hc2 := hc; try simp at hc2)) | (refine Br_split (fun hc => ?_) (fun hc => ?_) <;> (have hc2 := hc; try simp at hc2)) | omega)
theorem d_implCodesOfBytes (hl : lim ≤ h.length) (hK : ∀ l' g, New h g l' 2 1 ((codesOfBytes s).map il) → K (.tup [.lf l', .lf (.bool (okY s))]) g) :
    CallT S false 20 [.lf (.str s)] h lim K := by
  cases hok : okY s
  · have hK2 := hK .nils h (by simpa [codesOfBytes, hok] using New.nil (Kept.refl h))
    rw [hok] at hK2
    clear hK
    simp only [okY, decide_eq_false_iff_not] at hok
    refine CallT_of_body (F := L20) (HasY.f20) rfl ?_; unfold L20; dsimp only []
    repeat' (first | (simp (disch := first | omega | assumption | (simp [*] <;> fail) | assumption) [-Bool.decide_and, -Bool.decide_or, -Bool.not_and, -Bool.not_or, toNat_pred, toNat_succ, wrap64, wr_new, wr_new0, ok_if, ok_ifn, iadV_sl, makeV_int, decT, decF, *, tmod2]) | (refine Gd_split (fun hc => ?_) (fun hc => ?_) <;> (have hc2 := hc; try simp at hc2)) | (refine Br_split (fun hc => ?_) (fun hc => ?_) <;> (have hc2 := hc; try simp at hc2)) | omega)
  · have hK2 := fun l' g => hK l' g
    simp only [codesOfBytes, hok, if_true] at hK2
    clear hK
    simp only [okY, decide_eq_true_eq] at hok
    refine CallT_of_body (F := L20) (HasY.f20) rfl ?_; unfold L20; dsimp only []
    repeat' (first | (simp (disch := first | omega | assumption | (simp [*] <;> fail) | assumption) [-Bool.decide_and, -Bool.decide_or, -Bool.not_and, -Bool.not_or, toNat_pred, toNat_succ, wrap64, wr_new, wr_new0, ok_if, ok_ifn, iadV_sl, makeV_int, decT, decF, *, tmod2, leavesAll, fillL]) | (refine Gd_split (fun hc => ?_) (fun hc => ?_) <;> (have hc2 := hc; try simp at hc2)) | (refine Br_split (fun hc => ?_) (fun hc => ?_) <;> (have hc2 := hc; try simp at hc2)) | omega)
    refine WL_for (s.size / 2) (fun i a' g => i ≤ s.size / 2 ∧ a' 0 = .lf (.str s) ∧ (∃ l', a' 4 = .lf l' ∧ New h g l' 2 1 ((cods s i).map il)) ∧ a' 5 = .lf (.int .i64 ((2 * i : Nat) : Int))) (fun i a' h' hi => hi.1) ?_ ⟨by simp, by simp, ⟨.nils, by simp, by simpa [cods] using New.nil (Kept.refl h)⟩, by simp⟩
    rintro i a' g ⟨hi, e0, ⟨l', e4, hN⟩, e5⟩
    by_cases hlt : i < s.size / 2
    · have b0 := byteAt_bound (s := s) (i := 2 * i)
      have b1 := byteAt_bound (s := s) (i := 2 * i + 1)
      have t1 : (2 * (i : Int)).toNat = 2 * i := by omega
      have t2 : (2 * (i : Int) + 1).toNat = 2 * i + 1 := by omega
      generalize hx : byteAt s (2 * i) = x at b0
      generalize hy : byteAt s (2 * i + 1) = y at b1
      have hcs : cods s (i + 1) = cods s i ++ [code16 x y] := by rw [cods_succ, hx, hy]
      have hcb := code16_bound b0.1 b0.2 b1.1 b1.2
      obtain ⟨l2, g2, e, hN2, _⟩ := hN.push (lim := lim) (bytes := 8) (r := [.int .i64 (code16 x y)]) (by omega) hl rfl (by simp; omega) (by simp; omega)
      have c1 := u8to16 b0.1 b0.2
      have c2 := u8to16 b1.1 b1.2
      have c3 := shl8 b1.1 b1.2
      have c4 := or8 b0.1 b0.2 b1.1 b1.2
      have c5 := toi16 b0.1 b0.2 b1.1 b1.2
      have c6 : tointV .i64 (.lf (.int .i16 (code16 x y))) = some (.lf (.int .i64 (code16 x y))) := by rw [tointV_int, wrap64 (by omega) (by omega)]
      repeat' (first | (simp (disch := first | omega | assumption | (simp [*] <;> fail) | assumption) [-Bool.decide_and, -Bool.decide_or, -Bool.not_and, -Bool.not_or, toNat_pred, toNat_succ, wrap64, wr_new, wr_new0, ok_if, ok_ifn, iadV_sl, makeV_int, decT, decF, *, idxV_str, t1, t2, hx, hy, leavesAll, fillL, -tointV_int]) | (refine Gd_split (fun hc => ?_) (fun hc => ?_) <;> (have hc2 := hc; try simp at hc2)) | (refine Br_split (fun hc => ?_) (fun hc => ?_) <;> (have hc2 := hc; try simp at hc2)) | omega)
      refine ⟨by omega, ?_, by omega⟩
      simpa [il] using hN2
    · have : i = s.size / 2 := by omega
      subst this
      repeat' (first | (simp (disch := first | omega | assumption | (simp [*] <;> fail) | assumption) [-Bool.decide_and, -Bool.decide_or, -Bool.not_and, -Bool.not_or, toNat_pred, toNat_succ, wrap64, wr_new, wr_new0, ok_if, ok_ifn, iadV_sl, makeV_int, decT, decF, *]) | (refine Gd_split (fun hc => ?_) (fun hc => ?_) <;> (have hc2 := hc; try simp at hc2)) | (refine Br_split (fun hc => ?_) (fun hc => ?_) <;> (have hc2 := hc; try simp at hc2)) | omega)
end
end Go.E
