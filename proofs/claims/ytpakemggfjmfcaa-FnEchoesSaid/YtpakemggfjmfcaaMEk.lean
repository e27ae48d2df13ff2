/- The hundred and fifty echoes of the law. -/
import Derived.Test.YtpakemggfjmfcaaMIc
set_option linter.unusedVariables false
set_option linter.unusedSimpArgs false
set_option exponentiation.threshold 3000
namespace Go.E
open Go
/-- A number in halves. -/
def hvN (a : Nat) : Nat := fbin .quo .f32 (fofint .f32 ((a : Int) - 2)) 1073741824
def lvlE (f w len : Nat) : Nat → Nat
  | 0 => w
  | i + 1 => if i = 0 then lvlE f w len i else if i % len = 0 then fbin .mul .f32 (lvlE f w len i) f else lvlE f w len i
def wantE (f w len i : Nat) : Nat := if i = 0 then 1065353216 else if i % len = 0 then lvlE f w len i else 0
def chkE (f w len : Nat) : Bool := ((echoOut f w len 20).zip ((List.range 20).map (wantE f w len))).all fun p => fcmp .eql .f32 p.1 p.2
set_option maxRecDepth 100000 in
theorem chk_all : ∀ len : _root_.Fin 6, ∀ a b : _root_.Fin 5, chkE (hvN a.1) (hvN b.1) (len.1 + 1) = true := by decide +kernel
theorem echoOut_len {f w len n : Nat} : (echoOut f w len n).length = n := by unfold echoOut; rw [scan_len, imp_len]
theorem chk_get {f w len i : Nat} (h : chkE f w len = true) (hi : i < 20) : fcmp .eql .f32 ((echoOut f w len 20)[i]'(by rw [echoOut_len]; exact hi)) (wantE f w len i) = true := by
  unfold chkE at h
  rw [List.all_eq_true] at h
  have hl := echoOut_len (f := f) (w := w) (len := len) (n := 20)
  refine h ((echoOut f w len 20)[i]'(by rw [hl]; exact hi), wantE f w len i) ?_
  rw [List.mem_iff_getElem]
  refine ⟨i, by simp [hl, hi], ?_⟩
  simp
end Go.E
