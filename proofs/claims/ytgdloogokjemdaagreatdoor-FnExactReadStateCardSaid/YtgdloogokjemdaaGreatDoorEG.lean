/- Strings and bits in the calculus. Plain lemmas; no condition. -/
import Derived.Test.YtgdloogokjemdaaGreatDoorEF
import Derived.Lib.EndianBits
import Derived.Laws.BitsLemmas
set_option linter.unusedVariables false
set_option linter.unusedSimpArgs false
namespace Go.E
open Go
section
variable {S : Sys} {lim : Nat} {a : Fr} {h : Hp} {K : CV → Hp → Prop}
def slenV (v : CV) : Option CV := match v with | .lf (.str s) => some (.lf (.int .i64 s.size)) | _ => none
@[simp] theorem slenV_str {s : ByteArray} : slenV (.lf (.str s)) = some (.lf (.int .i64 s.size)) := (rfl)
@[simp] theorem wO_slen {x : X} : wO S lim (.slen x) a h K = oc ((slenV (evX a x)).map fun v => (v, h)) K := by
  unfold wO; simp only [evO]
  generalize evX a x = u; rcases u with l | l | l <;> try rfl
  cases l <;> rfl
/-- The byte there, as a number. -/
def byteAt (s : ByteArray) (i : Nat) : Int := if h : i < s.size then ((s[i]'h).toNat : Int) else 0
theorem byteAt_bound {s : ByteArray} {i : Nat} : 0 ≤ byteAt s i ∧ byteAt s i ≤ 255 := by
  unfold byteAt
  split
  · have := (s[i]'(by assumption)).toNat_lt
    omega
  · omega
def idxV (x i : CV) : Option CV := match x, i with
    | .lf (.str s), .lf (.int _ j) => if h' : 0 ≤ j ∧ j.toNat < s.size then some (.lf (.int .u8 (s[j.toNat]'h'.2).toNat)) else none
    | _, _ => none
@[simp] theorem wO_idx {x i : X} : wO S lim (.idx x i) a h K = oc ((idxV (evX a x) (evX a i)).map fun v => (v, h)) K := by
  unfold wO; simp only [evO]
  generalize evX a x = u; generalize evX a i = z
  rcases u with l | l | l <;> try rfl
  cases l <;> try rfl
  rcases z with l | l | l <;> try rfl
  cases l <;> try rfl
  simp only [idxV]; split <;> rfl
theorem idxV_str {s : ByteArray} {k : IntKind} {j : Int} (h0 : 0 ≤ j) (hj : j < s.size) : idxV (.lf (.str s)) (.lf (.int k j)) = some (.lf (.int .u8 (byteAt s j.toNat))) := by
  have h2 : j.toNat < s.size := by omega
  simp only [idxV, byteAt]
  rw [dif_pos ⟨h0, h2⟩, dif_pos h2]
def tostrV (h : Hp) (v : CV) : Option CV := (srcCells 1 h v).bind fun (_, cs) => (bytesL cs).map fun bs => .lf (.str ⟨bs.toArray⟩)
@[simp] theorem wO_tostr {x : X} : wO S lim (.tostr x) a h K = oc ((tostrV h (evX a x)).map fun v => (v, h)) K := by
  unfold wO; simp only [evO, tostrV]
  generalize srcCells 1 h (evX a x) = q
  rcases q with _ | ⟨m, cs⟩
  · rfl
  · simp only [Option.bind_some]; cases bytesL cs <;> rfl
theorem tmod2 {n : Nat} : ((n : Nat) : Int).tmod 2 = ((n % 2 : Nat) : Int) := rfl
theorem u8to64 {x : Int} (h0 : 0 ≤ x) (h1 : x ≤ 255) : tointV .i64 (.lf (.int .u8 x)) = some (.lf (.int .i64 x)) := by
  rw [tointV_int, wrap64 (by omega) (by omega)]
theorem u8to16 {x : Int} (h0 : 0 ≤ x) (h1 : x ≤ 255) : tointV .u16 (.lf (.int .u8 x)) = some (.lf (.int .u16 x)) := by
  rw [tointV_int, IntKind.wrap_u16]; congr 3; omega
theorem shl8 {x : Int} (h0 : 0 ≤ x) (h1 : x ≤ 255) : binV .shl (.lf (.int .u16 x)) (.lf (.int .u64 8)) = some (.lf (.int .u16 (256 * x))) := by
  simp only [binV, isShift, if_true, ishift]
  rw [if_neg (by omega)]
  have e : min (8 : Int).toNat IntKind.u16.bits = 8 := by decide
  rw [e, IntKind.wrap_u16]; congr 3
  show x * 256 % 65536 = 256 * x
  omega
theorem or8 {x y : Int} (h0 : 0 ≤ x) (h1 : x ≤ 255) (h2 : 0 ≤ y) (h3 : y ≤ 255) : binV .or (.lf (.int .u16 x)) (.lf (.int .u16 (256 * y))) = some (.lf (.int .u16 (x + 256 * y))) := by
  have := bits_join_low .u16 16 (by decide) wraps_u16 8 x (256 * y) h0 (by omega) (by omega) (by omega) (by omega) (by omega)
  simp [binV, isShift, ibin, this]
/-- Two bytes, the low one first, as a number with a sign. -/
def code16 (x y : Int) : Int := if x + 256 * y ≥ 32768 then x + 256 * y - 65536 else x + 256 * y
theorem toi16 {x y : Int} (h0 : 0 ≤ x) (h1 : x ≤ 255) (h2 : 0 ≤ y) (h3 : y ≤ 255) : tointV .i16 (.lf (.int .u16 (x + 256 * y))) = some (.lf (.int .i16 (code16 x y))) := by
  rw [tointV_int]
  congr 3
  unfold code16
  simp only [IntKind.wrap, IntKind.bits, IntKind.signed]
  simp
  split <;> split <;> omega
theorem code16_bound {x y : Int} (h0 : 0 ≤ x) (h1 : x ≤ 255) (h2 : 0 ≤ y) (h3 : y ≤ 255) : -32768 ≤ code16 x y ∧ code16 x y ≤ 32767 := by
  unfold code16; split <;> omega
theorem and255 {x : Int} : binV .and (.lf (.int .i64 x)) (.lf (.int .i64 255)) = some (.lf (.int .i64 (x % 256))) := by
  have key : Go.bits .and .i64 x 255 = x % 256 := by
    have e : ((BitVec.ofInt 64 x &&& BitVec.ofInt 64 255).toNat : Int) = x % 256 := by
      have e1 : (BitVec.ofInt 64 255).toNat = 2 ^ 8 - 1 := by decide
      rw [BitVec.toNat_and, e1, Nat.and_two_pow_sub_one_eq_mod, BitVec.toNat_ofInt]
      show ((((x % ((2 ^ 64 : Nat) : Int)).toNat % 2 ^ 8 : Nat)) : Int) = x % 256
      omega
    show IntKind.i64.wrap ((BitVec.ofInt 64 x &&& BitVec.ofInt 64 255).toNat : Int) = x % 256
    rw [e, wrap64 (by omega) (by omega)]
  simp [binV, isShift, ibin, key]
theorem shr8 {x : Int} : binV .shr (.lf (.int .i64 x)) (.lf (.int .u64 8)) = some (.lf (.int .i64 (x / 256))) := by
  simp only [binV, isShift, if_true, ishift]
  rw [if_neg (by omega)]
  have e : min (8 : Int).toNat IntKind.i64.bits = 8 := by decide
  rw [e]
  congr 3
  show x.fdiv 256 = x / 256
  exact Int.fdiv_eq_ediv_of_nonneg _ (by omega)
theorem tou8 {x : Int} : tointV .u8 (.lf (.int .i64 x)) = some (.lf (.int .u8 (x % 256))) := by
  rw [tointV_int, IntKind.wrap_u8]
def ul (x : Int) : List Lf := [.int .u8 x]
theorem bytes_ul : ∀ {xs : List Int}, bytesL ((xs.map ul).flatten) = some (xs.map fun x => UInt8.ofNat x.toNat)
  | [] => rfl
  | x :: xs => by
    have := bytes_ul (xs := xs)
    simp only [List.map_cons, List.flatten_cons, ul, List.cons_append, List.nil_append, bytesL] at this ⊢
    rw [this]; rfl
@[simp] theorem binV_str_neq {s : ByteArray} : binV .neq (.lf (.str s)) (.lf (.str s)) = some (.lf (.bool false)) := by simp [binV, sop]
@[simp] theorem binV_str_eql {s : ByteArray} : binV .eql (.lf (.str s)) (.lf (.str s)) = some (.lf (.bool true)) := by simp [binV, sop]
end
end Go.E
