/- Lists of numbers that are read, for the evaluator. -/
import Derived.Test.YtgdloogokjemdaaGreatDoorMUe
set_option linter.unusedVariables false
set_option linter.unusedSimpArgs false
namespace Go.E
open Go
def L14 : LFn := ⟨1, (.seq (.reg [⟨(.some 2), (.mv (.c (.lf .nils))), none⟩, ⟨(.some 3), (.mv (.c (.lf (.bool false)))), none⟩])
 (.seq (.reg [⟨(.some 12), (.lit 51 1 0 [] []), none⟩, ⟨(.some 4), (.mv (.t 12)), none⟩])
 (.seq (.seq (.reg [⟨(.some 13), (.mv (.t 0)), none⟩, ⟨(.some 14), (.bin .eql (.t 13) (.c (.lf (.str ⟨#[110, 111, 110, 101]⟩)))), none⟩])
 (.cond (.t 14) (.seq (.reg [⟨(.some 15), (.mv (.t 4)), none⟩, ⟨(.some 2), (.mv (.t 15)), none⟩, ⟨(.some 3), (.mv (.c (.lf (.bool true)))), none⟩])
 .ret) .skip))
 (.seq (.reg [⟨(.some 16), (.mv (.t 0)), none⟩, ⟨(.some 17), (.call false 12 [(.t 16), (.c (.lf (.int .u8 44)))]), none⟩, ⟨(.some 5), (.mv (.t 17)), none⟩])
 (.seq (.seq (.reg [⟨(.some 18), (.mv (.t 5)), none⟩, ⟨(.some 19), (.len (.t 18)), none⟩, ⟨(.some 20), (.bin .gtr (.t 19) (.c (.lf (.int .i64 256)))), none⟩])
 (.cond (.t 20) (.seq (.reg [⟨(.some 2), (.mv (.c (.lf .nils))), none⟩, ⟨(.some 3), (.mv (.c (.lf (.bool false)))), none⟩])
 .ret) .skip))
 (.seq (.seq (.reg [⟨(.some 6), (.mv (.c (.lf (.int .i64 0)))), none⟩])
 (.block 0 (.loop (.seq (.seq (.reg [⟨(.some 21), (.mv (.t 6)), none⟩, ⟨(.some 22), (.mv (.t 5)), none⟩, ⟨(.some 23), (.len (.t 22)), none⟩, ⟨(.some 24), (.bin .lss (.t 21) (.t 23)), none⟩])
 (.cond (.t 24) .skip (.exit 0)))
 (.seq (.block 1 (.seq (.seq (.reg [⟨(.some 27), (.mv (.t 5)), none⟩, ⟨(.some 28), (.mv (.t 6)), none⟩, ⟨(.some 29), (.iaddr 1 (.t 27) (.t 28)), none⟩, ⟨(.some 30), (.load false 1 (.t 29)), none⟩, ⟨(.some 31), (.slen (.t 30)), none⟩, ⟨(.some 32), (.bin .neq (.t 31) (.c (.lf (.int .i64 8)))), none⟩])
 (.cond (.t 32) (.seq (.reg [⟨(.some 2), (.mv (.c (.lf .nils))), none⟩, ⟨(.some 3), (.mv (.c (.lf (.bool false)))), none⟩])
 .ret) .skip))
 (.seq (.reg [⟨(.some 7), (.mv (.c (.lf (.int .i64 0)))), none⟩])
 (.seq (.seq (.reg [⟨(.some 8), (.mv (.c (.lf (.int .i64 0)))), none⟩])
 (.block 2 (.loop (.seq (.seq (.reg [⟨(.some 33), (.mv (.t 8)), none⟩, ⟨(.some 34), (.bin .lss (.t 33) (.c (.lf (.int .i64 8)))), none⟩])
 (.cond (.t 34) .skip (.exit 2)))
 (.seq (.block 3 (.seq (.reg [⟨(.some 37), (.mv (.t 5)), none⟩, ⟨(.some 38), (.mv (.t 6)), none⟩, ⟨(.some 39), (.iaddr 1 (.t 37) (.t 38)), none⟩, ⟨(.some 40), (.load false 1 (.t 39)), none⟩, ⟨(.some 41), (.mv (.t 8)), none⟩, ⟨(.some 42), (.idx (.t 40) (.t 41)), none⟩, ⟨(.some 9), (.mv (.t 42)), none⟩])
 (.seq (.reg [⟨(.some 10), (.mv (.c (.lf (.int .i64 (-1))))), none⟩])
 (.seq (.seq (.reg [⟨(.some 43), (.mv (.t 9)), none⟩, ⟨(.some 44), (.bin .geq (.t 43) (.c (.lf (.int .u8 48)))), none⟩, ⟨(.some 45), (.mv (.t 44)), none⟩, ⟨(.some 46), (.mv (.t 9)), (.some (45, true))⟩, ⟨(.some 47), (.bin .leq (.t 46) (.c (.lf (.int .u8 57)))), (.some (45, true))⟩, ⟨(.some 48), (.pick (.t 45) (.t 47) (.c (.lf (.bool false)))), none⟩])
 (.cond (.t 48) (.reg [⟨(.some 49), (.mv (.t 9)), none⟩, ⟨(.some 50), (.bin .sub (.t 49) (.c (.lf (.int .u8 48)))), none⟩, ⟨(.some 51), (.toint .i64 (.t 50)), none⟩, ⟨(.some 10), (.mv (.t 51)), none⟩]) .skip))
 (.seq (.seq (.reg [⟨(.some 52), (.mv (.t 9)), none⟩, ⟨(.some 53), (.bin .geq (.t 52) (.c (.lf (.int .u8 97)))), none⟩, ⟨(.some 54), (.mv (.t 53)), none⟩, ⟨(.some 55), (.mv (.t 9)), (.some (54, true))⟩, ⟨(.some 56), (.bin .leq (.t 55) (.c (.lf (.int .u8 102)))), (.some (54, true))⟩, ⟨(.some 57), (.pick (.t 54) (.t 56) (.c (.lf (.bool false)))), none⟩])
 (.cond (.t 57) (.reg [⟨(.some 58), (.mv (.t 9)), none⟩, ⟨(.some 59), (.bin .sub (.t 58) (.c (.lf (.int .u8 97)))), none⟩, ⟨(.some 60), (.toint .i64 (.t 59)), none⟩, ⟨(.some 61), (.bin .add (.t 60) (.c (.lf (.int .i64 10)))), none⟩, ⟨(.some 10), (.mv (.t 61)), none⟩]) .skip))
 (.seq (.seq (.reg [⟨(.some 62), (.mv (.t 10)), none⟩, ⟨(.some 63), (.bin .lss (.t 62) (.c (.lf (.int .i64 0)))), none⟩])
 (.cond (.t 63) (.seq (.reg [⟨(.some 2), (.mv (.c (.lf .nils))), none⟩, ⟨(.some 3), (.mv (.c (.lf (.bool false)))), none⟩])
 .ret) .skip))
 (.reg [⟨(.some 64), (.mv (.t 7)), none⟩, ⟨(.some 65), (.bin .mul (.c (.lf (.int .i64 16))) (.t 64)), none⟩, ⟨(.some 66), (.mv (.t 10)), none⟩, ⟨(.some 67), (.bin .add (.t 65) (.t 66)), none⟩, ⟨(.some 7), (.mv (.t 67)), none⟩])))))))
 (.reg [⟨(.some 35), (.mv (.t 8)), none⟩, ⟨(.some 36), (.bin .add (.t 35) (.c (.lf (.int .i64 1)))), none⟩, ⟨(.some 8), (.mv (.t 36)), none⟩]))))))
 (.seq (.reg [⟨(.some 68), (.mv (.t 7)), none⟩, ⟨(.some 69), (.call true 30 [(.t 68)]), none⟩, ⟨(.some 11), (.mv (.t 69)), none⟩])
 (.seq (.seq (.reg [⟨(.some 70), (.mv (.t 11)), none⟩, ⟨(.some 71), (.call true 31 [(.t 70)]), none⟩, ⟨(.some 72), (.mv (.t 7)), none⟩, ⟨(.some 73), (.bin .neq (.t 71) (.t 72)), none⟩])
 (.cond (.t 73) (.seq (.reg [⟨(.some 2), (.mv (.c (.lf .nils))), none⟩, ⟨(.some 3), (.mv (.c (.lf (.bool false)))), none⟩])
 .ret) .skip))
 (.reg [⟨(.some 74), (.mv (.t 4)), none⟩, ⟨(.some 75), (.mv (.t 11)), none⟩, ⟨(.some 76), (.lit 51 1 1 [(.flt .f32 0)] [(0, (1, (.t 75)))]), none⟩, ⟨(.some 77), (.app 51 1 4 (.t 74) (.t 76)), none⟩, ⟨(.some 4), (.mv (.t 77)), none⟩])))))))
 (.reg [⟨(.some 25), (.mv (.t 6)), none⟩, ⟨(.some 26), (.bin .add (.t 25) (.c (.lf (.int .i64 1)))), none⟩, ⟨(.some 6), (.mv (.t 26)), none⟩]))))))
 (.seq (.reg [⟨(.some 78), (.mv (.t 4)), none⟩, ⟨(.some 2), (.mv (.t 78)), none⟩, ⟨(.some 3), (.mv (.c (.lf (.bool true)))), none⟩])
 .ret))))))), [(.tmp 2), (.tmp 3)]⟩
def L60 : LFn := ⟨1, (.seq (.reg [⟨(.some 2), (.mv (.c (.lf (.flt .f32 0)))), none⟩, ⟨(.some 3), (.mv (.c (.lf (.bool false)))), none⟩])
 (.seq (.seq (.reg [⟨(.some 4), (.mv (.t 0)), none⟩, ⟨(.some 5), (.call true 57 [(.t 4), (.c (.lf (.int .i64 0))), (.c (.lf (.int .i64 4294967295)))]), none⟩, ⟨(.some 6), (.una .not (.t 5)), none⟩])
 (.cond (.t 6) (.seq (.reg [⟨(.some 2), (.mv (.c (.lf (.flt .f32 0)))), none⟩, ⟨(.some 3), (.mv (.c (.lf (.bool false)))), none⟩])
 .ret) .skip))
 (.seq (.reg [⟨(.some 7), (.mv (.t 0)), none⟩, ⟨(.some 8), (.toint .u32 (.t 7)), none⟩, ⟨(.some 9), (.xop .from32 [(.t 8)]), none⟩, ⟨(.some 2), (.mv (.t 9)), none⟩, ⟨(.some 3), (.mv (.c (.lf (.bool true)))), none⟩])
 .ret))), [(.tmp 2), (.tmp 3)]⟩
def L59 : LFn := ⟨2, (.seq (.reg [⟨(.some 4), (.mv (.c (.lf (.int .i64 0)))), none⟩])
 (.seq (.reg [⟨(.some 5), (.mv (.t 0)), none⟩, ⟨(.some 6), (.mv (.t 1)), none⟩, ⟨(.some 7), (.call true 76 [(.t 5), (.t 6)]), none⟩, ⟨(.some 4), (.mv (.t 7)), none⟩])
 .ret)), [(.tmp 4)]⟩
def L76 : LFn := ⟨2, (.seq (.reg [⟨(.some 4), (.mv (.c (.lf (.int .i64 0)))), none⟩])
 (.seq (.reg [⟨(.some 5), (.mv (.t 0)), none⟩, ⟨(.some 6), (.mv (.t 1)), none⟩, ⟨(.some 7), (.xop .idxb [(.t 5), (.t 6)]), none⟩, ⟨(.some 4), (.mv (.t 7)), none⟩])
 .ret)), [(.tmp 4)]⟩
def L40 : LFn := ⟨1, (.seq (.reg [⟨(.some 2), (.mv (.c (.lf (.flt .f32 0)))), none⟩, ⟨(.some 3), (.mv (.c (.lf (.bool false)))), none⟩])
 (.seq (.seq (.reg [⟨(.some 9), (.mv (.t 0)), none⟩, ⟨(.some 10), (.slen (.t 9)), none⟩, ⟨(.some 11), (.bin .neq (.t 10) (.c (.lf (.int .i64 8)))), none⟩])
 (.cond (.t 11) (.seq (.reg [⟨(.some 2), (.mv (.c (.lf (.flt .f32 0)))), none⟩, ⟨(.some 3), (.mv (.c (.lf (.bool false)))), none⟩])
 .ret) .skip))
 (.seq (.reg [⟨(.some 4), (.mv (.c (.lf (.int .i64 0)))), none⟩])
 (.seq (.seq (.reg [⟨(.some 5), (.mv (.c (.lf (.int .i64 0)))), none⟩])
 (.block 0 (.loop (.seq (.seq (.reg [⟨(.some 12), (.mv (.t 5)), none⟩, ⟨(.some 13), (.bin .lss (.t 12) (.c (.lf (.int .i64 8)))), none⟩])
 (.cond (.t 13) .skip (.exit 0)))
 (.seq (.block 1 (.seq (.reg [⟨(.some 16), (.mv (.t 0)), none⟩, ⟨(.some 17), (.mv (.t 5)), none⟩, ⟨(.some 18), (.idx (.t 16) (.t 17)), none⟩, ⟨(.some 19), (.call true 59 [(.c (.lf (.str ⟨#[48, 49, 50, 51, 52, 53, 54, 55, 56, 57, 97, 98, 99, 100, 101, 102]⟩))), (.t 18)]), none⟩, ⟨(.some 6), (.mv (.t 19)), none⟩])
 (.seq (.seq (.reg [⟨(.some 20), (.mv (.t 6)), none⟩, ⟨(.some 21), (.bin .lss (.t 20) (.c (.lf (.int .i64 0)))), none⟩])
 (.cond (.t 21) (.seq (.reg [⟨(.some 2), (.mv (.c (.lf (.flt .f32 0)))), none⟩, ⟨(.some 3), (.mv (.c (.lf (.bool false)))), none⟩])
 .ret) .skip))
 (.reg [⟨(.some 22), (.mv (.t 4)), none⟩, ⟨(.some 23), (.bin .shl (.t 22) (.c (.lf (.int .u64 4)))), none⟩, ⟨(.some 24), (.mv (.t 6)), none⟩, ⟨(.some 25), (.bin .or (.t 23) (.t 24)), none⟩, ⟨(.some 4), (.mv (.t 25)), none⟩]))))
 (.reg [⟨(.some 14), (.mv (.t 5)), none⟩, ⟨(.some 15), (.bin .add (.t 14) (.c (.lf (.int .i64 1)))), none⟩, ⟨(.some 5), (.mv (.t 15)), none⟩]))))))
 (.seq (.reg [⟨(.some 27), (.mv (.t 4)), none⟩, ⟨(.some 28), (.call true 60 [(.t 27)]), none⟩, ⟨(.some 26), (.mv (.t 28)), none⟩, ⟨(.some 29), (.ext (.t 26) 0), none⟩, ⟨(.some 30), (.ext (.t 26) 1), none⟩, ⟨(.some 7), (.mv (.t 29)), none⟩, ⟨(.some 8), (.mv (.t 30)), none⟩])
 (.seq (.reg [⟨(.some 31), (.mv (.t 7)), none⟩, ⟨(.some 32), (.mv (.t 7)), none⟩, ⟨(.some 33), (.call true 61 [(.t 32)]), none⟩, ⟨(.some 34), (.mv (.t 0)), none⟩, ⟨(.some 35), (.bin .eql (.t 33) (.t 34)), none⟩, ⟨(.some 2), (.mv (.t 31)), none⟩, ⟨(.some 3), (.mv (.t 35)), none⟩])
 .ret)))))), [(.tmp 2), (.tmp 3)]⟩
def L20 : LFn := ⟨1, (.seq (.reg [⟨(.some 2), (.mv (.c (.lf .nils))), none⟩, ⟨(.some 3), (.mv (.c (.lf (.bool false)))), none⟩])
 (.seq (.reg [⟨(.some 10), (.mv (.t 0)), none⟩, ⟨(.some 11), (.call false 39 [(.t 10)]), none⟩, ⟨(.some 4), (.mv (.t 11)), none⟩])
 (.seq (.seq (.reg [⟨(.some 12), (.mv (.t 4)), none⟩, ⟨(.some 13), (.len (.t 12)), none⟩, ⟨(.some 14), (.bin .gtr (.t 13) (.c (.lf (.int .i64 256)))), none⟩])
 (.cond (.t 14) (.seq (.reg [⟨(.some 2), (.mv (.c (.lf .nils))), none⟩, ⟨(.some 3), (.mv (.c (.lf (.bool false)))), none⟩])
 .ret) .skip))
 (.seq (.reg [⟨(.some 5), (.mv (.c (.lf .nils))), none⟩])
 (.seq (.seq (.reg [⟨(.some 15), (.mv (.t 4)), none⟩, ⟨(.some 16), (.len (.t 15)), none⟩, ⟨(.some 17), (.mv (.c (.lf (.int .i64 0)))), none⟩])
 (.block 0 (.loop (.seq (.reg [⟨(.some 18), (.bin .lss (.t 17) (.t 16)), none⟩])
 (.seq (.cond (.t 18) .skip (.exit 0))
 (.seq (.block 1 (.seq (.reg [⟨(.some 19), (.iaddr 1 (.t 15) (.t 17)), none⟩, ⟨(.some 20), (.load false 1 (.t 19)), none⟩, ⟨(.some 7), (.mv (.t 20)), none⟩])
 (.seq (.reg [⟨(.some 22), (.mv (.t 7)), none⟩, ⟨(.some 23), (.call true 40 [(.t 22)]), none⟩, ⟨(.some 21), (.mv (.t 23)), none⟩, ⟨(.some 24), (.ext (.t 21) 0), none⟩, ⟨(.some 25), (.ext (.t 21) 1), none⟩, ⟨(.some 8), (.mv (.t 24)), none⟩, ⟨(.some 9), (.mv (.t 25)), none⟩])
 (.seq (.seq (.reg [⟨(.some 26), (.mv (.t 9)), none⟩, ⟨(.some 27), (.una .not (.t 26)), none⟩])
 (.cond (.t 27) (.seq (.reg [⟨(.some 2), (.mv (.c (.lf .nils))), none⟩, ⟨(.some 3), (.mv (.c (.lf (.bool false)))), none⟩])
 .ret) .skip))
 (.reg [⟨(.some 28), (.mv (.t 5)), none⟩, ⟨(.some 29), (.mv (.t 8)), none⟩, ⟨(.some 30), (.lit 51 1 1 [(.flt .f32 0)] [(0, (1, (.t 29)))]), none⟩, ⟨(.some 31), (.app 51 1 4 (.t 28) (.t 30)), none⟩, ⟨(.some 5), (.mv (.t 31)), none⟩])))))
 (.reg [⟨(.some 32), (.bin .add (.t 17) (.c (.lf (.int .i64 1)))), none⟩, ⟨(.some 17), (.mv (.t 32)), none⟩])))))))
 (.seq (.reg [⟨(.some 33), (.mv (.t 5)), none⟩, ⟨(.some 2), (.mv (.t 33)), none⟩, ⟨(.some 3), (.mv (.c (.lf (.bool true)))), none⟩])
 .ret)))))), [(.tmp 2), (.tmp 3)]⟩
class HasUg (S : Sys) : Prop extends HasUf S where
  f14 : S.fs 14 = some L14
  f60 : S.fs 60 = some L60
  f59 : S.fs 59 = some L59
  f76 : S.fs 76 = some L76
  f40 : S.fs 40 = some L40
  f20 : S.fs 20 = some L20
theorem CF_can {n : Nat} (hn : n < 4294967296) : CF (can .f32 n) := by
  refine ⟨?_, can_can _ _⟩
  cases h : isNaN .f32 n
  · rw [can_of_not h]; exact hn
  · rw [can_of_nan h]; decide
/-- The words between commas. -/
def wordsC (s : List UInt8) : List (List UInt8) := if s = none4 then [] else cut 44 s
theorem numP_words {s : List UInt8} : numP s = if (wordsC s).length ≤ 256 then mapO hexP (wordsC s) else none := by
  unfold numP wordsC
  by_cases h : s = none4
  · rw [if_pos h, if_pos h]; rfl
  · rw [if_neg h, if_neg h]
theorem wordsC_le {s : List UInt8} : (wordsC s).length ≤ s.length + 1 ∧ ∀ x ∈ wordsC s, x.length ≤ s.length := by
  unfold wordsC
  split
  · simp
  · exact ⟨cut_len, cut_piece⟩
/-- What the library's search says of a digit. -/
def hexI (c : Nat) : Int := if 48 ≤ c ∧ c ≤ 57 then (c : Int) - 48 else if 97 ≤ c ∧ c ≤ 102 then (c : Int) - 87 else -1
theorem byteIdx_hex : ∀ c : Nat, c < 256 → byteIdx ⟨#[48, 49, 50, 51, 52, 53, 54, 55, 56, 57, 97, 98, 99, 100, 101, 102]⟩ (c : Int) = hexI c := by decide +kernel
theorem xop_idxb {s : ByteArray} {c : Int} : xopV .idxb [.lf (.str s), .lf (.int .u8 c)] = if 0 ≤ c ∧ c < 256 then some (.lf (.int .i64 (byteIdx s c))) else none := rfl
theorem hexI_D {c : UInt8} : hexD c = if hexI c.toNat < 0 then none else some (hexI c.toNat).toNat := by
  unfold hexD hexI
  by_cases h1 : 48 ≤ c.toNat ∧ c.toNat ≤ 57
  · rw [if_pos h1, if_pos h1, if_neg (by omega)]; congr 1; omega
  · rw [if_neg h1, if_neg h1]
    by_cases h2 : 97 ≤ c.toNat ∧ c.toNat ≤ 102
    · rw [if_pos h2, if_pos h2, if_neg (by omega)]; congr 1; omega
    · rw [if_neg h2, if_neg h2, if_pos (by omega)]
theorem hexI_b {c : Nat} : -1 ≤ hexI c ∧ hexI c ≤ 15 := by unfold hexI; split <;> first | omega | (split <;> omega)
/-- What is known of eight digits when the i-th is to be looked at. -/
def HexI (p : List UInt8) (i n : Nat) : Prop := hexV 0 p = hexV n (p.drop i) ∧ n < 16 ^ i
theorem HexI.start {p : List UInt8} : HexI p 0 0 := ⟨by simp, by decide⟩
theorem HexI.step {p : List UInt8} {i n d : Nat} (h : HexI p i n) (hi : i < p.length) (hd : hexD p[i] = some d) : HexI p (i + 1) (16 * n + d) := by
  obtain ⟨h1, h2⟩ := h
  refine ⟨?_, ?_⟩
  · rw [h1, List.drop_eq_getElem_cons hi, hexV_cons, hd]
  · have := (hexC_hexD hd).2
    rw [Nat.pow_succ]; omega
theorem HexI.fail {p : List UInt8} {i n : Nat} (h : HexI p i n) (hi : i < p.length) (hd : hexD p[i] = none) : hexP p = none := by
  unfold hexP
  rw [h.1, List.drop_eq_getElem_cons hi, hexV_cons, hd]
  simp
theorem HexI.done {p : List UInt8} {n : Nat} (h : HexI p 8 n) (hl : p.length = 8) : hexV 0 p = some n ∧ n < 4294967296 := by
  obtain ⟨h1, h2⟩ := h
  refine ⟨?_, h2⟩
  rw [h1, ← hl, List.drop_length]; rfl
theorem HexI.lt {p : List UInt8} {i n : Nat} (h : HexI p i n) (hi : i ≤ 8) : n < 4294967296 := by
  have := h.2
  have h2 : 16 ^ i ≤ 16 ^ 8 := Nat.pow_le_pow_right (by omega) hi
  have : (16 : Nat) ^ 8 = 4294967296 := by decide
  omega
theorem hexP_len {p : List UInt8} (h : p.length ≠ 8) : hexP p = none := by unfold hexP; rw [if_neg h]
theorem shl4 {n : Nat} (hn : n < 4294967296) {k : IntKind} : binV .shl (.lf (.int .i64 n)) (.lf (.int k 4)) = some (.lf (.int .i64 ((16 * n : Nat) : Int))) := by
  simp only [binV, isShift, if_true, ishift]
  rw [if_neg (by omega)]
  have e : min (4 : Int).toNat IntKind.i64.bits = 4 := by decide
  have e2 : (n : Int) * 2 ^ 4 = ((16 * n : Nat) : Int) := by
    have : (2 : Int) ^ 4 = 16 := by decide
    rw [this]; omega
  rw [e, e2, wrap64 (by omega) (by omega)]
theorem or4 {n d : Nat} (hn : n < 4294967296) (hd : d < 16) : binV .or (.lf (.int .i64 ((16 * n : Nat) : Int))) (.lf (.int .i64 (d : Int))) = some (.lf (.int .i64 ((16 * n + d : Nat) : Int))) := by
  have key : Go.bits .or .i64 ((16 * n : Nat) : Int) d = ((16 * n + d : Nat) : Int) := by
    show IntKind.i64.wrap ((BitVec.ofInt 64 ((16 * n : Nat) : Int) ||| BitVec.ofInt 64 d).toNat : Int) = _
    have e1 : (BitVec.ofInt 64 (((16 * n : Nat) : Int))).toNat = 16 * n := by rw [BitVec.toNat_ofInt]; omega
    have e2 : (BitVec.ofInt 64 (d : Int)).toNat = d := by rw [BitVec.toNat_ofInt]; omega
    have e3 : 16 * n ||| d = 16 * n + d := by
      have := Nat.shiftLeft_add_eq_or_of_lt (i := 4) (b := d) (by simpa using hd) n
      rw [Nat.shiftLeft_eq] at this
      rw [show 16 * n = n * 2 ^ 4 by omega, ← this]
    rw [BitVec.toNat_or, e1, e2, e3, wrap64 (by omega) (by omega)]
  simp only [binV, isShift, ibin, key]
  rfl
section
variable {S : Sys} {lim : Nat} {h : Hp} {K : CV → Hp → Prop} [HasUg S] {s p : List UInt8}
theorem c_IndexByte {c : Nat} (hc : c < 256) : CallT S true 59 [.lf (.str ⟨#[48, 49, 50, 51, 52, 53, 54, 55, 56, 57, 97, 98, 99, 100, 101, 102]⟩), .lf (.int .u8 (c : Int))] h lim K = K (.lf (.int .i64 (hexI c))) h := by
  have hx : xopV .idxb [.lf (.str ⟨#[48, 49, 50, 51, 52, 53, 54, 55, 56, 57, 97, 98, 99, 100, 101, 102]⟩), .lf (.int .u8 (c : Int))] = some (.lf (.int .i64 (hexI c))) := by
    rw [xop_idxb, if_pos (by omega), byteIdx_hex c hc]
  have hi : ∀ h lim K, CallT S true 76 [.lf (.str ⟨#[48, 49, 50, 51, 52, 53, 54, 55, 56, 57, 97, 98, 99, 100, 101, 102]⟩), .lf (.int .u8 (c : Int))] h lim K = K (.lf (.int .i64 (hexI c))) h := by
    intro h lim K
    generalize hexI c = d at *
    refine CallT_pure (F := L76) (HasUg.f76) rfl (by first | rfl | (split <;> rfl) | simp) ?_; unfold L76; dsimp only []
    repeat' (first | (simp (disch := first | omega | assumption | (simp only [List.length_set]; omega) | (simp [*] <;> fail) | assumption) [-Bool.decide_and, -Bool.decide_or, -Bool.not_and, -Bool.not_or, toNat_pred, toNat_succ, wrap64, wr_new, wr_new0, ok_if, ok_ifn, iadV_sl, makeV_int, decT, decF, over_at, *]) | (with_reducible refine Gd_split (fun hc => ?_) (fun hc => ?_) <;> (have hc2 := hc; try simp at hc2)) | (with_reducible refine Br_split (fun hc => ?_) (fun hc => ?_) <;> (have hc2 := hc; try simp at hc2)) | (with_reducible refine GdT_split (fun hc => ?_) (fun hc => ?_) <;> (have hc2 := hc; try simp at hc2)) | (with_reducible refine WT_alt ?_ ?_) | omega)
  generalize hexI c = d at *
  refine CallT_pure (F := L59) (HasUg.f59) rfl (by first | rfl | (split <;> rfl) | simp) ?_; unfold L59; dsimp only []
  repeat' (first | (simp (disch := first | omega | assumption | (simp only [List.length_set]; omega) | (simp [*] <;> fail) | assumption) [-Bool.decide_and, -Bool.decide_or, -Bool.not_and, -Bool.not_or, toNat_pred, toNat_succ, wrap64, wr_new, wr_new0, ok_if, ok_ifn, iadV_sl, makeV_int, decT, decF, over_at, *]) | (with_reducible refine Gd_split (fun hc => ?_) (fun hc => ?_) <;> (have hc2 := hc; try simp at hc2)) | (with_reducible refine Br_split (fun hc => ?_) (fun hc => ?_) <;> (have hc2 := hc; try simp at hc2)) | (with_reducible refine GdT_split (fun hc => ?_) (fun hc => ?_) <;> (have hc2 := hc; try simp at hc2)) | (with_reducible refine WT_alt ?_ ?_) | omega)
theorem c_FromBits {n : Nat} (hn : n < 4294967296) : CallT S true 60 [.lf (.int .i64 n)] h lim K = K (.tup [.lf (.flt .f32 (can .f32 n)), .lf (.bool true)]) h := by
  have e1 : IntKind.u32.wrap (n : Int) = n := by rw [IntKind.wrap_u32]; omega
  refine CallT_pure (F := L60) (HasUg.f60) rfl (by first | rfl | (split <;> rfl) | simp) ?_; unfold L60; dsimp only []
  repeat' (first | (simp (disch := first | omega | assumption | (simp only [List.length_set]; omega) | (simp [*] <;> fail) | assumption) [-Bool.decide_and, -Bool.decide_or, -Bool.not_and, -Bool.not_or, toNat_pred, toNat_succ, wrap64, wr_new, wr_new0, ok_if, ok_ifn, iadV_sl, makeV_int, decT, decF, over_at, *, e1, xop_from32]) | (with_reducible refine Gd_split (fun hc => ?_) (fun hc => ?_) <;> (have hc2 := hc; try simp at hc2)) | (with_reducible refine Br_split (fun hc => ?_) (fun hc => ?_) <;> (have hc2 := hc; try simp at hc2)) | (with_reducible refine GdT_split (fun hc => ?_) (fun hc => ?_) <;> (have hc2 := hc; try simp at hc2)) | (with_reducible refine WT_alt ?_ ?_) | omega)
/-- The number that the program's reading leaves. -/
def hexX (p : List UInt8) : Nat := if p.length = 8 then match hexV 0 p with
    | some n => can .f32 n
    | none => 0
  else 0
theorem hexX_some {p : List UInt8} {n : Nat} (h : hexP p = some n) : hexX p = n := by
  have hq := h
  unfold hexP at h
  unfold hexX
  split at h
  · rename_i hl
    rw [if_pos hl]
    split at h
    · rename_i m hm
      split at h
      · rename_i hc
        injection h with h
        rw [hm]; simp only []; rw [hc, h]
      · cases h
    · cases h
  · cases h
set_option maxRecDepth 20000 in
set_option maxHeartbeats 2000000 in
theorem c_fromHex : CallT S true 40 [.lf (.str ⟨p.toArray⟩)] h lim K = K (.tup [.lf (.flt .f32 (hexX p)), .lf (.bool (hexP p).isSome)]) h := by
  have hlen := tlen (l := p)
  by_cases hl : p.length = 8
  · have hl2 : (p.length : Int) = 8 := by omega
    refine CallT_pure (F := L40) (HasUg.f40) rfl (by first | rfl | (split <;> rfl) | simp) ?_; unfold L40; dsimp only []
    repeat' (first | (simp (disch := first | omega | assumption | (simp only [List.length_set]; omega) | (simp [*] <;> fail) | assumption) [-Bool.decide_and, -Bool.decide_or, -Bool.not_and, -Bool.not_or, toNat_pred, toNat_succ, wrap64, wr_new, wr_new0, ok_if, ok_ifn, iadV_sl, makeV_int, decT, decF, over_at, *]) | (with_reducible refine Gd_split (fun hc => ?_) (fun hc => ?_) <;> (have hc2 := hc; try simp at hc2)) | (with_reducible refine Br_split (fun hc => ?_) (fun hc => ?_) <;> (have hc2 := hc; try simp at hc2)) | (with_reducible refine GdT_split (fun hc => ?_) (fun hc => ?_) <;> (have hc2 := hc; try simp at hc2)) | (with_reducible refine WT_alt ?_ ?_) | omega)
    refine WL_forM 67104892 (by decide +kernel) (8) (fun i b g => i ≤ 8 ∧ b 5 = .lf (.int .i64 i) ∧ ∃ n : Nat, b 4 = .lf (.int .i64 (n : Int)) ∧ Hid (HexI p i n) ∧ h = g) (fun i _ _ hi => hi.1) ⟨by omega, by simp, 0, by simp, HexI.start, rfl⟩ ?_
    rintro i b g ⟨hi, e5, n, e4, hH, rfl⟩
    have hH0 : HexI p i n := hH
    have hn := hH0.lt hi
    by_cases hlt : i < 8
    · have hip : i < p.length := by omega
      have hat := tat (l := p) (k := .i64) hip
      have hcl : p[i].toNat < 256 := UInt8.toNat_lt _
      have hD := hexI_D (c := p[i])
      have hb := hexI_b (c := p[i].toNat)
      have hlt2 : (i : Int) < 8 := by omega
      by_cases hneg : hexI p[i].toNat < 0
      · rw [if_pos hneg] at hD
        have hf := hH0.fail hip hD
        have hx0 : hexX p = 0 := by
          unfold hexX
          rw [if_pos hl, hH0.1, List.drop_eq_getElem_cons hip, hexV_cons, hD]
        rw [hf, hx0]
        have hib := fun h lim K => c_IndexByte (S := S) (h := h) (lim := lim) (K := K) hcl
        clear hH hH0 hD hf hx0
        generalize hexI p[i].toNat = d at *
        generalize p[i].toNat = c at *
        repeat' (first | (simp (disch := first | omega | assumption | (simp only [List.length_set]; omega) | (simp [*] <;> fail) | assumption) [-Bool.decide_and, -Bool.decide_or, -Bool.not_and, -Bool.not_or, toNat_pred, toNat_succ, wrap64, wr_new, wr_new0, ok_if, ok_ifn, iadV_sl, makeV_int, decT, decF, over_at, *]) | (with_reducible refine Gd_split (fun hc => ?_) (fun hc => ?_) <;> (have hc2 := hc; try simp at hc2)) | (with_reducible refine Br_split (fun hc => ?_) (fun hc => ?_) <;> (have hc2 := hc; try simp at hc2)) | (with_reducible refine GdT_split (fun hc => ?_) (fun hc => ?_) <;> (have hc2 := hc; try simp at hc2)) | (with_reducible refine WT_alt ?_ ?_) | omega)
      · rw [if_neg hneg] at hD
        have hst : Hid (HexI p (i + 1) (16 * n + (hexI p[i].toNat).toNat)) := hH0.step hip hD
        have hib := fun h lim K => c_IndexByte (S := S) (h := h) (lim := lim) (K := K) hcl
        obtain ⟨d, hd⟩ : ∃ d : Nat, hexI p[i].toNat = d := ⟨(hexI p[i].toNat).toNat, by omega⟩
        rw [hd] at hib hst hb
        rw [Int.toNat_natCast] at hst
        have hs4 := fun k => shl4 (n := n) hn (k := k)
        have ho4 := or4 (n := n) (d := d) hn (by omega)
        clear hH hH0 hD hneg hd
        generalize p[i].toNat = c at *
        generalize 16 * n + d = n2 at *
        generalize 16 * n = n3 at *
        repeat' (first | (simp (disch := first | omega | assumption | (simp only [List.length_set]; omega) | (simp [*] <;> fail) | assumption) [-Bool.decide_and, -Bool.decide_or, -Bool.not_and, -Bool.not_or, toNat_pred, toNat_succ, wrap64, wr_new, wr_new0, ok_if, ok_ifn, iadV_sl, makeV_int, decT, decF, over_at, *]) | (with_reducible refine Gd_split (fun hc => ?_) (fun hc => ?_) <;> (have hc2 := hc; try simp at hc2)) | (with_reducible refine Br_split (fun hc => ?_) (fun hc => ?_) <;> (have hc2 := hc; try simp at hc2)) | (with_reducible refine GdT_split (fun hc => ?_) (fun hc => ?_) <;> (have hc2 := hc; try simp at hc2)) | (with_reducible refine WT_alt ?_ ?_) | omega)
        exact ⟨by omega, n2, rfl, hst⟩
    · have : i = 8 := by omega
      subst this
      obtain ⟨h1, h2⟩ := hH0.done hl
      have hx0 : hexX p = can .f32 n := by unfold hexX; rw [if_pos hl, h1]
      have hcf := CF_can h2
      have hpb := hexP_back hl h1 hcf.1
      have hbs : (hexP p).isSome = decide (hexS (can .f32 n) = p) := by
        rw [hpb]
        by_cases q : hexS (can .f32 n) = p
        · rw [if_pos q, decide_eq_true q]; rfl
        · rw [if_neg q, decide_eq_false q]; rfl
      have hfb := fun h lim K => c_FromBits (S := S) (h := h) (lim := lim) (K := K) h2
      have hho := fun h lim K => c_hexOf (S := S) (h := h) (lim := lim) (K := K) hcf
      have hte := teql (x := hexS (can .f32 n)) (y := p)
      rw [hx0, hbs]
      generalize decide (hexS (can .f32 n) = p) = B at *
      generalize hexS (can .f32 n) = t at *
      generalize can .f32 n = x at *
      clear hH hH0 hpb hbs hx0
      repeat' (first | (simp (disch := first | omega | assumption | (simp only [List.length_set]; omega) | (simp [*] <;> fail) | assumption) [-Bool.decide_and, -Bool.decide_or, -Bool.not_and, -Bool.not_or, toNat_pred, toNat_succ, wrap64, wr_new, wr_new0, ok_if, ok_ifn, iadV_sl, makeV_int, decT, decF, over_at, *]) | (with_reducible refine Gd_split (fun hc => ?_) (fun hc => ?_) <;> (have hc2 := hc; try simp at hc2)) | (with_reducible refine Br_split (fun hc => ?_) (fun hc => ?_) <;> (have hc2 := hc; try simp at hc2)) | (with_reducible refine GdT_split (fun hc => ?_) (fun hc => ?_) <;> (have hc2 := hc; try simp at hc2)) | (with_reducible refine WT_alt ?_ ?_) | omega)
  · have hl2 : ¬ (p.length : Int) = 8 := by omega
    have hf := hexP_len hl
    have hx0 : hexX p = 0 := by unfold hexX; rw [if_neg hl]
    rw [hf, hx0]
    refine CallT_pure (F := L40) (HasUg.f40) rfl (by first | rfl | (split <;> rfl) | simp) ?_; unfold L40; dsimp only []
    repeat' (first | (simp (disch := first | omega | assumption | (simp only [List.length_set]; omega) | (simp [*] <;> fail) | assumption) [-Bool.decide_and, -Bool.decide_or, -Bool.not_and, -Bool.not_or, toNat_pred, toNat_succ, wrap64, wr_new, wr_new0, ok_if, ok_ifn, iadV_sl, makeV_int, decT, decF, over_at, *]) | (with_reducible refine Gd_split (fun hc => ?_) (fun hc => ?_) <;> (have hc2 := hc; try simp at hc2)) | (with_reducible refine Br_split (fun hc => ?_) (fun hc => ?_) <;> (have hc2 := hc; try simp at hc2)) | (with_reducible refine GdT_split (fun hc => ?_) (fun hc => ?_) <;> (have hc2 := hc; try simp at hc2)) | (with_reducible refine WT_alt ?_ ?_) | omega)
set_option maxHeartbeats 2000000 in
theorem c_ReadNumbers [HasRo S] (hs : s.length ≤ 2000000) (hl : lim ≤ h.length) (hT : ∀ o g xs, numP s = some xs → New h g o 51 1 (xs.map fl) → K (.tup [.lf o, .lf (.bool true)]) g) (hF : numP s = none → ∀ g, Kept h g → K (.tup [.lf .nils, .lf (.bool false)]) g) :
    CallT S false 20 [.lf (.str ⟨s.toArray⟩)] h lim K := by
  refine CallT_of_body (F := L20) (HasUg.f20) rfl ?_; unfold L20; dsimp only []
  repeat' (first | (simp (disch := first | omega | assumption | (simp only [List.length_set]; omega) | (simp [*] <;> fail) | assumption) [-Bool.decide_and, -Bool.decide_or, -Bool.not_and, -Bool.not_or, toNat_pred, toNat_succ, wrap64, wr_new, wr_new0, ok_if, ok_ifn, iadV_sl, makeV_int, decT, decF, over_at, *]) | (with_reducible refine Gd_split (fun hc => ?_) (fun hc => ?_) <;> (have hc2 := hc; try simp at hc2)) | (with_reducible refine Br_split (fun hc => ?_) (fun hc => ?_) <;> (have hc2 := hc; try simp at hc2)) | (with_reducible refine GdT_split (fun hc => ?_) (fun hc => ?_) <;> (have hc2 := hc; try simp at hc2)) | (with_reducible refine WT_alt ?_ ?_) | omega)
  refine c_divided (by omega) hl fun o1 g1 hN1 => ?_
  have hW : (if s = none4 then [] else cut 44 s) = wordsC s := rfl
  rw [hW] at hN1
  have hnp := numP_words (s := s)
  obtain ⟨hw1, hw2⟩ := wordsC_le (s := s)
  have hlw := hN1.arr.len
  by_cases h256 : (wordsC s).length ≤ 256
  · rw [if_pos h256] at hnp
    have h256i : ¬ (256 : Int) < ((wordsC s).length : Int) := by omega
    generalize wordsC s = W at *
    repeat' (first | (simp (disch := first | omega | assumption | (simp only [List.length_set]; omega) | (simp [*] <;> fail) | assumption) [-Bool.decide_and, -Bool.decide_or, -Bool.not_and, -Bool.not_or, toNat_pred, toNat_succ, wrap64, wr_new, wr_new0, ok_if, ok_ifn, iadV_sl, makeV_int, decT, decF, over_at, *]) | (with_reducible refine Gd_split (fun hc => ?_) (fun hc => ?_) <;> (have hc2 := hc; try simp at hc2)) | (with_reducible refine Br_split (fun hc => ?_) (fun hc => ?_) <;> (have hc2 := hc; try simp at hc2)) | (with_reducible refine GdT_split (fun hc => ?_) (fun hc => ?_) <;> (have hc2 := hc; try simp at hc2)) | (with_reducible refine WT_alt ?_ ?_) | omega)
    refine WL_forM 8589804460 (by decide +kernel) (W.length) (fun i b g => i ≤ W.length ∧ b 17 = .lf (.int .i64 i) ∧ ∃ xs o, b 5 = .lf o ∧ New h g o 51 1 (xs.map fl) ∧ New h g o1 9 1 (W.map st) ∧ Far o o1 ∧ xs.length = i ∧ Hid (mapO hexP W = (mapO hexP (W.drop i)).map (xs ++ ·))) (fun _ _ _ hi => hi.1) ⟨by omega, by simp, [], .nils, by simp, by simpa using New.nil hN1.kept, hN1, Far.nil_left, rfl, mapO_zero⟩ ?_
    clear hN1
    rintro i b g ⟨hi, e17, xs, o, e5, hN, hN1, hf, hxl, hM⟩
    have hM0 : mapO hexP W = (mapO hexP (W.drop i)).map (xs ++ ·) := hM
    have hk := hN.kept
    by_cases hlt : i < W.length
    · have ai := hN1.arr.at_ (k := .i64) hlt
      have di := hN1.arr.rd1 hlt
      have hfh := fun g lim K => c_fromHex (S := S) (h := g) (lim := lim) (K := K) (p := W[i])
      cases hq : hexP W[i] with
      | none =>
        have hno := mapO_fail hM0 hlt hq
        have hkF := hF (by rw [hnp]; exact hno) g hk
        rw [hq] at hfh
        simp only [Option.isSome_none] at hfh
        clear hF hT hM hM0 hno hq
        generalize hexX W[i] = x at *
        generalize W[i] = p at *
        repeat' (first | (simp (disch := first | omega | assumption | (simp only [List.length_set]; omega) | (simp [*] <;> fail) | assumption) [-Bool.decide_and, -Bool.decide_or, -Bool.not_and, -Bool.not_or, toNat_pred, toNat_succ, wrap64, wr_new, wr_new0, ok_if, ok_ifn, iadV_sl, makeV_int, decT, decF, over_at, *, st]) | (with_reducible refine Gd_split (fun hc => ?_) (fun hc => ?_) <;> (have hc2 := hc; try simp at hc2)) | (with_reducible refine Br_split (fun hc => ?_) (fun hc => ?_) <;> (have hc2 := hc; try simp at hc2)) | (with_reducible refine GdT_split (fun hc => ?_) (fun hc => ?_) <;> (have hc2 := hc; try simp at hc2)) | (with_reducible refine WT_alt ?_ ?_) | omega)
      | some x =>
        have hst : Hid (mapO hexP W = (mapO hexP (W.drop (i + 1))).map ((xs ++ [x]) ++ ·)) := mapO_step hM0 hlt hq
        rw [hq, hexX_some hq] at hfh
        simp only [Option.isSome_some] at hfh
        clear hF hT hM hM0 hq
        generalize W[i] = p at *
        repeat' (first | (simp (disch := first | omega | assumption | (simp only [List.length_set]; omega) | (simp [*] <;> fail) | assumption) [-Bool.decide_and, -Bool.decide_or, -Bool.not_and, -Bool.not_or, toNat_pred, toNat_succ, wrap64, wr_new, wr_new0, ok_if, ok_ifn, iadV_sl, makeV_int, decT, decF, over_at, *, st, leavesAll, fillL]) | (with_reducible refine Gd_split (fun hc => ?_) (fun hc => ?_) <;> (have hc2 := hc; try simp at hc2)) | (with_reducible refine Br_split (fun hc => ?_) (fun hc => ?_) <;> (have hc2 := hc; try simp at hc2)) | (with_reducible refine GdT_split (fun hc => ?_) (fun hc => ?_) <;> (have hc2 := hc; try simp at hc2)) | (with_reducible refine WT_alt ?_ ?_) | omega)
        refine oc_push (r := fl x) (bytes := 4) hN hl (by simp; omega) (fun o2 g2 hN2 hB => ?_) (by decide) rfl (by decide)
        obtain ⟨hN4, hf2⟩ := hB.other hN hN1 hf
        have hN3 : New h g2 o2 51 1 ((xs ++ [x]).map fl) := by rw [List.map_append]; exact hN2
        clear hN hN1 hN2 hB hf
        repeat' (first | (simp (disch := first | omega | assumption | (simp only [List.length_set]; omega) | (simp [*] <;> fail) | assumption) [-Bool.decide_and, -Bool.decide_or, -Bool.not_and, -Bool.not_or, toNat_pred, toNat_succ, wrap64, wr_new, wr_new0, ok_if, ok_ifn, iadV_sl, makeV_int, decT, decF, over_at, *]) | (with_reducible refine Gd_split (fun hc => ?_) (fun hc => ?_) <;> (have hc2 := hc; try simp at hc2)) | (with_reducible refine Br_split (fun hc => ?_) (fun hc => ?_) <;> (have hc2 := hc; try simp at hc2)) | (with_reducible refine GdT_split (fun hc => ?_) (fun hc => ?_) <;> (have hc2 := hc; try simp at hc2)) | (with_reducible refine WT_alt ?_ ?_) | omega)
        exact ⟨by omega, xs ++ [x], hN3, by simp [hxl], hst⟩
    · have : i = W.length := by omega
      have hd := mapO_done hM0 this
      have hkT := hT o g xs (by rw [hnp]; exact hd) hN
      clear hF hT hM hM0 hd
      subst this
      repeat' (first | (simp (disch := first | omega | assumption | (simp only [List.length_set]; omega) | (simp [*] <;> fail) | assumption) [-Bool.decide_and, -Bool.decide_or, -Bool.not_and, -Bool.not_or, toNat_pred, toNat_succ, wrap64, wr_new, wr_new0, ok_if, ok_ifn, iadV_sl, makeV_int, decT, decF, over_at, *]) | (with_reducible refine Gd_split (fun hc => ?_) (fun hc => ?_) <;> (have hc2 := hc; try simp at hc2)) | (with_reducible refine Br_split (fun hc => ?_) (fun hc => ?_) <;> (have hc2 := hc; try simp at hc2)) | (with_reducible refine GdT_split (fun hc => ?_) (fun hc => ?_) <;> (have hc2 := hc; try simp at hc2)) | (with_reducible refine WT_alt ?_ ?_) | omega)
  · rw [if_neg h256] at hnp
    have h256i : (256 : Int) < ((wordsC s).length : Int) := by omega
    have hkF := hF hnp g1 hN1.kept
    clear hF hT
    generalize wordsC s = W at *
    repeat' (first | (simp (disch := first | omega | assumption | (simp only [List.length_set]; omega) | (simp [*] <;> fail) | assumption) [-Bool.decide_and, -Bool.decide_or, -Bool.not_and, -Bool.not_or, toNat_pred, toNat_succ, wrap64, wr_new, wr_new0, ok_if, ok_ifn, iadV_sl, makeV_int, decT, decF, over_at, *]) | (with_reducible refine Gd_split (fun hc => ?_) (fun hc => ?_) <;> (have hc2 := hc; try simp at hc2)) | (with_reducible refine Br_split (fun hc => ?_) (fun hc => ?_) <;> (have hc2 := hc; try simp at hc2)) | (with_reducible refine GdT_split (fun hc => ?_) (fun hc => ?_) <;> (have hc2 := hc; try simp at hc2)) | (with_reducible refine WT_alt ?_ ?_) | omega)
set_option maxHeartbeats 4000000 in
theorem c_l01NRead (hs : s.length ≤ 2000000) (hl : lim ≤ h.length) (hT : ∀ o g xs, numP s = some xs → New h g o 51 1 (xs.map fl) → K (.tup [.lf o, .lf (.bool true)]) g) (hF : numP s = none → ∀ g, Kept h g → K (.tup [.lf .nils, .lf (.bool false)]) g) :
    CallT S false 14 [.lf (.str ⟨s.toArray⟩)] h lim K := by
  have z0 : New h (h ++ [⟨[], .own 51 1⟩]) (.sl h.length 0 0 1) 51 1 (([] : List Nat).map fl) := New.litN (Kept.refl h)
  have hn := tnone (x := s)
  by_cases h0 : s = none4
  · rw [decide_eq_true h0] at hn
    have hkT := hT _ _ [] (by unfold numP; rw [if_pos h0]) z0
    clear hT hF h0
    refine CallT_of_body (F := L14) (HasUg.f14) rfl ?_; unfold L14; dsimp only []
    repeat' (first | (simp (disch := first | omega | assumption | (simp only [List.length_set]; omega) | (simp [*] <;> fail) | assumption) [-Bool.decide_and, -Bool.decide_or, -Bool.not_and, -Bool.not_or, toNat_pred, toNat_succ, wrap64, wr_new, wr_new0, ok_if, ok_ifn, iadV_sl, makeV_int, decT, decF, over_at, *, leavesAll, fillL]) | (with_reducible refine Gd_split (fun hc => ?_) (fun hc => ?_) <;> (have hc2 := hc; try simp at hc2)) | (with_reducible refine Br_split (fun hc => ?_) (fun hc => ?_) <;> (have hc2 := hc; try simp at hc2)) | (with_reducible refine GdT_split (fun hc => ?_) (fun hc => ?_) <;> (have hc2 := hc; try simp at hc2)) | (with_reducible refine WT_alt ?_ ?_) | omega)
  · rw [decide_eq_false h0] at hn
    have hnp : numP s = if (cut 44 s).length ≤ 256 then mapO hexP (cut 44 s) else none := by unfold numP; rw [if_neg h0]
    clear h0
    refine CallT_of_body (F := L14) (HasUg.f14) rfl ?_; unfold L14; dsimp only []
    repeat' (first | (simp (disch := first | omega | assumption | (simp only [List.length_set]; omega) | (simp [*] <;> fail) | assumption) [-Bool.decide_and, -Bool.decide_or, -Bool.not_and, -Bool.not_or, toNat_pred, toNat_succ, wrap64, wr_new, wr_new0, ok_if, ok_ifn, iadV_sl, makeV_int, decT, decF, over_at, *, leavesAll, fillL]) | (with_reducible refine Gd_split (fun hc => ?_) (fun hc => ?_) <;> (have hc2 := hc; try simp at hc2)) | (with_reducible refine Br_split (fun hc => ?_) (fun hc => ?_) <;> (have hc2 := hc; try simp at hc2)) | (with_reducible refine GdT_split (fun hc => ?_) (fun hc => ?_) <;> (have hc2 := hc; try simp at hc2)) | (with_reducible refine WT_alt ?_ ?_) | omega)
    refine c_l01Cut (S := S) (m := 44) hs (by simp; omega) fun o1 g1 hN1 => ?_
    have hzl := hN1.kept
    have z1 := z0.later hzl
    have hf0 : Far (.sl h.length 0 0 1) o1 := fun q1 q2 => by
      have := (z0.lt q1).2
      have := (hN1.lt q2).1
      omega
    replace hN1 := hN1.base (Kept.app h _)
    clear z0
    have hlw := hN1.arr.len
    have hw2 := cut_piece (m := 44) (s := s)
    by_cases h256 : (cut 44 s).length ≤ 256
    · rw [if_pos h256] at hnp
      have h256i : ¬ (256 : Int) < ((cut 44 s).length : Int) := by omega
      generalize cut 44 s = W at *
      repeat' (first | (simp (disch := first | omega | assumption | (simp only [List.length_set]; omega) | (simp [*] <;> fail) | assumption) [-Bool.decide_and, -Bool.decide_or, -Bool.not_and, -Bool.not_or, toNat_pred, toNat_succ, wrap64, wr_new, wr_new0, ok_if, ok_ifn, iadV_sl, makeV_int, decT, decF, over_at, *]) | (with_reducible refine Gd_split (fun hc => ?_) (fun hc => ?_) <;> (have hc2 := hc; try simp at hc2)) | (with_reducible refine Br_split (fun hc => ?_) (fun hc => ?_) <;> (have hc2 := hc; try simp at hc2)) | (with_reducible refine GdT_split (fun hc => ?_) (fun hc => ?_) <;> (have hc2 := hc; try simp at hc2)) | (with_reducible refine WT_alt ?_ ?_) | omega)
      refine WL_forM 302231454903657291583452 (by decide +kernel) (W.length) (fun i b g => i ≤ W.length ∧ b 6 = .lf (.int .i64 i) ∧ ∃ xs o, b 4 = .lf o ∧ New h g o 51 1 (xs.map fl) ∧ New h g o1 9 1 (W.map st) ∧ Far o o1 ∧ xs.length = i ∧ Hid (mapO hexP W = (mapO hexP (W.drop i)).map (xs ++ ·))) (fun _ _ _ hi => hi.1) ⟨by omega, by simp, [], _, by simp, z1, hN1, hf0, rfl, mapO_zero⟩ ?_
      clear hN1 z1 hf0 hzl
      rintro i b g ⟨hi, e6, xs, o, e4, hN, hN1, hf, hxl, hM⟩
      have hM0 : mapO hexP W = (mapO hexP (W.drop i)).map (xs ++ ·) := hM
      have hk := hN.kept
      have hlw := hN1.arr.len
      by_cases hlt : i < W.length
      · have ai := hN1.arr.at_ (k := .i64) hlt
        have di := hN1.arr.rd1 hlt
        have hst := fun y => mapO_step (y := y) hM0 hlt
        have hno := mapO_fail hM0 hlt
        have hstH : Hid (∀ y, hexP W[i] = some y → mapO hexP W = (mapO hexP (W.drop (i + 1))).map ((xs ++ [y]) ++ ·)) := hst
        clear hM hM0 hst
        have hkF := fun q : hexP W[i] = none => hF (by rw [hnp]; exact hno q) g hk
        clear hno hF hT
        generalize W[i] = p at *
        have hlen := tlen (l := p)
        by_cases hl8 : p.length = 8
        · have hl82 : (p.length : Int) = 8 := by omega
          repeat' (first | (simp (disch := first | omega | assumption | (simp only [List.length_set]; omega) | (simp [*] <;> fail) | assumption) [-Bool.decide_and, -Bool.decide_or, -Bool.not_and, -Bool.not_or, toNat_pred, toNat_succ, wrap64, wr_new, wr_new0, ok_if, ok_ifn, iadV_sl, makeV_int, decT, decF, over_at, *, st]) | (with_reducible refine Gd_split (fun hc => ?_) (fun hc => ?_) <;> (have hc2 := hc; try simp at hc2)) | (with_reducible refine Br_split (fun hc => ?_) (fun hc => ?_) <;> (have hc2 := hc; try simp at hc2)) | (with_reducible refine GdT_split (fun hc => ?_) (fun hc => ?_) <;> (have hc2 := hc; try simp at hc2)) | (with_reducible refine WT_alt ?_ ?_) | omega)
          refine WL_forM 295147905170762893196 (by decide +kernel) (8) (fun k b' g' => k ≤ 8 ∧ b' 8 = .lf (.int .i64 k) ∧ ∃ n : Nat, b' 7 = .lf (.int .i64 (n : Int)) ∧ Hid (HexI p k n) ∧ g = g') (fun k _ _ hi => hi.1) ⟨by omega, by simp, 0, by simp, HexI.start, rfl⟩ ?_
          rintro k b' g' ⟨hk8, e8, n, e7, hH, rfl⟩
          have hH0 : HexI p k n := hH
          have hn2 := hH0.lt hk8
          by_cases hlt8 : k < 8
          · have hip : k < p.length := by omega
            have hat := tat (l := p) (k := .i64) hip
            have hcl : p[k].toNat < 256 := UInt8.toNat_lt _
            have hD : hexD p[k] = if 48 ≤ p[k].toNat ∧ p[k].toNat ≤ 57 then some (p[k].toNat - 48) else if 97 ≤ p[k].toNat ∧ p[k].toNat ≤ 102 then some (p[k].toNat - 87) else none := rfl
            have hlt82 : (k : Int) < 8 := by omega
            have hf8 := fun q => hH0.fail hip q
            have hs8 := fun d q => hH0.step (d := d) hip q
            clear hH hH0
            obtain ⟨D, hDe⟩ : ∃ D, Hid (hexD p[k] = D) := ⟨hexD p[k], rfl⟩
            rw [show hexD p[k] = D from hDe] at hD hf8 hs8
            generalize p[k].toNat = c at *
            by_cases c1 : 48 ≤ c ∧ c ≤ 57
            · rw [if_pos c1] at hD
              have hst8 : Hid (HexI p (k + 1) (16 * n + (c - 48))) := hs8 _ hD
              have d1 : (48 : Int) ≤ c := by omega
              have d2 : (c : Int) ≤ 57 := by omega
              have d3 : ¬ (97 : Int) ≤ c := by omega
              have hw : IntKind.u8.wrap ((c : Int) - 48) = (c : Int) - 48 := by rw [IntKind.wrap_u8]; omega
              have hnx : ((16 * n + (c - 48) : Nat) : Int) = 16 * (n : Int) + ((c : Int) - 48) := by omega
              have hnxH : Hid (((16 * n + (c - 48) : Nat) : Int) = 16 * (n : Int) + ((c : Int) - 48)) := hnx
              clear hD hf8 hs8 c1 hnx hkF
              repeat' (first | (simp (disch := first | omega | assumption | (simp only [List.length_set]; omega) | (simp [*] <;> fail) | assumption) [-Bool.decide_and, -Bool.decide_or, -Bool.not_and, -Bool.not_or, toNat_pred, toNat_succ, wrap64, wr_new, wr_new0, ok_if, ok_ifn, iadV_sl, makeV_int, decT, decF, over_at, *, st, u8to64]) | (with_reducible refine Gd_split (fun hc => ?_) (fun hc => ?_) <;> (have hc2 := hc; try simp at hc2)) | (with_reducible refine Br_split (fun hc => ?_) (fun hc => ?_) <;> (have hc2 := hc; try simp at hc2)) | (with_reducible refine GdT_split (fun hc => ?_) (fun hc => ?_) <;> (have hc2 := hc; try simp at hc2)) | (with_reducible refine WT_alt ?_ ?_) | omega)
              exact ⟨by omega, 16 * n + (c - 48), by rw [show ((16 * n + (c - 48) : Nat) : Int) = _ from hnxH], hst8⟩
            · rw [if_neg c1] at hD
              by_cases c2 : 97 ≤ c ∧ c ≤ 102
              · rw [if_pos c2] at hD
                have hst8 : Hid (HexI p (k + 1) (16 * n + (c - 87))) := hs8 _ hD
                have d1 : (48 : Int) ≤ c := by omega
                have d2 : ¬ (c : Int) ≤ 57 := by omega
                have d3 : (97 : Int) ≤ c := by omega
                have d4 : (c : Int) ≤ 102 := by omega
                have hw : IntKind.u8.wrap ((c : Int) - 97) = (c : Int) - 97 := by rw [IntKind.wrap_u8]; omega
                have hnxH : Hid (((16 * n + (c - 87) : Nat) : Int) = 16 * (n : Int) + ((c : Int) - 97 + 10)) := by
                  show ((16 * n + (c - 87) : Nat) : Int) = _
                  omega
                clear hD hf8 hs8 c1 c2 hkF
                repeat' (first | (simp (disch := first | omega | assumption | (simp only [List.length_set]; omega) | (simp [*] <;> fail) | assumption) [-Bool.decide_and, -Bool.decide_or, -Bool.not_and, -Bool.not_or, toNat_pred, toNat_succ, wrap64, wr_new, wr_new0, ok_if, ok_ifn, iadV_sl, makeV_int, decT, decF, over_at, *, st, u8to64]) | (with_reducible refine Gd_split (fun hc => ?_) (fun hc => ?_) <;> (have hc2 := hc; try simp at hc2)) | (with_reducible refine Br_split (fun hc => ?_) (fun hc => ?_) <;> (have hc2 := hc; try simp at hc2)) | (with_reducible refine GdT_split (fun hc => ?_) (fun hc => ?_) <;> (have hc2 := hc; try simp at hc2)) | (with_reducible refine WT_alt ?_ ?_) | omega)
                exact ⟨by omega, 16 * n + (c - 87), by rw [show ((16 * n + (c - 87) : Nat) : Int) = _ from hnxH], hst8⟩
              · rw [if_neg c2] at hD
                have hkF2 := hkF (hf8 hD)
                clear hD hf8 hs8 hkF
                by_cases d1 : (48 : Int) ≤ c
                · have d2 : ¬ (c : Int) ≤ 57 := by omega
                  by_cases d3 : (97 : Int) ≤ c
                  · have d4 : ¬ (c : Int) ≤ 102 := by omega
                    repeat' (first | (simp (disch := first | omega | assumption | (simp only [List.length_set]; omega) | (simp [*] <;> fail) | assumption) [-Bool.decide_and, -Bool.decide_or, -Bool.not_and, -Bool.not_or, toNat_pred, toNat_succ, wrap64, wr_new, wr_new0, ok_if, ok_ifn, iadV_sl, makeV_int, decT, decF, over_at, *, st]) | (with_reducible refine Gd_split (fun hc => ?_) (fun hc => ?_) <;> (have hc2 := hc; try simp at hc2)) | (with_reducible refine Br_split (fun hc => ?_) (fun hc => ?_) <;> (have hc2 := hc; try simp at hc2)) | (with_reducible refine GdT_split (fun hc => ?_) (fun hc => ?_) <;> (have hc2 := hc; try simp at hc2)) | (with_reducible refine WT_alt ?_ ?_) | omega)
                  · repeat' (first | (simp (disch := first | omega | assumption | (simp only [List.length_set]; omega) | (simp [*] <;> fail) | assumption) [-Bool.decide_and, -Bool.decide_or, -Bool.not_and, -Bool.not_or, toNat_pred, toNat_succ, wrap64, wr_new, wr_new0, ok_if, ok_ifn, iadV_sl, makeV_int, decT, decF, over_at, *, st]) | (with_reducible refine Gd_split (fun hc => ?_) (fun hc => ?_) <;> (have hc2 := hc; try simp at hc2)) | (with_reducible refine Br_split (fun hc => ?_) (fun hc => ?_) <;> (have hc2 := hc; try simp at hc2)) | (with_reducible refine GdT_split (fun hc => ?_) (fun hc => ?_) <;> (have hc2 := hc; try simp at hc2)) | (with_reducible refine WT_alt ?_ ?_) | omega)
                · have d3 : ¬ (97 : Int) ≤ c := by omega
                  repeat' (first | (simp (disch := first | omega | assumption | (simp only [List.length_set]; omega) | (simp [*] <;> fail) | assumption) [-Bool.decide_and, -Bool.decide_or, -Bool.not_and, -Bool.not_or, toNat_pred, toNat_succ, wrap64, wr_new, wr_new0, ok_if, ok_ifn, iadV_sl, makeV_int, decT, decF, over_at, *, st]) | (with_reducible refine Gd_split (fun hc => ?_) (fun hc => ?_) <;> (have hc2 := hc; try simp at hc2)) | (with_reducible refine Br_split (fun hc => ?_) (fun hc => ?_) <;> (have hc2 := hc; try simp at hc2)) | (with_reducible refine GdT_split (fun hc => ?_) (fun hc => ?_) <;> (have hc2 := hc; try simp at hc2)) | (with_reducible refine WT_alt ?_ ?_) | omega)
          · have : k = 8 := by omega
            subst this
            obtain ⟨h1, h2⟩ := hH0.done hl8
            have hcf := CF_can h2
            have hP : hexP p = if can .f32 n = n then some n else none := by unfold hexP; rw [if_pos hl8, h1]
            have hfr := fun g lim K => c_l01From (S := S) (h := g) (lim := lim) (K := K) h2
            have hbt := fun g lim K => c_l01Bits (S := S) (h := g) (lim := lim) (K := K) hcf
            by_cases hcan : can .f32 n = n
            · rw [if_pos hcan] at hP
              rw [hcan] at hfr hbt
              have hst : Hid (mapO hexP W = (mapO hexP (W.drop (i + 1))).map ((xs ++ [n]) ++ ·)) := (show ∀ y, hexP p = some y → mapO hexP W = (mapO hexP (W.drop (i + 1))).map ((xs ++ [y]) ++ ·) from hstH) n hP
              clear hkF hstH hH hH0 hP hcan hcf
              repeat' (first | (simp (disch := first | omega | assumption | (simp only [List.length_set]; omega) | (simp [*] <;> fail) | assumption) [-Bool.decide_and, -Bool.decide_or, -Bool.not_and, -Bool.not_or, toNat_pred, toNat_succ, wrap64, wr_new, wr_new0, ok_if, ok_ifn, iadV_sl, makeV_int, decT, decF, over_at, *, leavesAll, fillL]) | (with_reducible refine Gd_split (fun hc => ?_) (fun hc => ?_) <;> (have hc2 := hc; try simp at hc2)) | (with_reducible refine Br_split (fun hc => ?_) (fun hc => ?_) <;> (have hc2 := hc; try simp at hc2)) | (with_reducible refine GdT_split (fun hc => ?_) (fun hc => ?_) <;> (have hc2 := hc; try simp at hc2)) | (with_reducible refine WT_alt ?_ ?_) | omega)
              refine oc_push (r := fl n) (bytes := 4) hN hl (by simp; omega) (fun o2 g2 hN2 hB => ?_) (by decide) rfl (by decide)
              obtain ⟨hN4, hf2⟩ := hB.other hN hN1 hf
              have hN3 : New h g2 o2 51 1 ((xs ++ [n]).map fl) := by rw [List.map_append]; exact hN2
              clear hN hN1 hN2 hB hf
              repeat' (first | (simp (disch := first | omega | assumption | (simp only [List.length_set]; omega) | (simp [*] <;> fail) | assumption) [-Bool.decide_and, -Bool.decide_or, -Bool.not_and, -Bool.not_or, toNat_pred, toNat_succ, wrap64, wr_new, wr_new0, ok_if, ok_ifn, iadV_sl, makeV_int, decT, decF, over_at, *]) | (with_reducible refine Gd_split (fun hc => ?_) (fun hc => ?_) <;> (have hc2 := hc; try simp at hc2)) | (with_reducible refine Br_split (fun hc => ?_) (fun hc => ?_) <;> (have hc2 := hc; try simp at hc2)) | (with_reducible refine GdT_split (fun hc => ?_) (fun hc => ?_) <;> (have hc2 := hc; try simp at hc2)) | (with_reducible refine WT_alt ?_ ?_) | omega)
              exact ⟨by omega, xs ++ [n], hN3, by simp [hxl], hst⟩
            · rw [if_neg hcan] at hP
              have hkF2 := hkF hP
              have hne : ¬ ((can .f32 n : Nat) : Int) = (n : Int) := by omega
              clear hkF hstH hH hH0 hP hcan hcf
              generalize can .f32 n = x at *
              repeat' (first | (simp (disch := first | omega | assumption | (simp only [List.length_set]; omega) | (simp [*] <;> fail) | assumption) [-Bool.decide_and, -Bool.decide_or, -Bool.not_and, -Bool.not_or, toNat_pred, toNat_succ, wrap64, wr_new, wr_new0, ok_if, ok_ifn, iadV_sl, makeV_int, decT, decF, over_at, *]) | (with_reducible refine Gd_split (fun hc => ?_) (fun hc => ?_) <;> (have hc2 := hc; try simp at hc2)) | (with_reducible refine Br_split (fun hc => ?_) (fun hc => ?_) <;> (have hc2 := hc; try simp at hc2)) | (with_reducible refine GdT_split (fun hc => ?_) (fun hc => ?_) <;> (have hc2 := hc; try simp at hc2)) | (with_reducible refine WT_alt ?_ ?_) | omega)
        · have hl82 : ¬ (p.length : Int) = 8 := by omega
          have hkF2 := hkF (hexP_len hl8)
          clear hkF hstH
          repeat' (first | (simp (disch := first | omega | assumption | (simp only [List.length_set]; omega) | (simp [*] <;> fail) | assumption) [-Bool.decide_and, -Bool.decide_or, -Bool.not_and, -Bool.not_or, toNat_pred, toNat_succ, wrap64, wr_new, wr_new0, ok_if, ok_ifn, iadV_sl, makeV_int, decT, decF, over_at, *, st]) | (with_reducible refine Gd_split (fun hc => ?_) (fun hc => ?_) <;> (have hc2 := hc; try simp at hc2)) | (with_reducible refine Br_split (fun hc => ?_) (fun hc => ?_) <;> (have hc2 := hc; try simp at hc2)) | (with_reducible refine GdT_split (fun hc => ?_) (fun hc => ?_) <;> (have hc2 := hc; try simp at hc2)) | (with_reducible refine WT_alt ?_ ?_) | omega)
      · have : i = W.length := by omega
        have hd := mapO_done hM0 this
        have hkT := hT o g xs (by rw [hnp]; exact hd) hN
        clear hF hT hM hM0 hd
        subst this
        repeat' (first | (simp (disch := first | omega | assumption | (simp only [List.length_set]; omega) | (simp [*] <;> fail) | assumption) [-Bool.decide_and, -Bool.decide_or, -Bool.not_and, -Bool.not_or, toNat_pred, toNat_succ, wrap64, wr_new, wr_new0, ok_if, ok_ifn, iadV_sl, makeV_int, decT, decF, over_at, *]) | (with_reducible refine Gd_split (fun hc => ?_) (fun hc => ?_) <;> (have hc2 := hc; try simp at hc2)) | (with_reducible refine Br_split (fun hc => ?_) (fun hc => ?_) <;> (have hc2 := hc; try simp at hc2)) | (with_reducible refine GdT_split (fun hc => ?_) (fun hc => ?_) <;> (have hc2 := hc; try simp at hc2)) | (with_reducible refine WT_alt ?_ ?_) | omega)
    · rw [if_neg h256] at hnp
      have h256i : (256 : Int) < ((cut 44 s).length : Int) := by omega
      have hkF := hF hnp g1 hN1.kept
      clear hF hT
      generalize cut 44 s = W at *
      repeat' (first | (simp (disch := first | omega | assumption | (simp only [List.length_set]; omega) | (simp [*] <;> fail) | assumption) [-Bool.decide_and, -Bool.decide_or, -Bool.not_and, -Bool.not_or, toNat_pred, toNat_succ, wrap64, wr_new, wr_new0, ok_if, ok_ifn, iadV_sl, makeV_int, decT, decF, over_at, *]) | (with_reducible refine Gd_split (fun hc => ?_) (fun hc => ?_) <;> (have hc2 := hc; try simp at hc2)) | (with_reducible refine Br_split (fun hc => ?_) (fun hc => ?_) <;> (have hc2 := hc; try simp at hc2)) | (with_reducible refine GdT_split (fun hc => ?_) (fun hc => ?_) <;> (have hc2 := hc; try simp at hc2)) | (with_reducible refine WT_alt ?_ ?_) | omega)
end
end Go.E
