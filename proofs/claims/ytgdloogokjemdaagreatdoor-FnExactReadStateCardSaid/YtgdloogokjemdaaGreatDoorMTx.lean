/- Texts of numbers: hexadecimal digits, decimal digits, both sides. -/
import Derived.Test.YtgdloogokjemdaaGreatDoorMFl
import Derived.Test.YtgdloogokjemdaaGreatDoorMH
import Derived.Test.YtgdloogokjemdaaGreatDoorEG
import Derived.Lib.Join
import Derived.Lib.ItoaNum
set_option linter.unusedVariables false
set_option linter.unusedSimpArgs false
namespace Go.E
open Go
def L52 : LFn := ⟨1, (.seq (.reg [⟨(.some 2), (.mv (.c (.lf (.str ⟨#[]⟩)))), none⟩])
 (.seq (.reg [⟨(.some 6), (.mv (.t 0)), none⟩, ⟨(.some 7), (.call true 31 [(.t 6)]), none⟩, ⟨(.some 3), (.mv (.t 7)), none⟩])
 (.seq (.reg [⟨(.some 8), (.lit 5 1 0 [] []), none⟩, ⟨(.some 4), (.mv (.t 8)), none⟩])
 (.seq (.seq (.reg [⟨(.some 5), (.mv (.c (.lf (.int .i64 28)))), none⟩])
 (.block 0 (.loop (.seq (.seq (.reg [⟨(.some 9), (.mv (.t 5)), none⟩, ⟨(.some 10), (.bin .geq (.t 9) (.c (.lf (.int .i64 0)))), none⟩])
 (.cond (.t 10) .skip (.exit 0)))
 (.seq (.block 1 (.reg [⟨(.some 13), (.mv (.t 4)), none⟩, ⟨(.some 14), (.mv (.t 3)), none⟩, ⟨(.some 15), (.mv (.t 5)), none⟩, ⟨(.some 16), (.toint .u64 (.t 15)), none⟩, ⟨(.some 17), (.bin .shr (.t 14) (.t 16)), none⟩, ⟨(.some 18), (.bin .and (.t 17) (.c (.lf (.int .i64 15)))), none⟩, ⟨(.some 19), (.idx (.c (.lf (.str ⟨#[48, 49, 50, 51, 52, 53, 54, 55, 56, 57, 97, 98, 99, 100, 101, 102]⟩))) (.t 18)), none⟩, ⟨(.some 20), (.lit 5 1 1 [(.int .u8 0)] [(0, (1, (.t 19)))]), none⟩, ⟨(.some 21), (.app 5 1 1 (.t 13) (.t 20)), none⟩, ⟨(.some 4), (.mv (.t 21)), none⟩]))
 (.reg [⟨(.some 11), (.mv (.t 5)), none⟩, ⟨(.some 12), (.bin .sub (.t 11) (.c (.lf (.int .i64 4)))), none⟩, ⟨(.some 5), (.mv (.t 12)), none⟩]))))))
 (.seq (.reg [⟨(.some 22), (.mv (.t 4)), none⟩, ⟨(.some 23), (.tostr (.t 22)), none⟩, ⟨(.some 2), (.mv (.t 23)), none⟩])
 .ret))))), [(.tmp 2)]⟩
def L34 : LFn := ⟨1, (.seq (.reg [⟨(.some 2), (.mv (.c (.lf (.str ⟨#[]⟩)))), none⟩])
 (.seq (.reg [⟨(.some 6), (.lit 5 1 0 [] []), none⟩, ⟨(.some 3), (.mv (.t 6)), none⟩])
 (.seq (.reg [⟨(.some 7), (.mv (.t 0)), none⟩, ⟨(.some 4), (.mv (.t 7)), none⟩])
 (.seq (.block 0 (.loop (.seq (.seq (.reg [⟨(.some 8), (.mv (.t 3)), none⟩, ⟨(.some 9), (.len (.t 8)), none⟩, ⟨(.some 10), (.bin .eql (.t 9) (.c (.lf (.int .i64 0)))), none⟩, ⟨(.some 11), (.mv (.t 10)), none⟩, ⟨(.some 12), (.mv (.t 4)), (.some (11, false))⟩, ⟨(.some 13), (.bin .neq (.t 12) (.c (.lf (.int .i64 0)))), (.some (11, false))⟩, ⟨(.some 14), (.pick (.t 11) (.c (.lf (.bool true))) (.t 13)), none⟩])
 (.cond (.t 14) .skip (.exit 0)))
 (.block 1 (.seq (.reg [⟨(.some 15), (.mv (.t 4)), none⟩, ⟨(.some 16), (.bin .rem (.t 15) (.c (.lf (.int .i64 10)))), none⟩, ⟨(.some 5), (.mv (.t 16)), none⟩])
 (.seq (.seq (.reg [⟨(.some 17), (.mv (.t 5)), none⟩, ⟨(.some 18), (.bin .lss (.t 17) (.c (.lf (.int .i64 0)))), none⟩])
 (.cond (.t 18) (.reg [⟨(.some 19), (.mv (.t 5)), none⟩, ⟨(.some 20), (.una .neg (.t 19)), none⟩, ⟨(.some 5), (.mv (.t 20)), none⟩]) .skip))
 (.seq (.reg [⟨(.some 21), (.mv (.t 5)), none⟩, ⟨(.some 22), (.bin .add (.c (.lf (.int .i64 48))) (.t 21)), none⟩, ⟨(.some 23), (.toint .u8 (.t 22)), none⟩, ⟨(.some 24), (.lit 5 1 1 [(.int .u8 0)] [(0, (1, (.t 23)))]), none⟩, ⟨(.some 25), (.mv (.t 3)), none⟩, ⟨(.some 26), (.app 5 1 1 (.t 24) (.t 25)), none⟩, ⟨(.some 3), (.mv (.t 26)), none⟩])
 (.reg [⟨(.some 27), (.mv (.t 4)), none⟩, ⟨(.some 28), (.bin .quo (.t 27) (.c (.lf (.int .i64 10)))), none⟩, ⟨(.some 4), (.mv (.t 28)), none⟩]))))))))
 (.seq (.seq (.reg [⟨(.some 29), (.mv (.t 0)), none⟩, ⟨(.some 30), (.bin .lss (.t 29) (.c (.lf (.int .i64 0)))), none⟩])
 (.cond (.t 30) (.reg [⟨(.some 31), (.lit 5 1 1 [(.int .u8 0)] [(0, (1, (.c (.lf (.int .u8 45)))))]), none⟩, ⟨(.some 32), (.mv (.t 3)), none⟩, ⟨(.some 33), (.app 5 1 1 (.t 31) (.t 32)), none⟩, ⟨(.some 3), (.mv (.t 33)), none⟩]) .skip))
 (.seq (.reg [⟨(.some 34), (.mv (.t 3)), none⟩, ⟨(.some 35), (.tostr (.t 34)), none⟩, ⟨(.some 2), (.mv (.t 35)), none⟩])
 .ret)))))), [(.tmp 2)]⟩
def L77 : LFn := ⟨1, (.seq (.reg [⟨(.some 2), (.mv (.c (.lf (.int .i64 0)))), none⟩])
 (.seq (.seq (.reg [⟨(.some 3), (.mv (.t 0)), none⟩, ⟨(.some 4), (.mv (.t 0)), none⟩, ⟨(.some 5), (.bin .neq (.t 3) (.t 4)), none⟩])
 (.cond (.t 5) (.seq (.reg [⟨(.some 2), (.mv (.c (.lf (.int .i64 2143289344)))), none⟩])
 .ret) .skip))
 (.seq (.reg [⟨(.some 6), (.mv (.t 0)), none⟩, ⟨(.some 7), (.xop .bits32 [(.t 6)]), none⟩, ⟨(.some 8), (.toint .i64 (.t 7)), none⟩, ⟨(.some 2), (.mv (.t 8)), none⟩])
 .ret))), [(.tmp 2)]⟩
def L61 : LFn := ⟨1, (.seq (.reg [⟨(.some 2), (.mv (.c (.lf (.str ⟨#[]⟩)))), none⟩])
 (.seq (.reg [⟨(.some 3), (.mv (.c (.lf (.str ⟨#[]⟩)))), none⟩])
 (.seq (.reg [⟨(.some 7), (.mv (.t 0)), none⟩, ⟨(.some 8), (.call true 77 [(.t 7)]), none⟩, ⟨(.some 4), (.mv (.t 8)), none⟩])
 (.seq (.seq (.reg [⟨(.some 5), (.mv (.c (.lf (.int .i64 28)))), none⟩])
 (.block 0 (.loop (.seq (.seq (.reg [⟨(.some 9), (.mv (.t 5)), none⟩, ⟨(.some 10), (.bin .geq (.t 9) (.c (.lf (.int .i64 0)))), none⟩])
 (.cond (.t 10) .skip (.exit 0)))
 (.seq (.block 1 (.seq (.reg [⟨(.some 13), (.mv (.t 4)), none⟩, ⟨(.some 14), (.mv (.t 5)), none⟩, ⟨(.some 15), (.bin .shr (.t 13) (.t 14)), none⟩, ⟨(.some 16), (.bin .and (.t 15) (.c (.lf (.int .i64 15)))), none⟩, ⟨(.some 6), (.mv (.t 16)), none⟩])
 (.reg [⟨(.some 17), (.mv (.t 3)), none⟩, ⟨(.some 18), (.mv (.t 6)), none⟩, ⟨(.some 19), (.mv (.t 6)), none⟩, ⟨(.some 20), (.bin .add (.t 19) (.c (.lf (.int .i64 1)))), none⟩, ⟨(.some 21), (.sstr (.c (.lf (.str ⟨#[48, 49, 50, 51, 52, 53, 54, 55, 56, 57, 97, 98, 99, 100, 101, 102]⟩))) (.some (.t 18)) (.some (.t 20))), none⟩, ⟨(.some 22), (.bin .add (.t 17) (.t 21)), none⟩, ⟨(.some 3), (.mv (.t 22)), none⟩])))
 (.reg [⟨(.some 11), (.mv (.t 5)), none⟩, ⟨(.some 12), (.bin .sub (.t 11) (.c (.lf (.int .i64 4)))), none⟩, ⟨(.some 5), (.mv (.t 12)), none⟩]))))))
 (.seq (.reg [⟨(.some 23), (.mv (.t 3)), none⟩, ⟨(.some 2), (.mv (.t 23)), none⟩])
 .ret))))), [(.tmp 2)]⟩
class HasTx (S : Sys) : Prop extends HasFb S where
  f52 : S.fs 52 = some L52
  f34 : S.fs 34 = some L34
  f77 : S.fs 77 = some L77
  f61 : S.fs 61 = some L61
section
variable {S : Sys} {lim : Nat} {a : Fr} {h : Hp} {K : CV → Hp → Prop}
def sstrV (x : CV) (lo hi : Option CV) : Option CV := match x with
    | .lf (.str s) => (boundV s.size hi).bind fun hi' => (boundV 0 lo).bind fun lo' => if lo' ≤ hi' ∧ hi' ≤ s.size then some (.lf (.str (s.extract lo' hi'))) else none
    | _ => none
@[simp] theorem wO_sstr {x : X} {lo hi : Option X} : wO S lim (.sstr x lo hi) a h K = oc ((sstrV (evX a x) (evO2 a lo) (evO2 a hi)).map fun v => (v, h)) K := by
  unfold wO; simp only [evO]
  generalize evX a x = u; rcases u with l | l | l <;> try rfl
  cases l <;> try rfl
  rename_i s
  simp only [sstrV]
  cases boundV s.size (evO2 a hi) <;> try rfl
  simp only [Option.bind_some]
  cases boundV 0 (evO2 a lo) <;> try rfl
  simp only [Option.bind_some]
  split <;> rfl
@[simp] theorem binV_str_add {x y : List UInt8} (h : x.length + y.length ≤ 9223372036854775807) : binV .add (.lf (.str ⟨x.toArray⟩)) (.lf (.str ⟨y.toArray⟩)) = some (.lf (.str ⟨(x ++ y).toArray⟩)) := by
  have e : (⟨x.toArray⟩ : ByteArray) ++ (⟨y.toArray⟩ : ByteArray) = ⟨(x ++ y).toArray⟩ := by
    apply ByteArray.ext
    simp
  have s1 : (⟨x.toArray⟩ : ByteArray).size = x.length := by simp [ByteArray.size]
  have s2 : (⟨y.toArray⟩ : ByteArray).size = y.length := by simp [ByteArray.size]
  simp only [binV, sop]
  rw [s1, s2, if_pos h, e]
theorem shr_nat {x k : Nat} {k2 : IntKind} (hk : k < 64) : binV .shr (.lf (.int .i64 x)) (.lf (.int k2 (k : Int))) = some (.lf (.int .i64 ((x / 2 ^ k : Nat) : Int))) := by
  simp only [binV, isShift, if_true, ishift]
  rw [if_neg (by omega)]
  have e : min (k : Int).toNat IntKind.i64.bits = k := by
    have : IntKind.i64.bits = 64 := rfl
    rw [this]; omega
  rw [e]
  congr 3
  have e2 : (2 : Int) ^ k = ((2 ^ k : Nat) : Int) := by simp
  rw [e2, Int.fdiv_eq_ediv_of_nonneg _ (Int.natCast_nonneg _)]
  rfl
theorem and15 {x : Nat} (hx : x < 9223372036854775808) : binV .and (.lf (.int .i64 x)) (.lf (.int .i64 15)) = some (.lf (.int .i64 ((x % 16 : Nat) : Int))) := by
  have h1 : binV .and (.lf (.int .i64 x)) (.lf (.int .i64 15)) = some (.lf (.int .i64 ((x &&& 15 : Nat) : Int))) := and_i64 (x := x) (y := 15) hx (by omega)
  have h2 := Nat.and_two_pow_sub_one_eq_mod x 4
  have h3 : x &&& 15 = x % 16 := h2
  rw [h1, h3]
/-- The digits' signs. -/
def hexT : ByteArray := ⟨#[48, 49, 50, 51, 52, 53, 54, 55, 56, 57, 97, 98, 99, 100, 101, 102]⟩
def hexC (d : Nat) : UInt8 := UInt8.ofNat (if d < 10 then 48 + d else 87 + d)
theorem sixteen {d : Nat} (h : d < 16) : d = 0 ∨ d = 1 ∨ d = 2 ∨ d = 3 ∨ d = 4 ∨ d = 5 ∨ d = 6 ∨ d = 7 ∨ d = 8 ∨ d = 9 ∨ d = 10 ∨ d = 11 ∨ d = 12 ∨ d = 13 ∨ d = 14 ∨ d = 15 := by omega
theorem hex_at {d : Nat} (h : d < 16) : idxV (.lf (.str ⟨#[48, 49, 50, 51, 52, 53, 54, 55, 56, 57, 97, 98, 99, 100, 101, 102]⟩)) (.lf (.int .i64 (d : Int))) = some (.lf (.int .u8 ((hexC d).toNat : Int))) := by
  rcases sixteen h with rfl | rfl | rfl | rfl | rfl | rfl | rfl | rfl | rfl | rfl | rfl | rfl | rfl | rfl | rfl | rfl <;> rfl
theorem hex_cut {d : Nat} (h : d < 16) : sstrV (.lf (.str ⟨#[48, 49, 50, 51, 52, 53, 54, 55, 56, 57, 97, 98, 99, 100, 101, 102]⟩)) (some (.lf (.int .i64 (d : Int)))) (some (.lf (.int .i64 ((d : Int) + 1)))) = some (.lf (.str ⟨[hexC d].toArray⟩)) := by
  rcases sixteen h with rfl | rfl | rfl | rfl | rfl | rfl | rfl | rfl | rfl | rfl | rfl | rfl | rfl | rfl | rfl | rfl <;> rfl
/-- The first i of a number's eight digits. -/
def hexN (x i : Nat) : List UInt8 := (List.range i).map fun j => hexC (x / 2 ^ (28 - 4 * j) % 16)
def hexS (x : Nat) : List UInt8 := hexN x 8
theorem hexN_succ {x i : Nat} : hexN x (i + 1) = hexN x i ++ [hexC (x / 2 ^ (28 - 4 * i) % 16)] := by simp [hexN, List.range_succ]
@[simp] theorem hexN_len {x i : Nat} : (hexN x i).length = i := by simp [hexN]
@[simp] theorem hexS_len {x : Nat} : (hexS x).length = 8 := hexN_len
def ub (c : UInt8) : List Lf := [.int .u8 (c.toNat : Int)]
theorem bytes_ub : ∀ {xs : List UInt8}, bytesL ((xs.map ub).flatten) = some xs
  | [] => rfl
  | x :: xs => by
    have := bytes_ub (xs := xs)
    simp only [List.map_cons, List.flatten_cons, ub, List.cons_append, List.nil_append, bytesL] at this ⊢
    rw [this]
    simp
theorem tostr_of {g : Hp} {l : Lf} {ty : Nat} {xs : List UInt8} (hN : New h g l ty 1 (xs.map ub)) : tostrV g (.lf l) = some (.lf (.str ⟨xs.toArray⟩)) := by
  unfold tostrV
  rw [hN.src]
  simp only [Option.bind_some, bytes_ub]
  rfl
end
section
variable {S : Sys} {lim : Nat} {h : Hp} {K : CV → Hp → Prop} [HasTx S]
theorem c_BitsOf {x : Nat} (hx : CF x) : CallT S true 77 [.lf (.flt .f32 x)] h lim K = K (.lf (.int .i64 x)) h := by
  obtain ⟨h1, h2⟩ := id hx
  refine CallT_pure (F := L77) (HasTx.f77) rfl (by first | rfl | (split <;> rfl) | simp) ?_; unfold L77; dsimp only []
  cases hn : isNaN .f32 x
  · have e1 := fcmp_self hn
    repeat' (first | (simp (disch := first | omega | assumption | (simp only [List.length_set]; omega) | (simp [*] <;> fail) | assumption) [-Bool.decide_and, -Bool.decide_or, -Bool.not_and, -Bool.not_or, toNat_pred, toNat_succ, wrap64, wr_new, wr_new0, ok_if, ok_ifn, iadV_sl, makeV_int, decT, decF, over_at, *, fcmp_neq, xop_bits32]) | (with_reducible refine Gd_split (fun hc => ?_) (fun hc => ?_) <;> (have hc2 := hc; try simp at hc2)) | (with_reducible refine Br_split (fun hc => ?_) (fun hc => ?_) <;> (have hc2 := hc; try simp at hc2)) | (with_reducible refine GdT_split (fun hc => ?_) (fun hc => ?_) <;> (have hc2 := hc; try simp at hc2)) | (with_reducible refine WT_alt ?_ ?_) | omega)
  · have e1 := fcmp_self_nan hn
    have e2 := hx.nan hn
    subst e2
    repeat' (first | (simp (disch := first | omega | assumption | (simp only [List.length_set]; omega) | (simp [*] <;> fail) | assumption) [-Bool.decide_and, -Bool.decide_or, -Bool.not_and, -Bool.not_or, toNat_pred, toNat_succ, wrap64, wr_new, wr_new0, ok_if, ok_ifn, iadV_sl, makeV_int, decT, decF, over_at, *, fcmp_neq]) | (with_reducible refine Gd_split (fun hc => ?_) (fun hc => ?_) <;> (have hc2 := hc; try simp at hc2)) | (with_reducible refine Br_split (fun hc => ?_) (fun hc => ?_) <;> (have hc2 := hc; try simp at hc2)) | (with_reducible refine GdT_split (fun hc => ?_) (fun hc => ?_) <;> (have hc2 := hc; try simp at hc2)) | (with_reducible refine WT_alt ?_ ?_) | omega)
theorem c_hexOf {x : Nat} (hx : CF x) : CallT S true 61 [.lf (.flt .f32 x)] h lim K = K (.lf (.str ⟨(hexS x).toArray⟩)) h := by
  have hx1 := hx.1
  refine CallT_pure (F := L61) (HasTx.f61) rfl (by first | rfl | (split <;> rfl) | simp) ?_; unfold L61; dsimp only []
  repeat' (first | (simp (disch := first | omega | assumption | (simp only [List.length_set]; omega) | (simp [*] <;> fail) | assumption) [-Bool.decide_and, -Bool.decide_or, -Bool.not_and, -Bool.not_or, toNat_pred, toNat_succ, wrap64, wr_new, wr_new0, ok_if, ok_ifn, iadV_sl, makeV_int, decT, decF, over_at, *, c_BitsOf hx]) | (with_reducible refine Gd_split (fun hc => ?_) (fun hc => ?_) <;> (have hc2 := hc; try simp at hc2)) | (with_reducible refine Br_split (fun hc => ?_) (fun hc => ?_) <;> (have hc2 := hc; try simp at hc2)) | (with_reducible refine GdT_split (fun hc => ?_) (fun hc => ?_) <;> (have hc2 := hc; try simp at hc2)) | (with_reducible refine WT_alt ?_ ?_) | omega)
  refine WL_forM 8388200 (by decide +kernel) (8) (fun i b g => i ≤ 8 ∧ b 5 = .lf (.int .i64 (28 - 4 * (i : Int))) ∧ b 3 = .lf (.str ⟨(hexN x i).toArray⟩) ∧ h = g) (fun _ _ _ hi => hi.1) ⟨by omega, by simp, by simp [hexN], rfl⟩ ?_
  rintro i b g ⟨hi, e5, e3, rfl⟩
  by_cases hlt : i < 8
  · obtain ⟨k, hk⟩ : ∃ k : Nat, 28 - 4 * i = k := ⟨_, rfl⟩
    have hki : 28 - 4 * (i : Int) = (k : Int) := by omega
    rw [hki] at e5
    have hsh := shr_nat (x := x) (k := k) (k2 := .i64) (by omega)
    have hq : x / 2 ^ k < 9223372036854775808 := by
      have := Nat.div_le_self x (2 ^ k)
      omega
    have ha := and15 hq
    have hd : x / 2 ^ k % 16 < 16 := Nat.mod_lt _ (by decide)
    have hsucc := hexN_succ (x := x) (i := i)
    rw [hk] at hsucc
    have hk4 : (k : Int) - 4 = 28 - 4 * ((i + 1 : Nat) : Int) := by omega
    generalize x / 2 ^ k = y at *
    have hcut := hex_cut hd
    have hl := hexN_len (x := x) (i := i)
    have hS : Hid (hexN x (i + 1) = hexN x i ++ [hexC (y % 16)]) := hsucc
    clear hsucc
    generalize y % 16 = z at *
    generalize hexN x i = p at *
    have hadd := binV_str_add (x := p) (y := [hexC z]) (by simp; omega)
    repeat' (first | (simp (disch := first | omega | assumption | (simp only [List.length_set]; omega) | (simp [*] <;> fail) | assumption) [-Bool.decide_and, -Bool.decide_or, -Bool.not_and, -Bool.not_or, toNat_pred, toNat_succ, wrap64, wr_new, wr_new0, ok_if, ok_ifn, iadV_sl, makeV_int, decT, decF, over_at, *]) | (with_reducible refine Gd_split (fun hc => ?_) (fun hc => ?_) <;> (have hc2 := hc; try simp at hc2)) | (with_reducible refine Br_split (fun hc => ?_) (fun hc => ?_) <;> (have hc2 := hc; try simp at hc2)) | (with_reducible refine GdT_split (fun hc => ?_) (fun hc => ?_) <;> (have hc2 := hc; try simp at hc2)) | (with_reducible refine WT_alt ?_ ?_) | omega)
    exact ⟨by omega, by rw [show hexN x (i + 1) = _ from hS]⟩
  · have : i = 8 := by omega
    subst this
    repeat' (first | (simp (disch := first | omega | assumption | (simp only [List.length_set]; omega) | (simp [*] <;> fail) | assumption) [-Bool.decide_and, -Bool.decide_or, -Bool.not_and, -Bool.not_or, toNat_pred, toNat_succ, wrap64, wr_new, wr_new0, ok_if, ok_ifn, iadV_sl, makeV_int, decT, decF, over_at, *]) | (with_reducible refine Gd_split (fun hc => ?_) (fun hc => ?_) <;> (have hc2 := hc; try simp at hc2)) | (with_reducible refine Br_split (fun hc => ?_) (fun hc => ?_) <;> (have hc2 := hc; try simp at hc2)) | (with_reducible refine GdT_split (fun hc => ?_) (fun hc => ?_) <;> (have hc2 := hc; try simp at hc2)) | (with_reducible refine WT_alt ?_ ?_) | omega)
    rfl
theorem c_l01Hex {x : Nat} (hx : CF x) : CallT S true 52 [.lf (.flt .f32 x)] h lim K = K (.lf (.str ⟨(hexS x).toArray⟩)) h := by
  have hx1 := hx.1
  have z0 : New h (h ++ [⟨[], .own 5 1⟩]) (.sl h.length 0 0 1) 5 1 [] := New.litN (Kept.refl h)
  refine CallT_pure (F := L52) (HasTx.f52) rfl (by first | rfl | (split <;> rfl) | simp) ?_; unfold L52; dsimp only []
  repeat' (first | (simp (disch := first | omega | assumption | (simp only [List.length_set]; omega) | (simp [*] <;> fail) | assumption) [-Bool.decide_and, -Bool.decide_or, -Bool.not_and, -Bool.not_or, toNat_pred, toNat_succ, wrap64, wr_new, wr_new0, ok_if, ok_ifn, iadV_sl, makeV_int, decT, decF, over_at, *, c_l01Bits hx, leavesAll, fillL]) | (with_reducible refine Gd_split (fun hc => ?_) (fun hc => ?_) <;> (have hc2 := hc; try simp at hc2)) | (with_reducible refine Br_split (fun hc => ?_) (fun hc => ?_) <;> (have hc2 := hc; try simp at hc2)) | (with_reducible refine GdT_split (fun hc => ?_) (fun hc => ?_) <;> (have hc2 := hc; try simp at hc2)) | (with_reducible refine WT_alt ?_ ?_) | omega)
  refine WL_forM 4193840 (by decide +kernel) (8) (fun i b g => i ≤ 8 ∧ b 5 = .lf (.int .i64 (28 - 4 * (i : Int))) ∧ ∃ o, b 4 = .lf o ∧ New h g o 5 1 ((hexN x i).map ub)) (fun _ _ _ hi => hi.1) ⟨by omega, by simp, _, rfl, z0⟩ ?_
  clear z0
  rintro i b g ⟨hi, e5, o, e4, hN⟩
  by_cases hlt : i < 8
  · obtain ⟨k, hk⟩ : ∃ k : Nat, 28 - 4 * i = k := ⟨_, rfl⟩
    have hki : 28 - 4 * (i : Int) = (k : Int) := by omega
    rw [hki] at e5
    have hsh := shr_nat (x := x) (k := k) (k2 := .u64) (by omega)
    have hq : x / 2 ^ k < 9223372036854775808 := by
      have := Nat.div_le_self x (2 ^ k)
      omega
    have ha := and15 hq
    have hd : x / 2 ^ k % 16 < 16 := Nat.mod_lt _ (by decide)
    have hsucc := hexN_succ (x := x) (i := i)
    rw [hk] at hsucc
    have hk4 : (k : Int) - 4 = 28 - 4 * ((i + 1 : Nat) : Int) := by omega
    have hu : IntKind.u64.wrap (k : Int) = k := by rw [IntKind.wrap_u64]; omega
    generalize x / 2 ^ k = y at *
    have hcut := hex_at hd
    have hl := hexN_len (x := x) (i := i)
    have hS : Hid (hexN x (i + 1) = hexN x i ++ [hexC (y % 16)]) := hsucc
    clear hsucc
    generalize y % 16 = z at *
    generalize hexN x i = p at *
    repeat' (first | (simp (disch := first | omega | assumption | (simp only [List.length_set]; omega) | (simp [*] <;> fail) | assumption) [-Bool.decide_and, -Bool.decide_or, -Bool.not_and, -Bool.not_or, toNat_pred, toNat_succ, wrap64, wr_new, wr_new0, ok_if, ok_ifn, iadV_sl, makeV_int, decT, decF, over_at, *, leavesAll, fillL]) | (with_reducible refine Gd_split (fun hc => ?_) (fun hc => ?_) <;> (have hc2 := hc; try simp at hc2)) | (with_reducible refine Br_split (fun hc => ?_) (fun hc => ?_) <;> (have hc2 := hc; try simp at hc2)) | (with_reducible refine GdT_split (fun hc => ?_) (fun hc => ?_) <;> (have hc2 := hc; try simp at hc2)) | (with_reducible refine WT_alt ?_ ?_) | omega)
    refine oc_push (r := ub (hexC z)) (bytes := 1) hN (by omega) (by simp; omega) (fun o2 g2 hN2 hB => ?_) (by decide) rfl (by decide)
    have hN3 : New h g2 o2 5 1 ((hexN x (i + 1)).map ub) := by
      rw [show hexN x (i + 1) = _ from hS, List.map_append]; exact hN2
    clear hN hN2 hB hS
    repeat' (first | (simp (disch := first | omega | assumption | (simp only [List.length_set]; omega) | (simp [*] <;> fail) | assumption) [-Bool.decide_and, -Bool.decide_or, -Bool.not_and, -Bool.not_or, toNat_pred, toNat_succ, wrap64, wr_new, wr_new0, ok_if, ok_ifn, iadV_sl, makeV_int, decT, decF, over_at, *]) | (with_reducible refine Gd_split (fun hc => ?_) (fun hc => ?_) <;> (have hc2 := hc; try simp at hc2)) | (with_reducible refine Br_split (fun hc => ?_) (fun hc => ?_) <;> (have hc2 := hc; try simp at hc2)) | (with_reducible refine GdT_split (fun hc => ?_) (fun hc => ?_) <;> (have hc2 := hc; try simp at hc2)) | (with_reducible refine WT_alt ?_ ?_) | omega)
  · have : i = 8 := by omega
    subst this
    have ht := tostr_of hN
    repeat' (first | (simp (disch := first | omega | assumption | (simp only [List.length_set]; omega) | (simp [*] <;> fail) | assumption) [-Bool.decide_and, -Bool.decide_or, -Bool.not_and, -Bool.not_or, toNat_pred, toNat_succ, wrap64, wr_new, wr_new0, ok_if, ok_ifn, iadV_sl, makeV_int, decT, decF, over_at, *]) | (with_reducible refine Gd_split (fun hc => ?_) (fun hc => ?_) <;> (have hc2 := hc; try simp at hc2)) | (with_reducible refine Br_split (fun hc => ?_) (fun hc => ?_) <;> (have hc2 := hc; try simp at hc2)) | (with_reducible refine GdT_split (fun hc => ?_) (fun hc => ?_) <;> (have hc2 := hc; try simp at hc2)) | (with_reducible refine WT_alt ?_ ?_) | omega)
    rfl
/-- What is left of a number, and the digits that are written. -/
def DecI (n r : Nat) (out : List UInt8) : Prop := Lib.decDigits n = (if r = 0 ∧ out ≠ [] then [] else Lib.decDigits r) ++ out
theorem DecI.step {n r : Nat} {out : List UInt8} (h : DecI n r out) (hr : r ≠ 0 ∨ out = []) : DecI n (r / 10) (UInt8.ofNat (48 + r % 10) :: out) := by
  unfold DecI at *
  rw [h, if_neg (by rintro ⟨h1, h2⟩; rcases hr with q | q; exact q h1; exact h2 q)]
  by_cases h1 : r < 10
  · rw [if_pos ⟨by omega, by simp⟩, Lib.decDigits_one h1, Nat.mod_eq_of_lt h1]; rfl
  · rw [if_neg (by rintro ⟨h2, _⟩; omega)]
    rw [Lib.decDigits, dif_neg h1, List.append_assoc]; rfl
theorem tmod10 {n : Nat} : ((n : Nat) : Int).tmod 10 = ((n % 10 : Nat) : Int) := rfl
theorem tdiv10 {n : Nat} : ((n : Nat) : Int).tdiv 10 = ((n / 10 : Nat) : Int) := rfl
theorem ub_dig {d : Nat} (h : d < 10) : ub (UInt8.ofNat (48 + d)) = [.int .u8 (48 + (d : Int))] := by
  unfold ub
  have : (UInt8.ofNat (48 + d)).toNat = 48 + d := by
    rw [UInt8.toNat_ofNat']; omega
  rw [this]; rfl
set_option maxHeartbeats 1000000 in
theorem c_l01Dec {n : Nat} (hn : n < 10000000000000000000) (hn2 : n < 9223372036854775808) : CallT S true 34 [.lf (.int .i64 n)] h lim K = K (.lf (.str ⟨(Lib.decDigits n).toArray⟩)) h := by
  have z0 : New h (h ++ [⟨[], .own 5 1⟩]) (.sl h.length 0 0 1) 5 1 (([] : List UInt8).map ub) := New.litN (Kept.refl h)
  refine CallT_pure (F := L34) (HasTx.f34) rfl (by first | rfl | (split <;> rfl) | simp) ?_; unfold L34; dsimp only []
  repeat' (first | (simp (disch := first | omega | assumption | (simp only [List.length_set]; omega) | (simp [*] <;> fail) | assumption) [-Bool.decide_and, -Bool.decide_or, -Bool.not_and, -Bool.not_or, toNat_pred, toNat_succ, wrap64, wr_new, wr_new0, ok_if, ok_ifn, iadV_sl, makeV_int, decT, decF, over_at, *, leavesAll, fillL]) | (with_reducible refine Gd_split (fun hc => ?_) (fun hc => ?_) <;> (have hc2 := hc; try simp at hc2)) | (with_reducible refine Br_split (fun hc => ?_) (fun hc => ?_) <;> (have hc2 := hc; try simp at hc2)) | (with_reducible refine GdT_split (fun hc => ?_) (fun hc => ?_) <;> (have hc2 := hc; try simp at hc2)) | (with_reducible refine WT_alt ?_ ?_) | omega)
  refine WL_forM 536870712 (by decide +kernel) (20) (fun i b g => i ≤ 20 ∧ ∃ r out o, b 4 = .lf (.int .i64 ((r : Nat) : Int)) ∧ b 3 = .lf o ∧ New h g o 5 1 (out.map ub) ∧ DecI n r out ∧ out.length = i ∧ r * 10 ^ i ≤ n) (fun _ _ _ hi => hi.1) ⟨by omega, n, [], _, by simp, rfl, z0, by simp [DecI], rfl, by simp⟩ ?_
  clear z0
  rintro i b g ⟨hi, r, out, o, e4, e3, hN, hD, hlen, hp⟩
  have hl := hN.arr.len
  rw [hlen] at hl
  by_cases hc : i = 0 ∨ r ≠ 0
  · have hlt : i < 20 := by
      rcases hc with hc | hc
      · omega
      · apply Nat.lt_of_not_le
        intro h20
        have : 10 ^ 20 ≤ 10 ^ i := Nat.pow_le_pow_right (by omega) h20
        have h2 : 1 * 10 ^ i ≤ r * 10 ^ i := Nat.mul_le_mul_right _ (by omega)
        omega
    have hr2 : r ≤ n := by
      have : r * 1 ≤ r * 10 ^ i := Nat.mul_le_mul_left _ (Nat.one_le_pow _ _ (by omega))
      omega
    have hd : r % 10 < 10 := Nat.mod_lt _ (by omega)
    have hstep := hD.step (by rcases hc with q | q; exact .inr (List.length_eq_zero_iff.1 (by omega)); exact .inl q)
    have hp2 : r / 10 * 10 ^ (i + 1) ≤ n := by
      have h1 : r / 10 * 10 ≤ r := Nat.div_mul_le_self _ _
      have h2 := Nat.mul_le_mul_right (10 ^ i) h1
      rw [Nat.pow_succ, Nat.mul_comm (10 ^ i) 10, ← Nat.mul_assoc]
      omega
    have hub := ub_dig hd
    have hw : IntKind.u8.wrap (48 + ((r % 10 : Nat) : Int)) = 48 + ((r % 10 : Nat) : Int) := by rw [IntKind.wrap_u8]; omega
    have tm := tmod10 (n := r)
    have td := tdiv10 (n := r)
    have hsrc := hN.src
    have hrow := fun i r hi => (hN.arr.row i r hi).1
    have kN := hN.kept
    have hq1 : r / 10 ≤ r := Nat.div_le_self _ _
    obtain ⟨q, hq⟩ : ∃ q, r / 10 = q := ⟨_, rfl⟩
    rw [hq] at hstep hp2 td hq1
    obtain ⟨d, hdd⟩ : ∃ d, r % 10 = d := ⟨_, rfl⟩
    rw [hdd] at hstep hd hub hw tm
    have hSd : Hid (DecI n q (UInt8.ofNat (48 + d) :: out)) := hstep
    clear hD hstep hq hdd
    have fin : ∀ o2 g2, New h g2 o2 5 1 ([.int .u8 (48 + (d : Int))] :: out.map ub) → New h g2 o2 5 1 ((UInt8.ofNat (48 + d) :: out).map ub) := fun o2 g2 hh => by
      rw [List.map_cons, hub]; exact hh
    have zl : New h (g ++ [⟨[.int .u8 (48 + (d : Int))], .own 5 1⟩]) (.sl g.length 0 1 1) 5 1 [[.int .u8 (48 + (d : Int))]] := by
      have hS : Sl (g ++ [(⟨[.int .u8 (48 + (d : Int))], .own 5 1⟩ : Ob)]) g.length 5 1 [[.int .u8 (48 + (d : Int))]] := ⟨by rw [List.getElem?_append_right (Nat.le_refl _)]; simp, fun i r hi => by
        have hm := List.mem_of_getElem? hi
        simp at hm; subst hm; rfl⟩
      exact New.of_sl kN.more hS kN.1 (by simp)
    have hsrc2 := src_kept (Kept.app g [(⟨[.int .u8 (48 + (d : Int))], .own 5 1⟩ : Ob)]) hsrc
    have hlen2 : (UInt8.ofNat (48 + d) :: out).length = i + 1 := by simp [hlen]
    have hr9 : r ≤ 9223372036854775807 := by omega
    clear hN kN hp hsrc hub
    by_cases hi0 : i = 0
    · subst hi0
      repeat' (first | (simp (disch := first | omega | assumption | (simp only [List.length_set]; omega) | (simp [*] <;> fail) | assumption) [-Bool.decide_and, -Bool.decide_or, -Bool.not_and, -Bool.not_or, toNat_pred, toNat_succ, wrap64, wr_new, wr_new0, ok_if, ok_ifn, iadV_sl, makeV_int, decT, decF, over_at, *, leavesAll, fillL]) | (with_reducible refine Gd_split (fun hc => ?_) (fun hc => ?_) <;> (have hc2 := hc; try simp at hc2)) | (with_reducible refine Br_split (fun hc => ?_) (fun hc => ?_) <;> (have hc2 := hc; try simp at hc2)) | (with_reducible refine GdT_split (fun hc => ?_) (fun hc => ?_) <;> (have hc2 := hc; try simp at hc2)) | (with_reducible refine WT_alt ?_ ?_) | omega)
      refine oc_app (new := out.map ub) zl (Nat.le_refl _) hsrc2 hrow (by simp; omega) (fun o2 g2 hN2 hB => ?_)
      have hN3 := fin o2 g2 hN2
      clear hN2 hB zl fin hrow hsrc2 hl
      repeat' (first | (simp (disch := first | omega | assumption | (simp only [List.length_set]; omega) | (simp [*] <;> fail) | assumption) [-Bool.decide_and, -Bool.decide_or, -Bool.not_and, -Bool.not_or, toNat_pred, toNat_succ, wrap64, wr_new, wr_new0, ok_if, ok_ifn, iadV_sl, makeV_int, decT, decF, over_at, *]) | (with_reducible refine Gd_split (fun hc => ?_) (fun hc => ?_) <;> (have hc2 := hc; try simp at hc2)) | (with_reducible refine Br_split (fun hc => ?_) (fun hc => ?_) <;> (have hc2 := hc; try simp at hc2)) | (with_reducible refine GdT_split (fun hc => ?_) (fun hc => ?_) <;> (have hc2 := hc; try simp at hc2)) | (with_reducible refine WT_alt ?_ ?_) | omega)
      exact ⟨q, rfl, _, hN3, hSd, hlen2, by simpa using hp2⟩
    · have hi1 : ¬ (i : Int) = 0 := by omega
      have hrn : ¬ (r : Int) = 0 := by omega
      repeat' (first | (simp (disch := first | omega | assumption | (simp only [List.length_set]; omega) | (simp [*] <;> fail) | assumption) [-Bool.decide_and, -Bool.decide_or, -Bool.not_and, -Bool.not_or, toNat_pred, toNat_succ, wrap64, wr_new, wr_new0, ok_if, ok_ifn, iadV_sl, makeV_int, decT, decF, over_at, *, leavesAll, fillL]) | (with_reducible refine Gd_split (fun hc => ?_) (fun hc => ?_) <;> (have hc2 := hc; try simp at hc2)) | (with_reducible refine Br_split (fun hc => ?_) (fun hc => ?_) <;> (have hc2 := hc; try simp at hc2)) | (with_reducible refine GdT_split (fun hc => ?_) (fun hc => ?_) <;> (have hc2 := hc; try simp at hc2)) | (with_reducible refine WT_alt ?_ ?_) | omega)
      refine oc_app (new := out.map ub) zl (Nat.le_refl _) hsrc2 hrow (by simp; omega) (fun o2 g2 hN2 hB => ?_)
      have hN3 := fin o2 g2 hN2
      clear hN2 hB zl fin hrow hsrc2 hl
      repeat' (first | (simp (disch := first | omega | assumption | (simp only [List.length_set]; omega) | (simp [*] <;> fail) | assumption) [-Bool.decide_and, -Bool.decide_or, -Bool.not_and, -Bool.not_or, toNat_pred, toNat_succ, wrap64, wr_new, wr_new0, ok_if, ok_ifn, iadV_sl, makeV_int, decT, decF, over_at, *]) | (with_reducible refine Gd_split (fun hc => ?_) (fun hc => ?_) <;> (have hc2 := hc; try simp at hc2)) | (with_reducible refine Br_split (fun hc => ?_) (fun hc => ?_) <;> (have hc2 := hc; try simp at hc2)) | (with_reducible refine GdT_split (fun hc => ?_) (fun hc => ?_) <;> (have hc2 := hc; try simp at hc2)) | (with_reducible refine WT_alt ?_ ?_) | omega)
      exact ⟨by omega, q, rfl, _, hN3, hSd, hlen2, hp2⟩
  · have hr0 : r = 0 := by omega
    have hi0 : ¬ (i : Int) = 0 := by omega
    have ht := tostr_of hN
    have hout : out = Lib.decDigits n := by
      unfold DecI at hD
      rw [hD, if_pos ⟨hr0, by intro q; rw [q] at hlen; simp at hlen; omega⟩]; rfl
    subst hr0
    rw [hout] at ht
    clear hD hp
    repeat' (first | (simp (disch := first | omega | assumption | (simp only [List.length_set]; omega) | (simp [*] <;> fail) | assumption) [-Bool.decide_and, -Bool.decide_or, -Bool.not_and, -Bool.not_or, toNat_pred, toNat_succ, wrap64, wr_new, wr_new0, ok_if, ok_ifn, iadV_sl, makeV_int, decT, decF, over_at, *]) | (with_reducible refine Gd_split (fun hc => ?_) (fun hc => ?_) <;> (have hc2 := hc; try simp at hc2)) | (with_reducible refine Br_split (fun hc => ?_) (fun hc => ?_) <;> (have hc2 := hc; try simp at hc2)) | (with_reducible refine GdT_split (fun hc => ?_) (fun hc => ?_) <;> (have hc2 := hc; try simp at hc2)) | (with_reducible refine WT_alt ?_ ?_) | omega)
end
end Go.E
