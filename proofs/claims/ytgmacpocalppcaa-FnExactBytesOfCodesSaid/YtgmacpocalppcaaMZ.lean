/- Bytes of codes. -/
import Derived.Test.YtgmacpocalppcaaMK
import Derived.Test.YtgmacpocalppcaaEG
set_option linter.unusedVariables false
set_option linter.unusedSimpArgs false
namespace Go.E
open Go
def L24 : LFn := ⟨1, (.seq (.reg [⟨(.some 2), (.mv (.c (.lf (.str ⟨#[]⟩)))), none⟩, ⟨(.some 3), (.mv (.c (.lf (.bool false)))), none⟩])
 (.seq (.seq (.reg [⟨(.some 6), (.mv (.t 0)), none⟩, ⟨(.some 7), (.call true 68 [(.c (.lf (.int .i64 16))), (.t 6)]), none⟩, ⟨(.some 8), (.una .not (.t 7)), none⟩])
 (.cond (.t 8) (.seq (.reg [⟨(.some 2), (.mv (.c (.lf (.str ⟨#[]⟩)))), none⟩, ⟨(.some 3), (.mv (.c (.lf (.bool false)))), none⟩])
 .ret) .skip))
 (.seq (.reg [⟨(.some 9), (.lit 5 1 0 [] []), none⟩, ⟨(.some 4), (.mv (.t 9)), none⟩])
 (.seq (.seq (.reg [⟨(.some 5), (.mv (.c (.lf (.int .i64 0)))), none⟩])
 (.block 0 (.loop (.seq (.seq (.reg [⟨(.some 10), (.mv (.t 5)), none⟩, ⟨(.some 11), (.mv (.t 0)), none⟩, ⟨(.some 12), (.len (.t 11)), none⟩, ⟨(.some 13), (.bin .lss (.t 10) (.t 12)), none⟩])
 (.cond (.t 13) .skip (.exit 0)))
 (.seq (.block 1 (.seq (.reg [⟨(.some 16), (.mv (.t 4)), none⟩, ⟨(.some 17), (.mv (.t 0)), none⟩, ⟨(.some 18), (.mv (.t 5)), none⟩, ⟨(.some 19), (.iaddr 1 (.t 17) (.t 18)), none⟩, ⟨(.some 20), (.load false 1 (.t 19)), none⟩, ⟨(.some 21), (.bin .and (.t 20) (.c (.lf (.int .i64 255)))), none⟩, ⟨(.some 22), (.toint .u8 (.t 21)), none⟩, ⟨(.some 23), (.lit 5 1 1 [(.int .u8 0)] [(0, (1, (.t 22)))]), none⟩, ⟨(.some 24), (.app 5 1 1 (.t 16) (.t 23)), none⟩, ⟨(.some 4), (.mv (.t 24)), none⟩])
 (.reg [⟨(.some 25), (.mv (.t 4)), none⟩, ⟨(.some 26), (.mv (.t 0)), none⟩, ⟨(.some 27), (.mv (.t 5)), none⟩, ⟨(.some 28), (.iaddr 1 (.t 26) (.t 27)), none⟩, ⟨(.some 29), (.load false 1 (.t 28)), none⟩, ⟨(.some 30), (.bin .shr (.t 29) (.c (.lf (.int .u64 8)))), none⟩, ⟨(.some 31), (.bin .and (.t 30) (.c (.lf (.int .i64 255)))), none⟩, ⟨(.some 32), (.toint .u8 (.t 31)), none⟩, ⟨(.some 33), (.lit 5 1 1 [(.int .u8 0)] [(0, (1, (.t 32)))]), none⟩, ⟨(.some 34), (.app 5 1 1 (.t 25) (.t 33)), none⟩, ⟨(.some 4), (.mv (.t 34)), none⟩])))
 (.reg [⟨(.some 14), (.mv (.t 5)), none⟩, ⟨(.some 15), (.bin .add (.t 14) (.c (.lf (.int .i64 1)))), none⟩, ⟨(.some 5), (.mv (.t 15)), none⟩]))))))
 (.seq (.reg [⟨(.some 35), (.mv (.t 4)), none⟩, ⟨(.some 36), (.tostr (.t 35)), none⟩, ⟨(.some 2), (.mv (.t 36)), none⟩, ⟨(.some 3), (.mv (.c (.lf (.bool true)))), none⟩])
 .ret))))), [(.tmp 2), (.tmp 3)]⟩
def L26 : LFn := ⟨1, (.seq (.reg [⟨(.some 2), (.mv (.c (.lf (.str ⟨#[]⟩)))), none⟩, ⟨(.some 3), (.mv (.c (.lf (.bool false)))), none⟩])
 (.seq (.seq (.reg [⟨(.some 7), (.mv (.t 0)), none⟩, ⟨(.some 8), (.call true 69 [(.c (.lf (.int .i64 16))), (.t 7)]), none⟩, ⟨(.some 9), (.una .not (.t 8)), none⟩])
 (.cond (.t 9) (.seq (.reg [⟨(.some 2), (.mv (.c (.lf (.str ⟨#[]⟩)))), none⟩, ⟨(.some 3), (.mv (.c (.lf (.bool false)))), none⟩])
 .ret) .skip))
 (.seq (.reg [⟨(.some 4), (.mv (.c (.lf .nils))), none⟩])
 (.seq (.seq (.reg [⟨(.some 10), (.mv (.t 0)), none⟩, ⟨(.some 11), (.len (.t 10)), none⟩, ⟨(.some 12), (.mv (.c (.lf (.int .i64 0)))), none⟩])
 (.block 0 (.loop (.seq (.reg [⟨(.some 13), (.bin .lss (.t 12) (.t 11)), none⟩])
 (.seq (.cond (.t 13) .skip (.exit 0))
 (.seq (.block 1 (.seq (.reg [⟨(.some 14), (.iaddr 1 (.t 10) (.t 12)), none⟩, ⟨(.some 15), (.load false 1 (.t 14)), none⟩, ⟨(.some 6), (.mv (.t 15)), none⟩])
 (.reg [⟨(.some 16), (.mv (.t 4)), none⟩, ⟨(.some 17), (.mv (.t 6)), none⟩, ⟨(.some 18), (.toint .u8 (.t 17)), none⟩, ⟨(.some 19), (.mv (.t 6)), none⟩, ⟨(.some 20), (.bin .shr (.t 19) (.c (.lf (.int .u64 8)))), none⟩, ⟨(.some 21), (.toint .u8 (.t 20)), none⟩, ⟨(.some 22), (.lit 5 1 2 [(.int .u8 0), (.int .u8 0)] [(0, (1, (.t 18))), (1, (1, (.t 21)))]), none⟩, ⟨(.some 23), (.app 5 1 1 (.t 16) (.t 22)), none⟩, ⟨(.some 4), (.mv (.t 23)), none⟩])))
 (.reg [⟨(.some 24), (.bin .add (.t 12) (.c (.lf (.int .i64 1)))), none⟩, ⟨(.some 12), (.mv (.t 24)), none⟩])))))))
 (.seq (.reg [⟨(.some 25), (.mv (.t 4)), none⟩, ⟨(.some 26), (.tostr (.t 25)), none⟩, ⟨(.some 2), (.mv (.t 26)), none⟩, ⟨(.some 3), (.mv (.c (.lf (.bool true)))), none⟩])
 .ret))))), [(.tmp 2), (.tmp 3)]⟩
class HasZ (S : Sys) : Prop extends HasK S where
  f24 : S.fs 24 = some L24
  f26 : S.fs 26 = some L26
/-- Each code's two bytes, the low one first. -/
def byts (xs : List Int) : List Int := xs.flatMap fun x => [x % 256, x / 256 % 256]
theorem byts_len {xs : List Int} : (byts xs).length = 2 * xs.length := by
  induction xs with
  | nil => rfl
  | cons x xs ih => simp only [byts, List.flatMap_cons, List.length_append, List.length_cons, List.length_nil] at ih ⊢; omega
theorem byts_take {xs : List Int} {i : Nat} (hi : i < xs.length) : byts (xs.take (i + 1)) = byts (xs.take i) ++ [xs[i] % 256, xs[i] / 256 % 256] := by
  rw [List.take_succ_eq_append_getElem hi]
  simp only [byts, List.flatMap_append, List.flatMap_cons, List.flatMap_nil, List.append_nil]
def strOf (ns : List Int) : ByteArray := ⟨(ns.map fun x => UInt8.ofNat x.toNat).toArray⟩
noncomputable def bytesOfCodes (xs : List Int) : List TV := if areCodes 16 xs then [.lf (.str (strOf (byts xs))), .lf (.bool true)] else [.lf (.str ⟨#[]⟩), .lf (.bool false)]
section
variable {S : Sys} {lim : Nat} {h : Hp} {K : CV → Hp → Prop} [HasZ S] {l : Lf} {xs : List Int}
theorem tostr_new {g : Hp} {ty : Nat} {ns : List Int} (hN : New h g l ty 1 (ns.map ul)) : tostrV g (.lf l) = some (.lf (.str (strOf ns))) := by
  unfold tostrV
  rw [hN.src]
  simp only [Option.bind_some, bytes_ul, Option.map_some]
  rfl
theorem c_specBytesOfCodes (hA : Arr h l 1 (xs.map il)) : CallT S true 24 [.lf l] h lim K = K (.tup (bytesOfCodes xs)) h := by
  have hb := hA.bound
  unfold bytesOfCodes
  by_cases hk : areCodes 16 xs
  · have hlen := hk.1
    refine CallT_pure (F := L24) (HasZ.f24) rfl (by first | rfl | (split <;> rfl) | simp) ?_; unfold L24; dsimp only []
    repeat' (first | (simp (disch := first | omega | assumption | (simp [*] <;> fail) | assumption) [-Bool.decide_and, -Bool.decide_or, -Bool.not_and, -Bool.not_or, toNat_pred, toNat_succ, wrap64, wr_new, wr_new0, ok_if, ok_ifn, iadV_sl, makeV_int, decT, decF, *, c_l06Codes (b := 16) (by omega) (by omega) hA, leavesAll, fillL]) | (refine Gd_split (fun hc => ?_) (fun hc => ?_) <;> (have hc2 := hc; try simp at hc2)) | (refine Br_split (fun hc => ?_) (fun hc => ?_) <;> (have hc2 := hc; try simp at hc2)) | omega)
    refine WL_for xs.length (fun i a' g => i ≤ xs.length ∧ a' 0 = .lf l ∧ a' 5 = .lf (.int .i64 i) ∧ (∃ l', a' 4 = .lf l' ∧ New h g l' 5 1 ((byts (xs.take i)).map ul))) (fun i a' h' hi => hi.1) ?_ ⟨by simp, by simp, by simp, ⟨.sl h.length 0 0 1, by simp, by simpa [byts] using New.lit0⟩⟩
    rintro i a' g ⟨hi, e0, e5, ⟨l', e4, hN⟩⟩
    have hA0 := hA
    replace hA := hA.kept hN.kept
    have hbl := byts_len (xs := xs.take i)
    rw [List.length_take] at hbl
    by_cases hlt : i < xs.length
    · obtain ⟨l2, g2, e, hN2, _⟩ := hN.push (lim := h.length) (bytes := 1) (r := [.int .u8 (xs[i] % 256)]) (by omega) (Nat.le_refl _) rfl (by simp; omega) (by simp; omega)
      obtain ⟨l3, g3, e3, hN3, _⟩ := hN2.push (lim := h.length) (bytes := 1) (r := [.int .u8 (xs[i] / 256 % 256)]) (by omega) (Nat.le_refl _) rfl (by simp; omega) (by simp; omega)
      have hA2 := (hA0.kept hN2.kept)
      repeat' (first | (simp (disch := first | omega | assumption | (simp [*] <;> fail) | assumption) [-Bool.decide_and, -Bool.decide_or, -Bool.not_and, -Bool.not_or, toNat_pred, toNat_succ, wrap64, wr_new, wr_new0, ok_if, ok_ifn, iadV_sl, makeV_int, decT, decF, *, hA.len, hA.at_, hA.at_', hA.rd, hA.rdIn, hA.rdIn0, hA.rdA, hA.rdInA, hA.rdIn0A, hA.rd1, il, and255, shr8, tou8, leavesAll, fillL, hA2.len, hA2.at_, hA2.at_', hA2.rd, hA2.rdIn, hA2.rdIn0, hA2.rdA, hA2.rdInA, hA2.rdIn0A, hA2.rd1, -tointV_int]) | (refine Gd_split (fun hc => ?_) (fun hc => ?_) <;> (have hc2 := hc; try simp at hc2)) | (refine Br_split (fun hc => ?_) (fun hc => ?_) <;> (have hc2 := hc; try simp at hc2)) | omega)
      refine ⟨by omega, ?_⟩
      rw [byts_take hlt]
      simpa [ul] using hN3
    · have : i = xs.length := by omega
      subst this
      rw [List.take_length] at hN
      repeat' (first | (simp (disch := first | omega | assumption | (simp [*] <;> fail) | assumption) [-Bool.decide_and, -Bool.decide_or, -Bool.not_and, -Bool.not_or, toNat_pred, toNat_succ, wrap64, wr_new, wr_new0, ok_if, ok_ifn, iadV_sl, makeV_int, decT, decF, *, hA.len, hA.at_, hA.at_', hA.rd, hA.rdIn, hA.rdIn0, hA.rdA, hA.rdInA, hA.rdIn0A, tostr_new hN]) | (refine Gd_split (fun hc => ?_) (fun hc => ?_) <;> (have hc2 := hc; try simp at hc2)) | (refine Br_split (fun hc => ?_) (fun hc => ?_) <;> (have hc2 := hc; try simp at hc2)) | omega)
  · refine CallT_pure (F := L24) (HasZ.f24) rfl (by first | rfl | (split <;> rfl) | simp) ?_; unfold L24; dsimp only []
    repeat' (first | (simp (disch := first | omega | assumption | (simp [*] <;> fail) | assumption) [-Bool.decide_and, -Bool.decide_or, -Bool.not_and, -Bool.not_or, toNat_pred, toNat_succ, wrap64, wr_new, wr_new0, ok_if, ok_ifn, iadV_sl, makeV_int, decT, decF, *, c_l06Codes (b := 16) (by omega) (by omega) hA]) | (refine Gd_split (fun hc => ?_) (fun hc => ?_) <;> (have hc2 := hc; try simp at hc2)) | (refine Br_split (fun hc => ?_) (fun hc => ?_) <;> (have hc2 := hc; try simp at hc2)) | omega)
theorem c_implBytesOfCodes (hA : Arr h l 1 (xs.map il)) : CallT S true 26 [.lf l] h lim K = K (.tup (bytesOfCodes xs)) h := by
  have hb := hA.bound
  unfold bytesOfCodes
  by_cases hk : areCodes 16 xs
  · have hlen := hk.1
    refine CallT_pure (F := L26) (HasZ.f26) rfl (by first | rfl | (split <;> rfl) | simp) ?_; unfold L26; dsimp only []
    repeat' (first | (simp (disch := first | omega | assumption | (simp [*] <;> fail) | assumption) [-Bool.decide_and, -Bool.decide_or, -Bool.not_and, -Bool.not_or, toNat_pred, toNat_succ, wrap64, wr_new, wr_new0, ok_if, ok_ifn, iadV_sl, makeV_int, decT, decF, *, c_areCodes hA, hA.len, hA.at_, hA.at_', hA.rd, hA.rdIn, hA.rdIn0, hA.rdA, hA.rdInA, hA.rdIn0A, leavesAll, fillL]) | (refine Gd_split (fun hc => ?_) (fun hc => ?_) <;> (have hc2 := hc; try simp at hc2)) | (refine Br_split (fun hc => ?_) (fun hc => ?_) <;> (have hc2 := hc; try simp at hc2)) | omega)
    refine WL_for xs.length (fun i a' g => i ≤ xs.length ∧ a' 10 = .lf l ∧ a' 11 = .lf (.int .i64 xs.length) ∧ a' 12 = .lf (.int .i64 i) ∧ (∃ l', a' 4 = .lf l' ∧ New h g l' 5 1 ((byts (xs.take i)).map ul))) (fun i a' h' hi => hi.1) ?_ ⟨by simp, by simp, by simp, by simp, ⟨.nils, by simp, by simpa [byts] using New.nil (Kept.refl h)⟩⟩
    rintro i a' g ⟨hi, e0, e5, e6, ⟨l', e4, hN⟩⟩
    replace hA := hA.kept hN.kept
    have hbl := byts_len (xs := xs.take i)
    rw [List.length_take] at hbl
    by_cases hlt : i < xs.length
    · obtain ⟨l2, g2, e, hN2, _⟩ := (hN.app (t := [⟨[.int .u8 (xs[i] % 256), .int .u8 (xs[i] / 256 % 256)], .own 5 1⟩])).append (lim := h.length) (bytes := 1) (y := .lf (.sl g.length 0 2 1)) (new := [[.int .u8 (xs[i] % 256)], [.int .u8 (xs[i] / 256 % 256)]]) (by omega) (Nat.le_refl _) (by rw [src_new (by simp)]; simp) (fun i r hi => by
        rcases i with _ | _ | i <;> simp at hi <;> (subst hi; rfl)) (by simp; omega) (by simp; omega)
      repeat' (first | (simp (disch := first | omega | assumption | (simp [*] <;> fail) | assumption) [-Bool.decide_and, -Bool.decide_or, -Bool.not_and, -Bool.not_or, toNat_pred, toNat_succ, wrap64, wr_new, wr_new0, ok_if, ok_ifn, iadV_sl, makeV_int, decT, decF, *, hA.len, hA.at_, hA.at_', hA.rd, hA.rdIn, hA.rdIn0, hA.rdA, hA.rdInA, hA.rdIn0A, hA.rd1, il, shr8, tou8, leavesAll, fillL, -tointV_int]) | (refine Gd_split (fun hc => ?_) (fun hc => ?_) <;> (have hc2 := hc; try simp at hc2)) | (refine Br_split (fun hc => ?_) (fun hc => ?_) <;> (have hc2 := hc; try simp at hc2)) | omega)
      refine ⟨by omega, ?_⟩
      rw [byts_take hlt]
      simpa [ul] using hN2
    · have : i = xs.length := by omega
      subst this
      rw [List.take_length] at hN
      repeat' (first | (simp (disch := first | omega | assumption | (simp [*] <;> fail) | assumption) [-Bool.decide_and, -Bool.decide_or, -Bool.not_and, -Bool.not_or, toNat_pred, toNat_succ, wrap64, wr_new, wr_new0, ok_if, ok_ifn, iadV_sl, makeV_int, decT, decF, *, hA.len, hA.at_, hA.at_', hA.rd, hA.rdIn, hA.rdIn0, hA.rdA, hA.rdInA, hA.rdIn0A, tostr_new hN]) | (refine Gd_split (fun hc => ?_) (fun hc => ?_) <;> (have hc2 := hc; try simp at hc2)) | (refine Br_split (fun hc => ?_) (fun hc => ?_) <;> (have hc2 := hc; try simp at hc2)) | omega)
  · refine CallT_pure (F := L26) (HasZ.f26) rfl (by first | rfl | (split <;> rfl) | simp) ?_; unfold L26; dsimp only []
    repeat' (first | (simp (disch := first | omega | assumption | (simp [*] <;> fail) | assumption) [-Bool.decide_and, -Bool.decide_or, -Bool.not_and, -Bool.not_or, toNat_pred, toNat_succ, wrap64, wr_new, wr_new0, ok_if, ok_ifn, iadV_sl, makeV_int, decT, decF, *, c_areCodes hA]) | (refine Gd_split (fun hc => ?_) (fun hc => ?_) <;> (have hc2 := hc; try simp at hc2)) | (refine Br_split (fun hc => ?_) (fun hc => ?_) <;> (have hc2 := hc; try simp at hc2)) | omega)
end
end Go.E
