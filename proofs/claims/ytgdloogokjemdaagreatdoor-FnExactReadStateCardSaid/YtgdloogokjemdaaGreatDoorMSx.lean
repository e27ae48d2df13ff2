/- Texts of states, both sides. -/
import Derived.Test.YtgdloogokjemdaaGreatDoorMCx
import Derived.Test.YtgdloogokjemdaaGreatDoorMIs
set_option linter.unusedVariables false
set_option linter.unusedSimpArgs false
namespace Go.E
open Go
def L35 : LFn := ⟨2, (.seq (.reg [⟨(.some 4), (.mv (.c (.lf (.int .i64 0)))), none⟩])
 (.seq (.seq (.reg [⟨(.some 5), (.mv (.c (.lf (.int .i64 0)))), none⟩])
 (.block 0 (.loop (.seq (.seq (.reg [⟨(.some 6), (.mv (.t 5)), none⟩, ⟨(.some 7), (.mv (.t 1)), none⟩, ⟨(.some 8), (.slen (.t 7)), none⟩, ⟨(.some 9), (.bin .lss (.t 6) (.t 8)), none⟩])
 (.cond (.t 9) .skip (.exit 0)))
 (.seq (.block 1 (.reg [⟨(.some 12), (.mv (.t 0)), none⟩, ⟨(.some 13), (.bin .mul (.c (.lf (.int .i64 577))) (.t 12)), none⟩, ⟨(.some 14), (.mv (.t 1)), none⟩, ⟨(.some 15), (.mv (.t 5)), none⟩, ⟨(.some 16), (.idx (.t 14) (.t 15)), none⟩, ⟨(.some 17), (.toint .i64 (.t 16)), none⟩, ⟨(.some 18), (.bin .add (.t 13) (.t 17)), none⟩, ⟨(.some 19), (.bin .add (.t 18) (.c (.lf (.int .i64 21)))), none⟩, ⟨(.some 20), (.bin .rem (.t 19) (.c (.lf (.int .i64 65003)))), none⟩, ⟨(.some 0), (.mv (.t 20)), none⟩]))
 (.reg [⟨(.some 10), (.mv (.t 5)), none⟩, ⟨(.some 11), (.bin .add (.t 10) (.c (.lf (.int .i64 1)))), none⟩, ⟨(.some 5), (.mv (.t 11)), none⟩]))))))
 (.seq (.reg [⟨(.some 21), (.mv (.t 0)), none⟩, ⟨(.some 4), (.mv (.t 21)), none⟩])
 .ret))), [(.tmp 4)]⟩
def L16 : LFn := ⟨2, (.seq (.reg [⟨(.some 4), (.mv (.c (.lf (.str ⟨#[]⟩)))), none⟩])
 (.seq (.reg [⟨(.some 7), (.mv (.t 0)), none⟩, ⟨(.some 8), (.call true 29 [(.t 7)]), none⟩, ⟨(.some 9), (.bin .add (.t 8) (.c (.lf (.str ⟨#[124]⟩)))), none⟩, ⟨(.some 5), (.mv (.t 9)), none⟩])
 (.seq (.seq (.reg [⟨(.some 6), (.mv (.c (.lf (.int .i64 0)))), none⟩])
 (.block 0 (.loop (.seq (.seq (.reg [⟨(.some 10), (.mv (.t 6)), none⟩, ⟨(.some 11), (.mv (.t 1)), none⟩, ⟨(.some 12), (.len (.t 11)), none⟩, ⟨(.some 13), (.bin .lss (.t 10) (.t 12)), none⟩])
 (.cond (.t 13) .skip (.exit 0)))
 (.seq (.block 1 (.seq (.seq (.reg [⟨(.some 16), (.mv (.t 6)), none⟩, ⟨(.some 17), (.bin .gtr (.t 16) (.c (.lf (.int .i64 0)))), none⟩])
 (.cond (.t 17) (.reg [⟨(.some 18), (.mv (.t 5)), none⟩, ⟨(.some 19), (.bin .add (.t 18) (.c (.lf (.str ⟨#[59]⟩)))), none⟩, ⟨(.some 5), (.mv (.t 19)), none⟩]) .skip))
 (.reg [⟨(.some 20), (.mv (.t 5)), none⟩, ⟨(.some 21), (.mv (.t 1)), none⟩, ⟨(.some 22), (.mv (.t 6)), none⟩, ⟨(.some 23), (.iaddr 1 (.t 21) (.t 22)), none⟩, ⟨(.some 24), (.load false 1 (.t 23)), none⟩, ⟨(.some 25), (.call true 33 [(.t 24)]), none⟩, ⟨(.some 26), (.bin .add (.t 20) (.t 25)), none⟩, ⟨(.some 5), (.mv (.t 26)), none⟩])))
 (.reg [⟨(.some 14), (.mv (.t 6)), none⟩, ⟨(.some 15), (.bin .add (.t 14) (.c (.lf (.int .i64 1)))), none⟩, ⟨(.some 6), (.mv (.t 15)), none⟩]))))))
 (.seq (.seq (.reg [⟨(.some 27), (.mv (.t 1)), none⟩, ⟨(.some 28), (.len (.t 27)), none⟩, ⟨(.some 29), (.bin .eql (.t 28) (.c (.lf (.int .i64 0)))), none⟩])
 (.cond (.t 29) (.reg [⟨(.some 30), (.mv (.t 5)), none⟩, ⟨(.some 31), (.bin .add (.t 30) (.c (.lf (.str ⟨#[110, 111, 110, 101]⟩)))), none⟩, ⟨(.some 5), (.mv (.t 31)), none⟩]) .skip))
 (.seq (.reg [⟨(.some 32), (.mv (.t 5)), none⟩, ⟨(.some 33), (.bin .add (.t 32) (.c (.lf (.str ⟨#[124]⟩)))), none⟩, ⟨(.some 5), (.mv (.t 33)), none⟩])
 (.seq (.reg [⟨(.some 34), (.mv (.t 5)), none⟩, ⟨(.some 35), (.mv (.t 5)), none⟩, ⟨(.some 36), (.call true 35 [(.c (.lf (.int .i64 0))), (.t 35)]), none⟩, ⟨(.some 37), (.call true 34 [(.t 36)]), none⟩, ⟨(.some 38), (.bin .add (.t 34) (.t 37)), none⟩, ⟨(.some 4), (.mv (.t 38)), none⟩])
 .ret)))))), [(.tmp 4)]⟩
def L45 : LFn := ⟨2, (.seq (.reg [⟨(.some 4), (.mv (.c (.lf (.int .i64 0)))), none⟩, ⟨(.some 5), (.mv (.c (.lf (.bool false)))), none⟩])
 (.seq (.seq (.reg [⟨(.some 7), (.mv (.t 0)), none⟩, ⟨(.some 8), (.call true 57 [(.t 7), (.c (.lf (.int .i64 0))), (.c (.lf (.int .i64 65002)))]), none⟩, ⟨(.some 9), (.una .not (.t 8)), none⟩])
 (.cond (.t 9) (.seq (.reg [⟨(.some 4), (.mv (.c (.lf (.int .i64 0)))), none⟩, ⟨(.some 5), (.mv (.c (.lf (.bool false)))), none⟩])
 .ret) .skip))
 (.seq (.seq (.reg [⟨(.some 6), (.mv (.c (.lf (.int .i64 0)))), none⟩])
 (.block 0 (.loop (.seq (.seq (.reg [⟨(.some 10), (.mv (.t 6)), none⟩, ⟨(.some 11), (.mv (.t 1)), none⟩, ⟨(.some 12), (.slen (.t 11)), none⟩, ⟨(.some 13), (.bin .lss (.t 10) (.t 12)), none⟩])
 (.cond (.t 13) .skip (.exit 0)))
 (.seq (.block 1 (.reg [⟨(.some 16), (.mv (.t 0)), none⟩, ⟨(.some 17), (.bin .mul (.c (.lf (.int .i64 577))) (.t 16)), none⟩, ⟨(.some 18), (.mv (.t 1)), none⟩, ⟨(.some 19), (.mv (.t 6)), none⟩, ⟨(.some 20), (.idx (.t 18) (.t 19)), none⟩, ⟨(.some 21), (.toint .i64 (.t 20)), none⟩, ⟨(.some 22), (.bin .add (.t 17) (.t 21)), none⟩, ⟨(.some 23), (.bin .add (.t 22) (.c (.lf (.int .i64 21)))), none⟩, ⟨(.some 24), (.bin .rem (.t 23) (.c (.lf (.int .i64 65003)))), none⟩, ⟨(.some 0), (.mv (.t 24)), none⟩]))
 (.reg [⟨(.some 14), (.mv (.t 6)), none⟩, ⟨(.some 15), (.bin .add (.t 14) (.c (.lf (.int .i64 1)))), none⟩, ⟨(.some 6), (.mv (.t 15)), none⟩]))))))
 (.seq (.reg [⟨(.some 25), (.mv (.t 0)), none⟩, ⟨(.some 4), (.mv (.t 25)), none⟩, ⟨(.some 5), (.mv (.c (.lf (.bool true)))), none⟩])
 .ret)))), [(.tmp 4), (.tmp 5)]⟩
def L22 : LFn := ⟨2, (.seq (.reg [⟨(.some 4), (.mv (.c (.lf (.str ⟨#[]⟩)))), none⟩])
 (.seq (.reg [⟨(.some 5), (.mv (.c (.lf .nils))), none⟩])
 (.seq (.seq (.reg [⟨(.some 13), (.mv (.t 1)), none⟩, ⟨(.some 14), (.len (.t 13)), none⟩, ⟨(.some 15), (.mv (.c (.lf (.int .i64 0)))), none⟩])
 (.block 0 (.loop (.seq (.reg [⟨(.some 16), (.bin .lss (.t 15) (.t 14)), none⟩])
 (.seq (.cond (.t 16) .skip (.exit 0))
 (.seq (.block 1 (.seq (.reg [⟨(.some 17), (.iaddr 1 (.t 13) (.t 15)), none⟩, ⟨(.some 18), (.load false 1 (.t 17)), none⟩, ⟨(.some 7), (.mv (.t 18)), none⟩])
 (.seq (.reg [⟨(.some 20), (.mv (.t 7)), none⟩, ⟨(.some 21), (.call true 42 [(.t 20)]), none⟩, ⟨(.some 19), (.mv (.t 21)), none⟩, ⟨(.some 22), (.ext (.t 19) 0), none⟩, ⟨(.some 23), (.ext (.t 19) 1), none⟩, ⟨(.some 8), (.mv (.t 22)), none⟩, ⟨(.some 9), (.mv (.t 23)), none⟩])
 (.reg [⟨(.some 24), (.mv (.t 5)), none⟩, ⟨(.some 25), (.mv (.t 8)), none⟩, ⟨(.some 26), (.lit 9 1 1 [(.str ⟨#[]⟩)] [(0, (1, (.t 25)))]), none⟩, ⟨(.some 27), (.app 9 1 16 (.t 24) (.t 26)), none⟩, ⟨(.some 5), (.mv (.t 27)), none⟩]))))
 (.reg [⟨(.some 28), (.bin .add (.t 15) (.c (.lf (.int .i64 1)))), none⟩, ⟨(.some 15), (.mv (.t 28)), none⟩])))))))
 (.seq (.reg [⟨(.some 29), (.mv (.t 0)), none⟩, ⟨(.some 30), (.call true 43 [(.t 29)]), none⟩, ⟨(.some 31), (.bin .add (.t 30) (.c (.lf (.str ⟨#[124]⟩)))), none⟩, ⟨(.some 32), (.mv (.t 5)), none⟩, ⟨(.some 33), (.call true 44 [(.t 32)]), none⟩, ⟨(.some 34), (.bin .add (.t 31) (.t 33)), none⟩, ⟨(.some 35), (.bin .add (.t 34) (.c (.lf (.str ⟨#[124]⟩)))), none⟩, ⟨(.some 10), (.mv (.t 35)), none⟩])
 (.seq (.reg [⟨(.some 37), (.mv (.t 10)), none⟩, ⟨(.some 38), (.call true 45 [(.c (.lf (.int .i64 0))), (.t 37)]), none⟩, ⟨(.some 36), (.mv (.t 38)), none⟩, ⟨(.some 39), (.ext (.t 36) 0), none⟩, ⟨(.some 40), (.ext (.t 36) 1), none⟩, ⟨(.some 11), (.mv (.t 39)), none⟩, ⟨(.some 12), (.mv (.t 40)), none⟩])
 (.seq (.reg [⟨(.some 41), (.mv (.t 10)), none⟩, ⟨(.some 42), (.mv (.t 11)), none⟩, ⟨(.some 43), (.call true 46 [(.t 42)]), none⟩, ⟨(.some 44), (.bin .add (.t 41) (.t 43)), none⟩, ⟨(.some 4), (.mv (.t 44)), none⟩])
 .ret)))))), [(.tmp 4)]⟩
class HasSx (S : Sys) : Prop extends HasCx S, HasIs S where
  f35 : S.fs 35 = some L35
  f16 : S.fs 16 = some L16
  f45 : S.fs 45 = some L45
  f22 : S.fs 22 = some L22
def chkF (n : Nat) (c : UInt8) : Nat := (577 * n + c.toNat + 21) % 65003
def chk (l : List UInt8) : Nat := l.foldl chkF 0
theorem chkF_lt {n : Nat} {c : UInt8} : chkF n c < 65003 := Nat.mod_lt _ (by decide)
theorem chk_lt {l : List UInt8} : chk l < 65003 := by
  unfold chk
  have : ∀ (l : List UInt8) (n : Nat), n < 65003 → l.foldl chkF n < 65003 := by
    intro l
    induction l with
    | nil => intro n h; exact h
    | cons c r ih => intro n h; exact ih _ chkF_lt
  exact this l 0 (by decide)
theorem chk_succ {l : List UInt8} {i : Nat} (hi : i < l.length) : chk (l.take (i + 1)) = chkF (chk (l.take i)) l[i] := by
  unfold chk
  rw [List.take_succ_eq_append_getElem hi, List.foldl_append]; rfl
theorem byteAt_of {l : List UInt8} {i : Nat} (hi : i < l.length) : byteAt ⟨l.toArray⟩ i = (l[i].toNat : Int) := by
  unfold byteAt
  have h : i < (⟨l.toArray⟩ : ByteArray).size := by simpa [ByteArray.size] using hi
  rw [dif_pos h]
  rfl
theorem size_of {l : List UInt8} : ((⟨l.toArray⟩ : ByteArray).size : Int) = l.length := by simp [ByteArray.size]
/-- The text of lists of numbers. -/
def stT (qs : List (List Nat)) : List UInt8 := if qs = [] then none4 else Lib.join (qs.map numT) [59]
def stU (qs : List (List Nat)) (i : Nat) : List UInt8 := Lib.join ((qs.take i).map numT) [59]
theorem stU_succ {qs : List (List Nat)} {i : Nat} (hi : i < qs.length) (h0 : 0 < i) : stU qs (i + 1) = stU qs i ++ [59] ++ numT qs[i] := by
  unfold stU
  rw [List.take_succ_eq_append_getElem hi, List.map_append, List.map_cons, List.map_nil, join_snoc, if_neg (by
    intro q
    have := congrArg List.length q
    rw [List.length_map, List.length_take, List.length_nil] at this; omega)]
theorem stU_one {qs : List (List Nat)} (hi : 0 < qs.length) : stU qs 1 = numT qs[0] := by
  unfold stU
  rw [List.take_succ_eq_append_getElem hi]
  simp [Lib.join_one]
def small33 (qs : List (List Nat)) : Prop := qs.length ≤ 8 ∧ ∀ q ∈ qs, q.length ≤ 33
theorem small33.num {qs : List (List Nat)} (h : small33 qs) {q : List Nat} (hq : q ∈ qs) : (numT q).length ≤ 301 := by
  have h1 := numT_le (xs := q)
  have h2 := h.2 q hq
  omega
theorem stU_le {qs : List (List Nat)} {i : Nat} (h : small33 qs) : (stU qs i).length ≤ 2416 := by
  unfold stU
  have := join_le (m := 301) (sep := [59]) (ss := (qs.take i).map numT) (fun x hx => by
    obtain ⟨y, hy, rfl⟩ := List.mem_map.1 hx
    exact h.num (List.mem_of_mem_take hy))
  simp only [List.length_map, List.length_take, List.length_cons, List.length_nil] at this
  have h8 := h.1
  have h2 : min i qs.length ≤ qs.length := Nat.min_le_right _ _
  have h3 := Nat.mul_le_mul_right 302 h2
  omega
theorem stU_all {qs : List (List Nat)} (h : qs ≠ []) : stU qs qs.length = stT qs := by
  unfold stU stT
  rw [List.take_length, if_neg h]
theorem stT_le {qs : List (List Nat)} (h : small33 qs) : (stT qs).length ≤ 2416 := by
  by_cases h0 : qs = []
  · unfold stT; rw [if_pos h0]; simp [none4]
  · rw [← stU_all h0]; exact stU_le h
theorem chT_le {es : List Eff} (hc : isCh es) : (chT es).length ≤ 488 := by
  by_cases h0 : es = []
  · unfold chT; rw [if_pos h0]; simp [none4]
  · have := chU_le (i := es.length) hc
    unfold chU at this
    unfold chT
    rw [if_neg h0]
    rwa [List.take_length] at this
def bodyT (es : List Eff) (qs : List (List Nat)) : List UInt8 := chT es ++ 124 :: (stT qs ++ [124])
def fullT (es : List Eff) (qs : List (List Nat)) : List UInt8 := bodyT es qs ++ Lib.decDigits (chk (bodyT es qs))
theorem isFit.small {es : List Eff} {qs : List (List Nat)} (h : isFit es qs) : small33 qs := by
  obtain ⟨h1, h2, h3⟩ := h
  refine ⟨by rw [h2]; exact h1.1, fun q hq => ?_⟩
  obtain ⟨i, hi, rfl⟩ := List.mem_iff_getElem.1 hq
  have hie : i < es.length := by omega
  have h4 := h3 i es[i] qs[i] (List.getElem?_eq_getElem hie) (List.getElem?_eq_getElem hi)
  have h5 := h1.2 es[i] (List.getElem_mem hie)
  have h6 := stL_len h5
  have h7 := stL_le h5
  omega
theorem dec_len5 {n : Nat} (h : n < 100000) : (Lib.decDigits n).length ≤ 5 := by
  rw [Lib.decDigits_length]
  have key : ∀ k n, n < 10 ^ (k + 1) → Lib.nDigits n ≤ k + 1 := by
    intro k
    induction k with
    | zero => intro n h; rw [Lib.nDigits_small (by simpa using h)]; omega
    | succ k ih =>
      intro n h
      by_cases h1 : n < 10
      · rw [Lib.nDigits_small h1]; omega
      · rw [Lib.nDigits, dif_neg h1]
        have := ih (n / 10) (by rw [Nat.div_lt_iff_lt_mul (by omega), ← Nat.pow_succ]; exact h)
        omega
  exact key 4 n (by omega)
section
variable {S : Sys} {lim : Nat} {h : Hp} {K : CV → Hp → Prop} {l l2 : Lf} [HasSx S] {ps : List (Eff × Lf)} {qs : List (List Nat × Lf)} {t : List UInt8}
theorem c_l01Check (ht : t.length ≤ 1000000) : CallT S true 35 [.lf (.int .i64 0), .lf (.str ⟨t.toArray⟩)] h lim K = K (.lf (.int .i64 (chk t))) h := by
  have hsz := size_of (l := t)
  refine CallT_pure (F := L35) (HasSx.f35) rfl (by first | rfl | (split <;> rfl) | simp) ?_; unfold L35; dsimp only []
  repeat' (first | (simp (disch := first | omega | assumption | (simp only [List.length_set]; omega) | (simp [*] <;> fail) | assumption) [-Bool.decide_and, -Bool.decide_or, -Bool.not_and, -Bool.not_or, toNat_pred, toNat_succ, wrap64, wr_new, wr_new0, ok_if, ok_ifn, iadV_sl, makeV_int, decT, decF, over_at, *]) | (with_reducible refine Gd_split (fun hc => ?_) (fun hc => ?_) <;> (have hc2 := hc; try simp at hc2)) | (with_reducible refine Br_split (fun hc => ?_) (fun hc => ?_) <;> (have hc2 := hc; try simp at hc2)) | (with_reducible refine GdT_split (fun hc => ?_) (fun hc => ?_) <;> (have hc2 := hc; try simp at hc2)) | (with_reducible refine WT_alt ?_ ?_) | omega)
  refine WL_forM 2097121 (by decide +kernel) (t.length) (fun i b g => i ≤ t.length ∧ b 5 = .lf (.int .i64 i) ∧ b 0 = .lf (.int .i64 (chk (t.take i))) ∧ h = g) (fun i _ _ hi => hi.1) ⟨by omega, by simp, by simp [chk], rfl⟩ ?_
  rintro i b g ⟨hi, e5, e0, rfl⟩
  by_cases hlt : i < t.length
  · have hlt2 : (i : Int) < t.length := by omega
    have hb0 := byteAt_of hlt
    have hcl : t[i].toNat < 256 := UInt8.toNat_lt _
    have hcs := chk_succ hlt
    have hclt := chk_lt (l := t.take i)
    have hS : Hid (chk (t.take (i + 1)) = (577 * chk (t.take i) + t[i].toNat + 21) % 65003) := hcs
    have hsl : (i : Int) < (⟨t.toArray⟩ : ByteArray).size := by rw [hsz]; omega
    have hix := idxV_str (s := ⟨t.toArray⟩) (k := .i64) (j := (i : Int)) (by omega) (by omega)
    rw [Int.toNat_natCast, hb0] at hix
    clear hcs hb0 hsl
    generalize chk (t.take i) = c at *
    generalize t[i].toNat = d at *
    have htm : (577 * (c : Int) + (d : Int) + 21).tmod 65003 = (((577 * c + d + 21) % 65003 : Nat) : Int) := by
      rw [show 577 * (c : Int) + (d : Int) + 21 = ((577 * c + d + 21 : Nat) : Int) by omega]; rfl
    generalize (577 * c + d + 21) % 65003 = e at *
    repeat' (first | (simp (disch := first | omega | assumption | (simp only [List.length_set]; omega) | (simp [*] <;> fail) | assumption) [-Bool.decide_and, -Bool.decide_or, -Bool.not_and, -Bool.not_or, toNat_pred, toNat_succ, wrap64, wr_new, wr_new0, ok_if, ok_ifn, iadV_sl, makeV_int, decT, decF, over_at, *, u8to64]) | (with_reducible refine Gd_split (fun hc => ?_) (fun hc => ?_) <;> (have hc2 := hc; try simp at hc2)) | (with_reducible refine Br_split (fun hc => ?_) (fun hc => ?_) <;> (have hc2 := hc; try simp at hc2)) | (with_reducible refine GdT_split (fun hc => ?_) (fun hc => ?_) <;> (have hc2 := hc; try simp at hc2)) | (with_reducible refine WT_alt ?_ ?_) | omega)
    exact ⟨by omega, by rw [show chk (t.take (i + 1)) = _ from hS]⟩
  · have : i = t.length := by omega
    subst this
    rw [List.take_length] at e0
    repeat' (first | (simp (disch := first | omega | assumption | (simp only [List.length_set]; omega) | (simp [*] <;> fail) | assumption) [-Bool.decide_and, -Bool.decide_or, -Bool.not_and, -Bool.not_or, toNat_pred, toNat_succ, wrap64, wr_new, wr_new0, ok_if, ok_ifn, iadV_sl, makeV_int, decT, decF, over_at, *]) | (with_reducible refine Gd_split (fun hc => ?_) (fun hc => ?_) <;> (have hc2 := hc; try simp at hc2)) | (with_reducible refine Br_split (fun hc => ?_) (fun hc => ?_) <;> (have hc2 := hc; try simp at hc2)) | (with_reducible refine GdT_split (fun hc => ?_) (fun hc => ?_) <;> (have hc2 := hc; try simp at hc2)) | (with_reducible refine WT_alt ?_ ?_) | omega)
theorem c_CheckOf (ht : t.length ≤ 1000000) : CallT S true 45 [.lf (.int .i64 0), .lf (.str ⟨t.toArray⟩)] h lim K = K (.tup [.lf (.int .i64 (chk t)), .lf (.bool true)]) h := by
  have hsz := size_of (l := t)
  refine CallT_pure (F := L45) (HasSx.f45) rfl (by first | rfl | (split <;> rfl) | simp) ?_; unfold L45; dsimp only []
  repeat' (first | (simp (disch := first | omega | assumption | (simp only [List.length_set]; omega) | (simp [*] <;> fail) | assumption) [-Bool.decide_and, -Bool.decide_or, -Bool.not_and, -Bool.not_or, toNat_pred, toNat_succ, wrap64, wr_new, wr_new0, ok_if, ok_ifn, iadV_sl, makeV_int, decT, decF, over_at, *]) | (with_reducible refine Gd_split (fun hc => ?_) (fun hc => ?_) <;> (have hc2 := hc; try simp at hc2)) | (with_reducible refine Br_split (fun hc => ?_) (fun hc => ?_) <;> (have hc2 := hc; try simp at hc2)) | (with_reducible refine GdT_split (fun hc => ?_) (fun hc => ?_) <;> (have hc2 := hc; try simp at hc2)) | (with_reducible refine WT_alt ?_ ?_) | omega)
  refine WL_forM 33553473 (by decide +kernel) (t.length) (fun i b g => i ≤ t.length ∧ b 6 = .lf (.int .i64 i) ∧ b 0 = .lf (.int .i64 (chk (t.take i))) ∧ h = g) (fun i _ _ hi => hi.1) ⟨by omega, by simp, by simp [chk], rfl⟩ ?_
  rintro i b g ⟨hi, e5, e0, rfl⟩
  by_cases hlt : i < t.length
  · have hlt2 : (i : Int) < t.length := by omega
    have hb0 := byteAt_of hlt
    have hcl : t[i].toNat < 256 := UInt8.toNat_lt _
    have hcs := chk_succ hlt
    have hclt := chk_lt (l := t.take i)
    have hS : Hid (chk (t.take (i + 1)) = (577 * chk (t.take i) + t[i].toNat + 21) % 65003) := hcs
    have hsl : (i : Int) < (⟨t.toArray⟩ : ByteArray).size := by rw [hsz]; omega
    have hix := idxV_str (s := ⟨t.toArray⟩) (k := .i64) (j := (i : Int)) (by omega) (by omega)
    rw [Int.toNat_natCast, hb0] at hix
    clear hcs hb0 hsl
    generalize chk (t.take i) = c at *
    generalize t[i].toNat = d at *
    have htm : (577 * (c : Int) + (d : Int) + 21).tmod 65003 = (((577 * c + d + 21) % 65003 : Nat) : Int) := by
      rw [show 577 * (c : Int) + (d : Int) + 21 = ((577 * c + d + 21 : Nat) : Int) by omega]; rfl
    generalize (577 * c + d + 21) % 65003 = e at *
    repeat' (first | (simp (disch := first | omega | assumption | (simp only [List.length_set]; omega) | (simp [*] <;> fail) | assumption) [-Bool.decide_and, -Bool.decide_or, -Bool.not_and, -Bool.not_or, toNat_pred, toNat_succ, wrap64, wr_new, wr_new0, ok_if, ok_ifn, iadV_sl, makeV_int, decT, decF, over_at, *, u8to64]) | (with_reducible refine Gd_split (fun hc => ?_) (fun hc => ?_) <;> (have hc2 := hc; try simp at hc2)) | (with_reducible refine Br_split (fun hc => ?_) (fun hc => ?_) <;> (have hc2 := hc; try simp at hc2)) | (with_reducible refine GdT_split (fun hc => ?_) (fun hc => ?_) <;> (have hc2 := hc; try simp at hc2)) | (with_reducible refine WT_alt ?_ ?_) | omega)
    exact ⟨by omega, by rw [show chk (t.take (i + 1)) = _ from hS]⟩
  · have : i = t.length := by omega
    subst this
    rw [List.take_length] at e0
    repeat' (first | (simp (disch := first | omega | assumption | (simp only [List.length_set]; omega) | (simp [*] <;> fail) | assumption) [-Bool.decide_and, -Bool.decide_or, -Bool.not_and, -Bool.not_or, toNat_pred, toNat_succ, wrap64, wr_new, wr_new0, ok_if, ok_ifn, iadV_sl, makeV_int, decT, decF, over_at, *]) | (with_reducible refine Gd_split (fun hc => ?_) (fun hc => ?_) <;> (have hc2 := hc; try simp at hc2)) | (with_reducible refine Br_split (fun hc => ?_) (fun hc => ?_) <;> (have hc2 := hc; try simp at hc2)) | (with_reducible refine GdT_split (fun hc => ?_) (fun hc => ?_) <;> (have hc2 := hc; try simp at hc2)) | (with_reducible refine WT_alt ?_ ?_) | omega)
theorem bodyT_le {es : List Eff} {ss : List (List Nat)} (h : isFit es ss) : (bodyT es ss).length ≤ 2906 := by
  have h1 := chT_le h.1
  have h2 := stT_le h.small
  unfold bodyT
  simp only [List.length_append, List.length_cons, List.length_nil]
  omega
set_option maxHeartbeats 2000000 in
theorem c_l08State (hA : Arr h l 3 (ps.map Eff.cells)) (hI : In h Eff.nums ps) (hcf : ∀ p ∈ ps, ∀ x ∈ p.1.nums, CF x) (hA2 : Arr h l2 1 (qs.map ssCells)) (hI2 : In h ssRows qs) (hcf2 : ∀ q ∈ qs, ∀ x ∈ q.1, CF x) (hfit : isFit (ps.map (·.1)) (qs.map (·.1))) :
    CallT S true 16 [.lf l, .lf l2] h lim K = K (.lf (.str ⟨(fullT (ps.map (·.1)) (qs.map (·.1))).toArray⟩)) h := by
  have hch := fun lim K => c_l08Text (S := S) (lim := lim) (K := K) hA hI hcf hfit.1
  have hsm := hfit.small
  have hcle := chT_le hfit.1
  have hble := bodyT_le hfit
  have hsle := stT_le hsm
  have h8 := hsm.1
  rw [List.length_map] at h8
  have hl := hA2.len
  obtain ⟨body, hbody⟩ : ∃ body, Hid (bodyT (ps.map (·.1)) (qs.map (·.1)) = body) := ⟨_, rfl⟩
  have hbe : chT (ps.map (·.1)) ++ 124 :: (stT (qs.map (·.1)) ++ [124]) = body := hbody
  have hfull : fullT (ps.map (·.1)) (qs.map (·.1)) = body ++ Lib.decDigits (chk body) := by
    unfold fullT
    rw [show bodyT (ps.map (·.1)) (qs.map (·.1)) = body from hbody]
  rw [hfull]
  rw [show bodyT (ps.map (·.1)) (qs.map (·.1)) = body from hbody] at hble
  have hck := fun lim K => c_l01Check (S := S) (h := h) (lim := lim) (K := K) (t := body) (by omega)
  have hcb := chk_lt (l := body)
  have hdc := fun lim K => c_l01Dec (S := S) (h := h) (lim := lim) (K := K) (n := chk body) (by omega) (by omega)
  have hd5 := dec_len5 (n := chk body) (by omega)
  have hfa := binV_str_add (x := body) (y := Lib.decDigits (chk body)) (by omega)
  generalize chT (ps.map (·.1)) = c at *
  generalize chk body = ck at *
  generalize Lib.decDigits ck = dd at *
  have B1 := binV_str_add (x := c) (y := [124]) (by simp; omega)
  clear hfull hbody hA hI hcf
  refine CallT_pure (F := L16) (HasSx.f16) rfl (by first | rfl | (split <;> rfl) | simp) ?_; unfold L16; dsimp only []
  repeat' (first | (simp (disch := first | omega | assumption | (simp only [List.length_set]; omega) | (simp [*] <;> fail) | assumption) [-Bool.decide_and, -Bool.decide_or, -Bool.not_and, -Bool.not_or, toNat_pred, toNat_succ, wrap64, wr_new, wr_new0, ok_if, ok_ifn, iadV_sl, makeV_int, decT, decF, over_at, *]) | (with_reducible refine Gd_split (fun hc => ?_) (fun hc => ?_) <;> (have hc2 := hc; try simp at hc2)) | (with_reducible refine Br_split (fun hc => ?_) (fun hc => ?_) <;> (have hc2 := hc; try simp at hc2)) | (with_reducible refine GdT_split (fun hc => ?_) (fun hc => ?_) <;> (have hc2 := hc; try simp at hc2)) | (with_reducible refine WT_alt ?_ ?_) | omega)
  refine WL_forM 134216800 (by decide +kernel) (qs.length) (fun i b g => i ≤ qs.length ∧ b 6 = .lf (.int .i64 i) ∧ b 5 = .lf (.str ⟨(c ++ 124 :: stU (qs.map (·.1)) i).toArray⟩) ∧ h = g) (fun i _ _ hi => hi.1) ⟨by omega, by simp, by simp [stU, Lib.join_nil], rfl⟩ ?_
  rintro i b g ⟨hi, e6, e5, rfl⟩
  by_cases hlt : i < qs.length
  · have hlm : i < (qs.map (·.1)).length := by simpa using hlt
    have hule := stU_le (i := i) hsm
    have hget : (qs.map (·.1))[i] = qs[i].1 := by simp
    have hmem : qs[i].1 ∈ qs.map (·.1) := List.mem_map.2 ⟨_, List.getElem_mem hlt, rfl⟩
    have h33 := hsm.2 _ hmem
    have hnle := hsm.num hmem
    have hIi := hI2 i hlt
    have hnt := fun lim K => c_l01NText (S := S) (h := h) (lim := lim) (K := K) hIi (hcf2 _ (List.getElem_mem hlt)) (by simp only [ssRows]; omega)
    have ai := hA2.at_ (k := .i64) hlt
    have di := hA2.rd1 hlt
    simp only [ssCells] at di
    have hone : i = 0 → stU (qs.map (·.1)) (i + 1) = numT qs[i].1 := by
      rintro rfl
      rw [stU_one hlm, hget]
    have hmore : 0 < i → stU (qs.map (·.1)) (i + 1) = stU (qs.map (·.1)) i ++ 59 :: numT qs[i].1 := by
      intro q
      rw [stU_succ hlm q, hget, List.append_assoc]; rfl
    have hz : i = 0 → stU (qs.map (·.1)) i = [] := by
      rintro rfl
      simp [stU, Lib.join_nil]
    obtain ⟨nx, hnx⟩ : ∃ nx, Hid (stU (qs.map (·.1)) (i + 1) = nx) := ⟨_, rfl⟩
    rw [show stU (qs.map (·.1)) (i + 1) = nx from hnx] at hone hmore
    simp only [ssRows] at hnt
    clear hget hmem h33
    generalize numT qs[i].1 = y at *
    generalize stU (qs.map (·.1)) i = u at *
    generalize qs[i].2 = ll at *
    have A1 := binV_str_add (x := c ++ [124]) (y := y) (by simp; omega)
    have A2 := binV_str_add (x := c ++ 124 :: u) (y := [59]) (by simp; omega)
    have A3 := binV_str_add (x := c ++ 124 :: (u ++ [59])) (y := y) (by simp; omega)
    obtain ⟨I, hIe⟩ : ∃ I : Int, (i : Int) = I := ⟨_, rfl⟩
    rw [hIe] at e6 ai
    by_cases hi0 : i = 0
    · have hnx1 := hone hi0
      have hp0 := hz hi0
      have hi1 : ¬ 0 < I := by omega
      clear hone hmore hz A2 A3 hi0
      subst hp0
      repeat' (first | (simp (disch := first | omega | assumption | (simp only [List.length_set]; omega) | (simp [*] <;> fail) | assumption) [-Bool.decide_and, -Bool.decide_or, -Bool.not_and, -Bool.not_or, toNat_pred, toNat_succ, wrap64, wr_new, wr_new0, ok_if, ok_ifn, iadV_sl, makeV_int, decT, decF, over_at, *]) | (with_reducible refine Gd_split (fun hc => ?_) (fun hc => ?_) <;> (have hc2 := hc; try simp at hc2)) | (with_reducible refine Br_split (fun hc => ?_) (fun hc => ?_) <;> (have hc2 := hc; try simp at hc2)) | (with_reducible refine GdT_split (fun hc => ?_) (fun hc => ?_) <;> (have hc2 := hc; try simp at hc2)) | (with_reducible refine WT_alt ?_ ?_) | omega)
      exact ⟨by omega, by rw [show stU (qs.map (·.1)) (i + 1) = nx from hnx, hnx1]⟩
    · have hnx1 := hmore (by omega)
      have hi1 : 0 < I := by omega
      clear hone hmore hz A1 hi0
      repeat' (first | (simp (disch := first | omega | assumption | (simp only [List.length_set]; omega) | (simp [*] <;> fail) | assumption) [-Bool.decide_and, -Bool.decide_or, -Bool.not_and, -Bool.not_or, toNat_pred, toNat_succ, wrap64, wr_new, wr_new0, ok_if, ok_ifn, iadV_sl, makeV_int, decT, decF, over_at, *]) | (with_reducible refine Gd_split (fun hc => ?_) (fun hc => ?_) <;> (have hc2 := hc; try simp at hc2)) | (with_reducible refine Br_split (fun hc => ?_) (fun hc => ?_) <;> (have hc2 := hc; try simp at hc2)) | (with_reducible refine GdT_split (fun hc => ?_) (fun hc => ?_) <;> (have hc2 := hc; try simp at hc2)) | (with_reducible refine WT_alt ?_ ?_) | omega)
      exact ⟨by omega, by rw [show stU (qs.map (·.1)) (i + 1) = nx from hnx, hnx1]⟩
  · have : i = qs.length := by omega
    subst this
    by_cases h0 : qs.length = 0
    · have h0i : (qs.length : Int) = 0 := by omega
      have hq0 : qs.map (·.1) = [] := by rw [List.length_eq_zero_iff.1 h0]; rfl
      have hu0 : stU (qs.map (·.1)) qs.length = [] := by rw [hq0]; simp [stU, Lib.join_nil]
      have hs0 : stT (qs.map (·.1)) = none4 := by unfold stT; rw [if_pos hq0]
      rw [hs0] at hbe
      rw [hu0] at e5
      have A4 := binV_str_add (x := c ++ [124]) (y := [110, 111, 110, 101]) (by simp; omega)
      have A5 := binV_str_add (x := c ++ [124, 110, 111, 110, 101]) (y := [124]) (by simp; omega)
      have hbe2 : c ++ [124, 110, 111, 110, 101, 124] = body := by rw [← hbe]; rfl
      clear hbe hs0 hu0 hq0 hsle hsm
      repeat' (first | (simp (disch := first | omega | assumption | (simp only [List.length_set]; omega) | (simp [*] <;> fail) | assumption) [-Bool.decide_and, -Bool.decide_or, -Bool.not_and, -Bool.not_or, toNat_pred, toNat_succ, wrap64, wr_new, wr_new0, ok_if, ok_ifn, iadV_sl, makeV_int, decT, decF, over_at, *]) | (with_reducible refine Gd_split (fun hc => ?_) (fun hc => ?_) <;> (have hc2 := hc; try simp at hc2)) | (with_reducible refine Br_split (fun hc => ?_) (fun hc => ?_) <;> (have hc2 := hc; try simp at hc2)) | (with_reducible refine GdT_split (fun hc => ?_) (fun hc => ?_) <;> (have hc2 := hc; try simp at hc2)) | (with_reducible refine WT_alt ?_ ?_) | omega)
    · have h0i : ¬ (qs.length : Int) = 0 := by omega
      have hq0 : qs.map (·.1) ≠ [] := by
        intro q
        apply h0
        have := congrArg List.length q
        simpa using this
      have hu0 : stU (qs.map (·.1)) qs.length = stT (qs.map (·.1)) := by
        have := stU_all hq0
        rwa [List.length_map] at this
      rw [hu0] at e5
      generalize stT (qs.map (·.1)) = u at *
      have A5 := binV_str_add (x := c ++ 124 :: u) (y := [124]) (by simp; omega)
      have hq1 : ¬ qs = [] := fun q => h0 (by rw [q]; rfl)
      clear hu0 hq0 hsm h0
      repeat' (first | (simp (disch := first | omega | assumption | (simp only [List.length_set]; omega) | (simp [*] <;> fail) | assumption) [-Bool.decide_and, -Bool.decide_or, -Bool.not_and, -Bool.not_or, toNat_pred, toNat_succ, wrap64, wr_new, wr_new0, ok_if, ok_ifn, iadV_sl, makeV_int, decT, decF, over_at, *]) | (with_reducible refine Gd_split (fun hc => ?_) (fun hc => ?_) <;> (have hc2 := hc; try simp at hc2)) | (with_reducible refine Br_split (fun hc => ?_) (fun hc => ?_) <;> (have hc2 := hc; try simp at hc2)) | (with_reducible refine GdT_split (fun hc => ?_) (fun hc => ?_) <;> (have hc2 := hc; try simp at hc2)) | (with_reducible refine WT_alt ?_ ?_) | omega)
set_option maxHeartbeats 2000000 in
theorem c_stateText [HasJq S] (hA : Arr h l 3 (ps.map Eff.cells)) (hI : In h Eff.nums ps) (hcf : ∀ p ∈ ps, ∀ x ∈ p.1.nums, CF x) (hA2 : Arr h l2 1 (qs.map ssCells)) (hI2 : In h ssRows qs) (hcf2 : ∀ q ∈ qs, ∀ x ∈ q.1, CF x) (hfit : isFit (ps.map (·.1)) (qs.map (·.1))) :
    CallT S true 22 [.lf l, .lf l2] h lim K = K (.lf (.str ⟨(fullT (ps.map (·.1)) (qs.map (·.1))).toArray⟩)) h := by
  have hch := fun g (k : Kept h g) lim K => c_chainText (S := S) (h := g) (lim := lim) (K := K) (hA.kept k) (hI.kept k) hcf hfit.1
  have hsm := hfit.small
  have hcle := chT_le hfit.1
  have hble := bodyT_le hfit
  have hsle := stT_le hsm
  have h8 := hsm.1
  rw [List.length_map] at h8
  have hl := hA2.len
  obtain ⟨body, hbody⟩ : ∃ body, Hid (bodyT (ps.map (·.1)) (qs.map (·.1)) = body) := ⟨_, rfl⟩
  have hbe : chT (ps.map (·.1)) ++ 124 :: (stT (qs.map (·.1)) ++ [124]) = body := hbody
  have hfull : fullT (ps.map (·.1)) (qs.map (·.1)) = body ++ Lib.decDigits (chk body) := by
    unfold fullT
    rw [show bodyT (ps.map (·.1)) (qs.map (·.1)) = body from hbody]
  rw [hfull]
  rw [show bodyT (ps.map (·.1)) (qs.map (·.1)) = body from hbody] at hble
  have hck := fun g lim K => c_CheckOf (S := S) (h := g) (lim := lim) (K := K) (t := body) (by omega)
  have hcb := chk_lt (l := body)
  have hdc := fun g lim K => c_Decimal (S := S) (h := g) (lim := lim) (K := K) (n := chk body) (by omega)
  have hd5 := dec_len5 (n := chk body) (by omega)
  have hfa := binV_str_add (x := body) (y := Lib.decDigits (chk body)) (by omega)
  generalize chT (ps.map (·.1)) = c at *
  generalize chk body = ck at *
  generalize Lib.decDigits ck = dd at *
  have B1 := binV_str_add (x := c) (y := [124]) (by simp; omega)
  clear hfull hbody hA hI hcf
  refine CallT_pure (F := L22) (HasSx.f22) rfl (by first | rfl | (split <;> rfl) | simp) ?_; unfold L22; dsimp only []
  repeat' (first | (simp (disch := first | omega | assumption | (simp only [List.length_set]; omega) | (simp [*] <;> fail) | assumption) [-Bool.decide_and, -Bool.decide_or, -Bool.not_and, -Bool.not_or, toNat_pred, toNat_succ, wrap64, wr_new, wr_new0, ok_if, ok_ifn, iadV_sl, makeV_int, decT, decF, over_at, *]) | (with_reducible refine Gd_split (fun hc => ?_) (fun hc => ?_) <;> (have hc2 := hc; try simp at hc2)) | (with_reducible refine Br_split (fun hc => ?_) (fun hc => ?_) <;> (have hc2 := hc; try simp at hc2)) | (with_reducible refine GdT_split (fun hc => ?_) (fun hc => ?_) <;> (have hc2 := hc; try simp at hc2)) | (with_reducible refine WT_alt ?_ ?_) | omega)
  refine WL_forM 536839072 (by decide +kernel) (qs.length) (fun i b g => i ≤ qs.length ∧ b 15 = .lf (.int .i64 i) ∧ ∃ o, b 5 = .lf o ∧ New h g o 9 1 ((((qs.map (·.1)).take i).map numT).map st)) (fun i _ _ hi => hi.1) ⟨by omega, by simp, .nils, by simp, by simpa using New.nil (Kept.refl h)⟩ ?_
  rintro i b g ⟨hi, e15, o, e5, hN⟩
  by_cases hlt : i < qs.length
  · have hlm : i < (qs.map (·.1)).length := by simpa using hlt
    have hget : (qs.map (·.1))[i] = qs[i].1 := by simp
    have hmem : qs[i].1 ∈ qs.map (·.1) := List.mem_map.2 ⟨_, List.getElem_mem hlt, rfl⟩
    have h33 := hsm.2 _ hmem
    have hnle := hsm.num hmem
    have hIi := (hI2 i hlt).kept hN.kept
    have hnt := fun lim K => c_NumbersText (S := S) (h := g) (lim := lim) (K := K) hIi (hcf2 _ (List.getElem_mem hlt)) (by simp only [ssRows]; omega)
    simp only [ssRows] at hnt
    have hAg := hA2.kept hN.kept
    have ai := hAg.at_ (k := .i64) hlt
    have di := hAg.rd1 hlt
    simp only [ssCells] at di
    have hnx : ((qs.map (·.1)).take (i + 1)).map numT = ((qs.map (·.1)).take i).map numT ++ [numT qs[i].1] := by rw [List.take_succ_eq_append_getElem hlm, List.map_append, hget]; rfl
    have hS : Hid (((qs.map (·.1)).take (i + 1)).map numT = ((qs.map (·.1)).take i).map numT ++ [numT qs[i].1]) := hnx
    have hpl : (((qs.map (·.1)).take i).map numT).length ≤ 8 := by simp; omega
    clear hnx hget hmem h33 hch hck hdc
    generalize numT qs[i].1 = y at *
    generalize ((qs.map (·.1)).take i).map numT = p at *
    generalize qs[i].2 = ll at *
    repeat' (first | (simp (disch := first | omega | assumption | (simp only [List.length_set]; omega) | (simp [*] <;> fail) | assumption) [-Bool.decide_and, -Bool.decide_or, -Bool.not_and, -Bool.not_or, toNat_pred, toNat_succ, wrap64, wr_new, wr_new0, ok_if, ok_ifn, iadV_sl, makeV_int, decT, decF, over_at, *, leavesAll, fillL]) | (with_reducible refine Gd_split (fun hc => ?_) (fun hc => ?_) <;> (have hc2 := hc; try simp at hc2)) | (with_reducible refine Br_split (fun hc => ?_) (fun hc => ?_) <;> (have hc2 := hc; try simp at hc2)) | (with_reducible refine GdT_split (fun hc => ?_) (fun hc => ?_) <;> (have hc2 := hc; try simp at hc2)) | (with_reducible refine WT_alt ?_ ?_) | omega)
    refine oc_push (r := st y) (bytes := 16) hN (Nat.le_refl _) (by simp; omega) (fun o2 g2 hN2 hB => ?_) (by decide) rfl (by decide)
    have hN3 : New h g2 o2 9 1 ((((qs.map (·.1)).take (i + 1)).map numT).map st) := by
      rw [show ((qs.map (·.1)).take (i + 1)).map numT = _ from hS, List.map_append]; exact hN2
    clear hN hN2 hB hS
    repeat' (first | (simp (disch := first | omega | assumption | (simp only [List.length_set]; omega) | (simp [*] <;> fail) | assumption) [-Bool.decide_and, -Bool.decide_or, -Bool.not_and, -Bool.not_or, toNat_pred, toNat_succ, wrap64, wr_new, wr_new0, ok_if, ok_ifn, iadV_sl, makeV_int, decT, decF, over_at, *]) | (with_reducible refine Gd_split (fun hc => ?_) (fun hc => ?_) <;> (have hc2 := hc; try simp at hc2)) | (with_reducible refine Br_split (fun hc => ?_) (fun hc => ?_) <;> (have hc2 := hc; try simp at hc2)) | (with_reducible refine GdT_split (fun hc => ?_) (fun hc => ?_) <;> (have hc2 := hc; try simp at hc2)) | (with_reducible refine WT_alt ?_ ?_) | omega)
    exact ⟨by omega, by simpa using hN3⟩
  · have : i = qs.length := by omega
    subst this
    have htk : (qs.map (·.1)).take qs.length = qs.map (·.1) := List.take_of_length_le (by simp)
    rw [htk] at hN
    have hsr := hN.src
    have hlw := hN.arr.len
    rw [List.length_map] at hsr
    have hjn := fun lim K => c_listed (S := S) (h := g) (lim := lim) (K := K) hsr hlw (by simp; omega) (by
      have := join_le (m := 301) (sep := [59]) (ss := (qs.map (·.1)).map numT) (fun x hx => by obtain ⟨y, hy, rfl⟩ := List.mem_map.1 hx; exact hsm.num hy)
      simp only [List.length_map, List.length_cons, List.length_nil] at this; omega)
    have hnT : (if (qs.map (·.1)).map numT = [] then none4 else Lib.join ((qs.map (·.1)).map numT) [59]) = stT (qs.map (·.1)) := by
      unfold stT
      by_cases q : qs.map (·.1) = []
      · rw [if_pos q, if_pos (by rw [q]; rfl)]
      · rw [if_neg q, if_neg (by simpa using q)]
    rw [hnT] at hjn
    have hchg := hch g hN.kept
    clear hsr hlw hnT hN htk hch
    generalize stT (qs.map (·.1)) = u at *
    have A4 := binV_str_add (x := c ++ [124]) (y := u) (by simp; omega)
    have A5 := binV_str_add (x := c ++ 124 :: u) (y := [124]) (by simp; omega)
    repeat' (first | (simp (disch := first | omega | assumption | (simp only [List.length_set]; omega) | (simp [*] <;> fail) | assumption) [-Bool.decide_and, -Bool.decide_or, -Bool.not_and, -Bool.not_or, toNat_pred, toNat_succ, wrap64, wr_new, wr_new0, ok_if, ok_ifn, iadV_sl, makeV_int, decT, decF, over_at, *]) | (with_reducible refine Gd_split (fun hc => ?_) (fun hc => ?_) <;> (have hc2 := hc; try simp at hc2)) | (with_reducible refine Br_split (fun hc => ?_) (fun hc => ?_) <;> (have hc2 := hc; try simp at hc2)) | (with_reducible refine GdT_split (fun hc => ?_) (fun hc => ?_) <;> (have hc2 := hc; try simp at hc2)) | (with_reducible refine WT_alt ?_ ?_) | omega)
/-- The text, and whether there is one. -/
noncomputable def sxR (es : List Eff) (ss : List (List Nat)) : CV := if isFit es ss then .tup [.lf (.str ⟨(fullT es ss).toArray⟩), .lf (.bool true)] else .tup [.lf (.str ⟨[].toArray⟩), .lf (.bool false)]
end
end Go.E
