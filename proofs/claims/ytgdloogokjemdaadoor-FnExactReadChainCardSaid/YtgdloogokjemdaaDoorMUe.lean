/- Pieces of texts, for the evaluator: strings.Split, l01Cut. -/
import Derived.Test.YtgdloogokjemdaaDoorMUb
import Derived.Test.YtgdloogokjemdaaDoorMUd
set_option linter.unusedVariables false
set_option linter.unusedSimpArgs false
namespace Go.E
open Go
def L18 : LFn := ⟨2, (.seq (.reg [⟨(.some 4), (.mv (.c (.lf .nils))), none⟩])
 (.seq (.reg [⟨(.some 8), (.lit 9 1 0 [] []), none⟩, ⟨(.some 5), (.mv (.t 8)), none⟩])
 (.seq (.reg [⟨(.some 6), (.mv (.c (.lf (.int .i64 0)))), none⟩])
 (.seq (.seq (.reg [⟨(.some 7), (.mv (.c (.lf (.int .i64 0)))), none⟩])
 (.block 0 (.loop (.seq (.seq (.reg [⟨(.some 9), (.mv (.t 7)), none⟩, ⟨(.some 10), (.mv (.t 0)), none⟩, ⟨(.some 11), (.slen (.t 10)), none⟩, ⟨(.some 12), (.bin .leq (.t 9) (.t 11)), none⟩])
 (.cond (.t 12) .skip (.exit 0)))
 (.seq (.block 1 (.seq (.reg [⟨(.some 15), (.mv (.t 7)), none⟩, ⟨(.some 16), (.mv (.t 0)), none⟩, ⟨(.some 17), (.slen (.t 16)), none⟩, ⟨(.some 18), (.bin .eql (.t 15) (.t 17)), none⟩, ⟨(.some 19), (.mv (.t 18)), none⟩, ⟨(.some 20), (.mv (.t 0)), (.some (19, false))⟩, ⟨(.some 21), (.mv (.t 7)), (.some (19, false))⟩, ⟨(.some 22), (.idx (.t 20) (.t 21)), (.some (19, false))⟩, ⟨(.some 23), (.mv (.t 1)), (.some (19, false))⟩, ⟨(.some 24), (.bin .eql (.t 22) (.t 23)), (.some (19, false))⟩, ⟨(.some 25), (.pick (.t 19) (.c (.lf (.bool true))) (.t 24)), none⟩])
 (.cond (.t 25) (.seq (.reg [⟨(.some 26), (.mv (.t 5)), none⟩, ⟨(.some 27), (.mv (.t 0)), none⟩, ⟨(.some 28), (.mv (.t 6)), none⟩, ⟨(.some 29), (.mv (.t 7)), none⟩, ⟨(.some 30), (.sstr (.t 27) (.some (.t 28)) (.some (.t 29))), none⟩, ⟨(.some 31), (.lit 9 1 1 [(.str ⟨#[]⟩)] [(0, (1, (.t 30)))]), none⟩, ⟨(.some 32), (.app 9 1 16 (.t 26) (.t 31)), none⟩, ⟨(.some 5), (.mv (.t 32)), none⟩])
 (.reg [⟨(.some 33), (.mv (.t 7)), none⟩, ⟨(.some 34), (.bin .add (.t 33) (.c (.lf (.int .i64 1)))), none⟩, ⟨(.some 6), (.mv (.t 34)), none⟩])) .skip)))
 (.reg [⟨(.some 13), (.mv (.t 7)), none⟩, ⟨(.some 14), (.bin .add (.t 13) (.c (.lf (.int .i64 1)))), none⟩, ⟨(.some 7), (.mv (.t 14)), none⟩]))))))
 (.seq (.reg [⟨(.some 35), (.mv (.t 5)), none⟩, ⟨(.some 4), (.mv (.t 35)), none⟩])
 .ret))))), [(.tmp 4)]⟩
def L10 : LFn := ⟨1, (.seq (.reg [⟨(.some 2), (.mv (.c (.lf .nils))), none⟩])
 (.seq (.seq (.reg [⟨(.some 3), (.mv (.t 0)), none⟩, ⟨(.some 4), (.bin .eql (.t 3) (.c (.lf (.str ⟨#[110, 111, 110, 101]⟩)))), none⟩])
 (.cond (.t 4) (.seq (.reg [⟨(.some 2), (.mv (.c (.lf .nils))), none⟩])
 .ret) .skip))
 (.seq (.reg [⟨(.some 5), (.mv (.t 0)), none⟩, ⟨(.some 6), (.call false 11 [(.t 5), (.c (.lf (.str ⟨#[59]⟩)))]), none⟩, ⟨(.some 2), (.mv (.t 6)), none⟩])
 .ret))), [(.tmp 2)]⟩
def L27 : LFn := ⟨1, (.seq (.reg [⟨(.some 2), (.mv (.c (.lf .nils))), none⟩])
 (.seq (.seq (.reg [⟨(.some 3), (.mv (.t 0)), none⟩, ⟨(.some 4), (.bin .eql (.t 3) (.c (.lf (.str ⟨#[110, 111, 110, 101]⟩)))), none⟩])
 (.cond (.t 4) (.seq (.reg [⟨(.some 2), (.mv (.c (.lf .nils))), none⟩])
 .ret) .skip))
 (.seq (.reg [⟨(.some 5), (.mv (.t 0)), none⟩, ⟨(.some 6), (.call false 11 [(.t 5), (.c (.lf (.str ⟨#[44]⟩)))]), none⟩, ⟨(.some 2), (.mv (.t 6)), none⟩])
 .ret))), [(.tmp 2)]⟩
class HasUe (S : Sys) : Prop extends HasTx S, HasP S where
  f18 : S.fs 18 = some L18
  f10 : S.fs 10 = some L10
  f27 : S.fs 27 = some L27
class HasRo (S : Sys) : Prop where
  none_ : (S.fs 11, S.fs 12) = (none, none)
  xt_ : S.xt = readX
theorem tsize {l : List UInt8} : (⟨l.toArray⟩ : ByteArray).size = l.length := by simp [ByteArray.size]
theorem tlen {l : List UInt8} : slenV (.lf (.str ⟨l.toArray⟩)) = some (.lf (.int .i64 (l.length : Int))) := by rw [slenV_str, tsize]
theorem tat {l : List UInt8} {i : Nat} {k : IntKind} (hi : i < l.length) : idxV (.lf (.str ⟨l.toArray⟩)) (.lf (.int k (i : Int))) = some (.lf (.int .u8 (l[i].toNat : Int))) := by
  rw [idxV_str (by omega) (by rw [tsize]; omega), Int.toNat_natCast]
  unfold byteAt
  rw [dif_pos (by rw [tsize]; exact hi)]
  rfl
theorem tcut {s : List UInt8} {a b : Nat} {k1 k2 : IntKind} (h1 : a ≤ b) (h2 : b ≤ s.length) : sstrV (.lf (.str ⟨s.toArray⟩)) (some (.lf (.int k1 (a : Int)))) (some (.lf (.int k2 (b : Int)))) = some (.lf (.str ⟨((s.drop a).take (b - a)).toArray⟩)) := by
  have e1 : boundV (⟨s.toArray⟩ : ByteArray).size (some (.lf (.int k2 (b : Int)))) = some b := by
    simp [boundV]
  have e2 : boundV 0 (some (.lf (.int k1 (a : Int)))) = some a := by
    simp [boundV]
  unfold sstrV
  simp only [e1, e2, Option.bind_some]
  rw [if_pos ⟨h1, by rw [tsize]; exact h2⟩]
  have e3 : (⟨s.toArray⟩ : ByteArray).extract a b = ⟨((s.drop a).take (b - a)).toArray⟩ := by
    have := Lib.extract_data ⟨s.toArray⟩ a b
    apply ByteArray.ext
    apply Array.toList_inj.1
    exact this
  rw [e3]
theorem teql {x y : List UInt8} : binV .eql (.lf (.str ⟨x.toArray⟩)) (.lf (.str ⟨y.toArray⟩)) = some (.lf (.bool (decide (x = y)))) := by
  show some (CV.lf (.bool ((⟨x.toArray⟩ : ByteArray).toList == (⟨y.toArray⟩ : ByteArray).toList))) = _
  rw [Lib.toList_data, Lib.toList_data]
  congr 3
  by_cases h : x = y
  · subst h; simp
  · rw [decide_eq_false h]; simpa using h
theorem tneq {x y : List UInt8} : binV .neq (.lf (.str ⟨x.toArray⟩)) (.lf (.str ⟨y.toArray⟩)) = some (.lf (.bool (!decide (x = y)))) := by
  show some (CV.lf (.bool (!((⟨x.toArray⟩ : ByteArray).toList == (⟨y.toArray⟩ : ByteArray).toList)))) = _
  rw [Lib.toList_data, Lib.toList_data]
  congr 4
  by_cases h : x = y
  · subst h; simp
  · rw [decide_eq_false h]; simpa using h
theorem tnone {x : List UInt8} : binV .eql (.lf (.str ⟨x.toArray⟩)) (.lf (.str ⟨#[110, 111, 110, 101]⟩)) = some (.lf (.bool (decide (x = none4)))) := teql (y := none4)
section
variable {h g : Hp} {lim ty sz bytes : Nat} {l : Lf} {rows : List (List Lf)} {K : CV → Hp → Prop}
/-- One more, to a longer slice. -/
theorem oc_pushL {r : List Lf} (hN : New h g l ty sz rows) (hl : lim ≤ h.length) (hb : rows.length ≤ 16777216) (hK : ∀ l' g', New h g' l' ty sz (rows ++ [r]) → But g g' l l' → K (.lf l') g') (hsz : 0 < sz) (hr : r.length = sz) (hby : bytes ≤ 1000) :
    oc (appV lim ty sz bytes (g ++ [⟨r, .own ty sz⟩]) (.lf l) (.lf (.sl g.length 0 1 sz))) K := by
  have hb1 : (rows.length + 1) * bytes ≤ 140737488355328 := Nat.le_trans (Nat.mul_le_mul (show rows.length + 1 ≤ 16777217 by omega) hby) (by decide)
  obtain ⟨l', g', h1, h2, h3⟩ := hN.push (lim := lim) (bytes := bytes) hsz hl hr hb1 (by omega)
  rw [h1]
  exact hK l' g' h2 h3
theorem oc_pushSL {id : Nat} {r : List Lf} (hN : New h g l ty sz rows) (hs : rdCells g id 0 sz = some r) (hl : lim ≤ h.length) (hb : rows.length ≤ 16777216) (hK : ∀ l' g', New h g' l' ty sz (rows ++ [r]) → But g g' l l' → K (.lf l') g') (hsz : 0 < sz) (hby : bytes ≤ 1000) :
    oc (appV lim ty sz bytes g (.lf l) (.lf (.sl id 0 1 sz))) K := by
  have hr := rd_len hs
  have hb1 : (rows.length + [r].length) * bytes ≤ 140737488355328 := Nat.le_trans (Nat.mul_le_mul (show rows.length + [r].length ≤ 16777217 by simp; omega) hby) (by decide)
  obtain ⟨l', g', h1, h2, h3⟩ := hN.append (lim := lim) (bytes := bytes) (y := .lf (.sl id 0 1 sz)) (new := [r]) hsz hl (by simp [srcCells, hs]) (fun i q hi => by
    cases i with
    | zero => simp at hi; subst hi; exact hr
    | succ i => simp at hi) hb1 (by simp; omega)
  rw [h1]
  exact hK l' g' h2 h3
end
section
variable {S : Sys} {lim : Nat} {h : Hp} {K : CV → Hp → Prop} {s : List UInt8} {m : UInt8}
theorem c_Split [HasRo S] (hs : s.length ≤ 1000000000) (hK : ∀ o g, New h g o 9 1 ((cut m s).map st) → K (.lf o) g) : CallT S false 11 [.lf (.str ⟨s.toArray⟩), .lf (.str ⟨#[m]⟩)] h lim K := by
  have hxt : S.xt 11 [.lf (.str ⟨s.toArray⟩), .lf (.str ⟨#[m]⟩)] h lim = some (.lf (.sl h.length 0 (splitL ⟨s.toArray⟩ ⟨#[m]⟩).length 1), h ++ [⟨(splitL ⟨s.toArray⟩ ⟨#[m]⟩).map .str, .own 9 1⟩]) := by
    rw [HasRo.xt_]
    exact readX_split (by rw [tsize]; exact hs) (show (1 : Nat) ≤ 1 from Nat.le_refl 1)
  have e : splitL ⟨s.toArray⟩ ⟨#[m]⟩ = (cut m s).map fun x => ⟨x.toArray⟩ := splitB_cut
  rw [e] at hxt
  have hS : Sl (h ++ [(⟨((cut m s).map fun x => (⟨x.toArray⟩ : ByteArray)).map Lf.str, .own 9 1⟩ : Ob)]) h.length 9 1 ((cut m s).map st) := by
    refine ⟨?_, fun i r hi => ?_⟩
    · rw [List.getElem?_append_right (Nat.le_refl _), Nat.sub_self]
      have : (((cut m s).map fun x => (⟨x.toArray⟩ : ByteArray)).map Lf.str) = ((cut m s).map st).flatten := by
        generalize cut m s = q
        induction q with
        | nil => rfl
        | cons x r ih => rw [List.map_cons, List.map_cons, List.map_cons, List.flatten_cons, ← ih]; rfl
      rw [this]; rfl
    · rw [List.getElem?_map] at hi
      obtain ⟨y, _, rfl⟩ := Option.map_eq_some_iff.1 hi
      rfl
  have hle := cut_len (m := m) (s := s)
  have hN := New.of_sl (Kept.app h _) hS (Nat.le_refl _) (by simp; omega)
  rw [List.length_map] at hN
  rw [List.length_map] at hxt
  have hn := HasRo.none_ (S := S)
  simp only [Prod.mk.injEq] at hn
  exact Holds.xt hn.1 hxt (hK _ _ hN)
theorem c_ReadDecimal [HasRo S] (hs : s.length ≤ 1000000000) : CallT S true 12 [.lf (.str ⟨s.toArray⟩)] h lim K = K (.tup [.lf (.int .i64 (decN s)), .lf (.bool (decide (isDec s)))]) h := by
  have hn := HasRo.none_ (S := S)
  simp only [Prod.mk.injEq] at hn
  refine CallT_xt (by first | exact hn.2 | exact hn.2.1) ?_ rfl
  rw [HasRo.xt_]
  exact readX_dec (by rw [tsize]; exact hs)
/-- What is known of the pieces when the place i is to be looked at. -/
def CutI (m : UInt8) (s : List UInt8) (i a : Nat) (pre : List (List UInt8)) : Prop :=
  (i ≤ s.length ∧ a ≤ i ∧ cut m s = pre ++ cut m (s.drop a) ∧ ∀ (j : Nat) c, a ≤ j → j < i → s[j]? = some c → c ≠ m) ∨ (i = s.length + 1 ∧ pre = cut m s)
theorem CutI.start : CutI m s 0 0 [] := .inl ⟨by omega, by omega, by simp, fun j c _ h => by omega⟩
theorem CutI.keep {i a : Nat} {pre : List (List UInt8)} (h : CutI m s i a pre) (hi : i < s.length) (hm : s[i] ≠ m) : CutI m s (i + 1) a pre := by
  rcases h with ⟨h1, h2, h3, h4⟩ | ⟨h1, _⟩
  · refine .inl ⟨hi, by omega, h3, fun j c k1 k2 k3 => ?_⟩
    by_cases e : j = i
    · subst e
      rw [List.getElem?_eq_getElem hi] at k3
      injection k3 with k3
      rw [← k3]; exact hm
    · exact h4 j c k1 (by omega) k3
  · omega
theorem CutI.mark {i a : Nat} {pre : List (List UInt8)} (h : CutI m s i a pre) (hi : i < s.length) (hm : s[i] = m) : CutI m s (i + 1) (i + 1) (pre ++ [(s.drop a).take (i - a)]) := by
  rcases h with ⟨h1, h2, h3, h4⟩ | ⟨h1, _⟩
  · refine .inl ⟨hi, by omega, ?_, fun j c k1 k2 k3 => by omega⟩
    rw [h3, cut_at h2 hi h4 hm]; simp
  · omega
theorem CutI.last {i a : Nat} {pre : List (List UInt8)} (h : CutI m s i a pre) (hi : i = s.length) : CutI m s (i + 1) (i + 1) (pre ++ [(s.drop a).take (i - a)]) := by
  rcases h with ⟨h1, h2, h3, h4⟩ | ⟨h1, _⟩
  · refine .inr ⟨by omega, ?_⟩
    subst hi
    rw [h3, cut_end h4, List.take_of_length_le (by rw [List.length_drop]; omega)]
  · omega
theorem CutI.le {i a : Nat} {pre : List (List UInt8)} (h : CutI m s i a pre) (hi : i ≤ s.length) : a ≤ i := by
  rcases h with ⟨h1, h2, h3, h4⟩ | ⟨h1, _⟩
  · exact h2
  · omega
theorem CutI.done {a : Nat} {pre : List (List UInt8)} (h : CutI m s (s.length + 1) a pre) : pre = cut m s := by
  rcases h with ⟨h1, _⟩ | ⟨_, h1⟩
  · omega
  · exact h1
variable [HasUe S]
set_option maxHeartbeats 2000000 in
theorem c_l01Cut (hs : s.length ≤ 2000000) (hl : lim ≤ h.length) (hK : ∀ o g, New h g o 9 1 ((cut m s).map st) → K (.lf o) g) : CallT S false 18 [.lf (.str ⟨s.toArray⟩), .lf (.int .u8 (m.toNat : Int))] h lim K := by
  have z0 : New h (h ++ [⟨[], .own 9 1⟩]) (.sl h.length 0 0 1) 9 1 (([] : List (List UInt8)).map st) := New.litN (Kept.refl h)
  have hlen := tlen (l := s)
  have hm := UInt8.toNat_lt m
  refine CallT_of_body (F := L18) (HasUe.f18) rfl ?_; unfold L18; dsimp only []
  repeat' (first | (simp (disch := first | omega | assumption | (simp only [List.length_set]; omega) | (simp [*] <;> fail) | assumption) [-Bool.decide_and, -Bool.decide_or, -Bool.not_and, -Bool.not_or, toNat_pred, toNat_succ, wrap64, wr_new, wr_new0, ok_if, ok_ifn, iadV_sl, makeV_int, decT, decF, over_at, *, leavesAll, fillL]) | (with_reducible refine Gd_split (fun hc => ?_) (fun hc => ?_) <;> (have hc2 := hc; try simp at hc2)) | (with_reducible refine Br_split (fun hc => ?_) (fun hc => ?_) <;> (have hc2 := hc; try simp at hc2)) | (with_reducible refine GdT_split (fun hc => ?_) (fun hc => ?_) <;> (have hc2 := hc; try simp at hc2)) | (with_reducible refine WT_alt ?_ ?_) | omega)
  refine WL_forM 34359738080 (by decide +kernel) (s.length + 1) (fun i b g => i ≤ s.length + 1 ∧ b 7 = .lf (.int .i64 i) ∧ ∃ a pre o, b 6 = .lf (.int .i64 ((a : Nat) : Int)) ∧ b 5 = .lf o ∧ New h g o 9 1 (pre.map st) ∧ pre.length ≤ i ∧ Hid (CutI m s i a pre)) (fun _ _ _ hi => hi.1) ⟨by omega, by simp, 0, [], _, by simp, by simp, z0, by simp, CutI.start⟩ ?_
  clear z0
  rintro i b g ⟨hi, e7, a, pre, o, e6, e5, hN, hpl, hC⟩
  have hC0 : CutI m s i a pre := hC
  by_cases hlt : i < s.length
  · have hat := tat (l := s) (k := .i64) hlt
    have hcl : s[i].toNat < 256 := UInt8.toNat_lt _
    have hc2 := hC0.le (Nat.le_of_lt hlt)
    have hcut := tcut (s := s) (k1 := .i64) (k2 := .i64) hc2 (Nat.le_of_lt hlt)
    have hne : ¬ (i : Int) = (s.length : Int) := by omega
    have hle : (i : Int) ≤ (s.length : Int) := by omega
    by_cases hmk : s[i] = m
    · have hC2 : Hid (CutI m s (i + 1) (i + 1) (pre ++ [(s.drop a).take (i - a)])) := hC0.mark hlt hmk
      rw [hmk] at hat
      clear hC hC0 hmk
      generalize (s.drop a).take (i - a) = y at *
      generalize m.toNat = d at *
      repeat' (first | (simp (disch := first | omega | assumption | (simp only [List.length_set]; omega) | (simp [*] <;> fail) | assumption) [-Bool.decide_and, -Bool.decide_or, -Bool.not_and, -Bool.not_or, toNat_pred, toNat_succ, wrap64, wr_new, wr_new0, ok_if, ok_ifn, iadV_sl, makeV_int, decT, decF, over_at, *, leavesAll, fillL]) | (with_reducible refine Gd_split (fun hc => ?_) (fun hc => ?_) <;> (have hc2 := hc; try simp at hc2)) | (with_reducible refine Br_split (fun hc => ?_) (fun hc => ?_) <;> (have hc2 := hc; try simp at hc2)) | (with_reducible refine GdT_split (fun hc => ?_) (fun hc => ?_) <;> (have hc2 := hc; try simp at hc2)) | (with_reducible refine WT_alt ?_ ?_) | omega)
      refine oc_pushL (r := st y) (bytes := 16) hN hl (by simp; omega) (fun o2 g2 hN2 hB => ?_) (by decide) rfl (by decide)
      have hN3 : New h g2 o2 9 1 ((pre ++ [y]).map st) := by rw [List.map_append]; exact hN2
      clear hN hN2 hB
      repeat' (first | (simp (disch := first | omega | assumption | (simp only [List.length_set]; omega) | (simp [*] <;> fail) | assumption) [-Bool.decide_and, -Bool.decide_or, -Bool.not_and, -Bool.not_or, toNat_pred, toNat_succ, wrap64, wr_new, wr_new0, ok_if, ok_ifn, iadV_sl, makeV_int, decT, decF, over_at, *]) | (with_reducible refine Gd_split (fun hc => ?_) (fun hc => ?_) <;> (have hc2 := hc; try simp at hc2)) | (with_reducible refine Br_split (fun hc => ?_) (fun hc => ?_) <;> (have hc2 := hc; try simp at hc2)) | (with_reducible refine GdT_split (fun hc => ?_) (fun hc => ?_) <;> (have hc2 := hc; try simp at hc2)) | (with_reducible refine WT_alt ?_ ?_) | omega)
      exact ⟨by omega, i + 1, by simp, _, hN3, by simp; omega, hC2⟩
    · have hC2 : Hid (CutI m s (i + 1) a pre) := hC0.keep hlt hmk
      have hmk2 : ¬ (s[i].toNat : Int) = (m.toNat : Int) := fun q => hmk (UInt8.toNat_inj.1 (by omega))
      clear hC hC0 hmk hcut
      generalize s[i].toNat = e at *
      generalize m.toNat = d at *
      repeat' (first | (simp (disch := first | omega | assumption | (simp only [List.length_set]; omega) | (simp [*] <;> fail) | assumption) [-Bool.decide_and, -Bool.decide_or, -Bool.not_and, -Bool.not_or, toNat_pred, toNat_succ, wrap64, wr_new, wr_new0, ok_if, ok_ifn, iadV_sl, makeV_int, decT, decF, over_at, *]) | (with_reducible refine Gd_split (fun hc => ?_) (fun hc => ?_) <;> (have hc2 := hc; try simp at hc2)) | (with_reducible refine Br_split (fun hc => ?_) (fun hc => ?_) <;> (have hc2 := hc; try simp at hc2)) | (with_reducible refine GdT_split (fun hc => ?_) (fun hc => ?_) <;> (have hc2 := hc; try simp at hc2)) | (with_reducible refine WT_alt ?_ ?_) | omega)
      exact ⟨by omega, a, rfl, pre, hN, by omega, hC2⟩
  · by_cases heq : i = s.length
    · subst heq
      have hcut := tcut (s := s) (k1 := .i64) (k2 := .i64) (hC0.le (Nat.le_refl _)) (Nat.le_refl _)
      have hC2 : Hid (CutI m s (s.length + 1) (s.length + 1) (pre ++ [(s.drop a).take (s.length - a)])) := hC0.last rfl
      clear hC hC0 hlt
      generalize (s.drop a).take (s.length - a) = y at *
      repeat' (first | (simp (disch := first | omega | assumption | (simp only [List.length_set]; omega) | (simp [*] <;> fail) | assumption) [-Bool.decide_and, -Bool.decide_or, -Bool.not_and, -Bool.not_or, toNat_pred, toNat_succ, wrap64, wr_new, wr_new0, ok_if, ok_ifn, iadV_sl, makeV_int, decT, decF, over_at, *, leavesAll, fillL]) | (with_reducible refine Gd_split (fun hc => ?_) (fun hc => ?_) <;> (have hc2 := hc; try simp at hc2)) | (with_reducible refine Br_split (fun hc => ?_) (fun hc => ?_) <;> (have hc2 := hc; try simp at hc2)) | (with_reducible refine GdT_split (fun hc => ?_) (fun hc => ?_) <;> (have hc2 := hc; try simp at hc2)) | (with_reducible refine WT_alt ?_ ?_) | omega)
      refine oc_pushL (r := st y) (bytes := 16) hN hl (by simp; omega) (fun o2 g2 hN2 hB => ?_) (by decide) rfl (by decide)
      have hN3 : New h g2 o2 9 1 ((pre ++ [y]).map st) := by rw [List.map_append]; exact hN2
      clear hN hN2 hB
      repeat' (first | (simp (disch := first | omega | assumption | (simp only [List.length_set]; omega) | (simp [*] <;> fail) | assumption) [-Bool.decide_and, -Bool.decide_or, -Bool.not_and, -Bool.not_or, toNat_pred, toNat_succ, wrap64, wr_new, wr_new0, ok_if, ok_ifn, iadV_sl, makeV_int, decT, decF, over_at, *]) | (with_reducible refine Gd_split (fun hc => ?_) (fun hc => ?_) <;> (have hc2 := hc; try simp at hc2)) | (with_reducible refine Br_split (fun hc => ?_) (fun hc => ?_) <;> (have hc2 := hc; try simp at hc2)) | (with_reducible refine GdT_split (fun hc => ?_) (fun hc => ?_) <;> (have hc2 := hc; try simp at hc2)) | (with_reducible refine WT_alt ?_ ?_) | omega)
      exact ⟨s.length + 1, by simp, _, hN3, by simp; omega, hC2⟩
    · have : i = s.length + 1 := by omega
      subst this
      have hp := hC0.done
      rw [hp] at hN
      have hne : ¬ ((s.length : Int) + 1 ≤ (s.length : Int)) := by omega
      have hk := hK _ _ hN
      clear hK hN hC hC0 hp
      repeat' (first | (simp (disch := first | omega | assumption | (simp only [List.length_set]; omega) | (simp [*] <;> fail) | assumption) [-Bool.decide_and, -Bool.decide_or, -Bool.not_and, -Bool.not_or, toNat_pred, toNat_succ, wrap64, wr_new, wr_new0, ok_if, ok_ifn, iadV_sl, makeV_int, decT, decF, over_at, *]) | (with_reducible refine Gd_split (fun hc => ?_) (fun hc => ?_) <;> (have hc2 := hc; try simp at hc2)) | (with_reducible refine Br_split (fun hc => ?_) (fun hc => ?_) <;> (have hc2 := hc; try simp at hc2)) | (with_reducible refine GdT_split (fun hc => ?_) (fun hc => ?_) <;> (have hc2 := hc; try simp at hc2)) | (with_reducible refine WT_alt ?_ ?_) | omega)
theorem c_parted [HasRo S] (hs : s.length ≤ 1000000000) (hl : lim ≤ h.length) (hK : ∀ o g, New h g o 9 1 ((if s = none4 then [] else cut 59 s).map st) → K (.lf o) g) : CallT S false 10 [.lf (.str ⟨s.toArray⟩)] h lim K := by
  have hn := tnone (x := s)
  by_cases h0 : s = none4
  · rw [if_pos h0] at hK
    rw [decide_eq_true h0] at hn
    have hk := hK .nils h (New.nil (Kept.refl h))
    clear hK h0
    refine CallT_of_body (F := L10) (HasUe.f10) rfl ?_; unfold L10; dsimp only []
    repeat' (first | (simp (disch := first | omega | assumption | (simp only [List.length_set]; omega) | (simp [*] <;> fail) | assumption) [-Bool.decide_and, -Bool.decide_or, -Bool.not_and, -Bool.not_or, toNat_pred, toNat_succ, wrap64, wr_new, wr_new0, ok_if, ok_ifn, iadV_sl, makeV_int, decT, decF, over_at, *]) | (with_reducible refine Gd_split (fun hc => ?_) (fun hc => ?_) <;> (have hc2 := hc; try simp at hc2)) | (with_reducible refine Br_split (fun hc => ?_) (fun hc => ?_) <;> (have hc2 := hc; try simp at hc2)) | (with_reducible refine GdT_split (fun hc => ?_) (fun hc => ?_) <;> (have hc2 := hc; try simp at hc2)) | (with_reducible refine WT_alt ?_ ?_) | omega)
  · rw [if_neg h0] at hK
    rw [decide_eq_false h0] at hn
    clear h0
    refine CallT_of_body (F := L10) (HasUe.f10) rfl ?_; unfold L10; dsimp only []
    repeat' (first | (simp (disch := first | omega | assumption | (simp only [List.length_set]; omega) | (simp [*] <;> fail) | assumption) [-Bool.decide_and, -Bool.decide_or, -Bool.not_and, -Bool.not_or, toNat_pred, toNat_succ, wrap64, wr_new, wr_new0, ok_if, ok_ifn, iadV_sl, makeV_int, decT, decF, over_at, *]) | (with_reducible refine Gd_split (fun hc => ?_) (fun hc => ?_) <;> (have hc2 := hc; try simp at hc2)) | (with_reducible refine Br_split (fun hc => ?_) (fun hc => ?_) <;> (have hc2 := hc; try simp at hc2)) | (with_reducible refine GdT_split (fun hc => ?_) (fun hc => ?_) <;> (have hc2 := hc; try simp at hc2)) | (with_reducible refine WT_alt ?_ ?_) | omega)
    refine c_Split hs fun o g hN => ?_
    have hk := hK _ _ hN
    clear hK
    repeat' (first | (simp (disch := first | omega | assumption | (simp only [List.length_set]; omega) | (simp [*] <;> fail) | assumption) [-Bool.decide_and, -Bool.decide_or, -Bool.not_and, -Bool.not_or, toNat_pred, toNat_succ, wrap64, wr_new, wr_new0, ok_if, ok_ifn, iadV_sl, makeV_int, decT, decF, over_at, *]) | (with_reducible refine Gd_split (fun hc => ?_) (fun hc => ?_) <;> (have hc2 := hc; try simp at hc2)) | (with_reducible refine Br_split (fun hc => ?_) (fun hc => ?_) <;> (have hc2 := hc; try simp at hc2)) | (with_reducible refine GdT_split (fun hc => ?_) (fun hc => ?_) <;> (have hc2 := hc; try simp at hc2)) | (with_reducible refine WT_alt ?_ ?_) | omega)
theorem c_divided [HasRo S] (hs : s.length ≤ 1000000000) (hl : lim ≤ h.length) (hK : ∀ o g, New h g o 9 1 ((if s = none4 then [] else cut 44 s).map st) → K (.lf o) g) : CallT S false 27 [.lf (.str ⟨s.toArray⟩)] h lim K := by
  have hn := tnone (x := s)
  by_cases h0 : s = none4
  · rw [if_pos h0] at hK
    rw [decide_eq_true h0] at hn
    have hk := hK .nils h (New.nil (Kept.refl h))
    clear hK h0
    refine CallT_of_body (F := L27) (HasUe.f27) rfl ?_; unfold L27; dsimp only []
    repeat' (first | (simp (disch := first | omega | assumption | (simp only [List.length_set]; omega) | (simp [*] <;> fail) | assumption) [-Bool.decide_and, -Bool.decide_or, -Bool.not_and, -Bool.not_or, toNat_pred, toNat_succ, wrap64, wr_new, wr_new0, ok_if, ok_ifn, iadV_sl, makeV_int, decT, decF, over_at, *]) | (with_reducible refine Gd_split (fun hc => ?_) (fun hc => ?_) <;> (have hc2 := hc; try simp at hc2)) | (with_reducible refine Br_split (fun hc => ?_) (fun hc => ?_) <;> (have hc2 := hc; try simp at hc2)) | (with_reducible refine GdT_split (fun hc => ?_) (fun hc => ?_) <;> (have hc2 := hc; try simp at hc2)) | (with_reducible refine WT_alt ?_ ?_) | omega)
  · rw [if_neg h0] at hK
    rw [decide_eq_false h0] at hn
    clear h0
    refine CallT_of_body (F := L27) (HasUe.f27) rfl ?_; unfold L27; dsimp only []
    repeat' (first | (simp (disch := first | omega | assumption | (simp only [List.length_set]; omega) | (simp [*] <;> fail) | assumption) [-Bool.decide_and, -Bool.decide_or, -Bool.not_and, -Bool.not_or, toNat_pred, toNat_succ, wrap64, wr_new, wr_new0, ok_if, ok_ifn, iadV_sl, makeV_int, decT, decF, over_at, *]) | (with_reducible refine Gd_split (fun hc => ?_) (fun hc => ?_) <;> (have hc2 := hc; try simp at hc2)) | (with_reducible refine Br_split (fun hc => ?_) (fun hc => ?_) <;> (have hc2 := hc; try simp at hc2)) | (with_reducible refine GdT_split (fun hc => ?_) (fun hc => ?_) <;> (have hc2 := hc; try simp at hc2)) | (with_reducible refine WT_alt ?_ ?_) | omega)
    refine c_Split hs fun o g hN => ?_
    have hk := hK _ _ hN
    clear hK
    repeat' (first | (simp (disch := first | omega | assumption | (simp only [List.length_set]; omega) | (simp [*] <;> fail) | assumption) [-Bool.decide_and, -Bool.decide_or, -Bool.not_and, -Bool.not_or, toNat_pred, toNat_succ, wrap64, wr_new, wr_new0, ok_if, ok_ifn, iadV_sl, makeV_int, decT, decF, over_at, *]) | (with_reducible refine Gd_split (fun hc => ?_) (fun hc => ?_) <;> (have hc2 := hc; try simp at hc2)) | (with_reducible refine Br_split (fun hc => ?_) (fun hc => ?_) <;> (have hc2 := hc; try simp at hc2)) | (with_reducible refine GdT_split (fun hc => ?_) (fun hc => ?_) <;> (have hc2 := hc; try simp at hc2)) | (with_reducible refine WT_alt ?_ ?_) | omega)
end
end Go.E
