/- Pieces of texts, for the evaluator: strings.Split, l01Cut. -/
import Derived.Test.YtgdloogokjemdaaGreatDoorMUb
import Derived.Test.YtgdloogokjemdaaGreatDoorMUc
set_option linter.unusedVariables false
set_option linter.unusedSimpArgs false
namespace Go.E
open Go
def L12 : LFn := ⟨2, (.seq (.reg [⟨(.some 4), (.mv (.c (.lf .nils))), none⟩])
 (.seq (.reg [⟨(.some 8), (.lit 9 1 0 [] []), none⟩, ⟨(.some 5), (.mv (.t 8)), none⟩])
 (.seq (.reg [⟨(.some 6), (.mv (.c (.lf (.int .i64 0)))), none⟩])
 (.seq (.seq (.reg [⟨(.some 7), (.mv (.c (.lf (.int .i64 0)))), none⟩])
 (.block 0 (.loop (.seq (.seq (.reg [⟨(.some 9), (.mv (.t 7)), none⟩, ⟨(.some 10), (.mv (.t 0)), none⟩, ⟨(.some 11), (.slen (.t 10)), none⟩, ⟨(.some 12), (.bin .leq (.t 9) (.t 11)), none⟩])
 (.cond (.t 12) .skip (.exit 0)))
 (.seq (.block 1 (.seq (.reg [⟨(.some 15), (.mv (.t 7)), none⟩, ⟨(.some 16), (.mv (.t 0)), none⟩, ⟨(.some 17), (.slen (.t 16)), none⟩, ⟨(.some 18), (.bin .eql (.t 15) (.t 17)), none⟩, ⟨(.some 19), (.mv (.t 18)), none⟩, ⟨(.some 20), (.mv (.t 0)), (.some (19, false))⟩, ⟨(.some 21), (.mv (.t 7)), (.some (19, false))⟩, ⟨(.some 22), (.idx (.t 20) (.t 21)), (.some (19, false))⟩, ⟨(.some 23), (.mv (.t 1)), (.some (19, false))⟩, ⟨(.some 24), (.bin .eql (.t 22) (.t 23)), (.some (19, false))⟩, ⟨(.some 25), (.pick (.t 19) (.c (.lf (.bool true))) (.t 24)), none⟩])
 (.cond (.t 25) (.seq (.reg [⟨(.some 26), (.mv (.t 5)), none⟩, ⟨(.some 27), (.mv (.t 0)), none⟩, ⟨(.some 28), (.mv (.t 6)), none⟩, ⟨(.some 29), (.mv (.t 7)), none⟩, ⟨(.some 30), (.sstr (.t 27) (.some (.t 28)) (.some (.t 29))), none⟩, ⟨(.some 31), (.lit 9 1 1 [(.str ⟨#[]⟩)] [(0, (1, (.t 30)))]), none⟩, ⟨(.some 32), (.app 9 1 16 (.t 26) (.t 31)), none⟩, ⟨(.some 5), (.mv (.t 32)), none⟩])
 (.reg [⟨(.some 33), (.mv (.t 7)), none⟩, ⟨(.some 34), (.bin .add (.t 33) (.c (.lf (.int .i64 1)))), none⟩, ⟨(.some 6), (.mv (.t 34)), none⟩])) .skip)))
 (.reg [⟨(.some 13), (.mv (.t 7)), none⟩, ⟨(.some 14), (.bin .add (.t 13) (.c (.lf (.int .i64 1)))), none⟩, ⟨(.some 7), (.mv (.t 14)), none⟩]))))))
 (.seq (.reg [⟨(.some 35), (.mv (.t 5)), none⟩, ⟨(.some 4), (.mv (.t 35)), none⟩])
 .ret))))), [(.tmp 4)]⟩
def L19 : LFn := ⟨1, (.seq (.reg [⟨(.some 2), (.mv (.c (.lf .nils))), none⟩])
 (.seq (.seq (.reg [⟨(.some 3), (.mv (.t 0)), none⟩, ⟨(.some 4), (.bin .eql (.t 3) (.c (.lf (.str ⟨#[110, 111, 110, 101]⟩)))), none⟩])
 (.cond (.t 4) (.seq (.reg [⟨(.some 2), (.mv (.c (.lf .nils))), none⟩])
 .ret) .skip))
 (.seq (.reg [⟨(.some 5), (.mv (.t 0)), none⟩, ⟨(.some 6), (.call false 17 [(.t 5), (.c (.lf (.str ⟨#[59]⟩)))]), none⟩, ⟨(.some 2), (.mv (.t 6)), none⟩])
 .ret))), [(.tmp 2)]⟩
def L39 : LFn := ⟨1, (.seq (.reg [⟨(.some 2), (.mv (.c (.lf .nils))), none⟩])
 (.seq (.seq (.reg [⟨(.some 3), (.mv (.t 0)), none⟩, ⟨(.some 4), (.bin .eql (.t 3) (.c (.lf (.str ⟨#[110, 111, 110, 101]⟩)))), none⟩])
 (.cond (.t 4) (.seq (.reg [⟨(.some 2), (.mv (.c (.lf .nils))), none⟩])
 .ret) .skip))
 (.seq (.reg [⟨(.some 5), (.mv (.t 0)), none⟩, ⟨(.some 6), (.call false 17 [(.t 5), (.c (.lf (.str ⟨#[44]⟩)))]), none⟩, ⟨(.some 2), (.mv (.t 6)), none⟩])
 .ret))), [(.tmp 2)]⟩
class HasUe (S : Sys) : Prop extends HasTx S, HasP S where
  f12 : S.fs 12 = some L12
  f19 : S.fs 19 = some L19
  f39 : S.fs 39 = some L39
class HasRo (S : Sys) : Prop where
  none_ : (S.fs 17, S.fs 37, S.fs 65, S.fs 66) = (none, none, none, none)
  xt_ : S.xt = readX
instance (S : Sys) [HasRo S] : HasJq S := ⟨by
  have := HasRo.none_ (S := S)
  simp only [Prod.mk.injEq] at this
  simp [this.2.2.1, this.2.2.2], fun f args h lim r hr => by rw [HasRo.xt_]; exact readX_join hr⟩
theorem tsize {l : List UInt8} : (⟨l.toArray⟩ : ByteArray).size = l.length := by simp [ByteArray.size]
theorem tlen {l : List UInt8} : slenV (.lf (.str ⟨l.toArray⟩)) = some (.lf (.int .i64 (l.length : Int))) := by rw [slenV_str, tsize]
theorem tat {l : List UInt8} {i : Nat} {k : IntKind} (hi : i < l.length) : idxV (.lf (.str ⟨l.toArray⟩)) (.lf (.int k (i : Int))) = some (.lf (.int .u8 (l[i].toNat : Int))) := by
  rw [idxV_str (by omega) (by rw [tsize]; omega), Int.toNat_natCast]
  unfold byteAt
  rw [dif_pos (by rw [tsize]; exact hi)]
  rfl
theorem tcut {s : List UInt8} {a b : Nat} {k1 k2 : IntKind} (h1 : a ≤ b) (h2 : b ≤ s.length) : sstrV (.lf (.str ⟨s.toArray⟩)) (some (.lf (.int k1 (a : Int)))) (some (.lf (.int k2 (b : Int)))) = some (.lf (.str ⟨((s.drop a).take (b - a)).toArray⟩)) := by
  have e1 : boundV (⟨s.toArray⟩ : ByteArray).size (some (.lf (.int k2 (b : Int)))) = some b := by
    simp [boundV]
  have e2 : boundV 0 (some (.lf (.int k1 (a : Int)))) = some a := by
    simp [boundV]
  unfold sstrV
  simp only [e1, e2, Option.bind_some]
  rw [if_pos ⟨h1, by rw [tsize]; exact h2⟩]
  have e3 : (⟨s.toArray⟩ : ByteArray).extract a b = ⟨((s.drop a).take (b - a)).toArray⟩ := by
    have := Lib.extract_data ⟨s.toArray⟩ a b
    apply ByteArray.ext
    apply Array.toList_inj.1
    exact this
  rw [e3]
theorem teql {x y : List UInt8} : binV .eql (.lf (.str ⟨x.toArray⟩)) (.lf (.str ⟨y.toArray⟩)) = some (.lf (.bool (decide (x = y)))) := by
  show some (CV.lf (.bool ((⟨x.toArray⟩ : ByteArray).toList == (⟨y.toArray⟩ : ByteArray).toList))) = _
  rw [Lib.toList_data, Lib.toList_data]
  congr 3
  by_cases h : x = y
  · subst h; simp
  · rw [decide_eq_false h]; simpa using h
theorem tneq {x y : List UInt8} : binV .neq (.lf (.str ⟨x.toArray⟩)) (.lf (.str ⟨y.toArray⟩)) = some (.lf (.bool (!decide (x = y)))) := by
  show some (CV.lf (.bool (!((⟨x.toArray⟩ : ByteArray).toList == (⟨y.toArray⟩ : ByteArray).toList)))) = _
  rw [Lib.toList_data, Lib.toList_data]
  congr 4
  by_cases h : x = y
  · subst h; simp
  · rw [decide_eq_false h]; simpa using h
theorem tnone {x : List UInt8} : binV .eql (.lf (.str ⟨x.toArray⟩)) (.lf (.str ⟨#[110, 111, 110, 101]⟩)) = some (.lf (.bool (decide (x = none4)))) := teql (y := none4)
section
variable {h g : Hp} {lim ty sz bytes : Nat} {l : Lf} {rows : List (List Lf)} {K : CV → Hp → Prop}
/-- One more, to a longer slice. -/
theorem oc_pushL {r : List Lf} (hN : New h g l ty sz rows) (hl : lim ≤ h.length) (hb : rows.length ≤ 16777216) (hK : ∀ l' g', New h g' l' ty sz (rows ++ [r]) → But g g' l l' → K (.lf l') g') (hsz : 0 < sz) (hr : r.length = sz) (hby : bytes ≤ 1000) :
    oc (appV lim ty sz bytes (g ++ [⟨r, .own ty sz⟩]) (.lf l) (.lf (.sl g.length 0 1 sz))) K := by
  have hb1 : (rows.length + 1) * bytes ≤ 140737488355328 := Nat.le_trans (Nat.mul_le_mul (show rows.length + 1 ≤ 16777217 by omega) hby) (by decide)
  obtain ⟨l', g', h1, h2, h3⟩ := hN.push (lim := lim) (bytes := bytes) hsz hl hr hb1 (by omega)
  rw [h1]
  exact hK l' g' h2 h3
theorem oc_pushSL {id : Nat} {r : List Lf} (hN : New h g l ty sz rows) (hs : rdCells g id 0 sz = some r) (hl : lim ≤ h.length) (hb : rows.length ≤ 16777216) (hK : ∀ l' g', New h g' l' ty sz (rows ++ [r]) → But g g' l l' → K (.lf l') g') (hsz : 0 < sz) (hby : bytes ≤ 1000) :
    oc (appV lim ty sz bytes g (.lf l) (.lf (.sl id 0 1 sz))) K := by
  have hr := rd_len hs
  have hb1 : (rows.length + [r].length) * bytes ≤ 140737488355328 := Nat.le_trans (Nat.mul_le_mul (show rows.length + [r].length ≤ 16777217 by simp; omega) hby) (by decide)
  obtain ⟨l', g', h1, h2, h3⟩ := hN.append (lim := lim) (bytes := bytes) (y := .lf (.sl id 0 1 sz)) (new := [r]) hsz hl (by simp [srcCells, hs]) (fun i q hi => by
    cases i with
    | zero => simp at hi; subst hi; exact hr
    | succ i => simp at hi) hb1 (by simp; omega)
  rw [h1]
  exact hK l' g' h2 h3
end
section
variable {S : Sys} {lim : Nat} {h : Hp} {K : CV → Hp → Prop} {s : List UInt8} {m : UInt8}
theorem c_Split [HasRo S] (hs : s.length ≤ 1000000000) (hK : ∀ o g, New h g o 9 1 ((cut m s).map st) → K (.lf o) g) : CallT S false 17 [.lf (.str ⟨s.toArray⟩), .lf (.str ⟨#[m]⟩)] h lim K := by
  have hxt : S.xt 17 [.lf (.str ⟨s.toArray⟩), .lf (.str ⟨#[m]⟩)] h lim = some (.lf (.sl h.length 0 (splitL ⟨s.toArray⟩ ⟨#[m]⟩).length 1), h ++ [⟨(splitL ⟨s.toArray⟩ ⟨#[m]⟩).map .str, .own 9 1⟩]) := by
    rw [HasRo.xt_]
    exact readX_split (by rw [tsize]; exact hs) (show (1 : Nat) ≤ 1 from Nat.le_refl 1)
  have e : splitL ⟨s.toArray⟩ ⟨#[m]⟩ = (cut m s).map fun x => ⟨x.toArray⟩ := splitB_cut
  rw [e] at hxt
  have hS : Sl (h ++ [(⟨((cut m s).map fun x => (⟨x.toArray⟩ : ByteArray)).map Lf.str, .own 9 1⟩ : Ob)]) h.length 9 1 ((cut m s).map st) := by
    refine ⟨?_, fun i r hi => ?_⟩
    · rw [List.getElem?_append_right (Nat.le_refl _), Nat.sub_self]
      have : (((cut m s).map fun x => (⟨x.toArray⟩ : ByteArray)).map Lf.str) = ((cut m s).map st).flatten := by
        generalize cut m s = q
        induction q with
        | nil => rfl
        | cons x r ih => rw [List.map_cons, List.map_cons, List.map_cons, List.flatten_cons, ← ih]; rfl
      rw [this]; rfl
    · rw [List.getElem?_map] at hi
      obtain ⟨y, _, rfl⟩ := Option.map_eq_some_iff.1 hi
      rfl
  have hle := cut_len (m := m) (s := s)
  have hN := New.of_sl (Kept.app h _) hS (Nat.le_refl _) (by simp; omega)
  rw [List.length_map] at hN
  rw [List.length_map] at hxt
  have hn := HasRo.none_ (S := S)
  simp only [Prod.mk.injEq] at hn
  exact Holds.xt hn.1 hxt (hK _ _ hN)
theorem c_ReadDecimal [HasRo S] (hs : s.length ≤ 1000000000) : CallT S true 37 [.lf (.str ⟨s.toArray⟩)] h lim K = K (.tup [.lf (.int .i64 (decN s)), .lf (.bool (decide (isDec s)))]) h := by
  have hn := HasRo.none_ (S := S)
  simp only [Prod.mk.injEq] at hn
  refine CallT_xt (by first | exact hn.2 | exact hn.2.1) ?_ rfl
  rw [HasRo.xt_]
  exact readX_dec (by rw [tsize]; exact hs)
/-- What is known of the pieces when the place i is to be looked at. -/
def CutI (m : UInt8) (s : List UInt8) (i a : Nat) (pre : List (List UInt8)) : Prop :=
  (i ≤ s.length ∧ a ≤ i ∧ cut m s = pre ++ cut m (s.drop a) ∧ ∀ (j : Nat) c, a ≤ j → j < i → s[j]? = some c → c ≠ m) ∨ (i = s.length + 1 ∧ pre = cut m s)
theorem CutI.start : CutI m s 0 0 [] := .inl ⟨by omega, by omega, by simp, fun j c _ h => by omega⟩
theorem CutI.keep {i a : Nat} {pre : List (List UInt8)} (h : CutI m s i a pre) (hi : i < s.length) (hm : s[i] ≠ m) : CutI m s (i + 1) a pre := by
  rcases h with ⟨h1, h2, h3, h4⟩ | ⟨h1, _⟩
  · refine .inl ⟨hi, by omega, h3, fun j c k1 k2 k3 => ?_⟩
    by_cases e : j = i
    · subst e
      rw [List.getElem?_eq_getElem hi] at k3
      injection k3 with k3
      rw [← k3]; exact hm
    · exact h4 j c k1 (by omega) k3
  · omega
theorem CutI.mark {i a : Nat} {pre : List (List UInt8)} (h : CutI m s i a pre) (hi : i < s.length) (hm : s[i] = m) : CutI m s (i + 1) (i + 1) (pre ++ [(s.drop a).take (i - a)]) := by
  rcases h with ⟨h1, h2, h3, h4⟩ | ⟨h1, _⟩
  · refine .inl ⟨hi, by omega, ?_, fun j c k1 k2 k3 => by omega⟩
    rw [h3, cut_at h2 hi h4 hm]; simp
  · omega
theorem CutI.last {i a : Nat} {pre : List (List UInt8)} (h : CutI m s i a pre) (hi : i = s.length) : CutI m s (i + 1) (i + 1) (pre ++ [(s.drop a).take (i - a)]) := by
  rcases h with ⟨h1, h2, h3, h4⟩ | ⟨h1, _⟩
  · refine .inr ⟨by omega, ?_⟩
    subst hi
    rw [h3, cut_end h4, List.take_of_length_le (by rw [List.length_drop]; omega)]
  · omega
theorem CutI.le {i a : Nat} {pre : List (List UInt8)} (h : CutI m s i a pre) (hi : i ≤ s.length) : a ≤ i := by
  rcases h with ⟨h1, h2, h3, h4⟩ | ⟨h1, _⟩
  · exact h2
  · omega
theorem CutI.done {a : Nat} {pre : List (List UInt8)} (h : CutI m s (s.length + 1) a pre) : pre = cut m s := by
  rcases h with ⟨h1, _⟩ | ⟨_, h1⟩
  · omega
  · exact h1
variable [HasUe S]
set_option maxHeartbeats 2000000 in
theorem c_l01Cut (hs : s.length ≤ 2000000) (hl : lim ≤ h.length) (hK : ∀ o g, New h g o 9 1 ((cut m s).map st) → K (.lf o) g) : CallT S false 12 [.lf (.str ⟨s.toArray⟩), .lf (.int .u8 (m.toNat : Int))] h lim K := by
  have z0 : New h (h ++ [⟨[], .own 9 1⟩]) (.sl h.length 0 0 1) 9 1 (([] : List (List UInt8)).map st) := New.litN (Kept.refl h)
  have hlen := tlen (l := s)
  have hm := UInt8.toNat_lt m
  refine CallT_of_body (F := L12) (HasUe.f12) rfl ?_; unfold L12; dsimp only []
  repeat' (first | (simp (disch := first | omega | assumption | (simp only [List.length_set]; omega) | (simp [*] <;> fail) | assumption) [-Bool.decide_and, -Bool.decide_or, -Bool.not_and, -Bool.not_or, toNat_pred, toNat_succ, wrap64, wr_new, wr_new0, ok_if, ok_ifn, iadV_sl, makeV_int, decT, decF, over_at, *, leavesAll, fillL]) | (with_reducible refine Gd_split (fun hc => ?_) (fun hc => ?_) <;> (have hc2 := hc; try simp at hc2)) | (with_reducible refine Br_split (fun hc => ?_) (fun hc => ?_) <;> (have hc2 := hc; try simp at hc2)) | (with_reducible refine GdT_split (fun hc => ?_) (fun hc => ?_) <;> (have hc2 := hc; try simp at hc2)) | (with_reducible refine WT_alt ?_ ?_) | omega)
  refine WL_forM 34359738080 (by decide +kernel) (s.length + 1) (fun i b g => i ≤ s.length + 1 ∧ b 7 = .lf (.int .i64 i) ∧ ∃ a pre o, b 6 = .lf (.int .i64 ((a : Nat) : Int)) ∧ b 5 = .lf o ∧ New h g o 9 1 (pre.map st) ∧ pre.length ≤ i ∧ Hid (CutI m s i a pre)) (fun _ _ _ hi => hi.1) ⟨by omega, by simp, 0, [], _, by simp, by simp, z0, by simp, CutI.start⟩ ?_
  clear z0
  rintro i b g ⟨hi, e7, a, pre, o, e6, e5, hN, hpl, hC⟩
  have hC0 : CutI m s i a pre := hC
  by_cases hlt : i < s.length
  · have hat := tat (l := s) (k := .i64) hlt
    have hcl : s[i].toNat < 256 := UInt8.toNat_lt _
    have hc2 := hC0.le (Nat.le_of_lt hlt)
    have hcut := tcut (s := s) (k1 := .i64) (k2 := .i64) hc2 (Nat.le_of_lt hlt)
    have hne : ¬ (i : Int) = (s.length : Int) := by omega
    have hle : (i : Int) ≤ (s.length : Int) := by omega
    by_cases hmk : s[i] = m
    · have hC2 : Hid (CutI m s (i + 1) (i + 1) (pre ++ [(s.drop a).take (i - a)])) := hC0.mark hlt hmk
      rw [hmk] at hat
      clear hC hC0 hmk
      generalize (s.drop a).take (i - a) = y at *
      generalize m.toNat = d at *
      repeat' (first | (simp (disch := first | omega | assumption | (simp only [List.length_set]; omega) | (simp [*] <;> fail) | assumption) [-Bool.decide_and, -Bool.decide_or, -Bool.not_and, -Bool.not_or, toNat_pred, toNat_succ, wrap64, wr_new, wr_new0, ok_if, ok_ifn, iadV_sl, makeV_int, decT, decF, over_at, *, leavesAll, fillL]) | (with_reducible refine Gd_split (fun hc => ?_) (fun hc => ?_) <;> (have hc2 := hc; try simp at hc2)) | (with_reducible refine Br_split (fun hc => ?_) (fun hc => ?_) <;> (have hc2 := hc; try simp at hc2)) | (with_reducible refine GdT_split (fun hc => ?_) (fun hc => ?_) <;> (have hc2 := hc; try simp at hc2)) | (with_reducible refine WT_alt ?_ ?_) | omega)
      refine oc_pushL (r := st y) (bytes := 16) hN hl (by simp; omega) (fun o2 g2 hN2 hB => ?_) (by decide) rfl (by decide)
      have hN3 : New h g2 o2 9 1 ((pre ++ [y]).map st) := by rw [List.map_append]; exact hN2
      clear hN hN2 hB
      repeat' (first | (simp (disch := first | omega | assumption | (simp only [List.length_set]; omega) | (simp [*] <;> fail) | assumption) [-Bool.decide_and, -Bool.decide_or, -Bool.not_and, -Bool.not_or, toNat_pred, toNat_succ, wrap64, wr_new, wr_new0, ok_if, ok_ifn, iadV_sl, makeV_int, decT, decF, over_at, *]) | (with_reducible refine Gd_split (fun hc => ?_) (fun hc => ?_) <;> (have hc2 := hc; try simp at hc2)) | (with_reducible refine Br_split (fun hc => ?_) (fun hc => ?_) <;> (have hc2 := hc; try simp at hc2)) | (with_reducible refine GdT_split (fun hc => ?_) (fun hc => ?_) <;> (have hc2 := hc; try simp at hc2)) | (with_reducible refine WT_alt ?_ ?_) | omega)
      exact ⟨by omega, i + 1, by simp, _, hN3, by simp; omega, hC2⟩
    · have hC2 : Hid (CutI m s (i + 1) a pre) := hC0.keep hlt hmk
      have hmk2 : ¬ (s[i].toNat : Int) = (m.toNat : Int) := fun q => hmk (UInt8.toNat_inj.1 (by omega))
      clear hC hC0 hmk hcut
      generalize s[i].toNat = e at *
      generalize m.toNat = d at *
      repeat' (first | (simp (disch := first | omega | assumption | (simp only [List.length_set]; omega) | (simp [*] <;> fail) | assumption) [-Bool.decide_and, -Bool.decide_or, -Bool.not_and, -Bool.not_or, toNat_pred, toNat_succ, wrap64, wr_new, wr_new0, ok_if, ok_ifn, iadV_sl, makeV_int, decT, decF, over_at, *]) | (with_reducible refine Gd_split (fun hc => ?_) (fun hc => ?_) <;> (have hc2 := hc; try simp at hc2)) | (with_reducible refine Br_split (fun hc => ?_) (fun hc => ?_) <;> (have hc2 := hc; try simp at hc2)) | (with_reducible refine GdT_split (fun hc => ?_) (fun hc => ?_) <;> (have hc2 := hc; try simp at hc2)) | (with_reducible refine WT_alt ?_ ?_) | omega)
      exact ⟨by omega, a, rfl, pre, hN, by omega, hC2⟩
  · by_cases heq : i = s.length
    · subst heq
      have hcut := tcut (s := s) (k1 := .i64) (k2 := .i64) (hC0.le (Nat.le_refl _)) (Nat.le_refl _)
      have hC2 : Hid (CutI m s (s.length + 1) (s.length + 1) (pre ++ [(s.drop a).take (s.length - a)])) := hC0.last rfl
      clear hC hC0 hlt
      generalize (s.drop a).take (s.length - a) = y at *
      repeat' (first | (simp (disch := first | omega | assumption | (simp only [List.length_set]; omega) | (simp [*] <;> fail) | assumption) [-Bool.decide_and, -Bool.decide_or, -Bool.not_and, -Bool.not_or, toNat_pred, toNat_succ, wrap64, wr_new, wr_new0, ok_if, ok_ifn, iadV_sl, makeV_int, decT, decF, over_at, *, leavesAll, fillL]) | (with_reducible refine Gd_split (fun hc => ?_) (fun hc => ?_) <;> (have hc2 := hc; try simp at hc2)) | (with_reducible refine Br_split (fun hc => ?_) (fun hc => ?_) <;> (have hc2 := hc; try simp at hc2)) | (with_reducible refine GdT_split (fun hc => ?_) (fun hc => ?_) <;> (have hc2 := hc; try simp at hc2)) | (with_reducible refine WT_alt ?_ ?_) | omega)
      refine oc_pushL (r := st y) (bytes := 16) hN hl (by simp; omega) (fun o2 g2 hN2 hB => ?_) (by decide) rfl (by decide)
      have hN3 : New h g2 o2 9 1 ((pre ++ [y]).map st) := by rw [List.map_append]; exact hN2
      clear hN hN2 hB
      repeat' (first | (simp (disch := first | omega | assumption | (simp only [List.length_set]; omega) | (simp [*] <;> fail) | assumption) [-Bool.decide_and, -Bool.decide_or, -Bool.not_and, -Bool.not_or, toNat_pred, toNat_succ, wrap64, wr_new, wr_new0, ok_if, ok_ifn, iadV_sl, makeV_int, decT, decF, over_at, *]) | (with_reducible refine Gd_split (fun hc => ?_) (fun hc => ?_) <;> (have hc2 := hc; try simp at hc2)) | (with_reducible refine Br_split (fun hc => ?_) (fun hc => ?_) <;> (have hc2 := hc; try simp at hc2)) | (with_reducible refine GdT_split (fun hc => ?_) (fun hc => ?_) <;> (have hc2 := hc; try simp at hc2)) | (with_reducible refine WT_alt ?_ ?_) | omega)
      exact ⟨s.length + 1, by simp, _, hN3, by simp; omega, hC2⟩
    · have : i = s.length + 1 := by omega
      subst this
      have hp := hC0.done
      rw [hp] at hN
      have hne : ¬ ((s.length : Int) + 1 ≤ (s.length : Int)) := by omega
      have hk := hK _ _ hN
      clear hK hN hC hC0 hp
      repeat' (first | (simp (disch := first | omega | assumption | (simp only [List.length_set]; omega) | (simp [*] <;> fail) | assumption) [-Bool.decide_and, -Bool.decide_or, -Bool.not_and, -Bool.not_or, toNat_pred, toNat_succ, wrap64, wr_new, wr_new0, ok_if, ok_ifn, iadV_sl, makeV_int, decT, decF, over_at, *]) | (with_reducible refine Gd_split (fun hc => ?_) (fun hc => ?_) <;> (have hc2 := hc; try simp at hc2)) | (with_reducible refine Br_split (fun hc => ?_) (fun hc => ?_) <;> (have hc2 := hc; try simp at hc2)) | (with_reducible refine GdT_split (fun hc => ?_) (fun hc => ?_) <;> (have hc2 := hc; try simp at hc2)) | (with_reducible refine WT_alt ?_ ?_) | omega)
theorem c_parted [HasRo S] (hs : s.length ≤ 1000000000) (hl : lim ≤ h.length) (hK : ∀ o g, New h g o 9 1 ((if s = none4 then [] else cut 59 s).map st) → K (.lf o) g) : CallT S false 19 [.lf (.str ⟨s.toArray⟩)] h lim K := by
  have hn := tnone (x := s)
  by_cases h0 : s = none4
  · rw [if_pos h0] at hK
    rw [decide_eq_true h0] at hn
    have hk := hK .nils h (New.nil (Kept.refl h))
    clear hK h0
    refine CallT_of_body (F := L19) (HasUe.f19) rfl ?_; unfold L19; dsimp only []
    repeat' (first | (simp (disch := first | omega | assumption | (simp only [List.length_set]; omega) | (simp [*] <;> fail) | assumption) [-Bool.decide_and, -Bool.decide_or, -Bool.not_and, -Bool.not_or, toNat_pred, toNat_succ, wrap64, wr_new, wr_new0, ok_if, ok_ifn, iadV_sl, makeV_int, decT, decF, over_at, *]) | (with_reducible refine Gd_split (fun hc => ?_) (fun hc => ?_) <;> (have hc2 := hc; try simp at hc2)) | (with_reducible refine Br_split (fun hc => ?_) (fun hc => ?_) <;> (have hc2 := hc; try simp at hc2)) | (with_reducible refine GdT_split (fun hc => ?_) (fun hc => ?_) <;> (have hc2 := hc; try simp at hc2)) | (with_reducible refine WT_alt ?_ ?_) | omega)
  · rw [if_neg h0] at hK
    rw [decide_eq_false h0] at hn
    clear h0
    refine CallT_of_body (F := L19) (HasUe.f19) rfl ?_; unfold L19; dsimp only []
    repeat' (first | (simp (disch := first | omega | assumption | (simp only [List.length_set]; omega) | (simp [*] <;> fail) | assumption) [-Bool.decide_and, -Bool.decide_or, -Bool.not_and, -Bool.not_or, toNat_pred, toNat_succ, wrap64, wr_new, wr_new0, ok_if, ok_ifn, iadV_sl, makeV_int, decT, decF, over_at, *]) | (with_reducible refine Gd_split (fun hc => ?_) (fun hc => ?_) <;> (have hc2 := hc; try simp at hc2)) | (with_reducible refine Br_split (fun hc => ?_) (fun hc => ?_) <;> (have hc2 := hc; try simp at hc2)) | (with_reducible refine GdT_split (fun hc => ?_) (fun hc => ?_) <;> (have hc2 := hc; try simp at hc2)) | (with_reducible refine WT_alt ?_ ?_) | omega)
    refine c_Split hs fun o g hN => ?_
    have hk := hK _ _ hN
    clear hK
    repeat' (first | (simp (disch := first | omega | assumption | (simp only [List.length_set]; omega) | (simp [*] <;> fail) | assumption) [-Bool.decide_and, -Bool.decide_or, -Bool.not_and, -Bool.not_or, toNat_pred, toNat_succ, wrap64, wr_new, wr_new0, ok_if, ok_ifn, iadV_sl, makeV_int, decT, decF, over_at, *]) | (with_reducible refine Gd_split (fun hc => ?_) (fun hc => ?_) <;> (have hc2 := hc; try simp at hc2)) | (with_reducible refine Br_split (fun hc => ?_) (fun hc => ?_) <;> (have hc2 := hc; try simp at hc2)) | (with_reducible refine GdT_split (fun hc => ?_) (fun hc => ?_) <;> (have hc2 := hc; try simp at hc2)) | (with_reducible refine WT_alt ?_ ?_) | omega)
theorem c_divided [HasRo S] (hs : s.length ≤ 1000000000) (hl : lim ≤ h.length) (hK : ∀ o g, New h g o 9 1 ((if s = none4 then [] else cut 44 s).map st) → K (.lf o) g) : CallT S false 39 [.lf (.str ⟨s.toArray⟩)] h lim K := by
  have hn := tnone (x := s)
  by_cases h0 : s = none4
  · rw [if_pos h0] at hK
    rw [decide_eq_true h0] at hn
    have hk := hK .nils h (New.nil (Kept.refl h))
    clear hK h0
    refine CallT_of_body (F := L39) (HasUe.f39) rfl ?_; unfold L39; dsimp only []
    repeat' (first | (simp (disch := first | omega | assumption | (simp only [List.length_set]; omega) | (simp [*] <;> fail) | assumption) [-Bool.decide_and, -Bool.decide_or, -Bool.not_and, -Bool.not_or, toNat_pred, toNat_succ, wrap64, wr_new, wr_new0, ok_if, ok_ifn, iadV_sl, makeV_int, decT, decF, over_at, *]) | (with_reducible refine Gd_split (fun hc => ?_) (fun hc => ?_) <;> (have hc2 := hc; try simp at hc2)) | (with_reducible refine Br_split (fun hc => ?_) (fun hc => ?_) <;> (have hc2 := hc; try simp at hc2)) | (with_reducible refine GdT_split (fun hc => ?_) (fun hc => ?_) <;> (have hc2 := hc; try simp at hc2)) | (with_reducible refine WT_alt ?_ ?_) | omega)
  · rw [if_neg h0] at hK
    rw [decide_eq_false h0] at hn
    clear h0
    refine CallT_of_body (F := L39) (HasUe.f39) rfl ?_; unfold L39; dsimp only []
    repeat' (first | (simp (disch := first | omega | assumption | (simp only [List.length_set]; omega) | (simp [*] <;> fail) | assumption) [-Bool.decide_and, -Bool.decide_or, -Bool.not_and, -Bool.not_or, toNat_pred, toNat_succ, wrap64, wr_new, wr_new0, ok_if, ok_ifn, iadV_sl, makeV_int, decT, decF, over_at, *]) | (with_reducible refine Gd_split (fun hc => ?_) (fun hc => ?_) <;> (have hc2 := hc; try simp at hc2)) | (with_reducible refine Br_split (fun hc => ?_) (fun hc => ?_) <;> (have hc2 := hc; try simp at hc2)) | (with_reducible refine GdT_split (fun hc => ?_) (fun hc => ?_) <;> (have hc2 := hc; try simp at hc2)) | (with_reducible refine WT_alt ?_ ?_) | omega)
    refine c_Split hs fun o g hN => ?_
    have hk := hK _ _ hN
    clear hK
    repeat' (first | (simp (disch := first | omega | assumption | (simp only [List.length_set]; omega) | (simp [*] <;> fail) | assumption) [-Bool.decide_and, -Bool.decide_or, -Bool.not_and, -Bool.not_or, toNat_pred, toNat_succ, wrap64, wr_new, wr_new0, ok_if, ok_ifn, iadV_sl, makeV_int, decT, decF, over_at, *]) | (with_reducible refine Gd_split (fun hc => ?_) (fun hc => ?_) <;> (have hc2 := hc; try simp at hc2)) | (with_reducible refine Br_split (fun hc => ?_) (fun hc => ?_) <;> (have hc2 := hc; try simp at hc2)) | (with_reducible refine GdT_split (fun hc => ?_) (fun hc => ?_) <;> (have hc2 := hc; try simp at hc2)) | (with_reducible refine WT_alt ?_ ?_) | omega)
end
/-! ### Decimal numbers -/
def L27 : LFn := ⟨1, (.seq (.reg [⟨(.some 2), (.mv (.c (.lf (.int .i64 0)))), none⟩, ⟨(.some 3), (.mv (.c (.lf (.bool false)))), none⟩])
 (.seq (.seq (.reg [⟨(.some 6), (.mv (.t 0)), none⟩, ⟨(.some 7), (.slen (.t 6)), none⟩, ⟨(.some 8), (.bin .lss (.t 7) (.c (.lf (.int .i64 1)))), none⟩, ⟨(.some 9), (.mv (.t 8)), none⟩, ⟨(.some 10), (.mv (.t 0)), (.some (9, false))⟩, ⟨(.some 11), (.slen (.t 10)), (.some (9, false))⟩, ⟨(.some 12), (.bin .gtr (.t 11) (.c (.lf (.int .i64 17)))), (.some (9, false))⟩, ⟨(.some 13), (.pick (.t 9) (.c (.lf (.bool true))) (.t 12)), none⟩])
 (.cond (.t 13) (.seq (.reg [⟨(.some 2), (.mv (.c (.lf (.int .i64 0)))), none⟩, ⟨(.some 3), (.mv (.c (.lf (.bool false)))), none⟩])
 .ret) .skip))
 (.seq (.reg [⟨(.some 4), (.mv (.c (.lf (.int .i64 0)))), none⟩])
 (.seq (.seq (.reg [⟨(.some 5), (.mv (.c (.lf (.int .i64 0)))), none⟩])
 (.block 0 (.loop (.seq (.seq (.reg [⟨(.some 14), (.mv (.t 5)), none⟩, ⟨(.some 15), (.mv (.t 0)), none⟩, ⟨(.some 16), (.slen (.t 15)), none⟩, ⟨(.some 17), (.bin .lss (.t 14) (.t 16)), none⟩])
 (.cond (.t 17) .skip (.exit 0)))
 (.seq (.block 1 (.seq (.reg [⟨(.some 20), (.mv (.t 0)), none⟩, ⟨(.some 21), (.mv (.t 5)), none⟩, ⟨(.some 22), (.idx (.t 20) (.t 21)), none⟩, ⟨(.some 23), (.bin .geq (.t 22) (.c (.lf (.int .u8 48)))), none⟩, ⟨(.some 24), (.mv (.t 23)), none⟩, ⟨(.some 25), (.mv (.t 0)), (.some (24, true))⟩, ⟨(.some 26), (.mv (.t 5)), (.some (24, true))⟩, ⟨(.some 27), (.idx (.t 25) (.t 26)), (.some (24, true))⟩, ⟨(.some 28), (.bin .leq (.t 27) (.c (.lf (.int .u8 57)))), (.some (24, true))⟩, ⟨(.some 29), (.pick (.t 24) (.t 28) (.c (.lf (.bool false)))), none⟩])
 (.cond (.t 29) (.reg [⟨(.some 30), (.mv (.t 4)), none⟩, ⟨(.some 31), (.bin .mul (.c (.lf (.int .i64 10))) (.t 30)), none⟩, ⟨(.some 32), (.mv (.t 0)), none⟩, ⟨(.some 33), (.mv (.t 5)), none⟩, ⟨(.some 34), (.idx (.t 32) (.t 33)), none⟩, ⟨(.some 35), (.bin .sub (.t 34) (.c (.lf (.int .u8 48)))), none⟩, ⟨(.some 36), (.toint .i64 (.t 35)), none⟩, ⟨(.some 37), (.bin .add (.t 31) (.t 36)), none⟩, ⟨(.some 4), (.mv (.t 37)), none⟩]) .skip)))
 (.reg [⟨(.some 18), (.mv (.t 5)), none⟩, ⟨(.some 19), (.bin .add (.t 18) (.c (.lf (.int .i64 1)))), none⟩, ⟨(.some 5), (.mv (.t 19)), none⟩]))))))
 (.seq (.seq (.reg [⟨(.some 38), (.mv (.t 0)), none⟩, ⟨(.some 39), (.idx (.t 38) (.c (.lf (.int .i64 0)))), none⟩, ⟨(.some 40), (.bin .eql (.t 39) (.c (.lf (.int .u8 45)))), none⟩])
 (.cond (.t 40) (.reg [⟨(.some 41), (.mv (.t 4)), none⟩, ⟨(.some 42), (.una .neg (.t 41)), none⟩, ⟨(.some 4), (.mv (.t 42)), none⟩]) .skip))
 (.seq (.seq (.reg [⟨(.some 43), (.mv (.t 4)), none⟩, ⟨(.some 44), (.call true 48 [(.t 43), (.c (.lf (.int .i64 (-1000000000000000)))), (.c (.lf (.int .i64 1000000000000000)))]), none⟩, ⟨(.some 45), (.una .not (.t 44)), none⟩, ⟨(.some 46), (.mv (.t 45)), none⟩, ⟨(.some 47), (.mv (.t 4)), (.some (46, false))⟩, ⟨(.some 48), (.call true 34 [(.t 47)]), (.some (46, false))⟩, ⟨(.some 49), (.mv (.t 0)), (.some (46, false))⟩, ⟨(.some 50), (.bin .neq (.t 48) (.t 49)), (.some (46, false))⟩, ⟨(.some 51), (.pick (.t 46) (.c (.lf (.bool true))) (.t 50)), none⟩])
 (.cond (.t 51) (.seq (.reg [⟨(.some 2), (.mv (.c (.lf (.int .i64 0)))), none⟩, ⟨(.some 3), (.mv (.c (.lf (.bool false)))), none⟩])
 .ret) .skip))
 (.seq (.reg [⟨(.some 52), (.mv (.t 4)), none⟩, ⟨(.some 2), (.mv (.t 52)), none⟩, ⟨(.some 3), (.mv (.c (.lf (.bool true)))), none⟩])
 .ret))))))), [(.tmp 2), (.tmp 3)]⟩
class HasUf (S : Sys) : Prop extends HasUe S where
  f27 : S.fs 27 = some L27
section
variable {S : Sys} {lim : Nat} {h : Hp} {K : CV → Hp → Prop}
theorem tmod10n {n : Nat} : (-((n : Nat) : Int)).tmod 10 = -((n % 10 : Nat) : Int) := by rw [Int.neg_tmod]; rfl
theorem tdiv10n {n : Nat} : (-((n : Nat) : Int)).tdiv 10 = -((n / 10 : Nat) : Int) := by rw [Int.neg_tdiv]; rfl
section
variable [HasTx S]
set_option maxHeartbeats 2000000 in
theorem c_l01DecN {n : Nat} (hn : n ≤ 1000000000000000) (hn0 : 0 < n) : CallT S true 34 [.lf (.int .i64 (-(n : Int)))] h lim K = K (.lf (.str ⟨(45 :: Lib.decDigits n).toArray⟩)) h := by
  have z0 : New h (h ++ [⟨[], .own 5 1⟩]) (.sl h.length 0 0 1) 5 1 (([] : List UInt8).map ub) := New.litN (Kept.refl h)
  refine CallT_pure (F := L34) (HasTx.f34) rfl (by first | rfl | (split <;> rfl) | simp) ?_; unfold L34; dsimp only []
  repeat' (first | (simp (disch := first | omega | assumption | (simp only [List.length_set]; omega) | (simp [*] <;> fail) | assumption) [-Bool.decide_and, -Bool.decide_or, -Bool.not_and, -Bool.not_or, toNat_pred, toNat_succ, wrap64, wr_new, wr_new0, ok_if, ok_ifn, iadV_sl, makeV_int, decT, decF, over_at, *, leavesAll, fillL]) | (with_reducible refine Gd_split (fun hc => ?_) (fun hc => ?_) <;> (have hc2 := hc; try simp at hc2)) | (with_reducible refine Br_split (fun hc => ?_) (fun hc => ?_) <;> (have hc2 := hc; try simp at hc2)) | (with_reducible refine GdT_split (fun hc => ?_) (fun hc => ?_) <;> (have hc2 := hc; try simp at hc2)) | (with_reducible refine WT_alt ?_ ?_) | omega)
  refine WL_forM 536870712 (by decide +kernel) (20) (fun i b g => i ≤ 20 ∧ ∃ r out o, b 4 = .lf (.int .i64 (-((r : Nat) : Int))) ∧ b 3 = .lf o ∧ New h g o 5 1 (out.map ub) ∧ DecI n r out ∧ out.length = i ∧ r * 10 ^ i ≤ n) (fun _ _ _ hi => hi.1) ⟨by omega, n, [], _, by simp, rfl, z0, by simp [DecI], rfl, by simp⟩ ?_
  clear z0
  rintro i b g ⟨hi, r, out, o, e4, e3, hN, hD, hlen, hp⟩
  have hl := hN.arr.len
  rw [hlen] at hl
  by_cases hc : i = 0 ∨ r ≠ 0
  · have hlt : i < 20 := by
      rcases hc with hc | hc
      · omega
      · apply Nat.lt_of_not_le
        intro h20
        have : 10 ^ 20 ≤ 10 ^ i := Nat.pow_le_pow_right (by omega) h20
        have h2 : 1 * 10 ^ i ≤ r * 10 ^ i := Nat.mul_le_mul_right _ (by omega)
        omega
    have hr2 : r ≤ n := by
      have : r * 1 ≤ r * 10 ^ i := Nat.mul_le_mul_left _ (Nat.one_le_pow _ _ (by omega))
      omega
    have hd : r % 10 < 10 := Nat.mod_lt _ (by omega)
    have hstep := hD.step (by rcases hc with q | q; exact .inr (List.length_eq_zero_iff.1 (by omega)); exact .inl q)
    have hp2 : r / 10 * 10 ^ (i + 1) ≤ n := by
      have h1 : r / 10 * 10 ≤ r := Nat.div_mul_le_self _ _
      have h2 := Nat.mul_le_mul_right (10 ^ i) h1
      rw [Nat.pow_succ, Nat.mul_comm (10 ^ i) 10, ← Nat.mul_assoc]
      omega
    have hub := ub_dig hd
    have hw : IntKind.u8.wrap (48 + ((r % 10 : Nat) : Int)) = 48 + ((r % 10 : Nat) : Int) := by rw [IntKind.wrap_u8]; omega
    have tm := tmod10n (n := r)
    have td := tdiv10n (n := r)
    have hsrc := hN.src
    have hrow := fun i r hi => (hN.arr.row i r hi).1
    have kN := hN.kept
    have hq1 : r / 10 ≤ r := Nat.div_le_self _ _
    obtain ⟨q, hq⟩ : ∃ q, r / 10 = q := ⟨_, rfl⟩
    rw [hq] at hstep hp2 td hq1
    obtain ⟨d, hdd⟩ : ∃ d, r % 10 = d := ⟨_, rfl⟩
    rw [hdd] at hstep hd hub hw tm
    have hSd : Hid (DecI n q (UInt8.ofNat (48 + d) :: out)) := hstep
    clear hD hstep hq hdd
    have fin : ∀ o2 g2, New h g2 o2 5 1 ([.int .u8 (48 + (d : Int))] :: out.map ub) → New h g2 o2 5 1 ((UInt8.ofNat (48 + d) :: out).map ub) := fun o2 g2 hh => by
      rw [List.map_cons, hub]; exact hh
    have zl : New h (g ++ [⟨[.int .u8 (48 + (d : Int))], .own 5 1⟩]) (.sl g.length 0 1 1) 5 1 [[.int .u8 (48 + (d : Int))]] := by
      have hS : Sl (g ++ [(⟨[.int .u8 (48 + (d : Int))], .own 5 1⟩ : Ob)]) g.length 5 1 [[.int .u8 (48 + (d : Int))]] := ⟨by rw [List.getElem?_append_right (Nat.le_refl _)]; simp, fun i r hi => by
        have hm := List.mem_of_getElem? hi
        simp at hm; subst hm; rfl⟩
      exact New.of_sl kN.more hS kN.1 (by simp)
    have hsrc2 := src_kept (Kept.app g [(⟨[.int .u8 (48 + (d : Int))], .own 5 1⟩ : Ob)]) hsrc
    have hlen2 : (UInt8.ofNat (48 + d) :: out).length = i + 1 := by simp [hlen]
    have hr9 : r ≤ 9223372036854775807 := by omega
    clear hN kN hp hsrc hub
    by_cases hd0 : d = 0
    · subst hd0
      have tm0 : (-(r : Int)).tmod 10 = 0 := by rw [tm]; rfl
      clear tm
      by_cases hi0 : i = 0
      · subst hi0
        repeat' (first | (simp (disch := first | omega | assumption | (simp only [List.length_set]; omega) | (simp [*] <;> fail) | assumption) [-Bool.decide_and, -Bool.decide_or, -Bool.not_and, -Bool.not_or, toNat_pred, toNat_succ, wrap64, wr_new, wr_new0, ok_if, ok_ifn, iadV_sl, makeV_int, decT, decF, over_at, *, leavesAll, fillL]) | (with_reducible refine Gd_split (fun hc => ?_) (fun hc => ?_) <;> (have hc2 := hc; try simp at hc2)) | (with_reducible refine Br_split (fun hc => ?_) (fun hc => ?_) <;> (have hc2 := hc; try simp at hc2)) | (with_reducible refine GdT_split (fun hc => ?_) (fun hc => ?_) <;> (have hc2 := hc; try simp at hc2)) | (with_reducible refine WT_alt ?_ ?_) | omega)
        refine oc_app (new := out.map ub) zl (Nat.le_refl _) hsrc2 hrow (by simp; omega) (fun o2 g2 hN2 hB => ?_)
        have hN3 := fin o2 g2 hN2
        clear hN2 hB zl fin hrow hsrc2 hl
        repeat' (first | (simp (disch := first | omega | assumption | (simp only [List.length_set]; omega) | (simp [*] <;> fail) | assumption) [-Bool.decide_and, -Bool.decide_or, -Bool.not_and, -Bool.not_or, toNat_pred, toNat_succ, wrap64, wr_new, wr_new0, ok_if, ok_ifn, iadV_sl, makeV_int, decT, decF, over_at, *]) | (with_reducible refine Gd_split (fun hc => ?_) (fun hc => ?_) <;> (have hc2 := hc; try simp at hc2)) | (with_reducible refine Br_split (fun hc => ?_) (fun hc => ?_) <;> (have hc2 := hc; try simp at hc2)) | (with_reducible refine GdT_split (fun hc => ?_) (fun hc => ?_) <;> (have hc2 := hc; try simp at hc2)) | (with_reducible refine WT_alt ?_ ?_) | omega)
        exact ⟨q, rfl, _, hN3, hSd, hlen2, by simpa using hp2⟩
      · have hi1 : ¬ (i : Int) = 0 := by omega
        have hrn : ¬ (r : Int) = 0 := by omega
        have hrn2 : ¬ -(r : Int) = 0 := by omega
        repeat' (first | (simp (disch := first | omega | assumption | (simp only [List.length_set]; omega) | (simp [*] <;> fail) | assumption) [-Bool.decide_and, -Bool.decide_or, -Bool.not_and, -Bool.not_or, toNat_pred, toNat_succ, wrap64, wr_new, wr_new0, ok_if, ok_ifn, iadV_sl, makeV_int, decT, decF, over_at, *, leavesAll, fillL]) | (with_reducible refine Gd_split (fun hc => ?_) (fun hc => ?_) <;> (have hc2 := hc; try simp at hc2)) | (with_reducible refine Br_split (fun hc => ?_) (fun hc => ?_) <;> (have hc2 := hc; try simp at hc2)) | (with_reducible refine GdT_split (fun hc => ?_) (fun hc => ?_) <;> (have hc2 := hc; try simp at hc2)) | (with_reducible refine WT_alt ?_ ?_) | omega)
        refine oc_app (new := out.map ub) zl (Nat.le_refl _) hsrc2 hrow (by simp; omega) (fun o2 g2 hN2 hB => ?_)
        have hN3 := fin o2 g2 hN2
        clear hN2 hB zl fin hrow hsrc2 hl
        repeat' (first | (simp (disch := first | omega | assumption | (simp only [List.length_set]; omega) | (simp [*] <;> fail) | assumption) [-Bool.decide_and, -Bool.decide_or, -Bool.not_and, -Bool.not_or, toNat_pred, toNat_succ, wrap64, wr_new, wr_new0, ok_if, ok_ifn, iadV_sl, makeV_int, decT, decF, over_at, *]) | (with_reducible refine Gd_split (fun hc => ?_) (fun hc => ?_) <;> (have hc2 := hc; try simp at hc2)) | (with_reducible refine Br_split (fun hc => ?_) (fun hc => ?_) <;> (have hc2 := hc; try simp at hc2)) | (with_reducible refine GdT_split (fun hc => ?_) (fun hc => ?_) <;> (have hc2 := hc; try simp at hc2)) | (with_reducible refine WT_alt ?_ ?_) | omega)
        exact ⟨by omega, q, rfl, _, hN3, hSd, hlen2, hp2⟩
    · have hd1 : -(d : Int) < 0 := by omega
      have hd2 : (0 : Int) < d := by omega
      by_cases hi0 : i = 0
      · subst hi0
        repeat' (first | (simp (disch := first | omega | assumption | (simp only [List.length_set]; omega) | (simp [*] <;> fail) | assumption) [-Bool.decide_and, -Bool.decide_or, -Bool.not_and, -Bool.not_or, toNat_pred, toNat_succ, wrap64, wr_new, wr_new0, ok_if, ok_ifn, iadV_sl, makeV_int, decT, decF, over_at, *, leavesAll, fillL]) | (with_reducible refine Gd_split (fun hc => ?_) (fun hc => ?_) <;> (have hc2 := hc; try simp at hc2)) | (with_reducible refine Br_split (fun hc => ?_) (fun hc => ?_) <;> (have hc2 := hc; try simp at hc2)) | (with_reducible refine GdT_split (fun hc => ?_) (fun hc => ?_) <;> (have hc2 := hc; try simp at hc2)) | (with_reducible refine WT_alt ?_ ?_) | omega)
        refine oc_app (new := out.map ub) zl (Nat.le_refl _) hsrc2 hrow (by simp; omega) (fun o2 g2 hN2 hB => ?_)
        have hN3 := fin o2 g2 hN2
        clear hN2 hB zl fin hrow hsrc2 hl
        repeat' (first | (simp (disch := first | omega | assumption | (simp only [List.length_set]; omega) | (simp [*] <;> fail) | assumption) [-Bool.decide_and, -Bool.decide_or, -Bool.not_and, -Bool.not_or, toNat_pred, toNat_succ, wrap64, wr_new, wr_new0, ok_if, ok_ifn, iadV_sl, makeV_int, decT, decF, over_at, *]) | (with_reducible refine Gd_split (fun hc => ?_) (fun hc => ?_) <;> (have hc2 := hc; try simp at hc2)) | (with_reducible refine Br_split (fun hc => ?_) (fun hc => ?_) <;> (have hc2 := hc; try simp at hc2)) | (with_reducible refine GdT_split (fun hc => ?_) (fun hc => ?_) <;> (have hc2 := hc; try simp at hc2)) | (with_reducible refine WT_alt ?_ ?_) | omega)
        exact ⟨q, rfl, _, hN3, hSd, hlen2, by simpa using hp2⟩
      · have hi1 : ¬ (i : Int) = 0 := by omega
        have hrn : ¬ (r : Int) = 0 := by omega
        have hrn2 : ¬ -(r : Int) = 0 := by omega
        repeat' (first | (simp (disch := first | omega | assumption | (simp only [List.length_set]; omega) | (simp [*] <;> fail) | assumption) [-Bool.decide_and, -Bool.decide_or, -Bool.not_and, -Bool.not_or, toNat_pred, toNat_succ, wrap64, wr_new, wr_new0, ok_if, ok_ifn, iadV_sl, makeV_int, decT, decF, over_at, *, leavesAll, fillL]) | (with_reducible refine Gd_split (fun hc => ?_) (fun hc => ?_) <;> (have hc2 := hc; try simp at hc2)) | (with_reducible refine Br_split (fun hc => ?_) (fun hc => ?_) <;> (have hc2 := hc; try simp at hc2)) | (with_reducible refine GdT_split (fun hc => ?_) (fun hc => ?_) <;> (have hc2 := hc; try simp at hc2)) | (with_reducible refine WT_alt ?_ ?_) | omega)
        refine oc_app (new := out.map ub) zl (Nat.le_refl _) hsrc2 hrow (by simp; omega) (fun o2 g2 hN2 hB => ?_)
        have hN3 := fin o2 g2 hN2
        clear hN2 hB zl fin hrow hsrc2 hl
        repeat' (first | (simp (disch := first | omega | assumption | (simp only [List.length_set]; omega) | (simp [*] <;> fail) | assumption) [-Bool.decide_and, -Bool.decide_or, -Bool.not_and, -Bool.not_or, toNat_pred, toNat_succ, wrap64, wr_new, wr_new0, ok_if, ok_ifn, iadV_sl, makeV_int, decT, decF, over_at, *]) | (with_reducible refine Gd_split (fun hc => ?_) (fun hc => ?_) <;> (have hc2 := hc; try simp at hc2)) | (with_reducible refine Br_split (fun hc => ?_) (fun hc => ?_) <;> (have hc2 := hc; try simp at hc2)) | (with_reducible refine GdT_split (fun hc => ?_) (fun hc => ?_) <;> (have hc2 := hc; try simp at hc2)) | (with_reducible refine WT_alt ?_ ?_) | omega)
        exact ⟨by omega, q, rfl, _, hN3, hSd, hlen2, hp2⟩
  · have hr0 : r = 0 := by omega
    have hi0 : ¬ (i : Int) = 0 := by omega
    have hout : out = Lib.decDigits n := by
      unfold DecI at hD
      rw [hD, if_pos ⟨hr0, by intro q; rw [q] at hlen; simp at hlen; omega⟩]; rfl
    subst hr0
    have hneg : -(n : Int) < 0 := by omega
    have hneg2 : (0 : Int) < n := by omega
    have hsrc := hN.src
    have hrow := fun i r hi => (hN.arr.row i r hi).1
    have kN := hN.kept
    have zl : New h (g ++ [⟨[.int .u8 45], .own 5 1⟩]) (.sl g.length 0 1 1) 5 1 [[.int .u8 45]] := by
      have hS : Sl (g ++ [(⟨[.int .u8 45], .own 5 1⟩ : Ob)]) g.length 5 1 [[.int .u8 45]] := ⟨by rw [List.getElem?_append_right (Nat.le_refl _)]; simp, fun i r hi => by
        have hm := List.mem_of_getElem? hi
        simp at hm; subst hm; rfl⟩
      exact New.of_sl kN.more hS kN.1 (by simp)
    have hsrc2 := src_kept (Kept.app g [(⟨[.int .u8 45], .own 5 1⟩ : Ob)]) hsrc
    have hol : out.length ≤ 20 := by omega
    clear hD hp hN hsrc kN
    repeat' (first | (simp (disch := first | omega | assumption | (simp only [List.length_set]; omega) | (simp [*] <;> fail) | assumption) [-Bool.decide_and, -Bool.decide_or, -Bool.not_and, -Bool.not_or, toNat_pred, toNat_succ, wrap64, wr_new, wr_new0, ok_if, ok_ifn, iadV_sl, makeV_int, decT, decF, over_at, *, leavesAll, fillL]) | (with_reducible refine Gd_split (fun hc => ?_) (fun hc => ?_) <;> (have hc2 := hc; try simp at hc2)) | (with_reducible refine Br_split (fun hc => ?_) (fun hc => ?_) <;> (have hc2 := hc; try simp at hc2)) | (with_reducible refine GdT_split (fun hc => ?_) (fun hc => ?_) <;> (have hc2 := hc; try simp at hc2)) | (with_reducible refine WT_alt ?_ ?_) | omega)
    refine oc_app (new := out.map ub) zl (Nat.le_refl _) hsrc2 hrow (by simp; omega) (fun o2 g2 hN2 hB => ?_)
    have hN3 : New h g2 o2 5 1 ((45 :: out).map ub) := hN2
    have ht := tostr_of hN3
    rw [hout] at ht
    clear hN2 hN3 hB zl hrow hsrc2 hl hout
    repeat' (first | (simp (disch := first | omega | assumption | (simp only [List.length_set]; omega) | (simp [*] <;> fail) | assumption) [-Bool.decide_and, -Bool.decide_or, -Bool.not_and, -Bool.not_or, toNat_pred, toNat_succ, wrap64, wr_new, wr_new0, ok_if, ok_ifn, iadV_sl, makeV_int, decT, decF, over_at, *]) | (with_reducible refine Gd_split (fun hc => ?_) (fun hc => ?_) <;> (have hc2 := hc; try simp at hc2)) | (with_reducible refine Br_split (fun hc => ?_) (fun hc => ?_) <;> (have hc2 := hc; try simp at hc2)) | (with_reducible refine GdT_split (fun hc => ?_) (fun hc => ?_) <;> (have hc2 := hc; try simp at hc2)) | (with_reducible refine WT_alt ?_ ?_) | omega)
theorem c_l01DecI {n : Int} (hn : inVal n) : CallT S true 34 [.lf (.int .i64 n)] h lim K = K (.lf (.str ⟨(Lib.itoa n).toArray⟩)) h := by
  obtain ⟨h1, h2⟩ := hn
  by_cases h0 : n < 0
  · obtain ⟨m, rfl⟩ : ∃ m : Nat, n = -(m : Int) := ⟨n.natAbs, by omega⟩
    rw [Lib.itoa_neg m (by omega)]
    exact c_l01DecN (by omega) (by omega)
  · obtain ⟨m, rfl⟩ : ∃ m : Nat, n = (m : Int) := ⟨n.toNat, by omega⟩
    rw [Lib.itoa_nonneg m]
    exact c_l01Dec (by omega) (by omega)
end
section
variable [HasUf S] {s : List UInt8}
theorem digV_take {i : Nat} (hi : i < s.length) : digV 0 (s.take (i + 1)) = if isDig s[i] then 10 * digV 0 (s.take i) + (s[i].toNat - 48) else digV 0 (s.take i) := by
  rw [List.take_succ_eq_append_getElem hi, digV_app]; rfl
set_option maxHeartbeats 2000000 in
theorem c_l01Value : CallT S true 27 [.lf (.str ⟨s.toArray⟩)] h lim K = K (.tup [.lf (.int .i64 (decN s)), .lf (.bool (decide (isDec s)))]) h := by
  have hlen := tlen (l := s)
  by_cases hok : 1 ≤ s.length ∧ s.length ≤ 17
  · obtain ⟨h1, h17⟩ := hok
    have hp1 : ¬ (s.length : Int) < 1 := by omega
    have hp2 : ¬ (17 : Int) < (s.length : Int) := by omega
    have hat0 := tat (l := s) (i := 0) (k := .i64) h1
    have e00 : ((0 : Nat) : Int) = 0 := rfl
    rw [e00] at hat0
    have hV : valI s = if s[0] = 45 then -(digV 0 s : Int) else (digV 0 s : Int) := by
      unfold valI
      have : s.head? = some s[0] := by rw [List.head?_eq_getElem?, List.getElem?_eq_getElem h1]
      rw [this]
      by_cases q : s[0] = 45
      · rw [if_pos q, if_pos (by rw [q])]
      · rw [if_neg q, if_neg (by simpa using q)]
    have hdl : digV 0 s < 100000000000000000 := by
      have := digV_lt s 0 0 (by decide)
      have h2 : 10 ^ (0 + s.length) ≤ 10 ^ 17 := Nat.pow_le_pow_right (by omega) (by omega)
      omega
    have hc0 : s[0].toNat < 256 := UInt8.toNat_lt _
    have h45 : s[0] = 45 ↔ (s[0].toNat : Int) = 45 := by
      rw [← UInt8.toNat_inj]
      show s[0].toNat = 45 ↔ _
      omega
    obtain ⟨c0, hc0e⟩ : ∃ c0, Hid (s[0].toNat = c0) := ⟨s[0].toNat, rfl⟩
    rw [show s[0].toNat = c0 from hc0e] at hat0 hc0 h45
    obtain ⟨D, hD⟩ : ∃ D, Hid (digV 0 s = D) := ⟨_, rfl⟩
    rw [show digV 0 s = D from hD] at hdl hV
    refine CallT_pure (F := L27) (HasUf.f27) rfl (by first | rfl | (split <;> rfl) | simp) ?_; unfold L27; dsimp only []
    repeat' (first | (simp (disch := first | omega | assumption | (simp only [List.length_set]; omega) | (simp [*] <;> fail) | assumption) [-Bool.decide_and, -Bool.decide_or, -Bool.not_and, -Bool.not_or, toNat_pred, toNat_succ, wrap64, wr_new, wr_new0, ok_if, ok_ifn, iadV_sl, makeV_int, decT, decF, over_at, *]) | (with_reducible refine Gd_split (fun hc => ?_) (fun hc => ?_) <;> (have hc2 := hc; try simp at hc2)) | (with_reducible refine Br_split (fun hc => ?_) (fun hc => ?_) <;> (have hc2 := hc; try simp at hc2)) | (with_reducible refine GdT_split (fun hc => ?_) (fun hc => ?_) <;> (have hc2 := hc; try simp at hc2)) | (with_reducible refine WT_alt ?_ ?_) | omega)
    refine WL_forM 274877890608 (by decide +kernel) (s.length) (fun i b g => i ≤ s.length ∧ b 5 = .lf (.int .i64 i) ∧ b 4 = .lf (.int .i64 ((digV 0 (s.take i) : Nat) : Int)) ∧ h = g) (fun i _ _ hi => hi.1) ⟨by omega, by simp, by simp [digV], rfl⟩ ?_
    rintro i b g ⟨hi, e5, e4, rfl⟩
    by_cases hlt : i < s.length
    · have hat := tat (l := s) (k := .i64) hlt
      have hcl : s[i].toNat < 256 := UInt8.toNat_lt _
      have hlt2 : (i : Int) < (s.length : Int) := by omega
      have hnb : digV 0 (s.take i) < 10000000000000000 := by
        have := digV_lt (s.take i) 0 0 (by decide)
        have h2 : 10 ^ (0 + (s.take i).length) ≤ 10 ^ 16 := Nat.pow_le_pow_right (by omega) (by rw [List.length_take]; omega)
        omega
      have hst := digV_take hlt
      obtain ⟨nx, hnx⟩ : ∃ nx, Hid (digV 0 (s.take (i + 1)) = nx) := ⟨_, rfl⟩
      rw [show digV 0 (s.take (i + 1)) = nx from hnx] at hst
      have hg : isDig s[i] = (decide (48 ≤ s[i].toNat) && decide (s[i].toNat ≤ 57)) := rfl
      rw [hg] at hst
      clear hg hat0 hV h45
      generalize s[i].toNat = c at *
      generalize digV 0 (s.take i) = n at *
      by_cases hd : 48 ≤ c ∧ c ≤ 57
      · have hst2 : ((nx : Nat) : Int) = 10 * (n : Int) + ((c : Int) - 48) := by
          rw [hst, decide_eq_true hd.1, decide_eq_true hd.2]; simp; omega
        have hw : IntKind.u8.wrap ((c : Int) - 48) = (c : Int) - 48 := by rw [IntKind.wrap_u8]; omega
        have d1 : (48 : Int) ≤ c := by omega
        have d2 : (c : Int) ≤ 57 := by omega
        have hS : Hid (((nx : Nat) : Int) = 10 * (n : Int) + ((c : Int) - 48)) := hst2
        clear hst hst2 hd
        repeat' (first | (simp (disch := first | omega | assumption | (simp only [List.length_set]; omega) | (simp [*] <;> fail) | assumption) [-Bool.decide_and, -Bool.decide_or, -Bool.not_and, -Bool.not_or, toNat_pred, toNat_succ, wrap64, wr_new, wr_new0, ok_if, ok_ifn, iadV_sl, makeV_int, decT, decF, over_at, *, u8to64]) | (with_reducible refine Gd_split (fun hc => ?_) (fun hc => ?_) <;> (have hc2 := hc; try simp at hc2)) | (with_reducible refine Br_split (fun hc => ?_) (fun hc => ?_) <;> (have hc2 := hc; try simp at hc2)) | (with_reducible refine GdT_split (fun hc => ?_) (fun hc => ?_) <;> (have hc2 := hc; try simp at hc2)) | (with_reducible refine WT_alt ?_ ?_) | omega)
        exact ⟨by omega, by rw [show digV 0 (s.take (i + 1)) = nx from hnx, show ((nx : Nat) : Int) = _ from hS]⟩
      · have hst2 : nx = n := by
          rw [hst, if_neg]
          intro q
          simp only [Bool.and_eq_true, decide_eq_true_eq] at q
          exact hd q
        clear hst
        by_cases d1 : (48 : Int) ≤ c
        · have d2 : ¬ (c : Int) ≤ 57 := by omega
          repeat' (first | (simp (disch := first | omega | assumption | (simp only [List.length_set]; omega) | (simp [*] <;> fail) | assumption) [-Bool.decide_and, -Bool.decide_or, -Bool.not_and, -Bool.not_or, toNat_pred, toNat_succ, wrap64, wr_new, wr_new0, ok_if, ok_ifn, iadV_sl, makeV_int, decT, decF, over_at, *]) | (with_reducible refine Gd_split (fun hc => ?_) (fun hc => ?_) <;> (have hc2 := hc; try simp at hc2)) | (with_reducible refine Br_split (fun hc => ?_) (fun hc => ?_) <;> (have hc2 := hc; try simp at hc2)) | (with_reducible refine GdT_split (fun hc => ?_) (fun hc => ?_) <;> (have hc2 := hc; try simp at hc2)) | (with_reducible refine WT_alt ?_ ?_) | omega)
          exact ⟨by omega, by rw [show digV 0 (s.take (i + 1)) = nx from hnx, hst2]⟩
        · repeat' (first | (simp (disch := first | omega | assumption | (simp only [List.length_set]; omega) | (simp [*] <;> fail) | assumption) [-Bool.decide_and, -Bool.decide_or, -Bool.not_and, -Bool.not_or, toNat_pred, toNat_succ, wrap64, wr_new, wr_new0, ok_if, ok_ifn, iadV_sl, makeV_int, decT, decF, over_at, *]) | (with_reducible refine Gd_split (fun hc => ?_) (fun hc => ?_) <;> (have hc2 := hc; try simp at hc2)) | (with_reducible refine Br_split (fun hc => ?_) (fun hc => ?_) <;> (have hc2 := hc; try simp at hc2)) | (with_reducible refine GdT_split (fun hc => ?_) (fun hc => ?_) <;> (have hc2 := hc; try simp at hc2)) | (with_reducible refine WT_alt ?_ ?_) | omega)
          exact ⟨by omega, by rw [show digV 0 (s.take (i + 1)) = nx from hnx, hst2]⟩
    · have : i = s.length := by omega
      subst this
      rw [List.take_length, show digV 0 s = D from hD] at e4
      have hVI : valI s = if (c0 : Int) = 45 then -(D : Int) else (D : Int) := by
        rw [hV]
        by_cases q : s[0] = 45
        · rw [if_pos q, if_pos (h45.1 q)]
        · rw [if_neg q, if_neg (fun w => q (h45.2 w))]
      obtain ⟨V, hVe⟩ : ∃ V, Hid (valI s = V) := ⟨_, rfl⟩
      rw [show valI s = V from hVe] at hVI
      have hisD : isDec s ↔ inVal V ∧ Lib.itoa V = s := by unfold isDec; rw [show valI s = V from hVe]
      have hdN : decN s = if isDec s then V else 0 := by unfold decN; rw [show valI s = V from hVe]
      have hdec := fun (q : inVal V) h lim K => c_l01DecI (S := S) (h := h) (lim := lim) (K := K) q
      have htn := tneq (x := Lib.itoa V) (y := s)
      clear hV h45 hlt
      have hVb : (-100000000000000000 ≤ V ∧ V ≤ 100000000000000000) := by
        rw [hVI]; split <;> omega
      by_cases hin : inVal V
      · have hin2 := hin
        obtain ⟨i1, i2⟩ := hin2
        replace hdec := hdec hin
        by_cases heq : Lib.itoa V = s
        · have hY : isDec s := hisD.2 ⟨hin, heq⟩
          rw [if_pos hY] at hdN
          rw [decide_eq_true hY, hdN]
          rw [decide_eq_true heq] at htn
          clear hisD hdN hY hin heq
          by_cases hc : (c0 : Int) = 45
          · rw [if_pos hc] at hVI
            subst hVI
            repeat' (first | (simp (disch := first | omega | assumption | (simp only [List.length_set]; omega) | (simp [*] <;> fail) | assumption) [-Bool.decide_and, -Bool.decide_or, -Bool.not_and, -Bool.not_or, toNat_pred, toNat_succ, wrap64, wr_new, wr_new0, ok_if, ok_ifn, iadV_sl, makeV_int, decT, decF, over_at, *]) | (with_reducible refine Gd_split (fun hc => ?_) (fun hc => ?_) <;> (have hc2 := hc; try simp at hc2)) | (with_reducible refine Br_split (fun hc => ?_) (fun hc => ?_) <;> (have hc2 := hc; try simp at hc2)) | (with_reducible refine GdT_split (fun hc => ?_) (fun hc => ?_) <;> (have hc2 := hc; try simp at hc2)) | (with_reducible refine WT_alt ?_ ?_) | omega)
          · rw [if_neg hc] at hVI
            subst hVI
            repeat' (first | (simp (disch := first | omega | assumption | (simp only [List.length_set]; omega) | (simp [*] <;> fail) | assumption) [-Bool.decide_and, -Bool.decide_or, -Bool.not_and, -Bool.not_or, toNat_pred, toNat_succ, wrap64, wr_new, wr_new0, ok_if, ok_ifn, iadV_sl, makeV_int, decT, decF, over_at, *]) | (with_reducible refine Gd_split (fun hc => ?_) (fun hc => ?_) <;> (have hc2 := hc; try simp at hc2)) | (with_reducible refine Br_split (fun hc => ?_) (fun hc => ?_) <;> (have hc2 := hc; try simp at hc2)) | (with_reducible refine GdT_split (fun hc => ?_) (fun hc => ?_) <;> (have hc2 := hc; try simp at hc2)) | (with_reducible refine WT_alt ?_ ?_) | omega)
        · have hY : ¬ isDec s := fun q => heq (hisD.1 q).2
          rw [if_neg hY] at hdN
          rw [decide_eq_false hY, hdN]
          rw [decide_eq_false heq] at htn
          clear hisD hdN hY hin heq
          by_cases hc : (c0 : Int) = 45
          · rw [if_pos hc] at hVI
            subst hVI
            repeat' (first | (simp (disch := first | omega | assumption | (simp only [List.length_set]; omega) | (simp [*] <;> fail) | assumption) [-Bool.decide_and, -Bool.decide_or, -Bool.not_and, -Bool.not_or, toNat_pred, toNat_succ, wrap64, wr_new, wr_new0, ok_if, ok_ifn, iadV_sl, makeV_int, decT, decF, over_at, *]) | (with_reducible refine Gd_split (fun hc => ?_) (fun hc => ?_) <;> (have hc2 := hc; try simp at hc2)) | (with_reducible refine Br_split (fun hc => ?_) (fun hc => ?_) <;> (have hc2 := hc; try simp at hc2)) | (with_reducible refine GdT_split (fun hc => ?_) (fun hc => ?_) <;> (have hc2 := hc; try simp at hc2)) | (with_reducible refine WT_alt ?_ ?_) | omega)
          · rw [if_neg hc] at hVI
            subst hVI
            repeat' (first | (simp (disch := first | omega | assumption | (simp only [List.length_set]; omega) | (simp [*] <;> fail) | assumption) [-Bool.decide_and, -Bool.decide_or, -Bool.not_and, -Bool.not_or, toNat_pred, toNat_succ, wrap64, wr_new, wr_new0, ok_if, ok_ifn, iadV_sl, makeV_int, decT, decF, over_at, *]) | (with_reducible refine Gd_split (fun hc => ?_) (fun hc => ?_) <;> (have hc2 := hc; try simp at hc2)) | (with_reducible refine Br_split (fun hc => ?_) (fun hc => ?_) <;> (have hc2 := hc; try simp at hc2)) | (with_reducible refine GdT_split (fun hc => ?_) (fun hc => ?_) <;> (have hc2 := hc; try simp at hc2)) | (with_reducible refine WT_alt ?_ ?_) | omega)
      · have hY : ¬ isDec s := fun q => hin (hisD.1 q).1
        rw [if_neg hY] at hdN
        rw [decide_eq_false hY, hdN]
        have hin2 : ¬ (-1000000000000000 ≤ V ∧ V ≤ 1000000000000000) := hin
        clear hisD hdN hY hin hdec htn
        by_cases hc : (c0 : Int) = 45
        · rw [if_pos hc] at hVI
          subst hVI
          repeat' (first | (simp (disch := first | omega | assumption | (simp only [List.length_set]; omega) | (simp [*] <;> fail) | assumption) [-Bool.decide_and, -Bool.decide_or, -Bool.not_and, -Bool.not_or, toNat_pred, toNat_succ, wrap64, wr_new, wr_new0, ok_if, ok_ifn, iadV_sl, makeV_int, decT, decF, over_at, *]) | (with_reducible refine Gd_split (fun hc => ?_) (fun hc => ?_) <;> (have hc2 := hc; try simp at hc2)) | (with_reducible refine Br_split (fun hc => ?_) (fun hc => ?_) <;> (have hc2 := hc; try simp at hc2)) | (with_reducible refine GdT_split (fun hc => ?_) (fun hc => ?_) <;> (have hc2 := hc; try simp at hc2)) | (with_reducible refine WT_alt ?_ ?_) | omega)
        · rw [if_neg hc] at hVI
          subst hVI
          repeat' (first | (simp (disch := first | omega | assumption | (simp only [List.length_set]; omega) | (simp [*] <;> fail) | assumption) [-Bool.decide_and, -Bool.decide_or, -Bool.not_and, -Bool.not_or, toNat_pred, toNat_succ, wrap64, wr_new, wr_new0, ok_if, ok_ifn, iadV_sl, makeV_int, decT, decF, over_at, *]) | (with_reducible refine Gd_split (fun hc => ?_) (fun hc => ?_) <;> (have hc2 := hc; try simp at hc2)) | (with_reducible refine Br_split (fun hc => ?_) (fun hc => ?_) <;> (have hc2 := hc; try simp at hc2)) | (with_reducible refine GdT_split (fun hc => ?_) (fun hc => ?_) <;> (have hc2 := hc; try simp at hc2)) | (with_reducible refine WT_alt ?_ ?_) | omega)
  · have hY : ¬ isDec s := fun q => by
      have := itoa_len17 q.1
      rw [q.2] at this
      exact hok this
    have hdN : decN s = 0 := by unfold decN; rw [if_neg hY]
    rw [decide_eq_false hY, hdN]
    clear hY hdN
    by_cases h1 : (s.length : Int) < 1
    · refine CallT_pure (F := L27) (HasUf.f27) rfl (by first | rfl | (split <;> rfl) | simp) ?_; unfold L27; dsimp only []
      repeat' (first | (simp (disch := first | omega | assumption | (simp only [List.length_set]; omega) | (simp [*] <;> fail) | assumption) [-Bool.decide_and, -Bool.decide_or, -Bool.not_and, -Bool.not_or, toNat_pred, toNat_succ, wrap64, wr_new, wr_new0, ok_if, ok_ifn, iadV_sl, makeV_int, decT, decF, over_at, *]) | (with_reducible refine Gd_split (fun hc => ?_) (fun hc => ?_) <;> (have hc2 := hc; try simp at hc2)) | (with_reducible refine Br_split (fun hc => ?_) (fun hc => ?_) <;> (have hc2 := hc; try simp at hc2)) | (with_reducible refine GdT_split (fun hc => ?_) (fun hc => ?_) <;> (have hc2 := hc; try simp at hc2)) | (with_reducible refine WT_alt ?_ ?_) | omega)
    · have h2 : (17 : Int) < (s.length : Int) := by omega
      refine CallT_pure (F := L27) (HasUf.f27) rfl (by first | rfl | (split <;> rfl) | simp) ?_; unfold L27; dsimp only []
      repeat' (first | (simp (disch := first | omega | assumption | (simp only [List.length_set]; omega) | (simp [*] <;> fail) | assumption) [-Bool.decide_and, -Bool.decide_or, -Bool.not_and, -Bool.not_or, toNat_pred, toNat_succ, wrap64, wr_new, wr_new0, ok_if, ok_ifn, iadV_sl, makeV_int, decT, decF, over_at, *]) | (with_reducible refine Gd_split (fun hc => ?_) (fun hc => ?_) <;> (have hc2 := hc; try simp at hc2)) | (with_reducible refine Br_split (fun hc => ?_) (fun hc => ?_) <;> (have hc2 := hc; try simp at hc2)) | (with_reducible refine GdT_split (fun hc => ?_) (fun hc => ?_) <;> (have hc2 := hc; try simp at hc2)) | (with_reducible refine WT_alt ?_ ?_) | omega)
end
end
end Go.E
