/- The program's ReadDecimal in the model: a walk over the library's contracts; strings.Split and ReadDecimal for the evaluator. -/
import Derived.Test.YtgdloogokjemdaaGreatDoorMUa
import Derived.Test.YtgdloogokjemdaaGreatDoorMJn
import Derived.WalkKit
import Derived.Lib.SmallJoins
import Derived.WalkMore
set_option linter.unusedVariables false
set_option linter.unusedSimpArgs false
namespace Go.E
open Go Go.RowKit Go.Proofs
theorem within_walk (n lo hi : Int) (w : World) : Calls Tryz.prog 57 #[.int .i64 n, .int .i64 lo, .int .i64 hi] w fun e w' => e = .returned (.bool (decide (lo ≤ n) && decide (n ≤ hi))) ∧ w' = w := by
  go_enter Tryz.func57, Tryz.ntmps57
  cases h : decide (lo ≤ n) <;> go_wp2 <;> go_ret <;> simp_all
theorem Below.grownN (w : World) (k : Nat) (os : Array Obj) : Below w.heap.size w (Go.Sort.grow (w.drewN k) os) := by
  have h := Below.grown' (w.drewN k) os
  exact ⟨h.os, h.tape, h.output, h.size, h.block⟩
theorem decimal_walk (n : Int) (h0 : -9223372036854775808 ≤ n) (h1 : n ≤ 9223372036854775807) (w : World) (htab : Lib.TabIs Tryz.prog w "internal/strconv.uint64pow10" .u64 Lib.pow10Tab) :
    Calls Tryz.prog 46 #[.int .i64 n] w fun e w' => e = .returned (.string ⟨(Lib.itoa n).toArray⟩) ∧ Below w.heap.size w w' := by
  have c := Go.Proofs.Tryz.strconv_FormatInt_10 n h0 h1 w htab
  go_enter Tryz.func46, Tryz.ntmps46
  go_wp2_with fail
  refine c.mono fun e w1 ⟨he, k, os, hw⟩ => ?_
  subst he
  subst hw
  go_wp2; go_ret
  exact ⟨rfl, Below.grownN w k os⟩
/-- What the library reads of its own variables. -/
structure ReadH (B : Nat) (w0 : World) : Prop where
  tab : TabH B w0
  len : ∃ m, w0.cell? ⟨1, 0, none⟩ = some (.int .i64 m)
  syn : ∃ ev : Value, w0.cell? ⟨4, 0, none⟩ = some ev ∧ (ev = .nilIface ∨ ∃ te pe, ev = .iface te pe)
  rng : ∃ ev : Value, w0.cell? ⟨5, 0, none⟩ = some ev ∧ (ev = .nilIface ∨ ∃ te pe, ev = .iface te pe)
  low : 1 < B ∧ 4 < B ∧ 5 < B
set_option maxHeartbeats 2000000 in
theorem readDecimal_walk {B : Nat} {w0 : World} (hT : ReadH B w0) (s : ByteArray) (hs : s.size ≤ 1000000000) (w : World) (hw : Below B w0 w) (hB : B ≤ w.heap.size) :
    Calls Tryz.prog 37 #[.string s] w fun e w' => e = .returned (.tuple #[.int .i64 (decN s.data.toList), .bool (decide (isDec s.data.toList))]) ∧ Below w.heap.size w w' := by
  obtain ⟨ev, hsyn, hev⟩ := hT.syn
  obtain ⟨ev2, hrng, hev2⟩ := hT.rng
  have hsyn2 := (hw.cell hT.low.2.1 (p := ⟨4, 0, none⟩)).trans hsyn
  have hrng2 := (hw.cell hT.low.2.2 (p := ⟨5, 0, none⟩)).trans hrng
  cases hp : Lib.parseIntB 64 s.data.toList
  · rename_i v
    have c := Go.Proofs.Tryz.strconv_ParseInt_10_at64_ok s (by omega) v hp w
    have hd := dec_parse hp
    go_enter Tryz.func37, Tryz.ntmps37
    go_wp2_with fail
    refine c.mono fun e w1 ⟨he, hw1⟩ => ?_
    subst he
    have hb1 : Below w.heap.size w w1 := by
      rcases hw1 with rfl | ⟨t, rfl⟩
      · exact Below.refl _ _
      · exact Joins.below_bytesWorld _ _ _ _ (Nat.le_refl _)
    clear hw1 c
    have c2 := within_walk v (-1000000000000000) 1000000000000000 w1
    have hq : (decide (-1000000000000000 ≤ v) && decide (v ≤ 1000000000000000)) = decide (inVal v) := by
      by_cases q : inVal v
      · rw [decide_eq_true q, decide_eq_true q.1, decide_eq_true q.2]; rfl
      · rw [decide_eq_false q]
        by_cases q1 : -1000000000000000 ≤ v
        · rw [decide_eq_true q1, decide_eq_false (fun q2 => q ⟨q1, q2⟩)]; rfl
        · rw [decide_eq_false q1]; rfl
    rw [hq] at c2
    by_cases hin : inVal v
    · rw [decide_eq_true hin] at c2
      go_wp2_with fail
      refine c2.mono fun e w2 ⟨he, hw2⟩ => ?_
      subst he
      subst hw2
      have c3 := decimal_walk v (by unfold inVal at hin; omega) (by unfold inVal at hin; omega) w2 (hT.tab w2 (hw.trans (hb1.mono hB)))
      go_wp2_with fail
      refine c3.mono fun e w3 ⟨he, hb2⟩ => ?_
      subst he
      have hb3 : Below w.heap.size w w3 := hb1.trans (hb2.mono hb1.size)
      have hs0 : s.toList = s.data.toList := Lib.toList_data s
      go_wp2
      · rename_i hcmp
        have heq : ¬ Lib.itoa v = s.data.toList := by simpa using hcmp
        have hok : ¬ isDec s.data.toList := fun q => by
          have := (dec_parse hp).2
          refine heq ?_
          by_cases e : v = valI s.data.toList
          · exact (this ⟨q, e⟩).2
          · exact absurd (by
              have h1 := parse_itoa q.1
              rw [q.2, hp] at h1
              injection h1) e
        go_ret2
        refine ⟨?_, hb3⟩
        unfold decN
        rw [if_neg hok, decide_eq_false hok]
        rfl
      · rename_i hcmp
        have heq : Lib.itoa v = s.data.toList := by simpa using hcmp
        have hok := hd.1 ⟨hin, heq⟩
        go_ret2
        refine ⟨?_, hb3⟩
        unfold decN
        rw [if_pos hok.1, decide_eq_true hok.1, ← hok.2]
        rfl
    · rw [decide_eq_false hin] at c2
      have hok : ¬ isDec s.data.toList := fun q => by
        have h1 := parse_itoa q.1
        rw [q.2, hp] at h1
        injection h1 with h1
        exact hin (by rw [h1]; exact q.1)
      go_wp2_with fail
      refine c2.mono fun e w2 ⟨he, hw2⟩ => ?_
      subst he
      subst hw2
      go_wp2
      go_ret2
      refine ⟨?_, hb1⟩
      unfold decN
      rw [if_neg hok, decide_eq_false hok]
      rfl
  · have c : Calls Tryz.prog 56 #[.string s, .int .i64 10, .int .i64 64] w fun e w' => ∃ (N : Nat) (t : TypeId), e = .returned (.tuple #[.int .i64 0, .iface t (.pointer (some ⟨N, 0, none⟩))]) ∧ Below w.heap.size w w' :=
      (Any.strconv_ParseInt_10_at64_syntax Go.Proofs.Tryz.laysC174 s (by omega) hp _ w hsyn2 hev).mono fun e w' ⟨N, he, _, _, hb⟩ => ⟨N, _, he, hb⟩
    have hok : ¬ isDec s.data.toList := fun q => by
      have h1 := parse_itoa q.1
      rw [q.2, hp] at h1
      cases h1
    go_enter Tryz.func37, Tryz.ntmps37
    go_wp2_with fail
    refine c.mono fun e w1 ⟨N, t, he, hb1⟩ => ?_
    subst he
    go_wp2
    go_ret2
    refine ⟨?_, hb1⟩
    unfold decN
    rw [if_neg hok, decide_eq_false hok]
    rfl
  · have c := Go.Proofs.Tryz.strconv_ParseInt_10_at64_range s (by omega) hp _ w hrng2 hev2
    have hok : ¬ isDec s.data.toList := fun q => by
      have h1 := parse_itoa q.1
      rw [q.2, hp] at h1
      cases h1
    go_enter Tryz.func37, Tryz.ntmps37
    go_wp2_with fail
    refine c.mono fun e w1 ⟨N, he, _, _, hb1⟩ => ?_
    subst he
    go_wp2
    go_ret2
    refine ⟨?_, hb1⟩
    unfold decN
    rw [if_neg hok, decide_eq_false hok]
    rfl
/-! ### strings.Split and ReadDecimal for the evaluator -/
def splitL (s sep : ByteArray) : List ByteArray := Lib.splitB sep 0 (Lib.countB s sep) s
/-- What the evaluator is told. -/
def readX : Call := fun f args h lim =>
  if f = 17 then
    match args with
    | [.lf (.str s), .lf (.str sep)] => if s.size ≤ 1000000000 ∧ 1 ≤ sep.size then some (.lf (.sl h.length 0 (splitL s sep).length 1), h ++ [⟨(splitL s sep).map .str, .own 9 1⟩]) else none
    | _ => none
  else if f = 37 then
    match args with
    | [.lf (.str s)] => if s.size ≤ 1000000000 then some (.tup [.lf (.int .i64 (decN s.data.toList)), .lf (.bool (decide (isDec s.data.toList)))], h) else none
    | _ => none
  else joinX f args h lim
theorem readX_split {s sep : ByteArray} {h : Hp} {lim : Nat} (h1 : s.size ≤ 1000000000) (h2 : 1 ≤ sep.size) : readX 17 [.lf (.str s), .lf (.str sep)] h lim = some (.lf (.sl h.length 0 (splitL s sep).length 1), h ++ [⟨(splitL s sep).map .str, .own 9 1⟩]) := by
  unfold readX
  rw [if_pos rfl]
  simp only []
  rw [if_pos ⟨h1, h2⟩]
theorem readX_dec {s : ByteArray} {h : Hp} {lim : Nat} (h1 : s.size ≤ 1000000000) : readX 37 [.lf (.str s)] h lim = some (.tup [.lf (.int .i64 (decN s.data.toList)), .lf (.bool (decide (isDec s.data.toList)))], h) := by
  unfold readX
  rw [if_neg (by decide), if_pos rfl]
  simp only []
  rw [if_pos h1]
theorem readX_join {f : FuncId} {args : List CV} {h : Hp} {lim : Nat} {r : CV × Hp} (hr : joinX f args h lim = some r) : readX f args h lim = some r := by
  unfold readX
  have h1 : ¬ f = 17 := by
    rintro rfl
    unfold joinX at hr
    rw [if_neg (by decide), if_neg (by decide)] at hr
    cases hr
  have h2 : ¬ f = 37 := by
    rintro rfl
    unfold joinX at hr
    rw [if_neg (by decide), if_neg (by decide)] at hr
    cases hr
  rw [if_neg h1, if_neg h2]
  exact hr
set_option maxHeartbeats 1000000 in
theorem readX_ok {B : Nat} {w0 : World} (hT : ReadH B w0) : CallOK Tryz.prog B w0 readX := by
  refine ⟨fun f args h lim v h' hx ρ vs w ha hr => ?_, fun f args h lim v h' hx => ?_⟩
  · unfold readX at hx
    split at hx
    · rename_i hf
      subst hf
      split at hx
      · rename_i s sep
        split at hx
        · rename_i hc
          obtain ⟨c1, c2⟩ := hc
          injection hx with hx
          injection hx with hv hh
          subst hv; subst hh
          obtain ⟨u, us1, rfl, hu, v2, us2, rfl, hv2, hnil⟩ := ha
          have : us2 = [] := hnil
          subst this
          have hu' : u = .string s := hu
          have hv2' : v2 = .string sep := hv2
          subst hu'; subst hv2'
          obtain ⟨m, hm⟩ := hT.len
          have hm2 := (hr.below.cell hT.low.1 (p := ⟨1, 0, none⟩)).trans hm
          refine (Go.Proofs.Tryz.strings_Split s sep m w (by omega) hm2 c2).mono fun e w' hh => ?_
          obtain ⟨he, hw⟩ := hh
          have hlen := Lib.splitB_all sep c2 0 _ s rfl
          have hl2 : (splitL s sep).length = Lib.countB s sep + 1 := hlen
          have hcr : CR ρ ((splitL s sep).map Lf.str) ((splitL s sep).map Value.string).toArray.toList := by
            intro j x hj
            rw [List.getElem?_map] at hj
            obtain ⟨y, hy, rfl⟩ := Option.map_eq_some_iff.1 hj
            exact ⟨.string y, by simp [hy], rfl⟩
          have hnew := hr.new 9 1 ((splitL s sep).map Lf.str) ((splitL s sep).map Value.string).toArray (by simp) hcr
          subst hw
          have hcap : Lib.countB s sep + 1 ≤ maxLen := by
            have := Lib.countB_le sep c2 _ s (Nat.le_refl _)
            have e : maxLen = 9223372036854775807 := rfl
            rw [e]; omega
          refine ⟨_, _, he, Ext.one ρ _, ?_, hnew⟩
          refine ⟨⟨w.heap.size, 0, ((splitL s sep).map Value.string).toArray.size, 1, true⟩, ⟨w.heap.size, 0, none⟩, Lib.countB s sep + 1, ?_, ?_, ?_, hcap, fun _ => rfl, fun _ => ⟨rfl, ?_⟩⟩
          · rw [← hr.len]; simp
          · rw [hl2]
          · omega
          · simp [hl2]
        · cases hx
      · cases hx
    · split at hx
      · rename_i hf
        subst hf
        split at hx
        · rename_i s
          split at hx
          · rename_i hc
            injection hx with hx
            injection hx with hv hh
            subst hv; subst hh
            obtain ⟨u, us1, rfl, hu, hnil⟩ := ha
            have : us1 = [] := hnil
            subst this
            have hu' : u = .string s := hu
            subst hu'
            refine (readDecimal_walk hT s hc w hr.below hr.base).mono fun e w' hh => ?_
            obtain ⟨he, hw⟩ := hh
            exact ⟨_, ρ, he, Ext.refl _, ⟨_, rfl, _, _, rfl, rfl, _, _, rfl, rfl, rfl⟩, hr.above hw⟩
          · cases hx
        · cases hx
      · exact (joinX_ok hT.tab).sound _ _ _ _ _ _ hx _ _ _ ha hr
  · unfold readX at hx
    split at hx
    · split at hx
      · split at hx
        · injection hx with hx
          injection hx with _ hh
          subst hh
          exact ⟨by simp, fun id _ hid => List.getElem?_append_left hid⟩
        · cases hx
      · cases hx
    · split at hx
      · split at hx
        · split at hx
          · injection hx with hx
            injection hx with _ hh
            subst hh
            exact ⟨Nat.le_refl _, fun _ _ _ => rfl⟩
          · cases hx
        · cases hx
      · exact (joinX_ok (B := B) (w0 := w0) hT.tab).keeps _ _ _ _ _ _ hx
end Go.E
