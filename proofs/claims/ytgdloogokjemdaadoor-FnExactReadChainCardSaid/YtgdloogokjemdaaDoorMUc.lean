/- The program's ReadDecimal in the model: a walk over the library's contracts. -/
import Derived.Test.YtgdloogokjemdaaDoorMUa
import Derived.Test.YtgdloogokjemdaaDoorMJn
import Derived.WalkKit
import Derived.Lib.SmallJoins
import Derived.WalkMore
set_option linter.unusedVariables false
set_option linter.unusedSimpArgs false
namespace Go.E
open Go Go.RowKit Go.Proofs
theorem within_walk (n lo hi : Int) (w : World) : Calls Tryd.prog 25 #[.int .i64 n, .int .i64 lo, .int .i64 hi] w fun e w' => e = .returned (.bool (decide (lo ≤ n) && decide (n ≤ hi))) ∧ w' = w := by
  go_enter Tryd.func25, Tryd.ntmps25
  cases h : decide (lo ≤ n) <;> go_wp2 <;> go_ret <;> simp_all
theorem Below.grownN (w : World) (k : Nat) (os : Array Obj) : Below w.heap.size w (Go.Sort.grow (w.drewN k) os) := by
  have h := Below.grown' (w.drewN k) os
  exact ⟨h.os, h.tape, h.output, h.size, h.block⟩
theorem decimal_walk (n : Int) (h0 : -9223372036854775808 ≤ n) (h1 : n ≤ 9223372036854775807) (w : World) (htab : Lib.TabIs Tryd.prog w "internal/strconv.uint64pow10" .u64 Lib.pow10Tab) :
    Calls Tryd.prog 26 #[.int .i64 n] w fun e w' => e = .returned (.string ⟨(Lib.itoa n).toArray⟩) ∧ Below w.heap.size w w' := by
  have c := Go.Proofs.Tryd.strconv_FormatInt_10 n h0 h1 w htab
  go_enter Tryd.func26, Tryd.ntmps26
  go_wp2_with fail
  refine c.mono fun e w1 ⟨he, k, os, hw⟩ => ?_
  subst he
  subst hw
  go_wp2; go_ret
  exact ⟨rfl, Below.grownN w k os⟩
/-- What the library reads of its own variables. -/
structure ReadH (B : Nat) (w0 : World) : Prop where
  tab : TabH B w0
  len : ∃ m, w0.cell? ⟨1, 0, none⟩ = some (.int .i64 m)
  syn : ∃ ev : Value, w0.cell? ⟨2, 0, none⟩ = some ev ∧ (ev = .nilIface ∨ ∃ te pe, ev = .iface te pe)
  rng : ∃ ev : Value, w0.cell? ⟨3, 0, none⟩ = some ev ∧ (ev = .nilIface ∨ ∃ te pe, ev = .iface te pe)
  low : 1 < B ∧ 2 < B ∧ 3 < B
set_option maxHeartbeats 2000000 in
theorem readDecimal_walk {B : Nat} {w0 : World} (hT : ReadH B w0) (s : ByteArray) (hs : s.size ≤ 1000000000) (w : World) (hw : Below B w0 w) (hB : B ≤ w.heap.size) :
    Calls Tryd.prog 12 #[.string s] w fun e w' => e = .returned (.tuple #[.int .i64 (decN s.data.toList), .bool (decide (isDec s.data.toList))]) ∧ Below w.heap.size w w' := by
  obtain ⟨ev, hsyn, hev⟩ := hT.syn
  obtain ⟨ev2, hrng, hev2⟩ := hT.rng
  have hsyn2 := (hw.cell hT.low.2.1 (p := ⟨2, 0, none⟩)).trans hsyn
  have hrng2 := (hw.cell hT.low.2.2 (p := ⟨3, 0, none⟩)).trans hrng
  cases hp : Lib.parseIntB 64 s.data.toList
  · rename_i v
    have c := Go.Proofs.Tryd.strconv_ParseInt_10_at64_ok s (by omega) v hp w
    have hd := dec_parse hp
    go_enter Tryd.func12, Tryd.ntmps12
    go_wp2_with fail
    refine c.mono fun e w1 ⟨he, hw1⟩ => ?_
    subst he
    have hb1 : Below w.heap.size w w1 := by
      rcases hw1 with rfl | ⟨t, rfl⟩
      · exact Below.refl _ _
      · exact Joins.below_bytesWorld _ _ _ _ (Nat.le_refl _)
    clear hw1 c
    have c2 := within_walk v (-1000000000000000) 1000000000000000 w1
    have hq : (decide (-1000000000000000 ≤ v) && decide (v ≤ 1000000000000000)) = decide (inVal v) := by
      by_cases q : inVal v
      · rw [decide_eq_true q, decide_eq_true q.1, decide_eq_true q.2]; rfl
      · rw [decide_eq_false q]
        by_cases q1 : -1000000000000000 ≤ v
        · rw [decide_eq_true q1, decide_eq_false (fun q2 => q ⟨q1, q2⟩)]; rfl
        · rw [decide_eq_false q1]; rfl
    rw [hq] at c2
    by_cases hin : inVal v
    · rw [decide_eq_true hin] at c2
      go_wp2_with fail
      refine c2.mono fun e w2 ⟨he, hw2⟩ => ?_
      subst he
      subst hw2
      have c3 := decimal_walk v (by unfold inVal at hin; omega) (by unfold inVal at hin; omega) w2 (hT.tab w2 (hw.trans (hb1.mono hB)))
      go_wp2_with fail
      refine c3.mono fun e w3 ⟨he, hb2⟩ => ?_
      subst he
      have hb3 : Below w.heap.size w w3 := hb1.trans (hb2.mono hb1.size)
      have hs0 : s.toList = s.data.toList := Lib.toList_data s
      go_wp2
      · rename_i hcmp
        have heq : ¬ Lib.itoa v = s.data.toList := by simpa using hcmp
        have hok : ¬ isDec s.data.toList := fun q => by
          have := (dec_parse hp).2
          refine heq ?_
          by_cases e : v = valI s.data.toList
          · exact (this ⟨q, e⟩).2
          · exact absurd (by
              have h1 := parse_itoa q.1
              rw [q.2, hp] at h1
              injection h1) e
        go_ret2
        refine ⟨?_, hb3⟩
        unfold decN
        rw [if_neg hok, decide_eq_false hok]
        rfl
      · rename_i hcmp
        have heq : Lib.itoa v = s.data.toList := by simpa using hcmp
        have hok := hd.1 ⟨hin, heq⟩
        go_ret2
        refine ⟨?_, hb3⟩
        unfold decN
        rw [if_pos hok.1, decide_eq_true hok.1, ← hok.2]
        rfl
    · rw [decide_eq_false hin] at c2
      have hok : ¬ isDec s.data.toList := fun q => by
        have h1 := parse_itoa q.1
        rw [q.2, hp] at h1
        injection h1 with h1
        exact hin (by rw [h1]; exact q.1)
      go_wp2_with fail
      refine c2.mono fun e w2 ⟨he, hw2⟩ => ?_
      subst he
      subst hw2
      go_wp2
      go_ret2
      refine ⟨?_, hb1⟩
      unfold decN
      rw [if_neg hok, decide_eq_false hok]
      rfl
  · have c : Calls Tryd.prog 24 #[.string s, .int .i64 10, .int .i64 64] w fun e w' => ∃ (N : Nat) (t : TypeId), e = .returned (.tuple #[.int .i64 0, .iface t (.pointer (some ⟨N, 0, none⟩))]) ∧ Below w.heap.size w w' :=
      (Any.strconv_ParseInt_10_at64_syntax Go.Proofs.Tryd.laysC174 s (by omega) hp _ w hsyn2 hev).mono fun e w' ⟨N, he, _, _, hb⟩ => ⟨N, _, he, hb⟩
    have hok : ¬ isDec s.data.toList := fun q => by
      have h1 := parse_itoa q.1
      rw [q.2, hp] at h1
      cases h1
    go_enter Tryd.func12, Tryd.ntmps12
    go_wp2_with fail
    refine c.mono fun e w1 ⟨N, t, he, hb1⟩ => ?_
    subst he
    go_wp2
    go_ret2
    refine ⟨?_, hb1⟩
    unfold decN
    rw [if_neg hok, decide_eq_false hok]
    rfl
  · have c := Go.Proofs.Tryd.strconv_ParseInt_10_at64_range s (by omega) hp _ w hrng2 hev2
    have hok : ¬ isDec s.data.toList := fun q => by
      have h1 := parse_itoa q.1
      rw [q.2, hp] at h1
      cases h1
    go_enter Tryd.func12, Tryd.ntmps12
    go_wp2_with fail
    refine c.mono fun e w1 ⟨N, he, _, _, hb1⟩ => ?_
    subst he
    go_wp2
    go_ret2
    refine ⟨?_, hb1⟩
    unfold decN
    rw [if_neg hok, decide_eq_false hok]
    rfl
end Go.E
