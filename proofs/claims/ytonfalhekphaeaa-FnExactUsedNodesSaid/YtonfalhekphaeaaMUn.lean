/- Nodes that are heard, both sides. -/
import Derived.Test.YtonfalhekphaeaaMS
import Derived.Test.YtonfalhekphaeaaMH
set_option linter.unusedVariables false
set_option linter.unusedSimpArgs false
namespace Go.E
open Go
def L108 : LFn := ⟨2, (.seq (.reg [⟨(.some 4), (.mv (.c (.lf (.bool false)))), none⟩])
 (.seq (.seq (.reg [⟨(.some 5), (.mv (.c (.lf (.int .i64 0)))), none⟩])
 (.block 0 (.loop (.seq (.seq (.reg [⟨(.some 6), (.mv (.t 5)), none⟩, ⟨(.some 7), (.mv (.t 0)), none⟩, ⟨(.some 8), (.len (.t 7)), none⟩, ⟨(.some 9), (.bin .lss (.t 6) (.t 8)), none⟩])
 (.cond (.t 9) .skip (.exit 0)))
 (.seq (.block 1 (.seq (.reg [⟨(.some 12), (.mv (.t 0)), none⟩, ⟨(.some 13), (.mv (.t 5)), none⟩, ⟨(.some 14), (.iaddr 1 (.t 12) (.t 13)), none⟩, ⟨(.some 15), (.load false 1 (.t 14)), none⟩, ⟨(.some 16), (.mv (.t 1)), none⟩, ⟨(.some 17), (.bin .eql (.t 15) (.t 16)), none⟩])
 (.cond (.t 17) (.seq (.reg [⟨(.some 4), (.mv (.c (.lf (.bool true)))), none⟩])
 .ret) .skip)))
 (.reg [⟨(.some 10), (.mv (.t 5)), none⟩, ⟨(.some 11), (.bin .add (.t 10) (.c (.lf (.int .i64 1)))), none⟩, ⟨(.some 5), (.mv (.t 11)), none⟩]))))))
 (.seq (.reg [⟨(.some 4), (.mv (.c (.lf (.bool false)))), none⟩])
 .ret))), [(.tmp 4)]⟩
def L109 : LFn := ⟨2, (.seq (.reg [⟨(.some 4), (.mv (.c (.lf .nils))), none⟩])
 (.seq (.reg [⟨(.some 8), (.lit 2 1 0 [] []), none⟩, ⟨(.some 5), (.mv (.t 8)), none⟩])
 (.seq (.reg [⟨(.some 6), (.mv (.c (.lf (.bool false)))), none⟩])
 (.seq (.seq (.reg [⟨(.some 7), (.mv (.c (.lf (.int .i64 0)))), none⟩])
 (.block 0 (.loop (.seq (.seq (.reg [⟨(.some 9), (.mv (.t 7)), none⟩, ⟨(.some 10), (.mv (.t 0)), none⟩, ⟨(.some 11), (.len (.t 10)), none⟩, ⟨(.some 12), (.bin .lss (.t 9) (.t 11)), none⟩])
 (.cond (.t 12) .skip (.exit 0)))
 (.seq (.block 1 (.seq (.seq (.reg [⟨(.some 15), (.mv (.t 6)), none⟩, ⟨(.some 16), (.una .not (.t 15)), none⟩, ⟨(.some 17), (.mv (.t 16)), none⟩, ⟨(.some 18), (.mv (.t 0)), (.some (17, true))⟩, ⟨(.some 19), (.mv (.t 7)), (.some (17, true))⟩, ⟨(.some 20), (.iaddr 1 (.t 18) (.t 19)), (.some (17, true))⟩, ⟨(.some 21), (.load false 1 (.t 20)), (.some (17, true))⟩, ⟨(.some 22), (.mv (.t 1)), (.some (17, true))⟩, ⟨(.some 23), (.bin .geq (.t 21) (.t 22)), (.some (17, true))⟩, ⟨(.some 24), (.pick (.t 17) (.t 23) (.c (.lf (.bool false)))), none⟩])
 (.cond (.t 24) (.seq (.reg [⟨(.some 6), (.mv (.c (.lf (.bool true)))), none⟩])
 (.seq (.reg [⟨(.some 25), (.mv (.t 0)), none⟩, ⟨(.some 26), (.mv (.t 7)), none⟩, ⟨(.some 27), (.iaddr 1 (.t 25) (.t 26)), none⟩, ⟨(.some 28), (.load false 1 (.t 27)), none⟩, ⟨(.some 29), (.mv (.t 1)), none⟩, ⟨(.some 30), (.bin .gtr (.t 28) (.t 29)), none⟩])
 (.cond (.t 30) (.reg [⟨(.some 31), (.mv (.t 5)), none⟩, ⟨(.some 32), (.mv (.t 1)), none⟩, ⟨(.some 33), (.lit 2 1 1 [(.int .i64 0)] [(0, (1, (.t 32)))]), none⟩, ⟨(.some 34), (.app 2 1 8 (.t 31) (.t 33)), none⟩, ⟨(.some 5), (.mv (.t 34)), none⟩]) .skip))) .skip))
 (.reg [⟨(.some 35), (.mv (.t 5)), none⟩, ⟨(.some 36), (.mv (.t 0)), none⟩, ⟨(.some 37), (.mv (.t 7)), none⟩, ⟨(.some 38), (.iaddr 1 (.t 36) (.t 37)), none⟩, ⟨(.some 39), (.load false 1 (.t 38)), none⟩, ⟨(.some 40), (.lit 2 1 1 [(.int .i64 0)] [(0, (1, (.t 39)))]), none⟩, ⟨(.some 41), (.app 2 1 8 (.t 35) (.t 40)), none⟩, ⟨(.some 5), (.mv (.t 41)), none⟩])))
 (.reg [⟨(.some 13), (.mv (.t 7)), none⟩, ⟨(.some 14), (.bin .add (.t 13) (.c (.lf (.int .i64 1)))), none⟩, ⟨(.some 7), (.mv (.t 14)), none⟩]))))))
 (.seq (.seq (.reg [⟨(.some 42), (.mv (.t 6)), none⟩, ⟨(.some 43), (.una .not (.t 42)), none⟩])
 (.cond (.t 43) (.reg [⟨(.some 44), (.mv (.t 5)), none⟩, ⟨(.some 45), (.mv (.t 1)), none⟩, ⟨(.some 46), (.lit 2 1 1 [(.int .i64 0)] [(0, (1, (.t 45)))]), none⟩, ⟨(.some 47), (.app 2 1 8 (.t 44) (.t 46)), none⟩, ⟨(.some 5), (.mv (.t 47)), none⟩]) .skip))
 (.seq (.reg [⟨(.some 48), (.mv (.t 5)), none⟩, ⟨(.some 4), (.mv (.t 48)), none⟩])
 .ret)))))), [(.tmp 4)]⟩
def L45 : LFn := ⟨2, (.seq (.reg [⟨(.some 4), (.mv (.c (.lf .nils))), none⟩, ⟨(.some 5), (.mv (.c (.lf (.bool false)))), none⟩])
 (.seq (.seq (.reg [⟨(.some 9), (.mv (.t 0)), none⟩, ⟨(.some 10), (.mv (.t 1)), none⟩, ⟨(.some 11), (.call true 107 [(.t 9), (.t 10)]), none⟩, ⟨(.some 12), (.una .not (.t 11)), none⟩])
 (.cond (.t 12) (.seq (.reg [⟨(.some 4), (.mv (.c (.lf .nils))), none⟩, ⟨(.some 5), (.mv (.c (.lf (.bool false)))), none⟩])
 .ret) .skip))
 (.seq (.reg [⟨(.some 13), (.mv (.t 0)), none⟩, ⟨(.some 14), (.bin .sub (.t 13) (.c (.lf (.int .i64 1)))), none⟩, ⟨(.some 15), (.lit 2 1 1 [(.int .i64 0)] [(0, (1, (.t 14)))]), none⟩, ⟨(.some 6), (.mv (.t 15)), none⟩])
 (.seq (.seq (.reg [⟨(.some 16), (.mv (.t 0)), none⟩, ⟨(.some 17), (.bin .sub (.t 16) (.c (.lf (.int .i64 2)))), none⟩, ⟨(.some 7), (.mv (.t 17)), none⟩])
 (.block 0 (.loop (.seq (.seq (.reg [⟨(.some 18), (.mv (.t 7)), none⟩, ⟨(.some 19), (.bin .geq (.t 18) (.c (.lf (.int .i64 0)))), none⟩])
 (.cond (.t 19) .skip (.exit 0)))
 (.seq (.block 1 (.seq (.reg [⟨(.some 22), (.mv (.t 1)), none⟩, ⟨(.some 23), (.len (.t 22)), none⟩, ⟨(.some 24), (.mv (.c (.lf (.int .i64 0)))), none⟩])
 (.block 2 (.loop (.seq (.reg [⟨(.some 25), (.bin .lss (.t 24) (.t 23)), none⟩])
 (.seq (.cond (.t 25) .skip (.exit 2))
 (.seq (.block 3 (.seq (.reg [⟨(.some 26), (.mv (.t 24)), none⟩, ⟨(.some 8), (.mv (.t 26)), none⟩])
 (.seq (.reg [⟨(.some 27), (.mv (.t 1)), none⟩, ⟨(.some 28), (.mv (.t 8)), none⟩, ⟨(.some 29), (.iaddr 3 (.t 27) (.t 28)), none⟩, ⟨(.some 30), (.faddr 0 (.t 29)), none⟩, ⟨(.some 31), (.load false 1 (.t 30)), none⟩, ⟨(.some 32), (.mv (.t 7)), none⟩, ⟨(.some 33), (.bin .eql (.t 31) (.t 32)), none⟩, ⟨(.some 34), (.mv (.t 33)), none⟩, ⟨(.some 35), (.mv (.t 6)), (.some (34, true))⟩, ⟨(.some 36), (.mv (.t 1)), (.some (34, true))⟩, ⟨(.some 37), (.mv (.t 8)), (.some (34, true))⟩, ⟨(.some 38), (.iaddr 3 (.t 36) (.t 37)), (.some (34, true))⟩, ⟨(.some 39), (.faddr 1 (.t 38)), (.some (34, true))⟩, ⟨(.some 40), (.load false 1 (.t 39)), (.some (34, true))⟩, ⟨(.some 41), (.call true 108 [(.t 35), (.t 40)]), (.some (34, true))⟩, ⟨(.some 42), (.pick (.t 34) (.t 41) (.c (.lf (.bool false)))), none⟩])
 (.cond (.t 42) (.reg [⟨(.some 43), (.mv (.t 6)), none⟩, ⟨(.some 44), (.mv (.t 7)), none⟩, ⟨(.some 45), (.call false 109 [(.t 43), (.t 44)]), none⟩, ⟨(.some 6), (.mv (.t 45)), none⟩]) .skip))))
 (.reg [⟨(.some 46), (.bin .add (.t 24) (.c (.lf (.int .i64 1)))), none⟩, ⟨(.some 24), (.mv (.t 46)), none⟩]))))))))
 (.reg [⟨(.some 20), (.mv (.t 7)), none⟩, ⟨(.some 21), (.bin .sub (.t 20) (.c (.lf (.int .i64 1)))), none⟩, ⟨(.some 7), (.mv (.t 21)), none⟩]))))))
 (.seq (.reg [⟨(.some 47), (.mv (.t 6)), none⟩, ⟨(.some 4), (.mv (.t 47)), none⟩, ⟨(.some 5), (.mv (.c (.lf (.bool true)))), none⟩])
 .ret))))), [(.tmp 4), (.tmp 5)]⟩
def L47 : LFn := ⟨2, (.seq (.reg [⟨(.some 4), (.mv (.c (.lf .nils))), none⟩, ⟨(.some 5), (.mv (.c (.lf (.bool false)))), none⟩])
 (.seq (.seq (.reg [⟨(.some 13), (.mv (.t 0)), none⟩, ⟨(.some 14), (.mv (.t 1)), none⟩, ⟨(.some 15), (.call true 111 [(.t 13), (.t 14)]), none⟩, ⟨(.some 16), (.una .not (.t 15)), none⟩])
 (.cond (.t 16) (.seq (.reg [⟨(.some 4), (.mv (.c (.lf .nils))), none⟩, ⟨(.some 5), (.mv (.c (.lf (.bool false)))), none⟩])
 .ret) .skip))
 (.seq (.reg [⟨(.some 17), (.mv (.t 0)), none⟩, ⟨(.some 18), (.make 4 1 1 [(.bool false)] (.t 17) (.t 17)), none⟩, ⟨(.some 6), (.mv (.t 18)), none⟩])
 (.seq (.reg [⟨(.some 19), (.mv (.t 6)), none⟩, ⟨(.some 20), (.mv (.t 0)), none⟩, ⟨(.some 21), (.bin .sub (.t 20) (.c (.lf (.int .i64 1)))), none⟩, ⟨(.some 22), (.iaddr 1 (.t 19) (.t 21)), none⟩, ⟨none, (.store 1 (.t 22) (.c (.lf (.bool true)))), none⟩])
 (.seq (.seq (.reg [⟨(.some 23), (.mv (.t 0)), none⟩, ⟨(.some 24), (.bin .sub (.t 23) (.c (.lf (.int .i64 1)))), none⟩, ⟨(.some 7), (.mv (.t 24)), none⟩])
 (.block 0 (.loop (.seq (.seq (.reg [⟨(.some 25), (.mv (.t 7)), none⟩, ⟨(.some 26), (.bin .geq (.t 25) (.c (.lf (.int .i64 0)))), none⟩])
 (.cond (.t 26) .skip (.exit 0)))
 (.seq (.block 1 (.seq (.reg [⟨(.some 29), (.mv (.t 1)), none⟩, ⟨(.some 30), (.len (.t 29)), none⟩, ⟨(.some 31), (.mv (.c (.lf (.int .i64 0)))), none⟩])
 (.block 2 (.loop (.seq (.reg [⟨(.some 32), (.bin .lss (.t 31) (.t 30)), none⟩])
 (.seq (.cond (.t 32) .skip (.exit 2))
 (.seq (.block 3 (.seq (.reg [⟨(.some 33), (.iaddr 3 (.t 29) (.t 31)), none⟩, ⟨(.some 34), (.load true 3 (.t 33)), none⟩, ⟨(.some 9), (.alloc 134 [(.int .i64 0), (.int .i64 0), (.flt .f32 0)]), none⟩, ⟨none, (.store 3 (.t 9) (.t 34)), none⟩])
 (.seq (.reg [⟨(.some 35), (.faddr 1 (.t 9)), none⟩, ⟨(.some 36), (.load false 1 (.t 35)), none⟩, ⟨(.some 37), (.mv (.t 7)), none⟩, ⟨(.some 38), (.bin .eql (.t 36) (.t 37)), none⟩, ⟨(.some 39), (.mv (.t 38)), none⟩, ⟨(.some 40), (.mv (.t 6)), (.some (39, true))⟩, ⟨(.some 41), (.mv (.t 7)), (.some (39, true))⟩, ⟨(.some 42), (.iaddr 1 (.t 40) (.t 41)), (.some (39, true))⟩, ⟨(.some 43), (.load false 1 (.t 42)), (.some (39, true))⟩, ⟨(.some 44), (.pick (.t 39) (.t 43) (.c (.lf (.bool false)))), none⟩])
 (.cond (.t 44) (.reg [⟨(.some 45), (.mv (.t 6)), none⟩, ⟨(.some 46), (.faddr 0 (.t 9)), none⟩, ⟨(.some 47), (.load false 1 (.t 46)), none⟩, ⟨(.some 48), (.iaddr 1 (.t 45) (.t 47)), none⟩, ⟨none, (.store 1 (.t 48) (.c (.lf (.bool true)))), none⟩]) .skip))))
 (.reg [⟨(.some 49), (.bin .add (.t 31) (.c (.lf (.int .i64 1)))), none⟩, ⟨(.some 31), (.mv (.t 49)), none⟩]))))))))
 (.reg [⟨(.some 27), (.mv (.t 7)), none⟩, ⟨(.some 28), (.bin .sub (.t 27) (.c (.lf (.int .i64 1)))), none⟩, ⟨(.some 7), (.mv (.t 28)), none⟩]))))))
 (.seq (.reg [⟨(.some 10), (.mv (.c (.lf .nils))), none⟩])
 (.seq (.seq (.reg [⟨(.some 50), (.mv (.t 6)), none⟩, ⟨(.some 51), (.len (.t 50)), none⟩, ⟨(.some 52), (.mv (.c (.lf (.int .i64 0)))), none⟩])
 (.block 4 (.loop (.seq (.reg [⟨(.some 53), (.bin .lss (.t 52) (.t 51)), none⟩])
 (.seq (.cond (.t 53) .skip (.exit 4))
 (.seq (.block 5 (.seq (.reg [⟨(.some 54), (.mv (.t 52)), none⟩, ⟨(.some 55), (.iaddr 1 (.t 50) (.t 52)), none⟩, ⟨(.some 56), (.load false 1 (.t 55)), none⟩, ⟨(.some 11), (.mv (.t 54)), none⟩, ⟨(.some 12), (.mv (.t 56)), none⟩])
 (.seq (.reg [⟨(.some 57), (.mv (.t 12)), none⟩])
 (.cond (.t 57) (.reg [⟨(.some 58), (.mv (.t 10)), none⟩, ⟨(.some 59), (.mv (.t 11)), none⟩, ⟨(.some 60), (.lit 2 1 1 [(.int .i64 0)] [(0, (1, (.t 59)))]), none⟩, ⟨(.some 61), (.app 2 1 8 (.t 58) (.t 60)), none⟩, ⟨(.some 10), (.mv (.t 61)), none⟩]) .skip))))
 (.reg [⟨(.some 62), (.bin .add (.t 52) (.c (.lf (.int .i64 1)))), none⟩, ⟨(.some 52), (.mv (.t 62)), none⟩])))))))
 (.seq (.reg [⟨(.some 63), (.mv (.t 10)), none⟩, ⟨(.some 4), (.mv (.t 63)), none⟩, ⟨(.some 5), (.mv (.c (.lf (.bool true)))), none⟩])
 .ret)))))))), [(.tmp 4), (.tmp 5)]⟩
class HasUn (S : Sys) : Prop extends HasS S where
  f108 : S.fs 108 = some L108
  f109 : S.fs 109 = some L109
  f45 : S.fs 45 = some L45
  f47 : S.fs 47 = some L47
/-- From a node there is a way to the last. -/
inductive Rch (ps : List Snd) (n : Int) : Int → Prop
  | last : Rch ps n (n - 1)
  | step (j : Nat) (hj : j < ps.length) : Rch ps n ps[j].to_ → Rch ps n ps[j].frm
/-- One of the first k sends leads from v to a node from where there is a way. -/
def Via (ps : List Snd) (n v : Int) (k : Nat) : Prop := ∃ (j : Nat) (hj : j < ps.length), j < k ∧ ps[j].frm = v ∧ Rch ps n ps[j].to_
noncomputable instance (ps : List Snd) (n v : Int) : Decidable (Rch ps n v) := Classical.propDecidable _
noncomputable instance (ps : List Snd) (n v : Int) (k : Nat) : Decidable (Via ps n v k) := Classical.propDecidable _
section
variable {ps : List Snd} {n v : Int}
theorem Rch_iff : Rch ps n v ↔ v = n - 1 ∨ Via ps n v ps.length := by
  constructor
  · intro h
    cases h with
    | last => exact .inl rfl
    | step j hj h => exact .inr ⟨j, hj, hj, rfl, h⟩
  · rintro (h | ⟨j, hj, _, rfl, h⟩)
    · rw [h]; exact .last
    · exact .step j hj h
theorem Via.succ {k : Nat} (hk : k < ps.length) : Via ps n v (k + 1) ↔ Via ps n v k ∨ (ps[k].frm = v ∧ Rch ps n ps[k].to_) := by
  constructor
  · rintro ⟨j, hj, h1, h2, h3⟩
    by_cases e : j = k
    · subst e; exact .inr ⟨h2, h3⟩
    · exact .inl ⟨j, hj, by omega, h2, h3⟩
  · rintro (⟨j, hj, h1, h2, h3⟩ | ⟨h2, h3⟩)
    · exact ⟨j, hj, by omega, h2, h3⟩
    · exact ⟨k, hk, by omega, h2, h3⟩
theorem Via.zero : ¬ Via ps n v 0 := by rintro ⟨j, _, h, _⟩; omega
/-- Those of the last k nodes from where there is a way. -/
noncomputable def usedK (ps : List Snd) (n : Int) : Nat → List Int
  | 0 => []
  | k + 1 => if Rch ps n (n - 1 - k) then (n - 1 - k) :: usedK ps n k else usedK ps n k
theorem usedK_len : ∀ {k : Nat}, (usedK ps n k).length ≤ k
  | 0 => by simp [usedK]
  | k + 1 => by
    have := usedK_len (k := k)
    unfold usedK; split
    · simp; omega
    · omega
theorem mem_usedK {x : Int} : ∀ {k : Nat}, x ∈ usedK ps n k ↔ n - k ≤ x ∧ x ≤ n - 1 ∧ Rch ps n x
  | 0 => by
    simp only [usedK, List.not_mem_nil, false_iff]; omega
  | k + 1 => by
    have ih := mem_usedK (x := x) (k := k)
    unfold usedK
    split
    · rename_i h
      rw [List.mem_cons, ih]
      constructor
      · rintro (rfl | ⟨h1, h2, h3⟩)
        · exact ⟨by omega, by omega, h⟩
        · exact ⟨by omega, h2, h3⟩
      · rintro ⟨h1, h2, h3⟩
        by_cases e : x = n - 1 - k
        · exact .inl e
        · exact .inr ⟨by omega, h2, h3⟩
    · rename_i h
      rw [ih]
      constructor
      · rintro ⟨h1, h2, h3⟩; exact ⟨by omega, h2, h3⟩
      · rintro ⟨h1, h2, h3⟩
        by_cases e : x = n - 1 - k
        · rw [e] at h3; exact absurd h3 h
        · exact ⟨by omega, h2, h3⟩
theorem usedK_pos {k : Nat} (hk : 0 < k) : usedK ps n k ≠ [] := by
  intro h
  have : (n - 1) ∈ usedK ps n k := mem_usedK.2 ⟨by omega, by omega, .last⟩
  rw [h] at this; exact absurd this (by simp)
/-- The same while the sends are looked through. -/
noncomputable def innL (ps : List Snd) (n : Int) (k j : Nat) : List Int := if Via ps n (n - 1 - k) j then (n - 1 - k) :: usedK ps n k else usedK ps n k
theorem innL_zero {k : Nat} : innL ps n k 0 = usedK ps n k := by unfold innL; rw [if_neg Via.zero]
theorem innL_all {k : Nat} (hk : 0 < k) : innL ps n k ps.length = usedK ps n (k + 1) := by
  unfold innL
  rw [show usedK ps n (k + 1) = if Rch ps n (n - 1 - k) then (n - 1 - k) :: usedK ps n k else usedK ps n k from rfl]
  by_cases h : Rch ps n (n - 1 - k)
  · rw [if_pos h, if_pos ((Rch_iff.1 h).resolve_left (by omega))]
  · rw [if_neg h, if_neg (fun q => h (Rch_iff.2 (.inr q)))]
theorem innL_len {k j : Nat} : (innL ps n k j).length ≤ k + 1 := by
  have := usedK_len (ps := ps) (n := n) (k := k)
  unfold innL; split
  · simp; omega
  · omega
/-- A number put ahead of those that are not below it. -/
def putL (v : Int) (L : List Int) : List Int := if L.getD 0 0 = v then L else v :: L
def putTo (v : Int) (L : List Int) (i : Nat) : List Int := if i = 0 then [] else (if L.getD 0 0 = v then [] else [v]) ++ L.take i
theorem putTo_zero {L : List Int} : putTo v L 0 = [] := by simp [putTo]
theorem putTo_all {L : List Int} (hL : L ≠ []) : putTo v L L.length = putL v L := by
  unfold putTo putL
  rw [if_neg (by simpa using hL)]
  split <;> simp
theorem putTo_succ {L : List Int} {i : Nat} (hi : i < L.length) (h0 : 0 < i) : putTo v L (i + 1) = putTo v L i ++ [L[i]] := by
  have h1 : ¬ i + 1 = 0 := by omega
  have h2 : ¬ i = 0 := by omega
  simp only [putTo, h1, h2, if_false]
  rw [List.take_succ_eq_append_getElem hi, List.append_assoc]
theorem putTo_one {L : List Int} (hi : 0 < L.length) : putTo v L 1 = (if L[0] = v then [] else [v]) ++ [L[0]] := by
  unfold putTo
  have e : L.getD 0 0 = L[0] := by simp [hi]
  rw [if_neg (by omega), e]
  congr 1
  rw [List.take_succ_eq_append_getElem hi]; simp
theorem putTo_len {L : List Int} {i : Nat} : (putTo v L i).length ≤ i + 1 := by
  unfold putTo; split
  · simp
  · split <;> simp <;> omega
end
section
variable {S : Sys} {lim : Nat} {h : Hp} {K : CV → Hp → Prop} [HasUn S] {l : Lf} {L : List Int}
theorem c_l00Has {x : Int} (hA : Arr h l 1 (L.map il)) : CallT S true 108 [.lf l, .lf (.int .i64 x)] h lim K = K (.lf (.bool (decide (x ∈ L)))) h := by
  have hb := hA.bound
  refine CallT_pure (F := L108) (HasUn.f108) rfl (by first | rfl | (split <;> rfl) | simp) ?_; unfold L108; dsimp only []
  repeat' (first | (simp (disch := first | omega | assumption | (simp only [List.length_set]; omega) | (simp [*] <;> fail) | assumption) [-Bool.decide_and, -Bool.decide_or, -Bool.not_and, -Bool.not_or, toNat_pred, toNat_succ, wrap64, wr_new, wr_new0, ok_if, ok_ifn, iadV_sl, makeV_int, decT, decF, over_at, *]) | (with_reducible refine Gd_split (fun hc => ?_) (fun hc => ?_) <;> (have hc2 := hc; try simp at hc2)) | (with_reducible refine Br_split (fun hc => ?_) (fun hc => ?_) <;> (have hc2 := hc; try simp at hc2)) | (with_reducible refine GdT_split (fun hc => ?_) (fun hc => ?_) <;> (have hc2 := hc; try simp at hc2)) | (with_reducible refine WT_alt ?_ ?_) | omega)
  refine WL_for L.length (fun i a' h' => i ≤ L.length ∧ a' 0 = .lf l ∧ a' 1 = .lf (.int .i64 x) ∧ a' 5 = .lf (.int .i64 i) ∧ h' = h ∧ ∀ j (hj : j < L.length), j < i → L[j] ≠ x) (fun i a' h' hi => hi.1) ?_ (by simp)
  rintro i a' h' ⟨hi, e0, e1, e5, rfl, hne⟩
  by_cases hlt : i < L.length
  · by_cases hx : L[i] = x
    · have hm : x ∈ L := by rw [← hx]; exact List.getElem_mem hlt
      replace hne : Hid (∀ j (hj : j < L.length), j < i → L[j] ≠ x) := hne
      repeat' (first | (simp (disch := first | omega | assumption | (simp only [List.length_set]; omega) | (simp [*] <;> fail) | assumption) [-Bool.decide_and, -Bool.decide_or, -Bool.not_and, -Bool.not_or, toNat_pred, toNat_succ, wrap64, wr_new, wr_new0, ok_if, ok_ifn, iadV_sl, makeV_int, decT, decF, over_at, *, hA.len, hA.at_, hA.at_', hA.rd, hA.rdIn, hA.rdIn0, hA.rdA, hA.rdInA, hA.rdIn0A, hA.rd1, il]) | (with_reducible refine Gd_split (fun hc => ?_) (fun hc => ?_) <;> (have hc2 := hc; try simp at hc2)) | (with_reducible refine Br_split (fun hc => ?_) (fun hc => ?_) <;> (have hc2 := hc; try simp at hc2)) | (with_reducible refine GdT_split (fun hc => ?_) (fun hc => ?_) <;> (have hc2 := hc; try simp at hc2)) | (with_reducible refine WT_alt ?_ ?_) | omega)
    · have hne2 : ∀ j (hj : j < L.length), j < i + 1 → L[j] ≠ x := fun j hj hlt => by
        by_cases e : j = i
        · subst e; exact hx
        · exact hne j hj (by omega)
      replace hne : Hid (∀ j (hj : j < L.length), j < i → L[j] ≠ x) := hne
      replace hne2 : Hid (∀ j (hj : j < L.length), j < i + 1 → L[j] ≠ x) := hne2
      repeat' (first | (simp (disch := first | omega | assumption | (simp only [List.length_set]; omega) | (simp [*] <;> fail) | assumption) [-Bool.decide_and, -Bool.decide_or, -Bool.not_and, -Bool.not_or, toNat_pred, toNat_succ, wrap64, wr_new, wr_new0, ok_if, ok_ifn, iadV_sl, makeV_int, decT, decF, over_at, *, hA.len, hA.at_, hA.at_', hA.rd, hA.rdIn, hA.rdIn0, hA.rdA, hA.rdInA, hA.rdIn0A, hA.rd1, il]) | (with_reducible refine Gd_split (fun hc => ?_) (fun hc => ?_) <;> (have hc2 := hc; try simp at hc2)) | (with_reducible refine Br_split (fun hc => ?_) (fun hc => ?_) <;> (have hc2 := hc; try simp at hc2)) | (with_reducible refine GdT_split (fun hc => ?_) (fun hc => ?_) <;> (have hc2 := hc; try simp at hc2)) | (with_reducible refine WT_alt ?_ ?_) | omega)
      exact ⟨hlt, hne2⟩
  · have : i = L.length := by omega
    subst this
    have hm : ¬ x ∈ L := fun hm => by
      obtain ⟨j, hj, e⟩ := List.getElem_of_mem hm
      exact hne j hj hj e
    replace hne : Hid (∀ j (hj : j < L.length), j < L.length → L[j] ≠ x) := hne
    repeat' (first | (simp (disch := first | omega | assumption | (simp only [List.length_set]; omega) | (simp [*] <;> fail) | assumption) [-Bool.decide_and, -Bool.decide_or, -Bool.not_and, -Bool.not_or, toNat_pred, toNat_succ, wrap64, wr_new, wr_new0, ok_if, ok_ifn, iadV_sl, makeV_int, decT, decF, over_at, *, hA.len]) | (with_reducible refine Gd_split (fun hc => ?_) (fun hc => ?_) <;> (have hc2 := hc; try simp at hc2)) | (with_reducible refine Br_split (fun hc => ?_) (fun hc => ?_) <;> (have hc2 := hc; try simp at hc2)) | (with_reducible refine GdT_split (fun hc => ?_) (fun hc => ?_) <;> (have hc2 := hc; try simp at hc2)) | (with_reducible refine WT_alt ?_ ?_) | omega)
theorem c_l00Put {x : Int} (hA : Arr h l 1 (L.map il)) (hL : L ≠ []) (hge : ∀ y ∈ L, x ≤ y) (hn : L.length ≤ 100) (hl : lim ≤ h.length) (hK : ∀ o g, New h g o 2 1 ((putL x L).map il) → K (.lf o) g) : CallT S false 109 [.lf l, .lf (.int .i64 x)] h lim K := by
  have hpos : 0 < L.length := by cases L; exact absurd rfl hL; simp
  refine CallT_of_body (F := L109) (HasUn.f109) rfl ?_; unfold L109; dsimp only []
  repeat' (first | (simp (disch := first | omega | assumption | (simp only [List.length_set]; omega) | (simp [*] <;> fail) | assumption) [-Bool.decide_and, -Bool.decide_or, -Bool.not_and, -Bool.not_or, toNat_pred, toNat_succ, wrap64, wr_new, wr_new0, ok_if, ok_ifn, iadV_sl, makeV_int, decT, decF, over_at, *, leavesAll, fillL]) | (with_reducible refine Gd_split (fun hc => ?_) (fun hc => ?_) <;> (have hc2 := hc; try simp at hc2)) | (with_reducible refine Br_split (fun hc => ?_) (fun hc => ?_) <;> (have hc2 := hc; try simp at hc2)) | (with_reducible refine GdT_split (fun hc => ?_) (fun hc => ?_) <;> (have hc2 := hc; try simp at hc2)) | (with_reducible refine WT_alt ?_ ?_) | omega)
  refine WL_forM 4398046510816 (by decide +kernel) (L.length) (fun i b g => i ≤ L.length ∧ b 7 = .lf (.int .i64 i) ∧ b 6 = .lf (.bool (decide (0 < i))) ∧ ∃ o, b 5 = .lf o ∧ New h g o 2 1 ((putTo x L i).map il)) (fun _ _ _ hi => hi.1) ⟨by simp, by simp, by simp, .sl h.length 0 0 1, by simp, by simpa [putTo] using New.lit0⟩ ?_
  rintro i b g ⟨hi, e7, e6, o, e5, hN⟩
  have hA1 := hA.kept hN.kept
  have hlo := putTo_len (v := x) (L := L) (i := i)
  by_cases hlt : i < L.length
  · by_cases h0 : i = 0
    · subst h0
      have s1 := putTo_one (v := x) hpos
      have hx0 := hge _ (List.getElem_mem hpos)
      by_cases he : L[0] = x
      · rw [if_pos he] at s1
        clear hK
        repeat' (first | (simp (disch := first | omega | assumption | (simp only [List.length_set]; omega) | (simp [*] <;> fail) | assumption) [-Bool.decide_and, -Bool.decide_or, -Bool.not_and, -Bool.not_or, toNat_pred, toNat_succ, wrap64, wr_new, wr_new0, ok_if, ok_ifn, iadV_sl, makeV_int, decT, decF, over_at, *, hA1.len, hA1.at0, hA1.rd0, hA1.rd0j, hA1.rd0A, hA1.rd0jA, il, leavesAll, fillL]) | (with_reducible refine Gd_split (fun hc => ?_) (fun hc => ?_) <;> (have hc2 := hc; try simp at hc2)) | (with_reducible refine Br_split (fun hc => ?_) (fun hc => ?_) <;> (have hc2 := hc; try simp at hc2)) | (with_reducible refine GdT_split (fun hc => ?_) (fun hc => ?_) <;> (have hc2 := hc; try simp at hc2)) | (with_reducible refine WT_alt ?_ ?_) | omega)
        refine oc_push hN hl (by simp; omega) fun p g1 hP hC => ?_
        have hP' : New h g1 p 2 1 ((putTo x L 1).map il) := by rw [s1]; simpa [putTo, il, he] using hP
        clear s1 hP hC
        repeat' (first | (simp (disch := first | omega | assumption | (simp only [List.length_set]; omega) | (simp [*] <;> fail) | assumption) [-Bool.decide_and, -Bool.decide_or, -Bool.not_and, -Bool.not_or, toNat_pred, toNat_succ, wrap64, wr_new, wr_new0, ok_if, ok_ifn, iadV_sl, makeV_int, decT, decF, over_at, *]) | (with_reducible refine Gd_split (fun hc => ?_) (fun hc => ?_) <;> (have hc2 := hc; try simp at hc2)) | (with_reducible refine Br_split (fun hc => ?_) (fun hc => ?_) <;> (have hc2 := hc; try simp at hc2)) | (with_reducible refine GdT_split (fun hc => ?_) (fun hc => ?_) <;> (have hc2 := hc; try simp at hc2)) | (with_reducible refine WT_alt ?_ ?_) | omega)
        all_goals ((repeat' apply And.intro) <;> first | omega | assumption)
      · rw [if_neg he] at s1
        have hgt : x < L[0] := by omega
        clear hK
        repeat' (first | (simp (disch := first | omega | assumption | (simp only [List.length_set]; omega) | (simp [*] <;> fail) | assumption) [-Bool.decide_and, -Bool.decide_or, -Bool.not_and, -Bool.not_or, toNat_pred, toNat_succ, wrap64, wr_new, wr_new0, ok_if, ok_ifn, iadV_sl, makeV_int, decT, decF, over_at, *, hA1.len, hA1.at0, hA1.rd0, hA1.rd0j, hA1.rd0A, hA1.rd0jA, il, leavesAll, fillL]) | (with_reducible refine Gd_split (fun hc => ?_) (fun hc => ?_) <;> (have hc2 := hc; try simp at hc2)) | (with_reducible refine Br_split (fun hc => ?_) (fun hc => ?_) <;> (have hc2 := hc; try simp at hc2)) | (with_reducible refine GdT_split (fun hc => ?_) (fun hc => ?_) <;> (have hc2 := hc; try simp at hc2)) | (with_reducible refine WT_alt ?_ ?_) | omega)
        refine oc_push hN hl (by simp; omega) fun p g1 hP hC => ?_
        have hA2 := hA.kept hP.kept
        repeat' (first | (simp (disch := first | omega | assumption | (simp only [List.length_set]; omega) | (simp [*] <;> fail) | assumption) [-Bool.decide_and, -Bool.decide_or, -Bool.not_and, -Bool.not_or, toNat_pred, toNat_succ, wrap64, wr_new, wr_new0, ok_if, ok_ifn, iadV_sl, makeV_int, decT, decF, over_at, *, hA2.len, hA2.at0, hA2.rd0, hA2.rd0j, hA2.rd0A, hA2.rd0jA, il, leavesAll, fillL]) | (with_reducible refine Gd_split (fun hc => ?_) (fun hc => ?_) <;> (have hc2 := hc; try simp at hc2)) | (with_reducible refine Br_split (fun hc => ?_) (fun hc => ?_) <;> (have hc2 := hc; try simp at hc2)) | (with_reducible refine GdT_split (fun hc => ?_) (fun hc => ?_) <;> (have hc2 := hc; try simp at hc2)) | (with_reducible refine WT_alt ?_ ?_) | omega)
        refine oc_push hP hl (by simp; omega) fun p2 g2 hP2 hC2 => ?_
        have hP' : New h g2 p2 2 1 ((putTo x L 1).map il) := by rw [s1]; simpa [putTo, il] using hP2
        clear s1 hP hC hP2 hC2
        repeat' (first | (simp (disch := first | omega | assumption | (simp only [List.length_set]; omega) | (simp [*] <;> fail) | assumption) [-Bool.decide_and, -Bool.decide_or, -Bool.not_and, -Bool.not_or, toNat_pred, toNat_succ, wrap64, wr_new, wr_new0, ok_if, ok_ifn, iadV_sl, makeV_int, decT, decF, over_at, *]) | (with_reducible refine Gd_split (fun hc => ?_) (fun hc => ?_) <;> (have hc2 := hc; try simp at hc2)) | (with_reducible refine Br_split (fun hc => ?_) (fun hc => ?_) <;> (have hc2 := hc; try simp at hc2)) | (with_reducible refine GdT_split (fun hc => ?_) (fun hc => ?_) <;> (have hc2 := hc; try simp at hc2)) | (with_reducible refine WT_alt ?_ ?_) | omega)
        all_goals ((repeat' apply And.intro) <;> first | omega | assumption)
    · have hpi : 0 < i := by omega
      have s1 := putTo_succ (v := x) hlt hpi
      clear hK
      repeat' (first | (simp (disch := first | omega | assumption | (simp only [List.length_set]; omega) | (simp [*] <;> fail) | assumption) [-Bool.decide_and, -Bool.decide_or, -Bool.not_and, -Bool.not_or, toNat_pred, toNat_succ, wrap64, wr_new, wr_new0, ok_if, ok_ifn, iadV_sl, makeV_int, decT, decF, over_at, *, hA1.len, hA1.at_, hA1.at_', hA1.rd, hA1.rdIn, hA1.rdIn0, hA1.rdA, hA1.rdInA, hA1.rdIn0A, hA1.rd1, il, leavesAll, fillL]) | (with_reducible refine Gd_split (fun hc => ?_) (fun hc => ?_) <;> (have hc2 := hc; try simp at hc2)) | (with_reducible refine Br_split (fun hc => ?_) (fun hc => ?_) <;> (have hc2 := hc; try simp at hc2)) | (with_reducible refine GdT_split (fun hc => ?_) (fun hc => ?_) <;> (have hc2 := hc; try simp at hc2)) | (with_reducible refine WT_alt ?_ ?_) | omega)
      refine oc_push hN hl (by simp; omega) fun p g1 hP hC => ?_
      have hP' : New h g1 p 2 1 ((putTo x L (i + 1)).map il) := by rw [s1]; simpa [il] using hP
      clear s1 hP hC
      repeat' (first | (simp (disch := first | omega | assumption | (simp only [List.length_set]; omega) | (simp [*] <;> fail) | assumption) [-Bool.decide_and, -Bool.decide_or, -Bool.not_and, -Bool.not_or, toNat_pred, toNat_succ, wrap64, wr_new, wr_new0, ok_if, ok_ifn, iadV_sl, makeV_int, decT, decF, over_at, *]) | (with_reducible refine Gd_split (fun hc => ?_) (fun hc => ?_) <;> (have hc2 := hc; try simp at hc2)) | (with_reducible refine Br_split (fun hc => ?_) (fun hc => ?_) <;> (have hc2 := hc; try simp at hc2)) | (with_reducible refine GdT_split (fun hc => ?_) (fun hc => ?_) <;> (have hc2 := hc; try simp at hc2)) | (with_reducible refine WT_alt ?_ ?_) | omega)
      all_goals ((repeat' apply And.intro) <;> first | omega | assumption)
  · have : i = L.length := by omega
    subst this
    rw [putTo_all hL] at hN
    repeat' (first | (simp (disch := first | omega | assumption | (simp only [List.length_set]; omega) | (simp [*] <;> fail) | assumption) [-Bool.decide_and, -Bool.decide_or, -Bool.not_and, -Bool.not_or, toNat_pred, toNat_succ, wrap64, wr_new, wr_new0, ok_if, ok_ifn, iadV_sl, makeV_int, decT, decF, over_at, *, hA1.len]) | (with_reducible refine Gd_split (fun hc => ?_) (fun hc => ?_) <;> (have hc2 := hc; try simp at hc2)) | (with_reducible refine Br_split (fun hc => ?_) (fun hc => ?_) <;> (have hc2 := hc; try simp at hc2)) | (with_reducible refine GdT_split (fun hc => ?_) (fun hc => ?_) <;> (have hc2 := hc; try simp at hc2)) | (with_reducible refine WT_alt ?_ ?_) | omega)
    all_goals ((repeat' apply And.intro) <;> first | omega | assumption | exact hK _ _ hN)
theorem putL_inn {ps : List Snd} {n : Int} {k j : Nat} (hk : 0 < k) : putL (n - 1 - k) (innL ps n k j) = (n - 1 - k) :: usedK ps n k := by
  unfold innL
  split
  · unfold putL; simp
  · unfold putL
    have hne := usedK_pos (ps := ps) (n := n) hk
    have : (usedK ps n k).getD 0 0 ≠ n - 1 - k := by
      cases hu : usedK ps n k with
      | nil => exact absurd hu hne
      | cons y r =>
        have : y ∈ usedK ps n k := by rw [hu]; simp
        have := mem_usedK.1 this
        simp only [List.getD_cons_zero]
        omega
    rw [if_neg this]
theorem innL_ge {ps : List Snd} {n : Int} {k j : Nat} : ∀ y ∈ innL ps n k j, n - 1 - k ≤ y := by
  intro y hy
  unfold innL at hy
  split at hy
  · rcases List.mem_cons.1 hy with e | e
    · omega
    · have := mem_usedK.1 e; omega
  · have := mem_usedK.1 hy; omega
theorem innL_ne {ps : List Snd} {n : Int} {k j : Nat} (hk : 0 < k) : innL ps n k j ≠ [] := by
  unfold innL
  split
  · simp
  · exact usedK_pos hk
theorem innL_mem {ps : List Snd} {n x : Int} {k j : Nat} (h1 : n - 1 - k < x) (h2 : x ≤ n - 1) : x ∈ innL ps n k j ↔ Rch ps n x := by
  unfold innL
  split
  · rw [List.mem_cons, mem_usedK]
    constructor
    · rintro (h | h)
      · omega
      · exact h.2.2
    · intro h; exact .inr ⟨by omega, h2, h⟩
  · rw [mem_usedK]
    exact ⟨fun h => h.2.2, fun h => ⟨by omega, h2, h⟩⟩
theorem innL_succ {ps : List Snd} {n : Int} {k j : Nat} (hj : j < ps.length) : innL ps n k (j + 1) = if ps[j].frm = n - 1 - k ∧ Rch ps n ps[j].to_ then (n - 1 - k) :: usedK ps n k else innL ps n k j := by
  unfold innL
  by_cases h : ps[j].frm = n - 1 - k ∧ Rch ps n ps[j].to_
  · rw [if_pos h, if_pos ((Via.succ hj).2 (.inr h))]
  · rw [if_neg h]
    by_cases h2 : Via ps n (n - 1 - k) j
    · rw [if_pos h2, if_pos ((Via.succ hj).2 (.inl h2))]
    · rw [if_neg h2, if_neg (fun q => ((Via.succ hj).1 q).elim h2 h)]
theorem New.one {ty : Nat} {x : Int} : New h (h ++ [⟨[.int .i64 x], .own ty 1⟩]) (.sl h.length 0 1 1) ty 1 ([x].map il) := by
  have := New.of_sl (Kept.app h _) (Sl.make (h := h) (ty := ty) (sz := 1) (n := 1) (z := il x) rfl) (Nat.le_refl _) (by simp)
  simpa [il] using this
theorem c_specUsedNodes {ps : List Snd} {n : Int} (hA : Arr h l 3 (ps.map Snd.cells)) (hl : lim ≤ h.length) (hT : areSends n ps → ∀ o g, New h g o 2 1 ((usedK ps n n.toNat).map il) → K (.tup [.lf o, .lf (.bool true)]) g) (hF : ¬ areSends n ps → K (.tup [.lf .nils, .lf (.bool false)]) h) :
    CallT S false 45 [.lf (.int .i64 n), .lf l] h lim K := by
  have hb := hA.bound
  by_cases hk : areSends n ps
  · have hT2 := hT hk
    clear hT hF
    have hkd := hk
    obtain ⟨⟨k1, k2⟩, k3, k4⟩ := hk
    obtain ⟨m, rfl⟩ := Int.eq_ofNat_of_zero_le (show 0 ≤ n by omega)
    simp only [Int.toNat_natCast] at hT2
    replace k4 : Hid (sendsUpto m ps ps.length) := k4
    refine CallT_of_body (F := L45) (HasUn.f45) rfl ?_; unfold L45; dsimp only []
    repeat' (first | (simp (disch := first | omega | assumption | (simp only [List.length_set]; omega) | (simp [*] <;> fail) | assumption) [-Bool.decide_and, -Bool.decide_or, -Bool.not_and, -Bool.not_or, toNat_pred, toNat_succ, wrap64, wr_new, wr_new0, ok_if, ok_ifn, iadV_sl, makeV_int, decT, decF, over_at, *, c_l07Sends hA, leavesAll, fillL]) | (with_reducible refine Gd_split (fun hc => ?_) (fun hc => ?_) <;> (have hc2 := hc; try simp at hc2)) | (with_reducible refine Br_split (fun hc => ?_) (fun hc => ?_) <;> (have hc2 := hc; try simp at hc2)) | (with_reducible refine GdT_split (fun hc => ?_) (fun hc => ?_) <;> (have hc2 := hc; try simp at hc2)) | (with_reducible refine WT_alt ?_ ?_) | omega)
    have h1 : usedK ps m 1 = [(m : Int) - 1] := by
      unfold usedK
      rw [if_pos (by have : (m : Int) - 1 - ((0 : Nat) : Int) = m - 1 := by omega
                     rw [this]; exact .last)]
      simp [usedK]
    refine WL_forM 140737488093632 (by decide +kernel) (m) (fun i b g => i + 1 ≤ m ∧ b 7 = .lf (.int .i64 (m - 2 - i)) ∧ ∃ o, b 6 = .lf o ∧ New h g o 2 1 ((usedK ps m (i + 1)).map il)) (fun _ _ _ hi => by omega) ?_ ?_
    · refine ⟨by omega, by simp, .sl h.length 0 1 1, by simp, ?_⟩
      rw [h1]
      exact New.one
    rintro i b g ⟨hi, e7, o, e6, hN⟩
    by_cases hlt : i + 1 < m
    · have hA1 := hA.kept hN.kept
      clear hT2
      repeat' (first | (simp (disch := first | omega | assumption | (simp only [List.length_set]; omega) | (simp [*] <;> fail) | assumption) [-Bool.decide_and, -Bool.decide_or, -Bool.not_and, -Bool.not_or, toNat_pred, toNat_succ, wrap64, wr_new, wr_new0, ok_if, ok_ifn, iadV_sl, makeV_int, decT, decF, over_at, *, hA1.len, hA1.at_, hA1.at_', hA1.rd, hA1.rdIn, hA1.rdIn0, hA1.rdA, hA1.rdInA, hA1.rdIn0A]) | (with_reducible refine Gd_split (fun hc => ?_) (fun hc => ?_) <;> (have hc2 := hc; try simp at hc2)) | (with_reducible refine Br_split (fun hc => ?_) (fun hc => ?_) <;> (have hc2 := hc; try simp at hc2)) | (with_reducible refine GdT_split (fun hc => ?_) (fun hc => ?_) <;> (have hc2 := hc; try simp at hc2)) | (with_reducible refine WT_alt ?_ ?_) | omega)
      refine WL_forM 140737471578432 (by decide +kernel) (ps.length) (fun j b g => j ≤ ps.length ∧ b 24 = .lf (.int .i64 j) ∧ ∃ o, b 6 = .lf o ∧ New h g o 2 1 ((innL ps m (i + 1) j).map il)) (fun _ _ _ hi => hi.1) ⟨by simp, by simp, o, by simp [over_at, e6], by rw [innL_zero]; exact hN⟩ ?_
      rintro j b2 g2 ⟨hj, e24, o2, e62, hN2⟩
      have hA2 := hA.kept hN2.kept
      have hv : (m : Int) - 1 - ((i + 1 : Nat) : Int) = m - 2 - i := by omega
      by_cases hlt2 : j < ps.length
      · have hok : sendOk m ps[j] := k4 j hlt2 hlt2
        unfold sendOk at hok
        have s1 := innL_succ (ps := ps) (n := m) (k := i + 1) hlt2
        have hll := innL_len (ps := ps) (n := m) (k := i + 1) (j := j)
        rw [hv] at s1
        by_cases hc : ps[j].frm = m - 2 - i
        · have hh := fun K lim => c_l00Has (S := S) (K := K) (lim := lim) (x := ps[j].to_) hN2.arr
          have hme : decide (ps[j].to_ ∈ innL ps m (i + 1) j) = decide (Rch ps m ps[j].to_) := by congr 1; exact propext (innL_mem (by omega) (by omega))
          rw [hme] at hh
          by_cases hr : Rch ps m ps[j].to_
          · rw [if_pos ⟨hc, hr⟩] at s1
            rw [decide_eq_true hr] at hh
            clear hme hkd
            repeat' (first | (simp (disch := first | omega | assumption | (simp only [List.length_set]; omega) | (simp [*] <;> fail) | assumption) [-Bool.decide_and, -Bool.decide_or, -Bool.not_and, -Bool.not_or, toNat_pred, toNat_succ, wrap64, wr_new, wr_new0, ok_if, ok_ifn, iadV_sl, makeV_int, decT, decF, over_at, *, hA2.len, hA2.at_, hA2.at_', hA2.rd, hA2.rdIn, hA2.rdIn0, hA2.rdA, hA2.rdInA, hA2.rdIn0A, Snd.cells]) | (with_reducible refine Gd_split (fun hc => ?_) (fun hc => ?_) <;> (have hc2 := hc; try simp at hc2)) | (with_reducible refine Br_split (fun hc => ?_) (fun hc => ?_) <;> (have hc2 := hc; try simp at hc2)) | (with_reducible refine GdT_split (fun hc => ?_) (fun hc => ?_) <;> (have hc2 := hc; try simp at hc2)) | (with_reducible refine WT_alt ?_ ?_) | omega)
            refine c_l00Put hN2.arr (innL_ne (by omega)) (by rw [← hv]; exact innL_ge) (by omega) (by have := hN2.kept.1; omega) fun p g3 hP => ?_
            rw [← hv, putL_inn (by omega), hv, ← s1] at hP
            have hP2 := hP.base hN2.kept
            clear s1 hP hh
            repeat' (first | (simp (disch := first | omega | assumption | (simp only [List.length_set]; omega) | (simp [*] <;> fail) | assumption) [-Bool.decide_and, -Bool.decide_or, -Bool.not_and, -Bool.not_or, toNat_pred, toNat_succ, wrap64, wr_new, wr_new0, ok_if, ok_ifn, iadV_sl, makeV_int, decT, decF, over_at, *]) | (with_reducible refine Gd_split (fun hc => ?_) (fun hc => ?_) <;> (have hc2 := hc; try simp at hc2)) | (with_reducible refine Br_split (fun hc => ?_) (fun hc => ?_) <;> (have hc2 := hc; try simp at hc2)) | (with_reducible refine GdT_split (fun hc => ?_) (fun hc => ?_) <;> (have hc2 := hc; try simp at hc2)) | (with_reducible refine WT_alt ?_ ?_) | omega)
            all_goals ((repeat' apply And.intro) <;> first | omega | assumption)
          · rw [if_neg (fun q => hr q.2)] at s1
            rw [decide_eq_false hr] at hh
            rw [← s1] at hN2
            clear hme hkd s1
            repeat' (first | (simp (disch := first | omega | assumption | (simp only [List.length_set]; omega) | (simp [*] <;> fail) | assumption) [-Bool.decide_and, -Bool.decide_or, -Bool.not_and, -Bool.not_or, toNat_pred, toNat_succ, wrap64, wr_new, wr_new0, ok_if, ok_ifn, iadV_sl, makeV_int, decT, decF, over_at, *, hA2.len, hA2.at_, hA2.at_', hA2.rd, hA2.rdIn, hA2.rdIn0, hA2.rdA, hA2.rdInA, hA2.rdIn0A, Snd.cells]) | (with_reducible refine Gd_split (fun hc => ?_) (fun hc => ?_) <;> (have hc2 := hc; try simp at hc2)) | (with_reducible refine Br_split (fun hc => ?_) (fun hc => ?_) <;> (have hc2 := hc; try simp at hc2)) | (with_reducible refine GdT_split (fun hc => ?_) (fun hc => ?_) <;> (have hc2 := hc; try simp at hc2)) | (with_reducible refine WT_alt ?_ ?_) | omega)
            all_goals ((repeat' apply And.intro) <;> first | omega | assumption)
        · rw [if_neg (fun q => hc q.1)] at s1
          rw [← s1] at hN2
          clear s1 hkd
          repeat' (first | (simp (disch := first | omega | assumption | (simp only [List.length_set]; omega) | (simp [*] <;> fail) | assumption) [-Bool.decide_and, -Bool.decide_or, -Bool.not_and, -Bool.not_or, toNat_pred, toNat_succ, wrap64, wr_new, wr_new0, ok_if, ok_ifn, iadV_sl, makeV_int, decT, decF, over_at, *, hA2.len, hA2.at_, hA2.at_', hA2.rd, hA2.rdIn, hA2.rdIn0, hA2.rdA, hA2.rdInA, hA2.rdIn0A, Snd.cells]) | (with_reducible refine Gd_split (fun hc => ?_) (fun hc => ?_) <;> (have hc2 := hc; try simp at hc2)) | (with_reducible refine Br_split (fun hc => ?_) (fun hc => ?_) <;> (have hc2 := hc; try simp at hc2)) | (with_reducible refine GdT_split (fun hc => ?_) (fun hc => ?_) <;> (have hc2 := hc; try simp at hc2)) | (with_reducible refine WT_alt ?_ ?_) | omega)
          all_goals ((repeat' apply And.intro) <;> first | omega | assumption)
      · have : j = ps.length := by omega
        subst this
        rw [innL_all (by omega)] at hN2
        clear hkd
        repeat' (first | (simp (disch := first | omega | assumption | (simp only [List.length_set]; omega) | (simp [*] <;> fail) | assumption) [-Bool.decide_and, -Bool.decide_or, -Bool.not_and, -Bool.not_or, toNat_pred, toNat_succ, wrap64, wr_new, wr_new0, ok_if, ok_ifn, iadV_sl, makeV_int, decT, decF, over_at, *]) | (with_reducible refine Gd_split (fun hc => ?_) (fun hc => ?_) <;> (have hc2 := hc; try simp at hc2)) | (with_reducible refine Br_split (fun hc => ?_) (fun hc => ?_) <;> (have hc2 := hc; try simp at hc2)) | (with_reducible refine GdT_split (fun hc => ?_) (fun hc => ?_) <;> (have hc2 := hc; try simp at hc2)) | (with_reducible refine WT_alt ?_ ?_) | omega)
        all_goals ((repeat' apply And.intro) <;> first | omega | assumption)
    · have : i + 1 = m := by omega
      subst this
      repeat' (first | (simp (disch := first | omega | assumption | (simp only [List.length_set]; omega) | (simp [*] <;> fail) | assumption) [-Bool.decide_and, -Bool.decide_or, -Bool.not_and, -Bool.not_or, toNat_pred, toNat_succ, wrap64, wr_new, wr_new0, ok_if, ok_ifn, iadV_sl, makeV_int, decT, decF, over_at, *]) | (with_reducible refine Gd_split (fun hc => ?_) (fun hc => ?_) <;> (have hc2 := hc; try simp at hc2)) | (with_reducible refine Br_split (fun hc => ?_) (fun hc => ?_) <;> (have hc2 := hc; try simp at hc2)) | (with_reducible refine GdT_split (fun hc => ?_) (fun hc => ?_) <;> (have hc2 := hc; try simp at hc2)) | (with_reducible refine WT_alt ?_ ?_) | omega)
  · have hF2 := hF hk
    clear hT hF
    refine CallT_of_body (F := L45) (HasUn.f45) rfl ?_; unfold L45; dsimp only []
    repeat' (first | (simp (disch := first | omega | assumption | (simp only [List.length_set]; omega) | (simp [*] <;> fail) | assumption) [-Bool.decide_and, -Bool.decide_or, -Bool.not_and, -Bool.not_or, toNat_pred, toNat_succ, wrap64, wr_new, wr_new0, ok_if, ok_ifn, iadV_sl, makeV_int, decT, decF, over_at, *, c_l07Sends hA]) | (with_reducible refine Gd_split (fun hc => ?_) (fun hc => ?_) <;> (have hc2 := hc; try simp at hc2)) | (with_reducible refine Br_split (fun hc => ?_) (fun hc => ?_) <;> (have hc2 := hc; try simp at hc2)) | (with_reducible refine GdT_split (fun hc => ?_) (fun hc => ?_) <;> (have hc2 := hc; try simp at hc2)) | (with_reducible refine WT_alt ?_ ?_) | omega)
def bl (b : Bool) : List Lf := [.bool b]
theorem bl_set {bs : List Bool} {i : Nat} {c : Bool} : (bs.map bl).set i [.bool c] = (bs.set i c).map bl := by rw [List.map_set]; rfl
/-- The node x is known to have a way: by a send to a node above w, or by one of the first j sends to w. -/
def Mk (ps : List Snd) (n : Int) (w : Int) (j : Nat) (x : Nat) : Prop := (x : Int) = n - 1 ∨ (∃ (i : Nat) (hi : i < ps.length), ps[i].frm = x ∧ w < ps[i].to_ ∧ Rch ps n ps[i].to_) ∨ (∃ (i : Nat) (hi : i < ps.length), i < j ∧ ps[i].frm = x ∧ ps[i].to_ = w ∧ Rch ps n ps[i].to_)
noncomputable def mkN (ps : List Snd) (n w : Int) (j x : Nat) : Bool := @decide (Mk ps n w j x) (Classical.propDecidable _)
theorem mkN_iff {ps : List Snd} {n w : Int} {j x : Nat} : mkN ps n w j x = true ↔ Mk ps n w j x := by unfold mkN; exact @decide_eq_true_iff _ (Classical.propDecidable _)
theorem tab_congr {f g : Nat → Bool} {n : Nat} (h : ∀ x, x < n → f x = g x) : tabTo f n = tabTo g n := by
  unfold tabTo
  exact List.map_congr_left fun x hx => h x (List.mem_range.1 hx)
theorem tab_set {f g : Nat → Bool} {n a : Nat} (ha : g a = true) (h : ∀ x, x < n → x ≠ a → f x = g x) : (tabTo f n).set a true = tabTo g n := by
  apply List.ext_getElem
  · simp [tabTo]
  · intro x h1 h2
    simp only [tabTo, List.length_set, List.length_map, List.length_range] at h1
    rw [List.getElem_set]
    simp only [tabTo, List.getElem_map, List.getElem_range]
    split
    · rename_i e; rw [← e, ha]
    · rename_i e; exact h x h1 (fun q => e q.symm)
theorem bool_iff {a b : Bool} (h : a = true ↔ b = true) : a = b := by cases a <;> cases b <;> simp_all
section
variable {ps : List Snd} {n w : Int} {j x : Nat}
theorem mkN_next {m : Nat} (hw : 0 ≤ w) : tabTo (mkN ps n w ps.length) m = tabTo (mkN ps n (w - 1) 0) m := by
  apply tab_congr
  intro x _
  apply bool_iff
  rw [mkN_iff, mkN_iff]
  unfold Mk
  constructor
  · rintro (h | ⟨i, hi, h1, h2, h3⟩ | ⟨i, hi, _, h1, h2, h3⟩)
    · exact .inl h
    · exact .inr (.inl ⟨i, hi, h1, by omega, h3⟩)
    · exact .inr (.inl ⟨i, hi, h1, by omega, h3⟩)
  · rintro (h | ⟨i, hi, h1, h2, h3⟩ | ⟨i, hi, h0, _⟩)
    · exact .inl h
    · by_cases e : ps[i].to_ = w
      · exact .inr (.inr ⟨i, hi, hi, h1, e, h3⟩)
      · exact .inr (.inl ⟨i, hi, h1, by omega, h3⟩)
    · omega
theorem mkN_at (hok : sendsUpto n ps ps.length) {a : Nat} (ha : (a : Int) = w) : mkN ps n w j a = true ↔ Rch ps n w := by
  rw [mkN_iff, Rch_iff]
  unfold Mk Via
  rw [ha]
  constructor
  · rintro (h | ⟨i, hi, h1, h2, h3⟩ | ⟨i, hi, _, h1, h2, h3⟩)
    · exact .inl h
    · exact .inr ⟨i, hi, hi, h1, h3⟩
    · exact .inr ⟨i, hi, hi, h1, h3⟩
  · rintro (h | ⟨i, hi, _, h1, h3⟩)
    · exact .inl h
    · have := hok i hi hi
      unfold sendOk at this
      exact .inr (.inl ⟨i, hi, h1, by omega, h3⟩)
theorem mkN_skip (hj : j < ps.length) (h : ¬ (ps[j].to_ = w ∧ Rch ps n w)) {m : Nat} : tabTo (mkN ps n w j) m = tabTo (mkN ps n w (j + 1)) m := by
  apply tab_congr
  intro x _
  apply bool_iff
  rw [mkN_iff, mkN_iff]
  unfold Mk
  constructor
  · rintro (q | q | ⟨i, hi, h0, h1, h2, h3⟩)
    · exact .inl q
    · exact .inr (.inl q)
    · exact .inr (.inr ⟨i, hi, by omega, h1, h2, h3⟩)
  · rintro (q | q | ⟨i, hi, h0, h1, h2, h3⟩)
    · exact .inl q
    · exact .inr (.inl q)
    · by_cases e : i = j
      · subst e; rw [h2] at h3; exact absurd ⟨h2, h3⟩ h
      · exact .inr (.inr ⟨i, hi, by omega, h1, h2, h3⟩)
theorem mkN_put (hj : j < ps.length) (h : ps[j].to_ = w ∧ Rch ps n w) {m a : Nat} (ha : (a : Int) = ps[j].frm) : (tabTo (mkN ps n w j) m).set a true = tabTo (mkN ps n w (j + 1)) m := by
  apply tab_set
  · rw [mkN_iff]
    exact .inr (.inr ⟨j, hj, by omega, ha.symm, h.1, by rw [h.1]; exact h.2⟩)
  · intro x _ hx
    apply bool_iff
    rw [mkN_iff, mkN_iff]
    unfold Mk
    constructor
    · rintro (q | q | ⟨i, hi, h0, h1, h2, h3⟩)
      · exact .inl q
      · exact .inr (.inl q)
      · exact .inr (.inr ⟨i, hi, by omega, h1, h2, h3⟩)
    · rintro (q | q | ⟨i, hi, h0, h1, h2, h3⟩)
      · exact .inl q
      · exact .inr (.inl q)
      · by_cases e : i = j
        · subst e; exact absurd (by omega) hx
        · exact .inr (.inr ⟨i, hi, by omega, h1, h2, h3⟩)
theorem mkN_end (hok : sendsUpto n ps ps.length) {x : Nat} : mkN ps n (-1) 0 x = decide (Rch ps n x) := by
  apply bool_iff
  rw [mkN_iff, decide_eq_true_eq, Rch_iff]
  unfold Mk Via
  constructor
  · rintro (h | ⟨i, hi, h1, h2, h3⟩ | ⟨i, hi, h0, _⟩)
    · exact .inl h
    · exact .inr ⟨i, hi, hi, h1, h3⟩
    · omega
  · rintro (h | ⟨i, hi, _, h1, h3⟩)
    · exact .inl h
    · have := hok i hi hi
      unfold sendOk at this
      exact .inr (.inl ⟨i, hi, h1, by omega, h3⟩)
theorem mkN_begin (hok : sendsUpto n ps ps.length) {m q : Nat} (hm : n = m) (hq : (m : Int) - 1 = q) : (List.replicate m false).set q true = tabTo (mkN ps n q 0) m := by
  have e : List.replicate m false = tabTo (fun _ => false) m := by
    unfold tabTo
    apply List.ext_getElem
    · simp
    · intro i h1 h2; simp
  rw [e]
  apply tab_set
  · rw [mkN_iff]; exact .inl (by omega)
  · intro x hx hne
    apply bool_iff
    rw [mkN_iff]
    unfold Mk
    constructor
    · intro h; cases h
    · rintro (h | ⟨i, hi, h1, h2, h3⟩ | ⟨i, hi, h0, _⟩)
      · omega
      · have := hok i hi hi
        unfold sendOk at this
        omega
      · omega
/-- The first i nodes from where there is a way. -/
noncomputable def upTo (ps : List Snd) (n : Int) (i : Nat) : List Int := ((List.range i).map fun x : Nat => (x : Int)).filter fun x => decide (Rch ps n x)
theorem upTo_succ {i : Nat} : upTo ps n (i + 1) = upTo ps n i ++ (if Rch ps n i then [(i : Int)] else []) := by
  unfold upTo
  rw [List.range_succ, List.map_append, List.filter_append]
  congr 1
  simp only [List.map_cons, List.map_nil, List.filter_cons, List.filter_nil, decide_eq_true_eq]
theorem upTo_len {i : Nat} : (upTo ps n i).length ≤ i := by
  unfold upTo
  exact Nat.le_trans (List.length_filter_le _ _) (by simp)
theorem usedK_range : ∀ {k : Nat}, usedK ps n k = ((List.range k).map fun x : Nat => n - k + (x : Int)).filter fun x => decide (Rch ps n x)
  | 0 => by simp [usedK]
  | k + 1 => by
    have ih := usedK_range (k := k)
    rw [List.range_succ_eq_map, List.map_cons, List.filter_cons, List.map_map]
    have e1 : n - ((k + 1 : Nat) : Int) + ((0 : Nat) : Int) = n - 1 - k := by omega
    have e2 : ((fun x : Nat => n - ((k + 1 : Nat) : Int) + (x : Int)) ∘ Nat.succ) = fun x : Nat => n - k + (x : Int) := by
      funext x; simp only [Function.comp]; omega
    rw [e1, e2, ← ih]
    rw [show usedK ps n (k + 1) = if Rch ps n (n - 1 - k) then (n - 1 - k) :: usedK ps n k else usedK ps n k from rfl]
    by_cases h : Rch ps n (n - 1 - k)
    · rw [if_pos h, if_pos (decide_eq_true h)]
    · rw [if_neg h, if_neg (by simpa using h)]
theorem upTo_all {m : Nat} : upTo ps (m : Int) m = usedK ps m m := by
  rw [usedK_range]
  unfold upTo
  congr 1
  apply List.map_congr_left
  intro x _
  omega
end
theorem c_implUsedNodes {ps : List Snd} {n : Int} (hA : Arr h l 3 (ps.map Snd.cells)) (hl : lim ≤ h.length) (hT : areSends n ps → ∀ o g, New h g o 2 1 ((usedK ps n n.toNat).map il) → K (.tup [.lf o, .lf (.bool true)]) g) (hF : ¬ areSends n ps → K (.tup [.lf .nils, .lf (.bool false)]) h) :
    CallT S false 47 [.lf (.int .i64 n), .lf l] h lim K := by
  have hb := hA.bound
  by_cases hk : areSends n ps
  · have hT2 := hT hk
    clear hT hF
    have hkd := hk
    obtain ⟨⟨k1, k2⟩, k3, k4⟩ := hk
    obtain ⟨m, rfl⟩ := Int.eq_ofNat_of_zero_le (show 0 ≤ n by omega)
    simp only [Int.toNat_natCast] at hT2
    obtain ⟨q, hq0⟩ : ∃ q, m = q + 1 := ⟨m - 1, by omega⟩
    have hq1 : (m : Int) - 1 = q := by omega
    have hql : q < m := by omega
    replace hq0 : Hid (m = q + 1) := hq0
    replace k4 : Hid (sendsUpto (m : Int) ps ps.length) := k4
    refine CallT_of_body (F := L47) (HasUn.f47) rfl ?_; unfold L47; dsimp only []
    repeat' (first | (simp (disch := first | omega | assumption | (simp only [List.length_set]; omega) | (simp [*] <;> fail) | assumption) [-Bool.decide_and, -Bool.decide_or, -Bool.not_and, -Bool.not_or, toNat_pred, toNat_succ, wrap64, wr_new, wr_new0, ok_if, ok_ifn, iadV_sl, makeV_int, decT, decF, over_at, *, c_implAreSends hA, leavesAll, fillL]) | (with_reducible refine Gd_split (fun hc => ?_) (fun hc => ?_) <;> (have hc2 := hc; try simp at hc2)) | (with_reducible refine Br_split (fun hc => ?_) (fun hc => ?_) <;> (have hc2 := hc; try simp at hc2)) | (with_reducible refine GdT_split (fun hc => ?_) (fun hc => ?_) <;> (have hc2 := hc; try simp at hc2)) | (with_reducible refine WT_alt ?_ ?_) | omega)
    have hN0 : New h (h ++ [⟨splice (List.replicate m (Lf.bool false)) q [Lf.bool true], .own 4 1⟩]) (.sl h.length 0 m 1) 4 1 ((tabTo (mkN ps m q 0) m).map bl) := by
      rw [splice_one (by simpa using hql), ← mkN_begin k4 rfl hq1]
      have hf : ∀ bs : List Bool, (bs.map bl).flatten = bs.map Lf.bool := by
        intro bs; induction bs with
        | nil => rfl
        | cons b r ih => simp [bl, ih]
      have hs : Sl (h ++ [⟨(List.replicate m (Lf.bool false)).set q (Lf.bool true), .own 4 1⟩]) h.length 4 1 (((List.replicate m false).set q true).map bl) := ⟨by rw [List.getElem?_append_right (Nat.le_refl _), hf, List.map_set]; simp, fun i r hi => by
        rw [List.getElem?_map] at hi
        obtain ⟨x, _, rfl⟩ := Option.map_eq_some_iff.1 hi
        rfl⟩
      have := New.of_sl (Kept.app h _) hs (Nat.le_refl _) (by simp; omega)
      simpa using this
    clear hkd
    generalize (Lf.sl h.length 0 m 1) = u at hN0 ⊢
    refine WL_forM 1125899873288832 (by decide +kernel) (m) (fun i b g => i ≤ m ∧ b 7 = .lf (.int .i64 (m - 1 - i)) ∧ New h g u 4 1 ((tabTo (mkN ps m (m - 1 - i) 0) m).map bl)) (fun _ _ _ hi => hi.1) ⟨by simp, by simp; omega, by simpa [hq1] using hN0⟩ ?_
    clear hN0
    rintro i b g ⟨hi, e7, hN⟩
    by_cases hlt : i < m
    · have hA1 := hA.kept hN.kept
      obtain ⟨a, ha⟩ := Int.eq_ofNat_of_zero_le (show 0 ≤ (m : Int) - 1 - i by omega)
      have hal : a < m := by omega
      rw [ha] at e7 hN
      clear hT2
      repeat' (first | (simp (disch := first | omega | assumption | (simp only [List.length_set]; omega) | (simp [*] <;> fail) | assumption) [-Bool.decide_and, -Bool.decide_or, -Bool.not_and, -Bool.not_or, toNat_pred, toNat_succ, wrap64, wr_new, wr_new0, ok_if, ok_ifn, iadV_sl, makeV_int, decT, decF, over_at, *, hA1.len]) | (with_reducible refine Gd_split (fun hc => ?_) (fun hc => ?_) <;> (have hc2 := hc; try simp at hc2)) | (with_reducible refine Br_split (fun hc => ?_) (fun hc => ?_) <;> (have hc2 := hc; try simp at hc2)) | (with_reducible refine GdT_split (fun hc => ?_) (fun hc => ?_) <;> (have hc2 := hc; try simp at hc2)) | (with_reducible refine WT_alt ?_ ?_) | omega)
      refine WL_forM 1125897759359488 (by decide +kernel) (ps.length) (fun j b g => j ≤ ps.length ∧ b 31 = .lf (.int .i64 j) ∧ New h g u 4 1 ((tabTo (mkN ps m a j) m).map bl)) (fun _ _ _ hi => hi.1) ⟨by simp, by simp, hN⟩ ?_
      rintro j b2 g2 ⟨hj, e31, hN2⟩
      have hA2 := hA.kept hN2.kept
      by_cases hlt2 : j < ps.length
      · have hok : sendOk m ps[j] := k4 j hlt2 hlt2
        unfold sendOk at hok
        obtain ⟨c, hc⟩ := Int.eq_ofNat_of_zero_le hok.1
        have hcl : c < m := by omega
        have hC := hN2.arr.app (t := [⟨ps[j].cells, .own 134 1⟩])
        have hla : a < (tabTo (mkN ps m a j) m).length := by rw [tabTo_len]; exact hal
        have hlc : c < (tabTo (mkN ps m a j) m).length := by rw [tabTo_len]; exact hcl
        have hga : (tabTo (mkN ps m a j) m)[a] = mkN ps m a j a := by simp [tabTo]
        have q1 := hC.at_ (k := .i64) hla
        have q2 := hC.rd1 hla
        have q3 := hC.at_ (k := .i64) hlc
        rw [hga] at q2
        by_cases ht : ps[j].to_ = a
        · by_cases hr : Rch ps m a
          · have hm : mkN ps m a j a = true := (mkN_at k4 rfl).2 hr
            rw [hm] at q2
            have s1 := mkN_put hlt2 ⟨ht, hr⟩ (m := m) hc.symm
            have hcells : ps[j].cells = [.int .i64 c, .int .i64 a, .flt .f32 ps[j].gain] := by unfold Snd.cells; rw [hc, ht]
            have w9 := wr_last (lim := lim) (g := g2) (ty := 134) (cs := [.int .i64 0, .int .i64 0, .flt .f32 0]) (new := [.int .i64 c, .int .i64 a, .flt .f32 ps[j].gain]) (by have := hN2.kept.1; omega) rfl
            rw [hcells] at hC q2
            clear hga hla hcells
            repeat' (first | (simp (disch := first | omega | assumption | (simp only [List.length_set]; omega) | (simp [*] <;> fail) | assumption) [-Bool.decide_and, -Bool.decide_or, -Bool.not_and, -Bool.not_or, toNat_pred, toNat_succ, wrap64, wr_new, wr_new0, ok_if, ok_ifn, iadV_sl, makeV_int, decT, decF, over_at, *, hA2.len, hA2.at_, hA2.at_', hA2.rd, hA2.rdIn, hA2.rdIn0, hA2.rdA, hA2.rdInA, hA2.rdIn0A, Snd.cells, bl]) | (with_reducible refine Gd_split (fun hc => ?_) (fun hc => ?_) <;> (have hc2 := hc; try simp at hc2)) | (with_reducible refine Br_split (fun hc => ?_) (fun hc => ?_) <;> (have hc2 := hc; try simp at hc2)) | (with_reducible refine GdT_split (fun hc => ?_) (fun hc => ?_) <;> (have hc2 := hc; try simp at hc2)) | (with_reducible refine WT_alt ?_ ?_) | omega)
            refine oc_wr (i := c) (hN2.app (t := [⟨[.int .i64 c, .int .i64 a, .flt .f32 ps[j].gain], .own 134 1⟩])) (by simpa using hlc) hl fun g3 hP hB => ?_
            rw [bl_set, s1] at hP
            clear s1 hB
            repeat' (first | (simp (disch := first | omega | assumption | (simp only [List.length_set]; omega) | (simp [*] <;> fail) | assumption) [-Bool.decide_and, -Bool.decide_or, -Bool.not_and, -Bool.not_or, toNat_pred, toNat_succ, wrap64, wr_new, wr_new0, ok_if, ok_ifn, iadV_sl, makeV_int, decT, decF, over_at, *]) | (with_reducible refine Gd_split (fun hc => ?_) (fun hc => ?_) <;> (have hc2 := hc; try simp at hc2)) | (with_reducible refine Br_split (fun hc => ?_) (fun hc => ?_) <;> (have hc2 := hc; try simp at hc2)) | (with_reducible refine GdT_split (fun hc => ?_) (fun hc => ?_) <;> (have hc2 := hc; try simp at hc2)) | (with_reducible refine WT_alt ?_ ?_) | omega)
            all_goals ((repeat' apply And.intro) <;> first | omega | assumption)
          · have hm : mkN ps m a j a = false := by
              cases hq : mkN ps m a j a
              · rfl
              · exact absurd ((mkN_at k4 rfl).1 hq) hr
            rw [hm] at q2
            have s1 := mkN_skip (n := (m : Int)) hlt2 (fun q => hr q.2) (m := m) (w := a)
            rw [s1] at hN2
            have hN3 := fun t => hN2.app (t := t)
            have hcells : ps[j].cells = [.int .i64 c, .int .i64 a, .flt .f32 ps[j].gain] := by unfold Snd.cells; rw [hc, ht]
            have w9 := wr_last (lim := lim) (g := g2) (ty := 134) (cs := [.int .i64 0, .int .i64 0, .flt .f32 0]) (new := [.int .i64 c, .int .i64 a, .flt .f32 ps[j].gain]) (by have := hN2.kept.1; omega) rfl
            rw [hcells] at hC q2
            clear hga hla s1 hcells
            repeat' (first | (simp (disch := first | omega | assumption | (simp only [List.length_set]; omega) | (simp [*] <;> fail) | assumption) [-Bool.decide_and, -Bool.decide_or, -Bool.not_and, -Bool.not_or, toNat_pred, toNat_succ, wrap64, wr_new, wr_new0, ok_if, ok_ifn, iadV_sl, makeV_int, decT, decF, over_at, *, hA2.len, hA2.at_, hA2.at_', hA2.rd, hA2.rdIn, hA2.rdIn0, hA2.rdA, hA2.rdInA, hA2.rdIn0A, Snd.cells, bl]) | (with_reducible refine Gd_split (fun hc => ?_) (fun hc => ?_) <;> (have hc2 := hc; try simp at hc2)) | (with_reducible refine Br_split (fun hc => ?_) (fun hc => ?_) <;> (have hc2 := hc; try simp at hc2)) | (with_reducible refine GdT_split (fun hc => ?_) (fun hc => ?_) <;> (have hc2 := hc; try simp at hc2)) | (with_reducible refine WT_alt ?_ ?_) | omega)
            all_goals ((repeat' apply And.intro) <;> first | omega | assumption | exact hN3 _)
        · have s1 := mkN_skip (n := (m : Int)) hlt2 (fun q => ht q.1) (m := m) (w := a)
          rw [s1] at hN2
          have hN3 := fun t => hN2.app (t := t)
          have hcells : ps[j].cells = [.int .i64 c, .int .i64 ps[j].to_, .flt .f32 ps[j].gain] := by unfold Snd.cells; rw [hc]
          have w9 := wr_last (lim := lim) (g := g2) (ty := 134) (cs := [.int .i64 0, .int .i64 0, .flt .f32 0]) (new := [.int .i64 c, .int .i64 ps[j].to_, .flt .f32 ps[j].gain]) (by have := hN2.kept.1; omega) rfl
          rw [hcells] at hC q2
          clear hga hla s1 hcells
          repeat' (first | (simp (disch := first | omega | assumption | (simp only [List.length_set]; omega) | (simp [*] <;> fail) | assumption) [-Bool.decide_and, -Bool.decide_or, -Bool.not_and, -Bool.not_or, toNat_pred, toNat_succ, wrap64, wr_new, wr_new0, ok_if, ok_ifn, iadV_sl, makeV_int, decT, decF, over_at, *, hA2.len, hA2.at_, hA2.at_', hA2.rd, hA2.rdIn, hA2.rdIn0, hA2.rdA, hA2.rdInA, hA2.rdIn0A, Snd.cells, bl]) | (with_reducible refine Gd_split (fun hc => ?_) (fun hc => ?_) <;> (have hc2 := hc; try simp at hc2)) | (with_reducible refine Br_split (fun hc => ?_) (fun hc => ?_) <;> (have hc2 := hc; try simp at hc2)) | (with_reducible refine GdT_split (fun hc => ?_) (fun hc => ?_) <;> (have hc2 := hc; try simp at hc2)) | (with_reducible refine WT_alt ?_ ?_) | omega)
          all_goals ((repeat' apply And.intro) <;> first | omega | assumption | exact hN3 _)
      · have : j = ps.length := by omega
        subst this
        rw [mkN_next (by omega)] at hN2
        have hw2 : (a : Int) - 1 = q - ((i : Int) + 1) := by omega
        rw [hw2] at hN2
        repeat' (first | (simp (disch := first | omega | assumption | (simp only [List.length_set]; omega) | (simp [*] <;> fail) | assumption) [-Bool.decide_and, -Bool.decide_or, -Bool.not_and, -Bool.not_or, toNat_pred, toNat_succ, wrap64, wr_new, wr_new0, ok_if, ok_ifn, iadV_sl, makeV_int, decT, decF, over_at, *]) | (with_reducible refine Gd_split (fun hc => ?_) (fun hc => ?_) <;> (have hc2 := hc; try simp at hc2)) | (with_reducible refine Br_split (fun hc => ?_) (fun hc => ?_) <;> (have hc2 := hc; try simp at hc2)) | (with_reducible refine GdT_split (fun hc => ?_) (fun hc => ?_) <;> (have hc2 := hc; try simp at hc2)) | (with_reducible refine WT_alt ?_ ?_) | omega)
        all_goals ((repeat' apply And.intro) <;> first | omega | assumption)
    · have : i = m := by omega
      subst this
      have e0 : (i : Int) - 1 - i = -1 := by omega
      rw [e0, tab_congr (g := fun x => decide (Rch ps i x)) (fun x _ => mkN_end k4)] at hN
      have hla := hN.arr.len
      repeat' (first | (simp (disch := first | omega | assumption | (simp only [List.length_set]; omega) | (simp [*] <;> fail) | assumption) [-Bool.decide_and, -Bool.decide_or, -Bool.not_and, -Bool.not_or, toNat_pred, toNat_succ, wrap64, wr_new, wr_new0, ok_if, ok_ifn, iadV_sl, makeV_int, decT, decF, over_at, *, hN.arr.len, tabTo_len]) | (with_reducible refine Gd_split (fun hc => ?_) (fun hc => ?_) <;> (have hc2 := hc; try simp at hc2)) | (with_reducible refine Br_split (fun hc => ?_) (fun hc => ?_) <;> (have hc2 := hc; try simp at hc2)) | (with_reducible refine GdT_split (fun hc => ?_) (fun hc => ?_) <;> (have hc2 := hc; try simp at hc2)) | (with_reducible refine WT_alt ?_ ?_) | omega)
      refine WL_forM 9218868437227412480 (by decide +kernel) (i) (fun x b g => x ≤ i ∧ b 52 = .lf (.int .i64 x) ∧ New h g u 4 1 ((tabTo (fun x => decide (Rch ps i x)) i).map bl) ∧ ∃ o, b 10 = .lf o ∧ New h g o 2 1 ((upTo ps i x).map il) ∧ Far o u) (fun _ _ _ hi => hi.1) ⟨by simp, by simp, hN, .nils, by simp, by simpa [upTo] using New.nil hN.kept, fun q1 => absurd rfl q1⟩ ?_
      rintro x b2 g2 ⟨hx, e52, hU, o, e10, hO, hfar⟩
      have hC := hU.arr
      have hol := upTo_len (ps := ps) (n := i) (i := x)
      by_cases hlt2 : x < i
      · have hlx : x < (tabTo (fun x : Nat => decide (Rch ps i x)) i).length := by rw [tabTo_len]; exact hlt2
        have hgx : (tabTo (fun x : Nat => decide (Rch ps i x)) i)[x] = decide (Rch ps i x) := by simp [tabTo]
        have q1 := hC.at_ (k := .i64) hlx
        have q2 := hC.rd1 hlx
        rw [hgx] at q2
        have s1 := upTo_succ (ps := ps) (n := i) (i := x)
        clear hT2
        by_cases hr : Rch ps i x
        · rw [if_pos hr] at s1
          rw [decide_eq_true hr] at q2
          repeat' (first | (simp (disch := first | omega | assumption | (simp only [List.length_set]; omega) | (simp [*] <;> fail) | assumption) [-Bool.decide_and, -Bool.decide_or, -Bool.not_and, -Bool.not_or, toNat_pred, toNat_succ, wrap64, wr_new, wr_new0, ok_if, ok_ifn, iadV_sl, makeV_int, decT, decF, over_at, *, hC.len, tabTo_len, bl, leavesAll, fillL]) | (with_reducible refine Gd_split (fun hc => ?_) (fun hc => ?_) <;> (have hc2 := hc; try simp at hc2)) | (with_reducible refine Br_split (fun hc => ?_) (fun hc => ?_) <;> (have hc2 := hc; try simp at hc2)) | (with_reducible refine GdT_split (fun hc => ?_) (fun hc => ?_) <;> (have hc2 := hc; try simp at hc2)) | (with_reducible refine WT_alt ?_ ?_) | omega)
          refine oc_push hO hl (by simp; omega) fun p g3 hP hB => ?_
          obtain ⟨hU2, hf2⟩ := hB.other hO hU hfar
          have hP2 : New h g3 p 2 1 ((upTo ps i (x + 1)).map il) := by rw [s1]; simpa [il] using hP
          clear s1 hP hB
          repeat' (first | (simp (disch := first | omega | assumption | (simp only [List.length_set]; omega) | (simp [*] <;> fail) | assumption) [-Bool.decide_and, -Bool.decide_or, -Bool.not_and, -Bool.not_or, toNat_pred, toNat_succ, wrap64, wr_new, wr_new0, ok_if, ok_ifn, iadV_sl, makeV_int, decT, decF, over_at, *]) | (with_reducible refine Gd_split (fun hc => ?_) (fun hc => ?_) <;> (have hc2 := hc; try simp at hc2)) | (with_reducible refine Br_split (fun hc => ?_) (fun hc => ?_) <;> (have hc2 := hc; try simp at hc2)) | (with_reducible refine GdT_split (fun hc => ?_) (fun hc => ?_) <;> (have hc2 := hc; try simp at hc2)) | (with_reducible refine WT_alt ?_ ?_) | omega)
          all_goals ((repeat' apply And.intro) <;> first | omega | assumption)
        · rw [if_neg hr, List.append_nil] at s1
          rw [decide_eq_false hr] at q2
          rw [← s1] at hO
          clear s1
          repeat' (first | (simp (disch := first | omega | assumption | (simp only [List.length_set]; omega) | (simp [*] <;> fail) | assumption) [-Bool.decide_and, -Bool.decide_or, -Bool.not_and, -Bool.not_or, toNat_pred, toNat_succ, wrap64, wr_new, wr_new0, ok_if, ok_ifn, iadV_sl, makeV_int, decT, decF, over_at, *, hC.len, tabTo_len, bl, leavesAll, fillL]) | (with_reducible refine Gd_split (fun hc => ?_) (fun hc => ?_) <;> (have hc2 := hc; try simp at hc2)) | (with_reducible refine Br_split (fun hc => ?_) (fun hc => ?_) <;> (have hc2 := hc; try simp at hc2)) | (with_reducible refine GdT_split (fun hc => ?_) (fun hc => ?_) <;> (have hc2 := hc; try simp at hc2)) | (with_reducible refine WT_alt ?_ ?_) | omega)
          all_goals ((repeat' apply And.intro) <;> first | omega | assumption)
      · have : x = i := by omega
        subst this
        rw [upTo_all] at hO
        repeat' (first | (simp (disch := first | omega | assumption | (simp only [List.length_set]; omega) | (simp [*] <;> fail) | assumption) [-Bool.decide_and, -Bool.decide_or, -Bool.not_and, -Bool.not_or, toNat_pred, toNat_succ, wrap64, wr_new, wr_new0, ok_if, ok_ifn, iadV_sl, makeV_int, decT, decF, over_at, *, hC.len, tabTo_len]) | (with_reducible refine Gd_split (fun hc => ?_) (fun hc => ?_) <;> (have hc2 := hc; try simp at hc2)) | (with_reducible refine Br_split (fun hc => ?_) (fun hc => ?_) <;> (have hc2 := hc; try simp at hc2)) | (with_reducible refine GdT_split (fun hc => ?_) (fun hc => ?_) <;> (have hc2 := hc; try simp at hc2)) | (with_reducible refine WT_alt ?_ ?_) | omega)
        all_goals ((repeat' apply And.intro) <;> first | omega | assumption | exact hT2 _ _ hO)
  · have hF2 := hF hk
    clear hT hF
    refine CallT_of_body (F := L47) (HasUn.f47) rfl ?_; unfold L47; dsimp only []
    repeat' (first | (simp (disch := first | omega | assumption | (simp only [List.length_set]; omega) | (simp [*] <;> fail) | assumption) [-Bool.decide_and, -Bool.decide_or, -Bool.not_and, -Bool.not_or, toNat_pred, toNat_succ, wrap64, wr_new, wr_new0, ok_if, ok_ifn, iadV_sl, makeV_int, decT, decF, over_at, *, c_implAreSends hA]) | (with_reducible refine Gd_split (fun hc => ?_) (fun hc => ?_) <;> (have hc2 := hc; try simp at hc2)) | (with_reducible refine Br_split (fun hc => ?_) (fun hc => ?_) <;> (have hc2 := hc; try simp at hc2)) | (with_reducible refine GdT_split (fun hc => ?_) (fun hc => ?_) <;> (have hc2 := hc; try simp at hc2)) | (with_reducible refine WT_alt ?_ ?_) | omega)
noncomputable def usedN (ps : List Snd) (n : Int) : List Int := if areSends n ps then usedK ps n n.toNat else []
theorem usedN_len {ps : List Snd} {n : Int} : (usedN ps n).length ≤ 256 := by
  unfold usedN
  split
  · rename_i hk
    have := usedK_len (ps := ps) (n := n) (k := n.toNat)
    have := hk.1
    omega
  · simp
theorem d_specUsedNodes {ps : List Snd} {n : Int} (hA : Arr h l 3 (ps.map Snd.cells)) (hl : lim ≤ h.length) (hK : ∀ o g, New h g o 2 1 ((usedN ps n).map il) → K (.tup [.lf o, .lf (.bool (decide (areSends n ps)))]) g) :
    CallT S false 45 [.lf (.int .i64 n), .lf l] h lim K :=
  c_specUsedNodes hA hl (fun hk o g hN => by simpa [hk] using hK o g (by rw [usedN, if_pos hk]; exact hN)) (fun hk => by simpa [hk] using hK .nils h (by rw [usedN, if_neg hk]; exact New.nil (Kept.refl h)))
theorem d_implUsedNodes {ps : List Snd} {n : Int} (hA : Arr h l 3 (ps.map Snd.cells)) (hl : lim ≤ h.length) (hK : ∀ o g, New h g o 2 1 ((usedN ps n).map il) → K (.tup [.lf o, .lf (.bool (decide (areSends n ps)))]) g) :
    CallT S false 47 [.lf (.int .i64 n), .lf l] h lim K :=
  c_implUsedNodes hA hl (fun hk o g hN => by simpa [hk] using hK o g (by rw [usedN, if_pos hk]; exact hN)) (fun hk => by simpa [hk] using hK .nils h (by rw [usedN, if_neg hk]; exact New.nil (Kept.refl h)))
end
end Go.E
