/- States that are read, for the evaluator. (Printed by gen/muj.py.) -/
import Derived.Test.YtgdloogokjemdaaGreatDoorMUh
import Derived.Test.YtgdloogokjemdaaGreatDoorMSx
import Derived.Test.YtgdloogokjemdaaGreatDoorMDm
set_option linter.unusedVariables false
set_option linter.unusedSimpArgs false
namespace Go.E
open Go
/-- The words of the middle part: as the program takes them, and as the reference does. -/
def wordsI (b : List UInt8) (n : Nat) : List (List UInt8) := if b = none4 ∧ n = 1 then [none4] else if b = none4 then [] else cut 59 b
def wordsR (b : List UInt8) (n : Nat) : List (List UInt8) := if n = 0 then [] else cut 59 b
/-- The chain and the state of a text. -/
noncomputable def stP (W : List UInt8 → Nat → List (List UInt8)) (s : List UInt8) : Option (List Eff × List (List Nat)) := match cut 124 s with
  | [a, b, c] => match readR a with
    | some es => match mapO numP (W b es.length) with
      | some ss => if isFit es ss ∧ fullT es ss = s then some (es, ss) else none
      | none => none
    | none => none
  | _ => none
noncomputable def stateP (s : List UInt8) : Option (List Eff × List (List Nat)) := stP wordsI s
section
variable {W : List UInt8 → Nat → List (List UInt8)} {s a b c : List UInt8} {es : List Eff} {ss : List (List Nat)}
theorem stP_cut (h : (cut 124 s).length ≠ 3) : stP W s = none := by
  unfold stP
  split
  · rename_i hc; rw [hc] at h; exact (h rfl).elim
  · rfl
theorem stP_chain (hc : cut 124 s = [a, b, c]) (h : readR a = none) : stP W s = none := by
  unfold stP; rw [hc]; simp only []; rw [h]
theorem stP_words (hc : cut 124 s = [a, b, c]) (h : readR a = some es) (h2 : mapO numP (W b es.length) = none) : stP W s = none := by
  unfold stP; rw [hc]; simp only []; rw [h]; simp only []; rw [h2]
theorem stP_fit (hc : cut 124 s = [a, b, c]) (h : readR a = some es) (h2 : mapO numP (W b es.length) = some ss) (h3 : ¬ (isFit es ss ∧ fullT es ss = s)) : stP W s = none := by
  unfold stP; rw [hc]; simp only []; rw [h]; simp only []; rw [h2]; simp only []; rw [if_neg h3]
theorem stP_ok (hc : cut 124 s = [a, b, c]) (h : readR a = some es) (h2 : mapO numP (W b es.length) = some ss) (h3 : isFit es ss) (h4 : fullT es ss = s) : stP W s = some (es, ss) := by
  unfold stP; rw [hc]; simp only []; rw [h]; simp only []; rw [h2]; simp only []; rw [if_pos ⟨h3, h4⟩]
theorem stP_is (h : stP W s = some (es, ss)) : isFit es ss ∧ fullT es ss = s := by
  unfold stP at h
  split at h
  · split at h
    · split at h
      · split at h
        · rename_i hk
          injection h with h
          injection h with h1 h2
          subst h1; subst h2
          exact hk
        · cases h
      · cases h
    · cases h
  · cases h
end
theorem none_free {m : UInt8} (h : m = 124 ∨ m = 59) : ∀ c ∈ none4, c ≠ m := by
  rcases h with rfl | rfl <;> decide
theorem cut_none59 : cut 59 none4 = [none4] := cut_miss (none_free (.inr rfl))
theorem fit_nil : isFit [] [] := ⟨⟨by simp, by simp⟩, rfl, by simp⟩
/-- The text of no effects: what its middle part is. -/
theorem cut_nil : ∃ d, cut 124 (fullT [] []) = [none4, none4, d] := by
  refine ⟨Lib.decDigits (chk (bodyT [] [])), ?_⟩
  have e : fullT [] [] = none4 ++ 124 :: (none4 ++ 124 :: Lib.decDigits (chk (bodyT [] []))) := by
    have hb : bodyT [] [] = none4 ++ 124 :: (none4 ++ [124]) := rfl
    unfold fullT
    conv => lhs; lhs; rw [hb]
    simp
  rw [e, cut_app (none_free (.inl rfl)), cut_app (none_free (.inl rfl)), cut_miss]
  intro c hc
  have := dec_digs _ c hc
  rintro rfl
  revert this
  decide
theorem fullT_le {es : List Eff} {ss : List (List Nat)} (h : isFit es ss) : (fullT es ss).length ≤ 2911 := by
  have h1 := bodyT_le h
  have h2 := dec_len5 (n := chk (bodyT es ss)) (by have := chk_lt (l := bodyT es ss); omega)
  unfold fullT
  rw [List.length_append]
  omega
/-- Both ways of taking the words come to the same. -/
theorem stP_same {s : List UInt8} : stP wordsR s = stateP s := by
  unfold stateP
  by_cases h3 : (cut 124 s).length = 3
  · obtain ⟨a, b, c, hc⟩ := len_three h3
    cases hr : readR a with
    | none => rw [stP_chain hc hr, stP_chain hc hr]
    | some es =>
      have rej : ∀ {W : List UInt8 → Nat → List (List UInt8)}, (∀ ss, mapO numP (W b es.length) = some ss → ¬ (isFit es ss ∧ fullT es ss = s)) → stP W s = none := by
        intro W hW
        cases hm : mapO numP (W b es.length) with
        | none => exact stP_words hc hr hm
        | some ss => exact stP_fit hc hr hm (hW ss hm)
      have same : wordsR b es.length = wordsI b es.length → stP wordsR s = stP wordsI s := by
        intro hw
        cases hm : mapO numP (wordsI b es.length) with
        | none => rw [stP_words hc hr hm, stP_words hc hr (by rw [hw]; exact hm)]
        | some ss =>
          by_cases hf : isFit es ss ∧ fullT es ss = s
          · rw [stP_ok hc hr hm hf.1 hf.2, stP_ok hc hr (by rw [hw]; exact hm) hf.1 hf.2]
          · rw [stP_fit hc hr hm hf, stP_fit hc hr (by rw [hw]; exact hm) hf]
      by_cases hb : b = none4
      · by_cases h1 : es.length = 1
        · refine same ?_
          unfold wordsR wordsI
          rw [if_neg (by omega), if_pos ⟨hb, h1⟩, hb, cut_none59]
        · by_cases h0 : es.length = 0
          · refine same ?_
            unfold wordsR wordsI
            rw [if_pos h0, if_neg (fun q => h1 q.2), if_pos hb]
          · rw [rej, rej]
            · intro ss hm hq
              have := mapO_len hm
              unfold wordsI at this
              rw [if_neg (fun q => h1 q.2), if_pos hb] at this
              have h2 := hq.1.2.1
              simp only [List.length_nil] at this
              omega
            · intro ss hm hq
              have := mapO_len hm
              unfold wordsR at this
              rw [if_neg h0, hb, cut_none59] at this
              have h2 := hq.1.2.1
              simp only [List.length_cons, List.length_nil] at this
              omega
      · by_cases h0 : es.length = 0
        · have hes : es = [] := List.length_eq_zero_iff.1 h0
          rw [rej, rej]
          · intro ss hm hq
            have := mapO_len hm
            unfold wordsI at this
            rw [if_neg (fun q => hb q.1), if_neg hb] at this
            have h2 := hq.1.2.1
            have h3 := List.length_pos_iff.2 (cut_ne (m := 59) (s := b))
            omega
          · intro ss hm hq
            unfold wordsR at hm
            rw [if_pos h0] at hm
            have : ss = [] := by injection hm with hm; exact hm.symm
            subst this
            subst hes
            obtain ⟨d, hd⟩ := cut_nil
            rw [hq.2, hc] at hd
            injection hd with _ hd
            injection hd with hd _
            exact hb hd
        · refine same ?_
          unfold wordsR wordsI
          rw [if_neg h0, if_neg (fun q => hb q.1), if_neg hb]
  · rw [stP_cut h3, stP_cut h3]
theorem stateP_long {s : List UInt8} (h : 10000 < s.length) : stateP s = none := by
  cases hq : stateP s with
  | none => rfl
  | some p =>
    obtain ⟨h1, h2⟩ := stP_is (es := p.1) (ss := p.2) hq
    have := fullT_le h1
    rw [h2] at this
    omega
theorem stateP_small {s : List UInt8} : ((stateP s).getD ([], [])).1.length ≤ 8 ∧ (∀ e ∈ ((stateP s).getD ([], [])).1, e.nums.length ≤ 5) ∧ ((stateP s).getD ([], [])).2.length ≤ 8 ∧ ∀ q ∈ ((stateP s).getD ([], [])).2, q.length ≤ 33 := by
  cases hq : stateP s with
  | none => simp
  | some p =>
    obtain ⟨h1, _⟩ := stP_is (es := p.1) (ss := p.2) hq
    have hs := h1.small
    exact ⟨h1.1.1, fun e he => (h1.1.2 e he).nums.2.2, hs.1, hs.2⟩
def L4 : LFn := ⟨1, (.seq (.reg [⟨(.some 2), (.mv (.c (.lf .nils))), none⟩, ⟨(.some 3), (.mv (.c (.lf .nils))), none⟩, ⟨(.some 4), (.mv (.c (.lf (.bool false)))), none⟩])
 (.seq (.seq (.reg [⟨(.some 13), (.mv (.t 0)), none⟩, ⟨(.some 14), (.slen (.t 13)), none⟩, ⟨(.some 15), (.bin .gtr (.t 14) (.c (.lf (.int .i64 10000)))), none⟩])
 (.cond (.t 15) (.seq (.reg [⟨(.some 2), (.mv (.c (.lf .nils))), none⟩, ⟨(.some 3), (.mv (.c (.lf .nils))), none⟩, ⟨(.some 4), (.mv (.c (.lf (.bool false)))), none⟩])
 .ret) .skip))
 (.seq (.reg [⟨(.some 16), (.mv (.t 0)), none⟩, ⟨(.some 17), (.call false 12 [(.t 16), (.c (.lf (.int .u8 124)))]), none⟩, ⟨(.some 5), (.mv (.t 17)), none⟩])
 (.seq (.seq (.reg [⟨(.some 18), (.mv (.t 5)), none⟩, ⟨(.some 19), (.len (.t 18)), none⟩, ⟨(.some 20), (.bin .neq (.t 19) (.c (.lf (.int .i64 3)))), none⟩])
 (.cond (.t 20) (.seq (.reg [⟨(.some 2), (.mv (.c (.lf .nils))), none⟩, ⟨(.some 3), (.mv (.c (.lf .nils))), none⟩, ⟨(.some 4), (.mv (.c (.lf (.bool false)))), none⟩])
 .ret) .skip))
 (.seq (.reg [⟨(.some 22), (.mv (.t 5)), none⟩, ⟨(.some 23), (.iaddr 1 (.t 22) (.c (.lf (.int .i64 0)))), none⟩, ⟨(.some 24), (.load false 1 (.t 23)), none⟩, ⟨(.some 25), (.call false 13 [(.t 24)]), none⟩, ⟨(.some 21), (.mv (.t 25)), none⟩, ⟨(.some 26), (.ext (.t 21) 0), none⟩, ⟨(.some 27), (.ext (.t 21) 1), none⟩, ⟨(.some 6), (.mv (.t 26)), none⟩, ⟨(.some 7), (.mv (.t 27)), none⟩])
 (.seq (.seq (.reg [⟨(.some 28), (.mv (.t 7)), none⟩, ⟨(.some 29), (.una .not (.t 28)), none⟩])
 (.cond (.t 29) (.seq (.reg [⟨(.some 2), (.mv (.c (.lf .nils))), none⟩, ⟨(.some 3), (.mv (.c (.lf .nils))), none⟩, ⟨(.some 4), (.mv (.c (.lf (.bool false)))), none⟩])
 .ret) .skip))
 (.seq (.reg [⟨(.some 30), (.mv (.t 5)), none⟩, ⟨(.some 31), (.iaddr 1 (.t 30) (.c (.lf (.int .i64 1)))), none⟩, ⟨(.some 32), (.load false 1 (.t 31)), none⟩, ⟨(.some 33), (.call false 12 [(.t 32), (.c (.lf (.int .u8 59)))]), none⟩, ⟨(.some 8), (.mv (.t 33)), none⟩])
 (.seq (.reg [⟨(.some 34), (.lit 35 1 0 [] []), none⟩, ⟨(.some 9), (.mv (.t 34)), none⟩])
 (.seq (.seq (.reg [⟨(.some 10), (.mv (.c (.lf (.int .i64 0)))), none⟩])
 (.block 0 (.loop (.seq (.seq (.reg [⟨(.some 35), (.mv (.t 10)), none⟩, ⟨(.some 36), (.mv (.t 8)), none⟩, ⟨(.some 37), (.len (.t 36)), none⟩, ⟨(.some 38), (.bin .lss (.t 35) (.t 37)), none⟩, ⟨(.some 39), (.mv (.t 38)), none⟩, ⟨(.some 40), (.mv (.t 6)), (.some (39, true))⟩, ⟨(.some 41), (.len (.t 40)), (.some (39, true))⟩, ⟨(.some 42), (.bin .gtr (.t 41) (.c (.lf (.int .i64 0)))), (.some (39, true))⟩, ⟨(.some 43), (.pick (.t 39) (.t 42) (.c (.lf (.bool false)))), none⟩])
 (.cond (.t 43) .skip (.exit 0)))
 (.seq (.block 1 (.seq (.reg [⟨(.some 47), (.mv (.t 8)), none⟩, ⟨(.some 48), (.mv (.t 10)), none⟩, ⟨(.some 49), (.iaddr 1 (.t 47) (.t 48)), none⟩, ⟨(.some 50), (.load false 1 (.t 49)), none⟩, ⟨(.some 51), (.call false 14 [(.t 50)]), none⟩, ⟨(.some 46), (.mv (.t 51)), none⟩, ⟨(.some 52), (.ext (.t 46) 0), none⟩, ⟨(.some 53), (.ext (.t 46) 1), none⟩, ⟨(.some 11), (.mv (.t 52)), none⟩, ⟨(.some 12), (.mv (.t 53)), none⟩])
 (.seq (.seq (.reg [⟨(.some 54), (.mv (.t 12)), none⟩, ⟨(.some 55), (.una .not (.t 54)), none⟩])
 (.cond (.t 55) (.seq (.reg [⟨(.some 2), (.mv (.c (.lf .nils))), none⟩, ⟨(.some 3), (.mv (.c (.lf .nils))), none⟩, ⟨(.some 4), (.mv (.c (.lf (.bool false)))), none⟩])
 .ret) .skip))
 (.reg [⟨(.some 56), (.mv (.t 9)), none⟩, ⟨(.some 57), (.mv (.t 11)), none⟩, ⟨(.some 58), (.lit 35 1 1 [.nils] [(0, (1, (.t 57)))]), none⟩, ⟨(.some 59), (.app 35 1 24 (.t 56) (.t 58)), none⟩, ⟨(.some 9), (.mv (.t 59)), none⟩]))))
 (.reg [⟨(.some 44), (.mv (.t 10)), none⟩, ⟨(.some 45), (.bin .add (.t 44) (.c (.lf (.int .i64 1)))), none⟩, ⟨(.some 10), (.mv (.t 45)), none⟩]))))))
 (.seq (.seq (.reg [⟨(.some 60), (.mv (.t 6)), none⟩, ⟨(.some 61), (.mv (.t 9)), none⟩, ⟨(.some 62), (.call true 15 [(.t 60), (.t 61)]), none⟩, ⟨(.some 63), (.una .not (.t 62)), none⟩, ⟨(.some 64), (.mv (.t 63)), none⟩, ⟨(.some 65), (.mv (.t 6)), (.some (64, false))⟩, ⟨(.some 66), (.mv (.t 9)), (.some (64, false))⟩, ⟨(.some 67), (.call true 16 [(.t 65), (.t 66)]), (.some (64, false))⟩, ⟨(.some 68), (.mv (.t 0)), (.some (64, false))⟩, ⟨(.some 69), (.bin .neq (.t 67) (.t 68)), (.some (64, false))⟩, ⟨(.some 70), (.pick (.t 64) (.c (.lf (.bool true))) (.t 69)), none⟩])
 (.cond (.t 70) (.seq (.reg [⟨(.some 2), (.mv (.c (.lf .nils))), none⟩, ⟨(.some 3), (.mv (.c (.lf .nils))), none⟩, ⟨(.some 4), (.mv (.c (.lf (.bool false)))), none⟩])
 .ret) .skip))
 (.seq (.reg [⟨(.some 71), (.mv (.t 6)), none⟩, ⟨(.some 72), (.mv (.t 9)), none⟩, ⟨(.some 2), (.mv (.t 71)), none⟩, ⟨(.some 3), (.mv (.t 72)), none⟩, ⟨(.some 4), (.mv (.c (.lf (.bool true)))), none⟩])
 .ret))))))))))), [(.tmp 2), (.tmp 3), (.tmp 4)]⟩
def L5 : LFn := ⟨1, (.seq (.reg [⟨(.some 2), (.mv (.c (.lf .nils))), none⟩, ⟨(.some 3), (.mv (.c (.lf .nils))), none⟩, ⟨(.some 4), (.mv (.c (.lf (.bool false)))), none⟩])
 (.seq (.reg [⟨(.some 14), (.mv (.t 0)), none⟩, ⟨(.some 15), (.call false 17 [(.t 14), (.c (.lf (.str ⟨#[124]⟩)))]), none⟩, ⟨(.some 5), (.mv (.t 15)), none⟩])
 (.seq (.seq (.reg [⟨(.some 16), (.mv (.t 5)), none⟩, ⟨(.some 17), (.len (.t 16)), none⟩, ⟨(.some 18), (.bin .neq (.t 17) (.c (.lf (.int .i64 3)))), none⟩])
 (.cond (.t 18) (.seq (.reg [⟨(.some 2), (.mv (.c (.lf .nils))), none⟩, ⟨(.some 3), (.mv (.c (.lf .nils))), none⟩, ⟨(.some 4), (.mv (.c (.lf (.bool false)))), none⟩])
 .ret) .skip))
 (.seq (.reg [⟨(.some 20), (.mv (.t 5)), none⟩, ⟨(.some 21), (.iaddr 1 (.t 20) (.c (.lf (.int .i64 0)))), none⟩, ⟨(.some 22), (.load false 1 (.t 21)), none⟩, ⟨(.some 23), (.call false 18 [(.t 22)]), none⟩, ⟨(.some 19), (.mv (.t 23)), none⟩, ⟨(.some 24), (.ext (.t 19) 0), none⟩, ⟨(.some 25), (.ext (.t 19) 1), none⟩, ⟨(.some 6), (.mv (.t 24)), none⟩, ⟨(.some 7), (.mv (.t 25)), none⟩])
 (.seq (.seq (.reg [⟨(.some 26), (.mv (.t 7)), none⟩, ⟨(.some 27), (.una .not (.t 26)), none⟩])
 (.cond (.t 27) (.seq (.reg [⟨(.some 2), (.mv (.c (.lf .nils))), none⟩, ⟨(.some 3), (.mv (.c (.lf .nils))), none⟩, ⟨(.some 4), (.mv (.c (.lf (.bool false)))), none⟩])
 .ret) .skip))
 (.seq (.reg [⟨(.some 8), (.mv (.c (.lf .nils))), none⟩])
 (.seq (.reg [⟨(.some 28), (.mv (.t 5)), none⟩, ⟨(.some 29), (.iaddr 1 (.t 28) (.c (.lf (.int .i64 1)))), none⟩, ⟨(.some 30), (.load false 1 (.t 29)), none⟩, ⟨(.some 31), (.call false 19 [(.t 30)]), none⟩, ⟨(.some 9), (.mv (.t 31)), none⟩])
 (.seq (.seq (.reg [⟨(.some 32), (.mv (.t 5)), none⟩, ⟨(.some 33), (.iaddr 1 (.t 32) (.c (.lf (.int .i64 1)))), none⟩, ⟨(.some 34), (.load false 1 (.t 33)), none⟩, ⟨(.some 35), (.bin .eql (.t 34) (.c (.lf (.str ⟨#[110, 111, 110, 101]⟩)))), none⟩, ⟨(.some 36), (.mv (.t 35)), none⟩, ⟨(.some 37), (.mv (.t 6)), (.some (36, true))⟩, ⟨(.some 38), (.len (.t 37)), (.some (36, true))⟩, ⟨(.some 39), (.bin .eql (.t 38) (.c (.lf (.int .i64 1)))), (.some (36, true))⟩, ⟨(.some 40), (.pick (.t 36) (.t 39) (.c (.lf (.bool false)))), none⟩])
 (.cond (.t 40) (.reg [⟨(.some 41), (.lit 9 1 1 [(.str ⟨#[]⟩)] [(0, (1, (.c (.lf (.str ⟨#[110, 111, 110, 101]⟩)))))]), none⟩, ⟨(.some 9), (.mv (.t 41)), none⟩]) .skip))
 (.seq (.seq (.reg [⟨(.some 42), (.mv (.t 9)), none⟩, ⟨(.some 43), (.len (.t 42)), none⟩, ⟨(.some 44), (.mv (.c (.lf (.int .i64 0)))), none⟩])
 (.block 0 (.loop (.seq (.reg [⟨(.some 45), (.bin .lss (.t 44) (.t 43)), none⟩])
 (.seq (.cond (.t 45) .skip (.exit 0))
 (.seq (.block 1 (.seq (.reg [⟨(.some 46), (.iaddr 1 (.t 42) (.t 44)), none⟩, ⟨(.some 47), (.load false 1 (.t 46)), none⟩, ⟨(.some 11), (.mv (.t 47)), none⟩])
 (.seq (.reg [⟨(.some 49), (.mv (.t 11)), none⟩, ⟨(.some 50), (.call false 20 [(.t 49)]), none⟩, ⟨(.some 48), (.mv (.t 50)), none⟩, ⟨(.some 51), (.ext (.t 48) 0), none⟩, ⟨(.some 52), (.ext (.t 48) 1), none⟩, ⟨(.some 12), (.mv (.t 51)), none⟩, ⟨(.some 13), (.mv (.t 52)), none⟩])
 (.seq (.seq (.reg [⟨(.some 53), (.mv (.t 13)), none⟩, ⟨(.some 54), (.una .not (.t 53)), none⟩])
 (.cond (.t 54) (.seq (.reg [⟨(.some 2), (.mv (.c (.lf .nils))), none⟩, ⟨(.some 3), (.mv (.c (.lf .nils))), none⟩, ⟨(.some 4), (.mv (.c (.lf (.bool false)))), none⟩])
 .ret) .skip))
 (.reg [⟨(.some 55), (.mv (.t 8)), none⟩, ⟨(.some 56), (.mv (.t 12)), none⟩, ⟨(.some 57), (.lit 35 1 1 [.nils] [(0, (1, (.t 56)))]), none⟩, ⟨(.some 58), (.app 35 1 24 (.t 55) (.t 57)), none⟩, ⟨(.some 8), (.mv (.t 58)), none⟩])))))
 (.reg [⟨(.some 59), (.bin .add (.t 44) (.c (.lf (.int .i64 1)))), none⟩, ⟨(.some 44), (.mv (.t 59)), none⟩])))))))
 (.seq (.seq (.reg [⟨(.some 60), (.mv (.t 6)), none⟩, ⟨(.some 61), (.mv (.t 8)), none⟩, ⟨(.some 62), (.call true 21 [(.t 60), (.t 61)]), none⟩, ⟨(.some 63), (.una .not (.t 62)), none⟩, ⟨(.some 64), (.mv (.t 63)), none⟩, ⟨(.some 65), (.mv (.t 6)), (.some (64, false))⟩, ⟨(.some 66), (.mv (.t 8)), (.some (64, false))⟩, ⟨(.some 67), (.call true 22 [(.t 65), (.t 66)]), (.some (64, false))⟩, ⟨(.some 68), (.mv (.t 0)), (.some (64, false))⟩, ⟨(.some 69), (.bin .neq (.t 67) (.t 68)), (.some (64, false))⟩, ⟨(.some 70), (.pick (.t 64) (.c (.lf (.bool true))) (.t 69)), none⟩])
 (.cond (.t 70) (.seq (.reg [⟨(.some 2), (.mv (.c (.lf .nils))), none⟩, ⟨(.some 3), (.mv (.c (.lf .nils))), none⟩, ⟨(.some 4), (.mv (.c (.lf (.bool false)))), none⟩])
 .ret) .skip))
 (.seq (.reg [⟨(.some 71), (.mv (.t 6)), none⟩, ⟨(.some 72), (.mv (.t 8)), none⟩, ⟨(.some 2), (.mv (.t 71)), none⟩, ⟨(.some 3), (.mv (.t 72)), none⟩, ⟨(.some 4), (.mv (.c (.lf (.bool true)))), none⟩])
 .ret))))))))))), [(.tmp 2), (.tmp 3), (.tmp 4)]⟩
class HasUj (S : Sys) : Prop extends HasUh S, HasSx S where
  f4 : S.fs 4 = some L4
  f5 : S.fs 5 = some L5
section
variable {S : Sys} {lim : Nat} {h : Hp} {K : CV → Hp → Prop} [HasUj S] {s : List UInt8}
set_option maxRecDepth 20000 in
set_option maxHeartbeats 4000000 in
theorem c_implReadState [HasRo S] (hs : s.length ≤ 2000000) (hl : lim ≤ h.length)
    (hT : ∀ o1 o2 g ps qs, stateP s = some (ps.map (·.1), qs.map (·.1)) → NewD h g o1 44 3 Eff.cells Eff.nums 51 ps → NewD h g o2 35 1 ssCells ssRows 51 qs → (∀ s ∈ lvs o1 ps, ∀ t ∈ lvs o2 qs, Far s t) → K (.tup [.lf o1, .lf o2, .lf (.bool true)]) g)
    (hF : stateP s = none → ∀ g, Kept h g → K (.tup [.lf .nils, .lf .nils, .lf (.bool false)]) g) : CallT S false 5 [.lf (.str ⟨s.toArray⟩)] h lim K := by
  refine CallT_of_body (F := L5) (HasUj.f5) rfl ?_; unfold L5; dsimp only []
  repeat' (first | (simp (disch := first | omega | assumption | (simp only [List.length_set]; omega) | (simp [*] <;> fail) | assumption) [-Bool.decide_and, -Bool.decide_or, -Bool.not_and, -Bool.not_or, toNat_pred, toNat_succ, wrap64, wr_new, wr_new0, ok_if, ok_ifn, iadV_sl, makeV_int, decT, decF, over_at, *]) | (with_reducible refine Gd_split (fun hc => ?_) (fun hc => ?_) <;> (have hc2 := hc; try simp at hc2)) | (with_reducible refine Br_split (fun hc => ?_) (fun hc => ?_) <;> (have hc2 := hc; try simp at hc2)) | (with_reducible refine GdT_split (fun hc => ?_) (fun hc => ?_) <;> (have hc2 := hc; try simp at hc2)) | (with_reducible refine WT_alt ?_ ?_) | omega)
  refine c_Split (m := 124) (by omega) fun oP g0 hP => ?_
  have hlP := hP.arr.len
  have hkP := hP.kept
  have hg0 := hkP.1
  by_cases h3 : (cut 124 s).length = 3
  · obtain ⟨a, b0, c, hcut⟩ := len_three h3
    have hpl := cut_piece (m := 124) (s := s)
    rw [hcut] at hP hlP hpl
    obtain ⟨⟨a0, r0⟩, _, _⟩ := three hP.arr
    have hal := hpl a (by simp)
    have hbl := hpl b0 (by simp)
    simp only [List.length_cons, List.length_nil] at hlP
    clear hpl h3
    repeat' (first | (simp (disch := first | omega | assumption | (simp only [List.length_set]; omega) | (simp [*] <;> fail) | assumption) [-Bool.decide_and, -Bool.decide_or, -Bool.not_and, -Bool.not_or, toNat_pred, toNat_succ, wrap64, wr_new, wr_new0, ok_if, ok_ifn, iadV_sl, makeV_int, decT, decF, over_at, *, st]) | (with_reducible refine Gd_split (fun hc => ?_) (fun hc => ?_) <;> (have hc2 := hc; try simp at hc2)) | (with_reducible refine Br_split (fun hc => ?_) (fun hc => ?_) <;> (have hc2 := hc; try simp at hc2)) | (with_reducible refine GdT_split (fun hc => ?_) (fun hc => ?_) <;> (have hc2 := hc; try simp at hc2)) | (with_reducible refine WT_alt ?_ ?_) | omega)
    refine c_implReadChain (S := S) (by omega) (by omega) (fun o1 g1 ps hr hDL0 => ?_) (fun hr g1 hK => ?_)
    · obtain ⟨hch, hisC⟩ := readR_is hr
      have hDL := hDL0.base hkP
      have hk1 := hDL.kept
      have hg1 := hk1.1
      have hP1 := hP.later hDL0.kept
      obtain ⟨_, ⟨b1, s1⟩, _⟩ := three hP1.arr
      clear a0 r0
      repeat' (first | (simp (disch := first | omega | assumption | (simp only [List.length_set]; omega) | (simp [*] <;> fail) | assumption) [-Bool.decide_and, -Bool.decide_or, -Bool.not_and, -Bool.not_or, toNat_pred, toNat_succ, wrap64, wr_new, wr_new0, ok_if, ok_ifn, iadV_sl, makeV_int, decT, decF, over_at, *, st]) | (with_reducible refine Gd_split (fun hc => ?_) (fun hc => ?_) <;> (have hc2 := hc; try simp at hc2)) | (with_reducible refine Br_split (fun hc => ?_) (fun hc => ?_) <;> (have hc2 := hc; try simp at hc2)) | (with_reducible refine GdT_split (fun hc => ?_) (fun hc => ?_) <;> (have hc2 := hc; try simp at hc2)) | (with_reducible refine WT_alt ?_ ?_) | omega)
      refine c_parted (S := S) (by omega) (by omega) fun ow0 g2 hN0 => ?_
      have hP2 := hP1.later hN0.kept
      obtain ⟨_, ⟨b2, s2⟩, _⟩ := three hP2.arr
      have hLl := (hDL.later hN0.kept).out.arr.len
      have hnn := tnone (x := b0)
      clear b1 s1 hP hP1 hDL0
      by_cases hb : b0 = none4
      · rw [if_pos hb] at hN0
        rw [decide_eq_true hb] at hnn
        by_cases h1 : ps.length = 1
        · have h1i : (ps.length : Int) = 1 := by omega
          have hWe : wordsI b0 (ps.map (·.1)).length = [none4] := by unfold wordsI; rw [if_pos ⟨hb, by simpa using h1⟩]
          have hN1 : New g1 (g2 ++ [⟨[.str ⟨#[110, 111, 110, 101]⟩], .own 9 1⟩]) (.sl g2.length 0 1 1) 9 1 ([none4].map st) := by
            have hS : Sl (g2 ++ [(⟨[.str ⟨#[110, 111, 110, 101]⟩], .own 9 1⟩ : Ob)]) g2.length 9 1 ([none4].map st) := ⟨by rw [List.getElem?_append_right (Nat.le_refl _)]; simp; rfl, fun i r hi => by
              have hm := List.mem_of_getElem? hi
              simp at hm; subst hm; rfl⟩
            exact New.of_sl hN0.kept.more hS hN0.kept.1 (by simp)
          have hw2 : ∀ x ∈ [none4], x.length ≤ 4 := by simp [none4]
          have hlw := hN1.arr.len
          have hWl : [none4].length = 1 := rfl
          rw [hWl] at hlw
          clear hb
          have hcl : [none4].length ≤ 1 := by simp
          generalize hWg : [none4] = W at *
          repeat' (first | (simp (disch := first | omega | assumption | (simp only [List.length_set]; omega) | (simp [*] <;> fail) | assumption) [-Bool.decide_and, -Bool.decide_or, -Bool.not_and, -Bool.not_or, toNat_pred, toNat_succ, wrap64, wr_new, wr_new0, ok_if, ok_ifn, iadV_sl, makeV_int, decT, decF, over_at, *, st, leavesAll, fillL]) | (with_reducible refine Gd_split (fun hc => ?_) (fun hc => ?_) <;> (have hc2 := hc; try simp at hc2)) | (with_reducible refine Br_split (fun hc => ?_) (fun hc => ?_) <;> (have hc2 := hc; try simp at hc2)) | (with_reducible refine GdT_split (fun hc => ?_) (fun hc => ?_) <;> (have hc2 := hc; try simp at hc2)) | (with_reducible refine WT_alt ?_ ?_) | omega)
          generalize hG : g2 ++ [(⟨[.str ⟨#[110, 111, 110, 101]⟩], .own 9 1⟩ : Ob)] = g5 at *
          generalize hO : Lf.sl g2.length 0 1 1 = ow at *
          clear hN0
          refine WL_forM 1152903912420817180 (by decide +kernel) (W.length) (fun i b g => i ≤ W.length ∧ b 44 = .lf (.int .i64 i) ∧ ∃ qs o, b 8 = .lf o ∧ NewD g1 g o 35 1 ssCells ssRows 51 qs ∧ New g1 g ow 9 1 (W.map st) ∧ Far o ow ∧ qs.length = i ∧ Hid (mapO numP W = (mapO numP (W.drop i)).map (qs.map (·.1) ++ ·))) (fun _ _ _ hi => hi.1) ⟨by omega, by simp, [], .nils, by simp, NewD.start hN1.kept, hN1, Far.nil_left, rfl, mapO_zero⟩ ?_
          clear hN1 
          rintro i b g ⟨hi, e1, qs, o, e2, hD, hN1, hf, hql, hM⟩
          have hM0 : mapO numP W = (mapO numP (W.drop i)).map (qs.map (·.1) ++ ·) := hM
          have hlw := hN1.arr.len
          by_cases hlt : i < W.length
          · have ai := hN1.arr.at_ (k := .i64) hlt
            have di := hN1.arr.rd1 hlt
            have hwl := hw2 _ (List.getElem_mem hlt)
            have hgl := hD.kept.1
            have hkg := hk1.trans hD.kept
            cases hq : numP W[i] with
            | none =>
              have hkF := hF (stP_words (W := wordsI) hcut hr (by rw [hWe]; exact mapO_fail hM0 hlt hq))
              clear hF hT hM hM0 hw2
              generalize W[i] = w at *
              repeat' (first | (simp (disch := first | omega | assumption | (simp only [List.length_set]; omega) | (simp [*] <;> fail) | assumption) [-Bool.decide_and, -Bool.decide_or, -Bool.not_and, -Bool.not_or, toNat_pred, toNat_succ, wrap64, wr_new, wr_new0, ok_if, ok_ifn, iadV_sl, makeV_int, decT, decF, over_at, *, st]) | (with_reducible refine Gd_split (fun hc => ?_) (fun hc => ?_) <;> (have hc2 := hc; try simp at hc2)) | (with_reducible refine Br_split (fun hc => ?_) (fun hc => ?_) <;> (have hc2 := hc; try simp at hc2)) | (with_reducible refine GdT_split (fun hc => ?_) (fun hc => ?_) <;> (have hc2 := hc; try simp at hc2)) | (with_reducible refine WT_alt ?_ ?_) | omega)
              refine c_ReadNumbers (S := S) (by omega) (by omega) (fun o3 g3 xs hx hN3 => ?_) (fun hx g3 hK3 => ?_)
              · rw [hq] at hx; cases hx
              · have hkF2 := hkF g3 (hkg.trans hK3)
                clear hkF
                repeat' (first | (simp (disch := first | omega | assumption | (simp only [List.length_set]; omega) | (simp [*] <;> fail) | assumption) [-Bool.decide_and, -Bool.decide_or, -Bool.not_and, -Bool.not_or, toNat_pred, toNat_succ, wrap64, wr_new, wr_new0, ok_if, ok_ifn, iadV_sl, makeV_int, decT, decF, over_at, *]) | (with_reducible refine Gd_split (fun hc => ?_) (fun hc => ?_) <;> (have hc2 := hc; try simp at hc2)) | (with_reducible refine Br_split (fun hc => ?_) (fun hc => ?_) <;> (have hc2 := hc; try simp at hc2)) | (with_reducible refine GdT_split (fun hc => ?_) (fun hc => ?_) <;> (have hc2 := hc; try simp at hc2)) | (with_reducible refine WT_alt ?_ ?_) | omega)
            | some xs =>
              have hstH : Hid (∀ l : Lf, mapO numP W = (mapO numP (W.drop (i + 1))).map (((qs ++ [(xs, l)]).map (·.1)) ++ ·)) := fun l => by rw [List.map_append]; exact mapO_step hM0 hlt hq
              clear hF hT hM hM0 hw2
              generalize W[i] = w at *
              repeat' (first | (simp (disch := first | omega | assumption | (simp only [List.length_set]; omega) | (simp [*] <;> fail) | assumption) [-Bool.decide_and, -Bool.decide_or, -Bool.not_and, -Bool.not_or, toNat_pred, toNat_succ, wrap64, wr_new, wr_new0, ok_if, ok_ifn, iadV_sl, makeV_int, decT, decF, over_at, *, st]) | (with_reducible refine Gd_split (fun hc => ?_) (fun hc => ?_) <;> (have hc2 := hc; try simp at hc2)) | (with_reducible refine Br_split (fun hc => ?_) (fun hc => ?_) <;> (have hc2 := hc; try simp at hc2)) | (with_reducible refine GdT_split (fun hc => ?_) (fun hc => ?_) <;> (have hc2 := hc; try simp at hc2)) | (with_reducible refine WT_alt ?_ ?_) | omega)
              refine c_ReadNumbers (S := S) (by omega) (by omega) (fun o3 g3 xs2 hx hN3 => ?_) (fun hx g3 hK3 => ?_)
              · rw [hq] at hx
                injection hx with hx
                subst hx
                obtain ⟨hf0, hf1⟩ := hD.fresh hN3
                have hD3 := hD.later hN3.kept
                have hN13 := hN1.later hN3.kept
                have hN3b := hN3.base hD.kept
                clear hD hN1 hN3 hq
                repeat' (first | (simp (disch := first | omega | assumption | (simp only [List.length_set]; omega) | (simp [*] <;> fail) | assumption) [-Bool.decide_and, -Bool.decide_or, -Bool.not_and, -Bool.not_or, toNat_pred, toNat_succ, wrap64, wr_new, wr_new0, ok_if, ok_ifn, iadV_sl, makeV_int, decT, decF, over_at, *, leavesAll, fillL]) | (with_reducible refine Gd_split (fun hc => ?_) (fun hc => ?_) <;> (have hc2 := hc; try simp at hc2)) | (with_reducible refine Br_split (fun hc => ?_) (fun hc => ?_) <;> (have hc2 := hc; try simp at hc2)) | (with_reducible refine GdT_split (fun hc => ?_) (fun hc => ?_) <;> (have hc2 := hc; try simp at hc2)) | (with_reducible refine WT_alt ?_ ?_) | omega)
                refine oc_pushL (r := [o3]) (bytes := 24) hD3.out (by omega) (by simp; omega) (fun o4 g4 hN4 hB4 => ?_) (by decide) rfl (by decide)
                have hP := hD3.push (a := xs) hN3b hf0 hf1 (Kept.refl _) hN4 hB4 rfl
                obtain ⟨hN14, hf4⟩ := hB4.other hD3.out hN13 hf
                clear hD3 hN13 hB4 hN4 hN3b hf0 hf1 hf
                repeat' (first | (simp (disch := first | omega | assumption | (simp only [List.length_set]; omega) | (simp [*] <;> fail) | assumption) [-Bool.decide_and, -Bool.decide_or, -Bool.not_and, -Bool.not_or, toNat_pred, toNat_succ, wrap64, wr_new, wr_new0, ok_if, ok_ifn, iadV_sl, makeV_int, decT, decF, over_at, *]) | (with_reducible refine Gd_split (fun hc => ?_) (fun hc => ?_) <;> (have hc2 := hc; try simp at hc2)) | (with_reducible refine Br_split (fun hc => ?_) (fun hc => ?_) <;> (have hc2 := hc; try simp at hc2)) | (with_reducible refine GdT_split (fun hc => ?_) (fun hc => ?_) <;> (have hc2 := hc; try simp at hc2)) | (with_reducible refine WT_alt ?_ ?_) | omega)
                first | exact ⟨by omega, _, hP, by simp [hql], hstH _⟩ | exact ⟨_, hP, by simp [hql], hstH _⟩
              · rw [hq] at hx; cases hx
          · have hiW : i = W.length := by omega
            have hd : mapO numP (wordsI b0 (ps.map (·.1)).length) = some (qs.map (·.1)) := by rw [hWe]; exact mapO_done hM0 hiW
            clear hM hM0 hw2
            subst hiW
            have hLg := hDL.later hD.kept
            have hfc := fun lim K => c_implIsState (S := S) (h := g) (lim := lim) (K := K) hLg.out.arr hLg.ins hD.out.arr hD.ins
            have hcf := fun p hp => (chP_nums hch p.1 (List.mem_map.2 ⟨p, hp, rfl⟩)).1
            have hcf2 : ∀ q ∈ qs, ∀ x ∈ q.1, CF x := fun q hq => mapO_mem (p := fun xs : List Nat => ∀ x ∈ xs, CF x) (fun x y e => (numP_some e).2.1) hd q.1 (List.mem_map.2 ⟨q, hq, rfl⟩)
            have hst := fun q lim K => c_stateText (S := S) (h := g) (lim := lim) (K := K) hLg.out.arr hLg.ins hcf hD.out.arr hD.ins hcf2 q
            have hk := hk1.trans hD.kept
            by_cases hok : isFit (ps.map (·.1)) (qs.map (·.1))
            · replace hst := hst hok
              rw [decide_eq_true hok] at hfc
              have htn := tneq (x := fullT (ps.map (·.1)) (qs.map (·.1))) (y := s)
              by_cases heq : fullT (ps.map (·.1)) (qs.map (·.1)) = s
              · have z1 := hDL.lvs_lt
                have z2 := hD.lvs_lt
                have hkT := hT o1 o g ps qs (stP_ok (W := wordsI) hcut hr hd hok heq) hLg (hD.base hk1) (fun s hs t ht q1 q2 e => by have := z1 s hs q1; have := z2 t ht q2; omega)
                rw [decide_eq_true heq] at htn
                clear hT hF hok heq hcf hcf2 z1 z2
                generalize fullT (ps.map (·.1)) (qs.map (·.1)) = t at *
                repeat' (first | (simp (disch := first | omega | assumption | (simp only [List.length_set]; omega) | (simp [*] <;> fail) | assumption) [-Bool.decide_and, -Bool.decide_or, -Bool.not_and, -Bool.not_or, toNat_pred, toNat_succ, wrap64, wr_new, wr_new0, ok_if, ok_ifn, iadV_sl, makeV_int, decT, decF, over_at, *]) | (with_reducible refine Gd_split (fun hc => ?_) (fun hc => ?_) <;> (have hc2 := hc; try simp at hc2)) | (with_reducible refine Br_split (fun hc => ?_) (fun hc => ?_) <;> (have hc2 := hc; try simp at hc2)) | (with_reducible refine GdT_split (fun hc => ?_) (fun hc => ?_) <;> (have hc2 := hc; try simp at hc2)) | (with_reducible refine WT_alt ?_ ?_) | omega)
              · have hkF := hF (stP_fit (W := wordsI) hcut hr hd (fun q => heq q.2)) g hk
                rw [decide_eq_false heq] at htn
                clear hT hF hok heq hcf hcf2
                generalize fullT (ps.map (·.1)) (qs.map (·.1)) = t at *
                repeat' (first | (simp (disch := first | omega | assumption | (simp only [List.length_set]; omega) | (simp [*] <;> fail) | assumption) [-Bool.decide_and, -Bool.decide_or, -Bool.not_and, -Bool.not_or, toNat_pred, toNat_succ, wrap64, wr_new, wr_new0, ok_if, ok_ifn, iadV_sl, makeV_int, decT, decF, over_at, *]) | (with_reducible refine Gd_split (fun hc => ?_) (fun hc => ?_) <;> (have hc2 := hc; try simp at hc2)) | (with_reducible refine Br_split (fun hc => ?_) (fun hc => ?_) <;> (have hc2 := hc; try simp at hc2)) | (with_reducible refine GdT_split (fun hc => ?_) (fun hc => ?_) <;> (have hc2 := hc; try simp at hc2)) | (with_reducible refine WT_alt ?_ ?_) | omega)
            · have hkF := hF (stP_fit (W := wordsI) hcut hr hd (fun q => hok q.1)) g hk
              rw [decide_eq_false hok] at hfc
              clear hT hF hok hcf hcf2 hst
              repeat' (first | (simp (disch := first | omega | assumption | (simp only [List.length_set]; omega) | (simp [*] <;> fail) | assumption) [-Bool.decide_and, -Bool.decide_or, -Bool.not_and, -Bool.not_or, toNat_pred, toNat_succ, wrap64, wr_new, wr_new0, ok_if, ok_ifn, iadV_sl, makeV_int, decT, decF, over_at, *]) | (with_reducible refine Gd_split (fun hc => ?_) (fun hc => ?_) <;> (have hc2 := hc; try simp at hc2)) | (with_reducible refine Br_split (fun hc => ?_) (fun hc => ?_) <;> (have hc2 := hc; try simp at hc2)) | (with_reducible refine GdT_split (fun hc => ?_) (fun hc => ?_) <;> (have hc2 := hc; try simp at hc2)) | (with_reducible refine WT_alt ?_ ?_) | omega)
        · have h1i : ¬ (ps.length : Int) = 1 := by omega
          have hWe : wordsI b0 (ps.map (·.1)).length = [] := by unfold wordsI; rw [if_neg (fun q => h1 (by simpa using q.2)), if_pos hb]
          have hN1 := hN0
          have hw2 : ∀ x ∈ ([] : List (List UInt8)), x.length ≤ 4 := by simp
          have hlw := hN1.arr.len
          obtain ⟨ow, how⟩ : ∃ ow, ow = ow0 := ⟨_, rfl⟩
          subst how
          obtain ⟨W, hWg⟩ : ∃ W : List (List UInt8), Hid ([] = W) := ⟨_, rfl⟩
          rw [show [] = W from hWg] at hN1 hlw hWe hw2
          have hcl : W.length ≤ 1 := by rw [← show [] = W from hWg]; simp
          clear hb hN0
          repeat' (first | (simp (disch := first | omega | assumption | (simp only [List.length_set]; omega) | (simp [*] <;> fail) | assumption) [-Bool.decide_and, -Bool.decide_or, -Bool.not_and, -Bool.not_or, toNat_pred, toNat_succ, wrap64, wr_new, wr_new0, ok_if, ok_ifn, iadV_sl, makeV_int, decT, decF, over_at, *, st]) | (with_reducible refine Gd_split (fun hc => ?_) (fun hc => ?_) <;> (have hc2 := hc; try simp at hc2)) | (with_reducible refine Br_split (fun hc => ?_) (fun hc => ?_) <;> (have hc2 := hc; try simp at hc2)) | (with_reducible refine GdT_split (fun hc => ?_) (fun hc => ?_) <;> (have hc2 := hc; try simp at hc2)) | (with_reducible refine WT_alt ?_ ?_) | omega)
          refine WL_forM 1152903912420817180 (by decide +kernel) (W.length) (fun i b g => i ≤ W.length ∧ b 44 = .lf (.int .i64 i) ∧ ∃ qs o, b 8 = .lf o ∧ NewD g1 g o 35 1 ssCells ssRows 51 qs ∧ New g1 g ow 9 1 (W.map st) ∧ Far o ow ∧ qs.length = i ∧ Hid (mapO numP W = (mapO numP (W.drop i)).map (qs.map (·.1) ++ ·))) (fun _ _ _ hi => hi.1) ⟨by omega, by simp, [], .nils, by simp, NewD.start hN1.kept, hN1, Far.nil_left, rfl, mapO_zero⟩ ?_
          clear hN1 
          rintro i b g ⟨hi, e1, qs, o, e2, hD, hN1, hf, hql, hM⟩
          have hM0 : mapO numP W = (mapO numP (W.drop i)).map (qs.map (·.1) ++ ·) := hM
          have hlw := hN1.arr.len
          by_cases hlt : i < W.length
          · have ai := hN1.arr.at_ (k := .i64) hlt
            have di := hN1.arr.rd1 hlt
            have hwl := hw2 _ (List.getElem_mem hlt)
            have hgl := hD.kept.1
            have hkg := hk1.trans hD.kept
            cases hq : numP W[i] with
            | none =>
              have hkF := hF (stP_words (W := wordsI) hcut hr (by rw [hWe]; exact mapO_fail hM0 hlt hq))
              clear hF hT hM hM0 hw2
              generalize W[i] = w at *
              repeat' (first | (simp (disch := first | omega | assumption | (simp only [List.length_set]; omega) | (simp [*] <;> fail) | assumption) [-Bool.decide_and, -Bool.decide_or, -Bool.not_and, -Bool.not_or, toNat_pred, toNat_succ, wrap64, wr_new, wr_new0, ok_if, ok_ifn, iadV_sl, makeV_int, decT, decF, over_at, *, st]) | (with_reducible refine Gd_split (fun hc => ?_) (fun hc => ?_) <;> (have hc2 := hc; try simp at hc2)) | (with_reducible refine Br_split (fun hc => ?_) (fun hc => ?_) <;> (have hc2 := hc; try simp at hc2)) | (with_reducible refine GdT_split (fun hc => ?_) (fun hc => ?_) <;> (have hc2 := hc; try simp at hc2)) | (with_reducible refine WT_alt ?_ ?_) | omega)
              refine c_ReadNumbers (S := S) (by omega) (by omega) (fun o3 g3 xs hx hN3 => ?_) (fun hx g3 hK3 => ?_)
              · rw [hq] at hx; cases hx
              · have hkF2 := hkF g3 (hkg.trans hK3)
                clear hkF
                repeat' (first | (simp (disch := first | omega | assumption | (simp only [List.length_set]; omega) | (simp [*] <;> fail) | assumption) [-Bool.decide_and, -Bool.decide_or, -Bool.not_and, -Bool.not_or, toNat_pred, toNat_succ, wrap64, wr_new, wr_new0, ok_if, ok_ifn, iadV_sl, makeV_int, decT, decF, over_at, *]) | (with_reducible refine Gd_split (fun hc => ?_) (fun hc => ?_) <;> (have hc2 := hc; try simp at hc2)) | (with_reducible refine Br_split (fun hc => ?_) (fun hc => ?_) <;> (have hc2 := hc; try simp at hc2)) | (with_reducible refine GdT_split (fun hc => ?_) (fun hc => ?_) <;> (have hc2 := hc; try simp at hc2)) | (with_reducible refine WT_alt ?_ ?_) | omega)
            | some xs =>
              have hstH : Hid (∀ l : Lf, mapO numP W = (mapO numP (W.drop (i + 1))).map (((qs ++ [(xs, l)]).map (·.1)) ++ ·)) := fun l => by rw [List.map_append]; exact mapO_step hM0 hlt hq
              clear hF hT hM hM0 hw2
              generalize W[i] = w at *
              repeat' (first | (simp (disch := first | omega | assumption | (simp only [List.length_set]; omega) | (simp [*] <;> fail) | assumption) [-Bool.decide_and, -Bool.decide_or, -Bool.not_and, -Bool.not_or, toNat_pred, toNat_succ, wrap64, wr_new, wr_new0, ok_if, ok_ifn, iadV_sl, makeV_int, decT, decF, over_at, *, st]) | (with_reducible refine Gd_split (fun hc => ?_) (fun hc => ?_) <;> (have hc2 := hc; try simp at hc2)) | (with_reducible refine Br_split (fun hc => ?_) (fun hc => ?_) <;> (have hc2 := hc; try simp at hc2)) | (with_reducible refine GdT_split (fun hc => ?_) (fun hc => ?_) <;> (have hc2 := hc; try simp at hc2)) | (with_reducible refine WT_alt ?_ ?_) | omega)
              refine c_ReadNumbers (S := S) (by omega) (by omega) (fun o3 g3 xs2 hx hN3 => ?_) (fun hx g3 hK3 => ?_)
              · rw [hq] at hx
                injection hx with hx
                subst hx
                obtain ⟨hf0, hf1⟩ := hD.fresh hN3
                have hD3 := hD.later hN3.kept
                have hN13 := hN1.later hN3.kept
                have hN3b := hN3.base hD.kept
                clear hD hN1 hN3 hq
                repeat' (first | (simp (disch := first | omega | assumption | (simp only [List.length_set]; omega) | (simp [*] <;> fail) | assumption) [-Bool.decide_and, -Bool.decide_or, -Bool.not_and, -Bool.not_or, toNat_pred, toNat_succ, wrap64, wr_new, wr_new0, ok_if, ok_ifn, iadV_sl, makeV_int, decT, decF, over_at, *, leavesAll, fillL]) | (with_reducible refine Gd_split (fun hc => ?_) (fun hc => ?_) <;> (have hc2 := hc; try simp at hc2)) | (with_reducible refine Br_split (fun hc => ?_) (fun hc => ?_) <;> (have hc2 := hc; try simp at hc2)) | (with_reducible refine GdT_split (fun hc => ?_) (fun hc => ?_) <;> (have hc2 := hc; try simp at hc2)) | (with_reducible refine WT_alt ?_ ?_) | omega)
                refine oc_pushL (r := [o3]) (bytes := 24) hD3.out (by omega) (by simp; omega) (fun o4 g4 hN4 hB4 => ?_) (by decide) rfl (by decide)
                have hP := hD3.push (a := xs) hN3b hf0 hf1 (Kept.refl _) hN4 hB4 rfl
                obtain ⟨hN14, hf4⟩ := hB4.other hD3.out hN13 hf
                clear hD3 hN13 hB4 hN4 hN3b hf0 hf1 hf
                repeat' (first | (simp (disch := first | omega | assumption | (simp only [List.length_set]; omega) | (simp [*] <;> fail) | assumption) [-Bool.decide_and, -Bool.decide_or, -Bool.not_and, -Bool.not_or, toNat_pred, toNat_succ, wrap64, wr_new, wr_new0, ok_if, ok_ifn, iadV_sl, makeV_int, decT, decF, over_at, *]) | (with_reducible refine Gd_split (fun hc => ?_) (fun hc => ?_) <;> (have hc2 := hc; try simp at hc2)) | (with_reducible refine Br_split (fun hc => ?_) (fun hc => ?_) <;> (have hc2 := hc; try simp at hc2)) | (with_reducible refine GdT_split (fun hc => ?_) (fun hc => ?_) <;> (have hc2 := hc; try simp at hc2)) | (with_reducible refine WT_alt ?_ ?_) | omega)
                first | exact ⟨by omega, _, hP, by simp [hql], hstH _⟩ | exact ⟨_, hP, by simp [hql], hstH _⟩
              · rw [hq] at hx; cases hx
          · have hiW : i = W.length := by omega
            have hd : mapO numP (wordsI b0 (ps.map (·.1)).length) = some (qs.map (·.1)) := by rw [hWe]; exact mapO_done hM0 hiW
            clear hM hM0 hw2
            subst hiW
            have hLg := hDL.later hD.kept
            have hfc := fun lim K => c_implIsState (S := S) (h := g) (lim := lim) (K := K) hLg.out.arr hLg.ins hD.out.arr hD.ins
            have hcf := fun p hp => (chP_nums hch p.1 (List.mem_map.2 ⟨p, hp, rfl⟩)).1
            have hcf2 : ∀ q ∈ qs, ∀ x ∈ q.1, CF x := fun q hq => mapO_mem (p := fun xs : List Nat => ∀ x ∈ xs, CF x) (fun x y e => (numP_some e).2.1) hd q.1 (List.mem_map.2 ⟨q, hq, rfl⟩)
            have hst := fun q lim K => c_stateText (S := S) (h := g) (lim := lim) (K := K) hLg.out.arr hLg.ins hcf hD.out.arr hD.ins hcf2 q
            have hk := hk1.trans hD.kept
            by_cases hok : isFit (ps.map (·.1)) (qs.map (·.1))
            · replace hst := hst hok
              rw [decide_eq_true hok] at hfc
              have htn := tneq (x := fullT (ps.map (·.1)) (qs.map (·.1))) (y := s)
              by_cases heq : fullT (ps.map (·.1)) (qs.map (·.1)) = s
              · have z1 := hDL.lvs_lt
                have z2 := hD.lvs_lt
                have hkT := hT o1 o g ps qs (stP_ok (W := wordsI) hcut hr hd hok heq) hLg (hD.base hk1) (fun s hs t ht q1 q2 e => by have := z1 s hs q1; have := z2 t ht q2; omega)
                rw [decide_eq_true heq] at htn
                clear hT hF hok heq hcf hcf2 z1 z2
                generalize fullT (ps.map (·.1)) (qs.map (·.1)) = t at *
                repeat' (first | (simp (disch := first | omega | assumption | (simp only [List.length_set]; omega) | (simp [*] <;> fail) | assumption) [-Bool.decide_and, -Bool.decide_or, -Bool.not_and, -Bool.not_or, toNat_pred, toNat_succ, wrap64, wr_new, wr_new0, ok_if, ok_ifn, iadV_sl, makeV_int, decT, decF, over_at, *]) | (with_reducible refine Gd_split (fun hc => ?_) (fun hc => ?_) <;> (have hc2 := hc; try simp at hc2)) | (with_reducible refine Br_split (fun hc => ?_) (fun hc => ?_) <;> (have hc2 := hc; try simp at hc2)) | (with_reducible refine GdT_split (fun hc => ?_) (fun hc => ?_) <;> (have hc2 := hc; try simp at hc2)) | (with_reducible refine WT_alt ?_ ?_) | omega)
              · have hkF := hF (stP_fit (W := wordsI) hcut hr hd (fun q => heq q.2)) g hk
                rw [decide_eq_false heq] at htn
                clear hT hF hok heq hcf hcf2
                generalize fullT (ps.map (·.1)) (qs.map (·.1)) = t at *
                repeat' (first | (simp (disch := first | omega | assumption | (simp only [List.length_set]; omega) | (simp [*] <;> fail) | assumption) [-Bool.decide_and, -Bool.decide_or, -Bool.not_and, -Bool.not_or, toNat_pred, toNat_succ, wrap64, wr_new, wr_new0, ok_if, ok_ifn, iadV_sl, makeV_int, decT, decF, over_at, *]) | (with_reducible refine Gd_split (fun hc => ?_) (fun hc => ?_) <;> (have hc2 := hc; try simp at hc2)) | (with_reducible refine Br_split (fun hc => ?_) (fun hc => ?_) <;> (have hc2 := hc; try simp at hc2)) | (with_reducible refine GdT_split (fun hc => ?_) (fun hc => ?_) <;> (have hc2 := hc; try simp at hc2)) | (with_reducible refine WT_alt ?_ ?_) | omega)
            · have hkF := hF (stP_fit (W := wordsI) hcut hr hd (fun q => hok q.1)) g hk
              rw [decide_eq_false hok] at hfc
              clear hT hF hok hcf hcf2 hst
              repeat' (first | (simp (disch := first | omega | assumption | (simp only [List.length_set]; omega) | (simp [*] <;> fail) | assumption) [-Bool.decide_and, -Bool.decide_or, -Bool.not_and, -Bool.not_or, toNat_pred, toNat_succ, wrap64, wr_new, wr_new0, ok_if, ok_ifn, iadV_sl, makeV_int, decT, decF, over_at, *]) | (with_reducible refine Gd_split (fun hc => ?_) (fun hc => ?_) <;> (have hc2 := hc; try simp at hc2)) | (with_reducible refine Br_split (fun hc => ?_) (fun hc => ?_) <;> (have hc2 := hc; try simp at hc2)) | (with_reducible refine GdT_split (fun hc => ?_) (fun hc => ?_) <;> (have hc2 := hc; try simp at hc2)) | (with_reducible refine WT_alt ?_ ?_) | omega)
      · rw [if_neg hb] at hN0
        rw [decide_eq_false hb] at hnn
        have hWe : wordsI b0 (ps.map (·.1)).length = cut 59 b0 := by unfold wordsI; rw [if_neg (fun q => hb q.1), if_neg hb]
        have hN1 := hN0
        have hw2 := cut_piece (m := 59) (s := b0)
        have hcl := cut_len (m := 59) (s := b0)
        have hlw := hN1.arr.len
        obtain ⟨ow, how⟩ : ∃ ow, ow = ow0 := ⟨_, rfl⟩
        subst how
        clear hb hN0
        generalize cut 59 b0 = W at *
        repeat' (first | (simp (disch := first | omega | assumption | (simp only [List.length_set]; omega) | (simp [*] <;> fail) | assumption) [-Bool.decide_and, -Bool.decide_or, -Bool.not_and, -Bool.not_or, toNat_pred, toNat_succ, wrap64, wr_new, wr_new0, ok_if, ok_ifn, iadV_sl, makeV_int, decT, decF, over_at, *, st]) | (with_reducible refine Gd_split (fun hc => ?_) (fun hc => ?_) <;> (have hc2 := hc; try simp at hc2)) | (with_reducible refine Br_split (fun hc => ?_) (fun hc => ?_) <;> (have hc2 := hc; try simp at hc2)) | (with_reducible refine GdT_split (fun hc => ?_) (fun hc => ?_) <;> (have hc2 := hc; try simp at hc2)) | (with_reducible refine WT_alt ?_ ?_) | omega)
        refine WL_forM 1152903912420817180 (by decide +kernel) (W.length) (fun i b g => i ≤ W.length ∧ b 44 = .lf (.int .i64 i) ∧ ∃ qs o, b 8 = .lf o ∧ NewD g1 g o 35 1 ssCells ssRows 51 qs ∧ New g1 g ow 9 1 (W.map st) ∧ Far o ow ∧ qs.length = i ∧ Hid (mapO numP W = (mapO numP (W.drop i)).map (qs.map (·.1) ++ ·))) (fun _ _ _ hi => hi.1) ⟨by omega, by simp, [], .nils, by simp, NewD.start hN1.kept, hN1, Far.nil_left, rfl, mapO_zero⟩ ?_
        clear hN1 
        rintro i b g ⟨hi, e1, qs, o, e2, hD, hN1, hf, hql, hM⟩
        have hM0 : mapO numP W = (mapO numP (W.drop i)).map (qs.map (·.1) ++ ·) := hM
        have hlw := hN1.arr.len
        by_cases hlt : i < W.length
        · have ai := hN1.arr.at_ (k := .i64) hlt
          have di := hN1.arr.rd1 hlt
          have hwl := hw2 _ (List.getElem_mem hlt)
          have hgl := hD.kept.1
          have hkg := hk1.trans hD.kept
          cases hq : numP W[i] with
          | none =>
            have hkF := hF (stP_words (W := wordsI) hcut hr (by rw [hWe]; exact mapO_fail hM0 hlt hq))
            clear hF hT hM hM0 hw2
            generalize W[i] = w at *
            repeat' (first | (simp (disch := first | omega | assumption | (simp only [List.length_set]; omega) | (simp [*] <;> fail) | assumption) [-Bool.decide_and, -Bool.decide_or, -Bool.not_and, -Bool.not_or, toNat_pred, toNat_succ, wrap64, wr_new, wr_new0, ok_if, ok_ifn, iadV_sl, makeV_int, decT, decF, over_at, *, st]) | (with_reducible refine Gd_split (fun hc => ?_) (fun hc => ?_) <;> (have hc2 := hc; try simp at hc2)) | (with_reducible refine Br_split (fun hc => ?_) (fun hc => ?_) <;> (have hc2 := hc; try simp at hc2)) | (with_reducible refine GdT_split (fun hc => ?_) (fun hc => ?_) <;> (have hc2 := hc; try simp at hc2)) | (with_reducible refine WT_alt ?_ ?_) | omega)
            refine c_ReadNumbers (S := S) (by omega) (by omega) (fun o3 g3 xs hx hN3 => ?_) (fun hx g3 hK3 => ?_)
            · rw [hq] at hx; cases hx
            · have hkF2 := hkF g3 (hkg.trans hK3)
              clear hkF
              repeat' (first | (simp (disch := first | omega | assumption | (simp only [List.length_set]; omega) | (simp [*] <;> fail) | assumption) [-Bool.decide_and, -Bool.decide_or, -Bool.not_and, -Bool.not_or, toNat_pred, toNat_succ, wrap64, wr_new, wr_new0, ok_if, ok_ifn, iadV_sl, makeV_int, decT, decF, over_at, *]) | (with_reducible refine Gd_split (fun hc => ?_) (fun hc => ?_) <;> (have hc2 := hc; try simp at hc2)) | (with_reducible refine Br_split (fun hc => ?_) (fun hc => ?_) <;> (have hc2 := hc; try simp at hc2)) | (with_reducible refine GdT_split (fun hc => ?_) (fun hc => ?_) <;> (have hc2 := hc; try simp at hc2)) | (with_reducible refine WT_alt ?_ ?_) | omega)
          | some xs =>
            have hstH : Hid (∀ l : Lf, mapO numP W = (mapO numP (W.drop (i + 1))).map (((qs ++ [(xs, l)]).map (·.1)) ++ ·)) := fun l => by rw [List.map_append]; exact mapO_step hM0 hlt hq
            clear hF hT hM hM0 hw2
            generalize W[i] = w at *
            repeat' (first | (simp (disch := first | omega | assumption | (simp only [List.length_set]; omega) | (simp [*] <;> fail) | assumption) [-Bool.decide_and, -Bool.decide_or, -Bool.not_and, -Bool.not_or, toNat_pred, toNat_succ, wrap64, wr_new, wr_new0, ok_if, ok_ifn, iadV_sl, makeV_int, decT, decF, over_at, *, st]) | (with_reducible refine Gd_split (fun hc => ?_) (fun hc => ?_) <;> (have hc2 := hc; try simp at hc2)) | (with_reducible refine Br_split (fun hc => ?_) (fun hc => ?_) <;> (have hc2 := hc; try simp at hc2)) | (with_reducible refine GdT_split (fun hc => ?_) (fun hc => ?_) <;> (have hc2 := hc; try simp at hc2)) | (with_reducible refine WT_alt ?_ ?_) | omega)
            refine c_ReadNumbers (S := S) (by omega) (by omega) (fun o3 g3 xs2 hx hN3 => ?_) (fun hx g3 hK3 => ?_)
            · rw [hq] at hx
              injection hx with hx
              subst hx
              obtain ⟨hf0, hf1⟩ := hD.fresh hN3
              have hD3 := hD.later hN3.kept
              have hN13 := hN1.later hN3.kept
              have hN3b := hN3.base hD.kept
              clear hD hN1 hN3 hq
              repeat' (first | (simp (disch := first | omega | assumption | (simp only [List.length_set]; omega) | (simp [*] <;> fail) | assumption) [-Bool.decide_and, -Bool.decide_or, -Bool.not_and, -Bool.not_or, toNat_pred, toNat_succ, wrap64, wr_new, wr_new0, ok_if, ok_ifn, iadV_sl, makeV_int, decT, decF, over_at, *, leavesAll, fillL]) | (with_reducible refine Gd_split (fun hc => ?_) (fun hc => ?_) <;> (have hc2 := hc; try simp at hc2)) | (with_reducible refine Br_split (fun hc => ?_) (fun hc => ?_) <;> (have hc2 := hc; try simp at hc2)) | (with_reducible refine GdT_split (fun hc => ?_) (fun hc => ?_) <;> (have hc2 := hc; try simp at hc2)) | (with_reducible refine WT_alt ?_ ?_) | omega)
              refine oc_pushL (r := [o3]) (bytes := 24) hD3.out (by omega) (by simp; omega) (fun o4 g4 hN4 hB4 => ?_) (by decide) rfl (by decide)
              have hP := hD3.push (a := xs) hN3b hf0 hf1 (Kept.refl _) hN4 hB4 rfl
              obtain ⟨hN14, hf4⟩ := hB4.other hD3.out hN13 hf
              clear hD3 hN13 hB4 hN4 hN3b hf0 hf1 hf
              repeat' (first | (simp (disch := first | omega | assumption | (simp only [List.length_set]; omega) | (simp [*] <;> fail) | assumption) [-Bool.decide_and, -Bool.decide_or, -Bool.not_and, -Bool.not_or, toNat_pred, toNat_succ, wrap64, wr_new, wr_new0, ok_if, ok_ifn, iadV_sl, makeV_int, decT, decF, over_at, *]) | (with_reducible refine Gd_split (fun hc => ?_) (fun hc => ?_) <;> (have hc2 := hc; try simp at hc2)) | (with_reducible refine Br_split (fun hc => ?_) (fun hc => ?_) <;> (have hc2 := hc; try simp at hc2)) | (with_reducible refine GdT_split (fun hc => ?_) (fun hc => ?_) <;> (have hc2 := hc; try simp at hc2)) | (with_reducible refine WT_alt ?_ ?_) | omega)
              first | exact ⟨by omega, _, hP, by simp [hql], hstH _⟩ | exact ⟨_, hP, by simp [hql], hstH _⟩
            · rw [hq] at hx; cases hx
        · have hiW : i = W.length := by omega
          have hd : mapO numP (wordsI b0 (ps.map (·.1)).length) = some (qs.map (·.1)) := by rw [hWe]; exact mapO_done hM0 hiW
          clear hM hM0 hw2
          subst hiW
          have hLg := hDL.later hD.kept
          have hfc := fun lim K => c_implIsState (S := S) (h := g) (lim := lim) (K := K) hLg.out.arr hLg.ins hD.out.arr hD.ins
          have hcf := fun p hp => (chP_nums hch p.1 (List.mem_map.2 ⟨p, hp, rfl⟩)).1
          have hcf2 : ∀ q ∈ qs, ∀ x ∈ q.1, CF x := fun q hq => mapO_mem (p := fun xs : List Nat => ∀ x ∈ xs, CF x) (fun x y e => (numP_some e).2.1) hd q.1 (List.mem_map.2 ⟨q, hq, rfl⟩)
          have hst := fun q lim K => c_stateText (S := S) (h := g) (lim := lim) (K := K) hLg.out.arr hLg.ins hcf hD.out.arr hD.ins hcf2 q
          have hk := hk1.trans hD.kept
          by_cases hok : isFit (ps.map (·.1)) (qs.map (·.1))
          · replace hst := hst hok
            rw [decide_eq_true hok] at hfc
            have htn := tneq (x := fullT (ps.map (·.1)) (qs.map (·.1))) (y := s)
            by_cases heq : fullT (ps.map (·.1)) (qs.map (·.1)) = s
            · have z1 := hDL.lvs_lt
              have z2 := hD.lvs_lt
              have hkT := hT o1 o g ps qs (stP_ok (W := wordsI) hcut hr hd hok heq) hLg (hD.base hk1) (fun s hs t ht q1 q2 e => by have := z1 s hs q1; have := z2 t ht q2; omega)
              rw [decide_eq_true heq] at htn
              clear hT hF hok heq hcf hcf2 z1 z2
              generalize fullT (ps.map (·.1)) (qs.map (·.1)) = t at *
              repeat' (first | (simp (disch := first | omega | assumption | (simp only [List.length_set]; omega) | (simp [*] <;> fail) | assumption) [-Bool.decide_and, -Bool.decide_or, -Bool.not_and, -Bool.not_or, toNat_pred, toNat_succ, wrap64, wr_new, wr_new0, ok_if, ok_ifn, iadV_sl, makeV_int, decT, decF, over_at, *]) | (with_reducible refine Gd_split (fun hc => ?_) (fun hc => ?_) <;> (have hc2 := hc; try simp at hc2)) | (with_reducible refine Br_split (fun hc => ?_) (fun hc => ?_) <;> (have hc2 := hc; try simp at hc2)) | (with_reducible refine GdT_split (fun hc => ?_) (fun hc => ?_) <;> (have hc2 := hc; try simp at hc2)) | (with_reducible refine WT_alt ?_ ?_) | omega)
            · have hkF := hF (stP_fit (W := wordsI) hcut hr hd (fun q => heq q.2)) g hk
              rw [decide_eq_false heq] at htn
              clear hT hF hok heq hcf hcf2
              generalize fullT (ps.map (·.1)) (qs.map (·.1)) = t at *
              repeat' (first | (simp (disch := first | omega | assumption | (simp only [List.length_set]; omega) | (simp [*] <;> fail) | assumption) [-Bool.decide_and, -Bool.decide_or, -Bool.not_and, -Bool.not_or, toNat_pred, toNat_succ, wrap64, wr_new, wr_new0, ok_if, ok_ifn, iadV_sl, makeV_int, decT, decF, over_at, *]) | (with_reducible refine Gd_split (fun hc => ?_) (fun hc => ?_) <;> (have hc2 := hc; try simp at hc2)) | (with_reducible refine Br_split (fun hc => ?_) (fun hc => ?_) <;> (have hc2 := hc; try simp at hc2)) | (with_reducible refine GdT_split (fun hc => ?_) (fun hc => ?_) <;> (have hc2 := hc; try simp at hc2)) | (with_reducible refine WT_alt ?_ ?_) | omega)
          · have hkF := hF (stP_fit (W := wordsI) hcut hr hd (fun q => hok q.1)) g hk
            rw [decide_eq_false hok] at hfc
            clear hT hF hok hcf hcf2 hst
            repeat' (first | (simp (disch := first | omega | assumption | (simp only [List.length_set]; omega) | (simp [*] <;> fail) | assumption) [-Bool.decide_and, -Bool.decide_or, -Bool.not_and, -Bool.not_or, toNat_pred, toNat_succ, wrap64, wr_new, wr_new0, ok_if, ok_ifn, iadV_sl, makeV_int, decT, decF, over_at, *]) | (with_reducible refine Gd_split (fun hc => ?_) (fun hc => ?_) <;> (have hc2 := hc; try simp at hc2)) | (with_reducible refine Br_split (fun hc => ?_) (fun hc => ?_) <;> (have hc2 := hc; try simp at hc2)) | (with_reducible refine GdT_split (fun hc => ?_) (fun hc => ?_) <;> (have hc2 := hc; try simp at hc2)) | (with_reducible refine WT_alt ?_ ?_) | omega)
    · have hkF := hF (stP_chain (W := wordsI) hcut hr) g1 (hkP.trans hK)
      clear hT hF
      repeat' (first | (simp (disch := first | omega | assumption | (simp only [List.length_set]; omega) | (simp [*] <;> fail) | assumption) [-Bool.decide_and, -Bool.decide_or, -Bool.not_and, -Bool.not_or, toNat_pred, toNat_succ, wrap64, wr_new, wr_new0, ok_if, ok_ifn, iadV_sl, makeV_int, decT, decF, over_at, *]) | (with_reducible refine Gd_split (fun hc => ?_) (fun hc => ?_) <;> (have hc2 := hc; try simp at hc2)) | (with_reducible refine Br_split (fun hc => ?_) (fun hc => ?_) <;> (have hc2 := hc; try simp at hc2)) | (with_reducible refine GdT_split (fun hc => ?_) (fun hc => ?_) <;> (have hc2 := hc; try simp at hc2)) | (with_reducible refine WT_alt ?_ ?_) | omega)
  · have hkF := hF (stP_cut (W := wordsI) h3) g0 hkP
    have h3i : ¬ ((cut 124 s).length : Int) = 3 := by omega
    clear hT hF h3
    repeat' (first | (simp (disch := first | omega | assumption | (simp only [List.length_set]; omega) | (simp [*] <;> fail) | assumption) [-Bool.decide_and, -Bool.decide_or, -Bool.not_and, -Bool.not_or, toNat_pred, toNat_succ, wrap64, wr_new, wr_new0, ok_if, ok_ifn, iadV_sl, makeV_int, decT, decF, over_at, *]) | (with_reducible refine Gd_split (fun hc => ?_) (fun hc => ?_) <;> (have hc2 := hc; try simp at hc2)) | (with_reducible refine Br_split (fun hc => ?_) (fun hc => ?_) <;> (have hc2 := hc; try simp at hc2)) | (with_reducible refine GdT_split (fun hc => ?_) (fun hc => ?_) <;> (have hc2 := hc; try simp at hc2)) | (with_reducible refine WT_alt ?_ ?_) | omega)
set_option maxRecDepth 20000 in
set_option maxHeartbeats 4000000 in
theorem c_specReadState (hs : s.length ≤ 2000000) (hl : lim ≤ h.length)
    (hT : ∀ o1 o2 g ps qs, stateP s = some (ps.map (·.1), qs.map (·.1)) → NewD h g o1 44 3 Eff.cells Eff.nums 51 ps → NewD h g o2 35 1 ssCells ssRows 51 qs → (∀ s ∈ lvs o1 ps, ∀ t ∈ lvs o2 qs, Far s t) → K (.tup [.lf o1, .lf o2, .lf (.bool true)]) g)
    (hF : stateP s = none → ∀ g, Kept h g → K (.tup [.lf .nils, .lf .nils, .lf (.bool false)]) g) : CallT S false 4 [.lf (.str ⟨s.toArray⟩)] h lim K := by
  have hlen := tlen (l := s)
  by_cases hlong : 10000 < s.length
  · have hli : (10000 : Int) < (s.length : Int) := by omega
    have hkF := hF (stateP_long hlong) h (Kept.refl h)
    clear hT hF
    refine CallT_of_body (F := L4) (HasUj.f4) rfl ?_; unfold L4; dsimp only []
    repeat' (first | (simp (disch := first | omega | assumption | (simp only [List.length_set]; omega) | (simp [*] <;> fail) | assumption) [-Bool.decide_and, -Bool.decide_or, -Bool.not_and, -Bool.not_or, toNat_pred, toNat_succ, wrap64, wr_new, wr_new0, ok_if, ok_ifn, iadV_sl, makeV_int, decT, decF, over_at, *]) | (with_reducible refine Gd_split (fun hc => ?_) (fun hc => ?_) <;> (have hc2 := hc; try simp at hc2)) | (with_reducible refine Br_split (fun hc => ?_) (fun hc => ?_) <;> (have hc2 := hc; try simp at hc2)) | (with_reducible refine GdT_split (fun hc => ?_) (fun hc => ?_) <;> (have hc2 := hc; try simp at hc2)) | (with_reducible refine WT_alt ?_ ?_) | omega)
  · have hli : ¬ (10000 : Int) < (s.length : Int) := by omega
    refine CallT_of_body (F := L4) (HasUj.f4) rfl ?_; unfold L4; dsimp only []
    repeat' (first | (simp (disch := first | omega | assumption | (simp only [List.length_set]; omega) | (simp [*] <;> fail) | assumption) [-Bool.decide_and, -Bool.decide_or, -Bool.not_and, -Bool.not_or, toNat_pred, toNat_succ, wrap64, wr_new, wr_new0, ok_if, ok_ifn, iadV_sl, makeV_int, decT, decF, over_at, *]) | (with_reducible refine Gd_split (fun hc => ?_) (fun hc => ?_) <;> (have hc2 := hc; try simp at hc2)) | (with_reducible refine Br_split (fun hc => ?_) (fun hc => ?_) <;> (have hc2 := hc; try simp at hc2)) | (with_reducible refine GdT_split (fun hc => ?_) (fun hc => ?_) <;> (have hc2 := hc; try simp at hc2)) | (with_reducible refine WT_alt ?_ ?_) | omega)
    refine c_l01Cut (S := S) (m := 124) hs hl fun oP g0 hP => ?_
    have hlP := hP.arr.len
    have hkP := hP.kept
    have hg0 := hkP.1
    by_cases h3 : (cut 124 s).length = 3
    · obtain ⟨a, b0, c, hcut⟩ := len_three h3
      have hpl := cut_piece (m := 124) (s := s)
      rw [hcut] at hP hlP hpl
      obtain ⟨⟨a0, r0⟩, _, _⟩ := three hP.arr
      have hal := hpl a (by simp)
      have hbl := hpl b0 (by simp)
      simp only [List.length_cons, List.length_nil] at hlP
      clear hpl h3
      repeat' (first | (simp (disch := first | omega | assumption | (simp only [List.length_set]; omega) | (simp [*] <;> fail) | assumption) [-Bool.decide_and, -Bool.decide_or, -Bool.not_and, -Bool.not_or, toNat_pred, toNat_succ, wrap64, wr_new, wr_new0, ok_if, ok_ifn, iadV_sl, makeV_int, decT, decF, over_at, *, st]) | (with_reducible refine Gd_split (fun hc => ?_) (fun hc => ?_) <;> (have hc2 := hc; try simp at hc2)) | (with_reducible refine Br_split (fun hc => ?_) (fun hc => ?_) <;> (have hc2 := hc; try simp at hc2)) | (with_reducible refine GdT_split (fun hc => ?_) (fun hc => ?_) <;> (have hc2 := hc; try simp at hc2)) | (with_reducible refine WT_alt ?_ ?_) | omega)
      refine c_l08Read (S := S) (by omega) (by omega) (fun o1 g1 ps hr hDL0 => ?_) (fun hr o1 g1 hK => ?_)
      · obtain ⟨hch, hisC⟩ := readR_is hr
        have hDL := hDL0.base hkP
        have hk1 := hDL.kept
        have hg1 := hk1.1
        have hP1 := hP.later hDL0.kept
        obtain ⟨_, ⟨b1, s1⟩, _⟩ := three hP1.arr
        clear a0 r0
        repeat' (first | (simp (disch := first | omega | assumption | (simp only [List.length_set]; omega) | (simp [*] <;> fail) | assumption) [-Bool.decide_and, -Bool.decide_or, -Bool.not_and, -Bool.not_or, toNat_pred, toNat_succ, wrap64, wr_new, wr_new0, ok_if, ok_ifn, iadV_sl, makeV_int, decT, decF, over_at, *, st]) | (with_reducible refine Gd_split (fun hc => ?_) (fun hc => ?_) <;> (have hc2 := hc; try simp at hc2)) | (with_reducible refine Br_split (fun hc => ?_) (fun hc => ?_) <;> (have hc2 := hc; try simp at hc2)) | (with_reducible refine GdT_split (fun hc => ?_) (fun hc => ?_) <;> (have hc2 := hc; try simp at hc2)) | (with_reducible refine WT_alt ?_ ?_) | omega)
        refine c_l01Cut (S := S) (m := 59) (by omega) (by omega) fun ow g2 hN0 => ?_
        have hLl := hDL.out.arr.len
        have z1 : NewD g1 (g2 ++ [⟨[], .own 35 1⟩]) (.sl g2.length 0 0 1) 35 1 ssCells ssRows 51 [] := NewD.lit hN0.kept
        have hf0 : Far (.sl g2.length 0 0 1) ow := fun q1 q2 => by
          have := (hN0.lt q2).2
          show g2.length ≠ _
          omega
        have hN1 := hN0.later (Kept.app g2 [⟨[], .own 35 1⟩])
        have hw2 := cut_piece (m := 59) (s := b0)
        have hcl := cut_len (m := 59) (s := b0)
        have hlw := hN1.arr.len
        clear b1 s1 hP hP1 hDL0 hN0
        by_cases h0 : ps.length = 0
        · have h0i : (ps.length : Int) = 0 := by omega
          have hd0 : mapO numP (wordsR b0 (ps.map (·.1)).length) = some [] := by unfold wordsR; rw [if_pos (by simpa using h0)]; rfl
          repeat' (first | (simp (disch := first | omega | assumption | (simp only [List.length_set]; omega) | (simp [*] <;> fail) | assumption) [-Bool.decide_and, -Bool.decide_or, -Bool.not_and, -Bool.not_or, toNat_pred, toNat_succ, wrap64, wr_new, wr_new0, ok_if, ok_ifn, iadV_sl, makeV_int, decT, decF, over_at, *, leavesAll, fillL]) | (with_reducible refine Gd_split (fun hc => ?_) (fun hc => ?_) <;> (have hc2 := hc; try simp at hc2)) | (with_reducible refine Br_split (fun hc => ?_) (fun hc => ?_) <;> (have hc2 := hc; try simp at hc2)) | (with_reducible refine GdT_split (fun hc => ?_) (fun hc => ?_) <;> (have hc2 := hc; try simp at hc2)) | (with_reducible refine WT_alt ?_ ?_) | omega)
          refine WL_forM 1152921470247116316 (by decide +kernel) (0) (fun i b g => i ≤ 0 ∧ b 10 = .lf (.int .i64 i) ∧ ∃ qs o, b 9 = .lf o ∧ NewD g1 g o 35 1 ssCells ssRows 51 qs ∧ Hid (qs = []) ∧ lenV (.lf ow) = some (.lf (.int .i64 ((cut 59 b0).length : Int)))) (fun _ _ _ hi => hi.1) ⟨by omega, by simp, [], _, by simp, z1, rfl, hlw⟩ ?_
          clear hN1 z1 hf0 hlw
          rintro i b g ⟨hi, e1, qs, o, e2, hD, hqs, hlw⟩
          have hi0 : i = 0 := by omega
          subst hi0
          have hd : mapO numP (wordsR b0 (ps.map (·.1)).length) = some (qs.map (·.1)) := by rw [show qs = [] from hqs]; exact hd0
          clear hqs hd0 hw2
          by_cases hW0 : (0 : Int) < ((cut 59 b0).length : Int)
          · generalize (cut 59 b0).length = wl at *
            have hLg := hDL.later hD.kept
            have hfc := fun lim K => c_l08Fit (S := S) (h := g) (lim := lim) (K := K) hLg.out.arr hLg.ins hD.out.arr hD.ins
            have hcf := fun p hp => (chP_nums hch p.1 (List.mem_map.2 ⟨p, hp, rfl⟩)).1
            have hcf2 : ∀ q ∈ qs, ∀ x ∈ q.1, CF x := fun q hq => mapO_mem (p := fun xs : List Nat => ∀ x ∈ xs, CF x) (fun x y e => (numP_some e).2.1) hd q.1 (List.mem_map.2 ⟨q, hq, rfl⟩)
            have hst := fun q lim K => c_l08State (S := S) (h := g) (lim := lim) (K := K) hLg.out.arr hLg.ins hcf hD.out.arr hD.ins hcf2 q
            have hk := hk1.trans hD.kept
            by_cases hok : isFit (ps.map (·.1)) (qs.map (·.1))
            · replace hst := hst hok
              rw [decide_eq_true hok] at hfc
              have htn := tneq (x := fullT (ps.map (·.1)) (qs.map (·.1))) (y := s)
              by_cases heq : fullT (ps.map (·.1)) (qs.map (·.1)) = s
              · have z1 := hDL.lvs_lt
                have z2 := hD.lvs_lt
                have hkT := hT o1 o g ps qs (stP_same.symm.trans <| stP_ok (W := wordsR) hcut hr hd hok heq) hLg (hD.base hk1) (fun s hs t ht q1 q2 e => by have := z1 s hs q1; have := z2 t ht q2; omega)
                rw [decide_eq_true heq] at htn
                clear hT hF hok heq hcf hcf2 z1 z2
                generalize fullT (ps.map (·.1)) (qs.map (·.1)) = t at *
                repeat' (first | (simp (disch := first | omega | assumption | (simp only [List.length_set]; omega) | (simp [*] <;> fail) | assumption) [-Bool.decide_and, -Bool.decide_or, -Bool.not_and, -Bool.not_or, toNat_pred, toNat_succ, wrap64, wr_new, wr_new0, ok_if, ok_ifn, iadV_sl, makeV_int, decT, decF, over_at, *]) | (with_reducible refine Gd_split (fun hc => ?_) (fun hc => ?_) <;> (have hc2 := hc; try simp at hc2)) | (with_reducible refine Br_split (fun hc => ?_) (fun hc => ?_) <;> (have hc2 := hc; try simp at hc2)) | (with_reducible refine GdT_split (fun hc => ?_) (fun hc => ?_) <;> (have hc2 := hc; try simp at hc2)) | (with_reducible refine WT_alt ?_ ?_) | omega)
              · have hkF := hF (stP_same.symm.trans <| stP_fit (W := wordsR) hcut hr hd (fun q => heq q.2)) g hk
                rw [decide_eq_false heq] at htn
                clear hT hF hok heq hcf hcf2
                generalize fullT (ps.map (·.1)) (qs.map (·.1)) = t at *
                repeat' (first | (simp (disch := first | omega | assumption | (simp only [List.length_set]; omega) | (simp [*] <;> fail) | assumption) [-Bool.decide_and, -Bool.decide_or, -Bool.not_and, -Bool.not_or, toNat_pred, toNat_succ, wrap64, wr_new, wr_new0, ok_if, ok_ifn, iadV_sl, makeV_int, decT, decF, over_at, *]) | (with_reducible refine Gd_split (fun hc => ?_) (fun hc => ?_) <;> (have hc2 := hc; try simp at hc2)) | (with_reducible refine Br_split (fun hc => ?_) (fun hc => ?_) <;> (have hc2 := hc; try simp at hc2)) | (with_reducible refine GdT_split (fun hc => ?_) (fun hc => ?_) <;> (have hc2 := hc; try simp at hc2)) | (with_reducible refine WT_alt ?_ ?_) | omega)
            · have hkF := hF (stP_same.symm.trans <| stP_fit (W := wordsR) hcut hr hd (fun q => hok q.1)) g hk
              rw [decide_eq_false hok] at hfc
              clear hT hF hok hcf hcf2 hst
              repeat' (first | (simp (disch := first | omega | assumption | (simp only [List.length_set]; omega) | (simp [*] <;> fail) | assumption) [-Bool.decide_and, -Bool.decide_or, -Bool.not_and, -Bool.not_or, toNat_pred, toNat_succ, wrap64, wr_new, wr_new0, ok_if, ok_ifn, iadV_sl, makeV_int, decT, decF, over_at, *]) | (with_reducible refine Gd_split (fun hc => ?_) (fun hc => ?_) <;> (have hc2 := hc; try simp at hc2)) | (with_reducible refine Br_split (fun hc => ?_) (fun hc => ?_) <;> (have hc2 := hc; try simp at hc2)) | (with_reducible refine GdT_split (fun hc => ?_) (fun hc => ?_) <;> (have hc2 := hc; try simp at hc2)) | (with_reducible refine WT_alt ?_ ?_) | omega)
          · generalize (cut 59 b0).length = wl at *
            have hLg := hDL.later hD.kept
            have hfc := fun lim K => c_l08Fit (S := S) (h := g) (lim := lim) (K := K) hLg.out.arr hLg.ins hD.out.arr hD.ins
            have hcf := fun p hp => (chP_nums hch p.1 (List.mem_map.2 ⟨p, hp, rfl⟩)).1
            have hcf2 : ∀ q ∈ qs, ∀ x ∈ q.1, CF x := fun q hq => mapO_mem (p := fun xs : List Nat => ∀ x ∈ xs, CF x) (fun x y e => (numP_some e).2.1) hd q.1 (List.mem_map.2 ⟨q, hq, rfl⟩)
            have hst := fun q lim K => c_l08State (S := S) (h := g) (lim := lim) (K := K) hLg.out.arr hLg.ins hcf hD.out.arr hD.ins hcf2 q
            have hk := hk1.trans hD.kept
            by_cases hok : isFit (ps.map (·.1)) (qs.map (·.1))
            · replace hst := hst hok
              rw [decide_eq_true hok] at hfc
              have htn := tneq (x := fullT (ps.map (·.1)) (qs.map (·.1))) (y := s)
              by_cases heq : fullT (ps.map (·.1)) (qs.map (·.1)) = s
              · have z1 := hDL.lvs_lt
                have z2 := hD.lvs_lt
                have hkT := hT o1 o g ps qs (stP_same.symm.trans <| stP_ok (W := wordsR) hcut hr hd hok heq) hLg (hD.base hk1) (fun s hs t ht q1 q2 e => by have := z1 s hs q1; have := z2 t ht q2; omega)
                rw [decide_eq_true heq] at htn
                clear hT hF hok heq hcf hcf2 z1 z2
                generalize fullT (ps.map (·.1)) (qs.map (·.1)) = t at *
                repeat' (first | (simp (disch := first | omega | assumption | (simp only [List.length_set]; omega) | (simp [*] <;> fail) | assumption) [-Bool.decide_and, -Bool.decide_or, -Bool.not_and, -Bool.not_or, toNat_pred, toNat_succ, wrap64, wr_new, wr_new0, ok_if, ok_ifn, iadV_sl, makeV_int, decT, decF, over_at, *]) | (with_reducible refine Gd_split (fun hc => ?_) (fun hc => ?_) <;> (have hc2 := hc; try simp at hc2)) | (with_reducible refine Br_split (fun hc => ?_) (fun hc => ?_) <;> (have hc2 := hc; try simp at hc2)) | (with_reducible refine GdT_split (fun hc => ?_) (fun hc => ?_) <;> (have hc2 := hc; try simp at hc2)) | (with_reducible refine WT_alt ?_ ?_) | omega)
              · have hkF := hF (stP_same.symm.trans <| stP_fit (W := wordsR) hcut hr hd (fun q => heq q.2)) g hk
                rw [decide_eq_false heq] at htn
                clear hT hF hok heq hcf hcf2
                generalize fullT (ps.map (·.1)) (qs.map (·.1)) = t at *
                repeat' (first | (simp (disch := first | omega | assumption | (simp only [List.length_set]; omega) | (simp [*] <;> fail) | assumption) [-Bool.decide_and, -Bool.decide_or, -Bool.not_and, -Bool.not_or, toNat_pred, toNat_succ, wrap64, wr_new, wr_new0, ok_if, ok_ifn, iadV_sl, makeV_int, decT, decF, over_at, *]) | (with_reducible refine Gd_split (fun hc => ?_) (fun hc => ?_) <;> (have hc2 := hc; try simp at hc2)) | (with_reducible refine Br_split (fun hc => ?_) (fun hc => ?_) <;> (have hc2 := hc; try simp at hc2)) | (with_reducible refine GdT_split (fun hc => ?_) (fun hc => ?_) <;> (have hc2 := hc; try simp at hc2)) | (with_reducible refine WT_alt ?_ ?_) | omega)
            · have hkF := hF (stP_same.symm.trans <| stP_fit (W := wordsR) hcut hr hd (fun q => hok q.1)) g hk
              rw [decide_eq_false hok] at hfc
              clear hT hF hok hcf hcf2 hst
              repeat' (first | (simp (disch := first | omega | assumption | (simp only [List.length_set]; omega) | (simp [*] <;> fail) | assumption) [-Bool.decide_and, -Bool.decide_or, -Bool.not_and, -Bool.not_or, toNat_pred, toNat_succ, wrap64, wr_new, wr_new0, ok_if, ok_ifn, iadV_sl, makeV_int, decT, decF, over_at, *]) | (with_reducible refine Gd_split (fun hc => ?_) (fun hc => ?_) <;> (have hc2 := hc; try simp at hc2)) | (with_reducible refine Br_split (fun hc => ?_) (fun hc => ?_) <;> (have hc2 := hc; try simp at hc2)) | (with_reducible refine GdT_split (fun hc => ?_) (fun hc => ?_) <;> (have hc2 := hc; try simp at hc2)) | (with_reducible refine WT_alt ?_ ?_) | omega)
        · have h0i : (0 : Int) < (ps.length : Int) := by omega
          have hWe : wordsR b0 (ps.map (·.1)).length = cut 59 b0 := by unfold wordsR; rw [if_neg (by simpa using h0)]
          generalize cut 59 b0 = W at *
          repeat' (first | (simp (disch := first | omega | assumption | (simp only [List.length_set]; omega) | (simp [*] <;> fail) | assumption) [-Bool.decide_and, -Bool.decide_or, -Bool.not_and, -Bool.not_or, toNat_pred, toNat_succ, wrap64, wr_new, wr_new0, ok_if, ok_ifn, iadV_sl, makeV_int, decT, decF, over_at, *, leavesAll, fillL]) | (with_reducible refine Gd_split (fun hc => ?_) (fun hc => ?_) <;> (have hc2 := hc; try simp at hc2)) | (with_reducible refine Br_split (fun hc => ?_) (fun hc => ?_) <;> (have hc2 := hc; try simp at hc2)) | (with_reducible refine GdT_split (fun hc => ?_) (fun hc => ?_) <;> (have hc2 := hc; try simp at hc2)) | (with_reducible refine WT_alt ?_ ?_) | omega)
          refine WL_forM 1152921470247116316 (by decide +kernel) (W.length) (fun i b g => i ≤ W.length ∧ b 10 = .lf (.int .i64 i) ∧ ∃ qs o, b 9 = .lf o ∧ NewD g1 g o 35 1 ssCells ssRows 51 qs ∧ New g1 g ow 9 1 (W.map st) ∧ Far o ow ∧ qs.length = i ∧ Hid (mapO numP W = (mapO numP (W.drop i)).map (qs.map (·.1) ++ ·))) (fun _ _ _ hi => hi.1) ⟨by omega, by simp, [], _, by simp, z1, hN1, hf0, rfl, mapO_zero⟩ ?_
          clear hN1 z1 hf0
          rintro i b g ⟨hi, e1, qs, o, e2, hD, hN1, hf, hql, hM⟩
          have hM0 : mapO numP W = (mapO numP (W.drop i)).map (qs.map (·.1) ++ ·) := hM
          have hlw := hN1.arr.len
          by_cases hlt : i < W.length
          · have ai := hN1.arr.at_ (k := .i64) hlt
            have di := hN1.arr.rd1 hlt
            have hwl := hw2 _ (List.getElem_mem hlt)
            have hgl := hD.kept.1
            have hkg := hk1.trans hD.kept
            cases hq : numP W[i] with
            | none =>
              have hkF := hF (stP_same.symm.trans <| stP_words (W := wordsR) hcut hr (by rw [hWe]; exact mapO_fail hM0 hlt hq))
              clear hF hT hM hM0 hw2
              generalize W[i] = w at *
              repeat' (first | (simp (disch := first | omega | assumption | (simp only [List.length_set]; omega) | (simp [*] <;> fail) | assumption) [-Bool.decide_and, -Bool.decide_or, -Bool.not_and, -Bool.not_or, toNat_pred, toNat_succ, wrap64, wr_new, wr_new0, ok_if, ok_ifn, iadV_sl, makeV_int, decT, decF, over_at, *, st]) | (with_reducible refine Gd_split (fun hc => ?_) (fun hc => ?_) <;> (have hc2 := hc; try simp at hc2)) | (with_reducible refine Br_split (fun hc => ?_) (fun hc => ?_) <;> (have hc2 := hc; try simp at hc2)) | (with_reducible refine GdT_split (fun hc => ?_) (fun hc => ?_) <;> (have hc2 := hc; try simp at hc2)) | (with_reducible refine WT_alt ?_ ?_) | omega)
              refine c_l01NRead (S := S) (by omega) (by omega) (fun o3 g3 xs hx hN3 => ?_) (fun hx g3 hK3 => ?_)
              · rw [hq] at hx; cases hx
              · have hkF2 := hkF g3 (hkg.trans hK3)
                clear hkF
                repeat' (first | (simp (disch := first | omega | assumption | (simp only [List.length_set]; omega) | (simp [*] <;> fail) | assumption) [-Bool.decide_and, -Bool.decide_or, -Bool.not_and, -Bool.not_or, toNat_pred, toNat_succ, wrap64, wr_new, wr_new0, ok_if, ok_ifn, iadV_sl, makeV_int, decT, decF, over_at, *]) | (with_reducible refine Gd_split (fun hc => ?_) (fun hc => ?_) <;> (have hc2 := hc; try simp at hc2)) | (with_reducible refine Br_split (fun hc => ?_) (fun hc => ?_) <;> (have hc2 := hc; try simp at hc2)) | (with_reducible refine GdT_split (fun hc => ?_) (fun hc => ?_) <;> (have hc2 := hc; try simp at hc2)) | (with_reducible refine WT_alt ?_ ?_) | omega)
            | some xs =>
              have hstH : Hid (∀ l : Lf, mapO numP W = (mapO numP (W.drop (i + 1))).map (((qs ++ [(xs, l)]).map (·.1)) ++ ·)) := fun l => by rw [List.map_append]; exact mapO_step hM0 hlt hq
              clear hF hT hM hM0 hw2
              generalize W[i] = w at *
              repeat' (first | (simp (disch := first | omega | assumption | (simp only [List.length_set]; omega) | (simp [*] <;> fail) | assumption) [-Bool.decide_and, -Bool.decide_or, -Bool.not_and, -Bool.not_or, toNat_pred, toNat_succ, wrap64, wr_new, wr_new0, ok_if, ok_ifn, iadV_sl, makeV_int, decT, decF, over_at, *, st]) | (with_reducible refine Gd_split (fun hc => ?_) (fun hc => ?_) <;> (have hc2 := hc; try simp at hc2)) | (with_reducible refine Br_split (fun hc => ?_) (fun hc => ?_) <;> (have hc2 := hc; try simp at hc2)) | (with_reducible refine GdT_split (fun hc => ?_) (fun hc => ?_) <;> (have hc2 := hc; try simp at hc2)) | (with_reducible refine WT_alt ?_ ?_) | omega)
              refine c_l01NRead (S := S) (by omega) (by omega) (fun o3 g3 xs2 hx hN3 => ?_) (fun hx g3 hK3 => ?_)
              · rw [hq] at hx
                injection hx with hx
                subst hx
                obtain ⟨hf0, hf1⟩ := hD.fresh hN3
                have hD3 := hD.later hN3.kept
                have hN13 := hN1.later hN3.kept
                have hN3b := hN3.base hD.kept
                clear hD hN1 hN3 hq
                repeat' (first | (simp (disch := first | omega | assumption | (simp only [List.length_set]; omega) | (simp [*] <;> fail) | assumption) [-Bool.decide_and, -Bool.decide_or, -Bool.not_and, -Bool.not_or, toNat_pred, toNat_succ, wrap64, wr_new, wr_new0, ok_if, ok_ifn, iadV_sl, makeV_int, decT, decF, over_at, *, leavesAll, fillL]) | (with_reducible refine Gd_split (fun hc => ?_) (fun hc => ?_) <;> (have hc2 := hc; try simp at hc2)) | (with_reducible refine Br_split (fun hc => ?_) (fun hc => ?_) <;> (have hc2 := hc; try simp at hc2)) | (with_reducible refine GdT_split (fun hc => ?_) (fun hc => ?_) <;> (have hc2 := hc; try simp at hc2)) | (with_reducible refine WT_alt ?_ ?_) | omega)
                refine oc_pushL (r := [o3]) (bytes := 24) hD3.out (by omega) (by simp; omega) (fun o4 g4 hN4 hB4 => ?_) (by decide) rfl (by decide)
                have hP := hD3.push (a := xs) hN3b hf0 hf1 (Kept.refl _) hN4 hB4 rfl
                obtain ⟨hN14, hf4⟩ := hB4.other hD3.out hN13 hf
                clear hD3 hN13 hB4 hN4 hN3b hf0 hf1 hf
                repeat' (first | (simp (disch := first | omega | assumption | (simp only [List.length_set]; omega) | (simp [*] <;> fail) | assumption) [-Bool.decide_and, -Bool.decide_or, -Bool.not_and, -Bool.not_or, toNat_pred, toNat_succ, wrap64, wr_new, wr_new0, ok_if, ok_ifn, iadV_sl, makeV_int, decT, decF, over_at, *]) | (with_reducible refine Gd_split (fun hc => ?_) (fun hc => ?_) <;> (have hc2 := hc; try simp at hc2)) | (with_reducible refine Br_split (fun hc => ?_) (fun hc => ?_) <;> (have hc2 := hc; try simp at hc2)) | (with_reducible refine GdT_split (fun hc => ?_) (fun hc => ?_) <;> (have hc2 := hc; try simp at hc2)) | (with_reducible refine WT_alt ?_ ?_) | omega)
                first | exact ⟨by omega, _, hP, by simp [hql], hstH _⟩ | exact ⟨_, hP, by simp [hql], hstH _⟩
              · rw [hq] at hx; cases hx
          · have hiW : i = W.length := by omega
            have hd : mapO numP (wordsR b0 (ps.map (·.1)).length) = some (qs.map (·.1)) := by rw [hWe]; exact mapO_done hM0 hiW
            clear hM hM0 hw2
            subst hiW
            have hLg := hDL.later hD.kept
            have hfc := fun lim K => c_l08Fit (S := S) (h := g) (lim := lim) (K := K) hLg.out.arr hLg.ins hD.out.arr hD.ins
            have hcf := fun p hp => (chP_nums hch p.1 (List.mem_map.2 ⟨p, hp, rfl⟩)).1
            have hcf2 : ∀ q ∈ qs, ∀ x ∈ q.1, CF x := fun q hq => mapO_mem (p := fun xs : List Nat => ∀ x ∈ xs, CF x) (fun x y e => (numP_some e).2.1) hd q.1 (List.mem_map.2 ⟨q, hq, rfl⟩)
            have hst := fun q lim K => c_l08State (S := S) (h := g) (lim := lim) (K := K) hLg.out.arr hLg.ins hcf hD.out.arr hD.ins hcf2 q
            have hk := hk1.trans hD.kept
            by_cases hok : isFit (ps.map (·.1)) (qs.map (·.1))
            · replace hst := hst hok
              rw [decide_eq_true hok] at hfc
              have htn := tneq (x := fullT (ps.map (·.1)) (qs.map (·.1))) (y := s)
              by_cases heq : fullT (ps.map (·.1)) (qs.map (·.1)) = s
              · have z1 := hDL.lvs_lt
                have z2 := hD.lvs_lt
                have hkT := hT o1 o g ps qs (stP_same.symm.trans <| stP_ok (W := wordsR) hcut hr hd hok heq) hLg (hD.base hk1) (fun s hs t ht q1 q2 e => by have := z1 s hs q1; have := z2 t ht q2; omega)
                rw [decide_eq_true heq] at htn
                clear hT hF hok heq hcf hcf2 z1 z2
                generalize fullT (ps.map (·.1)) (qs.map (·.1)) = t at *
                repeat' (first | (simp (disch := first | omega | assumption | (simp only [List.length_set]; omega) | (simp [*] <;> fail) | assumption) [-Bool.decide_and, -Bool.decide_or, -Bool.not_and, -Bool.not_or, toNat_pred, toNat_succ, wrap64, wr_new, wr_new0, ok_if, ok_ifn, iadV_sl, makeV_int, decT, decF, over_at, *]) | (with_reducible refine Gd_split (fun hc => ?_) (fun hc => ?_) <;> (have hc2 := hc; try simp at hc2)) | (with_reducible refine Br_split (fun hc => ?_) (fun hc => ?_) <;> (have hc2 := hc; try simp at hc2)) | (with_reducible refine GdT_split (fun hc => ?_) (fun hc => ?_) <;> (have hc2 := hc; try simp at hc2)) | (with_reducible refine WT_alt ?_ ?_) | omega)
              · have hkF := hF (stP_same.symm.trans <| stP_fit (W := wordsR) hcut hr hd (fun q => heq q.2)) g hk
                rw [decide_eq_false heq] at htn
                clear hT hF hok heq hcf hcf2
                generalize fullT (ps.map (·.1)) (qs.map (·.1)) = t at *
                repeat' (first | (simp (disch := first | omega | assumption | (simp only [List.length_set]; omega) | (simp [*] <;> fail) | assumption) [-Bool.decide_and, -Bool.decide_or, -Bool.not_and, -Bool.not_or, toNat_pred, toNat_succ, wrap64, wr_new, wr_new0, ok_if, ok_ifn, iadV_sl, makeV_int, decT, decF, over_at, *]) | (with_reducible refine Gd_split (fun hc => ?_) (fun hc => ?_) <;> (have hc2 := hc; try simp at hc2)) | (with_reducible refine Br_split (fun hc => ?_) (fun hc => ?_) <;> (have hc2 := hc; try simp at hc2)) | (with_reducible refine GdT_split (fun hc => ?_) (fun hc => ?_) <;> (have hc2 := hc; try simp at hc2)) | (with_reducible refine WT_alt ?_ ?_) | omega)
            · have hkF := hF (stP_same.symm.trans <| stP_fit (W := wordsR) hcut hr hd (fun q => hok q.1)) g hk
              rw [decide_eq_false hok] at hfc
              clear hT hF hok hcf hcf2 hst
              repeat' (first | (simp (disch := first | omega | assumption | (simp only [List.length_set]; omega) | (simp [*] <;> fail) | assumption) [-Bool.decide_and, -Bool.decide_or, -Bool.not_and, -Bool.not_or, toNat_pred, toNat_succ, wrap64, wr_new, wr_new0, ok_if, ok_ifn, iadV_sl, makeV_int, decT, decF, over_at, *]) | (with_reducible refine Gd_split (fun hc => ?_) (fun hc => ?_) <;> (have hc2 := hc; try simp at hc2)) | (with_reducible refine Br_split (fun hc => ?_) (fun hc => ?_) <;> (have hc2 := hc; try simp at hc2)) | (with_reducible refine GdT_split (fun hc => ?_) (fun hc => ?_) <;> (have hc2 := hc; try simp at hc2)) | (with_reducible refine WT_alt ?_ ?_) | omega)
      · have hkF := hF (stP_same.symm.trans <| stP_chain (W := wordsR) hcut hr) g1 (hkP.trans hK)
        clear hT hF
        repeat' (first | (simp (disch := first | omega | assumption | (simp only [List.length_set]; omega) | (simp [*] <;> fail) | assumption) [-Bool.decide_and, -Bool.decide_or, -Bool.not_and, -Bool.not_or, toNat_pred, toNat_succ, wrap64, wr_new, wr_new0, ok_if, ok_ifn, iadV_sl, makeV_int, decT, decF, over_at, *]) | (with_reducible refine Gd_split (fun hc => ?_) (fun hc => ?_) <;> (have hc2 := hc; try simp at hc2)) | (with_reducible refine Br_split (fun hc => ?_) (fun hc => ?_) <;> (have hc2 := hc; try simp at hc2)) | (with_reducible refine GdT_split (fun hc => ?_) (fun hc => ?_) <;> (have hc2 := hc; try simp at hc2)) | (with_reducible refine WT_alt ?_ ?_) | omega)
    · have hkF := hF (stP_same.symm.trans <| stP_cut (W := wordsR) h3) g0 hkP
      have h3i : ¬ ((cut 124 s).length : Int) = 3 := by omega
      clear hT hF h3
      repeat' (first | (simp (disch := first | omega | assumption | (simp only [List.length_set]; omega) | (simp [*] <;> fail) | assumption) [-Bool.decide_and, -Bool.decide_or, -Bool.not_and, -Bool.not_or, toNat_pred, toNat_succ, wrap64, wr_new, wr_new0, ok_if, ok_ifn, iadV_sl, makeV_int, decT, decF, over_at, *]) | (with_reducible refine Gd_split (fun hc => ?_) (fun hc => ?_) <;> (have hc2 := hc; try simp at hc2)) | (with_reducible refine Br_split (fun hc => ?_) (fun hc => ?_) <;> (have hc2 := hc; try simp at hc2)) | (with_reducible refine GdT_split (fun hc => ?_) (fun hc => ?_) <;> (have hc2 := hc; try simp at hc2)) | (with_reducible refine WT_alt ?_ ?_) | omega)
end
end Go.E
