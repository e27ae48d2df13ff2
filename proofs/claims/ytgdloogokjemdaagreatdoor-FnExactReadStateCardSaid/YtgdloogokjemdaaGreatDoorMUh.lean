/- Chains that are read, for the evaluator. -/
import Derived.Test.YtgdloogokjemdaaGreatDoorMUg
set_option linter.unusedVariables false
set_option linter.unusedSimpArgs false
namespace Go.E
open Go
def L13 : LFn := ⟨1, (.seq (.reg [⟨(.some 2), (.mv (.c (.lf .nils))), none⟩, ⟨(.some 3), (.mv (.c (.lf (.bool false)))), none⟩])
 (.seq (.reg [⟨(.some 14), (.lit 44 3 0 [] []), none⟩, ⟨(.some 4), (.mv (.t 14)), none⟩])
 (.seq (.seq (.reg [⟨(.some 15), (.mv (.t 0)), none⟩, ⟨(.some 16), (.bin .eql (.t 15) (.c (.lf (.str ⟨#[110, 111, 110, 101]⟩)))), none⟩])
 (.cond (.t 16) (.seq (.reg [⟨(.some 17), (.mv (.t 4)), none⟩, ⟨(.some 2), (.mv (.t 17)), none⟩, ⟨(.some 3), (.mv (.c (.lf (.bool true)))), none⟩])
 .ret) .skip))
 (.seq (.reg [⟨(.some 18), (.mv (.t 0)), none⟩, ⟨(.some 19), (.call false 12 [(.t 18), (.c (.lf (.int .u8 59)))]), none⟩, ⟨(.some 5), (.mv (.t 19)), none⟩])
 (.seq (.seq (.reg [⟨(.some 20), (.mv (.t 5)), none⟩, ⟨(.some 21), (.len (.t 20)), none⟩, ⟨(.some 22), (.bin .gtr (.t 21) (.c (.lf (.int .i64 8)))), none⟩])
 (.cond (.t 22) (.seq (.reg [⟨(.some 23), (.mv (.t 4)), none⟩, ⟨(.some 2), (.mv (.t 23)), none⟩, ⟨(.some 3), (.mv (.c (.lf (.bool false)))), none⟩])
 .ret) .skip))
 (.seq (.seq (.reg [⟨(.some 6), (.mv (.c (.lf (.int .i64 0)))), none⟩])
 (.block 0 (.loop (.seq (.seq (.reg [⟨(.some 24), (.mv (.t 6)), none⟩, ⟨(.some 25), (.mv (.t 5)), none⟩, ⟨(.some 26), (.len (.t 25)), none⟩, ⟨(.some 27), (.bin .lss (.t 24) (.t 26)), none⟩])
 (.cond (.t 27) .skip (.exit 0)))
 (.seq (.block 1 (.seq (.reg [⟨(.some 30), (.mv (.t 5)), none⟩, ⟨(.some 31), (.mv (.t 6)), none⟩, ⟨(.some 32), (.iaddr 1 (.t 30) (.t 31)), none⟩, ⟨(.some 33), (.load false 1 (.t 32)), none⟩, ⟨(.some 34), (.call false 12 [(.t 33), (.c (.lf (.int .u8 46)))]), none⟩, ⟨(.some 7), (.mv (.t 34)), none⟩])
 (.seq (.seq (.reg [⟨(.some 35), (.mv (.t 7)), none⟩, ⟨(.some 36), (.len (.t 35)), none⟩, ⟨(.some 37), (.bin .neq (.t 36) (.c (.lf (.int .i64 3)))), none⟩])
 (.cond (.t 37) (.seq (.reg [⟨(.some 38), (.mv (.t 4)), none⟩, ⟨(.some 2), (.mv (.t 38)), none⟩, ⟨(.some 3), (.mv (.c (.lf (.bool false)))), none⟩])
 .ret) .skip))
 (.seq (.reg [⟨(.some 40), (.mv (.t 7)), none⟩, ⟨(.some 41), (.iaddr 1 (.t 40) (.c (.lf (.int .i64 0)))), none⟩, ⟨(.some 42), (.load false 1 (.t 41)), none⟩, ⟨(.some 43), (.call true 27 [(.t 42)]), none⟩, ⟨(.some 39), (.mv (.t 43)), none⟩, ⟨(.some 44), (.ext (.t 39) 0), none⟩, ⟨(.some 45), (.ext (.t 39) 1), none⟩, ⟨(.some 8), (.mv (.t 44)), none⟩, ⟨(.some 9), (.mv (.t 45)), none⟩])
 (.seq (.reg [⟨(.some 47), (.mv (.t 7)), none⟩, ⟨(.some 48), (.iaddr 1 (.t 47) (.c (.lf (.int .i64 1)))), none⟩, ⟨(.some 49), (.load false 1 (.t 48)), none⟩, ⟨(.some 50), (.call true 27 [(.t 49)]), none⟩, ⟨(.some 46), (.mv (.t 50)), none⟩, ⟨(.some 51), (.ext (.t 46) 0), none⟩, ⟨(.some 52), (.ext (.t 46) 1), none⟩, ⟨(.some 10), (.mv (.t 51)), none⟩, ⟨(.some 11), (.mv (.t 52)), none⟩])
 (.seq (.reg [⟨(.some 54), (.mv (.t 7)), none⟩, ⟨(.some 55), (.iaddr 1 (.t 54) (.c (.lf (.int .i64 2)))), none⟩, ⟨(.some 56), (.load false 1 (.t 55)), none⟩, ⟨(.some 57), (.call false 14 [(.t 56)]), none⟩, ⟨(.some 53), (.mv (.t 57)), none⟩, ⟨(.some 58), (.ext (.t 53) 0), none⟩, ⟨(.some 59), (.ext (.t 53) 1), none⟩, ⟨(.some 12), (.mv (.t 58)), none⟩, ⟨(.some 13), (.mv (.t 59)), none⟩])
 (.seq (.seq (.reg [⟨(.some 60), (.mv (.t 9)), none⟩, ⟨(.some 61), (.una .not (.t 60)), none⟩, ⟨(.some 62), (.mv (.t 61)), none⟩, ⟨(.some 63), (.mv (.t 11)), (.some (62, false))⟩, ⟨(.some 64), (.una .not (.t 63)), (.some (62, false))⟩, ⟨(.some 65), (.pick (.t 62) (.c (.lf (.bool true))) (.t 64)), none⟩, ⟨(.some 66), (.mv (.t 65)), none⟩, ⟨(.some 67), (.mv (.t 13)), (.some (66, false))⟩, ⟨(.some 68), (.una .not (.t 67)), (.some (66, false))⟩, ⟨(.some 69), (.pick (.t 66) (.c (.lf (.bool true))) (.t 68)), none⟩])
 (.cond (.t 69) (.seq (.reg [⟨(.some 70), (.mv (.t 4)), none⟩, ⟨(.some 2), (.mv (.t 70)), none⟩, ⟨(.some 3), (.mv (.c (.lf (.bool false)))), none⟩])
 .ret) .skip))
 (.reg [⟨(.some 71), (.mv (.t 4)), none⟩, ⟨(.some 72), (.mv (.t 8)), none⟩, ⟨(.some 73), (.mv (.t 10)), none⟩, ⟨(.some 74), (.mv (.t 12)), none⟩, ⟨(.some 75), (.build [(.int .i64 0), (.int .i64 0), .nils] [(0, (1, (.t 72))), (1, (1, (.t 73))), (2, (1, (.t 74)))]), none⟩, ⟨(.some 76), (.lit 44 3 1 [(.int .i64 0), (.int .i64 0), .nils] [(0, (3, (.t 75)))]), none⟩, ⟨(.some 77), (.app 44 3 40 (.t 71) (.t 76)), none⟩, ⟨(.some 4), (.mv (.t 77)), none⟩]))))))))
 (.reg [⟨(.some 28), (.mv (.t 6)), none⟩, ⟨(.some 29), (.bin .add (.t 28) (.c (.lf (.int .i64 1)))), none⟩, ⟨(.some 6), (.mv (.t 29)), none⟩]))))))
 (.seq (.reg [⟨(.some 78), (.mv (.t 4)), none⟩, ⟨(.some 79), (.mv (.t 4)), none⟩, ⟨(.some 80), (.call true 28 [(.t 79)]), none⟩, ⟨(.some 81), (.mv (.t 80)), none⟩, ⟨(.some 82), (.mv (.t 4)), (.some (81, true))⟩, ⟨(.some 83), (.call true 29 [(.t 82)]), (.some (81, true))⟩, ⟨(.some 84), (.mv (.t 0)), (.some (81, true))⟩, ⟨(.some 85), (.bin .eql (.t 83) (.t 84)), (.some (81, true))⟩, ⟨(.some 86), (.pick (.t 81) (.t 85) (.c (.lf (.bool false)))), none⟩, ⟨(.some 2), (.mv (.t 78)), none⟩, ⟨(.some 3), (.mv (.t 86)), none⟩])
 .ret))))))), [(.tmp 2), (.tmp 3)]⟩
def L18 : LFn := ⟨1, (.seq (.reg [⟨(.some 2), (.mv (.c (.lf .nils))), none⟩, ⟨(.some 3), (.mv (.c (.lf (.bool false)))), none⟩])
 (.seq (.reg [⟨(.some 4), (.mv (.c (.lf .nils))), none⟩])
 (.seq (.seq (.reg [⟨(.some 14), (.mv (.t 0)), none⟩, ⟨(.some 15), (.call false 19 [(.t 14)]), none⟩, ⟨(.some 16), (.len (.t 15)), none⟩, ⟨(.some 17), (.mv (.c (.lf (.int .i64 0)))), none⟩])
 (.block 0 (.loop (.seq (.reg [⟨(.some 18), (.bin .lss (.t 17) (.t 16)), none⟩])
 (.seq (.cond (.t 18) .skip (.exit 0))
 (.seq (.block 1 (.seq (.reg [⟨(.some 19), (.iaddr 1 (.t 15) (.t 17)), none⟩, ⟨(.some 20), (.load false 1 (.t 19)), none⟩, ⟨(.some 6), (.mv (.t 20)), none⟩])
 (.seq (.reg [⟨(.some 21), (.mv (.t 6)), none⟩, ⟨(.some 22), (.call false 17 [(.t 21), (.c (.lf (.str ⟨#[46]⟩)))]), none⟩, ⟨(.some 7), (.mv (.t 22)), none⟩])
 (.seq (.seq (.reg [⟨(.some 23), (.mv (.t 7)), none⟩, ⟨(.some 24), (.len (.t 23)), none⟩, ⟨(.some 25), (.bin .neq (.t 24) (.c (.lf (.int .i64 3)))), none⟩])
 (.cond (.t 25) (.seq (.reg [⟨(.some 2), (.mv (.c (.lf .nils))), none⟩, ⟨(.some 3), (.mv (.c (.lf (.bool false)))), none⟩])
 .ret) .skip))
 (.seq (.reg [⟨(.some 27), (.mv (.t 7)), none⟩, ⟨(.some 28), (.iaddr 1 (.t 27) (.c (.lf (.int .i64 0)))), none⟩, ⟨(.some 29), (.load false 1 (.t 28)), none⟩, ⟨(.some 30), (.call true 37 [(.t 29)]), none⟩, ⟨(.some 26), (.mv (.t 30)), none⟩, ⟨(.some 31), (.ext (.t 26) 0), none⟩, ⟨(.some 32), (.ext (.t 26) 1), none⟩, ⟨(.some 8), (.mv (.t 31)), none⟩, ⟨(.some 9), (.mv (.t 32)), none⟩])
 (.seq (.reg [⟨(.some 34), (.mv (.t 7)), none⟩, ⟨(.some 35), (.iaddr 1 (.t 34) (.c (.lf (.int .i64 1)))), none⟩, ⟨(.some 36), (.load false 1 (.t 35)), none⟩, ⟨(.some 37), (.call true 37 [(.t 36)]), none⟩, ⟨(.some 33), (.mv (.t 37)), none⟩, ⟨(.some 38), (.ext (.t 33) 0), none⟩, ⟨(.some 39), (.ext (.t 33) 1), none⟩, ⟨(.some 10), (.mv (.t 38)), none⟩, ⟨(.some 11), (.mv (.t 39)), none⟩])
 (.seq (.reg [⟨(.some 41), (.mv (.t 7)), none⟩, ⟨(.some 42), (.iaddr 1 (.t 41) (.c (.lf (.int .i64 2)))), none⟩, ⟨(.some 43), (.load false 1 (.t 42)), none⟩, ⟨(.some 44), (.call false 20 [(.t 43)]), none⟩, ⟨(.some 40), (.mv (.t 44)), none⟩, ⟨(.some 45), (.ext (.t 40) 0), none⟩, ⟨(.some 46), (.ext (.t 40) 1), none⟩, ⟨(.some 12), (.mv (.t 45)), none⟩, ⟨(.some 13), (.mv (.t 46)), none⟩])
 (.seq (.seq (.reg [⟨(.some 47), (.mv (.t 9)), none⟩, ⟨(.some 48), (.una .not (.t 47)), none⟩, ⟨(.some 49), (.mv (.t 48)), none⟩, ⟨(.some 50), (.mv (.t 11)), (.some (49, false))⟩, ⟨(.some 51), (.una .not (.t 50)), (.some (49, false))⟩, ⟨(.some 52), (.pick (.t 49) (.c (.lf (.bool true))) (.t 51)), none⟩, ⟨(.some 53), (.mv (.t 52)), none⟩, ⟨(.some 54), (.mv (.t 13)), (.some (53, false))⟩, ⟨(.some 55), (.una .not (.t 54)), (.some (53, false))⟩, ⟨(.some 56), (.pick (.t 53) (.c (.lf (.bool true))) (.t 55)), none⟩])
 (.cond (.t 56) (.seq (.reg [⟨(.some 2), (.mv (.c (.lf .nils))), none⟩, ⟨(.some 3), (.mv (.c (.lf (.bool false)))), none⟩])
 .ret) .skip))
 (.reg [⟨(.some 57), (.mv (.t 4)), none⟩, ⟨(.some 58), (.mv (.t 8)), none⟩, ⟨(.some 59), (.mv (.t 10)), none⟩, ⟨(.some 60), (.mv (.t 12)), none⟩, ⟨(.some 61), (.build [(.int .i64 0), (.int .i64 0), .nils] [(0, (1, (.t 58))), (1, (1, (.t 59))), (2, (1, (.t 60)))]), none⟩, ⟨(.some 62), (.lit 44 3 1 [(.int .i64 0), (.int .i64 0), .nils] [(0, (3, (.t 61)))]), none⟩, ⟨(.some 63), (.app 44 3 40 (.t 57) (.t 62)), none⟩, ⟨(.some 4), (.mv (.t 63)), none⟩])))))))))
 (.reg [⟨(.some 64), (.bin .add (.t 17) (.c (.lf (.int .i64 1)))), none⟩, ⟨(.some 17), (.mv (.t 64)), none⟩])))))))
 (.seq (.seq (.reg [⟨(.some 65), (.mv (.t 4)), none⟩, ⟨(.some 66), (.call true 38 [(.t 65)]), none⟩, ⟨(.some 67), (.una .not (.t 66)), none⟩])
 (.cond (.t 67) (.seq (.reg [⟨(.some 2), (.mv (.c (.lf .nils))), none⟩, ⟨(.some 3), (.mv (.c (.lf (.bool false)))), none⟩])
 .ret) .skip))
 (.seq (.reg [⟨(.some 68), (.mv (.t 4)), none⟩, ⟨(.some 2), (.mv (.t 68)), none⟩, ⟨(.some 3), (.mv (.c (.lf (.bool true)))), none⟩])
 .ret))))), [(.tmp 2), (.tmp 3)]⟩
class HasUh (S : Sys) : Prop extends HasUg S, HasCx S where
  f13 : S.fs 13 = some L13
  f18 : S.fs 18 = some L18
/-- The words between semicolons. -/
def wordsS (s : List UInt8) : List (List UInt8) := if s = none4 then [] else cut 59 s
theorem chP_words {s : List UInt8} : chP s = mapO effP (wordsS s) := by
  unfold chP wordsS
  by_cases h : s = none4
  · rw [if_pos h, if_pos h]; rfl
  · rw [if_neg h, if_neg h]
theorem wordsS_le {s : List UInt8} : (wordsS s).length ≤ s.length + 1 ∧ ∀ x ∈ wordsS s, x.length ≤ s.length := by
  unfold wordsS
  split
  · simp
  · exact ⟨cut_len, cut_piece⟩
theorem effP_len {w : List UInt8} (h : (cut 46 w).length ≠ 3) : effP w = none := by
  unfold effP
  split
  · rename_i a b c hc; rw [hc] at h; exact (h rfl).elim
  · rfl
theorem len_three {α : Type} {l : List α} (h : l.length = 3) : ∃ a b c, l = [a, b, c] := by
  match l, h with
  | [a, b, c], _ => exact ⟨a, b, c, rfl⟩
theorem effP_dec {w a b c : List UInt8} (h : cut 46 w = [a, b, c]) (hd : ¬ (isDec a ∧ isDec b)) : effP w = none := by
  unfold effP
  rw [h]
  simp only []
  rw [if_neg hd]
theorem effP_num {w a b c : List UInt8} (h : cut 46 w = [a, b, c]) (hn : numP c = none) : effP w = none := by
  unfold effP
  rw [h]
  simp only []
  rw [hn]
  split <;> rfl
theorem effP_ok {w a b c : List UInt8} {xs : List Nat} (h : cut 46 w = [a, b, c]) (ha : isDec a) (hb : isDec b) (hn : numP c = some xs) : effP w = some ⟨decN a, decN b, xs⟩ := by
  unfold effP
  rw [h]
  simp only []
  rw [hn, if_pos ⟨ha, hb⟩]
  unfold decN
  rw [if_pos ha, if_pos hb]
theorem readR_long {s : List UInt8} (h0 : s ≠ none4) (h : 8 < (cut 59 s).length) : readR s = none := by
  cases hq : chP s with
  | none => exact readR_none hq
  | some es =>
    refine readR_bad hq fun hc => ?_
    have h1 := hc.1
    unfold chP at hq
    rw [if_neg h0] at hq
    have := mapO_len hq
    omega
theorem three {g : Hp} {o : Lf} {a b c : List UInt8} (hA : Arr g o 1 ([a, b, c].map st)) :
    (iadV 1 (.lf o) (.lf (.int .i64 0)) = some (.lf (.ptr o.id o.off)) ∧ rdCells g o.id o.off 1 = some (st a)) ∧
    (iadV 1 (.lf o) (.lf (.int .i64 1)) = some (.lf (.ptr o.id (o.off + 1))) ∧ rdCells g o.id (o.off + 1) 1 = some (st b)) ∧
    (iadV 1 (.lf o) (.lf (.int .i64 2)) = some (.lf (.ptr o.id (o.off + 2))) ∧ rdCells g o.id (o.off + 2) 1 = some (st c)) := by
  have h0 := hA.at_ (k := .i64) (i := 0) (by simp)
  have h1 := hA.at_ (k := .i64) (i := 1) (by simp)
  have h2 := hA.at_ (k := .i64) (i := 2) (by simp)
  have r0 := hA.rd1 (i := 0) (by simp)
  have r1 := hA.rd1 (i := 1) (by simp)
  have r2 := hA.rd1 (i := 2) (by simp)
  simp at h0 h1 h2 r0 r1 r2
  exact ⟨⟨h0, r0⟩, ⟨h1, r1⟩, ⟨h2, r2⟩⟩
section
variable {S : Sys} {lim : Nat} {h : Hp} {K : CV → Hp → Prop} [HasUh S] {s : List UInt8}
set_option maxHeartbeats 4000000 in
theorem c_implReadChain [HasRo S] (hs : s.length ≤ 2000000) (hl : lim ≤ h.length) (hT : ∀ o g qs, readR s = some (qs.map (·.1)) → NewD h g o 44 3 Eff.cells Eff.nums 51 qs → K (.tup [.lf o, .lf (.bool true)]) g)
    (hF : readR s = none → ∀ g, Kept h g → K (.tup [.lf .nils, .lf (.bool false)]) g) : CallT S false 18 [.lf (.str ⟨s.toArray⟩)] h lim K := by
  refine CallT_of_body (F := L18) (HasUh.f18) rfl ?_; unfold L18; dsimp only []
  repeat' (first | (simp (disch := first | omega | assumption | (simp only [List.length_set]; omega) | (simp [*] <;> fail) | assumption) [-Bool.decide_and, -Bool.decide_or, -Bool.not_and, -Bool.not_or, toNat_pred, toNat_succ, wrap64, wr_new, wr_new0, ok_if, ok_ifn, iadV_sl, makeV_int, decT, decF, over_at, *]) | (with_reducible refine Gd_split (fun hc => ?_) (fun hc => ?_) <;> (have hc2 := hc; try simp at hc2)) | (with_reducible refine Br_split (fun hc => ?_) (fun hc => ?_) <;> (have hc2 := hc; try simp at hc2)) | (with_reducible refine GdT_split (fun hc => ?_) (fun hc => ?_) <;> (have hc2 := hc; try simp at hc2)) | (with_reducible refine WT_alt ?_ ?_) | omega)
  refine c_parted (by omega) hl fun o1 g1 hN1 => ?_
  have hW : (if s = none4 then [] else cut 59 s) = wordsS s := rfl
  rw [hW] at hN1
  have hch := chP_words (s := s)
  obtain ⟨hw1, hw2⟩ := wordsS_le (s := s)
  have hlw := hN1.arr.len
  generalize wordsS s = W at *
  repeat' (first | (simp (disch := first | omega | assumption | (simp only [List.length_set]; omega) | (simp [*] <;> fail) | assumption) [-Bool.decide_and, -Bool.decide_or, -Bool.not_and, -Bool.not_or, toNat_pred, toNat_succ, wrap64, wr_new, wr_new0, ok_if, ok_ifn, iadV_sl, makeV_int, decT, decF, over_at, *]) | (with_reducible refine Gd_split (fun hc => ?_) (fun hc => ?_) <;> (have hc2 := hc; try simp at hc2)) | (with_reducible refine Br_split (fun hc => ?_) (fun hc => ?_) <;> (have hc2 := hc; try simp at hc2)) | (with_reducible refine GdT_split (fun hc => ?_) (fun hc => ?_) <;> (have hc2 := hc; try simp at hc2)) | (with_reducible refine WT_alt ?_ ?_) | omega)
  refine WL_forM 36893488147418988508 (by decide +kernel) (W.length) (fun i b g => i ≤ W.length ∧ b 17 = .lf (.int .i64 i) ∧ ∃ qs o, b 4 = .lf o ∧ NewD h g o 44 3 Eff.cells Eff.nums 51 qs ∧ New h g o1 9 1 (W.map st) ∧ Far o o1 ∧ qs.length = i ∧ Hid (mapO effP W = (mapO effP (W.drop i)).map (qs.map (·.1) ++ ·))) (fun _ _ _ hi => hi.1) ⟨by omega, by simp, [], .nils, by simp, NewD.start hN1.kept, hN1, Far.nil_left, rfl, mapO_zero⟩ ?_
  clear hN1
  rintro i b g ⟨hi, e17, qs, o, e4, hD, hN1, hf, hql, hM⟩
  have hM0 : mapO effP W = (mapO effP (W.drop i)).map (qs.map (·.1) ++ ·) := hM
  have hk := hD.kept
  by_cases hlt : i < W.length
  · have ai := hN1.arr.at_ (k := .i64) hlt
    have di := hN1.arr.rd1 hlt
    have hwl := hw2 _ (List.getElem_mem hlt)
    have hfail : effP W[i] = none → ∀ g, Kept h g → K (.tup [.lf .nils, .lf (.bool false)]) g := fun q => hF (readR_none (by rw [hch]; exact mapO_fail hM0 hlt q))
    have hstep : Hid (∀ e, effP W[i] = some e → mapO effP W = (mapO effP (W.drop (i + 1))).map ((qs.map (·.1) ++ [e]) ++ ·)) := fun e q => mapO_step hM0 hlt q
    have hgl := hk.1
    clear hT hF hM hM0 hw2
    generalize W[i] = w at *
    repeat' (first | (simp (disch := first | omega | assumption | (simp only [List.length_set]; omega) | (simp [*] <;> fail) | assumption) [-Bool.decide_and, -Bool.decide_or, -Bool.not_and, -Bool.not_or, toNat_pred, toNat_succ, wrap64, wr_new, wr_new0, ok_if, ok_ifn, iadV_sl, makeV_int, decT, decF, over_at, *, st]) | (with_reducible refine Gd_split (fun hc => ?_) (fun hc => ?_) <;> (have hc2 := hc; try simp at hc2)) | (with_reducible refine Br_split (fun hc => ?_) (fun hc => ?_) <;> (have hc2 := hc; try simp at hc2)) | (with_reducible refine GdT_split (fun hc => ?_) (fun hc => ?_) <;> (have hc2 := hc; try simp at hc2)) | (with_reducible refine WT_alt ?_ ?_) | omega)
    refine c_Split (m := 46) (by omega) fun o2 g2 hN2 => ?_
    have hk2 := hk.trans hN2.kept
    have hg2l := hN2.kept.1
    have hl2 := hN2.arr.len
    by_cases h3 : (cut 46 w).length = 3
    · obtain ⟨a, c, d, hcut⟩ := len_three h3
      have hpl := cut_piece (m := 46) (s := w)
      rw [hcut] at hN2 hl2 hpl
      obtain ⟨⟨a0, r0⟩, ⟨a1, r1⟩, ⟨a2, r2⟩⟩ := three hN2.arr
      have hal := hpl a (by simp)
      have hcl := hpl c (by simp)
      have hdl := hpl d (by simp)
      have hrd1 := fun g lim K => c_ReadDecimal (S := S) (h := g) (lim := lim) (K := K) (s := a) (by omega)
      have hrd2 := fun g lim K => c_ReadDecimal (S := S) (h := g) (lim := lim) (K := K) (s := c) (by omega)
      simp only [List.length_cons, List.length_nil] at hl2
      have hbad : ¬ (isDec a ∧ isDec c) → ∀ g, Kept h g → K (.tup [.lf .nils, .lf (.bool false)]) g := fun q => hfail (effP_dec hcut q)
      have hbadn : numP d = none → ∀ g, Kept h g → K (.tup [.lf .nils, .lf (.bool false)]) g := fun q => hfail (effP_num hcut q)
      have hgood : Hid (∀ xs, isDec a → isDec c → numP d = some xs → mapO effP W = (mapO effP (W.drop (i + 1))).map ((qs.map (·.1) ++ [⟨decN a, decN c, xs⟩]) ++ ·)) := fun xs q1 q2 q3 => (show ∀ e, effP w = some e → mapO effP W = (mapO effP (W.drop (i + 1))).map ((qs.map (·.1) ++ [e]) ++ ·) from hstep) _ (effP_ok hcut q1 q2 q3)
      have hD2 := hD.later hN2.kept
      have hN12 := hN1.later hN2.kept
      clear hfail hstep hpl hcut h3 hN1 hD
      repeat' (first | (simp (disch := first | omega | assumption | (simp only [List.length_set]; omega) | (simp [*] <;> fail) | assumption) [-Bool.decide_and, -Bool.decide_or, -Bool.not_and, -Bool.not_or, toNat_pred, toNat_succ, wrap64, wr_new, wr_new0, ok_if, ok_ifn, iadV_sl, makeV_int, decT, decF, over_at, *, st]) | (with_reducible refine Gd_split (fun hc => ?_) (fun hc => ?_) <;> (have hc2 := hc; try simp at hc2)) | (with_reducible refine Br_split (fun hc => ?_) (fun hc => ?_) <;> (have hc2 := hc; try simp at hc2)) | (with_reducible refine GdT_split (fun hc => ?_) (fun hc => ?_) <;> (have hc2 := hc; try simp at hc2)) | (with_reducible refine WT_alt ?_ ?_) | omega)
      refine c_ReadNumbers (S := S) (by omega) (by omega) (fun o3 g3 xs hx hN3 => ?_) (fun hx g3 hK3 => ?_)
      · have hk3 := hk2.trans hN3.kept
        by_cases ha : isDec a
        · by_cases hc : isDec c
          · have hst := (show ∀ xs, isDec a → isDec c → numP d = some xs → mapO effP W = (mapO effP (W.drop (i + 1))).map ((qs.map (·.1) ++ [⟨decN a, decN c, xs⟩]) ++ ·) from hgood) xs ha hc hx
            have hstH : Hid (∀ l : Lf, mapO effP W = (mapO effP (W.drop (i + 1))).map (((qs ++ [((⟨decN a, decN c, xs⟩ : Eff), l)]).map (·.1)) ++ ·)) := fun l => by rw [List.map_append]; exact hst
            have e1 := decide_eq_true ha
            have e2 := decide_eq_true hc
            clear hst hgood hbad hbadn hx ha hc hrd1 hrd2
            obtain ⟨hf0, hf1⟩ := hD2.fresh hN3
            have hD3 := hD2.later hN3.kept
            have hN13 := hN12.later hN3.kept
            have hN3b := hN3.base hk2
            clear hD2 hN12 hN3
            generalize decN a = A at *
            generalize decN c = C at *
            repeat' (first | (simp (disch := first | omega | assumption | (simp only [List.length_set]; omega) | (simp [*] <;> fail) | assumption) [-Bool.decide_and, -Bool.decide_or, -Bool.not_and, -Bool.not_or, toNat_pred, toNat_succ, wrap64, wr_new, wr_new0, ok_if, ok_ifn, iadV_sl, makeV_int, decT, decF, over_at, *, leavesAll, fillL]) | (with_reducible refine Gd_split (fun hc => ?_) (fun hc => ?_) <;> (have hc2 := hc; try simp at hc2)) | (with_reducible refine Br_split (fun hc => ?_) (fun hc => ?_) <;> (have hc2 := hc; try simp at hc2)) | (with_reducible refine GdT_split (fun hc => ?_) (fun hc => ?_) <;> (have hc2 := hc; try simp at hc2)) | (with_reducible refine WT_alt ?_ ?_) | omega)
            refine oc_pushL (r := [.int .i64 A, .int .i64 C, o3]) (bytes := 40) hD3.out hl (by simp; omega) (fun o4 g4 hN4 hB4 => ?_) (by decide) rfl (by decide)
            have hP := hD3.push (a := ⟨A, C, xs⟩) hN3b hf0 hf1 (Kept.refl _) hN4 hB4 rfl
            obtain ⟨hN14, hf4⟩ := hB4.other hD3.out hN13 hf
            clear hD3 hN13 hB4 hN4 hN3b hf0 hf1 hf
            repeat' (first | (simp (disch := first | omega | assumption | (simp only [List.length_set]; omega) | (simp [*] <;> fail) | assumption) [-Bool.decide_and, -Bool.decide_or, -Bool.not_and, -Bool.not_or, toNat_pred, toNat_succ, wrap64, wr_new, wr_new0, ok_if, ok_ifn, iadV_sl, makeV_int, decT, decF, over_at, *]) | (with_reducible refine Gd_split (fun hc => ?_) (fun hc => ?_) <;> (have hc2 := hc; try simp at hc2)) | (with_reducible refine Br_split (fun hc => ?_) (fun hc => ?_) <;> (have hc2 := hc; try simp at hc2)) | (with_reducible refine GdT_split (fun hc => ?_) (fun hc => ?_) <;> (have hc2 := hc; try simp at hc2)) | (with_reducible refine WT_alt ?_ ?_) | omega)
            exact ⟨by omega, _, hP, by simp [hql], hstH _⟩
          · have hb := hbad (fun q => hc q.2) g3 hk3
            have e1 := decide_eq_true ha
            have e2 := decide_eq_false hc
            clear hgood hbad hbadn hrd1 hrd2 ha hc
            repeat' (first | (simp (disch := first | omega | assumption | (simp only [List.length_set]; omega) | (simp [*] <;> fail) | assumption) [-Bool.decide_and, -Bool.decide_or, -Bool.not_and, -Bool.not_or, toNat_pred, toNat_succ, wrap64, wr_new, wr_new0, ok_if, ok_ifn, iadV_sl, makeV_int, decT, decF, over_at, *]) | (with_reducible refine Gd_split (fun hc => ?_) (fun hc => ?_) <;> (have hc2 := hc; try simp at hc2)) | (with_reducible refine Br_split (fun hc => ?_) (fun hc => ?_) <;> (have hc2 := hc; try simp at hc2)) | (with_reducible refine GdT_split (fun hc => ?_) (fun hc => ?_) <;> (have hc2 := hc; try simp at hc2)) | (with_reducible refine WT_alt ?_ ?_) | omega)
        · have hb := hbad (fun q => ha q.1) g3 hk3
          have e1 := decide_eq_false ha
          clear hgood hbad hbadn hrd1 hrd2 ha
          repeat' (first | (simp (disch := first | omega | assumption | (simp only [List.length_set]; omega) | (simp [*] <;> fail) | assumption) [-Bool.decide_and, -Bool.decide_or, -Bool.not_and, -Bool.not_or, toNat_pred, toNat_succ, wrap64, wr_new, wr_new0, ok_if, ok_ifn, iadV_sl, makeV_int, decT, decF, over_at, *]) | (with_reducible refine Gd_split (fun hc => ?_) (fun hc => ?_) <;> (have hc2 := hc; try simp at hc2)) | (with_reducible refine Br_split (fun hc => ?_) (fun hc => ?_) <;> (have hc2 := hc; try simp at hc2)) | (with_reducible refine GdT_split (fun hc => ?_) (fun hc => ?_) <;> (have hc2 := hc; try simp at hc2)) | (with_reducible refine WT_alt ?_ ?_) | omega)
      · have hb := hbadn hx g3 (hk2.trans hK3)
        clear hgood hbad hbadn hrd1 hrd2
        by_cases ha : isDec a
        · have e1 := decide_eq_true ha
          by_cases hc : isDec c
          · have e2 := decide_eq_true hc
            clear ha hc
            repeat' (first | (simp (disch := first | omega | assumption | (simp only [List.length_set]; omega) | (simp [*] <;> fail) | assumption) [-Bool.decide_and, -Bool.decide_or, -Bool.not_and, -Bool.not_or, toNat_pred, toNat_succ, wrap64, wr_new, wr_new0, ok_if, ok_ifn, iadV_sl, makeV_int, decT, decF, over_at, *]) | (with_reducible refine Gd_split (fun hc => ?_) (fun hc => ?_) <;> (have hc2 := hc; try simp at hc2)) | (with_reducible refine Br_split (fun hc => ?_) (fun hc => ?_) <;> (have hc2 := hc; try simp at hc2)) | (with_reducible refine GdT_split (fun hc => ?_) (fun hc => ?_) <;> (have hc2 := hc; try simp at hc2)) | (with_reducible refine WT_alt ?_ ?_) | omega)
          · have e2 := decide_eq_false hc
            clear ha hc
            repeat' (first | (simp (disch := first | omega | assumption | (simp only [List.length_set]; omega) | (simp [*] <;> fail) | assumption) [-Bool.decide_and, -Bool.decide_or, -Bool.not_and, -Bool.not_or, toNat_pred, toNat_succ, wrap64, wr_new, wr_new0, ok_if, ok_ifn, iadV_sl, makeV_int, decT, decF, over_at, *]) | (with_reducible refine Gd_split (fun hc => ?_) (fun hc => ?_) <;> (have hc2 := hc; try simp at hc2)) | (with_reducible refine Br_split (fun hc => ?_) (fun hc => ?_) <;> (have hc2 := hc; try simp at hc2)) | (with_reducible refine GdT_split (fun hc => ?_) (fun hc => ?_) <;> (have hc2 := hc; try simp at hc2)) | (with_reducible refine WT_alt ?_ ?_) | omega)
        · have e1 := decide_eq_false ha
          clear ha
          repeat' (first | (simp (disch := first | omega | assumption | (simp only [List.length_set]; omega) | (simp [*] <;> fail) | assumption) [-Bool.decide_and, -Bool.decide_or, -Bool.not_and, -Bool.not_or, toNat_pred, toNat_succ, wrap64, wr_new, wr_new0, ok_if, ok_ifn, iadV_sl, makeV_int, decT, decF, over_at, *]) | (with_reducible refine Gd_split (fun hc => ?_) (fun hc => ?_) <;> (have hc2 := hc; try simp at hc2)) | (with_reducible refine Br_split (fun hc => ?_) (fun hc => ?_) <;> (have hc2 := hc; try simp at hc2)) | (with_reducible refine GdT_split (fun hc => ?_) (fun hc => ?_) <;> (have hc2 := hc; try simp at hc2)) | (with_reducible refine WT_alt ?_ ?_) | omega)
    · have hb := hfail (effP_len h3) g2 hk2
      have h3i : ¬ ((cut 46 w).length : Int) = 3 := by omega
      clear hfail hstep h3
      repeat' (first | (simp (disch := first | omega | assumption | (simp only [List.length_set]; omega) | (simp [*] <;> fail) | assumption) [-Bool.decide_and, -Bool.decide_or, -Bool.not_and, -Bool.not_or, toNat_pred, toNat_succ, wrap64, wr_new, wr_new0, ok_if, ok_ifn, iadV_sl, makeV_int, decT, decF, over_at, *]) | (with_reducible refine Gd_split (fun hc => ?_) (fun hc => ?_) <;> (have hc2 := hc; try simp at hc2)) | (with_reducible refine Br_split (fun hc => ?_) (fun hc => ?_) <;> (have hc2 := hc; try simp at hc2)) | (with_reducible refine GdT_split (fun hc => ?_) (fun hc => ?_) <;> (have hc2 := hc; try simp at hc2)) | (with_reducible refine WT_alt ?_ ?_) | omega)
  · have : i = W.length := by omega
    have hd := mapO_done hM0 this
    rw [← hch] at hd
    have hv := fun lim K => c_implValidChain (S := S) (h := g) (lim := lim) (K := K) hD.out.arr hD.ins
    clear hM hM0
    by_cases hok : isCh (qs.map (·.1))
    · have hkT := hT o g qs (readR_some hd hok) hD
      rw [decide_eq_true hok] at hv
      clear hT hF hd hok
      subst this
      repeat' (first | (simp (disch := first | omega | assumption | (simp only [List.length_set]; omega) | (simp [*] <;> fail) | assumption) [-Bool.decide_and, -Bool.decide_or, -Bool.not_and, -Bool.not_or, toNat_pred, toNat_succ, wrap64, wr_new, wr_new0, ok_if, ok_ifn, iadV_sl, makeV_int, decT, decF, over_at, *]) | (with_reducible refine Gd_split (fun hc => ?_) (fun hc => ?_) <;> (have hc2 := hc; try simp at hc2)) | (with_reducible refine Br_split (fun hc => ?_) (fun hc => ?_) <;> (have hc2 := hc; try simp at hc2)) | (with_reducible refine GdT_split (fun hc => ?_) (fun hc => ?_) <;> (have hc2 := hc; try simp at hc2)) | (with_reducible refine WT_alt ?_ ?_) | omega)
    · have hkF := hF (readR_bad hd hok) g hk
      rw [decide_eq_false hok] at hv
      clear hT hF hd hok
      subst this
      repeat' (first | (simp (disch := first | omega | assumption | (simp only [List.length_set]; omega) | (simp [*] <;> fail) | assumption) [-Bool.decide_and, -Bool.decide_or, -Bool.not_and, -Bool.not_or, toNat_pred, toNat_succ, wrap64, wr_new, wr_new0, ok_if, ok_ifn, iadV_sl, makeV_int, decT, decF, over_at, *]) | (with_reducible refine Gd_split (fun hc => ?_) (fun hc => ?_) <;> (have hc2 := hc; try simp at hc2)) | (with_reducible refine Br_split (fun hc => ?_) (fun hc => ?_) <;> (have hc2 := hc; try simp at hc2)) | (with_reducible refine GdT_split (fun hc => ?_) (fun hc => ?_) <;> (have hc2 := hc; try simp at hc2)) | (with_reducible refine WT_alt ?_ ?_) | omega)
set_option maxHeartbeats 4000000 in
theorem c_l08Read (hs : s.length ≤ 2000000) (hl : lim ≤ h.length) (hT : ∀ o g qs, readR s = some (qs.map (·.1)) → NewD h g o 44 3 Eff.cells Eff.nums 51 qs → K (.tup [.lf o, .lf (.bool true)]) g)
    (hF : readR s = none → ∀ o g, Kept h g → K (.tup [.lf o, .lf (.bool false)]) g) : CallT S false 13 [.lf (.str ⟨s.toArray⟩)] h lim K := by
  have z0 : NewD h (h ++ [⟨[], .own 44 3⟩]) (.sl h.length 0 0 3) 44 3 Eff.cells Eff.nums 51 [] := NewD.lit (Kept.refl h)
  have hn := tnone (x := s)
  by_cases h0 : s = none4
  · rw [decide_eq_true h0] at hn
    have hkT := hT _ _ [] (readR_some (by unfold chP; rw [if_pos h0]; rfl) ⟨by simp, by simp⟩) z0
    clear hT hF h0
    refine CallT_of_body (F := L13) (HasUh.f13) rfl ?_; unfold L13; dsimp only []
    repeat' (first | (simp (disch := first | omega | assumption | (simp only [List.length_set]; omega) | (simp [*] <;> fail) | assumption) [-Bool.decide_and, -Bool.decide_or, -Bool.not_and, -Bool.not_or, toNat_pred, toNat_succ, wrap64, wr_new, wr_new0, ok_if, ok_ifn, iadV_sl, makeV_int, decT, decF, over_at, *, leavesAll, fillL]) | (with_reducible refine Gd_split (fun hc => ?_) (fun hc => ?_) <;> (have hc2 := hc; try simp at hc2)) | (with_reducible refine Br_split (fun hc => ?_) (fun hc => ?_) <;> (have hc2 := hc; try simp at hc2)) | (with_reducible refine GdT_split (fun hc => ?_) (fun hc => ?_) <;> (have hc2 := hc; try simp at hc2)) | (with_reducible refine WT_alt ?_ ?_) | omega)
  · rw [decide_eq_false h0] at hn
    have hch : chP s = mapO effP (cut 59 s) := by unfold chP; rw [if_neg h0]
    have hlong := readR_long h0
    have hte := teql (x := s) (y := s)
    rw [decide_eq_true rfl] at hte
    clear h0
    refine CallT_of_body (F := L13) (HasUh.f13) rfl ?_; unfold L13; dsimp only []
    repeat' (first | (simp (disch := first | omega | assumption | (simp only [List.length_set]; omega) | (simp [*] <;> fail) | assumption) [-Bool.decide_and, -Bool.decide_or, -Bool.not_and, -Bool.not_or, toNat_pred, toNat_succ, wrap64, wr_new, wr_new0, ok_if, ok_ifn, iadV_sl, makeV_int, decT, decF, over_at, *, leavesAll, fillL]) | (with_reducible refine Gd_split (fun hc => ?_) (fun hc => ?_) <;> (have hc2 := hc; try simp at hc2)) | (with_reducible refine Br_split (fun hc => ?_) (fun hc => ?_) <;> (have hc2 := hc; try simp at hc2)) | (with_reducible refine GdT_split (fun hc => ?_) (fun hc => ?_) <;> (have hc2 := hc; try simp at hc2)) | (with_reducible refine WT_alt ?_ ?_) | omega)
    refine c_l01Cut (S := S) (m := 59) hs (by simp; omega) fun o1 g1 hN1 => ?_
    have hzl := hN1.kept
    have z1 := z0.later hzl
    have hf0 : Far (.sl h.length 0 0 3) o1 := (z0.fresh hN1).1
    replace hN1 := hN1.base (Kept.app h _)
    clear z0
    have hlw := hN1.arr.len
    have hw2 := cut_piece (m := 59) (s := s)
    by_cases h8 : (cut 59 s).length ≤ 8
    · have h8i : ¬ (8 : Int) < ((cut 59 s).length : Int) := by omega
      clear hlong
      generalize cut 59 s = W at *
      repeat' (first | (simp (disch := first | omega | assumption | (simp only [List.length_set]; omega) | (simp [*] <;> fail) | assumption) [-Bool.decide_and, -Bool.decide_or, -Bool.not_and, -Bool.not_or, toNat_pred, toNat_succ, wrap64, wr_new, wr_new0, ok_if, ok_ifn, iadV_sl, makeV_int, decT, decF, over_at, *]) | (with_reducible refine Gd_split (fun hc => ?_) (fun hc => ?_) <;> (have hc2 := hc; try simp at hc2)) | (with_reducible refine Br_split (fun hc => ?_) (fun hc => ?_) <;> (have hc2 := hc; try simp at hc2)) | (with_reducible refine GdT_split (fun hc => ?_) (fun hc => ?_) <;> (have hc2 := hc; try simp at hc2)) | (with_reducible refine WT_alt ?_ ?_) | omega)
      refine WL_forM 302231454903657276915676 (by decide +kernel) (W.length) (fun i b g => i ≤ W.length ∧ b 6 = .lf (.int .i64 i) ∧ ∃ qs o, b 4 = .lf o ∧ NewD h g o 44 3 Eff.cells Eff.nums 51 qs ∧ New h g o1 9 1 (W.map st) ∧ Far o o1 ∧ qs.length = i ∧ Hid (mapO effP W = (mapO effP (W.drop i)).map (qs.map (·.1) ++ ·))) (fun _ _ _ hi => hi.1) ⟨by omega, by simp, [], _, by simp, z1, hN1, hf0, rfl, mapO_zero⟩ ?_
      clear hN1 z1 hf0 hzl hlw
      rintro i b g ⟨hi, e6, qs, o, e4, hD, hN1, hf, hql, hM⟩
      have hM0 : mapO effP W = (mapO effP (W.drop i)).map (qs.map (·.1) ++ ·) := hM
      have hk := hD.kept
      have hlw := hN1.arr.len
      by_cases hlt : i < W.length
      · have ai := hN1.arr.at_ (k := .i64) hlt
        have di := hN1.arr.rd1 hlt
        have hwl := hw2 _ (List.getElem_mem hlt)
        have hfail : effP W[i] = none → ∀ o g, Kept h g → K (.tup [.lf o, .lf (.bool false)]) g := fun q => hF (readR_none (by rw [hch]; exact mapO_fail hM0 hlt q))
        have hstep : Hid (∀ e, effP W[i] = some e → mapO effP W = (mapO effP (W.drop (i + 1))).map ((qs.map (·.1) ++ [e]) ++ ·)) := fun e q => mapO_step hM0 hlt q
        have hgl := hk.1
        clear hT hF hM hM0 hw2
        generalize W[i] = w at *
        repeat' (first | (simp (disch := first | omega | assumption | (simp only [List.length_set]; omega) | (simp [*] <;> fail) | assumption) [-Bool.decide_and, -Bool.decide_or, -Bool.not_and, -Bool.not_or, toNat_pred, toNat_succ, wrap64, wr_new, wr_new0, ok_if, ok_ifn, iadV_sl, makeV_int, decT, decF, over_at, *, st]) | (with_reducible refine Gd_split (fun hc => ?_) (fun hc => ?_) <;> (have hc2 := hc; try simp at hc2)) | (with_reducible refine Br_split (fun hc => ?_) (fun hc => ?_) <;> (have hc2 := hc; try simp at hc2)) | (with_reducible refine GdT_split (fun hc => ?_) (fun hc => ?_) <;> (have hc2 := hc; try simp at hc2)) | (with_reducible refine WT_alt ?_ ?_) | omega)
        refine c_l01Cut (S := S) (m := 46) (by omega) (by omega) fun o2 g2 hN2 => ?_
        have hk2 := hk.trans hN2.kept
        have hg2l := hN2.kept.1
        have hl2 := hN2.arr.len
        by_cases h3 : (cut 46 w).length = 3
        · obtain ⟨a, c, d, hcut⟩ := len_three h3
          have hpl := cut_piece (m := 46) (s := w)
          rw [hcut] at hN2 hl2 hpl
          obtain ⟨⟨a0, r0⟩, ⟨a1, r1⟩, ⟨a2, r2⟩⟩ := three hN2.arr
          have hdl := hpl d (by simp)
          have hrd1 := fun g lim K => c_l01Value (S := S) (h := g) (lim := lim) (K := K) (s := a)
          have hrd2 := fun g lim K => c_l01Value (S := S) (h := g) (lim := lim) (K := K) (s := c)
          simp only [List.length_cons, List.length_nil] at hl2
          have hbad : ¬ (isDec a ∧ isDec c) → ∀ o g, Kept h g → K (.tup [.lf o, .lf (.bool false)]) g := fun q => hfail (effP_dec hcut q)
          have hbadn : numP d = none → ∀ o g, Kept h g → K (.tup [.lf o, .lf (.bool false)]) g := fun q => hfail (effP_num hcut q)
          have hgood : Hid (∀ xs, isDec a → isDec c → numP d = some xs → mapO effP W = (mapO effP (W.drop (i + 1))).map ((qs.map (·.1) ++ [⟨decN a, decN c, xs⟩]) ++ ·)) := fun xs q1 q2 q3 => (show ∀ e, effP w = some e → mapO effP W = (mapO effP (W.drop (i + 1))).map ((qs.map (·.1) ++ [e]) ++ ·) from hstep) _ (effP_ok hcut q1 q2 q3)
          have hD2 := hD.later hN2.kept
          have hN12 := hN1.later hN2.kept
          clear hfail hstep hpl hcut h3 hN1 hD
          repeat' (first | (simp (disch := first | omega | assumption | (simp only [List.length_set]; omega) | (simp [*] <;> fail) | assumption) [-Bool.decide_and, -Bool.decide_or, -Bool.not_and, -Bool.not_or, toNat_pred, toNat_succ, wrap64, wr_new, wr_new0, ok_if, ok_ifn, iadV_sl, makeV_int, decT, decF, over_at, *, st]) | (with_reducible refine Gd_split (fun hc => ?_) (fun hc => ?_) <;> (have hc2 := hc; try simp at hc2)) | (with_reducible refine Br_split (fun hc => ?_) (fun hc => ?_) <;> (have hc2 := hc; try simp at hc2)) | (with_reducible refine GdT_split (fun hc => ?_) (fun hc => ?_) <;> (have hc2 := hc; try simp at hc2)) | (with_reducible refine WT_alt ?_ ?_) | omega)
          refine c_l01NRead (S := S) (by omega) (by omega) (fun o3 g3 xs hx hN3 => ?_) (fun hx g3 hK3 => ?_)
          · have hk3 := hk2.trans hN3.kept
            by_cases ha : isDec a
            · by_cases hc : isDec c
              · have hst := (show ∀ xs, isDec a → isDec c → numP d = some xs → mapO effP W = (mapO effP (W.drop (i + 1))).map ((qs.map (·.1) ++ [⟨decN a, decN c, xs⟩]) ++ ·) from hgood) xs ha hc hx
                have hstH : Hid (∀ l : Lf, mapO effP W = (mapO effP (W.drop (i + 1))).map (((qs ++ [((⟨decN a, decN c, xs⟩ : Eff), l)]).map (·.1)) ++ ·)) := fun l => by rw [List.map_append]; exact hst
                have e1 := decide_eq_true ha
                have e2 := decide_eq_true hc
                clear hst hgood hbad hbadn hx ha hc hrd1 hrd2
                obtain ⟨hf0, hf1⟩ := hD2.fresh hN3
                have hD3 := hD2.later hN3.kept
                have hN13 := hN12.later hN3.kept
                have hN3b := hN3.base hk2
                clear hD2 hN12 hN3
                generalize decN a = A at *
                generalize decN c = C at *
                repeat' (first | (simp (disch := first | omega | assumption | (simp only [List.length_set]; omega) | (simp [*] <;> fail) | assumption) [-Bool.decide_and, -Bool.decide_or, -Bool.not_and, -Bool.not_or, toNat_pred, toNat_succ, wrap64, wr_new, wr_new0, ok_if, ok_ifn, iadV_sl, makeV_int, decT, decF, over_at, *, leavesAll, fillL]) | (with_reducible refine Gd_split (fun hc => ?_) (fun hc => ?_) <;> (have hc2 := hc; try simp at hc2)) | (with_reducible refine Br_split (fun hc => ?_) (fun hc => ?_) <;> (have hc2 := hc; try simp at hc2)) | (with_reducible refine GdT_split (fun hc => ?_) (fun hc => ?_) <;> (have hc2 := hc; try simp at hc2)) | (with_reducible refine WT_alt ?_ ?_) | omega)
                refine oc_pushL (r := [.int .i64 A, .int .i64 C, o3]) (bytes := 40) hD3.out hl (by simp; omega) (fun o4 g4 hN4 hB4 => ?_) (by decide) rfl (by decide)
                have hP := hD3.push (a := ⟨A, C, xs⟩) hN3b hf0 hf1 (Kept.refl _) hN4 hB4 rfl
                obtain ⟨hN14, hf4⟩ := hB4.other hD3.out hN13 hf
                clear hD3 hN13 hB4 hN4 hN3b hf0 hf1 hf
                repeat' (first | (simp (disch := first | omega | assumption | (simp only [List.length_set]; omega) | (simp [*] <;> fail) | assumption) [-Bool.decide_and, -Bool.decide_or, -Bool.not_and, -Bool.not_or, toNat_pred, toNat_succ, wrap64, wr_new, wr_new0, ok_if, ok_ifn, iadV_sl, makeV_int, decT, decF, over_at, *]) | (with_reducible refine Gd_split (fun hc => ?_) (fun hc => ?_) <;> (have hc2 := hc; try simp at hc2)) | (with_reducible refine Br_split (fun hc => ?_) (fun hc => ?_) <;> (have hc2 := hc; try simp at hc2)) | (with_reducible refine GdT_split (fun hc => ?_) (fun hc => ?_) <;> (have hc2 := hc; try simp at hc2)) | (with_reducible refine WT_alt ?_ ?_) | omega)
                exact ⟨by omega, _, hP, by simp [hql], hstH _⟩
              · have hb := hbad (fun q => hc q.2) o g3 hk3
                have e1 := decide_eq_true ha
                have e2 := decide_eq_false hc
                clear hgood hbad hbadn hrd1 hrd2 ha hc
                repeat' (first | (simp (disch := first | omega | assumption | (simp only [List.length_set]; omega) | (simp [*] <;> fail) | assumption) [-Bool.decide_and, -Bool.decide_or, -Bool.not_and, -Bool.not_or, toNat_pred, toNat_succ, wrap64, wr_new, wr_new0, ok_if, ok_ifn, iadV_sl, makeV_int, decT, decF, over_at, *]) | (with_reducible refine Gd_split (fun hc => ?_) (fun hc => ?_) <;> (have hc2 := hc; try simp at hc2)) | (with_reducible refine Br_split (fun hc => ?_) (fun hc => ?_) <;> (have hc2 := hc; try simp at hc2)) | (with_reducible refine GdT_split (fun hc => ?_) (fun hc => ?_) <;> (have hc2 := hc; try simp at hc2)) | (with_reducible refine WT_alt ?_ ?_) | omega)
            · have hb := hbad (fun q => ha q.1) o g3 hk3
              have e1 := decide_eq_false ha
              clear hgood hbad hbadn hrd1 hrd2 ha
              repeat' (first | (simp (disch := first | omega | assumption | (simp only [List.length_set]; omega) | (simp [*] <;> fail) | assumption) [-Bool.decide_and, -Bool.decide_or, -Bool.not_and, -Bool.not_or, toNat_pred, toNat_succ, wrap64, wr_new, wr_new0, ok_if, ok_ifn, iadV_sl, makeV_int, decT, decF, over_at, *]) | (with_reducible refine Gd_split (fun hc => ?_) (fun hc => ?_) <;> (have hc2 := hc; try simp at hc2)) | (with_reducible refine Br_split (fun hc => ?_) (fun hc => ?_) <;> (have hc2 := hc; try simp at hc2)) | (with_reducible refine GdT_split (fun hc => ?_) (fun hc => ?_) <;> (have hc2 := hc; try simp at hc2)) | (with_reducible refine WT_alt ?_ ?_) | omega)
          · have hb := hbadn hx o g3 (hk2.trans hK3)
            clear hgood hbad hbadn hrd1 hrd2
            by_cases ha : isDec a
            · have e1 := decide_eq_true ha
              by_cases hc : isDec c
              · have e2 := decide_eq_true hc
                clear ha hc
                repeat' (first | (simp (disch := first | omega | assumption | (simp only [List.length_set]; omega) | (simp [*] <;> fail) | assumption) [-Bool.decide_and, -Bool.decide_or, -Bool.not_and, -Bool.not_or, toNat_pred, toNat_succ, wrap64, wr_new, wr_new0, ok_if, ok_ifn, iadV_sl, makeV_int, decT, decF, over_at, *]) | (with_reducible refine Gd_split (fun hc => ?_) (fun hc => ?_) <;> (have hc2 := hc; try simp at hc2)) | (with_reducible refine Br_split (fun hc => ?_) (fun hc => ?_) <;> (have hc2 := hc; try simp at hc2)) | (with_reducible refine GdT_split (fun hc => ?_) (fun hc => ?_) <;> (have hc2 := hc; try simp at hc2)) | (with_reducible refine WT_alt ?_ ?_) | omega)
              · have e2 := decide_eq_false hc
                clear ha hc
                repeat' (first | (simp (disch := first | omega | assumption | (simp only [List.length_set]; omega) | (simp [*] <;> fail) | assumption) [-Bool.decide_and, -Bool.decide_or, -Bool.not_and, -Bool.not_or, toNat_pred, toNat_succ, wrap64, wr_new, wr_new0, ok_if, ok_ifn, iadV_sl, makeV_int, decT, decF, over_at, *]) | (with_reducible refine Gd_split (fun hc => ?_) (fun hc => ?_) <;> (have hc2 := hc; try simp at hc2)) | (with_reducible refine Br_split (fun hc => ?_) (fun hc => ?_) <;> (have hc2 := hc; try simp at hc2)) | (with_reducible refine GdT_split (fun hc => ?_) (fun hc => ?_) <;> (have hc2 := hc; try simp at hc2)) | (with_reducible refine WT_alt ?_ ?_) | omega)
            · have e1 := decide_eq_false ha
              clear ha
              repeat' (first | (simp (disch := first | omega | assumption | (simp only [List.length_set]; omega) | (simp [*] <;> fail) | assumption) [-Bool.decide_and, -Bool.decide_or, -Bool.not_and, -Bool.not_or, toNat_pred, toNat_succ, wrap64, wr_new, wr_new0, ok_if, ok_ifn, iadV_sl, makeV_int, decT, decF, over_at, *]) | (with_reducible refine Gd_split (fun hc => ?_) (fun hc => ?_) <;> (have hc2 := hc; try simp at hc2)) | (with_reducible refine Br_split (fun hc => ?_) (fun hc => ?_) <;> (have hc2 := hc; try simp at hc2)) | (with_reducible refine GdT_split (fun hc => ?_) (fun hc => ?_) <;> (have hc2 := hc; try simp at hc2)) | (with_reducible refine WT_alt ?_ ?_) | omega)
        · have hb := hfail (effP_len h3) o g2 hk2
          have h3i : ¬ ((cut 46 w).length : Int) = 3 := by omega
          clear hfail hstep h3
          repeat' (first | (simp (disch := first | omega | assumption | (simp only [List.length_set]; omega) | (simp [*] <;> fail) | assumption) [-Bool.decide_and, -Bool.decide_or, -Bool.not_and, -Bool.not_or, toNat_pred, toNat_succ, wrap64, wr_new, wr_new0, ok_if, ok_ifn, iadV_sl, makeV_int, decT, decF, over_at, *]) | (with_reducible refine Gd_split (fun hc => ?_) (fun hc => ?_) <;> (have hc2 := hc; try simp at hc2)) | (with_reducible refine Br_split (fun hc => ?_) (fun hc => ?_) <;> (have hc2 := hc; try simp at hc2)) | (with_reducible refine GdT_split (fun hc => ?_) (fun hc => ?_) <;> (have hc2 := hc; try simp at hc2)) | (with_reducible refine WT_alt ?_ ?_) | omega)
      · have : i = W.length := by omega
        have hd := mapO_done hM0 this
        rw [← hch] at hd
        have hv := fun lim K => c_l08Is (S := S) (h := g) (lim := lim) (K := K) hD.out.arr hD.ins
        have hcf : ∀ p ∈ qs, ∀ x ∈ p.1.nums, CF x := fun p hp => (chP_nums hd p.1 (List.mem_map.2 ⟨p, hp, rfl⟩)).1
        have hx := fun q lim K => c_l08Text (S := S) (h := g) (lim := lim) (K := K) hD.out.arr hD.ins hcf q
        clear hM hM0
        by_cases hok : isCh (qs.map (·.1))
        · have hkT := hT o g qs (readR_some hd hok) hD
          replace hx := hx hok
          rw [chP_text hd hok] at hx
          rw [decide_eq_true hok] at hv
          clear hT hF hd hok hcf
          subst this
          repeat' (first | (simp (disch := first | omega | assumption | (simp only [List.length_set]; omega) | (simp [*] <;> fail) | assumption) [-Bool.decide_and, -Bool.decide_or, -Bool.not_and, -Bool.not_or, toNat_pred, toNat_succ, wrap64, wr_new, wr_new0, ok_if, ok_ifn, iadV_sl, makeV_int, decT, decF, over_at, *]) | (with_reducible refine Gd_split (fun hc => ?_) (fun hc => ?_) <;> (have hc2 := hc; try simp at hc2)) | (with_reducible refine Br_split (fun hc => ?_) (fun hc => ?_) <;> (have hc2 := hc; try simp at hc2)) | (with_reducible refine GdT_split (fun hc => ?_) (fun hc => ?_) <;> (have hc2 := hc; try simp at hc2)) | (with_reducible refine WT_alt ?_ ?_) | omega)
        · have hkF := hF (readR_bad hd hok) o g hk
          rw [decide_eq_false hok] at hv
          clear hT hF hd hok hx hcf
          subst this
          repeat' (first | (simp (disch := first | omega | assumption | (simp only [List.length_set]; omega) | (simp [*] <;> fail) | assumption) [-Bool.decide_and, -Bool.decide_or, -Bool.not_and, -Bool.not_or, toNat_pred, toNat_succ, wrap64, wr_new, wr_new0, ok_if, ok_ifn, iadV_sl, makeV_int, decT, decF, over_at, *]) | (with_reducible refine Gd_split (fun hc => ?_) (fun hc => ?_) <;> (have hc2 := hc; try simp at hc2)) | (with_reducible refine Br_split (fun hc => ?_) (fun hc => ?_) <;> (have hc2 := hc; try simp at hc2)) | (with_reducible refine GdT_split (fun hc => ?_) (fun hc => ?_) <;> (have hc2 := hc; try simp at hc2)) | (with_reducible refine WT_alt ?_ ?_) | omega)
    · have h8i : (8 : Int) < ((cut 59 s).length : Int) := by omega
      have hkF := hF (hlong (by omega)) (.sl h.length 0 0 3) g1 z1.kept
      clear hF hT hlong
      generalize cut 59 s = W at *
      repeat' (first | (simp (disch := first | omega | assumption | (simp only [List.length_set]; omega) | (simp [*] <;> fail) | assumption) [-Bool.decide_and, -Bool.decide_or, -Bool.not_and, -Bool.not_or, toNat_pred, toNat_succ, wrap64, wr_new, wr_new0, ok_if, ok_ifn, iadV_sl, makeV_int, decT, decF, over_at, *]) | (with_reducible refine Gd_split (fun hc => ?_) (fun hc => ?_) <;> (have hc2 := hc; try simp at hc2)) | (with_reducible refine Br_split (fun hc => ?_) (fun hc => ?_) <;> (have hc2 := hc; try simp at hc2)) | (with_reducible refine GdT_split (fun hc => ?_) (fun hc => ?_) <;> (have hc2 := hc; try simp at hc2)) | (with_reducible refine WT_alt ?_ ?_) | omega)
end
end Go.E
