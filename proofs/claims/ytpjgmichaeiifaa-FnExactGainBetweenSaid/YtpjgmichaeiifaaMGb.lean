/- The gain between two nodes, both sides. -/
import Derived.Test.YtpjgmichaeiifaaMMx
import Derived.Test.YtpjgmichaeiifaaMN
set_option linter.unusedVariables false
set_option linter.unusedSimpArgs false
namespace Go.E
open Go
def L57 : LFn := ⟨4, (.seq (.reg [⟨(.some 8), (.mv (.c (.lf (.flt .f32 0)))), none⟩, ⟨(.some 9), (.mv (.c (.lf (.bool false)))), none⟩])
 (.seq (.seq (.reg [⟨(.some 13), (.mv (.t 0)), none⟩, ⟨(.some 14), (.mv (.t 1)), none⟩, ⟨(.some 15), (.call true 118 [(.t 13), (.t 14)]), none⟩, ⟨(.some 16), (.una .not (.t 15)), none⟩, ⟨(.some 17), (.mv (.t 16)), none⟩, ⟨(.some 18), (.mv (.t 2)), (.some (17, false))⟩, ⟨(.some 19), (.mv (.t 0)), (.some (17, false))⟩, ⟨(.some 20), (.bin .sub (.t 19) (.c (.lf (.int .i64 1)))), (.some (17, false))⟩, ⟨(.some 21), (.call true 86 [(.t 18), (.c (.lf (.int .i64 0))), (.t 20)]), (.some (17, false))⟩, ⟨(.some 22), (.una .not (.t 21)), (.some (17, false))⟩, ⟨(.some 23), (.pick (.t 17) (.c (.lf (.bool true))) (.t 22)), none⟩, ⟨(.some 24), (.mv (.t 23)), none⟩, ⟨(.some 25), (.mv (.t 3)), (.some (24, false))⟩, ⟨(.some 26), (.mv (.t 0)), (.some (24, false))⟩, ⟨(.some 27), (.bin .sub (.t 26) (.c (.lf (.int .i64 1)))), (.some (24, false))⟩, ⟨(.some 28), (.call true 86 [(.t 25), (.c (.lf (.int .i64 0))), (.t 27)]), (.some (24, false))⟩, ⟨(.some 29), (.una .not (.t 28)), (.some (24, false))⟩, ⟨(.some 30), (.pick (.t 24) (.c (.lf (.bool true))) (.t 29)), none⟩])
 (.cond (.t 30) (.seq (.reg [⟨(.some 8), (.mv (.c (.lf (.flt .f32 0)))), none⟩, ⟨(.some 9), (.mv (.c (.lf (.bool false)))), none⟩])
 .ret) .skip))
 (.seq (.reg [⟨(.some 31), (.lit 28 1 0 [] []), none⟩, ⟨(.some 10), (.mv (.t 31)), none⟩])
 (.seq (.seq (.reg [⟨(.some 11), (.mv (.c (.lf (.int .i64 0)))), none⟩])
 (.block 0 (.loop (.seq (.seq (.reg [⟨(.some 32), (.mv (.t 11)), none⟩, ⟨(.some 33), (.mv (.t 0)), none⟩, ⟨(.some 34), (.bin .lss (.t 32) (.t 33)), none⟩])
 (.cond (.t 34) .skip (.exit 0)))
 (.seq (.block 1 (.seq (.reg [⟨(.some 12), (.mv (.c (.lf (.flt .f32 0)))), none⟩])
 (.seq (.seq (.reg [⟨(.some 37), (.mv (.t 11)), none⟩, ⟨(.some 38), (.mv (.t 2)), none⟩, ⟨(.some 39), (.bin .eql (.t 37) (.t 38)), none⟩])
 (.cond (.t 39) (.reg [⟨(.some 12), (.mv (.c (.lf (.flt .f32 1065353216)))), none⟩]) .skip))
 (.reg [⟨(.some 40), (.mv (.t 10)), none⟩, ⟨(.some 41), (.mv (.t 12)), none⟩, ⟨(.some 42), (.lit 24 1 1 [(.flt .f32 0)] [(0, (1, (.t 41)))]), none⟩, ⟨(.some 43), (.lit 28 1 1 [.nils] [(0, (1, (.t 42)))]), none⟩, ⟨(.some 44), (.app 28 1 24 (.t 40) (.t 43)), none⟩, ⟨(.some 10), (.mv (.t 44)), none⟩]))))
 (.reg [⟨(.some 35), (.mv (.t 11)), none⟩, ⟨(.some 36), (.bin .add (.t 35) (.c (.lf (.int .i64 1)))), none⟩, ⟨(.some 11), (.mv (.t 36)), none⟩]))))))
 (.seq (.reg [⟨(.some 45), (.mv (.t 10)), none⟩, ⟨(.some 46), (.mv (.t 1)), none⟩, ⟨(.some 47), (.call false 119 [(.t 45), (.t 46)]), none⟩, ⟨(.some 48), (.mv (.t 3)), none⟩, ⟨(.some 49), (.iaddr 1 (.t 47) (.t 48)), none⟩, ⟨(.some 50), (.load false 1 (.t 49)), none⟩, ⟨(.some 51), (.iaddr 1 (.t 50) (.c (.lf (.int .i64 0)))), none⟩, ⟨(.some 52), (.load false 1 (.t 51)), none⟩, ⟨(.some 8), (.mv (.t 52)), none⟩, ⟨(.some 9), (.mv (.c (.lf (.bool true)))), none⟩])
 .ret))))), [(.tmp 8), (.tmp 9)]⟩
def L59 : LFn := ⟨4, (.seq (.reg [⟨(.some 8), (.mv (.c (.lf (.flt .f32 0)))), none⟩, ⟨(.some 9), (.mv (.c (.lf (.bool false)))), none⟩])
 (.seq (.seq (.reg [⟨(.some 11), (.mv (.t 0)), none⟩, ⟨(.some 12), (.mv (.t 1)), none⟩, ⟨(.some 13), (.call true 121 [(.t 11), (.t 12)]), none⟩, ⟨(.some 14), (.una .not (.t 13)), none⟩, ⟨(.some 15), (.mv (.t 14)), none⟩, ⟨(.some 16), (.mv (.t 2)), (.some (15, false))⟩, ⟨(.some 17), (.mv (.t 3)), (.some (15, false))⟩, ⟨(.some 18), (.lit 2 1 2 [(.int .i64 0), (.int .i64 0)] [(0, (1, (.t 16))), (1, (1, (.t 17)))]), (.some (15, false))⟩, ⟨(.some 19), (.mv (.t 0)), (.some (15, false))⟩, ⟨(.some 20), (.bin .sub (.t 19) (.c (.lf (.int .i64 1)))), (.some (15, false))⟩, ⟨(.some 21), (.call true 107 [(.t 18), (.c (.lf (.int .i64 0))), (.t 20)]), (.some (15, false))⟩, ⟨(.some 22), (.una .not (.t 21)), (.some (15, false))⟩, ⟨(.some 23), (.pick (.t 15) (.c (.lf (.bool true))) (.t 22)), none⟩])
 (.cond (.t 23) (.seq (.reg [⟨(.some 8), (.mv (.c (.lf (.flt .f32 0)))), none⟩, ⟨(.some 9), (.mv (.c (.lf (.bool false)))), none⟩])
 .ret) .skip))
 (.seq (.reg [⟨(.some 10), (.mv (.c (.lf .nils))), none⟩])
 (.seq (.seq (.reg [⟨(.some 24), (.mv (.t 0)), none⟩, ⟨(.some 25), (.mv (.c (.lf (.int .i64 0)))), none⟩])
 (.block 0 (.loop (.seq (.reg [⟨(.some 26), (.bin .lss (.t 25) (.t 24)), none⟩])
 (.seq (.cond (.t 26) .skip (.exit 0))
 (.seq (.block 1 (.reg [⟨(.some 27), (.mv (.t 10)), none⟩, ⟨(.some 28), (.call false 75 [(.c (.lf (.int .i64 1)))]), none⟩, ⟨(.some 29), (.lit 28 1 1 [.nils] [(0, (1, (.t 28)))]), none⟩, ⟨(.some 30), (.app 28 1 24 (.t 27) (.t 29)), none⟩, ⟨(.some 10), (.mv (.t 30)), none⟩]))
 (.reg [⟨(.some 31), (.bin .add (.t 25) (.c (.lf (.int .i64 1)))), none⟩, ⟨(.some 25), (.mv (.t 31)), none⟩])))))))
 (.seq (.reg [⟨(.some 32), (.mv (.t 10)), none⟩, ⟨(.some 33), (.mv (.t 2)), none⟩, ⟨(.some 34), (.iaddr 1 (.t 32) (.t 33)), none⟩, ⟨(.some 35), (.load false 1 (.t 34)), none⟩, ⟨(.some 36), (.iaddr 1 (.t 35) (.c (.lf (.int .i64 0)))), none⟩, ⟨none, (.store 1 (.t 36) (.c (.lf (.flt .f32 1065353216)))), none⟩])
 (.seq (.reg [⟨(.some 37), (.mv (.t 10)), none⟩, ⟨(.some 38), (.mv (.t 1)), none⟩, ⟨(.some 39), (.call false 122 [(.t 37), (.t 38)]), none⟩, ⟨(.some 40), (.mv (.t 3)), none⟩, ⟨(.some 41), (.iaddr 1 (.t 39) (.t 40)), none⟩, ⟨(.some 42), (.load false 1 (.t 41)), none⟩, ⟨(.some 43), (.iaddr 1 (.t 42) (.c (.lf (.int .i64 0)))), none⟩, ⟨(.some 44), (.load false 1 (.t 43)), none⟩, ⟨(.some 8), (.mv (.t 44)), none⟩, ⟨(.some 9), (.mv (.c (.lf (.bool true)))), none⟩])
 .ret)))))), [(.tmp 8), (.tmp 9)]⟩
class HasGb (S : Sys) : Prop extends HasS S, HasMx S, HasN S where
  f57 : S.fs 57 = some L57
  f59 : S.fs 59 = some L59
def unitF (f : Int) (k : Nat) : List Nat := [if (k : Int) = f then 1065353216 else 0]
def okGb (n : Int) (ss : List Snd) (f t : Int) : Prop := areSends n ss ∧ (0 ≤ f ∧ f ≤ n - 1) ∧ 0 ≤ t ∧ t ≤ n - 1
noncomputable instance (n : Int) (ss : List Snd) (f t : Int) : Decidable (okGb n ss f t) := Classical.propDecidable _
def gbV (n : Int) (ss : List Snd) (f t : Int) : Nat := ((mixL ss (tabTo (unitF f) n.toNat)).getD t.toNat []).getD 0 0
noncomputable def gbT (n : Int) (ss : List Snd) (f t : Int) : CV := if okGb n ss f t then .tup [.lf (.flt .f32 (gbV n ss f t)), .lf (.bool true)] else .tup [.lf (.flt .f32 0), .lf (.bool false)]
theorem unit_each {f : Int} {n : Nat} : ∀ x ∈ tabTo (unitF f) n, x.length = 1 := by
  intro x hx
  unfold tabTo at hx
  obtain ⟨k, _, rfl⟩ := List.mem_map.1 hx
  rfl
theorem New.one {h g : Hp} {x ty ty2 : Nat} (hk : Kept h g) : New h (g ++ [⟨[.flt .f32 x], .own ty 1⟩, ⟨[.sl g.length 0 1 1], .own ty2 1⟩]) (.sl g.length 0 1 1) ty 1 ([x].map fl) := by
  have := (New.fls (h := h) (g := g) (xs := [x]) (cs := [.flt .f32 x]) (ty := ty) hk rfl (by simp)).later (Kept.app _ [⟨[.sl g.length 0 1 1], .own ty2 1⟩])
  simpa using this
section
variable {S : Sys} {lim : Nat} {h : Hp} {K : CV → Hp → Prop} [HasGb S] {l : Lf} {ss : List Snd}
set_option maxHeartbeats 2000000 in
theorem c_specGainBetween {n f t : Int} (hB : Arr h l 3 (ss.map Snd.cells)) : CallT S true 57 [.lf (.int .i64 n), .lf l, .lf (.int .i64 f), .lf (.int .i64 t)] h lim K = K (gbT n ss f t) h := by
  have hc := fun h lim K hB => c_l07Sends (S := S) (h := h) (lim := lim) (K := K) (l := l) (ps := ss) (n := n) hB
  by_cases hs : areSends n ss
  · have hn8 := hs.1
    by_cases hf : 0 ≤ f ∧ f ≤ n - 1
    · by_cases ht : 0 ≤ t ∧ t ≤ n - 1
      · have e : gbT n ss f t = .tup [.lf (.flt .f32 (gbV n ss f t)), .lf (.bool true)] := by unfold gbT; rw [if_pos ⟨hs, hf, ht⟩]
        rw [e]
        clear e
        obtain ⟨v, hv⟩ : ∃ v, gbV n ss f t = v := ⟨_, rfl⟩
        rw [hv]
        unfold gbV at hv
        obtain ⟨N, rfl⟩ : ∃ N : Nat, n = N := ⟨n.toNat, by omega⟩
        obtain ⟨F, rfl⟩ : ∃ F : Nat, f = F := ⟨f.toNat, by omega⟩
        obtain ⟨T, rfl⟩ : ∃ T : Nat, t = T := ⟨t.toNat, by omega⟩
        have hsN := hs
        rw [Int.toNat_natCast, Int.toNat_natCast] at hv
        have hvH : Hid (((mixL ss (tabTo (unitF F) N)).getD T []).getD 0 0 = v) := hv
        clear hv
        refine CallT_pure (F := L57) (HasGb.f57) rfl (by first | rfl | (split <;> rfl) | simp) ?_; unfold L57; dsimp only []
        repeat' (first | (simp (disch := first | omega | assumption | (simp only [List.length_set]; omega) | (simp [*] <;> fail) | assumption) [-Bool.decide_and, -Bool.decide_or, -Bool.not_and, -Bool.not_or, toNat_pred, toNat_succ, wrap64, wr_new, wr_new0, ok_if, ok_ifn, iadV_sl, makeV_int, decT, decF, over_at, *, c_l07Sends hB, leavesAll, fillL]) | (with_reducible refine Gd_split (fun hc => ?_) (fun hc => ?_) <;> (have hc2 := hc; try simp at hc2)) | (with_reducible refine Br_split (fun hc => ?_) (fun hc => ?_) <;> (have hc2 := hc; try simp at hc2)) | (with_reducible refine GdT_split (fun hc => ?_) (fun hc => ?_) <;> (have hc2 := hc; try simp at hc2)) | (with_reducible refine WT_alt ?_ ?_) | omega)
        refine WL_forM 35180077128704 (by decide +kernel) (N) (fun k b g => k ≤ N ∧ b 11 = .lf (.int .i64 k) ∧ ∃ o qs, b 10 = .lf o ∧ NewD h g o 28 1 ssCells ssRows 24 qs ∧ qs.map (·.1) = tabTo (unitF F) k) (fun _ _ _ hi => hi.1) ⟨by omega, by simp, _, [], by simp, NewD.lit (Kept.refl _), by simp⟩ ?_
        rintro k b g ⟨hk, e11, o, qs, e10, hD, hq⟩
        have hql : qs.length = k := by have := congrArg List.length hq; rw [tabTo_len] at this; simpa using this
        by_cases hlt : k < N
        · have hgk := hD.kept
          have hqH : Hid (tabTo (unitF F) (k + 1) = qs.map (·.1) ++ [unitF F k]) := by rw [hq]; exact tabTo_succ
          clear hq
          by_cases hkf : k = F
          · subst hkf
            have hu : unitF k k = [1065353216] := by unfold unitF; rw [if_pos rfl]
            rw [hu] at hqH
            repeat' (first | (simp (disch := first | omega | assumption | (simp only [List.length_set]; omega) | (simp [*] <;> fail) | assumption) [-Bool.decide_and, -Bool.decide_or, -Bool.not_and, -Bool.not_or, toNat_pred, toNat_succ, wrap64, wr_new, wr_new0, ok_if, ok_ifn, iadV_sl, makeV_int, decT, decF, over_at, *, leavesAll, fillL]) | (with_reducible refine Gd_split (fun hc => ?_) (fun hc => ?_) <;> (have hc2 := hc; try simp at hc2)) | (with_reducible refine Br_split (fun hc => ?_) (fun hc => ?_) <;> (have hc2 := hc; try simp at hc2)) | (with_reducible refine GdT_split (fun hc => ?_) (fun hc => ?_) <;> (have hc2 := hc; try simp at hc2)) | (with_reducible refine WT_alt ?_ ?_) | omega)
            refine oc_pushS (hD.out.later (Kept.app g [⟨[.flt .f32 1065353216], .own 24 1⟩, ⟨[.sl g.length 0 1 1], .own 28 1⟩])) (r := [.sl g.length 0 1 1]) (by simp) (by omega) (by simp; omega) fun o2 g5 hN5 hB5 => ?_
            obtain ⟨hf0, hf1⟩ := hD.fresh (New.one (h := g) (x := 1065353216) (ty := 24) (ty2 := 28) (Kept.refl g))
            have hP := (hD.later (Kept.app g [⟨[.flt .f32 1065353216], .own 24 1⟩, ⟨[.sl g.length 0 1 1], .own 28 1⟩])).push (a := [1065353216]) (New.one hgk) hf0 hf1 (Kept.refl _) hN5 hB5 rfl
            repeat' (first | (simp (disch := first | omega | assumption | (simp only [List.length_set]; omega) | (simp [*] <;> fail) | assumption) [-Bool.decide_and, -Bool.decide_or, -Bool.not_and, -Bool.not_or, toNat_pred, toNat_succ, wrap64, wr_new, wr_new0, ok_if, ok_ifn, iadV_sl, makeV_int, decT, decF, over_at, *]) | (with_reducible refine Gd_split (fun hc => ?_) (fun hc => ?_) <;> (have hc2 := hc; try simp at hc2)) | (with_reducible refine Br_split (fun hc => ?_) (fun hc => ?_) <;> (have hc2 := hc; try simp at hc2)) | (with_reducible refine GdT_split (fun hc => ?_) (fun hc => ?_) <;> (have hc2 := hc; try simp at hc2)) | (with_reducible refine WT_alt ?_ ?_) | omega)
            exact ⟨hlt, _, hP, by rw [show tabTo (unitF k) (k + 1) = _ from hqH]; simp⟩
          · have hu : unitF F k = [0] := by unfold unitF; rw [if_neg (by omega)]
            rw [hu] at hqH
            have hkf2 : ¬ (k : Int) = F := by omega
            repeat' (first | (simp (disch := first | omega | assumption | (simp only [List.length_set]; omega) | (simp [*] <;> fail) | assumption) [-Bool.decide_and, -Bool.decide_or, -Bool.not_and, -Bool.not_or, toNat_pred, toNat_succ, wrap64, wr_new, wr_new0, ok_if, ok_ifn, iadV_sl, makeV_int, decT, decF, over_at, *, leavesAll, fillL]) | (with_reducible refine Gd_split (fun hc => ?_) (fun hc => ?_) <;> (have hc2 := hc; try simp at hc2)) | (with_reducible refine Br_split (fun hc => ?_) (fun hc => ?_) <;> (have hc2 := hc; try simp at hc2)) | (with_reducible refine GdT_split (fun hc => ?_) (fun hc => ?_) <;> (have hc2 := hc; try simp at hc2)) | (with_reducible refine WT_alt ?_ ?_) | omega)
            refine oc_pushS (hD.out.later (Kept.app g [⟨[.flt .f32 0], .own 24 1⟩, ⟨[.sl g.length 0 1 1], .own 28 1⟩])) (r := [.sl g.length 0 1 1]) (by simp) (by omega) (by simp; omega) fun o2 g5 hN5 hB5 => ?_
            obtain ⟨hf0, hf1⟩ := hD.fresh (New.one (h := g) (x := 0) (ty := 24) (ty2 := 28) (Kept.refl g))
            have hP := (hD.later (Kept.app g [⟨[.flt .f32 0], .own 24 1⟩, ⟨[.sl g.length 0 1 1], .own 28 1⟩])).push (a := [0]) (New.one hgk) hf0 hf1 (Kept.refl _) hN5 hB5 rfl
            repeat' (first | (simp (disch := first | omega | assumption | (simp only [List.length_set]; omega) | (simp [*] <;> fail) | assumption) [-Bool.decide_and, -Bool.decide_or, -Bool.not_and, -Bool.not_or, toNat_pred, toNat_succ, wrap64, wr_new, wr_new0, ok_if, ok_ifn, iadV_sl, makeV_int, decT, decF, over_at, *]) | (with_reducible refine Gd_split (fun hc => ?_) (fun hc => ?_) <;> (have hc2 := hc; try simp at hc2)) | (with_reducible refine Br_split (fun hc => ?_) (fun hc => ?_) <;> (have hc2 := hc; try simp at hc2)) | (with_reducible refine GdT_split (fun hc => ?_) (fun hc => ?_) <;> (have hc2 := hc; try simp at hc2)) | (with_reducible refine WT_alt ?_ ?_) | omega)
            exact ⟨hlt, _, hP, by rw [show tabTo (unitF F) (k + 1) = _ from hqH]; simp⟩
        · have : k = N := by omega
          subst this
          have hgk := hD.kept.1
          repeat' (first | (simp (disch := first | omega | assumption | (simp only [List.length_set]; omega) | (simp [*] <;> fail) | assumption) [-Bool.decide_and, -Bool.decide_or, -Bool.not_and, -Bool.not_or, toNat_pred, toNat_succ, wrap64, wr_new, wr_new0, ok_if, ok_ifn, iadV_sl, makeV_int, decT, decF, over_at, *]) | (with_reducible refine Gd_split (fun hc => ?_) (fun hc => ?_) <;> (have hc2 := hc; try simp at hc2)) | (with_reducible refine Br_split (fun hc => ?_) (fun hc => ?_) <;> (have hc2 := hc; try simp at hc2)) | (with_reducible refine GdT_split (fun hc => ?_) (fun hc => ?_) <;> (have hc2 := hc; try simp at hc2)) | (with_reducible refine WT_alt ?_ ?_) | omega)
          refine c_l07Mix (m := 1) hD.arr (Sms.new hD) (hB.kept hD.kept) (by rw [hql]; exact hsN) (by rw [hq]; exact unit_each) (by omega) hgk fun o2 g2 qs2 hD2 hq2 => ?_
          have hl2 : qs2.length = k := by
            have := congrArg List.length hq2
            rw [mixL, mixTo_len (Nat.le_refl _)] at this
            simpa [hql] using this
          have hT : T < qs2.length := by omega
          have h1 : qs2[T].1.length = 1 := by
            refine mixTo_each (ss := ss) (xss := qs.map (·.1)) (by rw [hq]; exact unit_each) (Nat.le_refl _) _ ?_
            show _ ∈ mixL ss (qs.map (·.1))
            rw [← hq2]
            exact List.mem_map.2 ⟨qs2[T], List.getElem_mem hT, rfl⟩
          have hv : v = qs2[T].1[0] := by
            rw [← show ((mixL ss (tabTo (unitF F) k)).getD T []).getD 0 0 = v from hvH, ← hq, ← hq2]
            simp [hT, h1]
          rw [hv]
          have hRA := hD2.arr
          have hYA := hD2.ins T hT
          simp only [ssRows] at hYA
          have h10 : 0 < qs2[T].1.length := by omega
          clear hq hq2 hv
          repeat' (first | (simp (disch := first | omega | assumption | (simp only [List.length_set]; omega) | (simp [*] <;> fail) | assumption) [-Bool.decide_and, -Bool.decide_or, -Bool.not_and, -Bool.not_or, toNat_pred, toNat_succ, wrap64, wr_new, wr_new0, ok_if, ok_ifn, iadV_sl, makeV_int, decT, decF, over_at, *, hRA.len, hRA.at_, hRA.at_', hRA.rd, hRA.rdIn, hRA.rdIn0, hRA.rdA, hRA.rdInA, hRA.rdIn0A, hRA.rd1, ssCells, hYA.len, hYA.at_, hYA.at_', hYA.rd, hYA.rdIn, hYA.rdIn0, hYA.rdA, hYA.rdInA, hYA.rdIn0A, hYA.at0, hYA.rd0, hYA.rd0j, hYA.rd0A, hYA.rd0jA, fl]) | (with_reducible refine Gd_split (fun hc => ?_) (fun hc => ?_) <;> (have hc2 := hc; try simp at hc2)) | (with_reducible refine Br_split (fun hc => ?_) (fun hc => ?_) <;> (have hc2 := hc; try simp at hc2)) | (with_reducible refine GdT_split (fun hc => ?_) (fun hc => ?_) <;> (have hc2 := hc; try simp at hc2)) | (with_reducible refine WT_alt ?_ ?_) | omega)
      · have e : gbT n ss f t = .tup [.lf (.flt .f32 0), .lf (.bool false)] := by unfold gbT; rw [if_neg]; exact fun q => ht q.2.2
        rw [e]
        refine CallT_pure (F := L57) (HasGb.f57) rfl (by first | rfl | (split <;> rfl) | simp) ?_; unfold L57; dsimp only []
        repeat' (first | (simp (disch := first | omega | assumption | (simp only [List.length_set]; omega) | (simp [*] <;> fail) | assumption) [-Bool.decide_and, -Bool.decide_or, -Bool.not_and, -Bool.not_or, toNat_pred, toNat_succ, wrap64, wr_new, wr_new0, ok_if, ok_ifn, iadV_sl, makeV_int, decT, decF, over_at, *, c_l07Sends hB]) | (with_reducible refine Gd_split (fun hc => ?_) (fun hc => ?_) <;> (have hc2 := hc; try simp at hc2)) | (with_reducible refine Br_split (fun hc => ?_) (fun hc => ?_) <;> (have hc2 := hc; try simp at hc2)) | (with_reducible refine GdT_split (fun hc => ?_) (fun hc => ?_) <;> (have hc2 := hc; try simp at hc2)) | (with_reducible refine WT_alt ?_ ?_) | omega)
    · have e : gbT n ss f t = .tup [.lf (.flt .f32 0), .lf (.bool false)] := by unfold gbT; rw [if_neg]; exact fun q => hf q.2.1
      rw [e]
      refine CallT_pure (F := L57) (HasGb.f57) rfl (by first | rfl | (split <;> rfl) | simp) ?_; unfold L57; dsimp only []
      repeat' (first | (simp (disch := first | omega | assumption | (simp only [List.length_set]; omega) | (simp [*] <;> fail) | assumption) [-Bool.decide_and, -Bool.decide_or, -Bool.not_and, -Bool.not_or, toNat_pred, toNat_succ, wrap64, wr_new, wr_new0, ok_if, ok_ifn, iadV_sl, makeV_int, decT, decF, over_at, *, c_l07Sends hB]) | (with_reducible refine Gd_split (fun hc => ?_) (fun hc => ?_) <;> (have hc2 := hc; try simp at hc2)) | (with_reducible refine Br_split (fun hc => ?_) (fun hc => ?_) <;> (have hc2 := hc; try simp at hc2)) | (with_reducible refine GdT_split (fun hc => ?_) (fun hc => ?_) <;> (have hc2 := hc; try simp at hc2)) | (with_reducible refine WT_alt ?_ ?_) | omega)
  · have e : gbT n ss f t = .tup [.lf (.flt .f32 0), .lf (.bool false)] := by unfold gbT; rw [if_neg]; exact fun q => hs q.1
    rw [e]
    refine CallT_pure (F := L57) (HasGb.f57) rfl (by first | rfl | (split <;> rfl) | simp) ?_; unfold L57; dsimp only []
    repeat' (first | (simp (disch := first | omega | assumption | (simp only [List.length_set]; omega) | (simp [*] <;> fail) | assumption) [-Bool.decide_and, -Bool.decide_or, -Bool.not_and, -Bool.not_or, toNat_pred, toNat_succ, wrap64, wr_new, wr_new0, ok_if, ok_ifn, iadV_sl, makeV_int, decT, decF, over_at, *, c_l07Sends hB]) | (with_reducible refine Gd_split (fun hc => ?_) (fun hc => ?_) <;> (have hc2 := hc; try simp at hc2)) | (with_reducible refine Br_split (fun hc => ?_) (fun hc => ?_) <;> (have hc2 := hc; try simp at hc2)) | (with_reducible refine GdT_split (fun hc => ?_) (fun hc => ?_) <;> (have hc2 := hc; try simp at hc2)) | (with_reducible refine WT_alt ?_ ?_) | omega)
theorem oc_wr0 {g : Hp} {ty : Nat} {rows : List (List Lf)} {c : Lf} {K : CV → Hp → Prop} (hN : New h g l ty 1 rows) (hi : 0 < rows.length) (hl : lim ≤ h.length) (hK : ∀ g', New h g' l ty 1 (rows.set 0 [c]) → But g g' l l → K un g') : oc ((wrCells lim g l.id l.off [c]).map fun h' => (un, h')) K := by
  have := oc_wr (i := 0) (lim := lim) (c := c) (K := K) hN hi hl hK
  rwa [Nat.add_zero] at this
set_option maxHeartbeats 2000000 in
theorem c_implGainBetween {n f t : Int} (hB : Arr h l 3 (ss.map Snd.cells)) : CallT S true 59 [.lf (.int .i64 n), .lf l, .lf (.int .i64 f), .lf (.int .i64 t)] h lim K = K (gbT n ss f t) h := by
  have hc := fun lim K => c_implAreSends (S := S) (h := h) (lim := lim) (K := K) (l := l) (ps := ss) (n := n) hB
  by_cases hs : areSends n ss
  · have hn8 := hs.1
    have hw : ∀ lim K, CallT S true 107 [.lf (.sl h.length 0 2 1), .lf (.int .i64 0), .lf (.int .i64 (n - 1))] (h ++ [⟨[.int .i64 f, .int .i64 t], .own 2 1⟩]) lim K = K (.lf (.bool (decide ((0 ≤ f ∧ f ≤ n - 1) ∧ 0 ≤ t ∧ t ≤ n - 1)))) (h ++ [⟨[.int .i64 f, .int .i64 t], .own 2 1⟩]) := fun lim K => c_allWithin2 (by simp) (by simp)
    by_cases hft : (0 ≤ f ∧ f ≤ n - 1) ∧ 0 ≤ t ∧ t ≤ n - 1
    · obtain ⟨hf, ht⟩ := id hft
      have hd : decide ((0 ≤ f ∧ f ≤ n - 1) ∧ 0 ≤ t ∧ t ≤ n - 1) = true := decide_eq_true hft
      have hd2 : decide (areSends n ss) = true := decide_eq_true hs
      rw [hd] at hw
      rw [hd2] at hc
      clear hd hd2 hft
      have e : gbT n ss f t = .tup [.lf (.flt .f32 (gbV n ss f t)), .lf (.bool true)] := by unfold gbT; rw [if_pos ⟨hs, hf, ht⟩]
      rw [e]
      clear e
      obtain ⟨v, hv⟩ : ∃ v, gbV n ss f t = v := ⟨_, rfl⟩
      rw [hv]
      unfold gbV at hv
      obtain ⟨N, rfl⟩ : ∃ N : Nat, n = N := ⟨n.toNat, by omega⟩
      obtain ⟨F, rfl⟩ : ∃ F : Nat, f = F := ⟨f.toNat, by omega⟩
      obtain ⟨T, rfl⟩ : ∃ T : Nat, t = T := ⟨t.toNat, by omega⟩
      have hsN : Hid (areSends N ss) := hs
      rw [Int.toNat_natCast, Int.toNat_natCast] at hv
      have hvH : Hid (((mixL ss (tabTo (unitF F) N)).getD T []).getD 0 0 = v) := hv
      clear hv hs
      refine CallT_pure (F := L59) (HasGb.f59) rfl (by first | rfl | (split <;> rfl) | simp) ?_; unfold L59; dsimp only []
      repeat' (first | (simp (disch := first | omega | assumption | (simp only [List.length_set]; omega) | (simp [*] <;> fail) | assumption) [-Bool.decide_and, -Bool.decide_or, -Bool.not_and, -Bool.not_or, toNat_pred, toNat_succ, wrap64, wr_new, wr_new0, ok_if, ok_ifn, iadV_sl, makeV_int, decT, decF, over_at, *, leavesAll, fillL]) | (with_reducible refine Gd_split (fun hc => ?_) (fun hc => ?_) <;> (have hc2 := hc; try simp at hc2)) | (with_reducible refine Br_split (fun hc => ?_) (fun hc => ?_) <;> (have hc2 := hc; try simp at hc2)) | (with_reducible refine GdT_split (fun hc => ?_) (fun hc => ?_) <;> (have hc2 := hc; try simp at hc2)) | (with_reducible refine WT_alt ?_ ?_) | omega)
      refine WL_forM 4261413888 (by decide +kernel) (N) (fun k b g => k ≤ N ∧ b 25 = .lf (.int .i64 k) ∧ ∃ o qs, b 10 = .lf o ∧ NewD h g o 28 1 ssCells ssRows 24 qs ∧ qs.map (·.1) = tabTo (fun _ => [0]) k) (fun _ _ _ hi => hi.1) ⟨by omega, by simp, .nils, [], by simp, NewD.start (Kept.app _ _), by simp⟩ ?_
      rintro k b g ⟨hk, e11, o, qs, e10, hD, hq⟩
      have hql : qs.length = k := by have := congrArg List.length hq; rw [tabTo_len] at this; simpa using this
      by_cases hlt : k < N
      · have hgk := hD.kept
        have hgk1 := hgk.1
        have hqH : Hid (tabTo (fun _ => [0]) (k + 1) = qs.map (·.1) ++ [[0]]) := by rw [hq]; exact tabTo_succ
        clear hq
        repeat' (first | (simp (disch := first | omega | assumption | (simp only [List.length_set]; omega) | (simp [*] <;> fail) | assumption) [-Bool.decide_and, -Bool.decide_or, -Bool.not_and, -Bool.not_or, toNat_pred, toNat_succ, wrap64, wr_new, wr_new0, ok_if, ok_ifn, iadV_sl, makeV_int, decT, decF, over_at, *]) | (with_reducible refine Gd_split (fun hc => ?_) (fun hc => ?_) <;> (have hc2 := hc; try simp at hc2)) | (with_reducible refine Br_split (fun hc => ?_) (fun hc => ?_) <;> (have hc2 := hc; try simp at hc2)) | (with_reducible refine GdT_split (fun hc => ?_) (fun hc => ?_) <;> (have hc2 := hc; try simp at hc2)) | (with_reducible refine WT_alt ?_ ?_) | omega)
        refine c_zeros (n := 1) (by omega) hgk1 fun z g1 hZ => ?_
        obtain ⟨hf0, hf1⟩ := hD.fresh hZ
        replace hD := hD.later hZ.kept
        have hZ1 := hZ.base hgk
        repeat' (first | (simp (disch := first | omega | assumption | (simp only [List.length_set]; omega) | (simp [*] <;> fail) | assumption) [-Bool.decide_and, -Bool.decide_or, -Bool.not_and, -Bool.not_or, toNat_pred, toNat_succ, wrap64, wr_new, wr_new0, ok_if, ok_ifn, iadV_sl, makeV_int, decT, decF, over_at, *, leavesAll, fillL]) | (with_reducible refine Gd_split (fun hc => ?_) (fun hc => ?_) <;> (have hc2 := hc; try simp at hc2)) | (with_reducible refine Br_split (fun hc => ?_) (fun hc => ?_) <;> (have hc2 := hc; try simp at hc2)) | (with_reducible refine GdT_split (fun hc => ?_) (fun hc => ?_) <;> (have hc2 := hc; try simp at hc2)) | (with_reducible refine WT_alt ?_ ?_) | omega)
        refine oc_push (bytes := 24) (r := [z]) hD.out ?_ ?_ ?_ (by decide) rfl (by decide)
        · omega
        · simp; omega
        intro o2 g5 hN5 hB5
        have hP := hD.push (a := [0]) hZ1 hf0 hf1 (Kept.refl _) hN5 hB5 rfl
        repeat' (first | (simp (disch := first | omega | assumption | (simp only [List.length_set]; omega) | (simp [*] <;> fail) | assumption) [-Bool.decide_and, -Bool.decide_or, -Bool.not_and, -Bool.not_or, toNat_pred, toNat_succ, wrap64, wr_new, wr_new0, ok_if, ok_ifn, iadV_sl, makeV_int, decT, decF, over_at, *]) | (with_reducible refine Gd_split (fun hc => ?_) (fun hc => ?_) <;> (have hc2 := hc; try simp at hc2)) | (with_reducible refine Br_split (fun hc => ?_) (fun hc => ?_) <;> (have hc2 := hc; try simp at hc2)) | (with_reducible refine GdT_split (fun hc => ?_) (fun hc => ?_) <;> (have hc2 := hc; try simp at hc2)) | (with_reducible refine WT_alt ?_ ?_) | omega)
        exact ⟨hlt, _, hP, by rw [show tabTo (fun _ => [0]) (k + 1) = _ from hqH]; simp⟩
      · have : k = N := by omega
        subst this
        have hF : F < qs.length := by omega
        have hOA := hD.arr
        have hq0 : qs[F].1 = [0] := by
          have h1 : (qs.map (·.1))[F]'(by simpa using hF) = [0] := by simp only [hq]; simp [tabTo]
          simpa using h1
        have hIF := hD.inn _ (List.getElem_mem hF)
        simp only [ssRows] at hIF
        have hIA := hIF.arr
        rw [hq0] at hIF hIA
        have hqH : Hid (qs.map (·.1) = tabTo (fun _ => [0]) k) := hq
        clear hq
        repeat' (first | (simp (disch := first | omega | assumption | (simp only [List.length_set]; omega) | (simp [*] <;> fail) | assumption) [-Bool.decide_and, -Bool.decide_or, -Bool.not_and, -Bool.not_or, toNat_pred, toNat_succ, wrap64, wr_new, wr_new0, ok_if, ok_ifn, iadV_sl, makeV_int, decT, decF, over_at, *, hOA.len, hOA.at_, hOA.at_', hOA.rd, hOA.rdIn, hOA.rdIn0, hOA.rdA, hOA.rdInA, hOA.rdIn0A, hOA.rd1, ssCells, hIA.len, hIA.at_, hIA.at_', hIA.rd, hIA.rdIn, hIA.rdIn0, hIA.rdA, hIA.rdInA, hIA.rdIn0A, hIA.at0, hIA.rd0, hIA.rd0j, hIA.rd0A, hIA.rd0jA]) | (with_reducible refine Gd_split (fun hc => ?_) (fun hc => ?_) <;> (have hc2 := hc; try simp at hc2)) | (with_reducible refine Br_split (fun hc => ?_) (fun hc => ?_) <;> (have hc2 := hc; try simp at hc2)) | (with_reducible refine GdT_split (fun hc => ?_) (fun hc => ?_) <;> (have hc2 := hc; try simp at hc2)) | (with_reducible refine WT_alt ?_ ?_) | omega)
        refine oc_wr0 hIF (by simp) (by omega) fun g2 hW hB2 => ?_
        have hW' : New h g2 qs[F].2 24 1 ((ssRows [1065353216]).map fl) := hW
        have hD2 := hD.put hF hW' hB2 rfl
        have hq2 : (qs.set F ([1065353216], qs[F].2)).map (·.1) = tabTo (unitF F) k := by
          rw [List.map_set, show qs.map (·.1) = _ from hqH]
          apply List.ext_getElem
          · simp [tabTo]
          · intro j h1 h2
            simp only [List.getElem_set, tabTo, List.getElem_map, List.getElem_range]
            unfold unitF
            by_cases e : F = j
            · subst e; simp
            · rw [if_neg e, if_neg (by omega)]
        have hgk := hD2.kept.1
        repeat' (first | (simp (disch := first | omega | assumption | (simp only [List.length_set]; omega) | (simp [*] <;> fail) | assumption) [-Bool.decide_and, -Bool.decide_or, -Bool.not_and, -Bool.not_or, toNat_pred, toNat_succ, wrap64, wr_new, wr_new0, ok_if, ok_ifn, iadV_sl, makeV_int, decT, decF, over_at, *]) | (with_reducible refine Gd_split (fun hc => ?_) (fun hc => ?_) <;> (have hc2 := hc; try simp at hc2)) | (with_reducible refine Br_split (fun hc => ?_) (fun hc => ?_) <;> (have hc2 := hc; try simp at hc2)) | (with_reducible refine GdT_split (fun hc => ?_) (fun hc => ?_) <;> (have hc2 := hc; try simp at hc2)) | (with_reducible refine WT_alt ?_ ?_) | omega)
        refine c_mixNodes (m := 1) hD2.arr (Sms.new hD2) (hB.kept hD2.kept) (by rw [List.length_set, hql]; exact hsN) (by rw [hq2]; exact unit_each) (by omega) hgk fun o2 g2 qs2 hD3 hq3 => ?_
        have hl2 : qs2.length = k := by
          have := congrArg List.length hq3
          rw [mixL, mixTo_len (Nat.le_refl _)] at this
          simpa [hql] using this
        have hT : T < qs2.length := by omega
        rw [hq2] at hq3
        have h1 : qs2[T].1.length = 1 := by
          refine mixTo_each (ss := ss) (xss := tabTo (unitF F) k) unit_each (Nat.le_refl _) _ ?_
          show _ ∈ mixL ss (tabTo (unitF F) k)
          rw [← hq3]
          exact List.mem_map.2 ⟨qs2[T], List.getElem_mem hT, rfl⟩
        have hv : v = qs2[T].1[0] := by
          rw [← show ((mixL ss (tabTo (unitF F) k)).getD T []).getD 0 0 = v from hvH, ← hq3]
          simp [hT, h1]
        rw [hv]
        have hRA := hD3.arr
        have hYA := hD3.ins T hT
        simp only [ssRows] at hYA
        have h10 : 0 < qs2[T].1.length := by omega
        clear hq2 hq3 hv
        repeat' (first | (simp (disch := first | omega | assumption | (simp only [List.length_set]; omega) | (simp [*] <;> fail) | assumption) [-Bool.decide_and, -Bool.decide_or, -Bool.not_and, -Bool.not_or, toNat_pred, toNat_succ, wrap64, wr_new, wr_new0, ok_if, ok_ifn, iadV_sl, makeV_int, decT, decF, over_at, *, hRA.len, hRA.at_, hRA.at_', hRA.rd, hRA.rdIn, hRA.rdIn0, hRA.rdA, hRA.rdInA, hRA.rdIn0A, hRA.rd1, ssCells, hYA.len, hYA.at_, hYA.at_', hYA.rd, hYA.rdIn, hYA.rdIn0, hYA.rdA, hYA.rdInA, hYA.rdIn0A, hYA.at0, hYA.rd0, hYA.rd0j, hYA.rd0A, hYA.rd0jA, fl]) | (with_reducible refine Gd_split (fun hc => ?_) (fun hc => ?_) <;> (have hc2 := hc; try simp at hc2)) | (with_reducible refine Br_split (fun hc => ?_) (fun hc => ?_) <;> (have hc2 := hc; try simp at hc2)) | (with_reducible refine GdT_split (fun hc => ?_) (fun hc => ?_) <;> (have hc2 := hc; try simp at hc2)) | (with_reducible refine WT_alt ?_ ?_) | omega)
    · have hd : decide ((0 ≤ f ∧ f ≤ n - 1) ∧ 0 ≤ t ∧ t ≤ n - 1) = false := decide_eq_false hft
      rw [hd] at hw
      have e : gbT n ss f t = .tup [.lf (.flt .f32 0), .lf (.bool false)] := by unfold gbT; rw [if_neg]; exact fun q => hft q.2
      rw [e]
      clear hft hd
      refine CallT_pure (F := L59) (HasGb.f59) rfl (by first | rfl | (split <;> rfl) | simp) ?_; unfold L59; dsimp only []
      repeat' (first | (simp (disch := first | omega | assumption | (simp only [List.length_set]; omega) | (simp [*] <;> fail) | assumption) [-Bool.decide_and, -Bool.decide_or, -Bool.not_and, -Bool.not_or, toNat_pred, toNat_succ, wrap64, wr_new, wr_new0, ok_if, ok_ifn, iadV_sl, makeV_int, decT, decF, over_at, *, leavesAll, fillL]) | (with_reducible refine Gd_split (fun hc => ?_) (fun hc => ?_) <;> (have hc2 := hc; try simp at hc2)) | (with_reducible refine Br_split (fun hc => ?_) (fun hc => ?_) <;> (have hc2 := hc; try simp at hc2)) | (with_reducible refine GdT_split (fun hc => ?_) (fun hc => ?_) <;> (have hc2 := hc; try simp at hc2)) | (with_reducible refine WT_alt ?_ ?_) | omega)
  · have e : gbT n ss f t = .tup [.lf (.flt .f32 0), .lf (.bool false)] := by unfold gbT; rw [if_neg]; exact fun q => hs q.1
    rw [e]
    refine CallT_pure (F := L59) (HasGb.f59) rfl (by first | rfl | (split <;> rfl) | simp) ?_; unfold L59; dsimp only []
    repeat' (first | (simp (disch := first | omega | assumption | (simp only [List.length_set]; omega) | (simp [*] <;> fail) | assumption) [-Bool.decide_and, -Bool.decide_or, -Bool.not_and, -Bool.not_or, toNat_pred, toNat_succ, wrap64, wr_new, wr_new0, ok_if, ok_ifn, iadV_sl, makeV_int, decT, decF, over_at, *]) | (with_reducible refine Gd_split (fun hc => ?_) (fun hc => ?_) <;> (have hc2 := hc; try simp at hc2)) | (with_reducible refine Br_split (fun hc => ?_) (fun hc => ?_) <;> (have hc2 := hc; try simp at hc2)) | (with_reducible refine GdT_split (fun hc => ?_) (fun hc => ?_) <;> (have hc2 := hc; try simp at hc2)) | (with_reducible refine WT_alt ?_ ?_) | omega)
end
end Go.E
