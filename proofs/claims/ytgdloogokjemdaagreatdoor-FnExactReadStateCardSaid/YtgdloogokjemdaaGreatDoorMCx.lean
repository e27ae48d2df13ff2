/- Texts of chains, both sides. -/
import Derived.Test.YtgdloogokjemdaaGreatDoorMTy
set_option linter.unusedVariables false
set_option linter.unusedSimpArgs false
namespace Go.E
open Go
def L29 : LFn := ⟨1, (.seq (.reg [⟨(.some 2), (.mv (.c (.lf (.str ⟨#[]⟩)))), none⟩])
 (.seq (.seq (.reg [⟨(.some 5), (.mv (.t 0)), none⟩, ⟨(.some 6), (.len (.t 5)), none⟩, ⟨(.some 7), (.bin .eql (.t 6) (.c (.lf (.int .i64 0)))), none⟩])
 (.cond (.t 7) (.seq (.reg [⟨(.some 2), (.mv (.c (.lf (.str ⟨#[110, 111, 110, 101]⟩)))), none⟩])
 .ret) .skip))
 (.seq (.reg [⟨(.some 3), (.mv (.c (.lf (.str ⟨#[]⟩)))), none⟩])
 (.seq (.seq (.reg [⟨(.some 4), (.mv (.c (.lf (.int .i64 0)))), none⟩])
 (.block 0 (.loop (.seq (.seq (.reg [⟨(.some 8), (.mv (.t 4)), none⟩, ⟨(.some 9), (.mv (.t 0)), none⟩, ⟨(.some 10), (.len (.t 9)), none⟩, ⟨(.some 11), (.bin .lss (.t 8) (.t 10)), none⟩])
 (.cond (.t 11) .skip (.exit 0)))
 (.seq (.block 1 (.seq (.seq (.reg [⟨(.some 14), (.mv (.t 4)), none⟩, ⟨(.some 15), (.bin .gtr (.t 14) (.c (.lf (.int .i64 0)))), none⟩])
 (.cond (.t 15) (.reg [⟨(.some 16), (.mv (.t 3)), none⟩, ⟨(.some 17), (.bin .add (.t 16) (.c (.lf (.str ⟨#[59]⟩)))), none⟩, ⟨(.some 3), (.mv (.t 17)), none⟩]) .skip))
 (.reg [⟨(.some 18), (.mv (.t 3)), none⟩, ⟨(.some 19), (.mv (.t 0)), none⟩, ⟨(.some 20), (.mv (.t 4)), none⟩, ⟨(.some 21), (.iaddr 3 (.t 19) (.t 20)), none⟩, ⟨(.some 22), (.faddr 0 (.t 21)), none⟩, ⟨(.some 23), (.load false 1 (.t 22)), none⟩, ⟨(.some 24), (.call true 34 [(.t 23)]), none⟩, ⟨(.some 25), (.bin .add (.t 24) (.c (.lf (.str ⟨#[46]⟩)))), none⟩, ⟨(.some 26), (.mv (.t 0)), none⟩, ⟨(.some 27), (.mv (.t 4)), none⟩, ⟨(.some 28), (.iaddr 3 (.t 26) (.t 27)), none⟩, ⟨(.some 29), (.faddr 1 (.t 28)), none⟩, ⟨(.some 30), (.load false 1 (.t 29)), none⟩, ⟨(.some 31), (.call true 34 [(.t 30)]), none⟩, ⟨(.some 32), (.bin .add (.t 25) (.t 31)), none⟩, ⟨(.some 33), (.bin .add (.t 32) (.c (.lf (.str ⟨#[46]⟩)))), none⟩, ⟨(.some 34), (.mv (.t 0)), none⟩, ⟨(.some 35), (.mv (.t 4)), none⟩, ⟨(.some 36), (.iaddr 3 (.t 34) (.t 35)), none⟩, ⟨(.some 37), (.faddr 2 (.t 36)), none⟩, ⟨(.some 38), (.load false 1 (.t 37)), none⟩, ⟨(.some 39), (.call true 33 [(.t 38)]), none⟩, ⟨(.some 40), (.bin .add (.t 33) (.t 39)), none⟩, ⟨(.some 41), (.bin .add (.t 18) (.t 40)), none⟩, ⟨(.some 3), (.mv (.t 41)), none⟩])))
 (.reg [⟨(.some 12), (.mv (.t 4)), none⟩, ⟨(.some 13), (.bin .add (.t 12) (.c (.lf (.int .i64 1)))), none⟩, ⟨(.some 4), (.mv (.t 13)), none⟩]))))))
 (.seq (.reg [⟨(.some 42), (.mv (.t 3)), none⟩, ⟨(.some 2), (.mv (.t 42)), none⟩])
 .ret))))), [(.tmp 2)]⟩
def L43 : LFn := ⟨1, (.seq (.reg [⟨(.some 2), (.mv (.c (.lf (.str ⟨#[]⟩)))), none⟩])
 (.seq (.reg [⟨(.some 3), (.mv (.c (.lf .nils))), none⟩])
 (.seq (.seq (.reg [⟨(.some 8), (.mv (.t 0)), none⟩, ⟨(.some 9), (.len (.t 8)), none⟩, ⟨(.some 10), (.mv (.c (.lf (.int .i64 0)))), none⟩])
 (.block 0 (.loop (.seq (.reg [⟨(.some 11), (.bin .lss (.t 10) (.t 9)), none⟩])
 (.seq (.cond (.t 11) .skip (.exit 0))
 (.seq (.block 1 (.seq (.reg [⟨(.some 12), (.iaddr 3 (.t 8) (.t 10)), none⟩, ⟨(.some 13), (.load true 3 (.t 12)), none⟩, ⟨(.some 5), (.alloc 44 [(.int .i64 0), (.int .i64 0), .nils]), none⟩, ⟨none, (.store 3 (.t 5) (.t 13)), none⟩])
 (.seq (.reg [⟨(.some 15), (.faddr 2 (.t 5)), none⟩, ⟨(.some 16), (.load false 1 (.t 15)), none⟩, ⟨(.some 17), (.call true 42 [(.t 16)]), none⟩, ⟨(.some 14), (.mv (.t 17)), none⟩, ⟨(.some 18), (.ext (.t 14) 0), none⟩, ⟨(.some 19), (.ext (.t 14) 1), none⟩, ⟨(.some 6), (.mv (.t 18)), none⟩, ⟨(.some 7), (.mv (.t 19)), none⟩])
 (.reg [⟨(.some 20), (.mv (.t 3)), none⟩, ⟨(.some 21), (.faddr 0 (.t 5)), none⟩, ⟨(.some 22), (.load false 1 (.t 21)), none⟩, ⟨(.some 23), (.call true 46 [(.t 22)]), none⟩, ⟨(.some 24), (.bin .add (.t 23) (.c (.lf (.str ⟨#[46]⟩)))), none⟩, ⟨(.some 25), (.faddr 1 (.t 5)), none⟩, ⟨(.some 26), (.load false 1 (.t 25)), none⟩, ⟨(.some 27), (.call true 46 [(.t 26)]), none⟩, ⟨(.some 28), (.bin .add (.t 24) (.t 27)), none⟩, ⟨(.some 29), (.bin .add (.t 28) (.c (.lf (.str ⟨#[46]⟩)))), none⟩, ⟨(.some 30), (.mv (.t 6)), none⟩, ⟨(.some 31), (.bin .add (.t 29) (.t 30)), none⟩, ⟨(.some 32), (.lit 9 1 1 [(.str ⟨#[]⟩)] [(0, (1, (.t 31)))]), none⟩, ⟨(.some 33), (.app 9 1 16 (.t 20) (.t 32)), none⟩, ⟨(.some 3), (.mv (.t 33)), none⟩]))))
 (.reg [⟨(.some 34), (.bin .add (.t 10) (.c (.lf (.int .i64 1)))), none⟩, ⟨(.some 10), (.mv (.t 34)), none⟩])))))))
 (.seq (.reg [⟨(.some 35), (.mv (.t 3)), none⟩, ⟨(.some 36), (.call true 44 [(.t 35)]), none⟩, ⟨(.some 2), (.mv (.t 36)), none⟩])
 .ret)))), [(.tmp 2)]⟩
class HasCx (S : Sys) : Prop extends HasTy S, HasEf S where
  f29 : S.fs 29 = some L29
  f43 : S.fs 43 = some L43
/-- The text of an effect. -/
def effT (e : Eff) : List UInt8 := Lib.decDigits e.kind.toNat ++ [46] ++ Lib.decDigits e.len.toNat ++ [46] ++ numT e.nums
theorem dec_len {n : Nat} (h : n < 100) : (Lib.decDigits n).length ≤ 2 := by
  by_cases h1 : n < 10
  · rw [Lib.decDigits_one h1]; simp
  · rw [Lib.decDigits_two h1 h]; simp
theorem effOk.nums {e : Eff} (h : effOk e) : (0 ≤ e.kind ∧ e.kind ≤ 6) ∧ (0 ≤ e.len ∧ e.len ≤ 32) ∧ e.nums.length ≤ 5 := by
  obtain ⟨⟨h1, h2⟩, h3, _⟩ := h
  unfold cntE at h3
  refine ⟨?_, ?_, ?_⟩
  · split at h3
    · omega
    · split at h3
      · omega
      · split at h3
        · omega
        · split at h3
          · omega
          · split at h3
            · omega
            · split at h3
              · omega
              · omega
  · constructor
    · split at h1 <;> omega
    · split at h2 <;> omega
  · split at h3
    · omega
    · split at h3
      · omega
      · split at h3
        · omega
        · split at h3
          · omega
          · split at h3
            · omega
            · split at h3 <;> omega
theorem effT_le {e : Eff} (h : effOk e) : (effT e).length ≤ 60 := by
  obtain ⟨h1, h2, h3⟩ := h.nums
  have d1 := dec_len (n := e.kind.toNat) (by omega)
  have d2 := dec_len (n := e.len.toNat) (by omega)
  have d3 := numT_le (xs := e.nums)
  unfold effT
  simp only [List.length_append, List.length_cons, List.length_nil]
  omega
def chT (es : List Eff) : List UInt8 := if es = [] then none4 else Lib.join (es.map effT) [59]
def chU (es : List Eff) (i : Nat) : List UInt8 := Lib.join ((es.take i).map effT) [59]
theorem chU_succ {es : List Eff} {i : Nat} (hi : i < es.length) (h0 : 0 < i) : chU es (i + 1) = chU es i ++ [59] ++ effT es[i] := by
  unfold chU
  rw [List.take_succ_eq_append_getElem hi, List.map_append, List.map_cons, List.map_nil, join_snoc, if_neg (by
    intro q
    have := congrArg List.length q
    rw [List.length_map, List.length_take, List.length_nil] at this; omega)]
theorem chU_one {es : List Eff} (hi : 0 < es.length) : chU es 1 = effT es[0] := by
  unfold chU
  rw [List.take_succ_eq_append_getElem hi]
  simp [Lib.join_one]
theorem chU_le {es : List Eff} {i : Nat} (hc : isCh es) : (chU es i).length ≤ 488 := by
  unfold chU
  have := join_le (m := 60) (sep := [59]) (ss := (es.take i).map effT) (fun x hx => by
    obtain ⟨y, hy, rfl⟩ := List.mem_map.1 hx
    exact effT_le (hc.2 y (List.mem_of_mem_take hy)))
  simp only [List.length_map, List.length_take, List.length_cons, List.length_nil] at this
  have h8 := hc.1
  have h2 : min i es.length ≤ es.length := Nat.min_le_right _ _
  have h3 := Nat.mul_le_mul_right 61 h2
  omega
section
variable {S : Sys} {lim : Nat} {h : Hp} {K : CV → Hp → Prop} {l : Lf} [HasCx S] {ps : List (Eff × Lf)}
set_option maxHeartbeats 2000000 in
theorem c_l08Text (hA : Arr h l 3 (ps.map Eff.cells)) (hI : In h Eff.nums ps) (hcf : ∀ p ∈ ps, ∀ x ∈ p.1.nums, CF x) (hc : isCh (ps.map (·.1))) : CallT S true 29 [.lf l] h lim K = K (.lf (.str ⟨(chT (ps.map (·.1))).toArray⟩)) h := by
  by_cases h0 : ps.length = 0
  · have h1 : ps = [] := List.length_eq_zero_iff.1 h0
    have h2 : (ps.length : Int) = 0 := by omega
    have h3 : chT (ps.map (·.1)) = none4 := by unfold chT; rw [if_pos (by rw [h1]; rfl)]
    rw [h3]
    have hl := hA.len
    clear h1 h3
    refine CallT_pure (F := L29) (HasCx.f29) rfl (by first | rfl | (split <;> rfl) | simp) ?_; unfold L29; dsimp only []
    repeat' (first | (simp (disch := first | omega | assumption | (simp only [List.length_set]; omega) | (simp [*] <;> fail) | assumption) [-Bool.decide_and, -Bool.decide_or, -Bool.not_and, -Bool.not_or, toNat_pred, toNat_succ, wrap64, wr_new, wr_new0, ok_if, ok_ifn, iadV_sl, makeV_int, decT, decF, over_at, *]) | (with_reducible refine Gd_split (fun hc => ?_) (fun hc => ?_) <;> (have hc2 := hc; try simp at hc2)) | (with_reducible refine Br_split (fun hc => ?_) (fun hc => ?_) <;> (have hc2 := hc; try simp at hc2)) | (with_reducible refine GdT_split (fun hc => ?_) (fun hc => ?_) <;> (have hc2 := hc; try simp at hc2)) | (with_reducible refine WT_alt ?_ ?_) | omega)
    rfl
  · have h2 : ¬ (ps.length : Int) = 0 := by omega
    have uN : chU (ps.map (·.1)) ps.length = chT (ps.map (·.1)) := by
      unfold chU chT
      rw [← List.length_map (f := (·.1)), List.take_length, if_neg (by intro q; apply h0; have := congrArg List.length q; simpa using this)]
    have hl := hA.len
    have h8 := hc.1
    rw [List.length_map] at h8
    refine CallT_pure (F := L29) (HasCx.f29) rfl (by first | rfl | (split <;> rfl) | simp) ?_; unfold L29; dsimp only []
    repeat' (first | (simp (disch := first | omega | assumption | (simp only [List.length_set]; omega) | (simp [*] <;> fail) | assumption) [-Bool.decide_and, -Bool.decide_or, -Bool.not_and, -Bool.not_or, toNat_pred, toNat_succ, wrap64, wr_new, wr_new0, ok_if, ok_ifn, iadV_sl, makeV_int, decT, decF, over_at, *]) | (with_reducible refine Gd_split (fun hc => ?_) (fun hc => ?_) <;> (have hc2 := hc; try simp at hc2)) | (with_reducible refine Br_split (fun hc => ?_) (fun hc => ?_) <;> (have hc2 := hc; try simp at hc2)) | (with_reducible refine GdT_split (fun hc => ?_) (fun hc => ?_) <;> (have hc2 := hc; try simp at hc2)) | (with_reducible refine WT_alt ?_ ?_) | omega)
    refine WL_forM 4398046510872 (by decide +kernel) (ps.length) (fun i b g => i ≤ ps.length ∧ b 4 = .lf (.int .i64 i) ∧ b 3 = .lf (.str ⟨(chU (ps.map (·.1)) i).toArray⟩) ∧ h = g) (fun i _ _ hi => hi.1) ⟨by omega, by simp, by simp [chU, Lib.join_nil], rfl⟩ ?_
    rintro i b g ⟨hi, e4, e3, rfl⟩
    by_cases hlt : i < ps.length
    · have hle := chU_le (i := i) hc
      have hlm : i < (ps.map (·.1)).length := by simpa using hlt
      have hok : effOk ps[i].1 := hc.2 _ (by simp; exact ⟨_, List.getElem_mem hlt⟩)
      obtain ⟨k1, k2, k3⟩ := hok.nums
      have hcfi := hcf _ (List.getElem_mem hlt)
      have hte := effT_le hok
      have hget : (ps.map (·.1))[i] = ps[i].1 := by simp
      have hIi := hI i hlt
      have hnt := fun lim K => c_l01NText (S := S) (h := h) (lim := lim) (K := K) hIi hcfi (by omega)
      obtain ⟨kd, hkd⟩ := Int.eq_ofNat_of_zero_le k1.1
      obtain ⟨ln, hln⟩ := Int.eq_ofNat_of_zero_le k2.1
      have hd1 := fun lim K => c_l01Dec (S := S) (h := h) (lim := lim) (K := K) (n := kd) (by omega) (by omega)
      have hd2 := fun lim K => c_l01Dec (S := S) (h := h) (lim := lim) (K := K) (n := ln) (by omega) (by omega)
      have ai := hA.at_ (k := .i64) hlt
      have d0 := hA.rdIn0 (i := i) (m := 1) hlt (by omega)
      have d1 := hA.rdIn (i := i) (j := 1) (m := 1) hlt (by omega)
      have d2 := hA.rdIn (i := i) (j := 2) (m := 1) hlt (by omega)
      simp only [Eff.cells, List.drop_succ_cons, List.drop_zero, List.take_succ_cons, List.take_zero] at d0 d1 d2
      rw [hkd] at d0
      rw [hln] at d1
      have dl1 := dec_len (n := kd) (by omega)
      have dl2 := dec_len (n := ln) (by omega)
      have dl3 := numT_le (xs := ps[i].1.nums)
      have heT : effT ps[i].1 = Lib.decDigits kd ++ 46 :: (Lib.decDigits ln ++ 46 :: numT ps[i].1.nums) := by
        unfold effT
        rw [hkd, hln]
        simp
      have hone : i = 0 → chU (ps.map (·.1)) (i + 1) = effT ps[i].1 := by
        rintro rfl
        rw [chU_one hlm, hget]
      have hmore : 0 < i → chU (ps.map (·.1)) (i + 1) = chU (ps.map (·.1)) i ++ 59 :: effT ps[i].1 := by
        intro q
        rw [chU_succ hlm q, hget, List.append_assoc]; rfl
      have hz : i = 0 → chU (ps.map (·.1)) i = [] := by
        rintro rfl
        simp [chU, Lib.join_nil]
      rw [heT] at hone hmore
      clear heT hget hte
      obtain ⟨nx, hnx⟩ : ∃ nx, Hid (chU (ps.map (·.1)) (i + 1) = nx) := ⟨_, rfl⟩
      rw [show chU (ps.map (·.1)) (i + 1) = nx from hnx] at hone hmore
      generalize Lib.decDigits kd = x1 at *
      generalize Lib.decDigits ln = x2 at *
      generalize numT ps[i].1.nums = x3 at *
      generalize chU (ps.map (·.1)) i = p at *
      generalize ps[i].2 = ll at *
      have A1 := binV_str_add (x := x1) (y := [46]) (by simp; omega)
      have A2 := binV_str_add (x := x1 ++ [46]) (y := x2) (by simp; omega)
      have A3 := binV_str_add (x := x1 ++ 46 :: x2) (y := [46]) (by simp; omega)
      have A4 := binV_str_add (x := x1 ++ 46 :: (x2 ++ [46])) (y := x3) (by simp; omega)
      have A5 := binV_str_add (x := p) (y := [59]) (by simp; omega)
      have A6 := binV_str_add (x := p ++ [59]) (y := x1 ++ 46 :: (x2 ++ 46 :: x3)) (by simp; omega)
      have A7 := binV_str_add (x := []) (y := x1 ++ 46 :: (x2 ++ 46 :: x3)) (by simp; omega)
      obtain ⟨I, hIe⟩ : ∃ I : Int, (i : Int) = I := ⟨_, rfl⟩
      rw [hIe] at e4 ai
      by_cases hi0 : i = 0
      · have hnx1 := hone hi0
        have hp0 := hz hi0
        have hi1 : ¬ 0 < I := by omega
        clear hone hmore hz A5 A6 hi0
        subst hp0
        repeat' (first | (simp (disch := first | omega | assumption | (simp only [List.length_set]; omega) | (simp [*] <;> fail) | assumption) [-Bool.decide_and, -Bool.decide_or, -Bool.not_and, -Bool.not_or, toNat_pred, toNat_succ, wrap64, wr_new, wr_new0, ok_if, ok_ifn, iadV_sl, makeV_int, decT, decF, over_at, *]) | (with_reducible refine Gd_split (fun hc => ?_) (fun hc => ?_) <;> (have hc2 := hc; try simp at hc2)) | (with_reducible refine Br_split (fun hc => ?_) (fun hc => ?_) <;> (have hc2 := hc; try simp at hc2)) | (with_reducible refine GdT_split (fun hc => ?_) (fun hc => ?_) <;> (have hc2 := hc; try simp at hc2)) | (with_reducible refine WT_alt ?_ ?_) | omega)
        exact ⟨by omega, by rw [show chU (ps.map (·.1)) (i + 1) = nx from hnx, hnx1]⟩
      · have hnx1 := hmore (by omega)
        have hi1 : 0 < I := by omega
        clear hone hmore hz A7 hi0
        repeat' (first | (simp (disch := first | omega | assumption | (simp only [List.length_set]; omega) | (simp [*] <;> fail) | assumption) [-Bool.decide_and, -Bool.decide_or, -Bool.not_and, -Bool.not_or, toNat_pred, toNat_succ, wrap64, wr_new, wr_new0, ok_if, ok_ifn, iadV_sl, makeV_int, decT, decF, over_at, *]) | (with_reducible refine Gd_split (fun hc => ?_) (fun hc => ?_) <;> (have hc2 := hc; try simp at hc2)) | (with_reducible refine Br_split (fun hc => ?_) (fun hc => ?_) <;> (have hc2 := hc; try simp at hc2)) | (with_reducible refine GdT_split (fun hc => ?_) (fun hc => ?_) <;> (have hc2 := hc; try simp at hc2)) | (with_reducible refine WT_alt ?_ ?_) | omega)
        exact ⟨by omega, by rw [show chU (ps.map (·.1)) (i + 1) = nx from hnx, hnx1]⟩
    · have : i = ps.length := by omega
      subst this
      repeat' (first | (simp (disch := first | omega | assumption | (simp only [List.length_set]; omega) | (simp [*] <;> fail) | assumption) [-Bool.decide_and, -Bool.decide_or, -Bool.not_and, -Bool.not_or, toNat_pred, toNat_succ, wrap64, wr_new, wr_new0, ok_if, ok_ifn, iadV_sl, makeV_int, decT, decF, over_at, *]) | (with_reducible refine Gd_split (fun hc => ?_) (fun hc => ?_) <;> (have hc2 := hc; try simp at hc2)) | (with_reducible refine Br_split (fun hc => ?_) (fun hc => ?_) <;> (have hc2 := hc; try simp at hc2)) | (with_reducible refine GdT_split (fun hc => ?_) (fun hc => ?_) <;> (have hc2 := hc; try simp at hc2)) | (with_reducible refine WT_alt ?_ ?_) | omega)
set_option maxHeartbeats 2000000 in
theorem c_chainText [HasJq S] (hA : Arr h l 3 (ps.map Eff.cells)) (hI : In h Eff.nums ps) (hcf : ∀ p ∈ ps, ∀ x ∈ p.1.nums, CF x) (hc : isCh (ps.map (·.1))) : CallT S true 43 [.lf l] h lim K = K (.lf (.str ⟨(chT (ps.map (·.1))).toArray⟩)) h := by
  have h8 := hc.1
  rw [List.length_map] at h8
  have hl := hA.len
  refine CallT_pure (F := L43) (HasCx.f43) rfl (by first | rfl | (split <;> rfl) | simp) ?_; unfold L43; dsimp only []
  repeat' (first | (simp (disch := first | omega | assumption | (simp only [List.length_set]; omega) | (simp [*] <;> fail) | assumption) [-Bool.decide_and, -Bool.decide_or, -Bool.not_and, -Bool.not_or, toNat_pred, toNat_succ, wrap64, wr_new, wr_new0, ok_if, ok_ifn, iadV_sl, makeV_int, decT, decF, over_at, *]) | (with_reducible refine Gd_split (fun hc => ?_) (fun hc => ?_) <;> (have hc2 := hc; try simp at hc2)) | (with_reducible refine Br_split (fun hc => ?_) (fun hc => ?_) <;> (have hc2 := hc; try simp at hc2)) | (with_reducible refine GdT_split (fun hc => ?_) (fun hc => ?_) <;> (have hc2 := hc; try simp at hc2)) | (with_reducible refine WT_alt ?_ ?_) | omega)
  refine WL_forM 34359737576 (by decide +kernel) (ps.length) (fun i b g => i ≤ ps.length ∧ b 10 = .lf (.int .i64 i) ∧ ∃ o, b 3 = .lf o ∧ New h g o 9 1 ((((ps.map (·.1)).take i).map effT).map st)) (fun i _ _ hi => hi.1) ⟨by omega, by simp, .nils, by simp, by simpa using New.nil (Kept.refl h)⟩ ?_
  rintro i b g ⟨hi, e10, o, e3, hN⟩
  by_cases hlt : i < ps.length
  · have hlm : i < (ps.map (·.1)).length := by simpa using hlt
    have hok : effOk ps[i].1 := hc.2 _ (by simp; exact ⟨_, List.getElem_mem hlt⟩)
    obtain ⟨k1, k2, k3⟩ := hok.nums
    have hcfi := hcf _ (List.getElem_mem hlt)
    have hAg := hA.kept hN.kept
    have hIi := (hI i hlt).kept hN.kept
    have hgl := hN.kept.1
    have hnt := fun t lim K => c_NumbersText (S := S) (h := g ++ t) (lim := lim) (K := K) hIi.app hcfi (by omega)
    obtain ⟨kd, hkd⟩ := Int.eq_ofNat_of_zero_le k1.1
    obtain ⟨ln, hln⟩ := Int.eq_ofNat_of_zero_le k2.1
    have hd1 := fun g lim K => c_Decimal (S := S) (h := g) (lim := lim) (K := K) (n := kd) (by omega)
    have hd2 := fun g lim K => c_Decimal (S := S) (h := g) (lim := lim) (K := K) (n := ln) (by omega)
    have ai := hAg.at_ (k := .i64) hlt
    have di := hAg.rd hlt
    simp only [Eff.cells] at di
    rw [hkd, hln] at di
    have dl1 := dec_len (n := kd) (by omega)
    have dl2 := dec_len (n := ln) (by omega)
    have dl3 := numT_le (xs := ps[i].1.nums)
    have heT : effT (ps.map (·.1))[i] = Lib.decDigits kd ++ 46 :: (Lib.decDigits ln ++ 46 :: numT ps[i].1.nums) := by
      have hget : (ps.map (·.1))[i] = ps[i].1 := by simp
      rw [hget]
      unfold effT
      rw [hkd, hln]
      simp
    have hnx : ((ps.map (·.1)).take (i + 1)).map effT = ((ps.map (·.1)).take i).map effT ++ [effT (ps.map (·.1))[i]] := by rw [List.take_succ_eq_append_getElem hlm, List.map_append]; rfl
    rw [heT] at hnx
    have hS : Hid (((ps.map (·.1)).take (i + 1)).map effT = ((ps.map (·.1)).take i).map effT ++ [Lib.decDigits kd ++ 46 :: (Lib.decDigits ln ++ 46 :: numT ps[i].1.nums)]) := hnx
    have hpl : (((ps.map (·.1)).take i).map effT).length ≤ 8 := by simp; omega
    clear hnx heT
    generalize Lib.decDigits kd = x1 at *
    generalize Lib.decDigits ln = x2 at *
    generalize numT ps[i].1.nums = x3 at *
    generalize ((ps.map (·.1)).take i).map effT = p at *
    generalize ps[i].2 = ll at *
    have A1 := binV_str_add (x := x1) (y := [46]) (by simp; omega)
    have A2 := binV_str_add (x := x1 ++ [46]) (y := x2) (by simp; omega)
    have A3 := binV_str_add (x := x1 ++ 46 :: x2) (y := [46]) (by simp; omega)
    have A4 := binV_str_add (x := x1 ++ 46 :: (x2 ++ [46])) (y := x3) (by simp; omega)
    repeat' (first | (simp (disch := first | omega | assumption | (simp only [List.length_set]; omega) | (simp [*] <;> fail) | assumption) [-Bool.decide_and, -Bool.decide_or, -Bool.not_and, -Bool.not_or, toNat_pred, toNat_succ, wrap64, wr_new, wr_new0, ok_if, ok_ifn, iadV_sl, makeV_int, decT, decF, over_at, *, leavesAll, fillL]) | (with_reducible refine Gd_split (fun hc => ?_) (fun hc => ?_) <;> (have hc2 := hc; try simp at hc2)) | (with_reducible refine Br_split (fun hc => ?_) (fun hc => ?_) <;> (have hc2 := hc; try simp at hc2)) | (with_reducible refine GdT_split (fun hc => ?_) (fun hc => ?_) <;> (have hc2 := hc; try simp at hc2)) | (with_reducible refine WT_alt ?_ ?_) | omega)
    have hN3 := hN.later (Kept.app g [⟨[.int .i64 kd, .int .i64 ln, ll], .own 44 1⟩, ⟨[.str ⟨(x1 ++ 46 :: (x2 ++ 46 :: x3)).toArray⟩], .own 9 1⟩])
    refine oc_pushS hN3 (r := st (x1 ++ 46 :: (x2 ++ 46 :: x3))) (by simp [st]) (Nat.le_refl _) (by simp; omega) (fun o2 g2 hN2 hB => ?_) (by decide) (by decide)
    have hN4 : New h g2 o2 9 1 ((((ps.map (·.1)).take (i + 1)).map effT).map st) := by
      rw [show ((ps.map (·.1)).take (i + 1)).map effT = _ from hS, List.map_append]; exact hN2
    clear hN hN2 hN3 hB hS
    repeat' (first | (simp (disch := first | omega | assumption | (simp only [List.length_set]; omega) | (simp [*] <;> fail) | assumption) [-Bool.decide_and, -Bool.decide_or, -Bool.not_and, -Bool.not_or, toNat_pred, toNat_succ, wrap64, wr_new, wr_new0, ok_if, ok_ifn, iadV_sl, makeV_int, decT, decF, over_at, *]) | (with_reducible refine Gd_split (fun hc => ?_) (fun hc => ?_) <;> (have hc2 := hc; try simp at hc2)) | (with_reducible refine Br_split (fun hc => ?_) (fun hc => ?_) <;> (have hc2 := hc; try simp at hc2)) | (with_reducible refine GdT_split (fun hc => ?_) (fun hc => ?_) <;> (have hc2 := hc; try simp at hc2)) | (with_reducible refine WT_alt ?_ ?_) | omega)
    exact ⟨by omega, by simpa using hN4⟩
  · have : i = ps.length := by omega
    subst this
    have htk : (ps.map (·.1)).take ps.length = ps.map (·.1) := List.take_of_length_le (by simp)
    rw [htk] at hN
    have hsr := hN.src
    have hlw := hN.arr.len
    rw [List.length_map] at hsr
    have hjn := fun lim K => c_listed (S := S) (h := g) (lim := lim) (K := K) hsr hlw (by simp; omega) (by
      have := join_le (m := 60) (sep := [59]) (ss := (ps.map (·.1)).map effT) (fun x hx => by obtain ⟨y, hy, rfl⟩ := List.mem_map.1 hx; exact effT_le (hc.2 y hy))
      simp only [List.length_map, List.length_cons, List.length_nil] at this; omega)
    have hnT : (if (ps.map (·.1)).map effT = [] then none4 else Lib.join ((ps.map (·.1)).map effT) [59]) = chT (ps.map (·.1)) := by
      unfold chT
      by_cases q : ps.map (·.1) = []
      · rw [if_pos q, if_pos (by rw [q]; rfl)]
      · rw [if_neg q, if_neg (by simpa using q)]
    rw [hnT] at hjn
    clear hsr hlw hnT hN htk
    repeat' (first | (simp (disch := first | omega | assumption | (simp only [List.length_set]; omega) | (simp [*] <;> fail) | assumption) [-Bool.decide_and, -Bool.decide_or, -Bool.not_and, -Bool.not_or, toNat_pred, toNat_succ, wrap64, wr_new, wr_new0, ok_if, ok_ifn, iadV_sl, makeV_int, decT, decF, over_at, *]) | (with_reducible refine Gd_split (fun hc => ?_) (fun hc => ?_) <;> (have hc2 := hc; try simp at hc2)) | (with_reducible refine Br_split (fun hc => ?_) (fun hc => ?_) <;> (have hc2 := hc; try simp at hc2)) | (with_reducible refine GdT_split (fun hc => ?_) (fun hc => ?_) <;> (have hc2 := hc; try simp at hc2)) | (with_reducible refine WT_alt ?_ ?_) | omega)
/-- The text, and whether there is one. -/
noncomputable def chR (es : List Eff) : CV := if isCh es then .tup [.lf (.str ⟨(chT es).toArray⟩), .lf (.bool true)] else .tup [.lf (.str ⟨[].toArray⟩), .lf (.bool false)]
end
end Go.E
