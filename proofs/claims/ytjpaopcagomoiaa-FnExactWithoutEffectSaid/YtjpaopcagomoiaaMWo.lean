/- A chain and a state without an effect, both sides. -/
import Derived.Test.YtjpaopcagomoiaaMJc
import Derived.Test.YtjpaopcagomoiaaMIs
import Derived.Test.YtjpaopcagomoiaaMDx
set_option linter.unusedVariables false
set_option linter.unusedSimpArgs false
namespace Go.E
open Go
def L6 : LFn := ⟨3, (.seq (.reg [⟨(.some 6), (.mv (.c (.lf .nils))), none⟩, ⟨(.some 7), (.mv (.c (.lf .nils))), none⟩, ⟨(.some 8), (.mv (.c (.lf (.bool false)))), none⟩])
 (.seq (.seq (.reg [⟨(.some 13), (.mv (.t 0)), none⟩, ⟨(.some 14), (.mv (.t 1)), none⟩, ⟨(.some 15), (.call true 18 [(.t 13), (.t 14)]), none⟩, ⟨(.some 16), (.una .not (.t 15)), none⟩, ⟨(.some 17), (.mv (.t 16)), none⟩, ⟨(.some 18), (.mv (.t 2)), (.some (17, false))⟩, ⟨(.some 19), (.mv (.t 0)), (.some (17, false))⟩, ⟨(.some 20), (.len (.t 19)), (.some (17, false))⟩, ⟨(.some 21), (.bin .sub (.t 20) (.c (.lf (.int .i64 1)))), (.some (17, false))⟩, ⟨(.some 22), (.call true 19 [(.t 18), (.c (.lf (.int .i64 0))), (.t 21)]), (.some (17, false))⟩, ⟨(.some 23), (.una .not (.t 22)), (.some (17, false))⟩, ⟨(.some 24), (.pick (.t 17) (.c (.lf (.bool true))) (.t 23)), none⟩])
 (.cond (.t 24) (.seq (.reg [⟨(.some 6), (.mv (.c (.lf .nils))), none⟩, ⟨(.some 7), (.mv (.c (.lf .nils))), none⟩, ⟨(.some 8), (.mv (.c (.lf (.bool false)))), none⟩])
 .ret) .skip))
 (.seq (.reg [⟨(.some 25), (.mv (.t 0)), none⟩, ⟨(.some 26), (.call false 20 [(.t 25)]), none⟩, ⟨(.some 9), (.mv (.t 26)), none⟩])
 (.seq (.reg [⟨(.some 27), (.lit 43 3 0 [] []), none⟩, ⟨(.some 10), (.mv (.t 27)), none⟩])
 (.seq (.reg [⟨(.some 28), (.lit 36 1 0 [] []), none⟩, ⟨(.some 11), (.mv (.t 28)), none⟩])
 (.seq (.seq (.reg [⟨(.some 12), (.mv (.c (.lf (.int .i64 0)))), none⟩])
 (.block 0 (.loop (.seq (.seq (.reg [⟨(.some 29), (.mv (.t 12)), none⟩, ⟨(.some 30), (.mv (.t 9)), none⟩, ⟨(.some 31), (.len (.t 30)), none⟩, ⟨(.some 32), (.bin .lss (.t 29) (.t 31)), none⟩])
 (.cond (.t 32) .skip (.exit 0)))
 (.seq (.block 1 (.seq (.reg [⟨(.some 35), (.mv (.t 12)), none⟩, ⟨(.some 36), (.mv (.t 2)), none⟩, ⟨(.some 37), (.bin .neq (.t 35) (.t 36)), none⟩])
 (.cond (.t 37) (.seq (.reg [⟨(.some 38), (.mv (.t 10)), none⟩, ⟨(.some 39), (.mv (.t 9)), none⟩, ⟨(.some 40), (.mv (.t 12)), none⟩, ⟨(.some 41), (.iaddr 3 (.t 39) (.t 40)), none⟩, ⟨(.some 42), (.load true 3 (.t 41)), none⟩, ⟨(.some 43), (.lit 43 3 1 [(.int .i64 0), (.int .i64 0), .nils] [(0, (3, (.t 42)))]), none⟩, ⟨(.some 44), (.app 43 3 40 (.t 38) (.t 43)), none⟩, ⟨(.some 10), (.mv (.t 44)), none⟩])
 (.reg [⟨(.some 45), (.mv (.t 11)), none⟩, ⟨(.some 46), (.lit 53 1 0 [] []), none⟩, ⟨(.some 47), (.mv (.t 1)), none⟩, ⟨(.some 48), (.mv (.t 12)), none⟩, ⟨(.some 49), (.iaddr 1 (.t 47) (.t 48)), none⟩, ⟨(.some 50), (.load false 1 (.t 49)), none⟩, ⟨(.some 51), (.app 53 1 4 (.t 46) (.t 50)), none⟩, ⟨(.some 52), (.lit 36 1 1 [.nils] [(0, (1, (.t 51)))]), none⟩, ⟨(.some 53), (.app 36 1 24 (.t 45) (.t 52)), none⟩, ⟨(.some 11), (.mv (.t 53)), none⟩])) .skip)))
 (.reg [⟨(.some 33), (.mv (.t 12)), none⟩, ⟨(.some 34), (.bin .add (.t 33) (.c (.lf (.int .i64 1)))), none⟩, ⟨(.some 12), (.mv (.t 34)), none⟩]))))))
 (.seq (.reg [⟨(.some 54), (.mv (.t 10)), none⟩, ⟨(.some 55), (.mv (.t 11)), none⟩, ⟨(.some 6), (.mv (.t 54)), none⟩, ⟨(.some 7), (.mv (.t 55)), none⟩, ⟨(.some 8), (.mv (.c (.lf (.bool true)))), none⟩])
 .ret))))))), [(.tmp 6), (.tmp 7), (.tmp 8)]⟩
def L24 : LFn := ⟨2, (.seq (.reg [⟨(.some 4), (.mv (.c (.lf (.bool false)))), none⟩])
 (.seq (.reg [⟨(.some 5), (.mv (.t 0)), none⟩, ⟨(.some 6), (.mv (.t 1)), none⟩, ⟨(.some 7), (.bin .sub (.t 6) (.c (.lf (.int .i64 1)))), none⟩, ⟨(.some 8), (.call true 36 [(.t 5), (.c (.lf (.int .i64 0))), (.t 7)]), none⟩, ⟨(.some 4), (.mv (.t 8)), none⟩])
 .ret)), [(.tmp 4)]⟩
def L9 : LFn := ⟨3, (.seq (.reg [⟨(.some 6), (.mv (.c (.lf .nils))), none⟩, ⟨(.some 7), (.mv (.c (.lf .nils))), none⟩, ⟨(.some 8), (.mv (.c (.lf (.bool false)))), none⟩])
 (.seq (.seq (.reg [⟨(.some 12), (.mv (.t 0)), none⟩, ⟨(.some 13), (.mv (.t 1)), none⟩, ⟨(.some 14), (.call true 23 [(.t 12), (.t 13)]), none⟩, ⟨(.some 15), (.una .not (.t 14)), none⟩, ⟨(.some 16), (.mv (.t 15)), none⟩, ⟨(.some 17), (.mv (.t 2)), (.some (16, false))⟩, ⟨(.some 18), (.mv (.t 0)), (.some (16, false))⟩, ⟨(.some 19), (.len (.t 18)), (.some (16, false))⟩, ⟨(.some 20), (.call true 24 [(.t 17), (.t 19)]), (.some (16, false))⟩, ⟨(.some 21), (.una .not (.t 20)), (.some (16, false))⟩, ⟨(.some 22), (.pick (.t 16) (.c (.lf (.bool true))) (.t 21)), none⟩])
 (.cond (.t 22) (.seq (.reg [⟨(.some 6), (.mv (.c (.lf .nils))), none⟩, ⟨(.some 7), (.mv (.c (.lf .nils))), none⟩, ⟨(.some 8), (.mv (.c (.lf (.bool false)))), none⟩])
 .ret) .skip))
 (.seq (.reg [⟨(.some 9), (.mv (.c (.lf .nils))), none⟩])
 (.seq (.seq (.reg [⟨(.some 23), (.mv (.t 1)), none⟩, ⟨(.some 24), (.len (.t 23)), none⟩, ⟨(.some 25), (.mv (.c (.lf (.int .i64 0)))), none⟩])
 (.block 0 (.loop (.seq (.reg [⟨(.some 26), (.bin .lss (.t 25) (.t 24)), none⟩])
 (.seq (.cond (.t 26) .skip (.exit 0))
 (.seq (.block 1 (.seq (.reg [⟨(.some 27), (.mv (.t 25)), none⟩, ⟨(.some 28), (.iaddr 1 (.t 23) (.t 25)), none⟩, ⟨(.some 29), (.load false 1 (.t 28)), none⟩, ⟨(.some 10), (.mv (.t 27)), none⟩, ⟨(.some 11), (.mv (.t 29)), none⟩])
 (.seq (.reg [⟨(.some 30), (.mv (.t 10)), none⟩, ⟨(.some 31), (.mv (.t 2)), none⟩, ⟨(.some 32), (.bin .neq (.t 30) (.t 31)), none⟩])
 (.cond (.t 32) (.reg [⟨(.some 33), (.mv (.t 9)), none⟩, ⟨(.some 34), (.mv (.t 11)), none⟩, ⟨(.some 35), (.call false 25 [(.t 34)]), none⟩, ⟨(.some 36), (.lit 36 1 1 [.nils] [(0, (1, (.t 35)))]), none⟩, ⟨(.some 37), (.app 36 1 24 (.t 33) (.t 36)), none⟩, ⟨(.some 9), (.mv (.t 37)), none⟩]) .skip))))
 (.reg [⟨(.some 38), (.bin .add (.t 25) (.c (.lf (.int .i64 1)))), none⟩, ⟨(.some 25), (.mv (.t 38)), none⟩])))))))
 (.seq (.reg [⟨(.some 39), (.mv (.t 0)), none⟩, ⟨(.some 40), (.call false 27 [(.t 39)]), none⟩, ⟨(.some 41), (.mv (.t 2)), none⟩, ⟨(.some 42), (.mv (.t 2)), none⟩, ⟨(.some 43), (.bin .add (.t 42) (.c (.lf (.int .i64 1)))), none⟩, ⟨(.some 44), (.call false 26 [(.t 40), (.t 41), (.t 43)]), none⟩, ⟨(.some 45), (.mv (.t 9)), none⟩, ⟨(.some 6), (.mv (.t 44)), none⟩, ⟨(.some 7), (.mv (.t 45)), none⟩, ⟨(.some 8), (.mv (.c (.lf (.bool true)))), none⟩])
 .ret))))), [(.tmp 6), (.tmp 7), (.tmp 8)]⟩
class HasWo (S : Sys) : Prop extends HasIs S, HasOc S, HasA S, HasDel S where
  f6 : S.fs 6 = some L6
  f24 : S.fs 24 = some L24
  f9 : S.fs 9 = some L9
theorem But.farR {g g' : Hp} {o o' t : Lf} (hB : But g g' o o') (hf : Far t o) (ht : t ≠ .nils → t.id < g.length) : Far t o' := by
  rcases hB.far with e | e
  · subst e; exact hf
  · intro q1 q2 q3
    have := ht q1
    omega
theorem far_fresh {g g' : Hp} {o s : Lf} {ty sz : Nat} {rows : List (List Lf)} (hS : New g g' s ty sz rows) (ho : o ≠ .nils → o.id < g.length) : Far o s := fun q1 q2 e => by
  have := ho q1
  have := (hS.lt q2).1
  omega
theorem lvs_snoc {α : Type} {ps : List (α × Lf)} {l l2 s : Lf} {a : α} {P : Lf → Prop} (h : ∀ t ∈ lvs l ps, P t) (h2 : P l2) (hs : P s) : ∀ t ∈ lvs l2 (ps ++ [(a, s)]), P t := by
  intro t ht
  unfold lvs at ht h
  rcases List.mem_cons.1 ht with rfl | ht
  · exact h2
  · obtain ⟨p, hp, rfl⟩ := List.mem_map.1 ht
    rcases List.mem_append.1 hp with hp | hp
    · exact h _ (List.mem_cons_of_mem _ (List.mem_map.2 ⟨p, hp, rfl⟩))
    · rw [List.mem_singleton.1 hp]; exact hs
/-- The first i of a list, without the one at n. -/
def skipTo {α : Type} (n : Nat) (xs : List α) (i : Nat) : List α := (xs.take i).eraseIdx n
@[simp] theorem skipTo_zero {α : Type} {n : Nat} {xs : List α} : skipTo n xs 0 = [] := by simp [skipTo]
theorem skipTo_all {α : Type} {n : Nat} {xs : List α} : skipTo n xs xs.length = xs.eraseIdx n := by simp [skipTo]
theorem skipTo_yes {α : Type} {n : Nat} {xs : List α} {i : Nat} (hi : i < xs.length) (h : i ≠ n) : skipTo n xs (i + 1) = skipTo n xs i ++ [xs[i]] := by
  unfold skipTo
  rw [List.take_succ_eq_append_getElem hi]
  by_cases c : n < i
  · rw [List.eraseIdx_append_of_lt_length (by simp; omega)]
  · rw [List.eraseIdx_append_of_length_le (by simp; omega), List.eraseIdx_of_length_le (by simp; omega), List.eraseIdx_of_length_le (by simp; omega)]
theorem skipTo_no {α : Type} {n : Nat} {xs : List α} (hi : n < xs.length) : skipTo n xs (n + 1) = skipTo n xs n := by
  unfold skipTo
  have hl : (xs.take n).length = n := by simp; omega
  rw [List.take_succ_eq_append_getElem hi, List.eraseIdx_append_of_length_le (show (xs.take n).length ≤ n by omega), hl, Nat.sub_self, List.eraseIdx_of_length_le (show (xs.take n).length ≤ n by omega)]
  simp
theorem skipTo_map {α β : Type} {f : α → β} {n : Nat} {xs : List α} {i : Nat} : (skipTo n xs i).map f = skipTo n (xs.map f) i := by
  unfold skipTo
  rw [List.eraseIdx_eq_take_drop_succ, List.eraseIdx_eq_take_drop_succ]
  simp [List.map_take, List.map_drop]
theorem erase_map {α β : Type} {f : α → β} {n : Nat} {xs : List α} : (xs.eraseIdx n).map f = (xs.map f).eraseIdx n := by
  rw [List.eraseIdx_eq_take_drop_succ, List.eraseIdx_eq_take_drop_succ]
  simp [List.map_take, List.map_drop]
theorem skipTo_len {α : Type} {n : Nat} {xs : List α} {i : Nat} : (skipTo n xs i).length ≤ i := by
  unfold skipTo
  have := List.length_eraseIdx_le (l := xs.take i) (i := n)
  simp at this
  omega
def okWo (es : List Eff) (ss : List (List Nat)) (n : Int) : Prop := isFit es ss ∧ 0 ≤ n ∧ n ≤ (es.length : Int) - 1
noncomputable instance (es : List Eff) (ss : List (List Nat)) (n : Int) : Decidable (okWo es ss n) := Classical.propDecidable _
noncomputable def woR (es : List Eff) (ss : List (List Nat)) (n : Int) : List Eff × List (List Nat) := if okWo es ss n then (es.eraseIdx n.toNat, ss.eraseIdx n.toNat) else ([], [])
section
variable {S : Sys} {lim : Nat} {h : Hp} {K : CV → Hp → Prop} [HasWo S] {l l2 : Lf} {ps : List (Eff × Lf)} {qs : List (List Nat × Lf)}
@[simp] theorem c_isIndex {x y : Int} (hy : 0 ≤ y ∧ y ≤ 1000000) : CallT S true 24 [.lf (.int .i64 x), .lf (.int .i64 y)] h lim K = K (.lf (.bool (decide (0 ≤ x ∧ x ≤ y - 1)))) h := by
  refine CallT_pure (F := L24) (HasWo.f24) rfl (by first | rfl | (split <;> rfl) | simp) ?_; unfold L24; dsimp only []
  repeat' (first | (simp (disch := first | omega | assumption | (simp only [List.length_set]; omega) | (simp [*] <;> fail) | assumption) [-Bool.decide_and, -Bool.decide_or, -Bool.not_and, -Bool.not_or, toNat_pred, toNat_succ, wrap64, wr_new, wr_new0, ok_if, ok_ifn, iadV_sl, makeV_int, decT, decF, over_at, *]) | (with_reducible refine Gd_split (fun hc => ?_) (fun hc => ?_) <;> (have hc2 := hc; try simp at hc2)) | (with_reducible refine Br_split (fun hc => ?_) (fun hc => ?_) <;> (have hc2 := hc; try simp at hc2)) | (with_reducible refine GdT_split (fun hc => ?_) (fun hc => ?_) <;> (have hc2 := hc; try simp at hc2)) | (with_reducible refine WT_alt ?_ ?_) | omega)
theorem woR_small {es : List Eff} {ss : List (List Nat)} {n : Int} : ((woR es ss n).1.length ≤ 8 ∧ ∀ e ∈ (woR es ss n).1, e.nums.length ≤ 5) ∧ (woR es ss n).2.length ≤ 8 ∧ ∀ s ∈ (woR es ss n).2, s.length ≤ 33 := by
  unfold woR
  split
  · rename_i hok
    have h1 := hok.1.1
    have h2 := hok.1.2.1
    have h8 := h1.1
    refine ⟨⟨?_, fun e he => (h1.2 e (List.mem_of_mem_eraseIdx he)).few⟩, ?_, fun s hs => ?_⟩
    · have := List.length_eraseIdx_le (l := es) (i := n.toNat); simp only; omega
    · have := List.length_eraseIdx_le (l := ss) (i := n.toNat); simp only; omega
    · obtain ⟨i, hi, rfl⟩ := List.mem_iff_getElem.1 (List.mem_of_mem_eraseIdx hs)
      have hi2 : i < es.length := by omega
      have h3 := hok.1.2.2 i _ _ (List.getElem?_eq_getElem hi2) (List.getElem?_eq_getElem hi)
      have h4 := h1.2 _ (List.getElem_mem hi2)
      have h5 := stL_len h4
      have h6 := stL_le h4
      omega
  · simp
theorem fit_small {ps : List (Eff × Lf)} {qs : List (List Nat × Lf)} (h : isFit (ps.map (·.1)) (qs.map (·.1))) : ps.length ≤ 8 ∧ qs.length = ps.length ∧ szD Eff.nums ps ≤ 100000 ∧ ∀ i (hi : i < qs.length), qs[i].1.length ≤ 33 := by
  have h1 := h.1
  have h2 := h.2.1
  have h8 := h1.1
  rw [List.length_map, List.length_map] at h2
  rw [List.length_map] at h8
  have hz := small_of (ro := Eff.nums) (n := 8) (b := 5) (qs := ps) (xs := ps.map (·.1)) h1.1 (fun e he => (h1.2 e he).few) rfl
  refine ⟨h8, h2, by omega, fun i hi => ?_⟩
  have hi2 : i < ps.length := by omega
  have h3 := h.2.2 i ps[i].1 qs[i].1 (by simp [hi2]) (by simp [hi])
  have h4 := h1.2 ps[i].1 (List.mem_map.2 ⟨ps[i], List.getElem_mem hi2, rfl⟩)
  have h5 := stL_len h4
  have h6 := stL_le h4
  omega
/-- One element less. -/
theorem NewD.erase {α : Type} {ro : α → List Nat} {ce : α × Lf → List Lf} {ps : List (α × Lf)} {h g g' : Hp} {l l' : Lf} {ty sz fty k : Nat} (hD : NewD h g l ty sz ce ro fty ps) (hN : New h g' l' ty sz ((ps.map ce).eraseIdx k)) (hB : But g g' l l') : NewD h g' l' ty sz ce ro fty (ps.eraseIdx k) := by
  refine ⟨by rw [erase_map]; exact hN, fun p hp => ?_, hD.far.sublist (List.eraseIdx_sublist ps k), fun p hp => ?_⟩
  · have hp2 := List.mem_of_mem_eraseIdx hp
    exact hB.new (hD.inn p hp2) (fun q1 => (hD.out.lt q1).1) (fun q1 q2 => (hD.faro p hp2 q1 q2).symm)
  · have hp2 := List.mem_of_mem_eraseIdx hp
    exact (hB.farR (hD.faro p hp2).symm (fun q => ((hD.inn p hp2).lt q).2)).symm
set_option maxHeartbeats 4000000 in
theorem c_implWithoutEffect {n : Int} (hA : Arr h l 3 (ps.map Eff.cells)) (hI : In h Eff.nums ps) (hT : Sms h Eff.nums ps) (hA2 : Arr h l2 1 (qs.map ssCells)) (hI2 : In h ssRows qs) (hT2 : Sms h ssRows qs) (hl : lim ≤ h.length)
    (hK : ∀ o s po so g, NewD h g o 43 3 Eff.cells Eff.nums 53 po → NewD h g s 36 1 ssCells ssRows 53 so → po.map (·.1) = (woR (ps.map (·.1)) (qs.map (·.1)) n).1 → so.map (·.1) = (woR (ps.map (·.1)) (qs.map (·.1)) n).2 → (∀ x ∈ lvs o po, ∀ t ∈ lvs s so, Far x t) → K (.tup [.lf o, .lf s, .lf (.bool (decide (okWo (ps.map (·.1)) (qs.map (·.1)) n)))]) g) : CallT S false 9 [.lf l, .lf l2, .lf (.int .i64 n)] h lim K := by
  have hv := fun lim K => c_implIsState (S := S) (lim := lim) (K := K) hA hI hA2 hI2
  have hbA := hA.bound
  by_cases hok : okWo (ps.map (·.1)) (qs.map (·.1)) n
  · unfold woR at hK
    rw [if_pos hok, decide_eq_true hok] at hK
    obtain ⟨k1, k2, k3⟩ := hok
    rw [decide_eq_true k1] at hv
    obtain ⟨s1, s2, s3, s4⟩ := fit_small k1
    obtain ⟨N, rfl⟩ := Int.eq_ofNat_of_zero_le k2
    rw [List.length_map] at k3
    rw [Int.toNat_natCast] at hK
    have hN : N < ps.length := by omega
    have hx := fun h lim K => c_isIndex (S := S) (h := h) (lim := lim) (K := K) (x := N) (y := ps.length) (by omega)
    rw [decide_eq_true (by omega)] at hx
    clear k1 k2 k3
    refine CallT_of_body (F := L9) (HasWo.f9) rfl ?_; unfold L9; dsimp only []
    repeat' (first | (simp (disch := first | omega | assumption | (simp only [List.length_set]; omega) | (simp [*] <;> fail) | assumption) [-Bool.decide_and, -Bool.decide_or, -Bool.not_and, -Bool.not_or, toNat_pred, toNat_succ, wrap64, wr_new, wr_new0, ok_if, ok_ifn, iadV_sl, makeV_int, decT, decF, over_at, *, hA.len, hA2.len]) | (with_reducible refine Gd_split (fun hc => ?_) (fun hc => ?_) <;> (have hc2 := hc; try simp at hc2)) | (with_reducible refine Br_split (fun hc => ?_) (fun hc => ?_) <;> (have hc2 := hc; try simp at hc2)) | (with_reducible refine GdT_split (fun hc => ?_) (fun hc => ?_) <;> (have hc2 := hc; try simp at hc2)) | (with_reducible refine WT_alt ?_ ?_) | omega)
    refine WL_forM 549722263040 (by decide +kernel) (qs.length) (fun i b g => i ≤ qs.length ∧ b 25 = .lf (.int .i64 i) ∧ ∃ sg rs, b 9 = .lf sg ∧ NewD h g sg 36 1 ssCells ssRows 53 rs ∧ rs.map (·.1) = skipTo N (qs.map (·.1)) i) (fun _ _ _ hi => hi.1) ⟨by omega, by simp, .nils, [], by simp, NewD.start (Kept.refl _), by simp⟩ ?_
    rintro i b g ⟨hi, e25, sg, rs, e8, hD, hq⟩
    have hk := hD.kept
    have hk1 := hk.1
    have hL1 := hA2.kept hk
    have hql : rs.length ≤ i := by have := congrArg List.length hq; rw [List.length_map] at this; have := skipTo_len (n := N) (xs := qs.map (·.1)) (i := i); omega
    by_cases hlt : i < qs.length
    · by_cases hne : i = N
      · subst hne
        have hqE : skipTo i (qs.map (·.1)) (i + 1) = rs.map (·.1) := by rw [hq]; exact skipTo_no (by simpa using hlt)
        have hqH : Hid (skipTo i (qs.map (·.1)) (i + 1) = rs.map (·.1)) := hqE
        clear hqE hq hK
        repeat' (first | (simp (disch := first | omega | assumption | (simp only [List.length_set]; omega) | (simp [*] <;> fail) | assumption) [-Bool.decide_and, -Bool.decide_or, -Bool.not_and, -Bool.not_or, toNat_pred, toNat_succ, wrap64, wr_new, wr_new0, ok_if, ok_ifn, iadV_sl, makeV_int, decT, decF, over_at, *, hL1.len, hL1.at_, hL1.at_', hL1.rd, hL1.rdIn, hL1.rdIn0, hL1.rdA, hL1.rdInA, hL1.rdIn0A, hL1.rd1, ssCells]) | (with_reducible refine Gd_split (fun hc => ?_) (fun hc => ?_) <;> (have hc2 := hc; try simp at hc2)) | (with_reducible refine Br_split (fun hc => ?_) (fun hc => ?_) <;> (have hc2 := hc; try simp at hc2)) | (with_reducible refine GdT_split (fun hc => ?_) (fun hc => ?_) <;> (have hc2 := hc; try simp at hc2)) | (with_reducible refine WT_alt ?_ ?_) | omega)
        exact ⟨by omega, _, hD, (show skipTo i (qs.map (·.1)) (i + 1) = rs.map (·.1) from hqH).symm⟩
      · have hqE : skipTo N (qs.map (·.1)) (i + 1) = rs.map (·.1) ++ [qs[i].1] := by rw [hq, skipTo_yes (by simpa using hlt) hne]; simp
        have hqH : Hid (skipTo N (qs.map (·.1)) (i + 1) = rs.map (·.1) ++ [qs[i].1]) := hqE
        have hl33 := s4 i hlt
        have hne2 : ¬ (i : Int) = N := by omega
        clear hqE hq hK
        repeat' (first | (simp (disch := first | omega | assumption | (simp only [List.length_set]; omega) | (simp [*] <;> fail) | assumption) [-Bool.decide_and, -Bool.decide_or, -Bool.not_and, -Bool.not_or, toNat_pred, toNat_succ, wrap64, wr_new, wr_new0, ok_if, ok_ifn, iadV_sl, makeV_int, decT, decF, over_at, *, hL1.len, hL1.at_, hL1.at_', hL1.rd, hL1.rdIn, hL1.rdIn0, hL1.rdA, hL1.rdInA, hL1.rdIn0A, hL1.rd1, ssCells]) | (with_reducible refine Gd_split (fun hc => ?_) (fun hc => ?_) <;> (have hc2 := hc; try simp at hc2)) | (with_reducible refine Br_split (fun hc => ?_) (fun hc => ?_) <;> (have hc2 := hc; try simp at hc2)) | (with_reducible refine GdT_split (fun hc => ?_) (fun hc => ?_) <;> (have hc2 := hc; try simp at hc2)) | (with_reducible refine WT_alt ?_ ?_) | omega)
        refine c_copyNumbers ((hT2 i hlt).kept hk) (by simp only [ssRows]; omega) (by omega) fun c g2 hC => ?_
        obtain ⟨hf0, hf1⟩ := hD.fresh hC
        have hC1 := hC.base hk
        have hD1 := hD.later hC.kept
        have hg2 := hC.kept.1
        generalize hy : qs[i].1 = y at *
        clear hC
        repeat' (first | (simp (disch := first | omega | assumption | (simp only [List.length_set]; omega) | (simp [*] <;> fail) | assumption) [-Bool.decide_and, -Bool.decide_or, -Bool.not_and, -Bool.not_or, toNat_pred, toNat_succ, wrap64, wr_new, wr_new0, ok_if, ok_ifn, iadV_sl, makeV_int, decT, decF, over_at, *, leavesAll, fillL]) | (with_reducible refine Gd_split (fun hc => ?_) (fun hc => ?_) <;> (have hc2 := hc; try simp at hc2)) | (with_reducible refine Br_split (fun hc => ?_) (fun hc => ?_) <;> (have hc2 := hc; try simp at hc2)) | (with_reducible refine GdT_split (fun hc => ?_) (fun hc => ?_) <;> (have hc2 := hc; try simp at hc2)) | (with_reducible refine WT_alt ?_ ?_) | omega)
        refine oc_push (bytes := 24) (r := [c]) hD1.out ?_ ?_ ?_ (by decide) rfl (by decide)
        · omega
        · simp; omega
        intro o2 g5 hN5 hB5
        have hP := hD1.push (a := y) hC1 hf0 hf1 (Kept.refl _) hN5 hB5 rfl
        repeat' (first | (simp (disch := first | omega | assumption | (simp only [List.length_set]; omega) | (simp [*] <;> fail) | assumption) [-Bool.decide_and, -Bool.decide_or, -Bool.not_and, -Bool.not_or, toNat_pred, toNat_succ, wrap64, wr_new, wr_new0, ok_if, ok_ifn, iadV_sl, makeV_int, decT, decF, over_at, *]) | (with_reducible refine Gd_split (fun hc => ?_) (fun hc => ?_) <;> (have hc2 := hc; try simp at hc2)) | (with_reducible refine Br_split (fun hc => ?_) (fun hc => ?_) <;> (have hc2 := hc; try simp at hc2)) | (with_reducible refine GdT_split (fun hc => ?_) (fun hc => ?_) <;> (have hc2 := hc; try simp at hc2)) | (with_reducible refine WT_alt ?_ ?_) | omega)
        exact ⟨by omega, _, hP, by rw [show skipTo N (qs.map (·.1)) (i + 1) = _ from hqH]; simp⟩
    · have : i = qs.length := by omega
      subst this
      have hq2 : rs.map (·.1) = (qs.map (·.1)).eraseIdx N := by rw [hq, show qs.length = (qs.map (·.1)).length by simp, skipTo_all]
      clear hq hL1
      repeat' (first | (simp (disch := first | omega | assumption | (simp only [List.length_set]; omega) | (simp [*] <;> fail) | assumption) [-Bool.decide_and, -Bool.decide_or, -Bool.not_and, -Bool.not_or, toNat_pred, toNat_succ, wrap64, wr_new, wr_new0, ok_if, ok_ifn, iadV_sl, makeV_int, decT, decF, over_at, *]) | (with_reducible refine Gd_split (fun hc => ?_) (fun hc => ?_) <;> (have hc2 := hc; try simp at hc2)) | (with_reducible refine Br_split (fun hc => ?_) (fun hc => ?_) <;> (have hc2 := hc; try simp at hc2)) | (with_reducible refine GdT_split (fun hc => ?_) (fun hc => ?_) <;> (have hc2 := hc; try simp at hc2)) | (with_reducible refine WT_alt ?_ ?_) | omega)
      refine c_copyChain (hA.kept hk) (hT.kept hk) (by omega) s3 (by omega) fun o g2 os hO ho => ?_
      have hO1 := hO.base hk
      have hD2 := hD.later hO.kept
      have hg2 := hO.kept.1
      have hol : N < (os.map Eff.cells).length := by rw [List.length_map, map_len ho]; exact hN
      have hz1 := hO.lvs_lt
      have hz2 := hD.lvs_lt
      have hfar : ∀ s ∈ [o], ∀ t ∈ lvs sg rs, Far s t := fun s hs t ht q1 q2 e => by
        rw [List.mem_singleton.1 hs] at q1 e
        have := hz1 o lvs_head q1
        have := hz2 t ht q2
        omega
      repeat' (first | (simp (disch := first | omega | assumption | (simp only [List.length_set]; omega) | (simp [*] <;> fail) | assumption) [-Bool.decide_and, -Bool.decide_or, -Bool.not_and, -Bool.not_or, toNat_pred, toNat_succ, wrap64, wr_new, wr_new0, ok_if, ok_ifn, iadV_sl, makeV_int, decT, decF, over_at, *]) | (with_reducible refine Gd_split (fun hc => ?_) (fun hc => ?_) <;> (have hc2 := hc; try simp at hc2)) | (with_reducible refine Br_split (fun hc => ?_) (fun hc => ?_) <;> (have hc2 := hc; try simp at hc2)) | (with_reducible refine GdT_split (fun hc => ?_) (fun hc => ?_) <;> (have hc2 := hc; try simp at hc2)) | (with_reducible refine WT_alt ?_ ?_) | omega)
      refine c_Delete hO1.out hol hl fun o' g3 hN3 hB3 => ?_
      have hE := hO1.erase hN3 hB3
      have hD3 := hD2.but hB3 (fun q => (hO1.out.lt q).1) (hfar o (List.mem_singleton.2 rfl) sg lvs_head).symm (fun p hp => (hfar o (List.mem_singleton.2 rfl) p.2 (by unfold lvs; exact List.mem_cons_of_mem _ (List.mem_map.2 ⟨p, hp, rfl⟩))).symm)
      have hk2 := hK _ _ _ _ _ hE hD3 (by rw [erase_map, ho]) hq2 (fun x hx t ht => ?_)
      · clear hK
        repeat' (first | (simp (disch := first | omega | assumption | (simp only [List.length_set]; omega) | (simp [*] <;> fail) | assumption) [-Bool.decide_and, -Bool.decide_or, -Bool.not_and, -Bool.not_or, toNat_pred, toNat_succ, wrap64, wr_new, wr_new0, ok_if, ok_ifn, iadV_sl, makeV_int, decT, decF, over_at, *]) | (with_reducible refine Gd_split (fun hc => ?_) (fun hc => ?_) <;> (have hc2 := hc; try simp at hc2)) | (with_reducible refine Br_split (fun hc => ?_) (fun hc => ?_) <;> (have hc2 := hc; try simp at hc2)) | (with_reducible refine GdT_split (fun hc => ?_) (fun hc => ?_) <;> (have hc2 := hc; try simp at hc2)) | (with_reducible refine WT_alt ?_ ?_) | omega)
      · unfold lvs at hx
        rcases List.mem_cons.1 hx with rfl | hx
        · exact (hB3.farR (hfar o (List.mem_singleton.2 rfl) t ht).symm (fun q => by have := hz2 t ht q; omega)).symm
        · obtain ⟨p, hp, rfl⟩ := List.mem_map.1 hx
          have hp2 := List.mem_of_mem_eraseIdx hp
          intro q1 q2 e
          have := hz1 p.2 (by unfold lvs; exact List.mem_cons_of_mem _ (List.mem_map.2 ⟨p, hp2, rfl⟩)) q1
          have := hz2 t ht q2
          omega
  · have hk2 := hK .nils .nils [] [] h (NewD.start (Kept.refl _)) (NewD.start (Kept.refl _)) (by unfold woR; rw [if_neg hok]; rfl) (by unfold woR; rw [if_neg hok]; rfl) (fun x _ t ht => by unfold lvs at ht; simp at ht; subst ht; exact Far.nil_right)
    rw [decide_eq_false hok] at hk2
    clear hK
    by_cases k1 : isFit (ps.map (·.1)) (qs.map (·.1))
    · rw [decide_eq_true k1] at hv
      obtain ⟨s1, s2, s3, s4⟩ := fit_small k1
      have hx := fun h lim K => c_isIndex (S := S) (h := h) (lim := lim) (K := K) (x := n) (y := ps.length) (by omega)
      rw [decide_eq_false (fun q => hok ⟨k1, q.1, by rw [List.length_map]; exact q.2⟩)] at hx
      clear hok k1
      refine CallT_of_body (F := L9) (HasWo.f9) rfl ?_; unfold L9; dsimp only []
      repeat' (first | (simp (disch := first | omega | assumption | (simp only [List.length_set]; omega) | (simp [*] <;> fail) | assumption) [-Bool.decide_and, -Bool.decide_or, -Bool.not_and, -Bool.not_or, toNat_pred, toNat_succ, wrap64, wr_new, wr_new0, ok_if, ok_ifn, iadV_sl, makeV_int, decT, decF, over_at, *, hA.len]) | (with_reducible refine Gd_split (fun hc => ?_) (fun hc => ?_) <;> (have hc2 := hc; try simp at hc2)) | (with_reducible refine Br_split (fun hc => ?_) (fun hc => ?_) <;> (have hc2 := hc; try simp at hc2)) | (with_reducible refine GdT_split (fun hc => ?_) (fun hc => ?_) <;> (have hc2 := hc; try simp at hc2)) | (with_reducible refine WT_alt ?_ ?_) | omega)
    · rw [decide_eq_false k1] at hv
      clear hok k1
      refine CallT_of_body (F := L9) (HasWo.f9) rfl ?_; unfold L9; dsimp only []
      repeat' (first | (simp (disch := first | omega | assumption | (simp only [List.length_set]; omega) | (simp [*] <;> fail) | assumption) [-Bool.decide_and, -Bool.decide_or, -Bool.not_and, -Bool.not_or, toNat_pred, toNat_succ, wrap64, wr_new, wr_new0, ok_if, ok_ifn, iadV_sl, makeV_int, decT, decF, over_at, *]) | (with_reducible refine Gd_split (fun hc => ?_) (fun hc => ?_) <;> (have hc2 := hc; try simp at hc2)) | (with_reducible refine Br_split (fun hc => ?_) (fun hc => ?_) <;> (have hc2 := hc; try simp at hc2)) | (with_reducible refine GdT_split (fun hc => ?_) (fun hc => ?_) <;> (have hc2 := hc; try simp at hc2)) | (with_reducible refine WT_alt ?_ ?_) | omega)
set_option maxHeartbeats 8000000 in
theorem c_specWithoutEffect {n : Int} (hA : Arr h l 3 (ps.map Eff.cells)) (hI : In h Eff.nums ps) (hT : Sms h Eff.nums ps) (hA2 : Arr h l2 1 (qs.map ssCells)) (hI2 : In h ssRows qs) (hT2 : Sms h ssRows qs) (hl : lim ≤ h.length)
    (hK : ∀ o s po so g, NewD h g o 43 3 Eff.cells Eff.nums 53 po → NewD h g s 36 1 ssCells ssRows 53 so → po.map (·.1) = (woR (ps.map (·.1)) (qs.map (·.1)) n).1 → so.map (·.1) = (woR (ps.map (·.1)) (qs.map (·.1)) n).2 → (∀ x ∈ lvs o po, ∀ t ∈ lvs s so, Far x t) → K (.tup [.lf o, .lf s, .lf (.bool (decide (okWo (ps.map (·.1)) (qs.map (·.1)) n)))]) g) : CallT S false 6 [.lf l, .lf l2, .lf (.int .i64 n)] h lim K := by
  have hv := fun lim K => c_l08Fit (S := S) (lim := lim) (K := K) hA hI hA2 hI2
  have hbA := hA.bound
  by_cases hok : okWo (ps.map (·.1)) (qs.map (·.1)) n
  · unfold woR at hK
    rw [if_pos hok, decide_eq_true hok] at hK
    obtain ⟨k1, k2, k3⟩ := hok
    rw [decide_eq_true k1] at hv
    obtain ⟨s1, s2, s3, s4⟩ := fit_small k1
    obtain ⟨N, rfl⟩ := Int.eq_ofNat_of_zero_le k2
    rw [List.length_map] at k3
    rw [Int.toNat_natCast] at hK
    have hN : N < ps.length := by omega
    have hx : (0 : Int) ≤ N ∧ (N : Int) ≤ (ps.length : Int) - 1 := by omega
    clear k1 k2 k3
    refine CallT_of_body (F := L6) (HasWo.f6) rfl ?_; unfold L6; dsimp only []
    repeat' (first | (simp (disch := first | omega | assumption | (simp only [List.length_set]; omega) | (simp [*] <;> fail) | assumption) [-Bool.decide_and, -Bool.decide_or, -Bool.not_and, -Bool.not_or, toNat_pred, toNat_succ, wrap64, wr_new, wr_new0, ok_if, ok_ifn, iadV_sl, makeV_int, decT, decF, over_at, *, hA.len]) | (with_reducible refine Gd_split (fun hc => ?_) (fun hc => ?_) <;> (have hc2 := hc; try simp at hc2)) | (with_reducible refine Br_split (fun hc => ?_) (fun hc => ?_) <;> (have hc2 := hc; try simp at hc2)) | (with_reducible refine GdT_split (fun hc => ?_) (fun hc => ?_) <;> (have hc2 := hc; try simp at hc2)) | (with_reducible refine WT_alt ?_ ?_) | omega)
    refine c_l08Own hA hT (by omega) s3 hl fun lo g os hO ho => ?_
    have hk := hO.kept
    have hkl := hk.1
    have hol := map_len ho
    have hzO := hO.lvs_lt
    have b1 : New h (g ++ [⟨[], .own 43 3⟩, ⟨[], .own 36 1⟩]) (.sl g.length 0 0 3) 43 3 [] := by
      have := (New.litN (ty := 43) (sz := 3) hk).later (Kept.app _ [⟨[], .own 36 1⟩])
      simpa using this
    have b2 : NewD h (g ++ [⟨[], .own 43 3⟩, ⟨[], .own 36 1⟩]) (.sl (g.length + 1) 0 0 1) 36 1 ssCells ssRows 53 [] := by
      have := NewD.lit (ty := 36) (sz := 1) (ce := ssCells) (ro := ssRows) (fty := 53) (hk.trans (Kept.app g [⟨[], .own 43 3⟩]))
      simpa using this
    have f1 : ∀ x ∈ lvs lo os, Far (.sl g.length 0 0 3) x := fun x hx _ q e => by have := (hzO x hx q).2; simp at e; omega
    have f2 : ∀ x ∈ lvs lo os, Far x (.sl (g.length + 1) 0 0 1) := fun x hx q _ e => by have := (hzO x hx q).2; simp at e; omega
    repeat' (first | (simp (disch := first | omega | assumption | (simp only [List.length_set]; omega) | (simp [*] <;> fail) | assumption) [-Bool.decide_and, -Bool.decide_or, -Bool.not_and, -Bool.not_or, toNat_pred, toNat_succ, wrap64, wr_new, wr_new0, ok_if, ok_ifn, iadV_sl, makeV_int, decT, decF, over_at, *, leavesAll, fillL]) | (with_reducible refine Gd_split (fun hc => ?_) (fun hc => ?_) <;> (have hc2 := hc; try simp at hc2)) | (with_reducible refine Br_split (fun hc => ?_) (fun hc => ?_) <;> (have hc2 := hc; try simp at hc2)) | (with_reducible refine GdT_split (fun hc => ?_) (fun hc => ?_) <;> (have hc2 := hc; try simp at hc2)) | (with_reducible refine WT_alt ?_ ?_) | omega)
    refine WL_forM 18014397972618240 (by decide +kernel) (os.length) (fun i b g => i ≤ os.length ∧ b 12 = .lf (.int .i64 i) ∧ ∃ o r rs, b 10 = .lf o ∧ b 11 = .lf r ∧ NewD h g lo 43 3 Eff.cells Eff.nums 53 os ∧ New h g o 43 3 ((skipTo N os i).map Eff.cells) ∧ NewD h g r 36 1 ssCells ssRows 53 rs ∧ rs.map (·.1) = skipTo N (qs.map (·.1)) i ∧ (∀ x ∈ lvs lo os, Far o x) ∧ (∀ x ∈ lvs lo os, ∀ t ∈ lvs r rs, Far x t) ∧ ∀ t ∈ lvs r rs, Far o t) (fun _ _ _ hi => hi.1) ⟨by omega, by simp, _, _, [], by simp, by simp, hO.later (Kept.app g _), by simpa using b1, b2, by simp, f1, fun x hx t ht => by unfold lvs at ht; simp at ht; subst ht; exact f2 x hx, fun t ht => by unfold lvs at ht; simp at ht; subst ht; intro _ _ e; simp at e⟩ ?_
    clear b1 b2 f1 f2 hO hk hkl hzO
    rintro i b g ⟨hi, e12, o, r, rs, e10, e11, hO, hOut, hR, hq, F1, F2, F3⟩
    have hk := hO.kept
    have hk1 := hk.1
    have hL1 := hA2.kept hk
    have hOA := hO.arr
    have hql : rs.length ≤ i := by have := congrArg List.length hq; rw [List.length_map] at this; have := skipTo_len (n := N) (xs := qs.map (·.1)) (i := i); omega
    have hol2 := skipTo_len (n := N) (xs := os) (i := i)
    by_cases hlt : i < os.length
    · have hltq : i < qs.length := by omega
      by_cases hne : i = N
      · subst hne
        have hqE : skipTo i (qs.map (·.1)) (i + 1) = rs.map (·.1) := by rw [hq]; exact skipTo_no (by simpa using hltq)
        have hqH : Hid (skipTo i (qs.map (·.1)) (i + 1) = rs.map (·.1)) := hqE
        have hoE : Hid (skipTo i os (i + 1) = skipTo i os i) := skipTo_no hlt
        clear hqE hq hK
        repeat' (first | (simp (disch := first | omega | assumption | (simp only [List.length_set]; omega) | (simp [*] <;> fail) | assumption) [-Bool.decide_and, -Bool.decide_or, -Bool.not_and, -Bool.not_or, toNat_pred, toNat_succ, wrap64, wr_new, wr_new0, ok_if, ok_ifn, iadV_sl, makeV_int, decT, decF, over_at, *, hOA.len, hOA.at_, hOA.at_', hOA.rd, hOA.rdIn, hOA.rdIn0, hOA.rdA, hOA.rdInA, hOA.rdIn0A]) | (with_reducible refine Gd_split (fun hc => ?_) (fun hc => ?_) <;> (have hc2 := hc; try simp at hc2)) | (with_reducible refine Br_split (fun hc => ?_) (fun hc => ?_) <;> (have hc2 := hc; try simp at hc2)) | (with_reducible refine GdT_split (fun hc => ?_) (fun hc => ?_) <;> (have hc2 := hc; try simp at hc2)) | (with_reducible refine WT_alt ?_ ?_) | omega)
        exact ⟨by omega, by rw [show skipTo i os (i + 1) = _ from hoE]; exact hOut, _, hR, (show skipTo i (qs.map (·.1)) (i + 1) = rs.map (·.1) from hqH).symm, F1, F2, F3⟩
      · have hqE : skipTo N (qs.map (·.1)) (i + 1) = rs.map (·.1) ++ [qs[i].1] := by rw [hq, skipTo_yes (by simpa using hltq) hne]; simp
        have hqH : Hid (skipTo N (qs.map (·.1)) (i + 1) = rs.map (·.1) ++ [qs[i].1]) := hqE
        have hoE : Hid (skipTo N os (i + 1) = skipTo N os i ++ [os[i]]) := skipTo_yes hlt hne
        have hl33 := s4 i hltq
        have hne2 : ¬ (i : Int) = N := by omega
        have hsm := hT2 i hltq
        simp only [ssRows] at hsm
        clear hqE hq hK
        repeat' (first | (simp (disch := first | omega | assumption | (simp only [List.length_set]; omega) | (simp [*] <;> fail) | assumption) [-Bool.decide_and, -Bool.decide_or, -Bool.not_and, -Bool.not_or, toNat_pred, toNat_succ, wrap64, wr_new, wr_new0, ok_if, ok_ifn, iadV_sl, makeV_int, decT, decF, over_at, *, hOA.len, hOA.at_, hOA.at_', hOA.rd, hOA.rdIn, hOA.rdIn0, hOA.rdA, hOA.rdInA, hOA.rdIn0A, Eff.cells, leavesAll, fillL]) | (with_reducible refine Gd_split (fun hc => ?_) (fun hc => ?_) <;> (have hc2 := hc; try simp at hc2)) | (with_reducible refine Br_split (fun hc => ?_) (fun hc => ?_) <;> (have hc2 := hc; try simp at hc2)) | (with_reducible refine GdT_split (fun hc => ?_) (fun hc => ?_) <;> (have hc2 := hc; try simp at hc2)) | (with_reducible refine WT_alt ?_ ?_) | omega)
        refine oc_push (bytes := 40) (r := [.int .i64 os[i].1.kind, .int .i64 os[i].1.len, os[i].2]) hOut ?_ ?_ ?_ (by decide) rfl (by decide)
        · omega
        · simp; omega
        intro o2 g5 hN5 hB5
        have hlo : o ≠ .nils → h.length ≤ o.id := fun q => (hOut.lt q).1
        have mO : ∀ p ∈ os, p.2 ∈ lvs lo os := fun p hp => by unfold lvs; exact List.mem_cons_of_mem _ (List.mem_map.2 ⟨p, hp, rfl⟩)
        have mR : ∀ p ∈ rs, p.2 ∈ lvs r rs := fun p hp => by unfold lvs; exact List.mem_cons_of_mem _ (List.mem_map.2 ⟨p, hp, rfl⟩)
        have hO5 := hO.but hB5 hlo (F1 lo lvs_head).symm (fun p hp => (F1 _ (mO p hp)).symm)
        have hR5 := hR.but hB5 hlo (F3 r lvs_head).symm (fun p hp => (F3 _ (mR p hp)).symm)
        have F15 : ∀ x ∈ lvs lo os, Far o2 x := fun x hx => (hB5.farR (F1 x hx).symm (fun q => (hO.lvs_lt x hx q).2)).symm
        have F35 : ∀ t ∈ lvs r rs, Far o2 t := fun t ht => (hB5.farR (F3 t ht).symm (fun q => (hR.lvs_lt t ht q).2)).symm
        have hk5 := hO5.kept
        have hL5 := hA2.kept hk5
        have hk5l := hk5.1
        clear hO hOut hR F1 F3 hB5 hlo hOA hL1
        obtain ⟨c, g6, h1, h2, h3⟩ := (New.litN (ty := 53) (sz := 1) (Kept.refl g5)).joined (ys := []) (lim := lim) ((hsm.kept hk5).kept (Kept.app g5 _)) (by omega) (by simp; omega)
        rw [List.nil_append] at h2
        have k6 := h2.kept
        have hg6 := k6.1
        obtain ⟨hf0, hf1⟩ := hR5.fresh h2
        have hO6 := hO5.later k6
        have hN6 := hN5.later k6
        have hR6 := hR5.later k6
        have h2' := h2.base hk5
        have fcx : ∀ x ∈ lvs lo os, Far x c := fun x hx => far_fresh h2 (fun q => (hO5.lvs_lt x hx q).2)
        have fco : Far o2 c := far_fresh h2 (fun q => (hN5.lt q).2)
        clear h3 hO5 hN5 hR5 h2
        generalize hy : qs[i].1 = y at *
        have hLr := fun t => hL5.rd1A (t := t) (i := i) hltq
        repeat' (first | (simp (disch := first | omega | assumption | (simp only [List.length_set]; omega) | (simp [*] <;> fail) | assumption) [-Bool.decide_and, -Bool.decide_or, -Bool.not_and, -Bool.not_or, toNat_pred, toNat_succ, wrap64, wr_new, wr_new0, ok_if, ok_ifn, iadV_sl, makeV_int, decT, decF, over_at, *, hL5.len, hL5.at_, hL5.at_', hL5.rd, hL5.rdIn, hL5.rdIn0, hL5.rdA, hL5.rdInA, hL5.rdIn0A, hLr, ssCells, leavesAll, fillL]) | (with_reducible refine Gd_split (fun hc => ?_) (fun hc => ?_) <;> (have hc2 := hc; try simp at hc2)) | (with_reducible refine Br_split (fun hc => ?_) (fun hc => ?_) <;> (have hc2 := hc; try simp at hc2)) | (with_reducible refine GdT_split (fun hc => ?_) (fun hc => ?_) <;> (have hc2 := hc; try simp at hc2)) | (with_reducible refine WT_alt ?_ ?_) | omega)
        refine oc_push (bytes := 24) (r := [c]) hR6.out ?_ ?_ ?_ (by decide) rfl (by decide)
        · omega
        · simp; omega
        intro r2 g7 hN7 hB7
        have hlr : r ≠ .nils → h.length ≤ r.id := fun q => (hR6.out.lt q).1
        have hP := hR6.push (a := y) h2' hf0 hf1 (Kept.refl _) hN7 hB7 rfl
        have hO7 := hO6.but hB7 hlr (F2 lo lvs_head r lvs_head) (fun p hp => F2 _ (mO p hp) r lvs_head)
        have hOut7 := hB7.new hN6 hlr (fun q1 q2 => F35 r lvs_head q2 q1)
        have F27 : ∀ x ∈ lvs lo os, ∀ t ∈ lvs r2 (rs ++ [(y, c)]), Far x t := fun x hx => lvs_snoc (F2 x hx) (hB7.farR (F2 x hx r lvs_head) (fun q => (hO6.lvs_lt x hx q).2)) (fcx x hx)
        have F37 : ∀ t ∈ lvs r2 (rs ++ [(y, c)]), Far o2 t := lvs_snoc F35 (hB7.farR (F35 r lvs_head) (fun q => (hN6.lt q).2)) fco
        clear hR6 hN6 hO6 hB7 hN7
        repeat' (first | (simp (disch := first | omega | assumption | (simp only [List.length_set]; omega) | (simp [*] <;> fail) | assumption) [-Bool.decide_and, -Bool.decide_or, -Bool.not_and, -Bool.not_or, toNat_pred, toNat_succ, wrap64, wr_new, wr_new0, ok_if, ok_ifn, iadV_sl, makeV_int, decT, decF, over_at, *]) | (with_reducible refine Gd_split (fun hc => ?_) (fun hc => ?_) <;> (have hc2 := hc; try simp at hc2)) | (with_reducible refine Br_split (fun hc => ?_) (fun hc => ?_) <;> (have hc2 := hc; try simp at hc2)) | (with_reducible refine GdT_split (fun hc => ?_) (fun hc => ?_) <;> (have hc2 := hc; try simp at hc2)) | (with_reducible refine WT_alt ?_ ?_) | omega)
        exact ⟨by omega, by rw [show skipTo N os (i + 1) = _ from hoE, List.map_append]; exact hOut7, _, hP, by rw [show skipTo N (qs.map (·.1)) (i + 1) = _ from hqH]; simp, F15, F27, F37⟩
    · have : i = os.length := by omega
      subst this
      have hq2 : rs.map (·.1) = (qs.map (·.1)).eraseIdx N := by rw [hq, show os.length = (qs.map (·.1)).length by simp; omega, skipTo_all]
      rw [skipTo_all] at hOut
      have mO : ∀ p ∈ os.eraseIdx N, p.2 ∈ lvs lo os := fun p hp => by unfold lvs; exact List.mem_cons_of_mem _ (List.mem_map.2 ⟨p, List.mem_of_mem_eraseIdx hp, rfl⟩)
      have hE : NewD h g o 43 3 Eff.cells Eff.nums 53 (os.eraseIdx N) := ⟨hOut, fun p hp => hO.inn p (List.mem_of_mem_eraseIdx hp), hO.far.sublist (List.eraseIdx_sublist os N), fun p hp => F1 _ (mO p hp)⟩
      have hk2 := hK _ _ _ _ _ hE hR (by rw [erase_map, ho]) hq2 (fun x hx t ht => by
        unfold lvs at hx
        rcases List.mem_cons.1 hx with rfl | hx
        · exact F3 t ht
        · obtain ⟨p, hp, rfl⟩ := List.mem_map.1 hx
          exact F2 _ (mO p hp) t ht)
      clear hK hq
      repeat' (first | (simp (disch := first | omega | assumption | (simp only [List.length_set]; omega) | (simp [*] <;> fail) | assumption) [-Bool.decide_and, -Bool.decide_or, -Bool.not_and, -Bool.not_or, toNat_pred, toNat_succ, wrap64, wr_new, wr_new0, ok_if, ok_ifn, iadV_sl, makeV_int, decT, decF, over_at, *, hOA.len, hOA.at_, hOA.at_', hOA.rd, hOA.rdIn, hOA.rdIn0, hOA.rdA, hOA.rdInA, hOA.rdIn0A]) | (with_reducible refine Gd_split (fun hc => ?_) (fun hc => ?_) <;> (have hc2 := hc; try simp at hc2)) | (with_reducible refine Br_split (fun hc => ?_) (fun hc => ?_) <;> (have hc2 := hc; try simp at hc2)) | (with_reducible refine GdT_split (fun hc => ?_) (fun hc => ?_) <;> (have hc2 := hc; try simp at hc2)) | (with_reducible refine WT_alt ?_ ?_) | omega)
  · have hk2 := hK .nils .nils [] [] h (NewD.start (Kept.refl _)) (NewD.start (Kept.refl _)) (by unfold woR; rw [if_neg hok]; rfl) (by unfold woR; rw [if_neg hok]; rfl) (fun x _ t ht => by unfold lvs at ht; simp at ht; subst ht; exact Far.nil_right)
    rw [decide_eq_false hok] at hk2
    clear hK
    by_cases k1 : isFit (ps.map (·.1)) (qs.map (·.1))
    · rw [decide_eq_true k1] at hv
      have k2 : ¬ (0 ≤ n ∧ n ≤ (ps.length : Int) - 1) := fun q => hok ⟨k1, q.1, by rw [List.length_map]; exact q.2⟩
      clear hok k1
      refine CallT_of_body (F := L6) (HasWo.f6) rfl ?_; unfold L6; dsimp only []
      repeat' (first | (simp (disch := first | omega | assumption | (simp only [List.length_set]; omega) | (simp [*] <;> fail) | assumption) [-Bool.decide_and, -Bool.decide_or, -Bool.not_and, -Bool.not_or, toNat_pred, toNat_succ, wrap64, wr_new, wr_new0, ok_if, ok_ifn, iadV_sl, makeV_int, decT, decF, over_at, *, hA.len]) | (with_reducible refine Gd_split (fun hc => ?_) (fun hc => ?_) <;> (have hc2 := hc; try simp at hc2)) | (with_reducible refine Br_split (fun hc => ?_) (fun hc => ?_) <;> (have hc2 := hc; try simp at hc2)) | (with_reducible refine GdT_split (fun hc => ?_) (fun hc => ?_) <;> (have hc2 := hc; try simp at hc2)) | (with_reducible refine WT_alt ?_ ?_) | omega)
    · rw [decide_eq_false k1] at hv
      clear hok k1
      refine CallT_of_body (F := L6) (HasWo.f6) rfl ?_; unfold L6; dsimp only []
      repeat' (first | (simp (disch := first | omega | assumption | (simp only [List.length_set]; omega) | (simp [*] <;> fail) | assumption) [-Bool.decide_and, -Bool.decide_or, -Bool.not_and, -Bool.not_or, toNat_pred, toNat_succ, wrap64, wr_new, wr_new0, ok_if, ok_ifn, iadV_sl, makeV_int, decT, decF, over_at, *]) | (with_reducible refine Gd_split (fun hc => ?_) (fun hc => ?_) <;> (have hc2 := hc; try simp at hc2)) | (with_reducible refine Br_split (fun hc => ?_) (fun hc => ?_) <;> (have hc2 := hc; try simp at hc2)) | (with_reducible refine GdT_split (fun hc => ?_) (fun hc => ?_) <;> (have hc2 := hc; try simp at hc2)) | (with_reducible refine WT_alt ?_ ?_) | omega)
end
end Go.E
