/- What a chain makes of samples, the reference's side; RunChain, both sides. -/
import Derived.Test.YteppngjkmejgaaaMEu
set_option linter.unusedVariables false
set_option linter.unusedSimpArgs false
namespace Go.E
open Go
def L28 : LFn := ⟨3, (.seq (.reg [⟨(.some 6), (.mv (.c (.lf .nils))), none⟩, ⟨(.some 7), (.mv (.c (.lf .nils))), none⟩])
 (.seq (.reg [⟨(.some 13), (.lit 50 1 0 [] []), none⟩, ⟨(.some 14), (.mv (.t 2)), none⟩, ⟨(.some 15), (.app 50 1 4 (.t 13) (.t 14)), none⟩, ⟨(.some 8), (.mv (.t 15)), none⟩])
 (.seq (.reg [⟨(.some 16), (.lit 24 1 0 [] []), none⟩, ⟨(.some 9), (.mv (.t 16)), none⟩])
 (.seq (.seq (.reg [⟨(.some 10), (.mv (.c (.lf (.int .i64 0)))), none⟩])
 (.block 0 (.loop (.seq (.seq (.reg [⟨(.some 17), (.mv (.t 10)), none⟩, ⟨(.some 18), (.mv (.t 0)), none⟩, ⟨(.some 19), (.len (.t 18)), none⟩, ⟨(.some 20), (.bin .lss (.t 17) (.t 19)), none⟩])
 (.cond (.t 20) .skip (.exit 0)))
 (.seq (.block 1 (.seq (.reg [⟨(.some 24), (.mv (.t 0)), none⟩, ⟨(.some 25), (.mv (.t 10)), none⟩, ⟨(.some 26), (.iaddr 3 (.t 24) (.t 25)), none⟩, ⟨(.some 27), (.mv (.t 1)), none⟩, ⟨(.some 28), (.mv (.t 10)), none⟩, ⟨(.some 29), (.iaddr 1 (.t 27) (.t 28)), none⟩, ⟨(.some 30), (.load false 1 (.t 29)), none⟩, ⟨(.some 31), (.mv (.t 8)), none⟩, ⟨(.some 32), (.call false 45 [(.t 26), (.t 30), (.t 31)]), none⟩, ⟨(.some 23), (.mv (.t 32)), none⟩, ⟨(.some 33), (.ext (.t 23) 0), none⟩, ⟨(.some 34), (.ext (.t 23) 1), none⟩, ⟨(.some 11), (.mv (.t 33)), none⟩, ⟨(.some 12), (.mv (.t 34)), none⟩])
 (.seq (.reg [⟨(.some 35), (.mv (.t 11)), none⟩, ⟨(.some 8), (.mv (.t 35)), none⟩])
 (.reg [⟨(.some 36), (.mv (.t 9)), none⟩, ⟨(.some 37), (.mv (.t 12)), none⟩, ⟨(.some 38), (.lit 24 1 1 [.nils] [(0, (1, (.t 37)))]), none⟩, ⟨(.some 39), (.app 24 1 24 (.t 36) (.t 38)), none⟩, ⟨(.some 9), (.mv (.t 39)), none⟩]))))
 (.reg [⟨(.some 21), (.mv (.t 10)), none⟩, ⟨(.some 22), (.bin .add (.t 21) (.c (.lf (.int .i64 1)))), none⟩, ⟨(.some 10), (.mv (.t 22)), none⟩]))))))
 (.seq (.reg [⟨(.some 40), (.mv (.t 8)), none⟩, ⟨(.some 41), (.mv (.t 9)), none⟩, ⟨(.some 6), (.mv (.t 40)), none⟩, ⟨(.some 7), (.mv (.t 41)), none⟩])
 .ret))))), [(.tmp 6), (.tmp 7)]⟩
class HasSr (S : Sys) : Prop extends HasEs S, HasCn S where
  f28 : S.fs 28 = some L28
def L16 : LFn := ⟨3, (.seq (.reg [⟨(.some 6), (.mv (.c (.lf .nils))), none⟩, ⟨(.some 7), (.mv (.c (.lf .nils))), none⟩, ⟨(.some 8), (.mv (.c (.lf (.bool false)))), none⟩])
 (.seq (.seq (.reg [⟨(.some 11), (.mv (.t 0)), none⟩, ⟨(.some 12), (.mv (.t 1)), none⟩, ⟨(.some 13), (.call true 39 [(.t 11), (.t 12)]), none⟩, ⟨(.some 14), (.una .not (.t 13)), none⟩, ⟨(.some 15), (.mv (.t 14)), none⟩, ⟨(.some 16), (.mv (.t 2)), (.some (15, false))⟩, ⟨(.some 17), (.call true 40 [(.t 16)]), (.some (15, false))⟩, ⟨(.some 18), (.una .not (.t 17)), (.some (15, false))⟩, ⟨(.some 19), (.pick (.t 15) (.c (.lf (.bool true))) (.t 18)), none⟩])
 (.cond (.t 19) (.seq (.reg [⟨(.some 6), (.mv (.c (.lf .nils))), none⟩, ⟨(.some 7), (.mv (.c (.lf .nils))), none⟩, ⟨(.some 8), (.mv (.c (.lf (.bool false)))), none⟩])
 .ret) .skip))
 (.seq (.reg [⟨(.some 21), (.mv (.t 0)), none⟩, ⟨(.some 22), (.mv (.t 1)), none⟩, ⟨(.some 23), (.mv (.t 2)), none⟩, ⟨(.some 24), (.call false 28 [(.t 21), (.t 22), (.t 23)]), none⟩, ⟨(.some 20), (.mv (.t 24)), none⟩, ⟨(.some 25), (.ext (.t 20) 0), none⟩, ⟨(.some 26), (.ext (.t 20) 1), none⟩, ⟨(.some 9), (.mv (.t 25)), none⟩, ⟨(.some 10), (.mv (.t 26)), none⟩])
 (.seq (.reg [⟨(.some 27), (.mv (.t 9)), none⟩, ⟨(.some 28), (.mv (.t 10)), none⟩, ⟨(.some 6), (.mv (.t 27)), none⟩, ⟨(.some 7), (.mv (.t 28)), none⟩, ⟨(.some 8), (.mv (.c (.lf (.bool true)))), none⟩])
 .ret)))), [(.tmp 6), (.tmp 7), (.tmp 8)]⟩
def L19 : LFn := ⟨3, (.seq (.reg [⟨(.some 6), (.mv (.c (.lf .nils))), none⟩, ⟨(.some 7), (.mv (.c (.lf .nils))), none⟩, ⟨(.some 8), (.mv (.c (.lf (.bool false)))), none⟩])
 (.seq (.seq (.reg [⟨(.some 11), (.mv (.t 0)), none⟩, ⟨(.some 12), (.mv (.t 1)), none⟩, ⟨(.some 13), (.call true 41 [(.t 11), (.t 12)]), none⟩, ⟨(.some 14), (.una .not (.t 13)), none⟩, ⟨(.some 15), (.mv (.t 14)), none⟩, ⟨(.some 16), (.mv (.t 2)), (.some (15, false))⟩, ⟨(.some 17), (.call true 42 [(.t 16)]), (.some (15, false))⟩, ⟨(.some 18), (.una .not (.t 17)), (.some (15, false))⟩, ⟨(.some 19), (.pick (.t 15) (.c (.lf (.bool true))) (.t 18)), none⟩])
 (.cond (.t 19) (.seq (.reg [⟨(.some 6), (.mv (.c (.lf .nils))), none⟩, ⟨(.some 7), (.mv (.c (.lf .nils))), none⟩, ⟨(.some 8), (.mv (.c (.lf (.bool false)))), none⟩])
 .ret) .skip))
 (.seq (.reg [⟨(.some 21), (.mv (.t 0)), none⟩, ⟨(.some 22), (.mv (.t 1)), none⟩, ⟨(.some 23), (.mv (.t 2)), none⟩, ⟨(.some 24), (.call false 33 [(.t 21), (.t 22), (.t 23)]), none⟩, ⟨(.some 20), (.mv (.t 24)), none⟩, ⟨(.some 25), (.ext (.t 20) 0), none⟩, ⟨(.some 26), (.ext (.t 20) 1), none⟩, ⟨(.some 9), (.mv (.t 25)), none⟩, ⟨(.some 10), (.mv (.t 26)), none⟩])
 (.seq (.reg [⟨(.some 27), (.mv (.t 9)), none⟩, ⟨(.some 28), (.mv (.t 10)), none⟩, ⟨(.some 6), (.mv (.t 27)), none⟩, ⟨(.some 7), (.mv (.t 28)), none⟩, ⟨(.some 8), (.mv (.c (.lf (.bool true)))), none⟩])
 .ret)))), [(.tmp 6), (.tmp 7), (.tmp 8)]⟩
class HasRu (S : Sys) : Prop extends HasSr S, HasRc S, HasIs S, HasP S where
  f16 : S.fs 16 = some L16
  f19 : S.fs 19 = some L19
theorem runE_st {e : Eff} {st xs : List Nat} {m : Nat} (hs : st.length ≤ m) (hm : 2 ≤ m) (h0 : e.kind = 2 → 0 < st.length) : (runE e st xs).2.length ≤ m := by
  unfold runE
  split
  · simp
  split
  · simp; omega
  split
  · have := echo_len (n0 := e.nums.getD 0 0) (n1 := e.nums.getD 1 0) (xs := xs) (h0 (by assumption)) (Nat.le_refl _)
    rw [stTo_all] at this
    omega
  split
  · simp; omega
  split
  · simp
  split
  · simp
  · have : (stTo (limS (e.nums.getD 0 0) (e.nums.getD 1 0)) (st.getD 0 0, st.drop 1) xs xs.length).2.length = (st.drop 1).length := stTo_inv (I := fun t : Nat × List Nat => t.2.length = (st.drop 1).length) rfl (fun t x ht _ => by simp [limS]; have : t.2.length = (st.drop 1).length := ht; simpa using this) (Nat.le_refl _)
    rw [stTo_all] at this
    simp at this ⊢
    omega
section
variable {S : Sys} {lim : Nat} {h : Hp} {K : CV → Hp → Prop} {l l2 l3 : Lf}
section
variable [HasEs S] {xs st : List Nat} {id off : Nat}
set_option maxHeartbeats 1000000 in
/-- Whatever the effect. -/
theorem c_effE {e : Eff} (he : effOk e) (hst : (st.length : Int) = stE e.kind e.len) (hk : rdCells h id off 1 = some [.int .i64 e.kind]) (hp : rdCells h id (off + 2) 1 = some [l]) (hA : Arr h l 1 (e.nums.map fl)) (hS : Sm h l2 st) (hsc : ∀ x ∈ st, CF x) (hX : Arr h l3 1 (xs.map fl)) (hx : ∀ x ∈ xs, CF x) (hn : xs.length ≤ 256) (hl : lim ≤ h.length)
    (hK : ∀ o s g, New h g o 50 1 ((runE e st xs).1.map fl) → New h g s 50 1 ((runE e st xs).2.map fl) → Far o s → K (.tup [.lf o, .lf s]) g) : CallT S false 45 [.lf (.ptr id off), .lf l2, .lf l3] h lim K := by
  obtain ⟨k, n, ns⟩ := e
  have hnl := he.len
  have hc := he.2.1
  have h6 := he.2.2
  simp only at hst hA hnl hc h6 hk ⊢
  unfold runE at hK
  simp only at hK
  rcases kinds k with rfl | rfl | rfl | rfl | rfl | rfl | rfl | ⟨k0, k4, k1, k2, k3, k5, k6⟩
  · simp [cntE] at hc
    obtain ⟨a0, rfl⟩ := List.length_eq_one_iff.1 (show ns.length = 1 by omega)
    exact c_eff0 hk hp hA hX hn hl hK
  · simp [cntE] at hc
    obtain ⟨a0, rfl⟩ := List.length_eq_one_iff.1 (show ns.length = 1 by omega)
    exact c_eff4 hk hp hA hX hx hn hl hK
  · simp [cntE] at hc
    simp [stE] at hst
    obtain ⟨a0, a1, a2, a3, a4, rfl⟩ : ∃ a0 a1 a2 a3 a4, ns = [a0, a1, a2, a3, a4] := by
      rcases ns with _ | ⟨a0, _ | ⟨a1, _ | ⟨a2, _ | ⟨a3, _ | ⟨a4, _ | ⟨a5, r⟩⟩⟩⟩⟩⟩ <;> simp at hc
      · exact ⟨_, _, _, _, _, rfl⟩
      · omega
    obtain ⟨s0, s1, rfl⟩ : ∃ s0 s1, st = [s0, s1] := two_of (by omega)
    exact c_eff1 hk hp hA hS.arr (hsc _ (by simp)) (hsc _ (by simp)) hX hx hn hl hK
  · simp [cntE] at hc
    simp [stE] at hst
    obtain ⟨a0, a1, rfl⟩ : ∃ a0 a1, ns = [a0, a1] := two_of (by omega)
    have hw := he.1
    simp at hw
    exact c_eff2 hk hp hA hS (by omega) (by omega) hX hn hl hK
  · simp [cntE] at hc
    simp [stE] at hst
    obtain ⟨a0, a1, a2, a3, rfl⟩ : ∃ a0 a1 a2 a3, ns = [a0, a1, a2, a3] := by
      rcases ns with _ | ⟨a0, _ | ⟨a1, _ | ⟨a2, _ | ⟨a3, _ | ⟨a4, r⟩⟩⟩⟩⟩ <;> simp at hc
      · exact ⟨_, _, _, _, rfl⟩
      · omega
    obtain ⟨s0, rfl⟩ := List.length_eq_one_iff.1 (show st.length = 1 by omega)
    exact c_eff3 hk hp hA hS.arr hX hx hn hl hK
  · exact c_eff5 hk hp hX hn hl hK
  · simp [cntE] at hc
    simp [stE] at hst
    obtain ⟨a0, a1, rfl⟩ : ∃ a0 a1, ns = [a0, a1] := two_of (by omega)
    have hL : limB a0 = true := by simpa using h6 rfl
    exact c_eff6 hk hp hA hL hS (by omega) (by omega) hsc hX hx hn hl hK
  · simp [cntE, k0, k1, k2, k3, k4, k5, k6] at hc
end
variable {xs : List Nat} {ps : List (Eff × Lf)} {qs : List (List Nat × Lf)}
section
variable [HasSr S]
set_option maxHeartbeats 4000000 in
theorem c_l08Run (hL : Arr h l 3 (ps.map Eff.cells)) (hI : In h Eff.nums ps) (hS : Arr h l2 1 (qs.map ssCells)) (hT : Sms h ssRows qs) (hfit : isFit (ps.map (·.1)) (qs.map (·.1))) (hnc : ∀ e ∈ ps.map (·.1), ∀ x ∈ e.nums, CF x) (hsc : ∀ s ∈ qs.map (·.1), ∀ x ∈ s, CF x) (hX : Sm h l3 xs) (hx : ∀ x ∈ xs, CF x) (hn : xs.length ≤ 256) (hl : lim ≤ h.length)
    (hK : ∀ o sg rs g, New h g o 50 1 ((runL (ps.map (·.1)) (qs.map (·.1)) xs).1.map fl) → NewD h g sg 24 1 ssCells ssRows 50 rs → rs.map (·.1) = (runL (ps.map (·.1)) (qs.map (·.1)) xs).2 → (∀ t ∈ lvs sg rs, Far o t) → K (.tup [.lf o, .lf sg]) g) : CallT S false 28 [.lf l, .lf l2, .lf l3] h lim K := by
  have hlen : qs.length = ps.length := by have := hfit.2.1; simpa using this
  have h8 : ps.length ≤ 8 := by have := hfit.1.1; simpa using this
  obtain ⟨x0, g0, i1, i2, i3⟩ := (New.litN (ty := 50) (sz := 1) (Kept.refl h)).joined (ys := []) (lim := lim) (hX.kept (Kept.app _ _)) hl (by simp; omega)
  rw [List.nil_append] at i2
  have hk0 := i2.kept
  have hk01 := hk0.1
  have hL0 := hL.kept hk0
  refine CallT_of_body (F := L28) (HasSr.f28) rfl ?_; unfold L28; dsimp only []
  repeat' (first | (simp (disch := first | omega | assumption | (simp only [List.length_set]; omega) | (simp [*] <;> fail) | assumption) [-Bool.decide_and, -Bool.decide_or, -Bool.not_and, -Bool.not_or, toNat_pred, toNat_succ, wrap64, wr_new, wr_new0, ok_if, ok_ifn, iadV_sl, makeV_int, decT, decF, over_at, *, hL0.len, leavesAll, fillL]) | (with_reducible refine Gd_split (fun hc => ?_) (fun hc => ?_) <;> (have hc2 := hc; try simp at hc2)) | (with_reducible refine Br_split (fun hc => ?_) (fun hc => ?_) <;> (have hc2 := hc; try simp at hc2)) | (with_reducible refine GdT_split (fun hc => ?_) (fun hc => ?_) <;> (have hc2 := hc; try simp at hc2)) | (with_reducible refine WT_alt ?_ ?_) | omega)
  refine WL_forM 1099511504640 (by decide +kernel) (ps.length) (fun i b g => i ≤ ps.length ∧ b 10 = .lf (.int .i64 i) ∧ ∃ o sg rs, b 8 = .lf o ∧ b 9 = .lf sg ∧ New h g o 50 1 ((runTo (ps.map (·.1)) (qs.map (·.1)) xs i).1.map fl) ∧ NewD h g sg 24 1 ssCells ssRows 50 rs ∧ rs.map (·.1) = (runTo (ps.map (·.1)) (qs.map (·.1)) xs i).2 ∧ ∀ t ∈ lvs sg rs, Far o t) (fun _ _ _ hi => hi.1) ⟨by omega, by simp, x0, .sl g0.length 0 0 1, [], by simp, by simp, by rw [runTo_zero]; exact i2.app, NewD.lit hk0, by rw [runTo_zero]; rfl, fun t ht => by simp [lvs] at ht; subst ht; exact far_end i2 (Nat.le_refl _)⟩ ?_
  rintro i b g ⟨hi, e18, o, sg, rs, e8, e9, hO, hD, hr, hf⟩
  have hk := hO.kept
  have hk1 := hk.1
  have hL1 := hL.kept hk
  have hS1 := hS.kept hk
  by_cases hlt : i < ps.length
  · have hlt2 : i < qs.length := by omega
    obtain ⟨k1, k2, k3⟩ := runTo_ok (ss := qs.map (·.1)) (xs := xs) hnc hsc hx (by simpa using hlen) (i := i) (by simpa using hi)
    have hs := runTo_succ (es := ps.map (·.1)) (ss := qs.map (·.1)) (xs := xs) (i := i) (by simpa using hlt) (by simpa using hlt2)
    rw [List.getElem_map, List.getElem_map] at hs
    have he := isCh_get hfit.1 hlt
    have hst : (qs[i].1.length : Int) = stE ps[i].1.kind ps[i].1.len := hfit.2.2 i _ _ (by simp [hlt]) (by simp [hlt2])
    have hqc : ∀ x ∈ qs[i].1, CF x := hsc _ (List.mem_map.2 ⟨qs[i], List.getElem_mem hlt2, rfl⟩)
    generalize runTo (ps.map (·.1)) (qs.map (·.1)) xs i = now at *
    obtain ⟨ys, outs⟩ := now
    simp only at k1 k2 k3 hO hr hs
    have hrl : rs.length = i := by have := congrArg List.length hr; simpa [k3] using this
    have hsH : Hid (runTo (ps.map (·.1)) (qs.map (·.1)) xs (i + 1) = ((runE ps[i].1 qs[i].1 ys).1, outs ++ [(runE ps[i].1 qs[i].1 ys).2])) := hs
    have hrH : Hid (rs.map (·.1) = outs) := hr
    have rk : rdCells g l.id (l.off + i * 3) 1 = some [.int .i64 ps[i].1.kind] := by have := hL1.rdIn0 (i := i) (m := 1) hlt (by omega); simpa [Eff.cells] using this
    have rp : rdCells g l.id (l.off + i * 3 + 2) 1 = some [ps[i].2] := by have := hL1.rdIn (i := i) (j := 2) (m := 1) hlt (by omega); simpa [Eff.cells] using this
    clear hK hs hr i1 i2 i3 hL0
    repeat' (first | (simp (disch := first | omega | assumption | (simp only [List.length_set]; omega) | (simp [*] <;> fail) | assumption) [-Bool.decide_and, -Bool.decide_or, -Bool.not_and, -Bool.not_or, toNat_pred, toNat_succ, wrap64, wr_new, wr_new0, ok_if, ok_ifn, iadV_sl, makeV_int, decT, decF, over_at, *, hL1.len, hL1.at_, hL1.at_', hL1.rd, hL1.rdIn, hL1.rdIn0, hL1.rdA, hL1.rdInA, hL1.rdIn0A, hS1.len, hS1.at_, hS1.at_', hS1.rd, hS1.rdIn, hS1.rdIn0, hS1.rdA, hS1.rdInA, hS1.rdIn0A, hS1.rd1, hS1.rd1A, Eff.cells, ssCells]) | (with_reducible refine Gd_split (fun hc => ?_) (fun hc => ?_) <;> (have hc2 := hc; try simp at hc2)) | (with_reducible refine Br_split (fun hc => ?_) (fun hc => ?_) <;> (have hc2 := hc; try simp at hc2)) | (with_reducible refine GdT_split (fun hc => ?_) (fun hc => ?_) <;> (have hc2 := hc; try simp at hc2)) | (with_reducible refine WT_alt ?_ ?_) | omega)
    refine c_effE he hst rk rp ((hI i hlt).kept hk) ((hT i hlt2).kept hk) hqc hO.arr k2 (by omega) (by omega) fun o2 s2 g2 hO2 hS2 hf2 => ?_
    obtain ⟨z1, z2⟩ := hD.fresh hS2
    obtain ⟨z3, z4⟩ := hD.fresh hO2
    have hE2 := hD.later hO2.kept
    have hO3 := hO2.base hk
    have hS3 := hS2.base hk
    generalize runE ps[i].1 qs[i].1 ys = r at *
    obtain ⟨r1, r2⟩ := r
    simp only at hO3 hS3
    repeat' (first | (simp (disch := first | omega | assumption | (simp only [List.length_set]; omega) | (simp [*] <;> fail) | assumption) [-Bool.decide_and, -Bool.decide_or, -Bool.not_and, -Bool.not_or, toNat_pred, toNat_succ, wrap64, wr_new, wr_new0, ok_if, ok_ifn, iadV_sl, makeV_int, decT, decF, over_at, *, leavesAll, fillL]) | (with_reducible refine Gd_split (fun hc => ?_) (fun hc => ?_) <;> (have hc2 := hc; try simp at hc2)) | (with_reducible refine Br_split (fun hc => ?_) (fun hc => ?_) <;> (have hc2 := hc; try simp at hc2)) | (with_reducible refine GdT_split (fun hc => ?_) (fun hc => ?_) <;> (have hc2 := hc; try simp at hc2)) | (with_reducible refine WT_alt ?_ ?_) | omega)
    refine oc_push (bytes := 24) (r := [s2]) hE2.out ?_ ?_ ?_ (by decide) rfl (by decide)
    · exact hl
    · simp; omega
    intro sg2 g5 hN5 hB5
    have hP := hE2.push (a := r2) hS3 z1 z2 (Kept.refl _) hN5 hB5 rfl
    obtain ⟨hO5, hf5⟩ := hB5.other hE2.out hO3 z3
    clear hE2 hN5 hS3 hO3
    repeat' (first | (simp (disch := first | omega | assumption | (simp only [List.length_set]; omega) | (simp [*] <;> fail) | assumption) [-Bool.decide_and, -Bool.decide_or, -Bool.not_and, -Bool.not_or, toNat_pred, toNat_succ, wrap64, wr_new, wr_new0, ok_if, ok_ifn, iadV_sl, makeV_int, decT, decF, over_at, *]) | (with_reducible refine Gd_split (fun hc => ?_) (fun hc => ?_) <;> (have hc2 := hc; try simp at hc2)) | (with_reducible refine Br_split (fun hc => ?_) (fun hc => ?_) <;> (have hc2 := hc; try simp at hc2)) | (with_reducible refine GdT_split (fun hc => ?_) (fun hc => ?_) <;> (have hc2 := hc; try simp at hc2)) | (with_reducible refine WT_alt ?_ ?_) | omega)
    refine ⟨hlt, ?_, _, hP, ?_, ?_⟩
    · rw [show runTo (ps.map (·.1)) (qs.map (·.1)) xs (i + 1) = _ from hsH]; exact hO5
    · rw [show runTo (ps.map (·.1)) (qs.map (·.1)) xs (i + 1) = _ from hsH, List.map_append, show rs.map (·.1) = outs from hrH]; rfl
    · intro t ht
      unfold lvs at ht
      rcases List.mem_cons.1 ht with rfl | ht
      · exact hf5.symm
      · rw [List.map_append] at ht
        rcases List.mem_append.1 ht with ht | ht
        · obtain ⟨p, hp, rfl⟩ := List.mem_map.1 ht
          exact (z4 p hp).symm
        · simp at ht; subst ht; exact hf2
  · have : i = ps.length := by omega
    subst this
    have hk2 := hK o sg rs g (by unfold runL; rw [List.length_map]; exact hO) hD (by unfold runL; rw [List.length_map]; exact hr) hf
    clear hK
    repeat' (first | (simp (disch := first | omega | assumption | (simp only [List.length_set]; omega) | (simp [*] <;> fail) | assumption) [-Bool.decide_and, -Bool.decide_or, -Bool.not_and, -Bool.not_or, toNat_pred, toNat_succ, wrap64, wr_new, wr_new0, ok_if, ok_ifn, iadV_sl, makeV_int, decT, decF, over_at, *, hL1.len]) | (with_reducible refine Gd_split (fun hc => ?_) (fun hc => ?_) <;> (have hc2 := hc; try simp at hc2)) | (with_reducible refine Br_split (fun hc => ?_) (fun hc => ?_) <;> (have hc2 := hc; try simp at hc2)) | (with_reducible refine GdT_split (fun hc => ?_) (fun hc => ?_) <;> (have hc2 := hc; try simp at hc2)) | (with_reducible refine WT_alt ?_ ?_) | omega)
end
def okRc (es : List Eff) (ss : List (List Nat)) (n : Nat) : Prop := isFit es ss ∧ n ≤ 256
noncomputable instance (es : List Eff) (ss : List (List Nat)) (n : Nat) : Decidable (okRc es ss n) := Classical.propDecidable _
noncomputable def rcR (es : List Eff) (ss : List (List Nat)) (xs : List Nat) : List Nat × List (List Nat) := if okRc es ss xs.length then runL es ss xs else ([], [])
theorem runTo_st {es : List Eff} {ss : List (List Nat)} {xs : List Nat} (hfit : isFit es ss) : ∀ {i : Nat}, i ≤ es.length → ∀ s ∈ (runTo es ss xs i).2, s.length ≤ 33
  | 0, _ => by rw [runTo_zero]; intro s hs; simp at hs
  | i + 1, hi => by
    intro s hs
    have hl := hfit.2.1
    rw [runTo_succ (by omega) (by omega)] at hs
    rcases List.mem_append.1 hs with hs | hs
    · exact runTo_st hfit (by omega) s hs
    · simp only [List.mem_singleton] at hs
      subst hs
      have he := hfit.1.2 es[i] (List.getElem_mem (by omega))
      have hq := hfit.2.2 i es[i] ss[i] (by simp) (by simp)
      have h1 := stL_len he
      have h2 := stL_le he
      refine runE_st (by omega) (by omega) fun h2 => ?_
      have := he.1
      rw [h2] at this hq
      simp [stE] at this hq
      omega
theorem runTo_sts {es : List Eff} {ss : List (List Nat)} {xs : List Nat} (h : ss.length = es.length) : ∀ {i : Nat}, i ≤ es.length → (runTo es ss xs i).2.length = i ∧ (runTo es ss xs i).1.length = xs.length
  | 0, _ => by rw [runTo_zero]; exact ⟨rfl, rfl⟩
  | i + 1, hi => by
    rw [runTo_succ (by omega) (by omega)]
    obtain ⟨a, b⟩ := runTo_sts (xs := xs) h (i := i) (by omega)
    exact ⟨by simp [a], by simp only []; rw [runE_len]; exact b⟩
theorem rcR_small {es : List Eff} {ss : List (List Nat)} {xs : List Nat} : (rcR es ss xs).1.length ≤ 256 ∧ (rcR es ss xs).2.length ≤ 8 ∧ ∀ s ∈ (rcR es ss xs).2, s.length ≤ 33 := by
  unfold rcR
  split
  · rename_i hok
    obtain ⟨a, b⟩ := runTo_sts (es := es) (xs := xs) hok.1.2.1 (Nat.le_refl _)
    have := hok.1.1.1
    unfold runL
    exact ⟨by rw [b]; exact hok.2, by rw [a]; omega, runTo_st hok.1 (Nat.le_refl _)⟩
  · simp
section
variable [HasRu S]
set_option maxHeartbeats 2000000 in
theorem c_specRunChain (hL : Arr h l 3 (ps.map Eff.cells)) (hI : In h Eff.nums ps) (hS : Arr h l2 1 (qs.map ssCells)) (hT : Sms h ssRows qs) (hT2 : In h ssRows qs) (hnc : ∀ e ∈ ps.map (·.1), ∀ x ∈ e.nums, CF x) (hsc : ∀ s ∈ qs.map (·.1), ∀ x ∈ s, CF x) (hX : Sm h l3 xs) (hx : ∀ x ∈ xs, CF x) (hl : lim ≤ h.length)
    (hK : ∀ o sg rs g, New h g o 50 1 ((rcR (ps.map (·.1)) (qs.map (·.1)) xs).1.map fl) → NewD h g sg 24 1 ssCells ssRows 50 rs → rs.map (·.1) = (rcR (ps.map (·.1)) (qs.map (·.1)) xs).2 → (∀ t ∈ lvs sg rs, Far o t) → K (.tup [.lf o, .lf sg, .lf (.bool (decide (okRc (ps.map (·.1)) (qs.map (·.1)) xs.length)))]) g) : CallT S false 16 [.lf l, .lf l2, .lf l3] h lim K := by
  have hc := fun lim K => c_l08Fit (S := S) (lim := lim) (K := K) hL hI hS hT2
  have hf := fun lim K => c_l01Few (S := S) (lim := lim) (K := K) hX.arr
  by_cases hok : okRc (ps.map (·.1)) (qs.map (·.1)) xs.length
  · unfold rcR at hK
    rw [if_pos hok, decide_eq_true hok] at hK
    rw [decide_eq_true hok.1] at hc
    rw [decide_eq_true (show (xs.length : Int) ≤ 256 by have := hok.2; omega)] at hf
    obtain ⟨k1, k2⟩ := hok
    have hrun := fun K => c_l08Run (S := S) (lim := lim) (K := K) hL hI hS hT k1 hnc hsc hX hx k2 hl
    clear k1
    refine CallT_of_body (F := L16) (HasRu.f16) rfl ?_; unfold L16; dsimp only []
    repeat' (first | (simp (disch := first | omega | assumption | (simp only [List.length_set]; omega) | (simp [*] <;> fail) | assumption) [-Bool.decide_and, -Bool.decide_or, -Bool.not_and, -Bool.not_or, toNat_pred, toNat_succ, wrap64, wr_new, wr_new0, ok_if, ok_ifn, iadV_sl, makeV_int, decT, decF, over_at, *]) | (with_reducible refine Gd_split (fun hc => ?_) (fun hc => ?_) <;> (have hc2 := hc; try simp at hc2)) | (with_reducible refine Br_split (fun hc => ?_) (fun hc => ?_) <;> (have hc2 := hc; try simp at hc2)) | (with_reducible refine GdT_split (fun hc => ?_) (fun hc => ?_) <;> (have hc2 := hc; try simp at hc2)) | (with_reducible refine WT_alt ?_ ?_) | omega)
    refine hrun _ fun o sg rs g h1 h2 h3 h4 => ?_
    have hk2 := hK o sg rs g h1 h2 h3 h4
    clear hK hrun h3
    repeat' (first | (simp (disch := first | omega | assumption | (simp only [List.length_set]; omega) | (simp [*] <;> fail) | assumption) [-Bool.decide_and, -Bool.decide_or, -Bool.not_and, -Bool.not_or, toNat_pred, toNat_succ, wrap64, wr_new, wr_new0, ok_if, ok_ifn, iadV_sl, makeV_int, decT, decF, over_at, *]) | (with_reducible refine Gd_split (fun hc => ?_) (fun hc => ?_) <;> (have hc2 := hc; try simp at hc2)) | (with_reducible refine Br_split (fun hc => ?_) (fun hc => ?_) <;> (have hc2 := hc; try simp at hc2)) | (with_reducible refine GdT_split (fun hc => ?_) (fun hc => ?_) <;> (have hc2 := hc; try simp at hc2)) | (with_reducible refine WT_alt ?_ ?_) | omega)
  · have hk2 := hK .nils .nils [] h (by unfold rcR; rw [if_neg hok]; exact New.nil (Kept.refl h)) (NewD.start (Kept.refl h)) (by unfold rcR; rw [if_neg hok]; rfl) (fun t ht => Far.nil_left)
    rw [decide_eq_false hok] at hk2
    clear hK
    by_cases k1 : isFit (ps.map (·.1)) (qs.map (·.1))
    · have k2 : ¬ ((xs.length : Int) ≤ 256) := fun q => hok ⟨k1, by omega⟩
      rw [decide_eq_true k1] at hc
      rw [decide_eq_false k2] at hf
      clear hok k1
      refine CallT_of_body (F := L16) (HasRu.f16) rfl ?_; unfold L16; dsimp only []
      repeat' (first | (simp (disch := first | omega | assumption | (simp only [List.length_set]; omega) | (simp [*] <;> fail) | assumption) [-Bool.decide_and, -Bool.decide_or, -Bool.not_and, -Bool.not_or, toNat_pred, toNat_succ, wrap64, wr_new, wr_new0, ok_if, ok_ifn, iadV_sl, makeV_int, decT, decF, over_at, *]) | (with_reducible refine Gd_split (fun hc => ?_) (fun hc => ?_) <;> (have hc2 := hc; try simp at hc2)) | (with_reducible refine Br_split (fun hc => ?_) (fun hc => ?_) <;> (have hc2 := hc; try simp at hc2)) | (with_reducible refine GdT_split (fun hc => ?_) (fun hc => ?_) <;> (have hc2 := hc; try simp at hc2)) | (with_reducible refine WT_alt ?_ ?_) | omega)
    · rw [decide_eq_false k1] at hc
      clear hok k1
      refine CallT_of_body (F := L16) (HasRu.f16) rfl ?_; unfold L16; dsimp only []
      repeat' (first | (simp (disch := first | omega | assumption | (simp only [List.length_set]; omega) | (simp [*] <;> fail) | assumption) [-Bool.decide_and, -Bool.decide_or, -Bool.not_and, -Bool.not_or, toNat_pred, toNat_succ, wrap64, wr_new, wr_new0, ok_if, ok_ifn, iadV_sl, makeV_int, decT, decF, over_at, *]) | (with_reducible refine Gd_split (fun hc => ?_) (fun hc => ?_) <;> (have hc2 := hc; try simp at hc2)) | (with_reducible refine Br_split (fun hc => ?_) (fun hc => ?_) <;> (have hc2 := hc; try simp at hc2)) | (with_reducible refine GdT_split (fun hc => ?_) (fun hc => ?_) <;> (have hc2 := hc; try simp at hc2)) | (with_reducible refine WT_alt ?_ ?_) | omega)
set_option maxHeartbeats 2000000 in
theorem c_implRunChain (hL : Arr h l 3 (ps.map Eff.cells)) (hI : In h Eff.nums ps) (hS : Arr h l2 1 (qs.map ssCells)) (hT : Sms h ssRows qs) (hT2 : In h ssRows qs) (hnc : ∀ e ∈ ps.map (·.1), ∀ x ∈ e.nums, CF x) (hsc : ∀ s ∈ qs.map (·.1), ∀ x ∈ s, CF x) (hX : Sm h l3 xs) (hx : ∀ x ∈ xs, CF x) (hl : lim ≤ h.length)
    (hK : ∀ o sg rs g, New h g o 50 1 ((rcR (ps.map (·.1)) (qs.map (·.1)) xs).1.map fl) → NewD h g sg 24 1 ssCells ssRows 50 rs → rs.map (·.1) = (rcR (ps.map (·.1)) (qs.map (·.1)) xs).2 → (∀ t ∈ lvs sg rs, Far o t) → K (.tup [.lf o, .lf sg, .lf (.bool (decide (okRc (ps.map (·.1)) (qs.map (·.1)) xs.length)))]) g) : CallT S false 19 [.lf l, .lf l2, .lf l3] h lim K := by
  have hc := fun lim K => c_implIsState (S := S) (lim := lim) (K := K) hL hI hS hT2
  have hf := fun lim K => c_areSamples (S := S) (lim := lim) (K := K) hX.arr
  by_cases hok : okRc (ps.map (·.1)) (qs.map (·.1)) xs.length
  · unfold rcR at hK
    rw [if_pos hok, decide_eq_true hok] at hK
    rw [decide_eq_true hok.1] at hc
    rw [decide_eq_true (show (xs.length : Int) ≤ 256 by have := hok.2; omega)] at hf
    obtain ⟨k1, k2⟩ := hok
    have hrun := fun K => c_runChain (S := S) (lim := lim) (K := K) hL hI hS hT k1 hnc hsc hX hx k2 hl
    clear k1
    refine CallT_of_body (F := L19) (HasRu.f19) rfl ?_; unfold L19; dsimp only []
    repeat' (first | (simp (disch := first | omega | assumption | (simp only [List.length_set]; omega) | (simp [*] <;> fail) | assumption) [-Bool.decide_and, -Bool.decide_or, -Bool.not_and, -Bool.not_or, toNat_pred, toNat_succ, wrap64, wr_new, wr_new0, ok_if, ok_ifn, iadV_sl, makeV_int, decT, decF, over_at, *]) | (with_reducible refine Gd_split (fun hc => ?_) (fun hc => ?_) <;> (have hc2 := hc; try simp at hc2)) | (with_reducible refine Br_split (fun hc => ?_) (fun hc => ?_) <;> (have hc2 := hc; try simp at hc2)) | (with_reducible refine GdT_split (fun hc => ?_) (fun hc => ?_) <;> (have hc2 := hc; try simp at hc2)) | (with_reducible refine WT_alt ?_ ?_) | omega)
    refine hrun _ fun o sg rs g h1 h2 h3 h4 => ?_
    have hk2 := hK o sg rs g h1 h2 h3 h4
    clear hK hrun h3
    repeat' (first | (simp (disch := first | omega | assumption | (simp only [List.length_set]; omega) | (simp [*] <;> fail) | assumption) [-Bool.decide_and, -Bool.decide_or, -Bool.not_and, -Bool.not_or, toNat_pred, toNat_succ, wrap64, wr_new, wr_new0, ok_if, ok_ifn, iadV_sl, makeV_int, decT, decF, over_at, *]) | (with_reducible refine Gd_split (fun hc => ?_) (fun hc => ?_) <;> (have hc2 := hc; try simp at hc2)) | (with_reducible refine Br_split (fun hc => ?_) (fun hc => ?_) <;> (have hc2 := hc; try simp at hc2)) | (with_reducible refine GdT_split (fun hc => ?_) (fun hc => ?_) <;> (have hc2 := hc; try simp at hc2)) | (with_reducible refine WT_alt ?_ ?_) | omega)
  · have hk2 := hK .nils .nils [] h (by unfold rcR; rw [if_neg hok]; exact New.nil (Kept.refl h)) (NewD.start (Kept.refl h)) (by unfold rcR; rw [if_neg hok]; rfl) (fun t ht => Far.nil_left)
    rw [decide_eq_false hok] at hk2
    clear hK
    by_cases k1 : isFit (ps.map (·.1)) (qs.map (·.1))
    · have k2 : ¬ ((xs.length : Int) ≤ 256) := fun q => hok ⟨k1, by omega⟩
      rw [decide_eq_true k1] at hc
      rw [decide_eq_false k2] at hf
      clear hok k1
      refine CallT_of_body (F := L19) (HasRu.f19) rfl ?_; unfold L19; dsimp only []
      repeat' (first | (simp (disch := first | omega | assumption | (simp only [List.length_set]; omega) | (simp [*] <;> fail) | assumption) [-Bool.decide_and, -Bool.decide_or, -Bool.not_and, -Bool.not_or, toNat_pred, toNat_succ, wrap64, wr_new, wr_new0, ok_if, ok_ifn, iadV_sl, makeV_int, decT, decF, over_at, *]) | (with_reducible refine Gd_split (fun hc => ?_) (fun hc => ?_) <;> (have hc2 := hc; try simp at hc2)) | (with_reducible refine Br_split (fun hc => ?_) (fun hc => ?_) <;> (have hc2 := hc; try simp at hc2)) | (with_reducible refine GdT_split (fun hc => ?_) (fun hc => ?_) <;> (have hc2 := hc; try simp at hc2)) | (with_reducible refine WT_alt ?_ ?_) | omega)
    · rw [decide_eq_false k1] at hc
      clear hok k1
      refine CallT_of_body (F := L19) (HasRu.f19) rfl ?_; unfold L19; dsimp only []
      repeat' (first | (simp (disch := first | omega | assumption | (simp only [List.length_set]; omega) | (simp [*] <;> fail) | assumption) [-Bool.decide_and, -Bool.decide_or, -Bool.not_and, -Bool.not_or, toNat_pred, toNat_succ, wrap64, wr_new, wr_new0, ok_if, ok_ifn, iadV_sl, makeV_int, decT, decF, over_at, *]) | (with_reducible refine Gd_split (fun hc => ?_) (fun hc => ?_) <;> (have hc2 := hc; try simp at hc2)) | (with_reducible refine Br_split (fun hc => ?_) (fun hc => ?_) <;> (have hc2 := hc; try simp at hc2)) | (with_reducible refine GdT_split (fun hc => ?_) (fun hc => ?_) <;> (have hc2 := hc; try simp at hc2)) | (with_reducible refine WT_alt ?_ ?_) | omega)
end
end
end Go.E
