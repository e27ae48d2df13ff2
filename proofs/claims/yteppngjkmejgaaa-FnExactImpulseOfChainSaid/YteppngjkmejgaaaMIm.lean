/- The impulse of a chain, both sides. -/
import Derived.Test.YteppngjkmejgaaaMSr
import Derived.Test.YteppngjkmejgaaaMNs
set_option linter.unusedVariables false
set_option linter.unusedSimpArgs false
namespace Go.E
open Go
def L32 : LFn := ⟨1, (.seq (.reg [⟨(.some 2), (.mv (.c (.lf (.bool false)))), none⟩])
 (.seq (.reg [⟨(.some 3), (.mv (.t 0)), none⟩, ⟨(.some 4), (.call true 48 [(.t 3), (.c (.lf (.int .i64 0))), (.c (.lf (.int .i64 256)))]), none⟩, ⟨(.some 2), (.mv (.t 4)), none⟩])
 .ret)), [(.tmp 2)]⟩
def L7 : LFn := ⟨2, (.seq (.reg [⟨(.some 4), (.mv (.c (.lf .nils))), none⟩, ⟨(.some 5), (.mv (.c (.lf (.bool false)))), none⟩])
 (.seq (.seq (.reg [⟨(.some 9), (.mv (.t 0)), none⟩, ⟨(.some 10), (.call true 26 [(.t 9)]), none⟩, ⟨(.some 11), (.una .not (.t 10)), none⟩, ⟨(.some 12), (.mv (.t 11)), none⟩, ⟨(.some 13), (.mv (.t 1)), (.some (12, false))⟩, ⟨(.some 14), (.call true 27 [(.t 13), (.c (.lf (.int .i64 0))), (.c (.lf (.int .i64 256)))]), (.some (12, false))⟩, ⟨(.some 15), (.una .not (.t 14)), (.some (12, false))⟩, ⟨(.some 16), (.pick (.t 12) (.c (.lf (.bool true))) (.t 15)), none⟩])
 (.cond (.t 16) (.seq (.reg [⟨(.some 4), (.mv (.c (.lf .nils))), none⟩, ⟨(.some 5), (.mv (.c (.lf (.bool false)))), none⟩])
 .ret) .skip))
 (.seq (.reg [⟨(.some 17), (.mv (.t 1)), none⟩, ⟨(.some 18), (.make 50 1 4 [(.flt .f32 0)] (.t 17) (.t 17)), none⟩, ⟨(.some 6), (.mv (.t 18)), none⟩])
 (.seq (.seq (.reg [⟨(.some 19), (.mv (.t 1)), none⟩, ⟨(.some 20), (.bin .gtr (.t 19) (.c (.lf (.int .i64 0)))), none⟩])
 (.cond (.t 20) (.reg [⟨(.some 21), (.mv (.t 6)), none⟩, ⟨(.some 22), (.iaddr 1 (.t 21) (.c (.lf (.int .i64 0)))), none⟩, ⟨none, (.store 1 (.t 22) (.c (.lf (.flt .f32 1065353216)))), none⟩]) .skip))
 (.seq (.reg [⟨(.some 24), (.mv (.t 0)), none⟩, ⟨(.some 25), (.mv (.t 0)), none⟩, ⟨(.some 26), (.call false 29 [(.t 25)]), none⟩, ⟨(.some 27), (.mv (.t 6)), none⟩, ⟨(.some 28), (.call false 28 [(.t 24), (.t 26), (.t 27)]), none⟩, ⟨(.some 23), (.mv (.t 28)), none⟩, ⟨(.some 29), (.ext (.t 23) 0), none⟩, ⟨(.some 30), (.ext (.t 23) 1), none⟩, ⟨(.some 7), (.mv (.t 29)), none⟩, ⟨(.some 8), (.mv (.t 30)), none⟩])
 (.seq (.reg [⟨(.some 31), (.mv (.t 7)), none⟩, ⟨(.some 4), (.mv (.t 31)), none⟩, ⟨(.some 5), (.mv (.c (.lf (.bool true)))), none⟩])
 .ret)))))), [(.tmp 4), (.tmp 5)]⟩
def L9 : LFn := ⟨2, (.seq (.reg [⟨(.some 4), (.mv (.c (.lf .nils))), none⟩, ⟨(.some 5), (.mv (.c (.lf (.bool false)))), none⟩])
 (.seq (.seq (.reg [⟨(.some 8), (.mv (.t 0)), none⟩, ⟨(.some 9), (.call true 31 [(.t 8)]), none⟩, ⟨(.some 10), (.una .not (.t 9)), none⟩, ⟨(.some 11), (.mv (.t 10)), none⟩, ⟨(.some 12), (.mv (.t 1)), (.some (11, false))⟩, ⟨(.some 13), (.call true 32 [(.t 12)]), (.some (11, false))⟩, ⟨(.some 14), (.una .not (.t 13)), (.some (11, false))⟩, ⟨(.some 15), (.pick (.t 11) (.c (.lf (.bool true))) (.t 14)), none⟩])
 (.cond (.t 15) (.seq (.reg [⟨(.some 4), (.mv (.c (.lf .nils))), none⟩, ⟨(.some 5), (.mv (.c (.lf (.bool false)))), none⟩])
 .ret) .skip))
 (.seq (.reg [⟨(.some 17), (.mv (.t 0)), none⟩, ⟨(.some 18), (.mv (.t 0)), none⟩, ⟨(.some 19), (.call false 34 [(.t 18)]), none⟩, ⟨(.some 20), (.mv (.t 1)), none⟩, ⟨(.some 21), (.call false 35 [(.t 20)]), none⟩, ⟨(.some 22), (.call false 33 [(.t 17), (.t 19), (.t 21)]), none⟩, ⟨(.some 16), (.mv (.t 22)), none⟩, ⟨(.some 23), (.ext (.t 16) 0), none⟩, ⟨(.some 24), (.ext (.t 16) 1), none⟩, ⟨(.some 6), (.mv (.t 23)), none⟩, ⟨(.some 7), (.mv (.t 24)), none⟩])
 (.seq (.reg [⟨(.some 25), (.mv (.t 6)), none⟩, ⟨(.some 4), (.mv (.t 25)), none⟩, ⟨(.some 5), (.mv (.c (.lf (.bool true)))), none⟩])
 .ret)))), [(.tmp 4), (.tmp 5)]⟩
class HasIm (S : Sys) : Prop extends HasSr S, HasRc S, HasNs S, HasIe S where
  f32 : S.fs 32 = some L32
  f7 : S.fs 7 = some L7
  f9 : S.fs 9 = some L9
def imp (n : Nat) : List Nat := (List.replicate n 0).set 0 1065353216
theorem imp_len {n : Nat} : (imp n).length = n := by simp [imp]
theorem CF_one : CF 1065353216 := by refine ⟨by decide, ?_⟩; decide +kernel
theorem imp_CF {n : Nat} : ∀ x ∈ imp n, CF x := by
  intro x hx
  rcases List.mem_or_eq_of_mem_set hx with h1 | h1
  · rw [(List.mem_replicate.1 h1).2]; exact CF_0
  · rw [h1]; exact CF_one
theorem imp_pos {n : Nat} (h : 0 < n) : imp n = 1065353216 :: List.replicate (n - 1) 0 := by
  obtain ⟨k, rfl⟩ : ∃ k, n = k + 1 := ⟨n - 1, by omega⟩
  simp [imp, List.replicate_succ]
theorem imp_not {n : Nat} (h : ¬ 0 < n) : imp n = List.replicate n 0 := by
  have : n = 0 := by omega
  subst this; rfl
theorem stL_CF {e : Eff} : ∀ x ∈ stL e, CF x := by
  intro x hx
  unfold stL at hx
  repeat' split at hx
  all_goals first
    | (rw [(List.mem_replicate.1 hx).2]; exact CF_0)
    | (rcases List.mem_cons.1 hx with h1 | h1
       · rw [h1]; exact CF_one
       · rw [(List.mem_replicate.1 h1).2]; exact CF_0)
    | (simp at hx)
theorem stL_fit {es : List Eff} (hc : isCh es) : isFit es (es.map stL) := by
  refine ⟨hc, by simp, fun i e s he hs => ?_⟩
  rw [List.getElem?_map, he] at hs
  simp only [Option.map_some, Option.some.injEq] at hs
  subst hs
  exact stL_len (hc.2 e (List.mem_of_getElem? he))
def okIm (es : List Eff) (n : Int) : Prop := isCh es ∧ 0 ≤ n ∧ n ≤ 256
noncomputable instance (es : List Eff) (n : Int) : Decidable (okIm es n) := Classical.propDecidable _
noncomputable def imR (es : List Eff) (n : Int) : List Nat := if okIm es n then (runL es (es.map stL) (imp n.toNat)).1 else []
theorem imR_len {es : List Eff} {n : Int} : (imR es n).length ≤ 256 := by
  unfold imR
  split
  · rename_i hok
    obtain ⟨a, b⟩ := runTo_sts (es := es) (ss := es.map stL) (xs := imp n.toNat) (by simp) (Nat.le_refl _)
    unfold runL
    rw [b, imp_len]
    have := hok.2.2
    omega
  · simp
section
variable {S : Sys} {lim : Nat} {h : Hp} {K : CV → Hp → Prop} {l : Lf} {ps : List (Eff × Lf)}
section
variable [HasIe S]
theorem c_impulse {n : Nat} (hn : n ≤ 256) (hl : lim ≤ h.length) (hK : ∀ l' g, New h g l' 50 1 ((imp n).map fl) → K (.lf l') g) : CallT S false 35 [.lf (.int .i64 n)] h lim K := by
  refine CallT_of_body (F := L35) (HasIe.f35) rfl ?_; unfold L35; dsimp only []
  repeat' (first | (simp (disch := first | omega | assumption | (simp only [List.length_set]; omega) | (simp [*] <;> fail) | assumption) [-Bool.decide_and, -Bool.decide_or, -Bool.not_and, -Bool.not_or, toNat_pred, toNat_succ, wrap64, wr_new, wr_new0, ok_if, ok_ifn, iadV_sl, makeV_int, decT, decF, over_at, *]) | (with_reducible refine Gd_split (fun hc => ?_) (fun hc => ?_) <;> (have hc2 := hc; try simp at hc2)) | (with_reducible refine Br_split (fun hc => ?_) (fun hc => ?_) <;> (have hc2 := hc; try simp at hc2)) | (with_reducible refine GdT_split (fun hc => ?_) (fun hc => ?_) <;> (have hc2 := hc; try simp at hc2)) | (with_reducible refine WT_alt ?_ ?_) | omega)
  refine c_zeros (by omega) hl fun l g hN => ?_
  have hC := hN.arr
  by_cases h0 : 0 < n
  · repeat' (first | (simp (disch := first | omega | assumption | (simp only [List.length_set]; omega) | (simp [*] <;> fail) | assumption) [-Bool.decide_and, -Bool.decide_or, -Bool.not_and, -Bool.not_or, toNat_pred, toNat_succ, wrap64, wr_new, wr_new0, ok_if, ok_ifn, iadV_sl, makeV_int, decT, decF, over_at, *, hC.at0, hC.rd0, hC.rd0j, hC.rd0A, hC.rd0jA]) | (with_reducible refine Gd_split (fun hc => ?_) (fun hc => ?_) <;> (have hc2 := hc; try simp at hc2)) | (with_reducible refine Br_split (fun hc => ?_) (fun hc => ?_) <;> (have hc2 := hc; try simp at hc2)) | (with_reducible refine GdT_split (fun hc => ?_) (fun hc => ?_) <;> (have hc2 := hc; try simp at hc2)) | (with_reducible refine WT_alt ?_ ?_) | omega)
    refine oc_wr (i := 0) hN (by simp; omega) hl fun g' hN' hB => ?_
    repeat' (first | (simp (disch := first | omega | assumption | (simp only [List.length_set]; omega) | (simp [*] <;> fail) | assumption) [-Bool.decide_and, -Bool.decide_or, -Bool.not_and, -Bool.not_or, toNat_pred, toNat_succ, wrap64, wr_new, wr_new0, ok_if, ok_ifn, iadV_sl, makeV_int, decT, decF, over_at, *]) | (with_reducible refine Gd_split (fun hc => ?_) (fun hc => ?_) <;> (have hc2 := hc; try simp at hc2)) | (with_reducible refine Br_split (fun hc => ?_) (fun hc => ?_) <;> (have hc2 := hc; try simp at hc2)) | (with_reducible refine GdT_split (fun hc => ?_) (fun hc => ?_) <;> (have hc2 := hc; try simp at hc2)) | (with_reducible refine WT_alt ?_ ?_) | omega)
    rw [fl_set] at hN'
    exact hK _ _ hN'
  · repeat' (first | (simp (disch := first | omega | assumption | (simp only [List.length_set]; omega) | (simp [*] <;> fail) | assumption) [-Bool.decide_and, -Bool.decide_or, -Bool.not_and, -Bool.not_or, toNat_pred, toNat_succ, wrap64, wr_new, wr_new0, ok_if, ok_ifn, iadV_sl, makeV_int, decT, decF, over_at, *]) | (with_reducible refine Gd_split (fun hc => ?_) (fun hc => ?_) <;> (have hc2 := hc; try simp at hc2)) | (with_reducible refine Br_split (fun hc => ?_) (fun hc => ?_) <;> (have hc2 := hc; try simp at hc2)) | (with_reducible refine GdT_split (fun hc => ?_) (fun hc => ?_) <;> (have hc2 := hc; try simp at hc2)) | (with_reducible refine WT_alt ?_ ?_) | omega)
    exact hK _ _ (by have : n = 0 := by omega
                     subst this; simpa [imp] using hN)
end
section
variable [HasIm S]
@[simp] theorem c_isCount {x : Int} : CallT S true 32 [.lf (.int .i64 x)] h lim K = K (.lf (.bool (decide (0 ≤ x ∧ x ≤ 256)))) h := by
  refine CallT_pure (F := L32) (HasIm.f32) rfl (by first | rfl | (split <;> rfl) | simp) ?_; unfold L32; dsimp only []
  repeat' (first | (simp (disch := first | omega | assumption | (simp only [List.length_set]; omega) | (simp [*] <;> fail) | assumption) [-Bool.decide_and, -Bool.decide_or, -Bool.not_and, -Bool.not_or, toNat_pred, toNat_succ, wrap64, wr_new, wr_new0, ok_if, ok_ifn, iadV_sl, makeV_int, decT, decF, over_at, *]) | (with_reducible refine Gd_split (fun hc => ?_) (fun hc => ?_) <;> (have hc2 := hc; try simp at hc2)) | (with_reducible refine Br_split (fun hc => ?_) (fun hc => ?_) <;> (have hc2 := hc; try simp at hc2)) | (with_reducible refine GdT_split (fun hc => ?_) (fun hc => ?_) <;> (have hc2 := hc; try simp at hc2)) | (with_reducible refine WT_alt ?_ ?_) | omega)
set_option maxHeartbeats 4000000 in
theorem c_specImpulseOfChain {c : Int} (hL : Arr h l 3 (ps.map Eff.cells)) (hI : In h Eff.nums ps) (hnc : ∀ e ∈ ps.map (·.1), ∀ x ∈ e.nums, CF x) (hl : lim ≤ h.length)
    (hK : ∀ o g, New h g o 50 1 ((imR (ps.map (·.1)) c).map fl) → K (.tup [.lf o, .lf (.bool (decide (okIm (ps.map (·.1)) c)))]) g) : CallT S false 7 [.lf l, .lf (.int .i64 c)] h lim K := by
  have hc := fun lim K => c_l08Is (S := S) (lim := lim) (K := K) hL hI
  by_cases hok : okIm (ps.map (·.1)) c
  · unfold imR at hK
    rw [if_pos hok, decide_eq_true hok] at hK
    obtain ⟨hch, h0, h1⟩ := hok
    rw [decide_eq_true hch] at hc
    obtain ⟨n, rfl⟩ := Int.eq_ofNat_of_zero_le h0
    rw [Int.toNat_natCast] at hK
    have run : ∀ {g1 : Hp} {x : Lf} {K1 : CV → Hp → Prop}, New h g1 x 50 1 ((imp n).map fl) → (∀ o s g, New h g o 50 1 ((runL (ps.map (·.1)) ((ps.map (·.1)).map stL) (imp n)).1.map fl) → K1 (.tup [.lf o, .lf s]) g) → ∀ {o1 g2 qs}, NewD g1 g2 o1 24 1 ssCells ssRows 50 qs → qs.map (·.1) = (ps.map (·.1)).map stL → CallT S false 28 [.lf l, .lf o1, .lf x] g2 lim K1 := fun {g1 x K1} hX hk1 {o1 g2 qs} hD hq => by
      have kk := (New.kept hX).trans hD.kept
      refine c_l08Run (hL.kept kk) (hI.kept kk) hD.arr (Sms.new hD) (by rw [hq]; exact stL_fit hch) hnc (by rw [hq]; intro s hs x hx; obtain ⟨e, he, rfl⟩ := List.mem_map.1 hs; exact stL_CF x hx) ((Sm.new hX).kept hD.kept) imp_CF (by rw [imp_len]; omega) (Nat.le_trans hl kk.1) fun o sg rs g hO _ _ _ => ?_
      rw [hq] at hO
      exact hk1 o sg g (hO.base kk)
    refine CallT_of_body (F := L7) (HasIm.f7) rfl ?_; unfold L7; dsimp only []
    by_cases hn0 : 0 < n
    · have hN := New.fls (h := h) (g := h) (xs := imp n) (cs := .flt .f32 1065353216 :: List.replicate (n - 1) (.flt .f32 0)) (ty := 50) (Kept.refl _) (by rw [imp_pos hn0]; simp) (by rw [imp_len]; omega)
      rw [imp_len] at hN
      have hk0 := hN.kept
      repeat' (first | (simp (disch := first | omega | assumption | (simp only [List.length_set]; omega) | (simp [*] <;> fail) | assumption) [-Bool.decide_and, -Bool.decide_or, -Bool.not_and, -Bool.not_or, toNat_pred, toNat_succ, wrap64, wr_new, wr_new0, ok_if, ok_ifn, iadV_sl, makeV_int, decT, decF, over_at, *, leavesAll, fillL]) | (with_reducible refine Gd_split (fun hc => ?_) (fun hc => ?_) <;> (have hc2 := hc; try simp at hc2)) | (with_reducible refine Br_split (fun hc => ?_) (fun hc => ?_) <;> (have hc2 := hc; try simp at hc2)) | (with_reducible refine GdT_split (fun hc => ?_) (fun hc => ?_) <;> (have hc2 := hc; try simp at hc2)) | (with_reducible refine WT_alt ?_ ?_) | omega)
      refine c_l08New (hL.kept hk0) hch (by simp; omega) fun o1 g2 qs hD hq => ?_
      have r := fun K1 h1 => run (K1 := K1) hN h1 hD hq
      clear run hq
      repeat' (first | (simp (disch := first | omega | assumption | (simp only [List.length_set]; omega) | (simp [*] <;> fail) | assumption) [-Bool.decide_and, -Bool.decide_or, -Bool.not_and, -Bool.not_or, toNat_pred, toNat_succ, wrap64, wr_new, wr_new0, ok_if, ok_ifn, iadV_sl, makeV_int, decT, decF, over_at, *]) | (with_reducible refine Gd_split (fun hc => ?_) (fun hc => ?_) <;> (have hc2 := hc; try simp at hc2)) | (with_reducible refine Br_split (fun hc => ?_) (fun hc => ?_) <;> (have hc2 := hc; try simp at hc2)) | (with_reducible refine GdT_split (fun hc => ?_) (fun hc => ?_) <;> (have hc2 := hc; try simp at hc2)) | (with_reducible refine WT_alt ?_ ?_) | omega)
      refine r _ fun o s g hO => ?_
      have hk2 := hK _ _ hO
      clear hK r
      repeat' (first | (simp (disch := first | omega | assumption | (simp only [List.length_set]; omega) | (simp [*] <;> fail) | assumption) [-Bool.decide_and, -Bool.decide_or, -Bool.not_and, -Bool.not_or, toNat_pred, toNat_succ, wrap64, wr_new, wr_new0, ok_if, ok_ifn, iadV_sl, makeV_int, decT, decF, over_at, *]) | (with_reducible refine Gd_split (fun hc => ?_) (fun hc => ?_) <;> (have hc2 := hc; try simp at hc2)) | (with_reducible refine Br_split (fun hc => ?_) (fun hc => ?_) <;> (have hc2 := hc; try simp at hc2)) | (with_reducible refine GdT_split (fun hc => ?_) (fun hc => ?_) <;> (have hc2 := hc; try simp at hc2)) | (with_reducible refine WT_alt ?_ ?_) | omega)
    · have hN := New.fls (h := h) (g := h) (xs := imp n) (cs := List.replicate n (.flt .f32 0)) (ty := 50) (Kept.refl _) (by rw [imp_not hn0]; simp) (by rw [imp_len]; omega)
      rw [imp_len] at hN
      have hk0 := hN.kept
      repeat' (first | (simp (disch := first | omega | assumption | (simp only [List.length_set]; omega) | (simp [*] <;> fail) | assumption) [-Bool.decide_and, -Bool.decide_or, -Bool.not_and, -Bool.not_or, toNat_pred, toNat_succ, wrap64, wr_new, wr_new0, ok_if, ok_ifn, iadV_sl, makeV_int, decT, decF, over_at, *, leavesAll, fillL]) | (with_reducible refine Gd_split (fun hc => ?_) (fun hc => ?_) <;> (have hc2 := hc; try simp at hc2)) | (with_reducible refine Br_split (fun hc => ?_) (fun hc => ?_) <;> (have hc2 := hc; try simp at hc2)) | (with_reducible refine GdT_split (fun hc => ?_) (fun hc => ?_) <;> (have hc2 := hc; try simp at hc2)) | (with_reducible refine WT_alt ?_ ?_) | omega)
      refine c_l08New (hL.kept hk0) hch (by simp; omega) fun o1 g2 qs hD hq => ?_
      have r := fun K1 h1 => run (K1 := K1) hN h1 hD hq
      clear run hq
      repeat' (first | (simp (disch := first | omega | assumption | (simp only [List.length_set]; omega) | (simp [*] <;> fail) | assumption) [-Bool.decide_and, -Bool.decide_or, -Bool.not_and, -Bool.not_or, toNat_pred, toNat_succ, wrap64, wr_new, wr_new0, ok_if, ok_ifn, iadV_sl, makeV_int, decT, decF, over_at, *]) | (with_reducible refine Gd_split (fun hc => ?_) (fun hc => ?_) <;> (have hc2 := hc; try simp at hc2)) | (with_reducible refine Br_split (fun hc => ?_) (fun hc => ?_) <;> (have hc2 := hc; try simp at hc2)) | (with_reducible refine GdT_split (fun hc => ?_) (fun hc => ?_) <;> (have hc2 := hc; try simp at hc2)) | (with_reducible refine WT_alt ?_ ?_) | omega)
      refine r _ fun o s g hO => ?_
      have hk2 := hK _ _ hO
      clear hK r
      repeat' (first | (simp (disch := first | omega | assumption | (simp only [List.length_set]; omega) | (simp [*] <;> fail) | assumption) [-Bool.decide_and, -Bool.decide_or, -Bool.not_and, -Bool.not_or, toNat_pred, toNat_succ, wrap64, wr_new, wr_new0, ok_if, ok_ifn, iadV_sl, makeV_int, decT, decF, over_at, *]) | (with_reducible refine Gd_split (fun hc => ?_) (fun hc => ?_) <;> (have hc2 := hc; try simp at hc2)) | (with_reducible refine Br_split (fun hc => ?_) (fun hc => ?_) <;> (have hc2 := hc; try simp at hc2)) | (with_reducible refine GdT_split (fun hc => ?_) (fun hc => ?_) <;> (have hc2 := hc; try simp at hc2)) | (with_reducible refine WT_alt ?_ ?_) | omega)
  · have hk2 := hK .nils h (by unfold imR; rw [if_neg hok]; exact New.nil (Kept.refl h))
    rw [decide_eq_false hok] at hk2
    clear hK
    by_cases k1 : isCh (ps.map (·.1))
    · have k2 : ¬ (0 ≤ c ∧ c ≤ 256) := fun q => hok ⟨k1, q⟩
      rw [decide_eq_true k1] at hc
      clear hok k1
      refine CallT_of_body (F := L7) (HasIm.f7) rfl ?_; unfold L7; dsimp only []
      repeat' (first | (simp (disch := first | omega | assumption | (simp only [List.length_set]; omega) | (simp [*] <;> fail) | assumption) [-Bool.decide_and, -Bool.decide_or, -Bool.not_and, -Bool.not_or, toNat_pred, toNat_succ, wrap64, wr_new, wr_new0, ok_if, ok_ifn, iadV_sl, makeV_int, decT, decF, over_at, *]) | (with_reducible refine Gd_split (fun hc => ?_) (fun hc => ?_) <;> (have hc2 := hc; try simp at hc2)) | (with_reducible refine Br_split (fun hc => ?_) (fun hc => ?_) <;> (have hc2 := hc; try simp at hc2)) | (with_reducible refine GdT_split (fun hc => ?_) (fun hc => ?_) <;> (have hc2 := hc; try simp at hc2)) | (with_reducible refine WT_alt ?_ ?_) | omega)
    · rw [decide_eq_false k1] at hc
      clear hok k1
      refine CallT_of_body (F := L7) (HasIm.f7) rfl ?_; unfold L7; dsimp only []
      repeat' (first | (simp (disch := first | omega | assumption | (simp only [List.length_set]; omega) | (simp [*] <;> fail) | assumption) [-Bool.decide_and, -Bool.decide_or, -Bool.not_and, -Bool.not_or, toNat_pred, toNat_succ, wrap64, wr_new, wr_new0, ok_if, ok_ifn, iadV_sl, makeV_int, decT, decF, over_at, *]) | (with_reducible refine Gd_split (fun hc => ?_) (fun hc => ?_) <;> (have hc2 := hc; try simp at hc2)) | (with_reducible refine Br_split (fun hc => ?_) (fun hc => ?_) <;> (have hc2 := hc; try simp at hc2)) | (with_reducible refine GdT_split (fun hc => ?_) (fun hc => ?_) <;> (have hc2 := hc; try simp at hc2)) | (with_reducible refine WT_alt ?_ ?_) | omega)
set_option maxHeartbeats 4000000 in
theorem c_implImpulseOfChain {c : Int} (hL : Arr h l 3 (ps.map Eff.cells)) (hI : In h Eff.nums ps) (hnc : ∀ e ∈ ps.map (·.1), ∀ x ∈ e.nums, CF x) (hl : lim ≤ h.length)
    (hK : ∀ o g, New h g o 50 1 ((imR (ps.map (·.1)) c).map fl) → K (.tup [.lf o, .lf (.bool (decide (okIm (ps.map (·.1)) c)))]) g) : CallT S false 9 [.lf l, .lf (.int .i64 c)] h lim K := by
  have hc := fun lim K => c_implValidChain (S := S) (lim := lim) (K := K) hL hI
  by_cases hok : okIm (ps.map (·.1)) c
  · unfold imR at hK
    rw [if_pos hok, decide_eq_true hok] at hK
    obtain ⟨hch, h0, h1⟩ := hok
    rw [decide_eq_true hch] at hc
    obtain ⟨n, rfl⟩ := Int.eq_ofNat_of_zero_le h0
    rw [Int.toNat_natCast] at hK
    refine CallT_of_body (F := L9) (HasIm.f9) rfl ?_; unfold L9; dsimp only []
    repeat' (first | (simp (disch := first | omega | assumption | (simp only [List.length_set]; omega) | (simp [*] <;> fail) | assumption) [-Bool.decide_and, -Bool.decide_or, -Bool.not_and, -Bool.not_or, toNat_pred, toNat_succ, wrap64, wr_new, wr_new0, ok_if, ok_ifn, iadV_sl, makeV_int, decT, decF, over_at, *]) | (with_reducible refine Gd_split (fun hc => ?_) (fun hc => ?_) <;> (have hc2 := hc; try simp at hc2)) | (with_reducible refine Br_split (fun hc => ?_) (fun hc => ?_) <;> (have hc2 := hc; try simp at hc2)) | (with_reducible refine GdT_split (fun hc => ?_) (fun hc => ?_) <;> (have hc2 := hc; try simp at hc2)) | (with_reducible refine WT_alt ?_ ?_) | omega)
    refine c_newState hL hch hl fun o1 g1 qs hD hq => ?_
    have hk := hD.kept
    have hk1 := hk.1
    have hqH : Hid (qs.map (·.1) = (ps.map (·.1)).map stL) := hq
    clear hq
    repeat' (first | (simp (disch := first | omega | assumption | (simp only [List.length_set]; omega) | (simp [*] <;> fail) | assumption) [-Bool.decide_and, -Bool.decide_or, -Bool.not_and, -Bool.not_or, toNat_pred, toNat_succ, wrap64, wr_new, wr_new0, ok_if, ok_ifn, iadV_sl, makeV_int, decT, decF, over_at, *]) | (with_reducible refine Gd_split (fun hc => ?_) (fun hc => ?_) <;> (have hc2 := hc; try simp at hc2)) | (with_reducible refine Br_split (fun hc => ?_) (fun hc => ?_) <;> (have hc2 := hc; try simp at hc2)) | (with_reducible refine GdT_split (fun hc => ?_) (fun hc => ?_) <;> (have hc2 := hc; try simp at hc2)) | (with_reducible refine WT_alt ?_ ?_) | omega)
    refine c_impulse (by omega) (by omega) fun x g2 hX => ?_
    have kk := hk.trans hX.kept
    have r := fun K1 => c_runChain (S := S) (h := g2) (lim := lim) (K := K1) (l := l) (l2 := o1) (l3 := x) (ps := ps) (qs := qs) (xs := imp n) (hL.kept kk) (hI.kept kk) (hD.later hX.kept).arr (Sms.new (hD.later hX.kept)) (by rw [show _ = _ from hqH]; exact stL_fit hch) hnc (by rw [show _ = _ from hqH]; intro s hs x hx; obtain ⟨e, he, rfl⟩ := List.mem_map.1 hs; exact stL_CF x hx) (Sm.new hX) imp_CF (by rw [imp_len]; omega) (Nat.le_trans hl kk.1)
    rw [show _ = _ from hqH] at r
    repeat' (first | (simp (disch := first | omega | assumption | (simp only [List.length_set]; omega) | (simp [*] <;> fail) | assumption) [-Bool.decide_and, -Bool.decide_or, -Bool.not_and, -Bool.not_or, toNat_pred, toNat_succ, wrap64, wr_new, wr_new0, ok_if, ok_ifn, iadV_sl, makeV_int, decT, decF, over_at, *]) | (with_reducible refine Gd_split (fun hc => ?_) (fun hc => ?_) <;> (have hc2 := hc; try simp at hc2)) | (with_reducible refine Br_split (fun hc => ?_) (fun hc => ?_) <;> (have hc2 := hc; try simp at hc2)) | (with_reducible refine GdT_split (fun hc => ?_) (fun hc => ?_) <;> (have hc2 := hc; try simp at hc2)) | (with_reducible refine WT_alt ?_ ?_) | omega)
    refine r _ fun o sg rs g hO _ _ _ => ?_
    have hk2 := hK _ _ (hO.base kk)
    clear hK r
    repeat' (first | (simp (disch := first | omega | assumption | (simp only [List.length_set]; omega) | (simp [*] <;> fail) | assumption) [-Bool.decide_and, -Bool.decide_or, -Bool.not_and, -Bool.not_or, toNat_pred, toNat_succ, wrap64, wr_new, wr_new0, ok_if, ok_ifn, iadV_sl, makeV_int, decT, decF, over_at, *]) | (with_reducible refine Gd_split (fun hc => ?_) (fun hc => ?_) <;> (have hc2 := hc; try simp at hc2)) | (with_reducible refine Br_split (fun hc => ?_) (fun hc => ?_) <;> (have hc2 := hc; try simp at hc2)) | (with_reducible refine GdT_split (fun hc => ?_) (fun hc => ?_) <;> (have hc2 := hc; try simp at hc2)) | (with_reducible refine WT_alt ?_ ?_) | omega)
  · have hk2 := hK .nils h (by unfold imR; rw [if_neg hok]; exact New.nil (Kept.refl h))
    rw [decide_eq_false hok] at hk2
    clear hK
    by_cases k1 : isCh (ps.map (·.1))
    · have k2 : ¬ (0 ≤ c ∧ c ≤ 256) := fun q => hok ⟨k1, q⟩
      rw [decide_eq_true k1] at hc
      clear hok k1
      refine CallT_of_body (F := L9) (HasIm.f9) rfl ?_; unfold L9; dsimp only []
      repeat' (first | (simp (disch := first | omega | assumption | (simp only [List.length_set]; omega) | (simp [*] <;> fail) | assumption) [-Bool.decide_and, -Bool.decide_or, -Bool.not_and, -Bool.not_or, toNat_pred, toNat_succ, wrap64, wr_new, wr_new0, ok_if, ok_ifn, iadV_sl, makeV_int, decT, decF, over_at, *]) | (with_reducible refine Gd_split (fun hc => ?_) (fun hc => ?_) <;> (have hc2 := hc; try simp at hc2)) | (with_reducible refine Br_split (fun hc => ?_) (fun hc => ?_) <;> (have hc2 := hc; try simp at hc2)) | (with_reducible refine GdT_split (fun hc => ?_) (fun hc => ?_) <;> (have hc2 := hc; try simp at hc2)) | (with_reducible refine WT_alt ?_ ?_) | omega)
    · rw [decide_eq_false k1] at hc
      clear hok k1
      refine CallT_of_body (F := L9) (HasIm.f9) rfl ?_; unfold L9; dsimp only []
      repeat' (first | (simp (disch := first | omega | assumption | (simp only [List.length_set]; omega) | (simp [*] <;> fail) | assumption) [-Bool.decide_and, -Bool.decide_or, -Bool.not_and, -Bool.not_or, toNat_pred, toNat_succ, wrap64, wr_new, wr_new0, ok_if, ok_ifn, iadV_sl, makeV_int, decT, decF, over_at, *]) | (with_reducible refine Gd_split (fun hc => ?_) (fun hc => ?_) <;> (have hc2 := hc; try simp at hc2)) | (with_reducible refine Br_split (fun hc => ?_) (fun hc => ?_) <;> (have hc2 := hc; try simp at hc2)) | (with_reducible refine GdT_split (fun hc => ?_) (fun hc => ?_) <;> (have hc2 := hc; try simp at hc2)) | (with_reducible refine WT_alt ?_ ?_) | omega)
end
end
end Go.E
