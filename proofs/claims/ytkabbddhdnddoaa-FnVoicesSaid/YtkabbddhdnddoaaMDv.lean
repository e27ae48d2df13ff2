/- Envelopes and notes that are drawn: valid. -/
import Derived.Test.YtkabbddhdnddoaaMDr
set_option linter.unusedVariables false
set_option linter.unusedSimpArgs false
namespace Go.E
open Go
def L7 : LFn := ⟨1, (.seq (.reg [⟨(.some 2), (.alloc 26 [(.int .i64 0), (.int .i64 0), (.flt .f32 0), (.int .i64 0)]), none⟩])
 (.seq (.reg [⟨(.some 5), (.mv (.t 0)), none⟩, ⟨(.some 6), (.call false 24 [(.t 5)]), none⟩, ⟨(.some 3), (.mv (.t 6)), none⟩])
 (.seq (.reg [⟨(.some 7), (.mv (.t 3)), none⟩, ⟨(.some 8), (.call false 25 [(.t 7), (.c (.lf (.int .i64 8)))]), none⟩, ⟨(.some 9), (.build [(.int .i64 0), (.int .i64 0), (.flt .f32 0), (.int .i64 0)] [(0, (1, (.t 8)))]), none⟩, ⟨(.some 4), (.alloc 26 [(.int .i64 0), (.int .i64 0), (.flt .f32 0), (.int .i64 0)]), none⟩, ⟨none, (.store 4 (.t 4) (.t 9)), none⟩])
 (.seq (.reg [⟨(.some 10), (.mv (.t 3)), none⟩, ⟨(.some 11), (.call false 25 [(.t 10), (.c (.lf (.int .i64 8)))]), none⟩, ⟨(.some 12), (.faddr 1 (.t 4)), none⟩, ⟨none, (.store 1 (.t 12) (.t 11)), none⟩])
 (.seq (.reg [⟨(.some 13), (.mv (.t 3)), none⟩, ⟨(.some 14), (.call false 25 [(.t 13), (.c (.lf (.int .i64 17)))]), none⟩, ⟨(.some 15), (.toflt .f32 (.t 14)), none⟩, ⟨(.some 16), (.bin .quo (.t 15) (.c (.lf (.flt .f32 1098907648)))), none⟩, ⟨(.some 17), (.faddr 2 (.t 4)), none⟩, ⟨none, (.store 1 (.t 17) (.t 16)), none⟩])
 (.seq (.reg [⟨(.some 18), (.mv (.t 3)), none⟩, ⟨(.some 19), (.call false 25 [(.t 18), (.c (.lf (.int .i64 10)))]), none⟩, ⟨(.some 20), (.faddr 3 (.t 4)), none⟩, ⟨none, (.store 1 (.t 20) (.t 19)), none⟩])
 (.seq (.reg [⟨(.some 21), (.load true 4 (.t 4)), none⟩, ⟨none, (.store 4 (.t 2) (.t 21)), none⟩])
 .ret))))))), [(.cell 2 true 4)]⟩
def L26 : LFn := ⟨1, (.seq (.reg [⟨(.some 2), (.alloc 40 [(.int .i64 0), (.int .i64 0), (.int .i64 0), (.flt .f32 0)]), none⟩])
 (.seq (.reg [⟨(.some 4), (.mv (.t 0)), none⟩, ⟨(.some 5), (.call false 25 [(.t 4), (.c (.lf (.int .i64 20)))]), none⟩, ⟨(.some 6), (.build [(.int .i64 0), (.int .i64 0), (.int .i64 0), (.flt .f32 0)] [(0, (1, (.t 5)))]), none⟩, ⟨(.some 3), (.alloc 40 [(.int .i64 0), (.int .i64 0), (.int .i64 0), (.flt .f32 0)]), none⟩, ⟨none, (.store 4 (.t 3) (.t 6)), none⟩])
 (.seq (.reg [⟨(.some 7), (.mv (.t 0)), none⟩, ⟨(.some 8), (.call false 25 [(.t 7), (.c (.lf (.int .i64 16)))]), none⟩, ⟨(.some 9), (.faddr 1 (.t 3)), none⟩, ⟨none, (.store 1 (.t 9) (.t 8)), none⟩])
 (.seq (.reg [⟨(.some 10), (.mv (.t 0)), none⟩, ⟨(.some 11), (.call false 25 [(.t 10), (.c (.lf (.int .i64 128)))]), none⟩, ⟨(.some 12), (.faddr 2 (.t 3)), none⟩, ⟨none, (.store 1 (.t 12) (.t 11)), none⟩])
 (.seq (.reg [⟨(.some 13), (.mv (.t 0)), none⟩, ⟨(.some 14), (.call false 25 [(.t 13), (.c (.lf (.int .i64 17)))]), none⟩, ⟨(.some 15), (.toflt .f32 (.t 14)), none⟩, ⟨(.some 16), (.bin .quo (.t 15) (.c (.lf (.flt .f32 1098907648)))), none⟩, ⟨(.some 17), (.faddr 3 (.t 3)), none⟩, ⟨none, (.store 1 (.t 17) (.t 16)), none⟩])
 (.seq (.reg [⟨(.some 18), (.load true 4 (.t 3)), none⟩, ⟨none, (.store 4 (.t 2) (.t 18)), none⟩])
 .ret)))))), [(.cell 2 true 4)]⟩
def L8 : LFn := ⟨1, (.seq (.reg [⟨(.some 2), (.mv (.c (.lf .nils))), none⟩])
 (.seq (.reg [⟨(.some 8), (.mv (.t 0)), none⟩, ⟨(.some 9), (.call false 24 [(.t 8)]), none⟩, ⟨(.some 3), (.mv (.t 9)), none⟩])
 (.seq (.reg [⟨(.some 10), (.lit 40 4 0 [] []), none⟩, ⟨(.some 4), (.mv (.t 10)), none⟩])
 (.seq (.reg [⟨(.some 5), (.mv (.c (.lf (.int .i64 0)))), none⟩])
 (.seq (.seq (.reg [⟨(.some 11), (.mv (.t 3)), none⟩, ⟨(.some 12), (.call false 25 [(.t 11), (.c (.lf (.int .i64 6)))]), none⟩, ⟨(.some 6), (.mv (.t 12)), none⟩])
 (.block 0 (.loop (.seq (.seq (.reg [⟨(.some 13), (.mv (.t 6)), none⟩, ⟨(.some 14), (.bin .gtr (.t 13) (.c (.lf (.int .i64 0)))), none⟩])
 (.cond (.t 14) .skip (.exit 0)))
 (.seq (.block 1 (.seq (.reg [⟨(.some 17), (.mv (.t 3)), none⟩, ⟨(.some 18), (.call false 26 [(.t 17)]), none⟩, ⟨(.some 7), (.alloc 40 [(.int .i64 0), (.int .i64 0), (.int .i64 0), (.flt .f32 0)]), none⟩, ⟨none, (.store 4 (.t 7) (.t 18)), none⟩])
 (.seq (.reg [⟨(.some 19), (.mv (.t 5)), none⟩, ⟨(.some 20), (.mv (.t 3)), none⟩, ⟨(.some 21), (.call false 25 [(.t 20), (.c (.lf (.int .i64 7)))]), none⟩, ⟨(.some 22), (.bin .add (.t 19) (.t 21)), none⟩, ⟨(.some 5), (.mv (.t 22)), none⟩])
 (.seq (.reg [⟨(.some 23), (.mv (.t 5)), none⟩, ⟨(.some 24), (.faddr 0 (.t 7)), none⟩, ⟨none, (.store 1 (.t 24) (.t 23)), none⟩])
 (.reg [⟨(.some 25), (.mv (.t 4)), none⟩, ⟨(.some 26), (.load true 4 (.t 7)), none⟩, ⟨(.some 27), (.lit 40 4 1 [(.int .i64 0), (.int .i64 0), (.int .i64 0), (.flt .f32 0)] [(0, (4, (.t 26)))]), none⟩, ⟨(.some 28), (.app 40 4 32 (.t 25) (.t 27)), none⟩, ⟨(.some 4), (.mv (.t 28)), none⟩])))))
 (.reg [⟨(.some 15), (.mv (.t 6)), none⟩, ⟨(.some 16), (.bin .sub (.t 15) (.c (.lf (.int .i64 1)))), none⟩, ⟨(.some 6), (.mv (.t 16)), none⟩]))))))
 (.seq (.reg [⟨(.some 29), (.mv (.t 4)), none⟩, ⟨(.some 2), (.mv (.t 29)), none⟩])
 .ret)))))), [(.tmp 2)]⟩
class HasDv (S : Sys) : Prop extends HasDr S where
  f7 : S.fs 7 = some L7
  f26 : S.fs 26 = some L26
  f8 : S.fs 8 = some L8
theorem notesUpto.snoc {ps : List Nt} {p : Nt} (h : notesUpto ps ps.length) (hp : noteOk p) (hs : ∀ q ∈ ps, q.st ≤ p.st) : notesUpto (ps ++ [p]) (ps ++ [p]).length := by
  intro i hi _
  rcases Nat.lt_or_ge i ps.length with hlt | hge
  · have h1 := h i hlt hlt
    refine ⟨by rw [List.getElem_append_left hlt]; exact h1.1, fun q => ?_⟩
    rw [List.getElem_append_left hlt, List.getElem_append_left (by omega)]
    exact h1.2 q
  · have : i = ps.length := by simp at hi; omega
    subst this
    refine ⟨by simpa using hp, fun q => ?_⟩
    rw [List.getElem_append_left (by omega)]
    simpa using hs _ (List.getElem_mem (by omega))
section
variable {S : Sys} {lim : Nat} {h : Hp} {K : CV → Hp → Prop} [HasDv S] {l : Lf} {cs : List Int}
set_option maxHeartbeats 2000000 in
theorem c_B10Envelope (hA : Arr h l 1 (cs.map ul)) (hc : ∀ c ∈ cs, 0 ≤ c ∧ c < 256) (hl : lim ≤ h.length)
    (hK : ∀ e : Ev, (0 ≤ e.a ∧ e.a < 8) → (0 ≤ e.d ∧ e.d < 8) → (∃ v : Nat, v < 17 ∧ e.s = fbin .quo .f32 (fofint .f32 v) 1098907648) → (0 ≤ e.r ∧ e.r < 10) → ∀ t, K (.agg e.cells) (h ++ t)) : CallT S false 7 [.lf l] h lim K := by
  have hb := hA.bound
  refine CallT_of_body (F := L7) (HasDv.f7) rfl ?_; unfold L7; dsimp only []
  repeat' (first | (simp (disch := first | omega | assumption | (simp only [List.length_set]; omega) | (simp [*] <;> fail) | assumption) [-Bool.decide_and, -Bool.decide_or, -Bool.not_and, -Bool.not_or, toNat_pred, toNat_succ, wrap64, wr_new, wr_new0, ok_if, ok_ifn, iadV_sl, makeV_int, decT, decF, over_at, *]) | (with_reducible refine Gd_split (fun hc => ?_) (fun hc => ?_) <;> (have hc2 := hc; try simp at hc2)) | (with_reducible refine Br_split (fun hc => ?_) (fun hc => ?_) <;> (have hc2 := hc; try simp at hc2)) | (with_reducible refine GdT_split (fun hc => ?_) (fun hc => ?_) <;> (have hc2 := hc; try simp at hc2)) | (with_reducible refine WT_alt ?_ ?_) | omega)
  refine c_From ?_
  repeat' (first | (simp (disch := first | omega | assumption | (simp only [List.length_set]; omega) | (simp [*] <;> fail) | assumption) [-Bool.decide_and, -Bool.decide_or, -Bool.not_and, -Bool.not_or, toNat_pred, toNat_succ, wrap64, wr_new, wr_new0, ok_if, ok_ifn, iadV_sl, makeV_int, decT, decF, over_at, *]) | (with_reducible refine Gd_split (fun hc => ?_) (fun hc => ?_) <;> (have hc2 := hc; try simp at hc2)) | (with_reducible refine Br_split (fun hc => ?_) (fun hc => ?_) <;> (have hc2 := hc; try simp at hc2)) | (with_reducible refine GdT_split (fun hc => ?_) (fun hc => ?_) <;> (have hc2 := hc; try simp at hc2)) | (with_reducible refine WT_alt ?_ ?_) | omega)
  refine c_pick1 hA hc (by omega) (by omega) hl fun v1 sd1 a1 a2 => ?_
  repeat' (first | (simp (disch := first | omega | assumption | (simp only [List.length_set]; omega) | (simp [*] <;> fail) | assumption) [-Bool.decide_and, -Bool.decide_or, -Bool.not_and, -Bool.not_or, toNat_pred, toNat_succ, wrap64, wr_new, wr_new0, ok_if, ok_ifn, iadV_sl, makeV_int, decT, decF, over_at, *, leavesAll, fillL]) | (with_reducible refine Gd_split (fun hc => ?_) (fun hc => ?_) <;> (have hc2 := hc; try simp at hc2)) | (with_reducible refine Br_split (fun hc => ?_) (fun hc => ?_) <;> (have hc2 := hc; try simp at hc2)) | (with_reducible refine GdT_split (fun hc => ?_) (fun hc => ?_) <;> (have hc2 := hc; try simp at hc2)) | (with_reducible refine WT_alt ?_ ?_) | omega)
  refine c_pick1 hA hc (by omega) (by omega) hl fun v2 sd2 b1 b2 => ?_
  repeat' (first | (simp (disch := first | omega | assumption | (simp only [List.length_set]; omega) | (simp [*] <;> fail) | assumption) [-Bool.decide_and, -Bool.decide_or, -Bool.not_and, -Bool.not_or, toNat_pred, toNat_succ, wrap64, wr_new, wr_new0, ok_if, ok_ifn, iadV_sl, makeV_int, decT, decF, over_at, *]) | (with_reducible refine Gd_split (fun hc => ?_) (fun hc => ?_) <;> (have hc2 := hc; try simp at hc2)) | (with_reducible refine Br_split (fun hc => ?_) (fun hc => ?_) <;> (have hc2 := hc; try simp at hc2)) | (with_reducible refine GdT_split (fun hc => ?_) (fun hc => ?_) <;> (have hc2 := hc; try simp at hc2)) | (with_reducible refine WT_alt ?_ ?_) | omega)
  refine c_pick1 hA hc (by omega) (by omega) hl fun v3 sd3 c1 c2 => ?_
  obtain ⟨w3, rfl⟩ := Int.eq_ofNat_of_zero_le c1
  repeat' (first | (simp (disch := first | omega | assumption | (simp only [List.length_set]; omega) | (simp [*] <;> fail) | assumption) [-Bool.decide_and, -Bool.decide_or, -Bool.not_and, -Bool.not_or, toNat_pred, toNat_succ, wrap64, wr_new, wr_new0, ok_if, ok_ifn, iadV_sl, makeV_int, decT, decF, over_at, *]) | (with_reducible refine Gd_split (fun hc => ?_) (fun hc => ?_) <;> (have hc2 := hc; try simp at hc2)) | (with_reducible refine Br_split (fun hc => ?_) (fun hc => ?_) <;> (have hc2 := hc; try simp at hc2)) | (with_reducible refine GdT_split (fun hc => ?_) (fun hc => ?_) <;> (have hc2 := hc; try simp at hc2)) | (with_reducible refine WT_alt ?_ ?_) | omega)
  refine c_pick1 hA hc (by omega) (by omega) hl fun v4 sd4 d1 d2 => ?_
  have hk2 := hK ⟨v1, v2, fbin .quo .f32 (fofint .f32 w3) 1098907648, v4⟩ ⟨a1, a2⟩ ⟨b1, b2⟩ ⟨w3, by omega, rfl⟩ ⟨d1, d2⟩
  simp only [Ev.cells] at hk2
  clear hK
  repeat' (first | (simp (disch := first | omega | assumption | (simp only [List.length_set]; omega) | (simp [*] <;> fail) | assumption) [-Bool.decide_and, -Bool.decide_or, -Bool.not_and, -Bool.not_or, toNat_pred, toNat_succ, wrap64, wr_new, wr_new0, ok_if, ok_ifn, iadV_sl, makeV_int, decT, decF, over_at, *]) | (with_reducible refine Gd_split (fun hc => ?_) (fun hc => ?_) <;> (have hc2 := hc; try simp at hc2)) | (with_reducible refine Br_split (fun hc => ?_) (fun hc => ?_) <;> (have hc2 := hc; try simp at hc2)) | (with_reducible refine GdT_split (fun hc => ?_) (fun hc => ?_) <;> (have hc2 := hc; try simp at hc2)) | (with_reducible refine WT_alt ?_ ?_) | omega)
set_option maxHeartbeats 2000000 in
theorem c_DrawNote {g t : Hp} {a sd : Int} (hA : Arr g l 1 (cs.map ul)) (hc : ∀ c ∈ cs, 0 ≤ c ∧ c < 256) (ha : 0 ≤ a ∧ a ≤ 10000) (hl : lim ≤ g.length)
    (hK : ∀ (p : Nt) a' sd' t', noteOk p → 0 ≤ a' → a' ≤ a + 4 → K (.agg p.cells) (g ++ srcO l a' sd' :: (t ++ t'))) : CallT S false 26 [.lf (.ptr g.length 0)] (g ++ srcO l a sd :: t) lim K := by
  have hb := hA.bound
  refine CallT_of_body (F := L26) (HasDv.f26) rfl ?_; unfold L26; dsimp only []
  repeat' (first | (simp (disch := first | omega | assumption | (simp only [List.length_set]; omega) | (simp [*] <;> fail) | assumption) [-Bool.decide_and, -Bool.decide_or, -Bool.not_and, -Bool.not_or, toNat_pred, toNat_succ, wrap64, wr_new, wr_new0, ok_if, ok_ifn, iadV_sl, makeV_int, decT, decF, over_at, *]) | (with_reducible refine Gd_split (fun hc => ?_) (fun hc => ?_) <;> (have hc2 := hc; try simp at hc2)) | (with_reducible refine Br_split (fun hc => ?_) (fun hc => ?_) <;> (have hc2 := hc; try simp at hc2)) | (with_reducible refine GdT_split (fun hc => ?_) (fun hc => ?_) <;> (have hc2 := hc; try simp at hc2)) | (with_reducible refine WT_alt ?_ ?_) | omega)
  refine c_pick hA hc (by omega) (by omega) hl fun v1 sd1 a1 a2 => ?_
  repeat' (first | (simp (disch := first | omega | assumption | (simp only [List.length_set]; omega) | (simp [*] <;> fail) | assumption) [-Bool.decide_and, -Bool.decide_or, -Bool.not_and, -Bool.not_or, toNat_pred, toNat_succ, wrap64, wr_new, wr_new0, ok_if, ok_ifn, iadV_sl, makeV_int, decT, decF, over_at, *, leavesAll, fillL]) | (with_reducible refine Gd_split (fun hc => ?_) (fun hc => ?_) <;> (have hc2 := hc; try simp at hc2)) | (with_reducible refine Br_split (fun hc => ?_) (fun hc => ?_) <;> (have hc2 := hc; try simp at hc2)) | (with_reducible refine GdT_split (fun hc => ?_) (fun hc => ?_) <;> (have hc2 := hc; try simp at hc2)) | (with_reducible refine WT_alt ?_ ?_) | omega)
  refine c_pick hA hc (by omega) (by omega) hl fun v2 sd2 b1 b2 => ?_
  repeat' (first | (simp (disch := first | omega | assumption | (simp only [List.length_set]; omega) | (simp [*] <;> fail) | assumption) [-Bool.decide_and, -Bool.decide_or, -Bool.not_and, -Bool.not_or, toNat_pred, toNat_succ, wrap64, wr_new, wr_new0, ok_if, ok_ifn, iadV_sl, makeV_int, decT, decF, over_at, *]) | (with_reducible refine Gd_split (fun hc => ?_) (fun hc => ?_) <;> (have hc2 := hc; try simp at hc2)) | (with_reducible refine Br_split (fun hc => ?_) (fun hc => ?_) <;> (have hc2 := hc; try simp at hc2)) | (with_reducible refine GdT_split (fun hc => ?_) (fun hc => ?_) <;> (have hc2 := hc; try simp at hc2)) | (with_reducible refine WT_alt ?_ ?_) | omega)
  refine c_pick hA hc (by omega) (by omega) hl fun v3 sd3 c1 c2 => ?_
  repeat' (first | (simp (disch := first | omega | assumption | (simp only [List.length_set]; omega) | (simp [*] <;> fail) | assumption) [-Bool.decide_and, -Bool.decide_or, -Bool.not_and, -Bool.not_or, toNat_pred, toNat_succ, wrap64, wr_new, wr_new0, ok_if, ok_ifn, iadV_sl, makeV_int, decT, decF, over_at, *]) | (with_reducible refine Gd_split (fun hc => ?_) (fun hc => ?_) <;> (have hc2 := hc; try simp at hc2)) | (with_reducible refine Br_split (fun hc => ?_) (fun hc => ?_) <;> (have hc2 := hc; try simp at hc2)) | (with_reducible refine GdT_split (fun hc => ?_) (fun hc => ?_) <;> (have hc2 := hc; try simp at hc2)) | (with_reducible refine WT_alt ?_ ?_) | omega)
  refine c_pick hA hc (by omega) (by omega) hl fun v4 sd4 d1 d2 => ?_
  have hk2 := fun t' => hK ⟨v1, v2, v3, fbin .quo .f32 (fofint .f32 v4) 1098907648⟩ (a + 1 + 1 + 1 + 1) sd4 t' (by unfold noteOk noted; simp only [decide_eq_true_eq]; omega) (by omega) (by omega)
  simp only [Nt.cells] at hk2
  clear hK
  repeat' (first | (simp (disch := first | omega | assumption | (simp only [List.length_set]; omega) | (simp [*] <;> fail) | assumption) [-Bool.decide_and, -Bool.decide_or, -Bool.not_and, -Bool.not_or, toNat_pred, toNat_succ, wrap64, wr_new, wr_new0, ok_if, ok_ifn, iadV_sl, makeV_int, decT, decF, over_at, *]) | (with_reducible refine Gd_split (fun hc => ?_) (fun hc => ?_) <;> (have hc2 := hc; try simp at hc2)) | (with_reducible refine Br_split (fun hc => ?_) (fun hc => ?_) <;> (have hc2 := hc; try simp at hc2)) | (with_reducible refine GdT_split (fun hc => ?_) (fun hc => ?_) <;> (have hc2 := hc; try simp at hc2)) | (with_reducible refine WT_alt ?_ ?_) | omega)
set_option maxHeartbeats 4000000 in
theorem c_B10Notes (hA : Arr h l 1 (cs.map ul)) (hc : ∀ c ∈ cs, 0 ≤ c ∧ c < 256) (hl : lim ≤ h.length)
    (hK : ∀ o ps g, New h g o 40 4 (ps.map Nt.cells) → notesUpto ps ps.length → ps.length ≤ 5 → K (.lf o) g) : CallT S false 8 [.lf l] h lim K := by
  have hb := hA.bound
  refine CallT_of_body (F := L8) (HasDv.f8) rfl ?_; unfold L8; dsimp only []
  repeat' (first | (simp (disch := first | omega | assumption | (simp only [List.length_set]; omega) | (simp [*] <;> fail) | assumption) [-Bool.decide_and, -Bool.decide_or, -Bool.not_and, -Bool.not_or, toNat_pred, toNat_succ, wrap64, wr_new, wr_new0, ok_if, ok_ifn, iadV_sl, makeV_int, decT, decF, over_at, *]) | (with_reducible refine Gd_split (fun hc => ?_) (fun hc => ?_) <;> (have hc2 := hc; try simp at hc2)) | (with_reducible refine Br_split (fun hc => ?_) (fun hc => ?_) <;> (have hc2 := hc; try simp at hc2)) | (with_reducible refine GdT_split (fun hc => ?_) (fun hc => ?_) <;> (have hc2 := hc; try simp at hc2)) | (with_reducible refine WT_alt ?_ ?_) | omega)
  refine c_From ?_
  repeat' (first | (simp (disch := first | omega | assumption | (simp only [List.length_set]; omega) | (simp [*] <;> fail) | assumption) [-Bool.decide_and, -Bool.decide_or, -Bool.not_and, -Bool.not_or, toNat_pred, toNat_succ, wrap64, wr_new, wr_new0, ok_if, ok_ifn, iadV_sl, makeV_int, decT, decF, over_at, *, leavesAll, fillL]) | (with_reducible refine Gd_split (fun hc => ?_) (fun hc => ?_) <;> (have hc2 := hc; try simp at hc2)) | (with_reducible refine Br_split (fun hc => ?_) (fun hc => ?_) <;> (have hc2 := hc; try simp at hc2)) | (with_reducible refine GdT_split (fun hc => ?_) (fun hc => ?_) <;> (have hc2 := hc; try simp at hc2)) | (with_reducible refine WT_alt ?_ ?_) | omega)
  refine c_pick hA hc (by omega) (by omega) hl fun v sd a1 a2 => ?_
  obtain ⟨V, rfl⟩ := Int.eq_ofNat_of_zero_le a1
  have z0 : New (h ++ [srcO l 1 sd]) (h ++ [srcO l 1 sd, ⟨[], .own 40 4⟩]) (.sl (h.length + 1) 0 0 4) 40 4 [] := by
    have := New.litN (ty := 40) (sz := 4) (Kept.refl (h ++ [srcO l 1 sd]))
    simpa using this
  repeat' (first | (simp (disch := first | omega | assumption | (simp only [List.length_set]; omega) | (simp [*] <;> fail) | assumption) [-Bool.decide_and, -Bool.decide_or, -Bool.not_and, -Bool.not_or, toNat_pred, toNat_succ, wrap64, wr_new, wr_new0, ok_if, ok_ifn, iadV_sl, makeV_int, decT, decF, over_at, *]) | (with_reducible refine Gd_split (fun hc => ?_) (fun hc => ?_) <;> (have hc2 := hc; try simp at hc2)) | (with_reducible refine Br_split (fun hc => ?_) (fun hc => ?_) <;> (have hc2 := hc; try simp at hc2)) | (with_reducible refine GdT_split (fun hc => ?_) (fun hc => ?_) <;> (have hc2 := hc; try simp at hc2)) | (with_reducible refine WT_alt ?_ ?_) | omega)
  refine WL_forM 536862960 (by decide +kernel) (V) (fun i b g => i ≤ V ∧ (∃ m : Nat, b 6 = .lf (.int .i64 m) ∧ m + i = V) ∧ ∃ (o : Lf) (ps : List Nt) (A : Nat) (a sd : Int) (t : Hp), b 4 = .lf o ∧ b 5 = .lf (.int .i64 A) ∧ g = h ++ srcO l a sd :: t ∧ 0 ≤ a ∧ a ≤ 1 + 5 * i ∧ New (h ++ [srcO l a sd]) (h ++ srcO l a sd :: t) o 40 4 (ps.map Nt.cells) ∧ ps.length = i ∧ notesUpto ps ps.length ∧ A ≤ 7 * i ∧ ∀ p ∈ ps, p.st ≤ A) (fun _ _ _ hi => hi.1) ⟨by omega, ⟨V, by simp, by omega⟩, .sl (h.length + 1) 0 0 4, [], 0, 1, sd, [⟨[], .own 40 4⟩], by simp, by simp, rfl, by omega, by omega, by simpa using z0, rfl, (fun i h1 h2 => by simp at h1), by omega, by simp⟩ ?_
  rintro i b g ⟨hi, ⟨m, e6, hm⟩, o, ps, A, a, sd, t, e4, e5, rfl, ha0, ha1, hN, hpl, hup, hA7, hst⟩
  by_cases hlt : i < V
  · obtain ⟨m', rfl⟩ : ∃ m', m = m' + 1 := ⟨m - 1, by omega⟩
    clear hK z0
    repeat' (first | (simp (disch := first | omega | assumption | (simp only [List.length_set]; omega) | (simp [*] <;> fail) | assumption) [-Bool.decide_and, -Bool.decide_or, -Bool.not_and, -Bool.not_or, toNat_pred, toNat_succ, wrap64, wr_new, wr_new0, ok_if, ok_ifn, iadV_sl, makeV_int, decT, decF, over_at, *]) | (with_reducible refine Gd_split (fun hc => ?_) (fun hc => ?_) <;> (have hc2 := hc; try simp at hc2)) | (with_reducible refine Br_split (fun hc => ?_) (fun hc => ?_) <;> (have hc2 := hc; try simp at hc2)) | (with_reducible refine GdT_split (fun hc => ?_) (fun hc => ?_) <;> (have hc2 := hc; try simp at hc2)) | (with_reducible refine WT_alt ?_ ?_) | omega)
    refine c_DrawNote hA hc (by omega) hl fun p a' sd' t' hp ha2 ha3 => ?_
    obtain ⟨p1, p2, p3, p4⟩ := p
    simp only [Nt.cells]
    repeat' (first | (simp (disch := first | omega | assumption | (simp only [List.length_set]; omega) | (simp [*] <;> fail) | assumption) [-Bool.decide_and, -Bool.decide_or, -Bool.not_and, -Bool.not_or, toNat_pred, toNat_succ, wrap64, wr_new, wr_new0, ok_if, ok_ifn, iadV_sl, makeV_int, decT, decF, over_at, *]) | (with_reducible refine Gd_split (fun hc => ?_) (fun hc => ?_) <;> (have hc2 := hc; try simp at hc2)) | (with_reducible refine Br_split (fun hc => ?_) (fun hc => ?_) <;> (have hc2 := hc; try simp at hc2)) | (with_reducible refine GdT_split (fun hc => ?_) (fun hc => ?_) <;> (have hc2 := hc; try simp at hc2)) | (with_reducible refine WT_alt ?_ ?_) | omega)
    refine c_pick hA hc (by omega) (by omega) hl fun v2 sd2 b1 b2 => ?_
    obtain ⟨W, rfl⟩ := Int.eq_ofNat_of_zero_le b1
    repeat' (first | (simp (disch := first | omega | assumption | (simp only [List.length_set]; omega) | (simp [*] <;> fail) | assumption) [-Bool.decide_and, -Bool.decide_or, -Bool.not_and, -Bool.not_or, toNat_pred, toNat_succ, wrap64, wr_new, wr_new0, ok_if, ok_ifn, iadV_sl, makeV_int, decT, decF, over_at, *, leavesAll, fillL]) | (with_reducible refine Gd_split (fun hc => ?_) (fun hc => ?_) <;> (have hc2 := hc; try simp at hc2)) | (with_reducible refine Br_split (fun hc => ?_) (fun hc => ?_) <;> (have hc2 := hc; try simp at hc2)) | (with_reducible refine GdT_split (fun hc => ?_) (fun hc => ?_) <;> (have hc2 := hc; try simp at hc2)) | (with_reducible refine WT_alt ?_ ?_) | omega)
    have k3 := Kept.app (h ++ srcO l (a' + 1) sd2 :: t) (t' ++ [⟨[.int .i64 (A + W), .int .i64 p2, .int .i64 p3, .flt .f32 p4], .own 40 1⟩, ⟨[.int .i64 (A + W), .int .i64 p2, .int .i64 p3, .flt .f32 p4], .own 40 4⟩])
    simp only [List.append_assoc, List.cons_append] at k3
    have hN3 := (hN.swapK (a' := srcO l (a' + 1) sd2)).later k3
    refine oc_pushS hN3 (r := [.int .i64 (A + W), .int .i64 p2, .int .i64 p3, .flt .f32 p4]) (by simp) (by simp; omega) (by simp; omega) (fun o2 g5 hN5 hB5 => ?_) (by decide) (by decide)
    obtain ⟨t5, rfl⟩ := hN5.kept.split
    simp only [List.append_assoc, List.cons_append, List.nil_append] at hN5 ⊢
    have hno : noteOk ⟨((A + W : Nat) : Int), p2, p3, p4⟩ := by
      unfold noteOk noted at hp ⊢
      simp only [decide_eq_true_eq] at hp ⊢
      omega
    have hup2 := hup.snoc hno (fun q hq => by have := hst q hq; simp only; omega)
    have hst2 : ∀ q ∈ ps ++ [(⟨((A + W : Nat) : Int), p2, p3, p4⟩ : Nt)], q.st ≤ ((A + W : Nat) : Int) := fun q hq => by
      rcases List.mem_append.1 hq with hq | hq
      · have := hst q hq; omega
      · rw [List.mem_singleton.1 hq]; exact Int.le_refl _
    have hN6 : New (h ++ [srcO l (a' + 1) sd2]) (h ++ srcO l (a' + 1) sd2 :: t5) o2 40 4 ((ps ++ [(⟨((A + W : Nat) : Int), p2, p3, p4⟩ : Nt)]).map Nt.cells) := by
      rw [List.map_append]; simpa [Nt.cells] using hN5
    clear hN5 hB5 hN3 hN hst hup
    repeat' (first | (simp (disch := first | omega | assumption | (simp only [List.length_set]; omega) | (simp [*] <;> fail) | assumption) [-Bool.decide_and, -Bool.decide_or, -Bool.not_and, -Bool.not_or, toNat_pred, toNat_succ, wrap64, wr_new, wr_new0, ok_if, ok_ifn, iadV_sl, makeV_int, decT, decF, over_at, *]) | (with_reducible refine Gd_split (fun hc => ?_) (fun hc => ?_) <;> (have hc2 := hc; try simp at hc2)) | (with_reducible refine Br_split (fun hc => ?_) (fun hc => ?_) <;> (have hc2 := hc; try simp at hc2)) | (with_reducible refine GdT_split (fun hc => ?_) (fun hc => ?_) <;> (have hc2 := hc; try simp at hc2)) | (with_reducible refine WT_alt ?_ ?_) | omega)
    exact ⟨by omega, ⟨m', by omega, by omega⟩, ps ++ [(⟨((A + W : Nat) : Int), p2, p3, p4⟩ : Nt)], A + W, by omega, a' + 1, sd2, t5, ⟨rfl, rfl⟩, by omega, by omega, hN6, by simp; omega, hup2, by omega, hst2⟩
  · have : i = V := by omega
    subst this
    obtain rfl : m = 0 := by omega
    have hk2 := hK o ps _ (hN.base (Kept.app h _)) hup (by omega)
    clear hK
    repeat' (first | (simp (disch := first | omega | assumption | (simp only [List.length_set]; omega) | (simp [*] <;> fail) | assumption) [-Bool.decide_and, -Bool.decide_or, -Bool.not_and, -Bool.not_or, toNat_pred, toNat_succ, wrap64, wr_new, wr_new0, ok_if, ok_ifn, iadV_sl, makeV_int, decT, decF, over_at, *]) | (with_reducible refine Gd_split (fun hc => ?_) (fun hc => ?_) <;> (have hc2 := hc; try simp at hc2)) | (with_reducible refine Br_split (fun hc => ?_) (fun hc => ?_) <;> (have hc2 := hc; try simp at hc2)) | (with_reducible refine GdT_split (fun hc => ?_) (fun hc => ?_) <;> (have hc2 := hc; try simp at hc2)) | (with_reducible refine WT_alt ?_ ?_) | omega)
end
end Go.E
