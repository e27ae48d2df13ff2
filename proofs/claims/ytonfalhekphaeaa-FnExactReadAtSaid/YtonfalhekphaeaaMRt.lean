/- ReadAt, both sides. -/
import Derived.Test.YtonfalhekphaeaaMRd
set_option linter.unusedVariables false
set_option linter.unusedSimpArgs false
namespace Go.E
open Go
def L50 : LFn := ⟨3, (.seq (.reg [⟨(.some 6), (.mv (.c (.lf (.flt .f32 0)))), none⟩, ⟨(.some 7), (.mv (.c (.lf (.bool false)))), none⟩])
 (.seq (.seq (.reg [⟨(.some 8), (.mv (.t 0)), none⟩, ⟨(.some 9), (.call true 113 [(.t 8)]), none⟩, ⟨(.some 10), (.una .not (.t 9)), none⟩, ⟨(.some 11), (.mv (.t 10)), none⟩, ⟨(.some 12), (.mv (.t 1)), (.some (11, false))⟩, ⟨(.some 13), (.call true 72 [(.t 12)]), (.some (11, false))⟩, ⟨(.some 14), (.una .not (.t 13)), (.some (11, false))⟩, ⟨(.some 15), (.pick (.t 11) (.c (.lf (.bool true))) (.t 14)), none⟩, ⟨(.some 16), (.mv (.t 15)), none⟩, ⟨(.some 17), (.mv (.t 1)), (.some (16, false))⟩, ⟨(.some 18), (.len (.t 17)), (.some (16, false))⟩, ⟨(.some 19), (.bin .eql (.t 18) (.c (.lf (.int .i64 0)))), (.some (16, false))⟩, ⟨(.some 20), (.pick (.t 16) (.c (.lf (.bool true))) (.t 19)), none⟩])
 (.cond (.t 20) (.seq (.reg [⟨(.some 6), (.mv (.c (.lf (.flt .f32 0)))), none⟩, ⟨(.some 7), (.mv (.c (.lf (.bool false)))), none⟩])
 .ret) .skip))
 (.seq (.reg [⟨(.some 21), (.mv (.t 0)), none⟩, ⟨(.some 22), (.mv (.t 1)), none⟩, ⟨(.some 23), (.mv (.t 2)), none⟩, ⟨(.some 24), (.call true 114 [(.t 21), (.t 22), (.t 23)]), none⟩, ⟨(.some 25), (.ext (.t 24) 0), none⟩, ⟨(.some 26), (.ext (.t 24) 1), none⟩, ⟨(.some 6), (.mv (.t 25)), none⟩, ⟨(.some 7), (.mv (.t 26)), none⟩])
 .ret))), [(.tmp 6), (.tmp 7)]⟩
def L51 : LFn := ⟨3, (.seq (.reg [⟨(.some 6), (.mv (.c (.lf (.flt .f32 0)))), none⟩, ⟨(.some 7), (.mv (.c (.lf (.bool false)))), none⟩])
 (.seq (.seq (.reg [⟨(.some 8), (.mv (.t 0)), none⟩, ⟨(.some 9), (.call true 115 [(.t 8)]), none⟩, ⟨(.some 10), (.una .not (.t 9)), none⟩, ⟨(.some 11), (.mv (.t 10)), none⟩, ⟨(.some 12), (.mv (.t 1)), (.some (11, false))⟩, ⟨(.some 13), (.call true 77 [(.t 12)]), (.some (11, false))⟩, ⟨(.some 14), (.una .not (.t 13)), (.some (11, false))⟩, ⟨(.some 15), (.pick (.t 11) (.c (.lf (.bool true))) (.t 14)), none⟩, ⟨(.some 16), (.mv (.t 15)), none⟩, ⟨(.some 17), (.mv (.t 1)), (.some (16, false))⟩, ⟨(.some 18), (.mv (.t 2)), (.some (16, false))⟩, ⟨(.some 19), (.call true 116 [(.t 17), (.t 18)]), (.some (16, false))⟩, ⟨(.some 20), (.una .not (.t 19)), (.some (16, false))⟩, ⟨(.some 21), (.pick (.t 16) (.c (.lf (.bool true))) (.t 20)), none⟩])
 (.cond (.t 21) (.seq (.reg [⟨(.some 6), (.mv (.c (.lf (.flt .f32 0)))), none⟩, ⟨(.some 7), (.mv (.c (.lf (.bool false)))), none⟩])
 .ret) .skip))
 (.seq (.reg [⟨(.some 22), (.mv (.t 0)), none⟩, ⟨(.some 23), (.mv (.t 1)), none⟩, ⟨(.some 24), (.mv (.t 2)), none⟩, ⟨(.some 25), (.call true 117 [(.t 22), (.t 23), (.t 24)]), none⟩, ⟨(.some 6), (.mv (.t 25)), none⟩, ⟨(.some 7), (.mv (.c (.lf (.bool true)))), none⟩])
 .ret))), [(.tmp 6), (.tmp 7)]⟩
class HasRt (S : Sys) : Prop extends HasRd S where
  f50 : S.fs 50 = some L50
  f51 : S.fs 51 = some L51
theorem okPl_zero {x : Nat} : okPl 0 x = false := by
  unfold okPl
  cases hc : isNaN .f64 x
  · have h0n : isNaN .f64 0 = false := by decide +kernel
    rw [geq64 hc h0n, leq64 hc (fofint_not_nan _ _), D_zero, D_int (by decide)]
    have hU := U_pos
    have : ¬ (0 ≤ D x ∧ D x ≤ (((0 : Nat) : Int) - 1) * U) := by omega
    rw [← Bool.decide_and, decide_eq_false_iff_not]
    exact this
  · rw [cmp_nan1 hc (by decide)]; rfl
def okRt (kind : Int) (n x : Nat) : Prop := (0 ≤ kind ∧ kind ≤ 2) ∧ n ≤ 256 ∧ okPl n x = true
instance {kind : Int} {n x : Nat} : Decidable (okRt kind n x) := by unfold okRt; infer_instance
noncomputable def readT (kind : Int) (xs : List Nat) (x : Nat) : CV := if okRt kind xs.length x then .tup [.lf (.flt .f32 (rdAt kind xs x)), .lf (.bool true)] else .tup [.lf (.flt .f32 0), .lf (.bool false)]
section
variable {S : Sys} {lim : Nat} {h : Hp} {K : CV → Hp → Prop} [HasRt S] {l : Lf} {xs : List Nat}
theorem c_specReadAt {kind : Int} {x : Nat} (hA : Arr h l 1 (xs.map fl)) (hx : CD x) : CallT S true 50 [.lf (.int .i64 kind), .lf l, .lf (.flt .f64 x)] h lim K = K (readT kind xs x) h := by
  by_cases h1 : 0 ≤ kind ∧ kind ≤ 2
  · by_cases h2 : xs.length ≤ 256
    · have h2' : (xs.length : Int) ≤ 256 := by omega
      by_cases h3 : xs.length = 0
      · have h3' : (xs.length : Int) = 0 := by omega
        have e : readT kind xs x = .tup [.lf (.flt .f32 0), .lf (.bool false)] := by unfold readT; rw [if_neg]; intro q; have := q.2.2; rw [h3, okPl_zero] at this; cases this
        rw [e]
        refine CallT_pure (F := L50) (HasRt.f50) rfl (by first | rfl | (split <;> rfl) | simp) ?_; unfold L50; dsimp only []
        repeat' (first | (simp (disch := first | omega | assumption | (simp only [List.length_set]; omega) | (simp [*] <;> fail) | assumption) [-Bool.decide_and, -Bool.decide_or, -Bool.not_and, -Bool.not_or, toNat_pred, toNat_succ, wrap64, wr_new, wr_new0, ok_if, ok_ifn, iadV_sl, makeV_int, decT, decF, over_at, *, c_l01Few hA, hA.len]) | (with_reducible refine Gd_split (fun hc => ?_) (fun hc => ?_) <;> (have hc2 := hc; try simp at hc2)) | (with_reducible refine Br_split (fun hc => ?_) (fun hc => ?_) <;> (have hc2 := hc; try simp at hc2)) | (with_reducible refine GdT_split (fun hc => ?_) (fun hc => ?_) <;> (have hc2 := hc; try simp at hc2)) | (with_reducible refine WT_alt ?_ ?_) | omega)
      · have h3' : ¬ (xs.length : Int) = 0 := by omega
        cases hp : okPl xs.length x
        · have e : readT kind xs x = .tup [.lf (.flt .f32 0), .lf (.bool false)] := by unfold readT; rw [if_neg]; intro q; have := q.2.2; rw [hp] at this; cases this
          rw [e]
          refine CallT_pure (F := L50) (HasRt.f50) rfl (by first | rfl | (split <;> rfl) | simp) ?_; unfold L50; dsimp only []
          repeat' (first | (simp (disch := first | omega | assumption | (simp only [List.length_set]; omega) | (simp [*] <;> fail) | assumption) [-Bool.decide_and, -Bool.decide_or, -Bool.not_and, -Bool.not_or, toNat_pred, toNat_succ, wrap64, wr_new, wr_new0, ok_if, ok_ifn, iadV_sl, makeV_int, decT, decF, over_at, *, c_l01Few hA, hA.len, c_l06Read hA (by omega) h2 hx h1]) | (with_reducible refine Gd_split (fun hc => ?_) (fun hc => ?_) <;> (have hc2 := hc; try simp at hc2)) | (with_reducible refine Br_split (fun hc => ?_) (fun hc => ?_) <;> (have hc2 := hc; try simp at hc2)) | (with_reducible refine GdT_split (fun hc => ?_) (fun hc => ?_) <;> (have hc2 := hc; try simp at hc2)) | (with_reducible refine WT_alt ?_ ?_) | omega)
        · have e : readT kind xs x = .tup [.lf (.flt .f32 (rdAt kind xs x)), .lf (.bool true)] := by unfold readT; rw [if_pos ⟨h1, h2, hp⟩]
          rw [e]
          refine CallT_pure (F := L50) (HasRt.f50) rfl (by first | rfl | (split <;> rfl) | simp) ?_; unfold L50; dsimp only []
          repeat' (first | (simp (disch := first | omega | assumption | (simp only [List.length_set]; omega) | (simp [*] <;> fail) | assumption) [-Bool.decide_and, -Bool.decide_or, -Bool.not_and, -Bool.not_or, toNat_pred, toNat_succ, wrap64, wr_new, wr_new0, ok_if, ok_ifn, iadV_sl, makeV_int, decT, decF, over_at, *, c_l01Few hA, hA.len, c_l06Read hA (by omega) h2 hx h1]) | (with_reducible refine Gd_split (fun hc => ?_) (fun hc => ?_) <;> (have hc2 := hc; try simp at hc2)) | (with_reducible refine Br_split (fun hc => ?_) (fun hc => ?_) <;> (have hc2 := hc; try simp at hc2)) | (with_reducible refine GdT_split (fun hc => ?_) (fun hc => ?_) <;> (have hc2 := hc; try simp at hc2)) | (with_reducible refine WT_alt ?_ ?_) | omega)
    · have h2' : ¬ (xs.length : Int) ≤ 256 := by omega
      have e : readT kind xs x = .tup [.lf (.flt .f32 0), .lf (.bool false)] := by unfold readT; rw [if_neg]; exact fun q => h2 q.2.1
      rw [e]
      refine CallT_pure (F := L50) (HasRt.f50) rfl (by first | rfl | (split <;> rfl) | simp) ?_; unfold L50; dsimp only []
      repeat' (first | (simp (disch := first | omega | assumption | (simp only [List.length_set]; omega) | (simp [*] <;> fail) | assumption) [-Bool.decide_and, -Bool.decide_or, -Bool.not_and, -Bool.not_or, toNat_pred, toNat_succ, wrap64, wr_new, wr_new0, ok_if, ok_ifn, iadV_sl, makeV_int, decT, decF, over_at, *, c_l01Few hA]) | (with_reducible refine Gd_split (fun hc => ?_) (fun hc => ?_) <;> (have hc2 := hc; try simp at hc2)) | (with_reducible refine Br_split (fun hc => ?_) (fun hc => ?_) <;> (have hc2 := hc; try simp at hc2)) | (with_reducible refine GdT_split (fun hc => ?_) (fun hc => ?_) <;> (have hc2 := hc; try simp at hc2)) | (with_reducible refine WT_alt ?_ ?_) | omega)
  · have e : readT kind xs x = .tup [.lf (.flt .f32 0), .lf (.bool false)] := by unfold readT; rw [if_neg]; exact fun q => h1 q.1
    rw [e]
    refine CallT_pure (F := L50) (HasRt.f50) rfl (by first | rfl | (split <;> rfl) | simp) ?_; unfold L50; dsimp only []
    repeat' (first | (simp (disch := first | omega | assumption | (simp only [List.length_set]; omega) | (simp [*] <;> fail) | assumption) [-Bool.decide_and, -Bool.decide_or, -Bool.not_and, -Bool.not_or, toNat_pred, toNat_succ, wrap64, wr_new, wr_new0, ok_if, ok_ifn, iadV_sl, makeV_int, decT, decF, over_at, *, c_l01Few hA]) | (with_reducible refine Gd_split (fun hc => ?_) (fun hc => ?_) <;> (have hc2 := hc; try simp at hc2)) | (with_reducible refine Br_split (fun hc => ?_) (fun hc => ?_) <;> (have hc2 := hc; try simp at hc2)) | (with_reducible refine GdT_split (fun hc => ?_) (fun hc => ?_) <;> (have hc2 := hc; try simp at hc2)) | (with_reducible refine WT_alt ?_ ?_) | omega)
theorem c_implReadAt {kind : Int} {x : Nat} (hA : Arr h l 1 (xs.map fl)) (hx : CD x) : CallT S true 51 [.lf (.int .i64 kind), .lf l, .lf (.flt .f64 x)] h lim K = K (readT kind xs x) h := by
  by_cases h1 : 0 ≤ kind ∧ kind ≤ 2
  · by_cases h2 : xs.length ≤ 256
    · have h2' : (xs.length : Int) ≤ 256 := by omega
      cases hp : okPl xs.length x
      · have e : readT kind xs x = .tup [.lf (.flt .f32 0), .lf (.bool false)] := by unfold readT; rw [if_neg]; intro q; have := q.2.2; rw [hp] at this; cases this
        rw [e]
        refine CallT_pure (F := L51) (HasRt.f51) rfl (by first | rfl | (split <;> rfl) | simp) ?_; unfold L51; dsimp only []
        repeat' (first | (simp (disch := first | omega | assumption | (simp only [List.length_set]; omega) | (simp [*] <;> fail) | assumption) [-Bool.decide_and, -Bool.decide_or, -Bool.not_and, -Bool.not_or, toNat_pred, toNat_succ, wrap64, wr_new, wr_new0, ok_if, ok_ifn, iadV_sl, makeV_int, decT, decF, over_at, *, c_areSamples hA, c_isPlaceOf hA h2]) | (with_reducible refine Gd_split (fun hc => ?_) (fun hc => ?_) <;> (have hc2 := hc; try simp at hc2)) | (with_reducible refine Br_split (fun hc => ?_) (fun hc => ?_) <;> (have hc2 := hc; try simp at hc2)) | (with_reducible refine GdT_split (fun hc => ?_) (fun hc => ?_) <;> (have hc2 := hc; try simp at hc2)) | (with_reducible refine WT_alt ?_ ?_) | omega)
      · have e : readT kind xs x = .tup [.lf (.flt .f32 (rdAt kind xs x)), .lf (.bool true)] := by unfold readT; rw [if_pos ⟨h1, h2, hp⟩]
        have h3 : 0 < xs.length := by
          rcases Nat.eq_zero_or_pos xs.length with q | q
          · rw [q, okPl_zero] at hp; cases hp
          · exact q
        rw [e]
        refine CallT_pure (F := L51) (HasRt.f51) rfl (by first | rfl | (split <;> rfl) | simp) ?_; unfold L51; dsimp only []
        repeat' (first | (simp (disch := first | omega | assumption | (simp only [List.length_set]; omega) | (simp [*] <;> fail) | assumption) [-Bool.decide_and, -Bool.decide_or, -Bool.not_and, -Bool.not_or, toNat_pred, toNat_succ, wrap64, wr_new, wr_new0, ok_if, ok_ifn, iadV_sl, makeV_int, decT, decF, over_at, *, c_areSamples hA, c_isPlaceOf hA h2, c_readAt hA h3 h2 hx h1 hp]) | (with_reducible refine Gd_split (fun hc => ?_) (fun hc => ?_) <;> (have hc2 := hc; try simp at hc2)) | (with_reducible refine Br_split (fun hc => ?_) (fun hc => ?_) <;> (have hc2 := hc; try simp at hc2)) | (with_reducible refine GdT_split (fun hc => ?_) (fun hc => ?_) <;> (have hc2 := hc; try simp at hc2)) | (with_reducible refine WT_alt ?_ ?_) | omega)
    · have h2' : ¬ (xs.length : Int) ≤ 256 := by omega
      have e : readT kind xs x = .tup [.lf (.flt .f32 0), .lf (.bool false)] := by unfold readT; rw [if_neg]; exact fun q => h2 q.2.1
      rw [e]
      refine CallT_pure (F := L51) (HasRt.f51) rfl (by first | rfl | (split <;> rfl) | simp) ?_; unfold L51; dsimp only []
      repeat' (first | (simp (disch := first | omega | assumption | (simp only [List.length_set]; omega) | (simp [*] <;> fail) | assumption) [-Bool.decide_and, -Bool.decide_or, -Bool.not_and, -Bool.not_or, toNat_pred, toNat_succ, wrap64, wr_new, wr_new0, ok_if, ok_ifn, iadV_sl, makeV_int, decT, decF, over_at, *, c_areSamples hA]) | (with_reducible refine Gd_split (fun hc => ?_) (fun hc => ?_) <;> (have hc2 := hc; try simp at hc2)) | (with_reducible refine Br_split (fun hc => ?_) (fun hc => ?_) <;> (have hc2 := hc; try simp at hc2)) | (with_reducible refine GdT_split (fun hc => ?_) (fun hc => ?_) <;> (have hc2 := hc; try simp at hc2)) | (with_reducible refine WT_alt ?_ ?_) | omega)
  · have e : readT kind xs x = .tup [.lf (.flt .f32 0), .lf (.bool false)] := by unfold readT; rw [if_neg]; exact fun q => h1 q.1
    rw [e]
    refine CallT_pure (F := L51) (HasRt.f51) rfl (by first | rfl | (split <;> rfl) | simp) ?_; unfold L51; dsimp only []
    repeat' (first | (simp (disch := first | omega | assumption | (simp only [List.length_set]; omega) | (simp [*] <;> fail) | assumption) [-Bool.decide_and, -Bool.decide_or, -Bool.not_and, -Bool.not_or, toNat_pred, toNat_succ, wrap64, wr_new, wr_new0, ok_if, ok_ifn, iadV_sl, makeV_int, decT, decF, over_at, *, c_areSamples hA]) | (with_reducible refine Gd_split (fun hc => ?_) (fun hc => ?_) <;> (have hc2 := hc; try simp at hc2)) | (with_reducible refine Br_split (fun hc => ?_) (fun hc => ?_) <;> (have hc2 := hc; try simp at hc2)) | (with_reducible refine GdT_split (fun hc => ?_) (fun hc => ?_) <;> (have hc2 := hc; try simp at hc2)) | (with_reducible refine WT_alt ?_ ?_) | omega)
end
end Go.E
