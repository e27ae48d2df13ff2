/- PlayAt, both sides. -/
import Derived.Test.YtpakemggfjmfcaaMRd
set_option linter.unusedVariables false
set_option linter.unusedSimpArgs false
namespace Go.E
open Go
def L97 : LFn := ⟨1, (.seq (.reg [⟨(.some 2), (.mv (.c (.lf (.bool false)))), none⟩])
 (.seq (.reg [⟨(.some 3), (.mv (.t 0)), none⟩, ⟨(.some 4), (.call true 150 [(.t 3), (.c (.lf (.int .i64 0))), (.c (.lf (.int .i64 256)))]), none⟩, ⟨(.some 2), (.mv (.t 4)), none⟩])
 .ret)), [(.tmp 2)]⟩
def L96 : LFn := ⟨1, (.seq (.reg [⟨(.some 2), (.mv (.c (.lf (.bool false)))), none⟩])
 (.seq (.reg [⟨(.some 3), (.mv (.t 0)), none⟩, ⟨(.some 4), (.mv (.t 0)), none⟩, ⟨(.some 5), (.bin .sub (.t 3) (.t 4)), none⟩, ⟨(.some 6), (.bin .eql (.t 5) (.c (.lf (.flt .f64 0)))), none⟩, ⟨(.some 2), (.mv (.t 6)), none⟩])
 .ret)), [(.tmp 2)]⟩
def L24 : LFn := ⟨5, (.seq (.reg [⟨(.some 10), (.mv (.c (.lf .nils))), none⟩, ⟨(.some 11), (.mv (.c (.lf (.bool false)))), none⟩])
 (.seq (.seq (.reg [⟨(.some 17), (.mv (.t 0)), none⟩, ⟨(.some 18), (.call true 92 [(.t 17)]), none⟩, ⟨(.some 19), (.una .not (.t 18)), none⟩, ⟨(.some 20), (.mv (.t 19)), none⟩, ⟨(.some 21), (.mv (.t 1)), (.some (20, false))⟩, ⟨(.some 22), (.call true 86 [(.t 21)]), (.some (20, false))⟩, ⟨(.some 23), (.una .not (.t 22)), (.some (20, false))⟩, ⟨(.some 24), (.pick (.t 20) (.c (.lf (.bool true))) (.t 23)), none⟩, ⟨(.some 25), (.mv (.t 24)), none⟩, ⟨(.some 26), (.mv (.t 3)), (.some (25, false))⟩, ⟨(.some 27), (.mv (.t 3)), (.some (25, false))⟩, ⟨(.some 28), (.bin .sub (.t 26) (.t 27)), (.some (25, false))⟩, ⟨(.some 29), (.bin .neq (.t 28) (.c (.lf (.flt .f64 0)))), (.some (25, false))⟩, ⟨(.some 30), (.pick (.t 25) (.c (.lf (.bool true))) (.t 29)), none⟩, ⟨(.some 31), (.mv (.t 30)), none⟩, ⟨(.some 32), (.mv (.t 4)), (.some (31, false))⟩, ⟨(.some 33), (.call true 93 [(.t 32), (.c (.lf (.int .i64 0))), (.c (.lf (.int .i64 256)))]), (.some (31, false))⟩, ⟨(.some 34), (.una .not (.t 33)), (.some (31, false))⟩, ⟨(.some 35), (.pick (.t 31) (.c (.lf (.bool true))) (.t 34)), none⟩])
 (.cond (.t 35) (.seq (.reg [⟨(.some 10), (.mv (.c (.lf .nils))), none⟩, ⟨(.some 11), (.mv (.c (.lf (.bool false)))), none⟩])
 .ret) .skip))
 (.seq (.reg [⟨(.some 36), (.lit 22 1 0 [] []), none⟩, ⟨(.some 12), (.mv (.t 36)), none⟩])
 (.seq (.reg [⟨(.some 37), (.mv (.t 2)), none⟩, ⟨(.some 13), (.mv (.t 37)), none⟩])
 (.seq (.seq (.reg [⟨(.some 14), (.mv (.c (.lf (.int .i64 0)))), none⟩])
 (.block 0 (.loop (.seq (.seq (.reg [⟨(.some 38), (.mv (.t 14)), none⟩, ⟨(.some 39), (.mv (.t 4)), none⟩, ⟨(.some 40), (.bin .lss (.t 38) (.t 39)), none⟩])
 (.cond (.t 40) .skip (.exit 0)))
 (.seq (.block 1 (.seq (.seq (.reg [⟨(.some 43), (.mv (.t 1)), none⟩, ⟨(.some 44), (.len (.t 43)), none⟩, ⟨(.some 45), (.bin .eql (.t 44) (.c (.lf (.int .i64 0)))), none⟩])
 (.cond (.t 45) (.seq (.reg [⟨(.some 10), (.mv (.c (.lf .nils))), none⟩, ⟨(.some 11), (.mv (.c (.lf (.bool false)))), none⟩])
 .ret) .skip))
 (.seq (.reg [⟨(.some 47), (.mv (.t 0)), none⟩, ⟨(.some 48), (.mv (.t 1)), none⟩, ⟨(.some 49), (.mv (.t 13)), none⟩, ⟨(.some 50), (.call true 94 [(.t 47), (.t 48), (.t 49)]), none⟩, ⟨(.some 46), (.mv (.t 50)), none⟩, ⟨(.some 51), (.ext (.t 46) 0), none⟩, ⟨(.some 52), (.ext (.t 46) 1), none⟩, ⟨(.some 15), (.mv (.t 51)), none⟩, ⟨(.some 16), (.mv (.t 52)), none⟩])
 (.seq (.seq (.reg [⟨(.some 53), (.mv (.t 16)), none⟩, ⟨(.some 54), (.una .not (.t 53)), none⟩])
 (.cond (.t 54) (.seq (.reg [⟨(.some 10), (.mv (.c (.lf .nils))), none⟩, ⟨(.some 11), (.mv (.c (.lf (.bool false)))), none⟩])
 .ret) .skip))
 (.seq (.reg [⟨(.some 55), (.mv (.t 12)), none⟩, ⟨(.some 56), (.mv (.t 15)), none⟩, ⟨(.some 57), (.lit 22 1 1 [(.flt .f32 0)] [(0, (1, (.t 56)))]), none⟩, ⟨(.some 58), (.app 22 1 4 (.t 55) (.t 57)), none⟩, ⟨(.some 12), (.mv (.t 58)), none⟩])
 (.reg [⟨(.some 59), (.mv (.t 13)), none⟩, ⟨(.some 60), (.mv (.t 3)), none⟩, ⟨(.some 61), (.bin .add (.t 59) (.t 60)), none⟩, ⟨(.some 13), (.mv (.t 61)), none⟩]))))))
 (.reg [⟨(.some 41), (.mv (.t 14)), none⟩, ⟨(.some 42), (.bin .add (.t 41) (.c (.lf (.int .i64 1)))), none⟩, ⟨(.some 14), (.mv (.t 42)), none⟩]))))))
 (.seq (.reg [⟨(.some 62), (.mv (.t 12)), none⟩, ⟨(.some 10), (.mv (.t 62)), none⟩, ⟨(.some 11), (.mv (.c (.lf (.bool true)))), none⟩])
 .ret)))))), [(.tmp 10), (.tmp 11)]⟩
def L25 : LFn := ⟨5, (.seq (.reg [⟨(.some 10), (.mv (.c (.lf .nils))), none⟩, ⟨(.some 11), (.mv (.c (.lf (.bool false)))), none⟩])
 (.seq (.seq (.reg [⟨(.some 13), (.mv (.t 0)), none⟩, ⟨(.some 14), (.call true 95 [(.t 13)]), none⟩, ⟨(.some 15), (.una .not (.t 14)), none⟩, ⟨(.some 16), (.mv (.t 15)), none⟩, ⟨(.some 17), (.mv (.t 1)), (.some (16, false))⟩, ⟨(.some 18), (.call true 89 [(.t 17)]), (.some (16, false))⟩, ⟨(.some 19), (.una .not (.t 18)), (.some (16, false))⟩, ⟨(.some 20), (.pick (.t 16) (.c (.lf (.bool true))) (.t 19)), none⟩, ⟨(.some 21), (.mv (.t 20)), none⟩, ⟨(.some 22), (.mv (.t 3)), (.some (21, false))⟩, ⟨(.some 23), (.call true 96 [(.t 22)]), (.some (21, false))⟩, ⟨(.some 24), (.una .not (.t 23)), (.some (21, false))⟩, ⟨(.some 25), (.pick (.t 21) (.c (.lf (.bool true))) (.t 24)), none⟩, ⟨(.some 26), (.mv (.t 25)), none⟩, ⟨(.some 27), (.mv (.t 4)), (.some (26, false))⟩, ⟨(.some 28), (.call true 97 [(.t 27)]), (.some (26, false))⟩, ⟨(.some 29), (.una .not (.t 28)), (.some (26, false))⟩, ⟨(.some 30), (.pick (.t 26) (.c (.lf (.bool true))) (.t 29)), none⟩])
 (.cond (.t 30) (.seq (.reg [⟨(.some 10), (.mv (.c (.lf .nils))), none⟩, ⟨(.some 11), (.mv (.c (.lf (.bool false)))), none⟩])
 .ret) .skip))
 (.seq (.reg [⟨(.some 12), (.mv (.c (.lf .nils))), none⟩])
 (.seq (.block 0 (.loop (.seq (.seq (.reg [⟨(.some 31), (.mv (.t 4)), none⟩, ⟨(.some 32), (.bin .gtr (.t 31) (.c (.lf (.int .i64 0)))), none⟩])
 (.cond (.t 32) .skip (.exit 0)))
 (.seq (.block 1 (.seq (.seq (.reg [⟨(.some 35), (.mv (.t 1)), none⟩, ⟨(.some 36), (.mv (.t 2)), none⟩, ⟨(.some 37), (.call true 98 [(.t 35), (.t 36)]), none⟩, ⟨(.some 38), (.una .not (.t 37)), none⟩])
 (.cond (.t 38) (.seq (.reg [⟨(.some 10), (.mv (.c (.lf .nils))), none⟩, ⟨(.some 11), (.mv (.c (.lf (.bool false)))), none⟩])
 .ret) .skip))
 (.seq (.reg [⟨(.some 39), (.mv (.t 12)), none⟩, ⟨(.some 40), (.mv (.t 0)), none⟩, ⟨(.some 41), (.mv (.t 1)), none⟩, ⟨(.some 42), (.mv (.t 2)), none⟩, ⟨(.some 43), (.call true 99 [(.t 40), (.t 41), (.t 42)]), none⟩, ⟨(.some 44), (.lit 22 1 1 [(.flt .f32 0)] [(0, (1, (.t 43)))]), none⟩, ⟨(.some 45), (.app 22 1 4 (.t 39) (.t 44)), none⟩, ⟨(.some 12), (.mv (.t 45)), none⟩])
 (.reg [⟨(.some 46), (.mv (.t 2)), none⟩, ⟨(.some 47), (.mv (.t 3)), none⟩, ⟨(.some 48), (.bin .add (.t 46) (.t 47)), none⟩, ⟨(.some 2), (.mv (.t 48)), none⟩]))))
 (.reg [⟨(.some 33), (.mv (.t 4)), none⟩, ⟨(.some 34), (.bin .sub (.t 33) (.c (.lf (.int .i64 1)))), none⟩, ⟨(.some 4), (.mv (.t 34)), none⟩])))))
 (.seq (.reg [⟨(.some 49), (.mv (.t 12)), none⟩, ⟨(.some 10), (.mv (.t 49)), none⟩, ⟨(.some 11), (.mv (.c (.lf (.bool true)))), none⟩])
 .ret))))), [(.tmp 10), (.tmp 11)]⟩
class HasPa (S : Sys) : Prop extends HasRd S where
  f97 : S.fs 97 = some L97
  f96 : S.fs 96 = some L96
  f24 : S.fs 24 = some L24
  f25 : S.fs 25 = some L25
theorem okPl_zero {x : Nat} : okPl 0 x = false := by
  unfold okPl
  cases hc : isNaN .f64 x
  · have h0n : isNaN .f64 0 = false := by decide +kernel
    rw [geq64 hc h0n, leq64 hc (fofint_not_nan _ _), D_zero, D_int (by decide)]
    have hU := U_pos
    have : ¬ (0 ≤ D x ∧ D x ≤ (((0 : Nat) : Int) - 1) * U) := by omega
    rw [← Bool.decide_and, decide_eq_false_iff_not]
    exact this
  · rw [cmp_nan1 hc (by decide)]; rfl
def posN (x d : Nat) : Nat → Nat
  | 0 => x
  | i + 1 => fbin .add .f64 (posN x d i) d
theorem posN_CD {x d : Nat} (hx : CD x) : ∀ {i : Nat}, CD (posN x d i)
  | 0 => hx
  | i + 1 => CD_bin
def okPa (kind : Int) (n x d : Nat) (c : Int) : Prop := (0 ≤ kind ∧ kind ≤ 2) ∧ n ≤ 256 ∧ fcmp .eql .f64 (fbin .sub .f64 d d) 0 = true ∧ (0 ≤ c ∧ c ≤ 256) ∧ ∀ i, i < c.toNat → okPl n (posN x d i) = true
noncomputable instance {kind : Int} {n x d : Nat} {c : Int} : Decidable (okPa kind n x d c) := Classical.propDecidable _
noncomputable def playN (kind : Int) (xs : List Nat) (x d i : Nat) : Nat := rdAt kind xs (posN x d i)
noncomputable def playA (kind : Int) (xs : List Nat) (x d : Nat) (c : Int) : List Nat := if okPa kind xs.length x d c then tabTo (playN kind xs x d) c.toNat else []
theorem playA_len {kind : Int} {xs : List Nat} {x d : Nat} {c : Int} : (playA kind xs x d c).length ≤ 256 := by
  unfold playA
  split
  · rename_i hk; rw [tabTo_len]; have := hk.2.2.2.1; omega
  · simp
section
variable {S : Sys} {lim : Nat} {h : Hp} {K : CV → Hp → Prop} [HasPa S] {l : Lf} {xs : List Nat}
@[simp] theorem c_isCount {x : Int} : CallT S true 97 [.lf (.int .i64 x)] h lim K = K (.lf (.bool (decide (0 ≤ x ∧ x ≤ 256)))) h := by
  refine CallT_pure (F := L97) (HasPa.f97) rfl (by first | rfl | (split <;> rfl) | simp) ?_; unfold L97; dsimp only []
  repeat' (first | (simp (disch := first | omega | assumption | (simp only [List.length_set]; omega) | (simp [*] <;> fail) | assumption) [-Bool.decide_and, -Bool.decide_or, -Bool.not_and, -Bool.not_or, toNat_pred, toNat_succ, wrap64, wr_new, wr_new0, ok_if, ok_ifn, iadV_sl, makeV_int, decT, decF, over_at, *]) | (with_reducible refine Gd_split (fun hc => ?_) (fun hc => ?_) <;> (have hc2 := hc; try simp at hc2)) | (with_reducible refine Br_split (fun hc => ?_) (fun hc => ?_) <;> (have hc2 := hc; try simp at hc2)) | (with_reducible refine GdT_split (fun hc => ?_) (fun hc => ?_) <;> (have hc2 := hc; try simp at hc2)) | (with_reducible refine WT_alt ?_ ?_) | omega)
@[simp] theorem c_isFinite {x : Nat} : CallT S true 96 [.lf (.flt .f64 x)] h lim K = K (.lf (.bool (fcmp .eql .f64 (fbin .sub .f64 x x) 0))) h := by
  refine CallT_pure (F := L96) (HasPa.f96) rfl (by first | rfl | (split <;> rfl) | simp) ?_; unfold L96; dsimp only []
  repeat' (first | (simp (disch := first | omega | assumption | (simp only [List.length_set]; omega) | (simp [*] <;> fail) | assumption) [-Bool.decide_and, -Bool.decide_or, -Bool.not_and, -Bool.not_or, toNat_pred, toNat_succ, wrap64, wr_new, wr_new0, ok_if, ok_ifn, iadV_sl, makeV_int, decT, decF, over_at, *]) | (with_reducible refine Gd_split (fun hc => ?_) (fun hc => ?_) <;> (have hc2 := hc; try simp at hc2)) | (with_reducible refine Br_split (fun hc => ?_) (fun hc => ?_) <;> (have hc2 := hc; try simp at hc2)) | (with_reducible refine GdT_split (fun hc => ?_) (fun hc => ?_) <;> (have hc2 := hc; try simp at hc2)) | (with_reducible refine WT_alt ?_ ?_) | omega)
theorem c_specPlayAt {kind : Int} {x d : Nat} {c : Int} (hA : Arr h l 1 (xs.map fl)) (hx : CD x) (hl : lim ≤ h.length) (hT : okPa kind xs.length x d c → ∀ o g, New h g o 22 1 ((tabTo (playN kind xs x d) c.toNat).map fl) → K (.tup [.lf o, .lf (.bool true)]) g) (hF : ¬ okPa kind xs.length x d c → ∀ g, Kept h g → K (.tup [.lf .nils, .lf (.bool false)]) g) :
    CallT S false 24 [.lf (.int .i64 kind), .lf l, .lf (.flt .f64 x), .lf (.flt .f64 d), .lf (.int .i64 c)] h lim K := by
  by_cases h1 : 0 ≤ kind ∧ kind ≤ 2
  · by_cases h2 : xs.length ≤ 256
    · have h2' : (xs.length : Int) ≤ 256 := by omega
      cases h3 : fcmp .eql .f64 (fbin .sub .f64 d d) 0
      · have hF2 := hF (fun q => by rw [q.2.2.1] at h3; cases h3) h (Kept.refl h)
        clear hF hT
        refine CallT_of_body (F := L24) (HasPa.f24) rfl ?_; unfold L24; dsimp only []
        repeat' (first | (simp (disch := first | omega | assumption | (simp only [List.length_set]; omega) | (simp [*] <;> fail) | assumption) [-Bool.decide_and, -Bool.decide_or, -Bool.not_and, -Bool.not_or, toNat_pred, toNat_succ, wrap64, wr_new, wr_new0, ok_if, ok_ifn, iadV_sl, makeV_int, decT, decF, over_at, *, c_l01Few hA, fcmp_neq]) | (with_reducible refine Gd_split (fun hc => ?_) (fun hc => ?_) <;> (have hc2 := hc; try simp at hc2)) | (with_reducible refine Br_split (fun hc => ?_) (fun hc => ?_) <;> (have hc2 := hc; try simp at hc2)) | (with_reducible refine GdT_split (fun hc => ?_) (fun hc => ?_) <;> (have hc2 := hc; try simp at hc2)) | (with_reducible refine WT_alt ?_ ?_) | omega)
      · by_cases h4 : 0 ≤ c ∧ c ≤ 256
        · obtain ⟨n, rfl⟩ := Int.eq_ofNat_of_zero_le h4.1
          simp only [Int.toNat_natCast] at hT
          refine CallT_of_body (F := L24) (HasPa.f24) rfl ?_; unfold L24; dsimp only []
          repeat' (first | (simp (disch := first | omega | assumption | (simp only [List.length_set]; omega) | (simp [*] <;> fail) | assumption) [-Bool.decide_and, -Bool.decide_or, -Bool.not_and, -Bool.not_or, toNat_pred, toNat_succ, wrap64, wr_new, wr_new0, ok_if, ok_ifn, iadV_sl, makeV_int, decT, decF, over_at, *, c_l01Few hA, fcmp_neq, leavesAll, fillL]) | (with_reducible refine Gd_split (fun hc => ?_) (fun hc => ?_) <;> (have hc2 := hc; try simp at hc2)) | (with_reducible refine Br_split (fun hc => ?_) (fun hc => ?_) <;> (have hc2 := hc; try simp at hc2)) | (with_reducible refine GdT_split (fun hc => ?_) (fun hc => ?_) <;> (have hc2 := hc; try simp at hc2)) | (with_reducible refine WT_alt ?_ ?_) | omega)
          refine WL_forM 4611685743549611008 (by decide +kernel) (n) (fun i b g => i ≤ n ∧ b 14 = .lf (.int .i64 i) ∧ b 13 = .lf (.flt .f64 (posN x d i)) ∧ (∀ j, j < i → okPl xs.length (posN x d j) = true) ∧ ∃ o, b 12 = .lf o ∧ New h g o 22 1 ((tabTo (playN kind xs x d) i).map fl)) (fun _ _ _ hi => hi.1) ⟨by simp, by simp, by simp [posN], fun j hj => absurd hj (Nat.not_lt_zero _), .sl h.length 0 0 1, by simp, by simpa using New.lit0⟩ ?_
          rintro i b g ⟨hi, e14, e13, hok, o, e12, hN⟩
          have hA1 := hA.kept hN.kept
          have hlo := tabTo_len (f := playN kind xs x d) (n := i)
          by_cases hlt : i < n
          · by_cases h0 : xs.length = 0
            · have hF2 := hF (fun q => by have := q.2.2.2.2 i (by simpa using hlt); rw [h0, okPl_zero] at this; cases this) g hN.kept
              have h0' : (xs.length : Int) = 0 := by omega
              clear hF hT
              replace hok : Hid (∀ j, j < i → okPl xs.length (posN x d j) = true) := hok
              repeat' (first | (simp (disch := first | omega | assumption | (simp only [List.length_set]; omega) | (simp [*] <;> fail) | assumption) [-Bool.decide_and, -Bool.decide_or, -Bool.not_and, -Bool.not_or, toNat_pred, toNat_succ, wrap64, wr_new, wr_new0, ok_if, ok_ifn, iadV_sl, makeV_int, decT, decF, over_at, *, hA1.len]) | (with_reducible refine Gd_split (fun hc => ?_) (fun hc => ?_) <;> (have hc2 := hc; try simp at hc2)) | (with_reducible refine Br_split (fun hc => ?_) (fun hc => ?_) <;> (have hc2 := hc; try simp at hc2)) | (with_reducible refine GdT_split (fun hc => ?_) (fun hc => ?_) <;> (have hc2 := hc; try simp at hc2)) | (with_reducible refine WT_alt ?_ ?_) | omega)
            · have h0' : ¬ (xs.length : Int) = 0 := by omega
              have cr := fun K lim => c_l06Read (S := S) (K := K) (lim := lim) hA1 (by omega) h2 (posN_CD (d := d) (i := i) hx) h1
              cases hp : okPl xs.length (posN x d i)
              · have hF2 := hF (fun q => by have := q.2.2.2.2 i (by simpa using hlt); rw [hp] at this; cases this) g hN.kept
                rw [hp] at cr
                clear hF hT
                replace hok : Hid (∀ j, j < i → okPl xs.length (posN x d j) = true) := hok
                repeat' (first | (simp (disch := first | omega | assumption | (simp only [List.length_set]; omega) | (simp [*] <;> fail) | assumption) [-Bool.decide_and, -Bool.decide_or, -Bool.not_and, -Bool.not_or, toNat_pred, toNat_succ, wrap64, wr_new, wr_new0, ok_if, ok_ifn, iadV_sl, makeV_int, decT, decF, over_at, *, hA1.len]) | (with_reducible refine Gd_split (fun hc => ?_) (fun hc => ?_) <;> (have hc2 := hc; try simp at hc2)) | (with_reducible refine Br_split (fun hc => ?_) (fun hc => ?_) <;> (have hc2 := hc; try simp at hc2)) | (with_reducible refine GdT_split (fun hc => ?_) (fun hc => ?_) <;> (have hc2 := hc; try simp at hc2)) | (with_reducible refine WT_alt ?_ ?_) | omega)
              · have s1 := tabTo_fl (f := playN kind xs x d) (n := i)
                have hok2 : ∀ j, j < i + 1 → okPl xs.length (posN x d j) = true := fun j hj => by
                  rcases Nat.lt_succ_iff_lt_or_eq.1 hj with q | q
                  · exact hok j q
                  · rw [q]; exact hp
                have hd : rdAt kind xs (posN x d i) = playN kind xs x d i := rfl
                have hps : fbin .add .f64 (posN x d i) d = posN x d (i + 1) := rfl
                rw [hp, hd] at cr
                generalize playN kind xs x d i = y at *
                generalize posN x d i = p at *
                clear hF hT hd hok hp
                replace hok2 : Hid (∀ j, j < i + 1 → okPl xs.length (posN x d j) = true) := hok2
                repeat' (first | (simp (disch := first | omega | assumption | (simp only [List.length_set]; omega) | (simp [*] <;> fail) | assumption) [-Bool.decide_and, -Bool.decide_or, -Bool.not_and, -Bool.not_or, toNat_pred, toNat_succ, wrap64, wr_new, wr_new0, ok_if, ok_ifn, iadV_sl, makeV_int, decT, decF, over_at, *, hA1.len, leavesAll, fillL]) | (with_reducible refine Gd_split (fun hc => ?_) (fun hc => ?_) <;> (have hc2 := hc; try simp at hc2)) | (with_reducible refine Br_split (fun hc => ?_) (fun hc => ?_) <;> (have hc2 := hc; try simp at hc2)) | (with_reducible refine GdT_split (fun hc => ?_) (fun hc => ?_) <;> (have hc2 := hc; try simp at hc2)) | (with_reducible refine WT_alt ?_ ?_) | omega)
                refine oc_push hN hl (by simp; omega) fun q g1 hP hC => ?_
                rw [← s1] at hP
                clear s1
                repeat' (first | (simp (disch := first | omega | assumption | (simp only [List.length_set]; omega) | (simp [*] <;> fail) | assumption) [-Bool.decide_and, -Bool.decide_or, -Bool.not_and, -Bool.not_or, toNat_pred, toNat_succ, wrap64, wr_new, wr_new0, ok_if, ok_ifn, iadV_sl, makeV_int, decT, decF, over_at, *]) | (with_reducible refine Gd_split (fun hc => ?_) (fun hc => ?_) <;> (have hc2 := hc; try simp at hc2)) | (with_reducible refine Br_split (fun hc => ?_) (fun hc => ?_) <;> (have hc2 := hc; try simp at hc2)) | (with_reducible refine GdT_split (fun hc => ?_) (fun hc => ?_) <;> (have hc2 := hc; try simp at hc2)) | (with_reducible refine WT_alt ?_ ?_) | omega)
                all_goals ((repeat' apply And.intro) <;> first | omega | assumption)
          · have : i = n := by omega
            subst this
            have hT2 := hT ⟨h1, h2, h3, h4, by simpa using hok⟩ _ _ hN
            clear hF hT hok
            repeat' (first | (simp (disch := first | omega | assumption | (simp only [List.length_set]; omega) | (simp [*] <;> fail) | assumption) [-Bool.decide_and, -Bool.decide_or, -Bool.not_and, -Bool.not_or, toNat_pred, toNat_succ, wrap64, wr_new, wr_new0, ok_if, ok_ifn, iadV_sl, makeV_int, decT, decF, over_at, *]) | (with_reducible refine Gd_split (fun hc => ?_) (fun hc => ?_) <;> (have hc2 := hc; try simp at hc2)) | (with_reducible refine Br_split (fun hc => ?_) (fun hc => ?_) <;> (have hc2 := hc; try simp at hc2)) | (with_reducible refine GdT_split (fun hc => ?_) (fun hc => ?_) <;> (have hc2 := hc; try simp at hc2)) | (with_reducible refine WT_alt ?_ ?_) | omega)
        · have hF2 := hF (fun q => h4 q.2.2.2.1) h (Kept.refl h)
          clear hF hT
          refine CallT_of_body (F := L24) (HasPa.f24) rfl ?_; unfold L24; dsimp only []
          repeat' (first | (simp (disch := first | omega | assumption | (simp only [List.length_set]; omega) | (simp [*] <;> fail) | assumption) [-Bool.decide_and, -Bool.decide_or, -Bool.not_and, -Bool.not_or, toNat_pred, toNat_succ, wrap64, wr_new, wr_new0, ok_if, ok_ifn, iadV_sl, makeV_int, decT, decF, over_at, *, c_l01Few hA, fcmp_neq]) | (with_reducible refine Gd_split (fun hc => ?_) (fun hc => ?_) <;> (have hc2 := hc; try simp at hc2)) | (with_reducible refine Br_split (fun hc => ?_) (fun hc => ?_) <;> (have hc2 := hc; try simp at hc2)) | (with_reducible refine GdT_split (fun hc => ?_) (fun hc => ?_) <;> (have hc2 := hc; try simp at hc2)) | (with_reducible refine WT_alt ?_ ?_) | omega)
    · have h2' : ¬ (xs.length : Int) ≤ 256 := by omega
      have hF2 := hF (fun q => h2 q.2.1) h (Kept.refl h)
      clear hF hT
      refine CallT_of_body (F := L24) (HasPa.f24) rfl ?_; unfold L24; dsimp only []
      repeat' (first | (simp (disch := first | omega | assumption | (simp only [List.length_set]; omega) | (simp [*] <;> fail) | assumption) [-Bool.decide_and, -Bool.decide_or, -Bool.not_and, -Bool.not_or, toNat_pred, toNat_succ, wrap64, wr_new, wr_new0, ok_if, ok_ifn, iadV_sl, makeV_int, decT, decF, over_at, *, c_l01Few hA]) | (with_reducible refine Gd_split (fun hc => ?_) (fun hc => ?_) <;> (have hc2 := hc; try simp at hc2)) | (with_reducible refine Br_split (fun hc => ?_) (fun hc => ?_) <;> (have hc2 := hc; try simp at hc2)) | (with_reducible refine GdT_split (fun hc => ?_) (fun hc => ?_) <;> (have hc2 := hc; try simp at hc2)) | (with_reducible refine WT_alt ?_ ?_) | omega)
  · have hF2 := hF (fun q => h1 q.1) h (Kept.refl h)
    clear hF hT
    refine CallT_of_body (F := L24) (HasPa.f24) rfl ?_; unfold L24; dsimp only []
    repeat' (first | (simp (disch := first | omega | assumption | (simp only [List.length_set]; omega) | (simp [*] <;> fail) | assumption) [-Bool.decide_and, -Bool.decide_or, -Bool.not_and, -Bool.not_or, toNat_pred, toNat_succ, wrap64, wr_new, wr_new0, ok_if, ok_ifn, iadV_sl, makeV_int, decT, decF, over_at, *, c_l01Few hA]) | (with_reducible refine Gd_split (fun hc => ?_) (fun hc => ?_) <;> (have hc2 := hc; try simp at hc2)) | (with_reducible refine Br_split (fun hc => ?_) (fun hc => ?_) <;> (have hc2 := hc; try simp at hc2)) | (with_reducible refine GdT_split (fun hc => ?_) (fun hc => ?_) <;> (have hc2 := hc; try simp at hc2)) | (with_reducible refine WT_alt ?_ ?_) | omega)
theorem c_implPlayAt {kind : Int} {x d : Nat} {c : Int} (hA : Arr h l 1 (xs.map fl)) (hx : CD x) (hl : lim ≤ h.length) (hT : okPa kind xs.length x d c → ∀ o g, New h g o 22 1 ((tabTo (playN kind xs x d) c.toNat).map fl) → K (.tup [.lf o, .lf (.bool true)]) g) (hF : ¬ okPa kind xs.length x d c → ∀ g, Kept h g → K (.tup [.lf .nils, .lf (.bool false)]) g) :
    CallT S false 25 [.lf (.int .i64 kind), .lf l, .lf (.flt .f64 x), .lf (.flt .f64 d), .lf (.int .i64 c)] h lim K := by
  by_cases h1 : 0 ≤ kind ∧ kind ≤ 2
  · by_cases h2 : xs.length ≤ 256
    · have h2' : (xs.length : Int) ≤ 256 := by omega
      cases h3 : fcmp .eql .f64 (fbin .sub .f64 d d) 0
      · have hF2 := hF (fun q => by rw [q.2.2.1] at h3; cases h3) h (Kept.refl h)
        clear hF hT
        refine CallT_of_body (F := L25) (HasPa.f25) rfl ?_; unfold L25; dsimp only []
        repeat' (first | (simp (disch := first | omega | assumption | (simp only [List.length_set]; omega) | (simp [*] <;> fail) | assumption) [-Bool.decide_and, -Bool.decide_or, -Bool.not_and, -Bool.not_or, toNat_pred, toNat_succ, wrap64, wr_new, wr_new0, ok_if, ok_ifn, iadV_sl, makeV_int, decT, decF, over_at, *, c_areSamples hA]) | (with_reducible refine Gd_split (fun hc => ?_) (fun hc => ?_) <;> (have hc2 := hc; try simp at hc2)) | (with_reducible refine Br_split (fun hc => ?_) (fun hc => ?_) <;> (have hc2 := hc; try simp at hc2)) | (with_reducible refine GdT_split (fun hc => ?_) (fun hc => ?_) <;> (have hc2 := hc; try simp at hc2)) | (with_reducible refine WT_alt ?_ ?_) | omega)
      · by_cases h4 : 0 ≤ c ∧ c ≤ 256
        · obtain ⟨n, rfl⟩ := Int.eq_ofNat_of_zero_le h4.1
          simp only [Int.toNat_natCast] at hT
          refine CallT_of_body (F := L25) (HasPa.f25) rfl ?_; unfold L25; dsimp only []
          repeat' (first | (simp (disch := first | omega | assumption | (simp only [List.length_set]; omega) | (simp [*] <;> fail) | assumption) [-Bool.decide_and, -Bool.decide_or, -Bool.not_and, -Bool.not_or, toNat_pred, toNat_succ, wrap64, wr_new, wr_new0, ok_if, ok_ifn, iadV_sl, makeV_int, decT, decF, over_at, *, c_areSamples hA]) | (with_reducible refine Gd_split (fun hc => ?_) (fun hc => ?_) <;> (have hc2 := hc; try simp at hc2)) | (with_reducible refine Br_split (fun hc => ?_) (fun hc => ?_) <;> (have hc2 := hc; try simp at hc2)) | (with_reducible refine GdT_split (fun hc => ?_) (fun hc => ?_) <;> (have hc2 := hc; try simp at hc2)) | (with_reducible refine WT_alt ?_ ?_) | omega)
          refine WL_forM 562947805944852 (by decide +kernel) (n) (fun i b g => i ≤ n ∧ b 4 = .lf (.int .i64 (n - i)) ∧ b 2 = .lf (.flt .f64 (posN x d i)) ∧ (∀ j, j < i → okPl xs.length (posN x d j) = true) ∧ ∃ o, b 12 = .lf o ∧ New h g o 22 1 ((tabTo (playN kind xs x d) i).map fl)) (fun _ _ _ hi => hi.1) ⟨by simp, by simp, by simp [posN], fun j hj => absurd hj (Nat.not_lt_zero _), .nils, by simp, by simpa using New.nil (Kept.refl h)⟩ ?_
          rintro i b g ⟨hi, e14, e13, hok, o, e12, hN⟩
          have hA1 := hA.kept hN.kept
          have hlo := tabTo_len (f := playN kind xs x d) (n := i)
          have cp := fun K lim => c_isPlaceOf (S := S) (K := K) (lim := lim) (x := posN x d i) hA1 h2
          by_cases hlt : i < n
          · cases hp : okPl xs.length (posN x d i)
            · have hF2 := hF (fun q => by have := q.2.2.2.2 i (by simpa using hlt); rw [hp] at this; cases this) g hN.kept
              rw [hp] at cp
              clear hF hT
              replace hok : Hid (∀ j, j < i → okPl xs.length (posN x d j) = true) := hok
              repeat' (first | (simp (disch := first | omega | assumption | (simp only [List.length_set]; omega) | (simp [*] <;> fail) | assumption) [-Bool.decide_and, -Bool.decide_or, -Bool.not_and, -Bool.not_or, toNat_pred, toNat_succ, wrap64, wr_new, wr_new0, ok_if, ok_ifn, iadV_sl, makeV_int, decT, decF, over_at, *, hA1.len]) | (with_reducible refine Gd_split (fun hc => ?_) (fun hc => ?_) <;> (have hc2 := hc; try simp at hc2)) | (with_reducible refine Br_split (fun hc => ?_) (fun hc => ?_) <;> (have hc2 := hc; try simp at hc2)) | (with_reducible refine GdT_split (fun hc => ?_) (fun hc => ?_) <;> (have hc2 := hc; try simp at hc2)) | (with_reducible refine WT_alt ?_ ?_) | omega)
            · have h0 : 0 < xs.length := by
                rcases Nat.eq_zero_or_pos xs.length with q | q
                · rw [q, okPl_zero] at hp; cases hp
                · exact q
              have cr := fun K lim => c_readAt (S := S) (K := K) (lim := lim) hA1 h0 h2 (posN_CD (d := d) (i := i) hx) h1 hp
              have s1 := tabTo_fl (f := playN kind xs x d) (n := i)
              have hok2 : ∀ j, j < i + 1 → okPl xs.length (posN x d j) = true := fun j hj => by
                rcases Nat.lt_succ_iff_lt_or_eq.1 hj with q | q
                · exact hok j q
                · rw [q]; exact hp
              have hd : rdAt kind xs (posN x d i) = playN kind xs x d i := rfl
              have hps : fbin .add .f64 (posN x d i) d = posN x d (i + 1) := rfl
              rw [hd] at cr
              rw [hp] at cp
              generalize playN kind xs x d i = y at *
              generalize posN x d i = p at *
              clear hF hT hd hok hp
              replace hok2 : Hid (∀ j, j < i + 1 → okPl xs.length (posN x d j) = true) := hok2
              repeat' (first | (simp (disch := first | omega | assumption | (simp only [List.length_set]; omega) | (simp [*] <;> fail) | assumption) [-Bool.decide_and, -Bool.decide_or, -Bool.not_and, -Bool.not_or, toNat_pred, toNat_succ, wrap64, wr_new, wr_new0, ok_if, ok_ifn, iadV_sl, makeV_int, decT, decF, over_at, *, hA1.len, leavesAll, fillL]) | (with_reducible refine Gd_split (fun hc => ?_) (fun hc => ?_) <;> (have hc2 := hc; try simp at hc2)) | (with_reducible refine Br_split (fun hc => ?_) (fun hc => ?_) <;> (have hc2 := hc; try simp at hc2)) | (with_reducible refine GdT_split (fun hc => ?_) (fun hc => ?_) <;> (have hc2 := hc; try simp at hc2)) | (with_reducible refine WT_alt ?_ ?_) | omega)
              refine oc_push hN hl (by simp; omega) fun q g1 hP hC => ?_
              rw [← s1] at hP
              clear s1
              repeat' (first | (simp (disch := first | omega | assumption | (simp only [List.length_set]; omega) | (simp [*] <;> fail) | assumption) [-Bool.decide_and, -Bool.decide_or, -Bool.not_and, -Bool.not_or, toNat_pred, toNat_succ, wrap64, wr_new, wr_new0, ok_if, ok_ifn, iadV_sl, makeV_int, decT, decF, over_at, *]) | (with_reducible refine Gd_split (fun hc => ?_) (fun hc => ?_) <;> (have hc2 := hc; try simp at hc2)) | (with_reducible refine Br_split (fun hc => ?_) (fun hc => ?_) <;> (have hc2 := hc; try simp at hc2)) | (with_reducible refine GdT_split (fun hc => ?_) (fun hc => ?_) <;> (have hc2 := hc; try simp at hc2)) | (with_reducible refine WT_alt ?_ ?_) | omega)
              all_goals ((repeat' apply And.intro) <;> first | omega | assumption)
          · have : i = n := by omega
            subst this
            have hT2 := hT ⟨h1, h2, h3, h4, by simpa using hok⟩ _ _ hN
            clear hF hT hok
            repeat' (first | (simp (disch := first | omega | assumption | (simp only [List.length_set]; omega) | (simp [*] <;> fail) | assumption) [-Bool.decide_and, -Bool.decide_or, -Bool.not_and, -Bool.not_or, toNat_pred, toNat_succ, wrap64, wr_new, wr_new0, ok_if, ok_ifn, iadV_sl, makeV_int, decT, decF, over_at, *]) | (with_reducible refine Gd_split (fun hc => ?_) (fun hc => ?_) <;> (have hc2 := hc; try simp at hc2)) | (with_reducible refine Br_split (fun hc => ?_) (fun hc => ?_) <;> (have hc2 := hc; try simp at hc2)) | (with_reducible refine GdT_split (fun hc => ?_) (fun hc => ?_) <;> (have hc2 := hc; try simp at hc2)) | (with_reducible refine WT_alt ?_ ?_) | omega)
        · have hF2 := hF (fun q => h4 q.2.2.2.1) h (Kept.refl h)
          clear hF hT
          refine CallT_of_body (F := L25) (HasPa.f25) rfl ?_; unfold L25; dsimp only []
          repeat' (first | (simp (disch := first | omega | assumption | (simp only [List.length_set]; omega) | (simp [*] <;> fail) | assumption) [-Bool.decide_and, -Bool.decide_or, -Bool.not_and, -Bool.not_or, toNat_pred, toNat_succ, wrap64, wr_new, wr_new0, ok_if, ok_ifn, iadV_sl, makeV_int, decT, decF, over_at, *, c_areSamples hA]) | (with_reducible refine Gd_split (fun hc => ?_) (fun hc => ?_) <;> (have hc2 := hc; try simp at hc2)) | (with_reducible refine Br_split (fun hc => ?_) (fun hc => ?_) <;> (have hc2 := hc; try simp at hc2)) | (with_reducible refine GdT_split (fun hc => ?_) (fun hc => ?_) <;> (have hc2 := hc; try simp at hc2)) | (with_reducible refine WT_alt ?_ ?_) | omega)
    · have h2' : ¬ (xs.length : Int) ≤ 256 := by omega
      have hF2 := hF (fun q => h2 q.2.1) h (Kept.refl h)
      clear hF hT
      refine CallT_of_body (F := L25) (HasPa.f25) rfl ?_; unfold L25; dsimp only []
      repeat' (first | (simp (disch := first | omega | assumption | (simp only [List.length_set]; omega) | (simp [*] <;> fail) | assumption) [-Bool.decide_and, -Bool.decide_or, -Bool.not_and, -Bool.not_or, toNat_pred, toNat_succ, wrap64, wr_new, wr_new0, ok_if, ok_ifn, iadV_sl, makeV_int, decT, decF, over_at, *, c_areSamples hA]) | (with_reducible refine Gd_split (fun hc => ?_) (fun hc => ?_) <;> (have hc2 := hc; try simp at hc2)) | (with_reducible refine Br_split (fun hc => ?_) (fun hc => ?_) <;> (have hc2 := hc; try simp at hc2)) | (with_reducible refine GdT_split (fun hc => ?_) (fun hc => ?_) <;> (have hc2 := hc; try simp at hc2)) | (with_reducible refine WT_alt ?_ ?_) | omega)
  · have hF2 := hF (fun q => h1 q.1) h (Kept.refl h)
    clear hF hT
    refine CallT_of_body (F := L25) (HasPa.f25) rfl ?_; unfold L25; dsimp only []
    repeat' (first | (simp (disch := first | omega | assumption | (simp only [List.length_set]; omega) | (simp [*] <;> fail) | assumption) [-Bool.decide_and, -Bool.decide_or, -Bool.not_and, -Bool.not_or, toNat_pred, toNat_succ, wrap64, wr_new, wr_new0, ok_if, ok_ifn, iadV_sl, makeV_int, decT, decF, over_at, *, c_areSamples hA]) | (with_reducible refine Gd_split (fun hc => ?_) (fun hc => ?_) <;> (have hc2 := hc; try simp at hc2)) | (with_reducible refine Br_split (fun hc => ?_) (fun hc => ?_) <;> (have hc2 := hc; try simp at hc2)) | (with_reducible refine GdT_split (fun hc => ?_) (fun hc => ?_) <;> (have hc2 := hc; try simp at hc2)) | (with_reducible refine WT_alt ?_ ?_) | omega)
theorem d_specPlayAt {kind : Int} {x d : Nat} {c : Int} (hA : Arr h l 1 (xs.map fl)) (hx : CD x) (hl : lim ≤ h.length) (hK : ∀ o g, New h g o 22 1 ((playA kind xs x d c).map fl) → K (.tup [.lf o, .lf (.bool (decide (okPa kind xs.length x d c)))]) g) :
    CallT S false 24 [.lf (.int .i64 kind), .lf l, .lf (.flt .f64 x), .lf (.flt .f64 d), .lf (.int .i64 c)] h lim K :=
  c_specPlayAt hA hx hl (fun hk o g hN => by simpa [hk] using hK o g (by simpa [playA, hk] using hN)) (fun hk g q => by simpa [hk] using hK .nils g (by simpa [playA, hk] using New.nil q))
theorem d_implPlayAt {kind : Int} {x d : Nat} {c : Int} (hA : Arr h l 1 (xs.map fl)) (hx : CD x) (hl : lim ≤ h.length) (hK : ∀ o g, New h g o 22 1 ((playA kind xs x d c).map fl) → K (.tup [.lf o, .lf (.bool (decide (okPa kind xs.length x d c)))]) g) :
    CallT S false 25 [.lf (.int .i64 kind), .lf l, .lf (.flt .f64 x), .lf (.flt .f64 d), .lf (.int .i64 c)] h lim K :=
  c_implPlayAt hA hx hl (fun hk o g hN => by simpa [hk] using hK o g (by simpa [playA, hk] using hN)) (fun hk g q => by simpa [hk] using hK .nils g (by simpa [playA, hk] using New.nil q))
end
end Go.E
