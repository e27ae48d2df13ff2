/- Ends of notes, both sides. -/
import Derived.Test.YtkabbddhdnddoaaMV
import Derived.Test.YtkabbddhdnddoaaMH
set_option linter.unusedVariables false
set_option linter.unusedSimpArgs false
namespace Go.E
open Go
def L12 : LFn := ⟨1, (.seq (.reg [⟨(.some 2), (.mv (.c (.lf (.bool false)))), none⟩])
 (.seq (.seq (.reg [⟨(.some 5), (.mv (.t 0)), none⟩, ⟨(.some 6), (.len (.t 5)), none⟩, ⟨(.some 7), (.bin .gtr (.t 6) (.c (.lf (.int .i64 12)))), none⟩])
 (.cond (.t 7) (.seq (.reg [⟨(.some 2), (.mv (.c (.lf (.bool false)))), none⟩])
 .ret) .skip))
 (.seq (.seq (.reg [⟨(.some 8), (.mv (.t 0)), none⟩, ⟨(.some 9), (.len (.t 8)), none⟩, ⟨(.some 10), (.mv (.c (.lf (.int .i64 0)))), none⟩])
 (.block 0 (.loop (.seq (.reg [⟨(.some 11), (.bin .lss (.t 10) (.t 9)), none⟩])
 (.seq (.cond (.t 11) .skip (.exit 0))
 (.seq (.block 1 (.seq (.reg [⟨(.some 12), (.mv (.t 10)), none⟩, ⟨(.some 13), (.iaddr 4 (.t 8) (.t 10)), none⟩, ⟨(.some 14), (.load true 4 (.t 13)), none⟩, ⟨(.some 4), (.alloc 40 [(.int .i64 0), (.int .i64 0), (.int .i64 0), (.flt .f32 0)]), none⟩, ⟨(.some 3), (.mv (.t 12)), none⟩, ⟨none, (.store 4 (.t 4) (.t 14)), none⟩])
 (.seq (.reg [⟨(.some 15), (.load true 4 (.t 4)), none⟩, ⟨(.some 16), (.call true 33 [(.t 15)]), none⟩, ⟨(.some 17), (.una .not (.t 16)), none⟩, ⟨(.some 18), (.mv (.t 17)), none⟩, ⟨(.some 19), (.mv (.t 3)), (.some (18, false))⟩, ⟨(.some 20), (.bin .gtr (.t 19) (.c (.lf (.int .i64 0)))), (.some (18, false))⟩, ⟨(.some 21), (.mv (.t 20)), (.some (18, false))⟩, ⟨(.some 22), (.mv (.t 0)), (.some (21, true))⟩, ⟨(.some 23), (.mv (.t 3)), (.some (21, true))⟩, ⟨(.some 24), (.bin .sub (.t 23) (.c (.lf (.int .i64 1)))), (.some (21, true))⟩, ⟨(.some 25), (.iaddr 4 (.t 22) (.t 24)), (.some (21, true))⟩, ⟨(.some 26), (.faddr 0 (.t 25)), (.some (21, true))⟩, ⟨(.some 27), (.load false 1 (.t 26)), (.some (21, true))⟩, ⟨(.some 28), (.faddr 0 (.t 4)), (.some (21, true))⟩, ⟨(.some 29), (.load false 1 (.t 28)), (.some (21, true))⟩, ⟨(.some 30), (.bin .gtr (.t 27) (.t 29)), (.some (21, true))⟩, ⟨(.some 31), (.pick (.t 21) (.t 30) (.c (.lf (.bool false)))), (.some (18, false))⟩, ⟨(.some 32), (.pick (.t 18) (.c (.lf (.bool true))) (.t 31)), none⟩])
 (.cond (.t 32) (.seq (.reg [⟨(.some 2), (.mv (.c (.lf (.bool false)))), none⟩])
 .ret) .skip))))
 (.reg [⟨(.some 33), (.bin .add (.t 10) (.c (.lf (.int .i64 1)))), none⟩, ⟨(.some 10), (.mv (.t 33)), none⟩])))))))
 (.seq (.reg [⟨(.some 2), (.mv (.c (.lf (.bool true)))), none⟩])
 .ret)))), [(.tmp 2)]⟩
def L27 : LFn := ⟨3, (.seq (.reg [⟨(.some 3), (.box 26 (.t 0)), none⟩, ⟨(.some 6), (.mv (.c (.lf (.bool false)))), none⟩])
 (.seq (.reg [⟨(.some 7), (.load true 4 (.t 3)), none⟩, ⟨(.some 8), (.call true 23 [(.t 7)]), none⟩, ⟨(.some 9), (.mv (.t 8)), none⟩, ⟨(.some 10), (.mv (.t 1)), (.some (9, true))⟩, ⟨(.some 11), (.call true 12 [(.t 10)]), (.some (9, true))⟩, ⟨(.some 12), (.pick (.t 9) (.t 11) (.c (.lf (.bool false)))), none⟩, ⟨(.some 13), (.mv (.t 12)), none⟩, ⟨(.some 14), (.mv (.t 2)), (.some (13, true))⟩, ⟨(.some 15), (.call true 45 [(.t 14), (.c (.lf (.int .i64 1))), (.c (.lf (.int .i64 12)))]), (.some (13, true))⟩, ⟨(.some 16), (.pick (.t 13) (.t 15) (.c (.lf (.bool false)))), none⟩, ⟨(.some 6), (.mv (.t 16)), none⟩])
 .ret)), [(.tmp 6)]⟩
def L28 : LFn := ⟨3, (.seq (.reg [⟨(.some 3), (.box 26 (.t 0)), none⟩, ⟨(.some 6), (.mv (.c (.lf .nils))), none⟩])
 (.seq (.reg [⟨(.some 7), (.mv (.c (.lf .nils))), none⟩])
 (.seq (.seq (.reg [⟨(.some 14), (.mv (.t 1)), none⟩, ⟨(.some 15), (.len (.t 14)), none⟩, ⟨(.some 16), (.mv (.c (.lf (.int .i64 0)))), none⟩])
 (.block 0 (.loop (.seq (.reg [⟨(.some 17), (.bin .lss (.t 16) (.t 15)), none⟩])
 (.seq (.cond (.t 17) .skip (.exit 0))
 (.seq (.block 1 (.seq (.reg [⟨(.some 18), (.iaddr 4 (.t 14) (.t 16)), none⟩, ⟨(.some 19), (.load true 4 (.t 18)), none⟩, ⟨(.some 9), (.alloc 40 [(.int .i64 0), (.int .i64 0), (.int .i64 0), (.flt .f32 0)]), none⟩, ⟨none, (.store 4 (.t 9) (.t 19)), none⟩])
 (.seq (.reg [⟨(.some 10), (.mv (.c (.lf (.int .i64 (-1))))), none⟩, ⟨(.some 11), (.mv (.c (.lf (.int .i64 0)))), none⟩])
 (.seq (.seq (.reg [⟨(.some 20), (.mv (.t 7)), none⟩, ⟨(.some 21), (.len (.t 20)), none⟩, ⟨(.some 22), (.mv (.c (.lf (.int .i64 0)))), none⟩])
 (.block 2 (.loop (.seq (.reg [⟨(.some 23), (.bin .lss (.t 22) (.t 21)), none⟩])
 (.seq (.cond (.t 23) .skip (.exit 2))
 (.seq (.block 3 (.seq (.reg [⟨(.some 24), (.mv (.t 22)), none⟩, ⟨(.some 25), (.iaddr 1 (.t 20) (.t 22)), none⟩, ⟨(.some 26), (.load false 1 (.t 25)), none⟩, ⟨(.some 12), (.mv (.t 24)), none⟩, ⟨(.some 13), (.mv (.t 26)), none⟩])
 (.seq (.seq (.reg [⟨(.some 27), (.mv (.t 13)), none⟩, ⟨(.some 28), (.faddr 0 (.t 9)), none⟩, ⟨(.some 29), (.load false 1 (.t 28)), none⟩, ⟨(.some 30), (.bin .leq (.t 27) (.t 29)), none⟩])
 (.cond (.t 30) (.exit 3) .skip))
 (.seq (.reg [⟨(.some 31), (.mv (.t 11)), none⟩, ⟨(.some 32), (.bin .add (.t 31) (.c (.lf (.int .i64 1)))), none⟩, ⟨(.some 11), (.mv (.t 32)), none⟩])
 (.seq (.reg [⟨(.some 33), (.mv (.t 10)), none⟩, ⟨(.some 34), (.bin .lss (.t 33) (.c (.lf (.int .i64 0)))), none⟩, ⟨(.some 35), (.mv (.t 34)), none⟩, ⟨(.some 36), (.mv (.t 1)), (.some (35, false))⟩, ⟨(.some 37), (.mv (.t 12)), (.some (35, false))⟩, ⟨(.some 38), (.iaddr 4 (.t 36) (.t 37)), (.some (35, false))⟩, ⟨(.some 39), (.faddr 0 (.t 38)), (.some (35, false))⟩, ⟨(.some 40), (.load false 1 (.t 39)), (.some (35, false))⟩, ⟨(.some 41), (.mv (.t 1)), (.some (35, false))⟩, ⟨(.some 42), (.mv (.t 10)), (.some (35, false))⟩, ⟨(.some 43), (.iaddr 4 (.t 41) (.t 42)), (.some (35, false))⟩, ⟨(.some 44), (.faddr 0 (.t 43)), (.some (35, false))⟩, ⟨(.some 45), (.load false 1 (.t 44)), (.some (35, false))⟩, ⟨(.some 46), (.bin .lss (.t 40) (.t 45)), (.some (35, false))⟩, ⟨(.some 47), (.pick (.t 35) (.c (.lf (.bool true))) (.t 46)), none⟩])
 (.cond (.t 47) (.reg [⟨(.some 48), (.mv (.t 12)), none⟩, ⟨(.some 10), (.mv (.t 48)), none⟩]) .skip))))))
 (.reg [⟨(.some 49), (.bin .add (.t 22) (.c (.lf (.int .i64 1)))), none⟩, ⟨(.some 22), (.mv (.t 49)), none⟩])))))))
 (.seq (.seq (.reg [⟨(.some 50), (.mv (.t 11)), none⟩, ⟨(.some 51), (.mv (.t 2)), none⟩, ⟨(.some 52), (.bin .geq (.t 50) (.t 51)), none⟩])
 (.cond (.t 52) (.reg [⟨(.some 53), (.mv (.t 7)), none⟩, ⟨(.some 54), (.mv (.t 10)), none⟩, ⟨(.some 55), (.faddr 0 (.t 9)), none⟩, ⟨(.some 56), (.load false 1 (.t 55)), none⟩, ⟨(.some 57), (.iaddr 1 (.t 53) (.t 54)), none⟩, ⟨none, (.store 1 (.t 57) (.t 56)), none⟩]) .skip))
 (.reg [⟨(.some 58), (.mv (.t 7)), none⟩, ⟨(.some 59), (.load true 4 (.t 3)), none⟩, ⟨(.some 60), (.load true 4 (.t 9)), none⟩, ⟨(.some 61), (.call true 34 [(.t 59), (.t 60)]), none⟩, ⟨(.some 62), (.lit 2 1 1 [(.int .i64 0)] [(0, (1, (.t 61)))]), none⟩, ⟨(.some 63), (.app 2 1 8 (.t 58) (.t 62)), none⟩, ⟨(.some 7), (.mv (.t 63)), none⟩]))))))
 (.reg [⟨(.some 64), (.bin .add (.t 16) (.c (.lf (.int .i64 1)))), none⟩, ⟨(.some 16), (.mv (.t 64)), none⟩])))))))
 (.seq (.reg [⟨(.some 65), (.mv (.t 7)), none⟩, ⟨(.some 6), (.mv (.t 65)), none⟩])
 .ret)))), [(.tmp 6)]⟩
def L10 : LFn := ⟨3, (.seq (.reg [⟨(.some 3), (.box 26 (.t 0)), none⟩, ⟨(.some 6), (.mv (.c (.lf .nils))), none⟩, ⟨(.some 7), (.mv (.c (.lf (.bool false)))), none⟩])
 (.seq (.seq (.reg [⟨(.some 8), (.load true 4 (.t 3)), none⟩, ⟨(.some 9), (.mv (.t 1)), none⟩, ⟨(.some 10), (.mv (.t 2)), none⟩, ⟨(.some 11), (.call true 27 [(.t 8), (.t 9), (.t 10)]), none⟩, ⟨(.some 12), (.una .not (.t 11)), none⟩])
 (.cond (.t 12) (.seq (.reg [⟨(.some 6), (.mv (.c (.lf .nils))), none⟩, ⟨(.some 7), (.mv (.c (.lf (.bool false)))), none⟩])
 .ret) .skip))
 (.seq (.reg [⟨(.some 13), (.load true 4 (.t 3)), none⟩, ⟨(.some 14), (.mv (.t 1)), none⟩, ⟨(.some 15), (.mv (.t 2)), none⟩, ⟨(.some 16), (.call false 28 [(.t 13), (.t 14), (.t 15)]), none⟩, ⟨(.some 6), (.mv (.t 16)), none⟩, ⟨(.some 7), (.mv (.c (.lf (.bool true)))), none⟩])
 .ret))), [(.tmp 6), (.tmp 7)]⟩
class HasEn (S : Sys) : Prop extends HasV S where
  f12 : S.fs 12 = some L12
  f27 : S.fs 27 = some L27
  f28 : S.fs 28 = some L28
  f10 : S.fs 10 = some L10
structure Nt where
  st : Int
  du : Int
  pi : Int
  ga : Nat
def Nt.cells (p : Nt) : List Lf := [.int .i64 p.st, .int .i64 p.du, .int .i64 p.pi, .flt .f32 p.ga]
structure Ev where
  a : Int
  d : Int
  s : Nat
  r : Int
def Ev.cells (e : Ev) : List Lf := [.int .i64 e.a, .int .i64 e.d, .flt .f32 e.s, .int .i64 e.r]
def noteOk (p : Nt) : Prop := noted p.st p.du p.pi = true
instance {p : Nt} : Decidable (noteOk p) := by unfold noteOk; infer_instance
/-- The first k notes are notes, none begins ahead of the one before it. -/
def notesUpto (ps : List Nt) (k : Nat) : Prop := ∀ i (hi : i < ps.length), i < k → noteOk ps[i] ∧ (0 < i → ps[i - 1].st ≤ ps[i].st)
theorem notesUpto.zero {ps : List Nt} : notesUpto ps 0 := fun i _ h => by omega
theorem notesUpto.succ {ps : List Nt} {i : Nat} (h : notesUpto ps i) (hi : i < ps.length) (h1 : noteOk ps[i]) (h2 : 0 < i → ps[i - 1].st ≤ ps[i].st) : notesUpto ps (i + 1) := by
  intro j hj hlt
  by_cases e : j = i
  · subst e; exact ⟨h1, h2⟩
  · exact h j hj (by omega)
theorem notesUpto.le {ps : List Nt} (h : notesUpto ps ps.length) {i j : Nat} (hij : i ≤ j) (hj : j < ps.length) : ps[i].st ≤ ps[j].st := by
  induction j with
  | zero => have : i = 0 := by omega
            subst this; exact Int.le_refl _
  | succ j ih =>
    by_cases e : i = j + 1
    · subst e; exact Int.le_refl _
    · have h1 := ih (by omega) (by omega)
      have h2 := (h (j + 1) hj hj).2 (by omega)
      simp only [Nat.add_sub_cancel] at h2
      exact Int.le_trans h1 h2
def areNotes (ps : List Nt) : Prop := ps.length ≤ 12 ∧ notesUpto ps ps.length
noncomputable instance {ps : List Nt} : Decidable (areNotes ps) := Classical.propDecidable _
/-- How many of the first j ends lie behind a, and the first of them. -/
def cntTo (E : List Int) (a : Int) : Nat → Nat
  | 0 => 0
  | j + 1 => if a < E.getD j 0 then cntTo E a j + 1 else cntTo E a j
def fstTo (E : List Int) (a : Int) : Nat → Int
  | 0 => -1
  | j + 1 => if a < E.getD j 0 ∧ fstTo E a j < 0 then j else fstTo E a j
theorem cntTo_le {E : List Int} {a : Int} : ∀ {j : Nat}, cntTo E a j ≤ j
  | 0 => Nat.le_refl _
  | j + 1 => by have := cntTo_le (E := E) (a := a) (j := j); unfold cntTo; split <;> omega
theorem fstTo_range {E : List Int} {a : Int} : ∀ {j : Nat}, -1 ≤ fstTo E a j ∧ fstTo E a j < j ∧ (0 < cntTo E a j → 0 ≤ fstTo E a j)
  | 0 => by simp [fstTo, cntTo]
  | j + 1 => by
    obtain ⟨h1, h2, h3⟩ := fstTo_range (E := E) (a := a) (j := j)
    unfold fstTo cntTo
    by_cases c1 : a < E.getD j 0
    · by_cases c2 : fstTo E a j < 0
      · rw [if_pos ⟨c1, c2⟩]; exact ⟨by omega, by omega, fun _ => by omega⟩
      · rw [if_neg (fun q => c2 q.2)]; exact ⟨by omega, by omega, fun _ => by omega⟩
    · rw [if_neg (fun q => c1 q.1), if_neg c1]; exact ⟨by omega, by omega, h3⟩
def stepE (v r : Int) (E : List Int) (p : Nt) : List Int := (if v ≤ cntTo E p.st E.length then E.set (fstTo E p.st E.length).toNat p.st else E) ++ [p.st + p.du + r]
def endsTo (ps : List Nt) (v r : Int) : Nat → List Int
  | 0 => []
  | i + 1 => match ps[i]? with
    | some p => stepE v r (endsTo ps v r i) p
    | none => endsTo ps v r i
theorem endsTo_succ {ps : List Nt} {v r : Int} {i : Nat} (hi : i < ps.length) : endsTo ps v r (i + 1) = stepE v r (endsTo ps v r i) ps[i] := by
  simp only [endsTo, List.getElem?_eq_getElem hi]
theorem endsTo_len {ps : List Nt} {v r : Int} : ∀ {i : Nat}, i ≤ ps.length → (endsTo ps v r i).length = i
  | 0, _ => rfl
  | i + 1, hi => by
    have := endsTo_len (ps := ps) (v := v) (r := r) (i := i) (by omega)
    rw [endsTo_succ (by omega)]
    unfold stepE
    split <;> simp [this]
theorem il_set {zs : List Int} {i : Nat} {c : Int} : (zs.map il).set i [.int .i64 c] = (zs.set i c).map il := by rw [List.map_set]; rfl
section
variable {S : Sys} {lim : Nat} {h : Hp} {K : CV → Hp → Prop} [HasEn S] {l : Lf} {ps : List Nt}
theorem c_AreNotes (hA : Arr h l 4 (ps.map Nt.cells)) : CallT S true 12 [.lf l] h lim K = K (.lf (.bool (decide (areNotes ps)))) h := by
  have hb := hA.bound
  by_cases h12 : ps.length ≤ 12
  · have h12' : (ps.length : Int) ≤ 12 := by omega
    refine CallT_pure (F := L12) (HasEn.f12) rfl (by first | rfl | (split <;> rfl) | simp) ?_; unfold L12; dsimp only []
    repeat' (first | (simp (disch := first | omega | assumption | (simp only [List.length_set]; omega) | (simp [*] <;> fail) | assumption) [-Bool.decide_and, -Bool.decide_or, -Bool.not_and, -Bool.not_or, toNat_pred, toNat_succ, wrap64, wr_new, wr_new0, ok_if, ok_ifn, iadV_sl, makeV_int, decT, decF, over_at, *, hA.len]) | (with_reducible refine Gd_split (fun hc => ?_) (fun hc => ?_) <;> (have hc2 := hc; try simp at hc2)) | (with_reducible refine Br_split (fun hc => ?_) (fun hc => ?_) <;> (have hc2 := hc; try simp at hc2)) | (with_reducible refine GdT_split (fun hc => ?_) (fun hc => ?_) <;> (have hc2 := hc; try simp at hc2)) | (with_reducible refine WT_alt ?_ ?_) | omega)
    refine WL_for ps.length (fun i a' g => i ≤ ps.length ∧ a' 0 = .lf l ∧ a' 8 = .lf l ∧ a' 9 = .lf (.int .i64 ps.length) ∧ a' 10 = .lf (.int .i64 i) ∧ Kept h g ∧ notesUpto ps i) (fun i a' h' hi => hi.1) ?_ ⟨by omega, by simp, by simp, by simp, by simp, Kept.refl _, notesUpto.zero⟩
    rintro i a' g ⟨hi, e0, e8, e9, e10, hk, hup⟩
    have hA1 := hA.kept hk
    have hg := hk.1
    by_cases hlt : i < ps.length
    · cases hnk : noted ps[i].st ps[i].du ps[i].pi
      · have hno : ¬ areNotes ps := fun q => by have := (q.2 i hlt hlt).1; unfold noteOk at this; rw [hnk] at this; cases this
        replace hup : Hid (notesUpto ps i) := hup
        repeat' (first | (simp (disch := first | omega | assumption | (simp only [List.length_set]; omega) | (simp [*] <;> fail) | assumption) [-Bool.decide_and, -Bool.decide_or, -Bool.not_and, -Bool.not_or, toNat_pred, toNat_succ, wrap64, wr_new, wr_new0, ok_if, ok_ifn, iadV_sl, makeV_int, decT, decF, over_at, *, hA1.len, hA1.at_, hA1.at_', hA1.rd, hA1.rdIn, hA1.rdIn0, hA1.rdA, hA1.rdInA, hA1.rdIn0A, Nt.cells]) | (with_reducible refine Gd_split (fun hc => ?_) (fun hc => ?_) <;> (have hc2 := hc; try simp at hc2)) | (with_reducible refine Br_split (fun hc => ?_) (fun hc => ?_) <;> (have hc2 := hc; try simp at hc2)) | (with_reducible refine GdT_split (fun hc => ?_) (fun hc => ?_) <;> (have hc2 := hc; try simp at hc2)) | (with_reducible refine WT_alt ?_ ?_) | omega)
      · by_cases h0 : i = 0
        · subst h0
          have hup2 : Hid (notesUpto ps 1) := hup.succ hlt hnk (fun q => by omega)
          replace hup : Hid (notesUpto ps 0) := hup
          repeat' (first | (simp (disch := first | omega | assumption | (simp only [List.length_set]; omega) | (simp [*] <;> fail) | assumption) [-Bool.decide_and, -Bool.decide_or, -Bool.not_and, -Bool.not_or, toNat_pred, toNat_succ, wrap64, wr_new, wr_new0, ok_if, ok_ifn, iadV_sl, makeV_int, decT, decF, over_at, *, hA1.len, hA1.at_, hA1.at_', hA1.rd, hA1.rdIn, hA1.rdIn0, hA1.rdA, hA1.rdInA, hA1.rdIn0A, hA1.at0, hA1.rd0, hA1.rd0j, hA1.rd0A, hA1.rd0jA, Nt.cells]) | (with_reducible refine Gd_split (fun hc => ?_) (fun hc => ?_) <;> (have hc2 := hc; try simp at hc2)) | (with_reducible refine Br_split (fun hc => ?_) (fun hc => ?_) <;> (have hc2 := hc; try simp at hc2)) | (with_reducible refine GdT_split (fun hc => ?_) (fun hc => ?_) <;> (have hc2 := hc; try simp at hc2)) | (with_reducible refine WT_alt ?_ ?_) | omega)
          exact ⟨hlt, hup2⟩
        · have hp1 : i - 1 < ps.length := by omega
          have hci : ((i : Int) - 1) = ((i - 1 : Nat) : Int) := by omega
          have q1 := hA1.at_ (k := .i64) hp1
          have q2 := fun t => (hA1.app (t := t)).rdIn0 (m := 1) hp1 (by omega)
          by_cases hle : ps[i - 1].st ≤ ps[i].st
          · have hup2 : Hid (notesUpto ps (i + 1)) := hup.succ hlt hnk (fun _ => hle)
            replace hup : Hid (notesUpto ps i) := hup
            repeat' (first | (simp (disch := first | omega | assumption | (simp only [List.length_set]; omega) | (simp [*] <;> fail) | assumption) [-Bool.decide_and, -Bool.decide_or, -Bool.not_and, -Bool.not_or, toNat_pred, toNat_succ, wrap64, wr_new, wr_new0, ok_if, ok_ifn, iadV_sl, makeV_int, decT, decF, over_at, *, hA1.len, hA1.at_, hA1.at_', hA1.rd, hA1.rdIn, hA1.rdIn0, hA1.rdA, hA1.rdInA, hA1.rdIn0A, Nt.cells]) | (with_reducible refine Gd_split (fun hc => ?_) (fun hc => ?_) <;> (have hc2 := hc; try simp at hc2)) | (with_reducible refine Br_split (fun hc => ?_) (fun hc => ?_) <;> (have hc2 := hc; try simp at hc2)) | (with_reducible refine GdT_split (fun hc => ?_) (fun hc => ?_) <;> (have hc2 := hc; try simp at hc2)) | (with_reducible refine WT_alt ?_ ?_) | omega)
            exact ⟨hlt, hup2⟩
          · have hno : ¬ areNotes ps := fun q => hle ((q.2 i hlt hlt).2 (by omega))
            replace hup : Hid (notesUpto ps i) := hup
            repeat' (first | (simp (disch := first | omega | assumption | (simp only [List.length_set]; omega) | (simp [*] <;> fail) | assumption) [-Bool.decide_and, -Bool.decide_or, -Bool.not_and, -Bool.not_or, toNat_pred, toNat_succ, wrap64, wr_new, wr_new0, ok_if, ok_ifn, iadV_sl, makeV_int, decT, decF, over_at, *, hA1.len, hA1.at_, hA1.at_', hA1.rd, hA1.rdIn, hA1.rdIn0, hA1.rdA, hA1.rdInA, hA1.rdIn0A, Nt.cells]) | (with_reducible refine Gd_split (fun hc => ?_) (fun hc => ?_) <;> (have hc2 := hc; try simp at hc2)) | (with_reducible refine Br_split (fun hc => ?_) (fun hc => ?_) <;> (have hc2 := hc; try simp at hc2)) | (with_reducible refine GdT_split (fun hc => ?_) (fun hc => ?_) <;> (have hc2 := hc; try simp at hc2)) | (with_reducible refine WT_alt ?_ ?_) | omega)
    · have : i = ps.length := by omega
      subst this
      have hd : areNotes ps := ⟨h12, hup⟩
      rw [decide_eq_true hd]
      replace hup : Hid (notesUpto ps ps.length) := hup
      clear hd
      repeat' (first | (simp (disch := first | omega | assumption | (simp only [List.length_set]; omega) | (simp [*] <;> fail) | assumption) [-Bool.decide_and, -Bool.decide_or, -Bool.not_and, -Bool.not_or, toNat_pred, toNat_succ, wrap64, wr_new, wr_new0, ok_if, ok_ifn, iadV_sl, makeV_int, decT, decF, over_at, *, hA1.len]) | (with_reducible refine Gd_split (fun hc => ?_) (fun hc => ?_) <;> (have hc2 := hc; try simp at hc2)) | (with_reducible refine Br_split (fun hc => ?_) (fun hc => ?_) <;> (have hc2 := hc; try simp at hc2)) | (with_reducible refine GdT_split (fun hc => ?_) (fun hc => ?_) <;> (have hc2 := hc; try simp at hc2)) | (with_reducible refine WT_alt ?_ ?_) | omega)
  · have hno : ¬ areNotes ps := fun q => h12 q.1
    have h12' : ¬ (ps.length : Int) ≤ 12 := by omega
    refine CallT_pure (F := L12) (HasEn.f12) rfl (by first | rfl | (split <;> rfl) | simp) ?_; unfold L12; dsimp only []
    repeat' (first | (simp (disch := first | omega | assumption | (simp only [List.length_set]; omega) | (simp [*] <;> fail) | assumption) [-Bool.decide_and, -Bool.decide_or, -Bool.not_and, -Bool.not_or, toNat_pred, toNat_succ, wrap64, wr_new, wr_new0, ok_if, ok_ifn, iadV_sl, makeV_int, decT, decF, over_at, *, hA.len]) | (with_reducible refine Gd_split (fun hc => ?_) (fun hc => ?_) <;> (have hc2 := hc; try simp at hc2)) | (with_reducible refine Br_split (fun hc => ?_) (fun hc => ?_) <;> (have hc2 := hc; try simp at hc2)) | (with_reducible refine GdT_split (fun hc => ?_) (fun hc => ?_) <;> (have hc2 := hc; try simp at hc2)) | (with_reducible refine WT_alt ?_ ?_) | omega)
theorem c_endsOf {e : Ev} {v : Int} (hA : Arr h l 4 (ps.map Nt.cells)) (he : held3 e.a e.d e.r = true) (hps : areNotes ps) (hv : 1 ≤ v ∧ v ≤ 12) (hl : lim ≤ h.length) (hK : ∀ o g, New h g o 2 1 ((endsTo ps v e.r ps.length).map il) → K (.lf o) g) :
    CallT S false 28 [.agg e.cells, .lf l, .lf (.int .i64 v)] h lim K := by
  obtain ⟨hp12, hpn⟩ := hps
  have hb0 : Cel (h ++ [⟨e.cells, .own 26 1⟩]) h.length 26 e.cells := Cel.new
  have hA0 := hA.app (t := [⟨e.cells, .own 26 1⟩])
  have hl0 : lim ≤ (h ++ [⟨e.cells, .own 26 1⟩] : Hp).length := by simp; omega
  refine CallT_of_body (F := L28) (HasEn.f28) rfl ?_; unfold L28; dsimp only []
  repeat' (first | (simp (disch := first | omega | assumption | (simp only [List.length_set]; omega) | (simp [*] <;> fail) | assumption) [-Bool.decide_and, -Bool.decide_or, -Bool.not_and, -Bool.not_or, toNat_pred, toNat_succ, wrap64, wr_new, wr_new0, ok_if, ok_ifn, iadV_sl, makeV_int, decT, decF, over_at, *, hA.len, hA.len, hA.at_, hA.at_', hA.rd, hA.rdIn, hA.rdIn0, hA.rdA, hA.rdInA, hA.rdIn0A]) | (with_reducible refine Gd_split (fun hc => ?_) (fun hc => ?_) <;> (have hc2 := hc; try simp at hc2)) | (with_reducible refine Br_split (fun hc => ?_) (fun hc => ?_) <;> (have hc2 := hc; try simp at hc2)) | (with_reducible refine GdT_split (fun hc => ?_) (fun hc => ?_) <;> (have hc2 := hc; try simp at hc2)) | (with_reducible refine WT_alt ?_ ?_) | omega)
  have hKK := fun o g (hN : New (h ++ [⟨e.cells, .own 26 1⟩]) g o 2 1 ((endsTo ps v e.r ps.length).map il)) => hK o g (hN.base (Kept.app h _))
  clear hK
  have hlh : h.length < (h ++ [⟨e.cells, .own 26 1⟩] : Hp).length := by simp
  generalize (h ++ [⟨e.cells, .own 26 1⟩] : Hp) = h1 at *
  refine WL_forM 36893488147419053696 (by decide +kernel) (ps.length) (fun i b g => i ≤ ps.length ∧ b 16 = .lf (.int .i64 i) ∧ ∃ o, b 7 = .lf o ∧ New h1 g o 2 1 ((endsTo ps v e.r i).map il)) (fun _ _ _ hi => hi.1) ⟨by simp, by simp, .nils, by simp, by simpa [endsTo] using New.nil (Kept.refl h1)⟩ ?_
  rintro i b g ⟨hi, e16, o, e7, hN⟩
  have hlE := endsTo_len (ps := ps) (v := v) (r := e.r) hi
  by_cases hlt : i < ps.length
  · have hA1 := hA0.kept hN.kept
    have hbx := hb0.kept hN.kept
    have s1 := endsTo_succ (v := v) (r := e.r) hlt
    have hnk := (hpn i hlt hlt).1
    have ed := fun g' K lim => c_implEnd (S := S) (h := g') (K := K) (lim := lim) (a := e.a) (d := e.d) (s := e.s) (g := ps[i].ga) he hnk
    have hlc : ps[i].cells.length = 4 := rfl
    have htk : List.take 4 ps[i].cells = ps[i].cells := rfl
    have w9 := wr_last (lim := lim) (g := g) (ty := 40) (cs := [.int .i64 0, .int .i64 0, .int .i64 0, .flt .f32 0]) (new := ps[i].cells) (by have := hN.kept.1; omega) rfl
    generalize endsTo ps v e.r i = E at *
    clear hKK
    have hNo := hN.lt
    have hNt : Cel (g ++ [⟨ps[i].cells, .own 40 1⟩]) g.length 40 ps[i].cells := Cel.new
    have hbx2 : Cel (g ++ [⟨ps[i].cells, .own 40 1⟩]) h.length 26 e.cells := hbx.app
    have hN2 := hN.app (t := [⟨ps[i].cells, .own 40 1⟩])
    have hA2 := hA1.app (t := [⟨ps[i].cells, .own 40 1⟩])
    repeat' (first | (simp (disch := first | omega | assumption | (simp only [List.length_set]; omega) | (simp [*] <;> fail) | assumption) [-Bool.decide_and, -Bool.decide_or, -Bool.not_and, -Bool.not_or, toNat_pred, toNat_succ, wrap64, wr_new, wr_new0, ok_if, ok_ifn, iadV_sl, makeV_int, decT, decF, over_at, *, hA1.len, hA1.at_, hA1.at_', hA1.rd, hA1.rdIn, hA1.rdIn0, hA1.rdA, hA1.rdInA, hA1.rdIn0A]) | (with_reducible refine Gd_split (fun hc => ?_) (fun hc => ?_) <;> (have hc2 := hc; try simp at hc2)) | (with_reducible refine Br_split (fun hc => ?_) (fun hc => ?_) <;> (have hc2 := hc; try simp at hc2)) | (with_reducible refine GdT_split (fun hc => ?_) (fun hc => ?_) <;> (have hc2 := hc; try simp at hc2)) | (with_reducible refine WT_alt ?_ ?_) | omega)
    have hgl : g.length < (g ++ [⟨ps[i].cells, .own 40 1⟩] : Hp).length := by simp
    generalize (g ++ [⟨ps[i].cells, .own 40 1⟩] : Hp) = gb at *
    clear w9 hlc htk
    have hcn : ps[i].cells = [.int .i64 ps[i].st, .int .i64 ps[i].du, .int .i64 ps[i].pi, .flt .f32 ps[i].ga] := rfl
    have hec : e.cells = [.int .i64 e.a, .int .i64 e.d, .flt .f32 e.s, .int .i64 e.r] := rfl
    have n0 : rdCells gb g.length 0 1 = some [.int .i64 ps[i].st] := by have := hNt.rd (off := 0) (n := 1) (by simp [hcn]); simpa [hcn] using this
    have n4 : rdCells gb g.length 0 4 = some ps[i].cells := by have := hNt.rd (off := 0) (n := 4) (by simp [hcn]); simpa [hcn] using this
    have x4 : rdCells gb h.length 0 4 = some e.cells := by have := hbx2.rd (off := 0) (n := 4) (by simp [hec]); simpa [hec] using this
    have hE := hN2.arr
    repeat' (first | (simp (disch := first | omega | assumption | (simp only [List.length_set]; omega) | (simp [*] <;> fail) | assumption) [-Bool.decide_and, -Bool.decide_or, -Bool.not_and, -Bool.not_or, toNat_pred, toNat_succ, wrap64, wr_new, wr_new0, ok_if, ok_ifn, iadV_sl, makeV_int, decT, decF, over_at, *, hE.len]) | (with_reducible refine Gd_split (fun hc => ?_) (fun hc => ?_) <;> (have hc2 := hc; try simp at hc2)) | (with_reducible refine Br_split (fun hc => ?_) (fun hc => ?_) <;> (have hc2 := hc; try simp at hc2)) | (with_reducible refine GdT_split (fun hc => ?_) (fun hc => ?_) <;> (have hc2 := hc; try simp at hc2)) | (with_reducible refine WT_alt ?_ ?_) | omega)
    refine WL_forM 1125899902663680 (by decide +kernel) (i) (fun j b' g' => j ≤ i ∧ b' 22 = .lf (.int .i64 j) ∧ b' 11 = .lf (.int .i64 (cntTo E ps[i].st j)) ∧ b' 10 = .lf (.int .i64 (fstTo E ps[i].st j)) ∧ gb = g') (fun _ _ _ hi => hi.1) ⟨by simp, by simp, by simp [cntTo], by simp [fstTo], rfl⟩ ?_
    rintro j b2 g2 ⟨hj, f22, f11, f10, rfl⟩
    have hcl := cntTo_le (E := E) (a := ps[i].st) (j := j)
    obtain ⟨hf1, hf2, hf3⟩ := fstTo_range (E := E) (a := ps[i].st) (j := j)
    by_cases hlt2 : j < i
    · have hjE : j < E.length := by omega
      have hgD : E.getD j 0 = E[j] := by simp [hjE]
      have c1 : cntTo E ps[i].st (j + 1) = if ps[i].st < E[j] then cntTo E ps[i].st j + 1 else cntTo E ps[i].st j := by rw [← hgD]; rfl
      have c2 : fstTo E ps[i].st (j + 1) = if ps[i].st < E[j] ∧ fstTo E ps[i].st j < 0 then (j : Int) else fstTo E ps[i].st j := by rw [← hgD]; rfl
      have hjl : j < ps.length := by omega
      have p1 := hA2.at_ (k := .i64) hjl
      have p2 := hA2.rdIn0 (m := 1) hjl (by omega)
      have p2' : (List.take 1 ps[j].cells) = [.int .i64 ps[j].st] := rfl
      rw [p2'] at p2
      clear hgD ed p2' hcn hec n4 x4 hNt hbx2
      generalize cntTo E ps[i].st j = cn at *
      generalize fstTo E ps[i].st j = fs at *
      by_cases hgt : ps[i].st < E[j]
      · by_cases hfs : fs < 0
        · rw [if_pos hgt] at c1
          rw [if_pos ⟨hgt, hfs⟩] at c2
          repeat' (first | (simp (disch := first | omega | assumption | (simp only [List.length_set]; omega) | (simp [*] <;> fail) | assumption) [-Bool.decide_and, -Bool.decide_or, -Bool.not_and, -Bool.not_or, toNat_pred, toNat_succ, wrap64, wr_new, wr_new0, ok_if, ok_ifn, iadV_sl, makeV_int, decT, decF, over_at, *, hE.len, hE.at_, hE.at_', hE.rd, hE.rdIn, hE.rdIn0, hE.rdA, hE.rdInA, hE.rdIn0A, hE.rd1, il]) | (with_reducible refine Gd_split (fun hc => ?_) (fun hc => ?_) <;> (have hc2 := hc; try simp at hc2)) | (with_reducible refine Br_split (fun hc => ?_) (fun hc => ?_) <;> (have hc2 := hc; try simp at hc2)) | (with_reducible refine GdT_split (fun hc => ?_) (fun hc => ?_) <;> (have hc2 := hc; try simp at hc2)) | (with_reducible refine WT_alt ?_ ?_) | omega)
        · rw [if_pos hgt] at c1
          rw [if_neg (fun q => hfs q.2)] at c2
          obtain ⟨f, rfl⟩ := Int.eq_ofNat_of_zero_le (show 0 ≤ fs by omega)
          have hfl : f < ps.length := by omega
          have p3 := hA2.at_ (k := .i64) hfl
          have p4 := hA2.rdIn0 (m := 1) hfl (by omega)
          have p4' : (List.take 1 ps[f].cells) = [.int .i64 ps[f].st] := rfl
          rw [p4'] at p4
          have hle := notesUpto.le hpn (i := f) (j := j) (by omega) hjl
          clear p4'
          repeat' (first | (simp (disch := first | omega | assumption | (simp only [List.length_set]; omega) | (simp [*] <;> fail) | assumption) [-Bool.decide_and, -Bool.decide_or, -Bool.not_and, -Bool.not_or, toNat_pred, toNat_succ, wrap64, wr_new, wr_new0, ok_if, ok_ifn, iadV_sl, makeV_int, decT, decF, over_at, *, hE.len, hE.at_, hE.at_', hE.rd, hE.rdIn, hE.rdIn0, hE.rdA, hE.rdInA, hE.rdIn0A, hE.rd1, il]) | (with_reducible refine Gd_split (fun hc => ?_) (fun hc => ?_) <;> (have hc2 := hc; try simp at hc2)) | (with_reducible refine Br_split (fun hc => ?_) (fun hc => ?_) <;> (have hc2 := hc; try simp at hc2)) | (with_reducible refine GdT_split (fun hc => ?_) (fun hc => ?_) <;> (have hc2 := hc; try simp at hc2)) | (with_reducible refine WT_alt ?_ ?_) | omega)
      · rw [if_neg hgt] at c1
        rw [if_neg (fun q => hgt q.1)] at c2
        repeat' (first | (simp (disch := first | omega | assumption | (simp only [List.length_set]; omega) | (simp [*] <;> fail) | assumption) [-Bool.decide_and, -Bool.decide_or, -Bool.not_and, -Bool.not_or, toNat_pred, toNat_succ, wrap64, wr_new, wr_new0, ok_if, ok_ifn, iadV_sl, makeV_int, decT, decF, over_at, *, hE.len, hE.at_, hE.at_', hE.rd, hE.rdIn, hE.rdIn0, hE.rdA, hE.rdInA, hE.rdIn0A, hE.rd1, il]) | (with_reducible refine Gd_split (fun hc => ?_) (fun hc => ?_) <;> (have hc2 := hc; try simp at hc2)) | (with_reducible refine Br_split (fun hc => ?_) (fun hc => ?_) <;> (have hc2 := hc; try simp at hc2)) | (with_reducible refine GdT_split (fun hc => ?_) (fun hc => ?_) <;> (have hc2 := hc; try simp at hc2)) | (with_reducible refine WT_alt ?_ ?_) | omega)
    · have : j = i := by omega
      subst this
      have hst : stepE v e.r E ps[j] = (if v ≤ cntTo E ps[j].st j then E.set (fstTo E ps[j].st j).toNat ps[j].st else E) ++ [ps[j].st + ps[j].du + e.r] := by unfold stepE; rw [hlE]
      rw [hst] at s1
      clear hst
      by_cases hc : v ≤ cntTo E ps[j].st j
      · rw [if_pos hc] at s1
        obtain ⟨f, hf⟩ := Int.eq_ofNat_of_zero_le (hf3 (by omega))
        rw [hf] at f10
        rw [hf, Int.toNat_natCast] at s1
        have hfE : f < E.length := by omega
        generalize cntTo E ps[j].st j = cn at *
        clear hf1 hf3
        repeat' (first | (simp (disch := first | omega | assumption | (simp only [List.length_set]; omega) | (simp [*] <;> fail) | assumption) [-Bool.decide_and, -Bool.decide_or, -Bool.not_and, -Bool.not_or, toNat_pred, toNat_succ, wrap64, wr_new, wr_new0, ok_if, ok_ifn, iadV_sl, makeV_int, decT, decF, over_at, *, hE.len, hE.at_, hE.at_', hE.rd, hE.rdIn, hE.rdIn0, hE.rdA, hE.rdInA, hE.rdIn0A]) | (with_reducible refine Gd_split (fun hc => ?_) (fun hc => ?_) <;> (have hc2 := hc; try simp at hc2)) | (with_reducible refine Br_split (fun hc => ?_) (fun hc => ?_) <;> (have hc2 := hc; try simp at hc2)) | (with_reducible refine GdT_split (fun hc => ?_) (fun hc => ?_) <;> (have hc2 := hc; try simp at hc2)) | (with_reducible refine WT_alt ?_ ?_) | omega)
        refine oc_wr (i := f) hN2 (by simpa using hfE) hl0 fun g3 hP hB => ?_
        rw [il_set] at hP
        have m4 := hB.rd n4 (fun q1 => by have := (hNo q1).2; omega)
        have y4 := hB.rd x4 (fun q1 => by have := (hNo q1).1; omega)
        clear hE hN hB n0 n4 x4 hNt hbx2
        repeat' (first | (simp (disch := first | omega | assumption | (simp only [List.length_set]; omega) | (simp [*] <;> fail) | assumption) [-Bool.decide_and, -Bool.decide_or, -Bool.not_and, -Bool.not_or, toNat_pred, toNat_succ, wrap64, wr_new, wr_new0, ok_if, ok_ifn, iadV_sl, makeV_int, decT, decF, over_at, *, leavesAll, fillL]) | (with_reducible refine Gd_split (fun hc => ?_) (fun hc => ?_) <;> (have hc2 := hc; try simp at hc2)) | (with_reducible refine Br_split (fun hc => ?_) (fun hc => ?_) <;> (have hc2 := hc; try simp at hc2)) | (with_reducible refine GdT_split (fun hc => ?_) (fun hc => ?_) <;> (have hc2 := hc; try simp at hc2)) | (with_reducible refine WT_alt ?_ ?_) | omega)
        refine oc_push hP hl0 (by simp; omega) fun p g4 hP4 hC => ?_
        have hP5 : New h1 g4 p 2 1 ((endsTo ps v e.r (j + 1)).map il) := by rw [s1]; simpa [il] using hP4
        clear s1 hP4 hC m4 y4
        repeat' (first | (simp (disch := first | omega | assumption | (simp only [List.length_set]; omega) | (simp [*] <;> fail) | assumption) [-Bool.decide_and, -Bool.decide_or, -Bool.not_and, -Bool.not_or, toNat_pred, toNat_succ, wrap64, wr_new, wr_new0, ok_if, ok_ifn, iadV_sl, makeV_int, decT, decF, over_at, *]) | (with_reducible refine Gd_split (fun hc => ?_) (fun hc => ?_) <;> (have hc2 := hc; try simp at hc2)) | (with_reducible refine Br_split (fun hc => ?_) (fun hc => ?_) <;> (have hc2 := hc; try simp at hc2)) | (with_reducible refine GdT_split (fun hc => ?_) (fun hc => ?_) <;> (have hc2 := hc; try simp at hc2)) | (with_reducible refine WT_alt ?_ ?_) | omega)
        all_goals ((repeat' apply And.intro) <;> first | omega | assumption)
      · rw [if_neg hc] at s1
        generalize cntTo E ps[j].st j = cn at *
        clear n0 hNt hbx2
        repeat' (first | (simp (disch := first | omega | assumption | (simp only [List.length_set]; omega) | (simp [*] <;> fail) | assumption) [-Bool.decide_and, -Bool.decide_or, -Bool.not_and, -Bool.not_or, toNat_pred, toNat_succ, wrap64, wr_new, wr_new0, ok_if, ok_ifn, iadV_sl, makeV_int, decT, decF, over_at, *, hE.len, hE.at_, hE.at_', hE.rd, hE.rdIn, hE.rdIn0, hE.rdA, hE.rdInA, hE.rdIn0A, leavesAll, fillL]) | (with_reducible refine Gd_split (fun hc => ?_) (fun hc => ?_) <;> (have hc2 := hc; try simp at hc2)) | (with_reducible refine Br_split (fun hc => ?_) (fun hc => ?_) <;> (have hc2 := hc; try simp at hc2)) | (with_reducible refine GdT_split (fun hc => ?_) (fun hc => ?_) <;> (have hc2 := hc; try simp at hc2)) | (with_reducible refine WT_alt ?_ ?_) | omega)
        refine oc_push hN2 hl0 (by simp; omega) fun p g4 hP4 hC => ?_
        have hP5 : New h1 g4 p 2 1 ((endsTo ps v e.r (j + 1)).map il) := by rw [s1]; simpa [il] using hP4
        clear s1 hP4 hC n4 x4
        repeat' (first | (simp (disch := first | omega | assumption | (simp only [List.length_set]; omega) | (simp [*] <;> fail) | assumption) [-Bool.decide_and, -Bool.decide_or, -Bool.not_and, -Bool.not_or, toNat_pred, toNat_succ, wrap64, wr_new, wr_new0, ok_if, ok_ifn, iadV_sl, makeV_int, decT, decF, over_at, *]) | (with_reducible refine Gd_split (fun hc => ?_) (fun hc => ?_) <;> (have hc2 := hc; try simp at hc2)) | (with_reducible refine Br_split (fun hc => ?_) (fun hc => ?_) <;> (have hc2 := hc; try simp at hc2)) | (with_reducible refine GdT_split (fun hc => ?_) (fun hc => ?_) <;> (have hc2 := hc; try simp at hc2)) | (with_reducible refine WT_alt ?_ ?_) | omega)
        all_goals ((repeat' apply And.intro) <;> first | omega | assumption)
  · have : i = ps.length := by omega
    subst this
    repeat' (first | (simp (disch := first | omega | assumption | (simp only [List.length_set]; omega) | (simp [*] <;> fail) | assumption) [-Bool.decide_and, -Bool.decide_or, -Bool.not_and, -Bool.not_or, toNat_pred, toNat_succ, wrap64, wr_new, wr_new0, ok_if, ok_ifn, iadV_sl, makeV_int, decT, decF, over_at, *, hA0.len]) | (with_reducible refine Gd_split (fun hc => ?_) (fun hc => ?_) <;> (have hc2 := hc; try simp at hc2)) | (with_reducible refine Br_split (fun hc => ?_) (fun hc => ?_) <;> (have hc2 := hc; try simp at hc2)) | (with_reducible refine GdT_split (fun hc => ?_) (fun hc => ?_) <;> (have hc2 := hc; try simp at hc2)) | (with_reducible refine WT_alt ?_ ?_) | omega)
    all_goals ((repeat' apply And.intro) <;> first | omega | assumption | exact hKK _ _ hN)
def okEn (e : Ev) (ps : List Nt) (v : Int) : Prop := held3 e.a e.d e.r = true ∧ areNotes ps ∧ 1 ≤ v ∧ v ≤ 12
noncomputable instance {e : Ev} {ps : List Nt} {v : Int} : Decidable (okEn e ps v) := Classical.propDecidable _
noncomputable def endsN (e : Ev) (ps : List Nt) (v : Int) : List Int := if okEn e ps v then endsTo ps v e.r ps.length else []
theorem endsN_len {e : Ev} {ps : List Nt} {v : Int} : (endsN e ps v).length ≤ 256 := by
  unfold endsN
  split
  · rename_i hk
    rw [endsTo_len (Nat.le_refl _)]
    have := hk.2.1.1
    omega
  · simp
theorem d_implEndsOfNotes {e : Ev} {v : Int} (hA : Arr h l 4 (ps.map Nt.cells)) (hl : lim ≤ h.length) (hK : ∀ o g, New h g o 2 1 ((endsN e ps v).map il) → K (.tup [.lf o, .lf (.bool (decide (okEn e ps v)))]) g) :
    CallT S false 10 [.agg e.cells, .lf l, .lf (.int .i64 v)] h lim K := by
  have hle : e.cells.length = 4 := rfl
  have hte : List.take 4 e.cells = e.cells := rfl
  have hA1 := hA.app (t := [⟨e.cells, .own 26 1⟩])
  have av : ∀ K lim, CallT S true 27 [.agg e.cells, .lf l, .lf (.int .i64 v)] (h ++ [⟨e.cells, .own 26 1⟩]) lim K = K (.lf (.bool (decide (okEn e ps v)))) (h ++ [⟨e.cells, .own 26 1⟩]) := by
    intro K lim
    have hA2 := hA.app (t := [⟨e.cells, .own 26 1⟩, ⟨e.cells, .own 26 1⟩])
    have nt := fun K lim => c_AreNotes (S := S) (K := K) (lim := lim) hA2
    have ev := fun h' K lim => c_ValidEnvelope (S := S) (h := h') (K := K) (lim := lim) (a := e.a) (d := e.d) (r := e.r) (s := e.s)
    have hec : e.cells = [.int .i64 e.a, .int .i64 e.d, .flt .f32 e.s, .int .i64 e.r] := rfl
    rw [← hec] at ev
    clear hec
    refine CallT_pure (F := L27) (HasEn.f27) rfl (by first | rfl | (split <;> rfl) | simp) ?_; unfold L27; dsimp only []
    cases k1 : held3 e.a e.d e.r
    · rw [k1] at ev
      have hk : decide (okEn e ps v) = false := decide_eq_false fun q => by rw [q.1] at k1; cases k1
      rw [hk]
      repeat' (first | (simp (disch := first | omega | assumption | (simp only [List.length_set]; omega) | (simp [*] <;> fail) | assumption) [-Bool.decide_and, -Bool.decide_or, -Bool.not_and, -Bool.not_or, toNat_pred, toNat_succ, wrap64, wr_new, wr_new0, ok_if, ok_ifn, iadV_sl, makeV_int, decT, decF, over_at, *]) | (with_reducible refine Gd_split (fun hc => ?_) (fun hc => ?_) <;> (have hc2 := hc; try simp at hc2)) | (with_reducible refine Br_split (fun hc => ?_) (fun hc => ?_) <;> (have hc2 := hc; try simp at hc2)) | (with_reducible refine GdT_split (fun hc => ?_) (fun hc => ?_) <;> (have hc2 := hc; try simp at hc2)) | (with_reducible refine WT_alt ?_ ?_) | omega)
    · rw [k1] at ev
      by_cases k2 : areNotes ps
      · rw [decide_eq_true k2] at nt
        have hk : decide (okEn e ps v) = decide (1 ≤ v ∧ v ≤ 12) := by congr 1; exact propext ⟨fun q => q.2.2, fun q => ⟨k1, k2, q⟩⟩
        rw [hk]
        repeat' (first | (simp (disch := first | omega | assumption | (simp only [List.length_set]; omega) | (simp [*] <;> fail) | assumption) [-Bool.decide_and, -Bool.decide_or, -Bool.not_and, -Bool.not_or, toNat_pred, toNat_succ, wrap64, wr_new, wr_new0, ok_if, ok_ifn, iadV_sl, makeV_int, decT, decF, over_at, *]) | (with_reducible refine Gd_split (fun hc => ?_) (fun hc => ?_) <;> (have hc2 := hc; try simp at hc2)) | (with_reducible refine Br_split (fun hc => ?_) (fun hc => ?_) <;> (have hc2 := hc; try simp at hc2)) | (with_reducible refine GdT_split (fun hc => ?_) (fun hc => ?_) <;> (have hc2 := hc; try simp at hc2)) | (with_reducible refine WT_alt ?_ ?_) | omega)
      · rw [decide_eq_false k2] at nt
        have hk : decide (okEn e ps v) = false := decide_eq_false fun q => k2 q.2.1
        rw [hk]
        repeat' (first | (simp (disch := first | omega | assumption | (simp only [List.length_set]; omega) | (simp [*] <;> fail) | assumption) [-Bool.decide_and, -Bool.decide_or, -Bool.not_and, -Bool.not_or, toNat_pred, toNat_succ, wrap64, wr_new, wr_new0, ok_if, ok_ifn, iadV_sl, makeV_int, decT, decF, over_at, *]) | (with_reducible refine Gd_split (fun hc => ?_) (fun hc => ?_) <;> (have hc2 := hc; try simp at hc2)) | (with_reducible refine Br_split (fun hc => ?_) (fun hc => ?_) <;> (have hc2 := hc; try simp at hc2)) | (with_reducible refine GdT_split (fun hc => ?_) (fun hc => ?_) <;> (have hc2 := hc; try simp at hc2)) | (with_reducible refine WT_alt ?_ ?_) | omega)
  by_cases hk : okEn e ps v
  · have hT : ∀ o g, New h g o 2 1 ((endsTo ps v e.r ps.length).map il) → K (.tup [.lf o, .lf (.bool true)]) g := fun o g hN => by
      have := hK o g (by rw [endsN, if_pos hk]; exact hN)
      rwa [decide_eq_true hk] at this
    clear hK
    rw [decide_eq_true hk] at av
    obtain ⟨k1, k2, k3⟩ := hk
    refine CallT_of_body (F := L10) (HasEn.f10) rfl ?_; unfold L10; dsimp only []
    repeat' (first | (simp (disch := first | omega | assumption | (simp only [List.length_set]; omega) | (simp [*] <;> fail) | assumption) [-Bool.decide_and, -Bool.decide_or, -Bool.not_and, -Bool.not_or, toNat_pred, toNat_succ, wrap64, wr_new, wr_new0, ok_if, ok_ifn, iadV_sl, makeV_int, decT, decF, over_at, *]) | (with_reducible refine Gd_split (fun hc => ?_) (fun hc => ?_) <;> (have hc2 := hc; try simp at hc2)) | (with_reducible refine Br_split (fun hc => ?_) (fun hc => ?_) <;> (have hc2 := hc; try simp at hc2)) | (with_reducible refine GdT_split (fun hc => ?_) (fun hc => ?_) <;> (have hc2 := hc; try simp at hc2)) | (with_reducible refine WT_alt ?_ ?_) | omega)
    refine c_endsOf hA1 k1 k2 k3 (by simp; omega) fun o g hN => ?_
    have hT2 := hT _ _ (hN.base (Kept.app _ _))
    clear hT
    repeat' (first | (simp (disch := first | omega | assumption | (simp only [List.length_set]; omega) | (simp [*] <;> fail) | assumption) [-Bool.decide_and, -Bool.decide_or, -Bool.not_and, -Bool.not_or, toNat_pred, toNat_succ, wrap64, wr_new, wr_new0, ok_if, ok_ifn, iadV_sl, makeV_int, decT, decF, over_at, *]) | (with_reducible refine Gd_split (fun hc => ?_) (fun hc => ?_) <;> (have hc2 := hc; try simp at hc2)) | (with_reducible refine Br_split (fun hc => ?_) (fun hc => ?_) <;> (have hc2 := hc; try simp at hc2)) | (with_reducible refine GdT_split (fun hc => ?_) (fun hc => ?_) <;> (have hc2 := hc; try simp at hc2)) | (with_reducible refine WT_alt ?_ ?_) | omega)
  · have hF : ∀ g, Kept h g → K (.tup [.lf .nils, .lf (.bool false)]) g := fun g q => by
      have := hK .nils g (by rw [endsN, if_neg hk]; exact New.nil q)
      rwa [decide_eq_false hk] at this
    clear hK
    have hF2 := hF _ (Kept.app h [⟨e.cells, .own 26 1⟩])
    clear hF
    rw [decide_eq_false hk] at av
    refine CallT_of_body (F := L10) (HasEn.f10) rfl ?_; unfold L10; dsimp only []
    repeat' (first | (simp (disch := first | omega | assumption | (simp only [List.length_set]; omega) | (simp [*] <;> fail) | assumption) [-Bool.decide_and, -Bool.decide_or, -Bool.not_and, -Bool.not_or, toNat_pred, toNat_succ, wrap64, wr_new, wr_new0, ok_if, ok_ifn, iadV_sl, makeV_int, decT, decF, over_at, *]) | (with_reducible refine Gd_split (fun hc => ?_) (fun hc => ?_) <;> (have hc2 := hc; try simp at hc2)) | (with_reducible refine Br_split (fun hc => ?_) (fun hc => ?_) <;> (have hc2 := hc; try simp at hc2)) | (with_reducible refine GdT_split (fun hc => ?_) (fun hc => ?_) <;> (have hc2 := hc; try simp at hc2)) | (with_reducible refine WT_alt ?_ ?_) | omega)
end
end Go.E
