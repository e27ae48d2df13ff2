/- How many notes sound at once: plain lemmas. -/
import Derived.Test.YtkabbddhdnddoaaMRa
set_option linter.unusedVariables false
set_option linter.unusedSimpArgs false
namespace Go.E
open Go
theorem fst_spec {E : List Int} {a : Int} : ∀ {j : Nat}, 0 ≤ fstTo E a j → a < E.getD (fstTo E a j).toNat 0
  | 0, h => by simp [fstTo] at h
  | j + 1, h => by
    unfold fstTo at h ⊢
    by_cases c : a < E.getD j 0 ∧ fstTo E a j < 0
    · rw [if_pos c]; simpa using c.1
    · rw [if_neg c] at h ⊢; exact fst_spec h
theorem stepE_get {v r : Int} {E : List Int} {p : Nt} {k : Nat} (hk : k < E.length) : (stepE v r E p).getD k 0 = if v ≤ cntTo E p.st E.length ∧ k = (fstTo E p.st E.length).toNat then p.st else E.getD k 0 := by
  unfold stepE
  by_cases c : v ≤ cntTo E p.st E.length
  · rw [if_pos c, List.getD_eq_getElem?_getD, List.getElem?_append_left (by simpa using hk), List.getElem?_set]
    by_cases e : k = (fstTo E p.st E.length).toNat
    · rw [if_pos e.symm, ← e]
      simp [c, hk]
    · rw [if_neg (fun q => e q.symm), if_neg (fun q => e q.2), List.getD_eq_getElem?_getD]
  · rw [if_neg c, if_neg (fun q => c q.1), List.getD_eq_getElem?_getD, List.getElem?_append_left hk, List.getD_eq_getElem?_getD]
theorem stepE_len {v r : Int} {E : List Int} {p : Nt} : (stepE v r E p).length = E.length + 1 := by unfold stepE; split <;> simp
theorem stepE_last {v r : Int} {E : List Int} {p : Nt} : (stepE v r E p).getD E.length 0 = p.st + p.du + r := by
  unfold stepE
  split <;> simp
theorem ends_range {ps : List Nt} {v r : Int} (hN : notesUpto ps ps.length) (hr : 0 ≤ r) (hv : 1 ≤ v) : ∀ {i : Nat}, i ≤ ps.length → ∀ k (hk : k < ps.length), k < i → ps[k].st ≤ (endsTo ps v r i).getD k 0 ∧ (endsTo ps v r i).getD k 0 ≤ ps[k].st + ps[k].du + r
  | 0, _, k, _, h => by omega
  | i + 1, hi, k, hk, h => by
    have hlen := endsTo_len (ps := ps) (v := v) (r := r) (i := i) (by omega)
    rw [endsTo_succ (by omega)]
    have hno := (hN k hk hk).1
    unfold noteOk noted at hno
    simp only [decide_eq_true_eq] at hno
    by_cases e : k = i
    · subst e
      have := stepE_last (v := v) (r := r) (E := endsTo ps v r k) (p := ps[k])
      rw [hlen] at this
      rw [this]; omega
    · have ih := ends_range hN hr hv (i := i) (by omega) k hk (by omega)
      rw [stepE_get (by omega)]
      split
      · rename_i c
        have h2 := fstTo_range (E := endsTo ps v r i) (a := ps[i].st) (j := (endsTo ps v r i).length)
        have h3 := fst_spec (h2.2.2 (by omega))
        rw [← c.2] at h3
        have h4 := hN.le (i := k) (j := i) (by omega) (by omega)
        omega
      · exact ih
theorem ends_less {ps : List Nt} {v r : Int} (hv : 1 ≤ v) {i : Nat} : ∀ {d : Nat}, i + d ≤ ps.length → ∀ k, k < i → (endsTo ps v r (i + d)).getD k 0 ≤ (endsTo ps v r i).getD k 0
  | 0, _, k, h => Int.le_refl _
  | d + 1, hi, k, h => by
    have hlen := endsTo_len (ps := ps) (v := v) (r := r) (i := i + d) (by omega)
    have ih := ends_less (ps := ps) (r := r) hv (i := i) (d := d) (by omega) k h
    rw [← Nat.add_assoc, endsTo_succ (by omega), stepE_get (by omega)]
    split
    · rename_i c
      have h2 := fstTo_range (E := endsTo ps v r (i + d)) (a := ps[i + d].st) (j := (endsTo ps v r (i + d)).length)
      have h3 := fst_spec (h2.2.2 (by omega))
      rw [← c.2] at h3
      omega
    · exact ih
theorem cnt_mono {E : List Int} {a b : Int} (h : a ≤ b) : ∀ {j : Nat}, cntTo E b j ≤ cntTo E a j
  | 0 => Nat.le_refl _
  | j + 1 => by
    have := cnt_mono (E := E) h (j := j)
    unfold cntTo
    split <;> split <;> omega
theorem cnt_le_of {E F : List Int} {a : Int} : ∀ {j : Nat}, (∀ k, k < j → E.getD k 0 ≤ F.getD k 0) → cntTo E a j ≤ cntTo F a j
  | 0, _ => Nat.le_refl _
  | j + 1, h => by
    have := cnt_le_of (a := a) (j := j) (fun k hk => h k (by omega))
    have := h j (by omega)
    unfold cntTo
    split <;> split <;> omega
theorem cnt_lt_of {E F : List Int} {a : Int} {m : Nat} (hm : a < F.getD m 0) (hm2 : E.getD m 0 ≤ a) : ∀ {j : Nat}, m < j → (∀ k, k < j → E.getD k 0 ≤ F.getD k 0) → cntTo E a j + 1 ≤ cntTo F a j
  | 0, h, _ => by omega
  | j + 1, h, hle => by
    have hj := hle j (by omega)
    by_cases e : m = j
    · subst e
      have := cnt_le_of (a := a) (j := m) (fun k hk => hle k (by omega))
      unfold cntTo
      rw [if_pos hm, if_neg (by omega)]; omega
    · have := cnt_lt_of hm hm2 (j := j) (by omega) (fun k hk => hle k (by omega))
      unfold cntTo
      split <;> split <;> omega
/-- Never more than the voices. -/
theorem ends_cnt {ps : List Nt} {v r : Int} (hN : notesUpto ps ps.length) (hr : 0 ≤ r) (hv : 1 ≤ v) : ∀ {i : Nat}, i ≤ ps.length → ∀ a, (∀ k (hk : k < ps.length), k < i → ps[k].st ≤ a) → (cntTo (endsTo ps v r i) a i : Int) ≤ v
  | 0, _, a, _ => by simp [cntTo]; omega
  | i + 1, hi, a, ha => by
    have hlen := endsTo_len (ps := ps) (v := v) (r := r) (i := i) (by omega)
    have hst := ha i (by omega) (by omega)
    have ih := ends_cnt hN hr hv (i := i) (by omega) ps[i].st (fun k hk hlt => hN.le (by omega) (by omega))
    have h1 : cntTo (endsTo ps v r (i + 1)) a (i + 1) ≤ cntTo (endsTo ps v r (i + 1)) a i + 1 := by
      have e : cntTo (endsTo ps v r (i + 1)) a (i + 1) = if a < (endsTo ps v r (i + 1)).getD i 0 then cntTo (endsTo ps v r (i + 1)) a i + 1 else cntTo (endsTo ps v r (i + 1)) a i := rfl
      rw [e]
      split <;> omega
    have h2 := cnt_mono (E := endsTo ps v r (i + 1)) hst (j := i)
    have hle : ∀ k, k < i → (endsTo ps v r (i + 1)).getD k 0 ≤ (endsTo ps v r i).getD k 0 := fun k hk => ends_less hv (i := i) (d := 1) (by omega) k hk
    by_cases c : v ≤ cntTo (endsTo ps v r i) ps[i].st i
    · have g2 := fstTo_range (E := endsTo ps v r i) (a := ps[i].st) (j := i)
      have g3 := fst_spec (g2.2.2 (by omega))
      have h3 : cntTo (endsTo ps v r (i + 1)) ps[i].st i + 1 ≤ cntTo (endsTo ps v r i) ps[i].st i := by
        refine cnt_lt_of g3 ?_ (by omega) hle
        rw [endsTo_succ (by omega), stepE_get (by omega), hlen, if_pos ⟨c, rfl⟩]
        exact Int.le_refl _
      omega
    · have h3 := cnt_le_of (a := ps[i].st) hle
      omega
def sndTo (ps : List Nt) (E : List Int) (t : Int) : Nat → Nat
  | 0 => 0
  | i + 1 => match ps[i]? with
    | some p => if p.st ≤ t ∧ t < E.getD i 0 then sndTo ps E t i + 1 else sndTo ps E t i
    | none => sndTo ps E t i
theorem snd_succ {ps : List Nt} {E : List Int} {t : Int} {i : Nat} (hi : i < ps.length) : sndTo ps E t (i + 1) = if ps[i].st ≤ t ∧ t < E.getD i 0 then sndTo ps E t i + 1 else sndTo ps E t i := by
  simp only [sndTo, List.getElem?_eq_getElem hi]
theorem snd_cnt {ps : List Nt} {E : List Int} {t : Int} : ∀ {i : Nat}, i ≤ ps.length → sndTo ps E t i ≤ cntTo E t i
  | 0, _ => Nat.le_refl _
  | i + 1, h => by
    have := snd_cnt (ps := ps) (E := E) (t := t) (i := i) (by omega)
    rw [snd_succ (by omega)]
    unfold cntTo
    split
    · rename_i c; rw [if_pos c.2]; omega
    · split <;> omega
theorem snd_le {ps : List Nt} {v r t : Int} (hN : notesUpto ps ps.length) (hr : 0 ≤ r) (hv : 1 ≤ v) : ∀ {i : Nat}, i ≤ ps.length → (sndTo ps (endsTo ps v r ps.length) t i : Int) ≤ v
  | 0, _ => by simp [sndTo]; omega
  | i + 1, hi => by
    have ih := snd_le hN hr hv (v := v) (r := r) (t := t) (i := i) (by omega)
    by_cases c : ps[i].st ≤ t
    · have h1 := snd_cnt (ps := ps) (E := endsTo ps v r ps.length) (t := t) hi
      have h2 : cntTo (endsTo ps v r ps.length) t (i + 1) ≤ cntTo (endsTo ps v r (i + 1)) t (i + 1) := cnt_le_of fun k hk => by
        have := ends_less (ps := ps) (r := r) hv (i := i + 1) (d := ps.length - (i + 1)) (by omega) k hk
        rwa [show i + 1 + (ps.length - (i + 1)) = ps.length by omega] at this
      have h3 := ends_cnt hN hr hv hi t (fun k hk hlt => by have := hN.le (i := k) (j := i) (by omega) (by omega); omega)
      omega
    · rw [snd_succ (by omega), if_neg (fun q => c q.1)]
      exact ih
/-- With enough voices none is taken. -/
theorem ends_own {ps : List Nt} {v r : Int} (hv : (ps.length : Int) < v) : ∀ {i : Nat}, i ≤ ps.length → ∀ k (hk : k < ps.length), k < i → (endsTo ps v r i).getD k 0 = ps[k].st + ps[k].du + r
  | 0, _, k, _, h => by omega
  | i + 1, hi, k, hk, h => by
    have hlen := endsTo_len (ps := ps) (v := v) (r := r) (i := i) (by omega)
    rw [endsTo_succ (by omega)]
    by_cases e : k = i
    · subst e
      have := stepE_last (v := v) (r := r) (E := endsTo ps v r k) (p := ps[k])
      rw [hlen] at this
      rw [this]
    · have ih := ends_own hv (r := r) (i := i) (by omega) k hk (by omega)
      rw [stepE_get (by omega)]
      have hc := cntTo_le (E := endsTo ps v r i) (a := ps[i].st) (j := (endsTo ps v r i).length)
      rw [if_neg (by omega)]
      exact ih
end Go.E
