/- Slices that grow: what 'append' does to a slice that nobody else has. Plain lemmas; no condition. -/
import Derived.Test.YtgdloogokjemdaaGreatDoorEC
set_option linter.unusedVariables false
set_option linter.unusedSimpArgs false
namespace Go.E
open Go
section
variable {h g t : Hp} {lim ty sz bytes : Nat} {l : Lf} {rows : List (List Lf)} {y : CV}
theorem New.app (hN : New h g l ty sz rows) : New h (g ++ t) l ty sz rows := by
  refine ⟨hN.kept.more, hN.arr.app, ?_⟩
  rcases hN.own with h1 | ⟨id, h1, h2, h3⟩
  · exact .inl h1
  · exact .inr ⟨id, h1, h2, h3.app⟩
theorem New.lt (hN : New h g l ty sz rows) (hne : l ≠ .nils) : h.length ≤ l.id ∧ l.id < g.length := by
  rcases hN.own with ⟨rfl, _⟩ | ⟨id, rfl, h2, h3⟩
  · exact (hne rfl).elim
  · exact ⟨h2, h3.lt⟩
theorem New.later {g' : Hp} (hN : New h g l ty sz rows) (k : Kept g g') : New h g' l ty sz rows := by
  refine ⟨hN.kept.trans k, hN.arr.kept k, ?_⟩
  rcases hN.own with h1 | ⟨id, h1, h2, h3⟩
  · exact .inl h1
  · exact .inr ⟨id, h1, h2, h3.kept k⟩
theorem New.base {h0 : Hp} (hN : New h g l ty sz rows) (k : Kept h0 h) : New h0 g l ty sz rows := by
  refine ⟨k.trans hN.kept, hN.arr, ?_⟩
  rcases hN.own with h1 | ⟨id, h1, h2, h3⟩
  · exact .inl h1
  · exact .inr ⟨id, h1, Nat.le_trans k.1 h2, h3⟩
/-- All but one object is as it was. -/
structure But (g g' : Hp) (l l' : Lf) : Prop where
  len : g.length ≤ g'.length
  same : ∀ id, id < g.length → (l ≠ .nils → id ≠ l.id) → g'[id]? = g[id]?
  far : l' = l ∨ g.length ≤ l'.id
theorem But.kept {h g' : Hp} {l l' : Lf} (b : But g g' l l') (hk : Kept h g) (hid : l ≠ .nils → h.length ≤ l.id) : Kept h g' :=
  ⟨Nat.le_trans hk.1 b.len, fun id hlt => by
    rw [b.same id (Nat.lt_of_lt_of_le hlt hk.1) (fun hne => by have := hid hne; omega)]
    exact hk.2 id hlt⟩
theorem But.sl {g' : Hp} {l l' : Lf} {id ty sz : Nat} {rows : List (List Lf)} (b : But g g' l l') (hs : Sl g id ty sz rows) (hne : l ≠ .nils → id ≠ l.id) : Sl g' id ty sz rows := ⟨by rw [b.same id hs.lt hne]; exact hs.get, hs.len⟩
theorem But.new {h g' : Hp} {l l' l2 : Lf} {ty sz : Nat} {rows : List (List Lf)} (b : But g g' l l') (hN : New h g l2 ty sz rows) (hid : l ≠ .nils → h.length ≤ l.id) (hne : l ≠ .nils → l2 ≠ .nils → l2.id ≠ l.id) : New h g' l2 ty sz rows := by
  have hk := b.kept hN.kept hid
  rcases hN.own with ⟨rfl, rfl⟩ | ⟨id, rfl, h2, h3⟩
  · exact New.nil hk
  · have h4 := b.sl h3 (fun hn => hne hn (by simp))
    exact ⟨hk, h4.arr hN.arr.small, .inr ⟨id, rfl, h2, h4⟩⟩
theorem New.src (hN : New h g l ty sz rows) : srcCells sz g (.lf l) = some (rows.length, rows.flatten) := by
  rcases hN.own with ⟨rfl, rfl⟩ | ⟨id, rfl, h2, h3⟩
  · rfl
  · have hr : rdCells g id 0 (rows.length * sz) = some rows.flatten := by
      unfold rdCells
      rw [h3.get]
      have := flat_len h3.len
      simp only [Ob.live, List.drop_zero]
      rw [if_pos ⟨trivial, by omega⟩, ← this, List.take_length]
    simp [srcCells, hr]
theorem New.append {g : Hp} {new : List (List Lf)} (hN : New h g l ty sz rows) (hsz : 0 < sz) (hl : lim ≤ h.length) (hs : srcCells sz g y = some (new.length, new.flatten)) (hnew : ∀ (i : Nat) (r : List Lf), new[i]? = some r → r.length = sz) (hb : (rows.length + new.length) * bytes ≤ 140737488355328) (hb2 : rows.length + new.length ≤ 140737488355328) :
    ∃ l' g', appV lim ty sz bytes g (.lf l) y = some (.lf l', g') ∧ New h g' l' ty sz (rows ++ new) ∧ But g g' l l' := by
  unfold appV
  rw [hs]
  simp only [Option.bind_some]
  by_cases hm : new.length = 0
  · have hnil : new = [] := List.length_eq_zero_iff.1 hm
    subst hnil
    refine ⟨l, g, ?_, by simpa using hN, ⟨Nat.le_refl _, fun _ _ _ => rfl, .inl rfl⟩⟩
    rcases hN.own with ⟨rfl, _⟩ | ⟨id, rfl, h2, h3⟩
    · simp
    · have hr : rdCells g id 0 (rows.length * sz) = some rows.flatten := by
        unfold rdCells
        rw [h3.get]
        have := flat_len h3.len
        simp only [Ob.live, List.drop_zero]
        rw [if_pos ⟨trivial, by omega⟩, ← this, List.take_length]
      simp [hr]
  · rw [if_neg hm]
    rcases hN.own with ⟨rfl, rfl⟩ | ⟨id, rfl, h2, h3⟩
    · refine ⟨_, _, if_pos (by simpa using hb), ?_, ⟨by simp, fun id hid _ => by rw [List.getElem?_append_left hid], .inr (Nat.le_refl _)⟩⟩
      have hk : Kept h (g ++ [(⟨new.flatten, .own ty sz⟩ : Ob)]) := hN.kept.more
      have hS : Sl (g ++ [(⟨new.flatten, .own ty sz⟩ : Ob)]) g.length ty sz new := ⟨by rw [List.getElem?_append_right (Nat.le_refl _)]; simp, hnew⟩
      exact New.of_sl hk hS hN.kept.1 (by simpa using hb2)
    · simp only []
      rw [h3.get]
      simp only []
      have hfl := flat_len h3.len
      rw [if_pos ⟨Nat.le_trans hl h2, trivial, trivial, trivial, trivial, hfl, hb⟩]
      have hlt := h3.lt
      refine ⟨_, _, rfl, ?_, ⟨by simp, fun id' hid' hne => by rw [List.getElem?_append_left (by simpa using hid'), List.getElem?_set_ne (show id ≠ id' from fun e => hne (by simp) e.symm)], .inr (Nat.le_refl _)⟩⟩
      have hk : Kept h (g.set id ⟨[], .dead⟩ ++ [(⟨rows.flatten ++ new.flatten, .own ty sz⟩ : Ob)]) := (hN.kept.set h2).more
      have hS : Sl (g.set id ⟨[], .dead⟩ ++ [(⟨rows.flatten ++ new.flatten, .own ty sz⟩ : Ob)]) g.length ty sz (rows ++ new) := by
        refine ⟨by rw [List.getElem?_append_right (by simp)]; simp, fun i r hi => ?_⟩
        rw [List.getElem?_append] at hi
        split at hi
        · exact h3.len i r hi
        · exact hnew _ r hi
      have := New.of_sl hk hS hN.kept.1 (by simpa using hb2)
      simpa using this
@[simp] theorem src_new {n : Nat} {cs : List Lf} (hc : n * sz = cs.length) : srcCells sz (g ++ [⟨cs, .own ty sz⟩]) (.lf (.sl g.length 0 n sz)) = some (n, cs) := by
  unfold srcCells
  simp only [if_true, rd_new0, rd_own, Nat.zero_add, List.drop_zero]
  rw [if_pos (by omega), hc, List.take_length]; rfl
/-- One more. -/
theorem New.push {g : Hp} {r : List Lf} (hN : New h g l ty sz rows) (hsz : 0 < sz) (hl : lim ≤ h.length) (hr : r.length = sz) (hb : (rows.length + 1) * bytes ≤ 140737488355328) (hb2 : rows.length + 1 ≤ 140737488355328) :
    ∃ l' g', appV lim ty sz bytes (g ++ [⟨r, .own ty sz⟩]) (.lf l) (.lf (.sl g.length 0 1 sz)) = some (.lf l', g') ∧ New h g' l' ty sz (rows ++ [r]) ∧ But g g' l l' := by
  have hlt : l ≠ .nils → l.id < g.length := fun hne => (hN.lt hne).2
  obtain ⟨l', g', h1, h2, h3⟩ := (hN.app (t := [⟨r, .own ty sz⟩])).append (lim := lim) (bytes := bytes) (y := .lf (.sl g.length 0 1 sz)) (new := [r]) hsz hl (by rw [src_new (by simp [hr])]; simp) (fun i q hi => by
    cases i with
    | zero => simp at hi; subst hi; exact hr
    | succ i => simp at hi) hb hb2
  have hgl : g.length ≤ g'.length := Nat.le_trans (by simp) h3.len
  refine ⟨l', g', h1, h2, ⟨hgl, fun id hid hne => ?_, ?_⟩⟩
  · rw [h3.same id (by simp; omega) hne, List.getElem?_append_left hid]
  · rcases h3.far with e | e
    · exact .inl e
    · right; simp at e; omega
end
theorem New.lit0 {h : Hp} {ty sz : Nat} : New h (h ++ [⟨[], .own ty sz⟩]) (.sl h.length 0 0 sz) ty sz [] := by
  have hS : Sl (h ++ [(⟨[], .own ty sz⟩ : Ob)]) h.length ty sz [] := ⟨by rw [List.getElem?_append_right (Nat.le_refl _)]; simp, fun i r hi => by simp at hi⟩
  exact New.of_sl (Kept.app _ _) hS (Nat.le_refl _) (by simp)
theorem New.litN {h g : Hp} {ty sz : Nat} (hk : Kept h g) : New h (g ++ [⟨[], .own ty sz⟩]) (.sl g.length 0 0 sz) ty sz [] := by
  have hS : Sl (g ++ [(⟨[], .own ty sz⟩ : Ob)]) g.length ty sz [] := ⟨by rw [List.getElem?_append_right (Nat.le_refl _)]; simp, fun i r hi => by simp at hi⟩
  exact New.of_sl hk.more hS hk.1 (by simp)
/-- Rows of which the first i are written anew. -/
def mixed (f : Nat → List Lf) (rows : List (List Lf)) (i : Nat) : List (List Lf) := (List.range rows.length).map fun j => if j < i then f j else nth rows j
@[simp] theorem mixed_len {f : Nat → List Lf} {rows : List (List Lf)} {i : Nat} : (mixed f rows i).length = rows.length := by simp [mixed]
theorem mixed_zero {f : Nat → List Lf} {rows : List (List Lf)} : mixed f rows 0 = rows := by
  apply List.ext_getElem
  · simp
  · intro j h1 h2
    simp [mixed, nth, h2]
theorem mixed_set {f : Nat → List Lf} {rows : List (List Lf)} {r : List Lf} {i : Nat} (hr : r = f i) : (mixed f rows i).set i r = mixed f rows (i + 1) := by
  subst hr
  apply List.ext_getElem
  · simp [mixed]
  · intro j h1 h2
    simp only [List.getElem_set, mixed, List.getElem_map, List.getElem_range]
    by_cases e : i = j
    · subst e; simp
    · rw [if_neg e]
      by_cases h3 : j < i
      · rw [if_pos h3, if_pos (by omega)]
      · rw [if_neg h3, if_neg (by omega)]
theorem mixed_all {f : Nat → List Lf} {rows : List (List Lf)} : mixed f rows rows.length = (List.range rows.length).map f := by
  apply List.ext_getElem
  · simp [mixed]
  · intro j h1 h2
    simp only [mixed, List.getElem_map, List.getElem_range]
    rw [if_pos (by simpa [mixed] using h1)]
theorem Sl.mix {g : Hp} {id ty sz i : Nat} {f : Nat → List Lf} {rows : List (List Lf)} {r : List Lf} (hs : Sl g id ty sz (mixed f rows i)) (hr : r = f i) (hn : r.length = sz) : Sl (g.set id ⟨((mixed f rows i).set i r).flatten, .own ty sz⟩) id ty sz (mixed f rows (i + 1)) := by
  have := hs.set (i := i) hn
  rwa [mixed_set hr] at this ⊢
/-! ### Parts of a slice -/
theorem src_kept {g g' : Hp} {sz n : Nat} {v : CV} {cs : List Lf} (k : Kept g g') (hs : srcCells sz g v = some (n, cs)) : srcCells sz g' v = some (n, cs) := by
  unfold srcCells at hs ⊢
  split at hs
  · exact hs
  · split at hs
    · rename_i e
      rw [if_pos e]
      obtain ⟨q, h1, h2⟩ := Option.map_eq_some_iff.1 hs
      rw [k.rd h1]; rw [← h2]; rfl
    · cases hs
  · cases hs
/-- The slice from the j-th on. -/
def Lf.from_ (j sz : Nat) : Lf → Lf
  | .sl id off n s => .sl id (off + j * sz) (n - j) s
  | l => l
def slcV (sz : Nat) (x : CV) (lo hi : Option CV) : Option CV := match x with
    | .lf .nils => (boundV 0 hi).bind fun hi' => (boundV 0 lo).bind fun lo' => if lo' = 0 ∧ hi' = 0 then some (.lf .nils) else none
    | .lf (.sl id off n sz') => (boundV n hi).bind fun hi' => (boundV 0 lo).bind fun lo' =>
      if lo' ≤ hi' ∧ hi' ≤ n ∧ sz' = sz ∧ 0 < sz then some (.lf (.sl id (off + lo' * sz) (hi' - lo') sz)) else none
    | _ => none
@[simp] theorem wO_slice {S : Sys} {lim : Nat} {a : Fr} {h : Hp} {K : CV → Hp → Prop} {sz : Nat} {x : X} {lo hi : Option X} : wO S lim (.slice sz x lo hi) a h K = oc ((slcV sz (evX a x) (evO2 a lo) (evO2 a hi)).map fun v => (v, h)) K := by
  unfold wO; simp only [evO, slcV]
  generalize evX a x = u; rcases u with l | l | l <;> try rfl
  cases l <;> try rfl
  · simp only []
    generalize boundV 0 (evO2 a hi) = p; generalize boundV 0 (evO2 a lo) = q
    rcases p with _ | p <;> rcases q with _ | q <;> try rfl
    simp only [Option.bind_some]; split <;> rfl
  · rename_i id off n s
    simp only []
    generalize boundV n (evO2 a hi) = p; generalize boundV 0 (evO2 a lo) = q
    rcases p with _ | p <;> rcases q with _ | q <;> try rfl
    simp only [Option.bind_some]; split <;> rfl
theorem slcV_from {g : Hp} {l : Lf} {sz j : Nat} {rows : List (List Lf)} (hA : Arr g l sz rows) (hsz : 0 < sz) (hj : j ≤ rows.length) : slcV sz (.lf l) (some (.lf (.int .i64 j))) none = some (.lf (l.from_ j sz)) := by
  have hn := hA.n
  have hs := hA.isS
  cases l <;> simp [Lf.isS] at hs
  · simp [Lf.n] at hn
    have : j = 0 := by omega
    subst this
    simp [slcV, boundV, Lf.from_]
  · subst hs
    simp only [Lf.n] at hn
    simp [slcV, boundV, Lf.from_, hsz]
    omega
theorem Arr.from_ {g : Hp} {l : Lf} {sz j : Nat} {rows : List (List Lf)} (hA : Arr g l sz rows) (hj : j ≤ rows.length) : Arr g (l.from_ j sz) sz (rows.drop j) := by
  have hn := hA.n
  have hs := hA.isS
  have hsm := hA.small
  cases l <;> simp [Lf.isS] at hs
  · simp [Lf.n] at hn
    have : rows = [] := List.length_eq_zero_iff.1 hn.symm
    subst this
    simpa [Lf.from_] using hA
  · subst hs
    simp only [Lf.n] at hn
    refine ⟨rfl, by simp [Lf.from_, hn], by simp; omega, fun i r hi => ?_⟩
    have := hA.row (j + i) r (by simpa using hi)
    refine ⟨this.1, ?_⟩
    have h2 := this.2
    simp only [Lf.id, Lf.off, Lf.from_] at h2 ⊢
    rw [Nat.add_assoc, ← Nat.add_mul]; exact h2
theorem src_from {g : Hp} {l : Lf} {sz j : Nat} {rows : List (List Lf)} (hl : ∀ (i : Nat) (r : List Lf), rows[i]? = some r → r.length = sz) (hs : srcCells sz g (.lf l) = some (rows.length, rows.flatten)) (hj : j ≤ rows.length) : srcCells sz g (.lf (l.from_ j sz)) = some ((rows.drop j).length, (rows.drop j).flatten) := by
  have hfl := flat_len hl
  have hdrop : rows.flatten.drop (j * sz) = (rows.drop j).flatten := by
    have h1 : (rows.take j).flatten.length = j * sz := by
      rw [flat_len (sz := sz) (fun i r hi => hl i r (by
        rw [List.getElem?_take] at hi; split at hi
        · exact hi
        · cases hi))]
      rw [List.length_take, Nat.min_eq_left hj]
    have h2 : rows.flatten = (rows.take j).flatten ++ (rows.drop j).flatten := by rw [← List.flatten_append, List.take_append_drop]
    rw [h2, ← h1, List.drop_left]
  cases l <;> simp [srcCells] at hs ⊢
  · have : rows = [] := List.length_eq_zero_iff.1 hs.1.symm
    subst this
    simp [Lf.from_]
  · rename_i id off n s
    obtain ⟨h1, h3, h2⟩ := hs
    subst h1
    simp only [Lf.from_, if_true]
    have h4 := rd_sub h3 (j := j * s) (m := (n - j) * s) (by rw [← Nat.add_mul]; exact Nat.mul_le_mul_right _ (by omega))
    rw [h4]
    simp only [Option.map_some, Option.some.injEq, Prod.mk.injEq]
    refine ⟨by omega, ?_⟩
    rw [hdrop]
    apply List.take_of_length_le
    rw [← hdrop, List.length_drop, hfl, Nat.sub_mul, h2]
    exact Nat.le_refl _
end Go.E
