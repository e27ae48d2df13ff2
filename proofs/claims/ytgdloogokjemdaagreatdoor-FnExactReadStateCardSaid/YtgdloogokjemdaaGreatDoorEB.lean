/- The heap in the calculus: reading and writing what is there, what was made, and slices by their rows. Plain lemmas; no condition. -/
import Derived.Test.YtgdloogokjemdaaGreatDoorEA
set_option linter.unusedVariables false
set_option linter.unusedSimpArgs false
namespace Go.E
open Go
section
variable {h t : Hp} {lim : Nat}
theorem rd_app {id off n : Nat} (hid : id < h.length) : rdCells (h ++ t) id off n = rdCells h id off n := by
  unfold rdCells; rw [List.getElem?_append_left hid]
@[simp] theorem rd_new {k off n : Nat} : rdCells (h ++ t) (h.length + k) off n = rdCells t k off n := by
  unfold rdCells; rw [List.getElem?_append_right (by omega)]; simp
@[simp] theorem rd_new0 {off n : Nat} : rdCells (h ++ t) h.length off n = rdCells t 0 off n := by
  have := rd_new (h := h) (t := t) (k := 0) (off := off) (n := n)
  simpa using this
@[simp] theorem rd_own {cs : List Lf} {ty sz off n : Nat} : rdCells (⟨cs, .own ty sz⟩ :: t) 0 off n = if off + n ≤ cs.length then some ((cs.drop off).take n) else none := by
  simp [rdCells, Ob.live]
@[simp] theorem rd_succ {o : Ob} {k off n : Nat} : rdCells (o :: t) (k + 1) off n = rdCells t k off n := by simp [rdCells]
theorem rd_lt {id off n : Nat} {ls : List Lf} (hr : rdCells h id off n = some ls) : id < h.length := by
  unfold rdCells at hr
  split at hr
  · rename_i o e; exact (List.getElem?_eq_some_iff.1 e).1
  · cases hr
theorem rd_app' {id off n : Nat} {ls : List Lf} (hr : rdCells h id off n = some ls) : rdCells (h ++ t) id off n = some ls := by rw [rd_app (rd_lt hr), hr]
theorem rd_sub {id off n : Nat} {ls : List Lf} {j m : Nat} (hr : rdCells h id off n = some ls) (hj : j + m ≤ n) : rdCells h id (off + j) m = some ((ls.drop j).take m) := by
  unfold rdCells at hr ⊢
  generalize h[id]? = q at hr ⊢
  cases q with
  | none => cases hr
  | some o =>
    dsimp only at hr ⊢
    split at hr
    · rename_i hc
      injection hr with hr; subst hr
      rw [if_pos ⟨hc.1, by omega⟩, List.drop_take, List.take_take, List.drop_drop, Nat.min_eq_left (by omega)]
    · cases hr
theorem rd_len {id off n : Nat} {ls : List Lf} (hr : rdCells h id off n = some ls) : ls.length = n := by
  unfold rdCells at hr
  split at hr
  · split at hr
    · rename_i hc; injection hr with hr; subst hr; simp; omega
    · cases hr
  · cases hr
@[simp] theorem wr_own {cs new : List Lf} {ty sz off : Nat} : wrCells 0 (⟨cs, .own ty sz⟩ :: t) 0 off new = if off + new.length ≤ cs.length then some (⟨splice cs off new, .own ty sz⟩ :: t) else none := by
  simp [wrCells]
@[simp] theorem wr_succ {o : Ob} {k off : Nat} {new : List Lf} : wrCells 0 (o :: t) (k + 1) off new = (wrCells 0 t k off new).map (o :: ·) := by
  simp only [wrCells, List.getElem?_cons_succ]
  generalize t[k]? = q
  rcases q with _ | ⟨cs, st⟩
  · rfl
  · cases st <;> simp
    all_goals (first | done | (split <;> simp))
theorem wr_new {k off : Nat} {new : List Lf} (hl : lim ≤ h.length + k) : wrCells lim (h ++ t) (h.length + k) off new = (wrCells 0 t k off new).map (h ++ ·) := by
  simp only [wrCells]
  rw [List.getElem?_append_right (by omega)]
  simp only [Nat.add_sub_cancel_left]
  cases e : t[k]? with
  | none => rfl
  | some o =>
    obtain ⟨cs, st⟩ := o
    have hk := (List.getElem?_eq_some_iff.1 e).1
    cases st with
    | own ty sz => by_cases hc : off + new.length ≤ cs.length <;> simp [hc, hl, List.set_append_right]
    | _ => rfl
theorem wr_new0 {off : Nat} {new : List Lf} (hl : lim ≤ h.length) : wrCells lim (h ++ t) h.length off new = (wrCells 0 t 0 off new).map (h ++ ·) := by
  have := wr_new (h := h) (t := t) (k := 0) (off := off) (new := new) (lim := lim) (by omega)
  simpa using this
@[simp] theorem splice_zero {cs new : List Lf} : splice cs 0 new = new ++ cs.drop new.length := by simp [splice]
@[simp] theorem splice_succ {c : Lf} {cs new : List Lf} {off : Nat} : splice (c :: cs) (off + 1) new = c :: splice cs off new := by
  have : off + 1 + new.length = off + new.length + 1 := by omega
  simp [splice, this]

/-- The cells there. -/
def rdD (h : Hp) (id off n : Nat) : List Lf := (rdCells h id off n).getD []
theorem rdD_some {id off n : Nat} {ls : List Lf} (hr : rdD h id off n = ls) (hn : ls ≠ []) : rdCells h id off n = some ls := by
  unfold rdD at hr
  cases e : rdCells h id off n with
  | none => rw [e] at hr; exact (hn hr.symm).elim
  | some q => rw [e] at hr; simp at hr; rw [hr]
/-- Slice l holds these rows, each of sz cells. -/
structure Arr (h : Hp) (l : Lf) (sz : Nat) (rows : List (List Lf)) : Prop where
  isS : l.isS sz
  n : l.n = rows.length
  small : rows.length ≤ 140737488355328
  row : ∀ (i : Nat) (r : List Lf), rows[i]? = some r → r.length = sz ∧ rdCells h l.id (l.off + i * sz) sz = some r
theorem Arr.app {l : Lf} {sz : Nat} {rows : List (List Lf)} (hA : Arr h l sz rows) : Arr (h ++ t) l sz rows :=
  ⟨hA.isS, hA.n, hA.small, fun i r hi => ⟨(hA.row i r hi).1, rd_app' (hA.row i r hi).2⟩⟩
/-- What was there is as it was. -/
def Kept (h h' : Hp) : Prop := h.length ≤ h'.length ∧ ∀ id, id < h.length → h'[id]? = h[id]?
theorem Kept.refl (h : Hp) : Kept h h := ⟨Nat.le_refl _, fun _ _ => rfl⟩
theorem Kept.app (h t : Hp) : Kept h (h ++ t) := ⟨by simp, fun id hid => List.getElem?_append_left hid⟩
@[simp] theorem Kept.more {g : Hp} (k : Kept h g) : Kept h (g ++ t) := ⟨Nat.le_trans k.1 (by simp), fun id hid => by rw [List.getElem?_append_left (Nat.lt_of_lt_of_le hid k.1), k.2 id hid]⟩
theorem Kept.trans {h1 h2 h3 : Hp} (a : Kept h1 h2) (b : Kept h2 h3) : Kept h1 h3 :=
  ⟨Nat.le_trans a.1 b.1, fun id hid => by rw [b.2 id (Nat.lt_of_lt_of_le hid a.1), a.2 id hid]⟩
theorem Kept.rd {h' : Hp} (k : Kept h h') {id off n : Nat} {ls : List Lf} (hr : rdCells h id off n = some ls) : rdCells h' id off n = some ls := by
  have hid := rd_lt hr
  unfold rdCells at hr ⊢
  rw [k.2 id hid]; exact hr
theorem Arr.kept {h' : Hp} {l : Lf} {sz : Nat} {rows : List (List Lf)} (hA : Arr h l sz rows) (k : Kept h h') : Arr h' l sz rows :=
  ⟨hA.isS, hA.n, hA.small, fun i r hi => ⟨(hA.row i r hi).1, k.rd (hA.row i r hi).2⟩⟩
section
variable {l : Lf} {sz : Nat} {α : Type} {f : α → List Lf} {xs : List α}
theorem Arr.len (hA : Arr h l sz (xs.map f)) : lenV (.lf l) = some (.lf (.int .i64 (xs.length : Int))) := by
  rw [lenV_lf hA.isS, hA.n]; simp
theorem Arr.at_ (hA : Arr h l sz (xs.map f)) {k : IntKind} {i : Nat} (hi : i < xs.length) : iadV sz (.lf l) (.lf (.int k (i : Int))) = some (.lf (.ptr l.id (l.off + i * sz))) := by
  rw [iadV_lf hA.isS (by omega) (by rw [hA.n]; simpa using hi)]; simp
theorem Arr.at_' (hA : Arr h l sz (xs.map f)) {k : IntKind} {i : Int} (h0 : 0 ≤ i) (hi : i < xs.length) : iadV sz (.lf l) (.lf (.int k i)) = some (.lf (.ptr l.id (l.off + i.toNat * sz))) := by
  rw [iadV_lf hA.isS h0 (by rw [hA.n]; simpa using hi)]
theorem Arr.rd (hA : Arr h l sz (xs.map f)) {i : Nat} (hi : i < xs.length) : rdCells h l.id (l.off + i * sz) sz = some (f xs[i]) :=
  (hA.row i (f xs[i]) (by simp [hi])).2
theorem Arr.rdIn (hA : Arr h l sz (xs.map f)) {i j m : Nat} (hi : i < xs.length) (hj : j + m ≤ sz) : rdCells h l.id (l.off + i * sz + j) m = some (((f xs[i]).drop j).take m) :=
  rd_sub (hA.rd hi) hj
theorem Arr.rdIn0 (hA : Arr h l sz (xs.map f)) {i m : Nat} (hi : i < xs.length) (hj : m ≤ sz) : rdCells h l.id (l.off + i * sz) m = some ((f xs[i]).take m) := by
  have := hA.rdIn (j := 0) (m := m) hi (by omega); simpa using this
theorem Arr.rdA (hA : Arr h l sz (xs.map f)) {i : Nat} (hi : i < xs.length) : rdCells (h ++ t) l.id (l.off + i * sz) sz = some (f xs[i]) := hA.app.rd hi
theorem Arr.rdInA (hA : Arr h l sz (xs.map f)) {i j m : Nat} (hi : i < xs.length) (hj : j + m ≤ sz) : rdCells (h ++ t) l.id (l.off + i * sz + j) m = some (((f xs[i]).drop j).take m) := hA.app.rdIn hi hj
theorem Arr.rdIn0A (hA : Arr h l sz (xs.map f)) {i m : Nat} (hi : i < xs.length) (hj : m ≤ sz) : rdCells (h ++ t) l.id (l.off + i * sz) m = some ((f xs[i]).take m) := hA.app.rdIn0 hi hj
theorem Arr.at0 (hA : Arr h l sz (xs.map f)) {k : IntKind} (hi : 0 < xs.length) : iadV sz (.lf l) (.lf (.int k 0)) = some (.lf (.ptr l.id l.off)) := by
  have := hA.at_ (k := k) hi; simpa using this
theorem Arr.rd0 (hA : Arr h l sz (xs.map f)) {m : Nat} (hi : 0 < xs.length) (hj : m ≤ sz) : rdCells h l.id l.off m = some ((f xs[0]).take m) := by
  have := hA.rdIn0 (m := m) hi hj; simpa using this
theorem Arr.rd0j (hA : Arr h l sz (xs.map f)) {j m : Nat} (hi : 0 < xs.length) (hj : j + m ≤ sz) : rdCells h l.id (l.off + j) m = some (((f xs[0]).drop j).take m) := by
  have := hA.rdIn (j := j) (m := m) hi hj; simpa using this
theorem Arr.rd0A (hA : Arr h l sz (xs.map f)) {m : Nat} (hi : 0 < xs.length) (hj : m ≤ sz) : rdCells (h ++ t) l.id l.off m = some ((f xs[0]).take m) := hA.app.rd0 hi hj
theorem Arr.rd0jA (hA : Arr h l sz (xs.map f)) {j m : Nat} (hi : 0 < xs.length) (hj : j + m ≤ sz) : rdCells (h ++ t) l.id (l.off + j) m = some (((f xs[0]).drop j).take m) := hA.app.rd0j hi hj
theorem Arr.rd1 (hA : Arr h l 1 (xs.map f)) {i : Nat} (hi : i < xs.length) : rdCells h l.id (l.off + i) 1 = some (f xs[i]) := by simpa using hA.rd hi
theorem Arr.rd1A (hA : Arr h l 1 (xs.map f)) {i : Nat} (hi : i < xs.length) : rdCells (h ++ t) l.id (l.off + i) 1 = some (f xs[i]) := hA.app.rd1 hi
theorem Arr.lt (hA : Arr h l sz (xs.map f)) {i : Nat} (hi : i < xs.length) : l.id < h.length := rd_lt (hA.rd hi)
theorem Arr.bound (hA : Arr h l sz (xs.map f)) : xs.length ≤ 140737488355328 := by simpa using hA.small
end
/-! ### An object that is written row by row -/
structure Sl (g : Hp) (id ty sz : Nat) (rows : List (List Lf)) : Prop where
  get : g[id]? = some ⟨rows.flatten, .own ty sz⟩
  len : ∀ (i : Nat) (r : List Lf), rows[i]? = some r → r.length = sz
theorem flat_len {sz : Nat} : ∀ {rows : List (List Lf)}, (∀ (i : Nat) (r : List Lf), rows[i]? = some r → r.length = sz) → rows.flatten.length = rows.length * sz
  | [], _ => by simp
  | r :: rs, hl => by
    have h1 := hl 0 r rfl
    have h2 := flat_len (rows := rs) (fun i r hi => hl (i + 1) r (by simpa using hi))
    simp only [List.flatten_cons, List.length_append, List.length_cons, h2, h1]
    rw [Nat.add_mul, Nat.one_mul, Nat.add_comm]
theorem flat_get {sz : Nat} : ∀ {rows : List (List Lf)} {i : Nat} {r : List Lf}, (∀ (i : Nat) (r : List Lf), rows[i]? = some r → r.length = sz) → rows[i]? = some r → (rows.flatten.drop (i * sz)).take sz = r
  | [], i, r, _, h => by simp at h
  | q :: rs, 0, r, hl, h => by
    have h1 := hl 0 q rfl
    simp at h; subst h
    simp [← h1]
  | q :: rs, i + 1, r, hl, h => by
    have h1 := hl 0 q rfl
    have h2 := flat_get (rows := rs) (i := i) (r := r) (fun i r hi => hl (i + 1) r (by simpa using hi)) (by simpa using h)
    have e : (i + 1) * sz = q.length + i * sz := by rw [Nat.add_mul, h1]; omega
    rw [e, List.flatten_cons, ← List.drop_drop, List.drop_left]
    exact h2
theorem flat_set {sz : Nat} {new : List Lf} (hn : new.length = sz) : ∀ {rows : List (List Lf)} {i : Nat}, (∀ (i : Nat) (r : List Lf), rows[i]? = some r → r.length = sz) → i < rows.length → splice rows.flatten (i * sz) new = (rows.set i new).flatten
  | [], i, _, h => by simp at h
  | q :: rs, 0, hl, h => by
    have h1 := hl 0 q rfl
    simp [splice, hn, ← h1]
  | q :: rs, i + 1, hl, h => by
    have h1 := hl 0 q rfl
    have h2 := flat_set hn (rows := rs) (i := i) (fun i r hi => hl (i + 1) r (by simpa using hi)) (by simpa using h)
    have e : (i + 1) * sz = q.length + i * sz := by rw [Nat.add_mul, h1]; omega
    simp only [List.set_cons_succ, List.flatten_cons, ← h2]
    unfold splice
    rw [e, List.take_append, List.drop_append]
    have e2 : q.length + i * sz + new.length - q.length = i * sz + new.length := by omega
    rw [List.take_of_length_le (by omega), List.drop_of_length_le (by omega), e2]
    simp [Nat.add_sub_cancel_left]
section
variable {g : Hp} {id ty sz : Nat} {rows : List (List Lf)}
theorem Sl.lt (hs : Sl g id ty sz rows) : id < g.length := (List.getElem?_eq_some_iff.1 hs.get).1
theorem Sl.wr (hs : Sl g id ty sz rows) {i : Nat} {new : List Lf} (hl : lim ≤ id) (hi : i < rows.length) (hn : new.length = sz) : wrCells lim g id (i * sz) new = some (g.set id ⟨(rows.set i new).flatten, .own ty sz⟩) := by
  unfold wrCells
  rw [hs.get]
  simp only []
  have h2 : i * sz + new.length ≤ rows.flatten.length := by
    rw [flat_len hs.len, hn]
    calc i * sz + sz = (i + 1) * sz := by rw [Nat.add_mul, Nat.one_mul]
      _ ≤ _ := Nat.mul_le_mul_right _ hi
  rw [if_pos ⟨hl, h2⟩, flat_set hn hs.len hi]
theorem Sl.wr1 (hs : Sl g id ty 1 rows) {i : Nat} {c : Lf} (hl : lim ≤ id) (hi : i < rows.length) : wrCells lim g id i [c] = some (g.set id ⟨(rows.set i [c]).flatten, .own ty 1⟩) := by
  simpa using hs.wr (lim := lim) (i := i) (new := [c]) hl hi rfl
theorem Sl.rd (hs : Sl g id ty sz rows) {i : Nat} (hi : i < rows.length) : rdCells g id (i * sz) sz = some rows[i] := by
  unfold rdCells
  rw [hs.get]
  simp only [Ob.live]
  have h2 : i * sz + sz ≤ rows.flatten.length := by
    rw [flat_len hs.len]
    calc i * sz + sz = (i + 1) * sz := by rw [Nat.add_mul, Nat.one_mul]
      _ ≤ _ := Nat.mul_le_mul_right _ hi
  rw [if_pos ⟨trivial, h2⟩, flat_get hs.len (List.getElem?_eq_getElem hi)]
theorem Sl.rd1 (hs : Sl g id ty 1 rows) {i : Nat} (hi : i < rows.length) : rdCells g id i 1 = some rows[i] := by simpa using hs.rd hi
theorem Sl.set (hs : Sl g id ty sz rows) {i : Nat} {new : List Lf} (hn : new.length = sz) : Sl (g.set id ⟨(rows.set i new).flatten, .own ty sz⟩) id ty sz (rows.set i new) := by
  refine ⟨by rw [List.getElem?_set_self hs.lt], fun j r hj => ?_⟩
  rw [List.getElem?_set] at hj
  split at hj
  · split at hj
    · injection hj with hj; subst hj; exact hn
    · cases hj
  · exact hs.len j r hj
theorem Sl.other (hs : Sl g id ty sz rows) {id2 : Nat} {o : Ob} (hne : id2 ≠ id) : Sl (g.set id2 o) id ty sz rows := ⟨by rw [List.getElem?_set_ne hne]; exact hs.get, hs.len⟩
theorem Sl.app (hs : Sl g id ty sz rows) : Sl (g ++ t) id ty sz rows := ⟨by rw [List.getElem?_append_left hs.lt]; exact hs.get, hs.len⟩
theorem Sl.kept {g' : Hp} (hs : Sl g id ty sz rows) (hk : Kept g g') : Sl g' id ty sz rows := ⟨by rw [hk.2 id hs.lt]; exact hs.get, hs.len⟩
theorem Sl.arr (hs : Sl g id ty sz rows) (hb : rows.length ≤ 140737488355328) : Arr g (.sl id 0 rows.length sz) sz rows :=
  ⟨rfl, rfl, hb, fun i r hi => by
    obtain ⟨hlt, e⟩ := List.getElem?_eq_some_iff.1 hi
    subst e
    exact ⟨hs.len i _ hi, by simpa using hs.rd hlt⟩⟩
theorem Sl.make {n : Nat} {z : List Lf} (hz : z.length = sz) : Sl (h ++ [⟨(List.replicate n z).flatten, .own ty sz⟩]) h.length ty sz (List.replicate n z) :=
  ⟨by rw [List.getElem?_append_right (Nat.le_refl _)]; simp, fun i r hi => by
    rw [List.getElem?_replicate] at hi
    split at hi
    · injection hi with hi; subst hi; exact hz
    · cases hi⟩
theorem Kept.set (hk : Kept h g) {id : Nat} {o : Ob} (hid : h.length ≤ id) : Kept h (g.set id o) :=
  ⟨by simpa using hk.1, fun j hj => by rw [List.getElem?_set_ne (by omega)]; exact hk.2 j hj⟩
end
/-- Rows that are filled from the first on. -/
def filled (f : Nat → List Lf) (z : List Lf) (n i : Nat) : List (List Lf) := (List.range n).map fun j => if j < i then f j else z
@[simp] theorem filled_len {f : Nat → List Lf} {z : List Lf} {n i : Nat} : (filled f z n i).length = n := by simp [filled]
theorem filled_zero {f : Nat → List Lf} {z : List Lf} {n : Nat} : filled f z n 0 = List.replicate n z := by
  apply List.ext_getElem <;> simp [filled]
theorem filled_set {f : Nat → List Lf} {z r : List Lf} {n i : Nat} (hr : r = f i) : (filled f z n i).set i r = filled f z n (i + 1) := by
  subst hr
  apply List.ext_getElem
  · simp [filled]
  · intro j h1 h2
    simp only [List.getElem_set, filled, List.getElem_map, List.getElem_range]
    by_cases e : i = j
    · subst e; simp
    · rw [if_neg e]
      by_cases h3 : j < i
      · rw [if_pos h3, if_pos (by omega)]
      · rw [if_neg h3, if_neg (by omega)]
theorem filled_all {f : Nat → List Lf} {z : List Lf} {n : Nat} : filled f z n n = (List.range n).map f := by
  apply List.ext_getElem
  · simp [filled]
  · intro j h1 h2
    simp only [filled, List.getElem_map, List.getElem_range]
    rw [if_pos (by simpa [filled] using h1)]
/-- A slice that was made here, and nobody else has. -/
structure New (h g : Hp) (l : Lf) (ty sz : Nat) (rows : List (List Lf)) : Prop where
  kept : Kept h g
  arr : Arr g l sz rows
  own : (l = .nils ∧ rows = []) ∨ ∃ id, l = .sl id 0 rows.length sz ∧ h.length ≤ id ∧ Sl g id ty sz rows
theorem New.of_sl {g : Hp} {id ty sz : Nat} {rows : List (List Lf)} (hk : Kept h g) (hs : Sl g id ty sz rows) (hid : h.length ≤ id) (hb : rows.length ≤ 140737488355328) : New h g (.sl id 0 rows.length sz) ty sz rows :=
  ⟨hk, hs.arr hb, .inr ⟨id, rfl, hid, hs⟩⟩
theorem New.nil {g : Hp} {ty sz : Nat} (hk : Kept h g) : New h g .nils ty sz [] := ⟨hk, ⟨trivial, rfl, by simp, fun i r hi => by simp at hi⟩, .inl ⟨rfl, rfl⟩⟩
def nth (rows : List (List Lf)) (j : Nat) : List Lf := rows.getD j []
theorem nth_map {α : Type} {f : α → List Lf} {xs : List α} {i : Nat} (hi : i < xs.length) : nth (xs.map f) i = f xs[i] := by simp [nth, hi]
theorem filled_nth {z : List Lf} {rows : List (List Lf)} {n : Nat} (hn : n = rows.length) : filled (nth rows) z n n = rows := by
  subst hn
  rw [filled_all]
  apply List.ext_getElem
  · simp
  · intro j h1 h2
    simp [nth, h2]
theorem Sl.step {g : Hp} {id ty sz n i : Nat} {f : Nat → List Lf} {z r : List Lf} (hs : Sl g id ty sz (filled f z n i)) (hr : r = f i) (hn : r.length = sz) : Sl (g.set id ⟨((filled f z n i).set i r).flatten, .own ty sz⟩) id ty sz (filled f z n (i + 1)) := by
  have := hs.set (i := i) hn
  rwa [filled_set hr] at this ⊢
theorem Sl.step0 {ty sz n : Nat} {f : Nat → List Lf} {z : List Lf} (hz : z.length = sz) : Sl (h ++ [⟨(List.replicate n z).flatten, .own ty sz⟩]) h.length ty sz (filled f z n 0) := by
  rw [filled_zero]; exact Sl.make hz
theorem Sl.step01 {ty n : Nat} {f : Nat → List Lf} {c : Lf} : Sl (h ++ [⟨List.replicate n c, .own ty 1⟩]) h.length ty 1 (filled f [c] n 0) := by
  have := Sl.step0 (h := h) (ty := ty) (sz := 1) (n := n) (f := f) (z := [c]) rfl
  simpa using this
theorem New.filled {g : Hp} {id ty sz n : Nat} {z : List Lf} {rows : List (List Lf)} (hk : Kept h g) (hs : Sl g id ty sz (filled (nth rows) z n n)) (hn : n = rows.length) (hid : h.length ≤ id) (hb : rows.length ≤ 140737488355328) : New h g (.sl id 0 n sz) ty sz rows := by
  rw [filled_nth hn] at hs
  subst hn
  exact New.of_sl hk hs hid hb
end
end Go.E
