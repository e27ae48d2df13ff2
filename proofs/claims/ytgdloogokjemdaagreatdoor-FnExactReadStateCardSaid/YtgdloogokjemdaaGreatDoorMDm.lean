/- Slices whose elements hold slices: what the laws' marks make of them. Plain lemmas; no condition. -/
import Derived.Test.YtgdloogokjemdaaGreatDoorMDe
import Derived.Test.YtgdloogokjemdaaGreatDoorMH
set_option linter.unusedVariables false
set_option linter.unusedSimpArgs false
namespace Go.E
open Go
section
variable {h g g' : Hp} {ls : List Lf} {l : Lf} {ty sz : Nat} {rows : List (List Lf)}
/-- All but these is as it was. -/
structure Buts (g g' : Hp) (ls : List Lf) : Prop where
  len : g.length ≤ g'.length
  same : ∀ id, id < g.length → (∀ s ∈ ls, s ≠ .nils → id ≠ s.id) → g'[id]? = g[id]?
theorem Buts.refl : Buts g g ls := ⟨Nat.le_refl _, fun _ _ _ => rfl⟩
theorem Buts.but {g2 : Hp} {s : Lf} (hB : Buts g g' ls) (b : But g' g2 s s) (hs : s ∈ ls) : Buts g g2 ls :=
  ⟨Nat.le_trans hB.len b.len, fun id hid hne => by
    rw [b.same id (Nat.lt_of_lt_of_le hid hB.len) (hne s hs), hB.same id hid hne]⟩
theorem Buts.kept (hB : Buts g g' ls) (hk : Kept h g) (hlo : ∀ s ∈ ls, s ≠ .nils → h.length ≤ s.id) : Kept h g' :=
  ⟨Nat.le_trans hk.1 hB.len, fun id hid => by
    rw [hB.same id (Nat.lt_of_lt_of_le hid hk.1) (fun s hs hn => by have := hlo s hs hn; omega), hk.2 id hid]⟩
theorem Buts.new (hB : Buts g g' ls) (hN : New h g l ty sz rows) (hlo : ∀ s ∈ ls, s ≠ .nils → h.length ≤ s.id) (hf : ∀ s ∈ ls, Far s l) : New h g' l ty sz rows := by
  have hk := hB.kept hN.kept hlo
  rcases hN.own with ⟨rfl, rfl⟩ | ⟨id, rfl, h2, h3⟩
  · exact New.nil hk
  · have h4 : Sl g' id ty sz rows := ⟨by rw [hB.same id h3.lt (fun s hs hn e => hf s hs hn (by simp) (by simpa [Lf.id] using e.symm))]; exact h3.get, h3.len⟩
    exact ⟨hk, h4.arr hN.arr.small, .inr ⟨id, rfl, h2, h4⟩⟩
end
section
variable {α : Type} {ro : α → List Nat} {ce : α × Lf → List Lf} {ps : List (α × Lf)} {h g g' : Hp} {l : Lf} {ty sz fty lim : Nat}
/-- Where it lies. -/
def lvs (l : Lf) (ps : List (α × Lf)) : List Lf := l :: ps.map (·.2)
theorem NewD.lvs_lt (hD : NewD h g l ty sz ce ro fty ps) : ∀ s ∈ lvs l ps, s ≠ .nils → h.length ≤ s.id ∧ s.id < g.length := by
  intro s hs hn
  rcases List.mem_cons.1 hs with rfl | hs
  · exact hD.out.lt hn
  · obtain ⟨p, hp, rfl⟩ := List.mem_map.1 hs
    exact (hD.inn p hp).lt hn
theorem Buts.newD {ls : List Lf} (hB : Buts g g' ls) (hD : NewD h g l ty sz ce ro fty ps) (hlo : ∀ s ∈ ls, s ≠ .nils → h.length ≤ s.id) (hf : ∀ s ∈ ls, ∀ t ∈ lvs l ps, Far s t) : NewD h g' l ty sz ce ro fty ps :=
  ⟨hB.new hD.out hlo fun s hs => hf s hs l (by simp [lvs]), fun p hp => hB.new (hD.inn p hp) hlo fun s hs => hf s hs p.2 (by unfold lvs; exact List.mem_cons_of_mem _ (List.mem_map.2 ⟨p, hp, rfl⟩)), hD.far, hD.faro⟩
theorem flat_set1 {c : Lf} {off : Nat} (hoff : off < sz) : ∀ {rows : List (List Lf)} {i : Nat} (hi : i < rows.length), (∀ (i : Nat) (r : List Lf), rows[i]? = some r → r.length = sz) → rows.flatten.set (i * sz + off) c = (rows.set i (rows[i].set off c)).flatten
  | [], i, hi, _ => by simp at hi
  | q :: rs, 0, hi, hl => by
    have h1 := hl 0 q rfl
    simp only [Nat.zero_mul, Nat.zero_add, List.flatten_cons, List.set_cons_zero, List.getElem_cons_zero]
    rw [List.set_append_left _ _ (by omega)]
  | q :: rs, i + 1, hi, hl => by
    have h1 := hl 0 q rfl
    have h2 := flat_set1 hoff (c := c) (rows := rs) (i := i) (by simpa using hi) (fun i r hi => hl (i + 1) r (by simpa using hi))
    simp only [List.flatten_cons, List.set_cons_succ, List.getElem_cons_succ]
    rw [List.set_append_right _ _ (by rw [Nat.add_mul]; omega), ← h2]
    congr 2
    rw [Nat.add_mul]; omega
/-- One field of an element is written anew. -/
theorem NewD.cell {i off : Nat} {a : α} {c : Lf} {K : CV → Hp → Prop} (hD : NewD h g l ty sz ce ro fty ps) (hi : i < ps.length) (hc : ce (a, ps[i].2) = (ce ps[i]).set off c) (hro : ro a = ro ps[i].1) (hoff : off < sz) (hl : lim ≤ h.length)
    (hK : ∀ g', NewD h g' l ty sz ce ro fty (ps.set i (a, ps[i].2)) → But g g' l l → K un g') : oc ((wrCells lim g l.id (l.off + i * sz + off) [c]).map fun h' => (un, h')) K := by
  rcases hD.out.own with ⟨_, e⟩ | ⟨id, e1, h2, h3⟩
  · rw [List.map_eq_nil_iff] at e; subst e; simp at hi
  · have hfl := flat_len h3.len
    have hb : i * sz + off < (ps.map ce).flatten.length := by
      rw [hfl, List.length_map]
      have : (i + 1) * sz ≤ ps.length * sz := Nat.mul_le_mul_right _ hi
      rw [Nat.add_mul, Nat.one_mul] at this
      omega
    have hw := wr_get1 (lim := lim) (c := c) h3.get (Nat.le_trans hl h2) hb
    have hrow : (ps.map ce)[i]'(by simpa using hi) = ce ps[i] := by simp
    rw [flat_set1 hoff (by simpa using hi) h3.len, hrow, ← hc] at hw
    have hm : (ps.map ce).set i (ce (a, ps[i].2)) = (ps.set i (a, ps[i].2)).map ce := by rw [List.map_set]
    rw [hm] at hw
    have hB : But g (g.set id ⟨((ps.set i (a, ps[i].2)).map ce).flatten, .own ty sz⟩) l l := ⟨by simp, fun id' q1 q2 => by
      have : id' ≠ id := by have := q2 (by rw [e1]; simp); rw [e1] at this; exact this
      rw [List.getElem?_set_ne (Ne.symm this)], .inl rfl⟩
    have hlen : (ce (a, ps[i].2)).length = sz := by rw [hc, List.length_set]; exact h3.len i _ (by simp [hi])
    have hS := h3.set (i := i) (new := ce (a, ps[i].2)) hlen
    rw [hm] at hS
    have hO : New h (g.set id ⟨((ps.set i (a, ps[i].2)).map ce).flatten, .own ty sz⟩) l ty sz ((ps.set i (a, ps[i].2)).map ce) := by
      have := New.of_sl (hD.out.kept.set h2) hS h2 (by simpa using hD.out.arr.small)
      rw [e1]; simpa using this
    have hlo : l ≠ .nils → h.length ≤ l.id := fun q => (hD.out.lt q).1
    have hrun : oc ((wrCells lim g l.id (l.off + i * sz + off) [c]).map fun h' => (un, h')) K ↔ K un (g.set id ⟨((ps.set i (a, ps[i].2)).map ce).flatten, .own ty sz⟩) := by
      have : wrCells lim g l.id (l.off + i * sz + off) [c] = some (g.set id ⟨((ps.set i (a, ps[i].2)).map ce).flatten, .own ty sz⟩) := by
        rw [e1]; simpa [Lf.id, Lf.off] using hw
      rw [this]; rfl
    refine hrun.2 (hK _ ⟨hO, fun p hp => ?_, ?_, fun p hp => ?_⟩ hB)
    · obtain ⟨j, hj, rfl⟩ := List.mem_iff_getElem.1 hp
      rw [List.length_set] at hj
      have hj2 := hD.inn _ (List.getElem_mem hj)
      have hj3 := hB.new hj2 hlo fun q1 q2 => (hD.faro _ (List.getElem_mem hj) q1 q2).symm
      rw [List.getElem_set]
      split
      · rename_i ee; subst ee; rw [hro]; exact hj3
      · exact hj3
    · have hget : ∀ j (hj : j < ps.length), ((ps.set i (a, ps[i].2))[j]'(by simpa using hj)).2 = ps[j].2 := by
        intro j hj
        rw [List.getElem_set]
        split
        · rename_i ee; subst ee; rfl
        · rfl
      rw [List.pairwise_iff_getElem]
      intro i1 j1 hi1 hj1 hlt
      rw [List.length_set] at hi1 hj1
      rw [hget i1 hi1, hget j1 hj1]
      exact hD.apart hi1 hj1 (by omega)
    · obtain ⟨j, hj, rfl⟩ := List.mem_iff_getElem.1 hp
      rw [List.length_set] at hj
      rw [List.getElem_set]
      split
      · rename_i ee; subst ee; exact hD.faro ps[i] (List.getElem_mem hj)
      · exact hD.faro _ (List.getElem_mem hj)
theorem NewD.cell0 {i : Nat} {a : α} {c : Lf} {K : CV → Hp → Prop} (hD : NewD h g l ty sz ce ro fty ps) (hi : i < ps.length) (hc : ce (a, ps[i].2) = (ce ps[i]).set 0 c) (hro : ro a = ro ps[i].1) (hoff : 0 < sz) (hl : lim ≤ h.length)
    (hK : ∀ g', NewD h g' l ty sz ce ro fty (ps.set i (a, ps[i].2)) → But g g' l l → K un g') : oc ((wrCells lim g l.id (l.off + i * sz) [c]).map fun h' => (un, h')) K := hD.cell (off := 0) hi hc hro hoff hl hK
/-- What the mark is at the i-th element. -/
def kAt (ro : α → List Nat) (c : Nat) (k : Int) (ps : List (α × Lf)) (i : Nat) : Int := k + ((c * i + szD ro (ps.take i) : Nat) : Int)
theorem kAt_zero {c : Nat} {k : Int} : kAt ro c k ps 0 = k := by simp [kAt, szD]
theorem kAt_succ {c i : Nat} {k : Int} (hi : i < ps.length) : kAt ro c k ps (i + 1) = kAt ro c k ps i + c + (ro ps[i].1).length := by
  unfold kAt
  rw [szD_take hi, Nat.mul_add]
  omega
theorem kAt_le {c i : Nat} {k : Int} (hi : i ≤ ps.length) : k ≤ kAt ro c k ps i ∧ kAt ro c k ps i ≤ kAt ro c k ps ps.length := by
  unfold kAt
  have h1 : c * i ≤ c * ps.length := Nat.mul_le_mul_left _ hi
  have h2 := szD_take_le (ro := ro) (ps := ps) (i := i)
  rw [List.take_length]
  omega
/-- The first i elements are marked. -/
def mkD (mk : Int → α → α) (ro : α → List Nat) (c : Nat) (k : Int) (ps : List (α × Lf)) : Nat → List (α × Lf)
  | 0 => ps
  | i + 1 => if hi : i < ps.length then (mkD mk ro c k ps i).set i (mk (kAt ro c k ps i) ps[i].1, ps[i].2) else mkD mk ro c k ps i
variable {mk : Int → α → α} {c : Nat} {k : Int}
@[simp] theorem mkD_len {i : Nat} : (mkD mk ro c k ps i).length = ps.length := by
  induction i with
  | zero => rfl
  | succ i ih => unfold mkD; split <;> simp [ih]
theorem mkD_succ {i : Nat} (hi : i < ps.length) : mkD mk ro c k ps (i + 1) = (mkD mk ro c k ps i).set i (mk (kAt ro c k ps i) ps[i].1, ps[i].2) := by
  rw [mkD, dif_pos hi]
theorem mkD_ge {i j : Nat} (hj : j < ps.length) (hij : i ≤ j) : (mkD mk ro c k ps i)[j]'(by simpa using hj) = ps[j] := by
  induction i with
  | zero => rfl
  | succ i ih =>
    have hi : i < ps.length := by omega
    simp only [mkD_succ hi]
    rw [List.getElem_set, if_neg (by omega)]
    exact ih (by omega)
theorem mkD_lt {i j : Nat} (hj : j < ps.length) (hi : i ≤ ps.length) (hij : j < i) : (mkD mk ro c k ps i)[j]'(by simpa using hj) = (mk (kAt ro c k ps j) ps[j].1, ps[j].2) := by
  induction i with
  | zero => omega
  | succ i ih =>
    have hi : i < ps.length := by omega
    simp only [mkD_succ hi]
    rw [List.getElem_set]
    split
    · rename_i e; subst e; rfl
    · exact ih (by omega) (by omega)
theorem lvs_get {i : Nat} (hi : i < ps.length) : ps[i].2 ∈ lvs l ps := by unfold lvs; exact List.mem_cons_of_mem _ (List.mem_map.2 ⟨_, List.getElem_mem hi, rfl⟩)
theorem lvs_head : l ∈ lvs l ps := by simp [lvs]
end
theorem But.buts {g g' : Hp} {l : Lf} (b : But g g' l l) : Buts g g' [l] := ⟨b.len, fun id hid hne => b.same id hid (hne l (by simp))⟩
theorem New.foot {h g : Hp} {l : Lf} {ty sz : Nat} {rows : List (List Lf)} (hN : New h g l ty sz rows) : ∀ s ∈ [l], s ≠ .nils → h.length ≤ s.id ∧ s.id < g.length := by
  intro s hs hn
  simp only [List.mem_singleton] at hs
  subst hs
  exact hN.lt hn
section
variable {α : Type} {ro : α → List Nat} {ps qs : List (α × Lf)} {l : Lf} {mk : Int → α → α} {c : Nat} {k : Int}
def szC (ro : α → List Nat) : List α → Nat
  | [] => 0
  | a :: r => (ro a).length + szC ro r
theorem szD_eq : ∀ {ps : List (α × Lf)}, szD ro ps = szC ro (ps.map (·.1))
  | [] => rfl
  | p :: ps => by simp only [szD, List.map_cons, szC, szD_eq (ps := ps)]
theorem szD_map (h : qs.map (·.1) = ps.map (·.1)) : szD ro qs = szD ro ps := by rw [szD_eq, szD_eq, h]
theorem szC_le {b : Nat} : ∀ {xs : List α}, (∀ x ∈ xs, (ro x).length ≤ b) → szC ro xs ≤ xs.length * b
  | [], _ => by simp [szC]
  | x :: r, hx => by
    have h1 := hx x (by simp)
    have h2 := szC_le (xs := r) (fun y hy => hx y (by simp [hy]))
    simp only [szC, List.length_cons, Nat.add_mul, Nat.one_mul]
    omega
theorem small_of {b n : Nat} {xs : List α} (hn : xs.length ≤ n) (hx : ∀ x ∈ xs, (ro x).length ≤ b) (he : qs.map (·.1) = xs) : qs.length ≤ n ∧ szD ro qs ≤ n * b := by
  have h1 := szC_le hx
  have h2 := congrArg List.length he
  rw [List.length_map] at h2
  refine ⟨by omega, ?_⟩
  rw [szD_eq, he]
  exact Nat.le_trans h1 (Nat.mul_le_mul_right _ hn)
theorem lvs_mkD : lvs l (mkD mk ro c k ps ps.length) = lvs l ps := by
  unfold lvs
  congr 1
  apply List.ext_getElem
  · simp
  · intro j h1 h2
    have hj : j < ps.length := by simpa using h2
    simp only [List.getElem_map]
    rw [mkD_lt hj (Nat.le_refl _) hj]
theorem kAt_all : kAt ro c k ps ps.length = k + (c * ps.length : Nat) + (szD ro ps : Nat) := by
  unfold kAt
  rw [List.take_length]
  omega
end
def mkN (k : Int) (n : Nat) : List Nat := (List.range n).map fun j : Nat => fofint .f32 (k + (j : Int))
theorem mkN_len {k : Int} {n : Nat} : (mkN k n).length = n := by simp [mkN]
theorem mkN_fl {k : Int} {n : Nat} : (mkN k n).map fl = marksFloat32S k n := by simp [mkN, marksFloat32S, Function.comp_def]
end Go.E
