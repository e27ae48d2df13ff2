/- Slices whose elements hold a slice of numbers each. Plain lemmas; no condition. -/
import Derived.Test.YtgdloogokjemdaaGreatDoorMF
import Derived.Test.YtgdloogokjemdaaGreatDoorEH
set_option linter.unusedVariables false
set_option linter.unusedSimpArgs false
namespace Go.E
open Go
section
variable {α : Type} {ro : α → List Nat} {ce : α × Lf → List Lf} {ps : List (α × Lf)} {h g : Hp}
/-- What the elements' slices hold. -/
def In (h : Hp) (ro : α → List Nat) (ps : List (α × Lf)) : Prop := ∀ i (hi : i < ps.length), Arr h ps[i].2 1 ((ro ps[i].1).map fl)
theorem In.kept (hI : In h ro ps) (k : Kept h g) : In g ro ps := fun i hi => (hI i hi).kept k
theorem In.of (hI : ∀ p ∈ ps, Arr h p.2 1 ((ro p.1).map fl)) : In h ro ps := fun i hi => hI _ (List.getElem_mem hi)
/-- How many numbers there are in all elements. -/
def szD (ro : α → List Nat) : List (α × Lf) → Nat
  | [] => 0
  | p :: ps => (ro p.1).length + szD ro ps
theorem szD_take : ∀ {ps : List (α × Lf)} {i : Nat} (hi : i < ps.length), szD ro (ps.take (i + 1)) = szD ro (ps.take i) + (ro ps[i].1).length
  | [], _, hi => by simp at hi
  | p :: ps, 0, hi => by simp [szD]
  | p :: ps, i + 1, hi => by
    have := szD_take (ps := ps) (i := i) (by simpa using hi)
    simp only [List.take_succ_cons, szD, List.getElem_cons_succ] at this ⊢
    omega
theorem szD_take_le : ∀ {ps : List (α × Lf)} {i : Nat}, szD ro (ps.take i) ≤ szD ro ps
  | [], _ => by simp
  | p :: ps, 0 => by simp [szD]
  | p :: ps, i + 1 => by
    have := szD_take_le (ps := ps) (i := i)
    simp only [List.take_succ_cons, szD]
    omega
theorem szD_get {i : Nat} (hi : i < ps.length) : (ro ps[i].1).length ≤ szD ro ps := by
  have h1 := szD_take (ro := ro) hi
  have h2 := szD_take_le (ro := ro) (ps := ps) (i := i + 1)
  omega
theorem Kept.split (k : Kept h g) : ∃ t, g = h ++ t := by
  refine ⟨g.drop h.length, ?_⟩
  apply List.ext_getElem?
  intro i
  rcases Nat.lt_or_ge i h.length with hlt | hge
  · rw [List.getElem?_append_left hlt, k.2 i hlt]
  · rw [List.getElem?_append_right hge, List.getElem?_drop]
    congr 1; omega
theorem New.swap {l : Lf} {ty sz : Nat} {rows : List (List Lf)} {bs bs' t : Hp} (hN : New (h ++ bs) (h ++ (bs ++ t)) l ty sz rows) (he : bs'.length = bs.length) : New h (h ++ (bs' ++ t)) l ty sz rows := by
  have hk : Kept h (h ++ (bs' ++ t)) := Kept.app _ _
  rcases hN.own with ⟨rfl, rfl⟩ | ⟨i, rfl, h2, h3⟩
  · exact New.nil hk
  · have h4 : Sl (h ++ (bs' ++ t)) i ty sz rows := by
      refine ⟨?_, h3.len⟩
      have := h3.get
      rw [← List.append_assoc, List.getElem?_append_right h2] at this
      rw [← List.append_assoc, List.getElem?_append_right (by simp at h2 ⊢; omega), ← this]
      simp [he]
    exact ⟨hk, h4.arr hN.arr.small, .inr ⟨i, rfl, by simp at h2; omega, h4⟩⟩
theorem New.swap3 {l : Lf} {ty sz : Nat} {rows : List (List Lf)} {a b c a' b' c' : Ob} {t : Hp} (hN : New (h ++ [a, b, c]) (h ++ a :: b :: c :: t) l ty sz rows) : New h (h ++ a' :: b' :: c' :: t) l ty sz rows :=
  New.swap (bs := [a, b, c]) (bs' := [a', b', c']) hN rfl
theorem New.swap2 {l : Lf} {ty sz : Nat} {rows : List (List Lf)} {a b a' b' : Ob} {t : Hp} (hN : New (h ++ [a, b]) (h ++ a :: b :: t) l ty sz rows) : New h (h ++ a' :: b' :: t) l ty sz rows :=
  New.swap (bs := [a, b]) (bs' := [a', b']) hN rfl
/-- A slice that was made here, of elements that hold slices made here; all lie apart. -/
structure NewD (h g : Hp) (l : Lf) (ty sz : Nat) (ce : α × Lf → List Lf) (ro : α → List Nat) (fty : Nat) (ps : List (α × Lf)) : Prop where
  out : New h g l ty sz (ps.map ce)
  inn : ∀ p ∈ ps, New h g p.2 fty 1 ((ro p.1).map fl)
  far : ps.Pairwise fun p q => Far p.2 q.2
  faro : ∀ p ∈ ps, Far l p.2
variable {l : Lf} {ty sz fty : Nat}
theorem NewD.arr (hN : NewD h g l ty sz ce ro fty ps) : Arr g l sz (ps.map ce) := hN.out.arr
theorem NewD.ins (hN : NewD h g l ty sz ce ro fty ps) : In g ro ps := .of fun p hp => (hN.inn p hp).arr
theorem NewD.kept (hN : NewD h g l ty sz ce ro fty ps) : Kept h g := hN.out.kept
theorem NewD.later {g' : Hp} (hN : NewD h g l ty sz ce ro fty ps) (k : Kept g g') : NewD h g' l ty sz ce ro fty ps := ⟨hN.out.later k, fun p hp => (hN.inn p hp).later k, hN.far, hN.faro⟩
theorem NewD.base {h0 : Hp} (hN : NewD h g l ty sz ce ro fty ps) (k : Kept h0 h) : NewD h0 g l ty sz ce ro fty ps := ⟨hN.out.base k, fun p hp => (hN.inn p hp).base k, hN.far, hN.faro⟩
theorem NewD.start (k : Kept h g) : NewD h g .nils ty sz ce ro fty [] := ⟨New.nil k, fun p hp => by simp at hp, List.Pairwise.nil, fun p hp => by simp at hp⟩
theorem NewD.lit (k : Kept h g) : NewD h (g ++ [⟨[], .own ty sz⟩]) (.sl g.length 0 0 sz) ty sz ce ro fty [] := ⟨New.litN k, fun p hp => by simp at hp, List.Pairwise.nil, fun p hp => by simp at hp⟩
/-- Something else changes. -/
theorem NewD.but {g' : Hp} {s s' : Lf} (hD : NewD h g l ty sz ce ro fty ps) (hB : But g g' s s') (hs : s ≠ .nils → h.length ≤ s.id) (hf0 : Far l s) (hf : ∀ p ∈ ps, Far p.2 s) : NewD h g' l ty sz ce ro fty ps :=
  ⟨hB.new hD.out hs fun q1 q2 => hf0 q2 q1, fun p hp => hB.new (hD.inn p hp) hs fun q1 q2 => hf p hp q2 q1, hD.far, hD.faro⟩
/-- One more. -/
theorem NewD.push {g1 g' : Hp} {o' s : Lf} {r : List Lf} {a : α} (hD : NewD h g l ty sz ce ro fty ps) (hS : New h g s fty 1 ((ro a).map fl)) (hf0 : Far l s) (hf : ∀ p ∈ ps, Far p.2 s) (k : Kept g g1) (hN : New h g' o' ty sz (ps.map ce ++ [r])) (hB : But g1 g' l o') (hr : r = ce (a, s)) :
    NewD h g' o' ty sz ce ro fty (ps ++ [(a, s)]) := by
  have hkeep : ∀ {q : Lf} {rows : List (List Lf)}, New h g q fty 1 rows → Far l q → New h g' q fty 1 rows ∧ Far o' q := fun hq hfq => by
    refine ⟨hB.new (hq.later k) (fun q1 => (hD.out.lt q1).1) (fun q1 q2 => (hfq q1 q2).symm), fun q1 q2 => ?_⟩
    rcases hB.far with e | e
    · subst e; exact hfq q1 q2
    · have := (hq.lt q2).2
      have := k.1
      omega
  refine ⟨by rw [List.map_append, List.map_cons, List.map_nil, ← hr]; exact hN, fun p hp => ?_, ?_, fun p hp => ?_⟩
  · rcases List.mem_append.1 hp with hp | hp
    · exact (hkeep (hD.inn p hp) (hD.faro p hp)).1
    · simp only [List.mem_singleton] at hp
      subst hp
      exact (hkeep hS hf0).1
  · rw [List.pairwise_append]
    refine ⟨hD.far, List.pairwise_singleton _ _, fun p hp q hq => ?_⟩
    simp only [List.mem_singleton] at hq
    subst hq
    exact hf p hp
  · rcases List.mem_append.1 hp with hp | hp
    · exact (hkeep (hD.inn p hp) (hD.faro p hp)).2
    · simp only [List.mem_singleton] at hp
      subst hp
      exact (hkeep hS hf0).2
theorem NewD.apart (hD : NewD h g l ty sz ce ro fty ps) {i j : Nat} (hi : i < ps.length) (hj : j < ps.length) (hne : i ≠ j) : Far ps[i].2 ps[j].2 := by
  have := List.pairwise_iff_getElem.1 hD.far
  rcases Nat.lt_or_gt_of_ne hne with q | q
  · exact this i j hi hj q
  · exact (this j i hj hi q).symm
/-- One of the elements' slices is written anew. -/
theorem NewD.put {g' : Hp} {i : Nat} {a : α} (hD : NewD h g l ty sz ce ro fty ps) (hi : i < ps.length) (hN : New h g' ps[i].2 fty 1 ((ro a).map fl)) (hB : But g g' ps[i].2 ps[i].2) (hce : ce (a, ps[i].2) = ce ps[i]) : NewD h g' l ty sz ce ro fty (ps.set i (a, ps[i].2)) := by
  have hs : ps[i].2 ≠ .nils → h.length ≤ ps[i].2.id := fun q => ((hD.inn _ (List.getElem_mem hi)).lt q).1
  have hm : (ps.set i (a, ps[i].2)).map ce = ps.map ce := by
    apply List.ext_getElem
    · simp
    · intro j h1 h2
      simp only [List.getElem_map, List.getElem_set]
      split
      · rename_i e; subst e; exact hce
      · rfl
  have hm2 : (ps.set i (a, ps[i].2)).map (·.2) = ps.map (·.2) := by
    apply List.ext_getElem
    · simp
    · intro j h1 h2
      simp only [List.getElem_map, List.getElem_set]
      split
      · rename_i e; subst e; rfl
      · rfl
  refine ⟨?_, fun p hp => ?_, ?_, fun p hp => ?_⟩
  · rw [hm]
    exact hB.new hD.out hs fun q1 q2 => hD.faro _ (List.getElem_mem hi) q2 q1
  · obtain ⟨j, hj, rfl⟩ := List.mem_iff_getElem.1 hp
    rw [List.length_set] at hj
    rw [List.getElem_set]
    split
    · exact hN
    · rename_i e
      exact hB.new (hD.inn _ (List.getElem_mem hj)) hs fun q1 q2 => hD.apart hj hi (fun q => e q.symm) q2 q1
  · have hget : ∀ j (hj : j < ps.length), ((ps.set i (a, ps[i].2))[j]'(by simpa using hj)).2 = ps[j].2 := by
      intro j hj
      rw [List.getElem_set]
      split
      · rename_i e; subst e; rfl
      · rfl
    rw [List.pairwise_iff_getElem]
    intro i1 j1 hi1 hj1 hlt
    rw [List.length_set] at hi1 hj1
    rw [hget i1 hi1, hget j1 hj1]
    exact hD.apart hi1 hj1 (by omega)
  · have h1 : ∀ x ∈ ps.map (·.2), Far l x := by
      intro x hx
      obtain ⟨q, hq, rfl⟩ := List.mem_map.1 hx
      exact hD.faro q hq
    exact h1 p.2 (by rw [← hm2]; exact List.mem_map.2 ⟨p, hp, rfl⟩)
/-- A slice that is made now lies apart from all that was there. -/
theorem NewD.fresh {g' : Hp} {s : Lf} {rows : List (List Lf)} {t2 sz2 : Nat} (hD : NewD h g l ty sz ce ro fty ps) (hS : New g g' s t2 sz2 rows) : Far l s ∧ ∀ p ∈ ps, Far p.2 s :=
  ⟨fun q1 q2 => by have := (hD.out.lt q1).2; have := (hS.lt q2).1; omega, fun p hp q1 q2 => by have := ((hD.inn p hp).lt q1).2; have := (hS.lt q2).1; omega⟩
/-- The rows while they are filled. -/
def rowsF (ce : α × Lf → List Lf) (n : Nat) (z : List Lf) (ps : List (α × Lf)) : List (List Lf) := ps.map ce ++ List.replicate (n - ps.length) z
/-- While such a slice of n elements is filled. -/
structure Fill (h g : Hp) (id ty sz : Nat) (ce : α × Lf → List Lf) (ro : α → List Nat) (fty n : Nat) (z : List Lf) (ps : List (α × Lf)) : Prop where
  kept : Kept h g
  ge : h.length ≤ id
  sl : Sl g id ty sz (rowsF ce n z ps)
  inn : ∀ p ∈ ps, New h g p.2 fty 1 ((ro p.1).map fl) ∧ (p.2 ≠ .nils → p.2.id ≠ id)
  far : ps.Pairwise fun p q => Far p.2 q.2
variable {id n : Nat} {z : List Lf}
theorem Fill.start (hz : z.length = sz) : Fill h (h ++ [⟨(List.replicate n z).flatten, .own ty sz⟩]) h.length ty sz ce ro fty n z [] :=
  ⟨Kept.app _ _, Nat.le_refl _, by simpa [rowsF] using Sl.make hz, fun p hp => by simp at hp, List.Pairwise.nil⟩
theorem Fill.lt (hF : Fill h g id ty sz ce ro fty n z ps) : id < g.length := hF.sl.lt
theorem Fill.wr {lim : Nat} {g' : Hp} {r : List Lf} (hF : Fill h g id ty sz ce ro fty n z ps) (k : Kept g g') (hl : lim ≤ id) (hlt : ps.length < n) (hr : r.length = sz) : wrCells lim g' id (ps.length * sz) r = some (g'.set id ⟨((rowsF ce n z ps).set ps.length r).flatten, .own ty sz⟩) :=
  (hF.sl.kept k).wr hl (by simp [rowsF]; omega) hr
theorem Fill.wr1 {lim : Nat} {g' : Hp} {r : List Lf} (hF : Fill h g id ty 1 ce ro fty n z ps) (k : Kept g g') (hl : lim ≤ id) (hlt : ps.length < n) (hr : r.length = 1) : wrCells lim g' id ps.length r = some (g'.set id ⟨((rowsF ce n z ps).set ps.length r).flatten, .own ty 1⟩) := by
  have := hF.wr (lim := lim) k hl hlt hr
  rwa [Nat.mul_one] at this
theorem Fill.add {g' : Hp} {a : α} {l' : Lf} {r : List Lf} (hF : Fill h g id ty sz ce ro fty n z ps) (hN : New g g' l' fty 1 ((ro a).map fl)) (hlt : ps.length < n) (hr : r = ce (a, l')) (hlen : r.length = sz) :
    Fill h (g'.set id ⟨((rowsF ce n z ps).set ps.length r).flatten, .own ty sz⟩) id ty sz ce ro fty n z (ps ++ [(a, l')]) := by
  have hid := hF.lt
  have k := hN.kept
  have hS := (hF.sl.kept k).set (i := ps.length) hlen
  refine ⟨(hF.kept.trans k).set hF.ge, hF.ge, ?_, ?_, ?_⟩
  · have e : (rowsF ce n z ps).set ps.length r = rowsF ce n z (ps ++ [(a, l')]) := by
      unfold rowsF
      rw [List.set_append_right _ _ (by simp)]
      simp only [List.length_map, Nat.sub_self, List.map_append, List.map_cons, List.map_nil, List.length_append, List.length_cons, List.length_nil, List.append_assoc]
      congr 1
      obtain ⟨m, hm⟩ : ∃ m, n - ps.length = m + 1 := ⟨n - ps.length - 1, by omega⟩
      have hm2 : n - (ps.length + (0 + 1)) = m := by omega
      rw [hm, hm2, hr, List.replicate_succ]; rfl
    rw [e] at hS ⊢; exact hS
  · intro p hp
    rcases List.mem_append.1 hp with hp | hp
    · obtain ⟨h1, h2⟩ := hF.inn p hp
      exact ⟨(h1.later k).set_other hF.ge h2, h2⟩
    · simp only [List.mem_singleton] at hp
      subst hp
      have hne : l' ≠ .nils → l'.id ≠ id := fun q => by have := (hN.lt q).1; omega
      exact ⟨(hN.base hF.kept).set_other hF.ge hne, hne⟩
  · rw [List.pairwise_append]
    refine ⟨hF.far, List.pairwise_singleton _ _, fun p hp q hq => ?_⟩
    simp only [List.mem_singleton] at hq
    subst hq
    intro q1 q2
    have := ((hF.inn p hp).1.lt q1).2
    have := (hN.lt q2).1
    simp only []
    omega
theorem Fill.full (hF : Fill h g id ty sz ce ro fty n z ps) (hn : n = ps.length) (hb : n ≤ 140737488355328) : NewD h g (.sl id 0 n sz) ty sz ce ro fty ps := by
  have hS := hF.sl
  subst hn
  unfold rowsF at hS
  rw [Nat.sub_self, List.replicate_zero, List.append_nil] at hS
  have := New.of_sl hF.kept hS hF.ge (by simpa using hb)
  rw [List.length_map] at this
  exact ⟨this, fun p hp => (hF.inn p hp).1, hF.far, fun p hp _ q2 e => (hF.inn p hp).2 q2 e.symm⟩
theorem map_len {ps qs : List (α × Lf)} (h : qs.map (·.1) = ps.map (·.1)) : qs.length = ps.length := by have := congrArg List.length h; simpa using this
theorem map_get {ps qs : List (α × Lf)} (h : qs.map (·.1) = ps.map (·.1)) {i : Nat} (hi : i < ps.length) : (qs[i]'(by rw [map_len h]; exact hi)).1 = ps[i].1 := by
  have h1 : (qs.map (·.1))[i]'(by simp [map_len h, hi]) = (ps.map (·.1))[i]'(by simpa using hi) := by simp only [h]
  simpa using h1
theorem map_take {ps qs : List (α × Lf)} {i : Nat} (hq : qs.map (·.1) = (ps.map (·.1)).take i) (hi : i < ps.length) {l : Lf} : (qs ++ [(ps[i].1, l)]).map (·.1) = (ps.map (·.1)).take (i + 1) := by
  rw [List.take_succ_eq_append_getElem (by simpa using hi), List.map_append, hq]; simp
/-- So far all elements are such. -/
def upto (P : α → Prop) (ps : List (α × Lf)) (k : Nat) : Prop := ∀ i (hi : i < ps.length), i < k → P ps[i].1
theorem upto.zero {P : α → Prop} : upto P ps 0 := fun i _ h => by omega
theorem upto.succ {P : α → Prop} {i : Nat} (h : upto P ps i) (hi : i < ps.length) (h1 : P ps[i].1) : upto P ps (i + 1) := by
  intro j hj hlt
  by_cases e : j = i
  · subst e; exact h1
  · exact h j hj (by omega)
theorem upto.all {P : α → Prop} (h : upto P ps ps.length) : ∀ x ∈ ps.map (·.1), P x := by
  intro x hx
  obtain ⟨p, hp, rfl⟩ := List.mem_map.1 hx
  obtain ⟨i, hi, rfl⟩ := List.mem_iff_getElem.1 hp
  exact h i hi hi
theorem upto.not {P : α → Prop} {i : Nat} (hi : i < ps.length) (h1 : ¬ P ps[i].1) : ¬ ∀ x ∈ ps.map (·.1), P x := fun h => h1 (h _ (List.mem_map.2 ⟨ps[i], List.getElem_mem hi, rfl⟩))
end
end Go.E
