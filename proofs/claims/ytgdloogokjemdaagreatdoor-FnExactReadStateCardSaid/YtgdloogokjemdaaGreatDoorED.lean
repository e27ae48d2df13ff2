/- What is handed in, of whatever type, stands in the evaluator's heap as objects that are only read. Plain lemmas; no condition. -/
import Derived.Test.YtgdloogokjemdaaGreatDoorEC
import Derived.SizedLaws
import Derived.ChangeOld
import Derived.ChangeShapes
import Derived.DataReads
set_option linter.unusedVariables false
set_option linter.unusedSimpArgs false
namespace Go.E
open Go

/-- The shapes of types. -/
inductive Sh where
  | bool
  | int (k : IntKind)
  | flt (k : FloatKind)
  | str
  | sl (sz : Nat) (e : Sh)
  | emp
  | cat (n : Nat) (a b : Sh)
def Ty (h : Hp) : Sh → List Lf → Prop
  | .bool, ls => ∃ b, ls = [.bool b]
  | .int k, ls => ∃ n, ls = [.int k n] ∧ (Lit.int k n).wf = true
  | .flt k, ls => ∃ x, ls = [.flt k x] ∧ x < 2 ^ k.format.width ∧ can k x = x
  | .str, ls => ∃ s, ls = [.str s] ∧ s.size ≤ maxLen
  | .sl sz e, ls => ∃ l rows, ls = [l] ∧ Arr h l sz rows ∧ ∀ r ∈ rows, Ty h e r
  | .emp, ls => ls = []
  | .cat n a b, ls => ∃ l1 l2, ls = l1 ++ l2 ∧ l1.length = n ∧ Ty h a l1 ∧ Ty h b l2
theorem Ty.kept {h h' : Hp} (k : Kept h h') : ∀ {sh : Sh} {ls : List Lf}, Ty h sh ls → Ty h' sh ls
  | .bool, _, t => t
  | .int _, _, t => t
  | .flt _, _, t => t
  | .str, _, t => t
  | .sl sz e, _, t => by obtain ⟨l, rows, h1, h2, h3⟩ := t; exact ⟨l, rows, h1, h2.kept k, fun r hr => Ty.kept k (h3 r hr)⟩
  | .emp, _, t => t
  | .cat n a b, _, t => by obtain ⟨l1, l2, h1, h2, h3, h4⟩ := t; exact ⟨l1, l2, h1, h2, Ty.kept k h3, Ty.kept k h4⟩
def shFs (P : Program) (g : TypeId → Option Sh) (off tot : Nat) : List Field → Option Sh
  | [] => if off = tot then some .emp else none
  | f :: r => if f.offset = off then (g f.type).bind fun a => (shFs P g (off + P.cellsOf f.type) tot r).map (.cat (P.cellsOf f.type) a) else none
def shT (P : Program) : Nat → TypeId → Option Sh
  | 0, _ => none
  | n + 1, t => match P.underlying t with
    | some .bool => some .bool
    | some (.int k) => some (.int k)
    | some (.float k) => some (.flt k)
    | some .string => some .str
    | some (.slice e) => if 0 < P.cellsOf e ∧ 0 < P.bytesOf e then (shT P n e).map (.sl (P.cellsOf e)) else none
    | some (.struct fs) => shFs P (shT P n) 0 (P.cellsOf t) fs.toList
    | _ => none
theorem shFs_le {P : Program} {g : TypeId → Option Sh} {tot : Nat} : ∀ {fs : List Field} {off : Nat} {sh : Sh}, shFs P g off tot fs = some sh → off ≤ tot
  | [], off, sh, h => by unfold shFs at h; split at h; omega; cases h
  | f :: r, off, sh, h => by
    unfold shFs at h
    split at h
    · obtain ⟨a, _, h2⟩ := Option.bind_eq_some_iff.1 h
      obtain ⟨b, h3, _⟩ := Option.map_eq_some_iff.1 h2
      have := shFs_le h3
      omega
    · cases h

theorem Rel.add {B : Nat} {w0 w : World} {ρ : Lo} {h : Hp} (hr : Rel B w0 ρ h w) {l : Loc} {ob : Ob} (ho : OR B (ρ ++ [l]) w l ob) (hn : ob.isOwn = false) : Rel B w0 (ρ ++ [l]) (h ++ [ob]) w := by
  have hl := hr.len
  have key : ∀ (id : Nat) (o : Ob) (m : Loc), (h ++ [ob])[id]? = some o → (ρ ++ [l])[id]? = some m → (h[id]? = some o ∧ ρ[id]? = some m) ∨ (o = ob ∧ m = l) := by
    intro id o m h1 h2
    rcases Nat.lt_or_ge id h.length with hlt | hge
    · rw [List.getElem?_append_left hlt] at h1
      rw [List.getElem?_append_left (by omega)] at h2
      exact .inl ⟨h1, h2⟩
    · rw [List.getElem?_append_right hge] at h1
      rw [List.getElem?_append_right (by omega), hl] at h2
      cases hd : id - h.length with
      | zero => rw [hd] at h1 h2; simp at h1 h2; exact .inr ⟨h1.symm, h2.symm⟩
      | succ n => rw [hd] at h1; simp at h1
  refine ⟨by simp [hl], hr.below, hr.base, ?_, ?_⟩
  · intro id o m h1 h2
    rcases key id o m h1 h2 with ⟨k1, k2⟩ | ⟨rfl, rfl⟩
    · exact (hr.obs id o m k1 k2).ext (Ext.one ρ l)
    · exact ho
  · intro i j oi oj li lj a1 a2 b1 b2 c1 c2 hb
    rcases key i oi li a1 b1 with ⟨k1, k2⟩ | ⟨rfl, rfl⟩
    · rcases key j oj lj a2 b2 with ⟨m1, m2⟩ | ⟨rfl, rfl⟩
      · exact hr.inj i j oi oj li lj k1 m1 k2 m2 c1 c2 hb
      · rw [hn] at c2; cases c2
    · rw [hn] at c1; cases c1
theorem LRs.app {ρ : Lo} : ∀ {l1 l2 : List Lf} {v1 v2 : List Value}, LRs ρ l1 v1 → LRs ρ l2 v2 → LRs ρ (l1 ++ l2) (v1 ++ v2)
  | [], _, _, _, h1, h2 => by simp only [LRs] at h1; subst h1; simpa using h2
  | l :: ls, _, _, _, h1, h2 => by obtain ⟨v, vs, rfl, k1, k2⟩ := h1; exact ⟨v, vs ++ _, rfl, k1, LRs.app k2 h2⟩

theorem cell_spot {w : World} {a : Addr} {v : Value} (h : w.cell? a = some v) : a.spot = none ∧ a.block < w.heap.size := by
  refine ⟨?_, World.block_lt_of_cell? w _ h⟩
  unfold World.cell? at h
  split at h
  · split at h
    · cases h
    · rename_i hs; cases e : a.spot with
      | none => rfl
      | some q => rw [e] at hs; exact (hs rfl).elim
  · cases h
theorem addr_one {a : Addr} (hs : a.spot = none) : a = ⟨a.block, a.off, none⟩ := by obtain ⟨b, o, q⟩ := a; simp only at hs; subst hs; rfl
theorem addr_two {a : Addr} {n m : Nat} (hs : ((a.add n).add m).spot = none) : (a.add n).add m = ⟨a.block, a.off + (n + m), none⟩ := by
  unfold Addr.add at hs ⊢
  split
  · rename_i hm
    rw [if_pos hm] at hs
    split
    · rename_i hn
      rw [if_pos hn] at hs
      rw [addr_one hs, hm, hn]; rfl
    · rw [hm]; rfl
  · split
    · rename_i hn; rw [hn]; simp
    · simp [Nat.add_assoc]
section
variable {H : Type} {enc : TypeId × Value → H} {P : Program} {W : World} {held : Bool}
def Opens (W : World) (ρ : Lo) (h : Hp) (cs : List Value) (sh : Sh) : Prop := ∃ ρ' h' ls, Ext ρ ρ' ∧ Kept h h' ∧ Rel W.heap.size W ρ' h' W ∧ LRs ρ' ls cs ∧ Ty h' sh ls
/-- What is said of one reading. -/
def Opener (W : World) (P : Program) (read : TypeId → List Value → Option (DataW H × List MemPlace)) : Prop :=
  ∀ n t cs x sh, read t cs = some x → shT P n t = some sh → (∀ m ∈ x.1.weights P t, m ≤ reachBytes) → ∀ ρ h, Rel W.heap.size W ρ h W → Opens W ρ h cs sh
theorem open_fields {read : TypeId → List Value → Option (DataW H × List MemPlace)} (hread : Opener W P read) {n : Nat} {cs : List Value} : ∀ {fs : List Field} {off : Nat} {sh : Sh} {xs : List (DataW H × List MemPlace)},
    shFs P (shT P n) off cs.length fs = some sh → (fs.mapM fun f => read f.type ((cs.drop f.offset).take (P.cellsOf f.type))) = some xs → (∀ m ∈ DataW.weightsEach P (fs.map (·.type)) (xs.map (·.1)), m ≤ reachBytes) →
    ∀ ρ h, Rel W.heap.size W ρ h W → Opens W ρ h (cs.drop off) sh
  | [], off, sh, xs, hsh, hx, hw, ρ, h, hr => by
    unfold shFs at hsh
    split at hsh
    · rename_i e
      injection hsh with hsh; subst hsh
      exact ⟨ρ, h, [], Ext.refl ρ, Kept.refl h, hr, by simp [LRs, e], rfl⟩
    · cases hsh
  | f :: r, off, sh, xs, hsh, hx, hw, ρ, h, hr => by
    unfold shFs at hsh
    split at hsh
    · rename_i e
      obtain ⟨a, k1, k2⟩ := Option.bind_eq_some_iff.1 hsh
      obtain ⟨b, k3, rfl⟩ := Option.map_eq_some_iff.1 k2
      simp only [List.mapM_cons] at hx
      obtain ⟨x, q1, q2⟩ := Option.bind_eq_some_iff.1 hx
      obtain ⟨ys, q3, q4⟩ := Option.bind_eq_some_iff.1 q2
      injection q4 with q4; subst q4
      have hle := shFs_le k3
      simp only [List.map_cons, DataW.weightsEach, List.mem_append] at hw
      obtain ⟨ρ1, h1, l1, a1, a2, a3, a4, a5⟩ := hread n f.type _ x a q1 k1 (fun m hm => hw m (.inl hm)) ρ h hr
      obtain ⟨ρ2, h2, l2, b1, b2, b3, b4, b5⟩ := open_fields hread k3 q3 (fun m hm => hw m (.inr hm)) ρ1 h1 a3
      have e2 : cs.drop off = (cs.drop f.offset).take (P.cellsOf f.type) ++ cs.drop (off + P.cellsOf f.type) := by
        rw [e, ← List.drop_drop, List.take_append_drop]
      have hl1 : l1.length = P.cellsOf f.type := by
        have := a4.length
        rw [List.length_take, List.length_drop, e] at this
        omega
      exact ⟨ρ2, h2, l1 ++ l2, a1.trans b1, a2.trans b2, b3, by rw [e2]; exact (a4.ext b1).app b4, l1, l2, rfl, hl1, a5.kept b2, b5⟩
    · cases hsh
theorem open_elems {read : TypeId → List Value → Option (DataW H × List MemPlace)} (hread : Opener W P read) {n : Nat} {e : TypeId} {sh : Sh} (hsh : shT P n e = some sh) {a : Addr} : ∀ {is : List Nat} {xs : List (DataW H × List MemPlace)},
    (is.mapM fun i => (W.cells? 0 (a.add (i * P.cellsOf e)) (P.cellsOf e)).bind (read e)) = some xs → (∀ m ∈ DataW.weightsAll P e (xs.map (·.1)), m ≤ reachBytes) →
    ∀ ρ h, Rel W.heap.size W ρ h W → ∃ (ρ' : Lo) (h' : Hp) (rows : List (List Lf)), Ext ρ ρ' ∧ Kept h h' ∧ Rel W.heap.size W ρ' h' W ∧ rows.length = is.length ∧ ∀ (k i : Nat) (r : List Lf), is[k]? = some i → rows[k]? = some r → r.length = P.cellsOf e ∧ Ty h' sh r ∧
      ∀ (j : Nat) (x : Lf), r[j]? = some x → ∃ v, W.cell? ⟨a.block, a.off + (i * P.cellsOf e + j), none⟩ = some v ∧ LR ρ' x v
  | [], xs, hx, hw, ρ, h, hr => ⟨ρ, h, [], Ext.refl ρ, Kept.refl h, hr, rfl, fun k i r h1 => by simp at h1⟩
  | i0 :: is, xs, hx, hw, ρ, h, hr => by
    simp only [List.mapM_cons] at hx
    obtain ⟨x, q1, q2⟩ := Option.bind_eq_some_iff.1 hx
    obtain ⟨ys, q3, q4⟩ := Option.bind_eq_some_iff.1 q2
    injection q4 with q4; subst q4
    obtain ⟨cs, c1, c2⟩ := Option.bind_eq_some_iff.1 q1
    obtain ⟨_, hlen, hcell⟩ := World.cells?_some c1
    simp only [List.map_cons, DataW.weightsAll, List.mem_append] at hw
    obtain ⟨ρ1, h1, l1, a1, a2, a3, a4, a5⟩ := hread n e cs x sh c2 hsh (fun m hm => hw m (.inl hm)) ρ h hr
    obtain ⟨ρ2, h2, rows, b1, b2, b3, b4, b5⟩ := open_elems hread hsh q3 (fun m hm => hw m (.inr hm)) ρ1 h1 a3
    refine ⟨ρ2, h2, l1 :: rows, a1.trans b1, a2.trans b2, b3, by simp [b4], ?_⟩
    intro k i r hk hrk
    cases k with
    | succ k => exact b5 k i r (by simpa using hk) (by simpa using hrk)
    | zero =>
      simp at hk hrk; subst hk; subst hrk
      refine ⟨by rw [← a4.length, hlen], a5.kept b2, fun j y hy => ?_⟩
      obtain ⟨v, d1, d2⟩ := a4.get j y hy
      have hj : j < P.cellsOf e := by rw [← hlen]; exact (List.getElem?_eq_some_iff.1 d1).1
      refine ⟨v, ?_, d2.ext b1⟩
      have := hcell j hj
      rw [d1] at this
      rw [addr_two (cell_spot this).1] at this
      exact this
theorem flat_cell {sz : Nat} (hsz : 0 < sz) : ∀ {rows : List (List Lf)}, (∀ (i : Nat) (r : List Lf), rows[i]? = some r → r.length = sz) → ∀ {j : Nat} {x : Lf}, rows.flatten[j]? = some x → ∃ (k m : Nat) (r : List Lf), rows[k]? = some r ∧ r[m]? = some x ∧ j = k * sz + m
  | [], _, j, x, h => by simp at h
  | q :: rs, hl, j, x, h => by
    have h1 := hl 0 q rfl
    simp only [List.flatten_cons] at h
    rcases Nat.lt_or_ge j q.length with hlt | hge
    · rw [List.getElem?_append_left hlt] at h
      exact ⟨0, j, q, rfl, h, by simp⟩
    · rw [List.getElem?_append_right hge] at h
      obtain ⟨k, m, r, k1, k2, k3⟩ := flat_cell hsz (rows := rs) (fun i r hi => hl (i + 1) r (by simpa using hi)) h
      exact ⟨k + 1, m, r, by simpa using k1, k2, by rw [Nat.add_mul]; omega⟩
theorem open_slice {ρ : Lo} {h : Hp} (hr : Rel W.heap.size W ρ h W) {a : Addr} {len cap sz : Nat} (hsz : 0 < sz) (hlc : len ≤ cap) (hcap : cap ≤ maxLen) (hsm : len ≤ 140737488355328) (hblk : cap ≠ 0 → a.block < W.heap.size ∧ a.spot = none) {sh : Sh} {rows : List (List Lf)} (hlen : rows.length = len)
    (hrow : ∀ (i : Nat) (r : List Lf), rows[i]? = some r → r.length = sz ∧ Ty h sh r ∧ ∀ (j : Nat) (x : Lf), r[j]? = some x → ∃ v, W.cell? ⟨a.block, a.off + (i * sz + j), none⟩ = some v ∧ LR ρ x v) :
    Opens W ρ h [.slice (some a) len cap] (.sl sz sh) := by
  have hl := hr.len
  by_cases hc : cap = 0
  · have h0 : len = 0 := by omega
    have hrows : rows = [] := List.length_eq_zero_iff.1 (by omega)
    let l : Loc := ⟨0, 0, 0, 0, false⟩
    refine ⟨ρ ++ [l], h ++ [⟨[], .dead⟩], [.sl h.length 1 0 sz], Ext.one ρ l, Kept.app h _, hr.add (ob := ⟨[], .dead⟩) (show True from trivial) rfl, ?_, ?_⟩
    · refine ⟨_, [], rfl, ⟨l, a, cap, by rw [List.getElem?_append_right (by omega)]; simp [hl], by rw [h0], by omega, hcap, fun hh => by omega, fun hh => by cases hh⟩, rfl⟩
    · refine ⟨_, [], rfl, ⟨rfl, rfl, by simp, fun i r hi => by simp at hi⟩, fun r hh => by simp at hh⟩
  · obtain ⟨hb, hs⟩ := hblk hc
    let l : Loc := ⟨a.block, a.off, 0, 0, false⟩
    have hk : Kept h (h ++ [(⟨rows.flatten, .ro⟩ : Ob)]) := Kept.app h _
    have hlens : ∀ (i : Nat) (r : List Lf), rows[i]? = some r → r.length = sz := fun i r hi => (hrow i r hi).1
    have hor : OR W.heap.size (ρ ++ [l]) W l ⟨rows.flatten, .ro⟩ := by
      refine ⟨rfl, hb, fun j x hx => ?_⟩
      obtain ⟨k, m, r, k1, k2, k3⟩ := flat_cell hsz hlens hx
      obtain ⟨v, q1, q2⟩ := (hrow k r k1).2.2 m x k2
      refine ⟨v, ?_, q2.ext (Ext.one ρ l)⟩
      show W.cell? ⟨a.block, a.off + j, none⟩ = some v
      rw [k3]; exact q1
    refine ⟨ρ ++ [l], h ++ [⟨rows.flatten, .ro⟩], [.sl h.length 0 len sz], Ext.one ρ l, hk, hr.add hor rfl, ?_, ?_⟩
    · refine ⟨_, [], rfl, ⟨l, a, cap, by rw [List.getElem?_append_right (by omega)]; simp [hl], rfl, hlc, hcap, fun _ => ?_, fun hh => by cases hh⟩, rfl⟩
      show a = ⟨a.block, a.off + 0, none⟩
      rw [← hs]; rfl
    · refine ⟨_, rows, rfl, ⟨rfl, by simp [hlen], by omega, fun i r hi => ⟨hlens i r hi, ?_⟩⟩, fun r hh => ?_⟩
      · show rdCells (h ++ [⟨rows.flatten, .ro⟩]) h.length (0 + i * sz) sz = some r
        rw [rd_new0]
        have hi' : i < rows.length := (List.getElem?_eq_some_iff.1 hi).1
        have h2 : i * sz + sz ≤ rows.flatten.length := by
          rw [flat_len hlens]
          calc i * sz + sz = (i + 1) * sz := by rw [Nat.add_mul, Nat.one_mul]
            _ ≤ _ := Nat.mul_le_mul_right _ hi'
        unfold rdCells
        simp only [List.getElem?_cons_zero, Ob.live, Nat.zero_add]
        rw [if_pos ⟨trivial, h2⟩, flat_get hlens hi]
      · obtain ⟨i, hi⟩ := List.getElem?_of_mem hh
        exact (hrow i r hi).2.1.kept hk
theorem open_gen : ∀ fuel : Nat, Opener (H := H) W P (DataW.trod enc P W 0 (fun _ => true) held fuel)
  | 0 => fun n t cs x sh hx => by cases hx
  | fuel + 1 => by
    have ih := open_gen fuel
    intro n t cs x sh hx hsh hw ρ h hr
    cases n with
    | zero => cases hsh
    | succ n =>
      unfold shT at hsh
      unfold DataW.trod at hx
      split at hsh
      · rename_i hu
        rw [hu] at hx
        injection hsh with hsh; subst hsh
        split at hx <;> simp_all
        obtain ⟨rfl⟩ := hx
        exact ⟨ρ, h, [.bool _], Ext.refl ρ, Kept.refl h, hr, ⟨_, [], rfl, rfl, rfl⟩, _, rfl⟩
      · rename_i k hu
        rw [hu] at hx
        injection hsh with hsh; subst hsh
        split at hx <;> simp_all
        obtain ⟨⟨rfl, h2⟩, rfl⟩ := hx
        exact ⟨ρ, h, [.int _ _], Ext.refl ρ, Kept.refl h, hr, ⟨_, [], rfl, rfl, rfl⟩, _, rfl, h2⟩
      · rename_i k hu
        rw [hu] at hx
        injection hsh with hsh; subst hsh
        rcases cs with _ | ⟨v, _ | ⟨v2, r⟩⟩
        · simp at hx
        · cases v with
          | float k' b =>
            simp only at hx
            split at hx
            · rename_i hc
              obtain ⟨rfl, h2⟩ := hc
              have hlt : b < 2 ^ k'.format.width := by cases k' <;> exact of_decide_eq_true h2
              have hf : FR k' b (can k' b) := ⟨hlt, rfl⟩
              exact ⟨ρ, h, [.flt k' (can k' b)], Ext.refl ρ, Kept.refl h, hr, ⟨_, [], rfl, ⟨b, rfl, hf⟩, rfl⟩, _, rfl, hf.lt, hf.can_x⟩
            · cases hx
          | _ => simp at hx
        · simp at hx
      · rename_i hu
        rw [hu] at hx
        injection hsh with hsh; subst hsh
        split at hx <;> simp_all
        obtain ⟨h2, rfl⟩ := hx
        exact ⟨ρ, h, [.str _], Ext.refl ρ, Kept.refl h, hr, ⟨_, [], rfl, rfl, rfl⟩, _, rfl, h2⟩
      · rename_i e hu
        rw [hu] at hx
        split at hsh
        · rename_i hpos
          obtain ⟨she, k1, rfl⟩ := Option.map_eq_some_iff.1 hsh
          clear hsh
          rcases cs with _ | ⟨v, _ | ⟨v2, r⟩⟩
          · simp at hx
          · cases v with
            | slice p len cap =>
              cases p with
              | none =>
                have h0 : len = 0 ∧ cap = 0 := by
                  rcases len with _ | len
                  · rcases cap with _ | cap
                    · exact ⟨rfl, rfl⟩
                    · simp at hx
                  · simp at hx
                obtain ⟨rfl, rfl⟩ := h0
                exact ⟨ρ, h, [.nils], Ext.refl ρ, Kept.refl h, hr, ⟨_, [], rfl, rfl, rfl⟩, .nils, [], rfl, ⟨trivial, rfl, by simp, fun i r hi => by simp at hi⟩, fun r hh => by simp at hh⟩
              | some a =>
                simp only [if_true] at hx
                split at hx
                · rename_i hb
                  obtain ⟨elems, q1, q2⟩ := Option.bind_eq_some_iff.1 hx
                  obtain ⟨rest, q3, rfl⟩ := Option.map_eq_some_iff.1 q2
                  have hw' : ∀ m ∈ DataW.weightsAll P e (elems.map (·.1)), m ≤ reachBytes := fun m hm => hw m (by simp [DataW.weights, hu, hm])
                  have hsm : (elems.length + rest.length) * P.bytesOf e ≤ reachBytes := hw _ (by simp [DataW.weights, hu])
                  have hel : elems.length = len := by simpa using mapM_some_length q1
                  have hrl : rest.length = cap - len := by simpa using mapM_some_length q3
                  obtain ⟨ρ1, h1, rows, a1, a2, a3, a4, a5⟩ := open_elems ih k1 (is := List.range len) q1 hw' ρ h hr
                  have hlen : len ≤ 140737488355328 := by
                    have h3 : reachBytes < 2 ^ 47 := reachBytes_lt
                    have h4 : elems.length + rest.length ≤ (elems.length + rest.length) * P.bytesOf e := Nat.le_mul_of_pos_right _ hpos.2
                    omega
                  have hblk : cap ≠ 0 → a.block < W.heap.size ∧ a.spot = none := by
                    intro hc
                    have hfirst : ∃ cs', W.cells? 0 (a.add (0 * P.cellsOf e)) (P.cellsOf e) = some cs' := by
                      by_cases hl : len = 0
                      · have h5 := mapM_some_get q3 0 0 (by rw [List.getElem?_range (by omega)])
                        rw [hl] at h5
                        cases hr0 : rest[0]? with
                        | none => rw [List.getElem?_eq_none_iff] at hr0; omega
                        | some y =>
                          rw [hr0] at h5
                          obtain ⟨cs', k5, _⟩ := Option.bind_eq_some_iff.1 h5
                          exact ⟨cs', by simpa using k5⟩
                      · have h5 := mapM_some_get q1 0 0 (by rw [List.getElem?_range (by omega)])
                        cases hr0 : elems[0]? with
                        | none => rw [List.getElem?_eq_none_iff] at hr0; omega
                        | some y =>
                          rw [hr0] at h5
                          obtain ⟨cs', k5, _⟩ := Option.bind_eq_some_iff.1 h5
                          exact ⟨cs', k5⟩
                    obtain ⟨cs', hcs⟩ := hfirst
                    obtain ⟨_, hl, hcell⟩ := World.cells?_some hcs
                    have h6 := hcell 0 hpos.1
                    cases cs' with
                    | nil => simp at hl; omega
                    | cons c r =>
                      have h7 : W.cell? a = some c := by simpa [Addr.add] using h6
                      exact ⟨(cell_spot h7).2, (cell_spot h7).1⟩
                  obtain ⟨ρ2, h2, ls, b1, b2, b3, b4, b5⟩ := open_slice a3 hpos.1 hb.2.1 hb.2.2 hlen hblk (rows := rows) (by simpa using a4) (sh := she) (fun i r hi => by
                    have hi' : i < len := by have := (List.getElem?_eq_some_iff.1 hi).1; simp at a4; omega
                    exact a5 i i r (by simp [hi']) hi)
                  exact ⟨ρ2, h2, ls, a1.trans b1, a2.trans b2, b3, b4, b5⟩
                · cases hx
            | _ => simp at hx
          · simp at hx
        · cases hsh
      · rename_i fs hu
        rw [hu] at hx
        simp only at hx
        split at hx
        · rename_i hl
          obtain ⟨xs, q1, rfl⟩ := Option.map_eq_some_iff.1 hx
          rw [← hl] at hsh
          have := open_fields ih (n := n) (cs := cs) hsh q1 (fun m hm => hw m (by simpa [DataW.weights, hu] using hm)) ρ h hr
          simpa using this
        · cases hx
      · cases hsh
end
end Go.E
