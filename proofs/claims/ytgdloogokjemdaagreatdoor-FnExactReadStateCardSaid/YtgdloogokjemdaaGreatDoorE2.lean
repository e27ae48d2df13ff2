/- How the evaluator's values and heap stand to the model's: each object lies in a block of its own, all not-a-numbers are one. Relations and plain lemmas; no condition. -/
import Derived.Test.YtgdloogokjemdaaGreatDoorE1
import Derived.Below
import Derived.Maps.AppendAt
import Derived.Laws.CopyRow
import Derived.Laws.MakeOwn
import Derived.Laws.OwnMore
import Derived.Laws.Tables
import Derived.Laws.Slices
import Derived.Laws.Strings
import Derived.Laws.Strings2
import Derived.Laws.BytesArg
import Derived.Orders
import Derived.LoopN
import Derived.KernelRfl
set_option linter.unusedVariables false
set_option linter.unusedSimpArgs false
namespace Go.E
open Go Go.RowKit

/-- Where an object lies: its block, where it begins in it, how many cells the block has, its elements' size; is it the call's own? -/
structure Loc where
  b : Nat
  o : Nat
  tot : Nat
  sz : Nat
  own : Bool
abbrev Lo := List Loc
def Loc.at_ (l : Loc) (off : Nat) : Addr := ⟨l.b, l.o + off, none⟩

def capR (ρ : Lo) : List (Nat × Nat) → List Value → Prop
  | [], vs => vs = []
  | (id, off) :: r, vs => ∃ l v vs', ρ[id]? = some l ∧ v = .pointer (some (l.at_ off)) ∧ vs = v :: vs' ∧ capR ρ r vs'
def LR (ρ : Lo) : Lf → Value → Prop
  | .bool b, v => v = .bool b
  | .int k n, v => v = .int k n
  | .flt k x, v => ∃ b, v = .float k b ∧ FR k b x
  | .str s, v => v = .string s
  | .nilp, v => v = .pointer none
  | .ptr id off, v => ∃ l, ρ[id]? = some l ∧ v = .pointer (some (l.at_ off))
  | .nils, v => v = .slice none 0 0
  | .sl id off n sz, v => ∃ l A cap, ρ[id]? = some l ∧ v = .slice (some A) n cap ∧ n ≤ cap ∧ cap ≤ maxLen ∧ ((cap ≠ 0 ∨ off = 0) → A = l.at_ off) ∧ (l.own = true → l.sz = sz ∧ off + cap * sz = l.tot)
  | .nilf, v => v = .nilFunc
  | .fn f caps, v => ∃ vs, v = .func (.func f) #[] vs.toArray ∧ capR ρ caps vs
  | .nili, v => v = .nilIface
  | .nb, v => ∃ b : Nat, v = .int .u64 b ∧ b < 2 ^ 64 ∧ isNaN .f64 b = true
def LRs (ρ : Lo) : List Lf → List Value → Prop
  | [], vs => vs = []
  | l :: ls, vs => ∃ v vs', vs = v :: vs' ∧ LR ρ l v ∧ LRs ρ ls vs'
def TR (ρ : Lo) : TV → Value → Prop
  | .lf l, v => LR ρ l v
  | .agg ls, v => ∃ vs, v = .agg vs.toArray ∧ LRs ρ ls vs
def TRs (ρ : Lo) : List TV → List Value → Prop
  | [], vs => vs = []
  | l :: ls, vs => ∃ v vs', vs = v :: vs' ∧ TR ρ l v ∧ TRs ρ ls vs'
def VR (ρ : Lo) : CV → Value → Prop
  | .lf l, v => LR ρ l v
  | .agg ls, v => ∃ vs, v = .agg vs.toArray ∧ LRs ρ ls vs
  | .tup ts, v => ∃ vs, v = .tuple vs.toArray ∧ TRs ρ ts vs
def VRs (ρ : Lo) : List CV → List Value → Prop
  | [], vs => vs = []
  | l :: ls, vs => ∃ v vs', vs = v :: vs' ∧ VR ρ l v ∧ VRs ρ ls vs'
def CR (ρ : Lo) (cs : List Lf) (vs : List Value) : Prop := ∀ (j : Nat) (x : Lf), cs[j]? = some x → ∃ v, vs[j]? = some v ∧ LR ρ x v
def Ob.isOwn (o : Ob) : Bool := match o.st with | .own .. => true | _ => false
def OR (B : Nat) (ρ : Lo) (w : World) (l : Loc) (ob : Ob) : Prop :=
  match ob.st with
  | .own ty sz => l.own = true ∧ l.o = 0 ∧ l.sz = sz ∧ B ≤ l.b ∧ ∃ arr, w.heap[l.b]? = some (.cells arr ty (0, 0)) ∧ arr.size = l.tot ∧ ob.cells.length ≤ arr.size ∧ CR ρ ob.cells arr.toList
  | .ro => l.own = false ∧ l.b < B ∧ ∀ (j : Nat) (x : Lf), ob.cells[j]? = some x → ∃ v, w.cell? (l.at_ j) = some v ∧ LR ρ x v
  | .dead => True
structure Rel (B : Nat) (w0 : World) (ρ : Lo) (h : Hp) (w : World) : Prop where
  len : ρ.length = h.length
  below : Below B w0 w
  base : B ≤ w.heap.size
  obs : ∀ (id : Nat) (ob : Ob) (l : Loc), h[id]? = some ob → ρ[id]? = some l → OR B ρ w l ob
  inj : ∀ (i j : Nat) (oi oj : Ob) (li lj : Loc), h[i]? = some oi → h[j]? = some oj → ρ[i]? = some li → ρ[j]? = some lj → oi.isOwn = true → oj.isOwn = true → li.b = lj.b → i = j
/-- The frame. -/
def AR (ρ : Lo) (a : Fr) (ts : Array Value) : Prop := ∀ t, VR ρ (a t) (ts.getD t undef)
def Ext (ρ ρ' : Lo) : Prop := ∃ e, ρ' = ρ ++ e

theorem Ext.refl (ρ : Lo) : Ext ρ ρ := ⟨[], by simp⟩
theorem Ext.trans {a b c : Lo} (h : Ext a b) (k : Ext b c) : Ext a c := by
  obtain ⟨e, rfl⟩ := h; obtain ⟨f, rfl⟩ := k; exact ⟨e ++ f, by simp⟩
theorem Ext.get {ρ ρ' : Lo} (h : Ext ρ ρ') {id : Nat} {l : Loc} (hl : ρ[id]? = some l) : ρ'[id]? = some l := by
  obtain ⟨e, rfl⟩ := h
  rw [List.getElem?_append_left (List.getElem?_eq_some_iff.1 hl).1]; exact hl
theorem Ext.one (ρ : Lo) (l : Loc) : Ext ρ (ρ ++ [l]) := ⟨[l], rfl⟩

theorem capR.ext {ρ ρ' : Lo} (he : Ext ρ ρ') : ∀ {cs : List (Nat × Nat)} {vs : List Value}, capR ρ cs vs → capR ρ' cs vs
  | [], _, h => h
  | (id, off) :: r, _, h => by
    obtain ⟨l, v, vs', h1, h2, h3, h4⟩ := h
    exact ⟨l, v, vs', he.get h1, h2, h3, capR.ext he h4⟩
theorem LR.ext {ρ ρ' : Lo} (he : Ext ρ ρ') {x : Lf} {v : Value} (h : LR ρ x v) : LR ρ' x v := by
  cases x <;> simp only [LR] at h ⊢ <;> try exact h
  · obtain ⟨l, h1, h2⟩ := h; exact ⟨l, he.get h1, h2⟩
  · obtain ⟨l, A, cap, h1, h2⟩ := h; exact ⟨l, A, cap, he.get h1, h2⟩
  · obtain ⟨vs, h1, h2⟩ := h; exact ⟨vs, h1, h2.ext he⟩
theorem LRs.ext {ρ ρ' : Lo} (he : Ext ρ ρ') : ∀ {ls : List Lf} {vs : List Value}, LRs ρ ls vs → LRs ρ' ls vs
  | [], _, h => h
  | l :: ls, _, h => by obtain ⟨v, vs', h1, h2, h3⟩ := h; exact ⟨v, vs', h1, h2.ext he, LRs.ext he h3⟩
theorem TR.ext {ρ ρ' : Lo} (he : Ext ρ ρ') {x : TV} {v : Value} (h : TR ρ x v) : TR ρ' x v := by
  cases x with
  | lf l => exact LR.ext he h
  | agg ls => obtain ⟨vs, h1, h2⟩ := h; exact ⟨vs, h1, h2.ext he⟩
theorem TRs.ext {ρ ρ' : Lo} (he : Ext ρ ρ') : ∀ {ls : List TV} {vs : List Value}, TRs ρ ls vs → TRs ρ' ls vs
  | [], _, h => h
  | l :: ls, _, h => by obtain ⟨v, vs', h1, h2, h3⟩ := h; exact ⟨v, vs', h1, h2.ext he, TRs.ext he h3⟩
theorem VR.ext {ρ ρ' : Lo} (he : Ext ρ ρ') {x : CV} {v : Value} (h : VR ρ x v) : VR ρ' x v := by
  cases x with
  | lf l => exact LR.ext he h
  | agg ls => obtain ⟨vs, h1, h2⟩ := h; exact ⟨vs, h1, h2.ext he⟩
  | tup ts => obtain ⟨vs, h1, h2⟩ := h; exact ⟨vs, h1, h2.ext he⟩
theorem VRs.ext {ρ ρ' : Lo} (he : Ext ρ ρ') : ∀ {ls : List CV} {vs : List Value}, VRs ρ ls vs → VRs ρ' ls vs
  | [], _, h => h
  | l :: ls, _, h => by obtain ⟨v, vs', h1, h2, h3⟩ := h; exact ⟨v, vs', h1, h2.ext he, VRs.ext he h3⟩
theorem CR.ext {ρ ρ' : Lo} (he : Ext ρ ρ') {cs : List Lf} {vs : List Value} (h : CR ρ cs vs) : CR ρ' cs vs := fun j x hx => by
  obtain ⟨v, h1, h2⟩ := h j x hx; exact ⟨v, h1, h2.ext he⟩
theorem AR.ext {ρ ρ' : Lo} (he : Ext ρ ρ') {a : Fr} {ts : Array Value} (h : AR ρ a ts) : AR ρ' a ts := fun t => (h t).ext he
theorem OR.ext {B : Nat} {ρ ρ' : Lo} (he : Ext ρ ρ') {w : World} {l : Loc} {ob : Ob} (h : OR B ρ w l ob) : OR B ρ' w l ob := by
  unfold OR at h ⊢
  split
  · rename_i ty sz e
    rw [e] at h
    obtain ⟨h1, h2, h3, h4, arr, h5, h6, h7, h8⟩ := h
    exact ⟨h1, h2, h3, h4, arr, h5, h6, h7, h8.ext he⟩
  · rename_i e
    rw [e] at h
    obtain ⟨h1, h2, h3⟩ := h
    exact ⟨h1, h2, fun j x hx => by obtain ⟨v, k1, k2⟩ := h3 j x hx; exact ⟨v, k1, k2.ext he⟩⟩
  · trivial

theorem VR_un (ρ : Lo) : VR ρ un undef := ⟨[], rfl, rfl⟩

theorem LRs.length {ρ : Lo} : ∀ {ls : List Lf} {vs : List Value}, LRs ρ ls vs → vs.length = ls.length
  | [], _, h => by simp [LRs] at h; simp [h]
  | l :: ls, _, h => by obtain ⟨v, vs', rfl, _, h3⟩ := h; simp [LRs.length h3]
theorem LRs.get {ρ : Lo} : ∀ {ls : List Lf} {vs : List Value}, LRs ρ ls vs → CR ρ ls vs
  | [], _, _, j, x, hx => by simp at hx
  | l :: ls, _, h, j, x, hx => by
    obtain ⟨v, vs', rfl, h2, h3⟩ := h
    cases j with
    | zero => simp at hx; subst hx; exact ⟨v, by simp, h2⟩
    | succ j => simp at hx; simpa using LRs.get h3 j x hx
theorem LRs.of {ρ : Lo} : ∀ {ls : List Lf} {vs : List Value}, vs.length = ls.length → CR ρ ls vs → LRs ρ ls vs
  | [], vs, hl, _ => List.eq_nil_of_length_eq_zero (by simpa using hl)
  | l :: ls, [], hl, _ => by simp at hl
  | l :: ls, v :: vs, hl, h => by
    obtain ⟨v', h1, h2⟩ := h 0 l (by simp)
    simp at h1; subst h1
    exact ⟨v, vs, rfl, h2, LRs.of (by simpa using hl) fun j x hx => by simpa using h (j + 1) x (by simpa using hx)⟩
theorem LRs.append {ρ : Lo} {as bs : List Lf} {us vs : List Value} (h : LRs ρ as us) (k : LRs ρ bs vs) : LRs ρ (as ++ bs) (us ++ vs) := by
  refine LRs.of (by simp [h.length, k.length]) fun j x hx => ?_
  rcases Nat.lt_or_ge j as.length with hj | hj
  · rw [List.getElem?_append_left hj] at hx
    rw [List.getElem?_append_left (by rw [h.length]; exact hj)]
    exact h.get j x hx
  · rw [List.getElem?_append_right hj] at hx
    rw [List.getElem?_append_right (by rw [h.length]; exact hj), h.length]
    exact k.get _ x hx
theorem CR.take {ρ : Lo} {ls : List Lf} {vs : List Value} (h : CR ρ ls vs) (hl : ls.length ≤ vs.length) : LRs ρ ls (vs.take ls.length) :=
  LRs.of (by simp; omega) fun j x hx => by
    have hj := (List.getElem?_eq_some_iff.1 hx).1
    rw [List.getElem?_take_of_lt hj]; exact h j x hx
theorem LR.one {ρ : Lo} {x : Lf} {v : Value} (h : LR ρ x v) : v.oneCell' = true := by
  cases x <;> simp only [LR] at h
  · subst h; rfl
  · subst h; rfl
  · obtain ⟨_, rfl, _⟩ := h; rfl
  · subst h; rfl
  · subst h; rfl
  · obtain ⟨_, _, rfl⟩ := h; rfl
  · subst h; rfl
  · obtain ⟨_, _, _, _, rfl, _⟩ := h; rfl
  · subst h; rfl
  · obtain ⟨_, rfl, _⟩ := h; rfl
  · subst h; rfl
  · obtain ⟨_, rfl, _⟩ := h; rfl
theorem LR.cells {ρ : Lo} {x : Lf} {v : Value} (h : LR ρ x v) : v.cells = #[v] := by
  cases x <;> simp only [LR] at h
  · subst h; rfl
  · subst h; rfl
  · obtain ⟨_, rfl, _⟩ := h; rfl
  · subst h; rfl
  · subst h; rfl
  · obtain ⟨_, _, rfl⟩ := h; rfl
  · subst h; rfl
  · obtain ⟨_, _, _, _, rfl, _⟩ := h; rfl
  · subst h; rfl
  · obtain ⟨_, rfl, _⟩ := h; rfl
  · subst h; rfl
  · obtain ⟨_, rfl, _⟩ := h; rfl
theorem LRs.ones {ρ : Lo} : ∀ {ls : List Lf} {vs : List Value}, LRs ρ ls vs → ∀ v ∈ vs, v.oneCell' = true
  | [], _, h, v, hv => by simp [LRs] at h; subst h; cases hv
  | l :: ls, _, h, v, hv => by
    obtain ⟨u, vs', rfl, h2, h3⟩ := h
    rcases List.mem_cons.1 hv with rfl | hv
    · exact h2.one
    · exact LRs.ones h3 v hv
/-- The cells of a value. -/
theorem VR.leaves {ρ : Lo} {x : CV} {v : Value} {ls : List Lf} (h : VR ρ x v) (hl : x.leaves = some ls) : LRs ρ ls v.cells.toList := by
  cases x with
  | lf l =>
    injection hl with hl; subst hl
    have h' : LR ρ l v := h
    rw [h'.cells]; exact ⟨v, [], rfl, h', rfl⟩
  | agg ls' =>
    injection hl with hl; subst hl
    obtain ⟨vs, rfl, h2⟩ := h
    simpa [Value.cells] using h2
  | tup ts => cases hl

theorem World.at_add (l : Loc) (off j : Nat) : (l.at_ off).add j = l.at_ (off + j) := by
  unfold Loc.at_ Addr.add
  split
  · rename_i h; subst h; simp
  · simp [Nat.add_assoc]
theorem at_add (l : Loc) (off j : Nat) : (l.at_ off).add j = l.at_ (off + j) := World.at_add l off j

section
variable {B : Nat} {w0 w : World} {ρ : Lo} {h : Hp}
theorem Rel.loc (hr : Rel B w0 ρ h w) {id : Nat} {ob : Ob} (ho : h[id]? = some ob) : ∃ l, ρ[id]? = some l := by
  have := (List.getElem?_eq_some_iff.1 ho).1
  rw [← hr.len] at this
  exact ⟨_, List.getElem?_eq_getElem this⟩
theorem Rel.ob (hr : Rel B w0 ρ h w) {id : Nat} {l : Loc} (ho : ρ[id]? = some l) : ∃ ob, h[id]? = some ob := by
  have := (List.getElem?_eq_some_iff.1 ho).1
  rw [hr.len] at this
  exact ⟨_, List.getElem?_eq_getElem this⟩
theorem Rel.drewN (hr : Rel B w0 ρ h w) (n : Nat) : Rel B w0 ρ h (w.drewN n) :=
  ⟨hr.len, ⟨hr.below.os, hr.below.tape, hr.below.output, hr.below.size, hr.below.block⟩, hr.base, hr.obs, hr.inj⟩
/-- What is read. -/
theorem Rel.read (hr : Rel B w0 ρ h w) {id off n : Nat} {ls : List Lf} {l : Loc} (hl : ρ[id]? = some l) (hc : rdCells h id off n = some ls) :
    ls.length = n ∧ ∀ (j : Nat) (x : Lf), ls[j]? = some x → ∃ v, w.cell? (l.at_ (off + j)) = some v ∧ LR ρ x v := by
  unfold rdCells at hc
  split at hc
  · rename_i o ho
    split at hc
    · rename_i hb
      injection hc with hc; subst hc
      have hOR := hr.obs id o l ho hl
      refine ⟨by simp; omega, fun j x hx => ?_⟩
      have hj : j < n := by have := (List.getElem?_eq_some_iff.1 hx).1; simp at this; omega
      rw [List.getElem?_take_of_lt hj, List.getElem?_drop] at hx
      unfold OR at hOR
      split at hOR
      · obtain ⟨_, h2, _, _, arr, h5, h6, h7, h8⟩ := hOR
        obtain ⟨v, k1, k2⟩ := h8 (off + j) x hx
        refine ⟨v, ?_, k2⟩
        unfold World.cell? Loc.at_
        simp only [h5, h2]
        simpa using k1
      · obtain ⟨_, _, h3⟩ := hOR
        exact h3 (off + j) x hx
      · rename_i e; simp [Ob.live, e] at hb
    · cases hc
  · cases hc
theorem Rel.readAll (hr : Rel B w0 ρ h w) {id off n : Nat} {ls : List Lf} {l : Loc} (hl : ρ[id]? = some l) (hc : rdCells h id off n = some ls) :
    ∃ vs, LRs ρ ls vs ∧ vs.length = n ∧ ∀ (j : Nat) (v : Value), vs[j]? = some v → w.cell? (l.at_ (off + j)) = some v := by
  obtain ⟨h1, h2⟩ := hr.read hl hc
  have key : ∀ (m : Nat) (ls : List Lf) (o : Nat), ls.length = m → (∀ (j : Nat) (x : Lf), ls[j]? = some x → ∃ v, w.cell? (l.at_ (o + j)) = some v ∧ LR ρ x v) →
      ∃ vs, LRs ρ ls vs ∧ vs.length = m ∧ ∀ (j : Nat) (v : Value), vs[j]? = some v → w.cell? (l.at_ (o + j)) = some v := by
    intro m
    induction m with
    | zero =>
      intro ls o hl h
      obtain rfl := List.eq_nil_of_length_eq_zero hl
      exact ⟨[], rfl, rfl, fun j v hv => by simp at hv⟩
    | succ m ih =>
      intro ls o hl h
      cases ls with
      | nil => simp at hl
      | cons x ls =>
        obtain ⟨v, k1, k2⟩ := h 0 x (by simp)
        obtain ⟨vs, i1, i2, i3⟩ := ih ls (o + 1) (by simpa using hl) (fun j y hy => by
          have := h (j + 1) y (by simpa using hy)
          rwa [show o + (j + 1) = o + 1 + j by omega] at this)
        refine ⟨v :: vs, ⟨v, vs, rfl, k2, i1⟩, by simp [i2], fun j u hu => ?_⟩
        cases j with
        | zero => simp at hu; subst hu; exact k1
        | succ j =>
          have := i3 j u (by simpa using hu)
          rwa [show o + (j + 1) = o + 1 + j by omega]
  exact key n ls off h1 h2
/-- A new object. -/
theorem Rel.new (hr : Rel B w0 ρ h w) (ty sz : Nat) (cs : List Lf) (arr : Array Value) (hl : cs.length ≤ arr.size) (hc : CR ρ cs arr.toList) :
    Rel B w0 (ρ ++ [⟨w.heap.size, 0, arr.size, sz, true⟩]) (h ++ [⟨cs, .own ty sz⟩]) (w.alloc (.cells arr ty)) := by
  have he := Ext.one ρ ⟨w.heap.size, 0, arr.size, sz, true⟩
  have blt : ∀ (id : Nat) (ob : Ob) (l : Loc), h[id]? = some ob → ρ[id]? = some l → ob.isOwn = true → l.b < w.heap.size := by
    intro id ob l h1 h2 h3
    have := hr.obs id ob l h1 h2
    unfold OR at this
    unfold Ob.isOwn at h3
    split at this
    · obtain ⟨_, _, _, _, arr', k, _⟩ := this
      exact (Array.getElem?_eq_some_iff.1 k).1
    · rename_i e; rw [e] at h3; cases h3
    · rename_i e; rw [e] at h3; cases h3
  refine ⟨by simp [hr.len], hr.below.alloc hr.base _, Nat.le_trans hr.base (by show _ ≤ (w.heap.push _).size; simp), ?_, ?_⟩
  · intro id ob l h1 h2
    rcases Nat.lt_or_ge id h.length with hlt | hge
    · rw [List.getElem?_append_left hlt] at h1
      rw [List.getElem?_append_left (by rw [hr.len]; exact hlt)] at h2
      have hOR := (hr.obs id ob l h1 h2).ext he
      have hB := blt id ob l h1 h2
      unfold OR at hOR ⊢
      split
      · rename_i e; rw [e] at hOR
        obtain ⟨h1', h2', h3, h4, arr', h5, h6⟩ := hOR
        exact ⟨h1', h2', h3, h4, arr', by rw [heap_alloc_old _ _ (hB (by simp [Ob.isOwn, e]))]; exact h5, h6⟩
      · rename_i e; rw [e] at hOR
        obtain ⟨h1', h2', h3⟩ := hOR
        refine ⟨h1', h2', fun j x hx => ?_⟩
        obtain ⟨v, k1, k2⟩ := h3 j x hx
        refine ⟨v, ?_, k2⟩
        rw [World.cell?_of_block (heap_alloc_old _ _ (Nat.lt_of_lt_of_le h2' hr.base))]; exact k1
      · trivial
    · have e1 : id = h.length := by
        have := (List.getElem?_eq_some_iff.1 h1).1; simp at this; omega
      subst e1
      simp at h1
      rw [show h.length = ρ.length from hr.len.symm] at h2
      simp at h2
      subst h1; subst h2
      exact ⟨rfl, rfl, rfl, hr.base, arr, heap_alloc_new _ _, rfl, hl, hc.ext he⟩
  · intro i j oi oj li lj hi hj hli hlj ho1 ho2 hb
    rcases Nat.lt_or_ge i h.length with hi' | hi'
    · rcases Nat.lt_or_ge j h.length with hj' | hj'
      · rw [List.getElem?_append_left hi'] at hi
        rw [List.getElem?_append_left hj'] at hj
        rw [List.getElem?_append_left (by rw [hr.len]; exact hi')] at hli
        rw [List.getElem?_append_left (by rw [hr.len]; exact hj')] at hlj
        exact hr.inj i j oi oj li lj hi hj hli hlj ho1 ho2 hb
      · have e1 : j = h.length := by have := (List.getElem?_eq_some_iff.1 hj).1; simp at this; omega
        subst e1
        rw [List.getElem?_append_left hi'] at hi
        rw [List.getElem?_append_left (by rw [hr.len]; exact hi')] at hli
        rw [show h.length = ρ.length from hr.len.symm] at hlj
        simp at hlj; subst hlj
        have := blt i oi li hi hli ho1
        simp at hb; omega
    · have e1 : i = h.length := by have := (List.getElem?_eq_some_iff.1 hi).1; simp at this; omega
      subst e1
      rw [show h.length = ρ.length from hr.len.symm] at hli
      simp at hli; subst hli
      rcases Nat.lt_or_ge j h.length with hj' | hj'
      · rw [List.getElem?_append_left hj'] at hj
        rw [List.getElem?_append_left (by rw [hr.len]; exact hj')] at hlj
        have := blt j oj lj hj hlj ho2
        simp at hb; omega
      · have := (List.getElem?_eq_some_iff.1 hj).1; simp at this; omega
theorem Rel.blt (hr : Rel B w0 ρ h w) {id : Nat} {ob : Ob} {l : Loc} (h1 : h[id]? = some ob) (h2 : ρ[id]? = some l) (h3 : ob.isOwn = true) : l.b < w.heap.size := by
  have := hr.obs id ob l h1 h2
  unfold OR at this
  unfold Ob.isOwn at h3
  split at this
  · obtain ⟨_, _, _, _, arr', k, _⟩ := this
    exact (Array.getElem?_eq_some_iff.1 k).1
  · rename_i e; rw [e] at h3; cases h3
  · rename_i e; rw [e] at h3; cases h3
/-- A row of one's own is written, or taken over by another object (which has the same block). -/
theorem Rel.turn (hr : Rel B w0 ρ h w) {id : Nat} {ob : Ob} {l : Loc} (h1 : h[id]? = some ob) (h2 : ρ[id]? = some l) (ho : ob.isOwn = true) {w' : World}
    (hg : w.grownBy w' (some l.b)) (ob' : Ob) (hob : ob'.st = .dead ∨ OR B ρ w' l ob') :
    Rel B w0 ρ (h.set id ob') w' := by
  have hBl : B ≤ l.b := by
    have := hr.obs id ob l h1 h2
    unfold OR at this; unfold Ob.isOwn at ho
    split at this
    · exact this.2.2.2.1
    · rename_i e; rw [e] at ho; cases ho
    · rename_i e; rw [e] at ho; cases ho
  refine ⟨by simp [hr.len], hr.below.grown hg hr.base (fun k hk => by injection hk with hk; omega), Nat.le_trans hr.base hg.size, ?_, ?_⟩
  · intro i o li hi hli
    by_cases e : i = id
    · subst e
      rw [hli] at h2; injection h2 with h2; subst h2
      have : o = ob' := by
        rw [List.getElem?_set] at hi
        simp [(List.getElem?_eq_some_iff.1 h1).1] at hi
        exact hi.symm
      subst this
      rcases hob with hob | hob
      · unfold OR; rw [hob]; trivial
      · exact hob
    · rw [List.getElem?_set_ne (Ne.symm e)] at hi
      have hOR := hr.obs i o li hi hli
      unfold OR at hOR ⊢
      split
      · rename_i e'; rw [e'] at hOR
        obtain ⟨k1, k2, k3, k4, arr', k5, k6⟩ := hOR
        refine ⟨k1, k2, k3, k4, arr', ?_, k6⟩
        have hne : li.b ≠ l.b := fun hb => e (hr.inj i id o ob li l hi h1 hli h2 (by simp [Ob.isOwn, e']) ho hb)
        rw [hg.block li.b (Array.getElem?_eq_some_iff.1 k5).1 (fun hh => hne (by injection hh))]
        exact k5
      · rename_i e'; rw [e'] at hOR
        obtain ⟨k1, k2, k3⟩ := hOR
        refine ⟨k1, k2, fun j x hx => ?_⟩
        obtain ⟨v, q1, q2⟩ := k3 j x hx
        refine ⟨v, ?_, q2⟩
        rw [World.cell?_of_block (hg.block li.b (Nat.lt_of_lt_of_le k2 hr.base) (fun hh => by injection hh with hh; omega))]; exact q1
      · trivial
  · intro i j oi oj li lj hi hj hli hlj ho1 ho2 hb
    have back : ∀ (i : Nat) (oi : Ob), (h.set id ob')[i]? = some oi → oi.isOwn = true → ∃ o2, h[i]? = some o2 ∧ o2.isOwn = true := by
      intro i oi hi ho1
      by_cases e : i = id
      · subst e; exact ⟨ob, h1, ho⟩
      · rw [List.getElem?_set_ne (Ne.symm e)] at hi; exact ⟨oi, hi, ho1⟩
    obtain ⟨a, ha, ha'⟩ := back i oi hi ho1
    obtain ⟨b, hb1, hb'⟩ := back j oj hj ho2
    exact hr.inj i j a b li lj ha hb1 hli hlj ha' hb' hb
end
end Go.E
