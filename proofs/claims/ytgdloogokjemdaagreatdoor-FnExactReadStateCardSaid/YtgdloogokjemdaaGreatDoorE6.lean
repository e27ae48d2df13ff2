/- Regions: what the evaluator says, going through the operations in the text's order, holds in whatever order the model takes them. Plain lemmas; no condition. -/
import Derived.Test.YtgdloogokjemdaaGreatDoorE5
set_option linter.unusedVariables false
set_option linter.unusedSimpArgs false
namespace Go.E
open Go Go.RowKit

/-- One operation with its guard; its place must lie within the frame. -/
def lG (ops : Array Oper) (g : Option (Nat × Bool)) : Option (Option (Nat × Bool)) :=
  match g with
  | none => some none
  | some (j, b) => ((ops[j]?).bind (·.dst)).map fun t => some (t, b)
def lD (nt : Nat) (d : Option Nat) : Bool := match d with | none => true | some d => decide (d < nt)
def lOper (P : Program) (pf : FuncId → Bool) (nt : Nat) (ops : Array Oper) (o : Oper) : Option LOper :=
  if lD nt o.dst then (lOp P pf o.op).bind fun lo => (lG ops o.guard).map fun g => ⟨o.dst, lo, g⟩ else none
def lOps (P : Program) (pf : FuncId → Bool) (nt : Nat) (ops : Array Oper) : List Oper → Option (List LOper)
  | [] => some []
  | o :: r => (lOper P pf nt ops o).bind fun x => (lOps P pf nt ops r).map fun q => x :: q

/-- All that is held of a frame and the world. -/
structure Stt (B : Nat) (w0 : World) (nt : Nat) (ρ : Lo) (a : Fr) (h : Hp) (act : Act) (w : World) : Prop where
  ar : AR ρ a act.tmps
  nt : act.tmps.size = nt
  df : act.defers = []
  rel : Rel B w0 ρ h w

section
variable {P : Program} {B : Nat} {w0 : World} {nt : Nat} {call : Call} {lim : Nat} {pf : FuncId → Bool}

theorem VR_bool {ρ : Lo} {x : CV} {b : Bool} (h : VR ρ x (.bool b)) : x = .lf (.bool b) := by
  cases x with
  | lf l => cases l <;> simp [VR, LR] at h <;> simp [h]
  | agg ls => obtain ⟨vs, h1, _⟩ := h; cases h1
  | tup ts => obtain ⟨vs, h1, _⟩ := h; cases h1
theorem wanted_sound {ρ : Lo} {a : Fr} {act : Act} {ops : Array Oper} {o : Oper} {g : Option (Nat × Bool)} (ha : AR ρ a act.tmps) (hg : lG ops o.guard = some g) : Region.wanted o (yielded ops act.tmps) = wantedL a g := by
  unfold lG at hg
  unfold Region.wanted
  cases he : o.guard with
  | none => rw [he] at hg; injection hg with hg; subst hg; rfl
  | some p =>
    obtain ⟨j, b⟩ := p
    rw [he] at hg
    obtain ⟨t, h1, rfl⟩ := Option.map_eq_some_iff.1 hg
    simp only [wantedL]
    have hy : yielded ops act.tmps j = match act.tmps[t]? with | some (.bool c) => some c | _ => none := by
      unfold yielded; rw [h1]; rfl
    rw [hy]
    have hv := ha t
    cases ht : act.tmps[t]? with
    | none =>
      have : act.tmps.getD t undef = undef := by simp [ht]
      rw [this] at hv
      have hne : ∀ c, a t ≠ .lf (.bool c) := by
        intro c e; rw [e] at hv; cases hv
      simp only
      first
        | rfl
        | (split
           · rename_i c e; exact absurd e (hne c)
           · rfl)
    | some u =>
      have : act.tmps.getD t undef = u := by simp [ht]
      rw [this] at hv
      by_cases hb : ∃ c, u = .bool c
      · obtain ⟨c, rfl⟩ := hb
        rw [VR_bool hv]
        simp only
        cases c <;> cases b <;> rfl
      · have hne : ∀ c, a t ≠ .lf (.bool c) := by
          intro c e; rw [e] at hv; exact hb ⟨c, hv⟩
        have e1 : (match some u with | some (.bool c) => some c | _ => none) = none := by
          split
          · rename_i c e; injection e with e; exact absurd ⟨c, e⟩ hb
          · rfl
        rw [e1]
        first
          | rfl
          | (split
             · rename_i c e; exact absurd e (hne c)
             · rfl)
theorem AR.put {ρ : Lo} {a : Fr} {act : Act} {d : Option Nat} {v : CV} {v' : Value} (ha : AR ρ a act.tmps) (hv : VR ρ v v') (hd : lD act.tmps.size d = true) : AR ρ (upd a d v) (act.put d v').tmps := by
  cases d with
  | none => exact ha
  | some d =>
    simp [lD] at hd
    intro t
    simp only [upd, Act.put]
    split
    · rename_i e; subst e
      simpa [Array.getElem?_setIfInBounds, hd] using hv
    · rename_i e
      have := ha t
      simpa [Array.getElem?_setIfInBounds, Ne.symm e] using this
theorem Stt.put {ρ ρ' : Lo} {a : Fr} {h h' : Hp} {act : Act} {w w' : World} {d : Option Nat} {v : CV} {v' : Value} (hs : Stt B w0 nt ρ a h act w) (hd : lD nt d = true) (he : Ext ρ ρ') (hv : VR ρ' v v') (hr : Rel B w0 ρ' h' w') :
    Stt B w0 nt ρ' (upd a d v) h' (act.put d v') w' := by
  refine ⟨(hs.ar.ext he).put hv (by rw [hs.nt]; exact hd), ?_, ?_, hr⟩
  · cases d <;> simp [Act.put, hs.nt]
  · cases d <;> simp [Act.put, hs.df]
end

/-! ### A region that draws its order -/
def Xr : X → List Nat
  | .t n => [n]
  | .c _ => []
def Xro : Option X → List Nat
  | none => []
  | some x => Xr x
def partsR : List (Nat × Nat × X) → List Nat
  | [] => []
  | p :: r => Xr p.2.2 ++ partsR r
def xsR : List X → List Nat
  | [] => []
  | x :: r => Xr x ++ xsR r
/-- What an operation reads of the frame. -/
def LO.rd : LO → List Nat
  | .mv x => Xr x
  | .pick c x y => Xr c ++ Xr x ++ Xr y
  | .box _ x => Xr x
  | .alloc _ _ => []
  | .build _ ps => partsR ps
  | .lit _ _ _ _ ps => partsR ps
  | .make _ _ _ _ l c => Xr l ++ Xr c
  | .load _ _ x => Xr x
  | .store _ x y => Xr x ++ Xr y
  | .nilck x => Xr x
  | .bin _ x y => Xr x ++ Xr y
  | .beq _ x y => Xr x ++ Xr y
  | .una _ x => Xr x
  | .toint _ x => Xr x
  | .toflt _ x => Xr x
  | .tostr x => Xr x
  | .slice _ x lo hi => Xr x ++ Xro lo ++ Xro hi
  | .sstr x lo hi => Xr x ++ Xro lo ++ Xro hi
  | .faddr _ x => Xr x
  | .field _ _ _ x => Xr x
  | .iaddr _ x i => Xr x ++ Xr i
  | .idx x i => Xr x ++ Xr i
  | .ext x _ => Xr x
  | .len x => Xr x
  | .slen x => Xr x
  | .app _ _ _ x y => Xr x ++ Xr y
  | .mnmx _ xs => xsR xs
  | .xop _ xs => xsR xs
  | .mkf _ xs => xsR xs
  | .callv x xs => Xr x ++ xsR xs
  | .call _ _ xs => xsR xs
  | .bad => []
/-- 0: it looks at the frame alone; 1: at the heap, too; 2: it may change it. -/
def LO.cls : LO → Nat
  | .box .. | .alloc .. | .lit .. | .make .. | .store .. | .app .. | .call false .. | .callv .. | .bad => 2
  | .load .. | .tostr .. | .call true .. => 1
  | _ => 0
theorem evX_cong {a b : Fr} {x : X} (h : ∀ t ∈ Xr x, a t = b t) : evX a x = evX b x := by
  cases x with
  | t n => exact h n (by simp [Xr])
  | c v => rfl
theorem evO2_cong {a b : Fr} {x : Option X} (h : ∀ t ∈ Xro x, a t = b t) : evO2 a x = evO2 b x := by
  cases x with
  | none => rfl
  | some x => simp only [evO2]; rw [evX_cong h]
theorem parts_cong {a b : Fr} : ∀ {ps : List (Nat × Nat × X)}, (∀ t ∈ partsR ps, a t = b t) → leavesAll a ps = leavesAll b ps
  | [], _ => rfl
  | (off, n, x) :: r, h => by
    have h1 : evX a x = evX b x := evX_cong fun t ht => h t (by simp [partsR, ht])
    have h2 : leavesAll a r = leavesAll b r := parts_cong fun t ht => h t (by simp [partsR, ht])
    unfold leavesAll
    rw [h1, h2]
theorem xs_cong {a b : Fr} : ∀ {xs : List X}, (∀ t ∈ xsR xs, a t = b t) → xs.map (evX a) = xs.map (evX b)
  | [], _ => rfl
  | x :: r, h => by
    have h1 : evX a x = evX b x := evX_cong fun t ht => h t (by simp [xsR, ht])
    have h2 : r.map (evX a) = r.map (evX b) := xs_cong fun t ht => h t (by simp [xsR, ht])
    simp only [List.map_cons, h1, h2]
theorem evO_cong {call : Call} {lim : Nat} {o : LO} {a b : Fr} {h : Hp} (hab : ∀ t ∈ o.rd, a t = b t) : evO call lim o a h = evO call lim o b h := by
  cases o <;> simp only [LO.rd, List.mem_append] at hab <;> simp only [evO]
  case mv x => rw [evX_cong hab]
  case pick c x y => rw [evX_cong (x := c) (fun t ht => hab t (.inl (.inl ht))), evX_cong (x := x) (fun t ht => hab t (.inl (.inr ht))), evX_cong (x := y) (fun t ht => hab t (.inr ht))]
  case box ty x => rw [evX_cong hab]
  case build z ps => rw [parts_cong hab]
  case lit ty sz len z ps => rw [parts_cong hab]
  case make ty sz by_ z l c => rw [evX_cong (x := l) (fun t ht => hab t (.inl ht)), evX_cong (x := c) (fun t ht => hab t (.inr ht))]
  case load ag n x => rw [evX_cong hab]
  case store n x y => rw [evX_cong (x := x) (fun t ht => hab t (.inl ht)), evX_cong (x := y) (fun t ht => hab t (.inr ht))]
  case nilck x => rw [evX_cong hab]
  case bin op x y => rw [evX_cong (x := x) (fun t ht => hab t (.inl ht)), evX_cong (x := y) (fun t ht => hab t (.inr ht))]
  case beq ne x y => rw [evX_cong (x := x) (fun t ht => hab t (.inl ht)), evX_cong (x := y) (fun t ht => hab t (.inr ht))]
  case una op x => rw [evX_cong hab]
  case toint k x => rw [evX_cong hab]
  case toflt k x => rw [evX_cong hab]
  case tostr x => rw [evX_cong hab]
  case slice sz x lo hi => rw [evX_cong (x := x) (fun t ht => hab t (.inl (.inl ht))), evO2_cong (x := lo) (fun t ht => hab t (.inl (.inr ht))), evO2_cong (x := hi) (fun t ht => hab t (.inr ht))]
  case sstr x lo hi => rw [evX_cong (x := x) (fun t ht => hab t (.inl (.inl ht))), evO2_cong (x := lo) (fun t ht => hab t (.inl (.inr ht))), evO2_cong (x := hi) (fun t ht => hab t (.inr ht))]
  case faddr off x => rw [evX_cong hab]
  case field ag off n x => rw [evX_cong hab]
  case iaddr sz x i => rw [evX_cong (x := x) (fun t ht => hab t (.inl ht)), evX_cong (x := i) (fun t ht => hab t (.inr ht))]
  case idx x i => rw [evX_cong (x := x) (fun t ht => hab t (.inl ht)), evX_cong (x := i) (fun t ht => hab t (.inr ht))]
  case ext x i => rw [evX_cong hab]
  case len x => rw [evX_cong hab]
  case slen x => rw [evX_cong hab]
  case app ty sz by_ x y => rw [evX_cong (x := x) (fun t ht => hab t (.inl ht)), evX_cong (x := y) (fun t ht => hab t (.inr ht))]
  case mnmx mx xs => rw [xs_cong hab]
  case xop k xs => rw [xs_cong hab]
  case mkf f xs => rw [xs_cong hab]
  case callv x xs => rw [evX_cong (x := x) (fun t ht => hab t (.inl ht)), xs_cong (fun t ht => hab t (.inr ht))]
  case call p f xs => rw [xs_cong hab]
/-- What only looks leaves the heap as it was. -/
theorem cls1_same {call : Call} {lim : Nat} {o : LO} {a : Fr} {h h' : Hp} {v : CV} (hc : o.cls ≤ 1) (he : evO call lim o a h = some (v, h')) : h' = h := by
  cases o <;> simp [LO.cls] at hc <;> simp only [evO] at he
  case call p f xs =>
    cases p
    · simp at hc
    · simp only [if_true] at he
      obtain ⟨⟨v1, h1⟩, k1, k2⟩ := Option.bind_eq_some_iff.1 he
      simp only at k2
      split at k2
      · injection k2 with k2; injection k2 with _ e; exact e.symm
      · cases k2
  all_goals
    first
      | (injection he with he; injection he with _ e; exact e.symm)
      | (obtain ⟨_, _, k⟩ := Option.map_eq_some_iff.1 he; injection k with _ e; exact e.symm)
      | (obtain ⟨_, _, he⟩ := Option.bind_eq_some_iff.1 he; obtain ⟨_, _, k⟩ := Option.map_eq_some_iff.1 he; injection k with _ e; exact e.symm)
      | (split at he
         all_goals first
           | (cases he; done)
           | (injection he with he; injection he with _ e; exact e.symm)
           | (obtain ⟨_, _, k⟩ := Option.map_eq_some_iff.1 he; injection k with _ e; exact e.symm)
           | (split at he <;> first | (cases he; done) | (injection he with he; injection he with _ e; exact e.symm))
           | (obtain ⟨_, _, he⟩ := Option.bind_eq_some_iff.1 he; obtain ⟨_, _, he⟩ := Option.bind_eq_some_iff.1 he; split at he <;> first | (cases he; done) | (injection he with he; injection he with _ e; exact e.symm)))
/-- What looks at the frame alone says the same over any heap. -/
theorem cls0_any {call : Call} {lim : Nat} {o : LO} {a : Fr} {h h' : Hp} {v : CV} (hc : o.cls = 0) (he : evO call lim o a h = some (v, h')) (h2 : Hp) : evO call lim o a h2 = some (v, h2) := by
  have e := cls1_same (by omega) he
  subst e
  cases o <;> simp [LO.cls] at hc <;> simp only [evO] at he ⊢
  case call p f xs => cases p <;> simp at hc
  all_goals
    first
      | (injection he with he; injection he with e1 _; rw [e1])
      | (obtain ⟨_, k1, k⟩ := Option.map_eq_some_iff.1 he; injection k with e1 _; rw [k1, ← e1]; rfl)
      | (obtain ⟨_, k0, he⟩ := Option.bind_eq_some_iff.1 he; obtain ⟨_, k1, k⟩ := Option.map_eq_some_iff.1 he; injection k with e1 _; rw [k0]; simp only [Option.bind_some]; rw [k1, ← e1]; rfl)
      | (split at he
         all_goals first
           | (cases he; done)
           | (injection he with he; injection he with e1 _; rw [e1])
           | (obtain ⟨_, k1, k⟩ := Option.map_eq_some_iff.1 he; injection k with e1 _; rw [k1, ← e1]; rfl)
           | (split at he <;> first | (cases he; done) | (rename_i hq; injection he with he; injection he with e1 _; first | rw [if_pos hq, e1] | rw [dif_pos hq, e1]))
           | (obtain ⟨_, k0, he⟩ := Option.bind_eq_some_iff.1 he; obtain ⟨_, k1, he⟩ := Option.bind_eq_some_iff.1 he; split at he <;> first | (cases he; done) | (rename_i hq; injection he with he; injection he with e1 _; rw [k0]; simp only [Option.bind_some]; rw [k1]; simp only [Option.bind_some]; rw [if_pos hq, e1])))

section
variable {lim : Nat}
theorem Keeps.refl (lim : Nat) (h : Hp) : Keeps lim h h := ⟨Nat.le_refl _, fun _ _ _ => rfl⟩
theorem Keeps.trans {lim : Nat} {a b c : Hp} (h : Keeps lim a b) (k : Keeps lim b c) : Keeps lim a c :=
  ⟨Nat.le_trans h.1 k.1, fun id h1 h2 => (k.2 id h1 (Nat.lt_of_lt_of_le h2 h.1)).trans (h.2 id h1 h2)⟩
theorem Keeps.app (lim : Nat) (h : Hp) (l : List Ob) : Keeps lim h (h ++ l) := ⟨by simp, fun id _ h2 => List.getElem?_append_left h2⟩
theorem Keeps.set {lim : Nat} (h : Hp) {id : Nat} (o : Ob) (hl : lim ≤ id) : Keeps lim h (h.set id o) := ⟨by simp, fun j h1 _ => List.getElem?_set_ne (by omega)⟩
theorem evO_keeps {o : LO} {a : Fr} {h h' : Hp} {v : CV} (he : evO nc lim o a h = some (v, h')) : Keeps lim h h' := by
  by_cases hc : o.cls ≤ 1
  · rw [cls1_same hc he]; exact Keeps.refl _ _
  · cases o <;> simp [LO.cls] at hc <;> simp only [evO] at he
    case box ty x => obtain ⟨_, _, k⟩ := Option.map_eq_some_iff.1 he; injection k with _ e; subst e; exact Keeps.app _ _ _
    case alloc ty z => injection he with he; injection he with _ e; subst e; exact Keeps.app _ _ _
    case lit ty sz len z ps =>
      obtain ⟨_, _, he⟩ := Option.bind_eq_some_iff.1 he
      obtain ⟨_, _, k⟩ := Option.map_eq_some_iff.1 he
      injection k with _ e; subst e; exact Keeps.app _ _ _
    case make ty sz by_ z l c =>
      split at he
      · split at he
        · injection he with he; injection he with _ e; subst e; exact Keeps.app _ _ _
        · cases he
      · cases he
    case store n x y =>
      split at he
      · split at he
        · obtain ⟨h2, k1, k2⟩ := Option.map_eq_some_iff.1 he
          injection k2 with _ e; subst e
          unfold wrCells at k1
          split at k1
          · split at k1
            · rename_i hb; injection k1 with k1; subst k1; exact Keeps.set _ _ hb.1
            · cases k1
          · cases k1
        · cases he
      · cases he
    case app ty sz by_ x y =>
      unfold appV at he
      obtain ⟨⟨m, new⟩, _, he⟩ := Option.bind_eq_some_iff.1 he
      simp only at he
      split at he
      · split at he
        · injection he with he; injection he with _ e; subst e; exact Keeps.refl _ _
        · split at he
          · injection he with he; injection he with _ e; subst e; exact Keeps.refl _ _
          · cases he
        · cases he
      · split at he
        · split at he
          · injection he with he; injection he with _ e; subst e; exact Keeps.app _ _ _
          · cases he
        · split at he
          · split at he
            · rename_i hb
              injection he with he; injection he with _ e; subst e
              exact (Keeps.set h _ hb.1).trans (Keeps.app _ _ _)
            · cases he
          · cases he
        · cases he
    case callv x xs => split at he <;> simp [nc] at he
    case call p f xs =>
      cases p
      · simp [nc] at he
      · simp at hc
    case bad => cases he
end

/-! ### What an operation comes to, calls included -/
section
variable {P : Program} {B : Nat} {w0 : World} {nt : Nat} {lim : Nat} {pf : FuncId → Bool}
def MC (P : Program) (B : Nat) (w0 : World) (f : FuncId) (args : List CV) (h : Hp) (lim : Nat) (K : CV → Hp → Prop) : Prop := (∃ v h', K v h') ∧ MCall P B w0 f args h lim K
def MO (P : Program) (B : Nat) (w0 : World) (lim : Nat) (o : LO) (a : Fr) (h : Hp) (K : CV → Hp → Prop) : Prop :=
  (∃ v h', evO nc lim o a h = some (v, h') ∧ K v h') ∨ (∃ f xs, o = .call false f xs ∧ MC P B w0 f (xs.map (evX a)) h lim K) ∨
  (∃ f xs v, o = .call true f xs ∧ v.plain = true ∧ MC P B w0 f (xs.map (evX a)) h h.length (fun u _ => u = v) ∧ K v h) ∨
  (∃ x xs f cs, o = .callv x xs ∧ callable P f = true ∧ evX a x = .lf (.fn f cs) ∧ MC P B w0 f (xs.map (evX a) ++ ptrs cs) h lim K)
theorem MC.mono {f : FuncId} {args : List CV} {h : Hp} {K K' : CV → Hp → Prop} (hm : MC P B w0 f args h lim K) (hk : ∀ v h', K v h' → K' v h') : MC P B w0 f args h lim K' := by
  obtain ⟨⟨v, h', k⟩, hm⟩ := hm
  exact ⟨⟨v, h', hk _ _ k⟩, fun ρ vs w h1 h2 => (hm ρ vs w h1 h2).mono fun e w' ⟨v, v', ρ', h', q1, q2, q3, q4, q5, q6⟩ => ⟨v, v', ρ', h', q1, q2, q3, q4, q5, hk _ _ q6⟩⟩
theorem MO.mono {o : LO} {a : Fr} {h : Hp} {K K' : CV → Hp → Prop} (hm : MO P B w0 lim o a h K) (hk : ∀ v h', K v h' → K' v h') : MO P B w0 lim o a h K' := by
  rcases hm with ⟨v, h', k1, k2⟩ | ⟨f, xs, k1, k2⟩ | ⟨f, xs, v, k1, k2, k3, k4⟩ | ⟨x, xs, f, cs, k1, k2, k3, k4⟩
  · exact .inl ⟨v, h', k1, hk _ _ k2⟩
  · exact .inr (.inl ⟨f, xs, k1, k2.mono hk⟩)
  · exact .inr (.inr (.inl ⟨f, xs, v, k1, k2, k3, hk _ _ k4⟩))
  · exact .inr (.inr (.inr ⟨x, xs, f, cs, k1, k2, k3, k4.mono hk⟩))
theorem MO.ex {o : LO} {a : Fr} {h : Hp} {K : CV → Hp → Prop} (hm : MO P B w0 lim o a h K) : ∃ v h', K v h' := by
  rcases hm with ⟨v, h', k1, k2⟩ | ⟨f, xs, k1, k2⟩ | ⟨f, xs, v, k1, k2, k3, k4⟩ | ⟨x, xs, f, cs, k1, k2, k3, k4⟩
  · exact ⟨v, h', k2⟩
  · exact k2.1
  · exact ⟨v, h, k4⟩
  · exact k4.1
theorem MO.cong {o : LO} {a b : Fr} {h : Hp} {K : CV → Hp → Prop} (hab : ∀ t ∈ o.rd, a t = b t) (hm : MO P B w0 lim o a h K) : MO P B w0 lim o b h K := by
  rcases hm with ⟨v, h', k1, k2⟩ | ⟨f, xs, rfl, k2⟩ | ⟨f, xs, v, rfl, k2, k3, k4⟩ | ⟨x, xs, f, cs, rfl, k2, k3, k4⟩
  · exact .inl ⟨v, h', by rw [← evO_cong hab]; exact k1, k2⟩
  · exact .inr (.inl ⟨f, xs, rfl, by rw [← xs_cong hab]; exact k2⟩)
  · exact .inr (.inr (.inl ⟨f, xs, v, rfl, k2, by rw [← xs_cong hab]; exact k3, k4⟩))
  · simp only [LO.rd, List.mem_append] at hab
    exact .inr (.inr (.inr ⟨x, xs, f, cs, rfl, k2, by rw [← evX_cong (fun t ht => hab t (.inl ht))]; exact k3, by rw [← xs_cong (fun t ht => hab t (.inr ht))]; exact k4⟩))
/-- What only looks comes to one value. -/
theorem MO.one {o : LO} {a : Fr} {h : Hp} {K : CV → Hp → Prop} (hc : o.cls ≤ 1) (hm : MO P B w0 lim o a h K) : ∃ v, K v h ∧ (∀ K', K' v h → MO P B w0 lim o a h K') ∧ (o.cls = 0 → ∀ h2 K', K' v h2 → MO P B w0 lim o a h2 K') := by
  rcases hm with ⟨v, h', k1, k2⟩ | ⟨f, xs, rfl, k2⟩ | ⟨f, xs, v, rfl, k2, k3, k4⟩ | ⟨x, xs, f, cs, rfl, k2, k3, k4⟩
  · have e := cls1_same hc k1
    subst e
    exact ⟨v, k2, fun K' hk => .inl ⟨v, _, k1, hk⟩, fun h0 h2 K' hk => .inl ⟨v, h2, cls0_any h0 k1 h2, hk⟩⟩
  · simp [LO.cls] at hc
  · exact ⟨v, k4, fun K' hk => .inr (.inr (.inl ⟨f, xs, v, rfl, k2, k3, hk⟩)), fun h0 => by simp [LO.cls] at h0⟩
  · simp [LO.cls] at hc
theorem MO.det {o : LO} {a : Fr} {h h2 : Hp} {v : CV} {K : CV → Hp → Prop} (hc : o.cls = 0) (h1 : ∀ K' : CV → Hp → Prop, K' v h → MO P B w0 lim o a h K') (hm : MO P B w0 lim o a h2 K) : K v h2 := by
  obtain ⟨u, k1, _, k3⟩ := hm.one (by omega)
  have e1 := h1 (fun v' h' => v' = v ∧ h' = h) ⟨rfl, rfl⟩
  have e2 := k3 hc h (fun v' h' => v' = u ∧ h' = h) ⟨rfl, rfl⟩
  have g : ∀ {x : CV}, MO P B w0 lim o a h (fun v' h' => v' = x ∧ h' = h) → ∃ q, evO nc lim o a h = some (q, h) ∧ q = x := by
    intro x hm
    rcases hm with ⟨v', h', k1, k2, k3⟩ | ⟨f, xs, rfl, k2⟩ | ⟨f, xs, v, rfl, k2, k3, k4⟩ | ⟨x, xs, f, cs, rfl, k2, k3, k4⟩
    · subst k3; exact ⟨v', k1, k2⟩
    · simp [LO.cls] at hc
    · simp [LO.cls] at hc
    · simp [LO.cls] at hc
  obtain ⟨q1, a1, rfl⟩ := g e1
  obtain ⟨q2, a2, rfl⟩ := g e2
  rw [a1] at a2; injection a2 with a2; injection a2 with a2 _; subst a2
  exact k1
theorem MO.good {pf : FuncId → Bool} {ρ : Lo} {a : Fr} {h : Hp} {act : Act} {w : World} {o : Oper} {lo : LO} {K : CV → Hp → Prop} (hc : lOp P pf o.op = some lo) (ha : AR ρ a act.tmps) (hr : Rel B w0 ρ h w) (hm : MO P B w0 lim lo a h K) : GoodK P B w0 o act ρ w lim h K := by
  rcases hm with ⟨v, h', k1, k2⟩ | ⟨f, xs, rfl, k2⟩ | ⟨f, xs, v, rfl, k2, k3, k4⟩ | ⟨x, xs, f, cs, rfl, k2, k3, k4⟩
  · intro next Q hn
    exact evO_sound hc ha hr k1 next Q fun v' ρ' w' q1 q2 q3 => hn v h' v' ρ' w' q1 q2 q3 (evO_keeps k1) k2
  · obtain ⟨c, h1, h2, h3, h4⟩ := lOp_call hc
    exact good_call h1 h2 h3 h4 ha hr k2.2
  · obtain ⟨c, h1, h2, h3, h4⟩ := lOp_call hc
    exact good_pure h1 h2 h3 h4 ha hr k3.2 k2 k4
  · obtain ⟨c, t, h1, rfl, h2, h3⟩ := lOp_callv hc
    exact good_callv h1 h2 k2 h3 ha hr k3 k4.2
/-- Operation by operation, in the order of the tree. -/
def TM (P : Program) (B : Nat) (w0 : World) (lim : Nat) : OT → Fr → Hp → (Fr → Hp → Prop) → Prop
  | .nil, a, h, Q => Q a h
  | .op o r, a, h, Q => if wantedL a o.g = true then MO P B w0 lim o.o a h (fun v h' => TM P B w0 lim r (upd a o.d v) h' Q) else TM P B w0 lim r (upd a o.d un) h Q
  | .alt s t, a, h, Q => TM P B w0 lim s a h Q ∧ TM P B w0 lim t a h Q
  | .bad, _, _, _ => False
/-- One operation of a region. -/
theorem lOper_sound {ops : Array Oper} {o : Oper} {lo : LOper} (hc : lOper P pf nt ops o = some lo) {ρ : Lo} {a : Fr} {h : Hp} {act : Act} {w : World} (hs : Stt B w0 nt ρ a h act w) {R : Fr → Hp → Prop}
    (he : if wantedL a lo.g = true then MO P B w0 lim lo.o a h (fun v h' => R (upd a lo.d v) h') else R (upd a lo.d un) h) {next : Act → World → Prop} {Q : Exit → Act → World → Prop}
    (hn : ∀ ρ' a' h' act' w', Ext ρ ρ' → Stt B w0 nt ρ' a' h' act' w' → Keeps lim h h' → R a' h' → next act' w') :
    if Region.wanted o (yielded ops act.tmps) then o.wp P act w next Q else next (act.put o.dst undef) w := by
  unfold lOper at hc
  split at hc
  · rename_i hd
    obtain ⟨x, h1, hc⟩ := Option.bind_eq_some_iff.1 hc
    obtain ⟨g, h2, rfl⟩ := Option.map_eq_some_iff.1 hc
    rw [wanted_sound hs.ar h2]
    simp only at he
    split
    · rename_i hw
      rw [if_pos hw] at he
      exact he.good h1 hs.ar hs.rel next Q fun v h' v' ρ' w' q1 q2 q3 q4 q5 => hn ρ' _ _ _ w' q1 (hs.put hd q1 q2 q3) q4 q5
    · rename_i hw
      rw [if_neg hw] at he
      exact hn ρ _ _ _ w (Ext.refl _) (hs.put hd (Ext.refl _) (VR_un _) hs.rel) (Keeps.refl _ _) he
  · cases hc
/-- A region whose order is the text's. -/
theorem evOps_sound {ops : Array Oper} : ∀ {l : List Oper} {ll : List LOper}, lOps P pf nt ops l = some ll → ∀ {ρ : Lo} {a : Fr} {h : Hp} {act : Act} {w : World}, Stt B w0 nt ρ a h act w →
    ∀ {R : Fr → Hp → Prop}, TM P B w0 lim (OT.ofL ll) a h R → ∀ {Q : Exit → Act → World → Prop}, (∀ ρ' a' h' act' w', Ext ρ ρ' → Stt B w0 nt ρ' a' h' act' w' → Keeps lim h h' → R a' h' → Q .normal act' w') → wpList P ops Q l act w
  | [], ll, hl, ρ, a, h, act, w, hs, R, he, Q, hQ => by
    injection hl with hl; subst hl
    exact wpList_nil (hQ ρ a h act w (Ext.refl _) hs (Keeps.refl _ _) he)
  | o :: r, ll, hl, ρ, a, h, act, w, hs, R, he, Q, hQ => by
    unfold lOps at hl
    obtain ⟨x, h1, hl⟩ := Option.bind_eq_some_iff.1 hl
    obtain ⟨q, h2, rfl⟩ := Option.map_eq_some_iff.1 hl
    unfold OT.ofL TM at he
    refine wpList_step fun K hK => lOper_sound (R := fun a1 h1 => TM P B w0 lim (OT.ofL q) a1 h1 R) h1 hs he fun ρ' a' h' act' w' q1 q2 q3 q4 => hK _ _ ?_
    exact evOps_sound h2 q2 q4 fun ρ'' a'' h'' act'' w'' r1 r2 r3 r4 => hQ ρ'' a'' h'' act'' w'' (q1.trans r1) r2 (q3.trans r3) r4
end
end Go.E
