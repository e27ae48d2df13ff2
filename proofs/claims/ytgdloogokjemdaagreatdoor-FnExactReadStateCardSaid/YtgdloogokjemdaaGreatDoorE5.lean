/- From the model's operations to the evaluator's, and that each is right. Plain lemmas; no condition. -/
import Derived.Test.YtgdloogokjemdaaGreatDoorEX
set_option linter.unusedVariables false
set_option linter.unusedSimpArgs false
namespace Go.E
open Go Go.RowKit

def lParts (place : Nat → Option (Nat × Nat)) : List (Nat × Operand) → Option (List (Nat × Nat × X))
  | [] => some []
  | (i, x) :: r => (place i).bind fun p => (lX x).bind fun y => (lParts place r).map fun q => (p.1, p.2, y) :: q
def lPlaces (P : Program) (fields : Array Field) : Option (List (Nat × Nat)) := fields.toList.mapM fun f => (P.info? f.type).map fun i => (f.offset, i.size)
def callable (P : Program) (f : FuncId) : Bool := match P.funcs[f]? with | some fn => !(fn.name == "runtime.NumGoroutine") && fn.body.isSome | none => false
def lCall (P : Program) (pf : FuncId → Bool) (c : Go.Call) : Option LO :=
  match c.callee with
  | .builtin .len => match c.args.toList, c.argTypes.toList with
    | [x], [t] => match P.underlying t with
      | some .string => (lX x).map .slen
      | some (.slice _) => (lX x).map .len
      | _ => none
    | _, _ => none
  | .builtin .append => match c.args.toList, c.argTypes.toList with
    | [x, y], [t, t'] => if t = t' then match P.underlying t with
      | some (.slice e) => (P.info? e).bind fun i => (zeroT P e).bind fun _ => if 0 < i.bytes then (lX x).bind fun x => (lX y).map fun y => .app e i.size i.bytes x y else none
      | _ => none
      else none
    | _, _ => none
  | .builtin .min => (lXs c.args.toList).map (.mnmx false)
  | .builtin .max => (lXs c.args.toList).map (.mnmx true)
  | .value (.func f) => match xkFn P f with
    | some k => (lXs c.args.toList).map (.xop k)
    | none => if callable P f then (lXs c.args.toList).map (.call (pf f) f) else none
  | .value (.tmp t) => (lXs c.args.toList).map (.callv (.t t))
  | _ => none
def isEqNe (op : BinOp) : Bool := match op with | .eql => true | .neq => true | _ => false
def isNe (op : BinOp) : Bool := match op with | .neq => true | _ => false
def lOp (P : Program) (pf : FuncId → Bool) (o : Op) : Option LO :=
  match o with
  | .move x => (lX x).map .mv
  | .assign x => (lX x).map .mv
  | .pick c x y => (lX c).bind fun c => (lX x).bind fun x => (lX y).map fun y => .pick c x y
  | .box ty x => (lX x).map (.box ty)
  | .alloc ty => (zeroT P ty).map (.alloc ty)
  | .build t parts => match P.underlying t with
    | some (.struct fields) => (lPlaces P fields).bind fun pl => (zeroT P t).bind fun z => (lParts (pl.toArray[·]?) parts.toList).map (.build z)
    | _ => none
  | .buildSlice t len parts => match P.underlying t with
    | some (.slice e) => (P.info? e).bind fun i => (zeroT P e).bind fun z => if len * i.size ≤ 16777216 then (lParts (fun j => some (j * i.size, i.size)) parts.toList).map (.lit e i.size len (List.replicate len z).flatten) else none
    | _ => none
  | .makeSlice t l c => match P.underlying t with
    | some (.slice e) => (P.info? e).bind fun i => (zeroT P e).bind fun z => if 0 < i.bytes then (lX l).bind fun l => (lX c).map fun c => .make e i.size i.bytes z l c else none
    | _ => none
  | .load t x => (aggT P t).bind fun ag => (szT P t).bind fun n => if ag = true ∨ n = 1 then (lX x).map (.load ag n) else none
  | .store t x y => (szT P t).bind fun n => (lX x).bind fun x => (lX y).map fun y => .store n x y
  | .nilCheck x => (lX x).map .nilck
  | .binOp op t x y _ => match P.underlying t with
    | some .bool => if isEqNe op = true then (lX x).bind fun x => (lX y).map fun y => .beq (isNe op) x y else none
    | some (.int _) => (lX x).bind fun x => (lX y).map fun y => .bin op x y
    | some (.float _) => (lX x).bind fun x => (lX y).map fun y => .bin op x y
    | some .string => (lX x).bind fun x => (lX y).map fun y => .bin op x y
    | _ => none
  | .unOp op _ x => (lX x).map (.una op)
  | .convert s d x => if (P.underlying s).isSome then match P.underlying d with
    | some (.int k) => (lX x).map (.toint k)
    | some (.float k) => (lX x).map (.toflt k)
    | some .string => match P.underlying s with
      | some (.slice e) => match P.underlying e with
        | some (.int .u8) => (lX x).map .tostr
        | _ => none
      | _ => none
    | _ => none
    else none
  | .slice t x lo hi none => match P.underlying t with
    | some (.slice e) => (szT P e).bind fun n => if 0 < n then (lX x).bind fun x => (lXo lo).bind fun lo => (lXo hi).map fun hi => .slice n x lo hi else none
    | some .string => (lX x).bind fun x => (lXo lo).bind fun lo => (lXo hi).map fun hi => .sstr x lo hi
    | _ => none
  | .fieldAddr t x i => match P.underlying t with
    | some (.struct fields) => match fields[i]? with
      | some f => (szT P f.type).bind fun n => if n ≠ 0 then (lX x).map (.faddr f.offset) else none
      | none => none
    | _ => none
  | .field t x i => match P.underlying t with
    | some (.struct fields) => match fields[i]? with
      | some f => (szT P f.type).bind fun n => (aggT P f.type).bind fun ag => if ag = true ∨ n = 1 then (lX x).map (.field ag f.offset n) else none
      | none => none
    | _ => none
  | .indexAddr t x i => match P.underlying t with
    | some (.slice e) => (szT P e).bind fun n => (lX x).bind fun x => (lX i).map fun i => .iaddr n x i
    | _ => none
  | .index t x i => match P.underlying t with
    | some .string => (lX x).bind fun x => (lX i).map fun i => .idx x i
    | _ => none
  | .extract x i => (lX x).map fun x => .ext x i
  | .makeFunc (.func f) first captured => if first.toList.isEmpty then (lXs captured.toList).map (.mkf f) else none
  | .call c => lCall P pf c
  | _ => none

section
variable {P : Program} {B : Nat} {w0 w : World} {ρ : Lo} {h h' : Hp} {a : Fr} {act : Act} {o : Oper} {v : CV}
theorem lParts_spec {place : Nat → Option (Nat × Nat)} : ∀ {ps : List (Nat × Operand)} {qs : List (Nat × Nat × X)}, lParts place ps = some qs →
    ∀ k : Nat, match ps[k]?, qs[k]? with | some p, some q => place p.1 = some (q.1, q.2.1) ∧ lX p.2 = some q.2.2 | none, none => True | _, _ => False
  | [], qs, h, k => by injection h with h; subst h; simp
  | (i, x) :: r, qs, h, k => by
    unfold lParts at h
    obtain ⟨p, h1, h2⟩ := Option.bind_eq_some_iff.1 h
    obtain ⟨y, h3, h4⟩ := Option.bind_eq_some_iff.1 h2
    obtain ⟨q, h5, rfl⟩ := Option.map_eq_some_iff.1 h4
    cases k with
    | zero => simpa using ⟨h1, h3⟩
    | succ k => simpa using lParts_spec h5 k

theorem capR.back {ρ ρ' : Lo} (he : Ext ρ ρ') : ∀ {cs : List (Nat × Nat)} {vs us : List Value}, capR ρ' cs vs → capR ρ cs us → capR ρ cs vs
  | [], _, _, h, _ => h
  | (id, off) :: r, _, _, h, k => by
    obtain ⟨l, v, vs', h1, h2, rfl, h4⟩ := h
    obtain ⟨l2, v2, us', k1, k2, rfl, k4⟩ := k
    have := he.get k1
    rw [h1] at this; injection this with this; subst this
    exact ⟨l, v, vs', k1, h2, rfl, capR.back he h4 k4⟩
theorem LR.back {ρ ρ' : Lo} (he : Ext ρ ρ') {x : Lf} {v u : Value} (h : LR ρ' x v) (k : LR ρ x u) : LR ρ x v := by
  cases x <;> simp only [LR] at h k ⊢ <;> try exact h
  · obtain ⟨l, h1, h2⟩ := h
    obtain ⟨l2, k1, k2⟩ := k
    have := he.get k1
    rw [h1] at this; injection this with this; subst this
    exact ⟨l, k1, h2⟩
  · obtain ⟨l, A, cap, h1, h2⟩ := h
    obtain ⟨l2, A2, cap2, k1, k2⟩ := k
    have := he.get k1
    rw [h1] at this; injection this with this; subst this
    exact ⟨l, A, cap, k1, h2⟩
  · obtain ⟨vs, h1, h2⟩ := h
    obtain ⟨us, k1, k2⟩ := k
    exact ⟨vs, h1, h2.back he k2⟩
theorem LR.plain_back {ρ ρ' : Lo} {x : Lf} {v : Value} (h : LR ρ' x v) (hp : x.plain = true) : LR ρ x v := by
  cases x <;> simp [Lf.plain] at hp <;> exact h
theorem LRs.plain_back {ρ ρ' : Lo} : ∀ {ls : List Lf} {vs : List Value}, LRs ρ' ls vs → ls.all Lf.plain = true → LRs ρ ls vs
  | [], _, h, _ => h
  | l :: ls, _, h, hp => by
    obtain ⟨v, vs', rfl, h2, h3⟩ := h
    simp at hp
    exact ⟨v, vs', rfl, h2.plain_back hp.1, LRs.plain_back h3 (by simpa using hp.2)⟩
theorem TR.plain_back {ρ ρ' : Lo} {x : TV} {v : Value} (h : TR ρ' x v) (hp : x.plain = true) : TR ρ x v := by
  cases x with
  | lf l => exact LR.plain_back (ρ := ρ) (show LR ρ' l v from h) hp
  | agg ls => obtain ⟨vs, h1, h2⟩ := h; exact ⟨vs, h1, h2.plain_back hp⟩
theorem TRs.plain_back {ρ ρ' : Lo} : ∀ {ls : List TV} {vs : List Value}, TRs ρ' ls vs → ls.all TV.plain = true → TRs ρ ls vs
  | [], _, h, _ => h
  | l :: ls, _, h, hp => by
    obtain ⟨v, vs', rfl, h2, h3⟩ := h
    simp at hp
    exact ⟨v, vs', rfl, h2.plain_back hp.1, TRs.plain_back h3 (by simpa using hp.2)⟩
theorem VR.plain_back {ρ ρ' : Lo} {x : CV} {v : Value} (h : VR ρ' x v) (hp : x.plain = true) : VR ρ x v := by
  cases x with
  | lf l => exact LR.plain_back (ρ := ρ) (show LR ρ' l v from h) hp
  | agg ls => obtain ⟨vs, h1, h2⟩ := h; exact ⟨vs, h1, h2.plain_back hp⟩
  | tup ts => obtain ⟨vs, h1, h2⟩ := h; exact ⟨vs, h1, h2.plain_back hp⟩
/-- What was made since is forgotten. -/
theorem Rel.restrict {ρ' : Lo} {h1 : Hp} {w' : World} (hr : Rel B w0 ρ h w) (hr' : Rel B w0 ρ' h1 w') (he : Ext ρ ρ') (hsame : ∀ id, id < h.length → h1[id]? = h[id]?) : Rel B w0 ρ h w' := by
  have old : ∀ (id : Nat) (ob : Ob) (l : Loc), h[id]? = some ob → ρ[id]? = some l → h1[id]? = some ob ∧ ρ'[id]? = some l := fun id ob l q1 q2 =>
    ⟨by rw [hsame id (List.getElem?_eq_some_iff.1 q1).1]; exact q1, he.get q2⟩
  refine ⟨hr.len, hr'.below, hr'.base, ?_, ?_⟩
  · intro id ob l q1 q2
    obtain ⟨r1, r2⟩ := old id ob l q1 q2
    have h0 := hr.obs id ob l q1 q2
    have h2 := hr'.obs id ob l r1 r2
    unfold OR at h0 h2 ⊢
    split
    · rename_i e; rw [e] at h0 h2
      obtain ⟨_, _, _, _, arr0, _, _, _, s8⟩ := h0
      obtain ⟨k1, k2, k3, k4, arr, k5, k6, k7, k8⟩ := h2
      refine ⟨k1, k2, k3, k4, arr, k5, k6, k7, fun j x hx => ?_⟩
      obtain ⟨u, p1, p2⟩ := k8 j x hx
      obtain ⟨u0, _, p4⟩ := s8 j x hx
      exact ⟨u, p1, p2.back he p4⟩
    · rename_i e; rw [e] at h0 h2
      obtain ⟨_, _, s3⟩ := h0
      obtain ⟨k1, k2, k3⟩ := h2
      refine ⟨k1, k2, fun j x hx => ?_⟩
      obtain ⟨u, p1, p2⟩ := k3 j x hx
      obtain ⟨u0, _, p4⟩ := s3 j x hx
      exact ⟨u, p1, p2.back he p4⟩
    · trivial
  · intro i j oi oj li lj hi hj hli hlj
    obtain ⟨a1, a2⟩ := old i oi li hi hli
    obtain ⟨b1, b2⟩ := old j oj lj hj hlj
    exact hr'.inj i j oi oj li lj a1 b1 a2 b2

/-- What lies below the limit stays. -/
def Keeps (lim : Nat) (h h' : Hp) : Prop := h.length ≤ h'.length ∧ ∀ id, id < lim → id < h.length → h'[id]? = h[id]?
/-- What the model's call comes to. -/
def MCall (P : Program) (B : Nat) (w0 : World) (f : FuncId) (args : List CV) (h : Hp) (lim : Nat) (K : CV → Hp → Prop) : Prop := ∀ (ρ : Lo) (vs : List Value) (w : World), VRs ρ args vs → Rel B w0 ρ h w →
  Calls P f vs.toArray w fun e w' => ∃ v v' ρ' h', e = .returned v' ∧ Ext ρ ρ' ∧ VR ρ' v v' ∧ Rel B w0 ρ' h' w' ∧ Keeps lim h h' ∧ K v h'
/-- What is said of one operation, the outcome being of several kinds. -/
def GoodK (P : Program) (B : Nat) (w0 : World) (o : Oper) (act : Act) (ρ : Lo) (w : World) (lim : Nat) (h : Hp) (K : CV → Hp → Prop) : Prop :=
  ∀ (next : Act → World → Prop) (Q : Exit → Act → World → Prop), (∀ v h' v' ρ' w', Ext ρ ρ' → VR ρ' v v' → Rel B w0 ρ' h' w' → Keeps lim h h' → K v h' → next (act.put o.dst v') w') → o.wp P act w next Q
/-- What is asked of a way to call from outside. -/
structure CallOK (P : Program) (B : Nat) (w0 : World) (call : Call) : Prop where
  sound : ∀ (f : FuncId) (args : List CV) (h : Hp) (lim : Nat) (v : CV) (h' : Hp), call f args h lim = some (v, h') → ∀ (ρ : Lo) (vs : List Value) (w : World), VRs ρ args vs → Rel B w0 ρ h w →
    Calls P f vs.toArray w fun e w' => ∃ v' ρ', e = .returned v' ∧ Ext ρ ρ' ∧ VR ρ' v v' ∧ Rel B w0 ρ' h' w'
  keeps : ∀ (f : FuncId) (args : List CV) (h : Hp) (lim : Nat) (v : CV) (h' : Hp), call f args h lim = some (v, h') → h.length ≤ h'.length ∧ ∀ id, id < lim → id < h.length → h'[id]? = h[id]?
theorem callable_spec {f : FuncId} (hf : callable P f = true) : ∃ fn, P.funcs[f]? = some fn ∧ ¬ fn.name = "runtime.NumGoroutine" ∧ ¬ fn.body = none := by
  unfold callable at hf
  split at hf
  · rename_i fn hfn
    simp at hf
    obtain ⟨b, hb⟩ := Option.isSome_iff_exists.1 hf.2
    exact ⟨fn, hfn, hf.1, by simp [hb]⟩
  · cases hf
theorem good_call {K : CV → Hp → Prop} {c : Go.Call} {f : FuncId} {xs : List X} {lim : Nat} (hop : o.op = .call c) (hc : c.callee = .value (.func f)) (hf : callable P f = true) (hxs : lXs c.args.toList = some xs)
    (ha : AR ρ a act.tmps) (hr : Rel B w0 ρ h w) (hcall : MCall P B w0 f (xs.map (evX a)) h lim K) : GoodK P B w0 o act ρ w lim h K := by
  intro next Q hn
  have hargs := lXs_sound ha hxs
  have hs := hcall ρ _ w hargs hr
  obtain ⟨fn, hfn, hf1, hf2⟩ := callable_spec hf
  have hrun : (execOp act.eval o).run P w = .ok (.enter f (c.args.toList.map act.eval).toArray) w := by
    rw [← Array.toList_map, Array.toArray_toList]
    simp [execOp, hop, resolve, hc, Act.eval, Deferred.ofValue, invoke, callFunc, hfn, hf1, hf2]
  unfold Oper.wp
  rw [hrun, Oper.upon_enter]
  refine hs.mono fun e w' ⟨v, v', ρ', h', he, k1, k2, k3, k4, k5⟩ => ?_
  subst he
  exact hn v h' v' ρ' w' k1 k2 k3 k4 k5
theorem good_pure {K : CV → Hp → Prop} {c : Go.Call} {f : FuncId} {xs : List X} {lim : Nat} (hop : o.op = .call c) (hc : c.callee = .value (.func f)) (hf : callable P f = true) (hxs : lXs c.args.toList = some xs)
    (ha : AR ρ a act.tmps) (hr : Rel B w0 ρ h w) (hcall : MCall P B w0 f (xs.map (evX a)) h h.length fun u _ => u = v) (hp : v.plain = true) (hk : K v h) : GoodK P B w0 o act ρ w lim h K := by
  intro next Q hn
  refine good_call hop hc hf hxs ha hr hcall next Q fun v1 h1 v' ρ' w' k1 k2 k3 k4 k5 => ?_
  subst k5
  exact hn v1 h v' ρ w' (Ext.refl _) (k2.plain_back hp) (hr.restrict k3 k1 fun id hid => k4.2 id hid hid) ⟨Nat.le_refl _, fun _ _ _ => rfl⟩ hk
theorem ptrs_sound {ρ : Lo} : ∀ {cs : List (Nat × Nat)} {vs : List Value}, capR ρ cs vs → VRs ρ (ptrs cs) vs
  | [], vs, h => h
  | (id, off) :: r, vs, h => by
    obtain ⟨l, v, vs', h1, h2, rfl, h4⟩ := h
    exact ⟨v, vs', rfl, ⟨l, h1, h2⟩, ptrs_sound h4⟩
theorem capsL_sound {ρ : Lo} : ∀ {xs : List CV} {cs : List (Nat × Nat)} {vs : List Value}, capsL xs = some cs → VRs ρ xs vs → capR ρ cs vs
  | [], cs, vs, h, hv => by injection h with h; subst h; exact hv
  | x :: r, cs, vs, h, hv => by
    obtain ⟨v, vs', rfl, h2, h3⟩ := hv
    unfold capsL at h
    split at h
    · rename_i e; cases e
    · rename_i id off r' e
      injection e with e1 e2; subst e1; subst e2
      obtain ⟨q, k1, rfl⟩ := Option.map_eq_some_iff.1 h
      obtain ⟨l, h4, h5⟩ := h2
      exact ⟨l, v, vs', h4, h5, rfl, capsL_sound k1 h3⟩
    · cases h
theorem VRs.app {ρ : Lo} : ∀ {xs ys : List CV} {us vs : List Value}, VRs ρ xs us → VRs ρ ys vs → VRs ρ (xs ++ ys) (us ++ vs)
  | [], _, _, _, h1, h2 => by simp only [VRs] at h1; subst h1; simpa using h2
  | x :: xs, _, _, _, h1, h2 => by obtain ⟨v, vs', rfl, k1, k2⟩ := h1; exact ⟨v, vs' ++ _, rfl, k1, VRs.app k2 h2⟩
theorem good_mkf {f : FuncId} {captured : Array Operand} {first : Array Operand} {xs : List X} {cs : List (Nat × Nat)} (hop : o.op = .makeFunc (.func f) first captured) (h0 : first.toList.isEmpty = true) (hxs : lXs captured.toList = some xs) (ha : AR ρ a act.tmps) (hr : Rel B w0 ρ h w)
    (hv : capsL (xs.map (evX a)) = some cs) : Good P B w0 o act ρ w (.lf (.fn f cs)) h := by
  have hargs := lXs_sound ha hxs
  have h1 : first = #[] := Array.ext' (by simpa using h0)
  subst h1
  refine Good.same (v' := .func (.func f) #[] (captured.toList.map act.eval).toArray) ?_ ⟨_, rfl, capsL_sound hv hargs⟩ hr
  have e1 : (captured.toList.map act.eval).toArray = captured.map act.eval := by rw [← Array.toList_map, Array.toArray_toList]
  rw [e1]
  simp [execOp, hop, Instr.makeFunc]
theorem good_callv {K : CV → Hp → Prop} {c : Go.Call} {t : Nat} {f : FuncId} {cs : List (Nat × Nat)} {xs : List X} {lim : Nat} (hop : o.op = .call c) (hc : c.callee = .value (.tmp t)) (hf : callable P f = true) (hxs : lXs c.args.toList = some xs)
    (ha : AR ρ a act.tmps) (hr : Rel B w0 ρ h w) (he : a t = .lf (.fn f cs)) (hcall : MCall P B w0 f (xs.map (evX a) ++ ptrs cs) h lim K) : GoodK P B w0 o act ρ w lim h K := by
  intro next Q hn
  have hx := ha t
  rw [he] at hx
  obtain ⟨us, hx1, hx2⟩ := hx
  have hargs := (lXs_sound ha hxs).app (ptrs_sound hx2)
  have hs := hcall ρ _ w hargs hr
  obtain ⟨fn, hfn, hf1, hf2⟩ := callable_spec hf
  have hrun : (execOp act.eval o).run P w = .ok (.enter f (c.args.toList.map act.eval ++ us).toArray) w := by
    have e1 : (c.args.toList.map act.eval ++ us).toArray = c.args.map act.eval ++ us.toArray := by
      rw [← Array.toList_map]; simp
    rw [e1]
    have hx2 : act.tmps[t]?.getD undef = .func (.func f) #[] us.toArray := by rw [← hx1]; simp
    simp [hx2, execOp, hop, resolve, hc, Act.eval, hx1, Deferred.ofValue, invoke, callFunc, hfn, hf1, hf2]
  unfold Oper.wp
  rw [hrun, Oper.upon_enter]
  refine hs.mono fun e w' ⟨v, v', ρ', h', he, k1, k2, k3, k4, k5⟩ => ?_
  subst he
  exact hn v h' v' ρ' w' k1 k2 k3 k4 k5

theorem mnmx2_sound {mx : Bool} {x y : CV} {r : CV} {u u' : Value} (hx : VR ρ x u) (hy : VR ρ y u') (hv : mnmx2 mx x y = some r) (w : World) : ∃ q, (if mx then Builtin.max2 u u' else Builtin.min2 u u').run P w = .ok q w ∧ VR ρ r q := by
  unfold mnmx2 at hv
  split at hv
  · rename_i k n k' m
    split at hv
    · rename_i e; subst e
      injection hv with hv; subst hv
      have ex : u = .int k n := hx
      have ey : u' = .int k m := hy
      subst ex; subst ey
      cases mx
      · exact ⟨.int k (if m < n then m else n), by simp [Builtin.min2], rfl⟩
      · exact ⟨.int k (if n < m then m else n), by simp [Builtin.max2], rfl⟩
    · cases hv
  · rename_i k p k' q
    split at hv
    · rename_i e; subst e
      obtain ⟨b1, rfl, f1⟩ := hx
      obtain ⟨b2, rfl, f2⟩ := hy
      have ho : k.format.order b1 b2 = k.format.order p q := by rw [← f1.2, ← f2.2, order_can]
      have nn : k.format.order p q ≠ none → E.isNaN k p = false ∧ E.isNaN k q = false := by
        intro hne
        constructor
        · cases hn : E.isNaN k p
          · rfl
          · exact absurd (order_nan1 hn) hne
        · cases hn : E.isNaN k q
          · rfl
          · exact absurd (order_nan2 hn) hne
      split at hv
      · cases hv
      all_goals
        rename_i eo
        obtain ⟨n1, n2⟩ := nn (by rw [eo]; simp)
        have e1 := f1.eq_of_not n1
        have e2 := f2.eq_of_not n2
        subst e1; subst e2
        injection hv with hv; subst hv
        cases mx <;> refine ⟨_, by simp [Builtin.min2, Builtin.max2, eo]; rfl, ⟨_, rfl, ?_⟩⟩ <;> first | exact f1 | exact f2 | (simp only [Bool.false_eq_true, if_false, if_true]; split <;> first | exact f1 | exact f2)
    · cases hv
  · cases hv
theorem mnmx_fold {mx : Bool} : ∀ {ys : List CV} {us : List Value} {x r : CV} {u : Value}, VR ρ x u → VRs ρ ys us → ys.foldlM (mnmx2 mx) x = some r → ∀ w : World, ∃ q, (us.foldlM (if mx then Builtin.max2 else Builtin.min2) u).run P w = .ok q w ∧ VR ρ r q
  | [], us, x, r, u, hx, hy, hv, w => by
    have : us = [] := hy
    subst this
    simp at hv; subst hv
    exact ⟨u, by simp, hx⟩
  | y :: ys, us, x, r, u, hx, hy, hv, w => by
    obtain ⟨u', us', rfl, h1, h2⟩ := hy
    simp only [List.foldlM_cons, Option.bind_eq_bind] at hv
    obtain ⟨z, h3, h4⟩ := Option.bind_eq_some_iff.1 hv
    obtain ⟨q, k1, k2⟩ := mnmx2_sound (P := P) hx h1 h3 w
    obtain ⟨q2, k3, k4⟩ := mnmx_fold k2 h2 h4 w
    refine ⟨q2, ?_, k4⟩
    simp only [List.foldlM_cons, Sem.run_bind]
    have : ((if mx then Builtin.max2 else Builtin.min2) u u').run P w = .ok q w := by cases mx <;> exact k1
    rw [this]; exact k3
theorem good_mnmx {mx : Bool} {c : Go.Call} {xs : List X} (hop : o.op = .call c) (hc : c.callee = .builtin (if mx then .max else .min)) (hxs : lXs c.args.toList = some xs) (ha : AR ρ a act.tmps) (hr : Rel B w0 ρ h w)
    (hv : mnmxV mx (xs.map (evX a)) = some v) : Good P B w0 o act ρ w v h := by
  have hargs := lXs_sound ha hxs
  generalize xs.map (evX a) = vs at *
  cases vs with
  | nil => cases hv
  | cons x ys =>
    obtain ⟨u, us, e, h1, h2⟩ := hargs
    obtain ⟨q, k1, k2⟩ := mnmx_fold (P := P) h1 h2 hv w
    refine Good.same (v' := q) ?_ k2 hr
    have e' : (c.args.map act.eval).toList = u :: us := by rw [Array.toList_map]; exact e
    cases mx
    · simp only [execOp, hop, resolve, hc, invoke, builtin, Builtin.min_, e', Sem.run_bind, Sem.run_pure, Result.andThen_ok, Bool.false_eq_true, if_false] at k1 ⊢
      simp [k1]
    · simp only [execOp, hop, resolve, hc, invoke, builtin, Builtin.max_, e', Sem.run_bind, Sem.run_pure, Result.andThen_ok, if_true] at k1 ⊢
      simp [k1]

theorem evO_sound {pf : FuncId → Bool} {lim : Nat} {lo : LO} (hc : lOp P pf o.op = some lo) (ha : AR ρ a act.tmps) (hr : Rel B w0 ρ h w) (he : evO nc lim lo a h = some (v, h')) :
    Good P B w0 o act ρ w v h' := by
  cases hop : o.op <;> rw [hop] at hc <;> simp only [lOp, reduceCtorEq] at hc
  case move x =>
    obtain ⟨x', hx, rfl⟩ := Option.map_eq_some_iff.1 hc
    injection he with he; injection he with e1 e2; subst e1; subst e2
    exact good_move (.inl hop) hx ha hr
  case assign x =>
    obtain ⟨x', hx, rfl⟩ := Option.map_eq_some_iff.1 hc
    injection he with he; injection he with e1 e2; subst e1; subst e2
    exact good_move (.inr hop) hx ha hr
  case pick c x y =>
    obtain ⟨c', h1, hc⟩ := Option.bind_eq_some_iff.1 hc
    obtain ⟨x', h2, hc⟩ := Option.bind_eq_some_iff.1 hc
    obtain ⟨y', h3, rfl⟩ := Option.map_eq_some_iff.1 hc
    unfold evO at he; simp only at he
    split at he
    · rename_i b hb
      injection he with he; injection he with e1 e2; subst e1; subst e2
      exact good_pick hop h1 h2 h3 ha hr hb
    · cases he
  case box ty x =>
    obtain ⟨x', hx, rfl⟩ := Option.map_eq_some_iff.1 hc
    unfold evO at he; simp only at he
    obtain ⟨ls, h1, h2⟩ := Option.map_eq_some_iff.1 he
    injection h2 with e1 e2; subst e1; subst e2
    exact good_box hop hx ha hr h1
  case alloc ty =>
    obtain ⟨z, hz, rfl⟩ := Option.map_eq_some_iff.1 hc
    injection he with he; injection he with e1 e2; subst e1; subst e2
    exact good_alloc hop hz hr
  case build t parts =>
    split at hc
    · rename_i fields hu
      obtain ⟨pl, h1, hc⟩ := Option.bind_eq_some_iff.1 hc
      obtain ⟨z, h2, hc⟩ := Option.bind_eq_some_iff.1 hc
      obtain ⟨qs, h3, rfl⟩ := Option.map_eq_some_iff.1 hc
      unfold evO at he; simp only at he
      obtain ⟨rs, k1, he⟩ := Option.bind_eq_some_iff.1 he
      obtain ⟨cs, k2, k3⟩ := Option.map_eq_some_iff.1 he
      injection k3 with e1 e2; subst e1; subst e2
      exact good_build hop hu h1 h2 (lParts_spec h3) ha hr k1 k2
    · cases hc
  case buildSlice t len parts =>
    split at hc
    · rename_i e hu
      obtain ⟨i, h1, hc⟩ := Option.bind_eq_some_iff.1 hc
      obtain ⟨z, h2, hc⟩ := Option.bind_eq_some_iff.1 hc
      split at hc
      · rename_i hsm
        obtain ⟨qs, h3, rfl⟩ := Option.map_eq_some_iff.1 hc
        unfold evO at he; simp only at he
        obtain ⟨rs, k1, he⟩ := Option.bind_eq_some_iff.1 he
        obtain ⟨cs, k2, k3⟩ := Option.map_eq_some_iff.1 he
        injection k3 with e1 e2; subst e1; subst e2
        exact good_lit hop hu h1 h2 hsm (lParts_spec h3) ha hr k1 k2
      · cases hc
    · cases hc
  case makeSlice t l c =>
    split at hc
    · rename_i e hu
      obtain ⟨i, h1, hc⟩ := Option.bind_eq_some_iff.1 hc
      obtain ⟨z, h2, hc⟩ := Option.bind_eq_some_iff.1 hc
      split at hc
      · rename_i hbp
        obtain ⟨l', h3, hc⟩ := Option.bind_eq_some_iff.1 hc
        obtain ⟨c', h4, rfl⟩ := Option.map_eq_some_iff.1 hc
        unfold evO at he; simp only at he
        split at he
        · rename_i n m e1 e2
          split at he
          · rename_i hb
            obtain ⟨rfl, hb0, hb1⟩ := hb
            injection he with he; injection he with e3 e4; subst e3; subst e4
            exact good_make hop hu h1 h2 h3 h4 ha hr e1 e2 hb0 hb1 hbp
          · cases he
        · cases he
      · cases hc
    · cases hc
  case load t x =>
    obtain ⟨ag, h1, hc⟩ := Option.bind_eq_some_iff.1 hc
    obtain ⟨n, h2, hc⟩ := Option.bind_eq_some_iff.1 hc
    split at hc
    · rename_i hor
      obtain ⟨x', hx, rfl⟩ := Option.map_eq_some_iff.1 hc
      unfold evO at he; simp only at he
      split at he
      · rename_i id off e1
        obtain ⟨ls, k1, k2⟩ := Option.map_eq_some_iff.1 he
        injection k2 with e2 e3; subst e2; subst e3
        exact good_load hop hx h1 h2 (fun e => hor.resolve_left (by rw [e]; simp)) ha hr e1 k1
      · cases he
    · cases hc
  case store t x y =>
    obtain ⟨n, h1, hc⟩ := Option.bind_eq_some_iff.1 hc
    obtain ⟨x', h2, hc⟩ := Option.bind_eq_some_iff.1 hc
    obtain ⟨y', h3, rfl⟩ := Option.map_eq_some_iff.1 hc
    unfold evO at he; simp only at he
    split at he
    · rename_i id off ls e1 e2
      split at he
      · rename_i hn
        obtain ⟨h2', k1, k2⟩ := Option.map_eq_some_iff.1 he
        injection k2 with e3 e4; subst e3; subst e4
        exact good_store hop h2 h3 h1 ha hr e1 e2 hn k1
      · cases he
    · cases he
  case nilCheck x =>
    obtain ⟨x', hx, rfl⟩ := Option.map_eq_some_iff.1 hc
    unfold evO at he; simp only at he
    split at he
    · rename_i id off e1
      injection he with he; injection he with e2 e3; subst e2; subst e3
      exact good_nilck hop hx ha hr e1
    · cases he
  case binOp op t x y ty =>
    split at hc
    · rename_i hu
      split at hc
      · rename_i hq
        obtain ⟨x', h2, hc⟩ := Option.bind_eq_some_iff.1 hc
        obtain ⟨y', h3, rfl⟩ := Option.map_eq_some_iff.1 hc
        unfold evO at he; simp only at he
        split at he
        · rename_i p q e1 e2
          injection he with he; injection he with e3 e4; subst e3; subst e4
          have ho : op = .eql ∨ op = .neq := by cases op <;> simp [isEqNe] at hq <;> simp
          have := good_beq hop ho hu h2 h3 ha hr e1 e2
          rcases ho with rfl | rfl <;> exact this
        · cases he
      · cases hc
    all_goals first | (cases hc; done) | skip
    all_goals
      rename_i hu
      obtain ⟨x', h2, hc⟩ := Option.bind_eq_some_iff.1 hc
      obtain ⟨y', h3, rfl⟩ := Option.map_eq_some_iff.1 hc
      unfold evO at he; simp only at he
      obtain ⟨v', k1, k2⟩ := Option.map_eq_some_iff.1 he
      injection k2 with e3 e4; subst e3; subst e4
      exact good_bin hop (by unfold plainT; rw [hu]) h2 h3 ha hr k1
  case unOp op t x =>
    obtain ⟨x', hx, rfl⟩ := Option.map_eq_some_iff.1 hc
    unfold evO at he; simp only at he
    obtain ⟨v', k1, k2⟩ := Option.map_eq_some_iff.1 he
    injection k2 with e3 e4; subst e3; subst e4
    exact good_una hop hx ha hr k1
  case convert s d x =>
    split at hc
    · rename_i hs
      split at hc
      · rename_i k hd
        obtain ⟨x', hx, rfl⟩ := Option.map_eq_some_iff.1 hc
        unfold evO at he; simp only at he
        obtain ⟨v', k1, k2⟩ := Option.map_eq_some_iff.1 he
        injection k2 with e3 e4; subst e3; subst e4
        exact good_toint hop hs hd hx ha hr k1
      · rename_i k hd
        obtain ⟨x', hx, rfl⟩ := Option.map_eq_some_iff.1 hc
        unfold evO at he; simp only at he
        obtain ⟨v', k1, k2⟩ := Option.map_eq_some_iff.1 he
        injection k2 with e3 e4; subst e3; subst e4
        exact good_toflt hop hs hd hx ha hr k1
      · rename_i hd
        split at hc
        · rename_i e hu
          split at hc
          · rename_i hk
            obtain ⟨x', hx, rfl⟩ := Option.map_eq_some_iff.1 hc
            unfold evO at he; simp only at he
            obtain ⟨⟨m, cs⟩, k1, he⟩ := Option.bind_eq_some_iff.1 he
            obtain ⟨bs, k2, k3⟩ := Option.map_eq_some_iff.1 he
            injection k3 with e3 e4; subst e3; subst e4
            exact good_tostr hop hu hk hd hx ha hr k1 k2
          · cases hc
        · cases hc
      · cases hc
    · cases hc
  case slice t x lo hi mx =>
    cases mx <;> simp only [lOp, reduceCtorEq] at hc
    split at hc
    · rename_i e hu
      obtain ⟨n, h1, hc⟩ := Option.bind_eq_some_iff.1 hc
      split at hc
      · rename_i h0
        obtain ⟨x', h2, hc⟩ := Option.bind_eq_some_iff.1 hc
        obtain ⟨lo', h3, hc⟩ := Option.bind_eq_some_iff.1 hc
        obtain ⟨hi', h4, rfl⟩ := Option.map_eq_some_iff.1 hc
        unfold evO at he; simp only at he
        split at he
        · rename_i e1
          obtain ⟨hh, k1, he⟩ := Option.bind_eq_some_iff.1 he
          obtain ⟨ll, k2, he⟩ := Option.bind_eq_some_iff.1 he
          split at he
          · rename_i hz
            rw [hz.1] at k2; rw [hz.2] at k1
            injection he with he; injection he with e3 e4; subst e3; subst e4
            exact good_slice_nil hop hu h1 h2 h3 h4 ha hr e1 k1 k2
          · cases he
        · rename_i id off m sz' e1
          obtain ⟨hh, k1, he⟩ := Option.bind_eq_some_iff.1 he
          obtain ⟨ll, k2, he⟩ := Option.bind_eq_some_iff.1 he
          split at he
          · rename_i hz
            obtain ⟨z1, z2, z4, z3⟩ := hz
            injection he with he; injection he with e3 e4; subst e3; subst e4
            rw [z4] at e1
            exact good_slice hop hu h1 h0 h2 h3 h4 ha hr e1 k1 k2 z1 z2
          · cases he
        · cases he
      · cases hc
    · rename_i hu
      obtain ⟨x', h2, hc⟩ := Option.bind_eq_some_iff.1 hc
      obtain ⟨lo', h3, hc⟩ := Option.bind_eq_some_iff.1 hc
      obtain ⟨hi', h4, rfl⟩ := Option.map_eq_some_iff.1 hc
      unfold evO at he; simp only at he
      split at he
      · rename_i s e1
        obtain ⟨hh, k1, he⟩ := Option.bind_eq_some_iff.1 he
        obtain ⟨ll, k2, he⟩ := Option.bind_eq_some_iff.1 he
        split at he
        · rename_i hz
          injection he with he; injection he with e3 e4; subst e3; subst e4
          exact good_sstr hop hu h2 h3 h4 ha hr e1 k1 k2 hz.1 hz.2
        · cases he
      · cases he
    · cases hc
  case fieldAddr t x i =>
    split at hc
    · rename_i fields hu
      split at hc
      · rename_i f hf
        obtain ⟨n, h1, hc⟩ := Option.bind_eq_some_iff.1 hc
        split at hc
        · rename_i h0
          obtain ⟨x', hx, rfl⟩ := Option.map_eq_some_iff.1 hc
          unfold evO at he; simp only at he
          split at he
          · rename_i id off e1
            injection he with he; injection he with e3 e4; subst e3; subst e4
            exact good_faddr hop hu hf h1 h0 hx ha hr e1
          · cases he
        · cases hc
      · cases hc
    · cases hc
  case field t x i =>
    split at hc
    · rename_i fields hu
      split at hc
      · rename_i f hf
        obtain ⟨n, h1, hc⟩ := Option.bind_eq_some_iff.1 hc
        obtain ⟨ag, h2, hc⟩ := Option.bind_eq_some_iff.1 hc
        split at hc
        · rename_i hor
          obtain ⟨x', hx, rfl⟩ := Option.map_eq_some_iff.1 hc
          unfold evO at he; simp only at he
          split at he
          · rename_i ls e1
            split at he
            · rename_i hb
              injection he with he; injection he with e3 e4; subst e3; subst e4
              exact good_field hop hu hf h1 h2 (fun e => hor.resolve_left (by rw [e]; simp)) hx ha hr e1 hb
            · cases he
          · cases he
        · cases hc
      · cases hc
    · cases hc
  case indexAddr t x i =>
    split at hc
    · rename_i e hu
      obtain ⟨n, h1, hc⟩ := Option.bind_eq_some_iff.1 hc
      obtain ⟨x', h2, hc⟩ := Option.bind_eq_some_iff.1 hc
      obtain ⟨i', h3, rfl⟩ := Option.map_eq_some_iff.1 hc
      unfold evO at he; simp only at he
      split at he
      · rename_i id off m sz' k j e1 e2
        split at he
        · rename_i hz
          obtain ⟨z1, z2, rfl⟩ := hz
          injection he with he; injection he with e3 e4; subst e3; subst e4
          exact good_iaddr hop hu h1 h2 h3 ha hr e1 e2 z1 z2
        · cases he
      · cases he
    · cases hc
  case index t x i =>
    split at hc
    · rename_i hu
      obtain ⟨x', h2, hc⟩ := Option.bind_eq_some_iff.1 hc
      obtain ⟨i', h3, rfl⟩ := Option.map_eq_some_iff.1 hc
      unfold evO at he; simp only at he
      split at he
      · rename_i s k j e1 e2
        split at he
        · rename_i hz
          injection he with he; injection he with e3 e4; subst e3; subst e4
          exact good_idx hop hu h2 h3 ha hr e1 e2 hz
        · cases he
      · cases he
    · cases hc
  case extract x i =>
    obtain ⟨x', hx, rfl⟩ := Option.map_eq_some_iff.1 hc
    unfold evO at he; simp only at he
    split at he
    · rename_i ts e1
      obtain ⟨tv, k1, k2⟩ := Option.map_eq_some_iff.1 he
      injection k2 with e3 e4; subst e3; subst e4
      exact good_ext hop hx ha hr e1 k1
    · cases he
  case makeFunc fn first captured =>
    cases fn <;> simp only [lOp, reduceCtorEq] at hc
    rename_i f
    split at hc
    · rename_i h0
      obtain ⟨xs, hxs, rfl⟩ := Option.map_eq_some_iff.1 hc
      unfold evO at he; simp only at he
      obtain ⟨cs, k1, k2⟩ := Option.map_eq_some_iff.1 he
      injection k2 with e3 e4; subst e3; subst e4
      exact good_mkf hop h0 hxs ha hr k1
    · cases hc
  case call c =>
    unfold lCall at hc
    split at hc
    · rename_i hcal
      split at hc
      · rename_i x t hargs hty
        replace hargs : c.args = #[x] := Array.ext' hargs
        replace hty : c.argTypes = #[t] := Array.ext' hty
        split at hc
        · rename_i hu
          obtain ⟨x', hx, rfl⟩ := Option.map_eq_some_iff.1 hc
          unfold evO at he; simp only at he
          split at he
          · rename_i s e1
            injection he with he; injection he with e3 e4; subst e3; subst e4
            exact good_slen hop hcal hargs hty hu hx ha hr e1
          · cases he
        · rename_i e hu
          obtain ⟨x', hx, rfl⟩ := Option.map_eq_some_iff.1 hc
          unfold evO at he; simp only at he
          split at he
          · rename_i e1
            injection he with he; injection he with e3 e4; subst e3; subst e4
            exact good_len hop hcal hargs hty hu hx ha hr (m := 0) (.inl ⟨e1, rfl⟩)
          · rename_i id off n sz e1
            injection he with he; injection he with e3 e4; subst e3; subst e4
            exact good_len hop hcal hargs hty hu hx ha hr (.inr ⟨_, _, _, e1⟩)
          · cases he
        · cases hc
      · cases hc
    · rename_i hcal
      split at hc
      · rename_i x y t t' hargs hty
        split at hc
        · rename_i ht; subst ht
          replace hargs : c.args = #[x, y] := Array.ext' hargs
          replace hty : c.argTypes = #[t, t] := Array.ext' hty
          split at hc
          · rename_i e hu
            obtain ⟨i, h1, hc⟩ := Option.bind_eq_some_iff.1 hc
            obtain ⟨z, h2, hc⟩ := Option.bind_eq_some_iff.1 hc
            split at hc
            · rename_i hbp
              obtain ⟨x', h3, hc⟩ := Option.bind_eq_some_iff.1 hc
              obtain ⟨y', h4, rfl⟩ := Option.map_eq_some_iff.1 hc
              exact good_app hop hcal hargs hty hu h1 h2 hbp h3 h4 ha hr he
            · cases hc
          · cases hc
        · cases hc
      · cases hc
    · rename_i hcal
      obtain ⟨xs, hxs, rfl⟩ := Option.map_eq_some_iff.1 hc
      unfold evO at he; simp only at he
      obtain ⟨v', k1, k2⟩ := Option.map_eq_some_iff.1 he
      injection k2 with e3 e4; subst e3; subst e4
      exact good_mnmx (mx := false) hop hcal hxs ha hr k1
    · rename_i hcal
      obtain ⟨xs, hxs, rfl⟩ := Option.map_eq_some_iff.1 hc
      unfold evO at he; simp only at he
      obtain ⟨v', k1, k2⟩ := Option.map_eq_some_iff.1 he
      injection k2 with e3 e4; subst e3; subst e4
      exact good_mnmx (mx := true) hop hcal hxs ha hr k1
    · rename_i f hcal
      split at hc
      · rename_i k hk
        obtain ⟨xs, hxs, rfl⟩ := Option.map_eq_some_iff.1 hc
        unfold evO at he; simp only at he
        obtain ⟨v', k1, k2⟩ := Option.map_eq_some_iff.1 he
        injection k2 with e3 e4; subst e3; subst e4
        exact good_xop hop hcal hk hxs ha hr k1
      · split at hc
        · obtain ⟨xs, hxs, rfl⟩ := Option.map_eq_some_iff.1 hc
          unfold evO at he; simp only at he
          split at he <;> simp [nc] at he
        · cases hc
    · obtain ⟨xs, hxs, rfl⟩ := Option.map_eq_some_iff.1 hc
      unfold evO at he; simp only at he
      split at he <;> simp [nc] at he
    · cases hc
/-- What a call looks like in the text. -/
theorem lOp_call {pf : FuncId → Bool} {op : Op} {p : Bool} {f : FuncId} {xs : List X} (hc : lOp P pf op = some (.call p f xs)) : ∃ c, op = .call c ∧ c.callee = .value (.func f) ∧ callable P f = true ∧ lXs c.args.toList = some xs := by
  cases op <;> simp only [lOp, reduceCtorEq] at hc
  case call c =>
    refine ⟨c, rfl, ?_⟩
    unfold lCall at hc
    split at hc
    case h_5 f' hcal =>
      split at hc
      · obtain ⟨xs, hxs, e⟩ := Option.map_eq_some_iff.1 hc; cases e
      · split at hc
        · rename_i hf
          obtain ⟨xs', hxs, e⟩ := Option.map_eq_some_iff.1 hc
          injection e with e1 e2 e3; subst e2; subst e3
          exact ⟨hcal, hf, hxs⟩
        · cases hc
    all_goals
      exfalso
      repeat' split at hc
      all_goals first | (cases hc; done) | (simp [Option.map_eq_some_iff, Option.bind_eq_some_iff] at hc; done)
  case slice t x lo hi mx =>
    exfalso
    cases mx <;> simp only [lOp, reduceCtorEq] at hc
    repeat' split at hc
    all_goals first | (cases hc; done) | (simp [Option.map_eq_some_iff, Option.bind_eq_some_iff] at hc; done)
  case makeFunc fn first captured =>
    exfalso
    cases fn <;> simp only [lOp, reduceCtorEq] at hc
    repeat' split at hc
    all_goals first | (cases hc; done) | (simp [Option.map_eq_some_iff, Option.bind_eq_some_iff] at hc; done)
  all_goals
    exfalso
    repeat' split at hc
    all_goals first | (cases hc; done) | (simp [Option.map_eq_some_iff, Option.bind_eq_some_iff] at hc; done)
theorem lOp_callv {pf : FuncId → Bool} {op : Op} {x : X} {xs : List X} (hc : lOp P pf op = some (.callv x xs)) : ∃ c t, op = .call c ∧ x = .t t ∧ c.callee = .value (.tmp t) ∧ lXs c.args.toList = some xs := by
  cases op <;> simp only [lOp, reduceCtorEq] at hc
  case call c =>
    unfold lCall at hc
    split at hc
    case h_6 t hcal =>
      obtain ⟨xs', hxs, e⟩ := Option.map_eq_some_iff.1 hc
      injection e with e1 e2; subst e1; subst e2
      exact ⟨c, t, rfl, rfl, hcal, hxs⟩
    all_goals
      exfalso
      repeat' split at hc
      all_goals first | (cases hc; done) | (simp [Option.map_eq_some_iff, Option.bind_eq_some_iff] at hc; done)
  case slice t x lo hi mx =>
    exfalso
    cases mx <;> simp only [lOp, reduceCtorEq] at hc
    repeat' split at hc
    all_goals first | (cases hc; done) | (simp [Option.map_eq_some_iff, Option.bind_eq_some_iff] at hc; done)
  case makeFunc fn first captured =>
    exfalso
    cases fn <;> simp only [lOp, reduceCtorEq] at hc
    repeat' split at hc
    all_goals first | (cases hc; done) | (simp [Option.map_eq_some_iff, Option.bind_eq_some_iff] at hc; done)
  all_goals
    exfalso
    repeat' split at hc
    all_goals first | (cases hc; done) | (simp [Option.map_eq_some_iff, Option.bind_eq_some_iff] at hc; done)
end
end Go.E
