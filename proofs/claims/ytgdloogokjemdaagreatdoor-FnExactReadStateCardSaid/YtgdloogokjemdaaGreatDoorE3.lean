/- Each operation: what the evaluator says of it is what the model does. Plain lemmas; no condition. -/
import Derived.Test.YtgdloogokjemdaaGreatDoorE2
set_option linter.unusedVariables false
set_option linter.unusedSimpArgs false
namespace Go.E
open Go Go.RowKit

def valLf : Value → Option Lf
  | .bool b => some (.bool b)
  | .int k n => some (.int k n)
  | .float k b => if b < 2 ^ k.format.width then some (.flt k (can k b)) else none
  | .string s => some (.str s)
  | .pointer none => some .nilp
  | .slice none 0 0 => some .nils
  | .nilFunc => some .nilf
  | .nilIface => some .nili
  | _ => none
theorem valLf_sound {ρ : Lo} {v : Value} {l : Lf} (h : valLf v = some l) : LR ρ l v := by
  unfold valLf at h
  split at h <;> first | (cases h; done) | (injection h with h; subst h; rfl) | skip
  split at h
  · rename_i hb; injection h with h; subst h; exact ⟨_, rfl, hb, rfl⟩
  · cases h
def valLfs : List Value → Option (List Lf)
  | [] => some []
  | v :: r => (valLf v).bind fun l => (valLfs r).map fun q => l :: q
theorem valLfs_sound {ρ : Lo} : ∀ {vs : List Value} {ls : List Lf}, valLfs vs = some ls → LRs ρ ls vs
  | [], ls, h => by injection h with h; subst h; rfl
  | v :: r, ls, h => by
    unfold valLfs at h
    obtain ⟨l, h1, h2⟩ := Option.bind_eq_some_iff.1 h
    obtain ⟨q, h3, rfl⟩ := Option.map_eq_some_iff.1 h2
    exact ⟨v, r, rfl, valLf_sound h1, valLfs_sound h3⟩
def lX : Operand → Option X
  | .tmp t => some (.t t)
  | .const v => (valLf v).map fun l => .c (.lf l)
  | .func f => some (.c (.lf (.fn f [])))
  | _ => none
theorem lX_sound {ρ : Lo} {a : Fr} {act : Act} (ha : AR ρ a act.tmps) {x : Operand} {x' : X} (h : lX x = some x') : VR ρ (evX a x') (act.eval x) := by
  unfold lX at h
  split at h
  · injection h with h; subst h; exact ha _
  · obtain ⟨l, h1, rfl⟩ := Option.map_eq_some_iff.1 h; exact valLf_sound (ρ := ρ) h1
  · injection h with h; subst h; exact ⟨[], rfl, rfl⟩
  · cases h
def lXs : List Operand → Option (List X)
  | [] => some []
  | x :: r => (lX x).bind fun y => (lXs r).map fun q => y :: q
theorem lXs_sound {ρ : Lo} {a : Fr} {act : Act} (ha : AR ρ a act.tmps) : ∀ {xs : List Operand} {ys : List X}, lXs xs = some ys → VRs ρ (ys.map (evX a)) (xs.map act.eval)
  | [], ys, h => by injection h with h; subst h; rfl
  | x :: r, ys, h => by
    unfold lXs at h
    obtain ⟨y, h1, h2⟩ := Option.bind_eq_some_iff.1 h
    obtain ⟨q, h3, rfl⟩ := Option.map_eq_some_iff.1 h2
    exact ⟨_, _, rfl, lX_sound ha h1, lXs_sound ha h3⟩

/-! ### Types -/
def aggT (P : Program) (t : TypeId) : Option Bool := (P.underlying t).map fun d => match d with | .struct _ | .array _ _ => true | _ => false
def szT (P : Program) (t : TypeId) : Option Nat := (P.info? t).map (·.size)
def zeroT (P : Program) (t : TypeId) : Option (List Lf) := (P.info? t).bind fun i => i.zero.bind fun z => (valLfs z.cells.toList).bind fun ls => if z.cells.size = i.size ∧ ls.length = i.size ∧ 0 < i.size then some ls else none
theorem run_isAgg {P : Program} {t : TypeId} {b : Bool} (h : aggT P t = some b) (w : World) : (isAgg t).run P w = .ok b w := by
  unfold aggT at h
  obtain ⟨d, h1, rfl⟩ := Option.map_eq_some_iff.1 h
  unfold isAgg
  simp only [Sem.run_bind, run_underlying h1, Result.andThen_ok]
  cases d <;> rfl
theorem run_sizeOf' {P : Program} {t : TypeId} {n : Nat} (h : szT P t = some n) (w : World) : (sizeOf t).run P w = .ok n w := by
  unfold szT at h
  obtain ⟨i, h1, rfl⟩ := Option.map_eq_some_iff.1 h
  simp [sizeOf, typeInfo, h1]
theorem zeroT_spec {P : Program} {t : TypeId} {ls : List Lf} (h : zeroT P t = some ls) : ∃ i z, P.info? t = some i ∧ i.zero = some z ∧ z.cells.size = i.size ∧ ls.length = i.size ∧ 0 < i.size ∧ ∀ ρ : Lo, LRs ρ ls z.cells.toList := by
  unfold zeroT at h
  obtain ⟨i, h1, h2⟩ := Option.bind_eq_some_iff.1 h
  obtain ⟨z, h3, h4⟩ := Option.bind_eq_some_iff.1 h2
  obtain ⟨q, h5, h6⟩ := Option.bind_eq_some_iff.1 h4
  split at h6
  · rename_i hc; injection h6 with h6; subst h6
    exact ⟨i, z, h1, h3, hc.1, hc.2.1, hc.2.2, fun ρ => valLfs_sound h5⟩
  · cases h6
theorem run_zero {P : Program} {t : TypeId} {i : TypeInfo} {z : Value} (hi : P.info? t = some i) (hz : i.zero = some z) (w : World) : (zeroValue t).run P w = .ok z w := by
  simp [zeroValue, typeInfo, hi, hz]

/-! ### What is asked of an operation -/
section
variable {P : Program} {B : Nat} {w0 w : World} {ρ : Lo} {h h' : Hp} {a : Fr} {act : Act} {o : Oper} {v : CV}
def Good (P : Program) (B : Nat) (w0 : World) (o : Oper) (act : Act) (ρ : Lo) (w : World) (v : CV) (h' : Hp) : Prop :=
  ∀ (next : Act → World → Prop) (Q : Exit → Act → World → Prop), (∀ v' ρ' w', Ext ρ ρ' → VR ρ' v v' → Rel B w0 ρ' h' w' → next (act.put o.dst v') w') → o.wp P act w next Q
theorem Good.value {v' : Value} {w' : World} {ρ' : Lo} (hrun : (execOp act.eval o).run P w = .ok (.value v') w') (he : Ext ρ ρ') (hv : VR ρ' v v') (hr : Rel B w0 ρ' h' w') : Good P B w0 o act ρ w v h' := by
  intro next Q hn
  unfold Oper.wp; rw [hrun, Oper.upon_value]
  exact hn _ _ _ he hv hr
theorem Good.same {v' : Value} (hrun : (execOp act.eval o).run P w = .ok (.value v') w) (hv : VR ρ v v') (hr : Rel B w0 ρ h w) : Good P B w0 o act ρ w v h := Good.value hrun (Ext.refl _) hv hr
theorem Good.drew {v' : Value} {n : Nat} (hrun : (execOp act.eval o).run P w = .ok (.value v') (w.drewN n)) (hv : VR ρ v v') (hr : Rel B w0 ρ h w) : Good P B w0 o act ρ w v h := Good.value hrun (Ext.refl _) hv (hr.drewN n)
theorem Good.skip {w' : World} {ρ' : Lo} (hrun : (execOp act.eval o).run P w = .ok .skip w') (he : Ext ρ ρ') (hr : Rel B w0 ρ' h' w') : Good P B w0 o act ρ w un h' := by
  intro next Q hn
  unfold Oper.wp; rw [hrun, Oper.upon_skip]
  exact hn _ _ _ he (VR_un _) hr

theorem good_move {x : Operand} {x' : X} (hop : o.op = .move x ∨ o.op = .assign x) (hx : lX x = some x') (ha : AR ρ a act.tmps) (hr : Rel B w0 ρ h w) : Good P B w0 o act ρ w (evX a x') h :=
  Good.same (v' := act.eval x) (by rcases hop with hop | hop <;> simp [execOp, hop]) (lX_sound ha hx) hr
theorem good_pick {c x y : Operand} {c' x' y' : X} {b : Bool} (hop : o.op = .pick c x y) (hc : lX c = some c') (hx : lX x = some x') (hy : lX y = some y') (ha : AR ρ a act.tmps) (hr : Rel B w0 ρ h w)
    (hb : evX a c' = .lf (.bool b)) : Good P B w0 o act ρ w (if b then evX a x' else evX a y') h := by
  have h1 := lX_sound ha hc
  rw [hb] at h1
  have h1' : act.eval c = .bool b := h1
  refine Good.same (v' := if b then act.eval x else act.eval y) (by simp [execOp, hop, h1', asBool]) ?_ hr
  cases b
  · exact lX_sound ha hy
  · exact lX_sound ha hx
theorem good_box {ty : TypeId} {x : Operand} {x' : X} {ls : List Lf} (hop : o.op = .box ty x) (hx : lX x = some x') (ha : AR ρ a act.tmps) (hr : Rel B w0 ρ h w) (hl : (evX a x').leaves = some ls) :
    Good P B w0 o act ρ w (.lf (.ptr h.length 0)) (h ++ [⟨ls, .own ty 1⟩]) := by
  have h1 := (lX_sound ha hx).leaves hl
  refine Good.value (v' := .pointer (some ⟨w.heap.size, 0, none⟩)) (w' := w.alloc (.cells (act.eval x).cells ty)) (by simp [execOp, hop, Instr.box, newVar, newRow]) (Ext.one _ _) ?_
    (hr.new ty 1 ls _ (by have := h1.length; simp at this; omega) h1.get)
  exact ⟨_, by rw [← hr.len]; simp; rfl, rfl⟩
theorem good_alloc {ty : TypeId} {zl : List Lf} (hop : o.op = .alloc ty) (hz : zeroT P ty = some zl) (hr : Rel B w0 ρ h w) :
    Good P B w0 o act ρ w (.lf (.ptr h.length 0)) (h ++ [⟨zl, .own ty 1⟩]) := by
  obtain ⟨i, z, h1, h2, h3, h4, _, h5⟩ := zeroT_spec hz
  refine Good.value (v' := .pointer (some ⟨w.heap.size, 0, none⟩)) (w' := w.alloc (.cells z.cells ty)) (by simp [execOp, hop, Instr.alloc, run_zero h1 h2, newVar, newRow]) (Ext.one _ _) ?_
    (hr.new ty 1 zl _ (by omega) (h5 ρ).get)
  exact ⟨_, by rw [← hr.len]; simp; rfl, rfl⟩

/-! ### Loads and stores -/
theorem good_load {t : TypeId} {x : Operand} {x' : X} {ag : Bool} {n id off : Nat} {ls : List Lf} (hop : o.op = .load t x) (hx : lX x = some x') (hag : aggT P t = some ag) (hsz : szT P t = some n) (h1 : ag = false → n = 1)
    (ha : AR ρ a act.tmps) (hr : Rel B w0 ρ h w) (hv : evX a x' = .lf (.ptr id off)) (hc : rdCells h id off n = some ls) : Good P B w0 o act ρ w (mkV ag ls) h := by
  have hx' := lX_sound ha hx
  rw [hv] at hx'
  obtain ⟨l, hl, e⟩ := hx'
  obtain ⟨vs, k1, k2, k3⟩ := hr.readAll hl hc
  cases ag
  · obtain rfl := h1 rfl
    match vs, k2 with
    | [u], _ =>
      obtain ⟨v2, vs2, q1, q2, q3⟩ : ∃ v2 vs2, ls = v2 :: vs2 ∧ LR ρ v2 u ∧ LRs ρ vs2 [] := by
        cases ls with
        | nil => simp [LRs] at k1
        | cons y ys => obtain ⟨v2, vs2, e1, e2, e3⟩ := k1; injection e1 with e1 e1'; subst e1; subst e1'; exact ⟨y, ys, rfl, e2, e3⟩
      have : vs2 = [] := by have := q3.length; simpa using this.symm
      subst this; subst q1
      have hcell := k3 0 u rfl
      refine Good.same (v' := u) ?_ q2 hr
      simp [execOp, hop, Instr.loadAt, e, Instr.sureAddr, loadVar, run_isAgg hag]
      simp at hcell
      rw [hcell]; simp
  · refine Good.same (v' := .agg vs.toArray) ?_ ⟨vs, rfl, k1⟩ hr
    have hcells := run_loadCells_list (P := P) w (l.at_ off) vs (fun j u hu => by rw [at_add]; exact k3 j u hu)
    rw [k2] at hcells
    simp [execOp, hop, Instr.loadAt, e, Instr.sureAddr, loadVar, run_isAgg hag, run_sizeOf' hsz, hcells]
theorem setRow_grown (w : World) (g : Nat) (cs : Array Value) : w.grownBy (w.setRow g cs) (some g) := by
  refine ⟨rfl, rfl, rfl, by unfold World.setRow; simp, fun k hk hne => ?_⟩
  unfold World.setRow
  simp only [Array.getElem?_modify]
  rw [if_neg (fun e => hne (by rw [e]))]
theorem setRow_heap {w : World} {g : Nat} {arr cs : Array Value} {t : TypeId} {fr : Nat × Nat} (hg : w.heap[g]? = some (.cells arr t fr)) : (w.setRow g cs).heap[g]? = some (.cells cs t fr) := by
  unfold World.setRow
  simp only [Array.getElem?_modify, hg, if_true, Option.map_some]
theorem splice_length {cs new : List Lf} {off : Nat} (h : off + new.length ≤ cs.length) : (splice cs off new).length = cs.length := by
  unfold splice; simp; omega
theorem splice_CR {cs new : List Lf} {off : Nat} {vs us : List Value} (hb : off + new.length ≤ cs.length) (hl : cs.length ≤ vs.length) (hc : CR ρ cs vs) (hn : LRs ρ new us) :
    CR ρ (splice cs off new) (vs.take off ++ us ++ vs.drop (off + us.length)) := by
  have hu := hn.length
  intro j x hx
  unfold splice at hx
  rcases Nat.lt_or_ge j off with h1 | h1
  · rw [List.append_assoc, List.getElem?_append_left (by simp; omega), List.getElem?_take_of_lt h1] at hx
    rw [List.append_assoc, List.getElem?_append_left (by simp; omega), List.getElem?_take_of_lt h1]
    exact hc j x hx
  · rcases Nat.lt_or_ge j (off + new.length) with h2 | h2
    · rw [List.append_assoc, List.getElem?_append_right (by simp; omega), List.getElem?_append_left (by simp; omega)] at hx
      rw [List.append_assoc, List.getElem?_append_right (by simp; omega), List.getElem?_append_left (by simp; omega)]
      have e1 : (List.take off cs).length = off := by simp; omega
      have e2 : (List.take off vs).length = off := by simp; omega
      rw [e1] at hx; rw [e2]
      exact hn.get _ x hx
    · rw [List.getElem?_append_right (by simp; omega), List.getElem?_drop] at hx
      rw [List.getElem?_append_right (by simp; omega), List.getElem?_drop]
      have e1 : (List.take off cs ++ new).length = off + new.length := by simp; omega
      have e2 : (List.take off vs ++ us).length = off + us.length := by simp; omega
      rw [e1] at hx; rw [e2]
      have e3 : off + us.length + (j - (off + us.length)) = j := by omega
      have e4 : off + new.length + (j - (off + new.length)) = j := by omega
      rw [e4] at hx; rw [e3]
      exact hc j x hx
theorem good_store {t : TypeId} {x y : Operand} {x' y' : X} {lim n id off : Nat} {ls : List Lf} (hop : o.op = .store t x y) (hx : lX x = some x') (hy : lX y = some y') (hsz : szT P t = some n)
    (ha : AR ρ a act.tmps) (hr : Rel B w0 ρ h w) (hv : evX a x' = .lf (.ptr id off)) (hl : (evX a y').leaves = some ls) (hn : ls.length = n) (hw : wrCells lim h id off ls = some h') :
    Good P B w0 o act ρ w un h' := by
  unfold wrCells at hw
  split at hw
  · rename_i cs ty sz hob
    split at hw
    · rename_i hb
      injection hw with hw; subst hw
      have hx' := lX_sound ha hx
      rw [hv] at hx'
      obtain ⟨l, hl1, e⟩ := hx'
      have hy' := (lX_sound ha hy).leaves hl
      have hOR := hr.obs id _ l hob hl1
      obtain ⟨k1, k2, k3, k4, arr, k5, k6, k7, k8⟩ := hOR
      have hlen := hy'.length
      have hat : l.at_ off = ⟨l.b, off, none⟩ := by unfold Loc.at_; rw [k2]; simp
      have hk7 : cs.length ≤ arr.size := k7
      have hst := run_storeCells_at (P := P) l.b off ty (act.eval y).cells.toList 0 arr w k5 (by simp at hlen ⊢; omega) hy'.ones
      refine Good.skip (w' := w.setRow l.b (arr.toList.take (off + 0) ++ (act.eval y).cells.toList ++ arr.toList.drop (off + 0 + (act.eval y).cells.toList.length)).toArray) ?_ (Ext.refl _) ?_
      · have hsize : (act.eval y).cells.size = n := by simp at hlen; omega
        simp only [execOp, hop, Instr.storeAt, e, Instr.sureAddr, hat, storeVar, Sem.run_bind, Sem.run_pure, Result.andThen_ok, run_sizeOf' hsz, hsize, ne_eq, not_true, if_false]
        simp [hst]
      · refine hr.turn hob hl1 rfl (setRow_grown _ _ _) _ (.inr ?_)
        refine ⟨k1, k2, k3, k4, _, setRow_heap k5, ?_, ?_, ?_⟩
        · simp at hlen ⊢; omega
        · rw [splice_length hb.2]; simp at hlen ⊢; omega
        · have := splice_CR (ρ := ρ) (vs := arr.toList) hb.2 (by simpa using hk7) k8 hy'
          simpa using this
    · cases hw
  · cases hw

/-! ### Numbers, addresses -/
theorem good_nilck {x : Operand} {x' : X} {id off : Nat} (hop : o.op = .nilCheck x) (hx : lX x = some x') (ha : AR ρ a act.tmps) (hr : Rel B w0 ρ h w) (hv : evX a x' = .lf (.ptr id off)) :
    Good P B w0 o act ρ w (.lf (.ptr id off)) h := by
  have hx' := lX_sound ha hx
  rw [hv] at hx'
  obtain ⟨l, hl, e⟩ := hx'
  exact Good.same (v' := .pointer (some (l.at_ off))) (by simp [execOp, hop, e]) ⟨l, hl, rfl⟩ hr
def plainT (P : Program) (t : TypeId) : Bool := match P.underlying t with | some .bool | some (.int _) | some (.float _) | some .string => true | _ => false
theorem eqGuard_plain {op : BinOp} {t : TypeId} {x y : Operand} {u v : Value} (hu : ∀ cs, u ≠ .agg cs) (hn : u ≠ .nilIface) : (eqGuard op t x y u v).run P w = .ok () w := by
  cases u <;> first | exact absurd rfl hn | exact absurd rfl (hu _) | (cases op <;> rfl)
theorem equal_bool {t : TypeId} (ht : P.underlying t = some .bool) (x y : Bool) : (Op.equal t (.bool x) (.bool y)).run P w = .ok (x == y) w := by
  unfold Op.equal Op.maxDepth Op.equalIn
  simp [run_underlying ht]
theorem andNot_top (b : Nat) (hb : b < 2 ^ 64) : Go.bits .andNot .u64 b 9223372036854775808 = ((b % 2 ^ 63 : Nat) : Int) := by
  show IntKind.u64.wrap ((BitVec.ofInt 64 b &&& ~~~(BitVec.ofInt 64 9223372036854775808)).toNat : Int) = _
  have e1 : (~~~(BitVec.ofInt 64 9223372036854775808)).toNat = 2 ^ 63 - 1 := by decide
  have e2 : (BitVec.ofInt 64 (b : Int)).toNat = b := by rw [BitVec.toNat_ofInt]; omega
  have e3 : (BitVec.ofInt 64 b &&& ~~~(BitVec.ofInt 64 9223372036854775808)).toNat = b % 2 ^ 63 := by
    rw [BitVec.toNat_and, e1, Nat.and_two_pow_sub_one_eq_mod, e2]
  rw [e3, IntKind.wrap_u64]; omega
theorem good_bin {op : BinOp} {t ty : TypeId} {x y : Operand} {x' y' : X} (hop : o.op = .binOp op t x y ty) (ht : plainT P t = true) (hx : lX x = some x') (hy : lX y = some y')
    (ha : AR ρ a act.tmps) (hr : Rel B w0 ρ h w) (hv : binV op (evX a x') (evX a y') = some v) : Good P B w0 o act ρ w v h := by
  have hx' := lX_sound ha hx
  have hy' := lX_sound ha hy
  generalize evX a x' = vx at *
  generalize evX a y' = vy at *
  unfold binV at hv
  split at hv
  · rename_i k n k' m
    have ex : act.eval x = .int k n := hx'
    have ey : act.eval y = .int k' m := hy'
    have hg := eqGuard_plain (P := P) (w := w) (op := op) (t := t) (x := x) (y := y) (u := .int k n) (v := .int k' m) (by simp) (by simp)
    have key : ∀ u, (binOp op t (.int k n) (.int k' m)).run P w = .ok u w → VR ρ v u → Good P B w0 o act ρ w v h := fun u h1 h2 =>
      Good.same (v' := u) (by simp only [execOp, hop, ex, ey, Sem.run_bind, hg, h1, Result.andThen_ok, Sem.run_pure]) h2 hr
    split at hv
    · rename_i hs
      unfold ishift at hv
      split at hv
      · cases hv
      · rename_i hm
        cases op <;> simp [isShift] at hs <;> simp only [Option.some.injEq] at hv <;> subst hv
        · exact key _ (by simp [binOp, Op.shift, hm]) rfl
        · exact key _ (by simp [binOp, Op.shift, hm]) rfl
    · rename_i hs
      split at hv
      · rename_i hk; subst hk
        unfold ibin at hv
        cases op <;> simp [isShift] at hs <;> simp only [Option.some.injEq, reduceCtorEq] at hv
        · subst hv; exact key _ (by simp [binOp, Op.intArith]) rfl
        · subst hv; exact key _ (by simp [binOp, Op.intArith]) rfl
        · subst hv; exact key _ (by simp [binOp, Op.intArith]) rfl
        · split at hv
          · cases hv
          · rename_i hm; injection hv with hv; subst hv; exact key _ (by simp [binOp, Op.intDiv, hm]) rfl
        · split at hv
          · cases hv
          · rename_i hm; injection hv with hv; subst hv; exact key _ (by simp [binOp, Op.intDiv, hm]) rfl
        · subst hv; exact key _ (by simp [binOp, intBits_and]) rfl
        · subst hv; exact key _ (by simp [binOp, intBits_or]) rfl
        · subst hv; exact key _ (by simp [binOp, intBits_xor]) rfl
        · subst hv; exact key _ (by simp [binOp, intBits_andNot]) rfl
        · subst hv; exact key _ (by simp [binOp, Op.intCmp]) rfl
        · subst hv; exact key _ (by simp [binOp, Op.intCmp]) rfl
        · subst hv; exact key _ (by simp [binOp, Op.intCmp]) rfl
        · subst hv; exact key _ (by simp [binOp, Op.intCmp]) rfl
        · subst hv; exact key _ (by simp [binOp, Op.intCmp]) rfl
        · subst hv; exact key _ (by simp [binOp, Op.intCmp]) rfl
      · cases hv
  · rename_i k p k' q
    split at hv
    · rename_i hk; subst hk
      obtain ⟨b1, ex, f1⟩ := hx'
      obtain ⟨b2, ey, f2⟩ := hy'
      have hg := eqGuard_plain (P := P) (w := w) (op := op) (t := t) (x := x) (y := y) (u := .float k b1) (v := .float k b2) (by simp) (by simp)
      unfold fop at hv
      split at hv
      · rename_i har; injection hv with hv; subst hv
        obtain ⟨r, n, h1, h2⟩ := run_arith P w op har t k f1 f2
        exact Good.drew (v' := .float k r) (n := n) (by simp only [execOp, hop, ex, ey, Sem.run_bind, hg, h1, Result.andThen_ok, Sem.run_pure]) ⟨r, rfl, h2⟩ hr
      · split at hv
        · rename_i hc; injection hv with hv; subst hv
          have h1 := run_cmp P w op hc t k f1 f2
          exact Good.same (v' := .bool (fcmp op k p q)) (by simp only [execOp, hop, ex, ey, Sem.run_bind, hg, h1, Result.andThen_ok, Sem.run_pure]) rfl hr
        · cases hv
    · cases hv
  · rename_i s1 s2
    have ex : act.eval x = .string s1 := hx'
    have ey : act.eval y = .string s2 := hy'
    have hg := eqGuard_plain (P := P) (w := w) (op := op) (t := t) (x := x) (y := y) (u := .string s1) (v := .string s2) (by simp) (by simp)
    have key : ∀ u, (binOp op t (.string s1) (.string s2)).run P w = .ok u w → VR ρ v u → Good P B w0 o act ρ w v h := fun u h1 h2 =>
      Good.same (v' := u) (by simp only [execOp, hop, ex, ey, Sem.run_bind, hg, h1, Result.andThen_ok, Sem.run_pure]) h2 hr
    unfold sop at hv
    cases op <;> simp only [Option.some.injEq, reduceCtorEq] at hv
    · split at hv
      · rename_i hl; injection hv with hv; subst hv
        refine key _ ?_ rfl
        have hm : IntKind.i64.max = 9223372036854775807 := by decide
        simp only [binOp, Op.stringOp, hm]
        rw [if_neg (by omega)]; rfl
      · cases hv
    · subst hv; exact key _ (by simp [binOp, Op.stringOp]) rfl
    · subst hv; exact key _ (by simp [binOp, Op.stringOp]) rfl
    · subst hv; exact key _ (by simp [binOp, Op.stringOp]) rfl
    · subst hv; exact key _ (by simp [binOp, Op.stringOp]) rfl
    · subst hv; exact key _ (by simp [binOp, Op.stringOp]) rfl
    · subst hv; exact key _ (by simp [binOp, Op.stringOp]) rfl
  · rename_i c
    obtain ⟨b, ex, hlt, hn⟩ := hx'
    have ey : act.eval y = .int .u64 c := hy'
    split at hv
    · split at hv
      · rename_i hc; subst hc
        injection hv with hv; subst hv
        have hg := eqGuard_plain (P := P) (w := w) (op := .andNot) (t := t) (x := x) (y := y) (u := .int .u64 b) (v := .int .u64 9223372036854775808) (by simp) (by simp)
        have h1 : (binOp .andNot t (.int .u64 b) (.int .u64 9223372036854775808)).run P w = .ok (.int .u64 (Go.bits .andNot .u64 b 9223372036854775808)) w := by simp [binOp, intBits_andNot]
        refine Good.same (v' := .int .u64 (Go.bits .andNot .u64 b 9223372036854775808)) (by simp only [execOp, hop, ex, ey, Sem.run_bind, hg, h1, Result.andThen_ok, Sem.run_pure]) ?_ hr
        refine ⟨b % 2 ^ 63, ?_, by omega, ?_⟩
        · rw [andNot_top b hlt]
        · rw [isNaN_eq] at hn ⊢
          rw [← hn]
          have : FloatKind.f64.format.signWeight = 2 ^ 63 := by decide
          rw [this, Nat.mod_mod]
      · cases hv
    · cases hv
  · cases hv
theorem good_beq {op : BinOp} {t ty : TypeId} {x y : Operand} {x' y' : X} {p q : Bool} (hop : o.op = .binOp op t x y ty) (ho : op = .eql ∨ op = .neq) (ht : P.underlying t = some .bool) (hx : lX x = some x') (hy : lX y = some y')
    (ha : AR ρ a act.tmps) (hr : Rel B w0 ρ h w) (hp : evX a x' = .lf (.bool p)) (hq : evX a y' = .lf (.bool q)) : Good P B w0 o act ρ w (.lf (.bool (if op matches .neq then !(p == q) else p == q))) h := by
  have ex := lX_sound ha hx
  have ey := lX_sound ha hy
  rw [hp] at ex; rw [hq] at ey
  have ex' : act.eval x = .bool p := ex
  have ey' : act.eval y = .bool q := ey
  have hg := eqGuard_plain (P := P) (w := w) (op := op) (t := t) (x := x) (y := y) (u := .bool p) (v := .bool q) (by simp) (by simp)
  rcases ho with rfl | rfl
  · refine Good.same (v' := .bool (p == q)) ?_ rfl hr
    simp only [execOp, hop, ex', ey', Sem.run_bind, hg, Result.andThen_ok, Sem.run_pure, binOp, equal_bool ht]
  · refine Good.same (v' := .bool (!(p == q))) ?_ rfl hr
    simp only [execOp, hop, ex', ey', Sem.run_bind, hg, Result.andThen_ok, Sem.run_pure, binOp, equal_bool ht]
theorem good_una {op : UnOp} {t : TypeId} {x : Operand} {x' : X} (hop : o.op = .unOp op t x) (hx : lX x = some x') (ha : AR ρ a act.tmps) (hr : Rel B w0 ρ h w) (hv : unV op (evX a x') = some v) : Good P B w0 o act ρ w v h := by
  have hx' := lX_sound ha hx
  generalize evX a x' = vx at *
  unfold unV at hv
  split at hv
  · rename_i k n
    have ex : act.eval x = .int k n := hx'
    split at hv
    · injection hv with hv; subst hv; exact Good.same (by simp [execOp, hop, ex, Op.unary, Op.intArith]) rfl hr
    · injection hv with hv; subst hv; exact Good.same (by simp [execOp, hop, ex, Op.unary, intBits_xor]) rfl hr
    · cases hv
  · rename_i k p
    obtain ⟨b, ex, f⟩ := hx'
    split at hv
    · injection hv with hv; subst hv; exact Good.same (v' := .float k (Op.negFloat k b)) (by simp [execOp, hop, ex, Op.unary]) ⟨_, rfl, neg_FR f⟩ hr
    · cases hv
  · rename_i b
    have ex : act.eval x = .bool b := hx'
    split at hv
    · injection hv with hv; subst hv; exact Good.same (by simp [execOp, hop, ex, Op.unary]) rfl hr
    · cases hv
  · cases hv
theorem good_toint {s d : TypeId} {x : Operand} {x' : X} {k : IntKind} (hop : o.op = .convert s d x) (hs : (P.underlying s).isSome = true) (hd : P.underlying d = some (.int k)) (hx : lX x = some x') (ha : AR ρ a act.tmps) (hr : Rel B w0 ρ h w)
    (hv : tointV k (evX a x') = some v) : Good P B w0 o act ρ w v h := by
  have hx' := lX_sound ha hx
  generalize evX a x' = vx at *
  obtain ⟨u, hu⟩ := Option.isSome_iff_exists.1 hs
  unfold tointV at hv
  split at hv
  · rename_i k' n
    have ex : act.eval x = .int k' n := hx'
    injection hv with hv; subst hv
    exact Good.same (v' := .int k (k.wrap n)) (by simp [execOp, hop, ex, convert, run_underlying hu, run_underlying hd, Conv.intToInt]) rfl hr
  · rename_i sk p
    obtain ⟨b, ex, f⟩ := hx'
    obtain ⟨n, h1, rfl⟩ := Option.map_eq_some_iff.1 hv
    have h2 := run_toint P w sk k f h1
    exact Good.same (v' := .int k n) (by cases u <;> simp [execOp, hop, ex, convert, run_underlying hu, run_underlying hd, h2]) rfl hr
  · cases hv
theorem good_toflt {s d : TypeId} {x : Operand} {x' : X} {k : FloatKind} (hop : o.op = .convert s d x) (hs : (P.underlying s).isSome = true) (hd : P.underlying d = some (.float k)) (hx : lX x = some x') (ha : AR ρ a act.tmps) (hr : Rel B w0 ρ h w)
    (hv : tofltV k (evX a x') = some v) : Good P B w0 o act ρ w v h := by
  have hx' := lX_sound ha hx
  generalize evX a x' = vx at *
  obtain ⟨u, hu⟩ := Option.isSome_iff_exists.1 hs
  unfold tofltV at hv
  split at hv
  · rename_i k' n
    have ex : act.eval x = .int k' n := hx'
    injection hv with hv; subst hv
    exact Good.same (v' := .float k (k.nearest n)) (by cases u <;> simp [execOp, hop, ex, convert, run_underlying hu, run_underlying hd, Conv.intToFloat]) ⟨_, rfl, fofint_FR k n⟩ hr
  · rename_i sk p
    obtain ⟨b, ex, f⟩ := hx'
    obtain ⟨y, h1, rfl⟩ := Option.map_eq_some_iff.1 hv
    obtain ⟨r, n, h2, h3⟩ := run_conv P w sk k f h1
    exact Good.drew (v' := .float k r) (n := n) (by cases u <;> simp [execOp, hop, ex, convert, run_underlying hu, run_underlying hd, h2]) ⟨r, rfl, h3⟩ hr
  · cases hv
theorem good_faddr {t : TypeId} {x : Operand} {x' : X} {i : Nat} {fields : Array Field} {f : Field} {n id off : Nat} (hop : o.op = .fieldAddr t x i) (ht : P.underlying t = some (.struct fields)) (hf : fields[i]? = some f) (hn : szT P f.type = some n) (h0 : n ≠ 0)
    (hx : lX x = some x') (ha : AR ρ a act.tmps) (hr : Rel B w0 ρ h w) (hv : evX a x' = .lf (.ptr id off)) : Good P B w0 o act ρ w (.lf (.ptr id (off + f.offset))) h := by
  have hx' := lX_sound ha hx
  rw [hv] at hx'
  obtain ⟨l, hl, e⟩ := hx'
  refine Good.same (v' := .pointer (some (l.at_ (off + f.offset)))) ?_ ⟨l, hl, rfl⟩ hr
  simp [execOp, hop, e, Instr.fieldAt, run_underlying ht, hf, Instr.sureAddr, fieldPlace, run_sizeOf' hn, h0, at_add]
theorem mkV_VR {ag : Bool} {ls : List Lf} {vs : List Value} (h : LRs ρ ls vs) (h1 : ag = false → ls.length = 1) : ∃ u, VR ρ (mkV ag ls) u ∧ (ag = true → u = .agg vs.toArray) ∧ (ag = false → vs = [u]) := by
  cases ag
  · have := h1 rfl
    match ls, vs, h with
    | [l], vs, h =>
      obtain ⟨v, vs', rfl, h2, h3⟩ := h
      have : vs' = [] := h3
      subst this
      exact ⟨v, h2, by simp, by simp⟩
  · exact ⟨.agg vs.toArray, ⟨vs, rfl, h⟩, by simp, by simp⟩
theorem LRs.part {ls : List Lf} {vs : List Value} (h : LRs ρ ls vs) (off n : Nat) (hb : off + n ≤ ls.length) : LRs ρ ((ls.drop off).take n) ((vs.drop off).take n) := by
  have hl := h.length
  refine LRs.of (by simp; omega) fun j x hx => ?_
  have hj : j < n := by have := (List.getElem?_eq_some_iff.1 hx).1; simp at this; omega
  rw [List.getElem?_take_of_lt hj, List.getElem?_drop] at hx ⊢
  exact h.get _ x hx
theorem good_field {t : TypeId} {x : Operand} {x' : X} {i : Nat} {fields : Array Field} {f : Field} {n : Nat} {ag : Bool} {ls : List Lf} (hop : o.op = .field t x i) (ht : P.underlying t = some (.struct fields)) (hf : fields[i]? = some f) (hn : szT P f.type = some n)
    (hag : aggT P f.type = some ag) (h1 : ag = false → n = 1) (hx : lX x = some x') (ha : AR ρ a act.tmps) (hr : Rel B w0 ρ h w) (hv : evX a x' = .agg ls) (hb : f.offset + n ≤ ls.length) :
    Good P B w0 o act ρ w (mkV ag ((ls.drop f.offset).take n)) h := by
  have hx' := lX_sound ha hx
  rw [hv] at hx'
  obtain ⟨vs, e, hl⟩ := hx'
  have hp := hl.part f.offset n hb
  obtain ⟨u, k1, k2, k3⟩ := mkV_VR (ag := ag) hp (fun e => by simp; have := h1 e; omega)
  refine Good.same (v' := u) ?_ k1 hr
  have hlen := hl.length
  cases ag
  · obtain rfl := h1 rfl
    have := k3 rfl
    have hu : vs[f.offset]? = some u := by
      have h2 : ((vs.drop f.offset).take 1)[0]? = some u := by rw [this]; rfl
      rwa [List.getElem?_take_of_lt (by omega), List.getElem?_drop, Nat.add_zero] at h2
    simp [execOp, hop, e, Instr.field, run_underlying ht, hf, part, asAgg, run_isAgg hag, hu]
  · have := k2 rfl
    subst this
    simp [execOp, hop, e, Instr.field, run_underlying ht, hf, part, asAgg, run_isAgg hag, run_sizeOf' hn]
theorem elem_eq {t e : TypeId} (ht : P.underlying t = some (.slice e)) : P.elem t = e := by simp [Program.elem, ht]
theorem good_iaddr {t e : TypeId} {x y : Operand} {x' y' : X} {sz id off n : Nat} {k : IntKind} {j : Int} (hop : o.op = .indexAddr t x y) (ht : P.underlying t = some (.slice e)) (hs : szT P e = some sz) (hx : lX x = some x') (hy : lX y = some y')
    (ha : AR ρ a act.tmps) (hr : Rel B w0 ρ h w) (hv : evX a x' = .lf (.sl id off n sz)) (hj : evX a y' = .lf (.int k j)) (h0 : 0 ≤ j) (h1 : j < n) : Good P B w0 o act ρ w (.lf (.ptr id (off + j.toNat * sz))) h := by
  have hx' := lX_sound ha hx
  have hy' := lX_sound ha hy
  rw [hv] at hx'; rw [hj] at hy'
  obtain ⟨l, A, cap, q1, q2, q3, _, q4, q5⟩ := hx'
  have ey : act.eval y = .int k j := hy'
  have hA : A = l.at_ off := q4 (.inl (by omega))
  subst hA
  refine Good.same (v' := .pointer (some (l.at_ (off + j.toNat * sz)))) ?_ ⟨l, q1, rfl⟩ hr
  have hel := elem_eq ht
  have hrun := run_indexAt_slice (P := P) w t (l.at_ off) n cap k j (by rw [hel]; exact ht)
  rw [if_pos ⟨h0, h1⟩, hel, run_sizeOf' hs] at hrun
  simp only [Result.andThen_ok, at_add] at hrun
  simp [execOp, hop, q2, ey, hrun]
theorem good_idx {t : TypeId} {x y : Operand} {x' y' : X} {k : IntKind} {j : Int} {s : ByteArray} (hop : o.op = .index t x y) (ht : P.underlying t = some .string) (hx : lX x = some x') (hy : lX y = some y')
    (ha : AR ρ a act.tmps) (hr : Rel B w0 ρ h w) (hv : evX a x' = .lf (.str s)) (hj : evX a y' = .lf (.int k j)) (h0 : 0 ≤ j ∧ j.toNat < s.size) : Good P B w0 o act ρ w (.lf (.int .u8 (s[j.toNat]'h0.2).toNat)) h := by
  have hx' := lX_sound ha hx
  have hy' := lX_sound ha hy
  rw [hv] at hx'; rw [hj] at hy'
  have ex : act.eval x = .string s := hx'
  have ey : act.eval y = .int k j := hy'
  refine Good.same (v' := .int .u8 (s[j.toNat]'h0.2).toNat) ?_ rfl hr
  have hg : s[j.toNat]? = some (s[j.toNat]'h0.2) := by simp [h0.2]
  simp [execOp, hop, ex, ey, Instr.index, asIntOf, run_underlying ht, h0.1, h0.2, hg]
theorem TRs.get : ∀ {ts : List TV} {vs : List Value}, TRs ρ ts vs → ∀ (j : Nat) (x : TV), ts[j]? = some x → ∃ v, vs[j]? = some v ∧ TR ρ x v
  | [], _, _, j, x, hx => by simp at hx
  | l :: ls, _, h, j, x, hx => by
    obtain ⟨v, vs', rfl, h2, h3⟩ := h
    cases j with
    | zero => simp at hx; subst hx; exact ⟨v, by simp, h2⟩
    | succ j => simp at hx; simpa using TRs.get h3 j x hx
theorem good_ext {x : Operand} {x' : X} {i : Nat} {ts : List TV} {t : TV} (hop : o.op = .extract x i) (hx : lX x = some x') (ha : AR ρ a act.tmps) (hr : Rel B w0 ρ h w) (hv : evX a x' = .tup ts) (ht : ts[i]? = some t) : Good P B w0 o act ρ w t.cv h := by
  have hx' := lX_sound ha hx
  rw [hv] at hx'
  obtain ⟨vs, e, hl⟩ := hx'
  obtain ⟨v, k1, k2⟩ := hl.get i t ht
  refine Good.same (v' := v) (by simp [execOp, hop, e, Instr.extract, k1]) ?_ hr
  cases t <;> exact k2
theorem good_slen {c : Go.Call} {t : TypeId} {x : Operand} {x' : X} {s : ByteArray} (hop : o.op = .call c) (hc : c.callee = .builtin .len) (hargs : c.args = #[x]) (hty : c.argTypes = #[t]) (hu : P.underlying t = some .string) (hx : lX x = some x') (ha : AR ρ a act.tmps) (hr : Rel B w0 ρ h w)
    (hv : evX a x' = .lf (.str s)) : Good P B w0 o act ρ w (.lf (.int .i64 s.size)) h := by
  have hx' := lX_sound ha hx
  rw [hv] at hx'
  have ex : act.eval x = .string s := hx'
  refine Good.same (v' := .int .i64 s.size) ?_ rfl hr
  simp [execOp, hop, resolve, hc, hargs, hty, ex, invoke, builtin, Builtin.len_, run_underlying hu, goInt]
theorem good_len {c : Go.Call} {t e : TypeId} {x : Operand} {x' : X} (hop : o.op = .call c) (hc : c.callee = .builtin .len) (hargs : c.args = #[x]) (hty : c.argTypes = #[t]) (hu : P.underlying t = some (.slice e)) (hx : lX x = some x') (ha : AR ρ a act.tmps) (hr : Rel B w0 ρ h w)
    {m : Nat} (hv : evX a x' = .lf .nils ∧ m = 0 ∨ ∃ id off sz, evX a x' = .lf (.sl id off m sz)) : Good P B w0 o act ρ w (.lf (.int .i64 m)) h := by
  have hx' := lX_sound ha hx
  refine Good.same (v' := .int .i64 m) ?_ rfl hr
  rcases hv with ⟨hv, rfl⟩ | ⟨id, off, sz, hv⟩
  · rw [hv] at hx'
    have ex : act.eval x = .slice none 0 0 := hx'
    simp [execOp, hop, resolve, hc, hargs, hty, ex, invoke, builtin, Builtin.len_, run_underlying hu, goInt]
  · rw [hv] at hx'
    obtain ⟨l, A, cap, q1, q2, _⟩ := hx'
    simp [execOp, hop, resolve, hc, hargs, hty, q2, invoke, builtin, Builtin.len_, run_underlying hu, goInt]

/-! ### Slices -/
def lXo : Option Operand → Option (Option X)
  | none => some none
  | some x => (lX x).map some
theorem bound_int {d n : Nat} {x : Operand} {x' : X} (hx : lX x = some x') (ha : AR ρ a act.tmps) (hv : boundV d (some (evX a x')) = some n) : ∃ k i, act.eval x = .int k i ∧ 0 ≤ i ∧ i.toNat = n := by
  have h1 := lX_sound ha hx
  generalize evX a x' = vx at *
  unfold boundV at hv
  split at hv
  · rename_i e; cases e
  · rename_i k i e
    injection e with e; subst e
    split at hv
    · rename_i h0; injection hv with hv
      exact ⟨k, i, h1, h0, hv⟩
    · cases hv
  · cases hv
/-- The three bounds. -/
theorem run_bounds {b : Bool} {len cap lo' hi' : Nat} {lo hi : Option Operand} {xl xh : Option X} (hlo : lXo lo = some xl) (hhi : lXo hi = some xh) (ha : AR ρ a act.tmps)
    (h1 : boundV len (evO2 a xh) = some hi') (h2 : boundV 0 (evO2 a xl) = some lo') (hle : lo' ≤ hi') (hhc : hi' ≤ cap) :
    (Instr.sliceBounds b len cap (lo.map act.eval) (hi.map act.eval) none).run P w = .ok (lo', hi', cap) w := by
  have H : ∃ v : Option (IntKind × Int), (hi.map act.eval = v.map fun p => .int p.1 p.2) ∧ (match v with | none => hi' = len | some p => 0 ≤ p.2 ∧ p.2.toNat = hi') := by
    cases hi with
    | none =>
      injection hhi with hhi; subst hhi
      injection h1 with h1
      exact ⟨none, rfl, h1.symm⟩
    | some x =>
      obtain ⟨y, k1, rfl⟩ := Option.map_eq_some_iff.1 hhi
      obtain ⟨k, i, e1, e2, e3⟩ := bound_int k1 ha h1
      exact ⟨some (k, i), by simp [e1], e2, e3⟩
  have L : ∃ v : Option (IntKind × Int), (lo.map act.eval = v.map fun p => .int p.1 p.2) ∧ (match v with | none => lo' = 0 | some p => 0 ≤ p.2 ∧ p.2.toNat = lo') := by
    cases lo with
    | none =>
      injection hlo with hlo; subst hlo
      injection h2 with h2
      exact ⟨none, rfl, h2.symm⟩
    | some x =>
      obtain ⟨y, k1, rfl⟩ := Option.map_eq_some_iff.1 hlo
      obtain ⟨k, i, e1, e2, e3⟩ := bound_int k1 ha h2
      exact ⟨some (k, i), by simp [e1], e2, e3⟩
  obtain ⟨vh, eh, Hh⟩ := H
  obtain ⟨vl, el, Hl⟩ := L
  rw [eh, el]
  cases vh with
  | none =>
    simp only at Hh; subst Hh
    cases vl with
    | none => simp only at Hl; subst Hl; simp [Instr.sliceBounds]
    | some p =>
      obtain ⟨pk, pi⟩ := p
      simp only at Hl
      obtain ⟨q1, rfl⟩ := Hl
      have := run_sliceBound (P := P) (w := w) pk pi hi' .sliceB q1 (by omega)
      simp [Instr.sliceBounds, this]
  | some q =>
    obtain ⟨qk, qi⟩ := q
    simp only at Hh
    obtain ⟨q1, rfl⟩ := Hh
    have hb := fun code => run_sliceBound (P := P) (w := w) qk qi cap code q1 (by omega)
    cases vl with
    | none => simp only at Hl; subst Hl; simp [Instr.sliceBounds, hb]
    | some p =>
      obtain ⟨pk, pi⟩ := p
      simp only at Hl
      obtain ⟨q2, rfl⟩ := Hl
      have := run_sliceBound (P := P) (w := w) pk pi qi.toNat .sliceB q2 (by omega)
      simp [Instr.sliceBounds, hb, this]
theorem good_slice_nil {t e : TypeId} {x : Operand} {x' : X} {lo hi : Option Operand} {xl xh : Option X} {sz : Nat} (hop : o.op = .slice t x lo hi none) (hu : P.underlying t = some (.slice e)) (hs : szT P e = some sz) (hx : lX x = some x') (hlo : lXo lo = some xl) (hhi : lXo hi = some xh)
    (ha : AR ρ a act.tmps) (hr : Rel B w0 ρ h w) (hv : evX a x' = .lf .nils) (h1 : boundV 0 (evO2 a xh) = some 0) (h2 : boundV 0 (evO2 a xl) = some 0) : Good P B w0 o act ρ w (.lf .nils) h := by
  have hx' := lX_sound ha hx
  rw [hv] at hx'
  have ex : act.eval x = .slice none 0 0 := hx'
  refine Good.same (v' := .slice none 0 0) ?_ rfl hr
  have hb := run_bounds (P := P) (w := w) (b := true) (cap := 0) hlo hhi ha h1 h2 (Nat.le_refl _) (Nat.le_refl _)
  have hel := elem_eq hu
  have hrun := run_slice_any (P := P) w t none 0 0 (by rw [hel]; exact hu) (lo.map act.eval) (hi.map act.eval) none
  rw [hb, hel] at hrun
  simp only [Result.andThen_ok, run_sizeOf' hs, sliced] at hrun
  simp [execOp, hop, ex, Instr.sliceAt, run_underlying hu, hrun]
theorem good_slice {t e : TypeId} {x : Operand} {x' : X} {lo hi : Option Operand} {xl xh : Option X} {sz id off n lo' hi' : Nat} (hop : o.op = .slice t x lo hi none) (hu : P.underlying t = some (.slice e)) (hs : szT P e = some sz) (h0 : 0 < sz) (hx : lX x = some x') (hlo : lXo lo = some xl) (hhi : lXo hi = some xh)
    (ha : AR ρ a act.tmps) (hr : Rel B w0 ρ h w) (hv : evX a x' = .lf (.sl id off n sz)) (h1 : boundV n (evO2 a xh) = some hi') (h2 : boundV 0 (evO2 a xl) = some lo') (hle : lo' ≤ hi') (hhn : hi' ≤ n) :
    Good P B w0 o act ρ w (.lf (.sl id (off + lo' * sz) (hi' - lo') sz)) h := by
  have hx' := lX_sound ha hx
  rw [hv] at hx'
  obtain ⟨l, A, cap, q1, q2, q3, q3', q4, q5⟩ := hx'
  have hb := run_bounds (P := P) (w := w) (b := true) (cap := cap) hlo hhi ha h1 h2 hle (by omega)
  have hel := elem_eq hu
  have hrun := run_slice_any (P := P) w t (some A) n cap (by rw [hel]; exact hu) (lo.map act.eval) (hi.map act.eval) none
  rw [hb, hel] at hrun
  simp only [Result.andThen_ok, run_sizeOf' hs, sliced] at hrun
  refine Good.same (v' := .slice (if cap = lo' then some A else (some A).map (·.add (lo' * sz))) (hi' - lo') (cap - lo')) ?_ ?_ hr
  · simp [execOp, hop, q2, Instr.sliceAt, run_underlying hu] at hrun ⊢
    rw [hrun]; simp
  · refine ⟨l, if cap = lo' then A else A.add (lo' * sz), cap - lo', q1, ?_, by omega, by omega, ?_, ?_⟩
    · split <;> rfl
    · intro hor
      by_cases hc : cap = lo'
      · rw [if_pos hc]
        have hoff : off + lo' * sz = 0 := by
          rcases hor with h | h
          · omega
          · exact h
        have hl0 : lo' = 0 := by
          rcases Nat.eq_zero_or_pos lo' with h | h
          · exact h
          · have := Nat.mul_pos h h0; omega
        subst hl0
        simp at hoff ⊢
        exact q4 (.inr hoff)
      · rw [if_neg hc]
        have hA := q4 (.inl (by omega))
        rw [hA, at_add]
    · intro ho
      obtain ⟨r1, r2⟩ := q5 ho
      refine ⟨r1, ?_⟩
      rw [Nat.add_assoc, ← Nat.add_mul, show lo' + (cap - lo') = cap by omega]
      exact r2
theorem good_sstr {t : TypeId} {x : Operand} {x' : X} {lo hi : Option Operand} {xl xh : Option X} {lo' hi' : Nat} {s : ByteArray} (hop : o.op = .slice t x lo hi none) (hu : P.underlying t = some .string) (hx : lX x = some x') (hlo : lXo lo = some xl) (hhi : lXo hi = some xh)
    (ha : AR ρ a act.tmps) (hr : Rel B w0 ρ h w) (hv : evX a x' = .lf (.str s)) (h1 : boundV s.size (evO2 a xh) = some hi') (h2 : boundV 0 (evO2 a xl) = some lo') (hle : lo' ≤ hi') (hhn : hi' ≤ s.size) :
    Good P B w0 o act ρ w (.lf (.str (s.extract lo' hi'))) h := by
  have hx' := lX_sound ha hx
  rw [hv] at hx'
  have ex : act.eval x = .string s := hx'
  have hb := run_bounds (P := P) (w := w) (b := false) (cap := s.size) hlo hhi ha h1 h2 hle hhn
  refine Good.same (v' := .string (s.extract lo' hi')) ?_ rfl hr
  simp [execOp, hop, ex, Instr.sliceAt, Instr.slice, run_underlying hu, hb]
end
end Go.E
