/- Whatever order a region draws; then whole code and loops: what is found of the small form holds of the model's. Plain lemmas; no condition. -/
import Derived.Test.YtgdloogokjemdaaGreatDoorE6
set_option linter.unusedVariables false
set_option linter.unusedSimpArgs false
namespace Go.E
open Go Go.RowKit

section
variable {P : Program} {B : Nat} {w0 : World} {nt : Nat} {lim : Nat} {pf : FuncId → Bool}

/-- Operation i, and then K. -/
def opA (P : Program) (B : Nat) (w0 : World) (lim : Nat) (L : List LOper) (i : Nat) (K : Fr → Hp → Prop) (a : Fr) (h : Hp) : Prop :=
  match L[i]? with
  | none => K a h
  | some o => if wantedL a o.g = true then MO P B w0 lim o.o a h (fun v h' => K (upd a o.d v) h') else K (upd a o.d un) h
/-- Whatever order is taken from here on. -/
def anyA (P : Program) (B : Nat) (w0 : World) (lim : Nat) (ops : Array Oper) (L : List LOper) (Q : Fr → Hp → Prop) : Nat → Array Bool → Fr → Hp → Prop
  | 0, listed, a, h => Region.ready .any ops listed = [] ∧ Q a h
  | n + 1, listed, a, h => (Region.ready .any ops listed = [] → Q a h) ∧ ∀ i ∈ Region.ready .any ops listed, opA P B w0 lim L i (anyA P B w0 lim ops L Q n (listed.setIfInBounds i true)) a h
theorem opA_mono {L : List LOper} {i : Nat} {K K' : Fr → Hp → Prop} {a : Fr} {h : Hp} (hk : ∀ a h, K a h → K' a h) (hh : opA P B w0 lim L i K a h) : opA P B w0 lim L i K' a h := by
  unfold opA at hh ⊢
  split
  · rename_i e; rw [e] at hh; exact hk _ _ hh
  · rename_i o e; rw [e] at hh; simp only at hh
    split
    · rename_i hw; rw [if_pos hw] at hh; exact hh.mono fun v h' => hk _ _
    · rename_i hw; rw [if_neg hw] at hh; exact hk _ _ hh
theorem opA_some {L : List LOper} {i : Nat} {K : Fr → Hp → Prop} {a : Fr} {h : Hp} (hh : opA P B w0 lim L i K a h) : ∃ a' h', K a' h' := by
  unfold opA at hh
  split at hh
  · exact ⟨_, _, hh⟩
  · split at hh
    · obtain ⟨v, h', k⟩ := hh.ex; exact ⟨_, _, k⟩
    · exact ⟨_, _, hh⟩

def gR (g : Option (Nat × Bool)) : List Nat := match g with | none => [] | some (t, _) => [t]
def LOper.rd (o : LOper) : List Nat := o.o.rd ++ gR o.g
/-- What it reads stays there when something is added. -/
def LO.mono : LO → Bool
  | .load .. | .tostr .. => true
  | _ => false
/-- It adds an object, and leaves the others as they are. -/
def LO.adds : LO → Bool
  | .box .. | .alloc .. | .lit .. | .make .. => true
  | _ => false
/-- Neither reads what the other writes, and they write apart. -/
def apartL (x y : LOper) : Bool :=
  (match x.d with | some d => !(y.rd).contains d && y.d != some d | none => true) && (match y.d with | some d => !(x.rd).contains d | none => true) &&
  (x.o.cls == 0 || y.o.cls == 0 || (decide (x.o.cls ≤ 1) && decide (y.o.cls ≤ 1)) || (x.o.mono && y.o.adds))
theorem upd_comm {a : Fr} {d e : Option Nat} {u v : CV} (h : ∀ k, d = some k → e ≠ some k) : upd (upd a d u) e v = upd (upd a e v) d u := by
  cases d with
  | none => rfl
  | some d =>
    cases e with
    | none => rfl
    | some e =>
      have hne : d ≠ e := fun hh => h d rfl (by rw [hh])
      funext t
      simp only [upd]
      by_cases h1 : t = e
      · subst h1; simp [Ne.symm hne]
      · by_cases h2 : t = d
        · subst h2; simp [hne]
        · simp [h1, h2]
theorem upd_rd {a : Fr} {d : Option Nat} {u : CV} {l : List Nat} (h : ∀ k, d = some k → k ∉ l) : ∀ t ∈ l, upd a d u t = a t := by
  intro t ht
  cases d with
  | none => rfl
  | some d =>
    simp only [upd]
    rw [if_neg (fun e => h d rfl (by rw [← e]; exact ht))]
theorem wantedL_upd {a : Fr} {d : Option Nat} {u : CV} {g : Option (Nat × Bool)} (h : ∀ k, d = some k → k ∉ gR g) : wantedL (upd a d u) g = wantedL a g := by
  cases g with
  | none => rfl
  | some p =>
    obtain ⟨t, b⟩ := p
    have := upd_rd (a := a) (u := u) (l := gR (some (t, b))) h t (by simp [gR])
    simp only [wantedL, this]
theorem apartL_spec {x y : LOper} (h : apartL x y = true) : (∀ k, x.d = some k → k ∉ y.rd) ∧ (∀ k, x.d = some k → y.d ≠ some k) ∧ (∀ k, y.d = some k → k ∉ x.rd) ∧ (x.o.cls = 0 ∨ y.o.cls = 0 ∨ (x.o.cls ≤ 1 ∧ y.o.cls ≤ 1) ∨ (x.o.mono = true ∧ y.o.adds = true)) := by
  unfold apartL at h
  simp only [Bool.and_eq_true, Bool.or_eq_true, beq_iff_eq, decide_eq_true_eq] at h
  obtain ⟨⟨h1, h2⟩, h3⟩ := h
  refine ⟨fun k hk => ?_, fun k hk => ?_, fun k hk => ?_, ?_⟩
  · rw [hk] at h1; simp at h1; exact h1.1
  · rw [hk] at h1; simp at h1; exact h1.2
  · rw [hk] at h2; simpa using h2
  · rcases h3 with ((h3 | h3) | h3) | h3
    · exact .inl h3
    · exact .inr (.inl h3)
    · exact .inr (.inr (.inl h3))
    · exact .inr (.inr (.inr h3))
theorem rd_more {h t : Hp} {id off n : Nat} {ls : List Lf} (hr : rdCells h id off n = some ls) : rdCells (h ++ t) id off n = some ls := by
  unfold rdCells at hr ⊢
  split at hr
  · rename_i o e
    rw [List.getElem?_append_left (List.getElem?_eq_some_iff.1 e).1, e]; exact hr
  · cases hr
theorem mono_one {o : LO} {a : Fr} {h : Hp} {K : CV → Hp → Prop} (hc : o.mono = true) (hm : MO P B w0 lim o a h K) : ∃ v, K v h ∧ ∀ (t : Hp) (K' : CV → Hp → Prop), K' v (h ++ t) → MO P B w0 lim o a (h ++ t) K' := by
  have hcl : o.cls ≤ 1 := by cases o <;> simp [LO.mono] at hc <;> simp [LO.cls]
  rcases hm with ⟨v, h', k1, k2⟩ | ⟨f, xs, rfl, k2⟩ | ⟨f, xs, v, rfl, k2, k3, k4⟩ | ⟨x, xs, f, cs, rfl, k2, k3, k4⟩
  · have e := cls1_same hcl k1
    subst e
    refine ⟨v, k2, fun t K' hk => .inl ⟨v, _, ?_, hk⟩⟩
    cases o <;> simp [LO.mono] at hc <;> simp only [evO] at k1 ⊢
    case load ag n x =>
      split at k1
      · obtain ⟨ls, r1, r2⟩ := Option.map_eq_some_iff.1 k1
        injection r2 with r2 _; subst r2
        rw [rd_more r1]; rfl
      · cases k1
    case tostr x =>
      obtain ⟨⟨m, cs⟩, r1, r2⟩ := Option.bind_eq_some_iff.1 k1
      obtain ⟨bs, r3, r4⟩ := Option.map_eq_some_iff.1 r2
      injection r4 with r4 _; subst r4
      have e2 : srcCells 1 (h' ++ t) (evX a x) = some (m, cs) := by
        unfold srcCells at r1 ⊢
        split at r1
        · exact r1
        · split at r1
          · rename_i e
            rw [if_pos e]
            obtain ⟨q, h1, h2⟩ := Option.map_eq_some_iff.1 r1
            rw [rd_more h1]; rw [← h2]; rfl
          · cases r1
        · cases r1
      rw [e2]; simp only [Option.bind_some, r3]; rfl
  · simp [LO.mono] at hc
  · simp [LO.mono] at hc
  · simp [LO.mono] at hc
theorem adds_one {o : LO} {a : Fr} {h : Hp} {K : CV → Hp → Prop} (hc : o.adds = true) (hm : MO P B w0 lim o a h K) : ∃ (v : CV) (t : Hp), (∀ K' : CV → Hp → Prop, K' v (h ++ t) → MO P B w0 lim o a h K') ∧ K v (h ++ t) := by
  rcases hm with ⟨v, h', k1, k2⟩ | ⟨f, xs, rfl, k2⟩ | ⟨f, xs, v, rfl, k2, k3, k4⟩ | ⟨x, xs, f, cs, rfl, k2, k3, k4⟩
  · have e : ∃ t, h' = h ++ t := by
      cases o <;> simp [LO.adds] at hc <;> simp only [evO] at k1
      case box ty x => obtain ⟨_, _, k⟩ := Option.map_eq_some_iff.1 k1; injection k with _ e; exact ⟨_, e.symm⟩
      case alloc ty z => injection k1 with k1; injection k1 with _ e; exact ⟨_, e.symm⟩
      case lit ty sz len z ps =>
        obtain ⟨_, _, k1⟩ := Option.bind_eq_some_iff.1 k1
        obtain ⟨_, _, k⟩ := Option.map_eq_some_iff.1 k1
        injection k with _ e; exact ⟨_, e.symm⟩
      case make ty sz by_ z l c =>
        split at k1
        · split at k1
          · injection k1 with k1; injection k1 with _ e; exact ⟨_, e.symm⟩
          · cases k1
        · cases k1
    obtain ⟨t, rfl⟩ := e
    exact ⟨v, t, fun K' hk => .inl ⟨v, _, k1, hk⟩, k2⟩
  · simp [LO.adds] at hc
  · simp [LO.adds] at hc
  · simp [LO.adds] at hc
/-- Two that are apart may change places. -/
theorem opA_swap {L : List LOper} {i j : Nat} {x y : LOper} (hx : L[i]? = some x) (hy : L[j]? = some y) (hap : apartL x y = true) {K : Fr → Hp → Prop} {a : Fr} {h : Hp}
    (hh : opA P B w0 lim L i (fun a1 h1 => opA P B w0 lim L j K a1 h1) a h) : opA P B w0 lim L j (fun a1 h1 => opA P B w0 lim L i K a1 h1) a h := by
  obtain ⟨p1, p2, p3, p4⟩ := apartL_spec hap
  have gx : ∀ u, wantedL (upd a y.d u) x.g = wantedL a x.g := fun u => wantedL_upd fun k hk hm => p3 k hk (by simp [LOper.rd, hm])
  have gy : ∀ u, wantedL (upd a x.d u) y.g = wantedL a y.g := fun u => wantedL_upd fun k hk hm => p1 k hk (by simp [LOper.rd, hm])
  have ex : ∀ (u : CV) (h2 : Hp) (K' : CV → Hp → Prop), MO P B w0 lim x.o a h2 K' → MO P B w0 lim x.o (upd a y.d u) h2 K' := fun u h2 K' => MO.cong fun t ht => (upd_rd (a := a) (u := u) (l := x.o.rd) (fun k hk hm => p3 k hk (by simp [LOper.rd, hm])) t ht).symm
  have ey : ∀ (u : CV) (h2 : Hp) (K' : CV → Hp → Prop), MO P B w0 lim y.o (upd a x.d u) h2 K' → MO P B w0 lim y.o a h2 K' := fun u h2 K' => MO.cong fun t ht => upd_rd (a := a) (u := u) (l := y.o.rd) (fun k hk hm => p1 k hk (by simp [LOper.rd, hm])) t ht
  have cm : ∀ u v, upd (upd a x.d u) y.d v = upd (upd a y.d v) x.d u := fun u v => upd_comm p2
  unfold opA at hh ⊢
  simp only [hx, hy] at hh ⊢
  simp only [gx, gy] at hh ⊢
  by_cases wx : wantedL a x.g = true
  · rw [if_pos wx] at hh
    simp only [if_pos wx]
    by_cases wy : wantedL a y.g = true
    · simp only [if_pos wy] at hh
      rw [if_pos wy]
      replace hh := hh.mono fun v h1 => ey v h1 _
      rcases p4 with c | c | ⟨c1, c2⟩ | ⟨c1, c2⟩
      · obtain ⟨v, k1, _, k3⟩ := hh.one (by omega)
        exact k1.mono fun u h2 hk => ex u h2 _ (k3 c h2 _ (by rw [← cm]; exact hk))
      · obtain ⟨v, h1, k1⟩ := hh.ex
        obtain ⟨u, q1, _, q3⟩ := k1.one (by omega)
        refine q3 c h _ (ex u h _ (hh.mono fun v' h1' k' => ?_))
        have := MO.det c (fun K' hk => q3 c h1 K' hk) k'
        rw [← cm]; exact this
      · obtain ⟨v, k1, k2, _⟩ := hh.one c1
        obtain ⟨u, q1, q2, _⟩ := k1.one c2
        exact q2 _ (ex u h _ (k2 _ (by rw [← cm]; exact q1)))
      · obtain ⟨v, k1, k2⟩ := mono_one c1 hh
        obtain ⟨u, t, q1, q2⟩ := adds_one c2 k1
        exact q1 _ (ex u _ _ (k2 t _ (by rw [← cm]; exact q2)))
    · simp only [if_neg wy] at hh
      rw [if_neg wy]
      exact ex _ _ _ (hh.mono fun v h1 hk => by rw [← cm]; exact hk)
  · rw [if_neg wx] at hh
    simp only [if_neg wx]
    by_cases wy : wantedL a y.g = true
    · rw [if_pos wy] at hh
      rw [if_pos wy]
      exact (ey _ _ _ hh).mono fun u h2 hk => by rw [← cm]; exact hk
    · rw [if_neg wy] at hh
      rw [if_neg wy, ← cm]
      exact hh

/-- What an operation waits for, through others. -/
def anc (ops : Array Oper) : Nat → Nat → List Nat
  | 0, _ => []
  | n + 1, j => match ops[j]? with
    | none => []
    | some o => o.after.toList.flatMap fun e => if Region.binds .any e then e.on :: anc ops n e.on else []
/-- What is listed brings what it waits for. -/
def Closed (ops : Array Oper) (listed : Array Bool) : Prop := ∀ (j : Nat) (o : Oper), listed.getD j false = true → ops[j]? = some o → ∀ e ∈ o.after, Region.binds .any e = true → listed.getD e.on false = true
theorem anc_listed {ops : Array Oper} {listed : Array Bool} (hc : Closed ops listed) : ∀ (n j : Nat), (∀ o, ops[j]? = some o → ∀ e ∈ o.after, Region.binds .any e = true → listed.getD e.on false = true) → ∀ k ∈ anc ops n j, listed.getD k false = true
  | 0, j, _, k, hk => by simp [anc] at hk
  | n + 1, j, hj, k, hk => by
    unfold anc at hk
    split at hk
    · cases hk
    · rename_i o ho
      rw [List.mem_flatMap] at hk
      obtain ⟨e, he, hk⟩ := hk
      split at hk
      · rename_i hb
        have h1 := hj o ho e (by simpa using he) hb
        rcases List.mem_cons.1 hk with rfl | hk
        · exact h1
        · exact anc_listed hc n e.on (fun o' ho' e' he' hb' => hc e.on o' h1 ho' e' he' hb') k hk
      · cases hk
theorem ready_after {ops : Array Oper} {listed : Array Bool} {j : Nat} (h : j ∈ Region.ready .any ops listed) : ∀ o, ops[j]? = some o → ∀ e ∈ o.after, Region.binds .any e = true → listed.getD e.on false = true := by
  obtain ⟨_, o, ho, hall⟩ := mem_ready.1 h
  intro o' ho' e he hb
  rw [ho] at ho'; injection ho' with ho'; subst ho'
  exact hall e he hb
theorem Closed.set {ops : Array Oper} {listed : Array Bool} {j : Nat} (hc : Closed ops listed) (h : j ∈ Region.ready .any ops listed) : Closed ops (listed.setIfInBounds j true) := by
  intro k o hk ho e he hb
  have up : ∀ i, listed.getD i false = true → (listed.setIfInBounds j true).getD i false = true := by
    intro i hi
    by_cases e : j = i
    · subst e
      rcases Nat.lt_or_ge j listed.size with h' | h'
      · simp [h']
      · simp [Array.getElem?_eq_none h'] at hi
    · simpa [Array.getElem?_setIfInBounds, e] using hi
  by_cases e' : j = k
  · subst e'; exact up _ (ready_after h o ho e he hb)
  · exact up _ (hc k o (by simpa [Array.getElem?_setIfInBounds, e'] using hk) ho e he hb)
/-- **An operation that may come up now may be taken first.** -/
theorem anyA_first {ops : Array Oper} {L : List LOper} {Q : Fr → Hp → Prop} {n i : Nat} {x : LOper} (hx : L[i]? = some x) (hLs : ∀ j : Nat, j < ops.size → ∃ y, L[j]? = some y) :
    ∀ (fuel : Nat) (listed : Array Bool) (a : Fr) (h : Hp), Closed ops listed →
      (∀ (j : Nat) (y : LOper), L[j]? = some y → j ≠ i → listed.getD j true = false → i ∉ anc ops n j → apartL x y = true) → i ∈ Region.ready .any ops listed →
      opA P B w0 lim L i (anyA P B w0 lim ops L Q fuel (listed.setIfInBounds i true)) a h → anyA P B w0 lim ops L Q (fuel + 1) listed a h := by
  intro fuel
  induction fuel with
  | zero =>
    intro listed a h hcl _ hr H
    refine ⟨fun e => (by rw [e] at hr; cases hr), fun j hj => ?_⟩
    by_cases hji : j = i
    · subst hji; exact H
    · have hm := ready_mono hj hji
      obtain ⟨a', h', k⟩ := opA_some H
      rw [k.1] at hm; cases hm
  | succ fuel ih =>
    intro listed a h hcl hfree hr H
    refine ⟨fun e => (by rw [e] at hr; cases hr), fun j hj => ?_⟩
    by_cases hji : j = i
    · subst hji; exact H
    · obtain ⟨hjun, oj, hoj, hall⟩ := mem_ready.1 hj
      obtain ⟨y, hy⟩ := hLs j (by have := (Array.getElem?_eq_some_iff.1 hoj).1; exact this)
      have hiun : listed.getD i false = false := by
        have h0 := (mem_ready.1 hr).1
        rcases Nat.lt_or_ge i listed.size with h' | h'
        · simpa [h'] using h0
        · simp [Array.getElem?_eq_none h']
      have hanc : i ∉ anc ops n j := fun hm => by
        have := anc_listed hcl n j (ready_after hj) i hm
        rw [hiun] at this; cases this
      have hap := hfree j y hy hji hjun hanc
      have h2 := opA_mono (K' := fun a1 h1 => opA P B w0 lim L j (anyA P B w0 lim ops L Q fuel ((listed.setIfInBounds i true).setIfInBounds j true)) a1 h1)
        (fun a1 h1 hh => hh.2 j (ready_mono hj hji)) H
      have h3 := opA_swap hx hy hap h2
      refine opA_mono (fun a1 h1 hh => ih (listed.setIfInBounds j true) a1 h1 (hcl.set hj) ?_ (ready_mono hr (Ne.symm hji)) ?_) h3
      · intro k z hz hki hun hno
        refine hfree k z hz hki ?_ hno
        by_cases hjk : j = k
        · subst hjk; exact hjun
        · rw [getD_set_ne true hjk] at hun; exact hun
      · rw [Array.setIfInBounds_comm _ _ hji]; exact hh

/-! ### The tree of orders -/
def stepT (L : List LOper) (i : Nat) (t : OT) : OT := match L[i]? with | some o => .op o t | none => .bad
def alts : List OT → OT
  | [] => .bad
  | [t] => t
  | t :: r => .alt t (alts r)
/-- It may be taken first: whatever may come up beside it is apart from it. -/
def freeOK (ops : Array Oper) (L : List LOper) (listed : Array Bool) (i : Nat) : Bool := match L[i]? with
  | none => false
  | some x => (List.range ops.size).all fun j => j == i || listed.getD j true || (anc ops ops.size j).contains i || (match L[j]? with | some y => apartL x y | none => false)
def tree (ops : Array Oper) (L : List LOper) : Nat → Array Bool → OT
  | 0, listed => if (Region.ready .any ops listed).isEmpty then .nil else .bad
  | n + 1, listed => if (Region.ready .any ops listed).isEmpty then .nil else match (Region.ready .any ops listed).find? (freeOK ops L listed) with
    | some i => stepT L i (tree ops L n (listed.setIfInBounds i true))
    | none => alts ((Region.ready .any ops listed).map fun i => stepT L i (tree ops L n (listed.setIfInBounds i true)))
theorem alts_get : ∀ {l : List OT} {t : OT}, t ∈ l → ∀ {a : Fr} {h : Hp} {Q : Fr → Hp → Prop}, TM P B w0 lim (alts l) a h Q → TM P B w0 lim t a h Q
  | [t'], t, ht, a, h, Q, hh => by simp at ht; subst ht; exact hh
  | t' :: t2 :: r, t, ht, a, h, Q, hh => by
    unfold alts TM at hh
    rcases List.mem_cons.1 ht with rfl | ht
    · exact hh.1
    · exact alts_get ht hh.2
theorem stepT_op {L : List LOper} {i : Nat} {t : OT} {a : Fr} {h : Hp} {Q : Fr → Hp → Prop} (hh : TM P B w0 lim (stepT L i t) a h Q) : ∃ x, L[i]? = some x ∧ opA P B w0 lim L i (fun a1 h1 => TM P B w0 lim t a1 h1 Q) a h := by
  unfold stepT at hh
  split at hh
  · rename_i o e
    refine ⟨o, e, ?_⟩
    unfold opA
    rw [e]
    exact hh
  · exact hh.elim
theorem tree_any {ops : Array Oper} {L : List LOper} (hlen : L.length = ops.size) {Q : Fr → Hp → Prop} : ∀ (n : Nat) (listed : Array Bool) (a : Fr) (h : Hp), Closed ops listed → TM P B w0 lim (tree ops L n listed) a h Q → anyA P B w0 lim ops L Q n listed a h
  | 0, listed, a, h, hcl, hh => by
    unfold tree at hh
    split at hh
    · rename_i e; exact ⟨by simpa using e, hh⟩
    · exact hh.elim
  | n + 1, listed, a, h, hcl, hh => by
    unfold tree at hh
    split at hh
    · rename_i e
      have e' : Region.ready .any ops listed = [] := by simpa using e
      exact ⟨fun _ => hh, fun i hi => by rw [e'] at hi; cases hi⟩
    · rename_i e
      split at hh
      · rename_i i hi
        have h1 := List.mem_of_find?_eq_some hi
        have h2 := List.find?_some hi
        obtain ⟨x, hx, hop⟩ := stepT_op hh
        refine anyA_first (n := ops.size) hx (fun j hj => ⟨L[j]'(by omega), List.getElem?_eq_getElem (by omega)⟩) n listed a h hcl ?_ h1 (opA_mono (fun a1 h1' k => tree_any hlen n _ a1 h1' (hcl.set h1) k) hop)
        intro j y hy hne hun hno
        unfold freeOK at h2
        rw [hx] at h2
        simp only [List.all_eq_true] at h2
        have hj : j < ops.size := by rw [← hlen]; exact (List.getElem?_eq_some_iff.1 hy).1
        have := h2 j (by simpa using hj)
        rw [hy, hun] at this
        simp only [Bool.or_eq_true, beq_iff_eq, List.contains_iff_mem, Bool.false_eq_true, or_false] at this
        rcases this with (h3 | h3) | h3
        · exact absurd h3 hne
        · exact absurd h3 hno
        · exact h3
      · refine ⟨fun e' => absurd (by simpa using e') e, fun i hi => ?_⟩
        have h1 := alts_get (List.mem_map.2 ⟨i, hi, rfl⟩) hh
        obtain ⟨x, hx, hop⟩ := stepT_op h1
        exact opA_mono (fun a1 h1' k => tree_any hlen n _ a1 h1' (hcl.set hi) k) hop
def OT.lin : OT → Option (List LOper)
  | .nil => some []
  | .op o r => r.lin.map (o :: ·)
  | _ => none
theorem lin_ofL : ∀ {t : OT} {l : List LOper}, t.lin = some l → t = OT.ofL l
  | .nil, l, h => by injection h with h; subst h; rfl
  | .op o r, l, h => by
    obtain ⟨q, h1, rfl⟩ := Option.map_eq_some_iff.1 h
    unfold OT.ofL; rw [← lin_ofL h1]
  | .alt _ _, l, h => by cases h
  | .bad, l, h => by cases h
theorem lOps_get {ops : Array Oper} : ∀ {l : List Oper} {ll : List LOper}, lOps P pf nt ops l = some ll → ll.length = l.length ∧ ∀ (i : Nat) (o : Oper), l[i]? = some o → ∃ x, ll[i]? = some x ∧ lOper P pf nt ops o = some x
  | [], ll, hl => by injection hl with hl; subst hl; simp
  | o :: r, ll, hl => by
    unfold lOps at hl
    obtain ⟨x, h1, hl⟩ := Option.bind_eq_some_iff.1 hl
    obtain ⟨q, h2, rfl⟩ := Option.map_eq_some_iff.1 hl
    obtain ⟨k1, k2⟩ := lOps_get h2
    refine ⟨by simp [k1], fun i o' ho => ?_⟩
    cases i with
    | zero => simp at ho; subst ho; exact ⟨x, by simp, h1⟩
    | succ i => simpa using k2 i o' (by simpa using ho)
/-- From these orders to the model's. -/
theorem anyA_sound {ops : Array Oper} {L : List LOper} (hL : lOps P pf nt ops ops.toList = some L) {Q : Fr → Hp → Prop} {Q' : Exit → Act → World → Prop} {ρ0 : Lo} {h0 : Hp}
    (hQ : ∀ ρ a h act w, Ext ρ0 ρ → Stt B w0 nt ρ a h act w → Keeps lim h0 h → Q a h → Q' .normal act w) : ∀ (fuel : Nat) (listed : Array Bool) (ρ : Lo) (a : Fr) (h : Hp) (act : Act) (w : World), Ext ρ0 ρ → Stt B w0 nt ρ a h act w → Keeps lim h0 h →
      anyA P B w0 lim ops L Q fuel listed a h → wpAny P .any ops Q' fuel listed act w
  | 0, listed, ρ, a, h, act, w, he, hs, hk, H => ⟨H.1, hQ ρ a h act w he hs hk H.2⟩
  | n + 1, listed, ρ, a, h, act, w, he, hs, hk, H => by
    refine ⟨fun e => hQ ρ a h act w he hs hk (H.1 e), fun i hi => ?_⟩
    have h1 := H.2 i hi
    unfold wpOp
    split
    · rename_i e
      obtain ⟨_, o, ho, _⟩ := mem_ready.1 hi
      rw [e] at ho; cases ho
    · rename_i o ho
      obtain ⟨x, hx, hc⟩ := (lOps_get hL).2 i o (by simpa using ho)
      unfold opA at h1
      rw [hx] at h1
      simp only at h1
      have := lOper_sound (R := anyA P B w0 lim ops L Q n (listed.setIfInBounds i true)) hc hs h1 (next := wpAny P .any ops Q' n (listed.setIfInBounds i true)) (Q := Q') fun ρ' a' h' act' w' q1 q2 q3 q4 =>
        anyA_sound hL hQ n _ ρ' a' h' act' w' (he.trans q1) q2 (hk.trans q3) q4
      split
      · rename_i hw; rw [if_pos hw] at this; exact .inl this
      · rename_i hw; rw [if_neg hw] at this; exact this
end

/-! ### Code -/
def lC (P : Program) (pf : FuncId → Bool) (nt : Nat) : Code → Option LC
  | .skip => some .skip
  | .region _ ops draw => (lOps P pf nt ops ops.toList).bind fun L => if draw then (if P.follows .mixedOrders then match (tree ops L ops.size (Array.replicate ops.size false)).lin with
      | some l => some (.reg l)
      | none => some (.any (tree ops L ops.size (Array.replicate ops.size false))) else none) else some (.reg L)
  | .seq a b => (lC P pf nt a).bind fun a => (lC P pf nt b).map fun b => .seq a b
  | .cond c a b => (lX c).bind fun c => (lC P pf nt a).bind fun a => (lC P pf nt b).map fun b => .cond c a b
  | .block id c => (lC P pf nt c).map (.block id)
  | .loop c => (lC P pf nt c).map .loop
  | .exit id => some (.exit id)
  | .ret => some .ret
  | _ => none
def Ex.to : Ex → Exit
  | .norm => .normal
  | .exit id => .exit id
  | .ret => .ret

section
variable {P : Program} {B : Nat} {w0 : World} {nt : Nat} {lim : Nat} {pf : FuncId → Bool}
/-- What is held behind a piece of code. -/
def Post (B : Nat) (w0 : World) (nt lim : Nat) (ρ : Lo) (h : Hp) (Q : Ex → Fr → Hp → Prop) : Exit → Act → World → Prop := fun e act' w' => ∃ ρ' ex a' h', e = ex.to ∧ Ext ρ ρ' ∧ Stt B w0 nt ρ' a' h' act' w' ∧ Keeps lim h h' ∧ Q ex a' h'
theorem wp_mono' {c : Code} {Q Q' : Exit → Act → World → Prop} {act : Act} {w : World} (hw : c.wp P Q act w) (hQ : ∀ e a w, Q e a w → Q' e a w) : c.wp P Q' act w := by
  intro b k cs
  obtain ⟨e, a', w', h1, h2⟩ := hw b k cs
  exact ⟨e, a', w', hQ _ _ _ h1, h2⟩
/-- A loop, entered at its body. -/
def LoopWp (P : Program) (c : Code) (Q : Exit → Act → World → Prop) (a : Act) (w : World) : Prop := ∀ (b : Frame) (k : List Item) (cs : List Frame),
  ∃ e a' w', Q e a' w' ∧ Arrives P (lone (b.at a (.code c :: .inLoop c :: k)) cs w) b k cs e a' w'
theorem wp_of_loop {c : Code} {Q : Exit → Act → World → Prop} {act : Act} {w : World} (h : LoopWp P c Q act w) : (Code.loop c).wp P Q act w := by
  intro b k cs
  obtain ⟨e, a', w', hq, harr⟩ := h b k cs
  exact ⟨e, a', w', hq, .of_steps (.one step_loop) harr⟩
theorem loop_round {c : Code} {Q : Exit → Act → World → Prop} {act : Act} {w : World} (h : c.wp P (fun e a w => match e with | .normal => LoopWp P c Q a w | e => Q e a w) act w) : LoopWp P c Q act w := by
  intro b k cs
  obtain ⟨e, a₁, w₁, hq, harr⟩ := h b (.inLoop c :: k) cs
  cases e with
  | normal =>
    obtain ⟨e₂, a₂, w₂, hq₂, harr₂⟩ := hq b k cs
    exact ⟨e₂, a₂, w₂, hq₂, .of_steps (Steps.trans harr (.one step_inLoop)) harr₂⟩
  | exit id => exact ⟨_, a₁, w₁, hq, .pass (x := .inLoop c) rfl (fun _ _ => .inl (by simp)) harr⟩
  | goto l => exact ⟨_, a₁, w₁, hq, .pass (x := .inLoop c) rfl (fun _ _ => .inl (by simp)) harr⟩
  | ret => exact ⟨_, a₁, w₁, hq, .pass (x := .inLoop c) rfl (fun _ _ => .inl (by simp)) harr⟩
  | panic ch => exact ⟨_, a₁, w₁, hq, .pass (x := .inLoop c) rfl (fun _ _ => .inl (by simp)) harr⟩
  | outgrown => exact ⟨_, a₁, w₁, hq, .pass (x := .inLoop c) rfl (fun _ _ => .inl (by simp)) harr⟩
/-- What is found of the small form, said of the model. -/
def Means (P : Program) (B : Nat) (w0 : World) (pf : FuncId → Bool) : J → Prop
  | .code lim lc a h Q => ∀ nt ρ act w, Stt B w0 nt ρ a h act w → (∀ c, lC P pf nt c = some lc → c.wp P (Post B w0 nt lim ρ h Q) act w) ∧ (∀ c lc', lc = .loop lc' → lC P pf nt c = some lc' → LoopWp P c (Post B w0 nt lim ρ h Q) act w)
  | .ops lim t a h Q => TM P B w0 lim t a h Q
  | .op lim o a h K => MO P B w0 lim o a h K
  | .call f args h lim K => MC P B w0 f args h lim K
theorem TM.mono {t : OT} : ∀ {a : Fr} {h : Hp} {Q Q' : Fr → Hp → Prop}, TM P B w0 lim t a h Q → (∀ a h, Q a h → Q' a h) → TM P B w0 lim t a h Q' := by
  induction t with
  | nil => intro a h Q Q' hh hk; exact hk _ _ hh
  | op o r ih =>
    intro a h Q Q' hh hk
    unfold TM at hh ⊢
    split
    · rename_i hw; rw [if_pos hw] at hh; exact hh.mono fun v h' k => ih k hk
    · rename_i hw; rw [if_neg hw] at hh; exact ih hh hk
  | alt s t ih1 ih2 => intro a h Q Q' hh hk; exact ⟨ih1 hh.1 hk, ih2 hh.2 hk⟩
  | bad => intro a h Q Q' hh hk; exact hh.elim
theorem region_sound {id : Nat} {ops : Array Oper} {draw : Bool} {lc : LC} (hc : lC P pf nt (.region id ops draw) = some lc) {t : OT} (ht : lc = .any t ∨ ∃ l, lc = .reg l ∧ t = OT.ofL l) {ρ : Lo} {a : Fr} {h : Hp} {act : Act} {w : World} (hs : Stt B w0 nt ρ a h act w) {Q : Ex → Fr → Hp → Prop}
    (hh : TM P B w0 lim t a h (Q .norm)) : (Code.region id ops draw).wp P (Post B w0 nt lim ρ h Q) act w := by
  unfold lC at hc
  obtain ⟨L, hL, hc⟩ := Option.bind_eq_some_iff.1 hc
  cases draw
  · simp only [Bool.false_eq_true, if_false] at hc
    injection hc with hc; subst hc
    rcases ht with e | ⟨l, e, rfl⟩
    · cases e
    · injection e with e; subst e
      exact wp_region_list (evOps_sound hL hs hh fun ρ' a' h' act' w' q1 q2 q3 q4 => ⟨ρ', .norm, a', h', rfl, q1, q2, q3, q4⟩)
  · simp only [if_true] at hc
    split at hc
    · rename_i hm
      have ht2 : t = tree ops L ops.size (Array.replicate ops.size false) := by
        split at hc
        · rename_i l hl
          injection hc with hc; subst hc
          rcases ht with e | ⟨l', e, rfl⟩
          · cases e
          · injection e with e; subst e; exact (lin_ofL hl).symm
        · injection hc with hc; subst hc
          rcases ht with e | ⟨l', e, _⟩
          · injection e with e; exact e.symm
          · cases e
      subst ht2
      refine wp_region_any hm ?_
      have hs1 : Stt B w0 nt ρ a h act { w with drawn := w.drawn + 1 } := ⟨hs.ar, hs.nt, hs.df, hs.rel.drewN 1⟩
      refine anyA_sound (lim := lim) hL (Q := Q .norm) (ρ0 := ρ) (h0 := h) (fun ρ' a1 h1 act1 w1 q1 q2 q3 q4 => ⟨ρ', .norm, a1, h1, rfl, q1, q2, q3, q4⟩) ops.size _ ρ a h act _ (Ext.refl _) hs1 (Keeps.refl _ _) ?_
      refine tree_any (by rw [(lOps_get hL).1]; simp) ops.size _ a h ?_ hh
      intro j o hj ho e he hb
      rw [show (Array.replicate ops.size false).getD j false = false by
        simp only [Array.getD_eq_getD_getElem?, Array.getElem?_replicate]; split <;> rfl] at hj
      cases hj
    · cases hc
end

/-! ### Functions -/
def lRes (P : Program) (rs : List ResultVar) : Option (List Rs) :=
  match rs with
  | [] => some []
  | .tmp t :: r => (lRes P r).map fun q => .tmp t :: q
  | .cell t ty :: r => (aggT P ty).bind fun ag => (szT P ty).bind fun n => if ag = true ∨ n = 1 then (lRes P r).map fun q => .cell t ag n :: q else none
/-- A function of the program in the small form. -/
def lFn (P : Program) (pf : FuncId → Bool) (fn : Func) : Option LFn :=
  match fn.body with
  | none => none
  | some c => if fn.params.size + fn.nfree ≤ fn.ntmps ∧ (fn.name == "runtime.NumGoroutine") = false then (lC P pf fn.ntmps c).bind fun c => (lRes P fn.results.toList).map fun r => ⟨fn.params.size + fn.nfree, c, r⟩ else none
structure SysOK (P : Program) (pf : FuncId → Bool) (S : Sys) (B : Nat) (w0 : World) : Prop where
  fs : ∀ (f : FuncId) (F : LFn), S.fs f = some F → ∃ fn, P.funcs[f]? = some fn ∧ lFn P pf fn = some F
  xt : CallOK P B w0 S.xt
end Go.E
