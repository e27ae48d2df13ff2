/- A calculus over the evaluator: what must hold before a piece of code, so that it comes to an end and Q holds behind it. Plain lemmas; no condition. -/
import Derived.Test.YtgdloogokjemdaaGreatDoorE8
set_option linter.unusedVariables false
set_option linter.unusedSimpArgs false
namespace Go.E
open Go

/-- The call comes to some v and heap of which K holds. -/
def CallT (S : Sys) (p : Bool) (f : FuncId) (args : List CV) (h : Hp) (lim : Nat) (K : CV → Hp → Prop) : Prop :=
  if p then ∃ v, Holds S (.call f args h h.length fun u _ => u = v) ∧ v.plain = true ∧ K v h else Holds S (.call f args h lim K)
def oc (o : Option (CV × Hp)) (K : CV → Hp → Prop) : Prop := match o with | some (v, h) => K v h | none => False
def wO (S : Sys) (lim : Nat) (o : LO) (a : Fr) (h : Hp) (K : CV → Hp → Prop) : Prop :=
  match o with
  | .call p f xs => CallT S p f (xs.map (evX a)) h lim K
  | .callv x xs => match evX a x with
    | .lf (.fn f cs) => (∃ F, S.fs f = some F) ∧ CallT S false f (xs.map (evX a) ++ ptrs cs) h lim K
    | _ => False
  | o => oc (evO nc lim o a h) K
def WO (S : Sys) (lim : Nat) : List LOper → Fr → Hp → (Fr → Hp → Prop) → Prop
  | [], a, h, Q => Q a h
  | o :: r, a, h, Q => if wantedL a o.g = true then wO S lim o.o a h (fun v h' => WO S lim r (upd a o.d v) h' Q) else WO S lim r (upd a o.d un) h Q
def WT (S : Sys) (lim : Nat) : OT → Fr → Hp → (Fr → Hp → Prop) → Prop
  | .nil, a, h, Q => Q a h
  | .op o r, a, h, Q => if wantedL a o.g = true then wO S lim o.o a h (fun v h' => WT S lim r (upd a o.d v) h' Q) else WT S lim r (upd a o.d un) h Q
  | .alt s t, a, h, Q => WT S lim s a h Q ∧ WT S lim t a h Q
  | .bad, _, _, _ => False
def WL (S : Sys) (lim : Nat) (c : LC) (a : Fr) (h : Hp) (Q : Ex → Fr → Hp → Prop) : Prop := Holds S (.code lim (.loop c) a h Q)
def W (S : Sys) (lim : Nat) : LC → Fr → Hp → (Ex → Fr → Hp → Prop) → Prop
  | .skip, a, h, Q => Q .norm a h
  | .reg ops, a, h, Q => WO S lim ops a h (Q .norm)
  | .any t, a, h, Q => WT S lim t a h (Q .norm)
  | .seq c d, a, h, Q => W S lim c a h (fun e a' h' => match e with | .norm => W S lim d a' h' Q | e => Q e a' h')
  | .cond x c d, a, h, Q => match evX a x with | .lf (.bool b) => if b = true then W S lim c a h Q else W S lim d a h Q | _ => False
  | .block id c, a, h, Q => W S lim c a h (Upto id Q)
  | .loop c, a, h, Q => WL S lim c a h Q
  | .exit id, a, h, Q => Q (.exit id) a h
  | .ret, a, h, Q => Q .ret a h
  | .bad, _, _, _ => False
/-! What is left to do, as data: nothing in it is to be rewritten before its turn. -/
def Kt (S : Sys) (lim : Nat) (d : Option Nat) (r : List LOper) (a : Fr) (Q : Fr → Hp → Prop) : CV → Hp → Prop := fun v h => WO S lim r (upd a d v) h Q
def Gd (S : Sys) (lim : Nat) (b : Bool) (o : LOper) (r : List LOper) (a : Fr) (h : Hp) (Q : Fr → Hp → Prop) : Prop := if b = true then wO S lim o.o a h (Kt S lim o.d r a Q) else WO S lim r (upd a o.d un) h Q
def Sq (S : Sys) (lim : Nat) (d : LC) (Q : Ex → Fr → Hp → Prop) : Ex → Fr → Hp → Prop := fun e a h => match e with | .norm => W S lim d a h Q | e => Q e a h
def Br (S : Sys) (lim : Nat) (v : CV) (c d : LC) (a : Fr) (h : Hp) (Q : Ex → Fr → Hp → Prop) : Prop := match v with | .lf (.bool b) => if b = true then W S lim c a h Q else W S lim d a h Q | _ => False
def Lp {α : Type} (I : α → Fr → Hp → Prop) (m : α → Nat) (x : α) (Q : Ex → Fr → Hp → Prop) : Ex → Fr → Hp → Prop := fun e a h => match e with | .norm => ∃ x', m x' < m x ∧ I x' a h | e => Q e a h

def KtT (S : Sys) (lim : Nat) (d : Option Nat) (r : OT) (a : Fr) (Q : Fr → Hp → Prop) : CV → Hp → Prop := fun v h => WT S lim r (upd a d v) h Q
def GdT (S : Sys) (lim : Nat) (b : Bool) (o : LOper) (r : OT) (a : Fr) (h : Hp) (Q : Fr → Hp → Prop) : Prop := if b = true then wO S lim o.o a h (KtT S lim o.d r a Q) else WT S lim r (upd a o.d un) h Q

theorem wO_sound {S : Sys} {lim : Nat} {o : LO} {a : Fr} {h : Hp} {K : CV → Hp → Prop} (hw : wO S lim o a h K) : Holds S (.op lim o a h K) := by
  unfold wO at hw
  split at hw
  · rename_i p f xs
    cases p
    · exact .call hw
    · obtain ⟨v, h1, h2, h3⟩ := hw
      exact .pure h2 h1 h3
  · split at hw
    · rename_i e
      obtain ⟨⟨F, hF⟩, h1⟩ := hw
      exact .callv hF e h1
    · exact hw.elim
  · unfold oc at hw
    split at hw
    · rename_i e; exact .plain e hw
    · exact hw.elim
theorem WT_sound {S : Sys} {lim : Nat} : ∀ {t : OT} {a : Fr} {h : Hp} {Q : Fr → Hp → Prop}, WT S lim t a h Q → Holds S (.ops lim t a h Q)
  | .nil, a, h, Q, hw => .onil hw
  | .op o r, a, h, Q, hw => by
    unfold WT at hw
    split at hw
    · rename_i hg; exact .oop hg (wO_sound hw) fun v h' k => WT_sound k
    · rename_i hg; exact .oskip (by simpa using hg) (WT_sound hw)
  | .alt s t, a, h, Q, hw => .oalt (WT_sound hw.1) (WT_sound hw.2)
  | .bad, a, h, Q, hw => hw.elim
theorem WO_sound {S : Sys} {lim : Nat} : ∀ {ops : List LOper} {a : Fr} {h : Hp} {Q : Fr → Hp → Prop}, WO S lim ops a h Q → Holds S (.ops lim (OT.ofL ops) a h Q)
  | [], a, h, Q, hw => .onil hw
  | o :: r, a, h, Q, hw => by
    unfold WO at hw
    unfold OT.ofL
    split at hw
    · rename_i hg; exact .oop hg (wO_sound hw) fun v h' k => WO_sound k
    · rename_i hg; exact .oskip (by simpa using hg) (WO_sound hw)
theorem W_sound {S : Sys} {lim : Nat} : ∀ {c : LC} {a : Fr} {h : Hp} {Q : Ex → Fr → Hp → Prop}, W S lim c a h Q → Holds S (.code lim c a h Q)
  | .skip, a, h, Q, hw => .skip hw
  | .reg ops, a, h, Q, hw => .reg (WO_sound hw)
  | .any t, a, h, Q, hw => .any (WT_sound hw)
  | .seq c d, a, h, Q, hw => .seq (W_sound (c := c) hw) (fun a' h' k => W_sound (c := d) k) (fun e a' h' hne k => by cases e; exact (hne rfl).elim; exact k; exact k)
  | .cond x c d, a, h, Q, hw => by
    unfold W at hw
    split at hw
    · rename_i b e
      refine .cond e ?_
      cases b
      · simpa using W_sound (c := d) (by simpa using hw)
      · simpa using W_sound (c := c) (by simpa using hw)
    · exact hw.elim
  | .block id c, a, h, Q, hw => .block (W_sound (c := c) hw)
  | .loop c, a, h, Q, hw => hw
  | .exit id, a, h, Q, hw => .exit hw
  | .ret, a, h, Q, hw => .ret hw

theorem WL_rule0 {S : Sys} {lim : Nat} {c : LC} {Q : Ex → Fr → Hp → Prop} {α : Type} (I : α → Fr → Hp → Prop) (m : α → Nat)
    (step : ∀ x a h, I x a h → Holds S (.code lim c a h (Lp I m x Q))) {x : α} {a : Fr} {h : Hp} (h0 : I x a h) : WL S lim c a h Q := by
  have key : ∀ k x a h, m x ≤ k → I x a h → WL S lim c a h Q := by
    intro k
    induction k with
    | zero =>
      intro x a h hm hi
      refine .loop (step x a h hi) (fun a' h' k => ?_) (fun e a' h' hne k => by cases e; exact (hne rfl).elim; exact k; exact k)
      obtain ⟨x', hx, _⟩ := k; omega
    | succ k ih =>
      intro x a h hm hi
      refine .loop (step x a h hi) (fun a' h' k => ?_) (fun e a' h' hne k => by cases e; exact (hne rfl).elim; exact k; exact k)
      obtain ⟨x', hx, hi'⟩ := k
      exact ih x' a' h' (by omega) hi'
  exact key (m x) x a h (Nat.le_refl _) h0
theorem WL_rule {S : Sys} {lim : Nat} {c : LC} {Q : Ex → Fr → Hp → Prop} {α : Type} (I : α → Fr → Hp → Prop) (m : α → Nat)
    (step : ∀ x a h, I x a h → W S lim c a h (Lp I m x Q)) {x : α} {a : Fr} {h : Hp} (h0 : I x a h) : WL S lim c a h Q :=
  WL_rule0 I m (fun x a h hi => W_sound (step x a h hi)) h0
def Lc (I : Nat → Fr → Hp → Prop) (x : Nat) (Q : Ex → Fr → Hp → Prop) : Ex → Fr → Hp → Prop := fun e a h => match e with | .norm => I (x + 1) a h | e => Q e a h

/-! ### What is asked of an outcome may be weakened; two that are asked hold of one outcome -/
def J.le : J → J → Prop
  | .code l1 c1 a1 h1 Q1, .code l2 c2 a2 h2 Q2 => l1 = l2 ∧ c1 = c2 ∧ a1 = a2 ∧ h1 = h2 ∧ ∀ e a h, Q1 e a h → Q2 e a h
  | .ops l1 c1 a1 h1 Q1, .ops l2 c2 a2 h2 Q2 => l1 = l2 ∧ c1 = c2 ∧ a1 = a2 ∧ h1 = h2 ∧ ∀ a h, Q1 a h → Q2 a h
  | .op l1 c1 a1 h1 Q1, .op l2 c2 a2 h2 Q2 => l1 = l2 ∧ c1 = c2 ∧ a1 = a2 ∧ h1 = h2 ∧ ∀ a h, Q1 a h → Q2 a h
  | .call f1 a1 h1 l1 K1, .call f2 a2 h2 l2 K2 => f1 = f2 ∧ a1 = a2 ∧ h1 = h2 ∧ l1 = l2 ∧ ∀ v h, K1 v h → K2 v h
  | _, _ => False
theorem Holds.mono {S : Sys} {j : J} (hh : Holds S j) : ∀ j', j.le j' → Holds S j' := by
  induction hh with
  | skip hq => intro j' hl; cases j' <;> try exact hl.elim
               obtain ⟨rfl, rfl, rfl, rfl, hk⟩ := hl; exact .skip (hk _ _ _ hq)
  | reg _ ih => intro j' hl; cases j' <;> try exact hl.elim
                obtain ⟨rfl, rfl, rfl, rfl, hk⟩ := hl; exact .reg (ih _ ⟨rfl, rfl, rfl, rfl, fun a h => hk _ a h⟩)
  | any _ ih => intro j' hl; cases j' <;> try exact hl.elim
                obtain ⟨rfl, rfl, rfl, rfl, hk⟩ := hl; exact .any (ih _ ⟨rfl, rfl, rfl, rfl, fun a h => hk _ a h⟩)
  | seq h1 _ h3 _ ih2 => intro j' hl; cases j' <;> try exact hl.elim
                         obtain ⟨rfl, rfl, rfl, rfl, hk⟩ := hl
                         exact .seq h1 (fun a' h' k => ih2 a' h' k _ ⟨rfl, rfl, rfl, rfl, hk⟩) (fun e a' h' hne k => hk _ _ _ (h3 e a' h' hne k))
  | cond hx _ ih => intro j' hl; cases j' <;> try exact hl.elim
                    obtain ⟨rfl, rfl, rfl, rfl, hk⟩ := hl; exact .cond hx (ih _ ⟨rfl, rfl, rfl, rfl, hk⟩)
  | @block lim id c a h Q _ ih =>
    intro j' hl; cases j' <;> try exact hl.elim
    obtain ⟨rfl, rfl, rfl, rfl, hk⟩ := hl
    refine .block (ih _ ⟨rfl, rfl, rfl, rfl, fun e a h k => ?_⟩)
    cases e with
    | norm => exact hk _ _ _ k
    | ret => exact hk _ _ _ k
    | exit j => simp only [Upto] at k ⊢; split <;> (rename_i hj; first | (rw [if_pos hj] at k; exact hk _ _ _ k) | (rw [if_neg hj] at k; exact hk _ _ _ k))
  | loop h1 _ h3 _ ih2 => intro j' hl; cases j' <;> try exact hl.elim
                          obtain ⟨rfl, rfl, rfl, rfl, hk⟩ := hl
                          exact .loop h1 (fun a' h' k => ih2 a' h' k _ ⟨rfl, rfl, rfl, rfl, hk⟩) (fun e a' h' hne k => hk _ _ _ (h3 e a' h' hne k))
  | exit hq => intro j' hl; cases j' <;> try exact hl.elim
               obtain ⟨rfl, rfl, rfl, rfl, hk⟩ := hl; exact .exit (hk _ _ _ hq)
  | ret hq => intro j' hl; cases j' <;> try exact hl.elim
              obtain ⟨rfl, rfl, rfl, rfl, hk⟩ := hl; exact .ret (hk _ _ _ hq)
  | onil hq => intro j' hl; cases j' <;> try exact hl.elim
               obtain ⟨rfl, rfl, rfl, rfl, hk⟩ := hl; exact .onil (hk _ _ hq)
  | oop hw h1 _ _ ih2 => intro j' hl; cases j' <;> try exact hl.elim
                         obtain ⟨rfl, rfl, rfl, rfl, hk⟩ := hl; exact .oop hw h1 (fun v h' k => ih2 v h' k _ ⟨rfl, rfl, rfl, rfl, hk⟩)
  | oskip hw _ ih => intro j' hl; cases j' <;> try exact hl.elim
                     obtain ⟨rfl, rfl, rfl, rfl, hk⟩ := hl; exact .oskip hw (ih _ ⟨rfl, rfl, rfl, rfl, hk⟩)
  | oalt _ _ ih1 ih2 => intro j' hl; cases j' <;> try exact hl.elim
                        obtain ⟨rfl, rfl, rfl, rfl, hk⟩ := hl; exact .oalt (ih1 _ ⟨rfl, rfl, rfl, rfl, hk⟩) (ih2 _ ⟨rfl, rfl, rfl, rfl, hk⟩)
  | plain he hq => intro j' hl; cases j' <;> try exact hl.elim
                   obtain ⟨rfl, rfl, rfl, rfl, hk⟩ := hl; exact .plain he (hk _ _ hq)
  | call _ ih => intro j' hl; cases j' <;> try exact hl.elim
                 obtain ⟨rfl, rfl, rfl, rfl, hk⟩ := hl; exact .call (ih _ ⟨rfl, rfl, rfl, rfl, hk⟩)
  | callv hF hx _ ih => intro j' hl; cases j' <;> try exact hl.elim
                        obtain ⟨rfl, rfl, rfl, rfl, hk⟩ := hl; exact .callv hF hx (ih _ ⟨rfl, rfl, rfl, rfl, hk⟩)
  | pure hp h1 hq _ => intro j' hl; cases j' <;> try exact hl.elim
                       obtain ⟨rfl, rfl, rfl, rfl, hk⟩ := hl; exact .pure hp h1 (hk _ _ hq)
  | fn hF hn _ ih =>
    intro j' hl; cases j' <;> try exact hl.elim
    obtain ⟨rfl, rfl, rfl, rfl, hk⟩ := hl
    refine .fn hF hn (ih _ ⟨rfl, rfl, rfl, rfl, fun e a h k => ?_⟩)
    cases e with
    | exit id => exact k
    | norm => simp only [Fin, ok] at k ⊢; split <;> (rename_i e; rw [e] at k; first | exact hk _ _ k | exact k)
    | ret => simp only [Fin, ok] at k ⊢; split <;> (rename_i e; rw [e] at k; first | exact hk _ _ k | exact k)
  | xt hF hx hq => intro j' hl; cases j' <;> try exact hl.elim
                   obtain ⟨rfl, rfl, rfl, rfl, hk⟩ := hl; exact .xt hF hx (hk _ _ hq)
/-- A loop that counts: at most n times. -/
theorem WL_for {S : Sys} {lim : Nat} {c : LC} {Q : Ex → Fr → Hp → Prop} (n : Nat) (I : Nat → Fr → Hp → Prop) (hn : ∀ i a h, I i a h → i ≤ n)
    (step : ∀ i a h, I i a h → W S lim c a h (Lc I i Q)) {a : Fr} {h : Hp} (h0 : I 0 a h) : WL S lim c a h Q := by
  refine WL_rule0 I (fun i => n - i) (fun i a h hi => ?_) h0
  refine (W_sound (step i a h hi)).mono _ ⟨rfl, rfl, rfl, rfl, fun e a' h' k => ?_⟩
  cases e with
  | norm => exact ⟨i + 1, by have := hn _ _ _ k; have := hn _ _ _ hi; simp only []; omega, k⟩
  | exit id => exact k
  | ret => exact k
def J.both : J → J → Prop
  | .code _ _ _ _ Q1, .code _ _ _ _ Q2 => ∃ e a h, Q1 e a h ∧ Q2 e a h
  | .ops _ _ _ _ Q1, .ops _ _ _ _ Q2 => ∃ a h, Q1 a h ∧ Q2 a h
  | .op _ _ _ _ Q1, .op _ _ _ _ Q2 => ∃ a h, Q1 a h ∧ Q2 a h
  | .call _ _ _ _ K1, .call _ _ _ _ K2 => ∃ v h, K1 v h ∧ K2 v h
  | _, _ => False
def J.same : J → J → Prop
  | .code l1 c1 a1 h1 _, .code l2 c2 a2 h2 _ => l1 = l2 ∧ c1 = c2 ∧ a1 = a2 ∧ h1 = h2
  | .ops l1 c1 a1 h1 _, .ops l2 c2 a2 h2 _ => l1 = l2 ∧ c1 = c2 ∧ a1 = a2 ∧ h1 = h2
  | .op l1 c1 a1 h1 _, .op l2 c2 a2 h2 _ => l1 = l2 ∧ c1 = c2 ∧ a1 = a2 ∧ h1 = h2
  | .call f1 a1 h1 l1 _, .call f2 a2 h2 l2 _ => f1 = f2 ∧ a1 = a2 ∧ h1 = h2 ∧ l1 = l2
  | _, _ => False
theorem Holds.both {S : Sys} {j : J} (hh : Holds S j) : ∀ j', Holds S j' → j.same j' → j.both j' := by
  induction hh with
  | skip hq => intro j' h2 hl; cases j' <;> try exact hl.elim
               obtain ⟨rfl, rfl, rfl, rfl⟩ := hl; cases h2 with | skip k => exact ⟨_, _, _, hq, k⟩
  | reg _ ih => intro j' h2 hl; cases j' <;> try exact hl.elim
                obtain ⟨rfl, rfl, rfl, rfl⟩ := hl; cases h2 with | reg k => obtain ⟨a, h, q⟩ := ih _ k ⟨rfl, rfl, rfl, rfl⟩; exact ⟨_, a, h, q⟩
  | any _ ih => intro j' h2 hl; cases j' <;> try exact hl.elim
                obtain ⟨rfl, rfl, rfl, rfl⟩ := hl; cases h2 with | any k => obtain ⟨a, h, q⟩ := ih _ k ⟨rfl, rfl, rfl, rfl⟩; exact ⟨_, a, h, q⟩
  | seq _ _ h3 ih1 ih2 =>
    intro j' h2 hl; cases j' <;> try exact hl.elim
    obtain ⟨rfl, rfl, rfl, rfl⟩ := hl
    cases h2 with
    | seq k1 k2 k3 =>
      obtain ⟨e, a, h, q1, q2⟩ := ih1 _ k1 ⟨rfl, rfl, rfl, rfl⟩
      cases e with
      | norm => exact ih2 a h q1 _ (k2 a h q2) ⟨rfl, rfl, rfl, rfl⟩
      | exit id => exact ⟨_, _, _, h3 _ _ _ (by simp) q1, k3 _ _ _ (by simp) q2⟩
      | ret => exact ⟨_, _, _, h3 _ _ _ (by simp) q1, k3 _ _ _ (by simp) q2⟩
  | cond hx _ ih =>
    intro j' h2 hl; cases j' <;> try exact hl.elim
    obtain ⟨rfl, rfl, rfl, rfl⟩ := hl
    cases h2 with
    | cond hx2 k => rw [hx] at hx2; injection hx2 with e; injection e with e; subst e; exact ih _ k ⟨rfl, rfl, rfl, rfl⟩
  | @block lim id c a h Q _ ih =>
    intro j' h2 hl; cases j' <;> try exact hl.elim
    obtain ⟨rfl, rfl, rfl, rfl⟩ := hl
    cases h2 with
    | block k =>
      obtain ⟨e, a, h, q1, q2⟩ := ih _ k ⟨rfl, rfl, rfl, rfl⟩
      cases e with
      | norm => exact ⟨_, _, _, q1, q2⟩
      | ret => exact ⟨_, _, _, q1, q2⟩
      | exit j =>
        simp only [Upto] at q1 q2
        by_cases hj : j = id
        · rw [if_pos hj] at q1 q2; exact ⟨_, _, _, q1, q2⟩
        · rw [if_neg hj] at q1 q2; exact ⟨_, _, _, q1, q2⟩
  | loop _ _ h3 ih1 ih2 =>
    intro j' h2 hl; cases j' <;> try exact hl.elim
    obtain ⟨rfl, rfl, rfl, rfl⟩ := hl
    cases h2 with
    | loop k1 k2 k3 =>
      obtain ⟨e, a, h, q1, q2⟩ := ih1 _ k1 ⟨rfl, rfl, rfl, rfl⟩
      cases e with
      | norm => exact ih2 a h q1 _ (k2 a h q2) ⟨rfl, rfl, rfl, rfl⟩
      | exit id => exact ⟨_, _, _, h3 _ _ _ (by simp) q1, k3 _ _ _ (by simp) q2⟩
      | ret => exact ⟨_, _, _, h3 _ _ _ (by simp) q1, k3 _ _ _ (by simp) q2⟩
  | exit hq => intro j' h2 hl; cases j' <;> try exact hl.elim
               obtain ⟨rfl, rfl, rfl, rfl⟩ := hl; cases h2 with | exit k => exact ⟨_, _, _, hq, k⟩
  | ret hq => intro j' h2 hl; cases j' <;> try exact hl.elim
              obtain ⟨rfl, rfl, rfl, rfl⟩ := hl; cases h2 with | ret k => exact ⟨_, _, _, hq, k⟩
  | onil hq => intro j' h2 hl; cases j' <;> try exact hl.elim
               obtain ⟨rfl, rfl, rfl, rfl⟩ := hl; cases h2 with | onil k => exact ⟨_, _, hq, k⟩
  | oop hw _ _ ih1 ih2 =>
    intro j' h2 hl; cases j' <;> try exact hl.elim
    obtain ⟨rfl, rfl, rfl, rfl⟩ := hl
    cases h2 with
    | oop hw2 k1 k2 =>
      obtain ⟨v, h, q1, q2⟩ := ih1 _ k1 ⟨rfl, rfl, rfl, rfl⟩
      exact ih2 v h q1 _ (k2 v h q2) ⟨rfl, rfl, rfl, rfl⟩
    | oskip hw2 k => rw [hw] at hw2; cases hw2
  | oskip hw _ ih =>
    intro j' h2 hl; cases j' <;> try exact hl.elim
    obtain ⟨rfl, rfl, rfl, rfl⟩ := hl
    cases h2 with
    | oop hw2 k1 k2 => rw [hw] at hw2; cases hw2
    | oskip hw2 k => exact ih _ k ⟨rfl, rfl, rfl, rfl⟩
  | oalt _ _ ih1 _ =>
    intro j' h2 hl; cases j' <;> try exact hl.elim
    obtain ⟨rfl, rfl, rfl, rfl⟩ := hl
    cases h2 with | oalt k1 k2 => exact ih1 _ k1 ⟨rfl, rfl, rfl, rfl⟩
  | plain he hq =>
    intro j' h2 hl; cases j' <;> try exact hl.elim
    obtain ⟨rfl, rfl, rfl, rfl⟩ := hl
    cases h2 with
    | plain he2 k => rw [he] at he2; injection he2 with e; injection e with e1 e2; subst e1; subst e2; exact ⟨_, _, hq, k⟩
    | call k => simp [evO, nc] at he
    | callv hF hx k => simp [evO, nc, hx] at he
    | pure hp k1 k2 => simp [evO, nc] at he
  | call _ ih =>
    intro j' h2 hl; cases j' <;> try exact hl.elim
    obtain ⟨rfl, rfl, rfl, rfl⟩ := hl
    cases h2 with
    | plain he2 k => simp [evO, nc] at he2
    | call k => exact ih _ k ⟨rfl, rfl, rfl, rfl⟩
  | callv hF hx _ ih =>
    intro j' h2 hl; cases j' <;> try exact hl.elim
    obtain ⟨rfl, rfl, rfl, rfl⟩ := hl
    cases h2 with
    | plain he2 k => simp [evO, nc, hx] at he2
    | callv hF2 hx2 k => rw [hx] at hx2; injection hx2 with e; injection e with e1 e2; subst e1; subst e2; exact ih _ k ⟨rfl, rfl, rfl, rfl⟩
  | pure hp _ hq ih =>
    intro j' h2 hl; cases j' <;> try exact hl.elim
    obtain ⟨rfl, rfl, rfl, rfl⟩ := hl
    cases h2 with
    | plain he2 k => simp [evO, nc] at he2
    | pure hp2 k1 k2 =>
      obtain ⟨v, h, q1, q2⟩ := ih _ k1 ⟨rfl, rfl, rfl, rfl⟩
      subst q1; subst q2
      exact ⟨_, _, hq, k2⟩
  | fn hF hn _ ih =>
    intro j' h2 hl; cases j' <;> try exact hl.elim
    obtain ⟨rfl, rfl, rfl, rfl⟩ := hl
    cases h2 with
    | fn hF2 hn2 k =>
      rw [hF] at hF2; injection hF2 with hF2; subst hF2
      obtain ⟨e, a, h, q1, q2⟩ := ih _ k ⟨rfl, rfl, rfl, rfl⟩
      cases e with
      | exit id => exact q1.elim
      | norm => simp only [Fin, ok] at q1 q2; split at q1; (rename_i e; rw [e] at q2; exact ⟨_, _, q1, q2⟩); exact q1.elim
      | ret => simp only [Fin, ok] at q1 q2; split at q1; (rename_i e; rw [e] at q2; exact ⟨_, _, q1, q2⟩); exact q1.elim
    | xt hF2 _ _ => rw [hF] at hF2; cases hF2
  | xt hF hx hq =>
    intro j' h2 hl; cases j' <;> try exact hl.elim
    obtain ⟨rfl, rfl, rfl, rfl⟩ := hl
    cases h2 with
    | fn hF2 _ _ => rw [hF] at hF2; cases hF2
    | xt hF2 hx2 k => rw [hx] at hx2; injection hx2 with e; injection e with e1 e2; subst e1; subst e2; exact ⟨_, _, hq, k⟩
end Go.E
