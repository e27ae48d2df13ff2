/- A calculus over the evaluator: what must hold before a piece of code, so that it comes to an end and Q holds behind it. Plain lemmas; no condition. -/
import Derived.Test.YtpjgmichaeiifaaE8
set_option linter.unusedVariables false
set_option linter.unusedSimpArgs false
namespace Go.E
open Go

def ok {α : Type} (o : Option α) (K : α → Prop) : Prop := match o with | some v => K v | none => False
def nc : Call := fun _ _ _ _ => none
/-- The call comes to some v and heap of which K holds. -/
def CallT (S : Sys) (p : Bool) (f : FuncId) (args : List CV) (h : Hp) (lim : Nat) (K : CV → Hp → Prop) : Prop :=
  if p then ∃ v h', Ev S f args h h.length v h' ∧ v.plain = true ∧ K v h else ∃ v h', Ev S f args h lim v h' ∧ K v h'
def oc (o : Option (CV × Hp)) (K : CV → Hp → Prop) : Prop := match o with | some (v, h) => K v h | none => False
def wO (S : Sys) (lim : Nat) (o : LO) (a : Fr) (h : Hp) (K : CV → Hp → Prop) : Prop :=
  match o with
  | .call p f xs => CallT S p f (xs.map (evX a)) h lim K
  | o => oc (evO nc lim o a h) K
def WO (S : Sys) (lim : Nat) : List LOper → Fr → Hp → (Fr → Hp → Prop) → Prop
  | [], a, h, Q => Q a h
  | o :: r, a, h, Q => if wantedL a o.g = true then wO S lim o.o a h (fun v h' => WO S lim r (upd a o.d v) h' Q) else WO S lim r (upd a o.d un) h Q
def WL (S : Sys) (lim : Nat) (c : LC) (a : Fr) (h : Hp) (Q : Ex → Fr → Hp → Prop) : Prop := ∃ r, EvC S lim (.loop c) a h r ∧ Q r.1 r.2.1 r.2.2
def Upto (id : Nat) (Q : Ex → Fr → Hp → Prop) : Ex → Fr → Hp → Prop := fun e a h => match e with | .exit j => if j = id then Q .norm a h else Q (.exit j) a h | e => Q e a h
def W (S : Sys) (lim : Nat) : LC → Fr → Hp → (Ex → Fr → Hp → Prop) → Prop
  | .skip, a, h, Q => Q .norm a h
  | .reg ops, a, h, Q => WO S lim ops a h (Q .norm)
  | .seq c d, a, h, Q => W S lim c a h (fun e a' h' => match e with | .norm => W S lim d a' h' Q | e => Q e a' h')
  | .cond x c d, a, h, Q => match evX a x with | .lf (.bool b) => if b = true then W S lim c a h Q else W S lim d a h Q | _ => False
  | .block id c, a, h, Q => W S lim c a h (Upto id Q)
  | .loop c, a, h, Q => WL S lim c a h Q
  | .exit id, a, h, Q => Q (.exit id) a h
  | .ret, a, h, Q => Q .ret a h
  | .bad, _, _, _ => False
/-! What is left to do, as data: nothing in it is to be rewritten before its turn. -/
def Kt (S : Sys) (lim : Nat) (d : Option Nat) (r : List LOper) (a : Fr) (Q : Fr → Hp → Prop) : CV → Hp → Prop := fun v h => WO S lim r (upd a d v) h Q
def Gd (S : Sys) (lim : Nat) (b : Bool) (o : LOper) (r : List LOper) (a : Fr) (h : Hp) (Q : Fr → Hp → Prop) : Prop := if b = true then wO S lim o.o a h (Kt S lim o.d r a Q) else WO S lim r (upd a o.d un) h Q
def Sq (S : Sys) (lim : Nat) (d : LC) (Q : Ex → Fr → Hp → Prop) : Ex → Fr → Hp → Prop := fun e a h => match e with | .norm => W S lim d a h Q | e => Q e a h
def Br (S : Sys) (lim : Nat) (v : CV) (c d : LC) (a : Fr) (h : Hp) (Q : Ex → Fr → Hp → Prop) : Prop := match v with | .lf (.bool b) => if b = true then W S lim c a h Q else W S lim d a h Q | _ => False
def Lp {α : Type} (I : α → Fr → Hp → Prop) (m : α → Nat) (x : α) (Q : Ex → Fr → Hp → Prop) : Ex → Fr → Hp → Prop := fun e a h => match e with | .norm => ∃ x', m x' < m x ∧ I x' a h | e => Q e a h

theorem evO_nc {call : Call} {lim : Nat} {o : LO} {a : Fr} {h : Hp} {r : CV × Hp} (hr : evO nc lim o a h = some r) : evO call lim o a h = some r := by
  cases o with
  | call p f xs => cases p <;> simp [evO, nc] at hr
  | _ => exact hr
theorem WO_sound {S : Sys} {lim : Nat} : ∀ {ops : List LOper} {a : Fr} {h : Hp} {Q : Fr → Hp → Prop}, WO S lim ops a h Q → ∃ r, EvO S lim ops a h r ∧ Q r.1 r.2
  | [], a, h, Q, hw => ⟨(a, h), ⟨0, fun n _ => rfl⟩, hw⟩
  | o :: r, a, h, Q, hw => by
    unfold WO at hw
    split at hw
    · rename_i hg
      have key : ∃ v h', (∃ N, ∀ n, N ≤ n → evO (evCall S n) lim o.o a h = some (v, h')) ∧ WO S lim r (upd a o.d v) h' Q := by
        unfold wO at hw
        split at hw
        · rename_i p f xs e
          cases p
          · obtain ⟨v, h', ⟨N, hN⟩, hk⟩ := hw
            exact ⟨v, h', ⟨N, fun n hn => by rw [e]; simpa [evO] using hN n hn⟩, hk⟩
          · obtain ⟨v, h', ⟨N, hN⟩, hp, hk⟩ := hw
            exact ⟨v, h, ⟨N, fun n hn => by rw [e]; simp [evO, hN n hn, hp]⟩, hk⟩
        · unfold oc at hw
          split at hw
          · rename_i v h1 e
            exact ⟨v, h1, ⟨0, fun n _ => evO_nc e⟩, hw⟩
          · exact hw.elim
      obtain ⟨v, h', ⟨N, hN⟩, hk⟩ := key
      obtain ⟨q, ⟨M, hM⟩, hq⟩ := WO_sound hk
      refine ⟨q, ⟨max N M, fun n hn => ?_⟩, hq⟩
      unfold evOps
      rw [if_pos hg, hN n (by omega)]
      exact hM n (by omega)
    · rename_i hg
      obtain ⟨q, ⟨M, hM⟩, hq⟩ := WO_sound hw
      refine ⟨q, ⟨M, fun n hn => ?_⟩, hq⟩
      unfold evOps
      rw [if_neg hg]
      exact hM n hn
theorem W_sound {S : Sys} {lim : Nat} : ∀ {c : LC} {a : Fr} {h : Hp} {Q : Ex → Fr → Hp → Prop}, W S lim c a h Q → ∃ r, EvC S lim c a h r ∧ Q r.1 r.2.1 r.2.2
  | .skip, a, h, Q, hw => ⟨(.norm, a, h), ⟨0, fun n _ => rfl⟩, hw⟩
  | .reg ops, a, h, Q, hw => by
    obtain ⟨q, ⟨N, hN⟩, hq⟩ := WO_sound hw
    exact ⟨(.norm, q.1, q.2), ⟨N, fun n hn => by unfold evC; rw [hN n hn]; rfl⟩, hq⟩
  | .seq c d, a, h, Q, hw => by
    obtain ⟨⟨e, a1, h1⟩, ⟨N, hN⟩, hq⟩ := W_sound (c := c) hw
    cases e with
    | norm =>
      obtain ⟨r, ⟨M, hM⟩, hr⟩ := W_sound (c := d) hq
      refine ⟨r, ⟨max N M, fun n hn => ?_⟩, hr⟩
      unfold evC
      rw [hN n (by omega)]
      exact hM n (by omega)
    | exit id => exact ⟨_, ⟨N, fun n hn => by unfold evC; rw [hN n hn]; rfl⟩, hq⟩
    | ret => exact ⟨_, ⟨N, fun n hn => by unfold evC; rw [hN n hn]; rfl⟩, hq⟩
  | .cond x c d, a, h, Q, hw => by
    unfold W at hw
    split at hw
    · rename_i b e
      cases b
      · obtain ⟨r, ⟨N, hN⟩, hr⟩ := W_sound (c := d) (by simpa using hw)
        exact ⟨r, ⟨N, fun n hn => by unfold evC; rw [e]; exact hN n hn⟩, hr⟩
      · obtain ⟨r, ⟨N, hN⟩, hr⟩ := W_sound (c := c) (by simpa using hw)
        exact ⟨r, ⟨N, fun n hn => by unfold evC; rw [e]; exact hN n hn⟩, hr⟩
    · exact hw.elim
  | .block id c, a, h, Q, hw => by
    obtain ⟨⟨e, a1, h1⟩, ⟨N, hN⟩, hq⟩ := W_sound (c := c) hw
    refine ⟨(if e = .exit id then .norm else e, a1, h1), ⟨N, fun n hn => by unfold evC; rw [hN n hn]; rfl⟩, ?_⟩
    cases e with
    | norm => exact hq
    | ret => exact hq
    | exit j =>
      simp only [Upto] at hq
      by_cases hj : j = id
      · rw [if_pos hj] at hq; simpa [hj] using hq
      · rw [if_neg hj] at hq; simpa [hj] using hq
  | .loop c, a, h, Q, hw => hw
  | .exit id, a, h, Q, hw => ⟨(.exit id, a, h), ⟨0, fun n _ => rfl⟩, hw⟩
  | .ret, a, h, Q, hw => ⟨(.ret, a, h), ⟨0, fun n _ => rfl⟩, hw⟩

theorem WL_rule0 {S : Sys} {lim : Nat} {c : LC} {Q : Ex → Fr → Hp → Prop} {α : Type} (I : α → Fr → Hp → Prop) (m : α → Nat)
    (step : ∀ x a h, I x a h → ∃ r, EvC S lim c a h r ∧ Lp I m x Q r.1 r.2.1 r.2.2) {x : α} {a : Fr} {h : Hp} (h0 : I x a h) : WL S lim c a h Q := by
  have key : ∀ k x a h, m x ≤ k → I x a h → ∃ r : Ex × Fr × Hp, (∃ N, ∀ n, N ≤ n → ∀ j, N ≤ j → evL (evC (evCall S n) lim n c) j a h = some r) ∧ Q r.1 r.2.1 r.2.2 := by
    intro k
    induction k with
    | zero =>
      intro x a h hm hi
      obtain ⟨⟨e, a1, h1⟩, ⟨N, hN⟩, hq⟩ := step x a h hi
      cases e with
      | norm => obtain ⟨x', hx, _⟩ := hq; omega
      | exit id => exact ⟨_, ⟨N + 1, fun n hn j hj => by obtain ⟨j', rfl⟩ : ∃ j', j = j' + 1 := ⟨j - 1, by omega⟩; unfold evL; rw [hN n (by omega)]; rfl⟩, hq⟩
      | ret => exact ⟨_, ⟨N + 1, fun n hn j hj => by obtain ⟨j', rfl⟩ : ∃ j', j = j' + 1 := ⟨j - 1, by omega⟩; unfold evL; rw [hN n (by omega)]; rfl⟩, hq⟩
    | succ k ih =>
      intro x a h hm hi
      obtain ⟨⟨e, a1, h1⟩, ⟨N, hN⟩, hq⟩ := step x a h hi
      cases e with
      | norm =>
        obtain ⟨x', hx, hi'⟩ := hq
        obtain ⟨r, ⟨M, hM⟩, hr⟩ := ih x' a1 h1 (by omega) hi'
        refine ⟨r, ⟨max N M + 1, fun n hn j hj => ?_⟩, hr⟩
        obtain ⟨j', rfl⟩ : ∃ j', j = j' + 1 := ⟨j - 1, by omega⟩
        unfold evL
        rw [hN n (by omega)]
        exact hM n (by omega) j' (by omega)
      | exit id => exact ⟨_, ⟨N + 1, fun n hn j hj => by obtain ⟨j', rfl⟩ : ∃ j', j = j' + 1 := ⟨j - 1, by omega⟩; unfold evL; rw [hN n (by omega)]; rfl⟩, hq⟩
      | ret => exact ⟨_, ⟨N + 1, fun n hn j hj => by obtain ⟨j', rfl⟩ : ∃ j', j = j' + 1 := ⟨j - 1, by omega⟩; unfold evL; rw [hN n (by omega)]; rfl⟩, hq⟩
  obtain ⟨r, ⟨N, hN⟩, hr⟩ := key (m x) x a h (Nat.le_refl _) h0
  exact ⟨r, ⟨N, fun n hn => by unfold evC; exact hN n hn n hn⟩, hr⟩

theorem WL_rule {S : Sys} {lim : Nat} {c : LC} {Q : Ex → Fr → Hp → Prop} {α : Type} (I : α → Fr → Hp → Prop) (m : α → Nat)
    (step : ∀ x a h, I x a h → W S lim c a h (Lp I m x Q)) {x : α} {a : Fr} {h : Hp} (h0 : I x a h) : WL S lim c a h Q :=
  WL_rule0 I m (fun x a h hi => W_sound (step x a h hi)) h0
def Lc (I : Nat → Fr → Hp → Prop) (x : Nat) (Q : Ex → Fr → Hp → Prop) : Ex → Fr → Hp → Prop := fun e a h => match e with | .norm => I (x + 1) a h | e => Q e a h
/-- A loop that counts: at most n times. -/
theorem WL_for {S : Sys} {lim : Nat} {c : LC} {Q : Ex → Fr → Hp → Prop} (n : Nat) (I : Nat → Fr → Hp → Prop) (hn : ∀ i a h, I i a h → i ≤ n)
    (step : ∀ i a h, I i a h → W S lim c a h (Lc I i Q)) {a : Fr} {h : Hp} (h0 : I 0 a h) : WL S lim c a h Q := by
  refine WL_rule0 I (fun i => n - i) (fun i a h hi => ?_) h0
  obtain ⟨⟨e, a', h'⟩, h1, h2⟩ := W_sound (step i a h hi)
  refine ⟨_, h1, ?_⟩
  cases e with
  | norm => exact ⟨i + 1, by have := hn _ _ _ h2; have := hn _ _ _ hi; simp only []; omega, h2⟩
  | exit id => exact h2
  | ret => exact h2
theorem W_mono {S : Sys} {lim : Nat} {c : LC} {a : Fr} {h : Hp} {Q R : Ex → Fr → Hp → Prop} (hw : W S lim c a h Q) (hQ : ∀ e a' h', Q e a' h' → R e a' h') : ∃ r, EvC S lim c a h r ∧ R r.1 r.2.1 r.2.2 := by
  obtain ⟨r, h1, h2⟩ := W_sound hw
  exact ⟨r, h1, hQ _ _ _ h2⟩
theorem Ev.unique {S : Sys} {f : FuncId} {args : List CV} {h h1 h2 : Hp} {lim : Nat} {v1 v2 : CV} (e1 : Ev S f args h lim v1 h1) (e2 : Ev S f args h lim v2 h2) : v1 = v2 ∧ h1 = h2 := by
  obtain ⟨N, hN⟩ := e1
  obtain ⟨M, hM⟩ := e2
  have a1 := hN (max N M) (by omega)
  have a2 := hM (max N M) (by omega)
  rw [a1] at a2
  injection a2 with a2
  injection a2 with a2 a3
  exact ⟨a2, a3⟩
/-- The frame with which a function begins. -/
def fr0 (args : List CV) : Fr := fun t => args.getD t un
/-- What is asked of a function's end. -/
def Fin (rs : List Rs) (K : CV → Hp → Prop) : Ex → Fr → Hp → Prop := fun e a h => match e with | .exit _ => False | _ => ok (resV a h rs) fun v => K v h
theorem Ev.of_body {S : Sys} {f : FuncId} {F : LFn} {args : List CV} {h : Hp} {lim : Nat} {K : CV → Hp → Prop} (hF : S.fs f = some F) (hn : args.length = F.np) (hw : W S lim F.code (fr0 args) h (Fin F.res K)) : ∃ v h', Ev S f args h lim v h' ∧ K v h' := by
  obtain ⟨⟨e, a', h'⟩, ⟨N, hN⟩, hq⟩ := W_sound hw
  have hq' : (∀ id, e ≠ .exit id) ∧ ok (resV a' h' F.res) fun v => K v h' := by
    cases e with
    | exit id => exact hq.elim
    | norm => exact ⟨fun _ => by simp, hq⟩
    | ret => exact ⟨fun _ => by simp, hq⟩
  obtain ⟨hne, hq'⟩ := hq'
  unfold ok at hq'
  split at hq'
  · rename_i v hv
    refine ⟨v, h', ⟨N + 1, fun n hn' => ?_⟩, hq'⟩
    obtain ⟨n', rfl⟩ : ∃ n', n = n' + 1 := ⟨n - 1, by omega⟩
    unfold evCall
    rw [hF]
    simp only [if_pos hn]
    have := hN n' (by omega)
    unfold fr0 at this
    rw [this]
    cases e with
    | exit id => exact (hne id rfl).elim
    | norm => simp [hv]
    | ret => simp [hv]
  · exact hq'.elim
end Go.E
