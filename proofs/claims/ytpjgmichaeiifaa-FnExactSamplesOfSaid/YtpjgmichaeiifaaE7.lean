/- Whatever order a region draws; then whole code, loops and calls: if the evaluator says that a function returns v, the model's call does. Plain lemmas; no condition. -/
import Derived.Test.YtpjgmichaeiifaaE6
set_option linter.unusedVariables false
set_option linter.unusedSimpArgs false
namespace Go.E
open Go Go.RowKit

section
variable {P : Program} {B : Nat} {w0 : World} {nt : Nat} {call : Call} {lim : Nat} {pf : FuncId → Bool}

/-- Operation i, and then K. -/
def opA (call : Call) (lim : Nat) (L : List LOper) (i : Nat) (K : Fr → Hp → Prop) (a : Fr) (h : Hp) : Prop :=
  match L[i]? with
  | none => K a h
  | some o => if wantedL a o.g then match evO call lim o.o a h with | some (v, h') => K (upd a o.d v) h' | none => False else K (upd a o.d un) h
/-- Whatever order is taken from here on. -/
def anyA (call : Call) (lim : Nat) (ops : Array Oper) (L : List LOper) (Q : Fr → Hp → Prop) : Nat → Array Bool → Fr → Hp → Prop
  | 0, listed, a, h => Region.ready .any ops listed = [] ∧ Q a h
  | n + 1, listed, a, h => (Region.ready .any ops listed = [] → Q a h) ∧ ∀ i ∈ Region.ready .any ops listed, opA call lim L i (anyA call lim ops L Q n (listed.setIfInBounds i true)) a h

theorem opA_mono {L : List LOper} {i : Nat} {K K' : Fr → Hp → Prop} {a : Fr} {h : Hp} (hk : ∀ a h, K a h → K' a h) (hh : opA call lim L i K a h) : opA call lim L i K' a h := by
  unfold opA at hh ⊢
  split
  · rename_i e; rw [e] at hh; exact hk _ _ hh
  · rename_i o e; rw [e] at hh; simp only at hh
    split
    · rename_i hw; rw [if_pos hw] at hh
      split
      · rename_i v h' e'; rw [e'] at hh; exact hk _ _ hh
      · rename_i e'; rw [e'] at hh; exact hh
    · rename_i hw; rw [if_neg hw] at hh; exact hk _ _ hh

def gR (g : Option (Nat × Bool)) : List Nat := match g with | none => [] | some (t, _) => [t]
def LOper.rd (o : LOper) : List Nat := o.o.rd ++ gR o.g
/-- Neither reads what the other writes, and they write apart. -/
def apartL (x y : LOper) : Bool :=
  (match x.d with | some d => !(y.rd).contains d && y.d != some d | none => true) && (match y.d with | some d => !(x.rd).contains d | none => true) &&
  (x.o.cls == 0 || y.o.cls == 0 || (decide (x.o.cls ≤ 1) && decide (y.o.cls ≤ 1)))
theorem upd_comm {a : Fr} {d e : Option Nat} {u v : CV} (h : ∀ k, d = some k → e ≠ some k) : upd (upd a d u) e v = upd (upd a e v) d u := by
  cases d with
  | none => rfl
  | some d =>
    cases e with
    | none => rfl
    | some e =>
      have hne : d ≠ e := fun hh => h d rfl (by rw [hh])
      funext t
      simp only [upd]
      by_cases h1 : t = e
      · subst h1; simp [Ne.symm hne]
      · by_cases h2 : t = d
        · subst h2; simp [hne]
        · simp [h1, h2]
theorem upd_rd {a : Fr} {d : Option Nat} {u : CV} {l : List Nat} (h : ∀ k, d = some k → k ∉ l) : ∀ t ∈ l, upd a d u t = a t := by
  intro t ht
  cases d with
  | none => rfl
  | some d =>
    simp only [upd]
    rw [if_neg (fun e => h d rfl (by rw [← e]; exact ht))]
theorem wantedL_upd {a : Fr} {d : Option Nat} {u : CV} {g : Option (Nat × Bool)} (h : ∀ k, d = some k → k ∉ gR g) : wantedL (upd a d u) g = wantedL a g := by
  cases g with
  | none => rfl
  | some p =>
    obtain ⟨t, b⟩ := p
    have := upd_rd (a := a) (u := u) (l := gR (some (t, b))) h t (by simp [gR])
    simp only [wantedL, this]
theorem apartL_spec {x y : LOper} (h : apartL x y = true) : (∀ k, x.d = some k → k ∉ y.rd) ∧ (∀ k, x.d = some k → y.d ≠ some k) ∧ (∀ k, y.d = some k → k ∉ x.rd) ∧ (x.o.cls = 0 ∨ y.o.cls = 0 ∨ (x.o.cls ≤ 1 ∧ y.o.cls ≤ 1)) := by
  unfold apartL at h
  simp only [Bool.and_eq_true, Bool.or_eq_true, beq_iff_eq, decide_eq_true_eq] at h
  obtain ⟨⟨h1, h2⟩, h3⟩ := h
  refine ⟨fun k hk => ?_, fun k hk => ?_, fun k hk => ?_, ?_⟩
  · rw [hk] at h1; simp at h1; exact h1.1
  · rw [hk] at h1; simp at h1; exact h1.2
  · rw [hk] at h2; simpa using h2
  · rcases h3 with (h3 | h3) | h3
    · exact .inl h3
    · exact .inr (.inl h3)
    · exact .inr (.inr h3)
/-- Two that are apart may change places. -/
theorem opA_swap {L : List LOper} {i j : Nat} {x y : LOper} (hx : L[i]? = some x) (hy : L[j]? = some y) (hap : apartL x y = true) {K : Fr → Hp → Prop} {a : Fr} {h : Hp}
    (hh : opA call lim L i (fun a1 h1 => opA call lim L j K a1 h1) a h) : opA call lim L j (fun a1 h1 => opA call lim L i K a1 h1) a h := by
  obtain ⟨p1, p2, p3, p4⟩ := apartL_spec hap
  have gx : ∀ u, wantedL (upd a y.d u) x.g = wantedL a x.g := fun u => wantedL_upd fun k hk hm => p3 k hk (by simp [LOper.rd, hm])
  have gy : ∀ u, wantedL (upd a x.d u) y.g = wantedL a y.g := fun u => wantedL_upd fun k hk hm => p1 k hk (by simp [LOper.rd, hm])
  have ex : ∀ u h2, evO call lim x.o (upd a y.d u) h2 = evO call lim x.o a h2 := fun u h2 => evO_cong (upd_rd fun k hk hm => p3 k hk (by simp [LOper.rd, hm]))
  have ey : ∀ u h2, evO call lim y.o (upd a x.d u) h2 = evO call lim y.o a h2 := fun u h2 => evO_cong (upd_rd fun k hk hm => p1 k hk (by simp [LOper.rd, hm]))
  have cm : ∀ u v, upd (upd a x.d u) y.d v = upd (upd a y.d v) x.d u := fun u v => upd_comm p2
  unfold opA at hh ⊢
  simp only [hx, hy] at hh ⊢
  by_cases wx : wantedL a x.g = true
  · rw [if_pos wx] at hh
    cases hex : evO call lim x.o a h with
    | none => rw [hex] at hh; exact hh.elim
    | some r =>
      obtain ⟨v, h1⟩ := r
      rw [hex] at hh
      simp only [gy, ey] at hh
      by_cases wy : wantedL a y.g = true
      · rw [if_pos wy] at hh ⊢
        have key : ∃ u h2, evO call lim y.o a h1 = some (u, h2) ∧ evO call lim y.o a h = some (u, if y.o.cls ≤ 1 then h else h2) ∧ evO call lim x.o a (if y.o.cls ≤ 1 then h else h2) = some (v, h2) ∧ K (upd (upd a x.d v) y.d u) h2 := by
          cases hey : evO call lim y.o a h1 with
          | none => rw [hey] at hh; exact hh.elim
          | some r2 =>
            obtain ⟨u, h2⟩ := r2
            rw [hey] at hh
            refine ⟨u, h2, rfl, ?_⟩
            rcases p4 with c | c | ⟨c1, c2⟩
            · have e1 := cls1_same (by omega) hex
              subst e1
              by_cases cy : y.o.cls ≤ 1
              · have e2 := cls1_same cy hey
                subst e2
                rw [if_pos cy]
                exact ⟨hey, hex, hh⟩
              · rw [if_neg cy]
                exact ⟨hey, cls0_any c hex h2, hh⟩
            · have e2 := cls1_same (by omega) hey
              subst e2
              rw [if_pos (by omega)]
              exact ⟨cls0_any c hey h, hex, hh⟩
            · have e1 := cls1_same c1 hex
              have e2 := cls1_same c2 hey
              subst e1; subst e2
              rw [if_pos c2]
              exact ⟨hey, hex, hh⟩
        obtain ⟨u, h2, _, k2, k3, k4⟩ := key
        rw [k2]
        simp only [gx, ex, k3]
        rw [if_pos wx, ← cm]
        exact k4
      · rw [if_neg wy] at hh ⊢
        simp only [gx, ex, hex]
        rw [if_pos wx, ← cm]
        exact hh
  · rw [if_neg wx] at hh
    simp only [gy, ey] at hh
    by_cases wy : wantedL a y.g = true
    · rw [if_pos wy] at hh ⊢
      cases hey : evO call lim y.o a h with
      | none => rw [hey] at hh; exact hh.elim
      | some r =>
        obtain ⟨u, h2⟩ := r
        rw [hey] at hh
        simp only [gx]
        rw [if_neg wx, ← cm]
        exact hh
    · rw [if_neg wy] at hh ⊢
      simp only [gx]
      rw [if_neg wx, ← cm]
      exact hh

/-- What an operation waits for, through others. -/
def anc (ops : Array Oper) : Nat → Nat → List Nat
  | 0, _ => []
  | n + 1, j => match ops[j]? with
    | none => []
    | some o => o.after.toList.flatMap fun e => if Region.binds .any e then e.on :: anc ops n e.on else []
/-- What is listed brings what it waits for. -/
def Closed (ops : Array Oper) (listed : Array Bool) : Prop := ∀ (j : Nat) (o : Oper), listed.getD j false = true → ops[j]? = some o → ∀ e ∈ o.after, Region.binds .any e = true → listed.getD e.on false = true
theorem anc_listed {ops : Array Oper} {listed : Array Bool} (hc : Closed ops listed) : ∀ (n j : Nat), (∀ o, ops[j]? = some o → ∀ e ∈ o.after, Region.binds .any e = true → listed.getD e.on false = true) → ∀ k ∈ anc ops n j, listed.getD k false = true
  | 0, j, _, k, hk => by simp [anc] at hk
  | n + 1, j, hj, k, hk => by
    unfold anc at hk
    split at hk
    · cases hk
    · rename_i o ho
      rw [List.mem_flatMap] at hk
      obtain ⟨e, he, hk⟩ := hk
      split at hk
      · rename_i hb
        have h1 := hj o ho e (by simpa using he) hb
        rcases List.mem_cons.1 hk with rfl | hk
        · exact h1
        · exact anc_listed hc n e.on (fun o' ho' e' he' hb' => hc e.on o' h1 ho' e' he' hb') k hk
      · cases hk
theorem ready_after {ops : Array Oper} {listed : Array Bool} {j : Nat} (h : j ∈ Region.ready .any ops listed) : ∀ o, ops[j]? = some o → ∀ e ∈ o.after, Region.binds .any e = true → listed.getD e.on false = true := by
  obtain ⟨_, o, ho, hall⟩ := mem_ready.1 h
  intro o' ho' e he hb
  rw [ho] at ho'; injection ho' with ho'; subst ho'
  exact hall e he hb
theorem Closed.set {ops : Array Oper} {listed : Array Bool} {j : Nat} (hc : Closed ops listed) (h : j ∈ Region.ready .any ops listed) : Closed ops (listed.setIfInBounds j true) := by
  intro k o hk ho e he hb
  have up : ∀ i, listed.getD i false = true → (listed.setIfInBounds j true).getD i false = true := by
    intro i hi
    by_cases e : j = i
    · subst e
      rcases Nat.lt_or_ge j listed.size with h' | h'
      · simp [h']
      · simp [Array.getElem?_eq_none h'] at hi
    · simpa [Array.getElem?_setIfInBounds, e] using hi
  by_cases e' : j = k
  · subst e'; exact up _ (ready_after h o ho e he hb)
  · exact up _ (hc k o (by simpa [Array.getElem?_setIfInBounds, e'] using hk) ho e he hb)
/-- **An operation that may come up now may be taken first.** -/
theorem anyA_first {ops : Array Oper} {L : List LOper} {Q : Fr → Hp → Prop} {n i : Nat} {x : LOper} (hx : L[i]? = some x) (hLs : ∀ j : Nat, j < ops.size → ∃ y, L[j]? = some y) :
    ∀ (fuel : Nat) (listed : Array Bool) (a : Fr) (h : Hp), Closed ops listed →
      (∀ (j : Nat) (y : LOper), L[j]? = some y → j ≠ i → listed.getD j true = false → i ∉ anc ops n j → apartL x y = true) → i ∈ Region.ready .any ops listed → n ≠ 0 →
      opA call lim L i (anyA call lim ops L Q fuel (listed.setIfInBounds i true)) a h → anyA call lim ops L Q (fuel + 1) listed a h := by
  intro fuel
  induction fuel with
  | zero =>
    intro listed a h hcl _ hr _ H
    refine ⟨fun e => (by rw [e] at hr; cases hr), fun j hj => ?_⟩
    by_cases hji : j = i
    · subst hji; exact H
    · have hm := ready_mono hj hji
      exfalso
      unfold opA at H
      rw [hx] at H
      simp only at H
      split at H
      · split at H
        · rw [H.1] at hm; cases hm
        · exact H
      · rw [H.1] at hm; cases hm
  | succ fuel ih =>
    intro listed a h hcl hfree hr hn H
    refine ⟨fun e => (by rw [e] at hr; cases hr), fun j hj => ?_⟩
    by_cases hji : j = i
    · subst hji; exact H
    · obtain ⟨hjun, oj, hoj, hall⟩ := mem_ready.1 hj
      obtain ⟨y, hy⟩ := hLs j (by have := (Array.getElem?_eq_some_iff.1 hoj).1; exact this)
      have hiun : listed.getD i false = false := by
        have h0 := (mem_ready.1 hr).1
        rcases Nat.lt_or_ge i listed.size with h' | h'
        · simpa [h'] using h0
        · simp [Array.getElem?_eq_none h']
      have hanc : i ∉ anc ops n j := fun hm => by
        have := anc_listed hcl n j (ready_after hj) i hm
        rw [hiun] at this; cases this
      have hap := hfree j y hy hji hjun hanc
      have h2 := opA_mono (K' := fun a1 h1 => opA call lim L j (anyA call lim ops L Q fuel ((listed.setIfInBounds i true).setIfInBounds j true)) a1 h1)
        (fun a1 h1 hh => hh.2 j (ready_mono hj hji)) H
      have h3 := opA_swap hx hy hap h2
      refine opA_mono (fun a1 h1 hh => ih (listed.setIfInBounds j true) a1 h1 (hcl.set hj) ?_ (ready_mono hr (Ne.symm hji)) hn ?_) h3
      · intro k z hz hki hun hno
        refine hfree k z hz hki ?_ hno
        by_cases hjk : j = k
        · subst hjk; exact hjun
        · rw [getD_set_ne true hjk] at hun; exact hun
      · rw [Array.setIfInBounds_comm _ _ hji]; exact hh

/-- The text's order fits, and whatever may come up beside an operation is apart from it. -/
def lexOK (ops : Array Oper) (L : List LOper) : Bool :=
  (List.range ops.size).all fun i => (match ops[i]? with | some o => o.after.toList.all fun e => !(Region.binds .any e) || decide (e.on < i) | none => false) &&
    ((List.range ops.size).all fun j => decide (j ≤ i) || (anc ops ops.size j).contains i || (match L[i]?, L[j]? with | some x, some y => apartL x y | _, _ => false))
theorem anyA_lex {ops : Array Oper} {L : List LOper} {Q : Fr → Hp → Prop} (hlen : L.length = ops.size) (hok : lexOK ops L = true) : ∀ (m k : Nat) (listed : Array Bool) (a : Fr) (h : Hp), k + m = ops.size →
    listed.size = ops.size → (∀ j, j < ops.size → listed[j]? = some (decide (j < k))) → (∃ a' h', evOps call lim (L.drop k) a h = some (a', h') ∧ Q a' h') → anyA call lim ops L Q m listed a h
  | 0, k, listed, a, h, hk, hsz, hl, ⟨a', h', he, hq⟩ => by
    have : L.drop k = [] := List.drop_eq_nil_of_le (by omega)
    rw [this] at he
    injection he with he; injection he with e1 e2; subst e1; subst e2
    refine ⟨?_, hq⟩
    cases hr : Region.ready .any ops listed with
    | nil => rfl
    | cons i r =>
      have hi : i ∈ Region.ready .any ops listed := by rw [hr]; simp
      obtain ⟨h1, o, ho, _⟩ := mem_ready.1 hi
      have hlt := (Array.getElem?_eq_some_iff.1 ho).1
      have h2 := hl i hlt
      have hk' : k = ops.size := by omega
      simp [h2, hk', hlt] at h1
  | m + 1, k, listed, a, h, hk, hsz, hl, ⟨a', h', he, hq⟩ => by
    have hkl : k < L.length := by omega
    have hcons : L.drop k = L[k] :: L.drop (k + 1) := (List.getElem_cons_drop hkl).symm
    rw [hcons] at he
    have hx : L[k]? = some L[k] := List.getElem?_eq_getElem hkl
    have hko : k < ops.size := by omega
    unfold lexOK at hok
    rw [List.all_eq_true] at hok
    have hk1 := hok k (by simp; omega)
    rw [Bool.and_eq_true] at hk1
    obtain ⟨haft, hap⟩ := hk1
    have hcl : Closed ops listed := by
      intro j o hj ho e heo hb
      have hjlt := (Array.getElem?_eq_some_iff.1 ho).1
      have h1 := hok j (by simp; exact hjlt)
      rw [Bool.and_eq_true, ho] at h1
      have h2 := h1.1
      simp only [List.all_eq_true] at h2
      have h3 := h2 e (by simpa using heo)
      rw [hb] at h3
      simp at h3
      have hjk : j < k := by
        have := hl j hjlt
        simpa [this] using hj
      have := hl e.on (by omega)
      simp [this]; omega
    have hr : k ∈ Region.ready .any ops listed := by
      refine mem_ready.2 ⟨?_, ops[k], Array.getElem?_eq_getElem hko, ?_⟩
      · have := hl k hko
        simp [this]
      · intro e heo hb
        have ho : ops[k]? = some ops[k] := Array.getElem?_eq_getElem hko
        rw [ho] at haft
        simp only [List.all_eq_true] at haft
        have h3 := haft e (by simpa using heo)
        rw [hb] at h3
        simp at h3
        have := hl e.on (by omega)
        simp [this]; omega
    refine anyA_first (n := ops.size) hx (fun j hj => ⟨L[j]'(by omega), List.getElem?_eq_getElem (by omega)⟩) m listed a h hcl ?_ hr (by omega) ?_
    · intro j y hy hjk hun hno
      have hjl : j < ops.size := by have := (List.getElem?_eq_some_iff.1 hy).1; omega
      have hge : k < j := by
        have := hl j hjl
        simp [this] at hun
        omega
      rw [List.all_eq_true] at hap
      have h1 := hap j (by simp; exact hjl)
      simp only [Bool.or_eq_true, decide_eq_true_eq, List.contains_iff_mem] at h1
      rcases h1 with (h1 | h1) | h1
      · omega
      · exact absurd h1 hno
      · rw [hx, hy] at h1; exact h1
    · unfold opA
      rw [hx]
      simp only
      unfold evOps at he
      have next : ∀ a1 h1, evOps call lim (L.drop (k + 1)) a1 h1 = some (a', h') → anyA call lim ops L Q m (listed.setIfInBounds k true) a1 h1 := fun a1 h1 he1 =>
        anyA_lex hlen (by unfold lexOK; rw [List.all_eq_true]; exact hok) m (k + 1) _ a1 h1 (by omega) (by simp [hsz]) (fun j hj => by
          rw [Array.getElem?_setIfInBounds]
          by_cases e : k = j
          · subst e; simp [hsz, hj]
          · rw [if_neg e, hl j hj]; congr 1; simp; omega) ⟨a', h', he1, hq⟩
      split
      · rename_i hw
        rw [if_pos hw] at he
        obtain ⟨⟨v, h3⟩, k1, k2⟩ := Option.bind_eq_some_iff.1 he
        rw [k1]; exact next _ _ k2
      · rename_i hw
        rw [if_neg hw] at he
        exact next _ _ he
theorem lOps_get {ops : Array Oper} : ∀ {l : List Oper} {ll : List LOper}, lOps P pf nt ops l = some ll → ll.length = l.length ∧ ∀ (i : Nat) (o : Oper), l[i]? = some o → ∃ x, ll[i]? = some x ∧ lOper P pf nt ops o = some x
  | [], ll, hl => by injection hl with hl; subst hl; simp
  | o :: r, ll, hl => by
    unfold lOps at hl
    obtain ⟨x, h1, hl⟩ := Option.bind_eq_some_iff.1 hl
    obtain ⟨q, h2, rfl⟩ := Option.map_eq_some_iff.1 hl
    obtain ⟨k1, k2⟩ := lOps_get h2
    refine ⟨by simp [k1], fun i o' ho => ?_⟩
    cases i with
    | zero => simp at ho; subst ho; exact ⟨x, by simp, h1⟩
    | succ i => simpa using k2 i o' (by simpa using ho)
/-- From the evaluator's orders to the model's. -/
theorem anyA_sound (hcall : CallOK P B w0 call) {ops : Array Oper} {L : List LOper} (hL : lOps P pf nt ops ops.toList = some L) {Q : Fr → Hp → Prop} {Q' : Exit → Act → World → Prop} {ρ0 : Lo}
    (hQ : ∀ ρ a h act w, Ext ρ0 ρ → Stt B w0 nt ρ a h act w → Q a h → Q' .normal act w) : ∀ (fuel : Nat) (listed : Array Bool) (ρ : Lo) (a : Fr) (h : Hp) (act : Act) (w : World), Ext ρ0 ρ → Stt B w0 nt ρ a h act w →
      anyA call lim ops L Q fuel listed a h → wpAny P .any ops Q' fuel listed act w
  | 0, listed, ρ, a, h, act, w, he, hs, H => ⟨H.1, hQ ρ a h act w he hs H.2⟩
  | n + 1, listed, ρ, a, h, act, w, he, hs, H => by
    refine ⟨fun e => hQ ρ a h act w he hs (H.1 e), fun i hi => ?_⟩
    have h1 := H.2 i hi
    unfold wpOp
    split
    · rename_i e
      obtain ⟨_, o, ho, _⟩ := mem_ready.1 hi
      rw [e] at ho; cases ho
    · rename_i o ho
      obtain ⟨x, hx, hc⟩ := (lOps_get hL).2 i o (by simpa using ho)
      have hnext : ∀ a1 h2, (if wantedL a x.g then (evO call lim x.o a h).map fun (v, h') => (upd a x.d v, h') else some (upd a x.d un, h)) = some (a1, h2) → anyA call lim ops L Q n (listed.setIfInBounds i true) a1 h2 →
          if Region.wanted o (yielded ops act.tmps) then o.wp P act w (wpAny P .any ops Q' n (listed.setIfInBounds i true)) Q' ∨ (o.asks P act w ∧ LetsOut Q') else wpAny P .any ops Q' n (listed.setIfInBounds i true) (act.put o.dst undef) w := by
        intro a1 h2 hev hany
        have := lOper_sound hcall hc hs hev (next := wpAny P .any ops Q' n (listed.setIfInBounds i true)) (Q := Q') fun ρ' act' w' q1 q2 => anyA_sound hcall hL hQ n _ ρ' a1 h2 act' w' (he.trans q1) q2 hany
        split
        · rename_i hw; rw [if_pos hw] at this; exact .inl this
        · rename_i hw; rw [if_neg hw] at this; exact this
      unfold opA at h1
      rw [hx] at h1
      simp only at h1
      split at h1
      · rename_i hw
        split at h1
        · rename_i v h' ev
          exact hnext _ _ (by rw [if_pos hw, ev]; rfl) h1
        · exact h1.elim
      · rename_i hw
        exact hnext _ _ (by rw [if_neg hw]) h1
end

/-! ### Code -/
def lC (P : Program) (pf : FuncId → Bool) (nt : Nat) : Code → Option LC
  | .skip => some .skip
  | .region _ ops draw => (lOps P pf nt ops ops.toList).bind fun L => if draw then (if P.follows .mixedOrders && lexOK ops L then some (.reg L) else none) else some (.reg L)
  | .seq a b => (lC P pf nt a).bind fun a => (lC P pf nt b).map fun b => .seq a b
  | .cond c a b => (lX c).bind fun c => (lC P pf nt a).bind fun a => (lC P pf nt b).map fun b => .cond c a b
  | .block id c => (lC P pf nt c).map (.block id)
  | .loop c => (lC P pf nt c).map .loop
  | .exit id => some (.exit id)
  | .ret => some .ret
  | _ => none
def Ex.to : Ex → Exit
  | .norm => .normal
  | .exit id => .exit id
  | .ret => .ret

section
variable {P : Program} {B : Nat} {w0 : World} {nt : Nat} {call : Call} {lim : Nat} {pf : FuncId → Bool}
theorem evC_sound (hcall : CallOK P B w0 call) {n : Nat} : ∀ {c : Code} {lc : LC}, lC P pf nt c = some lc → ∀ {ρ : Lo} {a a' : Fr} {h h' : Hp} {act : Act} {w : World} {e : Ex}, Stt B w0 nt ρ a h act w →
    evC call lim n lc a h = some (e, a', h') → ∀ {Q : Exit → Act → World → Prop}, (∀ ρ' act' w', Ext ρ ρ' → Stt B w0 nt ρ' a' h' act' w' → Q e.to act' w') → c.wp P Q act w := by
  intro c
  induction c with
  | skip =>
    intro lc hc ρ a a' h h' act w e hs he Q hQ
    injection hc with hc; subst hc
    injection he with he; injection he with e1 he; injection he with e2 e3; subst e1; subst e2; subst e3
    exact wp_skip (hQ ρ act w (Ext.refl _) hs)
  | region id ops draw =>
    intro lc hc ρ a a' h h' act w e hs he Q hQ
    unfold lC at hc
    obtain ⟨L, hL, hc⟩ := Option.bind_eq_some_iff.1 hc
    have hev : lc = .reg L → e = .norm ∧ evOps call lim L a h = some (a', h') := by
      intro hl; subst hl
      unfold evC at he
      obtain ⟨⟨a1, h1⟩, k1, k2⟩ := Option.map_eq_some_iff.1 he
      injection k2 with e1 k2; injection k2 with e2 e3; subst e2; subst e3
      exact ⟨e1.symm, k1⟩
    cases draw
    · simp only [Bool.false_eq_true, if_false] at hc
      injection hc with hc
      obtain ⟨rfl, hev'⟩ := hev hc.symm
      exact wp_region_list (evOps_sound hcall hL hs hev' fun ρ' act' w' q1 q2 => hQ ρ' act' w' q1 q2)
    · simp only [if_true] at hc
      split at hc
      · rename_i hok
        injection hc with hc
        obtain ⟨rfl, hev'⟩ := hev hc.symm
        rw [Bool.and_eq_true] at hok
        refine wp_region_any hok.1 ?_
        have hs1 : Stt B w0 nt ρ a h act { w with drawn := w.drawn + 1 } := ⟨hs.ar, hs.nt, hs.df, hs.rel.drewN 1⟩
        refine anyA_sound (lim := lim) hcall hL (Q := fun a1 h1 => a1 = a' ∧ h1 = h') (ρ0 := ρ) (fun ρ' a1 h1 act1 w1 q1 q2 q3 => ?_) ops.size _ ρ a h act _ (Ext.refl _) hs1 ?_
        · obtain ⟨rfl, rfl⟩ := q3; exact hQ ρ' act1 w1 q1 q2
        · exact anyA_lex (by rw [(lOps_get hL).1]; simp) hok.2 ops.size 0 _ a h (by omega) (by simp) (fun j hj => by simp [hj]) ⟨a', h', by simpa using hev', rfl, rfl⟩
      · cases hc
  | seq c d ih1 ih2 =>
    intro lc hc ρ a a' h h' act w e hs he Q hQ
    unfold lC at hc
    obtain ⟨c1, h1, hc⟩ := Option.bind_eq_some_iff.1 hc
    obtain ⟨d1, h2, rfl⟩ := Option.map_eq_some_iff.1 hc
    unfold evC at he
    obtain ⟨⟨e1, a1, hp1⟩, k1, k2⟩ := Option.bind_eq_some_iff.1 he
    refine wp_seq (ih1 h1 hs k1 fun ρ' act' w' q1 q2 => ?_)
    cases e1 with
    | norm => exact ih2 h2 q2 k2 fun ρ'' act'' w'' r1 r2 => hQ ρ'' act'' w'' (q1.trans r1) r2
    | exit id => injection k2 with k2; injection k2 with e1 k2; injection k2 with e2 e3; subst e1; subst e2; subst e3; exact hQ ρ' act' w' q1 q2
    | ret => injection k2 with k2; injection k2 with e1 k2; injection k2 with e2 e3; subst e1; subst e2; subst e3; exact hQ ρ' act' w' q1 q2
  | cond x c d ih1 ih2 =>
    intro lc hc ρ a a' h h' act w e hs he Q hQ
    unfold lC at hc
    obtain ⟨x1, h0, hc⟩ := Option.bind_eq_some_iff.1 hc
    obtain ⟨c1, h1, hc⟩ := Option.bind_eq_some_iff.1 hc
    obtain ⟨d1, h2, rfl⟩ := Option.map_eq_some_iff.1 hc
    unfold evC at he
    have hx := lX_sound hs.ar h0
    split at he
    · rename_i b hb
      rw [hb] at hx
      have hx' : act.eval x = .bool b := hx
      cases b
      · simp only [Bool.false_eq_true, if_false] at he
        exact wp_cond_false hx' (ih2 h2 hs he hQ)
      · simp only [if_true] at he
        exact wp_cond_true hx' (ih1 h1 hs he hQ)
    · cases he
  | block id c ih =>
    intro lc hc ρ a a' h h' act w e hs he Q hQ
    unfold lC at hc
    obtain ⟨c1, h1, rfl⟩ := Option.map_eq_some_iff.1 hc
    unfold evC at he
    obtain ⟨⟨e1, a1, hp1⟩, k1, k2⟩ := Option.map_eq_some_iff.1 he
    injection k2 with e0 k2; injection k2 with e2 e3; subst e2; subst e3
    refine wp_block (ih h1 hs k1 fun ρ' act' w' q1 q2 => ?_)
    have := hQ ρ' act' w' q1 q2
    rw [← e0] at this
    cases e1 with
    | norm => exact this
    | ret => exact this
    | exit id' =>
      by_cases hid : id' = id
      · subst hid; simpa [Ex.to, Exit.inBlock] using this
      · simpa [Ex.to, Exit.inBlock, hid] using this
  | loop c ih =>
    intro lc hc ρ a a' h h' act w e hs he Q hQ
    unfold lC at hc
    obtain ⟨c1, h1, rfl⟩ := Option.map_eq_some_iff.1 hc
    unfold evC at he
    refine wp_loop_rounds n ?_
    have key : ∀ (m : Nat) (ρ1 : Lo) (a : Fr) (h : Hp) (act : Act) (w : World), Ext ρ ρ1 → Stt B w0 nt ρ1 a h act w → evL (evC call lim n c1) m a h = some (e, a', h') → Code.rounds P c Q m act w := by
      intro m
      induction m with
      | zero => intro ρ1 a h act w _ _ he; cases he
      | succ m ihm =>
        intro ρ1 a h act w hx hs he
        unfold evL at he
        obtain ⟨⟨e1, a1, hp1⟩, k1, k2⟩ := Option.bind_eq_some_iff.1 he
        rw [rounds_succ]
        refine ih h1 hs k1 fun ρ' act' w' q1 q2 => ?_
        cases e1 with
        | norm => exact ihm ρ' a1 hp1 act' w' (hx.trans q1) q2 k2
        | exit id => injection k2 with k2; injection k2 with e1 k2; injection k2 with e2 e3; subst e1; subst e2; subst e3; exact hQ ρ' act' w' (hx.trans q1) q2
        | ret => injection k2 with k2; injection k2 with e1 k2; injection k2 with e2 e3; subst e1; subst e2; subst e3; exact hQ ρ' act' w' (hx.trans q1) q2
    exact key n ρ a h act w (Ext.refl _) hs he
  | exit id =>
    intro lc hc ρ a a' h h' act w e hs he Q hQ
    injection hc with hc; subst hc
    injection he with he; injection he with e1 he; injection he with e2 e3; subst e1; subst e2; subst e3
    exact wp_exit (hQ ρ act w (Ext.refl _) hs)
  | ret =>
    intro lc hc ρ a a' h h' act w e hs he Q hQ
    injection hc with hc; subst hc
    injection he with he; injection he with e1 he; injection he with e2 e3; subst e1; subst e2; subst e3
    exact wp_ret (hQ ρ act w (Ext.refl _) hs)
  | _ => intro lc hc; simp [lC] at hc
end

/-! ### What lies below the limit stays -/
def Keeps (lim : Nat) (h h' : Hp) : Prop := h.length ≤ h'.length ∧ ∀ id, id < lim → id < h.length → h'[id]? = h[id]?
theorem Keeps.refl (lim : Nat) (h : Hp) : Keeps lim h h := ⟨Nat.le_refl _, fun _ _ _ => rfl⟩
theorem Keeps.trans {lim : Nat} {a b c : Hp} (h : Keeps lim a b) (k : Keeps lim b c) : Keeps lim a c :=
  ⟨Nat.le_trans h.1 k.1, fun id h1 h2 => (k.2 id h1 (Nat.lt_of_lt_of_le h2 h.1)).trans (h.2 id h1 h2)⟩
theorem Keeps.app (lim : Nat) (h : Hp) (l : List Ob) : Keeps lim h (h ++ l) := ⟨by simp, fun id _ h2 => List.getElem?_append_left h2⟩
theorem Keeps.set {lim : Nat} (h : Hp) {id : Nat} (o : Ob) (hl : lim ≤ id) : Keeps lim h (h.set id o) := ⟨by simp, fun j h1 _ => List.getElem?_set_ne (by omega)⟩
def KeepC (call : Call) : Prop := ∀ (f : FuncId) (args : List CV) (h : Hp) (lim : Nat) (v : CV) (h' : Hp), call f args h lim = some (v, h') → Keeps lim h h'
section
variable {call : Call} {lim : Nat}
theorem evO_keeps (hk : KeepC call) {o : LO} {a : Fr} {h h' : Hp} {v : CV} (he : evO call lim o a h = some (v, h')) : Keeps lim h h' := by
  by_cases hc : o.cls ≤ 1
  · rw [cls1_same hc he]; exact Keeps.refl _ _
  · cases o <;> simp [LO.cls] at hc <;> simp only [evO] at he
    case box ty x => obtain ⟨_, _, k⟩ := Option.map_eq_some_iff.1 he; injection k with _ e; subst e; exact Keeps.app _ _ _
    case alloc ty z => injection he with he; injection he with _ e; subst e; exact Keeps.app _ _ _
    case lit ty sz len z ps =>
      obtain ⟨_, _, he⟩ := Option.bind_eq_some_iff.1 he
      obtain ⟨_, _, k⟩ := Option.map_eq_some_iff.1 he
      injection k with _ e; subst e; exact Keeps.app _ _ _
    case make ty sz by_ z l c =>
      split at he
      · split at he
        · injection he with he; injection he with _ e; subst e; exact Keeps.app _ _ _
        · cases he
      · cases he
    case store n x y =>
      split at he
      · split at he
        · obtain ⟨h2, k1, k2⟩ := Option.map_eq_some_iff.1 he
          injection k2 with _ e; subst e
          unfold wrCells at k1
          split at k1
          · split at k1
            · rename_i hb; injection k1 with k1; subst k1; exact Keeps.set _ _ hb.1
            · cases k1
          · cases k1
        · cases he
      · cases he
    case app ty sz by_ x y =>
      unfold appV at he
      obtain ⟨⟨m, new⟩, _, he⟩ := Option.bind_eq_some_iff.1 he
      simp only at he
      split at he
      · split at he
        · injection he with he; injection he with _ e; subst e; exact Keeps.refl _ _
        · split at he
          · injection he with he; injection he with _ e; subst e; exact Keeps.refl _ _
          · cases he
        · cases he
      · split at he
        · split at he
          · injection he with he; injection he with _ e; subst e; exact Keeps.app _ _ _
          · cases he
        · split at he
          · split at he
            · rename_i hb
              injection he with he; injection he with _ e; subst e
              exact (Keeps.set h _ hb.1).trans (Keeps.app _ _ _)
            · cases he
          · cases he
        · cases he
    case call p f xs =>
      cases p
      · exact hk _ _ _ _ _ _ he
      · simp at hc
    case bad => cases he
theorem evOps_keeps (hk : KeepC call) : ∀ {l : List LOper} {a a' : Fr} {h h' : Hp}, evOps call lim l a h = some (a', h') → Keeps lim h h'
  | [], a, a', h, h', he => by injection he with he; injection he with _ e; subst e; exact Keeps.refl _ _
  | o :: r, a, a', h, h', he => by
    unfold evOps at he
    split at he
    · obtain ⟨⟨v, h1⟩, k1, k2⟩ := Option.bind_eq_some_iff.1 he
      exact (evO_keeps hk k1).trans (evOps_keeps hk k2)
    · exact evOps_keeps hk he
theorem evC_keeps (hk : KeepC call) {n : Nat} : ∀ {c : LC} {a a' : Fr} {h h' : Hp} {e : Ex}, evC call lim n c a h = some (e, a', h') → Keeps lim h h' := by
  intro c
  induction c with
  | skip => intro a a' h h' e he; injection he with he; injection he with _ he; injection he with _ e; subst e; exact Keeps.refl _ _
  | reg ops =>
    intro a a' h h' e he
    unfold evC at he
    obtain ⟨⟨a1, h1⟩, k1, k2⟩ := Option.map_eq_some_iff.1 he
    injection k2 with _ k2; injection k2 with _ e; subst e
    exact evOps_keeps hk k1
  | seq c d ih1 ih2 =>
    intro a a' h h' e he
    unfold evC at he
    obtain ⟨⟨e1, a1, h1⟩, k1, k2⟩ := Option.bind_eq_some_iff.1 he
    cases e1 with
    | norm => exact (ih1 k1).trans (ih2 k2)
    | exit id => injection k2 with k2; injection k2 with _ k2; injection k2 with _ e; subst e; exact ih1 k1
    | ret => injection k2 with k2; injection k2 with _ k2; injection k2 with _ e; subst e; exact ih1 k1
  | cond x c d ih1 ih2 =>
    intro a a' h h' e he
    unfold evC at he
    split at he
    · split at he
      · exact ih1 he
      · exact ih2 he
    · cases he
  | block id c ih =>
    intro a a' h h' e he
    unfold evC at he
    obtain ⟨⟨e1, a1, h1⟩, k1, k2⟩ := Option.map_eq_some_iff.1 he
    injection k2 with _ k2; injection k2 with _ e; subst e
    exact ih k1
  | loop c ih =>
    intro a a' h h' e he
    unfold evC at he
    have key : ∀ (m : Nat) (a : Fr) (h : Hp), evL (evC call lim n c) m a h = some (e, a', h') → Keeps lim h h' := by
      intro m
      induction m with
      | zero => intro a h he; cases he
      | succ m ihm =>
        intro a h he
        unfold evL at he
        obtain ⟨⟨e1, a1, h1⟩, k1, k2⟩ := Option.bind_eq_some_iff.1 he
        cases e1 with
        | norm => exact (ih k1).trans (ihm _ _ k2)
        | exit id => injection k2 with k2; injection k2 with _ k2; injection k2 with _ e; subst e; exact ih k1
        | ret => injection k2 with k2; injection k2 with _ k2; injection k2 with _ e; subst e; exact ih k1
    exact key n a h he
  | exit id => intro a a' h h' e he; injection he with he; injection he with _ he; injection he with _ e; subst e; exact Keeps.refl _ _
  | ret => intro a a' h h' e he; injection he with he; injection he with _ he; injection he with _ e; subst e; exact Keeps.refl _ _
  | bad => intro a a' h h' e he; cases he
end
theorem evCall_keeps {S : Sys} (hx : KeepC S.xt) : ∀ n : Nat, KeepC (evCall S n)
  | 0 => fun f args h lim v h' he => by cases he
  | n + 1 => fun f args h lim v h' he => by
    unfold evCall at he
    split at he
    · exact hx _ _ _ _ _ _ he
    · split at he
      · obtain ⟨⟨e, a, h1⟩, k1, k2⟩ := Option.bind_eq_some_iff.1 he
        have := evC_keeps (evCall_keeps hx n) k1
        cases e with
        | exit id => cases k2
        | norm => obtain ⟨_, _, k⟩ := Option.map_eq_some_iff.1 k2; injection k with _ e; subst e; exact this
        | ret => obtain ⟨_, _, k⟩ := Option.map_eq_some_iff.1 k2; injection k with _ e; subst e; exact this
      · cases he

/-! ### Functions -/
def lRes (P : Program) (rs : List ResultVar) : Option (List Rs) :=
  match rs with
  | [] => some []
  | .tmp t :: r => (lRes P r).map fun q => .tmp t :: q
  | .cell t ty :: r => (aggT P ty).bind fun ag => (szT P ty).bind fun n => if ag = true ∨ n = 1 then (lRes P r).map fun q => .cell t ag n :: q else none
/-- A function of the program in the small form. -/
def lFn (P : Program) (pf : FuncId → Bool) (fn : Func) : Option LFn :=
  match fn.body with
  | none => none
  | some c => if fn.params.size ≤ fn.ntmps then (lC P pf fn.ntmps c).bind fun c => (lRes P fn.results.toList).map fun r => ⟨fn.params.size, c, r⟩ else none
structure SysOK (P : Program) (pf : FuncId → Bool) (S : Sys) (B : Nat) (w0 : World) : Prop where
  fs : ∀ (f : FuncId) (F : LFn), S.fs f = some F → ∃ fn, P.funcs[f]? = some fn ∧ lFn P pf fn = some F
  xt : CallOK P B w0 S.xt
end Go.E
