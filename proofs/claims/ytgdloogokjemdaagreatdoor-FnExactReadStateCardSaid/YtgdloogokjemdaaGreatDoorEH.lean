/- Loops whose invariant speaks of what they change alone; growing slices as steps. Plain lemmas; no condition. -/
import Derived.Test.YtgdloogokjemdaaGreatDoorEF
set_option linter.unusedVariables false
set_option linter.unusedSimpArgs false
namespace Go.E
open Go
/-- A fact that is kept for later. -/
def Hid (p : Prop) : Prop := p
def OT.mods : OT → List (Option Nat)
  | .nil => []
  | .op o r => o.d :: r.mods
  | .alt s t => s.mods ++ t.mods
  | .bad => []
def LC.mods : LC → List (Option Nat)
  | .reg l => l.map (·.d)
  | .any t => t.mods
  | .seq a b => a.mods ++ b.mods
  | .cond _ a b => a.mods ++ b.mods
  | .block _ c => c.mods
  | .loop c => c.mods
  | _ => []
def J.fr : J → J
  | .code lim c a h Q => .code lim c a h fun e a' h' => Q e a' h' ∧ ∀ t, some t ∉ c.mods → a' t = a t
  | .ops lim c a h Q => .ops lim c a h fun a' h' => Q a' h' ∧ ∀ t, some t ∉ c.mods → a' t = a t
  | j => j
theorem upd_other {a : Fr} {d : Option Nat} {v : CV} {t : Nat} (h : some t ≠ d) : upd a d v t = a t := by
  cases d with
  | none => rfl
  | some d => simp only [upd]; rw [if_neg (fun e => h (by rw [e]))]
theorem ofL_mods : ∀ l : List LOper, (OT.ofL l).mods = l.map (·.d)
  | [] => rfl
  | o :: r => by unfold OT.ofL OT.mods; rw [ofL_mods r]; rfl
/-- What a piece of code has no place for stays. -/
theorem Holds.frame {S : Sys} {j : J} (hh : Holds S j) : Holds S j.fr := by
  induction hh with
  | skip hq => exact .skip ⟨hq, fun _ _ => rfl⟩
  | @reg lim l a h Q _ ih => exact .reg (ih.mono _ ⟨rfl, rfl, rfl, rfl, fun a' h' k => ⟨k.1, fun t ht => k.2 t (by rw [ofL_mods]; exact ht)⟩⟩)
  | any _ ih => exact .any (ih.mono _ ⟨rfl, rfl, rfl, rfl, fun a' h' k => k⟩)
  | @seq lim c d a h R Q _ _ h3 ih1 ih2 =>
    refine .seq ih1 (fun a' h' k => (ih2 a' h' k.1).mono _ ⟨rfl, rfl, rfl, rfl, fun e a2 h2 q => ⟨q.1, fun t ht => ?_⟩⟩) (fun e a' h' hne k => ⟨h3 e a' h' hne k.1, fun t ht => k.2 t fun hm => ht (by simp [LC.mods, hm])⟩)
    rw [q.2 t fun hm => ht (by simp [LC.mods, hm]), k.2 t fun hm => ht (by simp [LC.mods, hm])]
  | @cond lim x b c d a h Q hx _ ih =>
    refine .cond hx (ih.mono _ ⟨rfl, rfl, rfl, rfl, fun e a2 h2 q => ⟨q.1, fun t ht => q.2 t fun hm => ht ?_⟩⟩)
    cases b
    · simp at hm; simp [LC.mods, hm]
    · simp at hm; simp [LC.mods, hm]
  | @block lim id c a h Q _ ih =>
    refine .block (ih.mono _ ⟨rfl, rfl, rfl, rfl, fun e a2 h2 q => ?_⟩)
    obtain ⟨q1, q2⟩ := q
    cases e with
    | norm => exact ⟨q1, q2⟩
    | ret => exact ⟨q1, q2⟩
    | exit j =>
      simp only [Upto] at q1 ⊢
      split
      · rename_i hj; rw [if_pos hj] at q1; exact ⟨q1, q2⟩
      · rename_i hj; rw [if_neg hj] at q1; exact ⟨q1, q2⟩
  | @loop lim c a h R Q _ _ h3 ih1 ih2 =>
    refine .loop ih1 (fun a' h' k => (ih2 a' h' k.1).mono _ ⟨rfl, rfl, rfl, rfl, fun e a2 h2 q => ⟨q.1, fun t ht => ?_⟩⟩) (fun e a' h' hne k => ⟨h3 e a' h' hne k.1, k.2⟩)
    rw [q.2 t ht, k.2 t ht]
  | exit hq => exact .exit ⟨hq, fun _ _ => rfl⟩
  | ret hq => exact .ret ⟨hq, fun _ _ => rfl⟩
  | onil hq => exact .onil ⟨hq, fun _ _ => rfl⟩
  | @oop lim o r a h R Q hw h1 _ _ ih2 =>
    refine .oop hw h1 fun v h' k => (ih2 v h' k).mono _ ⟨rfl, rfl, rfl, rfl, fun a2 h2 q => ⟨q.1, fun t ht => ?_⟩⟩
    rw [q.2 t fun hm => ht (by simp [OT.mods, hm]), upd_other fun e => ht (by simp [OT.mods, e])]
  | @oskip lim o r a h Q hw _ ih =>
    refine .oskip hw (ih.mono _ ⟨rfl, rfl, rfl, rfl, fun a2 h2 q => ⟨q.1, fun t ht => ?_⟩⟩)
    rw [q.2 t fun hm => ht (by simp [OT.mods, hm]), upd_other fun e => ht (by simp [OT.mods, e])]
  | oalt _ _ ih1 ih2 =>
    exact .oalt (ih1.mono _ ⟨rfl, rfl, rfl, rfl, fun a2 h2 q => ⟨q.1, fun t ht => q.2 t fun hm => ht (by simp [OT.mods, hm])⟩⟩)
      (ih2.mono _ ⟨rfl, rfl, rfl, rfl, fun a2 h2 q => ⟨q.1, fun t ht => q.2 t fun hm => ht (by simp [OT.mods, hm])⟩⟩)
  | plain he hk => exact .plain he hk
  | call h1 _ => exact .call h1
  | callv hF hx h1 _ => exact .callv hF hx h1
  | pure hp h1 hk _ => exact .pure hp h1 hk
  | fn hF hn h1 _ => exact .fn hF hn h1
  | xt hF hx hk => exact .xt hF hx hk
def inMask (m : Nat) (l : List (Option Nat)) : Bool := l.all fun d => match d with | none => true | some t => (m >>> t) % 2 == 1
theorem over_eq {m : Nat} {a a' : Fr} {l : List (Option Nat)} (hm : inMask m l = true) (hk : ∀ t, some t ∉ l → a' t = a t) : over m a a' = a' := by
  funext t
  unfold over
  split
  · rfl
  · rename_i hne
    refine (hk t fun hmem => hne ?_).symm
    unfold inMask at hm
    rw [List.all_eq_true] at hm
    have := hm _ hmem
    simpa using this
theorem over_over {m : Nat} {a b b' : Fr} : over m (over m a b) b' = over m a b' := by
  funext t; unfold over; split <;> simp_all
/-- A loop that counts: at most n times; the invariant speaks of what the loop changes. -/
theorem WL_forM {S : Sys} {lim : Nat} {c : LC} {Q : Ex → Fr → Hp → Prop} {a : Fr} {h : Hp} (m : Nat) (hm : inMask m c.mods = true) (n : Nat) (I : Nat → Fr → Hp → Prop) (hn : ∀ i b h, I i b h → i ≤ n)
    (h0 : I 0 a h) (step : ∀ i b h, I i b h → W S lim c (over m a b) h (Lc I i Q)) : WL S lim c a h Q := by
  have key := WL_rule0 (S := S) (lim := lim) (c := c) (Q := Q) (α := Nat) (fun i a' h' => over m a a' = a' ∧ I i a' h') (fun i => n - i) (fun i a' h' hi => ?_) (x := 0) (a := a) (h := h) ⟨?_, h0⟩
  · exact key
  · have hw := (W_sound (step i a' h' hi.2)).frame
    rw [hi.1] at hw
    refine hw.mono _ ⟨rfl, rfl, rfl, rfl, fun e a2 h2 k => ?_⟩
    obtain ⟨k, kf⟩ := k
    cases e with
    | norm =>
      refine ⟨i + 1, by have := hn _ _ _ k; have := hn _ _ _ hi.2; simp only []; omega, ?_, k⟩
      have h1 := over_eq hm kf
      rw [← hi.1, over_over] at h1
      exact h1
    | exit id => exact k
    | ret => exact k
  · exact over_eq hm fun _ _ => rfl
/-- A cut: what holds behind code, and what follows from it. -/
theorem W_cut {S : Sys} {lim : Nat} {c : LC} {a : Fr} {h : Hp} {R Q : Ex → Fr → Hp → Prop} (h1 : W S lim c a h R) (h2 : ∀ e a' h', R e a' h' → Q e a' h') : Holds S (.code lim c a h Q) := (W_sound h1).mono _ ⟨rfl, rfl, rfl, rfl, h2⟩
theorem CallT.mono {S : Sys} {lim : Nat} {p : Bool} {f : FuncId} {args : List CV} {h : Hp} {K K' : CV → Hp → Prop} (hk : ∀ v h, K v h → K' v h) (hw : CallT S p f args h lim K) : CallT S p f args h lim K' := by
  cases p
  · exact Holds.mono hw _ ⟨rfl, rfl, rfl, rfl, hk⟩
  · obtain ⟨v, h1, h2, h3⟩ := hw; exact ⟨v, h1, h2, hk _ _ h3⟩
theorem oc_mono {q : Option (CV × Hp)} {K K' : CV → Hp → Prop} (hk : ∀ v h, K v h → K' v h) (hq : oc q K) : oc q K' := by
  cases q with
  | none => exact hq
  | some r => exact hk _ _ hq
theorem wO_mono {S : Sys} {lim : Nat} {o : LO} {a : Fr} {h : Hp} {K K' : CV → Hp → Prop} (hk : ∀ v h, K v h → K' v h) (hw : wO S lim o a h K) : wO S lim o a h K' := by
  cases o
  case call p f xs => exact CallT.mono hk hw
  case callv x xs =>
    rw [wO_callv] at hw ⊢
    unfold CvT at hw ⊢
    split
    · rename_i e; rw [e] at hw; exact ⟨hw.1, CallT.mono hk hw.2⟩
    · rename_i hne; split at hw
      · rename_i e; exact (hne _ _ e).elim
      · exact hw
  all_goals (unfold wO at hw ⊢; exact oc_mono hk hw)
theorem WT_mono {S : Sys} {lim : Nat} : ∀ {t : OT} {a : Fr} {h : Hp} {Q R : Fr → Hp → Prop}, (∀ a h, R a h → Q a h) → WT S lim t a h R → WT S lim t a h Q
  | .nil, a, h, Q, R, hk, hw => hk _ _ hw
  | .op o r, a, h, Q, R, hk, hw => by
    unfold WT at hw ⊢
    split
    · rename_i hg; rw [if_pos hg] at hw
      exact wO_mono (fun v h' k => WT_mono hk k) hw
    · rename_i hg; rw [if_neg hg] at hw; exact WT_mono hk hw
  | .alt s t, a, h, Q, R, hk, hw => ⟨WT_mono hk hw.1, WT_mono hk hw.2⟩
  | .bad, a, h, Q, R, hk, hw => hw
/-- A region of several orders: what holds behind each, and what follows from it. -/
theorem WT_cut {S : Sys} {lim : Nat} {t : OT} {a : Fr} {h : Hp} {Q : Fr → Hp → Prop} (R : Fr → Hp → Prop) (hw : WT S lim t a h R) (hk : ∀ a h, R a h → Q a h) : WT S lim t a h Q := WT_mono hk hw
theorem WT_frame {S : Sys} {lim : Nat} : ∀ {t : OT} {a : Fr} {h : Hp} {Q : Fr → Hp → Prop}, WT S lim t a h Q → WT S lim t a h (fun a' h' => Q a' h' ∧ ∀ k, some k ∉ t.mods → a' k = a k)
  | .nil, a, h, Q, hw => ⟨hw, fun _ _ => rfl⟩
  | .op o r, a, h, Q, hw => by
    unfold WT at hw ⊢
    split
    · rename_i hg; rw [if_pos hg] at hw
      refine wO_mono (fun v h' k => WT_mono (fun a2 h2 q => ⟨q.1, fun t ht => ?_⟩) (WT_frame k)) hw
      rw [q.2 t fun hm => ht (by simp [OT.mods, hm]), upd_other fun e => ht (by simp [OT.mods, e])]
    · rename_i hg; rw [if_neg hg] at hw
      refine WT_mono (fun a2 h2 q => ⟨q.1, fun t ht => ?_⟩) (WT_frame hw)
      rw [q.2 t fun hm => ht (by simp [OT.mods, hm]), upd_other fun e => ht (by simp [OT.mods, e])]
  | .alt s t, a, h, Q, hw => ⟨WT_mono (fun a2 h2 q => ⟨q.1, fun k ht => q.2 k fun hm => ht (by simp [OT.mods, hm])⟩) (WT_frame hw.1), WT_mono (fun a2 h2 q => ⟨q.1, fun k ht => q.2 k fun hm => ht (by simp [OT.mods, hm])⟩) (WT_frame hw.2)⟩
  | .bad, a, h, Q, hw => hw
/-- A cut behind a region of several orders: what is said of it speaks of what the region changes alone. -/
theorem WT_cutM {S : Sys} {lim : Nat} {t : OT} {a : Fr} {h : Hp} {Q : Fr → Hp → Prop} (m : Nat) (hm : inMask m t.mods = true) (R : Fr → Hp → Prop) (hw : WT S lim t a h R) (hk : ∀ b g, R b g → Q (over m a b) g) : WT S lim t a h Q :=
  WT_mono (fun a' h' k => by have := hk a' h' k.1; rw [over_eq hm k.2] at this; exact this) (WT_frame hw)
section
variable {h g : Hp} {lim ty sz bytes : Nat} {l : Lf} {rows : List (List Lf)} {K : CV → Hp → Prop}
theorem oc_push {r : List Lf} (hN : New h g l ty sz rows) (hl : lim ≤ h.length) (hb : rows.length ≤ 1000000) (hK : ∀ l' g', New h g' l' ty sz (rows ++ [r]) → But g g' l l' → K (.lf l') g') (hsz : 0 < sz := by decide) (hr : r.length = sz := by rfl) (hby : bytes ≤ 1000000 := by decide) :
    oc (appV lim ty sz bytes (g ++ [⟨r, .own ty sz⟩]) (.lf l) (.lf (.sl g.length 0 1 sz))) K := by
  have hb1 : (rows.length + 1) * bytes ≤ 140737488355328 := Nat.le_trans (Nat.mul_le_mul (show rows.length + 1 ≤ 1000001 by omega) hby) (by decide)
  obtain ⟨l', g', h1, h2, h3⟩ := hN.push (lim := lim) (bytes := bytes) hsz hl hr hb1 (by omega)
  rw [h1]
  exact hK l' g' h2 h3
theorem oc_app {y : CV} {new : List (List Lf)} (hN : New h g l ty sz rows) (hl : lim ≤ h.length) (hs : srcCells sz g y = some (new.length, new.flatten)) (hnew : ∀ (i : Nat) (r : List Lf), new[i]? = some r → r.length = sz) (hb : rows.length + new.length ≤ 1000000)
    (hK : ∀ l' g', New h g' l' ty sz (rows ++ new) → But g g' l l' → K (.lf l') g') (hsz : 0 < sz := by decide) (hby : bytes ≤ 1000000 := by decide) : oc (appV lim ty sz bytes g (.lf l) y) K := by
  have hb1 : (rows.length + new.length) * bytes ≤ 140737488355328 := Nat.le_trans (Nat.mul_le_mul hb hby) (by decide)
  obtain ⟨l', g', h1, h2, h3⟩ := hN.append (lim := lim) (bytes := bytes) hsz hl hs hnew hb1 (by omega)
  rw [h1]
  exact hK l' g' h2 h3
theorem But.rd {g' : Hp} {l' : Lf} {id off n : Nat} {ls : List Lf} (b : But g g' l l') (hr : rdCells g id off n = some ls) (hne : l ≠ .nils → id ≠ l.id) : rdCells g' id off n = some ls := by
  have hid := rd_lt hr
  unfold rdCells at hr ⊢
  rw [b.same id hid hne]; exact hr
/-- One more, which lies somewhere. -/
theorem oc_pushS {id : Nat} {r : List Lf} (hN : New h g l ty sz rows) (hs : rdCells g id 0 sz = some r) (hl : lim ≤ h.length) (hb : rows.length ≤ 900000) (hK : ∀ l' g', New h g' l' ty sz (rows ++ [r]) → But g g' l l' → K (.lf l') g') (hsz : 0 < sz := by decide) (hby : bytes ≤ 1000000 := by decide) :
    oc (appV lim ty sz bytes g (.lf l) (.lf (.sl id 0 1 sz))) K := by
  have hr := rd_len hs
  refine oc_app (new := [r]) hN hl ?_ (fun i q hi => ?_) (by simp; omega) hK hsz hby
  · simp [srcCells, hs]
  · cases i with
    | zero => simp at hi; subst hi; exact hr
    | succ i => simp at hi
/-- Two slices that are not one. -/
def Far (a b : Lf) : Prop := a ≠ .nils → b ≠ .nils → a.id ≠ b.id
theorem Far.symm {a b : Lf} (f : Far a b) : Far b a := fun h1 h2 e => f h2 h1 e.symm
theorem Far.nil_left {b : Lf} : Far .nils b := fun h => (h rfl).elim
theorem Far.nil_right {a : Lf} : Far a .nils := fun _ h => (h rfl).elim
theorem But.far2 {g' : Hp} {l' b : Lf} (hB : But g g' l l') (hf : Far l b) (hb : b ≠ .nils → b.id < g.length) (hl : l = .nils → l' = l ∨ g.length ≤ l'.id) : Far l' b := by
  intro h1 h2
  rcases hB.far with e | e
  · subst e; exact hf h1 h2
  · have := hb h2; omega
theorem But.other {g' : Hp} {l' b : Lf} {ty2 sz2 : Nat} {rows2 : List (List Lf)} (hB : But g g' l l') (hN : New h g l ty sz rows) (hN2 : New h g b ty2 sz2 rows2) (hf : Far l b) : New h g' b ty2 sz2 rows2 ∧ Far l' b := by
  refine ⟨hB.new hN2 (fun hn => (hN.lt hn).1) (fun h1 h2 => (hf h1 h2).symm), ?_⟩
  intro h1 h2
  rcases hB.far with e | e
  · subst e; exact hf h1 h2
  · have := (hN2.lt h2).2; omega
theorem splice_one {cs : List Lf} {off : Nat} {c : Lf} (hb : off < cs.length) : splice cs off [c] = cs.set off c := by
  unfold splice
  rw [List.set_eq_take_append_cons_drop, if_pos hb]; simp
theorem wr_get1 {id off : Nat} {cs : List Lf} {c : Lf} (hg : g[id]? = some ⟨cs, .own ty sz⟩) (hl : lim ≤ id) (hb : off < cs.length) : wrCells lim g id off [c] = some (g.set id ⟨cs.set off c, .own ty sz⟩) := by
  unfold wrCells
  rw [hg]
  simp only [List.length_singleton]
  rw [if_pos ⟨hl, by omega⟩, splice_one hb]
theorem wr_set1 {id off : Nat} {cs : List Lf} {c : Lf} (hid : id < g.length) (hl : lim ≤ id) (hb : off < cs.length) : wrCells lim (g.set id ⟨cs, .own ty sz⟩) id off [c] = some (g.set id ⟨cs.set off c, .own ty sz⟩) := by
  rw [wr_get1 (List.getElem?_set_self hid) hl hb, List.set_set]
theorem But.set {id : Nat} {g' : Hp} {o : Ob} {n : Nat} (hB : But g g' (.sl id 0 n sz) (.sl id 0 n sz)) : But g (g'.set id o) (.sl id 0 n sz) (.sl id 0 n sz) :=
  ⟨by simpa using hB.len, fun id' h1 h2 => by
    have hne : id' ≠ id := h2 (by simp)
    rw [List.getElem?_set_ne (Ne.symm hne)]; exact hB.same id' h1 h2, .inl rfl⟩
theorem oc_wr {i : Nat} {c : Lf} (hN : New h g l ty 1 rows) (hi : i < rows.length) (hl : lim ≤ h.length) (hK : ∀ g', New h g' l ty 1 (rows.set i [c]) → But g g' l l → K un g') : oc ((wrCells lim g l.id (l.off + i) [c]).map fun h' => (un, h')) K := by
  rcases hN.own with ⟨rfl, rfl⟩ | ⟨id, rfl, h2, h3⟩
  · simp at hi
  · simp only [Lf.id_sl, Lf.off_sl, Nat.zero_add]
    rw [h3.wr1 (by omega) hi]
    refine hK _ ?_ ⟨by simp, fun id' h1 h4 => ?_, .inl rfl⟩
    · have := New.of_sl (hN.kept.set h2) (h3.set (i := i) (new := [c]) rfl) h2 (by simpa using hN.arr.small)
      simpa using this
    · have hne : id' ≠ id := h4 (by simp)
      rw [List.getElem?_set_ne (Ne.symm hne)]
/-! ### Variables that live in the heap -/
def Cel (g : Hp) (id ty : Nat) (cs : List Lf) : Prop := g[id]? = some ⟨cs, .own ty 1⟩
section
variable {g' : Hp} {id : Nat} {cs : List Lf}
theorem Cel.lt (hc : Cel g id ty cs) : id < g.length := (List.getElem?_eq_some_iff.1 hc).1
theorem Cel.app {t : Hp} (hc : Cel g id ty cs) : Cel (g ++ t) id ty cs := by unfold Cel; rw [List.getElem?_append_left hc.lt]; exact hc
theorem Cel.new {t : Hp} : Cel (g ++ ⟨cs, .own ty 1⟩ :: t) g.length ty cs := by unfold Cel; rw [List.getElem?_append_right (Nat.le_refl _)]; simp
theorem Cel.rd (hc : Cel g id ty cs) {off n : Nat} (hb : off + n ≤ cs.length) : rdCells g id off n = some ((cs.drop off).take n) := by
  unfold rdCells; rw [hc]; simp only [Ob.live]; rw [if_pos ⟨trivial, hb⟩]
theorem Cel.rdA {t : Hp} (hc : Cel g id ty cs) {off n : Nat} (hb : off + n ≤ cs.length) : rdCells (g ++ t) id off n = some ((cs.drop off).take n) := hc.app.rd hb
theorem Cel.wr (hc : Cel g id ty cs) {new : List Lf} (hl : lim ≤ id) (hn : new.length = cs.length) : wrCells lim g id 0 new = some (g.set id ⟨new, .own ty 1⟩) := by
  unfold wrCells; rw [hc]; simp only []
  rw [if_pos ⟨hl, by omega⟩]
  congr 3
  unfold splice; simp [List.drop_eq_nil_of_le, hn]
theorem Cel.set {o : Ob} {id2 : Nat} (hc : Cel g id ty cs) (hne : id2 ≠ id) : Cel (g.set id2 o) id ty cs := by unfold Cel; rw [List.getElem?_set_ne hne]; exact hc
theorem Cel.kept (hc : Cel g id ty cs) (hk : Kept g g') : Cel g' id ty cs := by unfold Cel; rw [hk.2 id hc.lt]; exact hc
theorem Cel.put {new : List Lf} (hlt : id < g.length) : Cel (g.set id ⟨new, .own ty 1⟩) id ty new := by unfold Cel; rw [List.getElem?_set_self hlt]
theorem Cel.but {l' : Lf} (hc : Cel g id ty cs) (hB : But g g' l l') (hne : l ≠ .nils → id ≠ l.id) : Cel g' id ty cs := by unfold Cel; rw [hB.same id hc.lt hne]; exact hc
theorem New.set_other {o : Ob} (hN : New h g l ty sz rows) (hid : h.length ≤ id) (hne : l ≠ .nils → l.id ≠ id) : New h (g.set id o) l ty sz rows := by
  rcases hN.own with ⟨rfl, rfl⟩ | ⟨id', rfl, h2, h3⟩
  · exact New.nil (hN.kept.set hid)
  · have h4 := h3.other (id2 := id) (o := o) (fun e => hne (by simp) (by simp [e]))
    exact ⟨hN.kept.set hid, h4.arr hN.arr.small, .inr ⟨id', rfl, h2, h4⟩⟩
/-- The id of a variable is not that of a slice made later. -/
def Not (l : Lf) (id : Nat) : Prop := l ≠ .nils → l.id ≠ id
theorem Not.but {l' : Lf} (hn : Not l id) (hB : But g g' l l') (hlt : id < g.length) : Not l' id := by
  intro h1
  rcases hB.far with e | e
  · subst e; exact hn h1
  · omega
end
end
end Go.E
