/- Texts between marks, decimal texts: plain facts. -/
import Derived.Lib.Split
import Derived.Lib.SplitLaws
import Derived.Lib.Join
import Derived.Lib.ParseIntB
import Derived.Lib.ItoaLen
set_option linter.unusedVariables false
set_option linter.unusedSimpArgs false
namespace Go.E
open Go
/-- The pieces of a text between marks. -/
def cut (m : UInt8) : List UInt8 → List (List UInt8)
  | [] => [[]]
  | c :: r => if c = m then [] :: cut m r else match cut m r with
    | x :: xs => (c :: x) :: xs
    | [] => [[c]]
theorem cut_cons {m c : UInt8} {r : List UInt8} : cut m (c :: r) = if c = m then [] :: cut m r else match cut m r with | x :: xs => (c :: x) :: xs | [] => [[c]] := rfl
theorem cut_ne {m : UInt8} : ∀ {s : List UInt8}, cut m s ≠ []
  | [] => by simp [cut]
  | c :: r => by
    rw [cut_cons]
    split
    · simp
    · split <;> simp
theorem cut_miss {m : UInt8} : ∀ {s : List UInt8}, (∀ c ∈ s, c ≠ m) → cut m s = [s]
  | [], _ => rfl
  | c :: r, h => by
    rw [cut_cons, if_neg (h c (by simp)), cut_miss fun d hd => h d (by simp [hd])]
theorem cut_app {m : UInt8} {y : List UInt8} : ∀ {x : List UInt8}, (∀ c ∈ x, c ≠ m) → cut m (x ++ m :: y) = x :: cut m y
  | [], _ => by rw [List.nil_append, cut_cons, if_pos rfl]
  | c :: r, h => by
    rw [List.cons_append, cut_cons, if_neg (h c (by simp)), cut_app fun d hd => h d (by simp [hd])]
theorem cut_join {m : UInt8} : ∀ {s : List UInt8}, Lib.join (cut m s) [m] = s
  | [] => by simp [cut, Lib.join_one]
  | c :: r => by
    have ih := cut_join (m := m) (s := r)
    rw [cut_cons]
    by_cases h : c = m
    · rw [if_pos h, Lib.join_cons]
      cases hq : cut m r with
      | nil => exact absurd hq cut_ne
      | cons x xs =>
        rw [hq, Lib.join_cons] at ih
        rw [List.nil_append, Lib.joinTail, List.map_cons, List.flatten_cons, ← Lib.joinTail, h]
        simp only [List.cons_append, List.nil_append]
        rw [ih]
    · rw [if_neg h]
      cases hq : cut m r with
      | nil => exact absurd hq cut_ne
      | cons x xs =>
        rw [hq, Lib.join_cons] at ih
        simp only []
        rw [Lib.join_cons, List.cons_append, ih]
/-- No piece holds the mark. -/
theorem cut_free {m : UInt8} : ∀ {s : List UInt8}, ∀ x ∈ cut m s, ∀ c ∈ x, c ≠ m
  | [], x, hx, c, hc => by
    have : x = [] := by simpa [cut] using hx
    rw [this] at hc; cases hc
  | d :: r, x, hx, c, hc => by
    have ih := cut_free (m := m) (s := r)
    rw [cut_cons] at hx
    split at hx
    · rcases List.mem_cons.1 hx with rfl | hx
      · cases hc
      · exact ih x hx c hc
    · rename_i hd
      split at hx
      · rename_i y ys hq
        rw [hq] at ih
        rcases List.mem_cons.1 hx with rfl | hx
        · rcases List.mem_cons.1 hc with rfl | hc
          · exact hd
          · exact ih y (by simp) c hc
        · exact ih x (by simp [hx]) c hc
      · have : x = [d] := by simpa using hx
        rw [this] at hc
        have : c = d := by simpa using hc
        rw [this]; exact hd
theorem cut_len {m : UInt8} : ∀ {s : List UInt8}, (cut m s).length ≤ s.length + 1
  | [] => by simp [cut]
  | c :: r => by
    have ih := cut_len (m := m) (s := r)
    rw [cut_cons]
    split
    · simpa using ih
    · split
      · rename_i hq; rw [hq] at ih; simp at ih ⊢; omega
      · simp
theorem cut_piece {m : UInt8} : ∀ {s : List UInt8}, ∀ x ∈ cut m s, x.length ≤ s.length
  | [], x, hx => by
    have : x = [] := by simpa [cut] using hx
    simp [this]
  | d :: r, x, hx => by
    have ih := cut_piece (m := m) (s := r)
    rw [cut_cons] at hx
    split at hx
    · rcases List.mem_cons.1 hx with rfl | hx
      · simp
      · have := ih x hx; simp; omega
    · split at hx
      · rename_i y ys hq
        rw [hq] at ih
        rcases List.mem_cons.1 hx with rfl | hx
        · have := ih y (by simp); simp; omega
        · have := ih x (by simp [hx]); simp; omega
      · have : x = [d] := by simpa using hx
        simp [this]
/-- One piece more, at a mark in the text. -/
theorem cut_at {m : UInt8} {s : List UInt8} {a b : Nat} (h1 : a ≤ b) (h2 : b < s.length) (h3 : ∀ (j : Nat) c, a ≤ j → j < b → s[j]? = some c → c ≠ m) (h4 : s[b] = m) : cut m (s.drop a) = (s.drop a).take (b - a) :: cut m (s.drop (b + 1)) := by
  have e : s.drop a = (s.drop a).take (b - a) ++ m :: s.drop (b + 1) := by
    have q1 := (List.take_append_drop (b - a) (s.drop a)).symm
    rw [List.drop_drop, show a + (b - a) = b by omega, List.drop_eq_getElem_cons h2, h4] at q1
    exact q1
  have hfree : ∀ c ∈ (s.drop a).take (b - a), c ≠ m := by
    intro c hc
    obtain ⟨j, hj⟩ := List.mem_iff_getElem?.1 hc
    have hjl := (List.getElem?_eq_some_iff.1 hj).1
    rw [List.length_take] at hjl
    rw [List.getElem?_take_of_lt (by omega), List.getElem?_drop] at hj
    exact h3 _ _ (by omega) (by omega) hj
  conv => lhs; rw [e]
  exact cut_app hfree
theorem cut_end {m : UInt8} {s : List UInt8} {a : Nat} (h3 : ∀ (j : Nat) c, a ≤ j → j < s.length → s[j]? = some c → c ≠ m) : cut m (s.drop a) = [s.drop a] := by
  refine cut_miss fun c hc => ?_
  obtain ⟨j, hj⟩ := List.mem_iff_getElem?.1 hc
  have hjl := (List.getElem?_eq_some_iff.1 hj).1
  rw [List.length_drop] at hjl
  rw [List.getElem?_drop] at hj
  exact h3 _ _ (by omega) (by omega) hj
theorem index_miss {m : UInt8} : ∀ {s : List UInt8}, Lib.index s [m] = -1 → cut m s = [s]
  | [], _ => rfl
  | b :: l, h => by
    unfold Lib.index at h
    split at h
    · cases h
    · rename_i hp
      have hb : b ≠ m := fun e => hp (by simp [e])
      split at h
      · rename_i h1
        rw [cut_cons, if_neg hb, index_miss (beq_iff_eq.1 h1)]
      · have := Lib.index_ge l [m]
        rename_i h1
        have : ¬ Lib.index l [m] = -1 := fun e => h1 (by simp [e])
        omega
theorem index_hit {m : UInt8} : ∀ {s : List UInt8} {i : Nat}, Lib.index s [m] = i → cut m s = s.take i :: cut m (s.drop (i + 1))
  | [], i, h => by
    unfold Lib.index at h
    simp at h
  | b :: l, i, h => by
    unfold Lib.index at h
    split at h
    · rename_i hp
      have hb : b = m := by
        have : m = b := by simpa using hp
        exact this.symm
      have : i = 0 := by omega
      subst this
      rw [cut_cons, if_pos hb]; rfl
    · rename_i hp
      have hb : b ≠ m := fun e => hp (by simp [e])
      split at h
      · omega
      · have h0 := Lib.index_ge l [m]
        rename_i h1
        have : ¬ Lib.index l [m] = -1 := fun e => h1 (by simp [e])
        obtain ⟨k, hk⟩ : ∃ k : Nat, Lib.index l [m] = k := ⟨(Lib.index l [m]).toNat, by omega⟩
        have hi : i = k + 1 := by omega
        subst hi
        rw [cut_cons, if_neg hb, index_hit hk]
        rfl
/-- What strings.Split gives. -/
theorem split_cut {m : UInt8} : ∀ (n : Nat) (s : List UInt8), s.length ≤ n → Lib.splitK [m] 0 (Lib.count s [m]) s = cut m s
  | n, s, hn => by
    by_cases hx : Lib.index s [m] = -1
    · rw [Lib.count_miss hx, index_miss hx]; rfl
    · have h0 := Lib.index_ge s [m]
      obtain ⟨k, hk⟩ : ∃ k : Nat, Lib.index s [m] = k := ⟨(Lib.index s [m]).toNat, by omega⟩
      have hr := Lib.index_room s [m] (by omega)
      rw [Lib.count_hit (by simp) hk, index_hit hk, Nat.add_comm 1, Lib.splitK, if_neg (by simpa using hx), hk]
      simp only [List.length_cons, List.length_nil, Nat.add_zero, Int.toNat_natCast] at hr ⊢
      cases n with
      | zero => omega
      | succ n => rw [split_cut n _ (by rw [List.length_drop]; omega)]
theorem splitB_cut {m : UInt8} {s : List UInt8} : Lib.splitB ⟨[m].toArray⟩ 0 (Lib.countB ⟨s.toArray⟩ ⟨[m].toArray⟩) ⟨s.toArray⟩ = (cut m s).map fun x => ⟨x.toArray⟩ := by
  have h := Lib.splitB_data ⟨[m].toArray⟩ 0 (Lib.countB ⟨s.toArray⟩ ⟨[m].toArray⟩) ⟨s.toArray⟩
  have e : Lib.splitK [m] 0 (Lib.count s [m]) s = cut m s := split_cut _ s (Nat.le_refl _)
  have h2 : (Lib.splitB ⟨[m].toArray⟩ 0 (Lib.countB ⟨s.toArray⟩ ⟨[m].toArray⟩) ⟨s.toArray⟩).map (·.data.toList) = cut m s := h.trans e
  rw [← h2, List.map_map]
  have : ((fun x : List UInt8 => (⟨x.toArray⟩ : ByteArray)) ∘ fun y : ByteArray => y.data.toList) = id := by
    funext y; rfl
  rw [this, List.map_id]
/-! ### Decimal numbers -/
def isDig (c : UInt8) : Bool := decide (48 ≤ c.toNat) && decide (c.toNat ≤ 57)
/-- The digits of a text, whatever else stands in it. -/
def digV : Nat → List UInt8 → Nat
  | a, [] => a
  | a, c :: r => digV (if isDig c then 10 * a + (c.toNat - 48) else a) r
theorem digV_app : ∀ {x y : List UInt8} {a : Nat}, digV a (x ++ y) = digV (digV a x) y
  | [], _, _ => rfl
  | c :: r, y, a => by
    show digV _ (r ++ y) = digV (digV _ r) y
    exact digV_app
theorem dig_of {d : Nat} (h : d < 10) : isDig (UInt8.ofNat (48 + d)) = true ∧ (UInt8.ofNat (48 + d)).toNat = 48 + d := by
  have e : (UInt8.ofNat (48 + d)).toNat = 48 + d := by rw [UInt8.toNat_ofNat']; omega
  refine ⟨?_, e⟩
  unfold isDig
  rw [e]
  simp; omega
theorem digV_dec : ∀ (n : Nat), digV 0 (Lib.decDigits n) = n
  | n => by
    rw [Lib.decDigits]
    split
    · rename_i h
      have := dig_of h
      show (if isDig _ then 10 * 0 + (_ - 48) else 0) = n
      rw [if_pos this.1, this.2]; omega
    · rename_i h
      have hd : n % 10 < 10 := Nat.mod_lt _ (by omega)
      have := dig_of hd
      rw [digV_app, digV_dec (n / 10)]
      show (if isDig _ then 10 * (n / 10) + (_ - 48) else n / 10) = n
      rw [if_pos this.1, this.2]; omega
decreasing_by omega
theorem dec_digs : ∀ (n : Nat), ∀ c ∈ Lib.decDigits n, isDig c = true
  | n, c, hc => by
    rw [Lib.decDigits] at hc
    split at hc
    · rename_i h
      rw [List.mem_singleton.1 hc]; exact (dig_of h).1
    · rename_i h
      have hd : n % 10 < 10 := Nat.mod_lt _ (by omega)
      rcases List.mem_append.1 hc with hc | hc
      · exact dec_digs (n / 10) c hc
      · rw [List.mem_singleton.1 hc]; exact (dig_of hd).1
decreasing_by omega
theorem dec_ne (n : Nat) : Lib.decDigits n ≠ [] := by
  rw [Lib.decDigits]; split <;> simp
/-- The number of a text. -/
def valI (s : List UInt8) : Int := if s.head? = some 45 then -(digV 0 s : Int) else (digV 0 s : Int)
theorem isDig45 : isDig 45 = false := by decide
theorem valI_itoa (n : Int) : valI (Lib.itoa n) = n := by
  unfold Lib.itoa
  split
  · unfold valI
    rw [if_pos (show (45 :: Lib.decDigits n.natAbs).head? = some 45 from rfl)]
    show -((digV (if isDig 45 then _ else 0) (Lib.decDigits n.natAbs) : Nat) : Int) = n
    rw [isDig45]
    show -((digV 0 (Lib.decDigits n.natAbs) : Nat) : Int) = n
    rw [digV_dec]; omega
  · unfold valI
    rw [if_neg, digV_dec]
    · omega
    · intro q
      have := dec_digs n.toNat 45 (List.mem_of_mem_head? q)
      rw [isDig45] at this; cases this
def inVal (n : Int) : Prop := -1000000000000000 ≤ n ∧ n ≤ 1000000000000000
instance (n : Int) : Decidable (inVal n) := by unfold inVal; infer_instance
/-- The text of a number that is not too great. -/
def isDec (s : List UInt8) : Prop := inVal (valI s) ∧ Lib.itoa (valI s) = s
instance (s : List UInt8) : Decidable (isDec s) := by unfold isDec; infer_instance
def decN (s : List UInt8) : Int := if isDec s then valI s else 0
theorem parseU : ∀ (l : List UInt8) (a : Nat), (∀ c ∈ l, isDig c = true) → digV a l < 10000000000000000000 → Lib.parseUintM 18446744073709551615 a l = .ok (digV a l)
  | [], a, _, _ => rfl
  | c :: r, a, h, hl => by
    have hc := h c (by simp)
    have hc2 : 48 ≤ c.toNat ∧ c.toNat ≤ 57 := by
      unfold isDig at hc
      simpa using hc
    have e : digV a (c :: r) = digV (10 * a + (c.toNat - 48)) r := by
      show digV (if isDig c then _ else _) r = _
      rw [if_pos hc]
    have grow : ∀ (l : List UInt8) (a : Nat), (∀ c ∈ l, isDig c = true) → a ≤ digV a l := by
      intro l
      induction l with
      | nil => intro a _; exact Nat.le_refl _
      | cons c r ih =>
        intro a hh
        have := ih (10 * a + (c.toNat - 48)) (fun d hd => hh d (by simp [hd]))
        have e2 : digV a (c :: r) = digV (10 * a + (c.toNat - 48)) r := by
          show digV (if isDig c then _ else _) r = _
          rw [if_pos (hh c (by simp))]
        rw [e2]; omega
    rw [e] at hl ⊢
    have g := grow r (10 * a + (c.toNat - 48)) (fun d hd => h d (by simp [hd]))
    unfold Lib.parseUintM
    rw [if_pos hc2, if_neg (by omega), if_neg (by omega), Nat.mul_comm a 10]
    exact parseU r _ (fun d hd => h d (by simp [hd])) hl
theorem parse_itoa {n : Int} (hn : inVal n) : Lib.parseIntB 64 (Lib.itoa n) = .ok n := by
  obtain ⟨h1, h2⟩ := hn
  have key : ∀ m : Nat, m ≤ 1000000000000000 → Lib.parseUintB 64 (Lib.decDigits m) = .ok m := by
    intro m hm
    unfold Lib.parseUintB
    rw [if_neg (dec_ne m)]
    have := parseU (Lib.decDigits m) 0 (dec_digs m) (by rw [digV_dec]; omega)
    rw [digV_dec] at this
    exact this
  unfold Lib.itoa
  split
  · rename_i hneg
    have k := key n.natAbs (by omega)
    unfold Lib.parseIntB
    simp only []
    rw [if_pos (by right; rfl), k]
    simp only []
    rw [if_neg (by rintro ⟨q, _⟩; exact q rfl), if_neg (by rintro ⟨_, q⟩; omega), if_pos (show UInt8.toNat 45 = 45 from rfl)]
    congr 1; omega
  · rename_i hneg
    have k := key n.toNat (by omega)
    cases hd : Lib.decDigits n.toNat with
    | nil => exact absurd hd (dec_ne _)
    | cons c r =>
      have hc := dec_digs n.toNat c (by rw [hd]; simp)
      have hc2 : 48 ≤ c.toNat ∧ c.toNat ≤ 57 := by
        unfold isDig at hc
        simpa using hc
      rw [hd] at k
      unfold Lib.parseIntB
      simp only []
      rw [if_neg (by omega), k]
      simp only []
      rw [if_neg (by rintro ⟨_, q⟩; omega), if_neg (by rintro ⟨q, _⟩; omega), if_neg (by omega)]
      congr 1; omega
theorem itoa_len17 {n : Int} (hn : inVal n) : 1 ≤ (Lib.itoa n).length ∧ (Lib.itoa n).length ≤ 17 := by
  obtain ⟨h1, h2⟩ := hn
  have key : ∀ m : Nat, m ≤ 1000000000000000 → (Lib.decDigits m).length ≤ 16 := by
    intro m hm
    rw [Lib.decDigits_length]
    apply Nat.le_of_not_lt
    intro q
    have := Lib.lt_pow_nDigits m
    have hge : ∀ (k u : Nat), k < Lib.nDigits u → 10 ^ k ≤ u ∨ k = 0 := by
      intro k
      induction k with
      | zero => intro u _; exact .inr rfl
      | succ k ih =>
        intro u hu
        by_cases h : u < 10
        · rw [Lib.nDigits_small h] at hu; omega
        · rw [Lib.nDigits_big h] at hu
          have := ih (u / 10) (by omega)
          left
          rw [Nat.pow_succ]
          rcases this with q | q
          · omega
          · subst q; omega
    rcases hge 16 m q with q | q
    · omega
    · omega
  have pos : ∀ m : Nat, 1 ≤ (Lib.decDigits m).length := fun m => List.length_pos_iff.2 (dec_ne m)
  unfold Lib.itoa
  split
  · have := key n.natAbs (by omega)
    have := pos n.natAbs
    simp; omega
  · have := key n.toNat (by omega)
    have := pos n.toNat
    omega
/-- How the program's reading ends. -/
theorem dec_parse {s : List UInt8} {v : Int} (h : Lib.parseIntB 64 s = .ok v) : (inVal v ∧ Lib.itoa v = s) ↔ (isDec s ∧ v = valI s) := by
  constructor
  · rintro ⟨h1, h2⟩
    have e : valI s = v := by rw [← h2, valI_itoa]
    exact ⟨⟨by rw [e]; exact h1, by rw [e]; exact h2⟩, e.symm⟩
  · rintro ⟨⟨h1, h2⟩, rfl⟩
    exact ⟨h1, h2⟩
theorem dec_noparse {s : List UInt8} (h : ∀ v, Lib.parseIntB 64 s ≠ .ok v) : ¬ isDec s := by
  rintro ⟨h1, h2⟩
  refine h (valI s) ?_
  conv => lhs; rw [← h2]
  exact parse_itoa h1
theorem digV_lt : ∀ (l : List UInt8) (a k : Nat), a < 10 ^ k → digV a l < 10 ^ (k + l.length)
  | [], a, k, h => h
  | c :: r, a, k, h => by
    have e : digV a (c :: r) = digV (if isDig c then 10 * a + (c.toNat - 48) else a) r := rfl
    rw [e]
    have hp : 10 ^ (k + 1) = 10 * 10 ^ k := by rw [Nat.pow_succ, Nat.mul_comm]
    have := digV_lt r (if isDig c then 10 * a + (c.toNat - 48) else a) (k + 1) (by
      rw [hp]
      split
      · rename_i hc
        have hc2 : 48 ≤ c.toNat ∧ c.toNat ≤ 57 := by
          unfold isDig at hc
          simpa using hc
        omega
      · omega)
    rw [List.length_cons, show k + (r.length + 1) = k + 1 + r.length by omega]
    exact this
end Go.E
