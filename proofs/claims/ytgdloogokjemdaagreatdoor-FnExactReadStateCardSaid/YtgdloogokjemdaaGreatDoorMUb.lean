/- Texts of numbers and of chains that are read: plain facts. -/
import Derived.Test.YtgdloogokjemdaaGreatDoorMUa
import Derived.Test.YtgdloogokjemdaaGreatDoorMCx
set_option linter.unusedVariables false
set_option linter.unusedSimpArgs false
namespace Go.E
open Go
/-- All of a list, or nothing. -/
def mapO {α β : Type} (f : α → Option β) : List α → Option (List β)
  | [] => some []
  | x :: r => match f x with
    | some y => (mapO f r).map (y :: ·)
    | none => none
section
variable {α β : Type} {f : α → Option β} {l : List α} {xs : List β} {i : Nat}
theorem mapO_step {y : β} (h : mapO f l = (mapO f (l.drop i)).map (xs ++ ·)) (hi : i < l.length) (hy : f l[i] = some y) : mapO f l = (mapO f (l.drop (i + 1))).map ((xs ++ [y]) ++ ·) := by
  rw [h, List.drop_eq_getElem_cons hi, mapO, hy]
  simp only []
  rw [Option.map_map]
  congr 1
  funext q
  simp
theorem mapO_fail (h : mapO f l = (mapO f (l.drop i)).map (xs ++ ·)) (hi : i < l.length) (hy : f l[i] = none) : mapO f l = none := by
  rw [h, List.drop_eq_getElem_cons hi, mapO, hy]
  rfl
theorem mapO_done (h : mapO f l = (mapO f (l.drop i)).map (xs ++ ·)) (hi : i = l.length) : mapO f l = some xs := by
  rw [h, hi, List.drop_length]
  simp [mapO]
theorem mapO_zero : mapO f l = (mapO f (l.drop 0)).map (([] : List β) ++ ·) := by
  simp
theorem mapO_len : ∀ {l : List α} {xs : List β}, mapO f l = some xs → xs.length = l.length
  | [], xs, h => by injection h with h; subst h; rfl
  | x :: r, xs, h => by
    unfold mapO at h
    split at h
    · obtain ⟨q, hq, rfl⟩ := Option.map_eq_some_iff.1 h
      simp [mapO_len hq]
    · cases h
theorem mapO_all {p : α → β → Prop} (hp : ∀ x y, f x = some y → p x y) : ∀ {l : List α} {xs : List β}, mapO f l = some xs → ∀ (i : Nat) x y, l[i]? = some x → xs[i]? = some y → p x y
  | [], xs, h, i, x, y, h1, h2 => by simp at h1
  | a :: r, xs, h, i, x, y, h1, h2 => by
    unfold mapO at h
    split at h
    · rename_i b hb
      obtain ⟨q, hq, rfl⟩ := Option.map_eq_some_iff.1 h
      cases i with
      | zero => simp at h1 h2; subst h1; subst h2; exact hp _ _ hb
      | succ i => exact mapO_all hp hq i x y (by simpa using h1) (by simpa using h2)
    · cases h
theorem mapO_mem {p : β → Prop} (hp : ∀ x y, f x = some y → p y) : ∀ {l : List α} {xs : List β}, mapO f l = some xs → ∀ y ∈ xs, p y
  | [], xs, h, y, hy => by injection h with h; subst h; cases hy
  | a :: r, xs, h, y, hy => by
    unfold mapO at h
    split at h
    · rename_i b hb
      obtain ⟨q, hq, rfl⟩ := Option.map_eq_some_iff.1 h
      rcases List.mem_cons.1 hy with rfl | hy
      · exact hp _ _ hb
      · exact mapO_mem hp hq y hy
    · cases h
theorem mapO_back {g : β → α} (hp : ∀ x y, f x = some y → g y = x) : ∀ {l : List α} {xs : List β}, mapO f l = some xs → xs.map g = l
  | [], xs, h => by injection h with h; subst h; rfl
  | a :: r, xs, h => by
    unfold mapO at h
    split at h
    · rename_i b hb
      obtain ⟨q, hq, rfl⟩ := Option.map_eq_some_iff.1 h
      rw [List.map_cons, hp _ _ hb, mapO_back hp hq]
    · cases h
end
/-! ### Numbers -/
def hexD (c : UInt8) : Option Nat := if 48 ≤ c.toNat ∧ c.toNat ≤ 57 then some (c.toNat - 48) else if 97 ≤ c.toNat ∧ c.toNat ≤ 102 then some (c.toNat - 87) else none
def hexV : Nat → List UInt8 → Option Nat
  | a, [] => some a
  | a, c :: r => match hexD c with
    | some d => hexV (16 * a + d) r
    | none => none
theorem hexV_cons {a : Nat} {c : UInt8} {r : List UInt8} : hexV a (c :: r) = match hexD c with | some d => hexV (16 * a + d) r | none => none := rfl
theorem hexV_app : ∀ {x y : List UInt8} {a : Nat}, hexV a (x ++ y) = (hexV a x).bind fun b => hexV b y
  | [], _, _ => rfl
  | c :: r, y, a => by
    rw [List.cons_append, hexV_cons, hexV_cons]
    cases hexD c with
    | none => rfl
    | some d => exact hexV_app
theorem hexD_hexC {d : Nat} (h : d < 16) : hexD (hexC d) = some d := by
  rcases sixteen h with rfl | rfl | rfl | rfl | rfl | rfl | rfl | rfl | rfl | rfl | rfl | rfl | rfl | rfl | rfl | rfl <;> rfl
theorem hexC_hexD {c : UInt8} {d : Nat} (h : hexD c = some d) : hexC d = c ∧ d < 16 := by
  unfold hexD at h
  split at h
  · injection h with h
    refine ⟨?_, by omega⟩
    unfold hexC
    rw [if_pos (by omega), show 48 + d = c.toNat by omega, UInt8.ofNat_toNat]
  · split at h
    · injection h with h
      refine ⟨?_, by omega⟩
      unfold hexC
      rw [if_neg (by omega), show 87 + d = c.toNat by omega, UInt8.ofNat_toNat]
    · cases h
theorem hexV_hexN {x : Nat} (hx : x < 4294967296) : ∀ {i : Nat}, i ≤ 8 → hexV 0 (hexN x i) = some (x / 2 ^ (32 - 4 * i))
  | 0, _ => by
    have : x / 2 ^ 32 = 0 := Nat.div_eq_of_lt hx
    simp [hexN, hexV, this]
  | i + 1, hi => by
    rw [hexN_succ, hexV_app, hexV_hexN hx (by omega)]
    have hd : x / 2 ^ (28 - 4 * i) % 16 < 16 := Nat.mod_lt _ (by decide)
    have e : x / 2 ^ (32 - 4 * i) = x / 2 ^ (28 - 4 * i) / 16 := by
      rw [Nat.div_div_eq_div_mul, show 32 - 4 * i = 28 - 4 * i + 4 by omega, Nat.pow_add]
    show hexV _ [_] = _
    rw [hexV_cons, hexD_hexC hd, e, show 32 - 4 * (i + 1) = 28 - 4 * i by omega]
    show some _ = some _
    congr 1
    omega
theorem hexV_hexS {x : Nat} (hx : x < 4294967296) : hexV 0 (hexS x) = some x := by
  have := hexV_hexN hx (i := 8) (Nat.le_refl _)
  simpa [hexS] using this
theorem hexV_digs : ∀ {p : List UInt8} {a n : Nat}, hexV a p = some n → p = (List.range p.length).map (fun j => hexC (n / 16 ^ (p.length - 1 - j) % 16)) ∧ n / 16 ^ p.length = a
  | [], a, n, h => by
    have h : some a = some n := h
    injection h with h
    simp [h]
  | c :: r, a, n, h => by
    rw [hexV_cons] at h
    split at h
    · rename_i d hd
      obtain ⟨h1, h2⟩ := hexV_digs h
      obtain ⟨k1, k2⟩ := hexC_hexD hd
      refine ⟨?_, ?_⟩
      · rw [List.length_cons, List.range_succ_eq_map, List.map_cons, List.map_map]
        congr 1
        · rw [show r.length + 1 - 1 - 0 = r.length by omega, h2, show (16 * a + d) % 16 = d by omega, k1]
        · conv => lhs; rw [h1]
          refine List.map_congr_left fun j hj => ?_
          have := List.mem_range.1 hj
          show hexC (n / 16 ^ (r.length - 1 - j) % 16) = hexC (n / 16 ^ (r.length + 1 - 1 - (j + 1)) % 16)
          rw [show r.length + 1 - 1 - (j + 1) = r.length - 1 - j by omega]
      · rw [List.length_cons, Nat.pow_succ, ← Nat.div_div_eq_div_mul, h2]; omega
    · cases h
theorem hexS_hexV {p : List UInt8} {n : Nat} (hl : p.length = 8) (h : hexV 0 p = some n) : hexS n = p ∧ n < 4294967296 := by
  obtain ⟨h1, h2⟩ := hexV_digs h
  rw [hl] at h1 h2
  refine ⟨?_, ?_⟩
  · rw [h1]
    unfold hexS hexN
    refine List.map_congr_left fun j hj => ?_
    have hj := List.mem_range.1 hj
    have : (2 : Nat) ^ (28 - 4 * j) = 16 ^ (8 - 1 - j) := by
      have : j = 0 ∨ j = 1 ∨ j = 2 ∨ j = 3 ∨ j = 4 ∨ j = 5 ∨ j = 6 ∨ j = 7 := by omega
      rcases this with rfl | rfl | rfl | rfl | rfl | rfl | rfl | rfl <;> rfl
    rw [this]
  · rcases Nat.lt_or_ge n 4294967296 with q | q
    · exact q
    · have : 0 < n / 16 ^ 8 := Nat.div_pos q (by decide)
      omega
/-- The number of eight digits. -/
def hexP (p : List UInt8) : Option Nat := if p.length = 8 then match hexV 0 p with
    | some n => if can .f32 n = n then some n else none
    | none => none
  else none
theorem hexP_some {p : List UInt8} {n : Nat} (h : hexP p = some n) : hexS n = p ∧ CF n := by
  unfold hexP at h
  split at h
  · rename_i hl
    split at h
    · rename_i m hm
      split at h
      · rename_i hc
        injection h with h
        subst h
        obtain ⟨h1, h2⟩ := hexS_hexV hl hm
        exact ⟨h1, h2, hc⟩
      · cases h
    · cases h
  · cases h
/-- What the program asks of the digits. -/
theorem hexP_back {p : List UInt8} {n : Nat} (hl : p.length = 8) (h : hexV 0 p = some n) (hcan : can .f32 n < 4294967296) : hexP p = if hexS (can .f32 n) = p then some (can .f32 n) else none := by
  obtain ⟨h1, h2⟩ := hexS_hexV hl h
  unfold hexP
  rw [if_pos hl, h]
  simp only []
  by_cases hc : can .f32 n = n
  · rw [if_pos hc, if_pos (by rw [hc]; exact h1), hc]
  · rw [if_neg hc, if_neg]
    intro q
    have := hexV_hexS hcan
    rw [q, h] at this
    injection this with this
    exact hc this.symm
def numP (s : List UInt8) : Option (List Nat) := if s = none4 then some [] else if (cut 44 s).length ≤ 256 then mapO hexP (cut 44 s) else none
theorem numP_some {s : List UInt8} {xs : List Nat} (h : numP s = some xs) : numT xs = s ∧ (∀ x ∈ xs, CF x) ∧ xs.length ≤ 256 := by
  unfold numP at h
  split at h
  · rename_i h0
    injection h with h
    subst h
    exact ⟨by unfold numT; rw [if_pos rfl, h0], by simp, by simp⟩
  · split at h
    · rename_i h1
      have hlen := mapO_len h
      have hb := mapO_back (g := hexS) (fun x y q => (hexP_some q).1) h
      have hne : xs ≠ [] := by
        intro q
        rw [q] at hlen
        exact cut_ne (List.length_eq_zero_iff.1 hlen.symm)
      refine ⟨?_, mapO_mem (fun x y q => (hexP_some q).2) h, by omega⟩
      unfold numT
      rw [if_neg hne, hb, cut_join]
    · cases h
/-! ### Chains -/
def effP (w : List UInt8) : Option Eff := match cut 46 w with
  | [a, b, c] => if isDec a ∧ isDec b then match numP c with
      | some xs => some ⟨valI a, valI b, xs⟩
      | none => none
    else none
  | _ => none
theorem effP_some {w : List UInt8} {e : Eff} (h : effP w = some e) : Lib.itoa e.kind ++ [46] ++ Lib.itoa e.len ++ [46] ++ numT e.nums = w ∧ (∀ x ∈ e.nums, CF x) ∧ e.nums.length ≤ 256 := by
  unfold effP at h
  split at h
  · rename_i a b c hcut
    split at h
    · rename_i hd
      split at h
      · rename_i xs hx
        injection h with h
        subst h
        obtain ⟨h1, h2, h3⟩ := numP_some hx
        refine ⟨?_, h2, h3⟩
        have := cut_join (m := 46) (s := w)
        rw [hcut, Lib.join_cons] at this
        rw [← this, hd.1.2, hd.2.2, h1]
        simp [Lib.joinTail]
      · cases h
    · cases h
  · cases h
theorem effP_text {w : List UInt8} {e : Eff} (h : effP w = some e) (hok : effOk e) : effT e = w := by
  obtain ⟨k1, k2, k3⟩ := hok.nums
  rw [← (effP_some h).1]
  unfold effT Lib.itoa
  rw [if_neg (by omega), if_neg (by omega)]
def chP (s : List UInt8) : Option (List Eff) := if s = none4 then some [] else mapO effP (cut 59 s)
theorem chP_text {s : List UInt8} {es : List Eff} (h : chP s = some es) (hc : isCh es) : chT es = s := by
  unfold chP at h
  split at h
  · rename_i h0
    injection h with h
    subst h
    unfold chT
    rw [if_pos rfl, h0]
  · have hlen := mapO_len h
    have hne : es ≠ [] := by
      intro q
      rw [q] at hlen
      exact cut_ne (List.length_eq_zero_iff.1 hlen.symm)
    have hb : es.map effT = cut 59 s := by
      apply List.ext_getElem?
      intro i
      rw [List.getElem?_map]
      rcases Nat.lt_or_ge i es.length with hi | hi
      · have h1 := mapO_all (p := fun x y => effOk y → effT y = x) (fun x y q hk => effP_text q hk) h i _ _ (List.getElem?_eq_getElem (by omega)) (List.getElem?_eq_getElem hi)
        rw [List.getElem?_eq_getElem hi, Option.map_some, h1 (hc.2 _ (List.getElem_mem hi)), List.getElem?_eq_getElem (by omega)]
      · rw [List.getElem?_eq_none hi, List.getElem?_eq_none (by omega)]; rfl
    unfold chT
    rw [if_neg hne, hb, cut_join]
theorem chP_nums {s : List UInt8} {es : List Eff} (h : chP s = some es) : ∀ e ∈ es, (∀ x ∈ e.nums, CF x) ∧ e.nums.length ≤ 256 := by
  unfold chP at h
  split at h
  · injection h with h
    subst h
    simp
  · exact mapO_mem (p := fun e => (∀ x ∈ e.nums, CF x) ∧ e.nums.length ≤ 256) (fun x y q => (effP_some q).2) h
/-- The chain of a text. -/
noncomputable def readR (s : List UInt8) : Option (List Eff) := match chP s with
  | some es => if isCh es then some es else none
  | none => none
theorem readR_none {s : List UInt8} (h : chP s = none) : readR s = none := by unfold readR; rw [h]
theorem readR_some {s : List UInt8} {es : List Eff} (h : chP s = some es) (hc : isCh es) : readR s = some es := by unfold readR; rw [h]; simp only []; rw [if_pos hc]
theorem readR_bad {s : List UInt8} {es : List Eff} (h : chP s = some es) (hc : ¬ isCh es) : readR s = none := by unfold readR; rw [h]; simp only []; rw [if_neg hc]
theorem readR_is {s : List UInt8} {es : List Eff} (h : readR s = some es) : chP s = some es ∧ isCh es := by
  unfold readR at h
  split at h
  · rename_i es' hes
    split at h
    · rename_i hc; injection h with h; subst h; exact ⟨hes, hc⟩
    · cases h
  · cases h
end Go.E
