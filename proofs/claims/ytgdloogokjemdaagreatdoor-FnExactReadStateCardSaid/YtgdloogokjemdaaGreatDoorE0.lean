/- Floats whose not-a-numbers are one value: what the model's float operations give, up to the bits of a not-a-number. Plain theorems on the model's floats; no condition. -/
import Derived.WalkLawsBesides
import Derived.Deep.Draws
set_option linter.unusedVariables false
set_option linter.unusedSimpArgs false
namespace Go.E
open Go

/-- The one not-a-number. -/
def nanOf (k : FloatKind) : Nat := k.format.infRung + 2 ^ (k.format.fractionBits - 1)
def isNaN (k : FloatKind) (b : Nat) : Bool := (k.format.read b).isNaN
def can (k : FloatKind) (b : Nat) : Nat := if isNaN k b then nanOf k else b
/-- The bits b stand for the canonical x. -/
def FR (k : FloatKind) (b x : Nat) : Prop := b < 2 ^ k.format.width ∧ can k b = x

theorem isNaN_nanOf (k : FloatKind) : isNaN k (nanOf k) = true := by cases k <;> decide +kernel
theorem nanOf_lt (k : FloatKind) : nanOf k < 2 ^ k.format.width := by cases k <;> decide +kernel
theorem isNaN_can (k : FloatKind) (b : Nat) : isNaN k (can k b) = isNaN k b := by
  unfold can; split
  · rename_i h; rw [h]; exact isNaN_nanOf k
  · rfl
theorem can_can (k : FloatKind) (b : Nat) : can k (can k b) = can k b := by
  show (if isNaN k (can k b) then nanOf k else can k b) = can k b
  rw [isNaN_can]; unfold can; split <;> rfl
theorem can_of_not {k : FloatKind} {b : Nat} (h : isNaN k b = false) : can k b = b := by unfold can; rw [h]; rfl
theorem can_of_nan {k : FloatKind} {b : Nat} (h : isNaN k b = true) : can k b = nanOf k := by unfold can; rw [h]; rfl
theorem FR.lt {k : FloatKind} {b x : Nat} (h : FR k b x) : x < 2 ^ k.format.width := by
  obtain ⟨h1, rfl⟩ := h
  unfold can; split
  · exact nanOf_lt k
  · exact h1
theorem FR.can_x {k : FloatKind} {b x : Nat} (h : FR k b x) : can k x = x := by obtain ⟨_, rfl⟩ := h; exact can_can k b
theorem FR.isNaN {k : FloatKind} {b x : Nat} (h : FR k b x) : E.isNaN k b = E.isNaN k x := by obtain ⟨_, rfl⟩ := h; exact (isNaN_can k b).symm
theorem FR.eq_of_not {k : FloatKind} {b x : Nat} (h : FR k b x) (hn : E.isNaN k x = false) : b = x := by
  have h2 := h.isNaN; rw [hn] at h2
  rw [← h.2, can_of_not h2]
theorem FR.self {k : FloatKind} {b : Nat} (h : b < 2 ^ k.format.width) (hc : can k b = b) : FR k b b := ⟨h, hc⟩

theorem read_nan_of {k : FloatKind} {b : Nat} (h : isNaN k b = true) : ∃ s t, k.format.read b = .nan s t := by
  unfold isNaN at h
  cases hd : k.format.read b with
  | nan s t => exact ⟨s, t, rfl⟩
  | number s m e => rw [hd] at h; cases h
  | infinity s => rw [hd] at h; cases h

theorem sum_nan_left (s : Bool) (t : Nat) (d : Ieee.Datum) : (Ieee.Datum.nan s t).sum d = none := by cases d <;> rfl
theorem sum_nan_right (s : Bool) (t : Nat) (d : Ieee.Datum) : d.sum (Ieee.Datum.nan s t) = none := by cases d <;> rfl
theorem product_nan_left (s : Bool) (t : Nat) (d : Ieee.Datum) : (Ieee.Datum.nan s t).product d = none := by cases d <;> rfl
theorem product_nan_right (s : Bool) (t : Nat) (d : Ieee.Datum) : d.product (Ieee.Datum.nan s t) = none := by cases d <;> rfl
theorem quotient_nan_left (n : Nat) (s : Bool) (t : Nat) (d : Ieee.Datum) : Ieee.Datum.quotient n (Ieee.Datum.nan s t) d = none := by cases d <;> rfl
theorem quotient_nan_right (n : Nat) (s : Bool) (t : Nat) (d : Ieee.Datum) : Ieee.Datum.quotient n d (Ieee.Datum.nan s t) = none := by cases d <;> rfl
theorem order_nan_left (s : Bool) (t : Nat) (d : Ieee.Datum) : (Ieee.Datum.nan s t).order d = none := by cases d <;> rfl
theorem order_nan_right (s : Bool) (t : Nat) (d : Ieee.Datum) : d.order (Ieee.Datum.nan s t) = none := by cases d <;> rfl

def arith (op : BinOp) : Bool := op matches .add | .sub | .mul | .quo

theorem bits_nan_left {op : BinOp} {k : FloatKind} {x y : Nat} (h : isNaN k x = true) : floatBits op k x y = none := by
  obtain ⟨s, t, e⟩ := read_nan_of h
  cases op <;> simp [floatBits, Ieee.Format.add, Ieee.Format.sub, Ieee.Format.mul, Ieee.Format.div, e, sum_nan_left, product_nan_left, quotient_nan_left]
theorem bits_nan_right {op : BinOp} {k : FloatKind} {x y : Nat} (h : isNaN k y = true) : floatBits op k x y = none := by
  obtain ⟨s, t, e⟩ := read_nan_of h
  cases op <;> simp [floatBits, Ieee.Format.add, Ieee.Format.sub, Ieee.Format.mul, Ieee.Format.div, e, sum_nan_right, product_nan_right, quotient_nan_right, Ieee.Datum.opposite]
theorem bits_can (op : BinOp) (k : FloatKind) (x y : Nat) : floatBits op k (can k x) (can k y) = floatBits op k x y := by
  cases hx : isNaN k x
  · cases hy : isNaN k y
    · rw [can_of_not hx, can_of_not hy]
    · rw [bits_nan_right (isNaN_can k y ▸ hy), bits_nan_right hy]
  · rw [bits_nan_left (isNaN_can k x ▸ hx), bits_nan_left hx]

/-- '+', '-', '*', '/' -/
def fbin (op : BinOp) (k : FloatKind) (x y : Nat) : Nat := (floatBits op k x y).getD (nanOf k)

theorem rung_le (f : Ieee.Format) (neg : Bool) (r : Nat) (h : r ≤ f.infRung) (hs : f.infRung < f.signWeight) : ¬ ((f.read (f.word neg r)).isNaN = true) := by
  have h2 : (f.word neg r) % f.signWeight = r := by
    unfold Ieee.Format.word; split
    · rw [Nat.add_mod, Nat.mod_self, Nat.zero_add, Nat.mod_mod, Nat.mod_eq_of_lt (Nat.lt_of_le_of_lt h hs)]
    · exact Nat.mod_eq_of_lt (Nat.lt_of_le_of_lt h hs)
  unfold Ieee.Format.read
  simp only [h2]
  split
  · simp [Ieee.Datum.isNaN]
  · split
    · simp [Ieee.Datum.isNaN]
    · split
      · simp [Ieee.Datum.isNaN]
      · omega
theorem nearest_not_nan (f : Ieee.Format) (hs : f.infRung < f.signWeight) (neg : Bool) (m : Nat) (p : Int) : ¬ ((f.read (f.nearest neg m p)).isNaN = true) := by
  unfold Ieee.Format.nearest
  split
  · exact rung_le f neg 0 (Nat.zero_le _) hs
  · exact rung_le f neg _ (Nat.min_le_right _ _) hs
theorem write_not_nan (f : Ieee.Format) (hs : f.infRung < f.signWeight) (d : Ieee.Datum) (hd : d.isNaN = false) : ¬ ((f.read (f.write d)).isNaN = true) := by
  cases d with
  | number s m e => exact nearest_not_nan f hs s m e
  | infinity s => exact rung_le f s _ (Nat.le_refl _) hs
  | nan s t => cases hd
theorem inf_lt (k : FloatKind) : k.format.infRung < k.format.signWeight := Ieee.Format.infRung_lt _
theorem encode_not_nan (k : FloatKind) (d : Ieee.Datum) (hd : d.isNaN = false) : isNaN k (k.encode d) = false := by
  have := write_not_nan k.format (inf_lt k) d hd
  unfold isNaN FloatKind.encode
  simpa using this
theorem sum_not_nan {d e r : Ieee.Datum} (h : d.sum e = some r) : r.isNaN = false := by
  cases d <;> cases e <;> simp [Ieee.Datum.sum] at h <;> first | (obtain ⟨_, rfl⟩ := h; rfl) | (subst h; rfl)
theorem product_not_nan {d e r : Ieee.Datum} (h : d.product e = some r) : r.isNaN = false := by
  cases d <;> cases e <;> simp [Ieee.Datum.product] at h <;> first | (obtain ⟨_, rfl⟩ := h; rfl) | (subst h; rfl)
theorem quotient_not_nan {n : Nat} {d e r : Ieee.Datum} (h : Ieee.Datum.quotient n d e = some r) : r.isNaN = false := by
  cases d <;> cases e <;> simp [Ieee.Datum.quotient] at h <;> first | (subst h; rfl) | skip
  split at h
  · split at h
    · cases h
    · injection h with h; subst h; rfl
  · injection h with h; subst h; rfl
theorem map_write_not_nan (k : FloatKind) {d : Option Ieee.Datum} {r : Nat} (hd : ∀ e, d = some e → e.isNaN = false) (h : d.map k.format.write = some r) : isNaN k r = false := by
  cases d with
  | none => cases h
  | some e =>
    injection h with h; subst h
    exact encode_not_nan k e (hd e rfl)
theorem bits_not_nan {op : BinOp} {k : FloatKind} {x y r : Nat} (h : floatBits op k x y = some r) : isNaN k r = false := by
  unfold floatBits at h
  split at h
  · exact map_write_not_nan k (fun e => sum_not_nan) h
  · exact map_write_not_nan k (fun e => sum_not_nan) h
  · exact map_write_not_nan k (fun e => product_not_nan) h
  · exact map_write_not_nan k (fun e => quotient_not_nan) h
  · cases h
theorem bits_lt {op : BinOp} {k : FloatKind} {x y r : Nat} (h : floatBits op k x y = some r) : r < 2 ^ k.format.width := by
  unfold floatBits at h
  split at h
  · exact k.format.add_lt h
  · exact k.format.sub_lt h
  · exact k.format.mul_lt h
  · exact k.format.div_lt h
  · cases h
theorem fbin_can (op : BinOp) (k : FloatKind) (x y : Nat) : can k (fbin op k x y) = fbin op k x y := by
  unfold fbin
  cases h : floatBits op k x y with
  | none => exact can_of_nan (isNaN_nanOf k)
  | some r => exact can_of_not (bits_not_nan h)

/-- The answers to a question for the bits of a not-a-number are a not-a-number's. -/
theorem cut_nan (k : FloatKind) (x y t : Nat) : isNaN k (Question.cut (.nanBits k x y) t) = true ∧ Question.cut (.nanBits k x y) t < 2 ^ k.format.width := by
  have key : ∀ (k : FloatKind) (s j : Nat), s ≤ 1 → 1 ≤ j → j < k.format.binade → isNaN k (s * k.format.signWeight + (k.format.infRung + j)) = true ∧ s * k.format.signWeight + (k.format.infRung + j) < 2 ^ k.format.width := by
    intro k s j hs hj hb
    have hw : k.format.infRung + k.format.binade = k.format.signWeight := Ieee.Format.infRung_add_binade _
    have hwd : 2 ^ k.format.width = 2 * k.format.signWeight := by cases k <;> decide +kernel
    constructor
    · have hm : (s * k.format.signWeight + (k.format.infRung + j)) % k.format.signWeight = k.format.infRung + j := by
        rw [Nat.mul_comm, Nat.mul_add_mod]; exact Nat.mod_eq_of_lt (by omega)
      unfold isNaN Ieee.Format.read
      have hb1 : k.format.binade ≤ k.format.infRung := by cases k <;> decide +kernel
      simp only [hm]
      rw [if_neg (by omega), if_neg (by omega), if_neg (by omega)]
      rfl
    · rw [hwd]
      have : s * k.format.signWeight ≤ k.format.signWeight := by
        calc s * k.format.signWeight ≤ 1 * k.format.signWeight := Nat.mul_le_mul_right _ hs
          _ = _ := Nat.one_mul _
      omega
  cases k
  · have h := key .f32 (t % 2) (1 + (t / 2) % (2 ^ 23 - 1)) (by omega) (by omega) (by have : (t / 2) % (2 ^ 23 - 1) < 2 ^ 23 - 1 := Nat.mod_lt _ (by decide); show _ < 2 ^ 23; omega)
    have e : Question.cut (.nanBits .f32 x y) t = (t % 2) * FloatKind.f32.format.signWeight + (FloatKind.f32.format.infRung + (1 + (t / 2) % (2 ^ 23 - 1))) := by
      show (t % 2) * 2 ^ 31 + 0x7f800000 + 1 + (t / 2) % (2 ^ 23 - 1) = (t % 2) * 2 ^ 31 + (0x7f800000 + (1 + (t / 2) % (2 ^ 23 - 1)))
      omega
    rw [e]; exact h
  · have h := key .f64 (t % 2) (1 + (t / 2) % (2 ^ 52 - 1)) (by omega) (by omega) (by have : (t / 2) % (2 ^ 52 - 1) < 2 ^ 52 - 1 := Nat.mod_lt _ (by decide); show _ < 2 ^ 52; omega)
    have e : Question.cut (.nanBits .f64 x y) t = (t % 2) * FloatKind.f64.format.signWeight + (FloatKind.f64.format.infRung + (1 + (t / 2) % (2 ^ 52 - 1))) := by
      show (t % 2) * 2 ^ 63 + 0x7ff0000000000000 + 1 + (t / 2) % (2 ^ 52 - 1) = (t % 2) * 2 ^ 63 + (0x7ff0000000000000 + (1 + (t / 2) % (2 ^ 52 - 1)))
      omega
    rw [e]; exact h
theorem cut_nanConv (k : FloatKind) (x t : Nat) : Question.cut (.nanConv k x) t = Question.cut (.nanBits k x x) t := by cases k <;> rfl

theorem run_choose_nan (P : Program) (k : FloatKind) (x y : Nat) (w : World) : ∃ r, (choose (.nanBits k x y)).run P w = .ok r (w.drewN 1) ∧ FR k r (nanOf k) := by
  refine ⟨_, by simp [Question.forced]; exact ⟨rfl, rfl⟩, ?_⟩
  have h := cut_nan k x y (w.tape w.drawn (.nanBits k x y))
  exact ⟨h.2, can_of_nan h.1⟩
theorem run_choose_nanConv (P : Program) (k : FloatKind) (x : Nat) (w : World) : ∃ r, (choose (.nanConv k x)).run P w = .ok r (w.drewN 1) ∧ FR k r (nanOf k) := by
  refine ⟨_, by simp [Question.forced]; exact ⟨rfl, rfl⟩, ?_⟩
  have h := cut_nan k x x (w.tape w.drawn (.nanConv k x))
  rw [← cut_nanConv] at h
  exact ⟨h.2, can_of_nan h.1⟩

theorem run_arith (P : Program) (w : World) (op : BinOp) (hop : arith op = true) (t : TypeId) (k : FloatKind) {a b x y : Nat} (ha : FR k a x) (hb : FR k b y) :
    ∃ r n, (binOp op t (.float k a) (.float k b)).run P w = .ok (.float k r) (w.drewN n) ∧ FR k r (fbin op k x y) := by
  have hxy : floatBits op k x y = floatBits op k a b := by rw [← ha.2, ← hb.2]; exact bits_can op k a b
  cases h : floatBits op k a b with
  | some r =>
    refine ⟨r, 0, run_float_arith w op t k a b r h, bits_lt h, ?_⟩
    rw [can_of_not (bits_not_nan h)]
    unfold fbin; rw [hxy, h]; rfl
  | none =>
    obtain ⟨r, hr, hf⟩ := run_choose_nan P k a b w
    refine ⟨r, 1, ?_, ?_⟩
    · cases op <;> first | (cases hop; done) | skip
      all_goals
        simp only [floatBits] at h
        have hq : (Question.nanBits k a b).forced = false := rfl
        simp only [run_choose, hq, Bool.false_eq_true, if_false, Result.ok.injEq] at hr
        simp [binOp, Op.floatArith, h, hq, hr.1]
        exact hr.2
    · unfold fbin; rw [hxy, h]; exact hf

def cmp (op : BinOp) : Bool := op matches .eql | .neq | .lss | .leq | .gtr | .geq
/-- '==' and its kin -/
def fcmp (op : BinOp) (k : FloatKind) (x y : Nat) : Bool :=
  let c := k.format.order x y
  match op with
  | .eql => c == some .eq
  | .neq => c != some .eq
  | .lss => c == some .lt
  | .leq => c == some .lt || c == some .eq
  | .gtr => c == some .gt
  | .geq => c == some .gt || c == some .eq
  | _ => false
theorem order_nan1 {k : FloatKind} {x y : Nat} (h : isNaN k x = true) : k.format.order x y = none := by
  obtain ⟨s, t, e⟩ := read_nan_of h
  simp [Ieee.Format.order, e, order_nan_left]
theorem order_nan2 {k : FloatKind} {x y : Nat} (h : isNaN k y = true) : k.format.order x y = none := by
  obtain ⟨s, t, e⟩ := read_nan_of h
  simp [Ieee.Format.order, e, order_nan_right]
theorem order_can (k : FloatKind) (x y : Nat) : k.format.order (can k x) (can k y) = k.format.order x y := by
  cases hx : isNaN k x
  · cases hy : isNaN k y
    · rw [can_of_not hx, can_of_not hy]
    · rw [order_nan2 (isNaN_can k y ▸ hy), order_nan2 hy]
  · rw [order_nan1 (isNaN_can k x ▸ hx), order_nan1 hx]
theorem run_cmp (P : Program) (w : World) (op : BinOp) (hop : cmp op = true) (t : TypeId) (k : FloatKind) {a b x y : Nat} (ha : FR k a x) (hb : FR k b y) :
    (binOp op t (.float k a) (.float k b)).run P w = .ok (.bool (fcmp op k x y)) w := by
  have e : k.format.order a b = k.format.order x y := by rw [← ha.2, ← hb.2, order_can]
  cases op <;> first | (cases hop; done) | simp [binOp, Op.floatCmp, fcmp, e]

/-- '-x' -/
def fneg (k : FloatKind) (x : Nat) : Nat := if isNaN k x then nanOf k else Op.negFloat k x

def fofint (k : FloatKind) (n : Int) : Nat := k.nearest n
theorem fofint_not_nan (k : FloatKind) (n : Int) : isNaN k (fofint k n) = false := encode_not_nan k (.number (n < 0) n.natAbs 0) rfl
theorem fofint_FR (k : FloatKind) (n : Int) : FR k (k.nearest n) (fofint k n) := ⟨k.format.write_lt (.number (n < 0) n.natAbs 0), can_of_not (fofint_not_nan k n)⟩

/-- 'float64(x)', 'float32(x)': none where a finite number would become an infinity (there the language leaves it open). -/
def fconv (s d : FloatKind) (x : Nat) : Option Nat :=
  if s = d then some x else if isNaN s x then some (nanOf d) else floatToFloatBits s x d
theorem conv_not_nan {s d : FloatKind} {x r : Nat} (hne : s ≠ d) (h : floatToFloatBits s x d = some r) : isNaN d r = false := by
  unfold floatToFloatBits at h
  rw [if_neg hne] at h
  split at h
  · cases h
  · injection h with h; subst h; exact encode_not_nan d _ rfl
  · split at h
    · cases h
    · injection h with h; subst h; exact encode_not_nan d _ rfl
theorem conv_lt {s d : FloatKind} {x r : Nat} (hne : s ≠ d) (h : floatToFloatBits s x d = some r) : r < 2 ^ d.format.width := by
  unfold floatToFloatBits at h
  rw [if_neg hne] at h
  split at h
  · cases h
  · injection h with h; subst h; exact d.format.write_lt _
  · split at h
    · cases h
    · injection h with h; subst h; exact d.format.write_lt _
theorem run_conv (P : Program) (w : World) (s d : FloatKind) {a x r : Nat} (ha : FR s a x) (h : fconv s d x = some r) :
    ∃ b n, (Conv.floatToFloat s a d).run P w = .ok (.float d b) (w.drewN n) ∧ FR d b r := by
  unfold fconv at h
  by_cases hsd : s = d
  · rw [if_pos hsd] at h
    injection h with h; subst h; subst hsd
    exact ⟨a, 0, by simp [Conv.floatToFloat]; rfl, ha⟩
  · rw [if_neg hsd] at h
    cases hn : isNaN s x
    · rw [hn, if_neg (by simp)] at h
      obtain rfl := ha.eq_of_not hn
      refine ⟨r, 0, ?_, conv_lt hsd h, can_of_not (conv_not_nan hsd h)⟩
      unfold floatToFloatBits at h
      rw [if_neg hsd] at h
      unfold Conv.floatToFloat
      rw [if_neg hsd]
      split at h
      · cases h
      · rename_i sg e; injection h with h; subst h; simp [e]; rfl
      · rename_i sg m ex e
        split at h
        · cases h
        · rename_i ho; injection h with h; subst h
          simp [e, ho]; rfl
    · rw [hn, if_pos rfl] at h
      injection h with h; subst h
      have hn' : isNaN s a = true := by rw [ha.isNaN]; exact hn
      obtain ⟨sg, t, e⟩ := read_nan_of hn'
      obtain ⟨b, hr, hf⟩ := run_choose_nanConv P d a w
      refine ⟨b, 1, ?_, hf⟩
      have hq : (Question.nanConv d a).forced = false := rfl
      simp only [run_choose, hq, Bool.false_eq_true, if_false, Result.ok.injEq] at hr
      unfold Conv.floatToFloat; rw [if_neg hsd]; simp [FloatKind.decode, e, hq, hr.1]
      exact hr.2

/-- 'int(x)': none where the language leaves it open. -/
def ftoint (s : FloatKind) (x : Nat) (d : IntKind) : Option Int := floatToIntVal s x d
theorem toint_nan {s : FloatKind} {x : Nat} {d : IntKind} (h : isNaN s x = true) : floatToIntVal s x d = none := by
  obtain ⟨sg, t, e⟩ := read_nan_of h
  unfold floatToIntVal
  simp [FloatKind.decode, e, Ieee.Datum.toInt, Ieee.Datum.integral]
theorem run_toint (P : Program) (w : World) (s : FloatKind) (d : IntKind) {a x : Nat} {n : Int} (ha : FR s a x) (h : ftoint s x d = some n) :
    (Conv.floatToInt s a d).run P w = .ok (.int d n) w := by
  have hn : isNaN s x = false := by
    cases hn : isNaN s x
    · rfl
    · unfold ftoint at h; rw [toint_nan hn] at h; cases h
  obtain rfl := ha.eq_of_not hn
  unfold ftoint floatToIntVal at h
  split at h
  · rename_i m he
    split at h
    · rename_i hb; injection h with h; subst h
      simp [Conv.floatToInt, he, hb.1, hb.2]
    · cases h
  · cases h

theorem negFloat_lt (k : FloatKind) {b : Nat} (h : b < 2 ^ k.format.width) : Op.negFloat k b < 2 ^ k.format.width := by
  unfold Op.negFloat
  exact Nat.xor_lt_two_pow h (by cases k <;> decide +kernel)

theorem isNaN_eq (k : FloatKind) (b : Nat) : isNaN k b = decide (k.format.infRung < b % k.format.signWeight) := by
  have hb1 : k.format.binade ≤ k.format.infRung := by cases k <;> decide +kernel
  unfold isNaN Ieee.Format.read
  simp only []
  split
  · simp [Ieee.Datum.isNaN]; omega
  · split
    · simp [Ieee.Datum.isNaN]; omega
    · split
      · simp [Ieee.Datum.isNaN]; omega
      · simp [Ieee.Datum.isNaN]; omega
theorem negFloat_mod (k : FloatKind) (b : Nat) : Op.negFloat k b % k.format.signWeight = b % k.format.signWeight := by
  unfold Op.negFloat Ieee.Format.signWeight
  rw [Nat.xor_mod_two_pow, Nat.mod_self, Nat.xor_zero]
theorem isNaN_neg (k : FloatKind) (b : Nat) : isNaN k (Op.negFloat k b) = isNaN k b := by rw [isNaN_eq, isNaN_eq, negFloat_mod]
theorem neg_FR {k : FloatKind} {b x : Nat} (h : FR k b x) : FR k (Op.negFloat k b) (fneg k x) := by
  refine ⟨negFloat_lt k h.1, ?_⟩
  unfold fneg
  cases hn : isNaN k x
  · obtain rfl := h.eq_of_not hn
    rw [can_of_not (by rw [isNaN_neg]; exact hn)]; rfl
  · rw [can_of_nan (by rw [isNaN_neg, h.isNaN]; exact hn)]; rfl
end Go.E
