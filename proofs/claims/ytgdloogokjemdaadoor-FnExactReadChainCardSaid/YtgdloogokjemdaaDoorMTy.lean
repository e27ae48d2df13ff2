/- Texts of lists of numbers, and of chains, both sides. -/
import Derived.Test.YtgdloogokjemdaaDoorMTx
import Derived.Test.YtgdloogokjemdaaDoorMJn
import Derived.Test.YtgdloogokjemdaaDoorMCh
import Derived.Test.YtgdloogokjemdaaDoorMP
set_option linter.unusedVariables false
set_option linter.unusedSimpArgs false
namespace Go.E
open Go
def L36 : LFn := ⟨1, (.seq (.reg [⟨(.some 2), (.mv (.c (.lf (.str ⟨#[]⟩)))), none⟩])
 (.seq (.seq (.reg [⟨(.some 5), (.mv (.t 0)), none⟩, ⟨(.some 6), (.len (.t 5)), none⟩, ⟨(.some 7), (.bin .eql (.t 6) (.c (.lf (.int .i64 0)))), none⟩])
 (.cond (.t 7) (.seq (.reg [⟨(.some 2), (.mv (.c (.lf (.str ⟨#[110, 111, 110, 101]⟩)))), none⟩])
 .ret) .skip))
 (.seq (.reg [⟨(.some 8), (.mv (.t 0)), none⟩, ⟨(.some 9), (.iaddr 1 (.t 8) (.c (.lf (.int .i64 0)))), none⟩, ⟨(.some 10), (.load false 1 (.t 9)), none⟩, ⟨(.some 11), (.call true 53 [(.t 10)]), none⟩, ⟨(.some 3), (.mv (.t 11)), none⟩])
 (.seq (.seq (.reg [⟨(.some 4), (.mv (.c (.lf (.int .i64 1)))), none⟩])
 (.block 0 (.loop (.seq (.seq (.reg [⟨(.some 12), (.mv (.t 4)), none⟩, ⟨(.some 13), (.mv (.t 0)), none⟩, ⟨(.some 14), (.len (.t 13)), none⟩, ⟨(.some 15), (.bin .lss (.t 12) (.t 14)), none⟩])
 (.cond (.t 15) .skip (.exit 0)))
 (.seq (.block 1 (.reg [⟨(.some 18), (.mv (.t 3)), none⟩, ⟨(.some 19), (.mv (.t 0)), none⟩, ⟨(.some 20), (.mv (.t 4)), none⟩, ⟨(.some 21), (.iaddr 1 (.t 19) (.t 20)), none⟩, ⟨(.some 22), (.load false 1 (.t 21)), none⟩, ⟨(.some 23), (.call true 53 [(.t 22)]), none⟩, ⟨(.some 24), (.bin .add (.c (.lf (.str ⟨#[44]⟩))) (.t 23)), none⟩, ⟨(.some 25), (.bin .add (.t 18) (.t 24)), none⟩, ⟨(.some 3), (.mv (.t 25)), none⟩]))
 (.reg [⟨(.some 16), (.mv (.t 4)), none⟩, ⟨(.some 17), (.bin .add (.t 16) (.c (.lf (.int .i64 1)))), none⟩, ⟨(.some 4), (.mv (.t 17)), none⟩]))))))
 (.seq (.reg [⟨(.some 26), (.mv (.t 3)), none⟩, ⟨(.some 2), (.mv (.t 26)), none⟩])
 .ret))))), [(.tmp 2)]⟩
def L26 : LFn := ⟨1, (.seq (.reg [⟨(.some 2), (.mv (.c (.lf (.str ⟨#[]⟩)))), none⟩])
 (.seq (.reg [⟨(.some 3), (.mv (.t 0)), none⟩, ⟨(.some 4), (.call true 42 [(.t 3), (.c (.lf (.int .i64 10)))]), none⟩, ⟨(.some 2), (.mv (.t 4)), none⟩])
 .ret)), [(.tmp 2)]⟩
class HasTy (S : Sys) : Prop extends HasTx S, HasP S where
  f36 : S.fs 36 = some L36
  f26 : S.fs 26 = some L26
def st (s : List UInt8) : List Lf := [.str ⟨s.toArray⟩]
theorem strsL_st : ∀ {ss : List (List UInt8)}, strsL ((ss.map st).flatten) = some (ss.map fun s => ⟨s.toArray⟩)
  | [] => rfl
  | s :: ss => by
    have := strsL_st (ss := ss)
    simp only [List.map_cons, List.flatten_cons, st, List.cons_append, List.nil_append, strsL] at this ⊢
    rw [this]; rfl
theorem joinB_st {ss : List (List UInt8)} {sep : List UInt8} : joinB (ss.map fun s => ⟨s.toArray⟩) ⟨sep.toArray⟩ = Lib.join ss sep := by
  unfold joinB
  rw [List.map_map]
  have : ((fun x : ByteArray => x.data.toList) ∘ fun s : List UInt8 => (⟨s.toArray⟩ : ByteArray)) = id := by
    funext s; simp
  rw [this, List.map_id]
theorem join_snoc {l : List (List UInt8)} {x sep : List UInt8} : Lib.join (l ++ [x]) sep = if l = [] then x else Lib.join l sep ++ sep ++ x := by
  cases l with
  | nil => simp [Lib.join_one]
  | cons y r =>
    rw [if_neg (by simp), List.cons_append, Lib.join_cons, Lib.join_cons]
    unfold Lib.joinTail
    simp [List.append_assoc]
theorem join_le {m : Nat} {sep : List UInt8} : ∀ {ss : List (List UInt8)}, (∀ x ∈ ss, x.length ≤ m) → (Lib.join ss sep).length ≤ ss.length * (m + sep.length)
  | [], _ => by simp [Lib.join_nil]
  | x :: r, h => by
    rw [Lib.join_cons, List.length_append, List.length_cons]
    have hx := h x (by simp)
    have hr : (Lib.joinTail sep r).length ≤ r.length * (m + sep.length) := by
      have hr : ∀ y ∈ r, y.length ≤ m := fun y hy => h y (by simp [hy])
      clear h hx
      induction r with
      | nil => simp [Lib.joinTail]
      | cons y r ih =>
        have h1 := hr y (by simp)
        have h2 := ih fun z hz => hr z (by simp [hz])
        unfold Lib.joinTail at h2 ⊢
        simp only [List.map_cons, List.flatten_cons, List.length_append, List.length_cons] at h2 ⊢
        rw [Nat.add_mul]; omega
    rw [Nat.add_mul]; omega
def none4 : List UInt8 := [110, 111, 110, 101]
def numT (xs : List Nat) : List UInt8 := if xs = [] then none4 else Lib.join (xs.map hexS) [44]
theorem numT_le {xs : List Nat} : (numT xs).length ≤ xs.length * 9 + 4 := by
  unfold numT
  split
  · simp [none4]
  · have := join_le (m := 8) (sep := [44]) (ss := xs.map hexS) (fun x hx => by obtain ⟨y, _, rfl⟩ := List.mem_map.1 hx; simp)
    simp at this; omega
def numU (xs : List Nat) (i : Nat) : List UInt8 := Lib.join ((xs.take i).map hexS) [44]
theorem numU_succ {xs : List Nat} {i : Nat} (hi : i < xs.length) (h0 : 0 < i) : numU xs (i + 1) = numU xs i ++ (44 :: hexS xs[i]) := by
  unfold numU
  rw [List.take_succ_eq_append_getElem hi, List.map_append, List.map_cons, List.map_nil, join_snoc, if_neg (by
    intro q
    have := congrArg List.length q
    rw [List.length_map, List.length_take, List.length_nil] at this; omega), List.append_assoc]
  rfl
theorem numU_le {xs : List Nat} {i : Nat} : (numU xs i).length ≤ xs.length * 9 := by
  unfold numU
  have := join_le (m := 8) (sep := [44]) (ss := (xs.take i).map hexS) (fun x hx => by obtain ⟨y, _, rfl⟩ := List.mem_map.1 hx; simp)
  simp only [List.length_map, List.length_take, List.length_cons, List.length_nil] at this
  have h2 : min i xs.length ≤ xs.length := Nat.min_le_right _ _
  have h3 := Nat.mul_le_mul_right 9 h2
  omega
theorem CallT_xt {S : Sys} {f : FuncId} {args : List CV} {h : Hp} {lim : Nat} {K : CV → Hp → Prop} {v : CV} (hF : S.fs f = none) (hx : S.xt f args h h.length = some (v, h)) (hp : v.plain = true) : CallT S true f args h lim K = K v h := by
  have hh : Holds S (.call f args h h.length fun u _ => u = v) := .xt hF hx rfl
  refine propext ⟨fun hk => ?_, fun hk => ⟨v, hh, hp, hk⟩⟩
  obtain ⟨v', h2, _, hk⟩ := hk
  obtain ⟨u, h', rfl, rfl⟩ := hh.both _ h2 ⟨rfl, rfl, rfl, rfl⟩
  exact hk
section
variable {S : Sys} {lim : Nat} {h : Hp} {K : CV → Hp → Prop} {l : Lf}
section
variable [HasTy S] {xs : List Nat}
theorem c_l01NText (hA : Arr h l 1 (xs.map fl)) (hc : ∀ x ∈ xs, CF x) (hn : xs.length ≤ 256) : CallT S true 36 [.lf l] h lim K = K (.lf (.str ⟨(numT xs).toArray⟩)) h := by
  by_cases h0 : xs.length = 0
  · have h1 : xs = [] := List.length_eq_zero_iff.1 h0
    have h2 : (xs.length : Int) = 0 := by omega
    have h3 : numT xs = none4 := by unfold numT; rw [if_pos h1]
    rw [h3]
    have hl := hA.len
    clear h1 h3
    refine CallT_pure (F := L36) (HasTy.f36) rfl (by first | rfl | (split <;> rfl) | simp) ?_; unfold L36; dsimp only []
    repeat' (first | (simp (disch := first | omega | assumption | (simp only [List.length_set]; omega) | (simp [*] <;> fail) | assumption) [-Bool.decide_and, -Bool.decide_or, -Bool.not_and, -Bool.not_or, toNat_pred, toNat_succ, wrap64, wr_new, wr_new0, ok_if, ok_ifn, iadV_sl, makeV_int, decT, decF, over_at, *]) | (with_reducible refine Gd_split (fun hc => ?_) (fun hc => ?_) <;> (have hc2 := hc; try simp at hc2)) | (with_reducible refine Br_split (fun hc => ?_) (fun hc => ?_) <;> (have hc2 := hc; try simp at hc2)) | (with_reducible refine GdT_split (fun hc => ?_) (fun hc => ?_) <;> (have hc2 := hc; try simp at hc2)) | (with_reducible refine WT_alt ?_ ?_) | omega)
    rfl
  · have h2 : ¬ (xs.length : Int) = 0 := by omega
    have hp : 0 < xs.length := by omega
    have hc0 := hc _ (List.getElem_mem hp)
    have a0 := hA.at0 (k := .i64) hp
    have d0 := hA.rd1 hp
    have u1 : numU xs 1 = hexS xs[0] := by
      unfold numU
      rw [List.take_succ_eq_append_getElem hp]
      simp [Lib.join_one]
    have uN : numU xs xs.length = numT xs := by
      unfold numU numT
      rw [List.take_length, if_neg (by intro q; rw [q] at h0; exact h0 rfl)]
    have hl := hA.len
    simp only [Nat.add_zero] at d0
    generalize hx0 : xs[0] = x0 at *
    refine CallT_pure (F := L36) (HasTy.f36) rfl (by first | rfl | (split <;> rfl) | simp) ?_; unfold L36; dsimp only []
    repeat' (first | (simp (disch := first | omega | assumption | (simp only [List.length_set]; omega) | (simp [*] <;> fail) | assumption) [-Bool.decide_and, -Bool.decide_or, -Bool.not_and, -Bool.not_or, toNat_pred, toNat_succ, wrap64, wr_new, wr_new0, ok_if, ok_ifn, iadV_sl, makeV_int, decT, decF, over_at, *, c_l01Hex hc0, fl]) | (with_reducible refine Gd_split (fun hc => ?_) (fun hc => ?_) <;> (have hc2 := hc; try simp at hc2)) | (with_reducible refine Br_split (fun hc => ?_) (fun hc => ?_) <;> (have hc2 := hc; try simp at hc2)) | (with_reducible refine GdT_split (fun hc => ?_) (fun hc => ?_) <;> (have hc2 := hc; try simp at hc2)) | (with_reducible refine WT_alt ?_ ?_) | omega)
    refine WL_forM 67104792 (by decide +kernel) (xs.length) (fun i b g => i + 1 ≤ xs.length ∧ b 4 = .lf (.int .i64 ((i : Int) + 1)) ∧ b 3 = .lf (.str ⟨(numU xs (i + 1)).toArray⟩) ∧ h = g) (fun i _ _ hi => by have := hi.1; omega) ⟨by omega, by simp, by simp [u1], rfl⟩ ?_
    rintro i b g ⟨hi, e4, e3, rfl⟩
    obtain ⟨j, hj⟩ : ∃ j, i + 1 = j := ⟨_, rfl⟩
    have hj2 : (i : Int) + 1 = (j : Int) := by omega
    rw [hj2] at e4
    rw [hj] at e3 hi
    by_cases hlt : j < xs.length
    · have hcj := hc _ (List.getElem_mem hlt)
      have aj := hA.at_ (k := .i64) hlt
      have dj := hA.rd1 hlt
      have hs := numU_succ hlt (by omega)
      have hle := numU_le (xs := xs) (i := j)
      have hS : Hid (numU xs (j + 1) = numU xs j ++ (44 :: hexS xs[j])) := hs
      have hh := fun g lim K => c_l01Hex (S := S) (h := g) (lim := lim) (K := K) hcj
      have hx8 := hexS_len (x := xs[j])
      clear hs
      generalize hexS xs[j] = y at *
      generalize numU xs j = p at *
      have ad1 := binV_str_add (x := [44]) (y := y) (by simp; omega)
      have ad2 := binV_str_add (x := p) (y := 44 :: y) (by simp; omega)
      repeat' (first | (simp (disch := first | omega | assumption | (simp only [List.length_set]; omega) | (simp [*] <;> fail) | assumption) [-Bool.decide_and, -Bool.decide_or, -Bool.not_and, -Bool.not_or, toNat_pred, toNat_succ, wrap64, wr_new, wr_new0, ok_if, ok_ifn, iadV_sl, makeV_int, decT, decF, over_at, *, fl]) | (with_reducible refine Gd_split (fun hc => ?_) (fun hc => ?_) <;> (have hc2 := hc; try simp at hc2)) | (with_reducible refine Br_split (fun hc => ?_) (fun hc => ?_) <;> (have hc2 := hc; try simp at hc2)) | (with_reducible refine GdT_split (fun hc => ?_) (fun hc => ?_) <;> (have hc2 := hc; try simp at hc2)) | (with_reducible refine WT_alt ?_ ?_) | omega)
      exact ⟨by omega, (show numU xs (j + 1) = _ from hS).symm⟩
    · have : j = xs.length := by omega
      subst this
      repeat' (first | (simp (disch := first | omega | assumption | (simp only [List.length_set]; omega) | (simp [*] <;> fail) | assumption) [-Bool.decide_and, -Bool.decide_or, -Bool.not_and, -Bool.not_or, toNat_pred, toNat_succ, wrap64, wr_new, wr_new0, ok_if, ok_ifn, iadV_sl, makeV_int, decT, decF, over_at, *]) | (with_reducible refine Gd_split (fun hc => ?_) (fun hc => ?_) <;> (have hc2 := hc; try simp at hc2)) | (with_reducible refine Br_split (fun hc => ?_) (fun hc => ?_) <;> (have hc2 := hc; try simp at hc2)) | (with_reducible refine GdT_split (fun hc => ?_) (fun hc => ?_) <;> (have hc2 := hc; try simp at hc2)) | (with_reducible refine WT_alt ?_ ?_) | omega)
set_option maxHeartbeats 1000000 in
end
end
end Go.E
