/- Texts of lists of numbers, and of chains, both sides. -/
import Derived.Test.YtgdloogokjemdaaGreatDoorMTx
import Derived.Test.YtgdloogokjemdaaGreatDoorMJn
import Derived.Test.YtgdloogokjemdaaGreatDoorMCh
import Derived.Test.YtgdloogokjemdaaGreatDoorMP
set_option linter.unusedVariables false
set_option linter.unusedSimpArgs false
namespace Go.E
open Go
def L33 : LFn := ⟨1, (.seq (.reg [⟨(.some 2), (.mv (.c (.lf (.str ⟨#[]⟩)))), none⟩])
 (.seq (.seq (.reg [⟨(.some 5), (.mv (.t 0)), none⟩, ⟨(.some 6), (.len (.t 5)), none⟩, ⟨(.some 7), (.bin .eql (.t 6) (.c (.lf (.int .i64 0)))), none⟩])
 (.cond (.t 7) (.seq (.reg [⟨(.some 2), (.mv (.c (.lf (.str ⟨#[110, 111, 110, 101]⟩)))), none⟩])
 .ret) .skip))
 (.seq (.reg [⟨(.some 8), (.mv (.t 0)), none⟩, ⟨(.some 9), (.iaddr 1 (.t 8) (.c (.lf (.int .i64 0)))), none⟩, ⟨(.some 10), (.load false 1 (.t 9)), none⟩, ⟨(.some 11), (.call true 52 [(.t 10)]), none⟩, ⟨(.some 3), (.mv (.t 11)), none⟩])
 (.seq (.seq (.reg [⟨(.some 4), (.mv (.c (.lf (.int .i64 1)))), none⟩])
 (.block 0 (.loop (.seq (.seq (.reg [⟨(.some 12), (.mv (.t 4)), none⟩, ⟨(.some 13), (.mv (.t 0)), none⟩, ⟨(.some 14), (.len (.t 13)), none⟩, ⟨(.some 15), (.bin .lss (.t 12) (.t 14)), none⟩])
 (.cond (.t 15) .skip (.exit 0)))
 (.seq (.block 1 (.reg [⟨(.some 18), (.mv (.t 3)), none⟩, ⟨(.some 19), (.mv (.t 0)), none⟩, ⟨(.some 20), (.mv (.t 4)), none⟩, ⟨(.some 21), (.iaddr 1 (.t 19) (.t 20)), none⟩, ⟨(.some 22), (.load false 1 (.t 21)), none⟩, ⟨(.some 23), (.call true 52 [(.t 22)]), none⟩, ⟨(.some 24), (.bin .add (.c (.lf (.str ⟨#[44]⟩))) (.t 23)), none⟩, ⟨(.some 25), (.bin .add (.t 18) (.t 24)), none⟩, ⟨(.some 3), (.mv (.t 25)), none⟩]))
 (.reg [⟨(.some 16), (.mv (.t 4)), none⟩, ⟨(.some 17), (.bin .add (.t 16) (.c (.lf (.int .i64 1)))), none⟩, ⟨(.some 4), (.mv (.t 17)), none⟩]))))))
 (.seq (.reg [⟨(.some 26), (.mv (.t 3)), none⟩, ⟨(.some 2), (.mv (.t 26)), none⟩])
 .ret))))), [(.tmp 2)]⟩
def L42 : LFn := ⟨1, (.seq (.reg [⟨(.some 2), (.mv (.c (.lf (.str ⟨#[]⟩)))), none⟩, ⟨(.some 3), (.mv (.c (.lf (.bool false)))), none⟩])
 (.seq (.seq (.reg [⟨(.some 7), (.mv (.t 0)), none⟩, ⟨(.some 8), (.call true 63 [(.t 7)]), none⟩, ⟨(.some 9), (.una .not (.t 8)), none⟩])
 (.cond (.t 9) (.seq (.reg [⟨(.some 2), (.mv (.c (.lf (.str ⟨#[]⟩)))), none⟩, ⟨(.some 3), (.mv (.c (.lf (.bool false)))), none⟩])
 .ret) .skip))
 (.seq (.reg [⟨(.some 4), (.mv (.c (.lf .nils))), none⟩])
 (.seq (.seq (.reg [⟨(.some 10), (.mv (.t 0)), none⟩, ⟨(.some 11), (.len (.t 10)), none⟩, ⟨(.some 12), (.mv (.c (.lf (.int .i64 0)))), none⟩])
 (.block 0 (.loop (.seq (.reg [⟨(.some 13), (.bin .lss (.t 12) (.t 11)), none⟩])
 (.seq (.cond (.t 13) .skip (.exit 0))
 (.seq (.block 1 (.seq (.reg [⟨(.some 14), (.iaddr 1 (.t 10) (.t 12)), none⟩, ⟨(.some 15), (.load false 1 (.t 14)), none⟩, ⟨(.some 6), (.mv (.t 15)), none⟩])
 (.reg [⟨(.some 16), (.mv (.t 4)), none⟩, ⟨(.some 17), (.mv (.t 6)), none⟩, ⟨(.some 18), (.call true 61 [(.t 17)]), none⟩, ⟨(.some 19), (.lit 9 1 1 [(.str ⟨#[]⟩)] [(0, (1, (.t 18)))]), none⟩, ⟨(.some 20), (.app 9 1 16 (.t 16) (.t 19)), none⟩, ⟨(.some 4), (.mv (.t 20)), none⟩])))
 (.reg [⟨(.some 21), (.bin .add (.t 12) (.c (.lf (.int .i64 1)))), none⟩, ⟨(.some 12), (.mv (.t 21)), none⟩])))))))
 (.seq (.reg [⟨(.some 22), (.mv (.t 4)), none⟩, ⟨(.some 23), (.call true 64 [(.t 22)]), none⟩, ⟨(.some 2), (.mv (.t 23)), none⟩, ⟨(.some 3), (.mv (.c (.lf (.bool true)))), none⟩])
 .ret))))), [(.tmp 2), (.tmp 3)]⟩
def L64 : LFn := ⟨1, (.seq (.reg [⟨(.some 2), (.mv (.c (.lf (.str ⟨#[]⟩)))), none⟩])
 (.seq (.seq (.reg [⟨(.some 3), (.mv (.t 0)), none⟩, ⟨(.some 4), (.len (.t 3)), none⟩, ⟨(.some 5), (.bin .eql (.t 4) (.c (.lf (.int .i64 0)))), none⟩])
 (.cond (.t 5) (.seq (.reg [⟨(.some 2), (.mv (.c (.lf (.str ⟨#[110, 111, 110, 101]⟩)))), none⟩])
 .ret) .skip))
 (.seq (.reg [⟨(.some 6), (.mv (.t 0)), none⟩, ⟨(.some 7), (.call true 65 [(.t 6), (.c (.lf (.str ⟨#[44]⟩)))]), none⟩, ⟨(.some 2), (.mv (.t 7)), none⟩])
 .ret))), [(.tmp 2)]⟩
def L44 : LFn := ⟨1, (.seq (.reg [⟨(.some 2), (.mv (.c (.lf (.str ⟨#[]⟩)))), none⟩])
 (.seq (.seq (.reg [⟨(.some 3), (.mv (.t 0)), none⟩, ⟨(.some 4), (.len (.t 3)), none⟩, ⟨(.some 5), (.bin .eql (.t 4) (.c (.lf (.int .i64 0)))), none⟩])
 (.cond (.t 5) (.seq (.reg [⟨(.some 2), (.mv (.c (.lf (.str ⟨#[110, 111, 110, 101]⟩)))), none⟩])
 .ret) .skip))
 (.seq (.reg [⟨(.some 6), (.mv (.t 0)), none⟩, ⟨(.some 7), (.call true 65 [(.t 6), (.c (.lf (.str ⟨#[59]⟩)))]), none⟩, ⟨(.some 2), (.mv (.t 7)), none⟩])
 .ret))), [(.tmp 2)]⟩
def L46 : LFn := ⟨1, (.seq (.reg [⟨(.some 2), (.mv (.c (.lf (.str ⟨#[]⟩)))), none⟩])
 (.seq (.reg [⟨(.some 3), (.mv (.t 0)), none⟩, ⟨(.some 4), (.call true 66 [(.t 3), (.c (.lf (.int .i64 10)))]), none⟩, ⟨(.some 2), (.mv (.t 4)), none⟩])
 .ret)), [(.tmp 2)]⟩
class HasTy (S : Sys) : Prop extends HasTx S, HasP S where
  f33 : S.fs 33 = some L33
  f42 : S.fs 42 = some L42
  f64 : S.fs 64 = some L64
  f44 : S.fs 44 = some L44
  f46 : S.fs 46 = some L46
class HasJo (S : Sys) : Prop where
  none_ : (S.fs 65, S.fs 66) = (none, none)
  xt_ : S.xt = joinX
/-- The same, where more than joinX is told. -/
class HasJq (S : Sys) : Prop where
  none_ : (S.fs 65, S.fs 66) = (none, none)
  xq : ∀ f args h lim r, joinX f args h lim = some r → S.xt f args h lim = some r
instance (S : Sys) [HasJo S] : HasJq S := ⟨HasJo.none_, fun f args h lim r hr => by rw [HasJo.xt_]; exact hr⟩
def st (s : List UInt8) : List Lf := [.str ⟨s.toArray⟩]
theorem strsL_st : ∀ {ss : List (List UInt8)}, strsL ((ss.map st).flatten) = some (ss.map fun s => ⟨s.toArray⟩)
  | [] => rfl
  | s :: ss => by
    have := strsL_st (ss := ss)
    simp only [List.map_cons, List.flatten_cons, st, List.cons_append, List.nil_append, strsL] at this ⊢
    rw [this]; rfl
theorem joinB_st {ss : List (List UInt8)} {sep : List UInt8} : joinB (ss.map fun s => ⟨s.toArray⟩) ⟨sep.toArray⟩ = Lib.join ss sep := by
  unfold joinB
  rw [List.map_map]
  have : ((fun x : ByteArray => x.data.toList) ∘ fun s : List UInt8 => (⟨s.toArray⟩ : ByteArray)) = id := by
    funext s; simp
  rw [this, List.map_id]
theorem join_snoc {l : List (List UInt8)} {x sep : List UInt8} : Lib.join (l ++ [x]) sep = if l = [] then x else Lib.join l sep ++ sep ++ x := by
  cases l with
  | nil => simp [Lib.join_one]
  | cons y r =>
    rw [if_neg (by simp), List.cons_append, Lib.join_cons, Lib.join_cons]
    unfold Lib.joinTail
    simp [List.append_assoc]
theorem join_le {m : Nat} {sep : List UInt8} : ∀ {ss : List (List UInt8)}, (∀ x ∈ ss, x.length ≤ m) → (Lib.join ss sep).length ≤ ss.length * (m + sep.length)
  | [], _ => by simp [Lib.join_nil]
  | x :: r, h => by
    rw [Lib.join_cons, List.length_append, List.length_cons]
    have hx := h x (by simp)
    have hr : (Lib.joinTail sep r).length ≤ r.length * (m + sep.length) := by
      have hr : ∀ y ∈ r, y.length ≤ m := fun y hy => h y (by simp [hy])
      clear h hx
      induction r with
      | nil => simp [Lib.joinTail]
      | cons y r ih =>
        have h1 := hr y (by simp)
        have h2 := ih fun z hz => hr z (by simp [hz])
        unfold Lib.joinTail at h2 ⊢
        simp only [List.map_cons, List.flatten_cons, List.length_append, List.length_cons] at h2 ⊢
        rw [Nat.add_mul]; omega
    rw [Nat.add_mul]; omega
def none4 : List UInt8 := [110, 111, 110, 101]
def numT (xs : List Nat) : List UInt8 := if xs = [] then none4 else Lib.join (xs.map hexS) [44]
theorem numT_le {xs : List Nat} : (numT xs).length ≤ xs.length * 9 + 4 := by
  unfold numT
  split
  · simp [none4]
  · have := join_le (m := 8) (sep := [44]) (ss := xs.map hexS) (fun x hx => by obtain ⟨y, _, rfl⟩ := List.mem_map.1 hx; simp)
    simp at this; omega
def numU (xs : List Nat) (i : Nat) : List UInt8 := Lib.join ((xs.take i).map hexS) [44]
theorem numU_succ {xs : List Nat} {i : Nat} (hi : i < xs.length) (h0 : 0 < i) : numU xs (i + 1) = numU xs i ++ (44 :: hexS xs[i]) := by
  unfold numU
  rw [List.take_succ_eq_append_getElem hi, List.map_append, List.map_cons, List.map_nil, join_snoc, if_neg (by
    intro q
    have := congrArg List.length q
    rw [List.length_map, List.length_take, List.length_nil] at this; omega), List.append_assoc]
  rfl
theorem numU_le {xs : List Nat} {i : Nat} : (numU xs i).length ≤ xs.length * 9 := by
  unfold numU
  have := join_le (m := 8) (sep := [44]) (ss := (xs.take i).map hexS) (fun x hx => by obtain ⟨y, _, rfl⟩ := List.mem_map.1 hx; simp)
  simp only [List.length_map, List.length_take, List.length_cons, List.length_nil] at this
  have h2 : min i xs.length ≤ xs.length := Nat.min_le_right _ _
  have h3 := Nat.mul_le_mul_right 9 h2
  omega
theorem CallT_xt {S : Sys} {f : FuncId} {args : List CV} {h : Hp} {lim : Nat} {K : CV → Hp → Prop} {v : CV} (hF : S.fs f = none) (hx : S.xt f args h h.length = some (v, h)) (hp : v.plain = true) : CallT S true f args h lim K = K v h := by
  have hh : Holds S (.call f args h h.length fun u _ => u = v) := .xt hF hx rfl
  refine propext ⟨fun hk => ?_, fun hk => ⟨v, hh, hp, hk⟩⟩
  obtain ⟨v', h2, _, hk⟩ := hk
  obtain ⟨u, h', rfl, rfl⟩ := hh.both _ h2 ⟨rfl, rfl, rfl, rfl⟩
  exact hk
section
variable {S : Sys} {lim : Nat} {h : Hp} {K : CV → Hp → Prop} {l : Lf}
theorem c_Join [HasJq S] {ss : List (List UInt8)} {sep : List UInt8} (hs : srcCells 1 h (.lf l) = some (ss.length, (ss.map st).flatten)) (h0 : ss ≠ []) (h1 : ss.length ≤ 1000000) (h2 : (Lib.join ss sep).length ≤ 140737488355328) :
    CallT S true 65 [.lf l, .lf (.str ⟨sep.toArray⟩)] h lim K = K (.lf (.str ⟨(Lib.join ss sep).toArray⟩)) h := by
  refine CallT_xt (congrArg Prod.fst (HasJq.none_ (S := S))) ?_ rfl
  refine HasJq.xq _ _ _ _ _ ?_
  unfold joinX
  rw [if_pos rfl]
  simp only [hs, strsL_st, joinB_st]
  rw [if_pos ⟨by simpa using h0, by simp, by simpa using h1, h2⟩]
theorem c_FormatInt [HasJq S] {n : Nat} (hn : n < 9223372036854775808) : CallT S true 66 [.lf (.int .i64 n), .lf (.int .i64 10)] h lim K = K (.lf (.str ⟨(Lib.decDigits n).toArray⟩)) h := by
  refine CallT_xt (congrArg Prod.snd (HasJq.none_ (S := S))) ?_ rfl
  refine HasJq.xq _ _ _ _ _ ?_
  unfold joinX
  rw [if_neg (by decide), if_pos rfl]
  simp only []
  have e : Lib.itoa (n : Int) = Lib.decDigits n := by unfold Lib.itoa; rw [if_neg (by omega)]; rfl
  rw [if_pos ⟨by omega, by omega, trivial⟩, e]
section
variable [HasTy S] {xs : List Nat}
theorem c_l01NText (hA : Arr h l 1 (xs.map fl)) (hc : ∀ x ∈ xs, CF x) (hn : xs.length ≤ 256) : CallT S true 33 [.lf l] h lim K = K (.lf (.str ⟨(numT xs).toArray⟩)) h := by
  by_cases h0 : xs.length = 0
  · have h1 : xs = [] := List.length_eq_zero_iff.1 h0
    have h2 : (xs.length : Int) = 0 := by omega
    have h3 : numT xs = none4 := by unfold numT; rw [if_pos h1]
    rw [h3]
    have hl := hA.len
    clear h1 h3
    refine CallT_pure (F := L33) (HasTy.f33) rfl (by first | rfl | (split <;> rfl) | simp) ?_; unfold L33; dsimp only []
    repeat' (first | (simp (disch := first | omega | assumption | (simp only [List.length_set]; omega) | (simp [*] <;> fail) | assumption) [-Bool.decide_and, -Bool.decide_or, -Bool.not_and, -Bool.not_or, toNat_pred, toNat_succ, wrap64, wr_new, wr_new0, ok_if, ok_ifn, iadV_sl, makeV_int, decT, decF, over_at, *]) | (with_reducible refine Gd_split (fun hc => ?_) (fun hc => ?_) <;> (have hc2 := hc; try simp at hc2)) | (with_reducible refine Br_split (fun hc => ?_) (fun hc => ?_) <;> (have hc2 := hc; try simp at hc2)) | (with_reducible refine GdT_split (fun hc => ?_) (fun hc => ?_) <;> (have hc2 := hc; try simp at hc2)) | (with_reducible refine WT_alt ?_ ?_) | omega)
    rfl
  · have h2 : ¬ (xs.length : Int) = 0 := by omega
    have hp : 0 < xs.length := by omega
    have hc0 := hc _ (List.getElem_mem hp)
    have a0 := hA.at0 (k := .i64) hp
    have d0 := hA.rd1 hp
    have u1 : numU xs 1 = hexS xs[0] := by
      unfold numU
      rw [List.take_succ_eq_append_getElem hp]
      simp [Lib.join_one]
    have uN : numU xs xs.length = numT xs := by
      unfold numU numT
      rw [List.take_length, if_neg (by intro q; rw [q] at h0; exact h0 rfl)]
    have hl := hA.len
    simp only [Nat.add_zero] at d0
    generalize hx0 : xs[0] = x0 at *
    refine CallT_pure (F := L33) (HasTy.f33) rfl (by first | rfl | (split <;> rfl) | simp) ?_; unfold L33; dsimp only []
    repeat' (first | (simp (disch := first | omega | assumption | (simp only [List.length_set]; omega) | (simp [*] <;> fail) | assumption) [-Bool.decide_and, -Bool.decide_or, -Bool.not_and, -Bool.not_or, toNat_pred, toNat_succ, wrap64, wr_new, wr_new0, ok_if, ok_ifn, iadV_sl, makeV_int, decT, decF, over_at, *, c_l01Hex hc0, fl]) | (with_reducible refine Gd_split (fun hc => ?_) (fun hc => ?_) <;> (have hc2 := hc; try simp at hc2)) | (with_reducible refine Br_split (fun hc => ?_) (fun hc => ?_) <;> (have hc2 := hc; try simp at hc2)) | (with_reducible refine GdT_split (fun hc => ?_) (fun hc => ?_) <;> (have hc2 := hc; try simp at hc2)) | (with_reducible refine WT_alt ?_ ?_) | omega)
    refine WL_forM 67104792 (by decide +kernel) (xs.length) (fun i b g => i + 1 ≤ xs.length ∧ b 4 = .lf (.int .i64 ((i : Int) + 1)) ∧ b 3 = .lf (.str ⟨(numU xs (i + 1)).toArray⟩) ∧ h = g) (fun i _ _ hi => by have := hi.1; omega) ⟨by omega, by simp, by simp [u1], rfl⟩ ?_
    rintro i b g ⟨hi, e4, e3, rfl⟩
    obtain ⟨j, hj⟩ : ∃ j, i + 1 = j := ⟨_, rfl⟩
    have hj2 : (i : Int) + 1 = (j : Int) := by omega
    rw [hj2] at e4
    rw [hj] at e3 hi
    by_cases hlt : j < xs.length
    · have hcj := hc _ (List.getElem_mem hlt)
      have aj := hA.at_ (k := .i64) hlt
      have dj := hA.rd1 hlt
      have hs := numU_succ hlt (by omega)
      have hle := numU_le (xs := xs) (i := j)
      have hS : Hid (numU xs (j + 1) = numU xs j ++ (44 :: hexS xs[j])) := hs
      have hh := fun g lim K => c_l01Hex (S := S) (h := g) (lim := lim) (K := K) hcj
      have hx8 := hexS_len (x := xs[j])
      clear hs
      generalize hexS xs[j] = y at *
      generalize numU xs j = p at *
      have ad1 := binV_str_add (x := [44]) (y := y) (by simp; omega)
      have ad2 := binV_str_add (x := p) (y := 44 :: y) (by simp; omega)
      repeat' (first | (simp (disch := first | omega | assumption | (simp only [List.length_set]; omega) | (simp [*] <;> fail) | assumption) [-Bool.decide_and, -Bool.decide_or, -Bool.not_and, -Bool.not_or, toNat_pred, toNat_succ, wrap64, wr_new, wr_new0, ok_if, ok_ifn, iadV_sl, makeV_int, decT, decF, over_at, *, fl]) | (with_reducible refine Gd_split (fun hc => ?_) (fun hc => ?_) <;> (have hc2 := hc; try simp at hc2)) | (with_reducible refine Br_split (fun hc => ?_) (fun hc => ?_) <;> (have hc2 := hc; try simp at hc2)) | (with_reducible refine GdT_split (fun hc => ?_) (fun hc => ?_) <;> (have hc2 := hc; try simp at hc2)) | (with_reducible refine WT_alt ?_ ?_) | omega)
      exact ⟨by omega, (show numU xs (j + 1) = _ from hS).symm⟩
    · have : j = xs.length := by omega
      subst this
      repeat' (first | (simp (disch := first | omega | assumption | (simp only [List.length_set]; omega) | (simp [*] <;> fail) | assumption) [-Bool.decide_and, -Bool.decide_or, -Bool.not_and, -Bool.not_or, toNat_pred, toNat_succ, wrap64, wr_new, wr_new0, ok_if, ok_ifn, iadV_sl, makeV_int, decT, decF, over_at, *]) | (with_reducible refine Gd_split (fun hc => ?_) (fun hc => ?_) <;> (have hc2 := hc; try simp at hc2)) | (with_reducible refine Br_split (fun hc => ?_) (fun hc => ?_) <;> (have hc2 := hc; try simp at hc2)) | (with_reducible refine GdT_split (fun hc => ?_) (fun hc => ?_) <;> (have hc2 := hc; try simp at hc2)) | (with_reducible refine WT_alt ?_ ?_) | omega)
theorem c_joined [HasJq S] {ss : List (List UInt8)} (hs : srcCells 1 h (.lf l) = some (ss.length, (ss.map st).flatten)) (hl : lenV (.lf l) = some (.lf (.int .i64 (ss.length : Int)))) (h1 : ss.length ≤ 1000000) (h2 : (Lib.join ss [44]).length ≤ 140737488355328) :
    CallT S true 64 [.lf l] h lim K = K (.lf (.str ⟨(if ss = [] then none4 else Lib.join ss [44]).toArray⟩)) h := by
  by_cases h0 : ss = []
  · rw [if_pos h0]
    have h3 : (ss.length : Int) = 0 := by rw [h0]; rfl
    clear h0 hs
    refine CallT_pure (F := L64) (HasTy.f64) rfl (by first | rfl | (split <;> rfl) | simp) ?_; unfold L64; dsimp only []
    repeat' (first | (simp (disch := first | omega | assumption | (simp only [List.length_set]; omega) | (simp [*] <;> fail) | assumption) [-Bool.decide_and, -Bool.decide_or, -Bool.not_and, -Bool.not_or, toNat_pred, toNat_succ, wrap64, wr_new, wr_new0, ok_if, ok_ifn, iadV_sl, makeV_int, decT, decF, over_at, *]) | (with_reducible refine Gd_split (fun hc => ?_) (fun hc => ?_) <;> (have hc2 := hc; try simp at hc2)) | (with_reducible refine Br_split (fun hc => ?_) (fun hc => ?_) <;> (have hc2 := hc; try simp at hc2)) | (with_reducible refine GdT_split (fun hc => ?_) (fun hc => ?_) <;> (have hc2 := hc; try simp at hc2)) | (with_reducible refine WT_alt ?_ ?_) | omega)
    rfl
  · rw [if_neg h0]
    have h3 : ¬ (ss.length : Int) = 0 := by
      intro q
      exact h0 (List.length_eq_zero_iff.1 (by omega))
    have hj := fun lim K => c_Join (S := S) (lim := lim) (K := K) hs h0 h1 h2
    clear hs
    refine CallT_pure (F := L64) (HasTy.f64) rfl (by first | rfl | (split <;> rfl) | simp) ?_; unfold L64; dsimp only []
    repeat' (first | (simp (disch := first | omega | assumption | (simp only [List.length_set]; omega) | (simp [*] <;> fail) | assumption) [-Bool.decide_and, -Bool.decide_or, -Bool.not_and, -Bool.not_or, toNat_pred, toNat_succ, wrap64, wr_new, wr_new0, ok_if, ok_ifn, iadV_sl, makeV_int, decT, decF, over_at, *]) | (with_reducible refine Gd_split (fun hc => ?_) (fun hc => ?_) <;> (have hc2 := hc; try simp at hc2)) | (with_reducible refine Br_split (fun hc => ?_) (fun hc => ?_) <;> (have hc2 := hc; try simp at hc2)) | (with_reducible refine GdT_split (fun hc => ?_) (fun hc => ?_) <;> (have hc2 := hc; try simp at hc2)) | (with_reducible refine WT_alt ?_ ?_) | omega)
theorem c_listed [HasJq S] {ss : List (List UInt8)} (hs : srcCells 1 h (.lf l) = some (ss.length, (ss.map st).flatten)) (hl : lenV (.lf l) = some (.lf (.int .i64 (ss.length : Int)))) (h1 : ss.length ≤ 1000000) (h2 : (Lib.join ss [59]).length ≤ 140737488355328) :
    CallT S true 44 [.lf l] h lim K = K (.lf (.str ⟨(if ss = [] then none4 else Lib.join ss [59]).toArray⟩)) h := by
  by_cases h0 : ss = []
  · rw [if_pos h0]
    have h3 : (ss.length : Int) = 0 := by rw [h0]; rfl
    clear h0 hs
    refine CallT_pure (F := L44) (HasTy.f44) rfl (by first | rfl | (split <;> rfl) | simp) ?_; unfold L44; dsimp only []
    repeat' (first | (simp (disch := first | omega | assumption | (simp only [List.length_set]; omega) | (simp [*] <;> fail) | assumption) [-Bool.decide_and, -Bool.decide_or, -Bool.not_and, -Bool.not_or, toNat_pred, toNat_succ, wrap64, wr_new, wr_new0, ok_if, ok_ifn, iadV_sl, makeV_int, decT, decF, over_at, *]) | (with_reducible refine Gd_split (fun hc => ?_) (fun hc => ?_) <;> (have hc2 := hc; try simp at hc2)) | (with_reducible refine Br_split (fun hc => ?_) (fun hc => ?_) <;> (have hc2 := hc; try simp at hc2)) | (with_reducible refine GdT_split (fun hc => ?_) (fun hc => ?_) <;> (have hc2 := hc; try simp at hc2)) | (with_reducible refine WT_alt ?_ ?_) | omega)
    rfl
  · rw [if_neg h0]
    have h3 : ¬ (ss.length : Int) = 0 := by
      intro q
      exact h0 (List.length_eq_zero_iff.1 (by omega))
    have hj := fun lim K => c_Join (S := S) (lim := lim) (K := K) hs h0 h1 h2
    clear hs
    refine CallT_pure (F := L44) (HasTy.f44) rfl (by first | rfl | (split <;> rfl) | simp) ?_; unfold L44; dsimp only []
    repeat' (first | (simp (disch := first | omega | assumption | (simp only [List.length_set]; omega) | (simp [*] <;> fail) | assumption) [-Bool.decide_and, -Bool.decide_or, -Bool.not_and, -Bool.not_or, toNat_pred, toNat_succ, wrap64, wr_new, wr_new0, ok_if, ok_ifn, iadV_sl, makeV_int, decT, decF, over_at, *]) | (with_reducible refine Gd_split (fun hc => ?_) (fun hc => ?_) <;> (have hc2 := hc; try simp at hc2)) | (with_reducible refine Br_split (fun hc => ?_) (fun hc => ?_) <;> (have hc2 := hc; try simp at hc2)) | (with_reducible refine GdT_split (fun hc => ?_) (fun hc => ?_) <;> (have hc2 := hc; try simp at hc2)) | (with_reducible refine WT_alt ?_ ?_) | omega)
theorem c_Decimal [HasJq S] {n : Nat} (hn : n < 9223372036854775808) : CallT S true 46 [.lf (.int .i64 n)] h lim K = K (.lf (.str ⟨(Lib.decDigits n).toArray⟩)) h := by
  have hf := fun h lim K => c_FormatInt (S := S) (h := h) (lim := lim) (K := K) hn
  refine CallT_pure (F := L46) (HasTy.f46) rfl (by first | rfl | (split <;> rfl) | simp) ?_; unfold L46; dsimp only []
  repeat' (first | (simp (disch := first | omega | assumption | (simp only [List.length_set]; omega) | (simp [*] <;> fail) | assumption) [-Bool.decide_and, -Bool.decide_or, -Bool.not_and, -Bool.not_or, toNat_pred, toNat_succ, wrap64, wr_new, wr_new0, ok_if, ok_ifn, iadV_sl, makeV_int, decT, decF, over_at, *]) | (with_reducible refine Gd_split (fun hc => ?_) (fun hc => ?_) <;> (have hc2 := hc; try simp at hc2)) | (with_reducible refine Br_split (fun hc => ?_) (fun hc => ?_) <;> (have hc2 := hc; try simp at hc2)) | (with_reducible refine GdT_split (fun hc => ?_) (fun hc => ?_) <;> (have hc2 := hc; try simp at hc2)) | (with_reducible refine WT_alt ?_ ?_) | omega)
set_option maxHeartbeats 1000000 in
theorem c_NumbersText [HasJq S] (hA : Arr h l 1 (xs.map fl)) (hc : ∀ x ∈ xs, CF x) (hn : xs.length ≤ 256) : CallT S true 42 [.lf l] h lim K = K (.tup [.lf (.str ⟨(numT xs).toArray⟩), .lf (.bool true)]) h := by
  have hsm := fun lim K => c_areSamples (S := S) (lim := lim) (K := K) hA
  have h256 : decide ((xs.length : Int) ≤ 256) = true := decide_eq_true (by omega)
  rw [h256] at hsm
  have hl := hA.len
  refine CallT_pure (F := L42) (HasTy.f42) rfl (by first | rfl | (split <;> rfl) | simp) ?_; unfold L42; dsimp only []
  repeat' (first | (simp (disch := first | omega | assumption | (simp only [List.length_set]; omega) | (simp [*] <;> fail) | assumption) [-Bool.decide_and, -Bool.decide_or, -Bool.not_and, -Bool.not_or, toNat_pred, toNat_succ, wrap64, wr_new, wr_new0, ok_if, ok_ifn, iadV_sl, makeV_int, decT, decF, over_at, *]) | (with_reducible refine Gd_split (fun hc => ?_) (fun hc => ?_) <;> (have hc2 := hc; try simp at hc2)) | (with_reducible refine Br_split (fun hc => ?_) (fun hc => ?_) <;> (have hc2 := hc; try simp at hc2)) | (with_reducible refine GdT_split (fun hc => ?_) (fun hc => ?_) <;> (have hc2 := hc; try simp at hc2)) | (with_reducible refine WT_alt ?_ ?_) | omega)
  refine WL_forM 4190288 (by decide +kernel) (xs.length) (fun i b g => i ≤ xs.length ∧ b 12 = .lf (.int .i64 i) ∧ ∃ o, b 4 = .lf o ∧ New h g o 9 1 (((xs.take i).map hexS).map st)) (fun _ _ _ hi => hi.1) ⟨by omega, by simp, .nils, by simp, by simpa using New.nil (Kept.refl h)⟩ ?_
  clear hsm
  rintro i b g ⟨hi, e12, o, e4, hN⟩
  by_cases hlt : i < xs.length
  · have hci := hc _ (List.getElem_mem hlt)
    have hAg := hA.kept hN.kept
    have ai := hAg.at_ (k := .i64) hlt
    have di := hAg.rd1 hlt
    have hh := fun g lim K => c_hexOf (S := S) (h := g) (lim := lim) (K := K) hci
    have hnx : (xs.take (i + 1)).map hexS = (xs.take i).map hexS ++ [hexS xs[i]] := by rw [List.take_succ_eq_append_getElem hlt, List.map_append]; rfl
    have hS : Hid ((xs.take (i + 1)).map hexS = (xs.take i).map hexS ++ [hexS xs[i]]) := hnx
    clear hnx
    have hlen : ((xs.take i).map hexS).length ≤ 256 := by simp; omega
    generalize hexS xs[i] = y at *
    generalize (xs.take i).map hexS = p at *
    repeat' (first | (simp (disch := first | omega | assumption | (simp only [List.length_set]; omega) | (simp [*] <;> fail) | assumption) [-Bool.decide_and, -Bool.decide_or, -Bool.not_and, -Bool.not_or, toNat_pred, toNat_succ, wrap64, wr_new, wr_new0, ok_if, ok_ifn, iadV_sl, makeV_int, decT, decF, over_at, *, fl, leavesAll, fillL]) | (with_reducible refine Gd_split (fun hc => ?_) (fun hc => ?_) <;> (have hc2 := hc; try simp at hc2)) | (with_reducible refine Br_split (fun hc => ?_) (fun hc => ?_) <;> (have hc2 := hc; try simp at hc2)) | (with_reducible refine GdT_split (fun hc => ?_) (fun hc => ?_) <;> (have hc2 := hc; try simp at hc2)) | (with_reducible refine WT_alt ?_ ?_) | omega)
    refine oc_push (r := st y) (bytes := 16) hN (Nat.le_refl _) (by simp; omega) (fun o2 g2 hN2 hB => ?_) (by decide) rfl (by decide)
    have hN3 : New h g2 o2 9 1 (((xs.take (i + 1)).map hexS).map st) := by
      rw [show (xs.take (i + 1)).map hexS = _ from hS, List.map_append]; exact hN2
    clear hN hN2 hB hS
    repeat' (first | (simp (disch := first | omega | assumption | (simp only [List.length_set]; omega) | (simp [*] <;> fail) | assumption) [-Bool.decide_and, -Bool.decide_or, -Bool.not_and, -Bool.not_or, toNat_pred, toNat_succ, wrap64, wr_new, wr_new0, ok_if, ok_ifn, iadV_sl, makeV_int, decT, decF, over_at, *]) | (with_reducible refine Gd_split (fun hc => ?_) (fun hc => ?_) <;> (have hc2 := hc; try simp at hc2)) | (with_reducible refine Br_split (fun hc => ?_) (fun hc => ?_) <;> (have hc2 := hc; try simp at hc2)) | (with_reducible refine GdT_split (fun hc => ?_) (fun hc => ?_) <;> (have hc2 := hc; try simp at hc2)) | (with_reducible refine WT_alt ?_ ?_) | omega)
    exact ⟨by omega, by simpa using hN3⟩
  · have : i = xs.length := by omega
    subst this
    rw [List.take_length] at hN
    have hsr := hN.src
    have hlw := hN.arr.len
    rw [List.length_map] at hsr
    have hjn := fun lim K => c_joined (S := S) (h := g) (lim := lim) (K := K) hsr hlw (by simp; omega) (by
      have := join_le (m := 8) (sep := [44]) (ss := xs.map hexS) (fun x hx => by obtain ⟨y, _, rfl⟩ := List.mem_map.1 hx; simp)
      simp at this; omega)
    have hnT : (if xs.map hexS = [] then none4 else Lib.join (xs.map hexS) [44]) = numT xs := by
      unfold numT
      by_cases q : xs = []
      · rw [if_pos q, if_pos (by rw [q]; rfl)]
      · rw [if_neg q, if_neg (by simpa using q)]
    rw [hnT] at hjn
    clear hsr hlw hnT hN
    repeat' (first | (simp (disch := first | omega | assumption | (simp only [List.length_set]; omega) | (simp [*] <;> fail) | assumption) [-Bool.decide_and, -Bool.decide_or, -Bool.not_and, -Bool.not_or, toNat_pred, toNat_succ, wrap64, wr_new, wr_new0, ok_if, ok_ifn, iadV_sl, makeV_int, decT, decF, over_at, *]) | (with_reducible refine Gd_split (fun hc => ?_) (fun hc => ?_) <;> (have hc2 := hc; try simp at hc2)) | (with_reducible refine Br_split (fun hc => ?_) (fun hc => ?_) <;> (have hc2 := hc; try simp at hc2)) | (with_reducible refine GdT_split (fun hc => ?_) (fun hc => ?_) <;> (have hc2 := hc; try simp at hc2)) | (with_reducible refine WT_alt ?_ ?_) | omega)
end
end
end Go.E
