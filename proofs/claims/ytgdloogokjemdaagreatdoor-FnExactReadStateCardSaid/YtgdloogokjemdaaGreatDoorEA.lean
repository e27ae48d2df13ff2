/- How the calculus is run: one equation for each kind of step. Plain lemmas; no condition. -/
import Derived.Test.YtgdloogokjemdaaGreatDoorE9
set_option linter.unusedVariables false
set_option linter.unusedSimpArgs false
namespace Go.E
open Go

/-- Frame a, but b where the mask says so. -/
def over (m : Nat) (a b : Fr) : Fr := fun t => if (m >>> t) % 2 = 1 then b t else a t
theorem over_at {m : Nat} {a b : Fr} {t : Nat} : over m a b t = if (m >>> t) % 2 = 1 then b t else a t := (rfl)

section
variable {S : Sys} {lim : Nat} {a a' : Fr} {h h' : Hp}
theorem decT {p : Prop} [Decidable p] (hp : p) : decide p = true := decide_eq_true hp
theorem decF {p : Prop} [Decidable p] (hp : ¬ p) : decide p = false := decide_eq_false hp
theorem ok_if {α : Type} {c : Prop} [Decidable c] {v : Option α} (hc : c) : (if c then v else none) = v := if_pos hc
theorem ok_ifn {α : Type} {c : Prop} [Decidable c] {v : Option α} (hc : ¬ c) : (if c then none else v) = v := if_neg hc
@[simp] theorem oc_some {v : CV} {K : CV → Hp → Prop} : oc (some (v, h)) K = K v h := (rfl)
@[simp] theorem ok_some {α : Type} {v : α} {K : α → Prop} : ok (some v) K = K v := (rfl)
theorem oc_of {o : Option (CV × Hp)} {v : CV} {K : CV → Hp → Prop} (ho : o = some (v, h)) (hk : K v h) : oc o K := by rw [ho]; exact hk
@[simp] theorem WO_nil {Q : Fr → Hp → Prop} : WO S lim [] a h Q = Q a h := (rfl)
@[simp] theorem WO_cons {o : LOper} {r : List LOper} {Q : Fr → Hp → Prop} : WO S lim (o :: r) a h Q = Gd S lim (wantedL a o.g) o r a h Q := (rfl)
@[simp] theorem Gd_true {o : LOper} {r : List LOper} {Q : Fr → Hp → Prop} : Gd S lim true o r a h Q = wO S lim o.o a h (Kt S lim o.d r a Q) := (rfl)
@[simp] theorem Gd_false {o : LOper} {r : List LOper} {Q : Fr → Hp → Prop} : Gd S lim false o r a h Q = WO S lim r (upd a o.d un) h Q := (rfl)
theorem Gd_split {b : Bool} {o : LOper} {r : List LOper} {Q : Fr → Hp → Prop} (h1 : b = true → Gd S lim true o r a h Q) (h2 : b = false → Gd S lim false o r a h Q) : Gd S lim b o r a h Q := by cases b; exact h2 rfl; exact h1 rfl
@[simp] theorem Kt_app {d : Option Nat} {r : List LOper} {Q : Fr → Hp → Prop} {v : CV} : Kt S lim d r a Q v h = WO S lim r (upd a d v) h Q := (rfl)
@[simp] theorem W_skip {Q : Ex → Fr → Hp → Prop} : W S lim .skip a h Q = Q .norm a h := (rfl)
@[simp] theorem W_reg {ops : List LOper} {Q : Ex → Fr → Hp → Prop} : W S lim (.reg ops) a h Q = WO S lim ops a h (Q .norm) := (rfl)
@[simp] theorem W_any {t : OT} {Q : Ex → Fr → Hp → Prop} : W S lim (.any t) a h Q = WT S lim t a h (Q .norm) := (rfl)
@[simp] theorem WT_nil {Q : Fr → Hp → Prop} : WT S lim .nil a h Q = Q a h := (rfl)
@[simp] theorem WT_op {o : LOper} {r : OT} {Q : Fr → Hp → Prop} : WT S lim (.op o r) a h Q = GdT S lim (wantedL a o.g) o r a h Q := (rfl)
theorem WT_alt {s t : OT} {Q : Fr → Hp → Prop} (h1 : WT S lim s a h Q) (h2 : WT S lim t a h Q) : WT S lim (.alt s t) a h Q := ⟨h1, h2⟩
@[simp] theorem GdT_true {o : LOper} {r : OT} {Q : Fr → Hp → Prop} : GdT S lim true o r a h Q = wO S lim o.o a h (KtT S lim o.d r a Q) := (rfl)
@[simp] theorem GdT_false {o : LOper} {r : OT} {Q : Fr → Hp → Prop} : GdT S lim false o r a h Q = WT S lim r (upd a o.d un) h Q := (rfl)
theorem GdT_split {b : Bool} {o : LOper} {r : OT} {Q : Fr → Hp → Prop} (h1 : b = true → GdT S lim true o r a h Q) (h2 : b = false → GdT S lim false o r a h Q) : GdT S lim b o r a h Q := by cases b; exact h2 rfl; exact h1 rfl
@[simp] theorem KtT_app {d : Option Nat} {r : OT} {Q : Fr → Hp → Prop} {v : CV} : KtT S lim d r a Q v h = WT S lim r (upd a d v) h Q := (rfl)
@[simp] theorem W_seq {c d : LC} {Q : Ex → Fr → Hp → Prop} : W S lim (.seq c d) a h Q = W S lim c a h (Sq S lim d Q) := (rfl)
@[simp] theorem W_cond {x : X} {c d : LC} {Q : Ex → Fr → Hp → Prop} : W S lim (.cond x c d) a h Q = Br S lim (evX a x) c d a h Q := (rfl)
@[simp] theorem Br_true {c d : LC} {Q : Ex → Fr → Hp → Prop} : Br S lim (.lf (.bool true)) c d a h Q = W S lim c a h Q := (rfl)
@[simp] theorem Br_false {c d : LC} {Q : Ex → Fr → Hp → Prop} : Br S lim (.lf (.bool false)) c d a h Q = W S lim d a h Q := (rfl)
theorem Br_split {b : Bool} {c d : LC} {Q : Ex → Fr → Hp → Prop} (h1 : b = true → W S lim c a h Q) (h2 : b = false → W S lim d a h Q) : Br S lim (.lf (.bool b)) c d a h Q := by cases b; exact h2 rfl; exact h1 rfl
@[simp] theorem W_block {id : Nat} {c : LC} {Q : Ex → Fr → Hp → Prop} : W S lim (.block id c) a h Q = W S lim c a h (Upto id Q) := (rfl)
@[simp] theorem W_loop {c : LC} {Q : Ex → Fr → Hp → Prop} : W S lim (.loop c) a h Q = WL S lim c a h Q := (rfl)
@[simp] theorem W_exit {id : Nat} {Q : Ex → Fr → Hp → Prop} : W S lim (.exit id) a h Q = Q (.exit id) a h := (rfl)
@[simp] theorem W_ret {Q : Ex → Fr → Hp → Prop} : W S lim .ret a h Q = Q .ret a h := (rfl)
@[simp] theorem Sq_norm {d : LC} {Q : Ex → Fr → Hp → Prop} : Sq S lim d Q .norm a h = W S lim d a h Q := (rfl)
@[simp] theorem Sq_ret {d : LC} {Q : Ex → Fr → Hp → Prop} : Sq S lim d Q .ret a h = Q .ret a h := (rfl)
@[simp] theorem Sq_exit {d : LC} {Q : Ex → Fr → Hp → Prop} {id : Nat} : Sq S lim d Q (.exit id) a h = Q (.exit id) a h := (rfl)
@[simp] theorem Upto_norm {id : Nat} {Q : Ex → Fr → Hp → Prop} : Upto id Q .norm a h = Q .norm a h := (rfl)
@[simp] theorem Upto_ret {id : Nat} {Q : Ex → Fr → Hp → Prop} : Upto id Q .ret a h = Q .ret a h := (rfl)
@[simp] theorem Upto_same {id : Nat} {Q : Ex → Fr → Hp → Prop} : Upto id Q (.exit id) a h = Q .norm a h := by simp [Upto]
@[simp] theorem Upto_other {id j : Nat} {Q : Ex → Fr → Hp → Prop} (hj : j ≠ id) : Upto id Q (.exit j) a h = Q (.exit j) a h := by simp [Upto, hj]
section
variable {α : Type} {I : α → Fr → Hp → Prop} {m : α → Nat} {x : α} {Q : Ex → Fr → Hp → Prop}
@[simp] theorem Lp_norm : Lp I m x Q .norm a h = ∃ x', m x' < m x ∧ I x' a h := (rfl)
@[simp] theorem Lp_ret : Lp I m x Q .ret a h = Q .ret a h := (rfl)
@[simp] theorem Lp_exit {id : Nat} : Lp I m x Q (.exit id) a h = Q (.exit id) a h := (rfl)
@[simp] theorem Lc_norm {I : Nat → Fr → Hp → Prop} {i : Nat} : Lc I i Q .norm a h = I (i + 1) a h := (rfl)
@[simp] theorem Lc_ret {I : Nat → Fr → Hp → Prop} {i : Nat} : Lc I i Q .ret a h = Q .ret a h := (rfl)
@[simp] theorem Lc_exit {I : Nat → Fr → Hp → Prop} {i id : Nat} : Lc I i Q (.exit id) a h = Q (.exit id) a h := (rfl)
end
@[simp] theorem Fin_ret {rs : List Rs} {K : CV → Hp → Prop} : Fin rs K .ret a h = ok (resV a h rs) (fun v => K v h) := (rfl)
@[simp] theorem Fin_norm {rs : List Rs} {K : CV → Hp → Prop} : Fin rs K .norm a h = ok (resV a h rs) (fun v => K v h) := (rfl)
@[simp] theorem resV_tmp {t : Nat} : resV a h [.tmp t] = some (a t) := (rfl)
@[simp] theorem resV_cell {t : Nat} {ag : Bool} {n : Nat} : resV a h [.cell t ag n] = resOne a h (.cell t ag n) := (rfl)
@[simp] theorem resV_two {x y : Rs} {r : List Rs} : resV a h (x :: y :: r) = (resAll a h (x :: y :: r)).map .tup := (rfl)
@[simp] theorem resAll_nil : resAll a h [] = some [] := (rfl)
@[simp] theorem resAll_cons {r : Rs} {rs : List Rs} : resAll a h (r :: rs) = (resOne a h r).bind fun v => match v with
    | .tup _ => none
    | v => (resAll a h rs).map fun q => v.tv :: q := (rfl)
@[simp] theorem resOne_tmp {t : Nat} : resOne a h (.tmp t) = some (a t) := (rfl)
@[simp] theorem upd_some {d t : Nat} {v : CV} : upd a (some d) v t = if t = d then v else a t := (rfl)
@[simp] theorem upd_none {v : CV} : upd a none v = a := (rfl)
@[simp] theorem evX_t {n : Nat} : evX a (.t n) = a n := (rfl)
@[simp] theorem evX_c {v : CV} : evX a (.c v) = v := (rfl)
@[simp] theorem evO2_none : evO2 a none = none := (rfl)
@[simp] theorem evO2_some {x : X} : evO2 a (some x) = some (evX a x) := (rfl)
@[simp] theorem wantedL_none : wantedL a none = true := (rfl)
@[simp] theorem wantedL_some {t : Nat} {b : Bool} : wantedL a (some (t, b)) = match a t with | .lf (.bool c) => c == b | _ => false := (rfl)
@[simp] theorem fr0_zero {v : CV} {vs : List CV} : fr0 (v :: vs) 0 = v := (rfl)
@[simp] theorem fr0_one {v u : CV} {vs : List CV} : fr0 (v :: u :: vs) 1 = u := (rfl)
@[simp] theorem fr0_two {v u x : CV} {vs : List CV} : fr0 (v :: u :: x :: vs) 2 = x := (rfl)
@[simp] theorem fr0_three {v u x y : CV} {vs : List CV} : fr0 (v :: u :: x :: y :: vs) 3 = y := (rfl)
@[simp] theorem fr0_four {v u x y z : CV} {vs : List CV} : fr0 (v :: u :: x :: y :: z :: vs) 4 = z := (rfl)
@[simp] theorem fr0_five {v u x y z p : CV} {vs : List CV} : fr0 (v :: u :: x :: y :: z :: p :: vs) 5 = p := (rfl)
@[simp] theorem fr0_six {v u x y z p q : CV} {vs : List CV} : fr0 (v :: u :: x :: y :: z :: p :: q :: vs) 6 = q := (rfl)
@[simp] theorem fr0_seven {v u x y z p q r : CV} {vs : List CV} : fr0 (v :: u :: x :: y :: z :: p :: q :: r :: vs) 7 = r := (rfl)

/-! ### Operations -/
variable {K : CV → Hp → Prop}
@[simp] theorem wO_call {p : Bool} {f : FuncId} {xs : List X} : wO S lim (.call p f xs) a h K = CallT S p f (xs.map (evX a)) h lim K := (rfl)
@[simp] theorem wO_mv {x : X} : wO S lim (.mv x) a h K = K (evX a x) h := (rfl)
def pickV (c x y : CV) : Option CV := match c with | .lf (.bool b) => some (if b then x else y) | _ => none
@[simp] theorem pickV_true {x y : CV} : pickV (.lf (.bool true)) x y = some x := (rfl)
@[simp] theorem pickV_false {x y : CV} : pickV (.lf (.bool false)) x y = some y := (rfl)
@[simp] theorem pickV_or {b x : Bool} : pickV (.lf (.bool b)) (.lf (.bool true)) (.lf (.bool x)) = some (.lf (.bool (b || x))) := by cases b <;> rfl
@[simp] theorem pickV_and {b x : Bool} : pickV (.lf (.bool b)) (.lf (.bool x)) (.lf (.bool false)) = some (.lf (.bool (b && x))) := by cases b <;> rfl
@[simp] theorem wO_pick {c x y : X} : wO S lim (.pick c x y) a h K = oc ((pickV (evX a c) (evX a x) (evX a y)).map fun v => (v, h)) K := by
  unfold wO; simp only [evO]
  generalize evX a c = u; rcases u with l | l | l <;> try rfl
  cases l <;> rfl
@[simp] theorem wO_box {ty : Nat} {x : X} : wO S lim (.box ty x) a h K = oc ((evX a x).leaves.map fun ls => (.lf (.ptr h.length 0), h ++ [⟨ls, .own ty 1⟩])) K := (rfl)
@[simp] theorem wO_alloc {ty : Nat} {z : List Lf} : wO S lim (.alloc ty z) a h K = K (.lf (.ptr h.length 0)) (h ++ [⟨z, .own ty 1⟩]) := (rfl)
@[simp] theorem wO_build {z : List Lf} {ps : List (Nat × Nat × X)} : wO S lim (.build z ps) a h K = oc ((leavesAll a ps).bind fun ps => (fillL z ps).map fun cs => (.agg cs, h)) K := (rfl)
@[simp] theorem wO_lit {ty sz len : Nat} {z : List Lf} {ps : List (Nat × Nat × X)} : wO S lim (.lit ty sz len z ps) a h K = oc ((leavesAll a ps).bind fun ps => (fillL z ps).map fun cs => (.lf (.sl h.length 0 len sz), h ++ [⟨cs, .own ty sz⟩])) K := (rfl)
def makeV (ty sz bytes : Nat) (z : List Lf) (h : Hp) (x y : CV) : Option (CV × Hp) := match x, y with
    | .lf (.int .i64 n), .lf (.int .i64 m) =>
      if n = m ∧ 0 ≤ n ∧ n * bytes ≤ 140737488355328 then some (.lf (.sl h.length 0 n.toNat sz), h ++ [⟨(List.replicate n.toNat z).flatten, .own ty sz⟩]) else none
    | _, _ => none
@[simp] theorem wO_make {ty sz bytes : Nat} {z : List Lf} {x y : X} : wO S lim (.make ty sz bytes z x y) a h K = oc (makeV ty sz bytes z h (evX a x) (evX a y)) K := (rfl)
theorem makeV_int {ty sz bytes : Nat} {z : List Lf} {n : Nat} (hb : n * bytes ≤ 140737488355328) : makeV ty sz bytes z h (.lf (.int .i64 n)) (.lf (.int .i64 n)) = some (.lf (.sl h.length 0 n sz), h ++ [⟨(List.replicate n z).flatten, .own ty sz⟩]) := by
  have hb' : (n : Int) * (bytes : Int) ≤ 140737488355328 := by
    have := Int.ofNat_le.2 hb
    rw [Int.natCast_mul] at this
    exact this
  unfold makeV
  simp only []
  rw [if_pos ⟨trivial, by omega, hb'⟩]; rfl
def ldV (ag : Bool) (n : Nat) (h : Hp) (v : CV) : Option CV := match v with | .lf (.ptr id off) => (rdCells h id off n).map (mkV ag) | _ => none
@[simp] theorem ldV_ptr {ag : Bool} {n id off : Nat} : ldV ag n h (.lf (.ptr id off)) = (rdCells h id off n).map (mkV ag) := (rfl)
@[simp] theorem resOne_cell {t n : Nat} {ag : Bool} : resOne a h (.cell t ag n) = ldV ag n h (a t) := by
  simp only [resOne]
  generalize a t = u; rcases u with l | l | l <;> rfl
@[simp] theorem wO_load {ag : Bool} {n : Nat} {x : X} : wO S lim (.load ag n x) a h K = oc ((ldV ag n h (evX a x)).map fun v => (v, h)) K := by
  unfold wO; simp only [evO]
  generalize evX a x = u; rcases u with l | l | l <;> try rfl
  cases l <;> try rfl
  simp only [ldV]; cases rdCells h _ _ n <;> rfl
def stV (lim n : Nat) (h : Hp) (x : CV) (ls : List Lf) : Option Hp := match x with | .lf (.ptr id off) => if ls.length = n then wrCells lim h id off ls else none | _ => none
@[simp] theorem stV_ptr {n id off : Nat} {ls : List Lf} : stV lim n h (.lf (.ptr id off)) ls = if ls.length = n then wrCells lim h id off ls else none := (rfl)
@[simp] theorem wO_store {n : Nat} {x y : X} : wO S lim (.store n x y) a h K = oc ((evX a y).leaves.bind fun ls => (stV lim n h (evX a x) ls).map fun h' => (un, h')) K := by
  unfold wO; simp only [evO]
  generalize (evX a y).leaves = ls
  generalize evX a x = u
  rcases u with l | l | l <;> cases ls <;> (try cases l) <;> (try rfl)
  simp only [Option.bind_some, stV_ptr]
  split <;> rfl
def nilV (v : CV) : Option CV := match v with | .lf (.ptr id off) => some (.lf (.ptr id off)) | _ => none
@[simp] theorem nilV_ptr {id off : Nat} : nilV (.lf (.ptr id off)) = some (.lf (.ptr id off)) := (rfl)
@[simp] theorem wO_nilck {x : X} : wO S lim (.nilck x) a h K = oc ((nilV (evX a x)).map fun v => (v, h)) K := by
  unfold wO; simp only [evO]
  generalize evX a x = u; rcases u with l | l | l <;> try rfl
  cases l <;> rfl
@[simp] theorem wO_bin {op : BinOp} {x y : X} : wO S lim (.bin op x y) a h K = oc ((binV op (evX a x) (evX a y)).map fun v => (v, h)) K := (rfl)
def beqV (ng : Bool) (x y : CV) : Option CV := match x, y with | .lf (.bool p), .lf (.bool q) => some (.lf (.bool (if ng then !(p == q) else p == q))) | _, _ => none
@[simp] theorem beqV_bool {ng p q : Bool} : beqV ng (.lf (.bool p)) (.lf (.bool q)) = some (.lf (.bool (if ng then !(p == q) else p == q))) := (rfl)
@[simp] theorem wO_beq {ng : Bool} {x y : X} : wO S lim (.beq ng x y) a h K = oc ((beqV ng (evX a x) (evX a y)).map fun v => (v, h)) K := by
  unfold wO; simp only [evO]
  generalize evX a x = u; generalize evX a y = z
  rcases u with l | l | l <;> try rfl
  cases l <;> try rfl
  rcases z with l | l | l <;> try rfl
  cases l <;> rfl
@[simp] theorem wO_una {op : UnOp} {x : X} : wO S lim (.una op x) a h K = oc ((unV op (evX a x)).map fun v => (v, h)) K := (rfl)
@[simp] theorem wO_toint {k : IntKind} {x : X} : wO S lim (.toint k x) a h K = oc ((tointV k (evX a x)).map fun v => (v, h)) K := (rfl)
@[simp] theorem wO_toflt {k : FloatKind} {x : X} : wO S lim (.toflt k x) a h K = oc ((tofltV k (evX a x)).map fun v => (v, h)) K := (rfl)
def fadV (off : Nat) (v : CV) : Option CV := match v with | .lf (.ptr id o) => some (.lf (.ptr id (o + off))) | _ => none
@[simp] theorem fadV_ptr {off id o : Nat} : fadV off (.lf (.ptr id o)) = some (.lf (.ptr id (o + off))) := (rfl)
@[simp] theorem wO_faddr {off : Nat} {x : X} : wO S lim (.faddr off x) a h K = oc ((fadV off (evX a x)).map fun v => (v, h)) K := by
  unfold wO; simp only [evO]
  generalize evX a x = u; rcases u with l | l | l <;> try rfl
  cases l <;> rfl
def fldV (ag : Bool) (off n : Nat) (v : CV) : Option CV := match v with | .agg ls => if off + n ≤ ls.length then some (mkV ag ((ls.drop off).take n)) else none | _ => none
@[simp] theorem fldV_agg {ag : Bool} {off n : Nat} {ls : List Lf} : fldV ag off n (.agg ls) = if off + n ≤ ls.length then some (mkV ag ((ls.drop off).take n)) else none := (rfl)
@[simp] theorem wO_field {ag : Bool} {off n : Nat} {x : X} : wO S lim (.field ag off n x) a h K = oc ((fldV ag off n (evX a x)).map fun v => (v, h)) K := by
  unfold wO; simp only [evO]
  generalize evX a x = u; rcases u with l | l | l <;> try rfl
  simp only [fldV_agg]; split <;> rfl
def extV (i : Nat) (v : CV) : Option CV := match v with | .tup ts => (ts[i]?).map TV.cv | _ => none
@[simp] theorem extV_tup {i : Nat} {ts : List TV} : extV i (.tup ts) = (ts[i]?).map TV.cv := (rfl)
@[simp] theorem wO_ext {x : X} {i : Nat} : wO S lim (.ext x i) a h K = oc ((extV i (evX a x)).map fun v => (v, h)) K := by
  unfold wO; simp only [evO]
  generalize evX a x = u; rcases u with l | l | l <;> try rfl
  simp only [extV_tup]; cases l[i]? <;> rfl
@[simp] theorem wO_app {ty sz bytes : Nat} {x y : X} : wO S lim (.app ty sz bytes x y) a h K = oc (appV lim ty sz bytes h (evX a x) (evX a y)) K := (rfl)
@[simp] theorem wO_xop {k : XK} {xs : List X} : wO S lim (.xop k xs) a h K = oc ((xopV k (xs.map (evX a))).map fun v => (v, h)) K := (rfl)
@[simp] theorem wO_mkf {f : FuncId} {xs : List X} : wO S lim (.mkf f xs) a h K = oc ((capsL (xs.map (evX a))).map fun cs => (.lf (.fn f cs), h)) K := (rfl)
def CvT (S : Sys) (x : CV) (xs : List CV) (h : Hp) (lim : Nat) (K : CV → Hp → Prop) : Prop := match x with | .lf (.fn f cs) => (∃ F, S.fs f = some F) ∧ CallT S false f (xs ++ ptrs cs) h lim K | _ => False
@[simp] theorem CvT_fn {f : FuncId} {cs : List (Nat × Nat)} {xs : List CV} : CvT S (.lf (.fn f cs)) xs h lim K = ((∃ F, S.fs f = some F) ∧ CallT S false f (xs ++ ptrs cs) h lim K) := (rfl)
@[simp] theorem wO_callv {x : X} {xs : List X} : wO S lim (.callv x xs) a h K = CvT S (evX a x) (xs.map (evX a)) h lim K := (rfl)
@[simp] theorem capsL_nil : capsL [] = some [] := (rfl)
@[simp] theorem capsL_cons {id off : Nat} {r : List CV} : capsL (.lf (.ptr id off) :: r) = (capsL r).map fun q => (id, off) :: q := (rfl)
@[simp] theorem ptrs_nil : ptrs [] = [] := (rfl)
@[simp] theorem ptrs_cons {id off : Nat} {r : List (Nat × Nat)} : ptrs ((id, off) :: r) = .lf (.ptr id off) :: ptrs r := (rfl)
@[simp] theorem wO_mnmx {mx : Bool} {xs : List X} : wO S lim (.mnmx mx xs) a h K = oc ((mnmxV mx (xs.map (evX a))).map fun v => (v, h)) K := (rfl)
/-- The length of a slice, whatever it is; where it begins. -/
def Lf.n : Lf → Nat | .sl _ _ n _ => n | _ => 0
def Lf.id : Lf → Nat | .sl id _ _ _ => id | _ => 0
def Lf.off : Lf → Nat | .sl _ off _ _ => off | _ => 0
def Lf.isS (sz : Nat) : Lf → Prop | .sl _ _ _ s => s = sz | .nils => True | _ => False
@[simp] theorem Lf.n_sl {id off n sz : Nat} : (Lf.sl id off n sz).n = n := (rfl)
@[simp] theorem Lf.id_sl {id off n sz : Nat} : (Lf.sl id off n sz).id = id := (rfl)
@[simp] theorem Lf.off_sl {id off n sz : Nat} : (Lf.sl id off n sz).off = off := (rfl)
@[simp] theorem Lf.isS_sl {id off n sz : Nat} : (Lf.sl id off n sz).isS sz := (rfl)
@[simp] theorem Lf.n_nil : Lf.nils.n = 0 := (rfl)
@[simp] theorem Lf.isS_nil {sz : Nat} : Lf.nils.isS sz := trivial
def lenV (v : CV) : Option CV := match v with | .lf .nils => some (.lf (.int .i64 0)) | .lf (.sl _ _ n _) => some (.lf (.int .i64 n)) | _ => none
@[simp] theorem wO_len {x : X} : wO S lim (.len x) a h K = oc ((lenV (evX a x)).map fun v => (v, h)) K := by
  unfold wO; simp only [evO]
  generalize evX a x = u; rcases u with l | l | l <;> try rfl
  cases l <;> rfl
theorem toNat_pred {i : Nat} : ((i : Int) - 1).toNat = i - 1 := by omega
theorem toNat_succ {i : Nat} : ((i : Int) + 1).toNat = i + 1 := by omega
theorem lenV_lf {l : Lf} {sz : Nat} (hl : l.isS sz) : lenV (.lf l) = some (.lf (.int .i64 l.n)) := by cases l <;> simp [Lf.isS] at hl <;> rfl
@[simp] theorem lenV_sl {id off n sz : Nat} : lenV (.lf (.sl id off n sz)) = some (.lf (.int .i64 n)) := (rfl)
@[simp] theorem lenV_nil : lenV (.lf .nils) = some (.lf (.int .i64 0)) := (rfl)
def iadV (sz : Nat) (x i : CV) : Option CV := match x, i with
    | .lf (.sl id off n sz'), .lf (.int _ j) => if 0 ≤ j ∧ j < n ∧ sz' = sz then some (.lf (.ptr id (off + j.toNat * sz))) else none
    | _, _ => none
@[simp] theorem wO_iaddr {sz : Nat} {x i : X} : wO S lim (.iaddr sz x i) a h K = oc ((iadV sz (evX a x) (evX a i)).map fun v => (v, h)) K := by
  unfold wO; simp only [evO]
  generalize evX a x = u; generalize evX a i = z
  rcases u with l | l | l <;> try rfl
  cases l <;> try rfl
  rcases z with l | l | l <;> try rfl
  cases l <;> try rfl
  simp only [iadV]; split <;> rfl
theorem iadV_sl {id off n sz : Nat} {k : IntKind} {j : Int} (h0 : 0 ≤ j) (hj : j < n) : iadV sz (.lf (.sl id off n sz)) (.lf (.int k j)) = some (.lf (.ptr id (off + j.toNat * sz))) := by
  simp only [iadV]
  rw [if_pos ⟨h0, hj, trivial⟩]
theorem iadV_lf {sz : Nat} {l : Lf} {k : IntKind} {j : Int} (hl : l.isS sz) (h0 : 0 ≤ j) (hj : j < l.n) : iadV sz (.lf l) (.lf (.int k j)) = some (.lf (.ptr l.id (l.off + j.toNat * sz))) := by
  cases l <;> simp [Lf.isS] at hl
  · simp [Lf.n] at hj; omega
  · subst hl
    simp only [Lf.n] at hj
    simp only [iadV]
    rw [if_pos ⟨h0, hj, trivial⟩]; rfl

/-! ### Numbers -/
section
variable {k : IntKind} {x y : Int}
@[simp] theorem binV_int_add : binV .add (.lf (.int k x)) (.lf (.int k y)) = some (.lf (.int k (k.wrap (x + y)))) := by simp [binV, isShift, ibin]
@[simp] theorem binV_int_sub : binV .sub (.lf (.int k x)) (.lf (.int k y)) = some (.lf (.int k (k.wrap (x - y)))) := by simp [binV, isShift, ibin]
@[simp] theorem binV_int_mul : binV .mul (.lf (.int k x)) (.lf (.int k y)) = some (.lf (.int k (k.wrap (x * y)))) := by simp [binV, isShift, ibin]
@[simp] theorem binV_int_quo : binV .quo (.lf (.int k x)) (.lf (.int k y)) = if y = 0 then none else some (.lf (.int k (k.wrap (x.tdiv y)))) := by simp [binV, isShift, ibin]
@[simp] theorem binV_int_rem : binV .rem (.lf (.int k x)) (.lf (.int k y)) = if y = 0 then none else some (.lf (.int k (x.tmod y))) := by simp [binV, isShift, ibin]
@[simp] theorem binV_int_eql : binV .eql (.lf (.int k x)) (.lf (.int k y)) = some (.lf (.bool (decide (x = y)))) := by simp [binV, isShift, ibin]; rfl
@[simp] theorem binV_int_neq : binV .neq (.lf (.int k x)) (.lf (.int k y)) = some (.lf (.bool (!decide (x = y)))) := by simp [binV, isShift, ibin]; rfl
@[simp] theorem binV_int_lss : binV .lss (.lf (.int k x)) (.lf (.int k y)) = some (.lf (.bool (decide (x < y)))) := by simp [binV, isShift, ibin]
@[simp] theorem binV_int_leq : binV .leq (.lf (.int k x)) (.lf (.int k y)) = some (.lf (.bool (decide (x ≤ y)))) := by simp [binV, isShift, ibin]
@[simp] theorem binV_int_gtr : binV .gtr (.lf (.int k x)) (.lf (.int k y)) = some (.lf (.bool (decide (y < x)))) := by simp [binV, isShift, ibin]
@[simp] theorem binV_int_geq : binV .geq (.lf (.int k x)) (.lf (.int k y)) = some (.lf (.bool (decide (y ≤ x)))) := by simp [binV, isShift, ibin]
end
section
variable {k : FloatKind} {x y : Nat}
theorem binV_flt {op : BinOp} : binV op (.lf (.flt k x)) (.lf (.flt k y)) = fop op k x y := by simp [binV]
@[simp] theorem binV_flt_add : binV .add (.lf (.flt k x)) (.lf (.flt k y)) = some (.lf (.flt k (fbin .add k x y))) := by simp [binV, fop, arith]
@[simp] theorem binV_flt_sub : binV .sub (.lf (.flt k x)) (.lf (.flt k y)) = some (.lf (.flt k (fbin .sub k x y))) := by simp [binV, fop, arith]
@[simp] theorem binV_flt_mul : binV .mul (.lf (.flt k x)) (.lf (.flt k y)) = some (.lf (.flt k (fbin .mul k x y))) := by simp [binV, fop, arith]
@[simp] theorem binV_flt_quo : binV .quo (.lf (.flt k x)) (.lf (.flt k y)) = some (.lf (.flt k (fbin .quo k x y))) := by simp [binV, fop, arith]
@[simp] theorem binV_flt_eql : binV .eql (.lf (.flt k x)) (.lf (.flt k y)) = some (.lf (.bool (fcmp .eql k x y))) := by simp [binV, fop, arith, cmp]
@[simp] theorem binV_flt_neq : binV .neq (.lf (.flt k x)) (.lf (.flt k y)) = some (.lf (.bool (fcmp .neq k x y))) := by simp [binV, fop, arith, cmp]
@[simp] theorem binV_flt_lss : binV .lss (.lf (.flt k x)) (.lf (.flt k y)) = some (.lf (.bool (fcmp .lss k x y))) := by simp [binV, fop, arith, cmp]
@[simp] theorem binV_flt_leq : binV .leq (.lf (.flt k x)) (.lf (.flt k y)) = some (.lf (.bool (fcmp .leq k x y))) := by simp [binV, fop, arith, cmp]
@[simp] theorem binV_flt_gtr : binV .gtr (.lf (.flt k x)) (.lf (.flt k y)) = some (.lf (.bool (fcmp .gtr k x y))) := by simp [binV, fop, arith, cmp]
@[simp] theorem binV_flt_geq : binV .geq (.lf (.flt k x)) (.lf (.flt k y)) = some (.lf (.bool (fcmp .geq k x y))) := by simp [binV, fop, arith, cmp]
@[simp] theorem unV_flt : unV .neg (.lf (.flt k x)) = some (.lf (.flt k (fneg k x))) := (rfl)
@[simp] theorem unV_not {b : Bool} : unV .not (.lf (.bool b)) = some (.lf (.bool (!b))) := (rfl)
@[simp] theorem unV_neg {k : IntKind} {n : Int} : unV .neg (.lf (.int k n)) = some (.lf (.int k (k.wrap (0 - n)))) := (rfl)
@[simp] theorem tointV_int {k s : IntKind} {n : Int} : tointV k (.lf (.int s n)) = some (.lf (.int k (k.wrap n))) := (rfl)
@[simp] theorem tointV_flt {k : IntKind} {s : FloatKind} {x : Nat} : tointV k (.lf (.flt s x)) = (ftoint s x k).map fun n => .lf (.int k n) := (rfl)
@[simp] theorem tofltV_int {s : IntKind} {n : Int} : tofltV k (.lf (.int s n)) = some (.lf (.flt k (fofint k n))) := (rfl)
@[simp] theorem tofltV_flt {s : FloatKind} : tofltV k (.lf (.flt s x)) = (fconv s k x).map fun y => .lf (.flt k y) := (rfl)
end
theorem wrap64 {x : Int} (h1 : -9223372036854775808 ≤ x) (h2 : x ≤ 9223372036854775807) : IntKind.i64.wrap x = x := by
  rw [IntKind.wrap_i64]; omega
@[simp] theorem leaves_lf {l : Lf} : (CV.lf l).leaves = some [l] := (rfl)
@[simp] theorem leaves_agg {ls : List Lf} : (CV.agg ls).leaves = some ls := (rfl)
@[simp] theorem mkV_agg {ls : List Lf} : mkV true ls = .agg ls := (rfl)
@[simp] theorem mkV_one {l : Lf} : mkV false [l] = .lf l := (rfl)
@[simp] theorem TV_cv_lf {l : Lf} : (TV.lf l).cv = .lf l := (rfl)
@[simp] theorem TV_cv_agg {l : List Lf} : (TV.agg l).cv = .agg l := (rfl)
@[simp] theorem CV_tv_lf {l : Lf} : (CV.lf l).tv = .lf l := (rfl)
@[simp] theorem CV_tv_agg {l : List Lf} : (CV.agg l).tv = .agg l := (rfl)

/-! ### Calls -/
theorem CallT_pure {f : FuncId} {F : LFn} {args : List CV} {v : CV} (hF : S.fs f = some F) (hn : args.length = F.np) (hp : v.plain = true) (hw : W S h.length F.code (fr0 args) h (Fin F.res fun u _ => u = v)) : CallT S true f args h lim K = K v h := by
  have hh : Holds S (.call f args h h.length fun u _ => u = v) := .fn hF hn (W_sound hw)
  refine propext ⟨fun hk => ?_, fun hk => ⟨v, hh, hp, hk⟩⟩
  obtain ⟨v', h2, _, hk⟩ := hk
  obtain ⟨u, h', rfl, rfl⟩ := hh.both _ h2 ⟨rfl, rfl, rfl, rfl⟩
  exact hk
theorem CallT_of_body {f : FuncId} {F : LFn} {args : List CV} (hF : S.fs f = some F) (hn : args.length = F.np) (hw : W S lim F.code (fr0 args) h (Fin F.res K)) : CallT S false f args h lim K := .fn hF hn (W_sound hw)
end
end Go.E
