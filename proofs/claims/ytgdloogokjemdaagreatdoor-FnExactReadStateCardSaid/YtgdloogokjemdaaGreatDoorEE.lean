/- From the evaluator to a row: a law that the evaluator finds true is true of whatever is handed in. Plain lemmas; no condition. -/
import Derived.Test.YtgdloogokjemdaaGreatDoorED
import Derived.WalkKit
import Derived.ProofKit
import Derived.OpenShut
import Derived.Carry
set_option linter.unusedVariables false
set_option linter.unusedSimpArgs false
namespace Go.E
open Go Go.RowKit

/-- A table of functions. -/
def tab (l : List (Nat × LFn)) : FuncId → Option LFn := fun f => (l.find? fun p => p.1 == f).map (·.2)
def sysOf (l : List (Nat × LFn)) : Sys := ⟨tab l, fun _ _ _ _ => none⟩
theorem SysOK.of {P : Program} {pf : FuncId → Bool} {l : List (Nat × LFn)} {B : Nat} {w0 : World} (hl : ∀ p ∈ l, ∃ fn, P.funcs[p.1]? = some fn ∧ lFn P pf fn = some p.2) : SysOK P pf (sysOf l) B w0 := by
  refine ⟨fun f F hf => ?_, ⟨fun f args h lim v h' he => (by cases he), fun f args h lim v h' he => (by cases he)⟩⟩
  obtain ⟨p, h1, h2⟩ := Option.map_eq_some_iff.1 hf
  have h3 := List.find?_some h1
  have h4 := hl p (List.mem_of_find?_eq_some h1)
  simp at h3
  rw [h3] at h4
  rw [← h2]; exact h4

/-- A value of a shape. -/
def TyV (h : Hp) (a : Bool × Sh) (c : CV) : Prop := ∃ ls, c = mkV a.1 ls ∧ Ty h a.2 ls
def TyAll (h : Hp) : List (Bool × Sh) → List CV → Prop
  | [], cs => cs = []
  | a :: r, cs => ∃ c cs', cs = c :: cs' ∧ TyV h a c ∧ TyAll h r cs'
theorem TyV.kept {h h' : Hp} (k : Kept h h') {a : Bool × Sh} {c : CV} (t : TyV h a c) : TyV h' a c := by obtain ⟨ls, h1, h2⟩ := t; exact ⟨ls, h1, h2.kept k⟩
def shV (P : Program) (t : TypeId) : Option (Bool × Sh) :=
  match P.underlying t with
  | some (.struct _) => (shT P 30 t).map fun s => (true, s)
  | _ => (shT P 30 t).map fun s => (false, s)
def one : Sh → Bool
  | .emp => false
  | .cat .. => false
  | _ => true
theorem Ty.one {h : Hp} {sh : Sh} {ls : List Lf} (t : Ty h sh ls) (ho : Go.E.one sh = true) : ∃ l, ls = [l] := by
  cases sh <;> simp [Go.E.one] at ho
  · obtain ⟨b, rfl⟩ := t; exact ⟨_, rfl⟩
  · obtain ⟨b, rfl, _⟩ := t; exact ⟨_, rfl⟩
  · obtain ⟨b, rfl, _⟩ := t; exact ⟨_, rfl⟩
  · obtain ⟨b, rfl, _⟩ := t; exact ⟨_, rfl⟩
  · obtain ⟨b, _, rfl, _⟩ := t; exact ⟨_, rfl⟩

section
variable {H : Type} {enc : TypeId × Value → H} {P : Program} {W : World}
theorem open_value {base : Nat} {t : TypeId} {v : Value} {d : DataW H} {ps : List MemPlace} {a : Bool × Sh} (hsh : shV P t = some a) (hval : Value.okWide P W .any base t v) (hd : DataW.Trod enc P W 0 (fun _ => true) true t v d ps)
    (hw : ∀ m ∈ d.weights P t, m ≤ reachBytes) (ρ : Lo) (h : Hp) (hr : Rel W.heap.size W ρ h W) : ∃ ρ' h' c, Ext ρ ρ' ∧ Kept h h' ∧ Rel W.heap.size W ρ' h' W ∧ VR ρ' c v ∧ TyV h' a c := by
  obtain ⟨fuel, hf⟩ := hd
  unfold shV at hsh
  unfold Value.okWide at hval
  split at hsh
  · rename_i fs hu
    rw [hu] at hval
    obtain ⟨s, h1, rfl⟩ := Option.map_eq_some_iff.1 hsh
    obtain ⟨cs, rfl, _, _⟩ := hval
    obtain ⟨ρ1, h2, ls, a1, a2, a3, a4, a5⟩ := open_gen fuel 30 t _ (d, ps) s hf h1 hw ρ h hr
    exact ⟨ρ1, h2, .agg ls, a1, a2, a3, ⟨cs.toList, by simp, a4⟩, ls, rfl, a5⟩
  · rename_i hns
    obtain ⟨s, h1, rfl⟩ := Option.map_eq_some_iff.1 hsh
    obtain ⟨ρ1, h2, ls, a1, a2, a3, a4, a5⟩ := open_gen fuel 30 t _ (d, ps) s hf h1 hw ρ h hr
    have key : one s = true ∧ v.cells.toList = [v] := by
      unfold shT at h1
      have noagg : ∀ cs : Array Value, v = .agg cs → (∃ u, P.underlying t = some u ∧ (∀ fs, u ≠ .struct fs) ∧ (∀ n e, u ≠ .array n e)) → Cell.okWide P W .any base t v → (∀ ms, P.underlying t ≠ some (.interface ms)) → False := by
        intro cs hv hu hc hni
        subst hv
        obtain ⟨u, e, _, _⟩ := hu
        unfold Cell.okWide Cell.ok at hc
        rw [e] at hc
        cases u <;> simp at hc
      split at h1
      · rename_i hu
        injection h1 with h1; subst h1
        rw [hu] at hval
        refine ⟨rfl, ?_⟩
        cases v with
        | agg cs => exact (noagg cs rfl ⟨_, hu, by simp, by simp⟩ hval (by simp [hu])).elim
        | _ => rfl
      · rename_i hu
        injection h1 with h1; subst h1
        rw [hu] at hval
        refine ⟨rfl, ?_⟩
        cases v with
        | agg cs => exact (noagg cs rfl ⟨_, hu, by simp, by simp⟩ hval (by simp [hu])).elim
        | _ => rfl
      · rename_i hu
        injection h1 with h1; subst h1
        rw [hu] at hval
        refine ⟨rfl, ?_⟩
        cases v with
        | agg cs => exact (noagg cs rfl ⟨_, hu, by simp, by simp⟩ hval (by simp [hu])).elim
        | _ => rfl
      · rename_i hu
        injection h1 with h1; subst h1
        rw [hu] at hval
        refine ⟨rfl, ?_⟩
        cases v with
        | agg cs => exact (noagg cs rfl ⟨_, hu, by simp, by simp⟩ hval (by simp [hu])).elim
        | _ => rfl
      · rename_i e hu
        rw [hu] at hval
        split at h1
        · obtain ⟨q, _, rfl⟩ := Option.map_eq_some_iff.1 h1
          refine ⟨rfl, ?_⟩
          cases v with
          | agg cs => exact (noagg cs rfl ⟨_, hu, by simp, by simp⟩ hval (by simp [hu])).elim
          | _ => rfl
        · cases h1
      · rename_i fs hu; exact (hns fs hu).elim
      · cases h1
    obtain ⟨l, rfl⟩ := a5.one key.1
    rw [key.2] at a4
    obtain ⟨v', vs', e, k1, k2⟩ := a4
    injection e with e1 e2; subst e1
    exact ⟨ρ1, h2, .lf l, a1, a2, a3, k1, [l], rfl, a5⟩
theorem open_all {base : Nat} : ∀ {ts : List TypeId} {vs : List Value} {ds : List (DataW H)} {ps : List MemPlace} {shs : List (Bool × Sh)}, ts.mapM (shV P) = some shs → (∀ (j : Nat) t v, ts[j]? = some t → vs[j]? = some v → Value.okWide P W .any base t v) →
    DataW.TrodAll enc P W 0 (fun _ => true) true ts vs ds ps → (∀ m ∈ DataW.weightsEach P ts ds, m ≤ reachBytes) → ∀ ρ h, Rel W.heap.size W ρ h W → ∃ ρ' h' cs, Ext ρ ρ' ∧ Kept h h' ∧ Rel W.heap.size W ρ' h' W ∧ VRs ρ' cs vs ∧ TyAll h' shs cs
  | [], vs, ds, ps, shs, hs, _, hd, _, ρ, h, hr => by
    obtain ⟨rfl, _, _⟩ := ChangeShapes.trodAll_nil hd
    injection hs with hs; subst hs
    exact ⟨ρ, h, [], Ext.refl ρ, Kept.refl h, hr, rfl, rfl⟩
  | t :: ts, vs, ds, ps, shs, hs, hv, hd, hw, ρ, h, hr => by
    obtain ⟨v, vs', d, ds', p, q, rfl, rfl, rfl, h1, h2⟩ := ChangeShapes.trodAll_cons hd
    simp only [List.mapM_cons] at hs
    obtain ⟨a, q1, q2⟩ := Option.bind_eq_some_iff.1 hs
    obtain ⟨r, q3, q4⟩ := Option.bind_eq_some_iff.1 q2
    injection q4 with q4; subst q4
    simp only [DataW.weightsEach, List.mem_append] at hw
    obtain ⟨ρ1, g1, c, a1, a2, a3, a4, a5⟩ := open_value q1 (hv 0 t v rfl rfl) h1 (fun m hm => hw m (.inl hm)) ρ h hr
    obtain ⟨ρ2, g2, cs, b1, b2, b3, b4, b5⟩ := open_all q3 (fun j t v h3 h4 => hv (j + 1) t v (by simpa using h3) (by simpa using h4)) h2 (fun m hm => hw m (.inr hm)) ρ1 g1 a3
    exact ⟨ρ2, g2, c :: cs, a1.trans b1, a2.trans b2, b3, ⟨v, vs', rfl, a4.ext b1, b4⟩, c, cs, rfl, a5.kept b2, b5⟩
theorem Rel.empty : Rel W.heap.size W [] [] W := ⟨rfl, Below.refl _ _, Nat.le_refl _, fun id ob l h => by simp at h, fun i j oi oj li lj h => by simp at h⟩
/-- A law that the evaluator finds true of all values of its types. -/
def LawHolds (S : Sys) (f : FuncId) (shs : List (Bool × Sh)) : Prop := ∀ h cs, TyAll h shs cs → Holds S (.call f cs h h.length fun v _ => v = .lf (.bool true))
theorem law_end {pf : FuncId → Bool} {S : Sys} (hS : SysOK P pf S W.heap.size W) {f : FuncId} {ts : List TypeId} {shs : List (Bool × Sh)} (hs : ts.mapM (shV P) = some shs) (hlaw : LawHolds S f shs) {base : Nat} {vs : List Value} {ds : List (DataW H)} {ps : List MemPlace}
    (hv : ∀ (j : Nat) t v, ts[j]? = some t → vs[j]? = some v → Value.okWide P W .any base t v) (hd : DataW.TrodAll enc P W 0 (fun _ => true) true ts vs ds ps) (hw : (DataW.weightsEach P ts ds).all (· ≤ reachBytes) = true) :
    Calls P f vs.toArray W fun e W' => e = .returned (.bool true) ∧ Below W.heap.size W W' := by
  obtain ⟨ρ, h, cs, a1, a2, a3, a4, a5⟩ := open_all hs hv hd (fun m hm => by simpa using List.all_eq_true.1 hw m hm) [] [] Rel.empty
  have he : MC P W.heap.size W f cs h h.length fun v _ => v = .lf (.bool true) := (hlaw h cs a5).sound hS
  refine (he.2 ρ vs W a4 a3).mono fun e W' hh => ?_
  obtain ⟨v, v', ρ', h', rfl, k1, k2, k3, _, rfl⟩ := hh
  have : v' = .bool true := k2
  subst this
  exact ⟨rfl, k3.below⟩
theorem Below.trodAll (hl : laidOutB P = true) : ∀ {ts : List TypeId} {vs : List Value} {ds : List (DataW H)} {ps : List MemPlace} {W' : World}, ts.all (fun t => P.readableRec t && decide (t < P.types.size)) = true →
    DataW.TrodAll enc P W 0 (fun _ => true) true ts vs ds ps → Below W.heap.size W W' → DataW.TrodAll enc P W' 0 (fun b => decide (b < W.heap.size)) true ts vs ds ps
  | [], vs, ds, ps, W', _, hd, _ => by
    obtain ⟨rfl, rfl, rfl⟩ := ChangeShapes.trodAll_nil hd
    exact ChangeShapes.trodAll_mk0
  | t :: ts, vs, ds, ps, W', hr, hd, hb => by
    obtain ⟨v, vs', d, ds', p, q, rfl, rfl, rfl, h1, h2⟩ := ChangeShapes.trodAll_cons hd
    simp only [List.all_cons, Bool.and_eq_true, decide_eq_true_eq] at hr
    have lt : ∀ x ∈ p, x.block < W.heap.size := by obtain ⟨m, hm⟩ := h1; exact DataW.trod_lt m _ _ _ hm
    exact ⟨p, q, RowKit.Below.trod hl hr.1.1 hr.1.2 h1 hb lt, Below.trodAll hl hr.2 h2 hb, rfl⟩
end
theorem rows_map {α : Type} {f : α → List Lf} {Q : α → Prop} : ∀ {rows : List (List Lf)}, (∀ r ∈ rows, ∃ x, r = f x ∧ Q x) → ∃ xs : List α, rows = xs.map f ∧ ∀ x ∈ xs, Q x
  | [], _ => ⟨[], rfl, fun x hx => by simp at hx⟩
  | r :: rs, h => by
    obtain ⟨x, h1, h2⟩ := h r (by simp)
    obtain ⟨xs, h3, h4⟩ := rows_map (rows := rs) (fun r hr => h r (by simp [hr]))
    exact ⟨x :: xs, by simp [h1, h3], fun y hy => by
      rcases List.mem_cons.1 hy with rfl | hy
      · exact h2
      · exact h4 y hy⟩
theorem law_of {S : Sys} {f : FuncId} {F : LFn} {args : List CV} {h : Hp} (hF : S.fs f = some F) (hn : args.length = F.np) (hw : W S h.length F.code (fr0 args) h (Fin F.res fun v _ => v = .lf (.bool true))) : Holds S (.call f args h h.length fun v _ => v = .lf (.bool true)) := .fn hF hn (W_sound hw)
end Go.E
