/- Calls: if the evaluator says that a function returns v, the model's call returns it. -/
import Derived.Test.YtpjgmichaeiifaaE7
set_option linter.unusedVariables false
set_option linter.unusedSimpArgs false
namespace Go.E
open Go Go.RowKit

section
variable {P : Program} {B : Nat} {w0 w : World} {ρ : Lo} {h h' : Hp} {a : Fr} {pf : FuncId → Bool}
theorem loadVar_sound {t : TypeId} {ag : Bool} {n id off : Nat} {ls : List Lf} {l : Loc} (hag : aggT P t = some ag) (hsz : szT P t = some n) (h1 : ag = false → n = 1) (hr : Rel B w0 ρ h w) (hl : ρ[id]? = some l) (hc : rdCells h id off n = some ls) :
    ∃ u, (loadVar t (l.at_ off)).run P w = .ok u w ∧ VR ρ (mkV ag ls) u := by
  obtain ⟨vs, k1, k2, k3⟩ := hr.readAll hl hc
  cases ag
  · obtain rfl := h1 rfl
    match vs, k2 with
    | [u], _ =>
      obtain ⟨v2, vs2, q1, q2, q3⟩ : ∃ v2 vs2, ls = v2 :: vs2 ∧ LR ρ v2 u ∧ LRs ρ vs2 [] := by
        cases ls with
        | nil => simp [LRs] at k1
        | cons y ys => obtain ⟨v2, vs2, e1, e2, e3⟩ := k1; injection e1 with e1 e1'; subst e1; subst e1'; exact ⟨y, ys, rfl, e2, e3⟩
      have : vs2 = [] := by have := q3.length; simpa using this.symm
      subst this; subst q1
      have hcell := k3 0 u rfl
      refine ⟨u, ?_, q2⟩
      simp at hcell
      simp [loadVar, run_isAgg hag, hcell]
  · refine ⟨.agg vs.toArray, ?_, ⟨vs, rfl, k1⟩⟩
    have hcells := run_loadCells_list (P := P) w (l.at_ off) vs (fun j u hu => by rw [at_add]; exact k3 j u hu)
    rw [k2] at hcells
    simp [loadVar, run_isAgg hag, run_sizeOf' hsz, hcells]
def resRun (tmps : Array Value) : ResultVar → Sem Value := fun
  | .tmp t => pure (tmps.getD t undef)
  | .cell a t => do loadVar t (← asAddr (tmps.getD a undef))
theorem res_one {tmps : Array Value} (ha : AR ρ a tmps) (hr : Rel B w0 ρ h w) {r : ResultVar} {rs : List ResultVar} {q : List Rs} (hq : lRes P (r :: rs) = some q) :
    ∃ r' q', q = r' :: q' ∧ lRes P rs = some q' ∧ ∀ v, resOne a h r' = some v → ∃ u, (resRun tmps r).run P w = .ok u w ∧ VR ρ v u := by
  cases r with
  | tmp t =>
    unfold lRes at hq
    obtain ⟨q', h1, rfl⟩ := Option.map_eq_some_iff.1 hq
    refine ⟨_, _, rfl, h1, fun v hv => ?_⟩
    injection hv with hv; subst hv
    exact ⟨_, rfl, ha t⟩
  | cell t ty =>
    unfold lRes at hq
    obtain ⟨ag, h1, hq⟩ := Option.bind_eq_some_iff.1 hq
    obtain ⟨n, h2, hq⟩ := Option.bind_eq_some_iff.1 hq
    split at hq
    · rename_i hor
      obtain ⟨q', h3, rfl⟩ := Option.map_eq_some_iff.1 hq
      refine ⟨_, _, rfl, h3, fun v hv => ?_⟩
      unfold resOne at hv
      simp only at hv
      split at hv
      · rename_i id off e
        obtain ⟨ls, k1, rfl⟩ := Option.map_eq_some_iff.1 hv
        have hx := ha t
        rw [e] at hx
        obtain ⟨l, hl, e2⟩ := hx
        obtain ⟨u, r1, r2⟩ := loadVar_sound (P := P) h1 h2 (fun e => hor.resolve_left (by rw [e]; simp)) hr hl k1
        refine ⟨u, ?_, r2⟩
        simp only [resRun, e2, asAddr, Sem.run_bind, Sem.run_pure, Result.andThen_ok, r1]
      · cases hv
    · cases hq
theorem res_all {tmps : Array Value} (ha : AR ρ a tmps) (hr : Rel B w0 ρ h w) : ∀ {rs : List ResultVar} {q : List Rs} {ts : List TV}, lRes P rs = some q → resAll a h q = some ts → ∃ us, (rs.mapM (resRun tmps)).run P w = .ok us w ∧ TRs ρ ts us ∧ us.length = rs.length
  | [], q, ts, hq, ht => by
    injection hq with hq; subst hq
    injection ht with ht; subst ht
    exact ⟨[], by simp, rfl, rfl⟩
  | r :: rs, q, ts, hq, ht => by
    obtain ⟨r', q', rfl, h1, h2⟩ := res_one (P := P) ha hr hq
    unfold resAll at ht
    obtain ⟨v, k1, k2⟩ := Option.bind_eq_some_iff.1 ht
    obtain ⟨u, r1, r2⟩ := h2 v k1
    have hv : ∃ ts', resAll a h q' = some ts' ∧ ts = v.tv :: ts' ∧ TR ρ v.tv u := by
      cases v with
      | tup _ => cases k2
      | lf l => obtain ⟨ts', e1, e2⟩ := Option.map_eq_some_iff.1 k2; exact ⟨ts', e1, e2.symm, r2⟩
      | agg ls => obtain ⟨ts', e1, e2⟩ := Option.map_eq_some_iff.1 k2; exact ⟨ts', e1, e2.symm, r2⟩
    obtain ⟨ts', s1, rfl, s3⟩ := hv
    obtain ⟨us, t1, t2, t3⟩ := res_all ha hr h1 s1
    exact ⟨u :: us, by simp [List.mapM_cons, r1, t1], ⟨u, us, rfl, s3, t2⟩, by simp [t3]⟩
theorem res_sound {fn : Func} {tmps : Array Value} (ha : AR ρ a tmps) (hr : Rel B w0 ρ h w) {q : List Rs} {v : CV} (hq : lRes P fn.results.toList = some q) (hv : resV a h q = some v) : ∃ u, (results fn tmps).run P w = .ok u w ∧ VR ρ v u := by
  have hrun : ∀ us : List Value, (fn.results.toList.mapM (resRun tmps)).run P w = .ok us w → (results fn tmps).run P w = .ok (if h : us.toArray.size = 1 then us.toArray[0] else .tuple us.toArray) w := by
    intro us hu
    unfold results
    show (do let vs ← fn.results.mapM (resRun tmps); pure (if h : vs.size = 1 then vs[0] else Value.tuple vs)).run P w = _
    rw [Array.mapM_eq_mapM_toList]
    simp only [Sem.run_bind, Sem.run_map, hu, Result.andThen_ok, Sem.run_pure]
  cases hl : fn.results.toList with
  | nil =>
    rw [hl] at hq hrun
    injection hq with hq; subst hq
    injection hv with hv; subst hv
    exact ⟨.tuple #[], by have := hrun [] (by simp); simpa using this, ⟨[], rfl, rfl⟩⟩
  | cons r rs =>
    rw [hl] at hq hrun
    cases rs with
    | nil =>
      obtain ⟨r', q', rfl, h1, h2⟩ := res_one (P := P) ha hr hq
      injection h1 with h1; subst h1
      obtain ⟨u, k1, k2⟩ := h2 v hv
      refine ⟨u, ?_, k2⟩
      have := hrun [u] (by simp [List.mapM_cons, k1])
      simpa using this
    | cons r2 rs =>
      obtain ⟨r', q', rfl, h1, h2⟩ := res_one (P := P) ha hr hq
      obtain ⟨r2', q2, rfl, _, _⟩ := res_one (P := P) ha hr h1
      unfold resV at hv
      obtain ⟨ts, k1, rfl⟩ := Option.map_eq_some_iff.1 hv
      obtain ⟨us, t1, t2, t3⟩ := res_all (P := P) ha hr hq k1
      refine ⟨.tuple us.toArray, ?_, ⟨us, rfl, t2⟩⟩
      rw [hrun us t1]
      simp [t3]
theorem VRs.length : ∀ {args : List CV} {vs : List Value}, VRs ρ args vs → vs.length = args.length
  | [], _, h => by simp [VRs] at h; simp [h]
  | _ :: _, _, h => by obtain ⟨v, vs', rfl, _, h3⟩ := h; simp [VRs.length h3]
theorem VRs.getD : ∀ {args : List CV} {vs : List Value}, VRs ρ args vs → ∀ t, VR ρ (args.getD t un) (vs.getD t undef)
  | [], _, h, t => by simp [VRs] at h; subst h; simpa using VR_un ρ
  | _ :: _, _, h, t => by
    obtain ⟨v, vs', rfl, h2, h3⟩ := h
    cases t with
    | zero => simpa using h2
    | succ t => simpa using VRs.getD h3 t
theorem evCall_sound {S : Sys} (hS : SysOK P pf S B w0) : ∀ n : Nat, CallOK P B w0 (evCall S n)
  | 0 => ⟨fun f args h lim v h' he => (by cases he), fun f args h lim v h' he => (by cases he)⟩
  | n + 1 => by
    have ih := evCall_sound hS n
    have hk : KeepC (evCall S (n + 1)) := evCall_keeps (fun f args h lim v h' he => hS.xt.keeps f args h lim v h' he) (n + 1)
    refine ⟨fun f args h lim v h' he ρ vs w hvs hr => ?_, hk⟩
    unfold evCall at he
    split at he
    · exact hS.xt.sound f args h lim v h' he ρ vs w hvs hr
    · rename_i F hF
      split at he
      · rename_i hnp
        obtain ⟨fn, hfn, hlf⟩ := hS.fs f F hF
        unfold lFn at hlf
        split at hlf
        · cases hlf
        · rename_i c hb
          split at hlf
          · rename_i hle
            obtain ⟨lc, h1, hlf⟩ := Option.bind_eq_some_iff.1 hlf
            obtain ⟨rs, h2, rfl⟩ := Option.map_eq_some_iff.1 hlf
            simp only at hnp he
            obtain ⟨⟨e, a', h1'⟩, k1, k2⟩ := Option.bind_eq_some_iff.1 he
            have hl := hvs.length
            have hst : Stt B w0 fn.ntmps ρ (fun t => args.getD t un) h { tmps := vs.toArray ++ Array.replicate (fn.ntmps - vs.toArray.size) undef, defers := [] } w := by
              refine ⟨fun t => ?_, by simp; omega, rfl, hr⟩
              have := hvs.getD t
              rcases Nat.lt_or_ge t vs.length with ht | ht
              · simpa [Array.getElem?_append, ht] using this
              · have e1 : vs.getD t undef = undef := by simp [ht]
                rw [e1] at this
                have e2 : (vs.toArray ++ Array.replicate (fn.ntmps - vs.toArray.size) undef).getD t undef = undef := by
                  simp only [Array.getD_eq_getD_getElem?, Array.getElem?_append]
                  rw [if_neg (by simpa using ht)]
                  simp only [Array.getElem?_replicate]
                  split <;> rfl
                rw [e2]; exact this
            refine calls_of_wp hfn hb (evC_sound ih h1 hst k1 fun ρ' act' w' q1 q2 => ?_)
            have fin : (resV a' h1' rs).map (fun v => (v, h1')) = some (v, h') → act'.defers = [] ∧ ∃ u, (results fn act'.tmps).run P w' = .ok u w' ∧ ∃ v' ρ', Ending.returned u = .returned v' ∧ Ext ρ ρ' ∧ VR ρ' v v' ∧ Rel B w0 ρ' h' w' := by
              intro hh
              obtain ⟨v1, r1, r2⟩ := Option.map_eq_some_iff.1 hh
              injection r2 with e1 e2; subst e1; subst e2
              obtain ⟨u, s1, s2⟩ := res_sound (P := P) q2.ar q2.rel h2 r1
              exact ⟨q2.df, u, s1, u, ρ', rfl, q1, s2, q2.rel⟩
            cases e with
            | norm => exact fin k2
            | ret => exact fin k2
            | exit id => cases k2
          · cases hlf
      · cases he
end

/-! ### What is said of a function -/
/-- From some number of rounds on, the call comes to v and leaves h'. -/
def Ev (S : Sys) (f : FuncId) (args : List CV) (h : Hp) (lim : Nat) (v : CV) (h' : Hp) : Prop := ∃ N, ∀ n, N ≤ n → evCall S n f args h lim = some (v, h')
def EvC (S : Sys) (lim : Nat) (c : LC) (a : Fr) (h : Hp) (r : Ex × Fr × Hp) : Prop := ∃ N, ∀ n, N ≤ n → evC (evCall S n) lim n c a h = some r
def EvO (S : Sys) (lim : Nat) (l : List LOper) (a : Fr) (h : Hp) (r : Fr × Hp) : Prop := ∃ N, ∀ n, N ≤ n → evOps (evCall S n) lim l a h = some r
theorem Ev.sound {P : Program} {pf : FuncId → Bool} {S : Sys} {B : Nat} {w0 : World} (hS : SysOK P pf S B w0) {f : FuncId} {args : List CV} {h h' : Hp} {lim : Nat} {v : CV} (he : Ev S f args h lim v h') {ρ : Lo} {vs : List Value} {w : World} (hvs : VRs ρ args vs) (hr : Rel B w0 ρ h w) :
    Calls P f vs.toArray w fun e w' => ∃ v' ρ', e = .returned v' ∧ Ext ρ ρ' ∧ VR ρ' v v' ∧ Rel B w0 ρ' h' w' := by
  obtain ⟨N, hN⟩ := he
  exact (evCall_sound hS N).sound f args h lim v h' (hN N (Nat.le_refl _)) ρ vs w hvs hr
end Go.E
