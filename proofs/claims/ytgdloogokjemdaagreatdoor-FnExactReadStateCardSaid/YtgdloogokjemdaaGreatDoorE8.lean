/- Calls: if the evaluator says that a function returns v, the model's call returns it. -/
import Derived.Test.YtgdloogokjemdaaGreatDoorE7
set_option linter.unusedVariables false
set_option linter.unusedSimpArgs false
namespace Go.E
open Go Go.RowKit

section
variable {P : Program} {B : Nat} {w0 w : World} {ρ : Lo} {h h' : Hp} {a : Fr} {pf : FuncId → Bool}
theorem loadVar_sound {t : TypeId} {ag : Bool} {n id off : Nat} {ls : List Lf} {l : Loc} (hag : aggT P t = some ag) (hsz : szT P t = some n) (h1 : ag = false → n = 1) (hr : Rel B w0 ρ h w) (hl : ρ[id]? = some l) (hc : rdCells h id off n = some ls) :
    ∃ u, (loadVar t (l.at_ off)).run P w = .ok u w ∧ VR ρ (mkV ag ls) u := by
  obtain ⟨vs, k1, k2, k3⟩ := hr.readAll hl hc
  cases ag
  · obtain rfl := h1 rfl
    match vs, k2 with
    | [u], _ =>
      obtain ⟨v2, vs2, q1, q2, q3⟩ : ∃ v2 vs2, ls = v2 :: vs2 ∧ LR ρ v2 u ∧ LRs ρ vs2 [] := by
        cases ls with
        | nil => simp [LRs] at k1
        | cons y ys => obtain ⟨v2, vs2, e1, e2, e3⟩ := k1; injection e1 with e1 e1'; subst e1; subst e1'; exact ⟨y, ys, rfl, e2, e3⟩
      have : vs2 = [] := by have := q3.length; simpa using this.symm
      subst this; subst q1
      have hcell := k3 0 u rfl
      refine ⟨u, ?_, q2⟩
      simp at hcell
      simp [loadVar, run_isAgg hag, hcell]
  · refine ⟨.agg vs.toArray, ?_, ⟨vs, rfl, k1⟩⟩
    have hcells := run_loadCells_list (P := P) w (l.at_ off) vs (fun j u hu => by rw [at_add]; exact k3 j u hu)
    rw [k2] at hcells
    simp [loadVar, run_isAgg hag, run_sizeOf' hsz, hcells]
def resRun (tmps : Array Value) : ResultVar → Sem Value := fun
  | .tmp t => pure (tmps.getD t undef)
  | .cell a t => do loadVar t (← asAddr (tmps.getD a undef))
theorem res_one {tmps : Array Value} (ha : AR ρ a tmps) (hr : Rel B w0 ρ h w) {r : ResultVar} {rs : List ResultVar} {q : List Rs} (hq : lRes P (r :: rs) = some q) :
    ∃ r' q', q = r' :: q' ∧ lRes P rs = some q' ∧ ∀ v, resOne a h r' = some v → ∃ u, (resRun tmps r).run P w = .ok u w ∧ VR ρ v u := by
  cases r with
  | tmp t =>
    unfold lRes at hq
    obtain ⟨q', h1, rfl⟩ := Option.map_eq_some_iff.1 hq
    refine ⟨_, _, rfl, h1, fun v hv => ?_⟩
    injection hv with hv; subst hv
    exact ⟨_, rfl, ha t⟩
  | cell t ty =>
    unfold lRes at hq
    obtain ⟨ag, h1, hq⟩ := Option.bind_eq_some_iff.1 hq
    obtain ⟨n, h2, hq⟩ := Option.bind_eq_some_iff.1 hq
    split at hq
    · rename_i hor
      obtain ⟨q', h3, rfl⟩ := Option.map_eq_some_iff.1 hq
      refine ⟨_, _, rfl, h3, fun v hv => ?_⟩
      unfold resOne at hv
      simp only at hv
      split at hv
      · rename_i id off e
        obtain ⟨ls, k1, rfl⟩ := Option.map_eq_some_iff.1 hv
        have hx := ha t
        rw [e] at hx
        obtain ⟨l, hl, e2⟩ := hx
        obtain ⟨u, r1, r2⟩ := loadVar_sound (P := P) h1 h2 (fun e => hor.resolve_left (by rw [e]; simp)) hr hl k1
        refine ⟨u, ?_, r2⟩
        simp only [resRun, e2, asAddr, Sem.run_bind, Sem.run_pure, Result.andThen_ok, r1]
      · cases hv
    · cases hq
theorem res_all {tmps : Array Value} (ha : AR ρ a tmps) (hr : Rel B w0 ρ h w) : ∀ {rs : List ResultVar} {q : List Rs} {ts : List TV}, lRes P rs = some q → resAll a h q = some ts → ∃ us, (rs.mapM (resRun tmps)).run P w = .ok us w ∧ TRs ρ ts us ∧ us.length = rs.length
  | [], q, ts, hq, ht => by
    injection hq with hq; subst hq
    injection ht with ht; subst ht
    exact ⟨[], by simp, rfl, rfl⟩
  | r :: rs, q, ts, hq, ht => by
    obtain ⟨r', q', rfl, h1, h2⟩ := res_one (P := P) ha hr hq
    unfold resAll at ht
    obtain ⟨v, k1, k2⟩ := Option.bind_eq_some_iff.1 ht
    obtain ⟨u, r1, r2⟩ := h2 v k1
    have hv : ∃ ts', resAll a h q' = some ts' ∧ ts = v.tv :: ts' ∧ TR ρ v.tv u := by
      cases v with
      | tup _ => cases k2
      | lf l => obtain ⟨ts', e1, e2⟩ := Option.map_eq_some_iff.1 k2; exact ⟨ts', e1, e2.symm, r2⟩
      | agg ls => obtain ⟨ts', e1, e2⟩ := Option.map_eq_some_iff.1 k2; exact ⟨ts', e1, e2.symm, r2⟩
    obtain ⟨ts', s1, rfl, s3⟩ := hv
    obtain ⟨us, t1, t2, t3⟩ := res_all ha hr h1 s1
    exact ⟨u :: us, by simp [List.mapM_cons, r1, t1], ⟨u, us, rfl, s3, t2⟩, by simp [t3]⟩
theorem res_sound {fn : Func} {tmps : Array Value} (ha : AR ρ a tmps) (hr : Rel B w0 ρ h w) {q : List Rs} {v : CV} (hq : lRes P fn.results.toList = some q) (hv : resV a h q = some v) : ∃ u, (results fn tmps).run P w = .ok u w ∧ VR ρ v u := by
  have hrun : ∀ us : List Value, (fn.results.toList.mapM (resRun tmps)).run P w = .ok us w → (results fn tmps).run P w = .ok (if h : us.toArray.size = 1 then us.toArray[0] else .tuple us.toArray) w := by
    intro us hu
    unfold results
    show (do let vs ← fn.results.mapM (resRun tmps); pure (if h : vs.size = 1 then vs[0] else Value.tuple vs)).run P w = _
    rw [Array.mapM_eq_mapM_toList]
    simp only [Sem.run_bind, Sem.run_map, hu, Result.andThen_ok, Sem.run_pure]
  cases hl : fn.results.toList with
  | nil =>
    rw [hl] at hq hrun
    injection hq with hq; subst hq
    injection hv with hv; subst hv
    exact ⟨.tuple #[], by have := hrun [] (by simp); simpa using this, ⟨[], rfl, rfl⟩⟩
  | cons r rs =>
    rw [hl] at hq hrun
    cases rs with
    | nil =>
      obtain ⟨r', q', rfl, h1, h2⟩ := res_one (P := P) ha hr hq
      injection h1 with h1; subst h1
      obtain ⟨u, k1, k2⟩ := h2 v hv
      refine ⟨u, ?_, k2⟩
      have := hrun [u] (by simp [List.mapM_cons, k1])
      simpa using this
    | cons r2 rs =>
      obtain ⟨r', q', rfl, h1, h2⟩ := res_one (P := P) ha hr hq
      obtain ⟨r2', q2, rfl, _, _⟩ := res_one (P := P) ha hr h1
      unfold resV at hv
      obtain ⟨ts, k1, rfl⟩ := Option.map_eq_some_iff.1 hv
      obtain ⟨us, t1, t2, t3⟩ := res_all (P := P) ha hr hq k1
      refine ⟨.tuple us.toArray, ?_, ⟨us, rfl, t2⟩⟩
      rw [hrun us t1]
      simp [t3]
theorem VRs.length : ∀ {args : List CV} {vs : List Value}, VRs ρ args vs → vs.length = args.length
  | [], _, h => by simp [VRs] at h; simp [h]
  | _ :: _, _, h => by obtain ⟨v, vs', rfl, _, h3⟩ := h; simp [VRs.length h3]
theorem VRs.getD : ∀ {args : List CV} {vs : List Value}, VRs ρ args vs → ∀ t, VR ρ (args.getD t un) (vs.getD t undef)
  | [], _, h, t => by simp [VRs] at h; subst h; simpa using VR_un ρ
  | _ :: _, _, h, t => by
    obtain ⟨v, vs', rfl, h2, h3⟩ := h
    cases t with
    | zero => simpa using h2
    | succ t => simpa using VRs.getD h3 t
end

section
variable {P : Program} {B : Nat} {w0 : World} {nt : Nat} {pf : FuncId → Bool} {S : Sys}
theorem lC_shape {c : Code} {lc : LC} (h : lC P pf nt c = some lc) : match lc with
    | .skip => c = .skip
    | .reg _ => ∃ id ops d, c = .region id ops d
    | .any _ => ∃ id ops d, c = .region id ops d
    | .seq a b => ∃ x y, c = .seq x y ∧ lC P pf nt x = some a ∧ lC P pf nt y = some b
    | .cond x a b => ∃ x' c1 c2, c = .cond x' c1 c2 ∧ lX x' = some x ∧ lC P pf nt c1 = some a ∧ lC P pf nt c2 = some b
    | .block id a => ∃ x, c = .block id x ∧ lC P pf nt x = some a
    | .loop a => ∃ x, c = .loop x ∧ lC P pf nt x = some a
    | .exit id => c = .exit id
    | .ret => c = .ret
    | .bad => False := by
  cases c <;> simp only [lC, reduceCtorEq] at h
  case skip => injection h with h; subst h; rfl
  case region id ops draw =>
    obtain ⟨L, _, h⟩ := Option.bind_eq_some_iff.1 h
    split at h
    · split at h
      · split at h
        · injection h with h; subst h; exact ⟨_, _, _, rfl⟩
        · injection h with h; subst h; exact ⟨_, _, _, rfl⟩
      · cases h
    · injection h with h; subst h; exact ⟨_, _, _, rfl⟩
  case seq x y =>
    obtain ⟨a, h1, h⟩ := Option.bind_eq_some_iff.1 h
    obtain ⟨b, h2, rfl⟩ := Option.map_eq_some_iff.1 h
    exact ⟨_, _, rfl, h1, h2⟩
  case cond x c1 c2 =>
    obtain ⟨x', h0, h⟩ := Option.bind_eq_some_iff.1 h
    obtain ⟨a, h1, h⟩ := Option.bind_eq_some_iff.1 h
    obtain ⟨b, h2, rfl⟩ := Option.map_eq_some_iff.1 h
    exact ⟨_, _, _, rfl, h0, h1, h2⟩
  case block id x =>
    obtain ⟨a, h1, rfl⟩ := Option.map_eq_some_iff.1 h
    exact ⟨_, rfl, h1⟩
  case loop x =>
    obtain ⟨a, h1, rfl⟩ := Option.map_eq_some_iff.1 h
    exact ⟨_, rfl, h1⟩
  case exit id => injection h with h; subst h; rfl
  case ret => injection h with h; subst h; rfl

def HasSome : J → Prop
  | .code _ _ _ _ Q => ∃ e a h, Q e a h
  | .ops _ _ _ _ Q => ∃ a h, Q a h
  | .op _ _ _ _ K => ∃ v h, K v h
  | .call _ _ _ _ K => ∃ v h, K v h
theorem Holds.ex {j : J} (hh : Holds S j) : HasSome j := by
  induction hh with
  | skip hq => exact ⟨_, _, _, hq⟩
  | reg _ ih => obtain ⟨a, h, q⟩ := ih; exact ⟨_, _, _, q⟩
  | any _ ih => obtain ⟨a, h, q⟩ := ih; exact ⟨_, _, _, q⟩
  | seq _ _ h3 ih1 ih2 =>
    obtain ⟨e, a, h, q⟩ := ih1
    cases e with
    | norm => exact ih2 a h q
    | exit id => exact ⟨_, _, _, h3 _ _ _ (by simp) q⟩
    | ret => exact ⟨_, _, _, h3 _ _ _ (by simp) q⟩
  | cond _ _ ih => exact ih
  | @block lim id c a h Q _ ih =>
    obtain ⟨e, a, h, q⟩ := ih
    cases e with
    | norm => exact ⟨_, _, _, q⟩
    | ret => exact ⟨_, _, _, q⟩
    | exit j =>
      simp only [Upto] at q
      by_cases hj : j = id
      · rw [if_pos hj] at q; exact ⟨_, _, _, q⟩
      · rw [if_neg hj] at q; exact ⟨_, _, _, q⟩
  | loop _ _ h3 ih1 ih2 =>
    obtain ⟨e, a, h, q⟩ := ih1
    cases e with
    | norm => exact ih2 a h q
    | exit id => exact ⟨_, _, _, h3 _ _ _ (by simp) q⟩
    | ret => exact ⟨_, _, _, h3 _ _ _ (by simp) q⟩
  | exit hq => exact ⟨_, _, _, hq⟩
  | ret hq => exact ⟨_, _, _, hq⟩
  | onil hq => exact ⟨_, _, hq⟩
  | oop _ _ _ ih1 ih2 => obtain ⟨v, h, q⟩ := ih1; exact ih2 v h q
  | oskip _ _ ih => exact ih
  | oalt _ _ ih _ => exact ih
  | plain _ hk => exact ⟨_, _, hk⟩
  | call _ ih => exact ih
  | callv _ _ _ ih => exact ih
  | pure _ _ hk _ => exact ⟨_, _, hk⟩
  | fn _ _ _ ih =>
    obtain ⟨e, a, h, q⟩ := ih
    cases e with
    | exit id => exact q.elim
    | norm => simp only [Fin, ok] at q; split at q; exact ⟨_, _, q⟩; exact q.elim
    | ret => simp only [Fin, ok] at q; split at q; exact ⟨_, _, q⟩; exact q.elim
  | xt _ _ hk => exact ⟨_, _, hk⟩

theorem Post.trans {lim : Nat} {ρ ρ' : Lo} {h h' : Hp} {Q : Ex → Fr → Hp → Prop} {e : Exit} {act : Act} {w : World} (hp : Post B w0 nt lim ρ' h' Q e act w) (he : Ext ρ ρ') (hk : Keeps lim h h') : Post B w0 nt lim ρ h Q e act w := by
  obtain ⟨ρ1, ex, a', h1, q1, q2, q3, q4, q5⟩ := hp
  exact ⟨ρ1, ex, a', h1, q1, he.trans q2, q3, hk.trans q4, q5⟩
theorem frame0 {ρ : Lo} {args : List CV} {vs : List Value} {h : Hp} {w : World} {n : Nat} (hvs : VRs ρ args vs) (hle : args.length ≤ n) (hr : Rel B w0 ρ h w) : Stt B w0 n ρ (fr0 args) h { tmps := vs.toArray ++ Array.replicate (n - vs.toArray.size) undef, defers := [] } w := by
  have hl := hvs.length
  refine ⟨fun t => ?_, by simp; omega, rfl, hr⟩
  have := hvs.getD t
  rcases Nat.lt_or_ge t vs.length with ht | ht
  · simpa [fr0, Array.getElem?_append, ht] using this
  · have e1 : vs.getD t undef = undef := by simp [ht]
    rw [e1] at this
    have e2 : (vs.toArray ++ Array.replicate (n - vs.toArray.size) undef).getD t undef = undef := by
      simp only [Array.getD_eq_getD_getElem?, Array.getElem?_append]
      rw [if_neg (by simpa using ht)]
      simp only [Array.getElem?_replicate]
      split <;> rfl
    rw [e2]; exact this
theorem lFn_spec {fn : Func} {F : LFn} (h : lFn P pf fn = some F) : ∃ c, fn.body = some c ∧ fn.params.size + fn.nfree ≤ fn.ntmps ∧ (fn.name == "runtime.NumGoroutine") = false ∧ lC P pf fn.ntmps c = some F.code ∧ lRes P fn.results.toList = some F.res ∧ F.np = fn.params.size + fn.nfree := by
  unfold lFn at h
  split at h
  · cases h
  · rename_i c hb
    split at h
    · rename_i hle
      obtain ⟨lc, h1, h⟩ := Option.bind_eq_some_iff.1 h
      obtain ⟨rs, h2, rfl⟩ := Option.map_eq_some_iff.1 h
      exact ⟨c, hb, hle.1, hle.2, h1, h2, rfl⟩
    · cases h
theorem Holds.sound (hS : SysOK P pf S B w0) {j : J} (hh : Holds S j) : Means P B w0 pf j := by
  induction hh with
  | skip hq =>
    intro nt ρ act w hs
    refine ⟨fun c hc => ?_, fun c lc' e => by cases e⟩
    obtain rfl : c = .skip := lC_shape hc
    exact wp_skip ⟨ρ, .norm, _, _, rfl, Ext.refl _, hs, Keeps.refl _ _, hq⟩
  | reg _ ih =>
    intro nt ρ act w hs
    refine ⟨fun c hc => ?_, fun c lc' e => by cases e⟩
    obtain ⟨id, ops, d, rfl⟩ := lC_shape hc
    exact region_sound hc (.inr ⟨_, rfl, rfl⟩) hs ih
  | any _ ih =>
    intro nt ρ act w hs
    refine ⟨fun c hc => ?_, fun c lc' e => by cases e⟩
    obtain ⟨id, ops, d, rfl⟩ := lC_shape hc
    exact region_sound hc (.inl rfl) hs ih
  | seq _ _ h3 ih1 ih2 =>
    intro nt ρ act w hs
    refine ⟨fun c hc => ?_, fun c lc' e => by cases e⟩
    obtain ⟨x, y, rfl, k1, k2⟩ := lC_shape hc
    refine wp_seq (wp_mono' ((ih1 nt ρ act w hs).1 x k1) fun e act' w' hp => ?_)
    obtain ⟨ρ', ex, a', h', rfl, q1, q2, q3, q4⟩ := hp
    cases ex with
    | norm => exact wp_mono' ((ih2 a' h' q4 nt ρ' _ _ q2).1 y k2) fun e act'' w'' hp => hp.trans q1 q3
    | exit id => exact ⟨ρ', .exit id, a', h', rfl, q1, q2, q3, h3 _ _ _ (by simp) q4⟩
    | ret => exact ⟨ρ', .ret, a', h', rfl, q1, q2, q3, h3 _ _ _ (by simp) q4⟩
  | @cond lim x b c d a h Q hx _ ih =>
    intro nt ρ act w hs
    refine ⟨fun c hc => ?_, fun c lc' e => by cases e⟩
    obtain ⟨x', c1, c2, rfl, k0, k1, k2⟩ := lC_shape hc
    have h0 := lX_sound hs.ar k0
    rw [hx] at h0
    have h0' : act.eval x' = .bool b := h0
    cases b
    · exact wp_cond_false h0' ((ih nt ρ act w hs).1 c2 (by simpa using k2))
    · exact wp_cond_true h0' ((ih nt ρ act w hs).1 c1 (by simpa using k1))
  | @block lim id c a h Q _ ih =>
    intro nt ρ act w hs
    refine ⟨fun c hc => ?_, fun c lc' e => by cases e⟩
    obtain ⟨x, rfl, k1⟩ := lC_shape hc
    refine wp_block (wp_mono' ((ih nt ρ act w hs).1 x k1) fun e act' w' hp => ?_)
    obtain ⟨ρ', ex, a', h', rfl, q1, q2, q3, q4⟩ := hp
    cases ex with
    | norm => exact ⟨ρ', .norm, a', h', rfl, q1, q2, q3, q4⟩
    | ret => exact ⟨ρ', .ret, a', h', rfl, q1, q2, q3, q4⟩
    | exit j =>
      simp only [Upto] at q4
      by_cases hj : j = id
      · rw [if_pos hj] at q4; subst hj
        have : Post B w0 nt lim ρ h Q .normal act' w' := ⟨ρ', .norm, a', h', rfl, q1, q2, q3, q4⟩
        simpa [Ex.to, Exit.inBlock] using this
      · rw [if_neg hj] at q4
        have : Post B w0 nt lim ρ h Q (.exit j) act' w' := ⟨ρ', .exit j, a', h', rfl, q1, q2, q3, q4⟩
        simpa [Ex.to, Exit.inBlock, hj] using this
  | @loop lim c a h R Q _ _ h3 ih1 ih2 =>
    intro nt ρ act w hs
    have key : ∀ x, lC P pf nt x = some c → LoopWp P x (Post B w0 nt lim ρ h Q) act w := by
      intro x hx
      refine loop_round (wp_mono' ((ih1 nt ρ act w hs).1 x hx) fun e act' w' hp => ?_)
      obtain ⟨ρ', ex, a', h', rfl, q1, q2, q3, q4⟩ := hp
      cases ex with
      | norm =>
        intro b k cs
        obtain ⟨e, a2, w2, r1, r2⟩ := (ih2 a' h' q4 nt ρ' _ _ q2).2 x c rfl hx b k cs
        exact ⟨e, a2, w2, r1.trans q1 q3, r2⟩
      | exit id => exact ⟨ρ', .exit id, a', h', rfl, q1, q2, q3, h3 _ _ _ (by simp) q4⟩
      | ret => exact ⟨ρ', .ret, a', h', rfl, q1, q2, q3, h3 _ _ _ (by simp) q4⟩
    refine ⟨fun x hx => ?_, fun x lc' e hx => ?_⟩
    · obtain ⟨y, rfl, k1⟩ := lC_shape hx
      exact wp_of_loop (key y k1)
    · injection e with e; subst e; exact key x hx
  | exit hq =>
    intro nt ρ act w hs
    refine ⟨fun c hc => ?_, fun c lc' e => by cases e⟩
    obtain rfl : c = .exit _ := lC_shape hc
    exact wp_exit ⟨ρ, .exit _, _, _, rfl, Ext.refl _, hs, Keeps.refl _ _, hq⟩
  | ret hq =>
    intro nt ρ act w hs
    refine ⟨fun c hc => ?_, fun c lc' e => by cases e⟩
    obtain rfl : c = .ret := lC_shape hc
    exact wp_ret ⟨ρ, .ret, _, _, rfl, Ext.refl _, hs, Keeps.refl _ _, hq⟩
  | onil hq => exact hq
  | oop hw _ _ ih1 ih2 =>
    show TM _ _ _ _ _ _ _ _
    unfold TM
    rw [if_pos hw]
    exact MO.mono ih1 fun v h' k => ih2 v h' k
  | oskip hw _ ih =>
    show TM _ _ _ _ _ _ _ _
    unfold TM
    rw [if_neg (by rw [hw]; simp)]
    exact ih
  | oalt _ _ ih1 ih2 => exact ⟨ih1, ih2⟩
  | plain he hk => exact .inl ⟨_, _, he, hk⟩
  | call _ ih => exact .inr (.inl ⟨_, _, rfl, ih⟩)
  | @callv lim f cs x xs a h F K hF hx _ ih =>
    obtain ⟨fn, hfn, hlf⟩ := hS.fs f F hF
    obtain ⟨c, hb, _, hn, _⟩ := lFn_spec hlf
    refine .inr (.inr (.inr ⟨_, _, f, cs, rfl, ?_, hx, ih⟩))
    unfold callable; rw [hfn]; simp [hb]; simpa using hn
  | pure hp _ hk ih => exact .inr (.inr (.inl ⟨_, _, _, rfl, hp, ih, hk⟩))
  | @fn lim f F args h K hF hnp hb0 ih =>
    refine ⟨(Holds.fn hF hnp hb0).ex, fun ρ vs w hvs hr => ?_⟩
    obtain ⟨fn, hfn, hlf⟩ := hS.fs f F hF
    obtain ⟨c, hb, hle, _, k1, k2, k3⟩ := lFn_spec hlf
    have hst := frame0 (n := fn.ntmps) hvs (by omega) hr
    refine calls_of_wp hfn hb (wp_mono' ((ih fn.ntmps ρ _ w hst).1 c k1) fun e act' w' hp => ?_)
    obtain ⟨ρ', ex, a', h', rfl, q1, q2, q3, q4⟩ := hp
    have fin : ok (resV a' h' F.res) (fun v => K v h') → act'.defers = [] ∧ ∃ u, (results fn act'.tmps).run P w' = .ok u w' ∧ ∃ v v' ρ' h', Ending.returned u = .returned v' ∧ Ext ρ ρ' ∧ VR ρ' v v' ∧ Rel B w0 ρ' h' w' ∧ Keeps lim h h' ∧ K v h' := by
      intro hh
      unfold ok at hh
      split at hh
      · rename_i v1 r1
        obtain ⟨u, s1, s2⟩ := res_sound (P := P) q2.ar q2.rel k2 r1
        exact ⟨q2.df, u, s1, v1, u, ρ', h', rfl, q1, s2, q2.rel, q3, hh⟩
      · exact hh.elim
    cases ex with
    | norm => exact fin q4
    | ret => exact fin q4
    | exit id => exact q4.elim
  | @xt lim f args h h' v K hF hx hk =>
    refine ⟨⟨_, _, hk⟩, fun ρ vs w hvs hr => ?_⟩
    exact (hS.xt.sound f args h lim v h' hx ρ vs w hvs hr).mono fun e w' ⟨v', ρ', q1, q2, q3, q4⟩ => ⟨v, v', ρ', h', q1, q2, q3, q4, hS.xt.keeps f args h lim v h' hx, hk⟩
end
end Go.E
