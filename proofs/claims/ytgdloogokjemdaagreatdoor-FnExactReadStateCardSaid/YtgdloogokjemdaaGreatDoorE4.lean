/- Each operation, the second half: what makes memory. Plain lemmas; no condition. -/
import Derived.Test.YtgdloogokjemdaaGreatDoorE3
set_option linter.unusedVariables false
set_option linter.unusedSimpArgs false
namespace Go.E
open Go Go.RowKit

section
variable {P : Program} {B : Nat} {w0 w : World} {ρ : Lo} {h h' : Hp} {a : Fr} {act : Act} {o : Oper} {v : CV}

/-! ### make, literals, structs -/
theorem replicate_flatten_get {α : Type} (zl : List α) (sz : Nat) (hz : zl.length = sz) (h0 : 0 < sz) : ∀ (n j : Nat), (List.replicate n zl).flatten[j]? = if j < n * sz then zl[j % sz]? else none
  | 0, j => by simp
  | n + 1, j => by
    rw [List.replicate_succ, List.flatten_cons]
    rcases Nat.lt_or_ge j sz with hj | hj
    · rw [List.getElem?_append_left (by omega), Nat.mod_eq_of_lt hj, if_pos (by rw [Nat.add_mul]; omega)]
    · rw [List.getElem?_append_right (by omega), hz, replicate_flatten_get zl sz hz h0 n (j - sz)]
      have e : (j - sz) % sz = j % sz := (Nat.mod_eq_sub_mod hj).symm
      rw [e]
      congr 1
      rw [Nat.add_mul]
      apply propext
      omega
theorem made_LRs {zl : List Lf} {z : Array Value} {sz : Nat} (hz : zl.length = sz) (h0 : 0 < sz) (hr : LRs ρ zl z.toList) (n : Nat) : LRs ρ (List.replicate n zl).flatten (madeCells z (n * sz)).toList := by
  have hzs : z.size = sz := by have := hr.length; simp at this; omega
  refine LRs.of (by simp [size_madeCells, hz]) fun j x hx => ?_
  rw [replicate_flatten_get zl sz hz h0] at hx
  split at hx
  · rename_i hj
    obtain ⟨u, k1, k2⟩ := hr.get _ x hx
    refine ⟨u, ?_, k2⟩
    have hm : j % sz < z.size := by rw [hzs]; exact Nat.mod_lt _ h0
    simp [madeCells, hj, hzs]
    have hm' : j % sz < z.size := hm
    simp [hm'] at k1 ⊢
    exact k1
  · cases hx
theorem good_make {t e : TypeId} {l c : Operand} {l' c' : X} {zl : List Lf} {i : TypeInfo} {n : Int} (hop : o.op = .makeSlice t l c) (hu : P.underlying t = some (.slice e)) (hi : P.info? e = some i) (hz : zeroT P e = some zl) (hl : lX l = some l') (hc : lX c = some c')
    (ha : AR ρ a act.tmps) (hr : Rel B w0 ρ h w) (h1 : evX a l' = .lf (.int .i64 n)) (h2 : evX a c' = .lf (.int .i64 n)) (h0 : 0 ≤ n) (hb : n * i.bytes ≤ 140737488355328) (hbp : 0 < i.bytes) :
    Good P B w0 o act ρ w (.lf (.sl h.length 0 n.toNat i.size)) (h ++ [⟨(List.replicate n.toNat zl).flatten, .own e i.size⟩]) := by
  obtain ⟨i', z, k1, k2, k3, k4, k5, k6⟩ := zeroT_spec hz
  rw [hi] at k1; injection k1 with k1; subst k1
  have e1 := lX_sound ha hl
  have e2 := lX_sound ha hc
  rw [h1] at e1; rw [h2] at e2
  have e1' : act.eval l = .int .i64 n := e1
  have e2' : act.eval c = .int .i64 n := e2
  have hn : n ≤ 140737488355328 := by
    have : n * 1 ≤ n * i.bytes := Int.mul_le_mul_of_nonneg_left (by omega) h0
    omega
  have hrun := run_make (P := P) w t e i z hu hi k2 .i64 .i64 n n h0 (Int.le_refl _) (by rw [Int.mul_comm]; omega) (by omega)
  have hm := made_LRs (ρ := ρ) k4 k5 (k6 ρ) n.toNat
  have hsz : (madeCells z.cells (n.toNat * i.size)).size = n.toNat * i.size := size_madeCells _ _
  refine Good.value (v' := .slice (some ⟨w.heap.size, 0, none⟩) n.toNat n.toNat) (w' := _) ?_ (Ext.one _ _) ?_
    (hr.new e i.size _ (madeCells z.cells (n.toNat * i.size)) (by have := hm.length; simp at this ⊢; omega) hm.get)
  · simp only [execOp, hop, e1', e2', Sem.run_bind, hrun, Result.andThen_ok, Sem.run_pure]
  · exact ⟨_, ⟨w.heap.size, 0, none⟩, n.toNat, by rw [← hr.len]; simp; rfl, rfl, Nat.le_refl _, by simp only [maxLen]; omega, fun _ => rfl, fun _ => ⟨rfl, by simp [hsz]⟩⟩

theorem foldSet (off : Nat) : ∀ (vs : List Value) (k : Nat) (arr : Array Value) (j : Nat), off + k + vs.length ≤ arr.size →
    ((vs.zipIdx k).foldl (fun cs (p : Value × Nat) => cs.setIfInBounds (off + p.2) p.1) arr).toList[j]? = (if off + k ≤ j ∧ j < off + k + vs.length then vs[j - (off + k)]? else arr.toList[j]?) ∧
    ((vs.zipIdx k).foldl (fun cs (p : Value × Nat) => cs.setIfInBounds (off + p.2) p.1) arr).size = arr.size
  | [], k, arr, j, _ => by simp; omega
  | v :: r, k, arr, j, hb => by
    have ih := foldSet off r (k + 1) (arr.setIfInBounds (off + k) v) j (by simp at hb ⊢; omega)
    simp only [List.zipIdx_cons, List.foldl_cons]
    refine ⟨ih.1.trans ?_, by rw [ih.2]; simp⟩
    simp at hb
    by_cases h1 : off + (k + 1) ≤ j ∧ j < off + (k + 1) + r.length
    · rw [if_pos h1, if_pos (by simp; omega)]
      have : j - (off + k) = (j - (off + (k + 1))) + 1 := by omega
      rw [this, List.getElem?_cons_succ]
    · rw [if_neg h1]
      by_cases h2 : j = off + k
      · subst h2
        rw [if_pos (by simp)]
        rw [Array.toList_setIfInBounds, List.getElem?_set_self (by simp; omega)]
        simp
      · rw [if_neg (by simp; omega)]
        rw [Array.toList_setIfInBounds, List.getElem?_set_ne (by omega)]
def PartsR (ρ : Lo) (place : Nat → Option (Nat × Nat)) : List (Nat × Nat × List Lf) → List (Nat × Value) → Prop
  | [], ps => ps = []
  | (off, n, ls) :: r, ps => ∃ i v ps', ps = (i, v) :: ps' ∧ place i = some (off, n) ∧ LRs ρ ls v.cells.toList ∧ PartsR ρ place r ps'
theorem fill_sound {place : Nat → Option (Nat × Nat)} : ∀ {qs : List (Nat × Nat × List Lf)} {ps : List (Nat × Value)} {cs cs' : List Lf} {arr : Array Value}, PartsR ρ place qs ps → LRs ρ cs arr.toList → fillL cs qs = some cs' →
    ∃ arr', Instr.fill place arr ps = some arr' ∧ LRs ρ cs' arr'.toList
  | [], ps, cs, cs', arr, hp, hc, hf => by
    have : ps = [] := hp
    subst this
    injection hf with hf; subst hf
    exact ⟨arr, rfl, hc⟩
  | (off, n, ls) :: r, ps, cs, cs', arr, hp, hc, hf => by
    obtain ⟨i, v, ps', rfl, k1, k2, k3⟩ := hp
    unfold fillL at hf
    split at hf
    · rename_i hb
      have hl1 := k2.length
      have hl2 := hc.length
      simp at hl1 hl2
      have hvs : v.cells.size = n := by omega
      have hset := foldSet off v.cells.toList 0 arr
      have hnew : LRs ρ (splice cs off ls) (v.cells.zipIdx.foldl (fun cs (p : Value × Nat) => cs.setIfInBounds (off + p.2) p.1) arr).toList := by
        have hz : v.cells.zipIdx.foldl (fun cs (p : Value × Nat) => cs.setIfInBounds (off + p.2) p.1) arr = (v.cells.toList.zipIdx 0).foldl (fun cs (p : Value × Nat) => cs.setIfInBounds (off + p.2) p.1) arr := by
          rw [← Array.foldl_toList]; simp
        rw [hz]
        have hbb : off + 0 + v.cells.toList.length ≤ arr.size := by simp; omega
        refine LRs.of ?_ fun j x hx => ?_
        · have := (hset 0 hbb).2
          simp only [Array.length_toList, this, splice_length (cs := cs) (new := ls) (off := off) (by omega)]; omega
        · rw [(hset j hbb).1]
          have hsp := splice_CR (ρ := ρ) (vs := arr.toList) (us := v.cells.toList) (show off + ls.length ≤ cs.length by omega) (by simp; omega) hc.get k2 j x hx
          obtain ⟨u, q1, q2⟩ := hsp
          refine ⟨u, ?_, q2⟩
          rw [← q1]
          simp only [Nat.add_zero, Array.length_toList]
          by_cases h1 : j < off
          · rw [if_neg (by omega), List.append_assoc, List.getElem?_append_left (by simp; omega), List.getElem?_take_of_lt h1]
          · by_cases h2 : j < off + v.cells.size
            · rw [if_pos (by omega), List.append_assoc, List.getElem?_append_right (by simp; omega), List.getElem?_append_left (by simp; omega)]
              congr 1; simp; omega
            · rw [if_neg (by omega), List.getElem?_append_right (by simp; omega), List.getElem?_drop]
              congr 1; simp; omega
      obtain ⟨arr', r1, r2⟩ := fill_sound k3 hnew hf
      refine ⟨arr', ?_, r2⟩
      unfold Instr.fill
      simp only [k1]
      rw [if_neg (by simp; omega)]
      exact r1
    · cases hf
theorem leavesAll_sound {place : Nat → Option (Nat × Nat)} (ha : AR ρ a act.tmps) : ∀ {ps : List (Nat × Operand)} {qs : List (Nat × Nat × X)} {rs : List (Nat × Nat × List Lf)},
    (∀ k : Nat, match ps[k]?, qs[k]? with | some p, some q => place p.1 = some (q.1, q.2.1) ∧ lX p.2 = some q.2.2 | none, none => True | _, _ => False) → leavesAll a qs = some rs →
    PartsR ρ place rs (ps.map fun p => (p.1, act.eval p.2))
  | [], [], rs, _, hl => by injection hl with hl; subst hl; rfl
  | [], q :: qs, rs, hk, _ => by have := hk 0; simp at this
  | p :: ps, [], rs, hk, _ => by have := hk 0; simp at this
  | p :: ps, (off, n, x) :: qs, rs, hk, hl => by
    unfold leavesAll at hl
    obtain ⟨ls, h1, h2⟩ := Option.bind_eq_some_iff.1 hl
    obtain ⟨q, h3, rfl⟩ := Option.map_eq_some_iff.1 h2
    have h0 := hk 0
    simp at h0
    refine ⟨p.1, act.eval p.2, _, rfl, h0.1, (lX_sound ha h0.2).leaves h1, leavesAll_sound ha (fun k => ?_) h3⟩
    have := hk (k + 1)
    simpa using this
theorem good_build {t : TypeId} {fields : Array Field} {parts : Array (Nat × Operand)} {places : List (Nat × Nat)} {qs : List (Nat × Nat × X)} {rs : List (Nat × Nat × List Lf)} {zl cs : List Lf} (hop : o.op = .build t parts) (hu : P.underlying t = some (.struct fields))
    (hp : fields.toList.mapM (fun f => (P.info? f.type).map fun i => (f.offset, i.size)) = some places) (hz : zeroT P t = some zl)
    (hk : ∀ k : Nat, match parts.toList[k]?, qs[k]? with | some p, some q => places.toArray[p.1]? = some (q.1, q.2.1) ∧ lX p.2 = some q.2.2 | none, none => True | _, _ => False)
    (ha : AR ρ a act.tmps) (hr : Rel B w0 ρ h w) (hl : leavesAll a qs = some rs) (hf : fillL zl rs = some cs) : Good P B w0 o act ρ w (.agg cs) h := by
  obtain ⟨i, z, k1, k2, k3, k4, k5, k6⟩ := zeroT_spec hz
  have hps := leavesAll_sound (place := (places.toArray[·]?)) ha hk hl
  obtain ⟨arr', r1, r2⟩ := fill_sound hps (k6 ρ) hf
  refine Good.same (v' := .agg arr') ?_ ⟨arr'.toList, by simp, r2⟩ hr
  have hbuilt : P.built t (parts.map fun (i, x) => (i, act.eval x)).toList = some arr' := by
    unfold Program.built
    simp only [k1, hu, k2, hp]
    simpa using r1
  simp only [execOp, hop, Sem.run_bind, run_build w t _ arr' hbuilt, Result.andThen_ok, Sem.run_pure]
theorem good_lit {t e : TypeId} {len : Nat} {parts : Array (Nat × Operand)} {qs : List (Nat × Nat × X)} {rs : List (Nat × Nat × List Lf)} {zl cs : List Lf} {i : TypeInfo} (hop : o.op = .buildSlice t len parts) (hu : P.underlying t = some (.slice e)) (hi : P.info? e = some i) (hz : zeroT P e = some zl)
    (hsm : len * i.size ≤ 16777216)
    (hk : ∀ k : Nat, match parts.toList[k]?, qs[k]? with | some p, some q => some (p.1 * i.size, i.size) = some (q.1, q.2.1) ∧ lX p.2 = some q.2.2 | none, none => True | _, _ => False)
    (ha : AR ρ a act.tmps) (hr : Rel B w0 ρ h w) (hl : leavesAll a qs = some rs) (hf : fillL (List.replicate len zl).flatten rs = some cs) :
    Good P B w0 o act ρ w (.lf (.sl h.length 0 len i.size)) (h ++ [⟨cs, .own e i.size⟩]) := by
  obtain ⟨i', z, k1, k2, k3, k4, k5, k6⟩ := zeroT_spec hz
  rw [hi] at k1; injection k1 with k1; subst k1
  have hps := leavesAll_sound (place := fun j => some (j * i.size, i.size)) ha hk hl
  have hm := made_LRs (ρ := ρ) k4 k5 (k6 ρ) len
  obtain ⟨arr', r1, r2⟩ := fill_sound hps hm hf
  have hsize : arr'.size = len * i.size := by
    have h1 := r2.length
    have hfl : ∀ {ps : List (Nat × Nat × List Lf)} {as bs : List Lf}, fillL as ps = some bs → bs.length = as.length := by
      intro ps
      induction ps with
      | nil => intro as bs h; injection h with h; rw [h]
      | cons p ps ih =>
        intro as bs h
        obtain ⟨off, n, ls⟩ := p
        unfold fillL at h
        split at h
        · rename_i hb
          rw [ih h, splice_length (by omega)]
        · cases h
    have h2 := hfl hf
    have h3 := hm.length
    simp [size_madeCells] at h1 h3 h2
    omega
  refine Good.value (v' := .slice (some ⟨w.heap.size, 0, none⟩) len len) (w' := w.alloc (.cells arr' e)) ?_ (Ext.one _ _) ?_
    (hr.new e i.size cs arr' (by have := r2.length; simp at this; omega) r2.get)
  · have r1' : Instr.fill (fun j => some (j * i.size, i.size)) (madeCells z.cells (len * i.size)) (parts.map fun (i, x) => (i, act.eval x)).toList = some arr' := by simpa using r1
    have hbs : (Instr.buildSlice t len (parts.map fun (i, x) => (i, act.eval x))).run P w = .ok (.slice (some ⟨w.heap.size, 0, none⟩) len len) (w.alloc (.cells arr' e)) := by
      by_cases h0 : len * i.size = 0
      · have hmm : madeCells z.cells (len * i.size) = #[] := by rw [h0]; simp [madeCells, Array.range_zero']
        rw [hmm] at r1'
        simp [Instr.buildSlice, run_underlying hu, sizeOf, typeInfo, hi, h0, newRow, Array.range_zero'] at r1' ⊢
        rw [r1']; simp
      · unfold madeCells at r1'
        simp [Instr.buildSlice, run_underlying hu, sizeOf, typeInfo, hi, h0, newRow, zeroValue, k2] at r1' ⊢
        rw [if_neg (by omega), r1']; simp
    simp only [execOp, hop, Sem.run_bind, hbs, Result.andThen_ok, Sem.run_pure]
  · exact ⟨_, ⟨w.heap.size, 0, none⟩, len, by rw [← hr.len]; simp; rfl, rfl, Nat.le_refl _, by have : len * 1 ≤ len * i.size := Nat.mul_le_mul_left _ k5; simp only [maxLen]; omega, fun _ => rfl, fun _ => ⟨rfl, by simp [hsize]⟩⟩

/-! ### append, bytes to a string, min and max -/
theorem src_sound {sz : Nat} {y : CV} {u : Value} {m : Nat} {new : List Lf} (hr : Rel B w0 ρ h w) (hv : VR ρ y u) (hs : srcCells sz h y = some (m, new)) :
    u = .slice none 0 0 ∧ m = 0 ∧ new = [] ∨ ∃ (A : Addr) (cap : Nat) (l : Loc) (id off : Nat) (us : List Value), y = .lf (.sl id off m sz) ∧ u = .slice (some A) m cap ∧ (m ≠ 0 → A = l.at_ off) ∧ LRs ρ new us ∧ us.length = m * sz ∧ ∀ (j : Nat) (x : Value), us[j]? = some x → w.cell? (l.at_ (off + j)) = some x := by
  unfold srcCells at hs
  split at hs
  · injection hs with hs; injection hs with h1 h2; subst h1; subst h2
    exact .inl ⟨hv, rfl, rfl⟩
  · rename_i id off len sz'
    split at hs
    · rename_i e; subst e
      obtain ⟨cs, h1, h2⟩ := Option.map_eq_some_iff.1 hs
      injection h2 with h2 h3; subst h2; subst h3
      obtain ⟨l, A, cap, q1, q2, q3, q3', q4, q5⟩ := hv
      obtain ⟨us, r1, r2, r3⟩ := hr.readAll q1 h1
      exact .inr ⟨A, cap, l, id, off, us, rfl, q2, fun hm => q4 (.inl (by omega)), r1, r2, r3⟩
    · cases hs
  · cases hs
theorem Rel.kill (hr : Rel B w0 ρ h w) {id : Nat} {ob : Ob} {l : Loc} (h1 : h[id]? = some ob) (h2 : ρ[id]? = some l) (ho : ob.isOwn = true) : Rel B w0 ρ (h.set id ⟨[], .dead⟩) w ∧
    ∀ (j : Nat) (oj : Ob) (lj : Loc), (h.set id ⟨[], .dead⟩)[j]? = some oj → ρ[j]? = some lj → oj.isOwn = true → lj.b ≠ l.b := by
  refine ⟨hr.turn h1 h2 ho (World.grownBy.refl w _) _ (.inl rfl), fun j oj lj hj hlj hoj hb => ?_⟩
  by_cases e : j = id
  · subst e
    rw [List.getElem?_set] at hj
    simp [(List.getElem?_eq_some_iff.1 h1).1] at hj
    subst hj; cases hoj
  · rw [List.getElem?_set_ne (Ne.symm e)] at hj
    exact e (hr.inj j id oj ob lj l hj h1 hlj h2 hoj ho hb)
/-- A new object in a block that no living one has. -/
theorem Rel.addOwn (hr : Rel B w0 ρ h w) {w' : World} {row : Option Nat} (hg : w.grownBy w' row) (hrow : ∀ k, row = some k → B ≤ k ∧ ∀ (id : Nat) (ob : Ob) (l : Loc), h[id]? = some ob → ρ[id]? = some l → ob.isOwn = true → l.b ≠ k)
    {g sz : Nat} {cur : Array Value} {e : TypeId} {cs : List Lf} (hgc : w'.heap[g]? = some (.cells cur e (0, 0))) (hgB : B ≤ g) (hfree : ∀ (id : Nat) (ob : Ob) (l : Loc), h[id]? = some ob → ρ[id]? = some l → ob.isOwn = true → l.b ≠ g)
    (hlen : cs.length ≤ cur.size) (hcr : CR ρ cs cur.toList) : Rel B w0 (ρ ++ [⟨g, 0, cur.size, sz, true⟩]) (h ++ [⟨cs, .own e sz⟩]) w' := by
  have he := Ext.one ρ ⟨g, 0, cur.size, sz, true⟩
  refine ⟨by simp [hr.len], hr.below.grown hg hr.base (fun k hk => (hrow k hk).1), Nat.le_trans hr.base hg.size, ?_, ?_⟩
  · intro id ob l h1 h2
    rcases Nat.lt_or_ge id h.length with hlt | hge
    · rw [List.getElem?_append_left hlt] at h1
      rw [List.getElem?_append_left (by rw [hr.len]; exact hlt)] at h2
      have hOR := (hr.obs id ob l h1 h2).ext he
      unfold OR at hOR ⊢
      split
      · rename_i e'; rw [e'] at hOR
        obtain ⟨q1, q2, q3, q4, arr', q5, q6⟩ := hOR
        refine ⟨q1, q2, q3, q4, arr', ?_, q6⟩
        rw [hg.block _ (Array.getElem?_eq_some_iff.1 q5).1 (fun hh => (hrow _ hh.symm).2 id ob l h1 h2 (by simp [Ob.isOwn, e']) rfl)]
        exact q5
      · rename_i e'; rw [e'] at hOR
        obtain ⟨q1, q2, q3⟩ := hOR
        refine ⟨q1, q2, fun j x hx => ?_⟩
        obtain ⟨u, r1, r2⟩ := q3 j x hx
        refine ⟨u, ?_, r2⟩
        rw [World.cell?_of_block (hg.block l.b (Nat.lt_of_lt_of_le q2 hr.base) (fun hh => by have := (hrow _ hh.symm).1; omega))]; exact r1
      · trivial
    · have e1 : id = h.length := by have := (List.getElem?_eq_some_iff.1 h1).1; simp at this; omega
      subst e1
      simp at h1
      rw [show h.length = ρ.length from hr.len.symm] at h2
      simp at h2
      subst h1; subst h2
      exact ⟨rfl, rfl, rfl, hgB, cur, hgc, rfl, hlen, hcr.ext he⟩
  · intro i j oi oj li lj hi hj hli hlj ho1 ho2 hb
    rcases Nat.lt_or_ge i h.length with hi' | hi'
    · rw [List.getElem?_append_left hi'] at hi
      rw [List.getElem?_append_left (by rw [hr.len]; exact hi')] at hli
      rcases Nat.lt_or_ge j h.length with hj' | hj'
      · rw [List.getElem?_append_left hj'] at hj
        rw [List.getElem?_append_left (by rw [hr.len]; exact hj')] at hlj
        exact hr.inj i j oi oj li lj hi hj hli hlj ho1 ho2 hb
      · have e1 : j = h.length := by have := (List.getElem?_eq_some_iff.1 hj).1; simp at this; omega
        subst e1
        rw [show h.length = ρ.length from hr.len.symm] at hlj
        simp at hlj; subst hlj
        exact absurd hb (hfree i oi li hi hli ho1)
    · have e1 : i = h.length := by have := (List.getElem?_eq_some_iff.1 hi).1; simp at this; omega
      subst e1
      rw [show h.length = ρ.length from hr.len.symm] at hli
      simp at hli; subst hli
      rcases Nat.lt_or_ge j h.length with hj' | hj'
      · rw [List.getElem?_append_left hj'] at hj
        rw [List.getElem?_append_left (by rw [hr.len]; exact hj')] at hlj
        exact absurd hb.symm (hfree j oj lj hj hlj ho2)
      · have := (List.getElem?_eq_some_iff.1 hj).1; simp at this; omega
/-- What an append leaves. -/
theorem app_rel (hr : Rel B w0 ρ h w) {w' : World} {row : Option Nat} (hg : w.grownBy w' row) (hrow : ∀ k, row = some k → B ≤ k ∧ ∀ (id : Nat) (ob : Ob) (l : Loc), h[id]? = some ob → ρ[id]? = some l → ob.isOwn = true → l.b ≠ k)
    {v' : Value} {e : TypeId} {sz n : Nat} {all : List Lf} {us : List Value} (hus : LRs ρ all us) (h0 : 0 < n) (hown : w'.ownsRow B e sz v' n us) (hat : v'.ownBlock = row ∨ v'.ownBlock = some w.heap.size) :
    ∃ ρ', Ext ρ ρ' ∧ VR ρ' (.lf (.sl h.length 0 n sz)) v' ∧ Rel B w0 ρ' (h ++ [⟨all, .own e sz⟩]) w' := by
  rcases hown.2 with ⟨_, h1⟩ | ⟨g, cap, cur, rfl, hbg, hgc, hnc, hcm, hcs, htake⟩
  · omega
  have hfree : ∀ (id : Nat) (ob : Ob) (l : Loc), h[id]? = some ob → ρ[id]? = some l → ob.isOwn = true → l.b ≠ g := by
    intro id ob l q1 q2 q3
    rcases hat with hat | hat
    · simp only [Value.ownBlock] at hat
      exact (hrow g hat.symm).2 id ob l q1 q2 q3
    · have : g = w.heap.size := by simpa [Value.ownBlock] using hat
      have := hr.blt q1 q2 q3
      omega
  have hl := hus.length
  have hle : all.length ≤ cur.size := by rw [← hl, hcs, hown.1]; exact Nat.mul_le_mul_right sz hnc
  have hcr : CR ρ all cur.toList := fun j x hj => by
    obtain ⟨u, q1, q2⟩ := hus.get j x hj
    refine ⟨u, ?_, q2⟩
    rw [← htake] at q1
    have hj' := (List.getElem?_eq_some_iff.1 q1).1
    simp at hj'
    rwa [List.getElem?_take_of_lt (by omega)] at q1
  refine ⟨_, Ext.one ρ ⟨g, 0, cur.size, sz, true⟩, ?_, hr.addOwn hg hrow hgc hbg hfree hle hcr⟩
  exact ⟨⟨g, 0, cur.size, sz, true⟩, ⟨g, 0, none⟩, cap, by rw [← hr.len]; simp, rfl, hnc, hcm, fun _ => rfl, fun _ => ⟨rfl, by simp [hcs]⟩⟩
theorem good_app {c : Go.Call} {t e : TypeId} {x y : Operand} {x' y' : X} {i : TypeInfo} {zl : List Lf} {lim : Nat} (hop : o.op = .call c) (hc : c.callee = .builtin .append) (hargs : c.args = #[x, y]) (hty : c.argTypes = #[t, t])
    (hu : P.underlying t = some (.slice e)) (hi : P.info? e = some i) (hz : zeroT P e = some zl) (hbp : 0 < i.bytes) (hx : lX x = some x') (hy : lX y = some y')
    (ha : AR ρ a act.tmps) (hr : Rel B w0 ρ h w) (hv : appV lim e i.size i.bytes h (evX a x') (evX a y') = some (v, h')) : Good P B w0 o act ρ w v h' := by
  obtain ⟨i', z, k1, k2, k3, k4, k5, k6⟩ := zeroT_spec hz
  rw [hi] at k1; injection k1 with k1; subst k1
  have hx' := lX_sound ha hx
  have hy' := lX_sound ha hy
  generalize evX a x' = vx at *
  generalize evX a y' = vy at *
  unfold appV at hv
  replace hv := Option.bind_eq_some_iff.1 hv
  obtain ⟨⟨m, new⟩, hs, hv⟩ := hv
  simp only at hv
  have hsrc := src_sound hr hy' hs
  have wrap : ∀ (u : Value) (w' : World), (Builtin.append_ #[t, t] o.type #[act.eval x, act.eval y]).run P w = .ok u w' → (execOp act.eval o).run P w = .ok (.value u) w' := by
    intro u w' hrun
    simp only [execOp, hop, resolve, hc, hargs, hty, invoke, builtin, Sem.run_bind, Sem.run_pure, Result.andThen_ok, List.map_toArray, List.map_cons, List.map_nil, hrun]
  by_cases hm : m = 0
  · subst hm
    simp only [if_true] at hv
    have same : v = vx ∧ h' = h ∧ ∃ bA n cap, act.eval x = .slice bA n cap ∧ n ≤ cap := by
      split at hv
      · injection hv with hv; injection hv with e1 e2
        have ex : act.eval x = .slice none 0 0 := hx'
        exact ⟨e1.symm, e2.symm, none, 0, 0, ex, Nat.le_refl _⟩
      · split at hv
        · injection hv with hv; injection hv with e1 e2
          obtain ⟨l, A, cap, q1, q2, q3, q3', q4, q5⟩ := hx'
          exact ⟨e1.symm, e2.symm, some A, _, cap, q2, q3⟩
        · cases hv
      · cases hv
    obtain ⟨rfl, rfl, bA, n, cap, ex, hnc⟩ := same
    refine Good.same (v' := act.eval x) (wrap _ _ ?_) hx' hr
    rcases hsrc with ⟨ey, _, _⟩ | ⟨A, cap2, l, id, off, us, _, ey, _, _, _, _⟩
    · cases bA <;> simp [Builtin.append_, run_underlying hu, sizeOf, typeInfo, hi, Builtin.lenOf, Builtin.firstCells, ex, ey, hnc, storeCells]
    · cases bA <;> simp [Builtin.append_, run_underlying hu, sizeOf, typeInfo, hi, Builtin.lenOf, Builtin.firstCells, ex, ey, hnc, storeCells, loadCells, loadCellsFrom]
  · rw [if_neg hm] at hv
    rcases hsrc with ⟨_, h0, _⟩ | ⟨A, cap2, l2, id2, off2, us, _, ey, hA, hus, husl, hcell⟩
    · exact absurd h0 hm
    have hA' := hA hm
    subst hA'
    have hcell' : ∀ (j : Nat) (u : Value), us[j]? = some u → w.cell? ((l2.at_ off2).add j) = some u := fun j u hj => by rw [at_add]; exact hcell j u hj
    split at hv
    · split at hv
      · rename_i hb
        injection hv with hv; injection hv with e1 e2; subst e1; subst e2
        have ex : act.eval x = .slice none 0 0 := hx'
        have hmm : m ≤ 140737488355328 := Nat.le_trans (Nat.le_mul_of_pos_right _ hbp) hb
        obtain ⟨v', w', hrun, hown, hg, _, hat⟩ := run_append_own_at (P := P) w B t o.type e i z i.size i.bytes hu hi k2 rfl rfl k3 k5 (.slice none 0 0) 0 [] (World.ownsRow_nil w B e i.size) (l2.at_ off2) m cap2 us husl hcell' hus.ones
          (by simp only [maxLen]; omega) (by simpa using hb) hr.base
        simp only [Nat.zero_add, List.nil_append] at hown
        obtain ⟨ρ', r1, r2, r3⟩ := app_rel hr hg (fun k hk => by simp [Value.ownBlock] at hk) hus (by omega) hown hat
        exact Good.value (wrap _ _ (by rw [ex, ey]; exact hrun)) r1 r2 r3
      · cases hv
    · rename_i id off n sz'
      split at hv
      · rename_i cs ty' sz'' hob
        split at hv
        · rename_i hb
          obtain ⟨_, b1, b2, b3, b4, b5, b6⟩ := hb
          subst b1; subst b2; subst b3; subst b4
          injection hv with hv; injection hv with e1 e2; subst e1; subst e2
          obtain ⟨l, A, cap, q1, q2, q3, q3', q4, q5⟩ := hx'
          have hOR := hr.obs id _ l hob q1
          obtain ⟨p1, p2, p3, p4, arr, p5, p6, p7, p8⟩ := hOR
          have hA0 := q4 (.inr rfl)
          have hAg : A = ⟨l.b, 0, none⟩ := by rw [hA0]; unfold Loc.at_; rw [p2]
          subst hAg
          have ex := q2
          obtain ⟨s1, s2⟩ := q5 p1
          simp only [Nat.zero_add] at s2
          have p7' : cs.length ≤ arr.size := p7
          have p8' : CR ρ cs arr.toList := p8
          have hold : LRs ρ cs (arr.toList.take (n * i.size)) := by
            have := p8'.take (by simpa using p7')
            rwa [b5] at this
          have hown0 : w.ownsRow B ty' i.size (.slice (some ⟨l.b, 0, none⟩) n cap) n (arr.toList.take (n * i.size)) :=
            ⟨by rw [hold.length, b5], .inr ⟨l.b, cap, arr, rfl, p4, p5, q3, q3', by rw [p6, s2], rfl⟩⟩
          have hmm : n + m ≤ 140737488355328 := Nat.le_trans (Nat.le_mul_of_pos_right _ hbp) b6
          obtain ⟨v', w', hrun, hown, hg, _, hat⟩ := run_append_own_at (P := P) w B t o.type ty' i z i.size i.bytes hu hi k2 rfl rfl k3 k5 _ n _ hown0 (l2.at_ off2) m cap2 us husl hcell' hus.ones
            (by simp only [maxLen]; omega) b6 hr.base
          obtain ⟨hk1, hk2⟩ := hr.kill hob q1 rfl
          obtain ⟨ρ', r1, r2, r3⟩ := app_rel hk1 hg (fun k hk => by simp [Value.ownBlock] at hk; subst hk; exact ⟨p4, hk2⟩) (hold.append hus) (by omega) hown hat
          rw [List.length_set] at r2
          exact Good.value (wrap _ _ (by rw [ex, ey]; exact hrun)) r1 r2 r3
        · cases hv
      · cases hv
    · cases hv
theorem good_tostr {s d e : TypeId} {x : Operand} {x' : X} {m : Nat} {cs : List Lf} {bs : List UInt8} (hop : o.op = .convert s d x) (hs : P.underlying s = some (.slice e)) (he : P.underlying e = some (.int .u8)) (hd : P.underlying d = some .string) (hx : lX x = some x')
    (ha : AR ρ a act.tmps) (hr : Rel B w0 ρ h w) (hc : srcCells 1 h (evX a x') = some (m, cs)) (hb : bytesL cs = some bs) : Good P B w0 o act ρ w (.lf (.str ⟨bs.toArray⟩)) h := by
  have hx' := lX_sound ha hx
  generalize evX a x' = vx at *
  rcases src_sound hr hx' hc with ⟨ey, rfl, rfl⟩ | ⟨A, cap, l, id, off, us, _, ey, hA, hus, husl, hcell⟩
  · injection hb with hb; subst hb
    have := run_convert_bytes_nil (P := P) w s e hs he 0 0 d hd
    refine Good.same (v' := .string ByteArray.empty) ?_ rfl hr
    simp only [execOp, hop, ey, Sem.run_bind, this, Result.andThen_ok, Sem.run_pure]
  · have key : ∀ (cs : List Lf) (bs : List UInt8) (us : List Value), bytesL cs = some bs → LRs ρ cs us → ∃ xs : List Int, us = xs.map (Value.int .u8) ∧ xs.map (fun n => UInt8.ofNat n.toNat) = bs := by
      intro cs
      induction cs with
      | nil => intro bs us hb hu; injection hb with hb; subst hb; have : us = [] := hu; subst this; exact ⟨[], rfl, rfl⟩
      | cons c cs ih =>
        intro bs us hb hu
        obtain ⟨u, us', rfl, k1, k2⟩ := hu
        unfold bytesL at hb
        split at hb
        · rename_i e; cases e
        · rename_i n r e
          injection e with e1 e2; subst e1; subst e2
          obtain ⟨q, h1, rfl⟩ := Option.map_eq_some_iff.1 hb
          obtain ⟨xs, r1, r2⟩ := ih q us' h1 k2
          have : u = .int .u8 n := k1
          subst this; subst r1
          exact ⟨n :: xs, rfl, by simp [r2]⟩
        · cases hb
    obtain ⟨xs, e1, e2⟩ := key cs bs us hb hus
    subst e1
    have hxl : xs.length = m := by simpa using husl
    by_cases hm : m = 0
    · subst hm
      obtain rfl := List.eq_nil_of_length_eq_zero hxl
      have hrun : (convert s d (.slice (some A) 0 cap)).run P w = .ok (.string ByteArray.empty) w := by
        rw [run_convert_bytes_string w s d e (some A) 0 cap hs he hd]
        simp [Conv.bytesToString, loadCells, loadCellsFrom]
      subst e2
      refine Good.same (v' := .string ByteArray.empty) ?_ rfl hr
      simp only [execOp, hop, ey, Sem.run_bind, hrun, Result.andThen_ok, Sem.run_pure]
    · have hA' := hA hm
      subst hA'
      have := run_convert_bytes_arg (P := P) w s e hs he l.b (l.o + off) m cap xs hxl (fun j hj => by
        have h1 := hcell j (.int .u8 (xs.getD j 0)) (by simp [List.getD_eq_getElem?_getD, List.getElem?_eq_getElem (show j < xs.length by omega)])
        unfold Loc.at_ at h1
        rwa [← Nat.add_assoc] at h1) d hd
      refine Good.same (v' := .string (strOfNums xs)) ?_ ?_ hr
      · unfold Loc.at_ at ey
        simp only [execOp, hop, ey, Sem.run_bind, this, Result.andThen_ok, Sem.run_pure]
      · subst e2; rfl
end
end Go.E
