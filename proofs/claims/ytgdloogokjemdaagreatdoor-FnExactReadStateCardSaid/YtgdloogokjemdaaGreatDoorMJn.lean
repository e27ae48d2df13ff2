/- strings.Join and decimal numbers, as the library's contracts tell them: for the evaluator. -/
import Derived.Test.YtgdloogokjemdaaGreatDoorMJs
import Derived.Test.YtgdloogokjemdaaGreatDoorEE
import Derived.Lib.AppendIntMem
import Derived.Lib.Join
set_option linter.unusedVariables false
set_option linter.unusedSimpArgs false
namespace Go.E
open Go Go.RowKit Go.Proofs
/-- What lies above a heap's end does not touch the objects. -/
theorem Rel.above {B : Nat} {w0 w w' : World} {ρ : Lo} {h : Hp} (hr : Rel B w0 ρ h w) (hb : Below w.heap.size w w') : Rel B w0 ρ h w' := by
  refine ⟨hr.len, hr.below.trans (hb.mono hr.base), Nat.le_trans hr.base hb.size, ?_, hr.inj⟩
  intro id ob l h1 h2
  have hOR := hr.obs id ob l h1 h2
  unfold OR at hOR ⊢
  split
  · rename_i e'; rw [e'] at hOR
    obtain ⟨k1, k2, k3, k4, arr, k5, k6⟩ := hOR
    refine ⟨k1, k2, k3, k4, arr, ?_, k6⟩
    rw [hb.block l.b (Array.getElem?_eq_some_iff.1 k5).1]; exact k5
  · rename_i e'; rw [e'] at hOR
    obtain ⟨k1, k2, k3⟩ := hOR
    refine ⟨k1, k2, fun j x hx => ?_⟩
    obtain ⟨v, q1, q2⟩ := k3 j x hx
    exact ⟨v, by rw [hb.cell (Nat.lt_of_lt_of_le k2 hr.base)]; exact q1, q2⟩
  · trivial
def strsL : List Lf → Option (List ByteArray)
  | [] => some []
  | .str s :: r => (strsL r).map (s :: ·)
  | _ => none
theorem strsL_at : ∀ {cs : List Lf} {ls : List ByteArray}, strsL cs = some ls → cs = ls.map .str
  | [], ls, h => by injection h with h; subst h; rfl
  | .str s :: r, ls, h => by
    obtain ⟨q, h1, rfl⟩ := Option.map_eq_some_iff.1 (show (strsL r).map (s :: ·) = some ls from h)
    rw [strsL_at h1]; rfl
  | .bool _ :: _, _, h => by cases h
  | .int _ _ :: _, _, h => by cases h
  | .flt _ _ :: _, _, h => by cases h
  | .nilp :: _, _, h => by cases h
  | .ptr _ _ :: _, _, h => by cases h
  | .nils :: _, _, h => by cases h
  | .sl _ _ _ _ :: _, _, h => by cases h
  | .nilf :: _, _, h => by cases h
  | .fn _ _ :: _, _, h => by cases h
  | .nili :: _, _, h => by cases h
  | .nb :: _, _, h => by cases h
def joinB (ls : List ByteArray) (sep : ByteArray) : List UInt8 := Lib.join (ls.map (·.data.toList)) sep.data.toList
theorem LRs_at {ρ : Lo} : ∀ {cs : List Lf} {us : List Value} {j : Nat} {x : Lf}, LRs ρ cs us → cs[j]? = some x → ∃ u, us[j]? = some u ∧ LR ρ x u
  | c :: cs, us, 0, x, h, hx => by
    obtain ⟨v, vs', rfl, h1, h2⟩ := h
    simp at hx; subst hx
    exact ⟨v, rfl, h1⟩
  | c :: cs, us, j + 1, x, h, hx => by
    obtain ⟨v, vs', rfl, h1, h2⟩ := h
    simp at hx
    obtain ⟨u, q1, q2⟩ := LRs_at h2 hx
    exact ⟨u, by simpa using q1, q2⟩
theorem Below.grown' (w : World) (os : Array Obj) : Below w.heap.size w (Go.Sort.grow w os) := by
  refine ⟨rfl, rfl, rfl, ?_, fun k hk => ?_⟩
  · show w.heap.size ≤ (w.heap ++ os).size
    rw [Array.size_append]; omega
  · show (w.heap ++ os)[k]? = w.heap[k]?
    rw [Array.getElem?_append_left hk]
/-- The table of powers is as the text lays it, and stays so. -/
def TabH (B : Nat) (w0 : World) : Prop := Lib.TabBelow Tryz.prog B w0 "internal/strconv.uint64pow10" .u64 Lib.pow10Tab
/-- What the evaluator is told. -/
def joinX : Call := fun f args h lim =>
  if f = 65 then
    match args with
    | [.lf l, .lf (.str sep)] =>
      match srcCells 1 h (.lf l) with
      | some (n, cs) =>
        match strsL cs with
        | some ls => if ls ≠ [] ∧ ls.length = n ∧ ls.length ≤ 1000000 ∧ (joinB ls sep).length ≤ 140737488355328 then some (.lf (.str ⟨(joinB ls sep).toArray⟩), h) else none
        | none => none
      | none => none
    | _ => none
  else if f = 66 then
    match args with
    | [.lf (.int .i64 n), .lf (.int .i64 m)] => if -9223372036854775808 ≤ n ∧ n ≤ 9223372036854775807 ∧ m = 10 then some (.lf (.str ⟨(Lib.itoa n).toArray⟩), h) else none
    | _ => none
  else none
theorem joinX_ok {B : Nat} {w0 : World} (hT : TabH B w0) : CallOK Tryz.prog B w0 joinX := by
  refine ⟨fun f args h lim v h' hx ρ vs w ha hr => ?_, fun f args h lim v h' hx => ?_⟩
  · unfold joinX at hx
    split at hx
    · rename_i hf
      subst hf
      split at hx
      · rename_i l sep
        split at hx
        · rename_i n cs hsrc
          split at hx
          · rename_i ls hls
            split at hx
            · rename_i hc
              obtain ⟨c1, c2, c3, c4⟩ := hc
              injection hx with hx
              injection hx with hv hh
              subst hv; subst hh
              obtain ⟨u, us1, rfl, hu, v2, us2, rfl, hv2, hnil⟩ := ha
              have : us2 = [] := hnil
              subst this
              have hv2' : v2 = .string sep := hv2
              subst hv2'
              have hcs := strsL_at hls
              rcases src_sound hr hu hsrc with ⟨_, e1, e2⟩ | ⟨A, cap, lo, id, off, us, e1, e2, e3, e4, e5, e6⟩
              · exfalso
                rw [e2] at hcs
                have : ls = [] := List.map_eq_nil_iff.1 hcs.symm
                exact c1 this
              · have hn0 : n ≠ 0 := by
                  rw [← c2]; intro q
                  exact c1 (List.length_eq_zero_iff.1 q)
                have hA := e3 hn0
                subst hA
                have e1' : l = .sl id off n 1 := by injection e1
                subst e1'
                obtain ⟨l0, A0, cap0, q1, q2, q3, q3', q4, q5⟩ := hu
                rw [e2] at q2
                injection q2 with w1 w2 w3
                subst w3
                subst e2
                have hcells : ∀ (j : Nat) x, ls[j]? = some x → w.cell? ⟨lo.b, lo.o + off + j, none⟩ = some (.string x) := by
                  intro j x hx
                  obtain ⟨y, p1, p2⟩ := LRs_at e4 (j := j) (x := .str x) (by rw [hcs, List.getElem?_map, hx]; rfl)
                  have p3 := e6 j y p1
                  have p4 : y = .string x := p2
                  subst p4
                  unfold Loc.at_ at p3
                  rw [← Nat.add_assoc] at p3
                  exact p3
                have hbk : lo.b < w.heap.size := by
                  have h0 : 0 < ls.length := by omega
                  have := hcells 0 ls[0] (List.getElem?_eq_getElem h0)
                  unfold World.cell? at this
                  apply Nat.lt_of_not_le
                  intro hge
                  rw [Array.getElem?_eq_none hge] at this
                  cases this
                have hj := Go.Proofs.Tryz.strings_Join lo.b (lo.o + off) cap ls sep w hcells hbk (by omega) (by omega) c4
                rw [c2] at hj
                refine hj.mono fun e w' hh => ?_
                obtain ⟨he, hw⟩ := hh
                exact ⟨_, ρ, he, Ext.refl _, rfl, hr.above hw⟩
            · cases hx
          · cases hx
        · cases hx
      · cases hx
    · split at hx
      · rename_i hf
        subst hf
        split at hx
        · rename_i n m
          split at hx
          · rename_i hc
            obtain ⟨c1, c2, c3⟩ := hc
            injection hx with hx
            injection hx with hv hh
            subst hv; subst hh
            obtain ⟨u, us1, rfl, hu, v2, us2, rfl, hv2, hnil⟩ := ha
            have : us2 = [] := hnil
            subst this
            have hu' : u = .int .i64 n := hu
            have hv2' : v2 = .int .i64 m := hv2
            subst hu' hv2' c3
            refine (Go.Proofs.Tryz.strconv_FormatInt_10 n c1 c2 w (hT w hr.below)).mono fun e w' hh => ?_
            obtain ⟨he, k, os, hw⟩ := hh
            subst hw
            exact ⟨_, ρ, he, Ext.refl _, rfl, (hr.drewN k).above (Below.grown' _ os)⟩
          · cases hx
        · cases hx
      · cases hx
  · unfold joinX at hx
    have key : h' = h := by
      split at hx
      · split at hx
        · split at hx
          · split at hx
            · split at hx
              · injection hx with hx; injection hx with _ hh; exact hh.symm
              · cases hx
            · cases hx
          · cases hx
        · cases hx
      · split at hx
        · split at hx
          · split at hx
            · injection hx with hx; injection hx with _ hh; exact hh.symm
            · cases hx
          · cases hx
        · cases hx
    subst key
    exact ⟨Nat.le_refl _, fun _ _ _ => rfl⟩
end Go.E
