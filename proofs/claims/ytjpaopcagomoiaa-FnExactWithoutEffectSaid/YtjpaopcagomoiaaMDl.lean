/- slices.Delete of one effect, in the model and for the evaluator: what stood behind it moves to the left, in place. -/
import Derived.Test.YtjpaopcagomoiaaProg
import Derived.Test.YtjpaopcagomoiaaEE
import Derived.WalkKit
import Derived.Deep.RegionLaw
import Derived.Lib.SliceRun
import Derived.ArgAppend
import Derived.Deep.MidRow
set_option linter.unusedVariables false
set_option linter.unusedSimpArgs false
namespace Go.E
open Go Go.RowKit Go.Proofs
theorem Del.info : (Try.prog.info? 43).map (fun i => (i.zero, i.size, i.bytes)) = some (some (.agg #[.int .i64 0, .int .i64 0, .slice none 0 0]), 3, 40) := by kernel_rfl
theorem Del.zero : ∀ w, (zeroValue 43).run Try.prog w = .ok (.agg #[.int .i64 0, .int .i64 0, .slice none 0 0]) w := by
  intro w
  obtain ⟨i0, hi0, hz0, hz1, hz2⟩ := info_parts Del.info
  simp [zeroValue, typeInfo, hi0, hz0]
theorem run_clear_one (w : World) (ty : TypeId) (b o c : Nat)
    (hc : ∀ j, j < 3 → (w.cell? ⟨b, o + j, none⟩).isSome = true) (hf : ∀ j, j < 3 → w.frozen? ⟨b, o + j, none⟩ = false) :
    (Builtin.clear_ #[26] ty #[.slice (some ⟨b, o, none⟩) 1 c]).run Try.prog w = .ok (.tuple #[]) (w.setCells b o [.int .i64 0, .int .i64 0, .slice none 0 0]) := by
  have hzc : (Builtin.zeroCells (Value.agg #[.int .i64 0, .int .i64 0, .slice none 0 0]).cells 1).toList = [.int .i64 0, .int .i64 0, .slice none 0 0] := by kernel_rfl
  have hst := run_storeCells_cells (P := Try.prog) b o [.int .i64 0, .int .i64 0, .slice none 0 0] 0 w (by simpa using hc) (by simpa using hf) (by intro v hv; simp at hv; rcases hv with rfl | rfl | rfl <;> rfl)
  simp only [Nat.add_zero] at hst
  simp [Builtin.clear_, run_underlying Try.underlying26, Del.zero, hzc, hst]
set_option maxHeartbeats 4000000 in
set_option maxRecDepth 1000000 in
theorem del_walk (b n cap i j : Nat) (cs : List Value) (w : World) (hij : j = i + 1) (hj : j ≤ n) (hn : n ≤ cap) (hm : cap ≤ 9223372036854775807) (hcs : cs.length = n * 3) (h1 : ∀ u ∈ cs, u.oneCell' = true)
    (hH : ∀ t u, cs[t]? = some u → w.cell? ⟨b, t, none⟩ = some u) (hF : ∀ t, t < cs.length → w.frozen? ⟨b, t, none⟩ = false) :
    Calls Try.prog 26 #[.slice (some ⟨b, 0, none⟩) n cap, .int .i64 i, .int .i64 j] w fun e w' => e = .returned (.slice (some ⟨b, 0, none⟩) (n - 1) cap) ∧ w' = (w.drew.setCells b (i * 3) (cs.drop (j * 3))).setCells b ((n - 1) * 3) [.int .i64 0, .int .i64 0, .slice none 0 0] := by
  obtain ⟨i0, hi0, hz0, hz1, hz2⟩ := info_parts Del.info
  obtain ⟨news, hnews⟩ : ∃ news, news = cs.drop (j * 3) := ⟨_, rfl⟩
  rw [← hnews]
  have hlen : news.length = (n - j) * 3 := by rw [hnews, List.length_drop, hcs]; omega
  obtain ⟨A, hA, hsrc⟩ : ∃ A : Addr, (if cap = j then some (⟨b, 0, none⟩ : Addr) else some ⟨b, j * 3, none⟩) = some A ∧ Hid (∀ t u, news[t]? = some u → w.drew.cell? (A.add t) = some u) := by
    by_cases h : cap = j
    · refine ⟨⟨b, 0, none⟩, by simp [h], fun t u hu => ?_⟩
      have h0 : news.length = 0 := by rw [hlen]; omega
      rw [List.length_eq_zero_iff.1 h0] at hu
      simp at hu
    · refine ⟨⟨b, j * 3, none⟩, by simp [h], fun t u hu => ?_⟩
      rw [hnews, List.getElem?_drop] at hu
      rw [Addr.add_lit]
      exact hH _ u hu
  have s1 : Hid (news.length = (n - j) * 3) := hlen
  have s2 : Hid (∀ u ∈ news, u.oneCell' = true) := fun u hu => h1 u (by rw [hnews] at hu; exact List.mem_of_mem_drop hu)
  have hsome : ∀ t, t < n * 3 → (w.cell? ⟨b, t, none⟩).isSome = true := fun t ht => by
    rw [hH t _ (List.getElem?_eq_getElem (by omega))]; rfl
  have s3 : Hid (∀ t, t < news.length → (w.drew.cell? ⟨b, 0 + i * 3 + t, none⟩).isSome = true ∧ w.drew.frozen? ⟨b, 0 + i * 3 + t, none⟩ = false) := by
    intro t ht
    rw [hlen] at ht
    rw [Nat.zero_add]
    exact ⟨hsome _ (by omega), hF _ (by omega)⟩
  obtain ⟨W1, hW1⟩ : ∃ W1, W1 = w.drew.setCells b (0 + i * 3) news := ⟨_, rfl⟩
  have hcl : ∀ ty, (Builtin.clear_ #[26] ty #[.slice (some ⟨b, (i + (n - j)) * 3, none⟩) (n - (i + (n - j))) (cap - (i + (n - j)))]).run Try.prog W1 = .ok (.tuple #[]) (W1.setCells b ((n - 1) * 3) [.int .i64 0, .int .i64 0, .slice none 0 0]) := by
    intro ty
    rw [show n - (i + (n - j)) = 1 by omega, show i + (n - j) = n - 1 by omega]
    refine run_clear_one W1 ty b _ _ (fun t ht => ?_) (fun t ht => ?_)
    · rw [hW1]
      exact World.isSome_setCells b _ _ _ _ (hsome _ (by omega))
    · rw [hW1, World.frozen?_setCells]
      exact hF _ (by omega)
  have hW : Hid (W1 = w.drew.setCells b (0 + i * 3) news) := hW1
  have hij2 : ¬ (i : Int) = j := by omega
  have hij3 : i ≤ j := by omega
  have hic : i ≤ cap := by omega
  have hjc : j ≤ cap := by omega
  have hW2 : w.drew.setCells b (i * 3) news = W1 := by rw [hW1, Nat.zero_add]
  rw [hW2]
  have hfin : n - 1 = i + (n - j) := by omega
  clear hW2 hW1 hsome hlen hnews hH hF h1 hcs hij
  go_enter Try.func26, Try.ntmps26
  go_wp2_with fail
  go_region_law (refine step_append_room rfl (.tmp 22) (.tmp 25) 26 rfl 43 i0 3 Try.underlying26 hi0 hz1 b 0 i cap (by simp [Act.eval, Act.put]) A (n - j) (cap - j) news (by simp [Act.eval, Act.put]) s1.out hsrc.out s2.out (by omega) s3.out ?_; rw [← hW.out])
  go_wp2
  go_ret
  exact ⟨by rw [hfin]; rfl, by rw [hfin]⟩
theorem setCells_row {w : World} {b o : Nat} {arr : Array Value} {ty : TypeId} {vs : List Value} (hb : w.heap[b]? = some (.cells arr ty (0, 0))) (hl : o + vs.length ≤ arr.size) (h1 : ∀ u ∈ vs, u.oneCell' = true) :
    w.setCells b o vs = w.setRow b (arr.toList.take o ++ vs ++ arr.toList.drop (o + vs.length)).toArray := by
  have a1 := run_storeCells_at (P := Try.prog) b o ty vs 0 arr w hb (by omega) h1
  have a2 := run_storeCells_cells (P := Try.prog) b o vs 0 w (fun j hj => by simp [World.cell?, hb]; omega) (fun j hj => by simp [World.frozen?, hb]) h1
  rw [a1] at a2
  simp only [Nat.add_zero] at a2
  injection a2 with _ a2
  exact a2.symm
/-- What the evaluator is told of it. -/
def delX : Call := fun f args h lim => if f = 26 then
  match args with
  | [.lf (.sl id off n sz), .lf (.int .i64 i), .lf (.int .i64 j)] =>
    match h[id]? with
    | some ⟨cs, .own ty sz'⟩ => if lim ≤ id ∧ off = 0 ∧ sz = 3 ∧ sz' = 3 ∧ cs.length = n * 3 ∧ 0 ≤ i ∧ j = i + 1 ∧ j ≤ n then some (.lf (.sl h.length 0 (n - 1) 3), h.set id ⟨[], .dead⟩ ++ [⟨cs.take (i.toNat * 3) ++ cs.drop ((i.toNat + 1) * 3), .own ty 3⟩]) else none
    | _ => none
  | _ => none
  else none
theorem CR.ones {ρ : Lo} {cs : List Lf} {vs : List Value} (h : CR ρ cs vs) : ∀ u ∈ vs.take cs.length, u.oneCell' = true := by
  intro u hu
  obtain ⟨j, hj, rfl⟩ := List.mem_iff_getElem.1 hu
  have hj' : j < cs.length := by simp at hj; omega
  obtain ⟨v, k1, k2⟩ := h j _ (List.getElem?_eq_getElem hj')
  have e : (vs.take cs.length)[j]? = some v := by rw [List.getElem?_take_of_lt hj', k1]
  rw [List.getElem?_eq_getElem hj] at e
  injection e with e
  rw [e]; exact k2.one
theorem CR.gap {ρ : Lo} {cs : List Lf} {L Z : List Value} {n i : Nat} (hn : cs.length = n * 3) (hi : i < n) (hL : cs.length ≤ L.length) (h : CR ρ cs L) (hZ : Z.length = 3) :
    let N := (L.take (n * 3)).drop ((i + 1) * 3)
    let L1 := L.take (i * 3) ++ N ++ L.drop (i * 3 + N.length)
    CR ρ (cs.take (i * 3) ++ cs.drop ((i + 1) * 3)) (L1.take ((n - 1) * 3) ++ Z ++ L1.drop ((n - 1) * 3 + Z.length)) := by
  intro N L1 t x hx
  have hN : N.length = (n - 1 - i) * 3 := by show ((L.take (n * 3)).drop ((i + 1) * 3)).length = _; simp; omega
  have hlen : t < (n - 1) * 3 := by
    have := (List.getElem?_eq_some_iff.1 hx).1
    simp at this; omega
  have hL1 : L1.length = L.length := by show (L.take (i * 3) ++ N ++ L.drop (i * 3 + N.length)).length = _; simp; omega
  rw [List.append_assoc, List.getElem?_append_left (by simp; omega), List.getElem?_take_of_lt hlen]
  show ∃ v, (L.take (i * 3) ++ N ++ L.drop (i * 3 + N.length))[t]? = some v ∧ _
  rcases Nat.lt_or_ge t (i * 3) with ht | ht
  · rw [List.getElem?_append_left (by simp; omega), List.getElem?_take_of_lt ht] at hx
    rw [List.append_assoc, List.getElem?_append_left (by simp; omega), List.getElem?_take_of_lt ht]
    exact h t x hx
  · have e1 : (cs.take (i * 3)).length = i * 3 := by simp; omega
    have e2 : (L.take (i * 3)).length = i * 3 := by simp; omega
    rw [List.getElem?_append_right (by omega), e1, List.getElem?_drop] at hx
    rw [List.append_assoc, List.getElem?_append_right (by omega), e2, List.getElem?_append_left (by omega)]
    show ∃ v, ((L.take (n * 3)).drop ((i + 1) * 3))[t - i * 3]? = some v ∧ _
    rw [List.getElem?_drop, List.getElem?_take_of_lt (by omega)]
    exact h _ x hx
theorem delX_ok {B : Nat} {w0 : World} : CallOK Try.prog B w0 delX := by
  constructor
  · intro f args h lim v h' he ρ vs w hvs hr
    unfold delX at he
    split at he
    rotate_left
    · cases he
    rename_i hf
    subst hf
    split at he
    rotate_left
    · cases he
    rename_i id off n sz i j
    split at he
    rotate_left
    · cases he
    rename_i cs ty sz' hob
    split at he
    rotate_left
    · cases he
    rename_i hb
    obtain ⟨b1, rfl, rfl, rfl, b5, b6, b7, b8⟩ := hb
    injection he with he; injection he with e1 e2; subst e1; subst e2
    obtain ⟨v0, vs1, rfl, hx, v1, vs2, rfl, hi', v2, vs3, rfl, hj', hnil⟩ := hvs
    have : vs3 = [] := hnil
    subst this
    have hi2 : v1 = .int .i64 i := hi'
    have hj2 : v2 = .int .i64 j := hj'
    subst hi2; subst hj2
    obtain ⟨I, rfl⟩ := Int.eq_ofNat_of_zero_le b6
    have hJ : j = ((I + 1 : Nat) : Int) := by omega
    subst hJ
    obtain ⟨l, A, cap, q1, q2, q3, q3', q4, q5⟩ := hx
    obtain ⟨p1, p2, p3, p4, arr, p5, p6, p7, p8⟩ := hr.obs id _ l hob q1
    have hA0 := q4 (.inr rfl)
    have hAg : A = ⟨l.b, 0, none⟩ := by rw [hA0]; unfold Loc.at_; rw [p2]
    subst hAg
    obtain ⟨s1, s2⟩ := q5 p1
    simp only [Nat.zero_add] at s2
    have p7' : cs.length ≤ arr.size := p7
    have p8' : CR ρ cs arr.toList := p8
    have hone : ∀ u ∈ arr.toList.take (n * 3), u.oneCell' = true := by rw [← b5]; exact p8'.ones
    have hlen : (arr.toList.take (n * 3)).length = n * 3 := by simp; omega
    have hI : I < n := by omega
    subst q2
    have hcm : cap ≤ 9223372036854775807 := Nat.le_trans q3' (by decide)
    refine (del_walk l.b n cap I (I + 1) (arr.toList.take (n * 3)) w rfl (by omega) q3 hcm hlen hone (fun t u hu => ?_) (fun t ht => ?_)).mono fun e w' hh => ?_
    · have ht : t < n * 3 := by have := (List.getElem?_eq_some_iff.1 hu).1; rwa [hlen] at this
      rw [List.getElem?_take_of_lt ht, Array.getElem?_toList] at hu
      simp [World.cell?, p5, hu]
    · simp [World.frozen?, p5]
    · obtain ⟨rfl, rfl⟩ := hh
      have hrd := hr.drewN 1
      have p5d : (w.drewN 1).heap[l.b]? = some (.cells arr ty (0, 0)) := p5
      have hNl : ((arr.toList.take (n * 3)).drop ((I + 1) * 3)).length = (n - 1 - I) * 3 := by rw [List.length_drop, hlen]; omega
      have c1 := setCells_row (w := w.drew) (o := I * 3) (vs := (arr.toList.take (n * 3)).drop ((I + 1) * 3)) p5 (by rw [hNl]; omega) (fun u hu => hone u (List.mem_of_mem_drop hu))
      have hgap := p8'.gap (Z := [Value.int .i64 0, Value.int .i64 0, Value.slice none 0 0]) (i := I) b5 hI (by simpa using p7') rfl
      simp only at hgap
      generalize hA1 : (arr.toList.take (I * 3) ++ (arr.toList.take (n * 3)).drop ((I + 1) * 3) ++ arr.toList.drop (I * 3 + ((arr.toList.take (n * 3)).drop ((I + 1) * 3)).length)) = L1 at *
      have hL1 : L1.length = arr.size := by rw [← hA1]; simp; omega
      rw [c1]
      have p5e : (w.drew.setRow l.b L1.toArray).heap[l.b]? = some (.cells L1.toArray ty (0, 0)) := setRow_heap p5
      have c2 := setCells_row (o := (n - 1) * 3) (vs := [Value.int .i64 0, Value.int .i64 0, Value.slice none 0 0]) p5e (by simp; omega) (by intro v hv; simp at hv; rcases hv with rfl | rfl | rfl <;> rfl)
      rw [c2]
      have e3 : L1.toArray.toList = L1 := rfl
      rw [e3]
      generalize hA2 : L1.take ((n - 1) * 3) ++ [Value.int .i64 0, Value.int .i64 0, Value.slice none 0 0] ++ L1.drop ((n - 1) * 3 + [Value.int .i64 0, Value.int .i64 0, Value.slice none 0 0].length) = L2 at *
      have hL2 : L2.length = arr.size := by rw [← hA2]; simp; omega
      have hg : (w.drewN 1).grownBy ((w.drew.setRow l.b L1.toArray).setRow l.b L2.toArray) (some l.b) := (setRow_grown _ _ _).trans (setRow_grown _ _ _)
      have hgc : ((w.drew.setRow l.b L1.toArray).setRow l.b L2.toArray).heap[l.b]? = some (.cells L2.toArray ty (0, 0)) := setRow_heap p5e
      obtain ⟨k1, k2⟩ := hrd.kill hob q1 rfl
      have hadd := k1.addOwn hg (fun k hk => by injection hk with hk; subst hk; exact ⟨p4, k2⟩) (sz := 3) hgc p4 k2 (cs := cs.take (I * 3) ++ cs.drop ((I + 1) * 3)) (by simp; omega) (by simpa using hgap)
      refine ⟨_, _, rfl, Ext.one ρ _, ?_, hadd⟩
      refine ⟨⟨l.b, 0, L2.toArray.size, 3, true⟩, ⟨l.b, 0, none⟩, cap, ?_, rfl, by omega, q3', fun _ => rfl, fun _ => ⟨rfl, ?_⟩⟩
      · rw [← hr.len]; simp
      · simp; omega
  · intro f args h lim v h' he
    unfold delX at he
    split at he
    · split at he
      · split at he
        · split at he
          · rename_i hb
            injection he with he; injection he with _ e; subst e
            exact (Keeps.set h _ hb.1).trans (Keeps.app _ _ _)
          · cases he
        · cases he
      · cases he
    · cases he
end Go.E
