/- strings.Split and ReadDecimal for the evaluator. -/
import Derived.Test.YtgdloogokjemdaaDoorMUc
set_option linter.unusedVariables false
set_option linter.unusedSimpArgs false
namespace Go.E
open Go Go.RowKit Go.Proofs
def splitL (s sep : ByteArray) : List ByteArray := Lib.splitB sep 0 (Lib.countB s sep) s
/-- What the evaluator is told. -/
def readX : Call := fun f args h lim =>
  if f = 11 then
    match args with
    | [.lf (.str s), .lf (.str sep)] => if s.size ≤ 1000000000 ∧ 1 ≤ sep.size then some (.lf (.sl h.length 0 (splitL s sep).length 1), h ++ [⟨(splitL s sep).map .str, .own 9 1⟩]) else none
    | _ => none
  else if f = 12 then
    match args with
    | [.lf (.str s)] => if s.size ≤ 1000000000 then some (.tup [.lf (.int .i64 (decN s.data.toList)), .lf (.bool (decide (isDec s.data.toList)))], h) else none
    | _ => none
  else none
theorem readX_split {s sep : ByteArray} {h : Hp} {lim : Nat} (h1 : s.size ≤ 1000000000) (h2 : 1 ≤ sep.size) : readX 11 [.lf (.str s), .lf (.str sep)] h lim = some (.lf (.sl h.length 0 (splitL s sep).length 1), h ++ [⟨(splitL s sep).map .str, .own 9 1⟩]) := by
  unfold readX
  rw [if_pos rfl]
  simp only []
  rw [if_pos ⟨h1, h2⟩]
theorem readX_dec {s : ByteArray} {h : Hp} {lim : Nat} (h1 : s.size ≤ 1000000000) : readX 12 [.lf (.str s)] h lim = some (.tup [.lf (.int .i64 (decN s.data.toList)), .lf (.bool (decide (isDec s.data.toList)))], h) := by
  unfold readX
  rw [if_neg (by decide), if_pos rfl]
  simp only []
  rw [if_pos h1]
set_option maxHeartbeats 1000000 in
theorem readX_ok {B : Nat} {w0 : World} (hT : ReadH B w0) : CallOK Tryd.prog B w0 readX := by
  refine ⟨fun f args h lim v h' hx ρ vs w ha hr => ?_, fun f args h lim v h' hx => ?_⟩
  · unfold readX at hx
    split at hx
    · rename_i hf
      subst hf
      split at hx
      · rename_i s sep
        split at hx
        · rename_i hc
          obtain ⟨c1, c2⟩ := hc
          injection hx with hx
          injection hx with hv hh
          subst hv; subst hh
          obtain ⟨u, us1, rfl, hu, v2, us2, rfl, hv2, hnil⟩ := ha
          have : us2 = [] := hnil
          subst this
          have hu' : u = .string s := hu
          have hv2' : v2 = .string sep := hv2
          subst hu'; subst hv2'
          obtain ⟨m, hm⟩ := hT.len
          have hm2 := (hr.below.cell hT.low.1 (p := ⟨1, 0, none⟩)).trans hm
          refine (Go.Proofs.Tryd.strings_Split s sep m w (by omega) hm2 c2).mono fun e w' hh => ?_
          obtain ⟨he, hw⟩ := hh
          have hlen := Lib.splitB_all sep c2 0 _ s rfl
          have hl2 : (splitL s sep).length = Lib.countB s sep + 1 := hlen
          have hcr : CR ρ ((splitL s sep).map Lf.str) ((splitL s sep).map Value.string).toArray.toList := by
            intro j x hj
            rw [List.getElem?_map] at hj
            obtain ⟨y, hy, rfl⟩ := Option.map_eq_some_iff.1 hj
            exact ⟨.string y, by simp [hy], rfl⟩
          have hnew := hr.new 9 1 ((splitL s sep).map Lf.str) ((splitL s sep).map Value.string).toArray (by simp) hcr
          subst hw
          have hcap : Lib.countB s sep + 1 ≤ maxLen := by
            have := Lib.countB_le sep c2 _ s (Nat.le_refl _)
            have e : maxLen = 9223372036854775807 := rfl
            rw [e]; omega
          refine ⟨_, _, he, Ext.one ρ _, ?_, hnew⟩
          refine ⟨⟨w.heap.size, 0, ((splitL s sep).map Value.string).toArray.size, 1, true⟩, ⟨w.heap.size, 0, none⟩, Lib.countB s sep + 1, ?_, ?_, ?_, hcap, fun _ => rfl, fun _ => ⟨rfl, ?_⟩⟩
          · rw [← hr.len]; simp
          · rw [hl2]
          · omega
          · simp [hl2]
        · cases hx
      · cases hx
    · split at hx
      · rename_i hf
        subst hf
        split at hx
        · rename_i s
          split at hx
          · rename_i hc
            injection hx with hx
            injection hx with hv hh
            subst hv; subst hh
            obtain ⟨u, us1, rfl, hu, hnil⟩ := ha
            have : us1 = [] := hnil
            subst this
            have hu' : u = .string s := hu
            subst hu'
            refine (readDecimal_walk hT s hc w hr.below hr.base).mono fun e w' hh => ?_
            obtain ⟨he, hw⟩ := hh
            exact ⟨_, ρ, he, Ext.refl _, ⟨_, rfl, _, _, rfl, rfl, _, _, rfl, rfl, rfl⟩, hr.above hw⟩
          · cases hx
        · cases hx
      · cases hx
  · unfold readX at hx
    split at hx
    · split at hx
      · split at hx
        · injection hx with hx
          injection hx with _ hh
          subst hh
          exact ⟨by simp, fun id _ hid => List.getElem?_append_left hid⟩
        · cases hx
      · cases hx
    · split at hx
      · split at hx
        · split at hx
          · injection hx with hx
            injection hx with _ hh
            subst hh
            exact ⟨Nat.le_refl _, fun _ _ _ => rfl⟩
          · cases hx
        · cases hx
      · cases hx
end Go.E
