/- The row of the law FnEnvelopes: whatever is handed in, true. -/
import Derived.Test.YtkabbddhdnddoaaRows
import Derived.Test.YtkabbddhdnddoaaLEnvelopes
import Derived.WalkKit
import Derived.ProofKit
import Derived.OpenShut
import Derived.ChangeOld
import Derived.Below
import Derived.SizedLaws
namespace Go.Proofs.Ytkabbddhdnddoaa.fnEnvelopes
open Go.ChangeShapes Go.WideShapes Go.ChangeAt Go.RowKit
set_option linter.unusedVariables false
theorem own : ownKnob Try.prog.godebug = none := by kernel_rfl
theorem laidOut : laidOutB Try.prog = true := by kernel_rfl
theorem shapes : Try.f5.params.toList.mapM (E.shV Try.prog) = some [(false, .sl 1 (.int .u8)), (false, .sl 1 (.int .u8))] := by kernel_rfl
theorem readable : Try.f5.params.toList.all (fun t => Try.prog.readableRec t && decide (t < Try.prog.types.size)) = true := by kernel_rfl
set_option maxRecDepth 100000 in
theorem lifted (os : Os) (started : os.Started) (H : Type) (enc : TypeId × Value → H) :
    ReturnsInHanded {} Try.checked os 5 .any (Rows.fnEnvelopesSpec.pre6 enc Try.prog Try.f5 Rows.fnEnvelopesRow.domain false) (Rows.fnEnvelopesSpec.post enc Try.prog Try.f5 false true false false) := by
  refine returnsInHanded_of_change_sized (C := Try.checked) own started (by kernel_rfl) Try.func5
    (ChangeSpec.witness6 (enc := enc) (C := Try.checked) false ⟨#[], #[.slice none 0 0, .slice none 0 0], []⟩ 8 (by kernel_rfl) (by kernel_rfl) (by kernel_rfl) (by kernel_rfl)) ?_
  intro W base args ds gs before hval0 hW hcnd hsz0 _
  have hsz : (DataW.weightsEach Try.prog (Try.f5.params.toList ++ Rows.fnEnvelopesSpec.plain.varTypes Try.prog) (ds ++ gs)).all (· ≤ reachBytes) = true := hsz0
  have hval : ∀ (j : Nat) t v, Try.f5.params[j]? = some t → args[j]? = some v → Value.okWide Try.prog W .any base t v := hval0
  have hW' := hW
  obtain ⟨p, q, hA0, hV, rfl, hfz, hnd⟩ := hW
  have hA : DataW.TrodAll enc Try.prog W 0 (fun _ => true) true Try.f5.params.toList args.toList ds p := hA0
  obtain ⟨rfl, rfl⟩ := trodVars_none hV
  have hsz2 : (DataW.weightsEach Try.prog Try.f5.params.toList ds).all (· ≤ reachBytes) = true := by
    have e : Rows.fnEnvelopesSpec.plain.varTypes Try.prog = [] := rfl
    rw [e, List.append_nil, List.append_nil] at hsz
    exact hsz
  have hv : ∀ (j : Nat) t v, Try.f5.params.toList[j]? = some t → args.toList[j]? = some v → Value.okWide Try.prog W .any base t v := fun j t v h1 h2 =>
    hval j t v (by rw [← Array.getElem?_toList]; exact h1) (by rw [← Array.getElem?_toList]; exact h2)
  have hd : ∃ d0 d1, ds = [d0, d1] := by
    have hB := hA
    rw [Try.params5] at hB
    obtain ⟨v0, vs0, d0, ds0, p0, q0, _, rfl, _, h0, r0⟩ := trodAll_cons hB
    replace hB := r0
    obtain ⟨v1, vs1, d1, ds1, p1, q1, _, rfl, _, h1, r1⟩ := trodAll_cons hB
    replace hB := r1
    obtain ⟨_, rfl, _⟩ := trodAll_nil hB
    exact ⟨d0, d1, rfl⟩
  obtain ⟨d0, d1, rfl⟩ := hd
  have key := E.law_end (P := Try.prog) (W := W) (E.Envelopes.sysOK) shapes E.lawEnvelopes hv hA hsz2
  rw [Array.toArray_toList] at key
  refine key.mono fun e W' ⟨he, bel⟩ => ?_
  subst he
  exact ⟨_, rfl, _, _, _, [], _, [], hW', trodAll_mk1 (shut_bool Try.underlying4 _), E.Below.trodAll laidOut readable hA bel, rfl, bel.frame _, fun h => by cases h⟩
theorem over : Rows.fnEnvelopesRow.holds Try.pinned (OpenSpec.ofChange Rows.fnEnvelopesSpec) :=
  OpenClaim.holds_of_wide 5 Try.f5 rfl rfl rfl rfl rfl rfl rfl ⟨rfl, rfl, rfl, rfl, rfl⟩ rfl rfl rfl rfl rfl (by kernel_rfl) Try.func5 (by kernel_rfl)
    (of_decide_eq_true (by kernel_rfl)) (by unfold Func.isWrapper; first | (rw [if_pos (by decide +kernel)]; kernel_rfl) | (rw [if_neg (by decide +kernel)]; exact ⟨rfl, rfl⟩))
    (fun os started H enc _ => lifted os started H enc)
theorem proved : Rows.FnEnvelopesSaid := over
#print axioms proved
end Go.Proofs.Ytkabbddhdnddoaa.fnEnvelopes
namespace Go.Proofs.Ytkabbddhdnddoaa
/-- The row, under a short name, for the claim. -/
theorem fnEnvelopes_holds : Rows.FnEnvelopesSaid := fnEnvelopes.proved
end Go.Proofs.Ytkabbddhdnddoaa
