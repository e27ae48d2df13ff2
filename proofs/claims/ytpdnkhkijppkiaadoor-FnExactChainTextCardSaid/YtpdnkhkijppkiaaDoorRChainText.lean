/- The row and the tied card of the law FnExactChainText: whatever is handed in, true. Condition: the listed tables of the library hold what the program's text lays (the card ties them). -/
import Derived.Test.YtpdnkhkijppkiaaDoorRows
import Derived.Test.YtpdnkhkijppkiaaDoorLChainText
import Derived.WalkKit
import Derived.ProofKit
import Derived.OpenShut
import Derived.ChangeOld
import Derived.Below
import Derived.SizedLaws
import Derived.LaidMore
import Derived.Handed
import Derived.Stop.Joined
import Derived.SevenTiedAt
import Derived.Test.YtpdnkhkijppkiaaDoorCards
import Derived.Test.YtpdnkhkijppkiaaDoorTie
namespace Go.Proofs.YtpdnkhkijppkiaaDoor.fnExactChainText
open Go.ChangeShapes Go.WideShapes Go.ChangeAt Go.RowKit
set_option linter.unusedVariables false
theorem own : ownKnob Tryd.prog.godebug = none := by kernel_rfl
theorem laidOut : laidOutB Tryd.prog = true := by kernel_rfl
theorem shapes : Tryd.f3.params.toList.mapM (E.shV Tryd.prog) = some [(false, .sl 3 E.effSh)] := by kernel_rfl
theorem readable : Tryd.f3.params.toList.all (fun t => Tryd.prog.readableRec t && decide (t < Tryd.prog.types.size)) = true := by kernel_rfl
set_option maxRecDepth 100000 in
/-- The heap in which the text has laid the variables. -/
theorem door_met (os : Os) (args : Array Value) : laidMetH Tryd.prog Rows.fnExactChainTextRow.laid ((World.doorLaid Tryd.prog 24 os).forCall (fun _ _ => 0) ⟨#[], args, []⟩).memory :=
  laidMetH_of_parts3 (fuel := 8) (laidMet_of_run' 8 (by kernel_rfl) (by kernel_rfl)) (by kernel_rfl) (by kernel_rfl)
set_option maxRecDepth 100000 in
theorem lifted (os : Os) (started : os.Started) (H : Type) (enc : TypeId × Value → H) :
    ReturnsInHanded {} Tryd.checked os 3 .any (fun w args => (Rows.fnExactChainTextSpec.pre enc Tryd.prog Tryd.f3 Rows.fnExactChainTextRow.domain false w args ∧ laidMetH Tryd.prog Rows.fnExactChainTextRow.laid w) ∧ sizedMet enc Tryd.prog Tryd.f3 (OpenSpec.ofChange Rows.fnExactChainTextSpec) false w args) (Rows.fnExactChainTextSpec.post enc Tryd.prog Tryd.f3 false true false false) := by
  refine returnsInHanded_of_change_and (C := Tryd.checked) (X := fun w _ => laidMetH Tryd.prog Rows.fnExactChainTextRow.laid w) (fun _ _ _ hh h => h.of_heap hh) own started (by kernel_rfl) Tryd.func3
    (ChangeSpec.witness_shaped (enc := enc) (C := Tryd.checked) (os := os) (X := fun w _ => laidMetH Tryd.prog Rows.fnExactChainTextRow.laid w) false (World.doorLaid Tryd.prog 24 os) #[.slice none 0 0] 8 rfl (World.shaped_of_RefB (by kernel_rfl) (by kernel_rfl)) (by kernel_rfl) (by kernel_rfl) (by kernel_rfl) (door_met os _)) ?_
  intro W base args ds gs before hval0 hW hcnd hsz0 _ _
  have hsz : (DataW.weightsEach Tryd.prog (Tryd.f3.params.toList ++ Rows.fnExactChainTextSpec.plain.varTypes Tryd.prog) (ds ++ gs)).all (· ≤ reachBytes) = true := hsz0
  have hval : ∀ (j : Nat) t v, Tryd.f3.params[j]? = some t → args[j]? = some v → Value.okWide Tryd.prog W .any base t v := hval0
  have hW' := hW
  obtain ⟨p, q, hA0, hV, rfl, hfz, hnd⟩ := hW
  have hA : DataW.TrodAll enc Tryd.prog W 0 (fun _ => true) true Tryd.f3.params.toList args.toList ds p := hA0
  obtain ⟨rfl, rfl⟩ := trodVars_none hV
  have hsz2 : (DataW.weightsEach Tryd.prog Tryd.f3.params.toList ds).all (· ≤ reachBytes) = true := by
    have e : Rows.fnExactChainTextSpec.plain.varTypes Tryd.prog = [] := rfl
    rw [e, List.append_nil, List.append_nil] at hsz
    exact hsz
  have hv : ∀ (j : Nat) t v, Tryd.f3.params.toList[j]? = some t → args.toList[j]? = some v → Value.okWide Tryd.prog W .any base t v := fun j t v h1 h2 =>
    hval j t v (by rw [← Array.getElem?_toList]; exact h1) (by rw [← Array.getElem?_toList]; exact h2)
  have hd : ∃ d0, ds = [d0] := by
    have hB := hA
    rw [Tryd.params3] at hB
    obtain ⟨v0, vs0, d0, ds0, p0, q0, _, rfl, _, h0, r0⟩ := trodAll_cons hB
    replace hB := r0
    obtain ⟨_, rfl, _⟩ := trodAll_nil hB
    exact ⟨d0, rfl⟩
  obtain ⟨d0, rfl⟩ := hd
  have key := E.law_end (P := Tryd.prog) (W := W) (E.ChainText.sysOK) shapes E.lawChainText hv hA hsz2
  rw [Array.toArray_toList] at key
  refine key.mono fun e W' ⟨he, bel⟩ => ?_
  subst he
  exact ⟨_, rfl, _, _, _, [], _, [], hW', trodAll_mk1 (shut_bool Tryd.underlying4 _), E.Below.trodAll laidOut readable hA bel, rfl, bel.frame _, fun h => by cases h⟩
theorem over : Rows.fnExactChainTextRow.holds Tryd.pinned (OpenSpec.ofChange Rows.fnExactChainTextSpec) :=
  OpenClaim.holds_of_wide 3 Tryd.f3 rfl rfl rfl rfl rfl rfl rfl ⟨rfl, rfl, rfl, rfl, rfl⟩ rfl rfl rfl rfl rfl (by kernel_rfl) Tryd.func3 (by kernel_rfl)
    (of_decide_eq_true (by kernel_rfl)) (by unfold Func.isWrapper; first | (rw [if_pos (by decide +kernel)]; kernel_rfl) | (rw [if_neg (by decide +kernel)]; exact ⟨rfl, rfl⟩))
    (fun os started H enc _ => lifted os started H enc)
theorem proved : Rows.FnExactChainTextSaid := over
theorem card : Rows.FnExactChainTextCardSaid :=
  Claim7.holds_tied_plain_at .later [] [.data, .data, .data] true (true, "1aad5b55e230459af40265958854676ae58a66f3ddb23dfcc04dd816e2b954b2") false
    proved (fun _ h => by cases h) (by kernel_rfl) (fun _ h => by cases h) fnExactChainText_row_tie rfl ⟨rfl, rfl⟩ (by kernel_rfl) rfl
    (fun f fn hf hfn => by
      obtain rfl : f = 3 := Option.some.inj ((show Tryd.prog.funcNamed "loop.example/g01170/laws.FnExactChainText" = some 3 by kernel_rfl).symm.trans hf) |>.symm
      obtain rfl : fn = Tryd.f3 := (Option.some.inj (Tryd.func3.symm.trans hfn)).symm
      exact ⟨by kernel_rfl, fun j t ht => by
        rw [Tryd.params3] at ht
        have hm : t ∈ [22] := by simpa using Array.mem_of_getElem? ht
        have hall : ([22].all fun u => !Tryd.prog.wantsStandIn u) = true := by kernel_rfl
        exact (show Tryd.prog.wantsStandIn t = false by simpa using List.all_eq_true.1 hall t hm)⟩)
    (by kernel_rfl)
#print axioms card
end Go.Proofs.YtpdnkhkijppkiaaDoor.fnExactChainText
namespace Go.Proofs.YtpdnkhkijppkiaaDoor
/-- The card, under a short name, for the claim. -/
theorem fnExactChainText_holds : Rows.FnExactChainTextCardSaid := fnExactChainText.card
end Go.Proofs.YtpdnkhkijppkiaaDoor
