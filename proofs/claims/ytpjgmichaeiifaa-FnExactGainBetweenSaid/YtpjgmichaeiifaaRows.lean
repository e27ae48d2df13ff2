/-
  No cell of these rows narrows 'for every input' (looked for: loops, veiled, ifaces, maps, wideKeys, modest, calm, conditions, laid).
  DERIVED. THE GIVEN ROWS OF THIS SEAT. 12 by the template 'for every input the law returns true; each argument reads behind the call as it read before'; 0 by the template 'total and deterministic' (their statements: YtpjgmichaeiifaaTotals.lean).
  GIVEN WITH THE SEED: the statements are not yours to turn. If you find one false, say at which input.
  Laid BY PROGRAM, IN A SANDBOX (cutbox-rows.mjs): the forced cells as the released guide's own fill.sh prints them over the translation 92bf00627b361a5a… (all of the seat's roots in one cut). By AI agents, Wed Nov 11 2026. No macro, syntax, notation, axiom, sorry.
-/
import Derived.Test.YtpjgmichaeiifaaChecked
import GoSem.Claim
import GoSem.ClaimJoined
import GoSem.ClaimMapViews
import Derived.JoinedTies
import Derived.KernelRfl
namespace Go.Proofs.Ytpjgmichaeiifaa
/- THE CELL 'sum', in the pinned program and in every row, IS THE sha256 OF THE DUMP (.gsa) THAT YtpjgmichaeiifaaProg.lean LOADS. Nothing in Lean hashes anything: it is a label: what it is worth is what the hold of that sum in a sandbox is worth. -/
noncomputable def Try.pinned : Pinned := { name := "ytpjgmichaeiifaa", sum := "92bf00627b361a5aedf3839dc1a25b78921d8e0fc66133256859eaad47cc9f87", checked := Try.checked }
namespace Rows
def none {H : Type} : Left H := { results := [], args := [] }

/-- 'laws.FnForms': WHATEVER THE INPUT: true; the input reads as it did. -/
def fnFormsSpec : ChangeSpec := { name := "fnForms", fn := fun _ => fun
  | [d1, d2] => { results := [.lit (.bool true)], args := [d1, d2] }
  | _ => none }
def fnFormsRow : OpenClaim := { program := "ytpjgmichaeiifaa", sum := "92bf00627b361a5aedf3839dc1a25b78921d8e0fc66133256859eaad47cc9f87", func := "loop.example/g01170/laws.FnForms", spec := "fnForms", inPlace := ["math.Float64bits", "math.Float64frombits"], apart := false }
def FnFormsSaid : Prop := fnFormsRow.holds Try.pinned (OpenSpec.ofChange fnFormsSpec)

/-- ITS FALSE NEIGHBOUR: 'it returns false'. Refute it at one input. -/
def fnFormsWrong : ChangeSpec := { name := "fnForms", fn := fun _ => fun
  | [d1, d2] => { results := [.lit (.bool false)], args := [d1, d2] }
  | _ => none }
def FnFormsWrongFalsely : Prop := fnFormsRow.holds Try.pinned (OpenSpec.ofChange fnFormsWrong)

/-- 'laws.FnExactLowerBy': WHATEVER THE INPUT: true; the input reads as it did. -/
def fnExactLowerBySpec : ChangeSpec := { name := "fnExactLowerBy", fn := fun _ => fun
  | [d1, d2, d3] => { results := [.lit (.bool true)], args := [d1, d2, d3] }
  | _ => none }
def fnExactLowerByRow : OpenClaim := { program := "ytpjgmichaeiifaa", sum := "92bf00627b361a5aedf3839dc1a25b78921d8e0fc66133256859eaad47cc9f87", func := "loop.example/g01170/laws.FnExactLowerBy", spec := "fnExactLowerBy", apart := false }
def FnExactLowerBySaid : Prop := fnExactLowerByRow.holds Try.pinned (OpenSpec.ofChange fnExactLowerBySpec)

/-- ITS FALSE NEIGHBOUR: 'it returns false'. Refute it at one input. -/
def fnExactLowerByWrong : ChangeSpec := { name := "fnExactLowerBy", fn := fun _ => fun
  | [d1, d2, d3] => { results := [.lit (.bool false)], args := [d1, d2, d3] }
  | _ => none }
def FnExactLowerByWrongFalsely : Prop := fnExactLowerByRow.holds Try.pinned (OpenSpec.ofChange fnExactLowerByWrong)

/-- 'laws.FnExactSamplesOf': WHATEVER THE INPUT: true; the input reads as it did. -/
def fnExactSamplesOfSpec : ChangeSpec := { name := "fnExactSamplesOf", fn := fun _ => fun
  | [d1, d2] => { results := [.lit (.bool true)], args := [d1, d2] }
  | _ => none }
def fnExactSamplesOfRow : OpenClaim := { program := "ytpjgmichaeiifaa", sum := "92bf00627b361a5aedf3839dc1a25b78921d8e0fc66133256859eaad47cc9f87", func := "loop.example/g01170/laws.FnExactSamplesOf", spec := "fnExactSamplesOf", apart := false }
def FnExactSamplesOfSaid : Prop := fnExactSamplesOfRow.holds Try.pinned (OpenSpec.ofChange fnExactSamplesOfSpec)

/-- ITS FALSE NEIGHBOUR: 'it returns false'. Refute it at one input. -/
def fnExactSamplesOfWrong : ChangeSpec := { name := "fnExactSamplesOf", fn := fun _ => fun
  | [d1, d2] => { results := [.lit (.bool false)], args := [d1, d2] }
  | _ => none }
def FnExactSamplesOfWrongFalsely : Prop := fnExactSamplesOfRow.holds Try.pinned (OpenSpec.ofChange fnExactSamplesOfWrong)

/-- 'laws.FnExactRaiseBy': WHATEVER THE INPUT: true; the input reads as it did. -/
def fnExactRaiseBySpec : ChangeSpec := { name := "fnExactRaiseBy", fn := fun _ => fun
  | [d1, d2, d3] => { results := [.lit (.bool true)], args := [d1, d2, d3] }
  | _ => none }
def fnExactRaiseByRow : OpenClaim := { program := "ytpjgmichaeiifaa", sum := "92bf00627b361a5aedf3839dc1a25b78921d8e0fc66133256859eaad47cc9f87", func := "loop.example/g01170/laws.FnExactRaiseBy", spec := "fnExactRaiseBy", apart := false }
def FnExactRaiseBySaid : Prop := fnExactRaiseByRow.holds Try.pinned (OpenSpec.ofChange fnExactRaiseBySpec)

/-- ITS FALSE NEIGHBOUR: 'it returns false'. Refute it at one input. -/
def fnExactRaiseByWrong : ChangeSpec := { name := "fnExactRaiseBy", fn := fun _ => fun
  | [d1, d2, d3] => { results := [.lit (.bool false)], args := [d1, d2, d3] }
  | _ => none }
def FnExactRaiseByWrongFalsely : Prop := fnExactRaiseByRow.holds Try.pinned (OpenSpec.ofChange fnExactRaiseByWrong)

/-- 'laws.FnExactLaneAt': WHATEVER THE INPUT: true; the input reads as it did. -/
def fnExactLaneAtSpec : ChangeSpec := { name := "fnExactLaneAt", fn := fun _ => fun
  | [d1, d2] => { results := [.lit (.bool true)], args := [d1, d2] }
  | _ => none }
def fnExactLaneAtRow : OpenClaim := { program := "ytpjgmichaeiifaa", sum := "92bf00627b361a5aedf3839dc1a25b78921d8e0fc66133256859eaad47cc9f87", func := "loop.example/g01170/laws.FnExactLaneAt", spec := "fnExactLaneAt", apart := false }
def FnExactLaneAtSaid : Prop := fnExactLaneAtRow.holds Try.pinned (OpenSpec.ofChange fnExactLaneAtSpec)

/-- ITS FALSE NEIGHBOUR: 'it returns false'. Refute it at one input. -/
def fnExactLaneAtWrong : ChangeSpec := { name := "fnExactLaneAt", fn := fun _ => fun
  | [d1, d2] => { results := [.lit (.bool false)], args := [d1, d2] }
  | _ => none }
def FnExactLaneAtWrongFalsely : Prop := fnExactLaneAtRow.holds Try.pinned (OpenSpec.ofChange fnExactLaneAtWrong)

/-- 'laws.FnExactValidEffect': WHATEVER THE INPUT: true; the input reads as it did. -/
def fnExactValidEffectSpec : ChangeSpec := { name := "fnExactValidEffect", fn := fun _ => fun
  | [d] => { results := [.lit (.bool true)], args := [d] }
  | _ => none }
def fnExactValidEffectRow : OpenClaim := { program := "ytpjgmichaeiifaa", sum := "92bf00627b361a5aedf3839dc1a25b78921d8e0fc66133256859eaad47cc9f87", func := "loop.example/g01170/laws.FnExactValidEffect", spec := "fnExactValidEffect", apart := false }
def FnExactValidEffectSaid : Prop := fnExactValidEffectRow.holds Try.pinned (OpenSpec.ofChange fnExactValidEffectSpec)

/-- ITS FALSE NEIGHBOUR: 'it returns false'. Refute it at one input. -/
def fnExactValidEffectWrong : ChangeSpec := { name := "fnExactValidEffect", fn := fun _ => fun
  | [d] => { results := [.lit (.bool false)], args := [d] }
  | _ => none }
def FnExactValidEffectWrongFalsely : Prop := fnExactValidEffectRow.holds Try.pinned (OpenSpec.ofChange fnExactValidEffectWrong)

/-- 'laws.FnExactAreTracks': WHATEVER THE INPUT: true; the input reads as it did. -/
def fnExactAreTracksSpec : ChangeSpec := { name := "fnExactAreTracks", fn := fun _ => fun
  | [d] => { results := [.lit (.bool true)], args := [d] }
  | _ => none }
def fnExactAreTracksRow : OpenClaim := { program := "ytpjgmichaeiifaa", sum := "92bf00627b361a5aedf3839dc1a25b78921d8e0fc66133256859eaad47cc9f87", func := "loop.example/g01170/laws.FnExactAreTracks", spec := "fnExactAreTracks", apart := false }
def FnExactAreTracksSaid : Prop := fnExactAreTracksRow.holds Try.pinned (OpenSpec.ofChange fnExactAreTracksSpec)

/-- ITS FALSE NEIGHBOUR: 'it returns false'. Refute it at one input. -/
def fnExactAreTracksWrong : ChangeSpec := { name := "fnExactAreTracks", fn := fun _ => fun
  | [d] => { results := [.lit (.bool false)], args := [d] }
  | _ => none }
def FnExactAreTracksWrongFalsely : Prop := fnExactAreTracksRow.holds Try.pinned (OpenSpec.ofChange fnExactAreTracksWrong)

/-- 'laws.FnExactPlayLoop': WHATEVER THE INPUT: true; the input reads as it did. -/
def fnExactPlayLoopSpec : ChangeSpec := { name := "fnExactPlayLoop", fn := fun _ => fun
  | [d1, d2, d3, d4, d5, d6] => { results := [.lit (.bool true)], args := [d1, d2, d3, d4, d5, d6] }
  | _ => none }
def fnExactPlayLoopRow : OpenClaim := { program := "ytpjgmichaeiifaa", sum := "92bf00627b361a5aedf3839dc1a25b78921d8e0fc66133256859eaad47cc9f87", func := "loop.example/g01170/laws.FnExactPlayLoop", spec := "fnExactPlayLoop", unfollowed := true, recurses := true, apart := false }
def FnExactPlayLoopSaid : Prop := fnExactPlayLoopRow.holds Try.pinned (OpenSpec.ofChange fnExactPlayLoopSpec)

/-- ITS FALSE NEIGHBOUR: 'it returns false'. Refute it at one input. -/
def fnExactPlayLoopWrong : ChangeSpec := { name := "fnExactPlayLoop", fn := fun _ => fun
  | [d1, d2, d3, d4, d5, d6] => { results := [.lit (.bool false)], args := [d1, d2, d3, d4, d5, d6] }
  | _ => none }
def FnExactPlayLoopWrongFalsely : Prop := fnExactPlayLoopRow.holds Try.pinned (OpenSpec.ofChange fnExactPlayLoopWrong)

/-- 'laws.FnExactPanOf': WHATEVER THE INPUT: true; the input reads as it did. -/
def fnExactPanOfSpec : ChangeSpec := { name := "fnExactPanOf", fn := fun _ => fun
  | [d] => { results := [.lit (.bool true)], args := [d] }
  | _ => none }
def fnExactPanOfRow : OpenClaim := { program := "ytpjgmichaeiifaa", sum := "92bf00627b361a5aedf3839dc1a25b78921d8e0fc66133256859eaad47cc9f87", func := "loop.example/g01170/laws.FnExactPanOf", spec := "fnExactPanOf", inPlace := ["math.Float64frombits", "math.Float64bits", "math.archTrunc"], apart := false }
def FnExactPanOfSaid : Prop := fnExactPanOfRow.holds Try.pinned (OpenSpec.ofChange fnExactPanOfSpec)

/-- ITS FALSE NEIGHBOUR: 'it returns false'. Refute it at one input. -/
def fnExactPanOfWrong : ChangeSpec := { name := "fnExactPanOf", fn := fun _ => fun
  | [d] => { results := [.lit (.bool false)], args := [d] }
  | _ => none }
def FnExactPanOfWrongFalsely : Prop := fnExactPanOfRow.holds Try.pinned (OpenSpec.ofChange fnExactPanOfWrong)

/-- 'laws.FnExactCodesOf': WHATEVER THE INPUT: true; the input reads as it did. -/
def fnExactCodesOfSpec : ChangeSpec := { name := "fnExactCodesOf", fn := fun _ => fun
  | [d1, d2] => { results := [.lit (.bool true)], args := [d1, d2] }
  | _ => none }
def fnExactCodesOfRow : OpenClaim := { program := "ytpjgmichaeiifaa", sum := "92bf00627b361a5aedf3839dc1a25b78921d8e0fc66133256859eaad47cc9f87", func := "loop.example/g01170/laws.FnExactCodesOf", spec := "fnExactCodesOf", inPlace := ["math.RoundToEven"], apart := false }
def FnExactCodesOfSaid : Prop := fnExactCodesOfRow.holds Try.pinned (OpenSpec.ofChange fnExactCodesOfSpec)

/-- ITS FALSE NEIGHBOUR: 'it returns false'. Refute it at one input. -/
def fnExactCodesOfWrong : ChangeSpec := { name := "fnExactCodesOf", fn := fun _ => fun
  | [d1, d2] => { results := [.lit (.bool false)], args := [d1, d2] }
  | _ => none }
def FnExactCodesOfWrongFalsely : Prop := fnExactCodesOfRow.holds Try.pinned (OpenSpec.ofChange fnExactCodesOfWrong)

/-- 'laws.FnExactGainBetween': WHATEVER THE INPUT: true; the input reads as it did. -/
def fnExactGainBetweenSpec : ChangeSpec := { name := "fnExactGainBetween", fn := fun _ => fun
  | [d1, d2, d3, d4] => { results := [.lit (.bool true)], args := [d1, d2, d3, d4] }
  | _ => none }
def fnExactGainBetweenRow : OpenClaim := { program := "ytpjgmichaeiifaa", sum := "92bf00627b361a5aedf3839dc1a25b78921d8e0fc66133256859eaad47cc9f87", func := "loop.example/g01170/laws.FnExactGainBetween", spec := "fnExactGainBetween", apart := false }
def FnExactGainBetweenSaid : Prop := fnExactGainBetweenRow.holds Try.pinned (OpenSpec.ofChange fnExactGainBetweenSpec)

/-- ITS FALSE NEIGHBOUR: 'it returns false'. Refute it at one input. -/
def fnExactGainBetweenWrong : ChangeSpec := { name := "fnExactGainBetween", fn := fun _ => fun
  | [d1, d2, d3, d4] => { results := [.lit (.bool false)], args := [d1, d2, d3, d4] }
  | _ => none }
def FnExactGainBetweenWrongFalsely : Prop := fnExactGainBetweenRow.holds Try.pinned (OpenSpec.ofChange fnExactGainBetweenWrong)

/-- 'laws.FnExactCodesShaped': WHATEVER THE INPUT: true; the input reads as it did. -/
def fnExactCodesShapedSpec : ChangeSpec := { name := "fnExactCodesShaped", fn := fun _ => fun
  | [d1, d2, d3] => { results := [.lit (.bool true)], args := [d1, d2, d3] }
  | _ => none }
def fnExactCodesShapedRow : OpenClaim := { program := "ytpjgmichaeiifaa", sum := "92bf00627b361a5aedf3839dc1a25b78921d8e0fc66133256859eaad47cc9f87", func := "loop.example/g01170/laws.FnExactCodesShaped", spec := "fnExactCodesShaped", inPlace := ["math.RoundToEven"], apart := false }
def FnExactCodesShapedSaid : Prop := fnExactCodesShapedRow.holds Try.pinned (OpenSpec.ofChange fnExactCodesShapedSpec)

/-- ITS FALSE NEIGHBOUR: 'it returns false'. Refute it at one input. -/
def fnExactCodesShapedWrong : ChangeSpec := { name := "fnExactCodesShaped", fn := fun _ => fun
  | [d1, d2, d3] => { results := [.lit (.bool false)], args := [d1, d2, d3] }
  | _ => none }
def FnExactCodesShapedWrongFalsely : Prop := fnExactCodesShapedRow.holds Try.pinned (OpenSpec.ofChange fnExactCodesShapedWrong)

/- THE SECOND FORM. 'bulk': how many values and letters a reading holds, each counted each time it is reached (what is shared counts as often as it is met; a slice's spare places count too). A statement '..UptoSaid' is the law's where the arguments, and the package variables that the reading takes, are together of bulk at most 1048576: NARROWER than '..Said'. Prove '..Said' where nothing that the law and all that it calls make is longer than what came in: it says more and counts as full. Else prove '..UptoSaid'. A law counts once. -/
mutual
def uptoBulk {H : Type} : DataW H → Nat
  | .lit (.string bytes) => bytes.length + 1
  | .lit _ => 1
  | .nil => 1
  | .ptr d => uptoBulk d + 1
  | .slice elems spare => uptoBulkAll elems + uptoBulkAll spare + 1
  | .agg parts => uptoBulkAll parts + 1
  | .iface _ d => uptoBulk d + 1
  | .map entries => uptoBulkEntries entries + 1
  | .held _ => 1
def uptoBulkAll {H : Type} : List (DataW H) → Nat
  | [] => 0
  | d :: r => uptoBulk d + uptoBulkAll r
def uptoBulkEntries {H : Type} : List (Lit × DataW H) → Nat
  | [] => 0
  | x :: r => uptoBulkEntry x + uptoBulkEntries r
def uptoBulkEntry {H : Type} : Lit × DataW H → Nat
  | (.string bytes, d) => bytes.length + uptoBulk d + 1
  | (_, d) => uptoBulk d + 1
 end
def uptoSmall : (H : Type) → List (DataW H) → Bool := fun _ ds => decide (uptoBulkAll ds ≤ 1048576)
def OpenSpec.upto (s : _root_.Go.ChangeSpec) : _root_.Go.OpenSpec := { _root_.Go.OpenSpec.ofChange s with cond := some uptoSmall }

/-- 'laws.FnForms', WHERE WHAT IT READS IS OF BULK AT MOST 1048576: true; the input reads as it did. -/
def fnFormsUptoRow : OpenClaim := { program := "ytpjgmichaeiifaa", sum := "92bf00627b361a5aedf3839dc1a25b78921d8e0fc66133256859eaad47cc9f87", func := "loop.example/g01170/laws.FnForms", spec := "fnForms", inPlace := ["math.Float64bits", "math.Float64frombits"], apart := false, narrowed := true }
def FnFormsUptoSaid : Prop := fnFormsUptoRow.holds Try.pinned (OpenSpec.upto fnFormsSpec)

/-- 'laws.FnExactLowerBy', WHERE WHAT IT READS IS OF BULK AT MOST 1048576: true; the input reads as it did. -/
def fnExactLowerByUptoRow : OpenClaim := { program := "ytpjgmichaeiifaa", sum := "92bf00627b361a5aedf3839dc1a25b78921d8e0fc66133256859eaad47cc9f87", func := "loop.example/g01170/laws.FnExactLowerBy", spec := "fnExactLowerBy", apart := false, narrowed := true }
def FnExactLowerByUptoSaid : Prop := fnExactLowerByUptoRow.holds Try.pinned (OpenSpec.upto fnExactLowerBySpec)

/-- 'laws.FnExactSamplesOf', WHERE WHAT IT READS IS OF BULK AT MOST 1048576: true; the input reads as it did. -/
def fnExactSamplesOfUptoRow : OpenClaim := { program := "ytpjgmichaeiifaa", sum := "92bf00627b361a5aedf3839dc1a25b78921d8e0fc66133256859eaad47cc9f87", func := "loop.example/g01170/laws.FnExactSamplesOf", spec := "fnExactSamplesOf", apart := false, narrowed := true }
def FnExactSamplesOfUptoSaid : Prop := fnExactSamplesOfUptoRow.holds Try.pinned (OpenSpec.upto fnExactSamplesOfSpec)

/-- 'laws.FnExactRaiseBy', WHERE WHAT IT READS IS OF BULK AT MOST 1048576: true; the input reads as it did. -/
def fnExactRaiseByUptoRow : OpenClaim := { program := "ytpjgmichaeiifaa", sum := "92bf00627b361a5aedf3839dc1a25b78921d8e0fc66133256859eaad47cc9f87", func := "loop.example/g01170/laws.FnExactRaiseBy", spec := "fnExactRaiseBy", apart := false, narrowed := true }
def FnExactRaiseByUptoSaid : Prop := fnExactRaiseByUptoRow.holds Try.pinned (OpenSpec.upto fnExactRaiseBySpec)

/-- 'laws.FnExactLaneAt', WHERE WHAT IT READS IS OF BULK AT MOST 1048576: true; the input reads as it did. -/
def fnExactLaneAtUptoRow : OpenClaim := { program := "ytpjgmichaeiifaa", sum := "92bf00627b361a5aedf3839dc1a25b78921d8e0fc66133256859eaad47cc9f87", func := "loop.example/g01170/laws.FnExactLaneAt", spec := "fnExactLaneAt", apart := false, narrowed := true }
def FnExactLaneAtUptoSaid : Prop := fnExactLaneAtUptoRow.holds Try.pinned (OpenSpec.upto fnExactLaneAtSpec)

/-- 'laws.FnExactValidEffect', WHERE WHAT IT READS IS OF BULK AT MOST 1048576: true; the input reads as it did. -/
def fnExactValidEffectUptoRow : OpenClaim := { program := "ytpjgmichaeiifaa", sum := "92bf00627b361a5aedf3839dc1a25b78921d8e0fc66133256859eaad47cc9f87", func := "loop.example/g01170/laws.FnExactValidEffect", spec := "fnExactValidEffect", apart := false, narrowed := true }
def FnExactValidEffectUptoSaid : Prop := fnExactValidEffectUptoRow.holds Try.pinned (OpenSpec.upto fnExactValidEffectSpec)

/-- 'laws.FnExactAreTracks', WHERE WHAT IT READS IS OF BULK AT MOST 1048576: true; the input reads as it did. -/
def fnExactAreTracksUptoRow : OpenClaim := { program := "ytpjgmichaeiifaa", sum := "92bf00627b361a5aedf3839dc1a25b78921d8e0fc66133256859eaad47cc9f87", func := "loop.example/g01170/laws.FnExactAreTracks", spec := "fnExactAreTracks", apart := false, narrowed := true }
def FnExactAreTracksUptoSaid : Prop := fnExactAreTracksUptoRow.holds Try.pinned (OpenSpec.upto fnExactAreTracksSpec)

/-- 'laws.FnExactPlayLoop', WHERE WHAT IT READS IS OF BULK AT MOST 1048576: true; the input reads as it did. -/
def fnExactPlayLoopUptoRow : OpenClaim := { program := "ytpjgmichaeiifaa", sum := "92bf00627b361a5aedf3839dc1a25b78921d8e0fc66133256859eaad47cc9f87", func := "loop.example/g01170/laws.FnExactPlayLoop", spec := "fnExactPlayLoop", unfollowed := true, recurses := true, apart := false, narrowed := true }
def FnExactPlayLoopUptoSaid : Prop := fnExactPlayLoopUptoRow.holds Try.pinned (OpenSpec.upto fnExactPlayLoopSpec)

/-- 'laws.FnExactPanOf', WHERE WHAT IT READS IS OF BULK AT MOST 1048576: true; the input reads as it did. -/
def fnExactPanOfUptoRow : OpenClaim := { program := "ytpjgmichaeiifaa", sum := "92bf00627b361a5aedf3839dc1a25b78921d8e0fc66133256859eaad47cc9f87", func := "loop.example/g01170/laws.FnExactPanOf", spec := "fnExactPanOf", inPlace := ["math.Float64frombits", "math.Float64bits", "math.archTrunc"], apart := false, narrowed := true }
def FnExactPanOfUptoSaid : Prop := fnExactPanOfUptoRow.holds Try.pinned (OpenSpec.upto fnExactPanOfSpec)

/-- 'laws.FnExactCodesOf', WHERE WHAT IT READS IS OF BULK AT MOST 1048576: true; the input reads as it did. -/
def fnExactCodesOfUptoRow : OpenClaim := { program := "ytpjgmichaeiifaa", sum := "92bf00627b361a5aedf3839dc1a25b78921d8e0fc66133256859eaad47cc9f87", func := "loop.example/g01170/laws.FnExactCodesOf", spec := "fnExactCodesOf", inPlace := ["math.RoundToEven"], apart := false, narrowed := true }
def FnExactCodesOfUptoSaid : Prop := fnExactCodesOfUptoRow.holds Try.pinned (OpenSpec.upto fnExactCodesOfSpec)

/-- 'laws.FnExactGainBetween', WHERE WHAT IT READS IS OF BULK AT MOST 1048576: true; the input reads as it did. -/
def fnExactGainBetweenUptoRow : OpenClaim := { program := "ytpjgmichaeiifaa", sum := "92bf00627b361a5aedf3839dc1a25b78921d8e0fc66133256859eaad47cc9f87", func := "loop.example/g01170/laws.FnExactGainBetween", spec := "fnExactGainBetween", apart := false, narrowed := true }
def FnExactGainBetweenUptoSaid : Prop := fnExactGainBetweenUptoRow.holds Try.pinned (OpenSpec.upto fnExactGainBetweenSpec)

/-- 'laws.FnExactCodesShaped', WHERE WHAT IT READS IS OF BULK AT MOST 1048576: true; the input reads as it did. -/
def fnExactCodesShapedUptoRow : OpenClaim := { program := "ytpjgmichaeiifaa", sum := "92bf00627b361a5aedf3839dc1a25b78921d8e0fc66133256859eaad47cc9f87", func := "loop.example/g01170/laws.FnExactCodesShaped", spec := "fnExactCodesShaped", inPlace := ["math.RoundToEven"], apart := false, narrowed := true }
def FnExactCodesShapedUptoSaid : Prop := fnExactCodesShapedUptoRow.holds Try.pinned (OpenSpec.upto fnExactCodesShapedSpec)

end Rows
end Go.Proofs.Ytpjgmichaeiifaa
