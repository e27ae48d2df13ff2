/-
  No cell of these rows narrows 'for every input' (looked for: loops, veiled, ifaces, maps, wideKeys, modest, calm, conditions, laid).
  DERIVED. THE GIVEN ROWS OF THIS SEAT. 12 by the template 'for every input the law returns true; each argument reads behind the call as it read before'; 0 by the template 'total and deterministic' (their statements: YtonfalhekphaeaaTotals.lean).
  GIVEN WITH THE SEED: the statements are not yours to turn. If you find one false, say at which input.
  Laid BY PROGRAM, IN A SANDBOX (cutbox-rows.mjs): the forced cells as the released guide's own fill.sh prints them over the translation c522a560dc62781f… (all of the seat's roots in one cut). By AI agents, Wed Nov 11 2026. No macro, syntax, notation, axiom, sorry.
-/
import Derived.Test.YtonfalhekphaeaaChecked
import GoSem.Claim
import GoSem.ClaimJoined
import GoSem.ClaimMapViews
import Derived.JoinedTies
import Derived.KernelRfl
namespace Go.Proofs.Ytonfalhekphaeaa
/- THE CELL 'sum', in the pinned program and in every row, IS THE sha256 OF THE DUMP (.gsa) THAT YtonfalhekphaeaaProg.lean LOADS. Nothing in Lean hashes anything: it is a label: what it is worth is what the hold of that sum in a sandbox is worth. -/
noncomputable def Try.pinned : Pinned := { name := "ytonfalhekphaeaa", sum := "c522a560dc62781f5d61f68e694d5b323c044c4c8738f051422bef73a9ee4356", checked := Try.checked }
namespace Rows
def none {H : Type} : Left H := { results := [], args := [] }

/-- 'laws.FnExactCodesWith': WHATEVER THE INPUT: true; the input reads as it did. -/
def fnExactCodesWithSpec : ChangeSpec := { name := "fnExactCodesWith", fn := fun _ => fun
  | [d1, d2, d3] => { results := [.lit (.bool true)], args := [d1, d2, d3] }
  | _ => none }
def fnExactCodesWithRow : OpenClaim := { program := "ytonfalhekphaeaa", sum := "c522a560dc62781f5d61f68e694d5b323c044c4c8738f051422bef73a9ee4356", func := "loop.example/g01170/laws.FnExactCodesWith", spec := "fnExactCodesWith", inPlace := ["math.RoundToEven"], apart := false }
def FnExactCodesWithSaid : Prop := fnExactCodesWithRow.holds Try.pinned (OpenSpec.ofChange fnExactCodesWithSpec)

/-- ITS FALSE NEIGHBOUR: 'it returns false'. Refute it at one input. -/
def fnExactCodesWithWrong : ChangeSpec := { name := "fnExactCodesWith", fn := fun _ => fun
  | [d1, d2, d3] => { results := [.lit (.bool false)], args := [d1, d2, d3] }
  | _ => none }
def FnExactCodesWithWrongFalsely : Prop := fnExactCodesWithRow.holds Try.pinned (OpenSpec.ofChange fnExactCodesWithWrong)

/-- 'laws.FnExactRunLane': WHATEVER THE INPUT: true; the input reads as it did. -/
def fnExactRunLaneSpec : ChangeSpec := { name := "fnExactRunLane", fn := fun _ => fun
  | [d1, d2, d3] => { results := [.lit (.bool true)], args := [d1, d2, d3] }
  | _ => none }
def fnExactRunLaneRow : OpenClaim := { program := "ytonfalhekphaeaa", sum := "c522a560dc62781f5d61f68e694d5b323c044c4c8738f051422bef73a9ee4356", func := "loop.example/g01170/laws.FnExactRunLane", spec := "fnExactRunLane", apart := false }
def FnExactRunLaneSaid : Prop := fnExactRunLaneRow.holds Try.pinned (OpenSpec.ofChange fnExactRunLaneSpec)

/-- ITS FALSE NEIGHBOUR: 'it returns false'. Refute it at one input. -/
def fnExactRunLaneWrong : ChangeSpec := { name := "fnExactRunLane", fn := fun _ => fun
  | [d1, d2, d3] => { results := [.lit (.bool false)], args := [d1, d2, d3] }
  | _ => none }
def FnExactRunLaneWrongFalsely : Prop := fnExactRunLaneRow.holds Try.pinned (OpenSpec.ofChange fnExactRunLaneWrong)

/-- 'laws.FnExactWaveAt': WHATEVER THE INPUT: true; the input reads as it did. -/
def fnExactWaveAtSpec : ChangeSpec := { name := "fnExactWaveAt", fn := fun _ => fun
  | [d1, d2] => { results := [.lit (.bool true)], args := [d1, d2] }
  | _ => none }
def fnExactWaveAtRow : OpenClaim := { program := "ytonfalhekphaeaa", sum := "c522a560dc62781f5d61f68e694d5b323c044c4c8738f051422bef73a9ee4356", func := "loop.example/g01170/laws.FnExactWaveAt", spec := "fnExactWaveAt", inPlace := ["math.Float64frombits", "math.Float32bits", "math.Float32frombits", "math.Float64bits", "math.archTrunc"], apart := false }
def FnExactWaveAtSaid : Prop := fnExactWaveAtRow.holds Try.pinned (OpenSpec.ofChange fnExactWaveAtSpec)

/-- ITS FALSE NEIGHBOUR: 'it returns false'. Refute it at one input. -/
def fnExactWaveAtWrong : ChangeSpec := { name := "fnExactWaveAt", fn := fun _ => fun
  | [d1, d2] => { results := [.lit (.bool false)], args := [d1, d2] }
  | _ => none }
def FnExactWaveAtWrongFalsely : Prop := fnExactWaveAtRow.holds Try.pinned (OpenSpec.ofChange fnExactWaveAtWrong)

/-- 'laws.FnExactValidChain': WHATEVER THE INPUT: true; the input reads as it did. -/
def fnExactValidChainSpec : ChangeSpec := { name := "fnExactValidChain", fn := fun _ => fun
  | [d] => { results := [.lit (.bool true)], args := [d] }
  | _ => none }
def fnExactValidChainRow : OpenClaim := { program := "ytonfalhekphaeaa", sum := "c522a560dc62781f5d61f68e694d5b323c044c4c8738f051422bef73a9ee4356", func := "loop.example/g01170/laws.FnExactValidChain", spec := "fnExactValidChain", apart := false }
def FnExactValidChainSaid : Prop := fnExactValidChainRow.holds Try.pinned (OpenSpec.ofChange fnExactValidChainSpec)

/-- ITS FALSE NEIGHBOUR: 'it returns false'. Refute it at one input. -/
def fnExactValidChainWrong : ChangeSpec := { name := "fnExactValidChain", fn := fun _ => fun
  | [d] => { results := [.lit (.bool false)], args := [d] }
  | _ => none }
def FnExactValidChainWrongFalsely : Prop := fnExactValidChainRow.holds Try.pinned (OpenSpec.ofChange fnExactValidChainWrong)

/-- 'laws.FnExactImpulseOf': WHATEVER THE INPUT: true; the input reads as it did. -/
def fnExactImpulseOfSpec : ChangeSpec := { name := "fnExactImpulseOf", fn := fun _ => fun
  | [d1, d2, d3] => { results := [.lit (.bool true)], args := [d1, d2, d3] }
  | _ => none }
def fnExactImpulseOfRow : OpenClaim := { program := "ytonfalhekphaeaa", sum := "c522a560dc62781f5d61f68e694d5b323c044c4c8738f051422bef73a9ee4356", func := "loop.example/g01170/laws.FnExactImpulseOf", spec := "fnExactImpulseOf", inPlace := ["math.Float32bits", "math.Float32frombits", "math.Float64bits", "math.Float64frombits"], apart := false }
def FnExactImpulseOfSaid : Prop := fnExactImpulseOfRow.holds Try.pinned (OpenSpec.ofChange fnExactImpulseOfSpec)

/-- ITS FALSE NEIGHBOUR: 'it returns false'. Refute it at one input. -/
def fnExactImpulseOfWrong : ChangeSpec := { name := "fnExactImpulseOf", fn := fun _ => fun
  | [d1, d2, d3] => { results := [.lit (.bool false)], args := [d1, d2, d3] }
  | _ => none }
def FnExactImpulseOfWrongFalsely : Prop := fnExactImpulseOfRow.holds Try.pinned (OpenSpec.ofChange fnExactImpulseOfWrong)

/-- 'laws.FnExactApplyLane': WHATEVER THE INPUT: true; the input reads as it did. -/
def fnExactApplyLaneSpec : ChangeSpec := { name := "fnExactApplyLane", fn := fun _ => fun
  | [d1, d2, d3] => { results := [.lit (.bool true)], args := [d1, d2, d3] }
  | _ => none }
def fnExactApplyLaneRow : OpenClaim := { program := "ytonfalhekphaeaa", sum := "c522a560dc62781f5d61f68e694d5b323c044c4c8738f051422bef73a9ee4356", func := "loop.example/g01170/laws.FnExactApplyLane", spec := "fnExactApplyLane", apart := false }
def FnExactApplyLaneSaid : Prop := fnExactApplyLaneRow.holds Try.pinned (OpenSpec.ofChange fnExactApplyLaneSpec)

/-- ITS FALSE NEIGHBOUR: 'it returns false'. Refute it at one input. -/
def fnExactApplyLaneWrong : ChangeSpec := { name := "fnExactApplyLane", fn := fun _ => fun
  | [d1, d2, d3] => { results := [.lit (.bool false)], args := [d1, d2, d3] }
  | _ => none }
def FnExactApplyLaneWrongFalsely : Prop := fnExactApplyLaneRow.holds Try.pinned (OpenSpec.ofChange fnExactApplyLaneWrong)

/-- 'laws.FnExactUsedNodes': WHATEVER THE INPUT: true; the input reads as it did. -/
def fnExactUsedNodesSpec : ChangeSpec := { name := "fnExactUsedNodes", fn := fun _ => fun
  | [d1, d2] => { results := [.lit (.bool true)], args := [d1, d2] }
  | _ => none }
def fnExactUsedNodesRow : OpenClaim := { program := "ytonfalhekphaeaa", sum := "c522a560dc62781f5d61f68e694d5b323c044c4c8738f051422bef73a9ee4356", func := "loop.example/g01170/laws.FnExactUsedNodes", spec := "fnExactUsedNodes", apart := false }
def FnExactUsedNodesSaid : Prop := fnExactUsedNodesRow.holds Try.pinned (OpenSpec.ofChange fnExactUsedNodesSpec)

/-- ITS FALSE NEIGHBOUR: 'it returns false'. Refute it at one input. -/
def fnExactUsedNodesWrong : ChangeSpec := { name := "fnExactUsedNodes", fn := fun _ => fun
  | [d1, d2] => { results := [.lit (.bool false)], args := [d1, d2] }
  | _ => none }
def FnExactUsedNodesWrongFalsely : Prop := fnExactUsedNodesRow.holds Try.pinned (OpenSpec.ofChange fnExactUsedNodesWrong)

/-- 'laws.FnExactReadAt': WHATEVER THE INPUT: true; the input reads as it did. -/
def fnExactReadAtSpec : ChangeSpec := { name := "fnExactReadAt", fn := fun _ => fun
  | [d1, d2, d3] => { results := [.lit (.bool true)], args := [d1, d2, d3] }
  | _ => none }
def fnExactReadAtRow : OpenClaim := { program := "ytonfalhekphaeaa", sum := "c522a560dc62781f5d61f68e694d5b323c044c4c8738f051422bef73a9ee4356", func := "loop.example/g01170/laws.FnExactReadAt", spec := "fnExactReadAt", inPlace := ["math.archFloor", "math.Float64bits", "math.Float64frombits", "math.archTrunc"], unfollowed := true, recurses := true, apart := false }
def FnExactReadAtSaid : Prop := fnExactReadAtRow.holds Try.pinned (OpenSpec.ofChange fnExactReadAtSpec)

/-- ITS FALSE NEIGHBOUR: 'it returns false'. Refute it at one input. -/
def fnExactReadAtWrong : ChangeSpec := { name := "fnExactReadAt", fn := fun _ => fun
  | [d1, d2, d3] => { results := [.lit (.bool false)], args := [d1, d2, d3] }
  | _ => none }
def FnExactReadAtWrongFalsely : Prop := fnExactReadAtRow.holds Try.pinned (OpenSpec.ofChange fnExactReadAtWrong)

/-- 'laws.FnExactFilterBothWays': WHATEVER THE INPUT: true; the input reads as it did. -/
def fnExactFilterBothWaysSpec : ChangeSpec := { name := "fnExactFilterBothWays", fn := fun _ => fun
  | [d1, d2] => { results := [.lit (.bool true)], args := [d1, d2] }
  | _ => none }
def fnExactFilterBothWaysRow : OpenClaim := { program := "ytonfalhekphaeaa", sum := "c522a560dc62781f5d61f68e694d5b323c044c4c8738f051422bef73a9ee4356", func := "loop.example/g01170/laws.FnExactFilterBothWays", spec := "fnExactFilterBothWays", inPlace := ["math.Float32bits", "math.Float32frombits", "math.Float64bits", "math.Float64frombits"], apart := false }
def FnExactFilterBothWaysSaid : Prop := fnExactFilterBothWaysRow.holds Try.pinned (OpenSpec.ofChange fnExactFilterBothWaysSpec)

/-- ITS FALSE NEIGHBOUR: 'it returns false'. Refute it at one input. -/
def fnExactFilterBothWaysWrong : ChangeSpec := { name := "fnExactFilterBothWays", fn := fun _ => fun
  | [d1, d2] => { results := [.lit (.bool false)], args := [d1, d2] }
  | _ => none }
def FnExactFilterBothWaysWrongFalsely : Prop := fnExactFilterBothWaysRow.holds Try.pinned (OpenSpec.ofChange fnExactFilterBothWaysWrong)

/-- 'laws.FnOscillators': WHATEVER THE INPUT: true; the input reads as it did. -/
def fnOscillatorsSpec : ChangeSpec := { name := "fnOscillators", fn := fun _ => fun
  | [d1, d2] => { results := [.lit (.bool true)], args := [d1, d2] }
  | _ => none }
def fnOscillatorsRow : OpenClaim := { program := "ytonfalhekphaeaa", sum := "c522a560dc62781f5d61f68e694d5b323c044c4c8738f051422bef73a9ee4356", func := "loop.example/g01170/laws.FnOscillators", spec := "fnOscillators", inPlace := ["math.Float64frombits", "math.Float64bits", "math.archTrunc", "math.Float32bits"], apart := false }
def FnOscillatorsSaid : Prop := fnOscillatorsRow.holds Try.pinned (OpenSpec.ofChange fnOscillatorsSpec)

/-- ITS FALSE NEIGHBOUR: 'it returns false'. Refute it at one input. -/
def fnOscillatorsWrong : ChangeSpec := { name := "fnOscillators", fn := fun _ => fun
  | [d1, d2] => { results := [.lit (.bool false)], args := [d1, d2] }
  | _ => none }
def FnOscillatorsWrongFalsely : Prop := fnOscillatorsRow.holds Try.pinned (OpenSpec.ofChange fnOscillatorsWrong)

/-- 'laws.FnExactLatenessOf': WHATEVER THE INPUT: true; the input reads as it did. -/
def fnExactLatenessOfSpec : ChangeSpec := { name := "fnExactLatenessOf", fn := fun _ => fun
  | [d] => { results := [.lit (.bool true)], args := [d] }
  | _ => none }
def fnExactLatenessOfRow : OpenClaim := { program := "ytonfalhekphaeaa", sum := "c522a560dc62781f5d61f68e694d5b323c044c4c8738f051422bef73a9ee4356", func := "loop.example/g01170/laws.FnExactLatenessOf", spec := "fnExactLatenessOf", apart := false }
def FnExactLatenessOfSaid : Prop := fnExactLatenessOfRow.holds Try.pinned (OpenSpec.ofChange fnExactLatenessOfSpec)

/-- ITS FALSE NEIGHBOUR: 'it returns false'. Refute it at one input. -/
def fnExactLatenessOfWrong : ChangeSpec := { name := "fnExactLatenessOf", fn := fun _ => fun
  | [d] => { results := [.lit (.bool false)], args := [d] }
  | _ => none }
def FnExactLatenessOfWrongFalsely : Prop := fnExactLatenessOfRow.holds Try.pinned (OpenSpec.ofChange fnExactLatenessOfWrong)

/-- 'laws.FnExactEndsOfNotes': WHATEVER THE INPUT: true; the input reads as it did. -/
def fnExactEndsOfNotesSpec : ChangeSpec := { name := "fnExactEndsOfNotes", fn := fun _ => fun
  | [d1, d2, d3] => { results := [.lit (.bool true)], args := [d1, d2, d3] }
  | _ => none }
def fnExactEndsOfNotesRow : OpenClaim := { program := "ytonfalhekphaeaa", sum := "c522a560dc62781f5d61f68e694d5b323c044c4c8738f051422bef73a9ee4356", func := "loop.example/g01170/laws.FnExactEndsOfNotes", spec := "fnExactEndsOfNotes", apart := false }
def FnExactEndsOfNotesSaid : Prop := fnExactEndsOfNotesRow.holds Try.pinned (OpenSpec.ofChange fnExactEndsOfNotesSpec)

/-- ITS FALSE NEIGHBOUR: 'it returns false'. Refute it at one input. -/
def fnExactEndsOfNotesWrong : ChangeSpec := { name := "fnExactEndsOfNotes", fn := fun _ => fun
  | [d1, d2, d3] => { results := [.lit (.bool false)], args := [d1, d2, d3] }
  | _ => none }
def FnExactEndsOfNotesWrongFalsely : Prop := fnExactEndsOfNotesRow.holds Try.pinned (OpenSpec.ofChange fnExactEndsOfNotesWrong)

/- THE SECOND FORM. 'bulk': how many values and letters a reading holds, each counted each time it is reached (what is shared counts as often as it is met; a slice's spare places count too). A statement '..UptoSaid' is the law's where the arguments, and the package variables that the reading takes, are together of bulk at most 1048576: NARROWER than '..Said'. Prove '..Said' where nothing that the law and all that it calls make is longer than what came in: it says more and counts as full. Else prove '..UptoSaid'. A law counts once. -/
mutual
def uptoBulk {H : Type} : DataW H → Nat
  | .lit (.string bytes) => bytes.length + 1
  | .lit _ => 1
  | .nil => 1
  | .ptr d => uptoBulk d + 1
  | .slice elems spare => uptoBulkAll elems + uptoBulkAll spare + 1
  | .agg parts => uptoBulkAll parts + 1
  | .iface _ d => uptoBulk d + 1
  | .map entries => uptoBulkEntries entries + 1
  | .held _ => 1
def uptoBulkAll {H : Type} : List (DataW H) → Nat
  | [] => 0
  | d :: r => uptoBulk d + uptoBulkAll r
def uptoBulkEntries {H : Type} : List (Lit × DataW H) → Nat
  | [] => 0
  | x :: r => uptoBulkEntry x + uptoBulkEntries r
def uptoBulkEntry {H : Type} : Lit × DataW H → Nat
  | (.string bytes, d) => bytes.length + uptoBulk d + 1
  | (_, d) => uptoBulk d + 1
 end
def uptoSmall : (H : Type) → List (DataW H) → Bool := fun _ ds => decide (uptoBulkAll ds ≤ 1048576)
def OpenSpec.upto (s : _root_.Go.ChangeSpec) : _root_.Go.OpenSpec := { _root_.Go.OpenSpec.ofChange s with cond := some uptoSmall }

/-- 'laws.FnExactCodesWith', WHERE WHAT IT READS IS OF BULK AT MOST 1048576: true; the input reads as it did. -/
def fnExactCodesWithUptoRow : OpenClaim := { program := "ytonfalhekphaeaa", sum := "c522a560dc62781f5d61f68e694d5b323c044c4c8738f051422bef73a9ee4356", func := "loop.example/g01170/laws.FnExactCodesWith", spec := "fnExactCodesWith", inPlace := ["math.RoundToEven"], apart := false, narrowed := true }
def FnExactCodesWithUptoSaid : Prop := fnExactCodesWithUptoRow.holds Try.pinned (OpenSpec.upto fnExactCodesWithSpec)

/-- 'laws.FnExactRunLane', WHERE WHAT IT READS IS OF BULK AT MOST 1048576: true; the input reads as it did. -/
def fnExactRunLaneUptoRow : OpenClaim := { program := "ytonfalhekphaeaa", sum := "c522a560dc62781f5d61f68e694d5b323c044c4c8738f051422bef73a9ee4356", func := "loop.example/g01170/laws.FnExactRunLane", spec := "fnExactRunLane", apart := false, narrowed := true }
def FnExactRunLaneUptoSaid : Prop := fnExactRunLaneUptoRow.holds Try.pinned (OpenSpec.upto fnExactRunLaneSpec)

/-- 'laws.FnExactWaveAt', WHERE WHAT IT READS IS OF BULK AT MOST 1048576: true; the input reads as it did. -/
def fnExactWaveAtUptoRow : OpenClaim := { program := "ytonfalhekphaeaa", sum := "c522a560dc62781f5d61f68e694d5b323c044c4c8738f051422bef73a9ee4356", func := "loop.example/g01170/laws.FnExactWaveAt", spec := "fnExactWaveAt", inPlace := ["math.Float64frombits", "math.Float32bits", "math.Float32frombits", "math.Float64bits", "math.archTrunc"], apart := false, narrowed := true }
def FnExactWaveAtUptoSaid : Prop := fnExactWaveAtUptoRow.holds Try.pinned (OpenSpec.upto fnExactWaveAtSpec)

/-- 'laws.FnExactValidChain', WHERE WHAT IT READS IS OF BULK AT MOST 1048576: true; the input reads as it did. -/
def fnExactValidChainUptoRow : OpenClaim := { program := "ytonfalhekphaeaa", sum := "c522a560dc62781f5d61f68e694d5b323c044c4c8738f051422bef73a9ee4356", func := "loop.example/g01170/laws.FnExactValidChain", spec := "fnExactValidChain", apart := false, narrowed := true }
def FnExactValidChainUptoSaid : Prop := fnExactValidChainUptoRow.holds Try.pinned (OpenSpec.upto fnExactValidChainSpec)

/-- 'laws.FnExactImpulseOf', WHERE WHAT IT READS IS OF BULK AT MOST 1048576: true; the input reads as it did. -/
def fnExactImpulseOfUptoRow : OpenClaim := { program := "ytonfalhekphaeaa", sum := "c522a560dc62781f5d61f68e694d5b323c044c4c8738f051422bef73a9ee4356", func := "loop.example/g01170/laws.FnExactImpulseOf", spec := "fnExactImpulseOf", inPlace := ["math.Float32bits", "math.Float32frombits", "math.Float64bits", "math.Float64frombits"], apart := false, narrowed := true }
def FnExactImpulseOfUptoSaid : Prop := fnExactImpulseOfUptoRow.holds Try.pinned (OpenSpec.upto fnExactImpulseOfSpec)

/-- 'laws.FnExactApplyLane', WHERE WHAT IT READS IS OF BULK AT MOST 1048576: true; the input reads as it did. -/
def fnExactApplyLaneUptoRow : OpenClaim := { program := "ytonfalhekphaeaa", sum := "c522a560dc62781f5d61f68e694d5b323c044c4c8738f051422bef73a9ee4356", func := "loop.example/g01170/laws.FnExactApplyLane", spec := "fnExactApplyLane", apart := false, narrowed := true }
def FnExactApplyLaneUptoSaid : Prop := fnExactApplyLaneUptoRow.holds Try.pinned (OpenSpec.upto fnExactApplyLaneSpec)

/-- 'laws.FnExactUsedNodes', WHERE WHAT IT READS IS OF BULK AT MOST 1048576: true; the input reads as it did. -/
def fnExactUsedNodesUptoRow : OpenClaim := { program := "ytonfalhekphaeaa", sum := "c522a560dc62781f5d61f68e694d5b323c044c4c8738f051422bef73a9ee4356", func := "loop.example/g01170/laws.FnExactUsedNodes", spec := "fnExactUsedNodes", apart := false, narrowed := true }
def FnExactUsedNodesUptoSaid : Prop := fnExactUsedNodesUptoRow.holds Try.pinned (OpenSpec.upto fnExactUsedNodesSpec)

/-- 'laws.FnExactReadAt', WHERE WHAT IT READS IS OF BULK AT MOST 1048576: true; the input reads as it did. -/
def fnExactReadAtUptoRow : OpenClaim := { program := "ytonfalhekphaeaa", sum := "c522a560dc62781f5d61f68e694d5b323c044c4c8738f051422bef73a9ee4356", func := "loop.example/g01170/laws.FnExactReadAt", spec := "fnExactReadAt", inPlace := ["math.archFloor", "math.Float64bits", "math.Float64frombits", "math.archTrunc"], unfollowed := true, recurses := true, apart := false, narrowed := true }
def FnExactReadAtUptoSaid : Prop := fnExactReadAtUptoRow.holds Try.pinned (OpenSpec.upto fnExactReadAtSpec)

/-- 'laws.FnExactFilterBothWays', WHERE WHAT IT READS IS OF BULK AT MOST 1048576: true; the input reads as it did. -/
def fnExactFilterBothWaysUptoRow : OpenClaim := { program := "ytonfalhekphaeaa", sum := "c522a560dc62781f5d61f68e694d5b323c044c4c8738f051422bef73a9ee4356", func := "loop.example/g01170/laws.FnExactFilterBothWays", spec := "fnExactFilterBothWays", inPlace := ["math.Float32bits", "math.Float32frombits", "math.Float64bits", "math.Float64frombits"], apart := false, narrowed := true }
def FnExactFilterBothWaysUptoSaid : Prop := fnExactFilterBothWaysUptoRow.holds Try.pinned (OpenSpec.upto fnExactFilterBothWaysSpec)

/-- 'laws.FnOscillators', WHERE WHAT IT READS IS OF BULK AT MOST 1048576: true; the input reads as it did. -/
def fnOscillatorsUptoRow : OpenClaim := { program := "ytonfalhekphaeaa", sum := "c522a560dc62781f5d61f68e694d5b323c044c4c8738f051422bef73a9ee4356", func := "loop.example/g01170/laws.FnOscillators", spec := "fnOscillators", inPlace := ["math.Float64frombits", "math.Float64bits", "math.archTrunc", "math.Float32bits"], apart := false, narrowed := true }
def FnOscillatorsUptoSaid : Prop := fnOscillatorsUptoRow.holds Try.pinned (OpenSpec.upto fnOscillatorsSpec)

/-- 'laws.FnExactLatenessOf', WHERE WHAT IT READS IS OF BULK AT MOST 1048576: true; the input reads as it did. -/
def fnExactLatenessOfUptoRow : OpenClaim := { program := "ytonfalhekphaeaa", sum := "c522a560dc62781f5d61f68e694d5b323c044c4c8738f051422bef73a9ee4356", func := "loop.example/g01170/laws.FnExactLatenessOf", spec := "fnExactLatenessOf", apart := false, narrowed := true }
def FnExactLatenessOfUptoSaid : Prop := fnExactLatenessOfUptoRow.holds Try.pinned (OpenSpec.upto fnExactLatenessOfSpec)

/-- 'laws.FnExactEndsOfNotes', WHERE WHAT IT READS IS OF BULK AT MOST 1048576: true; the input reads as it did. -/
def fnExactEndsOfNotesUptoRow : OpenClaim := { program := "ytonfalhekphaeaa", sum := "c522a560dc62781f5d61f68e694d5b323c044c4c8738f051422bef73a9ee4356", func := "loop.example/g01170/laws.FnExactEndsOfNotes", spec := "fnExactEndsOfNotes", apart := false, narrowed := true }
def FnExactEndsOfNotesUptoSaid : Prop := fnExactEndsOfNotesUptoRow.holds Try.pinned (OpenSpec.upto fnExactEndsOfNotesSpec)

end Rows
end Go.Proofs.Ytonfalhekphaeaa
