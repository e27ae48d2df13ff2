/-
  No cell of these rows narrows 'for every input' (looked for: loops, veiled, ifaces, maps, wideKeys, modest, calm, conditions, laid).
  DERIVED. THE GIVEN ROWS OF THIS SEAT. 12 by the template 'for every input the law returns true; each argument reads behind the call as it read before'; 0 by the template 'total and deterministic' (their statements: YtgmacpocalppcaaTotals.lean).
  GIVEN WITH THE SEED: the statements are not yours to turn. If you find one false, say at which input.
  Laid BY PROGRAM, IN A SANDBOX (cutbox-rows.mjs): the forced cells as the released guide's own fill.sh prints them over the translation 3409a534b4a6a243… (all of the seat's roots in one cut). By AI agents, Wed Nov 11 2026. No macro, syntax, notation, axiom, sorry.
-/
import Derived.Test.YtgmacpocalppcaaChecked
import GoSem.Claim
import GoSem.ClaimJoined
import GoSem.ClaimMapViews
import Derived.JoinedTies
import Derived.KernelRfl
namespace Go.Proofs.Ytgmacpocalppcaa
/- THE CELL 'sum', in the pinned program and in every row, IS THE sha256 OF THE DUMP (.gsa) THAT YtgmacpocalppcaaProg.lean LOADS. Nothing in Lean hashes anything: it is a label: what it is worth is what the hold of that sum in a sandbox is worth. -/
noncomputable def Try.pinned : Pinned := { name := "ytgmacpocalppcaa", sum := "3409a534b4a6a243eac96116d906318b6c2b3387d26c20ee516f63d95507deda", checked := Try.checked }
namespace Rows
def none {H : Type} : Left H := { results := [], args := [] }

/-- 'laws.FnExactEndOfNote': WHATEVER THE INPUT: true; the input reads as it did. -/
def fnExactEndOfNoteSpec : ChangeSpec := { name := "fnExactEndOfNote", fn := fun _ => fun
  | [d1, d2] => { results := [.lit (.bool true)], args := [d1, d2] }
  | _ => none }
def fnExactEndOfNoteRow : OpenClaim := { program := "ytgmacpocalppcaa", sum := "3409a534b4a6a243eac96116d906318b6c2b3387d26c20ee516f63d95507deda", func := "loop.example/g01170/laws.FnExactEndOfNote", spec := "fnExactEndOfNote", apart := false }
def FnExactEndOfNoteSaid : Prop := fnExactEndOfNoteRow.holds Try.pinned (OpenSpec.ofChange fnExactEndOfNoteSpec)

/-- ITS FALSE NEIGHBOUR: 'it returns false'. Refute it at one input. -/
def fnExactEndOfNoteWrong : ChangeSpec := { name := "fnExactEndOfNote", fn := fun _ => fun
  | [d1, d2] => { results := [.lit (.bool false)], args := [d1, d2] }
  | _ => none }
def FnExactEndOfNoteWrongFalsely : Prop := fnExactEndOfNoteRow.holds Try.pinned (OpenSpec.ofChange fnExactEndOfNoteWrong)

/-- 'laws.FnExactCodesOfBytes': WHATEVER THE INPUT: true; the input reads as it did. -/
def fnExactCodesOfBytesSpec : ChangeSpec := { name := "fnExactCodesOfBytes", fn := fun _ => fun
  | [d] => { results := [.lit (.bool true)], args := [d] }
  | _ => none }
def fnExactCodesOfBytesRow : OpenClaim := { program := "ytgmacpocalppcaa", sum := "3409a534b4a6a243eac96116d906318b6c2b3387d26c20ee516f63d95507deda", func := "loop.example/g01170/laws.FnExactCodesOfBytes", spec := "fnExactCodesOfBytes", apart := false }
def FnExactCodesOfBytesSaid : Prop := fnExactCodesOfBytesRow.holds Try.pinned (OpenSpec.ofChange fnExactCodesOfBytesSpec)

/-- ITS FALSE NEIGHBOUR: 'it returns false'. Refute it at one input. -/
def fnExactCodesOfBytesWrong : ChangeSpec := { name := "fnExactCodesOfBytes", fn := fun _ => fun
  | [d] => { results := [.lit (.bool false)], args := [d] }
  | _ => none }
def FnExactCodesOfBytesWrongFalsely : Prop := fnExactCodesOfBytesRow.holds Try.pinned (OpenSpec.ofChange fnExactCodesOfBytesWrong)

/-- 'laws.FnExactBytesOfCodes': WHATEVER THE INPUT: true; the input reads as it did. -/
def fnExactBytesOfCodesSpec : ChangeSpec := { name := "fnExactBytesOfCodes", fn := fun _ => fun
  | [d] => { results := [.lit (.bool true)], args := [d] }
  | _ => none }
def fnExactBytesOfCodesRow : OpenClaim := { program := "ytgmacpocalppcaa", sum := "3409a534b4a6a243eac96116d906318b6c2b3387d26c20ee516f63d95507deda", func := "loop.example/g01170/laws.FnExactBytesOfCodes", spec := "fnExactBytesOfCodes", apart := false }
def FnExactBytesOfCodesSaid : Prop := fnExactBytesOfCodesRow.holds Try.pinned (OpenSpec.ofChange fnExactBytesOfCodesSpec)

/-- ITS FALSE NEIGHBOUR: 'it returns false'. Refute it at one input. -/
def fnExactBytesOfCodesWrong : ChangeSpec := { name := "fnExactBytesOfCodes", fn := fun _ => fun
  | [d] => { results := [.lit (.bool false)], args := [d] }
  | _ => none }
def FnExactBytesOfCodesWrongFalsely : Prop := fnExactBytesOfCodesRow.holds Try.pinned (OpenSpec.ofChange fnExactBytesOfCodesWrong)

/-- 'laws.FnExactLeftAndRight': WHATEVER THE INPUT: true; the input reads as it did. -/
def fnExactLeftAndRightSpec : ChangeSpec := { name := "fnExactLeftAndRight", fn := fun _ => fun
  | [d1, d2] => { results := [.lit (.bool true)], args := [d1, d2] }
  | _ => none }
def fnExactLeftAndRightRow : OpenClaim := { program := "ytgmacpocalppcaa", sum := "3409a534b4a6a243eac96116d906318b6c2b3387d26c20ee516f63d95507deda", func := "loop.example/g01170/laws.FnExactLeftAndRight", spec := "fnExactLeftAndRight", apart := false }
def FnExactLeftAndRightSaid : Prop := fnExactLeftAndRightRow.holds Try.pinned (OpenSpec.ofChange fnExactLeftAndRightSpec)

/-- ITS FALSE NEIGHBOUR: 'it returns false'. Refute it at one input. -/
def fnExactLeftAndRightWrong : ChangeSpec := { name := "fnExactLeftAndRight", fn := fun _ => fun
  | [d1, d2] => { results := [.lit (.bool false)], args := [d1, d2] }
  | _ => none }
def FnExactLeftAndRightWrongFalsely : Prop := fnExactLeftAndRightRow.holds Try.pinned (OpenSpec.ofChange fnExactLeftAndRightWrong)

/-- 'laws.FnExactCountClipped': WHATEVER THE INPUT: true; the input reads as it did. -/
def fnExactCountClippedSpec : ChangeSpec := { name := "fnExactCountClipped", fn := fun _ => fun
  | [d1, d2] => { results := [.lit (.bool true)], args := [d1, d2] }
  | _ => none }
def fnExactCountClippedRow : OpenClaim := { program := "ytgmacpocalppcaa", sum := "3409a534b4a6a243eac96116d906318b6c2b3387d26c20ee516f63d95507deda", func := "loop.example/g01170/laws.FnExactCountClipped", spec := "fnExactCountClipped", apart := false }
def FnExactCountClippedSaid : Prop := fnExactCountClippedRow.holds Try.pinned (OpenSpec.ofChange fnExactCountClippedSpec)

/-- ITS FALSE NEIGHBOUR: 'it returns false'. Refute it at one input. -/
def fnExactCountClippedWrong : ChangeSpec := { name := "fnExactCountClipped", fn := fun _ => fun
  | [d1, d2] => { results := [.lit (.bool false)], args := [d1, d2] }
  | _ => none }
def FnExactCountClippedWrongFalsely : Prop := fnExactCountClippedRow.holds Try.pinned (OpenSpec.ofChange fnExactCountClippedWrong)

/-- 'laws.FnExactIsLane': WHATEVER THE INPUT: true; the input reads as it did. -/
def fnExactIsLaneSpec : ChangeSpec := { name := "fnExactIsLane", fn := fun _ => fun
  | [d] => { results := [.lit (.bool true)], args := [d] }
  | _ => none }
def fnExactIsLaneRow : OpenClaim := { program := "ytgmacpocalppcaa", sum := "3409a534b4a6a243eac96116d906318b6c2b3387d26c20ee516f63d95507deda", func := "loop.example/g01170/laws.FnExactIsLane", spec := "fnExactIsLane", apart := false }
def FnExactIsLaneSaid : Prop := fnExactIsLaneRow.holds Try.pinned (OpenSpec.ofChange fnExactIsLaneSpec)

/-- ITS FALSE NEIGHBOUR: 'it returns false'. Refute it at one input. -/
def fnExactIsLaneWrong : ChangeSpec := { name := "fnExactIsLane", fn := fun _ => fun
  | [d] => { results := [.lit (.bool false)], args := [d] }
  | _ => none }
def FnExactIsLaneWrongFalsely : Prop := fnExactIsLaneRow.holds Try.pinned (OpenSpec.ofChange fnExactIsLaneWrong)

/-- 'laws.FnExactPickBy': WHATEVER THE INPUT: true; the input reads as it did. -/
def fnExactPickBySpec : ChangeSpec := { name := "fnExactPickBy", fn := fun _ => fun
  | [d1, d2, d3] => { results := [.lit (.bool true)], args := [d1, d2, d3] }
  | _ => none }
def fnExactPickByRow : OpenClaim := { program := "ytgmacpocalppcaa", sum := "3409a534b4a6a243eac96116d906318b6c2b3387d26c20ee516f63d95507deda", func := "loop.example/g01170/laws.FnExactPickBy", spec := "fnExactPickBy", apart := false }
def FnExactPickBySaid : Prop := fnExactPickByRow.holds Try.pinned (OpenSpec.ofChange fnExactPickBySpec)

/-- ITS FALSE NEIGHBOUR: 'it returns false'. Refute it at one input. -/
def fnExactPickByWrong : ChangeSpec := { name := "fnExactPickBy", fn := fun _ => fun
  | [d1, d2, d3] => { results := [.lit (.bool false)], args := [d1, d2, d3] }
  | _ => none }
def FnExactPickByWrongFalsely : Prop := fnExactPickByRow.holds Try.pinned (OpenSpec.ofChange fnExactPickByWrong)

/-- 'laws.FnVoices': WHATEVER THE INPUT: true; the input reads as it did. -/
def fnVoicesSpec : ChangeSpec := { name := "fnVoices", fn := fun _ => fun
  | [d1, d2] => { results := [.lit (.bool true)], args := [d1, d2] }
  | _ => none }
def fnVoicesRow : OpenClaim := { program := "ytgmacpocalppcaa", sum := "3409a534b4a6a243eac96116d906318b6c2b3387d26c20ee516f63d95507deda", func := "loop.example/g01170/laws.FnVoices", spec := "fnVoices", inPlace := ["math.Float64frombits", "math.Float64bits", "math.archTrunc", "math.Float32bits"], apart := false }
def FnVoicesSaid : Prop := fnVoicesRow.holds Try.pinned (OpenSpec.ofChange fnVoicesSpec)

/-- ITS FALSE NEIGHBOUR: 'it returns false'. Refute it at one input. -/
def fnVoicesWrong : ChangeSpec := { name := "fnVoices", fn := fun _ => fun
  | [d1, d2] => { results := [.lit (.bool false)], args := [d1, d2] }
  | _ => none }
def FnVoicesWrongFalsely : Prop := fnVoicesRow.holds Try.pinned (OpenSpec.ofChange fnVoicesWrong)

/-- 'laws.FnExactSpreadBy': WHATEVER THE INPUT: true; the input reads as it did. -/
def fnExactSpreadBySpec : ChangeSpec := { name := "fnExactSpreadBy", fn := fun _ => fun
  | [d1, d2] => { results := [.lit (.bool true)], args := [d1, d2] }
  | _ => none }
def fnExactSpreadByRow : OpenClaim := { program := "ytgmacpocalppcaa", sum := "3409a534b4a6a243eac96116d906318b6c2b3387d26c20ee516f63d95507deda", func := "loop.example/g01170/laws.FnExactSpreadBy", spec := "fnExactSpreadBy", apart := false }
def FnExactSpreadBySaid : Prop := fnExactSpreadByRow.holds Try.pinned (OpenSpec.ofChange fnExactSpreadBySpec)

/-- ITS FALSE NEIGHBOUR: 'it returns false'. Refute it at one input. -/
def fnExactSpreadByWrong : ChangeSpec := { name := "fnExactSpreadBy", fn := fun _ => fun
  | [d1, d2] => { results := [.lit (.bool false)], args := [d1, d2] }
  | _ => none }
def FnExactSpreadByWrongFalsely : Prop := fnExactSpreadByRow.holds Try.pinned (OpenSpec.ofChange fnExactSpreadByWrong)

/-- 'laws.FnExactMiddleAndSide': WHATEVER THE INPUT: true; the input reads as it did. -/
def fnExactMiddleAndSideSpec : ChangeSpec := { name := "fnExactMiddleAndSide", fn := fun _ => fun
  | [d1, d2] => { results := [.lit (.bool true)], args := [d1, d2] }
  | _ => none }
def fnExactMiddleAndSideRow : OpenClaim := { program := "ytgmacpocalppcaa", sum := "3409a534b4a6a243eac96116d906318b6c2b3387d26c20ee516f63d95507deda", func := "loop.example/g01170/laws.FnExactMiddleAndSide", spec := "fnExactMiddleAndSide", apart := false }
def FnExactMiddleAndSideSaid : Prop := fnExactMiddleAndSideRow.holds Try.pinned (OpenSpec.ofChange fnExactMiddleAndSideSpec)

/-- ITS FALSE NEIGHBOUR: 'it returns false'. Refute it at one input. -/
def fnExactMiddleAndSideWrong : ChangeSpec := { name := "fnExactMiddleAndSide", fn := fun _ => fun
  | [d1, d2] => { results := [.lit (.bool false)], args := [d1, d2] }
  | _ => none }
def FnExactMiddleAndSideWrongFalsely : Prop := fnExactMiddleAndSideRow.holds Try.pinned (OpenSpec.ofChange fnExactMiddleAndSideWrong)

/-- 'laws.FnExactAreSends': WHATEVER THE INPUT: true; the input reads as it did. -/
def fnExactAreSendsSpec : ChangeSpec := { name := "fnExactAreSends", fn := fun _ => fun
  | [d1, d2] => { results := [.lit (.bool true)], args := [d1, d2] }
  | _ => none }
def fnExactAreSendsRow : OpenClaim := { program := "ytgmacpocalppcaa", sum := "3409a534b4a6a243eac96116d906318b6c2b3387d26c20ee516f63d95507deda", func := "loop.example/g01170/laws.FnExactAreSends", spec := "fnExactAreSends", apart := false }
def FnExactAreSendsSaid : Prop := fnExactAreSendsRow.holds Try.pinned (OpenSpec.ofChange fnExactAreSendsSpec)

/-- ITS FALSE NEIGHBOUR: 'it returns false'. Refute it at one input. -/
def fnExactAreSendsWrong : ChangeSpec := { name := "fnExactAreSends", fn := fun _ => fun
  | [d1, d2] => { results := [.lit (.bool false)], args := [d1, d2] }
  | _ => none }
def FnExactAreSendsWrongFalsely : Prop := fnExactAreSendsRow.holds Try.pinned (OpenSpec.ofChange fnExactAreSendsWrong)

/-- 'laws.FnExactFoldTaps': WHATEVER THE INPUT: true; the input reads as it did. -/
def fnExactFoldTapsSpec : ChangeSpec := { name := "fnExactFoldTaps", fn := fun _ => fun
  | [d1, d2, d3] => { results := [.lit (.bool true)], args := [d1, d2, d3] }
  | _ => none }
def fnExactFoldTapsRow : OpenClaim := { program := "ytgmacpocalppcaa", sum := "3409a534b4a6a243eac96116d906318b6c2b3387d26c20ee516f63d95507deda", func := "loop.example/g01170/laws.FnExactFoldTaps", spec := "fnExactFoldTaps", apart := false }
def FnExactFoldTapsSaid : Prop := fnExactFoldTapsRow.holds Try.pinned (OpenSpec.ofChange fnExactFoldTapsSpec)

/-- ITS FALSE NEIGHBOUR: 'it returns false'. Refute it at one input. -/
def fnExactFoldTapsWrong : ChangeSpec := { name := "fnExactFoldTaps", fn := fun _ => fun
  | [d1, d2, d3] => { results := [.lit (.bool false)], args := [d1, d2, d3] }
  | _ => none }
def FnExactFoldTapsWrongFalsely : Prop := fnExactFoldTapsRow.holds Try.pinned (OpenSpec.ofChange fnExactFoldTapsWrong)

/- THE SECOND FORM. 'bulk': how many values and letters a reading holds, each counted each time it is reached (what is shared counts as often as it is met; a slice's spare places count too). A statement '..UptoSaid' is the law's where the arguments, and the package variables that the reading takes, are together of bulk at most 1048576: NARROWER than '..Said'. Prove '..Said' where nothing that the law and all that it calls make is longer than what came in: it says more and counts as full. Else prove '..UptoSaid'. A law counts once. -/
mutual
def uptoBulk {H : Type} : DataW H → Nat
  | .lit (.string bytes) => bytes.length + 1
  | .lit _ => 1
  | .nil => 1
  | .ptr d => uptoBulk d + 1
  | .slice elems spare => uptoBulkAll elems + uptoBulkAll spare + 1
  | .agg parts => uptoBulkAll parts + 1
  | .iface _ d => uptoBulk d + 1
  | .map entries => uptoBulkEntries entries + 1
  | .held _ => 1
def uptoBulkAll {H : Type} : List (DataW H) → Nat
  | [] => 0
  | d :: r => uptoBulk d + uptoBulkAll r
def uptoBulkEntries {H : Type} : List (Lit × DataW H) → Nat
  | [] => 0
  | x :: r => uptoBulkEntry x + uptoBulkEntries r
def uptoBulkEntry {H : Type} : Lit × DataW H → Nat
  | (.string bytes, d) => bytes.length + uptoBulk d + 1
  | (_, d) => uptoBulk d + 1
 end
def uptoSmall : (H : Type) → List (DataW H) → Bool := fun _ ds => decide (uptoBulkAll ds ≤ 1048576)
def OpenSpec.upto (s : _root_.Go.ChangeSpec) : _root_.Go.OpenSpec := { _root_.Go.OpenSpec.ofChange s with cond := some uptoSmall }

/-- 'laws.FnExactEndOfNote', WHERE WHAT IT READS IS OF BULK AT MOST 1048576: true; the input reads as it did. -/
def fnExactEndOfNoteUptoRow : OpenClaim := { program := "ytgmacpocalppcaa", sum := "3409a534b4a6a243eac96116d906318b6c2b3387d26c20ee516f63d95507deda", func := "loop.example/g01170/laws.FnExactEndOfNote", spec := "fnExactEndOfNote", apart := false, narrowed := true }
def FnExactEndOfNoteUptoSaid : Prop := fnExactEndOfNoteUptoRow.holds Try.pinned (OpenSpec.upto fnExactEndOfNoteSpec)

/-- 'laws.FnExactCodesOfBytes', WHERE WHAT IT READS IS OF BULK AT MOST 1048576: true; the input reads as it did. -/
def fnExactCodesOfBytesUptoRow : OpenClaim := { program := "ytgmacpocalppcaa", sum := "3409a534b4a6a243eac96116d906318b6c2b3387d26c20ee516f63d95507deda", func := "loop.example/g01170/laws.FnExactCodesOfBytes", spec := "fnExactCodesOfBytes", apart := false, narrowed := true }
def FnExactCodesOfBytesUptoSaid : Prop := fnExactCodesOfBytesUptoRow.holds Try.pinned (OpenSpec.upto fnExactCodesOfBytesSpec)

/-- 'laws.FnExactBytesOfCodes', WHERE WHAT IT READS IS OF BULK AT MOST 1048576: true; the input reads as it did. -/
def fnExactBytesOfCodesUptoRow : OpenClaim := { program := "ytgmacpocalppcaa", sum := "3409a534b4a6a243eac96116d906318b6c2b3387d26c20ee516f63d95507deda", func := "loop.example/g01170/laws.FnExactBytesOfCodes", spec := "fnExactBytesOfCodes", apart := false, narrowed := true }
def FnExactBytesOfCodesUptoSaid : Prop := fnExactBytesOfCodesUptoRow.holds Try.pinned (OpenSpec.upto fnExactBytesOfCodesSpec)

/-- 'laws.FnExactLeftAndRight', WHERE WHAT IT READS IS OF BULK AT MOST 1048576: true; the input reads as it did. -/
def fnExactLeftAndRightUptoRow : OpenClaim := { program := "ytgmacpocalppcaa", sum := "3409a534b4a6a243eac96116d906318b6c2b3387d26c20ee516f63d95507deda", func := "loop.example/g01170/laws.FnExactLeftAndRight", spec := "fnExactLeftAndRight", apart := false, narrowed := true }
def FnExactLeftAndRightUptoSaid : Prop := fnExactLeftAndRightUptoRow.holds Try.pinned (OpenSpec.upto fnExactLeftAndRightSpec)

/-- 'laws.FnExactCountClipped', WHERE WHAT IT READS IS OF BULK AT MOST 1048576: true; the input reads as it did. -/
def fnExactCountClippedUptoRow : OpenClaim := { program := "ytgmacpocalppcaa", sum := "3409a534b4a6a243eac96116d906318b6c2b3387d26c20ee516f63d95507deda", func := "loop.example/g01170/laws.FnExactCountClipped", spec := "fnExactCountClipped", apart := false, narrowed := true }
def FnExactCountClippedUptoSaid : Prop := fnExactCountClippedUptoRow.holds Try.pinned (OpenSpec.upto fnExactCountClippedSpec)

/-- 'laws.FnExactIsLane', WHERE WHAT IT READS IS OF BULK AT MOST 1048576: true; the input reads as it did. -/
def fnExactIsLaneUptoRow : OpenClaim := { program := "ytgmacpocalppcaa", sum := "3409a534b4a6a243eac96116d906318b6c2b3387d26c20ee516f63d95507deda", func := "loop.example/g01170/laws.FnExactIsLane", spec := "fnExactIsLane", apart := false, narrowed := true }
def FnExactIsLaneUptoSaid : Prop := fnExactIsLaneUptoRow.holds Try.pinned (OpenSpec.upto fnExactIsLaneSpec)

/-- 'laws.FnExactPickBy', WHERE WHAT IT READS IS OF BULK AT MOST 1048576: true; the input reads as it did. -/
def fnExactPickByUptoRow : OpenClaim := { program := "ytgmacpocalppcaa", sum := "3409a534b4a6a243eac96116d906318b6c2b3387d26c20ee516f63d95507deda", func := "loop.example/g01170/laws.FnExactPickBy", spec := "fnExactPickBy", apart := false, narrowed := true }
def FnExactPickByUptoSaid : Prop := fnExactPickByUptoRow.holds Try.pinned (OpenSpec.upto fnExactPickBySpec)

/-- 'laws.FnVoices', WHERE WHAT IT READS IS OF BULK AT MOST 1048576: true; the input reads as it did. -/
def fnVoicesUptoRow : OpenClaim := { program := "ytgmacpocalppcaa", sum := "3409a534b4a6a243eac96116d906318b6c2b3387d26c20ee516f63d95507deda", func := "loop.example/g01170/laws.FnVoices", spec := "fnVoices", inPlace := ["math.Float64frombits", "math.Float64bits", "math.archTrunc", "math.Float32bits"], apart := false, narrowed := true }
def FnVoicesUptoSaid : Prop := fnVoicesUptoRow.holds Try.pinned (OpenSpec.upto fnVoicesSpec)

/-- 'laws.FnExactSpreadBy', WHERE WHAT IT READS IS OF BULK AT MOST 1048576: true; the input reads as it did. -/
def fnExactSpreadByUptoRow : OpenClaim := { program := "ytgmacpocalppcaa", sum := "3409a534b4a6a243eac96116d906318b6c2b3387d26c20ee516f63d95507deda", func := "loop.example/g01170/laws.FnExactSpreadBy", spec := "fnExactSpreadBy", apart := false, narrowed := true }
def FnExactSpreadByUptoSaid : Prop := fnExactSpreadByUptoRow.holds Try.pinned (OpenSpec.upto fnExactSpreadBySpec)

/-- 'laws.FnExactMiddleAndSide', WHERE WHAT IT READS IS OF BULK AT MOST 1048576: true; the input reads as it did. -/
def fnExactMiddleAndSideUptoRow : OpenClaim := { program := "ytgmacpocalppcaa", sum := "3409a534b4a6a243eac96116d906318b6c2b3387d26c20ee516f63d95507deda", func := "loop.example/g01170/laws.FnExactMiddleAndSide", spec := "fnExactMiddleAndSide", apart := false, narrowed := true }
def FnExactMiddleAndSideUptoSaid : Prop := fnExactMiddleAndSideUptoRow.holds Try.pinned (OpenSpec.upto fnExactMiddleAndSideSpec)

/-- 'laws.FnExactAreSends', WHERE WHAT IT READS IS OF BULK AT MOST 1048576: true; the input reads as it did. -/
def fnExactAreSendsUptoRow : OpenClaim := { program := "ytgmacpocalppcaa", sum := "3409a534b4a6a243eac96116d906318b6c2b3387d26c20ee516f63d95507deda", func := "loop.example/g01170/laws.FnExactAreSends", spec := "fnExactAreSends", apart := false, narrowed := true }
def FnExactAreSendsUptoSaid : Prop := fnExactAreSendsUptoRow.holds Try.pinned (OpenSpec.upto fnExactAreSendsSpec)

/-- 'laws.FnExactFoldTaps', WHERE WHAT IT READS IS OF BULK AT MOST 1048576: true; the input reads as it did. -/
def fnExactFoldTapsUptoRow : OpenClaim := { program := "ytgmacpocalppcaa", sum := "3409a534b4a6a243eac96116d906318b6c2b3387d26c20ee516f63d95507deda", func := "loop.example/g01170/laws.FnExactFoldTaps", spec := "fnExactFoldTaps", apart := false, narrowed := true }
def FnExactFoldTapsUptoSaid : Prop := fnExactFoldTapsUptoRow.holds Try.pinned (OpenSpec.upto fnExactFoldTapsSpec)

end Rows
end Go.Proofs.Ytgmacpocalppcaa
