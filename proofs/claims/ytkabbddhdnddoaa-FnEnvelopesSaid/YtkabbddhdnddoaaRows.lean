/-
  No cell of these rows narrows 'for every input' (looked for: loops, veiled, ifaces, maps, wideKeys, modest, calm, conditions, laid).
  DERIVED. THE GIVEN ROWS OF THIS SEAT. 3 by the template 'for every input the law returns true; each argument reads behind the call as it read before'; 0 by the template 'total and deterministic' (their statements: YtkabbddhdnddoaaTotals.lean).
  GIVEN WITH THE SEED: the statements are not yours to turn. If you find one false, say at which input.
  Laid BY PROGRAM, IN A SANDBOX (cutbox-rows.mjs): the forced cells as the released guide's own fill.sh prints them over the translation 916786348fbc8133… (all of the seat's roots in one cut). By AI agents, Wed Nov 11 2026. No macro, syntax, notation, axiom, sorry.
-/
import Derived.Test.YtkabbddhdnddoaaChecked
import GoSem.Claim
import GoSem.ClaimJoined
import GoSem.ClaimMapViews
import Derived.JoinedTies
import Derived.KernelRfl
namespace Go.Proofs.Ytkabbddhdnddoaa
/- THE CELL 'sum', in the pinned program and in every row, IS THE sha256 OF THE DUMP (.gsa) THAT YtkabbddhdnddoaaProg.lean LOADS. Nothing in Lean hashes anything: it is a label: what it is worth is what the hold of that sum in a sandbox is worth. -/
noncomputable def Try.pinned : Pinned := { name := "ytkabbddhdnddoaa", sum := "916786348fbc8133e1157f26fb37b3a6f2e67b914af77157e70e7d8168a775e3", checked := Try.checked }
namespace Rows
def none {H : Type} : Left H := { results := [], args := [] }

/-- 'laws.FnVoices': WHATEVER THE INPUT: true; the input reads as it did. -/
def fnVoicesSpec : ChangeSpec := { name := "fnVoices", fn := fun _ => fun
  | [d1, d2] => { results := [.lit (.bool true)], args := [d1, d2] }
  | _ => none }
def fnVoicesRow : OpenClaim := { program := "ytkabbddhdnddoaa", sum := "916786348fbc8133e1157f26fb37b3a6f2e67b914af77157e70e7d8168a775e3", func := "loop.example/g01170/laws.FnVoices", spec := "fnVoices", inPlace := ["math.Float64frombits", "math.Float64bits", "math.archTrunc", "math.Float32bits"], apart := false }
def FnVoicesSaid : Prop := fnVoicesRow.holds Try.pinned (OpenSpec.ofChange fnVoicesSpec)

/-- ITS FALSE NEIGHBOUR: 'it returns false'. Refute it at one input. -/
def fnVoicesWrong : ChangeSpec := { name := "fnVoices", fn := fun _ => fun
  | [d1, d2] => { results := [.lit (.bool false)], args := [d1, d2] }
  | _ => none }
def FnVoicesWrongFalsely : Prop := fnVoicesRow.holds Try.pinned (OpenSpec.ofChange fnVoicesWrong)

/-- 'laws.FnOscillators': WHATEVER THE INPUT: true; the input reads as it did. -/
def fnOscillatorsSpec : ChangeSpec := { name := "fnOscillators", fn := fun _ => fun
  | [d1, d2] => { results := [.lit (.bool true)], args := [d1, d2] }
  | _ => none }
def fnOscillatorsRow : OpenClaim := { program := "ytkabbddhdnddoaa", sum := "916786348fbc8133e1157f26fb37b3a6f2e67b914af77157e70e7d8168a775e3", func := "loop.example/g01170/laws.FnOscillators", spec := "fnOscillators", inPlace := ["math.Float64frombits", "math.Float64bits", "math.archTrunc", "math.Float32bits"], apart := false }
def FnOscillatorsSaid : Prop := fnOscillatorsRow.holds Try.pinned (OpenSpec.ofChange fnOscillatorsSpec)

/-- ITS FALSE NEIGHBOUR: 'it returns false'. Refute it at one input. -/
def fnOscillatorsWrong : ChangeSpec := { name := "fnOscillators", fn := fun _ => fun
  | [d1, d2] => { results := [.lit (.bool false)], args := [d1, d2] }
  | _ => none }
def FnOscillatorsWrongFalsely : Prop := fnOscillatorsRow.holds Try.pinned (OpenSpec.ofChange fnOscillatorsWrong)

/-- 'laws.FnEnvelopes': WHATEVER THE INPUT: true; the input reads as it did. -/
def fnEnvelopesSpec : ChangeSpec := { name := "fnEnvelopes", fn := fun _ => fun
  | [d1, d2] => { results := [.lit (.bool true)], args := [d1, d2] }
  | _ => none }
def fnEnvelopesRow : OpenClaim := { program := "ytkabbddhdnddoaa", sum := "916786348fbc8133e1157f26fb37b3a6f2e67b914af77157e70e7d8168a775e3", func := "loop.example/g01170/laws.FnEnvelopes", spec := "fnEnvelopes", inPlace := ["math.Float64frombits", "math.Float64bits", "math.archTrunc"], apart := false }
def FnEnvelopesSaid : Prop := fnEnvelopesRow.holds Try.pinned (OpenSpec.ofChange fnEnvelopesSpec)

/-- ITS FALSE NEIGHBOUR: 'it returns false'. Refute it at one input. -/
def fnEnvelopesWrong : ChangeSpec := { name := "fnEnvelopes", fn := fun _ => fun
  | [d1, d2] => { results := [.lit (.bool false)], args := [d1, d2] }
  | _ => none }
def FnEnvelopesWrongFalsely : Prop := fnEnvelopesRow.holds Try.pinned (OpenSpec.ofChange fnEnvelopesWrong)

/- THE SECOND FORM. 'bulk': how many values and letters a reading holds, each counted each time it is reached (what is shared counts as often as it is met; a slice's spare places count too). A statement '..UptoSaid' is the law's where the arguments, and the package variables that the reading takes, are together of bulk at most 1048576: NARROWER than '..Said'. Prove '..Said' where nothing that the law and all that it calls make is longer than what came in: it says more and counts as full. Else prove '..UptoSaid'. A law counts once. -/
mutual
def uptoBulk {H : Type} : DataW H → Nat
  | .lit (.string bytes) => bytes.length + 1
  | .lit _ => 1
  | .nil => 1
  | .ptr d => uptoBulk d + 1
  | .slice elems spare => uptoBulkAll elems + uptoBulkAll spare + 1
  | .agg parts => uptoBulkAll parts + 1
  | .iface _ d => uptoBulk d + 1
  | .map entries => uptoBulkEntries entries + 1
  | .held _ => 1
def uptoBulkAll {H : Type} : List (DataW H) → Nat
  | [] => 0
  | d :: r => uptoBulk d + uptoBulkAll r
def uptoBulkEntries {H : Type} : List (Lit × DataW H) → Nat
  | [] => 0
  | x :: r => uptoBulkEntry x + uptoBulkEntries r
def uptoBulkEntry {H : Type} : Lit × DataW H → Nat
  | (.string bytes, d) => bytes.length + uptoBulk d + 1
  | (_, d) => uptoBulk d + 1
 end
def uptoSmall : (H : Type) → List (DataW H) → Bool := fun _ ds => decide (uptoBulkAll ds ≤ 1048576)
def OpenSpec.upto (s : _root_.Go.ChangeSpec) : _root_.Go.OpenSpec := { _root_.Go.OpenSpec.ofChange s with cond := some uptoSmall }

/-- 'laws.FnVoices', WHERE WHAT IT READS IS OF BULK AT MOST 1048576: true; the input reads as it did. -/
def fnVoicesUptoRow : OpenClaim := { program := "ytkabbddhdnddoaa", sum := "916786348fbc8133e1157f26fb37b3a6f2e67b914af77157e70e7d8168a775e3", func := "loop.example/g01170/laws.FnVoices", spec := "fnVoices", inPlace := ["math.Float64frombits", "math.Float64bits", "math.archTrunc", "math.Float32bits"], apart := false, narrowed := true }
def FnVoicesUptoSaid : Prop := fnVoicesUptoRow.holds Try.pinned (OpenSpec.upto fnVoicesSpec)

/-- 'laws.FnOscillators', WHERE WHAT IT READS IS OF BULK AT MOST 1048576: true; the input reads as it did. -/
def fnOscillatorsUptoRow : OpenClaim := { program := "ytkabbddhdnddoaa", sum := "916786348fbc8133e1157f26fb37b3a6f2e67b914af77157e70e7d8168a775e3", func := "loop.example/g01170/laws.FnOscillators", spec := "fnOscillators", inPlace := ["math.Float64frombits", "math.Float64bits", "math.archTrunc", "math.Float32bits"], apart := false, narrowed := true }
def FnOscillatorsUptoSaid : Prop := fnOscillatorsUptoRow.holds Try.pinned (OpenSpec.upto fnOscillatorsSpec)

/-- 'laws.FnEnvelopes', WHERE WHAT IT READS IS OF BULK AT MOST 1048576: true; the input reads as it did. -/
def fnEnvelopesUptoRow : OpenClaim := { program := "ytkabbddhdnddoaa", sum := "916786348fbc8133e1157f26fb37b3a6f2e67b914af77157e70e7d8168a775e3", func := "loop.example/g01170/laws.FnEnvelopes", spec := "fnEnvelopes", inPlace := ["math.Float64frombits", "math.Float64bits", "math.archTrunc"], apart := false, narrowed := true }
def FnEnvelopesUptoSaid : Prop := fnEnvelopesUptoRow.holds Try.pinned (OpenSpec.upto fnEnvelopesSpec)

end Rows
end Go.Proofs.Ytkabbddhdnddoaa
