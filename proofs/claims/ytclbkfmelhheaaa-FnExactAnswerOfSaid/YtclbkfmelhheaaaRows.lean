/-
  No cell of these rows narrows 'for every input' (looked for: loops, veiled, ifaces, maps, wideKeys, modest, calm, conditions, laid).
  DERIVED. THE GIVEN ROWS OF THIS SEAT. 9 by the template 'for every input the law returns true; each argument reads behind the call as it read before'; 0 by the template 'total and deterministic' (their statements: YtclbkfmelhheaaaTotals.lean).
  GIVEN WITH THE SEED: the statements are not yours to turn. If you find one false, say at which input.
  Laid BY PROGRAM, IN A SANDBOX (cutbox-rows.mjs): the forced cells as the released guide's own fill.sh prints them over the translation e3c84514efb55676… (all of the seat's roots in one cut). By AI agents, Wed Nov 11 2026. No macro, syntax, notation, axiom, sorry.
-/
import Derived.Test.YtclbkfmelhheaaaChecked
import GoSem.Claim
import GoSem.ClaimJoined
import GoSem.ClaimMapViews
import Derived.JoinedTies
import Derived.KernelRfl
namespace Go.Proofs.Ytclbkfmelhheaaa
/- THE CELL 'sum', in the pinned program and in every row, IS THE sha256 OF THE DUMP (.gsa) THAT YtclbkfmelhheaaaProg.lean LOADS. Nothing in Lean hashes anything: it is a label: what it is worth is what the hold of that sum in a sandbox is worth. -/
noncomputable def Try.pinned : Pinned := { name := "ytclbkfmelhheaaa", sum := "e3c84514efb556766dc5df97bfbb822e56a86af422a9a019b4cd0660953e65d1", checked := Try.checked }
namespace Rows
def none {H : Type} : Left H := { results := [], args := [] }

/-- 'laws.FnExactRenderNote': WHATEVER THE INPUT: true; the input reads as it did. -/
def fnExactRenderNoteSpec : ChangeSpec := { name := "fnExactRenderNote", fn := fun _ => fun
  | [d1, d2, d3, d4] => { results := [.lit (.bool true)], args := [d1, d2, d3, d4] }
  | _ => none }
def fnExactRenderNoteRow : OpenClaim := { program := "ytclbkfmelhheaaa", sum := "e3c84514efb556766dc5df97bfbb822e56a86af422a9a019b4cd0660953e65d1", func := "loop.example/g01170/laws.FnExactRenderNote", spec := "fnExactRenderNote", inPlace := ["math.Float64frombits", "math.Float32bits", "math.Float32frombits", "math.Float64bits", "math.archTrunc"], apart := false }
def FnExactRenderNoteSaid : Prop := fnExactRenderNoteRow.holds Try.pinned (OpenSpec.ofChange fnExactRenderNoteSpec)

/-- ITS FALSE NEIGHBOUR: 'it returns false'. Refute it at one input. -/
def fnExactRenderNoteWrong : ChangeSpec := { name := "fnExactRenderNote", fn := fun _ => fun
  | [d1, d2, d3, d4] => { results := [.lit (.bool false)], args := [d1, d2, d3, d4] }
  | _ => none }
def FnExactRenderNoteWrongFalsely : Prop := fnExactRenderNoteRow.holds Try.pinned (OpenSpec.ofChange fnExactRenderNoteWrong)

/-- 'laws.FnExactValidSession': WHATEVER THE INPUT: true; the input reads as it did. -/
def fnExactValidSessionSpec : ChangeSpec := { name := "fnExactValidSession", fn := fun _ => fun
  | [d] => { results := [.lit (.bool true)], args := [d] }
  | _ => none }
def fnExactValidSessionRow : OpenClaim := { program := "ytclbkfmelhheaaa", sum := "e3c84514efb556766dc5df97bfbb822e56a86af422a9a019b4cd0660953e65d1", func := "loop.example/g01170/laws.FnExactValidSession", spec := "fnExactValidSession", apart := false }
def FnExactValidSessionSaid : Prop := fnExactValidSessionRow.holds Try.pinned (OpenSpec.ofChange fnExactValidSessionSpec)

/-- ITS FALSE NEIGHBOUR: 'it returns false'. Refute it at one input. -/
def fnExactValidSessionWrong : ChangeSpec := { name := "fnExactValidSession", fn := fun _ => fun
  | [d] => { results := [.lit (.bool false)], args := [d] }
  | _ => none }
def FnExactValidSessionWrongFalsely : Prop := fnExactValidSessionRow.holds Try.pinned (OpenSpec.ofChange fnExactValidSessionWrong)

/-- 'laws.FnExactAnswerOf': WHATEVER THE INPUT: true; the input reads as it did. -/
def fnExactAnswerOfSpec : ChangeSpec := { name := "fnExactAnswerOf", fn := fun _ => fun
  | [d1, d2] => { results := [.lit (.bool true)], args := [d1, d2] }
  | _ => none }
def fnExactAnswerOfRow : OpenClaim := { program := "ytclbkfmelhheaaa", sum := "e3c84514efb556766dc5df97bfbb822e56a86af422a9a019b4cd0660953e65d1", func := "loop.example/g01170/laws.FnExactAnswerOf", spec := "fnExactAnswerOf", inPlace := ["math.Float32bits", "math.Float32frombits", "math.Float64bits", "math.Float64frombits"], apart := false }
def FnExactAnswerOfSaid : Prop := fnExactAnswerOfRow.holds Try.pinned (OpenSpec.ofChange fnExactAnswerOfSpec)

/-- ITS FALSE NEIGHBOUR: 'it returns false'. Refute it at one input. -/
def fnExactAnswerOfWrong : ChangeSpec := { name := "fnExactAnswerOf", fn := fun _ => fun
  | [d1, d2] => { results := [.lit (.bool false)], args := [d1, d2] }
  | _ => none }
def FnExactAnswerOfWrongFalsely : Prop := fnExactAnswerOfRow.holds Try.pinned (OpenSpec.ofChange fnExactAnswerOfWrong)

/-- 'laws.FnExactLengthOf': WHATEVER THE INPUT: true; the input reads as it did. -/
def fnExactLengthOfSpec : ChangeSpec := { name := "fnExactLengthOf", fn := fun _ => fun
  | [d] => { results := [.lit (.bool true)], args := [d] }
  | _ => none }
def fnExactLengthOfRow : OpenClaim := { program := "ytclbkfmelhheaaa", sum := "e3c84514efb556766dc5df97bfbb822e56a86af422a9a019b4cd0660953e65d1", func := "loop.example/g01170/laws.FnExactLengthOf", spec := "fnExactLengthOf", apart := false }
def FnExactLengthOfSaid : Prop := fnExactLengthOfRow.holds Try.pinned (OpenSpec.ofChange fnExactLengthOfSpec)

/-- ITS FALSE NEIGHBOUR: 'it returns false'. Refute it at one input. -/
def fnExactLengthOfWrong : ChangeSpec := { name := "fnExactLengthOf", fn := fun _ => fun
  | [d] => { results := [.lit (.bool false)], args := [d] }
  | _ => none }
def FnExactLengthOfWrongFalsely : Prop := fnExactLengthOfRow.holds Try.pinned (OpenSpec.ofChange fnExactLengthOfWrong)

/-- 'laws.FnExactMixTracks': WHATEVER THE INPUT: true; the input reads as it did. -/
def fnExactMixTracksSpec : ChangeSpec := { name := "fnExactMixTracks", fn := fun _ => fun
  | [d1, d2] => { results := [.lit (.bool true)], args := [d1, d2] }
  | _ => none }
def fnExactMixTracksRow : OpenClaim := { program := "ytclbkfmelhheaaa", sum := "e3c84514efb556766dc5df97bfbb822e56a86af422a9a019b4cd0660953e65d1", func := "loop.example/g01170/laws.FnExactMixTracks", spec := "fnExactMixTracks", inPlace := ["math.Float64frombits", "math.Float64bits", "math.archTrunc"], apart := false }
def FnExactMixTracksSaid : Prop := fnExactMixTracksRow.holds Try.pinned (OpenSpec.ofChange fnExactMixTracksSpec)

/-- ITS FALSE NEIGHBOUR: 'it returns false'. Refute it at one input. -/
def fnExactMixTracksWrong : ChangeSpec := { name := "fnExactMixTracks", fn := fun _ => fun
  | [d1, d2] => { results := [.lit (.bool false)], args := [d1, d2] }
  | _ => none }
def FnExactMixTracksWrongFalsely : Prop := fnExactMixTracksRow.holds Try.pinned (OpenSpec.ofChange fnExactMixTracksWrong)

/-- 'laws.FnExactCostOf': WHATEVER THE INPUT: true; the input reads as it did. -/
def fnExactCostOfSpec : ChangeSpec := { name := "fnExactCostOf", fn := fun _ => fun
  | [d] => { results := [.lit (.bool true)], args := [d] }
  | _ => none }
def fnExactCostOfRow : OpenClaim := { program := "ytclbkfmelhheaaa", sum := "e3c84514efb556766dc5df97bfbb822e56a86af422a9a019b4cd0660953e65d1", func := "loop.example/g01170/laws.FnExactCostOf", spec := "fnExactCostOf", apart := false }
def FnExactCostOfSaid : Prop := fnExactCostOfRow.holds Try.pinned (OpenSpec.ofChange fnExactCostOfSpec)

/-- ITS FALSE NEIGHBOUR: 'it returns false'. Refute it at one input. -/
def fnExactCostOfWrong : ChangeSpec := { name := "fnExactCostOf", fn := fun _ => fun
  | [d] => { results := [.lit (.bool false)], args := [d] }
  | _ => none }
def FnExactCostOfWrongFalsely : Prop := fnExactCostOfRow.holds Try.pinned (OpenSpec.ofChange fnExactCostOfWrong)

/-- 'laws.FnExactRunRoom': WHATEVER THE INPUT: true; the input reads as it did. -/
def fnExactRunRoomSpec : ChangeSpec := { name := "fnExactRunRoom", fn := fun _ => fun
  | [d1, d2, d3] => { results := [.lit (.bool true)], args := [d1, d2, d3] }
  | _ => none }
def fnExactRunRoomRow : OpenClaim := { program := "ytclbkfmelhheaaa", sum := "e3c84514efb556766dc5df97bfbb822e56a86af422a9a019b4cd0660953e65d1", func := "loop.example/g01170/laws.FnExactRunRoom", spec := "fnExactRunRoom", inPlace := ["math.Float32bits", "math.Float32frombits", "math.Float64bits", "math.Float64frombits"], apart := false }
def FnExactRunRoomSaid : Prop := fnExactRunRoomRow.holds Try.pinned (OpenSpec.ofChange fnExactRunRoomSpec)

/-- ITS FALSE NEIGHBOUR: 'it returns false'. Refute it at one input. -/
def fnExactRunRoomWrong : ChangeSpec := { name := "fnExactRunRoom", fn := fun _ => fun
  | [d1, d2, d3] => { results := [.lit (.bool false)], args := [d1, d2, d3] }
  | _ => none }
def FnExactRunRoomWrongFalsely : Prop := fnExactRunRoomRow.holds Try.pinned (OpenSpec.ofChange fnExactRunRoomWrong)

/-- 'laws.FnExactTrackOf': WHATEVER THE INPUT: true; the input reads as it did. -/
def fnExactTrackOfSpec : ChangeSpec := { name := "fnExactTrackOf", fn := fun _ => fun
  | [d1, d2, d3] => { results := [.lit (.bool true)], args := [d1, d2, d3] }
  | _ => none }
def fnExactTrackOfRow : OpenClaim := { program := "ytclbkfmelhheaaa", sum := "e3c84514efb556766dc5df97bfbb822e56a86af422a9a019b4cd0660953e65d1", func := "loop.example/g01170/laws.FnExactTrackOf", spec := "fnExactTrackOf", apart := false }
def FnExactTrackOfSaid : Prop := fnExactTrackOfRow.holds Try.pinned (OpenSpec.ofChange fnExactTrackOfSpec)

/-- ITS FALSE NEIGHBOUR: 'it returns false'. Refute it at one input. -/
def fnExactTrackOfWrong : ChangeSpec := { name := "fnExactTrackOf", fn := fun _ => fun
  | [d1, d2, d3] => { results := [.lit (.bool false)], args := [d1, d2, d3] }
  | _ => none }
def FnExactTrackOfWrongFalsely : Prop := fnExactTrackOfRow.holds Try.pinned (OpenSpec.ofChange fnExactTrackOfWrong)

/-- 'laws.FnExactRenderNotes': WHATEVER THE INPUT: true; the input reads as it did. -/
def fnExactRenderNotesSpec : ChangeSpec := { name := "fnExactRenderNotes", fn := fun _ => fun
  | [d1, d2, d3, d4, d5] => { results := [.lit (.bool true)], args := [d1, d2, d3, d4, d5] }
  | _ => none }
def fnExactRenderNotesRow : OpenClaim := { program := "ytclbkfmelhheaaa", sum := "e3c84514efb556766dc5df97bfbb822e56a86af422a9a019b4cd0660953e65d1", func := "loop.example/g01170/laws.FnExactRenderNotes", spec := "fnExactRenderNotes", inPlace := ["math.Float64frombits", "math.Float32bits", "math.Float32frombits", "math.Float64bits", "math.archTrunc"], apart := false }
def FnExactRenderNotesSaid : Prop := fnExactRenderNotesRow.holds Try.pinned (OpenSpec.ofChange fnExactRenderNotesSpec)

/-- ITS FALSE NEIGHBOUR: 'it returns false'. Refute it at one input. -/
def fnExactRenderNotesWrong : ChangeSpec := { name := "fnExactRenderNotes", fn := fun _ => fun
  | [d1, d2, d3, d4, d5] => { results := [.lit (.bool false)], args := [d1, d2, d3, d4, d5] }
  | _ => none }
def FnExactRenderNotesWrongFalsely : Prop := fnExactRenderNotesRow.holds Try.pinned (OpenSpec.ofChange fnExactRenderNotesWrong)

/- THE SECOND FORM. 'bulk': how many values and letters a reading holds, each counted each time it is reached (what is shared counts as often as it is met; a slice's spare places count too). A statement '..UptoSaid' is the law's where the arguments, and the package variables that the reading takes, are together of bulk at most 1048576: NARROWER than '..Said'. Prove '..Said' where nothing that the law and all that it calls make is longer than what came in: it says more and counts as full. Else prove '..UptoSaid'. A law counts once. -/
mutual
def uptoBulk {H : Type} : DataW H → Nat
  | .lit (.string bytes) => bytes.length + 1
  | .lit _ => 1
  | .nil => 1
  | .ptr d => uptoBulk d + 1
  | .slice elems spare => uptoBulkAll elems + uptoBulkAll spare + 1
  | .agg parts => uptoBulkAll parts + 1
  | .iface _ d => uptoBulk d + 1
  | .map entries => uptoBulkEntries entries + 1
  | .held _ => 1
def uptoBulkAll {H : Type} : List (DataW H) → Nat
  | [] => 0
  | d :: r => uptoBulk d + uptoBulkAll r
def uptoBulkEntries {H : Type} : List (Lit × DataW H) → Nat
  | [] => 0
  | x :: r => uptoBulkEntry x + uptoBulkEntries r
def uptoBulkEntry {H : Type} : Lit × DataW H → Nat
  | (.string bytes, d) => bytes.length + uptoBulk d + 1
  | (_, d) => uptoBulk d + 1
 end
def uptoSmall : (H : Type) → List (DataW H) → Bool := fun _ ds => decide (uptoBulkAll ds ≤ 1048576)
def OpenSpec.upto (s : _root_.Go.ChangeSpec) : _root_.Go.OpenSpec := { _root_.Go.OpenSpec.ofChange s with cond := some uptoSmall }

/-- 'laws.FnExactRenderNote', WHERE WHAT IT READS IS OF BULK AT MOST 1048576: true; the input reads as it did. -/
def fnExactRenderNoteUptoRow : OpenClaim := { program := "ytclbkfmelhheaaa", sum := "e3c84514efb556766dc5df97bfbb822e56a86af422a9a019b4cd0660953e65d1", func := "loop.example/g01170/laws.FnExactRenderNote", spec := "fnExactRenderNote", inPlace := ["math.Float64frombits", "math.Float32bits", "math.Float32frombits", "math.Float64bits", "math.archTrunc"], apart := false, narrowed := true }
def FnExactRenderNoteUptoSaid : Prop := fnExactRenderNoteUptoRow.holds Try.pinned (OpenSpec.upto fnExactRenderNoteSpec)

/-- 'laws.FnExactValidSession', WHERE WHAT IT READS IS OF BULK AT MOST 1048576: true; the input reads as it did. -/
def fnExactValidSessionUptoRow : OpenClaim := { program := "ytclbkfmelhheaaa", sum := "e3c84514efb556766dc5df97bfbb822e56a86af422a9a019b4cd0660953e65d1", func := "loop.example/g01170/laws.FnExactValidSession", spec := "fnExactValidSession", apart := false, narrowed := true }
def FnExactValidSessionUptoSaid : Prop := fnExactValidSessionUptoRow.holds Try.pinned (OpenSpec.upto fnExactValidSessionSpec)

/-- 'laws.FnExactAnswerOf', WHERE WHAT IT READS IS OF BULK AT MOST 1048576: true; the input reads as it did. -/
def fnExactAnswerOfUptoRow : OpenClaim := { program := "ytclbkfmelhheaaa", sum := "e3c84514efb556766dc5df97bfbb822e56a86af422a9a019b4cd0660953e65d1", func := "loop.example/g01170/laws.FnExactAnswerOf", spec := "fnExactAnswerOf", inPlace := ["math.Float32bits", "math.Float32frombits", "math.Float64bits", "math.Float64frombits"], apart := false, narrowed := true }
def FnExactAnswerOfUptoSaid : Prop := fnExactAnswerOfUptoRow.holds Try.pinned (OpenSpec.upto fnExactAnswerOfSpec)

/-- 'laws.FnExactLengthOf', WHERE WHAT IT READS IS OF BULK AT MOST 1048576: true; the input reads as it did. -/
def fnExactLengthOfUptoRow : OpenClaim := { program := "ytclbkfmelhheaaa", sum := "e3c84514efb556766dc5df97bfbb822e56a86af422a9a019b4cd0660953e65d1", func := "loop.example/g01170/laws.FnExactLengthOf", spec := "fnExactLengthOf", apart := false, narrowed := true }
def FnExactLengthOfUptoSaid : Prop := fnExactLengthOfUptoRow.holds Try.pinned (OpenSpec.upto fnExactLengthOfSpec)

/-- 'laws.FnExactMixTracks', WHERE WHAT IT READS IS OF BULK AT MOST 1048576: true; the input reads as it did. -/
def fnExactMixTracksUptoRow : OpenClaim := { program := "ytclbkfmelhheaaa", sum := "e3c84514efb556766dc5df97bfbb822e56a86af422a9a019b4cd0660953e65d1", func := "loop.example/g01170/laws.FnExactMixTracks", spec := "fnExactMixTracks", inPlace := ["math.Float64frombits", "math.Float64bits", "math.archTrunc"], apart := false, narrowed := true }
def FnExactMixTracksUptoSaid : Prop := fnExactMixTracksUptoRow.holds Try.pinned (OpenSpec.upto fnExactMixTracksSpec)

/-- 'laws.FnExactCostOf', WHERE WHAT IT READS IS OF BULK AT MOST 1048576: true; the input reads as it did. -/
def fnExactCostOfUptoRow : OpenClaim := { program := "ytclbkfmelhheaaa", sum := "e3c84514efb556766dc5df97bfbb822e56a86af422a9a019b4cd0660953e65d1", func := "loop.example/g01170/laws.FnExactCostOf", spec := "fnExactCostOf", apart := false, narrowed := true }
def FnExactCostOfUptoSaid : Prop := fnExactCostOfUptoRow.holds Try.pinned (OpenSpec.upto fnExactCostOfSpec)

/-- 'laws.FnExactRunRoom', WHERE WHAT IT READS IS OF BULK AT MOST 1048576: true; the input reads as it did. -/
def fnExactRunRoomUptoRow : OpenClaim := { program := "ytclbkfmelhheaaa", sum := "e3c84514efb556766dc5df97bfbb822e56a86af422a9a019b4cd0660953e65d1", func := "loop.example/g01170/laws.FnExactRunRoom", spec := "fnExactRunRoom", inPlace := ["math.Float32bits", "math.Float32frombits", "math.Float64bits", "math.Float64frombits"], apart := false, narrowed := true }
def FnExactRunRoomUptoSaid : Prop := fnExactRunRoomUptoRow.holds Try.pinned (OpenSpec.upto fnExactRunRoomSpec)

/-- 'laws.FnExactTrackOf', WHERE WHAT IT READS IS OF BULK AT MOST 1048576: true; the input reads as it did. -/
def fnExactTrackOfUptoRow : OpenClaim := { program := "ytclbkfmelhheaaa", sum := "e3c84514efb556766dc5df97bfbb822e56a86af422a9a019b4cd0660953e65d1", func := "loop.example/g01170/laws.FnExactTrackOf", spec := "fnExactTrackOf", apart := false, narrowed := true }
def FnExactTrackOfUptoSaid : Prop := fnExactTrackOfUptoRow.holds Try.pinned (OpenSpec.upto fnExactTrackOfSpec)

/-- 'laws.FnExactRenderNotes', WHERE WHAT IT READS IS OF BULK AT MOST 1048576: true; the input reads as it did. -/
def fnExactRenderNotesUptoRow : OpenClaim := { program := "ytclbkfmelhheaaa", sum := "e3c84514efb556766dc5df97bfbb822e56a86af422a9a019b4cd0660953e65d1", func := "loop.example/g01170/laws.FnExactRenderNotes", spec := "fnExactRenderNotes", inPlace := ["math.Float64frombits", "math.Float32bits", "math.Float32frombits", "math.Float64bits", "math.archTrunc"], apart := false, narrowed := true }
def FnExactRenderNotesUptoSaid : Prop := fnExactRenderNotesUptoRow.holds Try.pinned (OpenSpec.upto fnExactRenderNotesSpec)

end Rows
end Go.Proofs.Ytclbkfmelhheaaa
