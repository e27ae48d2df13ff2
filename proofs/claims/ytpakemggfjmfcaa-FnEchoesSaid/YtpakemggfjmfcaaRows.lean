/-
  No cell of these rows narrows 'for every input' (looked for: loops, veiled, ifaces, maps, wideKeys, modest, calm, conditions, laid).
  DERIVED. THE GIVEN ROWS OF THIS SEAT. 12 by the template 'for every input the law returns true; each argument reads behind the call as it read before'; 0 by the template 'total and deterministic' (their statements: YtpakemggfjmfcaaTotals.lean).
  GIVEN WITH THE SEED: the statements are not yours to turn. If you find one false, say at which input.
  Laid BY PROGRAM, IN A SANDBOX (cutbox-rows.mjs): the forced cells as the released guide's own fill.sh prints them over the translation 7e5cae2c75a3cf34… (all of the seat's roots in one cut). By AI agents, Wed Nov 11 2026. No macro, syntax, notation, axiom, sorry.
-/
import Derived.Test.YtpakemggfjmfcaaChecked
import GoSem.Claim
import GoSem.ClaimJoined
import GoSem.ClaimMapViews
import Derived.JoinedTies
import Derived.KernelRfl
namespace Go.Proofs.Ytpakemggfjmfcaa
/- THE CELL 'sum', in the pinned program and in every row, IS THE sha256 OF THE DUMP (.gsa) THAT YtpakemggfjmfcaaProg.lean LOADS. Nothing in Lean hashes anything: it is a label: what it is worth is what the hold of that sum in a sandbox is worth. -/
noncomputable def Try.pinned : Pinned := { name := "ytpakemggfjmfcaa", sum := "7e5cae2c75a3cf3406e7a74e77318c39f658da12cf0c49b0f119e6a8c34e060f", checked := Try.checked }
namespace Rows
def none {H : Type} : Left H := { results := [], args := [] }

/-- 'laws.FnExactRunFilter': WHATEVER THE INPUT: true; the input reads as it did. -/
def fnExactRunFilterSpec : ChangeSpec := { name := "fnExactRunFilter", fn := fun _ => fun
  | [d1, d2, d3, d4, d5] => { results := [.lit (.bool true)], args := [d1, d2, d3, d4, d5] }
  | _ => none }
def fnExactRunFilterRow : OpenClaim := { program := "ytpakemggfjmfcaa", sum := "7e5cae2c75a3cf3406e7a74e77318c39f658da12cf0c49b0f119e6a8c34e060f", func := "loop.example/g01170/laws.FnExactRunFilter", spec := "fnExactRunFilter", inPlace := ["math.Float32bits", "math.Float32frombits", "math.Float64bits", "math.Float64frombits"], apart := false }
def FnExactRunFilterSaid : Prop := fnExactRunFilterRow.holds Try.pinned (OpenSpec.ofChange fnExactRunFilterSpec)

/-- ITS FALSE NEIGHBOUR: 'it returns false'. Refute it at one input. -/
def fnExactRunFilterWrong : ChangeSpec := { name := "fnExactRunFilter", fn := fun _ => fun
  | [d1, d2, d3, d4, d5] => { results := [.lit (.bool false)], args := [d1, d2, d3, d4, d5] }
  | _ => none }
def FnExactRunFilterWrongFalsely : Prop := fnExactRunFilterRow.holds Try.pinned (OpenSpec.ofChange fnExactRunFilterWrong)

/-- 'laws.FnExactPlayAt': WHATEVER THE INPUT: true; the input reads as it did. -/
def fnExactPlayAtSpec : ChangeSpec := { name := "fnExactPlayAt", fn := fun _ => fun
  | [d1, d2, d3, d4, d5] => { results := [.lit (.bool true)], args := [d1, d2, d3, d4, d5] }
  | _ => none }
def fnExactPlayAtRow : OpenClaim := { program := "ytpakemggfjmfcaa", sum := "7e5cae2c75a3cf3406e7a74e77318c39f658da12cf0c49b0f119e6a8c34e060f", func := "loop.example/g01170/laws.FnExactPlayAt", spec := "fnExactPlayAt", inPlace := ["math.archFloor", "math.Float64bits", "math.Float64frombits", "math.archTrunc"], unfollowed := true, recurses := true, apart := false }
def FnExactPlayAtSaid : Prop := fnExactPlayAtRow.holds Try.pinned (OpenSpec.ofChange fnExactPlayAtSpec)

/-- ITS FALSE NEIGHBOUR: 'it returns false'. Refute it at one input. -/
def fnExactPlayAtWrong : ChangeSpec := { name := "fnExactPlayAt", fn := fun _ => fun
  | [d1, d2, d3, d4, d5] => { results := [.lit (.bool false)], args := [d1, d2, d3, d4, d5] }
  | _ => none }
def FnExactPlayAtWrongFalsely : Prop := fnExactPlayAtRow.holds Try.pinned (OpenSpec.ofChange fnExactPlayAtWrong)

/-- 'laws.FnExactHeardTracks': WHATEVER THE INPUT: true; the input reads as it did. -/
def fnExactHeardTracksSpec : ChangeSpec := { name := "fnExactHeardTracks", fn := fun _ => fun
  | [d] => { results := [.lit (.bool true)], args := [d] }
  | _ => none }
def fnExactHeardTracksRow : OpenClaim := { program := "ytpakemggfjmfcaa", sum := "7e5cae2c75a3cf3406e7a74e77318c39f658da12cf0c49b0f119e6a8c34e060f", func := "loop.example/g01170/laws.FnExactHeardTracks", spec := "fnExactHeardTracks", apart := false }
def FnExactHeardTracksSaid : Prop := fnExactHeardTracksRow.holds Try.pinned (OpenSpec.ofChange fnExactHeardTracksSpec)

/-- ITS FALSE NEIGHBOUR: 'it returns false'. Refute it at one input. -/
def fnExactHeardTracksWrong : ChangeSpec := { name := "fnExactHeardTracks", fn := fun _ => fun
  | [d] => { results := [.lit (.bool false)], args := [d] }
  | _ => none }
def FnExactHeardTracksWrongFalsely : Prop := fnExactHeardTracksRow.holds Try.pinned (OpenSpec.ofChange fnExactHeardTracksWrong)

/-- 'laws.FnEnvelopes': WHATEVER THE INPUT: true; the input reads as it did. -/
def fnEnvelopesSpec : ChangeSpec := { name := "fnEnvelopes", fn := fun _ => fun
  | [d1, d2] => { results := [.lit (.bool true)], args := [d1, d2] }
  | _ => none }
def fnEnvelopesRow : OpenClaim := { program := "ytpakemggfjmfcaa", sum := "7e5cae2c75a3cf3406e7a74e77318c39f658da12cf0c49b0f119e6a8c34e060f", func := "loop.example/g01170/laws.FnEnvelopes", spec := "fnEnvelopes", inPlace := ["math.Float64frombits", "math.Float64bits", "math.archTrunc"], apart := false }
def FnEnvelopesSaid : Prop := fnEnvelopesRow.holds Try.pinned (OpenSpec.ofChange fnEnvelopesSpec)

/-- ITS FALSE NEIGHBOUR: 'it returns false'. Refute it at one input. -/
def fnEnvelopesWrong : ChangeSpec := { name := "fnEnvelopes", fn := fun _ => fun
  | [d1, d2] => { results := [.lit (.bool false)], args := [d1, d2] }
  | _ => none }
def FnEnvelopesWrongFalsely : Prop := fnEnvelopesRow.holds Try.pinned (OpenSpec.ofChange fnEnvelopesWrong)

/-- 'laws.FnExactIsState': WHATEVER THE INPUT: true; the input reads as it did. -/
def fnExactIsStateSpec : ChangeSpec := { name := "fnExactIsState", fn := fun _ => fun
  | [d1, d2] => { results := [.lit (.bool true)], args := [d1, d2] }
  | _ => none }
def fnExactIsStateRow : OpenClaim := { program := "ytpakemggfjmfcaa", sum := "7e5cae2c75a3cf3406e7a74e77318c39f658da12cf0c49b0f119e6a8c34e060f", func := "loop.example/g01170/laws.FnExactIsState", spec := "fnExactIsState", apart := false }
def FnExactIsStateSaid : Prop := fnExactIsStateRow.holds Try.pinned (OpenSpec.ofChange fnExactIsStateSpec)

/-- ITS FALSE NEIGHBOUR: 'it returns false'. Refute it at one input. -/
def fnExactIsStateWrong : ChangeSpec := { name := "fnExactIsState", fn := fun _ => fun
  | [d1, d2] => { results := [.lit (.bool false)], args := [d1, d2] }
  | _ => none }
def FnExactIsStateWrongFalsely : Prop := fnExactIsStateRow.holds Try.pinned (OpenSpec.ofChange fnExactIsStateWrong)

/-- 'laws.FnExactJoinChains': WHATEVER THE INPUT: true; the input reads as it did. -/
def fnExactJoinChainsSpec : ChangeSpec := { name := "fnExactJoinChains", fn := fun _ => fun
  | [d1, d2] => { results := [.lit (.bool true)], args := [d1, d2] }
  | _ => none }
def fnExactJoinChainsRow : OpenClaim := { program := "ytpakemggfjmfcaa", sum := "7e5cae2c75a3cf3406e7a74e77318c39f658da12cf0c49b0f119e6a8c34e060f", func := "loop.example/g01170/laws.FnExactJoinChains", spec := "fnExactJoinChains", apart := false }
def FnExactJoinChainsSaid : Prop := fnExactJoinChainsRow.holds Try.pinned (OpenSpec.ofChange fnExactJoinChainsSpec)

/-- ITS FALSE NEIGHBOUR: 'it returns false'. Refute it at one input. -/
def fnExactJoinChainsWrong : ChangeSpec := { name := "fnExactJoinChains", fn := fun _ => fun
  | [d1, d2] => { results := [.lit (.bool false)], args := [d1, d2] }
  | _ => none }
def FnExactJoinChainsWrongFalsely : Prop := fnExactJoinChainsRow.holds Try.pinned (OpenSpec.ofChange fnExactJoinChainsWrong)

/-- 'laws.FnExactMixNodes': WHATEVER THE INPUT: true; the input reads as it did. -/
def fnExactMixNodesSpec : ChangeSpec := { name := "fnExactMixNodes", fn := fun _ => fun
  | [d1, d2] => { results := [.lit (.bool true)], args := [d1, d2] }
  | _ => none }
def fnExactMixNodesRow : OpenClaim := { program := "ytpakemggfjmfcaa", sum := "7e5cae2c75a3cf3406e7a74e77318c39f658da12cf0c49b0f119e6a8c34e060f", func := "loop.example/g01170/laws.FnExactMixNodes", spec := "fnExactMixNodes", apart := false }
def FnExactMixNodesSaid : Prop := fnExactMixNodesRow.holds Try.pinned (OpenSpec.ofChange fnExactMixNodesSpec)

/-- ITS FALSE NEIGHBOUR: 'it returns false'. Refute it at one input. -/
def fnExactMixNodesWrong : ChangeSpec := { name := "fnExactMixNodes", fn := fun _ => fun
  | [d1, d2] => { results := [.lit (.bool false)], args := [d1, d2] }
  | _ => none }
def FnExactMixNodesWrongFalsely : Prop := fnExactMixNodesRow.holds Try.pinned (OpenSpec.ofChange fnExactMixNodesWrong)

/-- 'laws.FnExactRunOscillator': WHATEVER THE INPUT: true; the input reads as it did. -/
def fnExactRunOscillatorSpec : ChangeSpec := { name := "fnExactRunOscillator", fn := fun _ => fun
  | [d1, d2] => { results := [.lit (.bool true)], args := [d1, d2] }
  | _ => none }
def fnExactRunOscillatorRow : OpenClaim := { program := "ytpakemggfjmfcaa", sum := "7e5cae2c75a3cf3406e7a74e77318c39f658da12cf0c49b0f119e6a8c34e060f", func := "loop.example/g01170/laws.FnExactRunOscillator", spec := "fnExactRunOscillator", inPlace := ["math.Float64frombits", "math.Float32bits", "math.Float32frombits", "math.Float64bits", "math.archTrunc"], apart := false }
def FnExactRunOscillatorSaid : Prop := fnExactRunOscillatorRow.holds Try.pinned (OpenSpec.ofChange fnExactRunOscillatorSpec)

/-- ITS FALSE NEIGHBOUR: 'it returns false'. Refute it at one input. -/
def fnExactRunOscillatorWrong : ChangeSpec := { name := "fnExactRunOscillator", fn := fun _ => fun
  | [d1, d2] => { results := [.lit (.bool false)], args := [d1, d2] }
  | _ => none }
def FnExactRunOscillatorWrongFalsely : Prop := fnExactRunOscillatorRow.holds Try.pinned (OpenSpec.ofChange fnExactRunOscillatorWrong)

/-- 'laws.FnExactNewState': WHATEVER THE INPUT: true; the input reads as it did. -/
def fnExactNewStateSpec : ChangeSpec := { name := "fnExactNewState", fn := fun _ => fun
  | [d] => { results := [.lit (.bool true)], args := [d] }
  | _ => none }
def fnExactNewStateRow : OpenClaim := { program := "ytpakemggfjmfcaa", sum := "7e5cae2c75a3cf3406e7a74e77318c39f658da12cf0c49b0f119e6a8c34e060f", func := "loop.example/g01170/laws.FnExactNewState", spec := "fnExactNewState", apart := false }
def FnExactNewStateSaid : Prop := fnExactNewStateRow.holds Try.pinned (OpenSpec.ofChange fnExactNewStateSpec)

/-- ITS FALSE NEIGHBOUR: 'it returns false'. Refute it at one input. -/
def fnExactNewStateWrong : ChangeSpec := { name := "fnExactNewState", fn := fun _ => fun
  | [d] => { results := [.lit (.bool false)], args := [d] }
  | _ => none }
def FnExactNewStateWrongFalsely : Prop := fnExactNewStateRow.holds Try.pinned (OpenSpec.ofChange fnExactNewStateWrong)

/-- 'laws.FnEchoes': WHATEVER THE INPUT: true; the input reads as it did. -/
def fnEchoesSpec : ChangeSpec := { name := "fnEchoes", fn := fun _ => fun
  | [d1, d2] => { results := [.lit (.bool true)], args := [d1, d2] }
  | _ => none }
def fnEchoesRow : OpenClaim := { program := "ytpakemggfjmfcaa", sum := "7e5cae2c75a3cf3406e7a74e77318c39f658da12cf0c49b0f119e6a8c34e060f", func := "loop.example/g01170/laws.FnEchoes", spec := "fnEchoes", inPlace := ["math.Float64bits", "math.Float64frombits"], apart := false }
def FnEchoesSaid : Prop := fnEchoesRow.holds Try.pinned (OpenSpec.ofChange fnEchoesSpec)

/-- ITS FALSE NEIGHBOUR: 'it returns false'. Refute it at one input. -/
def fnEchoesWrong : ChangeSpec := { name := "fnEchoes", fn := fun _ => fun
  | [d1, d2] => { results := [.lit (.bool false)], args := [d1, d2] }
  | _ => none }
def FnEchoesWrongFalsely : Prop := fnEchoesRow.holds Try.pinned (OpenSpec.ofChange fnEchoesWrong)

/-- 'laws.FnExactRunFilters': WHATEVER THE INPUT: true; the input reads as it did. -/
def fnExactRunFiltersSpec : ChangeSpec := { name := "fnExactRunFilters", fn := fun _ => fun
  | [d1, d2, d3, d4, d5] => { results := [.lit (.bool true)], args := [d1, d2, d3, d4, d5] }
  | _ => none }
def fnExactRunFiltersRow : OpenClaim := { program := "ytpakemggfjmfcaa", sum := "7e5cae2c75a3cf3406e7a74e77318c39f658da12cf0c49b0f119e6a8c34e060f", func := "loop.example/g01170/laws.FnExactRunFilters", spec := "fnExactRunFilters", inPlace := ["math.Float32bits", "math.Float32frombits", "math.Float64bits", "math.Float64frombits"], apart := false }
def FnExactRunFiltersSaid : Prop := fnExactRunFiltersRow.holds Try.pinned (OpenSpec.ofChange fnExactRunFiltersSpec)

/-- ITS FALSE NEIGHBOUR: 'it returns false'. Refute it at one input. -/
def fnExactRunFiltersWrong : ChangeSpec := { name := "fnExactRunFilters", fn := fun _ => fun
  | [d1, d2, d3, d4, d5] => { results := [.lit (.bool false)], args := [d1, d2, d3, d4, d5] }
  | _ => none }
def FnExactRunFiltersWrongFalsely : Prop := fnExactRunFiltersRow.holds Try.pinned (OpenSpec.ofChange fnExactRunFiltersWrong)

/-- 'laws.FnExactWithoutEffect': WHATEVER THE INPUT: true; the input reads as it did. -/
def fnExactWithoutEffectSpec : ChangeSpec := { name := "fnExactWithoutEffect", fn := fun _ => fun
  | [d1, d2, d3] => { results := [.lit (.bool true)], args := [d1, d2, d3] }
  | _ => none }
def fnExactWithoutEffectRow : OpenClaim := { program := "ytpakemggfjmfcaa", sum := "7e5cae2c75a3cf3406e7a74e77318c39f658da12cf0c49b0f119e6a8c34e060f", func := "loop.example/g01170/laws.FnExactWithoutEffect", spec := "fnExactWithoutEffect", apart := false }
def FnExactWithoutEffectSaid : Prop := fnExactWithoutEffectRow.holds Try.pinned (OpenSpec.ofChange fnExactWithoutEffectSpec)

/-- ITS FALSE NEIGHBOUR: 'it returns false'. Refute it at one input. -/
def fnExactWithoutEffectWrong : ChangeSpec := { name := "fnExactWithoutEffect", fn := fun _ => fun
  | [d1, d2, d3] => { results := [.lit (.bool false)], args := [d1, d2, d3] }
  | _ => none }
def FnExactWithoutEffectWrongFalsely : Prop := fnExactWithoutEffectRow.holds Try.pinned (OpenSpec.ofChange fnExactWithoutEffectWrong)

/- THE SECOND FORM. 'bulk': how many values and letters a reading holds, each counted each time it is reached (what is shared counts as often as it is met; a slice's spare places count too). A statement '..UptoSaid' is the law's where the arguments, and the package variables that the reading takes, are together of bulk at most 1048576: NARROWER than '..Said'. Prove '..Said' where nothing that the law and all that it calls make is longer than what came in: it says more and counts as full. Else prove '..UptoSaid'. A law counts once. -/
mutual
def uptoBulk {H : Type} : DataW H → Nat
  | .lit (.string bytes) => bytes.length + 1
  | .lit _ => 1
  | .nil => 1
  | .ptr d => uptoBulk d + 1
  | .slice elems spare => uptoBulkAll elems + uptoBulkAll spare + 1
  | .agg parts => uptoBulkAll parts + 1
  | .iface _ d => uptoBulk d + 1
  | .map entries => uptoBulkEntries entries + 1
  | .held _ => 1
def uptoBulkAll {H : Type} : List (DataW H) → Nat
  | [] => 0
  | d :: r => uptoBulk d + uptoBulkAll r
def uptoBulkEntries {H : Type} : List (Lit × DataW H) → Nat
  | [] => 0
  | x :: r => uptoBulkEntry x + uptoBulkEntries r
def uptoBulkEntry {H : Type} : Lit × DataW H → Nat
  | (.string bytes, d) => bytes.length + uptoBulk d + 1
  | (_, d) => uptoBulk d + 1
 end
def uptoSmall : (H : Type) → List (DataW H) → Bool := fun _ ds => decide (uptoBulkAll ds ≤ 1048576)
def OpenSpec.upto (s : _root_.Go.ChangeSpec) : _root_.Go.OpenSpec := { _root_.Go.OpenSpec.ofChange s with cond := some uptoSmall }

/-- 'laws.FnExactRunFilter', WHERE WHAT IT READS IS OF BULK AT MOST 1048576: true; the input reads as it did. -/
def fnExactRunFilterUptoRow : OpenClaim := { program := "ytpakemggfjmfcaa", sum := "7e5cae2c75a3cf3406e7a74e77318c39f658da12cf0c49b0f119e6a8c34e060f", func := "loop.example/g01170/laws.FnExactRunFilter", spec := "fnExactRunFilter", inPlace := ["math.Float32bits", "math.Float32frombits", "math.Float64bits", "math.Float64frombits"], apart := false, narrowed := true }
def FnExactRunFilterUptoSaid : Prop := fnExactRunFilterUptoRow.holds Try.pinned (OpenSpec.upto fnExactRunFilterSpec)

/-- 'laws.FnExactPlayAt', WHERE WHAT IT READS IS OF BULK AT MOST 1048576: true; the input reads as it did. -/
def fnExactPlayAtUptoRow : OpenClaim := { program := "ytpakemggfjmfcaa", sum := "7e5cae2c75a3cf3406e7a74e77318c39f658da12cf0c49b0f119e6a8c34e060f", func := "loop.example/g01170/laws.FnExactPlayAt", spec := "fnExactPlayAt", inPlace := ["math.archFloor", "math.Float64bits", "math.Float64frombits", "math.archTrunc"], unfollowed := true, recurses := true, apart := false, narrowed := true }
def FnExactPlayAtUptoSaid : Prop := fnExactPlayAtUptoRow.holds Try.pinned (OpenSpec.upto fnExactPlayAtSpec)

/-- 'laws.FnExactHeardTracks', WHERE WHAT IT READS IS OF BULK AT MOST 1048576: true; the input reads as it did. -/
def fnExactHeardTracksUptoRow : OpenClaim := { program := "ytpakemggfjmfcaa", sum := "7e5cae2c75a3cf3406e7a74e77318c39f658da12cf0c49b0f119e6a8c34e060f", func := "loop.example/g01170/laws.FnExactHeardTracks", spec := "fnExactHeardTracks", apart := false, narrowed := true }
def FnExactHeardTracksUptoSaid : Prop := fnExactHeardTracksUptoRow.holds Try.pinned (OpenSpec.upto fnExactHeardTracksSpec)

/-- 'laws.FnEnvelopes', WHERE WHAT IT READS IS OF BULK AT MOST 1048576: true; the input reads as it did. -/
def fnEnvelopesUptoRow : OpenClaim := { program := "ytpakemggfjmfcaa", sum := "7e5cae2c75a3cf3406e7a74e77318c39f658da12cf0c49b0f119e6a8c34e060f", func := "loop.example/g01170/laws.FnEnvelopes", spec := "fnEnvelopes", inPlace := ["math.Float64frombits", "math.Float64bits", "math.archTrunc"], apart := false, narrowed := true }
def FnEnvelopesUptoSaid : Prop := fnEnvelopesUptoRow.holds Try.pinned (OpenSpec.upto fnEnvelopesSpec)

/-- 'laws.FnExactIsState', WHERE WHAT IT READS IS OF BULK AT MOST 1048576: true; the input reads as it did. -/
def fnExactIsStateUptoRow : OpenClaim := { program := "ytpakemggfjmfcaa", sum := "7e5cae2c75a3cf3406e7a74e77318c39f658da12cf0c49b0f119e6a8c34e060f", func := "loop.example/g01170/laws.FnExactIsState", spec := "fnExactIsState", apart := false, narrowed := true }
def FnExactIsStateUptoSaid : Prop := fnExactIsStateUptoRow.holds Try.pinned (OpenSpec.upto fnExactIsStateSpec)

/-- 'laws.FnExactJoinChains', WHERE WHAT IT READS IS OF BULK AT MOST 1048576: true; the input reads as it did. -/
def fnExactJoinChainsUptoRow : OpenClaim := { program := "ytpakemggfjmfcaa", sum := "7e5cae2c75a3cf3406e7a74e77318c39f658da12cf0c49b0f119e6a8c34e060f", func := "loop.example/g01170/laws.FnExactJoinChains", spec := "fnExactJoinChains", apart := false, narrowed := true }
def FnExactJoinChainsUptoSaid : Prop := fnExactJoinChainsUptoRow.holds Try.pinned (OpenSpec.upto fnExactJoinChainsSpec)

/-- 'laws.FnExactMixNodes', WHERE WHAT IT READS IS OF BULK AT MOST 1048576: true; the input reads as it did. -/
def fnExactMixNodesUptoRow : OpenClaim := { program := "ytpakemggfjmfcaa", sum := "7e5cae2c75a3cf3406e7a74e77318c39f658da12cf0c49b0f119e6a8c34e060f", func := "loop.example/g01170/laws.FnExactMixNodes", spec := "fnExactMixNodes", apart := false, narrowed := true }
def FnExactMixNodesUptoSaid : Prop := fnExactMixNodesUptoRow.holds Try.pinned (OpenSpec.upto fnExactMixNodesSpec)

/-- 'laws.FnExactRunOscillator', WHERE WHAT IT READS IS OF BULK AT MOST 1048576: true; the input reads as it did. -/
def fnExactRunOscillatorUptoRow : OpenClaim := { program := "ytpakemggfjmfcaa", sum := "7e5cae2c75a3cf3406e7a74e77318c39f658da12cf0c49b0f119e6a8c34e060f", func := "loop.example/g01170/laws.FnExactRunOscillator", spec := "fnExactRunOscillator", inPlace := ["math.Float64frombits", "math.Float32bits", "math.Float32frombits", "math.Float64bits", "math.archTrunc"], apart := false, narrowed := true }
def FnExactRunOscillatorUptoSaid : Prop := fnExactRunOscillatorUptoRow.holds Try.pinned (OpenSpec.upto fnExactRunOscillatorSpec)

/-- 'laws.FnExactNewState', WHERE WHAT IT READS IS OF BULK AT MOST 1048576: true; the input reads as it did. -/
def fnExactNewStateUptoRow : OpenClaim := { program := "ytpakemggfjmfcaa", sum := "7e5cae2c75a3cf3406e7a74e77318c39f658da12cf0c49b0f119e6a8c34e060f", func := "loop.example/g01170/laws.FnExactNewState", spec := "fnExactNewState", apart := false, narrowed := true }
def FnExactNewStateUptoSaid : Prop := fnExactNewStateUptoRow.holds Try.pinned (OpenSpec.upto fnExactNewStateSpec)

/-- 'laws.FnEchoes', WHERE WHAT IT READS IS OF BULK AT MOST 1048576: true; the input reads as it did. -/
def fnEchoesUptoRow : OpenClaim := { program := "ytpakemggfjmfcaa", sum := "7e5cae2c75a3cf3406e7a74e77318c39f658da12cf0c49b0f119e6a8c34e060f", func := "loop.example/g01170/laws.FnEchoes", spec := "fnEchoes", inPlace := ["math.Float64bits", "math.Float64frombits"], apart := false, narrowed := true }
def FnEchoesUptoSaid : Prop := fnEchoesUptoRow.holds Try.pinned (OpenSpec.upto fnEchoesSpec)

/-- 'laws.FnExactRunFilters', WHERE WHAT IT READS IS OF BULK AT MOST 1048576: true; the input reads as it did. -/
def fnExactRunFiltersUptoRow : OpenClaim := { program := "ytpakemggfjmfcaa", sum := "7e5cae2c75a3cf3406e7a74e77318c39f658da12cf0c49b0f119e6a8c34e060f", func := "loop.example/g01170/laws.FnExactRunFilters", spec := "fnExactRunFilters", inPlace := ["math.Float32bits", "math.Float32frombits", "math.Float64bits", "math.Float64frombits"], apart := false, narrowed := true }
def FnExactRunFiltersUptoSaid : Prop := fnExactRunFiltersUptoRow.holds Try.pinned (OpenSpec.upto fnExactRunFiltersSpec)

/-- 'laws.FnExactWithoutEffect', WHERE WHAT IT READS IS OF BULK AT MOST 1048576: true; the input reads as it did. -/
def fnExactWithoutEffectUptoRow : OpenClaim := { program := "ytpakemggfjmfcaa", sum := "7e5cae2c75a3cf3406e7a74e77318c39f658da12cf0c49b0f119e6a8c34e060f", func := "loop.example/g01170/laws.FnExactWithoutEffect", spec := "fnExactWithoutEffect", apart := false, narrowed := true }
def FnExactWithoutEffectUptoSaid : Prop := fnExactWithoutEffectUptoRow.holds Try.pinned (OpenSpec.upto fnExactWithoutEffectSpec)

end Rows
end Go.Proofs.Ytpakemggfjmfcaa
