/-
  DERIVED. GIVEN WITH THE SEED: THE CARDS: each row of YtgdloogokjemdaaGreatDoorRows.lean that lists a variable, with what it lists TIED to the program's text (the seventh form; the later family's looks); each row that meets fmt, with fmt's text TOLD by the authors' own Lean function (tested against real Go, not proved from fmt's source: count such statements apart). THE CARD IS WHAT COUNTS. Prove the row's statement (the work); the ties are given (YtgdloogokjemdaaGreatDoorTie.lean); close each card by the builder's one call (the guide's Derived/Test/ToyasCard.lean, 'card_holds'). Laid BY PROGRAM, IN A SANDBOX (cutbox-door.mjs). By AI agents, Wed Nov 11 2026. No macro, syntax, notation, axiom, sorry.
-/
import Derived.Test.YtgdloogokjemdaaGreatDoorRows
import GoSem.ClaimSeven
namespace Go.Proofs.YtgdloogokjemdaaGreatDoor
namespace Rows

/-- THE TIED CARD OF 'laws.FnExactReadState'. -/
def fnExactReadStateCard : Claim7 := { stood := { row := fnExactReadStateRow, standIns := [], harness := (true, "7184fbce338d78200c806f3e5d01bc185307875e97439712b0803fd3b471e2e6"), looks := true }, kinds := [], alts := [], laidByText := true, laidKinds := [.data, .data, .data, .data, .sentinel, .sentinel, .pinned], laidTests := true, laidLooks := .later }
def FnExactReadStateCardSaid : Prop := Claim7.holds Tryz.pinned (.plain (OpenSpec.ofChange fnExactReadStateSpec)) fnExactReadStateCard

/-- THE SECOND FORM's CARD OF 'laws.FnExactReadState'. -/
def fnExactReadStateUptoCard : Claim7 := { stood := { row := fnExactReadStateUptoRow, standIns := [], harness := (true, "7184fbce338d78200c806f3e5d01bc185307875e97439712b0803fd3b471e2e6"), looks := true }, kinds := [], alts := [], laidByText := true, laidKinds := [.data, .data, .data, .data, .sentinel, .sentinel, .pinned], laidTests := true, laidLooks := .later }
def FnExactReadStateUptoCardSaid : Prop := Claim7.holds Tryz.pinned (.plain (OpenSpec.upto fnExactReadStateSpec)) fnExactReadStateUptoCard
end Rows
end Go.Proofs.YtgdloogokjemdaaGreatDoor
