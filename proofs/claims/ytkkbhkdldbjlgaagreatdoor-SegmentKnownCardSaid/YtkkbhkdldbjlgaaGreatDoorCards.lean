/-
  DERIVED. GIVEN WITH THE SEED: THE CARDS: each row of YtkkbhkdldbjlgaaGreatDoorRows.lean that lists a variable, with what it lists TIED to the program's text (the seventh form; the later family's looks); each row that meets fmt, with fmt's text TOLD by the authors' own Lean function (tested against real Go, not proved from fmt's source: count such statements apart). THE CARD IS WHAT COUNTS. Prove the row's statement (the work); the ties are given (YtkkbhkdldbjlgaaGreatDoorTie.lean); close each card by the builder's one call (the guide's Derived/Test/ToyasCard.lean, 'card_holds'). Laid BY PROGRAM, IN A SANDBOX (cutbox-door.mjs). By AI agents, Wed Nov 11 2026. No macro, syntax, notation, axiom, sorry.
-/
import Derived.Test.YtkkbhkdldbjlgaaGreatDoorRows
import GoSem.ClaimSeven
namespace Go.Proofs.YtkkbhkdldbjlgaaGreatDoor
namespace Rows

/-- THE TIED CARD OF 'lecternlaw16.SegmentKnown'. -/
def segmentKnownCard : Claim7 := { stood := { row := segmentKnownRow, standIns := [], harness := (true, "8144e6c23531eb454e2ae495127598c885db2655d108067298d3cffa83e5a3cf"), looks := true }, kinds := [], alts := [], laidByText := true, laidKinds := [.data, .data, .data, .data, .sentinel, .sentinel, .pinned], laidTests := true, laidLooks := .later }
def SegmentKnownCardSaid : Prop := Claim7.holds Tryz.pinned (.plain (OpenSpec.ofChange segmentKnownSpec)) segmentKnownCard

/-- THE SECOND FORM's CARD OF 'lecternlaw16.SegmentKnown'. -/
def segmentKnownUptoCard : Claim7 := { stood := { row := segmentKnownUptoRow, standIns := [], harness := (true, "8144e6c23531eb454e2ae495127598c885db2655d108067298d3cffa83e5a3cf"), looks := true }, kinds := [], alts := [], laidByText := true, laidKinds := [.data, .data, .data, .data, .sentinel, .sentinel, .pinned], laidTests := true, laidLooks := .later }
def SegmentKnownUptoCardSaid : Prop := Claim7.holds Tryz.pinned (.plain (OpenSpec.upto segmentKnownSpec)) segmentKnownUptoCard
end Rows
end Go.Proofs.YtkkbhkdldbjlgaaGreatDoor
