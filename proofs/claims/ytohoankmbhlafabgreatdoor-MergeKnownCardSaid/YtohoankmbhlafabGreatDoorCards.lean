/-
  DERIVED. GIVEN WITH THE SEED: THE CARDS: each row of YtohoankmbhlafabGreatDoorRows.lean that lists a variable, with what it lists TIED to the program's text (the seventh form; the later family's looks); each row that meets fmt, with fmt's text TOLD by the authors' own Lean function (tested against real Go, not proved from fmt's source: count such statements apart). THE CARD IS WHAT COUNTS. Prove the row's statement (the work); the ties are given (YtohoankmbhlafabGreatDoorTie.lean); close each card by the builder's one call (the guide's Derived/Test/ToyasCard.lean, 'card_holds'). Laid BY PROGRAM, IN A SANDBOX (cutbox-door.mjs). By AI agents, Wed Nov 11 2026. No macro, syntax, notation, axiom, sorry.
-/
import Derived.Test.YtohoankmbhlafabGreatDoorRows
import GoSem.ClaimSeven
namespace Go.Proofs.YtohoankmbhlafabGreatDoor
namespace Rows

/-- THE TIED CARD OF 'lecternlaw17.MergeKnown'. -/
def mergeKnownCard : Claim7 := { stood := { row := mergeKnownRow, standIns := [], harness := (true, "e02f77960f8d1223cd1a4e3b5d245c4980e582726beb029b5120292ae454c9f9"), looks := true }, kinds := [], alts := [], laidByText := true, laidKinds := [.data, .data, .data, .data, .sentinel, .sentinel, .pinned], laidTests := true, laidLooks := .later }
def MergeKnownCardSaid : Prop := Claim7.holds Tryz.pinned (.plain (OpenSpec.ofChange mergeKnownSpec)) mergeKnownCard

/-- THE SECOND FORM's CARD OF 'lecternlaw17.MergeKnown'. -/
def mergeKnownUptoCard : Claim7 := { stood := { row := mergeKnownUptoRow, standIns := [], harness := (true, "e02f77960f8d1223cd1a4e3b5d245c4980e582726beb029b5120292ae454c9f9"), looks := true }, kinds := [], alts := [], laidByText := true, laidKinds := [.data, .data, .data, .data, .sentinel, .sentinel, .pinned], laidTests := true, laidLooks := .later }
def MergeKnownUptoCardSaid : Prop := Claim7.holds Tryz.pinned (.plain (OpenSpec.upto mergeKnownSpec)) mergeKnownUptoCard
end Rows
end Go.Proofs.YtohoankmbhlafabGreatDoor
