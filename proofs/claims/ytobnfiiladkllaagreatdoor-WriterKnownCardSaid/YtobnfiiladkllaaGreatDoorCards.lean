/-
  DERIVED. GIVEN WITH THE SEED: THE CARDS: each row of YtobnfiiladkllaaGreatDoorRows.lean that lists a variable, with what it lists TIED to the program's text (the seventh form; the later family's looks); each row that meets fmt, with fmt's text TOLD by the authors' own Lean function (tested against real Go, not proved from fmt's source: count such statements apart). THE CARD IS WHAT COUNTS. Prove the row's statement (the work); the ties are given (YtobnfiiladkllaaGreatDoorTie.lean); close each card by the builder's one call (the guide's Derived/Test/ToyasCard.lean, 'card_holds'). Laid BY PROGRAM, IN A SANDBOX (cutbox-door.mjs). By AI agents, Wed Nov 11 2026. No macro, syntax, notation, axiom, sorry.
-/
import Derived.Test.YtobnfiiladkllaaGreatDoorRows
import GoSem.ClaimSeven
namespace Go.Proofs.YtobnfiiladkllaaGreatDoor
namespace Rows

/-- THE TIED CARD OF 'lecternlaw26.WriterKnown'. -/
def writerKnownCard : Claim7 := { stood := { row := writerKnownRow, standIns := [], harness := (true, "fda3fcb752839a7f8283ee1cd832785c8239c9c6790a7dde822763261ff753f2"), looks := true }, kinds := [], alts := [], laidByText := true, laidKinds := [.data, .data, .data, .data, .sentinel, .sentinel, .pinned], laidTests := true, laidLooks := .later }
def WriterKnownCardSaid : Prop := Claim7.holds Tryz.pinned (.plain (OpenSpec.ofChange writerKnownSpec)) writerKnownCard

/-- THE SECOND FORM's CARD OF 'lecternlaw26.WriterKnown'. -/
def writerKnownUptoCard : Claim7 := { stood := { row := writerKnownUptoRow, standIns := [], harness := (true, "fda3fcb752839a7f8283ee1cd832785c8239c9c6790a7dde822763261ff753f2"), looks := true }, kinds := [], alts := [], laidByText := true, laidKinds := [.data, .data, .data, .data, .sentinel, .sentinel, .pinned], laidTests := true, laidLooks := .later }
def WriterKnownUptoCardSaid : Prop := Claim7.holds Tryz.pinned (.plain (OpenSpec.upto writerKnownSpec)) writerKnownUptoCard
end Rows
end Go.Proofs.YtobnfiiladkllaaGreatDoor
