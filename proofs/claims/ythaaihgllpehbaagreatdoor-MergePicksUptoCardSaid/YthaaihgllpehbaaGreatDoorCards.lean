/-
  DERIVED. GIVEN WITH THE SEED: THE CARDS: each row of YthaaihgllpehbaaGreatDoorRows.lean that lists a variable, with what it lists TIED to the program's text (the seventh form; the later family's looks); each row that meets fmt, with fmt's text TOLD by the authors' own Lean function (tested against real Go, not proved from fmt's source: count such statements apart). THE CARD IS WHAT COUNTS. Prove the row's statement (the work); the ties are given (YthaaihgllpehbaaGreatDoorTie.lean); close each card by the builder's one call (the guide's Derived/Test/ToyasCard.lean, 'card_holds'). Laid BY PROGRAM, IN A SANDBOX (cutbox-door.mjs). By AI agents, Wed Nov 11 2026. No macro, syntax, notation, axiom, sorry.
-/
import Derived.Test.YthaaihgllpehbaaGreatDoorRows
import GoSem.ClaimSeven
namespace Go.Proofs.YthaaihgllpehbaaGreatDoor
namespace Rows

/-- THE TIED CARD OF 'lecternlaw17.MergePicks'. -/
def mergePicksCard : Claim7 := { stood := { row := mergePicksRow, standIns := [], harness := (true, "c44515d9c295d1039a072bdd960e413bb91bb23842487e0930011f8663f2e32e"), looks := true }, kinds := [], alts := [], laidByText := true, laidKinds := [.data, .data, .data, .data, .sentinel, .sentinel, .pinned], laidTests := true, laidLooks := .later }
def MergePicksCardSaid : Prop := Claim7.holds Tryz.pinned (.plain (OpenSpec.ofChange mergePicksSpec)) mergePicksCard

/-- THE SECOND FORM's CARD OF 'lecternlaw17.MergePicks'. -/
def mergePicksUptoCard : Claim7 := { stood := { row := mergePicksUptoRow, standIns := [], harness := (true, "c44515d9c295d1039a072bdd960e413bb91bb23842487e0930011f8663f2e32e"), looks := true }, kinds := [], alts := [], laidByText := true, laidKinds := [.data, .data, .data, .data, .sentinel, .sentinel, .pinned], laidTests := true, laidLooks := .later }
def MergePicksUptoCardSaid : Prop := Claim7.holds Tryz.pinned (.plain (OpenSpec.upto mergePicksSpec)) mergePicksUptoCard
end Rows
end Go.Proofs.YthaaihgllpehbaaGreatDoor
