/-
  DERIVED. GIVEN WITH THE SEED: THE CARDS: each row of YtbnmnkpkjmoehabGreatDoorRows.lean that lists a variable, with what it lists TIED to the program's text (the seventh form; the later family's looks); each row that meets fmt, with fmt's text TOLD by the authors' own Lean function (tested against real Go, not proved from fmt's source: count such statements apart). THE CARD IS WHAT COUNTS. Prove the row's statement (the work); the ties are given (YtbnmnkpkjmoehabGreatDoorTie.lean); close each card by the builder's one call (the guide's Derived/Test/ToyasCard.lean, 'card_holds'). Laid BY PROGRAM, IN A SANDBOX (cutbox-door.mjs). By AI agents, Wed Nov 11 2026. No macro, syntax, notation, axiom, sorry.
-/
import Derived.Test.YtbnmnkpkjmoehabGreatDoorRows
import GoSem.ClaimSeven
namespace Go.Proofs.YtbnmnkpkjmoehabGreatDoor
namespace Rows

/-- THE TIED CARD OF 'gazetteerlaw44.WatchMatchesReference'. -/
def watchMatchesReferenceCard : Claim7 := { stood := { row := watchMatchesReferenceRow, standIns := [], harness := (true, "93de5ec0e7c8933c16f355600776f0c9d0c00bf40abfc3e0d18a1627fccaf152"), looks := true }, kinds := [], alts := [], laidByText := true, laidKinds := [.data, .data, .data, .data, .sentinel, .sentinel, .pinned], laidTests := true, laidLooks := .later }
def WatchMatchesReferenceCardSaid : Prop := Claim7.holds Tryz.pinned (.plain (OpenSpec.ofChange watchMatchesReferenceSpec)) watchMatchesReferenceCard

/-- THE SECOND FORM's CARD OF 'gazetteerlaw44.WatchMatchesReference'. -/
def watchMatchesReferenceUptoCard : Claim7 := { stood := { row := watchMatchesReferenceUptoRow, standIns := [], harness := (true, "93de5ec0e7c8933c16f355600776f0c9d0c00bf40abfc3e0d18a1627fccaf152"), looks := true }, kinds := [], alts := [], laidByText := true, laidKinds := [.data, .data, .data, .data, .sentinel, .sentinel, .pinned], laidTests := true, laidLooks := .later }
def WatchMatchesReferenceUptoCardSaid : Prop := Claim7.holds Tryz.pinned (.plain (OpenSpec.upto watchMatchesReferenceSpec)) watchMatchesReferenceUptoCard
end Rows
end Go.Proofs.YtbnmnkpkjmoehabGreatDoor
