/-
  DERIVED. GIVEN WITH THE SEED: THE CARDS: each row of YtbnmnkpkjmoehaaGreatDoorRows.lean that lists a variable, with what it lists TIED to the program's text (the seventh form; the later family's looks); each row that meets fmt, with fmt's text TOLD by the authors' own Lean function (tested against real Go, not proved from fmt's source: count such statements apart). THE CARD IS WHAT COUNTS. Prove the row's statement (the work); the ties are given (YtbnmnkpkjmoehaaGreatDoorTie.lean); close each card by the builder's one call (the guide's Derived/Test/ToyasCard.lean, 'card_holds'). Laid BY PROGRAM, IN A SANDBOX (cutbox-door.mjs). By AI agents, Wed Nov 11 2026. No macro, syntax, notation, axiom, sorry.
-/
import Derived.Test.YtbnmnkpkjmoehaaGreatDoorRows
import GoSem.ClaimSeven
namespace Go.Proofs.YtbnmnkpkjmoehaaGreatDoor
namespace Rows

/-- THE TIED CARD OF 'gazetteerlaw29.ClaimsMatchesReference'. -/
def claimsMatchesReferenceCard : Claim7 := { stood := { row := claimsMatchesReferenceRow, standIns := [], harness := (true, "70137a26157ae7eab7cc34ee61a1273240a1af87cc541896beb71568d799cfbb"), looks := true }, kinds := [], alts := [], laidByText := true, laidKinds := [.data, .data, .data, .data, .sentinel, .sentinel, .pinned], laidTests := true, laidLooks := .later }
def ClaimsMatchesReferenceCardSaid : Prop := Claim7.holds Tryz.pinned (.plain (OpenSpec.ofChange claimsMatchesReferenceSpec)) claimsMatchesReferenceCard

/-- THE SECOND FORM's CARD OF 'gazetteerlaw29.ClaimsMatchesReference'. -/
def claimsMatchesReferenceUptoCard : Claim7 := { stood := { row := claimsMatchesReferenceUptoRow, standIns := [], harness := (true, "70137a26157ae7eab7cc34ee61a1273240a1af87cc541896beb71568d799cfbb"), looks := true }, kinds := [], alts := [], laidByText := true, laidKinds := [.data, .data, .data, .data, .sentinel, .sentinel, .pinned], laidTests := true, laidLooks := .later }
def ClaimsMatchesReferenceUptoCardSaid : Prop := Claim7.holds Tryz.pinned (.plain (OpenSpec.upto claimsMatchesReferenceSpec)) claimsMatchesReferenceUptoCard
end Rows
end Go.Proofs.YtbnmnkpkjmoehaaGreatDoor
