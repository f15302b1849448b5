/-
  DERIVED. GIVEN WITH THE SEED: THE CARDS: each row of YtmmfbjlenjnckaaGreatDoorRows.lean that lists a variable, with what it lists TIED to the program's text (the seventh form; the later family's looks); each row that meets fmt, with fmt's text TOLD by the authors' own Lean function (tested against real Go, not proved from fmt's source: count such statements apart). THE CARD IS WHAT COUNTS. Prove the row's statement (the work); the ties are given (YtmmfbjlenjnckaaGreatDoorTie.lean); close each card by the builder's one call (the guide's Derived/Test/ToyasCard.lean, 'card_holds'). Laid BY PROGRAM, IN A SANDBOX (cutbox-door.mjs). By AI agents, Wed Nov 11 2026. No macro, syntax, notation, axiom, sorry.
-/
import Derived.Test.YtmmfbjlenjnckaaGreatDoorRows
import GoSem.ClaimSeven
namespace Go.Proofs.YtmmfbjlenjnckaaGreatDoor
namespace Rows

/-- THE TIED CARD OF 'gazetteerlaw28.RegistryMatchesReference'. -/
def registryMatchesReferenceCard : Claim7 := { stood := { row := registryMatchesReferenceRow, standIns := [], harness := (true, "e462e7982c6cc8aa55b786f38e815991f2ca242a0b78fdc9ee314f1515bf77d0"), looks := true }, kinds := [], alts := [], laidByText := true, laidKinds := [.data, .data, .data, .data, .sentinel, .sentinel, .pinned], laidTests := true, laidLooks := .later }
def RegistryMatchesReferenceCardSaid : Prop := Claim7.holds Tryz.pinned (.plain (OpenSpec.ofChange registryMatchesReferenceSpec)) registryMatchesReferenceCard

/-- THE TIED CARD OF 'gazetteerlaw31.LineageMatchesReference'. -/
def lineageMatchesReferenceCard : Claim7 := { stood := { row := lineageMatchesReferenceRow, standIns := [], harness := (true, "e462e7982c6cc8aa55b786f38e815991f2ca242a0b78fdc9ee314f1515bf77d0"), looks := true }, kinds := [], alts := [], laidByText := true, laidKinds := [.data, .data, .data, .data, .sentinel, .sentinel, .pinned], laidTests := true, laidLooks := .later }
def LineageMatchesReferenceCardSaid : Prop := Claim7.holds Tryz.pinned (.plain (OpenSpec.ofChange lineageMatchesReferenceSpec)) lineageMatchesReferenceCard

/-- THE SECOND FORM's CARD OF 'gazetteerlaw28.RegistryMatchesReference'. -/
def registryMatchesReferenceUptoCard : Claim7 := { stood := { row := registryMatchesReferenceUptoRow, standIns := [], harness := (true, "e462e7982c6cc8aa55b786f38e815991f2ca242a0b78fdc9ee314f1515bf77d0"), looks := true }, kinds := [], alts := [], laidByText := true, laidKinds := [.data, .data, .data, .data, .sentinel, .sentinel, .pinned], laidTests := true, laidLooks := .later }
def RegistryMatchesReferenceUptoCardSaid : Prop := Claim7.holds Tryz.pinned (.plain (OpenSpec.upto registryMatchesReferenceSpec)) registryMatchesReferenceUptoCard

/-- THE SECOND FORM's CARD OF 'gazetteerlaw31.LineageMatchesReference'. -/
def lineageMatchesReferenceUptoCard : Claim7 := { stood := { row := lineageMatchesReferenceUptoRow, standIns := [], harness := (true, "e462e7982c6cc8aa55b786f38e815991f2ca242a0b78fdc9ee314f1515bf77d0"), looks := true }, kinds := [], alts := [], laidByText := true, laidKinds := [.data, .data, .data, .data, .sentinel, .sentinel, .pinned], laidTests := true, laidLooks := .later }
def LineageMatchesReferenceUptoCardSaid : Prop := Claim7.holds Tryz.pinned (.plain (OpenSpec.upto lineageMatchesReferenceSpec)) lineageMatchesReferenceUptoCard
end Rows
end Go.Proofs.YtmmfbjlenjnckaaGreatDoor
