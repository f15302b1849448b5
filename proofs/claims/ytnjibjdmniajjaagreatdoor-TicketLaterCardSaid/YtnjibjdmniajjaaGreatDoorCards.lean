/-
  DERIVED. GIVEN WITH THE SEED: THE CARDS: each row of YtnjibjdmniajjaaGreatDoorRows.lean that lists a variable, with what it lists TIED to the program's text (the seventh form; the later family's looks); each row that meets fmt, with fmt's text TOLD by the authors' own Lean function (tested against real Go, not proved from fmt's source: count such statements apart). THE CARD IS WHAT COUNTS. Prove the row's statement (the work); the ties are given (YtnjibjdmniajjaaGreatDoorTie.lean); close each card by the builder's one call (the guide's Derived/Test/ToyasCard.lean, 'card_holds'). Laid BY PROGRAM, IN A SANDBOX (cutbox-door.mjs). By AI agents, Wed Nov 11 2026. No macro, syntax, notation, axiom, sorry.
-/
import Derived.Test.YtnjibjdmniajjaaGreatDoorRows
import GoSem.ClaimSeven
namespace Go.Proofs.YtnjibjdmniajjaaGreatDoor
namespace Rows

/-- THE TIED CARD OF 'gazetteerlaw43.TicketIssues'. -/
def ticketIssuesCard : Claim7 := { stood := { row := ticketIssuesRow, standIns := [], harness := (true, "547e70480cc4146132ca837ad957b6d7f81f324d4e9162f772dd0b4ba4d7bb58"), looks := true }, kinds := [], alts := [], laidByText := true, laidKinds := [.data, .data, .data, .data, .sentinel, .sentinel, .pinned], laidTests := true, laidLooks := .later }
def TicketIssuesCardSaid : Prop := Claim7.holds Tryz.pinned (.plain (OpenSpec.ofChange ticketIssuesSpec)) ticketIssuesCard

/-- THE TIED CARD OF 'gazetteerlaw43.TicketLater'. -/
def ticketLaterCard : Claim7 := { stood := { row := ticketLaterRow, standIns := [], harness := (true, "547e70480cc4146132ca837ad957b6d7f81f324d4e9162f772dd0b4ba4d7bb58"), looks := true }, kinds := [], alts := [], laidByText := true, laidKinds := [.data, .data, .data, .data, .sentinel, .sentinel, .pinned], laidTests := true, laidLooks := .later }
def TicketLaterCardSaid : Prop := Claim7.holds Tryz.pinned (.plain (OpenSpec.ofChange ticketLaterSpec)) ticketLaterCard

/-- THE TIED CARD OF 'gazetteerlaw43.TicketKnows'. -/
def ticketKnowsCard : Claim7 := { stood := { row := ticketKnowsRow, standIns := [], harness := (true, "547e70480cc4146132ca837ad957b6d7f81f324d4e9162f772dd0b4ba4d7bb58"), looks := true }, kinds := [], alts := [], laidByText := true, laidKinds := [.data, .data, .data, .data, .sentinel, .sentinel, .pinned], laidTests := true, laidLooks := .later }
def TicketKnowsCardSaid : Prop := Claim7.holds Tryz.pinned (.plain (OpenSpec.ofChange ticketKnowsSpec)) ticketKnowsCard

/-- THE TIED CARD OF 'gazetteerlaw43.TicketSomething'. -/
def ticketSomethingCard : Claim7 := { stood := { row := ticketSomethingRow, standIns := [], harness := (true, "547e70480cc4146132ca837ad957b6d7f81f324d4e9162f772dd0b4ba4d7bb58"), looks := true }, kinds := [], alts := [], laidByText := true, laidKinds := [.data, .data, .data, .data, .sentinel, .sentinel, .pinned], laidTests := true, laidLooks := .later }
def TicketSomethingCardSaid : Prop := Claim7.holds Tryz.pinned (.plain (OpenSpec.ofChange ticketSomethingSpec)) ticketSomethingCard

/-- THE TIED CARD OF 'gazetteerlaw43.TicketTexts'. -/
def ticketTextsCard : Claim7 := { stood := { row := ticketTextsRow, standIns := [], harness := (true, "547e70480cc4146132ca837ad957b6d7f81f324d4e9162f772dd0b4ba4d7bb58"), looks := true }, kinds := [], alts := [], laidByText := true, laidKinds := [.data, .data, .data, .data, .sentinel, .sentinel, .pinned], laidTests := true, laidLooks := .later }
def TicketTextsCardSaid : Prop := Claim7.holds Tryz.pinned (.plain (OpenSpec.ofChange ticketTextsSpec)) ticketTextsCard

/-- THE SECOND FORM's CARD OF 'gazetteerlaw43.TicketIssues'. -/
def ticketIssuesUptoCard : Claim7 := { stood := { row := ticketIssuesUptoRow, standIns := [], harness := (true, "547e70480cc4146132ca837ad957b6d7f81f324d4e9162f772dd0b4ba4d7bb58"), looks := true }, kinds := [], alts := [], laidByText := true, laidKinds := [.data, .data, .data, .data, .sentinel, .sentinel, .pinned], laidTests := true, laidLooks := .later }
def TicketIssuesUptoCardSaid : Prop := Claim7.holds Tryz.pinned (.plain (OpenSpec.upto ticketIssuesSpec)) ticketIssuesUptoCard

/-- THE SECOND FORM's CARD OF 'gazetteerlaw43.TicketLater'. -/
def ticketLaterUptoCard : Claim7 := { stood := { row := ticketLaterUptoRow, standIns := [], harness := (true, "547e70480cc4146132ca837ad957b6d7f81f324d4e9162f772dd0b4ba4d7bb58"), looks := true }, kinds := [], alts := [], laidByText := true, laidKinds := [.data, .data, .data, .data, .sentinel, .sentinel, .pinned], laidTests := true, laidLooks := .later }
def TicketLaterUptoCardSaid : Prop := Claim7.holds Tryz.pinned (.plain (OpenSpec.upto ticketLaterSpec)) ticketLaterUptoCard

/-- THE SECOND FORM's CARD OF 'gazetteerlaw43.TicketKnows'. -/
def ticketKnowsUptoCard : Claim7 := { stood := { row := ticketKnowsUptoRow, standIns := [], harness := (true, "547e70480cc4146132ca837ad957b6d7f81f324d4e9162f772dd0b4ba4d7bb58"), looks := true }, kinds := [], alts := [], laidByText := true, laidKinds := [.data, .data, .data, .data, .sentinel, .sentinel, .pinned], laidTests := true, laidLooks := .later }
def TicketKnowsUptoCardSaid : Prop := Claim7.holds Tryz.pinned (.plain (OpenSpec.upto ticketKnowsSpec)) ticketKnowsUptoCard

/-- THE SECOND FORM's CARD OF 'gazetteerlaw43.TicketSomething'. -/
def ticketSomethingUptoCard : Claim7 := { stood := { row := ticketSomethingUptoRow, standIns := [], harness := (true, "547e70480cc4146132ca837ad957b6d7f81f324d4e9162f772dd0b4ba4d7bb58"), looks := true }, kinds := [], alts := [], laidByText := true, laidKinds := [.data, .data, .data, .data, .sentinel, .sentinel, .pinned], laidTests := true, laidLooks := .later }
def TicketSomethingUptoCardSaid : Prop := Claim7.holds Tryz.pinned (.plain (OpenSpec.upto ticketSomethingSpec)) ticketSomethingUptoCard

/-- THE SECOND FORM's CARD OF 'gazetteerlaw43.TicketTexts'. -/
def ticketTextsUptoCard : Claim7 := { stood := { row := ticketTextsUptoRow, standIns := [], harness := (true, "547e70480cc4146132ca837ad957b6d7f81f324d4e9162f772dd0b4ba4d7bb58"), looks := true }, kinds := [], alts := [], laidByText := true, laidKinds := [.data, .data, .data, .data, .sentinel, .sentinel, .pinned], laidTests := true, laidLooks := .later }
def TicketTextsUptoCardSaid : Prop := Claim7.holds Tryz.pinned (.plain (OpenSpec.upto ticketTextsSpec)) ticketTextsUptoCard
end Rows
end Go.Proofs.YtnjibjdmniajjaaGreatDoor
