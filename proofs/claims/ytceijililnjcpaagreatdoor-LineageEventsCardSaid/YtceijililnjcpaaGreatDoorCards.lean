/-
  DERIVED. GIVEN WITH THE SEED: THE CARDS: each row of YtceijililnjcpaaGreatDoorRows.lean that lists a variable, with what it lists TIED to the program's text (the seventh form; the later family's looks); each row that meets fmt, with fmt's text TOLD by the authors' own Lean function (tested against real Go, not proved from fmt's source: count such statements apart). THE CARD IS WHAT COUNTS. Prove the row's statement (the work); the ties are given (YtceijililnjcpaaGreatDoorTie.lean); close each card by the builder's one call (the guide's Derived/Test/ToyasCard.lean, 'card_holds'). Laid BY PROGRAM, IN A SANDBOX (cutbox-door.mjs). By AI agents, Wed Nov 11 2026. No macro, syntax, notation, axiom, sorry.
-/
import Derived.Test.YtceijililnjcpaaGreatDoorRows
import GoSem.ClaimSeven
namespace Go.Proofs.YtceijililnjcpaaGreatDoor
namespace Rows

/-- THE TIED CARD OF 'gazetteerlaw31.LineageSteps'. -/
def lineageStepsCard : Claim7 := { stood := { row := lineageStepsRow, standIns := [], harness := (true, "6c79773105c4aa9ab7e24343e3ff33bf6b017ae6fbb588f3cc9245b50e5821f7"), looks := true }, kinds := [], alts := [], laidByText := true, laidKinds := [.data, .data, .data, .data, .sentinel, .sentinel, .pinned], laidTests := true, laidLooks := .later }
def LineageStepsCardSaid : Prop := Claim7.holds Tryz.pinned (.plain (OpenSpec.ofChange lineageStepsSpec)) lineageStepsCard

/-- THE TIED CARD OF 'gazetteerlaw31.LineageForm'. -/
def lineageFormCard : Claim7 := { stood := { row := lineageFormRow, standIns := [], harness := (true, "6c79773105c4aa9ab7e24343e3ff33bf6b017ae6fbb588f3cc9245b50e5821f7"), looks := true }, kinds := [], alts := [], laidByText := true, laidKinds := [.data, .data, .data, .data, .sentinel, .sentinel, .pinned], laidTests := true, laidLooks := .later }
def LineageFormCardSaid : Prop := Claim7.holds Tryz.pinned (.plain (OpenSpec.ofChange lineageFormSpec)) lineageFormCard

/-- THE TIED CARD OF 'gazetteerlaw31.LineageOrigins'. -/
def lineageOriginsCard : Claim7 := { stood := { row := lineageOriginsRow, standIns := [], harness := (true, "6c79773105c4aa9ab7e24343e3ff33bf6b017ae6fbb588f3cc9245b50e5821f7"), looks := true }, kinds := [], alts := [], laidByText := true, laidKinds := [.data, .data, .data, .data, .sentinel, .sentinel, .pinned], laidTests := true, laidLooks := .later }
def LineageOriginsCardSaid : Prop := Claim7.holds Tryz.pinned (.plain (OpenSpec.ofChange lineageOriginsSpec)) lineageOriginsCard

/-- THE TIED CARD OF 'gazetteerlaw31.LineageEvents'. -/
def lineageEventsCard : Claim7 := { stood := { row := lineageEventsRow, standIns := [], harness := (true, "6c79773105c4aa9ab7e24343e3ff33bf6b017ae6fbb588f3cc9245b50e5821f7"), looks := true }, kinds := [], alts := [], laidByText := true, laidKinds := [.data, .data, .data, .data, .sentinel, .sentinel, .pinned], laidTests := true, laidLooks := .later }
def LineageEventsCardSaid : Prop := Claim7.holds Tryz.pinned (.plain (OpenSpec.ofChange lineageEventsSpec)) lineageEventsCard

/-- THE TIED CARD OF 'gazetteerlaw31.LineageEnds'. -/
def lineageEndsCard : Claim7 := { stood := { row := lineageEndsRow, standIns := [], harness := (true, "6c79773105c4aa9ab7e24343e3ff33bf6b017ae6fbb588f3cc9245b50e5821f7"), looks := true }, kinds := [], alts := [], laidByText := true, laidKinds := [.data, .data, .data, .data, .sentinel, .sentinel, .pinned], laidTests := true, laidLooks := .later }
def LineageEndsCardSaid : Prop := Claim7.holds Tryz.pinned (.plain (OpenSpec.ofChange lineageEndsSpec)) lineageEndsCard

/-- THE TIED CARD OF 'gazetteerlaw31.LineageUnits'. -/
def lineageUnitsCard : Claim7 := { stood := { row := lineageUnitsRow, standIns := [], harness := (true, "6c79773105c4aa9ab7e24343e3ff33bf6b017ae6fbb588f3cc9245b50e5821f7"), looks := true }, kinds := [], alts := [], laidByText := true, laidKinds := [.data, .data, .data, .data, .sentinel, .sentinel, .pinned], laidTests := true, laidLooks := .later }
def LineageUnitsCardSaid : Prop := Claim7.holds Tryz.pinned (.plain (OpenSpec.ofChange lineageUnitsSpec)) lineageUnitsCard

/-- THE SECOND FORM's CARD OF 'gazetteerlaw31.LineageSteps'. -/
def lineageStepsUptoCard : Claim7 := { stood := { row := lineageStepsUptoRow, standIns := [], harness := (true, "6c79773105c4aa9ab7e24343e3ff33bf6b017ae6fbb588f3cc9245b50e5821f7"), looks := true }, kinds := [], alts := [], laidByText := true, laidKinds := [.data, .data, .data, .data, .sentinel, .sentinel, .pinned], laidTests := true, laidLooks := .later }
def LineageStepsUptoCardSaid : Prop := Claim7.holds Tryz.pinned (.plain (OpenSpec.upto lineageStepsSpec)) lineageStepsUptoCard

/-- THE SECOND FORM's CARD OF 'gazetteerlaw31.LineageForm'. -/
def lineageFormUptoCard : Claim7 := { stood := { row := lineageFormUptoRow, standIns := [], harness := (true, "6c79773105c4aa9ab7e24343e3ff33bf6b017ae6fbb588f3cc9245b50e5821f7"), looks := true }, kinds := [], alts := [], laidByText := true, laidKinds := [.data, .data, .data, .data, .sentinel, .sentinel, .pinned], laidTests := true, laidLooks := .later }
def LineageFormUptoCardSaid : Prop := Claim7.holds Tryz.pinned (.plain (OpenSpec.upto lineageFormSpec)) lineageFormUptoCard

/-- THE SECOND FORM's CARD OF 'gazetteerlaw31.LineageOrigins'. -/
def lineageOriginsUptoCard : Claim7 := { stood := { row := lineageOriginsUptoRow, standIns := [], harness := (true, "6c79773105c4aa9ab7e24343e3ff33bf6b017ae6fbb588f3cc9245b50e5821f7"), looks := true }, kinds := [], alts := [], laidByText := true, laidKinds := [.data, .data, .data, .data, .sentinel, .sentinel, .pinned], laidTests := true, laidLooks := .later }
def LineageOriginsUptoCardSaid : Prop := Claim7.holds Tryz.pinned (.plain (OpenSpec.upto lineageOriginsSpec)) lineageOriginsUptoCard

/-- THE SECOND FORM's CARD OF 'gazetteerlaw31.LineageEvents'. -/
def lineageEventsUptoCard : Claim7 := { stood := { row := lineageEventsUptoRow, standIns := [], harness := (true, "6c79773105c4aa9ab7e24343e3ff33bf6b017ae6fbb588f3cc9245b50e5821f7"), looks := true }, kinds := [], alts := [], laidByText := true, laidKinds := [.data, .data, .data, .data, .sentinel, .sentinel, .pinned], laidTests := true, laidLooks := .later }
def LineageEventsUptoCardSaid : Prop := Claim7.holds Tryz.pinned (.plain (OpenSpec.upto lineageEventsSpec)) lineageEventsUptoCard

/-- THE SECOND FORM's CARD OF 'gazetteerlaw31.LineageEnds'. -/
def lineageEndsUptoCard : Claim7 := { stood := { row := lineageEndsUptoRow, standIns := [], harness := (true, "6c79773105c4aa9ab7e24343e3ff33bf6b017ae6fbb588f3cc9245b50e5821f7"), looks := true }, kinds := [], alts := [], laidByText := true, laidKinds := [.data, .data, .data, .data, .sentinel, .sentinel, .pinned], laidTests := true, laidLooks := .later }
def LineageEndsUptoCardSaid : Prop := Claim7.holds Tryz.pinned (.plain (OpenSpec.upto lineageEndsSpec)) lineageEndsUptoCard

/-- THE SECOND FORM's CARD OF 'gazetteerlaw31.LineageUnits'. -/
def lineageUnitsUptoCard : Claim7 := { stood := { row := lineageUnitsUptoRow, standIns := [], harness := (true, "6c79773105c4aa9ab7e24343e3ff33bf6b017ae6fbb588f3cc9245b50e5821f7"), looks := true }, kinds := [], alts := [], laidByText := true, laidKinds := [.data, .data, .data, .data, .sentinel, .sentinel, .pinned], laidTests := true, laidLooks := .later }
def LineageUnitsUptoCardSaid : Prop := Claim7.holds Tryz.pinned (.plain (OpenSpec.upto lineageUnitsSpec)) lineageUnitsUptoCard
end Rows
end Go.Proofs.YtceijililnjcpaaGreatDoor
