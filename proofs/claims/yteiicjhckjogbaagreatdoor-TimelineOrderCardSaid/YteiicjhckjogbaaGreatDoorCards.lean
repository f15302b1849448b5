/-
  DERIVED. GIVEN WITH THE SEED: THE CARDS: each row of YteiicjhckjogbaaGreatDoorRows.lean that lists a variable, with what it lists TIED to the program's text (the seventh form; the later family's looks); each row that meets fmt, with fmt's text TOLD by the authors' own Lean function (tested against real Go, not proved from fmt's source: count such statements apart). THE CARD IS WHAT COUNTS. Prove the row's statement (the work); the ties are given (YteiicjhckjogbaaGreatDoorTie.lean); close each card by the builder's one call (the guide's Derived/Test/ToyasCard.lean, 'card_holds'). Laid BY PROGRAM, IN A SANDBOX (cutbox-door.mjs). By AI agents, Wed Nov 11 2026. No macro, syntax, notation, axiom, sorry.
-/
import Derived.Test.YteiicjhckjogbaaGreatDoorRows
import GoSem.ClaimSeven
namespace Go.Proofs.YteiicjhckjogbaaGreatDoor
namespace Rows

/-- THE TIED CARD OF 'gazetteerlaw32.TimelineOrder'. -/
def timelineOrderCard : Claim7 := { stood := { row := timelineOrderRow, standIns := [], harness := (true, "baf4775d328a24c7a1b1aaf197e1a80d92025ef1ce42096485443baecb9e67e0"), looks := true }, kinds := [], alts := [], laidByText := true, laidKinds := [.data, .data, .data, .data, .sentinel, .sentinel, .pinned], laidTests := true, laidLooks := .later }
def TimelineOrderCardSaid : Prop := Claim7.holds Tryz.pinned (.plain (OpenSpec.ofChange timelineOrderSpec)) timelineOrderCard

/-- THE TIED CARD OF 'gazetteerlaw32.TimelineWork'. -/
def timelineWorkCard : Claim7 := { stood := { row := timelineWorkRow, standIns := [], harness := (true, "baf4775d328a24c7a1b1aaf197e1a80d92025ef1ce42096485443baecb9e67e0"), looks := true }, kinds := [], alts := [], laidByText := true, laidKinds := [.data, .data, .data, .data, .sentinel, .sentinel, .pinned], laidTests := true, laidLooks := .later }
def TimelineWorkCardSaid : Prop := Claim7.holds Tryz.pinned (.plain (OpenSpec.ofChange timelineWorkSpec)) timelineWorkCard

/-- THE TIED CARD OF 'gazetteerlaw32.TimelineLater'. -/
def timelineLaterCard : Claim7 := { stood := { row := timelineLaterRow, standIns := [], harness := (true, "baf4775d328a24c7a1b1aaf197e1a80d92025ef1ce42096485443baecb9e67e0"), looks := true }, kinds := [], alts := [], laidByText := true, laidKinds := [.data, .data, .data, .data, .sentinel, .sentinel, .pinned], laidTests := true, laidLooks := .later }
def TimelineLaterCardSaid : Prop := Claim7.holds Tryz.pinned (.plain (OpenSpec.ofChange timelineLaterSpec)) timelineLaterCard

/-- THE TIED CARD OF 'gazetteerlaw32.TimelineCopies'. -/
def timelineCopiesCard : Claim7 := { stood := { row := timelineCopiesRow, standIns := [], harness := (true, "baf4775d328a24c7a1b1aaf197e1a80d92025ef1ce42096485443baecb9e67e0"), looks := true }, kinds := [], alts := [], laidByText := true, laidKinds := [.data, .data, .data, .data, .sentinel, .sentinel, .pinned], laidTests := true, laidLooks := .later }
def TimelineCopiesCardSaid : Prop := Claim7.holds Tryz.pinned (.plain (OpenSpec.ofChange timelineCopiesSpec)) timelineCopiesCard

/-- THE TIED CARD OF 'gazetteerlaw32.TimelineErrors'. -/
def timelineErrorsCard : Claim7 := { stood := { row := timelineErrorsRow, standIns := [], harness := (true, "baf4775d328a24c7a1b1aaf197e1a80d92025ef1ce42096485443baecb9e67e0"), looks := true }, kinds := [], alts := [], laidByText := true, laidKinds := [.data, .data, .data, .data, .sentinel, .sentinel, .pinned], laidTests := true, laidLooks := .later }
def TimelineErrorsCardSaid : Prop := Claim7.holds Tryz.pinned (.plain (OpenSpec.ofChange timelineErrorsSpec)) timelineErrorsCard

/-- THE TIED CARD OF 'gazetteerlaw32.TimelineStates'. -/
def timelineStatesCard : Claim7 := { stood := { row := timelineStatesRow, standIns := [], harness := (true, "baf4775d328a24c7a1b1aaf197e1a80d92025ef1ce42096485443baecb9e67e0"), looks := true }, kinds := [], alts := [], laidByText := true, laidKinds := [.data, .data, .data, .data, .sentinel, .sentinel, .pinned], laidTests := true, laidLooks := .later }
def TimelineStatesCardSaid : Prop := Claim7.holds Tryz.pinned (.plain (OpenSpec.ofChange timelineStatesSpec)) timelineStatesCard

/-- THE SECOND FORM's CARD OF 'gazetteerlaw32.TimelineOrder'. -/
def timelineOrderUptoCard : Claim7 := { stood := { row := timelineOrderUptoRow, standIns := [], harness := (true, "baf4775d328a24c7a1b1aaf197e1a80d92025ef1ce42096485443baecb9e67e0"), looks := true }, kinds := [], alts := [], laidByText := true, laidKinds := [.data, .data, .data, .data, .sentinel, .sentinel, .pinned], laidTests := true, laidLooks := .later }
def TimelineOrderUptoCardSaid : Prop := Claim7.holds Tryz.pinned (.plain (OpenSpec.upto timelineOrderSpec)) timelineOrderUptoCard

/-- THE SECOND FORM's CARD OF 'gazetteerlaw32.TimelineWork'. -/
def timelineWorkUptoCard : Claim7 := { stood := { row := timelineWorkUptoRow, standIns := [], harness := (true, "baf4775d328a24c7a1b1aaf197e1a80d92025ef1ce42096485443baecb9e67e0"), looks := true }, kinds := [], alts := [], laidByText := true, laidKinds := [.data, .data, .data, .data, .sentinel, .sentinel, .pinned], laidTests := true, laidLooks := .later }
def TimelineWorkUptoCardSaid : Prop := Claim7.holds Tryz.pinned (.plain (OpenSpec.upto timelineWorkSpec)) timelineWorkUptoCard

/-- THE SECOND FORM's CARD OF 'gazetteerlaw32.TimelineLater'. -/
def timelineLaterUptoCard : Claim7 := { stood := { row := timelineLaterUptoRow, standIns := [], harness := (true, "baf4775d328a24c7a1b1aaf197e1a80d92025ef1ce42096485443baecb9e67e0"), looks := true }, kinds := [], alts := [], laidByText := true, laidKinds := [.data, .data, .data, .data, .sentinel, .sentinel, .pinned], laidTests := true, laidLooks := .later }
def TimelineLaterUptoCardSaid : Prop := Claim7.holds Tryz.pinned (.plain (OpenSpec.upto timelineLaterSpec)) timelineLaterUptoCard

/-- THE SECOND FORM's CARD OF 'gazetteerlaw32.TimelineCopies'. -/
def timelineCopiesUptoCard : Claim7 := { stood := { row := timelineCopiesUptoRow, standIns := [], harness := (true, "baf4775d328a24c7a1b1aaf197e1a80d92025ef1ce42096485443baecb9e67e0"), looks := true }, kinds := [], alts := [], laidByText := true, laidKinds := [.data, .data, .data, .data, .sentinel, .sentinel, .pinned], laidTests := true, laidLooks := .later }
def TimelineCopiesUptoCardSaid : Prop := Claim7.holds Tryz.pinned (.plain (OpenSpec.upto timelineCopiesSpec)) timelineCopiesUptoCard

/-- THE SECOND FORM's CARD OF 'gazetteerlaw32.TimelineErrors'. -/
def timelineErrorsUptoCard : Claim7 := { stood := { row := timelineErrorsUptoRow, standIns := [], harness := (true, "baf4775d328a24c7a1b1aaf197e1a80d92025ef1ce42096485443baecb9e67e0"), looks := true }, kinds := [], alts := [], laidByText := true, laidKinds := [.data, .data, .data, .data, .sentinel, .sentinel, .pinned], laidTests := true, laidLooks := .later }
def TimelineErrorsUptoCardSaid : Prop := Claim7.holds Tryz.pinned (.plain (OpenSpec.upto timelineErrorsSpec)) timelineErrorsUptoCard

/-- THE SECOND FORM's CARD OF 'gazetteerlaw32.TimelineStates'. -/
def timelineStatesUptoCard : Claim7 := { stood := { row := timelineStatesUptoRow, standIns := [], harness := (true, "baf4775d328a24c7a1b1aaf197e1a80d92025ef1ce42096485443baecb9e67e0"), looks := true }, kinds := [], alts := [], laidByText := true, laidKinds := [.data, .data, .data, .data, .sentinel, .sentinel, .pinned], laidTests := true, laidLooks := .later }
def TimelineStatesUptoCardSaid : Prop := Claim7.holds Tryz.pinned (.plain (OpenSpec.upto timelineStatesSpec)) timelineStatesUptoCard
end Rows
end Go.Proofs.YteiicjhckjogbaaGreatDoor
