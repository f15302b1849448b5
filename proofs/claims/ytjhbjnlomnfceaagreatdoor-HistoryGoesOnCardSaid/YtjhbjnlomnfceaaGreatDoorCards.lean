/-
  DERIVED. GIVEN WITH THE SEED: THE CARDS: each row of YtjhbjnlomnfceaaGreatDoorRows.lean that lists a variable, with what it lists TIED to the program's text (the seventh form; the later family's looks); each row that meets fmt, with fmt's text TOLD by the authors' own Lean function (tested against real Go, not proved from fmt's source: count such statements apart). THE CARD IS WHAT COUNTS. Prove the row's statement (the work); the ties are given (YtjhbjnlomnfceaaGreatDoorTie.lean); close each card by the builder's one call (the guide's Derived/Test/ToyasCard.lean, 'card_holds'). Laid BY PROGRAM, IN A SANDBOX (cutbox-door.mjs). By AI agents, Wed Nov 11 2026. No macro, syntax, notation, axiom, sorry.
-/
import Derived.Test.YtjhbjnlomnfceaaGreatDoorRows
import GoSem.ClaimSeven
namespace Go.Proofs.YtjhbjnlomnfceaaGreatDoor
namespace Rows

/-- THE TIED CARD OF 'gazetteerlaw30.HistoryGoesOn'. -/
def historyGoesOnCard : Claim7 := { stood := { row := historyGoesOnRow, standIns := [], harness := (true, "bbd496c5b6d42473b4e536b3b3b68f1b16ea8dab3e2e0153687450a03a604580"), looks := true }, kinds := [], alts := [], laidByText := true, laidKinds := [.data, .data, .data, .data, .sentinel, .sentinel, .pinned], laidTests := true, laidLooks := .later }
def HistoryGoesOnCardSaid : Prop := Claim7.holds Tryz.pinned (.plain (OpenSpec.ofChange historyGoesOnSpec)) historyGoesOnCard

/-- THE TIED CARD OF 'gazetteerlaw30.HistoryAnyOrder'. -/
def historyAnyOrderCard : Claim7 := { stood := { row := historyAnyOrderRow, standIns := [], harness := (true, "bbd496c5b6d42473b4e536b3b3b68f1b16ea8dab3e2e0153687450a03a604580"), looks := true }, kinds := [], alts := [], laidByText := true, laidKinds := [.data, .data, .data, .data, .sentinel, .sentinel, .pinned], laidTests := true, laidLooks := .later }
def HistoryAnyOrderCardSaid : Prop := Claim7.holds Tryz.pinned (.plain (OpenSpec.ofChange historyAnyOrderSpec)) historyAnyOrderCard

/-- THE TIED CARD OF 'gazetteerlaw30.HistoryKnows'. -/
def historyKnowsCard : Claim7 := { stood := { row := historyKnowsRow, standIns := [], harness := (true, "bbd496c5b6d42473b4e536b3b3b68f1b16ea8dab3e2e0153687450a03a604580"), looks := true }, kinds := [], alts := [], laidByText := true, laidKinds := [.data, .data, .data, .data, .sentinel, .sentinel, .pinned], laidTests := true, laidLooks := .later }
def HistoryKnowsCardSaid : Prop := Claim7.holds Tryz.pinned (.plain (OpenSpec.ofChange historyKnowsSpec)) historyKnowsCard

/-- THE TIED CARD OF 'gazetteerlaw30.HistoryErrors'. -/
def historyErrorsCard : Claim7 := { stood := { row := historyErrorsRow, standIns := [], harness := (true, "bbd496c5b6d42473b4e536b3b3b68f1b16ea8dab3e2e0153687450a03a604580"), looks := true }, kinds := [], alts := [], laidByText := true, laidKinds := [.data, .data, .data, .data, .sentinel, .sentinel, .pinned], laidTests := true, laidLooks := .later }
def HistoryErrorsCardSaid : Prop := Claim7.holds Tryz.pinned (.plain (OpenSpec.ofChange historyErrorsSpec)) historyErrorsCard

/-- THE TIED CARD OF 'gazetteerlaw30.HistoryQuiet'. -/
def historyQuietCard : Claim7 := { stood := { row := historyQuietRow, standIns := [], harness := (true, "bbd496c5b6d42473b4e536b3b3b68f1b16ea8dab3e2e0153687450a03a604580"), looks := true }, kinds := [], alts := [], laidByText := true, laidKinds := [.data, .data, .data, .data, .sentinel, .sentinel, .pinned], laidTests := true, laidLooks := .later }
def HistoryQuietCardSaid : Prop := Claim7.holds Tryz.pinned (.plain (OpenSpec.ofChange historyQuietSpec)) historyQuietCard

/-- THE SECOND FORM's CARD OF 'gazetteerlaw30.HistoryGoesOn'. -/
def historyGoesOnUptoCard : Claim7 := { stood := { row := historyGoesOnUptoRow, standIns := [], harness := (true, "bbd496c5b6d42473b4e536b3b3b68f1b16ea8dab3e2e0153687450a03a604580"), looks := true }, kinds := [], alts := [], laidByText := true, laidKinds := [.data, .data, .data, .data, .sentinel, .sentinel, .pinned], laidTests := true, laidLooks := .later }
def HistoryGoesOnUptoCardSaid : Prop := Claim7.holds Tryz.pinned (.plain (OpenSpec.upto historyGoesOnSpec)) historyGoesOnUptoCard

/-- THE SECOND FORM's CARD OF 'gazetteerlaw30.HistoryAnyOrder'. -/
def historyAnyOrderUptoCard : Claim7 := { stood := { row := historyAnyOrderUptoRow, standIns := [], harness := (true, "bbd496c5b6d42473b4e536b3b3b68f1b16ea8dab3e2e0153687450a03a604580"), looks := true }, kinds := [], alts := [], laidByText := true, laidKinds := [.data, .data, .data, .data, .sentinel, .sentinel, .pinned], laidTests := true, laidLooks := .later }
def HistoryAnyOrderUptoCardSaid : Prop := Claim7.holds Tryz.pinned (.plain (OpenSpec.upto historyAnyOrderSpec)) historyAnyOrderUptoCard

/-- THE SECOND FORM's CARD OF 'gazetteerlaw30.HistoryKnows'. -/
def historyKnowsUptoCard : Claim7 := { stood := { row := historyKnowsUptoRow, standIns := [], harness := (true, "bbd496c5b6d42473b4e536b3b3b68f1b16ea8dab3e2e0153687450a03a604580"), looks := true }, kinds := [], alts := [], laidByText := true, laidKinds := [.data, .data, .data, .data, .sentinel, .sentinel, .pinned], laidTests := true, laidLooks := .later }
def HistoryKnowsUptoCardSaid : Prop := Claim7.holds Tryz.pinned (.plain (OpenSpec.upto historyKnowsSpec)) historyKnowsUptoCard

/-- THE SECOND FORM's CARD OF 'gazetteerlaw30.HistoryErrors'. -/
def historyErrorsUptoCard : Claim7 := { stood := { row := historyErrorsUptoRow, standIns := [], harness := (true, "bbd496c5b6d42473b4e536b3b3b68f1b16ea8dab3e2e0153687450a03a604580"), looks := true }, kinds := [], alts := [], laidByText := true, laidKinds := [.data, .data, .data, .data, .sentinel, .sentinel, .pinned], laidTests := true, laidLooks := .later }
def HistoryErrorsUptoCardSaid : Prop := Claim7.holds Tryz.pinned (.plain (OpenSpec.upto historyErrorsSpec)) historyErrorsUptoCard

/-- THE SECOND FORM's CARD OF 'gazetteerlaw30.HistoryQuiet'. -/
def historyQuietUptoCard : Claim7 := { stood := { row := historyQuietUptoRow, standIns := [], harness := (true, "bbd496c5b6d42473b4e536b3b3b68f1b16ea8dab3e2e0153687450a03a604580"), looks := true }, kinds := [], alts := [], laidByText := true, laidKinds := [.data, .data, .data, .data, .sentinel, .sentinel, .pinned], laidTests := true, laidLooks := .later }
def HistoryQuietUptoCardSaid : Prop := Claim7.holds Tryz.pinned (.plain (OpenSpec.upto historyQuietSpec)) historyQuietUptoCard
end Rows
end Go.Proofs.YtjhbjnlomnfceaaGreatDoor
