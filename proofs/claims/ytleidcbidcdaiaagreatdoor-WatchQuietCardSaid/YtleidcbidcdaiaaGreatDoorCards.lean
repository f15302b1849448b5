/-
  DERIVED. GIVEN WITH THE SEED: THE CARDS: each row of YtleidcbidcdaiaaGreatDoorRows.lean that lists a variable, with what it lists TIED to the program's text (the seventh form; the later family's looks); each row that meets fmt, with fmt's text TOLD by the authors' own Lean function (tested against real Go, not proved from fmt's source: count such statements apart). THE CARD IS WHAT COUNTS. Prove the row's statement (the work); the ties are given (YtleidcbidcdaiaaGreatDoorTie.lean); close each card by the builder's one call (the guide's Derived/Test/ToyasCard.lean, 'card_holds'). Laid BY PROGRAM, IN A SANDBOX (cutbox-door.mjs). By AI agents, Wed Nov 11 2026. No macro, syntax, notation, axiom, sorry.
-/
import Derived.Test.YtleidcbidcdaiaaGreatDoorRows
import GoSem.ClaimSeven
namespace Go.Proofs.YtleidcbidcdaiaaGreatDoor
namespace Rows

/-- THE TIED CARD OF 'gazetteerlaw44.WatchTells'. -/
def watchTellsCard : Claim7 := { stood := { row := watchTellsRow, standIns := [], harness := (true, "b0e41161f65c67c9449b340be6f80720000e16d900c3d6f4082df6ad198ac496"), looks := true }, kinds := [], alts := [], laidByText := true, laidKinds := [.data, .data, .data, .data, .sentinel, .sentinel, .pinned], laidTests := true, laidLooks := .later }
def WatchTellsCardSaid : Prop := Claim7.holds Tryz.pinned (.plain (OpenSpec.ofChange watchTellsSpec)) watchTellsCard

/-- THE TIED CARD OF 'gazetteerlaw44.WatchReplays'. -/
def watchReplaysCard : Claim7 := { stood := { row := watchReplaysRow, standIns := [], harness := (true, "b0e41161f65c67c9449b340be6f80720000e16d900c3d6f4082df6ad198ac496"), looks := true }, kinds := [], alts := [], laidByText := true, laidKinds := [.data, .data, .data, .data, .sentinel, .sentinel, .pinned], laidTests := true, laidLooks := .later }
def WatchReplaysCardSaid : Prop := Claim7.holds Tryz.pinned (.plain (OpenSpec.ofChange watchReplaysSpec)) watchReplaysCard

/-- THE TIED CARD OF 'gazetteerlaw44.WatchVeils'. -/
def watchVeilsCard : Claim7 := { stood := { row := watchVeilsRow, standIns := [], harness := (true, "b0e41161f65c67c9449b340be6f80720000e16d900c3d6f4082df6ad198ac496"), looks := true }, kinds := [], alts := [], laidByText := true, laidKinds := [.data, .data, .data, .data, .sentinel, .sentinel, .pinned], laidTests := true, laidLooks := .later }
def WatchVeilsCardSaid : Prop := Claim7.holds Tryz.pinned (.plain (OpenSpec.ofChange watchVeilsSpec)) watchVeilsCard

/-- THE TIED CARD OF 'gazetteerlaw44.WatchOrder'. -/
def watchOrderCard : Claim7 := { stood := { row := watchOrderRow, standIns := [], harness := (true, "b0e41161f65c67c9449b340be6f80720000e16d900c3d6f4082df6ad198ac496"), looks := true }, kinds := [], alts := [], laidByText := true, laidKinds := [.data, .data, .data, .data, .sentinel, .sentinel, .pinned], laidTests := true, laidLooks := .later }
def WatchOrderCardSaid : Prop := Claim7.holds Tryz.pinned (.plain (OpenSpec.ofChange watchOrderSpec)) watchOrderCard

/-- THE TIED CARD OF 'gazetteerlaw44.WatchBack'. -/
def watchBackCard : Claim7 := { stood := { row := watchBackRow, standIns := [], harness := (true, "b0e41161f65c67c9449b340be6f80720000e16d900c3d6f4082df6ad198ac496"), looks := true }, kinds := [], alts := [], laidByText := true, laidKinds := [.data, .data, .data, .data, .sentinel, .sentinel, .pinned], laidTests := true, laidLooks := .later }
def WatchBackCardSaid : Prop := Claim7.holds Tryz.pinned (.plain (OpenSpec.ofChange watchBackSpec)) watchBackCard

/-- THE TIED CARD OF 'gazetteerlaw44.WatchQuiet'. -/
def watchQuietCard : Claim7 := { stood := { row := watchQuietRow, standIns := [], harness := (true, "b0e41161f65c67c9449b340be6f80720000e16d900c3d6f4082df6ad198ac496"), looks := true }, kinds := [], alts := [], laidByText := true, laidKinds := [.data, .data, .data, .data, .sentinel, .sentinel, .pinned], laidTests := true, laidLooks := .later }
def WatchQuietCardSaid : Prop := Claim7.holds Tryz.pinned (.plain (OpenSpec.ofChange watchQuietSpec)) watchQuietCard

/-- THE SECOND FORM's CARD OF 'gazetteerlaw44.WatchTells'. -/
def watchTellsUptoCard : Claim7 := { stood := { row := watchTellsUptoRow, standIns := [], harness := (true, "b0e41161f65c67c9449b340be6f80720000e16d900c3d6f4082df6ad198ac496"), looks := true }, kinds := [], alts := [], laidByText := true, laidKinds := [.data, .data, .data, .data, .sentinel, .sentinel, .pinned], laidTests := true, laidLooks := .later }
def WatchTellsUptoCardSaid : Prop := Claim7.holds Tryz.pinned (.plain (OpenSpec.upto watchTellsSpec)) watchTellsUptoCard

/-- THE SECOND FORM's CARD OF 'gazetteerlaw44.WatchReplays'. -/
def watchReplaysUptoCard : Claim7 := { stood := { row := watchReplaysUptoRow, standIns := [], harness := (true, "b0e41161f65c67c9449b340be6f80720000e16d900c3d6f4082df6ad198ac496"), looks := true }, kinds := [], alts := [], laidByText := true, laidKinds := [.data, .data, .data, .data, .sentinel, .sentinel, .pinned], laidTests := true, laidLooks := .later }
def WatchReplaysUptoCardSaid : Prop := Claim7.holds Tryz.pinned (.plain (OpenSpec.upto watchReplaysSpec)) watchReplaysUptoCard

/-- THE SECOND FORM's CARD OF 'gazetteerlaw44.WatchVeils'. -/
def watchVeilsUptoCard : Claim7 := { stood := { row := watchVeilsUptoRow, standIns := [], harness := (true, "b0e41161f65c67c9449b340be6f80720000e16d900c3d6f4082df6ad198ac496"), looks := true }, kinds := [], alts := [], laidByText := true, laidKinds := [.data, .data, .data, .data, .sentinel, .sentinel, .pinned], laidTests := true, laidLooks := .later }
def WatchVeilsUptoCardSaid : Prop := Claim7.holds Tryz.pinned (.plain (OpenSpec.upto watchVeilsSpec)) watchVeilsUptoCard

/-- THE SECOND FORM's CARD OF 'gazetteerlaw44.WatchOrder'. -/
def watchOrderUptoCard : Claim7 := { stood := { row := watchOrderUptoRow, standIns := [], harness := (true, "b0e41161f65c67c9449b340be6f80720000e16d900c3d6f4082df6ad198ac496"), looks := true }, kinds := [], alts := [], laidByText := true, laidKinds := [.data, .data, .data, .data, .sentinel, .sentinel, .pinned], laidTests := true, laidLooks := .later }
def WatchOrderUptoCardSaid : Prop := Claim7.holds Tryz.pinned (.plain (OpenSpec.upto watchOrderSpec)) watchOrderUptoCard

/-- THE SECOND FORM's CARD OF 'gazetteerlaw44.WatchBack'. -/
def watchBackUptoCard : Claim7 := { stood := { row := watchBackUptoRow, standIns := [], harness := (true, "b0e41161f65c67c9449b340be6f80720000e16d900c3d6f4082df6ad198ac496"), looks := true }, kinds := [], alts := [], laidByText := true, laidKinds := [.data, .data, .data, .data, .sentinel, .sentinel, .pinned], laidTests := true, laidLooks := .later }
def WatchBackUptoCardSaid : Prop := Claim7.holds Tryz.pinned (.plain (OpenSpec.upto watchBackSpec)) watchBackUptoCard

/-- THE SECOND FORM's CARD OF 'gazetteerlaw44.WatchQuiet'. -/
def watchQuietUptoCard : Claim7 := { stood := { row := watchQuietUptoRow, standIns := [], harness := (true, "b0e41161f65c67c9449b340be6f80720000e16d900c3d6f4082df6ad198ac496"), looks := true }, kinds := [], alts := [], laidByText := true, laidKinds := [.data, .data, .data, .data, .sentinel, .sentinel, .pinned], laidTests := true, laidLooks := .later }
def WatchQuietUptoCardSaid : Prop := Claim7.holds Tryz.pinned (.plain (OpenSpec.upto watchQuietSpec)) watchQuietUptoCard
end Rows
end Go.Proofs.YtleidcbidcdaiaaGreatDoor
