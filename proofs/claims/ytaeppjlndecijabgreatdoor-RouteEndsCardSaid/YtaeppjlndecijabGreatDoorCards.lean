/-
  DERIVED. GIVEN WITH THE SEED: THE CARDS: each row of YtaeppjlndecijabGreatDoorRows.lean that lists a variable, with what it lists TIED to the program's text (the seventh form; the later family's looks); each row that meets fmt, with fmt's text TOLD by the authors' own Lean function (tested against real Go, not proved from fmt's source: count such statements apart). THE CARD IS WHAT COUNTS. Prove the row's statement (the work); the ties are given (YtaeppjlndecijabGreatDoorTie.lean); close each card by the builder's one call (the guide's Derived/Test/ToyasCard.lean, 'card_holds'). Laid BY PROGRAM, IN A SANDBOX (cutbox-door.mjs). By AI agents, Wed Nov 11 2026. No macro, syntax, notation, axiom, sorry.
-/
import Derived.Test.YtaeppjlndecijabGreatDoorRows
import GoSem.ClaimSeven
namespace Go.Proofs.YtaeppjlndecijabGreatDoor
namespace Rows

/-- THE TIED CARD OF 'gazetteerlaw48.RouteEnds'. -/
def routeEndsCard : Claim7 := { stood := { row := routeEndsRow, standIns := [], harness := (true, "da6d4e38b1609271ba3f13c534749b50787b8a1ac96ea7ab5a2ed986ed866175"), looks := true }, kinds := [], alts := [], laidByText := true, laidKinds := [.data, .data, .data, .data, .sentinel, .sentinel, .pinned], laidTests := true, laidLooks := .later }
def RouteEndsCardSaid : Prop := Claim7.holds Tryz.pinned (.plain (OpenSpec.ofChange routeEndsSpec)) routeEndsCard

/-- THE SECOND FORM's CARD OF 'gazetteerlaw48.RouteEnds'. -/
def routeEndsUptoCard : Claim7 := { stood := { row := routeEndsUptoRow, standIns := [], harness := (true, "da6d4e38b1609271ba3f13c534749b50787b8a1ac96ea7ab5a2ed986ed866175"), looks := true }, kinds := [], alts := [], laidByText := true, laidKinds := [.data, .data, .data, .data, .sentinel, .sentinel, .pinned], laidTests := true, laidLooks := .later }
def RouteEndsUptoCardSaid : Prop := Claim7.holds Tryz.pinned (.plain (OpenSpec.upto routeEndsSpec)) routeEndsUptoCard
end Rows
end Go.Proofs.YtaeppjlndecijabGreatDoor
