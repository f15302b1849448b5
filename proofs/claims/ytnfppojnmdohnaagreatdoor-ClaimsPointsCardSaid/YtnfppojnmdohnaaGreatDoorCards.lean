/-
  DERIVED. GIVEN WITH THE SEED: THE CARDS: each row of YtnfppojnmdohnaaGreatDoorRows.lean that lists a variable, with what it lists TIED to the program's text (the seventh form; the later family's looks); each row that meets fmt, with fmt's text TOLD by the authors' own Lean function (tested against real Go, not proved from fmt's source: count such statements apart). THE CARD IS WHAT COUNTS. Prove the row's statement (the work); the ties are given (YtnfppojnmdohnaaGreatDoorTie.lean); close each card by the builder's one call (the guide's Derived/Test/ToyasCard.lean, 'card_holds'). Laid BY PROGRAM, IN A SANDBOX (cutbox-door.mjs). By AI agents, Wed Nov 11 2026. No macro, syntax, notation, axiom, sorry.
-/
import Derived.Test.YtnfppojnmdohnaaGreatDoorRows
import GoSem.ClaimSeven
namespace Go.Proofs.YtnfppojnmdohnaaGreatDoor
namespace Rows

/-- THE TIED CARD OF 'gazetteerlaw29.ClaimsMatchesReference'. -/
def claimsMatchesReferenceCard : Claim7 := { stood := { row := claimsMatchesReferenceRow, standIns := [], harness := (true, "4290bb950f10132b4c0165a2e5693e7b0ca83edd675e3a9c2a56db0180154a0e"), looks := true }, kinds := [], alts := [], laidByText := true, laidKinds := [.data, .data, .data, .data, .sentinel, .sentinel, .pinned], laidTests := true, laidLooks := .later }
def ClaimsMatchesReferenceCardSaid : Prop := Claim7.holds Tryz.pinned (.plain (OpenSpec.ofChange claimsMatchesReferenceSpec)) claimsMatchesReferenceCard

/-- THE TIED CARD OF 'gazetteerlaw29.ClaimsOthers'. -/
def claimsOthersCard : Claim7 := { stood := { row := claimsOthersRow, standIns := [], harness := (true, "4290bb950f10132b4c0165a2e5693e7b0ca83edd675e3a9c2a56db0180154a0e"), looks := true }, kinds := [], alts := [], laidByText := true, laidKinds := [.data, .data, .data, .data, .sentinel, .sentinel, .pinned], laidTests := true, laidLooks := .later }
def ClaimsOthersCardSaid : Prop := Claim7.holds Tryz.pinned (.plain (OpenSpec.ofChange claimsOthersSpec)) claimsOthersCard

/-- THE TIED CARD OF 'gazetteerlaw29.ClaimsSame'. -/
def claimsSameCard : Claim7 := { stood := { row := claimsSameRow, standIns := [], harness := (true, "4290bb950f10132b4c0165a2e5693e7b0ca83edd675e3a9c2a56db0180154a0e"), looks := true }, kinds := [], alts := [], laidByText := true, laidKinds := [.data, .data, .data, .data, .sentinel, .sentinel, .pinned], laidTests := true, laidLooks := .later }
def ClaimsSameCardSaid : Prop := Claim7.holds Tryz.pinned (.plain (OpenSpec.ofChange claimsSameSpec)) claimsSameCard

/-- THE TIED CARD OF 'gazetteerlaw28.RegistryProper'. -/
def registryProperCard : Claim7 := { stood := { row := registryProperRow, standIns := [], harness := (true, "4290bb950f10132b4c0165a2e5693e7b0ca83edd675e3a9c2a56db0180154a0e"), looks := true }, kinds := [], alts := [], laidByText := true, laidKinds := [.data, .data, .data, .data, .sentinel, .sentinel, .pinned], laidTests := true, laidLooks := .later }
def RegistryProperCardSaid : Prop := Claim7.holds Tryz.pinned (.plain (OpenSpec.ofChange registryProperSpec)) registryProperCard

/-- THE TIED CARD OF 'gazetteerlaw28.RegistryKeeps'. -/
def registryKeepsCard : Claim7 := { stood := { row := registryKeepsRow, standIns := [], harness := (true, "4290bb950f10132b4c0165a2e5693e7b0ca83edd675e3a9c2a56db0180154a0e"), looks := true }, kinds := [], alts := [], laidByText := true, laidKinds := [.data, .data, .data, .data, .sentinel, .sentinel, .pinned], laidTests := true, laidLooks := .later }
def RegistryKeepsCardSaid : Prop := Claim7.holds Tryz.pinned (.plain (OpenSpec.ofChange registryKeepsSpec)) registryKeepsCard

/-- THE TIED CARD OF 'gazetteerlaw28.RegistryIds'. -/
def registryIdsCard : Claim7 := { stood := { row := registryIdsRow, standIns := [], harness := (true, "4290bb950f10132b4c0165a2e5693e7b0ca83edd675e3a9c2a56db0180154a0e"), looks := true }, kinds := [], alts := [], laidByText := true, laidKinds := [.data, .data, .data, .data, .sentinel, .sentinel, .pinned], laidTests := true, laidLooks := .later }
def RegistryIdsCardSaid : Prop := Claim7.holds Tryz.pinned (.plain (OpenSpec.ofChange registryIdsSpec)) registryIdsCard

/-- THE TIED CARD OF 'gazetteerlaw28.RegistryRenumbers'. -/
def registryRenumbersCard : Claim7 := { stood := { row := registryRenumbersRow, standIns := [], harness := (true, "4290bb950f10132b4c0165a2e5693e7b0ca83edd675e3a9c2a56db0180154a0e"), looks := true }, kinds := [], alts := [], laidByText := true, laidKinds := [.data, .data, .data, .data, .sentinel, .sentinel, .pinned], laidTests := true, laidLooks := .later }
def RegistryRenumbersCardSaid : Prop := Claim7.holds Tryz.pinned (.plain (OpenSpec.ofChange registryRenumbersSpec)) registryRenumbersCard

/-- THE TIED CARD OF 'gazetteerlaw28.RegistryLineage'. -/
def registryLineageCard : Claim7 := { stood := { row := registryLineageRow, standIns := [], harness := (true, "4290bb950f10132b4c0165a2e5693e7b0ca83edd675e3a9c2a56db0180154a0e"), looks := true }, kinds := [], alts := [], laidByText := true, laidKinds := [.data, .data, .data, .data, .sentinel, .sentinel, .pinned], laidTests := true, laidLooks := .later }
def RegistryLineageCardSaid : Prop := Claim7.holds Tryz.pinned (.plain (OpenSpec.ofChange registryLineageSpec)) registryLineageCard

/-- THE TIED CARD OF 'gazetteerlaw28.RegistryEnds'. -/
def registryEndsCard : Claim7 := { stood := { row := registryEndsRow, standIns := [], harness := (true, "4290bb950f10132b4c0165a2e5693e7b0ca83edd675e3a9c2a56db0180154a0e"), looks := true }, kinds := [], alts := [], laidByText := true, laidKinds := [.data, .data, .data, .data, .sentinel, .sentinel, .pinned], laidTests := true, laidLooks := .later }
def RegistryEndsCardSaid : Prop := Claim7.holds Tryz.pinned (.plain (OpenSpec.ofChange registryEndsSpec)) registryEndsCard

/-- THE TIED CARD OF 'gazetteerlaw28.RegistryExchanges'. -/
def registryExchangesCard : Claim7 := { stood := { row := registryExchangesRow, standIns := [], harness := (true, "4290bb950f10132b4c0165a2e5693e7b0ca83edd675e3a9c2a56db0180154a0e"), looks := true }, kinds := [], alts := [], laidByText := true, laidKinds := [.data, .data, .data, .data, .sentinel, .sentinel, .pinned], laidTests := true, laidLooks := .later }
def RegistryExchangesCardSaid : Prop := Claim7.holds Tryz.pinned (.plain (OpenSpec.ofChange registryExchangesSpec)) registryExchangesCard

/-- THE TIED CARD OF 'gazetteerlaw28.RegistryMatchesReference'. -/
def registryMatchesReferenceCard : Claim7 := { stood := { row := registryMatchesReferenceRow, standIns := [], harness := (true, "4290bb950f10132b4c0165a2e5693e7b0ca83edd675e3a9c2a56db0180154a0e"), looks := true }, kinds := [], alts := [], laidByText := true, laidKinds := [.data, .data, .data, .data, .sentinel, .sentinel, .pinned], laidTests := true, laidLooks := .later }
def RegistryMatchesReferenceCardSaid : Prop := Claim7.holds Tryz.pinned (.plain (OpenSpec.ofChange registryMatchesReferenceSpec)) registryMatchesReferenceCard

/-- THE TIED CARD OF 'gazetteerlaw28.RegistryAreas'. -/
def registryAreasCard : Claim7 := { stood := { row := registryAreasRow, standIns := [], harness := (true, "4290bb950f10132b4c0165a2e5693e7b0ca83edd675e3a9c2a56db0180154a0e"), looks := true }, kinds := [], alts := [], laidByText := true, laidKinds := [.data, .data, .data, .data, .sentinel, .sentinel, .pinned], laidTests := true, laidLooks := .later }
def RegistryAreasCardSaid : Prop := Claim7.holds Tryz.pinned (.plain (OpenSpec.ofChange registryAreasSpec)) registryAreasCard

/-- THE TIED CARD OF 'gazetteerlaw29.ClaimsOwners'. -/
def claimsOwnersCard : Claim7 := { stood := { row := claimsOwnersRow, standIns := [], harness := (true, "4290bb950f10132b4c0165a2e5693e7b0ca83edd675e3a9c2a56db0180154a0e"), looks := true }, kinds := [], alts := [], laidByText := true, laidKinds := [.data, .data, .data, .data, .sentinel, .sentinel, .pinned], laidTests := true, laidLooks := .later }
def ClaimsOwnersCardSaid : Prop := Claim7.holds Tryz.pinned (.plain (OpenSpec.ofChange claimsOwnersSpec)) claimsOwnersCard

/-- THE TIED CARD OF 'gazetteerlaw29.ClaimsPoints'. -/
def claimsPointsCard : Claim7 := { stood := { row := claimsPointsRow, standIns := [], harness := (true, "4290bb950f10132b4c0165a2e5693e7b0ca83edd675e3a9c2a56db0180154a0e"), looks := true }, kinds := [], alts := [], laidByText := true, laidKinds := [.data, .data, .data, .data, .sentinel, .sentinel, .pinned], laidTests := true, laidLooks := .later }
def ClaimsPointsCardSaid : Prop := Claim7.holds Tryz.pinned (.plain (OpenSpec.ofChange claimsPointsSpec)) claimsPointsCard

/-- THE TIED CARD OF 'gazetteerlaw29.ClaimsRulings'. -/
def claimsRulingsCard : Claim7 := { stood := { row := claimsRulingsRow, standIns := [], harness := (true, "4290bb950f10132b4c0165a2e5693e7b0ca83edd675e3a9c2a56db0180154a0e"), looks := true }, kinds := [], alts := [], laidByText := true, laidKinds := [.data, .data, .data, .data, .sentinel, .sentinel, .pinned], laidTests := true, laidLooks := .later }
def ClaimsRulingsCardSaid : Prop := Claim7.holds Tryz.pinned (.plain (OpenSpec.ofChange claimsRulingsSpec)) claimsRulingsCard

/-- THE TIED CARD OF 'gazetteerlaw29.ClaimsSettled'. -/
def claimsSettledCard : Claim7 := { stood := { row := claimsSettledRow, standIns := [], harness := (true, "4290bb950f10132b4c0165a2e5693e7b0ca83edd675e3a9c2a56db0180154a0e"), looks := true }, kinds := [], alts := [], laidByText := true, laidKinds := [.data, .data, .data, .data, .sentinel, .sentinel, .pinned], laidTests := true, laidLooks := .later }
def ClaimsSettledCardSaid : Prop := Claim7.holds Tryz.pinned (.plain (OpenSpec.ofChange claimsSettledSpec)) claimsSettledCard

/-- THE SECOND FORM's CARD OF 'gazetteerlaw29.ClaimsMatchesReference'. -/
def claimsMatchesReferenceUptoCard : Claim7 := { stood := { row := claimsMatchesReferenceUptoRow, standIns := [], harness := (true, "4290bb950f10132b4c0165a2e5693e7b0ca83edd675e3a9c2a56db0180154a0e"), looks := true }, kinds := [], alts := [], laidByText := true, laidKinds := [.data, .data, .data, .data, .sentinel, .sentinel, .pinned], laidTests := true, laidLooks := .later }
def ClaimsMatchesReferenceUptoCardSaid : Prop := Claim7.holds Tryz.pinned (.plain (OpenSpec.upto claimsMatchesReferenceSpec)) claimsMatchesReferenceUptoCard

/-- THE SECOND FORM's CARD OF 'gazetteerlaw29.ClaimsOthers'. -/
def claimsOthersUptoCard : Claim7 := { stood := { row := claimsOthersUptoRow, standIns := [], harness := (true, "4290bb950f10132b4c0165a2e5693e7b0ca83edd675e3a9c2a56db0180154a0e"), looks := true }, kinds := [], alts := [], laidByText := true, laidKinds := [.data, .data, .data, .data, .sentinel, .sentinel, .pinned], laidTests := true, laidLooks := .later }
def ClaimsOthersUptoCardSaid : Prop := Claim7.holds Tryz.pinned (.plain (OpenSpec.upto claimsOthersSpec)) claimsOthersUptoCard

/-- THE SECOND FORM's CARD OF 'gazetteerlaw29.ClaimsSame'. -/
def claimsSameUptoCard : Claim7 := { stood := { row := claimsSameUptoRow, standIns := [], harness := (true, "4290bb950f10132b4c0165a2e5693e7b0ca83edd675e3a9c2a56db0180154a0e"), looks := true }, kinds := [], alts := [], laidByText := true, laidKinds := [.data, .data, .data, .data, .sentinel, .sentinel, .pinned], laidTests := true, laidLooks := .later }
def ClaimsSameUptoCardSaid : Prop := Claim7.holds Tryz.pinned (.plain (OpenSpec.upto claimsSameSpec)) claimsSameUptoCard

/-- THE SECOND FORM's CARD OF 'gazetteerlaw28.RegistryProper'. -/
def registryProperUptoCard : Claim7 := { stood := { row := registryProperUptoRow, standIns := [], harness := (true, "4290bb950f10132b4c0165a2e5693e7b0ca83edd675e3a9c2a56db0180154a0e"), looks := true }, kinds := [], alts := [], laidByText := true, laidKinds := [.data, .data, .data, .data, .sentinel, .sentinel, .pinned], laidTests := true, laidLooks := .later }
def RegistryProperUptoCardSaid : Prop := Claim7.holds Tryz.pinned (.plain (OpenSpec.upto registryProperSpec)) registryProperUptoCard

/-- THE SECOND FORM's CARD OF 'gazetteerlaw28.RegistryKeeps'. -/
def registryKeepsUptoCard : Claim7 := { stood := { row := registryKeepsUptoRow, standIns := [], harness := (true, "4290bb950f10132b4c0165a2e5693e7b0ca83edd675e3a9c2a56db0180154a0e"), looks := true }, kinds := [], alts := [], laidByText := true, laidKinds := [.data, .data, .data, .data, .sentinel, .sentinel, .pinned], laidTests := true, laidLooks := .later }
def RegistryKeepsUptoCardSaid : Prop := Claim7.holds Tryz.pinned (.plain (OpenSpec.upto registryKeepsSpec)) registryKeepsUptoCard

/-- THE SECOND FORM's CARD OF 'gazetteerlaw28.RegistryIds'. -/
def registryIdsUptoCard : Claim7 := { stood := { row := registryIdsUptoRow, standIns := [], harness := (true, "4290bb950f10132b4c0165a2e5693e7b0ca83edd675e3a9c2a56db0180154a0e"), looks := true }, kinds := [], alts := [], laidByText := true, laidKinds := [.data, .data, .data, .data, .sentinel, .sentinel, .pinned], laidTests := true, laidLooks := .later }
def RegistryIdsUptoCardSaid : Prop := Claim7.holds Tryz.pinned (.plain (OpenSpec.upto registryIdsSpec)) registryIdsUptoCard

/-- THE SECOND FORM's CARD OF 'gazetteerlaw28.RegistryRenumbers'. -/
def registryRenumbersUptoCard : Claim7 := { stood := { row := registryRenumbersUptoRow, standIns := [], harness := (true, "4290bb950f10132b4c0165a2e5693e7b0ca83edd675e3a9c2a56db0180154a0e"), looks := true }, kinds := [], alts := [], laidByText := true, laidKinds := [.data, .data, .data, .data, .sentinel, .sentinel, .pinned], laidTests := true, laidLooks := .later }
def RegistryRenumbersUptoCardSaid : Prop := Claim7.holds Tryz.pinned (.plain (OpenSpec.upto registryRenumbersSpec)) registryRenumbersUptoCard

/-- THE SECOND FORM's CARD OF 'gazetteerlaw28.RegistryLineage'. -/
def registryLineageUptoCard : Claim7 := { stood := { row := registryLineageUptoRow, standIns := [], harness := (true, "4290bb950f10132b4c0165a2e5693e7b0ca83edd675e3a9c2a56db0180154a0e"), looks := true }, kinds := [], alts := [], laidByText := true, laidKinds := [.data, .data, .data, .data, .sentinel, .sentinel, .pinned], laidTests := true, laidLooks := .later }
def RegistryLineageUptoCardSaid : Prop := Claim7.holds Tryz.pinned (.plain (OpenSpec.upto registryLineageSpec)) registryLineageUptoCard

/-- THE SECOND FORM's CARD OF 'gazetteerlaw28.RegistryEnds'. -/
def registryEndsUptoCard : Claim7 := { stood := { row := registryEndsUptoRow, standIns := [], harness := (true, "4290bb950f10132b4c0165a2e5693e7b0ca83edd675e3a9c2a56db0180154a0e"), looks := true }, kinds := [], alts := [], laidByText := true, laidKinds := [.data, .data, .data, .data, .sentinel, .sentinel, .pinned], laidTests := true, laidLooks := .later }
def RegistryEndsUptoCardSaid : Prop := Claim7.holds Tryz.pinned (.plain (OpenSpec.upto registryEndsSpec)) registryEndsUptoCard

/-- THE SECOND FORM's CARD OF 'gazetteerlaw28.RegistryExchanges'. -/
def registryExchangesUptoCard : Claim7 := { stood := { row := registryExchangesUptoRow, standIns := [], harness := (true, "4290bb950f10132b4c0165a2e5693e7b0ca83edd675e3a9c2a56db0180154a0e"), looks := true }, kinds := [], alts := [], laidByText := true, laidKinds := [.data, .data, .data, .data, .sentinel, .sentinel, .pinned], laidTests := true, laidLooks := .later }
def RegistryExchangesUptoCardSaid : Prop := Claim7.holds Tryz.pinned (.plain (OpenSpec.upto registryExchangesSpec)) registryExchangesUptoCard

/-- THE SECOND FORM's CARD OF 'gazetteerlaw28.RegistryMatchesReference'. -/
def registryMatchesReferenceUptoCard : Claim7 := { stood := { row := registryMatchesReferenceUptoRow, standIns := [], harness := (true, "4290bb950f10132b4c0165a2e5693e7b0ca83edd675e3a9c2a56db0180154a0e"), looks := true }, kinds := [], alts := [], laidByText := true, laidKinds := [.data, .data, .data, .data, .sentinel, .sentinel, .pinned], laidTests := true, laidLooks := .later }
def RegistryMatchesReferenceUptoCardSaid : Prop := Claim7.holds Tryz.pinned (.plain (OpenSpec.upto registryMatchesReferenceSpec)) registryMatchesReferenceUptoCard

/-- THE SECOND FORM's CARD OF 'gazetteerlaw28.RegistryAreas'. -/
def registryAreasUptoCard : Claim7 := { stood := { row := registryAreasUptoRow, standIns := [], harness := (true, "4290bb950f10132b4c0165a2e5693e7b0ca83edd675e3a9c2a56db0180154a0e"), looks := true }, kinds := [], alts := [], laidByText := true, laidKinds := [.data, .data, .data, .data, .sentinel, .sentinel, .pinned], laidTests := true, laidLooks := .later }
def RegistryAreasUptoCardSaid : Prop := Claim7.holds Tryz.pinned (.plain (OpenSpec.upto registryAreasSpec)) registryAreasUptoCard

/-- THE SECOND FORM's CARD OF 'gazetteerlaw29.ClaimsOwners'. -/
def claimsOwnersUptoCard : Claim7 := { stood := { row := claimsOwnersUptoRow, standIns := [], harness := (true, "4290bb950f10132b4c0165a2e5693e7b0ca83edd675e3a9c2a56db0180154a0e"), looks := true }, kinds := [], alts := [], laidByText := true, laidKinds := [.data, .data, .data, .data, .sentinel, .sentinel, .pinned], laidTests := true, laidLooks := .later }
def ClaimsOwnersUptoCardSaid : Prop := Claim7.holds Tryz.pinned (.plain (OpenSpec.upto claimsOwnersSpec)) claimsOwnersUptoCard

/-- THE SECOND FORM's CARD OF 'gazetteerlaw29.ClaimsPoints'. -/
def claimsPointsUptoCard : Claim7 := { stood := { row := claimsPointsUptoRow, standIns := [], harness := (true, "4290bb950f10132b4c0165a2e5693e7b0ca83edd675e3a9c2a56db0180154a0e"), looks := true }, kinds := [], alts := [], laidByText := true, laidKinds := [.data, .data, .data, .data, .sentinel, .sentinel, .pinned], laidTests := true, laidLooks := .later }
def ClaimsPointsUptoCardSaid : Prop := Claim7.holds Tryz.pinned (.plain (OpenSpec.upto claimsPointsSpec)) claimsPointsUptoCard

/-- THE SECOND FORM's CARD OF 'gazetteerlaw29.ClaimsRulings'. -/
def claimsRulingsUptoCard : Claim7 := { stood := { row := claimsRulingsUptoRow, standIns := [], harness := (true, "4290bb950f10132b4c0165a2e5693e7b0ca83edd675e3a9c2a56db0180154a0e"), looks := true }, kinds := [], alts := [], laidByText := true, laidKinds := [.data, .data, .data, .data, .sentinel, .sentinel, .pinned], laidTests := true, laidLooks := .later }
def ClaimsRulingsUptoCardSaid : Prop := Claim7.holds Tryz.pinned (.plain (OpenSpec.upto claimsRulingsSpec)) claimsRulingsUptoCard

/-- THE SECOND FORM's CARD OF 'gazetteerlaw29.ClaimsSettled'. -/
def claimsSettledUptoCard : Claim7 := { stood := { row := claimsSettledUptoRow, standIns := [], harness := (true, "4290bb950f10132b4c0165a2e5693e7b0ca83edd675e3a9c2a56db0180154a0e"), looks := true }, kinds := [], alts := [], laidByText := true, laidKinds := [.data, .data, .data, .data, .sentinel, .sentinel, .pinned], laidTests := true, laidLooks := .later }
def ClaimsSettledUptoCardSaid : Prop := Claim7.holds Tryz.pinned (.plain (OpenSpec.upto claimsSettledSpec)) claimsSettledUptoCard
end Rows
end Go.Proofs.YtnfppojnmdohnaaGreatDoor
