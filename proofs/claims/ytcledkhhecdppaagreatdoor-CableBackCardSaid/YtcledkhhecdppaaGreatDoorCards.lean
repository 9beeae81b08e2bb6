/-
  DERIVED. GIVEN WITH THE SEED: THE CARDS: each row of YtcledkhhecdppaaGreatDoorRows.lean that lists a variable, with what it lists TIED to the program's text (the seventh form; the later family's looks); each row that meets fmt, with fmt's text TOLD by the authors' own Lean function (tested against real Go, not proved from fmt's source: count such statements apart). THE CARD IS WHAT COUNTS. Prove the row's statement (the work); the ties are given (YtcledkhhecdppaaGreatDoorTie.lean); close each card by the builder's one call (the guide's Derived/Test/ToyasCard.lean, 'card_holds'). Laid BY PROGRAM, IN A SANDBOX (cutbox-door.mjs). By AI agents, Wed Nov 11 2026. No macro, syntax, notation, axiom, sorry.
-/
import Derived.Test.YtcledkhhecdppaaGreatDoorRows
import GoSem.ClaimSeven
namespace Go.Proofs.YtcledkhhecdppaaGreatDoor
namespace Rows

/-- THE TIED CARD OF 'bipolelaw06.CableWaves'. -/
def cableWavesCard : Claim7 := { stood := { row := cableWavesRow, standIns := [], harness := (true, "85f3954e99176108e7e34b485bdc249cb967211522eab2c2be2d3805abafaa81"), looks := true }, kinds := [], alts := [], laidByText := true, laidKinds := [.data, .data, .data], laidTests := true, laidLooks := .later }
def CableWavesCardSaid : Prop := Claim7.holds Tryz.pinned (.plain (OpenSpec.ofChange cableWavesSpec)) cableWavesCard

/-- THE TIED CARD OF 'bipolelaw06.CableLocates'. -/
def cableLocatesCard : Claim7 := { stood := { row := cableLocatesRow, standIns := [], harness := (true, "85f3954e99176108e7e34b485bdc249cb967211522eab2c2be2d3805abafaa81"), looks := true }, kinds := [], alts := [], laidByText := true, laidKinds := [.data, .data, .data], laidTests := true, laidLooks := .later }
def CableLocatesCardSaid : Prop := Claim7.holds Tryz.pinned (.plain (OpenSpec.ofChange cableLocatesSpec)) cableLocatesCard

/-- THE TIED CARD OF 'bipolelaw06.CableOpens'. -/
def cableOpensCard : Claim7 := { stood := { row := cableOpensRow, standIns := [], harness := (true, "85f3954e99176108e7e34b485bdc249cb967211522eab2c2be2d3805abafaa81"), looks := true }, kinds := [], alts := [], laidByText := true, laidKinds := [.data, .data, .data], laidTests := true, laidLooks := .later }
def CableOpensCardSaid : Prop := Claim7.holds Tryz.pinned (.plain (OpenSpec.ofChange cableOpensSpec)) cableOpensCard

/-- THE TIED CARD OF 'bipolelaw06.CableClears'. -/
def cableClearsCard : Claim7 := { stood := { row := cableClearsRow, standIns := [], harness := (true, "85f3954e99176108e7e34b485bdc249cb967211522eab2c2be2d3805abafaa81"), looks := true }, kinds := [], alts := [], laidByText := true, laidKinds := [.data, .data, .data], laidTests := true, laidLooks := .later }
def CableClearsCardSaid : Prop := Claim7.holds Tryz.pinned (.plain (OpenSpec.ofChange cableClearsSpec)) cableClearsCard

/-- THE TIED CARD OF 'bipolelaw06.CableHolds'. -/
def cableHoldsCard : Claim7 := { stood := { row := cableHoldsRow, standIns := [], harness := (true, "85f3954e99176108e7e34b485bdc249cb967211522eab2c2be2d3805abafaa81"), looks := true }, kinds := [], alts := [], laidByText := true, laidKinds := [.data, .data, .data], laidTests := true, laidLooks := .later }
def CableHoldsCardSaid : Prop := Claim7.holds Tryz.pinned (.plain (OpenSpec.ofChange cableHoldsSpec)) cableHoldsCard

/-- THE TIED CARD OF 'bipolelaw06.CableSplits'. -/
def cableSplitsCard : Claim7 := { stood := { row := cableSplitsRow, standIns := [], harness := (true, "85f3954e99176108e7e34b485bdc249cb967211522eab2c2be2d3805abafaa81"), looks := true }, kinds := [], alts := [], laidByText := true, laidKinds := [.data, .data, .data], laidTests := true, laidLooks := .later }
def CableSplitsCardSaid : Prop := Claim7.holds Tryz.pinned (.plain (OpenSpec.ofChange cableSplitsSpec)) cableSplitsCard

/-- THE TIED CARD OF 'bipolelaw06.CableZones'. -/
def cableZonesCard : Claim7 := { stood := { row := cableZonesRow, standIns := [], harness := (true, "85f3954e99176108e7e34b485bdc249cb967211522eab2c2be2d3805abafaa81"), looks := true }, kinds := [], alts := [], laidByText := true, laidKinds := [.data, .data, .data], laidTests := true, laidLooks := .later }
def CableZonesCardSaid : Prop := Claim7.holds Tryz.pinned (.plain (OpenSpec.ofChange cableZonesSpec)) cableZonesCard

/-- THE TIED CARD OF 'bipolelaw06.CableFirsts'. -/
def cableFirstsCard : Claim7 := { stood := { row := cableFirstsRow, standIns := [], harness := (true, "85f3954e99176108e7e34b485bdc249cb967211522eab2c2be2d3805abafaa81"), looks := true }, kinds := [], alts := [], laidByText := true, laidKinds := [.data, .data, .data], laidTests := true, laidLooks := .later }
def CableFirstsCardSaid : Prop := Claim7.holds Tryz.pinned (.plain (OpenSpec.ofChange cableFirstsSpec)) cableFirstsCard

/-- THE TIED CARD OF 'bipolelaw06.CableShapes'. -/
def cableShapesCard : Claim7 := { stood := { row := cableShapesRow, standIns := [], harness := (true, "85f3954e99176108e7e34b485bdc249cb967211522eab2c2be2d3805abafaa81"), looks := true }, kinds := [], alts := [], laidByText := true, laidKinds := [.data, .data, .data], laidTests := true, laidLooks := .later }
def CableShapesCardSaid : Prop := Claim7.holds Tryz.pinned (.plain (OpenSpec.ofChange cableShapesSpec)) cableShapesCard

/-- THE TIED CARD OF 'bipolelaw06.CableMirrors'. -/
def cableMirrorsCard : Claim7 := { stood := { row := cableMirrorsRow, standIns := [], harness := (true, "85f3954e99176108e7e34b485bdc249cb967211522eab2c2be2d3805abafaa81"), looks := true }, kinds := [], alts := [], laidByText := true, laidKinds := [.data, .data, .data], laidTests := true, laidLooks := .later }
def CableMirrorsCardSaid : Prop := Claim7.holds Tryz.pinned (.plain (OpenSpec.ofChange cableMirrorsSpec)) cableMirrorsCard

/-- THE TIED CARD OF 'bipolelaw06.CableTrips'. -/
def cableTripsCard : Claim7 := { stood := { row := cableTripsRow, standIns := [], harness := (true, "85f3954e99176108e7e34b485bdc249cb967211522eab2c2be2d3805abafaa81"), looks := true }, kinds := [], alts := [], laidByText := true, laidKinds := [.data, .data, .data], laidTests := true, laidLooks := .later }
def CableTripsCardSaid : Prop := Claim7.holds Tryz.pinned (.plain (OpenSpec.ofChange cableTripsSpec)) cableTripsCard

/-- THE TIED CARD OF 'bipolelaw06.CableTexts'. -/
def cableTextsCard : Claim7 := { stood := { row := cableTextsRow, standIns := [], harness := (true, "85f3954e99176108e7e34b485bdc249cb967211522eab2c2be2d3805abafaa81"), looks := true }, kinds := [], alts := [], laidByText := true, laidKinds := [.data, .data, .data, .data, .sentinel, .sentinel, .pinned], laidTests := true, laidLooks := .later }
def CableTextsCardSaid : Prop := Claim7.holds Tryz.pinned (.plain (OpenSpec.ofChange cableTextsSpec)) cableTextsCard

/-- THE TIED CARD OF 'bipolelaw06.CableBack'. -/
def cableBackCard : Claim7 := { stood := { row := cableBackRow, standIns := [], harness := (true, "85f3954e99176108e7e34b485bdc249cb967211522eab2c2be2d3805abafaa81"), looks := true }, kinds := [], alts := [], laidByText := true, laidKinds := [.data, .data, .data, .data, .sentinel, .sentinel, .pinned], laidTests := true, laidLooks := .later }
def CableBackCardSaid : Prop := Claim7.holds Tryz.pinned (.plain (OpenSpec.ofChange cableBackSpec)) cableBackCard

/-- THE SECOND FORM's CARD OF 'bipolelaw06.CableWaves'. -/
def cableWavesUptoCard : Claim7 := { stood := { row := cableWavesUptoRow, standIns := [], harness := (true, "85f3954e99176108e7e34b485bdc249cb967211522eab2c2be2d3805abafaa81"), looks := true }, kinds := [], alts := [], laidByText := true, laidKinds := [.data, .data, .data], laidTests := true, laidLooks := .later }
def CableWavesUptoCardSaid : Prop := Claim7.holds Tryz.pinned (.plain (OpenSpec.upto cableWavesSpec)) cableWavesUptoCard

/-- THE SECOND FORM's CARD OF 'bipolelaw06.CableLocates'. -/
def cableLocatesUptoCard : Claim7 := { stood := { row := cableLocatesUptoRow, standIns := [], harness := (true, "85f3954e99176108e7e34b485bdc249cb967211522eab2c2be2d3805abafaa81"), looks := true }, kinds := [], alts := [], laidByText := true, laidKinds := [.data, .data, .data], laidTests := true, laidLooks := .later }
def CableLocatesUptoCardSaid : Prop := Claim7.holds Tryz.pinned (.plain (OpenSpec.upto cableLocatesSpec)) cableLocatesUptoCard

/-- THE SECOND FORM's CARD OF 'bipolelaw06.CableOpens'. -/
def cableOpensUptoCard : Claim7 := { stood := { row := cableOpensUptoRow, standIns := [], harness := (true, "85f3954e99176108e7e34b485bdc249cb967211522eab2c2be2d3805abafaa81"), looks := true }, kinds := [], alts := [], laidByText := true, laidKinds := [.data, .data, .data], laidTests := true, laidLooks := .later }
def CableOpensUptoCardSaid : Prop := Claim7.holds Tryz.pinned (.plain (OpenSpec.upto cableOpensSpec)) cableOpensUptoCard

/-- THE SECOND FORM's CARD OF 'bipolelaw06.CableClears'. -/
def cableClearsUptoCard : Claim7 := { stood := { row := cableClearsUptoRow, standIns := [], harness := (true, "85f3954e99176108e7e34b485bdc249cb967211522eab2c2be2d3805abafaa81"), looks := true }, kinds := [], alts := [], laidByText := true, laidKinds := [.data, .data, .data], laidTests := true, laidLooks := .later }
def CableClearsUptoCardSaid : Prop := Claim7.holds Tryz.pinned (.plain (OpenSpec.upto cableClearsSpec)) cableClearsUptoCard

/-- THE SECOND FORM's CARD OF 'bipolelaw06.CableHolds'. -/
def cableHoldsUptoCard : Claim7 := { stood := { row := cableHoldsUptoRow, standIns := [], harness := (true, "85f3954e99176108e7e34b485bdc249cb967211522eab2c2be2d3805abafaa81"), looks := true }, kinds := [], alts := [], laidByText := true, laidKinds := [.data, .data, .data], laidTests := true, laidLooks := .later }
def CableHoldsUptoCardSaid : Prop := Claim7.holds Tryz.pinned (.plain (OpenSpec.upto cableHoldsSpec)) cableHoldsUptoCard

/-- THE SECOND FORM's CARD OF 'bipolelaw06.CableSplits'. -/
def cableSplitsUptoCard : Claim7 := { stood := { row := cableSplitsUptoRow, standIns := [], harness := (true, "85f3954e99176108e7e34b485bdc249cb967211522eab2c2be2d3805abafaa81"), looks := true }, kinds := [], alts := [], laidByText := true, laidKinds := [.data, .data, .data], laidTests := true, laidLooks := .later }
def CableSplitsUptoCardSaid : Prop := Claim7.holds Tryz.pinned (.plain (OpenSpec.upto cableSplitsSpec)) cableSplitsUptoCard

/-- THE SECOND FORM's CARD OF 'bipolelaw06.CableZones'. -/
def cableZonesUptoCard : Claim7 := { stood := { row := cableZonesUptoRow, standIns := [], harness := (true, "85f3954e99176108e7e34b485bdc249cb967211522eab2c2be2d3805abafaa81"), looks := true }, kinds := [], alts := [], laidByText := true, laidKinds := [.data, .data, .data], laidTests := true, laidLooks := .later }
def CableZonesUptoCardSaid : Prop := Claim7.holds Tryz.pinned (.plain (OpenSpec.upto cableZonesSpec)) cableZonesUptoCard

/-- THE SECOND FORM's CARD OF 'bipolelaw06.CableFirsts'. -/
def cableFirstsUptoCard : Claim7 := { stood := { row := cableFirstsUptoRow, standIns := [], harness := (true, "85f3954e99176108e7e34b485bdc249cb967211522eab2c2be2d3805abafaa81"), looks := true }, kinds := [], alts := [], laidByText := true, laidKinds := [.data, .data, .data], laidTests := true, laidLooks := .later }
def CableFirstsUptoCardSaid : Prop := Claim7.holds Tryz.pinned (.plain (OpenSpec.upto cableFirstsSpec)) cableFirstsUptoCard

/-- THE SECOND FORM's CARD OF 'bipolelaw06.CableShapes'. -/
def cableShapesUptoCard : Claim7 := { stood := { row := cableShapesUptoRow, standIns := [], harness := (true, "85f3954e99176108e7e34b485bdc249cb967211522eab2c2be2d3805abafaa81"), looks := true }, kinds := [], alts := [], laidByText := true, laidKinds := [.data, .data, .data], laidTests := true, laidLooks := .later }
def CableShapesUptoCardSaid : Prop := Claim7.holds Tryz.pinned (.plain (OpenSpec.upto cableShapesSpec)) cableShapesUptoCard

/-- THE SECOND FORM's CARD OF 'bipolelaw06.CableMirrors'. -/
def cableMirrorsUptoCard : Claim7 := { stood := { row := cableMirrorsUptoRow, standIns := [], harness := (true, "85f3954e99176108e7e34b485bdc249cb967211522eab2c2be2d3805abafaa81"), looks := true }, kinds := [], alts := [], laidByText := true, laidKinds := [.data, .data, .data], laidTests := true, laidLooks := .later }
def CableMirrorsUptoCardSaid : Prop := Claim7.holds Tryz.pinned (.plain (OpenSpec.upto cableMirrorsSpec)) cableMirrorsUptoCard

/-- THE SECOND FORM's CARD OF 'bipolelaw06.CableTrips'. -/
def cableTripsUptoCard : Claim7 := { stood := { row := cableTripsUptoRow, standIns := [], harness := (true, "85f3954e99176108e7e34b485bdc249cb967211522eab2c2be2d3805abafaa81"), looks := true }, kinds := [], alts := [], laidByText := true, laidKinds := [.data, .data, .data], laidTests := true, laidLooks := .later }
def CableTripsUptoCardSaid : Prop := Claim7.holds Tryz.pinned (.plain (OpenSpec.upto cableTripsSpec)) cableTripsUptoCard

/-- THE SECOND FORM's CARD OF 'bipolelaw06.CableTexts'. -/
def cableTextsUptoCard : Claim7 := { stood := { row := cableTextsUptoRow, standIns := [], harness := (true, "85f3954e99176108e7e34b485bdc249cb967211522eab2c2be2d3805abafaa81"), looks := true }, kinds := [], alts := [], laidByText := true, laidKinds := [.data, .data, .data, .data, .sentinel, .sentinel, .pinned], laidTests := true, laidLooks := .later }
def CableTextsUptoCardSaid : Prop := Claim7.holds Tryz.pinned (.plain (OpenSpec.upto cableTextsSpec)) cableTextsUptoCard

/-- THE SECOND FORM's CARD OF 'bipolelaw06.CableBack'. -/
def cableBackUptoCard : Claim7 := { stood := { row := cableBackUptoRow, standIns := [], harness := (true, "85f3954e99176108e7e34b485bdc249cb967211522eab2c2be2d3805abafaa81"), looks := true }, kinds := [], alts := [], laidByText := true, laidKinds := [.data, .data, .data, .data, .sentinel, .sentinel, .pinned], laidTests := true, laidLooks := .later }
def CableBackUptoCardSaid : Prop := Claim7.holds Tryz.pinned (.plain (OpenSpec.upto cableBackSpec)) cableBackUptoCard
end Rows
end Go.Proofs.YtcledkhhecdppaaGreatDoor
