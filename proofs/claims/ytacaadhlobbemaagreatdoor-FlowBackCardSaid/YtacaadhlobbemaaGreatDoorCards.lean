/-
  DERIVED. GIVEN WITH THE SEED: THE CARDS: each row of YtacaadhlobbemaaGreatDoorRows.lean that lists a variable, with what it lists TIED to the program's text (the seventh form; the later family's looks); each row that meets fmt, with fmt's text TOLD by the authors' own Lean function (tested against real Go, not proved from fmt's source: count such statements apart). THE CARD IS WHAT COUNTS. Prove the row's statement (the work); the ties are given (YtacaadhlobbemaaGreatDoorTie.lean); close each card by the builder's one call (the guide's Derived/Test/ToyasCard.lean, 'card_holds'). Laid BY PROGRAM, IN A SANDBOX (cutbox-door.mjs). By AI agents, Wed Nov 11 2026. No macro, syntax, notation, axiom, sorry.
-/
import Derived.Test.YtacaadhlobbemaaGreatDoorRows
import GoSem.ClaimSeven
namespace Go.Proofs.YtacaadhlobbemaaGreatDoor
namespace Rows

/-- THE TIED CARD OF 'bipolelaw05.FlowLines'. -/
def flowLinesCard : Claim7 := { stood := { row := flowLinesRow, standIns := [], harness := (true, "3ae1d91bd5fbd43c6d0a48962c2501076280c87d0280f70252240c24090bd39a"), looks := true }, kinds := [], alts := [], laidByText := true, laidKinds := [.data, .data, .data], laidTests := true, laidLooks := .later }
def FlowLinesCardSaid : Prop := Claim7.holds Tryz.pinned (.plain (OpenSpec.ofChange flowLinesSpec)) flowLinesCard

/-- THE TIED CARD OF 'bipolelaw05.FlowCrossings'. -/
def flowCrossingsCard : Claim7 := { stood := { row := flowCrossingsRow, standIns := [], harness := (true, "3ae1d91bd5fbd43c6d0a48962c2501076280c87d0280f70252240c24090bd39a"), looks := true }, kinds := [], alts := [], laidByText := true, laidKinds := [.data, .data, .data], laidTests := true, laidLooks := .later }
def FlowCrossingsCardSaid : Prop := Claim7.holds Tryz.pinned (.plain (OpenSpec.ofChange flowCrossingsSpec)) flowCrossingsCard

/-- THE TIED CARD OF 'bipolelaw05.FlowLosses'. -/
def flowLossesCard : Claim7 := { stood := { row := flowLossesRow, standIns := [], harness := (true, "3ae1d91bd5fbd43c6d0a48962c2501076280c87d0280f70252240c24090bd39a"), looks := true }, kinds := [], alts := [], laidByText := true, laidKinds := [.data, .data, .data], laidTests := true, laidLooks := .later }
def FlowLossesCardSaid : Prop := Claim7.holds Tryz.pinned (.plain (OpenSpec.ofChange flowLossesSpec)) flowLossesCard

/-- THE TIED CARD OF 'bipolelaw05.FlowMerges'. -/
def flowMergesCard : Claim7 := { stood := { row := flowMergesRow, standIns := [], harness := (true, "3ae1d91bd5fbd43c6d0a48962c2501076280c87d0280f70252240c24090bd39a"), looks := true }, kinds := [], alts := [], laidByText := true, laidKinds := [.data, .data, .data], laidTests := true, laidLooks := .later }
def FlowMergesCardSaid : Prop := Claim7.holds Tryz.pinned (.plain (OpenSpec.ofChange flowMergesSpec)) flowMergesCard

/-- THE TIED CARD OF 'bipolelaw05.FlowRamps'. -/
def flowRampsCard : Claim7 := { stood := { row := flowRampsRow, standIns := [], harness := (true, "3ae1d91bd5fbd43c6d0a48962c2501076280c87d0280f70252240c24090bd39a"), looks := true }, kinds := [], alts := [], laidByText := true, laidKinds := [.data, .data, .data], laidTests := true, laidLooks := .later }
def FlowRampsCardSaid : Prop := Claim7.holds Tryz.pinned (.plain (OpenSpec.ofChange flowRampsSpec)) flowRampsCard

/-- THE TIED CARD OF 'bipolelaw05.FlowTrips'. -/
def flowTripsCard : Claim7 := { stood := { row := flowTripsRow, standIns := [], harness := (true, "3ae1d91bd5fbd43c6d0a48962c2501076280c87d0280f70252240c24090bd39a"), looks := true }, kinds := [], alts := [], laidByText := true, laidKinds := [.data, .data, .data], laidTests := true, laidLooks := .later }
def FlowTripsCardSaid : Prop := Claim7.holds Tryz.pinned (.plain (OpenSpec.ofChange flowTripsSpec)) flowTripsCard

/-- THE TIED CARD OF 'bipolelaw05.FlowShared'. -/
def flowSharedCard : Claim7 := { stood := { row := flowSharedRow, standIns := [], harness := (true, "3ae1d91bd5fbd43c6d0a48962c2501076280c87d0280f70252240c24090bd39a"), looks := true }, kinds := [], alts := [], laidByText := true, laidKinds := [.data, .data, .data], laidTests := true, laidLooks := .later }
def FlowSharedCardSaid : Prop := Claim7.holds Tryz.pinned (.plain (OpenSpec.ofChange flowSharedSpec)) flowSharedCard

/-- THE TIED CARD OF 'bipolelaw05.FlowSaved'. -/
def flowSavedCard : Claim7 := { stood := { row := flowSavedRow, standIns := [], harness := (true, "3ae1d91bd5fbd43c6d0a48962c2501076280c87d0280f70252240c24090bd39a"), looks := true }, kinds := [], alts := [], laidByText := true, laidKinds := [.data, .data, .data], laidTests := true, laidLooks := .later }
def FlowSavedCardSaid : Prop := Claim7.holds Tryz.pinned (.plain (OpenSpec.ofChange flowSavedSpec)) flowSavedCard

/-- THE TIED CARD OF 'bipolelaw05.FlowFollows'. -/
def flowFollowsCard : Claim7 := { stood := { row := flowFollowsRow, standIns := [], harness := (true, "3ae1d91bd5fbd43c6d0a48962c2501076280c87d0280f70252240c24090bd39a"), looks := true }, kinds := [], alts := [], laidByText := true, laidKinds := [.data, .data, .data], laidTests := true, laidLooks := .later }
def FlowFollowsCardSaid : Prop := Claim7.holds Tryz.pinned (.plain (OpenSpec.ofChange flowFollowsSpec)) flowFollowsCard

/-- THE TIED CARD OF 'bipolelaw05.FlowSupports'. -/
def flowSupportsCard : Claim7 := { stood := { row := flowSupportsRow, standIns := [], harness := (true, "3ae1d91bd5fbd43c6d0a48962c2501076280c87d0280f70252240c24090bd39a"), looks := true }, kinds := [], alts := [], laidByText := true, laidKinds := [.data, .data, .data], laidTests := true, laidLooks := .later }
def FlowSupportsCardSaid : Prop := Claim7.holds Tryz.pinned (.plain (OpenSpec.ofChange flowSupportsSpec)) flowSupportsCard

/-- THE TIED CARD OF 'bipolelaw05.FlowSafe'. -/
def flowSafeCard : Claim7 := { stood := { row := flowSafeRow, standIns := [], harness := (true, "3ae1d91bd5fbd43c6d0a48962c2501076280c87d0280f70252240c24090bd39a"), looks := true }, kinds := [], alts := [], laidByText := true, laidKinds := [.data, .data, .data], laidTests := true, laidLooks := .later }
def FlowSafeCardSaid : Prop := Claim7.holds Tryz.pinned (.plain (OpenSpec.ofChange flowSafeSpec)) flowSafeCard

/-- THE TIED CARD OF 'bipolelaw05.FlowTexts'. -/
def flowTextsCard : Claim7 := { stood := { row := flowTextsRow, standIns := [], harness := (true, "3ae1d91bd5fbd43c6d0a48962c2501076280c87d0280f70252240c24090bd39a"), looks := true }, kinds := [], alts := [], laidByText := true, laidKinds := [.data, .data, .data, .data, .sentinel, .sentinel, .pinned], laidTests := true, laidLooks := .later }
def FlowTextsCardSaid : Prop := Claim7.holds Tryz.pinned (.plain (OpenSpec.ofChange flowTextsSpec)) flowTextsCard

/-- THE TIED CARD OF 'bipolelaw05.FlowBack'. -/
def flowBackCard : Claim7 := { stood := { row := flowBackRow, standIns := [], harness := (true, "3ae1d91bd5fbd43c6d0a48962c2501076280c87d0280f70252240c24090bd39a"), looks := true }, kinds := [], alts := [], laidByText := true, laidKinds := [.data, .data, .data, .data, .sentinel, .sentinel, .pinned], laidTests := true, laidLooks := .later }
def FlowBackCardSaid : Prop := Claim7.holds Tryz.pinned (.plain (OpenSpec.ofChange flowBackSpec)) flowBackCard

/-- THE SECOND FORM's CARD OF 'bipolelaw05.FlowLines'. -/
def flowLinesUptoCard : Claim7 := { stood := { row := flowLinesUptoRow, standIns := [], harness := (true, "3ae1d91bd5fbd43c6d0a48962c2501076280c87d0280f70252240c24090bd39a"), looks := true }, kinds := [], alts := [], laidByText := true, laidKinds := [.data, .data, .data], laidTests := true, laidLooks := .later }
def FlowLinesUptoCardSaid : Prop := Claim7.holds Tryz.pinned (.plain (OpenSpec.upto flowLinesSpec)) flowLinesUptoCard

/-- THE SECOND FORM's CARD OF 'bipolelaw05.FlowCrossings'. -/
def flowCrossingsUptoCard : Claim7 := { stood := { row := flowCrossingsUptoRow, standIns := [], harness := (true, "3ae1d91bd5fbd43c6d0a48962c2501076280c87d0280f70252240c24090bd39a"), looks := true }, kinds := [], alts := [], laidByText := true, laidKinds := [.data, .data, .data], laidTests := true, laidLooks := .later }
def FlowCrossingsUptoCardSaid : Prop := Claim7.holds Tryz.pinned (.plain (OpenSpec.upto flowCrossingsSpec)) flowCrossingsUptoCard

/-- THE SECOND FORM's CARD OF 'bipolelaw05.FlowLosses'. -/
def flowLossesUptoCard : Claim7 := { stood := { row := flowLossesUptoRow, standIns := [], harness := (true, "3ae1d91bd5fbd43c6d0a48962c2501076280c87d0280f70252240c24090bd39a"), looks := true }, kinds := [], alts := [], laidByText := true, laidKinds := [.data, .data, .data], laidTests := true, laidLooks := .later }
def FlowLossesUptoCardSaid : Prop := Claim7.holds Tryz.pinned (.plain (OpenSpec.upto flowLossesSpec)) flowLossesUptoCard

/-- THE SECOND FORM's CARD OF 'bipolelaw05.FlowMerges'. -/
def flowMergesUptoCard : Claim7 := { stood := { row := flowMergesUptoRow, standIns := [], harness := (true, "3ae1d91bd5fbd43c6d0a48962c2501076280c87d0280f70252240c24090bd39a"), looks := true }, kinds := [], alts := [], laidByText := true, laidKinds := [.data, .data, .data], laidTests := true, laidLooks := .later }
def FlowMergesUptoCardSaid : Prop := Claim7.holds Tryz.pinned (.plain (OpenSpec.upto flowMergesSpec)) flowMergesUptoCard

/-- THE SECOND FORM's CARD OF 'bipolelaw05.FlowRamps'. -/
def flowRampsUptoCard : Claim7 := { stood := { row := flowRampsUptoRow, standIns := [], harness := (true, "3ae1d91bd5fbd43c6d0a48962c2501076280c87d0280f70252240c24090bd39a"), looks := true }, kinds := [], alts := [], laidByText := true, laidKinds := [.data, .data, .data], laidTests := true, laidLooks := .later }
def FlowRampsUptoCardSaid : Prop := Claim7.holds Tryz.pinned (.plain (OpenSpec.upto flowRampsSpec)) flowRampsUptoCard

/-- THE SECOND FORM's CARD OF 'bipolelaw05.FlowTrips'. -/
def flowTripsUptoCard : Claim7 := { stood := { row := flowTripsUptoRow, standIns := [], harness := (true, "3ae1d91bd5fbd43c6d0a48962c2501076280c87d0280f70252240c24090bd39a"), looks := true }, kinds := [], alts := [], laidByText := true, laidKinds := [.data, .data, .data], laidTests := true, laidLooks := .later }
def FlowTripsUptoCardSaid : Prop := Claim7.holds Tryz.pinned (.plain (OpenSpec.upto flowTripsSpec)) flowTripsUptoCard

/-- THE SECOND FORM's CARD OF 'bipolelaw05.FlowShared'. -/
def flowSharedUptoCard : Claim7 := { stood := { row := flowSharedUptoRow, standIns := [], harness := (true, "3ae1d91bd5fbd43c6d0a48962c2501076280c87d0280f70252240c24090bd39a"), looks := true }, kinds := [], alts := [], laidByText := true, laidKinds := [.data, .data, .data], laidTests := true, laidLooks := .later }
def FlowSharedUptoCardSaid : Prop := Claim7.holds Tryz.pinned (.plain (OpenSpec.upto flowSharedSpec)) flowSharedUptoCard

/-- THE SECOND FORM's CARD OF 'bipolelaw05.FlowSaved'. -/
def flowSavedUptoCard : Claim7 := { stood := { row := flowSavedUptoRow, standIns := [], harness := (true, "3ae1d91bd5fbd43c6d0a48962c2501076280c87d0280f70252240c24090bd39a"), looks := true }, kinds := [], alts := [], laidByText := true, laidKinds := [.data, .data, .data], laidTests := true, laidLooks := .later }
def FlowSavedUptoCardSaid : Prop := Claim7.holds Tryz.pinned (.plain (OpenSpec.upto flowSavedSpec)) flowSavedUptoCard

/-- THE SECOND FORM's CARD OF 'bipolelaw05.FlowFollows'. -/
def flowFollowsUptoCard : Claim7 := { stood := { row := flowFollowsUptoRow, standIns := [], harness := (true, "3ae1d91bd5fbd43c6d0a48962c2501076280c87d0280f70252240c24090bd39a"), looks := true }, kinds := [], alts := [], laidByText := true, laidKinds := [.data, .data, .data], laidTests := true, laidLooks := .later }
def FlowFollowsUptoCardSaid : Prop := Claim7.holds Tryz.pinned (.plain (OpenSpec.upto flowFollowsSpec)) flowFollowsUptoCard

/-- THE SECOND FORM's CARD OF 'bipolelaw05.FlowSupports'. -/
def flowSupportsUptoCard : Claim7 := { stood := { row := flowSupportsUptoRow, standIns := [], harness := (true, "3ae1d91bd5fbd43c6d0a48962c2501076280c87d0280f70252240c24090bd39a"), looks := true }, kinds := [], alts := [], laidByText := true, laidKinds := [.data, .data, .data], laidTests := true, laidLooks := .later }
def FlowSupportsUptoCardSaid : Prop := Claim7.holds Tryz.pinned (.plain (OpenSpec.upto flowSupportsSpec)) flowSupportsUptoCard

/-- THE SECOND FORM's CARD OF 'bipolelaw05.FlowSafe'. -/
def flowSafeUptoCard : Claim7 := { stood := { row := flowSafeUptoRow, standIns := [], harness := (true, "3ae1d91bd5fbd43c6d0a48962c2501076280c87d0280f70252240c24090bd39a"), looks := true }, kinds := [], alts := [], laidByText := true, laidKinds := [.data, .data, .data], laidTests := true, laidLooks := .later }
def FlowSafeUptoCardSaid : Prop := Claim7.holds Tryz.pinned (.plain (OpenSpec.upto flowSafeSpec)) flowSafeUptoCard

/-- THE SECOND FORM's CARD OF 'bipolelaw05.FlowTexts'. -/
def flowTextsUptoCard : Claim7 := { stood := { row := flowTextsUptoRow, standIns := [], harness := (true, "3ae1d91bd5fbd43c6d0a48962c2501076280c87d0280f70252240c24090bd39a"), looks := true }, kinds := [], alts := [], laidByText := true, laidKinds := [.data, .data, .data, .data, .sentinel, .sentinel, .pinned], laidTests := true, laidLooks := .later }
def FlowTextsUptoCardSaid : Prop := Claim7.holds Tryz.pinned (.plain (OpenSpec.upto flowTextsSpec)) flowTextsUptoCard

/-- THE SECOND FORM's CARD OF 'bipolelaw05.FlowBack'. -/
def flowBackUptoCard : Claim7 := { stood := { row := flowBackUptoRow, standIns := [], harness := (true, "3ae1d91bd5fbd43c6d0a48962c2501076280c87d0280f70252240c24090bd39a"), looks := true }, kinds := [], alts := [], laidByText := true, laidKinds := [.data, .data, .data, .data, .sentinel, .sentinel, .pinned], laidTests := true, laidLooks := .later }
def FlowBackUptoCardSaid : Prop := Claim7.holds Tryz.pinned (.plain (OpenSpec.upto flowBackSpec)) flowBackUptoCard
end Rows
end Go.Proofs.YtacaadhlobbemaaGreatDoor
