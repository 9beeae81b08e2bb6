/-
  DERIVED. GIVEN WITH THE SEED: THE CARDS: each row of YthlgkojihnccaaaGreatDoorRows.lean that lists a variable, with what it lists TIED to the program's text (the seventh form; the later family's looks); each row that meets fmt, with fmt's text TOLD by the authors' own Lean function (tested against real Go, not proved from fmt's source: count such statements apart). THE CARD IS WHAT COUNTS. Prove the row's statement (the work); the ties are given (YthlgkojihnccaaaGreatDoorTie.lean); close each card by the builder's one call (the guide's Derived/Test/ToyasCard.lean, 'card_holds'). Laid BY PROGRAM, IN A SANDBOX (cutbox-door.mjs). By AI agents, Wed Nov 11 2026. No macro, syntax, notation, axiom, sorry.
-/
import Derived.Test.YthlgkojihnccaaaGreatDoorRows
import GoSem.ClaimSeven
namespace Go.Proofs.YthlgkojihnccaaaGreatDoor
namespace Rows

/-- THE TIED CARD OF 'bipoletop.TopThimbleUndone'. -/
def topThimbleUndoneCard : Claim7 := { stood := { row := topThimbleUndoneRow, standIns := [], harness := (true, "72b36c52e5ac2914e95ebe24121f36e16efe4f8c46b8e16c08b3d550fc56cc91"), looks := true }, kinds := [], alts := [], laidByText := true, laidKinds := [.data, .data, .data, .data, .sentinel, .sentinel, .pinned], laidTests := true, laidLooks := .later }
def TopThimbleUndoneCardSaid : Prop := Claim7.holds Tryz.pinned (.plain (OpenSpec.ofChange topThimbleUndoneSpec)) topThimbleUndoneCard

/-- THE SECOND FORM's CARD OF 'bipoletop.TopThimbleUndone'. -/
def topThimbleUndoneUptoCard : Claim7 := { stood := { row := topThimbleUndoneUptoRow, standIns := [], harness := (true, "72b36c52e5ac2914e95ebe24121f36e16efe4f8c46b8e16c08b3d550fc56cc91"), looks := true }, kinds := [], alts := [], laidByText := true, laidKinds := [.data, .data, .data, .data, .sentinel, .sentinel, .pinned], laidTests := true, laidLooks := .later }
def TopThimbleUndoneUptoCardSaid : Prop := Claim7.holds Tryz.pinned (.plain (OpenSpec.upto topThimbleUndoneSpec)) topThimbleUndoneUptoCard
end Rows
end Go.Proofs.YthlgkojihnccaaaGreatDoor
