/-
  DERIVED. GIVEN WITH THE SEED: THE CARDS: each row of YthchfepplbcdeaaGreatDoorRows.lean that lists a variable, with what it lists TIED to the program's text (the seventh form; the later family's looks); each row that meets fmt, with fmt's text TOLD by the authors' own Lean function (tested against real Go, not proved from fmt's source: count such statements apart). THE CARD IS WHAT COUNTS. Prove the row's statement (the work); the ties are given (YthchfepplbcdeaaGreatDoorTie.lean); close each card by the builder's one call (the guide's Derived/Test/ToyasCard.lean, 'card_holds'). Laid BY PROGRAM, IN A SANDBOX (cutbox-door.mjs). By AI agents, Wed Nov 11 2026. No macro, syntax, notation, axiom, sorry.
-/
import Derived.Test.YthchfepplbcdeaaGreatDoorRows
import GoSem.ClaimSeven
namespace Go.Proofs.YthchfepplbcdeaaGreatDoor
namespace Rows

/-- THE TIED CARD OF 'bipoletop.TopShackleHeard'. -/
def topShackleHeardCard : Claim7 := { stood := { row := topShackleHeardRow, standIns := [], harness := (true, "8bc30cf94f2c74296e93b33712d81a3f3b16a70ef84df02727cb93789cd895a8"), looks := false }, kinds := [], alts := [], laidByText := true, laidKinds := [.data, .data, .data, .widerDeep], laidTests := true, laidLooks := .later }
def TopShackleHeardCardSaid : Prop := Claim7.holds Tryz.pinned (.plain (OpenSpec.ofChange topShackleHeardSpec)) topShackleHeardCard

/-- THE SECOND FORM's CARD OF 'bipoletop.TopShackleHeard'. -/
def topShackleHeardUptoCard : Claim7 := { stood := { row := topShackleHeardUptoRow, standIns := [], harness := (true, "8bc30cf94f2c74296e93b33712d81a3f3b16a70ef84df02727cb93789cd895a8"), looks := false }, kinds := [], alts := [], laidByText := true, laidKinds := [.data, .data, .data, .widerDeep], laidTests := true, laidLooks := .later }
def TopShackleHeardUptoCardSaid : Prop := Claim7.holds Tryz.pinned (.plain (OpenSpec.upto topShackleHeardSpec)) topShackleHeardUptoCard
end Rows
end Go.Proofs.YthchfepplbcdeaaGreatDoor
