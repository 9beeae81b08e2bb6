/- The ticks of the first waves at both ends come back from telegrams among others, locate the fault at its place alone, and with clocks that are wrong still there; both ends trip by the thresholds of its zone, and not by those of another section that it is not too high for: for every cable, fault and three numbers that the statement takes. Conditions: the listed tables start as the program's text lays them. -/
import Derived.Test.YthchfepplbcdeaaGreatDoorRow3
namespace Go.Proofs.YthchfepplbcdeaaGreatDoor
open Go Go.Sx Go.RowKit Go.ChangeShapes
set_option maxRecDepth 100000
theorem topShackleHeard_holds : Rows.TopShackleHeardCardSaid :=
  Claim7.holds_tied_plain_at .later [] [.data, .data, .data, .widerDeep] true Rows.topShackleHeardCard.stood.harness false
    row3 (fun _ h => by cases h) row3e (fun _ h => by cases h) topShackleHeard_row_tie rfl ⟨rfl, rfl⟩ row3f rfl row3j row3h
#print axioms topShackleHeard_holds
end Go.Proofs.YthchfepplbcdeaaGreatDoor
