/- Settled hours, bills and accounts stay: for every journal that the statement takes; others are passed over. Conditions: the listed tables of the library start as the program's text lays them. -/
import Derived.Test.YtcibbcfiemeoiaaGreatDoorRow12
namespace Go.Proofs.YtcibbcfiemeoiaaGreatDoor
open Go Go.Sx Go.RowKit Go.ChangeShapes
set_option maxRecDepth 100000
theorem booksFinal_holds : Rows.BooksFinalCardSaid :=
  Claim7.holds_tied_plain_at .later [] [.data, .data, .data, .data, .sentinel, .sentinel, .pinned] true Rows.booksFinalCard.stood.harness true
    row12 (fun _ h => by cases h) row12e (fun _ h => by cases h) booksFinal_row_tie rfl ⟨rfl, rfl⟩ row12f rfl row12j row12h
#print axioms booksFinal_holds
end Go.Proofs.YtcibbcfiemeoiaaGreatDoor
