/- What is accepted and undone leaves the register that was before, and stories are journals of their own: for every journal and event that the statement takes; others are passed over. Conditions: the listed tables of the library start as the program's text lays them. -/
import Derived.Test.YtcibbcfiemeoiaaGreatDoorRow8
namespace Go.Proofs.YtcibbcfiemeoiaaGreatDoor
open Go Go.Sx Go.RowKit Go.ChangeShapes
set_option maxRecDepth 100000
theorem booksTurns_holds : Rows.BooksTurnsCardSaid :=
  Claim7.holds_tied_plain_at .later [] [.data, .data, .data, .data, .sentinel, .sentinel, .pinned] true Rows.booksTurnsCard.stood.harness true
    row8 (fun _ h => by cases h) row8e (fun _ h => by cases h) booksTurns_row_tie rfl ⟨rfl, rfl⟩ row8f rfl row8j row8h
#print axioms booksTurns_holds
end Go.Proofs.YtcibbcfiemeoiaaGreatDoor
