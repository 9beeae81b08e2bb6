/- Logs that are cut off, changed or lack a record are recovered as the statement says: for every journal and numbers that the statement takes; others are passed over. Conditions: the listed tables of the library start as the program's text lays them. -/
import Derived.Test.YtcibbcfiemeoiaaGreatDoorRow10
namespace Go.Proofs.YtcibbcfiemeoiaaGreatDoor
open Go Go.Sx Go.RowKit Go.ChangeShapes
set_option maxRecDepth 100000
theorem booksTorn_holds : Rows.BooksTornCardSaid :=
  Claim7.holds_tied_plain_at .later [] [.data, .data, .data, .data, .sentinel, .sentinel, .pinned] true Rows.booksTornCard.stood.harness true
    row10 (fun _ h => by cases h) row10e (fun _ h => by cases h) booksTorn_row_tie rfl ⟨rfl, rfl⟩ row10f rfl row10j row10h
#print axioms booksTorn_holds
end Go.Proofs.YtcibbcfiemeoiaaGreatDoor
