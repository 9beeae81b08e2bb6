/- Checks, replays, acceptance and registers as of a tick answer as the reference does, for every list of events and event that the statement takes, and every tick; others are passed over. Conditions: the listed tables of the library start as the program's text lays them. -/
import Derived.Test.YtcibbcfiemeoiaaGreatDoorRow11
namespace Go.Proofs.YtcibbcfiemeoiaaGreatDoor
open Go Go.Sx Go.RowKit Go.ChangeShapes
set_option maxRecDepth 100000
theorem booksEvents_holds : Rows.BooksEventsCardSaid :=
  Claim7.holds_tied_plain_at .later [] [.data, .data, .data, .data, .sentinel, .sentinel, .pinned] true Rows.booksEventsCard.stood.harness true
    row11 (fun _ h => by cases h) row11e (fun _ h => by cases h) booksEvents_row_tie rfl ⟨rfl, rfl⟩ row11f rfl row11j row11h
#print axioms booksEvents_holds
end Go.Proofs.YtcibbcfiemeoiaaGreatDoor
