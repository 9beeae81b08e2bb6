/- Rooms, missing hours and availabilities answer as the reference does, for every list of events and name that the statement takes, and every hour; others are passed over. Conditions: the listed tables of the library start as the program's text lays them. -/
import Derived.Test.YtcibbcfiemeoiaaGreatDoorRow4
namespace Go.Proofs.YtcibbcfiemeoiaaGreatDoor
open Go Go.Sx Go.RowKit Go.ChangeShapes
set_option maxRecDepth 100000
theorem booksRooms_holds : Rows.BooksRoomsCardSaid :=
  Claim7.holds_tied_plain_at .later [] [.data, .data, .data, .data, .sentinel, .sentinel, .pinned] true Rows.booksRoomsCard.stood.harness true
    row4 (fun _ h => by cases h) row4e (fun _ h => by cases h) booksRooms_row_tie rfl ⟨rfl, rfl⟩ row4f rfl row4j row4h
#print axioms booksRooms_holds
end Go.Proofs.YtcibbcfiemeoiaaGreatDoor
