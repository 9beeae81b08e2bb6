/- The sums of an hour and the story of a station answer as the reference does, for every list of events and name that the statement takes, and every hour; others are passed over. Conditions: the listed tables of the library start as the program's text lays them. -/
import Derived.Test.YtcibbcfiemeoiaaGreatDoorRow3
namespace Go.Proofs.YtcibbcfiemeoiaaGreatDoor
open Go Go.Sx Go.RowKit Go.ChangeShapes
set_option maxRecDepth 100000
theorem booksHours_holds : Rows.BooksHoursCardSaid :=
  Claim7.holds_tied_plain_at .later [] [.data, .data, .data, .data, .sentinel, .sentinel, .pinned] true Rows.booksHoursCard.stood.harness true
    row3 (fun _ h => by cases h) row3e (fun _ h => by cases h) booksHours_row_tie rfl ⟨rfl, rfl⟩ row3f rfl row3j row3h
#print axioms booksHours_holds
end Go.Proofs.YtcibbcfiemeoiaaGreatDoor
