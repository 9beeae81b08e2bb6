/- A session that is opened with a log executes lines as the reference does, for every log and lines that the statement takes; others are passed over. Conditions: the listed tables of the library start as the program's text lays them. -/
import Derived.Test.YtcibbcfiemeoiaaGreatDoorRow6
namespace Go.Proofs.YtcibbcfiemeoiaaGreatDoor
open Go Go.Sx Go.RowKit Go.ChangeShapes
set_option maxRecDepth 100000
theorem booksSessions_holds : Rows.BooksSessionsCardSaid :=
  Claim7.holds_tied_plain_at .later [] [.data, .data, .data, .data, .sentinel, .sentinel, .pinned] true Rows.booksSessionsCard.stood.harness true
    row6 (fun _ h => by cases h) row6e (fun _ h => by cases h) booksSessions_row_tie rfl ⟨rfl, rfl⟩ row6f rfl row6j row6h
#print axioms booksSessions_holds
end Go.Proofs.YtcibbcfiemeoiaaGreatDoor
