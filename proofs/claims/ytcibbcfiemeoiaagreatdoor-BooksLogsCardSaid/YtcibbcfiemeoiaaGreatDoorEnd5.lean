/- Appending an event to a log and recovering a log answer as the reference does, for every event with short strings and every log of at most 1500 bytes; others are passed over. Conditions: the listed tables of the library start as the program's text lays them. -/
import Derived.Test.YtcibbcfiemeoiaaGreatDoorRow5
namespace Go.Proofs.YtcibbcfiemeoiaaGreatDoor
open Go Go.Sx Go.RowKit Go.ChangeShapes
set_option maxRecDepth 100000
theorem booksLogs_holds : Rows.BooksLogsCardSaid :=
  Claim7.holds_tied_plain_at .later [] [.data, .data, .data, .data, .sentinel, .sentinel, .pinned] true Rows.booksLogsCard.stood.harness true
    row5 (fun _ h => by cases h) row5e (fun _ h => by cases h) booksLogs_row_tie rfl ⟨rfl, rfl⟩ row5f rfl row5j row5h
#print axioms booksLogs_holds
end Go.Proofs.YtcibbcfiemeoiaaGreatDoor
