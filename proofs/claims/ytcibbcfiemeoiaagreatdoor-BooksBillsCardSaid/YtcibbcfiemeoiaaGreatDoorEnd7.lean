/- Bills, accounts, balances and losses answer as the reference does, for every list of events and names that the statement takes; others are passed over. Conditions: the listed tables of the library start as the program's text lays them. -/
import Derived.Test.YtcibbcfiemeoiaaGreatDoorRow7
namespace Go.Proofs.YtcibbcfiemeoiaaGreatDoor
open Go Go.Sx Go.RowKit Go.ChangeShapes
set_option maxRecDepth 100000
theorem booksBills_holds : Rows.BooksBillsCardSaid :=
  Claim7.holds_tied_plain_at .later [] [.data, .data, .data, .data, .sentinel, .sentinel, .pinned] true Rows.booksBillsCard.stood.harness true
    row7 (fun _ h => by cases h) row7e (fun _ h => by cases h) booksBills_row_tie rfl ⟨rfl, rfl⟩ row7f rfl row7j row7h
#print axioms booksBills_holds
end Go.Proofs.YtcibbcfiemeoiaaGreatDoor
