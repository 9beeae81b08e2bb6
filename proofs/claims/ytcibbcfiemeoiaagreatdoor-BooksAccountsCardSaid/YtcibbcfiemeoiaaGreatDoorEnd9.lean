/- Accounts, balances, bills, hours and losses of a journal fit each other: for every journal that the statement takes; others are passed over. Conditions: the listed tables of the library start as the program's text lays them. -/
import Derived.Test.YtcibbcfiemeoiaaGreatDoorRow9
namespace Go.Proofs.YtcibbcfiemeoiaaGreatDoor
open Go Go.Sx Go.RowKit Go.ChangeShapes
set_option maxRecDepth 100000
theorem booksAccounts_holds : Rows.BooksAccountsCardSaid :=
  Claim7.holds_tied_plain_at .later [] [.data, .data, .data, .data, .sentinel, .sentinel, .pinned] true Rows.booksAccountsCard.stood.harness true
    row9 (fun _ h => by cases h) row9e (fun _ h => by cases h) booksAccounts_row_tie rfl ⟨rfl, rfl⟩ row9f rfl row9j row9h
#print axioms booksAccounts_holds
end Go.Proofs.YtcibbcfiemeoiaaGreatDoor
