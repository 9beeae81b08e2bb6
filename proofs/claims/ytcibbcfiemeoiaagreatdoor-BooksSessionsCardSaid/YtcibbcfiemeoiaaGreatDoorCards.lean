/-
  DERIVED. GIVEN WITH THE SEED: THE CARDS: each row of YtcibbcfiemeoiaaGreatDoorRows.lean that lists a variable, with what it lists TIED to the program's text (the seventh form; the later family's looks); each row that meets fmt, with fmt's text TOLD by the authors' own Lean function (tested against real Go, not proved from fmt's source: count such statements apart). THE CARD IS WHAT COUNTS. Prove the row's statement (the work); the ties are given (YtcibbcfiemeoiaaGreatDoorTie.lean); close each card by the builder's one call (the guide's Derived/Test/ToyasCard.lean, 'card_holds'). Laid BY PROGRAM, IN A SANDBOX (cutbox-door.mjs). By AI agents, Wed Nov 11 2026. No macro, syntax, notation, axiom, sorry.
-/
import Derived.Test.YtcibbcfiemeoiaaGreatDoorRows
import GoSem.ClaimSeven
namespace Go.Proofs.YtcibbcfiemeoiaaGreatDoor
namespace Rows

/-- THE TIED CARD OF 'bipolelaw10.BooksHours'. -/
def booksHoursCard : Claim7 := { stood := { row := booksHoursRow, standIns := [], harness := (true, "f77a7f4748f1b462650b3e99b877d813d0291271be358429c947513effcc2ac3"), looks := true }, kinds := [], alts := [], laidByText := true, laidKinds := [.data, .data, .data, .data, .sentinel, .sentinel, .pinned], laidTests := true, laidLooks := .later }
def BooksHoursCardSaid : Prop := Claim7.holds Tryz.pinned (.plain (OpenSpec.ofChange booksHoursSpec)) booksHoursCard

/-- THE TIED CARD OF 'bipolelaw10.BooksRooms'. -/
def booksRoomsCard : Claim7 := { stood := { row := booksRoomsRow, standIns := [], harness := (true, "f77a7f4748f1b462650b3e99b877d813d0291271be358429c947513effcc2ac3"), looks := true }, kinds := [], alts := [], laidByText := true, laidKinds := [.data, .data, .data, .data, .sentinel, .sentinel, .pinned], laidTests := true, laidLooks := .later }
def BooksRoomsCardSaid : Prop := Claim7.holds Tryz.pinned (.plain (OpenSpec.ofChange booksRoomsSpec)) booksRoomsCard

/-- THE TIED CARD OF 'bipolelaw10.BooksLogs'. -/
def booksLogsCard : Claim7 := { stood := { row := booksLogsRow, standIns := [], harness := (true, "f77a7f4748f1b462650b3e99b877d813d0291271be358429c947513effcc2ac3"), looks := true }, kinds := [], alts := [], laidByText := true, laidKinds := [.data, .data, .data, .data, .sentinel, .sentinel, .pinned], laidTests := true, laidLooks := .later }
def BooksLogsCardSaid : Prop := Claim7.holds Tryz.pinned (.plain (OpenSpec.ofChange booksLogsSpec)) booksLogsCard

/-- THE TIED CARD OF 'bipolelaw10.BooksSessions'. -/
def booksSessionsCard : Claim7 := { stood := { row := booksSessionsRow, standIns := [], harness := (true, "f77a7f4748f1b462650b3e99b877d813d0291271be358429c947513effcc2ac3"), looks := true }, kinds := [], alts := [], laidByText := true, laidKinds := [.data, .data, .data, .data, .sentinel, .sentinel, .pinned], laidTests := true, laidLooks := .later }
def BooksSessionsCardSaid : Prop := Claim7.holds Tryz.pinned (.plain (OpenSpec.ofChange booksSessionsSpec)) booksSessionsCard

/-- THE TIED CARD OF 'bipolelaw10.BooksBills'. -/
def booksBillsCard : Claim7 := { stood := { row := booksBillsRow, standIns := [], harness := (true, "f77a7f4748f1b462650b3e99b877d813d0291271be358429c947513effcc2ac3"), looks := true }, kinds := [], alts := [], laidByText := true, laidKinds := [.data, .data, .data, .data, .sentinel, .sentinel, .pinned], laidTests := true, laidLooks := .later }
def BooksBillsCardSaid : Prop := Claim7.holds Tryz.pinned (.plain (OpenSpec.ofChange booksBillsSpec)) booksBillsCard

/-- THE TIED CARD OF 'bipolelaw10.BooksTurns'. -/
def booksTurnsCard : Claim7 := { stood := { row := booksTurnsRow, standIns := [], harness := (true, "f77a7f4748f1b462650b3e99b877d813d0291271be358429c947513effcc2ac3"), looks := true }, kinds := [], alts := [], laidByText := true, laidKinds := [.data, .data, .data, .data, .sentinel, .sentinel, .pinned], laidTests := true, laidLooks := .later }
def BooksTurnsCardSaid : Prop := Claim7.holds Tryz.pinned (.plain (OpenSpec.ofChange booksTurnsSpec)) booksTurnsCard

/-- THE TIED CARD OF 'bipolelaw10.BooksAccounts'. -/
def booksAccountsCard : Claim7 := { stood := { row := booksAccountsRow, standIns := [], harness := (true, "f77a7f4748f1b462650b3e99b877d813d0291271be358429c947513effcc2ac3"), looks := true }, kinds := [], alts := [], laidByText := true, laidKinds := [.data, .data, .data, .data, .sentinel, .sentinel, .pinned], laidTests := true, laidLooks := .later }
def BooksAccountsCardSaid : Prop := Claim7.holds Tryz.pinned (.plain (OpenSpec.ofChange booksAccountsSpec)) booksAccountsCard

/-- THE TIED CARD OF 'bipolelaw10.BooksTorn'. -/
def booksTornCard : Claim7 := { stood := { row := booksTornRow, standIns := [], harness := (true, "f77a7f4748f1b462650b3e99b877d813d0291271be358429c947513effcc2ac3"), looks := true }, kinds := [], alts := [], laidByText := true, laidKinds := [.data, .data, .data, .data, .sentinel, .sentinel, .pinned], laidTests := true, laidLooks := .later }
def BooksTornCardSaid : Prop := Claim7.holds Tryz.pinned (.plain (OpenSpec.ofChange booksTornSpec)) booksTornCard

/-- THE TIED CARD OF 'bipolelaw10.BooksEvents'. -/
def booksEventsCard : Claim7 := { stood := { row := booksEventsRow, standIns := [], harness := (true, "f77a7f4748f1b462650b3e99b877d813d0291271be358429c947513effcc2ac3"), looks := true }, kinds := [], alts := [], laidByText := true, laidKinds := [.data, .data, .data, .data, .sentinel, .sentinel, .pinned], laidTests := true, laidLooks := .later }
def BooksEventsCardSaid : Prop := Claim7.holds Tryz.pinned (.plain (OpenSpec.ofChange booksEventsSpec)) booksEventsCard

/-- THE TIED CARD OF 'bipolelaw10.BooksFinal'. -/
def booksFinalCard : Claim7 := { stood := { row := booksFinalRow, standIns := [], harness := (true, "f77a7f4748f1b462650b3e99b877d813d0291271be358429c947513effcc2ac3"), looks := true }, kinds := [], alts := [], laidByText := true, laidKinds := [.data, .data, .data, .data, .sentinel, .sentinel, .pinned], laidTests := true, laidLooks := .later }
def BooksFinalCardSaid : Prop := Claim7.holds Tryz.pinned (.plain (OpenSpec.ofChange booksFinalSpec)) booksFinalCard

/-- THE SECOND FORM's CARD OF 'bipolelaw10.BooksHours'. -/
def booksHoursUptoCard : Claim7 := { stood := { row := booksHoursUptoRow, standIns := [], harness := (true, "f77a7f4748f1b462650b3e99b877d813d0291271be358429c947513effcc2ac3"), looks := true }, kinds := [], alts := [], laidByText := true, laidKinds := [.data, .data, .data, .data, .sentinel, .sentinel, .pinned], laidTests := true, laidLooks := .later }
def BooksHoursUptoCardSaid : Prop := Claim7.holds Tryz.pinned (.plain (OpenSpec.upto booksHoursSpec)) booksHoursUptoCard

/-- THE SECOND FORM's CARD OF 'bipolelaw10.BooksRooms'. -/
def booksRoomsUptoCard : Claim7 := { stood := { row := booksRoomsUptoRow, standIns := [], harness := (true, "f77a7f4748f1b462650b3e99b877d813d0291271be358429c947513effcc2ac3"), looks := true }, kinds := [], alts := [], laidByText := true, laidKinds := [.data, .data, .data, .data, .sentinel, .sentinel, .pinned], laidTests := true, laidLooks := .later }
def BooksRoomsUptoCardSaid : Prop := Claim7.holds Tryz.pinned (.plain (OpenSpec.upto booksRoomsSpec)) booksRoomsUptoCard

/-- THE SECOND FORM's CARD OF 'bipolelaw10.BooksLogs'. -/
def booksLogsUptoCard : Claim7 := { stood := { row := booksLogsUptoRow, standIns := [], harness := (true, "f77a7f4748f1b462650b3e99b877d813d0291271be358429c947513effcc2ac3"), looks := true }, kinds := [], alts := [], laidByText := true, laidKinds := [.data, .data, .data, .data, .sentinel, .sentinel, .pinned], laidTests := true, laidLooks := .later }
def BooksLogsUptoCardSaid : Prop := Claim7.holds Tryz.pinned (.plain (OpenSpec.upto booksLogsSpec)) booksLogsUptoCard

/-- THE SECOND FORM's CARD OF 'bipolelaw10.BooksSessions'. -/
def booksSessionsUptoCard : Claim7 := { stood := { row := booksSessionsUptoRow, standIns := [], harness := (true, "f77a7f4748f1b462650b3e99b877d813d0291271be358429c947513effcc2ac3"), looks := true }, kinds := [], alts := [], laidByText := true, laidKinds := [.data, .data, .data, .data, .sentinel, .sentinel, .pinned], laidTests := true, laidLooks := .later }
def BooksSessionsUptoCardSaid : Prop := Claim7.holds Tryz.pinned (.plain (OpenSpec.upto booksSessionsSpec)) booksSessionsUptoCard

/-- THE SECOND FORM's CARD OF 'bipolelaw10.BooksBills'. -/
def booksBillsUptoCard : Claim7 := { stood := { row := booksBillsUptoRow, standIns := [], harness := (true, "f77a7f4748f1b462650b3e99b877d813d0291271be358429c947513effcc2ac3"), looks := true }, kinds := [], alts := [], laidByText := true, laidKinds := [.data, .data, .data, .data, .sentinel, .sentinel, .pinned], laidTests := true, laidLooks := .later }
def BooksBillsUptoCardSaid : Prop := Claim7.holds Tryz.pinned (.plain (OpenSpec.upto booksBillsSpec)) booksBillsUptoCard

/-- THE SECOND FORM's CARD OF 'bipolelaw10.BooksTurns'. -/
def booksTurnsUptoCard : Claim7 := { stood := { row := booksTurnsUptoRow, standIns := [], harness := (true, "f77a7f4748f1b462650b3e99b877d813d0291271be358429c947513effcc2ac3"), looks := true }, kinds := [], alts := [], laidByText := true, laidKinds := [.data, .data, .data, .data, .sentinel, .sentinel, .pinned], laidTests := true, laidLooks := .later }
def BooksTurnsUptoCardSaid : Prop := Claim7.holds Tryz.pinned (.plain (OpenSpec.upto booksTurnsSpec)) booksTurnsUptoCard

/-- THE SECOND FORM's CARD OF 'bipolelaw10.BooksAccounts'. -/
def booksAccountsUptoCard : Claim7 := { stood := { row := booksAccountsUptoRow, standIns := [], harness := (true, "f77a7f4748f1b462650b3e99b877d813d0291271be358429c947513effcc2ac3"), looks := true }, kinds := [], alts := [], laidByText := true, laidKinds := [.data, .data, .data, .data, .sentinel, .sentinel, .pinned], laidTests := true, laidLooks := .later }
def BooksAccountsUptoCardSaid : Prop := Claim7.holds Tryz.pinned (.plain (OpenSpec.upto booksAccountsSpec)) booksAccountsUptoCard

/-- THE SECOND FORM's CARD OF 'bipolelaw10.BooksTorn'. -/
def booksTornUptoCard : Claim7 := { stood := { row := booksTornUptoRow, standIns := [], harness := (true, "f77a7f4748f1b462650b3e99b877d813d0291271be358429c947513effcc2ac3"), looks := true }, kinds := [], alts := [], laidByText := true, laidKinds := [.data, .data, .data, .data, .sentinel, .sentinel, .pinned], laidTests := true, laidLooks := .later }
def BooksTornUptoCardSaid : Prop := Claim7.holds Tryz.pinned (.plain (OpenSpec.upto booksTornSpec)) booksTornUptoCard

/-- THE SECOND FORM's CARD OF 'bipolelaw10.BooksEvents'. -/
def booksEventsUptoCard : Claim7 := { stood := { row := booksEventsUptoRow, standIns := [], harness := (true, "f77a7f4748f1b462650b3e99b877d813d0291271be358429c947513effcc2ac3"), looks := true }, kinds := [], alts := [], laidByText := true, laidKinds := [.data, .data, .data, .data, .sentinel, .sentinel, .pinned], laidTests := true, laidLooks := .later }
def BooksEventsUptoCardSaid : Prop := Claim7.holds Tryz.pinned (.plain (OpenSpec.upto booksEventsSpec)) booksEventsUptoCard

/-- THE SECOND FORM's CARD OF 'bipolelaw10.BooksFinal'. -/
def booksFinalUptoCard : Claim7 := { stood := { row := booksFinalUptoRow, standIns := [], harness := (true, "f77a7f4748f1b462650b3e99b877d813d0291271be358429c947513effcc2ac3"), looks := true }, kinds := [], alts := [], laidByText := true, laidKinds := [.data, .data, .data, .data, .sentinel, .sentinel, .pinned], laidTests := true, laidLooks := .later }
def BooksFinalUptoCardSaid : Prop := Claim7.holds Tryz.pinned (.plain (OpenSpec.upto booksFinalSpec)) booksFinalUptoCard
end Rows
end Go.Proofs.YtcibbcfiemeoiaaGreatDoor
