/- The events of a journal that count, with new numbers, are accepted and lead to the same register, at the end and as of any tick, and their log, opened, has just them: for every journal and tick that the statement takes; others are passed over. Conditions: the listed tables of the library start as the program's text lays them. -/
import Derived.Test.YthlgkojihnccaaaGreatDoorRow3
namespace Go.Proofs.YthlgkojihnccaaaGreatDoor
open Go Go.Sx Go.RowKit Go.ChangeShapes
set_option maxRecDepth 100000
theorem topThimbleUndone_holds : Rows.TopThimbleUndoneCardSaid :=
  Claim7.holds_tied_plain_at .later [] [.data, .data, .data, .data, .sentinel, .sentinel, .pinned] true Rows.topThimbleUndoneCard.stood.harness true
    row3 (fun _ h => by cases h) row3e (fun _ h => by cases h) topThimbleUndone_row_tie rfl ⟨rfl, rfl⟩ row3f rfl row3j row3h
#print axioms topThimbleUndone_holds
end Go.Proofs.YthlgkojihnccaaaGreatDoor
