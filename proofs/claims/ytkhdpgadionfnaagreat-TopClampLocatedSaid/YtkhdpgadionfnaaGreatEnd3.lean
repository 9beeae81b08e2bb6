/- A wave that is run forward, what both ends record of it, packed and unpacked, and the place where it is located from that, are as the statement says: for every cable, every fault and every pair of clocks errors that it takes. Conditions: none beyond the statement's own. -/
import Derived.Test.YtkhdpgadionfnaaGreatRow3
namespace Go.Proofs.YtkhdpgadionfnaaGreat
open Go Go.Sx Go.RowKit Go.ChangeShapes
set_option maxRecDepth 100000
theorem topClampLocated_holds : Rows.TopClampLocatedSaid := row3
#print axioms topClampLocated_holds
end Go.Proofs.YtkhdpgadionfnaaGreat
