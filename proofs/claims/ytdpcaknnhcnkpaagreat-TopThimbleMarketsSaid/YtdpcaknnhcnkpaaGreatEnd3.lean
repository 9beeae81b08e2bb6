/- Hour by hour, the flows that the register of a made up journal shows agree with its stations, orders and meters: for every list of bytes that the statement takes. Conditions: none beyond the statement's own. -/
import Derived.Test.YtdpcaknnhcnkpaaGreatRow3
namespace Go.Proofs.YtdpcaknnhcnkpaaGreat
open Go Go.Sx Go.RowKit Go.ChangeShapes
set_option maxRecDepth 100000
theorem topThimbleMarkets_holds : Rows.TopThimbleMarketsSaid := row3
#print axioms topThimbleMarkets_holds
end Go.Proofs.YtdpcaknnhcnkpaaGreat
