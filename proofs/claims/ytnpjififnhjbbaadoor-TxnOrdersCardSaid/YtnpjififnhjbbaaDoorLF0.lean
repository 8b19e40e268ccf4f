/- It is proved of functions that TxnOrders reaches what their evaluation is, in plain words. No condition. -/
import Derived.Test.YtnpjififnhjbbaaDoorLH
set_option maxRecDepth 100000
set_option maxHeartbeats 40000
namespace Go.Proofs.YtnpjififnhjbbaaDoor.E
open Go
namespace law27_TxnQueue
end law27_TxnQueue
end Go.Proofs.YtnpjififnhjbbaaDoor.E
