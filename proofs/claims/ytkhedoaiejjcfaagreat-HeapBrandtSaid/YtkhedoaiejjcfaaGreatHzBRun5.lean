/- Made from wip. -/
import Derived.Test.YtkhedoaiejjcfaaGreatHzBPuW

set_option maxRecDepth 100000
set_option maxHeartbeats 0
namespace Go.HzBM
open Go Go.Sp Go.HzB Go.HpT Go.HtM Go.HyM
theorem law_9:m3_ puW 1000000 (.ofNat 9) = some (.bool true):=by kernel_rfl
end Go.HzBM
