/- Made from wip. -/
import Derived.Test.YtkhedoaiejjcfaaGreatHzLPuW

set_option maxRecDepth 100000
set_option maxHeartbeats 0
namespace Go.HzLM
open Go Go.Sp Go.HzL Go.HpT Go.HtM Go.HyM
theorem law_12:m6_ puW 1000000 (.ofNat 12) = some (.bool true):=by kernel_rfl
end Go.HzLM
