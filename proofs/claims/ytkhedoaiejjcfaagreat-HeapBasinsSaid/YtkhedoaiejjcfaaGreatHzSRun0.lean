/- Made from wip. -/
import Derived.Test.YtkhedoaiejjcfaaGreatHzSDefx

set_option maxRecDepth 100000
set_option maxHeartbeats 0
namespace Go.HzSM
open Go Go.Sp Go.HzS Go.HpT Go.HtM Go.HyM
theorem worksRun:valR (evB 16 []) = some (.bool true):=by kernel_rfl
end Go.HzSM
