/- Made from wip. -/
import Derived.Test.YtkhedoaiejjcfaaGreatHzBDefx

set_option maxRecDepth 100000
set_option maxHeartbeats 0
namespace Go.HzBM
open Go Go.Sp Go.HzB Go.HpT Go.HtM Go.HyM
theorem worksRun:valR (evB 16 []) = some (.bool true):=by kernel_rfl
end Go.HzBM
