/- Made from wip. -/
import Derived.Test.YtkhedoaiejjcfaaGreatHzLDefx

set_option maxRecDepth 100000
set_option maxHeartbeats 0
namespace Go.HzLM
open Go Go.Sp Go.HzL Go.HpT Go.HtM Go.HyM
theorem worksRun:valR (evB 16 []) = some (.bool true):=by kernel_rfl
end Go.HzLM
