/- Made from wip. -/
import Derived.Test.YtkhedoaiejjcfaaGreatHzLDefx

set_option maxRecDepth 100000
set_option maxHeartbeats 0
namespace Go.HzLM
open Go Go.Sp Go.HzL Go.HpT Go.HtM Go.HyM
theorem ev8_15:deepR 0 2 (evA 8 [.int .i64 (.ofNat 15)]) = some eV15:=by kernel_rfl
end Go.HzLM
