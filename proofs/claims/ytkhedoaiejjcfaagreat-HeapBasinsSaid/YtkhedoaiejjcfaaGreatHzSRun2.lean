/- Made from wip. -/
import Derived.Test.YtkhedoaiejjcfaaGreatHzSDefx

set_option maxRecDepth 100000
set_option maxHeartbeats 0
namespace Go.HzSM
open Go Go.Sp Go.HzS Go.HpT Go.HtM Go.HyM
theorem ev8_12:deepR 0 2 (evA 8 [.int .i64 (.ofNat 12)]) = some eV12:=by kernel_rfl
end Go.HzSM
