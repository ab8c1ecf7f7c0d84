/- Made from wip. -/
import Derived.Test.YtkhedoaiejjcfaaGreatHzLDefx

set_option maxRecDepth 100000
set_option maxHeartbeats 0
namespace Go.HzLM
open Go Go.Sp Go.HzL Go.HpT Go.HtM Go.HyM
theorem ev25_14:deepT 0 2 (evU 25 [.int .i64 (.ofNat 14)]) = some (.tuple ⟨[.int .i64 (.ofNat 14),sv [3,3,2,2,2,1,1],.int .i64 (.ofNat 0)]⟩):=by kernel_rfl
end Go.HzLM
