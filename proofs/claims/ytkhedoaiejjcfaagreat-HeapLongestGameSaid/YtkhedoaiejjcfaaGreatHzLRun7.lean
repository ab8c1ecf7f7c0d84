/- Made from wip. -/
import Derived.Test.YtkhedoaiejjcfaaGreatHzLDefx

set_option maxRecDepth 100000
set_option maxHeartbeats 0
namespace Go.HzLM
open Go Go.Sp Go.HzL Go.HpT Go.HtM Go.HyM
theorem ev25_12:deepT 0 2 (evU 25 [.int .i64 (.ofNat 12)]) = some (.tuple ⟨[.int .i64 (.ofNat 8),sv [1,1,1,1,1,1,1,1,1,1,1,1],.int .i64 (.ofNat 0)]⟩):=by kernel_rfl
end Go.HzLM
