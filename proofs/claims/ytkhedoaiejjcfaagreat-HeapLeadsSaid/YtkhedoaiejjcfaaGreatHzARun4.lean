/- Made from wip. -/
import Derived.Test.YtkhedoaiejjcfaaGreatHzADefx

set_option maxRecDepth 100000
set_option maxHeartbeats 0
namespace Go.HzAM
open Go Go.Sp Go.HzA Go.HpT Go.HtM Go.HyM
theorem ev20_11:deepT 0 2 (evB 20 [.int .i64 (.ofNat 11)]) = some (.tuple ⟨[.int .i64 (.ofNat 20),.int .i64 (.ofNat 0)]⟩):=by kernel_rfl
end Go.HzAM
