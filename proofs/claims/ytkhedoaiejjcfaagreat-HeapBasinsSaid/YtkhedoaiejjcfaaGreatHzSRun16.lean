/- Made from wip. -/
import Derived.Test.YtkhedoaiejjcfaaGreatHzSSamex

set_option maxRecDepth 100000
set_option maxHeartbeats 0
namespace Go.HzSM
open Go Go.Sp Go.HzS Go.HpT Go.HtM Go.HyM
theorem e22_12:mapL (fun p=>m22 puX 1000000 [sv p]) (pts 12 12 12) = mapL (fun p=>some (sv (endT p))) (pts 12 12 12):=by kernel_rfl
end Go.HzSM
