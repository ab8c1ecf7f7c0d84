/- Made from wip. -/
import Derived.Test.YtkhedoaiejjcfaaGreatHzADefx

set_option maxRecDepth 100000
set_option maxHeartbeats 0
namespace Go.HzAM
open Go Go.Sp Go.HzA Go.HpT Go.HtM Go.HyM
theorem ev19_12:mapL (fun p=>deepT 0 2 (evB 19 [sv p])) (pts 12 12 12) = mapL (fun p=>some (aR p)) (pts 12 12 12):=by kernel_rfl
end Go.HzAM
