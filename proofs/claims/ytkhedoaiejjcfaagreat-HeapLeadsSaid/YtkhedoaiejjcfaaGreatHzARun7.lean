/- Made from wip. -/
import Derived.Test.YtkhedoaiejjcfaaGreatHzADefx

set_option maxRecDepth 100000
set_option maxHeartbeats 0
namespace Go.HzAM
open Go Go.Sp Go.HzA Go.HpT Go.HtM Go.HyM
theorem ev19_9:mapL (fun p=>deepT 0 2 (evB 19 [sv p])) (pts 9 9 9) = mapL (fun p=>some (aR p)) (pts 9 9 9):=by kernel_rfl
theorem ev19_10:mapL (fun p=>deepT 0 2 (evB 19 [sv p])) (pts 10 10 10) = mapL (fun p=>some (aR p)) (pts 10 10 10):=by kernel_rfl
end Go.HzAM
