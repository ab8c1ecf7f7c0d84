/- Made from wip. -/
import Derived.Test.YtkhedoaiejjcfaaGreatHzSDefx

set_option maxRecDepth 100000
set_option maxHeartbeats 0
namespace Go.HzSM
open Go Go.Sp Go.HzS Go.HpT Go.HtM Go.HyM
theorem ev36_11:mapL (fun p=>deepR 0 2 (evB 36 [cv p])) (pts 11 11 11) = mapL (fun p=>some (Sl.v 1 (rSl (ringOf p)))) (pts 11 11 11):=by kernel_rfl
end Go.HzSM
