/- Made from wip. -/
import Derived.Test.YtkhedoaiejjcfaaGreatHzSLaw2

set_option maxRecDepth 100000
set_option maxHeartbeats 0
namespace Go.HzSM
open Go Go.Sp Go.HzS Go.HpT Go.HtM Go.HyM
theorem law_10:mapL (fun p=>rest (slOf p)) (pts 10 10 10) = mapL (fun _=>some (Value.bool true)) (pts 10 10 10):=by kernel_rfl
end Go.HzSM
