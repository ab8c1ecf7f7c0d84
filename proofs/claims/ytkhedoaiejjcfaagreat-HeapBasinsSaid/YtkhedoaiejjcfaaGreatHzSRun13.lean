/- Made from wip. -/
import Derived.Test.YtkhedoaiejjcfaaGreatHzSSamex

set_option maxRecDepth 100000
set_option maxHeartbeats 0
namespace Go.HzSM
open Go Go.Sp Go.HzS Go.HpT Go.HtM Go.HyM
theorem c23_12_0:rest23 (rSl (ringAt 12 0)) = some (cntAt 12 0):=by kernel_rfl
theorem c23_12_1:rest23 (rSl (ringAt 12 1)) = some (cntAt 12 1):=by kernel_rfl
end Go.HzSM
