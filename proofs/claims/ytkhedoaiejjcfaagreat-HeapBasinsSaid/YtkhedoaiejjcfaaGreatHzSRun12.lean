/- Made from wip. -/
import Derived.Test.YtkhedoaiejjcfaaGreatHzSSamex

set_option maxRecDepth 100000
set_option maxHeartbeats 0
namespace Go.HzSM
open Go Go.Sp Go.HzS Go.HpT Go.HtM Go.HyM
theorem c23_11_0:rest23 (rSl (ringAt 11 0)) = some (cntAt 11 0):=by kernel_rfl
end Go.HzSM
