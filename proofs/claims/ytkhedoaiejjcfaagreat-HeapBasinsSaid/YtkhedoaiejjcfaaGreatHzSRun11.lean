/- Made from wip. -/
import Derived.Test.YtkhedoaiejjcfaaGreatHzSSamex

set_option maxRecDepth 100000
set_option maxHeartbeats 0
namespace Go.HzSM
open Go Go.Sp Go.HzS Go.HpT Go.HtM Go.HyM
theorem c23_1_0:rest23 (rSl (ringAt 1 0)) = some (cntAt 1 0):=by kernel_rfl
theorem c23_2_0:rest23 (rSl (ringAt 2 0)) = some (cntAt 2 0):=by kernel_rfl
theorem c23_3_0:rest23 (rSl (ringAt 3 0)) = some (cntAt 3 0):=by kernel_rfl
theorem c23_4_0:rest23 (rSl (ringAt 4 0)) = some (cntAt 4 0):=by kernel_rfl
theorem c23_5_0:rest23 (rSl (ringAt 5 0)) = some (cntAt 5 0):=by kernel_rfl
theorem c23_6_0:rest23 (rSl (ringAt 6 0)) = some (cntAt 6 0):=by kernel_rfl
theorem c23_7_0:rest23 (rSl (ringAt 7 0)) = some (cntAt 7 0):=by kernel_rfl
theorem c23_8_0:rest23 (rSl (ringAt 8 0)) = some (cntAt 8 0):=by kernel_rfl
theorem c23_8_1:rest23 (rSl (ringAt 8 1)) = some (cntAt 8 1):=by kernel_rfl
theorem c23_9_0:rest23 (rSl (ringAt 9 0)) = some (cntAt 9 0):=by kernel_rfl
theorem c23_10_0:rest23 (rSl (ringAt 10 0)) = some (cntAt 10 0):=by kernel_rfl
end Go.HzSM
