/- Made from wip. -/
import Derived.Test.YtkhedoaiejjcfaaHvRSamex

set_option maxRecDepth 100000
set_option maxHeartbeats 0
namespace Go.HvRM
open Go Go.Sp Go.HvR Go.HpT
theorem c6_1_0:rest6 (rSl (ringAt 1 0)) = some (cntAt 1 0):=by kernel_rfl
theorem c6_2_0:rest6 (rSl (ringAt 2 0)) = some (cntAt 2 0):=by kernel_rfl
theorem c6_3_0:rest6 (rSl (ringAt 3 0)) = some (cntAt 3 0):=by kernel_rfl
theorem c6_4_0:rest6 (rSl (ringAt 4 0)) = some (cntAt 4 0):=by kernel_rfl
theorem c6_5_0:rest6 (rSl (ringAt 5 0)) = some (cntAt 5 0):=by kernel_rfl
theorem c6_6_0:rest6 (rSl (ringAt 6 0)) = some (cntAt 6 0):=by kernel_rfl
theorem c6_7_0:rest6 (rSl (ringAt 7 0)) = some (cntAt 7 0):=by kernel_rfl
theorem c6_8_0:rest6 (rSl (ringAt 8 0)) = some (cntAt 8 0):=by kernel_rfl
theorem c6_8_1:rest6 (rSl (ringAt 8 1)) = some (cntAt 8 1):=by kernel_rfl
theorem c6_9_0:rest6 (rSl (ringAt 9 0)) = some (cntAt 9 0):=by kernel_rfl
theorem c6_10_0:rest6 (rSl (ringAt 10 0)) = some (cntAt 10 0):=by kernel_rfl
theorem c6_11_0:rest6 (rSl (ringAt 11 0)) = some (cntAt 11 0):=by kernel_rfl
theorem c6_12_0:rest6 (rSl (ringAt 12 0)) = some (cntAt 12 0):=by kernel_rfl
theorem c6_12_1:rest6 (rSl (ringAt 12 1)) = some (cntAt 12 1):=by kernel_rfl
theorem c6_13_0:rest6 (rSl (ringAt 13 0)) = some (cntAt 13 0):=by kernel_rfl
theorem c6_13_1:rest6 (rSl (ringAt 13 1)) = some (cntAt 13 1):=by kernel_rfl
theorem c6_14_0:rest6 (rSl (ringAt 14 0)) = some (cntAt 14 0):=by kernel_rfl
end Go.HvRM
