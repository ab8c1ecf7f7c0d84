/- Made from wip. -/
import Derived.Test.YtkhedoaiejjcfaaGreatHzBPuW

set_option maxRecDepth 100000
set_option maxHeartbeats 0
namespace Go.HzBM
open Go Go.Sp Go.HzB Go.HpT Go.HtM Go.HyM
theorem law_0:m3_ puW 1000000 (.ofNat 0) = some (.bool true):=by kernel_rfl
theorem law_1:m3_ puW 1000000 (.ofNat 1) = some (.bool true):=by kernel_rfl
theorem law_2:m3_ puW 1000000 (.ofNat 2) = some (.bool true):=by kernel_rfl
theorem law_3:m3_ puW 1000000 (.ofNat 3) = some (.bool true):=by kernel_rfl
theorem law_4:m3_ puW 1000000 (.ofNat 4) = some (.bool true):=by kernel_rfl
theorem law_5:m3_ puW 1000000 (.ofNat 5) = some (.bool true):=by kernel_rfl
theorem law_6:m3_ puW 1000000 (.ofNat 6) = some (.bool true):=by kernel_rfl
theorem law_7:m3_ puW 1000000 (.ofNat 7) = some (.bool true):=by kernel_rfl
theorem law_8:m3_ puW 1000000 (.ofNat 8) = some (.bool true):=by kernel_rfl
end Go.HzBM
