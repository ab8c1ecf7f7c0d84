/- Made from wip. -/
import Derived.Test.YtkhedoaiejjcfaaGreatHzLPuW

set_option maxRecDepth 100000
set_option maxHeartbeats 0
namespace Go.HzLM
open Go Go.Sp Go.HzL Go.HpT Go.HtM Go.HyM
theorem law_0:m6_ puW 1000000 (.ofNat 0) = some (.bool true):=by kernel_rfl
theorem law_1:m6_ puW 1000000 (.ofNat 1) = some (.bool true):=by kernel_rfl
theorem law_2:m6_ puW 1000000 (.ofNat 2) = some (.bool true):=by kernel_rfl
theorem law_3:m6_ puW 1000000 (.ofNat 3) = some (.bool true):=by kernel_rfl
theorem law_4:m6_ puW 1000000 (.ofNat 4) = some (.bool true):=by kernel_rfl
theorem law_5:m6_ puW 1000000 (.ofNat 5) = some (.bool true):=by kernel_rfl
theorem law_6:m6_ puW 1000000 (.ofNat 6) = some (.bool true):=by kernel_rfl
theorem law_7:m6_ puW 1000000 (.ofNat 7) = some (.bool true):=by kernel_rfl
theorem law_8:m6_ puW 1000000 (.ofNat 8) = some (.bool true):=by kernel_rfl
theorem law_9:m6_ puW 1000000 (.ofNat 9) = some (.bool true):=by kernel_rfl
theorem law_10:m6_ puW 1000000 (.ofNat 10) = some (.bool true):=by kernel_rfl
theorem law_11:m6_ puW 1000000 (.ofNat 11) = some (.bool true):=by kernel_rfl
end Go.HzLM
