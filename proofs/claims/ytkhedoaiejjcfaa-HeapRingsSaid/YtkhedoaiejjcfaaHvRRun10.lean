/- Made from wip. -/
import Derived.Test.YtkhedoaiejjcfaaHvRSamex

set_option maxRecDepth 100000
set_option maxHeartbeats 0
namespace Go.HvRM
open Go Go.Sp Go.HvR Go.HpT
theorem law_1:m3_3 puW 1000000 rsV1 rsV1 false = some (.bool true):=by kernel_rfl
theorem law_2:m3_3 puW 1000000 rsV2 rsV2 false = some (.bool true):=by kernel_rfl
theorem law_3:m3_3 puW 1000000 rsV3 rsV3 false = some (.bool true):=by kernel_rfl
theorem law_4:m3_3 puW 1000000 rsV4 rsV4 false = some (.bool true):=by kernel_rfl
theorem law_5:m3_3 puW 1000000 rsV5 rsV5 false = some (.bool true):=by kernel_rfl
theorem law_6:m3_3 puW 1000000 rsV6 rsV6 false = some (.bool true):=by kernel_rfl
theorem law_7:m3_3 puW 1000000 rsV7 rsV7 false = some (.bool true):=by kernel_rfl
theorem law_8:m3_3 puW 1000000 rsV8 rsV8 false = some (.bool true):=by kernel_rfl
theorem law_9:m3_3 puW 1000000 rsV9 rsV9 false = some (.bool true):=by kernel_rfl
theorem law_10:m3_3 puW 1000000 rsV10 rsV10 false = some (.bool true):=by kernel_rfl
theorem law_11:m3_3 puW 1000000 rsV11 rsV11 false = some (.bool true):=by kernel_rfl
theorem law_12:m3_3 puW 1000000 rsV12 rsV12 false = some (.bool true):=by kernel_rfl
theorem law_13:m3_3 puW 1000000 rsV13 rsV13 false = some (.bool true):=by kernel_rfl
theorem law_14:m3_3 puW 1000000 rsV14 rsV14 false = some (.bool true):=by kernel_rfl
theorem law_0:m3_3 puW 1000000 ⟨0,2,[]⟩ ⟨0,2,[]⟩ false = some (.bool true):=by kernel_rfl
end Go.HvRM
