/- Made from wip. -/
import Derived.Test.YtkhedoaiejjcfaaGreatHzSDefx

set_option maxRecDepth 100000
set_option maxHeartbeats 0
namespace Go.HzSM
open Go Go.Sp Go.HzS Go.HpT Go.HtM Go.HyM
theorem ev8_1:deepR 0 2 (evA 8 [.int .i64 (.ofNat 1)]) = some eV1:=by kernel_rfl
theorem ev8_2:deepR 0 2 (evA 8 [.int .i64 (.ofNat 2)]) = some eV2:=by kernel_rfl
theorem ev8_3:deepR 0 2 (evA 8 [.int .i64 (.ofNat 3)]) = some eV3:=by kernel_rfl
theorem ev8_4:deepR 0 2 (evA 8 [.int .i64 (.ofNat 4)]) = some eV4:=by kernel_rfl
theorem ev8_5:deepR 0 2 (evA 8 [.int .i64 (.ofNat 5)]) = some eV5:=by kernel_rfl
theorem ev8_6:deepR 0 2 (evA 8 [.int .i64 (.ofNat 6)]) = some eV6:=by kernel_rfl
theorem ev8_7:deepR 0 2 (evA 8 [.int .i64 (.ofNat 7)]) = some eV7:=by kernel_rfl
theorem ev8_8:deepR 0 2 (evA 8 [.int .i64 (.ofNat 8)]) = some eV8:=by kernel_rfl
theorem ev8_9:deepR 0 2 (evA 8 [.int .i64 (.ofNat 9)]) = some eV9:=by kernel_rfl
theorem ev8_10:deepR 0 2 (evA 8 [.int .i64 (.ofNat 10)]) = some eV10:=by kernel_rfl
theorem ev8_11:deepR 0 2 (evA 8 [.int .i64 (.ofNat 11)]) = some eV11:=by kernel_rfl
end Go.HzSM
