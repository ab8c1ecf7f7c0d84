/- Made from wip. -/
import Derived.Test.YtkhedoaiejjcfaaGreatHzSDefx

set_option maxRecDepth 100000
set_option maxHeartbeats 0
namespace Go.HzSM
open Go Go.Sp Go.HzS Go.HpT Go.HtM Go.HyM
theorem ev11_1:deepT 0 3 (evB 11 [.int .i64 (.ofNat 1)]) = some eG1:=by kernel_rfl
theorem ev11_2:deepT 0 3 (evB 11 [.int .i64 (.ofNat 2)]) = some eG2:=by kernel_rfl
theorem ev11_3:deepT 0 3 (evB 11 [.int .i64 (.ofNat 3)]) = some eG3:=by kernel_rfl
theorem ev11_4:deepT 0 3 (evB 11 [.int .i64 (.ofNat 4)]) = some eG4:=by kernel_rfl
theorem ev11_5:deepT 0 3 (evB 11 [.int .i64 (.ofNat 5)]) = some eG5:=by kernel_rfl
theorem ev11_6:deepT 0 3 (evB 11 [.int .i64 (.ofNat 6)]) = some eG6:=by kernel_rfl
theorem ev11_7:deepT 0 3 (evB 11 [.int .i64 (.ofNat 7)]) = some eG7:=by kernel_rfl
theorem ev11_8:deepT 0 3 (evB 11 [.int .i64 (.ofNat 8)]) = some eG8:=by kernel_rfl
theorem ev11_9:deepT 0 3 (evB 11 [.int .i64 (.ofNat 9)]) = some eG9:=by kernel_rfl
theorem ev11_10:deepT 0 3 (evB 11 [.int .i64 (.ofNat 10)]) = some eG10:=by kernel_rfl
theorem ev11_11:deepT 0 3 (evB 11 [.int .i64 (.ofNat 11)]) = some eG11:=by kernel_rfl
theorem ev11_12:deepT 0 3 (evB 11 [.int .i64 (.ofNat 12)]) = some eG12:=by kernel_rfl
end Go.HzSM
