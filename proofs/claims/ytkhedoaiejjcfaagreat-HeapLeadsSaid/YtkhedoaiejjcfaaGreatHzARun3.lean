/- Made from wip. -/
import Derived.Test.YtkhedoaiejjcfaaGreatHzADefx

set_option maxRecDepth 100000
set_option maxHeartbeats 0
namespace Go.HzAM
open Go Go.Sp Go.HzA Go.HpT Go.HtM Go.HyM
theorem ev20_1:deepT 0 2 (evB 20 [.int .i64 (.ofNat 1)]) = some (.tuple ⟨[.int .i64 (.ofNat 0),.int .i64 (.ofNat 0)]⟩):=by kernel_rfl
theorem ev20_2:deepT 0 2 (evB 20 [.int .i64 (.ofNat 2)]) = some (.tuple ⟨[.int .i64 (.ofNat 0),.int .i64 (.ofNat 0)]⟩):=by kernel_rfl
theorem ev20_3:deepT 0 2 (evB 20 [.int .i64 (.ofNat 3)]) = some (.tuple ⟨[.int .i64 (.ofNat 1),.int .i64 (.ofNat 0)]⟩):=by kernel_rfl
theorem ev20_4:deepT 0 2 (evB 20 [.int .i64 (.ofNat 4)]) = some (.tuple ⟨[.int .i64 (.ofNat 1),.int .i64 (.ofNat 0)]⟩):=by kernel_rfl
theorem ev20_5:deepT 0 2 (evB 20 [.int .i64 (.ofNat 5)]) = some (.tuple ⟨[.int .i64 (.ofNat 2),.int .i64 (.ofNat 0)]⟩):=by kernel_rfl
theorem ev20_6:deepT 0 2 (evB 20 [.int .i64 (.ofNat 6)]) = some (.tuple ⟨[.int .i64 (.ofNat 3),.int .i64 (.ofNat 0)]⟩):=by kernel_rfl
theorem ev20_7:deepT 0 2 (evB 20 [.int .i64 (.ofNat 7)]) = some (.tuple ⟨[.int .i64 (.ofNat 5),.int .i64 (.ofNat 0)]⟩):=by kernel_rfl
theorem ev20_8:deepT 0 2 (evB 20 [.int .i64 (.ofNat 8)]) = some (.tuple ⟨[.int .i64 (.ofNat 7),.int .i64 (.ofNat 0)]⟩):=by kernel_rfl
theorem ev20_9:deepT 0 2 (evB 20 [.int .i64 (.ofNat 9)]) = some (.tuple ⟨[.int .i64 (.ofNat 10),.int .i64 (.ofNat 0)]⟩):=by kernel_rfl
theorem ev20_10:deepT 0 2 (evB 20 [.int .i64 (.ofNat 10)]) = some (.tuple ⟨[.int .i64 (.ofNat 14),.int .i64 (.ofNat 0)]⟩):=by kernel_rfl
end Go.HzAM
