/- Made from wip. -/
import Derived.Test.YtkhedoaiejjcfaaGreatHzLDefx

set_option maxRecDepth 100000
set_option maxHeartbeats 0
namespace Go.HzLM
open Go Go.Sp Go.HzL Go.HpT Go.HtM Go.HyM
theorem ev25_1:deepT 0 2 (evU 25 [.int .i64 (.ofNat 1)]) = some (.tuple ⟨[.int .i64 (.ofNat 0),sv [1],.int .i64 (.ofNat 0)]⟩):=by kernel_rfl
theorem ev25_2:deepT 0 2 (evU 25 [.int .i64 (.ofNat 2)]) = some (.tuple ⟨[.int .i64 (.ofNat 0),sv [1,1],.int .i64 (.ofNat 0)]⟩):=by kernel_rfl
theorem ev25_3:deepT 0 2 (evU 25 [.int .i64 (.ofNat 3)]) = some (.tuple ⟨[.int .i64 (.ofNat 2),sv [1,1,1],.int .i64 (.ofNat 0)]⟩):=by kernel_rfl
theorem ev25_4:deepT 0 2 (evU 25 [.int .i64 (.ofNat 4)]) = some (.tuple ⟨[.int .i64 (.ofNat 2),sv [1,1,1,1],.int .i64 (.ofNat 0)]⟩):=by kernel_rfl
theorem ev25_5:deepT 0 2 (evU 25 [.int .i64 (.ofNat 5)]) = some (.tuple ⟨[.int .i64 (.ofNat 3),sv [1,1,1,1,1],.int .i64 (.ofNat 0)]⟩):=by kernel_rfl
theorem ev25_6:deepT 0 2 (evU 25 [.int .i64 (.ofNat 6)]) = some (.tuple ⟨[.int .i64 (.ofNat 6),sv [2,2,1,1],.int .i64 (.ofNat 0)]⟩):=by kernel_rfl
theorem ev25_7:deepT 0 2 (evU 25 [.int .i64 (.ofNat 7)]) = some (.tuple ⟨[.int .i64 (.ofNat 4),sv [1,1,1,1,1,1,1],.int .i64 (.ofNat 0)]⟩):=by kernel_rfl
theorem ev25_8:deepT 0 2 (evU 25 [.int .i64 (.ofNat 8)]) = some (.tuple ⟨[.int .i64 (.ofNat 5),sv [1,1,1,1,1,1,1,1],.int .i64 (.ofNat 0)]⟩):=by kernel_rfl
theorem ev25_9:deepT 0 2 (evU 25 [.int .i64 (.ofNat 9)]) = some (.tuple ⟨[.int .i64 (.ofNat 7),sv [3,2,2,1,1],.int .i64 (.ofNat 0)]⟩):=by kernel_rfl
theorem ev25_10:deepT 0 2 (evU 25 [.int .i64 (.ofNat 10)]) = some (.tuple ⟨[.int .i64 (.ofNat 12),sv [3,2,2,1,1,1],.int .i64 (.ofNat 0)]⟩):=by kernel_rfl
theorem ev25_11:deepT 0 2 (evU 25 [.int .i64 (.ofNat 11)]) = some (.tuple ⟨[.int .i64 (.ofNat 8),sv [3,2,2,2,1,1],.int .i64 (.ofNat 0)]⟩):=by kernel_rfl
end Go.HzLM
