/- THE RUNS of Gardens, by the kernel. -/
import Derived.Test.YtgddliaacoofiaaHpLDefx

set_option maxRecDepth 100000
namespace Go.HpLM
open Go Go.Sp Go.HpL Go.HpT
theorem r34_1 : ev0 34 [.int .i64 (.ofNat 1)] = some (.tuple ⟨[.int .i64 (.ofNat 0), .int .i64 (.ofNat 0)]⟩) := by kernel_rfl
theorem r34_2 : ev0 34 [.int .i64 (.ofNat 2)] = some (.tuple ⟨[.int .i64 (.ofNat 0), .int .i64 (.ofNat 0)]⟩) := by kernel_rfl
theorem r34_3 : ev0 34 [.int .i64 (.ofNat 3)] = some (.tuple ⟨[.int .i64 (.ofNat 1), .int .i64 (.ofNat 0)]⟩) := by kernel_rfl
theorem r34_4 : ev0 34 [.int .i64 (.ofNat 4)] = some (.tuple ⟨[.int .i64 (.ofNat 1), .int .i64 (.ofNat 0)]⟩) := by kernel_rfl
theorem r34_5 : ev0 34 [.int .i64 (.ofNat 5)] = some (.tuple ⟨[.int .i64 (.ofNat 2), .int .i64 (.ofNat 0)]⟩) := by kernel_rfl
theorem r34_6 : ev0 34 [.int .i64 (.ofNat 6)] = some (.tuple ⟨[.int .i64 (.ofNat 3), .int .i64 (.ofNat 0)]⟩) := by kernel_rfl
theorem r34_7 : ev0 34 [.int .i64 (.ofNat 7)] = some (.tuple ⟨[.int .i64 (.ofNat 5), .int .i64 (.ofNat 0)]⟩) := by kernel_rfl
theorem r34_8 : ev0 34 [.int .i64 (.ofNat 8)] = some (.tuple ⟨[.int .i64 (.ofNat 7), .int .i64 (.ofNat 0)]⟩) := by kernel_rfl
theorem r34_9 : ev0 34 [.int .i64 (.ofNat 9)] = some (.tuple ⟨[.int .i64 (.ofNat 10), .int .i64 (.ofNat 0)]⟩) := by kernel_rfl
theorem r34_10 : ev0 34 [.int .i64 (.ofNat 10)] = some (.tuple ⟨[.int .i64 (.ofNat 14), .int .i64 (.ofNat 0)]⟩) := by kernel_rfl
theorem r34_11 : ev0 34 [.int .i64 (.ofNat 11)] = some (.tuple ⟨[.int .i64 (.ofNat 20), .int .i64 (.ofNat 0)]⟩) := by kernel_rfl
theorem r34_12 : ev0 34 [.int .i64 (.ofNat 12)] = some (.tuple ⟨[.int .i64 (.ofNat 27), .int .i64 (.ofNat 0)]⟩) := by kernel_rfl
theorem r34_13 : ev0 34 [.int .i64 (.ofNat 13)] = some (.tuple ⟨[.int .i64 (.ofNat 37), .int .i64 (.ofNat 0)]⟩) := by kernel_rfl
theorem r34_14 : ev0 34 [.int .i64 (.ofNat 14)] = some (.tuple ⟨[.int .i64 (.ofNat 49), .int .i64 (.ofNat 0)]⟩) := by kernel_rfl
end Go.HpLM
