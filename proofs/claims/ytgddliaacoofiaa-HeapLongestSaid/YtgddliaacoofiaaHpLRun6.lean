/- THE RUNS of the reference's Gardens, by the kernel. -/
import Derived.Test.YtgddliaacoofiaaHpLDefx

set_option maxRecDepth 100000
namespace Go.HpLM
open Go Go.Sp Go.HpL Go.HpT
theorem r35_1 : ev0 35 [.int .i64 (.ofNat 1)] = some (.tuple ⟨[.int .i64 (.ofNat 0), .int .i64 (.ofNat 0)]⟩) := by kernel_rfl
theorem r35_2 : ev0 35 [.int .i64 (.ofNat 2)] = some (.tuple ⟨[.int .i64 (.ofNat 0), .int .i64 (.ofNat 0)]⟩) := by kernel_rfl
theorem r35_3 : ev0 35 [.int .i64 (.ofNat 3)] = some (.tuple ⟨[.int .i64 (.ofNat 1), .int .i64 (.ofNat 0)]⟩) := by kernel_rfl
theorem r35_4 : ev0 35 [.int .i64 (.ofNat 4)] = some (.tuple ⟨[.int .i64 (.ofNat 1), .int .i64 (.ofNat 0)]⟩) := by kernel_rfl
theorem r35_5 : ev0 35 [.int .i64 (.ofNat 5)] = some (.tuple ⟨[.int .i64 (.ofNat 2), .int .i64 (.ofNat 0)]⟩) := by kernel_rfl
theorem r35_6 : ev0 35 [.int .i64 (.ofNat 6)] = some (.tuple ⟨[.int .i64 (.ofNat 3), .int .i64 (.ofNat 0)]⟩) := by kernel_rfl
theorem r35_7 : ev0 35 [.int .i64 (.ofNat 7)] = some (.tuple ⟨[.int .i64 (.ofNat 5), .int .i64 (.ofNat 0)]⟩) := by kernel_rfl
theorem r35_8 : ev0 35 [.int .i64 (.ofNat 8)] = some (.tuple ⟨[.int .i64 (.ofNat 7), .int .i64 (.ofNat 0)]⟩) := by kernel_rfl
theorem r35_9 : ev0 35 [.int .i64 (.ofNat 9)] = some (.tuple ⟨[.int .i64 (.ofNat 10), .int .i64 (.ofNat 0)]⟩) := by kernel_rfl
theorem r35_10 : ev0 35 [.int .i64 (.ofNat 10)] = some (.tuple ⟨[.int .i64 (.ofNat 14), .int .i64 (.ofNat 0)]⟩) := by kernel_rfl
theorem r35_11 : ev0 35 [.int .i64 (.ofNat 11)] = some (.tuple ⟨[.int .i64 (.ofNat 20), .int .i64 (.ofNat 0)]⟩) := by kernel_rfl
theorem r35_12 : ev0 35 [.int .i64 (.ofNat 12)] = some (.tuple ⟨[.int .i64 (.ofNat 27), .int .i64 (.ofNat 0)]⟩) := by kernel_rfl
theorem r35_13 : ev0 35 [.int .i64 (.ofNat 13)] = some (.tuple ⟨[.int .i64 (.ofNat 37), .int .i64 (.ofNat 0)]⟩) := by kernel_rfl
theorem r35_14 : ev0 35 [.int .i64 (.ofNat 14)] = some (.tuple ⟨[.int .i64 (.ofNat 49), .int .i64 (.ofNat 0)]⟩) := by kernel_rfl
end Go.HpLM
