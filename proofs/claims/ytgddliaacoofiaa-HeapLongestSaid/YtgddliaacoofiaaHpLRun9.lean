/- THE RUNS of the reference's Longest, by the kernel. -/
import Derived.Test.YtgddliaacoofiaaHpLDef2x

set_option maxRecDepth 100000
namespace Go.HpLM
open Go Go.Sp Go.HpL Go.HpT
theorem r37_1 : ev2t 37 [.int .i64 (.ofNat 1)] = some (longV (0, [1])) := by kernel_rfl
theorem r37_2 : ev2t 37 [.int .i64 (.ofNat 2)] = some (longV (0, [1, 1])) := by kernel_rfl
theorem r37_3 : ev2t 37 [.int .i64 (.ofNat 3)] = some (longV (2, [1, 1, 1])) := by kernel_rfl
theorem r37_4 : ev2t 37 [.int .i64 (.ofNat 4)] = some (longV (2, [1, 1, 1, 1])) := by kernel_rfl
theorem r37_5 : ev2t 37 [.int .i64 (.ofNat 5)] = some (longV (3, [1, 1, 1, 1, 1])) := by kernel_rfl
theorem r37_6 : ev2t 37 [.int .i64 (.ofNat 6)] = some (longV (6, [2, 2, 1, 1])) := by kernel_rfl
theorem r37_7 : ev2t 37 [.int .i64 (.ofNat 7)] = some (longV (4, [1, 1, 1, 1, 1, 1, 1])) := by kernel_rfl
theorem r37_8 : ev2t 37 [.int .i64 (.ofNat 8)] = some (longV (5, [1, 1, 1, 1, 1, 1, 1, 1])) := by kernel_rfl
theorem r37_9 : ev2t 37 [.int .i64 (.ofNat 9)] = some (longV (7, [3, 2, 2, 1, 1])) := by kernel_rfl
theorem r37_10 : ev2t 37 [.int .i64 (.ofNat 10)] = some (longV (12, [3, 2, 2, 1, 1, 1])) := by kernel_rfl
theorem r37_11 : ev2t 37 [.int .i64 (.ofNat 11)] = some (longV (8, [3, 2, 2, 2, 1, 1])) := by kernel_rfl
theorem r37_12 : ev2t 37 [.int .i64 (.ofNat 12)] = some (longV (8, [1, 1, 1, 1, 1, 1, 1, 1, 1, 1, 1, 1])) := by kernel_rfl
theorem r37_13 : ev2t 37 [.int .i64 (.ofNat 13)] = some (longV (9, [1, 1, 1, 1, 1, 1, 1, 1, 1, 1, 1, 1, 1])) := by kernel_rfl
end Go.HpLM
