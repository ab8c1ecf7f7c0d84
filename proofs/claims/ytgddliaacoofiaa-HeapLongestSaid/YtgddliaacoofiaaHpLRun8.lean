/- THE RUNS of the law HeapLongest at numbers of cards, by the kernel. -/
import Derived.Test.YtgddliaacoofiaaHpLDef2x

set_option maxRecDepth 100000
namespace Go.HpLM
open Go Go.Sp Go.HpL Go.HpT
theorem run7_0 : ev3 7 [.int .i64 (.ofNat 0)] = some (.bool true) := by kernel_rfl
theorem run7_1 : ev3 7 [.int .i64 (.ofNat 1)] = some (.bool true) := by kernel_rfl
theorem run7_2 : ev3 7 [.int .i64 (.ofNat 2)] = some (.bool true) := by kernel_rfl
theorem run7_3 : ev3 7 [.int .i64 (.ofNat 3)] = some (.bool true) := by kernel_rfl
theorem run7_4 : ev3 7 [.int .i64 (.ofNat 4)] = some (.bool true) := by kernel_rfl
theorem run7_5 : ev3 7 [.int .i64 (.ofNat 5)] = some (.bool true) := by kernel_rfl
theorem run7_6 : ev3 7 [.int .i64 (.ofNat 6)] = some (.bool true) := by kernel_rfl
theorem run7_7 : ev3 7 [.int .i64 (.ofNat 7)] = some (.bool true) := by kernel_rfl
theorem run7_8 : ev3 7 [.int .i64 (.ofNat 8)] = some (.bool true) := by kernel_rfl
theorem run7_9 : ev3 7 [.int .i64 (.ofNat 9)] = some (.bool true) := by kernel_rfl
theorem run7_10 : ev3 7 [.int .i64 (.ofNat 10)] = some (.bool true) := by kernel_rfl
theorem run7_11 : ev3 7 [.int .i64 (.ofNat 11)] = some (.bool true) := by kernel_rfl
theorem run7_12 : ev3 7 [.int .i64 (.ofNat 12)] = some (.bool true) := by kernel_rfl
theorem run7_13 : ev3 7 [.int .i64 (.ofNat 13)] = some (.bool true) := by kernel_rfl
theorem run7_14 : ev3 7 [.int .i64 (.ofNat 14)] = some (.bool true) := by kernel_rfl
theorem run7_15 : ev3 7 [.int .i64 (.ofNat 15)] = some (.bool true) := by kernel_rfl
theorem run7_16 : ev3 7 [.int .i64 (.ofNat 16)] = some (.bool true) := by kernel_rfl
theorem run7_17 : ev3 7 [.int .i64 (.ofNat 17)] = some (.bool true) := by kernel_rfl
theorem run7_18 : ev3 7 [.int .i64 (.ofNat 18)] = some (.bool true) := by kernel_rfl
theorem run7_19 : ev3 7 [.int .i64 (.ofNat 19)] = some (.bool true) := by kernel_rfl
theorem run7_20 : ev3 7 [.int .i64 (.ofNat 20)] = some (.bool true) := by kernel_rfl
theorem run7_21 : ev3 7 [.int .i64 (.ofNat 21)] = some (.bool true) := by kernel_rfl
theorem run7_big (m : Nat) : ev3 7 [.int .i64 (.ofNat (m + 22))] = some (.bool true) := by kernel_rfl
theorem run7_neg0 : ev3 7 [.int .i64 (.negSucc 0)] = some (.bool true) := by kernel_rfl
theorem run7_neg (m : Nat) : ev3 7 [.int .i64 (.negSucc (m + 1))] = some (.bool true) := by kernel_rfl
end Go.HpLM
