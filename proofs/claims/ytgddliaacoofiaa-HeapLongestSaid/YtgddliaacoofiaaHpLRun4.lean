/- THE RUNS of 'until', by the kernel. -/
import Derived.Test.YtgddliaacoofiaaHpLDefx

set_option maxRecDepth 100000
namespace Go.HpLM
open Go Go.Sp Go.HpL Go.HpT
theorem t57_1 : allL chk57 (pts 1 1 1) = true := by kernel_rfl
theorem t57_2 : allL chk57 (pts 2 2 2) = true := by kernel_rfl
theorem t57_3 : allL chk57 (pts 3 3 3) = true := by kernel_rfl
theorem t57_4 : allL chk57 (pts 4 4 4) = true := by kernel_rfl
theorem t57_5 : allL chk57 (pts 5 5 5) = true := by kernel_rfl
theorem t57_6 : allL chk57 (pts 6 6 6) = true := by kernel_rfl
theorem t57_7 : allL chk57 (pts 7 7 7) = true := by kernel_rfl
theorem t57_8 : allL chk57 (pts 8 8 8) = true := by kernel_rfl
theorem t57_9 : allL chk57 (pts 9 9 9) = true := by kernel_rfl
theorem t57_10 : allL chk57 (pts 10 10 10) = true := by kernel_rfl
theorem t57_11 : allL chk57 (pts 11 11 11) = true := by kernel_rfl
theorem t57_12 : allL chk57 (pts 12 12 12) = true := by kernel_rfl
theorem t57_13 : allL chk57 (pts 13 13 13) = true := by kernel_rfl
theorem t57_14 : allL chk57 (pts 14 14 14) = true := by kernel_rfl
end Go.HpLM
