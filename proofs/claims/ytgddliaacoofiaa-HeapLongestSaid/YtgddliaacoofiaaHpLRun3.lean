/- THE RUNS of the reference's 'until', by the kernel. -/
import Derived.Test.YtgddliaacoofiaaHpLDef2x

set_option maxRecDepth 100000
namespace Go.HpLM
open Go Go.Sp Go.HpL Go.HpT
theorem t58_1 : allL chkT58 (pts 1 1 1) = true := by kernel_rfl
theorem t58_2 : allL chkT58 (pts 2 2 2) = true := by kernel_rfl
theorem t58_3 : allL chkT58 (pts 3 3 3) = true := by kernel_rfl
theorem t58_4 : allL chkT58 (pts 4 4 4) = true := by kernel_rfl
theorem t58_5 : allL chkT58 (pts 5 5 5) = true := by kernel_rfl
theorem t58_6 : allL chkT58 (pts 6 6 6) = true := by kernel_rfl
theorem t58_7 : allL chkT58 (pts 7 7 7) = true := by kernel_rfl
theorem t58_8 : allL chkT58 (pts 8 8 8) = true := by kernel_rfl
theorem t58_9 : allL chkT58 (pts 9 9 9) = true := by kernel_rfl
theorem t58_10 : allL chkT58 (pts 10 10 10) = true := by kernel_rfl
theorem t58_11 : allL chkT58 (pts 11 11 11) = true := by kernel_rfl
theorem t58_12 : allL chkT58 (pts 12 12 12) = true := by kernel_rfl
theorem t58_13 : allL chkT58 (pts 13 13 13) = true := by kernel_rfl
theorem t58_14_1 : allL chkT58 (mapL (fun p => 1 :: p) (pts 13 (14 - 1) 1)) = true := by kernel_rfl
theorem t58_14_2 : allL chkT58 (mapL (fun p => 2 :: p) (pts 13 (14 - 2) 2)) = true := by kernel_rfl
theorem t58_14_3 : allL chkT58 (mapL (fun p => 3 :: p) (pts 13 (14 - 3) 3)) = true := by kernel_rfl
theorem t58_14_4 : allL chkT58 (mapL (fun p => 4 :: p) (pts 13 (14 - 4) 4)) = true := by kernel_rfl
theorem t58_14_5 : allL chkT58 (mapL (fun p => 5 :: p) (pts 13 (14 - 5) 5)) = true := by kernel_rfl
theorem t58_14_6 : allL chkT58 (mapL (fun p => 6 :: p) (pts 13 (14 - 6) 6)) = true := by kernel_rfl
theorem t58_14_7 : allL chkT58 (mapL (fun p => 7 :: p) (pts 13 (14 - 7) 7)) = true := by kernel_rfl
theorem t58_14_8 : allL chkT58 (mapL (fun p => 8 :: p) (pts 13 (14 - 8) 8)) = true := by kernel_rfl
theorem t58_14_9 : allL chkT58 (mapL (fun p => 9 :: p) (pts 13 (14 - 9) 9)) = true := by kernel_rfl
theorem t58_14_10 : allL chkT58 (mapL (fun p => 10 :: p) (pts 13 (14 - 10) 10)) = true := by kernel_rfl
theorem t58_14_11 : allL chkT58 (mapL (fun p => 11 :: p) (pts 13 (14 - 11) 11)) = true := by kernel_rfl
theorem t58_14_12 : allL chkT58 (mapL (fun p => 12 :: p) (pts 13 (14 - 12) 12)) = true := by kernel_rfl
theorem t58_14_13 : allL chkT58 (mapL (fun p => 13 :: p) (pts 13 (14 - 13) 13)) = true := by kernel_rfl
theorem t58_14_14 : allL chkT58 (mapL (fun p => 14 :: p) (pts 13 (14 - 14) 14)) = true := by kernel_rfl
end Go.HpLM
