/- What the kernel sees of the models at all heaps of at most 21 cards: MADE BY PROGRAM (wip/hb/runs.py). -/
import Derived.Test.YthcmfnmmgejnaaaHpBLaw1x

set_option maxRecDepth 100000
set_option maxHeartbeats 0
namespace Go.HpBM
open Go Go.Sp Go.HpB Go.HpT
theorem seen_1 : allL seenB (pts 1 1 1) = true := by kernel_rfl
theorem asc_1 : ascT (pts 1 1 1) = true := by kernel_rfl
theorem seen_2 : allL seenB (pts 2 2 2) = true := by kernel_rfl
theorem asc_2 : ascT (pts 2 2 2) = true := by kernel_rfl
theorem seen_3 : allL seenB (pts 3 3 3) = true := by kernel_rfl
theorem asc_3 : ascT (pts 3 3 3) = true := by kernel_rfl
theorem seen_4 : allL seenB (pts 4 4 4) = true := by kernel_rfl
theorem asc_4 : ascT (pts 4 4 4) = true := by kernel_rfl
theorem seen_5 : allL seenB (pts 5 5 5) = true := by kernel_rfl
theorem asc_5 : ascT (pts 5 5 5) = true := by kernel_rfl
theorem seen_6 : allL seenB (pts 6 6 6) = true := by kernel_rfl
theorem asc_6 : ascT (pts 6 6 6) = true := by kernel_rfl
theorem seen_7 : allL seenB (pts 7 7 7) = true := by kernel_rfl
theorem asc_7 : ascT (pts 7 7 7) = true := by kernel_rfl
theorem seen_8 : allL seenB (pts 8 8 8) = true := by kernel_rfl
theorem asc_8 : ascT (pts 8 8 8) = true := by kernel_rfl
theorem seen_9 : allL seenB (pts 9 9 9) = true := by kernel_rfl
theorem asc_9 : ascT (pts 9 9 9) = true := by kernel_rfl
theorem seen_10 : allL seenB (pts 10 10 10) = true := by kernel_rfl
theorem asc_10 : ascT (pts 10 10 10) = true := by kernel_rfl
theorem seen_11 : allL seenB (pts 11 11 11) = true := by kernel_rfl
theorem asc_11 : ascT (pts 11 11 11) = true := by kernel_rfl
theorem seen_12 : allL seenB (pts 12 12 12) = true := by kernel_rfl
theorem asc_12 : ascT (pts 12 12 12) = true := by kernel_rfl
theorem seen_13 : allL seenB (pts 13 13 13) = true := by kernel_rfl
theorem asc_13 : ascT (pts 13 13 13) = true := by kernel_rfl
theorem seen_14 : allL seenB (pts 14 14 14) = true := by kernel_rfl
theorem asc_14 : ascT (pts 14 14 14) = true := by kernel_rfl
theorem seen_15 : allL seenB (pts 15 15 15) = true := by kernel_rfl
theorem asc_15 : ascT (pts 15 15 15) = true := by kernel_rfl
theorem seen_16 : allL seenB (pts 16 16 16) = true := by kernel_rfl
theorem asc_16 : ascT (pts 16 16 16) = true := by kernel_rfl
theorem seen_17 : allL seenB (pts 17 17 17) = true := by kernel_rfl
theorem asc_17 : ascT (pts 17 17 17) = true := by kernel_rfl
theorem seen_18 : allL seenB (pts 18 18 18) = true := by kernel_rfl
theorem asc_18 : ascT (pts 18 18 18) = true := by kernel_rfl
theorem seen_19 : allL seenB (pts 19 19 19) = true := by kernel_rfl
theorem asc_19 : ascT (pts 19 19 19) = true := by kernel_rfl
theorem seen_20 : allL seenB (pts 20 20 20) = true := by kernel_rfl
theorem asc_20 : ascT (pts 20 20 20) = true := by kernel_rfl
theorem seen_21 : allL seenB (pts 21 21 21) = true := by kernel_rfl
theorem asc_21 : ascT (pts 21 21 21) = true := by kernel_rfl
theorem few_all : allL (fun l => allL (fun m => Nat.ble (len (pts 21 l m)) 900) (rngT 22)) (rngT 22) = true := by kernel_rfl
end Go.HpBM
