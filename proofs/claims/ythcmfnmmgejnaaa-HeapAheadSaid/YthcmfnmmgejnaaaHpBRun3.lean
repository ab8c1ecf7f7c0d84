/- What the kernel sees of the models at all heaps of at most 21 cards: MADE BY PROGRAM (wip/hb/runs.py). -/
import Derived.Test.YthcmfnmmgejnaaaHpBLaw1x

set_option maxRecDepth 100000
set_option maxHeartbeats 0
namespace Go.HpBM
open Go Go.Sp Go.HpB Go.HpT
theorem e28_1 (n : Nat) : mapL (fun p => puN (n + 12) 28 [cv p]) (pts 1 1 1) = mapL (fun p => some (llV (aheadT p))) (pts 1 1 1) := by kernel_rfl
theorem e28_2 (n : Nat) : mapL (fun p => puN (n + 12) 28 [cv p]) (pts 2 2 2) = mapL (fun p => some (llV (aheadT p))) (pts 2 2 2) := by kernel_rfl
theorem e28_3 (n : Nat) : mapL (fun p => puN (n + 12) 28 [cv p]) (pts 3 3 3) = mapL (fun p => some (llV (aheadT p))) (pts 3 3 3) := by kernel_rfl
theorem e28_4 (n : Nat) : mapL (fun p => puN (n + 12) 28 [cv p]) (pts 4 4 4) = mapL (fun p => some (llV (aheadT p))) (pts 4 4 4) := by kernel_rfl
theorem e28_5 (n : Nat) : mapL (fun p => puN (n + 12) 28 [cv p]) (pts 5 5 5) = mapL (fun p => some (llV (aheadT p))) (pts 5 5 5) := by kernel_rfl
theorem e28_6 (n : Nat) : mapL (fun p => puN (n + 12) 28 [cv p]) (pts 6 6 6) = mapL (fun p => some (llV (aheadT p))) (pts 6 6 6) := by kernel_rfl
theorem e28_7 (n : Nat) : mapL (fun p => puN (n + 12) 28 [cv p]) (pts 7 7 7) = mapL (fun p => some (llV (aheadT p))) (pts 7 7 7) := by kernel_rfl
theorem e28_8 (n : Nat) : mapL (fun p => puN (n + 12) 28 [cv p]) (pts 8 8 8) = mapL (fun p => some (llV (aheadT p))) (pts 8 8 8) := by kernel_rfl
theorem e28_9 (n : Nat) : mapL (fun p => puN (n + 12) 28 [cv p]) (pts 9 9 9) = mapL (fun p => some (llV (aheadT p))) (pts 9 9 9) := by kernel_rfl
theorem e28_10 (n : Nat) : mapL (fun p => puN (n + 12) 28 [cv p]) (pts 10 10 10) = mapL (fun p => some (llV (aheadT p))) (pts 10 10 10) := by kernel_rfl
theorem e28_11 (n : Nat) : mapL (fun p => puN (n + 12) 28 [cv p]) (pts 11 11 11) = mapL (fun p => some (llV (aheadT p))) (pts 11 11 11) := by kernel_rfl
theorem e28_12 (n : Nat) : mapL (fun p => puN (n + 12) 28 [cv p]) (pts 12 12 12) = mapL (fun p => some (llV (aheadT p))) (pts 12 12 12) := by kernel_rfl
theorem e28_13 (n : Nat) : mapL (fun p => puN (n + 12) 28 [cv p]) (pts 13 13 13) = mapL (fun p => some (llV (aheadT p))) (pts 13 13 13) := by kernel_rfl
theorem e28_14 (n : Nat) : mapL (fun p => puN (n + 12) 28 [cv p]) (pts 14 14 14) = mapL (fun p => some (llV (aheadT p))) (pts 14 14 14) := by kernel_rfl
theorem e28_15 (n : Nat) : mapL (fun p => puN (n + 12) 28 [cv p]) (pts 15 15 15) = mapL (fun p => some (llV (aheadT p))) (pts 15 15 15) := by kernel_rfl
theorem e28_16 (n : Nat) : mapL (fun p => puN (n + 12) 28 [cv p]) (pts 16 16 16) = mapL (fun p => some (llV (aheadT p))) (pts 16 16 16) := by kernel_rfl
theorem e28_17 (n : Nat) : mapL (fun p => puN (n + 12) 28 [cv p]) (pts 17 17 17) = mapL (fun p => some (llV (aheadT p))) (pts 17 17 17) := by kernel_rfl
theorem e28_18 (n : Nat) : mapL (fun p => puN (n + 12) 28 [cv p]) (pts 18 18 18) = mapL (fun p => some (llV (aheadT p))) (pts 18 18 18) := by kernel_rfl
end Go.HpBM
