/- What the kernel sees of the models at all heaps of at most 21 cards: MADE BY PROGRAM (wip/hb/runs.py). -/
import Derived.Test.YthcmfnmmgejnaaaHpBLaw1x

set_option maxRecDepth 100000
set_option maxHeartbeats 0
namespace Go.HpBM
open Go Go.Sp Go.HpB Go.HpT
theorem e27_1 (n : Nat) : mapL (fun p => puN (n + 12) 27 [sv p]) (pts 1 1 1) = mapL (fun p => some (cv p)) (pts 1 1 1) := by kernel_rfl
theorem e27_2 (n : Nat) : mapL (fun p => puN (n + 12) 27 [sv p]) (pts 2 2 2) = mapL (fun p => some (cv p)) (pts 2 2 2) := by kernel_rfl
theorem e27_3 (n : Nat) : mapL (fun p => puN (n + 12) 27 [sv p]) (pts 3 3 3) = mapL (fun p => some (cv p)) (pts 3 3 3) := by kernel_rfl
theorem e27_4 (n : Nat) : mapL (fun p => puN (n + 12) 27 [sv p]) (pts 4 4 4) = mapL (fun p => some (cv p)) (pts 4 4 4) := by kernel_rfl
theorem e27_5 (n : Nat) : mapL (fun p => puN (n + 12) 27 [sv p]) (pts 5 5 5) = mapL (fun p => some (cv p)) (pts 5 5 5) := by kernel_rfl
theorem e27_6 (n : Nat) : mapL (fun p => puN (n + 12) 27 [sv p]) (pts 6 6 6) = mapL (fun p => some (cv p)) (pts 6 6 6) := by kernel_rfl
theorem e27_7 (n : Nat) : mapL (fun p => puN (n + 12) 27 [sv p]) (pts 7 7 7) = mapL (fun p => some (cv p)) (pts 7 7 7) := by kernel_rfl
theorem e27_8 (n : Nat) : mapL (fun p => puN (n + 12) 27 [sv p]) (pts 8 8 8) = mapL (fun p => some (cv p)) (pts 8 8 8) := by kernel_rfl
theorem e27_9 (n : Nat) : mapL (fun p => puN (n + 12) 27 [sv p]) (pts 9 9 9) = mapL (fun p => some (cv p)) (pts 9 9 9) := by kernel_rfl
theorem e27_10 (n : Nat) : mapL (fun p => puN (n + 12) 27 [sv p]) (pts 10 10 10) = mapL (fun p => some (cv p)) (pts 10 10 10) := by kernel_rfl
theorem e27_11 (n : Nat) : mapL (fun p => puN (n + 12) 27 [sv p]) (pts 11 11 11) = mapL (fun p => some (cv p)) (pts 11 11 11) := by kernel_rfl
theorem e27_12 (n : Nat) : mapL (fun p => puN (n + 12) 27 [sv p]) (pts 12 12 12) = mapL (fun p => some (cv p)) (pts 12 12 12) := by kernel_rfl
theorem e27_13 (n : Nat) : mapL (fun p => puN (n + 12) 27 [sv p]) (pts 13 13 13) = mapL (fun p => some (cv p)) (pts 13 13 13) := by kernel_rfl
theorem e27_14 (n : Nat) : mapL (fun p => puN (n + 12) 27 [sv p]) (pts 14 14 14) = mapL (fun p => some (cv p)) (pts 14 14 14) := by kernel_rfl
theorem e27_15 (n : Nat) : mapL (fun p => puN (n + 12) 27 [sv p]) (pts 15 15 15) = mapL (fun p => some (cv p)) (pts 15 15 15) := by kernel_rfl
theorem e27_16 (n : Nat) : mapL (fun p => puN (n + 12) 27 [sv p]) (pts 16 16 16) = mapL (fun p => some (cv p)) (pts 16 16 16) := by kernel_rfl
theorem e27_17 (n : Nat) : mapL (fun p => puN (n + 12) 27 [sv p]) (pts 17 17 17) = mapL (fun p => some (cv p)) (pts 17 17 17) := by kernel_rfl
theorem e27_18 (n : Nat) : mapL (fun p => puN (n + 12) 27 [sv p]) (pts 18 18 18) = mapL (fun p => some (cv p)) (pts 18 18 18) := by kernel_rfl
theorem e27_19 (n : Nat) : mapL (fun p => puN (n + 12) 27 [sv p]) (pts 19 19 19) = mapL (fun p => some (cv p)) (pts 19 19 19) := by kernel_rfl
theorem e27_20 (n : Nat) : mapL (fun p => puN (n + 12) 27 [sv p]) (pts 20 20 20) = mapL (fun p => some (cv p)) (pts 20 20 20) := by kernel_rfl
theorem e27_21 (n : Nat) : mapL (fun p => puN (n + 12) 27 [sv p]) (pts 21 21 21) = mapL (fun p => some (cv p)) (pts 21 21 21) := by kernel_rfl
theorem e33_1 (n : Nat) : mapL (fun p => puN (n + 12) 33 [sv p]) (pts 1 1 1) = mapL (fun p => some (sv (rnd p))) (pts 1 1 1) := by kernel_rfl
theorem e33_2 (n : Nat) : mapL (fun p => puN (n + 12) 33 [sv p]) (pts 2 2 2) = mapL (fun p => some (sv (rnd p))) (pts 2 2 2) := by kernel_rfl
theorem e33_3 (n : Nat) : mapL (fun p => puN (n + 12) 33 [sv p]) (pts 3 3 3) = mapL (fun p => some (sv (rnd p))) (pts 3 3 3) := by kernel_rfl
theorem e33_4 (n : Nat) : mapL (fun p => puN (n + 12) 33 [sv p]) (pts 4 4 4) = mapL (fun p => some (sv (rnd p))) (pts 4 4 4) := by kernel_rfl
theorem e33_5 (n : Nat) : mapL (fun p => puN (n + 12) 33 [sv p]) (pts 5 5 5) = mapL (fun p => some (sv (rnd p))) (pts 5 5 5) := by kernel_rfl
theorem e33_6 (n : Nat) : mapL (fun p => puN (n + 12) 33 [sv p]) (pts 6 6 6) = mapL (fun p => some (sv (rnd p))) (pts 6 6 6) := by kernel_rfl
theorem e33_7 (n : Nat) : mapL (fun p => puN (n + 12) 33 [sv p]) (pts 7 7 7) = mapL (fun p => some (sv (rnd p))) (pts 7 7 7) := by kernel_rfl
theorem e33_8 (n : Nat) : mapL (fun p => puN (n + 12) 33 [sv p]) (pts 8 8 8) = mapL (fun p => some (sv (rnd p))) (pts 8 8 8) := by kernel_rfl
theorem e33_9 (n : Nat) : mapL (fun p => puN (n + 12) 33 [sv p]) (pts 9 9 9) = mapL (fun p => some (sv (rnd p))) (pts 9 9 9) := by kernel_rfl
theorem e33_10 (n : Nat) : mapL (fun p => puN (n + 12) 33 [sv p]) (pts 10 10 10) = mapL (fun p => some (sv (rnd p))) (pts 10 10 10) := by kernel_rfl
theorem e33_11 (n : Nat) : mapL (fun p => puN (n + 12) 33 [sv p]) (pts 11 11 11) = mapL (fun p => some (sv (rnd p))) (pts 11 11 11) := by kernel_rfl
theorem e33_12 (n : Nat) : mapL (fun p => puN (n + 12) 33 [sv p]) (pts 12 12 12) = mapL (fun p => some (sv (rnd p))) (pts 12 12 12) := by kernel_rfl
theorem e33_13 (n : Nat) : mapL (fun p => puN (n + 12) 33 [sv p]) (pts 13 13 13) = mapL (fun p => some (sv (rnd p))) (pts 13 13 13) := by kernel_rfl
theorem e33_14 (n : Nat) : mapL (fun p => puN (n + 12) 33 [sv p]) (pts 14 14 14) = mapL (fun p => some (sv (rnd p))) (pts 14 14 14) := by kernel_rfl
theorem e33_15 (n : Nat) : mapL (fun p => puN (n + 12) 33 [sv p]) (pts 15 15 15) = mapL (fun p => some (sv (rnd p))) (pts 15 15 15) := by kernel_rfl
theorem e33_16 (n : Nat) : mapL (fun p => puN (n + 12) 33 [sv p]) (pts 16 16 16) = mapL (fun p => some (sv (rnd p))) (pts 16 16 16) := by kernel_rfl
theorem e33_17 (n : Nat) : mapL (fun p => puN (n + 12) 33 [sv p]) (pts 17 17 17) = mapL (fun p => some (sv (rnd p))) (pts 17 17 17) := by kernel_rfl
theorem e33_18 (n : Nat) : mapL (fun p => puN (n + 12) 33 [sv p]) (pts 18 18 18) = mapL (fun p => some (sv (rnd p))) (pts 18 18 18) := by kernel_rfl
theorem e33_19 (n : Nat) : mapL (fun p => puN (n + 12) 33 [sv p]) (pts 19 19 19) = mapL (fun p => some (sv (rnd p))) (pts 19 19 19) := by kernel_rfl
theorem e33_20 (n : Nat) : mapL (fun p => puN (n + 12) 33 [sv p]) (pts 20 20 20) = mapL (fun p => some (sv (rnd p))) (pts 20 20 20) := by kernel_rfl
theorem e33_21 (n : Nat) : mapL (fun p => puN (n + 12) 33 [sv p]) (pts 21 21 21) = mapL (fun p => some (sv (rnd p))) (pts 21 21 21) := by kernel_rfl
end Go.HpBM
