/- What the kernel sees of the models at all heaps of at most 21 cards: MADE BY PROGRAM (wip/hr/runs.py). -/
import Derived.Test.YtjjcahbfhfngdaaHpRLaw1x

set_option maxRecDepth 100000
set_option maxHeartbeats 0
namespace Go.HpRM
open Go Go.Sp Go.HpR Go.HpT
theorem seen_1 : allL seen (pts 1 1 1) = true := by kernel_rfl
theorem seen_2 : allL seen (pts 2 2 2) = true := by kernel_rfl
theorem seen_3 : allL seen (pts 3 3 3) = true := by kernel_rfl
theorem seen_4 : allL seen (pts 4 4 4) = true := by kernel_rfl
theorem seen_5 : allL seen (pts 5 5 5) = true := by kernel_rfl
theorem seen_6 : allL seen (pts 6 6 6) = true := by kernel_rfl
theorem seen_7 : allL seen (pts 7 7 7) = true := by kernel_rfl
theorem seen_8 : allL seen (pts 8 8 8) = true := by kernel_rfl
theorem seen_9 : allL seen (pts 9 9 9) = true := by kernel_rfl
theorem seen_10 : allL seen (pts 10 10 10) = true := by kernel_rfl
theorem seen_11 : allL seen (pts 11 11 11) = true := by kernel_rfl
theorem seen_12 : allL seen (pts 12 12 12) = true := by kernel_rfl
theorem seen_13 : allL seen (pts 13 13 13) = true := by kernel_rfl
theorem seen_14 : allL seen (pts 14 14 14) = true := by kernel_rfl
theorem seen_15 : allL seen (pts 15 15 15) = true := by kernel_rfl
theorem seen_16 : allL seen (pts 16 16 16) = true := by kernel_rfl
theorem seen_17 : allL seen (pts 17 17 17) = true := by kernel_rfl
theorem seen_18 : allL seen (pts 18 18 18) = true := by kernel_rfl
theorem seen_19 : allL seen (pts 19 19 19) = true := by kernel_rfl
theorem seen_20 : allL seen (pts 20 20 20) = true := by kernel_rfl
theorem seen_21 : allL seen (pts 21 21 21) = true := by kernel_rfl
theorem ring_1 (n : Nat) : mapL (fun p => ringN (puN (n + 6) 39 [sv p])) (retP 1) = mapL (fun p => some (perT p)) (retP 1) := by kernel_rfl
theorem per_1 : allL (fun p => an (Nat.ble 1 (perT p)) (eqP (iter (perT p) p) p)) (retP 1) = true := by kernel_rfl
theorem back_1 (n : Nat) : mapL (fun p => puN (n + 6) 38 [sv p]) (retP 1) = mapL (fun p => some (.bool true)) (retP 1) := by kernel_rfl
theorem ring_2 (n : Nat) : mapL (fun p => ringN (puN (n + 6) 39 [sv p])) (retP 2) = mapL (fun p => some (perT p)) (retP 2) := by kernel_rfl
theorem per_2 : allL (fun p => an (Nat.ble 1 (perT p)) (eqP (iter (perT p) p) p)) (retP 2) = true := by kernel_rfl
theorem back_2 (n : Nat) : mapL (fun p => puN (n + 6) 38 [sv p]) (retP 2) = mapL (fun p => some (.bool true)) (retP 2) := by kernel_rfl
theorem ring_3 (n : Nat) : mapL (fun p => ringN (puN (n + 6) 39 [sv p])) (retP 3) = mapL (fun p => some (perT p)) (retP 3) := by kernel_rfl
theorem per_3 : allL (fun p => an (Nat.ble 1 (perT p)) (eqP (iter (perT p) p) p)) (retP 3) = true := by kernel_rfl
theorem back_3 (n : Nat) : mapL (fun p => puN (n + 6) 38 [sv p]) (retP 3) = mapL (fun p => some (.bool true)) (retP 3) := by kernel_rfl
theorem ring_4 (n : Nat) : mapL (fun p => ringN (puN (n + 6) 39 [sv p])) (retP 4) = mapL (fun p => some (perT p)) (retP 4) := by kernel_rfl
theorem per_4 : allL (fun p => an (Nat.ble 1 (perT p)) (eqP (iter (perT p) p) p)) (retP 4) = true := by kernel_rfl
theorem back_4 (n : Nat) : mapL (fun p => puN (n + 6) 38 [sv p]) (retP 4) = mapL (fun p => some (.bool true)) (retP 4) := by kernel_rfl
theorem ring_5 (n : Nat) : mapL (fun p => ringN (puN (n + 6) 39 [sv p])) (retP 5) = mapL (fun p => some (perT p)) (retP 5) := by kernel_rfl
theorem per_5 : allL (fun p => an (Nat.ble 1 (perT p)) (eqP (iter (perT p) p) p)) (retP 5) = true := by kernel_rfl
theorem back_5 (n : Nat) : mapL (fun p => puN (n + 6) 38 [sv p]) (retP 5) = mapL (fun p => some (.bool true)) (retP 5) := by kernel_rfl
theorem ring_6 (n : Nat) : mapL (fun p => ringN (puN (n + 6) 39 [sv p])) (retP 6) = mapL (fun p => some (perT p)) (retP 6) := by kernel_rfl
theorem per_6 : allL (fun p => an (Nat.ble 1 (perT p)) (eqP (iter (perT p) p) p)) (retP 6) = true := by kernel_rfl
theorem back_6 (n : Nat) : mapL (fun p => puN (n + 6) 38 [sv p]) (retP 6) = mapL (fun p => some (.bool true)) (retP 6) := by kernel_rfl
theorem ring_7 (n : Nat) : mapL (fun p => ringN (puN (n + 6) 39 [sv p])) (retP 7) = mapL (fun p => some (perT p)) (retP 7) := by kernel_rfl
theorem per_7 : allL (fun p => an (Nat.ble 1 (perT p)) (eqP (iter (perT p) p) p)) (retP 7) = true := by kernel_rfl
theorem back_7 (n : Nat) : mapL (fun p => puN (n + 6) 38 [sv p]) (retP 7) = mapL (fun p => some (.bool true)) (retP 7) := by kernel_rfl
theorem ring_8 (n : Nat) : mapL (fun p => ringN (puN (n + 6) 39 [sv p])) (retP 8) = mapL (fun p => some (perT p)) (retP 8) := by kernel_rfl
theorem per_8 : allL (fun p => an (Nat.ble 1 (perT p)) (eqP (iter (perT p) p) p)) (retP 8) = true := by kernel_rfl
theorem back_8 (n : Nat) : mapL (fun p => puN (n + 6) 38 [sv p]) (retP 8) = mapL (fun p => some (.bool true)) (retP 8) := by kernel_rfl
theorem ring_9 (n : Nat) : mapL (fun p => ringN (puN (n + 6) 39 [sv p])) (retP 9) = mapL (fun p => some (perT p)) (retP 9) := by kernel_rfl
theorem per_9 : allL (fun p => an (Nat.ble 1 (perT p)) (eqP (iter (perT p) p) p)) (retP 9) = true := by kernel_rfl
theorem back_9 (n : Nat) : mapL (fun p => puN (n + 6) 38 [sv p]) (retP 9) = mapL (fun p => some (.bool true)) (retP 9) := by kernel_rfl
theorem ring_10 (n : Nat) : mapL (fun p => ringN (puN (n + 6) 39 [sv p])) (retP 10) = mapL (fun p => some (perT p)) (retP 10) := by kernel_rfl
theorem per_10 : allL (fun p => an (Nat.ble 1 (perT p)) (eqP (iter (perT p) p) p)) (retP 10) = true := by kernel_rfl
theorem back_10 (n : Nat) : mapL (fun p => puN (n + 6) 38 [sv p]) (retP 10) = mapL (fun p => some (.bool true)) (retP 10) := by kernel_rfl
theorem ring_11 (n : Nat) : mapL (fun p => ringN (puN (n + 6) 39 [sv p])) (retP 11) = mapL (fun p => some (perT p)) (retP 11) := by kernel_rfl
theorem per_11 : allL (fun p => an (Nat.ble 1 (perT p)) (eqP (iter (perT p) p) p)) (retP 11) = true := by kernel_rfl
theorem back_11 (n : Nat) : mapL (fun p => puN (n + 6) 38 [sv p]) (retP 11) = mapL (fun p => some (.bool true)) (retP 11) := by kernel_rfl
theorem ring_12 (n : Nat) : mapL (fun p => ringN (puN (n + 6) 39 [sv p])) (retP 12) = mapL (fun p => some (perT p)) (retP 12) := by kernel_rfl
theorem per_12 : allL (fun p => an (Nat.ble 1 (perT p)) (eqP (iter (perT p) p) p)) (retP 12) = true := by kernel_rfl
theorem back_12 (n : Nat) : mapL (fun p => puN (n + 6) 38 [sv p]) (retP 12) = mapL (fun p => some (.bool true)) (retP 12) := by kernel_rfl
theorem ring_13 (n : Nat) : mapL (fun p => ringN (puN (n + 6) 39 [sv p])) (retP 13) = mapL (fun p => some (perT p)) (retP 13) := by kernel_rfl
theorem per_13 : allL (fun p => an (Nat.ble 1 (perT p)) (eqP (iter (perT p) p) p)) (retP 13) = true := by kernel_rfl
theorem back_13 (n : Nat) : mapL (fun p => puN (n + 6) 38 [sv p]) (retP 13) = mapL (fun p => some (.bool true)) (retP 13) := by kernel_rfl
theorem ring_14 (n : Nat) : mapL (fun p => ringN (puN (n + 6) 39 [sv p])) (retP 14) = mapL (fun p => some (perT p)) (retP 14) := by kernel_rfl
theorem per_14 : allL (fun p => an (Nat.ble 1 (perT p)) (eqP (iter (perT p) p) p)) (retP 14) = true := by kernel_rfl
theorem back_14 (n : Nat) : mapL (fun p => puN (n + 6) 38 [sv p]) (retP 14) = mapL (fun p => some (.bool true)) (retP 14) := by kernel_rfl
theorem ring_15 (n : Nat) : mapL (fun p => ringN (puN (n + 6) 39 [sv p])) (retP 15) = mapL (fun p => some (perT p)) (retP 15) := by kernel_rfl
theorem per_15 : allL (fun p => an (Nat.ble 1 (perT p)) (eqP (iter (perT p) p) p)) (retP 15) = true := by kernel_rfl
theorem back_15 (n : Nat) : mapL (fun p => puN (n + 6) 38 [sv p]) (retP 15) = mapL (fun p => some (.bool true)) (retP 15) := by kernel_rfl
theorem ring_16 (n : Nat) : mapL (fun p => ringN (puN (n + 6) 39 [sv p])) (retP 16) = mapL (fun p => some (perT p)) (retP 16) := by kernel_rfl
theorem per_16 : allL (fun p => an (Nat.ble 1 (perT p)) (eqP (iter (perT p) p) p)) (retP 16) = true := by kernel_rfl
theorem back_16 (n : Nat) : mapL (fun p => puN (n + 6) 38 [sv p]) (retP 16) = mapL (fun p => some (.bool true)) (retP 16) := by kernel_rfl
theorem ring_17 (n : Nat) : mapL (fun p => ringN (puN (n + 6) 39 [sv p])) (retP 17) = mapL (fun p => some (perT p)) (retP 17) := by kernel_rfl
theorem per_17 : allL (fun p => an (Nat.ble 1 (perT p)) (eqP (iter (perT p) p) p)) (retP 17) = true := by kernel_rfl
theorem back_17 (n : Nat) : mapL (fun p => puN (n + 6) 38 [sv p]) (retP 17) = mapL (fun p => some (.bool true)) (retP 17) := by kernel_rfl
theorem ring_18 (n : Nat) : mapL (fun p => ringN (puN (n + 6) 39 [sv p])) (retP 18) = mapL (fun p => some (perT p)) (retP 18) := by kernel_rfl
theorem per_18 : allL (fun p => an (Nat.ble 1 (perT p)) (eqP (iter (perT p) p) p)) (retP 18) = true := by kernel_rfl
theorem back_18 (n : Nat) : mapL (fun p => puN (n + 6) 38 [sv p]) (retP 18) = mapL (fun p => some (.bool true)) (retP 18) := by kernel_rfl
theorem ring_19 (n : Nat) : mapL (fun p => ringN (puN (n + 6) 39 [sv p])) (retP 19) = mapL (fun p => some (perT p)) (retP 19) := by kernel_rfl
theorem per_19 : allL (fun p => an (Nat.ble 1 (perT p)) (eqP (iter (perT p) p) p)) (retP 19) = true := by kernel_rfl
theorem back_19 (n : Nat) : mapL (fun p => puN (n + 6) 38 [sv p]) (retP 19) = mapL (fun p => some (.bool true)) (retP 19) := by kernel_rfl
theorem ring_20 (n : Nat) : mapL (fun p => ringN (puN (n + 6) 39 [sv p])) (retP 20) = mapL (fun p => some (perT p)) (retP 20) := by kernel_rfl
theorem per_20 : allL (fun p => an (Nat.ble 1 (perT p)) (eqP (iter (perT p) p) p)) (retP 20) = true := by kernel_rfl
theorem back_20 (n : Nat) : mapL (fun p => puN (n + 6) 38 [sv p]) (retP 20) = mapL (fun p => some (.bool true)) (retP 20) := by kernel_rfl
theorem ring_21 (n : Nat) : mapL (fun p => ringN (puN (n + 6) 39 [sv p])) (retP 21) = mapL (fun p => some (perT p)) (retP 21) := by kernel_rfl
theorem per_21 : allL (fun p => an (Nat.ble 1 (perT p)) (eqP (iter (perT p) p) p)) (retP 21) = true := by kernel_rfl
theorem back_21 (n : Nat) : mapL (fun p => puN (n + 6) 38 [sv p]) (retP 21) = mapL (fun p => some (.bool true)) (retP 21) := by kernel_rfl
theorem stair_all (n : Nat) : mapL (fun k => puN (n + 6) 35 [.int .i64 (.ofNat k)]) (rngT 22) = mapL (fun k => some (.tuple ⟨[.int .i64 (.ofNat (stair k)), .int .i64 (.ofNat (left k))]⟩)) (rngT 22) := by kernel_rfl
end Go.HpRM
