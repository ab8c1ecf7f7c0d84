/- What the kernel sees of the models at all heaps of at most 21 cards: MADE BY PROGRAM (wip/hq/runs.py). -/
import Derived.Test.YthcmfnmmgejnaaaHpQLaw1x

set_option maxRecDepth 100000
set_option maxHeartbeats 0
namespace Go.HpQM
open Go Go.Sp Go.HpQ Go.HpT
theorem seen_1 : allL seen (pts 1 1 1) = true := by kernel_rfl
theorem seen_2 : allL seen (pts 2 2 2) = true := by kernel_rfl
theorem seen_3 : allL seen (pts 3 3 3) = true := by kernel_rfl
theorem seen_4 : allL seen (pts 4 4 4) = true := by kernel_rfl
theorem seen_5 : allL seen (pts 5 5 5) = true := by kernel_rfl
theorem seen_6 : allL seen (pts 6 6 6) = true := by kernel_rfl
theorem seen_7 : allL seen (pts 7 7 7) = true := by kernel_rfl
theorem seen_8 : allL seen (pts 8 8 8) = true := by kernel_rfl
theorem seen_9 : allL seen (pts 9 9 9) = true := by kernel_rfl
theorem seen_10 : allL seen (pts 10 10 10) = true := by kernel_rfl
theorem seen_11 : allL seen (pts 11 11 11) = true := by kernel_rfl
theorem seen_12 : allL seen (pts 12 12 12) = true := by kernel_rfl
theorem seen_13 : allL seen (pts 13 13 13) = true := by kernel_rfl
theorem seen_14 : allL seen (pts 14 14 14) = true := by kernel_rfl
theorem seen_15 : allL seen (pts 15 15 15) = true := by kernel_rfl
theorem seen_16 : allL seen (pts 16 16 16) = true := by kernel_rfl
theorem seen_17 : allL seen (pts 17 17 17) = true := by kernel_rfl
theorem seen_18 : allL seen (pts 18 18 18) = true := by kernel_rfl
theorem seen_19 : allL seen (pts 19 19 19) = true := by kernel_rfl
theorem seen_20 : allL seen (pts 20 20 20) = true := by kernel_rfl
theorem seen_21 : allL seen (pts 21 21 21) = true := by kernel_rfl
theorem ringa_1 (n : Nat) : mapL (fun p => puN (n + 9) 38 [cv p]) (retP 1) = mapL (fun p => some (ringV p)) (retP 1) := by kernel_rfl
theorem ringb_1 (n : Nat) : mapL (fun p => puN (n + 9) 39 [sv p]) (retP 1) = mapL (fun p => some (ringV p)) (retP 1) := by kernel_rfl
theorem back_1 (n : Nat) : mapL (fun p => puN (n + 6) 35 [sv p]) (retP 1) = mapL (fun p => some (.bool true)) (retP 1) := by kernel_rfl
theorem ringa_2 (n : Nat) : mapL (fun p => puN (n + 9) 38 [cv p]) (retP 2) = mapL (fun p => some (ringV p)) (retP 2) := by kernel_rfl
theorem ringb_2 (n : Nat) : mapL (fun p => puN (n + 9) 39 [sv p]) (retP 2) = mapL (fun p => some (ringV p)) (retP 2) := by kernel_rfl
theorem back_2 (n : Nat) : mapL (fun p => puN (n + 6) 35 [sv p]) (retP 2) = mapL (fun p => some (.bool true)) (retP 2) := by kernel_rfl
theorem ringa_3 (n : Nat) : mapL (fun p => puN (n + 9) 38 [cv p]) (retP 3) = mapL (fun p => some (ringV p)) (retP 3) := by kernel_rfl
theorem ringb_3 (n : Nat) : mapL (fun p => puN (n + 9) 39 [sv p]) (retP 3) = mapL (fun p => some (ringV p)) (retP 3) := by kernel_rfl
theorem back_3 (n : Nat) : mapL (fun p => puN (n + 6) 35 [sv p]) (retP 3) = mapL (fun p => some (.bool true)) (retP 3) := by kernel_rfl
theorem ringa_4 (n : Nat) : mapL (fun p => puN (n + 9) 38 [cv p]) (retP 4) = mapL (fun p => some (ringV p)) (retP 4) := by kernel_rfl
theorem ringb_4 (n : Nat) : mapL (fun p => puN (n + 9) 39 [sv p]) (retP 4) = mapL (fun p => some (ringV p)) (retP 4) := by kernel_rfl
theorem back_4 (n : Nat) : mapL (fun p => puN (n + 6) 35 [sv p]) (retP 4) = mapL (fun p => some (.bool true)) (retP 4) := by kernel_rfl
theorem ringa_5 (n : Nat) : mapL (fun p => puN (n + 9) 38 [cv p]) (retP 5) = mapL (fun p => some (ringV p)) (retP 5) := by kernel_rfl
theorem ringb_5 (n : Nat) : mapL (fun p => puN (n + 9) 39 [sv p]) (retP 5) = mapL (fun p => some (ringV p)) (retP 5) := by kernel_rfl
theorem back_5 (n : Nat) : mapL (fun p => puN (n + 6) 35 [sv p]) (retP 5) = mapL (fun p => some (.bool true)) (retP 5) := by kernel_rfl
theorem ringa_6 (n : Nat) : mapL (fun p => puN (n + 9) 38 [cv p]) (retP 6) = mapL (fun p => some (ringV p)) (retP 6) := by kernel_rfl
theorem ringb_6 (n : Nat) : mapL (fun p => puN (n + 9) 39 [sv p]) (retP 6) = mapL (fun p => some (ringV p)) (retP 6) := by kernel_rfl
theorem back_6 (n : Nat) : mapL (fun p => puN (n + 6) 35 [sv p]) (retP 6) = mapL (fun p => some (.bool true)) (retP 6) := by kernel_rfl
theorem ringa_7 (n : Nat) : mapL (fun p => puN (n + 9) 38 [cv p]) (retP 7) = mapL (fun p => some (ringV p)) (retP 7) := by kernel_rfl
theorem ringb_7 (n : Nat) : mapL (fun p => puN (n + 9) 39 [sv p]) (retP 7) = mapL (fun p => some (ringV p)) (retP 7) := by kernel_rfl
theorem back_7 (n : Nat) : mapL (fun p => puN (n + 6) 35 [sv p]) (retP 7) = mapL (fun p => some (.bool true)) (retP 7) := by kernel_rfl
theorem ringa_8 (n : Nat) : mapL (fun p => puN (n + 9) 38 [cv p]) (retP 8) = mapL (fun p => some (ringV p)) (retP 8) := by kernel_rfl
theorem ringb_8 (n : Nat) : mapL (fun p => puN (n + 9) 39 [sv p]) (retP 8) = mapL (fun p => some (ringV p)) (retP 8) := by kernel_rfl
theorem back_8 (n : Nat) : mapL (fun p => puN (n + 6) 35 [sv p]) (retP 8) = mapL (fun p => some (.bool true)) (retP 8) := by kernel_rfl
theorem ringa_9 (n : Nat) : mapL (fun p => puN (n + 9) 38 [cv p]) (retP 9) = mapL (fun p => some (ringV p)) (retP 9) := by kernel_rfl
theorem ringb_9 (n : Nat) : mapL (fun p => puN (n + 9) 39 [sv p]) (retP 9) = mapL (fun p => some (ringV p)) (retP 9) := by kernel_rfl
theorem back_9 (n : Nat) : mapL (fun p => puN (n + 6) 35 [sv p]) (retP 9) = mapL (fun p => some (.bool true)) (retP 9) := by kernel_rfl
theorem ringa_10 (n : Nat) : mapL (fun p => puN (n + 9) 38 [cv p]) (retP 10) = mapL (fun p => some (ringV p)) (retP 10) := by kernel_rfl
theorem ringb_10 (n : Nat) : mapL (fun p => puN (n + 9) 39 [sv p]) (retP 10) = mapL (fun p => some (ringV p)) (retP 10) := by kernel_rfl
theorem back_10 (n : Nat) : mapL (fun p => puN (n + 6) 35 [sv p]) (retP 10) = mapL (fun p => some (.bool true)) (retP 10) := by kernel_rfl
theorem ringa_11 (n : Nat) : mapL (fun p => puN (n + 9) 38 [cv p]) (retP 11) = mapL (fun p => some (ringV p)) (retP 11) := by kernel_rfl
theorem ringb_11 (n : Nat) : mapL (fun p => puN (n + 9) 39 [sv p]) (retP 11) = mapL (fun p => some (ringV p)) (retP 11) := by kernel_rfl
theorem back_11 (n : Nat) : mapL (fun p => puN (n + 6) 35 [sv p]) (retP 11) = mapL (fun p => some (.bool true)) (retP 11) := by kernel_rfl
theorem ringa_12 (n : Nat) : mapL (fun p => puN (n + 9) 38 [cv p]) (retP 12) = mapL (fun p => some (ringV p)) (retP 12) := by kernel_rfl
theorem ringb_12 (n : Nat) : mapL (fun p => puN (n + 9) 39 [sv p]) (retP 12) = mapL (fun p => some (ringV p)) (retP 12) := by kernel_rfl
theorem back_12 (n : Nat) : mapL (fun p => puN (n + 6) 35 [sv p]) (retP 12) = mapL (fun p => some (.bool true)) (retP 12) := by kernel_rfl
theorem ringa_13 (n : Nat) : mapL (fun p => puN (n + 9) 38 [cv p]) (retP 13) = mapL (fun p => some (ringV p)) (retP 13) := by kernel_rfl
theorem ringb_13 (n : Nat) : mapL (fun p => puN (n + 9) 39 [sv p]) (retP 13) = mapL (fun p => some (ringV p)) (retP 13) := by kernel_rfl
theorem back_13 (n : Nat) : mapL (fun p => puN (n + 6) 35 [sv p]) (retP 13) = mapL (fun p => some (.bool true)) (retP 13) := by kernel_rfl
theorem ringa_14 (n : Nat) : mapL (fun p => puN (n + 9) 38 [cv p]) (retP 14) = mapL (fun p => some (ringV p)) (retP 14) := by kernel_rfl
theorem ringb_14 (n : Nat) : mapL (fun p => puN (n + 9) 39 [sv p]) (retP 14) = mapL (fun p => some (ringV p)) (retP 14) := by kernel_rfl
theorem back_14 (n : Nat) : mapL (fun p => puN (n + 6) 35 [sv p]) (retP 14) = mapL (fun p => some (.bool true)) (retP 14) := by kernel_rfl
theorem ringa_15 (n : Nat) : mapL (fun p => puN (n + 9) 38 [cv p]) (retP 15) = mapL (fun p => some (ringV p)) (retP 15) := by kernel_rfl
theorem ringb_15 (n : Nat) : mapL (fun p => puN (n + 9) 39 [sv p]) (retP 15) = mapL (fun p => some (ringV p)) (retP 15) := by kernel_rfl
theorem back_15 (n : Nat) : mapL (fun p => puN (n + 6) 35 [sv p]) (retP 15) = mapL (fun p => some (.bool true)) (retP 15) := by kernel_rfl
theorem ringa_16 (n : Nat) : mapL (fun p => puN (n + 9) 38 [cv p]) (retP 16) = mapL (fun p => some (ringV p)) (retP 16) := by kernel_rfl
theorem ringb_16 (n : Nat) : mapL (fun p => puN (n + 9) 39 [sv p]) (retP 16) = mapL (fun p => some (ringV p)) (retP 16) := by kernel_rfl
theorem back_16 (n : Nat) : mapL (fun p => puN (n + 6) 35 [sv p]) (retP 16) = mapL (fun p => some (.bool true)) (retP 16) := by kernel_rfl
theorem ringa_17 (n : Nat) : mapL (fun p => puN (n + 9) 38 [cv p]) (retP 17) = mapL (fun p => some (ringV p)) (retP 17) := by kernel_rfl
theorem ringb_17 (n : Nat) : mapL (fun p => puN (n + 9) 39 [sv p]) (retP 17) = mapL (fun p => some (ringV p)) (retP 17) := by kernel_rfl
theorem back_17 (n : Nat) : mapL (fun p => puN (n + 6) 35 [sv p]) (retP 17) = mapL (fun p => some (.bool true)) (retP 17) := by kernel_rfl
theorem ringa_18 (n : Nat) : mapL (fun p => puN (n + 9) 38 [cv p]) (retP 18) = mapL (fun p => some (ringV p)) (retP 18) := by kernel_rfl
theorem ringb_18 (n : Nat) : mapL (fun p => puN (n + 9) 39 [sv p]) (retP 18) = mapL (fun p => some (ringV p)) (retP 18) := by kernel_rfl
theorem back_18 (n : Nat) : mapL (fun p => puN (n + 6) 35 [sv p]) (retP 18) = mapL (fun p => some (.bool true)) (retP 18) := by kernel_rfl
theorem ringa_19 (n : Nat) : mapL (fun p => puN (n + 9) 38 [cv p]) (retP 19) = mapL (fun p => some (ringV p)) (retP 19) := by kernel_rfl
theorem ringb_19 (n : Nat) : mapL (fun p => puN (n + 9) 39 [sv p]) (retP 19) = mapL (fun p => some (ringV p)) (retP 19) := by kernel_rfl
theorem back_19 (n : Nat) : mapL (fun p => puN (n + 6) 35 [sv p]) (retP 19) = mapL (fun p => some (.bool true)) (retP 19) := by kernel_rfl
theorem ringa_20 (n : Nat) : mapL (fun p => puN (n + 9) 38 [cv p]) (retP 20) = mapL (fun p => some (ringV p)) (retP 20) := by kernel_rfl
theorem ringb_20 (n : Nat) : mapL (fun p => puN (n + 9) 39 [sv p]) (retP 20) = mapL (fun p => some (ringV p)) (retP 20) := by kernel_rfl
theorem back_20 (n : Nat) : mapL (fun p => puN (n + 6) 35 [sv p]) (retP 20) = mapL (fun p => some (.bool true)) (retP 20) := by kernel_rfl
theorem ringa_21 (n : Nat) : mapL (fun p => puN (n + 9) 38 [cv p]) (retP 21) = mapL (fun p => some (ringV p)) (retP 21) := by kernel_rfl
theorem ringb_21 (n : Nat) : mapL (fun p => puN (n + 9) 39 [sv p]) (retP 21) = mapL (fun p => some (ringV p)) (retP 21) := by kernel_rfl
theorem back_21 (n : Nat) : mapL (fun p => puN (n + 6) 35 [sv p]) (retP 21) = mapL (fun p => some (.bool true)) (retP 21) := by kernel_rfl
theorem len_1 : allL (fun p => an (Nat.ble (len (ringT p)) 50) (allL (fun q => Nat.ble (len q) 50) (ringT p))) (retP 1) = true := by kernel_rfl
theorem len_2 : allL (fun p => an (Nat.ble (len (ringT p)) 50) (allL (fun q => Nat.ble (len q) 50) (ringT p))) (retP 2) = true := by kernel_rfl
theorem len_3 : allL (fun p => an (Nat.ble (len (ringT p)) 50) (allL (fun q => Nat.ble (len q) 50) (ringT p))) (retP 3) = true := by kernel_rfl
theorem len_4 : allL (fun p => an (Nat.ble (len (ringT p)) 50) (allL (fun q => Nat.ble (len q) 50) (ringT p))) (retP 4) = true := by kernel_rfl
theorem len_5 : allL (fun p => an (Nat.ble (len (ringT p)) 50) (allL (fun q => Nat.ble (len q) 50) (ringT p))) (retP 5) = true := by kernel_rfl
theorem len_6 : allL (fun p => an (Nat.ble (len (ringT p)) 50) (allL (fun q => Nat.ble (len q) 50) (ringT p))) (retP 6) = true := by kernel_rfl
theorem len_7 : allL (fun p => an (Nat.ble (len (ringT p)) 50) (allL (fun q => Nat.ble (len q) 50) (ringT p))) (retP 7) = true := by kernel_rfl
theorem len_8 : allL (fun p => an (Nat.ble (len (ringT p)) 50) (allL (fun q => Nat.ble (len q) 50) (ringT p))) (retP 8) = true := by kernel_rfl
theorem len_9 : allL (fun p => an (Nat.ble (len (ringT p)) 50) (allL (fun q => Nat.ble (len q) 50) (ringT p))) (retP 9) = true := by kernel_rfl
theorem len_10 : allL (fun p => an (Nat.ble (len (ringT p)) 50) (allL (fun q => Nat.ble (len q) 50) (ringT p))) (retP 10) = true := by kernel_rfl
theorem len_11 : allL (fun p => an (Nat.ble (len (ringT p)) 50) (allL (fun q => Nat.ble (len q) 50) (ringT p))) (retP 11) = true := by kernel_rfl
theorem len_12 : allL (fun p => an (Nat.ble (len (ringT p)) 50) (allL (fun q => Nat.ble (len q) 50) (ringT p))) (retP 12) = true := by kernel_rfl
theorem len_13 : allL (fun p => an (Nat.ble (len (ringT p)) 50) (allL (fun q => Nat.ble (len q) 50) (ringT p))) (retP 13) = true := by kernel_rfl
theorem len_14 : allL (fun p => an (Nat.ble (len (ringT p)) 50) (allL (fun q => Nat.ble (len q) 50) (ringT p))) (retP 14) = true := by kernel_rfl
theorem len_15 : allL (fun p => an (Nat.ble (len (ringT p)) 50) (allL (fun q => Nat.ble (len q) 50) (ringT p))) (retP 15) = true := by kernel_rfl
theorem len_16 : allL (fun p => an (Nat.ble (len (ringT p)) 50) (allL (fun q => Nat.ble (len q) 50) (ringT p))) (retP 16) = true := by kernel_rfl
theorem len_17 : allL (fun p => an (Nat.ble (len (ringT p)) 50) (allL (fun q => Nat.ble (len q) 50) (ringT p))) (retP 17) = true := by kernel_rfl
theorem len_18 : allL (fun p => an (Nat.ble (len (ringT p)) 50) (allL (fun q => Nat.ble (len q) 50) (ringT p))) (retP 18) = true := by kernel_rfl
theorem len_19 : allL (fun p => an (Nat.ble (len (ringT p)) 50) (allL (fun q => Nat.ble (len q) 50) (ringT p))) (retP 19) = true := by kernel_rfl
theorem len_20 : allL (fun p => an (Nat.ble (len (ringT p)) 50) (allL (fun q => Nat.ble (len q) 50) (ringT p))) (retP 20) = true := by kernel_rfl
theorem len_21 : allL (fun p => an (Nat.ble (len (ringT p)) 50) (allL (fun q => Nat.ble (len q) 50) (ringT p))) (retP 21) = true := by kernel_rfl
end Go.HpQM
