/- Made from wip. -/
import Derived.Test.YtommhepgkaddaaaGreatHpYLaw2x

set_option maxRecDepth 100000
set_option maxHeartbeats 0
namespace Go.HpYM
open Go Go.Sp Go.HpY Go.HpT
theorem e19_1 (n:Nat):mapL (fun p=>puN (n + 6) 19 [sv p]) (pts 1 1 1) = mapL (fun p=>some (cv p)) (pts 1 1 1):=by kernel_rfl
theorem e19_2 (n:Nat):mapL (fun p=>puN (n + 6) 19 [sv p]) (pts 2 2 2) = mapL (fun p=>some (cv p)) (pts 2 2 2):=by kernel_rfl
theorem e19_3 (n:Nat):mapL (fun p=>puN (n + 6) 19 [sv p]) (pts 3 3 3) = mapL (fun p=>some (cv p)) (pts 3 3 3):=by kernel_rfl
theorem e19_4 (n:Nat):mapL (fun p=>puN (n + 6) 19 [sv p]) (pts 4 4 4) = mapL (fun p=>some (cv p)) (pts 4 4 4):=by kernel_rfl
theorem e19_5 (n:Nat):mapL (fun p=>puN (n + 6) 19 [sv p]) (pts 5 5 5) = mapL (fun p=>some (cv p)) (pts 5 5 5):=by kernel_rfl
theorem e19_6 (n:Nat):mapL (fun p=>puN (n + 6) 19 [sv p]) (pts 6 6 6) = mapL (fun p=>some (cv p)) (pts 6 6 6):=by kernel_rfl
theorem e19_7 (n:Nat):mapL (fun p=>puN (n + 6) 19 [sv p]) (pts 7 7 7) = mapL (fun p=>some (cv p)) (pts 7 7 7):=by kernel_rfl
theorem e19_8 (n:Nat):mapL (fun p=>puN (n + 6) 19 [sv p]) (pts 8 8 8) = mapL (fun p=>some (cv p)) (pts 8 8 8):=by kernel_rfl
theorem e19_9 (n:Nat):mapL (fun p=>puN (n + 6) 19 [sv p]) (pts 9 9 9) = mapL (fun p=>some (cv p)) (pts 9 9 9):=by kernel_rfl
theorem e19_10 (n:Nat):mapL (fun p=>puN (n + 6) 19 [sv p]) (pts 10 10 10) = mapL (fun p=>some (cv p)) (pts 10 10 10):=by kernel_rfl
theorem e19_11 (n:Nat):mapL (fun p=>puN (n + 6) 19 [sv p]) (pts 11 11 11) = mapL (fun p=>some (cv p)) (pts 11 11 11):=by kernel_rfl
theorem e19_12 (n:Nat):mapL (fun p=>puN (n + 6) 19 [sv p]) (pts 12 12 12) = mapL (fun p=>some (cv p)) (pts 12 12 12):=by kernel_rfl
theorem e19_13 (n:Nat):mapL (fun p=>puN (n + 6) 19 [sv p]) (pts 13 13 13) = mapL (fun p=>some (cv p)) (pts 13 13 13):=by kernel_rfl
theorem e19_14 (n:Nat):mapL (fun p=>puN (n + 6) 19 [sv p]) (pts 14 14 14) = mapL (fun p=>some (cv p)) (pts 14 14 14):=by kernel_rfl
theorem e19_15 (n:Nat):mapL (fun p=>puN (n + 6) 19 [sv p]) (pts 15 15 15) = mapL (fun p=>some (cv p)) (pts 15 15 15):=by kernel_rfl
theorem e19_16 (n:Nat):mapL (fun p=>puN (n + 6) 19 [sv p]) (pts 16 16 16) = mapL (fun p=>some (cv p)) (pts 16 16 16):=by kernel_rfl
theorem e19_17 (n:Nat):mapL (fun p=>puN (n + 6) 19 [sv p]) (pts 17 17 17) = mapL (fun p=>some (cv p)) (pts 17 17 17):=by kernel_rfl
theorem e19_18 (n:Nat):mapL (fun p=>puN (n + 6) 19 [sv p]) (pts 18 18 18) = mapL (fun p=>some (cv p)) (pts 18 18 18):=by kernel_rfl
theorem e19_19 (n:Nat):mapL (fun p=>puN (n + 6) 19 [sv p]) (pts 19 19 19) = mapL (fun p=>some (cv p)) (pts 19 19 19):=by kernel_rfl
theorem e19_20 (n:Nat):mapL (fun p=>puN (n + 6) 19 [sv p]) (pts 20 20 20) = mapL (fun p=>some (cv p)) (pts 20 20 20):=by kernel_rfl
theorem e19_21 (n:Nat):mapL (fun p=>puN (n + 6) 19 [sv p]) (pts 21 21 21) = mapL (fun p=>some (cv p)) (pts 21 21 21):=by kernel_rfl
theorem e25_1 (n:Nat):mapL (fun p=>puN (n + 6) 25 [cv p]) (pts 1 1 1) = mapL (fun p=>some (.int .i64 (.ofNat (sumL p)))) (pts 1 1 1):=by kernel_rfl
theorem e25_2 (n:Nat):mapL (fun p=>puN (n + 6) 25 [cv p]) (pts 2 2 2) = mapL (fun p=>some (.int .i64 (.ofNat (sumL p)))) (pts 2 2 2):=by kernel_rfl
theorem e25_3 (n:Nat):mapL (fun p=>puN (n + 6) 25 [cv p]) (pts 3 3 3) = mapL (fun p=>some (.int .i64 (.ofNat (sumL p)))) (pts 3 3 3):=by kernel_rfl
theorem e25_4 (n:Nat):mapL (fun p=>puN (n + 6) 25 [cv p]) (pts 4 4 4) = mapL (fun p=>some (.int .i64 (.ofNat (sumL p)))) (pts 4 4 4):=by kernel_rfl
theorem e25_5 (n:Nat):mapL (fun p=>puN (n + 6) 25 [cv p]) (pts 5 5 5) = mapL (fun p=>some (.int .i64 (.ofNat (sumL p)))) (pts 5 5 5):=by kernel_rfl
theorem e25_6 (n:Nat):mapL (fun p=>puN (n + 6) 25 [cv p]) (pts 6 6 6) = mapL (fun p=>some (.int .i64 (.ofNat (sumL p)))) (pts 6 6 6):=by kernel_rfl
theorem e25_7 (n:Nat):mapL (fun p=>puN (n + 6) 25 [cv p]) (pts 7 7 7) = mapL (fun p=>some (.int .i64 (.ofNat (sumL p)))) (pts 7 7 7):=by kernel_rfl
theorem e25_8 (n:Nat):mapL (fun p=>puN (n + 6) 25 [cv p]) (pts 8 8 8) = mapL (fun p=>some (.int .i64 (.ofNat (sumL p)))) (pts 8 8 8):=by kernel_rfl
theorem e25_9 (n:Nat):mapL (fun p=>puN (n + 6) 25 [cv p]) (pts 9 9 9) = mapL (fun p=>some (.int .i64 (.ofNat (sumL p)))) (pts 9 9 9):=by kernel_rfl
theorem e25_10 (n:Nat):mapL (fun p=>puN (n + 6) 25 [cv p]) (pts 10 10 10) = mapL (fun p=>some (.int .i64 (.ofNat (sumL p)))) (pts 10 10 10):=by kernel_rfl
theorem e25_11 (n:Nat):mapL (fun p=>puN (n + 6) 25 [cv p]) (pts 11 11 11) = mapL (fun p=>some (.int .i64 (.ofNat (sumL p)))) (pts 11 11 11):=by kernel_rfl
theorem e25_12 (n:Nat):mapL (fun p=>puN (n + 6) 25 [cv p]) (pts 12 12 12) = mapL (fun p=>some (.int .i64 (.ofNat (sumL p)))) (pts 12 12 12):=by kernel_rfl
theorem e25_13 (n:Nat):mapL (fun p=>puN (n + 6) 25 [cv p]) (pts 13 13 13) = mapL (fun p=>some (.int .i64 (.ofNat (sumL p)))) (pts 13 13 13):=by kernel_rfl
theorem e25_14 (n:Nat):mapL (fun p=>puN (n + 6) 25 [cv p]) (pts 14 14 14) = mapL (fun p=>some (.int .i64 (.ofNat (sumL p)))) (pts 14 14 14):=by kernel_rfl
theorem e25_15 (n:Nat):mapL (fun p=>puN (n + 6) 25 [cv p]) (pts 15 15 15) = mapL (fun p=>some (.int .i64 (.ofNat (sumL p)))) (pts 15 15 15):=by kernel_rfl
theorem e25_16 (n:Nat):mapL (fun p=>puN (n + 6) 25 [cv p]) (pts 16 16 16) = mapL (fun p=>some (.int .i64 (.ofNat (sumL p)))) (pts 16 16 16):=by kernel_rfl
theorem e25_17 (n:Nat):mapL (fun p=>puN (n + 6) 25 [cv p]) (pts 17 17 17) = mapL (fun p=>some (.int .i64 (.ofNat (sumL p)))) (pts 17 17 17):=by kernel_rfl
theorem e25_18 (n:Nat):mapL (fun p=>puN (n + 6) 25 [cv p]) (pts 18 18 18) = mapL (fun p=>some (.int .i64 (.ofNat (sumL p)))) (pts 18 18 18):=by kernel_rfl
theorem e25_19 (n:Nat):mapL (fun p=>puN (n + 6) 25 [cv p]) (pts 19 19 19) = mapL (fun p=>some (.int .i64 (.ofNat (sumL p)))) (pts 19 19 19):=by kernel_rfl
theorem e25_20 (n:Nat):mapL (fun p=>puN (n + 6) 25 [cv p]) (pts 20 20 20) = mapL (fun p=>some (.int .i64 (.ofNat (sumL p)))) (pts 20 20 20):=by kernel_rfl
theorem e25_21 (n:Nat):mapL (fun p=>puN (n + 6) 25 [cv p]) (pts 21 21 21) = mapL (fun p=>some (.int .i64 (.ofNat (sumL p)))) (pts 21 21 21):=by kernel_rfl
end Go.HpYM
