/- Made from wip. -/
import Derived.Test.YtommhepgkaddaaaGreatHpYLaw2x

set_option maxRecDepth 100000
set_option maxHeartbeats 0
namespace Go.HpYM
open Go Go.Sp Go.HpY Go.HpT
theorem e23_1 (n:Nat):mapL (fun p=>puN (n + 6) 23 [cv p]) (pts 1 1 1) = mapL (fun p=>some (.bool (ret p))) (pts 1 1 1):=by kernel_rfl
theorem e23_2 (n:Nat):mapL (fun p=>puN (n + 6) 23 [cv p]) (pts 2 2 2) = mapL (fun p=>some (.bool (ret p))) (pts 2 2 2):=by kernel_rfl
theorem e23_3 (n:Nat):mapL (fun p=>puN (n + 6) 23 [cv p]) (pts 3 3 3) = mapL (fun p=>some (.bool (ret p))) (pts 3 3 3):=by kernel_rfl
theorem e23_4 (n:Nat):mapL (fun p=>puN (n + 6) 23 [cv p]) (pts 4 4 4) = mapL (fun p=>some (.bool (ret p))) (pts 4 4 4):=by kernel_rfl
theorem e23_5 (n:Nat):mapL (fun p=>puN (n + 6) 23 [cv p]) (pts 5 5 5) = mapL (fun p=>some (.bool (ret p))) (pts 5 5 5):=by kernel_rfl
theorem e23_6 (n:Nat):mapL (fun p=>puN (n + 6) 23 [cv p]) (pts 6 6 6) = mapL (fun p=>some (.bool (ret p))) (pts 6 6 6):=by kernel_rfl
theorem e23_7 (n:Nat):mapL (fun p=>puN (n + 6) 23 [cv p]) (pts 7 7 7) = mapL (fun p=>some (.bool (ret p))) (pts 7 7 7):=by kernel_rfl
theorem e23_8 (n:Nat):mapL (fun p=>puN (n + 6) 23 [cv p]) (pts 8 8 8) = mapL (fun p=>some (.bool (ret p))) (pts 8 8 8):=by kernel_rfl
theorem e23_9 (n:Nat):mapL (fun p=>puN (n + 6) 23 [cv p]) (pts 9 9 9) = mapL (fun p=>some (.bool (ret p))) (pts 9 9 9):=by kernel_rfl
theorem e23_10 (n:Nat):mapL (fun p=>puN (n + 6) 23 [cv p]) (pts 10 10 10) = mapL (fun p=>some (.bool (ret p))) (pts 10 10 10):=by kernel_rfl
theorem e23_11 (n:Nat):mapL (fun p=>puN (n + 6) 23 [cv p]) (pts 11 11 11) = mapL (fun p=>some (.bool (ret p))) (pts 11 11 11):=by kernel_rfl
theorem e23_12 (n:Nat):mapL (fun p=>puN (n + 6) 23 [cv p]) (pts 12 12 12) = mapL (fun p=>some (.bool (ret p))) (pts 12 12 12):=by kernel_rfl
theorem e23_13 (n:Nat):mapL (fun p=>puN (n + 6) 23 [cv p]) (pts 13 13 13) = mapL (fun p=>some (.bool (ret p))) (pts 13 13 13):=by kernel_rfl
theorem e23_14 (n:Nat):mapL (fun p=>puN (n + 6) 23 [cv p]) (pts 14 14 14) = mapL (fun p=>some (.bool (ret p))) (pts 14 14 14):=by kernel_rfl
theorem e23_15 (n:Nat):mapL (fun p=>puN (n + 6) 23 [cv p]) (pts 15 15 15) = mapL (fun p=>some (.bool (ret p))) (pts 15 15 15):=by kernel_rfl
theorem e23_16 (n:Nat):mapL (fun p=>puN (n + 6) 23 [cv p]) (pts 16 16 16) = mapL (fun p=>some (.bool (ret p))) (pts 16 16 16):=by kernel_rfl
theorem e23_17 (n:Nat):mapL (fun p=>puN (n + 6) 23 [cv p]) (pts 17 17 17) = mapL (fun p=>some (.bool (ret p))) (pts 17 17 17):=by kernel_rfl
end Go.HpYM
