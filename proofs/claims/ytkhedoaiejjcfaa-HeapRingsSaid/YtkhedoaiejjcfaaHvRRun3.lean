/- Made from wip. -/
import Derived.Test.YtkhedoaiejjcfaaHvRSamex

set_option maxRecDepth 100000
set_option maxHeartbeats 0
namespace Go.HvRM
open Go Go.Sp Go.HvR Go.HpT
theorem e45_1:mapL (fun p=>pu0 45 [cv p]) (pts 1 1 1) = mapL (fun p=>some (cv (rnd p))) (pts 1 1 1):=by kernel_rfl
theorem e45_2:mapL (fun p=>pu0 45 [cv p]) (pts 2 2 2) = mapL (fun p=>some (cv (rnd p))) (pts 2 2 2):=by kernel_rfl
theorem e45_3:mapL (fun p=>pu0 45 [cv p]) (pts 3 3 3) = mapL (fun p=>some (cv (rnd p))) (pts 3 3 3):=by kernel_rfl
theorem e45_4:mapL (fun p=>pu0 45 [cv p]) (pts 4 4 4) = mapL (fun p=>some (cv (rnd p))) (pts 4 4 4):=by kernel_rfl
theorem e45_5:mapL (fun p=>pu0 45 [cv p]) (pts 5 5 5) = mapL (fun p=>some (cv (rnd p))) (pts 5 5 5):=by kernel_rfl
theorem e45_6:mapL (fun p=>pu0 45 [cv p]) (pts 6 6 6) = mapL (fun p=>some (cv (rnd p))) (pts 6 6 6):=by kernel_rfl
theorem e45_7:mapL (fun p=>pu0 45 [cv p]) (pts 7 7 7) = mapL (fun p=>some (cv (rnd p))) (pts 7 7 7):=by kernel_rfl
theorem e45_8:mapL (fun p=>pu0 45 [cv p]) (pts 8 8 8) = mapL (fun p=>some (cv (rnd p))) (pts 8 8 8):=by kernel_rfl
theorem e45_9:mapL (fun p=>pu0 45 [cv p]) (pts 9 9 9) = mapL (fun p=>some (cv (rnd p))) (pts 9 9 9):=by kernel_rfl
theorem e45_10:mapL (fun p=>pu0 45 [cv p]) (pts 10 10 10) = mapL (fun p=>some (cv (rnd p))) (pts 10 10 10):=by kernel_rfl
theorem e45_11:mapL (fun p=>pu0 45 [cv p]) (pts 11 11 11) = mapL (fun p=>some (cv (rnd p))) (pts 11 11 11):=by kernel_rfl
theorem e45_12:mapL (fun p=>pu0 45 [cv p]) (pts 12 12 12) = mapL (fun p=>some (cv (rnd p))) (pts 12 12 12):=by kernel_rfl
theorem e45_13:mapL (fun p=>pu0 45 [cv p]) (pts 13 13 13) = mapL (fun p=>some (cv (rnd p))) (pts 13 13 13):=by kernel_rfl
theorem e45_14:mapL (fun p=>pu0 45 [cv p]) (pts 14 14 14) = mapL (fun p=>some (cv (rnd p))) (pts 14 14 14):=by kernel_rfl
theorem e49_1:mapL (fun p=>m49 puV 1000000 [cv p]) (pts 1 1 1) = mapL (fun p=>some (untV p)) (pts 1 1 1):=by kernel_rfl
theorem e49_2:mapL (fun p=>m49 puV 1000000 [cv p]) (pts 2 2 2) = mapL (fun p=>some (untV p)) (pts 2 2 2):=by kernel_rfl
theorem e49_3:mapL (fun p=>m49 puV 1000000 [cv p]) (pts 3 3 3) = mapL (fun p=>some (untV p)) (pts 3 3 3):=by kernel_rfl
theorem e49_4:mapL (fun p=>m49 puV 1000000 [cv p]) (pts 4 4 4) = mapL (fun p=>some (untV p)) (pts 4 4 4):=by kernel_rfl
theorem e49_5:mapL (fun p=>m49 puV 1000000 [cv p]) (pts 5 5 5) = mapL (fun p=>some (untV p)) (pts 5 5 5):=by kernel_rfl
theorem e49_6:mapL (fun p=>m49 puV 1000000 [cv p]) (pts 6 6 6) = mapL (fun p=>some (untV p)) (pts 6 6 6):=by kernel_rfl
theorem e49_7:mapL (fun p=>m49 puV 1000000 [cv p]) (pts 7 7 7) = mapL (fun p=>some (untV p)) (pts 7 7 7):=by kernel_rfl
theorem e49_8:mapL (fun p=>m49 puV 1000000 [cv p]) (pts 8 8 8) = mapL (fun p=>some (untV p)) (pts 8 8 8):=by kernel_rfl
theorem e49_9:mapL (fun p=>m49 puV 1000000 [cv p]) (pts 9 9 9) = mapL (fun p=>some (untV p)) (pts 9 9 9):=by kernel_rfl
theorem e49_10:mapL (fun p=>m49 puV 1000000 [cv p]) (pts 10 10 10) = mapL (fun p=>some (untV p)) (pts 10 10 10):=by kernel_rfl
theorem e49_11:mapL (fun p=>m49 puV 1000000 [cv p]) (pts 11 11 11) = mapL (fun p=>some (untV p)) (pts 11 11 11):=by kernel_rfl
theorem e49_12:mapL (fun p=>m49 puV 1000000 [cv p]) (pts 12 12 12) = mapL (fun p=>some (untV p)) (pts 12 12 12):=by kernel_rfl
theorem e49_13:mapL (fun p=>m49 puV 1000000 [cv p]) (pts 13 13 13) = mapL (fun p=>some (untV p)) (pts 13 13 13):=by kernel_rfl
theorem e49_14:mapL (fun p=>m49 puV 1000000 [cv p]) (pts 14 14 14) = mapL (fun p=>some (untV p)) (pts 14 14 14):=by kernel_rfl
end Go.HvRM
