/- Made from wip. -/
import Derived.Test.YtkhedoaiejjcfaaGreatHzLDefx

set_option maxRecDepth 100000
set_option maxHeartbeats 0
namespace Go.HzLM
open Go Go.Sp Go.HzL Go.HpT Go.HtM Go.HyM
theorem e59_1:mapL (fun p=>pu0 59 [cv p]) (pts 1 1 1) = mapL (fun p=>some (cv (rnd p))) (pts 1 1 1):=by kernel_rfl
theorem e59_2:mapL (fun p=>pu0 59 [cv p]) (pts 2 2 2) = mapL (fun p=>some (cv (rnd p))) (pts 2 2 2):=by kernel_rfl
theorem e59_3:mapL (fun p=>pu0 59 [cv p]) (pts 3 3 3) = mapL (fun p=>some (cv (rnd p))) (pts 3 3 3):=by kernel_rfl
theorem e59_4:mapL (fun p=>pu0 59 [cv p]) (pts 4 4 4) = mapL (fun p=>some (cv (rnd p))) (pts 4 4 4):=by kernel_rfl
theorem e59_5:mapL (fun p=>pu0 59 [cv p]) (pts 5 5 5) = mapL (fun p=>some (cv (rnd p))) (pts 5 5 5):=by kernel_rfl
theorem e59_6:mapL (fun p=>pu0 59 [cv p]) (pts 6 6 6) = mapL (fun p=>some (cv (rnd p))) (pts 6 6 6):=by kernel_rfl
theorem e59_7:mapL (fun p=>pu0 59 [cv p]) (pts 7 7 7) = mapL (fun p=>some (cv (rnd p))) (pts 7 7 7):=by kernel_rfl
theorem e59_8:mapL (fun p=>pu0 59 [cv p]) (pts 8 8 8) = mapL (fun p=>some (cv (rnd p))) (pts 8 8 8):=by kernel_rfl
theorem e59_9:mapL (fun p=>pu0 59 [cv p]) (pts 9 9 9) = mapL (fun p=>some (cv (rnd p))) (pts 9 9 9):=by kernel_rfl
theorem e59_10:mapL (fun p=>pu0 59 [cv p]) (pts 10 10 10) = mapL (fun p=>some (cv (rnd p))) (pts 10 10 10):=by kernel_rfl
theorem e59_11:mapL (fun p=>pu0 59 [cv p]) (pts 11 11 11) = mapL (fun p=>some (cv (rnd p))) (pts 11 11 11):=by kernel_rfl
theorem e59_12:mapL (fun p=>pu0 59 [cv p]) (pts 12 12 12) = mapL (fun p=>some (cv (rnd p))) (pts 12 12 12):=by kernel_rfl
theorem e59_13:mapL (fun p=>pu0 59 [cv p]) (pts 13 13 13) = mapL (fun p=>some (cv (rnd p))) (pts 13 13 13):=by kernel_rfl
theorem e59_14:mapL (fun p=>pu0 59 [cv p]) (pts 14 14 14) = mapL (fun p=>some (cv (rnd p))) (pts 14 14 14):=by kernel_rfl
end Go.HzLM
