/- Made from wip. -/
import Derived.Test.YtkhedoaiejjcfaaGreatHzSSamex

set_option maxRecDepth 100000
set_option maxHeartbeats 0
namespace Go.HzSM
open Go Go.Sp Go.HzS Go.HpT Go.HtM Go.HyM
theorem e22_1:mapL (fun p=>m22 puX 1000000 [sv p]) (pts 1 1 1) = mapL (fun p=>some (sv (endT p))) (pts 1 1 1):=by kernel_rfl
theorem e22_2:mapL (fun p=>m22 puX 1000000 [sv p]) (pts 2 2 2) = mapL (fun p=>some (sv (endT p))) (pts 2 2 2):=by kernel_rfl
theorem e22_3:mapL (fun p=>m22 puX 1000000 [sv p]) (pts 3 3 3) = mapL (fun p=>some (sv (endT p))) (pts 3 3 3):=by kernel_rfl
theorem e22_4:mapL (fun p=>m22 puX 1000000 [sv p]) (pts 4 4 4) = mapL (fun p=>some (sv (endT p))) (pts 4 4 4):=by kernel_rfl
theorem e22_5:mapL (fun p=>m22 puX 1000000 [sv p]) (pts 5 5 5) = mapL (fun p=>some (sv (endT p))) (pts 5 5 5):=by kernel_rfl
theorem e22_6:mapL (fun p=>m22 puX 1000000 [sv p]) (pts 6 6 6) = mapL (fun p=>some (sv (endT p))) (pts 6 6 6):=by kernel_rfl
theorem e22_7:mapL (fun p=>m22 puX 1000000 [sv p]) (pts 7 7 7) = mapL (fun p=>some (sv (endT p))) (pts 7 7 7):=by kernel_rfl
theorem e22_8:mapL (fun p=>m22 puX 1000000 [sv p]) (pts 8 8 8) = mapL (fun p=>some (sv (endT p))) (pts 8 8 8):=by kernel_rfl
theorem e22_9:mapL (fun p=>m22 puX 1000000 [sv p]) (pts 9 9 9) = mapL (fun p=>some (sv (endT p))) (pts 9 9 9):=by kernel_rfl
theorem e22_10:mapL (fun p=>m22 puX 1000000 [sv p]) (pts 10 10 10) = mapL (fun p=>some (sv (endT p))) (pts 10 10 10):=by kernel_rfl
end Go.HzSM
