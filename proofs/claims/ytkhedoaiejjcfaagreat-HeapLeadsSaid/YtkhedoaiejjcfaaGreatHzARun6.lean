/- Made from wip. -/
import Derived.Test.YtkhedoaiejjcfaaGreatHzADefx

set_option maxRecDepth 100000
set_option maxHeartbeats 0
namespace Go.HzAM
open Go Go.Sp Go.HzA Go.HpT Go.HtM Go.HyM
theorem ev19_1:mapL (fun p=>deepT 0 2 (evB 19 [sv p])) (pts 1 1 1) = mapL (fun p=>some (aR p)) (pts 1 1 1):=by kernel_rfl
theorem ev19_2:mapL (fun p=>deepT 0 2 (evB 19 [sv p])) (pts 2 2 2) = mapL (fun p=>some (aR p)) (pts 2 2 2):=by kernel_rfl
theorem ev19_3:mapL (fun p=>deepT 0 2 (evB 19 [sv p])) (pts 3 3 3) = mapL (fun p=>some (aR p)) (pts 3 3 3):=by kernel_rfl
theorem ev19_4:mapL (fun p=>deepT 0 2 (evB 19 [sv p])) (pts 4 4 4) = mapL (fun p=>some (aR p)) (pts 4 4 4):=by kernel_rfl
theorem ev19_5:mapL (fun p=>deepT 0 2 (evB 19 [sv p])) (pts 5 5 5) = mapL (fun p=>some (aR p)) (pts 5 5 5):=by kernel_rfl
theorem ev19_6:mapL (fun p=>deepT 0 2 (evB 19 [sv p])) (pts 6 6 6) = mapL (fun p=>some (aR p)) (pts 6 6 6):=by kernel_rfl
theorem ev19_7:mapL (fun p=>deepT 0 2 (evB 19 [sv p])) (pts 7 7 7) = mapL (fun p=>some (aR p)) (pts 7 7 7):=by kernel_rfl
theorem ev19_8:mapL (fun p=>deepT 0 2 (evB 19 [sv p])) (pts 8 8 8) = mapL (fun p=>some (aR p)) (pts 8 8 8):=by kernel_rfl
end Go.HzAM
