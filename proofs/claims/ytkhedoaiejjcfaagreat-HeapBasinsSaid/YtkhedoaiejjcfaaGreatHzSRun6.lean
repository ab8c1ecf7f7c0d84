/- Made from wip. -/
import Derived.Test.YtkhedoaiejjcfaaGreatHzSDefx

set_option maxRecDepth 100000
set_option maxHeartbeats 0
namespace Go.HzSM
open Go Go.Sp Go.HzS Go.HpT Go.HtM Go.HyM
theorem ev51_11:mapL (fun p=>bb (nilL (aheadT p)) (valR (evB 51 [cv p])) (deepR 0 2 (evB 51 [cv p]))) (pts 11 11 11) = mapL (fun p=>some (aR p)) (pts 11 11 11):=by kernel_rfl
end Go.HzSM
