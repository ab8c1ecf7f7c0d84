/- Made from wip. -/
import Derived.Test.YtkhedoaiejjcfaaHvRSamex

set_option maxRecDepth 100000
set_option maxHeartbeats 0
namespace Go.HvRM
open Go Go.Sp Go.HvR Go.HpT
theorem e26_13:mapL (fun p=>bb (nilL (aheadT p)) (valR (evB 26 [cv p])) (deepR 0 2 (evB 26 [cv p]))) (pts 13 13 13) = mapL (fun p=>some (aR p)) (pts 13 13 13):=by kernel_rfl
theorem e26_14:mapL (fun p=>bb (nilL (aheadT p)) (valR (evB 26 [cv p])) (deepR 0 2 (evB 26 [cv p]))) (pts 14 14 14) = mapL (fun p=>some (aR p)) (pts 14 14 14):=by kernel_rfl
end Go.HvRM
