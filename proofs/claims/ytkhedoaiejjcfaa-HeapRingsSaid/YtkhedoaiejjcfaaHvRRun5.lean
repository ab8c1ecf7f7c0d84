/- Made from wip. -/
import Derived.Test.YtkhedoaiejjcfaaHvRSamex

set_option maxRecDepth 100000
set_option maxHeartbeats 0
namespace Go.HvRM
open Go Go.Sp Go.HvR Go.HpT
theorem e25_13:mapL (fun p=>deepR 0 2 (evU 25 [cv p])) (pts 13 13 13) = mapL (fun p=>some (Sl.v 1 (rSl (ringOf p)))) (pts 13 13 13):=by kernel_rfl
end Go.HvRM
