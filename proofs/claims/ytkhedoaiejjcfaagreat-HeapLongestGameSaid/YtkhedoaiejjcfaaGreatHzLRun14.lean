/- Made from wip. -/
import Derived.Test.YtkhedoaiejjcfaaGreatHzLDefx

set_option maxRecDepth 100000
set_option maxHeartbeats 0
namespace Go.HzLM
open Go Go.Sp Go.HzL Go.HpT Go.HtM Go.HyM
theorem e59_15:mapL (fun p=>pu0 59 [cv p]) (pts 15 15 15) = mapL (fun p=>some (cv (rnd p))) (pts 15 15 15):=by kernel_rfl
end Go.HzLM
