/- Made from wip. -/
import Derived.Test.YtkhedoaiejjcfaaGreatHzLDefx

set_option maxRecDepth 100000
set_option maxHeartbeats 0
namespace Go.HzLM
open Go Go.Sp Go.HzL Go.HpT Go.HtM Go.HyM
theorem e55_14:mapL (fun p=>m55 puV 1000000 [cv p]) (pts 14 14 14) = mapL (fun p=>some (untV p)) (pts 14 14 14):=by kernel_rfl
end Go.HzLM
