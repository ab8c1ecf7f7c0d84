/- Made from wip. -/
import Derived.Test.YtommhepgkaddaaaGreatHpYLaw2x

set_option maxRecDepth 100000
set_option maxHeartbeats 0
namespace Go.HpYM
open Go Go.Sp Go.HpY Go.HpT
theorem e23_18 (n:Nat):mapL (fun p=>puN (n + 6) 23 [cv p]) (pts 18 18 18) = mapL (fun p=>some (.bool (ret p))) (pts 18 18 18):=by kernel_rfl
theorem e23_19 (n:Nat):mapL (fun p=>puN (n + 6) 23 [cv p]) (pts 19 19 19) = mapL (fun p=>some (.bool (ret p))) (pts 19 19 19):=by kernel_rfl
end Go.HpYM
