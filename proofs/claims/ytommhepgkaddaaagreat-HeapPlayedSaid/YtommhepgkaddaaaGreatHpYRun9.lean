/- Made from wip. -/
import Derived.Test.YtommhepgkaddaaaGreatHpYLaw2x

set_option maxRecDepth 100000
set_option maxHeartbeats 0
namespace Go.HpYM
open Go Go.Sp Go.HpY Go.HpT
theorem e23_21 (n:Nat):mapL (fun p=>puN (n + 6) 23 [cv p]) (pts 21 21 21) = mapL (fun p=>some (.bool (ret p))) (pts 21 21 21):=by kernel_rfl
end Go.HpYM
