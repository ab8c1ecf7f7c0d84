/- Made from wip. -/
import Derived.Test.YtommhepgkaddaaaGreatHpYLaw2x

set_option maxRecDepth 100000
set_option maxHeartbeats 0
namespace Go.HpYM
open Go Go.Sp Go.HpY Go.HpT
theorem e20_20 (n:Nat):mapL (fun p=>puN (n + 6) 20 [cv p]) (pts 20 20 20) = mapL (fun p=>some (cv (rnd p))) (pts 20 20 20):=by kernel_rfl
theorem e20_21 (n:Nat):mapL (fun p=>puN (n + 6) 20 [cv p]) (pts 21 21 21) = mapL (fun p=>some (cv (rnd p))) (pts 21 21 21):=by kernel_rfl
end Go.HpYM
