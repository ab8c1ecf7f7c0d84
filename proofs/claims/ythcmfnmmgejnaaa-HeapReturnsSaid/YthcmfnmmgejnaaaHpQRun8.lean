/- What the kernel sees of the models at all heaps of at most 21 cards: MADE BY PROGRAM (wip/hq/runs.py). -/
import Derived.Test.YthcmfnmmgejnaaaHpQLaw1x

set_option maxRecDepth 100000
set_option maxHeartbeats 0
namespace Go.HpQM
open Go Go.Sp Go.HpQ Go.HpT
theorem e34_21 (n : Nat) : mapL (fun p => puN (n + 6) 34 [cv p]) (pts 21 21 21) = mapL (fun p => some (.bool (ret p))) (pts 21 21 21) := by kernel_rfl
end Go.HpQM
