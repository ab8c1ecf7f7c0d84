/- What the kernel sees of the models at all heaps of at most 21 cards: MADE BY PROGRAM (wip/hr/runs.py). -/
import Derived.Test.YtjjcahbfhfngdaaHpRLaw1x

set_option maxRecDepth 100000
set_option maxHeartbeats 0
namespace Go.HpRM
open Go Go.Sp Go.HpR Go.HpT
theorem e34_21 (n : Nat) : mapL (fun p => puN (n + 6) 34 [cv p]) (pts 21 21 21) = mapL (fun p => some (.bool (ret p))) (pts 21 21 21) := by kernel_rfl
end Go.HpRM
