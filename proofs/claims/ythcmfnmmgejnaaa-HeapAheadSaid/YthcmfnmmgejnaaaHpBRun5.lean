/- What the kernel sees of the models at all heaps of at most 21 cards: MADE BY PROGRAM (wip/hb/runs.py). -/
import Derived.Test.YthcmfnmmgejnaaaHpBLaw1x

set_option maxRecDepth 100000
set_option maxHeartbeats 0
namespace Go.HpBM
open Go Go.Sp Go.HpB Go.HpT
theorem e28_21 (n : Nat) : mapL (fun p => puN (n + 12) 28 [cv p]) (pts 21 21 21) = mapL (fun p => some (llV (aheadT p))) (pts 21 21 21) := by kernel_rfl
end Go.HpBM
