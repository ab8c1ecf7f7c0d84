/- THE RUNS of rounds, and of what comes back, over all heaps of at most 14 cards, by the kernel. -/
import Derived.Test.YtgddliaacoofiaaHpLDefx

set_option maxRecDepth 100000
namespace Go.HpLM
open Go Go.Sp Go.HpL Go.HpT
theorem run51 : allP 14 chk51 = true := by kernel_rfl
theorem run43 : allP 14 chk43 = true := by kernel_rfl
end Go.HpLM
