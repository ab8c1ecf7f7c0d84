/- THE RUNS of the reference's Longest at 14 cards, by the kernel. -/
import Derived.Test.YtgddliaacoofiaaHpLDef2x

set_option maxRecDepth 100000
namespace Go.HpLM
open Go Go.Sp Go.HpL Go.HpT
theorem r37_14 : ev2t 37 [.int .i64 (.ofNat 14)] = some (longV (14, [3, 3, 2, 2, 2, 1, 1])) := by kernel_rfl
end Go.HpLM
