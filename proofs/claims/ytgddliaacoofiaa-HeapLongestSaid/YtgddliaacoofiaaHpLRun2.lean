/- THE RUNS of what comes back, and of works(), by the kernel. -/
import Derived.Test.YtgddliaacoofiaaHpLDefx

set_option maxRecDepth 100000
namespace Go.HpLM
open Go Go.Sp Go.HpL Go.HpT
theorem run47 : allP 14 chk47 = true := by kernel_rfl
theorem run11 : ev0 11 [] = some (.bool true) := by kernel_rfl
end Go.HpLM
