/- THE RUN of works(), by the kernel. -/
import Derived.Test.YtgplhblofefkjaaDoorMendNMod1x
import Derived.Test.YtgplhblofefkjaaDoorSpLawx

set_option maxRecDepth 100000
namespace Go.MendNM
open Go Go.Sp Go.MendN
theorem worksRun : oo (evFn tt fns 1000 15 [] (tabHeap tab0)) none (fun p => pp p fun v _ => some v) = some (.bool true) := by kernel_rfl
end Go.MendNM
