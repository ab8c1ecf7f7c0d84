/- THE RUN of works(), by the kernel. -/
import Derived.Test.YtgplhblofefkjaaDoorMendTMod0x
import Derived.Test.YtgplhblofefkjaaDoorSpPlainx

set_option maxRecDepth 100000
namespace Go.MendM
open Go Go.Sp Go.MendT
theorem worksRun : oo (evFn tt fns 1000 15 [] (tabHeap tab0)) none (fun p => pp p fun v _ => some v) = some (.bool true) := by kernel_rfl
end Go.MendM
