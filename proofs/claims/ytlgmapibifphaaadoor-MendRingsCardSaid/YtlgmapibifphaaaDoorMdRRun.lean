/- THE RUN of works(), by the kernel. -/
import Derived.Test.YtlgmapibifphaaaDoorMdRMod0x
import Derived.Test.YtlgmapibifphaaaDoorSpLawx

set_option maxRecDepth 100000
namespace Go.MdRM
open Go Go.Sp Go.MdR
theorem worksRun : oo (evFn tt fns 1000 12 [] (tabHeap tab0)) none (fun p => pp p fun v _ => some v) = some (.bool true) := by kernel_rfl
end Go.MdRM
