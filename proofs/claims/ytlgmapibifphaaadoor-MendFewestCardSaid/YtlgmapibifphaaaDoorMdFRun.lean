/- THE RUN of works(), by the kernel. -/
import Derived.Test.YtlgmapibifphaaaDoorMdFMod0x
import Derived.Test.YtlgmapibifphaaaDoorSpLawx

set_option maxRecDepth 100000
namespace Go.MdFM
open Go Go.Sp Go.MdF
theorem worksRun:oo (evFn tt fns 1000 12 [] (tabHeap tab0)) none (fun p=>pp p fun v _=>some v) = some (.bool true):=by kernel_rfl
end Go.MdFM
