/- THE RUN of works(), by the kernel. -/
import Derived.Test.YtlgmapibifphaaaDoorMnOMod1x
import Derived.Test.YtlgmapibifphaaaDoorSpObjx

set_option maxRecDepth 100000
namespace Go.MnOM
open Go Go.Sp Go.MnO
theorem Yr:oo (Cr tt OD 1000 12 [] (M7 Sk)) none (fun p=>pp p fun v _=>some v)=some (.bool true):=by kernel_rfl
end Go.MnOM
