/- THE RUN of works(), by the kernel. -/
import Derived.Test.YtlgmapibifphaaaDoorMdTMod0x
import Derived.Test.YtlgmapibifphaaaDoorSpObjx

set_option maxRecDepth 100000
namespace Go.MdTM
open Go Go.Sp Go.MdT
theorem UV:oo (Cr tt K4 1000 12 [] (M7 Pg)) none (fun p=>pp p fun v _=>some v)=some (.bool true):=by kernel_rfl
end Go.MdTM
