/- THE RUN of works(), by the kernel. -/
import Derived.Test.YtlgmapibifphaaaDoorMnNMod1x
import Derived.Test.YtlgmapibifphaaaDoorSpObjx

set_option maxRecDepth 100000
namespace Go.MnNM
open Go Go.Sp Go.MnN
theorem Xb:oo (Cr tt LX 1000 12 [] (M7 QB)) none (fun p=>pp p fun v _=>some v)=some (.bool true):=by kernel_rfl
end Go.MnNM
