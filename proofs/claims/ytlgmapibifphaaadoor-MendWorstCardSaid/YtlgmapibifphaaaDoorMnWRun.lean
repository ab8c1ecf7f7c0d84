/- THE RUN of works(), by the kernel. -/
import Derived.Test.YtlgmapibifphaaaDoorMnWMod1x
import Derived.Test.YtlgmapibifphaaaDoorSpObjx

set_option maxRecDepth 100000
namespace Go.MnWM
open Go Go.Sp Go.MnW
theorem Wy:oo (Cr tt LZ 1000 12 [] (M7 PN)) none (fun p=>pp p fun v _=>some v)=some (.bool true):=by kernel_rfl
end Go.MnWM
