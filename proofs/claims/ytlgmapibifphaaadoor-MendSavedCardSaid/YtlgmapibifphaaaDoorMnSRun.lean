/- THE RUN of works(), by the kernel. -/
import Derived.Test.YtlgmapibifphaaaDoorMnSMod0x
import Derived.Test.YtlgmapibifphaaaDoorSpObjx
set_option maxRecDepth 100000
namespace Go.MnSM
open Go Go.Sp Go.MnS
theorem gL:oo (Cr tt Pf 1000 12 [] (M7 UY)) none (λp=>pp p λv _=>some v)=some (.bool true):=by kernel_rfl
end Go.MnSM
