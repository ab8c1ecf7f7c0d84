/- THE RUN of works(), by the kernel. -/
import Derived.Test.YtpfpakeeaehmhaaDoorTbWMod0x
import Derived.Test.YtpfpakeeaehmhaaDoorSpObjx

set_option maxRecDepth 100000
namespace Go.TbWM
open Go Go.Sp Go.TbW
theorem Wn:oo (Cr tt LW 2000 10 [] (M7 Pe)) none (fun p=>pp p fun v _=>some v)=some (.bool true):=by kernel_rfl
end Go.TbWM
