/- THE RUN of works(), by the kernel. -/
import Derived.Test.YtglnihplphhhoaaDoorTbGMod1x
import Derived.Test.YtglnihplphhhoaaDoorSpObjx

set_option maxRecDepth 100000
namespace Go.TbGM
open Go Go.Sp Go.TbG
theorem Pe:oo (Cr tt Gv 2000 11 [] (M7 ML)) none (fun p=>pp p fun v _=>some v)=some (.bool true):=by kernel_rfl
end Go.TbGM
