/- THE RUN of works(), by the kernel. -/
import Derived.Test.YtglnihplphhhoaaDoorTbRMod1x
import Derived.Test.YtglnihplphhhoaaDoorSpObjx

set_option maxRecDepth 100000
namespace Go.TbRM
open Go Go.Sp Go.TbR
theorem Sq:oo (Cr tt JO 2000 11 [] (M7 L6)) none (fun p=>pp p fun v _=>some v)=some (.bool true):=by kernel_rfl
end Go.TbRM
