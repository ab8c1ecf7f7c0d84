/- Made from wip. -/
import Derived.Test.YtommhepgkaddaaaGreatHpYPux
import Derived.Test.YtommhepgkaddaaaGreatSpObjx

set_option maxRecDepth 100000
namespace Go.HpYM
open Go Go.Sp Go.HpY
noncomputable def isQ:FuncId→Bool:=fun g=>an (isP g) (nt (memN g [27]))
theorem worksRun:valR (evFnP tabs isQ (puN 30) (inl (puN 30)) tt fns 1000 14 [] (tabsHeap tabs)) = some (.bool true):=by kernel_rfl
end Go.HpYM
