/- THE RUN of the examples, by the kernel; functions of counts by their models. -/
import Derived.Test.YthcmfnmmgejnaaaHpBPux
import Derived.Test.YthcmfnmmgejnaaaSpObjx

set_option maxRecDepth 100000
namespace Go.HpBM
open Go Go.Sp Go.HpB
theorem worksRun : valR (evFnP tabs isP (puN 30) (inl (puN 30)) tt fns 1000 6 [] (tabsHeap tabs)) = some (.bool true) := by kernel_rfl
end Go.HpBM
