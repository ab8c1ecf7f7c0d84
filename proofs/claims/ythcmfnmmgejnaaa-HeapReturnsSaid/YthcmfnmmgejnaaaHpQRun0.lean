/- THE RUN of the examples, by the kernel; functions of counts by their models. -/
import Derived.Test.YthcmfnmmgejnaaaHpQPu
import Derived.Test.YthcmfnmmgejnaaaSpObjSx

set_option maxRecDepth 100000
namespace Go.HpQM
open Go Go.Sp Go.HpQ
noncomputable def isQ : FuncId → Bool := fun g => an (isP g) (nt (memN g [38]))
theorem worksRun : valR (evFnP tabs isQ (puN 30) (inl (puN 30)) tt fns 1000 6 [] (tabsHeap tabs)) = some (.bool true) := by kernel_rfl
end Go.HpQM
