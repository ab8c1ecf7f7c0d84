/- THE RUN of the law HeapKnown, by the kernel; functions of counts by their models. -/
import Derived.Test.YtgddliaacoofiaaHpAPux
import Derived.Test.YtgddliaacoofiaaSpClox

set_option maxRecDepth 100000
namespace Go.HpAM
open Go Go.Sp Go.HpA
theorem knownRun : valR (evFnP tabs isP (puN 30) (inl (puN 30)) tt fns 1000 8 [] (tabsHeap tabs)) = some (.bool true) := by kernel_rfl
end Go.HpAM
