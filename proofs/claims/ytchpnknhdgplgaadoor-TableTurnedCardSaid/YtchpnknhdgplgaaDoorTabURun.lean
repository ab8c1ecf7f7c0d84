/- THE RUN of works(), by the kernel. -/
import Derived.Test.YtchpnknhdgplgaaDoorTabUMod0x
import Derived.Test.YtchpnknhdgplgaaDoorSpLawx

set_option maxRecDepth 100000
namespace Go.TabUM
open Go Go.Sp Go.TabU
theorem worksRun : oo (evFn tt fns 2000 8 [] (tabHeap tab0)) none (fun p => pp p fun v _ => some v) = some (.bool true) := by kernel_rfl
end Go.TabUM
