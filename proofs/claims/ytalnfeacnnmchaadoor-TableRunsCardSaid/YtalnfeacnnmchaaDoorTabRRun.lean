/- THE RUN of works(), by the kernel. -/
import Derived.Test.YtalnfeacnnmchaaDoorTabRMod1x
import Derived.Test.YtalnfeacnnmchaaDoorSpPlainx

set_option maxRecDepth 100000
namespace Go.TabRM
open Go Go.Sp Go.TabR
theorem worksRun : oo (evFn tt fns 2000 5 [] (tabHeap tab0)) none (fun p => pp p fun v _ => some v) = some (.bool true) := by kernel_rfl
end Go.TabRM
