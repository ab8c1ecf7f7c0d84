/- THE RUN: what the interpreter gives for MendKnown, by the kernel. -/
import Derived.Test.YtgplhblofefkjaaDoorMendKOk
import Derived.Test.YtgplhblofefkjaaDoorSpGlue
set_option maxRecDepth 100000
namespace Go.Proofs.YtgplhblofefkjaaDoor.MendK
open Go Go.Sp Go.MendK
def tab : List Int := [0, 1, 28, 2, 29, 14, 24, 3, 30, 22, 20, 15, 25, 17, 4, 8, 31, 27, 13, 23, 21, 19, 16, 7, 26, 12, 18, 6, 11, 5, 10, 9]
theorem run : oo (evFn tt fns 1000 11 [] (tabHeap (tab.map fun z => .int .u8 z))) none (fun p => pp p fun v _ => some v) = some (.bool true) := by kernel_rfl
end Go.Proofs.YtgplhblofefkjaaDoor.MendK
