/- THE RUN: what the interpreter gives for TableKnown, by the kernel. -/
import Derived.Test.YtcjocjoaphpclaaDoorTableKOk
import Derived.Test.YtcjocjoaphpclaaDoorSpGlue
set_option maxRecDepth 100000
namespace Go.Proofs.YtcjocjoaphpclaaDoor.TableK
open Go Go.Sp Go.TableK
def tab : List Int := [0, 1, 56, 2, 57, 49, 28, 3, 61, 58, 42, 50, 38, 29, 17, 4, 62, 47, 59, 36, 45, 43, 51, 22, 53, 39, 33, 30, 24, 18, 12, 5, 63, 55, 48, 27, 60, 41, 37, 16, 46, 35, 44, 21, 52, 32, 23, 11, 54, 26, 40, 15, 34, 20, 31, 10, 25, 14, 19, 9, 13, 8, 7, 6]
theorem run : oo (evFn tt fns 4000 10 [] (tabHeap (tab.map fun z => .int .u8 z))) none (fun p => pp p fun v _ => some v) = some (.bool true) := by kernel_rfl
end Go.Proofs.YtcjocjoaphpclaaDoor.TableK
