/- BackMore as a promise. -/
import Derived.Test.YtokbaaeimejjlaaDoorBkMJoinx
import Derived.Test.YtokbaaeimejjlaaDoorBkMWkx
import Derived.Test.YtokbaaeimejjlaaDoorBkMXx

set_option maxRecDepth 100000
set_option maxHeartbeats 0
namespace Go.Proofs.YtokbaaeimejjlaaDoor.BkM
open Go Go.Sp Go.BkM Go.BkMM
theorem hw (hm:Tryd.prog.follows .mixedOrders=true):BA Tryd.prog tabs 19 UQ∧BA Tryd.prog tabs 66 UR∧BA Tryd.prog tabs 77 UT:=⟨AiK hm,AiL hm,⟨(RZ hm).1,fun _ _ h=>by cases h⟩⟩
theorem lawOk (hm:Tryd.prog.follows .mixedOrders=true):BA Tryd.prog [QH] 5 (Bp 20 5):=Ag5 hm (hw hm) 20 5 (by kernel_rfl)
end Go.Proofs.YtokbaaeimejjlaaDoor.BkM
