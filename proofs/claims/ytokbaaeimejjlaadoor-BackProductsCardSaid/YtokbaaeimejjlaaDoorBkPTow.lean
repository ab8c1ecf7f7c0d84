/- BackProducts as a promise. -/
import Derived.Test.YtokbaaeimejjlaaDoorBkChunkx
import Derived.Test.YtokbaaeimejjlaaDoorBkPWkx
import Derived.Test.YtokbaaeimejjlaaDoorBkP63x

set_option maxRecDepth 100000
set_option maxHeartbeats 0
namespace Go.Proofs.YtokbaaeimejjlaaDoor.BkP
open Go Go.Sp Go.BkP Go.BkPM
theorem hw (hm:Tryd.prog.follows .mixedOrders = true):PureOk Tryd.prog tabs 19 orc19∧PureOk Tryd.prog tabs 66 orc66∧PureOk Tryd.prog tabs 77 orc77:=⟨ok19 hm,ok66 hm,⟨(bkFlip_ok hm).1,fun _ _ h=>by cases h⟩⟩
theorem lawOk (hm:Tryd.prog.follows .mixedOrders = true):PureOk Tryd.prog [tab0] 6 (puN 9 6):=pu_ok hm (hw hm) 9 6 (by kernel_rfl)
end Go.Proofs.YtokbaaeimejjlaaDoor.BkP
