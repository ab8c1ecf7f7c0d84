/- BackShown as a promise. -/
import Derived.Test.YtokbaaeimejjlaaDoorBkSJoinx
import Derived.Test.YtokbaaeimejjlaaDoorBkSWkx
import Derived.Test.YtokbaaeimejjlaaDoorBkSXx

set_option maxRecDepth 100000
set_option maxHeartbeats 0
namespace Go.Proofs.YtokbaaeimejjlaaDoor.BkS
open Go Go.Sp Go.BkS Go.BkSM
theorem hw (hm:Tryd.prog.follows .mixedOrders=true):BA Tryd.prog tabs 19 RV∧BA Tryd.prog tabs 66 RX∧BA Tryd.prog tabs 77 RY:=⟨AeD hm,AeE hm,⟨(Pk hm).1,fun _ _ h=>by cases h⟩⟩
theorem lawOk (hm:Tryd.prog.follows .mixedOrders=true):BA Tryd.prog [OY] 4 (Bp 20 4):=Ads hm (hw hm) 20 4 (by kernel_rfl)
end Go.Proofs.YtokbaaeimejjlaaDoor.BkS
