/- BackOrbit as a promise. -/
import Derived.Test.YtokbaaeimejjlaaDoorBkChunkx
import Derived.Test.YtokbaaeimejjlaaDoorBkOWkx
import Derived.Test.YtokbaaeimejjlaaDoorBkOQ3

set_option maxRecDepth 100000
set_option maxHeartbeats 0
namespace Go.Proofs.YtokbaaeimejjlaaDoor.BkO
open Go Go.Sp Go.BkO Go.BkOM
theorem hw (hm:Tryd.prog.follows .mixedOrders=true):BA Tryd.prog tabs 19 Uc∧BA Tryd.prog tabs 66 Ud∧BA Tryd.prog tabs 77 Ue:=⟨AhM hm,AhN hm,⟨(QO hm).1,fun _ _ h=>by cases h⟩⟩
theorem lawOk (hm:Tryd.prog.follows .mixedOrders=true):BA Tryd.prog [VY] 3 (Bp 10 3):=Agn hm (hw hm) 10 3 (by kernel_rfl)
end Go.Proofs.YtokbaaeimejjlaaDoor.BkO
