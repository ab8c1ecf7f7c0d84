/- Made from wip. -/
import Derived.Test.YtflonlkiajhhjaaGreatDoorTpDLawx

set_option maxRecDepth 100000
set_option maxHeartbeats 0
namespace Go.Proofs.YtflonlkiajhhjaaGreatDoor.TpD
open Go Go.Sp Go.TpD Go.TpDM Go.BkQ
theorem rn1:Au (fun pk=>Sc (Gw 1 pk)) (BO 1 [0] [])=true:=by kernel_rfl
theorem rn2:Au (fun pk=>Sc (Gw 2 pk)) (BO 2 [0,1] [])=true:=by kernel_rfl
theorem rn3:Au (fun pk=>Sc (Gw 3 pk)) (BO 3 [0,1,2] [])=true:=by kernel_rfl
theorem rn4:Au (fun pk=>Sc (Gw 4 pk)) (BO 4 [0,1,2,3] [])=true:=by kernel_rfl
end Go.Proofs.YtflonlkiajhhjaaGreatDoor.TpD
