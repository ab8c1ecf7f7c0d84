/- Made from wip. -/
import Derived.Test.YtflonlkiajhhjaaGreatDoorTpDLawx

set_option maxRecDepth 100000
set_option maxHeartbeats 0
namespace Go.Proofs.YtflonlkiajhhjaaGreatDoor.TpD
open Go Go.Sp Go.TpD Go.TpDM Go.BkQ
theorem Ac5:Au (fun pk=>Sc (Gw 5 pk)) (BO 4 [1,2,3,4] [0])=true:=by kernel_rfl
theorem Ac6:Au (fun pk=>Sc (Gw 5 pk)) (BO 4 [0,2,3,4] [1])=true:=by kernel_rfl
theorem Ac7:Au (fun pk=>Sc (Gw 5 pk)) (BO 4 [0,1,3,4] [2])=true:=by kernel_rfl
theorem Ac8:Au (fun pk=>Sc (Gw 5 pk)) (BO 4 [0,1,2,4] [3])=true:=by kernel_rfl
theorem Ac9:Au (fun pk=>Sc (Gw 5 pk)) (BO 4 [0,1,2,3] [4])=true:=by kernel_rfl
end Go.Proofs.YtflonlkiajhhjaaGreatDoor.TpD
