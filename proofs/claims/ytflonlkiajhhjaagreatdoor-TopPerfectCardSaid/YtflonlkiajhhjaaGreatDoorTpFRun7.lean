/- Made from wip. -/
import Derived.Test.YtflonlkiajhhjaaGreatDoorTpFSortx

set_option linter.unusedVariables false
set_option maxRecDepth 100000
set_option maxHeartbeats 0
namespace Go.Proofs.YtflonlkiajhhjaaGreatDoor.TpF
open Go Go.Sp Go.TpF Go.TpFM Go.BkQ
theorem Agj:Au (fun m=>Bp 0 (896+m)) (nums 32)=true:=by kernel_rfl
theorem Agk:Au (fun m=>Bp 1 (896+m)) (nums 32)=true:=by kernel_rfl
theorem Agl:Au (fun m=>Bp 2 (896+m)) (nums 32)=true:=by kernel_rfl
theorem Agm:Au (fun m=>Bp 3 (896+m)) (nums 32)=true:=by kernel_rfl
theorem Agn:Au (fun m=>Bp 0 (928+m)) (nums 32)=true:=by kernel_rfl
theorem Ago:Au (fun m=>Bp 1 (928+m)) (nums 32)=true:=by kernel_rfl
theorem Agp:Au (fun m=>Bp 2 (928+m)) (nums 32)=true:=by kernel_rfl
theorem Agq:Au (fun m=>Bp 3 (928+m)) (nums 32)=true:=by kernel_rfl
theorem Agr:Au (fun m=>Bp 0 (960+m)) (nums 32)=true:=by kernel_rfl
theorem Ags:Au (fun m=>Bp 1 (960+m)) (nums 32)=true:=by kernel_rfl
theorem Agt:Au (fun m=>Bp 2 (960+m)) (nums 32)=true:=by kernel_rfl
theorem Agu:Au (fun m=>Bp 3 (960+m)) (nums 32)=true:=by kernel_rfl
theorem Agv:Au (fun m=>Bp 0 (992+m)) (nums 32)=true:=by kernel_rfl
theorem Agw:Au (fun m=>Bp 1 (992+m)) (nums 32)=true:=by kernel_rfl
theorem Agx:Au (fun m=>Bp 2 (992+m)) (nums 32)=true:=by kernel_rfl
theorem Agy:Au (fun m=>Bp 3 (992+m)) (nums 32)=true:=by kernel_rfl
end Go.Proofs.YtflonlkiajhhjaaGreatDoor.TpF
