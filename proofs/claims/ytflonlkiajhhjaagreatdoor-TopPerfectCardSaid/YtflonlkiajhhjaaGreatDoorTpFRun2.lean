/- Made from wip. -/
import Derived.Test.YtflonlkiajhhjaaGreatDoorTpFSortx

set_option linter.unusedVariables false
set_option maxRecDepth 100000
set_option maxHeartbeats 0
namespace Go.Proofs.YtflonlkiajhhjaaGreatDoor.TpF
open Go Go.Sp Go.TpF Go.TpFM Go.BkQ
theorem AkI:Au (fun m=>Bp 0 (256+m)) (nums 32)=true:=by kernel_rfl
theorem AkJ:Au (fun m=>Bp 1 (256+m)) (nums 32)=true:=by kernel_rfl
theorem AkK:Au (fun m=>Bp 2 (256+m)) (nums 32)=true:=by kernel_rfl
theorem AkL:Au (fun m=>Bp 3 (256+m)) (nums 32)=true:=by kernel_rfl
theorem AkM:Au (fun m=>Bp 0 (288+m)) (nums 32)=true:=by kernel_rfl
theorem AkN:Au (fun m=>Bp 1 (288+m)) (nums 32)=true:=by kernel_rfl
theorem AkO:Au (fun m=>Bp 2 (288+m)) (nums 32)=true:=by kernel_rfl
theorem AkP:Au (fun m=>Bp 3 (288+m)) (nums 32)=true:=by kernel_rfl
theorem Ae7:Au (fun m=>Bp 0 (320+m)) (nums 32)=true:=by kernel_rfl
theorem Ae8:Au (fun m=>Bp 1 (320+m)) (nums 32)=true:=by kernel_rfl
theorem Ae9:Au (fun m=>Bp 2 (320+m)) (nums 32)=true:=by kernel_rfl
theorem Afa:Au (fun m=>Bp 3 (320+m)) (nums 32)=true:=by kernel_rfl
theorem Afb:Au (fun m=>Bp 0 (352+m)) (nums 32)=true:=by kernel_rfl
theorem Afc:Au (fun m=>Bp 1 (352+m)) (nums 32)=true:=by kernel_rfl
theorem Afd:Au (fun m=>Bp 2 (352+m)) (nums 32)=true:=by kernel_rfl
theorem Afe:Au (fun m=>Bp 3 (352+m)) (nums 32)=true:=by kernel_rfl
end Go.Proofs.YtflonlkiajhhjaaGreatDoor.TpF
