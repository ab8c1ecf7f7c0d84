/- Made from wip. -/
import Derived.Test.YtflonlkiajhhjaaGreatDoorTpFSortx

set_option linter.unusedVariables false
set_option maxRecDepth 100000
set_option maxHeartbeats 0
namespace Go.Proofs.YtflonlkiajhhjaaGreatDoor.TpF
open Go Go.Sp Go.TpF Go.TpFM Go.BkQ
theorem AfM:Au (fun m=>Bp 0 (640+m)) (nums 32)=true:=by kernel_rfl
theorem AfN:Au (fun m=>Bp 1 (640+m)) (nums 32)=true:=by kernel_rfl
theorem AfO:Au (fun m=>Bp 2 (640+m)) (nums 32)=true:=by kernel_rfl
theorem AfP:Au (fun m=>Bp 3 (640+m)) (nums 32)=true:=by kernel_rfl
theorem AfQ:Au (fun m=>Bp 0 (672+m)) (nums 32)=true:=by kernel_rfl
theorem AfR:Au (fun m=>Bp 1 (672+m)) (nums 32)=true:=by kernel_rfl
theorem AfS:Au (fun m=>Bp 2 (672+m)) (nums 32)=true:=by kernel_rfl
theorem AfT:Au (fun m=>Bp 3 (672+m)) (nums 32)=true:=by kernel_rfl
theorem AfU:Au (fun m=>Bp 0 (704+m)) (nums 32)=true:=by kernel_rfl
theorem AfV:Au (fun m=>Bp 1 (704+m)) (nums 32)=true:=by kernel_rfl
theorem AfW:Au (fun m=>Bp 2 (704+m)) (nums 32)=true:=by kernel_rfl
theorem AfX:Au (fun m=>Bp 3 (704+m)) (nums 32)=true:=by kernel_rfl
theorem AfY:Au (fun m=>Bp 0 (736+m)) (nums 32)=true:=by kernel_rfl
theorem AfZ:Au (fun m=>Bp 1 (736+m)) (nums 32)=true:=by kernel_rfl
theorem Af0:Au (fun m=>Bp 2 (736+m)) (nums 32)=true:=by kernel_rfl
theorem Af1:Au (fun m=>Bp 3 (736+m)) (nums 32)=true:=by kernel_rfl
end Go.Proofs.YtflonlkiajhhjaaGreatDoor.TpF
