/- Made from wip. -/
import Derived.Test.YtflonlkiajhhjaaGreatDoorTpFSortx

set_option linter.unusedVariables false
set_option maxRecDepth 100000
set_option maxHeartbeats 0
namespace Go.Proofs.YtflonlkiajhhjaaGreatDoor.TpF
open Go Go.Sp Go.TpF Go.TpFM Go.BkQ
theorem Afw:Au (fun m=>Bp 0 (512+m)) (nums 32)=true:=by kernel_rfl
theorem Afx:Au (fun m=>Bp 1 (512+m)) (nums 32)=true:=by kernel_rfl
theorem Afy:Au (fun m=>Bp 2 (512+m)) (nums 32)=true:=by kernel_rfl
theorem Afz:Au (fun m=>Bp 3 (512+m)) (nums 32)=true:=by kernel_rfl
theorem AfA:Au (fun m=>Bp 0 (544+m)) (nums 32)=true:=by kernel_rfl
theorem AfB:Au (fun m=>Bp 1 (544+m)) (nums 32)=true:=by kernel_rfl
theorem AfC:Au (fun m=>Bp 2 (544+m)) (nums 32)=true:=by kernel_rfl
theorem AfD:Au (fun m=>Bp 3 (544+m)) (nums 32)=true:=by kernel_rfl
theorem AfE:Au (fun m=>Bp 0 (576+m)) (nums 32)=true:=by kernel_rfl
theorem AfF:Au (fun m=>Bp 1 (576+m)) (nums 32)=true:=by kernel_rfl
theorem AfG:Au (fun m=>Bp 2 (576+m)) (nums 32)=true:=by kernel_rfl
theorem AfH:Au (fun m=>Bp 3 (576+m)) (nums 32)=true:=by kernel_rfl
theorem AfI:Au (fun m=>Bp 0 (608+m)) (nums 32)=true:=by kernel_rfl
theorem AfJ:Au (fun m=>Bp 1 (608+m)) (nums 32)=true:=by kernel_rfl
theorem AfK:Au (fun m=>Bp 2 (608+m)) (nums 32)=true:=by kernel_rfl
theorem AfL:Au (fun m=>Bp 3 (608+m)) (nums 32)=true:=by kernel_rfl
end Go.Proofs.YtflonlkiajhhjaaGreatDoor.TpF
