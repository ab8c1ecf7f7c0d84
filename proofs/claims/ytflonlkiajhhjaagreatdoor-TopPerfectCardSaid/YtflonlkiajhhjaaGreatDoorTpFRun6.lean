/- Made from wip. -/
import Derived.Test.YtflonlkiajhhjaaGreatDoorTpFSortx

set_option linter.unusedVariables false
set_option maxRecDepth 100000
set_option maxHeartbeats 0
namespace Go.Proofs.YtflonlkiajhhjaaGreatDoor.TpF
open Go Go.Sp Go.TpF Go.TpFM Go.BkQ
theorem Af2:Au (fun m=>Bp 0 (768+m)) (nums 32)=true:=by kernel_rfl
theorem Af3:Au (fun m=>Bp 1 (768+m)) (nums 32)=true:=by kernel_rfl
theorem Af4:Au (fun m=>Bp 2 (768+m)) (nums 32)=true:=by kernel_rfl
theorem Af5:Au (fun m=>Bp 3 (768+m)) (nums 32)=true:=by kernel_rfl
theorem Af6:Au (fun m=>Bp 0 (800+m)) (nums 32)=true:=by kernel_rfl
theorem Af7:Au (fun m=>Bp 1 (800+m)) (nums 32)=true:=by kernel_rfl
theorem Af8:Au (fun m=>Bp 2 (800+m)) (nums 32)=true:=by kernel_rfl
theorem Af9:Au (fun m=>Bp 3 (800+m)) (nums 32)=true:=by kernel_rfl
theorem Aga:Au (fun m=>Bp 0 (832+m)) (nums 32)=true:=by kernel_rfl
theorem Agb:Au (fun m=>Bp 1 (832+m)) (nums 32)=true:=by kernel_rfl
theorem Agc:Au (fun m=>Bp 2 (832+m)) (nums 32)=true:=by kernel_rfl
theorem Agd:Au (fun m=>Bp 3 (832+m)) (nums 32)=true:=by kernel_rfl
theorem Agf:Au (fun m=>Bp 0 (864+m)) (nums 32)=true:=by kernel_rfl
theorem Agg:Au (fun m=>Bp 1 (864+m)) (nums 32)=true:=by kernel_rfl
theorem Agh:Au (fun m=>Bp 2 (864+m)) (nums 32)=true:=by kernel_rfl
theorem Agi:Au (fun m=>Bp 3 (864+m)) (nums 32)=true:=by kernel_rfl
end Go.Proofs.YtflonlkiajhhjaaGreatDoor.TpF
