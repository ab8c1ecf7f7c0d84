/- Made from wip. -/
import Derived.Test.YtflonlkiajhhjaaGreatDoorTpFSortx

set_option linter.unusedVariables false
set_option maxRecDepth 100000
set_option maxHeartbeats 0
namespace Go.Proofs.YtflonlkiajhhjaaGreatDoor.TpF
open Go Go.Sp Go.TpF Go.TpFM Go.BkQ
theorem Aka:Au (fun m=>Bp 0 (0+m)) (nums 32)=true:=by kernel_rfl
theorem Akc:Au (fun m=>Bp 1 (0+m)) (nums 32)=true:=by kernel_rfl
theorem Ake:Au (fun m=>Bp 2 (0+m)) (nums 32)=true:=by kernel_rfl
theorem Akf:Au (fun m=>Bp 3 (0+m)) (nums 32)=true:=by kernel_rfl
theorem Akg:Au (fun m=>Bp 0 (32+m)) (nums 32)=true:=by kernel_rfl
theorem Akh:Au (fun m=>Bp 1 (32+m)) (nums 32)=true:=by kernel_rfl
theorem Aki:Au (fun m=>Bp 2 (32+m)) (nums 32)=true:=by kernel_rfl
theorem Akj:Au (fun m=>Bp 3 (32+m)) (nums 32)=true:=by kernel_rfl
theorem Akk:Au (fun m=>Bp 0 (64+m)) (nums 32)=true:=by kernel_rfl
theorem Akl:Au (fun m=>Bp 1 (64+m)) (nums 32)=true:=by kernel_rfl
theorem Akm:Au (fun m=>Bp 2 (64+m)) (nums 32)=true:=by kernel_rfl
theorem Akn:Au (fun m=>Bp 3 (64+m)) (nums 32)=true:=by kernel_rfl
theorem Ako:Au (fun m=>Bp 0 (96+m)) (nums 32)=true:=by kernel_rfl
theorem Akp:Au (fun m=>Bp 1 (96+m)) (nums 32)=true:=by kernel_rfl
theorem Akq:Au (fun m=>Bp 2 (96+m)) (nums 32)=true:=by kernel_rfl
theorem Akr:Au (fun m=>Bp 3 (96+m)) (nums 32)=true:=by kernel_rfl
end Go.Proofs.YtflonlkiajhhjaaGreatDoor.TpF
