/- Made from wip. -/
import Derived.Test.YtflonlkiajhhjaaGreatDoorTpFSortx

set_option linter.unusedVariables false
set_option maxRecDepth 100000
set_option maxHeartbeats 0
namespace Go.Proofs.YtflonlkiajhhjaaGreatDoor.TpF
open Go Go.Sp Go.TpF Go.TpFM Go.BkQ
theorem Aff:Au (fun m=>Bp 0 (384+m)) (nums 32)=true:=by kernel_rfl
theorem Afg:Au (fun m=>Bp 1 (384+m)) (nums 32)=true:=by kernel_rfl
theorem Afh:Au (fun m=>Bp 2 (384+m)) (nums 32)=true:=by kernel_rfl
theorem Afi:Au (fun m=>Bp 3 (384+m)) (nums 32)=true:=by kernel_rfl
theorem Afj:Au (fun m=>Bp 0 (416+m)) (nums 32)=true:=by kernel_rfl
theorem Afk:Au (fun m=>Bp 1 (416+m)) (nums 32)=true:=by kernel_rfl
theorem Afl:Au (fun m=>Bp 2 (416+m)) (nums 32)=true:=by kernel_rfl
theorem Afm:Au (fun m=>Bp 3 (416+m)) (nums 32)=true:=by kernel_rfl
theorem Afn:Au (fun m=>Bp 0 (448+m)) (nums 32)=true:=by kernel_rfl
theorem Afo:Au (fun m=>Bp 1 (448+m)) (nums 32)=true:=by kernel_rfl
theorem Afp:Au (fun m=>Bp 2 (448+m)) (nums 32)=true:=by kernel_rfl
theorem Afq:Au (fun m=>Bp 3 (448+m)) (nums 32)=true:=by kernel_rfl
theorem Afr:Au (fun m=>Bp 0 (480+m)) (nums 32)=true:=by kernel_rfl
theorem Afs:Au (fun m=>Bp 1 (480+m)) (nums 32)=true:=by kernel_rfl
theorem Afu:Au (fun m=>Bp 2 (480+m)) (nums 32)=true:=by kernel_rfl
theorem Afv:Au (fun m=>Bp 3 (480+m)) (nums 32)=true:=by kernel_rfl
end Go.Proofs.YtflonlkiajhhjaaGreatDoor.TpF
