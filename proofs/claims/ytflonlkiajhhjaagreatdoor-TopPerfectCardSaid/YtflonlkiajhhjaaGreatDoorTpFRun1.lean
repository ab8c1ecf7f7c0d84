/- Made from wip. -/
import Derived.Test.YtflonlkiajhhjaaGreatDoorTpFSortx

set_option linter.unusedVariables false
set_option maxRecDepth 100000
set_option maxHeartbeats 0
namespace Go.Proofs.YtflonlkiajhhjaaGreatDoor.TpF
open Go Go.Sp Go.TpF Go.TpFM Go.BkQ
theorem Aks:Au (fun m=>Bp 0 (128+m)) (nums 32)=true:=by kernel_rfl
theorem Akt:Au (fun m=>Bp 1 (128+m)) (nums 32)=true:=by kernel_rfl
theorem Aku:Au (fun m=>Bp 2 (128+m)) (nums 32)=true:=by kernel_rfl
theorem Akv:Au (fun m=>Bp 3 (128+m)) (nums 32)=true:=by kernel_rfl
theorem Akw:Au (fun m=>Bp 0 (160+m)) (nums 32)=true:=by kernel_rfl
theorem Akx:Au (fun m=>Bp 1 (160+m)) (nums 32)=true:=by kernel_rfl
theorem Aky:Au (fun m=>Bp 2 (160+m)) (nums 32)=true:=by kernel_rfl
theorem Akz:Au (fun m=>Bp 3 (160+m)) (nums 32)=true:=by kernel_rfl
theorem AkA:Au (fun m=>Bp 0 (192+m)) (nums 32)=true:=by kernel_rfl
theorem AkB:Au (fun m=>Bp 1 (192+m)) (nums 32)=true:=by kernel_rfl
theorem AkC:Au (fun m=>Bp 2 (192+m)) (nums 32)=true:=by kernel_rfl
theorem AkD:Au (fun m=>Bp 3 (192+m)) (nums 32)=true:=by kernel_rfl
theorem AkE:Au (fun m=>Bp 0 (224+m)) (nums 32)=true:=by kernel_rfl
theorem AkF:Au (fun m=>Bp 1 (224+m)) (nums 32)=true:=by kernel_rfl
theorem AkG:Au (fun m=>Bp 2 (224+m)) (nums 32)=true:=by kernel_rfl
theorem AkH:Au (fun m=>Bp 3 (224+m)) (nums 32)=true:=by kernel_rfl
end Go.Proofs.YtflonlkiajhhjaaGreatDoor.TpF
