/- Made from wip. -/
import Derived.Test.YtflonlkiajhhjaaGreatDoorTpELawx

set_option linter.unusedVariables false
set_option maxRecDepth 100000
set_option maxHeartbeats 0
namespace Go.Proofs.YtflonlkiajhhjaaGreatDoor.TpE
open Go Go.Sp Go.TpE Go.TpEM Go.BkQ
theorem rn0:Au (fun m=>Au (fun k=>FY (0+m) k) eight) Dr=true:=by kernel_rfl
theorem rn1:Au (fun m=>Au (fun k=>FY (16+m) k) eight) Dr=true:=by kernel_rfl
theorem rn2:Au (fun m=>Au (fun k=>FY (32+m) k) eight) Dr=true:=by kernel_rfl
theorem rn3:Au (fun m=>Au (fun k=>FY (48+m) k) eight) Dr=true:=by kernel_rfl
end Go.Proofs.YtflonlkiajhhjaaGreatDoor.TpE
