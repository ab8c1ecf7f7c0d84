/- Made from wip. -/
import Derived.Test.YtflonlkiajhhjaaGreatDoorTpELawx

set_option linter.unusedVariables false
set_option maxRecDepth 100000
set_option maxHeartbeats 0
namespace Go.Proofs.YtflonlkiajhhjaaGreatDoor.TpE
open Go Go.Sp Go.TpE Go.TpEM Go.BkQ
theorem rn8:Au (fun m=>Au (fun k=>FY (128+m) k) eight) Dr=true:=by kernel_rfl
theorem rn9:Au (fun m=>Au (fun k=>FY (144+m) k) eight) Dr=true:=by kernel_rfl
theorem Am4:Au (fun m=>Au (fun k=>FY (160+m) k) eight) Dr=true:=by kernel_rfl
theorem Am5:Au (fun m=>Au (fun k=>FY (176+m) k) eight) Dr=true:=by kernel_rfl
end Go.Proofs.YtflonlkiajhhjaaGreatDoor.TpE
