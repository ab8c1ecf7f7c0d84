/- Made from wip. -/
import Derived.Test.YtflonlkiajhhjaaGreatDoorTpELawx

set_option linter.unusedVariables false
set_option maxRecDepth 100000
set_option maxHeartbeats 0
namespace Go.Proofs.YtflonlkiajhhjaaGreatDoor.TpE
open Go Go.Sp Go.TpE Go.TpEM Go.BkQ
theorem rn4:Au (fun m=>Au (fun k=>FY (64+m) k) eight) Dr=true:=by kernel_rfl
theorem rn5:Au (fun m=>Au (fun k=>FY (80+m) k) eight) Dr=true:=by kernel_rfl
theorem rn6:Au (fun m=>Au (fun k=>FY (96+m) k) eight) Dr=true:=by kernel_rfl
theorem rn7:Au (fun m=>Au (fun k=>FY (112+m) k) eight) Dr=true:=by kernel_rfl
end Go.Proofs.YtflonlkiajhhjaaGreatDoor.TpE
