/- Made from wip. -/
import Derived.Test.YtflonlkiajhhjaaGreatDoorTpELawx

set_option linter.unusedVariables false
set_option maxRecDepth 100000
set_option maxHeartbeats 0
namespace Go.Proofs.YtflonlkiajhhjaaGreatDoor.TpE
open Go Go.Sp Go.TpE Go.TpEM Go.BkQ
theorem Am6:Au (fun m=>Au (fun k=>FY (192+m) k) eight) Dr=true:=by kernel_rfl
theorem Am7:Au (fun m=>Au (fun k=>FY (208+m) k) eight) Dr=true:=by kernel_rfl
theorem Am8:Au (fun m=>Au (fun k=>FY (224+m) k) eight) Dr=true:=by kernel_rfl
theorem Am9:Au (fun m=>Au (fun k=>FY (240+m) k) eight) Dr=true:=by kernel_rfl
end Go.Proofs.YtflonlkiajhhjaaGreatDoor.TpE
