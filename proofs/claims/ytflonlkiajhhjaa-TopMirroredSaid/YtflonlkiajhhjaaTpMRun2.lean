/- Made from wip. -/
import Derived.Test.YtflonlkiajhhjaaTpMLawx

set_option maxRecDepth 100000
set_option maxHeartbeats 0
namespace Go.Proofs.Ytflonlkiajhhjaa.TpM
open Go Go.Sp Go.TpM Go.TpMM Go.BkQ
theorem w20:ways 2 0=true:=by kernel_rfl
theorem w21:ways 2 1=true:=by kernel_rfl
theorem w22:ways 2 2=true:=by kernel_rfl
theorem w23:ways 2 3=true:=by kernel_rfl
end Go.Proofs.Ytflonlkiajhhjaa.TpM
