/- Made from wip. -/
import Derived.Test.YtflonlkiajhhjaaTpMLawx

set_option maxRecDepth 100000
set_option maxHeartbeats 0
namespace Go.Proofs.Ytflonlkiajhhjaa.TpM
open Go Go.Sp Go.TpM Go.TpMM Go.BkQ
theorem w30:ways 3 0=true:=by kernel_rfl
theorem w31:ways 3 1=true:=by kernel_rfl
theorem w32:ways 3 2=true:=by kernel_rfl
theorem w33:ways 3 3=true:=by kernel_rfl
end Go.Proofs.Ytflonlkiajhhjaa.TpM
