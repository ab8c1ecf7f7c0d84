/- Made from wip. -/
import Derived.Test.YtflonlkiajhhjaaTpMLawx

set_option maxRecDepth 100000
set_option maxHeartbeats 0
namespace Go.Proofs.Ytflonlkiajhhjaa.TpM
open Go Go.Sp Go.TpM Go.TpMM Go.BkQ
theorem w10:ways 1 0=true:=by kernel_rfl
theorem w11:ways 1 1=true:=by kernel_rfl
theorem w12:ways 1 2=true:=by kernel_rfl
theorem w13:ways 1 3=true:=by kernel_rfl
end Go.Proofs.Ytflonlkiajhhjaa.TpM
