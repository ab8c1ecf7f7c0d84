/- Made from wip. -/
import Derived.Test.YtflonlkiajhhjaaTpMLawx

set_option maxRecDepth 100000
set_option maxHeartbeats 0
namespace Go.Proofs.Ytflonlkiajhhjaa.TpM
open Go Go.Sp Go.TpM Go.TpMM Go.BkQ
theorem w00:ways 0 0=true:=by kernel_rfl
theorem w01:ways 0 1=true:=by kernel_rfl
theorem w02:ways 0 2=true:=by kernel_rfl
theorem w03:ways 0 3=true:=by kernel_rfl
end Go.Proofs.Ytflonlkiajhhjaa.TpM
