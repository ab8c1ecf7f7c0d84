/- Made from wip. -/
import Derived.Test.YtkhedoaiejjcfaaGreatHzLDefx

set_option maxRecDepth 100000
set_option maxHeartbeats 0
namespace Go.HzLM
open Go Go.Sp Go.HzL Go.HpT Go.HtM Go.HyM
noncomputable section
def puW:PureF:=fun g=>bb (Nat.beq g 8) orcE (bb (Nat.beq g 25) orcM (bb (Nat.beq g 16) tru (bb (Nat.beq g 15) orcR (puN 30 g))))
end
theorem puW_g (g:FuncId) (h8:Nat.beq g 8 = false) (h25:Nat.beq g 25 = false) (h16:Nat.beq g 16 = false) (h15:Nat.beq g 15 = false):puW g = puN 30 g:=by
 unfold puW;rw [h8,bb_false,h25,bb_false,h16,bb_false,h15,bb_false]
end Go.HzLM
