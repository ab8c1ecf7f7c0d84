/- Made from wip. -/
import Derived.Test.YtkhedoaiejjcfaaGreatHzBDefx

set_option maxRecDepth 100000
set_option maxHeartbeats 0
namespace Go.HzBM
open Go Go.Sp Go.HzB Go.HpT Go.HtM Go.HyM
noncomputable section
def puX:PureF:=fun g=>bb (Nat.beq g 15) orcR (puN 30 g)
def puW:PureF:=fun g=>bb (Nat.beq g 8) orcE (bb (Nat.beq g 11) orcG (bb (Nat.beq g 16) tru (bb (Nat.beq g 15) orcR (bb (Nat.beq g 10) (m10 puX 1000000) (puN 30 g)))))
end
theorem puW_g (g:FuncId) (h8:Nat.beq g 8 = false) (h11:Nat.beq g 11 = false) (h16:Nat.beq g 16 = false) (h15:Nat.beq g 15 = false) (h10:Nat.beq g 10 = false):puW g = puN 30 g:=by
 unfold puW;rw [h8,bb_false,h11,bb_false,h16,bb_false,h15,bb_false,h10,bb_false]
end Go.HzBM
