/- Made from wip. -/
import Derived.Test.YtokbaaeimejjlaaDoorBkPMod1x
import Derived.Test.YtokbaaeimejjlaaDoorBkPMod2
import Derived.Test.YtokbaaeimejjlaaDoorBkPMod3
import Derived.Test.YtokbaaeimejjlaaDoorBkPMod5x

set_option maxRecDepth 100000
namespace Go.BkPM
open Go.Sp Go.BkP
noncomputable section
def L:Nat:=1000000
def disp (pu:PureF):PureF:=fun g args=>
 bb (Nat.beq g 6) (m6 pu L args) (bb (Nat.beq g 10) (m10 pu L args) (bb (Nat.beq g 11) (m11 pu L args) (bb (Nat.beq g 12) (m12 pu L args) (bb (Nat.beq g 22) (m22 pu L args) (bb (Nat.beq g 24) (m24 pu L args) (bb (Nat.beq g 32) (m32 pu L args) (bb (Nat.beq g 33) (m33 pu L args) (bb (Nat.beq g 34) (m34 pu L args) (bb (Nat.beq g 48) (m48 pu L args) (bb (Nat.beq g 49) (m49 pu L args) (bb (Nat.beq g 51) (m51 pu L args) (bb (Nat.beq g 52) (m52 pu L args) (bb (Nat.beq g 53) (m53 pu L args) (bb (Nat.beq g 58) (m58 pu L args) (bb (Nat.beq g 68) (m68 pu L args) (bb (Nat.beq g 69) (m69 pu L args) (bb (Nat.beq g 10250) (m10250 pu L args) (bb (Nat.beq g 19) (orc19 args) (bb (Nat.beq g 66) (orc66 args) (bb (Nat.beq g 77) (orc77 args) (none)))))))))))))))))))))
def puN:Nat→PureF:=fun n=>Nat.rec (motive:=fun _=>PureF) (fun _ _=>none) (fun _ ih=>disp ih) n
end
end Go.BkPM
