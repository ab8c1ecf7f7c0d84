/- Made from wip. -/
import Derived.Test.YtkhedoaiejjcfaaGreatHzSMod1x
import Derived.Test.YtkhedoaiejjcfaaGreatHzSMod2
import Derived.Test.YtkhedoaiejjcfaaGreatHzSMod3
import Derived.Test.YtkhedoaiejjcfaaGreatHzSMod5x

set_option maxRecDepth 100000
namespace Go.HzSM
open Go.Sp Go.HzS
noncomputable section
def L:Nat:=1000000
def disp (pu:PureF):PureF:=fun g args=>
 bb (Nat.beq g 5) (m5 pu L args) (bb (Nat.beq g 13) (m13 pu L args) (bb (Nat.beq g 14) (m14 pu L args) (bb (Nat.beq g 15) (m15 pu L args) (bb (Nat.beq g 17) (m17 pu L args) (bb (Nat.beq g 22) (m22 pu L args) (bb (Nat.beq g 23) (m23 pu L args) (bb (Nat.beq g 28) (m28 pu L args) (bb (Nat.beq g 29) (m29 pu L args) (bb (Nat.beq g 30) (m30 pu L args) (bb (Nat.beq g 31) (m31 pu L args) (bb (Nat.beq g 36) (m36 pu L args) (bb (Nat.beq g 55) (m55 pu L args) (bb (Nat.beq g 56) (m56 pu L args) (bb (Nat.beq g 57) (m57 pu L args) (bb (Nat.beq g 59) (m59 pu L args) (bb (Nat.beq g 65) (m65 pu L args) (bb (Nat.beq g 12) (m12 pu L args) (bb (Nat.beq g 41) (m41 pu L args) (bb (Nat.beq g 63) (m63 pu L args) (bb (Nat.beq g 27) (m27 pu L args) (bb (Nat.beq g 10440) (m10440 pu L args) (bb (Nat.beq g 16) (orc16 args) (bb (Nat.beq g 60) (orc60 args) (bb (Nat.beq g 68) (orc68 args) (bb (Nat.beq g 8) (orc8 args) (bb (Nat.beq g 11) (orc11 args) (bb (Nat.beq g 51) (orc51 args) (none))))))))))))))))))))))))))))
def puN:Nat→PureF:=fun n=>Nat.rec (motive:=fun _=>PureF) (fun _ _=>none) (fun _ ih=>disp ih) n
end
end Go.HzSM
