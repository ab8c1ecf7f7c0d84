/- Made from wip. -/
import Derived.Test.YtflonlkiajhhjaaTpMMod1
import Derived.Test.YtflonlkiajhhjaaTpMMod2
import Derived.Test.YtflonlkiajhhjaaTpMMod3
import Derived.Test.YtflonlkiajhhjaaTpMMod4
import Derived.Test.YtflonlkiajhhjaaTpMMod5
import Derived.Test.YtflonlkiajhhjaaTpMMod6
import Derived.Test.YtflonlkiajhhjaaTpMMod7
import Derived.Test.YtflonlkiajhhjaaTpMMod9x

set_option maxRecDepth 100000
namespace Go.TpMM
open Go.Sp Go.TpM
noncomputable section
def L:Nat:=1000
def MF (pu:Af):Af:=fun g args=>
 bb (Nat.beq g 4) (m4 pu L args) (bb (Nat.beq g 11) (m11 pu L args) (bb (Nat.beq g 13) (m13 pu L args) (bb (Nat.beq g 14) (m14 pu L args) (bb (Nat.beq g 15) (m15 pu L args) (bb (Nat.beq g 16) (m16 pu L args) (bb (Nat.beq g 17) (m17 pu L args) (bb (Nat.beq g 18) (m18 pu L args) (bb (Nat.beq g 19) (m19 pu L args) (bb (Nat.beq g 20) (m20 pu L args) (bb (Nat.beq g 27) (m27 pu L args) (bb (Nat.beq g 31) (m31 pu L args) (bb (Nat.beq g 32) (m32 pu L args) (bb (Nat.beq g 33) (m33 pu L args) (bb (Nat.beq g 36) (m36 pu L args) (bb (Nat.beq g 37) (m37 pu L args) (bb (Nat.beq g 38) (m38 pu L args) (bb (Nat.beq g 39) (m39 pu L args) (bb (Nat.beq g 40) (m40 pu L args) (bb (Nat.beq g 41) (m41 pu L args) (bb (Nat.beq g 42) (m42 pu L args) (bb (Nat.beq g 43) (m43 pu L args) (bb (Nat.beq g 45) (m45 pu L args) (bb (Nat.beq g 47) (m47 pu L args) (bb (Nat.beq g 50) (m50 pu L args) (bb (Nat.beq g 54) (m54 pu L args) (bb (Nat.beq g 55) (m55 pu L args) (bb (Nat.beq g 62) (m62 pu L args) (bb (Nat.beq g 63) (m63 pu L args) (bb (Nat.beq g 65) (m65 pu L args) (bb (Nat.beq g 66) (m66 pu L args) (bb (Nat.beq g 67) (m67 pu L args) (bb (Nat.beq g 69) (m69 pu L args) (bb (Nat.beq g 70) (m70 pu L args) (bb (Nat.beq g 95) (m95 pu L args) (bb (Nat.beq g 96) (m96 pu L args) (bb (Nat.beq g 10050) (KV pu L args) (bb (Nat.beq g 10440) (KW pu L args) (bb (Nat.beq g 10680) (K3 pu L args) (bb (Nat.beq g 10860) (K7 pu L args) (bb (Nat.beq g 10460) (LM pu L args) (bb (Nat.beq g 11020) (LW pu L args) (bb (Nat.beq g 64) (RQ args) (bb (Nat.beq g 85) (RS args) (bb (Nat.beq g 10) (RU args) (bb (Nat.beq g 12) (RX args) (none))))))))))))))))))))))))))))))))))))))))))))))
def X0:Nat→Af:=fun n=>Nat.rec (motive:=fun _=>Af) (fun _ _=>none) (fun _ ih=>MF ih) n
end
end Go.TpMM
