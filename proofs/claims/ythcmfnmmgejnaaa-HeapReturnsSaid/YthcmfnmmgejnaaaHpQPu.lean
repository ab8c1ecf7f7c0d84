/- The models, by fuel: MADE BY PROGRAM (wip/tools/mods2.py). -/
import Derived.Test.YthcmfnmmgejnaaaHpQMod1x
import Derived.Test.YthcmfnmmgejnaaaHpQMod2
import Derived.Test.YthcmfnmmgejnaaaHpQMod3
import Derived.Test.YthcmfnmmgejnaaaHpQMod5x

set_option maxRecDepth 100000
namespace Go.HpQM
open Go.Sp Go.HpQ
noncomputable section
def L : Nat := 1000000
def disp (pu : PureF) : PureF := fun g args =>
  bb (Nat.beq g 4) (m4 pu L args) (bb (Nat.beq g 5) (m5 pu L args) (bb (Nat.beq g 9) (m9 pu L args) (bb (Nat.beq g 10) (m10 pu L args) (bb (Nat.beq g 11) (m11 pu L args) (bb (Nat.beq g 12) (m12 pu L args) (bb (Nat.beq g 13) (m13 pu L args) (bb (Nat.beq g 14) (m14 pu L args) (bb (Nat.beq g 15) (m15 pu L args) (bb (Nat.beq g 24) (m24 pu L args) (bb (Nat.beq g 26) (m26 pu L args) (bb (Nat.beq g 27) (m27 pu L args) (bb (Nat.beq g 29) (m29 pu L args) (bb (Nat.beq g 32) (m32 pu L args) (bb (Nat.beq g 33) (m33 pu L args) (bb (Nat.beq g 34) (m34 pu L args) (bb (Nat.beq g 35) (m35 pu L args) (bb (Nat.beq g 36) (m36 pu L args) (bb (Nat.beq g 37) (m37 pu L args) (bb (Nat.beq g 38) (m38 pu L args) (bb (Nat.beq g 39) (m39 pu L args) (bb (Nat.beq g 40) (m40 pu L args) (bb (Nat.beq g 41) (m41 pu L args) (bb (Nat.beq g 42) (m42 pu L args) (bb (Nat.beq g 43) (m43 pu L args) (bb (Nat.beq g 44) (m44 pu L args) (bb (Nat.beq g 53) (m53 pu L args) (bb (Nat.beq g 57) (m57 pu L args) (bb (Nat.beq g 59) (m59 pu L args) (bb (Nat.beq g 61) (m61 pu L args) (bb (Nat.beq g 66) (m66 pu L args) (bb (Nat.beq g 81) (m81 pu L args) (bb (Nat.beq g 6) (orc6 args) (bb (Nat.beq g 60) (orc60 args) (bb (Nat.beq g 62) (orc62 args) (none)))))))))))))))))))))))))))))))))))
def puN : Nat → PureF := fun n => Nat.rec (motive := fun _ => PureF) (fun _ _ => none) (fun _ ih => disp ih) n
end
end Go.HpQM
