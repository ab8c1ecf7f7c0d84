/- TopMirrored: the law at all inputs. -/
import Derived.Test.YtflonlkiajhhjaaTpMRun0
import Derived.Test.YtflonlkiajhhjaaTpMRun1
import Derived.Test.YtflonlkiajhhjaaTpMRun2
import Derived.Test.YtflonlkiajhhjaaTpMRun3

set_option maxRecDepth 100000
set_option maxHeartbeats 0
namespace Go.Proofs.Ytflonlkiajhhjaa.TpM
open Go Go.Sp Go.TpM Go.TpMM Go.BkQ
theorem YC {a b c d t:Int} (h0:a∈four) (h1:b∈four) (h2:c∈four) (h3:d∈four) (h4:t∈three):Uh a b c d t=some (.bool true):=by
 apply xM
 have hw:ways a b=true:=by
  simp only[four,List.mem_cons,List.not_mem_nil,or_false] at h0 h1
  rcases h0 with rfl | rfl | rfl | rfl
  ·rcases h1 with rfl | rfl | rfl | rfl
   ·exact w00
   ·exact w01
   ·exact w02
   ·exact w03
  ·rcases h1 with rfl | rfl | rfl | rfl
   ·exact w10
   ·exact w11
   ·exact w12
   ·exact w13
  ·rcases h1 with rfl | rfl | rfl | rfl
   ·exact w20
   ·exact w21
   ·exact w22
   ·exact w23
  ·rcases h1 with rfl | rfl | rfl | rfl
   ·exact w30
   ·exact w31
   ·exact w32
   ·exact w33
 exact Ph (Ph (Ph hw h2) h3) h4
theorem mir_law {x0 x1 x2 x3 x4:Int} (a0:0≤x0) (b0:x0 < 256) (a1:0≤x1) (b1:x1 < 256) (a2:0≤x2) (b2:x2 < 256) (a3:0≤x3) (b3:x3 < 256) (a4:0≤x4):m4 puB L [.int .u8 x0,.int .u8 x1,.int .u8 x2,.int .u8 x3,.int .u8 x4]=some (.bool true):=by
 show xN puB 1000 x0 x1 x2 x3 x4=_
 rw[early (Gn a0 b0) (Gn a1 b1) (Gn a2 b2) (Gn a3 b3) (YB (Uj a4))]
 exact YC (Gn a0 b0) (Gn a1 b1) (Gn a2 b2) (Gn a3 b3) (Uj a4)
end Go.Proofs.Ytflonlkiajhhjaa.TpM
