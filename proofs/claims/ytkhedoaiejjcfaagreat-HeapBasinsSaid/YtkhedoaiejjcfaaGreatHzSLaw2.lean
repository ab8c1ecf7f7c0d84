/- Made from wip. -/
import Derived.Test.YtkhedoaiejjcfaaGreatHzSSamex

set_option maxRecDepth 100000
set_option maxHeartbeats 0
namespace Go.HzSM
open Go Go.Sp Go.HzS Go.HpT Go.HtM Go.HyM
noncomputable def rest (s9:Sl):Option Value:=(oo (puW 13 [(Sl.v 1 s9)]) none fun v15=>(oo (toI .i64 v15) none fun x17=>(oo (puW 8 [(.int .i64 x17)]) none fun v23=>(oo (toSl 1 v23) none fun s25=>(l5_5 puW 1000000 1000000 s9 x17 (0:Int) s25 s25 (Int.ofNat (Sl.n s25)) (0:Int))))))
theorem m_rest (s1:Sl):m5_ puW 1000000 s1 = oo (puW 17 [Sl.v 1 s1,.int .i64 12]) none fun v7=>oo (toSl 1 v7) none rest:=rfl
end Go.HzSM
