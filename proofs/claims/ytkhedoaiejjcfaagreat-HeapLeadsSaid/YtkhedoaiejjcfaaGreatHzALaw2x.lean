/- Made from wip. -/
import Derived.Test.YtkhedoaiejjcfaaGreatHzADefx

set_option maxRecDepth 100000
set_option maxHeartbeats 0
namespace Go.HzAM
open Go Go.Sp Go.HzA Go.HpT Go.HtM Go.HyM
noncomputable section
def puW:PureF:=fun g=>bb (Nat.beq g 8) orcE (bb (Nat.beq g 20) orcD (bb (Nat.beq g 16) tru (bb (Nat.beq g 15) orcR (bb (Nat.beq g 19) orcA (puN 30 g)))))
end
theorem puW_g (g:FuncId) (h8:Nat.beq g 8 = false) (h20:Nat.beq g 20 = false) (h16:Nat.beq g 16 = false) (h15:Nat.beq g 15 = false) (h19:Nat.beq g 19 = false):puW g = puN 30 g:=by
 unfold puW;rw [h8,bb_false,h20,bb_false,h16,bb_false,h15,bb_false,h19,bb_false]
end Go.HzAM
set_option maxRecDepth 100000
set_option maxHeartbeats 0
namespace Go.HzAM
open Go Go.Sp Go.HzA Go.HpT Go.HtM Go.HyM
noncomputable def rest (s9:Sl):Option Value:=(bb (allL entClosed ([]:List Ent)) (oo (puW 13 [(Sl.v 1 s9)]) none fun v20=>(oo (toI .i64 v20) none fun x22=>(oo (puW 8 [(.int .i64 x22)]) none fun v24=>(oo (toSl 1 v24) none fun s26=>(l4_2 puW 1000000 1000000 s9 0 0 (0:Int) s26 s26 (Int.ofNat (Sl.n s26)) (0:Int) ([]:List Value) ([]:List Ent) 0))))) none)
theorem m_rest (s1:Sl):m4_ puW 1000000 s1 = oo (puW 17 [Sl.v 1 s1,.int .i64 12]) none fun v7=>oo (toSl 1 v7) none rest:=rfl
end Go.HzAM
