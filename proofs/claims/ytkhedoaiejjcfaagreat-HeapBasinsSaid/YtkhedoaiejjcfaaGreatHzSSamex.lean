/- Made from wip. -/
import Derived.Test.YtkhedoaiejjcfaaGreatHzSDefx

set_option maxRecDepth 100000
set_option maxHeartbeats 0
namespace Go.HzSM
open Go Go.Sp Go.HzS Go.HpT Go.HtM Go.HyM
noncomputable section
def puX:PureF:=fun g=>bb (Nat.beq g 15) orcR (puN 30 g)
def puW:PureF:=fun g=>bb (Nat.beq g 8) orcE (bb (Nat.beq g 11) orcG (bb (Nat.beq g 16) tru (bb (Nat.beq g 15) orcR (bb (Nat.beq g 22) orcQ (bb (Nat.beq g 23) orcS (puN 30 g))))))
end
theorem puW_g (g:FuncId) (h8:Nat.beq g 8 = false) (h11:Nat.beq g 11 = false) (h16:Nat.beq g 16 = false) (h15:Nat.beq g 15 = false) (h22:Nat.beq g 22 = false) (h23:Nat.beq g 23 = false):puW g = puN 30 g:=by
 unfold puW;rw [h8,bb_false,h11,bb_false,h16,bb_false,h15,bb_false,h22,bb_false,h23,bb_false]
end Go.HzSM
set_option maxRecDepth 100000
set_option maxHeartbeats 0
namespace Go.HzSM
open Go Go.Sp Go.HzS Go.HpT Go.HtM Go.HyM
noncomputable section
def puY:PureF:=fun g=>bb (Nat.beq g 51) orcAh (bb (Nat.beq g 36) orcRg (puN 30 g))
def rest23 (s0:Sl):Option Value:=(l23_6 puY 1000000 1000000 0 0 s0 (Int.ofNat (Sl.n s0)) (0:Int) ([]:List Ent) 0 ([]:List Value))
end
theorem m23_rest (p:List Nat) (h27:puY 27 [Sl.v 1 (slOf p)] = some (Value.int .i64 0)) (h28:puY 28 [Sl.v 1 (slOf p)] = some (cv p)):m23_ puY 1000000 (slOf p) = oo (puY 36 [cv p]) none fun v=>oo (toSl 1 v) none rest23:=by
 unfold m23_
 rw [h27,h28]
 kernel_rfl
end Go.HzSM
