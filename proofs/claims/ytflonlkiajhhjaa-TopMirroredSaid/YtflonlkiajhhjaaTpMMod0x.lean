/- Words for the models of TopMirrored. -/
import Derived.Test.YtflonlkiajhhjaaBkCellsx
import Derived.Test.YtflonlkiajhhjaaTpMCode
import Derived.KernelRfl

set_option maxRecDepth 100000
namespace Go.TpMM
open Go.Sp Go.TpM
noncomputable section
def RQ:List Value→Option Value:=Go.BkQ.cellsM
def RS:List Value→Option Value:=fun _=>none
def RU:List Value→Option Value:=fun _=>none
def RX:List Value→Option Value:=fun _=>none
end
end Go.TpMM
set_option maxRecDepth 100000
set_option maxHeartbeats 20000000
set_option linter.unusedVariables false
namespace Go.TpMM
open Go.Sp Go.TpM
noncomputable section
def tabs:List (List Value):=[]
theorem Ay {tt:TT} {n0:Nat} {rs:List ResultVar} {v:Value} {F:Fr} {H:Aa} (r:Value) (hm:some r=some v) (h:DV tt F H rs=some r:=by kernel_rfl) (hc:Fe r=true:=by kernel_rfl):Fin tt n0 rs v .ret F H:=kI r h hc hm
theorem Dn {α:Type} {k:IntKind} {o:Option Value} {s:Int→Option α} {w:α} (h:oo o none (fun v=>oo (Bi k v) none s)=some w):∃ x,o=some (.int k x)∧s x=some w:=by
 obtain⟨v,h1,h2⟩:=Ab h
 obtain⟨x,hx,h3⟩:=Ab h2
 obtain rfl:=Eh hx
 exact⟨x,h1,h3⟩
theorem I9 {α:Type} {k:Nat} {o:Option Value} {s:Sl→Option α} {w:α} (h:oo o none (fun v=>oo (Bj k v) none s)=some w):∃ x,o=some (Sl.v k x)∧s x=some w:=by
 obtain⟨v,h1,h2⟩:=Ab h
 obtain⟨x,hx,h3⟩:=Ab h2
 obtain rfl:=Qh hx
 exact⟨x,h1,h3⟩
theorem Jf {α:Type} {o:Option Value} {s:Bool→Option α} {w:α} (h:oo o none (fun v=>oo (Bf v) none s)=some w):∃ x,o=some (.bool x)∧s x=some w:=by
 obtain⟨v,h1,h2⟩:=Ab h
 obtain⟨x,hx,h3⟩:=Ab h2
 obtain rfl:=BV hx
 exact⟨x,h1,h3⟩
theorem A7 {tt:TT} {call:A8} {n0:Nat} {c:Operand} {a b:RC} {F:Fr} {H:Aa} {Q:Ex→Fr→Aa→Prop} (e:Bool) (hb:e=true) (h:BN tt call n0 a F H Q) (he:Bf (F.eval c)=some e:=by kernel_rfl):BN tt call n0 (.cond c a b) F H Q:=.ifT e he hb h
theorem Bp {tt:TT} {call:A8} {n0:Nat} {c:Operand} {a b:RC} {F:Fr} {H:Aa} {Q:Ex→Fr→Aa→Prop} (e:Bool) (hb:e=false) (h:BN tt call n0 b F H Q) (he:Bf (F.eval c)=some e:=by kernel_rfl):BN tt call n0 (.cond c a b) F H Q:=.ifF e he hb h
theorem AO {a b:Bool} (h:b=true) (e:a=b:=by kernel_rfl):a=true:=e.trans h
abbrev OV:=Option Value
abbrev LV:=List Value
def Pp:List Nat:=[4,10,11,12,13,14,15,16,17,18,20,27,31,32,33,36,37,38,39,40,41,42,43,45,47,50,54,55,62,63,64,65,66,67,69,70,95,96]
def isP:FuncId→Bool:=fun g=>ED g Pp
def inl (pu:Af):A8:=fun g args H=>bb (Nat.beq g 85) (Hr tabs 1 (pu 85) args H) (bb (Nat.beq g 19) (Hr tabs 1 (pu 19) args H) (bb (Nat.beq g 5) (Gp tabs [[some 1]] 1 [] [] (pu 10050) args H) (bb (Nat.beq g 44) (Gp tabs [[none],[none]] 2 [.tmp 0 false] [false] (pu 10440) args H) (bb (Nat.beq g 68) (Gp tabs [[none],[none],[none],[none],[none]] 5 [.tmp 0 false] [false] (pu 10680) args H) (bb (Nat.beq g 86) (Gp tabs [[none],[none],[none],[none]] 4 [.tmp 0 false] [false] (pu 10860) args H) (bb (Nat.beq g 46) (Gp tabs [[none],[none]] 2 [.tmp 0 false] [false] (pu 10460) args H) (bb (Nat.beq g 102) (Gp tabs [[none],[none]] 2 [.tmp 0 true,.tmp 1 false,.cell 0 1 false,.cell 0 2 false] [true,false,false,false] (pu 11020) args H) (none))))))))
def Ad5:List UInt8:=[0,1,2,2,3,3,3,3,4,4,4,4,4,4,4,4,5,5,5,5,5,5,5,5,5,5,5,5,5,5,5,5,6,6,6,6,6,6,6,6,6,6,6,6,6,6,6,6,6,6,6,6,6,6,6,6,6,6,6,6,6,6,6,6,7,7,7,7,7,7,7,7,7,7,7,7,7,7,7,7,7,7,7,7,7,7,7,7,7,7,7,7,7,7,7,7,7,7,7,7,7,7,7,7,7,7,7,7,7,7,7,7,7,7,7,7,7,7,7,7,7,7,7,7,7,7,7,7,8,8,8,8,8,8,8,8,8,8,8,8,8,8,8,8,8,8,8,8,8,8,8,8,8,8,8,8,8,8,8,8,8,8,8,8,8,8,8,8,8,8,8,8,8,8,8,8,8,8,8,8,8,8,8,8,8,8,8,8,8,8,8,8,8,8,8,8,8,8,8,8,8,8,8,8,8,8,8,8,8,8,8,8,8,8,8,8,8,8,8,8,8,8,8,8,8,8,8,8,8,8,8,8,8,8,8,8,8,8,8,8,8,8,8,8,8,8,8,8,8,8,8,8,8,8,8,8]
end
end Go.TpMM
