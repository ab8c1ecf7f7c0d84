/- Made from wip. -/
import Derived.Test.YtlgmapibifphaaaDoorMnWInlx

set_option maxRecDepth 100000
set_option maxHeartbeats 20000000
set_option linter.unusedVariables false
namespace Go.MnWM
open Go.Sp Go.MnW
noncomputable section
def PN:List Value:=[.int .u8 0,.int .u8 1,.int .u8 28,.int .u8 2,.int .u8 29,.int .u8 14,.int .u8 24,.int .u8 3,.int .u8 30,.int .u8 22,.int .u8 20,.int .u8 15,.int .u8 25,.int .u8 17,.int .u8 4,.int .u8 8,.int .u8 31,.int .u8 27,.int .u8 13,.int .u8 23,.int .u8 21,.int .u8 19,.int .u8 16,.int .u8 7,.int .u8 26,.int .u8 12,.int .u8 18,.int .u8 6,.int .u8 11,.int .u8 5,.int .u8 10,.int .u8 9]
def tabs:List (List Value):=[PN]
theorem FK {tt:TT} {n0:Nat} {rs:List ResultVar} {v:Value} {F:Fr} {H:Aa} (r:Value) (hm:some r=some v) (h:DV tt F H rs=some r:=by kernel_rfl) (hc:Fe r=true:=by kernel_rfl):Fin tt n0 rs v .ret F H:=kI r h hc hm
theorem Ke {α:Type} {k:IntKind} {o:Option Value} {s:Int→Option α} {w:α} (h:oo o none (fun v=>oo (Bi k v) none s)=some w):∃ x,o=some (.int k x)∧s x=some w:=by
 obtain⟨v,h1,h2⟩:=Ab h
 obtain⟨x,hx,h3⟩:=Ab h2
 obtain rfl:=Eh hx
 exact⟨x,h1,h3⟩
theorem yN {α:Type} {k:Nat} {o:Option Value} {s:Sl→Option α} {w:α} (h:oo o none (fun v=>oo (Bj k v) none s)=some w):∃ x,o=some (Sl.v k x)∧s x=some w:=by
 obtain⟨v,h1,h2⟩:=Ab h
 obtain⟨x,hx,h3⟩:=Ab h2
 obtain rfl:=Qh hx
 exact⟨x,h1,h3⟩
theorem gV {α:Type} {o:Option Value} {s:Bool→Option α} {w:α} (h:oo o none (fun v=>oo (Bf v) none s)=some w):∃ x,o=some (.bool x)∧s x=some w:=by
 obtain⟨v,h1,h2⟩:=Ab h
 obtain⟨x,hx,h3⟩:=Ab h2
 obtain rfl:=BV hx
 exact⟨x,h1,h3⟩
theorem Hy {tt:TT} {call:A8} {n0:Nat} {c:Operand} {a b:RC} {F:Fr} {H:Aa} {Q:Ex→Fr→Aa→Prop} (e:Bool) (hb:e=true) (h:BN tt call n0 a F H Q) (he:Bf (F.eval c)=some e:=by kernel_rfl):BN tt call n0 (.cond c a b) F H Q:=.ifT e he hb h
theorem Hz {tt:TT} {call:A8} {n0:Nat} {c:Operand} {a b:RC} {F:Fr} {H:Aa} {Q:Ex→Fr→Aa→Prop} (e:Bool) (hb:e=false) (h:BN tt call n0 b F H Q) (he:Bf (F.eval c)=some e:=by kernel_rfl):BN tt call n0 (.cond c a b) F H Q:=.ifF e he hb h
abbrev FM:Aa:=hp 1 [oT PN]
abbrev hT (n:Nat) (l:List AJ):Aa:=hp n (oT PN::l)
theorem DL {a b:Bool} (h:b=true) (e:a=b:=by kernel_rfl):a=true:=e.trans h
abbrev OV:=Option Value
abbrev LV:=List Value
def QF:List Nat:=[6,12,23,24,27,44,47,51,52,53,62,64,67,71]
def Iq:FuncId→Bool:=fun g=>ED g QF
def inl (pu:Af):A8:=fun g args H=>bb (Nat.beq g 63) (Sk 1 8 args H) (bb (Nat.beq g 28) (EK tabs [[none],[none],[none],[none],[none],[none]] 6 [.tmp 1 false,.tmp 2 true,.tmp 3 false,.tmp 4 false,.tmp 5 true,.cell 2 0 false] [false,true,false,false,true,false] (pu 10280) args H) (bb (Nat.beq g 22) (Ox tabs 2 (pu 10220) args H) (bb (Nat.beq g 29) (EK tabs [[none,some 1,some 1]] 1 [] [] (pu 10290) args H) (bb (Nat.beq g 65) (EK tabs [[none,some 1,some 1]] 1 [] [true,false] (pu 10650) args H) (bb (Nat.beq g 66) (EK tabs [[none],[none]] 2 [.tmp 0 true,.cell 1 3 false] [true,false] (pu 10660) args H) (none))))))
def XM:List UInt8:=[0,1,1,2,1,2,2,3,1,2,2,3,2,3,3,4,1,2,2,3,2,3,3,4,2,3,3,4,3,4,4,5,1,2,2,3,2,3,3,4,2,3,3,4,3,4,4,5,2,3,3,4,3,4,4,5,3,4,4,5,4,5,5,6,1,2,2,3,2,3,3,4,2,3,3,4,3,4,4,5,2,3,3,4,3,4,4,5,3,4,4,5,4,5,5,6,2,3,3,4,3,4,4,5,3,4,4,5,4,5,5,6,3,4,4,5,4,5,5,6,4,5,5,6,5,6,6,7,1,2,2,3,2,3,3,4,2,3,3,4,3,4,4,5,2,3,3,4,3,4,4,5,3,4,4,5,4,5,5,6,2,3,3,4,3,4,4,5,3,4,4,5,4,5,5,6,3,4,4,5,4,5,5,6,4,5,5,6,5,6,6,7,2,3,3,4,3,4,4,5,3,4,4,5,4,5,5,6,3,4,4,5,4,5,5,6,4,5,5,6,5,6,6,7,3,4,4,5,4,5,5,6,4,5,5,6,5,6,6,7,4,5,5,6,5,6,6,7,5,6,6,7,6,7,7,8]
end
end Go.MnWM
set_option maxRecDepth 100000
set_option maxHeartbeats 20000000
set_option linter.unusedVariables false
namespace Go.MnWM
open Go.Sp Go.MnW
noncomputable section
def Sn (pu:Af) (n:Nat) (b0:Bool):OV:=
 (some (.bool b0))
def XN (pu:Af) (n:Nat) (z0 z1 z2:Int) (n0 c0 n1 c1:Nat) (q0:LV) (q1:LV):OV:=
 (bb (an (Nat.ble (0+n0*1) (len q0)) (Au Ah (Aq (n0*1) (Am 0 q0)))) (bb (an (Nat.ble (0+n1*1) (len q1)) (Au Ah (Aq (n1*1) (Am 0 q1)))) (oo (pu 10290 [(.agg ⟨[.int .i64 z2,(Sl.v 1 (Sl.mk n0 0 (Aq (n0*1) (Am 0 q0)))),(Sl.v 1 (Sl.mk n1 0 (Aq (n1*1) (Am 0 q1))))]⟩)]) none fun v0=>(oo (CQ v0) none fun l0=>(ll l0 none fun v1 l0=>(ll l0 (oo (CQ v1) none fun l1=>(ll l1 none fun v2 l1=>(ll l1 none fun v3 l1=>(ll l1 (oo (Bi .i64 v2) none fun x0=>(oo (Bi .i64 v3) none fun x1=>(bb (Bd z1 z0) (bb (Bd x1 (0:Int)) (bb (Bd x0 z0) (oo (pu 12 []) none fun v4=>(oo (Bf v4) none fun b0=>(Sn pu n b0))) (Sn pu n false)) (Sn pu n false)) (Sn pu n false)))) fun _ _=>none)))) fun _ _=>none)))) none) none)
def gW (pu:Af) (n:Nat) (ih0:Int→Int→Int→Int→Int→Int→Nat→Nat→Nat→Nat→LV→LV→OV) (z0 z1 z2 z3 z4 z5:Int) (n0 c0 n1 c1:Nat) (q0:LV) (q1:LV):OV:=
 (bb (Au Ah q0) (bb (Au Ah q1) (ih0 z0 (Aj .i64 (Int.add z1 z3)) z2 z3 z4 z5 n0 c0 n1 c1 q0 q1) none) none)
def gZ (pu:Af) (n:Nat) (ih0:Int→Int→Int→Int→Int→Int→Nat→Nat→Nat→Nat→LV→LV→OV) (ih1:Int→Int→Int→Int→Int→Int→Int→Int→Nat→Nat→Nat→Nat→LV→LV→OV) (z0 z1 z2 z3 z4 z5 z6 z7:Int) (n0 c0 n1 c1:Nat) (q0:LV) (q1:LV):OV:=
 (bb (Au Ah q0) (bb (Au Ah q1) (bb (AY z3 z2) (bb (nt (Bd (Aj .i64 (Int.sub z2 z1)) (0:Int))) (oo (EA (Aj .i64 (Int.add z1 (Int.tmod (Aj .i64 (Int.add (Aj .i64 (Int.sub z3 z1)) (1:Int))) (Aj .i64 (Int.sub z2 z1)))))) none fun k1=>(bb (an (Nat.blt k1 n0) true) (oo (AL q0 (0+k1*1)) none fun v0=>(oo (Bi .i64 v0) none fun x0=>(oo (EA z3) none fun k2=>(bb (an (Nat.blt k2 n1) true) (bb (an (Nat.ble ((0+k2*1)+1) (len q1)) true) (bb (Au Ah (BM ([.int .i64 x0]:LV) (0+k2*1) q1)) (ih1 z0 z1 z2 (Aj .i64 (Int.add (Int.ofNat k2) (1:Int))) z4 z5 z6 z7 n0 c0 n1 c1 q0 (BM ([.int .i64 x0]:LV) (0+k2*1) q1)) none) none) none)))) none)) none) (gW pu n ih0 z0 z1 z4 z5 z6 z7 n0 c0 n1 c1 q0 q1)) none) none)
def iB (pu:Af) (n:Nat) (ih0:Int→Int→Int→Int→Int→Int→Nat→Nat→Nat→Nat→LV→LV→OV) (w:Nat):Int→Int→Int→Int→Int→Int→Int→Int→Nat→Nat→Nat→Nat→LV→LV→OV:=
 Nat.rec (motive:=fun _=>Int→Int→Int→Int→Int→Int→Int→Int→Nat→Nat→Nat→Nat→LV→LV→OV) (fun _ _ _ _ _ _ _ _ _ _ _ _ _ _=>none) (fun _ ih1=>gZ pu n ih0 ih1) w
def iC (pu:Af) (n:Nat) (ih0:Int→Int→Int→Int→Int→Int→Nat→Nat→Nat→Nat→LV→LV→OV) (z0 z1 z2 z3 z4 z5:Int) (n0 c0 n1 c1:Nat) (q0:LV) (q1:LV):OV:=
 (bb (Au Ah q0) (bb (Au Ah q1) (bb (AY z1 z2) (iB pu n ih0 n z0 z1 (bb (AY z2 (Aj .i64 (Int.add z1 z3))) z2 (Aj .i64 (Int.add z1 z3))) z1 z2 z3 z4 z5 n0 c0 n1 c1 q0 q1) (XN pu n z0 z4 z5 n0 c0 n1 c1 q0 q1)) none) none)
def Sq (pu:Af) (n w:Nat):Int→Int→Int→Int→Int→Int→Nat→Nat→Nat→Nat→LV→LV→OV:=
 Nat.rec (motive:=fun _=>Int→Int→Int→Int→Int→Int→Nat→Nat→Nat→Nat→LV→LV→OV) (fun _ _ _ _ _ _ _ _ _ _ _ _=>none) (fun _ ih0=>iC pu n ih0) w
def XO (pu:Af) (n:Nat) (z0 z1 z2 z3 z4:Int) (n0 c0 n1 c1:Nat) (q0:LV) (q1:LV):OV:=
 (bb (Au Ah q0) (bb (Au Ah q1) (Sq pu n n z0 (0:Int) z1 z2 z3 z4 n0 c0 n1 c1 q0 q1) none) none)
def iD (pu:Af) (n:Nat) (ih0:Int→Int→Int→Int→Int→Int→Int→Nat→Nat→Nat→Nat→LV→LV→OV) (z0 z1 z2 z3 z4 z5 z6:Int) (n0 c0 n1 c1:Nat) (q0:LV) (q1:LV):OV:=
 (bb (Au Ah q0) (bb (Au Ah q1) (bb (AY z2 z1) (bb (nt (Bd z4 (0:Int))) (bb (nt (Bd z4 (0:Int))) (bb (GV 1 8 n0 c0 1 q0) (bb (GV 1 8 n1 c1 1 q1) (bb (Au Ah (Br (Am 0 q0) [(.int .i64 (Int.tmod z2 z4))])) (bb (Au Ah (Br (Am 0 q1) [(.int .i64 (Int.tmod z2 z4))])) (ih0 z0 z1 (Aj .i64 (Int.add z2 (1:Int))) z3 z4 z5 z6 (n0+1) (2*(n0+1)+bb false 1 0) (n1+1) (2*(n1+1)+bb false 1 0) (Br (Am 0 q0) [(.int .i64 (Int.tmod z2 z4))]) (Br (Am 0 q1) [(.int .i64 (Int.tmod z2 z4))])) none) none) none) none) none) none) (XO pu n z0 z3 z4 z5 z6 n0 c0 n1 c1 q0 q1)) none) none)
def HV (pu:Af) (n w:Nat):Int→Int→Int→Int→Int→Int→Int→Nat→Nat→Nat→Nat→LV→LV→OV:=
 Nat.rec (motive:=fun _=>Int→Int→Int→Int→Int→Int→Int→Nat→Nat→Nat→Nat→LV→LV→OV) (fun _ _ _ _ _ _ _ _ _ _ _ _ _=>none) (fun _ ih0=>iD pu n ih0) w
def Wp (pu:Af) (n:Nat) (z33:Int) (b34:Bool) (z35 z36:Int):OV:=
 (bb b34 (some (.bool false)) (oo (EA z35) none fun k41=>(bb (an (Nat.ble k41 k41) (an (Nat.ble (k41*8) 1099511627776) (an (Nat.ble k41 1099511627776) true))) (bb (Au Ah (AF ([(.int .i64 (0:Int))]:LV) k41)) (bb (Dp (Nat.ble 2 (2*k41+bb true 1 0)) (MQ (AF ([(.int .i64 (0:Int))]:LV) k41))) (bb (Au Ah (AF ([(.int .i64 (0:Int))]:LV) k41)) (oo (pu 10280 [(.int .i64 (0:Int)),(.pointer (some ⟨1,0,none⟩)),(.pointer (some ⟨2,0,none⟩)),(.pointer (some ⟨3,0,none⟩)),(.pointer (some ⟨4,0,none⟩)),(.pointer (some ⟨5,0,none⟩)),(.agg ⟨[(.int .i64 (Int.ofNat k41))]⟩),(.agg ⟨[(.slice (some ⟨6,0,some 1⟩) k41 (2*k41+bb true 1 0))]⟩),(.agg ⟨[(.int .i64 (0:Int))]⟩),(.agg ⟨[.int .i64 z36]⟩),(.agg ⟨[(.func (.func 28) ⟨[]⟩ ⟨[(.pointer (some ⟨1,0,none⟩)),(.pointer (some ⟨2,0,none⟩)),(.pointer (some ⟨3,0,none⟩)),(.pointer (some ⟨4,0,none⟩)),(.pointer (some ⟨5,0,none⟩))]⟩)]⟩),(.agg ⟨(AF ([(.int .i64 (0:Int))]:LV) k41)⟩)]) none fun v0=>(oo (CQ v0) none fun l0=>(ll l0 none fun v1 l0=>(ll l0 none fun v2 l0=>(ll l0 none fun v3 l0=>(ll l0 none fun v4 l0=>(ll l0 none fun v5 l0=>(ll l0 none fun v6 l0=>(ll l0 none fun v7 l0=>(ll l0 (bb (MC v1) (oo (Bt v2) none fun l1=>(ll l1 none fun v8 l1=>(ll l1 (oo (Bi .i64 v8) none fun x0=>(oo (Bt v3) none fun l2=>(ll l2 none fun v9 l2=>(ll l2 (oo (KP 6 0 1 v9) none fun y0=>(oo (Bt v4) none fun l3=>(ll l3 none fun v10 l3=>(ll l3 (oo (Bi .i64 v10) none fun x1=>(oo (Bt v5) none fun l4=>(ll l4 none fun v11 l4=>(ll l4 (oo (Bi .i64 v11) none fun x2=>(oo (Bt v6) none fun l5=>(ll l5 none fun v12 l5=>(ll l5 (oo (Om 28 0 v12) none fun l6=>(ll l6 none fun v13 l6=>(ll l6 none fun v14 l6=>(ll l6 none fun v15 l6=>(ll l6 none fun v16 l6=>(ll l6 none fun v17 l6=>(ll l6 (bb (MK v13 1 0) (bb (MK v14 2 0) (bb (MK v15 3 0) (bb (MK v16 4 0) (bb (MK v17 5 0) (oo (Bt v7) none fun q0=>(bb (Au Ah q0) (HV pu n n z33 x0 (0:Int) x0 x2 x1 x2 0 0 0 0 ([]:LV) ([]:LV)) none)) none) none) none) none) none) fun _ _=>none))))))) fun _ _=>none)))) fun _ _=>none)))) fun _ _=>none)))) fun _ _=>none)))) fun _ _=>none))) none) fun _ _=>none)))))))))) none) none) none) none)))
def Nc (pu:Af) (n:Nat) (x1 x3:Int):OV:=
 (oo (pu 27 [(.int .i64 (Aj .i64 (Int.add (1:Int) (Int.tmod (Aj .i64 x1) (5:Int))))),(.int .i64 (Aj .i64 (Int.add (1:Int) (Int.tmod (Aj .i64 x3) (4:Int)))))]) none fun v15=>(oo (CQ v15) none fun l17=>(ll l17 none fun v19 l17=>(ll l17 none fun v20 l17=>(ll l17 (oo (Bi .i64 v19) none fun x21=>(oo (Bi .i64 v20) none fun x23=>(bb (nt (Bd x23 (0:Int))) (Wp pu n x21 true (Aj .i64 (Int.add (1:Int) (Int.tmod (Aj .i64 x1) (5:Int)))) (Aj .i64 (Int.add (1:Int) (Int.tmod (Aj .i64 x3) (4:Int))))) (bb (nt (Bd (Aj .i64 (Int.add (1:Int) (Int.tmod (Aj .i64 x3) (4:Int)))) (0:Int))) (Wp pu n x21 (nt (Bd x21 (Aj .i64 (Int.sub (Aj .i64 (Int.add (1:Int) (Int.tmod (Aj .i64 x1) (5:Int)))) (Aj .i64 (Int.tdiv (Aj .i64 (Int.sub (Aj .i64 (Int.add (Aj .i64 (Int.add (1:Int) (Int.tmod (Aj .i64 x1) (5:Int)))) (Aj .i64 (Int.add (1:Int) (Int.tmod (Aj .i64 x3) (4:Int)))))) (1:Int))) (Aj .i64 (Int.add (1:Int) (Int.tmod (Aj .i64 x3) (4:Int)))))))))) (Aj .i64 (Int.add (1:Int) (Int.tmod (Aj .i64 x1) (5:Int)))) (Aj .i64 (Int.add (1:Int) (Int.tmod (Aj .i64 x3) (4:Int))))) none)))) fun _ _=>none)))))
def m6 (pu:Af) (n:Nat) (args:LV):OV:=
 (ll args none fun a0 args=>(ll args none fun a1 args=>(ll args (oo (Bi .u8 a0) none fun x1=>(oo (Bi .u8 a1) none fun x3=>(Nc pu n x1 x3))) fun _ _=>none)))
theorem yO (pu:Af) (n:Nat) (b0:Bool) {v:Value} (hm:Sn pu n b0=some v):BN tt (Bb tabs Iq pu (inl pu)) 1 .ret (fr 130 [(4,zB b0)]) FM (Fin tt 1 [.tmp 4] v):=by
 unfold Sn at hm
 refine .ret ?_
 exact FK (zB b0) hm
theorem yP (pu:Af) (n:Nat) (z0 z1 z2:Int) (n0 c0 n1 c1:Nat) (q0:LV) (q1:LV) {v:Value} (hm:XN pu n z0 z1 z2 n0 c0 n1 c1 q0 q1=some v):BN tt (Bb tabs Iq pu (inl pu)) 1 Yq (fr 130 [(7,zI z0),(9,pt 1 0),(12,(pt 2 0))]) (hT 5 [(oC [zI z1]),(oC [zI z2,sc 3 0 1 n0 c0,sc 4 0 1 n1 c1]),oC q0,oC q1]) (Fin tt 1 [.tmp 4] v):=by
 unfold XN at hm
 refine .then ?_
 replace hm:=Ae hm;obtain⟨h0,hm⟩:=hm
 replace hm:=Ae hm;obtain⟨h1,hm⟩:=hm
 refine .ghs (fr 130 [(7,zI z0),(9,pt 1 0),(12,(pt 2 0))]) (hT 5 [(oC [zI z1]),(oC [zI z2,(Sl.v 1 (Sl.mk n0 0 (Aq (n0*1) (Am 0 q0)))),(Sl.v 1 (Sl.mk n1 0 (Aq (n1*1) (Am 0 q1))))]),.dead,.dead]) (.frzC 1 2 1 [zI z2,sc 3 0 1 n0 c0,sc 4 0 1 n1 c1] (an (Nat.ble (0+n0*1) (len q0)) (Au Ah (Aq (n0*1) (Am 0 q0)))) (v:=(sc 3 0 1 n0 c0)) (v':=(Sl.v 1 (Sl.mk n0 0 (Aq (n0*1) (Am 0 q0))))) (H1:=(hT 5 [(oC [zI z1]),(oC [zI z2,sc 3 0 1 n0 c0,sc 4 0 1 n1 c1]),.dead,oC q1])) (imm:=false) (spent:=false) (anc:=[]) h0 (.frzC 1 2 2 [zI z2,(Sl.v 1 (Sl.mk n0 0 (Aq (n0*1) (Am 0 q0)))),sc 4 0 1 n1 c1] (an (Nat.ble (0+n1*1) (len q1)) (Au Ah (Aq (n1*1) (Am 0 q1)))) (v:=(sc 4 0 1 n1 c1)) (v':=(Sl.v 1 (Sl.mk n1 0 (Aq (n1*1) (Am 0 q1))))) (H1:=(hT 5 [(oC [zI z1]),(oC [zI z2,(Sl.v 1 (Sl.mk n0 0 (Aq (n0*1) (Am 0 q0)))),sc 4 0 1 n1 c1]),.dead,.dead])) (imm:=false) (spent:=false) (anc:=[]) h1 (E9.id _ _))) ?_
 replace hm:=Ab hm;obtain⟨v0,h2,hm⟩:=hm
 replace hm:=Ch hm;obtain⟨l0,rfl,hm⟩:=hm
 replace hm:=Ad hm;obtain⟨v1,l16086_0,rfl,hm⟩:=hm
 replace hm:=AC hm;obtain⟨rfl,hm⟩:=hm
 replace hm:=Ch hm;obtain⟨l1,rfl,hm⟩:=hm
 replace hm:=Ad hm;obtain⟨v2,l16089_0,rfl,hm⟩:=hm
 replace hm:=Ad hm;obtain⟨v3,l16089_1,rfl,hm⟩:=hm
 replace hm:=AC hm;obtain⟨rfl,hm⟩:=hm
 replace hm:=Ai hm;obtain⟨x0,rfl,hm⟩:=hm
 replace hm:=Ai hm;obtain⟨x1,rfl,hm⟩:=hm
 refine .reg (eC 1 (EK tabs [[none,some 1,some 1]] 1 [] [] (pu 10290) [(.agg ⟨[zI z2,(Sl.v 1 (Sl.mk n0 0 (Aq (n0*1) (Am 0 q0)))),(Sl.v 1 (Sl.mk n1 0 (Aq (n1*1) (Am 0 q1))))]⟩)] (hT 5 [(oC [zI z1]),(oC [zI z2,(Sl.v 1 (Sl.mk n0 0 (Aq (n0*1) (Am 0 q0)))),(Sl.v 1 (Sl.mk n1 0 (Aq (n1*1) (Am 0 q1))))]),.dead,.dead])) (EL (as:=[(.agg ⟨[zI z2,(Sl.v 1 (Sl.mk n0 0 (Aq (n0*1) (Am 0 q0)))),(Sl.v 1 (Sl.mk n1 0 (Aq (n1*1) (Am 0 q1))))]⟩)]) (H1:=(hT 5 [(oC [zI z1]),(oC [zI z2,(Sl.v 1 (Sl.mk n0 0 (Aq (n0*1) (Am 0 q0)))),(Sl.v 1 (Sl.mk n1 0 (Aq (n1*1) (Am 0 q1))))]),.dead,.dead])) (BS (Ot (Da Dk (Da (KQ (CV (z:=1) (v:=(Sl.v 1 (Sl.mk n0 0 (Aq (n0*1) (Am 0 q0))))) (H:=(hT 5 [(oC [zI z1]),(oC [zI z2,(Sl.v 1 (Sl.mk n0 0 (Aq (n0*1) (Am 0 q0)))),(Sl.v 1 (Sl.mk n1 0 (Aq (n1*1) (Am 0 q1))))]),.dead,.dead])) (by kernel_rfl) (by kernel_rfl) (by kernel_rfl))) (Da (KQ (CV (z:=1) (v:=(Sl.v 1 (Sl.mk n1 0 (Aq (n1*1) (Am 0 q1))))) (H:=(hT 5 [(oC [zI z1]),(oC [zI z2,(Sl.v 1 (Sl.mk n0 0 (Aq (n0*1) (Am 0 q0)))),(Sl.v 1 (Sl.mk n1 0 (Aq (n1*1) (Am 0 q1))))]),.dead,.dead])) (by kernel_rfl) (by kernel_rfl) (by kernel_rfl))) Oq)))) Gj) (EI (H2:=(hT 5 [(oC [zI z1]),(oC [zI z2,(Sl.v 1 (Sl.mk n0 0 (Aq (n0*1) (Am 0 q0)))),(Sl.v 1 (Sl.mk n1 0 (Aq (n1*1) (Am 0 q1))))]),.dead,.dead])) (v:=(.tuple ⟨[zI x0,zI x1]⟩)) (v':=(.tuple ⟨[zI x0,zI x1]⟩)) [some 0] [] [] [(.agg ⟨[zI z2,(Sl.v 1 (Sl.mk n0 0 (Aq (n0*1) (Am 0 q0)))),(Sl.v 1 (Sl.mk n1 0 (Aq (n1*1) (Am 0 q1))))]⟩)] [] [] [some 0,none,none,none,none] [] [] (by kernel_rfl) BX (Eq.trans (by kernel_rfl) h2) BX BX)) (eE)) ?_
 refine .ghs (fr 130 [(7,zI z0),(9,pt 1 0),(17,zI x0),(18,zI x1)]) (hT 2 [(oC [zI z1])]) (.k0 [false] [.tmp 9 false] [7,9,17,18]) ?_
 refine .join (v:=v) (fun y:Bool=>((fr 130 [(4,zB y)]),FM)) (fun y=>Sn pu n y) ?_ ?_
 ·rintro b0 hm
  exact yO pu n b0 hm
 ·replace hm:=Ag hm;rcases hm with⟨h3,hm⟩ | ⟨h3,hm⟩
  ·replace hm:=Ag hm;rcases hm with⟨h4,hm⟩ | ⟨h4,hm⟩
   ·replace hm:=Ag hm;rcases hm with⟨h5,hm⟩ | ⟨h5,hm⟩
    ·replace hm:=gV hm;obtain⟨b3,h6,hm⟩:=hm
     refine .reg (eC 2 (some ((zB (Bd z1 z0)),(hT 2 [(oC [zI z1])]))) (show _=some ((zB true),_) from (by rw[show (Bd z1 z0)=true from h3])) (eC 2 (some ((zB (Bd x1 (0:Int))),(hT 2 [(oC [zI z1])]))) (show _=some ((zB true),_) from (by rw[show (Bd x1 (0:Int))=true from h4])) (eC 4 (some ((zB (Bd x0 z0)),(hT 2 [(oC [zI z1])]))) (show _=some ((zB true),_) from (by rw[show (Bd x0 z0)=true from h5])) (eC 2 ((oo (pu 12 []) none fun v=>some (v,(hT 2 [(oC [zI z1])])))) (AB h6) (eE))))) ?_
     exact⟨b3,hm,(.k0 [false] [] [4])⟩
    ·refine .reg (eC 2 (some ((zB (Bd z1 z0)),(hT 2 [(oC [zI z1])]))) (show _=some ((zB true),_) from (by rw[show (Bd z1 z0)=true from h3])) (eC 2 (some ((zB (Bd x1 (0:Int))),(hT 2 [(oC [zI z1])]))) (show _=some ((zB true),_) from (by rw[show (Bd x1 (0:Int))=true from h4])) (eC 4 (some ((zB (Bd x0 z0)),(hT 2 [(oC [zI z1])]))) (show _=some ((zB false),_) from (by rw[show (Bd x0 z0)=false from h5])) (eE)))) ?_
     exact⟨false,hm,(.k0 [false] [] [4])⟩
   ·refine .reg (eC 2 (some ((zB (Bd z1 z0)),(hT 2 [(oC [zI z1])]))) (show _=some ((zB true),_) from (by rw[show (Bd z1 z0)=true from h3])) (eC 2 (some ((zB (Bd x1 (0:Int))),(hT 2 [(oC [zI z1])]))) (show _=some ((zB false),_) from (by rw[show (Bd x1 (0:Int))=false from h4])) (eE))) ?_
    exact⟨false,hm,(.k0 [false] [] [4])⟩
  ·refine .reg (eC 2 (some ((zB (Bd z1 z0)),(hT 2 [(oC [zI z1])]))) (show _=some ((zB false),_) from (by rw[show (Bd z1 z0)=false from h3])) (eE)) ?_
   exact⟨false,hm,(.k0 [false] [] [4])⟩
theorem yQ (pu:Af) (n:Nat) (z0 z1 z2 z3 z4:Int) (n0 c0 n1 c1:Nat) (q0:LV) (q1:LV) {v:Value} (hm:XO pu n z0 z1 z2 z3 z4 n0 c0 n1 c1 q0 q1=some v):BN tt (Bb tabs Iq pu (inl pu)) 1 Yr (fr 130 [(5,pt 1 0),(6,(pt 2 0)),(7,zI z0),(9,(pt 3 0)),(12,(pt 4 0))]) (hT 7 [(oC [zI z1]),(oC [zI z2]),(oC [zI z3]),(oC [zI z4,sc 5 0 1 n0 c0,sc 6 0 1 n1 c1]),oC q0,oC q1]) (Fin tt 1 [.tmp 4] v):=by
 unfold XO at hm
 refine .join (v:=v) (fun y:Int×Int×Int×Nat×Nat×Nat×Nat×LV×LV=>((fr 130 [(7,(zI y.1)),(9,pt 1 0),(12,(pt 2 0))]),(hT 5 [(oC [(zI y.2.1)]),(oC [(zI y.2.2.1),(sc 3 0 1 y.2.2.2.1 y.2.2.2.2.1),(sc 4 0 1 y.2.2.2.2.2.1 y.2.2.2.2.2.2.1)]),(oC y.2.2.2.2.2.2.2.1),(oC y.2.2.2.2.2.2.2.2)]))) (fun y=>XN pu n y.1 y.2.1 y.2.2.1 y.2.2.2.1 y.2.2.2.2.1 y.2.2.2.2.2.1 y.2.2.2.2.2.2.1 y.2.2.2.2.2.2.2.1 y.2.2.2.2.2.2.2.2) ?_ ?_
 ·rintro⟨z5,z6,z7,n2,c2,n3,c3,q2,q3⟩ hm
  exact yP pu n z5 z6 z7 n2 c2 n3 c3 q2 q3 hm
 ·refine .then (.rK ?_)
  replace hm:=Ae hm;obtain⟨h0,hm⟩:=hm
  replace hm:=Ae hm;obtain⟨h1,hm⟩:=hm
  refine .ghs (fr 130 [(5,pt 1 0),(6,(pt 2 0)),(7,zI z0),(9,(pt 3 0)),(12,(pt 4 0)),(14,(zI (0:Int)))]) (hT 7 [(oC [zI z1]),(oC [zI z2]),(oC [zI z3]),(oC [zI z4,sc 5 0 1 n0 c0,sc 6 0 1 n1 c1]),oC q0,oC q1]) (.k [5,6] [false] [.tmp 5 false,.tmp 6 false,.tmp 9 false,.tmp 12 true,.cell 4 1 false,.cell 4 2 false] [5,6,7,9,12,14] ⟨DL h0,DL h1,trivial⟩) ?_
  refine .block (.loopM (v:=v) (fun y:Int×Int×Int×Int×Int×Int×Nat×Nat×Nat×Nat×LV×LV=>((fr 130 [(5,pt 1 0),(6,(pt 2 0)),(7,(zI y.1)),(9,(pt 3 0)),(12,(pt 4 0)),(14,(zI y.2.1))]),(hT 7 [(oC [(zI y.2.2.1)]),(oC [(zI y.2.2.2.1)]),(oC [(zI y.2.2.2.2.1)]),(oC [(zI y.2.2.2.2.2.1),(sc 5 0 1 y.2.2.2.2.2.2.1 y.2.2.2.2.2.2.2.1),(sc 6 0 1 y.2.2.2.2.2.2.2.2.1 y.2.2.2.2.2.2.2.2.2.1)]),(oC y.2.2.2.2.2.2.2.2.2.2.1),(oC y.2.2.2.2.2.2.2.2.2.2.2)]))) (fun w y=>Sq pu n w y.1 y.2.1 y.2.2.1 y.2.2.2.1 y.2.2.2.2.1 y.2.2.2.2.2.1 y.2.2.2.2.2.2.1 y.2.2.2.2.2.2.2.1 y.2.2.2.2.2.2.2.2.1 y.2.2.2.2.2.2.2.2.2.1 y.2.2.2.2.2.2.2.2.2.2.1 y.2.2.2.2.2.2.2.2.2.2.2) n ⟨(z0,(0:Int),z1,z2,z3,z4,n0,c0,n1,c1,q0,q1),hm,(.k [5,6] [false] [.tmp 5 false,.tmp 6 false,.tmp 9 false,.tmp 12 true,.cell 4 1 false,.cell 4 2 false] [5,6,7,9,12,14] ⟨DL h0,DL h1,trivial⟩)⟩ (fun _=>rfl) ?_)
  rintro w0 ⟨z8,z9,z10,z11,z12,z13,n4,c4,n5,c5,q4,q5⟩ hm
  replace hm:iC pu n (Sq pu n w0) z8 z9 z10 z11 z12 z13 n4 c4 n5 c5 q4 q5=some v:=hm
  unfold iC at hm
  refine .then (.then (.rK ?_))
  replace hm:=Ae hm;obtain⟨h2,hm⟩:=hm
  replace hm:=Ae hm;obtain⟨h3,hm⟩:=hm
  refine .ghs (fr 130 [(5,pt 1 0),(6,(pt 2 0)),(7,zI z8),(9,(pt 3 0)),(12,(pt 4 0)),(14,zI z9),(77,(zB (AY z9 z10)))]) (hT 7 [(oC [zI z10]),(oC [zI z11]),(oC [zI z12]),(oC [zI z13,sc 5 0 1 n4 c4,sc 6 0 1 n5 c5]),oC q4,oC q5]) (.k [5,6] [false] [.tmp 5 false,.tmp 6 false,.tmp 9 false,.tmp 12 true,.cell 4 1 false,.cell 4 2 false] [5,6,7,9,12,14,77] ⟨DL h2,DL h3,trivial⟩) ?_
  replace hm:=Ag hm;rcases hm with⟨h4,hm⟩ | ⟨h4,hm⟩
  ·refine Hy (AY z9 z10) h4 ?_
   refine .skip (.ghs (fr 130 [(5,pt 1 0),(6,(pt 2 0)),(7,zI z8),(9,(pt 3 0)),(12,(pt 4 0)),(14,zI z9)]) (hT 7 [(oC [zI z10]),(oC [zI z11]),(oC [zI z12]),(oC [zI z13,sc 5 0 1 n4 c4,sc 6 0 1 n5 c5]),oC q4,oC q5]) (.k [5,6] [false] [.tmp 5 false,.tmp 6 false,.tmp 9 false,.tmp 12 true,.cell 4 1 false,.cell 4 2 false] [5,6,7,9,12,14] ⟨DL h2,DL h3,trivial⟩) ?_)
   refine .join (v:=v) (fun y:Int×Int×Int×Int×Int×Int×Nat×Nat×Nat×Nat×LV×LV=>((fr 130 [(5,pt 1 0),(6,(pt 2 0)),(7,(zI y.1)),(9,(pt 3 0)),(12,(pt 4 0)),(14,(zI y.2.1))]),(hT 7 [(oC [(zI y.2.2.1)]),(oC [(zI y.2.2.2.1)]),(oC [(zI y.2.2.2.2.1)]),(oC [(zI y.2.2.2.2.2.1),(sc 5 0 1 y.2.2.2.2.2.2.1 y.2.2.2.2.2.2.2.1),(sc 6 0 1 y.2.2.2.2.2.2.2.2.1 y.2.2.2.2.2.2.2.2.2.1)]),(oC y.2.2.2.2.2.2.2.2.2.2.1),(oC y.2.2.2.2.2.2.2.2.2.2.2)]))) (fun y=>gW pu n (Sq pu n w0) y.1 y.2.1 y.2.2.1 y.2.2.2.1 y.2.2.2.2.1 y.2.2.2.2.2.1 y.2.2.2.2.2.2.1 y.2.2.2.2.2.2.2.1 y.2.2.2.2.2.2.2.2.1 y.2.2.2.2.2.2.2.2.2.1 y.2.2.2.2.2.2.2.2.2.2.1 y.2.2.2.2.2.2.2.2.2.2.2) ?_ ?_
   ·rintro⟨z14,z15,z16,z17,z18,z19,n6,c7,n7,c8,q6,q7⟩ hm
    unfold gW at hm
    refine .rK ?_
    replace hm:=Ae hm;obtain⟨h5,hm⟩:=hm
    replace hm:=Ae hm;obtain⟨h6,hm⟩:=hm
    exact⟨(z14,(Aj .i64 (Int.add z15 z17)),z16,z17,z18,z19,n6,c7,n7,c8,q6,q7),hm,(.k [5,6] [false] [.tmp 5 false,.tmp 6 false,.tmp 9 false,.tmp 12 true,.cell 4 1 false,.cell 4 2 false] [5,6,7,9,12,14] ⟨DL h5,DL h6,trivial⟩)⟩
   ·refine .block (.then (.rK (.ghs (fr 130 [(5,pt 1 0),(6,(pt 2 0)),(7,zI z8),(9,(pt 3 0)),(12,(pt 4 0)),(14,zI z9),(15,(zI (bb (AY z10 (Aj .i64 (Int.add z9 z11))) z10 (Aj .i64 (Int.add z9 z11)))))]) (hT 7 [(oC [zI z10]),(oC [zI z11]),(oC [zI z12]),(oC [zI z13,sc 5 0 1 n4 c4,sc 6 0 1 n5 c5]),oC q4,oC q5]) (.k [5,6] [false] [.tmp 5 false,.tmp 6 false,.tmp 9 false,.tmp 12 true,.cell 4 1 false,.cell 4 2 false] [5,6,7,9,12,14,15] ⟨DL h2,DL h3,trivial⟩) ?_)))
    refine .then (.rK (.ghs (fr 130 [(5,pt 1 0),(6,(pt 2 0)),(7,zI z8),(9,(pt 3 0)),(12,(pt 4 0)),(14,zI z9),(15,(zI (bb (AY z10 (Aj .i64 (Int.add z9 z11))) z10 (Aj .i64 (Int.add z9 z11))))),(16,zI z9)]) (hT 7 [(oC [zI z10]),(oC [zI z11]),(oC [zI z12]),(oC [zI z13,sc 5 0 1 n4 c4,sc 6 0 1 n5 c5]),oC q4,oC q5]) (.k [5,6] [false] [.tmp 5 false,.tmp 6 false,.tmp 9 false,.tmp 12 true,.cell 4 1 false,.cell 4 2 false] [5,6,7,9,12,14,15,16] ⟨DL h2,DL h3,trivial⟩) ?_))
    refine .block (.loopM (v:=v) (fun y:Int×Int×Int×Int×Int×Int×Int×Int×Nat×Nat×Nat×Nat×LV×LV=>((fr 130 [(5,pt 1 0),(6,(pt 2 0)),(7,(zI y.1)),(9,(pt 3 0)),(12,(pt 4 0)),(14,(zI y.2.1)),(15,(zI y.2.2.1)),(16,(zI y.2.2.2.1))]),(hT 7 [(oC [(zI y.2.2.2.2.1)]),(oC [(zI y.2.2.2.2.2.1)]),(oC [(zI y.2.2.2.2.2.2.1)]),(oC [(zI y.2.2.2.2.2.2.2.1),(sc 5 0 1 y.2.2.2.2.2.2.2.2.1 y.2.2.2.2.2.2.2.2.2.1),(sc 6 0 1 y.2.2.2.2.2.2.2.2.2.2.1 y.2.2.2.2.2.2.2.2.2.2.2.1)]),(oC y.2.2.2.2.2.2.2.2.2.2.2.2.1),(oC y.2.2.2.2.2.2.2.2.2.2.2.2.2)]))) (fun w y=>iB pu n (Sq pu n w0) w y.1 y.2.1 y.2.2.1 y.2.2.2.1 y.2.2.2.2.1 y.2.2.2.2.2.1 y.2.2.2.2.2.2.1 y.2.2.2.2.2.2.2.1 y.2.2.2.2.2.2.2.2.1 y.2.2.2.2.2.2.2.2.2.1 y.2.2.2.2.2.2.2.2.2.2.1 y.2.2.2.2.2.2.2.2.2.2.2.1 y.2.2.2.2.2.2.2.2.2.2.2.2.1 y.2.2.2.2.2.2.2.2.2.2.2.2.2) n ⟨(z8,z9,(bb (AY z10 (Aj .i64 (Int.add z9 z11))) z10 (Aj .i64 (Int.add z9 z11))),z9,z10,z11,z12,z13,n4,c4,n5,c5,q4,q5),hm,(.k [5,6] [false] [.tmp 5 false,.tmp 6 false,.tmp 9 false,.tmp 12 true,.cell 4 1 false,.cell 4 2 false] [5,6,7,9,12,14,15,16] ⟨DL h2,DL h3,trivial⟩)⟩ (fun _=>rfl) ?_)
    rintro w1 ⟨z20,z21,z22,z23,z24,z25,z26,z27,n8,c9,n9,c10,q8,q9⟩ hm
    replace hm:gZ pu n (Sq pu n w0) (iB pu n (Sq pu n w0) w1) z20 z21 z22 z23 z24 z25 z26 z27 n8 c9 n9 c10 q8 q9=some v:=hm
    unfold gZ at hm
    refine .then (.then (.rK ?_))
    replace hm:=Ae hm;obtain⟨h7,hm⟩:=hm
    replace hm:=Ae hm;obtain⟨h8,hm⟩:=hm
    refine .ghs (fr 130 [(5,pt 1 0),(6,(pt 2 0)),(7,zI z20),(9,(pt 3 0)),(12,(pt 4 0)),(14,zI z21),(15,zI z22),(16,zI z23),(89,(zB (AY z23 z22)))]) (hT 7 [(oC [zI z24]),(oC [zI z25]),(oC [zI z26]),(oC [zI z27,sc 5 0 1 n8 c9,sc 6 0 1 n9 c10]),oC q8,oC q9]) (.k [5,6] [false] [.tmp 5 false,.tmp 6 false,.tmp 9 false,.tmp 12 true,.cell 4 1 false,.cell 4 2 false] [5,6,7,9,12,14,15,16,89] ⟨DL h7,DL h8,trivial⟩) ?_
    replace hm:=Ag hm;rcases hm with⟨h9,hm⟩ | ⟨h9,hm⟩
    ·refine Hy (AY z23 z22) h9 ?_
     refine .skip (.ghs (fr 130 [(5,pt 1 0),(6,(pt 2 0)),(7,zI z20),(9,(pt 3 0)),(12,(pt 4 0)),(14,zI z21),(15,zI z22),(16,zI z23)]) (hT 7 [(oC [zI z24]),(oC [zI z25]),(oC [zI z26]),(oC [zI z27,sc 5 0 1 n8 c9,sc 6 0 1 n9 c10]),oC q8,oC q9]) (.k [5,6] [false] [.tmp 5 false,.tmp 6 false,.tmp 9 false,.tmp 12 true,.cell 4 1 false,.cell 4 2 false] [5,6,7,9,12,14,15,16] ⟨DL h7,DL h8,trivial⟩) ?_)
     refine .then (.block ?_)
     replace hm:=Ae hm;obtain⟨h10,hm⟩:=hm
     replace hm:=Ab hm;obtain⟨k1,h11,hm⟩:=hm
     replace hm:=Ae hm;obtain⟨h12,hm⟩:=hm
     replace hm:=Ke hm;obtain⟨x0,h13,hm⟩:=hm
     replace hm:=Ab hm;obtain⟨k2,h14,hm⟩:=hm
     obtain rfl:=AR h14
     replace hm:=Ae hm;obtain⟨h15,hm⟩:=hm
     replace hm:=Ae hm;obtain⟨h16,hm⟩:=hm
     refine .reg (eN 16 (Fr.puts (fr 130 [(5,pt 1 0),(6,(pt 2 0)),(7,zI z20),(9,(pt 3 0)),(12,(pt 4 0)),(14,zI z21),(15,zI z22),(16,(zI (Int.ofNat k2)))]) [(92,(pt 4 2)),(93,sc 6 0 1 n9 c10),(94,(zI (Int.ofNat k2))),(95,(pt 4 1)),(96,sc 5 0 1 n8 c9),(97,zI z21),(98,(zI (Int.ofNat k2))),(99,zI z21),(100,(zI (Aj .i64 (Int.sub (Int.ofNat k2) z21)))),(101,(zI (Aj .i64 (Int.add (Aj .i64 (Int.sub (Int.ofNat k2) z21)) (1:Int))))),(102,zI z22),(103,zI z21),(104,(zI (Aj .i64 (Int.sub z22 z21)))),(105,(zI (Int.tmod (Aj .i64 (Int.add (Aj .i64 (Int.sub (Int.ofNat k2) z21)) (1:Int))) (Aj .i64 (Int.sub z22 z21))))),(106,(zI (Int.ofNat k1))),(107,(.pointer (some ⟨5,(0+k1*1),none⟩)))]) (hT 7 [(oC [zI z24]),(oC [zI z25]),(oC [zI z26]),(oC [zI z27,sc 5 0 1 n8 c9,sc 6 0 1 n9 c10]),oC q8,oC q9]) (eC 13 (keep (hT 7 [(oC [zI z24]),(oC [zI z25]),(oC [zI z26]),(oC [zI z27,sc 5 0 1 n8 c9,sc 6 0 1 n9 c10]),oC q8,oC q9]) (bb (Bd (Aj .i64 (Int.sub z22 z21)) (0:Int)) none (some (zI (Int.tmod (Aj .i64 (Int.add (Aj .i64 (Int.sub (Int.ofNat k2) z21)) (1:Int))) (Aj .i64 (Int.sub z22 z21))))))) (XH h10) (eD (some ((zI (Aj .i64 (Int.add z21 (Int.tmod (Aj .i64 (Int.add (Aj .i64 (Int.sub (Int.ofNat k2) z21)) (1:Int))) (Aj .i64 (Int.sub z22 z21)))))),(hT 7 [(oC [zI z24]),(oC [zI z25]),(oC [zI z26]),(oC [zI z27,sc 5 0 1 n8 c9,sc 6 0 1 n9 c10]),oC q8,oC q9]))) (show _=some ((zI (Int.ofNat k1)),_) from (by rw[AR h11])) (eD (keep (hT 7 [(oC [zI z24]),(oC [zI z25]),(oC [zI z26]),(oC [zI z27,sc 5 0 1 n8 c9,sc 6 0 1 n9 c10]),oC q8,oC q9]) (bb (an (Nat.blt k1 n8) true) (some (.pointer (some ⟨5,(0+k1*1),none⟩))) none)) (AX h12) (by kernel_rfl)))) (eD (keep (hT 7 [(oC [zI z24]),(oC [zI z25]),(oC [zI z26]),(oC [zI z27,sc 5 0 1 n8 c9,sc 6 0 1 n9 c10]),oC q8,oC q9]) (AL q8 (0+k1*1))) (AZ h13) (eD (keep (hT 7 [(oC [zI z24]),(oC [zI z25]),(oC [zI z26]),(oC [zI z27,sc 5 0 1 n8 c9,sc 6 0 1 n9 c10]),oC q8,oC q9]) (bb (an (Nat.blt k2 n9) true) (some (.pointer (some ⟨6,(0+k2*1),none⟩))) none)) (AX h15) (eD (done (bb (an (Nat.ble ((0+k2*1)+1) (len q9)) true) (some (hT 7 [(oC [zI z24]),(oC [zI z25]),(oC [zI z26]),(oC [zI z27,sc 5 0 1 n8 c9,sc 6 0 1 n9 c10]),oC q8,(oC (BM ([zI x0]:LV) (0+k2*1) q9))])) none) undef) (Js h16) (eE))))) ?_
     replace hm:=Ae hm;obtain⟨h17,hm⟩:=hm
     refine .ghs (fr 130 [(5,pt 1 0),(6,(pt 2 0)),(7,zI z20),(9,(pt 3 0)),(12,(pt 4 0)),(14,zI z21),(15,zI z22),(16,(zI (Int.ofNat k2)))]) (hT 7 [(oC [zI z24]),(oC [zI z25]),(oC [zI z26]),(oC [zI z27,sc 5 0 1 n8 c9,sc 6 0 1 n9 c10]),oC q8,(oC (BM ([zI x0]:LV) (0+k2*1) q9))]) (.k [5,6] [false] [.tmp 5 false,.tmp 6 false,.tmp 9 false,.tmp 12 true,.cell 4 1 false,.cell 4 2 false] [5,6,7,9,12,14,15,16] ⟨DL h7,DL h17,trivial⟩) ?_
     refine .rK ?_
     exact⟨(z20,z21,z22,(Aj .i64 (Int.add (Int.ofNat k2) (1:Int))),z24,z25,z26,z27,n8,c9,n9,c10,q8,(BM ([zI x0]:LV) (0+k2*1) q9)),hm,(.k [5,6] [false] [.tmp 5 false,.tmp 6 false,.tmp 9 false,.tmp 12 true,.cell 4 1 false,.cell 4 2 false] [5,6,7,9,12,14,15,16] ⟨DL h7,DL h17,trivial⟩)⟩
    ·refine Hz (AY z23 z22) h9 ?_
     refine .exit ?_
     exact⟨(z20,z21,z24,z25,z26,z27,n8,c9,n9,c10,q8,q9),hm,(.k [5,6] [false] [.tmp 5 false,.tmp 6 false,.tmp 9 false,.tmp 12 true,.cell 4 1 false,.cell 4 2 false] [5,6,7,9,12,14] ⟨DL h7,DL h8,trivial⟩)⟩
  ·refine Hz (AY z9 z10) h4 ?_
   refine .exit ?_
   exact⟨(z8,z12,z13,n4,c4,n5,c5,q4,q5),hm,(.k [5,6] [false] [.tmp 9 false,.tmp 12 true,.cell 2 1 false,.cell 2 2 false] [7,9,12] ⟨DL h2,DL h3,trivial⟩)⟩
theorem r6 {call:A8} (pu:Af) (n:Nat) (hcall:call=Bb tabs Iq pu (inl pu)) {args:LV} {v:Value} (hm:m6 pu n args=some v) (_:∀ x∈args,closed2 x=true):args.length≤130∧BN tt call 1 Ua (Fr.made 130 args) (Ao tabs) (Fin tt 1 [.tmp 4] v):=by
 subst hcall
 unfold m6 at hm
 replace hm:=Ad hm;obtain⟨a0,args_0,rfl,hm⟩:=hm
 replace hm:=Ad hm;obtain⟨a1,args_1,rfl,hm⟩:=hm
 replace hm:=AC hm;obtain⟨rfl,hm⟩:=hm
 replace hm:=Ai hm;obtain⟨x1,rfl,hm⟩:=hm
 replace hm:=Ai hm;obtain⟨x3,rfl,hm⟩:=hm
 unfold Nc at hm
 refine⟨by simp,?_⟩
 refine .same (F':=(fr 130 [(0,(zY x1)),(1,(zY x3))])) (H':=FM) (by kernel_rfl) (by kernel_rfl) ?_
 refine .then (.rK (.ghs (fr 130 [(0,(zY x1)),(1,(zY x3))]) FM (.k0 [false] [] [0,1]) ?_))
 refine .then (.rK (.ghs (fr 130 [(5,pt 1 0),(6,(pt 2 0))]) (hT 3 [(oC [(zI (Aj .i64 (Int.add (1:Int) (Int.tmod (Aj .i64 x1) (5:Int)))))]),(oC [(zI (Aj .i64 (Int.add (1:Int) (Int.tmod (Aj .i64 x3) (4:Int)))))])]) (.k0 [false] [.tmp 5 false,.tmp 6 false] [5,6]) ?_))
 refine .then ?_
 replace hm:=Ab hm;obtain⟨v15,h16,hm⟩:=hm
 replace hm:=Ch hm;obtain⟨l17,rfl,hm⟩:=hm
 replace hm:=Ad hm;obtain⟨v19,l17_0,rfl,hm⟩:=hm
 replace hm:=Ad hm;obtain⟨v20,l17_1,rfl,hm⟩:=hm
 replace hm:=AC hm;obtain⟨rfl,hm⟩:=hm
 replace hm:=Ai hm;obtain⟨x21,rfl,hm⟩:=hm
 replace hm:=Ai hm;obtain⟨x23,rfl,hm⟩:=hm
 refine .reg (eC 2 ((oo (pu 27 [(zI (Aj .i64 (Int.add (1:Int) (Int.tmod (Aj .i64 x1) (5:Int))))),(zI (Aj .i64 (Int.add (1:Int) (Int.tmod (Aj .i64 x3) (4:Int)))))]) none fun v=>some (v,(hT 3 [(oC [(zI (Aj .i64 (Int.add (1:Int) (Int.tmod (Aj .i64 x1) (5:Int)))))]),(oC [(zI (Aj .i64 (Int.add (1:Int) (Int.tmod (Aj .i64 x3) (4:Int)))))])])))) (AB h16) (eE)) ?_
 refine .ghs (fr 130 [(5,pt 1 0),(6,(pt 2 0)),(7,zI x21),(8,zI x23)]) (hT 3 [(oC [(zI (Aj .i64 (Int.add (1:Int) (Int.tmod (Aj .i64 x1) (5:Int)))))]),(oC [(zI (Aj .i64 (Int.add (1:Int) (Int.tmod (Aj .i64 x3) (4:Int)))))])]) (.k0 [false] [.tmp 5 false,.tmp 6 false] [5,6,7,8]) ?_
 refine .then (.join (v:=v) (fun y:Int×Bool×Int×Int=>((fr 130 [(5,pt 1 0),(6,(pt 2 0)),(7,(zI y.1)),(46,(zB y.2.1))]),(hT 3 [(oC [(zI y.2.2.1)]),(oC [(zI y.2.2.2)])]))) (fun y=>Wp pu n y.1 y.2.1 y.2.2.1 y.2.2.2) ?_ ?_)
 ·rintro⟨z33,b34,z35,z36⟩ hm
  unfold Wp at hm
  replace hm:=Ag hm;rcases hm with⟨h37,hm⟩ | ⟨h37,hm⟩
  ·refine .ifT b34 (by kernel_rfl) h37 ?_
   refine .then (.rK (.ghs (fr 130 [(4,zB false)]) FM (.k0 [false] [] [4]) ?_))
   refine .ret ?_
   exact FK (zB false) hm
  ·refine .ifF b34 (by kernel_rfl) h37 ?_
   refine .skip (.ghs (fr 130 [(5,pt 1 0),(6,(pt 2 0)),(7,zI z33)]) (hT 3 [(oC [zI z35]),(oC [zI z36])]) (.k0 [false] [.tmp 5 false,.tmp 6 false] [5,6,7]) ?_)
   refine .then (.rK (.ghs (fr 130 [(5,pt 1 0),(6,(pt 2 0)),(7,zI z33),(9,(pt 3 0))]) (hT 4 [(oC [zI z35]),(oC [zI z36]),(oC [(zI (0:Int))])]) (.k0 [false] [.tmp 5 false,.tmp 6 false,.tmp 9 false] [5,6,7,9]) ?_))
   refine .then ?_
   replace hm:=Ab hm;obtain⟨k41,h42,hm⟩:=hm
   obtain rfl:=AR h42
   replace hm:=Ae hm;obtain⟨h43,hm⟩:=hm
   refine .reg (eC 1 (bb (an (Nat.ble k41 k41) (an (Nat.ble (k41*8) 1099511627776) (an (Nat.ble k41 1099511627776) true))) (some ((sc 4 0 1 k41 (2*k41+bb true 1 0)),(hT 5 [(oC [(zI (Int.ofNat k41))]),(oC [zI z36]),(oC [(zI (0:Int))]),(oC (AF ([(zI (0:Int))]:LV) k41))]))) none) (kH h43) (eE)) ?_
   replace hm:=Ae hm;obtain⟨h44,hm⟩:=hm
   refine .ghs (fr 130 [(5,pt 1 0),(6,(pt 2 0)),(7,zI z33),(9,(pt 3 0)),(10,(pt 4 0))]) (hT 6 [(oC [(zI (Int.ofNat k41))]),(oC [zI z36]),(oC [(zI (0:Int))]),(oC [(sc 5 0 1 k41 (2*k41+bb true 1 0))]),(oC (AF ([(zI (0:Int))]:LV) k41))]) (.k [4] [false] [.tmp 5 false,.tmp 6 false,.tmp 9 false,.tmp 10 true,.cell 4 0 false] [5,6,7,9,10] ⟨DL h44,trivial⟩) ?_
   refine .then (.rK (.ghs (fr 130 [(5,pt 1 0),(6,(pt 2 0)),(7,zI z33),(9,(pt 3 0)),(10,(pt 4 0)),(11,(pt 5 0))]) (hT 7 [(oC [(zI (Int.ofNat k41))]),(oC [zI z36]),(oC [(zI (0:Int))]),(oC [(sc 6 0 1 k41 (2*k41+bb true 1 0))]),(oC [.nilFunc]),(oC (AF ([(zI (0:Int))]:LV) k41))]) (.k [5] [false] [.tmp 5 false,.tmp 6 false,.tmp 9 false,.tmp 10 true,.tmp 11 false,.cell 4 0 false] [5,6,7,9,10,11] ⟨DL h44,trivial⟩) ?_))
   refine .then (.rK (.ghs (fr 130 [(5,pt 1 0),(6,(pt 2 0)),(7,zI z33),(9,(pt 3 0)),(11,(pt 4 0))]) (hT 7 [(oC [(zI (Int.ofNat k41))]),(oC [zI z36]),(oC [(zI (0:Int))]),(oC [(.func (.func 28) ⟨[]⟩ ⟨[pt 1 0,(pt 5 0),(pt 3 0),(pt 2 0),(pt 4 0)]⟩)]),(oC [(sc 6 0 1 k41 (2*k41+bb true 1 0))]),(oC (AF ([(zI (0:Int))]:LV) k41))]) (.k [6] [false] [.tmp 5 false,.tmp 6 false,.tmp 9 false,.tmp 11 true,.ccap 4 0 1 true,.cell 5 0 false] [5,6,7,9,11] ⟨DL h44,trivial⟩) ?_))
   refine .then ?_
   replace hm:=Ae hm;obtain⟨h0,hm⟩:=hm
   replace hm:=Ae hm;obtain⟨h1,hm⟩:=hm
   replace hm:=Ab hm;obtain⟨v0,h2,hm⟩:=hm
   replace hm:=Ch hm;obtain⟨l0,rfl,hm⟩:=hm
   replace hm:=Ad hm;obtain⟨v1,l15535_0,rfl,hm⟩:=hm
   replace hm:=Ad hm;obtain⟨v2,l15535_1,rfl,hm⟩:=hm
   replace hm:=Ad hm;obtain⟨v3,l15535_2,rfl,hm⟩:=hm
   replace hm:=Ad hm;obtain⟨v4,l15535_3,rfl,hm⟩:=hm
   replace hm:=Ad hm;obtain⟨v5,l15535_4,rfl,hm⟩:=hm
   replace hm:=Ad hm;obtain⟨v6,l15535_5,rfl,hm⟩:=hm
   replace hm:=Ad hm;obtain⟨v7,l15535_6,rfl,hm⟩:=hm
   replace hm:=AC hm;obtain⟨rfl,hm⟩:=hm
   replace hm:=Ae hm;obtain⟨h3,hm⟩:=hm
   obtain rfl:=Oo h3
   replace hm:=BG hm;obtain⟨l1,rfl,hm⟩:=hm
   replace hm:=Ad hm;obtain⟨v8,l15545_0,rfl,hm⟩:=hm
   replace hm:=AC hm;obtain⟨rfl,hm⟩:=hm
   replace hm:=Ai hm;obtain⟨x0,rfl,hm⟩:=hm
   replace hm:=BG hm;obtain⟨l2,rfl,hm⟩:=hm
   replace hm:=Ad hm;obtain⟨v9,l15550_0,rfl,hm⟩:=hm
   replace hm:=AC hm;obtain⟨rfl,hm⟩:=hm
   replace hm:=Ab hm;obtain⟨y0,h4,hm⟩:=hm
   obtain rfl:=F5 h4
   replace hm:=BG hm;obtain⟨l3,rfl,hm⟩:=hm
   replace hm:=Ad hm;obtain⟨v10,l15555_0,rfl,hm⟩:=hm
   replace hm:=AC hm;obtain⟨rfl,hm⟩:=hm
   replace hm:=Ai hm;obtain⟨x2,rfl,hm⟩:=hm
   replace hm:=BG hm;obtain⟨l4,rfl,hm⟩:=hm
   replace hm:=Ad hm;obtain⟨v11,l15560_0,rfl,hm⟩:=hm
   replace hm:=AC hm;obtain⟨rfl,hm⟩:=hm
   replace hm:=Ai hm;obtain⟨x4,rfl,hm⟩:=hm
   replace hm:=BG hm;obtain⟨l5,rfl,hm⟩:=hm
   replace hm:=Ad hm;obtain⟨v12,l15565_0,rfl,hm⟩:=hm
   replace hm:=AC hm;obtain⟨rfl,hm⟩:=hm
   replace hm:=Ab hm;obtain⟨l6,h5,hm⟩:=hm
   obtain rfl:=Hu h5
   replace hm:=Ad hm;obtain⟨v13,l15568_0,rfl,hm⟩:=hm
   replace hm:=Ad hm;obtain⟨v14,l15568_1,rfl,hm⟩:=hm
   replace hm:=Ad hm;obtain⟨v16,l15568_2,rfl,hm⟩:=hm
   replace hm:=Ad hm;obtain⟨v17,l15568_3,rfl,hm⟩:=hm
   replace hm:=Ad hm;obtain⟨v18,l15568_4,rfl,hm⟩:=hm
   replace hm:=AC hm;obtain⟨rfl,hm⟩:=hm
   replace hm:=Ae hm;obtain⟨h6,hm⟩:=hm
   obtain rfl:=KR h6
   replace hm:=Ae hm;obtain⟨h7,hm⟩:=hm
   obtain rfl:=KR h7
   replace hm:=Ae hm;obtain⟨h8,hm⟩:=hm
   obtain rfl:=KR h8
   replace hm:=Ae hm;obtain⟨h9,hm⟩:=hm
   obtain rfl:=KR h9
   replace hm:=Ae hm;obtain⟨h10,hm⟩:=hm
   obtain rfl:=KR h10
   replace hm:=BG hm;obtain⟨q0,rfl,hm⟩:=hm
   replace hm:=Ae hm;obtain⟨h11,hm⟩:=hm
   refine .reg (eC 1 (EK tabs [[none],[none],[none],[none],[none],[none]] 6 [.tmp 1 false,.tmp 2 true,.tmp 3 false,.tmp 4 false,.tmp 5 true,.cell 2 0 false] [false,true,false,false,true,false] (pu 10280) [(zI (0:Int)),pt 1 0,(pt 5 0),(pt 3 0),(pt 2 0),(pt 4 0)] (hT 7 [(oC [(zI (Int.ofNat k41))]),(oC [zI z36]),(oC [(zI (0:Int))]),(oC [(.func (.func 28) ⟨[]⟩ ⟨[pt 1 0,(pt 5 0),(pt 3 0),(pt 2 0),(pt 4 0)]⟩)]),(oC [(sc 6 0 1 k41 (2*k41+bb true 1 0))]),(oC (AF ([(zI (0:Int))]:LV) k41))])) (EL (as:=[(zI (0:Int)),pt 1 0,(pt 5 0),(pt 3 0),(pt 2 0),(pt 4 0)]) (H1:=(hT 7 [(oC [(zI (Int.ofNat k41))]),(oC [zI z36]),(oC [(zI (0:Int))]),(oC [(.func (.func 28) ⟨[]⟩ ⟨[pt 1 0,(pt 5 0),(pt 3 0),(pt 2 0),(pt 4 0)]⟩)]),(oC [(sc 6 0 1 k41 (2*k41+bb true 1 0))]),(oC (AF ([(zI (0:Int))]:LV) k41))])) (BS (Dm Dk) (BS (Dm Dk) (BS (Dm Dk) (BS (Dm Dk) (BS (Dm Dk) (BS (Dm Dk) Gj)))))) (EI (H2:=(hT 7 [(oC [zI x0]),(oC [zI x4]),(oC [zI x2]),(oC [(.func (.func 28) ⟨[]⟩ ⟨[pt 1 0,(pt 5 0),(pt 3 0),(pt 2 0),(pt 4 0)]⟩)]),(oC [(sc 6 0 1 (NC.n y0) (NC.c y0))]),oC q0])) (v:=(.tuple ⟨[]⟩)) (v':=(.tuple ⟨[]⟩)) [some 0,some 1,some 5,some 3,some 2,some 4,some 6] [(false,some 1),(true,some 5),(false,some 3),(false,some 2),(true,some 4),(false,some 6)] [(oC [(zI (Int.ofNat k41))]),(oC [(sc 6 0 1 k41 (2*k41+bb true 1 0))]),(oC [(zI (0:Int))]),(oC [zI z36]),(oC [(.func (.func 28) ⟨[]⟩ ⟨[pt 1 0,(pt 2 0),(pt 3 0),(pt 4 0),(pt 5 0)]⟩)]),(oC (AF ([(zI (0:Int))]:LV) k41))] [(zI (0:Int)),pt 1 0,(pt 2 0),(pt 3 0),(pt 4 0),(pt 5 0)] [(.agg ⟨[zI x0]⟩),(.agg ⟨[(sc 6 0 1 (NC.n y0) (NC.c y0))]⟩),(.agg ⟨[zI x2]⟩),(.agg ⟨[zI x4]⟩),(.agg ⟨[(.func (.func 28) ⟨[]⟩ ⟨[pt 1 0,(pt 2 0),(pt 3 0),(pt 4 0),(pt 5 0)]⟩)]⟩),(.agg ⟨q0⟩)] [(oC [zI x0]),(oC [(sc 6 0 1 (NC.n y0) (NC.c y0))]),(oC [zI x2]),(oC [zI x4]),(oC [(.func (.func 28) ⟨[]⟩ ⟨[pt 1 0,(pt 2 0),(pt 3 0),(pt 4 0),(pt 5 0)]⟩)]),oC q0] [some 0,some 1,some 4,some 3,some 5,some 2,some 6] [(false,(oC [zI x0])),(true,(oC [(sc 6 0 1 (NC.n y0) (NC.c y0))])),(false,(oC [zI x2])),(false,(oC [zI x4])),(true,(oC [(.func (.func 28) ⟨[]⟩ ⟨[pt 1 0,(pt 2 0),(pt 3 0),(pt 4 0),(pt 5 0)]⟩)])),(false,oC q0)] [(oC [zI x0]),(oC [(sc 6 0 1 (NC.n y0) (NC.c y0))]),(oC [zI x2]),(oC [zI x4]),(oC [(.func (.func 28) ⟨[]⟩ ⟨[pt 1 0,(pt 5 0),(pt 3 0),(pt 2 0),(pt 4 0)]⟩)]),oC q0] (sF (by kernel_rfl) (XX h0 rfl)) (En (by kernel_rfl) (En (by kernel_rfl) (En (by kernel_rfl) (En (by kernel_rfl) (En (by kernel_rfl) (En (Nb (anc:=[]) h1) BX)))))) (Eq.trans (by kernel_rfl) h2) (En rfl (En rfl (En rfl (En rfl (En rfl (En rfl BX)))))) (En (by kernel_rfl) (En (by kernel_rfl) (En (by kernel_rfl) (En (by kernel_rfl) (En (by kernel_rfl) (En (KO h11) BX)))))))) (eE)) ?_
   refine .ghs (fr 130 [(5,pt 1 0),(6,(pt 2 0)),(7,zI z33),(9,(pt 3 0))]) (hT 4 [(oC [zI x0]),(oC [zI x4]),(oC [zI x2])]) (.k0 [false] [.tmp 5 false,.tmp 6 false,.tmp 9 false] [5,6,7,9]) ?_
   refine .then (.rK (.ghs (fr 130 [(5,pt 1 0),(6,(pt 2 0)),(7,zI z33),(9,(pt 3 0)),(12,(pt 4 0))]) (hT 5 [(oC [zI x0]),(oC [zI x4]),(oC [zI x2]),(oC [zI x4,(.slice none 0 0),(.slice none 0 0)])]) (.k0 [false] [.tmp 5 false,.tmp 6 false,.tmp 9 false,.tmp 12 false] [5,6,7,9,12]) ?_))
   refine .join (v:=v) (fun y:Int×Int×Int×Int×Int×Nat×Nat×Nat×Nat×LV×LV=>((fr 130 [(5,pt 1 0),(6,(pt 2 0)),(7,(zI y.1)),(9,(pt 3 0)),(12,(pt 4 0))]),(hT 7 [(oC [(zI y.2.1)]),(oC [(zI y.2.2.1)]),(oC [(zI y.2.2.2.1)]),(oC [(zI y.2.2.2.2.1),(sc 5 0 1 y.2.2.2.2.2.1 y.2.2.2.2.2.2.1),(sc 6 0 1 y.2.2.2.2.2.2.2.1 y.2.2.2.2.2.2.2.2.1)]),(oC y.2.2.2.2.2.2.2.2.2.1),(oC y.2.2.2.2.2.2.2.2.2.2)]))) (fun y=>XO pu n y.1 y.2.1 y.2.2.1 y.2.2.2.1 y.2.2.2.2.1 y.2.2.2.2.2.1 y.2.2.2.2.2.2.1 y.2.2.2.2.2.2.2.1 y.2.2.2.2.2.2.2.2.1 y.2.2.2.2.2.2.2.2.2.1 y.2.2.2.2.2.2.2.2.2.2) ?_ ?_
   ·rintro⟨z0,z1,z2,z3,z4,n0,c0,n1,c1,q1,q2⟩ hm
    exact yQ pu n z0 z1 z2 z3 z4 n0 c0 n1 c1 q1 q2 hm
   ·refine .then (.rK (.ghs (fr 130 [(5,pt 1 0),(6,(pt 2 0)),(7,zI z33),(9,(pt 3 0)),(12,(pt 4 0)),(54,zI x0),(55,(zI (0:Int)))]) (hT 5 [(oC [zI x0]),(oC [zI x4]),(oC [zI x2]),(oC [zI x4,(.slice none 0 0),(.slice none 0 0)])]) (.k0 [false] [.tmp 5 false,.tmp 6 false,.tmp 9 false,.tmp 12 false] [5,6,7,9,12,54,55]) ?_))
    refine .block (.loopM (v:=v) (fun y:Int×Int×Int×Int×Int×Int×Int×Nat×Nat×Nat×Nat×LV×LV=>((fr 130 [(5,pt 1 0),(6,(pt 2 0)),(7,(zI y.1)),(9,(pt 3 0)),(12,(pt 4 0)),(54,(zI y.2.1)),(55,(zI y.2.2.1))]),(hT 7 [(oC [(zI y.2.2.2.1)]),(oC [(zI y.2.2.2.2.1)]),(oC [(zI y.2.2.2.2.2.1)]),(oC [(zI y.2.2.2.2.2.2.1),(sc 5 0 1 y.2.2.2.2.2.2.2.1 y.2.2.2.2.2.2.2.2.1),(sc 6 0 1 y.2.2.2.2.2.2.2.2.2.1 y.2.2.2.2.2.2.2.2.2.2.1)]),(oC y.2.2.2.2.2.2.2.2.2.2.2.1),(oC y.2.2.2.2.2.2.2.2.2.2.2.2)]))) (fun w y=>HV pu n w y.1 y.2.1 y.2.2.1 y.2.2.2.1 y.2.2.2.2.1 y.2.2.2.2.2.1 y.2.2.2.2.2.2.1 y.2.2.2.2.2.2.2.1 y.2.2.2.2.2.2.2.2.1 y.2.2.2.2.2.2.2.2.2.1 y.2.2.2.2.2.2.2.2.2.2.1 y.2.2.2.2.2.2.2.2.2.2.2.1 y.2.2.2.2.2.2.2.2.2.2.2.2) n ⟨(z33,x0,(0:Int),x0,x4,x2,x4,0,0,0,0,([]:LV),([]:LV)),hm,(.thawC 4 1 1 [zI x4,(.slice none 0 0),(.slice none 0 0)] (imm:=false) (spent:=false) (anc:=[]) (by kernel_rfl) (by kernel_rfl) (by kernel_rfl) (by kernel_rfl) (.thawC 4 2 1 [zI x4,sc 5 0 1 0 0,(.slice none 0 0)] (imm:=false) (spent:=false) (anc:=[]) (by kernel_rfl) (by kernel_rfl) (by kernel_rfl) (by kernel_rfl) (.k0 [false] [.tmp 5 false,.tmp 6 false,.tmp 9 false,.tmp 12 true,.cell 4 1 false,.cell 4 2 false] [5,6,7,9,12,54,55])))⟩ (fun _=>rfl) ?_)
    rintro w0 ⟨z5,z6,z7,z8,z9,z10,z11,n2,c2,n3,c3,q3,q4⟩ hm
    replace hm:iD pu n (HV pu n w0) z5 z6 z7 z8 z9 z10 z11 n2 c2 n3 c3 q3 q4=some v:=hm
    unfold iD at hm
    refine .then (.rK ?_)
    replace hm:=Ae hm;obtain⟨h12,hm⟩:=hm
    replace hm:=Ae hm;obtain⟨h13,hm⟩:=hm
    refine .ghs (fr 130 [(5,pt 1 0),(6,(pt 2 0)),(7,zI z5),(9,(pt 3 0)),(12,(pt 4 0)),(54,zI z6),(55,zI z7),(56,(zB (AY z7 z6)))]) (hT 7 [(oC [zI z8]),(oC [zI z9]),(oC [zI z10]),(oC [zI z11,sc 5 0 1 n2 c2,sc 6 0 1 n3 c3]),oC q3,oC q4]) (.k [5,6] [false] [.tmp 5 false,.tmp 6 false,.tmp 9 false,.tmp 12 true,.cell 4 1 false,.cell 4 2 false] [5,6,7,9,12,54,55,56] ⟨DL h12,DL h13,trivial⟩) ?_
    refine .then ?_
    replace hm:=Ag hm;rcases hm with⟨h14,hm⟩ | ⟨h14,hm⟩
    ·refine Hy (AY z7 z6) h14 ?_
     refine .skip (.ghs (fr 130 [(5,pt 1 0),(6,(pt 2 0)),(7,zI z5),(9,(pt 3 0)),(12,(pt 4 0)),(54,zI z6),(55,zI z7)]) (hT 7 [(oC [zI z8]),(oC [zI z9]),(oC [zI z10]),(oC [zI z11,sc 5 0 1 n2 c2,sc 6 0 1 n3 c3]),oC q3,oC q4]) (.k [5,6] [false] [.tmp 5 false,.tmp 6 false,.tmp 9 false,.tmp 12 true,.cell 4 1 false,.cell 4 2 false] [5,6,7,9,12,54,55] ⟨DL h12,DL h13,trivial⟩) ?_)
     refine .then (.block (.then (.rK (.ghs (fr 130 [(5,pt 1 0),(6,(pt 2 0)),(7,zI z5),(9,(pt 3 0)),(12,(pt 4 0)),(13,zI z7),(54,zI z6),(55,zI z7)]) (hT 7 [(oC [zI z8]),(oC [zI z9]),(oC [zI z10]),(oC [zI z11,sc 5 0 1 n2 c2,sc 6 0 1 n3 c3]),oC q3,oC q4]) (.k [5,6] [false] [.tmp 5 false,.tmp 6 false,.tmp 9 false,.tmp 12 true,.cell 4 1 false,.cell 4 2 false] [5,6,7,9,12,13,54,55] ⟨DL h12,DL h13,trivial⟩) ?_))))
     replace hm:=Ae hm;obtain⟨h15,hm⟩:=hm
     replace hm:=Ae hm;obtain⟨h17,hm⟩:=hm
     replace hm:=Ae hm;obtain⟨h18,hm⟩:=hm
     replace hm:=Ae hm;obtain⟨h19,hm⟩:=hm
     refine .reg (eC 4 (keep (hT 7 [(oC [zI z8]),(oC [zI z9]),(oC [zI z10]),(oC [zI z11,sc 5 0 1 n2 c2,sc 6 0 1 n3 c3]),oC q3,oC q4]) (bb (Bd z9 (0:Int)) none (some (zI (Int.tmod z7 z9))))) (XH h15) (eC 5 (keep (hT 8 [(oC [zI z8]),(oC [zI z9]),(oC [zI z10]),(oC [zI z11,sc 5 0 1 n2 c2,sc 6 0 1 n3 c3]),oC q3,oC q4,(oC [(zI (Int.tmod z7 z9))])]) (bb (Bd z9 (0:Int)) none (some (zI (Int.tmod z7 z9))))) (XH h17) (eC 1 (Oc 1 8 n2 c2 1 5 q3 [(zI (Int.tmod z7 z9))] [] (hT 9 [(oC [zI z8]),(oC [zI z9]),(oC [zI z10]),(oC [zI z11,sc 5 0 1 n2 c2,sc 6 0 1 n3 c3]),oC q3,oC q4,(oC [(zI (Int.tmod z7 z9))]),(oC [(zI (Int.tmod z7 z9))])])) (I1 h18) (eC 1 (Oc 1 8 n3 c3 1 6 q4 [(zI (Int.tmod z7 z9))] [] (hT 10 [(oC [zI z8]),(oC [zI z9]),(oC [zI z10]),(oC [zI z11,sc 5 0 1 n2 c2,sc 6 0 1 n3 c3]),(oS q3),oC q4,(oC [(zI (Int.tmod z7 z9))]),(oC [(zI (Int.tmod z7 z9))]),(.cells (Br (Am 0 q3) [(zI (Int.tmod z7 z9))]) false false [5])])) (I1 h19) (eE))))) ?_
     replace hm:=Ae hm;obtain⟨h20,hm⟩:=hm
     replace hm:=Ae hm;obtain⟨h21,hm⟩:=hm
     refine .ghs (fr 130 [(5,pt 1 0),(6,(pt 2 0)),(7,zI z5),(9,(pt 3 0)),(12,(pt 4 0)),(54,zI z6),(55,zI z7)]) (hT 7 [(oC [zI z8]),(oC [zI z9]),(oC [zI z10]),(oC [zI z11,(sc 5 0 1 (n2+1) (d2 (n2+1))),(sc 6 0 1 (n3+1) (d2 (n3+1)))]),(oC (Br (Am 0 q3) [(zI (Int.tmod z7 z9))])),(oC (Br (Am 0 q4) [(zI (Int.tmod z7 z9))]))]) (.k [9,10] [false] [.tmp 5 false,.tmp 6 false,.tmp 9 false,.tmp 12 true,.cell 4 1 false,.cell 4 2 false] [5,6,7,9,12,54,55] ⟨DL h20,DL h21,trivial⟩) ?_
     refine .rK ?_
     exact⟨(z5,z6,(Aj .i64 (Int.add z7 (1:Int))),z8,z9,z10,z11,(n2+1),(d2 (n2+1)),(n3+1),(d2 (n3+1)),(Br (Am 0 q3) [(zI (Int.tmod z7 z9))]),(Br (Am 0 q4) [(zI (Int.tmod z7 z9))])),hm,(.k [5,6] [false] [.tmp 5 false,.tmp 6 false,.tmp 9 false,.tmp 12 true,.cell 4 1 false,.cell 4 2 false] [5,6,7,9,12,54,55] ⟨DL h20,DL h21,trivial⟩)⟩
    ·refine Hz (AY z7 z6) h14 ?_
     refine .exit ?_
     exact⟨(z5,z8,z9,z10,z11,n2,c2,n3,c3,q3,q4),hm,(.k [5,6] [false] [.tmp 5 false,.tmp 6 false,.tmp 9 false,.tmp 12 true,.cell 4 1 false,.cell 4 2 false] [5,6,7,9,12] ⟨DL h12,DL h13,trivial⟩)⟩
 ·replace hm:=Ag hm;rcases hm with⟨h22,hm⟩ | ⟨h22,hm⟩
  ·refine .reg (eC 1 (some ((zB (nt (Bd x23 (0:Int)))),(hT 3 [(oC [(zI (Aj .i64 (Int.add (1:Int) (Int.tmod (Aj .i64 x1) (5:Int)))))]),(oC [(zI (Aj .i64 (Int.add (1:Int) (Int.tmod (Aj .i64 x3) (4:Int)))))])]))) (show _=some ((zB true),_) from (by rw[show (nt (Bd x23 (0:Int)))=true from h22])) (eE)) ?_
   exact⟨(x21,true,(Aj .i64 (Int.add (1:Int) (Int.tmod (Aj .i64 x1) (5:Int)))),(Aj .i64 (Int.add (1:Int) (Int.tmod (Aj .i64 x3) (4:Int))))),hm,(.k0 [false] [.tmp 5 false,.tmp 6 false] [5,6,7,46])⟩
  ·replace hm:=Ae hm;obtain⟨h23,hm⟩:=hm
   refine .reg (eC 1 (some ((zB (nt (Bd x23 (0:Int)))),(hT 3 [(oC [(zI (Aj .i64 (Int.add (1:Int) (Int.tmod (Aj .i64 x1) (5:Int)))))]),(oC [(zI (Aj .i64 (Int.add (1:Int) (Int.tmod (Aj .i64 x3) (4:Int)))))])]))) (show _=some ((zB false),_) from (by rw[show (nt (Bd x23 (0:Int)))=false from h22])) (eC 8 (keep (hT 3 [(oC [(zI (Aj .i64 (Int.add (1:Int) (Int.tmod (Aj .i64 x1) (5:Int)))))]),(oC [(zI (Aj .i64 (Int.add (1:Int) (Int.tmod (Aj .i64 x3) (4:Int)))))])]) (bb (Bd (Aj .i64 (Int.add (1:Int) (Int.tmod (Aj .i64 x3) (4:Int)))) (0:Int)) none (some (zI (Aj .i64 (Int.tdiv (Aj .i64 (Int.sub (Aj .i64 (Int.add (Aj .i64 (Int.add (1:Int) (Int.tmod (Aj .i64 x1) (5:Int)))) (Aj .i64 (Int.add (1:Int) (Int.tmod (Aj .i64 x3) (4:Int)))))) (1:Int))) (Aj .i64 (Int.add (1:Int) (Int.tmod (Aj .i64 x3) (4:Int)))))))))) (XH h23) (eE))) ?_
   exact⟨(x21,(nt (Bd x21 (Aj .i64 (Int.sub (Aj .i64 (Int.add (1:Int) (Int.tmod (Aj .i64 x1) (5:Int)))) (Aj .i64 (Int.tdiv (Aj .i64 (Int.sub (Aj .i64 (Int.add (Aj .i64 (Int.add (1:Int) (Int.tmod (Aj .i64 x1) (5:Int)))) (Aj .i64 (Int.add (1:Int) (Int.tmod (Aj .i64 x3) (4:Int)))))) (1:Int))) (Aj .i64 (Int.add (1:Int) (Int.tmod (Aj .i64 x3) (4:Int)))))))))),(Aj .i64 (Int.add (1:Int) (Int.tmod (Aj .i64 x1) (5:Int)))),(Aj .i64 (Int.add (1:Int) (Int.tmod (Aj .i64 x3) (4:Int))))),hm,(.k0 [false] [.tmp 5 false,.tmp 6 false] [5,6,7,46])⟩
end
end Go.MnWM
