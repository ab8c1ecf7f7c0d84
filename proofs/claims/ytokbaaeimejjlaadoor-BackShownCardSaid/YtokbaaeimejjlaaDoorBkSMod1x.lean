/- Made from wip. -/
import Derived.Test.YtokbaaeimejjlaaDoorBkSInlx

set_option maxRecDepth 100000
set_option maxHeartbeats 20000000
set_option linter.unusedVariables false
namespace Go.BkSM
open Go.Sp Go.BkS
noncomputable section
def OY:List Value:=[.int .u8 0,.int .u8 1,.int .u8 28,.int .u8 2,.int .u8 29,.int .u8 14,.int .u8 24,.int .u8 3,.int .u8 30,.int .u8 22,.int .u8 20,.int .u8 15,.int .u8 25,.int .u8 17,.int .u8 4,.int .u8 8,.int .u8 31,.int .u8 27,.int .u8 13,.int .u8 23,.int .u8 21,.int .u8 19,.int .u8 16,.int .u8 7,.int .u8 26,.int .u8 12,.int .u8 18,.int .u8 6,.int .u8 11,.int .u8 5,.int .u8 10,.int .u8 9]
def tabs:List (List Value):=[OY]
theorem A7 {tt:TT} {n0:Nat} {rs:List ResultVar} {v:Value} {F:Fr} {H:Aa} (r:Value) (hm:some r=some v) (h:DV tt F H rs=some r:=by kernel_rfl) (hc:Fe r=true:=by kernel_rfl):Fin tt n0 rs v .ret F H:=kI r h hc hm
theorem Gp {α:Type} {k:IntKind} {o:Option Value} {s:Int→Option α} {w:α} (h:oo o none (fun v=>oo (Bi k v) none s)=some w):∃ x,o=some (.int k x)∧s x=some w:=by
 obtain⟨v,h1,h2⟩:=Ab h
 obtain⟨x,hx,h3⟩:=Ab h2
 obtain rfl:=Eh hx
 exact⟨x,h1,h3⟩
theorem X4 {α:Type} {k:Nat} {o:Option Value} {s:Sl→Option α} {w:α} (h:oo o none (fun v=>oo (Bj k v) none s)=some w):∃ x,o=some (Sl.v k x)∧s x=some w:=by
 obtain⟨v,h1,h2⟩:=Ab h
 obtain⟨x,hx,h3⟩:=Ab h2
 obtain rfl:=Qh hx
 exact⟨x,h1,h3⟩
theorem X5 {α:Type} {o:Option Value} {s:Bool→Option α} {w:α} (h:oo o none (fun v=>oo (Bf v) none s)=some w):∃ x,o=some (.bool x)∧s x=some w:=by
 obtain⟨v,h1,h2⟩:=Ab h
 obtain⟨x,hx,h3⟩:=Ab h2
 obtain rfl:=BV hx
 exact⟨x,h1,h3⟩
theorem BI {tt:TT} {call:A8} {n0:Nat} {c:Operand} {a b:RC} {F:Fr} {H:Aa} {Q:Ex→Fr→Aa→Prop} (e:Bool) (hb:e=true) (h:BN tt call n0 a F H Q) (he:Bf (F.eval c)=some e:=by kernel_rfl):BN tt call n0 (.cond c a b) F H Q:=.ifT e he hb h
theorem BO {tt:TT} {call:A8} {n0:Nat} {c:Operand} {a b:RC} {F:Fr} {H:Aa} {Q:Ex→Fr→Aa→Prop} (e:Bool) (hb:e=false) (h:BN tt call n0 b F H Q) (he:Bf (F.eval c)=some e:=by kernel_rfl):BN tt call n0 (.cond c a b) F H Q:=.ifF e he hb h
abbrev Ay:Aa:=hp 1 [oT OY]
abbrev hT (n:Nat) (l:List AJ):Aa:=hp n (oT OY::l)
theorem Bq {a b:Bool} (h:b=true) (e:a=b:=by kernel_rfl):a=true:=e.trans h
abbrev OV:=Option Value
abbrev LV:=List Value
def R4:List Nat:=[4,9,10,12,13,19,20,21,36,45,46,47,48,49,51,52,53,58,65,66,68,69,74]
def isP:FuncId→Bool:=fun g=>ED g R4
def inl (pu:Af):A8:=fun g args H=>bb (Nat.beq g 43) (sortedF 64 args H) (bb (Nat.beq g 22) (Hr tabs 1 (pu 22) args H) (bb (Nat.beq g 77) (Hr tabs 1 (pu 77) args H) (bb (Nat.beq g 32) (Hr tabs 1 (pu 32) args H) (bb (Nat.beq g 40) (EK tabs [[some 1],[none],[none],[none],[none],[none],[none]] 7 [.tmp 2 false,.tmp 3 false,.tmp 4 false,.tmp 5 false,.tmp 6 true] [false,false,false,false,true] (pu 10400) args H) (bb (Nat.beq g 41) (EK tabs [[some 1],[none]] 2 [.cap 1 0 false] [false] (pu 10410) args H) (bb (Nat.beq g 61) (EK tabs [[some 1],[none]] 2 [.cap 1 0 false] [false] (pu 10610) args H) (bb (Nat.beq g 42) (EK tabs [[none],[none]] 2 [.tmp 1 false] [false] (pu 10420) args H) (bb (Nat.beq g 44) (EK tabs [[some 1]] 1 [] [false] (pu 10440) args H) (none)))))))))
end
end Go.BkSM
set_option maxRecDepth 100000
set_option maxHeartbeats 20000000
set_option linter.unusedVariables false
namespace Go.BkSM
open Go.Sp Go.BkS
noncomputable section
def WF (pu:Af) (n:Nat) (b0:Bool):OV:=
 (some (.bool b0))
def X6 (pu:Af) (n:Nat) (b0:Bool):OV:=
 (bb b0 (oo (pu 19 []) none fun v0=>(oo (Bf v0) none fun b1=>(WF pu n b1))) (WF pu n false))
def bN (pu:Af) (n:Nat) (ih0:Sl→Int→Nat→Nat→Sl→Bool→Int→Int→Int→Int→Sl→LV→OV) (s0:Sl) (z0:Int) (n0 c0:Nat) (s1:Sl) (b0:Bool) (z1 z2 z3 z4:Int) (s2:Sl) (q0:LV):OV:=
 (bb (Au Ah q0) (ih0 s0 z0 n0 c0 s1 b0 (Aj .i64 (Int.add z1 (1:Int))) z2 z3 z4 s2 q0) none)
def Ug (pu:Af) (n:Nat) (ih0:Sl→Int→Nat→Nat→Sl→Bool→Int→Int→Int→Int→Sl→LV→OV) (s0:Sl) (z0:Int) (n0 c0:Nat) (s1:Sl) (b0:Bool) (z1:Int) (s2:Sl) (b1:Bool) (z2 z3 z4:Int) (s3:Sl) (q0:LV):OV:=
 (oo (pu 21 [(.agg ⟨[.int .i64 z2,.int .i64 z3,.int .i64 z4,Sl.v 1 s3]⟩),Sl.v 1 s0,Sl.v 1 s2]) none fun v0=>(oo (Bi .i64 v0) none fun x0=>(bb (Au Ah q0) (bb (bq false (bq (Bd x0 (0:Int)) b1)) (some (.bool false)) (bN pu n ih0 s0 z0 n0 c0 s1 b0 z1 z2 z3 z4 s3 q0)) none)))
def R5 (pu:Af) (n:Nat) (ih0:Sl→Int→Nat→Nat→Sl→Bool→Int→Int→Int→Int→Sl→LV→OV) (s0:Sl) (z0:Int) (n0 c0:Nat) (s1:Sl) (b0:Bool) (z1:Int) (s2:Sl) (b1 b2:Bool) (z2 z3 z4:Int) (s3:Sl) (q0:LV):OV:=
 (bb b2 (some (.bool false)) (bb (Au Ah q0) (bb b0 (Ug pu n ih0 s0 z0 n0 c0 s1 true z1 s2 b1 z2 z3 z4 s3 q0) (bb b1 (oo (pu 12 [Sl.v 1 s2,Sl.v 1 s1]) none fun v0=>(oo (Bf v0) none fun b3=>(Ug pu n ih0 s0 z0 n0 c0 s1 b3 z1 s2 b1 z2 z3 z4 s3 q0))) (Ug pu n ih0 s0 z0 n0 c0 s1 false z1 s2 b1 z2 z3 z4 s3 q0))) none))
def WG (pu:Af) (n:Nat) (ih0:Sl→Int→Nat→Nat→Sl→Bool→Int→Int→Int→Int→Sl→LV→OV) (s0:Sl) (z0:Int) (n0 c0:Nat) (s1:Sl) (b0:Bool) (z1:Int) (n1 c1:Nat) (b1:Bool) (z2 z3 z4:Int) (s2:Sl) (q0:LV) (q1:LV):OV:=
 (bb (an (Nat.ble (0+n1*1) (len q1)) (Au Ah (Aq (n1*1) (Am 0 q1)))) (bb b1 (bb (AY (Int.ofNat (Sl.n (Sl.mk n1 0 (Aq (n1*1) (Am 0 q1))))) (Int.ofNat (Sl.n s1))) (bb (Au Ah q0) (R5 pu n ih0 s0 z0 n0 c0 s1 b0 z1 (Sl.mk n1 0 (Aq (n1*1) (Am 0 q1))) b1 true z2 z3 z4 s2 q0) none) (bb (Bd (Int.ofNat (Sl.n (Sl.mk n1 0 (Aq (n1*1) (Am 0 q1))))) (Int.ofNat (Sl.n s1))) (oo (pu 13 [(Sl.v 1 (Sl.mk n1 0 (Aq (n1*1) (Am 0 q1)))),Sl.v 1 s1]) none fun v0=>(oo (Bf v0) none fun b2=>(bb (Au Ah q0) (R5 pu n ih0 s0 z0 n0 c0 s1 b0 z1 (Sl.mk n1 0 (Aq (n1*1) (Am 0 q1))) b1 b2 z2 z3 z4 s2 q0) none))) (bb (Au Ah q0) (R5 pu n ih0 s0 z0 n0 c0 s1 b0 z1 (Sl.mk n1 0 (Aq (n1*1) (Am 0 q1))) b1 false z2 z3 z4 s2 q0) none))) (bb (Au Ah q0) (R5 pu n ih0 s0 z0 n0 c0 s1 b0 z1 (Sl.mk n1 0 (Aq (n1*1) (Am 0 q1))) b1 false z2 z3 z4 s2 q0) none)) none)
def M9 (pu:Af) (n:Nat) (ih0:Sl→Int→Nat→Nat→Sl→Bool→Int→Int→Int→Int→Sl→LV→OV) (ih1:Sl→Int→Nat→Nat→Sl→Bool→Int→Nat→Nat→Bool→Nat→Nat→Int→Int→Int→Int→Int→Sl→LV→LV→OV) (s0:Sl) (z0:Int) (n0 c0:Nat) (s1:Sl) (b0:Bool) (z1:Int) (n1 c1:Nat) (b1:Bool) (n2 c2:Nat) (z2 z3 z4 z5 z6:Int) (s2:Sl) (q0:LV) (q1:LV):OV:=
 (bb (Au Ah q0) (bb (Au Ah q1) (bb (AY z3 z2) (oo (EA z3) none fun k1=>(bb (an (Nat.blt k1 n2) true) (oo (AL q0 (0+k1*1)) none fun v0=>(oo (Bi .i64 v0) none fun x0=>(bb b1 (ih1 s0 z0 n0 c0 s1 b0 z1 n1 c1 (nt (Bd (Np .i64 x0 z1) (0:Int))) n2 c2 z2 (Aj .i64 (Int.add (Int.ofNat k1) (1:Int))) z4 z5 z6 s2 q0 q1) (ih1 s0 z0 n0 c0 s1 b0 z1 n1 c1 false n2 c2 z2 (Aj .i64 (Int.add (Int.ofNat k1) (1:Int))) z4 z5 z6 s2 q0 q1)))) none)) (WG pu n ih0 s0 z0 n0 c0 s1 b0 z1 n1 c1 b1 z4 z5 z6 s2 q0 q1)) none) none)
def O9 (pu:Af) (n:Nat) (ih0:Sl→Int→Nat→Nat→Sl→Bool→Int→Int→Int→Int→Sl→LV→OV) (w:Nat):Sl→Int→Nat→Nat→Sl→Bool→Int→Nat→Nat→Bool→Nat→Nat→Int→Int→Int→Int→Int→Sl→LV→LV→OV:=
 Nat.rec (motive:=fun _=>Sl→Int→Nat→Nat→Sl→Bool→Int→Nat→Nat→Bool→Nat→Nat→Int→Int→Int→Int→Int→Sl→LV→LV→OV) (fun _ _ _ _ _ _ _ _ _ _ _ _ _ _ _ _ _ _ _ _=>none) (fun _ ih1=>M9 pu n ih0 ih1) w
def X7 (pu:Af) (n:Nat) (ih0:Sl→Int→Nat→Nat→Sl→Bool→Int→Int→Int→Int→Sl→LV→OV) (s0:Sl) (z0:Int) (n0 c0:Nat) (s1:Sl) (b0:Bool) (z1:Int) (n1 c1:Nat) (z2 z3 z4:Int) (s2:Sl) (q0:LV) (q1:LV):OV:=
 (bb (Au Ah q0) (bb (Au Ah q1) (O9 pu n ih0 n s0 z0 n0 c0 s1 b0 z1 n1 c1 true n0 c0 (Int.ofNat n0) (0:Int) z2 z3 z4 s2 q0 q1) none) none)
def R6 (pu:Af) (n:Nat) (ih0:Sl→Int→Nat→Nat→Sl→Bool→Int→Int→Int→Int→Sl→LV→OV) (ih1:Sl→Int→Nat→Nat→Sl→Bool→Int→Nat→Nat→Int→Int→Int→Int→Sl→LV→LV→OV) (s0:Sl) (z0:Int) (n0 c0:Nat) (s1:Sl) (b0:Bool) (z1:Int) (n1 c1:Nat) (z2 z3 z4 z5:Int) (s2:Sl) (q0:LV) (q1:LV):OV:=
 (bb (Au Ah q0) (bb (Au Ah q1) (ih1 s0 z0 n0 c0 s1 b0 z1 n1 c1 (Aj .i64 (Int.add z2 (1:Int))) z3 z4 z5 s2 q0 q1) none) none)
def Nc (pu:Af) (n:Nat) (ih0:Sl→Int→Nat→Nat→Sl→Bool→Int→Int→Int→Int→Sl→LV→OV) (ih1:Sl→Int→Nat→Nat→Sl→Bool→Int→Nat→Nat→Int→Int→Int→Int→Sl→LV→LV→OV) (s0:Sl) (z0:Int) (n0 c0:Nat) (s1:Sl) (b0:Bool) (z1:Int) (n1 c1:Nat) (z2 z3 z4 z5:Int) (s2:Sl) (q0:LV) (q1:LV):OV:=
 (bb (Au Ah q0) (bb (Au Ah q1) (bb (AY z2 z0) (oo (EA z2) none fun k1=>(bb (Bd (Np .i64 (G6 .i64 z1 k1) (1:Int)) (1:Int)) (bb (GV 1 8 n1 c1 1 q1) (bb (Au Ah (Br (Am 0 q1) [(.int .i64 (Int.ofNat k1))])) (R6 pu n ih0 ih1 s0 z0 n0 c0 s1 b0 z1 (n1+1) (2*(n1+1)+bb false 1 0) (Int.ofNat k1) z3 z4 z5 s2 q0 (Br (Am 0 q1) [(.int .i64 (Int.ofNat k1))])) none) none) (R6 pu n ih0 ih1 s0 z0 n0 c0 s1 b0 z1 n1 c1 (Int.ofNat k1) z3 z4 z5 s2 q0 q1))) (X7 pu n ih0 s0 z0 n0 c0 s1 b0 z1 n1 c1 z3 z4 z5 s2 q0 q1)) none) none)
def Nf (pu:Af) (n:Nat) (ih0:Sl→Int→Nat→Nat→Sl→Bool→Int→Int→Int→Int→Sl→LV→OV) (w:Nat):Sl→Int→Nat→Nat→Sl→Bool→Int→Nat→Nat→Int→Int→Int→Int→Sl→LV→LV→OV:=
 Nat.rec (motive:=fun _=>Sl→Int→Nat→Nat→Sl→Bool→Int→Nat→Nat→Int→Int→Int→Int→Sl→LV→LV→OV) (fun _ _ _ _ _ _ _ _ _ _ _ _ _ _ _ _=>none) (fun _ ih1=>Nc pu n ih0 ih1) w
def Uh (pu:Af) (n:Nat) (ih0:Sl→Int→Nat→Nat→Sl→Bool→Int→Int→Int→Int→Sl→LV→OV) (s0:Sl) (z0:Int) (n0 c0:Nat) (s1:Sl) (b0:Bool) (z1 z2 z3 z4:Int) (s2:Sl) (q0:LV):OV:=
 (oo (EA z0) none fun k1=>(bb (Au Ah q0) (bb (AY z1 (QW .i64 (1:Int) k1)) (Nf pu n ih0 n s0 (Int.ofNat k1) n0 c0 s1 b0 z1 0 0 (0:Int) z2 z3 z4 s2 q0 ([]:LV)) (X6 pu n b0)) none))
def FX (pu:Af) (n w:Nat):Sl→Int→Nat→Nat→Sl→Bool→Int→Int→Int→Int→Sl→LV→OV:=
 Nat.rec (motive:=fun _=>Sl→Int→Nat→Nat→Sl→Bool→Int→Int→Int→Int→Sl→LV→OV) (fun _ _ _ _ _ _ _ _ _ _ _ _=>none) (fun _ ih0=>Uh pu n ih0) w
def X9 (pu:Af) (n:Nat) (s0:Sl) (z0:Int) (n0 c0:Nat) (s1:Sl) (b0:Bool) (z1 z2 z3:Int) (s2:Sl) (q0:LV):OV:=
 (bb b0 (some (.bool false)) (bb (Au Ah q0) (FX pu n n s0 z0 n0 c0 s1 false (0:Int) z1 z2 z3 s2 q0) none))
def WH (pu:Af) (n:Nat) (s0:Sl) (z0:Int) (n0 c0:Nat) (z1 z2 z3:Int) (s1:Sl) (q0:LV):OV:=
 (oo (pu 20 [(.agg ⟨[.int .i64 z1,.int .i64 z2,.int .i64 z3,Sl.v 1 s1]⟩),Sl.v 1 s0]) none fun v0=>(oo (CQ v0) none fun l0=>(ll l0 none fun v1 l0=>(ll l0 none fun v2 l0=>(ll l0 (oo (Bj 1 v1) none fun s2=>(oo (Bi .i64 v2) none fun x0=>(bb (Au Ah q0) (bb (nt (Bd x0 (0:Int))) (X9 pu n s0 z0 n0 c0 s2 true z1 z2 z3 s1 q0) (X9 pu n s0 z0 n0 c0 s2 (AY (Int.ofNat n0) (Int.ofNat (Sl.n s2))) z1 z2 z3 s1 q0)) none))) fun _ _=>none)))))
def R7 (pu:Af) (n:Nat) (ih0:Sl→Int→Nat→Nat→Sl→Int→Int→Int→Int→Int→Sl→LV→OV) (s0:Sl) (z0:Int) (n0 c0:Nat) (s1:Sl) (z1 z2 z3 z4 z5:Int) (s2:Sl) (q0:LV):OV:=
 (bb (Au Ah q0) (ih0 s0 z0 n0 c0 s1 z1 (Aj .i64 (Int.add z2 (1:Int))) z3 z4 z5 s2 q0) none)
def R8 (pu:Af) (n:Nat) (ih0:Sl→Int→Nat→Nat→Sl→Int→Int→Int→Int→Int→Sl→LV→OV) (s0:Sl) (z0:Int) (n0 c0:Nat) (z1:Int) (s1:Sl) (z2 z3 z4 z5 z6:Int) (s2:Sl) (q0:LV):OV:=
 (bb (Au Ah q0) (bb (AY (0:Int) z1) (bb (GV 1 8 n0 c0 1 q0) (bb (Au Ah (Br (Am 0 q0) [.int .i64 z1])) (R7 pu n ih0 s0 z0 (n0+1) (2*(n0+1)+bb false 1 0) s1 z2 z3 z4 z5 z6 s2 (Br (Am 0 q0) [.int .i64 z1])) none) none) (R7 pu n ih0 s0 z0 n0 c0 s1 z2 z3 z4 z5 z6 s2 q0)) none)
def R9 (pu:Af) (n:Nat) (ih0:Sl→Int→Nat→Nat→Sl→Int→Int→Int→Int→Int→Sl→LV→OV) (ih1:Sl→Int→Nat→Nat→Sl→Int→Sl→Int→Int→Int→Int→Int→Int→Int→Sl→LV→OV) (s0:Sl) (z0:Int) (n0 c0:Nat) (s1:Sl) (z1:Int) (s2:Sl) (z2 z3 z4 z5 z6 z7 z8:Int) (s3:Sl) (q0:LV):OV:=
 (bb (Au Ah q0) (ih1 s0 z0 n0 c0 s1 z1 s2 z2 z3 z4 (Aj .i64 (Int.add z5 (1:Int))) z6 z7 z8 s3 q0) none)
def Ng (pu:Af) (n:Nat) (ih0:Sl→Int→Nat→Nat→Sl→Int→Int→Int→Int→Int→Sl→LV→OV) (ih1:Sl→Int→Nat→Nat→Sl→Int→Sl→Int→Int→Int→Int→Int→Int→Int→Sl→LV→OV) (s0:Sl) (z0:Int) (n0 c0:Nat) (s1:Sl) (z1:Int) (s2:Sl) (z2 z3 z4 z5 z6 z7 z8:Int) (s3:Sl) (q0:LV):OV:=
 (bb (Au Ah q0) (bb (AY z5 z4) (oo (EA z5) none fun k1=>(bb (an (Nat.blt k1 (Sl.n s0)) true) (oo (AL (Sl.cs s0) (k1*1)) none fun v0=>(oo (Bi .i64 v0) none fun x0=>(bb (an (Nat.blt k1 (Sl.n s1)) true) (oo (AL (Sl.cs s1) (k1*1)) none fun v1=>(oo (Bi .i64 v1) none fun x1=>(bb (nt (Bd x0 x1)) (R9 pu n ih0 ih1 s0 z0 n0 c0 s1 (jF .i64 z1 (QW .i64 (1:Int) k1)) s2 z2 z3 z4 (Int.ofNat k1) z6 z7 z8 s3 q0) (R9 pu n ih0 ih1 s0 z0 n0 c0 s1 z1 s2 z2 z3 z4 (Int.ofNat k1) z6 z7 z8 s3 q0)))) none))) none)) (R8 pu n ih0 s0 z0 n0 c0 z1 s2 z2 z3 z6 z7 z8 s3 q0)) none)
def Nh (pu:Af) (n:Nat) (ih0:Sl→Int→Nat→Nat→Sl→Int→Int→Int→Int→Int→Sl→LV→OV) (w:Nat):Sl→Int→Nat→Nat→Sl→Int→Sl→Int→Int→Int→Int→Int→Int→Int→Sl→LV→OV:=
 Nat.rec (motive:=fun _=>Sl→Int→Nat→Nat→Sl→Int→Sl→Int→Int→Int→Int→Int→Int→Int→Sl→LV→OV) (fun _ _ _ _ _ _ _ _ _ _ _ _ _ _ _ _=>none) (fun _ ih1=>Ng pu n ih0 ih1) w
def Ni (pu:Af) (n:Nat) (ih0:Sl→Int→Nat→Nat→Sl→Int→Int→Int→Int→Int→Sl→LV→OV) (s0:Sl) (z0:Int) (n0 c0:Nat) (s1:Sl) (z1 z2 z3 z4 z5:Int) (s2:Sl) (q0:LV):OV:=
 (bb (Au Ah q0) (bb (AY z2 z1) (oo (EA z2) none fun k1=>(bb (an (Nat.blt k1 (Sl.n s1)) true) (oo (AL (Sl.cs s1) (k1*1)) none fun v0=>(oo (Bi .i64 v0) none fun x0=>(oo (pu 10 [Sl.v 1 s0,.int .i64 z3,.int .i64 z4,.int .i64 x0]) none fun v1=>(oo (Bj 1 v1) none fun s3=>(Nh pu n ih0 n s0 z0 n0 c0 s3 (0:Int) s1 z1 (Int.ofNat k1) (Int.ofNat (Sl.n s0)) (0:Int) z3 z4 z5 s2 q0))))) none)) (WH pu n s0 z0 n0 c0 z3 z4 z5 s2 q0)) none)
def G5 (pu:Af) (n w:Nat):Sl→Int→Nat→Nat→Sl→Int→Int→Int→Int→Int→Sl→LV→OV:=
 Nat.rec (motive:=fun _=>Sl→Int→Nat→Nat→Sl→Int→Int→Int→Int→Int→Sl→LV→OV) (fun _ _ _ _ _ _ _ _ _ _ _ _=>none) (fun _ ih0=>Ni pu n ih0) w
def m4_ (pu:Af) (n:Nat) (q1:LV):OV:=
 (bb (Au Ah q1) (bb (Nat.ble (0+20) (len q1)) (oo (pu 9 [(.agg ⟨(Aq 20 (Am 0 q1))⟩),(.int .i64 (3:Int)),(.int .i64 (3:Int))]) none fun v30=>(oo (CQ v30) none fun l32=>(ll l32 none fun v34 l32=>(ll l32 none fun v35 l32=>(ll l32 (oo (Bt v34) none fun l36=>(ll l36 none fun v38 l36=>(ll l36 none fun v39 l36=>(ll l36 none fun v40 l36=>(ll l36 none fun v41 l36=>(ll l36 (oo (Bi .i64 v38) none fun x42=>(oo (Bi .i64 v39) none fun x44=>(oo (Bi .i64 v40) none fun x46=>(oo (Bj 1 v41) none fun s48=>(oo (Bj 1 v35) none fun s50=>(bb (Au closed2 [(.agg ⟨(Aq 20 (Am 0 q1))⟩),(.int .i64 (3:Int)),(.int .i64 (3:Int))]) (G5 pu n n s50 (Int.ofNat (Sl.n s50)) 0 0 s48 (Int.ofNat (Sl.n s48)) (0:Int) x42 x44 x46 s48 ([]:LV)) none)))))) fun _ _=>none)))))) fun _ _=>none))))) none) none)
def m4 (pu:Af) (n:Nat) (args:LV):OV:=
 (ll args none fun a0 args=>(ll args (oo (Bt a0) none fun q1=>(bb (an (Nat.beq (len q1) 20) (Au Ah q1)) (m4_ pu n q1) none)) fun _ _=>none))
theorem Aey (pu:Af) (n:Nat) (b0:Bool) {v:Value} (hm:WF pu n b0=some v):BN tt (Bb tabs isP pu (inl pu)) 1 .ret (fr 157 [(2,zB b0)]) Ay (Fin tt 1 [.tmp 2] v):=by
 unfold WF at hm
 refine .ret ?_
 exact A7 (zB b0) hm
theorem Aez (pu:Af) (n:Nat) (b0:Bool) {v:Value} (hm:X6 pu n b0=some v):BN tt (Bb tabs isP pu (inl pu)) 1 Xe (fr 157 [(14,zB b0)]) Ay (Fin tt 1 [.tmp 2] v):=by
 unfold X6 at hm
 refine .join (v:=v) (fun y:Bool=>((fr 157 [(2,zB y)]),Ay)) (fun y=>WF pu n y) ?_ ?_
 ·rintro b1 hm
  exact Aey pu n b1 hm
 ·replace hm:=Ag hm;rcases hm with⟨h0,hm⟩ | ⟨h0,hm⟩
  ·replace hm:=X5 hm;obtain⟨b2,h1,hm⟩:=hm
   refine .reg (eD (some ((zB b0),Ay)) (show _=some ((zB true),_) from (by rw[show b0=true from h0])) (eC 1 ((oo (pu 19 []) none fun v=>some (v,Ay))) (AB h1) (eE))) ?_
   exact⟨b2,hm,(.k0 [false] [] [2])⟩
  ·refine .reg (eD (some ((zB b0),Ay)) (show _=some ((zB false),_) from (by rw[show b0=false from h0])) (eE)) ?_
   exact⟨false,hm,(.k0 [false] [] [2])⟩
theorem AeA (pu:Af) (n:Nat) (s0:Sl) (z0:Int) (n0 c0:Nat) (z1 z2 z3:Int) (s1:Sl) (q0:LV) {v:Value} (hm:WH pu n s0 z0 n0 c0 z1 z2 z3 s1 q0=some v):BN tt (Bb tabs isP pu (inl pu)) 1 Xf (fr 157 [(3,pt 1 0),(4,Sl.v 1 s0),(5,zI z0),(6,sc 2 0 1 n0 c0)]) (hT 3 [(oC [zI z1,zI z2,zI z3,Sl.v 1 s1]),oC q0]) (Fin tt 1 [.tmp 2] v):=by
 unfold WH at hm
 refine .then ?_
 replace hm:=Ab hm;obtain⟨v0,h0,hm⟩:=hm
 replace hm:=Ch hm;obtain⟨l0,rfl,hm⟩:=hm
 replace hm:=Ad hm;obtain⟨v1,l2346_0,rfl,hm⟩:=hm
 replace hm:=Ad hm;obtain⟨v2,l2346_1,rfl,hm⟩:=hm
 replace hm:=AC hm;obtain⟨rfl,hm⟩:=hm
 replace hm:=Al hm;obtain⟨s2,rfl,hm⟩:=hm
 replace hm:=Ai hm;obtain⟨x0,rfl,hm⟩:=hm
 refine .reg (eC 2 ((oo (pu 20 [(.agg ⟨[zI z1,zI z2,zI z3,Sl.v 1 s1]⟩),Sl.v 1 s0]) none fun v=>some (v,(hT 3 [(oC [zI z1,zI z2,zI z3,Sl.v 1 s1]),oC q0])))) (AB h0) (eE)) ?_
 replace hm:=Ae hm;obtain⟨h1,hm⟩:=hm
 refine .ghs (fr 157 [(3,pt 1 0),(4,Sl.v 1 s0),(5,zI z0),(6,sc 2 0 1 n0 c0),(12,Sl.v 1 s2),(13,zI x0)]) (hT 3 [(oC [zI z1,zI z2,zI z3,Sl.v 1 s1]),oC q0]) (.k [2] [false] [.tmp 3 false,.tmp 6 false] [3,4,5,6,12,13] ⟨Bq h1,trivial⟩) ?_
 refine .then (.join (v:=v) (fun y:Sl×Int×Nat×Nat×Sl×Bool×Int×Int×Int×Sl×LV=>((fr 157 [(3,pt 1 0),(4,(Sl.v 1 y.1)),(5,(zI y.2.1)),(6,(sc 2 0 1 y.2.2.1 y.2.2.2.1)),(12,(Sl.v 1 y.2.2.2.2.1)),(82,(zB y.2.2.2.2.2.1))]),(hT 3 [(oC [(zI y.2.2.2.2.2.2.1),(zI y.2.2.2.2.2.2.2.1),(zI y.2.2.2.2.2.2.2.2.1),(Sl.v 1 y.2.2.2.2.2.2.2.2.2.1)]),(oC y.2.2.2.2.2.2.2.2.2.2)]))) (fun y=>X9 pu n y.1 y.2.1 y.2.2.1 y.2.2.2.1 y.2.2.2.2.1 y.2.2.2.2.2.1 y.2.2.2.2.2.2.1 y.2.2.2.2.2.2.2.1 y.2.2.2.2.2.2.2.2.1 y.2.2.2.2.2.2.2.2.2.1 y.2.2.2.2.2.2.2.2.2.2) ?_ ?_)
 ·rintro⟨s3,z4,n1,c1,s4,b0,z5,z6,z7,s5,q1⟩ hm
  unfold X9 at hm
  replace hm:=Ag hm;rcases hm with⟨h2,hm⟩ | ⟨h2,hm⟩
  ·refine .ifT b0 (by kernel_rfl) h2 ?_
   refine .then (.rK (.ghs (fr 157 [(2,zB false)]) Ay (.k0 [false] [] [2]) ?_))
   refine .ret ?_
   exact A7 (zB false) hm
  ·refine .ifF b0 (by kernel_rfl) h2 ?_
   refine .skip ?_
   replace hm:=Ae hm;obtain⟨h3,hm⟩:=hm
   refine .ghs (fr 157 [(3,pt 1 0),(4,Sl.v 1 s3),(5,zI z4),(6,sc 2 0 1 n1 c1),(12,Sl.v 1 s4)]) (hT 3 [(oC [zI z5,zI z6,zI z7,Sl.v 1 s5]),oC q1]) (.k [2] [false] [.tmp 3 false,.tmp 6 false] [3,4,5,6,12] ⟨Bq h3,trivial⟩) ?_
   refine .then (.rK (.ghs (fr 157 [(3,pt 1 0),(4,Sl.v 1 s3),(5,zI z4),(6,sc 2 0 1 n1 c1),(12,Sl.v 1 s4),(14,zB false)]) (hT 3 [(oC [zI z5,zI z6,zI z7,Sl.v 1 s5]),oC q1]) (.k [2] [false] [.tmp 3 false,.tmp 6 false] [3,4,5,6,12,14] ⟨Bq h3,trivial⟩) ?_))
   refine .join (v:=v) (fun y:Bool=>((fr 157 [(14,zB y)]),Ay)) (fun y=>X6 pu n y) ?_ ?_
   ·rintro b1 hm
    exact Aez pu n b1 hm
   ·refine .then (.rK (.ghs (fr 157 [(3,pt 1 0),(4,Sl.v 1 s3),(5,zI z4),(6,sc 2 0 1 n1 c1),(12,Sl.v 1 s4),(14,zB false),(15,(zI (0:Int)))]) (hT 3 [(oC [zI z5,zI z6,zI z7,Sl.v 1 s5]),oC q1]) (.k [2] [false] [.tmp 3 false,.tmp 6 false] [3,4,5,6,12,14,15] ⟨Bq h3,trivial⟩) ?_))
    refine .block (.loopM (v:=v) (fun y:Sl×Int×Nat×Nat×Sl×Bool×Int×Int×Int×Int×Sl×LV=>((fr 157 [(3,pt 1 0),(4,(Sl.v 1 y.1)),(5,(zI y.2.1)),(6,(sc 2 0 1 y.2.2.1 y.2.2.2.1)),(12,(Sl.v 1 y.2.2.2.2.1)),(14,(zB y.2.2.2.2.2.1)),(15,(zI y.2.2.2.2.2.2.1))]),(hT 3 [(oC [(zI y.2.2.2.2.2.2.2.1),(zI y.2.2.2.2.2.2.2.2.1),(zI y.2.2.2.2.2.2.2.2.2.1),(Sl.v 1 y.2.2.2.2.2.2.2.2.2.2.1)]),(oC y.2.2.2.2.2.2.2.2.2.2.2)]))) (fun w y=>FX pu n w y.1 y.2.1 y.2.2.1 y.2.2.2.1 y.2.2.2.2.1 y.2.2.2.2.2.1 y.2.2.2.2.2.2.1 y.2.2.2.2.2.2.2.1 y.2.2.2.2.2.2.2.2.1 y.2.2.2.2.2.2.2.2.2.1 y.2.2.2.2.2.2.2.2.2.2.1 y.2.2.2.2.2.2.2.2.2.2.2) n ⟨(s3,z4,n1,c1,s4,false,(0:Int),z5,z6,z7,s5,q1),hm,(.k [2] [false] [.tmp 3 false,.tmp 6 false] [3,4,5,6,12,14,15] ⟨Bq h3,trivial⟩)⟩ (fun _=>rfl) ?_)
    rintro w0 ⟨s6,z8,n2,c2,s7,b2,z9,z10,z11,z12,s8,q2⟩ hm
    replace hm:Uh pu n (FX pu n w0) s6 z8 n2 c2 s7 b2 z9 z10 z11 z12 s8 q2=some v:=hm
    unfold Uh at hm
    refine .then (.then ?_)
    replace hm:=Ab hm;obtain⟨k1,h4,hm⟩:=hm
    obtain rfl:=AR h4
    refine .rK ?_
    replace hm:=Ae hm;obtain⟨h5,hm⟩:=hm
    refine .ghs (fr 157 [(3,pt 1 0),(4,Sl.v 1 s6),(5,(zI (Int.ofNat k1))),(6,sc 2 0 1 n2 c2),(12,Sl.v 1 s7),(14,zB b2),(15,zI z9),(86,(zB (AY z9 (QW .i64 (1:Int) k1))))]) (hT 3 [(oC [zI z10,zI z11,zI z12,Sl.v 1 s8]),oC q2]) (.k [2] [false] [.tmp 3 false,.tmp 6 false] [3,4,5,6,12,14,15,86] ⟨Bq h5,trivial⟩) ?_
    replace hm:=Ag hm;rcases hm with⟨h6,hm⟩ | ⟨h6,hm⟩
    ·refine BI (AY z9 (QW .i64 (1:Int) k1)) h6 ?_
     refine .skip (.ghs (fr 157 [(3,pt 1 0),(4,Sl.v 1 s6),(5,(zI (Int.ofNat k1))),(6,sc 2 0 1 n2 c2),(12,Sl.v 1 s7),(14,zB b2),(15,zI z9)]) (hT 3 [(oC [zI z10,zI z11,zI z12,Sl.v 1 s8]),oC q2]) (.k [2] [false] [.tmp 3 false,.tmp 6 false] [3,4,5,6,12,14,15] ⟨Bq h5,trivial⟩) ?_)
     refine .join (v:=v) (fun y:Sl×Int×Nat×Nat×Sl×Bool×Int×Int×Int×Int×Sl×LV=>((fr 157 [(3,pt 1 0),(4,(Sl.v 1 y.1)),(5,(zI y.2.1)),(6,(sc 2 0 1 y.2.2.1 y.2.2.2.1)),(12,(Sl.v 1 y.2.2.2.2.1)),(14,(zB y.2.2.2.2.2.1)),(15,(zI y.2.2.2.2.2.2.1))]),(hT 3 [(oC [(zI y.2.2.2.2.2.2.2.1),(zI y.2.2.2.2.2.2.2.2.1),(zI y.2.2.2.2.2.2.2.2.2.1),(Sl.v 1 y.2.2.2.2.2.2.2.2.2.2.1)]),(oC y.2.2.2.2.2.2.2.2.2.2.2)]))) (fun y=>bN pu n (FX pu n w0) y.1 y.2.1 y.2.2.1 y.2.2.2.1 y.2.2.2.2.1 y.2.2.2.2.2.1 y.2.2.2.2.2.2.1 y.2.2.2.2.2.2.2.1 y.2.2.2.2.2.2.2.2.1 y.2.2.2.2.2.2.2.2.2.1 y.2.2.2.2.2.2.2.2.2.2.1 y.2.2.2.2.2.2.2.2.2.2.2) ?_ ?_
     ·rintro⟨s9,z13,n3,c3,s10,b3,z14,z15,z16,z17,s11,q3⟩ hm
      unfold bN at hm
      refine .rK ?_
      replace hm:=Ae hm;obtain⟨h7,hm⟩:=hm
      exact⟨(s9,z13,n3,c3,s10,b3,(Aj .i64 (Int.add z14 (1:Int))),z15,z16,z17,s11,q3),hm,(.k [2] [false] [.tmp 3 false,.tmp 6 false] [3,4,5,6,12,14,15] ⟨Bq h7,trivial⟩)⟩
     ·refine .block (.then (.rK (.ghs (fr 157 [(3,pt 1 0),(4,Sl.v 1 s6),(5,(zI (Int.ofNat k1))),(6,sc 2 0 1 n2 c2),(12,Sl.v 1 s7),(14,zB b2),(15,zI z9),(16,(.slice none 0 0))]) (hT 3 [(oC [zI z10,zI z11,zI z12,Sl.v 1 s8]),oC q2]) (.k [2] [false] [.tmp 3 false,.tmp 6 false] [3,4,5,6,12,14,15,16] ⟨Bq h5,trivial⟩) ?_)))
      refine .join (v:=v) (fun y:Sl×Int×Nat×Nat×Sl×Bool×Int×Nat×Nat×Int×Int×Int×Sl×LV×LV=>((fr 157 [(3,pt 1 0),(4,(Sl.v 1 y.1)),(5,(zI y.2.1)),(6,(sc 2 0 1 y.2.2.1 y.2.2.2.1)),(12,(Sl.v 1 y.2.2.2.2.1)),(14,(zB y.2.2.2.2.2.1)),(15,(zI y.2.2.2.2.2.2.1)),(16,(sc 3 0 1 y.2.2.2.2.2.2.2.1 y.2.2.2.2.2.2.2.2.1))]),(hT 4 [(oC [(zI y.2.2.2.2.2.2.2.2.2.1),(zI y.2.2.2.2.2.2.2.2.2.2.1),(zI y.2.2.2.2.2.2.2.2.2.2.2.1),(Sl.v 1 y.2.2.2.2.2.2.2.2.2.2.2.2.1)]),(oC y.2.2.2.2.2.2.2.2.2.2.2.2.2.1),(oC y.2.2.2.2.2.2.2.2.2.2.2.2.2.2)]))) (fun y=>X7 pu n (FX pu n w0) y.1 y.2.1 y.2.2.1 y.2.2.2.1 y.2.2.2.2.1 y.2.2.2.2.2.1 y.2.2.2.2.2.2.1 y.2.2.2.2.2.2.2.1 y.2.2.2.2.2.2.2.2.1 y.2.2.2.2.2.2.2.2.2.1 y.2.2.2.2.2.2.2.2.2.2.1 y.2.2.2.2.2.2.2.2.2.2.2.1 y.2.2.2.2.2.2.2.2.2.2.2.2.1 y.2.2.2.2.2.2.2.2.2.2.2.2.2.1 y.2.2.2.2.2.2.2.2.2.2.2.2.2.2) ?_ ?_
      ·rintro⟨s12,z18,n4,c5,s13,b5,z19,n5,c6,z20,z21,z22,s14,q5,q6⟩ hm
       unfold X7 at hm
       refine .then (.rK ?_)
       replace hm:=Ae hm;obtain⟨h8,hm⟩:=hm
       replace hm:=Ae hm;obtain⟨h9,hm⟩:=hm
       refine .ghs (fr 157 [(3,pt 1 0),(4,Sl.v 1 s12),(5,zI z18),(6,sc 2 0 1 n4 c5),(12,Sl.v 1 s13),(14,zB b5),(15,zI z19),(16,sc 3 0 1 n5 c6),(18,zB true)]) (hT 4 [(oC [zI z20,zI z21,zI z22,Sl.v 1 s14]),oC q5,oC q6]) (.k [2,3] [false] [.tmp 3 false,.tmp 6 false,.tmp 16 false] [3,4,5,6,12,14,15,16,18] ⟨Bq h8,Bq h9,trivial⟩) ?_
       refine .join (v:=v) (fun y:Sl×Int×Nat×Nat×Sl×Bool×Int×Nat×Nat×Bool×Int×Int×Int×Sl×LV×LV=>((fr 157 [(3,pt 1 0),(4,(Sl.v 1 y.1)),(5,(zI y.2.1)),(6,(sc 2 0 1 y.2.2.1 y.2.2.2.1)),(12,(Sl.v 1 y.2.2.2.2.1)),(14,(zB y.2.2.2.2.2.1)),(15,(zI y.2.2.2.2.2.2.1)),(16,(sc 3 0 1 y.2.2.2.2.2.2.2.1 y.2.2.2.2.2.2.2.2.1)),(18,(zB y.2.2.2.2.2.2.2.2.2.1))]),(hT 4 [(oC [(zI y.2.2.2.2.2.2.2.2.2.2.1),(zI y.2.2.2.2.2.2.2.2.2.2.2.1),(zI y.2.2.2.2.2.2.2.2.2.2.2.2.1),(Sl.v 1 y.2.2.2.2.2.2.2.2.2.2.2.2.2.1)]),(oC y.2.2.2.2.2.2.2.2.2.2.2.2.2.2.1),(oC y.2.2.2.2.2.2.2.2.2.2.2.2.2.2.2)]))) (fun y=>WG pu n (FX pu n w0) y.1 y.2.1 y.2.2.1 y.2.2.2.1 y.2.2.2.2.1 y.2.2.2.2.2.1 y.2.2.2.2.2.2.1 y.2.2.2.2.2.2.2.1 y.2.2.2.2.2.2.2.2.1 y.2.2.2.2.2.2.2.2.2.1 y.2.2.2.2.2.2.2.2.2.2.1 y.2.2.2.2.2.2.2.2.2.2.2.1 y.2.2.2.2.2.2.2.2.2.2.2.2.1 y.2.2.2.2.2.2.2.2.2.2.2.2.2.1 y.2.2.2.2.2.2.2.2.2.2.2.2.2.2.1 y.2.2.2.2.2.2.2.2.2.2.2.2.2.2.2) ?_ ?_
       ·rintro⟨s15,z23,n6,c7,s16,b6,z24,n7,c8,b7,z25,z26,z27,s17,q7,q8⟩ hm
        unfold WG at hm
        refine .then (.join (v:=v) (fun y:Sl×Int×Nat×Nat×Sl×Bool×Int×Sl×Bool×Bool×Int×Int×Int×Sl×LV=>((fr 157 [(3,pt 1 0),(4,(Sl.v 1 y.1)),(5,(zI y.2.1)),(6,(sc 2 0 1 y.2.2.1 y.2.2.2.1)),(12,(Sl.v 1 y.2.2.2.2.1)),(14,(zB y.2.2.2.2.2.1)),(15,(zI y.2.2.2.2.2.2.1)),(16,(Sl.v 1 y.2.2.2.2.2.2.2.1)),(18,(zB y.2.2.2.2.2.2.2.2.1)),(136,(zB y.2.2.2.2.2.2.2.2.2.1))]),(hT 3 [(oC [(zI y.2.2.2.2.2.2.2.2.2.2.1),(zI y.2.2.2.2.2.2.2.2.2.2.2.1),(zI y.2.2.2.2.2.2.2.2.2.2.2.2.1),(Sl.v 1 y.2.2.2.2.2.2.2.2.2.2.2.2.2.1)]),(oC y.2.2.2.2.2.2.2.2.2.2.2.2.2.2)]))) (fun y=>R5 pu n (FX pu n w0) y.1 y.2.1 y.2.2.1 y.2.2.2.1 y.2.2.2.2.1 y.2.2.2.2.2.1 y.2.2.2.2.2.2.1 y.2.2.2.2.2.2.2.1 y.2.2.2.2.2.2.2.2.1 y.2.2.2.2.2.2.2.2.2.1 y.2.2.2.2.2.2.2.2.2.2.1 y.2.2.2.2.2.2.2.2.2.2.2.1 y.2.2.2.2.2.2.2.2.2.2.2.2.1 y.2.2.2.2.2.2.2.2.2.2.2.2.2.1 y.2.2.2.2.2.2.2.2.2.2.2.2.2.2) ?_ ?_)
        ·rintro⟨s18,z28,n8,c25,s19,b8,z29,s20,b25,b26,z30,z31,z32,s21,q9⟩ hm
         unfold R5 at hm
         replace hm:=Ag hm;rcases hm with⟨h10,hm⟩ | ⟨h10,hm⟩
         ·refine .ifT b26 (by kernel_rfl) h10 ?_
          refine .then (.rK (.ghs (fr 157 [(2,zB false)]) Ay (.k0 [false] [] [2]) ?_))
          refine .ret ?_
          exact A7 (zB false) hm
         ·refine .ifF b26 (by kernel_rfl) h10 ?_
          refine .skip ?_
          replace hm:=Ae hm;obtain⟨h11,hm⟩:=hm
          refine .ghs (fr 157 [(3,pt 1 0),(4,Sl.v 1 s18),(5,zI z28),(6,sc 2 0 1 n8 c25),(12,Sl.v 1 s19),(14,zB b8),(15,zI z29),(16,Sl.v 1 s20),(18,zB b25)]) (hT 3 [(oC [zI z30,zI z31,zI z32,Sl.v 1 s21]),oC q9]) (.k [2] [false] [.tmp 3 false,.tmp 6 false] [3,4,5,6,12,14,15,16,18] ⟨Bq h11,trivial⟩) ?_
          refine .join (v:=v) (fun y:Sl×Int×Nat×Nat×Sl×Bool×Int×Sl×Bool×Int×Int×Int×Sl×LV=>((fr 157 [(3,pt 1 0),(4,(Sl.v 1 y.1)),(5,(zI y.2.1)),(6,(sc 2 0 1 y.2.2.1 y.2.2.2.1)),(12,(Sl.v 1 y.2.2.2.2.1)),(14,(zB y.2.2.2.2.2.1)),(15,(zI y.2.2.2.2.2.2.1)),(16,(Sl.v 1 y.2.2.2.2.2.2.2.1)),(18,(zB y.2.2.2.2.2.2.2.2.1))]),(hT 3 [(oC [(zI y.2.2.2.2.2.2.2.2.2.1),(zI y.2.2.2.2.2.2.2.2.2.2.1),(zI y.2.2.2.2.2.2.2.2.2.2.2.1),(Sl.v 1 y.2.2.2.2.2.2.2.2.2.2.2.2.1)]),(oC y.2.2.2.2.2.2.2.2.2.2.2.2.2)]))) (fun y=>Ug pu n (FX pu n w0) y.1 y.2.1 y.2.2.1 y.2.2.2.1 y.2.2.2.2.1 y.2.2.2.2.2.1 y.2.2.2.2.2.2.1 y.2.2.2.2.2.2.2.1 y.2.2.2.2.2.2.2.2.1 y.2.2.2.2.2.2.2.2.2.1 y.2.2.2.2.2.2.2.2.2.2.1 y.2.2.2.2.2.2.2.2.2.2.2.1 y.2.2.2.2.2.2.2.2.2.2.2.2.1 y.2.2.2.2.2.2.2.2.2.2.2.2.2) ?_ ?_
          ·rintro⟨s22,z33,n9,c26,s23,b27,z34,s24,b28,z35,z36,z37,s25,q10⟩ hm
           unfold Ug at hm
           refine .then ?_
           replace hm:=Gp hm;obtain⟨x1,h12,hm⟩:=hm
           refine .reg (eC 3 ((oo (pu 21 [(.agg ⟨[zI z35,zI z36,zI z37,Sl.v 1 s25]⟩),Sl.v 1 s22,Sl.v 1 s24]) none fun v=>some (v,(hT 3 [(oC [zI z35,zI z36,zI z37,Sl.v 1 s25]),oC q10])))) (AB h12) (eE)) ?_
           replace hm:=Ae hm;obtain⟨h13,hm⟩:=hm
           refine .ghs (fr 157 [(3,pt 1 0),(4,Sl.v 1 s22),(5,zI z33),(6,sc 2 0 1 n9 c26),(12,Sl.v 1 s23),(14,zB b27),(15,zI z34),(152,(zB (bq false (bq (Bd x1 (0:Int)) b28))))]) (hT 3 [(oC [zI z35,zI z36,zI z37,Sl.v 1 s25]),oC q10]) (.k [2] [false] [.tmp 3 false,.tmp 6 false] [3,4,5,6,12,14,15,152] ⟨Bq h13,trivial⟩) ?_
           replace hm:=Ag hm;rcases hm with⟨h14,hm⟩ | ⟨h14,hm⟩
           ·refine BI (bq false (bq (Bd x1 (0:Int)) b28)) h14 ?_
            refine .then (.rK (.ghs (fr 157 [(2,zB false)]) Ay (.k0 [false] [] [2]) ?_))
            refine .ret ?_
            exact A7 (zB false) hm
           ·refine BO (bq false (bq (Bd x1 (0:Int)) b28)) h14 ?_
            refine .skip ?_
            exact⟨(s22,z33,n9,c26,s23,b27,z34,z35,z36,z37,s25,q10),hm,(.k [2] [false] [.tmp 3 false,.tmp 6 false] [3,4,5,6,12,14,15] ⟨Bq h13,trivial⟩)⟩
          ·replace hm:=Ag hm;rcases hm with⟨h15,hm⟩ | ⟨h15,hm⟩
           ·refine .reg (eD (some ((zB b8),(hT 3 [(oC [zI z30,zI z31,zI z32,Sl.v 1 s21]),oC q9]))) (show _=some ((zB true),_) from (by rw[show b8=true from h15])) (eE)) ?_
            exact⟨(s18,z28,n8,c25,s19,true,z29,s20,b25,z30,z31,z32,s21,q9),hm,(.k [2] [false] [.tmp 3 false,.tmp 6 false] [3,4,5,6,12,14,15,16,18] ⟨Bq h11,trivial⟩)⟩
           ·replace hm:=Ag hm;rcases hm with⟨h16,hm⟩ | ⟨h16,hm⟩
            ·replace hm:=X5 hm;obtain⟨b54,h17,hm⟩:=hm
             refine .reg (eD (some ((zB b8),(hT 3 [(oC [zI z30,zI z31,zI z32,Sl.v 1 s21]),oC q9]))) (show _=some ((zB false),_) from (by rw[show b8=false from h15])) (eC 1 (some ((zB b25),(hT 3 [(oC [zI z30,zI z31,zI z32,Sl.v 1 s21]),oC q9]))) (show _=some ((zB true),_) from (by rw[show b25=true from h16])) (eC 3 ((oo (pu 12 [Sl.v 1 s20,Sl.v 1 s19]) none fun v=>some (v,(hT 3 [(oC [zI z30,zI z31,zI z32,Sl.v 1 s21]),oC q9])))) (AB h17) (eE)))) ?_
             exact⟨(s18,z28,n8,c25,s19,b54,z29,s20,b25,z30,z31,z32,s21,q9),hm,(.k [2] [false] [.tmp 3 false,.tmp 6 false] [3,4,5,6,12,14,15,16,18] ⟨Bq h11,trivial⟩)⟩
            ·refine .reg (eD (some ((zB b8),(hT 3 [(oC [zI z30,zI z31,zI z32,Sl.v 1 s21]),oC q9]))) (show _=some ((zB false),_) from (by rw[show b8=false from h15])) (eC 1 (some ((zB b25),(hT 3 [(oC [zI z30,zI z31,zI z32,Sl.v 1 s21]),oC q9]))) (show _=some ((zB false),_) from (by rw[show b25=false from h16])) (eE))) ?_
             exact⟨(s18,z28,n8,c25,s19,false,z29,s20,b25,z30,z31,z32,s21,q9),hm,(.k [2] [false] [.tmp 3 false,.tmp 6 false] [3,4,5,6,12,14,15,16,18] ⟨Bq h11,trivial⟩)⟩
        ·replace hm:=Ae hm;obtain⟨h18,hm⟩:=hm
         refine .ghs (Fr.puts (fr 157 [(3,pt 1 0),(4,Sl.v 1 s15),(5,zI z23),(6,sc 2 0 1 n6 c7),(12,Sl.v 1 s16),(14,zB b6),(15,zI z24),(16,sc 3 0 1 n7 c8),(18,zB b7)]) [(16,(Sl.v 1 (Sl.mk n7 0 (Aq (n7*1) (Am 0 q8)))))]) (hT 4 [(oC [zI z25,zI z26,zI z27,Sl.v 1 s17]),oC q7,.dead]) (.freezeC 1 16 1 (an (Nat.ble (0+n7*1) (len q8)) (Au Ah (Aq (n7*1) (Am 0 q8)))) (F1:=(Fr.puts (fr 157 [(3,pt 1 0),(4,Sl.v 1 s15),(5,zI z23),(6,sc 2 0 1 n6 c7),(12,Sl.v 1 s16),(14,zB b6),(15,zI z24),(16,sc 3 0 1 n7 c8),(18,zB b7)]) [(16,(Sl.v 1 (Sl.mk n7 0 (Aq (n7*1) (Am 0 q8)))))])) (H1:=(hT 4 [(oC [zI z25,zI z26,zI z27,Sl.v 1 s17]),oC q7,.dead])) (by kernel_rfl) (by kernel_rfl) h18 (E9.id _ _)) ?_
         replace hm:=Ag hm;rcases hm with⟨h19,hm⟩ | ⟨h19,hm⟩
         ·replace hm:=Ag hm;rcases hm with⟨h20,hm⟩ | ⟨h20,hm⟩
          ·refine .reg (eD (some ((zB b7),(hT 4 [(oC [zI z25,zI z26,zI z27,Sl.v 1 s17]),oC q7,.dead]))) (show _=some ((zB true),_) from (by rw[show b7=true from h19])) (eC 5 (some ((zB (AY (Int.ofNat (Sl.n (Sl.mk n7 0 (Aq (n7*1) (Am 0 q8))))) (Int.ofNat (Sl.n s16)))),(hT 4 [(oC [zI z25,zI z26,zI z27,Sl.v 1 s17]),oC q7,.dead]))) (show _=some ((zB true),_) from (by rw[show (AY (Int.ofNat (Sl.n (Sl.mk n7 0 (Aq (n7*1) (Am 0 q8))))) (Int.ofNat (Sl.n s16)))=true from h20])) (eE))) ?_
           replace hm:=Ae hm;obtain⟨h21,hm⟩:=hm
           exact⟨(s15,z23,n6,c7,s16,b6,z24,(Sl.mk n7 0 (Aq (n7*1) (Am 0 q8))),b7,true,z25,z26,z27,s17,q7),hm,(.k [2] [false] [.tmp 3 false,.tmp 6 false] [3,4,5,6,12,14,15,16,18,136] ⟨Bq h21,trivial⟩)⟩
          ·replace hm:=Ag hm;rcases hm with⟨h22,hm⟩ | ⟨h22,hm⟩
           ·replace hm:=X5 hm;obtain⟨b72,h23,hm⟩:=hm
            refine .reg (eD (some ((zB b7),(hT 4 [(oC [zI z25,zI z26,zI z27,Sl.v 1 s17]),oC q7,.dead]))) (show _=some ((zB true),_) from (by rw[show b7=true from h19])) (eC 5 (some ((zB (AY (Int.ofNat (Sl.n (Sl.mk n7 0 (Aq (n7*1) (Am 0 q8))))) (Int.ofNat (Sl.n s16)))),(hT 4 [(oC [zI z25,zI z26,zI z27,Sl.v 1 s17]),oC q7,.dead]))) (show _=some ((zB false),_) from (by rw[show (AY (Int.ofNat (Sl.n (Sl.mk n7 0 (Aq (n7*1) (Am 0 q8))))) (Int.ofNat (Sl.n s16)))=false from h20])) (eC 5 (some ((zB (Bd (Int.ofNat (Sl.n (Sl.mk n7 0 (Aq (n7*1) (Am 0 q8))))) (Int.ofNat (Sl.n s16)))),(hT 4 [(oC [zI z25,zI z26,zI z27,Sl.v 1 s17]),oC q7,.dead]))) (show _=some ((zB true),_) from (by rw[show (Bd (Int.ofNat (Sl.n (Sl.mk n7 0 (Aq (n7*1) (Am 0 q8))))) (Int.ofNat (Sl.n s16)))=true from h22])) (eC 3 ((oo (pu 13 [(Sl.v 1 (Sl.mk n7 0 (Aq (n7*1) (Am 0 q8)))),Sl.v 1 s16]) none fun v=>some (v,(hT 4 [(oC [zI z25,zI z26,zI z27,Sl.v 1 s17]),oC q7,.dead])))) (AB h23) (eE))))) ?_
            replace hm:=Ae hm;obtain⟨h24,hm⟩:=hm
            exact⟨(s15,z23,n6,c7,s16,b6,z24,(Sl.mk n7 0 (Aq (n7*1) (Am 0 q8))),b7,b72,z25,z26,z27,s17,q7),hm,(.k [2] [false] [.tmp 3 false,.tmp 6 false] [3,4,5,6,12,14,15,16,18,136] ⟨Bq h24,trivial⟩)⟩
           ·refine .reg (eD (some ((zB b7),(hT 4 [(oC [zI z25,zI z26,zI z27,Sl.v 1 s17]),oC q7,.dead]))) (show _=some ((zB true),_) from (by rw[show b7=true from h19])) (eC 5 (some ((zB (AY (Int.ofNat (Sl.n (Sl.mk n7 0 (Aq (n7*1) (Am 0 q8))))) (Int.ofNat (Sl.n s16)))),(hT 4 [(oC [zI z25,zI z26,zI z27,Sl.v 1 s17]),oC q7,.dead]))) (show _=some ((zB false),_) from (by rw[show (AY (Int.ofNat (Sl.n (Sl.mk n7 0 (Aq (n7*1) (Am 0 q8))))) (Int.ofNat (Sl.n s16)))=false from h20])) (eC 5 (some ((zB (Bd (Int.ofNat (Sl.n (Sl.mk n7 0 (Aq (n7*1) (Am 0 q8))))) (Int.ofNat (Sl.n s16)))),(hT 4 [(oC [zI z25,zI z26,zI z27,Sl.v 1 s17]),oC q7,.dead]))) (show _=some ((zB false),_) from (by rw[show (Bd (Int.ofNat (Sl.n (Sl.mk n7 0 (Aq (n7*1) (Am 0 q8))))) (Int.ofNat (Sl.n s16)))=false from h22])) (eE)))) ?_
            replace hm:=Ae hm;obtain⟨h25,hm⟩:=hm
            exact⟨(s15,z23,n6,c7,s16,b6,z24,(Sl.mk n7 0 (Aq (n7*1) (Am 0 q8))),b7,false,z25,z26,z27,s17,q7),hm,(.k [2] [false] [.tmp 3 false,.tmp 6 false] [3,4,5,6,12,14,15,16,18,136] ⟨Bq h25,trivial⟩)⟩
         ·refine .reg (eD (some ((zB b7),(hT 4 [(oC [zI z25,zI z26,zI z27,Sl.v 1 s17]),oC q7,.dead]))) (show _=some ((zB false),_) from (by rw[show b7=false from h19])) (eE)) ?_
          replace hm:=Ae hm;obtain⟨h26,hm⟩:=hm
          exact⟨(s15,z23,n6,c7,s16,b6,z24,(Sl.mk n7 0 (Aq (n7*1) (Am 0 q8))),b7,false,z25,z26,z27,s17,q7),hm,(.k [2] [false] [.tmp 3 false,.tmp 6 false] [3,4,5,6,12,14,15,16,18,136] ⟨Bq h26,trivial⟩)⟩
       ·refine .then (.rK (.ghs (fr 157 [(3,pt 1 0),(4,Sl.v 1 s12),(5,zI z18),(6,sc 2 0 1 n4 c5),(12,Sl.v 1 s13),(14,zB b5),(15,zI z19),(16,sc 3 0 1 n5 c6),(18,zB true),(103,sc 2 0 1 n4 c5),(104,(zI (Int.ofNat n4))),(105,(zI (0:Int)))]) (hT 4 [(oC [zI z20,zI z21,zI z22,Sl.v 1 s14]),oC q5,oC q6]) (.k [2,3] [false] [.tmp 3 false,.tmp 6 false,.tmp 16 false] [3,4,5,6,12,14,15,16,18,103,104,105] ⟨Bq h8,Bq h9,trivial⟩) ?_))
        refine .block (.loopM (v:=v) (fun y:Sl×Int×Nat×Nat×Sl×Bool×Int×Nat×Nat×Bool×Nat×Nat×Int×Int×Int×Int×Int×Sl×LV×LV=>((fr 157 [(3,pt 1 0),(4,(Sl.v 1 y.1)),(5,(zI y.2.1)),(6,(sc 2 0 1 y.2.2.1 y.2.2.2.1)),(12,(Sl.v 1 y.2.2.2.2.1)),(14,(zB y.2.2.2.2.2.1)),(15,(zI y.2.2.2.2.2.2.1)),(16,(sc 3 0 1 y.2.2.2.2.2.2.2.1 y.2.2.2.2.2.2.2.2.1)),(18,(zB y.2.2.2.2.2.2.2.2.2.1)),(103,(sc 2 0 1 y.2.2.2.2.2.2.2.2.2.2.1 y.2.2.2.2.2.2.2.2.2.2.2.1)),(104,(zI y.2.2.2.2.2.2.2.2.2.2.2.2.1)),(105,(zI y.2.2.2.2.2.2.2.2.2.2.2.2.2.1))]),(hT 4 [(oC [(zI y.2.2.2.2.2.2.2.2.2.2.2.2.2.2.1),(zI y.2.2.2.2.2.2.2.2.2.2.2.2.2.2.2.1),(zI y.2.2.2.2.2.2.2.2.2.2.2.2.2.2.2.2.1),(Sl.v 1 y.2.2.2.2.2.2.2.2.2.2.2.2.2.2.2.2.2.1)]),(oC y.2.2.2.2.2.2.2.2.2.2.2.2.2.2.2.2.2.2.1),(oC y.2.2.2.2.2.2.2.2.2.2.2.2.2.2.2.2.2.2.2)]))) (fun w y=>O9 pu n (FX pu n w0) w y.1 y.2.1 y.2.2.1 y.2.2.2.1 y.2.2.2.2.1 y.2.2.2.2.2.1 y.2.2.2.2.2.2.1 y.2.2.2.2.2.2.2.1 y.2.2.2.2.2.2.2.2.1 y.2.2.2.2.2.2.2.2.2.1 y.2.2.2.2.2.2.2.2.2.2.1 y.2.2.2.2.2.2.2.2.2.2.2.1 y.2.2.2.2.2.2.2.2.2.2.2.2.1 y.2.2.2.2.2.2.2.2.2.2.2.2.2.1 y.2.2.2.2.2.2.2.2.2.2.2.2.2.2.1 y.2.2.2.2.2.2.2.2.2.2.2.2.2.2.2.1 y.2.2.2.2.2.2.2.2.2.2.2.2.2.2.2.2.1 y.2.2.2.2.2.2.2.2.2.2.2.2.2.2.2.2.2.1 y.2.2.2.2.2.2.2.2.2.2.2.2.2.2.2.2.2.2.1 y.2.2.2.2.2.2.2.2.2.2.2.2.2.2.2.2.2.2.2) n ⟨(s12,z18,n4,c5,s13,b5,z19,n5,c6,true,n4,c5,(Int.ofNat n4),(0:Int),z20,z21,z22,s14,q5,q6),hm,(.k [2,3] [false] [.tmp 3 false,.tmp 6 false,.tmp 16 false] [3,4,5,6,12,14,15,16,18,103,104,105] ⟨Bq h8,Bq h9,trivial⟩)⟩ (fun _=>rfl) ?_)
        rintro w1 ⟨s26,z38,n10,c27,s27,b77,z39,n11,c28,b79,n12,c54,z40,z41,z42,z43,z44,s28,q11,q12⟩ hm
        replace hm:M9 pu n (FX pu n w0) (O9 pu n (FX pu n w0) w1) s26 z38 n10 c27 s27 b77 z39 n11 c28 b79 n12 c54 z40 z41 z42 z43 z44 s28 q11 q12=some v:=hm
        unfold M9 at hm
        refine .then (.rK ?_)
        replace hm:=Ae hm;obtain⟨h27,hm⟩:=hm
        replace hm:=Ae hm;obtain⟨h28,hm⟩:=hm
        refine .ghs (fr 157 [(3,pt 1 0),(4,Sl.v 1 s26),(5,zI z38),(6,sc 2 0 1 n10 c27),(12,Sl.v 1 s27),(14,zB b77),(15,zI z39),(16,sc 3 0 1 n11 c28),(18,zB b79),(103,sc 2 0 1 n12 c54),(104,zI z40),(105,zI z41),(106,(zB (AY z41 z40)))]) (hT 4 [(oC [zI z42,zI z43,zI z44,Sl.v 1 s28]),oC q11,oC q12]) (.k [2,3] [false] [.tmp 3 false,.tmp 6 false,.tmp 16 false] [3,4,5,6,12,14,15,16,18,103,104,105,106] ⟨Bq h27,Bq h28,trivial⟩) ?_
        refine .then ?_
        replace hm:=Ag hm;rcases hm with⟨h29,hm⟩ | ⟨h29,hm⟩
        ·refine BI (AY z41 z40) h29 ?_
         refine .skip (.ghs (fr 157 [(3,pt 1 0),(4,Sl.v 1 s26),(5,zI z38),(6,sc 2 0 1 n10 c27),(12,Sl.v 1 s27),(14,zB b77),(15,zI z39),(16,sc 3 0 1 n11 c28),(18,zB b79),(103,sc 2 0 1 n12 c54),(104,zI z40),(105,zI z41)]) (hT 4 [(oC [zI z42,zI z43,zI z44,Sl.v 1 s28]),oC q11,oC q12]) (.k [2,3] [false] [.tmp 3 false,.tmp 6 false,.tmp 16 false] [3,4,5,6,12,14,15,16,18,103,104,105] ⟨Bq h27,Bq h28,trivial⟩) ?_)
         refine .then (.block (.then ?_))
         replace hm:=Ab hm;obtain⟨k2,h30,hm⟩:=hm
         obtain rfl:=AR h30
         replace hm:=Ae hm;obtain⟨h31,hm⟩:=hm
         replace hm:=Gp hm;obtain⟨x2,h32,hm⟩:=hm
         refine .reg (eD (keep (hT 4 [(oC [zI z42,zI z43,zI z44,Sl.v 1 s28]),oC q11,oC q12]) (bb (an (Nat.blt k2 n12) true) (some (.pointer (some ⟨2,(0+k2*1),none⟩))) none)) (AX h31) (eD (keep (hT 4 [(oC [zI z42,zI z43,zI z44,Sl.v 1 s28]),oC q11,oC q12]) (AL q11 (0+k2*1))) (AZ h32) (eE))) ?_
         refine .ghs (fr 157 [(3,pt 1 0),(4,Sl.v 1 s26),(5,zI z38),(6,sc 2 0 1 n10 c27),(12,Sl.v 1 s27),(14,zB b77),(15,zI z39),(16,sc 3 0 1 n11 c28),(18,zB b79),(20,zI x2),(103,sc 2 0 1 n12 c54),(104,zI z40),(105,(zI (Int.ofNat k2)))]) (hT 4 [(oC [zI z42,zI z43,zI z44,Sl.v 1 s28]),oC q11,oC q12]) (.k [2,3] [false] [.tmp 3 false,.tmp 6 false,.tmp 16 false] [3,4,5,6,12,14,15,16,18,20,103,104,105] ⟨Bq h27,Bq h28,trivial⟩) ?_
         replace hm:=Ag hm;rcases hm with⟨h33,hm⟩ | ⟨h33,hm⟩
         ·refine .reg (eD (some ((zB b79),(hT 4 [(oC [zI z42,zI z43,zI z44,Sl.v 1 s28]),oC q11,oC q12]))) (show _=some ((zB true),_) from (by rw[show b79=true from h33])) (eE)) ?_
          refine .ghs (fr 157 [(3,pt 1 0),(4,Sl.v 1 s26),(5,zI z38),(6,sc 2 0 1 n10 c27),(12,Sl.v 1 s27),(14,zB b77),(15,zI z39),(16,sc 3 0 1 n11 c28),(18,(zB (nt (Bd (Np .i64 x2 z39) (0:Int))))),(103,sc 2 0 1 n12 c54),(104,zI z40),(105,(zI (Int.ofNat k2)))]) (hT 4 [(oC [zI z42,zI z43,zI z44,Sl.v 1 s28]),oC q11,oC q12]) (.k [2,3] [false] [.tmp 3 false,.tmp 6 false,.tmp 16 false] [3,4,5,6,12,14,15,16,18,103,104,105] ⟨Bq h27,Bq h28,trivial⟩) ?_
          refine .rK ?_
          exact⟨(s26,z38,n10,c27,s27,b77,z39,n11,c28,(nt (Bd (Np .i64 x2 z39) (0:Int))),n12,c54,z40,(Aj .i64 (Int.add (Int.ofNat k2) (1:Int))),z42,z43,z44,s28,q11,q12),hm,(.k [2,3] [false] [.tmp 3 false,.tmp 6 false,.tmp 16 false] [3,4,5,6,12,14,15,16,18,103,104,105] ⟨Bq h27,Bq h28,trivial⟩)⟩
         ·refine .reg (eD (some ((zB b79),(hT 4 [(oC [zI z42,zI z43,zI z44,Sl.v 1 s28]),oC q11,oC q12]))) (show _=some ((zB false),_) from (by rw[show b79=false from h33])) (eE)) ?_
          refine .ghs (fr 157 [(3,pt 1 0),(4,Sl.v 1 s26),(5,zI z38),(6,sc 2 0 1 n10 c27),(12,Sl.v 1 s27),(14,zB b77),(15,zI z39),(16,sc 3 0 1 n11 c28),(18,zB false),(103,sc 2 0 1 n12 c54),(104,zI z40),(105,(zI (Int.ofNat k2)))]) (hT 4 [(oC [zI z42,zI z43,zI z44,Sl.v 1 s28]),oC q11,oC q12]) (.k [2,3] [false] [.tmp 3 false,.tmp 6 false,.tmp 16 false] [3,4,5,6,12,14,15,16,18,103,104,105] ⟨Bq h27,Bq h28,trivial⟩) ?_
          refine .rK ?_
          exact⟨(s26,z38,n10,c27,s27,b77,z39,n11,c28,false,n12,c54,z40,(Aj .i64 (Int.add (Int.ofNat k2) (1:Int))),z42,z43,z44,s28,q11,q12),hm,(.k [2,3] [false] [.tmp 3 false,.tmp 6 false,.tmp 16 false] [3,4,5,6,12,14,15,16,18,103,104,105] ⟨Bq h27,Bq h28,trivial⟩)⟩
        ·refine BO (AY z41 z40) h29 ?_
         refine .exit ?_
         exact⟨(s26,z38,n10,c27,s27,b77,z39,n11,c28,b79,z42,z43,z44,s28,q11,q12),hm,(.k [2,3] [false] [.tmp 3 false,.tmp 6 false,.tmp 16 false] [3,4,5,6,12,14,15,16,18] ⟨Bq h27,Bq h28,trivial⟩)⟩
      ·refine .then (.rK (.ghs (fr 157 [(3,pt 1 0),(4,Sl.v 1 s6),(5,(zI (Int.ofNat k1))),(6,sc 2 0 1 n2 c2),(12,Sl.v 1 s7),(14,zB b2),(15,zI z9),(16,(.slice none 0 0)),(17,(zI (0:Int)))]) (hT 3 [(oC [zI z10,zI z11,zI z12,Sl.v 1 s8]),oC q2]) (.k [2] [false] [.tmp 3 false,.tmp 6 false] [3,4,5,6,12,14,15,16,17] ⟨Bq h5,trivial⟩) ?_))
       refine .block (.loopM (v:=v) (fun y:Sl×Int×Nat×Nat×Sl×Bool×Int×Nat×Nat×Int×Int×Int×Int×Sl×LV×LV=>((fr 157 [(3,pt 1 0),(4,(Sl.v 1 y.1)),(5,(zI y.2.1)),(6,(sc 2 0 1 y.2.2.1 y.2.2.2.1)),(12,(Sl.v 1 y.2.2.2.2.1)),(14,(zB y.2.2.2.2.2.1)),(15,(zI y.2.2.2.2.2.2.1)),(16,(sc 3 0 1 y.2.2.2.2.2.2.2.1 y.2.2.2.2.2.2.2.2.1)),(17,(zI y.2.2.2.2.2.2.2.2.2.1))]),(hT 4 [(oC [(zI y.2.2.2.2.2.2.2.2.2.2.1),(zI y.2.2.2.2.2.2.2.2.2.2.2.1),(zI y.2.2.2.2.2.2.2.2.2.2.2.2.1),(Sl.v 1 y.2.2.2.2.2.2.2.2.2.2.2.2.2.1)]),(oC y.2.2.2.2.2.2.2.2.2.2.2.2.2.2.1),(oC y.2.2.2.2.2.2.2.2.2.2.2.2.2.2.2)]))) (fun w y=>Nf pu n (FX pu n w0) w y.1 y.2.1 y.2.2.1 y.2.2.2.1 y.2.2.2.2.1 y.2.2.2.2.2.1 y.2.2.2.2.2.2.1 y.2.2.2.2.2.2.2.1 y.2.2.2.2.2.2.2.2.1 y.2.2.2.2.2.2.2.2.2.1 y.2.2.2.2.2.2.2.2.2.2.1 y.2.2.2.2.2.2.2.2.2.2.2.1 y.2.2.2.2.2.2.2.2.2.2.2.2.1 y.2.2.2.2.2.2.2.2.2.2.2.2.2.1 y.2.2.2.2.2.2.2.2.2.2.2.2.2.2.1 y.2.2.2.2.2.2.2.2.2.2.2.2.2.2.2) n ⟨(s6,(Int.ofNat k1),n2,c2,s7,b2,z9,0,0,(0:Int),z10,z11,z12,s8,q2,([]:LV)),hm,(.thaw 16 1 (by kernel_rfl) (.k [2] [false] [.tmp 3 false,.tmp 6 false,.tmp 16 false] [3,4,5,6,12,14,15,16,17] ⟨Bq h5,trivial⟩))⟩ (fun _=>rfl) ?_)
       rintro w1 ⟨s29,z45,n13,c72,s30,b80,z46,n14,c77,z47,z48,z49,z50,s31,q13,q14⟩ hm
       replace hm:Nc pu n (FX pu n w0) (Nf pu n (FX pu n w0) w1) s29 z45 n13 c72 s30 b80 z46 n14 c77 z47 z48 z49 z50 s31 q13 q14=some v:=hm
       unfold Nc at hm
       refine .then (.then (.rK ?_))
       replace hm:=Ae hm;obtain⟨h34,hm⟩:=hm
       replace hm:=Ae hm;obtain⟨h35,hm⟩:=hm
       refine .ghs (fr 157 [(3,pt 1 0),(4,Sl.v 1 s29),(5,zI z45),(6,sc 2 0 1 n13 c72),(12,Sl.v 1 s30),(14,zB b80),(15,zI z46),(16,sc 3 0 1 n14 c77),(17,zI z47),(91,(zB (AY z47 z45)))]) (hT 4 [(oC [zI z48,zI z49,zI z50,Sl.v 1 s31]),oC q13,oC q14]) (.k [2,3] [false] [.tmp 3 false,.tmp 6 false,.tmp 16 false] [3,4,5,6,12,14,15,16,17,91] ⟨Bq h34,Bq h35,trivial⟩) ?_
       replace hm:=Ag hm;rcases hm with⟨h36,hm⟩ | ⟨h36,hm⟩
       ·refine BI (AY z47 z45) h36 ?_
        refine .skip (.ghs (fr 157 [(3,pt 1 0),(4,Sl.v 1 s29),(5,zI z45),(6,sc 2 0 1 n13 c72),(12,Sl.v 1 s30),(14,zB b80),(15,zI z46),(16,sc 3 0 1 n14 c77),(17,zI z47)]) (hT 4 [(oC [zI z48,zI z49,zI z50,Sl.v 1 s31]),oC q13,oC q14]) (.k [2,3] [false] [.tmp 3 false,.tmp 6 false,.tmp 16 false] [3,4,5,6,12,14,15,16,17] ⟨Bq h34,Bq h35,trivial⟩) ?_)
        refine .join (v:=v) (fun y:Sl×Int×Nat×Nat×Sl×Bool×Int×Nat×Nat×Int×Int×Int×Int×Sl×LV×LV=>((fr 157 [(3,pt 1 0),(4,(Sl.v 1 y.1)),(5,(zI y.2.1)),(6,(sc 2 0 1 y.2.2.1 y.2.2.2.1)),(12,(Sl.v 1 y.2.2.2.2.1)),(14,(zB y.2.2.2.2.2.1)),(15,(zI y.2.2.2.2.2.2.1)),(16,(sc 3 0 1 y.2.2.2.2.2.2.2.1 y.2.2.2.2.2.2.2.2.1)),(17,(zI y.2.2.2.2.2.2.2.2.2.1))]),(hT 4 [(oC [(zI y.2.2.2.2.2.2.2.2.2.2.1),(zI y.2.2.2.2.2.2.2.2.2.2.2.1),(zI y.2.2.2.2.2.2.2.2.2.2.2.2.1),(Sl.v 1 y.2.2.2.2.2.2.2.2.2.2.2.2.2.1)]),(oC y.2.2.2.2.2.2.2.2.2.2.2.2.2.2.1),(oC y.2.2.2.2.2.2.2.2.2.2.2.2.2.2.2)]))) (fun y=>R6 pu n (FX pu n w0) (Nf pu n (FX pu n w0) w1) y.1 y.2.1 y.2.2.1 y.2.2.2.1 y.2.2.2.2.1 y.2.2.2.2.2.1 y.2.2.2.2.2.2.1 y.2.2.2.2.2.2.2.1 y.2.2.2.2.2.2.2.2.1 y.2.2.2.2.2.2.2.2.2.1 y.2.2.2.2.2.2.2.2.2.2.1 y.2.2.2.2.2.2.2.2.2.2.2.1 y.2.2.2.2.2.2.2.2.2.2.2.2.1 y.2.2.2.2.2.2.2.2.2.2.2.2.2.1 y.2.2.2.2.2.2.2.2.2.2.2.2.2.2.1 y.2.2.2.2.2.2.2.2.2.2.2.2.2.2.2) ?_ ?_
        ·rintro⟨s32,z51,n15,c79,s33,b81,z52,n16,c80,z53,z54,z55,z56,s34,q15,q16⟩ hm
         unfold R6 at hm
         refine .rK ?_
         replace hm:=Ae hm;obtain⟨h37,hm⟩:=hm
         replace hm:=Ae hm;obtain⟨h38,hm⟩:=hm
         exact⟨(s32,z51,n15,c79,s33,b81,z52,n16,c80,(Aj .i64 (Int.add z53 (1:Int))),z54,z55,z56,s34,q15,q16),hm,(.k [2,3] [false] [.tmp 3 false,.tmp 6 false,.tmp 16 false] [3,4,5,6,12,14,15,16,17] ⟨Bq h37,Bq h38,trivial⟩)⟩
        ·refine .block (.then ?_)
         replace hm:=Ab hm;obtain⟨k3,h39,hm⟩:=hm
         obtain rfl:=AR h39
         refine .rK (.ghs (fr 157 [(3,pt 1 0),(4,Sl.v 1 s29),(5,zI z45),(6,sc 2 0 1 n13 c72),(12,Sl.v 1 s30),(14,zB b80),(15,zI z46),(16,sc 3 0 1 n14 c77),(17,(zI (Int.ofNat k3))),(98,(zB (Bd (Np .i64 (G6 .i64 z46 k3) (1:Int)) (1:Int))))]) (hT 4 [(oC [zI z48,zI z49,zI z50,Sl.v 1 s31]),oC q13,oC q14]) (.k [2,3] [false] [.tmp 3 false,.tmp 6 false,.tmp 16 false] [3,4,5,6,12,14,15,16,17,98] ⟨Bq h34,Bq h35,trivial⟩) ?_)
         replace hm:=Ag hm;rcases hm with⟨h40,hm⟩ | ⟨h40,hm⟩
         ·refine BI (Bd (Np .i64 (G6 .i64 z46 k3) (1:Int)) (1:Int)) h40 ?_
          replace hm:=Ae hm;obtain⟨h41,hm⟩:=hm
          refine .reg (eC 3 (Oc 1 8 n14 c77 1 3 q14 [(zI (Int.ofNat k3))] [] (hT 5 [(oC [zI z48,zI z49,zI z50,Sl.v 1 s31]),oC q13,oC q14,(oC [(zI (Int.ofNat k3))])])) (I1 h41) (eE)) ?_
          replace hm:=Ae hm;obtain⟨h42,hm⟩:=hm
          exact⟨(s29,z45,n13,c72,s30,b80,z46,(n14+1),(d2 (n14+1)),(Int.ofNat k3),z48,z49,z50,s31,q13,(Br (Am 0 q14) [(zI (Int.ofNat k3))])),hm,(.k [2,5] [false] [.tmp 3 false,.tmp 6 false,.tmp 16 false] [3,4,5,6,12,14,15,16,17] ⟨Bq h34,Bq h42,trivial⟩)⟩
         ·refine BO (Bd (Np .i64 (G6 .i64 z46 k3) (1:Int)) (1:Int)) h40 ?_
          refine .skip ?_
          exact⟨(s29,z45,n13,c72,s30,b80,z46,n14,c77,(Int.ofNat k3),z48,z49,z50,s31,q13,q14),hm,(.k [2,3] [false] [.tmp 3 false,.tmp 6 false,.tmp 16 false] [3,4,5,6,12,14,15,16,17] ⟨Bq h34,Bq h35,trivial⟩)⟩
       ·refine BO (AY z47 z45) h36 ?_
        refine .exit ?_
        exact⟨(s29,z45,n13,c72,s30,b80,z46,n14,c77,z48,z49,z50,s31,q13,q14),hm,(.k [2,3] [false] [.tmp 3 false,.tmp 6 false,.tmp 16 false] [3,4,5,6,12,14,15,16] ⟨Bq h34,Bq h35,trivial⟩)⟩
    ·refine BO (AY z9 (QW .i64 (1:Int) k1)) h6 ?_
     refine .exit ?_
     exact⟨b2,hm,(.k0 [false] [] [14])⟩
 ·replace hm:=Ag hm;rcases hm with⟨h43,hm⟩ | ⟨h43,hm⟩
  ·refine .reg (eC 1 (some ((zB (nt (Bd x0 (0:Int)))),(hT 3 [(oC [zI z1,zI z2,zI z3,Sl.v 1 s1]),oC q0]))) (show _=some ((zB true),_) from (by rw[show (nt (Bd x0 (0:Int)))=true from h43])) (eE)) ?_
   exact⟨(s0,z0,n0,c0,s2,true,z1,z2,z3,s1,q0),hm,(.k [2] [false] [.tmp 3 false,.tmp 6 false] [3,4,5,6,12,82] ⟨Bq h1,trivial⟩)⟩
  ·refine .reg (eC 1 (some ((zB (nt (Bd x0 (0:Int)))),(hT 3 [(oC [zI z1,zI z2,zI z3,Sl.v 1 s1]),oC q0]))) (show _=some ((zB false),_) from (by rw[show (nt (Bd x0 (0:Int)))=false from h43])) (eE)) ?_
   exact⟨(s0,z0,n0,c0,s2,(AY (Int.ofNat n0) (Int.ofNat (Sl.n s2))),z1,z2,z3,s1,q0),hm,(.k [2] [false] [.tmp 3 false,.tmp 6 false] [3,4,5,6,12,82] ⟨Bq h1,trivial⟩)⟩
theorem r4 {call:A8} (pu:Af) (n:Nat) (hcall:call=Bb tabs isP pu (inl pu)) {args:LV} {v:Value} (hm:m4 pu n args=some v) (_:∀ x∈args,closed2 x=true):args.length≤157∧BN tt call 1 PM (Fr.made 157 args) (Ao tabs) (Fin tt 1 [.tmp 2] v):=by
 subst hcall
 unfold m4 at hm
 replace hm:=Ad hm;obtain⟨a0,args_0,rfl,hm⟩:=hm
 replace hm:=AC hm;obtain⟨rfl,hm⟩:=hm
 replace hm:=BG hm;obtain⟨q1,rfl,hm⟩:=hm
 replace hm:=Ae hm;obtain⟨h3,hm⟩:=hm
 unfold m4_ at hm
 refine⟨by simp,?_⟩
 refine .same (F':=(fr 157 [(0,(.agg ⟨q1⟩))])) (H':=Ay) (by kernel_rfl) (by kernel_rfl) ?_
 refine .then (.rK ?_)
 replace hm:=Ae hm;obtain⟨h4,hm⟩:=hm
 refine .ghs (fr 157 [(1,pt 1 0)]) (hT 2 [oC q1]) (.k [1] [false] [.tmp 1 false] [1] ⟨Bq h4,trivial⟩) ?_
 refine .then ?_
 replace hm:=Ae hm;obtain⟨h29,hm⟩:=hm
 replace hm:=Ab hm;obtain⟨v30,h31,hm⟩:=hm
 replace hm:=Ch hm;obtain⟨l32,rfl,hm⟩:=hm
 replace hm:=Ad hm;obtain⟨v34,l32_0,rfl,hm⟩:=hm
 replace hm:=Ad hm;obtain⟨v35,Kh,rfl,hm⟩:=hm
 replace hm:=AC hm;obtain⟨rfl,hm⟩:=hm
 replace hm:=BG hm;obtain⟨l36,rfl,hm⟩:=hm
 replace hm:=Ad hm;obtain⟨v38,l36_0,rfl,hm⟩:=hm
 replace hm:=Ad hm;obtain⟨v39,LQ,rfl,hm⟩:=hm
 replace hm:=Ad hm;obtain⟨v40,l36_2,rfl,hm⟩:=hm
 replace hm:=Ad hm;obtain⟨v41,l36_3,rfl,hm⟩:=hm
 replace hm:=AC hm;obtain⟨rfl,hm⟩:=hm
 replace hm:=Ai hm;obtain⟨x42,rfl,hm⟩:=hm
 replace hm:=Ai hm;obtain⟨x44,rfl,hm⟩:=hm
 replace hm:=Ai hm;obtain⟨x46,rfl,hm⟩:=hm
 replace hm:=Al hm;obtain⟨s48,rfl,hm⟩:=hm
 replace hm:=Al hm;obtain⟨s50,rfl,hm⟩:=hm
 replace hm:=Ae hm;obtain⟨h52,hm⟩:=hm
 refine .reg (eD (keep (hT 2 [oC q1]) (bb (Nat.ble (0+20) (len q1)) (some (.agg ⟨(Aq 20 (Am 0 q1))⟩)) none)) (AX h29) (eD (bb (Au closed2 [(.agg ⟨(Aq 20 (Am 0 q1))⟩),(zI (3:Int)),(zI (3:Int))]) (oo (pu 9 [(.agg ⟨(Aq 20 (Am 0 q1))⟩),(zI (3:Int)),(zI (3:Int))]) none fun v=>some (v,(hT 2 [oC q1]))) (oo (CG (RG (hT 2 [oC q1])) [(.agg ⟨(Aq 20 (Am 0 q1))⟩),(zI (3:Int)),(zI (3:Int))]) none fun l1=>oo (pu 9 l1) none fun v=>bb (RH v) (some (v,(hT 2 [oC q1]))) none)) (SL h52 h31) (eE))) ?_
 refine .ghs (fr 157 [(3,pt 1 0),(4,Sl.v 1 s50)]) (hT 2 [(oC [zI x42,zI x44,zI x46,Sl.v 1 s48])]) (.k0 [false] [.tmp 3 false] [3,4]) ?_
 refine .then (.rK (.ghs (fr 157 [(3,pt 1 0),(4,Sl.v 1 s50),(5,(zI (Int.ofNat (Sl.n s50))))]) (hT 2 [(oC [zI x42,zI x44,zI x46,Sl.v 1 s48])]) (.k0 [false] [.tmp 3 false] [3,4,5]) ?_))
 refine .then (.rK (.ghs (fr 157 [(3,pt 1 0),(4,Sl.v 1 s50),(5,(zI (Int.ofNat (Sl.n s50)))),(6,(.slice none 0 0))]) (hT 2 [(oC [zI x42,zI x44,zI x46,Sl.v 1 s48])]) (.k0 [false] [.tmp 3 false] [3,4,5,6]) ?_))
 refine .join (v:=v) (fun y:Sl×Int×Nat×Nat×Int×Int×Int×Sl×LV=>((fr 157 [(3,pt 1 0),(4,(Sl.v 1 y.1)),(5,(zI y.2.1)),(6,(sc 2 0 1 y.2.2.1 y.2.2.2.1))]),(hT 3 [(oC [(zI y.2.2.2.2.1),(zI y.2.2.2.2.2.1),(zI y.2.2.2.2.2.2.1),(Sl.v 1 y.2.2.2.2.2.2.2.1)]),(oC y.2.2.2.2.2.2.2.2)]))) (fun y=>WH pu n y.1 y.2.1 y.2.2.1 y.2.2.2.1 y.2.2.2.2.1 y.2.2.2.2.2.1 y.2.2.2.2.2.2.1 y.2.2.2.2.2.2.2.1 y.2.2.2.2.2.2.2.2) ?_ ?_
 ·rintro⟨s0,z0,n0,c0,z1,z2,z3,s1,q0⟩ hm
  exact AeA pu n s0 z0 n0 c0 z1 z2 z3 s1 q0 hm
 ·refine .then (.rK (.ghs (fr 157 [(3,pt 1 0),(4,Sl.v 1 s50),(5,(zI (Int.ofNat (Sl.n s50)))),(6,(.slice none 0 0)),(29,Sl.v 1 s48),(30,(zI (Int.ofNat (Sl.n s48)))),(31,(zI (0:Int)))]) (hT 2 [(oC [zI x42,zI x44,zI x46,Sl.v 1 s48])]) (.k0 [false] [.tmp 3 false] [3,4,5,6,29,30,31]) ?_))
  refine .block (.loopM (v:=v) (fun y:Sl×Int×Nat×Nat×Sl×Int×Int×Int×Int×Int×Sl×LV=>((fr 157 [(3,pt 1 0),(4,(Sl.v 1 y.1)),(5,(zI y.2.1)),(6,(sc 2 0 1 y.2.2.1 y.2.2.2.1)),(29,(Sl.v 1 y.2.2.2.2.1)),(30,(zI y.2.2.2.2.2.1)),(31,(zI y.2.2.2.2.2.2.1))]),(hT 3 [(oC [(zI y.2.2.2.2.2.2.2.1),(zI y.2.2.2.2.2.2.2.2.1),(zI y.2.2.2.2.2.2.2.2.2.1),(Sl.v 1 y.2.2.2.2.2.2.2.2.2.2.1)]),(oC y.2.2.2.2.2.2.2.2.2.2.2)]))) (fun w y=>G5 pu n w y.1 y.2.1 y.2.2.1 y.2.2.2.1 y.2.2.2.2.1 y.2.2.2.2.2.1 y.2.2.2.2.2.2.1 y.2.2.2.2.2.2.2.1 y.2.2.2.2.2.2.2.2.1 y.2.2.2.2.2.2.2.2.2.1 y.2.2.2.2.2.2.2.2.2.2.1 y.2.2.2.2.2.2.2.2.2.2.2) n ⟨(s50,(Int.ofNat (Sl.n s50)),0,0,s48,(Int.ofNat (Sl.n s48)),(0:Int),x42,x44,x46,s48,([]:LV)),hm,(.thaw 6 1 (by kernel_rfl) (.k0 [false] [.tmp 3 false,.tmp 6 false] [3,4,5,6,29,30,31]))⟩ (fun _=>rfl) ?_)
  rintro w0 ⟨s2,z4,n1,c1,s3,z5,z6,z7,z8,z9,s4,q2⟩ hm
  replace hm:Ni pu n (G5 pu n w0) s2 z4 n1 c1 s3 z5 z6 z7 z8 z9 s4 q2=some v:=hm
  unfold Ni at hm
  refine .then (.rK ?_)
  replace hm:=Ae hm;obtain⟨h0,hm⟩:=hm
  refine .ghs (fr 157 [(3,pt 1 0),(4,Sl.v 1 s2),(5,zI z4),(6,sc 2 0 1 n1 c1),(29,Sl.v 1 s3),(30,zI z5),(31,zI z6),(32,(zB (AY z6 z5)))]) (hT 3 [(oC [zI z7,zI z8,zI z9,Sl.v 1 s4]),oC q2]) (.k [2] [false] [.tmp 3 false,.tmp 6 false] [3,4,5,6,29,30,31,32] ⟨Bq h0,trivial⟩) ?_
  refine .then ?_
  replace hm:=Ag hm;rcases hm with⟨h1,hm⟩ | ⟨h1,hm⟩
  ·refine BI (AY z6 z5) h1 ?_
   refine .skip (.ghs (fr 157 [(3,pt 1 0),(4,Sl.v 1 s2),(5,zI z4),(6,sc 2 0 1 n1 c1),(29,Sl.v 1 s3),(30,zI z5),(31,zI z6)]) (hT 3 [(oC [zI z7,zI z8,zI z9,Sl.v 1 s4]),oC q2]) (.k [2] [false] [.tmp 3 false,.tmp 6 false] [3,4,5,6,29,30,31] ⟨Bq h0,trivial⟩) ?_)
   refine .join (v:=v) (fun y:Sl×Int×Nat×Nat×Sl×Int×Int×Int×Int×Int×Sl×LV=>((fr 157 [(3,pt 1 0),(4,(Sl.v 1 y.1)),(5,(zI y.2.1)),(6,(sc 2 0 1 y.2.2.1 y.2.2.2.1)),(29,(Sl.v 1 y.2.2.2.2.1)),(30,(zI y.2.2.2.2.2.1)),(31,(zI y.2.2.2.2.2.2.1))]),(hT 3 [(oC [(zI y.2.2.2.2.2.2.2.1),(zI y.2.2.2.2.2.2.2.2.1),(zI y.2.2.2.2.2.2.2.2.2.1),(Sl.v 1 y.2.2.2.2.2.2.2.2.2.2.1)]),(oC y.2.2.2.2.2.2.2.2.2.2.2)]))) (fun y=>R7 pu n (G5 pu n w0) y.1 y.2.1 y.2.2.1 y.2.2.2.1 y.2.2.2.2.1 y.2.2.2.2.2.1 y.2.2.2.2.2.2.1 y.2.2.2.2.2.2.2.1 y.2.2.2.2.2.2.2.2.1 y.2.2.2.2.2.2.2.2.2.1 y.2.2.2.2.2.2.2.2.2.2.1 y.2.2.2.2.2.2.2.2.2.2.2) ?_ ?_
   ·rintro⟨s5,z10,n2,c2,s6,z11,z12,z13,z14,z15,s7,q3⟩ hm
    unfold R7 at hm
    refine .rK ?_
    replace hm:=Ae hm;obtain⟨h2,hm⟩:=hm
    exact⟨(s5,z10,n2,c2,s6,z11,(Aj .i64 (Int.add z12 (1:Int))),z13,z14,z15,s7,q3),hm,(.k [2] [false] [.tmp 3 false,.tmp 6 false] [3,4,5,6,29,30,31] ⟨Bq h2,trivial⟩)⟩
   ·refine .block (.then ?_)
    replace hm:=Ab hm;obtain⟨k1,h5,hm⟩:=hm
    obtain rfl:=AR h5
    replace hm:=Ae hm;obtain⟨h6,hm⟩:=hm
    replace hm:=Gp hm;obtain⟨x0,h7,hm⟩:=hm
    refine .reg (eD (keep (hT 3 [(oC [zI z7,zI z8,zI z9,Sl.v 1 s4]),oC q2]) (bb (an (Nat.blt k1 (Sl.n s3)) true) (some (Cv (k1*1) (Sl.cs s3))) none)) (AX h6) (eD (keep (hT 3 [(oC [zI z7,zI z8,zI z9,Sl.v 1 s4]),oC q2]) (AL (Sl.cs s3) (k1*1))) (AZ h7) (eE))) ?_
    refine .ghs (fr 157 [(3,pt 1 0),(4,Sl.v 1 s2),(5,zI z4),(6,sc 2 0 1 n1 c1),(8,zI x0),(29,Sl.v 1 s3),(30,zI z5),(31,(zI (Int.ofNat k1)))]) (hT 3 [(oC [zI z7,zI z8,zI z9,Sl.v 1 s4]),oC q2]) (.k [2] [false] [.tmp 3 false,.tmp 6 false] [3,4,5,6,8,29,30,31] ⟨Bq h0,trivial⟩) ?_
    refine .then ?_
    replace hm:=X4 hm;obtain⟨s8,h8,hm⟩:=hm
    refine .reg (eC 6 ((oo (pu 10 [Sl.v 1 s2,zI z7,zI z8,zI x0]) none fun v=>some (v,(hT 3 [(oC [zI z7,zI z8,zI z9,Sl.v 1 s4]),oC q2])))) (AB h8) (eE)) ?_
    refine .ghs (fr 157 [(3,pt 1 0),(4,Sl.v 1 s2),(5,zI z4),(6,sc 2 0 1 n1 c1),(9,Sl.v 1 s8),(29,Sl.v 1 s3),(30,zI z5),(31,(zI (Int.ofNat k1)))]) (hT 3 [(oC [zI z7,zI z8,zI z9,Sl.v 1 s4]),oC q2]) (.k [2] [false] [.tmp 3 false,.tmp 6 false] [3,4,5,6,9,29,30,31] ⟨Bq h0,trivial⟩) ?_
    refine .then (.rK (.ghs (fr 157 [(3,pt 1 0),(4,Sl.v 1 s2),(5,zI z4),(6,sc 2 0 1 n1 c1),(9,Sl.v 1 s8),(10,(zI (0:Int))),(29,Sl.v 1 s3),(30,zI z5),(31,(zI (Int.ofNat k1)))]) (hT 3 [(oC [zI z7,zI z8,zI z9,Sl.v 1 s4]),oC q2]) (.k [2] [false] [.tmp 3 false,.tmp 6 false] [3,4,5,6,9,10,29,30,31] ⟨Bq h0,trivial⟩) ?_))
    refine .join (v:=v) (fun y:Sl×Int×Nat×Nat×Int×Sl×Int×Int×Int×Int×Int×Sl×LV=>((fr 157 [(3,pt 1 0),(4,(Sl.v 1 y.1)),(5,(zI y.2.1)),(6,(sc 2 0 1 y.2.2.1 y.2.2.2.1)),(10,(zI y.2.2.2.2.1)),(29,(Sl.v 1 y.2.2.2.2.2.1)),(30,(zI y.2.2.2.2.2.2.1)),(31,(zI y.2.2.2.2.2.2.2.1))]),(hT 3 [(oC [(zI y.2.2.2.2.2.2.2.2.1),(zI y.2.2.2.2.2.2.2.2.2.1),(zI y.2.2.2.2.2.2.2.2.2.2.1),(Sl.v 1 y.2.2.2.2.2.2.2.2.2.2.2.1)]),(oC y.2.2.2.2.2.2.2.2.2.2.2.2)]))) (fun y=>R8 pu n (G5 pu n w0) y.1 y.2.1 y.2.2.1 y.2.2.2.1 y.2.2.2.2.1 y.2.2.2.2.2.1 y.2.2.2.2.2.2.1 y.2.2.2.2.2.2.2.1 y.2.2.2.2.2.2.2.2.1 y.2.2.2.2.2.2.2.2.2.1 y.2.2.2.2.2.2.2.2.2.2.1 y.2.2.2.2.2.2.2.2.2.2.2.1 y.2.2.2.2.2.2.2.2.2.2.2.2) ?_ ?_
    ·rintro⟨s9,z16,n3,c3,z17,s10,z18,z19,z20,z21,z22,s11,q5⟩ hm
     unfold R8 at hm
     refine .then (.rK ?_)
     replace hm:=Ae hm;obtain⟨h9,hm⟩:=hm
     refine .ghs (fr 157 [(3,pt 1 0),(4,Sl.v 1 s9),(5,zI z16),(6,sc 2 0 1 n3 c3),(10,zI z17),(29,Sl.v 1 s10),(30,zI z18),(31,zI z19),(62,(zB (AY (0:Int) z17)))]) (hT 3 [(oC [zI z20,zI z21,zI z22,Sl.v 1 s11]),oC q5]) (.k [2] [false] [.tmp 3 false,.tmp 6 false] [3,4,5,6,10,29,30,31,62] ⟨Bq h9,trivial⟩) ?_
     replace hm:=Ag hm;rcases hm with⟨h10,hm⟩ | ⟨h10,hm⟩
     ·refine BI (AY (0:Int) z17) h10 ?_
      replace hm:=Ae hm;obtain⟨h11,hm⟩:=hm
      refine .reg (eC 3 (Oc 1 8 n3 c3 1 2 q5 [zI z17] [] (hT 4 [(oC [zI z20,zI z21,zI z22,Sl.v 1 s11]),oC q5,(oC [zI z17])])) (I1 h11) (eE)) ?_
      replace hm:=Ae hm;obtain⟨h12,hm⟩:=hm
      exact⟨(s9,z16,(n3+1),(d2 (n3+1)),s10,z18,z19,z20,z21,z22,s11,(Br (Am 0 q5) [zI z17])),hm,(.k [4] [false] [.tmp 3 false,.tmp 6 false] [3,4,5,6,29,30,31] ⟨Bq h12,trivial⟩)⟩
     ·refine BO (AY (0:Int) z17) h10 ?_
      refine .skip ?_
      exact⟨(s9,z16,n3,c3,s10,z18,z19,z20,z21,z22,s11,q5),hm,(.k [2] [false] [.tmp 3 false,.tmp 6 false] [3,4,5,6,29,30,31] ⟨Bq h9,trivial⟩)⟩
    ·refine .then (.rK (.ghs (fr 157 [(3,pt 1 0),(4,Sl.v 1 s2),(5,zI z4),(6,sc 2 0 1 n1 c1),(9,Sl.v 1 s8),(10,(zI (0:Int))),(29,Sl.v 1 s3),(30,zI z5),(31,(zI (Int.ofNat k1))),(43,(zI (Int.ofNat (Sl.n s2)))),(44,(zI (0:Int)))]) (hT 3 [(oC [zI z7,zI z8,zI z9,Sl.v 1 s4]),oC q2]) (.k [2] [false] [.tmp 3 false,.tmp 6 false] [3,4,5,6,9,10,29,30,31,43,44] ⟨Bq h0,trivial⟩) ?_))
     refine .block (.loopM (v:=v) (fun y:Sl×Int×Nat×Nat×Sl×Int×Sl×Int×Int×Int×Int×Int×Int×Int×Sl×LV=>((fr 157 [(3,pt 1 0),(4,(Sl.v 1 y.1)),(5,(zI y.2.1)),(6,(sc 2 0 1 y.2.2.1 y.2.2.2.1)),(9,(Sl.v 1 y.2.2.2.2.1)),(10,(zI y.2.2.2.2.2.1)),(29,(Sl.v 1 y.2.2.2.2.2.2.1)),(30,(zI y.2.2.2.2.2.2.2.1)),(31,(zI y.2.2.2.2.2.2.2.2.1)),(43,(zI y.2.2.2.2.2.2.2.2.2.1)),(44,(zI y.2.2.2.2.2.2.2.2.2.2.1))]),(hT 3 [(oC [(zI y.2.2.2.2.2.2.2.2.2.2.2.1),(zI y.2.2.2.2.2.2.2.2.2.2.2.2.1),(zI y.2.2.2.2.2.2.2.2.2.2.2.2.2.1),(Sl.v 1 y.2.2.2.2.2.2.2.2.2.2.2.2.2.2.1)]),(oC y.2.2.2.2.2.2.2.2.2.2.2.2.2.2.2)]))) (fun w y=>Nh pu n (G5 pu n w0) w y.1 y.2.1 y.2.2.1 y.2.2.2.1 y.2.2.2.2.1 y.2.2.2.2.2.1 y.2.2.2.2.2.2.1 y.2.2.2.2.2.2.2.1 y.2.2.2.2.2.2.2.2.1 y.2.2.2.2.2.2.2.2.2.1 y.2.2.2.2.2.2.2.2.2.2.1 y.2.2.2.2.2.2.2.2.2.2.2.1 y.2.2.2.2.2.2.2.2.2.2.2.2.1 y.2.2.2.2.2.2.2.2.2.2.2.2.2.1 y.2.2.2.2.2.2.2.2.2.2.2.2.2.2.1 y.2.2.2.2.2.2.2.2.2.2.2.2.2.2.2) n ⟨(s2,z4,n1,c1,s8,(0:Int),s3,z5,(Int.ofNat k1),(Int.ofNat (Sl.n s2)),(0:Int),z7,z8,z9,s4,q2),hm,(.k [2] [false] [.tmp 3 false,.tmp 6 false] [3,4,5,6,9,10,29,30,31,43,44] ⟨Bq h0,trivial⟩)⟩ (fun _=>rfl) ?_)
     rintro w1 ⟨s12,z23,n4,c5,s13,z24,s14,z25,z26,z27,z28,z29,z30,z31,s15,q6⟩ hm
     replace hm:Ng pu n (G5 pu n w0) (Nh pu n (G5 pu n w0) w1) s12 z23 n4 c5 s13 z24 s14 z25 z26 z27 z28 z29 z30 z31 s15 q6=some v:=hm
     unfold Ng at hm
     refine .then (.rK ?_)
     replace hm:=Ae hm;obtain⟨h13,hm⟩:=hm
     refine .ghs (fr 157 [(3,pt 1 0),(4,Sl.v 1 s12),(5,zI z23),(6,sc 2 0 1 n4 c5),(9,Sl.v 1 s13),(10,zI z24),(29,Sl.v 1 s14),(30,zI z25),(31,zI z26),(43,zI z27),(44,zI z28),(45,(zB (AY z28 z27)))]) (hT 3 [(oC [zI z29,zI z30,zI z31,Sl.v 1 s15]),oC q6]) (.k [2] [false] [.tmp 3 false,.tmp 6 false] [3,4,5,6,9,10,29,30,31,43,44,45] ⟨Bq h13,trivial⟩) ?_
     refine .then ?_
     replace hm:=Ag hm;rcases hm with⟨h14,hm⟩ | ⟨h14,hm⟩
     ·refine BI (AY z28 z27) h14 ?_
      refine .skip (.ghs (fr 157 [(3,pt 1 0),(4,Sl.v 1 s12),(5,zI z23),(6,sc 2 0 1 n4 c5),(9,Sl.v 1 s13),(10,zI z24),(29,Sl.v 1 s14),(30,zI z25),(31,zI z26),(43,zI z27),(44,zI z28)]) (hT 3 [(oC [zI z29,zI z30,zI z31,Sl.v 1 s15]),oC q6]) (.k [2] [false] [.tmp 3 false,.tmp 6 false] [3,4,5,6,9,10,29,30,31,43,44] ⟨Bq h13,trivial⟩) ?_)
      refine .join (v:=v) (fun y:Sl×Int×Nat×Nat×Sl×Int×Sl×Int×Int×Int×Int×Int×Int×Int×Sl×LV=>((fr 157 [(3,pt 1 0),(4,(Sl.v 1 y.1)),(5,(zI y.2.1)),(6,(sc 2 0 1 y.2.2.1 y.2.2.2.1)),(9,(Sl.v 1 y.2.2.2.2.1)),(10,(zI y.2.2.2.2.2.1)),(29,(Sl.v 1 y.2.2.2.2.2.2.1)),(30,(zI y.2.2.2.2.2.2.2.1)),(31,(zI y.2.2.2.2.2.2.2.2.1)),(43,(zI y.2.2.2.2.2.2.2.2.2.1)),(44,(zI y.2.2.2.2.2.2.2.2.2.2.1))]),(hT 3 [(oC [(zI y.2.2.2.2.2.2.2.2.2.2.2.1),(zI y.2.2.2.2.2.2.2.2.2.2.2.2.1),(zI y.2.2.2.2.2.2.2.2.2.2.2.2.2.1),(Sl.v 1 y.2.2.2.2.2.2.2.2.2.2.2.2.2.2.1)]),(oC y.2.2.2.2.2.2.2.2.2.2.2.2.2.2.2)]))) (fun y=>R9 pu n (G5 pu n w0) (Nh pu n (G5 pu n w0) w1) y.1 y.2.1 y.2.2.1 y.2.2.2.1 y.2.2.2.2.1 y.2.2.2.2.2.1 y.2.2.2.2.2.2.1 y.2.2.2.2.2.2.2.1 y.2.2.2.2.2.2.2.2.1 y.2.2.2.2.2.2.2.2.2.1 y.2.2.2.2.2.2.2.2.2.2.1 y.2.2.2.2.2.2.2.2.2.2.2.1 y.2.2.2.2.2.2.2.2.2.2.2.2.1 y.2.2.2.2.2.2.2.2.2.2.2.2.2.1 y.2.2.2.2.2.2.2.2.2.2.2.2.2.2.1 y.2.2.2.2.2.2.2.2.2.2.2.2.2.2.2) ?_ ?_
      ·rintro⟨s16,z32,n5,c6,s17,z33,s18,z34,z35,z36,z37,z38,z39,z40,s19,q7⟩ hm
       unfold R9 at hm
       refine .rK ?_
       replace hm:=Ae hm;obtain⟨h15,hm⟩:=hm
       exact⟨(s16,z32,n5,c6,s17,z33,s18,z34,z35,z36,(Aj .i64 (Int.add z37 (1:Int))),z38,z39,z40,s19,q7),hm,(.k [2] [false] [.tmp 3 false,.tmp 6 false] [3,4,5,6,9,10,29,30,31,43,44] ⟨Bq h15,trivial⟩)⟩
      ·refine .block (.then (.rK (.ghs (fr 157 [(3,pt 1 0),(4,Sl.v 1 s12),(5,zI z23),(6,sc 2 0 1 n4 c5),(9,Sl.v 1 s13),(10,zI z24),(11,zI z28),(29,Sl.v 1 s14),(30,zI z25),(31,zI z26),(43,zI z27),(44,zI z28)]) (hT 3 [(oC [zI z29,zI z30,zI z31,Sl.v 1 s15]),oC q6]) (.k [2] [false] [.tmp 3 false,.tmp 6 false] [3,4,5,6,9,10,11,29,30,31,43,44] ⟨Bq h13,trivial⟩) ?_)))
       refine .then ?_
       replace hm:=Ab hm;obtain⟨k2,h16,hm⟩:=hm
       obtain rfl:=AR h16
       replace hm:=Ae hm;obtain⟨h17,hm⟩:=hm
       replace hm:=Gp hm;obtain⟨x1,h18,hm⟩:=hm
       replace hm:=Ae hm;obtain⟨h19,hm⟩:=hm
       replace hm:=Gp hm;obtain⟨x2,h20,hm⟩:=hm
       refine .reg (eC 2 (keep (hT 3 [(oC [zI z29,zI z30,zI z31,Sl.v 1 s15]),oC q6]) (bb (an (Nat.blt k2 (Sl.n s12)) true) (some (Cv (k2*1) (Sl.cs s12))) none)) (AX h17) (eD (keep (hT 3 [(oC [zI z29,zI z30,zI z31,Sl.v 1 s15]),oC q6]) (AL (Sl.cs s12) (k2*1))) (AZ h18) (eC 2 (keep (hT 3 [(oC [zI z29,zI z30,zI z31,Sl.v 1 s15]),oC q6]) (bb (an (Nat.blt k2 (Sl.n s13)) true) (some (Cv (k2*1) (Sl.cs s13))) none)) (AX h19) (eD (keep (hT 3 [(oC [zI z29,zI z30,zI z31,Sl.v 1 s15]),oC q6]) (AL (Sl.cs s13) (k2*1))) (AZ h20) (eE))))) ?_
       refine .ghs (fr 157 [(3,pt 1 0),(4,Sl.v 1 s12),(5,zI z23),(6,sc 2 0 1 n4 c5),(9,Sl.v 1 s13),(10,zI z24),(11,(zI (Int.ofNat k2))),(29,Sl.v 1 s14),(30,zI z25),(31,zI z26),(43,zI z27),(44,(zI (Int.ofNat k2))),(55,(zB (nt (Bd x1 x2))))]) (hT 3 [(oC [zI z29,zI z30,zI z31,Sl.v 1 s15]),oC q6]) (.k [2] [false] [.tmp 3 false,.tmp 6 false] [3,4,5,6,9,10,11,29,30,31,43,44,55] ⟨Bq h13,trivial⟩) ?_
       replace hm:=Ag hm;rcases hm with⟨h21,hm⟩ | ⟨h21,hm⟩
       ·refine BI (nt (Bd x1 x2)) h21 ?_
        refine .rK ?_
        exact⟨(s12,z23,n4,c5,s13,(jF .i64 z24 (QW .i64 (1:Int) k2)),s14,z25,z26,z27,(Int.ofNat k2),z29,z30,z31,s15,q6),hm,(.k [2] [false] [.tmp 3 false,.tmp 6 false] [3,4,5,6,9,10,29,30,31,43,44] ⟨Bq h13,trivial⟩)⟩
       ·refine BO (nt (Bd x1 x2)) h21 ?_
        refine .skip ?_
        exact⟨(s12,z23,n4,c5,s13,z24,s14,z25,z26,z27,(Int.ofNat k2),z29,z30,z31,s15,q6),hm,(.k [2] [false] [.tmp 3 false,.tmp 6 false] [3,4,5,6,9,10,29,30,31,43,44] ⟨Bq h13,trivial⟩)⟩
     ·refine BO (AY z28 z27) h14 ?_
      refine .exit ?_
      exact⟨(s12,z23,n4,c5,z24,s14,z25,z26,z29,z30,z31,s15,q6),hm,(.k [2] [false] [.tmp 3 false,.tmp 6 false] [3,4,5,6,10,29,30,31] ⟨Bq h13,trivial⟩)⟩
  ·refine BO (AY z6 z5) h1 ?_
   refine .exit ?_
   exact⟨(s2,z4,n1,c1,z7,z8,z9,s4,q2),hm,(.k [2] [false] [.tmp 3 false,.tmp 6 false] [3,4,5,6] ⟨Bq h0,trivial⟩)⟩
end
end Go.BkSM
