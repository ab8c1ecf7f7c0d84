/- Words for the models of TopAlike. -/
import Derived.Test.YtflonlkiajhhjaaBkCellsx
import Derived.Test.YtflonlkiajhhjaaTpACode
import Derived.KernelRfl

set_option maxRecDepth 100000
namespace Go.TpAM
open Go.Sp Go.TpA
noncomputable section
def Sq:List Value→Option Value:=Go.BkQ.cellsM
def Sz:List Value→Option Value:=fun _=>none
def X3:List Value→Option Value:=fun _=>none
end
end Go.TpAM
set_option maxRecDepth 100000
set_option maxHeartbeats 20000000
set_option linter.unusedVariables false
namespace Go.TpAM
open Go.Sp Go.TpA
noncomputable section
def tabs:List (List Value):=[]
theorem Bp {tt:TT} {n0:Nat} {rs:List ResultVar} {v:Value} {F:Fr} {H:Aa} (r:Value) (hm:some r=some v) (h:DV tt F H rs=some r:=by kernel_rfl) (hc:Fe r=true:=by kernel_rfl):Fin tt n0 rs v .ret F H:=kI r h hc hm
theorem Hw {α:Type} {k:IntKind} {o:Option Value} {s:Int→Option α} {w:α} (h:oo o none (fun v=>oo (Bi k v) none s)=some w):∃ x,o=some (.int k x)∧s x=some w:=by
 obtain⟨v,h1,h2⟩:=Ab h
 obtain⟨x,hx,h3⟩:=Ab h2
 obtain rfl:=Eh hx
 exact⟨x,h1,h3⟩
theorem O4 {α:Type} {k:Nat} {o:Option Value} {s:Sl→Option α} {w:α} (h:oo o none (fun v=>oo (Bj k v) none s)=some w):∃ x,o=some (Sl.v k x)∧s x=some w:=by
 obtain⟨v,h1,h2⟩:=Ab h
 obtain⟨x,hx,h3⟩:=Ab h2
 obtain rfl:=Qh hx
 exact⟨x,h1,h3⟩
theorem WX {α:Type} {o:Option Value} {s:Bool→Option α} {w:α} (h:oo o none (fun v=>oo (Bf v) none s)=some w):∃ x,o=some (.bool x)∧s x=some w:=by
 obtain⟨v,h1,h2⟩:=Ab h
 obtain⟨x,hx,h3⟩:=Ab h2
 obtain rfl:=BV hx
 exact⟨x,h1,h3⟩
theorem Cs {tt:TT} {call:A8} {n0:Nat} {c:Operand} {a b:RC} {F:Fr} {H:Aa} {Q:Ex→Fr→Aa→Prop} (e:Bool) (hb:e=true) (h:BN tt call n0 a F H Q) (he:Bf (F.eval c)=some e:=by kernel_rfl):BN tt call n0 (.cond c a b) F H Q:=.ifT e he hb h
theorem CY {tt:TT} {call:A8} {n0:Nat} {c:Operand} {a b:RC} {F:Fr} {H:Aa} {Q:Ex→Fr→Aa→Prop} (e:Bool) (hb:e=false) (h:BN tt call n0 b F H Q) (he:Bf (F.eval c)=some e:=by kernel_rfl):BN tt call n0 (.cond c a b) F H Q:=.ifF e he hb h
theorem BB {a b:Bool} (h:b=true) (e:a=b:=by kernel_rfl):a=true:=e.trans h
abbrev OV:=Option Value
abbrev LV:=List Value
def QG:List Nat:=[3,6,7,8,9,20,21,22,24,37,42,43,45,47,49,50,62,63,64,65,66,67,69,70,72,73,95,96,97]
def isP:FuncId→Bool:=fun g=>ED g QG
def inl (pu:Af):A8:=fun g args H=>bb (Nat.beq g 85) (Hr tabs 1 (pu 85) args H) (bb (Nat.beq g 19) (Hr tabs 1 (pu 19) args H) (bb (Nat.beq g 5) (Fp tabs [[some 1]] 1 [] [] (pu 10050) args H) (bb (Nat.beq g 23) (Fp tabs [[none],[none,none,none,none]] 2 [.tmp 0 false] [false] (pu 10230) args H) (bb (Nat.beq g 51) (Fp tabs [[none],[none,none,none,none],[none]] 3 [.tmp 0 false] [false] (pu 10510) args H) (bb (Nat.beq g 74) (Fp tabs [[none],[none,none,none,none],[none]] 3 [.tmp 0 false] [false] (pu 10740) args H) (bb (Nat.beq g 44) (Fp tabs [[none],[none]] 2 [.tmp 0 false] [false] (pu 10440) args H) (bb (Nat.beq g 68) (Fp tabs [[none],[none],[none],[none],[none]] 5 [.tmp 0 false] [false] (pu 10680) args H) (bb (Nat.beq g 86) (Fp tabs [[none],[none],[none],[none]] 4 [.tmp 0 false] [false] (pu 10860) args H) (bb (Nat.beq g 46) (Fp tabs [[none],[none]] 2 [.tmp 0 false] [false] (pu 10460) args H) (bb (Nat.beq g 48) (Fp tabs [[some 1],[none]] 2 [] [] (pu 10480) args H) (bb (Nat.beq g 71) (Fp tabs [[some 1],[none]] 2 [] [] (pu 10710) args H) (bb (Nat.beq g 102) (Fp tabs [[none],[none]] 2 [.tmp 0 true,.tmp 1 false,.cell 0 1 false,.cell 0 2 false] [true,false,false,false] (pu 11020) args H) (none)))))))))))))
def AcB:List UInt8:=[0,1,2,2,3,3,3,3,4,4,4,4,4,4,4,4,5,5,5,5,5,5,5,5,5,5,5,5,5,5,5,5,6,6,6,6,6,6,6,6,6,6,6,6,6,6,6,6,6,6,6,6,6,6,6,6,6,6,6,6,6,6,6,6,7,7,7,7,7,7,7,7,7,7,7,7,7,7,7,7,7,7,7,7,7,7,7,7,7,7,7,7,7,7,7,7,7,7,7,7,7,7,7,7,7,7,7,7,7,7,7,7,7,7,7,7,7,7,7,7,7,7,7,7,7,7,7,7,8,8,8,8,8,8,8,8,8,8,8,8,8,8,8,8,8,8,8,8,8,8,8,8,8,8,8,8,8,8,8,8,8,8,8,8,8,8,8,8,8,8,8,8,8,8,8,8,8,8,8,8,8,8,8,8,8,8,8,8,8,8,8,8,8,8,8,8,8,8,8,8,8,8,8,8,8,8,8,8,8,8,8,8,8,8,8,8,8,8,8,8,8,8,8,8,8,8,8,8,8,8,8,8,8,8,8,8,8,8,8,8,8,8,8,8,8,8,8,8,8,8,8,8,8,8,8,8]
end
end Go.TpAM
set_option maxRecDepth 100000
set_option maxHeartbeats 20000000
set_option linter.unusedVariables false
namespace Go.TpAM
open Go.Sp Go.TpA
noncomputable section
def X4 (pu:Af) (n:Nat):OV:=
 (oo (pu 9 []) none fun v0=>(oo (Bf v0) none fun b0=>(some (.bool b0))))
def X5 (pu:Af) (n:Nat) (ih0:Int→Int→Sl→Int→Int→OV) (z0 z1:Int) (s0:Sl) (z2 z3:Int) (b0:Bool):OV:=
 (bb b0 (some (.bool false)) (ih0 z0 z1 s0 z2 (Aj .i64 (Int.add z3 (1:Int)))))
def tF (pu:Af) (n:Nat) (ih0:Int→Int→Sl→Int→Int→OV) (z0 z1:Int) (s0:Sl) (z2 z3:Int):OV:=
 (bb (AY z3 z2) (oo (EA z3) none fun k1=>(bb (an (Nat.blt k1 (Sl.n s0)) true) (oo (AL (Sl.cs s0) (k1*1)) none fun v0=>(oo (Bj 1 v0) none fun s1=>(bb (nt (Bd (Int.ofNat (Sl.n s1)) (4:Int))) (some (.bool false)) (oo (pu 8 [Sl.v 1 s1]) none fun v1=>(oo (CQ v1) none fun l0=>(ll l0 none fun v2 l0=>(ll l0 none fun v3 l0=>(ll l0 (oo (Bi .i64 v2) none fun x0=>(oo (Bi .i64 v3) none fun x1=>(bb (nt (Bd x0 z0)) (X5 pu n ih0 z0 z1 s0 z2 (Int.ofNat k1) true) (X5 pu n ih0 z0 z1 s0 z2 (Int.ofNat k1) (nt (Bd x1 z1)))))) fun _ _=>none)))))))) none)) (X4 pu n))
def X6 (pu:Af) (n w:Nat):Int→Int→Sl→Int→Int→OV:=
 Nat.rec (motive:=fun _=>Int→Int→Sl→Int→Int→OV) (fun _ _ _ _ _=>none) (fun _ ih0=>tF pu n ih0) w
def X7 (pu:Af) (n:Nat) (s0:Sl) (z0 z1:Int) (b0:Bool):OV:=
 (bb b0 (some (.bool false)) (X6 pu n n z0 z1 s0 (Int.ofNat (Sl.n s0)) (0:Int)))
def Uw (pu:Af) (n:Nat) (s0:Sl) (z0:Int) (s1:Sl) (b0:Bool):OV:=
 (bb b0 (some (.bool false)) (oo (pu 8 [Sl.v 1 s0]) none fun v0=>(oo (CQ v0) none fun l0=>(ll l0 none fun v1 l0=>(ll l0 none fun v2 l0=>(ll l0 (oo (Bi .i64 v1) none fun x0=>(oo (Bi .i64 v2) none fun x1=>(bb (Bd z0 (0:Int)) (X7 pu n s1 x0 x1 (nt (Bd x1 (2:Int)))) (X7 pu n s1 x0 x1 false)))) fun _ _=>none))))))
def V5 (pu:Af) (n n98 UA:Nat) (z0 z1 z2 z3:Int) (s0:Sl) (q0:LV):OV:=
 (bb (an (Nat.ble (0+n98*1) (len q0)) (Au Ah (Aq (n98*1) (Am 0 q0)))) (oo (pu 6 [(.agg ⟨[.int .i64 z1,.int .i64 z2,.int .i64 z3,Sl.v 1 s0]⟩),(Sl.v 1 (Sl.mk n98 0 (Aq (n98*1) (Am 0 q0))))]) none fun v0=>(oo (CQ v0) none fun l0=>(ll l0 none fun v1 l0=>(ll l0 none fun v2 l0=>(ll l0 (oo (Bj 1 v1) none fun s1=>(oo (Bi .i64 v2) none fun x0=>(oo (pu 7 [(.agg ⟨[.int .i64 z1,.int .i64 z2,.int .i64 z3,Sl.v 1 s0]⟩),(Sl.v 1 (Sl.mk n98 0 (Aq (n98*1) (Am 0 q0))))]) none fun v3=>(oo (CQ v3) none fun l1=>(ll l1 none fun v4 l1=>(ll l1 none fun v5 l1=>(ll l1 (oo (Bj 1 v4) none fun s2=>(oo (Bi .i64 v5) none fun x1=>(bb (nt (Bd x0 (0:Int))) (Uw pu n (Sl.mk n98 0 (Aq (n98*1) (Am 0 q0))) z0 s1 true) (bb (nt (Bd x1 (0:Int))) (Uw pu n (Sl.mk n98 0 (Aq (n98*1) (Am 0 q0))) z0 s1 true) (bb (Bd (Int.ofNat (Sl.n s1)) (0:Int)) (Uw pu n (Sl.mk n98 0 (Aq (n98*1) (Am 0 q0))) z0 s1 true) (Uw pu n (Sl.mk n98 0 (Aq (n98*1) (Am 0 q0))) z0 s1 (nt (Bd (Aj .i64 (Int.mul (Int.ofNat (Sl.n s1)) (Int.ofNat (Sl.n s2)))) (8:Int))))))))) fun _ _=>none))))))) fun _ _=>none))))) none)
def tH (pu:Af) (n:Nat) (ih0:Nat→Nat→Int→Int→Int→Int→Int→Int→Int→Int→Int→Sl→LV→OV) (n0 c0:Nat) (z0 z1 z2 z3 z4 z5 z6 z7 z8:Int) (s0:Sl) (q0:LV):OV:=
 (bb (Au Ah q0) (bb (AY z5 (4:Int)) (oo (EA z5) none fun k1=>(bb (Nat.blt k1 4) (oo (AL ([.int .u8 z1,.int .u8 z2,.int .u8 z3,.int .u8 z4]:LV) (k1*1)) none fun v0=>(oo (Bi .u8 v0) none fun x0=>(bb (GV 1 8 n0 c0 1 q0) (bb (Au Ah (Br (Am 0 q0) [(.int .i64 (Int.tmod (Aj .i64 x0) (4:Int)))])) (ih0 (n0+1) (2*(n0+1)+bb false 1 0) (bb (AY z0 (Int.tmod (Aj .i64 x0) (4:Int))) (Int.tmod (Aj .i64 x0) (4:Int)) z0) z1 z2 z3 z4 (Aj .i64 (Int.add (Int.ofNat k1) (1:Int))) z6 z7 z8 s0 (Br (Am 0 q0) [(.int .i64 (Int.tmod (Aj .i64 x0) (4:Int)))])) none) none))) none)) (V5 pu n n0 c0 z0 z6 z7 z8 s0 q0)) none)
def tJ (pu:Af) (n w:Nat):Nat→Nat→Int→Int→Int→Int→Int→Int→Int→Int→Int→Sl→LV→OV:=
 Nat.rec (motive:=fun _=>Nat→Nat→Int→Int→Int→Int→Int→Int→Int→Int→Int→Sl→LV→OV) (fun _ _ _ _ _ _ _ _ _ _ _ _ _=>none) (fun _ ih0=>tH pu n ih0) w
def m3_ (pu:Af) (n:Nat) (x7 x9 x11 x13:Int):OV:=
 (oo (pu 10050 [(Sl.v 1 (Sl.mk 8 0 (Aq (8*1) (Am 0 ([(.int .i64 (0:Int)),(.int .i64 (1:Int)),(.int .i64 (2:Int)),(.int .i64 (3:Int)),(.int .i64 (4:Int)),(.int .i64 (5:Int)),(.int .i64 (6:Int)),(.int .i64 (7:Int))]:LV)))))]) none fun v27=>(oo (CQ v27) none fun l29=>(ll l29 none fun v31 l29=>(ll l29 (oo (Bj 1 v31) none fun s32=>(tJ pu n n 0 0 (0:Int) x7 x9 x11 x13 (0:Int) (2:Int) (2:Int) (4:Int) s32 ([]:LV))) fun _ _=>none))))
def m3 (pu:Af) (n:Nat) (args:LV):OV:=
 (ll args none fun a0 args=>(ll args (oo (Bt a0) none fun l1=>(ll l1 none fun v3 l1=>(ll l1 none fun v4 l1=>(ll l1 none fun v5 l1=>(ll l1 none fun v6 l1=>(ll l1 (oo (Bi .u8 v3) none fun x7=>(oo (Bi .u8 v4) none fun x9=>(oo (Bi .u8 v5) none fun x11=>(oo (Bi .u8 v6) none fun x13=>(m3_ pu n x7 x9 x11 x13))))) fun _ _=>none)))))) fun _ _=>none))
theorem Ags (pu:Af) (n:Nat) {v:Value} (hm:X4 pu n=some v):BN tt (Bb tabs isP pu (inl pu)) 0 Yh (fr 103 []) (hp 0 []) (Fin tt 0 [.tmp 2] v):=by
 unfold X4 at hm
 refine .then ?_
 replace hm:=WX hm;obtain⟨b0,h0,hm⟩:=hm
 refine .reg (eD ((oo (pu 9 []) none fun v=>some (v,(hp 0 [])))) (AB h0) (eE)) ?_
 refine .ghs (fr 103 [(2,zB b0)]) (hp 0 []) (.k0 [] [] [2]) ?_
 refine .ret ?_
 exact Bp (zB b0) hm
theorem Agt (pu:Af) (n n98 UA:Nat) (z0 z1 z2 z3:Int) (s0:Sl) (q0:LV) {v:Value} (hm:V5 pu n n98 UA z0 z1 z2 z3 s0 q0=some v):BN tt (Bb tabs isP pu (inl pu)) 0 Yi (fr 103 [(3,(pt 0 0)),(4,sc 1 0 1 n98 UA),(5,zI z0)]) (hp 2 [(oC [zI z1,zI z2,zI z3,Sl.v 1 s0]),oC q0]) (Fin tt 0 [.tmp 2] v):=by
 unfold V5 at hm
 refine .then ?_
 replace hm:=Ae hm;obtain⟨h0,hm⟩:=hm
 refine .ghs (Fr.puts (fr 103 [(3,(pt 0 0)),(4,sc 1 0 1 n98 UA),(5,zI z0)]) [(4,(Sl.v 1 (Sl.mk n98 0 (Aq (n98*1) (Am 0 q0)))))]) (hp 2 [(oC [zI z1,zI z2,zI z3,Sl.v 1 s0]),.dead]) (.freezeC 0 4 1 (an (Nat.ble (0+n98*1) (len q0)) (Au Ah (Aq (n98*1) (Am 0 q0)))) (F1:=(Fr.puts (fr 103 [(3,(pt 0 0)),(4,sc 1 0 1 n98 UA),(5,zI z0)]) [(4,(Sl.v 1 (Sl.mk n98 0 (Aq (n98*1) (Am 0 q0)))))])) (H1:=(hp 2 [(oC [zI z1,zI z2,zI z3,Sl.v 1 s0]),.dead])) (by kernel_rfl) (by kernel_rfl) h0 (E9.id _ _)) ?_
 replace hm:=Ab hm;obtain⟨v0,h1,hm⟩:=hm
 replace hm:=Ch hm;obtain⟨l0,rfl,hm⟩:=hm
 replace hm:=Ad hm;obtain⟨v1,l119_0,rfl,hm⟩:=hm
 replace hm:=Ad hm;obtain⟨v2,l119_1,rfl,hm⟩:=hm
 replace hm:=AC hm;obtain⟨rfl,hm⟩:=hm
 replace hm:=Al hm;obtain⟨s1,rfl,hm⟩:=hm
 replace hm:=Ai hm;obtain⟨x0,rfl,hm⟩:=hm
 refine .reg (eC 2 ((oo (pu 6 [(.agg ⟨[zI z1,zI z2,zI z3,Sl.v 1 s0]⟩),(Sl.v 1 (Sl.mk n98 0 (Aq (n98*1) (Am 0 q0))))]) none fun v=>some (v,(hp 2 [(oC [zI z1,zI z2,zI z3,Sl.v 1 s0]),.dead])))) (AB h1) (eE)) ?_
 refine .ghs (fr 103 [(3,(pt 0 0)),(4,(Sl.v 1 (Sl.mk n98 0 (Aq (n98*1) (Am 0 q0))))),(5,zI z0),(8,Sl.v 1 s1),(9,zI x0)]) (hp 1 [(oC [zI z1,zI z2,zI z3,Sl.v 1 s0])]) (.k0 [] [.tmp 3 false] [3,4,5,8,9]) ?_
 refine .then ?_
 replace hm:=Ab hm;obtain⟨v3,h2,hm⟩:=hm
 replace hm:=Ch hm;obtain⟨l1,rfl,hm⟩:=hm
 replace hm:=Ad hm;obtain⟨v4,l139_0,rfl,hm⟩:=hm
 replace hm:=Ad hm;obtain⟨v5,l139_1,rfl,hm⟩:=hm
 replace hm:=AC hm;obtain⟨rfl,hm⟩:=hm
 replace hm:=Al hm;obtain⟨s2,rfl,hm⟩:=hm
 replace hm:=Ai hm;obtain⟨x1,rfl,hm⟩:=hm
 refine .reg (eC 2 ((oo (pu 7 [(.agg ⟨[zI z1,zI z2,zI z3,Sl.v 1 s0]⟩),(Sl.v 1 (Sl.mk n98 0 (Aq (n98*1) (Am 0 q0))))]) none fun v=>some (v,(hp 1 [(oC [zI z1,zI z2,zI z3,Sl.v 1 s0])])))) (AB h2) (eE)) ?_
 refine .ghs (fr 103 [(4,(Sl.v 1 (Sl.mk n98 0 (Aq (n98*1) (Am 0 q0))))),(5,zI z0),(8,Sl.v 1 s1),(9,zI x0),(10,Sl.v 1 s2),(11,zI x1)]) (hp 0 []) (.k0 [] [] [4,5,8,9,10,11]) ?_
 refine .then (.join (v:=v) (fun y:Sl×Int×Sl×Bool=>((fr 103 [(4,(Sl.v 1 y.1)),(5,(zI y.2.1)),(8,(Sl.v 1 y.2.2.1)),(67,(zB y.2.2.2))]),(hp 0 []))) (fun y=>Uw pu n y.1 y.2.1 y.2.2.1 y.2.2.2) ?_ ?_)
 ·rintro⟨s3,z4,s4,b0⟩ hm
  unfold Uw at hm
  replace hm:=Ag hm;rcases hm with⟨h3,hm⟩ | ⟨h3,hm⟩
  ·refine .ifT b0 (by kernel_rfl) h3 ?_
   refine .then (.rK (.ghs (fr 103 [(2,zB false)]) (hp 0 []) (.k0 [] [] [2]) ?_))
   refine .ret ?_
   exact Bp (zB false) hm
  ·refine .ifF b0 (by kernel_rfl) h3 ?_
   refine .skip (.ghs (fr 103 [(4,Sl.v 1 s3),(5,zI z4),(8,Sl.v 1 s4)]) (hp 0 []) (.k0 [] [] [4,5,8]) ?_)
   refine .then ?_
   replace hm:=Ab hm;obtain⟨v6,h4,hm⟩:=hm
   replace hm:=Ch hm;obtain⟨l2,rfl,hm⟩:=hm
   replace hm:=Ad hm;obtain⟨v7,l176_0,rfl,hm⟩:=hm
   replace hm:=Ad hm;obtain⟨v8,l176_1,rfl,hm⟩:=hm
   replace hm:=AC hm;obtain⟨rfl,hm⟩:=hm
   replace hm:=Ai hm;obtain⟨x2,rfl,hm⟩:=hm
   replace hm:=Ai hm;obtain⟨x3,rfl,hm⟩:=hm
   refine .reg (eC 1 ((oo (pu 8 [Sl.v 1 s3]) none fun v=>some (v,(hp 0 [])))) (AB h4) (eE)) ?_
   refine .ghs (fr 103 [(5,zI z4),(8,Sl.v 1 s4),(12,zI x2),(13,zI x3)]) (hp 0 []) (.k0 [] [] [5,8,12,13]) ?_
   refine .then (.join (v:=v) (fun y:Sl×Int×Int×Bool=>((fr 103 [(8,(Sl.v 1 y.1)),(12,(zI y.2.1)),(13,(zI y.2.2.1)),(78,(zB y.2.2.2))]),(hp 0 []))) (fun y=>X7 pu n y.1 y.2.1 y.2.2.1 y.2.2.2) ?_ ?_)
   ·rintro⟨s5,z5,z6,b1⟩ hm
    unfold X7 at hm
    replace hm:=Ag hm;rcases hm with⟨h5,hm⟩ | ⟨h5,hm⟩
    ·refine .ifT b1 (by kernel_rfl) h5 ?_
     refine .then (.rK (.ghs (fr 103 [(2,zB false)]) (hp 0 []) (.k0 [] [] [2]) ?_))
     refine .ret ?_
     exact Bp (zB false) hm
    ·refine .ifF b1 (by kernel_rfl) h5 ?_
     refine .skip (.ghs (fr 103 [(8,Sl.v 1 s5),(12,zI z5),(13,zI z6)]) (hp 0 []) (.k0 [] [] [8,12,13]) ?_)
     refine .join (v:=v) (fun y:Unit=>((fr 103 []),(hp 0 []))) (fun y=>X4 pu n) ?_ ?_
     ·rintro _ hm
      exact Ags pu n hm
     ·refine .then (.rK (.ghs (fr 103 [(12,zI z5),(13,zI z6),(79,Sl.v 1 s5),(80,(zI (Int.ofNat (Sl.n s5)))),(81,(zI (0:Int)))]) (hp 0 []) (.k0 [] [] [12,13,79,80,81]) ?_))
      refine .block (.loopM (v:=v) (fun y:Int×Int×Sl×Int×Int=>((fr 103 [(12,(zI y.1)),(13,(zI y.2.1)),(79,(Sl.v 1 y.2.2.1)),(80,(zI y.2.2.2.1)),(81,(zI y.2.2.2.2))]),(hp 0 []))) (fun w y=>X6 pu n w y.1 y.2.1 y.2.2.1 y.2.2.2.1 y.2.2.2.2) n ⟨(z5,z6,s5,(Int.ofNat (Sl.n s5)),(0:Int)),hm,(.k0 [] [] [12,13,79,80,81])⟩ (fun _=>rfl) ?_)
      rintro w0 ⟨z7,z8,s6,z9,z10⟩ hm
      replace hm:tF pu n (X6 pu n w0) z7 z8 s6 z9 z10=some v:=hm
      unfold tF at hm
      refine .then (.rK (.ghs (fr 103 [(12,zI z7),(13,zI z8),(79,Sl.v 1 s6),(80,zI z9),(81,zI z10),(82,(zB (AY z10 z9)))]) (hp 0 []) (.k0 [] [] [12,13,79,80,81,82]) ?_))
      refine .then ?_
      replace hm:=Ag hm;rcases hm with⟨h6,hm⟩ | ⟨h6,hm⟩
      ·refine Cs (AY z10 z9) h6 ?_
       refine .skip (.ghs (fr 103 [(12,zI z7),(13,zI z8),(79,Sl.v 1 s6),(80,zI z9),(81,zI z10)]) (hp 0 []) (.k0 [] [] [12,13,79,80,81]) ?_)
       refine .then (.block (.then ?_))
       replace hm:=Ab hm;obtain⟨k1,h7,hm⟩:=hm
       obtain rfl:=AR h7
       replace hm:=Ae hm;obtain⟨h8,hm⟩:=hm
       replace hm:=O4 hm;obtain⟨s7,h9,hm⟩:=hm
       refine .reg (eD (keep (hp 0 []) (bb (an (Nat.blt k1 (Sl.n s6)) true) (some (Cv (k1*1) (Sl.cs s6))) none)) (AX h8) (eD (keep (hp 0 []) (AL (Sl.cs s6) (k1*1))) (AZ h9) (eE))) ?_
       refine .ghs (fr 103 [(12,zI z7),(13,zI z8),(15,Sl.v 1 s7),(79,Sl.v 1 s6),(80,zI z9),(81,(zI (Int.ofNat k1)))]) (hp 0 []) (.k0 [] [] [12,13,15,79,80,81]) ?_
       refine .then (.then (.rK (.ghs (fr 103 [(12,zI z7),(13,zI z8),(15,Sl.v 1 s7),(79,Sl.v 1 s6),(80,zI z9),(81,(zI (Int.ofNat k1))),(87,(zB (nt (Bd (Int.ofNat (Sl.n s7)) (4:Int)))))]) (hp 0 []) (.k0 [] [] [12,13,15,79,80,81,87]) ?_)))
       replace hm:=Ag hm;rcases hm with⟨h10,hm⟩ | ⟨h10,hm⟩
       ·refine Cs (nt (Bd (Int.ofNat (Sl.n s7)) (4:Int))) h10 ?_
        refine .then (.rK (.ghs (fr 103 [(2,zB false)]) (hp 0 []) (.k0 [] [] [2]) ?_))
        refine .ret ?_
        exact Bp (zB false) hm
       ·refine CY (nt (Bd (Int.ofNat (Sl.n s7)) (4:Int))) h10 ?_
        refine .skip (.ghs (fr 103 [(12,zI z7),(13,zI z8),(15,Sl.v 1 s7),(79,Sl.v 1 s6),(80,zI z9),(81,(zI (Int.ofNat k1)))]) (hp 0 []) (.k0 [] [] [12,13,15,79,80,81]) ?_)
        refine .then ?_
        replace hm:=Ab hm;obtain⟨v9,h11,hm⟩:=hm
        replace hm:=Ch hm;obtain⟨l3,rfl,hm⟩:=hm
        replace hm:=Ad hm;obtain⟨v10,l342_0,rfl,hm⟩:=hm
        replace hm:=Ad hm;obtain⟨v11,l342_1,rfl,hm⟩:=hm
        replace hm:=AC hm;obtain⟨rfl,hm⟩:=hm
        replace hm:=Ai hm;obtain⟨x4,rfl,hm⟩:=hm
        replace hm:=Ai hm;obtain⟨x5,rfl,hm⟩:=hm
        refine .reg (eC 1 ((oo (pu 8 [Sl.v 1 s7]) none fun v=>some (v,(hp 0 [])))) (AB h11) (eE)) ?_
        refine .ghs (fr 103 [(12,zI z7),(13,zI z8),(16,zI x4),(17,zI x5),(79,Sl.v 1 s6),(80,zI z9),(81,(zI (Int.ofNat k1)))]) (hp 0 []) (.k0 [] [] [12,13,16,17,79,80,81]) ?_
        refine .join (v:=v) (fun y:Int×Int×Sl×Int×Int×Bool=>((fr 103 [(12,(zI y.1)),(13,(zI y.2.1)),(79,(Sl.v 1 y.2.2.1)),(80,(zI y.2.2.2.1)),(81,(zI y.2.2.2.2.1)),(100,(zB y.2.2.2.2.2))]),(hp 0 []))) (fun y=>X5 pu n (X6 pu n w0) y.1 y.2.1 y.2.2.1 y.2.2.2.1 y.2.2.2.2.1 y.2.2.2.2.2) ?_ ?_
        ·rintro⟨z11,z12,s8,z13,z14,b2⟩ hm
         unfold X5 at hm
         replace hm:=Ag hm;rcases hm with⟨h12,hm⟩ | ⟨h12,hm⟩
         ·refine .ifT b2 (by kernel_rfl) h12 ?_
          refine .then (.rK (.ghs (fr 103 [(2,zB false)]) (hp 0 []) (.k0 [] [] [2]) ?_))
          refine .ret ?_
          exact Bp (zB false) hm
         ·refine .ifF b2 (by kernel_rfl) h12 ?_
          refine .skip (.ghs (fr 103 [(12,zI z11),(13,zI z12),(79,Sl.v 1 s8),(80,zI z13),(81,zI z14)]) (hp 0 []) (.k0 [] [] [12,13,79,80,81]) ?_)
          refine .rK ?_
          exact⟨(z11,z12,s8,z13,(Aj .i64 (Int.add z14 (1:Int)))),hm,(.k0 [] [] [12,13,79,80,81])⟩
        ·replace hm:=Ag hm;rcases hm with⟨h13,hm⟩ | ⟨h13,hm⟩
         ·refine .reg (eC 2 (some ((zB (nt (Bd x4 z7))),(hp 0 []))) (show _=some ((zB true),_) from (by rw[show (nt (Bd x4 z7))=true from h13])) (eE)) ?_
          exact⟨(z7,z8,s6,z9,(Int.ofNat k1),true),hm,(.k0 [] [] [12,13,79,80,81,100])⟩
         ·refine .reg (eC 2 (some ((zB (nt (Bd x4 z7))),(hp 0 []))) (show _=some ((zB false),_) from (by rw[show (nt (Bd x4 z7))=false from h13])) (eE)) ?_
          exact⟨(z7,z8,s6,z9,(Int.ofNat k1),(nt (Bd x5 z8))),hm,(.k0 [] [] [12,13,79,80,81,100])⟩
      ·refine CY (AY z10 z9) h6 ?_
       refine .exit ?_
       exact⟨(),hm,(.k0 [] [] [])⟩
   ·replace hm:=Ag hm;rcases hm with⟨h14,hm⟩ | ⟨h14,hm⟩
    ·refine .reg (eC 1 (some ((zB (Bd z4 (0:Int))),(hp 0 []))) (show _=some ((zB true),_) from (by rw[show (Bd z4 (0:Int))=true from h14])) (eE)) ?_
     exact⟨(s4,x2,x3,(nt (Bd x3 (2:Int)))),hm,(.k0 [] [] [8,12,13,78])⟩
    ·refine .reg (eC 1 (some ((zB (Bd z4 (0:Int))),(hp 0 []))) (show _=some ((zB false),_) from (by rw[show (Bd z4 (0:Int))=false from h14])) (eE)) ?_
     exact⟨(s4,x2,x3,false),hm,(.k0 [] [] [8,12,13,78])⟩
 ·replace hm:=Ag hm;rcases hm with⟨h15,hm⟩ | ⟨h15,hm⟩
  ·refine .reg (eC 1 (some ((zB (nt (Bd x0 (0:Int)))),(hp 0 []))) (show _=some ((zB true),_) from (by rw[show (nt (Bd x0 (0:Int)))=true from h15])) (eE)) ?_
   exact⟨((Sl.mk n98 0 (Aq (n98*1) (Am 0 q0))),z0,s1,true),hm,(.k0 [] [] [4,5,8,67])⟩
  ·replace hm:=Ag hm;rcases hm with⟨h16,hm⟩ | ⟨h16,hm⟩
   ·refine .reg (eC 1 (some ((zB (nt (Bd x0 (0:Int)))),(hp 0 []))) (show _=some ((zB false),_) from (by rw[show (nt (Bd x0 (0:Int)))=false from h15])) (eC 2 (some ((zB (nt (Bd x1 (0:Int)))),(hp 0 []))) (show _=some ((zB true),_) from (by rw[show (nt (Bd x1 (0:Int)))=true from h16])) (eE))) ?_
    exact⟨((Sl.mk n98 0 (Aq (n98*1) (Am 0 q0))),z0,s1,true),hm,(.k0 [] [] [4,5,8,67])⟩
   ·replace hm:=Ag hm;rcases hm with⟨h17,hm⟩ | ⟨h17,hm⟩
    ·refine .reg (eC 1 (some ((zB (nt (Bd x0 (0:Int)))),(hp 0 []))) (show _=some ((zB false),_) from (by rw[show (nt (Bd x0 (0:Int)))=false from h15])) (eC 2 (some ((zB (nt (Bd x1 (0:Int)))),(hp 0 []))) (show _=some ((zB false),_) from (by rw[show (nt (Bd x1 (0:Int)))=false from h16])) (eC 4 (some ((zB (Bd (Int.ofNat (Sl.n s1)) (0:Int))),(hp 0 []))) (show _=some ((zB true),_) from (by rw[show (Bd (Int.ofNat (Sl.n s1)) (0:Int))=true from h17])) (eE)))) ?_
     exact⟨((Sl.mk n98 0 (Aq (n98*1) (Am 0 q0))),z0,s1,true),hm,(.k0 [] [] [4,5,8,67])⟩
    ·refine .reg (eC 1 (some ((zB (nt (Bd x0 (0:Int)))),(hp 0 []))) (show _=some ((zB false),_) from (by rw[show (nt (Bd x0 (0:Int)))=false from h15])) (eC 2 (some ((zB (nt (Bd x1 (0:Int)))),(hp 0 []))) (show _=some ((zB false),_) from (by rw[show (nt (Bd x1 (0:Int)))=false from h16])) (eC 4 (some ((zB (Bd (Int.ofNat (Sl.n s1)) (0:Int))),(hp 0 []))) (show _=some ((zB false),_) from (by rw[show (Bd (Int.ofNat (Sl.n s1)) (0:Int))=false from h17])) (eE)))) ?_
     exact⟨((Sl.mk n98 0 (Aq (n98*1) (Am 0 q0))),z0,s1,(nt (Bd (Aj .i64 (Int.mul (Int.ofNat (Sl.n s1)) (Int.ofNat (Sl.n s2)))) (8:Int)))),hm,(.k0 [] [] [4,5,8,67])⟩
theorem r3 {call:A8} (pu:Af) (n:Nat) (hcall:call=Bb tabs isP pu (inl pu)) {args:LV} {v:Value} (hm:m3 pu n args=some v) (_:∀ x∈args,closed2 x=true):args.length≤103∧BN tt call 0 R7 (Fr.made 103 args) (Ao tabs) (Fin tt 0 [.tmp 2] v):=by
 subst hcall
 unfold m3 at hm
 replace hm:=Ad hm;obtain⟨a0,args_0,rfl,hm⟩:=hm
 replace hm:=AC hm;obtain⟨rfl,hm⟩:=hm
 replace hm:=BG hm;obtain⟨l1,rfl,hm⟩:=hm
 replace hm:=Ad hm;obtain⟨v3,l1_0,rfl,hm⟩:=hm
 replace hm:=Ad hm;obtain⟨v4,l1_1,rfl,hm⟩:=hm
 replace hm:=Ad hm;obtain⟨v5,l1_2,rfl,hm⟩:=hm
 replace hm:=Ad hm;obtain⟨v6,l1_3,rfl,hm⟩:=hm
 replace hm:=AC hm;obtain⟨rfl,hm⟩:=hm
 replace hm:=Ai hm;obtain⟨x7,rfl,hm⟩:=hm
 replace hm:=Ai hm;obtain⟨x9,rfl,hm⟩:=hm
 replace hm:=Ai hm;obtain⟨x11,rfl,hm⟩:=hm
 replace hm:=Ai hm;obtain⟨x13,rfl,hm⟩:=hm
 unfold m3_ at hm
 refine⟨by simp,?_⟩
 refine .same (F':=(fr 103 [(0,(.agg ⟨[(zY x7),(zY x9),(zY x11),(zY x13)]⟩))])) (H':=(hp 0 [])) (by kernel_rfl) (by kernel_rfl) ?_
 refine .then (.rK (.ghs (fr 103 [(1,(pt 0 0))]) (hp 1 [(oC [(zY x7),(zY x9),(zY x11),(zY x13)])]) (.k0 [] [.tmp 1 false] [1]) ?_))
 refine .then ?_
 replace hm:=Ab hm;obtain⟨v27,h28,hm⟩:=hm
 replace hm:=Ch hm;obtain⟨l29,rfl,hm⟩:=hm
 replace hm:=Ad hm;obtain⟨v31,l29_0,rfl,hm⟩:=hm
 replace hm:=AC hm;obtain⟨rfl,hm⟩:=hm
 replace hm:=Al hm;obtain⟨s32,rfl,hm⟩:=hm
 refine .reg (eC 1 (Fp tabs [[some 1]] 1 [] [] (pu 10050) [sc 1 0 1 8 17] (hp 2 [(oC [(zY x7),(zY x9),(zY x11),(zY x13)]),(oC [(zI (0:Int)),(zI (1:Int)),(zI (2:Int)),(zI (3:Int)),(zI (4:Int)),(zI (5:Int)),(zI (6:Int)),(zI (7:Int))])])) (FM (as:=[(Sl.v 1 (Sl.mk 8 0 (Aq (8*1) (Am 0 ([(zI (0:Int)),(zI (1:Int)),(zI (2:Int)),(zI (3:Int)),(zI (4:Int)),(zI (5:Int)),(zI (6:Int)),(zI (7:Int))]:LV)))))]) (H1:=(hp 2 [(oC [(zY x7),(zY x9),(zY x11),(zY x13)]),.dead])) (BO (Eb (sU (show ER 1 (sc 1 0 1 8 17) (hp 2 [(oC [(zY x7),(zY x9),(zY x11),(zY x13)]),(oC [(zI (0:Int)),(zI (1:Int)),(zI (2:Int)),(zI (3:Int)),(zI (4:Int)),(zI (5:Int)),(zI (6:Int)),(zI (7:Int))])])=some ((Sl.v 1 (Sl.mk 8 0 (Aq (8*1) (Am 0 ([(zI (0:Int)),(zI (1:Int)),(zI (2:Int)),(zI (3:Int)),(zI (4:Int)),(zI (5:Int)),(zI (6:Int)),(zI (7:Int))]:LV))))),(hp 2 [(oC [(zY x7),(zY x9),(zY x11),(zY x13)]),.dead])) from KH 1 0 1 8 17 ([(zI (0:Int)),(zI (1:Int)),(zI (2:Int)),(zI (3:Int)),(zI (4:Int)),(zI (5:Int)),(zI (6:Int)),(zI (7:Int))]:LV) [] (by kernel_rfl) (by kernel_rfl) (by kernel_rfl)))) FX) (FL (H2:=(hp 2 [(oC [(zY x7),(zY x9),(zY x11),(zY x13)]),.dead])) (v:=(Sl.v 1 s32)) (v':=(Sl.v 1 s32)) [] [] [] [(Sl.v 1 (Sl.mk 8 0 (Aq (8*1) (Am 0 ([(zI (0:Int)),(zI (1:Int)),(zI (2:Int)),(zI (3:Int)),(zI (4:Int)),(zI (5:Int)),(zI (6:Int)),(zI (7:Int))]:LV)))))] [] [] [none,none] [] [] (by kernel_rfl) BI (Eq.trans (by kernel_rfl) h28) BI BI)) (eE)) ?_
 refine .ghs (fr 103 [(1,(pt 0 0)),(3,pt 1 0)]) (hp 2 [(oC [(zY x7),(zY x9),(zY x11),(zY x13)]),(oC [(zI (2:Int)),(zI (2:Int)),(zI (4:Int)),Sl.v 1 s32])]) (.k0 [] [.tmp 1 false,.tmp 3 false] [1,3]) ?_
 refine .then (.rK (.ghs (fr 103 [(1,(pt 0 0)),(3,pt 1 0),(4,(.slice none 0 0))]) (hp 2 [(oC [(zY x7),(zY x9),(zY x11),(zY x13)]),(oC [(zI (2:Int)),(zI (2:Int)),(zI (4:Int)),Sl.v 1 s32])]) (.k0 [] [.tmp 1 false,.tmp 3 false] [1,3,4]) ?_))
 refine .then (.rK (.ghs (fr 103 [(1,(pt 0 0)),(3,pt 1 0),(4,(.slice none 0 0)),(5,(zI (0:Int)))]) (hp 2 [(oC [(zY x7),(zY x9),(zY x11),(zY x13)]),(oC [(zI (2:Int)),(zI (2:Int)),(zI (4:Int)),Sl.v 1 s32])]) (.k0 [] [.tmp 1 false,.tmp 3 false] [1,3,4,5]) ?_))
 refine .join (v:=v) (fun y:Nat×Nat×Int×Int×Int×Int×Sl×LV=>((fr 103 [(3,(pt 0 0)),(4,(sc 1 0 1 y.1 y.2.1)),(5,(zI y.2.2.1))]),(hp 2 [(oC [(zI y.2.2.2.1),(zI y.2.2.2.2.1),(zI y.2.2.2.2.2.1),(Sl.v 1 y.2.2.2.2.2.2.1)]),(oC y.2.2.2.2.2.2.2)]))) (fun y=>V5 pu n y.1 y.2.1 y.2.2.1 y.2.2.2.1 y.2.2.2.2.1 y.2.2.2.2.2.1 y.2.2.2.2.2.2.1 y.2.2.2.2.2.2.2) ?_ ?_
 ·rintro⟨n98,UA,z0,z1,z2,z3,s0,q0⟩ hm
  exact Agt pu n n98 UA z0 z1 z2 z3 s0 q0 hm
 ·refine .then (.rK (.ghs (fr 103 [(3,(pt 0 0)),(4,(.slice none 0 0)),(5,(zI (0:Int))),(21,(.agg ⟨[(zY x7),(zY x9),(zY x11),(zY x13)]⟩)),(22,(zI (0:Int)))]) (hp 1 [(oC [(zI (2:Int)),(zI (2:Int)),(zI (4:Int)),Sl.v 1 s32])]) (.k0 [] [.tmp 3 false] [3,4,5,21,22]) ?_))
  refine .block (.loopM (v:=v) (fun y:Nat×Nat×Int×Int×Int×Int×Int×Int×Int×Int×Int×Sl×LV=>((fr 103 [(3,(pt 0 0)),(4,(sc 1 0 1 y.1 y.2.1)),(5,(zI y.2.2.1)),(21,(.agg ⟨[(zY y.2.2.2.1),(zY y.2.2.2.2.1),(zY y.2.2.2.2.2.1),(zY y.2.2.2.2.2.2.1)]⟩)),(22,(zI y.2.2.2.2.2.2.2.1))]),(hp 2 [(oC [(zI y.2.2.2.2.2.2.2.2.1),(zI y.2.2.2.2.2.2.2.2.2.1),(zI y.2.2.2.2.2.2.2.2.2.2.1),(Sl.v 1 y.2.2.2.2.2.2.2.2.2.2.2.1)]),(oC y.2.2.2.2.2.2.2.2.2.2.2.2)]))) (fun w y=>tJ pu n w y.1 y.2.1 y.2.2.1 y.2.2.2.1 y.2.2.2.2.1 y.2.2.2.2.2.1 y.2.2.2.2.2.2.1 y.2.2.2.2.2.2.2.1 y.2.2.2.2.2.2.2.2.1 y.2.2.2.2.2.2.2.2.2.1 y.2.2.2.2.2.2.2.2.2.2.1 y.2.2.2.2.2.2.2.2.2.2.2.1 y.2.2.2.2.2.2.2.2.2.2.2.2) n ⟨(0,0,(0:Int),x7,x9,x11,x13,(0:Int),(2:Int),(2:Int),(4:Int),s32,([]:LV)),hm,(.thaw 4 1 (by kernel_rfl) (.k0 [] [.tmp 3 false,.tmp 4 false] [3,4,5,21,22]))⟩ (fun _=>rfl) ?_)
  rintro w0 ⟨n0,c0,z4,z5,z6,z7,z8,z9,z10,z11,z12,s1,q1⟩ hm
  replace hm:tH pu n (tJ pu n w0) n0 c0 z4 z5 z6 z7 z8 z9 z10 z11 z12 s1 q1=some v:=hm
  unfold tH at hm
  refine .then (.rK ?_)
  replace hm:=Ae hm;obtain⟨h0,hm⟩:=hm
  refine .ghs (fr 103 [(3,(pt 0 0)),(4,sc 1 0 1 n0 c0),(5,zI z4),(21,(.agg ⟨[(zY z5),(zY z6),(zY z7),(zY z8)]⟩)),(22,zI z9),(23,(zB (AY z9 (4:Int))))]) (hp 2 [(oC [zI z10,zI z11,zI z12,Sl.v 1 s1]),oC q1]) (.k [1] [] [.tmp 3 false,.tmp 4 false] [3,4,5,21,22,23] ⟨BB h0,trivial⟩) ?_
  refine .then ?_
  replace hm:=Ag hm;rcases hm with⟨h1,hm⟩ | ⟨h1,hm⟩
  ·refine Cs (AY z9 (4:Int)) h1 ?_
   refine .skip (.ghs (fr 103 [(3,(pt 0 0)),(4,sc 1 0 1 n0 c0),(5,zI z4),(21,(.agg ⟨[(zY z5),(zY z6),(zY z7),(zY z8)]⟩)),(22,zI z9)]) (hp 2 [(oC [zI z10,zI z11,zI z12,Sl.v 1 s1]),oC q1]) (.k [1] [] [.tmp 3 false,.tmp 4 false] [3,4,5,21,22] ⟨BB h0,trivial⟩) ?_)
   refine .then (.block (.then ?_))
   replace hm:=Ab hm;obtain⟨k1,h2,hm⟩:=hm
   obtain rfl:=AR h2
   replace hm:=Ae hm;obtain⟨h3,hm⟩:=hm
   replace hm:=Hw hm;obtain⟨x0,h4,hm⟩:=hm
   refine .reg (eD (keep (hp 2 [(oC [zI z10,zI z11,zI z12,Sl.v 1 s1]),oC q1]) (bb (Nat.blt k1 4) (AL ([(zY z5),(zY z6),(zY z7),(zY z8)]:LV) (k1*1)) none)) (dW h3 h4) (eE)) ?_
   refine .ghs (fr 103 [(3,(pt 0 0)),(4,sc 1 0 1 n0 c0),(5,zI z4),(7,(zY x0)),(21,(.agg ⟨[(zY z5),(zY z6),(zY z7),(zY z8)]⟩)),(22,(zI (Int.ofNat k1)))]) (hp 2 [(oC [zI z10,zI z11,zI z12,Sl.v 1 s1]),oC q1]) (.k [1] [] [.tmp 3 false,.tmp 4 false] [3,4,5,7,21,22] ⟨BB h0,trivial⟩) ?_
   refine .then ?_
   replace hm:=Ae hm;obtain⟨h5,hm⟩:=hm
   refine .reg (eC 5 (Oc 1 8 n0 c0 1 1 q1 [(zI (Int.tmod (Aj .i64 x0) (4:Int)))] [] (hp 3 [(oC [zI z10,zI z11,zI z12,Sl.v 1 s1]),oC q1,(oC [(zI (Int.tmod (Aj .i64 x0) (4:Int)))])])) (I1 h5) (eE)) ?_
   replace hm:=Ae hm;obtain⟨h6,hm⟩:=hm
   refine .ghs (fr 103 [(3,(pt 0 0)),(4,(sc 1 0 1 (n0+1) (d2 (n0+1)))),(5,zI z4),(7,(zY x0)),(21,(.agg ⟨[(zY z5),(zY z6),(zY z7),(zY z8)]⟩)),(22,(zI (Int.ofNat k1)))]) (hp 2 [(oC [zI z10,zI z11,zI z12,Sl.v 1 s1]),(oC (Br (Am 0 q1) [(zI (Int.tmod (Aj .i64 x0) (4:Int)))]))]) (.k [3] [] [.tmp 3 false,.tmp 4 false] [3,4,5,7,21,22] ⟨BB h6,trivial⟩) ?_
   refine .rK (.ghs (fr 103 [(3,(pt 0 0)),(4,(sc 1 0 1 (n0+1) (d2 (n0+1)))),(5,(zI (bb (AY z4 (Int.tmod (Aj .i64 x0) (4:Int))) (Int.tmod (Aj .i64 x0) (4:Int)) z4))),(21,(.agg ⟨[(zY z5),(zY z6),(zY z7),(zY z8)]⟩)),(22,(zI (Int.ofNat k1)))]) (hp 2 [(oC [zI z10,zI z11,zI z12,Sl.v 1 s1]),(oC (Br (Am 0 q1) [(zI (Int.tmod (Aj .i64 x0) (4:Int)))]))]) (.k [1] [] [.tmp 3 false,.tmp 4 false] [3,4,5,21,22] ⟨BB h6,trivial⟩) ?_)
   refine .rK ?_
   exact⟨((n0+1),(d2 (n0+1)),(bb (AY z4 (Int.tmod (Aj .i64 x0) (4:Int))) (Int.tmod (Aj .i64 x0) (4:Int)) z4),z5,z6,z7,z8,(Aj .i64 (Int.add (Int.ofNat k1) (1:Int))),z10,z11,z12,s1,(Br (Am 0 q1) [(zI (Int.tmod (Aj .i64 x0) (4:Int)))])),hm,(.k [1] [] [.tmp 3 false,.tmp 4 false] [3,4,5,21,22] ⟨BB h6,trivial⟩)⟩
  ·refine CY (AY z9 (4:Int)) h1 ?_
   refine .exit ?_
   exact⟨(n0,c0,z4,z10,z11,z12,s1,q1),hm,(.k [1] [] [.tmp 3 false,.tmp 4 false] [3,4,5] ⟨BB h0,trivial⟩)⟩

def m6_ (pu:Af) (n:Nat) (x0 x1 x2:Int) (s0 s1:Sl):OV:=
 (oo (pu 19 [(.agg ⟨[.int .i64 x0,.int .i64 x1,.int .i64 x2,Sl.v 1 s0]⟩),(Sl.v 1 (Sl.mk 1 0 (Aq (1*1) (Am 0 ([Sl.v 1 s1]:LV)))))]) none fun v0=>(oo (CQ v0) none fun l0=>(ll l0 none fun v1 l0=>(ll l0 none fun v2 l0=>(ll l0 (bb (isS (Pv v1)) (oo (Pv v1) none fun p0=>(oo (Bi .i64 v2) none fun x3=>(bb (nt (Bd x3 (0:Int))) (some (.tuple ⟨[(Sl.v 1 (Sl.mk 0 2 [])),.int .i64 x3]⟩)) (oo (pu 20 [(Cv (Db.off p0) (Db.cs p0)),Sl.v 1 s1]) none fun v3=>(oo (Bj 1 v3) none fun s2=>(some (.tuple ⟨[Sl.v 1 s2,(.int .i64 (0:Int))]⟩))))))) (bb (V3 v1) (oo (Bi .i64 v2) none fun x4=>(bb (nt (Bd x4 (0:Int))) (some (.tuple ⟨[(Sl.v 1 (Sl.mk 0 2 [])),.int .i64 x4]⟩)) (oo (pu 20 [(.pointer none),Sl.v 1 s1]) none fun v4=>(oo (Bj 1 v4) none fun s3=>(some (.tuple ⟨[Sl.v 1 s3,(.int .i64 (0:Int))]⟩)))))) none)) fun _ _=>none)))))
def m6 (pu:Af) (n:Nat) (args:LV):OV:=
 (ll args none fun a0 args=>(ll args none fun a1 args=>(ll args (oo (Bt a0) none fun l0=>(ll l0 none fun v0 l0=>(ll l0 none fun v1 l0=>(ll l0 none fun v2 l0=>(ll l0 none fun v3 l0=>(ll l0 (oo (Bi .i64 v0) none fun x0=>(oo (Bi .i64 v1) none fun x1=>(oo (Bi .i64 v2) none fun x2=>(oo (Bj 1 v3) none fun s0=>(oo (Bj 1 a1) none fun s1=>(m6_ pu n x0 x1 x2 s0 s1)))))) fun _ _=>none)))))) fun _ _=>none)))
theorem r6 {call:A8} (pu:Af) (n:Nat) (hcall:call=Bb tabs isP pu (inl pu)) {args:LV} {v:Value} (hm:m6 pu n args=some v) (_:∀ x∈args,closed2 x=true):args.length≤21∧BN tt call 0 R8 (Fr.made 21 args) (Ao tabs) (Fin tt 0 [.tmp 4,.tmp 5] v):=by
 subst hcall
 unfold m6 at hm
 replace hm:=Ad hm;obtain⟨a0,args_0,rfl,hm⟩:=hm
 replace hm:=Ad hm;obtain⟨a1,args_1,rfl,hm⟩:=hm
 replace hm:=AC hm;obtain⟨rfl,hm⟩:=hm
 replace hm:=BG hm;obtain⟨l0,rfl,hm⟩:=hm
 replace hm:=Ad hm;obtain⟨v0,l403_0,rfl,hm⟩:=hm
 replace hm:=Ad hm;obtain⟨v1,l403_1,rfl,hm⟩:=hm
 replace hm:=Ad hm;obtain⟨v2,l403_2,rfl,hm⟩:=hm
 replace hm:=Ad hm;obtain⟨v3,l403_3,rfl,hm⟩:=hm
 replace hm:=AC hm;obtain⟨rfl,hm⟩:=hm
 replace hm:=Ai hm;obtain⟨x0,rfl,hm⟩:=hm
 replace hm:=Ai hm;obtain⟨x1,rfl,hm⟩:=hm
 replace hm:=Ai hm;obtain⟨x2,rfl,hm⟩:=hm
 replace hm:=Al hm;obtain⟨s0,rfl,hm⟩:=hm
 replace hm:=Al hm;obtain⟨s1,rfl,hm⟩:=hm
 unfold m6_ at hm
 refine⟨by simp,?_⟩
 refine .same (F':=(fr 21 [(0,(.agg ⟨[zI x0,zI x1,zI x2,Sl.v 1 s0]⟩)),(1,Sl.v 1 s1)])) (H':=(hp 0 [])) (by kernel_rfl) (by kernel_rfl) ?_
 refine .then (.rK (.ghs (fr 21 [(1,Sl.v 1 s1),(2,(pt 0 0))]) (hp 1 [(oC [zI x0,zI x1,zI x2,Sl.v 1 s0])]) (.k0 [] [.tmp 2 false] [1,2]) ?_))
 refine .then ?_
 replace hm:=Ab hm;obtain⟨v4,h0,hm⟩:=hm
 replace hm:=Ch hm;obtain⟨l1,rfl,hm⟩:=hm
 replace hm:=Ad hm;obtain⟨v5,l432_0,rfl,hm⟩:=hm
 replace hm:=Ad hm;obtain⟨v6,l432_1,rfl,hm⟩:=hm
 replace hm:=AC hm;obtain⟨rfl,hm⟩:=hm
 replace hm:=Ag hm;rcases hm with⟨h1,hm⟩ | ⟨h1,hm⟩
 ·replace hm:=Ab hm;obtain⟨p0,h2,hm⟩:=hm
  obtain rfl:=F7 h2
  replace hm:=Ai hm;obtain⟨x3,rfl,hm⟩:=hm
  refine .reg (eC 3 (Hr tabs 1 (pu 19) [(.agg ⟨[zI x0,zI x1,zI x2,Sl.v 1 s0]⟩),sc 1 0 1 1 3] (hp 2 [(oC [zI x0,zI x1,zI x2,Sl.v 1 s0]),(oC [Sl.v 1 s1])])) (KI (DZ (CV (z:=1) (v:=(.agg ⟨[zI x0,zI x1,zI x2,Sl.v 1 s0]⟩)) (H:=(hp 2 [(oC [zI x0,zI x1,zI x2,Sl.v 1 s0]),(oC [Sl.v 1 s1])])) (by kernel_rfl) (by kernel_rfl) (by kernel_rfl)) (DZ (show ER 1 (sc 1 0 1 1 3) (hp 2 [(oC [zI x0,zI x1,zI x2,Sl.v 1 s0]),(oC [Sl.v 1 s1])])=some ((Sl.v 1 (Sl.mk 1 0 (Aq (1*1) (Am 0 ([Sl.v 1 s1]:LV))))),(hp 2 [(oC [zI x0,zI x1,zI x2,Sl.v 1 s0]),.dead])) from KH 1 0 1 1 3 ([Sl.v 1 s1]:LV) [] (by kernel_rfl) (by kernel_rfl) (by kernel_rfl)) Jt)) (by kernel_rfl) h0) (eE)) ?_
  refine .ghs (fr 21 [(1,Sl.v 1 s1),(6,(Cv (Db.off p0) (Db.cs p0))),(7,zI x3)]) (hp 0 []) (.k0 [] [] [1,6,7]) ?_
  refine .then (.then (.rK (.ghs (fr 21 [(1,Sl.v 1 s1),(6,(Cv (Db.off p0) (Db.cs p0))),(7,zI x3),(16,(zB (nt (Bd x3 (0:Int)))))]) (hp 0 []) (.k0 [] [] [1,6,7,16]) ?_)))
  replace hm:=Ag hm;rcases hm with⟨h3,hm⟩ | ⟨h3,hm⟩
  ·refine Cs (nt (Bd x3 (0:Int))) h3 ?_
   refine .then (.rK (.ghs (fr 21 [(4,(.slice none 0 0)),(5,zI x3)]) (hp 0 []) (.k0 [] [] [4,5]) ?_))
   refine .ghs (Fr.puts (fr 21 [(4,(.slice none 0 0)),(5,zI x3)]) [(4,(Sl.v 1 (Sl.mk 0 2 [])))]) (hp 0 []) (.freeze 0 4 1 (by kernel_rfl) (by kernel_rfl) (E9.id _ _)) ?_
   refine .ret ?_
   exact Bp (.tuple ⟨[(Sl.v 1 (Sl.mk 0 2 [])),zI x3]⟩) hm
  ·refine CY (nt (Bd x3 (0:Int))) h3 ?_
   refine .skip (.ghs (fr 21 [(1,Sl.v 1 s1),(6,(Cv (Db.off p0) (Db.cs p0)))]) (hp 0 []) (.k0 [] [] [1,6]) ?_)
   refine .then ?_
   replace hm:=O4 hm;obtain⟨s2,h4,hm⟩:=hm
   refine .reg (eC 2 ((oo (pu 20 [(Cv (Db.off p0) (Db.cs p0)),Sl.v 1 s1]) none fun v=>some (v,(hp 0 [])))) (AB h4) (eE)) ?_
   refine .ghs (fr 21 [(4,Sl.v 1 s2),(5,(zI (0:Int)))]) (hp 0 []) (.k0 [] [] [4,5]) ?_
   refine .ret ?_
   exact Bp (.tuple ⟨[Sl.v 1 s2,(zI (0:Int))]⟩) hm
 ·replace hm:=Ae hm;obtain⟨h5,hm⟩:=hm
  obtain rfl:=Qp h5
  replace hm:=Ai hm;obtain⟨x4,rfl,hm⟩:=hm
  refine .reg (eC 3 (Hr tabs 1 (pu 19) [(.agg ⟨[zI x0,zI x1,zI x2,Sl.v 1 s0]⟩),sc 1 0 1 1 3] (hp 2 [(oC [zI x0,zI x1,zI x2,Sl.v 1 s0]),(oC [Sl.v 1 s1])])) (KI (DZ (CV (z:=1) (v:=(.agg ⟨[zI x0,zI x1,zI x2,Sl.v 1 s0]⟩)) (H:=(hp 2 [(oC [zI x0,zI x1,zI x2,Sl.v 1 s0]),(oC [Sl.v 1 s1])])) (by kernel_rfl) (by kernel_rfl) (by kernel_rfl)) (DZ (show ER 1 (sc 1 0 1 1 3) (hp 2 [(oC [zI x0,zI x1,zI x2,Sl.v 1 s0]),(oC [Sl.v 1 s1])])=some ((Sl.v 1 (Sl.mk 1 0 (Aq (1*1) (Am 0 ([Sl.v 1 s1]:LV))))),(hp 2 [(oC [zI x0,zI x1,zI x2,Sl.v 1 s0]),.dead])) from KH 1 0 1 1 3 ([Sl.v 1 s1]:LV) [] (by kernel_rfl) (by kernel_rfl) (by kernel_rfl)) Jt)) (by kernel_rfl) h0) (eE)) ?_
  refine .ghs (fr 21 [(1,Sl.v 1 s1),(6,(.pointer none)),(7,zI x4)]) (hp 0 []) (.k0 [] [] [1,6,7]) ?_
  refine .then (.then (.rK (.ghs (fr 21 [(1,Sl.v 1 s1),(6,(.pointer none)),(7,zI x4),(16,(zB (nt (Bd x4 (0:Int)))))]) (hp 0 []) (.k0 [] [] [1,6,7,16]) ?_)))
  replace hm:=Ag hm;rcases hm with⟨h6,hm⟩ | ⟨h6,hm⟩
  ·refine Cs (nt (Bd x4 (0:Int))) h6 ?_
   refine .then (.rK (.ghs (fr 21 [(4,(.slice none 0 0)),(5,zI x4)]) (hp 0 []) (.k0 [] [] [4,5]) ?_))
   refine .ghs (Fr.puts (fr 21 [(4,(.slice none 0 0)),(5,zI x4)]) [(4,(Sl.v 1 (Sl.mk 0 2 [])))]) (hp 0 []) (.freeze 0 4 1 (by kernel_rfl) (by kernel_rfl) (E9.id _ _)) ?_
   refine .ret ?_
   exact Bp (.tuple ⟨[(Sl.v 1 (Sl.mk 0 2 [])),zI x4]⟩) hm
  ·refine CY (nt (Bd x4 (0:Int))) h6 ?_
   refine .skip (.ghs (fr 21 [(1,Sl.v 1 s1),(6,(.pointer none))]) (hp 0 []) (.k0 [] [] [1,6]) ?_)
   refine .then ?_
   replace hm:=O4 hm;obtain⟨s3,h7,hm⟩:=hm
   refine .reg (eC 2 ((oo (pu 20 [(.pointer none),Sl.v 1 s1]) none fun v=>some (v,(hp 0 [])))) (AB h7) (eE)) ?_
   refine .ghs (fr 21 [(4,Sl.v 1 s3),(5,(zI (0:Int)))]) (hp 0 []) (.k0 [] [] [4,5]) ?_
   refine .ret ?_
   exact Bp (.tuple ⟨[Sl.v 1 s3,(zI (0:Int))]⟩) hm
def X9 (pu:Af) (n n0 c0:Nat) (q0:LV):OV:=
 (bb (Au Ah q0) (bb (an (Nat.ble (0+n0*1) (len q0)) (Au Ah (Aq (n0*1) (Am 0 q0)))) (some (.tuple ⟨[(Sl.v 1 (Sl.mk n0 0 (Aq (n0*1) (Am 0 q0)))),(.int .i64 (0:Int))]⟩)) none) none)
def Ya (pu:Af) (n:Nat) (ih0:Sl→Nat→LV→Nat→Nat→Sl→Int→Int→LV→OV) (s0:Sl) (n0:Nat) (q0:LV) (n1 c0:Nat) (s1:Sl) (z0 z1:Int) (q1:LV):OV:=
 (bb (Au Ah q1) (ih0 s0 n0 q0 n1 c0 s1 z0 (Aj .i64 (Int.add z1 (1:Int))) q1) none)
def tK (pu:Af) (n:Nat) (ih0:Sl→Nat→LV→Nat→Nat→Sl→Int→Int→LV→OV) (s0:Sl) (n0:Nat) (q0:LV) (n1 c0:Nat) (s1:Sl) (z0 z1:Int) (q1:LV):OV:=
 (bb (Au Ah q1) (bb (AY z1 z0) (oo (EA z1) none fun k1=>(bb (an (Nat.blt k1 (Sl.n s1)) true) (oo (AL (Sl.cs s1) (k1*1)) none fun v0=>(oo (Bi .i64 v0) none fun x0=>(oo (pu 21 [(Cv n0 q0),Sl.v 1 s0,(.int .i64 (Int.ofNat k1))]) none fun v1=>(oo (Bi .u16 v1) none fun x1=>(bb (Bd x1 (0:Int)) (bb (GV 1 8 n1 c0 1 q1) (bb (Au Ah (Br (Am 0 q1) [.int .i64 x0])) (Ya pu n ih0 s0 n0 q0 (n1+1) (2*(n1+1)+bb false 1 0) s1 z0 (Int.ofNat k1) (Br (Am 0 q1) [.int .i64 x0])) none) none) (Ya pu n ih0 s0 n0 q0 n1 c0 s1 z0 (Int.ofNat k1) q1)))))) none)) (X9 pu n n1 c0 q1)) none)
def Yb (pu:Af) (n w:Nat):Sl→Nat→LV→Nat→Nat→Sl→Int→Int→LV→OV:=
 Nat.rec (motive:=fun _=>Sl→Nat→LV→Nat→Nat→Sl→Int→Int→LV→OV) (fun _ _ _ _ _ _ _ _ _=>none) (fun _ ih0=>tK pu n ih0) w
def m7_ (pu:Af) (n:Nat) (x0 x1 x2:Int) (s0 s1:Sl):OV:=
 (oo (pu 19 [(.agg ⟨[.int .i64 x0,.int .i64 x1,.int .i64 x2,Sl.v 1 s0]⟩),(Sl.v 1 (Sl.mk 1 0 (Aq (1*1) (Am 0 ([Sl.v 1 s1]:LV)))))]) none fun v0=>(oo (CQ v0) none fun l0=>(ll l0 none fun v1 l0=>(ll l0 none fun v2 l0=>(ll l0 (bb (isS (Pv v1)) (oo (Pv v1) none fun p0=>(oo (Bi .i64 v2) none fun x3=>(bb (nt (Bd x3 (0:Int))) (some (.tuple ⟨[(Sl.v 1 (Sl.mk 0 2 [])),.int .i64 x3]⟩)) (oo (AL (Db.cs p0) (((Db.off p0)+0)+3)) none fun v3=>(oo (Bj 1 v3) none fun s2=>(Yb pu n n s1 (Db.off p0) (Db.cs p0) 0 0 s2 (Int.ofNat (Sl.n s2)) (0:Int) ([]:LV))))))) (bb (V3 v1) (oo (Bi .i64 v2) none fun x4=>(bb (nt (Bd x4 (0:Int))) (some (.tuple ⟨[(Sl.v 1 (Sl.mk 0 2 [])),.int .i64 x4]⟩)) none)) none)) fun _ _=>none)))))
def m7 (pu:Af) (n:Nat) (args:LV):OV:=
 (ll args none fun a0 args=>(ll args none fun a1 args=>(ll args (oo (Bt a0) none fun l0=>(ll l0 none fun v0 l0=>(ll l0 none fun v1 l0=>(ll l0 none fun v2 l0=>(ll l0 none fun v3 l0=>(ll l0 (oo (Bi .i64 v0) none fun x0=>(oo (Bi .i64 v1) none fun x1=>(oo (Bi .i64 v2) none fun x2=>(oo (Bj 1 v3) none fun s0=>(oo (Bj 1 a1) none fun s1=>(m7_ pu n x0 x1 x2 s0 s1)))))) fun _ _=>none)))))) fun _ _=>none)))
theorem Agu (pu:Af) (n n0 c0:Nat) (q0:LV) {v:Value} (hm:X9 pu n n0 c0 q0=some v):BN tt (Bb tabs isP pu (inl pu)) 0 Yj (fr 43 [(8,sc 0 0 1 n0 c0)]) (hp 1 [oC q0]) (Fin tt 0 [.tmp 4,.tmp 5] v):=by
 unfold X9 at hm
 refine .then (.rK ?_)
 replace hm:=Ae hm;obtain⟨h0,hm⟩:=hm
 refine .ghs (fr 43 [(4,sc 0 0 1 n0 c0),(5,(zI (0:Int)))]) (hp 1 [oC q0]) (.k [0] [] [.tmp 4 false] [4,5] ⟨BB h0,trivial⟩) ?_
 replace hm:=Ae hm;obtain⟨h1,hm⟩:=hm
 refine .ghs (Fr.puts (fr 43 [(4,sc 0 0 1 n0 c0),(5,(zI (0:Int)))]) [(4,(Sl.v 1 (Sl.mk n0 0 (Aq (n0*1) (Am 0 q0)))))]) (hp 1 [.dead]) (.freezeC 0 4 1 (an (Nat.ble (0+n0*1) (len q0)) (Au Ah (Aq (n0*1) (Am 0 q0)))) (F1:=(Fr.puts (fr 43 [(4,sc 0 0 1 n0 c0),(5,(zI (0:Int)))]) [(4,(Sl.v 1 (Sl.mk n0 0 (Aq (n0*1) (Am 0 q0)))))])) (H1:=(hp 1 [.dead])) (by kernel_rfl) (by kernel_rfl) h1 (E9.id _ _)) ?_
 refine .ret ?_
 exact Bp (.tuple ⟨[(Sl.v 1 (Sl.mk n0 0 (Aq (n0*1) (Am 0 q0)))),(zI (0:Int))]⟩) hm
theorem r7 {call:A8} (pu:Af) (n:Nat) (hcall:call=Bb tabs isP pu (inl pu)) {args:LV} {v:Value} (hm:m7 pu n args=some v) (_:∀ x∈args,closed2 x=true):args.length≤43∧BN tt call 0 R9 (Fr.made 43 args) (Ao tabs) (Fin tt 0 [.tmp 4,.tmp 5] v):=by
 subst hcall
 unfold m7 at hm
 replace hm:=Ad hm;obtain⟨a0,args_0,rfl,hm⟩:=hm
 replace hm:=Ad hm;obtain⟨a1,args_1,rfl,hm⟩:=hm
 replace hm:=AC hm;obtain⟨rfl,hm⟩:=hm
 replace hm:=BG hm;obtain⟨l0,rfl,hm⟩:=hm
 replace hm:=Ad hm;obtain⟨v0,l459_0,rfl,hm⟩:=hm
 replace hm:=Ad hm;obtain⟨v1,l459_1,rfl,hm⟩:=hm
 replace hm:=Ad hm;obtain⟨v2,l459_2,rfl,hm⟩:=hm
 replace hm:=Ad hm;obtain⟨v3,l459_3,rfl,hm⟩:=hm
 replace hm:=AC hm;obtain⟨rfl,hm⟩:=hm
 replace hm:=Ai hm;obtain⟨x0,rfl,hm⟩:=hm
 replace hm:=Ai hm;obtain⟨x1,rfl,hm⟩:=hm
 replace hm:=Ai hm;obtain⟨x2,rfl,hm⟩:=hm
 replace hm:=Al hm;obtain⟨s0,rfl,hm⟩:=hm
 replace hm:=Al hm;obtain⟨s1,rfl,hm⟩:=hm
 unfold m7_ at hm
 refine⟨by simp,?_⟩
 refine .same (F':=(fr 43 [(0,(.agg ⟨[zI x0,zI x1,zI x2,Sl.v 1 s0]⟩)),(1,Sl.v 1 s1)])) (H':=(hp 0 [])) (by kernel_rfl) (by kernel_rfl) ?_
 refine .then (.rK (.ghs (fr 43 [(1,Sl.v 1 s1),(2,(pt 0 0))]) (hp 1 [(oC [zI x0,zI x1,zI x2,Sl.v 1 s0])]) (.k0 [] [.tmp 2 false] [1,2]) ?_))
 refine .then ?_
 replace hm:=Ab hm;obtain⟨v4,h0,hm⟩:=hm
 replace hm:=Ch hm;obtain⟨l1,rfl,hm⟩:=hm
 replace hm:=Ad hm;obtain⟨v5,l488_0,rfl,hm⟩:=hm
 replace hm:=Ad hm;obtain⟨v6,l488_1,rfl,hm⟩:=hm
 replace hm:=AC hm;obtain⟨rfl,hm⟩:=hm
 replace hm:=Ag hm;rcases hm with⟨h1,hm⟩ | ⟨h1,hm⟩
 ·replace hm:=Ab hm;obtain⟨p0,h2,hm⟩:=hm
  obtain rfl:=F7 h2
  replace hm:=Ai hm;obtain⟨x3,rfl,hm⟩:=hm
  refine .reg (eC 3 (Hr tabs 1 (pu 19) [(.agg ⟨[zI x0,zI x1,zI x2,Sl.v 1 s0]⟩),sc 1 0 1 1 3] (hp 2 [(oC [zI x0,zI x1,zI x2,Sl.v 1 s0]),(oC [Sl.v 1 s1])])) (KI (DZ (CV (z:=1) (v:=(.agg ⟨[zI x0,zI x1,zI x2,Sl.v 1 s0]⟩)) (H:=(hp 2 [(oC [zI x0,zI x1,zI x2,Sl.v 1 s0]),(oC [Sl.v 1 s1])])) (by kernel_rfl) (by kernel_rfl) (by kernel_rfl)) (DZ (show ER 1 (sc 1 0 1 1 3) (hp 2 [(oC [zI x0,zI x1,zI x2,Sl.v 1 s0]),(oC [Sl.v 1 s1])])=some ((Sl.v 1 (Sl.mk 1 0 (Aq (1*1) (Am 0 ([Sl.v 1 s1]:LV))))),(hp 2 [(oC [zI x0,zI x1,zI x2,Sl.v 1 s0]),.dead])) from KH 1 0 1 1 3 ([Sl.v 1 s1]:LV) [] (by kernel_rfl) (by kernel_rfl) (by kernel_rfl)) Jt)) (by kernel_rfl) h0) (eE)) ?_
  refine .ghs (fr 43 [(1,Sl.v 1 s1),(6,(Cv (Db.off p0) (Db.cs p0))),(7,zI x3)]) (hp 0 []) (.k0 [] [] [1,6,7]) ?_
  refine .then (.then (.rK (.ghs (fr 43 [(1,Sl.v 1 s1),(6,(Cv (Db.off p0) (Db.cs p0))),(7,zI x3),(19,(zB (nt (Bd x3 (0:Int)))))]) (hp 0 []) (.k0 [] [] [1,6,7,19]) ?_)))
  replace hm:=Ag hm;rcases hm with⟨h3,hm⟩ | ⟨h3,hm⟩
  ·refine Cs (nt (Bd x3 (0:Int))) h3 ?_
   refine .then (.rK (.ghs (fr 43 [(4,(.slice none 0 0)),(5,zI x3)]) (hp 0 []) (.k0 [] [] [4,5]) ?_))
   refine .ghs (Fr.puts (fr 43 [(4,(.slice none 0 0)),(5,zI x3)]) [(4,(Sl.v 1 (Sl.mk 0 2 [])))]) (hp 0 []) (.freeze 0 4 1 (by kernel_rfl) (by kernel_rfl) (E9.id _ _)) ?_
   refine .ret ?_
   exact Bp (.tuple ⟨[(Sl.v 1 (Sl.mk 0 2 [])),zI x3]⟩) hm
  ·refine CY (nt (Bd x3 (0:Int))) h3 ?_
   refine .skip (.ghs (fr 43 [(1,Sl.v 1 s1),(6,(Cv (Db.off p0) (Db.cs p0)))]) (hp 0 []) (.k0 [] [] [1,6]) ?_)
   refine .then (.rK (.ghs (fr 43 [(1,Sl.v 1 s1),(6,(Cv (Db.off p0) (Db.cs p0))),(8,(.slice none 0 0))]) (hp 0 []) (.k0 [] [] [1,6,8]) ?_))
   refine .join (v:=v) (fun y:Nat×Nat×LV=>((fr 43 [(8,(sc 0 0 1 y.1 y.2.1))]),(hp 1 [(oC y.2.2)]))) (fun y=>X9 pu n y.1 y.2.1 y.2.2) ?_ ?_
   ·rintro⟨n0,c0,q0⟩ hm
    exact Agu pu n n0 c0 q0 hm
   ·refine .then ?_
    replace hm:=O4 hm;obtain⟨s2,h4,hm⟩:=hm
    refine .reg (eC 4 (keep (hp 0 []) (AL (Db.cs p0) (((Db.off p0)+0)+3))) (AZ h4) (eE)) ?_
    refine .ghs (fr 43 [(1,Sl.v 1 s1),(6,(Cv (Db.off p0) (Db.cs p0))),(8,(.slice none 0 0)),(25,Sl.v 1 s2),(26,(zI (Int.ofNat (Sl.n s2)))),(27,(zI (0:Int)))]) (hp 0 []) (.k0 [] [] [1,6,8,25,26,27]) ?_
    refine .block (.loopM (v:=v) (fun y:Sl×Nat×LV×Nat×Nat×Sl×Int×Int×LV=>((fr 43 [(1,(Sl.v 1 y.1)),(6,(Cv y.2.1 y.2.2.1)),(8,(sc 0 0 1 y.2.2.2.1 y.2.2.2.2.1)),(25,(Sl.v 1 y.2.2.2.2.2.1)),(26,(zI y.2.2.2.2.2.2.1)),(27,(zI y.2.2.2.2.2.2.2.1))]),(hp 1 [(oC y.2.2.2.2.2.2.2.2)]))) (fun w y=>Yb pu n w y.1 y.2.1 y.2.2.1 y.2.2.2.1 y.2.2.2.2.1 y.2.2.2.2.2.1 y.2.2.2.2.2.2.1 y.2.2.2.2.2.2.2.1 y.2.2.2.2.2.2.2.2) n ⟨(s1,(Db.off p0),(Db.cs p0),0,0,s2,(Int.ofNat (Sl.n s2)),(0:Int),([]:LV)),hm,(.thaw 8 1 (by kernel_rfl) (.k0 [] [.tmp 8 false] [1,6,8,25,26,27]))⟩ (fun _=>rfl) ?_)
    rintro w0 ⟨s3,n1,q1,n2,c1,s4,z0,z1,q2⟩ hm
    replace hm:tK pu n (Yb pu n w0) s3 n1 q1 n2 c1 s4 z0 z1 q2=some v:=hm
    unfold tK at hm
    refine .then (.rK ?_)
    replace hm:=Ae hm;obtain⟨h5,hm⟩:=hm
    refine .ghs (fr 43 [(1,Sl.v 1 s3),(6,(Cv n1 q1)),(8,sc 0 0 1 n2 c1),(25,Sl.v 1 s4),(26,zI z0),(27,zI z1),(28,(zB (AY z1 z0)))]) (hp 1 [oC q2]) (.k [0] [] [.tmp 8 false] [1,6,8,25,26,27,28] ⟨BB h5,trivial⟩) ?_
    refine .then ?_
    replace hm:=Ag hm;rcases hm with⟨h6,hm⟩ | ⟨h6,hm⟩
    ·refine Cs (AY z1 z0) h6 ?_
     refine .skip (.ghs (fr 43 [(1,Sl.v 1 s3),(6,(Cv n1 q1)),(8,sc 0 0 1 n2 c1),(25,Sl.v 1 s4),(26,zI z0),(27,zI z1)]) (hp 1 [oC q2]) (.k [0] [] [.tmp 8 false] [1,6,8,25,26,27] ⟨BB h5,trivial⟩) ?_)
     refine .join (v:=v) (fun y:Sl×Nat×LV×Nat×Nat×Sl×Int×Int×LV=>((fr 43 [(1,(Sl.v 1 y.1)),(6,(Cv y.2.1 y.2.2.1)),(8,(sc 0 0 1 y.2.2.2.1 y.2.2.2.2.1)),(25,(Sl.v 1 y.2.2.2.2.2.1)),(26,(zI y.2.2.2.2.2.2.1)),(27,(zI y.2.2.2.2.2.2.2.1))]),(hp 1 [(oC y.2.2.2.2.2.2.2.2)]))) (fun y=>Ya pu n (Yb pu n w0) y.1 y.2.1 y.2.2.1 y.2.2.2.1 y.2.2.2.2.1 y.2.2.2.2.2.1 y.2.2.2.2.2.2.1 y.2.2.2.2.2.2.2.1 y.2.2.2.2.2.2.2.2) ?_ ?_
     ·rintro⟨s5,n3,q3,n4,c2,s6,z2,z3,q4⟩ hm
      unfold Ya at hm
      refine .rK ?_
      replace hm:=Ae hm;obtain⟨h7,hm⟩:=hm
      exact⟨(s5,n3,q3,n4,c2,s6,z2,(Aj .i64 (Int.add z3 (1:Int))),q4),hm,(.k [0] [] [.tmp 8 false] [1,6,8,25,26,27] ⟨BB h7,trivial⟩)⟩
     ·refine .block (.then ?_)
      replace hm:=Ab hm;obtain⟨k1,h8,hm⟩:=hm
      obtain rfl:=AR h8
      replace hm:=Ae hm;obtain⟨h9,hm⟩:=hm
      replace hm:=Hw hm;obtain⟨x4,h10,hm⟩:=hm
      refine .reg (eC 1 (keep (hp 1 [oC q2]) (bb (an (Nat.blt k1 (Sl.n s4)) true) (some (Cv (k1*1) (Sl.cs s4))) none)) (AX h9) (eD (keep (hp 1 [oC q2]) (AL (Sl.cs s4) (k1*1))) (AZ h10) (eE))) ?_
      refine .ghs (fr 43 [(1,Sl.v 1 s3),(6,(Cv n1 q1)),(8,sc 0 0 1 n2 c1),(9,(zI (Int.ofNat k1))),(10,zI x4),(25,Sl.v 1 s4),(26,zI z0),(27,(zI (Int.ofNat k1)))]) (hp 1 [oC q2]) (.k [0] [] [.tmp 8 false] [1,6,8,9,10,25,26,27] ⟨BB h5,trivial⟩) ?_
      refine .then ?_
      replace hm:=Hw hm;obtain⟨x5,h11,hm⟩:=hm
      refine .reg (eC 3 ((oo (pu 21 [(Cv n1 q1),Sl.v 1 s3,(zI (Int.ofNat k1))]) none fun v=>some (v,(hp 1 [oC q2])))) (AB h11) (eE)) ?_
      refine .ghs (fr 43 [(1,Sl.v 1 s3),(6,(Cv n1 q1)),(8,sc 0 0 1 n2 c1),(10,zI x4),(25,Sl.v 1 s4),(26,zI z0),(27,(zI (Int.ofNat k1))),(36,(zB (Bd x5 (0:Int))))]) (hp 1 [oC q2]) (.k [0] [] [.tmp 8 false] [1,6,8,10,25,26,27,36] ⟨BB h5,trivial⟩) ?_
      replace hm:=Ag hm;rcases hm with⟨h12,hm⟩ | ⟨h12,hm⟩
      ·refine Cs (Bd x5 (0:Int)) h12 ?_
       replace hm:=Ae hm;obtain⟨h13,hm⟩:=hm
       refine .reg (eC 3 (Oc 1 8 n2 c1 1 0 q2 [zI x4] [] (hp 2 [oC q2,(oC [zI x4])])) (I1 h13) (eE)) ?_
       replace hm:=Ae hm;obtain⟨h14,hm⟩:=hm
       exact⟨(s3,n1,q1,(n2+1),(d2 (n2+1)),s4,z0,(Int.ofNat k1),(Br (Am 0 q2) [zI x4])),hm,(.k [2] [] [.tmp 8 false] [1,6,8,25,26,27] ⟨BB h14,trivial⟩)⟩
      ·refine CY (Bd x5 (0:Int)) h12 ?_
       refine .skip ?_
       exact⟨(s3,n1,q1,n2,c1,s4,z0,(Int.ofNat k1),q2),hm,(.k [0] [] [.tmp 8 false] [1,6,8,25,26,27] ⟨BB h5,trivial⟩)⟩
    ·refine CY (AY z1 z0) h6 ?_
     refine .exit ?_
     exact⟨(n2,c1,q2),hm,(.k [0] [] [.tmp 8 false] [8] ⟨BB h5,trivial⟩)⟩
 ·replace hm:=Ae hm;obtain⟨h15,hm⟩:=hm
  obtain rfl:=Qp h15
  replace hm:=Ai hm;obtain⟨x6,rfl,hm⟩:=hm
  refine .reg (eC 3 (Hr tabs 1 (pu 19) [(.agg ⟨[zI x0,zI x1,zI x2,Sl.v 1 s0]⟩),sc 1 0 1 1 3] (hp 2 [(oC [zI x0,zI x1,zI x2,Sl.v 1 s0]),(oC [Sl.v 1 s1])])) (KI (DZ (CV (z:=1) (v:=(.agg ⟨[zI x0,zI x1,zI x2,Sl.v 1 s0]⟩)) (H:=(hp 2 [(oC [zI x0,zI x1,zI x2,Sl.v 1 s0]),(oC [Sl.v 1 s1])])) (by kernel_rfl) (by kernel_rfl) (by kernel_rfl)) (DZ (show ER 1 (sc 1 0 1 1 3) (hp 2 [(oC [zI x0,zI x1,zI x2,Sl.v 1 s0]),(oC [Sl.v 1 s1])])=some ((Sl.v 1 (Sl.mk 1 0 (Aq (1*1) (Am 0 ([Sl.v 1 s1]:LV))))),(hp 2 [(oC [zI x0,zI x1,zI x2,Sl.v 1 s0]),.dead])) from KH 1 0 1 1 3 ([Sl.v 1 s1]:LV) [] (by kernel_rfl) (by kernel_rfl) (by kernel_rfl)) Jt)) (by kernel_rfl) h0) (eE)) ?_
  refine .ghs (fr 43 [(1,Sl.v 1 s1),(6,(.pointer none)),(7,zI x6)]) (hp 0 []) (.k0 [] [] [1,6,7]) ?_
  refine .then (.then (.rK (.ghs (fr 43 [(1,Sl.v 1 s1),(6,(.pointer none)),(7,zI x6),(19,(zB (nt (Bd x6 (0:Int)))))]) (hp 0 []) (.k0 [] [] [1,6,7,19]) ?_)))
  replace hm:=Ag hm;rcases hm with⟨h16,hm⟩ | ⟨h16,hm⟩
  ·refine Cs (nt (Bd x6 (0:Int))) h16 ?_
   refine .then (.rK (.ghs (fr 43 [(4,(.slice none 0 0)),(5,zI x6)]) (hp 0 []) (.k0 [] [] [4,5]) ?_))
   refine .ghs (Fr.puts (fr 43 [(4,(.slice none 0 0)),(5,zI x6)]) [(4,(Sl.v 1 (Sl.mk 0 2 [])))]) (hp 0 []) (.freeze 0 4 1 (by kernel_rfl) (by kernel_rfl) (E9.id _ _)) ?_
   refine .ret ?_
   exact Bp (.tuple ⟨[(Sl.v 1 (Sl.mk 0 2 [])),zI x6]⟩) hm
  ·refine CY (nt (Bd x6 (0:Int))) h16 ?_
   refine .skip (.ghs (fr 43 [(1,Sl.v 1 s1),(6,(.pointer none))]) (hp 0 []) (.k0 [] [] [1,6]) ?_)
   refine .then (.rK (.ghs (fr 43 [(1,Sl.v 1 s1),(6,(.pointer none)),(8,(.slice none 0 0))]) (hp 0 []) (.k0 [] [] [1,6,8]) ?_))
   refine .then (.then ?_)
   cases hm
end
end Go.TpAM
