/- Made from wip. -/
import Derived.Test.YtlgmapibifphaaaDoorMnNMod1x

set_option maxRecDepth 100000
set_option maxHeartbeats 20000000
set_option linter.unusedVariables false
namespace Go.MnNM
open Go.Sp Go.MnN
noncomputable section
def R4 (pu:Af) (n:Nat) (q0:LV):OV:=
 (bb (Nat.ble (0+5) (len q0)) (oo (AL q0 0) none fun v0=>(oo (Bi .i64 v0) none fun x0=>(oo (AL q0 (0+1)) none fun v1=>(oo (Bi .i64 v1) none fun x1=>(oo (AL q0 ((0+1)+1)) none fun v2=>(oo (Bi .i64 v2) none fun x2=>(oo (AL q0 (((0+1)+1)+1)) none fun v3=>(oo (Bi .i64 v3) none fun x3=>(oo (AL q0 ((((0+1)+1)+1)+1)) none fun v4=>(oo (Bi .i64 v4) none fun x4=>(bb (bq false (an (Bd x0 (0:Int)) (an (Bd x1 (0:Int)) (an (Bd x2 (0:Int)) (an (Bd x3 (0:Int)) (an (Bd x4 (0:Int)) true)))))) (some (.int .i64 (17:Int))) (some (.int .i64 (0:Int)))))))))))))) none)
def Pf (pu:Af) (n:Nat) (ih0:Sl→Int→Int→Int→Sl→Sl→LV→OV) (z0 z1:Int) (s0:Sl) (z2 z3:Int) (b0:Bool) (z4:Int) (s1 s2:Sl) (q0:LV):OV:=
 (bb b0 (some (.int .i64 (2:Int))) (bb (Au Ah q0) (oo (EA z0) none fun k1=>(bb (Nat.blt k1 5) (oo (AL q0 (0+k1*1)) none fun v0=>(oo (Bi .i64 v0) none fun x0=>(bb (Nat.blt k1 5) (bb (an (Nat.ble ((0+k1*1)+1) (len q0)) true) (bb (Au Ah (BM ([(.int .i64 (Aj .i64 (Int.add x0 (1:Int))))]:LV) (0+k1*1) q0)) (oo (EA z1) none fun k2=>(bb (Nat.blt k2 5) (oo (AL (BM ([(.int .i64 (Aj .i64 (Int.add x0 (1:Int))))]:LV) (0+k1*1) q0) (0+k2*1)) none fun v1=>(oo (Bi .i64 v1) none fun x1=>(bb (Nat.blt k2 5) (bb (an (Nat.ble ((0+k2*1)+1) (len (BM ([(.int .i64 (Aj .i64 (Int.add x0 (1:Int))))]:LV) (0+k1*1) q0))) true) (bb (Au Ah (BM ([(.int .i64 (Aj .i64 (Int.sub x1 (1:Int))))]:LV) (0+k2*1) (BM ([(.int .i64 (Aj .i64 (Int.add x0 (1:Int))))]:LV) (0+k1*1) q0))) (ih0 s0 z2 (Aj .i64 (Int.add z3 (1:Int))) z4 s1 s2 (BM ([(.int .i64 (Aj .i64 (Int.sub x1 (1:Int))))]:LV) (0+k2*1) (BM ([(.int .i64 (Aj .i64 (Int.add x0 (1:Int))))]:LV) (0+k1*1) q0))) none) none) none))) none)) none) none) none))) none)) none))
def R5 (pu:Af) (n:Nat) (ih0:Sl→Int→Int→Int→Sl→Sl→LV→OV) (s0:Sl) (z0 z1 z2:Int) (s1 s2:Sl) (q0:LV):OV:=
 (bb (Au Ah q0) (bb (AY z1 z0) (oo (EA z1) none fun k1=>(bb (an (Nat.blt k1 (Sl.n s0)) true) (oo (AL (Sl.cs s0) (k1*1)) none fun v0=>(oo (Bi .i64 v0) none fun x0=>(bb (an (Nat.blt k1 (Sl.n s2)) true) (oo (AL (Sl.cs s2) (k1*1)) none fun v1=>(oo (Bi .i64 v1) none fun x1=>(oo (pu 52 [(.int .i64 (0:Int)),(.int .i64 (bb (AY x1 x0) x1 x0)),(.int .i64 (Aj .i64 (Int.sub z2 (1:Int))))]) none fun v2=>(oo (Bf v2) none fun b0=>(bb (nt b0) (Pf pu n ih0 x0 x1 s0 z0 (Int.ofNat k1) true z2 s1 s2 q0) (Pf pu n ih0 x0 x1 s0 z0 (Int.ofNat k1) (nt (AY (bb (AY x0 x1) x1 x0) z2)) z2 s1 s2 q0)))))) none))) none)) (R4 pu n q0)) none)
def Oz (pu:Af) (n w:Nat):Sl→Int→Int→Int→Sl→Sl→LV→OV:=
 Nat.rec (motive:=fun _=>Sl→Int→Int→Int→Sl→Sl→LV→OV) (fun _ _ _ _ _ _ _=>none) (fun _ ih0=>R5 pu n ih0) w
def vS (pu:Af) (n:Nat) (x0:Int) (s0 s1:Sl):OV:=
 (oo (pu 52 [(.int .i64 (1:Int)),.int .i64 x0,(.int .i64 (5:Int))]) none fun v0=>(oo (Bf v0) none fun b0=>(bb (nt b0) (some (.int .i64 (1:Int))) (bb (Bd (Int.ofNat (Sl.n s0)) (0:Int)) (some (.int .i64 (4:Int))) (bb (AY (10:Int) (Int.ofNat (Sl.n s0))) (some (.int .i64 (3:Int))) (bb (nt (Bd (Int.ofNat (Sl.n s1)) (Int.ofNat (Sl.n s0)))) (some (.int .i64 (5:Int))) (Oz pu n n s0 (Int.ofNat (Sl.n s0)) (0:Int) x0 s0 s1 ([(.int .i64 (0:Int)),(.int .i64 (0:Int)),(.int .i64 (0:Int)),(.int .i64 (0:Int)),(.int .i64 (0:Int))]:LV))))))))
def m47 (pu:Af) (n:Nat) (args:LV):OV:=
 (ll args none fun a0 args=>(ll args (oo (Bt a0) none fun l0=>(ll l0 none fun v0 l0=>(ll l0 none fun v1 l0=>(ll l0 none fun v2 l0=>(ll l0 (oo (Bi .i64 v0) none fun x0=>(oo (Bj 1 v1) none fun s0=>(oo (Bj 1 v2) none fun s1=>(vS pu n x0 s0 s1)))) fun _ _=>none))))) fun _ _=>none))
theorem vT (pu:Af) (n:Nat) (q0:LV) {v:Value} (hm:R4 pu n q0=some v):BN tt (Bb tabs Ir pu (inl pu)) 1 WJ (fr 73 [(3,pt 1 0)]) (hT 2 [oC q0]) (Fin tt 1 [.tmp 2] v):=by
 unfold R4 at hm
 refine .then (.then ?_)
 replace hm:=Ae hm;obtain⟨h0,hm⟩:=hm
 replace hm:=Gq hm;obtain⟨x0,h1,hm⟩:=hm
 replace hm:=Gq hm;obtain⟨x1,h2,hm⟩:=hm
 replace hm:=Gq hm;obtain⟨x2,h3,hm⟩:=hm
 replace hm:=Gq hm;obtain⟨x3,h4,hm⟩:=hm
 replace hm:=Gq hm;obtain⟨x4,h5,hm⟩:=hm
 refine .reg (eD (keep (hT 2 [oC q0]) (bb (Nat.ble (0+5) (len q0)) (some (.agg ⟨Aq 5 (Am 0 q0)⟩)) none)) (Pd h0 (Ca h1 (Ca h2 (Ca h3 (Ca h4 (Ca h5 rfl)))))) (eE)) ?_
 refine .ghs (fr 73 [(72,(zB (bq false (an (Bd x0 (0:Int)) (an (Bd x1 (0:Int)) (an (Bd x2 (0:Int)) (an (Bd x3 (0:Int)) (an (Bd x4 (0:Int)) true))))))))]) FK (.k0 [false] [] [72]) ?_
 replace hm:=Ag hm;rcases hm with⟨h6,hm⟩ | ⟨h6,hm⟩
 ·refine Gy (bq false (an (Bd x0 (0:Int)) (an (Bd x1 (0:Int)) (an (Bd x2 (0:Int)) (an (Bd x3 (0:Int)) (an (Bd x4 (0:Int)) true)))))) h6 ?_
  refine .then (.rK (.ghs (fr 73 [(2,(zI (17:Int)))]) FK (.k0 [false] [] [2]) ?_))
  refine .ret ?_
  exact Fb (zI (17:Int)) hm
 ·refine G5 (bq false (an (Bd x0 (0:Int)) (an (Bd x1 (0:Int)) (an (Bd x2 (0:Int)) (an (Bd x3 (0:Int)) (an (Bd x4 (0:Int)) true)))))) h6 ?_
  refine .skip (.ghs (fr 73 []) FK (.k0 [false] [] []) ?_)
  refine .then (.rK (.ghs (fr 73 [(2,(zI (0:Int)))]) FK (.k0 [false] [] [2]) ?_))
  refine .ret ?_
  exact Fb (zI (0:Int)) hm
theorem UK {call:A8} (pu:Af) (n:Nat) (hcall:call=Bb tabs Ir pu (inl pu)) {args:LV} {v:Value} (hm:m47 pu n args=some v) (_:∀ x∈args,closed2 x=true):args.length≤73∧BN tt call 1 Qu (Fr.made 73 args) (Ao tabs) (Fin tt 1 [.tmp 2] v):=by
 subst hcall
 unfold m47 at hm
 replace hm:=Ad hm;obtain⟨a0,args_0,rfl,hm⟩:=hm
 replace hm:=AC hm;obtain⟨rfl,hm⟩:=hm
 replace hm:=BG hm;obtain⟨l0,rfl,hm⟩:=hm
 replace hm:=Ad hm;obtain⟨v0,l26172_0,rfl,hm⟩:=hm
 replace hm:=Ad hm;obtain⟨v1,l26172_1,rfl,hm⟩:=hm
 replace hm:=Ad hm;obtain⟨v2,l26172_2,rfl,hm⟩:=hm
 replace hm:=AC hm;obtain⟨rfl,hm⟩:=hm
 replace hm:=Ai hm;obtain⟨x0,rfl,hm⟩:=hm
 replace hm:=Al hm;obtain⟨s0,rfl,hm⟩:=hm
 replace hm:=Al hm;obtain⟨s1,rfl,hm⟩:=hm
 unfold vS at hm
 refine⟨by simp,?_⟩
 refine .same (F':=(fr 73 [(0,(.agg ⟨[zI x0,Sl.v 1 s0,Sl.v 1 s1]⟩))])) (H':=FK) (by kernel_rfl) (by kernel_rfl) ?_
 refine .then (.rK (.ghs (fr 73 [(1,pt 1 0)]) (hT 2 [(oC [zI x0,Sl.v 1 s0,Sl.v 1 s1])]) (.k0 [false] [.tmp 1 false] [1]) ?_))
 refine .then (.block (.then ?_))
 replace hm:=vK hm;obtain⟨b0,h0,hm⟩:=hm
 refine .reg (eC 2 ((oo (pu 52 [(zI (1:Int)),zI x0,(zI (5:Int))]) none fun v=>some (v,(hT 2 [(oC [zI x0,Sl.v 1 s0,Sl.v 1 s1])])))) (AB h0) (eE)) ?_
 refine .ghs (fr 73 [(1,pt 1 0),(7,(zB (nt b0)))]) (hT 2 [(oC [zI x0,Sl.v 1 s0,Sl.v 1 s1])]) (.k0 [false] [.tmp 1 false] [1,7]) ?_
 replace hm:=Ag hm;rcases hm with⟨h1,hm⟩ | ⟨h1,hm⟩
 ·refine Gy (nt b0) h1 ?_
  refine .then (.rK (.ghs (fr 73 [(2,(zI (1:Int)))]) FK (.k0 [false] [] [2]) ?_))
  refine .ret ?_
  exact Fb (zI (1:Int)) hm
 ·refine G5 (nt b0) h1 ?_
  refine .then (.rK (.ghs (fr 73 [(1,pt 1 0),(12,(zB (Bd (Int.ofNat (Sl.n s0)) (0:Int))))]) (hT 2 [(oC [zI x0,Sl.v 1 s0,Sl.v 1 s1])]) (.k0 [false] [.tmp 1 false] [1,12]) ?_))
  replace hm:=Ag hm;rcases hm with⟨h2,hm⟩ | ⟨h2,hm⟩
  ·refine Gy (Bd (Int.ofNat (Sl.n s0)) (0:Int)) h2 ?_
   refine .then (.rK (.ghs (fr 73 [(2,(zI (4:Int)))]) FK (.k0 [false] [] [2]) ?_))
   refine .ret ?_
   exact Fb (zI (4:Int)) hm
  ·refine G5 (Bd (Int.ofNat (Sl.n s0)) (0:Int)) h2 ?_
   refine .then (.rK (.ghs (fr 73 [(1,pt 1 0),(17,(zB (AY (10:Int) (Int.ofNat (Sl.n s0)))))]) (hT 2 [(oC [zI x0,Sl.v 1 s0,Sl.v 1 s1])]) (.k0 [false] [.tmp 1 false] [1,17]) ?_))
   replace hm:=Ag hm;rcases hm with⟨h3,hm⟩ | ⟨h3,hm⟩
   ·refine Gy (AY (10:Int) (Int.ofNat (Sl.n s0))) h3 ?_
    refine .then (.rK (.ghs (fr 73 [(2,(zI (3:Int)))]) FK (.k0 [false] [] [2]) ?_))
    refine .ret ?_
    exact Fb (zI (3:Int)) hm
   ·refine G5 (AY (10:Int) (Int.ofNat (Sl.n s0))) h3 ?_
    refine .then (.rK (.ghs (fr 73 [(1,pt 1 0),(22,(zB (nt (Bd (Int.ofNat (Sl.n s1)) (Int.ofNat (Sl.n s0))))))]) (hT 2 [(oC [zI x0,Sl.v 1 s0,Sl.v 1 s1])]) (.k0 [false] [.tmp 1 false] [1,22]) ?_))
    replace hm:=Ag hm;rcases hm with⟨h4,hm⟩ | ⟨h4,hm⟩
    ·refine Gy (nt (Bd (Int.ofNat (Sl.n s1)) (Int.ofNat (Sl.n s0)))) h4 ?_
     refine .then (.rK (.ghs (fr 73 [(2,(zI (5:Int)))]) FK (.k0 [false] [] [2]) ?_))
     refine .ret ?_
     exact Fb (zI (5:Int)) hm
    ·refine G5 (nt (Bd (Int.ofNat (Sl.n s1)) (Int.ofNat (Sl.n s0)))) h4 ?_
     refine .skip (.ghs (fr 73 [(1,pt 1 0)]) (hT 2 [(oC [zI x0,Sl.v 1 s0,Sl.v 1 s1])]) (.k0 [false] [.tmp 1 false] [1]) ?_)
     refine .then (.rK (.ghs (fr 73 [(1,pt 1 0),(3,(pt 2 0))]) (hT 3 [(oC [zI x0,Sl.v 1 s0,Sl.v 1 s1]),(oC [(zI (0:Int)),(zI (0:Int)),(zI (0:Int)),(zI (0:Int)),(zI (0:Int))])]) (.k0 [false] [.tmp 1 false,.tmp 3 false] [1,3]) ?_))
     refine .join (v:=v) (fun y:LV=>((fr 73 [(3,pt 1 0)]),(hT 2 [oC y]))) (fun y=>R4 pu n y) ?_ ?_
     ·rintro q0 hm
      exact vT pu n q0 hm
     ·refine .then (.rK (.ghs (fr 73 [(1,pt 1 0),(3,(pt 2 0)),(31,Sl.v 1 s0),(32,(zI (Int.ofNat (Sl.n s0)))),(33,(zI (0:Int)))]) (hT 3 [(oC [zI x0,Sl.v 1 s0,Sl.v 1 s1]),(oC [(zI (0:Int)),(zI (0:Int)),(zI (0:Int)),(zI (0:Int)),(zI (0:Int))])]) (.k0 [false] [.tmp 1 false,.tmp 3 false] [1,3,31,32,33]) ?_))
      refine .block (.loopM (v:=v) (fun y:Sl×Int×Int×Int×Sl×Sl×LV=>((fr 73 [(1,pt 1 0),(3,(pt 2 0)),(31,(Sl.v 1 y.1)),(32,(zI y.2.1)),(33,(zI y.2.2.1))]),(hT 3 [(oC [(zI y.2.2.2.1),(Sl.v 1 y.2.2.2.2.1),(Sl.v 1 y.2.2.2.2.2.1)]),(oC y.2.2.2.2.2.2)]))) (fun w y=>Oz pu n w y.1 y.2.1 y.2.2.1 y.2.2.2.1 y.2.2.2.2.1 y.2.2.2.2.2.1 y.2.2.2.2.2.2) n ⟨(s0,(Int.ofNat (Sl.n s0)),(0:Int),x0,s0,s1,([(zI (0:Int)),(zI (0:Int)),(zI (0:Int)),(zI (0:Int)),(zI (0:Int))]:LV)),hm,(.k0 [false] [.tmp 1 false,.tmp 3 false] [1,3,31,32,33])⟩ (fun _=>rfl) ?_)
      rintro w0 ⟨s2,z0,z1,z2,s3,s4,q1⟩ hm
      replace hm:R5 pu n (Oz pu n w0) s2 z0 z1 z2 s3 s4 q1=some v:=hm
      unfold R5 at hm
      refine .then (.rK ?_)
      replace hm:=Ae hm;obtain⟨h5,hm⟩:=hm
      refine .ghs (fr 73 [(1,pt 1 0),(3,(pt 2 0)),(31,Sl.v 1 s2),(32,zI z0),(33,zI z1),(34,(zB (AY z1 z0)))]) (hT 3 [(oC [zI z2,Sl.v 1 s3,Sl.v 1 s4]),oC q1]) (.k [2] [false] [.tmp 1 false,.tmp 3 false] [1,3,31,32,33,34] ⟨DL h5,trivial⟩) ?_
      refine .then ?_
      replace hm:=Ag hm;rcases hm with⟨h6,hm⟩ | ⟨h6,hm⟩
      ·refine Gy (AY z1 z0) h6 ?_
       refine .skip (.ghs (fr 73 [(1,pt 1 0),(3,(pt 2 0)),(31,Sl.v 1 s2),(32,zI z0),(33,zI z1)]) (hT 3 [(oC [zI z2,Sl.v 1 s3,Sl.v 1 s4]),oC q1]) (.k [2] [false] [.tmp 1 false,.tmp 3 false] [1,3,31,32,33] ⟨DL h5,trivial⟩) ?_)
       refine .then (.block (.then ?_))
       replace hm:=Ab hm;obtain⟨k1,h7,hm⟩:=hm
       obtain rfl:=AR h7
       replace hm:=Ae hm;obtain⟨h8,hm⟩:=hm
       replace hm:=Gq hm;obtain⟨x1,h9,hm⟩:=hm
       refine .reg (eC 1 (keep (hT 3 [(oC [zI z2,Sl.v 1 s3,Sl.v 1 s4]),oC q1]) (bb (an (Nat.blt k1 (Sl.n s2)) true) (some (Cv (k1*1) (Sl.cs s2))) none)) (AX h8) (eD (keep (hT 3 [(oC [zI z2,Sl.v 1 s3,Sl.v 1 s4]),oC q1]) (AL (Sl.cs s2) (k1*1))) (AZ h9) (eE))) ?_
       refine .ghs (fr 73 [(1,pt 1 0),(3,(pt 2 0)),(4,(zI (Int.ofNat k1))),(5,zI x1),(31,Sl.v 1 s2),(32,zI z0),(33,(zI (Int.ofNat k1)))]) (hT 3 [(oC [zI z2,Sl.v 1 s3,Sl.v 1 s4]),oC q1]) (.k [2] [false] [.tmp 1 false,.tmp 3 false] [1,3,4,5,31,32,33] ⟨DL h5,trivial⟩) ?_
       refine .then ?_
       replace hm:=Ae hm;obtain⟨h10,hm⟩:=hm
       replace hm:=Gq hm;obtain⟨x2,h11,hm⟩:=hm
       refine .reg (eC 3 (keep (hT 3 [(oC [zI z2,Sl.v 1 s3,Sl.v 1 s4]),oC q1]) (bb (an (Nat.blt k1 (Sl.n s4)) true) (some (Cv (k1*1) (Sl.cs s4))) none)) (AX h10) (eD (keep (hT 3 [(oC [zI z2,Sl.v 1 s3,Sl.v 1 s4]),oC q1]) (AL (Sl.cs s4) (k1*1))) (AZ h11) (eE))) ?_
       refine .ghs (fr 73 [(1,pt 1 0),(3,(pt 2 0)),(5,zI x1),(6,zI x2),(31,Sl.v 1 s2),(32,zI z0),(33,(zI (Int.ofNat k1)))]) (hT 3 [(oC [zI z2,Sl.v 1 s3,Sl.v 1 s4]),oC q1]) (.k [2] [false] [.tmp 1 false,.tmp 3 false] [1,3,5,6,31,32,33] ⟨DL h5,trivial⟩) ?_
       refine .then (.join (v:=v) (fun y:Int×Int×Sl×Int×Int×Bool×Int×Sl×Sl×LV=>((fr 73 [(1,pt 1 0),(3,(pt 2 0)),(5,(zI y.1)),(6,(zI y.2.1)),(31,(Sl.v 1 y.2.2.1)),(32,(zI y.2.2.2.1)),(33,(zI y.2.2.2.2.1)),(58,(zB y.2.2.2.2.2.1))]),(hT 3 [(oC [(zI y.2.2.2.2.2.2.1),(Sl.v 1 y.2.2.2.2.2.2.2.1),(Sl.v 1 y.2.2.2.2.2.2.2.2.1)]),(oC y.2.2.2.2.2.2.2.2.2)]))) (fun y=>Pf pu n (Oz pu n w0) y.1 y.2.1 y.2.2.1 y.2.2.2.1 y.2.2.2.2.1 y.2.2.2.2.2.1 y.2.2.2.2.2.2.1 y.2.2.2.2.2.2.2.1 y.2.2.2.2.2.2.2.2.1 y.2.2.2.2.2.2.2.2.2) ?_ ?_)
       ·rintro⟨z3,z4,s5,z5,z6,b3,z7,s6,s7,q2⟩ hm
        unfold Pf at hm
        replace hm:=Ag hm;rcases hm with⟨h12,hm⟩ | ⟨h12,hm⟩
        ·refine .ifT b3 (by kernel_rfl) h12 ?_
         refine .then (.rK (.ghs (fr 73 [(2,(zI (2:Int)))]) FK (.k0 [false] [] [2]) ?_))
         refine .ret ?_
         exact Fb (zI (2:Int)) hm
        ·refine .ifF b3 (by kernel_rfl) h12 ?_
         refine .skip ?_
         replace hm:=Ae hm;obtain⟨h13,hm⟩:=hm
         refine .ghs (fr 73 [(1,pt 1 0),(3,(pt 2 0)),(5,zI z3),(6,zI z4),(31,Sl.v 1 s5),(32,zI z5),(33,zI z6)]) (hT 3 [(oC [zI z7,Sl.v 1 s6,Sl.v 1 s7]),oC q2]) (.k [2] [false] [.tmp 1 false,.tmp 3 false] [1,3,5,6,31,32,33] ⟨DL h13,trivial⟩) ?_
         refine .then ?_
         replace hm:=Ab hm;obtain⟨k2,h14,hm⟩:=hm
         obtain rfl:=AR h14
         replace hm:=Ae hm;obtain⟨h15,hm⟩:=hm
         replace hm:=Gq hm;obtain⟨x3,h16,hm⟩:=hm
         replace hm:=Ae hm;obtain⟨h17,hm⟩:=hm
         replace hm:=Ae hm;obtain⟨h18,hm⟩:=hm
         refine .reg (eC 1 (keep (hT 3 [(oC [zI z7,Sl.v 1 s6,Sl.v 1 s7]),oC q2]) (bb (Nat.blt k2 5) (some (.pointer (some ⟨2,(0+k2*1),none⟩))) none)) (AX h15) (eD (keep (hT 3 [(oC [zI z7,Sl.v 1 s6,Sl.v 1 s7]),oC q2]) (AL q2 (0+k2*1))) (AZ h16) (eC 1 (keep (hT 3 [(oC [zI z7,Sl.v 1 s6,Sl.v 1 s7]),oC q2]) (bb (Nat.blt k2 5) (some (.pointer (some ⟨2,(0+k2*1),none⟩))) none)) (AX h17) (eD (done (bb (an (Nat.ble ((0+k2*1)+1) (len q2)) true) (some (hT 3 [(oC [zI z7,Sl.v 1 s6,Sl.v 1 s7]),(oC (BM ([(zI (Aj .i64 (Int.add x3 (1:Int))))]:LV) (0+k2*1) q2))])) none) undef) (Js h18) (eE))))) ?_
         replace hm:=Ae hm;obtain⟨h19,hm⟩:=hm
         refine .ghs (fr 73 [(1,pt 1 0),(3,(pt 2 0)),(6,zI z4),(31,Sl.v 1 s5),(32,zI z5),(33,zI z6)]) (hT 3 [(oC [zI z7,Sl.v 1 s6,Sl.v 1 s7]),(oC (BM ([(zI (Aj .i64 (Int.add x3 (1:Int))))]:LV) (0+k2*1) q2))]) (.k [2] [false] [.tmp 1 false,.tmp 3 false] [1,3,6,31,32,33] ⟨DL h19,trivial⟩) ?_
         replace hm:=Ab hm;obtain⟨k3,h20,hm⟩:=hm
         obtain rfl:=AR h20
         replace hm:=Ae hm;obtain⟨h21,hm⟩:=hm
         replace hm:=Gq hm;obtain⟨x4,h22,hm⟩:=hm
         replace hm:=Ae hm;obtain⟨h23,hm⟩:=hm
         replace hm:=Ae hm;obtain⟨h24,hm⟩:=hm
         refine .reg (eC 1 (keep (hT 3 [(oC [zI z7,Sl.v 1 s6,Sl.v 1 s7]),(oC (BM ([(zI (Aj .i64 (Int.add x3 (1:Int))))]:LV) (0+k2*1) q2))]) (bb (Nat.blt k3 5) (some (.pointer (some ⟨2,(0+k3*1),none⟩))) none)) (AX h21) (eD (keep (hT 3 [(oC [zI z7,Sl.v 1 s6,Sl.v 1 s7]),(oC (BM ([(zI (Aj .i64 (Int.add x3 (1:Int))))]:LV) (0+k2*1) q2))]) (AL (BM ([(zI (Aj .i64 (Int.add x3 (1:Int))))]:LV) (0+k2*1) q2) (0+k3*1))) (AZ h22) (eC 1 (keep (hT 3 [(oC [zI z7,Sl.v 1 s6,Sl.v 1 s7]),(oC (BM ([(zI (Aj .i64 (Int.add x3 (1:Int))))]:LV) (0+k2*1) q2))]) (bb (Nat.blt k3 5) (some (.pointer (some ⟨2,(0+k3*1),none⟩))) none)) (AX h23) (eD (done (bb (an (Nat.ble ((0+k3*1)+1) (len (BM ([(zI (Aj .i64 (Int.add x3 (1:Int))))]:LV) (0+k2*1) q2))) true) (some (hT 3 [(oC [zI z7,Sl.v 1 s6,Sl.v 1 s7]),(oC (BM ([(zI (Aj .i64 (Int.sub x4 (1:Int))))]:LV) (0+k3*1) (BM ([(zI (Aj .i64 (Int.add x3 (1:Int))))]:LV) (0+k2*1) q2)))])) none) undef) (Js h24) (eE))))) ?_
         replace hm:=Ae hm;obtain⟨h25,hm⟩:=hm
         refine .ghs (fr 73 [(1,pt 1 0),(3,(pt 2 0)),(31,Sl.v 1 s5),(32,zI z5),(33,zI z6)]) (hT 3 [(oC [zI z7,Sl.v 1 s6,Sl.v 1 s7]),(oC (BM ([(zI (Aj .i64 (Int.sub x4 (1:Int))))]:LV) (0+k3*1) (BM ([(zI (Aj .i64 (Int.add x3 (1:Int))))]:LV) (0+k2*1) q2)))]) (.k [2] [false] [.tmp 1 false,.tmp 3 false] [1,3,31,32,33] ⟨DL h25,trivial⟩) ?_
         refine .rK ?_
         exact⟨(s5,z5,(Aj .i64 (Int.add z6 (1:Int))),z7,s6,s7,(BM ([(zI (Aj .i64 (Int.sub x4 (1:Int))))]:LV) (0+k3*1) (BM ([(zI (Aj .i64 (Int.add x3 (1:Int))))]:LV) (0+k2*1) q2))),hm,(.k [2] [false] [.tmp 1 false,.tmp 3 false] [1,3,31,32,33] ⟨DL h25,trivial⟩)⟩
       ·replace hm:=vK hm;obtain⟨b4,h26,hm⟩:=hm
        replace hm:=Ag hm;rcases hm with⟨h27,hm⟩ | ⟨h27,hm⟩
        ·refine .reg (eC 6 ((oo (pu 52 [(zI (0:Int)),(zI (bb (AY x2 x1) x2 x1)),(zI (Aj .i64 (Int.sub z2 (1:Int))))]) none fun v=>some (v,(hT 3 [(oC [zI z2,Sl.v 1 s3,Sl.v 1 s4]),oC q1])))) (AB h26) (eD (some ((zB (nt b4)),(hT 3 [(oC [zI z2,Sl.v 1 s3,Sl.v 1 s4]),oC q1]))) (show _=some ((zB true),_) from (by rw[show (nt b4)=true from h27])) (eE))) ?_
         exact⟨(x1,x2,s2,z0,(Int.ofNat k1),true,z2,s3,s4,q1),hm,(.k [2] [false] [.tmp 1 false,.tmp 3 false] [1,3,5,6,31,32,33,58] ⟨DL h5,trivial⟩)⟩
        ·refine .reg (eC 6 ((oo (pu 52 [(zI (0:Int)),(zI (bb (AY x2 x1) x2 x1)),(zI (Aj .i64 (Int.sub z2 (1:Int))))]) none fun v=>some (v,(hT 3 [(oC [zI z2,Sl.v 1 s3,Sl.v 1 s4]),oC q1])))) (AB h26) (eD (some ((zB (nt b4)),(hT 3 [(oC [zI z2,Sl.v 1 s3,Sl.v 1 s4]),oC q1]))) (show _=some ((zB false),_) from (by rw[show (nt b4)=false from h27])) (eE))) ?_
         exact⟨(x1,x2,s2,z0,(Int.ofNat k1),(nt (AY (bb (AY x1 x2) x2 x1) z2)),z2,s3,s4,q1),hm,(.k [2] [false] [.tmp 1 false,.tmp 3 false] [1,3,5,6,31,32,33,58] ⟨DL h5,trivial⟩)⟩
      ·refine G5 (AY z1 z0) h6 ?_
       refine .exit ?_
       exact⟨q1,hm,(.k [2] [false] [.tmp 3 false] [3] ⟨DL h5,trivial⟩)⟩
def R6 (pu:Af) (n:Nat) (z0:Int):OV:=
 (some (.int .u16 z0))
def R7 (pu:Af) (n:Nat) (ih0:Int→Sl→Int→Int→Int→Sl→Sl→OV) (z0:Int) (s0:Sl) (z1 z2 z3:Int) (s1 s2:Sl):OV:=
 (ih0 z0 s0 z1 (Aj .i64 (Int.add z2 (1:Int))) z3 s1 s2)
def R8 (pu:Af) (n:Nat) (ih0:Int→Sl→Int→Int→Int→Sl→Sl→OV) (z0:Int) (s0:Sl) (z1 z2 z3:Int) (s1 s2:Sl):OV:=
 (bb (AY z2 z1) (oo (EA z2) none fun k1=>(bb (an (Nat.blt k1 (Sl.n s0)) true) (oo (AL (Sl.cs s0) (k1*1)) none fun v0=>(oo (Bi .i64 v0) none fun x0=>(bb (an (Nat.blt k1 (Sl.n s2)) true) (oo (AL (Sl.cs s2) (k1*1)) none fun v1=>(oo (Bi .i64 v1) none fun x1=>(bb (nt (Bd x0 x1)) (R7 pu n ih0 (jF .u16 z0 (QW .u16 (1:Int) k1)) s0 z1 (Int.ofNat k1) z3 s1 s2) (R7 pu n ih0 z0 s0 z1 (Int.ofNat k1) z3 s1 s2)))) none))) none)) (R6 pu n z0))
def OA (pu:Af) (n w:Nat):Int→Sl→Int→Int→Int→Sl→Sl→OV:=
 Nat.rec (motive:=fun _=>Int→Sl→Int→Int→Int→Sl→Sl→OV) (fun _ _ _ _ _ _ _=>none) (fun _ ih0=>R8 pu n ih0) w
def vU (pu:Af) (n:Nat) (x0:Int) (s0 s1:Sl):OV:=
 (OA pu n n (0:Int) s0 (Int.ofNat (Sl.n s0)) (0:Int) x0 s0 s1)
def m51 (pu:Af) (n:Nat) (args:LV):OV:=
 (ll args none fun a0 args=>(ll args (oo (Bt a0) none fun l0=>(ll l0 none fun v0 l0=>(ll l0 none fun v1 l0=>(ll l0 none fun v2 l0=>(ll l0 (oo (Bi .i64 v0) none fun x0=>(oo (Bj 1 v1) none fun s0=>(oo (Bj 1 v2) none fun s1=>(vU pu n x0 s0 s1)))) fun _ _=>none))))) fun _ _=>none))
theorem vV (pu:Af) (n:Nat) (z0:Int) {v:Value} (hm:R6 pu n z0=some v):BN tt (Bb tabs Ir pu (inl pu)) 1 WK (fr 27 [(3,.int .u16 z0)]) FK (Fin tt 1 [.tmp 2] v):=by
 unfold R6 at hm
 refine .then (.rK (.ghs (fr 27 [(2,.int .u16 z0)]) FK (.k0 [false] [] [2]) ?_))
 refine .ret ?_
 exact Fb (.int .u16 z0) hm
theorem r51 {call:A8} (pu:Af) (n:Nat) (hcall:call=Bb tabs Ir pu (inl pu)) {args:LV} {v:Value} (hm:m51 pu n args=some v) (_:∀ x∈args,closed2 x=true):args.length≤27∧BN tt call 1 Qv (Fr.made 27 args) (Ao tabs) (Fin tt 1 [.tmp 2] v):=by
 subst hcall
 unfold m51 at hm
 replace hm:=Ad hm;obtain⟨a0,args_0,rfl,hm⟩:=hm
 replace hm:=AC hm;obtain⟨rfl,hm⟩:=hm
 replace hm:=BG hm;obtain⟨l0,rfl,hm⟩:=hm
 replace hm:=Ad hm;obtain⟨v0,l26905_0,rfl,hm⟩:=hm
 replace hm:=Ad hm;obtain⟨v1,l26905_1,rfl,hm⟩:=hm
 replace hm:=Ad hm;obtain⟨v2,l26905_2,rfl,hm⟩:=hm
 replace hm:=AC hm;obtain⟨rfl,hm⟩:=hm
 replace hm:=Ai hm;obtain⟨x0,rfl,hm⟩:=hm
 replace hm:=Al hm;obtain⟨s0,rfl,hm⟩:=hm
 replace hm:=Al hm;obtain⟨s1,rfl,hm⟩:=hm
 unfold vU at hm
 refine⟨by simp,?_⟩
 refine .same (F':=(fr 27 [(0,(.agg ⟨[zI x0,Sl.v 1 s0,Sl.v 1 s1]⟩))])) (H':=FK) (by kernel_rfl) (by kernel_rfl) ?_
 refine .then (.rK (.ghs (fr 27 [(1,pt 1 0)]) (hT 2 [(oC [zI x0,Sl.v 1 s0,Sl.v 1 s1])]) (.k0 [false] [.tmp 1 false] [1]) ?_))
 refine .then (.rK (.ghs (fr 27 [(1,pt 1 0),(3,(.int .u16 (0:Int)))]) (hT 2 [(oC [zI x0,Sl.v 1 s0,Sl.v 1 s1])]) (.k0 [false] [.tmp 1 false] [1,3]) ?_))
 refine .join (v:=v) (fun y:Int=>((fr 27 [(3,.int .u16 y)]),FK)) (fun y=>R6 pu n y) ?_ ?_
 ·rintro z0 hm
  exact vV pu n z0 hm
 ·refine .then (.rK (.ghs (fr 27 [(1,pt 1 0),(3,(.int .u16 (0:Int))),(7,Sl.v 1 s0),(8,(zI (Int.ofNat (Sl.n s0)))),(9,(zI (0:Int)))]) (hT 2 [(oC [zI x0,Sl.v 1 s0,Sl.v 1 s1])]) (.k0 [false] [.tmp 1 false] [1,3,7,8,9]) ?_))
  refine .block (.loopM (v:=v) (fun y:Int×Sl×Int×Int×Int×Sl×Sl=>((fr 27 [(1,pt 1 0),(3,(.int .u16 y.1)),(7,(Sl.v 1 y.2.1)),(8,(zI y.2.2.1)),(9,(zI y.2.2.2.1))]),(hT 2 [(oC [(zI y.2.2.2.2.1),(Sl.v 1 y.2.2.2.2.2.1),(Sl.v 1 y.2.2.2.2.2.2)])]))) (fun w y=>OA pu n w y.1 y.2.1 y.2.2.1 y.2.2.2.1 y.2.2.2.2.1 y.2.2.2.2.2.1 y.2.2.2.2.2.2) n ⟨((0:Int),s0,(Int.ofNat (Sl.n s0)),(0:Int),x0,s0,s1),hm,(.k0 [false] [.tmp 1 false] [1,3,7,8,9])⟩ (fun _=>rfl) ?_)
  rintro w0 ⟨z1,s2,z2,z3,z4,s3,s4⟩ hm
  replace hm:R8 pu n (OA pu n w0) z1 s2 z2 z3 z4 s3 s4=some v:=hm
  unfold R8 at hm
  refine .then (.rK (.ghs (fr 27 [(1,pt 1 0),(3,.int .u16 z1),(7,Sl.v 1 s2),(8,zI z2),(9,zI z3),(10,(zB (AY z3 z2)))]) (hT 2 [(oC [zI z4,Sl.v 1 s3,Sl.v 1 s4])]) (.k0 [false] [.tmp 1 false] [1,3,7,8,9,10]) ?_))
  refine .then ?_
  replace hm:=Ag hm;rcases hm with⟨h0,hm⟩ | ⟨h0,hm⟩
  ·refine Gy (AY z3 z2) h0 ?_
   refine .skip (.ghs (fr 27 [(1,pt 1 0),(3,.int .u16 z1),(7,Sl.v 1 s2),(8,zI z2),(9,zI z3)]) (hT 2 [(oC [zI z4,Sl.v 1 s3,Sl.v 1 s4])]) (.k0 [false] [.tmp 1 false] [1,3,7,8,9]) ?_)
   refine .join (v:=v) (fun y:Int×Sl×Int×Int×Int×Sl×Sl=>((fr 27 [(1,pt 1 0),(3,(.int .u16 y.1)),(7,(Sl.v 1 y.2.1)),(8,(zI y.2.2.1)),(9,(zI y.2.2.2.1))]),(hT 2 [(oC [(zI y.2.2.2.2.1),(Sl.v 1 y.2.2.2.2.2.1),(Sl.v 1 y.2.2.2.2.2.2)])]))) (fun y=>R7 pu n (OA pu n w0) y.1 y.2.1 y.2.2.1 y.2.2.2.1 y.2.2.2.2.1 y.2.2.2.2.2.1 y.2.2.2.2.2.2) ?_ ?_
   ·rintro⟨z5,s5,z6,z7,z8,s6,s7⟩ hm
    unfold R7 at hm
    refine .rK ?_
    exact⟨(z5,s5,z6,(Aj .i64 (Int.add z7 (1:Int))),z8,s6,s7),hm,(.k0 [false] [.tmp 1 false] [1,3,7,8,9])⟩
   ·refine .block (.then ?_)
    replace hm:=Ab hm;obtain⟨k1,h1,hm⟩:=hm
    obtain rfl:=AR h1
    replace hm:=Ae hm;obtain⟨h2,hm⟩:=hm
    replace hm:=Gq hm;obtain⟨x1,h3,hm⟩:=hm
    refine .reg (eC 1 (keep (hT 2 [(oC [zI z4,Sl.v 1 s3,Sl.v 1 s4])]) (bb (an (Nat.blt k1 (Sl.n s2)) true) (some (Cv (k1*1) (Sl.cs s2))) none)) (AX h2) (eD (keep (hT 2 [(oC [zI z4,Sl.v 1 s3,Sl.v 1 s4])]) (AL (Sl.cs s2) (k1*1))) (AZ h3) (eE))) ?_
    refine .ghs (fr 27 [(1,pt 1 0),(3,.int .u16 z1),(4,(zI (Int.ofNat k1))),(5,zI x1),(7,Sl.v 1 s2),(8,zI z2),(9,(zI (Int.ofNat k1)))]) (hT 2 [(oC [zI z4,Sl.v 1 s3,Sl.v 1 s4])]) (.k0 [false] [.tmp 1 false] [1,3,4,5,7,8,9]) ?_
    refine .then ?_
    replace hm:=Ae hm;obtain⟨h4,hm⟩:=hm
    replace hm:=Gq hm;obtain⟨x2,h5,hm⟩:=hm
    refine .reg (eC 4 (keep (hT 2 [(oC [zI z4,Sl.v 1 s3,Sl.v 1 s4])]) (bb (an (Nat.blt k1 (Sl.n s4)) true) (some (Cv (k1*1) (Sl.cs s4))) none)) (AX h4) (eD (keep (hT 2 [(oC [zI z4,Sl.v 1 s3,Sl.v 1 s4])]) (AL (Sl.cs s4) (k1*1))) (AZ h5) (eE))) ?_
    refine .ghs (fr 27 [(1,pt 1 0),(3,.int .u16 z1),(4,(zI (Int.ofNat k1))),(7,Sl.v 1 s2),(8,zI z2),(9,(zI (Int.ofNat k1))),(20,(zB (nt (Bd x1 x2))))]) (hT 2 [(oC [zI z4,Sl.v 1 s3,Sl.v 1 s4])]) (.k0 [false] [.tmp 1 false] [1,3,4,7,8,9,20]) ?_
    replace hm:=Ag hm;rcases hm with⟨h6,hm⟩ | ⟨h6,hm⟩
    ·refine Gy (nt (Bd x1 x2)) h6 ?_
     refine .rK ?_
     exact⟨((jF .u16 z1 (QW .u16 (1:Int) k1)),s2,z2,(Int.ofNat k1),z4,s3,s4),hm,(.k0 [false] [.tmp 1 false] [1,3,7,8,9])⟩
    ·refine G5 (nt (Bd x1 x2)) h6 ?_
     refine .skip ?_
     exact⟨(z1,s2,z2,(Int.ofNat k1),z4,s3,s4),hm,(.k0 [false] [.tmp 1 false] [1,3,7,8,9])⟩
  ·refine G5 (AY z3 z2) h0 ?_
   refine .exit ?_
   exact⟨z1,hm,(.k0 [false] [] [3])⟩
def R9 (pu:Af) (n:Nat) (b0:Bool):OV:=
 (some (.bool b0))
def vW (pu:Af) (n:Nat) (x0 x1 x2:Int):OV:=
 (bb (nt (AY x1 x0)) (R9 pu n (nt (AY x2 x1))) (R9 pu n false))
def m52 (pu:Af) (n:Nat) (args:LV):OV:=
 (ll args none fun a0 args=>(ll args none fun a1 args=>(ll args none fun a2 args=>(ll args (oo (Bi .i64 a0) none fun x0=>(oo (Bi .i64 a1) none fun x1=>(oo (Bi .i64 a2) none fun x2=>(vW pu n x0 x1 x2)))) fun _ _=>none))))
theorem vX (pu:Af) (n:Nat) (b0:Bool) {v:Value} (hm:R9 pu n b0=some v):BN tt (Bb tabs Ir pu (inl pu)) 1 .ret (fr 15 [(6,zB b0)]) FK (Fin tt 1 [.tmp 6] v):=by
 unfold R9 at hm
 refine .ret ?_
 exact Fb (zB b0) hm
theorem r52 {call:A8} (pu:Af) (n:Nat) (hcall:call=Bb tabs Ir pu (inl pu)) {args:LV} {v:Value} (hm:m52 pu n args=some v) (_:∀ x∈args,closed2 x=true):args.length≤15∧BN tt call 1 UD (Fr.made 15 args) (Ao tabs) (Fin tt 1 [.tmp 6] v):=by
 subst hcall
 unfold m52 at hm
 replace hm:=Ad hm;obtain⟨a0,args_0,rfl,hm⟩:=hm
 replace hm:=Ad hm;obtain⟨a1,args_1,rfl,hm⟩:=hm
 replace hm:=Ad hm;obtain⟨a2,args_2,rfl,hm⟩:=hm
 replace hm:=AC hm;obtain⟨rfl,hm⟩:=hm
 replace hm:=Ai hm;obtain⟨x0,rfl,hm⟩:=hm
 replace hm:=Ai hm;obtain⟨x1,rfl,hm⟩:=hm
 replace hm:=Ai hm;obtain⟨x2,rfl,hm⟩:=hm
 unfold vW at hm
 refine⟨by simp,?_⟩
 refine .same (F':=(fr 15 [(0,zI x0),(1,zI x1),(2,zI x2)])) (H':=FK) (by kernel_rfl) (by kernel_rfl) ?_
 refine .then (.rK (.ghs (fr 15 [(0,zI x0),(1,zI x1),(2,zI x2)]) FK (.k0 [false] [] [0,1,2]) ?_))
 refine .join (v:=v) (fun y:Bool=>((fr 15 [(6,zB y)]),FK)) (fun y=>R9 pu n y) ?_ ?_
 ·rintro b0 hm
  exact vX pu n b0 hm
 ·replace hm:=Ag hm;rcases hm with⟨h0,hm⟩ | ⟨h0,hm⟩
  ·refine .reg (eC 2 (some ((zB (nt (AY x1 x0))),FK)) (show _=some ((zB true),_) from (by rw[show (nt (AY x1 x0))=true from h0])) (eE)) ?_
   exact⟨(nt (AY x2 x1)),hm,(.k0 [false] [] [6])⟩
  ·refine .reg (eC 2 (some ((zB (nt (AY x1 x0))),FK)) (show _=some ((zB false),_) from (by rw[show (nt (AY x1 x0))=false from h0])) (eE)) ?_
   exact⟨false,hm,(.k0 [false] [] [6])⟩

def Yv (pu:Af) (n:Nat) (x0 x1:Int):OV:=
 (oo (EA x1) none fun k1=>(some (.bool (Bd (Np .u16 (G6 .u16 x0 k1) (1:Int)) (1:Int)))))
def m53 (pu:Af) (n:Nat) (args:LV):OV:=
 (ll args none fun a0 args=>(ll args none fun a1 args=>(ll args (oo (Bi .u16 a0) none fun x0=>(oo (Bi .i64 a1) none fun x1=>(Yv pu n x0 x1))) fun _ _=>none)))
theorem r53 {call:A8} (pu:Af) (n:Nat) (hcall:call=Bb tabs Ir pu (inl pu)) {args:LV} {v:Value} (hm:m53 pu n args=some v) (_:∀ x∈args,closed2 x=true):args.length≤10∧BN tt call 1 UE (Fr.made 10 args) (Ao tabs) (Fin tt 1 [.tmp 4] v):=by
 subst hcall
 unfold m53 at hm
 replace hm:=Ad hm;obtain⟨a0,args_0,rfl,hm⟩:=hm
 replace hm:=Ad hm;obtain⟨a1,args_1,rfl,hm⟩:=hm
 replace hm:=AC hm;obtain⟨rfl,hm⟩:=hm
 replace hm:=Ai hm;obtain⟨x0,rfl,hm⟩:=hm
 replace hm:=Ai hm;obtain⟨x1,rfl,hm⟩:=hm
 unfold Yv at hm
 refine⟨by simp,?_⟩
 refine .same (F':=(fr 10 [(0,.int .u16 x0),(1,zI x1)])) (H':=FK) (by kernel_rfl) (by kernel_rfl) ?_
 refine .then (.rK (.ghs (fr 10 [(0,.int .u16 x0),(1,zI x1)]) FK (.k0 [false] [] [0,1]) ?_))
 refine .then ?_
 replace hm:=Ab hm;obtain⟨k1,h0,hm⟩:=hm
 obtain rfl:=AR h0
 refine .rK (.ghs (fr 10 [(4,(zB (Bd (Np .u16 (G6 .u16 x0 k1) (1:Int)) (1:Int))))]) FK (.k0 [false] [] [4]) ?_)
 refine .ret ?_
 exact Fb (zB (Bd (Np .u16 (G6 .u16 x0 k1) (1:Int)) (1:Int))) hm
def Pg (pu:Af) (n n0 c0:Nat) (q0:LV):OV:=
 (bb (Au Ah q0) (bb (an (Nat.ble (0+n0*1) (len q0)) (Au Ah (Aq (n0*1) (Am 0 q0)))) (some (Sl.v 1 (Sl.mk n0 0 (Aq (n0*1) (Am 0 q0))))) none) none)
def OB (pu:Af) (n:Nat) (ih0:Nat→Nat→Sl→Int→Int→Nat→Nat→Nat→Nat→Nat→Nat→Nat→Nat→Nat→Nat→Nat→Nat→Nat→Nat→Nat→LV→LV→LV→LV→LV→LV→OV) (n0 c0:Nat) (s0:Sl) (z0 z1:Int) (n1 n2 c1 n3 n4 c2 n5 n6 c3 n7 n8 c4 n9 n10 c5:Nat) (q0:LV) (q1:LV) (q2:LV) (q3:LV) (q4:LV) (q5:LV):OV:=
 (bb (Au Ah q0) (bb (Au Ah q1) (bb (Au Ah q2) (bb (Au Ah q3) (bb (Au Ah q4) (bb (Au Ah q5) (bb (AY z1 z0) (oo (EA z1) none fun k1=>(bb (an (Nat.blt k1 (Sl.n s0)) true) (oo (AL (Sl.cs s0) (k1*1)) none fun v0=>(oo (Bi .i64 v0) none fun x0=>(oo (EA x0) none fun k2=>(bb (Nat.beq k2 0) (bb (an (Nat.blt 0 n2) true) (oo (AL q1 (n1+0*1)) none fun v1=>(oo (Bi .i64 v1) none fun x1=>(bb (Nat.ble 1 n2) (bb (GV 1 8 n0 c0 1 q0) (bb (Au Ah (Br (Am 0 q0) [.int .i64 x1])) (ih0 (n0+1) (2*(n0+1)+bb false 1 0) s0 z0 (Aj .i64 (Int.add (Int.ofNat k1) (1:Int))) (n1+1*1) (n2 - 1) (2*(c1 / 2 - 1)+bb (Dp false (Nat.beq (c1 % 2) 1)) 1 0) n3 n4 c2 n5 n6 c3 n7 n8 c4 n9 n10 c5 (Br (Am 0 q0) [.int .i64 x1]) q1 q2 q3 q4 q5) none) none) none))) none) (bb (Nat.beq k2 1) (bb (an (Nat.blt 0 n4) true) (oo (AL q2 (n3+0*1)) none fun v2=>(oo (Bi .i64 v2) none fun x2=>(bb (Nat.ble 1 n4) (bb (GV 1 8 n0 c0 1 q0) (bb (Au Ah (Br (Am 0 q0) [.int .i64 x2])) (ih0 (n0+1) (2*(n0+1)+bb false 1 0) s0 z0 (Aj .i64 (Int.add (Int.ofNat k1) (1:Int))) n1 n2 c1 (n3+1*1) (n4 - 1) (2*(c2 / 2 - 1)+bb (Dp false (Nat.beq (c2 % 2) 1)) 1 0) n5 n6 c3 n7 n8 c4 n9 n10 c5 (Br (Am 0 q0) [.int .i64 x2]) q1 q2 q3 q4 q5) none) none) none))) none) (bb (Nat.beq k2 2) (bb (an (Nat.blt 0 n6) true) (oo (AL q3 (n5+0*1)) none fun v3=>(oo (Bi .i64 v3) none fun x3=>(bb (Nat.ble 1 n6) (bb (GV 1 8 n0 c0 1 q0) (bb (Au Ah (Br (Am 0 q0) [.int .i64 x3])) (ih0 (n0+1) (2*(n0+1)+bb false 1 0) s0 z0 (Aj .i64 (Int.add (Int.ofNat k1) (1:Int))) n1 n2 c1 n3 n4 c2 (n5+1*1) (n6 - 1) (2*(c3 / 2 - 1)+bb (Dp false (Nat.beq (c3 % 2) 1)) 1 0) n7 n8 c4 n9 n10 c5 (Br (Am 0 q0) [.int .i64 x3]) q1 q2 q3 q4 q5) none) none) none))) none) (bb (Nat.beq k2 3) (bb (an (Nat.blt 0 n8) true) (oo (AL q4 (n7+0*1)) none fun v4=>(oo (Bi .i64 v4) none fun x4=>(bb (Nat.ble 1 n8) (bb (GV 1 8 n0 c0 1 q0) (bb (Au Ah (Br (Am 0 q0) [.int .i64 x4])) (ih0 (n0+1) (2*(n0+1)+bb false 1 0) s0 z0 (Aj .i64 (Int.add (Int.ofNat k1) (1:Int))) n1 n2 c1 n3 n4 c2 n5 n6 c3 (n7+1*1) (n8 - 1) (2*(c4 / 2 - 1)+bb (Dp false (Nat.beq (c4 % 2) 1)) 1 0) n9 n10 c5 (Br (Am 0 q0) [.int .i64 x4]) q1 q2 q3 q4 q5) none) none) none))) none) (bb (Nat.beq k2 4) (bb (an (Nat.blt 0 n10) true) (oo (AL q5 (n9+0*1)) none fun v5=>(oo (Bi .i64 v5) none fun x5=>(bb (Nat.ble 1 n10) (bb (GV 1 8 n0 c0 1 q0) (bb (Au Ah (Br (Am 0 q0) [.int .i64 x5])) (ih0 (n0+1) (2*(n0+1)+bb false 1 0) s0 z0 (Aj .i64 (Int.add (Int.ofNat k1) (1:Int))) n1 n2 c1 n3 n4 c2 n5 n6 c3 n7 n8 c4 (n9+1*1) (n10 - 1) (2*(c5 / 2 - 1)+bb (Dp false (Nat.beq (c5 % 2) 1)) 1 0) (Br (Am 0 q0) [.int .i64 x5]) q1 q2 q3 q4 q5) none) none) none))) none) none)))))))) none)) (Pg pu n n0 c0 q0)) none) none) none) none) none) none)
def Ph (pu:Af) (n w:Nat):Nat→Nat→Sl→Int→Int→Nat→Nat→Nat→Nat→Nat→Nat→Nat→Nat→Nat→Nat→Nat→Nat→Nat→Nat→Nat→LV→LV→LV→LV→LV→LV→OV:=
 Nat.rec (motive:=fun _=>Nat→Nat→Sl→Int→Int→Nat→Nat→Nat→Nat→Nat→Nat→Nat→Nat→Nat→Nat→Nat→Nat→Nat→Nat→Nat→LV→LV→LV→LV→LV→LV→OV) (fun _ _ _ _ _ _ _ _ _ _ _ _ _ _ _ _ _ _ _ _ _ _ _ _ _ _=>none) (fun _ ih0=>OB pu n ih0) w
def Pi (pu:Af) (n:Nat) (z0:Int) (s0 s1:Sl) (n0 c0 n1 c1 n2 c2 n3 c3 n4 c4:Nat) (q0:LV) (q1:LV) (q2:LV) (q3:LV) (q4:LV):OV:=
 (bb (Au Ah q0) (bb (Au Ah q1) (bb (Au Ah q2) (bb (Au Ah q3) (bb (Au Ah q4) (Ph pu n n 0 0 s1 (Int.ofNat (Sl.n s1)) (0:Int) 0 n0 c0 0 n1 c1 0 n2 c2 0 n3 c3 0 n4 c4 ([]:LV) q0 q1 q2 q3 q4) none) none) none) none) none)
def OC (pu:Af) (n:Nat) (ih0:Sl→Int→Int→Int→Sl→Sl→Nat→Nat→Nat→Nat→Nat→Nat→Nat→Nat→Nat→Nat→LV→LV→LV→LV→LV→OV) (s0:Sl) (z0 z1 z2:Int) (s1 s2:Sl) (n0 c0 n1 c1 n2 c2 n3 c3 n4 c4:Nat) (q0:LV) (q1:LV) (q2:LV) (q3:LV) (q4:LV):OV:=
 (bb (Au Ah q0) (bb (Au Ah q1) (bb (Au Ah q2) (bb (Au Ah q3) (bb (Au Ah q4) (bb (AY z1 z0) (oo (EA z1) none fun k1=>(bb (an (Nat.blt k1 (Sl.n s0)) true) (oo (AL (Sl.cs s0) (k1*1)) none fun v0=>(oo (Bi .i64 v0) none fun x0=>(oo (EA x0) none fun k2=>(bb (Nat.beq k2 0) (bb (GV 1 8 n0 c0 1 q0) (bb (Au Ah (Br (Am 0 q0) [(.int .i64 (Int.ofNat k1))])) (ih0 s0 z0 (Aj .i64 (Int.add (Int.ofNat k1) (1:Int))) z2 s1 s2 (n0+1) (2*(n0+1)+bb false 1 0) n1 c1 n2 c2 n3 c3 n4 c4 (Br (Am 0 q0) [(.int .i64 (Int.ofNat k1))]) q1 q2 q3 q4) none) none) (bb (Nat.beq k2 1) (bb (GV 1 8 n1 c1 1 q1) (bb (Au Ah (Br (Am 0 q1) [(.int .i64 (Int.ofNat k1))])) (ih0 s0 z0 (Aj .i64 (Int.add (Int.ofNat k1) (1:Int))) z2 s1 s2 n0 c0 (n1+1) (2*(n1+1)+bb false 1 0) n2 c2 n3 c3 n4 c4 q0 (Br (Am 0 q1) [(.int .i64 (Int.ofNat k1))]) q2 q3 q4) none) none) (bb (Nat.beq k2 2) (bb (GV 1 8 n2 c2 1 q2) (bb (Au Ah (Br (Am 0 q2) [(.int .i64 (Int.ofNat k1))])) (ih0 s0 z0 (Aj .i64 (Int.add (Int.ofNat k1) (1:Int))) z2 s1 s2 n0 c0 n1 c1 (n2+1) (2*(n2+1)+bb false 1 0) n3 c3 n4 c4 q0 q1 (Br (Am 0 q2) [(.int .i64 (Int.ofNat k1))]) q3 q4) none) none) (bb (Nat.beq k2 3) (bb (GV 1 8 n3 c3 1 q3) (bb (Au Ah (Br (Am 0 q3) [(.int .i64 (Int.ofNat k1))])) (ih0 s0 z0 (Aj .i64 (Int.add (Int.ofNat k1) (1:Int))) z2 s1 s2 n0 c0 n1 c1 n2 c2 (n3+1) (2*(n3+1)+bb false 1 0) n4 c4 q0 q1 q2 (Br (Am 0 q3) [(.int .i64 (Int.ofNat k1))]) q4) none) none) (bb (Nat.beq k2 4) (bb (GV 1 8 n4 c4 1 q4) (bb (Au Ah (Br (Am 0 q4) [(.int .i64 (Int.ofNat k1))])) (ih0 s0 z0 (Aj .i64 (Int.add (Int.ofNat k1) (1:Int))) z2 s1 s2 n0 c0 n1 c1 n2 c2 n3 c3 (n4+1) (2*(n4+1)+bb false 1 0) q0 q1 q2 q3 (Br (Am 0 q4) [(.int .i64 (Int.ofNat k1))])) none) none) none)))))))) none)) (Pi pu n z2 s1 s2 n0 c0 n1 c1 n2 c2 n3 c3 n4 c4 q0 q1 q2 q3 q4)) none) none) none) none) none)
def Pj (pu:Af) (n w:Nat):Sl→Int→Int→Int→Sl→Sl→Nat→Nat→Nat→Nat→Nat→Nat→Nat→Nat→Nat→Nat→LV→LV→LV→LV→LV→OV:=
 Nat.rec (motive:=fun _=>Sl→Int→Int→Int→Sl→Sl→Nat→Nat→Nat→Nat→Nat→Nat→Nat→Nat→Nat→Nat→LV→LV→LV→LV→LV→OV) (fun _ _ _ _ _ _ _ _ _ _ _ _ _ _ _ _ _ _ _ _ _=>none) (fun _ ih0=>OC pu n ih0) w
def Yw (pu:Af) (n:Nat) (x0:Int) (s0 s1:Sl):OV:=
 (Pj pu n n s0 (Int.ofNat (Sl.n s0)) (0:Int) x0 s0 s1 0 0 0 0 0 0 0 0 0 0 ([]:LV) ([]:LV) ([]:LV) ([]:LV) ([]:LV))
def pM (pu:Af) (n:Nat) (args:LV):OV:=
 (ll args none fun a0 args=>(ll args (oo (Bt a0) none fun l0=>(ll l0 none fun v0 l0=>(ll l0 none fun v1 l0=>(ll l0 none fun v2 l0=>(ll l0 (oo (Bi .i64 v0) none fun x0=>(oo (Bj 1 v1) none fun s0=>(oo (Bj 1 v2) none fun s1=>(Yw pu n x0 s0 s1)))) fun _ _=>none))))) fun _ _=>none))
theorem vY (pu:Af) (n n0 c0:Nat) (q0:LV) {v:Value} (hm:Pg pu n n0 c0 q0=some v):BN tt (Bb tabs Ir pu (inl pu)) 1 WL (fr 49 [(6,sc 1 0 1 n0 c0)]) (hT 2 [oC q0]) (Fin tt 1 [.tmp 2] v):=by
 unfold Pg at hm
 refine .then (.rK ?_)
 replace hm:=Ae hm;obtain⟨h0,hm⟩:=hm
 refine .ghs (fr 49 [(2,sc 1 0 1 n0 c0)]) (hT 2 [oC q0]) (.k [1] [false] [.tmp 2 false] [2] ⟨DL h0,trivial⟩) ?_
 replace hm:=Ae hm;obtain⟨h1,hm⟩:=hm
 refine .ghs (Fr.puts (fr 49 [(2,sc 1 0 1 n0 c0)]) [(2,(Sl.v 1 (Sl.mk n0 0 (Aq (n0*1) (Am 0 q0)))))]) (hT 2 [.dead]) (.freezeC 1 2 1 (an (Nat.ble (0+n0*1) (len q0)) (Au Ah (Aq (n0*1) (Am 0 q0)))) (F1:=(Fr.puts (fr 49 [(2,sc 1 0 1 n0 c0)]) [(2,(Sl.v 1 (Sl.mk n0 0 (Aq (n0*1) (Am 0 q0)))))])) (H1:=(hT 2 [.dead])) (by kernel_rfl) (by kernel_rfl) h1 (E9.id _ _)) ?_
 refine .ret ?_
 exact Fb (Sl.v 1 (Sl.mk n0 0 (Aq (n0*1) (Am 0 q0)))) hm
theorem vZ (pu:Af) (n:Nat) (z0:Int) (s0 s1:Sl) (n0 c0 n1 c1 n2 c2 n3 c3 n4 c4:Nat) (q0:LV) (q1:LV) (q2:LV) (q3:LV) (q4:LV) {v:Value} (hm:Pi pu n z0 s0 s1 n0 c0 n1 c1 n2 c2 n3 c3 n4 c4 q0 q1 q2 q3 q4=some v):BN tt (Bb tabs Ir pu (inl pu)) 1 WM (fr 49 [(1,pt 1 0),(3,(pt 2 0))]) (hT 8 [(oC [zI z0,Sl.v 1 s0,Sl.v 1 s1]),(oC [sc 3 0 1 n0 c0,sc 4 0 1 n1 c1,sc 5 0 1 n2 c2,sc 6 0 1 n3 c3,sc 7 0 1 n4 c4]),oC q0,oC q1,oC q2,oC q3,oC q4]) (Fin tt 1 [.tmp 2] v):=by
 unfold Pi at hm
 refine .then (.rK ?_)
 replace hm:=Ae hm;obtain⟨h0,hm⟩:=hm
 replace hm:=Ae hm;obtain⟨h1,hm⟩:=hm
 replace hm:=Ae hm;obtain⟨h2,hm⟩:=hm
 replace hm:=Ae hm;obtain⟨h3,hm⟩:=hm
 replace hm:=Ae hm;obtain⟨h4,hm⟩:=hm
 refine .ghs (fr 49 [(1,pt 1 0),(3,(pt 2 0)),(6,(.slice none 0 0))]) (hT 8 [(oC [zI z0,Sl.v 1 s0,Sl.v 1 s1]),(oC [sc 3 0 1 n0 c0,sc 4 0 1 n1 c1,sc 5 0 1 n2 c2,sc 6 0 1 n3 c3,sc 7 0 1 n4 c4]),oC q0,oC q1,oC q2,oC q3,oC q4]) (.k [3,4,5,6,7] [false] [.tmp 1 false,.tmp 3 true,.cell 2 0 false,.cell 2 1 false,.cell 2 2 false,.cell 2 3 false,.cell 2 4 false] [1,3,6] ⟨DL h0,DL h1,DL h2,DL h3,DL h4,trivial⟩) ?_
 refine .join (v:=v) (fun y:Nat×Nat×LV=>((fr 49 [(6,(sc 1 0 1 y.1 y.2.1))]),(hT 2 [(oC y.2.2)]))) (fun y=>Pg pu n y.1 y.2.1 y.2.2) ?_ ?_
 ·rintro⟨n5,c5,q5⟩ hm
  exact vY pu n n5 c5 q5 hm
 ·refine .then (.rK (.ghs (fr 49 [(3,pt 1 0),(6,(.slice none 0 0)),(27,Sl.v 1 s1),(28,(zI (Int.ofNat (Sl.n s1)))),(29,(zI (0:Int)))]) (hT 7 [(oC [sc 2 0 1 n0 c0,sc 3 0 1 n1 c1,sc 4 0 1 n2 c2,sc 5 0 1 n3 c3,sc 6 0 1 n4 c4]),oC q0,oC q1,oC q2,oC q3,oC q4]) (.k [3,4,5,6,7] [false] [.tmp 3 true,.cell 1 0 false,.cell 1 1 false,.cell 1 2 false,.cell 1 3 false,.cell 1 4 false] [3,6,27,28,29] ⟨DL h0,DL h1,DL h2,DL h3,DL h4,trivial⟩) ?_))
  refine .block (.loopM (v:=v) (fun y:Nat×Nat×Sl×Int×Int×Nat×Nat×Nat×Nat×Nat×Nat×Nat×Nat×Nat×Nat×Nat×Nat×Nat×Nat×Nat×LV×LV×LV×LV×LV×LV=>((fr 49 [(3,pt 1 0),(6,(sc 2 0 1 y.1 y.2.1)),(27,(Sl.v 1 y.2.2.1)),(28,(zI y.2.2.2.1)),(29,(zI y.2.2.2.2.1))]),(hT 8 [(oC [(.slice (some ⟨3,y.2.2.2.2.2.1,some 1⟩) y.2.2.2.2.2.2.1 y.2.2.2.2.2.2.2.1),(.slice (some ⟨4,y.2.2.2.2.2.2.2.2.1,some 1⟩) y.2.2.2.2.2.2.2.2.2.1 y.2.2.2.2.2.2.2.2.2.2.1),(.slice (some ⟨5,y.2.2.2.2.2.2.2.2.2.2.2.1,some 1⟩) y.2.2.2.2.2.2.2.2.2.2.2.2.1 y.2.2.2.2.2.2.2.2.2.2.2.2.2.1),(.slice (some ⟨6,y.2.2.2.2.2.2.2.2.2.2.2.2.2.2.1,some 1⟩) y.2.2.2.2.2.2.2.2.2.2.2.2.2.2.2.1 y.2.2.2.2.2.2.2.2.2.2.2.2.2.2.2.2.1),(.slice (some ⟨7,y.2.2.2.2.2.2.2.2.2.2.2.2.2.2.2.2.2.1,some 1⟩) y.2.2.2.2.2.2.2.2.2.2.2.2.2.2.2.2.2.2.1 y.2.2.2.2.2.2.2.2.2.2.2.2.2.2.2.2.2.2.2.1)]),(oC y.2.2.2.2.2.2.2.2.2.2.2.2.2.2.2.2.2.2.2.2.1),(oC y.2.2.2.2.2.2.2.2.2.2.2.2.2.2.2.2.2.2.2.2.2.1),(oC y.2.2.2.2.2.2.2.2.2.2.2.2.2.2.2.2.2.2.2.2.2.2.1),(oC y.2.2.2.2.2.2.2.2.2.2.2.2.2.2.2.2.2.2.2.2.2.2.2.1),(oC y.2.2.2.2.2.2.2.2.2.2.2.2.2.2.2.2.2.2.2.2.2.2.2.2.1),(oC y.2.2.2.2.2.2.2.2.2.2.2.2.2.2.2.2.2.2.2.2.2.2.2.2.2)]))) (fun w y=>Ph pu n w y.1 y.2.1 y.2.2.1 y.2.2.2.1 y.2.2.2.2.1 y.2.2.2.2.2.1 y.2.2.2.2.2.2.1 y.2.2.2.2.2.2.2.1 y.2.2.2.2.2.2.2.2.1 y.2.2.2.2.2.2.2.2.2.1 y.2.2.2.2.2.2.2.2.2.2.1 y.2.2.2.2.2.2.2.2.2.2.2.1 y.2.2.2.2.2.2.2.2.2.2.2.2.1 y.2.2.2.2.2.2.2.2.2.2.2.2.2.1 y.2.2.2.2.2.2.2.2.2.2.2.2.2.2.1 y.2.2.2.2.2.2.2.2.2.2.2.2.2.2.2.1 y.2.2.2.2.2.2.2.2.2.2.2.2.2.2.2.2.1 y.2.2.2.2.2.2.2.2.2.2.2.2.2.2.2.2.2.1 y.2.2.2.2.2.2.2.2.2.2.2.2.2.2.2.2.2.2.1 y.2.2.2.2.2.2.2.2.2.2.2.2.2.2.2.2.2.2.2.1 y.2.2.2.2.2.2.2.2.2.2.2.2.2.2.2.2.2.2.2.2.1 y.2.2.2.2.2.2.2.2.2.2.2.2.2.2.2.2.2.2.2.2.2.1 y.2.2.2.2.2.2.2.2.2.2.2.2.2.2.2.2.2.2.2.2.2.2.1 y.2.2.2.2.2.2.2.2.2.2.2.2.2.2.2.2.2.2.2.2.2.2.2.1 y.2.2.2.2.2.2.2.2.2.2.2.2.2.2.2.2.2.2.2.2.2.2.2.2.1 y.2.2.2.2.2.2.2.2.2.2.2.2.2.2.2.2.2.2.2.2.2.2.2.2.2) n ⟨(0,0,s1,(Int.ofNat (Sl.n s1)),(0:Int),0,n0,c0,0,n1,c1,0,n2,c2,0,n3,c3,0,n4,c4,([]:LV),q0,q1,q2,q3,q4),hm,(.thaw 6 1 (by kernel_rfl) (.k [2,3,4,5,6] [false] [.tmp 3 true,.tmp 6 false,.cell 1 0 false,.cell 1 1 false,.cell 1 2 false,.cell 1 3 false,.cell 1 4 false] [3,6,27,28,29] ⟨DL h0,DL h1,DL h2,DL h3,DL h4,trivial⟩))⟩ (fun _=>rfl) ?_)
  rintro w0 ⟨n6,c6,s2,z1,z2,n7,n8,c8,n9,n10,c9,n11,n12,c10,n13,n14,c11,n15,n16,c14,q6,q8,q9,q10,q11,q12⟩ hm
  replace hm:OB pu n (Ph pu n w0) n6 c6 s2 z1 z2 n7 n8 c8 n9 n10 c9 n11 n12 c10 n13 n14 c11 n15 n16 c14 q6 q8 q9 q10 q11 q12=some v:=hm
  unfold OB at hm
  refine .then (.rK ?_)
  replace hm:=Ae hm;obtain⟨h5,hm⟩:=hm
  replace hm:=Ae hm;obtain⟨h6,hm⟩:=hm
  replace hm:=Ae hm;obtain⟨h7,hm⟩:=hm
  replace hm:=Ae hm;obtain⟨h8,hm⟩:=hm
  replace hm:=Ae hm;obtain⟨h9,hm⟩:=hm
  replace hm:=Ae hm;obtain⟨h10,hm⟩:=hm
  refine .ghs (fr 49 [(3,pt 1 0),(6,sc 2 0 1 n6 c6),(27,Sl.v 1 s2),(28,zI z1),(29,zI z2),(30,(zB (AY z2 z1)))]) (hT 8 [(oC [(.slice (some ⟨3,n7,some 1⟩) n8 c8),(.slice (some ⟨4,n9,some 1⟩) n10 c9),(.slice (some ⟨5,n11,some 1⟩) n12 c10),(.slice (some ⟨6,n13,some 1⟩) n14 c11),(.slice (some ⟨7,n15,some 1⟩) n16 c14)]),oC q6,oC q8,oC q9,oC q10,oC q11,oC q12]) (.k [2,3,4,5,6,7] [false] [.tmp 3 true,.tmp 6 false,.cell 1 0 false,.cell 1 1 false,.cell 1 2 false,.cell 1 3 false,.cell 1 4 false] [3,6,27,28,29,30] ⟨DL h5,DL h6,DL h7,DL h8,DL h9,DL h10,trivial⟩) ?_
  refine .then ?_
  replace hm:=Ag hm;rcases hm with⟨h11,hm⟩ | ⟨h11,hm⟩
  ·refine Gy (AY z2 z1) h11 ?_
   refine .skip (.ghs (fr 49 [(3,pt 1 0),(6,sc 2 0 1 n6 c6),(27,Sl.v 1 s2),(28,zI z1),(29,zI z2)]) (hT 8 [(oC [(.slice (some ⟨3,n7,some 1⟩) n8 c8),(.slice (some ⟨4,n9,some 1⟩) n10 c9),(.slice (some ⟨5,n11,some 1⟩) n12 c10),(.slice (some ⟨6,n13,some 1⟩) n14 c11),(.slice (some ⟨7,n15,some 1⟩) n16 c14)]),oC q6,oC q8,oC q9,oC q10,oC q11,oC q12]) (.k [2,3,4,5,6,7] [false] [.tmp 3 true,.tmp 6 false,.cell 1 0 false,.cell 1 1 false,.cell 1 2 false,.cell 1 3 false,.cell 1 4 false] [3,6,27,28,29] ⟨DL h5,DL h6,DL h7,DL h8,DL h9,DL h10,trivial⟩) ?_)
   refine .then (.block (.then ?_))
   replace hm:=Ab hm;obtain⟨k1,h12,hm⟩:=hm
   obtain rfl:=AR h12
   replace hm:=Ae hm;obtain⟨h13,hm⟩:=hm
   replace hm:=Gq hm;obtain⟨x0,h14,hm⟩:=hm
   refine .reg (eD (keep (hT 8 [(oC [(.slice (some ⟨3,n7,some 1⟩) n8 c8),(.slice (some ⟨4,n9,some 1⟩) n10 c9),(.slice (some ⟨5,n11,some 1⟩) n12 c10),(.slice (some ⟨6,n13,some 1⟩) n14 c11),(.slice (some ⟨7,n15,some 1⟩) n16 c14)]),oC q6,oC q8,oC q9,oC q10,oC q11,oC q12]) (bb (an (Nat.blt k1 (Sl.n s2)) true) (some (Cv (k1*1) (Sl.cs s2))) none)) (AX h13) (eD (keep (hT 8 [(oC [(.slice (some ⟨3,n7,some 1⟩) n8 c8),(.slice (some ⟨4,n9,some 1⟩) n10 c9),(.slice (some ⟨5,n11,some 1⟩) n12 c10),(.slice (some ⟨6,n13,some 1⟩) n14 c11),(.slice (some ⟨7,n15,some 1⟩) n16 c14)]),oC q6,oC q8,oC q9,oC q10,oC q11,oC q12]) (AL (Sl.cs s2) (k1*1))) (AZ h14) (eE))) ?_
   refine .ghs (fr 49 [(3,pt 1 0),(6,sc 2 0 1 n6 c6),(8,zI x0),(27,Sl.v 1 s2),(28,zI z1),(29,(zI (Int.ofNat k1)))]) (hT 8 [(oC [(.slice (some ⟨3,n7,some 1⟩) n8 c8),(.slice (some ⟨4,n9,some 1⟩) n10 c9),(.slice (some ⟨5,n11,some 1⟩) n12 c10),(.slice (some ⟨6,n13,some 1⟩) n14 c11),(.slice (some ⟨7,n15,some 1⟩) n16 c14)]),oC q6,oC q8,oC q9,oC q10,oC q11,oC q12]) (.k [2,3,4,5,6,7] [false] [.tmp 3 true,.tmp 6 false,.cell 1 0 false,.cell 1 1 false,.cell 1 2 false,.cell 1 3 false,.cell 1 4 false] [3,6,8,27,28,29] ⟨DL h5,DL h6,DL h7,DL h8,DL h9,DL h10,trivial⟩) ?_
   replace hm:=Ab hm;obtain⟨k2,h15,hm⟩:=hm
   obtain rfl:=AR h15
   replace hm:=Ag hm;rcases hm with⟨h16,hm⟩ | ⟨h16,hm⟩
   ·obtain rfl:=Nat.eq_of_beq_eq_true h16
    replace hm:=Ae hm;obtain⟨h17,hm⟩:=hm
    replace hm:=Ab hm;obtain⟨v0,h18,hm⟩:=hm
    replace hm:=Ab hm;obtain⟨x1,h19,hm⟩:=hm
    obtain rfl:=Eh h19
    replace hm:=Ae hm;obtain⟨h20,hm⟩:=hm
    replace hm:=Ae hm;obtain⟨h21,hm⟩:=hm
    refine .reg (eC 5 (keep (hT 8 [(oC [(.slice (some ⟨3,n7,some 1⟩) n8 c8),(.slice (some ⟨4,n9,some 1⟩) n10 c9),(.slice (some ⟨5,n11,some 1⟩) n12 c10),(.slice (some ⟨6,n13,some 1⟩) n14 c11),(.slice (some ⟨7,n15,some 1⟩) n16 c14)]),oC q6,oC q8,oC q9,oC q10,oC q11,oC q12]) (bb (an (Nat.blt 0 n8) true) (some (.pointer (some ⟨3,(n7+0*1),none⟩))) none)) (AX h17) (eD (keep (hT 8 [(oC [(.slice (some ⟨3,n7,some 1⟩) n8 c8),(.slice (some ⟨4,n9,some 1⟩) n10 c9),(.slice (some ⟨5,n11,some 1⟩) n12 c10),(.slice (some ⟨6,n13,some 1⟩) n14 c11),(.slice (some ⟨7,n15,some 1⟩) n16 c14)]),oC q6,oC q8,oC q9,oC q10,oC q11,oC q12]) (AL q8 (n7+0*1))) (AZ h18) (eC 4 (keep (hT 9 [(oC [(.slice (some ⟨3,n7,some 1⟩) n8 c8),(.slice (some ⟨4,n9,some 1⟩) n10 c9),(.slice (some ⟨5,n11,some 1⟩) n12 c10),(.slice (some ⟨6,n13,some 1⟩) n14 c11),(.slice (some ⟨7,n15,some 1⟩) n16 c14)]),oC q6,oC q8,oC q9,oC q10,oC q11,oC q12,(oC [zI x1])]) (oo (bb (Nat.ble 1 n8) (some 1) none) none fun l=>some (sliceAt 3 (n7+l*1) 1 (n8 - l) (c8 / 2 - l) (Dp false (Nat.beq (c8 % 2) 1))))) (show _=some ((.slice (some ⟨3,(n7+1*1),some 1⟩) (n8 - 1) (2*(c8 / 2 - 1)+bb (Dp false (Nat.beq (c8 % 2) 1)) 1 0)),(hT 9 [(oC [(.slice (some ⟨3,n7,some 1⟩) n8 c8),(.slice (some ⟨4,n9,some 1⟩) n10 c9),(.slice (some ⟨5,n11,some 1⟩) n12 c10),(.slice (some ⟨6,n13,some 1⟩) n14 c11),(.slice (some ⟨7,n15,some 1⟩) n16 c14)]),oC q6,oC q8,oC q9,oC q10,oC q11,oC q12,(oC [zI x1])])) from (RJ h20).trans (by kernel_rfl)) (eD (Oc 1 8 n6 c6 1 2 q6 [zI x1] [] (hT 9 [(oC [(.slice (some ⟨3,n7,some 1⟩) n8 c8),(.slice (some ⟨4,n9,some 1⟩) n10 c9),(.slice (some ⟨5,n11,some 1⟩) n12 c10),(.slice (some ⟨6,n13,some 1⟩) n14 c11),(.slice (some ⟨7,n15,some 1⟩) n16 c14)]),oC q6,oC q8,oC q9,oC q10,oC q11,oC q12,(oC [zI x1])])) (I1 h21) (eE))))) ?_
    replace hm:=Ae hm;obtain⟨h22,hm⟩:=hm
    refine .ghs (fr 49 [(3,pt 1 0),(6,(sc 2 0 1 (n6+1) (d2 (n6+1)))),(27,Sl.v 1 s2),(28,zI z1),(29,(zI (Int.ofNat k1)))]) (hT 8 [(oC [(.slice (some ⟨3,(n7+1*1),some 1⟩) (n8 - 1) (2*(c8 / 2 - 1)+bb (Dp false (Nat.beq (c8 % 2) 1)) 1 0)),(.slice (some ⟨4,n9,some 1⟩) n10 c9),(.slice (some ⟨5,n11,some 1⟩) n12 c10),(.slice (some ⟨6,n13,some 1⟩) n14 c11),(.slice (some ⟨7,n15,some 1⟩) n16 c14)]),(oC (Br (Am 0 q6) [zI x1])),oC q8,oC q9,oC q10,oC q11,oC q12]) (.k [9,3,4,5,6,7] [false] [.tmp 3 true,.tmp 6 false,.cell 1 0 false,.cell 1 1 false,.cell 1 2 false,.cell 1 3 false,.cell 1 4 false] [3,6,27,28,29] ⟨DL h22,DL h6,DL h7,DL h8,DL h9,DL h10,trivial⟩) ?_
    refine .rK ?_
    exact⟨((n6+1),(d2 (n6+1)),s2,z1,(Aj .i64 (Int.add (Int.ofNat k1) (1:Int))),(n7+1*1),(n8 - 1),(2*(c8 / 2 - 1)+bb (Dp false (Nat.beq (c8 % 2) 1)) 1 0),n9,n10,c9,n11,n12,c10,n13,n14,c11,n15,n16,c14,(Br (Am 0 q6) [zI x1]),q8,q9,q10,q11,q12),hm,(.k [2,3,4,5,6,7] [false] [.tmp 3 true,.tmp 6 false,.cell 1 0 false,.cell 1 1 false,.cell 1 2 false,.cell 1 3 false,.cell 1 4 false] [3,6,27,28,29] ⟨DL h22,DL h6,DL h7,DL h8,DL h9,DL h10,trivial⟩)⟩
   ·replace hm:=Ag hm;rcases hm with⟨h17,hm⟩ | ⟨h17,hm⟩
    ·obtain rfl:=Nat.eq_of_beq_eq_true h17
     replace hm:=Ae hm;obtain⟨h23,hm⟩:=hm
     replace hm:=Ab hm;obtain⟨v1,h24,hm⟩:=hm
     replace hm:=Ab hm;obtain⟨x2,h20,hm⟩:=hm
     obtain rfl:=Eh h20
     replace hm:=Ae hm;obtain⟨h21,hm⟩:=hm
     replace hm:=Ae hm;obtain⟨h25,hm⟩:=hm
     refine .reg (eC 5 (keep (hT 8 [(oC [(.slice (some ⟨3,n7,some 1⟩) n8 c8),(.slice (some ⟨4,n9,some 1⟩) n10 c9),(.slice (some ⟨5,n11,some 1⟩) n12 c10),(.slice (some ⟨6,n13,some 1⟩) n14 c11),(.slice (some ⟨7,n15,some 1⟩) n16 c14)]),oC q6,oC q8,oC q9,oC q10,oC q11,oC q12]) (bb (an (Nat.blt 0 n10) true) (some (.pointer (some ⟨4,(n9+0*1),none⟩))) none)) (AX h23) (eD (keep (hT 8 [(oC [(.slice (some ⟨3,n7,some 1⟩) n8 c8),(.slice (some ⟨4,n9,some 1⟩) n10 c9),(.slice (some ⟨5,n11,some 1⟩) n12 c10),(.slice (some ⟨6,n13,some 1⟩) n14 c11),(.slice (some ⟨7,n15,some 1⟩) n16 c14)]),oC q6,oC q8,oC q9,oC q10,oC q11,oC q12]) (AL q9 (n9+0*1))) (AZ h24) (eC 4 (keep (hT 9 [(oC [(.slice (some ⟨3,n7,some 1⟩) n8 c8),(.slice (some ⟨4,n9,some 1⟩) n10 c9),(.slice (some ⟨5,n11,some 1⟩) n12 c10),(.slice (some ⟨6,n13,some 1⟩) n14 c11),(.slice (some ⟨7,n15,some 1⟩) n16 c14)]),oC q6,oC q8,oC q9,oC q10,oC q11,oC q12,(oC [zI x2])]) (oo (bb (Nat.ble 1 n10) (some 1) none) none fun l=>some (sliceAt 4 (n9+l*1) 1 (n10 - l) (c9 / 2 - l) (Dp false (Nat.beq (c9 % 2) 1))))) (show _=some ((.slice (some ⟨4,(n9+1*1),some 1⟩) (n10 - 1) (2*(c9 / 2 - 1)+bb (Dp false (Nat.beq (c9 % 2) 1)) 1 0)),(hT 9 [(oC [(.slice (some ⟨3,n7,some 1⟩) n8 c8),(.slice (some ⟨4,n9,some 1⟩) n10 c9),(.slice (some ⟨5,n11,some 1⟩) n12 c10),(.slice (some ⟨6,n13,some 1⟩) n14 c11),(.slice (some ⟨7,n15,some 1⟩) n16 c14)]),oC q6,oC q8,oC q9,oC q10,oC q11,oC q12,(oC [zI x2])])) from (RJ h21).trans (by kernel_rfl)) (eD (Oc 1 8 n6 c6 1 2 q6 [zI x2] [] (hT 9 [(oC [(.slice (some ⟨3,n7,some 1⟩) n8 c8),(.slice (some ⟨4,n9,some 1⟩) n10 c9),(.slice (some ⟨5,n11,some 1⟩) n12 c10),(.slice (some ⟨6,n13,some 1⟩) n14 c11),(.slice (some ⟨7,n15,some 1⟩) n16 c14)]),oC q6,oC q8,oC q9,oC q10,oC q11,oC q12,(oC [zI x2])])) (I1 h25) (eE))))) ?_
     replace hm:=Ae hm;obtain⟨h26,hm⟩:=hm
     refine .ghs (fr 49 [(3,pt 1 0),(6,(sc 2 0 1 (n6+1) (d2 (n6+1)))),(27,Sl.v 1 s2),(28,zI z1),(29,(zI (Int.ofNat k1)))]) (hT 8 [(oC [(.slice (some ⟨3,n7,some 1⟩) n8 c8),(.slice (some ⟨4,(n9+1*1),some 1⟩) (n10 - 1) (2*(c9 / 2 - 1)+bb (Dp false (Nat.beq (c9 % 2) 1)) 1 0)),(.slice (some ⟨5,n11,some 1⟩) n12 c10),(.slice (some ⟨6,n13,some 1⟩) n14 c11),(.slice (some ⟨7,n15,some 1⟩) n16 c14)]),(oC (Br (Am 0 q6) [zI x2])),oC q8,oC q9,oC q10,oC q11,oC q12]) (.k [9,3,4,5,6,7] [false] [.tmp 3 true,.tmp 6 false,.cell 1 0 false,.cell 1 1 false,.cell 1 2 false,.cell 1 3 false,.cell 1 4 false] [3,6,27,28,29] ⟨DL h26,DL h6,DL h7,DL h8,DL h9,DL h10,trivial⟩) ?_
     refine .rK ?_
     exact⟨((n6+1),(d2 (n6+1)),s2,z1,(Aj .i64 (Int.add (Int.ofNat k1) (1:Int))),n7,n8,c8,(n9+1*1),(n10 - 1),(2*(c9 / 2 - 1)+bb (Dp false (Nat.beq (c9 % 2) 1)) 1 0),n11,n12,c10,n13,n14,c11,n15,n16,c14,(Br (Am 0 q6) [zI x2]),q8,q9,q10,q11,q12),hm,(.k [2,3,4,5,6,7] [false] [.tmp 3 true,.tmp 6 false,.cell 1 0 false,.cell 1 1 false,.cell 1 2 false,.cell 1 3 false,.cell 1 4 false] [3,6,27,28,29] ⟨DL h26,DL h6,DL h7,DL h8,DL h9,DL h10,trivial⟩)⟩
    ·replace hm:=Ag hm;rcases hm with⟨h23,hm⟩ | ⟨h23,hm⟩
     ·obtain rfl:=Nat.eq_of_beq_eq_true h23
      replace hm:=Ae hm;obtain⟨h18,hm⟩:=hm
      replace hm:=Ab hm;obtain⟨v2,h19,hm⟩:=hm
      replace hm:=Ab hm;obtain⟨x3,h21,hm⟩:=hm
      obtain rfl:=Eh h21
      replace hm:=Ae hm;obtain⟨h25,hm⟩:=hm
      replace hm:=Ae hm;obtain⟨h27,hm⟩:=hm
      refine .reg (eC 5 (keep (hT 8 [(oC [(.slice (some ⟨3,n7,some 1⟩) n8 c8),(.slice (some ⟨4,n9,some 1⟩) n10 c9),(.slice (some ⟨5,n11,some 1⟩) n12 c10),(.slice (some ⟨6,n13,some 1⟩) n14 c11),(.slice (some ⟨7,n15,some 1⟩) n16 c14)]),oC q6,oC q8,oC q9,oC q10,oC q11,oC q12]) (bb (an (Nat.blt 0 n12) true) (some (.pointer (some ⟨5,(n11+0*1),none⟩))) none)) (AX h18) (eD (keep (hT 8 [(oC [(.slice (some ⟨3,n7,some 1⟩) n8 c8),(.slice (some ⟨4,n9,some 1⟩) n10 c9),(.slice (some ⟨5,n11,some 1⟩) n12 c10),(.slice (some ⟨6,n13,some 1⟩) n14 c11),(.slice (some ⟨7,n15,some 1⟩) n16 c14)]),oC q6,oC q8,oC q9,oC q10,oC q11,oC q12]) (AL q10 (n11+0*1))) (AZ h19) (eC 4 (keep (hT 9 [(oC [(.slice (some ⟨3,n7,some 1⟩) n8 c8),(.slice (some ⟨4,n9,some 1⟩) n10 c9),(.slice (some ⟨5,n11,some 1⟩) n12 c10),(.slice (some ⟨6,n13,some 1⟩) n14 c11),(.slice (some ⟨7,n15,some 1⟩) n16 c14)]),oC q6,oC q8,oC q9,oC q10,oC q11,oC q12,(oC [zI x3])]) (oo (bb (Nat.ble 1 n12) (some 1) none) none fun l=>some (sliceAt 5 (n11+l*1) 1 (n12 - l) (c10 / 2 - l) (Dp false (Nat.beq (c10 % 2) 1))))) (show _=some ((.slice (some ⟨5,(n11+1*1),some 1⟩) (n12 - 1) (2*(c10 / 2 - 1)+bb (Dp false (Nat.beq (c10 % 2) 1)) 1 0)),(hT 9 [(oC [(.slice (some ⟨3,n7,some 1⟩) n8 c8),(.slice (some ⟨4,n9,some 1⟩) n10 c9),(.slice (some ⟨5,n11,some 1⟩) n12 c10),(.slice (some ⟨6,n13,some 1⟩) n14 c11),(.slice (some ⟨7,n15,some 1⟩) n16 c14)]),oC q6,oC q8,oC q9,oC q10,oC q11,oC q12,(oC [zI x3])])) from (RJ h25).trans (by kernel_rfl)) (eD (Oc 1 8 n6 c6 1 2 q6 [zI x3] [] (hT 9 [(oC [(.slice (some ⟨3,n7,some 1⟩) n8 c8),(.slice (some ⟨4,n9,some 1⟩) n10 c9),(.slice (some ⟨5,n11,some 1⟩) n12 c10),(.slice (some ⟨6,n13,some 1⟩) n14 c11),(.slice (some ⟨7,n15,some 1⟩) n16 c14)]),oC q6,oC q8,oC q9,oC q10,oC q11,oC q12,(oC [zI x3])])) (I1 h27) (eE))))) ?_
      replace hm:=Ae hm;obtain⟨h28,hm⟩:=hm
      refine .ghs (fr 49 [(3,pt 1 0),(6,(sc 2 0 1 (n6+1) (d2 (n6+1)))),(27,Sl.v 1 s2),(28,zI z1),(29,(zI (Int.ofNat k1)))]) (hT 8 [(oC [(.slice (some ⟨3,n7,some 1⟩) n8 c8),(.slice (some ⟨4,n9,some 1⟩) n10 c9),(.slice (some ⟨5,(n11+1*1),some 1⟩) (n12 - 1) (2*(c10 / 2 - 1)+bb (Dp false (Nat.beq (c10 % 2) 1)) 1 0)),(.slice (some ⟨6,n13,some 1⟩) n14 c11),(.slice (some ⟨7,n15,some 1⟩) n16 c14)]),(oC (Br (Am 0 q6) [zI x3])),oC q8,oC q9,oC q10,oC q11,oC q12]) (.k [9,3,4,5,6,7] [false] [.tmp 3 true,.tmp 6 false,.cell 1 0 false,.cell 1 1 false,.cell 1 2 false,.cell 1 3 false,.cell 1 4 false] [3,6,27,28,29] ⟨DL h28,DL h6,DL h7,DL h8,DL h9,DL h10,trivial⟩) ?_
      refine .rK ?_
      exact⟨((n6+1),(d2 (n6+1)),s2,z1,(Aj .i64 (Int.add (Int.ofNat k1) (1:Int))),n7,n8,c8,n9,n10,c9,(n11+1*1),(n12 - 1),(2*(c10 / 2 - 1)+bb (Dp false (Nat.beq (c10 % 2) 1)) 1 0),n13,n14,c11,n15,n16,c14,(Br (Am 0 q6) [zI x3]),q8,q9,q10,q11,q12),hm,(.k [2,3,4,5,6,7] [false] [.tmp 3 true,.tmp 6 false,.cell 1 0 false,.cell 1 1 false,.cell 1 2 false,.cell 1 3 false,.cell 1 4 false] [3,6,27,28,29] ⟨DL h28,DL h6,DL h7,DL h8,DL h9,DL h10,trivial⟩)⟩
     ·replace hm:=Ag hm;rcases hm with⟨h18,hm⟩ | ⟨h18,hm⟩
      ·obtain rfl:=Nat.eq_of_beq_eq_true h18
       replace hm:=Ae hm;obtain⟨h24,hm⟩:=hm
       replace hm:=Gq hm;obtain⟨x4,h20,hm⟩:=hm
       replace hm:=Ae hm;obtain⟨h27,hm⟩:=hm
       replace hm:=Ae hm;obtain⟨h29,hm⟩:=hm
       refine .reg (eC 5 (keep (hT 8 [(oC [(.slice (some ⟨3,n7,some 1⟩) n8 c8),(.slice (some ⟨4,n9,some 1⟩) n10 c9),(.slice (some ⟨5,n11,some 1⟩) n12 c10),(.slice (some ⟨6,n13,some 1⟩) n14 c11),(.slice (some ⟨7,n15,some 1⟩) n16 c14)]),oC q6,oC q8,oC q9,oC q10,oC q11,oC q12]) (bb (an (Nat.blt 0 n14) true) (some (.pointer (some ⟨6,(n13+0*1),none⟩))) none)) (AX h24) (eD (keep (hT 8 [(oC [(.slice (some ⟨3,n7,some 1⟩) n8 c8),(.slice (some ⟨4,n9,some 1⟩) n10 c9),(.slice (some ⟨5,n11,some 1⟩) n12 c10),(.slice (some ⟨6,n13,some 1⟩) n14 c11),(.slice (some ⟨7,n15,some 1⟩) n16 c14)]),oC q6,oC q8,oC q9,oC q10,oC q11,oC q12]) (AL q11 (n13+0*1))) (AZ h20) (eC 4 (keep (hT 9 [(oC [(.slice (some ⟨3,n7,some 1⟩) n8 c8),(.slice (some ⟨4,n9,some 1⟩) n10 c9),(.slice (some ⟨5,n11,some 1⟩) n12 c10),(.slice (some ⟨6,n13,some 1⟩) n14 c11),(.slice (some ⟨7,n15,some 1⟩) n16 c14)]),oC q6,oC q8,oC q9,oC q10,oC q11,oC q12,(oC [zI x4])]) (oo (bb (Nat.ble 1 n14) (some 1) none) none fun l=>some (sliceAt 6 (n13+l*1) 1 (n14 - l) (c11 / 2 - l) (Dp false (Nat.beq (c11 % 2) 1))))) (show _=some ((.slice (some ⟨6,(n13+1*1),some 1⟩) (n14 - 1) (2*(c11 / 2 - 1)+bb (Dp false (Nat.beq (c11 % 2) 1)) 1 0)),(hT 9 [(oC [(.slice (some ⟨3,n7,some 1⟩) n8 c8),(.slice (some ⟨4,n9,some 1⟩) n10 c9),(.slice (some ⟨5,n11,some 1⟩) n12 c10),(.slice (some ⟨6,n13,some 1⟩) n14 c11),(.slice (some ⟨7,n15,some 1⟩) n16 c14)]),oC q6,oC q8,oC q9,oC q10,oC q11,oC q12,(oC [zI x4])])) from (RJ h27).trans (by kernel_rfl)) (eD (Oc 1 8 n6 c6 1 2 q6 [zI x4] [] (hT 9 [(oC [(.slice (some ⟨3,n7,some 1⟩) n8 c8),(.slice (some ⟨4,n9,some 1⟩) n10 c9),(.slice (some ⟨5,n11,some 1⟩) n12 c10),(.slice (some ⟨6,n13,some 1⟩) n14 c11),(.slice (some ⟨7,n15,some 1⟩) n16 c14)]),oC q6,oC q8,oC q9,oC q10,oC q11,oC q12,(oC [zI x4])])) (I1 h29) (eE))))) ?_
       replace hm:=Ae hm;obtain⟨h30,hm⟩:=hm
       refine .ghs (fr 49 [(3,pt 1 0),(6,(sc 2 0 1 (n6+1) (d2 (n6+1)))),(27,Sl.v 1 s2),(28,zI z1),(29,(zI (Int.ofNat k1)))]) (hT 8 [(oC [(.slice (some ⟨3,n7,some 1⟩) n8 c8),(.slice (some ⟨4,n9,some 1⟩) n10 c9),(.slice (some ⟨5,n11,some 1⟩) n12 c10),(.slice (some ⟨6,(n13+1*1),some 1⟩) (n14 - 1) (2*(c11 / 2 - 1)+bb (Dp false (Nat.beq (c11 % 2) 1)) 1 0)),(.slice (some ⟨7,n15,some 1⟩) n16 c14)]),(oC (Br (Am 0 q6) [zI x4])),oC q8,oC q9,oC q10,oC q11,oC q12]) (.k [9,3,4,5,6,7] [false] [.tmp 3 true,.tmp 6 false,.cell 1 0 false,.cell 1 1 false,.cell 1 2 false,.cell 1 3 false,.cell 1 4 false] [3,6,27,28,29] ⟨DL h30,DL h6,DL h7,DL h8,DL h9,DL h10,trivial⟩) ?_
       refine .rK ?_
       exact⟨((n6+1),(d2 (n6+1)),s2,z1,(Aj .i64 (Int.add (Int.ofNat k1) (1:Int))),n7,n8,c8,n9,n10,c9,n11,n12,c10,(n13+1*1),(n14 - 1),(2*(c11 / 2 - 1)+bb (Dp false (Nat.beq (c11 % 2) 1)) 1 0),n15,n16,c14,(Br (Am 0 q6) [zI x4]),q8,q9,q10,q11,q12),hm,(.k [2,3,4,5,6,7] [false] [.tmp 3 true,.tmp 6 false,.cell 1 0 false,.cell 1 1 false,.cell 1 2 false,.cell 1 3 false,.cell 1 4 false] [3,6,27,28,29] ⟨DL h30,DL h6,DL h7,DL h8,DL h9,DL h10,trivial⟩)⟩
      ·replace hm:=Ag hm;rcases hm with⟨h24,hm⟩ | ⟨h24,hm⟩
       ·obtain rfl:=Nat.eq_of_beq_eq_true h24
        replace hm:=Ae hm;obtain⟨h19,hm⟩:=hm
        replace hm:=Gq hm;obtain⟨x5,h21,hm⟩:=hm
        replace hm:=Ae hm;obtain⟨h29,hm⟩:=hm
        replace hm:=Ae hm;obtain⟨h31,hm⟩:=hm
        refine .reg (eC 5 (keep (hT 8 [(oC [(.slice (some ⟨3,n7,some 1⟩) n8 c8),(.slice (some ⟨4,n9,some 1⟩) n10 c9),(.slice (some ⟨5,n11,some 1⟩) n12 c10),(.slice (some ⟨6,n13,some 1⟩) n14 c11),(.slice (some ⟨7,n15,some 1⟩) n16 c14)]),oC q6,oC q8,oC q9,oC q10,oC q11,oC q12]) (bb (an (Nat.blt 0 n16) true) (some (.pointer (some ⟨7,(n15+0*1),none⟩))) none)) (AX h19) (eD (keep (hT 8 [(oC [(.slice (some ⟨3,n7,some 1⟩) n8 c8),(.slice (some ⟨4,n9,some 1⟩) n10 c9),(.slice (some ⟨5,n11,some 1⟩) n12 c10),(.slice (some ⟨6,n13,some 1⟩) n14 c11),(.slice (some ⟨7,n15,some 1⟩) n16 c14)]),oC q6,oC q8,oC q9,oC q10,oC q11,oC q12]) (AL q12 (n15+0*1))) (AZ h21) (eC 4 (keep (hT 9 [(oC [(.slice (some ⟨3,n7,some 1⟩) n8 c8),(.slice (some ⟨4,n9,some 1⟩) n10 c9),(.slice (some ⟨5,n11,some 1⟩) n12 c10),(.slice (some ⟨6,n13,some 1⟩) n14 c11),(.slice (some ⟨7,n15,some 1⟩) n16 c14)]),oC q6,oC q8,oC q9,oC q10,oC q11,oC q12,(oC [zI x5])]) (oo (bb (Nat.ble 1 n16) (some 1) none) none fun l=>some (sliceAt 7 (n15+l*1) 1 (n16 - l) (c14 / 2 - l) (Dp false (Nat.beq (c14 % 2) 1))))) (show _=some ((.slice (some ⟨7,(n15+1*1),some 1⟩) (n16 - 1) (2*(c14 / 2 - 1)+bb (Dp false (Nat.beq (c14 % 2) 1)) 1 0)),(hT 9 [(oC [(.slice (some ⟨3,n7,some 1⟩) n8 c8),(.slice (some ⟨4,n9,some 1⟩) n10 c9),(.slice (some ⟨5,n11,some 1⟩) n12 c10),(.slice (some ⟨6,n13,some 1⟩) n14 c11),(.slice (some ⟨7,n15,some 1⟩) n16 c14)]),oC q6,oC q8,oC q9,oC q10,oC q11,oC q12,(oC [zI x5])])) from (RJ h29).trans (by kernel_rfl)) (eD (Oc 1 8 n6 c6 1 2 q6 [zI x5] [] (hT 9 [(oC [(.slice (some ⟨3,n7,some 1⟩) n8 c8),(.slice (some ⟨4,n9,some 1⟩) n10 c9),(.slice (some ⟨5,n11,some 1⟩) n12 c10),(.slice (some ⟨6,n13,some 1⟩) n14 c11),(.slice (some ⟨7,n15,some 1⟩) n16 c14)]),oC q6,oC q8,oC q9,oC q10,oC q11,oC q12,(oC [zI x5])])) (I1 h31) (eE))))) ?_
        replace hm:=Ae hm;obtain⟨h32,hm⟩:=hm
        refine .ghs (fr 49 [(3,pt 1 0),(6,(sc 2 0 1 (n6+1) (d2 (n6+1)))),(27,Sl.v 1 s2),(28,zI z1),(29,(zI (Int.ofNat k1)))]) (hT 8 [(oC [(.slice (some ⟨3,n7,some 1⟩) n8 c8),(.slice (some ⟨4,n9,some 1⟩) n10 c9),(.slice (some ⟨5,n11,some 1⟩) n12 c10),(.slice (some ⟨6,n13,some 1⟩) n14 c11),(.slice (some ⟨7,(n15+1*1),some 1⟩) (n16 - 1) (2*(c14 / 2 - 1)+bb (Dp false (Nat.beq (c14 % 2) 1)) 1 0))]),(oC (Br (Am 0 q6) [zI x5])),oC q8,oC q9,oC q10,oC q11,oC q12]) (.k [9,3,4,5,6,7] [false] [.tmp 3 true,.tmp 6 false,.cell 1 0 false,.cell 1 1 false,.cell 1 2 false,.cell 1 3 false,.cell 1 4 false] [3,6,27,28,29] ⟨DL h32,DL h6,DL h7,DL h8,DL h9,DL h10,trivial⟩) ?_
        refine .rK ?_
        exact⟨((n6+1),(d2 (n6+1)),s2,z1,(Aj .i64 (Int.add (Int.ofNat k1) (1:Int))),n7,n8,c8,n9,n10,c9,n11,n12,c10,n13,n14,c11,(n15+1*1),(n16 - 1),(2*(c14 / 2 - 1)+bb (Dp false (Nat.beq (c14 % 2) 1)) 1 0),(Br (Am 0 q6) [zI x5]),q8,q9,q10,q11,q12),hm,(.k [2,3,4,5,6,7] [false] [.tmp 3 true,.tmp 6 false,.cell 1 0 false,.cell 1 1 false,.cell 1 2 false,.cell 1 3 false,.cell 1 4 false] [3,6,27,28,29] ⟨DL h32,DL h6,DL h7,DL h8,DL h9,DL h10,trivial⟩)⟩
       ·cases hm
  ·refine G5 (AY z2 z1) h11 ?_
   refine .exit ?_
   exact⟨(n6,c6,q6),hm,(.k [2] [false] [.tmp 6 false] [6] ⟨DL h5,trivial⟩)⟩
theorem r58 {call:A8} (pu:Af) (n:Nat) (hcall:call=Bb tabs Ir pu (inl pu)) {args:LV} {v:Value} (hm:pM pu n args=some v) (_:∀ x∈args,closed2 x=true):args.length≤49∧BN tt call 1 Qw (Fr.made 49 args) (Ao tabs) (Fin tt 1 [.tmp 2] v):=by
 subst hcall
 unfold pM at hm
 replace hm:=Ad hm;obtain⟨a0,args_0,rfl,hm⟩:=hm
 replace hm:=AC hm;obtain⟨rfl,hm⟩:=hm
 replace hm:=BG hm;obtain⟨l0,rfl,hm⟩:=hm
 replace hm:=Ad hm;obtain⟨v0,l27208_0,rfl,hm⟩:=hm
 replace hm:=Ad hm;obtain⟨v1,l27208_1,rfl,hm⟩:=hm
 replace hm:=Ad hm;obtain⟨v2,l27208_2,rfl,hm⟩:=hm
 replace hm:=AC hm;obtain⟨rfl,hm⟩:=hm
 replace hm:=Ai hm;obtain⟨x0,rfl,hm⟩:=hm
 replace hm:=Al hm;obtain⟨s0,rfl,hm⟩:=hm
 replace hm:=Al hm;obtain⟨s1,rfl,hm⟩:=hm
 unfold Yw at hm
 refine⟨by simp,?_⟩
 refine .same (F':=(fr 49 [(0,(.agg ⟨[zI x0,Sl.v 1 s0,Sl.v 1 s1]⟩))])) (H':=FK) (by kernel_rfl) (by kernel_rfl) ?_
 refine .then (.rK (.ghs (fr 49 [(1,pt 1 0)]) (hT 2 [(oC [zI x0,Sl.v 1 s0,Sl.v 1 s1])]) (.k0 [false] [.tmp 1 false] [1]) ?_))
 refine .then (.rK (.ghs (fr 49 [(1,pt 1 0),(3,(pt 2 0))]) (hT 3 [(oC [zI x0,Sl.v 1 s0,Sl.v 1 s1]),(oC [(.slice none 0 0),(.slice none 0 0),(.slice none 0 0),(.slice none 0 0),(.slice none 0 0)])]) (.k0 [false] [.tmp 1 false,.tmp 3 false] [1,3]) ?_))
 refine .join (v:=v) (fun y:Int×Sl×Sl×Nat×Nat×Nat×Nat×Nat×Nat×Nat×Nat×Nat×Nat×LV×LV×LV×LV×LV=>((fr 49 [(1,pt 1 0),(3,(pt 2 0))]),(hT 8 [(oC [(zI y.1),(Sl.v 1 y.2.1),(Sl.v 1 y.2.2.1)]),(oC [(sc 3 0 1 y.2.2.2.1 y.2.2.2.2.1),(sc 4 0 1 y.2.2.2.2.2.1 y.2.2.2.2.2.2.1),(sc 5 0 1 y.2.2.2.2.2.2.2.1 y.2.2.2.2.2.2.2.2.1),(sc 6 0 1 y.2.2.2.2.2.2.2.2.2.1 y.2.2.2.2.2.2.2.2.2.2.1),(sc 7 0 1 y.2.2.2.2.2.2.2.2.2.2.2.1 y.2.2.2.2.2.2.2.2.2.2.2.2.1)]),(oC y.2.2.2.2.2.2.2.2.2.2.2.2.2.1),(oC y.2.2.2.2.2.2.2.2.2.2.2.2.2.2.1),(oC y.2.2.2.2.2.2.2.2.2.2.2.2.2.2.2.1),(oC y.2.2.2.2.2.2.2.2.2.2.2.2.2.2.2.2.1),(oC y.2.2.2.2.2.2.2.2.2.2.2.2.2.2.2.2.2)]))) (fun y=>Pi pu n y.1 y.2.1 y.2.2.1 y.2.2.2.1 y.2.2.2.2.1 y.2.2.2.2.2.1 y.2.2.2.2.2.2.1 y.2.2.2.2.2.2.2.1 y.2.2.2.2.2.2.2.2.1 y.2.2.2.2.2.2.2.2.2.1 y.2.2.2.2.2.2.2.2.2.2.1 y.2.2.2.2.2.2.2.2.2.2.2.1 y.2.2.2.2.2.2.2.2.2.2.2.2.1 y.2.2.2.2.2.2.2.2.2.2.2.2.2.1 y.2.2.2.2.2.2.2.2.2.2.2.2.2.2.1 y.2.2.2.2.2.2.2.2.2.2.2.2.2.2.2.1 y.2.2.2.2.2.2.2.2.2.2.2.2.2.2.2.2.1 y.2.2.2.2.2.2.2.2.2.2.2.2.2.2.2.2.2) ?_ ?_
 ·rintro⟨z0,s2,s3,n0,c0,n1,c1,n2,c2,n3,c3,n4,c4,q0,q1,q2,q3,q4⟩ hm
  exact vZ pu n z0 s2 s3 n0 c0 n1 c1 n2 c2 n3 c3 n4 c4 q0 q1 q2 q3 q4 hm
 ·refine .then (.rK (.ghs (fr 49 [(1,pt 1 0),(3,(pt 2 0)),(10,Sl.v 1 s0),(11,(zI (Int.ofNat (Sl.n s0)))),(12,(zI (0:Int)))]) (hT 3 [(oC [zI x0,Sl.v 1 s0,Sl.v 1 s1]),(oC [(.slice none 0 0),(.slice none 0 0),(.slice none 0 0),(.slice none 0 0),(.slice none 0 0)])]) (.k0 [false] [.tmp 1 false,.tmp 3 false] [1,3,10,11,12]) ?_))
  refine .block (.loopM (v:=v) (fun y:Sl×Int×Int×Int×Sl×Sl×Nat×Nat×Nat×Nat×Nat×Nat×Nat×Nat×Nat×Nat×LV×LV×LV×LV×LV=>((fr 49 [(1,pt 1 0),(3,(pt 2 0)),(10,(Sl.v 1 y.1)),(11,(zI y.2.1)),(12,(zI y.2.2.1))]),(hT 8 [(oC [(zI y.2.2.2.1),(Sl.v 1 y.2.2.2.2.1),(Sl.v 1 y.2.2.2.2.2.1)]),(oC [(sc 3 0 1 y.2.2.2.2.2.2.1 y.2.2.2.2.2.2.2.1),(sc 4 0 1 y.2.2.2.2.2.2.2.2.1 y.2.2.2.2.2.2.2.2.2.1),(sc 5 0 1 y.2.2.2.2.2.2.2.2.2.2.1 y.2.2.2.2.2.2.2.2.2.2.2.1),(sc 6 0 1 y.2.2.2.2.2.2.2.2.2.2.2.2.1 y.2.2.2.2.2.2.2.2.2.2.2.2.2.1),(sc 7 0 1 y.2.2.2.2.2.2.2.2.2.2.2.2.2.2.1 y.2.2.2.2.2.2.2.2.2.2.2.2.2.2.2.1)]),(oC y.2.2.2.2.2.2.2.2.2.2.2.2.2.2.2.2.1),(oC y.2.2.2.2.2.2.2.2.2.2.2.2.2.2.2.2.2.1),(oC y.2.2.2.2.2.2.2.2.2.2.2.2.2.2.2.2.2.2.1),(oC y.2.2.2.2.2.2.2.2.2.2.2.2.2.2.2.2.2.2.2.1),(oC y.2.2.2.2.2.2.2.2.2.2.2.2.2.2.2.2.2.2.2.2)]))) (fun w y=>Pj pu n w y.1 y.2.1 y.2.2.1 y.2.2.2.1 y.2.2.2.2.1 y.2.2.2.2.2.1 y.2.2.2.2.2.2.1 y.2.2.2.2.2.2.2.1 y.2.2.2.2.2.2.2.2.1 y.2.2.2.2.2.2.2.2.2.1 y.2.2.2.2.2.2.2.2.2.2.1 y.2.2.2.2.2.2.2.2.2.2.2.1 y.2.2.2.2.2.2.2.2.2.2.2.2.1 y.2.2.2.2.2.2.2.2.2.2.2.2.2.1 y.2.2.2.2.2.2.2.2.2.2.2.2.2.2.1 y.2.2.2.2.2.2.2.2.2.2.2.2.2.2.2.1 y.2.2.2.2.2.2.2.2.2.2.2.2.2.2.2.2.1 y.2.2.2.2.2.2.2.2.2.2.2.2.2.2.2.2.2.1 y.2.2.2.2.2.2.2.2.2.2.2.2.2.2.2.2.2.2.1 y.2.2.2.2.2.2.2.2.2.2.2.2.2.2.2.2.2.2.2.1 y.2.2.2.2.2.2.2.2.2.2.2.2.2.2.2.2.2.2.2.2) n ⟨(s0,(Int.ofNat (Sl.n s0)),(0:Int),x0,s0,s1,0,0,0,0,0,0,0,0,0,0,([]:LV),([]:LV),([]:LV),([]:LV),([]:LV)),hm,(.thawC 2 0 1 [(.slice none 0 0),(.slice none 0 0),(.slice none 0 0),(.slice none 0 0),(.slice none 0 0)] (imm:=false) (spent:=false) (anc:=[]) (by kernel_rfl) (by kernel_rfl) (by kernel_rfl) (by kernel_rfl) (.thawC 2 1 1 [sc 3 0 1 0 0,(.slice none 0 0),(.slice none 0 0),(.slice none 0 0),(.slice none 0 0)] (imm:=false) (spent:=false) (anc:=[]) (by kernel_rfl) (by kernel_rfl) (by kernel_rfl) (by kernel_rfl) (.thawC 2 2 1 [sc 3 0 1 0 0,sc 4 0 1 0 0,(.slice none 0 0),(.slice none 0 0),(.slice none 0 0)] (imm:=false) (spent:=false) (anc:=[]) (by kernel_rfl) (by kernel_rfl) (by kernel_rfl) (by kernel_rfl) (.thawC 2 3 1 [sc 3 0 1 0 0,sc 4 0 1 0 0,sc 5 0 1 0 0,(.slice none 0 0),(.slice none 0 0)] (imm:=false) (spent:=false) (anc:=[]) (by kernel_rfl) (by kernel_rfl) (by kernel_rfl) (by kernel_rfl) (.thawC 2 4 1 [sc 3 0 1 0 0,sc 4 0 1 0 0,sc 5 0 1 0 0,sc 6 0 1 0 0,(.slice none 0 0)] (imm:=false) (spent:=false) (anc:=[]) (by kernel_rfl) (by kernel_rfl) (by kernel_rfl) (by kernel_rfl) (.k0 [false] [.tmp 1 false,.tmp 3 true,.cell 2 0 false,.cell 2 1 false,.cell 2 2 false,.cell 2 3 false,.cell 2 4 false] [1,3,10,11,12]))))))⟩ (fun _=>rfl) ?_)
  rintro w0 ⟨s4,z1,z2,z3,s5,s6,n5,c5,n6,c6,n7,c8,n8,c9,n9,c10,q5,q6,q8,q9,q10⟩ hm
  replace hm:OC pu n (Pj pu n w0) s4 z1 z2 z3 s5 s6 n5 c5 n6 c6 n7 c8 n8 c9 n9 c10 q5 q6 q8 q9 q10=some v:=hm
  unfold OC at hm
  refine .then (.rK ?_)
  replace hm:=Ae hm;obtain⟨h0,hm⟩:=hm
  replace hm:=Ae hm;obtain⟨h1,hm⟩:=hm
  replace hm:=Ae hm;obtain⟨h2,hm⟩:=hm
  replace hm:=Ae hm;obtain⟨h3,hm⟩:=hm
  replace hm:=Ae hm;obtain⟨h4,hm⟩:=hm
  refine .ghs (fr 49 [(1,pt 1 0),(3,(pt 2 0)),(10,Sl.v 1 s4),(11,zI z1),(12,zI z2),(13,(zB (AY z2 z1)))]) (hT 8 [(oC [zI z3,Sl.v 1 s5,Sl.v 1 s6]),(oC [sc 3 0 1 n5 c5,sc 4 0 1 n6 c6,sc 5 0 1 n7 c8,sc 6 0 1 n8 c9,sc 7 0 1 n9 c10]),oC q5,oC q6,oC q8,oC q9,oC q10]) (.k [3,4,5,6,7] [false] [.tmp 1 false,.tmp 3 true,.cell 2 0 false,.cell 2 1 false,.cell 2 2 false,.cell 2 3 false,.cell 2 4 false] [1,3,10,11,12,13] ⟨DL h0,DL h1,DL h2,DL h3,DL h4,trivial⟩) ?_
  refine .then ?_
  replace hm:=Ag hm;rcases hm with⟨h5,hm⟩ | ⟨h5,hm⟩
  ·refine Gy (AY z2 z1) h5 ?_
   refine .skip (.ghs (fr 49 [(1,pt 1 0),(3,(pt 2 0)),(10,Sl.v 1 s4),(11,zI z1),(12,zI z2)]) (hT 8 [(oC [zI z3,Sl.v 1 s5,Sl.v 1 s6]),(oC [sc 3 0 1 n5 c5,sc 4 0 1 n6 c6,sc 5 0 1 n7 c8,sc 6 0 1 n8 c9,sc 7 0 1 n9 c10]),oC q5,oC q6,oC q8,oC q9,oC q10]) (.k [3,4,5,6,7] [false] [.tmp 1 false,.tmp 3 true,.cell 2 0 false,.cell 2 1 false,.cell 2 2 false,.cell 2 3 false,.cell 2 4 false] [1,3,10,11,12] ⟨DL h0,DL h1,DL h2,DL h3,DL h4,trivial⟩) ?_)
   refine .then (.block (.then ?_))
   replace hm:=Ab hm;obtain⟨k1,h6,hm⟩:=hm
   obtain rfl:=AR h6
   replace hm:=Ae hm;obtain⟨h7,hm⟩:=hm
   replace hm:=Gq hm;obtain⟨x1,h8,hm⟩:=hm
   refine .reg (eC 1 (keep (hT 8 [(oC [zI z3,Sl.v 1 s5,Sl.v 1 s6]),(oC [sc 3 0 1 n5 c5,sc 4 0 1 n6 c6,sc 5 0 1 n7 c8,sc 6 0 1 n8 c9,sc 7 0 1 n9 c10]),oC q5,oC q6,oC q8,oC q9,oC q10]) (bb (an (Nat.blt k1 (Sl.n s4)) true) (some (Cv (k1*1) (Sl.cs s4))) none)) (AX h7) (eD (keep (hT 8 [(oC [zI z3,Sl.v 1 s5,Sl.v 1 s6]),(oC [sc 3 0 1 n5 c5,sc 4 0 1 n6 c6,sc 5 0 1 n7 c8,sc 6 0 1 n8 c9,sc 7 0 1 n9 c10]),oC q5,oC q6,oC q8,oC q9,oC q10]) (AL (Sl.cs s4) (k1*1))) (AZ h8) (eE))) ?_
   refine .ghs (fr 49 [(1,pt 1 0),(3,(pt 2 0)),(4,(zI (Int.ofNat k1))),(5,zI x1),(10,Sl.v 1 s4),(11,zI z1),(12,(zI (Int.ofNat k1)))]) (hT 8 [(oC [zI z3,Sl.v 1 s5,Sl.v 1 s6]),(oC [sc 3 0 1 n5 c5,sc 4 0 1 n6 c6,sc 5 0 1 n7 c8,sc 6 0 1 n8 c9,sc 7 0 1 n9 c10]),oC q5,oC q6,oC q8,oC q9,oC q10]) (.k [3,4,5,6,7] [false] [.tmp 1 false,.tmp 3 true,.cell 2 0 false,.cell 2 1 false,.cell 2 2 false,.cell 2 3 false,.cell 2 4 false] [1,3,4,5,10,11,12] ⟨DL h0,DL h1,DL h2,DL h3,DL h4,trivial⟩) ?_
   replace hm:=Ab hm;obtain⟨k2,h9,hm⟩:=hm
   obtain rfl:=AR h9
   replace hm:=Ag hm;rcases hm with⟨h10,hm⟩ | ⟨h10,hm⟩
   ·obtain rfl:=Nat.eq_of_beq_eq_true h10
    replace hm:=Ae hm;obtain⟨h11,hm⟩:=hm
    refine .reg (eC 6 (Oc 1 8 n5 c5 1 3 q5 [(zI (Int.ofNat k1))] [] (hT 9 [(oC [zI z3,Sl.v 1 s5,Sl.v 1 s6]),(oC [sc 3 0 1 n5 c5,sc 4 0 1 n6 c6,sc 5 0 1 n7 c8,sc 6 0 1 n8 c9,sc 7 0 1 n9 c10]),oC q5,oC q6,oC q8,oC q9,oC q10,(oC [(zI (Int.ofNat k1))])])) (I1 h11) (eE)) ?_
    replace hm:=Ae hm;obtain⟨h12,hm⟩:=hm
    refine .ghs (fr 49 [(1,pt 1 0),(3,(pt 2 0)),(10,Sl.v 1 s4),(11,zI z1),(12,(zI (Int.ofNat k1)))]) (hT 8 [(oC [zI z3,Sl.v 1 s5,Sl.v 1 s6]),(oC [(sc 3 0 1 (n5+1) (d2 (n5+1))),sc 4 0 1 n6 c6,sc 5 0 1 n7 c8,sc 6 0 1 n8 c9,sc 7 0 1 n9 c10]),(oC (Br (Am 0 q5) [(zI (Int.ofNat k1))])),oC q6,oC q8,oC q9,oC q10]) (.k [9,4,5,6,7] [false] [.tmp 1 false,.tmp 3 true,.cell 2 0 false,.cell 2 1 false,.cell 2 2 false,.cell 2 3 false,.cell 2 4 false] [1,3,10,11,12] ⟨DL h12,DL h1,DL h2,DL h3,DL h4,trivial⟩) ?_
    refine .rK ?_
    exact⟨(s4,z1,(Aj .i64 (Int.add (Int.ofNat k1) (1:Int))),z3,s5,s6,(n5+1),(d2 (n5+1)),n6,c6,n7,c8,n8,c9,n9,c10,(Br (Am 0 q5) [(zI (Int.ofNat k1))]),q6,q8,q9,q10),hm,(.k [3,4,5,6,7] [false] [.tmp 1 false,.tmp 3 true,.cell 2 0 false,.cell 2 1 false,.cell 2 2 false,.cell 2 3 false,.cell 2 4 false] [1,3,10,11,12] ⟨DL h12,DL h1,DL h2,DL h3,DL h4,trivial⟩)⟩
   ·replace hm:=Ag hm;rcases hm with⟨h11,hm⟩ | ⟨h11,hm⟩
    ·obtain rfl:=Nat.eq_of_beq_eq_true h11
     replace hm:=Ae hm;obtain⟨h13,hm⟩:=hm
     refine .reg (eC 6 (Oc 1 8 n6 c6 1 4 q6 [(zI (Int.ofNat k1))] [] (hT 9 [(oC [zI z3,Sl.v 1 s5,Sl.v 1 s6]),(oC [sc 3 0 1 n5 c5,sc 4 0 1 n6 c6,sc 5 0 1 n7 c8,sc 6 0 1 n8 c9,sc 7 0 1 n9 c10]),oC q5,oC q6,oC q8,oC q9,oC q10,(oC [(zI (Int.ofNat k1))])])) (I1 h13) (eE)) ?_
     replace hm:=Ae hm;obtain⟨h14,hm⟩:=hm
     refine .ghs (fr 49 [(1,pt 1 0),(3,(pt 2 0)),(10,Sl.v 1 s4),(11,zI z1),(12,(zI (Int.ofNat k1)))]) (hT 8 [(oC [zI z3,Sl.v 1 s5,Sl.v 1 s6]),(oC [sc 3 0 1 n5 c5,(sc 4 0 1 (n6+1) (d2 (n6+1))),sc 5 0 1 n7 c8,sc 6 0 1 n8 c9,sc 7 0 1 n9 c10]),oC q5,(oC (Br (Am 0 q6) [(zI (Int.ofNat k1))])),oC q8,oC q9,oC q10]) (.k [3,9,5,6,7] [false] [.tmp 1 false,.tmp 3 true,.cell 2 0 false,.cell 2 1 false,.cell 2 2 false,.cell 2 3 false,.cell 2 4 false] [1,3,10,11,12] ⟨DL h0,DL h14,DL h2,DL h3,DL h4,trivial⟩) ?_
     refine .rK ?_
     exact⟨(s4,z1,(Aj .i64 (Int.add (Int.ofNat k1) (1:Int))),z3,s5,s6,n5,c5,(n6+1),(d2 (n6+1)),n7,c8,n8,c9,n9,c10,q5,(Br (Am 0 q6) [(zI (Int.ofNat k1))]),q8,q9,q10),hm,(.k [3,4,5,6,7] [false] [.tmp 1 false,.tmp 3 true,.cell 2 0 false,.cell 2 1 false,.cell 2 2 false,.cell 2 3 false,.cell 2 4 false] [1,3,10,11,12] ⟨DL h0,DL h14,DL h2,DL h3,DL h4,trivial⟩)⟩
    ·replace hm:=Ag hm;rcases hm with⟨h13,hm⟩ | ⟨h13,hm⟩
     ·obtain rfl:=Nat.eq_of_beq_eq_true h13
      replace hm:=Ae hm;obtain⟨h15,hm⟩:=hm
      refine .reg (eC 6 (Oc 1 8 n7 c8 1 5 q8 [(zI (Int.ofNat k1))] [] (hT 9 [(oC [zI z3,Sl.v 1 s5,Sl.v 1 s6]),(oC [sc 3 0 1 n5 c5,sc 4 0 1 n6 c6,sc 5 0 1 n7 c8,sc 6 0 1 n8 c9,sc 7 0 1 n9 c10]),oC q5,oC q6,oC q8,oC q9,oC q10,(oC [(zI (Int.ofNat k1))])])) (I1 h15) (eE)) ?_
      replace hm:=Ae hm;obtain⟨h16,hm⟩:=hm
      refine .ghs (fr 49 [(1,pt 1 0),(3,(pt 2 0)),(10,Sl.v 1 s4),(11,zI z1),(12,(zI (Int.ofNat k1)))]) (hT 8 [(oC [zI z3,Sl.v 1 s5,Sl.v 1 s6]),(oC [sc 3 0 1 n5 c5,sc 4 0 1 n6 c6,(sc 5 0 1 (n7+1) (d2 (n7+1))),sc 6 0 1 n8 c9,sc 7 0 1 n9 c10]),oC q5,oC q6,(oC (Br (Am 0 q8) [(zI (Int.ofNat k1))])),oC q9,oC q10]) (.k [3,4,9,6,7] [false] [.tmp 1 false,.tmp 3 true,.cell 2 0 false,.cell 2 1 false,.cell 2 2 false,.cell 2 3 false,.cell 2 4 false] [1,3,10,11,12] ⟨DL h0,DL h1,DL h16,DL h3,DL h4,trivial⟩) ?_
      refine .rK ?_
      exact⟨(s4,z1,(Aj .i64 (Int.add (Int.ofNat k1) (1:Int))),z3,s5,s6,n5,c5,n6,c6,(n7+1),(d2 (n7+1)),n8,c9,n9,c10,q5,q6,(Br (Am 0 q8) [(zI (Int.ofNat k1))]),q9,q10),hm,(.k [3,4,5,6,7] [false] [.tmp 1 false,.tmp 3 true,.cell 2 0 false,.cell 2 1 false,.cell 2 2 false,.cell 2 3 false,.cell 2 4 false] [1,3,10,11,12] ⟨DL h0,DL h1,DL h16,DL h3,DL h4,trivial⟩)⟩
     ·replace hm:=Ag hm;rcases hm with⟨h15,hm⟩ | ⟨h15,hm⟩
      ·obtain rfl:=Nat.eq_of_beq_eq_true h15
       replace hm:=Ae hm;obtain⟨h17,hm⟩:=hm
       refine .reg (eC 6 (Oc 1 8 n8 c9 1 6 q9 [(zI (Int.ofNat k1))] [] (hT 9 [(oC [zI z3,Sl.v 1 s5,Sl.v 1 s6]),(oC [sc 3 0 1 n5 c5,sc 4 0 1 n6 c6,sc 5 0 1 n7 c8,sc 6 0 1 n8 c9,sc 7 0 1 n9 c10]),oC q5,oC q6,oC q8,oC q9,oC q10,(oC [(zI (Int.ofNat k1))])])) (I1 h17) (eE)) ?_
       replace hm:=Ae hm;obtain⟨h18,hm⟩:=hm
       refine .ghs (fr 49 [(1,pt 1 0),(3,(pt 2 0)),(10,Sl.v 1 s4),(11,zI z1),(12,(zI (Int.ofNat k1)))]) (hT 8 [(oC [zI z3,Sl.v 1 s5,Sl.v 1 s6]),(oC [sc 3 0 1 n5 c5,sc 4 0 1 n6 c6,sc 5 0 1 n7 c8,(sc 6 0 1 (n8+1) (d2 (n8+1))),sc 7 0 1 n9 c10]),oC q5,oC q6,oC q8,(oC (Br (Am 0 q9) [(zI (Int.ofNat k1))])),oC q10]) (.k [3,4,5,9,7] [false] [.tmp 1 false,.tmp 3 true,.cell 2 0 false,.cell 2 1 false,.cell 2 2 false,.cell 2 3 false,.cell 2 4 false] [1,3,10,11,12] ⟨DL h0,DL h1,DL h2,DL h18,DL h4,trivial⟩) ?_
       refine .rK ?_
       exact⟨(s4,z1,(Aj .i64 (Int.add (Int.ofNat k1) (1:Int))),z3,s5,s6,n5,c5,n6,c6,n7,c8,(n8+1),(d2 (n8+1)),n9,c10,q5,q6,q8,(Br (Am 0 q9) [(zI (Int.ofNat k1))]),q10),hm,(.k [3,4,5,6,7] [false] [.tmp 1 false,.tmp 3 true,.cell 2 0 false,.cell 2 1 false,.cell 2 2 false,.cell 2 3 false,.cell 2 4 false] [1,3,10,11,12] ⟨DL h0,DL h1,DL h2,DL h18,DL h4,trivial⟩)⟩
      ·replace hm:=Ag hm;rcases hm with⟨h17,hm⟩ | ⟨h17,hm⟩
       ·obtain rfl:=Nat.eq_of_beq_eq_true h17
        replace hm:=Ae hm;obtain⟨h19,hm⟩:=hm
        refine .reg (eC 6 (Oc 1 8 n9 c10 1 7 q10 [(zI (Int.ofNat k1))] [] (hT 9 [(oC [zI z3,Sl.v 1 s5,Sl.v 1 s6]),(oC [sc 3 0 1 n5 c5,sc 4 0 1 n6 c6,sc 5 0 1 n7 c8,sc 6 0 1 n8 c9,sc 7 0 1 n9 c10]),oC q5,oC q6,oC q8,oC q9,oC q10,(oC [(zI (Int.ofNat k1))])])) (I1 h19) (eE)) ?_
        replace hm:=Ae hm;obtain⟨h20,hm⟩:=hm
        refine .ghs (fr 49 [(1,pt 1 0),(3,(pt 2 0)),(10,Sl.v 1 s4),(11,zI z1),(12,(zI (Int.ofNat k1)))]) (hT 8 [(oC [zI z3,Sl.v 1 s5,Sl.v 1 s6]),(oC [sc 3 0 1 n5 c5,sc 4 0 1 n6 c6,sc 5 0 1 n7 c8,sc 6 0 1 n8 c9,(sc 7 0 1 (n9+1) (d2 (n9+1)))]),oC q5,oC q6,oC q8,oC q9,(oC (Br (Am 0 q10) [(zI (Int.ofNat k1))]))]) (.k [3,4,5,6,9] [false] [.tmp 1 false,.tmp 3 true,.cell 2 0 false,.cell 2 1 false,.cell 2 2 false,.cell 2 3 false,.cell 2 4 false] [1,3,10,11,12] ⟨DL h0,DL h1,DL h2,DL h3,DL h20,trivial⟩) ?_
        refine .rK ?_
        exact⟨(s4,z1,(Aj .i64 (Int.add (Int.ofNat k1) (1:Int))),z3,s5,s6,n5,c5,n6,c6,n7,c8,n8,c9,(n9+1),(d2 (n9+1)),q5,q6,q8,q9,(Br (Am 0 q10) [(zI (Int.ofNat k1))])),hm,(.k [3,4,5,6,7] [false] [.tmp 1 false,.tmp 3 true,.cell 2 0 false,.cell 2 1 false,.cell 2 2 false,.cell 2 3 false,.cell 2 4 false] [1,3,10,11,12] ⟨DL h0,DL h1,DL h2,DL h3,DL h20,trivial⟩)⟩
       ·cases hm
  ·refine G5 (AY z2 z1) h5 ?_
   refine .exit ?_
   exact⟨(z3,s5,s6,n5,c5,n6,c6,n7,c8,n8,c9,n9,c10,q5,q6,q8,q9,q10),hm,(.k [3,4,5,6,7] [false] [.tmp 1 false,.tmp 3 true,.cell 2 0 false,.cell 2 1 false,.cell 2 2 false,.cell 2 3 false,.cell 2 4 false] [1,3] ⟨DL h0,DL h1,DL h2,DL h3,DL h4,trivial⟩)⟩
end
end Go.MnNM
