/- Made from wip. -/
import Derived.Test.YtlgmapibifphaaaDoorMnOMod1x

set_option maxRecDepth 100000
set_option maxHeartbeats 20000000
set_option linter.unusedVariables false
namespace Go.MnOM
open Go.Sp Go.MnO
noncomputable section
def Ui (pu:Af) (n:Nat) (q0:LV):OV:=
 (bb (Nat.ble (0+5) (len q0)) (oo (AL q0 0) none fun v0=>(oo (Bi .i64 v0) none fun x0=>(oo (AL q0 (0+1)) none fun v1=>(oo (Bi .i64 v1) none fun x1=>(oo (AL q0 ((0+1)+1)) none fun v2=>(oo (Bi .i64 v2) none fun x2=>(oo (AL q0 (((0+1)+1)+1)) none fun v3=>(oo (Bi .i64 v3) none fun x3=>(oo (AL q0 ((((0+1)+1)+1)+1)) none fun v4=>(oo (Bi .i64 v4) none fun x4=>(bb (bq false (an (Bd x0 (0:Int)) (an (Bd x1 (0:Int)) (an (Bd x2 (0:Int)) (an (Bd x3 (0:Int)) (an (Bd x4 (0:Int)) true)))))) (some (.int .i64 (17:Int))) (some (.int .i64 (0:Int)))))))))))))) none)
def QL (pu:Af) (n:Nat) (ih0:Sl→Int→Int→Int→Sl→Sl→LV→OV) (z0 z1:Int) (s0:Sl) (z2 z3:Int) (b0:Bool) (z4:Int) (s1 s2:Sl) (q0:LV):OV:=
 (bb b0 (some (.int .i64 (2:Int))) (bb (Au Ah q0) (oo (EA z0) none fun k1=>(bb (Nat.blt k1 5) (oo (AL q0 (0+k1*1)) none fun v0=>(oo (Bi .i64 v0) none fun x0=>(bb (Nat.blt k1 5) (bb (an (Nat.ble ((0+k1*1)+1) (len q0)) true) (bb (Au Ah (BM ([(.int .i64 (Aj .i64 (Int.add x0 (1:Int))))]:LV) (0+k1*1) q0)) (oo (EA z1) none fun k2=>(bb (Nat.blt k2 5) (oo (AL (BM ([(.int .i64 (Aj .i64 (Int.add x0 (1:Int))))]:LV) (0+k1*1) q0) (0+k2*1)) none fun v1=>(oo (Bi .i64 v1) none fun x1=>(bb (Nat.blt k2 5) (bb (an (Nat.ble ((0+k2*1)+1) (len (BM ([(.int .i64 (Aj .i64 (Int.add x0 (1:Int))))]:LV) (0+k1*1) q0))) true) (bb (Au Ah (BM ([(.int .i64 (Aj .i64 (Int.sub x1 (1:Int))))]:LV) (0+k2*1) (BM ([(.int .i64 (Aj .i64 (Int.add x0 (1:Int))))]:LV) (0+k1*1) q0))) (ih0 s0 z2 (Aj .i64 (Int.add z3 (1:Int))) z4 s1 s2 (BM ([(.int .i64 (Aj .i64 (Int.sub x1 (1:Int))))]:LV) (0+k2*1) (BM ([(.int .i64 (Aj .i64 (Int.add x0 (1:Int))))]:LV) (0+k1*1) q0))) none) none) none))) none)) none) none) none))) none)) none))
def Uj (pu:Af) (n:Nat) (ih0:Sl→Int→Int→Int→Sl→Sl→LV→OV) (s0:Sl) (z0 z1 z2:Int) (s1 s2:Sl) (q0:LV):OV:=
 (bb (Au Ah q0) (bb (AY z1 z0) (oo (EA z1) none fun k1=>(bb (an (Nat.blt k1 (Sl.n s0)) true) (oo (AL (Sl.cs s0) (k1*1)) none fun v0=>(oo (Bi .i64 v0) none fun x0=>(bb (an (Nat.blt k1 (Sl.n s2)) true) (oo (AL (Sl.cs s2) (k1*1)) none fun v1=>(oo (Bi .i64 v1) none fun x1=>(oo (pu 52 [(.int .i64 (0:Int)),(.int .i64 (bb (AY x1 x0) x1 x0)),(.int .i64 (Aj .i64 (Int.sub z2 (1:Int))))]) none fun v2=>(oo (Bf v2) none fun b0=>(bb (nt b0) (QL pu n ih0 x0 x1 s0 z0 (Int.ofNat k1) true z2 s1 s2 q0) (QL pu n ih0 x0 x1 s0 z0 (Int.ofNat k1) (nt (AY (bb (AY x0 x1) x1 x0) z2)) z2 s1 s2 q0)))))) none))) none)) (Ui pu n q0)) none)
def Pm (pu:Af) (n w:Nat):Sl→Int→Int→Int→Sl→Sl→LV→OV:=
 Nat.rec (motive:=fun _=>Sl→Int→Int→Int→Sl→Sl→LV→OV) (fun _ _ _ _ _ _ _=>none) (fun _ ih0=>Uj pu n ih0) w
def Aa2 (pu:Af) (n:Nat) (x0:Int) (s0 s1:Sl):OV:=
 (oo (pu 52 [(.int .i64 (1:Int)),.int .i64 x0,(.int .i64 (5:Int))]) none fun v0=>(oo (Bf v0) none fun b0=>(bb (nt b0) (some (.int .i64 (1:Int))) (bb (Bd (Int.ofNat (Sl.n s0)) (0:Int)) (some (.int .i64 (4:Int))) (bb (AY (10:Int) (Int.ofNat (Sl.n s0))) (some (.int .i64 (3:Int))) (bb (nt (Bd (Int.ofNat (Sl.n s1)) (Int.ofNat (Sl.n s0)))) (some (.int .i64 (5:Int))) (Pm pu n n s0 (Int.ofNat (Sl.n s0)) (0:Int) x0 s0 s1 ([(.int .i64 (0:Int)),(.int .i64 (0:Int)),(.int .i64 (0:Int)),(.int .i64 (0:Int)),(.int .i64 (0:Int))]:LV))))))))
def m47 (pu:Af) (n:Nat) (args:LV):OV:=
 (ll args none fun a0 args=>(ll args (oo (Bt a0) none fun l0=>(ll l0 none fun v0 l0=>(ll l0 none fun v1 l0=>(ll l0 none fun v2 l0=>(ll l0 (oo (Bi .i64 v0) none fun x0=>(oo (Bj 1 v1) none fun s0=>(oo (Bj 1 v2) none fun s1=>(Aa2 pu n x0 s0 s1)))) fun _ _=>none))))) fun _ _=>none))
theorem Aa3 (pu:Af) (n:Nat) (q0:LV) {v:Value} (hm:Ui pu n q0=some v):BN tt (Bb tabs HV pu (inl pu)) 1 X3 (fr 73 [(3,pt 1 0)]) (hT 2 [oC q0]) (Fin tt 1 [.tmp 2] v):=by
 unfold Ui at hm
 refine .then (.then ?_)
 replace hm:=Ae hm;obtain⟨h0,hm⟩:=hm
 replace hm:=Hy hm;obtain⟨x0,h1,hm⟩:=hm
 replace hm:=Hy hm;obtain⟨x1,h2,hm⟩:=hm
 replace hm:=Hy hm;obtain⟨x2,h3,hm⟩:=hm
 replace hm:=Hy hm;obtain⟨x3,h4,hm⟩:=hm
 replace hm:=Hy hm;obtain⟨x4,h5,hm⟩:=hm
 refine .reg (eD (keep (hT 2 [oC q0]) (bb (Nat.ble (0+5) (len q0)) (some (.agg ⟨Aq 5 (Am 0 q0)⟩)) none)) (Pd h0 (Ca h1 (Ca h2 (Ca h3 (Ca h4 (Ca h5 rfl)))))) (eE)) ?_
 refine .ghs (fr 73 [(72,(zB (bq false (an (Bd x0 (0:Int)) (an (Bd x1 (0:Int)) (an (Bd x2 (0:Int)) (an (Bd x3 (0:Int)) (an (Bd x4 (0:Int)) true))))))))]) DT (.k0 [false] [] [72]) ?_
 replace hm:=Ag hm;rcases hm with⟨h6,hm⟩ | ⟨h6,hm⟩
 ·refine FX (bq false (an (Bd x0 (0:Int)) (an (Bd x1 (0:Int)) (an (Bd x2 (0:Int)) (an (Bd x3 (0:Int)) (an (Bd x4 (0:Int)) true)))))) h6 ?_
  refine .then (.rK (.ghs (fr 73 [(2,(zI (17:Int)))]) DT (.k0 [false] [] [2]) ?_))
  refine .ret ?_
  exact Fp (zI (17:Int)) hm
 ·refine FY (bq false (an (Bd x0 (0:Int)) (an (Bd x1 (0:Int)) (an (Bd x2 (0:Int)) (an (Bd x3 (0:Int)) (an (Bd x4 (0:Int)) true)))))) h6 ?_
  refine .skip (.ghs (fr 73 []) DT (.k0 [false] [] []) ?_)
  refine .then (.rK (.ghs (fr 73 [(2,(zI (0:Int)))]) DT (.k0 [false] [] [2]) ?_))
  refine .ret ?_
  exact Fp (zI (0:Int)) hm
theorem WE {call:A8} (pu:Af) (n:Nat) (hcall:call=Bb tabs HV pu (inl pu)) {args:LV} {v:Value} (hm:m47 pu n args=some v) (_:∀ x∈args,closed2 x=true):args.length≤73∧BN tt call 1 Sb (Fr.made 73 args) (Ao tabs) (Fin tt 1 [.tmp 2] v):=by
 subst hcall
 unfold m47 at hm
 replace hm:=Ad hm;obtain⟨a0,args_0,rfl,hm⟩:=hm
 replace hm:=AC hm;obtain⟨rfl,hm⟩:=hm
 replace hm:=BG hm;obtain⟨l0,rfl,hm⟩:=hm
 replace hm:=Ad hm;obtain⟨v0,l34291_0,rfl,hm⟩:=hm
 replace hm:=Ad hm;obtain⟨v1,l34291_1,rfl,hm⟩:=hm
 replace hm:=Ad hm;obtain⟨v2,l34291_2,rfl,hm⟩:=hm
 replace hm:=AC hm;obtain⟨rfl,hm⟩:=hm
 replace hm:=Ai hm;obtain⟨x0,rfl,hm⟩:=hm
 replace hm:=Al hm;obtain⟨s0,rfl,hm⟩:=hm
 replace hm:=Al hm;obtain⟨s1,rfl,hm⟩:=hm
 unfold Aa2 at hm
 refine⟨by simp,?_⟩
 refine .same (F':=(fr 73 [(0,(.agg ⟨[zI x0,Sl.v 1 s0,Sl.v 1 s1]⟩))])) (H':=DT) (by kernel_rfl) (by kernel_rfl) ?_
 refine .then (.rK (.ghs (fr 73 [(1,pt 1 0)]) (hT 2 [(oC [zI x0,Sl.v 1 s0,Sl.v 1 s1])]) (.k0 [false] [.tmp 1 false] [1]) ?_))
 refine .then (.block (.then ?_))
 replace hm:=fD hm;obtain⟨b0,h0,hm⟩:=hm
 refine .reg (eC 2 ((oo (pu 52 [(zI (1:Int)),zI x0,(zI (5:Int))]) none fun v=>some (v,(hT 2 [(oC [zI x0,Sl.v 1 s0,Sl.v 1 s1])])))) (AB h0) (eE)) ?_
 refine .ghs (fr 73 [(1,pt 1 0),(7,(zB (nt b0)))]) (hT 2 [(oC [zI x0,Sl.v 1 s0,Sl.v 1 s1])]) (.k0 [false] [.tmp 1 false] [1,7]) ?_
 replace hm:=Ag hm;rcases hm with⟨h1,hm⟩ | ⟨h1,hm⟩
 ·refine FX (nt b0) h1 ?_
  refine .then (.rK (.ghs (fr 73 [(2,(zI (1:Int)))]) DT (.k0 [false] [] [2]) ?_))
  refine .ret ?_
  exact Fp (zI (1:Int)) hm
 ·refine FY (nt b0) h1 ?_
  refine .then (.rK (.ghs (fr 73 [(1,pt 1 0),(12,(zB (Bd (Int.ofNat (Sl.n s0)) (0:Int))))]) (hT 2 [(oC [zI x0,Sl.v 1 s0,Sl.v 1 s1])]) (.k0 [false] [.tmp 1 false] [1,12]) ?_))
  replace hm:=Ag hm;rcases hm with⟨h2,hm⟩ | ⟨h2,hm⟩
  ·refine FX (Bd (Int.ofNat (Sl.n s0)) (0:Int)) h2 ?_
   refine .then (.rK (.ghs (fr 73 [(2,(zI (4:Int)))]) DT (.k0 [false] [] [2]) ?_))
   refine .ret ?_
   exact Fp (zI (4:Int)) hm
  ·refine FY (Bd (Int.ofNat (Sl.n s0)) (0:Int)) h2 ?_
   refine .then (.rK (.ghs (fr 73 [(1,pt 1 0),(17,(zB (AY (10:Int) (Int.ofNat (Sl.n s0)))))]) (hT 2 [(oC [zI x0,Sl.v 1 s0,Sl.v 1 s1])]) (.k0 [false] [.tmp 1 false] [1,17]) ?_))
   replace hm:=Ag hm;rcases hm with⟨h3,hm⟩ | ⟨h3,hm⟩
   ·refine FX (AY (10:Int) (Int.ofNat (Sl.n s0))) h3 ?_
    refine .then (.rK (.ghs (fr 73 [(2,(zI (3:Int)))]) DT (.k0 [false] [] [2]) ?_))
    refine .ret ?_
    exact Fp (zI (3:Int)) hm
   ·refine FY (AY (10:Int) (Int.ofNat (Sl.n s0))) h3 ?_
    refine .then (.rK (.ghs (fr 73 [(1,pt 1 0),(22,(zB (nt (Bd (Int.ofNat (Sl.n s1)) (Int.ofNat (Sl.n s0))))))]) (hT 2 [(oC [zI x0,Sl.v 1 s0,Sl.v 1 s1])]) (.k0 [false] [.tmp 1 false] [1,22]) ?_))
    replace hm:=Ag hm;rcases hm with⟨h4,hm⟩ | ⟨h4,hm⟩
    ·refine FX (nt (Bd (Int.ofNat (Sl.n s1)) (Int.ofNat (Sl.n s0)))) h4 ?_
     refine .then (.rK (.ghs (fr 73 [(2,(zI (5:Int)))]) DT (.k0 [false] [] [2]) ?_))
     refine .ret ?_
     exact Fp (zI (5:Int)) hm
    ·refine FY (nt (Bd (Int.ofNat (Sl.n s1)) (Int.ofNat (Sl.n s0)))) h4 ?_
     refine .skip (.ghs (fr 73 [(1,pt 1 0)]) (hT 2 [(oC [zI x0,Sl.v 1 s0,Sl.v 1 s1])]) (.k0 [false] [.tmp 1 false] [1]) ?_)
     refine .then (.rK (.ghs (fr 73 [(1,pt 1 0),(3,(pt 2 0))]) (hT 3 [(oC [zI x0,Sl.v 1 s0,Sl.v 1 s1]),(oC [(zI (0:Int)),(zI (0:Int)),(zI (0:Int)),(zI (0:Int)),(zI (0:Int))])]) (.k0 [false] [.tmp 1 false,.tmp 3 false] [1,3]) ?_))
     refine .join (v:=v) (fun y:LV=>((fr 73 [(3,pt 1 0)]),(hT 2 [oC y]))) (fun y=>Ui pu n y) ?_ ?_
     ·rintro q0 hm
      exact Aa3 pu n q0 hm
     ·refine .then (.rK (.ghs (fr 73 [(1,pt 1 0),(3,(pt 2 0)),(31,Sl.v 1 s0),(32,(zI (Int.ofNat (Sl.n s0)))),(33,(zI (0:Int)))]) (hT 3 [(oC [zI x0,Sl.v 1 s0,Sl.v 1 s1]),(oC [(zI (0:Int)),(zI (0:Int)),(zI (0:Int)),(zI (0:Int)),(zI (0:Int))])]) (.k0 [false] [.tmp 1 false,.tmp 3 false] [1,3,31,32,33]) ?_))
      refine .block (.loopM (v:=v) (fun y:Sl×Int×Int×Int×Sl×Sl×LV=>((fr 73 [(1,pt 1 0),(3,(pt 2 0)),(31,(Sl.v 1 y.1)),(32,(zI y.2.1)),(33,(zI y.2.2.1))]),(hT 3 [(oC [(zI y.2.2.2.1),(Sl.v 1 y.2.2.2.2.1),(Sl.v 1 y.2.2.2.2.2.1)]),(oC y.2.2.2.2.2.2)]))) (fun w y=>Pm pu n w y.1 y.2.1 y.2.2.1 y.2.2.2.1 y.2.2.2.2.1 y.2.2.2.2.2.1 y.2.2.2.2.2.2) n ⟨(s0,(Int.ofNat (Sl.n s0)),(0:Int),x0,s0,s1,([(zI (0:Int)),(zI (0:Int)),(zI (0:Int)),(zI (0:Int)),(zI (0:Int))]:LV)),hm,(.k0 [false] [.tmp 1 false,.tmp 3 false] [1,3,31,32,33])⟩ (fun _=>rfl) ?_)
      rintro w0 ⟨s2,z0,z1,z2,s3,s4,q1⟩ hm
      replace hm:Uj pu n (Pm pu n w0) s2 z0 z1 z2 s3 s4 q1=some v:=hm
      unfold Uj at hm
      refine .then (.rK ?_)
      replace hm:=Ae hm;obtain⟨h5,hm⟩:=hm
      refine .ghs (fr 73 [(1,pt 1 0),(3,(pt 2 0)),(31,Sl.v 1 s2),(32,zI z0),(33,zI z1),(34,(zB (AY z1 z0)))]) (hT 3 [(oC [zI z2,Sl.v 1 s3,Sl.v 1 s4]),oC q1]) (.k [2] [false] [.tmp 1 false,.tmp 3 false] [1,3,31,32,33,34] ⟨Dy h5,trivial⟩) ?_
      refine .then ?_
      replace hm:=Ag hm;rcases hm with⟨h6,hm⟩ | ⟨h6,hm⟩
      ·refine FX (AY z1 z0) h6 ?_
       refine .skip (.ghs (fr 73 [(1,pt 1 0),(3,(pt 2 0)),(31,Sl.v 1 s2),(32,zI z0),(33,zI z1)]) (hT 3 [(oC [zI z2,Sl.v 1 s3,Sl.v 1 s4]),oC q1]) (.k [2] [false] [.tmp 1 false,.tmp 3 false] [1,3,31,32,33] ⟨Dy h5,trivial⟩) ?_)
       refine .then (.block (.then ?_))
       replace hm:=Ab hm;obtain⟨k1,h7,hm⟩:=hm
       obtain rfl:=AR h7
       replace hm:=Ae hm;obtain⟨h8,hm⟩:=hm
       replace hm:=Hy hm;obtain⟨x1,h9,hm⟩:=hm
       refine .reg (eC 1 (keep (hT 3 [(oC [zI z2,Sl.v 1 s3,Sl.v 1 s4]),oC q1]) (bb (an (Nat.blt k1 (Sl.n s2)) true) (some (Cv (k1*1) (Sl.cs s2))) none)) (AX h8) (eD (keep (hT 3 [(oC [zI z2,Sl.v 1 s3,Sl.v 1 s4]),oC q1]) (AL (Sl.cs s2) (k1*1))) (AZ h9) (eE))) ?_
       refine .ghs (fr 73 [(1,pt 1 0),(3,(pt 2 0)),(4,(zI (Int.ofNat k1))),(5,zI x1),(31,Sl.v 1 s2),(32,zI z0),(33,(zI (Int.ofNat k1)))]) (hT 3 [(oC [zI z2,Sl.v 1 s3,Sl.v 1 s4]),oC q1]) (.k [2] [false] [.tmp 1 false,.tmp 3 false] [1,3,4,5,31,32,33] ⟨Dy h5,trivial⟩) ?_
       refine .then ?_
       replace hm:=Ae hm;obtain⟨h10,hm⟩:=hm
       replace hm:=Hy hm;obtain⟨x2,h11,hm⟩:=hm
       refine .reg (eC 3 (keep (hT 3 [(oC [zI z2,Sl.v 1 s3,Sl.v 1 s4]),oC q1]) (bb (an (Nat.blt k1 (Sl.n s4)) true) (some (Cv (k1*1) (Sl.cs s4))) none)) (AX h10) (eD (keep (hT 3 [(oC [zI z2,Sl.v 1 s3,Sl.v 1 s4]),oC q1]) (AL (Sl.cs s4) (k1*1))) (AZ h11) (eE))) ?_
       refine .ghs (fr 73 [(1,pt 1 0),(3,(pt 2 0)),(5,zI x1),(6,zI x2),(31,Sl.v 1 s2),(32,zI z0),(33,(zI (Int.ofNat k1)))]) (hT 3 [(oC [zI z2,Sl.v 1 s3,Sl.v 1 s4]),oC q1]) (.k [2] [false] [.tmp 1 false,.tmp 3 false] [1,3,5,6,31,32,33] ⟨Dy h5,trivial⟩) ?_
       refine .then (.join (v:=v) (fun y:Int×Int×Sl×Int×Int×Bool×Int×Sl×Sl×LV=>((fr 73 [(1,pt 1 0),(3,(pt 2 0)),(5,(zI y.1)),(6,(zI y.2.1)),(31,(Sl.v 1 y.2.2.1)),(32,(zI y.2.2.2.1)),(33,(zI y.2.2.2.2.1)),(58,(zB y.2.2.2.2.2.1))]),(hT 3 [(oC [(zI y.2.2.2.2.2.2.1),(Sl.v 1 y.2.2.2.2.2.2.2.1),(Sl.v 1 y.2.2.2.2.2.2.2.2.1)]),(oC y.2.2.2.2.2.2.2.2.2)]))) (fun y=>QL pu n (Pm pu n w0) y.1 y.2.1 y.2.2.1 y.2.2.2.1 y.2.2.2.2.1 y.2.2.2.2.2.1 y.2.2.2.2.2.2.1 y.2.2.2.2.2.2.2.1 y.2.2.2.2.2.2.2.2.1 y.2.2.2.2.2.2.2.2.2) ?_ ?_)
       ·rintro⟨z3,z4,s5,z5,z6,b3,z7,s6,s7,q2⟩ hm
        unfold QL at hm
        replace hm:=Ag hm;rcases hm with⟨h12,hm⟩ | ⟨h12,hm⟩
        ·refine .ifT b3 (by kernel_rfl) h12 ?_
         refine .then (.rK (.ghs (fr 73 [(2,(zI (2:Int)))]) DT (.k0 [false] [] [2]) ?_))
         refine .ret ?_
         exact Fp (zI (2:Int)) hm
        ·refine .ifF b3 (by kernel_rfl) h12 ?_
         refine .skip ?_
         replace hm:=Ae hm;obtain⟨h13,hm⟩:=hm
         refine .ghs (fr 73 [(1,pt 1 0),(3,(pt 2 0)),(5,zI z3),(6,zI z4),(31,Sl.v 1 s5),(32,zI z5),(33,zI z6)]) (hT 3 [(oC [zI z7,Sl.v 1 s6,Sl.v 1 s7]),oC q2]) (.k [2] [false] [.tmp 1 false,.tmp 3 false] [1,3,5,6,31,32,33] ⟨Dy h13,trivial⟩) ?_
         refine .then ?_
         replace hm:=Ab hm;obtain⟨k2,h14,hm⟩:=hm
         obtain rfl:=AR h14
         replace hm:=Ae hm;obtain⟨h15,hm⟩:=hm
         replace hm:=Hy hm;obtain⟨x3,h16,hm⟩:=hm
         replace hm:=Ae hm;obtain⟨h17,hm⟩:=hm
         replace hm:=Ae hm;obtain⟨h18,hm⟩:=hm
         refine .reg (eC 1 (keep (hT 3 [(oC [zI z7,Sl.v 1 s6,Sl.v 1 s7]),oC q2]) (bb (Nat.blt k2 5) (some (.pointer (some ⟨2,(0+k2*1),none⟩))) none)) (AX h15) (eD (keep (hT 3 [(oC [zI z7,Sl.v 1 s6,Sl.v 1 s7]),oC q2]) (AL q2 (0+k2*1))) (AZ h16) (eC 1 (keep (hT 3 [(oC [zI z7,Sl.v 1 s6,Sl.v 1 s7]),oC q2]) (bb (Nat.blt k2 5) (some (.pointer (some ⟨2,(0+k2*1),none⟩))) none)) (AX h17) (eD (done (bb (an (Nat.ble ((0+k2*1)+1) (len q2)) true) (some (hT 3 [(oC [zI z7,Sl.v 1 s6,Sl.v 1 s7]),(oC (BM ([(zI (Aj .i64 (Int.add x3 (1:Int))))]:LV) (0+k2*1) q2))])) none) undef) (Js h18) (eE))))) ?_
         replace hm:=Ae hm;obtain⟨h19,hm⟩:=hm
         refine .ghs (fr 73 [(1,pt 1 0),(3,(pt 2 0)),(6,zI z4),(31,Sl.v 1 s5),(32,zI z5),(33,zI z6)]) (hT 3 [(oC [zI z7,Sl.v 1 s6,Sl.v 1 s7]),(oC (BM ([(zI (Aj .i64 (Int.add x3 (1:Int))))]:LV) (0+k2*1) q2))]) (.k [2] [false] [.tmp 1 false,.tmp 3 false] [1,3,6,31,32,33] ⟨Dy h19,trivial⟩) ?_
         replace hm:=Ab hm;obtain⟨k3,h20,hm⟩:=hm
         obtain rfl:=AR h20
         replace hm:=Ae hm;obtain⟨h21,hm⟩:=hm
         replace hm:=Hy hm;obtain⟨x4,h22,hm⟩:=hm
         replace hm:=Ae hm;obtain⟨h23,hm⟩:=hm
         replace hm:=Ae hm;obtain⟨h24,hm⟩:=hm
         refine .reg (eC 1 (keep (hT 3 [(oC [zI z7,Sl.v 1 s6,Sl.v 1 s7]),(oC (BM ([(zI (Aj .i64 (Int.add x3 (1:Int))))]:LV) (0+k2*1) q2))]) (bb (Nat.blt k3 5) (some (.pointer (some ⟨2,(0+k3*1),none⟩))) none)) (AX h21) (eD (keep (hT 3 [(oC [zI z7,Sl.v 1 s6,Sl.v 1 s7]),(oC (BM ([(zI (Aj .i64 (Int.add x3 (1:Int))))]:LV) (0+k2*1) q2))]) (AL (BM ([(zI (Aj .i64 (Int.add x3 (1:Int))))]:LV) (0+k2*1) q2) (0+k3*1))) (AZ h22) (eC 1 (keep (hT 3 [(oC [zI z7,Sl.v 1 s6,Sl.v 1 s7]),(oC (BM ([(zI (Aj .i64 (Int.add x3 (1:Int))))]:LV) (0+k2*1) q2))]) (bb (Nat.blt k3 5) (some (.pointer (some ⟨2,(0+k3*1),none⟩))) none)) (AX h23) (eD (done (bb (an (Nat.ble ((0+k3*1)+1) (len (BM ([(zI (Aj .i64 (Int.add x3 (1:Int))))]:LV) (0+k2*1) q2))) true) (some (hT 3 [(oC [zI z7,Sl.v 1 s6,Sl.v 1 s7]),(oC (BM ([(zI (Aj .i64 (Int.sub x4 (1:Int))))]:LV) (0+k3*1) (BM ([(zI (Aj .i64 (Int.add x3 (1:Int))))]:LV) (0+k2*1) q2)))])) none) undef) (Js h24) (eE))))) ?_
         replace hm:=Ae hm;obtain⟨h25,hm⟩:=hm
         refine .ghs (fr 73 [(1,pt 1 0),(3,(pt 2 0)),(31,Sl.v 1 s5),(32,zI z5),(33,zI z6)]) (hT 3 [(oC [zI z7,Sl.v 1 s6,Sl.v 1 s7]),(oC (BM ([(zI (Aj .i64 (Int.sub x4 (1:Int))))]:LV) (0+k3*1) (BM ([(zI (Aj .i64 (Int.add x3 (1:Int))))]:LV) (0+k2*1) q2)))]) (.k [2] [false] [.tmp 1 false,.tmp 3 false] [1,3,31,32,33] ⟨Dy h25,trivial⟩) ?_
         refine .rK ?_
         exact⟨(s5,z5,(Aj .i64 (Int.add z6 (1:Int))),z7,s6,s7,(BM ([(zI (Aj .i64 (Int.sub x4 (1:Int))))]:LV) (0+k3*1) (BM ([(zI (Aj .i64 (Int.add x3 (1:Int))))]:LV) (0+k2*1) q2))),hm,(.k [2] [false] [.tmp 1 false,.tmp 3 false] [1,3,31,32,33] ⟨Dy h25,trivial⟩)⟩
       ·replace hm:=fD hm;obtain⟨b4,h26,hm⟩:=hm
        replace hm:=Ag hm;rcases hm with⟨h27,hm⟩ | ⟨h27,hm⟩
        ·refine .reg (eC 6 ((oo (pu 52 [(zI (0:Int)),(zI (bb (AY x2 x1) x2 x1)),(zI (Aj .i64 (Int.sub z2 (1:Int))))]) none fun v=>some (v,(hT 3 [(oC [zI z2,Sl.v 1 s3,Sl.v 1 s4]),oC q1])))) (AB h26) (eD (some ((zB (nt b4)),(hT 3 [(oC [zI z2,Sl.v 1 s3,Sl.v 1 s4]),oC q1]))) (show _=some ((zB true),_) from (by rw[show (nt b4)=true from h27])) (eE))) ?_
         exact⟨(x1,x2,s2,z0,(Int.ofNat k1),true,z2,s3,s4,q1),hm,(.k [2] [false] [.tmp 1 false,.tmp 3 false] [1,3,5,6,31,32,33,58] ⟨Dy h5,trivial⟩)⟩
        ·refine .reg (eC 6 ((oo (pu 52 [(zI (0:Int)),(zI (bb (AY x2 x1) x2 x1)),(zI (Aj .i64 (Int.sub z2 (1:Int))))]) none fun v=>some (v,(hT 3 [(oC [zI z2,Sl.v 1 s3,Sl.v 1 s4]),oC q1])))) (AB h26) (eD (some ((zB (nt b4)),(hT 3 [(oC [zI z2,Sl.v 1 s3,Sl.v 1 s4]),oC q1]))) (show _=some ((zB false),_) from (by rw[show (nt b4)=false from h27])) (eE))) ?_
         exact⟨(x1,x2,s2,z0,(Int.ofNat k1),(nt (AY (bb (AY x1 x2) x2 x1) z2)),z2,s3,s4,q1),hm,(.k [2] [false] [.tmp 1 false,.tmp 3 false] [1,3,5,6,31,32,33,58] ⟨Dy h5,trivial⟩)⟩
      ·refine FY (AY z1 z0) h6 ?_
       refine .exit ?_
       exact⟨q1,hm,(.k [2] [false] [.tmp 3 false] [3] ⟨Dy h5,trivial⟩)⟩
def Uk (pu:Af) (n n0 c0:Nat) (q0:LV):OV:=
 (bb (Au Ah q0) (bb (an (Nat.ble (0+n0*1) (len q0)) (Au Ah (Aq (n0*1) (Am 0 q0)))) (some (Sl.v 1 (Sl.mk n0 0 (Aq (n0*1) (Am 0 q0))))) none) none)
def Ul (pu:Af) (n:Nat) (ih0:Nat→Nat→Int→Int→Sl→Sl→LV→List EO→Nat→OV) (ih1:Nat→Nat→Int→Sl→Int→Int→Int→Sl→Sl→LV→List EO→Nat→OV) (n0 c0:Nat) (z0:Int) (s0:Sl) (z1 z2 z3:Int) (s1 s2:Sl) (q0:LV) (e0:List EO) (k1:Nat):OV:=
 (bb (Au Ah q0) (bb (Au F4 e0) (bb (AY z2 z1) (oo (EA z2) none fun k2=>(bb (an (Nat.blt k2 (Sl.n s0)) true) (oo (AL (Sl.cs s0) (k2*1)) none fun v0=>(oo (Bi .i64 v0) none fun x0=>(oo (EA x0) none fun k3=>(ih1 n0 c0 (QV .u16 z0 (QW .u16 (1:Int) k3)) s0 z1 (Aj .i64 (Int.add (Int.ofNat k2) (1:Int))) z3 s1 s2 q0 e0 k1)))) none)) (ih0 n0 c0 z0 z3 s1 s2 q0 e0 k1)) none) none)
def Um (pu:Af) (n:Nat) (ih0:Nat→Nat→Int→Int→Sl→Sl→LV→List EO→Nat→OV) (w:Nat):Nat→Nat→Int→Sl→Int→Int→Int→Sl→Sl→LV→List EO→Nat→OV:=
 Nat.rec (motive:=fun _=>Nat→Nat→Int→Sl→Int→Int→Int→Sl→Sl→LV→List EO→Nat→OV) (fun _ _ _ _ _ _ _ _ _ _ _ _=>none) (fun _ ih1=>Ul pu n ih0 ih1) w
def Pn (pu:Af) (n:Nat) (ih0:Nat→Nat→Int→Int→Sl→Sl→LV→List EO→Nat→OV) (n0 c0:Nat) (z0 z1:Int) (s0 s1:Sl) (q0:LV) (e0:List EO) (k1:Nat):OV:=
 (bb (Au Ah q0) (bb (Au F4 e0) (bb (nt (Bd z0 (0:Int))) (oo (pu 67 [.int .u16 z0]) none fun v0=>(oo (Bi .i64 v0) none fun x0=>(oo (EA x0) none fun k2=>(bb (Au F4 e0) (oo (pu 10660 [(.pointer (some ⟨1,0,none⟩)),.int .u16 z0,(.agg ⟨[.int .i64 z1,Sl.v 1 s0,Sl.v 1 s1,(.map (some 2))]⟩),(Ef (.map e0 k1))]) none fun v1=>(oo (CQ v1) none fun l0=>(ll l0 none fun v2 l0=>(ll l0 none fun v3 l0=>(ll l0 none fun v4 l0=>(ll l0 (oo (Bi .i64 v2) none fun x1=>(oo (Bt v3) none fun l1=>(ll l1 none fun v5 l1=>(ll l1 none fun v6 l1=>(ll l1 none fun v7 l1=>(ll l1 none fun v8 l1=>(ll l1 (oo (Bi .i64 v5) none fun x2=>(oo (Bj 1 v6) none fun s2=>(oo (Bj 1 v7) none fun s3=>(bb (FC v8 2) (oo (Fj v4) none fun y0=>(bb (Au F4 (Akd.es y0)) (bb (Au F4 (Akd.es y0)) (oo (pu 10680 [(.pointer (some ⟨1,0,none⟩)),(Sl.v 1 (Sl.mk 1 0 (Aq (1*1) (Am 0 ([(.int .i64 (Int.ofNat k2))]:LV))))),(.int .u16 (QV .u16 z0 (QW .u16 (1:Int) k2))),(.int .i64 (Aj .i64 (Int.sub x1 (1:Int)))),(.agg ⟨[.int .i64 x2,Sl.v 1 s2,Sl.v 1 s3,(.map (some 2))]⟩),(Ef (.map (Akd.es y0) (Akd.clock y0)))]) none fun v9=>(oo (CQ v9) none fun l2=>(ll l2 none fun v10 l2=>(ll l2 none fun v11 l2=>(ll l2 none fun v12 l2=>(ll l2 (oo (Bj 1 v10) none fun s4=>(oo (Bt v11) none fun l3=>(ll l3 none fun v13 l3=>(ll l3 none fun v14 l3=>(ll l3 none fun v15 l3=>(ll l3 none fun v16 l3=>(ll l3 (oo (Bi .i64 v13) none fun x3=>(oo (Bj 1 v14) none fun s5=>(oo (Bj 1 v15) none fun s6=>(bb (FC v16 2) (oo (Fj v12) none fun y1=>(bb (Au F4 (Akd.es y1)) (bb (Au F4 (Akd.es y1)) (bb (GV 1 24 n0 c0 1 q0) (bb (Au Ah (Br (Am 0 q0) [Sl.v 1 s4])) (Um pu n ih0 n (n0+1) (2*(n0+1)+bb false 1 0) z0 s4 (Int.ofNat (Sl.n s4)) (0:Int) x3 s5 s6 (Br (Am 0 q0) [Sl.v 1 s4]) (Akd.es y1) (Akd.clock y1)) none) none) none) none)) none)))) fun _ _=>none))))))) fun _ _=>none)))))) none) none)) none)))) fun _ _=>none))))))) fun _ _=>none)))))) none)))) (Uk pu n n0 c0 q0)) none) none)
def M8 (pu:Af) (n w:Nat):Nat→Nat→Int→Int→Sl→Sl→LV→List EO→Nat→OV:=
 Nat.rec (motive:=fun _=>Nat→Nat→Int→Int→Sl→Sl→LV→List EO→Nat→OV) (fun _ _ _ _ _ _ _ _ _=>none) (fun _ ih0=>Pn pu n ih0) w
def bP (pu:Af) (n:Nat) (x0:Int) (s0 s1:Sl):OV:=
 (oo (pu 10650 [(.agg ⟨[.int .i64 x0,Sl.v 1 s0,Sl.v 1 s1]⟩)]) none fun v0=>(oo (CQ v0) none fun l0=>(ll l0 none fun v1 l0=>(ll l0 none fun v2 l0=>(ll l0 none fun v3 l0=>(ll l0 (bb (MK v1 1 0) (oo (Bt v2) none fun l1=>(ll l1 none fun v4 l1=>(ll l1 none fun v5 l1=>(ll l1 none fun v6 l1=>(ll l1 none fun v7 l1=>(ll l1 (oo (Bi .i64 v4) none fun x1=>(oo (Bj 1 v5) none fun s2=>(oo (Bj 1 v6) none fun s3=>(bb (FC v7 2) (oo (Fj v3) none fun y0=>(bb (Au F4 (Akd.es y0)) (bb (Au F4 (Akd.es y0)) (oo (pu 51 [(.agg ⟨[.int .i64 x0,Sl.v 1 s0,Sl.v 1 s1]⟩)]) none fun v8=>(oo (Bi .u16 v8) none fun x2=>(M8 pu n n 0 0 x2 x1 s2 s3 ([]:LV) (Akd.es y0) (Akd.clock y0)))) none) none)) none)))) fun _ _=>none)))))) none) fun _ _=>none))))))
def vC (pu:Af) (n:Nat) (args:LV):OV:=
 (ll args none fun a0 args=>(ll args (oo (Bt a0) none fun l0=>(ll l0 none fun v0 l0=>(ll l0 none fun v1 l0=>(ll l0 none fun v2 l0=>(ll l0 (oo (Bi .i64 v0) none fun x0=>(oo (Bj 1 v1) none fun s0=>(oo (Bj 1 v2) none fun s1=>(bP pu n x0 s0 s1)))) fun _ _=>none))))) fun _ _=>none))
theorem Aa4 (pu:Af) (n n0 c0:Nat) (q0:LV) {v:Value} (hm:Uk pu n n0 c0 q0=some v):BN tt (Bb tabs HV pu (inl pu)) 1 X4 (fr 46 [(4,sc 1 0 1 n0 c0)]) (hT 2 [oC q0]) (Fin tt 1 [.tmp 2] v):=by
 unfold Uk at hm
 refine .then (.rK ?_)
 replace hm:=Ae hm;obtain⟨h0,hm⟩:=hm
 refine .ghs (fr 46 [(2,sc 1 0 1 n0 c0)]) (hT 2 [oC q0]) (.k [1] [false] [.tmp 2 false] [2] ⟨Dy h0,trivial⟩) ?_
 replace hm:=Ae hm;obtain⟨h1,hm⟩:=hm
 refine .ghs (Fr.puts (fr 46 [(2,sc 1 0 1 n0 c0)]) [(2,(Sl.v 1 (Sl.mk n0 0 (Aq (n0*1) (Am 0 q0)))))]) (hT 2 [.dead]) (.freezeC 1 2 1 (an (Nat.ble (0+n0*1) (len q0)) (Au Ah (Aq (n0*1) (Am 0 q0)))) (F1:=(Fr.puts (fr 46 [(2,sc 1 0 1 n0 c0)]) [(2,(Sl.v 1 (Sl.mk n0 0 (Aq (n0*1) (Am 0 q0)))))])) (H1:=(hT 2 [.dead])) (by kernel_rfl) (by kernel_rfl) h1 (E9.id _ _)) ?_
 refine .ret ?_
 exact Fp (Sl.v 1 (Sl.mk n0 0 (Aq (n0*1) (Am 0 q0)))) hm
theorem r48 {call:A8} (pu:Af) (n:Nat) (hcall:call=Bb tabs HV pu (inl pu)) {args:LV} {v:Value} (hm:vC pu n args=some v) (_:∀ x∈args,closed2 x=true):args.length≤46∧BN tt call 1 Sc (Fr.made 46 args) (Ao tabs) (Fin tt 1 [.tmp 2] v):=by
 subst hcall
 unfold vC at hm
 replace hm:=Ad hm;obtain⟨a0,args_0,rfl,hm⟩:=hm
 replace hm:=AC hm;obtain⟨rfl,hm⟩:=hm
 replace hm:=BG hm;obtain⟨l0,rfl,hm⟩:=hm
 replace hm:=Ad hm;obtain⟨v0,l35024_0,rfl,hm⟩:=hm
 replace hm:=Ad hm;obtain⟨v1,l35024_1,rfl,hm⟩:=hm
 replace hm:=Ad hm;obtain⟨v2,l35024_2,rfl,hm⟩:=hm
 replace hm:=AC hm;obtain⟨rfl,hm⟩:=hm
 replace hm:=Ai hm;obtain⟨x0,rfl,hm⟩:=hm
 replace hm:=Al hm;obtain⟨s0,rfl,hm⟩:=hm
 replace hm:=Al hm;obtain⟨s1,rfl,hm⟩:=hm
 unfold bP at hm
 refine⟨by simp,?_⟩
 refine .same (F':=(fr 46 [(0,(.agg ⟨[zI x0,Sl.v 1 s0,Sl.v 1 s1]⟩))])) (H':=DT) (by kernel_rfl) (by kernel_rfl) ?_
 refine .then (.rK (.ghs (fr 46 [(1,pt 1 0)]) (hT 2 [(oC [zI x0,Sl.v 1 s0,Sl.v 1 s1])]) (.k0 [false] [.tmp 1 false] [1]) ?_))
 refine .then ?_
 replace hm:=Ab hm;obtain⟨v3,h0,hm⟩:=hm
 replace hm:=Ch hm;obtain⟨l1,rfl,hm⟩:=hm
 replace hm:=Ad hm;obtain⟨v4,l35067_0,rfl,hm⟩:=hm
 replace hm:=Ad hm;obtain⟨v5,l35067_1,rfl,hm⟩:=hm
 replace hm:=Ad hm;obtain⟨v6,l35067_2,rfl,hm⟩:=hm
 replace hm:=AC hm;obtain⟨rfl,hm⟩:=hm
 replace hm:=Ae hm;obtain⟨h1,hm⟩:=hm
 obtain rfl:=KR h1
 replace hm:=BG hm;obtain⟨l2,rfl,hm⟩:=hm
 replace hm:=Ad hm;obtain⟨v7,l35073_0,rfl,hm⟩:=hm
 replace hm:=Ad hm;obtain⟨v8,l35073_1,rfl,hm⟩:=hm
 replace hm:=Ad hm;obtain⟨v9,l35073_2,rfl,hm⟩:=hm
 replace hm:=Ad hm;obtain⟨v10,l35073_3,rfl,hm⟩:=hm
 replace hm:=AC hm;obtain⟨rfl,hm⟩:=hm
 replace hm:=Ai hm;obtain⟨x1,rfl,hm⟩:=hm
 replace hm:=Al hm;obtain⟨s2,rfl,hm⟩:=hm
 replace hm:=Al hm;obtain⟨s3,rfl,hm⟩:=hm
 replace hm:=Ae hm;obtain⟨h2,hm⟩:=hm
 obtain rfl:=Ey h2
 replace hm:=Ab hm;obtain⟨y0,h3,hm⟩:=hm
 replace hm:=Ae hm;obtain⟨h4,hm⟩:=hm
 refine .reg (eC 1 (EK tabs [[none,some 1,some 1]] 1 [] [true,false] (pu 10650) [(.agg ⟨[zI x0,Sl.v 1 s0,Sl.v 1 s1]⟩)] (hT 2 [(oC [zI x0,Sl.v 1 s0,Sl.v 1 s1])])) (EL (as:=[(.agg ⟨[zI x0,Sl.v 1 s0,Sl.v 1 s1]⟩)]) (H1:=(hT 2 [(oC [zI x0,Sl.v 1 s0,Sl.v 1 s1])])) (BS (Ot (Da Dk (Da (KQ (CV (z:=1) (v:=(Sl.v 1 s0)) (H:=(hT 2 [(oC [zI x0,Sl.v 1 s0,Sl.v 1 s1])])) (by kernel_rfl) (by kernel_rfl) (by kernel_rfl))) (Da (KQ (CV (z:=1) (v:=(Sl.v 1 s1)) (H:=(hT 2 [(oC [zI x0,Sl.v 1 s0,Sl.v 1 s1])])) (by kernel_rfl) (by kernel_rfl) (by kernel_rfl))) Oq)))) Gj) (EI (H2:=(hT 4 [(oC [zI x0,Sl.v 1 s0,Sl.v 1 s1]),(oC [zI x1,Sl.v 1 s2,Sl.v 1 s3,(.map (some 3))]),(.map (Akd.es y0) (Akd.clock y0))])) (v:=(pt 1 0)) (v':=(pt 2 0)) [some 0] [] [] [(.agg ⟨[zI x0,Sl.v 1 s0,Sl.v 1 s1]⟩)] [(.agg ⟨[zI x1,Sl.v 1 s2,Sl.v 1 s3,(.map (some 2))]⟩),v6] [(oC [zI x1,Sl.v 1 s2,Sl.v 1 s3,(.map (some 2))]),(.map (Akd.es y0) (Akd.clock y0))] [some 0,none,some 1,some 2] [(true,(oC [zI x1,Sl.v 1 s2,Sl.v 1 s3,(.map (some 2))])),(false,(.map (Akd.es y0) (Akd.clock y0)))] [(oC [zI x1,Sl.v 1 s2,Sl.v 1 s3,(.map (some 3))]),(.map (Akd.es y0) (Akd.clock y0))] (by kernel_rfl) BX (Eq.trans (by kernel_rfl) h0) (En rfl (En (CK h3) BX)) (En (by kernel_rfl) (En (GZ h4) BX)))) (eE)) ?_
 replace hm:=Ae hm;obtain⟨h5,hm⟩:=hm
 refine .ghs (fr 46 [(1,pt 1 0),(3,(pt 2 0))]) (hT 4 [(oC [zI x0,Sl.v 1 s0,Sl.v 1 s1]),(oC [zI x1,Sl.v 1 s2,Sl.v 1 s3,(.map (some 3))]),(.map (Akd.es y0) (Akd.clock y0))]) (.k [3] [false] [.tmp 1 false,.tmp 3 true,.cell 2 3 false] [1,3] ⟨Dy h5,trivial⟩) ?_
 refine .then (.rK (.ghs (fr 46 [(1,pt 1 0),(3,(pt 2 0)),(4,(.slice none 0 0))]) (hT 4 [(oC [zI x0,Sl.v 1 s0,Sl.v 1 s1]),(oC [zI x1,Sl.v 1 s2,Sl.v 1 s3,(.map (some 3))]),(.map (Akd.es y0) (Akd.clock y0))]) (.k [3] [false] [.tmp 1 false,.tmp 3 true,.cell 2 3 false] [1,3,4] ⟨Dy h5,trivial⟩) ?_))
 refine .join (v:=v) (fun y:Nat×Nat×LV=>((fr 46 [(4,(sc 1 0 1 y.1 y.2.1))]),(hT 2 [(oC y.2.2)]))) (fun y=>Uk pu n y.1 y.2.1 y.2.2) ?_ ?_
 ·rintro⟨n0,c0,q0⟩ hm
  exact Aa4 pu n n0 c0 q0 hm
 ·refine .then ?_
  replace hm:=Hy hm;obtain⟨x2,h6,hm⟩:=hm
  refine .reg (eC 1 ((oo (pu 51 [(.agg ⟨[zI x0,Sl.v 1 s0,Sl.v 1 s1]⟩)]) none fun v=>some (v,(hT 4 [(oC [zI x0,Sl.v 1 s0,Sl.v 1 s1]),(oC [zI x1,Sl.v 1 s2,Sl.v 1 s3,(.map (some 3))]),(.map (Akd.es y0) (Akd.clock y0))])))) (AB h6) (eE)) ?_
  refine .ghs (fr 46 [(3,pt 1 0),(4,(.slice none 0 0)),(5,.int .u16 x2)]) (hT 3 [(oC [zI x1,Sl.v 1 s2,Sl.v 1 s3,(.map (some 2))]),(.map (Akd.es y0) (Akd.clock y0))]) (.k [3] [false] [.tmp 3 true,.cell 1 3 false] [3,4,5] ⟨Dy h5,trivial⟩) ?_
  refine .block (.loopM (v:=v) (fun y:Nat×Nat×Int×Int×Sl×Sl×LV×List EO×Nat=>((fr 46 [(3,pt 1 0),(4,(sc 2 0 1 y.1 y.2.1)),(5,(.int .u16 y.2.2.1))]),(hT 4 [(oC [(zI y.2.2.2.1),(Sl.v 1 y.2.2.2.2.1),(Sl.v 1 y.2.2.2.2.2.1),(.map (some 3))]),(oC y.2.2.2.2.2.2.1),(.map y.2.2.2.2.2.2.2.1 y.2.2.2.2.2.2.2.2)]))) (fun w y=>M8 pu n w y.1 y.2.1 y.2.2.1 y.2.2.2.1 y.2.2.2.2.1 y.2.2.2.2.2.1 y.2.2.2.2.2.2.1 y.2.2.2.2.2.2.2.1 y.2.2.2.2.2.2.2.2) n ⟨(0,0,x2,x1,s2,s3,([]:LV),(Akd.es y0),(Akd.clock y0)),hm,(.thaw 4 1 (by kernel_rfl) (.k [2] [false] [.tmp 3 true,.tmp 4 false,.cell 1 3 false] [3,4,5] ⟨Dy h5,trivial⟩))⟩ (fun _=>rfl) ?_)
  rintro w0 ⟨n1,c1,z0,z1,s4,s5,q1,e0,k1⟩ hm
  replace hm:Pn pu n (M8 pu n w0) n1 c1 z0 z1 s4 s5 q1 e0 k1=some v:=hm
  unfold Pn at hm
  refine .then (.then (.rK ?_))
  replace hm:=Ae hm;obtain⟨h7,hm⟩:=hm
  replace hm:=Ae hm;obtain⟨h8,hm⟩:=hm
  refine .ghs (fr 46 [(3,pt 1 0),(4,sc 2 0 1 n1 c1),(5,.int .u16 z0),(15,(zB (nt (Bd z0 (0:Int)))))]) (hT 4 [(oC [zI z1,Sl.v 1 s4,Sl.v 1 s5,(.map (some 3))]),oC q1,(.map e0 k1)]) (.k [2,3] [false] [.tmp 3 true,.tmp 4 false,.cell 1 3 false] [3,4,5,15] ⟨Dy h7,Dy h8,trivial⟩) ?_
  replace hm:=Ag hm;rcases hm with⟨h9,hm⟩ | ⟨h9,hm⟩
  ·refine FX (nt (Bd z0 (0:Int))) h9 ?_
   refine .skip (.ghs (fr 46 [(3,pt 1 0),(4,sc 2 0 1 n1 c1),(5,.int .u16 z0)]) (hT 4 [(oC [zI z1,Sl.v 1 s4,Sl.v 1 s5,(.map (some 3))]),oC q1,(.map e0 k1)]) (.k [2,3] [false] [.tmp 3 true,.tmp 4 false,.cell 1 3 false] [3,4,5] ⟨Dy h7,Dy h8,trivial⟩) ?_)
   refine .block (.then ?_)
   replace hm:=Hy hm;obtain⟨x3,h10,hm⟩:=hm
   refine .reg (eC 1 ((oo (pu 67 [.int .u16 z0]) none fun v=>some (v,(hT 4 [(oC [zI z1,Sl.v 1 s4,Sl.v 1 s5,(.map (some 3))]),oC q1,(.map e0 k1)])))) (AB h10) (eE)) ?_
   refine .ghs (fr 46 [(3,pt 1 0),(4,sc 2 0 1 n1 c1),(5,.int .u16 z0),(6,zI x3)]) (hT 4 [(oC [zI z1,Sl.v 1 s4,Sl.v 1 s5,(.map (some 3))]),oC q1,(.map e0 k1)]) (.k [2,3] [false] [.tmp 3 true,.tmp 4 false,.cell 1 3 false] [3,4,5,6] ⟨Dy h7,Dy h8,trivial⟩) ?_
   refine .then ?_
   replace hm:=Ab hm;obtain⟨k2,h11,hm⟩:=hm
   obtain rfl:=AR h11
   replace hm:=Ae hm;obtain⟨h12,hm⟩:=hm
   replace hm:=Ab hm;obtain⟨v11,h13,hm⟩:=hm
   replace hm:=Ch hm;obtain⟨l3,rfl,hm⟩:=hm
   replace hm:=Ad hm;obtain⟨v12,l37270_0,rfl,hm⟩:=hm
   replace hm:=Ad hm;obtain⟨v13,l37270_1,rfl,hm⟩:=hm
   replace hm:=Ad hm;obtain⟨v14,l37270_2,rfl,hm⟩:=hm
   replace hm:=AC hm;obtain⟨rfl,hm⟩:=hm
   replace hm:=Ai hm;obtain⟨x4,rfl,hm⟩:=hm
   replace hm:=BG hm;obtain⟨l4,rfl,hm⟩:=hm
   replace hm:=Ad hm;obtain⟨v15,l37277_0,rfl,hm⟩:=hm
   replace hm:=Ad hm;obtain⟨v16,l37277_1,rfl,hm⟩:=hm
   replace hm:=Ad hm;obtain⟨v17,l37277_2,rfl,hm⟩:=hm
   replace hm:=Ad hm;obtain⟨v18,l37277_3,rfl,hm⟩:=hm
   replace hm:=AC hm;obtain⟨rfl,hm⟩:=hm
   replace hm:=Ai hm;obtain⟨x5,rfl,hm⟩:=hm
   replace hm:=Al hm;obtain⟨s6,rfl,hm⟩:=hm
   replace hm:=Al hm;obtain⟨s7,rfl,hm⟩:=hm
   replace hm:=Ae hm;obtain⟨h14,hm⟩:=hm
   obtain rfl:=Ey h14
   replace hm:=Ab hm;obtain⟨y1,h15,hm⟩:=hm
   replace hm:=Ae hm;obtain⟨h16,hm⟩:=hm
   replace hm:=Ae hm;obtain⟨h17,hm⟩:=hm
   replace hm:=Ab hm;obtain⟨v19,h18,hm⟩:=hm
   replace hm:=Ch hm;obtain⟨l5,rfl,hm⟩:=hm
   replace hm:=Ad hm;obtain⟨v20,l37304_0,rfl,hm⟩:=hm
   replace hm:=Ad hm;obtain⟨v21,l37304_1,rfl,hm⟩:=hm
   replace hm:=Ad hm;obtain⟨v22,l37304_2,rfl,hm⟩:=hm
   replace hm:=AC hm;obtain⟨rfl,hm⟩:=hm
   replace hm:=Al hm;obtain⟨s8,rfl,hm⟩:=hm
   replace hm:=BG hm;obtain⟨l6,rfl,hm⟩:=hm
   replace hm:=Ad hm;obtain⟨v23,l37311_0,rfl,hm⟩:=hm
   replace hm:=Ad hm;obtain⟨v24,l37311_1,rfl,hm⟩:=hm
   replace hm:=Ad hm;obtain⟨v25,l37311_2,rfl,hm⟩:=hm
   replace hm:=Ad hm;obtain⟨v26,l37311_3,rfl,hm⟩:=hm
   replace hm:=AC hm;obtain⟨rfl,hm⟩:=hm
   replace hm:=Ai hm;obtain⟨x6,rfl,hm⟩:=hm
   replace hm:=Al hm;obtain⟨s9,rfl,hm⟩:=hm
   replace hm:=Al hm;obtain⟨s10,rfl,hm⟩:=hm
   replace hm:=Ae hm;obtain⟨h19,hm⟩:=hm
   obtain rfl:=Ey h19
   replace hm:=Ab hm;obtain⟨y2,h20,hm⟩:=hm
   replace hm:=Ae hm;obtain⟨h21,hm⟩:=hm
   refine .reg (eC 9 (EK tabs [[none],[none]] 2 [.tmp 0 true,.cell 1 3 false] [true,false] (pu 10660) [pt 1 0,.int .u16 z0] (hT 5 [(oC [zI z1,Sl.v 1 s4,Sl.v 1 s5,(.map (some 3))]),oC q1,(.map e0 k1),(oC [(zI (Int.ofNat k2))])])) (EL (as:=[pt 1 0,.int .u16 z0]) (H1:=(hT 5 [(oC [zI z1,Sl.v 1 s4,Sl.v 1 s5,(.map (some 3))]),oC q1,(.map e0 k1),(oC [(zI (Int.ofNat k2))])])) (BS (Dm Dk) (BS (Dm Dk) Gj)) (EI (H2:=(hT 5 [(oC [zI x5,Sl.v 1 s6,Sl.v 1 s7,(.map (some 3))]),oC q1,(.map (Akd.es y1) (Akd.clock y1)),(oC [(zI (Int.ofNat k2))])])) (v:=(zI x4)) (v':=(zI x4)) [some 0,some 1,some 3] [(true,some 1),(false,some 3)] [(oC [zI z1,Sl.v 1 s4,Sl.v 1 s5,(.map (some 2))]),(.map e0 k1)] [pt 1 0,.int .u16 z0] [(.agg ⟨[zI x5,Sl.v 1 s6,Sl.v 1 s7,(.map (some 2))]⟩),v14] [(oC [zI x5,Sl.v 1 s6,Sl.v 1 s7,(.map (some 2))]),(.map (Akd.es y1) (Akd.clock y1))] [some 0,some 1,none,some 2,none] [(true,(oC [zI x5,Sl.v 1 s6,Sl.v 1 s7,(.map (some 2))])),(false,(.map (Akd.es y1) (Akd.clock y1)))] [(oC [zI x5,Sl.v 1 s6,Sl.v 1 s7,(.map (some 3))]),(.map (Akd.es y1) (Akd.clock y1))] (by kernel_rfl) (En (by kernel_rfl) (En (Ka h12) BX)) (Eq.trans (by kernel_rfl) h13) (En rfl (En (CK h15) BX)) (En (by kernel_rfl) (En (GZ h16) BX)))) (eC 1 (EK tabs [[none],[some 1],[none],[none]] 4 [.tmp 0 true,.cell 1 3 false] [true,false] (pu 10680) [pt 1 0,sc 4 0 1 1 3,(.int .u16 (QV .u16 z0 (QW .u16 (1:Int) k2))),(zI (Aj .i64 (Int.sub x4 (1:Int))))] (hT 5 [(oC [zI x5,Sl.v 1 s6,Sl.v 1 s7,(.map (some 3))]),oC q1,(.map (Akd.es y1) (Akd.clock y1)),(oC [(zI (Int.ofNat k2))])])) (EL (as:=[pt 1 0,(Sl.v 1 (Sl.mk 1 0 (Aq (1*1) (Am 0 ([(zI (Int.ofNat k2))]:LV))))),(.int .u16 (QV .u16 z0 (QW .u16 (1:Int) k2))),(zI (Aj .i64 (Int.sub x4 (1:Int))))]) (H1:=(hT 5 [(oC [zI x5,Sl.v 1 s6,Sl.v 1 s7,(.map (some 3))]),oC q1,(.map (Akd.es y1) (Akd.clock y1)),.dead])) (BS (Dm Dk) (BS (Dm (KQ (show ER 1 (sc 4 0 1 1 3) (hT 5 [(oC [zI x5,Sl.v 1 s6,Sl.v 1 s7,(.map (some 3))]),oC q1,(.map (Akd.es y1) (Akd.clock y1)),(oC [(zI (Int.ofNat k2))])])=some ((Sl.v 1 (Sl.mk 1 0 (Aq (1*1) (Am 0 ([(zI (Int.ofNat k2))]:LV))))),(hT 5 [(oC [zI x5,Sl.v 1 s6,Sl.v 1 s7,(.map (some 3))]),oC q1,(.map (Akd.es y1) (Akd.clock y1)),.dead])) from KH 4 0 1 1 3 ([(zI (Int.ofNat k2))]:LV) [] (by kernel_rfl) (by kernel_rfl) (by kernel_rfl)))) (BS (Dm Dk) (BS (Dm Dk) Gj)))) (EI (H2:=(hT 5 [(oC [zI x6,Sl.v 1 s9,Sl.v 1 s10,(.map (some 3))]),oC q1,(.map (Akd.es y2) (Akd.clock y2)),.dead])) (v:=(Sl.v 1 s8)) (v':=(Sl.v 1 s8)) [some 0,some 1,some 3] [(true,some 1),(false,some 3)] [(oC [zI x5,Sl.v 1 s6,Sl.v 1 s7,(.map (some 2))]),(.map (Akd.es y1) (Akd.clock y1))] [pt 1 0,(Sl.v 1 (Sl.mk 1 0 (Aq (1*1) (Am 0 ([(zI (Int.ofNat k2))]:LV))))),(.int .u16 (QV .u16 z0 (QW .u16 (1:Int) k2))),(zI (Aj .i64 (Int.sub x4 (1:Int))))] [(.agg ⟨[zI x6,Sl.v 1 s9,Sl.v 1 s10,(.map (some 2))]⟩),v22] [(oC [zI x6,Sl.v 1 s9,Sl.v 1 s10,(.map (some 2))]),(.map (Akd.es y2) (Akd.clock y2))] [some 0,some 1,none,some 2,none] [(true,(oC [zI x6,Sl.v 1 s9,Sl.v 1 s10,(.map (some 2))])),(false,(.map (Akd.es y2) (Akd.clock y2)))] [(oC [zI x6,Sl.v 1 s9,Sl.v 1 s10,(.map (some 3))]),(.map (Akd.es y2) (Akd.clock y2))] (by kernel_rfl) (En (by kernel_rfl) (En (Ka h17) BX)) (Eq.trans (by kernel_rfl) h18) (En rfl (En (CK h20) BX)) (En (by kernel_rfl) (En (GZ h21) BX)))) (eE))) ?_
   replace hm:=Ae hm;obtain⟨h22,hm⟩:=hm
   refine .ghs (fr 46 [(3,pt 1 0),(4,sc 2 0 1 n1 c1),(5,.int .u16 z0),(7,Sl.v 1 s8)]) (hT 4 [(oC [zI x6,Sl.v 1 s9,Sl.v 1 s10,(.map (some 3))]),oC q1,(.map (Akd.es y2) (Akd.clock y2))]) (.k [2,3] [false] [.tmp 3 true,.tmp 4 false,.cell 1 3 false] [3,4,5,7] ⟨Dy h7,Dy h22,trivial⟩) ?_
   refine .then ?_
   replace hm:=Ae hm;obtain⟨h23,hm⟩:=hm
   refine .reg (eC 3 (Oc 1 24 n1 c1 1 2 q1 [Sl.v 1 s8] [] (hT 5 [(oC [zI x6,Sl.v 1 s9,Sl.v 1 s10,(.map (some 3))]),oC q1,(.map (Akd.es y2) (Akd.clock y2)),(oC [Sl.v 1 s8])])) (I1 h23) (eE)) ?_
   replace hm:=Ae hm;obtain⟨h24,hm⟩:=hm
   refine .ghs (fr 46 [(3,pt 1 0),(4,(sc 2 0 1 (n1+1) (d2 (n1+1)))),(5,.int .u16 z0),(7,Sl.v 1 s8)]) (hT 4 [(oC [zI x6,Sl.v 1 s9,Sl.v 1 s10,(.map (some 3))]),(oC (Br (Am 0 q1) [Sl.v 1 s8])),(.map (Akd.es y2) (Akd.clock y2))]) (.k [5,3] [false] [.tmp 3 true,.tmp 4 false,.cell 1 3 false] [3,4,5,7] ⟨Dy h24,Dy h22,trivial⟩) ?_
   refine .then (.rK (.ghs (fr 46 [(3,pt 1 0),(4,(sc 2 0 1 (n1+1) (d2 (n1+1)))),(5,.int .u16 z0),(34,Sl.v 1 s8),(35,(zI (Int.ofNat (Sl.n s8)))),(36,(zI (0:Int)))]) (hT 4 [(oC [zI x6,Sl.v 1 s9,Sl.v 1 s10,(.map (some 3))]),(oC (Br (Am 0 q1) [Sl.v 1 s8])),(.map (Akd.es y2) (Akd.clock y2))]) (.k [2,3] [false] [.tmp 3 true,.tmp 4 false,.cell 1 3 false] [3,4,5,34,35,36] ⟨Dy h24,Dy h22,trivial⟩) ?_))
   refine .block (.loopM (v:=v) (fun y:Nat×Nat×Int×Sl×Int×Int×Int×Sl×Sl×LV×List EO×Nat=>((fr 46 [(3,pt 1 0),(4,(sc 2 0 1 y.1 y.2.1)),(5,(.int .u16 y.2.2.1)),(34,(Sl.v 1 y.2.2.2.1)),(35,(zI y.2.2.2.2.1)),(36,(zI y.2.2.2.2.2.1))]),(hT 4 [(oC [(zI y.2.2.2.2.2.2.1),(Sl.v 1 y.2.2.2.2.2.2.2.1),(Sl.v 1 y.2.2.2.2.2.2.2.2.1),(.map (some 3))]),(oC y.2.2.2.2.2.2.2.2.2.1),(.map y.2.2.2.2.2.2.2.2.2.2.1 y.2.2.2.2.2.2.2.2.2.2.2)]))) (fun w y=>Um pu n (M8 pu n w0) w y.1 y.2.1 y.2.2.1 y.2.2.2.1 y.2.2.2.2.1 y.2.2.2.2.2.1 y.2.2.2.2.2.2.1 y.2.2.2.2.2.2.2.1 y.2.2.2.2.2.2.2.2.1 y.2.2.2.2.2.2.2.2.2.1 y.2.2.2.2.2.2.2.2.2.2.1 y.2.2.2.2.2.2.2.2.2.2.2) n ⟨((n1+1),(d2 (n1+1)),z0,s8,(Int.ofNat (Sl.n s8)),(0:Int),x6,s9,s10,(Br (Am 0 q1) [Sl.v 1 s8]),(Akd.es y2),(Akd.clock y2)),hm,(.k [2,3] [false] [.tmp 3 true,.tmp 4 false,.cell 1 3 false] [3,4,5,34,35,36] ⟨Dy h24,Dy h22,trivial⟩)⟩ (fun _=>rfl) ?_)
   rintro w1 ⟨n2,c2,z2,s11,z3,z4,z5,s12,s13,q2,e1,k3⟩ hm
   replace hm:Ul pu n (M8 pu n w0) (Um pu n (M8 pu n w0) w1) n2 c2 z2 s11 z3 z4 z5 s12 s13 q2 e1 k3=some v:=hm
   unfold Ul at hm
   refine .then (.rK ?_)
   replace hm:=Ae hm;obtain⟨h25,hm⟩:=hm
   replace hm:=Ae hm;obtain⟨h26,hm⟩:=hm
   refine .ghs (fr 46 [(3,pt 1 0),(4,sc 2 0 1 n2 c2),(5,.int .u16 z2),(34,Sl.v 1 s11),(35,zI z3),(36,zI z4),(37,(zB (AY z4 z3)))]) (hT 4 [(oC [zI z5,Sl.v 1 s12,Sl.v 1 s13,(.map (some 3))]),oC q2,(.map e1 k3)]) (.k [2,3] [false] [.tmp 3 true,.tmp 4 false,.cell 1 3 false] [3,4,5,34,35,36,37] ⟨Dy h25,Dy h26,trivial⟩) ?_
   refine .then ?_
   replace hm:=Ag hm;rcases hm with⟨h27,hm⟩ | ⟨h27,hm⟩
   ·refine FX (AY z4 z3) h27 ?_
    refine .skip (.ghs (fr 46 [(3,pt 1 0),(4,sc 2 0 1 n2 c2),(5,.int .u16 z2),(34,Sl.v 1 s11),(35,zI z3),(36,zI z4)]) (hT 4 [(oC [zI z5,Sl.v 1 s12,Sl.v 1 s13,(.map (some 3))]),oC q2,(.map e1 k3)]) (.k [2,3] [false] [.tmp 3 true,.tmp 4 false,.cell 1 3 false] [3,4,5,34,35,36] ⟨Dy h25,Dy h26,trivial⟩) ?_)
    refine .then (.block (.then ?_))
    replace hm:=Ab hm;obtain⟨k4,h28,hm⟩:=hm
    obtain rfl:=AR h28
    replace hm:=Ae hm;obtain⟨h29,hm⟩:=hm
    replace hm:=Hy hm;obtain⟨x7,h30,hm⟩:=hm
    refine .reg (eD (keep (hT 4 [(oC [zI z5,Sl.v 1 s12,Sl.v 1 s13,(.map (some 3))]),oC q2,(.map e1 k3)]) (bb (an (Nat.blt k4 (Sl.n s11)) true) (some (Cv (k4*1) (Sl.cs s11))) none)) (AX h29) (eD (keep (hT 4 [(oC [zI z5,Sl.v 1 s12,Sl.v 1 s13,(.map (some 3))]),oC q2,(.map e1 k3)]) (AL (Sl.cs s11) (k4*1))) (AZ h30) (eE))) ?_
    refine .ghs (fr 46 [(3,pt 1 0),(4,sc 2 0 1 n2 c2),(5,.int .u16 z2),(9,zI x7),(34,Sl.v 1 s11),(35,zI z3),(36,(zI (Int.ofNat k4)))]) (hT 4 [(oC [zI z5,Sl.v 1 s12,Sl.v 1 s13,(.map (some 3))]),oC q2,(.map e1 k3)]) (.k [2,3] [false] [.tmp 3 true,.tmp 4 false,.cell 1 3 false] [3,4,5,9,34,35,36] ⟨Dy h25,Dy h26,trivial⟩) ?_
    replace hm:=Ab hm;obtain⟨k5,h31,hm⟩:=hm
    obtain rfl:=AR h31
    refine .rK (.ghs (fr 46 [(3,pt 1 0),(4,sc 2 0 1 n2 c2),(5,(.int .u16 (QV .u16 z2 (QW .u16 (1:Int) k5)))),(34,Sl.v 1 s11),(35,zI z3),(36,(zI (Int.ofNat k4)))]) (hT 4 [(oC [zI z5,Sl.v 1 s12,Sl.v 1 s13,(.map (some 3))]),oC q2,(.map e1 k3)]) (.k [2,3] [false] [.tmp 3 true,.tmp 4 false,.cell 1 3 false] [3,4,5,34,35,36] ⟨Dy h25,Dy h26,trivial⟩) ?_)
    refine .rK ?_
    exact⟨(n2,c2,(QV .u16 z2 (QW .u16 (1:Int) k5)),s11,z3,(Aj .i64 (Int.add (Int.ofNat k4) (1:Int))),z5,s12,s13,q2,e1,k3),hm,(.k [2,3] [false] [.tmp 3 true,.tmp 4 false,.cell 1 3 false] [3,4,5,34,35,36] ⟨Dy h25,Dy h26,trivial⟩)⟩
   ·refine FY (AY z4 z3) h27 ?_
    refine .exit ?_
    exact⟨(n2,c2,z2,z5,s12,s13,q2,e1,k3),hm,(.k [2,3] [false] [.tmp 3 true,.tmp 4 false,.cell 1 3 false] [3,4,5] ⟨Dy h25,Dy h26,trivial⟩)⟩
  ·refine FY (nt (Bd z0 (0:Int))) h9 ?_
   refine .exit ?_
   exact⟨(n1,c1,q1),hm,(.k [2] [false] [.tmp 4 false] [4] ⟨Dy h7,trivial⟩)⟩
def Un (pu:Af) (n:Nat) (z0:Int):OV:=
 (some (.int .u16 z0))
def Uo (pu:Af) (n:Nat) (ih0:Int→Sl→Int→Int→Int→Sl→Sl→OV) (z0:Int) (s0:Sl) (z1 z2 z3:Int) (s1 s2:Sl):OV:=
 (ih0 z0 s0 z1 (Aj .i64 (Int.add z2 (1:Int))) z3 s1 s2)
def Uq (pu:Af) (n:Nat) (ih0:Int→Sl→Int→Int→Int→Sl→Sl→OV) (z0:Int) (s0:Sl) (z1 z2 z3:Int) (s1 s2:Sl):OV:=
 (bb (AY z2 z1) (oo (EA z2) none fun k1=>(bb (an (Nat.blt k1 (Sl.n s0)) true) (oo (AL (Sl.cs s0) (k1*1)) none fun v0=>(oo (Bi .i64 v0) none fun x0=>(bb (an (Nat.blt k1 (Sl.n s2)) true) (oo (AL (Sl.cs s2) (k1*1)) none fun v1=>(oo (Bi .i64 v1) none fun x1=>(bb (nt (Bd x0 x1)) (Uo pu n ih0 (jF .u16 z0 (QW .u16 (1:Int) k1)) s0 z1 (Int.ofNat k1) z3 s1 s2) (Uo pu n ih0 z0 s0 z1 (Int.ofNat k1) z3 s1 s2)))) none))) none)) (Un pu n z0))
def Po (pu:Af) (n w:Nat):Int→Sl→Int→Int→Int→Sl→Sl→OV:=
 Nat.rec (motive:=fun _=>Int→Sl→Int→Int→Int→Sl→Sl→OV) (fun _ _ _ _ _ _ _=>none) (fun _ ih0=>Uq pu n ih0) w
def Aa5 (pu:Af) (n:Nat) (x0:Int) (s0 s1:Sl):OV:=
 (Po pu n n (0:Int) s0 (Int.ofNat (Sl.n s0)) (0:Int) x0 s0 s1)
def m51 (pu:Af) (n:Nat) (args:LV):OV:=
 (ll args none fun a0 args=>(ll args (oo (Bt a0) none fun l0=>(ll l0 none fun v0 l0=>(ll l0 none fun v1 l0=>(ll l0 none fun v2 l0=>(ll l0 (oo (Bi .i64 v0) none fun x0=>(oo (Bj 1 v1) none fun s0=>(oo (Bj 1 v2) none fun s1=>(Aa5 pu n x0 s0 s1)))) fun _ _=>none))))) fun _ _=>none))
theorem Aa6 (pu:Af) (n:Nat) (z0:Int) {v:Value} (hm:Un pu n z0=some v):BN tt (Bb tabs HV pu (inl pu)) 1 X5 (fr 27 [(3,.int .u16 z0)]) DT (Fin tt 1 [.tmp 2] v):=by
 unfold Un at hm
 refine .then (.rK (.ghs (fr 27 [(2,.int .u16 z0)]) DT (.k0 [false] [] [2]) ?_))
 refine .ret ?_
 exact Fp (.int .u16 z0) hm
theorem r51 {call:A8} (pu:Af) (n:Nat) (hcall:call=Bb tabs HV pu (inl pu)) {args:LV} {v:Value} (hm:m51 pu n args=some v) (_:∀ x∈args,closed2 x=true):args.length≤27∧BN tt call 1 Sd (Fr.made 27 args) (Ao tabs) (Fin tt 1 [.tmp 2] v):=by
 subst hcall
 unfold m51 at hm
 replace hm:=Ad hm;obtain⟨a0,args_0,rfl,hm⟩:=hm
 replace hm:=AC hm;obtain⟨rfl,hm⟩:=hm
 replace hm:=BG hm;obtain⟨l0,rfl,hm⟩:=hm
 replace hm:=Ad hm;obtain⟨v0,l37364_0,rfl,hm⟩:=hm
 replace hm:=Ad hm;obtain⟨v1,l37364_1,rfl,hm⟩:=hm
 replace hm:=Ad hm;obtain⟨v2,l37364_2,rfl,hm⟩:=hm
 replace hm:=AC hm;obtain⟨rfl,hm⟩:=hm
 replace hm:=Ai hm;obtain⟨x0,rfl,hm⟩:=hm
 replace hm:=Al hm;obtain⟨s0,rfl,hm⟩:=hm
 replace hm:=Al hm;obtain⟨s1,rfl,hm⟩:=hm
 unfold Aa5 at hm
 refine⟨by simp,?_⟩
 refine .same (F':=(fr 27 [(0,(.agg ⟨[zI x0,Sl.v 1 s0,Sl.v 1 s1]⟩))])) (H':=DT) (by kernel_rfl) (by kernel_rfl) ?_
 refine .then (.rK (.ghs (fr 27 [(1,pt 1 0)]) (hT 2 [(oC [zI x0,Sl.v 1 s0,Sl.v 1 s1])]) (.k0 [false] [.tmp 1 false] [1]) ?_))
 refine .then (.rK (.ghs (fr 27 [(1,pt 1 0),(3,(.int .u16 (0:Int)))]) (hT 2 [(oC [zI x0,Sl.v 1 s0,Sl.v 1 s1])]) (.k0 [false] [.tmp 1 false] [1,3]) ?_))
 refine .join (v:=v) (fun y:Int=>((fr 27 [(3,.int .u16 y)]),DT)) (fun y=>Un pu n y) ?_ ?_
 ·rintro z0 hm
  exact Aa6 pu n z0 hm
 ·refine .then (.rK (.ghs (fr 27 [(1,pt 1 0),(3,(.int .u16 (0:Int))),(7,Sl.v 1 s0),(8,(zI (Int.ofNat (Sl.n s0)))),(9,(zI (0:Int)))]) (hT 2 [(oC [zI x0,Sl.v 1 s0,Sl.v 1 s1])]) (.k0 [false] [.tmp 1 false] [1,3,7,8,9]) ?_))
  refine .block (.loopM (v:=v) (fun y:Int×Sl×Int×Int×Int×Sl×Sl=>((fr 27 [(1,pt 1 0),(3,(.int .u16 y.1)),(7,(Sl.v 1 y.2.1)),(8,(zI y.2.2.1)),(9,(zI y.2.2.2.1))]),(hT 2 [(oC [(zI y.2.2.2.2.1),(Sl.v 1 y.2.2.2.2.2.1),(Sl.v 1 y.2.2.2.2.2.2)])]))) (fun w y=>Po pu n w y.1 y.2.1 y.2.2.1 y.2.2.2.1 y.2.2.2.2.1 y.2.2.2.2.2.1 y.2.2.2.2.2.2) n ⟨((0:Int),s0,(Int.ofNat (Sl.n s0)),(0:Int),x0,s0,s1),hm,(.k0 [false] [.tmp 1 false] [1,3,7,8,9])⟩ (fun _=>rfl) ?_)
  rintro w0 ⟨z1,s2,z2,z3,z4,s3,s4⟩ hm
  replace hm:Uq pu n (Po pu n w0) z1 s2 z2 z3 z4 s3 s4=some v:=hm
  unfold Uq at hm
  refine .then (.rK (.ghs (fr 27 [(1,pt 1 0),(3,.int .u16 z1),(7,Sl.v 1 s2),(8,zI z2),(9,zI z3),(10,(zB (AY z3 z2)))]) (hT 2 [(oC [zI z4,Sl.v 1 s3,Sl.v 1 s4])]) (.k0 [false] [.tmp 1 false] [1,3,7,8,9,10]) ?_))
  refine .then ?_
  replace hm:=Ag hm;rcases hm with⟨h0,hm⟩ | ⟨h0,hm⟩
  ·refine FX (AY z3 z2) h0 ?_
   refine .skip (.ghs (fr 27 [(1,pt 1 0),(3,.int .u16 z1),(7,Sl.v 1 s2),(8,zI z2),(9,zI z3)]) (hT 2 [(oC [zI z4,Sl.v 1 s3,Sl.v 1 s4])]) (.k0 [false] [.tmp 1 false] [1,3,7,8,9]) ?_)
   refine .join (v:=v) (fun y:Int×Sl×Int×Int×Int×Sl×Sl=>((fr 27 [(1,pt 1 0),(3,(.int .u16 y.1)),(7,(Sl.v 1 y.2.1)),(8,(zI y.2.2.1)),(9,(zI y.2.2.2.1))]),(hT 2 [(oC [(zI y.2.2.2.2.1),(Sl.v 1 y.2.2.2.2.2.1),(Sl.v 1 y.2.2.2.2.2.2)])]))) (fun y=>Uo pu n (Po pu n w0) y.1 y.2.1 y.2.2.1 y.2.2.2.1 y.2.2.2.2.1 y.2.2.2.2.2.1 y.2.2.2.2.2.2) ?_ ?_
   ·rintro⟨z5,s5,z6,z7,z8,s6,s7⟩ hm
    unfold Uo at hm
    refine .rK ?_
    exact⟨(z5,s5,z6,(Aj .i64 (Int.add z7 (1:Int))),z8,s6,s7),hm,(.k0 [false] [.tmp 1 false] [1,3,7,8,9])⟩
   ·refine .block (.then ?_)
    replace hm:=Ab hm;obtain⟨k1,h1,hm⟩:=hm
    obtain rfl:=AR h1
    replace hm:=Ae hm;obtain⟨h2,hm⟩:=hm
    replace hm:=Hy hm;obtain⟨x1,h3,hm⟩:=hm
    refine .reg (eC 1 (keep (hT 2 [(oC [zI z4,Sl.v 1 s3,Sl.v 1 s4])]) (bb (an (Nat.blt k1 (Sl.n s2)) true) (some (Cv (k1*1) (Sl.cs s2))) none)) (AX h2) (eD (keep (hT 2 [(oC [zI z4,Sl.v 1 s3,Sl.v 1 s4])]) (AL (Sl.cs s2) (k1*1))) (AZ h3) (eE))) ?_
    refine .ghs (fr 27 [(1,pt 1 0),(3,.int .u16 z1),(4,(zI (Int.ofNat k1))),(5,zI x1),(7,Sl.v 1 s2),(8,zI z2),(9,(zI (Int.ofNat k1)))]) (hT 2 [(oC [zI z4,Sl.v 1 s3,Sl.v 1 s4])]) (.k0 [false] [.tmp 1 false] [1,3,4,5,7,8,9]) ?_
    refine .then ?_
    replace hm:=Ae hm;obtain⟨h4,hm⟩:=hm
    replace hm:=Hy hm;obtain⟨x2,h5,hm⟩:=hm
    refine .reg (eC 4 (keep (hT 2 [(oC [zI z4,Sl.v 1 s3,Sl.v 1 s4])]) (bb (an (Nat.blt k1 (Sl.n s4)) true) (some (Cv (k1*1) (Sl.cs s4))) none)) (AX h4) (eD (keep (hT 2 [(oC [zI z4,Sl.v 1 s3,Sl.v 1 s4])]) (AL (Sl.cs s4) (k1*1))) (AZ h5) (eE))) ?_
    refine .ghs (fr 27 [(1,pt 1 0),(3,.int .u16 z1),(4,(zI (Int.ofNat k1))),(7,Sl.v 1 s2),(8,zI z2),(9,(zI (Int.ofNat k1))),(20,(zB (nt (Bd x1 x2))))]) (hT 2 [(oC [zI z4,Sl.v 1 s3,Sl.v 1 s4])]) (.k0 [false] [.tmp 1 false] [1,3,4,7,8,9,20]) ?_
    replace hm:=Ag hm;rcases hm with⟨h6,hm⟩ | ⟨h6,hm⟩
    ·refine FX (nt (Bd x1 x2)) h6 ?_
     refine .rK ?_
     exact⟨((jF .u16 z1 (QW .u16 (1:Int) k1)),s2,z2,(Int.ofNat k1),z4,s3,s4),hm,(.k0 [false] [.tmp 1 false] [1,3,7,8,9])⟩
    ·refine FY (nt (Bd x1 x2)) h6 ?_
     refine .skip ?_
     exact⟨(z1,s2,z2,(Int.ofNat k1),z4,s3,s4),hm,(.k0 [false] [.tmp 1 false] [1,3,7,8,9])⟩
  ·refine FY (AY z3 z2) h0 ?_
   refine .exit ?_
   exact⟨z1,hm,(.k0 [false] [] [3])⟩
end
end Go.MnOM
