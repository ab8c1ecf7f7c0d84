import Derived.Test.YtlgmapibifphaaaDoorMnSMod0x
set_option maxRecDepth 100000
set_option maxHeartbeats 20000000
set_option linter.unusedVariables false
namespace Go.MnSM
open Go.Sp Go.MnS
noncomputable section
def WJ (pu:Af) (n:Nat) (q0:LV):OV:=
 (bb (Nat.ble (0+5) (len q0)) (oo (AL q0 0) none λv0=>(oo (Bi .i64 v0) none λx0=>(oo (AL q0 (0+1)) none λv1=>(oo (Bi .i64 v1) none λx1=>(oo (AL q0 ((0+1)+1)) none λv2=>(oo (Bi .i64 v2) none λx2=>(oo (AL q0 (((0+1)+1)+1)) none λv3=>(oo (Bi .i64 v3) none λx3=>(oo (AL q0 ((((0+1)+1)+1)+1)) none λv4=>(oo (Bi .i64 v4) none λx4=>(bb (bq false (an (Bd x0 (0:Int)) (an (Bd x1 (0:Int)) (an (Bd x2 (0:Int)) (an (Bd x3 (0:Int)) (an (Bd x4 (0:Int)) true)))))) (some (.int .i64 (17:Int))) (some (.int .i64 (0:Int)))))))))))))) none)
def Ua (pu:Af) (n:Nat) (ih0:AjL) (z0 z1:Int) (s0:Sl) (z2 z3:Int) (b0:Bool) (z4:Int) (s1 s2:Sl) (q0:LV):OV:=
 (bb b0 (some (.int .i64 (2:Int))) (bb (Au Ah q0) (oo (EA z0) none λk1=>(bb (Nat.blt k1 5) (oo (AL q0 (0+k1*1)) none λv0=>(oo (Bi .i64 v0) none λx0=>(bb (Nat.blt k1 5) (bb (an (Nat.ble ((0+k1*1)+1) (len q0)) true) (bb (Au Ah (BM ([(.int .i64 (Aj .i64 (Int.add x0 (1:Int))))]:LV) (0+k1*1) q0)) (oo (EA z1) none λk2=>(bb (Nat.blt k2 5) (oo (AL (BM ([(.int .i64 (Aj .i64 (Int.add x0 (1:Int))))]:LV) (0+k1*1) q0) (0+k2*1)) none λv1=>(oo (Bi .i64 v1) none λx1=>(bb (Nat.blt k2 5) (bb (an (Nat.ble ((0+k2*1)+1) (len (BM ([(.int .i64 (Aj .i64 (Int.add x0 (1:Int))))]:LV) (0+k1*1) q0))) true) (bb (Au Ah (BM ([(.int .i64 (Aj .i64 (Int.sub x1 (1:Int))))]:LV) (0+k2*1) (BM ([(.int .i64 (Aj .i64 (Int.add x0 (1:Int))))]:LV) (0+k1*1) q0))) (ih0 s0 z2 (Aj .i64 (Int.add z3 (1:Int))) z4 s1 s2 (BM ([(.int .i64 (Aj .i64 (Int.sub x1 (1:Int))))]:LV) (0+k2*1) (BM ([(.int .i64 (Aj .i64 (Int.add x0 (1:Int))))]:LV) (0+k1*1) q0))) none) none) none))) none)) none) none) none))) none)) none))
def WK (pu:Af) (n:Nat) (ih0:AjL) (s0:Sl) (z0 z1 z2:Int) (s1 s2:Sl) (q0:LV):OV:=
 (bb (Au Ah q0) (bb (AY z1 z0) (oo (EA z1) none λk1=>(bb (an (Nat.blt k1 (Sl.n s0)) true) (oo (AL (Sl.cs s0) (k1*1)) none λv0=>(oo (Bi .i64 v0) none λx0=>(bb (an (Nat.blt k1 (Sl.n s2)) true) (oo (AL (Sl.cs s2) (k1*1)) none λv1=>(oo (Bi .i64 v1) none λx1=>(oo (pu 52 [(.int .i64 (0:Int)),(.int .i64 (bb (AY x1 x0) x1 x0)),(.int .i64 (Aj .i64 (Int.sub z2 (1:Int))))]) none λv2=>(oo (Bf v2) none λb0=>(bb (nt b0) (Ua pu n ih0 x0 x1 s0 z0 (Int.ofNat k1) true z2 s1 s2 q0) (Ua pu n ih0 x0 x1 s0 z0 (Int.ofNat k1) (nt (AY (bb (AY x0 x1) x1 x0) z2)) z2 s1 s2 q0)))))) none))) none)) (WJ pu n q0)) none)
def RP (pu:Af) (n w:Nat):AjL:=
 Nat.rec (motive:=λ_=>AjL) (λ_ _ _ _ _ _ _=>none) (λ_ ih0=>WK pu n ih0) w
def AfF (pu:Af) (n:Nat) (x0:Int) (s0 s1:Sl):OV:=
 (oo (pu 52 [(.int .i64 (1:Int)),.int .i64 x0,(.int .i64 (5:Int))]) none λv0=>(oo (Bf v0) none λb0=>(bb (nt b0) (some (.int .i64 (1:Int))) (bb (Bd (Int.ofNat (Sl.n s0)) (0:Int)) (some (.int .i64 (4:Int))) (bb (AY (10:Int) (Int.ofNat (Sl.n s0))) (some (.int .i64 (3:Int))) (bb (nt (Bd (Int.ofNat (Sl.n s1)) (Int.ofNat (Sl.n s0)))) (some (.int .i64 (5:Int))) (RP pu n n s0 (Int.ofNat (Sl.n s0)) (0:Int) x0 s0 s1 ([(.int .i64 (0:Int)),(.int .i64 (0:Int)),(.int .i64 (0:Int)),(.int .i64 (0:Int)),(.int .i64 (0:Int))]:LV))))))))
def m47 (pu:Af) (n:Nat) (args:LV):OV:=
 (ll args none λa0 args=>(ll args (oo (Bt a0) none λl0=>(ll l0 none λv0 l0=>(ll l0 none λv1 l0=>(ll l0 none λv2 l0=>(ll l0 (oo (Bi .i64 v0) none λx0=>(oo (Bj 1 v1) none λs0=>(oo (Bj 1 v2) none λs1=>(AfF pu n x0 s0 s1)))) λ_ _=>none))))) λ_ _=>none))
theorem AfG (pu:Af) (n:Nat) (q0:LV) {v:Value} (hm:WJ pu n q0=some v):BN tt (Bb tabs Ir pu (inl pu)) 1 eQ (fr 73 [(3,pt 1 0)]) (hT 2 [oC q0]) (Fin tt 1 [.tmp 2] v):=by
 unfold WJ at hm
 refine .then (.then ?_)
 replace⟨h0,hm⟩:=Ae hm
 replace⟨x0,h1,hm⟩:=Hw hm
 replace⟨x1,h2,hm⟩:=Hw hm
 replace⟨x2,h3,hm⟩:=Hw hm
 replace⟨x3,h4,hm⟩:=Hw hm
 replace⟨x4,h5,hm⟩:=Hw hm
 refine .reg (eD (keep (hT 2 [oC q0]) (bb (Nat.ble (0+5) (len q0)) (some (.agg ⟨Aq 5 (Am 0 q0)⟩)) none)) (Pd h0 (Ca h1 (Ca h2 (Ca h3 (Ca h4 (Ca h5 rfl)))))) (eE)) ?_
 refine .ghs (fr 73 [(72,(zB (bq false (Ah4 x0 x1 x2 x3 x4))))]) FD (.k0 [false] [] [72]) ?_
 replace hm:=Ag hm;rcases hm with⟨h6,hm⟩|⟨h6,hm⟩
 ·refine Gq (bq false (Ah4 x0 x1 x2 x3 x4)) h6 ?_
  refine .then (.rK (.ghs (fr 73 [(2,(zI (17:Int)))]) FD (.k0 [false] [] [2]) ?_))
  refine .ret ?_
  exact Fp (zI (17:Int)) hm
 ·refine Gs (bq false (Ah4 x0 x1 x2 x3 x4)) h6 ?_
  refine .skip (.ghs (fr 73 []) FD (.k0 [false] [] []) ?_)
  refine .then (.rK (.ghs (fr 73 [(2,(zI (0:Int)))]) FD (.k0 [false] [] [2]) ?_))
  refine .ret ?_
  exact Fp (zI (0:Int)) hm
theorem Zu {call:A8} (pu:Af) (n:Nat) (hcall:call=Bb tabs Ir pu (inl pu)) {args:LV} {v:Value} (hm:m47 pu n args=some v) (_:∀ x∈args,closed2 x=true):args.length≤73∧BN tt call 1 UN (Fr.made 73 args) (Ao tabs) (Fin tt 1 [.tmp 2] v):=by
 subst hcall
 unfold m47 at hm
 replace hm:=Ad hm;obtain⟨a0,args_0,rfl,hm⟩:=hm
 replace hm:=AC hm;obtain⟨rfl,hm⟩:=hm
 replace hm:=BG hm;obtain⟨l0,rfl,hm⟩:=hm
 replace hm:=Ad hm;obtain⟨v0,l34179_0,rfl,hm⟩:=hm
 replace hm:=Ad hm;obtain⟨v1,l34179_1,rfl,hm⟩:=hm
 replace hm:=Ad hm;obtain⟨v2,l34179_2,rfl,hm⟩:=hm
 replace hm:=AC hm;obtain⟨rfl,hm⟩:=hm
 replace hm:=Ai hm;obtain⟨x0,rfl,hm⟩:=hm
 replace hm:=Al hm;obtain⟨s0,rfl,hm⟩:=hm
 replace hm:=Al hm;obtain⟨s1,rfl,hm⟩:=hm
 unfold AfF at hm
 refine⟨by simp,?_⟩
 refine .same (F':=(fr 73 [(0,(AhC x0 s0 s1))])) (H':=FD) (by kernel_rfl) (by kernel_rfl) ?_
 refine .then (.rK (.ghs (fr 73 [(1,pt 1 0)]) (hT 2 [(Ahr x0 s0 s1)]) (.k0 [false] [.tmp 1 false] [1]) ?_))
 refine .then (.block (.then ?_))
 replace⟨b0,h0,hm⟩:=bW hm
 refine .reg (eC 2 ((oo (pu 52 [(zI (1:Int)),zI x0,(zI (5:Int))]) none λv=>some (v,(hT 2 [(Ahr x0 s0 s1)])))) (AB h0) (eE)) ?_
 refine .ghs (fr 73 [(1,pt 1 0),(7,(zB (nt b0)))]) (hT 2 [(Ahr x0 s0 s1)]) (.k0 [false] [.tmp 1 false] [1,7]) ?_
 replace hm:=Ag hm;rcases hm with⟨h1,hm⟩|⟨h1,hm⟩
 ·refine Gq (nt b0) h1 ?_
  refine .then (.rK (.ghs (fr 73 [(2,(zI (1:Int)))]) FD (.k0 [false] [] [2]) ?_))
  refine .ret ?_
  exact Fp (zI (1:Int)) hm
 ·refine Gs (nt b0) h1 ?_
  refine .then (.rK (.ghs (fr 73 [(1,pt 1 0),(12,(zB (AiX s0)))]) (hT 2 [(Ahr x0 s0 s1)]) (.k0 [false] [.tmp 1 false] [1,12]) ?_))
  replace hm:=Ag hm;rcases hm with⟨h2,hm⟩|⟨h2,hm⟩
  ·refine Gq (AiX s0) h2 ?_
   refine .then (.rK (.ghs (fr 73 [(2,(zI (4:Int)))]) FD (.k0 [false] [] [2]) ?_))
   refine .ret ?_
   exact Fp (zI (4:Int)) hm
  ·refine Gs (AiX s0) h2 ?_
   refine .then (.rK (.ghs (fr 73 [(1,pt 1 0),(17,(zB (AY (10:Int) (Int.ofNat (Sl.n s0)))))]) (hT 2 [(Ahr x0 s0 s1)]) (.k0 [false] [.tmp 1 false] [1,17]) ?_))
   replace hm:=Ag hm;rcases hm with⟨h3,hm⟩|⟨h3,hm⟩
   ·refine Gq (AY (10:Int) (Int.ofNat (Sl.n s0))) h3 ?_
    refine .then (.rK (.ghs (fr 73 [(2,(zI (3:Int)))]) FD (.k0 [false] [] [2]) ?_))
    refine .ret ?_
    exact Fp (zI (3:Int)) hm
   ·refine Gs (AY (10:Int) (Int.ofNat (Sl.n s0))) h3 ?_
    refine .then (.rK (.ghs (fr 73 [(1,pt 1 0),(22,(zB (Ah7 s1 s0)))]) (hT 2 [(Ahr x0 s0 s1)]) (.k0 [false] [.tmp 1 false] [1,22]) ?_))
    replace hm:=Ag hm;rcases hm with⟨h4,hm⟩|⟨h4,hm⟩
    ·refine Gq (Ah7 s1 s0) h4 ?_
     refine .then (.rK (.ghs (fr 73 [(2,(zI (5:Int)))]) FD (.k0 [false] [] [2]) ?_))
     refine .ret ?_
     exact Fp (zI (5:Int)) hm
    ·refine Gs (Ah7 s1 s0) h4 ?_
     refine .skip (.ghs (fr 73 [(1,pt 1 0)]) (hT 2 [(Ahr x0 s0 s1)]) (.k0 [false] [.tmp 1 false] [1]) ?_)
     refine .then (.rK (.ghs (fr 73 [(1,pt 1 0),(3,(pt 2 0))]) (hT 3 [(Ahr x0 s0 s1),(oC Ah9)]) (.k0 [false] Ah3 [1,3]) ?_))
     refine .join (v:=v) (λy:LV=>((fr 73 [(3,pt 1 0)]),(hT 2 [oC y]))) (λy=>WJ pu n y) ?_ ?_
     ·rintro q0 hm
      exact AfG pu n q0 hm
     ·refine .then (.rK (.ghs (fr 73 [(1,pt 1 0),(3,(pt 2 0)),(31,Sl.v 1 s0),(32,(Ah6 s0)),(33,(zI (0:Int)))]) (hT 3 [(Ahr x0 s0 s1),(oC Ah9)]) (.k0 [false] Ah3 [1,3,31,32,33]) ?_))
      refine .block (.loopM (v:=v) (λy:Sl×Int×Int×Int×Sl×Sl×LV=>((fr 73 [(1,pt 1 0),(3,(pt 2 0)),(31,(Sl.v 1 y.1)),(32,(zI y.2.1)),(33,(zI y.2.2.1))]),(hT 3 [(AhF y.2.2.2.1 (AaW y) (Acq y)),(oC (AcK y))]))) (λw y=>RP pu n w y.1 y.2.1 y.2.2.1 y.2.2.2.1 (AaW y) (Acq y) (AcK y)) n ⟨(s0,(Int.ofNat (Sl.n s0)),(0:Int),x0,s0,s1,(Ah9:LV)),hm,(.k0 [false] Ah3 [1,3,31,32,33])⟩ (λ_=>rfl) ?_)
      rintro w0 ⟨s2,z0,z1,z2,s3,s4,q1⟩ hm
      replace hm:WK pu n (RP pu n w0) s2 z0 z1 z2 s3 s4 q1=some v:=hm
      unfold WK at hm
      refine .then (.rK ?_)
      replace⟨h5,hm⟩:=Ae hm
      refine .ghs (fr 73 [(1,pt 1 0),(3,(pt 2 0)),(31,Sl.v 1 s2),(32,zI z0),(33,zI z1),(34,(zB (AY z1 z0)))]) (Ais z2 s3 s4 q1) (.k [2] [false] Ah3 [1,3,31,32,33,34] ⟨Fb h5,trivial⟩) ?_
      refine .then ?_
      replace hm:=Ag hm;rcases hm with⟨h6,hm⟩|⟨h6,hm⟩
      ·refine Gq (AY z1 z0) h6 ?_
       refine .skip (.ghs (fr 73 [(1,pt 1 0),(3,(pt 2 0)),(31,Sl.v 1 s2),(32,zI z0),(33,zI z1)]) (Ais z2 s3 s4 q1) (.k [2] [false] Ah3 [1,3,31,32,33] ⟨Fb h5,trivial⟩) ?_)
       refine .then (.block (.then ?_))
       replace⟨k1,h7,hm⟩:=Ab hm
       obtain rfl:=AR h7
       replace⟨h8,hm⟩:=Ae hm
       replace⟨x1,h9,hm⟩:=Hw hm
       refine .reg (eC 1 (keep (Ais z2 s3 s4 q1) (Aht k1 s2)) (AX h8) (eD (keep (Ais z2 s3 s4 q1) (AL (Sl.cs s2) (k1*1))) (AZ h9) (eE))) ?_
       refine .ghs (fr 73 [(1,pt 1 0),(3,(pt 2 0)),(4,(zI (Int.ofNat k1))),(5,zI x1),(31,Sl.v 1 s2),(32,zI z0),(33,(zI (Int.ofNat k1)))]) (Ais z2 s3 s4 q1) (.k [2] [false] Ah3 [1,3,4,5,31,32,33] ⟨Fb h5,trivial⟩) ?_
       refine .then ?_
       replace⟨h10,hm⟩:=Ae hm
       replace⟨x2,h11,hm⟩:=Hw hm
       refine .reg (eC 3 (keep (Ais z2 s3 s4 q1) (Aht k1 s4)) (AX h10) (eD (keep (Ais z2 s3 s4 q1) (AL (Sl.cs s4) (k1*1))) (AZ h11) (eE))) ?_
       refine .ghs (fr 73 [(1,pt 1 0),(3,(pt 2 0)),(5,zI x1),(6,zI x2),(31,Sl.v 1 s2),(32,zI z0),(33,(zI (Int.ofNat k1)))]) (Ais z2 s3 s4 q1) (.k [2] [false] Ah3 [1,3,5,6,31,32,33] ⟨Fb h5,trivial⟩) ?_
       refine .then (.join (v:=v) (λy:Int×Int×Sl×Int×Int×Bool×Int×Sl×Sl×LV=>((fr 73 [(1,pt 1 0),(3,(pt 2 0)),(5,(zI y.1)),(6,(zI y.2.1)),(31,(Sl.v 1 y.2.2.1)),(32,(zI y.2.2.2.1)),(33,(zI (AaW y))),(58,(zB (Acq y)))]),(hT 3 [(AhF (Ac3 y) (Ac4 y) (Ac5 y)),(oC (Ac6 y))]))) (λy=>Ua pu n (RP pu n w0) y.1 y.2.1 y.2.2.1 y.2.2.2.1 (AaW y) (Acq y) (Ac3 y) (Ac4 y) (Ac5 y) (Ac6 y)) ?_ ?_)
       ·rintro⟨z3,z4,s5,z5,z6,b3,z7,s6,s7,q2⟩ hm
        unfold Ua at hm
        replace hm:=Ag hm;rcases hm with⟨h12,hm⟩|⟨h12,hm⟩
        ·refine .ifT b3 (by kernel_rfl) h12 ?_
         refine .then (.rK (.ghs (fr 73 [(2,(zI (2:Int)))]) FD (.k0 [false] [] [2]) ?_))
         refine .ret ?_
         exact Fp (zI (2:Int)) hm
        ·refine .ifF b3 (by kernel_rfl) h12 ?_
         refine .skip ?_
         replace⟨h13,hm⟩:=Ae hm
         refine .ghs (fr 73 [(1,pt 1 0),(3,(pt 2 0)),(5,zI z3),(6,zI z4),(31,Sl.v 1 s5),(32,zI z5),(33,zI z6)]) (Ais z7 s6 s7 q2) (.k [2] [false] Ah3 [1,3,5,6,31,32,33] ⟨Fb h13,trivial⟩) ?_
         refine .then ?_
         replace⟨k2,h14,hm⟩:=Ab hm
         obtain rfl:=AR h14
         replace⟨h15,hm⟩:=Ae hm
         replace⟨x3,h16,hm⟩:=Hw hm
         replace⟨h17,hm⟩:=Ae hm
         replace⟨h18,hm⟩:=Ae hm
         refine .reg (eC 1 (keep (Ais z7 s6 s7 q2) (AhZ k2)) (AX h15) (eD (keep (Ais z7 s6 s7 q2) (AL q2 (0+k2*1))) (AZ h16) (eC 1 (keep (Ais z7 s6 s7 q2) (AhZ k2)) (AX h17) (eD (done (bb (an (Nat.ble ((0+k2*1)+1) (len q2)) true) (some (AhV z7 s6 s7 x3 k2 q2)) none) undef) (Js h18) (eE))))) ?_
         replace⟨h19,hm⟩:=Ae hm
         refine .ghs (fr 73 [(1,pt 1 0),(3,(pt 2 0)),(6,zI z4),(31,Sl.v 1 s5),(32,zI z5),(33,zI z6)]) (AhV z7 s6 s7 x3 k2 q2) (.k [2] [false] Ah3 [1,3,6,31,32,33] ⟨Fb h19,trivial⟩) ?_
         replace⟨k3,h20,hm⟩:=Ab hm
         obtain rfl:=AR h20
         replace⟨h21,hm⟩:=Ae hm
         replace⟨x4,h22,hm⟩:=Hw hm
         replace⟨h23,hm⟩:=Ae hm
         replace⟨h24,hm⟩:=Ae hm
         refine .reg (eC 1 (keep (AhV z7 s6 s7 x3 k2 q2) (AhZ k3)) (AX h21) (eD (keep (AhV z7 s6 s7 x3 k2 q2) (AL (BM ([(zI (AhE x3))]:LV) (0+k2*1) q2) (0+k3*1))) (AZ h22) (eC 1 (keep (AhV z7 s6 s7 x3 k2 q2) (AhZ k3)) (AX h23) (eD (done (bb (an (Nat.ble ((0+k3*1)+1) (len (BM ([(zI (AhE x3))]:LV) (0+k2*1) q2))) true) (some (hT 3 [(Ahr z7 s6 s7),(oC (Aiu x4 k3 x3 k2 q2))])) none) undef) (Js h24) (eE))))) ?_
         replace⟨h25,hm⟩:=Ae hm
         refine .ghs (fr 73 [(1,pt 1 0),(3,(pt 2 0)),(31,Sl.v 1 s5),(32,zI z5),(33,zI z6)]) (hT 3 [(Ahr z7 s6 s7),(oC (Aiu x4 k3 x3 k2 q2))]) (.k [2] [false] Ah3 [1,3,31,32,33] ⟨Fb h25,trivial⟩) ?_
         refine .rK ?_
         exact⟨(s5,z5,(AhE z6),z7,s6,s7,(Aiu x4 k3 x3 k2 q2)),hm,(.k [2] [false] Ah3 [1,3,31,32,33] ⟨Fb h25,trivial⟩)⟩
       ·replace⟨b4,h26,hm⟩:=bW hm
        replace hm:=Ag hm;rcases hm with⟨h27,hm⟩|⟨h27,hm⟩
        ·refine .reg (eC 6 ((oo (pu 52 [(zI (0:Int)),(zI (bb (AY x2 x1) x2 x1)),(Aje z2)]) none λv=>some (v,(Ais z2 s3 s4 q1)))) (AB h26) (eD (some ((zB (nt b4)),(Ais z2 s3 s4 q1))) (show _=some ((zB true),_) from (by rw[show (nt b4)=true from h27])) (eE))) ?_
         exact⟨(x1,x2,s2,z0,(Int.ofNat k1),true,z2,s3,s4,q1),hm,(.k [2] [false] Ah3 [1,3,5,6,31,32,33,58] ⟨Fb h5,trivial⟩)⟩
        ·refine .reg (eC 6 ((oo (pu 52 [(zI (0:Int)),(zI (bb (AY x2 x1) x2 x1)),(Aje z2)]) none λv=>some (v,(Ais z2 s3 s4 q1)))) (AB h26) (eD (some ((zB (nt b4)),(Ais z2 s3 s4 q1))) (show _=some ((zB false),_) from (by rw[show (nt b4)=false from h27])) (eE))) ?_
         exact⟨(x1,x2,s2,z0,(Int.ofNat k1),(nt (AY (bb (AY x1 x2) x2 x1) z2)),z2,s3,s4,q1),hm,(.k [2] [false] Ah3 [1,3,5,6,31,32,33,58] ⟨Fb h5,trivial⟩)⟩
      ·refine Gs (AY z1 z0) h6 ?_
       refine .exit ?_
       exact⟨q1,hm,(.k [2] [false] [.tmp 3 false] [3] ⟨Fb h5,trivial⟩)⟩
def WL (pu:Af) (n n0 c0:Nat) (q0:LV):OV:=
 (bb (Au Ah q0) (bb (an (Nat.ble (0+n0*1) (len q0)) (Au Ah (Aq (n0*1) (Am 0 q0)))) (some (Sl.v 1 (Sl.mk n0 0 (Aq (n0*1) (Am 0 q0))))) none) none)
def WM (pu:Af) (n:Nat) (ih0:Ajz) (ih1:AjE) (n0 c0:Nat) (z0:Int) (s0:Sl) (z1 z2 z3:Int) (s1 s2:Sl) (q0:LV) (e0:List EO) (k1:Nat):OV:=
 (bb (Au Ah q0) (bb (Au F4 e0) (bb (AY z2 z1) (oo (EA z2) none λk2=>(bb (an (Nat.blt k2 (Sl.n s0)) true) (oo (AL (Sl.cs s0) (k2*1)) none λv0=>(oo (Bi .i64 v0) none λx0=>(oo (EA x0) none λk3=>(ih1 n0 c0 (QV .u16 z0 (QW .u16 (1:Int) k3)) s0 z1 (Aj .i64 (Int.add (Int.ofNat k2) (1:Int))) z3 s1 s2 q0 e0 k1)))) none)) (ih0 n0 c0 z0 z3 s1 s2 q0 e0 k1)) none) none)
def WN (pu:Af) (n:Nat) (ih0:Ajz) (w:Nat):AjE:=
 Nat.rec (motive:=λ_=>AjE) (λ_ _ _ _ _ _ _ _ _ _ _ _=>none) (λ_ ih1=>WM pu n ih0 ih1) w
def RQ (pu:Af) (n:Nat) (ih0:Ajz) (n0 c0:Nat) (z0 z1:Int) (s0 s1:Sl) (q0:LV) (e0:List EO) (k1:Nat):OV:=
 (bb (Au Ah q0) (bb (Au F4 e0) (bb (nt (Bd z0 (0:Int))) (oo (pu 67 [.int .u16 z0]) none λv0=>(oo (Bi .i64 v0) none λx0=>(oo (EA x0) none λk2=>(bb (Au F4 e0) (oo (pu 10660 [(.pointer (some ⟨1,0,none⟩)),.int .u16 z0,(.agg ⟨[.int .i64 z1,Sl.v 1 s0,Sl.v 1 s1,(.map (some 2))]⟩),(Ef (.map e0 k1))]) none λv1=>(oo (CQ v1) none λl0=>(ll l0 none λv2 l0=>(ll l0 none λv3 l0=>(ll l0 none λv4 l0=>(ll l0 (oo (Bi .i64 v2) none λx1=>(oo (Bt v3) none λl1=>(ll l1 none λv5 l1=>(ll l1 none λv6 l1=>(ll l1 none λv7 l1=>(ll l1 none λv8 l1=>(ll l1 (oo (Bi .i64 v5) none λx2=>(oo (Bj 1 v6) none λs2=>(oo (Bj 1 v7) none λs3=>(bb (FC v8 2) (oo (Fj v4) none λy0=>(bb (Au F4 (Akd.es y0)) (bb (Au F4 (Akd.es y0)) (oo (pu 10680 [(.pointer (some ⟨1,0,none⟩)),(Sl.v 1 (Sl.mk 1 0 (Aq (1*1) (Am 0 ([(.int .i64 (Int.ofNat k2))]:LV))))),(.int .u16 (QV .u16 z0 (QW .u16 (1:Int) k2))),(.int .i64 (Aj .i64 (Int.sub x1 (1:Int)))),(.agg ⟨[.int .i64 x2,Sl.v 1 s2,Sl.v 1 s3,(.map (some 2))]⟩),(Ef (.map (Akd.es y0) (Akd.clock y0)))]) none λv9=>(oo (CQ v9) none λl2=>(ll l2 none λv10 l2=>(ll l2 none λv11 l2=>(ll l2 none λv12 l2=>(ll l2 (oo (Bj 1 v10) none λs4=>(oo (Bt v11) none λl3=>(ll l3 none λv13 l3=>(ll l3 none λv14 l3=>(ll l3 none λv15 l3=>(ll l3 none λv16 l3=>(ll l3 (oo (Bi .i64 v13) none λx3=>(oo (Bj 1 v14) none λs5=>(oo (Bj 1 v15) none λs6=>(bb (FC v16 2) (oo (Fj v12) none λy1=>(bb (Au F4 (Akd.es y1)) (bb (Au F4 (Akd.es y1)) (bb (GV 1 24 n0 c0 1 q0) (bb (Au Ah (Br (Am 0 q0) [Sl.v 1 s4])) (WN pu n ih0 n (n0+1) (2*(n0+1)+bb false 1 0) z0 s4 (Int.ofNat (Sl.n s4)) (0:Int) x3 s5 s6 (Br (Am 0 q0) [Sl.v 1 s4]) (Akd.es y1) (Akd.clock y1)) none) none) none) none)) none)))) λ_ _=>none))))))) λ_ _=>none)))))) none) none)) none)))) λ_ _=>none))))))) λ_ _=>none)))))) none)))) (WL pu n n0 c0 q0)) none) none)
def OQ (pu:Af) (n w:Nat):Ajz:=
 Nat.rec (motive:=λ_=>Ajz) (λ_ _ _ _ _ _ _ _ _=>none) (λ_ ih0=>RQ pu n ih0) w
def nN (pu:Af) (n:Nat) (x0:Int) (s0 s1:Sl):OV:=
 (oo (pu 10650 [(.agg ⟨[.int .i64 x0,Sl.v 1 s0,Sl.v 1 s1]⟩)]) none λv0=>(oo (CQ v0) none λl0=>(ll l0 none λv1 l0=>(ll l0 none λv2 l0=>(ll l0 none λv3 l0=>(ll l0 (bb (MK v1 1 0) (oo (Bt v2) none λl1=>(ll l1 none λv4 l1=>(ll l1 none λv5 l1=>(ll l1 none λv6 l1=>(ll l1 none λv7 l1=>(ll l1 (oo (Bi .i64 v4) none λx1=>(oo (Bj 1 v5) none λs2=>(oo (Bj 1 v6) none λs3=>(bb (FC v7 2) (oo (Fj v3) none λy0=>(bb (Au F4 (Akd.es y0)) (bb (Au F4 (Akd.es y0)) (oo (pu 51 [(.agg ⟨[.int .i64 x0,Sl.v 1 s0,Sl.v 1 s1]⟩)]) none λv8=>(oo (Bi .u16 v8) none λx2=>(OQ pu n n 0 0 x2 x1 s2 s3 ([]:LV) (Akd.es y0) (Akd.clock y0)))) none) none)) none)))) λ_ _=>none)))))) none) λ_ _=>none))))))
def m48 (pu:Af) (n:Nat) (args:LV):OV:=
 (ll args none λa0 args=>(ll args (oo (Bt a0) none λl0=>(ll l0 none λv0 l0=>(ll l0 none λv1 l0=>(ll l0 none λv2 l0=>(ll l0 (oo (Bi .i64 v0) none λx0=>(oo (Bj 1 v1) none λs0=>(oo (Bj 1 v2) none λs1=>(nN pu n x0 s0 s1)))) λ_ _=>none))))) λ_ _=>none))
theorem AfH (pu:Af) (n n0 c0:Nat) (q0:LV) {v:Value} (hm:WL pu n n0 c0 q0=some v):BN tt (Bb tabs Ir pu (inl pu)) 1 eT (fr 46 [(4,sc 1 0 1 n0 c0)]) (hT 2 [oC q0]) (Fin tt 1 [.tmp 2] v):=by
 unfold WL at hm
 refine .then (.rK ?_)
 replace⟨h0,hm⟩:=Ae hm
 refine .ghs (fr 46 [(2,sc 1 0 1 n0 c0)]) (hT 2 [oC q0]) (.k [1] [false] [.tmp 2 false] [2] ⟨Fb h0,trivial⟩) ?_
 replace⟨h1,hm⟩:=Ae hm
 refine .ghs (Fr.puts (fr 46 [(2,sc 1 0 1 n0 c0)]) [(2,(Sl.v 1 (Ahx n0 q0)))]) (hT 2 [.dead]) (.freezeC 1 2 1 (Aij n0 q0) (F1:=(Fr.puts (fr 46 [(2,sc 1 0 1 n0 c0)]) [(2,(Sl.v 1 (Ahx n0 q0)))])) (H1:=(hT 2 [.dead])) (by kernel_rfl) (by kernel_rfl) h1 (E9.id _ _)) ?_
 refine .ret ?_
 exact Fp (Sl.v 1 (Ahx n0 q0)) hm
theorem r48 {call:A8} (pu:Af) (n:Nat) (hcall:call=Bb tabs Ir pu (inl pu)) {args:LV} {v:Value} (hm:m48 pu n args=some v) (_:∀ x∈args,closed2 x=true):args.length≤46∧BN tt call 1 UO (Fr.made 46 args) (Ao tabs) (Fin tt 1 [.tmp 2] v):=by
 subst hcall
 unfold m48 at hm
 replace hm:=Ad hm;obtain⟨a0,args_0,rfl,hm⟩:=hm
 replace hm:=AC hm;obtain⟨rfl,hm⟩:=hm
 replace hm:=BG hm;obtain⟨l0,rfl,hm⟩:=hm
 replace hm:=Ad hm;obtain⟨v0,l34912_0,rfl,hm⟩:=hm
 replace hm:=Ad hm;obtain⟨v1,l34912_1,rfl,hm⟩:=hm
 replace hm:=Ad hm;obtain⟨v2,l34912_2,rfl,hm⟩:=hm
 replace hm:=AC hm;obtain⟨rfl,hm⟩:=hm
 replace hm:=Ai hm;obtain⟨x0,rfl,hm⟩:=hm
 replace hm:=Al hm;obtain⟨s0,rfl,hm⟩:=hm
 replace hm:=Al hm;obtain⟨s1,rfl,hm⟩:=hm
 unfold nN at hm
 refine⟨by simp,?_⟩
 refine .same (F':=(fr 46 [(0,(AhC x0 s0 s1))])) (H':=FD) (by kernel_rfl) (by kernel_rfl) ?_
 refine .then (.rK (.ghs (fr 46 [(1,pt 1 0)]) (hT 2 [(Ahr x0 s0 s1)]) (.k0 [false] [.tmp 1 false] [1]) ?_))
 refine .then ?_
 replace⟨v3,h0,hm⟩:=Ab hm
 replace hm:=Ch hm;obtain⟨l1,rfl,hm⟩:=hm
 replace hm:=Ad hm;obtain⟨v4,l34955_0,rfl,hm⟩:=hm
 replace hm:=Ad hm;obtain⟨v5,l34955_1,rfl,hm⟩:=hm
 replace hm:=Ad hm;obtain⟨v6,l34955_2,rfl,hm⟩:=hm
 replace hm:=AC hm;obtain⟨rfl,hm⟩:=hm
 replace⟨h1,hm⟩:=Ae hm
 obtain rfl:=KR h1
 replace hm:=BG hm;obtain⟨l2,rfl,hm⟩:=hm
 replace hm:=Ad hm;obtain⟨v7,l34961_0,rfl,hm⟩:=hm
 replace hm:=Ad hm;obtain⟨v8,l34961_1,rfl,hm⟩:=hm
 replace hm:=Ad hm;obtain⟨v9,l34961_2,rfl,hm⟩:=hm
 replace hm:=Ad hm;obtain⟨v10,l34961_3,rfl,hm⟩:=hm
 replace hm:=AC hm;obtain⟨rfl,hm⟩:=hm
 replace hm:=Ai hm;obtain⟨x1,rfl,hm⟩:=hm
 replace hm:=Al hm;obtain⟨s2,rfl,hm⟩:=hm
 replace hm:=Al hm;obtain⟨s3,rfl,hm⟩:=hm
 replace⟨h2,hm⟩:=Ae hm
 obtain rfl:=Ey h2
 replace⟨y0,h3,hm⟩:=Ab hm
 replace⟨h4,hm⟩:=Ae hm
 refine .reg (eC 1 (EK tabs [[none,some 1,some 1]] 1 [] [true,false] (pu 10650) [(AhC x0 s0 s1)] (hT 2 [(Ahr x0 s0 s1)])) (EL (as:=[(AhC x0 s0 s1)]) (H1:=(hT 2 [(Ahr x0 s0 s1)])) (BS (Ot (Da Dk (Da (KQ (CV (z:=1) (v:=(Sl.v 1 s0)) (H:=(hT 2 [(Ahr x0 s0 s1)])) (by kernel_rfl) (by kernel_rfl) (by kernel_rfl))) (Da (KQ (CV (z:=1) (v:=(Sl.v 1 s1)) (H:=(hT 2 [(Ahr x0 s0 s1)])) (by kernel_rfl) (by kernel_rfl) (by kernel_rfl))) Oq)))) Gj) (EI (H2:=(Ajd x0 s0 s1 x1 s2 s3 y0)) (v:=(pt 1 0)) (v':=(pt 2 0)) [some 0] [] [] [(AhC x0 s0 s1)] [(.agg ⟨(AhT x1 s2 s3)⟩),v6] [(oC (AhT x1 s2 s3)),(Ahv y0)] [some 0,none,some 1,some 2] (Ajo x1 s2 s3 y0) [(AhB x1 s2 s3),(Ahv y0)] (by kernel_rfl) BX (Eq.trans (by kernel_rfl) h0) (En rfl (En (CK h3) BX)) (En (by kernel_rfl) (En (GZ h4) BX)))) (eE)) ?_
 replace⟨h5,hm⟩:=Ae hm
 refine .ghs (fr 46 [(1,pt 1 0),(3,(pt 2 0))]) (Ajd x0 s0 s1 x1 s2 s3 y0) (.k [3] [false] [.tmp 1 false,.tmp 3 true,.cell 2 3 false] [1,3] ⟨Fb h5,trivial⟩) ?_
 refine .then (.rK (.ghs (fr 46 [(1,pt 1 0),(3,(pt 2 0)),(4,(.slice none 0 0))]) (Ajd x0 s0 s1 x1 s2 s3 y0) (.k [3] [false] [.tmp 1 false,.tmp 3 true,.cell 2 3 false] [1,3,4] ⟨Fb h5,trivial⟩) ?_))
 refine .join (v:=v) (λy:Nat×Nat×LV=>((fr 46 [(4,(sc 1 0 1 y.1 y.2.1))]),(hT 2 [(oC y.2.2)]))) (λy=>WL pu n y.1 y.2.1 y.2.2) ?_ ?_
 ·rintro⟨n0,c0,q0⟩ hm
  exact AfH pu n n0 c0 q0 hm
 ·refine .then ?_
  replace⟨x2,h6,hm⟩:=Hw hm
  refine .reg (eC 1 ((oo (pu 51 [(AhC x0 s0 s1)]) none λv=>some (v,(Ajd x0 s0 s1 x1 s2 s3 y0)))) (AB h6) (eE)) ?_
  refine .ghs (fr 46 [(3,pt 1 0),(4,(.slice none 0 0)),(5,.int .u16 x2)]) (hT 3 [(oC (AhT x1 s2 s3)),(Ahv y0)]) (.k [3] [false] [.tmp 3 true,.cell 1 3 false] [3,4,5] ⟨Fb h5,trivial⟩) ?_
  refine .block (.loopM (v:=v) (λy:Nat×Nat×Int×Int×Sl×Sl×LV×List EO×Nat=>((fr 46 [(3,pt 1 0),(4,(sc 2 0 1 y.1 y.2.1)),(5,(.int .u16 y.2.2.1))]),(hT 4 [(oC [(zI y.2.2.2.1),(Sl.v 1 (AaW y)),(Sl.v 1 (Acq y)),(.map (some 3))]),(oC (Ac3 y)),(.map (Ac4 y) (Adb y))]))) (λw y=>OQ pu n w y.1 y.2.1 y.2.2.1 y.2.2.2.1 (AaW y) (Acq y) (Ac3 y) (Ac4 y) (Adb y)) n ⟨(0,0,x2,x1,s2,s3,([]:LV),(Akd.es y0),(Akd.clock y0)),hm,(.thaw 4 1 (by kernel_rfl) (.k [2] [false] AhR [3,4,5] ⟨Fb h5,trivial⟩))⟩ (λ_=>rfl) ?_)
  rintro w0 ⟨n1,c1,z0,z1,s4,s5,q1,e0,k1⟩ hm
  replace hm:RQ pu n (OQ pu n w0) n1 c1 z0 z1 s4 s5 q1 e0 k1=some v:=hm
  unfold RQ at hm
  refine .then (.then (.rK ?_))
  replace⟨h7,hm⟩:=Ae hm
  replace⟨h8,hm⟩:=Ae hm
  refine .ghs (fr 46 [(3,pt 1 0),(4,sc 2 0 1 n1 c1),(5,.int .u16 z0),(15,(zB (nt (Bd z0 (0:Int)))))]) (AiU z1 s4 s5 q1 e0 k1) (.k [2,3] [false] AhR [3,4,5,15] ⟨Fb h7,Fb h8,trivial⟩) ?_
  replace hm:=Ag hm;rcases hm with⟨h9,hm⟩|⟨h9,hm⟩
  ·refine Gq (nt (Bd z0 (0:Int))) h9 ?_
   refine .skip (.ghs (fr 46 [(3,pt 1 0),(4,sc 2 0 1 n1 c1),(5,.int .u16 z0)]) (AiU z1 s4 s5 q1 e0 k1) (.k [2,3] [false] AhR [3,4,5] ⟨Fb h7,Fb h8,trivial⟩) ?_)
   refine .block (.then ?_)
   replace⟨x3,h10,hm⟩:=Hw hm
   refine .reg (eC 1 ((oo (pu 67 [.int .u16 z0]) none λv=>some (v,(AiU z1 s4 s5 q1 e0 k1)))) (AB h10) (eE)) ?_
   refine .ghs (fr 46 [(3,pt 1 0),(4,sc 2 0 1 n1 c1),(5,.int .u16 z0),(6,zI x3)]) (AiU z1 s4 s5 q1 e0 k1) (.k [2,3] [false] AhR [3,4,5,6] ⟨Fb h7,Fb h8,trivial⟩) ?_
   refine .then ?_
   replace⟨k2,h11,hm⟩:=Ab hm
   obtain rfl:=AR h11
   replace⟨h12,hm⟩:=Ae hm
   replace⟨v11,h13,hm⟩:=Ab hm
   replace hm:=Ch hm;obtain⟨l3,rfl,hm⟩:=hm
   replace hm:=Ad hm;obtain⟨v12,l37158_0,rfl,hm⟩:=hm
   replace hm:=Ad hm;obtain⟨v13,l37158_1,rfl,hm⟩:=hm
   replace hm:=Ad hm;obtain⟨v14,l37158_2,rfl,hm⟩:=hm
   replace hm:=AC hm;obtain⟨rfl,hm⟩:=hm
   replace hm:=Ai hm;obtain⟨x4,rfl,hm⟩:=hm
   replace hm:=BG hm;obtain⟨l4,rfl,hm⟩:=hm
   replace hm:=Ad hm;obtain⟨v15,l37165_0,rfl,hm⟩:=hm
   replace hm:=Ad hm;obtain⟨v16,l37165_1,rfl,hm⟩:=hm
   replace hm:=Ad hm;obtain⟨v17,l37165_2,rfl,hm⟩:=hm
   replace hm:=Ad hm;obtain⟨v18,l37165_3,rfl,hm⟩:=hm
   replace hm:=AC hm;obtain⟨rfl,hm⟩:=hm
   replace hm:=Ai hm;obtain⟨x5,rfl,hm⟩:=hm
   replace hm:=Al hm;obtain⟨s6,rfl,hm⟩:=hm
   replace hm:=Al hm;obtain⟨s7,rfl,hm⟩:=hm
   replace⟨h14,hm⟩:=Ae hm
   obtain rfl:=Ey h14
   replace⟨y1,h15,hm⟩:=Ab hm
   replace⟨h16,hm⟩:=Ae hm
   replace⟨h17,hm⟩:=Ae hm
   replace⟨v19,h18,hm⟩:=Ab hm
   replace hm:=Ch hm;obtain⟨l5,rfl,hm⟩:=hm
   replace hm:=Ad hm;obtain⟨v20,l37192_0,rfl,hm⟩:=hm
   replace hm:=Ad hm;obtain⟨v21,l37192_1,rfl,hm⟩:=hm
   replace hm:=Ad hm;obtain⟨v22,l37192_2,rfl,hm⟩:=hm
   replace hm:=AC hm;obtain⟨rfl,hm⟩:=hm
   replace hm:=Al hm;obtain⟨s8,rfl,hm⟩:=hm
   replace hm:=BG hm;obtain⟨l6,rfl,hm⟩:=hm
   replace hm:=Ad hm;obtain⟨v23,l37199_0,rfl,hm⟩:=hm
   replace hm:=Ad hm;obtain⟨v24,l37199_1,rfl,hm⟩:=hm
   replace hm:=Ad hm;obtain⟨v25,l37199_2,rfl,hm⟩:=hm
   replace hm:=Ad hm;obtain⟨v26,l37199_3,rfl,hm⟩:=hm
   replace hm:=AC hm;obtain⟨rfl,hm⟩:=hm
   replace hm:=Ai hm;obtain⟨x6,rfl,hm⟩:=hm
   replace hm:=Al hm;obtain⟨s9,rfl,hm⟩:=hm
   replace hm:=Al hm;obtain⟨s10,rfl,hm⟩:=hm
   replace⟨h19,hm⟩:=Ae hm
   obtain rfl:=Ey h19
   replace⟨y2,h20,hm⟩:=Ab hm
   replace⟨h21,hm⟩:=Ae hm
   refine .reg (eC 9 (EK tabs [[none],[none]] 2 [.tmp 0 true,.cell 1 3 false] [true,false] (pu 10660) [pt 1 0,.int .u16 z0] (hT 5 [(AhB z1 s4 s5),oC q1,(.map e0 k1),(Ajr k2)])) (EL (as:=[pt 1 0,.int .u16 z0]) (H1:=(hT 5 [(AhB z1 s4 s5),oC q1,(.map e0 k1),(Ajr k2)])) (BS (Dm Dk) (BS (Dm Dk) Gj)) (EI (H2:=(hT 5 [(AhB x5 s6 s7),oC q1,(Ahv y1),(Ajr k2)])) (v:=(zI x4)) (v':=(zI x4)) [some 0,some 1,some 3] [(true,some 1),(false,some 3)] [(oC (AhT z1 s4 s5)),(.map e0 k1)] [pt 1 0,.int .u16 z0] [(.agg ⟨(AhT x5 s6 s7)⟩),v14] [(oC (AhT x5 s6 s7)),(Ahv y1)] [some 0,some 1,none,some 2,none] (Ajo x5 s6 s7 y1) [(AhB x5 s6 s7),(Ahv y1)] (by kernel_rfl) (En (by kernel_rfl) (En (Ka h12) BX)) (Eq.trans (by kernel_rfl) h13) (En rfl (En (CK h15) BX)) (En (by kernel_rfl) (En (GZ h16) BX)))) (eC 1 (EK tabs [[none],[some 1],[none],[none]] 4 [.tmp 0 true,.cell 1 3 false] [true,false] (pu 10680) [pt 1 0,sc 4 0 1 1 3,(Ajm z0 k2),(Aje x4)] (hT 5 [(AhB x5 s6 s7),oC q1,(Ahv y1),(Ajr k2)])) (EL (as:=[pt 1 0,(Ai5 k2),(Ajm z0 k2),(Aje x4)]) (H1:=(hT 5 [(AhB x5 s6 s7),oC q1,(Ahv y1),.dead])) (BS (Dm Dk) (BS (Dm (KQ (show ER 1 (sc 4 0 1 1 3) (hT 5 [(AhB x5 s6 s7),oC q1,(Ahv y1),(Ajr k2)])=some ((Ai5 k2),(hT 5 [(AhB x5 s6 s7),oC q1,(Ahv y1),.dead])) from KH 4 0 1 1 3 ([(zI (Int.ofNat k2))]:LV) [] (by kernel_rfl) (by kernel_rfl) (by kernel_rfl)))) (BS (Dm Dk) (BS (Dm Dk) Gj)))) (EI (H2:=(hT 5 [(AhB x6 s9 s10),oC q1,(Ahv y2),.dead])) (v:=(Sl.v 1 s8)) (v':=(Sl.v 1 s8)) [some 0,some 1,some 3] [(true,some 1),(false,some 3)] [(oC (AhT x5 s6 s7)),(Ahv y1)] [pt 1 0,(Ai5 k2),(Ajm z0 k2),(Aje x4)] [(.agg ⟨(AhT x6 s9 s10)⟩),v22] [(oC (AhT x6 s9 s10)),(Ahv y2)] [some 0,some 1,none,some 2,none] (Ajo x6 s9 s10 y2) [(AhB x6 s9 s10),(Ahv y2)] (by kernel_rfl) (En (by kernel_rfl) (En (Ka h17) BX)) (Eq.trans (by kernel_rfl) h18) (En rfl (En (CK h20) BX)) (En (by kernel_rfl) (En (GZ h21) BX)))) (eE))) ?_
   replace⟨h22,hm⟩:=Ae hm
   refine .ghs (fr 46 [(3,pt 1 0),(4,sc 2 0 1 n1 c1),(5,.int .u16 z0),(7,Sl.v 1 s8)]) (hT 4 [(AhB x6 s9 s10),oC q1,(Ahv y2)]) (.k [2,3] [false] AhR [3,4,5,7] ⟨Fb h7,Fb h22,trivial⟩) ?_
   refine .then ?_
   replace⟨h23,hm⟩:=Ae hm
   refine .reg (eC 3 (Oc 1 24 n1 c1 1 2 q1 [Sl.v 1 s8] [] (hT 5 [(AhB x6 s9 s10),oC q1,(Ahv y2),(oC [Sl.v 1 s8])])) (I1 h23) (eE)) ?_
   replace⟨h24,hm⟩:=Ae hm
   refine .ghs (fr 46 [(3,pt 1 0),(4,(sc 2 0 1 (n1+1) (d2 (n1+1)))),(5,.int .u16 z0),(7,Sl.v 1 s8)]) (hT 4 [(AhB x6 s9 s10),(oC (Br (Am 0 q1) [Sl.v 1 s8])),(Ahv y2)]) (.k [5,3] [false] AhR [3,4,5,7] ⟨Fb h24,Fb h22,trivial⟩) ?_
   refine .then (.rK (.ghs (fr 46 [(3,pt 1 0),(4,(sc 2 0 1 (n1+1) (d2 (n1+1)))),(5,.int .u16 z0),(34,Sl.v 1 s8),(35,(Ah6 s8)),(36,(zI (0:Int)))]) (hT 4 [(AhB x6 s9 s10),(oC (Br (Am 0 q1) [Sl.v 1 s8])),(Ahv y2)]) (.k [2,3] [false] AhR [3,4,5,34,35,36] ⟨Fb h24,Fb h22,trivial⟩) ?_))
   refine .block (.loopM (v:=v) (λy:Nat×Nat×Int×Sl×Int×Int×Int×Sl×Sl×LV×List EO×Nat=>((fr 46 [(3,pt 1 0),(4,(sc 2 0 1 y.1 y.2.1)),(5,(.int .u16 y.2.2.1)),(34,(Sl.v 1 y.2.2.2.1)),(35,(zI (AaW y))),(36,(zI (Acq y)))]),(hT 4 [(oC [(zI (Ac3 y)),(Sl.v 1 (Ac4 y)),(Sl.v 1 (Ac5 y)),(.map (some 3))]),(oC (Ac7 y)),(.map (Ac8 y) (Aex y))]))) (λw y=>WN pu n (OQ pu n w0) w y.1 y.2.1 y.2.2.1 y.2.2.2.1 (AaW y) (Acq y) (Ac3 y) (Ac4 y) (Ac5 y) (Ac7 y) (Ac8 y) (Aex y)) n ⟨((n1+1),(d2 (n1+1)),z0,s8,(Int.ofNat (Sl.n s8)),(0:Int),x6,s9,s10,(Br (Am 0 q1) [Sl.v 1 s8]),(Akd.es y2),(Akd.clock y2)),hm,(.k [2,3] [false] AhR [3,4,5,34,35,36] ⟨Fb h24,Fb h22,trivial⟩)⟩ (λ_=>rfl) ?_)
   rintro w1 ⟨n2,c2,z2,s11,z3,z4,z5,s12,s13,q2,e1,k3⟩ hm
   replace hm:WM pu n (OQ pu n w0) (WN pu n (OQ pu n w0) w1) n2 c2 z2 s11 z3 z4 z5 s12 s13 q2 e1 k3=some v:=hm
   unfold WM at hm
   refine .then (.rK ?_)
   replace⟨h25,hm⟩:=Ae hm
   replace⟨h26,hm⟩:=Ae hm
   refine .ghs (fr 46 [(3,pt 1 0),(4,sc 2 0 1 n2 c2),(5,.int .u16 z2),(34,Sl.v 1 s11),(35,zI z3),(36,zI z4),(37,(zB (AY z4 z3)))]) (AiU z5 s12 s13 q2 e1 k3) (.k [2,3] [false] AhR [3,4,5,34,35,36,37] ⟨Fb h25,Fb h26,trivial⟩) ?_
   refine .then ?_
   replace hm:=Ag hm;rcases hm with⟨h27,hm⟩|⟨h27,hm⟩
   ·refine Gq (AY z4 z3) h27 ?_
    refine .skip (.ghs (fr 46 [(3,pt 1 0),(4,sc 2 0 1 n2 c2),(5,.int .u16 z2),(34,Sl.v 1 s11),(35,zI z3),(36,zI z4)]) (AiU z5 s12 s13 q2 e1 k3) (.k [2,3] [false] AhR [3,4,5,34,35,36] ⟨Fb h25,Fb h26,trivial⟩) ?_)
    refine .then (.block (.then ?_))
    replace⟨k4,h28,hm⟩:=Ab hm
    obtain rfl:=AR h28
    replace⟨h29,hm⟩:=Ae hm
    replace⟨x7,h30,hm⟩:=Hw hm
    refine .reg (eD (keep (AiU z5 s12 s13 q2 e1 k3) (Aht k4 s11)) (AX h29) (eD (keep (AiU z5 s12 s13 q2 e1 k3) (AL (Sl.cs s11) (k4*1))) (AZ h30) (eE))) ?_
    refine .ghs (fr 46 [(3,pt 1 0),(4,sc 2 0 1 n2 c2),(5,.int .u16 z2),(9,zI x7),(34,Sl.v 1 s11),(35,zI z3),(36,(zI (Int.ofNat k4)))]) (AiU z5 s12 s13 q2 e1 k3) (.k [2,3] [false] AhR [3,4,5,9,34,35,36] ⟨Fb h25,Fb h26,trivial⟩) ?_
    replace⟨k5,h31,hm⟩:=Ab hm
    obtain rfl:=AR h31
    refine .rK (.ghs (fr 46 [(3,pt 1 0),(4,sc 2 0 1 n2 c2),(5,(Ajm z2 k5)),(34,Sl.v 1 s11),(35,zI z3),(36,(zI (Int.ofNat k4)))]) (AiU z5 s12 s13 q2 e1 k3) (.k [2,3] [false] AhR [3,4,5,34,35,36] ⟨Fb h25,Fb h26,trivial⟩) ?_)
    refine .rK ?_
    exact⟨(n2,c2,(QV .u16 z2 (QW .u16 (1:Int) k5)),s11,z3,(AhP k4),z5,s12,s13,q2,e1,k3),hm,(.k [2,3] [false] AhR [3,4,5,34,35,36] ⟨Fb h25,Fb h26,trivial⟩)⟩
   ·refine Gs (AY z4 z3) h27 ?_
    refine .exit ?_
    exact⟨(n2,c2,z2,z5,s12,s13,q2,e1,k3),hm,(.k [2,3] [false] AhR [3,4,5] ⟨Fb h25,Fb h26,trivial⟩)⟩
  ·refine Gs (nt (Bd z0 (0:Int))) h9 ?_
   refine .exit ?_
   exact⟨(n1,c1,q1),hm,(.k [2] [false] [.tmp 4 false] [4] ⟨Fb h7,trivial⟩)⟩
def WO (pu:Af) (n:Nat) (z0:Int):OV:=
 (some (.int .u16 z0))
def WP (pu:Af) (n:Nat) (ih0:AjJ) (z0:Int) (s0:Sl) (z1 z2 z3:Int) (s1 s2:Sl):OV:=
 (ih0 z0 s0 z1 (Aj .i64 (Int.add z2 (1:Int))) z3 s1 s2)
def WQ (pu:Af) (n:Nat) (ih0:AjJ) (z0:Int) (s0:Sl) (z1 z2 z3:Int) (s1 s2:Sl):OV:=
 (bb (AY z2 z1) (oo (EA z2) none λk1=>(bb (an (Nat.blt k1 (Sl.n s0)) true) (oo (AL (Sl.cs s0) (k1*1)) none λv0=>(oo (Bi .i64 v0) none λx0=>(bb (an (Nat.blt k1 (Sl.n s2)) true) (oo (AL (Sl.cs s2) (k1*1)) none λv1=>(oo (Bi .i64 v1) none λx1=>(bb (nt (Bd x0 x1)) (WP pu n ih0 (jF .u16 z0 (QW .u16 (1:Int) k1)) s0 z1 (Int.ofNat k1) z3 s1 s2) (WP pu n ih0 z0 s0 z1 (Int.ofNat k1) z3 s1 s2)))) none))) none)) (WO pu n z0))
def RS (pu:Af) (n w:Nat):AjJ:=
 Nat.rec (motive:=λ_=>AjJ) (λ_ _ _ _ _ _ _=>none) (λ_ ih0=>WQ pu n ih0) w
def AfI (pu:Af) (n:Nat) (x0:Int) (s0 s1:Sl):OV:=
 (RS pu n n (0:Int) s0 (Int.ofNat (Sl.n s0)) (0:Int) x0 s0 s1)
def m51 (pu:Af) (n:Nat) (args:LV):OV:=
 (ll args none λa0 args=>(ll args (oo (Bt a0) none λl0=>(ll l0 none λv0 l0=>(ll l0 none λv1 l0=>(ll l0 none λv2 l0=>(ll l0 (oo (Bi .i64 v0) none λx0=>(oo (Bj 1 v1) none λs0=>(oo (Bj 1 v2) none λs1=>(AfI pu n x0 s0 s1)))) λ_ _=>none))))) λ_ _=>none))
theorem AfJ (pu:Af) (n:Nat) (z0:Int) {v:Value} (hm:WO pu n z0=some v):BN tt (Bb tabs Ir pu (inl pu)) 1 eU (fr 27 [(3,.int .u16 z0)]) FD (Fin tt 1 [.tmp 2] v):=by
 unfold WO at hm
 refine .then (.rK (.ghs (fr 27 [(2,.int .u16 z0)]) FD (.k0 [false] [] [2]) ?_))
 refine .ret ?_
 exact Fp (.int .u16 z0) hm
theorem r51 {call:A8} (pu:Af) (n:Nat) (hcall:call=Bb tabs Ir pu (inl pu)) {args:LV} {v:Value} (hm:m51 pu n args=some v) (_:∀ x∈args,closed2 x=true):args.length≤27∧BN tt call 1 UQ (Fr.made 27 args) (Ao tabs) (Fin tt 1 [.tmp 2] v):=by
 subst hcall
 unfold m51 at hm
 replace hm:=Ad hm;obtain⟨a0,args_0,rfl,hm⟩:=hm
 replace hm:=AC hm;obtain⟨rfl,hm⟩:=hm
 replace hm:=BG hm;obtain⟨l0,rfl,hm⟩:=hm
 replace hm:=Ad hm;obtain⟨v0,l37252_0,rfl,hm⟩:=hm
 replace hm:=Ad hm;obtain⟨v1,l37252_1,rfl,hm⟩:=hm
 replace hm:=Ad hm;obtain⟨v2,l37252_2,rfl,hm⟩:=hm
 replace hm:=AC hm;obtain⟨rfl,hm⟩:=hm
 replace hm:=Ai hm;obtain⟨x0,rfl,hm⟩:=hm
 replace hm:=Al hm;obtain⟨s0,rfl,hm⟩:=hm
 replace hm:=Al hm;obtain⟨s1,rfl,hm⟩:=hm
 unfold AfI at hm
 refine⟨by simp,?_⟩
 refine .same (F':=(fr 27 [(0,(AhC x0 s0 s1))])) (H':=FD) (by kernel_rfl) (by kernel_rfl) ?_
 refine .then (.rK (.ghs (fr 27 [(1,pt 1 0)]) (hT 2 [(Ahr x0 s0 s1)]) (.k0 [false] [.tmp 1 false] [1]) ?_))
 refine .then (.rK (.ghs (fr 27 [(1,pt 1 0),(3,(.int .u16 (0:Int)))]) (hT 2 [(Ahr x0 s0 s1)]) (.k0 [false] [.tmp 1 false] [1,3]) ?_))
 refine .join (v:=v) (λy:Int=>((fr 27 [(3,.int .u16 y)]),FD)) (λy=>WO pu n y) ?_ ?_
 ·rintro z0 hm
  exact AfJ pu n z0 hm
 ·refine .then (.rK (.ghs (fr 27 [(1,pt 1 0),(3,(.int .u16 (0:Int))),(7,Sl.v 1 s0),(8,(Ah6 s0)),(9,(zI (0:Int)))]) (hT 2 [(Ahr x0 s0 s1)]) (.k0 [false] [.tmp 1 false] [1,3,7,8,9]) ?_))
  refine .block (.loopM (v:=v) (λy:Int×Sl×Int×Int×Int×Sl×Sl=>((fr 27 [(1,pt 1 0),(3,(.int .u16 y.1)),(7,(Sl.v 1 y.2.1)),(8,(zI y.2.2.1)),(9,(zI y.2.2.2.1))]),(Ai7 (AaW y) (Acq y) (AcK y)))) (λw y=>RS pu n w y.1 y.2.1 y.2.2.1 y.2.2.2.1 (AaW y) (Acq y) (AcK y)) n ⟨((0:Int),s0,(Int.ofNat (Sl.n s0)),(0:Int),x0,s0,s1),hm,(.k0 [false] [.tmp 1 false] [1,3,7,8,9])⟩ (λ_=>rfl) ?_)
  rintro w0 ⟨z1,s2,z2,z3,z4,s3,s4⟩ hm
  replace hm:WQ pu n (RS pu n w0) z1 s2 z2 z3 z4 s3 s4=some v:=hm
  unfold WQ at hm
  refine .then (.rK (.ghs (fr 27 [(1,pt 1 0),(3,.int .u16 z1),(7,Sl.v 1 s2),(8,zI z2),(9,zI z3),(10,(zB (AY z3 z2)))]) (hT 2 [(Ahr z4 s3 s4)]) (.k0 [false] [.tmp 1 false] [1,3,7,8,9,10]) ?_))
  refine .then ?_
  replace hm:=Ag hm;rcases hm with⟨h0,hm⟩|⟨h0,hm⟩
  ·refine Gq (AY z3 z2) h0 ?_
   refine .skip (.ghs (fr 27 [(1,pt 1 0),(3,.int .u16 z1),(7,Sl.v 1 s2),(8,zI z2),(9,zI z3)]) (hT 2 [(Ahr z4 s3 s4)]) (.k0 [false] [.tmp 1 false] [1,3,7,8,9]) ?_)
   refine .join (v:=v) (λy:Int×Sl×Int×Int×Int×Sl×Sl=>((fr 27 [(1,pt 1 0),(3,(.int .u16 y.1)),(7,(Sl.v 1 y.2.1)),(8,(zI y.2.2.1)),(9,(zI y.2.2.2.1))]),(Ai7 (AaW y) (Acq y) (AcK y)))) (λy=>WP pu n (RS pu n w0) y.1 y.2.1 y.2.2.1 y.2.2.2.1 (AaW y) (Acq y) (AcK y)) ?_ ?_
   ·rintro⟨z5,s5,z6,z7,z8,s6,s7⟩ hm
    unfold WP at hm
    refine .rK ?_
    exact⟨(z5,s5,z6,(AhE z7),z8,s6,s7),hm,(.k0 [false] [.tmp 1 false] [1,3,7,8,9])⟩
   ·refine .block (.then ?_)
    replace⟨k1,h1,hm⟩:=Ab hm
    obtain rfl:=AR h1
    replace⟨h2,hm⟩:=Ae hm
    replace⟨x1,h3,hm⟩:=Hw hm
    refine .reg (eC 1 (keep (hT 2 [(Ahr z4 s3 s4)]) (Aht k1 s2)) (AX h2) (eD (keep (hT 2 [(Ahr z4 s3 s4)]) (AL (Sl.cs s2) (k1*1))) (AZ h3) (eE))) ?_
    refine .ghs (fr 27 [(1,pt 1 0),(3,.int .u16 z1),(4,(zI (Int.ofNat k1))),(5,zI x1),(7,Sl.v 1 s2),(8,zI z2),(9,(zI (Int.ofNat k1)))]) (hT 2 [(Ahr z4 s3 s4)]) (.k0 [false] [.tmp 1 false] [1,3,4,5,7,8,9]) ?_
    refine .then ?_
    replace⟨h4,hm⟩:=Ae hm
    replace⟨x2,h5,hm⟩:=Hw hm
    refine .reg (eC 4 (keep (hT 2 [(Ahr z4 s3 s4)]) (Aht k1 s4)) (AX h4) (eD (keep (hT 2 [(Ahr z4 s3 s4)]) (AL (Sl.cs s4) (k1*1))) (AZ h5) (eE))) ?_
    refine .ghs (fr 27 [(1,pt 1 0),(3,.int .u16 z1),(4,(zI (Int.ofNat k1))),(7,Sl.v 1 s2),(8,zI z2),(9,(zI (Int.ofNat k1))),(20,(zB (nt (Bd x1 x2))))]) (hT 2 [(Ahr z4 s3 s4)]) (.k0 [false] [.tmp 1 false] [1,3,4,7,8,9,20]) ?_
    replace hm:=Ag hm;rcases hm with⟨h6,hm⟩|⟨h6,hm⟩
    ·refine Gq (nt (Bd x1 x2)) h6 ?_
     refine .rK ?_
     exact⟨((jF .u16 z1 (QW .u16 (1:Int) k1)),s2,z2,(Int.ofNat k1),z4,s3,s4),hm,(.k0 [false] [.tmp 1 false] [1,3,7,8,9])⟩
    ·refine Gs (nt (Bd x1 x2)) h6 ?_
     refine .skip ?_
     exact⟨(z1,s2,z2,(Int.ofNat k1),z4,s3,s4),hm,(.k0 [false] [.tmp 1 false] [1,3,7,8,9])⟩
  ·refine Gs (AY z3 z2) h0 ?_
   refine .exit ?_
   exact⟨z1,hm,(.k0 [false] [] [3])⟩
end
end Go.MnSM
