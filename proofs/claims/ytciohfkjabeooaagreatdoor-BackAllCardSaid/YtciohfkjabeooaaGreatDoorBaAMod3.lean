/- Made from wip. -/
import Derived.Test.YtciohfkjabeooaaGreatDoorBaAMod1x

set_option maxRecDepth 100000
set_option maxHeartbeats 20000000
set_option linter.unusedVariables false
namespace Go.BaAM
open Go.Sp Go.BaA
noncomputable section
def UG (pu:Af) (n:Nat) (s0 s1:Sl):OV:=
 (bb (AY (Int.ofNat (Sl.n s0)) (Int.ofNat (Sl.n s1))) (some (.int .i64 (-1:Int))) (some (.int .i64 (0:Int))))
def Po (pu:Af) (n:Nat) (ih0:Sl→Sl→Sl→Int→Int→OV) (s0 s1 s2:Sl) (z0 z1:Int):OV:=
 (bb (AY z1 z0) (oo (EA z1) none fun k1=>(bb (an (Nat.blt k1 (Sl.n s2)) true) (oo (AL (Sl.cs s2) (k1*1)) none fun v0=>(oo (Bi .i64 v0) none fun x0=>(bb (nt (AY (Int.ofNat k1) (Int.ofNat (Sl.n s1)))) (some (.int .i64 (1:Int))) (bb (an (Nat.blt k1 (Sl.n s1)) true) (oo (AL (Sl.cs s1) (k1*1)) none fun v1=>(oo (Bi .i64 v1) none fun x1=>(oo (pu 54 [.int .i64 x0,.int .i64 x1]) none fun v2=>(oo (Bi .i64 v2) none fun x2=>(bb (nt (Bd x2 (0:Int))) (some (.int .i64 x2)) (ih0 s0 s1 s2 z0 (Aj .i64 (Int.add (Int.ofNat k1) (1:Int))))))))) none)))) none)) (UG pu n s0 s1))
def QS (pu:Af) (n w:Nat):Sl→Sl→Sl→Int→Int→OV:=
 Nat.rec (motive:=fun _=>Sl→Sl→Sl→Int→Int→OV) (fun _ _ _ _ _=>none) (fun _ ih0=>Po pu n ih0) w
def Ac2 (pu:Af) (n:Nat) (s0 s1:Sl):OV:=
 (QS pu n n s0 s1 s0 (Int.ofNat (Sl.n s0)) (0:Int))
def m27 (pu:Af) (n:Nat) (args:LV):OV:=
 (ll args none fun a0 args=>(ll args none fun a1 args=>(ll args (oo (Bj 1 a0) none fun s0=>(oo (Bj 1 a1) none fun s1=>(Ac2 pu n s0 s1))) fun _ _=>none)))
theorem Ac4 (pu:Af) (n:Nat) (s0 s1:Sl) {v:Value} (hm:UG pu n s0 s1=some v):BN tt (Bb tabs isP pu (inl pu)) 1 ZH (fr 36 [(0,Sl.v 1 s0),(1,Sl.v 1 s1)]) AO (Fin tt 1 [.tmp 4] v):=by
 unfold UG at hm
 refine .then (.then (.rK (.ghs (fr 36 [(35,(zB (AY (Int.ofNat (Sl.n s0)) (Int.ofNat (Sl.n s1)))))]) AO (.k0 [false] [] [35]) ?_)))
 replace hm:=Ag hm;rcases hm with⟨h0,hm⟩ | ⟨h0,hm⟩
 ·refine C8 (AY (Int.ofNat (Sl.n s0)) (Int.ofNat (Sl.n s1))) h0 ?_
  refine .then (.rK (.ghs (fr 36 [(4,(zI (-1:Int)))]) AO (.k0 [false] [] [4]) ?_))
  refine .ret ?_
  exact Ay (zI (-1:Int)) hm
 ·refine Dn (AY (Int.ofNat (Sl.n s0)) (Int.ofNat (Sl.n s1))) h0 ?_
  refine .skip (.ghs (fr 36 []) AO (.k0 [false] [] []) ?_)
  refine .then (.rK (.ghs (fr 36 [(4,(zI (0:Int)))]) AO (.k0 [false] [] [4]) ?_))
  refine .ret ?_
  exact Ay (zI (0:Int)) hm
theorem r27 {call:A8} (pu:Af) (n:Nat) (hcall:call=Bb tabs isP pu (inl pu)) {args:LV} {v:Value} (hm:m27 pu n args=some v) (_:∀ x∈args,closed2 x=true):args.length≤36∧BN tt call 1 Sg (Fr.made 36 args) (Ao tabs) (Fin tt 1 [.tmp 4] v):=by
 subst hcall
 unfold m27 at hm
 replace hm:=Ad hm;obtain⟨a0,args_0,rfl,hm⟩:=hm
 replace hm:=Ad hm;obtain⟨a1,args_1,rfl,hm⟩:=hm
 replace hm:=AC hm;obtain⟨rfl,hm⟩:=hm
 replace hm:=Al hm;obtain⟨s0,rfl,hm⟩:=hm
 replace hm:=Al hm;obtain⟨s1,rfl,hm⟩:=hm
 unfold Ac2 at hm
 refine⟨by simp,?_⟩
 refine .same (F':=(fr 36 [(0,Sl.v 1 s0),(1,Sl.v 1 s1)])) (H':=AO) (by kernel_rfl) (by kernel_rfl) ?_
 refine .then (.rK (.ghs (fr 36 [(0,Sl.v 1 s0),(1,Sl.v 1 s1)]) AO (.k0 [false] [] [0,1]) ?_))
 refine .join (v:=v) (fun y:Sl×Sl=>((fr 36 [(0,(Sl.v 1 y.1)),(1,(Sl.v 1 y.2))]),AO)) (fun y=>UG pu n y.1 y.2) ?_ ?_
 ·rintro⟨s2,s3⟩ hm
  exact Ac4 pu n s2 s3 hm
 ·refine .then (.rK (.ghs (fr 36 [(0,Sl.v 1 s0),(1,Sl.v 1 s1),(9,Sl.v 1 s0),(10,(zI (Int.ofNat (Sl.n s0)))),(11,(zI (0:Int)))]) AO (.k0 [false] [] [0,1,9,10,11]) ?_))
  refine .block (.loopM (v:=v) (fun y:Sl×Sl×Sl×Int×Int=>((fr 36 [(0,(Sl.v 1 y.1)),(1,(Sl.v 1 y.2.1)),(9,(Sl.v 1 y.2.2.1)),(10,(zI y.2.2.2.1)),(11,(zI y.2.2.2.2))]),AO)) (fun w y=>QS pu n w y.1 y.2.1 y.2.2.1 y.2.2.2.1 y.2.2.2.2) n ⟨(s0,s1,s0,(Int.ofNat (Sl.n s0)),(0:Int)),hm,(.k0 [false] [] [0,1,9,10,11])⟩ (fun _=>rfl) ?_)
  rintro w0 ⟨s4,s5,s6,z0,z1⟩ hm
  replace hm:Po pu n (QS pu n w0) s4 s5 s6 z0 z1=some v:=hm
  unfold Po at hm
  refine .then (.rK (.ghs (fr 36 [(0,Sl.v 1 s4),(1,Sl.v 1 s5),(9,Sl.v 1 s6),(10,zI z0),(11,zI z1),(12,(zB (AY z1 z0)))]) AO (.k0 [false] [] [0,1,9,10,11,12]) ?_))
  refine .then ?_
  replace hm:=Ag hm;rcases hm with⟨h0,hm⟩ | ⟨h0,hm⟩
  ·refine C8 (AY z1 z0) h0 ?_
   refine .skip (.ghs (fr 36 [(0,Sl.v 1 s4),(1,Sl.v 1 s5),(9,Sl.v 1 s6),(10,zI z0),(11,zI z1)]) AO (.k0 [false] [] [0,1,9,10,11]) ?_)
   refine .then (.block (.then ?_))
   replace hm:=Ab hm;obtain⟨k1,h1,hm⟩:=hm
   obtain rfl:=AR h1
   replace hm:=Ae hm;obtain⟨h2,hm⟩:=hm
   replace hm:=Kc hm;obtain⟨x0,h3,hm⟩:=hm
   refine .reg (eC 1 (keep AO (bb (an (Nat.blt k1 (Sl.n s6)) true) (some (Cv (k1*1) (Sl.cs s6))) none)) (AX h2) (eD (keep AO (AL (Sl.cs s6) (k1*1))) (AZ h3) (eE))) ?_
   refine .ghs (fr 36 [(0,Sl.v 1 s4),(1,Sl.v 1 s5),(5,(zI (Int.ofNat k1))),(6,zI x0),(9,Sl.v 1 s6),(10,zI z0),(11,(zI (Int.ofNat k1)))]) AO (.k0 [false] [] [0,1,5,6,9,10,11]) ?_
   refine .then (.then (.rK (.ghs (fr 36 [(0,Sl.v 1 s4),(1,Sl.v 1 s5),(5,(zI (Int.ofNat k1))),(6,zI x0),(9,Sl.v 1 s6),(10,zI z0),(11,(zI (Int.ofNat k1))),(19,(zB (nt (AY (Int.ofNat k1) (Int.ofNat (Sl.n s5))))))]) AO (.k0 [false] [] [0,1,5,6,9,10,11,19]) ?_)))
   replace hm:=Ag hm;rcases hm with⟨h4,hm⟩ | ⟨h4,hm⟩
   ·refine C8 (nt (AY (Int.ofNat k1) (Int.ofNat (Sl.n s5)))) h4 ?_
    refine .then (.rK (.ghs (fr 36 [(4,(zI (1:Int)))]) AO (.k0 [false] [] [4]) ?_))
    refine .ret ?_
    exact Ay (zI (1:Int)) hm
   ·refine Dn (nt (AY (Int.ofNat k1) (Int.ofNat (Sl.n s5)))) h4 ?_
    refine .skip (.ghs (fr 36 [(0,Sl.v 1 s4),(1,Sl.v 1 s5),(5,(zI (Int.ofNat k1))),(6,zI x0),(9,Sl.v 1 s6),(10,zI z0),(11,(zI (Int.ofNat k1)))]) AO (.k0 [false] [] [0,1,5,6,9,10,11]) ?_)
    refine .then ?_
    replace hm:=Ae hm;obtain⟨h5,hm⟩:=hm
    replace hm:=Kc hm;obtain⟨x1,h6,hm⟩:=hm
    refine .reg (eC 2 (keep AO (bb (an (Nat.blt k1 (Sl.n s5)) true) (some (Cv (k1*1) (Sl.cs s5))) none)) (AX h5) (eD (keep AO (AL (Sl.cs s5) (k1*1))) (AZ h6) (eE))) ?_
    refine .ghs (fr 36 [(0,Sl.v 1 s4),(1,Sl.v 1 s5),(6,zI x0),(7,zI x1),(9,Sl.v 1 s6),(10,zI z0),(11,(zI (Int.ofNat k1)))]) AO (.k0 [false] [] [0,1,6,7,9,10,11]) ?_
    refine .then ?_
    replace hm:=Kc hm;obtain⟨x2,h7,hm⟩:=hm
    refine .reg (eC 2 ((oo (pu 54 [zI x0,zI x1]) none fun v=>some (v,AO))) (AB h7) (eE)) ?_
    refine .ghs (fr 36 [(0,Sl.v 1 s4),(1,Sl.v 1 s5),(8,zI x2),(9,Sl.v 1 s6),(10,zI z0),(11,(zI (Int.ofNat k1)))]) AO (.k0 [false] [] [0,1,8,9,10,11]) ?_
    refine .then (.rK (.ghs (fr 36 [(0,Sl.v 1 s4),(1,Sl.v 1 s5),(8,zI x2),(9,Sl.v 1 s6),(10,zI z0),(11,(zI (Int.ofNat k1))),(28,(zB (nt (Bd x2 (0:Int)))))]) AO (.k0 [false] [] [0,1,8,9,10,11,28]) ?_))
    replace hm:=Ag hm;rcases hm with⟨h8,hm⟩ | ⟨h8,hm⟩
    ·refine C8 (nt (Bd x2 (0:Int))) h8 ?_
     refine .then (.rK (.ghs (fr 36 [(4,zI x2)]) AO (.k0 [false] [] [4]) ?_))
     refine .ret ?_
     exact Ay (zI x2) hm
    ·refine Dn (nt (Bd x2 (0:Int))) h8 ?_
     refine .skip (.ghs (fr 36 [(0,Sl.v 1 s4),(1,Sl.v 1 s5),(9,Sl.v 1 s6),(10,zI z0),(11,(zI (Int.ofNat k1)))]) AO (.k0 [false] [] [0,1,9,10,11]) ?_)
     refine .rK ?_
     exact⟨(s4,s5,s6,z0,(Aj .i64 (Int.add (Int.ofNat k1) (1:Int)))),hm,(.k0 [false] [] [0,1,9,10,11])⟩
  ·refine Dn (AY z1 z0) h0 ?_
   refine .exit ?_
   exact⟨(s4,s5),hm,(.k0 [false] [] [0,1])⟩
def Xc (pu:Af) (n n0 c0:Nat) (q0:LV):OV:=
 (bb (Au Ah q0) (bb (an (Nat.ble (0+n0*1) (len q0)) (Au Ah (Aq (n0*1) (Am 0 q0)))) (some (Sl.v 1 (Sl.mk n0 0 (Aq (n0*1) (Am 0 q0))))) none) none)
def Pp (pu:Af) (n:Nat) (ih0:Sl→Nat→Nat→Sl→Int→Int→LV→OV) (s0:Sl) (n0 c0:Nat) (s1:Sl) (z0 z1:Int) (q0:LV):OV:=
 (bb (Au Ah q0) (bb (AY z1 z0) (oo (EA z1) none fun k1=>(bb (an (Nat.blt k1 (Sl.n s1)) true) (oo (AL (Sl.cs s1) (k1*1)) none fun v0=>(oo (Bi .i64 v0) none fun x0=>(oo (EA x0) none fun k2=>(bb (an (Nat.blt k2 (Sl.n s0)) true) (oo (AL (Sl.cs s0) (k2*1)) none fun v1=>(oo (Bi .i64 v1) none fun x1=>(bb (an (Nat.blt k1 n0) true) (bb (an (Nat.ble ((0+k1*1)+1) (len q0)) true) (bb (Au Ah (BM ([.int .i64 x1]:LV) (0+k1*1) q0)) (ih0 s0 n0 c0 s1 z0 (Aj .i64 (Int.add (Int.ofNat k1) (1:Int))) (BM ([.int .i64 x1]:LV) (0+k1*1) q0)) none) none) none))) none)))) none)) (Xc pu n n0 c0 q0)) none)
def OZ (pu:Af) (n w:Nat):Sl→Nat→Nat→Sl→Int→Int→LV→OV:=
 Nat.rec (motive:=fun _=>Sl→Nat→Nat→Sl→Int→Int→LV→OV) (fun _ _ _ _ _ _ _=>none) (fun _ ih0=>Pp pu n ih0) w
def Ac5 (pu:Af) (n:Nat) (p0:Db) (s0:Sl) (x0:Int):OV:=
 (bb (an (Nat.ble (Sl.n s0) (Sl.n s0)) (an (Nat.ble ((Sl.n s0)*8) 1099511627776) (an (Nat.ble (Sl.n s0) 1099511627776) true))) (bb (Au Ah (AF ([(.int .i64 (0:Int))]:LV) (Sl.n s0))) (oo (AL (Db.cs p0) ((Db.off p0)+4)) none fun v0=>(oo (Bj 1 v0) none fun s1=>(oo (EA x0) none fun k1=>(bb (an (Nat.blt k1 (Sl.n s1)) true) (oo (AL (Sl.cs s1) (k1*1)) none fun v1=>(oo (Bj 1 v1) none fun s2=>(OZ pu n n s0 (Sl.n s0) (2*(Sl.n s0)+bb true 1 0) s2 (Int.ofNat (Sl.n s2)) (0:Int) (AF ([(.int .i64 (0:Int))]:LV) (Sl.n s0))))) none)))) none) none)
def m28 (pu:Af) (n:Nat) (args:LV):OV:=
 (ll args none fun a0 args=>(ll args none fun a1 args=>(ll args none fun a2 args=>(ll args (oo (Pv a0) none fun p0=>(oo (Bj 1 a1) none fun s0=>(oo (Bi .i64 a2) none fun x0=>(Ac5 pu n p0 s0 x0)))) fun _ _=>none))))
theorem Ac7 (pu:Af) (n n0 c0:Nat) (q0:LV) {v:Value} (hm:Xc pu n n0 c0 q0=some v):BN tt (Bb tabs isP pu (inl pu)) 1 ZI (fr 35 [(7,sc 1 0 1 n0 c0)]) (hT 2 [oC q0]) (SK tt 1 1 [.tmp 6] v):=by
 unfold Xc at hm
 refine .then (.rK ?_)
 replace hm:=Ae hm;obtain⟨h0,hm⟩:=hm
 refine .ghs (fr 35 [(6,sc 1 0 1 n0 c0)]) (hT 2 [oC q0]) (.k [1] [false] [.tmp 6 false] [6] ⟨BO h0,trivial⟩) ?_
 refine .ret ?_
 replace hm:=Ae hm;obtain⟨h1,hm⟩:=hm
 exact Ng 1 0 c0 n0 [] q0 (by kernel_rfl) (by kernel_rfl) (by kernel_rfl) h1 hm
theorem r28 {call:A8} (pu:Af) (n:Nat) (hcall:call=Bb tabs isP pu (inl pu)) {args:LV} {v:Value} (hm:m28 pu n args=some v) (_:∀ x∈args,closed2 x=true):args.length≤35∧BN tt call 1 Si (Fr.made 35 args) (Ao tabs) (SK tt 1 1 [.tmp 6] v):=by
 subst hcall
 unfold m28 at hm
 replace hm:=Ad hm;obtain⟨a0,args_0,rfl,hm⟩:=hm
 replace hm:=Ad hm;obtain⟨a1,args_1,rfl,hm⟩:=hm
 replace hm:=Ad hm;obtain⟨a2,args_2,rfl,hm⟩:=hm
 replace hm:=AC hm;obtain⟨rfl,hm⟩:=hm
 replace hm:=Ab hm;obtain⟨p0,h0,hm⟩:=hm
 obtain rfl:=F7 h0
 replace hm:=Al hm;obtain⟨s0,rfl,hm⟩:=hm
 replace hm:=Ai hm;obtain⟨x0,rfl,hm⟩:=hm
 unfold Ac5 at hm
 refine⟨by simp,?_⟩
 refine .same (F':=(fr 35 [(0,(Cv (Db.off p0) (Db.cs p0))),(1,Sl.v 1 s0),(2,zI x0)])) (H':=AO) (by kernel_rfl) (by kernel_rfl) ?_
 refine .then (.rK (.ghs (fr 35 [(0,(Cv (Db.off p0) (Db.cs p0))),(1,Sl.v 1 s0),(2,zI x0)]) AO (.k0 [false] [] [0,1,2]) ?_))
 refine .then ?_
 replace hm:=Ae hm;obtain⟨h1,hm⟩:=hm
 refine .reg (eC 2 (bb (an (Nat.ble (Sl.n s0) (Sl.n s0)) (an (Nat.ble ((Sl.n s0)*8) 1099511627776) (an (Nat.ble (Sl.n s0) 1099511627776) true))) (some ((sc 1 0 1 (Sl.n s0) (2*(Sl.n s0)+bb true 1 0)),(hT 2 [(oC (AF ([(zI (0:Int))]:LV) (Sl.n s0)))]))) none) (kH h1) (eE)) ?_
 replace hm:=Ae hm;obtain⟨h2,hm⟩:=hm
 refine .ghs (fr 35 [(0,(Cv (Db.off p0) (Db.cs p0))),(1,Sl.v 1 s0),(2,zI x0),(7,(sc 1 0 1 (Sl.n s0) (2*(Sl.n s0)+bb true 1 0)))]) (hT 2 [(oC (AF ([(zI (0:Int))]:LV) (Sl.n s0)))]) (.k [1] [false] [.tmp 7 false] [0,1,2,7] ⟨BO h2,trivial⟩) ?_
 refine .join (v:=v) (fun y:Nat×Nat×LV=>((fr 35 [(7,(sc 1 0 1 y.1 y.2.1))]),(hT 2 [(oC y.2.2)]))) (fun y=>Xc pu n y.1 y.2.1 y.2.2) ?_ ?_
 ·rintro⟨n0,c0,q0⟩ hm
  exact Ac7 pu n n0 c0 q0 hm
 ·refine .then ?_
  replace hm:=ZC hm;obtain⟨s1,h3,hm⟩:=hm
  replace hm:=Ab hm;obtain⟨k1,h4,hm⟩:=hm
  obtain rfl:=AR h4
  replace hm:=Ae hm;obtain⟨h5,hm⟩:=hm
  replace hm:=ZC hm;obtain⟨s2,h6,hm⟩:=hm
  refine .reg (eC 3 (keep (hT 2 [(oC (AF ([(zI (0:Int))]:LV) (Sl.n s0)))]) (AL (Db.cs p0) ((Db.off p0)+4))) (AZ h3) (eC 1 (keep (hT 2 [(oC (AF ([(zI (0:Int))]:LV) (Sl.n s0)))]) (bb (an (Nat.blt k1 (Sl.n s1)) true) (some (Cv (k1*1) (Sl.cs s1))) none)) (AX h5) (eD (keep (hT 2 [(oC (AF ([(zI (0:Int))]:LV) (Sl.n s0)))]) (AL (Sl.cs s1) (k1*1))) (AZ h6) (eE)))) ?_
  refine .ghs (fr 35 [(1,Sl.v 1 s0),(7,(sc 1 0 1 (Sl.n s0) (2*(Sl.n s0)+bb true 1 0))),(19,Sl.v 1 s2),(20,(zI (Int.ofNat (Sl.n s2)))),(21,(zI (0:Int)))]) (hT 2 [(oC (AF ([(zI (0:Int))]:LV) (Sl.n s0)))]) (.k [1] [false] [.tmp 7 false] [1,7,19,20,21] ⟨BO h2,trivial⟩) ?_
  refine .block (.loopM (v:=v) (fun y:Sl×Nat×Nat×Sl×Int×Int×LV=>((fr 35 [(1,(Sl.v 1 y.1)),(7,(sc 1 0 1 y.2.1 y.2.2.1)),(19,(Sl.v 1 y.2.2.2.1)),(20,(zI y.2.2.2.2.1)),(21,(zI y.2.2.2.2.2.1))]),(hT 2 [(oC y.2.2.2.2.2.2)]))) (fun w y=>OZ pu n w y.1 y.2.1 y.2.2.1 y.2.2.2.1 y.2.2.2.2.1 y.2.2.2.2.2.1 y.2.2.2.2.2.2) n ⟨(s0,(Sl.n s0),(2*(Sl.n s0)+bb true 1 0),s2,(Int.ofNat (Sl.n s2)),(0:Int),(AF ([(zI (0:Int))]:LV) (Sl.n s0))),hm,(.k [1] [false] [.tmp 7 false] [1,7,19,20,21] ⟨BO h2,trivial⟩)⟩ (fun _=>rfl) ?_)
  rintro w0 ⟨s3,n1,c1,s4,z0,z1,q1⟩ hm
  replace hm:Pp pu n (OZ pu n w0) s3 n1 c1 s4 z0 z1 q1=some v:=hm
  unfold Pp at hm
  refine .then (.rK ?_)
  replace hm:=Ae hm;obtain⟨h7,hm⟩:=hm
  refine .ghs (fr 35 [(1,Sl.v 1 s3),(7,sc 1 0 1 n1 c1),(19,Sl.v 1 s4),(20,zI z0),(21,zI z1),(22,(zB (AY z1 z0)))]) (hT 2 [oC q1]) (.k [1] [false] [.tmp 7 false] [1,7,19,20,21,22] ⟨BO h7,trivial⟩) ?_
  refine .then ?_
  replace hm:=Ag hm;rcases hm with⟨h8,hm⟩ | ⟨h8,hm⟩
  ·refine C8 (AY z1 z0) h8 ?_
   refine .skip (.ghs (fr 35 [(1,Sl.v 1 s3),(7,sc 1 0 1 n1 c1),(19,Sl.v 1 s4),(20,zI z0),(21,zI z1)]) (hT 2 [oC q1]) (.k [1] [false] [.tmp 7 false] [1,7,19,20,21] ⟨BO h7,trivial⟩) ?_)
   refine .then (.block (.then ?_))
   replace hm:=Ab hm;obtain⟨k2,h9,hm⟩:=hm
   obtain rfl:=AR h9
   replace hm:=Ae hm;obtain⟨h10,hm⟩:=hm
   replace hm:=Kc hm;obtain⟨x1,h11,hm⟩:=hm
   refine .reg (eC 1 (keep (hT 2 [oC q1]) (bb (an (Nat.blt k2 (Sl.n s4)) true) (some (Cv (k2*1) (Sl.cs s4))) none)) (AX h10) (eD (keep (hT 2 [oC q1]) (AL (Sl.cs s4) (k2*1))) (AZ h11) (eE))) ?_
   refine .ghs (fr 35 [(1,Sl.v 1 s3),(7,sc 1 0 1 n1 c1),(8,(zI (Int.ofNat k2))),(9,zI x1),(19,Sl.v 1 s4),(20,zI z0),(21,(zI (Int.ofNat k2)))]) (hT 2 [oC q1]) (.k [1] [false] [.tmp 7 false] [1,7,8,9,19,20,21] ⟨BO h7,trivial⟩) ?_
   replace hm:=Ab hm;obtain⟨k3,h12,hm⟩:=hm
   obtain rfl:=AR h12
   replace hm:=Ae hm;obtain⟨h13,hm⟩:=hm
   replace hm:=Kc hm;obtain⟨x2,h14,hm⟩:=hm
   replace hm:=Ae hm;obtain⟨h15,hm⟩:=hm
   replace hm:=Ae hm;obtain⟨h16,hm⟩:=hm
   refine .reg (eC 4 (keep (hT 2 [oC q1]) (bb (an (Nat.blt k3 (Sl.n s3)) true) (some (Cv (k3*1) (Sl.cs s3))) none)) (AX h13) (eD (keep (hT 2 [oC q1]) (AL (Sl.cs s3) (k3*1))) (AZ h14) (eD (keep (hT 2 [oC q1]) (bb (an (Nat.blt k2 n1) true) (some (.pointer (some ⟨1,(0+k2*1),none⟩))) none)) (AX h15) (eD (done (bb (an (Nat.ble ((0+k2*1)+1) (len q1)) true) (some (hT 2 [(oC (BM ([zI x2]:LV) (0+k2*1) q1))])) none) undef) (Js h16) (eE))))) ?_
   replace hm:=Ae hm;obtain⟨h17,hm⟩:=hm
   refine .ghs (fr 35 [(1,Sl.v 1 s3),(7,sc 1 0 1 n1 c1),(19,Sl.v 1 s4),(20,zI z0),(21,(zI (Int.ofNat k2)))]) (hT 2 [(oC (BM ([zI x2]:LV) (0+k2*1) q1))]) (.k [1] [false] [.tmp 7 false] [1,7,19,20,21] ⟨BO h17,trivial⟩) ?_
   refine .rK ?_
   exact⟨(s3,n1,c1,s4,z0,(Aj .i64 (Int.add (Int.ofNat k2) (1:Int))),(BM ([zI x2]:LV) (0+k2*1) q1)),hm,(.k [1] [false] [.tmp 7 false] [1,7,19,20,21] ⟨BO h17,trivial⟩)⟩
  ·refine Dn (AY z1 z0) h8 ?_
   refine .exit ?_
   exact⟨(n1,c1,q1),hm,(.k [1] [false] [.tmp 7 false] [7] ⟨BO h7,trivial⟩)⟩

def jJ (pu:Af) (n:Nat) (s0:Sl):OV:=
 (bb (Dp (Nat.beq (Sl.fl s0) 2) (Dp (Nat.beq (Sl.fl s0) 3) (Nat.ble 1 (Sl.n s0)))) (bb (bq true (Nat.beq (Sl.fl s0) 2)) none (bb (Nat.beq (Sl.n s0) 0) none (bb (EQ (0+(Sl.n s0)) 8) (bb (Au Ah (Aq ((Sl.n s0)*1) (Sl.cs s0))) (bb (an (Nat.ble (0+(0+(Sl.n s0))*1) (len (Aq ((Sl.n s0)*1) (Sl.cs s0)))) (Au Ah (Aq ((0+(Sl.n s0))*1) (Am 0 (Aq ((Sl.n s0)*1) (Sl.cs s0)))))) (some (Sl.v 1 (Sl.mk (0+(Sl.n s0)) 0 (Aq ((0+(Sl.n s0))*1) (Am 0 (Aq ((Sl.n s0)*1) (Sl.cs s0))))))) none) none) none))) none)
def m29 (pu:Af) (n:Nat) (args:LV):OV:=
 (ll args none fun a0 args=>(ll args (oo (Bj 1 a0) none fun s0=>(jJ pu n s0)) fun _ _=>none))
theorem r29 {call:A8} (pu:Af) (n:Nat) (hcall:call=Bb tabs isP pu (inl pu)) {args:LV} {v:Value} (hm:m29 pu n args=some v) (_:∀ x∈args,closed2 x=true):args.length≤8∧BN tt call 1 WS (Fr.made 8 args) (Ao tabs) (SK tt 1 1 [.tmp 2] v):=by
 subst hcall
 unfold m29 at hm
 replace hm:=Ad hm;obtain⟨a0,args_0,rfl,hm⟩:=hm
 replace hm:=AC hm;obtain⟨rfl,hm⟩:=hm
 replace hm:=Al hm;obtain⟨s0,rfl,hm⟩:=hm
 unfold jJ at hm
 refine⟨by simp,?_⟩
 refine .same (F':=(fr 8 [(0,Sl.v 1 s0)])) (H':=AO) (by kernel_rfl) (by kernel_rfl) ?_
 refine .then (.rK (.ghs (fr 8 [(0,Sl.v 1 s0)]) AO (.k0 [false] [] [0]) ?_))
 refine .then (.then ?_)
 replace hm:=Ae hm;obtain⟨h0,hm⟩:=hm
 refine .reg (eC 1 (keep AO (wU true 1 s0)) (iV h0) (eE)) ?_
 refine .ghs (fr 8 [(0,Sl.v 1 s0),(4,(zB (bq true (Nat.beq (Sl.fl s0) 2))))]) AO (.k0 [false] [] [0,4]) ?_
 replace hm:=Ag hm;rcases hm with⟨h1,hm⟩ | ⟨h1,hm⟩
 ·refine C8 (bq true (Nat.beq (Sl.fl s0) 2)) h1 ?_
  refine .then (.rK (.ghs (fr 8 [(2,(.slice none 0 0))]) AO (.k0 [false] [] [2]) ?_))
  cases hm
 ·refine Dn (bq true (Nat.beq (Sl.fl s0) 2)) h1 ?_
  refine .skip (.ghs (fr 8 [(0,Sl.v 1 s0)]) AO (.k0 [false] [] [0]) ?_)
  refine .then ?_
  replace hm:=Ag hm;rcases hm with⟨h2,hm⟩ | ⟨h2,hm⟩
  ·cases hm
  ·replace hm:=Ae hm;obtain⟨h3,hm⟩:=hm
   refine .reg (eC 2 (Ql (hT 2 [(oC [])]) 1 8 (sc 1 0 1 0 1) s0) (Zf h2 h3 (by kernel_rfl)) (eE)) ?_
   replace hm:=Ae hm;obtain⟨h4,hm⟩:=hm
   refine .ghs (fr 8 [(2,(sc 1 0 1 (0+(Sl.n s0)) (d2 (0+(Sl.n s0)))))]) (hT 2 [(oC (Aq ((Sl.n s0)*1) (Sl.cs s0)))]) (.k [2] [false] [.tmp 2 false] [2] ⟨BO h4,trivial⟩) ?_
   refine .ret ?_
   replace hm:=Ae hm;obtain⟨h5,hm⟩:=hm
   exact Ng 1 0 (d2 (0+(Sl.n s0))) (0+(Sl.n s0)) [] (Aq ((Sl.n s0)*1) (Sl.cs s0)) (by kernel_rfl) (by kernel_rfl) (by kernel_rfl) h5 hm
def Xd (pu:Af) (n:Nat):OV:=
 (some (.int .i64 (0:Int)))
def cO (pu:Af) (n:Nat) (ih0:Int→Int→Int→Int→Sl→OV) (z0 z1 z2 z3:Int) (s0:Sl):OV:=
 (ih0 (Aj .i64 (Int.add z0 (1:Int))) z1 z2 z3 s0)
def cZ (pu:Af) (n:Nat) (ih0:Int→Int→Int→Int→Sl→OV) (ih1:Int→Int→Int→Int→Int→Sl→OV) (z0 z1 z2 z3 z4:Int) (s0:Sl):OV:=
 (bb (AY z1 (Int.ofNat (Sl.n s0))) (oo (EA z0) none fun k1=>(bb (an (Nat.blt k1 (Sl.n s0)) true) (oo (AL (Sl.cs s0) (k1*1)) none fun v0=>(oo (Bi .i64 v0) none fun x0=>(oo (EA z1) none fun k2=>(bb (an (Nat.blt k2 (Sl.n s0)) true) (oo (AL (Sl.cs s0) (k2*1)) none fun v1=>(oo (Bi .i64 v1) none fun x1=>(oo (pu 57 [.int .i64 x0,.int .i64 x1]) none fun v2=>(oo (CQ v2) none fun l0=>(ll l0 none fun v3 l0=>(ll l0 none fun v4 l0=>(ll l0 (oo (Bi .i64 v3) none fun x2=>(oo (Bi .i64 v4) none fun x3=>(oo (pu 56 [Sl.v 1 s0,.int .i64 x2]) none fun v5=>(oo (Bf v5) none fun b0=>(bb (nt b0) (some (.int .i64 (21:Int))) (ih1 (Int.ofNat k1) (Aj .i64 (Int.add (Int.ofNat k2) (1:Int))) z2 z3 z4 s0)))))) fun _ _=>none))))))) none)))) none)) (cO pu n ih0 z0 z2 z3 z4 s0))
def dA (pu:Af) (n:Nat) (ih0:Int→Int→Int→Int→Sl→OV) (w:Nat):Int→Int→Int→Int→Int→Sl→OV:=
 Nat.rec (motive:=fun _=>Int→Int→Int→Int→Int→Sl→OV) (fun _ _ _ _ _ _=>none) (fun _ ih1=>cZ pu n ih0 ih1) w
def dB (pu:Af) (n:Nat) (ih0:Int→Int→Int→Int→Sl→OV) (z0 z1 z2 z3:Int) (s0:Sl):OV:=
 (bb (AY z0 (Int.ofNat (Sl.n s0))) (dA pu n ih0 n z0 (0:Int) z1 z2 z3 s0) (Xd pu n))
def Pq (pu:Af) (n w:Nat):Int→Int→Int→Int→Sl→OV:=
 Nat.rec (motive:=fun _=>Int→Int→Int→Int→Sl→OV) (fun _ _ _ _ _=>none) (fun _ ih0=>dB pu n ih0) w
def Xe (pu:Af) (n:Nat) (z0 z1 z2:Int) (s0:Sl):OV:=
 (oo (pu 56 [Sl.v 1 s0,(.int .i64 (0:Int))]) none fun v0=>(oo (Bf v0) none fun b0=>(bb (nt b0) (some (.int .i64 (21:Int))) (Pq pu n n (0:Int) z0 z1 z2 s0))))
def O0 (pu:Af) (n:Nat) (ih0:Int→Int→Int→Int→Sl→OV) (z0:Int) (b0:Bool) (z1 z2 z3:Int) (s0:Sl):OV:=
 (bb b0 (some (.int .i64 (7:Int))) (ih0 (Aj .i64 (Int.add z0 (1:Int))) z1 z2 z3 s0))
def Ke (pu:Af) (n:Nat) (ih0:Int→Int→Int→Int→Sl→OV) (z0 z1:Int) (b0:Bool) (z2 z3 z4:Int) (s0:Sl):OV:=
 (bb b0 (some (.int .i64 (8:Int))) (bb (AY (0:Int) z0) (oo (EA (Aj .i64 (Int.sub z0 (1:Int)))) none fun k1=>(bb (an (Nat.blt k1 (Sl.n s0)) true) (oo (AL (Sl.cs s0) (k1*1)) none fun v0=>(oo (Bi .i64 v0) none fun x0=>(O0 pu n ih0 z0 (nt (AY x0 z1)) z2 z3 z4 s0))) none)) (O0 pu n ih0 z0 false z2 z3 z4 s0)))
def UH (pu:Af) (n:Nat) (ih0:Int→Int→Int→Int→Sl→OV) (z0 z1 z2 z3:Int) (s0:Sl):OV:=
 (bb (AY z0 (Int.ofNat (Sl.n s0))) (oo (EA z0) none fun k1=>(bb (an (Nat.blt k1 (Sl.n s0)) true) (oo (AL (Sl.cs s0) (k1*1)) none fun v0=>(oo (Bi .i64 v0) none fun x0=>(oo (pu 55 [.int .i64 x0,(.int .i64 (0:Int)),(.int .i64 (7:Int))]) none fun v1=>(oo (Bf v1) none fun b0=>(bb (nt b0) (some (.int .i64 (2:Int))) (bb (nt (Bd z1 z2)) (bb (Bd x0 (1:Int)) (Ke pu n ih0 (Int.ofNat k1) x0 true z1 z2 z3 s0) (bb (Bd x0 (3:Int)) (Ke pu n ih0 (Int.ofNat k1) x0 true z1 z2 z3 s0) (Ke pu n ih0 (Int.ofNat k1) x0 (AY (5:Int) x0) z1 z2 z3 s0))) (Ke pu n ih0 (Int.ofNat k1) x0 false z1 z2 z3 s0))))))) none)) (Xe pu n z1 z2 z3 s0))
def HV (pu:Af) (n w:Nat):Int→Int→Int→Int→Sl→OV:=
 Nat.rec (motive:=fun _=>Int→Int→Int→Int→Sl→OV) (fun _ _ _ _ _=>none) (fun _ ih0=>UH pu n ih0) w
def K6 (pu:Af) (n:Nat) (b0:Bool) (z0 z1 z2:Int) (s0:Sl):OV:=
 (bb b0 (some (.int .i64 (1:Int))) (HV pu n n (0:Int) z0 z1 z2 s0))
def Ac9 (pu:Af) (n:Nat) (x0 x1 x2:Int) (s0:Sl):OV:=
 (oo (pu 55 [.int .i64 x0,(.int .i64 (1:Int)),(.int .i64 (4:Int))]) none fun v0=>(oo (Bf v0) none fun b0=>(bb (nt b0) (K6 pu n true x0 x1 x2 s0) (oo (pu 55 [.int .i64 x1,(.int .i64 (1:Int)),(.int .i64 (4:Int))]) none fun v1=>(oo (Bf v1) none fun b1=>(bb (nt b1) (K6 pu n true x0 x1 x2 s0) (oo (pu 55 [.int .i64 x2,(.int .i64 (1:Int)),(.int .i64 (4:Int))]) none fun v2=>(oo (Bf v2) none fun b2=>(K6 pu n (nt b2) x0 x1 x2 s0)))))))))
def m30 (pu:Af) (n:Nat) (args:LV):OV:=
 (ll args none fun a0 args=>(ll args (oo (Bt a0) none fun l0=>(ll l0 none fun v0 l0=>(ll l0 none fun v1 l0=>(ll l0 none fun v2 l0=>(ll l0 none fun v3 l0=>(ll l0 (oo (Bi .i64 v0) none fun x0=>(oo (Bi .i64 v1) none fun x1=>(oo (Bi .i64 v2) none fun x2=>(oo (Bj 1 v3) none fun s0=>(Ac9 pu n x0 x1 x2 s0))))) fun _ _=>none)))))) fun _ _=>none))
theorem Adb (pu:Af) (n:Nat) {v:Value} (hm:Xd pu n=some v):BN tt (Bb tabs isP pu (inl pu)) 1 ZJ (fr 106 []) AO (Fin tt 1 [.tmp 2] v):=by
 unfold Xd at hm
 refine .then (.rK (.ghs (fr 106 [(2,(zI (0:Int)))]) AO (.k0 [false] [] [2]) ?_))
 refine .ret ?_
 exact Ay (zI (0:Int)) hm
theorem Adc (pu:Af) (n:Nat) (z0 z1 z2:Int) (s0:Sl) {v:Value} (hm:Xe pu n z0 z1 z2 s0=some v):BN tt (Bb tabs isP pu (inl pu)) 1 ZK (fr 106 [(1,pt 1 0)]) (hT 2 [(oC [zI z0,zI z1,zI z2,Sl.v 1 s0])]) (Fin tt 1 [.tmp 2] v):=by
 unfold Xe at hm
 refine .then (.then ?_)
 replace hm:=QF hm;obtain⟨b0,h0,hm⟩:=hm
 refine .reg (eC 2 ((oo (pu 56 [Sl.v 1 s0,(zI (0:Int))]) none fun v=>some (v,(hT 2 [(oC [zI z0,zI z1,zI z2,Sl.v 1 s0])])))) (AB h0) (eE)) ?_
 refine .ghs (fr 106 [(1,pt 1 0),(72,(zB (nt b0)))]) (hT 2 [(oC [zI z0,zI z1,zI z2,Sl.v 1 s0])]) (.k0 [false] [.tmp 1 false] [1,72]) ?_
 replace hm:=Ag hm;rcases hm with⟨h1,hm⟩ | ⟨h1,hm⟩
 ·refine C8 (nt b0) h1 ?_
  refine .then (.rK (.ghs (fr 106 [(2,(zI (21:Int)))]) AO (.k0 [false] [] [2]) ?_))
  refine .ret ?_
  exact Ay (zI (21:Int)) hm
 ·refine Dn (nt b0) h1 ?_
  refine .skip (.ghs (fr 106 [(1,pt 1 0)]) (hT 2 [(oC [zI z0,zI z1,zI z2,Sl.v 1 s0])]) (.k0 [false] [.tmp 1 false] [1]) ?_)
  refine .join (v:=v) (fun y:Unit=>((fr 106 []),AO)) (fun y=>Xd pu n) ?_ ?_
  ·rintro _ hm
   exact Adb pu n hm
  ·refine .then (.rK (.ghs (fr 106 [(1,pt 1 0),(5,(zI (0:Int)))]) (hT 2 [(oC [zI z0,zI z1,zI z2,Sl.v 1 s0])]) (.k0 [false] [.tmp 1 false] [1,5]) ?_))
   refine .block (.loopM (v:=v) (fun y:Int×Int×Int×Int×Sl=>((fr 106 [(1,pt 1 0),(5,(zI y.1))]),(hT 2 [(oC [(zI y.2.1),(zI y.2.2.1),(zI y.2.2.2.1),(Sl.v 1 y.2.2.2.2)])]))) (fun w y=>Pq pu n w y.1 y.2.1 y.2.2.1 y.2.2.2.1 y.2.2.2.2) n ⟨((0:Int),z0,z1,z2,s0),hm,(.k0 [false] [.tmp 1 false] [1,5])⟩ (fun _=>rfl) ?_)
   rintro w0 ⟨z3,z4,z5,z6,s1⟩ hm
   replace hm:dB pu n (Pq pu n w0) z3 z4 z5 z6 s1=some v:=hm
   unfold dB at hm
   refine .then (.then (.rK (.ghs (fr 106 [(1,pt 1 0),(5,zI z3),(77,(zB (AY z3 (Int.ofNat (Sl.n s1)))))]) (hT 2 [(oC [zI z4,zI z5,zI z6,Sl.v 1 s1])]) (.k0 [false] [.tmp 1 false] [1,5,77]) ?_)))
   replace hm:=Ag hm;rcases hm with⟨h2,hm⟩ | ⟨h2,hm⟩
   ·refine C8 (AY z3 (Int.ofNat (Sl.n s1))) h2 ?_
    refine .skip (.ghs (fr 106 [(1,pt 1 0),(5,zI z3)]) (hT 2 [(oC [zI z4,zI z5,zI z6,Sl.v 1 s1])]) (.k0 [false] [.tmp 1 false] [1,5]) ?_)
    refine .join (v:=v) (fun y:Int×Int×Int×Int×Sl=>((fr 106 [(1,pt 1 0),(5,(zI y.1))]),(hT 2 [(oC [(zI y.2.1),(zI y.2.2.1),(zI y.2.2.2.1),(Sl.v 1 y.2.2.2.2)])]))) (fun y=>cO pu n (Pq pu n w0) y.1 y.2.1 y.2.2.1 y.2.2.2.1 y.2.2.2.2) ?_ ?_
    ·rintro⟨z7,z8,z9,z10,s2⟩ hm
     unfold cO at hm
     refine .rK ?_
     exact⟨((Aj .i64 (Int.add z7 (1:Int))),z8,z9,z10,s2),hm,(.k0 [false] [.tmp 1 false] [1,5])⟩
    ·refine .block (.then (.rK (.ghs (fr 106 [(1,pt 1 0),(5,zI z3),(6,(zI (0:Int)))]) (hT 2 [(oC [zI z4,zI z5,zI z6,Sl.v 1 s1])]) (.k0 [false] [.tmp 1 false] [1,5,6]) ?_)))
     refine .block (.loopM (v:=v) (fun y:Int×Int×Int×Int×Int×Sl=>((fr 106 [(1,pt 1 0),(5,(zI y.1)),(6,(zI y.2.1))]),(hT 2 [(oC [(zI y.2.2.1),(zI y.2.2.2.1),(zI y.2.2.2.2.1),(Sl.v 1 y.2.2.2.2.2)])]))) (fun w y=>dA pu n (Pq pu n w0) w y.1 y.2.1 y.2.2.1 y.2.2.2.1 y.2.2.2.2.1 y.2.2.2.2.2) n ⟨(z3,(0:Int),z4,z5,z6,s1),hm,(.k0 [false] [.tmp 1 false] [1,5,6])⟩ (fun _=>rfl) ?_)
     rintro w1 ⟨z11,z12,z13,z14,z15,s3⟩ hm
     replace hm:cZ pu n (Pq pu n w0) (dA pu n (Pq pu n w0) w1) z11 z12 z13 z14 z15 s3=some v:=hm
     unfold cZ at hm
     refine .then (.then (.rK (.ghs (fr 106 [(1,pt 1 0),(5,zI z11),(6,zI z12),(84,(zB (AY z12 (Int.ofNat (Sl.n s3)))))]) (hT 2 [(oC [zI z13,zI z14,zI z15,Sl.v 1 s3])]) (.k0 [false] [.tmp 1 false] [1,5,6,84]) ?_)))
     replace hm:=Ag hm;rcases hm with⟨h3,hm⟩ | ⟨h3,hm⟩
     ·refine C8 (AY z12 (Int.ofNat (Sl.n s3))) h3 ?_
      refine .skip (.ghs (fr 106 [(1,pt 1 0),(5,zI z11),(6,zI z12)]) (hT 2 [(oC [zI z13,zI z14,zI z15,Sl.v 1 s3])]) (.k0 [false] [.tmp 1 false] [1,5,6]) ?_)
      refine .then (.block (.then ?_))
      replace hm:=Ab hm;obtain⟨k1,h4,hm⟩:=hm
      obtain rfl:=AR h4
      replace hm:=Ae hm;obtain⟨h5,hm⟩:=hm
      replace hm:=Kc hm;obtain⟨x0,h6,hm⟩:=hm
      replace hm:=Ab hm;obtain⟨k2,h7,hm⟩:=hm
      obtain rfl:=AR h7
      replace hm:=Ae hm;obtain⟨h8,hm⟩:=hm
      replace hm:=Kc hm;obtain⟨x1,h9,hm⟩:=hm
      replace hm:=Ab hm;obtain⟨v0,h10,hm⟩:=hm
      replace hm:=Ch hm;obtain⟨l0,rfl,hm⟩:=hm
      replace hm:=Ad hm;obtain⟨v1,l5856_0,rfl,hm⟩:=hm
      replace hm:=Ad hm;obtain⟨v2,l5856_1,rfl,hm⟩:=hm
      replace hm:=AC hm;obtain⟨rfl,hm⟩:=hm
      replace hm:=Ai hm;obtain⟨x2,rfl,hm⟩:=hm
      replace hm:=Ai hm;obtain⟨x3,rfl,hm⟩:=hm
      refine .reg (eC 3 (keep (hT 2 [(oC [zI z13,zI z14,zI z15,Sl.v 1 s3])]) (bb (an (Nat.blt k1 (Sl.n s3)) true) (some (Cv (k1*1) (Sl.cs s3))) none)) (AX h5) (eD (keep (hT 2 [(oC [zI z13,zI z14,zI z15,Sl.v 1 s3])]) (AL (Sl.cs s3) (k1*1))) (AZ h6) (eC 3 (keep (hT 2 [(oC [zI z13,zI z14,zI z15,Sl.v 1 s3])]) (bb (an (Nat.blt k2 (Sl.n s3)) true) (some (Cv (k2*1) (Sl.cs s3))) none)) (AX h8) (eD (keep (hT 2 [(oC [zI z13,zI z14,zI z15,Sl.v 1 s3])]) (AL (Sl.cs s3) (k2*1))) (AZ h9) (eD ((oo (pu 57 [zI x0,zI x1]) none fun v=>some (v,(hT 2 [(oC [zI z13,zI z14,zI z15,Sl.v 1 s3])])))) (AB h10) (eE)))))) ?_
      refine .ghs (fr 106 [(1,pt 1 0),(5,(zI (Int.ofNat k1))),(6,(zI (Int.ofNat k2))),(7,zI x2)]) (hT 2 [(oC [zI z13,zI z14,zI z15,Sl.v 1 s3])]) (.k0 [false] [.tmp 1 false] [1,5,6,7]) ?_
      refine .then ?_
      replace hm:=QF hm;obtain⟨b1,h11,hm⟩:=hm
      refine .reg (eC 3 ((oo (pu 56 [Sl.v 1 s3,zI x2]) none fun v=>some (v,(hT 2 [(oC [zI z13,zI z14,zI z15,Sl.v 1 s3])])))) (AB h11) (eE)) ?_
      refine .ghs (fr 106 [(1,pt 1 0),(5,(zI (Int.ofNat k1))),(6,(zI (Int.ofNat k2))),(105,(zB (nt b1)))]) (hT 2 [(oC [zI z13,zI z14,zI z15,Sl.v 1 s3])]) (.k0 [false] [.tmp 1 false] [1,5,6,105]) ?_
      replace hm:=Ag hm;rcases hm with⟨h12,hm⟩ | ⟨h12,hm⟩
      ·refine C8 (nt b1) h12 ?_
       refine .then (.rK (.ghs (fr 106 [(2,(zI (21:Int)))]) AO (.k0 [false] [] [2]) ?_))
       refine .ret ?_
       exact Ay (zI (21:Int)) hm
      ·refine Dn (nt b1) h12 ?_
       refine .skip (.ghs (fr 106 [(1,pt 1 0),(5,(zI (Int.ofNat k1))),(6,(zI (Int.ofNat k2)))]) (hT 2 [(oC [zI z13,zI z14,zI z15,Sl.v 1 s3])]) (.k0 [false] [.tmp 1 false] [1,5,6]) ?_)
       refine .rK ?_
       exact⟨((Int.ofNat k1),(Aj .i64 (Int.add (Int.ofNat k2) (1:Int))),z13,z14,z15,s3),hm,(.k0 [false] [.tmp 1 false] [1,5,6])⟩
     ·refine Dn (AY z12 (Int.ofNat (Sl.n s3))) h3 ?_
      refine .exit ?_
      exact⟨(z11,z13,z14,z15,s3),hm,(.k0 [false] [.tmp 1 false] [1,5])⟩
   ·refine Dn (AY z3 (Int.ofNat (Sl.n s1))) h2 ?_
    refine .exit ?_
    exact⟨(),hm,(.k0 [false] [] [])⟩
theorem r30 {call:A8} (pu:Af) (n:Nat) (hcall:call=Bb tabs isP pu (inl pu)) {args:LV} {v:Value} (hm:m30 pu n args=some v) (_:∀ x∈args,closed2 x=true):args.length≤106∧BN tt call 1 Sj (Fr.made 106 args) (Ao tabs) (Fin tt 1 [.tmp 2] v):=by
 subst hcall
 unfold m30 at hm
 replace hm:=Ad hm;obtain⟨a0,args_0,rfl,hm⟩:=hm
 replace hm:=AC hm;obtain⟨rfl,hm⟩:=hm
 replace hm:=BG hm;obtain⟨l0,rfl,hm⟩:=hm
 replace hm:=Ad hm;obtain⟨v0,l4955_0,rfl,hm⟩:=hm
 replace hm:=Ad hm;obtain⟨v1,l4955_1,rfl,hm⟩:=hm
 replace hm:=Ad hm;obtain⟨v2,l4955_2,rfl,hm⟩:=hm
 replace hm:=Ad hm;obtain⟨v3,l4955_3,rfl,hm⟩:=hm
 replace hm:=AC hm;obtain⟨rfl,hm⟩:=hm
 replace hm:=Ai hm;obtain⟨x0,rfl,hm⟩:=hm
 replace hm:=Ai hm;obtain⟨x1,rfl,hm⟩:=hm
 replace hm:=Ai hm;obtain⟨x2,rfl,hm⟩:=hm
 replace hm:=Al hm;obtain⟨s0,rfl,hm⟩:=hm
 unfold Ac9 at hm
 refine⟨by simp,?_⟩
 refine .same (F':=(fr 106 [(0,(.agg ⟨[zI x0,zI x1,zI x2,Sl.v 1 s0]⟩))])) (H':=AO) (by kernel_rfl) (by kernel_rfl) ?_
 refine .then (.rK (.ghs (fr 106 [(1,pt 1 0)]) (hT 2 [(oC [zI x0,zI x1,zI x2,Sl.v 1 s0])]) (.k0 [false] [.tmp 1 false] [1]) ?_))
 refine .then (.join (v:=v) (fun y:Bool×Int×Int×Int×Sl=>((fr 106 [(1,pt 1 0),(24,(zB y.1))]),(hT 2 [(oC [(zI y.2.1),(zI y.2.2.1),(zI y.2.2.2.1),(Sl.v 1 y.2.2.2.2)])]))) (fun y=>K6 pu n y.1 y.2.1 y.2.2.1 y.2.2.2.1 y.2.2.2.2) ?_ ?_)
 ·rintro⟨b0,z0,z1,z2,s1⟩ hm
  unfold K6 at hm
  replace hm:=Ag hm;rcases hm with⟨h0,hm⟩ | ⟨h0,hm⟩
  ·refine .ifT b0 (by kernel_rfl) h0 ?_
   refine .then (.rK (.ghs (fr 106 [(2,(zI (1:Int)))]) AO (.k0 [false] [] [2]) ?_))
   refine .ret ?_
   exact Ay (zI (1:Int)) hm
  ·refine .ifF b0 (by kernel_rfl) h0 ?_
   refine .skip (.ghs (fr 106 [(1,pt 1 0)]) (hT 2 [(oC [zI z0,zI z1,zI z2,Sl.v 1 s1])]) (.k0 [false] [.tmp 1 false] [1]) ?_)
   refine .join (v:=v) (fun y:Int×Int×Int×Sl=>((fr 106 [(1,pt 1 0)]),(hT 2 [(oC [(zI y.1),(zI y.2.1),(zI y.2.2.1),(Sl.v 1 y.2.2.2)])]))) (fun y=>Xe pu n y.1 y.2.1 y.2.2.1 y.2.2.2) ?_ ?_
   ·rintro⟨z3,z4,z5,s2⟩ hm
    exact Adc pu n z3 z4 z5 s2 hm
   ·refine .then (.rK (.ghs (fr 106 [(1,pt 1 0),(3,(zI (0:Int)))]) (hT 2 [(oC [zI z0,zI z1,zI z2,Sl.v 1 s1])]) (.k0 [false] [.tmp 1 false] [1,3]) ?_))
    refine .block (.loopM (v:=v) (fun y:Int×Int×Int×Int×Sl=>((fr 106 [(1,pt 1 0),(3,(zI y.1))]),(hT 2 [(oC [(zI y.2.1),(zI y.2.2.1),(zI y.2.2.2.1),(Sl.v 1 y.2.2.2.2)])]))) (fun w y=>HV pu n w y.1 y.2.1 y.2.2.1 y.2.2.2.1 y.2.2.2.2) n ⟨((0:Int),z0,z1,z2,s1),hm,(.k0 [false] [.tmp 1 false] [1,3])⟩ (fun _=>rfl) ?_)
    rintro w0 ⟨z6,z7,z8,z9,s3⟩ hm
    replace hm:UH pu n (HV pu n w0) z6 z7 z8 z9 s3=some v:=hm
    unfold UH at hm
    refine .then (.then (.rK (.ghs (fr 106 [(1,pt 1 0),(3,zI z6),(29,(zB (AY z6 (Int.ofNat (Sl.n s3)))))]) (hT 2 [(oC [zI z7,zI z8,zI z9,Sl.v 1 s3])]) (.k0 [false] [.tmp 1 false] [1,3,29]) ?_)))
    replace hm:=Ag hm;rcases hm with⟨h1,hm⟩ | ⟨h1,hm⟩
    ·refine C8 (AY z6 (Int.ofNat (Sl.n s3))) h1 ?_
     refine .skip (.ghs (fr 106 [(1,pt 1 0),(3,zI z6)]) (hT 2 [(oC [zI z7,zI z8,zI z9,Sl.v 1 s3])]) (.k0 [false] [.tmp 1 false] [1,3]) ?_)
     refine .then (.block (.then ?_))
     replace hm:=Ab hm;obtain⟨k1,h2,hm⟩:=hm
     obtain rfl:=AR h2
     replace hm:=Ae hm;obtain⟨h3,hm⟩:=hm
     replace hm:=Kc hm;obtain⟨x3,h4,hm⟩:=hm
     refine .reg (eC 3 (keep (hT 2 [(oC [zI z7,zI z8,zI z9,Sl.v 1 s3])]) (bb (an (Nat.blt k1 (Sl.n s3)) true) (some (Cv (k1*1) (Sl.cs s3))) none)) (AX h3) (eD (keep (hT 2 [(oC [zI z7,zI z8,zI z9,Sl.v 1 s3])]) (AL (Sl.cs s3) (k1*1))) (AZ h4) (eE))) ?_
     refine .ghs (fr 106 [(1,pt 1 0),(3,(zI (Int.ofNat k1))),(4,zI x3)]) (hT 2 [(oC [zI z7,zI z8,zI z9,Sl.v 1 s3])]) (.k0 [false] [.tmp 1 false] [1,3,4]) ?_
     refine .then (.then ?_)
     replace hm:=QF hm;obtain⟨b1,h5,hm⟩:=hm
     refine .reg (eC 1 ((oo (pu 55 [zI x3,(zI (0:Int)),(zI (7:Int))]) none fun v=>some (v,(hT 2 [(oC [zI z7,zI z8,zI z9,Sl.v 1 s3])])))) (AB h5) (eE)) ?_
     refine .ghs (fr 106 [(1,pt 1 0),(3,(zI (Int.ofNat k1))),(4,zI x3),(39,(zB (nt b1)))]) (hT 2 [(oC [zI z7,zI z8,zI z9,Sl.v 1 s3])]) (.k0 [false] [.tmp 1 false] [1,3,4,39]) ?_
     replace hm:=Ag hm;rcases hm with⟨h6,hm⟩ | ⟨h6,hm⟩
     ·refine C8 (nt b1) h6 ?_
      refine .then (.rK (.ghs (fr 106 [(2,(zI (2:Int)))]) AO (.k0 [false] [] [2]) ?_))
      refine .ret ?_
      exact Ay (zI (2:Int)) hm
     ·refine Dn (nt b1) h6 ?_
      refine .skip (.ghs (fr 106 [(1,pt 1 0),(3,(zI (Int.ofNat k1))),(4,zI x3)]) (hT 2 [(oC [zI z7,zI z8,zI z9,Sl.v 1 s3])]) (.k0 [false] [.tmp 1 false] [1,3,4]) ?_)
      refine .then (.join (v:=v) (fun y:Int×Int×Bool×Int×Int×Int×Sl=>((fr 106 [(1,pt 1 0),(3,(zI y.1)),(4,(zI y.2.1)),(56,(zB y.2.2.1))]),(hT 2 [(oC [(zI y.2.2.2.1),(zI y.2.2.2.2.1),(zI y.2.2.2.2.2.1),(Sl.v 1 y.2.2.2.2.2.2)])]))) (fun y=>Ke pu n (HV pu n w0) y.1 y.2.1 y.2.2.1 y.2.2.2.1 y.2.2.2.2.1 y.2.2.2.2.2.1 y.2.2.2.2.2.2) ?_ ?_)
      ·rintro⟨z10,z11,b2,z12,z13,z14,s4⟩ hm
       unfold Ke at hm
       replace hm:=Ag hm;rcases hm with⟨h7,hm⟩ | ⟨h7,hm⟩
       ·refine .ifT b2 (by kernel_rfl) h7 ?_
        refine .then (.rK (.ghs (fr 106 [(2,(zI (8:Int)))]) AO (.k0 [false] [] [2]) ?_))
        refine .ret ?_
        exact Ay (zI (8:Int)) hm
       ·refine .ifF b2 (by kernel_rfl) h7 ?_
        refine .skip (.ghs (fr 106 [(1,pt 1 0),(3,zI z10),(4,zI z11)]) (hT 2 [(oC [zI z12,zI z13,zI z14,Sl.v 1 s4])]) (.k0 [false] [.tmp 1 false] [1,3,4]) ?_)
        refine .join (v:=v) (fun y:Int×Bool×Int×Int×Int×Sl=>((fr 106 [(1,pt 1 0),(3,(zI y.1)),(68,(zB y.2.1))]),(hT 2 [(oC [(zI y.2.2.1),(zI y.2.2.2.1),(zI y.2.2.2.2.1),(Sl.v 1 y.2.2.2.2.2)])]))) (fun y=>O0 pu n (HV pu n w0) y.1 y.2.1 y.2.2.1 y.2.2.2.1 y.2.2.2.2.1 y.2.2.2.2.2) ?_ ?_
        ·rintro⟨z15,b70,z16,z17,z18,s5⟩ hm
         unfold O0 at hm
         replace hm:=Ag hm;rcases hm with⟨h8,hm⟩ | ⟨h8,hm⟩
         ·refine .ifT b70 (by kernel_rfl) h8 ?_
          refine .then (.rK (.ghs (fr 106 [(2,(zI (7:Int)))]) AO (.k0 [false] [] [2]) ?_))
          refine .ret ?_
          exact Ay (zI (7:Int)) hm
         ·refine .ifF b70 (by kernel_rfl) h8 ?_
          refine .skip (.ghs (fr 106 [(1,pt 1 0),(3,zI z15)]) (hT 2 [(oC [zI z16,zI z17,zI z18,Sl.v 1 s5])]) (.k0 [false] [.tmp 1 false] [1,3]) ?_)
          refine .rK ?_
          exact⟨((Aj .i64 (Int.add z15 (1:Int))),z16,z17,z18,s5),hm,(.k0 [false] [.tmp 1 false] [1,3])⟩
        ·replace hm:=Ag hm;rcases hm with⟨h9,hm⟩ | ⟨h9,hm⟩
         ·replace hm:=Ab hm;obtain⟨k2,h10,hm⟩:=hm
          replace hm:=Ae hm;obtain⟨h11,hm⟩:=hm
          replace hm:=Kc hm;obtain⟨x4,h12,hm⟩:=hm
          refine .reg (eC 1 (some ((zB (AY (0:Int) z10)),(hT 2 [(oC [zI z12,zI z13,zI z14,Sl.v 1 s4])]))) (show _=some ((zB true),_) from (by rw[show (AY (0:Int) z10)=true from h9])) (eC 5 (some ((zI (Aj .i64 (Int.sub z10 (1:Int)))),(hT 2 [(oC [zI z12,zI z13,zI z14,Sl.v 1 s4])]))) (show _=some ((zI (Int.ofNat k2)),_) from (by rw[AR h10])) (eD (keep (hT 2 [(oC [zI z12,zI z13,zI z14,Sl.v 1 s4])]) (bb (an (Nat.blt k2 (Sl.n s4)) true) (some (Cv (k2*1) (Sl.cs s4))) none)) (AX h11) (eD (keep (hT 2 [(oC [zI z12,zI z13,zI z14,Sl.v 1 s4])]) (AL (Sl.cs s4) (k2*1))) (AZ h12) (eE))))) ?_
          exact⟨(z10,(nt (AY x4 z11)),z12,z13,z14,s4),hm,(.k0 [false] [.tmp 1 false] [1,3,68])⟩
         ·refine .reg (eC 1 (some ((zB (AY (0:Int) z10)),(hT 2 [(oC [zI z12,zI z13,zI z14,Sl.v 1 s4])]))) (show _=some ((zB false),_) from (by rw[show (AY (0:Int) z10)=false from h9])) (eE)) ?_
          exact⟨(z10,false,z12,z13,z14,s4),hm,(.k0 [false] [.tmp 1 false] [1,3,68])⟩
      ·replace hm:=Ag hm;rcases hm with⟨h13,hm⟩ | ⟨h13,hm⟩
       ·replace hm:=Ag hm;rcases hm with⟨h14,hm⟩ | ⟨h14,hm⟩
        ·refine .reg (eC 4 (some ((zB (nt (Bd z7 z8))),(hT 2 [(oC [zI z7,zI z8,zI z9,Sl.v 1 s3])]))) (show _=some ((zB true),_) from (by rw[show (nt (Bd z7 z8))=true from h13])) (eC 2 (some ((zB (Bd x3 (1:Int))),(hT 2 [(oC [zI z7,zI z8,zI z9,Sl.v 1 s3])]))) (show _=some ((zB true),_) from (by rw[show (Bd x3 (1:Int))=true from h14])) (eE))) ?_
         exact⟨((Int.ofNat k1),x3,true,z7,z8,z9,s3),hm,(.k0 [false] [.tmp 1 false] [1,3,4,56])⟩
        ·replace hm:=Ag hm;rcases hm with⟨h15,hm⟩ | ⟨h15,hm⟩
         ·refine .reg (eC 4 (some ((zB (nt (Bd z7 z8))),(hT 2 [(oC [zI z7,zI z8,zI z9,Sl.v 1 s3])]))) (show _=some ((zB true),_) from (by rw[show (nt (Bd z7 z8))=true from h13])) (eC 2 (some ((zB (Bd x3 (1:Int))),(hT 2 [(oC [zI z7,zI z8,zI z9,Sl.v 1 s3])]))) (show _=some ((zB false),_) from (by rw[show (Bd x3 (1:Int))=false from h14])) (eC 2 (some ((zB (Bd x3 (3:Int))),(hT 2 [(oC [zI z7,zI z8,zI z9,Sl.v 1 s3])]))) (show _=some ((zB true),_) from (by rw[show (Bd x3 (3:Int))=true from h15])) (eE)))) ?_
          exact⟨((Int.ofNat k1),x3,true,z7,z8,z9,s3),hm,(.k0 [false] [.tmp 1 false] [1,3,4,56])⟩
         ·refine .reg (eC 4 (some ((zB (nt (Bd z7 z8))),(hT 2 [(oC [zI z7,zI z8,zI z9,Sl.v 1 s3])]))) (show _=some ((zB true),_) from (by rw[show (nt (Bd z7 z8))=true from h13])) (eC 2 (some ((zB (Bd x3 (1:Int))),(hT 2 [(oC [zI z7,zI z8,zI z9,Sl.v 1 s3])]))) (show _=some ((zB false),_) from (by rw[show (Bd x3 (1:Int))=false from h14])) (eC 2 (some ((zB (Bd x3 (3:Int))),(hT 2 [(oC [zI z7,zI z8,zI z9,Sl.v 1 s3])]))) (show _=some ((zB false),_) from (by rw[show (Bd x3 (3:Int))=false from h15])) (eE)))) ?_
          exact⟨((Int.ofNat k1),x3,(AY (5:Int) x3),z7,z8,z9,s3),hm,(.k0 [false] [.tmp 1 false] [1,3,4,56])⟩
       ·refine .reg (eC 4 (some ((zB (nt (Bd z7 z8))),(hT 2 [(oC [zI z7,zI z8,zI z9,Sl.v 1 s3])]))) (show _=some ((zB false),_) from (by rw[show (nt (Bd z7 z8))=false from h13])) (eE)) ?_
        exact⟨((Int.ofNat k1),x3,false,z7,z8,z9,s3),hm,(.k0 [false] [.tmp 1 false] [1,3,4,56])⟩
    ·refine Dn (AY z6 (Int.ofNat (Sl.n s3))) h1 ?_
     refine .exit ?_
     exact⟨(z7,z8,z9,s3),hm,(.k0 [false] [.tmp 1 false] [1])⟩
 ·replace hm:=QF hm;obtain⟨b77,h16,hm⟩:=hm
  replace hm:=Ag hm;rcases hm with⟨h17,hm⟩ | ⟨h17,hm⟩
  ·refine .reg (eC 2 ((oo (pu 55 [zI x0,(zI (1:Int)),(zI (4:Int))]) none fun v=>some (v,(hT 2 [(oC [zI x0,zI x1,zI x2,Sl.v 1 s0])])))) (AB h16) (eD (some ((zB (nt b77)),(hT 2 [(oC [zI x0,zI x1,zI x2,Sl.v 1 s0])]))) (show _=some ((zB true),_) from (by rw[show (nt b77)=true from h17])) (eE))) ?_
   exact⟨(true,x0,x1,x2,s0),hm,(.k0 [false] [.tmp 1 false] [1,24])⟩
  ·replace hm:=QF hm;obtain⟨b79,h18,hm⟩:=hm
   replace hm:=Ag hm;rcases hm with⟨h19,hm⟩ | ⟨h19,hm⟩
   ·refine .reg (eC 2 ((oo (pu 55 [zI x0,(zI (1:Int)),(zI (4:Int))]) none fun v=>some (v,(hT 2 [(oC [zI x0,zI x1,zI x2,Sl.v 1 s0])])))) (AB h16) (eD (some ((zB (nt b77)),(hT 2 [(oC [zI x0,zI x1,zI x2,Sl.v 1 s0])]))) (show _=some ((zB false),_) from (by rw[show (nt b77)=false from h17])) (eC 3 ((oo (pu 55 [zI x1,(zI (1:Int)),(zI (4:Int))]) none fun v=>some (v,(hT 2 [(oC [zI x0,zI x1,zI x2,Sl.v 1 s0])])))) (AB h18) (eD (some ((zB (nt b79)),(hT 2 [(oC [zI x0,zI x1,zI x2,Sl.v 1 s0])]))) (show _=some ((zB true),_) from (by rw[show (nt b79)=true from h19])) (eE))))) ?_
    exact⟨(true,x0,x1,x2,s0),hm,(.k0 [false] [.tmp 1 false] [1,24])⟩
   ·replace hm:=QF hm;obtain⟨b100,h20,hm⟩:=hm
    refine .reg (eC 2 ((oo (pu 55 [zI x0,(zI (1:Int)),(zI (4:Int))]) none fun v=>some (v,(hT 2 [(oC [zI x0,zI x1,zI x2,Sl.v 1 s0])])))) (AB h16) (eD (some ((zB (nt b77)),(hT 2 [(oC [zI x0,zI x1,zI x2,Sl.v 1 s0])]))) (show _=some ((zB false),_) from (by rw[show (nt b77)=false from h17])) (eC 3 ((oo (pu 55 [zI x1,(zI (1:Int)),(zI (4:Int))]) none fun v=>some (v,(hT 2 [(oC [zI x0,zI x1,zI x2,Sl.v 1 s0])])))) (AB h18) (eD (some ((zB (nt b79)),(hT 2 [(oC [zI x0,zI x1,zI x2,Sl.v 1 s0])]))) (show _=some ((zB false),_) from (by rw[show (nt b79)=false from h19])) (eC 4 ((oo (pu 55 [zI x2,(zI (1:Int)),(zI (4:Int))]) none fun v=>some (v,(hT 2 [(oC [zI x0,zI x1,zI x2,Sl.v 1 s0])])))) (AB h20) (eE)))))) ?_
    exact⟨((nt b100),x0,x1,x2,s0),hm,(.k0 [false] [.tmp 1 false] [1,24])⟩
def Xf (pu:Af) (n:Nat) (z0:Int):OV:=
 (some (.int .i64 z0))
def Ps (pu:Af) (n:Nat) (ih0:Int→Int→Int→Int→OV) (z0 z1 z2 z3:Int):OV:=
 (bb (AY z3 z1) (ih0 z0 z1 (Aj .i64 (Int.mul z2 z0)) (Aj .i64 (Int.add z3 (1:Int)))) (Xf pu n z2))
def RO (pu:Af) (n w:Nat):Int→Int→Int→Int→OV:=
 Nat.rec (motive:=fun _=>Int→Int→Int→Int→OV) (fun _ _ _ _=>none) (fun _ ih0=>Ps pu n ih0) w
def Ade (pu:Af) (n:Nat) (x0 x1:Int):OV:=
 (RO pu n n x0 x1 (1:Int) (0:Int))
def m31 (pu:Af) (n:Nat) (args:LV):OV:=
 (ll args none fun a0 args=>(ll args none fun a1 args=>(ll args (oo (Bi .i64 a0) none fun x0=>(oo (Bi .i64 a1) none fun x1=>(Ade pu n x0 x1))) fun _ _=>none)))
theorem Adg (pu:Af) (n:Nat) (z0:Int) {v:Value} (hm:Xf pu n z0=some v):BN tt (Bb tabs isP pu (inl pu)) 1 ZL (fr 16 [(5,zI z0)]) AO (Fin tt 1 [.tmp 4] v):=by
 unfold Xf at hm
 refine .then (.rK (.ghs (fr 16 [(4,zI z0)]) AO (.k0 [false] [] [4]) ?_))
 refine .ret ?_
 exact Ay (zI z0) hm
theorem r31 {call:A8} (pu:Af) (n:Nat) (hcall:call=Bb tabs isP pu (inl pu)) {args:LV} {v:Value} (hm:m31 pu n args=some v) (_:∀ x∈args,closed2 x=true):args.length≤16∧BN tt call 1 Sk (Fr.made 16 args) (Ao tabs) (Fin tt 1 [.tmp 4] v):=by
 subst hcall
 unfold m31 at hm
 replace hm:=Ad hm;obtain⟨a0,args_0,rfl,hm⟩:=hm
 replace hm:=Ad hm;obtain⟨a1,args_1,rfl,hm⟩:=hm
 replace hm:=AC hm;obtain⟨rfl,hm⟩:=hm
 replace hm:=Ai hm;obtain⟨x0,rfl,hm⟩:=hm
 replace hm:=Ai hm;obtain⟨x1,rfl,hm⟩:=hm
 unfold Ade at hm
 refine⟨by simp,?_⟩
 refine .same (F':=(fr 16 [(0,zI x0),(1,zI x1)])) (H':=AO) (by kernel_rfl) (by kernel_rfl) ?_
 refine .then (.rK (.ghs (fr 16 [(0,zI x0),(1,zI x1)]) AO (.k0 [false] [] [0,1]) ?_))
 refine .then (.rK (.ghs (fr 16 [(0,zI x0),(1,zI x1),(5,(zI (1:Int)))]) AO (.k0 [false] [] [0,1,5]) ?_))
 refine .join (v:=v) (fun y:Int=>((fr 16 [(5,zI y)]),AO)) (fun y=>Xf pu n y) ?_ ?_
 ·rintro z0 hm
  exact Adg pu n z0 hm
 ·refine .then (.rK (.ghs (fr 16 [(0,zI x0),(1,zI x1),(5,(zI (1:Int))),(6,(zI (0:Int)))]) AO (.k0 [false] [] [0,1,5,6]) ?_))
  refine .block (.loopM (v:=v) (fun y:Int×Int×Int×Int=>((fr 16 [(0,(zI y.1)),(1,(zI y.2.1)),(5,(zI y.2.2.1)),(6,(zI y.2.2.2))]),AO)) (fun w y=>RO pu n w y.1 y.2.1 y.2.2.1 y.2.2.2) n ⟨(x0,x1,(1:Int),(0:Int)),hm,(.k0 [false] [] [0,1,5,6])⟩ (fun _=>rfl) ?_)
  rintro w0 ⟨z1,z2,z3,z4⟩ hm
  replace hm:Ps pu n (RO pu n w0) z1 z2 z3 z4=some v:=hm
  unfold Ps at hm
  refine .then (.then (.rK (.ghs (fr 16 [(0,zI z1),(1,zI z2),(5,zI z3),(6,zI z4),(9,(zB (AY z4 z2)))]) AO (.k0 [false] [] [0,1,5,6,9]) ?_)))
  replace hm:=Ag hm;rcases hm with⟨h0,hm⟩ | ⟨h0,hm⟩
  ·refine C8 (AY z4 z2) h0 ?_
   refine .skip (.ghs (fr 16 [(0,zI z1),(1,zI z2),(5,zI z3),(6,zI z4)]) AO (.k0 [false] [] [0,1,5,6]) ?_)
   refine .then (.block (.rK (.ghs (fr 16 [(0,zI z1),(1,zI z2),(5,(zI (Aj .i64 (Int.mul z3 z1)))),(6,zI z4)]) AO (.k0 [false] [] [0,1,5,6]) ?_)))
   refine .rK ?_
   exact⟨(z1,z2,(Aj .i64 (Int.mul z3 z1)),(Aj .i64 (Int.add z4 (1:Int)))),hm,(.k0 [false] [] [0,1,5,6])⟩
  ·refine Dn (AY z4 z2) h0 ?_
   refine .exit ?_
   exact⟨z3,hm,(.k0 [false] [] [5])⟩
end
end Go.BaAM
