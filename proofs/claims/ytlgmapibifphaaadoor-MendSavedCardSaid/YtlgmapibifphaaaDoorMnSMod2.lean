import Derived.Test.YtlgmapibifphaaaDoorMnSMod0x
set_option maxRecDepth 100000
set_option maxHeartbeats 20000000
set_option linter.unusedVariables false
namespace Go.MnSM
open Go.Sp Go.MnS
noncomputable section
def Yz (pu:Af) (n:Nat):OV:=
 (some (.bool true))
def Wx (pu:Af) (n:Nat) (ih0:Sl→Sl→Int→OV) (s0 s1:Sl) (z0:Int):OV:=
 (bb (AY z0 (Int.ofNat (Sl.n s0))) (oo (EA z0) none λk1=>(bb (an (Nat.blt k1 (Sl.n s0)) true) (oo (AL (Sl.cs s0) (k1*1)) none λv0=>(oo (Bj 1 v0) none λs2=>(bb (an (Nat.blt k1 (Sl.n s1)) true) (oo (AL (Sl.cs s1) (k1*1)) none λv1=>(oo (Bj 1 v1) none λs3=>(oo (pu 26 [Sl.v 1 s2,Sl.v 1 s3]) none λv2=>(oo (Bf v2) none λb0=>(bb (nt b0) (some (.bool false)) (ih0 s0 s1 (Aj .i64 (Int.add (Int.ofNat k1) (1:Int))))))))) none))) none)) (Yz pu n))
def Wy (pu:Af) (n w:Nat):Sl→Sl→Int→OV:=
 Nat.rec (motive:=λ_=>Sl→Sl→Int→OV) (λ_ _ _=>none) (λ_ ih0=>Wx pu n ih0) w
def mP (pu:Af) (n:Nat) (s0 s1:Sl):OV:=
 (bb (nt (Bd (Int.ofNat (Sl.n s0)) (Int.ofNat (Sl.n s1)))) (some (.bool false)) (Wy pu n n s0 s1 (0:Int)))
def m20 (pu:Af) (n:Nat) (args:LV):OV:=
 (ll args none λa0 args=>(ll args none λa1 args=>(ll args (oo (Bj 1 a0) none λs0=>(oo (Bj 1 a1) none λs1=>(mP pu n s0 s1))) λ_ _=>none)))
theorem Afs (pu:Af) (n:Nat) {v:Value} (hm:Yz pu n=some v):BN tt (Bb tabs Ir pu (inl pu)) 1 dU (fr 27 []) FD (Fin tt 1 [.tmp 4] v):=by
 unfold Yz at hm
 refine .then (.rK (.ghs (fr 27 [(4,zB true)]) FD (.k0 [false] [] [4]) ?_))
 refine .ret ?_
 exact Fp (zB true) hm
theorem r20 {call:A8} (pu:Af) (n:Nat) (hcall:call=Bb tabs Ir pu (inl pu)) {args:LV} {v:Value} (hm:m20 pu n args=some v) (_:∀ x∈args,closed2 x=true):args.length≤27∧BN tt call 1 UE (Fr.made 27 args) (Ao tabs) (Fin tt 1 [.tmp 4] v):=by
 subst hcall
 unfold m20 at hm
 replace hm:=Ad hm;obtain⟨a0,args_0,rfl,hm⟩:=hm
 replace hm:=Ad hm;obtain⟨a1,args_1,rfl,hm⟩:=hm
 replace hm:=AC hm;obtain⟨rfl,hm⟩:=hm
 replace hm:=Al hm;obtain⟨s0,rfl,hm⟩:=hm
 replace hm:=Al hm;obtain⟨s1,rfl,hm⟩:=hm
 unfold mP at hm
 refine⟨by simp,?_⟩
 refine .same (F':=(fr 27 (Ai2 s0 s1))) (H':=FD) (by kernel_rfl) (by kernel_rfl) ?_
 refine .then (.rK (.ghs (fr 27 (Ai2 s0 s1)) FD (.k0 [false] [] [0,1]) ?_))
 refine .then (.then (.rK (.ghs (fr 27 [(0,Sl.v 1 s0),(1,Sl.v 1 s1),(10,(zB (Ah7 s0 s1)))]) FD (.k0 [false] [] [0,1,10]) ?_)))
 replace hm:=Ag hm;rcases hm with⟨h0,hm⟩|⟨h0,hm⟩
 ·refine Gq (Ah7 s0 s1) h0 ?_
  refine .then (.rK (.ghs (fr 27 [(4,zB false)]) FD (.k0 [false] [] [4]) ?_))
  refine .ret ?_
  exact Fp (zB false) hm
 ·refine Gs (Ah7 s0 s1) h0 ?_
  refine .skip (.ghs (fr 27 (Ai2 s0 s1)) FD (.k0 [false] [] [0,1]) ?_)
  refine .join (v:=v) (λy:Unit=>((fr 27 []),FD)) (λy=>Yz pu n) ?_ ?_
  ·rintro _ hm
   exact Afs pu n hm
  ·refine .then (.rK (.ghs (fr 27 [(0,Sl.v 1 s0),(1,Sl.v 1 s1),(5,(zI (0:Int)))]) FD (.k0 [false] [] [0,1,5]) ?_))
   refine .block (.loopM (v:=v) (λy:Sl×Sl×Int=>((fr 27 [(0,(Sl.v 1 y.1)),(1,(Sl.v 1 y.2.1)),(5,(zI y.2.2))]),FD)) (λw y=>Wy pu n w y.1 y.2.1 y.2.2) n ⟨(s0,s1,(0:Int)),hm,(.k0 [false] [] [0,1,5])⟩ (λ_=>rfl) ?_)
   rintro w0 ⟨s2,s3,z0⟩ hm
   replace hm:Wx pu n (Wy pu n w0) s2 s3 z0=some v:=hm
   unfold Wx at hm
   refine .then (.then (.rK (.ghs (fr 27 [(0,Sl.v 1 s2),(1,Sl.v 1 s3),(5,zI z0),(14,(zB (Aie z0 s2)))]) FD (.k0 [false] [] [0,1,5,14]) ?_)))
   replace hm:=Ag hm;rcases hm with⟨h1,hm⟩|⟨h1,hm⟩
   ·refine Gq (Aie z0 s2) h1 ?_
    refine .skip (.ghs (fr 27 [(0,Sl.v 1 s2),(1,Sl.v 1 s3),(5,zI z0)]) FD (.k0 [false] [] [0,1,5]) ?_)
    refine .then (.block (.then ?_))
    replace⟨k1,h2,hm⟩:=Ab hm
    obtain rfl:=AR h2
    replace⟨h3,hm⟩:=Ae hm
    replace⟨s4,h4,hm⟩:=Sm hm
    replace⟨h5,hm⟩:=Ae hm
    replace⟨s5,h6,hm⟩:=Sm hm
    replace⟨b0,h7,hm⟩:=bW hm
    refine .reg (eC 2 (keep FD (Aht k1 s2)) (AX h3) (eD (Aia s2 k1) (AZ h4) (eC 2 (keep FD (Aht k1 s3)) (AX h5) (eD (Aia s3 k1) (AZ h6) (eD ((oo (pu 26 [Sl.v 1 s4,Sl.v 1 s5]) none λv=>some (v,FD))) (AB h7) (eE)))))) ?_
    refine .ghs (fr 27 [(0,Sl.v 1 s2),(1,Sl.v 1 s3),(5,(zI (Int.ofNat k1))),(26,(zB (nt b0)))]) FD (.k0 [false] [] [0,1,5,26]) ?_
    replace hm:=Ag hm;rcases hm with⟨h8,hm⟩|⟨h8,hm⟩
    ·refine Gq (nt b0) h8 ?_
     refine .then (.rK (.ghs (fr 27 [(4,zB false)]) FD (.k0 [false] [] [4]) ?_))
     refine .ret ?_
     exact Fp (zB false) hm
    ·refine Gs (nt b0) h8 ?_
     refine .skip (.ghs (fr 27 [(0,Sl.v 1 s2),(1,Sl.v 1 s3),(5,(zI (Int.ofNat k1)))]) FD (.k0 [false] [] [0,1,5]) ?_)
     refine .rK ?_
     exact⟨(s2,s3,(AhP k1)),hm,(.k0 [false] [] [0,1,5])⟩
   ·refine Gs (Aie z0 s2) h1 ?_
    refine .exit ?_
    exact⟨(),hm,(.k0 [false] [] [])⟩
def SF (pu:Af) (n:Nat) (z0 z1:Int) (n0 c0 n1 c1:Nat) (q0:LV) (q1:LV):OV:=
 (bb (Au Ah q0) (bb (Au Ah q1) (bb (an (Nat.ble (0+n0*1) (len q0)) (Au Ah (Aq (n0*1) (Am 0 q0)))) (bb (an (Nat.ble (0+n1*1) (len q1)) (Au Ah (Aq (n1*1) (Am 0 q1)))) (some (.agg ⟨[.int .i64 z1,(Sl.v 1 (Sl.mk n0 0 (Aq (n0*1) (Am 0 q0)))),(Sl.v 1 (Sl.mk n1 0 (Aq (n1*1) (Am 0 q1))))]⟩)) none) none) none) none)
def QM (pu:Af) (n:Nat) (ih0:AjA) (n0 c0:Nat) (z0:Int) (q0:LV) (z1 z2:Int) (n1 c1 n2 c2:Nat) (q1:LV) (q2:LV) (q3:LV):OV:=
 (bb (Au Ah q0) (bb (Au Ah q1) (bb (Au Ah q2) (bb (Au Ah q3) (bb (AY (0:Int) (Int.ofNat n0)) (oo (EA z0) none λk1=>(bb (Nat.blt k1 10) (oo (AL q0 (12+k1*1)) none λv0=>(oo (Bi .u8 v0) none λx0=>(bb (nt (Bd (Int.ofNat n0) (0:Int))) (oo (EA (Int.tmod (Aj .i64 x0) (Int.ofNat n0))) none λk2=>(bb (an (Nat.blt k2 n0) true) (oo (AL q1 (0+k2*1)) none λv1=>(oo (Bi .i64 v1) none λx1=>(bb (GV 1 8 n1 c1 1 q2) (bb (Au Ah (Br (Am 0 q2) [.int .i64 x1])) (oo (EA (Int.tmod (Aj .i64 x0) (Int.ofNat n0))) none λk3=>(bb (Nat.ble k3 (c0 / 2)) (oo (EA (Aj .i64 (Int.add (Int.tmod (Aj .i64 x0) (Int.ofNat n0)) (1:Int)))) none λk4=>(bb (Nat.ble k4 n0) (bb (Nat.ble (0+k3*1) (len q1)) (bb (Nat.beq (Sl.n (Sl.mk k3 0 (Aq (k3*1) (Am 0 q1)))) 0) (bb (Nat.ble ((0+k4*1)+(n0 - k4)*1) (len q1)) (bb (Nat.beq (Sl.n (Sl.mk (n0 - k4) 0 (Aq ((n0 - k4)*1) (Am (0+k4*1) q1)))) 0) (ih0 0 1 (Aj .i64 (Int.add (Int.ofNat k1) (1:Int))) q0 z1 z2 (n1+1) (2*(n1+1)+bb false 1 0) n2 c2 ([]:LV) (Br (Am 0 q2) [.int .i64 x1]) q3) (bb (EQ (0+(Sl.n (Sl.mk (n0 - k4) 0 (Aq ((n0 - k4)*1) (Am (0+k4*1) q1))))) 8) (bb (Au Ah (Aq ((Sl.n (Sl.mk (n0 - k4) 0 (Aq ((n0 - k4)*1) (Am (0+k4*1) q1))))*1) (Sl.cs (Sl.mk (n0 - k4) 0 (Aq ((n0 - k4)*1) (Am (0+k4*1) q1)))))) (ih0 (0+(Sl.n (Sl.mk (n0 - k4) 0 (Aq ((n0 - k4)*1) (Am (0+k4*1) q1))))) (2*(0+(Sl.n (Sl.mk (n0 - k4) 0 (Aq ((n0 - k4)*1) (Am (0+k4*1) q1)))))+bb false 1 0) (Aj .i64 (Int.add (Int.ofNat k1) (1:Int))) q0 z1 z2 (n1+1) (2*(n1+1)+bb false 1 0) n2 c2 (Aq ((Sl.n (Sl.mk (n0 - k4) 0 (Aq ((n0 - k4)*1) (Am (0+k4*1) q1))))*1) (Sl.cs (Sl.mk (n0 - k4) 0 (Aq ((n0 - k4)*1) (Am (0+k4*1) q1))))) (Br (Am 0 q2) [.int .i64 x1]) q3) none) none)) none) (bb (EQ (0+(Sl.n (Sl.mk k3 0 (Aq (k3*1) (Am 0 q1))))) 8) (bb (Nat.ble ((0+k4*1)+(n0 - k4)*1) (len q1)) (bb (Nat.beq (Sl.n (Sl.mk (n0 - k4) 0 (Aq ((n0 - k4)*1) (Am (0+k4*1) q1)))) 0) (bb (Au Ah (Aq ((Sl.n (Sl.mk k3 0 (Aq (k3*1) (Am 0 q1))))*1) (Sl.cs (Sl.mk k3 0 (Aq (k3*1) (Am 0 q1)))))) (ih0 (0+(Sl.n (Sl.mk k3 0 (Aq (k3*1) (Am 0 q1))))) (2*(0+(Sl.n (Sl.mk k3 0 (Aq (k3*1) (Am 0 q1)))))+bb false 1 0) (Aj .i64 (Int.add (Int.ofNat k1) (1:Int))) q0 z1 z2 (n1+1) (2*(n1+1)+bb false 1 0) n2 c2 (Aq ((Sl.n (Sl.mk k3 0 (Aq (k3*1) (Am 0 q1))))*1) (Sl.cs (Sl.mk k3 0 (Aq (k3*1) (Am 0 q1))))) (Br (Am 0 q2) [.int .i64 x1]) q3) none) (bb (an (Au D6 (Aq ((Sl.n (Sl.mk (n0 - k4) 0 (Aq ((n0 - k4)*1) (Am (0+k4*1) q1))))*1) (Sl.cs (Sl.mk (n0 - k4) 0 (Aq ((n0 - k4)*1) (Am (0+k4*1) q1)))))) (GV 1 8 (0+(Sl.n (Sl.mk k3 0 (Aq (k3*1) (Am 0 q1))))) (2*(0+(Sl.n (Sl.mk k3 0 (Aq (k3*1) (Am 0 q1)))))+bb false 1 0) (Sl.n (Sl.mk (n0 - k4) 0 (Aq ((n0 - k4)*1) (Am (0+k4*1) q1)))) (Aq ((Sl.n (Sl.mk k3 0 (Aq (k3*1) (Am 0 q1))))*1) (Sl.cs (Sl.mk k3 0 (Aq (k3*1) (Am 0 q1))))))) (bb (Au Ah (Br (Am 0 (Aq ((Sl.n (Sl.mk k3 0 (Aq (k3*1) (Am 0 q1))))*1) (Sl.cs (Sl.mk k3 0 (Aq (k3*1) (Am 0 q1)))))) (Aq ((Sl.n (Sl.mk (n0 - k4) 0 (Aq ((n0 - k4)*1) (Am (0+k4*1) q1))))*1) (Sl.cs (Sl.mk (n0 - k4) 0 (Aq ((n0 - k4)*1) (Am (0+k4*1) q1))))))) (ih0 ((0+(Sl.n (Sl.mk k3 0 (Aq (k3*1) (Am 0 q1)))))+(Sl.n (Sl.mk (n0 - k4) 0 (Aq ((n0 - k4)*1) (Am (0+k4*1) q1))))) (2*((0+(Sl.n (Sl.mk k3 0 (Aq (k3*1) (Am 0 q1)))))+(Sl.n (Sl.mk (n0 - k4) 0 (Aq ((n0 - k4)*1) (Am (0+k4*1) q1)))))+bb false 1 0) (Aj .i64 (Int.add (Int.ofNat k1) (1:Int))) q0 z1 z2 (n1+1) (2*(n1+1)+bb false 1 0) n2 c2 (Br (Am 0 (Aq ((Sl.n (Sl.mk k3 0 (Aq (k3*1) (Am 0 q1))))*1) (Sl.cs (Sl.mk k3 0 (Aq (k3*1) (Am 0 q1)))))) (Aq ((Sl.n (Sl.mk (n0 - k4) 0 (Aq ((n0 - k4)*1) (Am (0+k4*1) q1))))*1) (Sl.cs (Sl.mk (n0 - k4) 0 (Aq ((n0 - k4)*1) (Am (0+k4*1) q1)))))) (Br (Am 0 q2) [.int .i64 x1]) q3) none) none)) none) none)) none) none)) none)) none) none))) none)) none))) none)) (SF pu n z1 z2 n1 c1 n2 c2 q2 q3)) none) none) none) none)
def SG (pu:Af) (n w:Nat):AjA:=
 Nat.rec (motive:=λ_=>AjA) (λ_ _ _ _ _ _ _ _ _ _ _ _ _=>none) (λ_ ih0=>QM pu n ih0) w
def SI (pu:Af) (n n0 c0:Nat) (q0:LV) (z0 z1:Int) (n1 c1:Nat) (q1:LV) (q2:LV):OV:=
 (bb (Au Ah q0) (bb (Au Ah q1) (bb (Au Ah q2) (SG pu n n n0 c0 (0:Int) q0 z0 z1 0 0 n1 c1 q1 ([]:LV) q2) none) none) none)
def QN (pu:Af) (n:Nat) (ih0:AjG) (n0 c0:Nat) (z0 z1:Int) (q0:LV) (z2 z3:Int) (n1 c1:Nat) (q1:LV) (q2:LV):OV:=
 (bb (Au Ah q0) (bb (Au Ah q1) (bb (Au Ah q2) (bb (AY z1 z0) (oo (EA z1) none λk1=>(bb (Nat.blt k1 10) (oo (AL q0 (2+k1*1)) none λv0=>(oo (Bi .u8 v0) none λx0=>(bb (nt (Bd z3 (0:Int))) (bb (GV 1 8 n1 c1 1 q2) (bb (Au Ah (Br (Am 0 q2) [(.int .i64 (Int.tmod (Aj .i64 x0) z3))])) (bb (an (Nat.blt k1 (n1+1)) true) (oo (AL (Br (Am 0 q2) [(.int .i64 (Int.tmod (Aj .i64 x0) z3))]) (0+k1*1)) none λv1=>(oo (Bi .i64 v1) none λx1=>(bb (GV 1 8 n0 c0 1 q1) (bb (Au Ah (Br (Am 0 q1) [.int .i64 x1])) (ih0 (n0+1) (2*(n0+1)+bb false 1 0) z0 (Aj .i64 (Int.add (Int.ofNat k1) (1:Int))) q0 z2 z3 (n1+1) (2*(n1+1)+bb false 1 0) (Br (Am 0 q1) [.int .i64 x1]) (Br (Am 0 q2) [(.int .i64 (Int.tmod (Aj .i64 x0) z3))])) none) none))) none) none) none) none))) none)) (SI pu n n0 c0 q0 z2 z3 n1 c1 q1 q2)) none) none) none)
def SK (pu:Af) (n w:Nat):AjG:=
 Nat.rec (motive:=λ_=>AjG) (λ_ _ _ _ _ _ _ _ _ _ _=>none) (λ_ ih0=>QN pu n ih0) w
def fQ (pu:Af) (n:Nat) (q0:LV) (x0 x1:Int):OV:=
 (bb (Au Ah q0) (oo (AL q0 0) none λv0=>(oo (Bi .u8 v0) none λx2=>(bb (nt (Bd x1 (0:Int))) (oo (AL q0 1) none λv1=>(oo (Bi .u8 v1) none λx3=>(bb (nt (Bd x0 (0:Int))) (SK pu n n 0 0 (Aj .i64 (Int.add (1:Int) (Int.tmod (Aj .i64 x3) x0))) (0:Int) q0 (0:Int) (Aj .i64 (Int.add (1:Int) (Int.tmod (Aj .i64 x2) x1))) 0 0 ([]:LV) ([]:LV)) none))) none))) none)
def m21 (pu:Af) (n:Nat) (args:LV):OV:=
 (ll args none λa0 args=>(ll args none λa1 args=>(ll args none λa2 args=>(ll args (oo (Bt a0) none λq0=>(bb (an (Nat.beq (len q0) 22) (Au Ah q0)) (oo (Bi .i64 a1) none λx0=>(oo (Bi .i64 a2) none λx1=>(fQ pu n q0 x0 x1))) none)) λ_ _=>none))))
theorem Afu (pu:Af) (n:Nat) (z0 z1:Int) (n0 c0 n1 c1:Nat) (q0:LV) (q1:LV) {v:Value} (hm:SF pu n z0 z1 n0 c0 n1 c1 q0 q1=some v):BN tt (Bb tabs Ir pu (inl pu)) 1 dV (fr 83 [(6,pt 1 0),(7,(pt 2 0))]) (hT 5 [(oC [zI z0,(.slice none 0 0),(.slice none 0 0)]),(oC [zI z1,sc 3 0 1 n0 c0,sc 4 0 1 n1 c1]),oC q0,oC q1]) (Fin tt 1 [.cell 6 24] v):=by
 unfold SF at hm
 refine .then (.rK ?_)
 replace⟨h0,hm⟩:=Ae hm
 replace⟨h1,hm⟩:=Ae hm
 refine .ghs (fr 83 [(6,pt 1 0)]) (hT 4 [(oC [zI z1,sc 2 0 1 n0 c0,sc 3 0 1 n1 c1]),oC q0,oC q1]) (.k [3,4] [false] [.tmp 6 true,.cell 1 1 false,.cell 1 2 false] [6] ⟨Fb h0,Fb h1,trivial⟩) ?_
 refine .ret ?_
 replace⟨h2,hm⟩:=Ae hm
 replace⟨h3,hm⟩:=Ae hm
 exact Uc (.agg ⟨[zI z1,sc 2 0 1 n0 c0,sc 3 0 1 n1 c1]⟩) (.agg ⟨[zI z1,(Sl.v 1 (Ahx n0 q0)),(Sl.v 1 (Ahx n1 q1))]⟩) (by kernel_rfl) (FU.agg (.cons (FU.refl _ _ _) (.cons (FU.frz (v':=(Sl.v 1 (Ahx n0 q0))) (H1:=(hT 4 [(oC [zI z1,sc 2 0 1 n0 c0,sc 3 0 1 n1 c1]),.dead,oC q1])) 1 false (Aij n0 q0) (by kernel_rfl) (by kernel_rfl) h2) (.cons (FU.frz (v':=(Sl.v 1 (Ahx n1 q1))) (H1:=(hT 4 [(oC [zI z1,sc 2 0 1 n0 c0,sc 3 0 1 n1 c1]),.dead,.dead])) 1 false (Aij n1 q1) (by kernel_rfl) (by kernel_rfl) h3) (Mr.nil _))))) (by kernel_rfl) hm
theorem Afv (pu:Af) (n n0 c0:Nat) (q0:LV) (z0 z1:Int) (n1 c1:Nat) (q1:LV) (q2:LV) {v:Value} (hm:SI pu n n0 c0 q0 z0 z1 n1 c1 q1 q2=some v):BN tt (Bb tabs Ir pu (inl pu)) 1 dX (fr 83 [(3,pt 1 0),(6,(pt 2 0)),(7,(pt 3 0)),(8,sc 4 0 1 n0 c0)]) (hT 6 [oC q0,(oC [zI z0,(.slice none 0 0),(.slice none 0 0)]),(oC [zI z1,(.slice none 0 0),sc 5 0 1 n1 c1]),oC q1,oC q2]) (Fin tt 1 [.cell 6 24] v):=by
 unfold SI at hm
 refine .join (v:=v) (λy:Int×Int×Nat×Nat×Nat×Nat×LV×LV=>((fr 83 [(6,pt 1 0),(7,(pt 2 0))]),(hT 5 [(AiY y.1),(oC [(zI y.2.1),(sc 3 0 1 y.2.2.1 y.2.2.2.1),(sc 4 0 1 (AaW y) (Acq y))]),(oC (Ac3 y)),(oC (Adc y))]))) (λy=>SF pu n y.1 y.2.1 y.2.2.1 y.2.2.2.1 (AaW y) (Acq y) (Ac3 y) (Adc y)) ?_ ?_
 ·rintro⟨z2,z3,n2,c3,n3,c4,q3,q4⟩ hm
  exact Afu pu n z2 z3 n2 c3 n3 c4 q3 q4 hm
 ·refine .then (.rK ?_)
  replace⟨h0,hm⟩:=Ae hm
  replace⟨h1,hm⟩:=Ae hm
  replace⟨h2,hm⟩:=Ae hm
  refine .ghs (fr 83 [(3,pt 1 0),(6,(pt 2 0)),(7,(pt 3 0)),(8,sc 4 0 1 n0 c0),(10,(zI (0:Int)))]) (Ail q0 z0 z1 n1 c1 q1 q2) (.k [1,4,5] [false] AhQ [3,6,7,8,10] ⟨Fb h0,Fb h1,Fb h2,trivial⟩) ?_
  refine .block (.loopM (v:=v) (λy:Nat×Nat×Int×LV×Int×Int×Nat×Nat×Nat×Nat×LV×LV×LV=>((fr 83 [(3,pt 1 0),(6,(pt 2 0)),(7,(pt 3 0)),(8,(sc 4 0 1 y.1 y.2.1)),(10,(zI y.2.2.1))]),(hT 7 [(oC y.2.2.2.1),(AiY (AaW y)),(oC [(zI (Acq y)),(sc 5 0 1 (Ac3 y) (Ac4 y)),(sc 6 0 1 (Ac5 y) (Ac7 y))]),(oC (Ac8 y)),(oC (Ac9 y)),(oC (Ada y))]))) (λw y=>SG pu n w y.1 y.2.1 y.2.2.1 y.2.2.2.1 (AaW y) (Acq y) (Ac3 y) (Ac4 y) (Ac5 y) (Ac7 y) (Ac8 y) (Ac9 y) (Ada y)) n ⟨(n0,c0,(0:Int),q0,z0,z1,0,0,n1,c1,q1,([]:LV),q2),hm,(.thawC 3 1 1 [zI z1,(.slice none 0 0),sc 5 0 1 n1 c1] (imm:=false) (spent:=false) (anc:=[]) (by kernel_rfl) (by kernel_rfl) (by kernel_rfl) (by kernel_rfl) (.k [1,4,5] [false] AhD [3,6,7,8,10] ⟨Fb h0,Fb h1,Fb h2,trivial⟩))⟩ (λ_=>rfl) ?_)
  rintro w0 ⟨n4,c5,z4,q5,z5,z6,n5,c6,n6,c7,q6,q7,q8⟩ hm
  replace hm:QM pu n (SG pu n w0) n4 c5 z4 q5 z5 z6 n5 c6 n6 c7 q6 q7 q8=some v:=hm
  unfold QM at hm
  refine .then (.then (.rK ?_))
  replace⟨h3,hm⟩:=Ae hm
  replace⟨h4,hm⟩:=Ae hm
  replace⟨h5,hm⟩:=Ae hm
  replace⟨h6,hm⟩:=Ae hm
  refine .ghs (fr 83 [(3,pt 1 0),(6,(pt 2 0)),(7,(pt 3 0)),(8,sc 4 0 1 n4 c5),(10,zI z4),(52,(zB (AiW n4)))]) (Ah1 q5 z5 z6 n5 c6 n6 c7 q6 q7 q8) (.k [1,4,5,6] [false] AhD [3,6,7,8,10,52] ⟨Fb h3,Fb h4,Fb h5,Fb h6,trivial⟩) ?_
  replace hm:=Ag hm;rcases hm with⟨h7,hm⟩|⟨h7,hm⟩
  ·refine Gq (AiW n4) h7 ?_
   refine .skip (.ghs (fr 83 [(3,pt 1 0),(6,(pt 2 0)),(7,(pt 3 0)),(8,sc 4 0 1 n4 c5),(10,zI z4)]) (Ah1 q5 z5 z6 n5 c6 n6 c7 q6 q7 q8) (.k [1,4,5,6] [false] AhD [3,6,7,8,10] ⟨Fb h3,Fb h4,Fb h5,Fb h6,trivial⟩) ?_)
   refine .then (.block (.then ?_))
   replace⟨k1,h8,hm⟩:=Ab hm
   obtain rfl:=AR h8
   replace⟨h9,hm⟩:=Ae hm
   replace⟨x0,h10,hm⟩:=Hw hm
   replace⟨h11,hm⟩:=Ae hm
   refine .reg (eC 2 (keep (Ah1 q5 z5 z6 n5 c6 n6 c7 q6 q7 q8) (bb (Nat.blt k1 10) (some (.pointer (some ⟨1,(12+k1*1),none⟩))) none)) (AX h9) (eD (keep (Ah1 q5 z5 z6 n5 c6 n6 c7 q6 q7 q8) (AL q5 (12+k1*1))) (AZ h10) (eC 3 (keep (Ah1 q5 z5 z6 n5 c6 n6 c7 q6 q7 q8) (bb (Bd (Int.ofNat n4) (0:Int)) none (some (zI (Int.tmod (Aj .i64 x0) (Int.ofNat n4)))))) (XH h11) (eE)))) ?_
   refine .ghs (fr 83 [(3,pt 1 0),(6,(pt 2 0)),(7,(pt 3 0)),(8,sc 4 0 1 n4 c5),(10,(zI (Int.ofNat k1))),(11,(zI (Int.tmod (Aj .i64 x0) (Int.ofNat n4))))]) (Ah1 q5 z5 z6 n5 c6 n6 c7 q6 q7 q8) (.k [1,4,5,6] [false] AhD [3,6,7,8,10,11] ⟨Fb h3,Fb h4,Fb h5,Fb h6,trivial⟩) ?_
   refine .then ?_
   replace⟨k2,h12,hm⟩:=Ab hm
   replace⟨h13,hm⟩:=Ae hm
   replace⟨x1,h14,hm⟩:=Hw hm
   replace⟨h15,hm⟩:=Ae hm
   refine .reg (eC 3 (some ((zI (Int.tmod (Aj .i64 x0) (Int.ofNat n4))),(Ah1 q5 z5 z6 n5 c6 n6 c7 q6 q7 q8))) (show _=some ((zI (Int.ofNat k2)),_) from (by rw[AR h12])) (eD (keep (Ah1 q5 z5 z6 n5 c6 n6 c7 q6 q7 q8) (bb (an (Nat.blt k2 n4) true) (some (.pointer (some ⟨4,(0+k2*1),none⟩))) none)) (AX h13) (eD (keep (Ah1 q5 z5 z6 n5 c6 n6 c7 q6 q7 q8) (AL q6 (0+k2*1))) (AZ h14) (eC 1 (Oc 1 8 n5 c6 1 5 q7 [zI x1] [] (hT 8 [oC q5,(AhA z5),(oC [zI z6,sc 5 0 1 n5 c6,sc 6 0 1 n6 c7]),oC q6,oC q7,oC q8,(oC [zI x1])])) (I1 h15) (eE))))) ?_
   replace⟨h16,hm⟩:=Ae hm
   refine .ghs (fr 83 [(3,pt 1 0),(6,(pt 2 0)),(7,(pt 3 0)),(8,sc 4 0 1 n4 c5),(10,(zI (Int.ofNat k1))),(11,(zI (Int.tmod (Aj .i64 x0) (Int.ofNat n4))))]) (hT 7 [oC q5,(AhA z5),(AiF z6 n5 n6 c7),oC q6,(AiO q7 x1),oC q8]) (.k [1,4,8,6] [false] AhD [3,6,7,8,10,11] ⟨Fb h3,Fb h4,Fb h16,Fb h6,trivial⟩) ?_
   replace⟨k3,h17,hm⟩:=Ab hm
   replace⟨h18,hm⟩:=Ae hm
   replace⟨k4,h19,hm⟩:=Ab hm
   replace⟨h20,hm⟩:=Ae hm
   replace⟨h21,hm⟩:=Ae hm
   replace hm:=Ag hm;rcases hm with⟨h22,hm⟩|⟨h22,hm⟩
   ·replace⟨h23,hm⟩:=Ae hm
    replace hm:=Ag hm;rcases hm with⟨h24,hm⟩|⟨h24,hm⟩
    ·refine .reg (eN 7 (Fr.puts (fr 83 [(3,pt 1 0),(6,(pt 2 0)),(7,(pt 3 0)),(8,sc 4 0 1 n4 c5),(10,(zI (Int.ofNat k1))),(11,(zI (Int.tmod (Aj .i64 x0) (Int.ofNat n4))))]) [(72,sc 7 0 1 0 1),(73,sc 4 0 1 n4 c5),(74,(zI (Int.ofNat k3))),(75,(Ah8 k3 c5)),(77,sc 4 0 1 n4 c5),(78,(zI (Int.tmod (Aj .i64 x0) (Int.ofNat n4)))),(79,(zI (Int.ofNat k4)))]) (Ahs q5 z5 z6 n5 n6 c7 q6 q7 x1 q8) (eC 2 (some ((zI (Int.tmod (Aj .i64 x0) (Int.ofNat n4))),(Ahs q5 z5 z6 n5 n6 c7 q6 q7 x1 q8))) (show _=some ((zI (Int.ofNat k3)),_) from (by rw[AR h17])) (eD (keep (Ahs q5 z5 z6 n5 n6 c7 q6 q7 x1 q8) (oo (bb (Nat.ble k3 (c5 / 2)) (some k3) none) none λh=>some (sliceAt 4 (0+0*1) 1 (h - 0) (c5 / 2 - 0) (AhI c5)))) (show _=some ((Ah8 k3 c5),(Ahs q5 z5 z6 n5 n6 c7 q6 q7 x1 q8)) from (RJ h18).trans (by kernel_rfl)) (eC 2 (some ((zI (Aj .i64 (Int.add (Int.tmod (Aj .i64 x0) (Int.ofNat n4)) (1:Int)))),(Ahs q5 z5 z6 n5 n6 c7 q6 q7 x1 q8))) (show _=some ((zI (Int.ofNat k4)),_) from (by rw[AR h19])) (by kernel_rfl)))) (eD (keep (Ahs q5 z5 z6 n5 n6 c7 q6 q7 x1 q8) (oo (bb (Nat.ble k4 n4) (some k4) none) none λl=>some (Ajn l n4 c5))) (show _=some ((AhX k4 n4 c5),(Ahs q5 z5 z6 n5 n6 c7 q6 q7 x1 q8)) from (RJ h20).trans (by kernel_rfl)) (eD (Gl (Ahs q5 z5 z6 n5 n6 c7 q6 q7 x1 q8) 1 8 (sc 7 0 1 0 1) k3 (Ah8 k3 c5)) ((Ez (imm:=false) (sp:=false) (anc:=[]) h21).trans (Ze h22)) (eD (Gl (Ahs q5 z5 z6 n5 n6 c7 q6 q7 x1 q8) 1 8 (sc 7 0 1 0 1) (n4 - k4) (AhX k4 n4 c5)) ((Ez (imm:=false) (sp:=false) (anc:=[]) h23).trans (Ze h24)) (eE))))) ?_
     refine .ghs (fr 83 [(3,pt 1 0),(6,(pt 2 0)),(7,(pt 3 0)),(8,sc 4 0 1 0 1),(10,(zI (Int.ofNat k1)))]) (hT 7 [oC q5,(AhA z5),(AiF z6 n5 n6 c7),(oC []),(AiO q7 x1),oC q8]) (.k [1,5,6] [false] AhD [3,6,7,8,10] ⟨Fb h3,Fb h16,Fb h6,trivial⟩) ?_
     refine .rK ?_
     exact⟨(0,1,(AhP k1),q5,z5,z6,(n5+1),(d2 (n5+1)),n6,c7,([]:LV),(Br (Am 0 q7) [zI x1]),q8),hm,(.k [1,5,6] [false] AhD [3,6,7,8,10] ⟨Fb h3,Fb h16,Fb h6,trivial⟩)⟩
    ·replace⟨h25,hm⟩:=Ae hm
     refine .reg (eN 7 (Fr.puts (fr 83 [(3,pt 1 0),(6,(pt 2 0)),(7,(pt 3 0)),(8,sc 4 0 1 n4 c5),(10,(zI (Int.ofNat k1))),(11,(zI (Int.tmod (Aj .i64 x0) (Int.ofNat n4))))]) [(72,sc 7 0 1 0 1),(73,sc 4 0 1 n4 c5),(74,(zI (Int.ofNat k3))),(75,(Ah8 k3 c5)),(77,sc 4 0 1 n4 c5),(78,(zI (Int.tmod (Aj .i64 x0) (Int.ofNat n4)))),(79,(zI (Int.ofNat k4)))]) (Ahs q5 z5 z6 n5 n6 c7 q6 q7 x1 q8) (eC 2 (some ((zI (Int.tmod (Aj .i64 x0) (Int.ofNat n4))),(Ahs q5 z5 z6 n5 n6 c7 q6 q7 x1 q8))) (show _=some ((zI (Int.ofNat k3)),_) from (by rw[AR h17])) (eD (keep (Ahs q5 z5 z6 n5 n6 c7 q6 q7 x1 q8) (oo (bb (Nat.ble k3 (c5 / 2)) (some k3) none) none λh=>some (sliceAt 4 (0+0*1) 1 (h - 0) (c5 / 2 - 0) (AhI c5)))) (show _=some ((Ah8 k3 c5),(Ahs q5 z5 z6 n5 n6 c7 q6 q7 x1 q8)) from (RJ h18).trans (by kernel_rfl)) (eC 2 (some ((zI (Aj .i64 (Int.add (Int.tmod (Aj .i64 x0) (Int.ofNat n4)) (1:Int)))),(Ahs q5 z5 z6 n5 n6 c7 q6 q7 x1 q8))) (show _=some ((zI (Int.ofNat k4)),_) from (by rw[AR h19])) (by kernel_rfl)))) (eD (keep (Ahs q5 z5 z6 n5 n6 c7 q6 q7 x1 q8) (oo (bb (Nat.ble k4 n4) (some k4) none) none λl=>some (Ajn l n4 c5))) (show _=some ((AhX k4 n4 c5),(Ahs q5 z5 z6 n5 n6 c7 q6 q7 x1 q8)) from (RJ h20).trans (by kernel_rfl)) (eD (Gl (Ahs q5 z5 z6 n5 n6 c7 q6 q7 x1 q8) 1 8 (sc 7 0 1 0 1) k3 (Ah8 k3 c5)) ((Ez (imm:=false) (sp:=false) (anc:=[]) h21).trans (Ze h22)) (eD (Gl (Ahs q5 z5 z6 n5 n6 c7 q6 q7 x1 q8) 1 8 (sc 7 0 1 0 1) (n4 - k4) (AhX k4 n4 c5)) ((Ez (imm:=false) (sp:=false) (anc:=[]) h23).trans (Zf h24 h25 (by kernel_rfl))) (eE))))) ?_
     replace⟨h26,hm⟩:=Ae hm
     refine .ghs (fr 83 [(3,pt 1 0),(6,(pt 2 0)),(7,(pt 3 0)),(8,(sc 4 0 1 (0+(Sl.n (AhM n4 k4 q6))) (d2 (0+(Sl.n (AhM n4 k4 q6)))))),(10,(zI (Int.ofNat k1)))]) (hT 7 [oC q5,(AhA z5),(AiF z6 n5 n6 c7),(oC (Ajl n4 k4 q6)),(AiO q7 x1),oC q8]) (.k [1,8,5,6] [false] AhD [3,6,7,8,10] ⟨Fb h3,Fb h26,Fb h16,Fb h6,trivial⟩) ?_
     refine .rK ?_
     exact⟨((0+(Sl.n (AhM n4 k4 q6))),(d2 (0+(Sl.n (AhM n4 k4 q6)))),(AhP k1),q5,z5,z6,(n5+1),(d2 (n5+1)),n6,c7,(Ajl n4 k4 q6),(Br (Am 0 q7) [zI x1]),q8),hm,(.k [1,4,5,6] [false] AhD [3,6,7,8,10] ⟨Fb h3,Fb h26,Fb h16,Fb h6,trivial⟩)⟩
   ·replace⟨h23,hm⟩:=Ae hm
    replace⟨h24,hm⟩:=Ae hm
    replace hm:=Ag hm;rcases hm with⟨h25,hm⟩|⟨h25,hm⟩
    ·refine .reg (eN 7 (Fr.puts (fr 83 [(3,pt 1 0),(6,(pt 2 0)),(7,(pt 3 0)),(8,sc 4 0 1 n4 c5),(10,(zI (Int.ofNat k1))),(11,(zI (Int.tmod (Aj .i64 x0) (Int.ofNat n4))))]) [(72,sc 7 0 1 0 1),(73,sc 4 0 1 n4 c5),(74,(zI (Int.ofNat k3))),(75,(Ah8 k3 c5)),(77,sc 4 0 1 n4 c5),(78,(zI (Int.tmod (Aj .i64 x0) (Int.ofNat n4)))),(79,(zI (Int.ofNat k4)))]) (Ahs q5 z5 z6 n5 n6 c7 q6 q7 x1 q8) (eC 2 (some ((zI (Int.tmod (Aj .i64 x0) (Int.ofNat n4))),(Ahs q5 z5 z6 n5 n6 c7 q6 q7 x1 q8))) (show _=some ((zI (Int.ofNat k3)),_) from (by rw[AR h17])) (eD (keep (Ahs q5 z5 z6 n5 n6 c7 q6 q7 x1 q8) (oo (bb (Nat.ble k3 (c5 / 2)) (some k3) none) none λh=>some (sliceAt 4 (0+0*1) 1 (h - 0) (c5 / 2 - 0) (AhI c5)))) (show _=some ((Ah8 k3 c5),(Ahs q5 z5 z6 n5 n6 c7 q6 q7 x1 q8)) from (RJ h18).trans (by kernel_rfl)) (eC 2 (some ((zI (Aj .i64 (Int.add (Int.tmod (Aj .i64 x0) (Int.ofNat n4)) (1:Int)))),(Ahs q5 z5 z6 n5 n6 c7 q6 q7 x1 q8))) (show _=some ((zI (Int.ofNat k4)),_) from (by rw[AR h19])) (by kernel_rfl)))) (eD (keep (Ahs q5 z5 z6 n5 n6 c7 q6 q7 x1 q8) (oo (bb (Nat.ble k4 n4) (some k4) none) none λl=>some (Ajn l n4 c5))) (show _=some ((AhX k4 n4 c5),(Ahs q5 z5 z6 n5 n6 c7 q6 q7 x1 q8)) from (RJ h20).trans (by kernel_rfl)) (eD (Gl (Ahs q5 z5 z6 n5 n6 c7 q6 q7 x1 q8) 1 8 (sc 7 0 1 0 1) k3 (Ah8 k3 c5)) ((Ez (imm:=false) (sp:=false) (anc:=[]) h21).trans (Zf h22 h23 (by kernel_rfl))) (eD (Gl (hT 9 [oC q5,(AhA z5),(AiF z6 n5 n6 c7),oC q6,(AiO q7 x1),oC q8,(oC []),(oC (AiJ k3 q6))]) 1 8 (sc 8 0 1 (0+(Sl.n (Ahx k3 q6))) (d2 (0+(Sl.n (Ahx k3 q6))))) (n4 - k4) (AhX k4 n4 c5)) ((Ez (imm:=false) (sp:=false) (anc:=[]) h24).trans (Ze h25)) (eE))))) ?_
     replace⟨h27,hm⟩:=Ae hm
     refine .ghs (fr 83 [(3,pt 1 0),(6,(pt 2 0)),(7,(pt 3 0)),(8,(sc 4 0 1 (0+(Sl.n (Ahx k3 q6))) (d2 (0+(Sl.n (Ahx k3 q6)))))),(10,(zI (Int.ofNat k1)))]) (hT 7 [oC q5,(AhA z5),(AiF z6 n5 n6 c7),(oC (AiJ k3 q6)),(AiO q7 x1),oC q8]) (.k [1,8,5,6] [false] AhD [3,6,7,8,10] ⟨Fb h3,Fb h27,Fb h16,Fb h6,trivial⟩) ?_
     refine .rK ?_
     exact⟨((0+(Sl.n (Ahx k3 q6))),(d2 (0+(Sl.n (Ahx k3 q6)))),(AhP k1),q5,z5,z6,(n5+1),(d2 (n5+1)),n6,c7,(AiJ k3 q6),(Br (Am 0 q7) [zI x1]),q8),hm,(.k [1,4,5,6] [false] AhD [3,6,7,8,10] ⟨Fb h3,Fb h27,Fb h16,Fb h6,trivial⟩)⟩
    ·replace⟨h28,hm⟩:=Ae hm
     refine .reg (eN 7 (Fr.puts (fr 83 [(3,pt 1 0),(6,(pt 2 0)),(7,(pt 3 0)),(8,sc 4 0 1 n4 c5),(10,(zI (Int.ofNat k1))),(11,(zI (Int.tmod (Aj .i64 x0) (Int.ofNat n4))))]) [(72,sc 7 0 1 0 1),(73,sc 4 0 1 n4 c5),(74,(zI (Int.ofNat k3))),(75,(Ah8 k3 c5)),(77,sc 4 0 1 n4 c5),(78,(zI (Int.tmod (Aj .i64 x0) (Int.ofNat n4)))),(79,(zI (Int.ofNat k4)))]) (Ahs q5 z5 z6 n5 n6 c7 q6 q7 x1 q8) (eC 2 (some ((zI (Int.tmod (Aj .i64 x0) (Int.ofNat n4))),(Ahs q5 z5 z6 n5 n6 c7 q6 q7 x1 q8))) (show _=some ((zI (Int.ofNat k3)),_) from (by rw[AR h17])) (eD (keep (Ahs q5 z5 z6 n5 n6 c7 q6 q7 x1 q8) (oo (bb (Nat.ble k3 (c5 / 2)) (some k3) none) none λh=>some (sliceAt 4 (0+0*1) 1 (h - 0) (c5 / 2 - 0) (AhI c5)))) (show _=some ((Ah8 k3 c5),(Ahs q5 z5 z6 n5 n6 c7 q6 q7 x1 q8)) from (RJ h18).trans (by kernel_rfl)) (eC 2 (some ((zI (Aj .i64 (Int.add (Int.tmod (Aj .i64 x0) (Int.ofNat n4)) (1:Int)))),(Ahs q5 z5 z6 n5 n6 c7 q6 q7 x1 q8))) (show _=some ((zI (Int.ofNat k4)),_) from (by rw[AR h19])) (by kernel_rfl)))) (eD (keep (Ahs q5 z5 z6 n5 n6 c7 q6 q7 x1 q8) (oo (bb (Nat.ble k4 n4) (some k4) none) none λl=>some (Ajn l n4 c5))) (show _=some ((AhX k4 n4 c5),(Ahs q5 z5 z6 n5 n6 c7 q6 q7 x1 q8)) from (RJ h20).trans (by kernel_rfl)) (eD (Gl (Ahs q5 z5 z6 n5 n6 c7 q6 q7 x1 q8) 1 8 (sc 7 0 1 0 1) k3 (Ah8 k3 c5)) ((Ez (imm:=false) (sp:=false) (anc:=[]) h21).trans (Zf h22 h23 (by kernel_rfl))) (eD (Gl (hT 9 [oC q5,(AhA z5),(AiF z6 n5 n6 c7),oC q6,(AiO q7 x1),oC q8,(oC []),(oC (AiJ k3 q6))]) 1 8 (sc 8 0 1 (0+(Sl.n (Ahx k3 q6))) (d2 (0+(Sl.n (Ahx k3 q6))))) (n4 - k4) (AhX k4 n4 c5)) ((Ez (imm:=false) (sp:=false) (anc:=[]) h24).trans (QI (H:=(hT 9 [oC q5,(AhA z5),(AiF z6 n5 n6 c7),oC q6,(AiO q7 x1),oC q8,(oC []),(oC (AiJ k3 q6))])) (id:=8) (n:=(0+(Sl.n (Ahx k3 q6)))) (c2:=(d2 (0+(Sl.n (Ahx k3 q6))))) (xs:=(AiJ k3 q6)) (anc:=[]) h25 (by kernel_rfl) (by kernel_rfl) h28)) (eE))))) ?_
     replace⟨h29,hm⟩:=Ae hm
     refine .ghs (fr 83 [(3,pt 1 0),(6,(pt 2 0)),(7,(pt 3 0)),(8,(sc 4 0 1 ((0+(Sl.n (Ahx k3 q6)))+(Sl.n (AhM n4 k4 q6))) (d2 ((0+(Sl.n (Ahx k3 q6)))+(Sl.n (AhM n4 k4 q6)))))),(10,(zI (Int.ofNat k1)))]) (hT 7 [oC q5,(AhA z5),(AiF z6 n5 n6 c7),(oC (Br (Am 0 (AiJ k3 q6)) (Ajl n4 k4 q6))),(AiO q7 x1),oC q8]) (.k [1,9,5,6] [false] AhD [3,6,7,8,10] ⟨Fb h3,Fb h29,Fb h16,Fb h6,trivial⟩) ?_
     refine .rK ?_
     exact⟨(((0+(Sl.n (Ahx k3 q6)))+(Sl.n (AhM n4 k4 q6))),(d2 ((0+(Sl.n (Ahx k3 q6)))+(Sl.n (AhM n4 k4 q6)))),(AhP k1),q5,z5,z6,(n5+1),(d2 (n5+1)),n6,c7,(Br (Am 0 (AiJ k3 q6)) (Ajl n4 k4 q6)),(Br (Am 0 q7) [zI x1]),q8),hm,(.k [1,4,5,6] [false] AhD [3,6,7,8,10] ⟨Fb h3,Fb h29,Fb h16,Fb h6,trivial⟩)⟩
  ·refine Gs (AiW n4) h7 ?_
   refine .exit ?_
   exact⟨(z5,z6,n5,c6,n6,c7,q7,q8),hm,(.k [5,6] [false] Ai0 [6,7] ⟨Fb h5,Fb h6,trivial⟩)⟩
theorem r21 {call:A8} (pu:Af) (n:Nat) (hcall:call=Bb tabs Ir pu (inl pu)) {args:LV} {v:Value} (hm:m21 pu n args=some v) (_:∀ x∈args,closed2 x=true):args.length≤83∧BN tt call 1 UF (Fr.made 83 args) (Ao tabs) (Fin tt 1 [.cell 6 24] v):=by
 subst hcall
 unfold m21 at hm
 replace hm:=Ad hm;obtain⟨a0,args_0,rfl,hm⟩:=hm
 replace hm:=Ad hm;obtain⟨a1,args_1,rfl,hm⟩:=hm
 replace hm:=Ad hm;obtain⟨a2,args_2,rfl,hm⟩:=hm
 replace hm:=AC hm;obtain⟨rfl,hm⟩:=hm
 replace hm:=BG hm;obtain⟨q0,rfl,hm⟩:=hm
 replace⟨h0,hm⟩:=Ae hm
 replace hm:=Ai hm;obtain⟨x0,rfl,hm⟩:=hm
 replace hm:=Ai hm;obtain⟨x1,rfl,hm⟩:=hm
 unfold fQ at hm
 refine⟨by simp,?_⟩
 refine .same (F':=(fr 83 [(0,(.agg ⟨q0⟩)),(1,zI x0),(2,zI x1)])) (H':=FD) (by kernel_rfl) (by kernel_rfl) ?_
 refine .then (.rK ?_)
 replace⟨h1,hm⟩:=Ae hm
 refine .ghs (fr 83 [(1,zI x0),(2,zI x1),(3,pt 1 0),(6,(pt 2 0))]) (hT 3 [oC q0,Ahz]) (.k [1] [false] [.tmp 3 false,.tmp 6 false] [1,2,3,6] ⟨Fb h1,trivial⟩) ?_
 refine .then ?_
 replace⟨x2,h2,hm⟩:=Hw hm
 replace⟨h3,hm⟩:=Ae hm
 refine .reg (eC 1 (keep (hT 3 [oC q0,Ahz]) (AL q0 0)) (AZ h2) (eC 2 (keep (hT 3 [oC q0,Ahz]) (bb (Bd x1 (0:Int)) none (some (zI (Int.tmod (Aj .i64 x2) x1))))) (XH h3) (eE))) ?_
 refine .ghs (fr 83 [(1,zI x0),(3,pt 1 0),(6,(pt 2 0)),(7,(pt 3 0))]) (hT 4 [oC q0,Ahz,(oC [(zI (Aj .i64 (Int.add (1:Int) (Int.tmod (Aj .i64 x2) x1)))),(.slice none 0 0),(.slice none 0 0)])]) (.k [1] [false] [.tmp 3 false,.tmp 6 false,.tmp 7 false] [1,3,6,7] ⟨Fb h1,trivial⟩) ?_
 refine .then (.rK (.ghs (fr 83 [(1,zI x0),(3,pt 1 0),(6,(pt 2 0)),(7,(pt 3 0)),(8,(.slice none 0 0))]) (hT 4 [oC q0,Ahz,(oC [(zI (Aj .i64 (Int.add (1:Int) (Int.tmod (Aj .i64 x2) x1)))),(.slice none 0 0),(.slice none 0 0)])]) (.k [1] [false] [.tmp 3 false,.tmp 6 false,.tmp 7 false] [1,3,6,7,8] ⟨Fb h1,trivial⟩) ?_))
 refine .join (v:=v) (λy:Nat×Nat×LV×Int×Int×Nat×Nat×LV×LV=>((fr 83 [(3,pt 1 0),(6,(pt 2 0)),(7,(pt 3 0)),(8,(sc 4 0 1 y.1 y.2.1))]),(hT 6 [(oC y.2.2.1),(AiY y.2.2.2.1),(oC [(zI (AaW y)),(.slice none 0 0),(sc 5 0 1 (Acq y) (Ac3 y))]),(oC (Ac4 y)),(oC (Adb y))]))) (λy=>SI pu n y.1 y.2.1 y.2.2.1 y.2.2.2.1 (AaW y) (Acq y) (Ac3 y) (Ac4 y) (Adb y)) ?_ ?_
 ·rintro⟨n0,c0,q1,z0,z1,n1,c1,q2,q3⟩ hm
  exact Afv pu n n0 c0 q1 z0 z1 n1 c1 q2 q3 hm
 ·refine .then ?_
  replace⟨x3,h4,hm⟩:=Hw hm
  replace⟨h5,hm⟩:=Ae hm
  refine .reg (eC 1 (keep (hT 4 [oC q0,Ahz,(oC [(zI (Aj .i64 (Int.add (1:Int) (Int.tmod (Aj .i64 x2) x1)))),(.slice none 0 0),(.slice none 0 0)])]) (AL q0 1)) (AZ h4) (eC 2 (keep (hT 4 [oC q0,Ahz,(oC [(zI (Aj .i64 (Int.add (1:Int) (Int.tmod (Aj .i64 x2) x1)))),(.slice none 0 0),(.slice none 0 0)])]) (bb (Bd x0 (0:Int)) none (some (zI (Int.tmod (Aj .i64 x3) x0))))) (XH h5) (eE))) ?_
  refine .ghs (fr 83 [(3,pt 1 0),(6,(pt 2 0)),(7,(pt 3 0)),(8,(.slice none 0 0)),(24,(zI (Aj .i64 (Int.add (1:Int) (Int.tmod (Aj .i64 x3) x0))))),(25,(zI (0:Int)))]) (hT 4 [oC q0,Ahz,(oC [(zI (Aj .i64 (Int.add (1:Int) (Int.tmod (Aj .i64 x2) x1)))),(.slice none 0 0),(.slice none 0 0)])]) (.k [1] [false] [.tmp 3 false,.tmp 6 false,.tmp 7 false] [3,6,7,8,24,25] ⟨Fb h1,trivial⟩) ?_
  refine .block (.loopM (v:=v) (λy:Nat×Nat×Int×Int×LV×Int×Int×Nat×Nat×LV×LV=>((fr 83 [(3,pt 1 0),(6,(pt 2 0)),(7,(pt 3 0)),(8,(sc 4 0 1 y.1 y.2.1)),(24,(zI y.2.2.1)),(25,(zI y.2.2.2.1))]),(hT 6 [(oC (AaW y)),(AiY (Acq y)),(oC [(zI (Ac3 y)),(.slice none 0 0),(sc 5 0 1 (Ac4 y) (Ac5 y))]),(oC (Ac7 y)),(oC (Add y))]))) (λw y=>SK pu n w y.1 y.2.1 y.2.2.1 y.2.2.2.1 (AaW y) (Acq y) (Ac3 y) (Ac4 y) (Ac5 y) (Ac7 y) (Add y)) n ⟨(0,0,(Aj .i64 (Int.add (1:Int) (Int.tmod (Aj .i64 x3) x0))),(0:Int),q0,(0:Int),(Aj .i64 (Int.add (1:Int) (Int.tmod (Aj .i64 x2) x1))),0,0,([]:LV),([]:LV)),hm,(.thaw 8 1 (by kernel_rfl) (.thawC 3 2 1 [(zI (Aj .i64 (Int.add (1:Int) (Int.tmod (Aj .i64 x2) x1)))),(.slice none 0 0),(.slice none 0 0)] (imm:=false) (spent:=false) (anc:=[]) (by kernel_rfl) (by kernel_rfl) (by kernel_rfl) (by kernel_rfl) (.k [1] [false] AhQ [3,6,7,8,24,25] ⟨Fb h1,trivial⟩)))⟩ (λ_=>rfl) ?_)
  rintro w0 ⟨n2,c2,z2,z3,q4,z4,z5,n3,c3,q5,q6⟩ hm
  replace hm:QN pu n (SK pu n w0) n2 c2 z2 z3 q4 z4 z5 n3 c3 q5 q6=some v:=hm
  unfold QN at hm
  refine .then (.rK ?_)
  replace⟨h6,hm⟩:=Ae hm
  replace⟨h7,hm⟩:=Ae hm
  replace⟨h8,hm⟩:=Ae hm
  refine .ghs (fr 83 [(3,pt 1 0),(6,(pt 2 0)),(7,(pt 3 0)),(8,sc 4 0 1 n2 c2),(24,zI z2),(25,zI z3),(26,(zB (AY z3 z2)))]) (Ail q4 z4 z5 n3 c3 q5 q6) (.k [1,4,5] [false] AhQ [3,6,7,8,24,25,26] ⟨Fb h6,Fb h7,Fb h8,trivial⟩) ?_
  refine .then ?_
  replace hm:=Ag hm;rcases hm with⟨h9,hm⟩|⟨h9,hm⟩
  ·refine Gq (AY z3 z2) h9 ?_
   refine .skip (.ghs (fr 83 [(3,pt 1 0),(6,(pt 2 0)),(7,(pt 3 0)),(8,sc 4 0 1 n2 c2),(24,zI z2),(25,zI z3)]) (Ail q4 z4 z5 n3 c3 q5 q6) (.k [1,4,5] [false] AhQ [3,6,7,8,24,25] ⟨Fb h6,Fb h7,Fb h8,trivial⟩) ?_)
   refine .then (.block (.then (.rK (.ghs (fr 83 [(3,pt 1 0),(6,(pt 2 0)),(7,(pt 3 0)),(8,sc 4 0 1 n2 c2),(9,zI z3),(24,zI z2),(25,zI z3)]) (Ail q4 z4 z5 n3 c3 q5 q6) (.k [1,4,5] [false] AhQ [3,6,7,8,9,24,25] ⟨Fb h6,Fb h7,Fb h8,trivial⟩) ?_))))
   refine .then ?_
   replace⟨k1,h10,hm⟩:=Ab hm
   obtain rfl:=AR h10
   replace⟨h11,hm⟩:=Ae hm
   replace⟨x4,h12,hm⟩:=Hw hm
   replace⟨h13,hm⟩:=Ae hm
   replace⟨h14,hm⟩:=Ae hm
   refine .reg (eC 4 (keep (Ail q4 z4 z5 n3 c3 q5 q6) (bb (Nat.blt k1 10) (some (.pointer (some ⟨1,(2+k1*1),none⟩))) none)) (AX h11) (eD (keep (Ail q4 z4 z5 n3 c3 q5 q6) (AL q4 (2+k1*1))) (AZ h12) (eC 3 (keep (Ail q4 z4 z5 n3 c3 q5 q6) (bb (Bd z5 (0:Int)) none (some (zI (Int.tmod (Aj .i64 x4) z5))))) (XH h13) (eC 1 (Oc 1 8 n3 c3 1 5 q6 [(zI (Int.tmod (Aj .i64 x4) z5))] [] (hT 7 [oC q4,(AhA z4),(oC [zI z5,(.slice none 0 0),sc 5 0 1 n3 c3]),oC q5,oC q6,(oC [(zI (Int.tmod (Aj .i64 x4) z5))])])) (I1 h14) (eE))))) ?_
   replace⟨h15,hm⟩:=Ae hm
   refine .ghs (fr 83 [(3,pt 1 0),(6,(pt 2 0)),(7,(pt 3 0)),(8,sc 4 0 1 n2 c2),(9,(zI (Int.ofNat k1))),(24,zI z2),(25,(zI (Int.ofNat k1)))]) (hT 6 [oC q4,(AhA z4),(AiL z5 n3),oC q5,(oC (Br (Am 0 q6) [(zI (Int.tmod (Aj .i64 x4) z5))]))]) (.k [1,4,7] [false] AhQ [3,6,7,8,9,24,25] ⟨Fb h6,Fb h7,Fb h15,trivial⟩) ?_
   replace⟨h16,hm⟩:=Ae hm
   replace⟨x5,h17,hm⟩:=Hw hm
   replace⟨h18,hm⟩:=Ae hm
   refine .reg (eC 4 (keep (hT 6 [oC q4,(AhA z4),(AiL z5 n3),oC q5,(oC (Br (Am 0 q6) [(zI (Int.tmod (Aj .i64 x4) z5))]))]) (bb (an (Nat.blt k1 (n3+1)) true) (some (.pointer (some ⟨5,(0+k1*1),none⟩))) none)) (AX h16) (eD (keep (hT 6 [oC q4,(AhA z4),(AiL z5 n3),oC q5,(oC (Br (Am 0 q6) [(zI (Int.tmod (Aj .i64 x4) z5))]))]) (AL (Br (Am 0 q6) [(zI (Int.tmod (Aj .i64 x4) z5))]) (0+k1*1))) (AZ h17) (eC 1 (Oc 1 8 n2 c2 1 4 q5 [zI x5] [] (hT 7 [oC q4,(AhA z4),(AiL z5 n3),oC q5,(oC (Br (Am 0 q6) [(zI (Int.tmod (Aj .i64 x4) z5))])),(oC [zI x5])])) (I1 h18) (eE)))) ?_
   replace⟨h19,hm⟩:=Ae hm
   refine .ghs (fr 83 [(3,pt 1 0),(6,(pt 2 0)),(7,(pt 3 0)),(8,(sc 4 0 1 (n2+1) (d2 (n2+1)))),(24,zI z2),(25,(zI (Int.ofNat k1)))]) (hT 6 [oC q4,(AhA z4),(AiL z5 n3),(AiO q5 x5),(oC (Br (Am 0 q6) [(zI (Int.tmod (Aj .i64 x4) z5))]))]) (.k [1,7,5] [false] AhQ [3,6,7,8,24,25] ⟨Fb h6,Fb h19,Fb h15,trivial⟩) ?_
   refine .rK ?_
   exact⟨((n2+1),(d2 (n2+1)),z2,(AhP k1),q4,z4,z5,(n3+1),(d2 (n3+1)),(Br (Am 0 q5) [zI x5]),(Br (Am 0 q6) [(zI (Int.tmod (Aj .i64 x4) z5))])),hm,(.k [1,4,5] [false] AhQ [3,6,7,8,24,25] ⟨Fb h6,Fb h19,Fb h15,trivial⟩)⟩
  ·refine Gs (AY z3 z2) h9 ?_
   refine .exit ?_
   exact⟨(n2,c2,q4,z4,z5,n3,c3,q5,q6),hm,(.k [1,4,5] [false] AhQ [3,6,7,8] ⟨Fb h6,Fb h7,Fb h8,trivial⟩)⟩
end
end Go.MnSM
