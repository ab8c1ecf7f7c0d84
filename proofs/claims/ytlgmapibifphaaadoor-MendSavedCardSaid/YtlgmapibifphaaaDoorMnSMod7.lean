import Derived.Test.YtlgmapibifphaaaDoorMnSMod0x
set_option maxRecDepth 100000
set_option maxHeartbeats 20000000
set_option linter.unusedVariables false
namespace Go.MnSM
open Go.Sp Go.MnS
noncomputable section
def nR (pu:Af) (n:Nat) (s0:Sl):OV:=
 (bb (Dp (nt (Nat.beq (Sl.fl s0) 2)) (Nat.beq (Sl.n s0) 0)) (some (Sl.v 1 (KY 1 s0))) none)
def m72 (pu:Af) (n:Nat) (args:LV):OV:=
 (ll args none λa0 args=>(ll args (oo (Bj 1 a0) none λs0=>(nR pu n s0)) λ_ _=>none))
theorem r72 {call:A8} (pu:Af) (n:Nat) (hcall:call=Bb tabs Ir pu (inl pu)) {args:LV} {v:Value} (hm:m72 pu n args=some v) (_:∀ x∈args,closed2 x=true):args.length≤9∧BN tt call 1 Yy (Fr.made 9 args) (Ao tabs) (Fin tt 1 [.tmp 2] v):=by
 subst hcall
 unfold m72 at hm
 replace hm:=Ad hm;obtain⟨a0,args_0,rfl,hm⟩:=hm
 replace hm:=AC hm;obtain⟨rfl,hm⟩:=hm
 replace hm:=Al hm;obtain⟨s0,rfl,hm⟩:=hm
 unfold nR at hm
 refine⟨by simp,?_⟩
 refine .same (F':=(fr 9 [(0,Sl.v 1 s0)])) (H':=FD) (by kernel_rfl) (by kernel_rfl) ?_
 refine .then (.rK (.ghs (fr 9 [(0,Sl.v 1 s0)]) FD (.k0 [false] [] [0]) ?_))
 refine .then ?_
 replace⟨h0,hm⟩:=Ae hm
 refine .reg (eC 5 (Ut FD ti3 1 s0) (Wh h0) (eE)) ?_
 refine .ghs (fr 9 [(2,(Sl.v 1 (KY 1 s0)))]) FD (.k0 [false] [] [2]) ?_
 refine .ret ?_
 exact Fp (Sl.v 1 (KY 1 s0)) hm
def LZ (pu:Af) (n:Nat) (e0:List EO) (k1:Nat):OV:=
 (bb (Au F4 e0) (some (.tuple ⟨[(.map (some 1)),(Ef (.map e0 k1))]⟩)) none)
def L6 (pu:Af) (n:Nat) (ih0:Ajt) (b0:Bool) (n0 n1 c0:Nat) (e0:List EO) (k1:Nat) (q0:LV):OV:=
 (bb (Nat.ble 1 n1) (bb (Au F4 e0) (bb (Au Ah q0) (ih0 b0 (n0+1*1) (n1 - 1) (2*(c0 / 2 - 1)+bb (Dp false (Nat.beq (c0 % 2) 1)) 1 0) e0 k1 q0) none) none) none)
def MF (pu:Af) (n:Nat) (ih0:Ajt) (ih1:Aju) (b0:Bool) (n0 n1 c0:Nat) (s0:Sl) (z0 z1:Int) (e0:List EO) (k1:Nat) (q0:LV):OV:=
 (bb (Au F4 e0) (bb (Au Ah q0) (ih1 b0 n0 n1 c0 s0 z0 (Aj .i64 (Int.add z1 (1:Int))) e0 k1 q0) none) none)
def LJ (pu:Af) (n:Nat) (ih0:Ajt) (ih1:Aju) (ih2:Ajy) (b0:Bool) (n0 n1 c0:Nat) (s0:Sl) (z0 z1 z2 z3:Int) (e0:List EO) (k1:Nat) (q0:LV):OV:=
 (bb (Au F4 e0) (bb (Au Ah q0) (ih2 b0 n0 n1 c0 s0 z0 (Aj .i64 (Int.add z1 (1:Int))) z2 z3 e0 k1 q0) none) none)
def Iy (pu:Af) (n:Nat) (ih0:Ajt) (ih1:Aju) (ih2:Ajy) (b0:Bool) (n0 n1 c0:Nat) (s0:Sl) (z0 z1 z2 z3:Int) (b3:Bool) (e0:List EO) (k1:Nat) (q0:LV):OV:=
 (bb b3 (bb (Au F4 e0) (bb (Au Ah q0) (oo (pu 24 [Sl.v 1 s0,.int .i64 z0,.int .i64 z1]) none λv0=>(oo (Bj 1 v0) none λs1=>(oo (pu 23 [Sl.v 1 s1]) none λv1=>(oo (Bi .i64 v1) none λx0=>(oo (GD (.int .i64 x0) e0 0) none λr0=>(oo (Bi .i64 (Wd r0 (.int .i64 (0:Int)))) none λx1=>(bb (nt (isS r0)) (oo (pu 23 [Sl.v 1 s1]) none λv2=>(oo (Bi .i64 v2) none λx2=>(oo (pu 23 [Sl.v 1 s0]) none λv3=>(oo (Bi .i64 v3) none λx3=>(oo (GD (.int .i64 x3) e0 0) none λr1=>(oo (Bi .i64 (Wd r1 (.int .i64 (0:Int)))) none λx4=>(oo (GD (.int .i64 x2) e0 0) none λr2=>(bb (Au F4 (Gr (.int .i64 x2) (.int .i64 (Aj .i64 (Int.add x4 (1:Int)))) k1 e0 r2)) (bb (Ou 1 24 n0 n1 c0 1 q0) (bb (Au Ah (Br (Am n0 q0) [Sl.v 1 s1])) (LJ pu n ih0 ih1 ih2 b0 0 (n1+1) (2*(n1+1)+bb false 1 0) s0 z0 z1 z2 z3 (Gr (.int .i64 x2) (.int .i64 (Aj .i64 (Int.add x4 (1:Int)))) k1 e0 r2) (Ja k1 r2) (Br (Am n0 q0) [Sl.v 1 s1])) none) none) none)))))))) (LJ pu n ih0 ih1 ih2 b0 n0 n1 c0 s0 z0 z1 z2 z3 e0 k1 q0)))))))) none) none) (bb (Au F4 e0) (bb (Au Ah q0) (MF pu n ih0 ih1 b0 n0 n1 c0 s0 z2 z3 e0 k1 q0) none) none))
def JO (pu:Af) (n:Nat) (ih0:Ajt) (ih1:Aju) (ih2:Ajy) (b0:Bool) (n0 n1 c0:Nat) (s0:Sl) (z0 z1 z2 z3:Int) (e0:List EO) (k1:Nat) (q0:LV):OV:=
 (bb (AY z1 (Int.ofNat (Sl.n s0))) (bb (nt b0) (bb (Au F4 e0) (bb (Au Ah q0) (Iy pu n ih0 ih1 ih2 b0 n0 n1 c0 s0 z0 z1 z2 z3 true e0 k1 q0) none) none) (bb (Au F4 e0) (bb (Au Ah q0) (Iy pu n ih0 ih1 ih2 b0 n0 n1 c0 s0 z0 z1 z2 z3 (Bd z1 (Aj .i64 (Int.add z0 (1:Int)))) e0 k1 q0) none) none)) (bb (Au F4 e0) (bb (Au Ah q0) (Iy pu n ih0 ih1 ih2 b0 n0 n1 c0 s0 z0 z1 z2 z3 false e0 k1 q0) none) none))
def Iz (pu:Af) (n:Nat) (ih0:Ajt) (ih1:Aju) (w:Nat):Ajy:=
 Nat.rec (motive:=λ_=>Ajy) (λ_ _ _ _ _ _ _ _ _ _ _ _=>none) (λ_ ih2=>JO pu n ih0 ih1 ih2) w
def Kh (pu:Af) (n:Nat) (ih0:Ajt) (ih1:Aju) (b0:Bool) (n0 n1 c0:Nat) (s0:Sl) (z0 z1:Int) (e0:List EO) (k1:Nat) (q0:LV):OV:=
 (bb (Au F4 e0) (bb (Au Ah q0) (bb (AY z1 z0) (Iz pu n ih0 ih1 n b0 n0 n1 c0 s0 z1 (Aj .i64 (Int.add z1 (1:Int))) z0 z1 e0 k1 q0) (L6 pu n ih0 b0 n0 n1 c0 e0 k1 q0)) none) none)
def G9 (pu:Af) (n:Nat) (ih0:Ajt) (w:Nat):Aju:=
 Nat.rec (motive:=λ_=>Aju) (λ_ _ _ _ _ _ _ _ _ _=>none) (λ_ ih1=>Kh pu n ih0 ih1) w
def Ki (pu:Af) (n:Nat) (ih0:Ajt) (b0:Bool) (n0 n1 c0:Nat) (e0:List EO) (k1:Nat) (q0:LV):OV:=
 (bb (Au F4 e0) (bb (Au Ah q0) (bb (AY (0:Int) (Int.ofNat n1)) (bb (an (Nat.blt 0 n1) true) (oo (AL q0 (n0+0*1)) none λv0=>(oo (Bj 1 v0) none λs0=>(G9 pu n ih0 n b0 n0 n1 c0 s0 (Int.ofNat (Sl.n s0)) (0:Int) e0 k1 q0))) none) (LZ pu n e0 k1)) none) none)
def FX (pu:Af) (n w:Nat):Ajt:=
 Nat.rec (motive:=λ_=>Ajt) (λ_ _ _ _ _ _ _=>none) (λ_ ih0=>Ki pu n ih0) w
def Nh (pu:Af) (n:Nat) (s35:Sl) (b36:Bool):OV:=
 (oo (pu 23 [Sl.v 1 s35]) none λv43=>(oo (Bi .i64 v43) none λx45=>(oo (GD (.int .i64 x45) ([]:List EO) 0) none λZu=>(bb (Au F4 (Gr (.int .i64 x45) (.int .i64 (0:Int)) 0 ([]:List EO) Zu)) (FX pu n n b36 0 1 2 (Gr (.int .i64 x45) (.int .i64 (0:Int)) 0 ([]:List EO) Zu) (Ja 0 Zu) ([Sl.v 1 s35]:LV)) none))))
def RY (pu:Af) (n:Nat) (args:LV):OV:=
 (ll args none λa0 args=>(ll args none λa1 args=>(ll args (oo (Bj 1 a0) none λs0=>(oo (Bf a1) none λb0=>(Nh pu n s0 b0))) λ_ _=>none)))
theorem fV (pu:Af) (n:Nat) (e0:List EO) (k1:Nat) {v:Value} (hm:LZ pu n e0 k1=some v):BN tt (Bb tabs Ir pu (inl pu)) 1 fE (fr 77 [(5,(.map (some 1)))]) (hT 2 [(.map e0 k1)]) (FJ tt 1 0 [.tmp 4] v):=by
 unfold LZ at hm
 refine .then (.rK ?_)
 replace⟨h0,hm⟩:=Ae hm
 refine .ghs (fr 77 [(4,(.map (some 1)))]) (hT 2 [(.map e0 k1)]) (.k [1] [false] [.tmp 4 false] [4] ⟨Fb h0,trivial⟩) ?_
 refine .ghs (fr 77 [(4,(.map (some 1)))]) (hT 2 [(.map e0 k1)]) (.k [1] [false] [.tmp 4 false] [4] ⟨Fb h0,trivial⟩) ?_
 refine .ret ?_
 exact Gi (.map (some 1)) [(.map e0 k1)] (by kernel_rfl) hm (Nat.le_of_ble_eq_true rfl) (Fa (SH _ _) EJ)
theorem AbA (pu:Af) (n:Nat) (s35:Sl) (b36:Bool) {v:Value} (hm:Nh pu n s35 b36=some v):BN tt (Bb tabs Ir pu (inl pu)) 1 QD (fr 77 [(0,Sl.v 1 s35),(1,zB b36)]) FD (FJ tt 1 0 [.tmp 4] v):=by
 unfold Nh at hm
 refine .then (.rK (.ghs (fr 77 [(0,Sl.v 1 s35),(1,zB b36)]) FD (.k0 [false] [] [0,1]) ?_))
 refine .then ?_
 replace⟨x45,h44,hm⟩:=Hw hm
 replace⟨Zu,h48,hm⟩:=Ab hm
 refine .reg (eC 2 ((oo (pu 23 [Sl.v 1 s35]) none λv=>some (v,(hT 2 [(.map ([]:List EO) 0)])))) (AB h44) (eD (done (oo (GD (zI x45) ([]:List EO) 0) none λr=>oo r (some (Aa.set (hT 2 [(.map ([]:List EO) 0)]) 1 (.map (Br ([]:List EO) [⟨zI x45,(zI (0:Int)),0⟩]) (0+1)))) λp=>pp p λj _=>some (Aa.set (hT 2 [(.map ([]:List EO) 0)]) 1 (.map (SS (λe=>⟨zI x45,(zI (0:Int)),e.born⟩) j ([]:List EO)) 0))) undef) (Us (H2:=(hT 2 [(.map (Gr (zI x45) (zI (0:Int)) 0 ([]:List EO) Zu) (Ja 0 Zu))])) h48) (eE))) ?_
 replace⟨h49,hm⟩:=Ae hm
 refine .ghs (fr 77 [(0,Sl.v 1 s35),(1,zB b36),(5,(.map (some 1)))]) (hT 2 [(.map (Gr (zI x45) (zI (0:Int)) 0 ([]:List EO) Zu) (Ja 0 Zu))]) (.k [1] [false] [.tmp 5 false] [0,1,5] ⟨Fb h49,trivial⟩) ?_
 refine .join (v:=v) (λy:List EO×Nat=>((fr 77 [(5,(.map (some 1)))]),(hT 2 [(.map y.1 y.2)]))) (λy=>LZ pu n y.1 y.2) ?_ ?_
 ·rintro⟨e0,k1⟩ hm
  exact fV pu n e0 k1 hm
 ·refine .then (.rK (.ghs (fr 77 [(1,zB b36),(5,(.map (some 1))),(6,sc 2 0 1 1 3)]) (hT 3 [(.map (Gr (zI x45) (zI (0:Int)) 0 ([]:List EO) Zu) (Ja 0 Zu)),(oC [Sl.v 1 s35])]) (.k [1] [false] AhJ [1,5,6] ⟨Fb h49,trivial⟩) ?_))
  refine .block (.loopM (v:=v) (λy:Bool×Nat×Nat×Nat×List EO×Nat×LV=>((fr 77 [(1,(zB y.1)),(5,(.map (some 1))),(6,(AhY y.2.1 y.2.2.1 y.2.2.2.1))]),(hT 3 [(.map (AaW y) (Acq y)),(oC (AcK y))]))) (λw y=>FX pu n w y.1 y.2.1 y.2.2.1 y.2.2.2.1 (AaW y) (Acq y) (AcK y)) n ⟨(b36,0,1,2,(Gr (zI x45) (zI (0:Int)) 0 ([]:List EO) Zu),(Ja 0 Zu),([Sl.v 1 s35]:LV)),hm,(.weak 6 (sc 2 0 1 1 2) (v:=(sc 2 0 1 1 3)) (by kernel_rfl) (PG.cap 2 0 1 1 1) (.k [1] [false] AhJ [1,5,6] ⟨Fb h49,trivial⟩))⟩ (λ_=>rfl) ?_)
  rintro w0 ⟨b0,n0,n1,c0,e1,k2,q0⟩ hm
  replace hm:Ki pu n (FX pu n w0) b0 n0 n1 c0 e1 k2 q0=some v:=hm
  unfold Ki at hm
  refine .then (.then (.rK ?_))
  replace⟨h0,hm⟩:=Ae hm
  replace⟨h1,hm⟩:=Ae hm
  refine .ghs (fr 77 [(1,zB b0),(5,(.map (some 1))),(6,(AhY n0 n1 c0)),(21,(zB (AiW n1)))]) (Ah5 e1 k2 q0) (.k [1,2] [false] AhJ [1,5,6,21] ⟨Fb h0,Fb h1,trivial⟩) ?_
  replace hm:=Ag hm;rcases hm with⟨h2,hm⟩|⟨h2,hm⟩
  ·refine Gq (AiW n1) h2 ?_
   refine .skip (.ghs (fr 77 [(1,zB b0),(5,(.map (some 1))),(6,(AhY n0 n1 c0))]) (Ah5 e1 k2 q0) (.k [1,2] [false] AhJ [1,5,6] ⟨Fb h0,Fb h1,trivial⟩) ?_)
   refine .join (v:=v) (λy:Bool×Nat×Nat×Nat×List EO×Nat×LV=>((fr 77 [(1,(zB y.1)),(5,(.map (some 1))),(6,(AhY y.2.1 y.2.2.1 y.2.2.2.1))]),(hT 3 [(.map (AaW y) (Acq y)),(oC (AcK y))]))) (λy=>L6 pu n (FX pu n w0) y.1 y.2.1 y.2.2.1 y.2.2.2.1 (AaW y) (Acq y) (AcK y)) ?_ ?_
   ·rintro⟨b3,n2,n3,c1,e2,k3,q1⟩ hm
    unfold L6 at hm
    replace⟨h3,hm⟩:=Ae hm
    refine .reg (eC 1 (keep (Ah5 e2 k3 q1) (oo (bb (Nat.ble 1 n3) (some 1) none) none λl=>some (sliceAt 2 (n2+l*1) 1 (n3 - l) (c1 / 2 - l) (AhI c1)))) (show _=some ((.slice (some ⟨2,(n2+1*1),some 1⟩) (n3 - 1) (2*(c1 / 2 - 1)+bb (AhI c1) 1 0)),(Ah5 e2 k3 q1)) from (RJ h3).trans (by kernel_rfl)) (eE)) ?_
    replace⟨h4,hm⟩:=Ae hm
    replace⟨h5,hm⟩:=Ae hm
    exact⟨(b3,(n2+1*1),(n3 - 1),(2*(c1 / 2 - 1)+bb (AhI c1) 1 0),e2,k3,q1),hm,(.k [1,2] [false] AhJ [1,5,6] ⟨Fb h4,Fb h5,trivial⟩)⟩
   ·refine .block (.then ?_)
    replace⟨h6,hm⟩:=Ae hm
    replace⟨s0,h7,hm⟩:=Sm hm
    refine .reg (eC 1 (keep (Ah5 e1 k2 q0) (bb (an (Nat.blt 0 n1) true) (some (.pointer (some ⟨2,(n0+0*1),none⟩))) none)) (AX h6) (eD (keep (Ah5 e1 k2 q0) (AL q0 (n0+0*1))) (AZ h7) (eE))) ?_
    refine .ghs (fr 77 [(1,zB b0),(5,(.map (some 1))),(6,(AhY n0 n1 c0)),(7,Sl.v 1 s0)]) (Ah5 e1 k2 q0) (.k [1,2] [false] AhJ [1,5,6,7] ⟨Fb h0,Fb h1,trivial⟩) ?_
    refine .then (.rK (.ghs (fr 77 [(1,zB b0),(5,(.map (some 1))),(6,(AhY n0 n1 c0)),(7,Sl.v 1 s0),(28,(Ah6 s0)),(29,(zI (0:Int)))]) (Ah5 e1 k2 q0) (.k [1,2] [false] AhJ [1,5,6,7,28,29] ⟨Fb h0,Fb h1,trivial⟩) ?_))
    refine .block (.loopM (v:=v) (λy:Bool×Nat×Nat×Nat×Sl×Int×Int×List EO×Nat×LV=>((fr 77 [(1,(zB y.1)),(5,(.map (some 1))),(6,(AhY y.2.1 y.2.2.1 y.2.2.2.1)),(7,(Sl.v 1 (AaW y))),(28,(zI (Acq y))),(29,(zI (Ac3 y)))]),(hT 3 [(.map (Ac4 y) (Ac5 y)),(oC (Ac6 y))]))) (λw y=>G9 pu n (FX pu n w0) w y.1 y.2.1 y.2.2.1 y.2.2.2.1 (AaW y) (Acq y) (Ac3 y) (Ac4 y) (Ac5 y) (Ac6 y)) n ⟨(b0,n0,n1,c0,s0,(Int.ofNat (Sl.n s0)),(0:Int),e1,k2,q0),hm,(.k [1,2] [false] AhJ [1,5,6,7,28,29] ⟨Fb h0,Fb h1,trivial⟩)⟩ (λ_=>rfl) ?_)
    rintro w1 ⟨b4,n4,n5,c2,s1,z0,z1,e3,k4,q2⟩ hm
    replace hm:Kh pu n (FX pu n w0) (G9 pu n (FX pu n w0) w1) b4 n4 n5 c2 s1 z0 z1 e3 k4 q2=some v:=hm
    unfold Kh at hm
    refine .then (.rK ?_)
    replace⟨h8,hm⟩:=Ae hm
    replace⟨h9,hm⟩:=Ae hm
    refine .ghs (fr 77 [(1,zB b4),(5,(.map (some 1))),(6,(AhY n4 n5 c2)),(7,Sl.v 1 s1),(28,zI z0),(29,zI z1),(30,(zB (AY z1 z0)))]) (Ah5 e3 k4 q2) (.k [1,2] [false] AhJ [1,5,6,7,28,29,30] ⟨Fb h8,Fb h9,trivial⟩) ?_
    refine .then ?_
    replace hm:=Ag hm;rcases hm with⟨h10,hm⟩|⟨h10,hm⟩
    ·refine Gq (AY z1 z0) h10 ?_
     refine .skip (.ghs (fr 77 [(1,zB b4),(5,(.map (some 1))),(6,(AhY n4 n5 c2)),(7,Sl.v 1 s1),(28,zI z0),(29,zI z1)]) (Ah5 e3 k4 q2) (.k [1,2] [false] AhJ [1,5,6,7,28,29] ⟨Fb h8,Fb h9,trivial⟩) ?_)
     refine .join (v:=v) (λy:Bool×Nat×Nat×Nat×Sl×Int×Int×List EO×Nat×LV=>((fr 77 [(1,(zB y.1)),(5,(.map (some 1))),(6,(AhY y.2.1 y.2.2.1 y.2.2.2.1)),(7,(Sl.v 1 (AaW y))),(28,(zI (Acq y))),(29,(zI (Ac3 y)))]),(hT 3 [(.map (Ac4 y) (Ac5 y)),(oC (Ac6 y))]))) (λy=>MF pu n (FX pu n w0) (G9 pu n (FX pu n w0) w1) y.1 y.2.1 y.2.2.1 y.2.2.2.1 (AaW y) (Acq y) (Ac3 y) (Ac4 y) (Ac5 y) (Ac6 y)) ?_ ?_
     ·rintro⟨b5,n6,n7,c3,s2,z2,z3,e4,k5,q3⟩ hm
      unfold MF at hm
      refine .rK ?_
      replace⟨h11,hm⟩:=Ae hm
      replace⟨h12,hm⟩:=Ae hm
      exact⟨(b5,n6,n7,c3,s2,z2,(AhE z3),e4,k5,q3),hm,(.k [1,2] [false] AhJ [1,5,6,7,28,29] ⟨Fb h11,Fb h12,trivial⟩)⟩
     ·refine .block (.then (.rK (.ghs (fr 77 [(1,zB b4),(5,(.map (some 1))),(6,(AhY n4 n5 c2)),(7,Sl.v 1 s1),(8,zI z1),(28,zI z0),(29,zI z1)]) (Ah5 e3 k4 q2) (.k [1,2] [false] AhJ [1,5,6,7,8,28,29] ⟨Fb h8,Fb h9,trivial⟩) ?_)))
      refine .then (.rK (.ghs (fr 77 [(1,zB b4),(5,(.map (some 1))),(6,(AhY n4 n5 c2)),(7,Sl.v 1 s1),(8,zI z1),(9,(zI (AhE z1))),(28,zI z0),(29,zI z1)]) (Ah5 e3 k4 q2) (.k [1,2] [false] AhJ [1,5,6,7,8,9,28,29] ⟨Fb h8,Fb h9,trivial⟩) ?_))
      refine .block (.loopM (v:=v) (λy:Bool×Nat×Nat×Nat×Sl×Int×Int×Int×Int×List EO×Nat×LV=>((fr 77 [(1,(zB y.1)),(5,(.map (some 1))),(6,(AhY y.2.1 y.2.2.1 y.2.2.2.1)),(7,(Sl.v 1 (AaW y))),(8,(zI (Acq y))),(9,(zI (Ac3 y))),(28,(zI (Ac4 y))),(29,(zI (Ac5 y)))]),(hT 3 [(.map (Ac7 y) (Ac8 y)),(oC (Aex y))]))) (λw y=>Iz pu n (FX pu n w0) (G9 pu n (FX pu n w0) w1) w y.1 y.2.1 y.2.2.1 y.2.2.2.1 (AaW y) (Acq y) (Ac3 y) (Ac4 y) (Ac5 y) (Ac7 y) (Ac8 y) (Aex y)) n ⟨(b4,n4,n5,c2,s1,z1,(AhE z1),z0,z1,e3,k4,q2),hm,(.k [1,2] [false] AhJ [1,5,6,7,8,9,28,29] ⟨Fb h8,Fb h9,trivial⟩)⟩ (λ_=>rfl) ?_)
      rintro w2 ⟨b6,n8,n9,c4,s3,z4,z5,z6,z7,e5,k6,q4⟩ hm
      replace hm:JO pu n (FX pu n w0) (G9 pu n (FX pu n w0) w1) (Iz pu n (FX pu n w0) (G9 pu n (FX pu n w0) w1) w2) b6 n8 n9 c4 s3 z4 z5 z6 z7 e5 k6 q4=some v:=hm
      unfold JO at hm
      refine .then (.join (v:=v) (λy:Bool×Nat×Nat×Nat×Sl×Int×Int×Int×Int×Bool×List EO×Nat×LV=>((fr 77 [(1,(zB y.1)),(5,(.map (some 1))),(6,(AhY y.2.1 y.2.2.1 y.2.2.2.1)),(7,(Sl.v 1 (AaW y))),(8,(zI (Acq y))),(9,(zI (Ac3 y))),(28,(zI (Ac4 y))),(29,(zI (Ac5 y))),(47,(zB (Ac7 y)))]),(hT 3 [(.map (Ac8 y) (Ac9 y)),(oC (Ada y))]))) (λy=>Iy pu n (FX pu n w0) (G9 pu n (FX pu n w0) w1) (Iz pu n (FX pu n w0) (G9 pu n (FX pu n w0) w1) w2) y.1 y.2.1 y.2.2.1 y.2.2.2.1 (AaW y) (Acq y) (Ac3 y) (Ac4 y) (Ac5 y) (Ac7 y) (Ac8 y) (Ac9 y) (Ada y)) ?_ ?_)
      ·rintro⟨b7,n10,n11,c5,s4,z8,z9,z10,z11,b8,e6,k7,q5⟩ hm
       unfold Iy at hm
       replace hm:=Ag hm;rcases hm with⟨h13,hm⟩|⟨h13,hm⟩
       ·refine .ifT b8 (by kernel_rfl) h13 ?_
        refine .skip ?_
        replace⟨h14,hm⟩:=Ae hm
        replace⟨h15,hm⟩:=Ae hm
        refine .ghs (fr 77 [(1,zB b7),(5,(.map (some 1))),(6,(AhY n10 n11 c5)),(7,Sl.v 1 s4),(8,zI z8),(9,zI z9),(28,zI z10),(29,zI z11)]) (Ah5 e6 k7 q5) (.k [1,2] [false] AhJ [1,5,6,7,8,9,28,29] ⟨Fb h14,Fb h15,trivial⟩) ?_
        refine .join (v:=v) (λy:Bool×Nat×Nat×Nat×Sl×Int×Int×Int×Int×List EO×Nat×LV=>((fr 77 [(1,(zB y.1)),(5,(.map (some 1))),(6,(AhY y.2.1 y.2.2.1 y.2.2.2.1)),(7,(Sl.v 1 (AaW y))),(8,(zI (Acq y))),(9,(zI (Ac3 y))),(28,(zI (Ac4 y))),(29,(zI (Ac5 y)))]),(hT 3 [(.map (Ac7 y) (Ac8 y)),(oC (Aex y))]))) (λy=>LJ pu n (FX pu n w0) (G9 pu n (FX pu n w0) w1) (Iz pu n (FX pu n w0) (G9 pu n (FX pu n w0) w1) w2) y.1 y.2.1 y.2.2.1 y.2.2.2.1 (AaW y) (Acq y) (Ac3 y) (Ac4 y) (Ac5 y) (Ac7 y) (Ac8 y) (Aex y)) ?_ ?_
        ·rintro⟨b9,n12,n13,c6,s5,z12,z13,z14,z15,e7,k8,q6⟩ hm
         unfold LJ at hm
         refine .rK ?_
         replace⟨h16,hm⟩:=Ae hm
         replace⟨h17,hm⟩:=Ae hm
         exact⟨(b9,n12,n13,c6,s5,z12,(AhE z13),z14,z15,e7,k8,q6),hm,(.k [1,2] [false] AhJ [1,5,6,7,8,9,28,29] ⟨Fb h16,Fb h17,trivial⟩)⟩
        ·refine .block (.then ?_)
         replace⟨s6,h18,hm⟩:=Sm hm
         refine .reg (eC 3 ((oo (pu 24 [Sl.v 1 s4,zI z8,zI z9]) none λv=>some (v,(Ah5 e6 k7 q5)))) (AB h18) (eE)) ?_
         refine .ghs (fr 77 [(1,zB b7),(5,(.map (some 1))),(6,(AhY n10 n11 c5)),(7,Sl.v 1 s4),(8,zI z8),(9,zI z9),(10,Sl.v 1 s6),(28,zI z10),(29,zI z11)]) (Ah5 e6 k7 q5) (.k [1,2] [false] AhJ [1,5,6,7,8,9,10,28,29] ⟨Fb h14,Fb h15,trivial⟩) ?_
         refine .then ?_
         replace⟨x0,h19,hm⟩:=Hw hm
         replace⟨r0,h20,hm⟩:=Ab hm
         replace⟨x1,h21,hm⟩:=Ab hm
         refine .reg (eC 2 ((oo (pu 23 [Sl.v 1 s6]) none λv=>some (v,(Ah5 e6 k7 q5)))) (AB h19) (eD (keep (Ah5 e6 k7 q5) (oo (GD (zI x0) e6 0) none λr=>oo r (okV true (zI (0:Int)) false) λp=>pp p λ_ v=>okV true v true)) (Ur h20 (Eh h21)) (eE))) ?_
         refine .ghs (fr 77 [(1,zB b7),(5,(.map (some 1))),(6,(AhY n10 n11 c5)),(7,Sl.v 1 s4),(8,zI z8),(9,zI z9),(10,Sl.v 1 s6),(12,(zB (isS r0))),(28,zI z10),(29,zI z11)]) (Ah5 e6 k7 q5) (.k [1,2] [false] AhJ [1,5,6,7,8,9,10,12,28,29] ⟨Fb h14,Fb h15,trivial⟩) ?_
         refine .then (.rK (.ghs (fr 77 [(1,zB b7),(5,(.map (some 1))),(6,(AhY n10 n11 c5)),(7,Sl.v 1 s4),(8,zI z8),(9,zI z9),(10,Sl.v 1 s6),(28,zI z10),(29,zI z11),(62,(zB (nt (isS r0))))]) (Ah5 e6 k7 q5) (.k [1,2] [false] AhJ [1,5,6,7,8,9,10,28,29,62] ⟨Fb h14,Fb h15,trivial⟩) ?_))
         replace hm:=Ag hm;rcases hm with⟨h22,hm⟩|⟨h22,hm⟩
         ·refine Gq (nt (isS r0)) h22 ?_
          refine .then ?_
          replace⟨x2,h23,hm⟩:=Hw hm
          replace⟨x3,h24,hm⟩:=Hw hm
          replace⟨r1,h25,hm⟩:=Ab hm
          replace⟨x4,h26,hm⟩:=Ab hm
          replace⟨r2,h27,hm⟩:=Ab hm
          refine .reg (eC 2 ((oo (pu 23 [Sl.v 1 s6]) none λv=>some (v,(Ah5 e6 k7 q5)))) (AB h23) (eC 2 ((oo (pu 23 [Sl.v 1 s4]) none λv=>some (v,(Ah5 e6 k7 q5)))) (AB h24) (eD (keep (Ah5 e6 k7 q5) (oo (GD (zI x3) e6 0) none λr=>oo r Ajq λp=>pp p λ_ v=>okV false v true)) (MM h25 (Eh h26)) (eC 1 (done (oo (GD (zI x2) e6 0) none λr=>oo r (some (Aa.set (Ah5 e6 k7 q5) 1 (.map (Br e6 [⟨zI x2,(zI (AhE x4)),k7⟩]) (k7+1)))) λp=>pp p λj _=>some (Aa.set (Ah5 e6 k7 q5) 1 (.map (SS (λe=>⟨zI x2,(zI (AhE x4)),e.born⟩) j e6) k7))) undef) (Us (H2:=(hT 3 [(.map (Gr (zI x2) (zI (AhE x4)) k7 e6 r2) (Ja k7 r2)),oC q5])) h27) (eE))))) ?_
          replace⟨h28,hm⟩:=Ae hm
          refine .ghs (fr 77 [(1,zB b7),(5,(.map (some 1))),(6,(AhY n10 n11 c5)),(7,Sl.v 1 s4),(8,zI z8),(9,zI z9),(10,Sl.v 1 s6),(28,zI z10),(29,zI z11)]) (hT 3 [(.map (Gr (zI x2) (zI (AhE x4)) k7 e6 r2) (Ja k7 r2)),oC q5]) (.k [1,2] [false] AhJ [1,5,6,7,8,9,10,28,29] ⟨Fb h28,Fb h15,trivial⟩) ?_
          replace⟨h29,hm⟩:=Ae hm
          refine .reg (eC 3 (T9 1 24 n10 n11 c5 1 2 q5 [Sl.v 1 s6] [] (hT 4 [(.map (Gr (zI x2) (zI (AhE x4)) k7 e6 r2) (Ja k7 r2)),oC q5,(oC [Sl.v 1 s6])])) (Wj h29) (eE)) ?_
          replace⟨h30,hm⟩:=Ae hm
          exact⟨(b7,0,(n11+1),(d2 (n11+1)),s4,z8,z9,z10,z11,(Gr (zI x2) (zI (AhE x4)) k7 e6 r2),(Ja k7 r2),(Br (Am n10 q5) [Sl.v 1 s6])),hm,(.k [1,4] [false] AhJ [1,5,6,7,8,9,28,29] ⟨Fb h28,Fb h30,trivial⟩)⟩
         ·refine Gs (nt (isS r0)) h22 ?_
          refine .skip ?_
          exact⟨(b7,n10,n11,c5,s4,z8,z9,z10,z11,e6,k7,q5),hm,(.k [1,2] [false] AhJ [1,5,6,7,8,9,28,29] ⟨Fb h14,Fb h15,trivial⟩)⟩
       ·refine .ifF b8 (by kernel_rfl) h13 ?_
        refine .exit ?_
        replace⟨h31,hm⟩:=Ae hm
        replace⟨h32,hm⟩:=Ae hm
        exact⟨(b7,n10,n11,c5,s4,z10,z11,e6,k7,q5),hm,(.k [1,2] [false] AhJ [1,5,6,7,28,29] ⟨Fb h31,Fb h32,trivial⟩)⟩
      ·replace hm:=Ag hm;rcases hm with⟨h33,hm⟩|⟨h33,hm⟩
       ·replace hm:=Ag hm;rcases hm with⟨h34,hm⟩|⟨h34,hm⟩
        ·refine .reg (eC 3 (some ((zB (Aie z5 s3)),(Ah5 e5 k6 q4))) (show _=some ((zB true),_) from (by rw[show (Aie z5 s3)=true from h33])) (eC 2 (some ((zB (nt b6)),(Ah5 e5 k6 q4))) (show _=some ((zB true),_) from (by rw[show (nt b6)=true from h34])) (eE))) ?_
         replace⟨h35,hm⟩:=Ae hm
         replace⟨h36,hm⟩:=Ae hm
         exact⟨(b6,n8,n9,c4,s3,z4,z5,z6,z7,true,e5,k6,q4),hm,(.k [1,2] [false] AhJ [1,5,6,7,8,9,28,29,47] ⟨Fb h35,Fb h36,trivial⟩)⟩
        ·refine .reg (eC 3 (some ((zB (Aie z5 s3)),(Ah5 e5 k6 q4))) (show _=some ((zB true),_) from (by rw[show (Aie z5 s3)=true from h33])) (eC 2 (some ((zB (nt b6)),(Ah5 e5 k6 q4))) (show _=some ((zB false),_) from (by rw[show (nt b6)=false from h34])) (eE))) ?_
         replace⟨h37,hm⟩:=Ae hm
         replace⟨h38,hm⟩:=Ae hm
         exact⟨(b6,n8,n9,c4,s3,z4,z5,z6,z7,(Bd z5 (AhE z4)),e5,k6,q4),hm,(.k [1,2] [false] AhJ [1,5,6,7,8,9,28,29,47] ⟨Fb h37,Fb h38,trivial⟩)⟩
       ·refine .reg (eC 3 (some ((zB (Aie z5 s3)),(Ah5 e5 k6 q4))) (show _=some ((zB false),_) from (by rw[show (Aie z5 s3)=false from h33])) (eE)) ?_
        replace⟨h39,hm⟩:=Ae hm
        replace⟨h40,hm⟩:=Ae hm
        exact⟨(b6,n8,n9,c4,s3,z4,z5,z6,z7,false,e5,k6,q4),hm,(.k [1,2] [false] AhJ [1,5,6,7,8,9,28,29,47] ⟨Fb h39,Fb h40,trivial⟩)⟩
    ·refine Gs (AY z1 z0) h10 ?_
     refine .exit ?_
     exact⟨(b4,n4,n5,c2,e3,k4,q2),hm,(.k [1,2] [false] AhJ [1,5,6] ⟨Fb h8,Fb h9,trivial⟩)⟩
  ·refine Gs (AiW n1) h2 ?_
   refine .exit ?_
   exact⟨(e1,k2),hm,(.k [1] [false] [.tmp 5 false] [5] ⟨Fb h0,trivial⟩)⟩
theorem AbB {call:A8} (pu:Af) (n:Nat) (hcall:call=Bb tabs Ir pu (inl pu)) {args:LV} {os:List AJ} {z:Value} (ha:args.length=2) (hk:os.length=0) (hpl:∀ o∈os,plainO o) (hm:RY pu n (args++os.map Ef)=some z):args.length≤77∧BN tt call (tabs.length+0) QD (Fr.made 77 args) (BK tabs os) (FJ tt tabs.length 0 [.tmp 4] z):=by
 subst hcall
 have hq:=BC ha;clear ha;obtain⟨a0,args,rfl,ha⟩:=hq
 have hq:=BC ha;clear ha;obtain⟨a1,args,rfl,ha⟩:=hq
 obtain rfl:=len_nil ha
 obtain rfl:=len_nil hk
 replace hm:RY pu n [a0,a1]=some z:=hm
 unfold RY at hm
 replace hm:(oo (Bj 1 a0) none λs0=>(oo (Bf a1) none λb0=>(Nh pu n s0 b0)))=some z:=hm
 replace hm:=Al hm;obtain⟨s0,rfl,hm⟩:=hm
 replace hm:=Be hm;obtain⟨b0,rfl,hm⟩:=hm
 refine⟨by simp,?_⟩
 exact .same (F':=(fr 77 [(0,Sl.v 1 s0),(1,zB b0)])) (H':=FD) (by kernel_rfl) (by kernel_rfl) (AbA pu n s0 b0 hm)
def Jf (pu:Af) (n:Nat) (s0:Sl) (b0:Bool) (s1:Sl) (z0:Int) (s2 s3 s4:Sl) (e0:List EO) (k1:Nat) (e1:List EO) (k2:Nat):OV:=
 (bb b0 (bb (Au F4 e0) (bb (Au F4 e1) (some (.tuple ⟨[(.tuple ⟨[]⟩),(.agg ⟨[Sl.v 1 s1]⟩),(.agg ⟨[(.map (some 7))]⟩),(.agg ⟨[.int .i64 z0,Sl.v 1 s2,Sl.v 1 s3]⟩),(.agg ⟨[(.map (some 8))]⟩),(.agg ⟨[(.func (.func 60) ⟨[]⟩ ⟨[(.pointer (some ⟨1,0,none⟩)),(.pointer (some ⟨2,0,none⟩)),(.pointer (some ⟨3,0,none⟩)),(.pointer (some ⟨4,0,none⟩)),(.pointer (some ⟨5,0,none⟩)),(.pointer (some ⟨6,0,none⟩))]⟩)]⟩),(.agg ⟨[Sl.v 1 s0]⟩),(Ef (.map e0 k1)),(Ef (.map e1 k2))]⟩)) none) none) (bb (Au F4 e0) (bb (Au F4 e1) (some (.tuple ⟨[(.tuple ⟨[]⟩),(.agg ⟨[Sl.v 1 s1]⟩),(.agg ⟨[(.map (some 7))]⟩),(.agg ⟨[.int .i64 z0,Sl.v 1 s2,Sl.v 1 s3]⟩),(.agg ⟨[(.map (some 8))]⟩),(.agg ⟨[(.func (.func 60) ⟨[]⟩ ⟨[(.pointer (some ⟨1,0,none⟩)),(.pointer (some ⟨2,0,none⟩)),(.pointer (some ⟨3,0,none⟩)),(.pointer (some ⟨4,0,none⟩)),(.pointer (some ⟨5,0,none⟩)),(.pointer (some ⟨6,0,none⟩))]⟩)]⟩),(.agg ⟨[Sl.v 1 s4]⟩),(Ef (.map e0 k1)),(Ef (.map e1 k2))]⟩)) none) none))
def KJ (pu:Af) (n n0 c0:Nat) (s0:Sl) (z0:Int) (s1 s2 s3:Sl) (e0:List EO) (k1:Nat) (e1:List EO) (k2:Nat) (q0:LV):OV:=
 (bb (an (Nat.ble (0+n0*1) (len q0)) (Au Ah (Aq (n0*1) (Am 0 q0)))) (bb (AY (Int.ofNat (Sl.n s3)) (Int.ofNat (Sl.n (Sl.mk n0 0 (Aq (n0*1) (Am 0 q0)))))) (bb (Au F4 e0) (bb (Au F4 e1) (Jf pu n (Sl.mk n0 0 (Aq (n0*1) (Am 0 q0))) true s0 z0 s1 s2 s3 e0 k1 e1 k2) none) none) (bb (Bd (Int.ofNat (Sl.n (Sl.mk n0 0 (Aq (n0*1) (Am 0 q0))))) (Int.ofNat (Sl.n s3))) (oo (pu 61 [(Sl.v 1 (Sl.mk n0 0 (Aq (n0*1) (Am 0 q0)))),Sl.v 1 s3]) none λv0=>(oo (Bf v0) none λb0=>(bb (Au F4 e0) (bb (Au F4 e1) (Jf pu n (Sl.mk n0 0 (Aq (n0*1) (Am 0 q0))) b0 s0 z0 s1 s2 s3 e0 k1 e1 k2) none) none))) (bb (Au F4 e0) (bb (Au F4 e1) (Jf pu n (Sl.mk n0 0 (Aq (n0*1) (Am 0 q0))) false s0 z0 s1 s2 s3 e0 k1 e1 k2) none) none))) none)
def KS (pu:Af) (n:Nat) (ih0:Ajs) (n0 c0:Nat) (s0:Sl) (z0 z1:Int) (s1:Sl) (z2:Int) (s2 s3 s4:Sl) (e0:List EO) (k1:Nat) (e1:List EO) (k2:Nat) (q0:LV) (e2:List EO) (k3:Nat):OV:=
 (bb (Au F4 e0) (bb (Au F4 e1) (bb (Au Ah q0) (bb (Au F4 e2) (ih0 n0 c0 s0 z0 (Aj .i64 (Int.add z1 (1:Int))) s1 z2 s2 s3 s4 e0 k1 e1 k2 q0 e2 k3) none) none) none) none)
def KT (pu:Af) (n:Nat) (ih0:Ajs) (n0 c0 n1 c1:Nat) (s0:Sl) (z0 z1:Int) (s1:Sl) (z2:Int) (s2 s3 s4:Sl) (e0:List EO) (k1:Nat) (e1:List EO) (k2:Nat) (q0:LV) (e2:List EO) (k3:Nat) (q1:LV):OV:=
 (bb (Au F4 e0) (bb (Au F4 e1) (bb (Au Ah q0) (bb (Au F4 e2) (bb (Au Ah q1) (bb (AY (0:Int) (Int.ofNat n1)) (bb (an (Nat.ble (0+n1*1) (len q1)) (Au Ah (Aq (n1*1) (Am 0 q1)))) (bb (GV 1 24 n0 c0 1 q0) (bb (Au Ah (Br (Am 0 q0) [(Sl.v 1 (Sl.mk n1 0 (Aq (n1*1) (Am 0 q1))))])) (KS pu n ih0 (n0+1) (2*(n0+1)+bb false 1 0) s0 z0 z1 s1 z2 s2 s3 s4 e0 k1 e1 k2 (Br (Am 0 q0) [(Sl.v 1 (Sl.mk n1 0 (Aq (n1*1) (Am 0 q1))))]) e2 k3) none) none) none) (KS pu n ih0 n0 c0 s0 z0 z1 s1 z2 s2 s3 s4 e0 k1 e1 k2 q0 e2 k3)) none) none) none) none) none)
def JP (pu:Af) (n:Nat) (ih0:Ajs) (ih1:Ajx) (n0 c0:Nat) (z0:Int) (n1 c1:Nat) (s0:Sl) (z1 z2:Int) (s1:Sl) (z3:Int) (s2 s3 s4:Sl) (e0:List EO) (k1:Nat) (e1:List EO) (k2:Nat) (q0:LV) (e2:List EO) (k3:Nat) (q1:LV):OV:=
 (oo (GD (.int .i64 z0) e2 0) none λr0=>(oo (Bf (Wd r0 (.bool false))) none λb0=>(bb (Au F4 e0) (bb (Au F4 e1) (bb (Au Ah q0) (bb (Au F4 e2) (bb (Au Ah q1) (bb (nt b0) (oo (GD (.int .i64 z0) e2 0) none λr1=>(bb (Au F4 (Gr (.int .i64 z0) (.bool true) k3 e2 r1)) (bb (GV 1 8 n1 c1 1 q1) (bb (Au Ah (Br (Am 0 q1) [.int .i64 z0])) (oo (GD (.int .i64 z0) e1 0) none λr2=>(oo (Bi .i64 (Wd r2 (.int .i64 (0:Int)))) none λx0=>(ih1 n0 c0 x0 (n1+1) (2*(n1+1)+bb false 1 0) s0 z1 z2 s1 z3 s2 s3 s4 e0 k1 e1 k2 q0 (Gr (.int .i64 z0) (.bool true) k3 e2 r1) (Ja k3 r1) (Br (Am 0 q1) [.int .i64 z0])))) none) none) none)) (KT pu n ih0 n0 c0 n1 c1 s0 z1 z2 s1 z3 s2 s3 s4 e0 k1 e1 k2 q0 e2 k3 q1)) none) none) none) none) none)))
def Jg (pu:Af) (n:Nat) (ih0:Ajs) (w:Nat):Ajx:=
 Nat.rec (motive:=λ_=>Ajx) (λ_ _ _ _ _ _ _ _ _ _ _ _ _ _ _ _ _ _ _ _ _=>none) (λ_ ih1=>JP pu n ih0 ih1) w
def MG (pu:Af) (n:Nat) (ih0:Ajs) (n0 c0:Nat) (s0:Sl) (z0 z1:Int) (s1:Sl) (z2:Int) (s2 s3 s4:Sl) (e0:List EO) (k1:Nat) (e1:List EO) (k2:Nat) (q0:LV) (e2:List EO) (k3:Nat):OV:=
 (bb (Au F4 e0) (bb (Au F4 e1) (bb (Au Ah q0) (bb (Au F4 e2) (bb (AY z1 z0) (oo (EA z1) none λk4=>(bb (an (Nat.blt k4 (Sl.n s0)) true) (oo (AL (Sl.cs s0) (k4*1)) none λv0=>(oo (Bi .i64 v0) none λx0=>(Jg pu n ih0 n n0 c0 x0 0 0 s0 z0 (Int.ofNat k4) s1 z2 s2 s3 s4 e0 k1 e1 k2 q0 e2 k3 ([]:LV)))) none)) (KJ pu n n0 c0 s1 z2 s2 s3 s4 e0 k1 e1 k2 q0)) none) none) none) none)
def Gy (pu:Af) (n w:Nat):Ajs:=
 Nat.rec (motive:=λ_=>Ajs) (λ_ _ _ _ _ _ _ _ _ _ _ _ _ _ _ _ _=>none) (λ_ ih0=>MG pu n ih0) w
def KU (pu:Af) (n:Nat) (s0:Sl) (z0:Int) (s1 s2 s3:Sl) (e0:List EO) (k1:Nat) (e1:List EO) (k2:Nat):OV:=
 (bb (Au F4 e0) (bb (Au F4 e1) (bb (Au F4 ([]:List EO)) (Gy pu n n 0 0 s0 (Int.ofNat (Sl.n s0)) (0:Int) s0 z0 s1 s2 s3 e0 k1 e1 k2 ([]:LV) ([]:List EO) 0) none) none) none)
def MH (pu:Af) (n:Nat) (s0:Sl) (z0:Int) (s1 s2 s3:Sl) (e0:List EO) (k1:Nat) (e1:List EO) (k2:Nat):OV:=
 (bb (Au F4 e0) (bb (Au F4 e1) (some (.tuple ⟨[(.tuple ⟨[]⟩),(.agg ⟨[Sl.v 1 s0]⟩),(.agg ⟨[(.map (some 7))]⟩),(.agg ⟨[.int .i64 z0,Sl.v 1 s1,Sl.v 1 s2]⟩),(.agg ⟨[(.map (some 8))]⟩),(.agg ⟨[(.func (.func 60) ⟨[]⟩ ⟨[(.pointer (some ⟨1,0,none⟩)),(.pointer (some ⟨2,0,none⟩)),(.pointer (some ⟨3,0,none⟩)),(.pointer (some ⟨4,0,none⟩)),(.pointer (some ⟨5,0,none⟩)),(.pointer (some ⟨6,0,none⟩))]⟩)]⟩),(.agg ⟨[Sl.v 1 s3]⟩),(Ef (.map e0 k1)),(Ef (.map e1 k2))]⟩)) none) none)
def KV (pu:Af) (n:Nat) (ih0:Ajw) (z0:Int) (s0:Sl) (z1 z2:Int) (s1:Sl) (z3:Int) (s2 s3 s4:Sl) (e0:List EO) (k1:Nat) (e1:List EO) (k2:Nat):OV:=
 (bb (Au F4 e0) (bb (Au F4 e1) (ih0 z0 s0 z1 (Aj .i64 (Int.add z2 (1:Int))) s1 z3 s2 s3 s4 e0 k1 e1 k2) none) none)
def Je (pu:Af) (n:Nat) (ih0:Ajw) (z0 z1:Int) (s0:Sl) (z2 z3:Int) (b0:Bool) (s1:Sl) (z4:Int) (s2 s3 s4:Sl) (e0:List EO) (k1:Nat) (e1:List EO) (k2:Nat):OV:=
 (bb b0 (oo (EA z0) none λk3=>(bb (an (Nat.blt k3 (Sl.n s1)) true) (oo (AL (Sl.cs s1) (k3*1)) none λv0=>(oo (Bi .i64 v0) none λx0=>(oo (GD (.int .i64 z1) e0 0) none λr0=>(oo (GD (.int .i64 x0) e1 0) none λr1=>(oo (Bi .i64 (Wd r1 (.int .i64 (0:Int)))) none λx1=>(oo (U2 (Sr k2 e1 r1) (LP (.int .i64 x0) (.int .i64 (0:Int)) k2 e1 r1) 0) none λj0=>(bb (Au F4 (Gr (.int .i64 z1) (.bool true) k1 e0 r0)) (bb (Au F4 (QH (.int .i64 z1) j0 (LP (.int .i64 x0) (.int .i64 (0:Int)) k2 e1 r1))) (bb (Au F4 (Gr (.int .i64 z1) (.bool true) k1 e0 r0)) (bb (Au F4 (QH (.int .i64 z1) j0 (LP (.int .i64 x0) (.int .i64 (0:Int)) k2 e1 r1))) (oo (pu 10600 [(.int .i64 (Aj .i64 (Int.add (Int.ofNat k3) (1:Int)))),(.pointer (some ⟨1,0,none⟩)),(.pointer (some ⟨2,0,none⟩)),(.pointer (some ⟨3,0,none⟩)),(.pointer (some ⟨4,0,none⟩)),(.pointer (some ⟨5,0,none⟩)),(.pointer (some ⟨6,0,none⟩)),(.agg ⟨[Sl.v 1 s1]⟩),(.agg ⟨[(.map (some 7))]⟩),(.agg ⟨[.int .i64 z4,Sl.v 1 s2,Sl.v 1 s3]⟩),(.agg ⟨[(.map (some 8))]⟩),(.agg ⟨[(.func (.func 60) ⟨[]⟩ ⟨[(.pointer (some ⟨1,0,none⟩)),(.pointer (some ⟨2,0,none⟩)),(.pointer (some ⟨3,0,none⟩)),(.pointer (some ⟨4,0,none⟩)),(.pointer (some ⟨5,0,none⟩)),(.pointer (some ⟨6,0,none⟩))]⟩)]⟩),(.agg ⟨[Sl.v 1 s4]⟩),(Ef (.map (Gr (.int .i64 z1) (.bool true) k1 e0 r0) (Ja k1 r0))),(Ef (.map (QH (.int .i64 z1) j0 (LP (.int .i64 x0) (.int .i64 (0:Int)) k2 e1 r1)) (Ja k2 r1)))]) none λv1=>(oo (CQ v1) none λl0=>(ll l0 none λv2 l0=>(ll l0 none λv3 l0=>(ll l0 none λv4 l0=>(ll l0 none λv5 l0=>(ll l0 none λv6 l0=>(ll l0 none λv7 l0=>(ll l0 none λv8 l0=>(ll l0 none λv9 l0=>(ll l0 none λv10 l0=>(ll l0 (bb (MC v2) (oo (Bt v3) none λl1=>(ll l1 none λv11 l1=>(ll l1 (oo (Bj 1 v11) none λs5=>(oo (Bt v4) none λl2=>(ll l2 none λv12 l2=>(ll l2 (bb (FC v12 7) (oo (Bt v5) none λl3=>(ll l3 none λv13 l3=>(ll l3 none λv14 l3=>(ll l3 none λv15 l3=>(ll l3 (oo (Bi .i64 v13) none λx2=>(oo (Bj 1 v14) none λs6=>(oo (Bj 1 v15) none λs7=>(oo (Bt v6) none λl4=>(ll l4 none λv16 l4=>(ll l4 (bb (FC v16 8) (oo (Bt v7) none λl5=>(ll l5 none λv17 l5=>(ll l5 (oo (Om 60 0 v17) none λl6=>(ll l6 none λv18 l6=>(ll l6 none λv19 l6=>(ll l6 none λv20 l6=>(ll l6 none λv21 l6=>(ll l6 none λv22 l6=>(ll l6 none λv23 l6=>(ll l6 (bb (MK v18 1 0) (bb (MK v19 2 0) (bb (MK v20 3 0) (bb (MK v21 4 0) (bb (MK v22 5 0) (bb (MK v23 6 0) (oo (Bt v8) none λl7=>(ll l7 none λv24 l7=>(ll l7 (oo (Bj 1 v24) none λs8=>(oo (Fj v9) none λy0=>(oo (Fj v10) none λy1=>(bb (Au F4 (Akd.es y0)) (bb (Au F4 (Akd.es y1)) (bb (Au F4 (Akd.es y0)) (bb (Au F4 (Akd.es y1)) (oo (GD (.int .i64 z1) (Akd.es y0) 0) none λr2=>(bb (Au F4 (Gr (.int .i64 z1) (.bool false) (Akd.clock y0) (Akd.es y0) r2)) (KV pu n ih0 (Int.ofNat k3) s0 z2 z3 s5 x2 s6 s7 s8 (Gr (.int .i64 z1) (.bool false) (Akd.clock y0) (Akd.es y0) r2) (Ja (Akd.clock y0) r2) (Akd.es y1) (Akd.clock y1)) none)) none) none) none) none)))) λ_ _=>none))) none) none) none) none) none) none) λ_ _=>none)))))))) λ_ _=>none))) none) λ_ _=>none)))))) λ_ _=>none))))) none) λ_ _=>none)))) λ_ _=>none))) none) λ_ _=>none)))))))))))) none) none) none) none))))))) none)) (bb (Au F4 e0) (bb (Au F4 e1) (KV pu n ih0 z0 s0 z2 z3 s1 z4 s2 s3 s4 e0 k1 e1 k2) none) none))
def MI (pu:Af) (n:Nat) (ih0:Ajw) (z0:Int) (s0:Sl) (z1 z2:Int) (s1:Sl) (z3:Int) (s2 s3 s4:Sl) (e0:List EO) (k1:Nat) (e1:List EO) (k2:Nat):OV:=
 (bb (Au F4 e0) (bb (Au F4 e1) (bb (AY z2 z1) (oo (EA z2) none λk3=>(bb (an (Nat.blt k3 (Sl.n s0)) true) (oo (AL (Sl.cs s0) (k3*1)) none λv0=>(oo (Bi .i64 v0) none λx0=>(oo (GD (.int .i64 x0) e0 0) none λr0=>(oo (Bf (Wd r0 (.bool false))) none λb0=>(bb (nt b0) (oo (EA x0) none λk4=>(bb (an (Nat.blt k4 (Sl.n s2)) true) (oo (AL (Sl.cs s2) (k4*1)) none λv1=>(oo (Bi .i64 v1) none λx1=>(oo (EA z0) none λk5=>(bb (an (Nat.blt k5 (Sl.n s1)) true) (oo (AL (Sl.cs s1) (k5*1)) none λv2=>(oo (Bi .i64 v2) none λx2=>(oo (EA x2) none λk6=>(bb (an (Nat.blt k6 (Sl.n s3)) true) (oo (AL (Sl.cs s3) (k6*1)) none λv3=>(oo (Bi .i64 v3) none λx3=>(Je pu n ih0 (Int.ofNat k5) (Int.ofNat k4) s0 z1 (Int.ofNat k3) (Bd x1 x3) s1 z3 s2 s3 s4 e0 k1 e1 k2))) none)))) none)))) none)) (Je pu n ih0 z0 x0 s0 z1 (Int.ofNat k3) false s1 z3 s2 s3 s4 e0 k1 e1 k2)))))) none)) (MH pu n s1 z3 s2 s3 s4 e0 k1 e1 k2)) none) none)
def IB (pu:Af) (n w:Nat):Ajw:=
 Nat.rec (motive:=λ_=>Ajw) (λ_ _ _ _ _ _ _ _ _ _ _ _ _=>none) (λ_ ih0=>MI pu n ih0) w
def LQ (pu:Af) (n:Nat) (z0:Int) (s0:Sl) (z1:Int) (s1 s2 s3:Sl) (e0:List EO) (k1:Nat) (e1:List EO) (k2:Nat):OV:=
 (bb (Au F4 e0) (bb (Au F4 e1) (bb (AY z0 (Int.ofNat (Sl.n s0))) (IB pu n n z0 s0 (Int.ofNat (Sl.n s0)) (0:Int) s0 z1 s1 s2 s3 e0 k1 e1 k2) (KU pu n s0 z1 s1 s2 s3 e0 k1 e1 k2)) none) none)
def OD (pu:Af) (n:Nat) (args:LV):OV:=
 (ll args none λa0 args=>(ll args none λa1 args=>(ll args none λa2 args=>(ll args none λa3 args=>(ll args none λa4 args=>(ll args none λa5 args=>(ll args none λa6 args=>(ll args none λo0 args=>(ll args none λo1 args=>(ll args none λo2 args=>(ll args none λo3 args=>(ll args none λo4 args=>(ll args none λo5 args=>(ll args none λo6 args=>(ll args none λo7 args=>(ll args (oo (Bi .i64 a0) none λx0=>(bb (MK a1 1 0) (bb (MK a2 2 0) (bb (MK a3 3 0) (bb (MK a4 4 0) (bb (MK a5 5 0) (bb (MK a6 6 0) (oo (Bt o0) none λl0=>(ll l0 none λv0 l0=>(ll l0 (oo (Bj 1 v0) none λs0=>(oo (Bt o1) none λl1=>(ll l1 none λv1 l1=>(ll l1 (bb (FC v1 7) (oo (Bt o2) none λl2=>(ll l2 none λv2 l2=>(ll l2 none λv3 l2=>(ll l2 none λv4 l2=>(ll l2 (oo (Bi .i64 v2) none λx1=>(oo (Bj 1 v3) none λs1=>(oo (Bj 1 v4) none λs2=>(oo (Bt o3) none λl3=>(ll l3 none λv5 l3=>(ll l3 (bb (FC v5 8) (oo (Bt o4) none λl4=>(ll l4 none λv6 l4=>(ll l4 (oo (Om 60 0 v6) none λl5=>(ll l5 none λv7 l5=>(ll l5 none λv8 l5=>(ll l5 none λv9 l5=>(ll l5 none λv10 l5=>(ll l5 none λv11 l5=>(ll l5 none λv12 l5=>(ll l5 (bb (MK v7 1 0) (bb (MK v8 2 0) (bb (MK v9 3 0) (bb (MK v10 4 0) (bb (MK v11 5 0) (bb (MK v12 6 0) (oo (Bt o5) none λl6=>(ll l6 none λv13 l6=>(ll l6 (oo (Bj 1 v13) none λs3=>(oo (Fj o6) none λy0=>(oo (Fj o7) none λy1=>(LQ pu n x0 s0 x1 s1 s2 s3 (Akd.es y0) (Akd.clock y0) (Akd.es y1) (Akd.clock y1))))) λ_ _=>none))) none) none) none) none) none) none) λ_ _=>none)))))))) λ_ _=>none))) none) λ_ _=>none)))))) λ_ _=>none))))) none) λ_ _=>none)))) λ_ _=>none))) none) none) none) none) none) none)) λ_ _=>none))))))))))))))))
theorem fZ (pu:Af) (n:Nat) (s0:Sl) (b0:Bool) (s1:Sl) (z0:Int) (s2 s3 s4:Sl) (e0:List EO) (k1:Nat) (e1:List EO) (k2:Nat) {v:Value} (hm:Jf pu n s0 b0 s1 z0 s2 s3 s4 e0 k1 e1 k2=some v):BN tt (Bb tabs Ir pu (inl pu)) 9 fF (fr 108 [(6,(pt 6 0)),(10,Sl.v 1 s0),(106,zB b0)]) (hT 9 [(oC [Sl.v 1 s1]),(oC [(.map (some 7))]),(oC [zI z0,Sl.v 1 s2,Sl.v 1 s3]),(oC [(.map (some 8))]),(oC [(.func (.func 60) ⟨[]⟩ ⟨[pt 1 0,(pt 2 0),(pt 3 0),(pt 4 0),(pt 5 0),(pt 6 0)]⟩)]),(oC [Sl.v 1 s4]),(.map e0 k1),(.map e1 k2)]) (FJ tt 1 8 [] v):=by
 unfold Jf at hm
 replace hm:=Ag hm;rcases hm with⟨h0,hm⟩|⟨h0,hm⟩
 ·refine .ifT b0 (by kernel_rfl) h0 ?_
  refine .rK ?_
  replace⟨h1,hm⟩:=Ae hm
  replace⟨h2,hm⟩:=Ae hm
  refine .ghs (fr 108 []) (Ajg s1 z0 s2 s3 s0 e0 k1 e1 k2) (.k [7,8] Ahw [] [] ⟨Fb h1,Fb h2,trivial⟩) ?_
  exact TU (.tuple ⟨[]⟩) (Ahu s1 z0 s2 s3 s0 e0 k1 e1 k2) (by kernel_rfl) hm (Nat.le_of_ble_eq_true rfl) (Fa (VT _) (Fa (VT _) (Fa (VT _) (Fa (VT _) (Fa (VT _) (Fa (VT _) (Fa (SH _ _) (Fa (SH _ _) EJ))))))))
 ·refine .ifF b0 (by kernel_rfl) h0 ?_
  refine .skip ?_
  replace⟨h3,hm⟩:=Ae hm
  replace⟨h4,hm⟩:=Ae hm
  refine .ghs (fr 108 []) (Ajg s1 z0 s2 s3 s4 e0 k1 e1 k2) (.k [7,8] Ahw [] [] ⟨Fb h3,Fb h4,trivial⟩) ?_
  exact TU (.tuple ⟨[]⟩) (Ahu s1 z0 s2 s3 s4 e0 k1 e1 k2) (by kernel_rfl) hm (Nat.le_of_ble_eq_true rfl) (Fa (VT _) (Fa (VT _) (Fa (VT _) (Fa (VT _) (Fa (VT _) (Fa (VT _) (Fa (SH _ _) (Fa (SH _ _) EJ))))))))
theorem gD (pu:Af) (n n0 c0:Nat) (s0:Sl) (z0:Int) (s1 s2 s3:Sl) (e0:List EO) (k1:Nat) (e1:List EO) (k2:Nat) (q0:LV) {v:Value} (hm:KJ pu n n0 c0 s0 z0 s1 s2 s3 e0 k1 e1 k2 q0=some v):BN tt (Bb tabs Ir pu (inl pu)) 9 fG (fr 108 [(6,(pt 6 0)),(10,sc 9 0 1 n0 c0)]) (hT 10 [(oC [Sl.v 1 s0]),(oC [(.map (some 7))]),(oC [zI z0,Sl.v 1 s1,Sl.v 1 s2]),(oC [(.map (some 8))]),(oC [(.func (.func 60) ⟨[]⟩ ⟨[pt 1 0,(pt 2 0),(pt 3 0),(pt 4 0),(pt 5 0),(pt 6 0)]⟩)]),(oC [Sl.v 1 s3]),(.map e0 k1),(.map e1 k2),oC q0]) (FJ tt 1 8 [] v):=by
 unfold KJ at hm
 refine .join (v:=v) (λy:Sl×Bool×Sl×Int×Sl×Sl×Sl×List EO×Nat×List EO×Nat=>((fr 108 [(6,(pt 6 0)),(10,(Sl.v 1 y.1)),(106,(zB y.2.1))]),(AhW y.2.2.1 y.2.2.2.1 (AaW y) (Acq y) (Ac3 y) (Ac4 y) (Ac5 y) (Ac7 y) (Add y)))) (λy=>Jf pu n y.1 y.2.1 y.2.2.1 y.2.2.2.1 (AaW y) (Acq y) (Ac3 y) (Ac4 y) (Ac5 y) (Ac7 y) (Add y)) ?_ ?_
 ·rintro⟨s4,b0,s5,z1,s6,s7,s8,e2,k3,e3,k4⟩ hm
  exact fZ pu n s4 b0 s5 z1 s6 s7 s8 e2 k3 e3 k4 hm
 ·replace⟨h0,hm⟩:=Ae hm
  refine .ghs (Fr.puts (fr 108 [(6,(pt 6 0)),(10,sc 9 0 1 n0 c0)]) [(10,(Sl.v 1 (Ahx n0 q0)))]) (AhG s0 z0 s1 s2 s3 e0 k1 e1 k2) (.freezeC 9 10 1 (Aij n0 q0) (F1:=(Fr.puts (fr 108 [(6,(pt 6 0)),(10,sc 9 0 1 n0 c0)]) [(10,(Sl.v 1 (Ahx n0 q0)))])) (H1:=(AhG s0 z0 s1 s2 s3 e0 k1 e1 k2)) (by kernel_rfl) (by kernel_rfl) h0 (E9.id _ _)) ?_
  replace hm:=Ag hm;rcases hm with⟨h1,hm⟩|⟨h1,hm⟩
  ·refine .reg (eC 4 (some ((zB (AiK s3 n0 q0)),(AhG s0 z0 s1 s2 s3 e0 k1 e1 k2))) (show _=some ((zB true),_) from (by rw[show (AiK s3 n0 q0)=true from h1])) (eE)) ?_
   replace⟨h2,hm⟩:=Ae hm
   replace⟨h3,hm⟩:=Ae hm
   exact⟨((Ahx n0 q0),true,s0,z0,s1,s2,s3,e0,k1,e1,k2),hm,(.k [7,8] Ahw [] [6,10,106] ⟨Fb h2,Fb h3,trivial⟩)⟩
  ·replace hm:=Ag hm;rcases hm with⟨h4,hm⟩|⟨h4,hm⟩
   ·replace⟨b3,h5,hm⟩:=bW hm
    refine .reg (eC 4 (some ((zB (AiK s3 n0 q0)),(AhG s0 z0 s1 s2 s3 e0 k1 e1 k2))) (show _=some ((zB false),_) from (by rw[show (AiK s3 n0 q0)=false from h1])) (eC 5 (some ((zB (Ai1 n0 q0 s3)),(AhG s0 z0 s1 s2 s3 e0 k1 e1 k2))) (show _=some ((zB true),_) from (by rw[show (Ai1 n0 q0 s3)=true from h4])) (eC 3 ((oo (pu 61 [(Sl.v 1 (Ahx n0 q0)),Sl.v 1 s3]) none λv=>some (v,(AhG s0 z0 s1 s2 s3 e0 k1 e1 k2)))) (AB h5) (eE)))) ?_
    replace⟨h6,hm⟩:=Ae hm
    replace⟨h7,hm⟩:=Ae hm
    exact⟨((Ahx n0 q0),b3,s0,z0,s1,s2,s3,e0,k1,e1,k2),hm,(.k [7,8] Ahw [] [6,10,106] ⟨Fb h6,Fb h7,trivial⟩)⟩
   ·refine .reg (eC 4 (some ((zB (AiK s3 n0 q0)),(AhG s0 z0 s1 s2 s3 e0 k1 e1 k2))) (show _=some ((zB false),_) from (by rw[show (AiK s3 n0 q0)=false from h1])) (eC 5 (some ((zB (Ai1 n0 q0 s3)),(AhG s0 z0 s1 s2 s3 e0 k1 e1 k2))) (show _=some ((zB false),_) from (by rw[show (Ai1 n0 q0 s3)=false from h4])) (eE))) ?_
    replace⟨h8,hm⟩:=Ae hm
    replace⟨h9,hm⟩:=Ae hm
    exact⟨((Ahx n0 q0),false,s0,z0,s1,s2,s3,e0,k1,e1,k2),hm,(.k [7,8] Ahw [] [6,10,106] ⟨Fb h8,Fb h9,trivial⟩)⟩
theorem gF (pu:Af) (n:Nat) (s0:Sl) (z0:Int) (s1 s2 s3:Sl) (e0:List EO) (k1:Nat) (e1:List EO) (k2:Nat) {v:Value} (hm:KU pu n s0 z0 s1 s2 s3 e0 k1 e1 k2=some v):BN tt (Bb tabs Ir pu (inl pu)) 9 fH (fr 108 [(1,pt 1 0),(4,(pt 4 0)),(6,(pt 6 0))]) (hT 9 [(oC [Sl.v 1 s0]),(oC [(.map (some 7))]),(oC [zI z0,Sl.v 1 s1,Sl.v 1 s2]),(oC [(.map (some 8))]),(oC [(.func (.func 60) ⟨[]⟩ ⟨[pt 1 0,(pt 2 0),(pt 3 0),(pt 4 0),(pt 5 0),(pt 6 0)]⟩)]),(oC [Sl.v 1 s3]),(.map e0 k1),(.map e1 k2)]) (FJ tt 1 8 [] v):=by
 unfold KU at hm
 refine .then (.rK ?_)
 replace⟨h0,hm⟩:=Ae hm
 replace⟨h1,hm⟩:=Ae hm
 refine .ghs (fr 108 [(1,pt 1 0),(4,(pt 4 0)),(6,(pt 6 0)),(10,(.slice none 0 0))]) (Ajg s0 z0 s1 s2 s3 e0 k1 e1 k2) (.k [7,8] Ahw [] [1,4,6,10] ⟨Fb h0,Fb h1,trivial⟩) ?_
 refine .then (.rK ?_)
 replace⟨h2,hm⟩:=Ae hm
 refine .ghs (fr 108 [(1,pt 1 0),(4,(pt 4 0)),(6,(pt 6 0)),(10,(.slice none 0 0)),(11,(.map (some 9)))]) (hT 10 [(oC [Sl.v 1 s0]),(oC [(.map (some 7))]),(Ahr z0 s1 s2),(oC [(.map (some 8))]),Ahq,(oC [Sl.v 1 s3]),(.map e0 k1),(.map e1 k2),(.map ([]:List EO) 0)]) (.k [7,8,9] Ahw [.tmp 11 false] [1,4,6,10,11] ⟨Fb h0,Fb h1,Fb h2,trivial⟩) ?_
 refine .join (v:=v) (λy:Nat×Nat×Sl×Int×Sl×Sl×Sl×List EO×Nat×List EO×Nat×LV=>((fr 108 [(6,(pt 6 0)),(10,(sc 9 0 1 y.1 y.2.1))]),(hT 10 [(oC [(Sl.v 1 y.2.2.1)]),(oC [(.map (some 7))]),(AhF y.2.2.2.1 (AaW y) (Acq y)),(oC [(.map (some 8))]),Ahq,(oC [(Sl.v 1 (Ac3 y))]),(.map (Ac4 y) (Ac5 y)),(.map (Ac7 y) (Ac8 y)),(oC (Aex y))]))) (λy=>KJ pu n y.1 y.2.1 y.2.2.1 y.2.2.2.1 (AaW y) (Acq y) (Ac3 y) (Ac4 y) (Ac5 y) (Ac7 y) (Ac8 y) (Aex y)) ?_ ?_
 ·rintro⟨n0,c0,s4,z1,s5,s6,s7,e2,k3,e3,k4,q0⟩ hm
  exact gD pu n n0 c0 s4 z1 s5 s6 s7 e2 k3 e3 k4 q0 hm
 ·refine .then (.rK (.ghs (fr 108 [(4,(pt 4 0)),(6,(pt 6 0)),(10,(.slice none 0 0)),(11,(.map (some 9))),(63,Sl.v 1 s0),(64,(Ah6 s0)),(65,(zI (0:Int)))]) (hT 10 [(oC [Sl.v 1 s0]),(oC [(.map (some 7))]),(Ahr z0 s1 s2),(oC [(.map (some 8))]),Ahq,(oC [Sl.v 1 s3]),(.map e0 k1),(.map e1 k2),(.map ([]:List EO) 0)]) (.k [7,8,9] Ahw [.tmp 11 false] [4,6,10,11,63,64,65] ⟨Fb h0,Fb h1,Fb h2,trivial⟩) ?_))
  refine .block (.loopM (v:=v) (λy:Nat×Nat×Sl×Int×Int×Sl×Int×Sl×Sl×Sl×List EO×Nat×List EO×Nat×LV×List EO×Nat=>((fr 108 [(4,(pt 4 0)),(6,(pt 6 0)),(10,(sc 9 0 1 y.1 y.2.1)),(11,(.map (some 10))),(63,(Sl.v 1 y.2.2.1)),(64,(zI y.2.2.2.1)),(65,(zI (AaW y)))]),(hT 11 [(oC [(Sl.v 1 (Acq y))]),(oC [(.map (some 7))]),(AhF (Ac3 y) (Ac4 y) (Ac5 y)),(oC [(.map (some 8))]),Ahq,(oC [(Sl.v 1 (Ac7 y))]),(.map (Ac8 y) (Ac9 y)),(.map (Aft y) (Afx y)),(oC (Age y)),(.map (AgZ y) (Ag3 y))]))) (λw y=>Gy pu n w y.1 y.2.1 y.2.2.1 y.2.2.2.1 (AaW y) (Acq y) (Ac3 y) (Ac4 y) (Ac5 y) (Ac7 y) (Ac8 y) (Ac9 y) (Aft y) (Afx y) (Age y) (AgZ y) (Ag3 y)) n ⟨(0,0,s0,(Int.ofNat (Sl.n s0)),(0:Int),s0,z0,s1,s2,s3,e0,k1,e1,k2,([]:LV),([]:List EO),0),hm,(.thaw 10 1 (by kernel_rfl) (.k [7,8,9] Ahw AiM [4,6,10,11,63,64,65] ⟨Fb h0,Fb h1,Fb h2,trivial⟩))⟩ (λ_=>rfl) ?_)
  rintro w0 ⟨n1,c1,s8,z2,z3,s9,z4,s10,s11,s12,e4,k5,e5,k6,q1,e6,k7⟩ hm
  replace hm:MG pu n (Gy pu n w0) n1 c1 s8 z2 z3 s9 z4 s10 s11 s12 e4 k5 e5 k6 q1 e6 k7=some v:=hm
  unfold MG at hm
  refine .then (.rK ?_)
  replace⟨h3,hm⟩:=Ae hm
  replace⟨h4,hm⟩:=Ae hm
  replace⟨h5,hm⟩:=Ae hm
  replace⟨h6,hm⟩:=Ae hm
  refine .ghs (fr 108 [(4,(pt 4 0)),(6,(pt 6 0)),(10,sc 9 0 1 n1 c1),(11,(.map (some 10))),(63,Sl.v 1 s8),(64,zI z2),(65,zI z3),(66,(zB (AY z3 z2)))]) (AhU s9 z4 s10 s11 s12 e4 k5 e5 k6 q1 e6 k7) (.k [7,8,9,10] Ahw AiM [4,6,10,11,63,64,65,66] ⟨Fb h3,Fb h4,Fb h5,Fb h6,trivial⟩) ?_
  refine .then ?_
  replace hm:=Ag hm;rcases hm with⟨h7,hm⟩|⟨h7,hm⟩
  ·refine Gq (AY z3 z2) h7 ?_
   refine .skip (.ghs (fr 108 [(4,(pt 4 0)),(6,(pt 6 0)),(10,sc 9 0 1 n1 c1),(11,(.map (some 10))),(63,Sl.v 1 s8),(64,zI z2),(65,zI z3)]) (AhU s9 z4 s10 s11 s12 e4 k5 e5 k6 q1 e6 k7) (.k [7,8,9,10] Ahw AiM [4,6,10,11,63,64,65] ⟨Fb h3,Fb h4,Fb h5,Fb h6,trivial⟩) ?_)
   refine .join (v:=v) (λy:Nat×Nat×Sl×Int×Int×Sl×Int×Sl×Sl×Sl×List EO×Nat×List EO×Nat×LV×List EO×Nat=>((fr 108 [(4,(pt 4 0)),(6,(pt 6 0)),(10,(sc 9 0 1 y.1 y.2.1)),(11,(.map (some 10))),(63,(Sl.v 1 y.2.2.1)),(64,(zI y.2.2.2.1)),(65,(zI (AaW y)))]),(hT 11 [(oC [(Sl.v 1 (Acq y))]),(oC [(.map (some 7))]),(AhF (Ac3 y) (Ac4 y) (Ac5 y)),(oC [(.map (some 8))]),Ahq,(oC [(Sl.v 1 (Ac7 y))]),(.map (Ac8 y) (Ac9 y)),(.map (Aft y) (Afx y)),(oC (Age y)),(.map (AgZ y) (Ag3 y))]))) (λy=>KS pu n (Gy pu n w0) y.1 y.2.1 y.2.2.1 y.2.2.2.1 (AaW y) (Acq y) (Ac3 y) (Ac4 y) (Ac5 y) (Ac7 y) (Ac8 y) (Ac9 y) (Aft y) (Afx y) (Age y) (AgZ y) (Ag3 y)) ?_ ?_
   ·rintro⟨n2,c2,s13,z5,z6,s14,z7,s15,s16,s17,e7,k8,e8,k9,q2,e9,k10⟩ hm
    unfold KS at hm
    refine .rK ?_
    replace⟨h8,hm⟩:=Ae hm
    replace⟨h9,hm⟩:=Ae hm
    replace⟨h10,hm⟩:=Ae hm
    replace⟨h11,hm⟩:=Ae hm
    exact⟨(n2,c2,s13,z5,(AhE z6),s14,z7,s15,s16,s17,e7,k8,e8,k9,q2,e9,k10),hm,(.k [7,8,9,10] Ahw AiM [4,6,10,11,63,64,65] ⟨Fb h8,Fb h9,Fb h10,Fb h11,trivial⟩)⟩
   ·refine .block (.then ?_)
    replace⟨k11,h12,hm⟩:=Ab hm
    obtain rfl:=AR h12
    replace⟨h13,hm⟩:=Ae hm
    replace⟨x0,h14,hm⟩:=Hw hm
    refine .reg (eD (keep (AhU s9 z4 s10 s11 s12 e4 k5 e5 k6 q1 e6 k7) (Aht k11 s8)) (AX h13) (eD (keep (AhU s9 z4 s10 s11 s12 e4 k5 e5 k6 q1 e6 k7) (AL (Sl.cs s8) (k11*1))) (AZ h14) (eE))) ?_
    refine .ghs (fr 108 [(4,(pt 4 0)),(6,(pt 6 0)),(10,sc 9 0 1 n1 c1),(11,(.map (some 10))),(13,zI x0),(63,Sl.v 1 s8),(64,zI z2),(65,(zI (Int.ofNat k11)))]) (AhU s9 z4 s10 s11 s12 e4 k5 e5 k6 q1 e6 k7) (.k [7,8,9,10] Ahw AiM [4,6,10,11,13,63,64,65] ⟨Fb h3,Fb h4,Fb h5,Fb h6,trivial⟩) ?_
    refine .then (.rK (.ghs (fr 108 [(4,(pt 4 0)),(6,(pt 6 0)),(10,sc 9 0 1 n1 c1),(11,(.map (some 10))),(13,zI x0),(14,(.slice none 0 0)),(63,Sl.v 1 s8),(64,zI z2),(65,(zI (Int.ofNat k11)))]) (AhU s9 z4 s10 s11 s12 e4 k5 e5 k6 q1 e6 k7) (.k [7,8,9,10] Ahw AiM AiZ ⟨Fb h3,Fb h4,Fb h5,Fb h6,trivial⟩) ?_))
    refine .join (v:=v) (λy:Nat×Nat×Nat×Nat×Sl×Int×Int×Sl×Int×Sl×Sl×Sl×List EO×Nat×List EO×Nat×LV×List EO×Nat×LV=>((fr 108 [(4,(pt 4 0)),(6,(pt 6 0)),(10,(sc 9 0 1 y.1 y.2.1)),(11,(.map (some 10))),(14,(sc 11 0 1 y.2.2.1 y.2.2.2.1)),(63,(Sl.v 1 (AaW y))),(64,(zI (Acq y))),(65,(zI (Ac3 y)))]),(hT 12 [(oC [(Sl.v 1 (Ac4 y))]),(oC [(.map (some 7))]),(AhF (Ac5 y) (Ac7 y) (Ac8 y)),(oC [(.map (some 8))]),Ahq,(oC [(Sl.v 1 (Ac9 y))]),(.map (Aft y) (Afx y)),(.map (Age y) (AgZ y)),(oC (Ag8 y)),(.map (Ahc y) (Ahl y)),(oC (Ahm y))]))) (λy=>KT pu n (Gy pu n w0) y.1 y.2.1 y.2.2.1 y.2.2.2.1 (AaW y) (Acq y) (Ac3 y) (Ac4 y) (Ac5 y) (Ac7 y) (Ac8 y) (Ac9 y) (Aft y) (Afx y) (Age y) (AgZ y) (Ag8 y) (Ahc y) (Ahl y) (Ahm y)) ?_ ?_
    ·rintro⟨n3,c3,n4,c4,s18,z8,z9,s19,z10,s20,s21,s22,e10,k12,e11,k13,q3,e13,k14,q4⟩ hm
     unfold KT at hm
     refine .then (.rK ?_)
     replace⟨h15,hm⟩:=Ae hm
     replace⟨h16,hm⟩:=Ae hm
     replace⟨h17,hm⟩:=Ae hm
     replace⟨h18,hm⟩:=Ae hm
     replace⟨h19,hm⟩:=Ae hm
     refine .ghs (AiE n3 c3 n4 c4 s18 z8 z9) (AhS s19 z10 s20 s21 s22 e10 k12 e11 k13 q3 e13 k14 q4) (.k [7,8,9,10,11] Ahw Ain [4,6,10,11,14,63,64,65,84] ⟨Fb h15,Fb h16,Fb h17,Fb h18,Fb h19,trivial⟩) ?_
     replace hm:=Ag hm;rcases hm with⟨h20,hm⟩|⟨h20,hm⟩
     ·refine Gq (AiW n4) h20 ?_
      replace⟨h21,hm⟩:=Ae hm
      refine .ghs (Fr.puts (AiE n3 c3 n4 c4 s18 z8 z9) [(14,(Sl.v 1 (Ahx n4 q4)))]) (hT 12 [(oC [Sl.v 1 s19]),(oC [(.map (some 7))]),(Ahr z10 s20 s21),(oC [(.map (some 8))]),Ahq,(oC [Sl.v 1 s22]),(.map e10 k12),(.map e11 k13),oC q3,(.map e13 k14),.dead]) (.freezeC 9 14 1 (Aij n4 q4) (F1:=(Fr.puts (AiE n3 c3 n4 c4 s18 z8 z9) [(14,(Sl.v 1 (Ahx n4 q4)))])) (H1:=(hT 12 [(oC [Sl.v 1 s19]),(oC [(.map (some 7))]),(Ahr z10 s20 s21),(oC [(.map (some 8))]),Ahq,(oC [Sl.v 1 s22]),(.map e10 k12),(.map e11 k13),oC q3,(.map e13 k14),.dead])) (by kernel_rfl) (by kernel_rfl) h21 (E9.id _ _)) ?_
      replace⟨h22,hm⟩:=Ae hm
      refine .reg (eC 3 (Oc 1 24 n3 c3 1 9 q3 [(Sl.v 1 (Ahx n4 q4))] [] (hT 13 [(oC [Sl.v 1 s19]),(oC [(.map (some 7))]),(Ahr z10 s20 s21),(oC [(.map (some 8))]),Ahq,(oC [Sl.v 1 s22]),(.map e10 k12),(.map e11 k13),oC q3,(.map e13 k14),.dead,(oC [(Sl.v 1 (Ahx n4 q4))])])) (I1 h22) (eE)) ?_
      replace⟨h23,hm⟩:=Ae hm
      exact⟨((n3+1),(d2 (n3+1)),s18,z8,z9,s19,z10,s20,s21,s22,e10,k12,e11,k13,(Br (Am 0 q3) [(Sl.v 1 (Ahx n4 q4))]),e13,k14),hm,(.k [7,8,13,10] Ahw AiM [4,6,10,11,63,64,65] ⟨Fb h15,Fb h16,Fb h23,Fb h18,trivial⟩)⟩
     ·refine Gs (AiW n4) h20 ?_
      refine .skip ?_
      exact⟨(n3,c3,s18,z8,z9,s19,z10,s20,s21,s22,e10,k12,e11,k13,q3,e13,k14),hm,(.k [7,8,9,10] Ahw AiM [4,6,10,11,63,64,65] ⟨Fb h15,Fb h16,Fb h17,Fb h18,trivial⟩)⟩
    ·refine .block (.loopM (v:=v) (λy:Nat×Nat×Int×Nat×Nat×Sl×Int×Int×Sl×Int×Sl×Sl×Sl×List EO×Nat×List EO×Nat×LV×List EO×Nat×LV=>((fr 108 [(4,(pt 4 0)),(6,(pt 6 0)),(10,(sc 9 0 1 y.1 y.2.1)),(11,(.map (some 10))),(13,(zI y.2.2.1)),(14,(sc 11 0 1 y.2.2.2.1 (AaW y))),(63,(Sl.v 1 (Acq y))),(64,(zI (Ac3 y))),(65,(zI (Ac4 y)))]),(hT 12 [(oC [(Sl.v 1 (Ac5 y))]),(oC [(.map (some 7))]),(AhF (Ac7 y) (Ac8 y) (Ac9 y)),(oC [(.map (some 8))]),Ahq,(oC [(Sl.v 1 (Aft y))]),(.map (Afx y) (Age y)),(.map (AgZ y) (Ag8 y)),(oC (Ahc y)),(.map (Ahl y) (Ahn y)),(oC (Aho y))]))) (λw y=>Jg pu n (Gy pu n w0) w y.1 y.2.1 y.2.2.1 y.2.2.2.1 (AaW y) (Acq y) (Ac3 y) (Ac4 y) (Ac5 y) (Ac7 y) (Ac8 y) (Ac9 y) (Aft y) (Afx y) (Age y) (AgZ y) (Ag8 y) (Ahc y) (Ahl y) (Ahn y) (Aho y)) n ⟨(n1,c1,x0,0,0,s8,z2,(Int.ofNat k11),s9,z4,s10,s11,s12,e4,k5,e5,k6,q1,e6,k7,([]:LV)),hm,(.thaw 14 1 (by kernel_rfl) (.k [7,8,9,10] Ahw Ain AiZ ⟨Fb h3,Fb h4,Fb h5,Fb h6,trivial⟩))⟩ (λ_=>rfl) ?_)
     rintro w1 ⟨n5,c5,z11,n6,c6,s23,z12,z13,s24,z14,s25,s26,s27,e14,k15,e15,k16,q5,e16,k17,q6⟩ hm
     replace hm:JP pu n (Gy pu n w0) (Jg pu n (Gy pu n w0) w1) n5 c5 z11 n6 c6 s23 z12 z13 s24 z14 s25 s26 s27 e14 k15 e15 k16 q5 e16 k17 q6=some v:=hm
     unfold JP at hm
     refine .then (.then ?_)
     replace⟨r0,h24,hm⟩:=Ab hm
     replace⟨b0,h25,hm⟩:=Ab hm
     refine .reg (eC 2 (keep (AhS s24 z14 s25 s26 s27 e14 k15 e15 k16 q5 e16 k17 q6) (oo (GD (zI z11) e16 0) none λr=>oo r (okV false (zB false) false) λp=>pp p λ_ v=>okV false v true)) (MM h24 (BV h25)) (eE)) ?_
     replace⟨h26,hm⟩:=Ae hm
     replace⟨h27,hm⟩:=Ae hm
     replace⟨h28,hm⟩:=Ae hm
     replace⟨h29,hm⟩:=Ae hm
     replace⟨h30,hm⟩:=Ae hm
     refine .ghs (fr 108 [(4,(pt 4 0)),(6,(pt 6 0)),(10,sc 9 0 1 n5 c5),(11,(.map (some 10))),(13,zI z11),(14,sc 11 0 1 n6 c6),(63,Sl.v 1 s23),(64,zI z12),(65,zI z13),(72,(zB (nt b0)))]) (AhS s24 z14 s25 s26 s27 e14 k15 e15 k16 q5 e16 k17 q6) (.k [7,8,9,10,11] Ahw Ain [4,6,10,11,13,14,63,64,65,72] ⟨Fb h26,Fb h27,Fb h28,Fb h29,Fb h30,trivial⟩) ?_
     replace hm:=Ag hm;rcases hm with⟨h31,hm⟩|⟨h31,hm⟩
     ·refine Gq (nt b0) h31 ?_
      refine .skip (.ghs (fr 108 [(4,(pt 4 0)),(6,(pt 6 0)),(10,sc 9 0 1 n5 c5),(11,(.map (some 10))),(13,zI z11),(14,sc 11 0 1 n6 c6),(63,Sl.v 1 s23),(64,zI z12),(65,zI z13)]) (AhS s24 z14 s25 s26 s27 e14 k15 e15 k16 q5 e16 k17 q6) (.k [7,8,9,10,11] Ahw Ain AiZ ⟨Fb h26,Fb h27,Fb h28,Fb h29,Fb h30,trivial⟩) ?_)
      refine .then (.block (.then ?_))
      replace⟨r1,h32,hm⟩:=Ab hm
      refine .reg (eC 2 (done (oo (GD (zI z11) e16 0) none λr=>oo r (some (Aa.set (AhS s24 z14 s25 s26 s27 e14 k15 e15 k16 q5 e16 k17 q6) 10 (.map (Br e16 [⟨zI z11,zB true,k17⟩]) (k17+1)))) λp=>pp p λj _=>some (Aa.set (AhS s24 z14 s25 s26 s27 e14 k15 e15 k16 q5 e16 k17 q6) 10 (.map (SS (λe=>⟨zI z11,zB true,e.born⟩) j e16) k17))) undef) (Us (H2:=(hT 12 [(oC [Sl.v 1 s24]),(oC [(.map (some 7))]),(Ahr z14 s25 s26),(oC [(.map (some 8))]),Ahq,(oC [Sl.v 1 s27]),(.map e14 k15),(.map e15 k16),oC q5,(AiD z11 k17 e16 r1),oC q6])) h32) (eE)) ?_
      replace⟨h33,hm⟩:=Ae hm
      refine .ghs (fr 108 [(4,(pt 4 0)),(6,(pt 6 0)),(10,sc 9 0 1 n5 c5),(11,(.map (some 10))),(13,zI z11),(14,sc 11 0 1 n6 c6),(63,Sl.v 1 s23),(64,zI z12),(65,zI z13)]) (hT 12 [(oC [Sl.v 1 s24]),(oC [(.map (some 7))]),(Ahr z14 s25 s26),(oC [(.map (some 8))]),Ahq,(oC [Sl.v 1 s27]),(.map e14 k15),(.map e15 k16),oC q5,(AiD z11 k17 e16 r1),oC q6]) (.k [7,8,9,10,11] Ahw Ain AiZ ⟨Fb h26,Fb h27,Fb h28,Fb h33,Fb h30,trivial⟩) ?_
      replace⟨h34,hm⟩:=Ae hm
      refine .reg (eC 3 (Oc 1 8 n6 c6 1 11 q6 [zI z11] [] (hT 13 [(oC [Sl.v 1 s24]),(oC [(.map (some 7))]),(Ahr z14 s25 s26),(oC [(.map (some 8))]),Ahq,(oC [Sl.v 1 s27]),(.map e14 k15),(.map e15 k16),oC q5,(AiD z11 k17 e16 r1),oC q6,(oC [zI z11])])) (I1 h34) (eE)) ?_
      replace⟨h35,hm⟩:=Ae hm
      refine .ghs (fr 108 [(4,(pt 4 0)),(6,(pt 6 0)),(10,sc 9 0 1 n5 c5),(11,(.map (some 10))),(13,zI z11),(14,(sc 11 0 1 (n6+1) (d2 (n6+1)))),(63,Sl.v 1 s23),(64,zI z12),(65,zI z13)]) (hT 12 [(oC [Sl.v 1 s24]),(oC [(.map (some 7))]),(Ahr z14 s25 s26),(oC [(.map (some 8))]),Ahq,(oC [Sl.v 1 s27]),(.map e14 k15),(.map e15 k16),oC q5,(AiD z11 k17 e16 r1),(AiO q6 z11)]) (.k [7,8,9,10,13] Ahw Ain AiZ ⟨Fb h26,Fb h27,Fb h28,Fb h33,Fb h35,trivial⟩) ?_
      replace⟨r2,h36,hm⟩:=Ab hm
      replace⟨x1,h37,hm⟩:=Ab hm
      refine .reg (eC 2 (keep (hT 12 [(oC [Sl.v 1 s24]),(oC [(.map (some 7))]),(Ahr z14 s25 s26),(oC [(.map (some 8))]),Ahq,(oC [Sl.v 1 s27]),(.map e14 k15),(.map e15 k16),oC q5,(AiD z11 k17 e16 r1),(AiO q6 z11)]) (oo (GD (zI z11) e15 0) none λr=>oo r Ajq λp=>pp p λ_ v=>okV false v true)) (MM h36 (Eh h37)) (eE)) ?_
      exact⟨(n5,c5,x1,(n6+1),(d2 (n6+1)),s23,z12,z13,s24,z14,s25,s26,s27,e14,k15,e15,k16,q5,(Gr (zI z11) (zB true) k17 e16 r1),(Ja k17 r1),(Br (Am 0 q6) [zI z11])),hm,(.k [7,8,9,10,11] Ahw Ain AiZ ⟨Fb h26,Fb h27,Fb h28,Fb h33,Fb h35,trivial⟩)⟩
     ·refine Gs (nt b0) h31 ?_
      refine .exit ?_
      exact⟨(n5,c5,n6,c6,s23,z12,z13,s24,z14,s25,s26,s27,e14,k15,e15,k16,q5,e16,k17,q6),hm,(.k [7,8,9,10,11] Ahw Ain [4,6,10,11,14,63,64,65] ⟨Fb h26,Fb h27,Fb h28,Fb h29,Fb h30,trivial⟩)⟩
  ·refine Gs (AY z3 z2) h7 ?_
   refine .exit ?_
   exact⟨(n1,c1,s9,z4,s10,s11,s12,e4,k5,e5,k6,q1),hm,(.k [7,8,9] Ahw [.tmp 10 false] [6,10] ⟨Fb h3,Fb h4,Fb h5,trivial⟩)⟩
theorem AbC (pu:Af) (n:Nat) (z0:Int) (s0:Sl) (z1:Int) (s1 s2 s3:Sl) (e0:List EO) (k1:Nat) (e1:List EO) (k2:Nat) {v:Value} (hm:LQ pu n z0 s0 z1 s1 s2 s3 e0 k1 e1 k2=some v):BN tt (Bb tabs Ir pu (inl pu)) 9 QE (fr 108 [(0,zI z0),(1,pt 1 0),(2,(pt 2 0)),(3,(pt 3 0)),(4,(pt 4 0)),(5,(pt 5 0)),(6,(pt 6 0))]) (hT 9 [(oC [Sl.v 1 s0]),(oC [(.map (some 7))]),(oC [zI z1,Sl.v 1 s1,Sl.v 1 s2]),(oC [(.map (some 8))]),(oC [(.func (.func 60) ⟨[]⟩ ⟨[pt 1 0,(pt 2 0),(pt 3 0),(pt 4 0),(pt 5 0),(pt 6 0)]⟩)]),(oC [Sl.v 1 s3]),(.map e0 k1),(.map e1 k2)]) (FJ tt 1 8 [] v):=by
 unfold LQ at hm
 refine .join (v:=v) (λy:Sl×Int×Sl×Sl×Sl×List EO×Nat×List EO×Nat=>((fr 108 [(1,pt 1 0),(4,(pt 4 0)),(6,(pt 6 0))]),(AhW y.1 y.2.1 y.2.2.1 y.2.2.2.1 (AaW y) (Acq y) (Ac3 y) (Ac4 y) (Adb y)))) (λy=>KU pu n y.1 y.2.1 y.2.2.1 y.2.2.2.1 (AaW y) (Acq y) (Ac3 y) (Ac4 y) (Adb y)) ?_ ?_
 ·rintro⟨s4,z2,s5,s6,s7,e2,k3,e3,k4⟩ hm
  exact gF pu n s4 z2 s5 s6 s7 e2 k3 e3 k4 hm
 ·refine .then (.rK ?_)
  replace⟨h0,hm⟩:=Ae hm
  replace⟨h1,hm⟩:=Ae hm
  refine .ghs (fr 108 [(0,zI z0),(1,pt 1 0),(2,(pt 2 0)),(3,(pt 3 0)),(4,(pt 4 0)),(5,(pt 5 0)),(6,(pt 6 0)),(18,(zB (Aie z0 s0)))]) (Ajg s0 z1 s1 s2 s3 e0 k1 e1 k2) (.k [7,8] Ahw [] [0,1,2,3,4,5,6,18] ⟨Fb h0,Fb h1,trivial⟩) ?_
  replace hm:=Ag hm;rcases hm with⟨h2,hm⟩|⟨h2,hm⟩
  ·refine Gq (Aie z0 s0) h2 ?_
   refine .join (v:=v) (λy:Sl×Int×Sl×Sl×Sl×List EO×Nat×List EO×Nat=>((fr 108 []),(AhW y.1 y.2.1 y.2.2.1 y.2.2.2.1 (AaW y) (Acq y) (Ac3 y) (Ac4 y) (Adb y)))) (λy=>MH pu n y.1 y.2.1 y.2.2.1 y.2.2.2.1 (AaW y) (Acq y) (Ac3 y) (Ac4 y) (Adb y)) ?_ ?_
   ·rintro⟨s8,z3,s9,s10,s11,e4,k5,e5,k6⟩ hm
    unfold MH at hm
    replace⟨h3,hm⟩:=Ae hm
    replace⟨h4,hm⟩:=Ae hm
    refine .ghs (fr 108 []) (Ajg s8 z3 s9 s10 s11 e4 k5 e5 k6) (.k [7,8] Ahw [] [] ⟨Fb h3,Fb h4,trivial⟩) ?_
    refine .ret ?_
    exact Gi (.tuple ⟨[]⟩) (Ahu s8 z3 s9 s10 s11 e4 k5 e5 k6) (by kernel_rfl) hm (Nat.le_of_ble_eq_true rfl) (Fa (VT _) (Fa (VT _) (Fa (VT _) (Fa (VT _) (Fa (VT _) (Fa (VT _) (Fa (SH _ _) (Fa (SH _ _) EJ))))))))
   ·refine .then (.rK (.ghs (fr 108 [(0,zI z0),(1,pt 1 0),(2,(pt 2 0)),(3,(pt 3 0)),(4,(pt 4 0)),(5,(pt 5 0)),(19,Sl.v 1 s0),(20,(Ah6 s0)),(21,(zI (0:Int)))]) (Ajg s0 z1 s1 s2 s3 e0 k1 e1 k2) (.k [7,8] Ahw [] [0,1,2,3,4,5,19,20,21] ⟨Fb h0,Fb h1,trivial⟩) ?_))
    refine .block (.loopM (v:=v) (λy:Int×Sl×Int×Int×Sl×Int×Sl×Sl×Sl×List EO×Nat×List EO×Nat=>((fr 108 [(0,(zI y.1)),(1,pt 1 0),(2,(pt 2 0)),(3,(pt 3 0)),(4,(pt 4 0)),(5,(pt 5 0)),(19,(Sl.v 1 y.2.1)),(20,(zI y.2.2.1)),(21,(zI y.2.2.2.1))]),(AhW (AaW y) (Acq y) (Ac3 y) (Ac4 y) (Ac5 y) (Ac7 y) (Ac8 y) (Ac9 y) (Ada y)))) (λw y=>IB pu n w y.1 y.2.1 y.2.2.1 y.2.2.2.1 (AaW y) (Acq y) (Ac3 y) (Ac4 y) (Ac5 y) (Ac7 y) (Ac8 y) (Ac9 y) (Ada y)) n ⟨(z0,s0,(Int.ofNat (Sl.n s0)),(0:Int),s0,z1,s1,s2,s3,e0,k1,e1,k2),hm,(.k [7,8] Ahw [] [0,1,2,3,4,5,19,20,21] ⟨Fb h0,Fb h1,trivial⟩)⟩ (λ_=>rfl) ?_)
    rintro w0 ⟨z4,s12,z5,z6,s13,z7,s14,s15,s16,e6,k7,e7,k8⟩ hm
    replace hm:MI pu n (IB pu n w0) z4 s12 z5 z6 s13 z7 s14 s15 s16 e6 k7 e7 k8=some v:=hm
    unfold MI at hm
    refine .then (.rK ?_)
    replace⟨h5,hm⟩:=Ae hm
    replace⟨h6,hm⟩:=Ae hm
    refine .ghs (fr 108 [(0,zI z4),(1,pt 1 0),(2,(pt 2 0)),(3,(pt 3 0)),(4,(pt 4 0)),(5,(pt 5 0)),(19,Sl.v 1 s12),(20,zI z5),(21,zI z6),(22,(zB (AY z6 z5)))]) (Ajg s13 z7 s14 s15 s16 e6 k7 e7 k8) (.k [7,8] Ahw [] [0,1,2,3,4,5,19,20,21,22] ⟨Fb h5,Fb h6,trivial⟩) ?_
    refine .then ?_
    replace hm:=Ag hm;rcases hm with⟨h7,hm⟩|⟨h7,hm⟩
    ·refine Gq (AY z6 z5) h7 ?_
     refine .skip (.ghs (fr 108 [(0,zI z4),(1,pt 1 0),(2,(pt 2 0)),(3,(pt 3 0)),(4,(pt 4 0)),(5,(pt 5 0)),(19,Sl.v 1 s12),(20,zI z5),(21,zI z6)]) (Ajg s13 z7 s14 s15 s16 e6 k7 e7 k8) (.k [7,8] Ahw [] [0,1,2,3,4,5,19,20,21] ⟨Fb h5,Fb h6,trivial⟩) ?_)
     refine .join (v:=v) (λy:Int×Sl×Int×Int×Sl×Int×Sl×Sl×Sl×List EO×Nat×List EO×Nat=>((fr 108 [(0,(zI y.1)),(1,pt 1 0),(2,(pt 2 0)),(3,(pt 3 0)),(4,(pt 4 0)),(5,(pt 5 0)),(19,(Sl.v 1 y.2.1)),(20,(zI y.2.2.1)),(21,(zI y.2.2.2.1))]),(AhW (AaW y) (Acq y) (Ac3 y) (Ac4 y) (Ac5 y) (Ac7 y) (Ac8 y) (Ac9 y) (Ada y)))) (λy=>KV pu n (IB pu n w0) y.1 y.2.1 y.2.2.1 y.2.2.2.1 (AaW y) (Acq y) (Ac3 y) (Ac4 y) (Ac5 y) (Ac7 y) (Ac8 y) (Ac9 y) (Ada y)) ?_ ?_
     ·rintro⟨z8,s17,z9,z10,s18,z11,s19,s20,s21,e8,k9,e9,k10⟩ hm
      unfold KV at hm
      refine .rK ?_
      replace⟨h8,hm⟩:=Ae hm
      replace⟨h9,hm⟩:=Ae hm
      exact⟨(z8,s17,z9,(AhE z10),s18,z11,s19,s20,s21,e8,k9,e9,k10),hm,(.k [7,8] Ahw [] [0,1,2,3,4,5,19,20,21] ⟨Fb h8,Fb h9,trivial⟩)⟩
     ·refine .block (.then ?_)
      replace⟨k11,h10,hm⟩:=Ab hm
      obtain rfl:=AR h10
      replace⟨h11,hm⟩:=Ae hm
      replace⟨x0,h12,hm⟩:=Hw hm
      refine .reg (eD (keep (Ajg s13 z7 s14 s15 s16 e6 k7 e7 k8) (Aht k11 s12)) (AX h11) (eD (keep (Ajg s13 z7 s14 s15 s16 e6 k7 e7 k8) (AL (Sl.cs s12) (k11*1))) (AZ h12) (eE))) ?_
      refine .ghs (fr 108 [(0,zI z4),(1,pt 1 0),(2,(pt 2 0)),(3,(pt 3 0)),(4,(pt 4 0)),(5,(pt 5 0)),(9,zI x0),(19,Sl.v 1 s12),(20,zI z5),(21,(zI (Int.ofNat k11)))]) (Ajg s13 z7 s14 s15 s16 e6 k7 e7 k8) (.k [7,8] Ahw [] [0,1,2,3,4,5,9,19,20,21] ⟨Fb h5,Fb h6,trivial⟩) ?_
      refine .join (v:=v) (λy:Int×Int×Sl×Int×Int×Bool×Sl×Int×Sl×Sl×Sl×List EO×Nat×List EO×Nat=>((fr 108 [(0,(zI y.1)),(1,pt 1 0),(2,(pt 2 0)),(3,(pt 3 0)),(4,(pt 4 0)),(5,(pt 5 0)),(9,(zI y.2.1)),(19,(Sl.v 1 y.2.2.1)),(20,(zI y.2.2.2.1)),(21,(zI (AaW y))),(44,(zB (Acq y)))]),(AhW (Ac3 y) (Ac4 y) (Ac5 y) (Ac7 y) (Ac8 y) (Ac9 y) (Aft y) (Afx y) (Ahp y)))) (λy=>Je pu n (IB pu n w0) y.1 y.2.1 y.2.2.1 y.2.2.2.1 (AaW y) (Acq y) (Ac3 y) (Ac4 y) (Ac5 y) (Ac7 y) (Ac8 y) (Ac9 y) (Aft y) (Afx y) (Ahp y)) ?_ ?_
      ·rintro⟨z12,z13,s22,z14,z15,b0,s23,z16,s24,s25,s26,e10,k12,e11,k13⟩ hm
       unfold Je at hm
       replace hm:=Ag hm;rcases hm with⟨h13,hm⟩|⟨h13,hm⟩
       ·refine .ifT b0 (by kernel_rfl) h13 ?_
        refine .then ?_
        replace⟨k14,h14,hm⟩:=Ab hm
        obtain rfl:=AR h14
        replace⟨h15,hm⟩:=Ae hm
        replace⟨x1,h16,hm⟩:=Hw hm
        replace⟨r0,h17,hm⟩:=Ab hm
        replace⟨r1,h18,hm⟩:=Ab hm
        replace⟨x2,h19,hm⟩:=Ab hm
        replace⟨j0,h20,hm⟩:=Ab hm
        refine .reg (eC 5 (keep (Ajg s23 z16 s24 s25 s26 e10 k12 e11 k13) (Aht k14 s23)) (AX h15) (eD (keep (Ajg s23 z16 s24 s25 s26 e10 k12 e11 k13) (AL (Sl.cs s23) (k14*1))) (AZ h16) (eC 1 (done (oo (GD (zI z13) e10 0) none λr=>oo r (some (Aa.set (Ajg s23 z16 s24 s25 s26 e10 k12 e11 k13) 7 (.map (Br e10 [⟨zI z13,zB true,k12⟩]) (k12+1)))) λp=>pp p λj _=>some (Aa.set (Ajg s23 z16 s24 s25 s26 e10 k12 e11 k13) 7 (.map (SS (λe=>⟨zI z13,zB true,e.born⟩) j e10) k12))) undef) (Us (H2:=(AiT s23 z16 s24 s25 s26 z13 k12 e10 r0 e11 k13)) h17) (eD (oo (GD (zI x1) e11 0) none λr=>oo r (some (Value.tuple ⟨[(zI (0:Int)),.int .i64 (.ofNat k13)]⟩,Aa.set (AiT s23 z16 s24 s25 s26 z13 k12 e10 r0 e11 k13) 8 (.map (Br e11 [⟨zI x1,(zI (0:Int)),k13⟩]) (k13+1)))) λp=>pp p λj v=>oo (AL e11 j) none λe=>some (.tuple ⟨[v,.int .i64 (.ofNat e.born)]⟩,Aa.set (AiT s23 z16 s24 s25 s26 z13 k12 e10 r0 e11 k13) 8 (.map (SS (λe=>⟨zI x1,e.val,e.born⟩) j e11) k13))) (mG (H2:=(hT 9 [(oC [Sl.v 1 s23]),(oC [(.map (some 7))]),(Ahr z16 s24 s25),(oC [(.map (some 8))]),Ahq,(oC [Sl.v 1 s26]),(AiD z13 k12 e10 r0),(.map (LP (zI x1) (zI (0:Int)) k13 e11 r1) (Ja k13 r1))])) h18 (Eh h19)) (eC 1 (done (oo (U2 (Sr k13 e11 r1) (LP (zI x1) (zI (0:Int)) k13 e11 r1) 0) none λj=>some (Aa.set (hT 9 [(oC [Sl.v 1 s23]),(oC [(.map (some 7))]),(Ahr z16 s24 s25),(oC [(.map (some 8))]),Ahq,(oC [Sl.v 1 s26]),(AiD z13 k12 e10 r0),(.map (LP (zI x1) (zI (0:Int)) k13 e11 r1) (Ja k13 r1))]) 8 (.map (SS (λe=>⟨e.key,zI z13,e.born⟩) j (LP (zI x1) (zI (0:Int)) k13 e11 r1)) (Ja k13 r1)))) undef) (mH (H2:=(hT 9 (AhL s23 z16 s24 s25 s26 z13 k12 e10 r0 j0 x1 k13 e11 r1))) h20) (eE)))))) ?_
        replace⟨h21,hm⟩:=Ae hm
        replace⟨h22,hm⟩:=Ae hm
        refine .ghs (fr 108 [(0,(zI (Int.ofNat k14))),(1,pt 1 0),(2,(pt 2 0)),(3,(pt 3 0)),(4,(pt 4 0)),(5,(pt 5 0)),(9,zI z13),(19,Sl.v 1 s22),(20,zI z14),(21,zI z15)]) (hT 9 (AhL s23 z16 s24 s25 s26 z13 k12 e10 r0 j0 x1 k13 e11 r1)) (.k [7,8] Ahw [] [0,1,2,3,4,5,9,19,20,21] ⟨Fb h21,Fb h22,trivial⟩) ?_
        refine .then ?_
        replace⟨h23,hm⟩:=Ae hm
        replace⟨h24,hm⟩:=Ae hm
        replace⟨v0,h25,hm⟩:=Ab hm
        replace hm:=Ch hm;obtain⟨l0,rfl,hm⟩:=hm
        replace hm:=Ad hm;obtain⟨v1,l32783_0,rfl,hm⟩:=hm
        replace hm:=Ad hm;obtain⟨v2,l32783_1,rfl,hm⟩:=hm
        replace hm:=Ad hm;obtain⟨v3,l32783_2,rfl,hm⟩:=hm
        replace hm:=Ad hm;obtain⟨v4,l32783_3,rfl,hm⟩:=hm
        replace hm:=Ad hm;obtain⟨v5,l32783_4,rfl,hm⟩:=hm
        replace hm:=Ad hm;obtain⟨v6,l32783_5,rfl,hm⟩:=hm
        replace hm:=Ad hm;obtain⟨v7,l32783_6,rfl,hm⟩:=hm
        replace hm:=Ad hm;obtain⟨v8,l32783_7,rfl,hm⟩:=hm
        replace hm:=Ad hm;obtain⟨v9,l32783_8,rfl,hm⟩:=hm
        replace hm:=AC hm;obtain⟨rfl,hm⟩:=hm
        replace⟨h26,hm⟩:=Ae hm
        obtain rfl:=Oo h26
        replace hm:=BG hm;obtain⟨l1,rfl,hm⟩:=hm
        replace hm:=Ad hm;obtain⟨v10,l32795_0,rfl,hm⟩:=hm
        replace hm:=AC hm;obtain⟨rfl,hm⟩:=hm
        replace hm:=Al hm;obtain⟨s27,rfl,hm⟩:=hm
        replace hm:=BG hm;obtain⟨l2,rfl,hm⟩:=hm
        replace hm:=Ad hm;obtain⟨v11,l32800_0,rfl,hm⟩:=hm
        replace hm:=AC hm;obtain⟨rfl,hm⟩:=hm
        replace⟨h27,hm⟩:=Ae hm
        obtain rfl:=Ey h27
        replace hm:=BG hm;obtain⟨l3,rfl,hm⟩:=hm
        replace hm:=Ad hm;obtain⟨v12,l32804_0,rfl,hm⟩:=hm
        replace hm:=Ad hm;obtain⟨v13,l32804_1,rfl,hm⟩:=hm
        replace hm:=Ad hm;obtain⟨v14,l32804_2,rfl,hm⟩:=hm
        replace hm:=AC hm;obtain⟨rfl,hm⟩:=hm
        replace hm:=Ai hm;obtain⟨x3,rfl,hm⟩:=hm
        replace hm:=Al hm;obtain⟨s28,rfl,hm⟩:=hm
        replace hm:=Al hm;obtain⟨s29,rfl,hm⟩:=hm
        replace hm:=BG hm;obtain⟨l4,rfl,hm⟩:=hm
        replace hm:=Ad hm;obtain⟨v15,l32815_0,rfl,hm⟩:=hm
        replace hm:=AC hm;obtain⟨rfl,hm⟩:=hm
        replace⟨h28,hm⟩:=Ae hm
        obtain rfl:=Ey h28
        replace hm:=BG hm;obtain⟨l5,rfl,hm⟩:=hm
        replace hm:=Ad hm;obtain⟨v16,l32819_0,rfl,hm⟩:=hm
        replace hm:=AC hm;obtain⟨rfl,hm⟩:=hm
        replace⟨l6,h29,hm⟩:=Ab hm
        obtain rfl:=Hu h29
        replace hm:=Ad hm;obtain⟨v17,l32822_0,rfl,hm⟩:=hm
        replace hm:=Ad hm;obtain⟨v18,l32822_1,rfl,hm⟩:=hm
        replace hm:=Ad hm;obtain⟨v19,l32822_2,rfl,hm⟩:=hm
        replace hm:=Ad hm;obtain⟨v20,l32822_3,rfl,hm⟩:=hm
        replace hm:=Ad hm;obtain⟨v21,l32822_4,rfl,hm⟩:=hm
        replace hm:=Ad hm;obtain⟨v22,l32822_5,rfl,hm⟩:=hm
        replace hm:=AC hm;obtain⟨rfl,hm⟩:=hm
        replace⟨h30,hm⟩:=Ae hm
        obtain rfl:=KR h30
        replace⟨h31,hm⟩:=Ae hm
        obtain rfl:=KR h31
        replace⟨h32,hm⟩:=Ae hm
        obtain rfl:=KR h32
        replace⟨h33,hm⟩:=Ae hm
        obtain rfl:=KR h33
        replace⟨h34,hm⟩:=Ae hm
        obtain rfl:=KR h34
        replace⟨h35,hm⟩:=Ae hm
        obtain rfl:=KR h35
        replace hm:=BG hm;obtain⟨l7,rfl,hm⟩:=hm
        replace hm:=Ad hm;obtain⟨v23,l32836_0,rfl,hm⟩:=hm
        replace hm:=AC hm;obtain⟨rfl,hm⟩:=hm
        replace hm:=Al hm;obtain⟨s30,rfl,hm⟩:=hm
        replace⟨y0,h36,hm⟩:=Ab hm
        replace⟨y1,h37,hm⟩:=Ab hm
        replace⟨h38,hm⟩:=Ae hm
        replace⟨h39,hm⟩:=Ae hm
        refine .reg (eC 3 (EK tabs [[none],[none],[none],[none],[none],[none],[none]] 7 [.tmp 1 false,.tmp 2 true,.tmp 3 false,.tmp 4 true,.tmp 5 true,.tmp 6 false,.cell 2 0 false,.cell 4 0 false] [false,true,false,true,true,false,false,false] (pu 10600) [(zI (AhP k14)),pt 1 0,(pt 2 0),(pt 3 0),(pt 4 0),(pt 5 0),(pt 6 0)] (hT 9 (AhL s23 z16 s24 s25 s26 z13 k12 e10 r0 j0 x1 k13 e11 r1))) (EL (as:=[(zI (AhP k14)),pt 1 0,(pt 2 0),(pt 3 0),(pt 4 0),(pt 5 0),(pt 6 0)]) (H1:=(hT 9 (AhL s23 z16 s24 s25 s26 z13 k12 e10 r0 j0 x1 k13 e11 r1))) (BS (Dm Dk) (BS (Dm Dk) (BS (Dm Dk) (BS (Dm Dk) (BS (Dm Dk) (BS (Dm Dk) (BS (Dm Dk) Gj))))))) (EI (H2:=(hT 9 (AhK s27 x3 s28 s29 s30 y0 y1))) (v:=(.tuple ⟨[]⟩)) (v':=(.tuple ⟨[]⟩)) [some 0,some 1,some 2,some 3,some 4,some 5,some 6,some 7,some 8] [(false,some 1),(true,some 2),(false,some 3),(true,some 4),(true,some 5),(false,some 6),(false,some 7),(false,some 8)] (AhL s23 z16 s24 s25 s26 z13 k12 e10 r0 j0 x1 k13 e11 r1) [(zI (AhP k14)),pt 1 0,(pt 2 0),(pt 3 0),(pt 4 0),(pt 5 0),(pt 6 0)] [(.agg ⟨[Sl.v 1 s27]⟩),(.agg ⟨[(.map (some 7))]⟩),(AhC x3 s28 s29),(.agg ⟨[(.map (some 8))]⟩),(.agg ⟨[(.func (.func 60) ⟨[]⟩ ⟨[pt 1 0,(pt 2 0),(pt 3 0),(pt 4 0),(pt 5 0),(pt 6 0)]⟩)]⟩),(.agg ⟨[Sl.v 1 s30]⟩),v8,v9] (AhK s27 x3 s28 s29 s30 y0 y1) [some 0,some 1,some 2,some 3,some 4,some 5,some 6,some 7,some 8] [(false,(oC [Sl.v 1 s27])),(true,(oC [(.map (some 7))])),(false,(Ahr x3 s28 s29)),(true,(oC [(.map (some 8))])),(true,Ahq),(false,(oC [Sl.v 1 s30])),(false,(Ahv y0)),(false,(Ahv y1))] (AhK s27 x3 s28 s29 s30 y0 y1) (by kernel_rfl) (En (by kernel_rfl) (En (by kernel_rfl) (En (by kernel_rfl) (En (by kernel_rfl) (En (by kernel_rfl) (En (by kernel_rfl) (En (Ka h23) (En (Ka h24) BX)))))))) (Eq.trans (by kernel_rfl) h25) (En rfl (En rfl (En rfl (En rfl (En rfl (En rfl (En (CK h36) (En (CK h37) BX)))))))) (En (by kernel_rfl) (En (by kernel_rfl) (En (by kernel_rfl) (En (by kernel_rfl) (En (by kernel_rfl) (En (by kernel_rfl) (En (GZ h38) (En (GZ h39) BX)))))))))) (eE)) ?_
        replace⟨h40,hm⟩:=Ae hm
        replace⟨h41,hm⟩:=Ae hm
        refine .ghs (fr 108 [(0,(zI (Int.ofNat k14))),(1,pt 1 0),(2,(pt 2 0)),(3,(pt 3 0)),(4,(pt 4 0)),(5,(pt 5 0)),(9,zI z13),(19,Sl.v 1 s22),(20,zI z14),(21,zI z15)]) (hT 9 (AhK s27 x3 s28 s29 s30 y0 y1)) (.k [7,8] Ahw [] [0,1,2,3,4,5,9,19,20,21] ⟨Fb h40,Fb h41,trivial⟩) ?_
        replace⟨r2,h42,hm⟩:=Ab hm
        refine .reg (eC 2 (done (oo (GD (zI z13) (Akd.es y0) 0) none λr=>oo r (some (Aa.set (hT 9 (AhK s27 x3 s28 s29 s30 y0 y1)) 7 (.map (Br (Akd.es y0) [⟨zI z13,zB false,(Akd.clock y0)⟩]) ((Akd.clock y0)+1)))) λp=>pp p λj _=>some (Aa.set (hT 9 (AhK s27 x3 s28 s29 s30 y0 y1)) 7 (.map (SS (λe=>⟨zI z13,zB false,e.born⟩) j (Akd.es y0)) (Akd.clock y0)))) undef) (Us (H2:=(hT 9 [(oC [Sl.v 1 s27]),(oC [(.map (some 7))]),(Ahr x3 s28 s29),(oC [(.map (some 8))]),Ahq,(oC [Sl.v 1 s30]),(.map (Gr (zI z13) (zB false) (Akd.clock y0) (Akd.es y0) r2) (Ja (Akd.clock y0) r2)),(Ahv y1)])) h42) (eE)) ?_
        replace⟨h43,hm⟩:=Ae hm
        exact⟨((Int.ofNat k14),s22,z14,z15,s27,x3,s28,s29,s30,(Gr (zI z13) (zB false) (Akd.clock y0) (Akd.es y0) r2),(Ja (Akd.clock y0) r2),(Akd.es y1),(Akd.clock y1)),hm,(.k [7,8] Ahw [] [0,1,2,3,4,5,19,20,21] ⟨Fb h43,Fb h41,trivial⟩)⟩
       ·refine .ifF b0 (by kernel_rfl) h13 ?_
        refine .skip ?_
        replace⟨h44,hm⟩:=Ae hm
        replace⟨h45,hm⟩:=Ae hm
        exact⟨(z12,s22,z14,z15,s23,z16,s24,s25,s26,e10,k12,e11,k13),hm,(.k [7,8] Ahw [] [0,1,2,3,4,5,19,20,21] ⟨Fb h44,Fb h45,trivial⟩)⟩
      ·replace⟨r3,h46,hm⟩:=Ab hm
       replace⟨b3,h47,hm⟩:=Ab hm
       replace hm:=Ag hm;rcases hm with⟨h48,hm⟩|⟨h48,hm⟩
       ·replace⟨k15,h49,hm⟩:=Ab hm
        obtain rfl:=AR h49
        replace⟨h50,hm⟩:=Ae hm
        replace⟨x4,h51,hm⟩:=Hw hm
        replace⟨k16,h52,hm⟩:=Ab hm
        obtain rfl:=AR h52
        replace⟨h53,hm⟩:=Ae hm
        replace⟨x5,h54,hm⟩:=Hw hm
        replace⟨k17,h55,hm⟩:=Ab hm
        obtain rfl:=AR h55
        replace⟨h56,hm⟩:=Ae hm
        replace⟨x6,h57,hm⟩:=Hw hm
        refine .reg (eN 9 (Fr.puts (fr 108 [(0,(zI (Int.ofNat k16))),(1,pt 1 0),(2,(pt 2 0)),(3,(pt 3 0)),(4,(pt 4 0)),(5,(pt 5 0)),(9,(zI (Int.ofNat k15))),(19,Sl.v 1 s12),(20,zI z5),(21,(zI (Int.ofNat k11)))]) [(25,(.map (some 7))),(26,(zI (Int.ofNat k15))),(27,zB b3),(28,zB true),(29,zB true),(30,(pt 3 1)),(31,Sl.v 1 s14),(32,(zI (Int.ofNat k15))),(33,(Cv (k15*1) (Sl.cs s14)))]) (Ajg s13 z7 s14 s15 s16 e6 k7 e7 k8) (eC 2 (keep (Ajg s13 z7 s14 s15 s16 e6 k7 e7 k8) (oo (GD (zI (Int.ofNat k15)) e6 0) none λr=>oo r (okV false (zB false) false) λp=>pp p λ_ v=>okV false v true)) (MM h46 (BV h47)) (eD (some ((zB (nt b3)),(Ajg s13 z7 s14 s15 s16 e6 k7 e7 k8))) (show _=some ((zB true),_) from (by rw[show (nt b3)=true from h48])) (eC 4 (keep (Ajg s13 z7 s14 s15 s16 e6 k7 e7 k8) (Aht k15 s14)) (AX h50) (by kernel_rfl)))) (eD (keep (Ajg s13 z7 s14 s15 s16 e6 k7 e7 k8) (AL (Sl.cs s14) (k15*1))) (AZ h51) (eC 4 (keep (Ajg s13 z7 s14 s15 s16 e6 k7 e7 k8) (Aht k16 s13)) (AX h53) (eD (keep (Ajg s13 z7 s14 s15 s16 e6 k7 e7 k8) (AL (Sl.cs s13) (k16*1))) (AZ h54) (eD (keep (Ajg s13 z7 s14 s15 s16 e6 k7 e7 k8) (Aht k17 s15)) (AX h56) (eD (keep (Ajg s13 z7 s14 s15 s16 e6 k7 e7 k8) (AL (Sl.cs s15) (k17*1))) (AZ h57) (eE))))))) ?_
        exact⟨((Int.ofNat k16),(Int.ofNat k15),s12,z5,(Int.ofNat k11),(Bd x4 x6),s13,z7,s14,s15,s16,e6,k7,e7,k8),hm,(.k [7,8] Ahw [] [0,1,2,3,4,5,9,19,20,21,44] ⟨Fb h5,Fb h6,trivial⟩)⟩
       ·refine .reg (eC 2 (keep (Ajg s13 z7 s14 s15 s16 e6 k7 e7 k8) (oo (GD (zI x0) e6 0) none λr=>oo r (okV false (zB false) false) λp=>pp p λ_ v=>okV false v true)) (MM h46 (BV h47)) (eD (some ((zB (nt b3)),(Ajg s13 z7 s14 s15 s16 e6 k7 e7 k8))) (show _=some ((zB false),_) from (by rw[show (nt b3)=false from h48])) (eE))) ?_
        exact⟨(z4,x0,s12,z5,(Int.ofNat k11),false,s13,z7,s14,s15,s16,e6,k7,e7,k8),hm,(.k [7,8] Ahw [] [0,1,2,3,4,5,9,19,20,21,44] ⟨Fb h5,Fb h6,trivial⟩)⟩
    ·refine Gs (AY z6 z5) h7 ?_
     refine .exit ?_
     exact⟨(s13,z7,s14,s15,s16,e6,k7,e7,k8),hm,(.k [7,8] Ahw [] [] ⟨Fb h5,Fb h6,trivial⟩)⟩
  ·refine Gs (Aie z0 s0) h2 ?_
   refine .skip ?_
   exact⟨(s0,z1,s1,s2,s3,e0,k1,e1,k2),hm,(.k [7,8] Ahw [] [1,4,6] ⟨Fb h0,Fb h1,trivial⟩)⟩
theorem AbD {call:A8} (pu:Af) (n:Nat) (hcall:call=Bb tabs Ir pu (inl pu)) {args:LV} {os:List AJ} {z:Value} (ha:args.length=7) (hk:os.length=8) (hpl:∀ o∈os,plainO o) (hm:OD pu n (args++os.map Ef)=some z):args.length≤108∧BN tt call (tabs.length+8) QE (Fr.made 108 args) (BK tabs os) (FJ tt tabs.length 8 [] z):=by
 subst hcall
 have hq:=BC ha;clear ha;obtain⟨a0,args,rfl,ha⟩:=hq
 have hq:=BC ha;clear ha;obtain⟨a1,args,rfl,ha⟩:=hq
 have hq:=BC ha;clear ha;obtain⟨a2,args,rfl,ha⟩:=hq
 have hq:=BC ha;clear ha;obtain⟨a3,args,rfl,ha⟩:=hq
 have hq:=BC ha;clear ha;obtain⟨a4,args,rfl,ha⟩:=hq
 have hq:=BC ha;clear ha;obtain⟨a5,args,rfl,ha⟩:=hq
 have hq:=BC ha;clear ha;obtain⟨a6,args,rfl,ha⟩:=hq
 obtain rfl:=len_nil ha
 have hq:=BC hk;clear hk;obtain⟨b0,os,rfl,hk⟩:=hq
 have hp0:plainO b0:=hpl b0 (by simp)
 have hq:=BC hk;clear hk;obtain⟨b1,os,rfl,hk⟩:=hq
 have hp1:plainO b1:=hpl b1 (by simp)
 have hq:=BC hk;clear hk;obtain⟨b2,os,rfl,hk⟩:=hq
 have hp2:plainO b2:=hpl b2 (by simp)
 have hq:=BC hk;clear hk;obtain⟨b3,os,rfl,hk⟩:=hq
 have hp3:plainO b3:=hpl b3 (by simp)
 have hq:=BC hk;clear hk;obtain⟨b4,os,rfl,hk⟩:=hq
 have hp4:plainO b4:=hpl b4 (by simp)
 have hq:=BC hk;clear hk;obtain⟨b5,os,rfl,hk⟩:=hq
 have hp5:plainO b5:=hpl b5 (by simp)
 have hq:=BC hk;clear hk;obtain⟨b6,os,rfl,hk⟩:=hq
 have hp6:plainO b6:=hpl b6 (by simp)
 have hq:=BC hk;clear hk;obtain⟨b7,os,rfl,hk⟩:=hq
 have hp7:plainO b7:=hpl b7 (by simp)
 obtain rfl:=len_nil hk
 replace hm:OD pu n [a0,a1,a2,a3,a4,a5,a6,Ef b0,Ef b1,Ef b2,Ef b3,Ef b4,Ef b5,Ef b6,Ef b7]=some z:=hm
 unfold OD at hm
 replace hm:(oo (Bi .i64 a0) none λx0=>(bb (MK a1 1 0) (bb (MK a2 2 0) (bb (MK a3 3 0) (bb (MK a4 4 0) (bb (MK a5 5 0) (bb (MK a6 6 0) (oo (Bt (Ef b0)) none λl0=>(ll l0 none λv0 l0=>(ll l0 (oo (Bj 1 v0) none λs0=>(oo (Bt (Ef b1)) none λl1=>(ll l1 none λv1 l1=>(ll l1 (bb (FC v1 7) (oo (Bt (Ef b2)) none λl2=>(ll l2 none λv2 l2=>(ll l2 none λv3 l2=>(ll l2 none λv4 l2=>(ll l2 (oo (Bi .i64 v2) none λx1=>(oo (Bj 1 v3) none λs1=>(oo (Bj 1 v4) none λs2=>(oo (Bt (Ef b3)) none λl3=>(ll l3 none λv5 l3=>(ll l3 (bb (FC v5 8) (oo (Bt (Ef b4)) none λl4=>(ll l4 none λv6 l4=>(ll l4 (oo (Om 60 0 v6) none λl5=>(ll l5 none λv7 l5=>(ll l5 none λv8 l5=>(ll l5 none λv9 l5=>(ll l5 none λv10 l5=>(ll l5 none λv11 l5=>(ll l5 none λv12 l5=>(ll l5 (bb (MK v7 1 0) (bb (MK v8 2 0) (bb (MK v9 3 0) (bb (MK v10 4 0) (bb (MK v11 5 0) (bb (MK v12 6 0) (oo (Bt (Ef b5)) none λl6=>(ll l6 none λv13 l6=>(ll l6 (oo (Bj 1 v13) none λs3=>(oo (Fj (Ef b6)) none λy0=>(oo (Fj (Ef b7)) none λy1=>(LQ pu n x0 s0 x1 s1 s2 s3 (Akd.es y0) (Akd.clock y0) (Akd.es y1) (Akd.clock y1))))) λ_ _=>none))) none) none) none) none) none) none) λ_ _=>none)))))))) λ_ _=>none))) none) λ_ _=>none)))))) λ_ _=>none))))) none) λ_ _=>none)))) λ_ _=>none))) none) none) none) none) none) none))=some z:=hm
 replace hm:=Ai hm;obtain⟨x0,rfl,hm⟩:=hm
 replace⟨h0,hm⟩:=Ae hm
 obtain rfl:=KR h0
 replace⟨h1,hm⟩:=Ae hm
 obtain rfl:=KR h1
 replace⟨h2,hm⟩:=Ae hm
 obtain rfl:=KR h2
 replace⟨h3,hm⟩:=Ae hm
 obtain rfl:=KR h3
 replace⟨h4,hm⟩:=Ae hm
 obtain rfl:=KR h4
 replace⟨h5,hm⟩:=Ae hm
 obtain rfl:=KR h5
 replace⟨l0,h6,hm⟩:=Ab hm
 obtain rfl:=I7 hp0 h6
 replace hm:=Ad hm;obtain⟨v0,l32916_0,rfl,hm⟩:=hm
 replace hm:=AC hm;obtain⟨rfl,hm⟩:=hm
 replace hm:=Al hm;obtain⟨s0,rfl,hm⟩:=hm
 replace⟨l1,h7,hm⟩:=Ab hm
 obtain rfl:=I7 hp1 h7
 replace hm:=Ad hm;obtain⟨v1,l32921_0,rfl,hm⟩:=hm
 replace hm:=AC hm;obtain⟨rfl,hm⟩:=hm
 replace⟨h8,hm⟩:=Ae hm
 obtain rfl:=Ey h8
 replace⟨l2,h9,hm⟩:=Ab hm
 obtain rfl:=I7 hp2 h9
 replace hm:=Ad hm;obtain⟨v2,l32925_0,rfl,hm⟩:=hm
 replace hm:=Ad hm;obtain⟨v3,l32925_1,rfl,hm⟩:=hm
 replace hm:=Ad hm;obtain⟨v4,l32925_2,rfl,hm⟩:=hm
 replace hm:=AC hm;obtain⟨rfl,hm⟩:=hm
 replace hm:=Ai hm;obtain⟨x1,rfl,hm⟩:=hm
 replace hm:=Al hm;obtain⟨s1,rfl,hm⟩:=hm
 replace hm:=Al hm;obtain⟨s2,rfl,hm⟩:=hm
 replace⟨l3,h10,hm⟩:=Ab hm
 obtain rfl:=I7 hp3 h10
 replace hm:=Ad hm;obtain⟨v5,l32936_0,rfl,hm⟩:=hm
 replace hm:=AC hm;obtain⟨rfl,hm⟩:=hm
 replace⟨h11,hm⟩:=Ae hm
 obtain rfl:=Ey h11
 replace⟨l4,h12,hm⟩:=Ab hm
 obtain rfl:=I7 hp4 h12
 replace hm:=Ad hm;obtain⟨v6,l32940_0,rfl,hm⟩:=hm
 replace hm:=AC hm;obtain⟨rfl,hm⟩:=hm
 replace⟨l5,h13,hm⟩:=Ab hm
 obtain rfl:=Hu h13
 replace hm:=Ad hm;obtain⟨v7,l32943_0,rfl,hm⟩:=hm
 replace hm:=Ad hm;obtain⟨v8,l32943_1,rfl,hm⟩:=hm
 replace hm:=Ad hm;obtain⟨v9,l32943_2,rfl,hm⟩:=hm
 replace hm:=Ad hm;obtain⟨v10,l32943_3,rfl,hm⟩:=hm
 replace hm:=Ad hm;obtain⟨v11,l32943_4,rfl,hm⟩:=hm
 replace hm:=Ad hm;obtain⟨v12,l32943_5,rfl,hm⟩:=hm
 replace hm:=AC hm;obtain⟨rfl,hm⟩:=hm
 replace⟨h14,hm⟩:=Ae hm
 obtain rfl:=KR h14
 replace⟨h15,hm⟩:=Ae hm
 obtain rfl:=KR h15
 replace⟨h16,hm⟩:=Ae hm
 obtain rfl:=KR h16
 replace⟨h17,hm⟩:=Ae hm
 obtain rfl:=KR h17
 replace⟨h18,hm⟩:=Ae hm
 obtain rfl:=KR h18
 replace⟨h19,hm⟩:=Ae hm
 obtain rfl:=KR h19
 replace⟨l6,h20,hm⟩:=Ab hm
 obtain rfl:=I7 hp5 h20
 replace hm:=Ad hm;obtain⟨v13,l32957_0,rfl,hm⟩:=hm
 replace hm:=AC hm;obtain⟨rfl,hm⟩:=hm
 replace hm:=Al hm;obtain⟨s3,rfl,hm⟩:=hm
 replace⟨y0,h21,hm⟩:=Ab hm
 obtain rfl:=MS hp6 h21
 replace⟨y1,h22,hm⟩:=Ab hm
 obtain rfl:=MS hp7 h22
 refine⟨by simp,?_⟩
 exact .same (F':=(fr 108 [(0,zI x0),(1,pt 1 0),(2,(pt 2 0)),(3,(pt 3 0)),(4,(pt 4 0)),(5,(pt 5 0)),(6,(pt 6 0))])) (H':=(hT 9 (AhK s0 x1 s1 s2 s3 y0 y1))) (by kernel_rfl) (by kernel_rfl) (AbC pu n x0 s0 x1 s1 s2 s3 (Akd.es y0) (Akd.clock y0) (Akd.es y1) (Akd.clock y1) hm)
end
end Go.MnSM
