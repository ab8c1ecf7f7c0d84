/- Made from wip. -/
import Derived.Test.YtlgmapibifphaaaDoorMnWMod1x
import Derived.Test.YtlgmapibifphaaaDoorMnWMod2
import Derived.Test.YtlgmapibifphaaaDoorMnWMod3

set_option maxRecDepth 100000
set_option maxHeartbeats 20000000
set_option linter.unusedVariables false
namespace Go.MnWM
open Go.Sp Go.MnW
noncomputable section
def KS (pu:Af) (n:Nat) (e0:List EO) (k1:Nat):OV:=
 (bb (Au F4 e0) (some (.tuple ⟨[(.map (some 1)),(Ef (.map e0 k1))]⟩)) none)
def KT (pu:Af) (n:Nat) (ih0:Bool→Nat→Nat→Nat→List EO→Nat→LV→OV) (b0:Bool) (n0 n1 c0:Nat) (e0:List EO) (k1:Nat) (q0:LV):OV:=
 (bb (Nat.ble 1 n1) (bb (Au F4 e0) (bb (Au Ah q0) (ih0 b0 (n0+1*1) (n1 - 1) (2*(c0 / 2 - 1)+bb (Dp false (Nat.beq (c0 % 2) 1)) 1 0) e0 k1 q0) none) none) none)
def KU (pu:Af) (n:Nat) (ih0:Bool→Nat→Nat→Nat→List EO→Nat→LV→OV) (ih1:Bool→Nat→Nat→Nat→Sl→Int→Int→List EO→Nat→LV→OV) (b0:Bool) (n0 n1 c0:Nat) (s0:Sl) (z0 z1:Int) (e0:List EO) (k1:Nat) (q0:LV):OV:=
 (bb (Au F4 e0) (bb (Au Ah q0) (ih1 b0 n0 n1 c0 s0 z0 (Aj .i64 (Int.add z1 (1:Int))) e0 k1 q0) none) none)
def Jj (pu:Af) (n:Nat) (ih0:Bool→Nat→Nat→Nat→List EO→Nat→LV→OV) (ih1:Bool→Nat→Nat→Nat→Sl→Int→Int→List EO→Nat→LV→OV) (ih2:Bool→Nat→Nat→Nat→Sl→Int→Int→Int→Int→List EO→Nat→LV→OV) (b0:Bool) (n0 n1 c0:Nat) (s0:Sl) (z0 z1 z2 z3:Int) (e0:List EO) (k1:Nat) (q0:LV):OV:=
 (bb (Au F4 e0) (bb (Au Ah q0) (ih2 b0 n0 n1 c0 s0 z0 (Aj .i64 (Int.add z1 (1:Int))) z2 z3 e0 k1 q0) none) none)
def FX (pu:Af) (n:Nat) (ih0:Bool→Nat→Nat→Nat→List EO→Nat→LV→OV) (ih1:Bool→Nat→Nat→Nat→Sl→Int→Int→List EO→Nat→LV→OV) (ih2:Bool→Nat→Nat→Nat→Sl→Int→Int→Int→Int→List EO→Nat→LV→OV) (b0:Bool) (n0 n1 c0:Nat) (s0:Sl) (z0 z1 z2 z3:Int) (b3:Bool) (e0:List EO) (k1:Nat) (q0:LV):OV:=
 (bb b3 (bb (Au F4 e0) (bb (Au Ah q0) (oo (pu 24 [Sl.v 1 s0,.int .i64 z0,.int .i64 z1]) none fun v0=>(oo (Bj 1 v0) none fun s1=>(oo (pu 23 [Sl.v 1 s1]) none fun v1=>(oo (Bi .i64 v1) none fun x0=>(oo (GD (.int .i64 x0) e0 0) none fun r0=>(oo (Bi .i64 (Wd r0 (.int .i64 (0:Int)))) none fun x1=>(bb (nt (isS r0)) (oo (pu 23 [Sl.v 1 s1]) none fun v2=>(oo (Bi .i64 v2) none fun x2=>(oo (pu 23 [Sl.v 1 s0]) none fun v3=>(oo (Bi .i64 v3) none fun x3=>(oo (GD (.int .i64 x3) e0 0) none fun r1=>(oo (Bi .i64 (Wd r1 (.int .i64 (0:Int)))) none fun x4=>(oo (GD (.int .i64 x2) e0 0) none fun r2=>(bb (Au F4 (Gr (.int .i64 x2) (.int .i64 (Aj .i64 (Int.add x4 (1:Int)))) k1 e0 r2)) (bb (Ou 1 24 n0 n1 c0 1 q0) (bb (Au Ah (Br (Am n0 q0) [Sl.v 1 s1])) (Jj pu n ih0 ih1 ih2 b0 0 (n1+1) (2*(n1+1)+bb false 1 0) s0 z0 z1 z2 z3 (Gr (.int .i64 x2) (.int .i64 (Aj .i64 (Int.add x4 (1:Int)))) k1 e0 r2) (Ja k1 r2) (Br (Am n0 q0) [Sl.v 1 s1])) none) none) none)))))))) (Jj pu n ih0 ih1 ih2 b0 n0 n1 c0 s0 z0 z1 z2 z3 e0 k1 q0)))))))) none) none) (bb (Au F4 e0) (bb (Au Ah q0) (KU pu n ih0 ih1 b0 n0 n1 c0 s0 z2 z3 e0 k1 q0) none) none))
def G5 (pu:Af) (n:Nat) (ih0:Bool→Nat→Nat→Nat→List EO→Nat→LV→OV) (ih1:Bool→Nat→Nat→Nat→Sl→Int→Int→List EO→Nat→LV→OV) (ih2:Bool→Nat→Nat→Nat→Sl→Int→Int→Int→Int→List EO→Nat→LV→OV) (b0:Bool) (n0 n1 c0:Nat) (s0:Sl) (z0 z1 z2 z3:Int) (e0:List EO) (k1:Nat) (q0:LV):OV:=
 (bb (AY z1 (Int.ofNat (Sl.n s0))) (bb (nt b0) (bb (Au F4 e0) (bb (Au Ah q0) (FX pu n ih0 ih1 ih2 b0 n0 n1 c0 s0 z0 z1 z2 z3 true e0 k1 q0) none) none) (bb (Au F4 e0) (bb (Au Ah q0) (FX pu n ih0 ih1 ih2 b0 n0 n1 c0 s0 z0 z1 z2 z3 (Bd z1 (Aj .i64 (Int.add z0 (1:Int)))) e0 k1 q0) none) none)) (bb (Au F4 e0) (bb (Au Ah q0) (FX pu n ih0 ih1 ih2 b0 n0 n1 c0 s0 z0 z1 z2 z3 false e0 k1 q0) none) none))
def FY (pu:Af) (n:Nat) (ih0:Bool→Nat→Nat→Nat→List EO→Nat→LV→OV) (ih1:Bool→Nat→Nat→Nat→Sl→Int→Int→List EO→Nat→LV→OV) (w:Nat):Bool→Nat→Nat→Nat→Sl→Int→Int→Int→Int→List EO→Nat→LV→OV:=
 Nat.rec (motive:=fun _=>Bool→Nat→Nat→Nat→Sl→Int→Int→Int→Int→List EO→Nat→LV→OV) (fun _ _ _ _ _ _ _ _ _ _ _ _=>none) (fun _ ih2=>G5 pu n ih0 ih1 ih2) w
def Iz (pu:Af) (n:Nat) (ih0:Bool→Nat→Nat→Nat→List EO→Nat→LV→OV) (ih1:Bool→Nat→Nat→Nat→Sl→Int→Int→List EO→Nat→LV→OV) (b0:Bool) (n0 n1 c0:Nat) (s0:Sl) (z0 z1:Int) (e0:List EO) (k1:Nat) (q0:LV):OV:=
 (bb (Au F4 e0) (bb (Au Ah q0) (bb (AY z1 z0) (FY pu n ih0 ih1 n b0 n0 n1 c0 s0 z1 (Aj .i64 (Int.add z1 (1:Int))) z0 z1 e0 k1 q0) (KT pu n ih0 b0 n0 n1 c0 e0 k1 q0)) none) none)
def FL (pu:Af) (n:Nat) (ih0:Bool→Nat→Nat→Nat→List EO→Nat→LV→OV) (w:Nat):Bool→Nat→Nat→Nat→Sl→Int→Int→List EO→Nat→LV→OV:=
 Nat.rec (motive:=fun _=>Bool→Nat→Nat→Nat→Sl→Int→Int→List EO→Nat→LV→OV) (fun _ _ _ _ _ _ _ _ _ _=>none) (fun _ ih1=>Iz pu n ih0 ih1) w
def IB (pu:Af) (n:Nat) (ih0:Bool→Nat→Nat→Nat→List EO→Nat→LV→OV) (b0:Bool) (n0 n1 c0:Nat) (e0:List EO) (k1:Nat) (q0:LV):OV:=
 (bb (Au F4 e0) (bb (Au Ah q0) (bb (AY (0:Int) (Int.ofNat n1)) (bb (an (Nat.blt 0 n1) true) (oo (AL q0 (n0+0*1)) none fun v0=>(oo (Bj 1 v0) none fun s0=>(FL pu n ih0 n b0 n0 n1 c0 s0 (Int.ofNat (Sl.n s0)) (0:Int) e0 k1 q0))) none) (KS pu n e0 k1)) none) none)
def Eo (pu:Af) (n w:Nat):Bool→Nat→Nat→Nat→List EO→Nat→LV→OV:=
 Nat.rec (motive:=fun _=>Bool→Nat→Nat→Nat→List EO→Nat→LV→OV) (fun _ _ _ _ _ _ _=>none) (fun _ ih0=>IB pu n ih0) w
def K3 (pu:Af) (n:Nat) (s55:Sl) (b56:Bool):OV:=
 (oo (pu 23 [Sl.v 1 s55]) none fun v63=>(oo (Bi .i64 v63) none fun x65=>(oo (GD (.int .i64 x65) ([]:List EO) 0) none fun Um=>(bb (Au F4 (Gr (.int .i64 x65) (.int .i64 (0:Int)) 0 ([]:List EO) Um)) (Eo pu n n b56 0 1 2 (Gr (.int .i64 x65) (.int .i64 (0:Int)) 0 ([]:List EO) Um) (Ja 0 Um) ([Sl.v 1 s55]:LV)) none))))
def OH (pu:Af) (n:Nat) (args:LV):OV:=
 (ll args none fun a0 args=>(ll args none fun a1 args=>(ll args (oo (Bj 1 a0) none fun s0=>(oo (Bf a1) none fun b0=>(K3 pu n s0 b0))) fun _ _=>none)))
theorem Wv (pu:Af) (n:Nat) (e0:List EO) (k1:Nat) {v:Value} (hm:KS pu n e0 k1=some v):BN tt (Bb tabs Iq pu (inl pu)) 1 Wl (fr 77 [(5,(.map (some 1)))]) (hT 2 [(.map e0 k1)]) (FJ tt 1 0 [.tmp 4] v):=by
 unfold KS at hm
 refine .then (.rK ?_)
 replace hm:=Ae hm;obtain⟨h0,hm⟩:=hm
 refine .ghs (fr 77 [(4,(.map (some 1)))]) (hT 2 [(.map e0 k1)]) (.k [1] [false] [.tmp 4 false] [4] ⟨DL h0,trivial⟩) ?_
 refine .ghs (fr 77 [(4,(.map (some 1)))]) (hT 2 [(.map e0 k1)]) (.k [1] [false] [.tmp 4 false] [4] ⟨DL h0,trivial⟩) ?_
 refine .ret ?_
 exact Gi (.map (some 1)) [(.map e0 k1)] (by kernel_rfl) hm (Nat.le_of_ble_eq_true rfl) (Fa (SH _ _) EJ)
theorem iG (pu:Af) (n:Nat) (s55:Sl) (b56:Bool) {v:Value} (hm:K3 pu n s55 b56=some v):BN tt (Bb tabs Iq pu (inl pu)) 1 Oz (fr 77 [(0,Sl.v 1 s55),(1,zB b56)]) FM (FJ tt 1 0 [.tmp 4] v):=by
 unfold K3 at hm
 refine .then (.rK (.ghs (fr 77 [(0,Sl.v 1 s55),(1,zB b56)]) FM (.k0 [false] [] [0,1]) ?_))
 refine .then ?_
 replace hm:=Ke hm;obtain⟨x65,h64,hm⟩:=hm
 replace hm:=Ab hm;obtain⟨Um,h68,hm⟩:=hm
 refine .reg (eC 2 ((oo (pu 23 [Sl.v 1 s55]) none fun v=>some (v,(hT 2 [(.map ([]:List EO) 0)])))) (AB h64) (eD (done (oo (GD (zI x65) ([]:List EO) 0) none fun r=>oo r (some (Aa.set (hT 2 [(.map ([]:List EO) 0)]) 1 (.map (Br ([]:List EO) [⟨zI x65,(zI (0:Int)),0⟩]) (0+1)))) fun p=>pp p fun j _=>some (Aa.set (hT 2 [(.map ([]:List EO) 0)]) 1 (.map (SS (fun e=>⟨zI x65,(zI (0:Int)),e.born⟩) j ([]:List EO)) 0))) undef) (Us (H2:=(hT 2 [(.map (Gr (zI x65) (zI (0:Int)) 0 ([]:List EO) Um) (Ja 0 Um))])) h68) (eE))) ?_
 replace hm:=Ae hm;obtain⟨h69,hm⟩:=hm
 refine .ghs (fr 77 [(0,Sl.v 1 s55),(1,zB b56),(5,(.map (some 1)))]) (hT 2 [(.map (Gr (zI x65) (zI (0:Int)) 0 ([]:List EO) Um) (Ja 0 Um))]) (.k [1] [false] [.tmp 5 false] [0,1,5] ⟨DL h69,trivial⟩) ?_
 refine .join (v:=v) (fun y:List EO×Nat=>((fr 77 [(5,(.map (some 1)))]),(hT 2 [(.map y.1 y.2)]))) (fun y=>KS pu n y.1 y.2) ?_ ?_
 ·rintro⟨e0,k1⟩ hm
  exact Wv pu n e0 k1 hm
 ·refine .then (.rK (.ghs (fr 77 [(1,zB b56),(5,(.map (some 1))),(6,sc 2 0 1 1 3)]) (hT 3 [(.map (Gr (zI x65) (zI (0:Int)) 0 ([]:List EO) Um) (Ja 0 Um)),(oC [Sl.v 1 s55])]) (.k [1] [false] [.tmp 5 false,.tmp 6 false] [1,5,6] ⟨DL h69,trivial⟩) ?_))
  refine .block (.loopM (v:=v) (fun y:Bool×Nat×Nat×Nat×List EO×Nat×LV=>((fr 77 [(1,(zB y.1)),(5,(.map (some 1))),(6,(.slice (some ⟨2,y.2.1,some 1⟩) y.2.2.1 y.2.2.2.1))]),(hT 3 [(.map y.2.2.2.2.1 y.2.2.2.2.2.1),(oC y.2.2.2.2.2.2)]))) (fun w y=>Eo pu n w y.1 y.2.1 y.2.2.1 y.2.2.2.1 y.2.2.2.2.1 y.2.2.2.2.2.1 y.2.2.2.2.2.2) n ⟨(b56,0,1,2,(Gr (zI x65) (zI (0:Int)) 0 ([]:List EO) Um),(Ja 0 Um),([Sl.v 1 s55]:LV)),hm,(.weak 6 (sc 2 0 1 1 2) (v:=(sc 2 0 1 1 3)) (by kernel_rfl) (PG.cap 2 0 1 1 1) (.k [1] [false] [.tmp 5 false,.tmp 6 false] [1,5,6] ⟨DL h69,trivial⟩))⟩ (fun _=>rfl) ?_)
  rintro w0 ⟨b0,n0,n1,c0,e1,k2,q0⟩ hm
  replace hm:IB pu n (Eo pu n w0) b0 n0 n1 c0 e1 k2 q0=some v:=hm
  unfold IB at hm
  refine .then (.then (.rK ?_))
  replace hm:=Ae hm;obtain⟨h0,hm⟩:=hm
  replace hm:=Ae hm;obtain⟨h1,hm⟩:=hm
  refine .ghs (fr 77 [(1,zB b0),(5,(.map (some 1))),(6,(.slice (some ⟨2,n0,some 1⟩) n1 c0)),(21,(zB (AY (0:Int) (Int.ofNat n1))))]) (hT 3 [(.map e1 k2),oC q0]) (.k [1,2] [false] [.tmp 5 false,.tmp 6 false] [1,5,6,21] ⟨DL h0,DL h1,trivial⟩) ?_
  replace hm:=Ag hm;rcases hm with⟨h2,hm⟩ | ⟨h2,hm⟩
  ·refine Hy (AY (0:Int) (Int.ofNat n1)) h2 ?_
   refine .skip (.ghs (fr 77 [(1,zB b0),(5,(.map (some 1))),(6,(.slice (some ⟨2,n0,some 1⟩) n1 c0))]) (hT 3 [(.map e1 k2),oC q0]) (.k [1,2] [false] [.tmp 5 false,.tmp 6 false] [1,5,6] ⟨DL h0,DL h1,trivial⟩) ?_)
   refine .join (v:=v) (fun y:Bool×Nat×Nat×Nat×List EO×Nat×LV=>((fr 77 [(1,(zB y.1)),(5,(.map (some 1))),(6,(.slice (some ⟨2,y.2.1,some 1⟩) y.2.2.1 y.2.2.2.1))]),(hT 3 [(.map y.2.2.2.2.1 y.2.2.2.2.2.1),(oC y.2.2.2.2.2.2)]))) (fun y=>KT pu n (Eo pu n w0) y.1 y.2.1 y.2.2.1 y.2.2.2.1 y.2.2.2.2.1 y.2.2.2.2.2.1 y.2.2.2.2.2.2) ?_ ?_
   ·rintro⟨b3,n2,n3,c1,e2,k3,q1⟩ hm
    unfold KT at hm
    replace hm:=Ae hm;obtain⟨h3,hm⟩:=hm
    refine .reg (eC 1 (keep (hT 3 [(.map e2 k3),oC q1]) (oo (bb (Nat.ble 1 n3) (some 1) none) none fun l=>some (sliceAt 2 (n2+l*1) 1 (n3 - l) (c1 / 2 - l) (Dp false (Nat.beq (c1 % 2) 1))))) (show _=some ((.slice (some ⟨2,(n2+1*1),some 1⟩) (n3 - 1) (2*(c1 / 2 - 1)+bb (Dp false (Nat.beq (c1 % 2) 1)) 1 0)),(hT 3 [(.map e2 k3),oC q1])) from (RJ h3).trans (by kernel_rfl)) (eE)) ?_
    replace hm:=Ae hm;obtain⟨h4,hm⟩:=hm
    replace hm:=Ae hm;obtain⟨h5,hm⟩:=hm
    exact⟨(b3,(n2+1*1),(n3 - 1),(2*(c1 / 2 - 1)+bb (Dp false (Nat.beq (c1 % 2) 1)) 1 0),e2,k3,q1),hm,(.k [1,2] [false] [.tmp 5 false,.tmp 6 false] [1,5,6] ⟨DL h4,DL h5,trivial⟩)⟩
   ·refine .block (.then ?_)
    replace hm:=Ae hm;obtain⟨h6,hm⟩:=hm
    replace hm:=yN hm;obtain⟨s0,h7,hm⟩:=hm
    refine .reg (eC 1 (keep (hT 3 [(.map e1 k2),oC q0]) (bb (an (Nat.blt 0 n1) true) (some (.pointer (some ⟨2,(n0+0*1),none⟩))) none)) (AX h6) (eD (keep (hT 3 [(.map e1 k2),oC q0]) (AL q0 (n0+0*1))) (AZ h7) (eE))) ?_
    refine .ghs (fr 77 [(1,zB b0),(5,(.map (some 1))),(6,(.slice (some ⟨2,n0,some 1⟩) n1 c0)),(7,Sl.v 1 s0)]) (hT 3 [(.map e1 k2),oC q0]) (.k [1,2] [false] [.tmp 5 false,.tmp 6 false] [1,5,6,7] ⟨DL h0,DL h1,trivial⟩) ?_
    refine .then (.rK (.ghs (fr 77 [(1,zB b0),(5,(.map (some 1))),(6,(.slice (some ⟨2,n0,some 1⟩) n1 c0)),(7,Sl.v 1 s0),(28,(zI (Int.ofNat (Sl.n s0)))),(29,(zI (0:Int)))]) (hT 3 [(.map e1 k2),oC q0]) (.k [1,2] [false] [.tmp 5 false,.tmp 6 false] [1,5,6,7,28,29] ⟨DL h0,DL h1,trivial⟩) ?_))
    refine .block (.loopM (v:=v) (fun y:Bool×Nat×Nat×Nat×Sl×Int×Int×List EO×Nat×LV=>((fr 77 [(1,(zB y.1)),(5,(.map (some 1))),(6,(.slice (some ⟨2,y.2.1,some 1⟩) y.2.2.1 y.2.2.2.1)),(7,(Sl.v 1 y.2.2.2.2.1)),(28,(zI y.2.2.2.2.2.1)),(29,(zI y.2.2.2.2.2.2.1))]),(hT 3 [(.map y.2.2.2.2.2.2.2.1 y.2.2.2.2.2.2.2.2.1),(oC y.2.2.2.2.2.2.2.2.2)]))) (fun w y=>FL pu n (Eo pu n w0) w y.1 y.2.1 y.2.2.1 y.2.2.2.1 y.2.2.2.2.1 y.2.2.2.2.2.1 y.2.2.2.2.2.2.1 y.2.2.2.2.2.2.2.1 y.2.2.2.2.2.2.2.2.1 y.2.2.2.2.2.2.2.2.2) n ⟨(b0,n0,n1,c0,s0,(Int.ofNat (Sl.n s0)),(0:Int),e1,k2,q0),hm,(.k [1,2] [false] [.tmp 5 false,.tmp 6 false] [1,5,6,7,28,29] ⟨DL h0,DL h1,trivial⟩)⟩ (fun _=>rfl) ?_)
    rintro w1 ⟨b4,n4,n5,c2,s1,z0,z1,e3,k4,q2⟩ hm
    replace hm:Iz pu n (Eo pu n w0) (FL pu n (Eo pu n w0) w1) b4 n4 n5 c2 s1 z0 z1 e3 k4 q2=some v:=hm
    unfold Iz at hm
    refine .then (.rK ?_)
    replace hm:=Ae hm;obtain⟨h8,hm⟩:=hm
    replace hm:=Ae hm;obtain⟨h9,hm⟩:=hm
    refine .ghs (fr 77 [(1,zB b4),(5,(.map (some 1))),(6,(.slice (some ⟨2,n4,some 1⟩) n5 c2)),(7,Sl.v 1 s1),(28,zI z0),(29,zI z1),(30,(zB (AY z1 z0)))]) (hT 3 [(.map e3 k4),oC q2]) (.k [1,2] [false] [.tmp 5 false,.tmp 6 false] [1,5,6,7,28,29,30] ⟨DL h8,DL h9,trivial⟩) ?_
    refine .then ?_
    replace hm:=Ag hm;rcases hm with⟨h10,hm⟩ | ⟨h10,hm⟩
    ·refine Hy (AY z1 z0) h10 ?_
     refine .skip (.ghs (fr 77 [(1,zB b4),(5,(.map (some 1))),(6,(.slice (some ⟨2,n4,some 1⟩) n5 c2)),(7,Sl.v 1 s1),(28,zI z0),(29,zI z1)]) (hT 3 [(.map e3 k4),oC q2]) (.k [1,2] [false] [.tmp 5 false,.tmp 6 false] [1,5,6,7,28,29] ⟨DL h8,DL h9,trivial⟩) ?_)
     refine .join (v:=v) (fun y:Bool×Nat×Nat×Nat×Sl×Int×Int×List EO×Nat×LV=>((fr 77 [(1,(zB y.1)),(5,(.map (some 1))),(6,(.slice (some ⟨2,y.2.1,some 1⟩) y.2.2.1 y.2.2.2.1)),(7,(Sl.v 1 y.2.2.2.2.1)),(28,(zI y.2.2.2.2.2.1)),(29,(zI y.2.2.2.2.2.2.1))]),(hT 3 [(.map y.2.2.2.2.2.2.2.1 y.2.2.2.2.2.2.2.2.1),(oC y.2.2.2.2.2.2.2.2.2)]))) (fun y=>KU pu n (Eo pu n w0) (FL pu n (Eo pu n w0) w1) y.1 y.2.1 y.2.2.1 y.2.2.2.1 y.2.2.2.2.1 y.2.2.2.2.2.1 y.2.2.2.2.2.2.1 y.2.2.2.2.2.2.2.1 y.2.2.2.2.2.2.2.2.1 y.2.2.2.2.2.2.2.2.2) ?_ ?_
     ·rintro⟨b5,n6,n7,c3,s2,z2,z3,e4,k5,q3⟩ hm
      unfold KU at hm
      refine .rK ?_
      replace hm:=Ae hm;obtain⟨h11,hm⟩:=hm
      replace hm:=Ae hm;obtain⟨h12,hm⟩:=hm
      exact⟨(b5,n6,n7,c3,s2,z2,(Aj .i64 (Int.add z3 (1:Int))),e4,k5,q3),hm,(.k [1,2] [false] [.tmp 5 false,.tmp 6 false] [1,5,6,7,28,29] ⟨DL h11,DL h12,trivial⟩)⟩
     ·refine .block (.then (.rK (.ghs (fr 77 [(1,zB b4),(5,(.map (some 1))),(6,(.slice (some ⟨2,n4,some 1⟩) n5 c2)),(7,Sl.v 1 s1),(8,zI z1),(28,zI z0),(29,zI z1)]) (hT 3 [(.map e3 k4),oC q2]) (.k [1,2] [false] [.tmp 5 false,.tmp 6 false] [1,5,6,7,8,28,29] ⟨DL h8,DL h9,trivial⟩) ?_)))
      refine .then (.rK (.ghs (fr 77 [(1,zB b4),(5,(.map (some 1))),(6,(.slice (some ⟨2,n4,some 1⟩) n5 c2)),(7,Sl.v 1 s1),(8,zI z1),(9,(zI (Aj .i64 (Int.add z1 (1:Int))))),(28,zI z0),(29,zI z1)]) (hT 3 [(.map e3 k4),oC q2]) (.k [1,2] [false] [.tmp 5 false,.tmp 6 false] [1,5,6,7,8,9,28,29] ⟨DL h8,DL h9,trivial⟩) ?_))
      refine .block (.loopM (v:=v) (fun y:Bool×Nat×Nat×Nat×Sl×Int×Int×Int×Int×List EO×Nat×LV=>((fr 77 [(1,(zB y.1)),(5,(.map (some 1))),(6,(.slice (some ⟨2,y.2.1,some 1⟩) y.2.2.1 y.2.2.2.1)),(7,(Sl.v 1 y.2.2.2.2.1)),(8,(zI y.2.2.2.2.2.1)),(9,(zI y.2.2.2.2.2.2.1)),(28,(zI y.2.2.2.2.2.2.2.1)),(29,(zI y.2.2.2.2.2.2.2.2.1))]),(hT 3 [(.map y.2.2.2.2.2.2.2.2.2.1 y.2.2.2.2.2.2.2.2.2.2.1),(oC y.2.2.2.2.2.2.2.2.2.2.2)]))) (fun w y=>FY pu n (Eo pu n w0) (FL pu n (Eo pu n w0) w1) w y.1 y.2.1 y.2.2.1 y.2.2.2.1 y.2.2.2.2.1 y.2.2.2.2.2.1 y.2.2.2.2.2.2.1 y.2.2.2.2.2.2.2.1 y.2.2.2.2.2.2.2.2.1 y.2.2.2.2.2.2.2.2.2.1 y.2.2.2.2.2.2.2.2.2.2.1 y.2.2.2.2.2.2.2.2.2.2.2) n ⟨(b4,n4,n5,c2,s1,z1,(Aj .i64 (Int.add z1 (1:Int))),z0,z1,e3,k4,q2),hm,(.k [1,2] [false] [.tmp 5 false,.tmp 6 false] [1,5,6,7,8,9,28,29] ⟨DL h8,DL h9,trivial⟩)⟩ (fun _=>rfl) ?_)
      rintro w2 ⟨b7,n8,n9,c4,s3,z4,z5,z6,z7,e5,k6,q4⟩ hm
      replace hm:G5 pu n (Eo pu n w0) (FL pu n (Eo pu n w0) w1) (FY pu n (Eo pu n w0) (FL pu n (Eo pu n w0) w1) w2) b7 n8 n9 c4 s3 z4 z5 z6 z7 e5 k6 q4=some v:=hm
      unfold G5 at hm
      refine .then (.join (v:=v) (fun y:Bool×Nat×Nat×Nat×Sl×Int×Int×Int×Int×Bool×List EO×Nat×LV=>((fr 77 [(1,(zB y.1)),(5,(.map (some 1))),(6,(.slice (some ⟨2,y.2.1,some 1⟩) y.2.2.1 y.2.2.2.1)),(7,(Sl.v 1 y.2.2.2.2.1)),(8,(zI y.2.2.2.2.2.1)),(9,(zI y.2.2.2.2.2.2.1)),(28,(zI y.2.2.2.2.2.2.2.1)),(29,(zI y.2.2.2.2.2.2.2.2.1)),(47,(zB y.2.2.2.2.2.2.2.2.2.1))]),(hT 3 [(.map y.2.2.2.2.2.2.2.2.2.2.1 y.2.2.2.2.2.2.2.2.2.2.2.1),(oC y.2.2.2.2.2.2.2.2.2.2.2.2)]))) (fun y=>FX pu n (Eo pu n w0) (FL pu n (Eo pu n w0) w1) (FY pu n (Eo pu n w0) (FL pu n (Eo pu n w0) w1) w2) y.1 y.2.1 y.2.2.1 y.2.2.2.1 y.2.2.2.2.1 y.2.2.2.2.2.1 y.2.2.2.2.2.2.1 y.2.2.2.2.2.2.2.1 y.2.2.2.2.2.2.2.2.1 y.2.2.2.2.2.2.2.2.2.1 y.2.2.2.2.2.2.2.2.2.2.1 y.2.2.2.2.2.2.2.2.2.2.2.1 y.2.2.2.2.2.2.2.2.2.2.2.2) ?_ ?_)
      ·rintro⟨b8,n10,n11,c5,s4,z8,z9,z10,z11,b9,e6,k7,q5⟩ hm
       unfold FX at hm
       replace hm:=Ag hm;rcases hm with⟨h13,hm⟩ | ⟨h13,hm⟩
       ·refine .ifT b9 (by kernel_rfl) h13 ?_
        refine .skip ?_
        replace hm:=Ae hm;obtain⟨h14,hm⟩:=hm
        replace hm:=Ae hm;obtain⟨h15,hm⟩:=hm
        refine .ghs (fr 77 [(1,zB b8),(5,(.map (some 1))),(6,(.slice (some ⟨2,n10,some 1⟩) n11 c5)),(7,Sl.v 1 s4),(8,zI z8),(9,zI z9),(28,zI z10),(29,zI z11)]) (hT 3 [(.map e6 k7),oC q5]) (.k [1,2] [false] [.tmp 5 false,.tmp 6 false] [1,5,6,7,8,9,28,29] ⟨DL h14,DL h15,trivial⟩) ?_
        refine .join (v:=v) (fun y:Bool×Nat×Nat×Nat×Sl×Int×Int×Int×Int×List EO×Nat×LV=>((fr 77 [(1,(zB y.1)),(5,(.map (some 1))),(6,(.slice (some ⟨2,y.2.1,some 1⟩) y.2.2.1 y.2.2.2.1)),(7,(Sl.v 1 y.2.2.2.2.1)),(8,(zI y.2.2.2.2.2.1)),(9,(zI y.2.2.2.2.2.2.1)),(28,(zI y.2.2.2.2.2.2.2.1)),(29,(zI y.2.2.2.2.2.2.2.2.1))]),(hT 3 [(.map y.2.2.2.2.2.2.2.2.2.1 y.2.2.2.2.2.2.2.2.2.2.1),(oC y.2.2.2.2.2.2.2.2.2.2.2)]))) (fun y=>Jj pu n (Eo pu n w0) (FL pu n (Eo pu n w0) w1) (FY pu n (Eo pu n w0) (FL pu n (Eo pu n w0) w1) w2) y.1 y.2.1 y.2.2.1 y.2.2.2.1 y.2.2.2.2.1 y.2.2.2.2.2.1 y.2.2.2.2.2.2.1 y.2.2.2.2.2.2.2.1 y.2.2.2.2.2.2.2.2.1 y.2.2.2.2.2.2.2.2.2.1 y.2.2.2.2.2.2.2.2.2.2.1 y.2.2.2.2.2.2.2.2.2.2.2) ?_ ?_
        ·rintro⟨b10,n12,n13,c7,s5,z12,z13,z14,z15,e7,k8,q6⟩ hm
         unfold Jj at hm
         refine .rK ?_
         replace hm:=Ae hm;obtain⟨h16,hm⟩:=hm
         replace hm:=Ae hm;obtain⟨h17,hm⟩:=hm
         exact⟨(b10,n12,n13,c7,s5,z12,(Aj .i64 (Int.add z13 (1:Int))),z14,z15,e7,k8,q6),hm,(.k [1,2] [false] [.tmp 5 false,.tmp 6 false] [1,5,6,7,8,9,28,29] ⟨DL h16,DL h17,trivial⟩)⟩
        ·refine .block (.then ?_)
         replace hm:=yN hm;obtain⟨s6,h18,hm⟩:=hm
         refine .reg (eC 3 ((oo (pu 24 [Sl.v 1 s4,zI z8,zI z9]) none fun v=>some (v,(hT 3 [(.map e6 k7),oC q5])))) (AB h18) (eE)) ?_
         refine .ghs (fr 77 [(1,zB b8),(5,(.map (some 1))),(6,(.slice (some ⟨2,n10,some 1⟩) n11 c5)),(7,Sl.v 1 s4),(8,zI z8),(9,zI z9),(10,Sl.v 1 s6),(28,zI z10),(29,zI z11)]) (hT 3 [(.map e6 k7),oC q5]) (.k [1,2] [false] [.tmp 5 false,.tmp 6 false] [1,5,6,7,8,9,10,28,29] ⟨DL h14,DL h15,trivial⟩) ?_
         refine .then ?_
         replace hm:=Ke hm;obtain⟨x0,h19,hm⟩:=hm
         replace hm:=Ab hm;obtain⟨r0,h20,hm⟩:=hm
         replace hm:=Ab hm;obtain⟨x1,h21,hm⟩:=hm
         refine .reg (eC 2 ((oo (pu 23 [Sl.v 1 s6]) none fun v=>some (v,(hT 3 [(.map e6 k7),oC q5])))) (AB h19) (eD (keep (hT 3 [(.map e6 k7),oC q5]) (oo (GD (zI x0) e6 0) none fun r=>oo r (okV true (zI (0:Int)) false) fun p=>pp p fun _ v=>okV true v true)) (Ur h20 (Eh h21)) (eE))) ?_
         refine .ghs (fr 77 [(1,zB b8),(5,(.map (some 1))),(6,(.slice (some ⟨2,n10,some 1⟩) n11 c5)),(7,Sl.v 1 s4),(8,zI z8),(9,zI z9),(10,Sl.v 1 s6),(12,(zB (isS r0))),(28,zI z10),(29,zI z11)]) (hT 3 [(.map e6 k7),oC q5]) (.k [1,2] [false] [.tmp 5 false,.tmp 6 false] [1,5,6,7,8,9,10,12,28,29] ⟨DL h14,DL h15,trivial⟩) ?_
         refine .then (.rK (.ghs (fr 77 [(1,zB b8),(5,(.map (some 1))),(6,(.slice (some ⟨2,n10,some 1⟩) n11 c5)),(7,Sl.v 1 s4),(8,zI z8),(9,zI z9),(10,Sl.v 1 s6),(28,zI z10),(29,zI z11),(62,(zB (nt (isS r0))))]) (hT 3 [(.map e6 k7),oC q5]) (.k [1,2] [false] [.tmp 5 false,.tmp 6 false] [1,5,6,7,8,9,10,28,29,62] ⟨DL h14,DL h15,trivial⟩) ?_))
         replace hm:=Ag hm;rcases hm with⟨h22,hm⟩ | ⟨h22,hm⟩
         ·refine Hy (nt (isS r0)) h22 ?_
          refine .then ?_
          replace hm:=Ke hm;obtain⟨x2,h23,hm⟩:=hm
          replace hm:=Ke hm;obtain⟨x3,h24,hm⟩:=hm
          replace hm:=Ab hm;obtain⟨r1,h25,hm⟩:=hm
          replace hm:=Ab hm;obtain⟨x4,h26,hm⟩:=hm
          replace hm:=Ab hm;obtain⟨r2,h27,hm⟩:=hm
          refine .reg (eC 2 ((oo (pu 23 [Sl.v 1 s6]) none fun v=>some (v,(hT 3 [(.map e6 k7),oC q5])))) (AB h23) (eC 2 ((oo (pu 23 [Sl.v 1 s4]) none fun v=>some (v,(hT 3 [(.map e6 k7),oC q5])))) (AB h24) (eD (keep (hT 3 [(.map e6 k7),oC q5]) (oo (GD (zI x3) e6 0) none fun r=>oo r (okV false (zI (0:Int)) false) fun p=>pp p fun _ v=>okV false v true)) (MM h25 (Eh h26)) (eC 1 (done (oo (GD (zI x2) e6 0) none fun r=>oo r (some (Aa.set (hT 3 [(.map e6 k7),oC q5]) 1 (.map (Br e6 [⟨zI x2,(zI (Aj .i64 (Int.add x4 (1:Int)))),k7⟩]) (k7+1)))) fun p=>pp p fun j _=>some (Aa.set (hT 3 [(.map e6 k7),oC q5]) 1 (.map (SS (fun e=>⟨zI x2,(zI (Aj .i64 (Int.add x4 (1:Int)))),e.born⟩) j e6) k7))) undef) (Us (H2:=(hT 3 [(.map (Gr (zI x2) (zI (Aj .i64 (Int.add x4 (1:Int)))) k7 e6 r2) (Ja k7 r2)),oC q5])) h27) (eE))))) ?_
          replace hm:=Ae hm;obtain⟨h28,hm⟩:=hm
          refine .ghs (fr 77 [(1,zB b8),(5,(.map (some 1))),(6,(.slice (some ⟨2,n10,some 1⟩) n11 c5)),(7,Sl.v 1 s4),(8,zI z8),(9,zI z9),(10,Sl.v 1 s6),(28,zI z10),(29,zI z11)]) (hT 3 [(.map (Gr (zI x2) (zI (Aj .i64 (Int.add x4 (1:Int)))) k7 e6 r2) (Ja k7 r2)),oC q5]) (.k [1,2] [false] [.tmp 5 false,.tmp 6 false] [1,5,6,7,8,9,10,28,29] ⟨DL h28,DL h15,trivial⟩) ?_
          replace hm:=Ae hm;obtain⟨h29,hm⟩:=hm
          refine .reg (eC 3 (T9 1 24 n10 n11 c5 1 2 q5 [Sl.v 1 s6] [] (hT 4 [(.map (Gr (zI x2) (zI (Aj .i64 (Int.add x4 (1:Int)))) k7 e6 r2) (Ja k7 r2)),oC q5,(oC [Sl.v 1 s6])])) (Wj h29) (eE)) ?_
          replace hm:=Ae hm;obtain⟨h30,hm⟩:=hm
          exact⟨(b8,0,(n11+1),(d2 (n11+1)),s4,z8,z9,z10,z11,(Gr (zI x2) (zI (Aj .i64 (Int.add x4 (1:Int)))) k7 e6 r2),(Ja k7 r2),(Br (Am n10 q5) [Sl.v 1 s6])),hm,(.k [1,4] [false] [.tmp 5 false,.tmp 6 false] [1,5,6,7,8,9,28,29] ⟨DL h28,DL h30,trivial⟩)⟩
         ·refine Hz (nt (isS r0)) h22 ?_
          refine .skip ?_
          exact⟨(b8,n10,n11,c5,s4,z8,z9,z10,z11,e6,k7,q5),hm,(.k [1,2] [false] [.tmp 5 false,.tmp 6 false] [1,5,6,7,8,9,28,29] ⟨DL h14,DL h15,trivial⟩)⟩
       ·refine .ifF b9 (by kernel_rfl) h13 ?_
        refine .exit ?_
        replace hm:=Ae hm;obtain⟨h31,hm⟩:=hm
        replace hm:=Ae hm;obtain⟨h32,hm⟩:=hm
        exact⟨(b8,n10,n11,c5,s4,z10,z11,e6,k7,q5),hm,(.k [1,2] [false] [.tmp 5 false,.tmp 6 false] [1,5,6,7,28,29] ⟨DL h31,DL h32,trivial⟩)⟩
      ·replace hm:=Ag hm;rcases hm with⟨h33,hm⟩ | ⟨h33,hm⟩
       ·replace hm:=Ag hm;rcases hm with⟨h34,hm⟩ | ⟨h34,hm⟩
        ·refine .reg (eC 3 (some ((zB (AY z5 (Int.ofNat (Sl.n s3)))),(hT 3 [(.map e5 k6),oC q4]))) (show _=some ((zB true),_) from (by rw[show (AY z5 (Int.ofNat (Sl.n s3)))=true from h33])) (eC 2 (some ((zB (nt b7)),(hT 3 [(.map e5 k6),oC q4]))) (show _=some ((zB true),_) from (by rw[show (nt b7)=true from h34])) (eE))) ?_
         replace hm:=Ae hm;obtain⟨h35,hm⟩:=hm
         replace hm:=Ae hm;obtain⟨h36,hm⟩:=hm
         exact⟨(b7,n8,n9,c4,s3,z4,z5,z6,z7,true,e5,k6,q4),hm,(.k [1,2] [false] [.tmp 5 false,.tmp 6 false] [1,5,6,7,8,9,28,29,47] ⟨DL h35,DL h36,trivial⟩)⟩
        ·refine .reg (eC 3 (some ((zB (AY z5 (Int.ofNat (Sl.n s3)))),(hT 3 [(.map e5 k6),oC q4]))) (show _=some ((zB true),_) from (by rw[show (AY z5 (Int.ofNat (Sl.n s3)))=true from h33])) (eC 2 (some ((zB (nt b7)),(hT 3 [(.map e5 k6),oC q4]))) (show _=some ((zB false),_) from (by rw[show (nt b7)=false from h34])) (eE))) ?_
         replace hm:=Ae hm;obtain⟨h37,hm⟩:=hm
         replace hm:=Ae hm;obtain⟨h38,hm⟩:=hm
         exact⟨(b7,n8,n9,c4,s3,z4,z5,z6,z7,(Bd z5 (Aj .i64 (Int.add z4 (1:Int)))),e5,k6,q4),hm,(.k [1,2] [false] [.tmp 5 false,.tmp 6 false] [1,5,6,7,8,9,28,29,47] ⟨DL h37,DL h38,trivial⟩)⟩
       ·refine .reg (eC 3 (some ((zB (AY z5 (Int.ofNat (Sl.n s3)))),(hT 3 [(.map e5 k6),oC q4]))) (show _=some ((zB false),_) from (by rw[show (AY z5 (Int.ofNat (Sl.n s3)))=false from h33])) (eE)) ?_
        replace hm:=Ae hm;obtain⟨h39,hm⟩:=hm
        replace hm:=Ae hm;obtain⟨h40,hm⟩:=hm
        exact⟨(b7,n8,n9,c4,s3,z4,z5,z6,z7,false,e5,k6,q4),hm,(.k [1,2] [false] [.tmp 5 false,.tmp 6 false] [1,5,6,7,8,9,28,29,47] ⟨DL h39,DL h40,trivial⟩)⟩
    ·refine Hz (AY z1 z0) h10 ?_
     refine .exit ?_
     exact⟨(b4,n4,n5,c2,e3,k4,q2),hm,(.k [1,2] [false] [.tmp 5 false,.tmp 6 false] [1,5,6] ⟨DL h8,DL h9,trivial⟩)⟩
  ·refine Hz (AY (0:Int) (Int.ofNat n1)) h2 ?_
   refine .exit ?_
   exact⟨(e1,k2),hm,(.k [1] [false] [.tmp 5 false] [5] ⟨DL h0,trivial⟩)⟩
theorem iH {call:A8} (pu:Af) (n:Nat) (hcall:call=Bb tabs Iq pu (inl pu)) {args:LV} {os:List AJ} {z:Value} (ha:args.length=2) (hk:os.length=0) (hpl:∀ o∈os,plainO o) (hm:OH pu n (args++os.map Ef)=some z):args.length≤77∧BN tt call (tabs.length+0) Oz (Fr.made 77 args) (BK tabs os) (FJ tt tabs.length 0 [.tmp 4] z):=by
 subst hcall
 have hq:=BC ha;clear ha;obtain⟨a0,args,rfl,ha⟩:=hq
 have hq:=BC ha;clear ha;obtain⟨a1,args,rfl,ha⟩:=hq
 obtain rfl:=len_nil ha
 obtain rfl:=len_nil hk
 replace hm:OH pu n [a0,a1]=some z:=hm
 unfold OH at hm
 replace hm:(oo (Bj 1 a0) none fun s0=>(oo (Bf a1) none fun b0=>(K3 pu n s0 b0)))=some z:=hm
 replace hm:=Al hm;obtain⟨s0,rfl,hm⟩:=hm
 replace hm:=Be hm;obtain⟨b0,rfl,hm⟩:=hm
 refine⟨by simp,?_⟩
 exact .same (F':=(fr 77 [(0,Sl.v 1 s0),(1,zB b0)])) (H':=FM) (by kernel_rfl) (by kernel_rfl) (iG pu n s0 b0 hm)

def Ng (pu:Af) (n:Nat) (z0:Int) (s0 s1:Sl):OV:=
 (oo (pu 47 [(.agg ⟨[.int .i64 z0,Sl.v 1 s0,Sl.v 1 s1]⟩)]) none fun v0=>(oo (Bi .i64 v0) none fun x0=>(bb (nt (Bd x0 (0:Int))) (some (.tuple ⟨[(.tuple ⟨[(.int .i64 (0:Int)),.int .i64 x0]⟩)]⟩)) (oo (pu 44 [(.agg ⟨[.int .i64 z0,Sl.v 1 s0,Sl.v 1 s1]⟩)]) none fun v1=>(oo (Bi .i64 v1) none fun x1=>(some (.tuple ⟨[(.tuple ⟨[.int .i64 x1,(.int .i64 (0:Int))]⟩)]⟩)))))))
def OJ (pu:Af) (n:Nat) (args:LV):OV:=
 (ll args none fun a0 args=>(ll args (oo (Bt a0) none fun l0=>(ll l0 none fun v0 l0=>(ll l0 none fun v1 l0=>(ll l0 none fun v2 l0=>(ll l0 (oo (Bi .i64 v0) none fun x0=>(oo (Bj 1 v1) none fun s0=>(oo (Bj 1 v2) none fun s1=>(Ng pu n x0 s0 s1)))) fun _ _=>none))))) fun _ _=>none))
theorem iI (pu:Af) (n:Nat) (z0:Int) (s0 s1:Sl) {v:Value} (hm:Ng pu n z0 s0 s1=some v):BN tt (Bb tabs Iq pu (inl pu)) 1 OA (fr 12 [(0,(.agg ⟨[zI z0,Sl.v 1 s0,Sl.v 1 s1]⟩))]) FM (FJ tt 1 0 [.tmp 2,.tmp 3] v):=by
 unfold Ng at hm
 refine .then (.rK (.ghs (fr 12 [(1,pt 1 0)]) (hT 2 [(oC [zI z0,Sl.v 1 s0,Sl.v 1 s1])]) (.k0 [false] [.tmp 1 false] [1]) ?_))
 refine .then (.then ?_)
 replace hm:=Ke hm;obtain⟨x0,h0,hm⟩:=hm
 refine .reg (eC 1 ((oo (pu 47 [(.agg ⟨[zI z0,Sl.v 1 s0,Sl.v 1 s1]⟩)]) none fun v=>some (v,(hT 2 [(oC [zI z0,Sl.v 1 s0,Sl.v 1 s1])])))) (AB h0) (eE)) ?_
 refine .ghs (fr 12 [(1,pt 1 0),(4,zI x0)]) (hT 2 [(oC [zI z0,Sl.v 1 s0,Sl.v 1 s1])]) (.k0 [false] [.tmp 1 false] [1,4]) ?_
 refine .then (.rK (.ghs (fr 12 [(1,pt 1 0),(4,zI x0),(8,(zB (nt (Bd x0 (0:Int)))))]) (hT 2 [(oC [zI z0,Sl.v 1 s0,Sl.v 1 s1])]) (.k0 [false] [.tmp 1 false] [1,4,8]) ?_))
 replace hm:=Ag hm;rcases hm with⟨h1,hm⟩ | ⟨h1,hm⟩
 ·refine Hy (nt (Bd x0 (0:Int))) h1 ?_
  refine .then (.rK (.ghs (fr 12 [(2,(zI (0:Int))),(3,zI x0)]) FM (.k0 [false] [] [2,3]) ?_))
  refine .ghs (fr 12 [(2,(zI (0:Int))),(3,zI x0)]) FM (.k0 [false] [] [2,3]) ?_
  refine .ret ?_
  exact Gi (.tuple ⟨[(zI (0:Int)),zI x0]⟩) [] (by kernel_rfl) hm (Nat.le_of_ble_eq_true rfl) EJ
 ·refine Hz (nt (Bd x0 (0:Int))) h1 ?_
  refine .skip (.ghs (fr 12 [(1,pt 1 0)]) (hT 2 [(oC [zI z0,Sl.v 1 s0,Sl.v 1 s1])]) (.k0 [false] [.tmp 1 false] [1]) ?_)
  refine .then ?_
  replace hm:=Ke hm;obtain⟨x1,h2,hm⟩:=hm
  refine .reg (eC 1 ((oo (pu 44 [(.agg ⟨[zI z0,Sl.v 1 s0,Sl.v 1 s1]⟩)]) none fun v=>some (v,(hT 2 [(oC [zI z0,Sl.v 1 s0,Sl.v 1 s1])])))) (AB h2) (eE)) ?_
  refine .ghs (fr 12 [(2,zI x1),(3,(zI (0:Int)))]) FM (.k0 [false] [] [2,3]) ?_
  refine .ghs (fr 12 [(2,zI x1),(3,(zI (0:Int)))]) FM (.k0 [false] [] [2,3]) ?_
  refine .ret ?_
  exact Gi (.tuple ⟨[zI x1,(zI (0:Int))]⟩) [] (by kernel_rfl) hm (Nat.le_of_ble_eq_true rfl) EJ
theorem iJ {call:A8} (pu:Af) (n:Nat) (hcall:call=Bb tabs Iq pu (inl pu)) {args:LV} {os:List AJ} {z:Value} (ha:args.length=1) (hk:os.length=0) (hpl:∀ o∈os,plainO o) (hm:OJ pu n (args++os.map Ef)=some z):args.length≤12∧BN tt call (tabs.length+0) OA (Fr.made 12 args) (BK tabs os) (FJ tt tabs.length 0 [.tmp 2,.tmp 3] z):=by
 subst hcall
 have hq:=BC ha;clear ha;obtain⟨a0,args,rfl,ha⟩:=hq
 obtain rfl:=len_nil ha
 obtain rfl:=len_nil hk
 replace hm:OJ pu n [a0]=some z:=hm
 unfold OJ at hm
 replace hm:(oo (Bt a0) none fun l0=>(ll l0 none fun v0 l0=>(ll l0 none fun v1 l0=>(ll l0 none fun v2 l0=>(ll l0 (oo (Bi .i64 v0) none fun x0=>(oo (Bj 1 v1) none fun s0=>(oo (Bj 1 v2) none fun s1=>(Ng pu n x0 s0 s1)))) fun _ _=>none)))))=some z:=hm
 replace hm:=BG hm;obtain⟨l0,rfl,hm⟩:=hm
 replace hm:=Ad hm;obtain⟨v0,l16057_0,rfl,hm⟩:=hm
 replace hm:=Ad hm;obtain⟨v1,l16057_1,rfl,hm⟩:=hm
 replace hm:=Ad hm;obtain⟨v2,l16057_2,rfl,hm⟩:=hm
 replace hm:=AC hm;obtain⟨rfl,hm⟩:=hm
 replace hm:=Ai hm;obtain⟨x0,rfl,hm⟩:=hm
 replace hm:=Al hm;obtain⟨s0,rfl,hm⟩:=hm
 replace hm:=Al hm;obtain⟨s1,rfl,hm⟩:=hm
 refine⟨by simp,?_⟩
 exact .same (F':=(fr 12 [(0,(.agg ⟨[zI x0,Sl.v 1 s0,Sl.v 1 s1]⟩))])) (H':=FM) (by kernel_rfl) (by kernel_rfl) (iI pu n x0 s0 s1 hm)

def Nh (pu:Af) (n:Nat) (z0:Int) (s0 s1:Sl):OV:=
 (oo (GD (.int .u16 (0:Int)) ([]:List EO) 0) none fun r0=>(bb (Au F4 (Gr (.int .u16 (0:Int)) (.int .i64 (0:Int)) 0 ([]:List EO) r0)) (some (.tuple ⟨[(.pointer (some ⟨1,0,none⟩)),(.agg ⟨[.int .i64 z0,Sl.v 1 s0,Sl.v 1 s1,(.map (some 2))]⟩),(Ef (.map (Gr (.int .u16 (0:Int)) (.int .i64 (0:Int)) 0 ([]:List EO) r0) (Ja 0 r0)))]⟩)) none))
def OL (pu:Af) (n:Nat) (args:LV):OV:=
 (ll args none fun a0 args=>(ll args (oo (Bt a0) none fun l0=>(ll l0 none fun v0 l0=>(ll l0 none fun v1 l0=>(ll l0 none fun v2 l0=>(ll l0 (oo (Bi .i64 v0) none fun x0=>(oo (Bj 1 v1) none fun s0=>(oo (Bj 1 v2) none fun s1=>(Nh pu n x0 s0 s1)))) fun _ _=>none))))) fun _ _=>none))
theorem iK (pu:Af) (n:Nat) (z0:Int) (s0 s1:Sl) {v:Value} (hm:Nh pu n z0 s0 s1=some v):BN tt (Bb tabs Iq pu (inl pu)) 1 QE (fr 8 [(0,(.agg ⟨[zI z0,Sl.v 1 s0,Sl.v 1 s1]⟩))]) FM (FJ tt 1 0 [.tmp 2] v):=by
 unfold Nh at hm
 refine .then (.rK (.ghs (fr 8 [(1,pt 1 0)]) (hT 2 [(oC [zI z0,Sl.v 1 s0,Sl.v 1 s1])]) (.k0 [false] [.tmp 1 false] [1]) ?_))
 refine .then ?_
 replace hm:=Ab hm;obtain⟨r0,h0,hm⟩:=hm
 refine .reg (eC 2 (done (oo (GD (.int .u16 (0:Int)) ([]:List EO) 0) none fun r=>oo r (some (Aa.set (hT 3 [(oC [zI z0,Sl.v 1 s0,Sl.v 1 s1]),(.map ([]:List EO) 0)]) 2 (.map (Br ([]:List EO) [⟨(.int .u16 (0:Int)),(zI (0:Int)),0⟩]) (0+1)))) fun p=>pp p fun j _=>some (Aa.set (hT 3 [(oC [zI z0,Sl.v 1 s0,Sl.v 1 s1]),(.map ([]:List EO) 0)]) 2 (.map (SS (fun e=>⟨(.int .u16 (0:Int)),(zI (0:Int)),e.born⟩) j ([]:List EO)) 0))) undef) (Us (H2:=(hT 3 [(oC [zI z0,Sl.v 1 s0,Sl.v 1 s1]),(.map (Gr (.int .u16 (0:Int)) (zI (0:Int)) 0 ([]:List EO) r0) (Ja 0 r0))])) h0) (eE)) ?_
 replace hm:=Ae hm;obtain⟨h1,hm⟩:=hm
 refine .ghs (fr 8 [(2,pt 1 0)]) (hT 3 [(oC [zI z0,Sl.v 1 s0,Sl.v 1 s1,(.map (some 2))]),(.map (Gr (.int .u16 (0:Int)) (zI (0:Int)) 0 ([]:List EO) r0) (Ja 0 r0))]) (.k [2] [false] [.tmp 2 true,.cell 1 3 false] [2] ⟨DL h1,trivial⟩) ?_
 refine .ghs (fr 8 [(2,pt 1 0)]) (hT 3 [(oC [zI z0,Sl.v 1 s0,Sl.v 1 s1,(.map (some 2))]),(.map (Gr (.int .u16 (0:Int)) (zI (0:Int)) 0 ([]:List EO) r0) (Ja 0 r0))]) (.k [2] [false] [.tmp 2 true,.cell 1 3 false] [2] ⟨DL h1,trivial⟩) ?_
 refine .ret ?_
 exact Gi (pt 1 0) [(oC [zI z0,Sl.v 1 s0,Sl.v 1 s1,(.map (some 2))]),(.map (Gr (.int .u16 (0:Int)) (zI (0:Int)) 0 ([]:List EO) r0) (Ja 0 r0))] (by kernel_rfl) hm (Nat.le_of_ble_eq_true rfl) (Fa (VT _) (Fa (SH _ _) EJ))
theorem iL {call:A8} (pu:Af) (n:Nat) (hcall:call=Bb tabs Iq pu (inl pu)) {args:LV} {os:List AJ} {z:Value} (ha:args.length=1) (hk:os.length=0) (hpl:∀ o∈os,plainO o) (hm:OL pu n (args++os.map Ef)=some z):args.length≤8∧BN tt call (tabs.length+0) QE (Fr.made 8 args) (BK tabs os) (FJ tt tabs.length 0 [.tmp 2] z):=by
 subst hcall
 have hq:=BC ha;clear ha;obtain⟨a0,args,rfl,ha⟩:=hq
 obtain rfl:=len_nil ha
 obtain rfl:=len_nil hk
 replace hm:OL pu n [a0]=some z:=hm
 unfold OL at hm
 replace hm:(oo (Bt a0) none fun l0=>(ll l0 none fun v0 l0=>(ll l0 none fun v1 l0=>(ll l0 none fun v2 l0=>(ll l0 (oo (Bi .i64 v0) none fun x0=>(oo (Bj 1 v1) none fun s0=>(oo (Bj 1 v2) none fun s1=>(Nh pu n x0 s0 s1)))) fun _ _=>none)))))=some z:=hm
 replace hm:=BG hm;obtain⟨l0,rfl,hm⟩:=hm
 replace hm:=Ad hm;obtain⟨v0,l16605_0,rfl,hm⟩:=hm
 replace hm:=Ad hm;obtain⟨v1,l16605_1,rfl,hm⟩:=hm
 replace hm:=Ad hm;obtain⟨v2,l16605_2,rfl,hm⟩:=hm
 replace hm:=AC hm;obtain⟨rfl,hm⟩:=hm
 replace hm:=Ai hm;obtain⟨x0,rfl,hm⟩:=hm
 replace hm:=Al hm;obtain⟨s0,rfl,hm⟩:=hm
 replace hm:=Al hm;obtain⟨s1,rfl,hm⟩:=hm
 refine⟨by simp,?_⟩
 exact .same (F':=(fr 8 [(0,(.agg ⟨[zI x0,Sl.v 1 s0,Sl.v 1 s1]⟩))])) (H':=FM) (by kernel_rfl) (by kernel_rfl) (iK pu n x0 s0 s1 hm)
def I8 (pu:Af) (n:Nat) (z0 z1 z2:Int) (s0 s1:Sl) (e0:List EO) (k1:Nat):OV:=
 (oo (GD (.int .u16 z0) e0 0) none fun r0=>(bb (Au F4 (Gr (.int .u16 z0) (.int .i64 z1) k1 e0 r0)) (some (.tuple ⟨[.int .i64 z1,(.agg ⟨[.int .i64 z2,Sl.v 1 s0,Sl.v 1 s1,(.map (some 2))]⟩),(Ef (.map (Gr (.int .u16 z0) (.int .i64 z1) k1 e0 r0) (Ja k1 r0)))]⟩)) none))
def Jv (pu:Af) (n:Nat) (z0 z1 z2:Int) (s0 s1:Sl) (e0:List EO) (k1:Nat):OV:=
 (oo (pu 71 [(.agg ⟨[.int .i64 z2,Sl.v 1 s0,Sl.v 1 s1]⟩),.int .u16 z0]) none fun v0=>(oo (Bf v0) none fun b0=>(bb (Au F4 e0) (bb b0 (I8 pu n z0 (Aj .i64 (Int.add z1 (1:Int))) z2 s0 s1 e0 k1) (I8 pu n z0 z1 z2 s0 s1 e0 k1)) none)))
def KV (pu:Af) (n:Nat) (ih0:Int→Int→Sl→Int→Int→Int→Sl→Sl→List EO→Nat→OV) (z0 z1:Int) (s0:Sl) (z2 z3 z4:Int) (s1 s2:Sl) (e0:List EO) (k1:Nat):OV:=
 (bb (Au F4 e0) (bb (AY z3 z2) (oo (EA z3) none fun k2=>(bb (an (Nat.blt k2 (Sl.n s0)) true) (oo (AL (Sl.cs s0) (k2*1)) none fun v0=>(oo (Bi .i64 v0) none fun x0=>(oo (EA x0) none fun k3=>(bb (Au F4 e0) (oo (pu 10660 [(.pointer (some ⟨1,0,none⟩)),(.int .u16 (QV .u16 z0 (QW .u16 (1:Int) k3))),(.agg ⟨[.int .i64 z4,Sl.v 1 s1,Sl.v 1 s2,(.map (some 2))]⟩),(Ef (.map e0 k1))]) none fun v1=>(oo (CQ v1) none fun l0=>(ll l0 none fun v2 l0=>(ll l0 none fun v3 l0=>(ll l0 none fun v4 l0=>(ll l0 (oo (Bi .i64 v2) none fun x1=>(oo (Bt v3) none fun l1=>(ll l1 none fun v5 l1=>(ll l1 none fun v6 l1=>(ll l1 none fun v7 l1=>(ll l1 none fun v8 l1=>(ll l1 (oo (Bi .i64 v5) none fun x2=>(oo (Bj 1 v6) none fun s3=>(oo (Bj 1 v7) none fun s4=>(bb (FC v8 2) (oo (Fj v4) none fun y0=>(bb (Au F4 (Akd.es y0)) (bb (Au F4 (Akd.es y0)) (ih0 z0 (bb (AY z1 x1) x1 z1) s0 z2 (Aj .i64 (Int.add (Int.ofNat k2) (1:Int))) x2 s3 s4 (Akd.es y0) (Akd.clock y0)) none) none)) none)))) fun _ _=>none))))))) fun _ _=>none)))))) none)))) none)) (Jv pu n z0 z1 z4 s1 s2 e0 k1)) none)
def KW (pu:Af) (n w:Nat):Int→Int→Sl→Int→Int→Int→Sl→Sl→List EO→Nat→OV:=
 Nat.rec (motive:=fun _=>Int→Int→Sl→Int→Int→Int→Sl→Sl→List EO→Nat→OV) (fun _ _ _ _ _ _ _ _ _ _=>none) (fun _ ih0=>KV pu n ih0) w
def Jc (pu:Af) (n:Nat) (z0 z1:Int) (s0 s1:Sl) (e0:List EO) (k1:Nat):OV:=
 (bb (Au F4 e0) (oo (GD (.int .u16 z0) e0 0) none fun r0=>(oo (Bi .i64 (Wd r0 (.int .i64 (0:Int)))) none fun x0=>(bb (isS r0) (some (.tuple ⟨[.int .i64 x0,(.agg ⟨[.int .i64 z1,Sl.v 1 s0,Sl.v 1 s1,(.map (some 2))]⟩),(Ef (.map e0 k1))]⟩)) (oo (pu 62 [.int .u16 z0]) none fun v0=>(oo (Bj 1 v0) none fun s2=>(KW pu n n z0 (0:Int) s2 (Int.ofNat (Sl.n s2)) (0:Int) z1 s0 s1 e0 k1)))))) none)
def JN (pu:Af) (n:Nat) (args:LV):OV:=
 (ll args none fun a0 args=>(ll args none fun a1 args=>(ll args none fun o0 args=>(ll args none fun o1 args=>(ll args (bb (MK a0 1 0) (oo (Bi .u16 a1) none fun x0=>(oo (Bt o0) none fun l0=>(ll l0 none fun v0 l0=>(ll l0 none fun v1 l0=>(ll l0 none fun v2 l0=>(ll l0 none fun v3 l0=>(ll l0 (oo (Bi .i64 v0) none fun x1=>(oo (Bj 1 v1) none fun s0=>(oo (Bj 1 v2) none fun s1=>(bb (FC v3 2) (oo (Fj o1) none fun y0=>(Jc pu n x0 x1 s0 s1 (Akd.es y0) (Akd.clock y0))) none)))) fun _ _=>none))))))) none) fun _ _=>none)))))
theorem Ww (pu:Af) (n:Nat) (z0 z1 z2:Int) (s0 s1:Sl) (e0:List EO) (k1:Nat) {v:Value} (hm:I8 pu n z0 z1 z2 s0 s1 e0 k1=some v):BN tt (Bb tabs Iq pu (inl pu)) 3 Wm (fr 52 [(0,pt 1 0),(1,.int .u16 z0),(7,zI z1)]) (hT 3 [(oC [zI z2,Sl.v 1 s0,Sl.v 1 s1,(.map (some 2))]),(.map e0 k1)]) (FJ tt 1 2 [.tmp 4] v):=by
 unfold I8 at hm
 refine .then ?_
 replace hm:=Ab hm;obtain⟨r0,h0,hm⟩:=hm
 refine .reg (eC 6 (done (oo (GD (.int .u16 z0) e0 0) none fun r=>oo r (some (Aa.set (hT 3 [(oC [zI z2,Sl.v 1 s0,Sl.v 1 s1,(.map (some 2))]),(.map e0 k1)]) 2 (.map (Br e0 [⟨.int .u16 z0,zI z1,k1⟩]) (k1+1)))) fun p=>pp p fun j _=>some (Aa.set (hT 3 [(oC [zI z2,Sl.v 1 s0,Sl.v 1 s1,(.map (some 2))]),(.map e0 k1)]) 2 (.map (SS (fun e=>⟨.int .u16 z0,zI z1,e.born⟩) j e0) k1))) undef) (Us (H2:=(hT 3 [(oC [zI z2,Sl.v 1 s0,Sl.v 1 s1,(.map (some 2))]),(.map (Gr (.int .u16 z0) (zI z1) k1 e0 r0) (Ja k1 r0))])) h0) (eE)) ?_
 replace hm:=Ae hm;obtain⟨h1,hm⟩:=hm
 refine .ghs (fr 52 [(7,zI z1)]) (hT 3 [(oC [zI z2,Sl.v 1 s0,Sl.v 1 s1,(.map (some 2))]),(.map (Gr (.int .u16 z0) (zI z1) k1 e0 r0) (Ja k1 r0))]) (.k [2] [false,true,false] [] [7] ⟨DL h1,trivial⟩) ?_
 refine .then (.rK (.ghs (fr 52 [(4,zI z1)]) (hT 3 [(oC [zI z2,Sl.v 1 s0,Sl.v 1 s1,(.map (some 2))]),(.map (Gr (.int .u16 z0) (zI z1) k1 e0 r0) (Ja k1 r0))]) (.k [2] [false,true,false] [] [4] ⟨DL h1,trivial⟩) ?_))
 refine .ghs (fr 52 [(4,zI z1)]) (hT 3 [(oC [zI z2,Sl.v 1 s0,Sl.v 1 s1,(.map (some 2))]),(.map (Gr (.int .u16 z0) (zI z1) k1 e0 r0) (Ja k1 r0))]) (.k [2] [false,true,false] [] [4] ⟨DL h1,trivial⟩) ?_
 refine .ret ?_
 exact Gi (zI z1) [(oC [zI z2,Sl.v 1 s0,Sl.v 1 s1,(.map (some 2))]),(.map (Gr (.int .u16 z0) (zI z1) k1 e0 r0) (Ja k1 r0))] (by kernel_rfl) hm (Nat.le_of_ble_eq_true rfl) (Fa (VT _) (Fa (SH _ _) EJ))
theorem Wx (pu:Af) (n:Nat) (z0 z1 z2:Int) (s0 s1:Sl) (e0:List EO) (k1:Nat) {v:Value} (hm:Jv pu n z0 z1 z2 s0 s1 e0 k1=some v):BN tt (Bb tabs Iq pu (inl pu)) 3 Wn (fr 52 [(0,pt 1 0),(1,.int .u16 z0),(7,zI z1)]) (hT 3 [(oC [zI z2,Sl.v 1 s0,Sl.v 1 s1,(.map (some 2))]),(.map e0 k1)]) (FJ tt 1 2 [.tmp 4] v):=by
 unfold Jv at hm
 refine .join (v:=v) (fun y:Int×Int×Int×Sl×Sl×List EO×Nat=>((fr 52 [(0,pt 1 0),(1,(.int .u16 y.1)),(7,(zI y.2.1))]),(hT 3 [(oC [(zI y.2.2.1),(Sl.v 1 y.2.2.2.1),(Sl.v 1 y.2.2.2.2.1),(.map (some 2))]),(.map y.2.2.2.2.2.1 y.2.2.2.2.2.2)]))) (fun y=>I8 pu n y.1 y.2.1 y.2.2.1 y.2.2.2.1 y.2.2.2.2.1 y.2.2.2.2.2.1 y.2.2.2.2.2.2) ?_ ?_
 ·rintro⟨z3,z4,z5,s2,s3,e1,k2⟩ hm
  exact Ww pu n z3 z4 z5 s2 s3 e1 k2 hm
 ·refine .then ?_
  replace hm:=gV hm;obtain⟨b0,h0,hm⟩:=hm
  refine .reg (eC 5 ((oo (pu 71 [(.agg ⟨[zI z2,Sl.v 1 s0,Sl.v 1 s1]⟩),.int .u16 z0]) none fun v=>some (v,(hT 3 [(oC [zI z2,Sl.v 1 s0,Sl.v 1 s1,(.map (some 2))]),(.map e0 k1)])))) (AB h0) (eE)) ?_
  replace hm:=Ae hm;obtain⟨h1,hm⟩:=hm
  refine .ghs (fr 52 [(0,pt 1 0),(1,.int .u16 z0),(7,zI z1),(42,zB b0)]) (hT 3 [(oC [zI z2,Sl.v 1 s0,Sl.v 1 s1,(.map (some 2))]),(.map e0 k1)]) (.k [2] [false,true,false] [] [0,1,7,42] ⟨DL h1,trivial⟩) ?_
  replace hm:=Ag hm;rcases hm with⟨h2,hm⟩ | ⟨h2,hm⟩
  ·refine .ifT b0 (by kernel_rfl) h2 ?_
   refine .rK ?_
   exact⟨(z0,(Aj .i64 (Int.add z1 (1:Int))),z2,s0,s1,e0,k1),hm,(.k [2] [false,true,false] [] [0,1,7] ⟨DL h1,trivial⟩)⟩
  ·refine .ifF b0 (by kernel_rfl) h2 ?_
   refine .skip ?_
   exact⟨(z0,z1,z2,s0,s1,e0,k1),hm,(.k [2] [false,true,false] [] [0,1,7] ⟨DL h1,trivial⟩)⟩
theorem iM (pu:Af) (n:Nat) (z0 z1:Int) (s0 s1:Sl) (e0:List EO) (k1:Nat) {v:Value} (hm:Jc pu n z0 z1 s0 s1 e0 k1=some v):BN tt (Bb tabs Iq pu (inl pu)) 3 OB (fr 52 [(0,pt 1 0),(1,.int .u16 z0)]) (hT 3 [(oC [zI z1,Sl.v 1 s0,Sl.v 1 s1,(.map (some 2))]),(.map e0 k1)]) (FJ tt 1 2 [.tmp 4] v):=by
 unfold Jc at hm
 refine .then (.rK ?_)
 replace hm:=Ae hm;obtain⟨h0,hm⟩:=hm
 refine .ghs (fr 52 [(0,pt 1 0),(1,.int .u16 z0)]) (hT 3 [(oC [zI z1,Sl.v 1 s0,Sl.v 1 s1,(.map (some 2))]),(.map e0 k1)]) (.k [2] [false,true,false] [] [0,1] ⟨DL h0,trivial⟩) ?_
 refine .then (.then ?_)
 replace hm:=Ab hm;obtain⟨r0,h1,hm⟩:=hm
 replace hm:=Ab hm;obtain⟨x0,h2,hm⟩:=hm
 refine .reg (eC 5 (keep (hT 3 [(oC [zI z1,Sl.v 1 s0,Sl.v 1 s1,(.map (some 2))]),(.map e0 k1)]) (oo (GD (.int .u16 z0) e0 0) none fun r=>oo r (okV true (zI (0:Int)) false) fun p=>pp p fun _ v=>okV true v true)) (Ur h1 (Eh h2)) (eE)) ?_
 refine .ghs (fr 52 [(0,pt 1 0),(1,.int .u16 z0),(5,zI x0),(6,(zB (isS r0)))]) (hT 3 [(oC [zI z1,Sl.v 1 s0,Sl.v 1 s1,(.map (some 2))]),(.map e0 k1)]) (.k [2] [false,true,false] [] [0,1,5,6] ⟨DL h0,trivial⟩) ?_
 refine .then (.rK (.ghs (fr 52 [(0,pt 1 0),(1,.int .u16 z0),(5,zI x0),(19,(zB (isS r0)))]) (hT 3 [(oC [zI z1,Sl.v 1 s0,Sl.v 1 s1,(.map (some 2))]),(.map e0 k1)]) (.k [2] [false,true,false] [] [0,1,5,19] ⟨DL h0,trivial⟩) ?_))
 replace hm:=Ag hm;rcases hm with⟨h3,hm⟩ | ⟨h3,hm⟩
 ·refine Hy (isS r0) h3 ?_
  refine .then (.rK (.ghs (fr 52 [(4,zI x0)]) (hT 3 [(oC [zI z1,Sl.v 1 s0,Sl.v 1 s1,(.map (some 2))]),(.map e0 k1)]) (.k [2] [false,true,false] [] [4] ⟨DL h0,trivial⟩) ?_))
  refine .ghs (fr 52 [(4,zI x0)]) (hT 3 [(oC [zI z1,Sl.v 1 s0,Sl.v 1 s1,(.map (some 2))]),(.map e0 k1)]) (.k [2] [false,true,false] [] [4] ⟨DL h0,trivial⟩) ?_
  refine .ret ?_
  exact Gi (zI x0) [(oC [zI z1,Sl.v 1 s0,Sl.v 1 s1,(.map (some 2))]),(.map e0 k1)] (by kernel_rfl) hm (Nat.le_of_ble_eq_true rfl) (Fa (VT _) (Fa (SH _ _) EJ))
 ·refine Hz (isS r0) h3 ?_
  refine .skip (.ghs (fr 52 [(0,pt 1 0),(1,.int .u16 z0)]) (hT 3 [(oC [zI z1,Sl.v 1 s0,Sl.v 1 s1,(.map (some 2))]),(.map e0 k1)]) (.k [2] [false,true,false] [] [0,1] ⟨DL h0,trivial⟩) ?_)
  refine .then (.rK (.ghs (fr 52 [(0,pt 1 0),(1,.int .u16 z0),(7,(zI (0:Int)))]) (hT 3 [(oC [zI z1,Sl.v 1 s0,Sl.v 1 s1,(.map (some 2))]),(.map e0 k1)]) (.k [2] [false,true,false] [] [0,1,7] ⟨DL h0,trivial⟩) ?_))
  refine .join (v:=v) (fun y:Int×Int×Int×Sl×Sl×List EO×Nat=>((fr 52 [(0,pt 1 0),(1,(.int .u16 y.1)),(7,(zI y.2.1))]),(hT 3 [(oC [(zI y.2.2.1),(Sl.v 1 y.2.2.2.1),(Sl.v 1 y.2.2.2.2.1),(.map (some 2))]),(.map y.2.2.2.2.2.1 y.2.2.2.2.2.2)]))) (fun y=>Jv pu n y.1 y.2.1 y.2.2.1 y.2.2.2.1 y.2.2.2.2.1 y.2.2.2.2.2.1 y.2.2.2.2.2.2) ?_ ?_
  ·rintro⟨z2,z3,z4,s2,s3,e1,k2⟩ hm
   exact Wx pu n z2 z3 z4 s2 s3 e1 k2 hm
  ·refine .then ?_
   replace hm:=yN hm;obtain⟨s4,h4,hm⟩:=hm
   refine .reg (eC 1 ((oo (pu 62 [.int .u16 z0]) none fun v=>some (v,(hT 3 [(oC [zI z1,Sl.v 1 s0,Sl.v 1 s1,(.map (some 2))]),(.map e0 k1)])))) (AB h4) (eE)) ?_
   refine .ghs (fr 52 [(0,pt 1 0),(1,.int .u16 z0),(7,(zI (0:Int))),(22,Sl.v 1 s4),(23,(zI (Int.ofNat (Sl.n s4)))),(24,(zI (0:Int)))]) (hT 3 [(oC [zI z1,Sl.v 1 s0,Sl.v 1 s1,(.map (some 2))]),(.map e0 k1)]) (.k [2] [false,true,false] [] [0,1,7,22,23,24] ⟨DL h0,trivial⟩) ?_
   refine .block (.loopM (v:=v) (fun y:Int×Int×Sl×Int×Int×Int×Sl×Sl×List EO×Nat=>((fr 52 [(0,pt 1 0),(1,(.int .u16 y.1)),(7,(zI y.2.1)),(22,(Sl.v 1 y.2.2.1)),(23,(zI y.2.2.2.1)),(24,(zI y.2.2.2.2.1))]),(hT 3 [(oC [(zI y.2.2.2.2.2.1),(Sl.v 1 y.2.2.2.2.2.2.1),(Sl.v 1 y.2.2.2.2.2.2.2.1),(.map (some 2))]),(.map y.2.2.2.2.2.2.2.2.1 y.2.2.2.2.2.2.2.2.2)]))) (fun w y=>KW pu n w y.1 y.2.1 y.2.2.1 y.2.2.2.1 y.2.2.2.2.1 y.2.2.2.2.2.1 y.2.2.2.2.2.2.1 y.2.2.2.2.2.2.2.1 y.2.2.2.2.2.2.2.2.1 y.2.2.2.2.2.2.2.2.2) n ⟨(z0,(0:Int),s4,(Int.ofNat (Sl.n s4)),(0:Int),z1,s0,s1,e0,k1),hm,(.k [2] [false,true,false] [] [0,1,7,22,23,24] ⟨DL h0,trivial⟩)⟩ (fun _=>rfl) ?_)
   rintro w0 ⟨z5,z6,s5,z7,z8,z9,s6,s7,e2,k3⟩ hm
   replace hm:KV pu n (KW pu n w0) z5 z6 s5 z7 z8 z9 s6 s7 e2 k3=some v:=hm
   unfold KV at hm
   refine .then (.rK ?_)
   replace hm:=Ae hm;obtain⟨h5,hm⟩:=hm
   refine .ghs (fr 52 [(0,pt 1 0),(1,.int .u16 z5),(7,zI z6),(22,Sl.v 1 s5),(23,zI z7),(24,zI z8),(25,(zB (AY z8 z7)))]) (hT 3 [(oC [zI z9,Sl.v 1 s6,Sl.v 1 s7,(.map (some 2))]),(.map e2 k3)]) (.k [2] [false,true,false] [] [0,1,7,22,23,24,25] ⟨DL h5,trivial⟩) ?_
   refine .then ?_
   replace hm:=Ag hm;rcases hm with⟨h6,hm⟩ | ⟨h6,hm⟩
   ·refine Hy (AY z8 z7) h6 ?_
    refine .skip (.ghs (fr 52 [(0,pt 1 0),(1,.int .u16 z5),(7,zI z6),(22,Sl.v 1 s5),(23,zI z7),(24,zI z8)]) (hT 3 [(oC [zI z9,Sl.v 1 s6,Sl.v 1 s7,(.map (some 2))]),(.map e2 k3)]) (.k [2] [false,true,false] [] [0,1,7,22,23,24] ⟨DL h5,trivial⟩) ?_)
    refine .then (.block (.then ?_))
    replace hm:=Ab hm;obtain⟨k4,h7,hm⟩:=hm
    obtain rfl:=AR h7
    replace hm:=Ae hm;obtain⟨h8,hm⟩:=hm
    replace hm:=Ke hm;obtain⟨x1,h9,hm⟩:=hm
    refine .reg (eD (keep (hT 3 [(oC [zI z9,Sl.v 1 s6,Sl.v 1 s7,(.map (some 2))]),(.map e2 k3)]) (bb (an (Nat.blt k4 (Sl.n s5)) true) (some (Cv (k4*1) (Sl.cs s5))) none)) (AX h8) (eD (keep (hT 3 [(oC [zI z9,Sl.v 1 s6,Sl.v 1 s7,(.map (some 2))]),(.map e2 k3)]) (AL (Sl.cs s5) (k4*1))) (AZ h9) (eE))) ?_
    refine .ghs (fr 52 [(0,pt 1 0),(1,.int .u16 z5),(7,zI z6),(9,zI x1),(22,Sl.v 1 s5),(23,zI z7),(24,(zI (Int.ofNat k4)))]) (hT 3 [(oC [zI z9,Sl.v 1 s6,Sl.v 1 s7,(.map (some 2))]),(.map e2 k3)]) (.k [2] [false,true,false] [] [0,1,7,9,22,23,24] ⟨DL h5,trivial⟩) ?_
    replace hm:=Ab hm;obtain⟨k5,h10,hm⟩:=hm
    obtain rfl:=AR h10
    replace hm:=Ae hm;obtain⟨h11,hm⟩:=hm
    replace hm:=Ab hm;obtain⟨v0,h12,hm⟩:=hm
    replace hm:=Ch hm;obtain⟨l0,rfl,hm⟩:=hm
    replace hm:=Ad hm;obtain⟨v1,l17002_0,rfl,hm⟩:=hm
    replace hm:=Ad hm;obtain⟨v2,l17002_1,rfl,hm⟩:=hm
    replace hm:=Ad hm;obtain⟨v3,l17002_2,rfl,hm⟩:=hm
    replace hm:=AC hm;obtain⟨rfl,hm⟩:=hm
    replace hm:=Ai hm;obtain⟨x2,rfl,hm⟩:=hm
    replace hm:=BG hm;obtain⟨l1,rfl,hm⟩:=hm
    replace hm:=Ad hm;obtain⟨v4,l17009_0,rfl,hm⟩:=hm
    replace hm:=Ad hm;obtain⟨v5,l17009_1,rfl,hm⟩:=hm
    replace hm:=Ad hm;obtain⟨v6,l17009_2,rfl,hm⟩:=hm
    replace hm:=Ad hm;obtain⟨v7,l17009_3,rfl,hm⟩:=hm
    replace hm:=AC hm;obtain⟨rfl,hm⟩:=hm
    replace hm:=Ai hm;obtain⟨x3,rfl,hm⟩:=hm
    replace hm:=Al hm;obtain⟨s8,rfl,hm⟩:=hm
    replace hm:=Al hm;obtain⟨s9,rfl,hm⟩:=hm
    replace hm:=Ae hm;obtain⟨h13,hm⟩:=hm
    obtain rfl:=Ey h13
    replace hm:=Ab hm;obtain⟨y0,h14,hm⟩:=hm
    replace hm:=Ae hm;obtain⟨h15,hm⟩:=hm
    refine .reg (eC 6 (EK tabs [[none],[none]] 2 [.tmp 0 true,.cell 1 3 false] [true,false] (pu 10660) [pt 1 0,(.int .u16 (QV .u16 z5 (QW .u16 (1:Int) k5)))] (hT 3 [(oC [zI z9,Sl.v 1 s6,Sl.v 1 s7,(.map (some 2))]),(.map e2 k3)])) (EL (as:=[pt 1 0,(.int .u16 (QV .u16 z5 (QW .u16 (1:Int) k5)))]) (H1:=(hT 3 [(oC [zI z9,Sl.v 1 s6,Sl.v 1 s7,(.map (some 2))]),(.map e2 k3)])) (BS (Dm Dk) (BS (Dm Dk) Gj)) (EI (H2:=(hT 3 [(oC [zI x3,Sl.v 1 s8,Sl.v 1 s9,(.map (some 2))]),(.map (Akd.es y0) (Akd.clock y0))])) (v:=(zI x2)) (v':=(zI x2)) [some 0,some 1,some 2] [(true,some 1),(false,some 2)] [(oC [zI z9,Sl.v 1 s6,Sl.v 1 s7,(.map (some 2))]),(.map e2 k3)] [pt 1 0,(.int .u16 (QV .u16 z5 (QW .u16 (1:Int) k5)))] [(.agg ⟨[zI x3,Sl.v 1 s8,Sl.v 1 s9,(.map (some 2))]⟩),v3] [(oC [zI x3,Sl.v 1 s8,Sl.v 1 s9,(.map (some 2))]),(.map (Akd.es y0) (Akd.clock y0))] [some 0,some 1,some 2] [(true,(oC [zI x3,Sl.v 1 s8,Sl.v 1 s9,(.map (some 2))])),(false,(.map (Akd.es y0) (Akd.clock y0)))] [(oC [zI x3,Sl.v 1 s8,Sl.v 1 s9,(.map (some 2))]),(.map (Akd.es y0) (Akd.clock y0))] (by kernel_rfl) (En (by kernel_rfl) (En (Ka h11) BX)) (Eq.trans (by kernel_rfl) h12) (En rfl (En (CK h14) BX)) (En (by kernel_rfl) (En (GZ h15) BX)))) (eE)) ?_
    replace hm:=Ae hm;obtain⟨h16,hm⟩:=hm
    refine .ghs (fr 52 [(0,pt 1 0),(1,.int .u16 z5),(7,(zI (bb (AY z6 x2) x2 z6))),(22,Sl.v 1 s5),(23,zI z7),(24,(zI (Int.ofNat k4)))]) (hT 3 [(oC [zI x3,Sl.v 1 s8,Sl.v 1 s9,(.map (some 2))]),(.map (Akd.es y0) (Akd.clock y0))]) (.k [2] [false,true,false] [] [0,1,7,22,23,24] ⟨DL h16,trivial⟩) ?_
    refine .rK ?_
    exact⟨(z5,(bb (AY z6 x2) x2 z6),s5,z7,(Aj .i64 (Int.add (Int.ofNat k4) (1:Int))),x3,s8,s9,(Akd.es y0),(Akd.clock y0)),hm,(.k [2] [false,true,false] [] [0,1,7,22,23,24] ⟨DL h16,trivial⟩)⟩
   ·refine Hz (AY z8 z7) h6 ?_
    refine .exit ?_
    exact⟨(z5,z6,z9,s6,s7,e2,k3),hm,(.k [2] [false,true,false] [] [0,1,7] ⟨DL h5,trivial⟩)⟩
theorem iN {call:A8} (pu:Af) (n:Nat) (hcall:call=Bb tabs Iq pu (inl pu)) {args:LV} {os:List AJ} {z:Value} (ha:args.length=2) (hk:os.length=2) (hpl:∀ o∈os,plainO o) (hm:JN pu n (args++os.map Ef)=some z):args.length≤52∧BN tt call (tabs.length+2) OB (Fr.made 52 args) (BK tabs os) (FJ tt tabs.length 2 [.tmp 4] z):=by
 subst hcall
 have hq:=BC ha;clear ha;obtain⟨a0,args,rfl,ha⟩:=hq
 have hq:=BC ha;clear ha;obtain⟨a1,args,rfl,ha⟩:=hq
 obtain rfl:=len_nil ha
 have hq:=BC hk;clear hk;obtain⟨b0,os,rfl,hk⟩:=hq
 have hp0:plainO b0:=hpl b0 (by simp)
 have hq:=BC hk;clear hk;obtain⟨b1,os,rfl,hk⟩:=hq
 have hp1:plainO b1:=hpl b1 (by simp)
 obtain rfl:=len_nil hk
 replace hm:JN pu n [a0,a1,Ef b0,Ef b1]=some z:=hm
 unfold JN at hm
 replace hm:(bb (MK a0 1 0) (oo (Bi .u16 a1) none fun x0=>(oo (Bt (Ef b0)) none fun l0=>(ll l0 none fun v0 l0=>(ll l0 none fun v1 l0=>(ll l0 none fun v2 l0=>(ll l0 none fun v3 l0=>(ll l0 (oo (Bi .i64 v0) none fun x1=>(oo (Bj 1 v1) none fun s0=>(oo (Bj 1 v2) none fun s1=>(bb (FC v3 2) (oo (Fj (Ef b1)) none fun y0=>(Jc pu n x0 x1 s0 s1 (Akd.es y0) (Akd.clock y0))) none)))) fun _ _=>none))))))) none)=some z:=hm
 replace hm:=Ae hm;obtain⟨h0,hm⟩:=hm
 obtain rfl:=KR h0
 replace hm:=Ai hm;obtain⟨x0,rfl,hm⟩:=hm
 replace hm:=Ab hm;obtain⟨l0,h1,hm⟩:=hm
 obtain rfl:=I7 hp0 h1
 replace hm:=Ad hm;obtain⟨v0,l17029_0,rfl,hm⟩:=hm
 replace hm:=Ad hm;obtain⟨v1,l17029_1,rfl,hm⟩:=hm
 replace hm:=Ad hm;obtain⟨v2,l17029_2,rfl,hm⟩:=hm
 replace hm:=Ad hm;obtain⟨v3,l17029_3,rfl,hm⟩:=hm
 replace hm:=AC hm;obtain⟨rfl,hm⟩:=hm
 replace hm:=Ai hm;obtain⟨x1,rfl,hm⟩:=hm
 replace hm:=Al hm;obtain⟨s0,rfl,hm⟩:=hm
 replace hm:=Al hm;obtain⟨s1,rfl,hm⟩:=hm
 replace hm:=Ae hm;obtain⟨h2,hm⟩:=hm
 obtain rfl:=Ey h2
 replace hm:=Ab hm;obtain⟨y0,h3,hm⟩:=hm
 obtain rfl:=MS hp1 h3
 refine⟨by simp,?_⟩
 exact .same (F':=(fr 52 [(0,pt 1 0),(1,.int .u16 x0)])) (H':=(hT 3 [(oC [zI x1,Sl.v 1 s0,Sl.v 1 s1,(.map (some 2))]),(.map (Akd.es y0) (Akd.clock y0))])) (by kernel_rfl) (by kernel_rfl) (iM pu n x0 x1 s0 s1 (Akd.es y0) (Akd.clock y0) hm)
end
end Go.MnWM
set_option maxRecDepth 100000
namespace Go.MnWM
open Go.Sp Go.MnW
noncomputable section
def L:Nat:=1000000
def Sz (pu:Af):Af:=fun g args=>
 bb (Nat.beq g 6) (m6 pu L args) (bb (Nat.beq g 23) (sN pu L args) (bb (Nat.beq g 24) (lX pu L args) (bb (Nat.beq g 27) (xD pu L args) (bb (Nat.beq g 44) (xE pu L args) (bb (Nat.beq g 47) (xG pu L args) (bb (Nat.beq g 51) (xH pu L args) (bb (Nat.beq g 52) (xI pu L args) (bb (Nat.beq g 53) (xJ pu L args) (bb (Nat.beq g 62) (xK pu L args) (bb (Nat.beq g 64) (m64 pu L args) (bb (Nat.beq g 67) (xL pu L args) (bb (Nat.beq g 71) (xM pu L args) (bb (Nat.beq g 10280) (K7 pu L args) (bb (Nat.beq g 10220) (OH pu L args) (bb (Nat.beq g 10290) (OJ pu L args) (bb (Nat.beq g 10650) (OL pu L args) (bb (Nat.beq g 10660) (JN pu L args) (bb (Nat.beq g 12) (ll args (some (.bool true)) fun _ _=>none) (none)))))))))))))))))))
def Eb:Nat→Af:=fun n=>Nat.rec (motive:=fun _=>Af) (fun _ _=>none) (fun _ ih=>Sz ih) n
end
end Go.MnWM
