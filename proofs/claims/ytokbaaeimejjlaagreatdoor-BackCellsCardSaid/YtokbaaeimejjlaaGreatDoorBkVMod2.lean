/- Made from wip. -/
import Derived.Test.YtokbaaeimejjlaaGreatDoorBkVMod1x

set_option maxRecDepth 100000
set_option maxHeartbeats 20000000
set_option linter.unusedVariables false
namespace Go.BkVM
open Go.Sp Go.BkV
noncomputable section
def X7 (pu:Af) (n:Nat):OV:=
 (some (.int .i64 (0:Int)))
def VW (pu:Af) (n:Nat) (ih0:Sl→Nat→LV→Int→Int→Int→OV) (s0:Sl) (n0:Nat) (q0:LV) (z0 z1 z2:Int) (b0:Bool):OV:=
 (bb b0 (some (.int .i64 (14:Int))) (ih0 s0 n0 q0 z0 z1 (Aj .i64 (Int.add z2 (1:Int)))))
def PK (pu:Af) (n:Nat) (ih0:Sl→Nat→LV→Int→Int→Int→OV) (s0:Sl) (n0:Nat) (q0:LV) (z0 z1 z2:Int):OV:=
 (bb (AY z2 z1) (oo (pu 51 [(Cv n0 q0),Sl.v 1 s0,.int .i64 z2]) none fun v0=>(oo (Bi .u16 v0) none fun x0=>(bb (nt (Bd x0 (0:Int))) (VW pu n ih0 s0 n0 q0 z0 z1 z2 (Bd (Np .u16 x0 z0) (0:Int))) (VW pu n ih0 s0 n0 q0 z0 z1 z2 false)))) (X7 pu n))
def PL (pu:Af) (n w:Nat):Sl→Nat→LV→Int→Int→Int→OV:=
 Nat.rec (motive:=fun _=>Sl→Nat→LV→Int→Int→Int→OV) (fun _ _ _ _ _ _=>none) (fun _ ih0=>PK pu n ih0) w
def R7 (pu:Af) (n:Nat) (s0:Sl) (n0:Nat) (q0:LV) (z0:Int):OV:=
 (oo (AL q0 ((n0+0)+3)) none fun v0=>(oo (Bj 1 v0) none fun s1=>(PL pu n n s0 n0 q0 z0 (Int.ofNat (Sl.n s1)) (0:Int))))
def PM (pu:Af) (n:Nat) (ih0:Sl→Nat→LV→Int→Int→Sl→Int→Int→OV) (s0:Sl) (n0:Nat) (q0:LV) (z0 z1:Int) (s1:Sl) (z2 z3:Int):OV:=
 (bb (AY z3 z2) (oo (EA z3) none fun k1=>(bb (an (Nat.blt k1 (Sl.n s1)) true) (oo (AL (Sl.cs s1) (k1*1)) none fun v0=>(oo (Bi .i64 v0) none fun x0=>(oo (pu 59 [(.int .i64 (0:Int)),.int .i64 x0,(.int .i64 (Aj .i64 (Int.sub (Int.ofNat (Sl.n s0)) (1:Int))))]) none fun v1=>(oo (Bf v1) none fun b0=>(bb (nt b0) (some (.int .i64 (2:Int))) (bb (nt (AY z0 x0)) (some (.int .i64 (7:Int))) (oo (EA x0) none fun k2=>(ih0 s0 n0 q0 (Int.ofNat k2) (jF .u16 z1 (QW .u16 (1:Int) k2)) s1 z2 (Aj .i64 (Int.add (Int.ofNat k1) (1:Int))))))))))) none)) (R7 pu n s0 n0 q0 z1))
def PN (pu:Af) (n w:Nat):Sl→Nat→LV→Int→Int→Sl→Int→Int→OV:=
 Nat.rec (motive:=fun _=>Sl→Nat→LV→Int→Int→Sl→Int→Int→OV) (fun _ _ _ _ _ _ _ _=>none) (fun _ ih0=>PM pu n ih0) w
def X9 (pu:Af) (n:Nat) (s0:Sl) (z0:Int):OV:=
 none
def fF (pu:Af) (n:Nat) (ih0:Sl→Int→Int→Sl→Int→Int→OV) (s0:Sl) (z0 z1:Int) (s1:Sl) (z2 z3:Int):OV:=
 (bb (AY z3 z2) (oo (EA z3) none fun k1=>(bb (an (Nat.blt k1 (Sl.n s1)) true) (oo (AL (Sl.cs s1) (k1*1)) none fun v0=>(oo (Bi .i64 v0) none fun x0=>(oo (pu 59 [(.int .i64 (0:Int)),.int .i64 x0,(.int .i64 (Aj .i64 (Int.sub (Int.ofNat (Sl.n s0)) (1:Int))))]) none fun v1=>(oo (Bf v1) none fun b0=>(bb (nt b0) (some (.int .i64 (2:Int))) (bb (nt (AY z0 x0)) (some (.int .i64 (7:Int))) (oo (EA x0) none fun k2=>(ih0 s0 (Int.ofNat k2) (jF .u16 z1 (QW .u16 (1:Int) k2)) s1 z2 (Aj .i64 (Int.add (Int.ofNat k1) (1:Int))))))))))) none)) (X9 pu n s0 z1))
def fG (pu:Af) (n w:Nat):Sl→Int→Int→Sl→Int→Int→OV:=
 Nat.rec (motive:=fun _=>Sl→Int→Int→Sl→Int→Int→OV) (fun _ _ _ _ _ _=>none) (fun _ ih0=>fF pu n ih0) w
def ZO (pu:Af) (n:Nat) (x0 x1 x2:Int) (s0 s1 s2:Sl):OV:=
 (oo (pu 43 [(.agg ⟨[.int .i64 x0,.int .i64 x1,.int .i64 x2,Sl.v 1 s0]⟩),(Sl.v 1 (Sl.mk 1 0 (Aq (1*1) (Am 0 ([Sl.v 1 s1]:LV)))))]) none fun v0=>(oo (CQ v0) none fun l0=>(ll l0 none fun v1 l0=>(ll l0 none fun v2 l0=>(ll l0 (bb (isS (Pv v1)) (oo (Pv v1) none fun p0=>(oo (Bi .i64 v2) none fun x3=>(bb (nt (Bd x3 (0:Int))) (some (.int .i64 x3)) (PN pu n n s1 (Db.off p0) (Db.cs p0) (-1:Int) (0:Int) s2 (Int.ofNat (Sl.n s2)) (0:Int))))) (bb (WQ v1) (oo (Bi .i64 v2) none fun x4=>(bb (nt (Bd x4 (0:Int))) (some (.int .i64 x4)) (fG pu n n s1 (-1:Int) (0:Int) s2 (Int.ofNat (Sl.n s2)) (0:Int)))) none)) fun _ _=>none)))))
def m31 (pu:Af) (n:Nat) (args:LV):OV:=
 (ll args none fun a0 args=>(ll args none fun a1 args=>(ll args none fun a2 args=>(ll args (oo (Bt a0) none fun l0=>(ll l0 none fun v0 l0=>(ll l0 none fun v1 l0=>(ll l0 none fun v2 l0=>(ll l0 none fun v3 l0=>(ll l0 (oo (Bi .i64 v0) none fun x0=>(oo (Bi .i64 v1) none fun x1=>(oo (Bi .i64 v2) none fun x2=>(oo (Bj 1 v3) none fun s0=>(oo (Bj 1 a1) none fun s1=>(oo (Bj 1 a2) none fun s2=>(ZO pu n x0 x1 x2 s0 s1 s2))))))) fun _ _=>none)))))) fun _ _=>none))))
theorem Af1 (pu:Af) (n:Nat) {v:Value} (hm:X7 pu n=some v):BN tt (Bb tabs isP pu (inl pu)) 1 dC (fr 70 []) AO (Fin tt 1 [.tmp 6] v):=by
 unfold X7 at hm
 refine .then (.rK (.ghs (fr 70 [(6,(zI (0:Int)))]) AO (.k0 [false] [] [6]) ?_))
 refine .ret ?_
 exact A7 (zI (0:Int)) hm
theorem Af2 (pu:Af) (n:Nat) (s0:Sl) (n0:Nat) (q0:LV) (z0:Int) {v:Value} (hm:R7 pu n s0 n0 q0 z0=some v):BN tt (Bb tabs isP pu (inl pu)) 1 WU (fr 70 [(1,Sl.v 1 s0),(7,(Cv n0 q0)),(10,.int .u16 z0)]) AO (Fin tt 1 [.tmp 6] v):=by
 unfold R7 at hm
 refine .join (v:=v) (fun y:Unit=>((fr 70 []),AO)) (fun y=>X7 pu n) ?_ ?_
 ·rintro _ hm
  exact Af1 pu n hm
 ·refine .then ?_
  replace hm:=fE hm;obtain⟨s1,h0,hm⟩:=hm
  refine .reg (eC 4 (keep AO (AL q0 ((n0+0)+3))) (AZ h0) (eE)) ?_
  refine .ghs (fr 70 [(1,Sl.v 1 s0),(7,(Cv n0 q0)),(10,.int .u16 z0),(53,(zI (Int.ofNat (Sl.n s1)))),(54,(zI (0:Int)))]) AO (.k0 [false] [] [1,7,10,53,54]) ?_
  refine .block (.loopM (v:=v) (fun y:Sl×Nat×LV×Int×Int×Int=>((fr 70 [(1,(Sl.v 1 y.1)),(7,(Cv y.2.1 y.2.2.1)),(10,(.int .u16 y.2.2.2.1)),(53,(zI y.2.2.2.2.1)),(54,(zI y.2.2.2.2.2))]),AO)) (fun w y=>PL pu n w y.1 y.2.1 y.2.2.1 y.2.2.2.1 y.2.2.2.2.1 y.2.2.2.2.2) n ⟨(s0,n0,q0,z0,(Int.ofNat (Sl.n s1)),(0:Int)),hm,(.k0 [false] [] [1,7,10,53,54])⟩ (fun _=>rfl) ?_)
  rintro w0 ⟨s2,n1,q1,z1,z2,z3⟩ hm
  replace hm:PK pu n (PL pu n w0) s2 n1 q1 z1 z2 z3=some v:=hm
  unfold PK at hm
  refine .then (.rK (.ghs (fr 70 [(1,Sl.v 1 s2),(7,(Cv n1 q1)),(10,.int .u16 z1),(53,zI z2),(54,zI z3),(55,(zB (AY z3 z2)))]) AO (.k0 [false] [] [1,7,10,53,54,55]) ?_))
  refine .then ?_
  replace hm:=Ag hm;rcases hm with⟨h1,hm⟩ | ⟨h1,hm⟩
  ·refine Bq (AY z3 z2) h1 ?_
   refine .skip (.ghs (fr 70 [(1,Sl.v 1 s2),(7,(Cv n1 q1)),(10,.int .u16 z1),(53,zI z2),(54,zI z3)]) AO (.k0 [false] [] [1,7,10,53,54]) ?_)
   refine .then (.block (.then (.rK (.ghs (fr 70 [(1,Sl.v 1 s2),(7,(Cv n1 q1)),(10,.int .u16 z1),(13,zI z3),(53,zI z2),(54,zI z3)]) AO (.k0 [false] [] [1,7,10,13,53,54]) ?_))))
   refine .then ?_
   replace hm:=Gt hm;obtain⟨x0,h2,hm⟩:=hm
   refine .reg (eC 3 ((oo (pu 51 [(Cv n1 q1),Sl.v 1 s2,zI z3]) none fun v=>some (v,AO))) (AB h2) (eE)) ?_
   refine .ghs (fr 70 [(1,Sl.v 1 s2),(7,(Cv n1 q1)),(10,.int .u16 z1),(14,.int .u16 x0),(53,zI z2),(54,zI z3)]) AO (.k0 [false] [] [1,7,10,14,53,54]) ?_
   refine .join (v:=v) (fun y:Sl×Nat×LV×Int×Int×Int×Bool=>((fr 70 [(1,(Sl.v 1 y.1)),(7,(Cv y.2.1 y.2.2.1)),(10,(.int .u16 y.2.2.2.1)),(53,(zI y.2.2.2.2.1)),(54,(zI y.2.2.2.2.2.1)),(68,(zB y.2.2.2.2.2.2))]),AO)) (fun y=>VW pu n (PL pu n w0) y.1 y.2.1 y.2.2.1 y.2.2.2.1 y.2.2.2.2.1 y.2.2.2.2.2.1 y.2.2.2.2.2.2) ?_ ?_
   ·rintro⟨s3,n2,q2,z4,z5,z6,b0⟩ hm
    unfold VW at hm
    replace hm:=Ag hm;rcases hm with⟨h3,hm⟩ | ⟨h3,hm⟩
    ·refine .ifT b0 (by kernel_rfl) h3 ?_
     refine .then (.rK (.ghs (fr 70 [(6,(zI (14:Int)))]) AO (.k0 [false] [] [6]) ?_))
     refine .ret ?_
     exact A7 (zI (14:Int)) hm
    ·refine .ifF b0 (by kernel_rfl) h3 ?_
     refine .skip (.ghs (fr 70 [(1,Sl.v 1 s3),(7,(Cv n2 q2)),(10,.int .u16 z4),(53,zI z5),(54,zI z6)]) AO (.k0 [false] [] [1,7,10,53,54]) ?_)
     refine .rK ?_
     exact⟨(s3,n2,q2,z4,z5,(Aj .i64 (Int.add z6 (1:Int)))),hm,(.k0 [false] [] [1,7,10,53,54])⟩
   ·replace hm:=Ag hm;rcases hm with⟨h4,hm⟩ | ⟨h4,hm⟩
    ·refine .reg (eC 1 (some ((zB (nt (Bd x0 (0:Int)))),AO)) (show _=some ((zB true),_) from (by rw[show (nt (Bd x0 (0:Int)))=true from h4])) (eE)) ?_
     exact⟨(s2,n1,q1,z1,z2,z3,(Bd (Np .u16 x0 z1) (0:Int))),hm,(.k0 [false] [] [1,7,10,53,54,68])⟩
    ·refine .reg (eC 1 (some ((zB (nt (Bd x0 (0:Int)))),AO)) (show _=some ((zB false),_) from (by rw[show (nt (Bd x0 (0:Int)))=false from h4])) (eE)) ?_
     exact⟨(s2,n1,q1,z1,z2,z3,false),hm,(.k0 [false] [] [1,7,10,53,54,68])⟩
  ·refine BB (AY z3 z2) h1 ?_
   refine .exit ?_
   exact⟨(),hm,(.k0 [false] [] [])⟩
theorem Af3 (pu:Af) (n:Nat) (s0:Sl) (z0:Int) {v:Value} (hm:X9 pu n s0 z0=some v):BN tt (Bb tabs isP pu (inl pu)) 1 WU (fr 70 [(1,Sl.v 1 s0),(7,(.pointer none)),(10,.int .u16 z0)]) AO (Fin tt 1 [.tmp 6] v):=by
 unfold X9 at hm
 refine .then (.then ?_)
 cases hm
theorem r31 {call:A8} (pu:Af) (n:Nat) (hcall:call=Bb tabs isP pu (inl pu)) {args:LV} {v:Value} (hm:m31 pu n args=some v) (_:∀ x∈args,closed2 x=true):args.length≤70∧BN tt call 1 Ub (Fr.made 70 args) (Ao tabs) (Fin tt 1 [.tmp 6] v):=by
 subst hcall
 unfold m31 at hm
 replace hm:=Ad hm;obtain⟨a0,args_0,rfl,hm⟩:=hm
 replace hm:=Ad hm;obtain⟨a1,args_1,rfl,hm⟩:=hm
 replace hm:=Ad hm;obtain⟨a2,args_2,rfl,hm⟩:=hm
 replace hm:=AC hm;obtain⟨rfl,hm⟩:=hm
 replace hm:=BG hm;obtain⟨l0,rfl,hm⟩:=hm
 replace hm:=Ad hm;obtain⟨v0,l1892_0,rfl,hm⟩:=hm
 replace hm:=Ad hm;obtain⟨v1,l1892_1,rfl,hm⟩:=hm
 replace hm:=Ad hm;obtain⟨v2,l1892_2,rfl,hm⟩:=hm
 replace hm:=Ad hm;obtain⟨v3,l1892_3,rfl,hm⟩:=hm
 replace hm:=AC hm;obtain⟨rfl,hm⟩:=hm
 replace hm:=Ai hm;obtain⟨x0,rfl,hm⟩:=hm
 replace hm:=Ai hm;obtain⟨x1,rfl,hm⟩:=hm
 replace hm:=Ai hm;obtain⟨x2,rfl,hm⟩:=hm
 replace hm:=Al hm;obtain⟨s0,rfl,hm⟩:=hm
 replace hm:=Al hm;obtain⟨s1,rfl,hm⟩:=hm
 replace hm:=Al hm;obtain⟨s2,rfl,hm⟩:=hm
 unfold ZO at hm
 refine⟨by simp,?_⟩
 refine .same (F':=(fr 70 [(0,(.agg ⟨[zI x0,zI x1,zI x2,Sl.v 1 s0]⟩)),(1,Sl.v 1 s1),(2,Sl.v 1 s2)])) (H':=AO) (by kernel_rfl) (by kernel_rfl) ?_
 refine .then (.rK (.ghs (fr 70 [(1,Sl.v 1 s1),(2,Sl.v 1 s2),(3,pt 1 0)]) (hT 2 [(oC [zI x0,zI x1,zI x2,Sl.v 1 s0])]) (.k0 [false] [.tmp 3 false] [1,2,3]) ?_))
 refine .then ?_
 replace hm:=Ab hm;obtain⟨v4,h0,hm⟩:=hm
 replace hm:=Ch hm;obtain⟨l1,rfl,hm⟩:=hm
 replace hm:=Ad hm;obtain⟨v5,l1923_0,rfl,hm⟩:=hm
 replace hm:=Ad hm;obtain⟨v6,l1923_1,rfl,hm⟩:=hm
 replace hm:=AC hm;obtain⟨rfl,hm⟩:=hm
 replace hm:=Ag hm;rcases hm with⟨h1,hm⟩ | ⟨h1,hm⟩
 ·replace hm:=Ab hm;obtain⟨p0,h2,hm⟩:=hm
  obtain rfl:=F7 h2
  replace hm:=Ai hm;obtain⟨x3,rfl,hm⟩:=hm
  refine .reg (eC 3 (Hr tabs 1 (pu 43) [(.agg ⟨[zI x0,zI x1,zI x2,Sl.v 1 s0]⟩),sc 2 0 1 1 3] (hT 3 [(oC [zI x0,zI x1,zI x2,Sl.v 1 s0]),(oC [Sl.v 1 s1])])) (KI (DZ (CV (z:=1) (v:=(.agg ⟨[zI x0,zI x1,zI x2,Sl.v 1 s0]⟩)) (H:=(hT 3 [(oC [zI x0,zI x1,zI x2,Sl.v 1 s0]),(oC [Sl.v 1 s1])])) (by kernel_rfl) (by kernel_rfl) (by kernel_rfl)) (DZ (show ER 1 (sc 2 0 1 1 3) (hT 3 [(oC [zI x0,zI x1,zI x2,Sl.v 1 s0]),(oC [Sl.v 1 s1])])=some ((Sl.v 1 (Sl.mk 1 0 (Aq (1*1) (Am 0 ([Sl.v 1 s1]:LV))))),(hT 3 [(oC [zI x0,zI x1,zI x2,Sl.v 1 s0]),.dead])) from KH 2 0 1 1 3 ([Sl.v 1 s1]:LV) [] (by kernel_rfl) (by kernel_rfl) (by kernel_rfl)) Jt)) (by kernel_rfl) h0) (eE)) ?_
  refine .ghs (fr 70 [(1,Sl.v 1 s1),(2,Sl.v 1 s2),(7,(Cv (Db.off p0) (Db.cs p0))),(8,zI x3)]) AO (.k0 [false] [] [1,2,7,8]) ?_
  refine .then (.then (.rK (.ghs (fr 70 [(1,Sl.v 1 s1),(2,Sl.v 1 s2),(7,(Cv (Db.off p0) (Db.cs p0))),(8,zI x3),(23,(zB (nt (Bd x3 (0:Int)))))]) AO (.k0 [false] [] [1,2,7,8,23]) ?_)))
  replace hm:=Ag hm;rcases hm with⟨h3,hm⟩ | ⟨h3,hm⟩
  ·refine Bq (nt (Bd x3 (0:Int))) h3 ?_
   refine .then (.rK (.ghs (fr 70 [(6,zI x3)]) AO (.k0 [false] [] [6]) ?_))
   refine .ret ?_
   exact A7 (zI x3) hm
  ·refine BB (nt (Bd x3 (0:Int))) h3 ?_
   refine .skip (.ghs (fr 70 [(1,Sl.v 1 s1),(2,Sl.v 1 s2),(7,(Cv (Db.off p0) (Db.cs p0)))]) AO (.k0 [false] [] [1,2,7]) ?_)
   refine .then (.rK (.ghs (fr 70 [(1,Sl.v 1 s1),(2,Sl.v 1 s2),(7,(Cv (Db.off p0) (Db.cs p0))),(9,(zI (-1:Int)))]) AO (.k0 [false] [] [1,2,7,9]) ?_))
   refine .then (.rK (.ghs (fr 70 [(1,Sl.v 1 s1),(2,Sl.v 1 s2),(7,(Cv (Db.off p0) (Db.cs p0))),(9,(zI (-1:Int))),(10,(.int .u16 (0:Int)))]) AO (.k0 [false] [] [1,2,7,9,10]) ?_))
   refine .join (v:=v) (fun y:Sl×Nat×LV×Int=>((fr 70 [(1,(Sl.v 1 y.1)),(7,(Cv y.2.1 y.2.2.1)),(10,(.int .u16 y.2.2.2))]),AO)) (fun y=>R7 pu n y.1 y.2.1 y.2.2.1 y.2.2.2) ?_ ?_
   ·rintro⟨s3,n0,q0,z0⟩ hm
    exact Af2 pu n s3 n0 q0 z0 hm
   ·refine .then (.rK (.ghs (fr 70 [(1,Sl.v 1 s1),(7,(Cv (Db.off p0) (Db.cs p0))),(9,(zI (-1:Int))),(10,(.int .u16 (0:Int))),(25,Sl.v 1 s2),(26,(zI (Int.ofNat (Sl.n s2)))),(27,(zI (0:Int)))]) AO (.k0 [false] [] [1,7,9,10,25,26,27]) ?_))
    refine .block (.loopM (v:=v) (fun y:Sl×Nat×LV×Int×Int×Sl×Int×Int=>((fr 70 [(1,(Sl.v 1 y.1)),(7,(Cv y.2.1 y.2.2.1)),(9,(zI y.2.2.2.1)),(10,(.int .u16 y.2.2.2.2.1)),(25,(Sl.v 1 y.2.2.2.2.2.1)),(26,(zI y.2.2.2.2.2.2.1)),(27,(zI y.2.2.2.2.2.2.2))]),AO)) (fun w y=>PN pu n w y.1 y.2.1 y.2.2.1 y.2.2.2.1 y.2.2.2.2.1 y.2.2.2.2.2.1 y.2.2.2.2.2.2.1 y.2.2.2.2.2.2.2) n ⟨(s1,(Db.off p0),(Db.cs p0),(-1:Int),(0:Int),s2,(Int.ofNat (Sl.n s2)),(0:Int)),hm,(.k0 [false] [] [1,7,9,10,25,26,27])⟩ (fun _=>rfl) ?_)
    rintro w0 ⟨s4,n1,q1,z1,z2,s5,z3,z4⟩ hm
    replace hm:PM pu n (PN pu n w0) s4 n1 q1 z1 z2 s5 z3 z4=some v:=hm
    unfold PM at hm
    refine .then (.rK (.ghs (fr 70 [(1,Sl.v 1 s4),(7,(Cv n1 q1)),(9,zI z1),(10,.int .u16 z2),(25,Sl.v 1 s5),(26,zI z3),(27,zI z4),(28,(zB (AY z4 z3)))]) AO (.k0 [false] [] [1,7,9,10,25,26,27,28]) ?_))
    refine .then ?_
    replace hm:=Ag hm;rcases hm with⟨h4,hm⟩ | ⟨h4,hm⟩
    ·refine Bq (AY z4 z3) h4 ?_
     refine .skip (.ghs (fr 70 [(1,Sl.v 1 s4),(7,(Cv n1 q1)),(9,zI z1),(10,.int .u16 z2),(25,Sl.v 1 s5),(26,zI z3),(27,zI z4)]) AO (.k0 [false] [] [1,7,9,10,25,26,27]) ?_)
     refine .then (.block (.then ?_))
     replace hm:=Ab hm;obtain⟨k1,h5,hm⟩:=hm
     obtain rfl:=AR h5
     replace hm:=Ae hm;obtain⟨h6,hm⟩:=hm
     replace hm:=Gt hm;obtain⟨x4,h7,hm⟩:=hm
     refine .reg (eD (keep AO (bb (an (Nat.blt k1 (Sl.n s5)) true) (some (Cv (k1*1) (Sl.cs s5))) none)) (AX h6) (eD (keep AO (AL (Sl.cs s5) (k1*1))) (AZ h7) (eE))) ?_
     refine .ghs (fr 70 [(1,Sl.v 1 s4),(7,(Cv n1 q1)),(9,zI z1),(10,.int .u16 z2),(12,zI x4),(25,Sl.v 1 s5),(26,zI z3),(27,(zI (Int.ofNat k1)))]) AO (.k0 [false] [] [1,7,9,10,12,25,26,27]) ?_
     refine .then (.block (.then ?_))
     replace hm:=OT hm;obtain⟨b0,h8,hm⟩:=hm
     refine .reg (eC 4 ((oo (pu 59 [(zI (0:Int)),zI x4,(zI (Aj .i64 (Int.sub (Int.ofNat (Sl.n s4)) (1:Int))))]) none fun v=>some (v,AO))) (AB h8) (eE)) ?_
     refine .ghs (fr 70 [(1,Sl.v 1 s4),(7,(Cv n1 q1)),(9,zI z1),(10,.int .u16 z2),(12,zI x4),(25,Sl.v 1 s5),(26,zI z3),(27,(zI (Int.ofNat k1))),(31,(zB (nt b0)))]) AO (.k0 [false] [] [1,7,9,10,12,25,26,27,31]) ?_
     replace hm:=Ag hm;rcases hm with⟨h9,hm⟩ | ⟨h9,hm⟩
     ·refine Bq (nt b0) h9 ?_
      refine .then (.rK (.ghs (fr 70 [(6,(zI (2:Int)))]) AO (.k0 [false] [] [6]) ?_))
      refine .ret ?_
      exact A7 (zI (2:Int)) hm
     ·refine BB (nt b0) h9 ?_
      refine .then (.rK (.ghs (fr 70 [(1,Sl.v 1 s4),(7,(Cv n1 q1)),(10,.int .u16 z2),(12,zI x4),(25,Sl.v 1 s5),(26,zI z3),(27,(zI (Int.ofNat k1))),(38,(zB (nt (AY z1 x4))))]) AO (.k0 [false] [] [1,7,10,12,25,26,27,38]) ?_))
      replace hm:=Ag hm;rcases hm with⟨h10,hm⟩ | ⟨h10,hm⟩
      ·refine Bq (nt (AY z1 x4)) h10 ?_
       refine .then (.rK (.ghs (fr 70 [(6,(zI (7:Int)))]) AO (.k0 [false] [] [6]) ?_))
       refine .ret ?_
       exact A7 (zI (7:Int)) hm
      ·refine BB (nt (AY z1 x4)) h10 ?_
       refine .skip (.ghs (fr 70 [(1,Sl.v 1 s4),(7,(Cv n1 q1)),(10,.int .u16 z2),(12,zI x4),(25,Sl.v 1 s5),(26,zI z3),(27,(zI (Int.ofNat k1)))]) AO (.k0 [false] [] [1,7,10,12,25,26,27]) ?_)
       refine .then (.rK (.ghs (fr 70 [(1,Sl.v 1 s4),(7,(Cv n1 q1)),(9,zI x4),(10,.int .u16 z2),(12,zI x4),(25,Sl.v 1 s5),(26,zI z3),(27,(zI (Int.ofNat k1)))]) AO (.k0 [false] [] [1,7,9,10,12,25,26,27]) ?_))
       replace hm:=Ab hm;obtain⟨k2,h11,hm⟩:=hm
       obtain rfl:=AR h11
       refine .rK (.ghs (fr 70 [(1,Sl.v 1 s4),(7,(Cv n1 q1)),(9,(zI (Int.ofNat k2))),(10,(.int .u16 (jF .u16 z2 (QW .u16 (1:Int) k2)))),(25,Sl.v 1 s5),(26,zI z3),(27,(zI (Int.ofNat k1)))]) AO (.k0 [false] [] [1,7,9,10,25,26,27]) ?_)
       refine .rK ?_
       exact⟨(s4,n1,q1,(Int.ofNat k2),(jF .u16 z2 (QW .u16 (1:Int) k2)),s5,z3,(Aj .i64 (Int.add (Int.ofNat k1) (1:Int)))),hm,(.k0 [false] [] [1,7,9,10,25,26,27])⟩
    ·refine BB (AY z4 z3) h4 ?_
     refine .exit ?_
     exact⟨(s4,n1,q1,z2),hm,(.k0 [false] [] [1,7,10])⟩
 ·replace hm:=Ae hm;obtain⟨h12,hm⟩:=hm
  obtain rfl:=TY h12
  replace hm:=Ai hm;obtain⟨x5,rfl,hm⟩:=hm
  refine .reg (eC 3 (Hr tabs 1 (pu 43) [(.agg ⟨[zI x0,zI x1,zI x2,Sl.v 1 s0]⟩),sc 2 0 1 1 3] (hT 3 [(oC [zI x0,zI x1,zI x2,Sl.v 1 s0]),(oC [Sl.v 1 s1])])) (KI (DZ (CV (z:=1) (v:=(.agg ⟨[zI x0,zI x1,zI x2,Sl.v 1 s0]⟩)) (H:=(hT 3 [(oC [zI x0,zI x1,zI x2,Sl.v 1 s0]),(oC [Sl.v 1 s1])])) (by kernel_rfl) (by kernel_rfl) (by kernel_rfl)) (DZ (show ER 1 (sc 2 0 1 1 3) (hT 3 [(oC [zI x0,zI x1,zI x2,Sl.v 1 s0]),(oC [Sl.v 1 s1])])=some ((Sl.v 1 (Sl.mk 1 0 (Aq (1*1) (Am 0 ([Sl.v 1 s1]:LV))))),(hT 3 [(oC [zI x0,zI x1,zI x2,Sl.v 1 s0]),.dead])) from KH 2 0 1 1 3 ([Sl.v 1 s1]:LV) [] (by kernel_rfl) (by kernel_rfl) (by kernel_rfl)) Jt)) (by kernel_rfl) h0) (eE)) ?_
  refine .ghs (fr 70 [(1,Sl.v 1 s1),(2,Sl.v 1 s2),(7,(.pointer none)),(8,zI x5)]) AO (.k0 [false] [] [1,2,7,8]) ?_
  refine .then (.then (.rK (.ghs (fr 70 [(1,Sl.v 1 s1),(2,Sl.v 1 s2),(7,(.pointer none)),(8,zI x5),(23,(zB (nt (Bd x5 (0:Int)))))]) AO (.k0 [false] [] [1,2,7,8,23]) ?_)))
  replace hm:=Ag hm;rcases hm with⟨h13,hm⟩ | ⟨h13,hm⟩
  ·refine Bq (nt (Bd x5 (0:Int))) h13 ?_
   refine .then (.rK (.ghs (fr 70 [(6,zI x5)]) AO (.k0 [false] [] [6]) ?_))
   refine .ret ?_
   exact A7 (zI x5) hm
  ·refine BB (nt (Bd x5 (0:Int))) h13 ?_
   refine .skip (.ghs (fr 70 [(1,Sl.v 1 s1),(2,Sl.v 1 s2),(7,(.pointer none))]) AO (.k0 [false] [] [1,2,7]) ?_)
   refine .then (.rK (.ghs (fr 70 [(1,Sl.v 1 s1),(2,Sl.v 1 s2),(7,(.pointer none)),(9,(zI (-1:Int)))]) AO (.k0 [false] [] [1,2,7,9]) ?_))
   refine .then (.rK (.ghs (fr 70 [(1,Sl.v 1 s1),(2,Sl.v 1 s2),(7,(.pointer none)),(9,(zI (-1:Int))),(10,(.int .u16 (0:Int)))]) AO (.k0 [false] [] [1,2,7,9,10]) ?_))
   refine .join (v:=v) (fun y:Sl×Int=>((fr 70 [(1,(Sl.v 1 y.1)),(7,(.pointer none)),(10,(.int .u16 y.2))]),AO)) (fun y=>X9 pu n y.1 y.2) ?_ ?_
   ·rintro⟨s6,z5⟩ hm
    exact Af3 pu n s6 z5 hm
   ·refine .then (.rK (.ghs (fr 70 [(1,Sl.v 1 s1),(7,(.pointer none)),(9,(zI (-1:Int))),(10,(.int .u16 (0:Int))),(25,Sl.v 1 s2),(26,(zI (Int.ofNat (Sl.n s2)))),(27,(zI (0:Int)))]) AO (.k0 [false] [] [1,7,9,10,25,26,27]) ?_))
    refine .block (.loopM (v:=v) (fun y:Sl×Int×Int×Sl×Int×Int=>((fr 70 [(1,(Sl.v 1 y.1)),(7,(.pointer none)),(9,(zI y.2.1)),(10,(.int .u16 y.2.2.1)),(25,(Sl.v 1 y.2.2.2.1)),(26,(zI y.2.2.2.2.1)),(27,(zI y.2.2.2.2.2))]),AO)) (fun w y=>fG pu n w y.1 y.2.1 y.2.2.1 y.2.2.2.1 y.2.2.2.2.1 y.2.2.2.2.2) n ⟨(s1,(-1:Int),(0:Int),s2,(Int.ofNat (Sl.n s2)),(0:Int)),hm,(.k0 [false] [] [1,7,9,10,25,26,27])⟩ (fun _=>rfl) ?_)
    rintro w0 ⟨s7,z6,z7,s8,z8,z9⟩ hm
    replace hm:fF pu n (fG pu n w0) s7 z6 z7 s8 z8 z9=some v:=hm
    unfold fF at hm
    refine .then (.rK (.ghs (fr 70 [(1,Sl.v 1 s7),(7,(.pointer none)),(9,zI z6),(10,.int .u16 z7),(25,Sl.v 1 s8),(26,zI z8),(27,zI z9),(28,(zB (AY z9 z8)))]) AO (.k0 [false] [] [1,7,9,10,25,26,27,28]) ?_))
    refine .then ?_
    replace hm:=Ag hm;rcases hm with⟨h14,hm⟩ | ⟨h14,hm⟩
    ·refine Bq (AY z9 z8) h14 ?_
     refine .skip (.ghs (fr 70 [(1,Sl.v 1 s7),(7,(.pointer none)),(9,zI z6),(10,.int .u16 z7),(25,Sl.v 1 s8),(26,zI z8),(27,zI z9)]) AO (.k0 [false] [] [1,7,9,10,25,26,27]) ?_)
     refine .then (.block (.then ?_))
     replace hm:=Ab hm;obtain⟨k3,h15,hm⟩:=hm
     obtain rfl:=AR h15
     replace hm:=Ae hm;obtain⟨h16,hm⟩:=hm
     replace hm:=Gt hm;obtain⟨x6,h17,hm⟩:=hm
     refine .reg (eD (keep AO (bb (an (Nat.blt k3 (Sl.n s8)) true) (some (Cv (k3*1) (Sl.cs s8))) none)) (AX h16) (eD (keep AO (AL (Sl.cs s8) (k3*1))) (AZ h17) (eE))) ?_
     refine .ghs (fr 70 [(1,Sl.v 1 s7),(7,(.pointer none)),(9,zI z6),(10,.int .u16 z7),(12,zI x6),(25,Sl.v 1 s8),(26,zI z8),(27,(zI (Int.ofNat k3)))]) AO (.k0 [false] [] [1,7,9,10,12,25,26,27]) ?_
     refine .then (.block (.then ?_))
     replace hm:=OT hm;obtain⟨b1,h18,hm⟩:=hm
     refine .reg (eC 4 ((oo (pu 59 [(zI (0:Int)),zI x6,(zI (Aj .i64 (Int.sub (Int.ofNat (Sl.n s7)) (1:Int))))]) none fun v=>some (v,AO))) (AB h18) (eE)) ?_
     refine .ghs (fr 70 [(1,Sl.v 1 s7),(7,(.pointer none)),(9,zI z6),(10,.int .u16 z7),(12,zI x6),(25,Sl.v 1 s8),(26,zI z8),(27,(zI (Int.ofNat k3))),(31,(zB (nt b1)))]) AO (.k0 [false] [] [1,7,9,10,12,25,26,27,31]) ?_
     replace hm:=Ag hm;rcases hm with⟨h19,hm⟩ | ⟨h19,hm⟩
     ·refine Bq (nt b1) h19 ?_
      refine .then (.rK (.ghs (fr 70 [(6,(zI (2:Int)))]) AO (.k0 [false] [] [6]) ?_))
      refine .ret ?_
      exact A7 (zI (2:Int)) hm
     ·refine BB (nt b1) h19 ?_
      refine .then (.rK (.ghs (fr 70 [(1,Sl.v 1 s7),(7,(.pointer none)),(10,.int .u16 z7),(12,zI x6),(25,Sl.v 1 s8),(26,zI z8),(27,(zI (Int.ofNat k3))),(38,(zB (nt (AY z6 x6))))]) AO (.k0 [false] [] [1,7,10,12,25,26,27,38]) ?_))
      replace hm:=Ag hm;rcases hm with⟨h20,hm⟩ | ⟨h20,hm⟩
      ·refine Bq (nt (AY z6 x6)) h20 ?_
       refine .then (.rK (.ghs (fr 70 [(6,(zI (7:Int)))]) AO (.k0 [false] [] [6]) ?_))
       refine .ret ?_
       exact A7 (zI (7:Int)) hm
      ·refine BB (nt (AY z6 x6)) h20 ?_
       refine .skip (.ghs (fr 70 [(1,Sl.v 1 s7),(7,(.pointer none)),(10,.int .u16 z7),(12,zI x6),(25,Sl.v 1 s8),(26,zI z8),(27,(zI (Int.ofNat k3)))]) AO (.k0 [false] [] [1,7,10,12,25,26,27]) ?_)
       refine .then (.rK (.ghs (fr 70 [(1,Sl.v 1 s7),(7,(.pointer none)),(9,zI x6),(10,.int .u16 z7),(12,zI x6),(25,Sl.v 1 s8),(26,zI z8),(27,(zI (Int.ofNat k3)))]) AO (.k0 [false] [] [1,7,9,10,12,25,26,27]) ?_))
       replace hm:=Ab hm;obtain⟨k4,h21,hm⟩:=hm
       obtain rfl:=AR h21
       refine .rK (.ghs (fr 70 [(1,Sl.v 1 s7),(7,(.pointer none)),(9,(zI (Int.ofNat k4))),(10,(.int .u16 (jF .u16 z7 (QW .u16 (1:Int) k4)))),(25,Sl.v 1 s8),(26,zI z8),(27,(zI (Int.ofNat k3)))]) AO (.k0 [false] [] [1,7,9,10,25,26,27]) ?_)
       refine .rK ?_
       exact⟨(s7,(Int.ofNat k4),(jF .u16 z7 (QW .u16 (1:Int) k4)),s8,z8,(Aj .i64 (Int.add (Int.ofNat k3) (1:Int)))),hm,(.k0 [false] [] [1,7,9,10,25,26,27])⟩
    ·refine BB (AY z9 z8) h14 ?_
     refine .exit ?_
     exact⟨(s7,z7),hm,(.k0 [false] [] [1,7,10])⟩
def PO (pu:Af) (n:Nat) (z0:Int):OV:=
 (some (.int .i64 z0))
def R8 (pu:Af) (n:Nat) (z0:Int) (b0:Bool):OV:=
 (bb b0 (PO pu n (14:Int)) (PO pu n z0))
def PP (pu:Af) (n:Nat) (s0 s1:Sl) (z0 z1 z2 z3:Int) (s2:Sl):OV:=
 (bb (Bd z0 (0:Int)) (oo (pu 74 [(.agg ⟨[.int .i64 z1,.int .i64 z2,.int .i64 z3,Sl.v 1 s2]⟩),Sl.v 1 s0,Sl.v 1 s1]) none fun v0=>(oo (Bf v0) none fun b0=>(R8 pu n z0 (nt b0)))) (R8 pu n z0 false))
def OU (pu:Af) (n:Nat) (ih0:Sl→Sl→Int→Int→Int→Int→Int→Sl→OV) (s0 s1:Sl) (z0 z1 z2 z3 z4:Int) (s2:Sl):OV:=
 (ih0 s0 s1 z0 (Aj .i64 (Int.add z1 (1:Int))) z2 z3 z4 s2)
def R9 (pu:Af) (n:Nat) (ih0:Sl→Sl→Int→Int→Int→Int→Int→Sl→OV) (s0 s1:Sl) (z0 z1:Int) (b0:Bool) (z2 z3 z4:Int) (s2:Sl):OV:=
 (bb b0 (OU pu n ih0 s0 s1 (7:Int) z1 z2 z3 z4 s2) (OU pu n ih0 s0 s1 z0 z1 z2 z3 z4 s2))
def PQ (pu:Af) (n:Nat) (ih0:Sl→Sl→Int→Int→Int→Int→Int→Sl→OV) (s0 s1:Sl) (z0 z1:Int) (b0:Bool) (z2 z3 z4:Int) (s2:Sl):OV:=
 (bb b0 (oo (EA z1) none fun k1=>(bb (an (Nat.blt k1 (Sl.n s1)) true) (oo (AL (Sl.cs s1) (k1*1)) none fun v0=>(oo (Bi .i64 v0) none fun x0=>(oo (pu 62 [.int .i64 x0,(.int .i64 (0:Int)),(.int .i64 (Aj .i64 (Int.sub (Int.ofNat (Sl.n s0)) (1:Int))))]) none fun v1=>(oo (Bf v1) none fun b1=>(bb (nt b1) (OU pu n ih0 s0 s1 (2:Int) (Int.ofNat k1) z2 z3 z4 s2) (bb (AY (0:Int) (Int.ofNat k1)) (bb (an (Nat.blt k1 (Sl.n s1)) true) (oo (AL (Sl.cs s1) (k1*1)) none fun v2=>(oo (Bi .i64 v2) none fun x1=>(oo (EA (Aj .i64 (Int.sub (Int.ofNat k1) (1:Int)))) none fun k2=>(bb (an (Nat.blt k2 (Sl.n s1)) true) (oo (AL (Sl.cs s1) (k2*1)) none fun v3=>(oo (Bi .i64 v3) none fun x2=>(R9 pu n ih0 s0 s1 z0 (Int.ofNat k1) (nt (AY x2 x1)) z2 z3 z4 s2))) none)))) none) (R9 pu n ih0 s0 s1 z0 (Int.ofNat k1) false z2 z3 z4 s2))))))) none)) (PP pu n s0 s1 z0 z2 z3 z4 s2))
def MM (pu:Af) (n:Nat) (ih0:Sl→Sl→Int→Int→Int→Int→Int→Sl→OV) (s0 s1:Sl) (z0 z1 z2 z3 z4:Int) (s2:Sl):OV:=
 (bb (AY z1 (Int.ofNat (Sl.n s1))) (PQ pu n ih0 s0 s1 z0 z1 (Bd z0 (0:Int)) z2 z3 z4 s2) (PQ pu n ih0 s0 s1 z0 z1 false z2 z3 z4 s2))
def Ke (pu:Af) (n w:Nat):Sl→Sl→Int→Int→Int→Int→Int→Sl→OV:=
 Nat.rec (motive:=fun _=>Sl→Sl→Int→Int→Int→Int→Int→Sl→OV) (fun _ _ _ _ _ _ _ _=>none) (fun _ ih0=>MM pu n ih0) w
def ZP (pu:Af) (n:Nat) (x0 x1 x2:Int) (s0 s1 s2:Sl):OV:=
 (oo (pu 46 [(.agg ⟨[.int .i64 x0,.int .i64 x1,.int .i64 x2,Sl.v 1 s0]⟩),Sl.v 1 s1]) none fun v0=>(oo (Bi .i64 v0) none fun x3=>(Ke pu n n s1 s2 x3 (0:Int) x0 x1 x2 s0)))
def m32 (pu:Af) (n:Nat) (args:LV):OV:=
 (ll args none fun a0 args=>(ll args none fun a1 args=>(ll args none fun a2 args=>(ll args (oo (Bt a0) none fun l0=>(ll l0 none fun v0 l0=>(ll l0 none fun v1 l0=>(ll l0 none fun v2 l0=>(ll l0 none fun v3 l0=>(ll l0 (oo (Bi .i64 v0) none fun x0=>(oo (Bi .i64 v1) none fun x1=>(oo (Bi .i64 v2) none fun x2=>(oo (Bj 1 v3) none fun s0=>(oo (Bj 1 a1) none fun s1=>(oo (Bj 1 a2) none fun s2=>(ZP pu n x0 x1 x2 s0 s1 s2))))))) fun _ _=>none)))))) fun _ _=>none))))
theorem Af4 (pu:Af) (n:Nat) (z0:Int) {v:Value} (hm:PO pu n z0=some v):BN tt (Bb tabs isP pu (inl pu)) 1 dP (fr 55 [(7,zI z0)]) AO (Fin tt 1 [.tmp 6] v):=by
 unfold PO at hm
 refine .then (.rK (.ghs (fr 55 [(6,zI z0)]) AO (.k0 [false] [] [6]) ?_))
 refine .ret ?_
 exact A7 (zI z0) hm
theorem Af5 (pu:Af) (n:Nat) (s0 s1:Sl) (z0 z1 z2 z3:Int) (s2:Sl) {v:Value} (hm:PP pu n s0 s1 z0 z1 z2 z3 s2=some v):BN tt (Bb tabs isP pu (inl pu)) 1 dQ (fr 55 [(1,Sl.v 1 s0),(2,Sl.v 1 s1),(3,pt 1 0),(7,zI z0)]) (hT 2 [(oC [zI z1,zI z2,zI z3,Sl.v 1 s2])]) (Fin tt 1 [.tmp 6] v):=by
 unfold PP at hm
 refine .join (v:=v) (fun y:Int=>((fr 55 [(7,zI y)]),AO)) (fun y=>PO pu n y) ?_ ?_
 ·rintro z4 hm
  exact Af4 pu n z4 hm
 ·refine .join (v:=v) (fun y:Int×Bool=>((fr 55 [(7,(zI y.1)),(53,(zB y.2))]),AO)) (fun y=>R8 pu n y.1 y.2) ?_ ?_
  ·rintro⟨z5,b0⟩ hm
   unfold R8 at hm
   replace hm:=Ag hm;rcases hm with⟨h0,hm⟩ | ⟨h0,hm⟩
   ·refine .ifT b0 (by kernel_rfl) h0 ?_
    refine .rK ?_
    exact⟨(14:Int),hm,(.k0 [false] [] [7])⟩
   ·refine .ifF b0 (by kernel_rfl) h0 ?_
    refine .skip ?_
    exact⟨z5,hm,(.k0 [false] [] [7])⟩
  ·replace hm:=Ag hm;rcases hm with⟨h1,hm⟩ | ⟨h1,hm⟩
   ·replace hm:=OT hm;obtain⟨b1,h2,hm⟩:=hm
    refine .reg (eC 1 (some ((zB (Bd z0 (0:Int))),(hT 2 [(oC [zI z1,zI z2,zI z3,Sl.v 1 s2])]))) (show _=some ((zB true),_) from (by rw[show (Bd z0 (0:Int))=true from h1])) (eC 4 ((oo (pu 74 [(.agg ⟨[zI z1,zI z2,zI z3,Sl.v 1 s2]⟩),Sl.v 1 s0,Sl.v 1 s1]) none fun v=>some (v,(hT 2 [(oC [zI z1,zI z2,zI z3,Sl.v 1 s2])])))) (AB h2) (eE))) ?_
    exact⟨(z0,(nt b1)),hm,(.k0 [false] [] [7,53])⟩
   ·refine .reg (eC 1 (some ((zB (Bd z0 (0:Int))),(hT 2 [(oC [zI z1,zI z2,zI z3,Sl.v 1 s2])]))) (show _=some ((zB false),_) from (by rw[show (Bd z0 (0:Int))=false from h1])) (eE)) ?_
    exact⟨(z0,false),hm,(.k0 [false] [] [7,53])⟩
theorem r32 {call:A8} (pu:Af) (n:Nat) (hcall:call=Bb tabs isP pu (inl pu)) {args:LV} {v:Value} (hm:m32 pu n args=some v) (_:∀ x∈args,closed2 x=true):args.length≤55∧BN tt call 1 Ud (Fr.made 55 args) (Ao tabs) (Fin tt 1 [.tmp 6] v):=by
 subst hcall
 unfold m32 at hm
 replace hm:=Ad hm;obtain⟨a0,args_0,rfl,hm⟩:=hm
 replace hm:=Ad hm;obtain⟨a1,args_1,rfl,hm⟩:=hm
 replace hm:=Ad hm;obtain⟨a2,args_2,rfl,hm⟩:=hm
 replace hm:=AC hm;obtain⟨rfl,hm⟩:=hm
 replace hm:=BG hm;obtain⟨l0,rfl,hm⟩:=hm
 replace hm:=Ad hm;obtain⟨v0,l2267_0,rfl,hm⟩:=hm
 replace hm:=Ad hm;obtain⟨v1,l2267_1,rfl,hm⟩:=hm
 replace hm:=Ad hm;obtain⟨v2,l2267_2,rfl,hm⟩:=hm
 replace hm:=Ad hm;obtain⟨v3,l2267_3,rfl,hm⟩:=hm
 replace hm:=AC hm;obtain⟨rfl,hm⟩:=hm
 replace hm:=Ai hm;obtain⟨x0,rfl,hm⟩:=hm
 replace hm:=Ai hm;obtain⟨x1,rfl,hm⟩:=hm
 replace hm:=Ai hm;obtain⟨x2,rfl,hm⟩:=hm
 replace hm:=Al hm;obtain⟨s0,rfl,hm⟩:=hm
 replace hm:=Al hm;obtain⟨s1,rfl,hm⟩:=hm
 replace hm:=Al hm;obtain⟨s2,rfl,hm⟩:=hm
 unfold ZP at hm
 refine⟨by simp,?_⟩
 refine .same (F':=(fr 55 [(0,(.agg ⟨[zI x0,zI x1,zI x2,Sl.v 1 s0]⟩)),(1,Sl.v 1 s1),(2,Sl.v 1 s2)])) (H':=AO) (by kernel_rfl) (by kernel_rfl) ?_
 refine .then (.rK (.ghs (fr 55 [(1,Sl.v 1 s1),(2,Sl.v 1 s2),(3,pt 1 0)]) (hT 2 [(oC [zI x0,zI x1,zI x2,Sl.v 1 s0])]) (.k0 [false] [.tmp 3 false] [1,2,3]) ?_))
 refine .then ?_
 replace hm:=Gt hm;obtain⟨x3,h0,hm⟩:=hm
 refine .reg (eC 2 ((oo (pu 46 [(.agg ⟨[zI x0,zI x1,zI x2,Sl.v 1 s0]⟩),Sl.v 1 s1]) none fun v=>some (v,(hT 2 [(oC [zI x0,zI x1,zI x2,Sl.v 1 s0])])))) (AB h0) (eE)) ?_
 refine .ghs (fr 55 [(1,Sl.v 1 s1),(2,Sl.v 1 s2),(3,pt 1 0),(7,zI x3)]) (hT 2 [(oC [zI x0,zI x1,zI x2,Sl.v 1 s0])]) (.k0 [false] [.tmp 3 false] [1,2,3,7]) ?_
 refine .join (v:=v) (fun y:Sl×Sl×Int×Int×Int×Int×Sl=>((fr 55 [(1,(Sl.v 1 y.1)),(2,(Sl.v 1 y.2.1)),(3,pt 1 0),(7,(zI y.2.2.1))]),(hT 2 [(oC [(zI y.2.2.2.1),(zI y.2.2.2.2.1),(zI y.2.2.2.2.2.1),(Sl.v 1 y.2.2.2.2.2.2)])]))) (fun y=>PP pu n y.1 y.2.1 y.2.2.1 y.2.2.2.1 y.2.2.2.2.1 y.2.2.2.2.2.1 y.2.2.2.2.2.2) ?_ ?_
 ·rintro⟨s3,s4,z0,z1,z2,z3,s5⟩ hm
  exact Af5 pu n s3 s4 z0 z1 z2 z3 s5 hm
 ·refine .then (.rK (.ghs (fr 55 [(1,Sl.v 1 s1),(2,Sl.v 1 s2),(3,pt 1 0),(7,zI x3),(8,(zI (0:Int)))]) (hT 2 [(oC [zI x0,zI x1,zI x2,Sl.v 1 s0])]) (.k0 [false] [.tmp 3 false] [1,2,3,7,8]) ?_))
  refine .block (.loopM (v:=v) (fun y:Sl×Sl×Int×Int×Int×Int×Int×Sl=>((fr 55 [(1,(Sl.v 1 y.1)),(2,(Sl.v 1 y.2.1)),(3,pt 1 0),(7,(zI y.2.2.1)),(8,(zI y.2.2.2.1))]),(hT 2 [(oC [(zI y.2.2.2.2.1),(zI y.2.2.2.2.2.1),(zI y.2.2.2.2.2.2.1),(Sl.v 1 y.2.2.2.2.2.2.2)])]))) (fun w y=>Ke pu n w y.1 y.2.1 y.2.2.1 y.2.2.2.1 y.2.2.2.2.1 y.2.2.2.2.2.1 y.2.2.2.2.2.2.1 y.2.2.2.2.2.2.2) n ⟨(s1,s2,x3,(0:Int),x0,x1,x2,s0),hm,(.k0 [false] [.tmp 3 false] [1,2,3,7,8])⟩ (fun _=>rfl) ?_)
  rintro w0 ⟨s6,s7,z4,z5,z6,z7,z8,s8⟩ hm
  replace hm:MM pu n (Ke pu n w0) s6 s7 z4 z5 z6 z7 z8 s8=some v:=hm
  unfold MM at hm
  refine .then (.join (v:=v) (fun y:Sl×Sl×Int×Int×Bool×Int×Int×Int×Sl=>((fr 55 [(1,(Sl.v 1 y.1)),(2,(Sl.v 1 y.2.1)),(3,pt 1 0),(7,(zI y.2.2.1)),(8,(zI y.2.2.2.1)),(19,(zB y.2.2.2.2.1))]),(hT 2 [(oC [(zI y.2.2.2.2.2.1),(zI y.2.2.2.2.2.2.1),(zI y.2.2.2.2.2.2.2.1),(Sl.v 1 y.2.2.2.2.2.2.2.2)])]))) (fun y=>PQ pu n (Ke pu n w0) y.1 y.2.1 y.2.2.1 y.2.2.2.1 y.2.2.2.2.1 y.2.2.2.2.2.1 y.2.2.2.2.2.2.1 y.2.2.2.2.2.2.2.1 y.2.2.2.2.2.2.2.2) ?_ ?_)
  ·rintro⟨s9,s10,z9,z10,b0,z11,z12,z13,s11⟩ hm
   unfold PQ at hm
   replace hm:=Ag hm;rcases hm with⟨h1,hm⟩ | ⟨h1,hm⟩
   ·refine .ifT b0 (by kernel_rfl) h1 ?_
    refine .skip (.ghs (fr 55 [(1,Sl.v 1 s9),(2,Sl.v 1 s10),(3,pt 1 0),(7,zI z9),(8,zI z10)]) (hT 2 [(oC [zI z11,zI z12,zI z13,Sl.v 1 s11])]) (.k0 [false] [.tmp 3 false] [1,2,3,7,8]) ?_)
    refine .join (v:=v) (fun y:Sl×Sl×Int×Int×Int×Int×Int×Sl=>((fr 55 [(1,(Sl.v 1 y.1)),(2,(Sl.v 1 y.2.1)),(3,pt 1 0),(7,(zI y.2.2.1)),(8,(zI y.2.2.2.1))]),(hT 2 [(oC [(zI y.2.2.2.2.1),(zI y.2.2.2.2.2.1),(zI y.2.2.2.2.2.2.1),(Sl.v 1 y.2.2.2.2.2.2.2)])]))) (fun y=>OU pu n (Ke pu n w0) y.1 y.2.1 y.2.2.1 y.2.2.2.1 y.2.2.2.2.1 y.2.2.2.2.2.1 y.2.2.2.2.2.2.1 y.2.2.2.2.2.2.2) ?_ ?_
    ·rintro⟨s12,s13,z14,z15,z16,z17,z18,s14⟩ hm
     unfold OU at hm
     refine .rK ?_
     exact⟨(s12,s13,z14,(Aj .i64 (Int.add z15 (1:Int))),z16,z17,z18,s14),hm,(.k0 [false] [.tmp 3 false] [1,2,3,7,8])⟩
    ·refine .block (.then ?_)
     replace hm:=Ab hm;obtain⟨k1,h2,hm⟩:=hm
     obtain rfl:=AR h2
     replace hm:=Ae hm;obtain⟨h3,hm⟩:=hm
     replace hm:=Gt hm;obtain⟨x4,h4,hm⟩:=hm
     replace hm:=OT hm;obtain⟨b1,h5,hm⟩:=hm
     refine .reg (eC 2 (keep (hT 2 [(oC [zI z11,zI z12,zI z13,Sl.v 1 s11])]) (bb (an (Nat.blt k1 (Sl.n s10)) true) (some (Cv (k1*1) (Sl.cs s10))) none)) (AX h3) (eD (keep (hT 2 [(oC [zI z11,zI z12,zI z13,Sl.v 1 s11])]) (AL (Sl.cs s10) (k1*1))) (AZ h4) (eC 3 ((oo (pu 62 [zI x4,(zI (0:Int)),(zI (Aj .i64 (Int.sub (Int.ofNat (Sl.n s9)) (1:Int))))]) none fun v=>some (v,(hT 2 [(oC [zI z11,zI z12,zI z13,Sl.v 1 s11])])))) (AB h5) (eE)))) ?_
     refine .ghs (fr 55 [(1,Sl.v 1 s9),(2,Sl.v 1 s10),(3,pt 1 0),(7,zI z9),(8,(zI (Int.ofNat k1))),(30,(zB (nt b1)))]) (hT 2 [(oC [zI z11,zI z12,zI z13,Sl.v 1 s11])]) (.k0 [false] [.tmp 3 false] [1,2,3,7,8,30]) ?_
     replace hm:=Ag hm;rcases hm with⟨h6,hm⟩ | ⟨h6,hm⟩
     ·refine Bq (nt b1) h6 ?_
      refine .rK ?_
      exact⟨(s9,s10,(2:Int),(Int.ofNat k1),z11,z12,z13,s11),hm,(.k0 [false] [.tmp 3 false] [1,2,3,7,8])⟩
     ·refine BB (nt b1) h6 ?_
      refine .join (v:=v) (fun y:Sl×Sl×Int×Int×Bool×Int×Int×Int×Sl=>((fr 55 [(1,(Sl.v 1 y.1)),(2,(Sl.v 1 y.2.1)),(3,pt 1 0),(7,(zI y.2.2.1)),(8,(zI y.2.2.2.1)),(44,(zB y.2.2.2.2.1))]),(hT 2 [(oC [(zI y.2.2.2.2.2.1),(zI y.2.2.2.2.2.2.1),(zI y.2.2.2.2.2.2.2.1),(Sl.v 1 y.2.2.2.2.2.2.2.2)])]))) (fun y=>R9 pu n (Ke pu n w0) y.1 y.2.1 y.2.2.1 y.2.2.2.1 y.2.2.2.2.1 y.2.2.2.2.2.1 y.2.2.2.2.2.2.1 y.2.2.2.2.2.2.2.1 y.2.2.2.2.2.2.2.2) ?_ ?_
      ·rintro⟨s15,s16,z19,z20,b2,z21,z22,z23,s17⟩ hm
       unfold R9 at hm
       replace hm:=Ag hm;rcases hm with⟨h7,hm⟩ | ⟨h7,hm⟩
       ·refine .ifT b2 (by kernel_rfl) h7 ?_
        refine .rK ?_
        exact⟨(s15,s16,(7:Int),z20,z21,z22,z23,s17),hm,(.k0 [false] [.tmp 3 false] [1,2,3,7,8])⟩
       ·refine .ifF b2 (by kernel_rfl) h7 ?_
        refine .skip ?_
        exact⟨(s15,s16,z19,z20,z21,z22,z23,s17),hm,(.k0 [false] [.tmp 3 false] [1,2,3,7,8])⟩
      ·replace hm:=Ag hm;rcases hm with⟨h8,hm⟩ | ⟨h8,hm⟩
       ·replace hm:=Ae hm;obtain⟨h9,hm⟩:=hm
        replace hm:=Gt hm;obtain⟨x5,h10,hm⟩:=hm
        replace hm:=Ab hm;obtain⟨k2,h11,hm⟩:=hm
        replace hm:=Ae hm;obtain⟨h12,hm⟩:=hm
        replace hm:=Gt hm;obtain⟨x6,h13,hm⟩:=hm
        refine .reg (eN 7 (Fr.puts (fr 55 [(1,Sl.v 1 s9),(2,Sl.v 1 s10),(3,pt 1 0),(7,zI z9),(8,(zI (Int.ofNat k1))),(30,(zB (nt b1)))]) [(31,(zI (Int.ofNat k1))),(32,zB true),(33,zB true),(34,Sl.v 1 s10),(35,(zI (Int.ofNat k1))),(36,(Cv (k1*1) (Sl.cs s10))),(37,zI x5)]) (hT 2 [(oC [zI z11,zI z12,zI z13,Sl.v 1 s11])]) (eC 1 (some ((zB (AY (0:Int) (Int.ofNat k1))),(hT 2 [(oC [zI z11,zI z12,zI z13,Sl.v 1 s11])]))) (show _=some ((zB true),_) from (by rw[show (AY (0:Int) (Int.ofNat k1))=true from h8])) (eC 3 (keep (hT 2 [(oC [zI z11,zI z12,zI z13,Sl.v 1 s11])]) (bb (an (Nat.blt k1 (Sl.n s10)) true) (some (Cv (k1*1) (Sl.cs s10))) none)) (AX h9) (eD (keep (hT 2 [(oC [zI z11,zI z12,zI z13,Sl.v 1 s11])]) (AL (Sl.cs s10) (k1*1))) (AZ h10) (by kernel_rfl)))) (eC 2 (some ((zI (Aj .i64 (Int.sub (Int.ofNat k1) (1:Int)))),(hT 2 [(oC [zI z11,zI z12,zI z13,Sl.v 1 s11])]))) (show _=some ((zI (Int.ofNat k2)),_) from (by rw[AR h11])) (eD (keep (hT 2 [(oC [zI z11,zI z12,zI z13,Sl.v 1 s11])]) (bb (an (Nat.blt k2 (Sl.n s10)) true) (some (Cv (k2*1) (Sl.cs s10))) none)) (AX h12) (eD (keep (hT 2 [(oC [zI z11,zI z12,zI z13,Sl.v 1 s11])]) (AL (Sl.cs s10) (k2*1))) (AZ h13) (eE))))) ?_
        exact⟨(s9,s10,z9,(Int.ofNat k1),(nt (AY x6 x5)),z11,z12,z13,s11),hm,(.k0 [false] [.tmp 3 false] [1,2,3,7,8,44])⟩
       ·refine .reg (eC 1 (some ((zB (AY (0:Int) (Int.ofNat k1))),(hT 2 [(oC [zI z11,zI z12,zI z13,Sl.v 1 s11])]))) (show _=some ((zB false),_) from (by rw[show (AY (0:Int) (Int.ofNat k1))=false from h8])) (eE)) ?_
        exact⟨(s9,s10,z9,(Int.ofNat k1),false,z11,z12,z13,s11),hm,(.k0 [false] [.tmp 3 false] [1,2,3,7,8,44])⟩
   ·refine .ifF b0 (by kernel_rfl) h1 ?_
    refine .exit ?_
    exact⟨(s9,s10,z9,z11,z12,z13,s11),hm,(.k0 [false] [.tmp 3 false] [1,2,3,7])⟩
  ·replace hm:=Ag hm;rcases hm with⟨h14,hm⟩ | ⟨h14,hm⟩
   ·refine .reg (eC 3 (some ((zB (AY z5 (Int.ofNat (Sl.n s7)))),(hT 2 [(oC [zI z6,zI z7,zI z8,Sl.v 1 s8])]))) (show _=some ((zB true),_) from (by rw[show (AY z5 (Int.ofNat (Sl.n s7)))=true from h14])) (eE)) ?_
    exact⟨(s6,s7,z4,z5,(Bd z4 (0:Int)),z6,z7,z8,s8),hm,(.k0 [false] [.tmp 3 false] [1,2,3,7,8,19])⟩
   ·refine .reg (eC 3 (some ((zB (AY z5 (Int.ofNat (Sl.n s7)))),(hT 2 [(oC [zI z6,zI z7,zI z8,Sl.v 1 s8])]))) (show _=some ((zB false),_) from (by rw[show (AY z5 (Int.ofNat (Sl.n s7)))=false from h14])) (eE)) ?_
    exact⟨(s6,s7,z4,z5,false,z6,z7,z8,s8),hm,(.k0 [false] [.tmp 3 false] [1,2,3,7,8,19])⟩
def Ya (pu:Af) (n:Nat) (z0:Int):OV:=
 (some (.tuple ⟨[.int .i64 z0,(.int .i64 (0:Int))]⟩))
def fH (pu:Af) (n:Nat) (ih0:Sl→Sl→Int→Int→Int→Int→OV) (s0 s1:Sl) (z0 z1 z2 z3:Int):OV:=
 (oo (pu 10481 [(.agg ⟨[.int .i64 z1,.int .i64 z2,.int .i64 z3,(Sl.v 1 (Sl.mk 0 2 []))]⟩),Sl.v 1 s0,.int .i64 z0]) none fun v0=>(oo (CQ v0) none fun l0=>(ll l0 none fun v1 l0=>(ll l0 (oo (Bj 1 v1) none fun s2=>(oo (pu 50 [Sl.v 1 s2,Sl.v 1 s1]) none fun v2=>(oo (Bf v2) none fun b0=>(bb (nt b0) (ih0 s0 s1 (Aj .i64 (Int.add z0 (1:Int))) z1 z2 z3) (Ya pu n z0))))) fun _ _=>none))))
def fI (pu:Af) (n w:Nat):Sl→Sl→Int→Int→Int→Int→OV:=
 Nat.rec (motive:=fun _=>Sl→Sl→Int→Int→Int→Int→OV) (fun _ _ _ _ _ _=>none) (fun _ ih0=>fH pu n ih0) w
def Sa (pu:Af) (n:Nat) (z0 z1:Int) (b0:Bool):OV:=
 (bb b0 (some (.tuple ⟨[(.int .i64 (0:Int)),(.int .i64 (2:Int))]⟩)) (oo (pu 10480 [(.agg ⟨[(.int .i64 (2:Int)),(.int .i64 (2:Int)),(.int .i64 (0:Int)),(Sl.v 1 (Sl.mk 0 2 []))]⟩),(.slice (some ⟨1,0,some 1⟩) 4 9),.int .i64 z0,(.agg ⟨[(.int .i64 (0:Int)),(.int .i64 (1:Int)),(.int .i64 (2:Int)),(.int .i64 (3:Int))]⟩)]) none fun v0=>(oo (CQ v0) none fun l0=>(ll l0 none fun v1 l0=>(ll l0 none fun v2 l0=>(ll l0 (oo (Bj 1 v1) none fun s0=>(oo (Bt v2) none fun q0=>(bb (Au Ah q0) (oo (pu 10481 [(.agg ⟨[(.int .i64 (2:Int)),(.int .i64 (2:Int)),(.int .i64 (0:Int)),(Sl.v 1 (Sl.mk 0 2 []))]⟩),Sl.v 1 s0,.int .i64 z1]) none fun v3=>(oo (CQ v3) none fun l1=>(ll l1 none fun v4 l1=>(ll l1 (oo (Bj 1 v4) none fun s1=>(bb (Au Ah q0) (bb (an (Nat.ble (0+4*1) (len q0)) (Au Ah (Aq (4*1) (Am 0 q0)))) (fI pu n n (Sl.mk 4 0 (Aq (4*1) (Am 0 q0))) s1 (0:Int) (2:Int) (2:Int) (0:Int)) none) none)) fun _ _=>none)))) none))) fun _ _=>none))))))
def Af6 (pu:Af) (n:Nat) (x0 x1:Int):OV:=
 (oo (pu 62 [.int .i64 x0,(.int .i64 (0:Int)),(.int .i64 (7:Int))]) none fun v0=>(oo (Bf v0) none fun b0=>(bb (nt b0) (Sa pu n x0 x1 true) (oo (pu 62 [.int .i64 x1,(.int .i64 (0:Int)),(.int .i64 (7:Int))]) none fun v1=>(oo (Bf v1) none fun b1=>(Sa pu n x0 x1 (nt b1)))))))
def m34 (pu:Af) (n:Nat) (args:LV):OV:=
 (ll args none fun a0 args=>(ll args none fun a1 args=>(ll args (oo (Bi .i64 a0) none fun x0=>(oo (Bi .i64 a1) none fun x1=>(Af6 pu n x0 x1))) fun _ _=>none)))
theorem Af8 (pu:Af) (n:Nat) (z0:Int) {v:Value} (hm:Ya pu n z0=some v):BN tt (Bb tabs isP pu (inl pu)) 1 dR (fr 37 [(9,zI z0)]) AO (Fin tt 1 [.tmp 4,.tmp 5] v):=by
 unfold Ya at hm
 refine .then (.rK (.ghs (fr 37 [(4,zI z0),(5,(zI (0:Int)))]) AO (.k0 [false] [] [4,5]) ?_))
 refine .ret ?_
 exact A7 (.tuple ⟨[zI z0,(zI (0:Int))]⟩) hm
theorem r34 {call:A8} (pu:Af) (n:Nat) (hcall:call=Bb tabs isP pu (inl pu)) {args:LV} {v:Value} (hm:m34 pu n args=some v) (_:∀ x∈args,closed2 x=true):args.length≤37∧BN tt call 1 Ue (Fr.made 37 args) (Ao tabs) (Fin tt 1 [.tmp 4,.tmp 5] v):=by
 subst hcall
 unfold m34 at hm
 replace hm:=Ad hm;obtain⟨a0,args_0,rfl,hm⟩:=hm
 replace hm:=Ad hm;obtain⟨a1,args_1,rfl,hm⟩:=hm
 replace hm:=AC hm;obtain⟨rfl,hm⟩:=hm
 replace hm:=Ai hm;obtain⟨x0,rfl,hm⟩:=hm
 replace hm:=Ai hm;obtain⟨x1,rfl,hm⟩:=hm
 unfold Af6 at hm
 refine⟨by simp,?_⟩
 refine .same (F':=(fr 37 [(0,zI x0),(1,zI x1)])) (H':=AO) (by kernel_rfl) (by kernel_rfl) ?_
 refine .then (.rK (.ghs (fr 37 [(0,zI x0),(1,zI x1)]) AO (.k0 [false] [] [0,1]) ?_))
 refine .then (.join (v:=v) (fun y:Int×Int×Bool=>((fr 37 [(0,(zI y.1)),(1,(zI y.2.1)),(17,(zB y.2.2))]),AO)) (fun y=>Sa pu n y.1 y.2.1 y.2.2) ?_ ?_)
 ·rintro⟨z0,z1,b0⟩ hm
  unfold Sa at hm
  replace hm:=Ag hm;rcases hm with⟨h0,hm⟩ | ⟨h0,hm⟩
  ·refine .ifT b0 (by kernel_rfl) h0 ?_
   refine .then (.rK (.ghs (fr 37 [(4,(zI (0:Int))),(5,(zI (2:Int)))]) AO (.k0 [false] [] [4,5]) ?_))
   refine .ret ?_
   exact A7 (.tuple ⟨[(zI (0:Int)),(zI (2:Int))]⟩) hm
  ·refine .ifF b0 (by kernel_rfl) h0 ?_
   refine .skip (.ghs (fr 37 [(0,zI z0),(1,zI z1)]) AO (.k0 [false] [] [0,1]) ?_)
   refine .then (.rK (.ghs (fr 37 [(0,zI z0),(1,zI z1),(6,pt 1 0)]) (hT 2 [(oC [(zI (2:Int)),(zI (2:Int)),(zI (0:Int)),(.slice none 0 0)])]) (.k0 [false] [.tmp 6 false] [0,1,6]) ?_))
   refine .then (.rK (.ghs (fr 37 [(0,zI z0),(1,zI z1),(6,pt 1 0),(7,sc 2 0 1 4 9)]) (hT 3 [(oC [(zI (2:Int)),(zI (2:Int)),(zI (0:Int)),(.slice none 0 0)]),(oC [(zI (0:Int)),(zI (1:Int)),(zI (2:Int)),(zI (3:Int))])]) (.k0 [false] [.tmp 6 false,.tmp 7 false] [0,1,6,7]) ?_))
   refine .then ?_
   replace hm:=Ab hm;obtain⟨v0,h1,hm⟩:=hm
   replace hm:=Ch hm;obtain⟨l0,rfl,hm⟩:=hm
   replace hm:=Ad hm;obtain⟨v1,l3883_0,rfl,hm⟩:=hm
   replace hm:=Ad hm;obtain⟨v2,l3883_1,rfl,hm⟩:=hm
   replace hm:=AC hm;obtain⟨rfl,hm⟩:=hm
   replace hm:=Al hm;obtain⟨s0,rfl,hm⟩:=hm
   replace hm:=BG hm;obtain⟨q0,rfl,hm⟩:=hm
   replace hm:=Ae hm;obtain⟨h2,hm⟩:=hm
   replace hm:=Ab hm;obtain⟨v3,h3,hm⟩:=hm
   replace hm:=Ch hm;obtain⟨l1,rfl,hm⟩:=hm
   replace hm:=Ad hm;obtain⟨v4,l3900_0,rfl,hm⟩:=hm
   replace hm:=AC hm;obtain⟨rfl,hm⟩:=hm
   replace hm:=Al hm;obtain⟨s1,rfl,hm⟩:=hm
   refine .reg (eC 5 (EK tabs [[none,none,none,some 1],[none],[none]] 3 [.tmp 1 false] [false] (pu 10480) [(.agg ⟨[(zI (2:Int)),(zI (2:Int)),(zI (0:Int)),(.slice none 0 0)]⟩),sc 2 0 1 4 9,zI z0] (hT 3 [(oC [(zI (2:Int)),(zI (2:Int)),(zI (0:Int)),(.slice none 0 0)]),(oC [(zI (0:Int)),(zI (1:Int)),(zI (2:Int)),(zI (3:Int))])])) (EL (as:=[(.agg ⟨[(zI (2:Int)),(zI (2:Int)),(zI (0:Int)),(Sl.v 1 (Sl.mk 0 2 []))]⟩),sc 2 0 1 4 9,zI z0]) (H1:=(hT 3 [(oC [(zI (2:Int)),(zI (2:Int)),(zI (0:Int)),(.slice none 0 0)]),(oC [(zI (0:Int)),(zI (1:Int)),(zI (2:Int)),(zI (3:Int))])])) (BS (Ot (Da Dk (Da Dk (Da Dk (Da (KQ (Ju (z:=1) (H:=(hT 3 [(oC [(zI (2:Int)),(zI (2:Int)),(zI (0:Int)),(.slice none 0 0)]),(oC [(zI (0:Int)),(zI (1:Int)),(zI (2:Int)),(zI (3:Int))])])))) Oq))))) (BS (Dm Dk) (BS (Dm Dk) Gj))) (EI (H2:=(hT 3 [(oC [(zI (2:Int)),(zI (2:Int)),(zI (0:Int)),(.slice none 0 0)]),oC q0])) (v:=(Sl.v 1 s0)) (v':=(Sl.v 1 s0)) [some 0,some 2] [(false,some 2)] [(oC [(zI (0:Int)),(zI (1:Int)),(zI (2:Int)),(zI (3:Int))])] [(.agg ⟨[(zI (2:Int)),(zI (2:Int)),(zI (0:Int)),(Sl.v 1 (Sl.mk 0 2 []))]⟩),sc 1 0 1 4 9,zI z0] [(.agg ⟨q0⟩)] [oC q0] [some 0,none,some 1] [(false,oC q0)] [oC q0] (by kernel_rfl) (En (by kernel_rfl) BX) (Eq.trans (by kernel_rfl) h1) (En rfl BX) (En (KO h2) BX))) (eD (EK tabs [[none,none,none,some 1],[some 1],[none]] 3 [] [] (pu 10481) [(.agg ⟨[(zI (2:Int)),(zI (2:Int)),(zI (0:Int)),(.slice none 0 0)]⟩),Sl.v 1 s0,zI z1] (hT 3 [(oC [(zI (2:Int)),(zI (2:Int)),(zI (0:Int)),(.slice none 0 0)]),oC q0])) (EL (as:=[(.agg ⟨[(zI (2:Int)),(zI (2:Int)),(zI (0:Int)),(Sl.v 1 (Sl.mk 0 2 []))]⟩),Sl.v 1 s0,zI z1]) (H1:=(hT 3 [(oC [(zI (2:Int)),(zI (2:Int)),(zI (0:Int)),(.slice none 0 0)]),oC q0])) (BS (Ot (Da Dk (Da Dk (Da Dk (Da (KQ (Ju (z:=1) (H:=(hT 3 [(oC [(zI (2:Int)),(zI (2:Int)),(zI (0:Int)),(.slice none 0 0)]),oC q0])))) Oq))))) (BS (Dm (KQ (CV (z:=1) (v:=(Sl.v 1 s0)) (H:=(hT 3 [(oC [(zI (2:Int)),(zI (2:Int)),(zI (0:Int)),(.slice none 0 0)]),oC q0])) (by kernel_rfl) (by kernel_rfl) (by kernel_rfl)))) (BS (Dm Dk) Gj))) (EI (H2:=(hT 3 [(oC [(zI (2:Int)),(zI (2:Int)),(zI (0:Int)),(.slice none 0 0)]),oC q0])) (v:=(Sl.v 1 s1)) (v':=(Sl.v 1 s1)) [some 0] [] [] [(.agg ⟨[(zI (2:Int)),(zI (2:Int)),(zI (0:Int)),(Sl.v 1 (Sl.mk 0 2 []))]⟩),Sl.v 1 s0,zI z1] [] [] [some 0,none,none] [] [] (by kernel_rfl) BX (Eq.trans (by kernel_rfl) h3) BX BX)) (eE))) ?_
   replace hm:=Ae hm;obtain⟨h4,hm⟩:=hm
   refine .ghs (fr 37 [(6,pt 1 0),(7,sc 2 0 1 4 9),(8,Sl.v 1 s1)]) (hT 3 [(oC [(zI (2:Int)),(zI (2:Int)),(zI (0:Int)),(.slice none 0 0)]),oC q0]) (.k [2] [false] [.tmp 6 false,.tmp 7 false] [6,7,8] ⟨FD h4,trivial⟩) ?_
   refine .then (.rK (.ghs (fr 37 [(6,pt 1 0),(7,sc 2 0 1 4 9),(8,Sl.v 1 s1),(9,(zI (0:Int)))]) (hT 3 [(oC [(zI (2:Int)),(zI (2:Int)),(zI (0:Int)),(.slice none 0 0)]),oC q0]) (.k [2] [false] [.tmp 6 false,.tmp 7 false] [6,7,8,9] ⟨FD h4,trivial⟩) ?_))
   refine .join (v:=v) (fun y:Int=>((fr 37 [(9,zI y)]),AO)) (fun y=>Ya pu n y) ?_ ?_
   ·rintro z2 hm
    exact Af8 pu n z2 hm
   ·refine .block ?_
    replace hm:=Ae hm;obtain⟨h5,hm⟩:=hm
    refine .loopM (v:=v) (fun y:Sl×Sl×Int×Int×Int×Int=>((fr 37 [(6,pt 1 0),(7,(Sl.v 1 y.1)),(8,(Sl.v 1 y.2.1)),(9,(zI y.2.2.1))]),(hT 2 [(oC [(zI y.2.2.2.1),(zI y.2.2.2.2.1),(zI y.2.2.2.2.2),(.slice none 0 0)])]))) (fun w y=>fI pu n w y.1 y.2.1 y.2.2.1 y.2.2.2.1 y.2.2.2.2.1 y.2.2.2.2.2) n ⟨((Sl.mk 4 0 (Aq (4*1) (Am 0 q0))),s1,(0:Int),(2:Int),(2:Int),(0:Int)),hm,(.freezeC 1 7 1 (an (Nat.ble (0+4*1) (len q0)) (Au Ah (Aq (4*1) (Am 0 q0)))) (F1:=(Fr.puts (fr 37 [(6,pt 1 0),(7,sc 2 0 1 4 9),(8,Sl.v 1 s1),(9,(zI (0:Int)))]) [(7,(Sl.v 1 (Sl.mk 4 0 (Aq (4*1) (Am 0 q0)))))])) (H1:=(hT 3 [(oC [(zI (2:Int)),(zI (2:Int)),(zI (0:Int)),(.slice none 0 0)]),.dead])) (by kernel_rfl) (by kernel_rfl) h5 (.k0 [false] [.tmp 6 false] [6,7,8,9]))⟩ (fun _=>rfl) ?_
    rintro w0 ⟨s2,s3,z3,z4,z5,z6⟩ hm
    replace hm:fH pu n (fI pu n w0) s2 s3 z3 z4 z5 z6=some v:=hm
    unfold fH at hm
    refine .then (.then ?_)
    replace hm:=Ab hm;obtain⟨v5,h6,hm⟩:=hm
    replace hm:=Ch hm;obtain⟨l2,rfl,hm⟩:=hm
    replace hm:=Ad hm;obtain⟨v6,l4023_0,rfl,hm⟩:=hm
    replace hm:=AC hm;obtain⟨rfl,hm⟩:=hm
    replace hm:=Al hm;obtain⟨s4,rfl,hm⟩:=hm
    replace hm:=OT hm;obtain⟨b1,h7,hm⟩:=hm
    refine .reg (eC 3 (EK tabs [[none,none,none,some 1],[some 1],[none]] 3 [] [] (pu 10481) [(.agg ⟨[zI z4,zI z5,zI z6,(.slice none 0 0)]⟩),Sl.v 1 s2,zI z3] (hT 2 [(oC [zI z4,zI z5,zI z6,(.slice none 0 0)])])) (EL (as:=[(.agg ⟨[zI z4,zI z5,zI z6,(Sl.v 1 (Sl.mk 0 2 []))]⟩),Sl.v 1 s2,zI z3]) (H1:=(hT 2 [(oC [zI z4,zI z5,zI z6,(.slice none 0 0)])])) (BS (Ot (Da Dk (Da Dk (Da Dk (Da (KQ (Ju (z:=1) (H:=(hT 2 [(oC [zI z4,zI z5,zI z6,(.slice none 0 0)])])))) Oq))))) (BS (Dm (KQ (CV (z:=1) (v:=(Sl.v 1 s2)) (H:=(hT 2 [(oC [zI z4,zI z5,zI z6,(.slice none 0 0)])])) (by kernel_rfl) (by kernel_rfl) (by kernel_rfl)))) (BS (Dm Dk) Gj))) (EI (H2:=(hT 2 [(oC [zI z4,zI z5,zI z6,(.slice none 0 0)])])) (v:=(Sl.v 1 s4)) (v':=(Sl.v 1 s4)) [some 0] [] [] [(.agg ⟨[zI z4,zI z5,zI z6,(Sl.v 1 (Sl.mk 0 2 []))]⟩),Sl.v 1 s2,zI z3] [] [] [some 0,none] [] [] (by kernel_rfl) BX (Eq.trans (by kernel_rfl) h6) BX BX)) (eC 1 ((oo (pu 50 [Sl.v 1 s4,Sl.v 1 s3]) none fun v=>some (v,(hT 2 [(oC [zI z4,zI z5,zI z6,(.slice none 0 0)])])))) (AB h7) (eE))) ?_
    refine .ghs (fr 37 [(6,pt 1 0),(7,Sl.v 1 s2),(8,Sl.v 1 s3),(9,zI z3),(33,(zB (nt b1)))]) (hT 2 [(oC [zI z4,zI z5,zI z6,(.slice none 0 0)])]) (.k0 [false] [.tmp 6 false] [6,7,8,9,33]) ?_
    replace hm:=Ag hm;rcases hm with⟨h8,hm⟩ | ⟨h8,hm⟩
    ·refine Bq (nt b1) h8 ?_
     refine .skip (.ghs (fr 37 [(6,pt 1 0),(7,Sl.v 1 s2),(8,Sl.v 1 s3),(9,zI z3)]) (hT 2 [(oC [zI z4,zI z5,zI z6,(.slice none 0 0)])]) (.k0 [false] [.tmp 6 false] [6,7,8,9]) ?_)
     refine .block (.rK ?_)
     exact⟨(s2,s3,(Aj .i64 (Int.add z3 (1:Int))),z4,z5,z6),hm,(.k0 [false] [.tmp 6 false] [6,7,8,9])⟩
    ·refine BB (nt b1) h8 ?_
     refine .exit ?_
     exact⟨z3,hm,(.k0 [false] [] [9])⟩
 ·replace hm:=OT hm;obtain⟨b2,h9,hm⟩:=hm
  replace hm:=Ag hm;rcases hm with⟨h10,hm⟩ | ⟨h10,hm⟩
  ·refine .reg (eC 1 ((oo (pu 62 [zI x0,(zI (0:Int)),(zI (7:Int))]) none fun v=>some (v,AO))) (AB h9) (eD (some ((zB (nt b2)),AO)) (show _=some ((zB true),_) from (by rw[show (nt b2)=true from h10])) (eE))) ?_
   exact⟨(x0,x1,true),hm,(.k0 [false] [] [0,1,17])⟩
  ·replace hm:=OT hm;obtain⟨b3,h11,hm⟩:=hm
   refine .reg (eC 1 ((oo (pu 62 [zI x0,(zI (0:Int)),(zI (7:Int))]) none fun v=>some (v,AO))) (AB h9) (eD (some ((zB (nt b2)),AO)) (show _=some ((zB false),_) from (by rw[show (nt b2)=false from h10])) (eC 2 ((oo (pu 62 [zI x1,(zI (0:Int)),(zI (7:Int))]) none fun v=>some (v,AO))) (AB h11) (eE)))) ?_
   exact⟨(x0,x1,(nt b3)),hm,(.k0 [false] [] [0,1,17])⟩
end
end Go.BkVM
