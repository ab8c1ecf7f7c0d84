/- Made from wip. -/
import Derived.Test.YtokbaaeimejjlaaDoorBkOMod0x

set_option maxRecDepth 100000
set_option maxHeartbeats 20000000
set_option linter.unusedVariables false
namespace Go.BkOM
open Go.Sp Go.BkO
noncomputable section
def WO (pu:Af) (n:Nat):OV:=
 (some (.tuple ⟨[(.int .i64 (0:Int)),(.int .i64 (12:Int))]⟩))
def Un (pu:Af) (n:Nat) (ih0:Sl→Sl→Nat→LV→Sl→Int→Int→OV) (s0 s1:Sl) (n0:Nat) (q0:LV) (s2:Sl) (z0 z1:Int):OV:=
 (bb (AY z1 z0) (oo (EA z1) none fun k1=>(bb (an (Nat.blt k1 (Sl.n s2)) true) (oo (AL (Sl.cs s2) (k1*1)) none fun v0=>(oo (Bi .i64 v0) none fun x0=>(oo (pu 34 [(Cv n0 q0),Sl.v 1 s0,(.int .i64 (Int.ofNat k1))]) none fun v1=>(oo (Bj 1 v1) none fun s3=>(oo (pu 37 [Sl.v 1 s3,Sl.v 1 s1]) none fun v2=>(oo (Bf v2) none fun b0=>(bb b0 (some (.tuple ⟨[.int .i64 x0,(.int .i64 (0:Int))]⟩)) (ih0 s0 s1 n0 q0 s2 z0 (Aj .i64 (Int.add (Int.ofNat k1) (1:Int))))))))))) none)) (WO pu n))
def QI (pu:Af) (n w:Nat):Sl→Sl→Nat→LV→Sl→Int→Int→OV:=
 Nat.rec (motive:=fun _=>Sl→Sl→Nat→LV→Sl→Int→Int→OV) (fun _ _ _ _ _ _ _=>none) (fun _ ih0=>Un pu n ih0) w
def fK (pu:Af) (n:Nat) (x0 x1 x2:Int) (s0 s1 s2:Sl):OV:=
 (oo (pu 32 [(.agg ⟨[.int .i64 x0,.int .i64 x1,.int .i64 x2,Sl.v 1 s0]⟩),(Sl.v 1 (Sl.mk 2 0 (Aq (2*1) (Am 0 ([Sl.v 1 s1,Sl.v 1 s2]:LV)))))]) none fun v0=>(oo (CQ v0) none fun l0=>(ll l0 none fun v1 l0=>(ll l0 none fun v2 l0=>(ll l0 (bb (isS (Pv v1)) (oo (Pv v1) none fun p0=>(oo (Bi .i64 v2) none fun x3=>(bb (nt (Bd x3 (0:Int))) (some (.tuple ⟨[(.int .i64 (0:Int)),.int .i64 x3]⟩)) (oo (AL (Db.cs p0) (((Db.off p0)+0)+3)) none fun v3=>(oo (Bj 1 v3) none fun s3=>(QI pu n n s1 s2 (Db.off p0) (Db.cs p0) s3 (Int.ofNat (Sl.n s3)) (0:Int))))))) (bb (T9 v1) (oo (Bi .i64 v2) none fun x4=>(bb (nt (Bd x4 (0:Int))) (some (.tuple ⟨[(.int .i64 (0:Int)),.int .i64 x4]⟩)) none)) none)) fun _ _=>none)))))
def m18 (pu:Af) (n:Nat) (args:LV):OV:=
 (ll args none fun a0 args=>(ll args none fun a1 args=>(ll args none fun a2 args=>(ll args (oo (Bt a0) none fun l0=>(ll l0 none fun v0 l0=>(ll l0 none fun v1 l0=>(ll l0 none fun v2 l0=>(ll l0 none fun v3 l0=>(ll l0 (oo (Bi .i64 v0) none fun x0=>(oo (Bi .i64 v1) none fun x1=>(oo (Bi .i64 v2) none fun x2=>(oo (Bj 1 v3) none fun s0=>(oo (Bj 1 a1) none fun s1=>(oo (Bj 1 a2) none fun s2=>(fK pu n x0 x1 x2 s0 s1 s2))))))) fun _ _=>none)))))) fun _ _=>none))))
theorem Aea (pu:Af) (n:Nat) {v:Value} (hm:WO pu n=some v):BN tt (Bb tabs isP pu (inl pu)) 1 Yx (fr 42 []) Ay (Fin tt 1 [.tmp 6,.tmp 7] v):=by
 unfold WO at hm
 refine .then (.rK (.ghs (fr 42 [(6,(zI (0:Int))),(7,(zI (12:Int)))]) Ay (.k0 [false] [] [6,7]) ?_))
 refine .ret ?_
 exact AO (.tuple ⟨[(zI (0:Int)),(zI (12:Int))]⟩) hm
theorem r18 {call:A8} (pu:Af) (n:Nat) (hcall:call=Bb tabs isP pu (inl pu)) {args:LV} {v:Value} (hm:m18 pu n args=some v) (_:∀ x∈args,closed2 x=true):args.length≤42∧BN tt call 1 R7 (Fr.made 42 args) (Ao tabs) (Fin tt 1 [.tmp 6,.tmp 7] v):=by
 subst hcall
 unfold m18 at hm
 replace hm:=Ad hm;obtain⟨a0,args_0,rfl,hm⟩:=hm
 replace hm:=Ad hm;obtain⟨a1,args_1,rfl,hm⟩:=hm
 replace hm:=Ad hm;obtain⟨a2,args_2,rfl,hm⟩:=hm
 replace hm:=AC hm;obtain⟨rfl,hm⟩:=hm
 replace hm:=BG hm;obtain⟨l0,rfl,hm⟩:=hm
 replace hm:=Ad hm;obtain⟨v0,l15200_0,rfl,hm⟩:=hm
 replace hm:=Ad hm;obtain⟨v1,l15200_1,rfl,hm⟩:=hm
 replace hm:=Ad hm;obtain⟨v2,l15200_2,rfl,hm⟩:=hm
 replace hm:=Ad hm;obtain⟨v3,l15200_3,rfl,hm⟩:=hm
 replace hm:=AC hm;obtain⟨rfl,hm⟩:=hm
 replace hm:=Ai hm;obtain⟨x0,rfl,hm⟩:=hm
 replace hm:=Ai hm;obtain⟨x1,rfl,hm⟩:=hm
 replace hm:=Ai hm;obtain⟨x2,rfl,hm⟩:=hm
 replace hm:=Al hm;obtain⟨s0,rfl,hm⟩:=hm
 replace hm:=Al hm;obtain⟨s1,rfl,hm⟩:=hm
 replace hm:=Al hm;obtain⟨s2,rfl,hm⟩:=hm
 unfold fK at hm
 refine⟨by simp,?_⟩
 refine .same (F':=(fr 42 [(0,(.agg ⟨[zI x0,zI x1,zI x2,Sl.v 1 s0]⟩)),(1,Sl.v 1 s1),(2,Sl.v 1 s2)])) (H':=Ay) (by kernel_rfl) (by kernel_rfl) ?_
 refine .then (.rK (.ghs (fr 42 [(1,Sl.v 1 s1),(2,Sl.v 1 s2),(3,pt 1 0)]) (hT 2 [(oC [zI x0,zI x1,zI x2,Sl.v 1 s0])]) (.k0 [false] [.tmp 3 false] [1,2,3]) ?_))
 refine .then ?_
 replace hm:=Ab hm;obtain⟨v4,h0,hm⟩:=hm
 replace hm:=Ch hm;obtain⟨l1,rfl,hm⟩:=hm
 replace hm:=Ad hm;obtain⟨v5,l15231_0,rfl,hm⟩:=hm
 replace hm:=Ad hm;obtain⟨v6,l15231_1,rfl,hm⟩:=hm
 replace hm:=AC hm;obtain⟨rfl,hm⟩:=hm
 replace hm:=Ag hm;rcases hm with⟨h1,hm⟩ | ⟨h1,hm⟩
 ·replace hm:=Ab hm;obtain⟨p0,h2,hm⟩:=hm
  obtain rfl:=F7 h2
  replace hm:=Ai hm;obtain⟨x3,rfl,hm⟩:=hm
  refine .reg (eC 4 (Hr tabs 1 (pu 32) [(.agg ⟨[zI x0,zI x1,zI x2,Sl.v 1 s0]⟩),sc 2 0 1 2 5] (hT 3 [(oC [zI x0,zI x1,zI x2,Sl.v 1 s0]),(oC [Sl.v 1 s1,Sl.v 1 s2])])) (KI (DZ (CV (z:=1) (v:=(.agg ⟨[zI x0,zI x1,zI x2,Sl.v 1 s0]⟩)) (H:=(hT 3 [(oC [zI x0,zI x1,zI x2,Sl.v 1 s0]),(oC [Sl.v 1 s1,Sl.v 1 s2])])) (by kernel_rfl) (by kernel_rfl) (by kernel_rfl)) (DZ (show ER 1 (sc 2 0 1 2 5) (hT 3 [(oC [zI x0,zI x1,zI x2,Sl.v 1 s0]),(oC [Sl.v 1 s1,Sl.v 1 s2])])=some ((Sl.v 1 (Sl.mk 2 0 (Aq (2*1) (Am 0 ([Sl.v 1 s1,Sl.v 1 s2]:LV))))),(hT 3 [(oC [zI x0,zI x1,zI x2,Sl.v 1 s0]),.dead])) from KH 2 0 1 2 5 ([Sl.v 1 s1,Sl.v 1 s2]:LV) [] (by kernel_rfl) (by kernel_rfl) (by kernel_rfl)) Jt)) (by kernel_rfl) h0) (eE)) ?_
  refine .ghs (fr 42 [(1,Sl.v 1 s1),(2,Sl.v 1 s2),(8,(Cv (Db.off p0) (Db.cs p0))),(9,zI x3)]) Ay (.k0 [false] [] [1,2,8,9]) ?_
  refine .then (.then (.rK (.ghs (fr 42 [(1,Sl.v 1 s1),(2,Sl.v 1 s2),(8,(Cv (Db.off p0) (Db.cs p0))),(9,zI x3),(21,(zB (nt (Bd x3 (0:Int)))))]) Ay (.k0 [false] [] [1,2,8,9,21]) ?_)))
  replace hm:=Ag hm;rcases hm with⟨h3,hm⟩ | ⟨h3,hm⟩
  ·refine BI (nt (Bd x3 (0:Int))) h3 ?_
   refine .then (.rK (.ghs (fr 42 [(6,(zI (0:Int))),(7,zI x3)]) Ay (.k0 [false] [] [6,7]) ?_))
   refine .ret ?_
   exact AO (.tuple ⟨[(zI (0:Int)),zI x3]⟩) hm
  ·refine BO (nt (Bd x3 (0:Int))) h3 ?_
   refine .skip (.ghs (fr 42 [(1,Sl.v 1 s1),(2,Sl.v 1 s2),(8,(Cv (Db.off p0) (Db.cs p0)))]) Ay (.k0 [false] [] [1,2,8]) ?_)
   refine .join (v:=v) (fun y:Unit=>((fr 42 []),Ay)) (fun y=>WO pu n) ?_ ?_
   ·rintro _ hm
    exact Aea pu n hm
   ·refine .then ?_
    replace hm:=oS hm;obtain⟨s3,h4,hm⟩:=hm
    refine .reg (eC 4 (keep Ay (AL (Db.cs p0) (((Db.off p0)+0)+3))) (AZ h4) (eE)) ?_
    refine .ghs (fr 42 [(1,Sl.v 1 s1),(2,Sl.v 1 s2),(8,(Cv (Db.off p0) (Db.cs p0))),(27,Sl.v 1 s3),(28,(zI (Int.ofNat (Sl.n s3)))),(29,(zI (0:Int)))]) Ay (.k0 [false] [] [1,2,8,27,28,29]) ?_
    refine .block (.loopM (v:=v) (fun y:Sl×Sl×Nat×LV×Sl×Int×Int=>((fr 42 [(1,(Sl.v 1 y.1)),(2,(Sl.v 1 y.2.1)),(8,(Cv y.2.2.1 y.2.2.2.1)),(27,(Sl.v 1 y.2.2.2.2.1)),(28,(zI y.2.2.2.2.2.1)),(29,(zI y.2.2.2.2.2.2))]),Ay)) (fun w y=>QI pu n w y.1 y.2.1 y.2.2.1 y.2.2.2.1 y.2.2.2.2.1 y.2.2.2.2.2.1 y.2.2.2.2.2.2) n ⟨(s1,s2,(Db.off p0),(Db.cs p0),s3,(Int.ofNat (Sl.n s3)),(0:Int)),hm,(.k0 [false] [] [1,2,8,27,28,29])⟩ (fun _=>rfl) ?_)
    rintro w0 ⟨s4,s5,n0,q0,s6,z0,z1⟩ hm
    replace hm:Un pu n (QI pu n w0) s4 s5 n0 q0 s6 z0 z1=some v:=hm
    unfold Un at hm
    refine .then (.rK (.ghs (fr 42 [(1,Sl.v 1 s4),(2,Sl.v 1 s5),(8,(Cv n0 q0)),(27,Sl.v 1 s6),(28,zI z0),(29,zI z1),(30,(zB (AY z1 z0)))]) Ay (.k0 [false] [] [1,2,8,27,28,29,30]) ?_))
    refine .then ?_
    replace hm:=Ag hm;rcases hm with⟨h5,hm⟩ | ⟨h5,hm⟩
    ·refine BI (AY z1 z0) h5 ?_
     refine .skip (.ghs (fr 42 [(1,Sl.v 1 s4),(2,Sl.v 1 s5),(8,(Cv n0 q0)),(27,Sl.v 1 s6),(28,zI z0),(29,zI z1)]) Ay (.k0 [false] [] [1,2,8,27,28,29]) ?_)
     refine .then (.block (.then ?_))
     replace hm:=Ab hm;obtain⟨k1,h6,hm⟩:=hm
     obtain rfl:=AR h6
     replace hm:=Ae hm;obtain⟨h7,hm⟩:=hm
     replace hm:=oI hm;obtain⟨x4,h8,hm⟩:=hm
     refine .reg (eC 1 (keep Ay (bb (an (Nat.blt k1 (Sl.n s6)) true) (some (Cv (k1*1) (Sl.cs s6))) none)) (AX h7) (eD (keep Ay (AL (Sl.cs s6) (k1*1))) (AZ h8) (eE))) ?_
     refine .ghs (fr 42 [(1,Sl.v 1 s4),(2,Sl.v 1 s5),(8,(Cv n0 q0)),(10,(zI (Int.ofNat k1))),(11,zI x4),(27,Sl.v 1 s6),(28,zI z0),(29,(zI (Int.ofNat k1)))]) Ay (.k0 [false] [] [1,2,8,10,11,27,28,29]) ?_
     refine .then ?_
     replace hm:=oS hm;obtain⟨s7,h9,hm⟩:=hm
     replace hm:=oB hm;obtain⟨b0,h10,hm⟩:=hm
     refine .reg (eC 3 ((oo (pu 34 [(Cv n0 q0),Sl.v 1 s4,(zI (Int.ofNat k1))]) none fun v=>some (v,Ay))) (AB h9) (eC 1 ((oo (pu 37 [Sl.v 1 s7,Sl.v 1 s5]) none fun v=>some (v,Ay))) (AB h10) (eE))) ?_
     refine .ghs (fr 42 [(1,Sl.v 1 s4),(2,Sl.v 1 s5),(8,(Cv n0 q0)),(11,zI x4),(27,Sl.v 1 s6),(28,zI z0),(29,(zI (Int.ofNat k1))),(39,zB b0)]) Ay (.k0 [false] [] [1,2,8,11,27,28,29,39]) ?_
     replace hm:=Ag hm;rcases hm with⟨h11,hm⟩ | ⟨h11,hm⟩
     ·refine .ifT b0 (by kernel_rfl) h11 ?_
      refine .then (.rK (.ghs (fr 42 [(6,zI x4),(7,(zI (0:Int)))]) Ay (.k0 [false] [] [6,7]) ?_))
      refine .ret ?_
      exact AO (.tuple ⟨[zI x4,(zI (0:Int))]⟩) hm
     ·refine .ifF b0 (by kernel_rfl) h11 ?_
      refine .skip (.ghs (fr 42 [(1,Sl.v 1 s4),(2,Sl.v 1 s5),(8,(Cv n0 q0)),(27,Sl.v 1 s6),(28,zI z0),(29,(zI (Int.ofNat k1)))]) Ay (.k0 [false] [] [1,2,8,27,28,29]) ?_)
      refine .rK ?_
      exact⟨(s4,s5,n0,q0,s6,z0,(Aj .i64 (Int.add (Int.ofNat k1) (1:Int)))),hm,(.k0 [false] [] [1,2,8,27,28,29])⟩
    ·refine BO (AY z1 z0) h5 ?_
     refine .exit ?_
     exact⟨(),hm,(.k0 [false] [] [])⟩
 ·replace hm:=Ae hm;obtain⟨h12,hm⟩:=hm
  obtain rfl:=KR h12
  replace hm:=Ai hm;obtain⟨x5,rfl,hm⟩:=hm
  refine .reg (eC 4 (Hr tabs 1 (pu 32) [(.agg ⟨[zI x0,zI x1,zI x2,Sl.v 1 s0]⟩),sc 2 0 1 2 5] (hT 3 [(oC [zI x0,zI x1,zI x2,Sl.v 1 s0]),(oC [Sl.v 1 s1,Sl.v 1 s2])])) (KI (DZ (CV (z:=1) (v:=(.agg ⟨[zI x0,zI x1,zI x2,Sl.v 1 s0]⟩)) (H:=(hT 3 [(oC [zI x0,zI x1,zI x2,Sl.v 1 s0]),(oC [Sl.v 1 s1,Sl.v 1 s2])])) (by kernel_rfl) (by kernel_rfl) (by kernel_rfl)) (DZ (show ER 1 (sc 2 0 1 2 5) (hT 3 [(oC [zI x0,zI x1,zI x2,Sl.v 1 s0]),(oC [Sl.v 1 s1,Sl.v 1 s2])])=some ((Sl.v 1 (Sl.mk 2 0 (Aq (2*1) (Am 0 ([Sl.v 1 s1,Sl.v 1 s2]:LV))))),(hT 3 [(oC [zI x0,zI x1,zI x2,Sl.v 1 s0]),.dead])) from KH 2 0 1 2 5 ([Sl.v 1 s1,Sl.v 1 s2]:LV) [] (by kernel_rfl) (by kernel_rfl) (by kernel_rfl)) Jt)) (by kernel_rfl) h0) (eE)) ?_
  refine .ghs (fr 42 [(1,Sl.v 1 s1),(2,Sl.v 1 s2),(8,(.pointer none)),(9,zI x5)]) Ay (.k0 [false] [] [1,2,8,9]) ?_
  refine .then (.then (.rK (.ghs (fr 42 [(1,Sl.v 1 s1),(2,Sl.v 1 s2),(8,(.pointer none)),(9,zI x5),(21,(zB (nt (Bd x5 (0:Int)))))]) Ay (.k0 [false] [] [1,2,8,9,21]) ?_)))
  replace hm:=Ag hm;rcases hm with⟨h13,hm⟩ | ⟨h13,hm⟩
  ·refine BI (nt (Bd x5 (0:Int))) h13 ?_
   refine .then (.rK (.ghs (fr 42 [(6,(zI (0:Int))),(7,zI x5)]) Ay (.k0 [false] [] [6,7]) ?_))
   refine .ret ?_
   exact AO (.tuple ⟨[(zI (0:Int)),zI x5]⟩) hm
  ·refine BO (nt (Bd x5 (0:Int))) h13 ?_
   refine .skip (.ghs (fr 42 [(1,Sl.v 1 s1),(2,Sl.v 1 s2),(8,(.pointer none))]) Ay (.k0 [false] [] [1,2,8]) ?_)
   refine .then (.then ?_)
   cases hm

def Aeb (pu:Af) (n:Nat) (s0:Sl):OV:=
 (some (Sl.v 1 s0))
def m22 (pu:Af) (n:Nat) (args:LV):OV:=
 (ll args none fun a0 args=>(ll args (oo (Bj 1 a0) none fun s0=>(Aeb pu n s0)) fun _ _=>none))
theorem r22 {call:A8} (pu:Af) (n:Nat) (hcall:call=Bb tabs isP pu (inl pu)) {args:LV} {v:Value} (hm:m22 pu n args=some v) (_:∀ x∈args,closed2 x=true):args.length≤4∧BN tt call 1 WB (Fr.made 4 args) (Ao tabs) (Fin tt 1 [.tmp 2] v):=by
 subst hcall
 unfold m22 at hm
 replace hm:=Ad hm;obtain⟨a0,args_0,rfl,hm⟩:=hm
 replace hm:=AC hm;obtain⟨rfl,hm⟩:=hm
 replace hm:=Al hm;obtain⟨s0,rfl,hm⟩:=hm
 unfold Aeb at hm
 refine⟨by simp,?_⟩
 refine .same (F':=(fr 4 [(0,Sl.v 1 s0)])) (H':=Ay) (by kernel_rfl) (by kernel_rfl) ?_
 refine .then (.rK (.ghs (fr 4 [(0,Sl.v 1 s0)]) Ay (.k0 [false] [] [0]) ?_))
 refine .then (.rK (.ghs (fr 4 [(2,Sl.v 1 s0)]) Ay (.k0 [false] [] [2]) ?_))
 refine .ret ?_
 exact AO (Sl.v 1 s0) hm
def WP (pu:Af) (n n0:Nat) (q0:LV):OV:=
 (some (.tuple ⟨[(Cv n0 q0),(.int .i64 (0:Int))]⟩))
def O4 (pu:Af) (n:Nat) (ih0:Nat→LV→Sl→Int→Int→OV) (n0:Nat) (q0:LV) (s0:Sl) (z0 z1:Int):OV:=
 (bb (AY z1 z0) (oo (EA z1) none fun k1=>(bb (an (Nat.blt k1 (Sl.n s0)) true) (oo (AL (Sl.cs s0) (k1*1)) none fun v0=>(oo (Bj 1 v0) none fun s1=>(oo (pu 58 [(Cv n0 q0),Sl.v 1 s1]) none fun v1=>(oo (Bi .i64 v1) none fun x0=>(bb (nt (Bd x0 (0:Int))) (some (.tuple ⟨[(.pointer none),.int .i64 x0]⟩)) (ih0 n0 q0 s0 z0 (Aj .i64 (Int.add (Int.ofNat k1) (1:Int))))))))) none)) (WP pu n n0 q0))
def K9 (pu:Af) (n w:Nat):Nat→LV→Sl→Int→Int→OV:=
 Nat.rec (motive:=fun _=>Nat→LV→Sl→Int→Int→OV) (fun _ _ _ _ _=>none) (fun _ ih0=>O4 pu n ih0) w
def WQ (pu:Af) (n:Nat):OV:=
 (some (.tuple ⟨[(.pointer none),(.int .i64 (0:Int))]⟩))
def ZQ (pu:Af) (n:Nat) (ih0:Sl→Int→Int→OV) (s0:Sl) (z0 z1:Int):OV:=
 (bb (AY z1 z0) (oo (EA z1) none fun k1=>(bb (an (Nat.blt k1 (Sl.n s0)) true) (oo (AL (Sl.cs s0) (k1*1)) none fun v0=>(oo (Bj 1 v0) none fun s1=>(oo (pu 58 [(.pointer none),Sl.v 1 s1]) none fun v1=>(oo (Bi .i64 v1) none fun x0=>(bb (nt (Bd x0 (0:Int))) (some (.tuple ⟨[(.pointer none),.int .i64 x0]⟩)) (ih0 s0 z0 (Aj .i64 (Int.add (Int.ofNat k1) (1:Int))))))))) none)) (WQ pu n))
def ZR (pu:Af) (n w:Nat):Sl→Int→Int→OV:=
 Nat.rec (motive:=fun _=>Sl→Int→Int→OV) (fun _ _ _=>none) (fun _ ih0=>ZQ pu n ih0) w
def Aec (pu:Af) (n:Nat) (x0 x1 x2:Int) (s0 s1:Sl):OV:=
 (oo (pu 49 [(.agg ⟨[.int .i64 x0,.int .i64 x1,.int .i64 x2,Sl.v 1 s0]⟩)]) none fun v0=>(oo (CQ v0) none fun l0=>(ll l0 none fun v1 l0=>(ll l0 none fun v2 l0=>(ll l0 (bb (isS (Pv v1)) (oo (Pv v1) none fun p0=>(oo (Bi .i64 v2) none fun x3=>(bb (nt (Bd x3 (0:Int))) (some (.tuple ⟨[(.pointer none),.int .i64 x3]⟩)) (K9 pu n n (Db.off p0) (Db.cs p0) s1 (Int.ofNat (Sl.n s1)) (0:Int))))) (bb (T9 v1) (oo (Bi .i64 v2) none fun x4=>(bb (nt (Bd x4 (0:Int))) (some (.tuple ⟨[(.pointer none),.int .i64 x4]⟩)) (ZR pu n n s1 (Int.ofNat (Sl.n s1)) (0:Int)))) none)) fun _ _=>none)))))
def m32 (pu:Af) (n:Nat) (args:LV):OV:=
 (ll args none fun a0 args=>(ll args none fun a1 args=>(ll args (oo (Bt a0) none fun l0=>(ll l0 none fun v0 l0=>(ll l0 none fun v1 l0=>(ll l0 none fun v2 l0=>(ll l0 none fun v3 l0=>(ll l0 (oo (Bi .i64 v0) none fun x0=>(oo (Bi .i64 v1) none fun x1=>(oo (Bi .i64 v2) none fun x2=>(oo (Bj 1 v3) none fun s0=>(oo (Bj 1 a1) none fun s1=>(Aec pu n x0 x1 x2 s0 s1)))))) fun _ _=>none)))))) fun _ _=>none)))
theorem Aed (pu:Af) (n n0:Nat) (q0:LV) {v:Value} (hm:WP pu n n0 q0=some v):BN tt (Bb tabs isP pu (inl pu)) 1 VU (fr 33 [(6,(Cv n0 q0))]) Ay (Fin tt 1 [.tmp 4,.tmp 5] v):=by
 unfold WP at hm
 refine .then (.rK (.ghs (fr 33 [(4,(Cv n0 q0)),(5,(zI (0:Int)))]) Ay (.k0 [false] [] [4,5]) ?_))
 refine .ret ?_
 exact AO (.tuple ⟨[(Cv n0 q0),(zI (0:Int))]⟩) hm
theorem Aee (pu:Af) (n:Nat) {v:Value} (hm:WQ pu n=some v):BN tt (Bb tabs isP pu (inl pu)) 1 VU (fr 33 [(6,(.pointer none))]) Ay (Fin tt 1 [.tmp 4,.tmp 5] v):=by
 unfold WQ at hm
 refine .then (.rK (.ghs (fr 33 [(4,(.pointer none)),(5,(zI (0:Int)))]) Ay (.k0 [false] [] [4,5]) ?_))
 refine .ret ?_
 exact AO (.tuple ⟨[(.pointer none),(zI (0:Int))]⟩) hm
theorem r32 {call:A8} (pu:Af) (n:Nat) (hcall:call=Bb tabs isP pu (inl pu)) {args:LV} {v:Value} (hm:m32 pu n args=some v) (_:∀ x∈args,closed2 x=true):args.length≤33∧BN tt call 1 R8 (Fr.made 33 args) (Ao tabs) (Fin tt 1 [.tmp 4,.tmp 5] v):=by
 subst hcall
 unfold m32 at hm
 replace hm:=Ad hm;obtain⟨a0,args_0,rfl,hm⟩:=hm
 replace hm:=Ad hm;obtain⟨a1,args_1,rfl,hm⟩:=hm
 replace hm:=AC hm;obtain⟨rfl,hm⟩:=hm
 replace hm:=BG hm;obtain⟨l0,rfl,hm⟩:=hm
 replace hm:=Ad hm;obtain⟨v0,l15385_0,rfl,hm⟩:=hm
 replace hm:=Ad hm;obtain⟨v1,l15385_1,rfl,hm⟩:=hm
 replace hm:=Ad hm;obtain⟨v2,l15385_2,rfl,hm⟩:=hm
 replace hm:=Ad hm;obtain⟨v3,l15385_3,rfl,hm⟩:=hm
 replace hm:=AC hm;obtain⟨rfl,hm⟩:=hm
 replace hm:=Ai hm;obtain⟨x0,rfl,hm⟩:=hm
 replace hm:=Ai hm;obtain⟨x1,rfl,hm⟩:=hm
 replace hm:=Ai hm;obtain⟨x2,rfl,hm⟩:=hm
 replace hm:=Al hm;obtain⟨s0,rfl,hm⟩:=hm
 replace hm:=Al hm;obtain⟨s1,rfl,hm⟩:=hm
 unfold Aec at hm
 refine⟨by simp,?_⟩
 refine .same (F':=(fr 33 [(0,(.agg ⟨[zI x0,zI x1,zI x2,Sl.v 1 s0]⟩)),(1,Sl.v 1 s1)])) (H':=Ay) (by kernel_rfl) (by kernel_rfl) ?_
 refine .then (.rK (.ghs (fr 33 [(1,Sl.v 1 s1),(2,pt 1 0)]) (hT 2 [(oC [zI x0,zI x1,zI x2,Sl.v 1 s0])]) (.k0 [false] [.tmp 2 false] [1,2]) ?_))
 refine .then ?_
 replace hm:=Ab hm;obtain⟨v4,h0,hm⟩:=hm
 replace hm:=Ch hm;obtain⟨l1,rfl,hm⟩:=hm
 replace hm:=Ad hm;obtain⟨v5,l15414_0,rfl,hm⟩:=hm
 replace hm:=Ad hm;obtain⟨v6,l15414_1,rfl,hm⟩:=hm
 replace hm:=AC hm;obtain⟨rfl,hm⟩:=hm
 replace hm:=Ag hm;rcases hm with⟨h1,hm⟩ | ⟨h1,hm⟩
 ·replace hm:=Ab hm;obtain⟨p0,h2,hm⟩:=hm
  obtain rfl:=F7 h2
  replace hm:=Ai hm;obtain⟨x3,rfl,hm⟩:=hm
  refine .reg (eC 1 ((oo (pu 49 [(.agg ⟨[zI x0,zI x1,zI x2,Sl.v 1 s0]⟩)]) none fun v=>some (v,(hT 2 [(oC [zI x0,zI x1,zI x2,Sl.v 1 s0])])))) (AB h0) (eE)) ?_
  refine .ghs (fr 33 [(1,Sl.v 1 s1),(6,(Cv (Db.off p0) (Db.cs p0))),(7,zI x3)]) Ay (.k0 [false] [] [1,6,7]) ?_
  refine .then (.then (.rK (.ghs (fr 33 [(1,Sl.v 1 s1),(6,(Cv (Db.off p0) (Db.cs p0))),(7,zI x3),(17,(zB (nt (Bd x3 (0:Int)))))]) Ay (.k0 [false] [] [1,6,7,17]) ?_)))
  replace hm:=Ag hm;rcases hm with⟨h3,hm⟩ | ⟨h3,hm⟩
  ·refine BI (nt (Bd x3 (0:Int))) h3 ?_
   refine .then (.rK (.ghs (fr 33 [(4,(.pointer none)),(5,zI x3)]) Ay (.k0 [false] [] [4,5]) ?_))
   refine .ret ?_
   exact AO (.tuple ⟨[(.pointer none),zI x3]⟩) hm
  ·refine BO (nt (Bd x3 (0:Int))) h3 ?_
   refine .skip (.ghs (fr 33 [(1,Sl.v 1 s1),(6,(Cv (Db.off p0) (Db.cs p0)))]) Ay (.k0 [false] [] [1,6]) ?_)
   refine .join (v:=v) (fun y:Nat×LV=>((fr 33 [(6,(Cv y.1 y.2))]),Ay)) (fun y=>WP pu n y.1 y.2) ?_ ?_
   ·rintro⟨n0,q0⟩ hm
    exact Aed pu n n0 q0 hm
   ·refine .then (.rK (.ghs (fr 33 [(6,(Cv (Db.off p0) (Db.cs p0))),(19,Sl.v 1 s1),(20,(zI (Int.ofNat (Sl.n s1)))),(21,(zI (0:Int)))]) Ay (.k0 [false] [] [6,19,20,21]) ?_))
    refine .block (.loopM (v:=v) (fun y:Nat×LV×Sl×Int×Int=>((fr 33 [(6,(Cv y.1 y.2.1)),(19,(Sl.v 1 y.2.2.1)),(20,(zI y.2.2.2.1)),(21,(zI y.2.2.2.2))]),Ay)) (fun w y=>K9 pu n w y.1 y.2.1 y.2.2.1 y.2.2.2.1 y.2.2.2.2) n ⟨((Db.off p0),(Db.cs p0),s1,(Int.ofNat (Sl.n s1)),(0:Int)),hm,(.k0 [false] [] [6,19,20,21])⟩ (fun _=>rfl) ?_)
    rintro w0 ⟨n1,q1,s2,z0,z1⟩ hm
    replace hm:O4 pu n (K9 pu n w0) n1 q1 s2 z0 z1=some v:=hm
    unfold O4 at hm
    refine .then (.rK (.ghs (fr 33 [(6,(Cv n1 q1)),(19,Sl.v 1 s2),(20,zI z0),(21,zI z1),(22,(zB (AY z1 z0)))]) Ay (.k0 [false] [] [6,19,20,21,22]) ?_))
    refine .then ?_
    replace hm:=Ag hm;rcases hm with⟨h4,hm⟩ | ⟨h4,hm⟩
    ·refine BI (AY z1 z0) h4 ?_
     refine .skip (.ghs (fr 33 [(6,(Cv n1 q1)),(19,Sl.v 1 s2),(20,zI z0),(21,zI z1)]) Ay (.k0 [false] [] [6,19,20,21]) ?_)
     refine .then (.block (.then ?_))
     replace hm:=Ab hm;obtain⟨k1,h5,hm⟩:=hm
     obtain rfl:=AR h5
     replace hm:=Ae hm;obtain⟨h6,hm⟩:=hm
     replace hm:=oS hm;obtain⟨s3,h7,hm⟩:=hm
     refine .reg (eD (keep Ay (bb (an (Nat.blt k1 (Sl.n s2)) true) (some (Cv (k1*1) (Sl.cs s2))) none)) (AX h6) (eD (keep Ay (AL (Sl.cs s2) (k1*1))) (AZ h7) (eE))) ?_
     refine .ghs (fr 33 [(6,(Cv n1 q1)),(9,Sl.v 1 s3),(19,Sl.v 1 s2),(20,zI z0),(21,(zI (Int.ofNat k1)))]) Ay (.k0 [false] [] [6,9,19,20,21]) ?_
     refine .then ?_
     replace hm:=oI hm;obtain⟨x4,h8,hm⟩:=hm
     refine .reg (eC 2 ((oo (pu 58 [(Cv n1 q1),Sl.v 1 s3]) none fun v=>some (v,Ay))) (AB h8) (eE)) ?_
     refine .ghs (fr 33 [(6,(Cv n1 q1)),(10,zI x4),(19,Sl.v 1 s2),(20,zI z0),(21,(zI (Int.ofNat k1)))]) Ay (.k0 [false] [] [6,10,19,20,21]) ?_
     refine .then (.rK (.ghs (fr 33 [(6,(Cv n1 q1)),(10,zI x4),(19,Sl.v 1 s2),(20,zI z0),(21,(zI (Int.ofNat k1))),(29,(zB (nt (Bd x4 (0:Int)))))]) Ay (.k0 [false] [] [6,10,19,20,21,29]) ?_))
     replace hm:=Ag hm;rcases hm with⟨h9,hm⟩ | ⟨h9,hm⟩
     ·refine BI (nt (Bd x4 (0:Int))) h9 ?_
      refine .then (.rK (.ghs (fr 33 [(4,(.pointer none)),(5,zI x4)]) Ay (.k0 [false] [] [4,5]) ?_))
      refine .ret ?_
      exact AO (.tuple ⟨[(.pointer none),zI x4]⟩) hm
     ·refine BO (nt (Bd x4 (0:Int))) h9 ?_
      refine .skip (.ghs (fr 33 [(6,(Cv n1 q1)),(19,Sl.v 1 s2),(20,zI z0),(21,(zI (Int.ofNat k1)))]) Ay (.k0 [false] [] [6,19,20,21]) ?_)
      refine .rK ?_
      exact⟨(n1,q1,s2,z0,(Aj .i64 (Int.add (Int.ofNat k1) (1:Int)))),hm,(.k0 [false] [] [6,19,20,21])⟩
    ·refine BO (AY z1 z0) h4 ?_
     refine .exit ?_
     exact⟨(n1,q1),hm,(.k0 [false] [] [6])⟩
 ·replace hm:=Ae hm;obtain⟨h10,hm⟩:=hm
  obtain rfl:=KR h10
  replace hm:=Ai hm;obtain⟨x5,rfl,hm⟩:=hm
  refine .reg (eC 1 ((oo (pu 49 [(.agg ⟨[zI x0,zI x1,zI x2,Sl.v 1 s0]⟩)]) none fun v=>some (v,(hT 2 [(oC [zI x0,zI x1,zI x2,Sl.v 1 s0])])))) (AB h0) (eE)) ?_
  refine .ghs (fr 33 [(1,Sl.v 1 s1),(6,(.pointer none)),(7,zI x5)]) Ay (.k0 [false] [] [1,6,7]) ?_
  refine .then (.then (.rK (.ghs (fr 33 [(1,Sl.v 1 s1),(6,(.pointer none)),(7,zI x5),(17,(zB (nt (Bd x5 (0:Int)))))]) Ay (.k0 [false] [] [1,6,7,17]) ?_)))
  replace hm:=Ag hm;rcases hm with⟨h11,hm⟩ | ⟨h11,hm⟩
  ·refine BI (nt (Bd x5 (0:Int))) h11 ?_
   refine .then (.rK (.ghs (fr 33 [(4,(.pointer none)),(5,zI x5)]) Ay (.k0 [false] [] [4,5]) ?_))
   refine .ret ?_
   exact AO (.tuple ⟨[(.pointer none),zI x5]⟩) hm
  ·refine BO (nt (Bd x5 (0:Int))) h11 ?_
   refine .skip (.ghs (fr 33 [(1,Sl.v 1 s1),(6,(.pointer none))]) Ay (.k0 [false] [] [1,6]) ?_)
   refine .join (v:=v) (fun y:Unit=>((fr 33 [(6,(.pointer none))]),Ay)) (fun y=>WQ pu n) ?_ ?_
   ·rintro _ hm
    exact Aee pu n hm
   ·refine .then (.rK (.ghs (fr 33 [(6,(.pointer none)),(19,Sl.v 1 s1),(20,(zI (Int.ofNat (Sl.n s1)))),(21,(zI (0:Int)))]) Ay (.k0 [false] [] [6,19,20,21]) ?_))
    refine .block (.loopM (v:=v) (fun y:Sl×Int×Int=>((fr 33 [(6,(.pointer none)),(19,(Sl.v 1 y.1)),(20,(zI y.2.1)),(21,(zI y.2.2))]),Ay)) (fun w y=>ZR pu n w y.1 y.2.1 y.2.2) n ⟨(s1,(Int.ofNat (Sl.n s1)),(0:Int)),hm,(.k0 [false] [] [6,19,20,21])⟩ (fun _=>rfl) ?_)
    rintro w0 ⟨s4,z2,z3⟩ hm
    replace hm:ZQ pu n (ZR pu n w0) s4 z2 z3=some v:=hm
    unfold ZQ at hm
    refine .then (.rK (.ghs (fr 33 [(6,(.pointer none)),(19,Sl.v 1 s4),(20,zI z2),(21,zI z3),(22,(zB (AY z3 z2)))]) Ay (.k0 [false] [] [6,19,20,21,22]) ?_))
    refine .then ?_
    replace hm:=Ag hm;rcases hm with⟨h12,hm⟩ | ⟨h12,hm⟩
    ·refine BI (AY z3 z2) h12 ?_
     refine .skip (.ghs (fr 33 [(6,(.pointer none)),(19,Sl.v 1 s4),(20,zI z2),(21,zI z3)]) Ay (.k0 [false] [] [6,19,20,21]) ?_)
     refine .then (.block (.then ?_))
     replace hm:=Ab hm;obtain⟨k2,h13,hm⟩:=hm
     obtain rfl:=AR h13
     replace hm:=Ae hm;obtain⟨h14,hm⟩:=hm
     replace hm:=oS hm;obtain⟨s5,h15,hm⟩:=hm
     refine .reg (eD (keep Ay (bb (an (Nat.blt k2 (Sl.n s4)) true) (some (Cv (k2*1) (Sl.cs s4))) none)) (AX h14) (eD (keep Ay (AL (Sl.cs s4) (k2*1))) (AZ h15) (eE))) ?_
     refine .ghs (fr 33 [(6,(.pointer none)),(9,Sl.v 1 s5),(19,Sl.v 1 s4),(20,zI z2),(21,(zI (Int.ofNat k2)))]) Ay (.k0 [false] [] [6,9,19,20,21]) ?_
     refine .then ?_
     replace hm:=oI hm;obtain⟨x6,h16,hm⟩:=hm
     refine .reg (eC 2 ((oo (pu 58 [(.pointer none),Sl.v 1 s5]) none fun v=>some (v,Ay))) (AB h16) (eE)) ?_
     refine .ghs (fr 33 [(6,(.pointer none)),(10,zI x6),(19,Sl.v 1 s4),(20,zI z2),(21,(zI (Int.ofNat k2)))]) Ay (.k0 [false] [] [6,10,19,20,21]) ?_
     refine .then (.rK (.ghs (fr 33 [(6,(.pointer none)),(10,zI x6),(19,Sl.v 1 s4),(20,zI z2),(21,(zI (Int.ofNat k2))),(29,(zB (nt (Bd x6 (0:Int)))))]) Ay (.k0 [false] [] [6,10,19,20,21,29]) ?_))
     replace hm:=Ag hm;rcases hm with⟨h17,hm⟩ | ⟨h17,hm⟩
     ·refine BI (nt (Bd x6 (0:Int))) h17 ?_
      refine .then (.rK (.ghs (fr 33 [(4,(.pointer none)),(5,zI x6)]) Ay (.k0 [false] [] [4,5]) ?_))
      refine .ret ?_
      exact AO (.tuple ⟨[(.pointer none),zI x6]⟩) hm
     ·refine BO (nt (Bd x6 (0:Int))) h17 ?_
      refine .skip (.ghs (fr 33 [(6,(.pointer none)),(19,Sl.v 1 s4),(20,zI z2),(21,(zI (Int.ofNat k2)))]) Ay (.k0 [false] [] [6,19,20,21]) ?_)
      refine .rK ?_
      exact⟨(s4,z2,(Aj .i64 (Int.add (Int.ofNat k2) (1:Int)))),hm,(.k0 [false] [] [6,19,20,21])⟩
    ·refine BO (AY z3 z2) h12 ?_
     refine .exit ?_
     exact⟨(),hm,(.k0 [false] [] [6])⟩
def WR (pu:Af) (n:Nat):OV:=
 (some (.int .i64 (-1:Int)))
def O5 (pu:Af) (n:Nat) (ih0:Sl→Int→Int→Int→OV) (s0:Sl) (z0 z1 z2:Int):OV:=
 (bb (AY z2 z1) (oo (EA z2) none fun k1=>(bb (an (Nat.blt k1 (Sl.n s0)) true) (oo (AL (Sl.cs s0) (k1*1)) none fun v0=>(oo (Bi .i64 v0) none fun x0=>(bb (Bd z0 x0) (some (.int .i64 (Int.ofNat k1))) (ih0 s0 z0 z1 (Aj .i64 (Int.add (Int.ofNat k1) (1:Int))))))) none)) (WR pu n))
def O6 (pu:Af) (n w:Nat):Sl→Int→Int→Int→OV:=
 Nat.rec (motive:=fun _=>Sl→Int→Int→Int→OV) (fun _ _ _ _=>none) (fun _ ih0=>O5 pu n ih0) w
def Aef (pu:Af) (n:Nat) (s0:Sl) (x0:Int):OV:=
 (O6 pu n n s0 x0 (Int.ofNat (Sl.n s0)) (0:Int))
def m33 (pu:Af) (n:Nat) (args:LV):OV:=
 (ll args none fun a0 args=>(ll args none fun a1 args=>(ll args (oo (Bj 1 a0) none fun s0=>(oo (Bi .i64 a1) none fun x0=>(Aef pu n s0 x0))) fun _ _=>none)))
theorem Aeh (pu:Af) (n:Nat) {v:Value} (hm:WR pu n=some v):BN tt (Bb tabs isP pu (inl pu)) 1 Yy (fr 19 []) Ay (Fin tt 1 [.tmp 4] v):=by
 unfold WR at hm
 refine .then (.rK (.ghs (fr 19 [(4,(zI (-1:Int)))]) Ay (.k0 [false] [] [4]) ?_))
 refine .ret ?_
 exact AO (zI (-1:Int)) hm
theorem r33 {call:A8} (pu:Af) (n:Nat) (hcall:call=Bb tabs isP pu (inl pu)) {args:LV} {v:Value} (hm:m33 pu n args=some v) (_:∀ x∈args,closed2 x=true):args.length≤19∧BN tt call 1 R9 (Fr.made 19 args) (Ao tabs) (Fin tt 1 [.tmp 4] v):=by
 subst hcall
 unfold m33 at hm
 replace hm:=Ad hm;obtain⟨a0,args_0,rfl,hm⟩:=hm
 replace hm:=Ad hm;obtain⟨a1,args_1,rfl,hm⟩:=hm
 replace hm:=AC hm;obtain⟨rfl,hm⟩:=hm
 replace hm:=Al hm;obtain⟨s0,rfl,hm⟩:=hm
 replace hm:=Ai hm;obtain⟨x0,rfl,hm⟩:=hm
 unfold Aef at hm
 refine⟨by simp,?_⟩
 refine .same (F':=(fr 19 [(0,Sl.v 1 s0),(1,zI x0)])) (H':=Ay) (by kernel_rfl) (by kernel_rfl) ?_
 refine .then (.rK (.ghs (fr 19 [(0,Sl.v 1 s0),(1,zI x0)]) Ay (.k0 [false] [] [0,1]) ?_))
 refine .join (v:=v) (fun y:Unit=>((fr 19 []),Ay)) (fun y=>WR pu n) ?_ ?_
 ·rintro _ hm
  exact Aeh pu n hm
 ·refine .then (.rK (.ghs (fr 19 [(0,Sl.v 1 s0),(1,zI x0),(7,(zI (Int.ofNat (Sl.n s0)))),(8,(zI (0:Int)))]) Ay (.k0 [false] [] [0,1,7,8]) ?_))
  refine .block (.loopM (v:=v) (fun y:Sl×Int×Int×Int=>((fr 19 [(0,(Sl.v 1 y.1)),(1,(zI y.2.1)),(7,(zI y.2.2.1)),(8,(zI y.2.2.2))]),Ay)) (fun w y=>O6 pu n w y.1 y.2.1 y.2.2.1 y.2.2.2) n ⟨(s0,x0,(Int.ofNat (Sl.n s0)),(0:Int)),hm,(.k0 [false] [] [0,1,7,8])⟩ (fun _=>rfl) ?_)
  rintro w0 ⟨s1,z0,z1,z2⟩ hm
  replace hm:O5 pu n (O6 pu n w0) s1 z0 z1 z2=some v:=hm
  unfold O5 at hm
  refine .then (.rK (.ghs (fr 19 [(0,Sl.v 1 s1),(1,zI z0),(7,zI z1),(8,zI z2),(9,(zB (AY z2 z1)))]) Ay (.k0 [false] [] [0,1,7,8,9]) ?_))
  refine .then ?_
  replace hm:=Ag hm;rcases hm with⟨h0,hm⟩ | ⟨h0,hm⟩
  ·refine BI (AY z2 z1) h0 ?_
   refine .skip (.ghs (fr 19 [(0,Sl.v 1 s1),(1,zI z0),(7,zI z1),(8,zI z2)]) Ay (.k0 [false] [] [0,1,7,8]) ?_)
   refine .then (.block (.then (.rK (.ghs (fr 19 [(0,Sl.v 1 s1),(1,zI z0),(5,zI z2),(7,zI z1),(8,zI z2)]) Ay (.k0 [false] [] [0,1,5,7,8]) ?_))))
   refine .then ?_
   replace hm:=Ab hm;obtain⟨k1,h1,hm⟩:=hm
   obtain rfl:=AR h1
   replace hm:=Ae hm;obtain⟨h2,hm⟩:=hm
   replace hm:=oI hm;obtain⟨x1,h3,hm⟩:=hm
   refine .reg (eC 3 (keep Ay (bb (an (Nat.blt k1 (Sl.n s1)) true) (some (Cv (k1*1) (Sl.cs s1))) none)) (AX h2) (eD (keep Ay (AL (Sl.cs s1) (k1*1))) (AZ h3) (eE))) ?_
   refine .ghs (fr 19 [(0,Sl.v 1 s1),(1,zI z0),(5,(zI (Int.ofNat k1))),(7,zI z1),(8,(zI (Int.ofNat k1))),(16,(zB (Bd z0 x1)))]) Ay (.k0 [false] [] [0,1,5,7,8,16]) ?_
   replace hm:=Ag hm;rcases hm with⟨h4,hm⟩ | ⟨h4,hm⟩
   ·refine BI (Bd z0 x1) h4 ?_
    refine .then (.rK (.ghs (fr 19 [(4,(zI (Int.ofNat k1)))]) Ay (.k0 [false] [] [4]) ?_))
    refine .ret ?_
    exact AO (zI (Int.ofNat k1)) hm
   ·refine BO (Bd z0 x1) h4 ?_
    refine .skip (.ghs (fr 19 [(0,Sl.v 1 s1),(1,zI z0),(7,zI z1),(8,(zI (Int.ofNat k1)))]) Ay (.k0 [false] [] [0,1,7,8]) ?_)
    refine .rK ?_
    exact⟨(s1,z0,z1,(Aj .i64 (Int.add (Int.ofNat k1) (1:Int)))),hm,(.k0 [false] [] [0,1,7,8])⟩
  ·refine BO (AY z2 z1) h0 ?_
   refine .exit ?_
   exact⟨(),hm,(.k0 [false] [] [])⟩
def WS (pu:Af) (n n0 c0:Nat) (q0:LV):OV:=
 (bb (Au Ah q0) (bb (an (Nat.ble (0+n0*1) (len q0)) (Au Ah (Aq (n0*1) (Am 0 q0)))) (some (Sl.v 1 (Sl.mk n0 0 (Aq (n0*1) (Am 0 q0))))) none) none)
def O7 (pu:Af) (n:Nat) (ih0:Sl→Nat→Nat→Sl→Int→Int→LV→OV) (s0:Sl) (n0 c0:Nat) (s1:Sl) (z0 z1:Int) (q0:LV):OV:=
 (bb (Au Ah q0) (bb (AY z1 z0) (oo (EA z1) none fun k1=>(bb (an (Nat.blt k1 (Sl.n s1)) true) (oo (AL (Sl.cs s1) (k1*1)) none fun v0=>(oo (Bi .i64 v0) none fun x0=>(oo (EA x0) none fun k2=>(bb (an (Nat.blt k2 (Sl.n s0)) true) (oo (AL (Sl.cs s0) (k2*1)) none fun v1=>(oo (Bi .i64 v1) none fun x1=>(bb (an (Nat.blt k1 n0) true) (bb (an (Nat.ble ((0+k1*1)+1) (len q0)) true) (bb (Au Ah (BM ([.int .i64 x1]:LV) (0+k1*1) q0)) (ih0 s0 n0 c0 s1 z0 (Aj .i64 (Int.add (Int.ofNat k1) (1:Int))) (BM ([.int .i64 x1]:LV) (0+k1*1) q0)) none) none) none))) none)))) none)) (WS pu n n0 c0 q0)) none)
def Ou (pu:Af) (n w:Nat):Sl→Nat→Nat→Sl→Int→Int→LV→OV:=
 Nat.rec (motive:=fun _=>Sl→Nat→Nat→Sl→Int→Int→LV→OV) (fun _ _ _ _ _ _ _=>none) (fun _ ih0=>O7 pu n ih0) w
def Aei (pu:Af) (n:Nat) (p0:Db) (s0:Sl) (x0:Int):OV:=
 (bb (an (Nat.ble (Sl.n s0) (Sl.n s0)) (an (Nat.ble ((Sl.n s0)*8) 1099511627776) (an (Nat.ble (Sl.n s0) 1099511627776) true))) (bb (Au Ah (AF ([(.int .i64 (0:Int))]:LV) (Sl.n s0))) (oo (AL (Db.cs p0) ((Db.off p0)+4)) none fun v0=>(oo (Bj 1 v0) none fun s1=>(oo (EA x0) none fun k1=>(bb (an (Nat.blt k1 (Sl.n s1)) true) (oo (AL (Sl.cs s1) (k1*1)) none fun v1=>(oo (Bj 1 v1) none fun s2=>(Ou pu n n s0 (Sl.n s0) (2*(Sl.n s0)+bb true 1 0) s2 (Int.ofNat (Sl.n s2)) (0:Int) (AF ([(.int .i64 (0:Int))]:LV) (Sl.n s0))))) none)))) none) none)
def m34 (pu:Af) (n:Nat) (args:LV):OV:=
 (ll args none fun a0 args=>(ll args none fun a1 args=>(ll args none fun a2 args=>(ll args (oo (Pv a0) none fun p0=>(oo (Bj 1 a1) none fun s0=>(oo (Bi .i64 a2) none fun x0=>(Aei pu n p0 s0 x0)))) fun _ _=>none))))
theorem Aek (pu:Af) (n n0 c0:Nat) (q0:LV) {v:Value} (hm:WS pu n n0 c0 q0=some v):BN tt (Bb tabs isP pu (inl pu)) 1 Yz (fr 35 [(7,sc 1 0 1 n0 c0)]) (hT 2 [oC q0]) (Fin tt 1 [.tmp 6] v):=by
 unfold WS at hm
 refine .then (.rK ?_)
 replace hm:=Ae hm;obtain⟨h0,hm⟩:=hm
 refine .ghs (fr 35 [(6,sc 1 0 1 n0 c0)]) (hT 2 [oC q0]) (.k [1] [false] [.tmp 6 false] [6] ⟨A7 h0,trivial⟩) ?_
 replace hm:=Ae hm;obtain⟨h1,hm⟩:=hm
 refine .ghs (Fr.puts (fr 35 [(6,sc 1 0 1 n0 c0)]) [(6,(Sl.v 1 (Sl.mk n0 0 (Aq (n0*1) (Am 0 q0)))))]) (hT 2 [.dead]) (.freezeC 1 6 1 (an (Nat.ble (0+n0*1) (len q0)) (Au Ah (Aq (n0*1) (Am 0 q0)))) (F1:=(Fr.puts (fr 35 [(6,sc 1 0 1 n0 c0)]) [(6,(Sl.v 1 (Sl.mk n0 0 (Aq (n0*1) (Am 0 q0)))))])) (H1:=(hT 2 [.dead])) (by kernel_rfl) (by kernel_rfl) h1 (E9.id _ _)) ?_
 refine .ret ?_
 exact AO (Sl.v 1 (Sl.mk n0 0 (Aq (n0*1) (Am 0 q0)))) hm
theorem r34 {call:A8} (pu:Af) (n:Nat) (hcall:call=Bb tabs isP pu (inl pu)) {args:LV} {v:Value} (hm:m34 pu n args=some v) (_:∀ x∈args,closed2 x=true):args.length≤35∧BN tt call 1 Sa (Fr.made 35 args) (Ao tabs) (Fin tt 1 [.tmp 6] v):=by
 subst hcall
 unfold m34 at hm
 replace hm:=Ad hm;obtain⟨a0,args_0,rfl,hm⟩:=hm
 replace hm:=Ad hm;obtain⟨a1,args_1,rfl,hm⟩:=hm
 replace hm:=Ad hm;obtain⟨a2,args_2,rfl,hm⟩:=hm
 replace hm:=AC hm;obtain⟨rfl,hm⟩:=hm
 replace hm:=Ab hm;obtain⟨p0,h0,hm⟩:=hm
 obtain rfl:=F7 h0
 replace hm:=Al hm;obtain⟨s0,rfl,hm⟩:=hm
 replace hm:=Ai hm;obtain⟨x0,rfl,hm⟩:=hm
 unfold Aei at hm
 refine⟨by simp,?_⟩
 refine .same (F':=(fr 35 [(0,(Cv (Db.off p0) (Db.cs p0))),(1,Sl.v 1 s0),(2,zI x0)])) (H':=Ay) (by kernel_rfl) (by kernel_rfl) ?_
 refine .then (.rK (.ghs (fr 35 [(0,(Cv (Db.off p0) (Db.cs p0))),(1,Sl.v 1 s0),(2,zI x0)]) Ay (.k0 [false] [] [0,1,2]) ?_))
 refine .then ?_
 replace hm:=Ae hm;obtain⟨h1,hm⟩:=hm
 refine .reg (eC 2 (bb (an (Nat.ble (Sl.n s0) (Sl.n s0)) (an (Nat.ble ((Sl.n s0)*8) 1099511627776) (an (Nat.ble (Sl.n s0) 1099511627776) true))) (some ((sc 1 0 1 (Sl.n s0) (2*(Sl.n s0)+bb true 1 0)),(hT 2 [(oC (AF ([(zI (0:Int))]:LV) (Sl.n s0)))]))) none) (kH h1) (eE)) ?_
 replace hm:=Ae hm;obtain⟨h2,hm⟩:=hm
 refine .ghs (fr 35 [(0,(Cv (Db.off p0) (Db.cs p0))),(1,Sl.v 1 s0),(2,zI x0),(7,(sc 1 0 1 (Sl.n s0) (2*(Sl.n s0)+bb true 1 0)))]) (hT 2 [(oC (AF ([(zI (0:Int))]:LV) (Sl.n s0)))]) (.k [1] [false] [.tmp 7 false] [0,1,2,7] ⟨A7 h2,trivial⟩) ?_
 refine .join (v:=v) (fun y:Nat×Nat×LV=>((fr 35 [(7,(sc 1 0 1 y.1 y.2.1))]),(hT 2 [(oC y.2.2)]))) (fun y=>WS pu n y.1 y.2.1 y.2.2) ?_ ?_
 ·rintro⟨n0,c0,q0⟩ hm
  exact Aek pu n n0 c0 q0 hm
 ·refine .then ?_
  replace hm:=oS hm;obtain⟨s1,h3,hm⟩:=hm
  replace hm:=Ab hm;obtain⟨k1,h4,hm⟩:=hm
  obtain rfl:=AR h4
  replace hm:=Ae hm;obtain⟨h5,hm⟩:=hm
  replace hm:=oS hm;obtain⟨s2,h6,hm⟩:=hm
  refine .reg (eC 3 (keep (hT 2 [(oC (AF ([(zI (0:Int))]:LV) (Sl.n s0)))]) (AL (Db.cs p0) ((Db.off p0)+4))) (AZ h3) (eC 1 (keep (hT 2 [(oC (AF ([(zI (0:Int))]:LV) (Sl.n s0)))]) (bb (an (Nat.blt k1 (Sl.n s1)) true) (some (Cv (k1*1) (Sl.cs s1))) none)) (AX h5) (eD (keep (hT 2 [(oC (AF ([(zI (0:Int))]:LV) (Sl.n s0)))]) (AL (Sl.cs s1) (k1*1))) (AZ h6) (eE)))) ?_
  refine .ghs (fr 35 [(1,Sl.v 1 s0),(7,(sc 1 0 1 (Sl.n s0) (2*(Sl.n s0)+bb true 1 0))),(19,Sl.v 1 s2),(20,(zI (Int.ofNat (Sl.n s2)))),(21,(zI (0:Int)))]) (hT 2 [(oC (AF ([(zI (0:Int))]:LV) (Sl.n s0)))]) (.k [1] [false] [.tmp 7 false] [1,7,19,20,21] ⟨A7 h2,trivial⟩) ?_
  refine .block (.loopM (v:=v) (fun y:Sl×Nat×Nat×Sl×Int×Int×LV=>((fr 35 [(1,(Sl.v 1 y.1)),(7,(sc 1 0 1 y.2.1 y.2.2.1)),(19,(Sl.v 1 y.2.2.2.1)),(20,(zI y.2.2.2.2.1)),(21,(zI y.2.2.2.2.2.1))]),(hT 2 [(oC y.2.2.2.2.2.2)]))) (fun w y=>Ou pu n w y.1 y.2.1 y.2.2.1 y.2.2.2.1 y.2.2.2.2.1 y.2.2.2.2.2.1 y.2.2.2.2.2.2) n ⟨(s0,(Sl.n s0),(2*(Sl.n s0)+bb true 1 0),s2,(Int.ofNat (Sl.n s2)),(0:Int),(AF ([(zI (0:Int))]:LV) (Sl.n s0))),hm,(.k [1] [false] [.tmp 7 false] [1,7,19,20,21] ⟨A7 h2,trivial⟩)⟩ (fun _=>rfl) ?_)
  rintro w0 ⟨s3,n1,c1,s4,z0,z1,q1⟩ hm
  replace hm:O7 pu n (Ou pu n w0) s3 n1 c1 s4 z0 z1 q1=some v:=hm
  unfold O7 at hm
  refine .then (.rK ?_)
  replace hm:=Ae hm;obtain⟨h7,hm⟩:=hm
  refine .ghs (fr 35 [(1,Sl.v 1 s3),(7,sc 1 0 1 n1 c1),(19,Sl.v 1 s4),(20,zI z0),(21,zI z1),(22,(zB (AY z1 z0)))]) (hT 2 [oC q1]) (.k [1] [false] [.tmp 7 false] [1,7,19,20,21,22] ⟨A7 h7,trivial⟩) ?_
  refine .then ?_
  replace hm:=Ag hm;rcases hm with⟨h8,hm⟩ | ⟨h8,hm⟩
  ·refine BI (AY z1 z0) h8 ?_
   refine .skip (.ghs (fr 35 [(1,Sl.v 1 s3),(7,sc 1 0 1 n1 c1),(19,Sl.v 1 s4),(20,zI z0),(21,zI z1)]) (hT 2 [oC q1]) (.k [1] [false] [.tmp 7 false] [1,7,19,20,21] ⟨A7 h7,trivial⟩) ?_)
   refine .then (.block (.then ?_))
   replace hm:=Ab hm;obtain⟨k2,h9,hm⟩:=hm
   obtain rfl:=AR h9
   replace hm:=Ae hm;obtain⟨h10,hm⟩:=hm
   replace hm:=oI hm;obtain⟨x1,h11,hm⟩:=hm
   refine .reg (eC 1 (keep (hT 2 [oC q1]) (bb (an (Nat.blt k2 (Sl.n s4)) true) (some (Cv (k2*1) (Sl.cs s4))) none)) (AX h10) (eD (keep (hT 2 [oC q1]) (AL (Sl.cs s4) (k2*1))) (AZ h11) (eE))) ?_
   refine .ghs (fr 35 [(1,Sl.v 1 s3),(7,sc 1 0 1 n1 c1),(8,(zI (Int.ofNat k2))),(9,zI x1),(19,Sl.v 1 s4),(20,zI z0),(21,(zI (Int.ofNat k2)))]) (hT 2 [oC q1]) (.k [1] [false] [.tmp 7 false] [1,7,8,9,19,20,21] ⟨A7 h7,trivial⟩) ?_
   replace hm:=Ab hm;obtain⟨k3,h12,hm⟩:=hm
   obtain rfl:=AR h12
   replace hm:=Ae hm;obtain⟨h13,hm⟩:=hm
   replace hm:=oI hm;obtain⟨x2,h14,hm⟩:=hm
   replace hm:=Ae hm;obtain⟨h15,hm⟩:=hm
   replace hm:=Ae hm;obtain⟨h16,hm⟩:=hm
   refine .reg (eC 4 (keep (hT 2 [oC q1]) (bb (an (Nat.blt k3 (Sl.n s3)) true) (some (Cv (k3*1) (Sl.cs s3))) none)) (AX h13) (eD (keep (hT 2 [oC q1]) (AL (Sl.cs s3) (k3*1))) (AZ h14) (eD (keep (hT 2 [oC q1]) (bb (an (Nat.blt k2 n1) true) (some (.pointer (some ⟨1,(0+k2*1),none⟩))) none)) (AX h15) (eD (done (bb (an (Nat.ble ((0+k2*1)+1) (len q1)) true) (some (hT 2 [(oC (BM ([zI x2]:LV) (0+k2*1) q1))])) none) undef) (Js h16) (eE))))) ?_
   replace hm:=Ae hm;obtain⟨h17,hm⟩:=hm
   refine .ghs (fr 35 [(1,Sl.v 1 s3),(7,sc 1 0 1 n1 c1),(19,Sl.v 1 s4),(20,zI z0),(21,(zI (Int.ofNat k2)))]) (hT 2 [(oC (BM ([zI x2]:LV) (0+k2*1) q1))]) (.k [1] [false] [.tmp 7 false] [1,7,19,20,21] ⟨A7 h17,trivial⟩) ?_
   refine .rK ?_
   exact⟨(s3,n1,c1,s4,z0,(Aj .i64 (Int.add (Int.ofNat k2) (1:Int))),(BM ([zI x2]:LV) (0+k2*1) q1)),hm,(.k [1] [false] [.tmp 7 false] [1,7,19,20,21] ⟨A7 h17,trivial⟩)⟩
  ·refine BO (AY z1 z0) h8 ?_
   refine .exit ?_
   exact⟨(n1,c1,q1),hm,(.k [1] [false] [.tmp 7 false] [7] ⟨A7 h7,trivial⟩)⟩
def QJ (pu:Af) (n n0 c0:Nat) (q0:LV):OV:=
 (bb (Dp (Nat.ble 2 c0) (MQ q0)) (bb (Au Ah q0) (oo (pu 10590 [(.slice (some ⟨1,0,some 1⟩) n0 c0),(.func (.func 45) ⟨[]⟩ ⟨[]⟩),(.agg ⟨q0⟩)]) none fun v0=>(oo (CQ v0) none fun l0=>(ll l0 none fun v1 l0=>(ll l0 none fun v2 l0=>(ll l0 (bb (MC v1) (oo (Bt v2) none fun q1=>(bb (Au Ah q1) (bb (Au Ah q1) (bb (Dp (Nat.ble 2 c0) (MQ q1)) (bb (Au Ah q1) (oo (pu 10600 [(.slice (some ⟨1,0,some 1⟩) n0 c0),(.func (.func 37) ⟨[]⟩ ⟨[]⟩),(.agg ⟨q1⟩)]) none fun v3=>(oo (CQ v3) none fun l1=>(ll l1 none fun v4 l1=>(ll l1 none fun v5 l1=>(ll l1 (oo (KP 1 0 1 v4) none fun y0=>(oo (Bt v5) none fun q2=>(bb (Au Ah q2) (bb (Au Ah q2) (bb (an (Nat.ble (0+(NC.n y0)*1) (len q2)) (Au Ah (Aq ((NC.n y0)*1) (Am 0 q2)))) (some (Sl.v 1 (Sl.mk (NC.n y0) 0 (Aq ((NC.n y0)*1) (Am 0 q2))))) none) none) none))) fun _ _=>none))))) none) none) none) none)) none) fun _ _=>none))))) none) none)
def O8 (pu:Af) (n:Nat) (ih0:Nat→LV→Sl→Nat→Nat→Int→Int→LV→OV) (n0:Nat) (q0:LV) (s0:Sl) (n1 c0:Nat) (z0 z1:Int) (q1:LV):OV:=
 (bb (Au Ah q1) (bb (AY z1 z0) (oo (pu 34 [(Cv n0 q0),Sl.v 1 s0,.int .i64 z1]) none fun v0=>(oo (Bj 1 v0) none fun s1=>(bb (GV 1 24 n1 c0 1 q1) (bb (Au Ah (Br (Am 0 q1) [Sl.v 1 s1])) (ih0 n0 q0 s0 (n1+1) (2*(n1+1)+bb false 1 0) z0 (Aj .i64 (Int.add z1 (1:Int))) (Br (Am 0 q1) [Sl.v 1 s1])) none) none))) (QJ pu n n1 c0 q1)) none)
def O9 (pu:Af) (n w:Nat):Nat→LV→Sl→Nat→Nat→Int→Int→LV→OV:=
 Nat.rec (motive:=fun _=>Nat→LV→Sl→Nat→Nat→Int→Int→LV→OV) (fun _ _ _ _ _ _ _ _=>none) (fun _ ih0=>O8 pu n ih0) w
def Ael (pu:Af) (n:Nat) (p0:Db) (s0:Sl):OV:=
 (oo (AL (Db.cs p0) (((Db.off p0)+0)+3)) none fun v0=>(oo (Bj 1 v0) none fun s1=>(O9 pu n n (Db.off p0) (Db.cs p0) s0 0 0 (Int.ofNat (Sl.n s1)) (0:Int) ([]:LV))))
def m35 (pu:Af) (n:Nat) (args:LV):OV:=
 (ll args none fun a0 args=>(ll args none fun a1 args=>(ll args (oo (Pv a0) none fun p0=>(oo (Bj 1 a1) none fun s0=>(Ael pu n p0 s0))) fun _ _=>none)))
theorem Aen (pu:Af) (n n0 c0:Nat) (q0:LV) {v:Value} (hm:QJ pu n n0 c0 q0=some v):BN tt (Bb tabs isP pu (inl pu)) 1 YA (fr 28 [(5,sc 1 0 1 n0 c0)]) (hT 2 [oC q0]) (Fin tt 1 [.tmp 4] v):=by
 unfold QJ at hm
 refine .then ?_
 replace hm:=Ae hm;obtain⟨h0,hm⟩:=hm
 replace hm:=Ae hm;obtain⟨h1,hm⟩:=hm
 replace hm:=Ab hm;obtain⟨v0,h2,hm⟩:=hm
 replace hm:=Ch hm;obtain⟨l0,rfl,hm⟩:=hm
 replace hm:=Ad hm;obtain⟨v1,l16631_0,rfl,hm⟩:=hm
 replace hm:=Ad hm;obtain⟨v2,l16631_1,rfl,hm⟩:=hm
 replace hm:=AC hm;obtain⟨rfl,hm⟩:=hm
 replace hm:=Ae hm;obtain⟨h3,hm⟩:=hm
 obtain rfl:=Oo h3
 replace hm:=BG hm;obtain⟨q1,rfl,hm⟩:=hm
 replace hm:=Ae hm;obtain⟨h4,hm⟩:=hm
 refine .reg (eC 1 (EK tabs [[none],[none]] 2 [.tmp 0 false] [false] (pu 10590) [sc 1 0 1 n0 c0,(.func (.func 45) ⟨[]⟩ ⟨[]⟩)] (hT 2 [oC q0])) (EL (as:=[sc 1 0 1 n0 c0,(.func (.func 45) ⟨[]⟩ ⟨[]⟩)]) (H1:=(hT 2 [oC q0])) (BS (Dm Dk) (BS (Dm Dk) Gj)) (EI (H2:=(hT 2 [oC q1])) (v:=(.tuple ⟨[]⟩)) (v':=(.tuple ⟨[]⟩)) [some 0,some 1] [(false,some 1)] [oC q0] [sc 1 0 1 n0 c0,(.func (.func 45) ⟨[]⟩ ⟨[]⟩)] [(.agg ⟨q1⟩)] [oC q1] [some 0,some 1] [(false,oC q1)] [oC q1] (trE (by kernel_rfl) (XX h0 rfl)) (En (Nb (anc:=[]) h1) BX) (Eq.trans (by kernel_rfl) h2) (En rfl BX) (En (KO h4) BX))) (eE)) ?_
 replace hm:=Ae hm;obtain⟨h5,hm⟩:=hm
 refine .ghs (fr 28 [(5,sc 1 0 1 n0 c0)]) (hT 2 [oC q1]) (.k [1] [false] [.tmp 5 false] [5] ⟨A7 h5,trivial⟩) ?_
 refine .then ?_
 replace hm:=Ae hm;obtain⟨h6,hm⟩:=hm
 replace hm:=Ae hm;obtain⟨h7,hm⟩:=hm
 replace hm:=Ab hm;obtain⟨v3,h8,hm⟩:=hm
 replace hm:=Ch hm;obtain⟨l1,rfl,hm⟩:=hm
 replace hm:=Ad hm;obtain⟨v4,l22270_0,rfl,hm⟩:=hm
 replace hm:=Ad hm;obtain⟨v5,l22270_1,rfl,hm⟩:=hm
 replace hm:=AC hm;obtain⟨rfl,hm⟩:=hm
 replace hm:=Ab hm;obtain⟨y0,h9,hm⟩:=hm
 obtain rfl:=F5 h9
 replace hm:=BG hm;obtain⟨q2,rfl,hm⟩:=hm
 replace hm:=Ae hm;obtain⟨h10,hm⟩:=hm
 refine .reg (eC 1 (EK tabs [[none],[none]] 2 [.tmp 0 false] [false] (pu 10600) [sc 1 0 1 n0 c0,(.func (.func 37) ⟨[]⟩ ⟨[]⟩)] (hT 2 [oC q1])) (EL (as:=[sc 1 0 1 n0 c0,(.func (.func 37) ⟨[]⟩ ⟨[]⟩)]) (H1:=(hT 2 [oC q1])) (BS (Dm Dk) (BS (Dm Dk) Gj)) (EI (H2:=(hT 2 [oC q2])) (v:=(sc 1 0 1 (NC.n y0) (NC.c y0))) (v':=(sc 1 0 1 (NC.n y0) (NC.c y0))) [some 0,some 1] [(false,some 1)] [oC q1] [sc 1 0 1 n0 c0,(.func (.func 37) ⟨[]⟩ ⟨[]⟩)] [(.agg ⟨q2⟩)] [oC q2] [some 0,some 1] [(false,oC q2)] [oC q2] (trE (by kernel_rfl) (XX h6 rfl)) (En (Nb (anc:=[]) h7) BX) (Eq.trans (by kernel_rfl) h8) (En rfl BX) (En (KO h10) BX))) (eE)) ?_
 replace hm:=Ae hm;obtain⟨h11,hm⟩:=hm
 refine .ghs (fr 28 [(4,(sc 1 0 1 (NC.n y0) (NC.c y0)))]) (hT 2 [oC q2]) (.k [1] [false] [.tmp 4 false] [4] ⟨A7 h11,trivial⟩) ?_
 replace hm:=Ae hm;obtain⟨h12,hm⟩:=hm
 refine .ghs (Fr.puts (fr 28 [(4,(sc 1 0 1 (NC.n y0) (NC.c y0)))]) [(4,(Sl.v 1 (Sl.mk (NC.n y0) 0 (Aq ((NC.n y0)*1) (Am 0 q2)))))]) (hT 2 [.dead]) (.freezeC 1 4 1 (an (Nat.ble (0+(NC.n y0)*1) (len q2)) (Au Ah (Aq ((NC.n y0)*1) (Am 0 q2)))) (F1:=(Fr.puts (fr 28 [(4,(sc 1 0 1 (NC.n y0) (NC.c y0)))]) [(4,(Sl.v 1 (Sl.mk (NC.n y0) 0 (Aq ((NC.n y0)*1) (Am 0 q2)))))])) (H1:=(hT 2 [.dead])) (by kernel_rfl) (by kernel_rfl) h12 (E9.id _ _)) ?_
 refine .ret ?_
 exact AO (Sl.v 1 (Sl.mk (NC.n y0) 0 (Aq ((NC.n y0)*1) (Am 0 q2)))) hm
theorem r35 {call:A8} (pu:Af) (n:Nat) (hcall:call=Bb tabs isP pu (inl pu)) {args:LV} {v:Value} (hm:m35 pu n args=some v) (_:∀ x∈args,closed2 x=true):args.length≤28∧BN tt call 1 Sb (Fr.made 28 args) (Ao tabs) (Fin tt 1 [.tmp 4] v):=by
 subst hcall
 unfold m35 at hm
 replace hm:=Ad hm;obtain⟨a0,args_0,rfl,hm⟩:=hm
 replace hm:=Ad hm;obtain⟨a1,args_1,rfl,hm⟩:=hm
 replace hm:=AC hm;obtain⟨rfl,hm⟩:=hm
 replace hm:=Ab hm;obtain⟨p0,h0,hm⟩:=hm
 obtain rfl:=F7 h0
 replace hm:=Al hm;obtain⟨s0,rfl,hm⟩:=hm
 unfold Ael at hm
 refine⟨by simp,?_⟩
 refine .same (F':=(fr 28 [(0,(Cv (Db.off p0) (Db.cs p0))),(1,Sl.v 1 s0)])) (H':=Ay) (by kernel_rfl) (by kernel_rfl) ?_
 refine .then (.rK (.ghs (fr 28 [(0,(Cv (Db.off p0) (Db.cs p0))),(1,Sl.v 1 s0)]) Ay (.k0 [false] [] [0,1]) ?_))
 refine .then (.rK (.ghs (fr 28 [(0,(Cv (Db.off p0) (Db.cs p0))),(1,Sl.v 1 s0),(5,(.slice none 0 0))]) Ay (.k0 [false] [] [0,1,5]) ?_))
 refine .join (v:=v) (fun y:Nat×Nat×LV=>((fr 28 [(5,(sc 1 0 1 y.1 y.2.1))]),(hT 2 [(oC y.2.2)]))) (fun y=>QJ pu n y.1 y.2.1 y.2.2) ?_ ?_
 ·rintro⟨n0,c0,q0⟩ hm
  exact Aen pu n n0 c0 q0 hm
 ·refine .then ?_
  replace hm:=oS hm;obtain⟨s1,h1,hm⟩:=hm
  refine .reg (eC 4 (keep Ay (AL (Db.cs p0) (((Db.off p0)+0)+3))) (AZ h1) (eE)) ?_
  refine .ghs (fr 28 [(0,(Cv (Db.off p0) (Db.cs p0))),(1,Sl.v 1 s0),(5,(.slice none 0 0)),(12,(zI (Int.ofNat (Sl.n s1)))),(13,(zI (0:Int)))]) Ay (.k0 [false] [] [0,1,5,12,13]) ?_
  refine .block (.loopM (v:=v) (fun y:Nat×LV×Sl×Nat×Nat×Int×Int×LV=>((fr 28 [(0,(Cv y.1 y.2.1)),(1,(Sl.v 1 y.2.2.1)),(5,(sc 1 0 1 y.2.2.2.1 y.2.2.2.2.1)),(12,(zI y.2.2.2.2.2.1)),(13,(zI y.2.2.2.2.2.2.1))]),(hT 2 [(oC y.2.2.2.2.2.2.2)]))) (fun w y=>O9 pu n w y.1 y.2.1 y.2.2.1 y.2.2.2.1 y.2.2.2.2.1 y.2.2.2.2.2.1 y.2.2.2.2.2.2.1 y.2.2.2.2.2.2.2) n ⟨((Db.off p0),(Db.cs p0),s0,0,0,(Int.ofNat (Sl.n s1)),(0:Int),([]:LV)),hm,(.thaw 5 1 (by kernel_rfl) (.k0 [false] [.tmp 5 false] [0,1,5,12,13]))⟩ (fun _=>rfl) ?_)
  rintro w0 ⟨n1,q1,s2,n2,c1,z0,z1,q2⟩ hm
  replace hm:O8 pu n (O9 pu n w0) n1 q1 s2 n2 c1 z0 z1 q2=some v:=hm
  unfold O8 at hm
  refine .then (.rK ?_)
  replace hm:=Ae hm;obtain⟨h2,hm⟩:=hm
  refine .ghs (fr 28 [(0,(Cv n1 q1)),(1,Sl.v 1 s2),(5,sc 1 0 1 n2 c1),(12,zI z0),(13,zI z1),(14,(zB (AY z1 z0)))]) (hT 2 [oC q2]) (.k [1] [false] [.tmp 5 false] [0,1,5,12,13,14] ⟨A7 h2,trivial⟩) ?_
  refine .then ?_
  replace hm:=Ag hm;rcases hm with⟨h3,hm⟩ | ⟨h3,hm⟩
  ·refine BI (AY z1 z0) h3 ?_
   refine .skip (.ghs (fr 28 [(0,(Cv n1 q1)),(1,Sl.v 1 s2),(5,sc 1 0 1 n2 c1),(12,zI z0),(13,zI z1)]) (hT 2 [oC q2]) (.k [1] [false] [.tmp 5 false] [0,1,5,12,13] ⟨A7 h2,trivial⟩) ?_)
   refine .then (.block (.then (.rK (.ghs (fr 28 [(0,(Cv n1 q1)),(1,Sl.v 1 s2),(5,sc 1 0 1 n2 c1),(6,zI z1),(12,zI z0),(13,zI z1)]) (hT 2 [oC q2]) (.k [1] [false] [.tmp 5 false] [0,1,5,6,12,13] ⟨A7 h2,trivial⟩) ?_))))
   replace hm:=oS hm;obtain⟨s3,h4,hm⟩:=hm
   replace hm:=Ae hm;obtain⟨h5,hm⟩:=hm
   refine .reg (eC 4 ((oo (pu 34 [(Cv n1 q1),Sl.v 1 s2,zI z1]) none fun v=>some (v,(hT 2 [oC q2])))) (AB h4) (eC 1 (Oc 1 24 n2 c1 1 1 q2 [Sl.v 1 s3] [] (hT 3 [oC q2,(oC [Sl.v 1 s3])])) (I1 h5) (eE))) ?_
   replace hm:=Ae hm;obtain⟨h6,hm⟩:=hm
   refine .ghs (fr 28 [(0,(Cv n1 q1)),(1,Sl.v 1 s2),(5,(sc 1 0 1 (n2+1) (d2 (n2+1)))),(12,zI z0),(13,zI z1)]) (hT 2 [(oC (Br (Am 0 q2) [Sl.v 1 s3]))]) (.k [3] [false] [.tmp 5 false] [0,1,5,12,13] ⟨A7 h6,trivial⟩) ?_
   refine .rK ?_
   exact⟨(n1,q1,s2,(n2+1),(d2 (n2+1)),z0,(Aj .i64 (Int.add z1 (1:Int))),(Br (Am 0 q2) [Sl.v 1 s3])),hm,(.k [1] [false] [.tmp 5 false] [0,1,5,12,13] ⟨A7 h6,trivial⟩)⟩
  ·refine BO (AY z1 z0) h3 ?_
   refine .exit ?_
   exact⟨(n2,c1,q2),hm,(.k [1] [false] [.tmp 5 false] [5] ⟨A7 h2,trivial⟩)⟩
end
end Go.BkOM
