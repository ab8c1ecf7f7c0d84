/- Made from wip. -/
import Derived.Test.YtokbaaeimejjlaaDoorBkSMod1x

set_option maxRecDepth 100000
set_option maxHeartbeats 20000000
set_option linter.unusedVariables false
namespace Go.BkSM
open Go.Sp Go.BkS
noncomputable section

def Acs (pu:Af) (n:Nat) (s0:Sl):OV:=
 (some (Sl.v 1 s0))
def m22 (pu:Af) (n:Nat) (args:LV):OV:=
 (ll args none fun a0 args=>(ll args (oo (Bj 1 a0) none fun s0=>(Acs pu n s0)) fun _ _=>none))
theorem r22 {call:A8} (pu:Af) (n:Nat) (hcall:call=Bb tabs isP pu (inl pu)) {args:LV} {v:Value} (hm:m22 pu n args=some v) (_:∀ x∈args,closed2 x=true):args.length≤4∧BN tt call 1 UJ (Fr.made 4 args) (Ao tabs) (Fin tt 1 [.tmp 2] v):=by
 subst hcall
 unfold m22 at hm
 replace hm:=Ad hm;obtain⟨a0,args_0,rfl,hm⟩:=hm
 replace hm:=AC hm;obtain⟨rfl,hm⟩:=hm
 replace hm:=Al hm;obtain⟨s0,rfl,hm⟩:=hm
 unfold Acs at hm
 refine⟨by simp,?_⟩
 refine .same (F':=(fr 4 [(0,Sl.v 1 s0)])) (H':=Ay) (by kernel_rfl) (by kernel_rfl) ?_
 refine .then (.rK (.ghs (fr 4 [(0,Sl.v 1 s0)]) Ay (.k0 [false] [] [0]) ?_))
 refine .then (.rK (.ghs (fr 4 [(2,Sl.v 1 s0)]) Ay (.k0 [false] [] [2]) ?_))
 refine .ret ?_
 exact A7 (Sl.v 1 s0) hm
def UY (pu:Af) (n n0:Nat) (q0:LV):OV:=
 (some (.tuple ⟨[(Cv n0 q0),(.int .i64 (0:Int))]⟩))
def OA (pu:Af) (n:Nat) (ih0:Nat→LV→Sl→Int→Int→OV) (n0:Nat) (q0:LV) (s0:Sl) (z0 z1:Int):OV:=
 (bb (AY z1 z0) (oo (EA z1) none fun k1=>(bb (an (Nat.blt k1 (Sl.n s0)) true) (oo (AL (Sl.cs s0) (k1*1)) none fun v0=>(oo (Bj 1 v0) none fun s1=>(oo (pu 58 [(Cv n0 q0),Sl.v 1 s1]) none fun v1=>(oo (Bi .i64 v1) none fun x0=>(bb (nt (Bd x0 (0:Int))) (some (.tuple ⟨[(.pointer none),.int .i64 x0]⟩)) (ih0 n0 q0 s0 z0 (Aj .i64 (Int.add (Int.ofNat k1) (1:Int))))))))) none)) (UY pu n n0 q0))
def Kh (pu:Af) (n w:Nat):Nat→LV→Sl→Int→Int→OV:=
 Nat.rec (motive:=fun _=>Nat→LV→Sl→Int→Int→OV) (fun _ _ _ _ _=>none) (fun _ ih0=>OA pu n ih0) w
def UZ (pu:Af) (n:Nat):OV:=
 (some (.tuple ⟨[(.pointer none),(.int .i64 (0:Int))]⟩))
def Yi (pu:Af) (n:Nat) (ih0:Sl→Int→Int→OV) (s0:Sl) (z0 z1:Int):OV:=
 (bb (AY z1 z0) (oo (EA z1) none fun k1=>(bb (an (Nat.blt k1 (Sl.n s0)) true) (oo (AL (Sl.cs s0) (k1*1)) none fun v0=>(oo (Bj 1 v0) none fun s1=>(oo (pu 58 [(.pointer none),Sl.v 1 s1]) none fun v1=>(oo (Bi .i64 v1) none fun x0=>(bb (nt (Bd x0 (0:Int))) (some (.tuple ⟨[(.pointer none),.int .i64 x0]⟩)) (ih0 s0 z0 (Aj .i64 (Int.add (Int.ofNat k1) (1:Int))))))))) none)) (UZ pu n))
def Yj (pu:Af) (n w:Nat):Sl→Int→Int→OV:=
 Nat.rec (motive:=fun _=>Sl→Int→Int→OV) (fun _ _ _=>none) (fun _ ih0=>Yi pu n ih0) w
def Acu (pu:Af) (n:Nat) (x0 x1 x2:Int) (s0 s1:Sl):OV:=
 (oo (pu 49 [(.agg ⟨[.int .i64 x0,.int .i64 x1,.int .i64 x2,Sl.v 1 s0]⟩)]) none fun v0=>(oo (CQ v0) none fun l0=>(ll l0 none fun v1 l0=>(ll l0 none fun v2 l0=>(ll l0 (bb (isS (Pv v1)) (oo (Pv v1) none fun p0=>(oo (Bi .i64 v2) none fun x3=>(bb (nt (Bd x3 (0:Int))) (some (.tuple ⟨[(.pointer none),.int .i64 x3]⟩)) (Kh pu n n (Db.off p0) (Db.cs p0) s1 (Int.ofNat (Sl.n s1)) (0:Int))))) (bb (Xc v1) (oo (Bi .i64 v2) none fun x4=>(bb (nt (Bd x4 (0:Int))) (some (.tuple ⟨[(.pointer none),.int .i64 x4]⟩)) (Yj pu n n s1 (Int.ofNat (Sl.n s1)) (0:Int)))) none)) fun _ _=>none)))))
def m32 (pu:Af) (n:Nat) (args:LV):OV:=
 (ll args none fun a0 args=>(ll args none fun a1 args=>(ll args (oo (Bt a0) none fun l0=>(ll l0 none fun v0 l0=>(ll l0 none fun v1 l0=>(ll l0 none fun v2 l0=>(ll l0 none fun v3 l0=>(ll l0 (oo (Bi .i64 v0) none fun x0=>(oo (Bi .i64 v1) none fun x1=>(oo (Bi .i64 v2) none fun x2=>(oo (Bj 1 v3) none fun s0=>(oo (Bj 1 a1) none fun s1=>(Acu pu n x0 x1 x2 s0 s1)))))) fun _ _=>none)))))) fun _ _=>none)))
theorem Acv (pu:Af) (n n0:Nat) (q0:LV) {v:Value} (hm:UY pu n n0 q0=some v):BN tt (Bb tabs isP pu (inl pu)) 1 Uf (fr 33 [(6,(Cv n0 q0))]) Ay (Fin tt 1 [.tmp 4,.tmp 5] v):=by
 unfold UY at hm
 refine .then (.rK (.ghs (fr 33 [(4,(Cv n0 q0)),(5,(zI (0:Int)))]) Ay (.k0 [false] [] [4,5]) ?_))
 refine .ret ?_
 exact A7 (.tuple ⟨[(Cv n0 q0),(zI (0:Int))]⟩) hm
theorem Acw (pu:Af) (n:Nat) {v:Value} (hm:UZ pu n=some v):BN tt (Bb tabs isP pu (inl pu)) 1 Uf (fr 33 [(6,(.pointer none))]) Ay (Fin tt 1 [.tmp 4,.tmp 5] v):=by
 unfold UZ at hm
 refine .then (.rK (.ghs (fr 33 [(4,(.pointer none)),(5,(zI (0:Int)))]) Ay (.k0 [false] [] [4,5]) ?_))
 refine .ret ?_
 exact A7 (.tuple ⟨[(.pointer none),(zI (0:Int))]⟩) hm
theorem r32 {call:A8} (pu:Af) (n:Nat) (hcall:call=Bb tabs isP pu (inl pu)) {args:LV} {v:Value} (hm:m32 pu n args=some v) (_:∀ x∈args,closed2 x=true):args.length≤33∧BN tt call 1 Qq (Fr.made 33 args) (Ao tabs) (Fin tt 1 [.tmp 4,.tmp 5] v):=by
 subst hcall
 unfold m32 at hm
 replace hm:=Ad hm;obtain⟨a0,args_0,rfl,hm⟩:=hm
 replace hm:=Ad hm;obtain⟨a1,args_1,rfl,hm⟩:=hm
 replace hm:=AC hm;obtain⟨rfl,hm⟩:=hm
 replace hm:=BG hm;obtain⟨l0,rfl,hm⟩:=hm
 replace hm:=Ad hm;obtain⟨v0,l14121_0,rfl,hm⟩:=hm
 replace hm:=Ad hm;obtain⟨v1,l14121_1,rfl,hm⟩:=hm
 replace hm:=Ad hm;obtain⟨v2,l14121_2,rfl,hm⟩:=hm
 replace hm:=Ad hm;obtain⟨v3,l14121_3,rfl,hm⟩:=hm
 replace hm:=AC hm;obtain⟨rfl,hm⟩:=hm
 replace hm:=Ai hm;obtain⟨x0,rfl,hm⟩:=hm
 replace hm:=Ai hm;obtain⟨x1,rfl,hm⟩:=hm
 replace hm:=Ai hm;obtain⟨x2,rfl,hm⟩:=hm
 replace hm:=Al hm;obtain⟨s0,rfl,hm⟩:=hm
 replace hm:=Al hm;obtain⟨s1,rfl,hm⟩:=hm
 unfold Acu at hm
 refine⟨by simp,?_⟩
 refine .same (F':=(fr 33 [(0,(.agg ⟨[zI x0,zI x1,zI x2,Sl.v 1 s0]⟩)),(1,Sl.v 1 s1)])) (H':=Ay) (by kernel_rfl) (by kernel_rfl) ?_
 refine .then (.rK (.ghs (fr 33 [(1,Sl.v 1 s1),(2,pt 1 0)]) (hT 2 [(oC [zI x0,zI x1,zI x2,Sl.v 1 s0])]) (.k0 [false] [.tmp 2 false] [1,2]) ?_))
 refine .then ?_
 replace hm:=Ab hm;obtain⟨v4,h0,hm⟩:=hm
 replace hm:=Ch hm;obtain⟨l1,rfl,hm⟩:=hm
 replace hm:=Ad hm;obtain⟨v5,l14150_0,rfl,hm⟩:=hm
 replace hm:=Ad hm;obtain⟨v6,l14150_1,rfl,hm⟩:=hm
 replace hm:=AC hm;obtain⟨rfl,hm⟩:=hm
 replace hm:=Ag hm;rcases hm with⟨h1,hm⟩ | ⟨h1,hm⟩
 ·replace hm:=Ab hm;obtain⟨p0,h2,hm⟩:=hm
  obtain rfl:=F7 h2
  replace hm:=Ai hm;obtain⟨x3,rfl,hm⟩:=hm
  refine .reg (eC 1 ((oo (pu 49 [(.agg ⟨[zI x0,zI x1,zI x2,Sl.v 1 s0]⟩)]) none fun v=>some (v,(hT 2 [(oC [zI x0,zI x1,zI x2,Sl.v 1 s0])])))) (AB h0) (eE)) ?_
  refine .ghs (fr 33 [(1,Sl.v 1 s1),(6,(Cv (Db.off p0) (Db.cs p0))),(7,zI x3)]) Ay (.k0 [false] [] [1,6,7]) ?_
  refine .then (.then (.rK (.ghs (fr 33 [(1,Sl.v 1 s1),(6,(Cv (Db.off p0) (Db.cs p0))),(7,zI x3),(17,(zB (nt (Bd x3 (0:Int)))))]) Ay (.k0 [false] [] [1,6,7,17]) ?_)))
  replace hm:=Ag hm;rcases hm with⟨h3,hm⟩ | ⟨h3,hm⟩
  ·refine BI (nt (Bd x3 (0:Int))) h3 ?_
   refine .then (.rK (.ghs (fr 33 [(4,(.pointer none)),(5,zI x3)]) Ay (.k0 [false] [] [4,5]) ?_))
   refine .ret ?_
   exact A7 (.tuple ⟨[(.pointer none),zI x3]⟩) hm
  ·refine BO (nt (Bd x3 (0:Int))) h3 ?_
   refine .skip (.ghs (fr 33 [(1,Sl.v 1 s1),(6,(Cv (Db.off p0) (Db.cs p0)))]) Ay (.k0 [false] [] [1,6]) ?_)
   refine .join (v:=v) (fun y:Nat×LV=>((fr 33 [(6,(Cv y.1 y.2))]),Ay)) (fun y=>UY pu n y.1 y.2) ?_ ?_
   ·rintro⟨n0,q0⟩ hm
    exact Acv pu n n0 q0 hm
   ·refine .then (.rK (.ghs (fr 33 [(6,(Cv (Db.off p0) (Db.cs p0))),(19,Sl.v 1 s1),(20,(zI (Int.ofNat (Sl.n s1)))),(21,(zI (0:Int)))]) Ay (.k0 [false] [] [6,19,20,21]) ?_))
    refine .block (.loopM (v:=v) (fun y:Nat×LV×Sl×Int×Int=>((fr 33 [(6,(Cv y.1 y.2.1)),(19,(Sl.v 1 y.2.2.1)),(20,(zI y.2.2.2.1)),(21,(zI y.2.2.2.2))]),Ay)) (fun w y=>Kh pu n w y.1 y.2.1 y.2.2.1 y.2.2.2.1 y.2.2.2.2) n ⟨((Db.off p0),(Db.cs p0),s1,(Int.ofNat (Sl.n s1)),(0:Int)),hm,(.k0 [false] [] [6,19,20,21])⟩ (fun _=>rfl) ?_)
    rintro w0 ⟨n1,q1,s2,z0,z1⟩ hm
    replace hm:OA pu n (Kh pu n w0) n1 q1 s2 z0 z1=some v:=hm
    unfold OA at hm
    refine .then (.rK (.ghs (fr 33 [(6,(Cv n1 q1)),(19,Sl.v 1 s2),(20,zI z0),(21,zI z1),(22,(zB (AY z1 z0)))]) Ay (.k0 [false] [] [6,19,20,21,22]) ?_))
    refine .then ?_
    replace hm:=Ag hm;rcases hm with⟨h4,hm⟩ | ⟨h4,hm⟩
    ·refine BI (AY z1 z0) h4 ?_
     refine .skip (.ghs (fr 33 [(6,(Cv n1 q1)),(19,Sl.v 1 s2),(20,zI z0),(21,zI z1)]) Ay (.k0 [false] [] [6,19,20,21]) ?_)
     refine .then (.block (.then ?_))
     replace hm:=Ab hm;obtain⟨k1,h5,hm⟩:=hm
     obtain rfl:=AR h5
     replace hm:=Ae hm;obtain⟨h6,hm⟩:=hm
     replace hm:=X4 hm;obtain⟨s3,h7,hm⟩:=hm
     refine .reg (eD (keep Ay (bb (an (Nat.blt k1 (Sl.n s2)) true) (some (Cv (k1*1) (Sl.cs s2))) none)) (AX h6) (eD (keep Ay (AL (Sl.cs s2) (k1*1))) (AZ h7) (eE))) ?_
     refine .ghs (fr 33 [(6,(Cv n1 q1)),(9,Sl.v 1 s3),(19,Sl.v 1 s2),(20,zI z0),(21,(zI (Int.ofNat k1)))]) Ay (.k0 [false] [] [6,9,19,20,21]) ?_
     refine .then ?_
     replace hm:=Gp hm;obtain⟨x4,h8,hm⟩:=hm
     refine .reg (eC 2 ((oo (pu 58 [(Cv n1 q1),Sl.v 1 s3]) none fun v=>some (v,Ay))) (AB h8) (eE)) ?_
     refine .ghs (fr 33 [(6,(Cv n1 q1)),(10,zI x4),(19,Sl.v 1 s2),(20,zI z0),(21,(zI (Int.ofNat k1)))]) Ay (.k0 [false] [] [6,10,19,20,21]) ?_
     refine .then (.rK (.ghs (fr 33 [(6,(Cv n1 q1)),(10,zI x4),(19,Sl.v 1 s2),(20,zI z0),(21,(zI (Int.ofNat k1))),(29,(zB (nt (Bd x4 (0:Int)))))]) Ay (.k0 [false] [] [6,10,19,20,21,29]) ?_))
     replace hm:=Ag hm;rcases hm with⟨h9,hm⟩ | ⟨h9,hm⟩
     ·refine BI (nt (Bd x4 (0:Int))) h9 ?_
      refine .then (.rK (.ghs (fr 33 [(4,(.pointer none)),(5,zI x4)]) Ay (.k0 [false] [] [4,5]) ?_))
      refine .ret ?_
      exact A7 (.tuple ⟨[(.pointer none),zI x4]⟩) hm
     ·refine BO (nt (Bd x4 (0:Int))) h9 ?_
      refine .skip (.ghs (fr 33 [(6,(Cv n1 q1)),(19,Sl.v 1 s2),(20,zI z0),(21,(zI (Int.ofNat k1)))]) Ay (.k0 [false] [] [6,19,20,21]) ?_)
      refine .rK ?_
      exact⟨(n1,q1,s2,z0,(Aj .i64 (Int.add (Int.ofNat k1) (1:Int)))),hm,(.k0 [false] [] [6,19,20,21])⟩
    ·refine BO (AY z1 z0) h4 ?_
     refine .exit ?_
     exact⟨(n1,q1),hm,(.k0 [false] [] [6])⟩
 ·replace hm:=Ae hm;obtain⟨h10,hm⟩:=hm
  obtain rfl:=PL h10
  replace hm:=Ai hm;obtain⟨x5,rfl,hm⟩:=hm
  refine .reg (eC 1 ((oo (pu 49 [(.agg ⟨[zI x0,zI x1,zI x2,Sl.v 1 s0]⟩)]) none fun v=>some (v,(hT 2 [(oC [zI x0,zI x1,zI x2,Sl.v 1 s0])])))) (AB h0) (eE)) ?_
  refine .ghs (fr 33 [(1,Sl.v 1 s1),(6,(.pointer none)),(7,zI x5)]) Ay (.k0 [false] [] [1,6,7]) ?_
  refine .then (.then (.rK (.ghs (fr 33 [(1,Sl.v 1 s1),(6,(.pointer none)),(7,zI x5),(17,(zB (nt (Bd x5 (0:Int)))))]) Ay (.k0 [false] [] [1,6,7,17]) ?_)))
  replace hm:=Ag hm;rcases hm with⟨h11,hm⟩ | ⟨h11,hm⟩
  ·refine BI (nt (Bd x5 (0:Int))) h11 ?_
   refine .then (.rK (.ghs (fr 33 [(4,(.pointer none)),(5,zI x5)]) Ay (.k0 [false] [] [4,5]) ?_))
   refine .ret ?_
   exact A7 (.tuple ⟨[(.pointer none),zI x5]⟩) hm
  ·refine BO (nt (Bd x5 (0:Int))) h11 ?_
   refine .skip (.ghs (fr 33 [(1,Sl.v 1 s1),(6,(.pointer none))]) Ay (.k0 [false] [] [1,6]) ?_)
   refine .join (v:=v) (fun y:Unit=>((fr 33 [(6,(.pointer none))]),Ay)) (fun y=>UZ pu n) ?_ ?_
   ·rintro _ hm
    exact Acw pu n hm
   ·refine .then (.rK (.ghs (fr 33 [(6,(.pointer none)),(19,Sl.v 1 s1),(20,(zI (Int.ofNat (Sl.n s1)))),(21,(zI (0:Int)))]) Ay (.k0 [false] [] [6,19,20,21]) ?_))
    refine .block (.loopM (v:=v) (fun y:Sl×Int×Int=>((fr 33 [(6,(.pointer none)),(19,(Sl.v 1 y.1)),(20,(zI y.2.1)),(21,(zI y.2.2))]),Ay)) (fun w y=>Yj pu n w y.1 y.2.1 y.2.2) n ⟨(s1,(Int.ofNat (Sl.n s1)),(0:Int)),hm,(.k0 [false] [] [6,19,20,21])⟩ (fun _=>rfl) ?_)
    rintro w0 ⟨s4,z2,z3⟩ hm
    replace hm:Yi pu n (Yj pu n w0) s4 z2 z3=some v:=hm
    unfold Yi at hm
    refine .then (.rK (.ghs (fr 33 [(6,(.pointer none)),(19,Sl.v 1 s4),(20,zI z2),(21,zI z3),(22,(zB (AY z3 z2)))]) Ay (.k0 [false] [] [6,19,20,21,22]) ?_))
    refine .then ?_
    replace hm:=Ag hm;rcases hm with⟨h12,hm⟩ | ⟨h12,hm⟩
    ·refine BI (AY z3 z2) h12 ?_
     refine .skip (.ghs (fr 33 [(6,(.pointer none)),(19,Sl.v 1 s4),(20,zI z2),(21,zI z3)]) Ay (.k0 [false] [] [6,19,20,21]) ?_)
     refine .then (.block (.then ?_))
     replace hm:=Ab hm;obtain⟨k2,h13,hm⟩:=hm
     obtain rfl:=AR h13
     replace hm:=Ae hm;obtain⟨h14,hm⟩:=hm
     replace hm:=X4 hm;obtain⟨s5,h15,hm⟩:=hm
     refine .reg (eD (keep Ay (bb (an (Nat.blt k2 (Sl.n s4)) true) (some (Cv (k2*1) (Sl.cs s4))) none)) (AX h14) (eD (keep Ay (AL (Sl.cs s4) (k2*1))) (AZ h15) (eE))) ?_
     refine .ghs (fr 33 [(6,(.pointer none)),(9,Sl.v 1 s5),(19,Sl.v 1 s4),(20,zI z2),(21,(zI (Int.ofNat k2)))]) Ay (.k0 [false] [] [6,9,19,20,21]) ?_
     refine .then ?_
     replace hm:=Gp hm;obtain⟨x6,h16,hm⟩:=hm
     refine .reg (eC 2 ((oo (pu 58 [(.pointer none),Sl.v 1 s5]) none fun v=>some (v,Ay))) (AB h16) (eE)) ?_
     refine .ghs (fr 33 [(6,(.pointer none)),(10,zI x6),(19,Sl.v 1 s4),(20,zI z2),(21,(zI (Int.ofNat k2)))]) Ay (.k0 [false] [] [6,10,19,20,21]) ?_
     refine .then (.rK (.ghs (fr 33 [(6,(.pointer none)),(10,zI x6),(19,Sl.v 1 s4),(20,zI z2),(21,(zI (Int.ofNat k2))),(29,(zB (nt (Bd x6 (0:Int)))))]) Ay (.k0 [false] [] [6,10,19,20,21,29]) ?_))
     replace hm:=Ag hm;rcases hm with⟨h17,hm⟩ | ⟨h17,hm⟩
     ·refine BI (nt (Bd x6 (0:Int))) h17 ?_
      refine .then (.rK (.ghs (fr 33 [(4,(.pointer none)),(5,zI x6)]) Ay (.k0 [false] [] [4,5]) ?_))
      refine .ret ?_
      exact A7 (.tuple ⟨[(.pointer none),zI x6]⟩) hm
     ·refine BO (nt (Bd x6 (0:Int))) h17 ?_
      refine .skip (.ghs (fr 33 [(6,(.pointer none)),(19,Sl.v 1 s4),(20,zI z2),(21,(zI (Int.ofNat k2)))]) Ay (.k0 [false] [] [6,19,20,21]) ?_)
      refine .rK ?_
      exact⟨(s4,z2,(Aj .i64 (Int.add (Int.ofNat k2) (1:Int)))),hm,(.k0 [false] [] [6,19,20,21])⟩
    ·refine BO (AY z3 z2) h12 ?_
     refine .exit ?_
     exact⟨(),hm,(.k0 [false] [] [6])⟩
def U0 (pu:Af) (n:Nat) (z0:Int):OV:=
 (some (.int .u16 z0))
def Sd (pu:Af) (n:Nat) (ih0:Sl→Int→Sl→Int→Int→OV) (s0:Sl) (z0:Int) (s1:Sl) (z1 z2:Int):OV:=
 (ih0 s0 z0 s1 z1 (Aj .i64 (Int.add z2 (1:Int))))
def Sg (pu:Af) (n:Nat) (ih0:Sl→Int→Sl→Int→Int→OV) (s0:Sl) (z0:Int) (s1:Sl) (z1 z2:Int):OV:=
 (bb (AY z2 z1) (oo (EA z2) none fun k1=>(bb (an (Nat.blt k1 (Sl.n s1)) true) (oo (AL (Sl.cs s1) (k1*1)) none fun v0=>(oo (Bi .i64 v0) none fun x0=>(oo (EA x0) none fun k2=>(bb (an (Nat.blt k2 (Sl.n s0)) true) (oo (AL (Sl.cs s0) (k2*1)) none fun v1=>(oo (Bi .i64 v1) none fun x1=>(bb (an (Nat.blt k1 (Sl.n s0)) true) (oo (AL (Sl.cs s0) (k1*1)) none fun v2=>(oo (Bi .i64 v2) none fun x2=>(bb (nt (Bd x1 x2)) (Sd pu n ih0 s0 (jF .u16 z0 (QW .u16 (1:Int) k1)) s1 z1 (Int.ofNat k1)) (Sd pu n ih0 s0 z0 s1 z1 (Int.ofNat k1))))) none))) none)))) none)) (U0 pu n z0))
def LQ (pu:Af) (n w:Nat):Sl→Int→Sl→Int→Int→OV:=
 Nat.rec (motive:=fun _=>Sl→Int→Sl→Int→Int→OV) (fun _ _ _ _ _=>none) (fun _ ih0=>Sg pu n ih0) w
def Acx (pu:Af) (n:Nat) (p0:Db) (s0:Sl) (x0:Int):OV:=
 (oo (AL (Db.cs p0) ((Db.off p0)+4)) none fun v0=>(oo (Bj 1 v0) none fun s1=>(oo (EA x0) none fun k1=>(bb (an (Nat.blt k1 (Sl.n s1)) true) (oo (AL (Sl.cs s1) (k1*1)) none fun v1=>(oo (Bj 1 v1) none fun s2=>(LQ pu n n s0 (0:Int) s2 (Int.ofNat (Sl.n s2)) (0:Int)))) none))))
def m36 (pu:Af) (n:Nat) (args:LV):OV:=
 (ll args none fun a0 args=>(ll args none fun a1 args=>(ll args none fun a2 args=>(ll args (oo (Pv a0) none fun p0=>(oo (Bj 1 a1) none fun s0=>(oo (Bi .i64 a2) none fun x0=>(Acx pu n p0 s0 x0)))) fun _ _=>none))))
theorem Acz (pu:Af) (n:Nat) (z0:Int) {v:Value} (hm:U0 pu n z0=some v):BN tt (Bb tabs isP pu (inl pu)) 1 XN (fr 38 [(7,.int .u16 z0)]) Ay (Fin tt 1 [.tmp 6] v):=by
 unfold U0 at hm
 refine .then (.rK (.ghs (fr 38 [(6,.int .u16 z0)]) Ay (.k0 [false] [] [6]) ?_))
 refine .ret ?_
 exact A7 (.int .u16 z0) hm
theorem r36 {call:A8} (pu:Af) (n:Nat) (hcall:call=Bb tabs isP pu (inl pu)) {args:LV} {v:Value} (hm:m36 pu n args=some v) (_:∀ x∈args,closed2 x=true):args.length≤38∧BN tt call 1 Qr (Fr.made 38 args) (Ao tabs) (Fin tt 1 [.tmp 6] v):=by
 subst hcall
 unfold m36 at hm
 replace hm:=Ad hm;obtain⟨a0,args_0,rfl,hm⟩:=hm
 replace hm:=Ad hm;obtain⟨a1,args_1,rfl,hm⟩:=hm
 replace hm:=Ad hm;obtain⟨a2,args_2,rfl,hm⟩:=hm
 replace hm:=AC hm;obtain⟨rfl,hm⟩:=hm
 replace hm:=Ab hm;obtain⟨p0,h0,hm⟩:=hm
 obtain rfl:=F7 h0
 replace hm:=Al hm;obtain⟨s0,rfl,hm⟩:=hm
 replace hm:=Ai hm;obtain⟨x0,rfl,hm⟩:=hm
 unfold Acx at hm
 refine⟨by simp,?_⟩
 refine .same (F':=(fr 38 [(0,(Cv (Db.off p0) (Db.cs p0))),(1,Sl.v 1 s0),(2,zI x0)])) (H':=Ay) (by kernel_rfl) (by kernel_rfl) ?_
 refine .then (.rK (.ghs (fr 38 [(0,(Cv (Db.off p0) (Db.cs p0))),(1,Sl.v 1 s0),(2,zI x0)]) Ay (.k0 [false] [] [0,1,2]) ?_))
 refine .then (.rK (.ghs (fr 38 [(0,(Cv (Db.off p0) (Db.cs p0))),(1,Sl.v 1 s0),(2,zI x0),(7,(.int .u16 (0:Int)))]) Ay (.k0 [false] [] [0,1,2,7]) ?_))
 refine .join (v:=v) (fun y:Int=>((fr 38 [(7,.int .u16 y)]),Ay)) (fun y=>U0 pu n y) ?_ ?_
 ·rintro z0 hm
  exact Acz pu n z0 hm
 ·refine .then ?_
  replace hm:=X4 hm;obtain⟨s1,h1,hm⟩:=hm
  replace hm:=Ab hm;obtain⟨k1,h2,hm⟩:=hm
  obtain rfl:=AR h2
  replace hm:=Ae hm;obtain⟨h3,hm⟩:=hm
  replace hm:=X4 hm;obtain⟨s2,h4,hm⟩:=hm
  refine .reg (eC 3 (keep Ay (AL (Db.cs p0) ((Db.off p0)+4))) (AZ h1) (eC 1 (keep Ay (bb (an (Nat.blt k1 (Sl.n s1)) true) (some (Cv (k1*1) (Sl.cs s1))) none)) (AX h3) (eD (keep Ay (AL (Sl.cs s1) (k1*1))) (AZ h4) (eE)))) ?_
  refine .ghs (fr 38 [(1,Sl.v 1 s0),(7,(.int .u16 (0:Int))),(16,Sl.v 1 s2),(17,(zI (Int.ofNat (Sl.n s2)))),(18,(zI (0:Int)))]) Ay (.k0 [false] [] [1,7,16,17,18]) ?_
  refine .block (.loopM (v:=v) (fun y:Sl×Int×Sl×Int×Int=>((fr 38 [(1,(Sl.v 1 y.1)),(7,(.int .u16 y.2.1)),(16,(Sl.v 1 y.2.2.1)),(17,(zI y.2.2.2.1)),(18,(zI y.2.2.2.2))]),Ay)) (fun w y=>LQ pu n w y.1 y.2.1 y.2.2.1 y.2.2.2.1 y.2.2.2.2) n ⟨(s0,(0:Int),s2,(Int.ofNat (Sl.n s2)),(0:Int)),hm,(.k0 [false] [] [1,7,16,17,18])⟩ (fun _=>rfl) ?_)
  rintro w0 ⟨s3,z1,s4,z2,z3⟩ hm
  replace hm:Sg pu n (LQ pu n w0) s3 z1 s4 z2 z3=some v:=hm
  unfold Sg at hm
  refine .then (.rK (.ghs (fr 38 [(1,Sl.v 1 s3),(7,.int .u16 z1),(16,Sl.v 1 s4),(17,zI z2),(18,zI z3),(19,(zB (AY z3 z2)))]) Ay (.k0 [false] [] [1,7,16,17,18,19]) ?_))
  refine .then ?_
  replace hm:=Ag hm;rcases hm with⟨h5,hm⟩ | ⟨h5,hm⟩
  ·refine BI (AY z3 z2) h5 ?_
   refine .skip (.ghs (fr 38 [(1,Sl.v 1 s3),(7,.int .u16 z1),(16,Sl.v 1 s4),(17,zI z2),(18,zI z3)]) Ay (.k0 [false] [] [1,7,16,17,18]) ?_)
   refine .join (v:=v) (fun y:Sl×Int×Sl×Int×Int=>((fr 38 [(1,(Sl.v 1 y.1)),(7,(.int .u16 y.2.1)),(16,(Sl.v 1 y.2.2.1)),(17,(zI y.2.2.2.1)),(18,(zI y.2.2.2.2))]),Ay)) (fun y=>Sd pu n (LQ pu n w0) y.1 y.2.1 y.2.2.1 y.2.2.2.1 y.2.2.2.2) ?_ ?_
   ·rintro⟨s5,z4,s6,z5,z6⟩ hm
    unfold Sd at hm
    refine .rK ?_
    exact⟨(s5,z4,s6,z5,(Aj .i64 (Int.add z6 (1:Int)))),hm,(.k0 [false] [] [1,7,16,17,18])⟩
   ·refine .block (.then ?_)
    replace hm:=Ab hm;obtain⟨k2,h6,hm⟩:=hm
    obtain rfl:=AR h6
    replace hm:=Ae hm;obtain⟨h7,hm⟩:=hm
    replace hm:=Gp hm;obtain⟨x1,h8,hm⟩:=hm
    refine .reg (eC 1 (keep Ay (bb (an (Nat.blt k2 (Sl.n s4)) true) (some (Cv (k2*1) (Sl.cs s4))) none)) (AX h7) (eD (keep Ay (AL (Sl.cs s4) (k2*1))) (AZ h8) (eE))) ?_
    refine .ghs (fr 38 [(1,Sl.v 1 s3),(7,.int .u16 z1),(8,(zI (Int.ofNat k2))),(9,zI x1),(16,Sl.v 1 s4),(17,zI z2),(18,(zI (Int.ofNat k2)))]) Ay (.k0 [false] [] [1,7,8,9,16,17,18]) ?_
    refine .then ?_
    replace hm:=Ab hm;obtain⟨k3,h9,hm⟩:=hm
    obtain rfl:=AR h9
    replace hm:=Ae hm;obtain⟨h10,hm⟩:=hm
    replace hm:=Gp hm;obtain⟨x2,h11,hm⟩:=hm
    replace hm:=Ae hm;obtain⟨h12,hm⟩:=hm
    replace hm:=Gp hm;obtain⟨x3,h13,hm⟩:=hm
    refine .reg (eC 2 (keep Ay (bb (an (Nat.blt k3 (Sl.n s3)) true) (some (Cv (k3*1) (Sl.cs s3))) none)) (AX h10) (eD (keep Ay (AL (Sl.cs s3) (k3*1))) (AZ h11) (eC 2 (keep Ay (bb (an (Nat.blt k2 (Sl.n s3)) true) (some (Cv (k2*1) (Sl.cs s3))) none)) (AX h12) (eD (keep Ay (AL (Sl.cs s3) (k2*1))) (AZ h13) (eE))))) ?_
    refine .ghs (fr 38 [(1,Sl.v 1 s3),(7,.int .u16 z1),(8,(zI (Int.ofNat k2))),(16,Sl.v 1 s4),(17,zI z2),(18,(zI (Int.ofNat k2))),(31,(zB (nt (Bd x2 x3))))]) Ay (.k0 [false] [] [1,7,8,16,17,18,31]) ?_
    replace hm:=Ag hm;rcases hm with⟨h14,hm⟩ | ⟨h14,hm⟩
    ·refine BI (nt (Bd x2 x3)) h14 ?_
     refine .rK ?_
     exact⟨(s3,(jF .u16 z1 (QW .u16 (1:Int) k2)),s4,z2,(Int.ofNat k2)),hm,(.k0 [false] [] [1,7,16,17,18])⟩
    ·refine BO (nt (Bd x2 x3)) h14 ?_
     refine .skip ?_
     exact⟨(s3,z1,s4,z2,(Int.ofNat k2)),hm,(.k0 [false] [] [1,7,16,17,18])⟩
  ·refine BO (AY z3 z2) h5 ?_
   refine .exit ?_
   exact⟨z1,hm,(.k0 [false] [] [7])⟩
def Si (pu:Af) (n:Nat) (s0 s1:Sl):OV:=
 (bb (AY (Int.ofNat (Sl.n s0)) (Int.ofNat (Sl.n s1))) (some (.int .i64 (-1:Int))) (some (.int .i64 (0:Int))))
def OB (pu:Af) (n:Nat) (ih0:Sl→Sl→Sl→Int→Int→OV) (s0 s1 s2:Sl) (z0 z1:Int):OV:=
 (bb (AY z1 z0) (oo (EA z1) none fun k1=>(bb (an (Nat.blt k1 (Sl.n s2)) true) (oo (AL (Sl.cs s2) (k1*1)) none fun v0=>(oo (Bi .i64 v0) none fun x0=>(bb (nt (AY (Int.ofNat k1) (Int.ofNat (Sl.n s1)))) (some (.int .i64 (1:Int))) (bb (an (Nat.blt k1 (Sl.n s1)) true) (oo (AL (Sl.cs s1) (k1*1)) none fun v1=>(oo (Bi .i64 v1) none fun x1=>(oo (pu 65 [.int .i64 x0,.int .i64 x1]) none fun v2=>(oo (Bi .i64 v2) none fun x2=>(bb (nt (Bd x2 (0:Int))) (some (.int .i64 x2)) (ih0 s0 s1 s2 z0 (Aj .i64 (Int.add (Int.ofNat k1) (1:Int))))))))) none)))) none)) (Si pu n s0 s1))
def Pg (pu:Af) (n w:Nat):Sl→Sl→Sl→Int→Int→OV:=
 Nat.rec (motive:=fun _=>Sl→Sl→Sl→Int→Int→OV) (fun _ _ _ _ _=>none) (fun _ ih0=>OB pu n ih0) w
def AcA (pu:Af) (n:Nat) (s0 s1:Sl):OV:=
 (Pg pu n n s0 s1 s0 (Int.ofNat (Sl.n s0)) (0:Int))
def m45 (pu:Af) (n:Nat) (args:LV):OV:=
 (ll args none fun a0 args=>(ll args none fun a1 args=>(ll args (oo (Bj 1 a0) none fun s0=>(oo (Bj 1 a1) none fun s1=>(AcA pu n s0 s1))) fun _ _=>none)))
theorem AcC (pu:Af) (n:Nat) (s0 s1:Sl) {v:Value} (hm:Si pu n s0 s1=some v):BN tt (Bb tabs isP pu (inl pu)) 1 XO (fr 36 [(0,Sl.v 1 s0),(1,Sl.v 1 s1)]) Ay (Fin tt 1 [.tmp 4] v):=by
 unfold Si at hm
 refine .then (.then (.rK (.ghs (fr 36 [(35,(zB (AY (Int.ofNat (Sl.n s0)) (Int.ofNat (Sl.n s1)))))]) Ay (.k0 [false] [] [35]) ?_)))
 replace hm:=Ag hm;rcases hm with⟨h0,hm⟩ | ⟨h0,hm⟩
 ·refine BI (AY (Int.ofNat (Sl.n s0)) (Int.ofNat (Sl.n s1))) h0 ?_
  refine .then (.rK (.ghs (fr 36 [(4,(zI (-1:Int)))]) Ay (.k0 [false] [] [4]) ?_))
  refine .ret ?_
  exact A7 (zI (-1:Int)) hm
 ·refine BO (AY (Int.ofNat (Sl.n s0)) (Int.ofNat (Sl.n s1))) h0 ?_
  refine .skip (.ghs (fr 36 []) Ay (.k0 [false] [] []) ?_)
  refine .then (.rK (.ghs (fr 36 [(4,(zI (0:Int)))]) Ay (.k0 [false] [] [4]) ?_))
  refine .ret ?_
  exact A7 (zI (0:Int)) hm
theorem r45 {call:A8} (pu:Af) (n:Nat) (hcall:call=Bb tabs isP pu (inl pu)) {args:LV} {v:Value} (hm:m45 pu n args=some v) (_:∀ x∈args,closed2 x=true):args.length≤36∧BN tt call 1 Qs (Fr.made 36 args) (Ao tabs) (Fin tt 1 [.tmp 4] v):=by
 subst hcall
 unfold m45 at hm
 replace hm:=Ad hm;obtain⟨a0,args_0,rfl,hm⟩:=hm
 replace hm:=Ad hm;obtain⟨a1,args_1,rfl,hm⟩:=hm
 replace hm:=AC hm;obtain⟨rfl,hm⟩:=hm
 replace hm:=Al hm;obtain⟨s0,rfl,hm⟩:=hm
 replace hm:=Al hm;obtain⟨s1,rfl,hm⟩:=hm
 unfold AcA at hm
 refine⟨by simp,?_⟩
 refine .same (F':=(fr 36 [(0,Sl.v 1 s0),(1,Sl.v 1 s1)])) (H':=Ay) (by kernel_rfl) (by kernel_rfl) ?_
 refine .then (.rK (.ghs (fr 36 [(0,Sl.v 1 s0),(1,Sl.v 1 s1)]) Ay (.k0 [false] [] [0,1]) ?_))
 refine .join (v:=v) (fun y:Sl×Sl=>((fr 36 [(0,(Sl.v 1 y.1)),(1,(Sl.v 1 y.2))]),Ay)) (fun y=>Si pu n y.1 y.2) ?_ ?_
 ·rintro⟨s2,s3⟩ hm
  exact AcC pu n s2 s3 hm
 ·refine .then (.rK (.ghs (fr 36 [(0,Sl.v 1 s0),(1,Sl.v 1 s1),(9,Sl.v 1 s0),(10,(zI (Int.ofNat (Sl.n s0)))),(11,(zI (0:Int)))]) Ay (.k0 [false] [] [0,1,9,10,11]) ?_))
  refine .block (.loopM (v:=v) (fun y:Sl×Sl×Sl×Int×Int=>((fr 36 [(0,(Sl.v 1 y.1)),(1,(Sl.v 1 y.2.1)),(9,(Sl.v 1 y.2.2.1)),(10,(zI y.2.2.2.1)),(11,(zI y.2.2.2.2))]),Ay)) (fun w y=>Pg pu n w y.1 y.2.1 y.2.2.1 y.2.2.2.1 y.2.2.2.2) n ⟨(s0,s1,s0,(Int.ofNat (Sl.n s0)),(0:Int)),hm,(.k0 [false] [] [0,1,9,10,11])⟩ (fun _=>rfl) ?_)
  rintro w0 ⟨s4,s5,s6,z0,z1⟩ hm
  replace hm:OB pu n (Pg pu n w0) s4 s5 s6 z0 z1=some v:=hm
  unfold OB at hm
  refine .then (.rK (.ghs (fr 36 [(0,Sl.v 1 s4),(1,Sl.v 1 s5),(9,Sl.v 1 s6),(10,zI z0),(11,zI z1),(12,(zB (AY z1 z0)))]) Ay (.k0 [false] [] [0,1,9,10,11,12]) ?_))
  refine .then ?_
  replace hm:=Ag hm;rcases hm with⟨h0,hm⟩ | ⟨h0,hm⟩
  ·refine BI (AY z1 z0) h0 ?_
   refine .skip (.ghs (fr 36 [(0,Sl.v 1 s4),(1,Sl.v 1 s5),(9,Sl.v 1 s6),(10,zI z0),(11,zI z1)]) Ay (.k0 [false] [] [0,1,9,10,11]) ?_)
   refine .then (.block (.then ?_))
   replace hm:=Ab hm;obtain⟨k1,h1,hm⟩:=hm
   obtain rfl:=AR h1
   replace hm:=Ae hm;obtain⟨h2,hm⟩:=hm
   replace hm:=Gp hm;obtain⟨x0,h3,hm⟩:=hm
   refine .reg (eC 1 (keep Ay (bb (an (Nat.blt k1 (Sl.n s6)) true) (some (Cv (k1*1) (Sl.cs s6))) none)) (AX h2) (eD (keep Ay (AL (Sl.cs s6) (k1*1))) (AZ h3) (eE))) ?_
   refine .ghs (fr 36 [(0,Sl.v 1 s4),(1,Sl.v 1 s5),(5,(zI (Int.ofNat k1))),(6,zI x0),(9,Sl.v 1 s6),(10,zI z0),(11,(zI (Int.ofNat k1)))]) Ay (.k0 [false] [] [0,1,5,6,9,10,11]) ?_
   refine .then (.then (.rK (.ghs (fr 36 [(0,Sl.v 1 s4),(1,Sl.v 1 s5),(5,(zI (Int.ofNat k1))),(6,zI x0),(9,Sl.v 1 s6),(10,zI z0),(11,(zI (Int.ofNat k1))),(19,(zB (nt (AY (Int.ofNat k1) (Int.ofNat (Sl.n s5))))))]) Ay (.k0 [false] [] [0,1,5,6,9,10,11,19]) ?_)))
   replace hm:=Ag hm;rcases hm with⟨h4,hm⟩ | ⟨h4,hm⟩
   ·refine BI (nt (AY (Int.ofNat k1) (Int.ofNat (Sl.n s5)))) h4 ?_
    refine .then (.rK (.ghs (fr 36 [(4,(zI (1:Int)))]) Ay (.k0 [false] [] [4]) ?_))
    refine .ret ?_
    exact A7 (zI (1:Int)) hm
   ·refine BO (nt (AY (Int.ofNat k1) (Int.ofNat (Sl.n s5)))) h4 ?_
    refine .skip (.ghs (fr 36 [(0,Sl.v 1 s4),(1,Sl.v 1 s5),(5,(zI (Int.ofNat k1))),(6,zI x0),(9,Sl.v 1 s6),(10,zI z0),(11,(zI (Int.ofNat k1)))]) Ay (.k0 [false] [] [0,1,5,6,9,10,11]) ?_)
    refine .then ?_
    replace hm:=Ae hm;obtain⟨h5,hm⟩:=hm
    replace hm:=Gp hm;obtain⟨x1,h6,hm⟩:=hm
    refine .reg (eC 2 (keep Ay (bb (an (Nat.blt k1 (Sl.n s5)) true) (some (Cv (k1*1) (Sl.cs s5))) none)) (AX h5) (eD (keep Ay (AL (Sl.cs s5) (k1*1))) (AZ h6) (eE))) ?_
    refine .ghs (fr 36 [(0,Sl.v 1 s4),(1,Sl.v 1 s5),(6,zI x0),(7,zI x1),(9,Sl.v 1 s6),(10,zI z0),(11,(zI (Int.ofNat k1)))]) Ay (.k0 [false] [] [0,1,6,7,9,10,11]) ?_
    refine .then ?_
    replace hm:=Gp hm;obtain⟨x2,h7,hm⟩:=hm
    refine .reg (eC 2 ((oo (pu 65 [zI x0,zI x1]) none fun v=>some (v,Ay))) (AB h7) (eE)) ?_
    refine .ghs (fr 36 [(0,Sl.v 1 s4),(1,Sl.v 1 s5),(8,zI x2),(9,Sl.v 1 s6),(10,zI z0),(11,(zI (Int.ofNat k1)))]) Ay (.k0 [false] [] [0,1,8,9,10,11]) ?_
    refine .then (.rK (.ghs (fr 36 [(0,Sl.v 1 s4),(1,Sl.v 1 s5),(8,zI x2),(9,Sl.v 1 s6),(10,zI z0),(11,(zI (Int.ofNat k1))),(28,(zB (nt (Bd x2 (0:Int)))))]) Ay (.k0 [false] [] [0,1,8,9,10,11,28]) ?_))
    replace hm:=Ag hm;rcases hm with⟨h8,hm⟩ | ⟨h8,hm⟩
    ·refine BI (nt (Bd x2 (0:Int))) h8 ?_
     refine .then (.rK (.ghs (fr 36 [(4,zI x2)]) Ay (.k0 [false] [] [4]) ?_))
     refine .ret ?_
     exact A7 (zI x2) hm
    ·refine BO (nt (Bd x2 (0:Int))) h8 ?_
     refine .skip (.ghs (fr 36 [(0,Sl.v 1 s4),(1,Sl.v 1 s5),(9,Sl.v 1 s6),(10,zI z0),(11,(zI (Int.ofNat k1)))]) Ay (.k0 [false] [] [0,1,9,10,11]) ?_)
     refine .rK ?_
     exact⟨(s4,s5,s6,z0,(Aj .i64 (Int.add (Int.ofNat k1) (1:Int)))),hm,(.k0 [false] [] [0,1,9,10,11])⟩
  ·refine BO (AY z1 z0) h0 ?_
   refine .exit ?_
   exact⟨(s4,s5),hm,(.k0 [false] [] [0,1])⟩

def bS (pu:Af) (n:Nat) (s0:Sl):OV:=
 (bb (Dp (nt (Nat.beq (Sl.fl s0) 2)) (Nat.beq (Sl.n s0) 0)) (some (Sl.v 1 (KY 1 s0))) none)
def m46 (pu:Af) (n:Nat) (args:LV):OV:=
 (ll args none fun a0 args=>(ll args (oo (Bj 1 a0) none fun s0=>(bS pu n s0)) fun _ _=>none))
theorem r46 {call:A8} (pu:Af) (n:Nat) (hcall:call=Bb tabs isP pu (inl pu)) {args:LV} {v:Value} (hm:m46 pu n args=some v) (_:∀ x∈args,closed2 x=true):args.length≤9∧BN tt call 1 UK (Fr.made 9 args) (Ao tabs) (Fin tt 1 [.tmp 2] v):=by
 subst hcall
 unfold m46 at hm
 replace hm:=Ad hm;obtain⟨a0,args_0,rfl,hm⟩:=hm
 replace hm:=AC hm;obtain⟨rfl,hm⟩:=hm
 replace hm:=Al hm;obtain⟨s0,rfl,hm⟩:=hm
 unfold bS at hm
 refine⟨by simp,?_⟩
 refine .same (F':=(fr 9 [(0,Sl.v 1 s0)])) (H':=Ay) (by kernel_rfl) (by kernel_rfl) ?_
 refine .then (.rK (.ghs (fr 9 [(0,Sl.v 1 s0)]) Ay (.k0 [false] [] [0]) ?_))
 refine .then ?_
 replace hm:=Ae hm;obtain⟨h0,hm⟩:=hm
 refine .reg (eC 5 (Ut Ay ti3 1 s0) (Wh h0) (eE)) ?_
 refine .ghs (fr 9 [(2,(Sl.v 1 (KY 1 s0)))]) Ay (.k0 [false] [] [2]) ?_
 refine .ret ?_
 exact A7 (Sl.v 1 (KY 1 s0)) hm

def bT (pu:Af) (n:Nat) (x0:Int):OV:=
 (bb (Bd x0 (0:Int)) (some (.int .i64 (16:Int))) (oo (EA (G6 .u32 (Aj .u32 (Int.mul (Aj .u32 (Np .u16 x0 (Aj .u16 (Int.sub (.ofNat 0) x0)))) (125613361:Int))) 27)) none fun k1=>(bb (Nat.blt k1 32) (oo (AL OY (0+k1*1)) none fun v0=>(oo (Bi .u8 v0) none fun x1=>(some (.int .i64 (Aj .i64 x1))))) none)))
def m47 (pu:Af) (n:Nat) (args:LV):OV:=
 (ll args none fun a0 args=>(ll args (oo (Bi .u16 a0) none fun x0=>(bT pu n x0)) fun _ _=>none))
theorem r47 {call:A8} (pu:Af) (n:Nat) (hcall:call=Bb tabs isP pu (inl pu)) {args:LV} {v:Value} (hm:m47 pu n args=some v) (_:∀ x∈args,closed2 x=true):args.length≤15∧BN tt call 1 UL (Fr.made 15 args) (Ao tabs) (Fin tt 1 [.tmp 2] v):=by
 subst hcall
 unfold m47 at hm
 replace hm:=Ad hm;obtain⟨a0,args_0,rfl,hm⟩:=hm
 replace hm:=AC hm;obtain⟨rfl,hm⟩:=hm
 replace hm:=Ai hm;obtain⟨x0,rfl,hm⟩:=hm
 unfold bT at hm
 refine⟨by simp,?_⟩
 refine .same (F':=(fr 15 [(0,.int .u16 x0)])) (H':=Ay) (by kernel_rfl) (by kernel_rfl) ?_
 refine .then (.rK (.ghs (fr 15 [(0,.int .u16 x0)]) Ay (.k0 [false] [] [0]) ?_))
 refine .then (.then (.rK (.ghs (fr 15 [(0,.int .u16 x0),(4,(zB (Bd x0 (0:Int))))]) Ay (.k0 [false] [] [0,4]) ?_)))
 replace hm:=Ag hm;rcases hm with⟨h0,hm⟩ | ⟨h0,hm⟩
 ·refine BI (Bd x0 (0:Int)) h0 ?_
  refine .then (.rK (.ghs (fr 15 [(2,(zI (16:Int)))]) Ay (.k0 [false] [] [2]) ?_))
  refine .ret ?_
  exact A7 (zI (16:Int)) hm
 ·refine BO (Bd x0 (0:Int)) h0 ?_
  refine .skip (.ghs (fr 15 [(0,.int .u16 x0)]) Ay (.k0 [false] [] [0]) ?_)
  refine .then ?_
  replace hm:=Ab hm;obtain⟨k1,h1,hm⟩:=hm
  replace hm:=Ae hm;obtain⟨h2,hm⟩:=hm
  replace hm:=Gp hm;obtain⟨x1,h3,hm⟩:=hm
  refine .reg (eC 6 (some ((.int .u32 (G6 .u32 (Aj .u32 (Int.mul (Aj .u32 (Np .u16 x0 (Aj .u16 (Int.sub (.ofNat 0) x0)))) (125613361:Int))) 27)),Ay)) (show _=some ((.int .u32 (Int.ofNat k1)),_) from (by rw[AR h1])) (eD (keep Ay (bb (Nat.blt k1 32) (some (.pointer (some ⟨0,(0+k1*1),none⟩))) none)) (AX h2) (eD (keep Ay (AL OY (0+k1*1))) (AZ h3) (eE)))) ?_
  refine .ghs (fr 15 [(2,(zI (Aj .i64 x1)))]) Ay (.k0 [false] [] [2]) ?_
  refine .ret ?_
  exact A7 (zI (Aj .i64 x1)) hm
def Sj (pu:Af) (n:Nat) (b0:Bool):OV:=
 (some (.bool b0))
def AcF (pu:Af) (n:Nat) (x0 x1 x2:Int):OV:=
 (bb (nt (AY x1 x0)) (Sj pu n (nt (AY x2 x1))) (Sj pu n false))
def m48 (pu:Af) (n:Nat) (args:LV):OV:=
 (ll args none fun a0 args=>(ll args none fun a1 args=>(ll args none fun a2 args=>(ll args (oo (Bi .i64 a0) none fun x0=>(oo (Bi .i64 a1) none fun x1=>(oo (Bi .i64 a2) none fun x2=>(AcF pu n x0 x1 x2)))) fun _ _=>none))))
theorem AcH (pu:Af) (n:Nat) (b0:Bool) {v:Value} (hm:Sj pu n b0=some v):BN tt (Bb tabs isP pu (inl pu)) 1 .ret (fr 15 [(6,zB b0)]) Ay (Fin tt 1 [.tmp 6] v):=by
 unfold Sj at hm
 refine .ret ?_
 exact A7 (zB b0) hm
theorem r48 {call:A8} (pu:Af) (n:Nat) (hcall:call=Bb tabs isP pu (inl pu)) {args:LV} {v:Value} (hm:m48 pu n args=some v) (_:∀ x∈args,closed2 x=true):args.length≤15∧BN tt call 1 UM (Fr.made 15 args) (Ao tabs) (Fin tt 1 [.tmp 6] v):=by
 subst hcall
 unfold m48 at hm
 replace hm:=Ad hm;obtain⟨a0,args_0,rfl,hm⟩:=hm
 replace hm:=Ad hm;obtain⟨a1,args_1,rfl,hm⟩:=hm
 replace hm:=Ad hm;obtain⟨a2,args_2,rfl,hm⟩:=hm
 replace hm:=AC hm;obtain⟨rfl,hm⟩:=hm
 replace hm:=Ai hm;obtain⟨x0,rfl,hm⟩:=hm
 replace hm:=Ai hm;obtain⟨x1,rfl,hm⟩:=hm
 replace hm:=Ai hm;obtain⟨x2,rfl,hm⟩:=hm
 unfold AcF at hm
 refine⟨by simp,?_⟩
 refine .same (F':=(fr 15 [(0,zI x0),(1,zI x1),(2,zI x2)])) (H':=Ay) (by kernel_rfl) (by kernel_rfl) ?_
 refine .then (.rK (.ghs (fr 15 [(0,zI x0),(1,zI x1),(2,zI x2)]) Ay (.k0 [false] [] [0,1,2]) ?_))
 refine .join (v:=v) (fun y:Bool=>((fr 15 [(6,zB y)]),Ay)) (fun y=>Sj pu n y) ?_ ?_
 ·rintro b0 hm
  exact AcH pu n b0 hm
 ·replace hm:=Ag hm;rcases hm with⟨h0,hm⟩ | ⟨h0,hm⟩
  ·refine .reg (eC 2 (some ((zB (nt (AY x1 x0))),Ay)) (show _=some ((zB true),_) from (by rw[show (nt (AY x1 x0))=true from h0])) (eE)) ?_
   exact⟨(nt (AY x2 x1)),hm,(.k0 [false] [] [6])⟩
  ·refine .reg (eC 2 (some ((zB (nt (AY x1 x0))),Ay)) (show _=some ((zB false),_) from (by rw[show (nt (AY x1 x0))=false from h0])) (eE)) ?_
   exact⟨false,hm,(.k0 [false] [] [6])⟩
def VL (pu:Af) (n:Nat) (z0 z1 z2:Int) (s0:Sl) (n0 c0:Nat) (q0:LV):OV:=
 (bb (Au Ah q0) (bb (an (Nat.ble (0+n0*1) (len q0)) (Au Ah (Aq (n0*1) (Am 0 q0)))) (some (.tuple ⟨[(Cv 0 ([.int .i64 z0,.int .i64 z1,.int .i64 z2,Sl.v 1 s0,(Sl.v 1 (Sl.mk n0 0 (Aq (n0*1) (Am 0 q0))))]:LV)),(.int .i64 (0:Int))]⟩)) none) none)
def Yk (pu:Af) (n:Nat) (ih0:Int→Sl→Int→Int→Int→Int→Int→Sl→Int→Int→Int→Sl→Nat→Nat→LV→OV) (z0:Int) (s0:Sl) (z1 z2 z3 z4 z5:Int) (s1:Sl) (z6 z7 z8:Int) (s2:Sl) (n0 c0:Nat) (q0:LV):OV:=
 (bb (Au Ah q0) (ih0 z0 s0 z1 (Aj .i64 (Int.add z2 (1:Int))) z3 z4 z5 s1 z6 z7 z8 s2 n0 c0 q0) none)
def Yl (pu:Af) (n:Nat) (ih0:Int→Sl→Int→Int→Int→Int→Int→Sl→Int→Int→Int→Sl→Nat→Nat→LV→OV) (ih1:Int→Int→Sl→Int→Int→Sl→Int→Int→Int→Int→Int→Sl→Int→Int→Int→Sl→Nat→Nat→LV→OV) (z0 z1:Int) (s0:Sl) (z2 z3:Int) (s1:Sl) (z4 z5 z6 z7 z8:Int) (s2:Sl) (z9 z10 z11:Int) (s3:Sl) (n0 c0:Nat) (q0:LV):OV:=
 (bb (Au Ah q0) (bb (AY z5 z4) (oo (EA z5) none fun k1=>(bb (an (Nat.blt k1 (Sl.n s1)) true) (oo (AL (Sl.cs s1) (k1*1)) none fun v0=>(oo (Bi .i64 v0) none fun x0=>(oo (pu 51 [.int .i64 z1]) none fun v1=>(oo (Bt v1) none fun l0=>(ll l0 none fun v2 l0=>(ll l0 none fun v3 l0=>(ll l0 (oo (Bi .i64 v2) none fun x1=>(oo (Bf v3) none fun b0=>(oo (pu 51 [.int .i64 x0]) none fun v4=>(oo (Bt v4) none fun l1=>(ll l1 none fun v5 l1=>(ll l1 none fun v6 l1=>(ll l1 (oo (Bi .i64 v5) none fun x2=>(oo (Bf v6) none fun b1=>(oo (pu 52 [(.agg ⟨[.int .i64 x1,(.bool b0)]⟩),(.agg ⟨[.int .i64 x2,(.bool b1)]⟩)]) none fun v7=>(oo (Bt v7) none fun l2=>(ll l2 none fun v8 l2=>(ll l2 none fun v9 l2=>(ll l2 (oo (Bi .i64 v8) none fun x3=>(oo (Bf v9) none fun b2=>(oo (pu 53 [(.agg ⟨[.int .i64 x3,(.bool b2)]⟩)]) none fun v10=>(oo (Bi .i64 v10) none fun x4=>(oo (EA x4) none fun k2=>(bb (Bd (Np .u8 (G6 .u8 z0 k2) (1:Int)) (0:Int)) (some (.tuple ⟨[(.pointer none),(.int .i64 (21:Int))]⟩)) (ih1 z0 z1 s0 z2 z3 s1 z4 (Aj .i64 (Int.add (Int.ofNat k1) (1:Int))) z6 z7 z8 s2 z9 z10 z11 s3 n0 c0 q0))))))) fun _ _=>none))))))) fun _ _=>none))))))) fun _ _=>none))))))) none)) (Yk pu n ih0 z0 s0 z2 z3 z6 z7 z8 s2 z9 z10 z11 s3 n0 c0 q0)) none)
def Ym (pu:Af) (n:Nat) (ih0:Int→Sl→Int→Int→Int→Int→Int→Sl→Int→Int→Int→Sl→Nat→Nat→LV→OV) (w:Nat):Int→Int→Sl→Int→Int→Sl→Int→Int→Int→Int→Int→Sl→Int→Int→Int→Sl→Nat→Nat→LV→OV:=
 Nat.rec (motive:=fun _=>Int→Int→Sl→Int→Int→Sl→Int→Int→Int→Int→Int→Sl→Int→Int→Int→Sl→Nat→Nat→LV→OV) (fun _ _ _ _ _ _ _ _ _ _ _ _ _ _ _ _ _ _ _=>none) (fun _ ih1=>Yl pu n ih0 ih1) w
def Yn (pu:Af) (n:Nat) (ih0:Int→Sl→Int→Int→Int→Int→Int→Sl→Int→Int→Int→Sl→Nat→Nat→LV→OV) (z0:Int) (s0:Sl) (z1 z2 z3 z4 z5:Int) (s1:Sl) (z6 z7 z8:Int) (s2:Sl) (n0 c0:Nat) (q0:LV):OV:=
 (bb (Au Ah q0) (bb (AY z2 z1) (oo (EA z2) none fun k1=>(bb (an (Nat.blt k1 (Sl.n s0)) true) (oo (AL (Sl.cs s0) (k1*1)) none fun v0=>(oo (Bi .i64 v0) none fun x0=>(Ym pu n ih0 n z0 x0 s0 z1 (Int.ofNat k1) s1 (Int.ofNat (Sl.n s1)) (0:Int) z3 z4 z5 s1 z6 z7 z8 s2 n0 c0 q0))) none)) (VL pu n z6 z7 z8 s2 n0 c0 q0)) none)
def OC (pu:Af) (n w:Nat):Int→Sl→Int→Int→Int→Int→Int→Sl→Int→Int→Int→Sl→Nat→Nat→LV→OV:=
 Nat.rec (motive:=fun _=>Int→Sl→Int→Int→Int→Int→Int→Sl→Int→Int→Int→Sl→Nat→Nat→LV→OV) (fun _ _ _ _ _ _ _ _ _ _ _ _ _ _ _=>none) (fun _ ih0=>Yn pu n ih0) w
def VM (pu:Af) (n:Nat) (z0 z1 z2 z3:Int) (s0:Sl) (z4 z5 z6:Int) (s1:Sl) (n0 c0:Nat) (q0:LV):OV:=
 (bb (Au Ah q0) (bb (Bd (Np .u8 z0 (1:Int)) (0:Int)) (some (.tuple ⟨[(.pointer none),(.int .i64 (21:Int))]⟩)) (OC pu n n z0 s0 (Int.ofNat (Sl.n s0)) (0:Int) z1 z2 z3 s0 z4 z5 z6 s1 n0 c0 q0)) none)
def VU (pu:Af) (n:Nat) (ih0:Int→Int→Sl→Int→Int→Int→Int→Int→Sl→Int→Int→Int→Sl→Nat→Nat→LV→OV) (z0 z1 z2:Int) (s0:Sl) (z3 z4:Int) (b0:Bool) (z5 z6 z7:Int) (s1:Sl) (z8 z9 z10:Int) (s2:Sl) (n0 c0:Nat) (q0:LV):OV:=
 (bb b0 (some (.tuple ⟨[(.pointer none),(.int .i64 (8:Int))]⟩)) (bb (Au Ah q0) (bb (nt (AY z0 z2)) (some (.tuple ⟨[(.pointer none),(.int .i64 (7:Int))]⟩)) (oo (EA z2) none fun k1=>(oo (pu 66 [(.agg ⟨[.int .i64 z5,.int .i64 z6,.int .i64 z7,Sl.v 1 s1]⟩),(.int .i64 (Int.ofNat k1))]) none fun v0=>(oo (Bj 1 v0) none fun s3=>(bb (GV 1 24 n0 c0 1 q0) (bb (Au Ah (Br (Am 0 q0) [Sl.v 1 s3])) (ih0 (Int.ofNat k1) (jF .u8 z1 (QW .u8 (1:Int) k1)) s0 z3 (Aj .i64 (Int.add z4 (1:Int))) z5 z6 z7 s1 z8 z9 z10 s2 (n0+1) (2*(n0+1)+bb false 1 0) (Br (Am 0 q0) [Sl.v 1 s3])) none) none))))) none))
def Yo (pu:Af) (n:Nat) (ih0:Int→Int→Sl→Int→Int→Int→Int→Int→Sl→Int→Int→Int→Sl→Nat→Nat→LV→OV) (z0 z1:Int) (s0:Sl) (z2 z3 z4 z5 z6:Int) (s1:Sl) (z7 z8 z9:Int) (s2:Sl) (n0 c0:Nat) (q0:LV):OV:=
 (bb (Au Ah q0) (bb (AY z3 z2) (oo (EA z3) none fun k1=>(bb (an (Nat.blt k1 (Sl.n s0)) true) (oo (AL (Sl.cs s0) (k1*1)) none fun v0=>(oo (Bi .i64 v0) none fun x0=>(oo (pu 48 [(.int .i64 (0:Int)),.int .i64 x0,(.int .i64 (7:Int))]) none fun v1=>(oo (Bf v1) none fun b0=>(bb (nt b0) (some (.tuple ⟨[(.pointer none),(.int .i64 (2:Int))]⟩)) (bb (nt (Bd z4 z5)) (oo (pu 51 [.int .i64 x0]) none fun v2=>(oo (Bt v2) none fun l0=>(ll l0 none fun v3 l0=>(ll l0 none fun v4 l0=>(ll l0 (oo (Bi .i64 v3) none fun x1=>(oo (Bf v4) none fun b1=>(VU pu n ih0 z0 z1 x0 s0 z2 (Int.ofNat k1) (Bd (Int.tmod x1 (2:Int)) (1:Int)) z4 z5 z6 s1 z7 z8 z9 s2 n0 c0 q0))) fun _ _=>none))))) (VU pu n ih0 z0 z1 x0 s0 z2 (Int.ofNat k1) false z4 z5 z6 s1 z7 z8 z9 s2 n0 c0 q0))))))) none)) (VM pu n z1 z4 z5 z6 s1 z7 z8 z9 s2 n0 c0 q0)) none)
def VV (pu:Af) (n w:Nat):Int→Int→Sl→Int→Int→Int→Int→Int→Sl→Int→Int→Int→Sl→Nat→Nat→LV→OV:=
 Nat.rec (motive:=fun _=>Int→Int→Sl→Int→Int→Int→Int→Int→Sl→Int→Int→Int→Sl→Nat→Nat→LV→OV) (fun _ _ _ _ _ _ _ _ _ _ _ _ _ _ _ _=>none) (fun _ ih0=>Yo pu n ih0) w
def Sk (pu:Af) (n:Nat) (b0:Bool) (z0 z1 z2:Int) (s0:Sl):OV:=
 (bb b0 (some (.tuple ⟨[(.pointer none),(.int .i64 (1:Int))]⟩)) (VV pu n n (-1:Int) (0:Int) s0 (Int.ofNat (Sl.n s0)) (0:Int) z0 z1 z2 s0 z0 z1 z2 s0 0 0 ([]:LV)))
def AcI (pu:Af) (n:Nat) (x0 x1 x2:Int) (s0:Sl):OV:=
 (oo (pu 48 [(.int .i64 (1:Int)),.int .i64 x0,(.int .i64 (4:Int))]) none fun v0=>(oo (Bf v0) none fun b0=>(bb (nt b0) (Sk pu n true x0 x1 x2 s0) (oo (pu 48 [(.int .i64 (1:Int)),.int .i64 x1,(.int .i64 (4:Int))]) none fun v1=>(oo (Bf v1) none fun b1=>(bb (nt b1) (Sk pu n true x0 x1 x2 s0) (oo (pu 48 [(.int .i64 (1:Int)),.int .i64 x2,(.int .i64 (4:Int))]) none fun v2=>(oo (Bf v2) none fun b2=>(Sk pu n (nt b2) x0 x1 x2 s0)))))))))
def m49 (pu:Af) (n:Nat) (args:LV):OV:=
 (ll args none fun a0 args=>(ll args (oo (Bt a0) none fun l0=>(ll l0 none fun v0 l0=>(ll l0 none fun v1 l0=>(ll l0 none fun v2 l0=>(ll l0 none fun v3 l0=>(ll l0 (oo (Bi .i64 v0) none fun x0=>(oo (Bi .i64 v1) none fun x1=>(oo (Bi .i64 v2) none fun x2=>(oo (Bj 1 v3) none fun s0=>(AcI pu n x0 x1 x2 s0))))) fun _ _=>none)))))) fun _ _=>none))
theorem AcJ (pu:Af) (n:Nat) (z0 z1 z2:Int) (s0:Sl) (n0 c0:Nat) (q0:LV) {v:Value} (hm:VL pu n z0 z1 z2 s0 n0 c0 q0=some v):BN tt (Bb tabs isP pu (inl pu)) 1 XP (fr 110 [(4,pt 1 0)]) (hT 3 [(oC [zI z0,zI z1,zI z2,Sl.v 1 s0,sc 2 0 1 n0 c0]),oC q0]) (Fin tt 1 [.tmp 2,.tmp 3] v):=by
 unfold VL at hm
 refine .then (.rK ?_)
 replace hm:=Ae hm;obtain⟨h0,hm⟩:=hm
 refine .ghs (fr 110 [(2,pt 1 0),(3,(zI (0:Int)))]) (hT 3 [(oC [zI z0,zI z1,zI z2,Sl.v 1 s0,sc 2 0 1 n0 c0]),oC q0]) (.k [2] [false] [.tmp 2 true,.cell 1 4 false] [2,3] ⟨Bq h0,trivial⟩) ?_
 replace hm:=Ae hm;obtain⟨h1,hm⟩:=hm
 refine .ghs (Fr.puts (fr 110 [(2,pt 1 0),(3,(zI (0:Int)))]) [(2,(Cv 0 ([zI z0,zI z1,zI z2,Sl.v 1 s0,(Sl.v 1 (Sl.mk n0 0 (Aq (n0*1) (Am 0 q0))))]:LV)))]) (hT 3 [.dead,.dead]) (.frzC 1 1 4 [zI z0,zI z1,zI z2,Sl.v 1 s0,sc 2 0 1 n0 c0] (an (Nat.ble (0+n0*1) (len q0)) (Au Ah (Aq (n0*1) (Am 0 q0)))) (v:=(sc 2 0 1 n0 c0)) (v':=(Sl.v 1 (Sl.mk n0 0 (Aq (n0*1) (Am 0 q0))))) (H1:=(hT 3 [(oC [zI z0,zI z1,zI z2,Sl.v 1 s0,sc 2 0 1 n0 c0]),.dead])) (imm:=false) (spent:=false) (anc:=[]) h1 (.frzP 1 2 1 0 ([zI z0,zI z1,zI z2,Sl.v 1 s0,(Sl.v 1 (Sl.mk n0 0 (Aq (n0*1) (Am 0 q0))))]:LV) true (anc:=[]) (by kernel_rfl) rfl (E9.id _ _))) ?_
 refine .ret ?_
 exact A7 (.tuple ⟨[(Cv 0 ([zI z0,zI z1,zI z2,Sl.v 1 s0,(Sl.v 1 (Sl.mk n0 0 (Aq (n0*1) (Am 0 q0))))]:LV)),(zI (0:Int))]⟩) hm
theorem AcK (pu:Af) (n:Nat) (z0 z1 z2 z3:Int) (s0:Sl) (z4 z5 z6:Int) (s1:Sl) (n0 c0:Nat) (q0:LV) {v:Value} (hm:VM pu n z0 z1 z2 z3 s0 z4 z5 z6 s1 n0 c0 q0=some v):BN tt (Bb tabs isP pu (inl pu)) 1 XQ (fr 110 [(1,pt 1 0),(4,(pt 2 0)),(6,(zY z0))]) (hT 4 [(oC [zI z1,zI z2,zI z3,Sl.v 1 s0]),(oC [zI z4,zI z5,zI z6,Sl.v 1 s1,sc 3 0 1 n0 c0]),oC q0]) (Fin tt 1 [.tmp 2,.tmp 3] v):=by
 unfold VM at hm
 refine .then (.then (.rK ?_))
 replace hm:=Ae hm;obtain⟨h0,hm⟩:=hm
 refine .ghs (fr 110 [(1,pt 1 0),(4,(pt 2 0)),(6,(zY z0)),(81,(zB (Bd (Np .u8 z0 (1:Int)) (0:Int))))]) (hT 4 [(oC [zI z1,zI z2,zI z3,Sl.v 1 s0]),(oC [zI z4,zI z5,zI z6,Sl.v 1 s1,sc 3 0 1 n0 c0]),oC q0]) (.k [3] [false] [.tmp 1 false,.tmp 4 true,.cell 2 4 false] [1,4,6,81] ⟨Bq h0,trivial⟩) ?_
 replace hm:=Ag hm;rcases hm with⟨h1,hm⟩ | ⟨h1,hm⟩
 ·refine BI (Bd (Np .u8 z0 (1:Int)) (0:Int)) h1 ?_
  refine .then (.rK (.ghs (fr 110 [(2,(.pointer none)),(3,(zI (21:Int)))]) Ay (.k0 [false] [] [2,3]) ?_))
  refine .ret ?_
  exact A7 (.tuple ⟨[(.pointer none),(zI (21:Int))]⟩) hm
 ·refine BO (Bd (Np .u8 z0 (1:Int)) (0:Int)) h1 ?_
  refine .skip (.ghs (fr 110 [(1,pt 1 0),(4,(pt 2 0)),(6,(zY z0))]) (hT 4 [(oC [zI z1,zI z2,zI z3,Sl.v 1 s0]),(oC [zI z4,zI z5,zI z6,Sl.v 1 s1,sc 3 0 1 n0 c0]),oC q0]) (.k [3] [false] [.tmp 1 false,.tmp 4 true,.cell 2 4 false] [1,4,6] ⟨Bq h0,trivial⟩) ?_)
  refine .join (v:=v) (fun y:Int×Int×Int×Sl×Nat×Nat×LV=>((fr 110 [(4,pt 1 0)]),(hT 3 [(oC [(zI y.1),(zI y.2.1),(zI y.2.2.1),(Sl.v 1 y.2.2.2.1),(sc 2 0 1 y.2.2.2.2.1 y.2.2.2.2.2.1)]),(oC y.2.2.2.2.2.2)]))) (fun y=>VL pu n y.1 y.2.1 y.2.2.1 y.2.2.2.1 y.2.2.2.2.1 y.2.2.2.2.2.1 y.2.2.2.2.2.2) ?_ ?_
  ·rintro⟨z7,z8,z9,s2,n1,c1,q1⟩ hm
   exact AcJ pu n z7 z8 z9 s2 n1 c1 q1 hm
  ·refine .then (.rK (.ghs (fr 110 [(1,pt 1 0),(4,(pt 2 0)),(6,(zY z0)),(83,Sl.v 1 s0),(84,(zI (Int.ofNat (Sl.n s0)))),(85,(zI (0:Int)))]) (hT 4 [(oC [zI z1,zI z2,zI z3,Sl.v 1 s0]),(oC [zI z4,zI z5,zI z6,Sl.v 1 s1,sc 3 0 1 n0 c0]),oC q0]) (.k [3] [false] [.tmp 1 false,.tmp 4 true,.cell 2 4 false] [1,4,6,83,84,85] ⟨Bq h0,trivial⟩) ?_))
   refine .block (.loopM (v:=v) (fun y:Int×Sl×Int×Int×Int×Int×Int×Sl×Int×Int×Int×Sl×Nat×Nat×LV=>((fr 110 [(1,pt 1 0),(4,(pt 2 0)),(6,(zY y.1)),(83,(Sl.v 1 y.2.1)),(84,(zI y.2.2.1)),(85,(zI y.2.2.2.1))]),(hT 4 [(oC [(zI y.2.2.2.2.1),(zI y.2.2.2.2.2.1),(zI y.2.2.2.2.2.2.1),(Sl.v 1 y.2.2.2.2.2.2.2.1)]),(oC [(zI y.2.2.2.2.2.2.2.2.1),(zI y.2.2.2.2.2.2.2.2.2.1),(zI y.2.2.2.2.2.2.2.2.2.2.1),(Sl.v 1 y.2.2.2.2.2.2.2.2.2.2.2.1),(sc 3 0 1 y.2.2.2.2.2.2.2.2.2.2.2.2.1 y.2.2.2.2.2.2.2.2.2.2.2.2.2.1)]),(oC y.2.2.2.2.2.2.2.2.2.2.2.2.2.2)]))) (fun w y=>OC pu n w y.1 y.2.1 y.2.2.1 y.2.2.2.1 y.2.2.2.2.1 y.2.2.2.2.2.1 y.2.2.2.2.2.2.1 y.2.2.2.2.2.2.2.1 y.2.2.2.2.2.2.2.2.1 y.2.2.2.2.2.2.2.2.2.1 y.2.2.2.2.2.2.2.2.2.2.1 y.2.2.2.2.2.2.2.2.2.2.2.1 y.2.2.2.2.2.2.2.2.2.2.2.2.1 y.2.2.2.2.2.2.2.2.2.2.2.2.2.1 y.2.2.2.2.2.2.2.2.2.2.2.2.2.2) n ⟨(z0,s0,(Int.ofNat (Sl.n s0)),(0:Int),z1,z2,z3,s0,z4,z5,z6,s1,n0,c0,q0),hm,(.k [3] [false] [.tmp 1 false,.tmp 4 true,.cell 2 4 false] [1,4,6,83,84,85] ⟨Bq h0,trivial⟩)⟩ (fun _=>rfl) ?_)
   rintro w0 ⟨z10,s3,z11,z12,z13,z14,z15,s4,z16,z17,z18,s5,n2,c2,q2⟩ hm
   replace hm:Yn pu n (OC pu n w0) z10 s3 z11 z12 z13 z14 z15 s4 z16 z17 z18 s5 n2 c2 q2=some v:=hm
   unfold Yn at hm
   refine .then (.rK ?_)
   replace hm:=Ae hm;obtain⟨h2,hm⟩:=hm
   refine .ghs (fr 110 [(1,pt 1 0),(4,(pt 2 0)),(6,(zY z10)),(83,Sl.v 1 s3),(84,zI z11),(85,zI z12),(86,(zB (AY z12 z11)))]) (hT 4 [(oC [zI z13,zI z14,zI z15,Sl.v 1 s4]),(oC [zI z16,zI z17,zI z18,Sl.v 1 s5,sc 3 0 1 n2 c2]),oC q2]) (.k [3] [false] [.tmp 1 false,.tmp 4 true,.cell 2 4 false] [1,4,6,83,84,85,86] ⟨Bq h2,trivial⟩) ?_
   refine .then ?_
   replace hm:=Ag hm;rcases hm with⟨h3,hm⟩ | ⟨h3,hm⟩
   ·refine BI (AY z12 z11) h3 ?_
    refine .skip (.ghs (fr 110 [(1,pt 1 0),(4,(pt 2 0)),(6,(zY z10)),(83,Sl.v 1 s3),(84,zI z11),(85,zI z12)]) (hT 4 [(oC [zI z13,zI z14,zI z15,Sl.v 1 s4]),(oC [zI z16,zI z17,zI z18,Sl.v 1 s5,sc 3 0 1 n2 c2]),oC q2]) (.k [3] [false] [.tmp 1 false,.tmp 4 true,.cell 2 4 false] [1,4,6,83,84,85] ⟨Bq h2,trivial⟩) ?_)
    refine .join (v:=v) (fun y:Int×Sl×Int×Int×Int×Int×Int×Sl×Int×Int×Int×Sl×Nat×Nat×LV=>((fr 110 [(1,pt 1 0),(4,(pt 2 0)),(6,(zY y.1)),(83,(Sl.v 1 y.2.1)),(84,(zI y.2.2.1)),(85,(zI y.2.2.2.1))]),(hT 4 [(oC [(zI y.2.2.2.2.1),(zI y.2.2.2.2.2.1),(zI y.2.2.2.2.2.2.1),(Sl.v 1 y.2.2.2.2.2.2.2.1)]),(oC [(zI y.2.2.2.2.2.2.2.2.1),(zI y.2.2.2.2.2.2.2.2.2.1),(zI y.2.2.2.2.2.2.2.2.2.2.1),(Sl.v 1 y.2.2.2.2.2.2.2.2.2.2.2.1),(sc 3 0 1 y.2.2.2.2.2.2.2.2.2.2.2.2.1 y.2.2.2.2.2.2.2.2.2.2.2.2.2.1)]),(oC y.2.2.2.2.2.2.2.2.2.2.2.2.2.2)]))) (fun y=>Yk pu n (OC pu n w0) y.1 y.2.1 y.2.2.1 y.2.2.2.1 y.2.2.2.2.1 y.2.2.2.2.2.1 y.2.2.2.2.2.2.1 y.2.2.2.2.2.2.2.1 y.2.2.2.2.2.2.2.2.1 y.2.2.2.2.2.2.2.2.2.1 y.2.2.2.2.2.2.2.2.2.2.1 y.2.2.2.2.2.2.2.2.2.2.2.1 y.2.2.2.2.2.2.2.2.2.2.2.2.1 y.2.2.2.2.2.2.2.2.2.2.2.2.2.1 y.2.2.2.2.2.2.2.2.2.2.2.2.2.2) ?_ ?_
    ·rintro⟨z19,s6,z20,z21,z22,z23,z24,s7,z25,z26,z27,s8,n3,c3,q3⟩ hm
     unfold Yk at hm
     refine .rK ?_
     replace hm:=Ae hm;obtain⟨h4,hm⟩:=hm
     exact⟨(z19,s6,z20,(Aj .i64 (Int.add z21 (1:Int))),z22,z23,z24,s7,z25,z26,z27,s8,n3,c3,q3),hm,(.k [3] [false] [.tmp 1 false,.tmp 4 true,.cell 2 4 false] [1,4,6,83,84,85] ⟨Bq h4,trivial⟩)⟩
    ·refine .block (.then ?_)
     replace hm:=Ab hm;obtain⟨k1,h5,hm⟩:=hm
     obtain rfl:=AR h5
     replace hm:=Ae hm;obtain⟨h6,hm⟩:=hm
     replace hm:=Gp hm;obtain⟨x0,h7,hm⟩:=hm
     refine .reg (eD (keep (hT 4 [(oC [zI z13,zI z14,zI z15,Sl.v 1 s4]),(oC [zI z16,zI z17,zI z18,Sl.v 1 s5,sc 3 0 1 n2 c2]),oC q2]) (bb (an (Nat.blt k1 (Sl.n s3)) true) (some (Cv (k1*1) (Sl.cs s3))) none)) (AX h6) (eD (keep (hT 4 [(oC [zI z13,zI z14,zI z15,Sl.v 1 s4]),(oC [zI z16,zI z17,zI z18,Sl.v 1 s5,sc 3 0 1 n2 c2]),oC q2]) (AL (Sl.cs s3) (k1*1))) (AZ h7) (eE))) ?_
     refine .ghs (fr 110 [(1,pt 1 0),(4,(pt 2 0)),(6,(zY z10)),(10,zI x0),(83,Sl.v 1 s3),(84,zI z11),(85,(zI (Int.ofNat k1)))]) (hT 4 [(oC [zI z13,zI z14,zI z15,Sl.v 1 s4]),(oC [zI z16,zI z17,zI z18,Sl.v 1 s5,sc 3 0 1 n2 c2]),oC q2]) (.k [3] [false] [.tmp 1 false,.tmp 4 true,.cell 2 4 false] [1,4,6,10,83,84,85] ⟨Bq h2,trivial⟩) ?_
     refine .then (.rK (.ghs (fr 110 [(1,pt 1 0),(4,(pt 2 0)),(6,(zY z10)),(10,zI x0),(83,Sl.v 1 s3),(84,zI z11),(85,(zI (Int.ofNat k1))),(90,Sl.v 1 s4),(91,(zI (Int.ofNat (Sl.n s4)))),(92,(zI (0:Int)))]) (hT 4 [(oC [zI z13,zI z14,zI z15,Sl.v 1 s4]),(oC [zI z16,zI z17,zI z18,Sl.v 1 s5,sc 3 0 1 n2 c2]),oC q2]) (.k [3] [false] [.tmp 1 false,.tmp 4 true,.cell 2 4 false] [1,4,6,10,83,84,85,90,91,92] ⟨Bq h2,trivial⟩) ?_))
     refine .block (.loopM (v:=v) (fun y:Int×Int×Sl×Int×Int×Sl×Int×Int×Int×Int×Int×Sl×Int×Int×Int×Sl×Nat×Nat×LV=>((fr 110 [(1,pt 1 0),(4,(pt 2 0)),(6,(zY y.1)),(10,(zI y.2.1)),(83,(Sl.v 1 y.2.2.1)),(84,(zI y.2.2.2.1)),(85,(zI y.2.2.2.2.1)),(90,(Sl.v 1 y.2.2.2.2.2.1)),(91,(zI y.2.2.2.2.2.2.1)),(92,(zI y.2.2.2.2.2.2.2.1))]),(hT 4 [(oC [(zI y.2.2.2.2.2.2.2.2.1),(zI y.2.2.2.2.2.2.2.2.2.1),(zI y.2.2.2.2.2.2.2.2.2.2.1),(Sl.v 1 y.2.2.2.2.2.2.2.2.2.2.2.1)]),(oC [(zI y.2.2.2.2.2.2.2.2.2.2.2.2.1),(zI y.2.2.2.2.2.2.2.2.2.2.2.2.2.1),(zI y.2.2.2.2.2.2.2.2.2.2.2.2.2.2.1),(Sl.v 1 y.2.2.2.2.2.2.2.2.2.2.2.2.2.2.2.1),(sc 3 0 1 y.2.2.2.2.2.2.2.2.2.2.2.2.2.2.2.2.1 y.2.2.2.2.2.2.2.2.2.2.2.2.2.2.2.2.2.1)]),(oC y.2.2.2.2.2.2.2.2.2.2.2.2.2.2.2.2.2.2)]))) (fun w y=>Ym pu n (OC pu n w0) w y.1 y.2.1 y.2.2.1 y.2.2.2.1 y.2.2.2.2.1 y.2.2.2.2.2.1 y.2.2.2.2.2.2.1 y.2.2.2.2.2.2.2.1 y.2.2.2.2.2.2.2.2.1 y.2.2.2.2.2.2.2.2.2.1 y.2.2.2.2.2.2.2.2.2.2.1 y.2.2.2.2.2.2.2.2.2.2.2.1 y.2.2.2.2.2.2.2.2.2.2.2.2.1 y.2.2.2.2.2.2.2.2.2.2.2.2.2.1 y.2.2.2.2.2.2.2.2.2.2.2.2.2.2.1 y.2.2.2.2.2.2.2.2.2.2.2.2.2.2.2.1 y.2.2.2.2.2.2.2.2.2.2.2.2.2.2.2.2.1 y.2.2.2.2.2.2.2.2.2.2.2.2.2.2.2.2.2.1 y.2.2.2.2.2.2.2.2.2.2.2.2.2.2.2.2.2.2) n ⟨(z10,x0,s3,z11,(Int.ofNat k1),s4,(Int.ofNat (Sl.n s4)),(0:Int),z13,z14,z15,s4,z16,z17,z18,s5,n2,c2,q2),hm,(.k [3] [false] [.tmp 1 false,.tmp 4 true,.cell 2 4 false] [1,4,6,10,83,84,85,90,91,92] ⟨Bq h2,trivial⟩)⟩ (fun _=>rfl) ?_)
     rintro w1 ⟨z28,z29,s9,z30,z31,s10,z32,z33,z34,z35,z36,s11,z37,z38,z39,s12,n4,c5,q5⟩ hm
     replace hm:Yl pu n (OC pu n w0) (Ym pu n (OC pu n w0) w1) z28 z29 s9 z30 z31 s10 z32 z33 z34 z35 z36 s11 z37 z38 z39 s12 n4 c5 q5=some v:=hm
     unfold Yl at hm
     refine .then (.rK ?_)
     replace hm:=Ae hm;obtain⟨h8,hm⟩:=hm
     refine .ghs (fr 110 [(1,pt 1 0),(4,(pt 2 0)),(6,(zY z28)),(10,zI z29),(83,Sl.v 1 s9),(84,zI z30),(85,zI z31),(90,Sl.v 1 s10),(91,zI z32),(92,zI z33),(93,(zB (AY z33 z32)))]) (hT 4 [(oC [zI z34,zI z35,zI z36,Sl.v 1 s11]),(oC [zI z37,zI z38,zI z39,Sl.v 1 s12,sc 3 0 1 n4 c5]),oC q5]) (.k [3] [false] [.tmp 1 false,.tmp 4 true,.cell 2 4 false] [1,4,6,10,83,84,85,90,91,92,93] ⟨Bq h8,trivial⟩) ?_
     refine .then ?_
     replace hm:=Ag hm;rcases hm with⟨h9,hm⟩ | ⟨h9,hm⟩
     ·refine BI (AY z33 z32) h9 ?_
      refine .skip (.ghs (fr 110 [(1,pt 1 0),(4,(pt 2 0)),(6,(zY z28)),(10,zI z29),(83,Sl.v 1 s9),(84,zI z30),(85,zI z31),(90,Sl.v 1 s10),(91,zI z32),(92,zI z33)]) (hT 4 [(oC [zI z34,zI z35,zI z36,Sl.v 1 s11]),(oC [zI z37,zI z38,zI z39,Sl.v 1 s12,sc 3 0 1 n4 c5]),oC q5]) (.k [3] [false] [.tmp 1 false,.tmp 4 true,.cell 2 4 false] [1,4,6,10,83,84,85,90,91,92] ⟨Bq h8,trivial⟩) ?_)
      refine .then (.block (.then ?_))
      replace hm:=Ab hm;obtain⟨k2,h10,hm⟩:=hm
      obtain rfl:=AR h10
      replace hm:=Ae hm;obtain⟨h11,hm⟩:=hm
      replace hm:=Gp hm;obtain⟨x1,h12,hm⟩:=hm
      refine .reg (eD (keep (hT 4 [(oC [zI z34,zI z35,zI z36,Sl.v 1 s11]),(oC [zI z37,zI z38,zI z39,Sl.v 1 s12,sc 3 0 1 n4 c5]),oC q5]) (bb (an (Nat.blt k2 (Sl.n s10)) true) (some (Cv (k2*1) (Sl.cs s10))) none)) (AX h11) (eD (keep (hT 4 [(oC [zI z34,zI z35,zI z36,Sl.v 1 s11]),(oC [zI z37,zI z38,zI z39,Sl.v 1 s12,sc 3 0 1 n4 c5]),oC q5]) (AL (Sl.cs s10) (k2*1))) (AZ h12) (eE))) ?_
      refine .ghs (fr 110 [(1,pt 1 0),(4,(pt 2 0)),(6,(zY z28)),(10,zI z29),(12,zI x1),(83,Sl.v 1 s9),(84,zI z30),(85,zI z31),(90,Sl.v 1 s10),(91,zI z32),(92,(zI (Int.ofNat k2)))]) (hT 4 [(oC [zI z34,zI z35,zI z36,Sl.v 1 s11]),(oC [zI z37,zI z38,zI z39,Sl.v 1 s12,sc 3 0 1 n4 c5]),oC q5]) (.k [3] [false] [.tmp 1 false,.tmp 4 true,.cell 2 4 false] [1,4,6,10,12,83,84,85,90,91,92] ⟨Bq h8,trivial⟩) ?_
      refine .then ?_
      replace hm:=Ab hm;obtain⟨v0,h13,hm⟩:=hm
      replace hm:=BG hm;obtain⟨l0,rfl,hm⟩:=hm
      replace hm:=Ad hm;obtain⟨v1,l16714_0,rfl,hm⟩:=hm
      replace hm:=Ad hm;obtain⟨v2,l16714_1,rfl,hm⟩:=hm
      replace hm:=AC hm;obtain⟨rfl,hm⟩:=hm
      replace hm:=Ai hm;obtain⟨x2,rfl,hm⟩:=hm
      replace hm:=Be hm;obtain⟨b0,rfl,hm⟩:=hm
      replace hm:=Ab hm;obtain⟨v3,h14,hm⟩:=hm
      replace hm:=BG hm;obtain⟨l1,rfl,hm⟩:=hm
      replace hm:=Ad hm;obtain⟨v4,l16724_0,rfl,hm⟩:=hm
      replace hm:=Ad hm;obtain⟨v5,l16724_1,rfl,hm⟩:=hm
      replace hm:=AC hm;obtain⟨rfl,hm⟩:=hm
      replace hm:=Ai hm;obtain⟨x3,rfl,hm⟩:=hm
      replace hm:=Be hm;obtain⟨b1,rfl,hm⟩:=hm
      replace hm:=Ab hm;obtain⟨v6,h15,hm⟩:=hm
      replace hm:=BG hm;obtain⟨l2,rfl,hm⟩:=hm
      replace hm:=Ad hm;obtain⟨v7,l16734_0,rfl,hm⟩:=hm
      replace hm:=Ad hm;obtain⟨v8,l16734_1,rfl,hm⟩:=hm
      replace hm:=AC hm;obtain⟨rfl,hm⟩:=hm
      replace hm:=Ai hm;obtain⟨x4,rfl,hm⟩:=hm
      replace hm:=Be hm;obtain⟨b2,rfl,hm⟩:=hm
      replace hm:=Gp hm;obtain⟨x5,h16,hm⟩:=hm
      refine .reg (eC 1 ((oo (pu 51 [zI z29]) none fun v=>some (v,(hT 4 [(oC [zI z34,zI z35,zI z36,Sl.v 1 s11]),(oC [zI z37,zI z38,zI z39,Sl.v 1 s12,sc 3 0 1 n4 c5]),oC q5])))) (AB h13) (eC 1 ((oo (pu 51 [zI x1]) none fun v=>some (v,(hT 4 [(oC [zI z34,zI z35,zI z36,Sl.v 1 s11]),(oC [zI z37,zI z38,zI z39,Sl.v 1 s12,sc 3 0 1 n4 c5]),oC q5])))) (AB h14) (eD ((oo (pu 52 [(.agg ⟨[zI x2,zB b0]⟩),(.agg ⟨[zI x3,zB b1]⟩)]) none fun v=>some (v,(hT 4 [(oC [zI z34,zI z35,zI z36,Sl.v 1 s11]),(oC [zI z37,zI z38,zI z39,Sl.v 1 s12,sc 3 0 1 n4 c5]),oC q5])))) (AB h15) (eD ((oo (pu 53 [(.agg ⟨[zI x4,zB b2]⟩)]) none fun v=>some (v,(hT 4 [(oC [zI z34,zI z35,zI z36,Sl.v 1 s11]),(oC [zI z37,zI z38,zI z39,Sl.v 1 s12,sc 3 0 1 n4 c5]),oC q5])))) (AB h16) (eE))))) ?_
      refine .ghs (fr 110 [(1,pt 1 0),(4,(pt 2 0)),(6,(zY z28)),(10,zI z29),(13,zI x5),(83,Sl.v 1 s9),(84,zI z30),(85,zI z31),(90,Sl.v 1 s10),(91,zI z32),(92,(zI (Int.ofNat k2)))]) (hT 4 [(oC [zI z34,zI z35,zI z36,Sl.v 1 s11]),(oC [zI z37,zI z38,zI z39,Sl.v 1 s12,sc 3 0 1 n4 c5]),oC q5]) (.k [3] [false] [.tmp 1 false,.tmp 4 true,.cell 2 4 false] [1,4,6,10,13,83,84,85,90,91,92] ⟨Bq h8,trivial⟩) ?_
      refine .then ?_
      replace hm:=Ab hm;obtain⟨k3,h17,hm⟩:=hm
      obtain rfl:=AR h17
      refine .rK (.ghs (fr 110 [(1,pt 1 0),(4,(pt 2 0)),(6,(zY z28)),(10,zI z29),(83,Sl.v 1 s9),(84,zI z30),(85,zI z31),(90,Sl.v 1 s10),(91,zI z32),(92,(zI (Int.ofNat k2))),(106,(zB (Bd (Np .u8 (G6 .u8 z28 k3) (1:Int)) (0:Int))))]) (hT 4 [(oC [zI z34,zI z35,zI z36,Sl.v 1 s11]),(oC [zI z37,zI z38,zI z39,Sl.v 1 s12,sc 3 0 1 n4 c5]),oC q5]) (.k [3] [false] [.tmp 1 false,.tmp 4 true,.cell 2 4 false] [1,4,6,10,83,84,85,90,91,92,106] ⟨Bq h8,trivial⟩) ?_)
      replace hm:=Ag hm;rcases hm with⟨h18,hm⟩ | ⟨h18,hm⟩
      ·refine BI (Bd (Np .u8 (G6 .u8 z28 k3) (1:Int)) (0:Int)) h18 ?_
       refine .then (.rK (.ghs (fr 110 [(2,(.pointer none)),(3,(zI (21:Int)))]) Ay (.k0 [false] [] [2,3]) ?_))
       refine .ret ?_
       exact A7 (.tuple ⟨[(.pointer none),(zI (21:Int))]⟩) hm
      ·refine BO (Bd (Np .u8 (G6 .u8 z28 k3) (1:Int)) (0:Int)) h18 ?_
       refine .skip (.ghs (fr 110 [(1,pt 1 0),(4,(pt 2 0)),(6,(zY z28)),(10,zI z29),(83,Sl.v 1 s9),(84,zI z30),(85,zI z31),(90,Sl.v 1 s10),(91,zI z32),(92,(zI (Int.ofNat k2)))]) (hT 4 [(oC [zI z34,zI z35,zI z36,Sl.v 1 s11]),(oC [zI z37,zI z38,zI z39,Sl.v 1 s12,sc 3 0 1 n4 c5]),oC q5]) (.k [3] [false] [.tmp 1 false,.tmp 4 true,.cell 2 4 false] [1,4,6,10,83,84,85,90,91,92] ⟨Bq h8,trivial⟩) ?_)
       refine .rK ?_
       exact⟨(z28,z29,s9,z30,z31,s10,z32,(Aj .i64 (Int.add (Int.ofNat k2) (1:Int))),z34,z35,z36,s11,z37,z38,z39,s12,n4,c5,q5),hm,(.k [3] [false] [.tmp 1 false,.tmp 4 true,.cell 2 4 false] [1,4,6,10,83,84,85,90,91,92] ⟨Bq h8,trivial⟩)⟩
     ·refine BO (AY z33 z32) h9 ?_
      refine .exit ?_
      exact⟨(z28,s9,z30,z31,z34,z35,z36,s11,z37,z38,z39,s12,n4,c5,q5),hm,(.k [3] [false] [.tmp 1 false,.tmp 4 true,.cell 2 4 false] [1,4,6,83,84,85] ⟨Bq h8,trivial⟩)⟩
   ·refine BO (AY z12 z11) h3 ?_
    refine .exit ?_
    exact⟨(z16,z17,z18,s5,n2,c2,q2),hm,(.k [3] [false] [.tmp 4 true,.cell 1 4 false] [4] ⟨Bq h2,trivial⟩)⟩
theorem r49 {call:A8} (pu:Af) (n:Nat) (hcall:call=Bb tabs isP pu (inl pu)) {args:LV} {v:Value} (hm:m49 pu n args=some v) (_:∀ x∈args,closed2 x=true):args.length≤110∧BN tt call 1 Qt (Fr.made 110 args) (Ao tabs) (Fin tt 1 [.tmp 2,.tmp 3] v):=by
 subst hcall
 unfold m49 at hm
 replace hm:=Ad hm;obtain⟨a0,args_0,rfl,hm⟩:=hm
 replace hm:=AC hm;obtain⟨rfl,hm⟩:=hm
 replace hm:=BG hm;obtain⟨l0,rfl,hm⟩:=hm
 replace hm:=Ad hm;obtain⟨v0,l14949_0,rfl,hm⟩:=hm
 replace hm:=Ad hm;obtain⟨v1,l14949_1,rfl,hm⟩:=hm
 replace hm:=Ad hm;obtain⟨v2,l14949_2,rfl,hm⟩:=hm
 replace hm:=Ad hm;obtain⟨v3,l14949_3,rfl,hm⟩:=hm
 replace hm:=AC hm;obtain⟨rfl,hm⟩:=hm
 replace hm:=Ai hm;obtain⟨x0,rfl,hm⟩:=hm
 replace hm:=Ai hm;obtain⟨x1,rfl,hm⟩:=hm
 replace hm:=Ai hm;obtain⟨x2,rfl,hm⟩:=hm
 replace hm:=Al hm;obtain⟨s0,rfl,hm⟩:=hm
 unfold AcI at hm
 refine⟨by simp,?_⟩
 refine .same (F':=(fr 110 [(0,(.agg ⟨[zI x0,zI x1,zI x2,Sl.v 1 s0]⟩))])) (H':=Ay) (by kernel_rfl) (by kernel_rfl) ?_
 refine .then (.rK (.ghs (fr 110 [(1,pt 1 0)]) (hT 2 [(oC [zI x0,zI x1,zI x2,Sl.v 1 s0])]) (.k0 [false] [.tmp 1 false] [1]) ?_))
 refine .then (.join (v:=v) (fun y:Bool×Int×Int×Int×Sl=>((fr 110 [(1,pt 1 0),(29,(zB y.1))]),(hT 2 [(oC [(zI y.2.1),(zI y.2.2.1),(zI y.2.2.2.1),(Sl.v 1 y.2.2.2.2)])]))) (fun y=>Sk pu n y.1 y.2.1 y.2.2.1 y.2.2.2.1 y.2.2.2.2) ?_ ?_)
 ·rintro⟨b0,z0,z1,z2,s1⟩ hm
  unfold Sk at hm
  replace hm:=Ag hm;rcases hm with⟨h0,hm⟩ | ⟨h0,hm⟩
  ·refine .ifT b0 (by kernel_rfl) h0 ?_
   refine .then (.rK (.ghs (fr 110 [(2,(.pointer none)),(3,(zI (1:Int)))]) Ay (.k0 [false] [] [2,3]) ?_))
   refine .ret ?_
   exact A7 (.tuple ⟨[(.pointer none),(zI (1:Int))]⟩) hm
  ·refine .ifF b0 (by kernel_rfl) h0 ?_
   refine .skip (.ghs (fr 110 [(1,pt 1 0)]) (hT 2 [(oC [zI z0,zI z1,zI z2,Sl.v 1 s1])]) (.k0 [false] [.tmp 1 false] [1]) ?_)
   refine .then (.rK (.ghs (fr 110 [(1,pt 1 0),(4,(pt 2 0))]) (hT 3 [(oC [zI z0,zI z1,zI z2,Sl.v 1 s1]),(oC [zI z0,zI z1,zI z2,Sl.v 1 s1,(.slice none 0 0)])]) (.k0 [false] [.tmp 1 false,.tmp 4 false] [1,4]) ?_))
   refine .then (.rK (.ghs (fr 110 [(1,pt 1 0),(4,(pt 2 0)),(5,(zI (-1:Int)))]) (hT 3 [(oC [zI z0,zI z1,zI z2,Sl.v 1 s1]),(oC [zI z0,zI z1,zI z2,Sl.v 1 s1,(.slice none 0 0)])]) (.k0 [false] [.tmp 1 false,.tmp 4 false] [1,4,5]) ?_))
   refine .then (.rK (.ghs (fr 110 [(1,pt 1 0),(4,(pt 2 0)),(5,(zI (-1:Int))),(6,(zY (0:Int)))]) (hT 3 [(oC [zI z0,zI z1,zI z2,Sl.v 1 s1]),(oC [zI z0,zI z1,zI z2,Sl.v 1 s1,(.slice none 0 0)])]) (.k0 [false] [.tmp 1 false,.tmp 4 false] [1,4,5,6]) ?_))
   refine .join (v:=v) (fun y:Int×Int×Int×Int×Sl×Int×Int×Int×Sl×Nat×Nat×LV=>((fr 110 [(1,pt 1 0),(4,(pt 2 0)),(6,(zY y.1))]),(hT 4 [(oC [(zI y.2.1),(zI y.2.2.1),(zI y.2.2.2.1),(Sl.v 1 y.2.2.2.2.1)]),(oC [(zI y.2.2.2.2.2.1),(zI y.2.2.2.2.2.2.1),(zI y.2.2.2.2.2.2.2.1),(Sl.v 1 y.2.2.2.2.2.2.2.2.1),(sc 3 0 1 y.2.2.2.2.2.2.2.2.2.1 y.2.2.2.2.2.2.2.2.2.2.1)]),(oC y.2.2.2.2.2.2.2.2.2.2.2)]))) (fun y=>VM pu n y.1 y.2.1 y.2.2.1 y.2.2.2.1 y.2.2.2.2.1 y.2.2.2.2.2.1 y.2.2.2.2.2.2.1 y.2.2.2.2.2.2.2.1 y.2.2.2.2.2.2.2.2.1 y.2.2.2.2.2.2.2.2.2.1 y.2.2.2.2.2.2.2.2.2.2.1 y.2.2.2.2.2.2.2.2.2.2.2) ?_ ?_
   ·rintro⟨z3,z4,z5,z6,s2,z7,z8,z9,s3,n0,c0,q0⟩ hm
    exact AcK pu n z3 z4 z5 z6 s2 z7 z8 z9 s3 n0 c0 q0 hm
   ·refine .then (.rK (.ghs (fr 110 [(1,pt 1 0),(4,(pt 2 0)),(5,(zI (-1:Int))),(6,(zY (0:Int))),(34,Sl.v 1 s1),(35,(zI (Int.ofNat (Sl.n s1)))),(36,(zI (0:Int)))]) (hT 3 [(oC [zI z0,zI z1,zI z2,Sl.v 1 s1]),(oC [zI z0,zI z1,zI z2,Sl.v 1 s1,(.slice none 0 0)])]) (.k0 [false] [.tmp 1 false,.tmp 4 false] [1,4,5,6,34,35,36]) ?_))
    refine .block (.loopM (v:=v) (fun y:Int×Int×Sl×Int×Int×Int×Int×Int×Sl×Int×Int×Int×Sl×Nat×Nat×LV=>((fr 110 [(1,pt 1 0),(4,(pt 2 0)),(5,(zI y.1)),(6,(zY y.2.1)),(34,(Sl.v 1 y.2.2.1)),(35,(zI y.2.2.2.1)),(36,(zI y.2.2.2.2.1))]),(hT 4 [(oC [(zI y.2.2.2.2.2.1),(zI y.2.2.2.2.2.2.1),(zI y.2.2.2.2.2.2.2.1),(Sl.v 1 y.2.2.2.2.2.2.2.2.1)]),(oC [(zI y.2.2.2.2.2.2.2.2.2.1),(zI y.2.2.2.2.2.2.2.2.2.2.1),(zI y.2.2.2.2.2.2.2.2.2.2.2.1),(Sl.v 1 y.2.2.2.2.2.2.2.2.2.2.2.2.1),(sc 3 0 1 y.2.2.2.2.2.2.2.2.2.2.2.2.2.1 y.2.2.2.2.2.2.2.2.2.2.2.2.2.2.1)]),(oC y.2.2.2.2.2.2.2.2.2.2.2.2.2.2.2)]))) (fun w y=>VV pu n w y.1 y.2.1 y.2.2.1 y.2.2.2.1 y.2.2.2.2.1 y.2.2.2.2.2.1 y.2.2.2.2.2.2.1 y.2.2.2.2.2.2.2.1 y.2.2.2.2.2.2.2.2.1 y.2.2.2.2.2.2.2.2.2.1 y.2.2.2.2.2.2.2.2.2.2.1 y.2.2.2.2.2.2.2.2.2.2.2.1 y.2.2.2.2.2.2.2.2.2.2.2.2.1 y.2.2.2.2.2.2.2.2.2.2.2.2.2.1 y.2.2.2.2.2.2.2.2.2.2.2.2.2.2.1 y.2.2.2.2.2.2.2.2.2.2.2.2.2.2.2) n ⟨((-1:Int),(0:Int),s1,(Int.ofNat (Sl.n s1)),(0:Int),z0,z1,z2,s1,z0,z1,z2,s1,0,0,([]:LV)),hm,(.thawC 2 4 1 [zI z0,zI z1,zI z2,Sl.v 1 s1,(.slice none 0 0)] (imm:=false) (spent:=false) (anc:=[]) (by kernel_rfl) (by kernel_rfl) (by kernel_rfl) (by kernel_rfl) (.k0 [false] [.tmp 1 false,.tmp 4 true,.cell 2 4 false] [1,4,5,6,34,35,36]))⟩ (fun _=>rfl) ?_)
    rintro w0 ⟨z10,z11,s4,z12,z13,z14,z15,z16,s5,z17,z18,z19,s6,n1,c1,q1⟩ hm
    replace hm:Yo pu n (VV pu n w0) z10 z11 s4 z12 z13 z14 z15 z16 s5 z17 z18 z19 s6 n1 c1 q1=some v:=hm
    unfold Yo at hm
    refine .then (.rK ?_)
    replace hm:=Ae hm;obtain⟨h1,hm⟩:=hm
    refine .ghs (fr 110 [(1,pt 1 0),(4,(pt 2 0)),(5,zI z10),(6,(zY z11)),(34,Sl.v 1 s4),(35,zI z12),(36,zI z13),(37,(zB (AY z13 z12)))]) (hT 4 [(oC [zI z14,zI z15,zI z16,Sl.v 1 s5]),(oC [zI z17,zI z18,zI z19,Sl.v 1 s6,sc 3 0 1 n1 c1]),oC q1]) (.k [3] [false] [.tmp 1 false,.tmp 4 true,.cell 2 4 false] [1,4,5,6,34,35,36,37] ⟨Bq h1,trivial⟩) ?_
    refine .then ?_
    replace hm:=Ag hm;rcases hm with⟨h2,hm⟩ | ⟨h2,hm⟩
    ·refine BI (AY z13 z12) h2 ?_
     refine .skip (.ghs (fr 110 [(1,pt 1 0),(4,(pt 2 0)),(5,zI z10),(6,(zY z11)),(34,Sl.v 1 s4),(35,zI z12),(36,zI z13)]) (hT 4 [(oC [zI z14,zI z15,zI z16,Sl.v 1 s5]),(oC [zI z17,zI z18,zI z19,Sl.v 1 s6,sc 3 0 1 n1 c1]),oC q1]) (.k [3] [false] [.tmp 1 false,.tmp 4 true,.cell 2 4 false] [1,4,5,6,34,35,36] ⟨Bq h1,trivial⟩) ?_)
     refine .then (.block (.then ?_))
     replace hm:=Ab hm;obtain⟨k1,h3,hm⟩:=hm
     obtain rfl:=AR h3
     replace hm:=Ae hm;obtain⟨h4,hm⟩:=hm
     replace hm:=Gp hm;obtain⟨x3,h5,hm⟩:=hm
     refine .reg (eD (keep (hT 4 [(oC [zI z14,zI z15,zI z16,Sl.v 1 s5]),(oC [zI z17,zI z18,zI z19,Sl.v 1 s6,sc 3 0 1 n1 c1]),oC q1]) (bb (an (Nat.blt k1 (Sl.n s4)) true) (some (Cv (k1*1) (Sl.cs s4))) none)) (AX h4) (eD (keep (hT 4 [(oC [zI z14,zI z15,zI z16,Sl.v 1 s5]),(oC [zI z17,zI z18,zI z19,Sl.v 1 s6,sc 3 0 1 n1 c1]),oC q1]) (AL (Sl.cs s4) (k1*1))) (AZ h5) (eE))) ?_
     refine .ghs (fr 110 [(1,pt 1 0),(4,(pt 2 0)),(5,zI z10),(6,(zY z11)),(8,zI x3),(34,Sl.v 1 s4),(35,zI z12),(36,(zI (Int.ofNat k1)))]) (hT 4 [(oC [zI z14,zI z15,zI z16,Sl.v 1 s5]),(oC [zI z17,zI z18,zI z19,Sl.v 1 s6,sc 3 0 1 n1 c1]),oC q1]) (.k [3] [false] [.tmp 1 false,.tmp 4 true,.cell 2 4 false] [1,4,5,6,8,34,35,36] ⟨Bq h1,trivial⟩) ?_
     refine .then (.block (.then ?_))
     replace hm:=X5 hm;obtain⟨b1,h6,hm⟩:=hm
     refine .reg (eC 1 ((oo (pu 48 [(zI (0:Int)),zI x3,(zI (7:Int))]) none fun v=>some (v,(hT 4 [(oC [zI z14,zI z15,zI z16,Sl.v 1 s5]),(oC [zI z17,zI z18,zI z19,Sl.v 1 s6,sc 3 0 1 n1 c1]),oC q1])))) (AB h6) (eE)) ?_
     refine .ghs (fr 110 [(1,pt 1 0),(4,(pt 2 0)),(5,zI z10),(6,(zY z11)),(8,zI x3),(34,Sl.v 1 s4),(35,zI z12),(36,(zI (Int.ofNat k1))),(40,(zB (nt b1)))]) (hT 4 [(oC [zI z14,zI z15,zI z16,Sl.v 1 s5]),(oC [zI z17,zI z18,zI z19,Sl.v 1 s6,sc 3 0 1 n1 c1]),oC q1]) (.k [3] [false] [.tmp 1 false,.tmp 4 true,.cell 2 4 false] [1,4,5,6,8,34,35,36,40] ⟨Bq h1,trivial⟩) ?_
     replace hm:=Ag hm;rcases hm with⟨h7,hm⟩ | ⟨h7,hm⟩
     ·refine BI (nt b1) h7 ?_
      refine .then (.rK (.ghs (fr 110 [(2,(.pointer none)),(3,(zI (2:Int)))]) Ay (.k0 [false] [] [2,3]) ?_))
      refine .ret ?_
      exact A7 (.tuple ⟨[(.pointer none),(zI (2:Int))]⟩) hm
     ·refine BO (nt b1) h7 ?_
      refine .join (v:=v) (fun y:Int×Int×Int×Sl×Int×Int×Bool×Int×Int×Int×Sl×Int×Int×Int×Sl×Nat×Nat×LV=>((fr 110 [(1,pt 1 0),(4,(pt 2 0)),(5,(zI y.1)),(6,(zY y.2.1)),(8,(zI y.2.2.1)),(34,(Sl.v 1 y.2.2.2.1)),(35,(zI y.2.2.2.2.1)),(36,(zI y.2.2.2.2.2.1)),(44,(zB y.2.2.2.2.2.2.1))]),(hT 4 [(oC [(zI y.2.2.2.2.2.2.2.1),(zI y.2.2.2.2.2.2.2.2.1),(zI y.2.2.2.2.2.2.2.2.2.1),(Sl.v 1 y.2.2.2.2.2.2.2.2.2.2.1)]),(oC [(zI y.2.2.2.2.2.2.2.2.2.2.2.1),(zI y.2.2.2.2.2.2.2.2.2.2.2.2.1),(zI y.2.2.2.2.2.2.2.2.2.2.2.2.2.1),(Sl.v 1 y.2.2.2.2.2.2.2.2.2.2.2.2.2.2.1),(sc 3 0 1 y.2.2.2.2.2.2.2.2.2.2.2.2.2.2.2.1 y.2.2.2.2.2.2.2.2.2.2.2.2.2.2.2.2.1)]),(oC y.2.2.2.2.2.2.2.2.2.2.2.2.2.2.2.2.2)]))) (fun y=>VU pu n (VV pu n w0) y.1 y.2.1 y.2.2.1 y.2.2.2.1 y.2.2.2.2.1 y.2.2.2.2.2.1 y.2.2.2.2.2.2.1 y.2.2.2.2.2.2.2.1 y.2.2.2.2.2.2.2.2.1 y.2.2.2.2.2.2.2.2.2.1 y.2.2.2.2.2.2.2.2.2.2.1 y.2.2.2.2.2.2.2.2.2.2.2.1 y.2.2.2.2.2.2.2.2.2.2.2.2.1 y.2.2.2.2.2.2.2.2.2.2.2.2.2.1 y.2.2.2.2.2.2.2.2.2.2.2.2.2.2.1 y.2.2.2.2.2.2.2.2.2.2.2.2.2.2.2.1 y.2.2.2.2.2.2.2.2.2.2.2.2.2.2.2.2.1 y.2.2.2.2.2.2.2.2.2.2.2.2.2.2.2.2.2) ?_ ?_
      ·rintro⟨z20,z21,z22,s7,z23,z24,b2,z25,z26,z27,s8,z28,z29,z30,s9,n2,c2,q2⟩ hm
       unfold VU at hm
       replace hm:=Ag hm;rcases hm with⟨h8,hm⟩ | ⟨h8,hm⟩
       ·refine .ifT b2 (by kernel_rfl) h8 ?_
        refine .then (.rK (.ghs (fr 110 [(2,(.pointer none)),(3,(zI (8:Int)))]) Ay (.k0 [false] [] [2,3]) ?_))
        refine .ret ?_
        exact A7 (.tuple ⟨[(.pointer none),(zI (8:Int))]⟩) hm
       ·refine .ifF b2 (by kernel_rfl) h8 ?_
        refine .then (.rK ?_)
        replace hm:=Ae hm;obtain⟨h9,hm⟩:=hm
        refine .ghs (fr 110 [(1,pt 1 0),(4,(pt 2 0)),(6,(zY z21)),(8,zI z22),(34,Sl.v 1 s7),(35,zI z23),(36,zI z24),(57,(zB (nt (AY z20 z22))))]) (hT 4 [(oC [zI z25,zI z26,zI z27,Sl.v 1 s8]),(oC [zI z28,zI z29,zI z30,Sl.v 1 s9,sc 3 0 1 n2 c2]),oC q2]) (.k [3] [false] [.tmp 1 false,.tmp 4 true,.cell 2 4 false] [1,4,6,8,34,35,36,57] ⟨Bq h9,trivial⟩) ?_
        replace hm:=Ag hm;rcases hm with⟨h10,hm⟩ | ⟨h10,hm⟩
        ·refine BI (nt (AY z20 z22)) h10 ?_
         refine .then (.rK (.ghs (fr 110 [(2,(.pointer none)),(3,(zI (7:Int)))]) Ay (.k0 [false] [] [2,3]) ?_))
         refine .ret ?_
         exact A7 (.tuple ⟨[(.pointer none),(zI (7:Int))]⟩) hm
        ·refine BO (nt (AY z20 z22)) h10 ?_
         refine .skip (.ghs (fr 110 [(1,pt 1 0),(4,(pt 2 0)),(6,(zY z21)),(8,zI z22),(34,Sl.v 1 s7),(35,zI z23),(36,zI z24)]) (hT 4 [(oC [zI z25,zI z26,zI z27,Sl.v 1 s8]),(oC [zI z28,zI z29,zI z30,Sl.v 1 s9,sc 3 0 1 n2 c2]),oC q2]) (.k [3] [false] [.tmp 1 false,.tmp 4 true,.cell 2 4 false] [1,4,6,8,34,35,36] ⟨Bq h9,trivial⟩) ?_)
         refine .then (.rK (.ghs (fr 110 [(1,pt 1 0),(4,(pt 2 0)),(5,zI z22),(6,(zY z21)),(8,zI z22),(34,Sl.v 1 s7),(35,zI z23),(36,zI z24)]) (hT 4 [(oC [zI z25,zI z26,zI z27,Sl.v 1 s8]),(oC [zI z28,zI z29,zI z30,Sl.v 1 s9,sc 3 0 1 n2 c2]),oC q2]) (.k [3] [false] [.tmp 1 false,.tmp 4 true,.cell 2 4 false] [1,4,5,6,8,34,35,36] ⟨Bq h9,trivial⟩) ?_))
         refine .then ?_
         replace hm:=Ab hm;obtain⟨k2,h11,hm⟩:=hm
         obtain rfl:=AR h11
         refine .rK (.ghs (fr 110 [(1,pt 1 0),(4,(pt 2 0)),(5,(zI (Int.ofNat k2))),(6,(zY (jF .u8 z21 (QW .u8 (1:Int) k2)))),(8,(zI (Int.ofNat k2))),(34,Sl.v 1 s7),(35,zI z23),(36,zI z24)]) (hT 4 [(oC [zI z25,zI z26,zI z27,Sl.v 1 s8]),(oC [zI z28,zI z29,zI z30,Sl.v 1 s9,sc 3 0 1 n2 c2]),oC q2]) (.k [3] [false] [.tmp 1 false,.tmp 4 true,.cell 2 4 false] [1,4,5,6,8,34,35,36] ⟨Bq h9,trivial⟩) ?_)
         replace hm:=X4 hm;obtain⟨s10,h12,hm⟩:=hm
         replace hm:=Ae hm;obtain⟨h13,hm⟩:=hm
         refine .reg (eC 7 ((oo (pu 66 [(.agg ⟨[zI z25,zI z26,zI z27,Sl.v 1 s8]⟩),(zI (Int.ofNat k2))]) none fun v=>some (v,(hT 4 [(oC [zI z25,zI z26,zI z27,Sl.v 1 s8]),(oC [zI z28,zI z29,zI z30,Sl.v 1 s9,sc 3 0 1 n2 c2]),oC q2])))) (AB h12) (eC 1 (Oc 1 24 n2 c2 1 3 q2 [Sl.v 1 s10] [] (hT 5 [(oC [zI z25,zI z26,zI z27,Sl.v 1 s8]),(oC [zI z28,zI z29,zI z30,Sl.v 1 s9,sc 3 0 1 n2 c2]),oC q2,(oC [Sl.v 1 s10])])) (I1 h13) (eE))) ?_
         replace hm:=Ae hm;obtain⟨h14,hm⟩:=hm
         refine .ghs (fr 110 [(1,pt 1 0),(4,(pt 2 0)),(5,(zI (Int.ofNat k2))),(6,(zY (jF .u8 z21 (QW .u8 (1:Int) k2)))),(34,Sl.v 1 s7),(35,zI z23),(36,zI z24)]) (hT 4 [(oC [zI z25,zI z26,zI z27,Sl.v 1 s8]),(oC [zI z28,zI z29,zI z30,Sl.v 1 s9,(sc 3 0 1 (n2+1) (d2 (n2+1)))]),(oC (Br (Am 0 q2) [Sl.v 1 s10]))]) (.k [5] [false] [.tmp 1 false,.tmp 4 true,.cell 2 4 false] [1,4,5,6,34,35,36] ⟨Bq h14,trivial⟩) ?_
         refine .rK ?_
         exact⟨((Int.ofNat k2),(jF .u8 z21 (QW .u8 (1:Int) k2)),s7,z23,(Aj .i64 (Int.add z24 (1:Int))),z25,z26,z27,s8,z28,z29,z30,s9,(n2+1),(d2 (n2+1)),(Br (Am 0 q2) [Sl.v 1 s10])),hm,(.k [3] [false] [.tmp 1 false,.tmp 4 true,.cell 2 4 false] [1,4,5,6,34,35,36] ⟨Bq h14,trivial⟩)⟩
      ·replace hm:=Ag hm;rcases hm with⟨h15,hm⟩ | ⟨h15,hm⟩
       ·replace hm:=Ab hm;obtain⟨v4,h16,hm⟩:=hm
        replace hm:=BG hm;obtain⟨l1,rfl,hm⟩:=hm
        replace hm:=Ad hm;obtain⟨v5,l16996_0,rfl,hm⟩:=hm
        replace hm:=Ad hm;obtain⟨v6,l16996_1,rfl,hm⟩:=hm
        replace hm:=AC hm;obtain⟨rfl,hm⟩:=hm
        replace hm:=Ai hm;obtain⟨x4,rfl,hm⟩:=hm
        replace hm:=Be hm;obtain⟨b3,rfl,hm⟩:=hm
        refine .reg (eC 4 (some ((zB (nt (Bd z14 z15))),(hT 4 [(oC [zI z14,zI z15,zI z16,Sl.v 1 s5]),(oC [zI z17,zI z18,zI z19,Sl.v 1 s6,sc 3 0 1 n1 c1]),oC q1]))) (show _=some ((zB true),_) from (by rw[show (nt (Bd z14 z15))=true from h15])) (eC 2 ((oo (pu 51 [zI x3]) none fun v=>some (v,(hT 4 [(oC [zI z14,zI z15,zI z16,Sl.v 1 s5]),(oC [zI z17,zI z18,zI z19,Sl.v 1 s6,sc 3 0 1 n1 c1]),oC q1])))) (AB h16) (eE))) ?_
        exact⟨(z10,z11,x3,s4,z12,(Int.ofNat k1),(Bd (Int.tmod x4 (2:Int)) (1:Int)),z14,z15,z16,s5,z17,z18,z19,s6,n1,c1,q1),hm,(.k [3] [false] [.tmp 1 false,.tmp 4 true,.cell 2 4 false] [1,4,5,6,8,34,35,36,44] ⟨Bq h1,trivial⟩)⟩
       ·refine .reg (eC 4 (some ((zB (nt (Bd z14 z15))),(hT 4 [(oC [zI z14,zI z15,zI z16,Sl.v 1 s5]),(oC [zI z17,zI z18,zI z19,Sl.v 1 s6,sc 3 0 1 n1 c1]),oC q1]))) (show _=some ((zB false),_) from (by rw[show (nt (Bd z14 z15))=false from h15])) (eE)) ?_
        exact⟨(z10,z11,x3,s4,z12,(Int.ofNat k1),false,z14,z15,z16,s5,z17,z18,z19,s6,n1,c1,q1),hm,(.k [3] [false] [.tmp 1 false,.tmp 4 true,.cell 2 4 false] [1,4,5,6,8,34,35,36,44] ⟨Bq h1,trivial⟩)⟩
    ·refine BO (AY z13 z12) h2 ?_
     refine .exit ?_
     exact⟨(z11,z14,z15,z16,s5,z17,z18,z19,s6,n1,c1,q1),hm,(.k [3] [false] [.tmp 1 false,.tmp 4 true,.cell 2 4 false] [1,4,6] ⟨Bq h1,trivial⟩)⟩
 ·replace hm:=X5 hm;obtain⟨b5,h17,hm⟩:=hm
  replace hm:=Ag hm;rcases hm with⟨h18,hm⟩ | ⟨h18,hm⟩
  ·refine .reg (eC 2 ((oo (pu 48 [(zI (1:Int)),zI x0,(zI (4:Int))]) none fun v=>some (v,(hT 2 [(oC [zI x0,zI x1,zI x2,Sl.v 1 s0])])))) (AB h17) (eD (some ((zB (nt b5)),(hT 2 [(oC [zI x0,zI x1,zI x2,Sl.v 1 s0])]))) (show _=some ((zB true),_) from (by rw[show (nt b5)=true from h18])) (eE))) ?_
   exact⟨(true,x0,x1,x2,s0),hm,(.k0 [false] [.tmp 1 false] [1,29])⟩
  ·replace hm:=X5 hm;obtain⟨b6,h19,hm⟩:=hm
   replace hm:=Ag hm;rcases hm with⟨h20,hm⟩ | ⟨h20,hm⟩
   ·refine .reg (eC 2 ((oo (pu 48 [(zI (1:Int)),zI x0,(zI (4:Int))]) none fun v=>some (v,(hT 2 [(oC [zI x0,zI x1,zI x2,Sl.v 1 s0])])))) (AB h17) (eD (some ((zB (nt b5)),(hT 2 [(oC [zI x0,zI x1,zI x2,Sl.v 1 s0])]))) (show _=some ((zB false),_) from (by rw[show (nt b5)=false from h18])) (eC 3 ((oo (pu 48 [(zI (1:Int)),zI x1,(zI (4:Int))]) none fun v=>some (v,(hT 2 [(oC [zI x0,zI x1,zI x2,Sl.v 1 s0])])))) (AB h19) (eD (some ((zB (nt b6)),(hT 2 [(oC [zI x0,zI x1,zI x2,Sl.v 1 s0])]))) (show _=some ((zB true),_) from (by rw[show (nt b6)=true from h20])) (eE))))) ?_
    exact⟨(true,x0,x1,x2,s0),hm,(.k0 [false] [.tmp 1 false] [1,29])⟩
   ·replace hm:=X5 hm;obtain⟨b7,h21,hm⟩:=hm
    refine .reg (eC 2 ((oo (pu 48 [(zI (1:Int)),zI x0,(zI (4:Int))]) none fun v=>some (v,(hT 2 [(oC [zI x0,zI x1,zI x2,Sl.v 1 s0])])))) (AB h17) (eD (some ((zB (nt b5)),(hT 2 [(oC [zI x0,zI x1,zI x2,Sl.v 1 s0])]))) (show _=some ((zB false),_) from (by rw[show (nt b5)=false from h18])) (eC 3 ((oo (pu 48 [(zI (1:Int)),zI x1,(zI (4:Int))]) none fun v=>some (v,(hT 2 [(oC [zI x0,zI x1,zI x2,Sl.v 1 s0])])))) (AB h19) (eD (some ((zB (nt b6)),(hT 2 [(oC [zI x0,zI x1,zI x2,Sl.v 1 s0])]))) (show _=some ((zB false),_) from (by rw[show (nt b6)=false from h20])) (eC 4 ((oo (pu 48 [(zI (1:Int)),zI x2,(zI (4:Int))]) none fun v=>some (v,(hT 2 [(oC [zI x0,zI x1,zI x2,Sl.v 1 s0])])))) (AB h21) (eE)))))) ?_
    exact⟨((nt b7),x0,x1,x2,s0),hm,(.k0 [false] [.tmp 1 false] [1,29])⟩
end
end Go.BkSM
