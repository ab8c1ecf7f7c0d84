/- Made from wip. -/
import Derived.Test.YtflonlkiajhhjaaTpMMod0x

set_option maxRecDepth 100000
set_option maxHeartbeats 20000000
set_option linter.unusedVariables false
namespace Go.TpMM
open Go.Sp Go.TpM
noncomputable section
def Sc (pu:Af) (n n0:Nat) (q0:LV):OV:=
 (some (.tuple ⟨[(Cv n0 q0),(.int .i64 (0:Int))]⟩))
def Wy (pu:Af) (n:Nat) (ih0:Nat→LV→Sl→Int→Int→OV) (n0:Nat) (q0:LV) (s0:Sl) (z0 z1:Int):OV:=
 (bb (AY z1 z0) (oo (EA z1) none fun k1=>(bb (an (Nat.blt k1 (Sl.n s0)) true) (oo (AL (Sl.cs s0) (k1*1)) none fun v0=>(oo (Bj 1 v0) none fun s1=>(oo (pu 43 [(Cv n0 q0),Sl.v 1 s1]) none fun v1=>(oo (Bi .i64 v1) none fun x0=>(bb (nt (Bd x0 (0:Int))) (some (.tuple ⟨[(.pointer none),.int .i64 x0]⟩)) (ih0 n0 q0 s0 z0 (Aj .i64 (Int.add (Int.ofNat k1) (1:Int))))))))) none)) (Sc pu n n0 q0))
def Wz (pu:Af) (n w:Nat):Nat→LV→Sl→Int→Int→OV:=
 Nat.rec (motive:=fun _=>Nat→LV→Sl→Int→Int→OV) (fun _ _ _ _ _=>none) (fun _ ih0=>Wy pu n ih0) w
def Sd (pu:Af) (n:Nat):OV:=
 (some (.tuple ⟨[(.pointer none),(.int .i64 (0:Int))]⟩))
def WA (pu:Af) (n:Nat) (ih0:Sl→Int→Int→OV) (s0:Sl) (z0 z1:Int):OV:=
 (bb (AY z1 z0) (oo (EA z1) none fun k1=>(bb (an (Nat.blt k1 (Sl.n s0)) true) (oo (AL (Sl.cs s0) (k1*1)) none fun v0=>(oo (Bj 1 v0) none fun s1=>(oo (pu 43 [(.pointer none),Sl.v 1 s1]) none fun v1=>(oo (Bi .i64 v1) none fun x0=>(bb (nt (Bd x0 (0:Int))) (some (.tuple ⟨[(.pointer none),.int .i64 x0]⟩)) (ih0 s0 z0 (Aj .i64 (Int.add (Int.ofNat k1) (1:Int))))))))) none)) (Sd pu n))
def WB (pu:Af) (n w:Nat):Sl→Int→Int→OV:=
 Nat.rec (motive:=fun _=>Sl→Int→Int→OV) (fun _ _ _=>none) (fun _ ih0=>WA pu n ih0) w
def Aeh (pu:Af) (n:Nat) (x0 x1 x2:Int) (s0 s1:Sl):OV:=
 (oo (pu 42 [(.agg ⟨[.int .i64 x0,.int .i64 x1,.int .i64 x2,Sl.v 1 s0]⟩)]) none fun v0=>(oo (CQ v0) none fun l0=>(ll l0 none fun v1 l0=>(ll l0 none fun v2 l0=>(ll l0 (bb (isS (Pv v1)) (oo (Pv v1) none fun p0=>(oo (Bi .i64 v2) none fun x3=>(bb (nt (Bd x3 (0:Int))) (some (.tuple ⟨[(.pointer none),.int .i64 x3]⟩)) (Wz pu n n (Db.off p0) (Db.cs p0) s1 (Int.ofNat (Sl.n s1)) (0:Int))))) (bb (V9 v1) (oo (Bi .i64 v2) none fun x4=>(bb (nt (Bd x4 (0:Int))) (some (.tuple ⟨[(.pointer none),.int .i64 x4]⟩)) (WB pu n n s1 (Int.ofNat (Sl.n s1)) (0:Int)))) none)) fun _ _=>none)))))
def m19 (pu:Af) (n:Nat) (args:LV):OV:=
 (ll args none fun a0 args=>(ll args none fun a1 args=>(ll args (oo (Bt a0) none fun l0=>(ll l0 none fun v0 l0=>(ll l0 none fun v1 l0=>(ll l0 none fun v2 l0=>(ll l0 none fun v3 l0=>(ll l0 (oo (Bi .i64 v0) none fun x0=>(oo (Bi .i64 v1) none fun x1=>(oo (Bi .i64 v2) none fun x2=>(oo (Bj 1 v3) none fun s0=>(oo (Bj 1 a1) none fun s1=>(Aeh pu n x0 x1 x2 s0 s1)))))) fun _ _=>none)))))) fun _ _=>none)))
theorem Aei (pu:Af) (n n0:Nat) (q0:LV) {v:Value} (hm:Sc pu n n0 q0=some v):BN tt (Bb tabs isP pu (inl pu)) 0 Qv (fr 33 [(6,(Cv n0 q0))]) (hp 0 []) (Fin tt 0 [.tmp 4,.tmp 5] v):=by
 unfold Sc at hm
 refine .then (.rK (.ghs (fr 33 [(4,(Cv n0 q0)),(5,(zI (0:Int)))]) (hp 0 []) (.k0 [] [] [4,5]) ?_))
 refine .ret ?_
 exact Ay (.tuple ⟨[(Cv n0 q0),(zI (0:Int))]⟩) hm
theorem Aej (pu:Af) (n:Nat) {v:Value} (hm:Sd pu n=some v):BN tt (Bb tabs isP pu (inl pu)) 0 Qv (fr 33 [(6,(.pointer none))]) (hp 0 []) (Fin tt 0 [.tmp 4,.tmp 5] v):=by
 unfold Sd at hm
 refine .then (.rK (.ghs (fr 33 [(4,(.pointer none)),(5,(zI (0:Int)))]) (hp 0 []) (.k0 [] [] [4,5]) ?_))
 refine .ret ?_
 exact Ay (.tuple ⟨[(.pointer none),(zI (0:Int))]⟩) hm
theorem r19 {call:A8} (pu:Af) (n:Nat) (hcall:call=Bb tabs isP pu (inl pu)) {args:LV} {v:Value} (hm:m19 pu n args=some v) (_:∀ x∈args,closed2 x=true):args.length≤33∧BN tt call 0 Oz (Fr.made 33 args) (Ao tabs) (Fin tt 0 [.tmp 4,.tmp 5] v):=by
 subst hcall
 unfold m19 at hm
 replace hm:=Ad hm;obtain⟨a0,args_0,rfl,hm⟩:=hm
 replace hm:=Ad hm;obtain⟨a1,args_1,rfl,hm⟩:=hm
 replace hm:=AC hm;obtain⟨rfl,hm⟩:=hm
 replace hm:=BG hm;obtain⟨l0,rfl,hm⟩:=hm
 replace hm:=Ad hm;obtain⟨v0,l9288_0,rfl,hm⟩:=hm
 replace hm:=Ad hm;obtain⟨v1,l9288_1,rfl,hm⟩:=hm
 replace hm:=Ad hm;obtain⟨v2,l9288_2,rfl,hm⟩:=hm
 replace hm:=Ad hm;obtain⟨v3,l9288_3,rfl,hm⟩:=hm
 replace hm:=AC hm;obtain⟨rfl,hm⟩:=hm
 replace hm:=Ai hm;obtain⟨x0,rfl,hm⟩:=hm
 replace hm:=Ai hm;obtain⟨x1,rfl,hm⟩:=hm
 replace hm:=Ai hm;obtain⟨x2,rfl,hm⟩:=hm
 replace hm:=Al hm;obtain⟨s0,rfl,hm⟩:=hm
 replace hm:=Al hm;obtain⟨s1,rfl,hm⟩:=hm
 unfold Aeh at hm
 refine⟨by simp,?_⟩
 refine .same (F':=(fr 33 [(0,(.agg ⟨[zI x0,zI x1,zI x2,Sl.v 1 s0]⟩)),(1,Sl.v 1 s1)])) (H':=(hp 0 [])) (by kernel_rfl) (by kernel_rfl) ?_
 refine .then (.rK (.ghs (fr 33 [(1,Sl.v 1 s1),(2,(pt 0 0))]) (hp 1 [(oC [zI x0,zI x1,zI x2,Sl.v 1 s0])]) (.k0 [] [.tmp 2 false] [1,2]) ?_))
 refine .then ?_
 replace hm:=Ab hm;obtain⟨v4,h0,hm⟩:=hm
 replace hm:=Ch hm;obtain⟨l1,rfl,hm⟩:=hm
 replace hm:=Ad hm;obtain⟨v5,l9317_0,rfl,hm⟩:=hm
 replace hm:=Ad hm;obtain⟨v6,l9317_1,rfl,hm⟩:=hm
 replace hm:=AC hm;obtain⟨rfl,hm⟩:=hm
 replace hm:=Ag hm;rcases hm with⟨h1,hm⟩ | ⟨h1,hm⟩
 ·replace hm:=Ab hm;obtain⟨p0,h2,hm⟩:=hm
  obtain rfl:=F7 h2
  replace hm:=Ai hm;obtain⟨x3,rfl,hm⟩:=hm
  refine .reg (eC 1 ((oo (pu 42 [(.agg ⟨[zI x0,zI x1,zI x2,Sl.v 1 s0]⟩)]) none fun v=>some (v,(hp 1 [(oC [zI x0,zI x1,zI x2,Sl.v 1 s0])])))) (AB h0) (eE)) ?_
  refine .ghs (fr 33 [(1,Sl.v 1 s1),(6,(Cv (Db.off p0) (Db.cs p0))),(7,zI x3)]) (hp 0 []) (.k0 [] [] [1,6,7]) ?_
  refine .then (.then (.rK (.ghs (fr 33 [(1,Sl.v 1 s1),(6,(Cv (Db.off p0) (Db.cs p0))),(7,zI x3),(17,(zB (nt (Bd x3 (0:Int)))))]) (hp 0 []) (.k0 [] [] [1,6,7,17]) ?_)))
  replace hm:=Ag hm;rcases hm with⟨h3,hm⟩ | ⟨h3,hm⟩
  ·refine A7 (nt (Bd x3 (0:Int))) h3 ?_
   refine .then (.rK (.ghs (fr 33 [(4,(.pointer none)),(5,zI x3)]) (hp 0 []) (.k0 [] [] [4,5]) ?_))
   refine .ret ?_
   exact Ay (.tuple ⟨[(.pointer none),zI x3]⟩) hm
  ·refine Bp (nt (Bd x3 (0:Int))) h3 ?_
   refine .skip (.ghs (fr 33 [(1,Sl.v 1 s1),(6,(Cv (Db.off p0) (Db.cs p0)))]) (hp 0 []) (.k0 [] [] [1,6]) ?_)
   refine .join (v:=v) (fun y:Nat×LV=>((fr 33 [(6,(Cv y.1 y.2))]),(hp 0 []))) (fun y=>Sc pu n y.1 y.2) ?_ ?_
   ·rintro⟨n0,q0⟩ hm
    exact Aei pu n n0 q0 hm
   ·refine .then (.rK (.ghs (fr 33 [(6,(Cv (Db.off p0) (Db.cs p0))),(19,Sl.v 1 s1),(20,(zI (Int.ofNat (Sl.n s1)))),(21,(zI (0:Int)))]) (hp 0 []) (.k0 [] [] [6,19,20,21]) ?_))
    refine .block (.loopM (v:=v) (fun y:Nat×LV×Sl×Int×Int=>((fr 33 [(6,(Cv y.1 y.2.1)),(19,(Sl.v 1 y.2.2.1)),(20,(zI y.2.2.2.1)),(21,(zI y.2.2.2.2))]),(hp 0 []))) (fun w y=>Wz pu n w y.1 y.2.1 y.2.2.1 y.2.2.2.1 y.2.2.2.2) n ⟨((Db.off p0),(Db.cs p0),s1,(Int.ofNat (Sl.n s1)),(0:Int)),hm,(.k0 [] [] [6,19,20,21])⟩ (fun _=>rfl) ?_)
    rintro w0 ⟨n1,q1,s2,z0,z1⟩ hm
    replace hm:Wy pu n (Wz pu n w0) n1 q1 s2 z0 z1=some v:=hm
    unfold Wy at hm
    refine .then (.rK (.ghs (fr 33 [(6,(Cv n1 q1)),(19,Sl.v 1 s2),(20,zI z0),(21,zI z1),(22,(zB (AY z1 z0)))]) (hp 0 []) (.k0 [] [] [6,19,20,21,22]) ?_))
    refine .then ?_
    replace hm:=Ag hm;rcases hm with⟨h4,hm⟩ | ⟨h4,hm⟩
    ·refine A7 (AY z1 z0) h4 ?_
     refine .skip (.ghs (fr 33 [(6,(Cv n1 q1)),(19,Sl.v 1 s2),(20,zI z0),(21,zI z1)]) (hp 0 []) (.k0 [] [] [6,19,20,21]) ?_)
     refine .then (.block (.then ?_))
     replace hm:=Ab hm;obtain⟨k1,h5,hm⟩:=hm
     obtain rfl:=AR h5
     replace hm:=Ae hm;obtain⟨h6,hm⟩:=hm
     replace hm:=I9 hm;obtain⟨s3,h7,hm⟩:=hm
     refine .reg (eD (keep (hp 0 []) (bb (an (Nat.blt k1 (Sl.n s2)) true) (some (Cv (k1*1) (Sl.cs s2))) none)) (AX h6) (eD (keep (hp 0 []) (AL (Sl.cs s2) (k1*1))) (AZ h7) (eE))) ?_
     refine .ghs (fr 33 [(6,(Cv n1 q1)),(9,Sl.v 1 s3),(19,Sl.v 1 s2),(20,zI z0),(21,(zI (Int.ofNat k1)))]) (hp 0 []) (.k0 [] [] [6,9,19,20,21]) ?_
     refine .then ?_
     replace hm:=Dn hm;obtain⟨x4,h8,hm⟩:=hm
     refine .reg (eC 2 ((oo (pu 43 [(Cv n1 q1),Sl.v 1 s3]) none fun v=>some (v,(hp 0 [])))) (AB h8) (eE)) ?_
     refine .ghs (fr 33 [(6,(Cv n1 q1)),(10,zI x4),(19,Sl.v 1 s2),(20,zI z0),(21,(zI (Int.ofNat k1)))]) (hp 0 []) (.k0 [] [] [6,10,19,20,21]) ?_
     refine .then (.rK (.ghs (fr 33 [(6,(Cv n1 q1)),(10,zI x4),(19,Sl.v 1 s2),(20,zI z0),(21,(zI (Int.ofNat k1))),(29,(zB (nt (Bd x4 (0:Int)))))]) (hp 0 []) (.k0 [] [] [6,10,19,20,21,29]) ?_))
     replace hm:=Ag hm;rcases hm with⟨h9,hm⟩ | ⟨h9,hm⟩
     ·refine A7 (nt (Bd x4 (0:Int))) h9 ?_
      refine .then (.rK (.ghs (fr 33 [(4,(.pointer none)),(5,zI x4)]) (hp 0 []) (.k0 [] [] [4,5]) ?_))
      refine .ret ?_
      exact Ay (.tuple ⟨[(.pointer none),zI x4]⟩) hm
     ·refine Bp (nt (Bd x4 (0:Int))) h9 ?_
      refine .skip (.ghs (fr 33 [(6,(Cv n1 q1)),(19,Sl.v 1 s2),(20,zI z0),(21,(zI (Int.ofNat k1)))]) (hp 0 []) (.k0 [] [] [6,19,20,21]) ?_)
      refine .rK ?_
      exact⟨(n1,q1,s2,z0,(Aj .i64 (Int.add (Int.ofNat k1) (1:Int)))),hm,(.k0 [] [] [6,19,20,21])⟩
    ·refine Bp (AY z1 z0) h4 ?_
     refine .exit ?_
     exact⟨(n1,q1),hm,(.k0 [] [] [6])⟩
 ·replace hm:=Ae hm;obtain⟨h10,hm⟩:=hm
  obtain rfl:=O9 h10
  replace hm:=Ai hm;obtain⟨x5,rfl,hm⟩:=hm
  refine .reg (eC 1 ((oo (pu 42 [(.agg ⟨[zI x0,zI x1,zI x2,Sl.v 1 s0]⟩)]) none fun v=>some (v,(hp 1 [(oC [zI x0,zI x1,zI x2,Sl.v 1 s0])])))) (AB h0) (eE)) ?_
  refine .ghs (fr 33 [(1,Sl.v 1 s1),(6,(.pointer none)),(7,zI x5)]) (hp 0 []) (.k0 [] [] [1,6,7]) ?_
  refine .then (.then (.rK (.ghs (fr 33 [(1,Sl.v 1 s1),(6,(.pointer none)),(7,zI x5),(17,(zB (nt (Bd x5 (0:Int)))))]) (hp 0 []) (.k0 [] [] [1,6,7,17]) ?_)))
  replace hm:=Ag hm;rcases hm with⟨h11,hm⟩ | ⟨h11,hm⟩
  ·refine A7 (nt (Bd x5 (0:Int))) h11 ?_
   refine .then (.rK (.ghs (fr 33 [(4,(.pointer none)),(5,zI x5)]) (hp 0 []) (.k0 [] [] [4,5]) ?_))
   refine .ret ?_
   exact Ay (.tuple ⟨[(.pointer none),zI x5]⟩) hm
  ·refine Bp (nt (Bd x5 (0:Int))) h11 ?_
   refine .skip (.ghs (fr 33 [(1,Sl.v 1 s1),(6,(.pointer none))]) (hp 0 []) (.k0 [] [] [1,6]) ?_)
   refine .join (v:=v) (fun y:Unit=>((fr 33 [(6,(.pointer none))]),(hp 0 []))) (fun y=>Sd pu n) ?_ ?_
   ·rintro _ hm
    exact Aej pu n hm
   ·refine .then (.rK (.ghs (fr 33 [(6,(.pointer none)),(19,Sl.v 1 s1),(20,(zI (Int.ofNat (Sl.n s1)))),(21,(zI (0:Int)))]) (hp 0 []) (.k0 [] [] [6,19,20,21]) ?_))
    refine .block (.loopM (v:=v) (fun y:Sl×Int×Int=>((fr 33 [(6,(.pointer none)),(19,(Sl.v 1 y.1)),(20,(zI y.2.1)),(21,(zI y.2.2))]),(hp 0 []))) (fun w y=>WB pu n w y.1 y.2.1 y.2.2) n ⟨(s1,(Int.ofNat (Sl.n s1)),(0:Int)),hm,(.k0 [] [] [6,19,20,21])⟩ (fun _=>rfl) ?_)
    rintro w0 ⟨s4,z2,z3⟩ hm
    replace hm:WA pu n (WB pu n w0) s4 z2 z3=some v:=hm
    unfold WA at hm
    refine .then (.rK (.ghs (fr 33 [(6,(.pointer none)),(19,Sl.v 1 s4),(20,zI z2),(21,zI z3),(22,(zB (AY z3 z2)))]) (hp 0 []) (.k0 [] [] [6,19,20,21,22]) ?_))
    refine .then ?_
    replace hm:=Ag hm;rcases hm with⟨h12,hm⟩ | ⟨h12,hm⟩
    ·refine A7 (AY z3 z2) h12 ?_
     refine .skip (.ghs (fr 33 [(6,(.pointer none)),(19,Sl.v 1 s4),(20,zI z2),(21,zI z3)]) (hp 0 []) (.k0 [] [] [6,19,20,21]) ?_)
     refine .then (.block (.then ?_))
     replace hm:=Ab hm;obtain⟨k2,h13,hm⟩:=hm
     obtain rfl:=AR h13
     replace hm:=Ae hm;obtain⟨h14,hm⟩:=hm
     replace hm:=I9 hm;obtain⟨s5,h15,hm⟩:=hm
     refine .reg (eD (keep (hp 0 []) (bb (an (Nat.blt k2 (Sl.n s4)) true) (some (Cv (k2*1) (Sl.cs s4))) none)) (AX h14) (eD (keep (hp 0 []) (AL (Sl.cs s4) (k2*1))) (AZ h15) (eE))) ?_
     refine .ghs (fr 33 [(6,(.pointer none)),(9,Sl.v 1 s5),(19,Sl.v 1 s4),(20,zI z2),(21,(zI (Int.ofNat k2)))]) (hp 0 []) (.k0 [] [] [6,9,19,20,21]) ?_
     refine .then ?_
     replace hm:=Dn hm;obtain⟨x6,h16,hm⟩:=hm
     refine .reg (eC 2 ((oo (pu 43 [(.pointer none),Sl.v 1 s5]) none fun v=>some (v,(hp 0 [])))) (AB h16) (eE)) ?_
     refine .ghs (fr 33 [(6,(.pointer none)),(10,zI x6),(19,Sl.v 1 s4),(20,zI z2),(21,(zI (Int.ofNat k2)))]) (hp 0 []) (.k0 [] [] [6,10,19,20,21]) ?_
     refine .then (.rK (.ghs (fr 33 [(6,(.pointer none)),(10,zI x6),(19,Sl.v 1 s4),(20,zI z2),(21,(zI (Int.ofNat k2))),(29,(zB (nt (Bd x6 (0:Int)))))]) (hp 0 []) (.k0 [] [] [6,10,19,20,21,29]) ?_))
     replace hm:=Ag hm;rcases hm with⟨h17,hm⟩ | ⟨h17,hm⟩
     ·refine A7 (nt (Bd x6 (0:Int))) h17 ?_
      refine .then (.rK (.ghs (fr 33 [(4,(.pointer none)),(5,zI x6)]) (hp 0 []) (.k0 [] [] [4,5]) ?_))
      refine .ret ?_
      exact Ay (.tuple ⟨[(.pointer none),zI x6]⟩) hm
     ·refine Bp (nt (Bd x6 (0:Int))) h17 ?_
      refine .skip (.ghs (fr 33 [(6,(.pointer none)),(19,Sl.v 1 s4),(20,zI z2),(21,(zI (Int.ofNat k2)))]) (hp 0 []) (.k0 [] [] [6,19,20,21]) ?_)
      refine .rK ?_
      exact⟨(s4,z2,(Aj .i64 (Int.add (Int.ofNat k2) (1:Int)))),hm,(.k0 [] [] [6,19,20,21])⟩
    ·refine Bp (AY z3 z2) h12 ?_
     refine .exit ?_
     exact⟨(),hm,(.k0 [] [] [6])⟩
def Sg (pu:Af) (n n0 c0:Nat) (q0:LV):OV:=
 (bb (Dp (Nat.ble 2 c0) (MQ q0)) (bb (Au Ah q0) (oo (pu 10440 [(.slice (some ⟨0,0,some 1⟩) n0 c0),(.func (.func 45) ⟨[]⟩ ⟨[]⟩),(.agg ⟨q0⟩)]) none fun v0=>(oo (CQ v0) none fun l0=>(ll l0 none fun v1 l0=>(ll l0 none fun v2 l0=>(ll l0 (bb (Pm v1) (oo (Bt v2) none fun q1=>(bb (Au Ah q1) (bb (Au Ah q1) (bb (Dp (Nat.ble 2 c0) (MQ q1)) (bb (Au Ah q1) (oo (pu 10460 [(.slice (some ⟨0,0,some 1⟩) n0 c0),(.func (.func 47) ⟨[]⟩ ⟨[]⟩),(.agg ⟨q1⟩)]) none fun v3=>(oo (CQ v3) none fun l1=>(ll l1 none fun v4 l1=>(ll l1 none fun v5 l1=>(ll l1 (oo (Hw 0 0 1 v4) none fun y0=>(oo (Bt v5) none fun q2=>(bb (Au Ah q2) (bb (Au Ah q2) (bb (an (Nat.ble (0+(NC.n y0)*1) (len q2)) (Au Ah (Aq ((NC.n y0)*1) (Am 0 q2)))) (some (Sl.v 1 (Sl.mk (NC.n y0) 0 (Aq ((NC.n y0)*1) (Am 0 q2))))) none) none) none))) fun _ _=>none))))) none) none) none) none)) none) fun _ _=>none))))) none) none)
def WC (pu:Af) (n:Nat) (ih0:Nat→LV→Sl→Nat→Nat→Int→Int→LV→OV) (n0:Nat) (q0:LV) (s0:Sl) (n1 c0:Nat) (z0 z1:Int) (q1:LV):OV:=
 (bb (Au Ah q1) (bb (AY z1 z0) (oo (pu 37 [(Cv n0 q0),Sl.v 1 s0,.int .i64 z1]) none fun v0=>(oo (Bj 1 v0) none fun s1=>(bb (GV 1 24 n1 c0 1 q1) (bb (Au Ah (Br (Am 0 q1) [Sl.v 1 s1])) (ih0 n0 q0 s0 (n1+1) (2*(n1+1)+bb false 1 0) z0 (Aj .i64 (Int.add z1 (1:Int))) (Br (Am 0 q1) [Sl.v 1 s1])) none) none))) (Sg pu n n1 c0 q1)) none)
def WE (pu:Af) (n w:Nat):Nat→LV→Sl→Nat→Nat→Int→Int→LV→OV:=
 Nat.rec (motive:=fun _=>Nat→LV→Sl→Nat→Nat→Int→Int→LV→OV) (fun _ _ _ _ _ _ _ _=>none) (fun _ ih0=>WC pu n ih0) w
def Aek (pu:Af) (n:Nat) (p0:Db) (s0:Sl):OV:=
 (oo (AL (Db.cs p0) (((Db.off p0)+0)+3)) none fun v0=>(oo (Bj 1 v0) none fun s1=>(WE pu n n (Db.off p0) (Db.cs p0) s0 0 0 (Int.ofNat (Sl.n s1)) (0:Int) ([]:LV))))
def m20 (pu:Af) (n:Nat) (args:LV):OV:=
 (ll args none fun a0 args=>(ll args none fun a1 args=>(ll args (oo (Pv a0) none fun p0=>(oo (Bj 1 a1) none fun s0=>(Aek pu n p0 s0))) fun _ _=>none)))
theorem Ael (pu:Af) (n n0 c0:Nat) (q0:LV) {v:Value} (hm:Sg pu n n0 c0 q0=some v):BN tt (Bb tabs isP pu (inl pu)) 0 UG (fr 28 [(5,sc 0 0 1 n0 c0)]) (hp 1 [oC q0]) (Fin tt 0 [.tmp 4] v):=by
 unfold Sg at hm
 refine .then ?_
 replace hm:=Ae hm;obtain⟨h0,hm⟩:=hm
 replace hm:=Ae hm;obtain⟨h1,hm⟩:=hm
 replace hm:=Ab hm;obtain⟨v0,h2,hm⟩:=hm
 replace hm:=Ch hm;obtain⟨l0,rfl,hm⟩:=hm
 replace hm:=Ad hm;obtain⟨v1,l10264_0,rfl,hm⟩:=hm
 replace hm:=Ad hm;obtain⟨v2,l10264_1,rfl,hm⟩:=hm
 replace hm:=AC hm;obtain⟨rfl,hm⟩:=hm
 replace hm:=Ae hm;obtain⟨h3,hm⟩:=hm
 obtain rfl:=Ki h3
 replace hm:=BG hm;obtain⟨q1,rfl,hm⟩:=hm
 replace hm:=Ae hm;obtain⟨h4,hm⟩:=hm
 refine .reg (eC 1 (Gp tabs [[none],[none]] 2 [.tmp 0 false] [false] (pu 10440) [sc 0 0 1 n0 c0,(.func (.func 45) ⟨[]⟩ ⟨[]⟩)] (hp 1 [oC q0])) (HV (as:=[sc 0 0 1 n0 c0,(.func (.func 45) ⟨[]⟩ ⟨[]⟩)]) (H1:=(hp 1 [oC q0])) (Fh (Gm Jb) (Fh (Gm Jb) KJ)) (Hz (H2:=(hp 1 [oC q1])) (v:=(.tuple ⟨[]⟩)) (v':=(.tuple ⟨[]⟩)) [some 0] [(false,some 0)] [oC q0] [sc 0 0 1 n0 c0,(.func (.func 45) ⟨[]⟩ ⟨[]⟩)] [(.agg ⟨q1⟩)] [oC q1] [some 0] [(false,oC q1)] [oC q1] (sF (by kernel_rfl) (RO h0 rfl)) (FM (Jh (anc:=[]) h1) DT) (Eq.trans (by kernel_rfl) h2) (FM rfl DT) (FM (Ji h4) DT))) (eE)) ?_
 replace hm:=Ae hm;obtain⟨h5,hm⟩:=hm
 refine .ghs (fr 28 [(5,sc 0 0 1 n0 c0)]) (hp 1 [oC q1]) (.k [0] [] [.tmp 5 false] [5] ⟨AO h5,trivial⟩) ?_
 refine .then ?_
 replace hm:=Ae hm;obtain⟨h6,hm⟩:=hm
 replace hm:=Ae hm;obtain⟨h7,hm⟩:=hm
 replace hm:=Ab hm;obtain⟨v3,h8,hm⟩:=hm
 replace hm:=Ch hm;obtain⟨l1,rfl,hm⟩:=hm
 replace hm:=Ad hm;obtain⟨v4,l15903_0,rfl,hm⟩:=hm
 replace hm:=Ad hm;obtain⟨v5,l15903_1,rfl,hm⟩:=hm
 replace hm:=AC hm;obtain⟨rfl,hm⟩:=hm
 replace hm:=Ab hm;obtain⟨y0,h9,hm⟩:=hm
 obtain rfl:=FD h9
 replace hm:=BG hm;obtain⟨q2,rfl,hm⟩:=hm
 replace hm:=Ae hm;obtain⟨h10,hm⟩:=hm
 refine .reg (eC 1 (Gp tabs [[none],[none]] 2 [.tmp 0 false] [false] (pu 10460) [sc 0 0 1 n0 c0,(.func (.func 47) ⟨[]⟩ ⟨[]⟩)] (hp 1 [oC q1])) (HV (as:=[sc 0 0 1 n0 c0,(.func (.func 47) ⟨[]⟩ ⟨[]⟩)]) (H1:=(hp 1 [oC q1])) (Fh (Gm Jb) (Fh (Gm Jb) KJ)) (Hz (H2:=(hp 1 [oC q2])) (v:=(sc 0 0 1 (NC.n y0) (NC.c y0))) (v':=(sc 0 0 1 (NC.n y0) (NC.c y0))) [some 0] [(false,some 0)] [oC q1] [sc 0 0 1 n0 c0,(.func (.func 47) ⟨[]⟩ ⟨[]⟩)] [(.agg ⟨q2⟩)] [oC q2] [some 0] [(false,oC q2)] [oC q2] (sF (by kernel_rfl) (RO h6 rfl)) (FM (Jh (anc:=[]) h7) DT) (Eq.trans (by kernel_rfl) h8) (FM rfl DT) (FM (Ji h10) DT))) (eE)) ?_
 replace hm:=Ae hm;obtain⟨h11,hm⟩:=hm
 refine .ghs (fr 28 [(4,(sc 0 0 1 (NC.n y0) (NC.c y0)))]) (hp 1 [oC q2]) (.k [0] [] [.tmp 4 false] [4] ⟨AO h11,trivial⟩) ?_
 replace hm:=Ae hm;obtain⟨h12,hm⟩:=hm
 refine .ghs (Fr.puts (fr 28 [(4,(sc 0 0 1 (NC.n y0) (NC.c y0)))]) [(4,(Sl.v 1 (Sl.mk (NC.n y0) 0 (Aq ((NC.n y0)*1) (Am 0 q2)))))]) (hp 1 [.dead]) (.freezeC 0 4 1 (an (Nat.ble (0+(NC.n y0)*1) (len q2)) (Au Ah (Aq ((NC.n y0)*1) (Am 0 q2)))) (F1:=(Fr.puts (fr 28 [(4,(sc 0 0 1 (NC.n y0) (NC.c y0)))]) [(4,(Sl.v 1 (Sl.mk (NC.n y0) 0 (Aq ((NC.n y0)*1) (Am 0 q2)))))])) (H1:=(hp 1 [.dead])) (by kernel_rfl) (by kernel_rfl) h12 (E9.id _ _)) ?_
 refine .ret ?_
 exact Ay (Sl.v 1 (Sl.mk (NC.n y0) 0 (Aq ((NC.n y0)*1) (Am 0 q2)))) hm
theorem r20 {call:A8} (pu:Af) (n:Nat) (hcall:call=Bb tabs isP pu (inl pu)) {args:LV} {v:Value} (hm:m20 pu n args=some v) (_:∀ x∈args,closed2 x=true):args.length≤28∧BN tt call 0 OA (Fr.made 28 args) (Ao tabs) (Fin tt 0 [.tmp 4] v):=by
 subst hcall
 unfold m20 at hm
 replace hm:=Ad hm;obtain⟨a0,args_0,rfl,hm⟩:=hm
 replace hm:=Ad hm;obtain⟨a1,args_1,rfl,hm⟩:=hm
 replace hm:=AC hm;obtain⟨rfl,hm⟩:=hm
 replace hm:=Ab hm;obtain⟨p0,h0,hm⟩:=hm
 obtain rfl:=F7 h0
 replace hm:=Al hm;obtain⟨s0,rfl,hm⟩:=hm
 unfold Aek at hm
 refine⟨by simp,?_⟩
 refine .same (F':=(fr 28 [(0,(Cv (Db.off p0) (Db.cs p0))),(1,Sl.v 1 s0)])) (H':=(hp 0 [])) (by kernel_rfl) (by kernel_rfl) ?_
 refine .then (.rK (.ghs (fr 28 [(0,(Cv (Db.off p0) (Db.cs p0))),(1,Sl.v 1 s0)]) (hp 0 []) (.k0 [] [] [0,1]) ?_))
 refine .then (.rK (.ghs (fr 28 [(0,(Cv (Db.off p0) (Db.cs p0))),(1,Sl.v 1 s0),(5,(.slice none 0 0))]) (hp 0 []) (.k0 [] [] [0,1,5]) ?_))
 refine .join (v:=v) (fun y:Nat×Nat×LV=>((fr 28 [(5,(sc 0 0 1 y.1 y.2.1))]),(hp 1 [(oC y.2.2)]))) (fun y=>Sg pu n y.1 y.2.1 y.2.2) ?_ ?_
 ·rintro⟨n0,c0,q0⟩ hm
  exact Ael pu n n0 c0 q0 hm
 ·refine .then ?_
  replace hm:=I9 hm;obtain⟨s1,h1,hm⟩:=hm
  refine .reg (eC 4 (keep (hp 0 []) (AL (Db.cs p0) (((Db.off p0)+0)+3))) (AZ h1) (eE)) ?_
  refine .ghs (fr 28 [(0,(Cv (Db.off p0) (Db.cs p0))),(1,Sl.v 1 s0),(5,(.slice none 0 0)),(12,(zI (Int.ofNat (Sl.n s1)))),(13,(zI (0:Int)))]) (hp 0 []) (.k0 [] [] [0,1,5,12,13]) ?_
  refine .block (.loopM (v:=v) (fun y:Nat×LV×Sl×Nat×Nat×Int×Int×LV=>((fr 28 [(0,(Cv y.1 y.2.1)),(1,(Sl.v 1 y.2.2.1)),(5,(sc 0 0 1 y.2.2.2.1 y.2.2.2.2.1)),(12,(zI y.2.2.2.2.2.1)),(13,(zI y.2.2.2.2.2.2.1))]),(hp 1 [(oC y.2.2.2.2.2.2.2)]))) (fun w y=>WE pu n w y.1 y.2.1 y.2.2.1 y.2.2.2.1 y.2.2.2.2.1 y.2.2.2.2.2.1 y.2.2.2.2.2.2.1 y.2.2.2.2.2.2.2) n ⟨((Db.off p0),(Db.cs p0),s0,0,0,(Int.ofNat (Sl.n s1)),(0:Int),([]:LV)),hm,(.thaw 5 1 (by kernel_rfl) (.k0 [] [.tmp 5 false] [0,1,5,12,13]))⟩ (fun _=>rfl) ?_)
  rintro w0 ⟨n1,q1,s2,n2,c1,z0,z1,q2⟩ hm
  replace hm:WC pu n (WE pu n w0) n1 q1 s2 n2 c1 z0 z1 q2=some v:=hm
  unfold WC at hm
  refine .then (.rK ?_)
  replace hm:=Ae hm;obtain⟨h2,hm⟩:=hm
  refine .ghs (fr 28 [(0,(Cv n1 q1)),(1,Sl.v 1 s2),(5,sc 0 0 1 n2 c1),(12,zI z0),(13,zI z1),(14,(zB (AY z1 z0)))]) (hp 1 [oC q2]) (.k [0] [] [.tmp 5 false] [0,1,5,12,13,14] ⟨AO h2,trivial⟩) ?_
  refine .then ?_
  replace hm:=Ag hm;rcases hm with⟨h3,hm⟩ | ⟨h3,hm⟩
  ·refine A7 (AY z1 z0) h3 ?_
   refine .skip (.ghs (fr 28 [(0,(Cv n1 q1)),(1,Sl.v 1 s2),(5,sc 0 0 1 n2 c1),(12,zI z0),(13,zI z1)]) (hp 1 [oC q2]) (.k [0] [] [.tmp 5 false] [0,1,5,12,13] ⟨AO h2,trivial⟩) ?_)
   refine .then (.block (.then (.rK (.ghs (fr 28 [(0,(Cv n1 q1)),(1,Sl.v 1 s2),(5,sc 0 0 1 n2 c1),(6,zI z1),(12,zI z0),(13,zI z1)]) (hp 1 [oC q2]) (.k [0] [] [.tmp 5 false] [0,1,5,6,12,13] ⟨AO h2,trivial⟩) ?_))))
   replace hm:=I9 hm;obtain⟨s3,h4,hm⟩:=hm
   replace hm:=Ae hm;obtain⟨h5,hm⟩:=hm
   refine .reg (eC 4 ((oo (pu 37 [(Cv n1 q1),Sl.v 1 s2,zI z1]) none fun v=>some (v,(hp 1 [oC q2])))) (AB h4) (eC 1 (Oc 1 24 n2 c1 1 0 q2 [Sl.v 1 s3] [] (hp 2 [oC q2,(oC [Sl.v 1 s3])])) (I1 h5) (eE))) ?_
   replace hm:=Ae hm;obtain⟨h6,hm⟩:=hm
   refine .ghs (fr 28 [(0,(Cv n1 q1)),(1,Sl.v 1 s2),(5,(sc 0 0 1 (n2+1) (d2 (n2+1)))),(12,zI z0),(13,zI z1)]) (hp 1 [(oC (Br (Am 0 q2) [Sl.v 1 s3]))]) (.k [2] [] [.tmp 5 false] [0,1,5,12,13] ⟨AO h6,trivial⟩) ?_
   refine .rK ?_
   exact⟨(n1,q1,s2,(n2+1),(d2 (n2+1)),z0,(Aj .i64 (Int.add z1 (1:Int))),(Br (Am 0 q2) [Sl.v 1 s3])),hm,(.k [0] [] [.tmp 5 false] [0,1,5,12,13] ⟨AO h6,trivial⟩)⟩
  ·refine Bp (AY z1 z0) h3 ?_
   refine .exit ?_
   exact⟨(n2,c1,q2),hm,(.k [0] [] [.tmp 5 false] [5] ⟨AO h2,trivial⟩)⟩

def Aem (pu:Af) (n:Nat) (x0 x1 x2 x3:Int):OV:=
 (oo (pu 31 [(.agg ⟨[.int .i64 x0,.int .i64 x1,.int .i64 x2,.int .i64 x3]⟩)]) none fun v0=>(oo (Bi .i64 v0) none fun x4=>(bb (nt (Bd x4 (0:Int))) (some (.tuple ⟨[(.agg ⟨[(.int .i64 (0:Int)),(.int .i64 (0:Int)),(.int .i64 (0:Int)),(.int .i64 (0:Int)),(.int .u64 (0:Int)),(.int .u64 (0:Int)),(.int .u64 (0:Int))]⟩),.int .i64 x4]⟩)) (oo (EA (Aj .i64 (Int.mul x0 x1))) none fun k1=>(oo (pu 54 [.int .i64 x2,.int .i64 x3,.int .i64 x1]) none fun v1=>(oo (Bi .u64 v1) none fun x5=>(oo (pu 54 [.int .i64 x3,.int .i64 x2,.int .i64 x1]) none fun v2=>(oo (Bi .u64 v2) none fun x6=>(some (.tuple ⟨[(.agg ⟨[.int .i64 x0,.int .i64 x1,.int .i64 x2,.int .i64 x3,.int .u64 x5,.int .u64 x6,(.int .u64 (Aj .u64 (Int.sub (QW .u64 (1:Int) k1) (1:Int))))]⟩),(.int .i64 (0:Int))]⟩))))))))))
def m27 (pu:Af) (n:Nat) (args:LV):OV:=
 (ll args none fun a0 args=>(ll args (oo (Bt a0) none fun l0=>(ll l0 none fun v0 l0=>(ll l0 none fun v1 l0=>(ll l0 none fun v2 l0=>(ll l0 none fun v3 l0=>(ll l0 (oo (Bi .i64 v0) none fun x0=>(oo (Bi .i64 v1) none fun x1=>(oo (Bi .i64 v2) none fun x2=>(oo (Bi .i64 v3) none fun x3=>(Aem pu n x0 x1 x2 x3))))) fun _ _=>none)))))) fun _ _=>none))
theorem r27 {call:A8} (pu:Af) (n:Nat) (hcall:call=Bb tabs isP pu (inl pu)) {args:LV} {v:Value} (hm:m27 pu n args=some v) (_:∀ x∈args,closed2 x=true):args.length≤35∧BN tt call 0 OB (Fr.made 35 args) (Ao tabs) (Fin tt 0 [.cell 2 74,.tmp 3] v):=by
 subst hcall
 unfold m27 at hm
 replace hm:=Ad hm;obtain⟨a0,args_0,rfl,hm⟩:=hm
 replace hm:=AC hm;obtain⟨rfl,hm⟩:=hm
 replace hm:=BG hm;obtain⟨l0,rfl,hm⟩:=hm
 replace hm:=Ad hm;obtain⟨v0,l15943_0,rfl,hm⟩:=hm
 replace hm:=Ad hm;obtain⟨v1,l15943_1,rfl,hm⟩:=hm
 replace hm:=Ad hm;obtain⟨v2,l15943_2,rfl,hm⟩:=hm
 replace hm:=Ad hm;obtain⟨v3,l15943_3,rfl,hm⟩:=hm
 replace hm:=AC hm;obtain⟨rfl,hm⟩:=hm
 replace hm:=Ai hm;obtain⟨x0,rfl,hm⟩:=hm
 replace hm:=Ai hm;obtain⟨x1,rfl,hm⟩:=hm
 replace hm:=Ai hm;obtain⟨x2,rfl,hm⟩:=hm
 replace hm:=Ai hm;obtain⟨x3,rfl,hm⟩:=hm
 unfold Aem at hm
 refine⟨by simp,?_⟩
 refine .same (F':=(fr 35 [(0,(.agg ⟨[zI x0,zI x1,zI x2,zI x3]⟩))])) (H':=(hp 0 [])) (by kernel_rfl) (by kernel_rfl) ?_
 refine .then (.rK (.ghs (fr 35 [(1,(pt 0 0)),(2,pt 1 0)]) (hp 2 [(oC [zI x0,zI x1,zI x2,zI x3]),(oC [(zI (0:Int)),(zI (0:Int)),(zI (0:Int)),(zI (0:Int)),(zU (0:Int)),(zU (0:Int)),(zU (0:Int))])]) (.k0 [] [.tmp 1 false,.tmp 2 false] [1,2]) ?_))
 refine .then (.then ?_)
 replace hm:=Dn hm;obtain⟨x4,h0,hm⟩:=hm
 refine .reg (eC 1 ((oo (pu 31 [(.agg ⟨[zI x0,zI x1,zI x2,zI x3]⟩)]) none fun v=>some (v,(hp 2 [(oC [zI x0,zI x1,zI x2,zI x3]),(oC [(zI (0:Int)),(zI (0:Int)),(zI (0:Int)),(zI (0:Int)),(zU (0:Int)),(zU (0:Int)),(zU (0:Int))])])))) (AB h0) (eE)) ?_
 refine .ghs (fr 35 [(1,(pt 0 0)),(2,pt 1 0),(4,zI x4)]) (hp 2 [(oC [zI x0,zI x1,zI x2,zI x3]),(oC [(zI (0:Int)),(zI (0:Int)),(zI (0:Int)),(zI (0:Int)),(zU (0:Int)),(zU (0:Int)),(zU (0:Int))])]) (.k0 [] [.tmp 1 false,.tmp 2 false] [1,2,4]) ?_
 refine .then (.rK (.ghs (fr 35 [(1,(pt 0 0)),(2,pt 1 0),(4,zI x4),(8,(zB (nt (Bd x4 (0:Int)))))]) (hp 2 [(oC [zI x0,zI x1,zI x2,zI x3]),(oC [(zI (0:Int)),(zI (0:Int)),(zI (0:Int)),(zI (0:Int)),(zU (0:Int)),(zU (0:Int)),(zU (0:Int))])]) (.k0 [] [.tmp 1 false,.tmp 2 false] [1,2,4,8]) ?_))
 replace hm:=Ag hm;rcases hm with⟨h1,hm⟩ | ⟨h1,hm⟩
 ·refine A7 (nt (Bd x4 (0:Int))) h1 ?_
  refine .then (.rK (.ghs (fr 35 [(2,(pt 0 0)),(3,zI x4)]) (hp 1 [(oC [(zI (0:Int)),(zI (0:Int)),(zI (0:Int)),(zI (0:Int)),(zU (0:Int)),(zU (0:Int)),(zU (0:Int))])]) (.k0 [] [.tmp 2 false] [2,3]) ?_))
  refine .ret ?_
  exact Ay (.tuple ⟨[(.agg ⟨[(zI (0:Int)),(zI (0:Int)),(zI (0:Int)),(zI (0:Int)),(zU (0:Int)),(zU (0:Int)),(zU (0:Int))]⟩),zI x4]⟩) hm
 ·refine Bp (nt (Bd x4 (0:Int))) h1 ?_
  refine .skip (.ghs (fr 35 [(1,(pt 0 0)),(2,pt 1 0)]) (hp 2 [(oC [zI x0,zI x1,zI x2,zI x3]),(oC [(zI (0:Int)),(zI (0:Int)),(zI (0:Int)),(zI (0:Int)),(zU (0:Int)),(zU (0:Int)),(zU (0:Int))])]) (.k0 [] [.tmp 1 false,.tmp 2 false] [1,2]) ?_)
  refine .then ?_
  replace hm:=Ab hm;obtain⟨k1,h2,hm⟩:=hm
  replace hm:=Dn hm;obtain⟨x5,h3,hm⟩:=hm
  replace hm:=Dn hm;obtain⟨x6,h4,hm⟩:=hm
  refine .reg (eC 17 (some ((zI (Aj .i64 (Int.mul x0 x1))),(hp 2 [(oC [zI x0,zI x1,zI x2,zI x3]),(oC [(zI (0:Int)),(zI (0:Int)),(zI (0:Int)),(zI (0:Int)),(zU (0:Int)),(zU (0:Int)),(zU (0:Int))])]))) (show _=some ((zI (Int.ofNat k1)),_) from (by rw[AR h2])) (eC 2 ((oo (pu 54 [zI x2,zI x3,zI x1]) none fun v=>some (v,(hp 2 [(oC [zI x0,zI x1,zI x2,zI x3]),(oC [(zI (0:Int)),(zI (0:Int)),(zI (0:Int)),(zI (0:Int)),(zU (0:Int)),(zU (0:Int)),(zU (0:Int))])])))) (AB h3) (eD ((oo (pu 54 [zI x3,zI x2,zI x1]) none fun v=>some (v,(hp 2 [(oC [zI x0,zI x1,zI x2,zI x3]),(oC [(zI (0:Int)),(zI (0:Int)),(zI (0:Int)),(zI (0:Int)),(zU (0:Int)),(zU (0:Int)),(zU (0:Int))])])))) (AB h4) (eE)))) ?_
  refine .ghs (fr 35 [(2,(pt 0 0)),(3,(zI (0:Int)))]) (hp 1 [(oC [zI x0,zI x1,zI x2,zI x3,(zU x5),(zU x6),(zU (Aj .u64 (Int.sub (QW .u64 (1:Int) k1) (1:Int))))])]) (.k0 [] [.tmp 2 false] [2,3]) ?_
  refine .ret ?_
  exact Ay (.tuple ⟨[(.agg ⟨[zI x0,zI x1,zI x2,zI x3,(zU x5),(zU x6),(zU (Aj .u64 (Int.sub (QW .u64 (1:Int) k1) (1:Int))))]⟩),(zI (0:Int))]⟩) hm
def Si (pu:Af) (n:Nat) (b0:Bool):OV:=
 (bb b0 (some (.int .i64 (1:Int))) (some (.int .i64 (0:Int))))
def Aen (pu:Af) (n:Nat) (x0 x1 x2 x3:Int):OV:=
 (bb (AY (bb (AY x3 (bb (AY x2 (bb (AY x1 x0) x1 x0)) x2 (bb (AY x1 x0) x1 x0))) x3 (bb (AY x2 (bb (AY x1 x0) x1 x0)) x2 (bb (AY x1 x0) x1 x0))) (1:Int)) (Si pu n true) (Si pu n (AY (6:Int) (bb (AY (bb (AY (bb (AY x0 x1) x1 x0) x2) x2 (bb (AY x0 x1) x1 x0)) x3) x3 (bb (AY (bb (AY x0 x1) x1 x0) x2) x2 (bb (AY x0 x1) x1 x0))))))
def m31 (pu:Af) (n:Nat) (args:LV):OV:=
 (ll args none fun a0 args=>(ll args (oo (Bt a0) none fun l0=>(ll l0 none fun v0 l0=>(ll l0 none fun v1 l0=>(ll l0 none fun v2 l0=>(ll l0 none fun v3 l0=>(ll l0 (oo (Bi .i64 v0) none fun x0=>(oo (Bi .i64 v1) none fun x1=>(oo (Bi .i64 v2) none fun x2=>(oo (Bi .i64 v3) none fun x3=>(Aen pu n x0 x1 x2 x3))))) fun _ _=>none)))))) fun _ _=>none))
theorem r31 {call:A8} (pu:Af) (n:Nat) (hcall:call=Bb tabs isP pu (inl pu)) {args:LV} {v:Value} (hm:m31 pu n args=some v) (_:∀ x∈args,closed2 x=true):args.length≤29∧BN tt call 0 OC (Fr.made 29 args) (Ao tabs) (Fin tt 0 [.tmp 2] v):=by
 subst hcall
 unfold m31 at hm
 replace hm:=Ad hm;obtain⟨a0,args_0,rfl,hm⟩:=hm
 replace hm:=AC hm;obtain⟨rfl,hm⟩:=hm
 replace hm:=BG hm;obtain⟨l0,rfl,hm⟩:=hm
 replace hm:=Ad hm;obtain⟨v0,l15986_0,rfl,hm⟩:=hm
 replace hm:=Ad hm;obtain⟨v1,l15986_1,rfl,hm⟩:=hm
 replace hm:=Ad hm;obtain⟨v2,l15986_2,rfl,hm⟩:=hm
 replace hm:=Ad hm;obtain⟨v3,l15986_3,rfl,hm⟩:=hm
 replace hm:=AC hm;obtain⟨rfl,hm⟩:=hm
 replace hm:=Ai hm;obtain⟨x0,rfl,hm⟩:=hm
 replace hm:=Ai hm;obtain⟨x1,rfl,hm⟩:=hm
 replace hm:=Ai hm;obtain⟨x2,rfl,hm⟩:=hm
 replace hm:=Ai hm;obtain⟨x3,rfl,hm⟩:=hm
 unfold Aen at hm
 refine⟨by simp,?_⟩
 refine .same (F':=(fr 29 [(0,(.agg ⟨[zI x0,zI x1,zI x2,zI x3]⟩))])) (H':=(hp 0 [])) (by kernel_rfl) (by kernel_rfl) ?_
 refine .then (.rK (.ghs (fr 29 [(1,(pt 0 0))]) (hp 1 [(oC [zI x0,zI x1,zI x2,zI x3])]) (.k0 [] [.tmp 1 false] [1]) ?_))
 refine .then (.then (.rK (.ghs (fr 29 [(3,(zI (bb (AY x3 (bb (AY x2 (bb (AY x1 x0) x1 x0)) x2 (bb (AY x1 x0) x1 x0))) x3 (bb (AY x2 (bb (AY x1 x0) x1 x0)) x2 (bb (AY x1 x0) x1 x0))))),(4,(zI (bb (AY (bb (AY (bb (AY x0 x1) x1 x0) x2) x2 (bb (AY x0 x1) x1 x0)) x3) x3 (bb (AY (bb (AY x0 x1) x1 x0) x2) x2 (bb (AY x0 x1) x1 x0)))))]) (hp 0 []) (.k0 [] [] [3,4]) ?_)))
 refine .join (v:=v) (fun y:Bool=>((fr 29 [(28,zB y)]),(hp 0 []))) (fun y=>Si pu n y) ?_ ?_
 ·rintro b0 hm
  unfold Si at hm
  replace hm:=Ag hm;rcases hm with⟨h0,hm⟩ | ⟨h0,hm⟩
  ·refine .ifT b0 (by kernel_rfl) h0 ?_
   refine .then (.rK (.ghs (fr 29 [(2,(zI (1:Int)))]) (hp 0 []) (.k0 [] [] [2]) ?_))
   refine .ret ?_
   exact Ay (zI (1:Int)) hm
  ·refine .ifF b0 (by kernel_rfl) h0 ?_
   refine .skip (.ghs (fr 29 []) (hp 0 []) (.k0 [] [] []) ?_)
   refine .then (.rK (.ghs (fr 29 [(2,(zI (0:Int)))]) (hp 0 []) (.k0 [] [] [2]) ?_))
   refine .ret ?_
   exact Ay (zI (0:Int)) hm
 ·replace hm:=Ag hm;rcases hm with⟨h1,hm⟩ | ⟨h1,hm⟩
  ·refine .reg (eC 1 (some ((zB (AY (bb (AY x3 (bb (AY x2 (bb (AY x1 x0) x1 x0)) x2 (bb (AY x1 x0) x1 x0))) x3 (bb (AY x2 (bb (AY x1 x0) x1 x0)) x2 (bb (AY x1 x0) x1 x0))) (1:Int))),(hp 0 []))) (show _=some ((zB true),_) from (by rw[show (AY (bb (AY x3 (bb (AY x2 (bb (AY x1 x0) x1 x0)) x2 (bb (AY x1 x0) x1 x0))) x3 (bb (AY x2 (bb (AY x1 x0) x1 x0)) x2 (bb (AY x1 x0) x1 x0))) (1:Int))=true from h1])) (eE)) ?_
   exact⟨true,hm,(.k0 [] [] [28])⟩
  ·refine .reg (eC 1 (some ((zB (AY (bb (AY x3 (bb (AY x2 (bb (AY x1 x0) x1 x0)) x2 (bb (AY x1 x0) x1 x0))) x3 (bb (AY x2 (bb (AY x1 x0) x1 x0)) x2 (bb (AY x1 x0) x1 x0))) (1:Int))),(hp 0 []))) (show _=some ((zB false),_) from (by rw[show (AY (bb (AY x3 (bb (AY x2 (bb (AY x1 x0) x1 x0)) x2 (bb (AY x1 x0) x1 x0))) x3 (bb (AY x2 (bb (AY x1 x0) x1 x0)) x2 (bb (AY x1 x0) x1 x0))) (1:Int))=false from h1])) (eE)) ?_
   exact⟨(AY (6:Int) (bb (AY (bb (AY (bb (AY x0 x1) x1 x0) x2) x2 (bb (AY x0 x1) x1 x0)) x3) x3 (bb (AY (bb (AY x0 x1) x1 x0) x2) x2 (bb (AY x0 x1) x1 x0)))),hm,(.k0 [] [] [28])⟩
def Sj (pu:Af) (n:Nat) (z0:Int) (n0 c0:Nat) (q0:LV):OV:=
 (oo (EA z0) none fun k1=>(bb (an (Nat.blt k1 n0) true) (oo (AL q0 (0+k1*1)) none fun v0=>(oo (Bf v0) none fun b0=>(some (.bool b0)))) none))
def WF (pu:Af) (n:Nat) (ih0:Int→Nat→Nat→Int→Int→Int→Int→Int→LV→OV) (z0:Int) (n0 c0:Nat) (z1 z2 z3 z4 z5:Int) (q0:LV):OV:=
 (bb (Au Ah q0) (bb (nt (AY z0 z1)) (bb (nt (AY z1 z4)) (oo (EA (Aj .i64 (Int.sub z1 z4))) none fun k1=>(bb (an (Nat.blt k1 n0) true) (oo (AL q0 (0+k1*1)) none fun v0=>(oo (Bf v0) none fun b0=>(bb b0 (bb (GV 1 1 n0 c0 1 q0) (bb (Au Ah (Br (Am 0 q0) [(.bool true)])) (ih0 z0 (n0+1) (2*(n0+1)+bb false 1 0) (Aj .i64 (Int.add z1 (1:Int))) z2 z3 z4 z5 (Br (Am 0 q0) [(.bool true)])) none) none) (bb (nt (AY z1 z5)) (oo (EA (Aj .i64 (Int.sub z1 z5))) none fun k2=>(bb (an (Nat.blt k2 n0) true) (oo (AL q0 (0+k2*1)) none fun v1=>(oo (Bf v1) none fun b1=>(bb (GV 1 1 n0 c0 1 q0) (bb (Au Ah (Br (Am 0 q0) [(.bool b1)])) (ih0 z0 (n0+1) (2*(n0+1)+bb false 1 0) (Aj .i64 (Int.add z1 (1:Int))) z2 z3 z4 z5 (Br (Am 0 q0) [(.bool b1)])) none) none))) none)) (bb (GV 1 1 n0 c0 1 q0) (bb (Au Ah (Br (Am 0 q0) [(.bool false)])) (ih0 z0 (n0+1) (2*(n0+1)+bb false 1 0) (Aj .i64 (Int.add z1 (1:Int))) z2 z3 z4 z5 (Br (Am 0 q0) [(.bool false)])) none) none))))) none)) (bb (nt (AY z1 z5)) (oo (EA (Aj .i64 (Int.sub z1 z5))) none fun k3=>(bb (an (Nat.blt k3 n0) true) (oo (AL q0 (0+k3*1)) none fun v2=>(oo (Bf v2) none fun b2=>(bb (GV 1 1 n0 c0 1 q0) (bb (Au Ah (Br (Am 0 q0) [(.bool b2)])) (ih0 z0 (n0+1) (2*(n0+1)+bb false 1 0) (Aj .i64 (Int.add z1 (1:Int))) z2 z3 z4 z5 (Br (Am 0 q0) [(.bool b2)])) none) none))) none)) (bb (GV 1 1 n0 c0 1 q0) (bb (Au Ah (Br (Am 0 q0) [(.bool false)])) (ih0 z0 (n0+1) (2*(n0+1)+bb false 1 0) (Aj .i64 (Int.add z1 (1:Int))) z2 z3 z4 z5 (Br (Am 0 q0) [(.bool false)])) none) none))) (Sj pu n z0 n0 c0 q0)) none)
def WG (pu:Af) (n w:Nat):Int→Nat→Nat→Int→Int→Int→Int→Int→LV→OV:=
 Nat.rec (motive:=fun _=>Int→Nat→Nat→Int→Int→Int→Int→Int→LV→OV) (fun _ _ _ _ _ _ _ _ _=>none) (fun _ ih0=>WF pu n ih0) w
def Aeo (pu:Af) (n:Nat) (x0 x1 x2 x3 x4:Int):OV:=
 (WG pu n n x4 1 3 (1:Int) x0 x1 x2 x3 ([(.bool true)]:LV))
def m32 (pu:Af) (n:Nat) (args:LV):OV:=
 (ll args none fun a0 args=>(ll args none fun a1 args=>(ll args (oo (Bt a0) none fun l0=>(ll l0 none fun v0 l0=>(ll l0 none fun v1 l0=>(ll l0 none fun v2 l0=>(ll l0 none fun v3 l0=>(ll l0 (oo (Bi .i64 v0) none fun x0=>(oo (Bi .i64 v1) none fun x1=>(oo (Bi .i64 v2) none fun x2=>(oo (Bi .i64 v3) none fun x3=>(oo (Bi .i64 a1) none fun x4=>(Aeo pu n x0 x1 x2 x3 x4)))))) fun _ _=>none)))))) fun _ _=>none)))
theorem Aep (pu:Af) (n:Nat) (z0:Int) (n0 c0:Nat) (q0:LV) {v:Value} (hm:Sj pu n z0 n0 c0 q0=some v):BN tt (Bb tabs isP pu (inl pu)) 0 UH (fr 48 [(1,zI z0),(5,sc 0 0 1 n0 c0)]) (hp 1 [oC q0]) (Fin tt 0 [.tmp 4] v):=by
 unfold Sj at hm
 refine .then ?_
 replace hm:=Ab hm;obtain⟨k1,h0,hm⟩:=hm
 obtain rfl:=AR h0
 replace hm:=Ae hm;obtain⟨h1,hm⟩:=hm
 replace hm:=Jf hm;obtain⟨b0,h2,hm⟩:=hm
 refine .reg (eC 2 (keep (hp 1 [oC q0]) (bb (an (Nat.blt k1 n0) true) (some (.pointer (some ⟨0,(0+k1*1),none⟩))) none)) (AX h1) (eD (keep (hp 1 [oC q0]) (AL q0 (0+k1*1))) (AZ h2) (eE))) ?_
 refine .ghs (fr 48 [(4,zB b0)]) (hp 0 []) (.k0 [] [] [4]) ?_
 refine .ret ?_
 exact Ay (zB b0) hm
theorem r32 {call:A8} (pu:Af) (n:Nat) (hcall:call=Bb tabs isP pu (inl pu)) {args:LV} {v:Value} (hm:m32 pu n args=some v) (_:∀ x∈args,closed2 x=true):args.length≤48∧BN tt call 0 OD (Fr.made 48 args) (Ao tabs) (Fin tt 0 [.tmp 4] v):=by
 subst hcall
 unfold m32 at hm
 replace hm:=Ad hm;obtain⟨a0,args_0,rfl,hm⟩:=hm
 replace hm:=Ad hm;obtain⟨a1,args_1,rfl,hm⟩:=hm
 replace hm:=AC hm;obtain⟨rfl,hm⟩:=hm
 replace hm:=BG hm;obtain⟨l0,rfl,hm⟩:=hm
 replace hm:=Ad hm;obtain⟨v0,l16008_0,rfl,hm⟩:=hm
 replace hm:=Ad hm;obtain⟨v1,l16008_1,rfl,hm⟩:=hm
 replace hm:=Ad hm;obtain⟨v2,l16008_2,rfl,hm⟩:=hm
 replace hm:=Ad hm;obtain⟨v3,l16008_3,rfl,hm⟩:=hm
 replace hm:=AC hm;obtain⟨rfl,hm⟩:=hm
 replace hm:=Ai hm;obtain⟨x0,rfl,hm⟩:=hm
 replace hm:=Ai hm;obtain⟨x1,rfl,hm⟩:=hm
 replace hm:=Ai hm;obtain⟨x2,rfl,hm⟩:=hm
 replace hm:=Ai hm;obtain⟨x3,rfl,hm⟩:=hm
 replace hm:=Ai hm;obtain⟨x4,rfl,hm⟩:=hm
 unfold Aeo at hm
 refine⟨by simp,?_⟩
 refine .same (F':=(fr 48 [(0,(.agg ⟨[zI x0,zI x1,zI x2,zI x3]⟩)),(1,zI x4)])) (H':=(hp 0 [])) (by kernel_rfl) (by kernel_rfl) ?_
 refine .then (.rK (.ghs (fr 48 [(1,zI x4),(2,(pt 0 0))]) (hp 1 [(oC [zI x0,zI x1,zI x2,zI x3])]) (.k0 [] [.tmp 2 false] [1,2]) ?_))
 refine .then (.rK (.ghs (fr 48 [(1,zI x4),(2,(pt 0 0)),(5,sc 1 0 1 1 3)]) (hp 2 [(oC [zI x0,zI x1,zI x2,zI x3]),(oC [zB true])]) (.k0 [] [.tmp 2 false,.tmp 5 false] [1,2,5]) ?_))
 refine .join (v:=v) (fun y:Int×Nat×Nat×LV=>((fr 48 [(1,(zI y.1)),(5,(sc 0 0 1 y.2.1 y.2.2.1))]),(hp 1 [(oC y.2.2.2)]))) (fun y=>Sj pu n y.1 y.2.1 y.2.2.1 y.2.2.2) ?_ ?_
 ·rintro⟨z0,n0,c0,q0⟩ hm
  exact Aep pu n z0 n0 c0 q0 hm
 ·refine .then (.rK (.ghs (fr 48 [(1,zI x4),(2,(pt 0 0)),(5,sc 1 0 1 1 3),(6,(zI (1:Int)))]) (hp 2 [(oC [zI x0,zI x1,zI x2,zI x3]),(oC [zB true])]) (.k0 [] [.tmp 2 false,.tmp 5 false] [1,2,5,6]) ?_))
  refine .block (.loopM (v:=v) (fun y:Int×Nat×Nat×Int×Int×Int×Int×Int×LV=>((fr 48 [(1,(zI y.1)),(2,(pt 0 0)),(5,(sc 1 0 1 y.2.1 y.2.2.1)),(6,(zI y.2.2.2.1))]),(hp 2 [(oC [(zI y.2.2.2.2.1),(zI y.2.2.2.2.2.1),(zI y.2.2.2.2.2.2.1),(zI y.2.2.2.2.2.2.2.1)]),(oC y.2.2.2.2.2.2.2.2)]))) (fun w y=>WG pu n w y.1 y.2.1 y.2.2.1 y.2.2.2.1 y.2.2.2.2.1 y.2.2.2.2.2.1 y.2.2.2.2.2.2.1 y.2.2.2.2.2.2.2.1 y.2.2.2.2.2.2.2.2) n ⟨(x4,1,3,(1:Int),x0,x1,x2,x3,([zB true]:LV)),hm,(.k0 [] [.tmp 2 false,.tmp 5 false] [1,2,5,6])⟩ (fun _=>rfl) ?_)
  rintro w0 ⟨z1,n1,c1,z2,z3,z4,z5,z6,q1⟩ hm
  replace hm:WF pu n (WG pu n w0) z1 n1 c1 z2 z3 z4 z5 z6 q1=some v:=hm
  unfold WF at hm
  refine .then (.then (.rK ?_))
  replace hm:=Ae hm;obtain⟨h0,hm⟩:=hm
  refine .ghs (fr 48 [(1,zI z1),(2,(pt 0 0)),(5,sc 1 0 1 n1 c1),(6,zI z2),(10,(zB (nt (AY z1 z2))))]) (hp 2 [(oC [zI z3,zI z4,zI z5,zI z6]),oC q1]) (.k [1] [] [.tmp 2 false,.tmp 5 false] [1,2,5,6,10] ⟨AO h0,trivial⟩) ?_
  replace hm:=Ag hm;rcases hm with⟨h1,hm⟩ | ⟨h1,hm⟩
  ·refine A7 (nt (AY z1 z2)) h1 ?_
   refine .skip (.ghs (fr 48 [(1,zI z1),(2,(pt 0 0)),(5,sc 1 0 1 n1 c1),(6,zI z2)]) (hp 2 [(oC [zI z3,zI z4,zI z5,zI z6]),oC q1]) (.k [1] [] [.tmp 2 false,.tmp 5 false] [1,2,5,6] ⟨AO h0,trivial⟩) ?_)
   refine .then (.block ?_)
   replace hm:=Ag hm;rcases hm with⟨h2,hm⟩ | ⟨h2,hm⟩
   ·replace hm:=Ab hm;obtain⟨k1,h3,hm⟩:=hm
    replace hm:=Ae hm;obtain⟨h4,hm⟩:=hm
    replace hm:=Jf hm;obtain⟨b0,h5,hm⟩:=hm
    replace hm:=Ag hm;rcases hm with⟨h6,hm⟩ | ⟨h6,hm⟩
    ·replace hm:=Ae hm;obtain⟨h7,hm⟩:=hm
     refine .reg (eC 4 (some ((zB (nt (AY z2 z5))),(hp 2 [(oC [zI z3,zI z4,zI z5,zI z6]),oC q1]))) (show _=some ((zB true),_) from (by rw[show (nt (AY z2 z5))=true from h2])) (eC 5 (some ((zI (Aj .i64 (Int.sub z2 z5))),(hp 2 [(oC [zI z3,zI z4,zI z5,zI z6]),oC q1]))) (show _=some ((zI (Int.ofNat k1)),_) from (by rw[AR h3])) (eD (keep (hp 2 [(oC [zI z3,zI z4,zI z5,zI z6]),oC q1]) (bb (an (Nat.blt k1 n1) true) (some (.pointer (some ⟨1,(0+k1*1),none⟩))) none)) (AX h4) (eD (keep (hp 2 [(oC [zI z3,zI z4,zI z5,zI z6]),oC q1]) (AL q1 (0+k1*1))) (show _=some ((zB true),_) from (by have hz:keep (hp 2 [(oC [zI z3,zI z4,zI z5,zI z6]),oC q1]) (AL q1 (0+k1*1))=some ((zB b0),(hp 2 [(oC [zI z3,zI z4,zI z5,zI z6]),oC q1])):=(AZ h5);rw[h6] at hz;exact hz)) (eC 17 (Oc 1 1 n1 c1 1 1 q1 [zB true] [] (hp 3 [(oC [zI z3,zI z4,zI z5,zI z6]),oC q1,(oC [zB true])])) (I1 h7) (eE)))))) ?_
     replace hm:=Ae hm;obtain⟨h8,hm⟩:=hm
     refine .ghs (fr 48 [(1,zI z1),(2,(pt 0 0)),(5,(sc 1 0 1 (n1+1) (d2 (n1+1)))),(6,zI z2)]) (hp 2 [(oC [zI z3,zI z4,zI z5,zI z6]),(oC (Br (Am 0 q1) [zB true]))]) (.k [3] [] [.tmp 2 false,.tmp 5 false] [1,2,5,6] ⟨AO h8,trivial⟩) ?_
     refine .rK ?_
     exact⟨(z1,(n1+1),(d2 (n1+1)),(Aj .i64 (Int.add z2 (1:Int))),z3,z4,z5,z6,(Br (Am 0 q1) [zB true])),hm,(.k [1] [] [.tmp 2 false,.tmp 5 false] [1,2,5,6] ⟨AO h8,trivial⟩)⟩
    ·replace hm:=Ag hm;rcases hm with⟨h7,hm⟩ | ⟨h7,hm⟩
     ·replace hm:=Ab hm;obtain⟨k2,h9,hm⟩:=hm
      replace hm:=Ae hm;obtain⟨h10,hm⟩:=hm
      replace hm:=Jf hm;obtain⟨b1,h11,hm⟩:=hm
      replace hm:=Ae hm;obtain⟨h12,hm⟩:=hm
      refine .reg (eN 12 (Fr.puts (fr 48 [(1,zI z1),(2,(pt 0 0)),(5,sc 1 0 1 n1 c1),(6,zI z2)]) [(13,sc 1 0 1 n1 c1),(14,zI z2),(15,(pt 0 2)),(16,zI z5),(17,zB true),(18,zB true),(19,sc 1 0 1 n1 c1),(20,zI z2),(21,(pt 0 2)),(22,zI z5),(23,(zI (Int.ofNat k1))),(24,(.pointer (some ⟨1,(0+k1*1),none⟩)))]) (hp 2 [(oC [zI z3,zI z4,zI z5,zI z6]),oC q1]) (eC 4 (some ((zB (nt (AY z2 z5))),(hp 2 [(oC [zI z3,zI z4,zI z5,zI z6]),oC q1]))) (show _=some ((zB true),_) from (by rw[show (nt (AY z2 z5))=true from h2])) (eC 5 (some ((zI (Aj .i64 (Int.sub z2 z5))),(hp 2 [(oC [zI z3,zI z4,zI z5,zI z6]),oC q1]))) (show _=some ((zI (Int.ofNat k1)),_) from (by rw[AR h3])) (eD (keep (hp 2 [(oC [zI z3,zI z4,zI z5,zI z6]),oC q1]) (bb (an (Nat.blt k1 n1) true) (some (.pointer (some ⟨1,(0+k1*1),none⟩))) none)) (AX h4) (by kernel_rfl)))) (eN 13 (Fr.puts (fr 48 [(1,zI z1),(2,(pt 0 0)),(5,sc 1 0 1 n1 c1),(6,zI z2)]) [(13,sc 1 0 1 n1 c1),(14,zI z2),(15,(pt 0 2)),(16,zI z5),(17,zB true),(18,zB true),(19,sc 1 0 1 n1 c1),(20,zI z2),(21,(pt 0 2)),(22,zI z5),(23,(zI (Int.ofNat k1))),(24,(.pointer (some ⟨1,(0+k1*1),none⟩))),(25,zB false),(26,zB false),(27,zB false),(28,zI z2),(29,(pt 0 3)),(30,zI z6),(31,zB true),(32,zB true),(33,sc 1 0 1 n1 c1),(34,zI z2),(35,(pt 0 3)),(36,zI z6),(37,(zI (Int.ofNat k2)))]) (hp 2 [(oC [zI z3,zI z4,zI z5,zI z6]),oC q1]) (eD (keep (hp 2 [(oC [zI z3,zI z4,zI z5,zI z6]),oC q1]) (AL q1 (0+k1*1))) (show _=some ((zB false),_) from (by have hz:keep (hp 2 [(oC [zI z3,zI z4,zI z5,zI z6]),oC q1]) (AL q1 (0+k1*1))=some ((zB b0),(hp 2 [(oC [zI z3,zI z4,zI z5,zI z6]),oC q1])):=(AZ h5);rw[h6] at hz;exact hz)) (eC 5 (some ((zB (nt (AY z2 z6))),(hp 2 [(oC [zI z3,zI z4,zI z5,zI z6]),oC q1]))) (show _=some ((zB true),_) from (by rw[show (nt (AY z2 z6))=true from h7])) (eC 5 (some ((zI (Aj .i64 (Int.sub z2 z6))),(hp 2 [(oC [zI z3,zI z4,zI z5,zI z6]),oC q1]))) (show _=some ((zI (Int.ofNat k2)),_) from (by rw[AR h9])) (by kernel_rfl)))) (eD (keep (hp 2 [(oC [zI z3,zI z4,zI z5,zI z6]),oC q1]) (bb (an (Nat.blt k2 n1) true) (some (.pointer (some ⟨1,(0+k2*1),none⟩))) none)) (AX h10) (eD (keep (hp 2 [(oC [zI z3,zI z4,zI z5,zI z6]),oC q1]) (AL q1 (0+k2*1))) (AZ h11) (eC 3 (Oc 1 1 n1 c1 1 1 q1 [zB b1] [] (hp 3 [(oC [zI z3,zI z4,zI z5,zI z6]),oC q1,(oC [zB b1])])) (I1 h12) (eE)))))) ?_
      replace hm:=Ae hm;obtain⟨h13,hm⟩:=hm
      refine .ghs (fr 48 [(1,zI z1),(2,(pt 0 0)),(5,(sc 1 0 1 (n1+1) (d2 (n1+1)))),(6,zI z2)]) (hp 2 [(oC [zI z3,zI z4,zI z5,zI z6]),(oC (Br (Am 0 q1) [zB b1]))]) (.k [3] [] [.tmp 2 false,.tmp 5 false] [1,2,5,6] ⟨AO h13,trivial⟩) ?_
      refine .rK ?_
      exact⟨(z1,(n1+1),(d2 (n1+1)),(Aj .i64 (Int.add z2 (1:Int))),z3,z4,z5,z6,(Br (Am 0 q1) [zB b1])),hm,(.k [1] [] [.tmp 2 false,.tmp 5 false] [1,2,5,6] ⟨AO h13,trivial⟩)⟩
     ·replace hm:=Ae hm;obtain⟨h14,hm⟩:=hm
      refine .reg (eN 12 (Fr.puts (fr 48 [(1,zI z1),(2,(pt 0 0)),(5,sc 1 0 1 n1 c1),(6,zI z2)]) [(13,sc 1 0 1 n1 c1),(14,zI z2),(15,(pt 0 2)),(16,zI z5),(17,zB true),(18,zB true),(19,sc 1 0 1 n1 c1),(20,zI z2),(21,(pt 0 2)),(22,zI z5),(23,(zI (Int.ofNat k1))),(24,(.pointer (some ⟨1,(0+k1*1),none⟩)))]) (hp 2 [(oC [zI z3,zI z4,zI z5,zI z6]),oC q1]) (eC 4 (some ((zB (nt (AY z2 z5))),(hp 2 [(oC [zI z3,zI z4,zI z5,zI z6]),oC q1]))) (show _=some ((zB true),_) from (by rw[show (nt (AY z2 z5))=true from h2])) (eC 5 (some ((zI (Aj .i64 (Int.sub z2 z5))),(hp 2 [(oC [zI z3,zI z4,zI z5,zI z6]),oC q1]))) (show _=some ((zI (Int.ofNat k1)),_) from (by rw[AR h3])) (eD (keep (hp 2 [(oC [zI z3,zI z4,zI z5,zI z6]),oC q1]) (bb (an (Nat.blt k1 n1) true) (some (.pointer (some ⟨1,(0+k1*1),none⟩))) none)) (AX h4) (by kernel_rfl)))) (eD (keep (hp 2 [(oC [zI z3,zI z4,zI z5,zI z6]),oC q1]) (AL q1 (0+k1*1))) (show _=some ((zB false),_) from (by have hz:keep (hp 2 [(oC [zI z3,zI z4,zI z5,zI z6]),oC q1]) (AL q1 (0+k1*1))=some ((zB b0),(hp 2 [(oC [zI z3,zI z4,zI z5,zI z6]),oC q1])):=(AZ h5);rw[h6] at hz;exact hz)) (eC 5 (some ((zB (nt (AY z2 z6))),(hp 2 [(oC [zI z3,zI z4,zI z5,zI z6]),oC q1]))) (show _=some ((zB false),_) from (by rw[show (nt (AY z2 z6))=false from h7])) (eC 11 (Oc 1 1 n1 c1 1 1 q1 [zB false] [] (hp 3 [(oC [zI z3,zI z4,zI z5,zI z6]),oC q1,(oC [zB false])])) (I1 h14) (eE))))) ?_
      replace hm:=Ae hm;obtain⟨h15,hm⟩:=hm
      refine .ghs (fr 48 [(1,zI z1),(2,(pt 0 0)),(5,(sc 1 0 1 (n1+1) (d2 (n1+1)))),(6,zI z2)]) (hp 2 [(oC [zI z3,zI z4,zI z5,zI z6]),(oC (Br (Am 0 q1) [zB false]))]) (.k [3] [] [.tmp 2 false,.tmp 5 false] [1,2,5,6] ⟨AO h15,trivial⟩) ?_
      refine .rK ?_
      exact⟨(z1,(n1+1),(d2 (n1+1)),(Aj .i64 (Int.add z2 (1:Int))),z3,z4,z5,z6,(Br (Am 0 q1) [zB false])),hm,(.k [1] [] [.tmp 2 false,.tmp 5 false] [1,2,5,6] ⟨AO h15,trivial⟩)⟩
   ·replace hm:=Ag hm;rcases hm with⟨h16,hm⟩ | ⟨h16,hm⟩
    ·replace hm:=Ab hm;obtain⟨k3,h4,hm⟩:=hm
     replace hm:=Ae hm;obtain⟨h17,hm⟩:=hm
     replace hm:=Jf hm;obtain⟨b2,h18,hm⟩:=hm
     replace hm:=Ae hm;obtain⟨h7,hm⟩:=hm
     refine .reg (eN 25 (Fr.puts (fr 48 [(1,zI z1),(2,(pt 0 0)),(5,sc 1 0 1 n1 c1),(6,zI z2)]) [(13,sc 1 0 1 n1 c1),(14,zI z2),(15,(pt 0 2)),(16,zI z5),(17,zB false),(18,zB false),(19,(.tuple ⟨[]⟩)),(20,(.tuple ⟨[]⟩)),(21,(.tuple ⟨[]⟩)),(22,(.tuple ⟨[]⟩)),(23,(.tuple ⟨[]⟩)),(24,(.tuple ⟨[]⟩)),(25,(.tuple ⟨[]⟩)),(26,zB false),(27,zB false),(28,zI z2),(29,(pt 0 3)),(30,zI z6),(31,zB true),(32,zB true),(33,sc 1 0 1 n1 c1),(34,zI z2),(35,(pt 0 3)),(36,zI z6),(37,(zI (Int.ofNat k3)))]) (hp 2 [(oC [zI z3,zI z4,zI z5,zI z6]),oC q1]) (eC 4 (some ((zB (nt (AY z2 z5))),(hp 2 [(oC [zI z3,zI z4,zI z5,zI z6]),oC q1]))) (show _=some ((zB false),_) from (by rw[show (nt (AY z2 z5))=false from h2])) (eC 13 (some ((zB (nt (AY z2 z6))),(hp 2 [(oC [zI z3,zI z4,zI z5,zI z6]),oC q1]))) (show _=some ((zB true),_) from (by rw[show (nt (AY z2 z6))=true from h16])) (eC 5 (some ((zI (Aj .i64 (Int.sub z2 z6))),(hp 2 [(oC [zI z3,zI z4,zI z5,zI z6]),oC q1]))) (show _=some ((zI (Int.ofNat k3)),_) from (by rw[AR h4])) (by kernel_rfl)))) (eD (keep (hp 2 [(oC [zI z3,zI z4,zI z5,zI z6]),oC q1]) (bb (an (Nat.blt k3 n1) true) (some (.pointer (some ⟨1,(0+k3*1),none⟩))) none)) (AX h17) (eD (keep (hp 2 [(oC [zI z3,zI z4,zI z5,zI z6]),oC q1]) (AL q1 (0+k3*1))) (AZ h18) (eC 3 (Oc 1 1 n1 c1 1 1 q1 [zB b2] [] (hp 3 [(oC [zI z3,zI z4,zI z5,zI z6]),oC q1,(oC [zB b2])])) (I1 h7) (eE))))) ?_
     replace hm:=Ae hm;obtain⟨h19,hm⟩:=hm
     refine .ghs (fr 48 [(1,zI z1),(2,(pt 0 0)),(5,(sc 1 0 1 (n1+1) (d2 (n1+1)))),(6,zI z2)]) (hp 2 [(oC [zI z3,zI z4,zI z5,zI z6]),(oC (Br (Am 0 q1) [zB b2]))]) (.k [3] [] [.tmp 2 false,.tmp 5 false] [1,2,5,6] ⟨AO h19,trivial⟩) ?_
     refine .rK ?_
     exact⟨(z1,(n1+1),(d2 (n1+1)),(Aj .i64 (Int.add z2 (1:Int))),z3,z4,z5,z6,(Br (Am 0 q1) [zB b2])),hm,(.k [1] [] [.tmp 2 false,.tmp 5 false] [1,2,5,6] ⟨AO h19,trivial⟩)⟩
    ·replace hm:=Ae hm;obtain⟨h3,hm⟩:=hm
     refine .reg (eC 4 (some ((zB (nt (AY z2 z5))),(hp 2 [(oC [zI z3,zI z4,zI z5,zI z6]),oC q1]))) (show _=some ((zB false),_) from (by rw[show (nt (AY z2 z5))=false from h2])) (eC 13 (some ((zB (nt (AY z2 z6))),(hp 2 [(oC [zI z3,zI z4,zI z5,zI z6]),oC q1]))) (show _=some ((zB false),_) from (by rw[show (nt (AY z2 z6))=false from h16])) (eC 11 (Oc 1 1 n1 c1 1 1 q1 [zB false] [] (hp 3 [(oC [zI z3,zI z4,zI z5,zI z6]),oC q1,(oC [zB false])])) (I1 h3) (eE)))) ?_
     replace hm:=Ae hm;obtain⟨h20,hm⟩:=hm
     refine .ghs (fr 48 [(1,zI z1),(2,(pt 0 0)),(5,(sc 1 0 1 (n1+1) (d2 (n1+1)))),(6,zI z2)]) (hp 2 [(oC [zI z3,zI z4,zI z5,zI z6]),(oC (Br (Am 0 q1) [zB false]))]) (.k [3] [] [.tmp 2 false,.tmp 5 false] [1,2,5,6] ⟨AO h20,trivial⟩) ?_
     refine .rK ?_
     exact⟨(z1,(n1+1),(d2 (n1+1)),(Aj .i64 (Int.add z2 (1:Int))),z3,z4,z5,z6,(Br (Am 0 q1) [zB false])),hm,(.k [1] [] [.tmp 2 false,.tmp 5 false] [1,2,5,6] ⟨AO h20,trivial⟩)⟩
  ·refine Bp (nt (AY z1 z2)) h1 ?_
   refine .exit ?_
   exact⟨(z1,n1,c1,q1),hm,(.k [1] [] [.tmp 5 false] [1,5] ⟨AO h0,trivial⟩)⟩
end
end Go.TpMM
