/- Made from wip. -/
import Derived.Test.YtflonlkiajhhjaaTpAMod1x

set_option maxRecDepth 100000
set_option maxHeartbeats 20000000
set_option linter.unusedVariables false
namespace Go.TpAM
open Go.Sp Go.TpA
noncomputable section

def m8_ (pu:Af) (n:Nat) (s0:Sl):OV:=
 (oo (pu 22 [Sl.v 1 s0]) none fun v0=>(oo (Bi .i64 v0) none fun x0=>(bb (nt (Bd x0 (0:Int))) (some (.tuple ⟨[(.int .i64 (0:Int)),.int .i64 x0]⟩)) (oo (pu 24 [Sl.v 1 s0]) none fun v1=>(oo (Bt v1) none fun l0=>(ll l0 none fun v2 l0=>(ll l0 none fun v3 l0=>(ll l0 none fun v4 l0=>(ll l0 none fun v5 l0=>(ll l0 (oo (Bi .i64 v2) none fun x1=>(oo (Bi .i64 v3) none fun x2=>(oo (Bi .i64 v4) none fun x3=>(oo (Bi .i64 v5) none fun x4=>(bb (Au F4 ([]:List EO)) (oo (pu 10230 [(.map (some 0)),(.agg ⟨[.int .i64 x1,.int .i64 x2,.int .i64 x3,.int .i64 x4]⟩),(Ef (.map ([]:List EO) 0))]) none fun v6=>(oo (CQ v6) none fun l1=>(ll l1 none fun v7 l1=>(ll l1 none fun v8 l1=>(ll l1 (oo (Bi .i64 v7) none fun x5=>(oo (Fj v8) none fun y0=>(bb (Au F4 (Akd.es y0)) (bb (AY x5 (0:Int)) (some (.tuple ⟨[(.int .i64 (0:Int)),(.int .i64 (12:Int))]⟩)) (some (.tuple ⟨[.int .i64 x5,(.int .i64 (0:Int))]⟩))) none))) fun _ _=>none))))) none))))) fun _ _=>none))))))))))
def m8 (pu:Af) (n:Nat) (args:LV):OV:=
 (ll args none fun a0 args=>(ll args (oo (Bj 1 a0) none fun s0=>(m8_ pu n s0)) fun _ _=>none))
theorem r8 {call:A8} (pu:Af) (n:Nat) (hcall:call=Bb tabs isP pu (inl pu)) {args:LV} {v:Value} (hm:m8 pu n args=some v) (_:∀ x∈args,closed2 x=true):args.length≤18∧BN tt call 0 Sa (Fr.made 18 args) (Ao tabs) (Fin tt 0 [.tmp 2,.tmp 3] v):=by
 subst hcall
 unfold m8 at hm
 replace hm:=Ad hm;obtain⟨a0,args_0,rfl,hm⟩:=hm
 replace hm:=AC hm;obtain⟨rfl,hm⟩:=hm
 replace hm:=Al hm;obtain⟨s0,rfl,hm⟩:=hm
 unfold m8_ at hm
 refine⟨by simp,?_⟩
 refine .same (F':=(fr 18 [(0,Sl.v 1 s0)])) (H':=(hp 0 [])) (by kernel_rfl) (by kernel_rfl) ?_
 refine .then (.rK (.ghs (fr 18 [(0,Sl.v 1 s0)]) (hp 0 []) (.k0 [] [] [0]) ?_))
 refine .then (.then ?_)
 replace hm:=Hw hm;obtain⟨x0,h0,hm⟩:=hm
 refine .reg (eC 1 ((oo (pu 22 [Sl.v 1 s0]) none fun v=>some (v,(hp 0 [])))) (AB h0) (eE)) ?_
 refine .ghs (fr 18 [(0,Sl.v 1 s0),(4,zI x0)]) (hp 0 []) (.k0 [] [] [0,4]) ?_
 refine .then (.rK (.ghs (fr 18 [(0,Sl.v 1 s0),(4,zI x0),(9,(zB (nt (Bd x0 (0:Int)))))]) (hp 0 []) (.k0 [] [] [0,4,9]) ?_))
 replace hm:=Ag hm;rcases hm with⟨h1,hm⟩ | ⟨h1,hm⟩
 ·refine Cs (nt (Bd x0 (0:Int))) h1 ?_
  refine .then (.rK (.ghs (fr 18 [(2,(zI (0:Int))),(3,zI x0)]) (hp 0 []) (.k0 [] [] [2,3]) ?_))
  refine .ret ?_
  exact Bp (.tuple ⟨[(zI (0:Int)),zI x0]⟩) hm
 ·refine CY (nt (Bd x0 (0:Int))) h1 ?_
  refine .skip (.ghs (fr 18 [(0,Sl.v 1 s0)]) (hp 0 []) (.k0 [] [] [0]) ?_)
  refine .then ?_
  replace hm:=Ab hm;obtain⟨v0,h2,hm⟩:=hm
  replace hm:=BG hm;obtain⟨l0,rfl,hm⟩:=hm
  replace hm:=Ad hm;obtain⟨v1,l1536454_0,rfl,hm⟩:=hm
  replace hm:=Ad hm;obtain⟨v2,l1536454_1,rfl,hm⟩:=hm
  replace hm:=Ad hm;obtain⟨v3,l1536454_2,rfl,hm⟩:=hm
  replace hm:=Ad hm;obtain⟨v4,l1536454_3,rfl,hm⟩:=hm
  replace hm:=AC hm;obtain⟨rfl,hm⟩:=hm
  replace hm:=Ai hm;obtain⟨x1,rfl,hm⟩:=hm
  replace hm:=Ai hm;obtain⟨x2,rfl,hm⟩:=hm
  replace hm:=Ai hm;obtain⟨x3,rfl,hm⟩:=hm
  replace hm:=Ai hm;obtain⟨x4,rfl,hm⟩:=hm
  replace hm:=Ae hm;obtain⟨h3,hm⟩:=hm
  replace hm:=Ab hm;obtain⟨v5,h4,hm⟩:=hm
  replace hm:=Ch hm;obtain⟨l1,rfl,hm⟩:=hm
  replace hm:=Ad hm;obtain⟨v6,l1536477_0,rfl,hm⟩:=hm
  replace hm:=Ad hm;obtain⟨v7,l1536477_1,rfl,hm⟩:=hm
  replace hm:=AC hm;obtain⟨rfl,hm⟩:=hm
  replace hm:=Ai hm;obtain⟨x5,rfl,hm⟩:=hm
  replace hm:=Ab hm;obtain⟨y0,h5,hm⟩:=hm
  replace hm:=Ae hm;obtain⟨h6,hm⟩:=hm
  refine .reg (eC 2 ((oo (pu 24 [Sl.v 1 s0]) none fun v=>some (v,(hp 1 [(.map ([]:List EO) 0)])))) (AB h2) (eD (Fp tabs [[none],[none,none,none,none]] 2 [.tmp 0 false] [false] (pu 10230) [(.map (some 0)),(.agg ⟨[zI x1,zI x2,zI x3,zI x4]⟩)] (hp 1 [(.map ([]:List EO) 0)])) (FM (as:=[(.map (some 0)),(.agg ⟨[zI x1,zI x2,zI x3,zI x4]⟩)]) (H1:=(hp 1 [(.map ([]:List EO) 0)])) (BO (Eb Dn) (BO (Jc (DT Dn (DT Dn (DT Dn (DT Dn Jb))))) FX)) (FL (H2:=(hp 1 [(.map (Akd.es y0) (Akd.clock y0))])) (v:=(zI x5)) (v':=(zI x5)) [some 0] [(false,some 0)] [(.map ([]:List EO) 0)] [(.map (some 0)),(.agg ⟨[zI x1,zI x2,zI x3,zI x4]⟩)] [v7] [(.map (Akd.es y0) (Akd.clock y0))] [some 0] [(false,(.map (Akd.es y0) (Akd.clock y0)))] [(.map (Akd.es y0) (Akd.clock y0))] (by kernel_rfl) (C8 (Hy h3) BI) (Eq.trans (by kernel_rfl) h4) (C8 (FK h5) BI) (C8 (Hz h6) BI))) (eE))) ?_
  refine .ghs (fr 18 [(5,zI x5)]) (hp 0 []) (.k0 [] [] [5]) ?_
  refine .then (.then (.rK (.ghs (fr 18 [(5,zI x5),(16,(zB (AY x5 (0:Int))))]) (hp 0 []) (.k0 [] [] [5,16]) ?_)))
  replace hm:=Ag hm;rcases hm with⟨h7,hm⟩ | ⟨h7,hm⟩
  ·refine Cs (AY x5 (0:Int)) h7 ?_
   refine .then (.rK (.ghs (fr 18 [(2,(zI (0:Int))),(3,(zI (12:Int)))]) (hp 0 []) (.k0 [] [] [2,3]) ?_))
   refine .ret ?_
   exact Bp (.tuple ⟨[(zI (0:Int)),(zI (12:Int))]⟩) hm
  ·refine CY (AY x5 (0:Int)) h7 ?_
   refine .skip (.ghs (fr 18 [(5,zI x5)]) (hp 0 []) (.k0 [] [] [5]) ?_)
   refine .then (.rK (.ghs (fr 18 [(2,zI x5),(3,(zI (0:Int)))]) (hp 0 []) (.k0 [] [] [2,3]) ?_))
   refine .ret ?_
   exact Bp (.tuple ⟨[zI x5,(zI (0:Int))]⟩) hm
def SA (pu:Af) (n n0:Nat) (q0:LV):OV:=
 (some (.tuple ⟨[(Cv n0 q0),(.int .i64 (0:Int))]⟩))
def V6 (pu:Af) (n:Nat) (ih0:Nat→LV→Sl→Int→Int→OV) (n0:Nat) (q0:LV) (s0:Sl) (z0 z1:Int):OV:=
 (bb (AY z1 z0) (oo (EA z1) none fun k1=>(bb (an (Nat.blt k1 (Sl.n s0)) true) (oo (AL (Sl.cs s0) (k1*1)) none fun v0=>(oo (Bj 1 v0) none fun s1=>(oo (pu 43 [(Cv n0 q0),Sl.v 1 s1]) none fun v1=>(oo (Bi .i64 v1) none fun x0=>(bb (nt (Bd x0 (0:Int))) (some (.tuple ⟨[(.pointer none),.int .i64 x0]⟩)) (ih0 n0 q0 s0 z0 (Aj .i64 (Int.add (Int.ofNat k1) (1:Int))))))))) none)) (SA pu n n0 q0))
def V8 (pu:Af) (n w:Nat):Nat→LV→Sl→Int→Int→OV:=
 Nat.rec (motive:=fun _=>Nat→LV→Sl→Int→Int→OV) (fun _ _ _ _ _=>none) (fun _ ih0=>V6 pu n ih0) w
def SB (pu:Af) (n:Nat):OV:=
 (some (.tuple ⟨[(.pointer none),(.int .i64 (0:Int))]⟩))
def V9 (pu:Af) (n:Nat) (ih0:Sl→Int→Int→OV) (s0:Sl) (z0 z1:Int):OV:=
 (bb (AY z1 z0) (oo (EA z1) none fun k1=>(bb (an (Nat.blt k1 (Sl.n s0)) true) (oo (AL (Sl.cs s0) (k1*1)) none fun v0=>(oo (Bj 1 v0) none fun s1=>(oo (pu 43 [(.pointer none),Sl.v 1 s1]) none fun v1=>(oo (Bi .i64 v1) none fun x0=>(bb (nt (Bd x0 (0:Int))) (some (.tuple ⟨[(.pointer none),.int .i64 x0]⟩)) (ih0 s0 z0 (Aj .i64 (Int.add (Int.ofNat k1) (1:Int))))))))) none)) (SB pu n))
def Wl (pu:Af) (n w:Nat):Sl→Int→Int→OV:=
 Nat.rec (motive:=fun _=>Sl→Int→Int→OV) (fun _ _ _=>none) (fun _ ih0=>V9 pu n ih0) w
def AcC (pu:Af) (n:Nat) (x0 x1 x2:Int) (s0 s1:Sl):OV:=
 (oo (pu 42 [(.agg ⟨[.int .i64 x0,.int .i64 x1,.int .i64 x2,Sl.v 1 s0]⟩)]) none fun v0=>(oo (CQ v0) none fun l0=>(ll l0 none fun v1 l0=>(ll l0 none fun v2 l0=>(ll l0 (bb (isS (Pv v1)) (oo (Pv v1) none fun p0=>(oo (Bi .i64 v2) none fun x3=>(bb (nt (Bd x3 (0:Int))) (some (.tuple ⟨[(.pointer none),.int .i64 x3]⟩)) (V8 pu n n (Db.off p0) (Db.cs p0) s1 (Int.ofNat (Sl.n s1)) (0:Int))))) (bb (V3 v1) (oo (Bi .i64 v2) none fun x4=>(bb (nt (Bd x4 (0:Int))) (some (.tuple ⟨[(.pointer none),.int .i64 x4]⟩)) (Wl pu n n s1 (Int.ofNat (Sl.n s1)) (0:Int)))) none)) fun _ _=>none)))))
def m19 (pu:Af) (n:Nat) (args:LV):OV:=
 (ll args none fun a0 args=>(ll args none fun a1 args=>(ll args (oo (Bt a0) none fun l0=>(ll l0 none fun v0 l0=>(ll l0 none fun v1 l0=>(ll l0 none fun v2 l0=>(ll l0 none fun v3 l0=>(ll l0 (oo (Bi .i64 v0) none fun x0=>(oo (Bi .i64 v1) none fun x1=>(oo (Bi .i64 v2) none fun x2=>(oo (Bj 1 v3) none fun s0=>(oo (Bj 1 a1) none fun s1=>(AcC pu n x0 x1 x2 s0 s1)))))) fun _ _=>none)))))) fun _ _=>none)))
theorem AcD (pu:Af) (n n0:Nat) (q0:LV) {v:Value} (hm:SA pu n n0 q0=some v):BN tt (Bb tabs isP pu (inl pu)) 0 RQ (fr 33 [(6,(Cv n0 q0))]) (hp 0 []) (Fin tt 0 [.tmp 4,.tmp 5] v):=by
 unfold SA at hm
 refine .then (.rK (.ghs (fr 33 [(4,(Cv n0 q0)),(5,(zI (0:Int)))]) (hp 0 []) (.k0 [] [] [4,5]) ?_))
 refine .ret ?_
 exact Bp (.tuple ⟨[(Cv n0 q0),(zI (0:Int))]⟩) hm
theorem AcE (pu:Af) (n:Nat) {v:Value} (hm:SB pu n=some v):BN tt (Bb tabs isP pu (inl pu)) 0 RQ (fr 33 [(6,(.pointer none))]) (hp 0 []) (Fin tt 0 [.tmp 4,.tmp 5] v):=by
 unfold SB at hm
 refine .then (.rK (.ghs (fr 33 [(4,(.pointer none)),(5,(zI (0:Int)))]) (hp 0 []) (.k0 [] [] [4,5]) ?_))
 refine .ret ?_
 exact Bp (.tuple ⟨[(.pointer none),(zI (0:Int))]⟩) hm
theorem r19 {call:A8} (pu:Af) (n:Nat) (hcall:call=Bb tabs isP pu (inl pu)) {args:LV} {v:Value} (hm:m19 pu n args=some v) (_:∀ x∈args,closed2 x=true):args.length≤33∧BN tt call 0 Pe (Fr.made 33 args) (Ao tabs) (Fin tt 0 [.tmp 4,.tmp 5] v):=by
 subst hcall
 unfold m19 at hm
 replace hm:=Ad hm;obtain⟨a0,args_0,rfl,hm⟩:=hm
 replace hm:=Ad hm;obtain⟨a1,args_1,rfl,hm⟩:=hm
 replace hm:=AC hm;obtain⟨rfl,hm⟩:=hm
 replace hm:=BG hm;obtain⟨l0,rfl,hm⟩:=hm
 replace hm:=Ad hm;obtain⟨v0,l1536487_0,rfl,hm⟩:=hm
 replace hm:=Ad hm;obtain⟨v1,l1536487_1,rfl,hm⟩:=hm
 replace hm:=Ad hm;obtain⟨v2,l1536487_2,rfl,hm⟩:=hm
 replace hm:=Ad hm;obtain⟨v3,l1536487_3,rfl,hm⟩:=hm
 replace hm:=AC hm;obtain⟨rfl,hm⟩:=hm
 replace hm:=Ai hm;obtain⟨x0,rfl,hm⟩:=hm
 replace hm:=Ai hm;obtain⟨x1,rfl,hm⟩:=hm
 replace hm:=Ai hm;obtain⟨x2,rfl,hm⟩:=hm
 replace hm:=Al hm;obtain⟨s0,rfl,hm⟩:=hm
 replace hm:=Al hm;obtain⟨s1,rfl,hm⟩:=hm
 unfold AcC at hm
 refine⟨by simp,?_⟩
 refine .same (F':=(fr 33 [(0,(.agg ⟨[zI x0,zI x1,zI x2,Sl.v 1 s0]⟩)),(1,Sl.v 1 s1)])) (H':=(hp 0 [])) (by kernel_rfl) (by kernel_rfl) ?_
 refine .then (.rK (.ghs (fr 33 [(1,Sl.v 1 s1),(2,(pt 0 0))]) (hp 1 [(oC [zI x0,zI x1,zI x2,Sl.v 1 s0])]) (.k0 [] [.tmp 2 false] [1,2]) ?_))
 refine .then ?_
 replace hm:=Ab hm;obtain⟨v4,h0,hm⟩:=hm
 replace hm:=Ch hm;obtain⟨l1,rfl,hm⟩:=hm
 replace hm:=Ad hm;obtain⟨v5,l1536516_0,rfl,hm⟩:=hm
 replace hm:=Ad hm;obtain⟨v6,l1536516_1,rfl,hm⟩:=hm
 replace hm:=AC hm;obtain⟨rfl,hm⟩:=hm
 replace hm:=Ag hm;rcases hm with⟨h1,hm⟩ | ⟨h1,hm⟩
 ·replace hm:=Ab hm;obtain⟨p0,h2,hm⟩:=hm
  obtain rfl:=F7 h2
  replace hm:=Ai hm;obtain⟨x3,rfl,hm⟩:=hm
  refine .reg (eC 1 ((oo (pu 42 [(.agg ⟨[zI x0,zI x1,zI x2,Sl.v 1 s0]⟩)]) none fun v=>some (v,(hp 1 [(oC [zI x0,zI x1,zI x2,Sl.v 1 s0])])))) (AB h0) (eE)) ?_
  refine .ghs (fr 33 [(1,Sl.v 1 s1),(6,(Cv (Db.off p0) (Db.cs p0))),(7,zI x3)]) (hp 0 []) (.k0 [] [] [1,6,7]) ?_
  refine .then (.then (.rK (.ghs (fr 33 [(1,Sl.v 1 s1),(6,(Cv (Db.off p0) (Db.cs p0))),(7,zI x3),(17,(zB (nt (Bd x3 (0:Int)))))]) (hp 0 []) (.k0 [] [] [1,6,7,17]) ?_)))
  replace hm:=Ag hm;rcases hm with⟨h3,hm⟩ | ⟨h3,hm⟩
  ·refine Cs (nt (Bd x3 (0:Int))) h3 ?_
   refine .then (.rK (.ghs (fr 33 [(4,(.pointer none)),(5,zI x3)]) (hp 0 []) (.k0 [] [] [4,5]) ?_))
   refine .ret ?_
   exact Bp (.tuple ⟨[(.pointer none),zI x3]⟩) hm
  ·refine CY (nt (Bd x3 (0:Int))) h3 ?_
   refine .skip (.ghs (fr 33 [(1,Sl.v 1 s1),(6,(Cv (Db.off p0) (Db.cs p0)))]) (hp 0 []) (.k0 [] [] [1,6]) ?_)
   refine .join (v:=v) (fun y:Nat×LV=>((fr 33 [(6,(Cv y.1 y.2))]),(hp 0 []))) (fun y=>SA pu n y.1 y.2) ?_ ?_
   ·rintro⟨n0,q0⟩ hm
    exact AcD pu n n0 q0 hm
   ·refine .then (.rK (.ghs (fr 33 [(6,(Cv (Db.off p0) (Db.cs p0))),(19,Sl.v 1 s1),(20,(zI (Int.ofNat (Sl.n s1)))),(21,(zI (0:Int)))]) (hp 0 []) (.k0 [] [] [6,19,20,21]) ?_))
    refine .block (.loopM (v:=v) (fun y:Nat×LV×Sl×Int×Int=>((fr 33 [(6,(Cv y.1 y.2.1)),(19,(Sl.v 1 y.2.2.1)),(20,(zI y.2.2.2.1)),(21,(zI y.2.2.2.2))]),(hp 0 []))) (fun w y=>V8 pu n w y.1 y.2.1 y.2.2.1 y.2.2.2.1 y.2.2.2.2) n ⟨((Db.off p0),(Db.cs p0),s1,(Int.ofNat (Sl.n s1)),(0:Int)),hm,(.k0 [] [] [6,19,20,21])⟩ (fun _=>rfl) ?_)
    rintro w0 ⟨n1,q1,s2,z0,z1⟩ hm
    replace hm:V6 pu n (V8 pu n w0) n1 q1 s2 z0 z1=some v:=hm
    unfold V6 at hm
    refine .then (.rK (.ghs (fr 33 [(6,(Cv n1 q1)),(19,Sl.v 1 s2),(20,zI z0),(21,zI z1),(22,(zB (AY z1 z0)))]) (hp 0 []) (.k0 [] [] [6,19,20,21,22]) ?_))
    refine .then ?_
    replace hm:=Ag hm;rcases hm with⟨h4,hm⟩ | ⟨h4,hm⟩
    ·refine Cs (AY z1 z0) h4 ?_
     refine .skip (.ghs (fr 33 [(6,(Cv n1 q1)),(19,Sl.v 1 s2),(20,zI z0),(21,zI z1)]) (hp 0 []) (.k0 [] [] [6,19,20,21]) ?_)
     refine .then (.block (.then ?_))
     replace hm:=Ab hm;obtain⟨k1,h5,hm⟩:=hm
     obtain rfl:=AR h5
     replace hm:=Ae hm;obtain⟨h6,hm⟩:=hm
     replace hm:=O4 hm;obtain⟨s3,h7,hm⟩:=hm
     refine .reg (eD (keep (hp 0 []) (bb (an (Nat.blt k1 (Sl.n s2)) true) (some (Cv (k1*1) (Sl.cs s2))) none)) (AX h6) (eD (keep (hp 0 []) (AL (Sl.cs s2) (k1*1))) (AZ h7) (eE))) ?_
     refine .ghs (fr 33 [(6,(Cv n1 q1)),(9,Sl.v 1 s3),(19,Sl.v 1 s2),(20,zI z0),(21,(zI (Int.ofNat k1)))]) (hp 0 []) (.k0 [] [] [6,9,19,20,21]) ?_
     refine .then ?_
     replace hm:=Hw hm;obtain⟨x4,h8,hm⟩:=hm
     refine .reg (eC 2 ((oo (pu 43 [(Cv n1 q1),Sl.v 1 s3]) none fun v=>some (v,(hp 0 [])))) (AB h8) (eE)) ?_
     refine .ghs (fr 33 [(6,(Cv n1 q1)),(10,zI x4),(19,Sl.v 1 s2),(20,zI z0),(21,(zI (Int.ofNat k1)))]) (hp 0 []) (.k0 [] [] [6,10,19,20,21]) ?_
     refine .then (.rK (.ghs (fr 33 [(6,(Cv n1 q1)),(10,zI x4),(19,Sl.v 1 s2),(20,zI z0),(21,(zI (Int.ofNat k1))),(29,(zB (nt (Bd x4 (0:Int)))))]) (hp 0 []) (.k0 [] [] [6,10,19,20,21,29]) ?_))
     replace hm:=Ag hm;rcases hm with⟨h9,hm⟩ | ⟨h9,hm⟩
     ·refine Cs (nt (Bd x4 (0:Int))) h9 ?_
      refine .then (.rK (.ghs (fr 33 [(4,(.pointer none)),(5,zI x4)]) (hp 0 []) (.k0 [] [] [4,5]) ?_))
      refine .ret ?_
      exact Bp (.tuple ⟨[(.pointer none),zI x4]⟩) hm
     ·refine CY (nt (Bd x4 (0:Int))) h9 ?_
      refine .skip (.ghs (fr 33 [(6,(Cv n1 q1)),(19,Sl.v 1 s2),(20,zI z0),(21,(zI (Int.ofNat k1)))]) (hp 0 []) (.k0 [] [] [6,19,20,21]) ?_)
      refine .rK ?_
      exact⟨(n1,q1,s2,z0,(Aj .i64 (Int.add (Int.ofNat k1) (1:Int)))),hm,(.k0 [] [] [6,19,20,21])⟩
    ·refine CY (AY z1 z0) h4 ?_
     refine .exit ?_
     exact⟨(n1,q1),hm,(.k0 [] [] [6])⟩
 ·replace hm:=Ae hm;obtain⟨h10,hm⟩:=hm
  obtain rfl:=Qp h10
  replace hm:=Ai hm;obtain⟨x5,rfl,hm⟩:=hm
  refine .reg (eC 1 ((oo (pu 42 [(.agg ⟨[zI x0,zI x1,zI x2,Sl.v 1 s0]⟩)]) none fun v=>some (v,(hp 1 [(oC [zI x0,zI x1,zI x2,Sl.v 1 s0])])))) (AB h0) (eE)) ?_
  refine .ghs (fr 33 [(1,Sl.v 1 s1),(6,(.pointer none)),(7,zI x5)]) (hp 0 []) (.k0 [] [] [1,6,7]) ?_
  refine .then (.then (.rK (.ghs (fr 33 [(1,Sl.v 1 s1),(6,(.pointer none)),(7,zI x5),(17,(zB (nt (Bd x5 (0:Int)))))]) (hp 0 []) (.k0 [] [] [1,6,7,17]) ?_)))
  replace hm:=Ag hm;rcases hm with⟨h11,hm⟩ | ⟨h11,hm⟩
  ·refine Cs (nt (Bd x5 (0:Int))) h11 ?_
   refine .then (.rK (.ghs (fr 33 [(4,(.pointer none)),(5,zI x5)]) (hp 0 []) (.k0 [] [] [4,5]) ?_))
   refine .ret ?_
   exact Bp (.tuple ⟨[(.pointer none),zI x5]⟩) hm
  ·refine CY (nt (Bd x5 (0:Int))) h11 ?_
   refine .skip (.ghs (fr 33 [(1,Sl.v 1 s1),(6,(.pointer none))]) (hp 0 []) (.k0 [] [] [1,6]) ?_)
   refine .join (v:=v) (fun y:Unit=>((fr 33 [(6,(.pointer none))]),(hp 0 []))) (fun y=>SB pu n) ?_ ?_
   ·rintro _ hm
    exact AcE pu n hm
   ·refine .then (.rK (.ghs (fr 33 [(6,(.pointer none)),(19,Sl.v 1 s1),(20,(zI (Int.ofNat (Sl.n s1)))),(21,(zI (0:Int)))]) (hp 0 []) (.k0 [] [] [6,19,20,21]) ?_))
    refine .block (.loopM (v:=v) (fun y:Sl×Int×Int=>((fr 33 [(6,(.pointer none)),(19,(Sl.v 1 y.1)),(20,(zI y.2.1)),(21,(zI y.2.2))]),(hp 0 []))) (fun w y=>Wl pu n w y.1 y.2.1 y.2.2) n ⟨(s1,(Int.ofNat (Sl.n s1)),(0:Int)),hm,(.k0 [] [] [6,19,20,21])⟩ (fun _=>rfl) ?_)
    rintro w0 ⟨s4,z2,z3⟩ hm
    replace hm:V9 pu n (Wl pu n w0) s4 z2 z3=some v:=hm
    unfold V9 at hm
    refine .then (.rK (.ghs (fr 33 [(6,(.pointer none)),(19,Sl.v 1 s4),(20,zI z2),(21,zI z3),(22,(zB (AY z3 z2)))]) (hp 0 []) (.k0 [] [] [6,19,20,21,22]) ?_))
    refine .then ?_
    replace hm:=Ag hm;rcases hm with⟨h12,hm⟩ | ⟨h12,hm⟩
    ·refine Cs (AY z3 z2) h12 ?_
     refine .skip (.ghs (fr 33 [(6,(.pointer none)),(19,Sl.v 1 s4),(20,zI z2),(21,zI z3)]) (hp 0 []) (.k0 [] [] [6,19,20,21]) ?_)
     refine .then (.block (.then ?_))
     replace hm:=Ab hm;obtain⟨k2,h13,hm⟩:=hm
     obtain rfl:=AR h13
     replace hm:=Ae hm;obtain⟨h14,hm⟩:=hm
     replace hm:=O4 hm;obtain⟨s5,h15,hm⟩:=hm
     refine .reg (eD (keep (hp 0 []) (bb (an (Nat.blt k2 (Sl.n s4)) true) (some (Cv (k2*1) (Sl.cs s4))) none)) (AX h14) (eD (keep (hp 0 []) (AL (Sl.cs s4) (k2*1))) (AZ h15) (eE))) ?_
     refine .ghs (fr 33 [(6,(.pointer none)),(9,Sl.v 1 s5),(19,Sl.v 1 s4),(20,zI z2),(21,(zI (Int.ofNat k2)))]) (hp 0 []) (.k0 [] [] [6,9,19,20,21]) ?_
     refine .then ?_
     replace hm:=Hw hm;obtain⟨x6,h16,hm⟩:=hm
     refine .reg (eC 2 ((oo (pu 43 [(.pointer none),Sl.v 1 s5]) none fun v=>some (v,(hp 0 [])))) (AB h16) (eE)) ?_
     refine .ghs (fr 33 [(6,(.pointer none)),(10,zI x6),(19,Sl.v 1 s4),(20,zI z2),(21,(zI (Int.ofNat k2)))]) (hp 0 []) (.k0 [] [] [6,10,19,20,21]) ?_
     refine .then (.rK (.ghs (fr 33 [(6,(.pointer none)),(10,zI x6),(19,Sl.v 1 s4),(20,zI z2),(21,(zI (Int.ofNat k2))),(29,(zB (nt (Bd x6 (0:Int)))))]) (hp 0 []) (.k0 [] [] [6,10,19,20,21,29]) ?_))
     replace hm:=Ag hm;rcases hm with⟨h17,hm⟩ | ⟨h17,hm⟩
     ·refine Cs (nt (Bd x6 (0:Int))) h17 ?_
      refine .then (.rK (.ghs (fr 33 [(4,(.pointer none)),(5,zI x6)]) (hp 0 []) (.k0 [] [] [4,5]) ?_))
      refine .ret ?_
      exact Bp (.tuple ⟨[(.pointer none),zI x6]⟩) hm
     ·refine CY (nt (Bd x6 (0:Int))) h17 ?_
      refine .skip (.ghs (fr 33 [(6,(.pointer none)),(19,Sl.v 1 s4),(20,zI z2),(21,(zI (Int.ofNat k2)))]) (hp 0 []) (.k0 [] [] [6,19,20,21]) ?_)
      refine .rK ?_
      exact⟨(s4,z2,(Aj .i64 (Int.add (Int.ofNat k2) (1:Int)))),hm,(.k0 [] [] [6,19,20,21])⟩
    ·refine CY (AY z3 z2) h12 ?_
     refine .exit ?_
     exact⟨(),hm,(.k0 [] [] [6])⟩
def SC (pu:Af) (n n0 c0:Nat) (q0:LV):OV:=
 (bb (Dp (Nat.ble 2 c0) (MQ q0)) (bb (Au Ah q0) (oo (pu 10440 [(.slice (some ⟨0,0,some 1⟩) n0 c0),(.func (.func 45) ⟨[]⟩ ⟨[]⟩),(.agg ⟨q0⟩)]) none fun v0=>(oo (CQ v0) none fun l0=>(ll l0 none fun v1 l0=>(ll l0 none fun v2 l0=>(ll l0 (bb (QC v1) (oo (Bt v2) none fun q1=>(bb (Au Ah q1) (bb (Au Ah q1) (bb (Dp (Nat.ble 2 c0) (MQ q1)) (bb (Au Ah q1) (oo (pu 10460 [(.slice (some ⟨0,0,some 1⟩) n0 c0),(.func (.func 47) ⟨[]⟩ ⟨[]⟩),(.agg ⟨q1⟩)]) none fun v3=>(oo (CQ v3) none fun l1=>(ll l1 none fun v4 l1=>(ll l1 none fun v5 l1=>(ll l1 (oo (Iz 0 0 1 v4) none fun y0=>(oo (Bt v5) none fun q2=>(bb (Au Ah q2) (bb (Au Ah q2) (bb (an (Nat.ble (0+(NC.n y0)*1) (len q2)) (Au Ah (Aq ((NC.n y0)*1) (Am 0 q2)))) (some (Sl.v 1 (Sl.mk (NC.n y0) 0 (Aq ((NC.n y0)*1) (Am 0 q2))))) none) none) none))) fun _ _=>none))))) none) none) none) none)) none) fun _ _=>none))))) none) none)
def Wm (pu:Af) (n:Nat) (ih0:Nat→LV→Sl→Nat→Nat→Int→Int→LV→OV) (n0:Nat) (q0:LV) (s0:Sl) (n1 c0:Nat) (z0 z1:Int) (q1:LV):OV:=
 (bb (Au Ah q1) (bb (AY z1 z0) (oo (pu 37 [(Cv n0 q0),Sl.v 1 s0,.int .i64 z1]) none fun v0=>(oo (Bj 1 v0) none fun s1=>(bb (GV 1 24 n1 c0 1 q1) (bb (Au Ah (Br (Am 0 q1) [Sl.v 1 s1])) (ih0 n0 q0 s0 (n1+1) (2*(n1+1)+bb false 1 0) z0 (Aj .i64 (Int.add z1 (1:Int))) (Br (Am 0 q1) [Sl.v 1 s1])) none) none))) (SC pu n n1 c0 q1)) none)
def Wn (pu:Af) (n w:Nat):Nat→LV→Sl→Nat→Nat→Int→Int→LV→OV:=
 Nat.rec (motive:=fun _=>Nat→LV→Sl→Nat→Nat→Int→Int→LV→OV) (fun _ _ _ _ _ _ _ _=>none) (fun _ ih0=>Wm pu n ih0) w
def AcF (pu:Af) (n:Nat) (p0:Db) (s0:Sl):OV:=
 (oo (AL (Db.cs p0) (((Db.off p0)+0)+3)) none fun v0=>(oo (Bj 1 v0) none fun s1=>(Wn pu n n (Db.off p0) (Db.cs p0) s0 0 0 (Int.ofNat (Sl.n s1)) (0:Int) ([]:LV))))
def m20 (pu:Af) (n:Nat) (args:LV):OV:=
 (ll args none fun a0 args=>(ll args none fun a1 args=>(ll args (oo (Pv a0) none fun p0=>(oo (Bj 1 a1) none fun s0=>(AcF pu n p0 s0))) fun _ _=>none)))
theorem AcG (pu:Af) (n n0 c0:Nat) (q0:LV) {v:Value} (hm:SC pu n n0 c0 q0=some v):BN tt (Bb tabs isP pu (inl pu)) 0 UB (fr 28 [(5,sc 0 0 1 n0 c0)]) (hp 1 [oC q0]) (Fin tt 0 [.tmp 4] v):=by
 unfold SC at hm
 refine .then ?_
 replace hm:=Ae hm;obtain⟨h0,hm⟩:=hm
 replace hm:=Ae hm;obtain⟨h1,hm⟩:=hm
 replace hm:=Ab hm;obtain⟨v0,h2,hm⟩:=hm
 replace hm:=Ch hm;obtain⟨l0,rfl,hm⟩:=hm
 replace hm:=Ad hm;obtain⟨v1,l1537463_0,rfl,hm⟩:=hm
 replace hm:=Ad hm;obtain⟨v2,l1537463_1,rfl,hm⟩:=hm
 replace hm:=AC hm;obtain⟨rfl,hm⟩:=hm
 replace hm:=Ae hm;obtain⟨h3,hm⟩:=hm
 obtain rfl:=LY h3
 replace hm:=BG hm;obtain⟨q1,rfl,hm⟩:=hm
 replace hm:=Ae hm;obtain⟨h4,hm⟩:=hm
 refine .reg (eC 1 (Fp tabs [[none],[none]] 2 [.tmp 0 false] [false] (pu 10440) [sc 0 0 1 n0 c0,(.func (.func 45) ⟨[]⟩ ⟨[]⟩)] (hp 1 [oC q0])) (FM (as:=[sc 0 0 1 n0 c0,(.func (.func 45) ⟨[]⟩ ⟨[]⟩)]) (H1:=(hp 1 [oC q0])) (BO (Eb Dn) (BO (Eb Dn) FX)) (FL (H2:=(hp 1 [oC q1])) (v:=(.tuple ⟨[]⟩)) (v':=(.tuple ⟨[]⟩)) [some 0] [(false,some 0)] [oC q0] [sc 0 0 1 n0 c0,(.func (.func 45) ⟨[]⟩ ⟨[]⟩)] [(.agg ⟨q1⟩)] [oC q1] [some 0] [(false,oC q1)] [oC q1] (sF (by kernel_rfl) (Sm h0 rfl)) (C8 (Kh (anc:=[]) h1) BI) (Eq.trans (by kernel_rfl) h2) (C8 rfl BI) (C8 (Ki h4) BI))) (eE)) ?_
 replace hm:=Ae hm;obtain⟨h5,hm⟩:=hm
 refine .ghs (fr 28 [(5,sc 0 0 1 n0 c0)]) (hp 1 [oC q1]) (.k [0] [] [.tmp 5 false] [5] ⟨BB h5,trivial⟩) ?_
 refine .then ?_
 replace hm:=Ae hm;obtain⟨h6,hm⟩:=hm
 replace hm:=Ae hm;obtain⟨h7,hm⟩:=hm
 replace hm:=Ab hm;obtain⟨v3,h8,hm⟩:=hm
 replace hm:=Ch hm;obtain⟨l1,rfl,hm⟩:=hm
 replace hm:=Ad hm;obtain⟨v4,l1543102_0,rfl,hm⟩:=hm
 replace hm:=Ad hm;obtain⟨v5,l1543102_1,rfl,hm⟩:=hm
 replace hm:=AC hm;obtain⟨rfl,hm⟩:=hm
 replace hm:=Ab hm;obtain⟨y0,h9,hm⟩:=hm
 obtain rfl:=Gu h9
 replace hm:=BG hm;obtain⟨q2,rfl,hm⟩:=hm
 replace hm:=Ae hm;obtain⟨h10,hm⟩:=hm
 refine .reg (eC 1 (Fp tabs [[none],[none]] 2 [.tmp 0 false] [false] (pu 10460) [sc 0 0 1 n0 c0,(.func (.func 47) ⟨[]⟩ ⟨[]⟩)] (hp 1 [oC q1])) (FM (as:=[sc 0 0 1 n0 c0,(.func (.func 47) ⟨[]⟩ ⟨[]⟩)]) (H1:=(hp 1 [oC q1])) (BO (Eb Dn) (BO (Eb Dn) FX)) (FL (H2:=(hp 1 [oC q2])) (v:=(sc 0 0 1 (NC.n y0) (NC.c y0))) (v':=(sc 0 0 1 (NC.n y0) (NC.c y0))) [some 0] [(false,some 0)] [oC q1] [sc 0 0 1 n0 c0,(.func (.func 47) ⟨[]⟩ ⟨[]⟩)] [(.agg ⟨q2⟩)] [oC q2] [some 0] [(false,oC q2)] [oC q2] (sF (by kernel_rfl) (Sm h6 rfl)) (C8 (Kh (anc:=[]) h7) BI) (Eq.trans (by kernel_rfl) h8) (C8 rfl BI) (C8 (Ki h10) BI))) (eE)) ?_
 replace hm:=Ae hm;obtain⟨h11,hm⟩:=hm
 refine .ghs (fr 28 [(4,(sc 0 0 1 (NC.n y0) (NC.c y0)))]) (hp 1 [oC q2]) (.k [0] [] [.tmp 4 false] [4] ⟨BB h11,trivial⟩) ?_
 replace hm:=Ae hm;obtain⟨h12,hm⟩:=hm
 refine .ghs (Fr.puts (fr 28 [(4,(sc 0 0 1 (NC.n y0) (NC.c y0)))]) [(4,(Sl.v 1 (Sl.mk (NC.n y0) 0 (Aq ((NC.n y0)*1) (Am 0 q2)))))]) (hp 1 [.dead]) (.freezeC 0 4 1 (an (Nat.ble (0+(NC.n y0)*1) (len q2)) (Au Ah (Aq ((NC.n y0)*1) (Am 0 q2)))) (F1:=(Fr.puts (fr 28 [(4,(sc 0 0 1 (NC.n y0) (NC.c y0)))]) [(4,(Sl.v 1 (Sl.mk (NC.n y0) 0 (Aq ((NC.n y0)*1) (Am 0 q2)))))])) (H1:=(hp 1 [.dead])) (by kernel_rfl) (by kernel_rfl) h12 (E9.id _ _)) ?_
 refine .ret ?_
 exact Bp (Sl.v 1 (Sl.mk (NC.n y0) 0 (Aq ((NC.n y0)*1) (Am 0 q2)))) hm
theorem r20 {call:A8} (pu:Af) (n:Nat) (hcall:call=Bb tabs isP pu (inl pu)) {args:LV} {v:Value} (hm:m20 pu n args=some v) (_:∀ x∈args,closed2 x=true):args.length≤28∧BN tt call 0 Pf (Fr.made 28 args) (Ao tabs) (Fin tt 0 [.tmp 4] v):=by
 subst hcall
 unfold m20 at hm
 replace hm:=Ad hm;obtain⟨a0,args_0,rfl,hm⟩:=hm
 replace hm:=Ad hm;obtain⟨a1,args_1,rfl,hm⟩:=hm
 replace hm:=AC hm;obtain⟨rfl,hm⟩:=hm
 replace hm:=Ab hm;obtain⟨p0,h0,hm⟩:=hm
 obtain rfl:=F7 h0
 replace hm:=Al hm;obtain⟨s0,rfl,hm⟩:=hm
 unfold AcF at hm
 refine⟨by simp,?_⟩
 refine .same (F':=(fr 28 [(0,(Cv (Db.off p0) (Db.cs p0))),(1,Sl.v 1 s0)])) (H':=(hp 0 [])) (by kernel_rfl) (by kernel_rfl) ?_
 refine .then (.rK (.ghs (fr 28 [(0,(Cv (Db.off p0) (Db.cs p0))),(1,Sl.v 1 s0)]) (hp 0 []) (.k0 [] [] [0,1]) ?_))
 refine .then (.rK (.ghs (fr 28 [(0,(Cv (Db.off p0) (Db.cs p0))),(1,Sl.v 1 s0),(5,(.slice none 0 0))]) (hp 0 []) (.k0 [] [] [0,1,5]) ?_))
 refine .join (v:=v) (fun y:Nat×Nat×LV=>((fr 28 [(5,(sc 0 0 1 y.1 y.2.1))]),(hp 1 [(oC y.2.2)]))) (fun y=>SC pu n y.1 y.2.1 y.2.2) ?_ ?_
 ·rintro⟨n0,c0,q0⟩ hm
  exact AcG pu n n0 c0 q0 hm
 ·refine .then ?_
  replace hm:=O4 hm;obtain⟨s1,h1,hm⟩:=hm
  refine .reg (eC 4 (keep (hp 0 []) (AL (Db.cs p0) (((Db.off p0)+0)+3))) (AZ h1) (eE)) ?_
  refine .ghs (fr 28 [(0,(Cv (Db.off p0) (Db.cs p0))),(1,Sl.v 1 s0),(5,(.slice none 0 0)),(12,(zI (Int.ofNat (Sl.n s1)))),(13,(zI (0:Int)))]) (hp 0 []) (.k0 [] [] [0,1,5,12,13]) ?_
  refine .block (.loopM (v:=v) (fun y:Nat×LV×Sl×Nat×Nat×Int×Int×LV=>((fr 28 [(0,(Cv y.1 y.2.1)),(1,(Sl.v 1 y.2.2.1)),(5,(sc 0 0 1 y.2.2.2.1 y.2.2.2.2.1)),(12,(zI y.2.2.2.2.2.1)),(13,(zI y.2.2.2.2.2.2.1))]),(hp 1 [(oC y.2.2.2.2.2.2.2)]))) (fun w y=>Wn pu n w y.1 y.2.1 y.2.2.1 y.2.2.2.1 y.2.2.2.2.1 y.2.2.2.2.2.1 y.2.2.2.2.2.2.1 y.2.2.2.2.2.2.2) n ⟨((Db.off p0),(Db.cs p0),s0,0,0,(Int.ofNat (Sl.n s1)),(0:Int),([]:LV)),hm,(.thaw 5 1 (by kernel_rfl) (.k0 [] [.tmp 5 false] [0,1,5,12,13]))⟩ (fun _=>rfl) ?_)
  rintro w0 ⟨n1,q1,s2,n2,c1,z0,z1,q2⟩ hm
  replace hm:Wm pu n (Wn pu n w0) n1 q1 s2 n2 c1 z0 z1 q2=some v:=hm
  unfold Wm at hm
  refine .then (.rK ?_)
  replace hm:=Ae hm;obtain⟨h2,hm⟩:=hm
  refine .ghs (fr 28 [(0,(Cv n1 q1)),(1,Sl.v 1 s2),(5,sc 0 0 1 n2 c1),(12,zI z0),(13,zI z1),(14,(zB (AY z1 z0)))]) (hp 1 [oC q2]) (.k [0] [] [.tmp 5 false] [0,1,5,12,13,14] ⟨BB h2,trivial⟩) ?_
  refine .then ?_
  replace hm:=Ag hm;rcases hm with⟨h3,hm⟩ | ⟨h3,hm⟩
  ·refine Cs (AY z1 z0) h3 ?_
   refine .skip (.ghs (fr 28 [(0,(Cv n1 q1)),(1,Sl.v 1 s2),(5,sc 0 0 1 n2 c1),(12,zI z0),(13,zI z1)]) (hp 1 [oC q2]) (.k [0] [] [.tmp 5 false] [0,1,5,12,13] ⟨BB h2,trivial⟩) ?_)
   refine .then (.block (.then (.rK (.ghs (fr 28 [(0,(Cv n1 q1)),(1,Sl.v 1 s2),(5,sc 0 0 1 n2 c1),(6,zI z1),(12,zI z0),(13,zI z1)]) (hp 1 [oC q2]) (.k [0] [] [.tmp 5 false] [0,1,5,6,12,13] ⟨BB h2,trivial⟩) ?_))))
   replace hm:=O4 hm;obtain⟨s3,h4,hm⟩:=hm
   replace hm:=Ae hm;obtain⟨h5,hm⟩:=hm
   refine .reg (eC 4 ((oo (pu 37 [(Cv n1 q1),Sl.v 1 s2,zI z1]) none fun v=>some (v,(hp 1 [oC q2])))) (AB h4) (eC 1 (Oc 1 24 n2 c1 1 0 q2 [Sl.v 1 s3] [] (hp 2 [oC q2,(oC [Sl.v 1 s3])])) (I1 h5) (eE))) ?_
   replace hm:=Ae hm;obtain⟨h6,hm⟩:=hm
   refine .ghs (fr 28 [(0,(Cv n1 q1)),(1,Sl.v 1 s2),(5,(sc 0 0 1 (n2+1) (d2 (n2+1)))),(12,zI z0),(13,zI z1)]) (hp 1 [(oC (Br (Am 0 q2) [Sl.v 1 s3]))]) (.k [2] [] [.tmp 5 false] [0,1,5,12,13] ⟨BB h6,trivial⟩) ?_
   refine .rK ?_
   exact⟨(n1,q1,s2,(n2+1),(d2 (n2+1)),z0,(Aj .i64 (Int.add z1 (1:Int))),(Br (Am 0 q2) [Sl.v 1 s3])),hm,(.k [0] [] [.tmp 5 false] [0,1,5,12,13] ⟨BB h6,trivial⟩)⟩
  ·refine CY (AY z1 z0) h3 ?_
   refine .exit ?_
   exact⟨(n2,c1,q2),hm,(.k [0] [] [.tmp 5 false] [5] ⟨BB h2,trivial⟩)⟩
def SE (pu:Af) (n:Nat) (z0:Int):OV:=
 (some (.int .u16 z0))
def SF (pu:Af) (n:Nat) (ih0:Sl→Int→Sl→Int→Int→OV) (s0:Sl) (z0:Int) (s1:Sl) (z1 z2:Int):OV:=
 (ih0 s0 z0 s1 z1 (Aj .i64 (Int.add z2 (1:Int))))
def Wo (pu:Af) (n:Nat) (ih0:Sl→Int→Sl→Int→Int→OV) (s0:Sl) (z0:Int) (s1:Sl) (z1 z2:Int):OV:=
 (bb (AY z2 z1) (oo (EA z2) none fun k1=>(bb (an (Nat.blt k1 (Sl.n s1)) true) (oo (AL (Sl.cs s1) (k1*1)) none fun v0=>(oo (Bi .i64 v0) none fun x0=>(oo (EA x0) none fun k2=>(bb (an (Nat.blt k2 (Sl.n s0)) true) (oo (AL (Sl.cs s0) (k2*1)) none fun v1=>(oo (Bi .i64 v1) none fun x1=>(bb (an (Nat.blt k1 (Sl.n s0)) true) (oo (AL (Sl.cs s0) (k1*1)) none fun v2=>(oo (Bi .i64 v2) none fun x2=>(bb (nt (Bd x1 x2)) (SF pu n ih0 s0 (jF .u16 z0 (QW .u16 (1:Int) k1)) s1 z1 (Int.ofNat k1)) (SF pu n ih0 s0 z0 s1 z1 (Int.ofNat k1))))) none))) none)))) none)) (SE pu n z0))
def SG (pu:Af) (n w:Nat):Sl→Int→Sl→Int→Int→OV:=
 Nat.rec (motive:=fun _=>Sl→Int→Sl→Int→Int→OV) (fun _ _ _ _ _=>none) (fun _ ih0=>Wo pu n ih0) w
def AcH (pu:Af) (n:Nat) (p0:Db) (s0:Sl) (x0:Int):OV:=
 (oo (AL (Db.cs p0) ((Db.off p0)+4)) none fun v0=>(oo (Bj 1 v0) none fun s1=>(oo (EA x0) none fun k1=>(bb (an (Nat.blt k1 (Sl.n s1)) true) (oo (AL (Sl.cs s1) (k1*1)) none fun v1=>(oo (Bj 1 v1) none fun s2=>(SG pu n n s0 (0:Int) s2 (Int.ofNat (Sl.n s2)) (0:Int)))) none))))
def m21 (pu:Af) (n:Nat) (args:LV):OV:=
 (ll args none fun a0 args=>(ll args none fun a1 args=>(ll args none fun a2 args=>(ll args (oo (Pv a0) none fun p0=>(oo (Bj 1 a1) none fun s0=>(oo (Bi .i64 a2) none fun x0=>(AcH pu n p0 s0 x0)))) fun _ _=>none))))
theorem AcI (pu:Af) (n:Nat) (z0:Int) {v:Value} (hm:SE pu n z0=some v):BN tt (Bb tabs isP pu (inl pu)) 0 UC (fr 38 [(7,.int .u16 z0)]) (hp 0 []) (Fin tt 0 [.tmp 6] v):=by
 unfold SE at hm
 refine .then (.rK (.ghs (fr 38 [(6,.int .u16 z0)]) (hp 0 []) (.k0 [] [] [6]) ?_))
 refine .ret ?_
 exact Bp (.int .u16 z0) hm
theorem r21 {call:A8} (pu:Af) (n:Nat) (hcall:call=Bb tabs isP pu (inl pu)) {args:LV} {v:Value} (hm:m21 pu n args=some v) (_:∀ x∈args,closed2 x=true):args.length≤38∧BN tt call 0 Pg (Fr.made 38 args) (Ao tabs) (Fin tt 0 [.tmp 6] v):=by
 subst hcall
 unfold m21 at hm
 replace hm:=Ad hm;obtain⟨a0,args_0,rfl,hm⟩:=hm
 replace hm:=Ad hm;obtain⟨a1,args_1,rfl,hm⟩:=hm
 replace hm:=Ad hm;obtain⟨a2,args_2,rfl,hm⟩:=hm
 replace hm:=AC hm;obtain⟨rfl,hm⟩:=hm
 replace hm:=Ab hm;obtain⟨p0,h0,hm⟩:=hm
 obtain rfl:=F7 h0
 replace hm:=Al hm;obtain⟨s0,rfl,hm⟩:=hm
 replace hm:=Ai hm;obtain⟨x0,rfl,hm⟩:=hm
 unfold AcH at hm
 refine⟨by simp,?_⟩
 refine .same (F':=(fr 38 [(0,(Cv (Db.off p0) (Db.cs p0))),(1,Sl.v 1 s0),(2,zI x0)])) (H':=(hp 0 [])) (by kernel_rfl) (by kernel_rfl) ?_
 refine .then (.rK (.ghs (fr 38 [(0,(Cv (Db.off p0) (Db.cs p0))),(1,Sl.v 1 s0),(2,zI x0)]) (hp 0 []) (.k0 [] [] [0,1,2]) ?_))
 refine .then (.rK (.ghs (fr 38 [(0,(Cv (Db.off p0) (Db.cs p0))),(1,Sl.v 1 s0),(2,zI x0),(7,(.int .u16 (0:Int)))]) (hp 0 []) (.k0 [] [] [0,1,2,7]) ?_))
 refine .join (v:=v) (fun y:Int=>((fr 38 [(7,.int .u16 y)]),(hp 0 []))) (fun y=>SE pu n y) ?_ ?_
 ·rintro z0 hm
  exact AcI pu n z0 hm
 ·refine .then ?_
  replace hm:=O4 hm;obtain⟨s1,h1,hm⟩:=hm
  replace hm:=Ab hm;obtain⟨k1,h2,hm⟩:=hm
  obtain rfl:=AR h2
  replace hm:=Ae hm;obtain⟨h3,hm⟩:=hm
  replace hm:=O4 hm;obtain⟨s2,h4,hm⟩:=hm
  refine .reg (eC 3 (keep (hp 0 []) (AL (Db.cs p0) ((Db.off p0)+4))) (AZ h1) (eC 1 (keep (hp 0 []) (bb (an (Nat.blt k1 (Sl.n s1)) true) (some (Cv (k1*1) (Sl.cs s1))) none)) (AX h3) (eD (keep (hp 0 []) (AL (Sl.cs s1) (k1*1))) (AZ h4) (eE)))) ?_
  refine .ghs (fr 38 [(1,Sl.v 1 s0),(7,(.int .u16 (0:Int))),(16,Sl.v 1 s2),(17,(zI (Int.ofNat (Sl.n s2)))),(18,(zI (0:Int)))]) (hp 0 []) (.k0 [] [] [1,7,16,17,18]) ?_
  refine .block (.loopM (v:=v) (fun y:Sl×Int×Sl×Int×Int=>((fr 38 [(1,(Sl.v 1 y.1)),(7,(.int .u16 y.2.1)),(16,(Sl.v 1 y.2.2.1)),(17,(zI y.2.2.2.1)),(18,(zI y.2.2.2.2))]),(hp 0 []))) (fun w y=>SG pu n w y.1 y.2.1 y.2.2.1 y.2.2.2.1 y.2.2.2.2) n ⟨(s0,(0:Int),s2,(Int.ofNat (Sl.n s2)),(0:Int)),hm,(.k0 [] [] [1,7,16,17,18])⟩ (fun _=>rfl) ?_)
  rintro w0 ⟨s3,z1,s4,z2,z3⟩ hm
  replace hm:Wo pu n (SG pu n w0) s3 z1 s4 z2 z3=some v:=hm
  unfold Wo at hm
  refine .then (.rK (.ghs (fr 38 [(1,Sl.v 1 s3),(7,.int .u16 z1),(16,Sl.v 1 s4),(17,zI z2),(18,zI z3),(19,(zB (AY z3 z2)))]) (hp 0 []) (.k0 [] [] [1,7,16,17,18,19]) ?_))
  refine .then ?_
  replace hm:=Ag hm;rcases hm with⟨h5,hm⟩ | ⟨h5,hm⟩
  ·refine Cs (AY z3 z2) h5 ?_
   refine .skip (.ghs (fr 38 [(1,Sl.v 1 s3),(7,.int .u16 z1),(16,Sl.v 1 s4),(17,zI z2),(18,zI z3)]) (hp 0 []) (.k0 [] [] [1,7,16,17,18]) ?_)
   refine .join (v:=v) (fun y:Sl×Int×Sl×Int×Int=>((fr 38 [(1,(Sl.v 1 y.1)),(7,(.int .u16 y.2.1)),(16,(Sl.v 1 y.2.2.1)),(17,(zI y.2.2.2.1)),(18,(zI y.2.2.2.2))]),(hp 0 []))) (fun y=>SF pu n (SG pu n w0) y.1 y.2.1 y.2.2.1 y.2.2.2.1 y.2.2.2.2) ?_ ?_
   ·rintro⟨s5,z4,s6,z5,z6⟩ hm
    unfold SF at hm
    refine .rK ?_
    exact⟨(s5,z4,s6,z5,(Aj .i64 (Int.add z6 (1:Int)))),hm,(.k0 [] [] [1,7,16,17,18])⟩
   ·refine .block (.then ?_)
    replace hm:=Ab hm;obtain⟨k2,h6,hm⟩:=hm
    obtain rfl:=AR h6
    replace hm:=Ae hm;obtain⟨h7,hm⟩:=hm
    replace hm:=Hw hm;obtain⟨x1,h8,hm⟩:=hm
    refine .reg (eC 1 (keep (hp 0 []) (bb (an (Nat.blt k2 (Sl.n s4)) true) (some (Cv (k2*1) (Sl.cs s4))) none)) (AX h7) (eD (keep (hp 0 []) (AL (Sl.cs s4) (k2*1))) (AZ h8) (eE))) ?_
    refine .ghs (fr 38 [(1,Sl.v 1 s3),(7,.int .u16 z1),(8,(zI (Int.ofNat k2))),(9,zI x1),(16,Sl.v 1 s4),(17,zI z2),(18,(zI (Int.ofNat k2)))]) (hp 0 []) (.k0 [] [] [1,7,8,9,16,17,18]) ?_
    refine .then ?_
    replace hm:=Ab hm;obtain⟨k3,h9,hm⟩:=hm
    obtain rfl:=AR h9
    replace hm:=Ae hm;obtain⟨h10,hm⟩:=hm
    replace hm:=Hw hm;obtain⟨x2,h11,hm⟩:=hm
    replace hm:=Ae hm;obtain⟨h12,hm⟩:=hm
    replace hm:=Hw hm;obtain⟨x3,h13,hm⟩:=hm
    refine .reg (eC 2 (keep (hp 0 []) (bb (an (Nat.blt k3 (Sl.n s3)) true) (some (Cv (k3*1) (Sl.cs s3))) none)) (AX h10) (eD (keep (hp 0 []) (AL (Sl.cs s3) (k3*1))) (AZ h11) (eC 2 (keep (hp 0 []) (bb (an (Nat.blt k2 (Sl.n s3)) true) (some (Cv (k2*1) (Sl.cs s3))) none)) (AX h12) (eD (keep (hp 0 []) (AL (Sl.cs s3) (k2*1))) (AZ h13) (eE))))) ?_
    refine .ghs (fr 38 [(1,Sl.v 1 s3),(7,.int .u16 z1),(8,(zI (Int.ofNat k2))),(16,Sl.v 1 s4),(17,zI z2),(18,(zI (Int.ofNat k2))),(31,(zB (nt (Bd x2 x3))))]) (hp 0 []) (.k0 [] [] [1,7,8,16,17,18,31]) ?_
    replace hm:=Ag hm;rcases hm with⟨h14,hm⟩ | ⟨h14,hm⟩
    ·refine Cs (nt (Bd x2 x3)) h14 ?_
     refine .rK ?_
     exact⟨(s3,(jF .u16 z1 (QW .u16 (1:Int) k2)),s4,z2,(Int.ofNat k2)),hm,(.k0 [] [] [1,7,16,17,18])⟩
    ·refine CY (nt (Bd x2 x3)) h14 ?_
     refine .skip ?_
     exact⟨(s3,z1,s4,z2,(Int.ofNat k2)),hm,(.k0 [] [] [1,7,16,17,18])⟩
  ·refine CY (AY z3 z2) h5 ?_
   refine .exit ?_
   exact⟨z1,hm,(.k0 [] [] [7])⟩

def AcJ (pu:Af) (n:Nat) (s0:Sl):OV:=
 (bb (Bd (Int.ofNat (Sl.n s0)) (0:Int)) (some (.int .i64 (4:Int))) (bb (AY (14:Int) (Int.ofNat (Sl.n s0))) (some (.int .i64 (3:Int))) (oo (pu 10480 [Sl.v 1 s0,(.func (.func 49) ⟨[]⟩ ⟨[]⟩)]) none fun v0=>(oo (CQ v0) none fun l0=>(ll l0 none fun v1 l0=>(ll l0 (oo (Bf v1) none fun b0=>(bb b0 (some (.int .i64 (8:Int))) (oo (pu 50 [Sl.v 1 s0]) none fun v2=>(oo (Bi .i64 v2) none fun x0=>(bb (Bd x0 (0:Int)) (some (.int .i64 (2:Int))) (some (.int .i64 (0:Int)))))))) fun _ _=>none))))))
def m22 (pu:Af) (n:Nat) (args:LV):OV:=
 (ll args none fun a0 args=>(ll args (oo (Bj 1 a0) none fun s0=>(AcJ pu n s0)) fun _ _=>none))
theorem r22 {call:A8} (pu:Af) (n:Nat) (hcall:call=Bb tabs isP pu (inl pu)) {args:LV} {v:Value} (hm:m22 pu n args=some v) (_:∀ x∈args,closed2 x=true):args.length≤18∧BN tt call 0 Ph (Fr.made 18 args) (Ao tabs) (Fin tt 0 [.tmp 2] v):=by
 subst hcall
 unfold m22 at hm
 replace hm:=Ad hm;obtain⟨a0,args_0,rfl,hm⟩:=hm
 replace hm:=AC hm;obtain⟨rfl,hm⟩:=hm
 replace hm:=Al hm;obtain⟨s0,rfl,hm⟩:=hm
 unfold AcJ at hm
 refine⟨by simp,?_⟩
 refine .same (F':=(fr 18 [(0,Sl.v 1 s0)])) (H':=(hp 0 [])) (by kernel_rfl) (by kernel_rfl) ?_
 refine .then (.rK (.ghs (fr 18 [(0,Sl.v 1 s0)]) (hp 0 []) (.k0 [] [] [0]) ?_))
 refine .then (.block (.then (.rK (.ghs (fr 18 [(0,Sl.v 1 s0),(3,(zB (Bd (Int.ofNat (Sl.n s0)) (0:Int))))]) (hp 0 []) (.k0 [] [] [0,3]) ?_))))
 replace hm:=Ag hm;rcases hm with⟨h0,hm⟩ | ⟨h0,hm⟩
 ·refine Cs (Bd (Int.ofNat (Sl.n s0)) (0:Int)) h0 ?_
  refine .then (.rK (.ghs (fr 18 [(2,(zI (4:Int)))]) (hp 0 []) (.k0 [] [] [2]) ?_))
  refine .ret ?_
  exact Bp (zI (4:Int)) hm
 ·refine CY (Bd (Int.ofNat (Sl.n s0)) (0:Int)) h0 ?_
  refine .then (.rK (.ghs (fr 18 [(0,Sl.v 1 s0),(7,(zB (AY (14:Int) (Int.ofNat (Sl.n s0)))))]) (hp 0 []) (.k0 [] [] [0,7]) ?_))
  replace hm:=Ag hm;rcases hm with⟨h1,hm⟩ | ⟨h1,hm⟩
  ·refine Cs (AY (14:Int) (Int.ofNat (Sl.n s0))) h1 ?_
   refine .then (.rK (.ghs (fr 18 [(2,(zI (3:Int)))]) (hp 0 []) (.k0 [] [] [2]) ?_))
   refine .ret ?_
   exact Bp (zI (3:Int)) hm
  ·refine CY (AY (14:Int) (Int.ofNat (Sl.n s0))) h1 ?_
   refine .then ?_
   replace hm:=Ab hm;obtain⟨v0,h2,hm⟩:=hm
   replace hm:=Ch hm;obtain⟨l0,rfl,hm⟩:=hm
   replace hm:=Ad hm;obtain⟨v1,l1543722_0,rfl,hm⟩:=hm
   replace hm:=AC hm;obtain⟨rfl,hm⟩:=hm
   replace hm:=Be hm;obtain⟨b0,rfl,hm⟩:=hm
   refine .reg (eC 1 (Fp tabs [[some 1],[none]] 2 [] [] (pu 10480) [Sl.v 1 s0,(.func (.func 49) ⟨[]⟩ ⟨[]⟩)] (hp 0 [])) (FM (as:=[Sl.v 1 s0,(.func (.func 49) ⟨[]⟩ ⟨[]⟩)]) (H1:=(hp 0 [])) (BO (Eb (sU (CV (z:=1) (v:=(Sl.v 1 s0)) (H:=(hp 0 [])) (by kernel_rfl) (by kernel_rfl) (by kernel_rfl)))) (BO (Eb Dn) FX)) (FL (H2:=(hp 0 [])) (v:=(zB b0)) (v':=(zB b0)) [] [] [] [Sl.v 1 s0,(.func (.func 49) ⟨[]⟩ ⟨[]⟩)] [] [] [] [] [] (by kernel_rfl) BI (Eq.trans (by kernel_rfl) h2) BI BI)) (eE)) ?_
   refine .ghs (fr 18 [(0,Sl.v 1 s0),(11,zB b0)]) (hp 0 []) (.k0 [] [] [0,11]) ?_
   replace hm:=Ag hm;rcases hm with⟨h3,hm⟩ | ⟨h3,hm⟩
   ·refine .ifT b0 (by kernel_rfl) h3 ?_
    refine .then (.rK (.ghs (fr 18 [(2,(zI (8:Int)))]) (hp 0 []) (.k0 [] [] [2]) ?_))
    refine .ret ?_
    exact Bp (zI (8:Int)) hm
   ·refine .ifF b0 (by kernel_rfl) h3 ?_
    refine .then ?_
    replace hm:=Hw hm;obtain⟨x0,h4,hm⟩:=hm
    refine .reg (eC 1 ((oo (pu 50 [Sl.v 1 s0]) none fun v=>some (v,(hp 0 [])))) (AB h4) (eE)) ?_
    refine .ghs (fr 18 [(14,(zB (Bd x0 (0:Int))))]) (hp 0 []) (.k0 [] [] [14]) ?_
    replace hm:=Ag hm;rcases hm with⟨h5,hm⟩ | ⟨h5,hm⟩
    ·refine Cs (Bd x0 (0:Int)) h5 ?_
     refine .then (.rK (.ghs (fr 18 [(2,(zI (2:Int)))]) (hp 0 []) (.k0 [] [] [2]) ?_))
     refine .ret ?_
     exact Bp (zI (2:Int)) hm
    ·refine CY (Bd x0 (0:Int)) h5 ?_
     refine .skip (.ghs (fr 18 []) (hp 0 []) (.k0 [] [] []) ?_)
     refine .then (.rK (.ghs (fr 18 [(2,(zI (0:Int)))]) (hp 0 []) (.k0 [] [] [2]) ?_))
     refine .ret ?_
     exact Bp (zI (0:Int)) hm
def SK (pu:Af) (n:Nat) (z0 z1 z2 z3 z4 z5 z6 z7:Int):OV:=
 (some (.agg ⟨[.int .i64 z4,.int .i64 z5,.int .i64 z6,.int .i64 z7]⟩))
def LZ (pu:Af) (n:Nat) (ih0:Sl→Int→Int→Int→Int→Int→Int→Int→Int→Int→Int→OV) (s0:Sl) (z0 z1 z2 z3 z4 z5 z6 z7 z8 z9:Int):OV:=
 (ih0 s0 z0 (Aj .i64 (Int.add z1 (1:Int))) z2 z3 z4 z5 z6 z7 z8 z9)
def Wp (pu:Af) (n:Nat) (ih0:Sl→Int→Int→Int→Int→Int→Int→Int→Int→Int→Int→OV) (s0:Sl) (z0 z1 z2 z3 z4 z5 z6 z7 z8 z9:Int):OV:=
 (bb (AY z1 z0) (oo (EA z1) none fun k1=>(bb (an (Nat.blt k1 (Sl.n s0)) true) (oo (AL (Sl.cs s0) (k1*1)) none fun v0=>(oo (Bi .i64 v0) none fun x0=>(bb (Bd x0 (0:Int)) (LZ pu n ih0 s0 z0 (Int.ofNat k1) z2 z3 z4 z5 z6 z7 z8 (Aj .i64 (Int.add z9 (1:Int)))) (bb (Bd x0 (1:Int)) (LZ pu n ih0 s0 z0 (Int.ofNat k1) z2 z3 z4 z5 (Aj .i64 (Int.add z6 (1:Int))) z7 z8 z9) (bb (Bd x0 (2:Int)) (LZ pu n ih0 s0 z0 (Int.ofNat k1) z2 z3 z4 z5 z6 (Aj .i64 (Int.add z7 (1:Int))) z8 z9) (bb (Bd x0 (3:Int)) (LZ pu n ih0 s0 z0 (Int.ofNat k1) z2 z3 z4 z5 z6 z7 (Aj .i64 (Int.add z8 (1:Int))) z9) (LZ pu n ih0 s0 z0 (Int.ofNat k1) z2 z3 z4 z5 z6 z7 z8 z9))))))) none)) (SK pu n z2 z3 z4 z5 z6 z7 z8 z9))
def SQ (pu:Af) (n w:Nat):Sl→Int→Int→Int→Int→Int→Int→Int→Int→Int→Int→OV:=
 Nat.rec (motive:=fun _=>Sl→Int→Int→Int→Int→Int→Int→Int→Int→Int→Int→OV) (fun _ _ _ _ _ _ _ _ _ _ _=>none) (fun _ ih0=>Wp pu n ih0) w
def AcK (pu:Af) (n:Nat) (s0:Sl):OV:=
 (SQ pu n n s0 (Int.ofNat (Sl.n s0)) (0:Int) (0:Int) (0:Int) (0:Int) (0:Int) (0:Int) (0:Int) (0:Int) (0:Int))
def m24 (pu:Af) (n:Nat) (args:LV):OV:=
 (ll args none fun a0 args=>(ll args (oo (Bj 1 a0) none fun s0=>(AcK pu n s0)) fun _ _=>none))
theorem AcL (pu:Af) (n:Nat) (z0 z1 z2 z3 z4 z5 z6 z7:Int) {v:Value} (hm:SK pu n z0 z1 z2 z3 z4 z5 z6 z7=some v):BN tt (Bb tabs isP pu (inl pu)) 0 UD (fr 39 [(2,(pt 0 0)),(3,pt 1 0)]) (hp 2 [(oC [zI z0,zI z1,zI z2,zI z3]),(oC [zI z4,zI z5,zI z6,zI z7])]) (Fin tt 0 [.cell 2 67] v):=by
 unfold SK at hm
 refine .then (.rK (.ghs (fr 39 [(2,(pt 0 0))]) (hp 1 [(oC [zI z4,zI z5,zI z6,zI z7])]) (.k0 [] [.tmp 2 false] [2]) ?_))
 refine .ret ?_
 exact Bp (.agg ⟨[zI z4,zI z5,zI z6,zI z7]⟩) hm
theorem r24 {call:A8} (pu:Af) (n:Nat) (hcall:call=Bb tabs isP pu (inl pu)) {args:LV} {v:Value} (hm:m24 pu n args=some v) (_:∀ x∈args,closed2 x=true):args.length≤39∧BN tt call 0 Pi (Fr.made 39 args) (Ao tabs) (Fin tt 0 [.cell 2 67] v):=by
 subst hcall
 unfold m24 at hm
 replace hm:=Ad hm;obtain⟨a0,args_0,rfl,hm⟩:=hm
 replace hm:=AC hm;obtain⟨rfl,hm⟩:=hm
 replace hm:=Al hm;obtain⟨s0,rfl,hm⟩:=hm
 unfold AcK at hm
 refine⟨by simp,?_⟩
 refine .same (F':=(fr 39 [(0,Sl.v 1 s0)])) (H':=(hp 0 [])) (by kernel_rfl) (by kernel_rfl) ?_
 refine .then (.rK (.ghs (fr 39 [(0,Sl.v 1 s0),(2,(pt 0 0))]) (hp 1 [(oC [(zI (0:Int)),(zI (0:Int)),(zI (0:Int)),(zI (0:Int))])]) (.k0 [] [.tmp 2 false] [0,2]) ?_))
 refine .then (.rK (.ghs (fr 39 [(0,Sl.v 1 s0),(2,(pt 0 0)),(3,pt 1 0)]) (hp 2 [(oC [(zI (0:Int)),(zI (0:Int)),(zI (0:Int)),(zI (0:Int))]),(oC [(zI (0:Int)),(zI (0:Int)),(zI (0:Int)),(zI (0:Int))])]) (.k0 [] [.tmp 2 false,.tmp 3 false] [0,2,3]) ?_))
 refine .join (v:=v) (fun y:Int×Int×Int×Int×Int×Int×Int×Int=>((fr 39 [(2,(pt 0 0)),(3,pt 1 0)]),(hp 2 [(oC [(zI y.1),(zI y.2.1),(zI y.2.2.1),(zI y.2.2.2.1)]),(oC [(zI y.2.2.2.2.1),(zI y.2.2.2.2.2.1),(zI y.2.2.2.2.2.2.1),(zI y.2.2.2.2.2.2.2)])]))) (fun y=>SK pu n y.1 y.2.1 y.2.2.1 y.2.2.2.1 y.2.2.2.2.1 y.2.2.2.2.2.1 y.2.2.2.2.2.2.1 y.2.2.2.2.2.2.2) ?_ ?_
 ·rintro⟨z0,z1,z2,z3,z4,z5,z6,z7⟩ hm
  exact AcL pu n z0 z1 z2 z3 z4 z5 z6 z7 hm
 ·refine .then (.rK (.ghs (fr 39 [(2,(pt 0 0)),(3,pt 1 0),(6,Sl.v 1 s0),(7,(zI (Int.ofNat (Sl.n s0)))),(8,(zI (0:Int)))]) (hp 2 [(oC [(zI (0:Int)),(zI (0:Int)),(zI (0:Int)),(zI (0:Int))]),(oC [(zI (0:Int)),(zI (0:Int)),(zI (0:Int)),(zI (0:Int))])]) (.k0 [] [.tmp 2 false,.tmp 3 false] [2,3,6,7,8]) ?_))
  refine .block (.loopM (v:=v) (fun y:Sl×Int×Int×Int×Int×Int×Int×Int×Int×Int×Int=>((fr 39 [(2,(pt 0 0)),(3,pt 1 0),(6,(Sl.v 1 y.1)),(7,(zI y.2.1)),(8,(zI y.2.2.1))]),(hp 2 [(oC [(zI y.2.2.2.1),(zI y.2.2.2.2.1),(zI y.2.2.2.2.2.1),(zI y.2.2.2.2.2.2.1)]),(oC [(zI y.2.2.2.2.2.2.2.1),(zI y.2.2.2.2.2.2.2.2.1),(zI y.2.2.2.2.2.2.2.2.2.1),(zI y.2.2.2.2.2.2.2.2.2.2)])]))) (fun w y=>SQ pu n w y.1 y.2.1 y.2.2.1 y.2.2.2.1 y.2.2.2.2.1 y.2.2.2.2.2.1 y.2.2.2.2.2.2.1 y.2.2.2.2.2.2.2.1 y.2.2.2.2.2.2.2.2.1 y.2.2.2.2.2.2.2.2.2.1 y.2.2.2.2.2.2.2.2.2.2) n ⟨(s0,(Int.ofNat (Sl.n s0)),(0:Int),(0:Int),(0:Int),(0:Int),(0:Int),(0:Int),(0:Int),(0:Int),(0:Int)),hm,(.k0 [] [.tmp 2 false,.tmp 3 false] [2,3,6,7,8])⟩ (fun _=>rfl) ?_)
  rintro w0 ⟨s1,z8,z9,z10,z11,z12,z13,z14,z15,z16,z17⟩ hm
  replace hm:Wp pu n (SQ pu n w0) s1 z8 z9 z10 z11 z12 z13 z14 z15 z16 z17=some v:=hm
  unfold Wp at hm
  refine .then (.rK (.ghs (fr 39 [(2,(pt 0 0)),(3,pt 1 0),(6,Sl.v 1 s1),(7,zI z8),(8,zI z9),(9,(zB (AY z9 z8)))]) (hp 2 [(oC [zI z10,zI z11,zI z12,zI z13]),(oC [zI z14,zI z15,zI z16,zI z17])]) (.k0 [] [.tmp 2 false,.tmp 3 false] [2,3,6,7,8,9]) ?_))
  refine .then ?_
  replace hm:=Ag hm;rcases hm with⟨h0,hm⟩ | ⟨h0,hm⟩
  ·refine Cs (AY z9 z8) h0 ?_
   refine .skip (.ghs (fr 39 [(2,(pt 0 0)),(3,pt 1 0),(6,Sl.v 1 s1),(7,zI z8),(8,zI z9)]) (hp 2 [(oC [zI z10,zI z11,zI z12,zI z13]),(oC [zI z14,zI z15,zI z16,zI z17])]) (.k0 [] [.tmp 2 false,.tmp 3 false] [2,3,6,7,8]) ?_)
   refine .join (v:=v) (fun y:Sl×Int×Int×Int×Int×Int×Int×Int×Int×Int×Int=>((fr 39 [(2,(pt 0 0)),(3,pt 1 0),(6,(Sl.v 1 y.1)),(7,(zI y.2.1)),(8,(zI y.2.2.1))]),(hp 2 [(oC [(zI y.2.2.2.1),(zI y.2.2.2.2.1),(zI y.2.2.2.2.2.1),(zI y.2.2.2.2.2.2.1)]),(oC [(zI y.2.2.2.2.2.2.2.1),(zI y.2.2.2.2.2.2.2.2.1),(zI y.2.2.2.2.2.2.2.2.2.1),(zI y.2.2.2.2.2.2.2.2.2.2)])]))) (fun y=>LZ pu n (SQ pu n w0) y.1 y.2.1 y.2.2.1 y.2.2.2.1 y.2.2.2.2.1 y.2.2.2.2.2.1 y.2.2.2.2.2.2.1 y.2.2.2.2.2.2.2.1 y.2.2.2.2.2.2.2.2.1 y.2.2.2.2.2.2.2.2.2.1 y.2.2.2.2.2.2.2.2.2.2) ?_ ?_
   ·rintro⟨s2,z18,z19,z20,z21,z22,z23,z24,z25,z26,z27⟩ hm
    unfold LZ at hm
    refine .rK ?_
    exact⟨(s2,z18,(Aj .i64 (Int.add z19 (1:Int))),z20,z21,z22,z23,z24,z25,z26,z27),hm,(.k0 [] [.tmp 2 false,.tmp 3 false] [2,3,6,7,8])⟩
   ·refine .block (.then ?_)
    replace hm:=Ab hm;obtain⟨k1,h1,hm⟩:=hm
    obtain rfl:=AR h1
    replace hm:=Ae hm;obtain⟨h2,hm⟩:=hm
    replace hm:=Hw hm;obtain⟨x0,h3,hm⟩:=hm
    refine .reg (eD (keep (hp 2 [(oC [zI z10,zI z11,zI z12,zI z13]),(oC [zI z14,zI z15,zI z16,zI z17])]) (bb (an (Nat.blt k1 (Sl.n s1)) true) (some (Cv (k1*1) (Sl.cs s1))) none)) (AX h2) (eD (keep (hp 2 [(oC [zI z10,zI z11,zI z12,zI z13]),(oC [zI z14,zI z15,zI z16,zI z17])]) (AL (Sl.cs s1) (k1*1))) (AZ h3) (eE))) ?_
    refine .ghs (fr 39 [(2,(pt 0 0)),(3,pt 1 0),(5,zI x0),(6,Sl.v 1 s1),(7,zI z8),(8,(zI (Int.ofNat k1)))]) (hp 2 [(oC [zI z10,zI z11,zI z12,zI z13]),(oC [zI z14,zI z15,zI z16,zI z17])]) (.k0 [] [.tmp 2 false,.tmp 3 false] [2,3,5,6,7,8]) ?_
    refine .then (.rK (.ghs (fr 39 [(2,(pt 0 0)),(3,pt 1 0),(6,Sl.v 1 s1),(7,zI z8),(8,(zI (Int.ofNat k1))),(12,zI x0)]) (hp 2 [(oC [zI z10,zI z11,zI z12,zI z13]),(oC [zI z14,zI z15,zI z16,zI z17])]) (.k0 [] [.tmp 2 false,.tmp 3 false] [2,3,6,7,8,12]) ?_))
    refine .block (.then (.rK (.ghs (fr 39 [(2,(pt 0 0)),(3,pt 1 0),(6,Sl.v 1 s1),(7,zI z8),(8,(zI (Int.ofNat k1))),(12,zI x0),(13,(zB (Bd x0 (0:Int))))]) (hp 2 [(oC [zI z10,zI z11,zI z12,zI z13]),(oC [zI z14,zI z15,zI z16,zI z17])]) (.k0 [] [.tmp 2 false,.tmp 3 false] [2,3,6,7,8,12,13]) ?_)))
    replace hm:=Ag hm;rcases hm with⟨h4,hm⟩ | ⟨h4,hm⟩
    ·refine Cs (Bd x0 (0:Int)) h4 ?_
     refine .rK ?_
     exact⟨(s1,z8,(Int.ofNat k1),z10,z11,z12,z13,z14,z15,z16,(Aj .i64 (Int.add z17 (1:Int)))),hm,(.k0 [] [.tmp 2 false,.tmp 3 false] [2,3,6,7,8])⟩
    ·refine CY (Bd x0 (0:Int)) h4 ?_
     refine .then (.rK (.ghs (fr 39 [(2,(pt 0 0)),(3,pt 1 0),(6,Sl.v 1 s1),(7,zI z8),(8,(zI (Int.ofNat k1))),(12,zI x0),(19,(zB (Bd x0 (1:Int))))]) (hp 2 [(oC [zI z10,zI z11,zI z12,zI z13]),(oC [zI z14,zI z15,zI z16,zI z17])]) (.k0 [] [.tmp 2 false,.tmp 3 false] [2,3,6,7,8,12,19]) ?_))
     replace hm:=Ag hm;rcases hm with⟨h5,hm⟩ | ⟨h5,hm⟩
     ·refine Cs (Bd x0 (1:Int)) h5 ?_
      refine .rK ?_
      exact⟨(s1,z8,(Int.ofNat k1),z10,z11,z12,z13,(Aj .i64 (Int.add z14 (1:Int))),z15,z16,z17),hm,(.k0 [] [.tmp 2 false,.tmp 3 false] [2,3,6,7,8])⟩
     ·refine CY (Bd x0 (1:Int)) h5 ?_
      refine .then (.rK (.ghs (fr 39 [(2,(pt 0 0)),(3,pt 1 0),(6,Sl.v 1 s1),(7,zI z8),(8,(zI (Int.ofNat k1))),(12,zI x0),(25,(zB (Bd x0 (2:Int))))]) (hp 2 [(oC [zI z10,zI z11,zI z12,zI z13]),(oC [zI z14,zI z15,zI z16,zI z17])]) (.k0 [] [.tmp 2 false,.tmp 3 false] [2,3,6,7,8,12,25]) ?_))
      replace hm:=Ag hm;rcases hm with⟨h6,hm⟩ | ⟨h6,hm⟩
      ·refine Cs (Bd x0 (2:Int)) h6 ?_
       refine .rK ?_
       exact⟨(s1,z8,(Int.ofNat k1),z10,z11,z12,z13,z14,(Aj .i64 (Int.add z15 (1:Int))),z16,z17),hm,(.k0 [] [.tmp 2 false,.tmp 3 false] [2,3,6,7,8])⟩
      ·refine CY (Bd x0 (2:Int)) h6 ?_
       refine .then (.rK (.ghs (fr 39 [(2,(pt 0 0)),(3,pt 1 0),(6,Sl.v 1 s1),(7,zI z8),(8,(zI (Int.ofNat k1))),(31,(zB (Bd x0 (3:Int))))]) (hp 2 [(oC [zI z10,zI z11,zI z12,zI z13]),(oC [zI z14,zI z15,zI z16,zI z17])]) (.k0 [] [.tmp 2 false,.tmp 3 false] [2,3,6,7,8,31]) ?_))
       replace hm:=Ag hm;rcases hm with⟨h7,hm⟩ | ⟨h7,hm⟩
       ·refine Cs (Bd x0 (3:Int)) h7 ?_
        refine .rK ?_
        exact⟨(s1,z8,(Int.ofNat k1),z10,z11,z12,z13,z14,z15,(Aj .i64 (Int.add z16 (1:Int))),z17),hm,(.k0 [] [.tmp 2 false,.tmp 3 false] [2,3,6,7,8])⟩
       ·refine CY (Bd x0 (3:Int)) h7 ?_
        refine .skip ?_
        exact⟨(s1,z8,(Int.ofNat k1),z10,z11,z12,z13,z14,z15,z16,z17),hm,(.k0 [] [.tmp 2 false,.tmp 3 false] [2,3,6,7,8])⟩
  ·refine CY (AY z9 z8) h0 ?_
   refine .exit ?_
   exact⟨(z10,z11,z12,z13,z14,z15,z16,z17),hm,(.k0 [] [.tmp 2 false,.tmp 3 false] [2,3])⟩
end
end Go.TpAM
