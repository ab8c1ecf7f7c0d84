/- Made from wip. -/
import Derived.Test.YtokbaaeimejjlaaGreatDoorBkVMod1x

set_option maxRecDepth 100000
set_option maxHeartbeats 20000000
set_option linter.unusedVariables false
namespace Go.BkVM
open Go.Sp Go.BkV
noncomputable section
def Yp (pu:Af) (n:Nat) (b0:Bool):OV:=
 (bb b0 (some (.int .i64 (1:Int))) (some (.int .i64 (0:Int))))
def AgP (pu:Af) (n:Nat) (p0:Db) (s0:Sl):OV:=
 (oo (AL (Db.cs p0) (((Db.off p0)+0)+0)) none fun v0=>(oo (Bi .i64 v0) none fun x0=>(oo (AL (Db.cs p0) (((Db.off p0)+0)+1)) none fun v1=>(oo (Bi .i64 v1) none fun x1=>(bb (nt (Bd (Int.ofNat (Sl.n s0)) (Aj .i64 (Int.mul x0 x1)))) (some (.int .i64 (5:Int))) (oo (pu 91 [Sl.v 1 s0]) none fun v2=>(oo (Bi .i64 v2) none fun x2=>(bb (AY x2 (0:Int)) (Yp pu n true) (oo (AL (Db.cs p0) (((Db.off p0)+0)+2)) none fun v3=>(oo (Bi .i64 v3) none fun x3=>(oo (pu 92 [Sl.v 1 s0]) none fun v4=>(oo (Bi .i64 v4) none fun x4=>(Yp pu n (nt (AY x4 x3)))))))))))))))
def m80 (pu:Af) (n:Nat) (args:LV):OV:=
 (ll args none fun a0 args=>(ll args none fun a1 args=>(ll args (oo (Pv a0) none fun p0=>(oo (Bj 1 a1) none fun s0=>(AgP pu n p0 s0))) fun _ _=>none)))
theorem r80 {call:A8} (pu:Af) (n:Nat) (hcall:call=Bb tabs isP pu (inl pu)) {args:LV} {v:Value} (hm:m80 pu n args=some v) (_:∀ x∈args,closed2 x=true):args.length≤34∧BN tt call 1 Uw (Fr.made 34 args) (Ao tabs) (Fin tt 1 [.tmp 4] v):=by
 subst hcall
 unfold m80 at hm
 replace hm:=Ad hm;obtain⟨a0,args_0,rfl,hm⟩:=hm
 replace hm:=Ad hm;obtain⟨a1,args_1,rfl,hm⟩:=hm
 replace hm:=AC hm;obtain⟨rfl,hm⟩:=hm
 replace hm:=Ab hm;obtain⟨p0,h0,hm⟩:=hm
 obtain rfl:=F7 h0
 replace hm:=Al hm;obtain⟨s0,rfl,hm⟩:=hm
 unfold AgP at hm
 refine⟨by simp,?_⟩
 refine .same (F':=(fr 34 [(0,(Cv (Db.off p0) (Db.cs p0))),(1,Sl.v 1 s0)])) (H':=AO) (by kernel_rfl) (by kernel_rfl) ?_
 refine .then (.rK (.ghs (fr 34 [(0,(Cv (Db.off p0) (Db.cs p0))),(1,Sl.v 1 s0)]) AO (.k0 [false] [] [0,1]) ?_))
 refine .then (.block (.then ?_))
 replace hm:=Gt hm;obtain⟨x0,h1,hm⟩:=hm
 replace hm:=Gt hm;obtain⟨x1,h2,hm⟩:=hm
 refine .reg (eC 6 (keep AO (AL (Db.cs p0) (((Db.off p0)+0)+0))) (AZ h1) (eC 4 (keep AO (AL (Db.cs p0) (((Db.off p0)+0)+1))) (AZ h2) (eE))) ?_
 refine .ghs (fr 34 [(0,(Cv (Db.off p0) (Db.cs p0))),(1,Sl.v 1 s0),(5,(zB (nt (Bd (Int.ofNat (Sl.n s0)) (Aj .i64 (Int.mul x0 x1))))))]) AO (.k0 [false] [] [0,1,5]) ?_
 replace hm:=Ag hm;rcases hm with⟨h3,hm⟩ | ⟨h3,hm⟩
 ·refine Bq (nt (Bd (Int.ofNat (Sl.n s0)) (Aj .i64 (Int.mul x0 x1)))) h3 ?_
  refine .then (.rK (.ghs (fr 34 [(4,(zI (5:Int)))]) AO (.k0 [false] [] [4]) ?_))
  refine .ret ?_
  exact A7 (zI (5:Int)) hm
 ·refine BB (nt (Bd (Int.ofNat (Sl.n s0)) (Aj .i64 (Int.mul x0 x1)))) h3 ?_
  refine .join (v:=v) (fun y:Bool=>((fr 34 [(20,zB y)]),AO)) (fun y=>Yp pu n y) ?_ ?_
  ·rintro b0 hm
   unfold Yp at hm
   replace hm:=Ag hm;rcases hm with⟨h4,hm⟩ | ⟨h4,hm⟩
   ·refine .ifT b0 (by kernel_rfl) h4 ?_
    refine .then (.rK (.ghs (fr 34 [(4,(zI (1:Int)))]) AO (.k0 [false] [] [4]) ?_))
    refine .ret ?_
    exact A7 (zI (1:Int)) hm
   ·refine .ifF b0 (by kernel_rfl) h4 ?_
    refine .skip (.ghs (fr 34 []) AO (.k0 [false] [] []) ?_)
    refine .then (.rK (.ghs (fr 34 [(4,(zI (0:Int)))]) AO (.k0 [false] [] [4]) ?_))
    refine .ret ?_
    exact A7 (zI (0:Int)) hm
  ·replace hm:=Gt hm;obtain⟨x2,h5,hm⟩:=hm
   replace hm:=Ag hm;rcases hm with⟨h6,hm⟩ | ⟨h6,hm⟩
   ·refine .reg (eC 1 ((oo (pu 91 [Sl.v 1 s0]) none fun v=>some (v,AO))) (AB h5) (eD (some ((zB (AY x2 (0:Int))),AO)) (show _=some ((zB true),_) from (by rw[show (AY x2 (0:Int))=true from h6])) (eE))) ?_
    exact⟨true,hm,(.k0 [false] [] [20])⟩
   ·replace hm:=Gt hm;obtain⟨x3,h7,hm⟩:=hm
    replace hm:=Gt hm;obtain⟨x4,h8,hm⟩:=hm
    refine .reg (eC 1 ((oo (pu 91 [Sl.v 1 s0]) none fun v=>some (v,AO))) (AB h5) (eD (some ((zB (AY x2 (0:Int))),AO)) (show _=some ((zB false),_) from (by rw[show (AY x2 (0:Int))=false from h6])) (eC 6 (keep AO (AL (Db.cs p0) (((Db.off p0)+0)+2))) (AZ h7) (eD ((oo (pu 92 [Sl.v 1 s0]) none fun v=>some (v,AO))) (AB h8) (eE))))) ?_
    exact⟨(nt (AY x4 x3)),hm,(.k0 [false] [] [20])⟩

def AgR (pu:Af) (n:Nat) (x0 x1 x2:Int) (s0:Sl) (x3 x4:Int):OV:=
 (bb (nt (Bd x1 (0:Int))) (bb (nt (Bd x1 (0:Int))) (oo (pu 93 [.int .i64 x0,.int .i64 x1,.int .i64 x3,(.int .i64 (Aj .i64 (Int.tdiv x4 x1))),(.int .i64 (Int.tmod x4 x1))]) none fun v0=>(oo (CQ v0) none fun l0=>(ll l0 none fun v1 l0=>(ll l0 none fun v2 l0=>(ll l0 (oo (Bi .i64 v1) none fun x5=>(oo (Bi .i64 v2) none fun x6=>(some (.int .i64 (Aj .i64 (Int.add (Aj .i64 (Int.mul x5 x1)) x6)))))) fun _ _=>none))))) none) none)
def m81 (pu:Af) (n:Nat) (args:LV):OV:=
 (ll args none fun a0 args=>(ll args none fun a1 args=>(ll args none fun a2 args=>(ll args (oo (Bt a0) none fun l0=>(ll l0 none fun v0 l0=>(ll l0 none fun v1 l0=>(ll l0 none fun v2 l0=>(ll l0 none fun v3 l0=>(ll l0 (oo (Bi .i64 v0) none fun x0=>(oo (Bi .i64 v1) none fun x1=>(oo (Bi .i64 v2) none fun x2=>(oo (Bj 1 v3) none fun s0=>(oo (Bi .i64 a1) none fun x3=>(oo (Bi .i64 a2) none fun x4=>(AgR pu n x0 x1 x2 s0 x3 x4))))))) fun _ _=>none)))))) fun _ _=>none))))
theorem r81 {call:A8} (pu:Af) (n:Nat) (hcall:call=Bb tabs isP pu (inl pu)) {args:LV} {v:Value} (hm:m81 pu n args=some v) (_:∀ x∈args,closed2 x=true):args.length≤32∧BN tt call 1 X5 (Fr.made 32 args) (Ao tabs) (Fin tt 1 [.tmp 6] v):=by
 subst hcall
 unfold m81 at hm
 replace hm:=Ad hm;obtain⟨a0,args_0,rfl,hm⟩:=hm
 replace hm:=Ad hm;obtain⟨a1,args_1,rfl,hm⟩:=hm
 replace hm:=Ad hm;obtain⟨a2,args_2,rfl,hm⟩:=hm
 replace hm:=AC hm;obtain⟨rfl,hm⟩:=hm
 replace hm:=BG hm;obtain⟨l0,rfl,hm⟩:=hm
 replace hm:=Ad hm;obtain⟨v0,l11025_0,rfl,hm⟩:=hm
 replace hm:=Ad hm;obtain⟨v1,l11025_1,rfl,hm⟩:=hm
 replace hm:=Ad hm;obtain⟨v2,l11025_2,rfl,hm⟩:=hm
 replace hm:=Ad hm;obtain⟨v3,l11025_3,rfl,hm⟩:=hm
 replace hm:=AC hm;obtain⟨rfl,hm⟩:=hm
 replace hm:=Ai hm;obtain⟨x0,rfl,hm⟩:=hm
 replace hm:=Ai hm;obtain⟨x1,rfl,hm⟩:=hm
 replace hm:=Ai hm;obtain⟨x2,rfl,hm⟩:=hm
 replace hm:=Al hm;obtain⟨s0,rfl,hm⟩:=hm
 replace hm:=Ai hm;obtain⟨x3,rfl,hm⟩:=hm
 replace hm:=Ai hm;obtain⟨x4,rfl,hm⟩:=hm
 unfold AgR at hm
 refine⟨by simp,?_⟩
 refine .same (F':=(fr 32 [(0,(.agg ⟨[zI x0,zI x1,zI x2,Sl.v 1 s0]⟩)),(1,zI x3),(2,zI x4)])) (H':=AO) (by kernel_rfl) (by kernel_rfl) ?_
 refine .then (.rK (.ghs (fr 32 [(1,zI x3),(2,zI x4),(3,pt 1 0)]) (hT 2 [(oC [zI x0,zI x1,zI x2,Sl.v 1 s0])]) (.k0 [false] [.tmp 3 false] [1,2,3]) ?_))
 refine .then ?_
 replace hm:=Ae hm;obtain⟨h0,hm⟩:=hm
 replace hm:=Ae hm;obtain⟨h1,hm⟩:=hm
 replace hm:=Ab hm;obtain⟨v4,h2,hm⟩:=hm
 replace hm:=Ch hm;obtain⟨l1,rfl,hm⟩:=hm
 replace hm:=Ad hm;obtain⟨v5,l11059_0,rfl,hm⟩:=hm
 replace hm:=Ad hm;obtain⟨v6,l11059_1,rfl,hm⟩:=hm
 replace hm:=AC hm;obtain⟨rfl,hm⟩:=hm
 replace hm:=Ai hm;obtain⟨x5,rfl,hm⟩:=hm
 replace hm:=Ai hm;obtain⟨x6,rfl,hm⟩:=hm
 refine .reg (eC 8 (keep (hT 2 [(oC [zI x0,zI x1,zI x2,Sl.v 1 s0])]) (bb (Bd x1 (0:Int)) none (some (zI (Aj .i64 (Int.tdiv x4 x1)))))) (XH h0) (eC 3 (keep (hT 2 [(oC [zI x0,zI x1,zI x2,Sl.v 1 s0])]) (bb (Bd x1 (0:Int)) none (some (zI (Int.tmod x4 x1))))) (XH h1) (eD ((oo (pu 93 [zI x0,zI x1,zI x3,(zI (Aj .i64 (Int.tdiv x4 x1))),(zI (Int.tmod x4 x1))]) none fun v=>some (v,(hT 2 [(oC [zI x0,zI x1,zI x2,Sl.v 1 s0])])))) (AB h2) (eE)))) ?_
 refine .ghs (fr 32 [(3,pt 1 0),(7,zI x5),(8,zI x6)]) (hT 2 [(oC [zI x0,zI x1,zI x2,Sl.v 1 s0])]) (.k0 [false] [.tmp 3 false] [3,7,8]) ?_
 refine .then (.rK (.ghs (fr 32 [(6,(zI (Aj .i64 (Int.add (Aj .i64 (Int.mul x5 x1)) x6))))]) AO (.k0 [false] [] [6]) ?_))
 refine .ret ?_
 exact A7 (zI (Aj .i64 (Int.add (Aj .i64 (Int.mul x5 x1)) x6))) hm

def Aa6 (pu:Af) (n:Nat) (x0 x1:Int):OV:=
 (oo (pu 101 [.int .i64 x0]) none fun v0=>(oo (Bf v0) none fun b0=>(oo (pu 101 [.int .i64 x1]) none fun v1=>(oo (Bf v1) none fun b1=>(bb b0 (bb b1 (some (.int .i64 (0:Int))) (some (.int .i64 (-1:Int)))) (bb b1 (some (.int .i64 (1:Int))) (bb (AY x0 x1) (some (.int .i64 (-1:Int))) (bb (AY x1 x0) (some (.int .i64 (1:Int))) (some (.int .i64 (0:Int)))))))))))
def m90 (pu:Af) (n:Nat) (args:LV):OV:=
 (ll args none fun a0 args=>(ll args none fun a1 args=>(ll args (oo (Bi .i64 a0) none fun x0=>(oo (Bi .i64 a1) none fun x1=>(Aa6 pu n x0 x1))) fun _ _=>none)))
theorem r90 {call:A8} (pu:Af) (n:Nat) (hcall:call=Bb tabs isP pu (inl pu)) {args:LV} {v:Value} (hm:m90 pu n args=some v) (_:∀ x∈args,closed2 x=true):args.length≤20∧BN tt call 1 Ux (Fr.made 20 args) (Ao tabs) (Fin tt 1 [.tmp 4] v):=by
 subst hcall
 unfold m90 at hm
 replace hm:=Ad hm;obtain⟨a0,args_0,rfl,hm⟩:=hm
 replace hm:=Ad hm;obtain⟨a1,args_1,rfl,hm⟩:=hm
 replace hm:=AC hm;obtain⟨rfl,hm⟩:=hm
 replace hm:=Ai hm;obtain⟨x0,rfl,hm⟩:=hm
 replace hm:=Ai hm;obtain⟨x1,rfl,hm⟩:=hm
 unfold Aa6 at hm
 refine⟨by simp,?_⟩
 refine .same (F':=(fr 20 [(0,zI x0),(1,zI x1)])) (H':=AO) (by kernel_rfl) (by kernel_rfl) ?_
 refine .then (.rK (.ghs (fr 20 [(0,zI x0),(1,zI x1)]) AO (.k0 [false] [] [0,1]) ?_))
 refine .then ?_
 replace hm:=OT hm;obtain⟨b0,h0,hm⟩:=hm
 refine .reg (eC 1 ((oo (pu 101 [zI x0]) none fun v=>some (v,AO))) (AB h0) (eE)) ?_
 refine .ghs (fr 20 [(0,zI x0),(1,zI x1),(5,zB b0)]) AO (.k0 [false] [] [0,1,5]) ?_
 refine .then ?_
 replace hm:=OT hm;obtain⟨b1,h1,hm⟩:=hm
 refine .reg (eC 1 ((oo (pu 101 [zI x1]) none fun v=>some (v,AO))) (AB h1) (eE)) ?_
 refine .ghs (fr 20 [(0,zI x0),(1,zI x1),(5,zB b0),(6,zB b1)]) AO (.k0 [false] [] [0,1,5,6]) ?_
 refine .then (.then (.rK (.ghs (fr 20 [(0,zI x0),(1,zI x1),(6,zB b1),(11,zB b0)]) AO (.k0 [false] [] [0,1,6,11]) ?_)))
 replace hm:=Ag hm;rcases hm with⟨h2,hm⟩ | ⟨h2,hm⟩
 ·refine .ifT b0 (by kernel_rfl) h2 ?_
  refine .then (.then (.rK (.ghs (fr 20 [(12,zB b1)]) AO (.k0 [false] [] [12]) ?_)))
  replace hm:=Ag hm;rcases hm with⟨h3,hm⟩ | ⟨h3,hm⟩
  ·refine .ifT b1 (by kernel_rfl) h3 ?_
   refine .then (.rK (.ghs (fr 20 [(4,(zI (0:Int)))]) AO (.k0 [false] [] [4]) ?_))
   refine .ret ?_
   exact A7 (zI (0:Int)) hm
  ·refine .ifF b1 (by kernel_rfl) h3 ?_
   refine .skip (.ghs (fr 20 []) AO (.k0 [false] [] []) ?_)
   refine .then (.rK (.ghs (fr 20 [(4,(zI (-1:Int)))]) AO (.k0 [false] [] [4]) ?_))
   refine .ret ?_
   exact A7 (zI (-1:Int)) hm
 ·refine .ifF b0 (by kernel_rfl) h2 ?_
  refine .skip (.ghs (fr 20 [(0,zI x0),(1,zI x1),(6,zB b1)]) AO (.k0 [false] [] [0,1,6]) ?_)
  refine .then (.then (.rK (.ghs (fr 20 [(0,zI x0),(1,zI x1),(13,zB b1)]) AO (.k0 [false] [] [0,1,13]) ?_)))
  replace hm:=Ag hm;rcases hm with⟨h4,hm⟩ | ⟨h4,hm⟩
  ·refine .ifT b1 (by kernel_rfl) h4 ?_
   refine .then (.rK (.ghs (fr 20 [(4,(zI (1:Int)))]) AO (.k0 [false] [] [4]) ?_))
   refine .ret ?_
   exact A7 (zI (1:Int)) hm
  ·refine .ifF b1 (by kernel_rfl) h4 ?_
   refine .skip (.ghs (fr 20 [(0,zI x0),(1,zI x1)]) AO (.k0 [false] [] [0,1]) ?_)
   refine .then (.then (.rK (.ghs (fr 20 [(0,zI x0),(1,zI x1),(16,(zB (AY x0 x1)))]) AO (.k0 [false] [] [0,1,16]) ?_)))
   replace hm:=Ag hm;rcases hm with⟨h5,hm⟩ | ⟨h5,hm⟩
   ·refine Bq (AY x0 x1) h5 ?_
    refine .then (.rK (.ghs (fr 20 [(4,(zI (-1:Int)))]) AO (.k0 [false] [] [4]) ?_))
    refine .ret ?_
    exact A7 (zI (-1:Int)) hm
   ·refine BB (AY x0 x1) h5 ?_
    refine .skip (.ghs (fr 20 [(0,zI x0),(1,zI x1)]) AO (.k0 [false] [] [0,1]) ?_)
    refine .then (.then (.rK (.ghs (fr 20 [(19,(zB (AY x1 x0)))]) AO (.k0 [false] [] [19]) ?_)))
    replace hm:=Ag hm;rcases hm with⟨h6,hm⟩ | ⟨h6,hm⟩
    ·refine Bq (AY x1 x0) h6 ?_
     refine .then (.rK (.ghs (fr 20 [(4,(zI (1:Int)))]) AO (.k0 [false] [] [4]) ?_))
     refine .ret ?_
     exact A7 (zI (1:Int)) hm
    ·refine BB (AY x1 x0) h6 ?_
     refine .skip (.ghs (fr 20 []) AO (.k0 [false] [] []) ?_)
     refine .then (.rK (.ghs (fr 20 [(4,(zI (0:Int)))]) AO (.k0 [false] [] [4]) ?_))
     refine .ret ?_
     exact A7 (zI (0:Int)) hm
def Yq (pu:Af) (n:Nat) (z0:Int):OV:=
 (some (.int .i64 z0))
def Qz (pu:Af) (n:Nat) (ih0:Sl→Int→Int→OV) (s0:Sl) (z0 z1:Int):OV:=
 (bb (AY z1 (Int.ofNat (Sl.n s0))) (oo (EA z1) none fun k1=>(bb (an (Nat.blt k1 (Sl.n s0)) true) (oo (AL (Sl.cs s0) (k1*1)) none fun v0=>(oo (Bi .i64 v0) none fun x0=>(ih0 s0 (bb (AY x0 z0) x0 z0) (Aj .i64 (Int.add (Int.ofNat k1) (1:Int)))))) none)) (Yq pu n z0))
def OX (pu:Af) (n w:Nat):Sl→Int→Int→OV:=
 Nat.rec (motive:=fun _=>Sl→Int→Int→OV) (fun _ _ _=>none) (fun _ ih0=>Qz pu n ih0) w
def Yr (pu:Af) (n:Nat) (s0:Sl):OV:=
 (bb (an (Nat.blt 0 (Sl.n s0)) true) (oo (AL (Sl.cs s0) (0*1)) none fun v0=>(oo (Bi .i64 v0) none fun x0=>(OX pu n n s0 x0 (1:Int)))) none)
def AgS (pu:Af) (n:Nat) (s0:Sl):OV:=
 (bb (AY (Int.ofNat (Sl.n s0)) (1:Int)) none (Yr pu n s0))
def m91 (pu:Af) (n:Nat) (args:LV):OV:=
 (ll args none fun a0 args=>(ll args (oo (Bj 1 a0) none fun s0=>(AgS pu n s0)) fun _ _=>none))
theorem AgU (pu:Af) (n:Nat) (z0:Int) {v:Value} (hm:Yq pu n z0=some v):BN tt (Bb tabs isP pu (inl pu)) 1 eP (fr 25 [(3,zI z0)]) AO (Fin tt 1 [.tmp 2] v):=by
 unfold Yq at hm
 refine .then (.rK (.ghs (fr 25 [(2,zI z0)]) AO (.k0 [false] [] [2]) ?_))
 refine .ret ?_
 exact A7 (zI z0) hm
theorem AgV (pu:Af) (n:Nat) (s0:Sl) {v:Value} (hm:Yr pu n s0=some v):BN tt (Bb tabs isP pu (inl pu)) 1 eQ (fr 25 [(0,Sl.v 1 s0)]) AO (Fin tt 1 [.tmp 2] v):=by
 unfold Yr at hm
 refine .then ?_
 replace hm:=Ae hm;obtain⟨h0,hm⟩:=hm
 replace hm:=Gt hm;obtain⟨x0,h1,hm⟩:=hm
 refine .reg (eC 1 (keep AO (bb (an (Nat.blt 0 (Sl.n s0)) true) (some (Cv (0*1) (Sl.cs s0))) none)) (AX h0) (eD (keep AO (AL (Sl.cs s0) (0*1))) (AZ h1) (eE))) ?_
 refine .ghs (fr 25 [(0,Sl.v 1 s0),(3,zI x0)]) AO (.k0 [false] [] [0,3]) ?_
 refine .join (v:=v) (fun y:Int=>((fr 25 [(3,zI y)]),AO)) (fun y=>Yq pu n y) ?_ ?_
 ·rintro z0 hm
  exact AgU pu n z0 hm
 ·refine .then (.rK (.ghs (fr 25 [(0,Sl.v 1 s0),(3,zI x0),(4,(zI (1:Int)))]) AO (.k0 [false] [] [0,3,4]) ?_))
  refine .block (.loopM (v:=v) (fun y:Sl×Int×Int=>((fr 25 [(0,(Sl.v 1 y.1)),(3,(zI y.2.1)),(4,(zI y.2.2))]),AO)) (fun w y=>OX pu n w y.1 y.2.1 y.2.2) n ⟨(s0,x0,(1:Int)),hm,(.k0 [false] [] [0,3,4])⟩ (fun _=>rfl) ?_)
  rintro w0 ⟨s1,z1,z2⟩ hm
  replace hm:Qz pu n (OX pu n w0) s1 z1 z2=some v:=hm
  unfold Qz at hm
  refine .then (.then (.rK (.ghs (fr 25 [(0,Sl.v 1 s1),(3,zI z1),(4,zI z2),(15,(zB (AY z2 (Int.ofNat (Sl.n s1)))))]) AO (.k0 [false] [] [0,3,4,15]) ?_)))
  replace hm:=Ag hm;rcases hm with⟨h2,hm⟩ | ⟨h2,hm⟩
  ·refine Bq (AY z2 (Int.ofNat (Sl.n s1))) h2 ?_
   refine .skip (.ghs (fr 25 [(0,Sl.v 1 s1),(3,zI z1),(4,zI z2)]) AO (.k0 [false] [] [0,3,4]) ?_)
   refine .then (.block ?_)
   replace hm:=Ab hm;obtain⟨k1,h3,hm⟩:=hm
   obtain rfl:=AR h3
   replace hm:=Ae hm;obtain⟨h4,hm⟩:=hm
   replace hm:=Gt hm;obtain⟨x1,h5,hm⟩:=hm
   refine .reg (eC 3 (keep AO (bb (an (Nat.blt k1 (Sl.n s1)) true) (some (Cv (k1*1) (Sl.cs s1))) none)) (AX h4) (eD (keep AO (AL (Sl.cs s1) (k1*1))) (AZ h5) (eE))) ?_
   refine .ghs (fr 25 [(0,Sl.v 1 s1),(3,(zI (bb (AY x1 z1) x1 z1))),(4,(zI (Int.ofNat k1)))]) AO (.k0 [false] [] [0,3,4]) ?_
   refine .rK ?_
   exact⟨(s1,(bb (AY x1 z1) x1 z1),(Aj .i64 (Int.add (Int.ofNat k1) (1:Int)))),hm,(.k0 [false] [] [0,3,4])⟩
  ·refine BB (AY z2 (Int.ofNat (Sl.n s1))) h2 ?_
   refine .exit ?_
   exact⟨z1,hm,(.k0 [false] [] [3])⟩
theorem r91 {call:A8} (pu:Af) (n:Nat) (hcall:call=Bb tabs isP pu (inl pu)) {args:LV} {v:Value} (hm:m91 pu n args=some v) (_:∀ x∈args,closed2 x=true):args.length≤25∧BN tt call 1 Uy (Fr.made 25 args) (Ao tabs) (Fin tt 1 [.tmp 2] v):=by
 subst hcall
 unfold m91 at hm
 replace hm:=Ad hm;obtain⟨a0,args_0,rfl,hm⟩:=hm
 replace hm:=AC hm;obtain⟨rfl,hm⟩:=hm
 replace hm:=Al hm;obtain⟨s0,rfl,hm⟩:=hm
 unfold AgS at hm
 refine⟨by simp,?_⟩
 refine .same (F':=(fr 25 [(0,Sl.v 1 s0)])) (H':=AO) (by kernel_rfl) (by kernel_rfl) ?_
 refine .then (.rK (.ghs (fr 25 [(0,Sl.v 1 s0)]) AO (.k0 [false] [] [0]) ?_))
 refine .join (v:=v) (fun y:Sl=>((fr 25 [(0,Sl.v 1 y)]),AO)) (fun y=>Yr pu n y) ?_ ?_
 ·rintro s1 hm
  exact AgV pu n s1 hm
 ·refine .then (.rK (.ghs (fr 25 [(0,Sl.v 1 s0),(7,(zB (AY (Int.ofNat (Sl.n s0)) (1:Int))))]) AO (.k0 [false] [] [0,7]) ?_))
  replace hm:=Ag hm;rcases hm with⟨h0,hm⟩ | ⟨h0,hm⟩
  ·refine Bq (AY (Int.ofNat (Sl.n s0)) (1:Int)) h0 ?_
   cases hm
  ·refine BB (AY (Int.ofNat (Sl.n s0)) (1:Int)) h0 ?_
   refine .skip ?_
   exact⟨s0,hm,(.k0 [false] [] [0])⟩
def Yt (pu:Af) (n:Nat) (z0:Int):OV:=
 (some (.int .i64 z0))
def QA (pu:Af) (n:Nat) (ih0:Sl→Int→Int→OV) (s0:Sl) (z0 z1:Int):OV:=
 (bb (AY z1 (Int.ofNat (Sl.n s0))) (oo (EA z1) none fun k1=>(bb (an (Nat.blt k1 (Sl.n s0)) true) (oo (AL (Sl.cs s0) (k1*1)) none fun v0=>(oo (Bi .i64 v0) none fun x0=>(ih0 s0 (bb (AY z0 x0) x0 z0) (Aj .i64 (Int.add (Int.ofNat k1) (1:Int)))))) none)) (Yt pu n z0))
def OY (pu:Af) (n w:Nat):Sl→Int→Int→OV:=
 Nat.rec (motive:=fun _=>Sl→Int→Int→OV) (fun _ _ _=>none) (fun _ ih0=>QA pu n ih0) w
def Yu (pu:Af) (n:Nat) (s0:Sl):OV:=
 (bb (an (Nat.blt 0 (Sl.n s0)) true) (oo (AL (Sl.cs s0) (0*1)) none fun v0=>(oo (Bi .i64 v0) none fun x0=>(OY pu n n s0 x0 (1:Int)))) none)
def AgW (pu:Af) (n:Nat) (s0:Sl):OV:=
 (bb (AY (Int.ofNat (Sl.n s0)) (1:Int)) none (Yu pu n s0))
def m92 (pu:Af) (n:Nat) (args:LV):OV:=
 (ll args none fun a0 args=>(ll args (oo (Bj 1 a0) none fun s0=>(AgW pu n s0)) fun _ _=>none))
theorem AgY (pu:Af) (n:Nat) (z0:Int) {v:Value} (hm:Yt pu n z0=some v):BN tt (Bb tabs isP pu (inl pu)) 1 eT (fr 25 [(3,zI z0)]) AO (Fin tt 1 [.tmp 2] v):=by
 unfold Yt at hm
 refine .then (.rK (.ghs (fr 25 [(2,zI z0)]) AO (.k0 [false] [] [2]) ?_))
 refine .ret ?_
 exact A7 (zI z0) hm
theorem AgZ (pu:Af) (n:Nat) (s0:Sl) {v:Value} (hm:Yu pu n s0=some v):BN tt (Bb tabs isP pu (inl pu)) 1 eU (fr 25 [(0,Sl.v 1 s0)]) AO (Fin tt 1 [.tmp 2] v):=by
 unfold Yu at hm
 refine .then ?_
 replace hm:=Ae hm;obtain⟨h0,hm⟩:=hm
 replace hm:=Gt hm;obtain⟨x0,h1,hm⟩:=hm
 refine .reg (eC 1 (keep AO (bb (an (Nat.blt 0 (Sl.n s0)) true) (some (Cv (0*1) (Sl.cs s0))) none)) (AX h0) (eD (keep AO (AL (Sl.cs s0) (0*1))) (AZ h1) (eE))) ?_
 refine .ghs (fr 25 [(0,Sl.v 1 s0),(3,zI x0)]) AO (.k0 [false] [] [0,3]) ?_
 refine .join (v:=v) (fun y:Int=>((fr 25 [(3,zI y)]),AO)) (fun y=>Yt pu n y) ?_ ?_
 ·rintro z0 hm
  exact AgY pu n z0 hm
 ·refine .then (.rK (.ghs (fr 25 [(0,Sl.v 1 s0),(3,zI x0),(4,(zI (1:Int)))]) AO (.k0 [false] [] [0,3,4]) ?_))
  refine .block (.loopM (v:=v) (fun y:Sl×Int×Int=>((fr 25 [(0,(Sl.v 1 y.1)),(3,(zI y.2.1)),(4,(zI y.2.2))]),AO)) (fun w y=>OY pu n w y.1 y.2.1 y.2.2) n ⟨(s0,x0,(1:Int)),hm,(.k0 [false] [] [0,3,4])⟩ (fun _=>rfl) ?_)
  rintro w0 ⟨s1,z1,z2⟩ hm
  replace hm:QA pu n (OY pu n w0) s1 z1 z2=some v:=hm
  unfold QA at hm
  refine .then (.then (.rK (.ghs (fr 25 [(0,Sl.v 1 s1),(3,zI z1),(4,zI z2),(15,(zB (AY z2 (Int.ofNat (Sl.n s1)))))]) AO (.k0 [false] [] [0,3,4,15]) ?_)))
  replace hm:=Ag hm;rcases hm with⟨h2,hm⟩ | ⟨h2,hm⟩
  ·refine Bq (AY z2 (Int.ofNat (Sl.n s1))) h2 ?_
   refine .skip (.ghs (fr 25 [(0,Sl.v 1 s1),(3,zI z1),(4,zI z2)]) AO (.k0 [false] [] [0,3,4]) ?_)
   refine .then (.block ?_)
   replace hm:=Ab hm;obtain⟨k1,h3,hm⟩:=hm
   obtain rfl:=AR h3
   replace hm:=Ae hm;obtain⟨h4,hm⟩:=hm
   replace hm:=Gt hm;obtain⟨x1,h5,hm⟩:=hm
   refine .reg (eC 3 (keep AO (bb (an (Nat.blt k1 (Sl.n s1)) true) (some (Cv (k1*1) (Sl.cs s1))) none)) (AX h4) (eD (keep AO (AL (Sl.cs s1) (k1*1))) (AZ h5) (eE))) ?_
   refine .ghs (fr 25 [(0,Sl.v 1 s1),(3,(zI (bb (AY z1 x1) x1 z1))),(4,(zI (Int.ofNat k1)))]) AO (.k0 [false] [] [0,3,4]) ?_
   refine .rK ?_
   exact⟨(s1,(bb (AY z1 x1) x1 z1),(Aj .i64 (Int.add (Int.ofNat k1) (1:Int)))),hm,(.k0 [false] [] [0,3,4])⟩
  ·refine BB (AY z2 (Int.ofNat (Sl.n s1))) h2 ?_
   refine .exit ?_
   exact⟨z1,hm,(.k0 [false] [] [3])⟩
theorem r92 {call:A8} (pu:Af) (n:Nat) (hcall:call=Bb tabs isP pu (inl pu)) {args:LV} {v:Value} (hm:m92 pu n args=some v) (_:∀ x∈args,closed2 x=true):args.length≤25∧BN tt call 1 Uz (Fr.made 25 args) (Ao tabs) (Fin tt 1 [.tmp 2] v):=by
 subst hcall
 unfold m92 at hm
 replace hm:=Ad hm;obtain⟨a0,args_0,rfl,hm⟩:=hm
 replace hm:=AC hm;obtain⟨rfl,hm⟩:=hm
 replace hm:=Al hm;obtain⟨s0,rfl,hm⟩:=hm
 unfold AgW at hm
 refine⟨by simp,?_⟩
 refine .same (F':=(fr 25 [(0,Sl.v 1 s0)])) (H':=AO) (by kernel_rfl) (by kernel_rfl) ?_
 refine .then (.rK (.ghs (fr 25 [(0,Sl.v 1 s0)]) AO (.k0 [false] [] [0]) ?_))
 refine .join (v:=v) (fun y:Sl=>((fr 25 [(0,Sl.v 1 y)]),AO)) (fun y=>Yu pu n y) ?_ ?_
 ·rintro s1 hm
  exact AgZ pu n s1 hm
 ·refine .then (.rK (.ghs (fr 25 [(0,Sl.v 1 s0),(7,(zB (AY (Int.ofNat (Sl.n s0)) (1:Int))))]) AO (.k0 [false] [] [0,7]) ?_))
  replace hm:=Ag hm;rcases hm with⟨h0,hm⟩ | ⟨h0,hm⟩
  ·refine Bq (AY (Int.ofNat (Sl.n s0)) (1:Int)) h0 ?_
   cases hm
  ·refine BB (AY (Int.ofNat (Sl.n s0)) (1:Int)) h0 ?_
   refine .skip ?_
   exact⟨s0,hm,(.k0 [false] [] [0])⟩

def Ag0 (pu:Af) (n:Nat) (x0 x1 x2 x3 x4:Int):OV:=
 (bb (Bd x2 (1:Int)) (some (.tuple ⟨[(.int .i64 (Aj .i64 (Int.sub (Aj .i64 (Int.sub x0 (1:Int))) x4))),.int .i64 x3]⟩)) (bb (Bd x2 (2:Int)) (some (.tuple ⟨[(.int .i64 (Aj .i64 (Int.sub (Aj .i64 (Int.sub x0 (1:Int))) x3))),(.int .i64 (Aj .i64 (Int.sub (Aj .i64 (Int.sub x1 (1:Int))) x4)))]⟩)) (bb (Bd x2 (3:Int)) (some (.tuple ⟨[.int .i64 x4,(.int .i64 (Aj .i64 (Int.sub (Aj .i64 (Int.sub x1 (1:Int))) x3)))]⟩)) (bb (Bd x2 (4:Int)) (some (.tuple ⟨[.int .i64 x3,(.int .i64 (Aj .i64 (Int.sub (Aj .i64 (Int.sub x1 (1:Int))) x4)))]⟩)) (bb (Bd x2 (5:Int)) (some (.tuple ⟨[(.int .i64 (Aj .i64 (Int.sub (Aj .i64 (Int.sub x0 (1:Int))) x3))),.int .i64 x4]⟩)) (bb (Bd x2 (6:Int)) (some (.tuple ⟨[.int .i64 x4,.int .i64 x3]⟩)) (bb (Bd x2 (7:Int)) (some (.tuple ⟨[(.int .i64 (Aj .i64 (Int.sub (Aj .i64 (Int.sub x0 (1:Int))) x4))),(.int .i64 (Aj .i64 (Int.sub (Aj .i64 (Int.sub x1 (1:Int))) x3)))]⟩)) (some (.tuple ⟨[.int .i64 x3,.int .i64 x4]⟩)))))))))
def m93 (pu:Af) (n:Nat) (args:LV):OV:=
 (ll args none fun a0 args=>(ll args none fun a1 args=>(ll args none fun a2 args=>(ll args none fun a3 args=>(ll args none fun a4 args=>(ll args (oo (Bi .i64 a0) none fun x0=>(oo (Bi .i64 a1) none fun x1=>(oo (Bi .i64 a2) none fun x2=>(oo (Bi .i64 a3) none fun x3=>(oo (Bi .i64 a4) none fun x4=>(Ag0 pu n x0 x1 x2 x3 x4)))))) fun _ _=>none))))))
theorem r93 {call:A8} (pu:Af) (n:Nat) (hcall:call=Bb tabs isP pu (inl pu)) {args:LV} {v:Value} (hm:m93 pu n args=some v) (_:∀ x∈args,closed2 x=true):args.length≤67∧BN tt call 1 UA (Fr.made 67 args) (Ao tabs) (Fin tt 1 [.tmp 10,.tmp 11] v):=by
 subst hcall
 unfold m93 at hm
 replace hm:=Ad hm;obtain⟨a0,args_0,rfl,hm⟩:=hm
 replace hm:=Ad hm;obtain⟨a1,args_1,rfl,hm⟩:=hm
 replace hm:=Ad hm;obtain⟨a2,args_2,rfl,hm⟩:=hm
 replace hm:=Ad hm;obtain⟨a3,args_3,rfl,hm⟩:=hm
 replace hm:=Ad hm;obtain⟨a4,args_4,rfl,hm⟩:=hm
 replace hm:=AC hm;obtain⟨rfl,hm⟩:=hm
 replace hm:=Ai hm;obtain⟨x0,rfl,hm⟩:=hm
 replace hm:=Ai hm;obtain⟨x1,rfl,hm⟩:=hm
 replace hm:=Ai hm;obtain⟨x2,rfl,hm⟩:=hm
 replace hm:=Ai hm;obtain⟨x3,rfl,hm⟩:=hm
 replace hm:=Ai hm;obtain⟨x4,rfl,hm⟩:=hm
 unfold Ag0 at hm
 refine⟨by simp,?_⟩
 refine .same (F':=(fr 67 [(0,zI x0),(1,zI x1),(2,zI x2),(3,zI x3),(4,zI x4)])) (H':=AO) (by kernel_rfl) (by kernel_rfl) ?_
 refine .then (.rK (.ghs (fr 67 [(0,zI x0),(1,zI x1),(2,zI x2),(3,zI x3),(4,zI x4)]) AO (.k0 [false] [] [0,1,2,3,4]) ?_))
 refine .then (.then (.rK (.ghs (fr 67 [(0,zI x0),(1,zI x1),(3,zI x3),(4,zI x4),(12,zI x2)]) AO (.k0 [false] [] [0,1,3,4,12]) ?_)))
 refine .block (.then (.rK (.ghs (fr 67 [(0,zI x0),(1,zI x1),(3,zI x3),(4,zI x4),(12,zI x2),(13,(zB (Bd x2 (1:Int))))]) AO (.k0 [false] [] [0,1,3,4,12,13]) ?_)))
 replace hm:=Ag hm;rcases hm with⟨h0,hm⟩ | ⟨h0,hm⟩
 ·refine Bq (Bd x2 (1:Int)) h0 ?_
  refine .then (.rK (.ghs (fr 67 [(10,(zI (Aj .i64 (Int.sub (Aj .i64 (Int.sub x0 (1:Int))) x4)))),(11,zI x3)]) AO (.k0 [false] [] [10,11]) ?_))
  refine .ret ?_
  exact A7 (.tuple ⟨[(zI (Aj .i64 (Int.sub (Aj .i64 (Int.sub x0 (1:Int))) x4))),zI x3]⟩) hm
 ·refine BB (Bd x2 (1:Int)) h0 ?_
  refine .then (.rK (.ghs (fr 67 [(0,zI x0),(1,zI x1),(3,zI x3),(4,zI x4),(12,zI x2),(20,(zB (Bd x2 (2:Int))))]) AO (.k0 [false] [] [0,1,3,4,12,20]) ?_))
  replace hm:=Ag hm;rcases hm with⟨h1,hm⟩ | ⟨h1,hm⟩
  ·refine Bq (Bd x2 (2:Int)) h1 ?_
   refine .then (.rK (.ghs (fr 67 [(10,(zI (Aj .i64 (Int.sub (Aj .i64 (Int.sub x0 (1:Int))) x3)))),(11,(zI (Aj .i64 (Int.sub (Aj .i64 (Int.sub x1 (1:Int))) x4))))]) AO (.k0 [false] [] [10,11]) ?_))
   refine .ret ?_
   exact A7 (.tuple ⟨[(zI (Aj .i64 (Int.sub (Aj .i64 (Int.sub x0 (1:Int))) x3))),(zI (Aj .i64 (Int.sub (Aj .i64 (Int.sub x1 (1:Int))) x4)))]⟩) hm
  ·refine BB (Bd x2 (2:Int)) h1 ?_
   refine .then (.rK (.ghs (fr 67 [(0,zI x0),(1,zI x1),(3,zI x3),(4,zI x4),(12,zI x2),(30,(zB (Bd x2 (3:Int))))]) AO (.k0 [false] [] [0,1,3,4,12,30]) ?_))
   replace hm:=Ag hm;rcases hm with⟨h2,hm⟩ | ⟨h2,hm⟩
   ·refine Bq (Bd x2 (3:Int)) h2 ?_
    refine .then (.rK (.ghs (fr 67 [(10,zI x4),(11,(zI (Aj .i64 (Int.sub (Aj .i64 (Int.sub x1 (1:Int))) x3))))]) AO (.k0 [false] [] [10,11]) ?_))
    refine .ret ?_
    exact A7 (.tuple ⟨[zI x4,(zI (Aj .i64 (Int.sub (Aj .i64 (Int.sub x1 (1:Int))) x3)))]⟩) hm
   ·refine BB (Bd x2 (3:Int)) h2 ?_
    refine .then (.rK (.ghs (fr 67 [(0,zI x0),(1,zI x1),(3,zI x3),(4,zI x4),(12,zI x2),(37,(zB (Bd x2 (4:Int))))]) AO (.k0 [false] [] [0,1,3,4,12,37]) ?_))
    replace hm:=Ag hm;rcases hm with⟨h3,hm⟩ | ⟨h3,hm⟩
    ·refine Bq (Bd x2 (4:Int)) h3 ?_
     refine .then (.rK (.ghs (fr 67 [(10,zI x3),(11,(zI (Aj .i64 (Int.sub (Aj .i64 (Int.sub x1 (1:Int))) x4))))]) AO (.k0 [false] [] [10,11]) ?_))
     refine .ret ?_
     exact A7 (.tuple ⟨[zI x3,(zI (Aj .i64 (Int.sub (Aj .i64 (Int.sub x1 (1:Int))) x4)))]⟩) hm
    ·refine BB (Bd x2 (4:Int)) h3 ?_
     refine .then (.rK (.ghs (fr 67 [(0,zI x0),(1,zI x1),(3,zI x3),(4,zI x4),(12,zI x2),(44,(zB (Bd x2 (5:Int))))]) AO (.k0 [false] [] [0,1,3,4,12,44]) ?_))
     replace hm:=Ag hm;rcases hm with⟨h4,hm⟩ | ⟨h4,hm⟩
     ·refine Bq (Bd x2 (5:Int)) h4 ?_
      refine .then (.rK (.ghs (fr 67 [(10,(zI (Aj .i64 (Int.sub (Aj .i64 (Int.sub x0 (1:Int))) x3)))),(11,zI x4)]) AO (.k0 [false] [] [10,11]) ?_))
      refine .ret ?_
      exact A7 (.tuple ⟨[(zI (Aj .i64 (Int.sub (Aj .i64 (Int.sub x0 (1:Int))) x3))),zI x4]⟩) hm
     ·refine BB (Bd x2 (5:Int)) h4 ?_
      refine .then (.rK (.ghs (fr 67 [(0,zI x0),(1,zI x1),(3,zI x3),(4,zI x4),(12,zI x2),(51,(zB (Bd x2 (6:Int))))]) AO (.k0 [false] [] [0,1,3,4,12,51]) ?_))
      replace hm:=Ag hm;rcases hm with⟨h5,hm⟩ | ⟨h5,hm⟩
      ·refine Bq (Bd x2 (6:Int)) h5 ?_
       refine .then (.rK (.ghs (fr 67 [(10,zI x4),(11,zI x3)]) AO (.k0 [false] [] [10,11]) ?_))
       refine .ret ?_
       exact A7 (.tuple ⟨[zI x4,zI x3]⟩) hm
      ·refine BB (Bd x2 (6:Int)) h5 ?_
       refine .then (.rK (.ghs (fr 67 [(0,zI x0),(1,zI x1),(3,zI x3),(4,zI x4),(55,(zB (Bd x2 (7:Int))))]) AO (.k0 [false] [] [0,1,3,4,55]) ?_))
       replace hm:=Ag hm;rcases hm with⟨h6,hm⟩ | ⟨h6,hm⟩
       ·refine Bq (Bd x2 (7:Int)) h6 ?_
        refine .then (.rK (.ghs (fr 67 [(10,(zI (Aj .i64 (Int.sub (Aj .i64 (Int.sub x0 (1:Int))) x4)))),(11,(zI (Aj .i64 (Int.sub (Aj .i64 (Int.sub x1 (1:Int))) x3))))]) AO (.k0 [false] [] [10,11]) ?_))
        refine .ret ?_
        exact A7 (.tuple ⟨[(zI (Aj .i64 (Int.sub (Aj .i64 (Int.sub x0 (1:Int))) x4))),(zI (Aj .i64 (Int.sub (Aj .i64 (Int.sub x1 (1:Int))) x3)))]⟩) hm
       ·refine BB (Bd x2 (7:Int)) h6 ?_
        refine .skip (.ghs (fr 67 [(3,zI x3),(4,zI x4)]) AO (.k0 [false] [] [3,4]) ?_)
        refine .then (.rK (.ghs (fr 67 [(10,zI x3),(11,zI x4)]) AO (.k0 [false] [] [10,11]) ?_))
        refine .ret ?_
        exact A7 (.tuple ⟨[zI x3,zI x4]⟩) hm

def qZ (pu:Af) (n:Nat) (x0:Int):OV:=
 (some (.bool (nt (Bd x0 x0))))
def gG (pu:Af) (n:Nat) (args:LV):OV:=
 (ll args none fun a0 args=>(ll args (oo (Bi .i64 a0) none fun x0=>(qZ pu n x0)) fun _ _=>none))
theorem Ajj {call:A8} (pu:Af) (n:Nat) (hcall:call=Bb tabs isP pu (inl pu)) {args:LV} {v:Value} (hm:gG pu n args=some v) (_:∀ x∈args,closed2 x=true):args.length≤6∧BN tt call 1 UB (Fr.made 6 args) (Ao tabs) (Fin tt 1 [.tmp 2] v):=by
 subst hcall
 unfold gG at hm
 replace hm:=Ad hm;obtain⟨a0,args_0,rfl,hm⟩:=hm
 replace hm:=AC hm;obtain⟨rfl,hm⟩:=hm
 replace hm:=Ai hm;obtain⟨x0,rfl,hm⟩:=hm
 unfold qZ at hm
 refine⟨by simp,?_⟩
 refine .same (F':=(fr 6 [(0,zI x0)])) (H':=AO) (by kernel_rfl) (by kernel_rfl) ?_
 refine .then (.rK (.ghs (fr 6 [(0,zI x0)]) AO (.k0 [false] [] [0]) ?_))
 refine .then (.rK (.ghs (fr 6 [(2,(zB (nt (Bd x0 x0))))]) AO (.k0 [false] [] [2]) ?_))
 refine .ret ?_
 exact A7 (zB (nt (Bd x0 x0))) hm
def M8 (pu:Af) (n n0:Nat) (q0:LV) (s0:Sl) (z0:Int) (s1:Sl):OV:=
 (some (.tuple ⟨[(.tuple ⟨[]⟩),(.agg ⟨[(Cv n0 q0)]⟩),(.agg ⟨[Sl.v 1 s0]⟩),(.agg ⟨[.int .i64 z0]⟩),(.agg ⟨[Sl.v 1 s1]⟩),(.agg ⟨[(.func (.func 65) ⟨[]⟩ ⟨[(.pointer (some ⟨1,0,none⟩)),(.pointer (some ⟨2,0,none⟩)),(.pointer (some ⟨3,0,none⟩)),(.pointer (some ⟨4,0,none⟩)),(.pointer (some ⟨5,0,none⟩))]⟩)]⟩)]⟩))
def Jv (pu:Af) (n:Nat) (s0:Sl) (b0:Bool) (n0:Nat) (q0:LV) (s1:Sl) (z0:Int) (s2:Sl):OV:=
 (bb b0 (M8 pu n n0 q0 s1 (Int.ofNat (Sl.n s0)) s0) (M8 pu n n0 q0 s1 z0 s2))
def KX (pu:Af) (n:Nat) (ih0:Sl→Int→Int→Nat→LV→Sl→Int→Sl→OV) (s0:Sl) (z0 z1:Int) (n0:Nat) (q0:LV) (s1:Sl) (z2:Int) (s2:Sl):OV:=
 (bb (nt (Bd z1 (0:Int))) (oo (pu 71 [Sl.v 1 s0]) none fun v0=>(oo (Bj 1 v0) none fun s3=>(oo (pu 72 [.int .u16 z1]) none fun v1=>(oo (Bi .i64 v1) none fun x0=>(bb (an (Dp (Nat.beq (Sl.fl s3) 1) (Nat.beq (Sl.fl s3) 2)) (EQ ((Sl.n s3)+1) 8)) (bb (an (Nat.ble (0+((Sl.n s3)+1)*1) (len (Br (Sl.cs s3) ([.int .i64 x0]:LV)))) (Au Ah (Aq (((Sl.n s3)+1)*1) (Am 0 (Br (Sl.cs s3) ([.int .i64 x0]:LV)))))) (oo (pu 10650 [(Sl.v 1 (Sl.mk ((Sl.n s3)+1) 0 (Aq (((Sl.n s3)+1)*1) (Am 0 (Br (Sl.cs s3) ([.int .i64 x0]:LV)))))),(.int .i64 (Aj .i64 (Int.add z0 (1:Int)))),(.pointer (some ⟨1,0,none⟩)),(.pointer (some ⟨2,0,none⟩)),(.pointer (some ⟨3,0,none⟩)),(.pointer (some ⟨4,0,none⟩)),(.pointer (some ⟨5,0,none⟩)),(.agg ⟨[(Cv n0 q0)]⟩),(.agg ⟨[Sl.v 1 s1]⟩),(.agg ⟨[.int .i64 z2]⟩),(.agg ⟨[Sl.v 1 s2]⟩),(.agg ⟨[(.func (.func 65) ⟨[]⟩ ⟨[(.pointer (some ⟨1,0,none⟩)),(.pointer (some ⟨2,0,none⟩)),(.pointer (some ⟨3,0,none⟩)),(.pointer (some ⟨4,0,none⟩)),(.pointer (some ⟨5,0,none⟩))]⟩)]⟩)]) none fun v2=>(oo (CQ v2) none fun l0=>(ll l0 none fun v3 l0=>(ll l0 none fun v4 l0=>(ll l0 none fun v5 l0=>(ll l0 none fun v6 l0=>(ll l0 none fun v7 l0=>(ll l0 none fun v8 l0=>(ll l0 (bb (MC v3) (oo (Bt v4) none fun l1=>(ll l1 none fun v9 l1=>(ll l1 (oo (Pv v9) none fun p0=>(oo (Bt v5) none fun l2=>(ll l2 none fun v10 l2=>(ll l2 (oo (Bj 1 v10) none fun s4=>(oo (Bt v6) none fun l3=>(ll l3 none fun v11 l3=>(ll l3 (oo (Bi .i64 v11) none fun x1=>(oo (Bt v7) none fun l4=>(ll l4 none fun v12 l4=>(ll l4 (oo (Bj 1 v12) none fun s5=>(oo (Bt v8) none fun l5=>(ll l5 none fun v13 l5=>(ll l5 (oo (Om 65 0 v13) none fun l6=>(ll l6 none fun v14 l6=>(ll l6 none fun v15 l6=>(ll l6 none fun v16 l6=>(ll l6 none fun v17 l6=>(ll l6 none fun v18 l6=>(ll l6 (bb (MK v14 1 0) (bb (MK v15 2 0) (bb (MK v16 3 0) (bb (MK v17 4 0) (bb (MK v18 5 0) (ih0 s0 z0 (Np .u16 z1 (Aj .u16 (Int.sub z1 (1:Int)))) (Db.off p0) (Db.cs p0) s4 x1 s5) none) none) none) none) none) fun _ _=>none))))))) fun _ _=>none)))) fun _ _=>none)))) fun _ _=>none)))) fun _ _=>none)))) fun _ _=>none))) none) fun _ _=>none))))))))) none) none))))) (some (.tuple ⟨[(.tuple ⟨[]⟩),(.agg ⟨[(Cv n0 q0)]⟩),(.agg ⟨[Sl.v 1 s1]⟩),(.agg ⟨[.int .i64 z2]⟩),(.agg ⟨[Sl.v 1 s2]⟩),(.agg ⟨[(.func (.func 65) ⟨[]⟩ ⟨[(.pointer (some ⟨1,0,none⟩)),(.pointer (some ⟨2,0,none⟩)),(.pointer (some ⟨3,0,none⟩)),(.pointer (some ⟨4,0,none⟩)),(.pointer (some ⟨5,0,none⟩))]⟩)]⟩)]⟩)))
def KZ (pu:Af) (n w:Nat):Sl→Int→Int→Nat→LV→Sl→Int→Sl→OV:=
 Nat.rec (motive:=fun _=>Sl→Int→Int→Nat→LV→Sl→Int→Sl→OV) (fun _ _ _ _ _ _ _ _=>none) (fun _ ih0=>KX pu n ih0) w
def FY (pu:Af) (n:Nat) (s0:Sl) (z0:Int) (n0:Nat) (q0:LV) (s1:Sl) (z1:Int) (s2:Sl):OV:=
 (oo (AL q0 ((n0+0)+3)) none fun v0=>(oo (Bj 1 v0) none fun s3=>(bb (Bd z0 (Int.ofNat (Sl.n s3))) (oo (pu 10690 [Sl.v 1 s0]) none fun v1=>(oo (CQ v1) none fun l0=>(ll l0 none fun v2 l0=>(ll l0 none fun v3 l0=>(ll l0 (oo (Om 89 0 v2) none fun l1=>(ll l1 none fun v4 l1=>(ll l1 (bb (MK v4 1 0) (oo (Bt v3) none fun l2=>(ll l2 none fun v5 l2=>(ll l2 (oo (Bj 1 v5) none fun s4=>(oo (CG (Bi .i64) (Sl.cs s4)) none fun z2=>(bb (an (Nat.beq (len z2) (Sl.n s4)) (Nat.ble (len z2) 1000000)) (bb (AY (Int.ofNat (Sl.n (Sl.mk (len z2) (bb (MQ z2) 2 0) (AP Dy (CY z2))))) z1) (Jv pu n (Sl.mk (len z2) (bb (MQ z2) 2 0) (AP Dy (CY z2))) true n0 q0 s1 z1 s2) (bb (Bd (Int.ofNat (Sl.n (Sl.mk (len z2) (bb (MQ z2) 2 0) (AP Dy (CY z2))))) z1) (oo (pu 70 [(Sl.v 1 (Sl.mk (len z2) (bb (MQ z2) 2 0) (AP Dy (CY z2)))),Sl.v 1 s2]) none fun v6=>(oo (Bi .i64 v6) none fun x0=>(Jv pu n (Sl.mk (len z2) (bb (MQ z2) 2 0) (AP Dy (CY z2))) (AY x0 (0:Int)) n0 q0 s1 z1 s2))) (Jv pu n (Sl.mk (len z2) (bb (MQ z2) 2 0) (AP Dy (CY z2))) false n0 q0 s1 z1 s2))) none))) fun _ _=>none))) none) fun _ _=>none))) fun _ _=>none))))) (bb (Bd (Int.ofNat (Sl.n s0)) z1) (some (.tuple ⟨[(.tuple ⟨[]⟩),(.agg ⟨[(Cv n0 q0)]⟩),(.agg ⟨[Sl.v 1 s1]⟩),(.agg ⟨[.int .i64 z1]⟩),(.agg ⟨[Sl.v 1 s2]⟩),(.agg ⟨[(.func (.func 65) ⟨[]⟩ ⟨[(.pointer (some ⟨1,0,none⟩)),(.pointer (some ⟨2,0,none⟩)),(.pointer (some ⟨3,0,none⟩)),(.pointer (some ⟨4,0,none⟩)),(.pointer (some ⟨5,0,none⟩))]⟩)]⟩)]⟩)) (oo (pu 51 [(Cv n0 q0),Sl.v 1 s1,.int .i64 z0]) none fun v7=>(oo (Bi .u16 v7) none fun x1=>(KZ pu n n s0 z0 x1 n0 q0 s1 z1 s2)))))))
def Jw (pu:Af) (n:Nat) (ih0:Sl→Int→Nat→LV→Sl→Int→Sl→OV) (s0:Sl) (z0:Int) (b0:Bool) (n0:Nat) (q0:LV) (s1:Sl) (z1:Int) (s2:Sl):OV:=
 (bb b0 (FY pu n s0 z0 n0 q0 s1 z1 s2) (ih0 s0 (Aj .i64 (Int.add z0 (1:Int))) n0 q0 s1 z1 s2))
def HY (pu:Af) (n:Nat) (ih0:Sl→Int→Nat→LV→Sl→Int→Sl→OV) (s0:Sl) (z0:Int) (n0:Nat) (q0:LV) (s1:Sl) (z1:Int) (s2:Sl):OV:=
 (oo (AL q0 ((n0+0)+3)) none fun v0=>(oo (Bj 1 v0) none fun s3=>(bb (AY z0 (Int.ofNat (Sl.n s3))) (oo (pu 51 [(Cv n0 q0),Sl.v 1 s1,.int .i64 z0]) none fun v1=>(oo (Bi .u16 v1) none fun x0=>(bb (nt (Bd x0 (0:Int))) (oo (pu 10660 [Sl.v 1 s0,(.func (.func 67) ⟨[]⟩ ⟨[(.pointer (some ⟨1,0,none⟩))]⟩),(.agg ⟨[.int .u16 x0]⟩)]) none fun v2=>(oo (CQ v2) none fun l0=>(ll l0 none fun v3 l0=>(ll l0 none fun v4 l0=>(ll l0 (oo (Bf v3) none fun b0=>(oo (Bt v4) none fun l1=>(ll l1 none fun v5 l1=>(ll l1 (oo (Bi .u16 v5) none fun x1=>(Jw pu n ih0 s0 z0 (nt b0) n0 q0 s1 z1 s2)) fun _ _=>none)))) fun _ _=>none))))) (Jw pu n ih0 s0 z0 false n0 q0 s1 z1 s2)))) (FY pu n s0 z0 n0 q0 s1 z1 s2))))
def Gm (pu:Af) (n w:Nat):Sl→Int→Nat→LV→Sl→Int→Sl→OV:=
 Nat.rec (motive:=fun _=>Sl→Int→Nat→LV→Sl→Int→Sl→OV) (fun _ _ _ _ _ _ _=>none) (fun _ ih0=>HY pu n ih0) w
def Pb (pu:Af) (n:Nat) (s0:Sl) (z0:Int) (n0:Nat) (q0:LV) (s1:Sl) (z1:Int) (s2:Sl):OV:=
 (Gm pu n n s0 z0 n0 q0 s1 z1 s2)
def MG (pu:Af) (n:Nat) (args:LV):OV:=
 (ll args none fun a0 args=>(ll args none fun a1 args=>(ll args none fun a2 args=>(ll args none fun a3 args=>(ll args none fun a4 args=>(ll args none fun a5 args=>(ll args none fun a6 args=>(ll args none fun o0 args=>(ll args none fun o1 args=>(ll args none fun o2 args=>(ll args none fun o3 args=>(ll args none fun o4 args=>(ll args (oo (Bj 1 a0) none fun s0=>(oo (Bi .i64 a1) none fun x0=>(bb (MK a2 1 0) (bb (MK a3 2 0) (bb (MK a4 3 0) (bb (MK a5 4 0) (bb (MK a6 5 0) (oo (Bt o0) none fun l0=>(ll l0 none fun v0 l0=>(ll l0 (oo (Pv v0) none fun p0=>(oo (Bt o1) none fun l1=>(ll l1 none fun v1 l1=>(ll l1 (oo (Bj 1 v1) none fun s1=>(oo (Bt o2) none fun l2=>(ll l2 none fun v2 l2=>(ll l2 (oo (Bi .i64 v2) none fun x1=>(oo (Bt o3) none fun l3=>(ll l3 none fun v3 l3=>(ll l3 (oo (Bj 1 v3) none fun s2=>(oo (Bt o4) none fun l4=>(ll l4 none fun v4 l4=>(ll l4 (oo (Om 65 0 v4) none fun l5=>(ll l5 none fun v5 l5=>(ll l5 none fun v6 l5=>(ll l5 none fun v7 l5=>(ll l5 none fun v8 l5=>(ll l5 none fun v9 l5=>(ll l5 (bb (MK v5 1 0) (bb (MK v6 2 0) (bb (MK v7 3 0) (bb (MK v8 4 0) (bb (MK v9 5 0) (Pb pu n s0 x0 (Db.off p0) (Db.cs p0) s1 x1 s2) none) none) none) none) none) fun _ _=>none))))))) fun _ _=>none)))) fun _ _=>none)))) fun _ _=>none)))) fun _ _=>none)))) fun _ _=>none))) none) none) none) none) none))) fun _ _=>none)))))))))))))
theorem gH (pu:Af) (n:Nat) (s0:Sl) (z0:Int) (n0:Nat) (q0:LV) (s1:Sl) (z1:Int) (s2:Sl) {v:Value} (hm:FY pu n s0 z0 n0 q0 s1 z1 s2=some v):BN tt (Bb tabs isP pu (inl pu)) 6 eX (fr 88 [(0,Sl.v 1 s0),(1,zI z0),(2,pt 1 0),(3,(pt 2 0)),(4,(pt 3 0)),(5,(pt 4 0)),(6,(pt 5 0))]) (hT 6 [(oC [(Cv n0 q0)]),(oC [Sl.v 1 s1]),(oC [zI z1]),(oC [Sl.v 1 s2]),(oC [(.func (.func 65) ⟨[]⟩ ⟨[pt 1 0,(pt 2 0),(pt 3 0),(pt 4 0),(pt 5 0)]⟩)])]) (FJ tt 1 5 [] v):=by
 unfold FY at hm
 refine .then (.then ?_)
 replace hm:=fE hm;obtain⟨s3,h0,hm⟩:=hm
 refine .reg (eC 5 (keep (hT 6 [(oC [(Cv n0 q0)]),(oC [Sl.v 1 s1]),(oC [zI z1]),(oC [Sl.v 1 s2]),(oC [(.func (.func 65) ⟨[]⟩ ⟨[pt 1 0,(pt 2 0),(pt 3 0),(pt 4 0),(pt 5 0)]⟩)])]) (AL q0 ((n0+0)+3))) (AZ h0) (eE)) ?_
 refine .ghs (fr 88 [(0,Sl.v 1 s0),(1,zI z0),(2,pt 1 0),(3,(pt 2 0)),(4,(pt 3 0)),(5,(pt 4 0)),(6,(pt 5 0)),(41,(zB (Bd z0 (Int.ofNat (Sl.n s3)))))]) (hT 6 [(oC [(Cv n0 q0)]),(oC [Sl.v 1 s1]),(oC [zI z1]),(oC [Sl.v 1 s2]),(oC [(.func (.func 65) ⟨[]⟩ ⟨[pt 1 0,(pt 2 0),(pt 3 0),(pt 4 0),(pt 5 0)]⟩)])]) (.k0 [false,false,false,false,false,true] [] [0,1,2,3,4,5,6,41]) ?_
 replace hm:=Ag hm;rcases hm with⟨h1,hm⟩ | ⟨h1,hm⟩
 ·refine Bq (Bd z0 (Int.ofNat (Sl.n s3))) h1 ?_
  refine .then ?_
  replace hm:=Ab hm;obtain⟨v0,h2,hm⟩:=hm
  replace hm:=Ch hm;obtain⟨l0,rfl,hm⟩:=hm
  replace hm:=Ad hm;obtain⟨v1,l882_0,rfl,hm⟩:=hm
  replace hm:=Ad hm;obtain⟨v2,l882_1,rfl,hm⟩:=hm
  replace hm:=AC hm;obtain⟨rfl,hm⟩:=hm
  replace hm:=Ab hm;obtain⟨l1,h3,hm⟩:=hm
  obtain rfl:=Hu h3
  replace hm:=Ad hm;obtain⟨v3,l886_0,rfl,hm⟩:=hm
  replace hm:=AC hm;obtain⟨rfl,hm⟩:=hm
  replace hm:=Ae hm;obtain⟨h4,hm⟩:=hm
  obtain rfl:=KR h4
  replace hm:=BG hm;obtain⟨l2,rfl,hm⟩:=hm
  replace hm:=Ad hm;obtain⟨v4,l890_0,rfl,hm⟩:=hm
  replace hm:=AC hm;obtain⟨rfl,hm⟩:=hm
  replace hm:=Al hm;obtain⟨s4,rfl,hm⟩:=hm
  replace hm:=Ab hm;obtain⟨z2,h5,hm⟩:=hm
  replace hm:=Ae hm;obtain⟨h6,hm⟩:=hm
  refine .reg (eC 1 (EK tabs [[some 1]] 1 [] [false] (pu 10690) [Sl.v 1 s0] (hT 6 [(oC [(Cv n0 q0)]),(oC [Sl.v 1 s1]),(oC [zI z1]),(oC [Sl.v 1 s2]),(oC [(.func (.func 65) ⟨[]⟩ ⟨[pt 1 0,(pt 2 0),(pt 3 0),(pt 4 0),(pt 5 0)]⟩)])])) (EL (as:=[Sl.v 1 s0]) (H1:=(hT 6 [(oC [(Cv n0 q0)]),(oC [Sl.v 1 s1]),(oC [zI z1]),(oC [Sl.v 1 s2]),(oC [(.func (.func 65) ⟨[]⟩ ⟨[pt 1 0,(pt 2 0),(pt 3 0),(pt 4 0),(pt 5 0)]⟩)])])) (BS (Dm (KQ (CV (z:=1) (v:=(Sl.v 1 s0)) (H:=(hT 6 [(oC [(Cv n0 q0)]),(oC [Sl.v 1 s1]),(oC [zI z1]),(oC [Sl.v 1 s2]),(oC [(.func (.func 65) ⟨[]⟩ ⟨[pt 1 0,(pt 2 0),(pt 3 0),(pt 4 0),(pt 5 0)]⟩)])])) (by kernel_rfl) (by kernel_rfl) (by kernel_rfl)))) Gj) (EI (H2:=(hT 7 [(oC [(Cv n0 q0)]),(oC [Sl.v 1 s1]),(oC [zI z1]),(oC [Sl.v 1 s2]),(oC [(.func (.func 65) ⟨[]⟩ ⟨[pt 1 0,(pt 2 0),(pt 3 0),(pt 4 0),(pt 5 0)]⟩)]),(oC [Sl.v 1 s4])])) (v:=(.func (.func 89) ⟨[]⟩ ⟨[pt 1 0]⟩)) (v':=(.func (.func 89) ⟨[]⟩ ⟨[(pt 6 0)]⟩)) [some 0] [] [] [Sl.v 1 s0] [(.agg ⟨[Sl.v 1 s4]⟩)] [(oC [Sl.v 1 s4])] [some 0,none,none,none,none,none,some 1] [(false,(oC [Sl.v 1 s4]))] [(oC [Sl.v 1 s4])] (by kernel_rfl) BX (Eq.trans (by kernel_rfl) h2) (En rfl BX) (En (by kernel_rfl) BX))) (eD (sortedF 89 [(.func (.func 89) ⟨[]⟩ ⟨[(pt 6 0)]⟩)] (hT 7 [(oC [(Cv n0 q0)]),(oC [Sl.v 1 s1]),(oC [zI z1]),(oC [Sl.v 1 s2]),(oC [(.func (.func 65) ⟨[]⟩ ⟨[pt 1 0,(pt 2 0),(pt 3 0),(pt 4 0),(pt 5 0)]⟩)]),(oC [Sl.v 1 s4])])) (show _=some ((Sl.v 1 (Sl.mk (len z2) (bb (MQ z2) 2 0) (AP Dy (CY z2)))),(hT 8 [(oC [(Cv n0 q0)]),(oC [Sl.v 1 s1]),(oC [zI z1]),(oC [Sl.v 1 s2]),(oC [(.func (.func 65) ⟨[]⟩ ⟨[pt 1 0,(pt 2 0),(pt 3 0),(pt 4 0),(pt 5 0)]⟩)]),(oC [Sl.v 1 s4]),.dead])) from (Eq.trans (by kernel_rfl) (Eq.trans (ZK (g:=89) (H:=(hT 7 [(oC [(Cv n0 q0)]),(oC [Sl.v 1 s1]),(oC [zI z1]),(oC [Sl.v 1 s2]),(oC [(.func (.func 65) ⟨[]⟩ ⟨[pt 1 0,(pt 2 0),(pt 3 0),(pt 4 0),(pt 5 0)]⟩)]),(oC [Sl.v 1 s4])])) (id:=6) (o:=⟨[Sl.v 1 s4],false,false,[]⟩) (s:=s4) (zs:=z2) (by kernel_rfl) (by kernel_rfl) h5 h6) (by kernel_rfl)))) (eE))) ?_
  refine .ghs (fr 88 [(4,(pt 3 0)),(5,(pt 4 0)),(10,(Sl.v 1 (Sl.mk (len z2) (bb (MQ z2) 2 0) (AP Dy (CY z2)))))]) (hT 6 [(oC [(Cv n0 q0)]),(oC [Sl.v 1 s1]),(oC [zI z1]),(oC [Sl.v 1 s2]),(oC [(.func (.func 65) ⟨[]⟩ ⟨[pt 1 0,(pt 2 0),(pt 3 0),(pt 4 0),(pt 5 0)]⟩)])]) (.k0 [false,false,false,false,false,true] [] [4,5,10]) ?_
  refine .join (v:=v) (fun y:Nat×LV×Sl×Int×Sl=>((fr 88 []),(hT 6 [(oC [(Cv y.1 y.2.1)]),(oC [(Sl.v 1 y.2.2.1)]),(oC [(zI y.2.2.2.1)]),(oC [(Sl.v 1 y.2.2.2.2)]),(oC [(.func (.func 65) ⟨[]⟩ ⟨[pt 1 0,(pt 2 0),(pt 3 0),(pt 4 0),(pt 5 0)]⟩)])]))) (fun y=>M8 pu n y.1 y.2.1 y.2.2.1 y.2.2.2.1 y.2.2.2.2) ?_ ?_
  ·rintro⟨n1,q1,s5,z3,s6⟩ hm
   unfold M8 at hm
   refine .ghs (fr 88 []) (hT 6 [(oC [(Cv n1 q1)]),(oC [Sl.v 1 s5]),(oC [zI z3]),(oC [Sl.v 1 s6]),(oC [(.func (.func 65) ⟨[]⟩ ⟨[pt 1 0,(pt 2 0),(pt 3 0),(pt 4 0),(pt 5 0)]⟩)])]) (.k0 [false,false,false,false,false,true] [] []) ?_
   refine .ret ?_
   exact Gi (.tuple ⟨[]⟩) [(oC [(Cv n1 q1)]),(oC [Sl.v 1 s5]),(oC [zI z3]),(oC [Sl.v 1 s6]),(oC [(.func (.func 65) ⟨[]⟩ ⟨[pt 1 0,(pt 2 0),(pt 3 0),(pt 4 0),(pt 5 0)]⟩)])] (by kernel_rfl) hm (Nat.le_of_ble_eq_true rfl) (Fa (VT _) (Fa (VT _) (Fa (VT _) (Fa (VT _) (Fa (VT _) EJ)))))
  ·refine .join (v:=v) (fun y:Sl×Bool×Nat×LV×Sl×Int×Sl=>((fr 88 [(4,(pt 3 0)),(5,(pt 4 0)),(10,(Sl.v 1 y.1)),(60,(zB y.2.1))]),(hT 6 [(oC [(Cv y.2.2.1 y.2.2.2.1)]),(oC [(Sl.v 1 y.2.2.2.2.1)]),(oC [(zI y.2.2.2.2.2.1)]),(oC [(Sl.v 1 y.2.2.2.2.2.2)]),(oC [(.func (.func 65) ⟨[]⟩ ⟨[pt 1 0,(pt 2 0),(pt 3 0),(pt 4 0),(pt 5 0)]⟩)])]))) (fun y=>Jv pu n y.1 y.2.1 y.2.2.1 y.2.2.2.1 y.2.2.2.2.1 y.2.2.2.2.2.1 y.2.2.2.2.2.2) ?_ ?_
   ·rintro⟨s7,b0,n2,q2,s8,z4,s9⟩ hm
    unfold Jv at hm
    replace hm:=Ag hm;rcases hm with⟨h7,hm⟩ | ⟨h7,hm⟩
    ·refine .ifT b0 (by kernel_rfl) h7 ?_
     refine .rK ?_
     exact⟨(n2,q2,s8,(Int.ofNat (Sl.n s7)),s7),hm,(.k0 [false,false,false,false,false,true] [] [])⟩
    ·refine .ifF b0 (by kernel_rfl) h7 ?_
     refine .skip ?_
     exact⟨(n2,q2,s8,z4,s9),hm,(.k0 [false,false,false,false,false,true] [] [])⟩
   ·replace hm:=Ag hm;rcases hm with⟨h8,hm⟩ | ⟨h8,hm⟩
    ·refine .reg (eC 3 (some ((zB (AY (Int.ofNat (Sl.n (Sl.mk (len z2) (bb (MQ z2) 2 0) (AP Dy (CY z2))))) z1)),(hT 6 [(oC [(Cv n0 q0)]),(oC [Sl.v 1 s1]),(oC [zI z1]),(oC [Sl.v 1 s2]),(oC [(.func (.func 65) ⟨[]⟩ ⟨[pt 1 0,(pt 2 0),(pt 3 0),(pt 4 0),(pt 5 0)]⟩)])]))) (show _=some ((zB true),_) from (by rw[show (AY (Int.ofNat (Sl.n (Sl.mk (len z2) (bb (MQ z2) 2 0) (AP Dy (CY z2))))) z1)=true from h8])) (eE)) ?_
     exact⟨((Sl.mk (len z2) (bb (MQ z2) 2 0) (AP Dy (CY z2))),true,n0,q0,s1,z1,s2),hm,(.k0 [false,false,false,false,false,true] [] [4,5,10,60])⟩
    ·replace hm:=Ag hm;rcases hm with⟨h9,hm⟩ | ⟨h9,hm⟩
     ·replace hm:=Gt hm;obtain⟨x0,h10,hm⟩:=hm
      refine .reg (eC 3 (some ((zB (AY (Int.ofNat (Sl.n (Sl.mk (len z2) (bb (MQ z2) 2 0) (AP Dy (CY z2))))) z1)),(hT 6 [(oC [(Cv n0 q0)]),(oC [Sl.v 1 s1]),(oC [zI z1]),(oC [Sl.v 1 s2]),(oC [(.func (.func 65) ⟨[]⟩ ⟨[pt 1 0,(pt 2 0),(pt 3 0),(pt 4 0),(pt 5 0)]⟩)])]))) (show _=some ((zB false),_) from (by rw[show (AY (Int.ofNat (Sl.n (Sl.mk (len z2) (bb (MQ z2) 2 0) (AP Dy (CY z2))))) z1)=false from h8])) (eC 4 (some ((zB (Bd (Int.ofNat (Sl.n (Sl.mk (len z2) (bb (MQ z2) 2 0) (AP Dy (CY z2))))) z1)),(hT 6 [(oC [(Cv n0 q0)]),(oC [Sl.v 1 s1]),(oC [zI z1]),(oC [Sl.v 1 s2]),(oC [(.func (.func 65) ⟨[]⟩ ⟨[pt 1 0,(pt 2 0),(pt 3 0),(pt 4 0),(pt 5 0)]⟩)])]))) (show _=some ((zB true),_) from (by rw[show (Bd (Int.ofNat (Sl.n (Sl.mk (len z2) (bb (MQ z2) 2 0) (AP Dy (CY z2))))) z1)=true from h9])) (eC 3 ((oo (pu 70 [(Sl.v 1 (Sl.mk (len z2) (bb (MQ z2) 2 0) (AP Dy (CY z2)))),Sl.v 1 s2]) none fun v=>some (v,(hT 6 [(oC [(Cv n0 q0)]),(oC [Sl.v 1 s1]),(oC [zI z1]),(oC [Sl.v 1 s2]),(oC [(.func (.func 65) ⟨[]⟩ ⟨[pt 1 0,(pt 2 0),(pt 3 0),(pt 4 0),(pt 5 0)]⟩)])])))) (AB h10) (eE)))) ?_
      exact⟨((Sl.mk (len z2) (bb (MQ z2) 2 0) (AP Dy (CY z2))),(AY x0 (0:Int)),n0,q0,s1,z1,s2),hm,(.k0 [false,false,false,false,false,true] [] [4,5,10,60])⟩
     ·refine .reg (eC 3 (some ((zB (AY (Int.ofNat (Sl.n (Sl.mk (len z2) (bb (MQ z2) 2 0) (AP Dy (CY z2))))) z1)),(hT 6 [(oC [(Cv n0 q0)]),(oC [Sl.v 1 s1]),(oC [zI z1]),(oC [Sl.v 1 s2]),(oC [(.func (.func 65) ⟨[]⟩ ⟨[pt 1 0,(pt 2 0),(pt 3 0),(pt 4 0),(pt 5 0)]⟩)])]))) (show _=some ((zB false),_) from (by rw[show (AY (Int.ofNat (Sl.n (Sl.mk (len z2) (bb (MQ z2) 2 0) (AP Dy (CY z2))))) z1)=false from h8])) (eC 4 (some ((zB (Bd (Int.ofNat (Sl.n (Sl.mk (len z2) (bb (MQ z2) 2 0) (AP Dy (CY z2))))) z1)),(hT 6 [(oC [(Cv n0 q0)]),(oC [Sl.v 1 s1]),(oC [zI z1]),(oC [Sl.v 1 s2]),(oC [(.func (.func 65) ⟨[]⟩ ⟨[pt 1 0,(pt 2 0),(pt 3 0),(pt 4 0),(pt 5 0)]⟩)])]))) (show _=some ((zB false),_) from (by rw[show (Bd (Int.ofNat (Sl.n (Sl.mk (len z2) (bb (MQ z2) 2 0) (AP Dy (CY z2))))) z1)=false from h9])) (eE))) ?_
      exact⟨((Sl.mk (len z2) (bb (MQ z2) 2 0) (AP Dy (CY z2))),false,n0,q0,s1,z1,s2),hm,(.k0 [false,false,false,false,false,true] [] [4,5,10,60])⟩
 ·refine BB (Bd z0 (Int.ofNat (Sl.n s3))) h1 ?_
  refine .skip (.ghs (fr 88 [(0,Sl.v 1 s0),(1,zI z0),(2,pt 1 0),(3,(pt 2 0)),(4,(pt 3 0)),(6,(pt 5 0))]) (hT 6 [(oC [(Cv n0 q0)]),(oC [Sl.v 1 s1]),(oC [zI z1]),(oC [Sl.v 1 s2]),(oC [(.func (.func 65) ⟨[]⟩ ⟨[pt 1 0,(pt 2 0),(pt 3 0),(pt 4 0),(pt 5 0)]⟩)])]) (.k0 [false,false,false,false,false,true] [] [0,1,2,3,4,6]) ?_)
  refine .then (.then (.rK (.ghs (fr 88 [(0,Sl.v 1 s0),(1,zI z0),(2,pt 1 0),(3,(pt 2 0)),(6,(pt 5 0)),(67,(zB (Bd (Int.ofNat (Sl.n s0)) z1)))]) (hT 6 [(oC [(Cv n0 q0)]),(oC [Sl.v 1 s1]),(oC [zI z1]),(oC [Sl.v 1 s2]),(oC [(.func (.func 65) ⟨[]⟩ ⟨[pt 1 0,(pt 2 0),(pt 3 0),(pt 4 0),(pt 5 0)]⟩)])]) (.k0 [false,false,false,false,false,true] [] [0,1,2,3,6,67]) ?_)))
  replace hm:=Ag hm;rcases hm with⟨h11,hm⟩ | ⟨h11,hm⟩
  ·refine Bq (Bd (Int.ofNat (Sl.n s0)) z1) h11 ?_
   refine .ghs (fr 88 []) (hT 6 [(oC [(Cv n0 q0)]),(oC [Sl.v 1 s1]),(oC [zI z1]),(oC [Sl.v 1 s2]),(oC [(.func (.func 65) ⟨[]⟩ ⟨[pt 1 0,(pt 2 0),(pt 3 0),(pt 4 0),(pt 5 0)]⟩)])]) (.k0 [false,false,false,false,false,true] [] []) ?_
   refine .ret ?_
   exact Gi (.tuple ⟨[]⟩) [(oC [(Cv n0 q0)]),(oC [Sl.v 1 s1]),(oC [zI z1]),(oC [Sl.v 1 s2]),(oC [(.func (.func 65) ⟨[]⟩ ⟨[pt 1 0,(pt 2 0),(pt 3 0),(pt 4 0),(pt 5 0)]⟩)])] (by kernel_rfl) hm (Nat.le_of_ble_eq_true rfl) (Fa (VT _) (Fa (VT _) (Fa (VT _) (Fa (VT _) (Fa (VT _) EJ)))))
  ·refine BB (Bd (Int.ofNat (Sl.n s0)) z1) h11 ?_
   refine .skip (.ghs (fr 88 [(0,Sl.v 1 s0),(1,zI z0),(2,pt 1 0),(3,(pt 2 0)),(6,(pt 5 0))]) (hT 6 [(oC [(Cv n0 q0)]),(oC [Sl.v 1 s1]),(oC [zI z1]),(oC [Sl.v 1 s2]),(oC [(.func (.func 65) ⟨[]⟩ ⟨[pt 1 0,(pt 2 0),(pt 3 0),(pt 4 0),(pt 5 0)]⟩)])]) (.k0 [false,false,false,false,false,true] [] [0,1,2,3,6]) ?_)
   refine .then ?_
   replace hm:=Gt hm;obtain⟨x1,h12,hm⟩:=hm
   refine .reg (eC 3 ((oo (pu 51 [(Cv n0 q0),Sl.v 1 s1,zI z0]) none fun v=>some (v,(hT 6 [(oC [(Cv n0 q0)]),(oC [Sl.v 1 s1]),(oC [zI z1]),(oC [Sl.v 1 s2]),(oC [(.func (.func 65) ⟨[]⟩ ⟨[pt 1 0,(pt 2 0),(pt 3 0),(pt 4 0),(pt 5 0)]⟩)])])))) (AB h12) (eE)) ?_
   refine .ghs (fr 88 [(0,Sl.v 1 s0),(1,zI z0),(6,(pt 5 0)),(11,.int .u16 x1)]) (hT 6 [(oC [(Cv n0 q0)]),(oC [Sl.v 1 s1]),(oC [zI z1]),(oC [Sl.v 1 s2]),(oC [(.func (.func 65) ⟨[]⟩ ⟨[pt 1 0,(pt 2 0),(pt 3 0),(pt 4 0),(pt 5 0)]⟩)])]) (.k0 [false,false,false,false,false,true] [] [0,1,6,11]) ?_
   refine .block (.loopM (v:=v) (fun y:Sl×Int×Int×Nat×LV×Sl×Int×Sl=>((fr 88 [(0,(Sl.v 1 y.1)),(1,(zI y.2.1)),(6,(pt 5 0)),(11,(.int .u16 y.2.2.1))]),(hT 6 [(oC [(Cv y.2.2.2.1 y.2.2.2.2.1)]),(oC [(Sl.v 1 y.2.2.2.2.2.1)]),(oC [(zI y.2.2.2.2.2.2.1)]),(oC [(Sl.v 1 y.2.2.2.2.2.2.2)]),(oC [(.func (.func 65) ⟨[]⟩ ⟨[pt 1 0,(pt 2 0),(pt 3 0),(pt 4 0),(pt 5 0)]⟩)])]))) (fun w y=>KZ pu n w y.1 y.2.1 y.2.2.1 y.2.2.2.1 y.2.2.2.2.1 y.2.2.2.2.2.1 y.2.2.2.2.2.2.1 y.2.2.2.2.2.2.2) n ⟨(s0,z0,x1,n0,q0,s1,z1,s2),hm,(.k0 [false,false,false,false,false,true] [] [0,1,6,11])⟩ (fun _=>rfl) ?_)
   rintro w0 ⟨s10,z5,z6,n3,q3,s11,z7,s12⟩ hm
   replace hm:KX pu n (KZ pu n w0) s10 z5 z6 n3 q3 s11 z7 s12=some v:=hm
   unfold KX at hm
   refine .then (.then (.rK (.ghs (fr 88 [(0,Sl.v 1 s10),(1,zI z5),(6,(pt 5 0)),(11,.int .u16 z6),(73,(zB (nt (Bd z6 (0:Int)))))]) (hT 6 [(oC [(Cv n3 q3)]),(oC [Sl.v 1 s11]),(oC [zI z7]),(oC [Sl.v 1 s12]),(oC [(.func (.func 65) ⟨[]⟩ ⟨[pt 1 0,(pt 2 0),(pt 3 0),(pt 4 0),(pt 5 0)]⟩)])]) (.k0 [false,false,false,false,false,true] [] [0,1,6,11,73]) ?_)))
   replace hm:=Ag hm;rcases hm with⟨h13,hm⟩ | ⟨h13,hm⟩
   ·refine Bq (nt (Bd z6 (0:Int))) h13 ?_
    refine .skip (.ghs (fr 88 [(0,Sl.v 1 s10),(1,zI z5),(6,(pt 5 0)),(11,.int .u16 z6)]) (hT 6 [(oC [(Cv n3 q3)]),(oC [Sl.v 1 s11]),(oC [zI z7]),(oC [Sl.v 1 s12]),(oC [(.func (.func 65) ⟨[]⟩ ⟨[pt 1 0,(pt 2 0),(pt 3 0),(pt 4 0),(pt 5 0)]⟩)])]) (.k0 [false,false,false,false,false,true] [] [0,1,6,11]) ?_)
    refine .then (.block ?_)
    replace hm:=fE hm;obtain⟨s13,h14,hm⟩:=hm
    replace hm:=Gt hm;obtain⟨x2,h15,hm⟩:=hm
    replace hm:=Ae hm;obtain⟨h16,hm⟩:=hm
    replace hm:=Ae hm;obtain⟨h17,hm⟩:=hm
    replace hm:=Ab hm;obtain⟨v5,h18,hm⟩:=hm
    replace hm:=Ch hm;obtain⟨l3,rfl,hm⟩:=hm
    replace hm:=Ad hm;obtain⟨v6,l1145_0,rfl,hm⟩:=hm
    replace hm:=Ad hm;obtain⟨v7,l1145_1,rfl,hm⟩:=hm
    replace hm:=Ad hm;obtain⟨v8,l1145_2,rfl,hm⟩:=hm
    replace hm:=Ad hm;obtain⟨v9,l1145_3,rfl,hm⟩:=hm
    replace hm:=Ad hm;obtain⟨v10,l1145_4,rfl,hm⟩:=hm
    replace hm:=Ad hm;obtain⟨v11,l1145_5,rfl,hm⟩:=hm
    replace hm:=AC hm;obtain⟨rfl,hm⟩:=hm
    replace hm:=Ae hm;obtain⟨h19,hm⟩:=hm
    obtain rfl:=Oo h19
    replace hm:=BG hm;obtain⟨l4,rfl,hm⟩:=hm
    replace hm:=Ad hm;obtain⟨v12,l1154_0,rfl,hm⟩:=hm
    replace hm:=AC hm;obtain⟨rfl,hm⟩:=hm
    replace hm:=Ab hm;obtain⟨p0,h20,hm⟩:=hm
    obtain rfl:=F7 h20
    replace hm:=BG hm;obtain⟨l5,rfl,hm⟩:=hm
    replace hm:=Ad hm;obtain⟨v13,l1159_0,rfl,hm⟩:=hm
    replace hm:=AC hm;obtain⟨rfl,hm⟩:=hm
    replace hm:=Al hm;obtain⟨s14,rfl,hm⟩:=hm
    replace hm:=BG hm;obtain⟨l6,rfl,hm⟩:=hm
    replace hm:=Ad hm;obtain⟨v14,l1164_0,rfl,hm⟩:=hm
    replace hm:=AC hm;obtain⟨rfl,hm⟩:=hm
    replace hm:=Ai hm;obtain⟨x3,rfl,hm⟩:=hm
    replace hm:=BG hm;obtain⟨l7,rfl,hm⟩:=hm
    replace hm:=Ad hm;obtain⟨v15,l1169_0,rfl,hm⟩:=hm
    replace hm:=AC hm;obtain⟨rfl,hm⟩:=hm
    replace hm:=Al hm;obtain⟨s15,rfl,hm⟩:=hm
    replace hm:=BG hm;obtain⟨l8,rfl,hm⟩:=hm
    replace hm:=Ad hm;obtain⟨v16,l1174_0,rfl,hm⟩:=hm
    replace hm:=AC hm;obtain⟨rfl,hm⟩:=hm
    replace hm:=Ab hm;obtain⟨l9,h21,hm⟩:=hm
    obtain rfl:=Hu h21
    replace hm:=Ad hm;obtain⟨v17,l1177_0,rfl,hm⟩:=hm
    replace hm:=Ad hm;obtain⟨v18,l1177_1,rfl,hm⟩:=hm
    replace hm:=Ad hm;obtain⟨v19,l1177_2,rfl,hm⟩:=hm
    replace hm:=Ad hm;obtain⟨v20,l1177_3,rfl,hm⟩:=hm
    replace hm:=Ad hm;obtain⟨v21,l1177_4,rfl,hm⟩:=hm
    replace hm:=AC hm;obtain⟨rfl,hm⟩:=hm
    replace hm:=Ae hm;obtain⟨h22,hm⟩:=hm
    obtain rfl:=KR h22
    replace hm:=Ae hm;obtain⟨h23,hm⟩:=hm
    obtain rfl:=KR h23
    replace hm:=Ae hm;obtain⟨h24,hm⟩:=hm
    obtain rfl:=KR h24
    replace hm:=Ae hm;obtain⟨h25,hm⟩:=hm
    obtain rfl:=KR h25
    replace hm:=Ae hm;obtain⟨h26,hm⟩:=hm
    obtain rfl:=KR h26
    refine .reg (eC 5 ((oo (pu 71 [Sl.v 1 s10]) none fun v=>some (v,(hT 6 [(oC [(Cv n3 q3)]),(oC [Sl.v 1 s11]),(oC [zI z7]),(oC [Sl.v 1 s12]),(oC [(.func (.func 65) ⟨[]⟩ ⟨[pt 1 0,(pt 2 0),(pt 3 0),(pt 4 0),(pt 5 0)]⟩)])])))) (AB h14) (eD ((oo (pu 72 [.int .u16 z6]) none fun v=>some (v,(hT 6 [(oC [(Cv n3 q3)]),(oC [Sl.v 1 s11]),(oC [zI z7]),(oC [Sl.v 1 s12]),(oC [(.func (.func 65) ⟨[]⟩ ⟨[pt 1 0,(pt 2 0),(pt 3 0),(pt 4 0),(pt 5 0)]⟩)])])))) (AB h15) (eC 1 (Uu (hT 7 [(oC [(Cv n3 q3)]),(oC [Sl.v 1 s11]),(oC [zI z7]),(oC [Sl.v 1 s12]),(oC [(.func (.func 65) ⟨[]⟩ ⟨[pt 1 0,(pt 2 0),(pt 3 0),(pt 4 0),(pt 5 0)]⟩)]),(oC [zI x2])]) 1 8 s13 1 ([zI x2]:LV)) (Wi h16) (eD (EK tabs [[some 1],[none],[none],[none],[none],[none],[none]] 7 [.tmp 2 false,.tmp 3 false,.tmp 4 false,.tmp 5 false,.tmp 6 true] [false,false,false,false,true] (pu 10650) [(sc 7 0 1 ((Sl.n s13)+1) (d2 ((Sl.n s13)+1))),(zI (Aj .i64 (Int.add z5 (1:Int)))),pt 1 0,(pt 2 0),(pt 3 0),(pt 4 0),(pt 5 0)] (hT 8 [(oC [(Cv n3 q3)]),(oC [Sl.v 1 s11]),(oC [zI z7]),(oC [Sl.v 1 s12]),(oC [(.func (.func 65) ⟨[]⟩ ⟨[pt 1 0,(pt 2 0),(pt 3 0),(pt 4 0),(pt 5 0)]⟩)]),(oC [zI x2]),(oC (Br (Sl.cs s13) ([zI x2]:LV)))])) (EL (as:=[(Sl.v 1 (Sl.mk ((Sl.n s13)+1) 0 (Aq (((Sl.n s13)+1)*1) (Am 0 (Br (Sl.cs s13) ([zI x2]:LV)))))),(zI (Aj .i64 (Int.add z5 (1:Int)))),pt 1 0,(pt 2 0),(pt 3 0),(pt 4 0),(pt 5 0)]) (H1:=(hT 8 [(oC [(Cv n3 q3)]),(oC [Sl.v 1 s11]),(oC [zI z7]),(oC [Sl.v 1 s12]),(oC [(.func (.func 65) ⟨[]⟩ ⟨[pt 1 0,(pt 2 0),(pt 3 0),(pt 4 0),(pt 5 0)]⟩)]),(oC [zI x2]),.dead])) (BS (Dm (KQ (show ER 1 (sc 7 0 1 ((Sl.n s13)+1) (d2 ((Sl.n s13)+1))) (hT 8 [(oC [(Cv n3 q3)]),(oC [Sl.v 1 s11]),(oC [zI z7]),(oC [Sl.v 1 s12]),(oC [(.func (.func 65) ⟨[]⟩ ⟨[pt 1 0,(pt 2 0),(pt 3 0),(pt 4 0),(pt 5 0)]⟩)]),(oC [zI x2]),(oC (Br (Sl.cs s13) ([zI x2]:LV)))])=some ((Sl.v 1 (Sl.mk ((Sl.n s13)+1) 0 (Aq (((Sl.n s13)+1)*1) (Am 0 (Br (Sl.cs s13) ([zI x2]:LV)))))),(hT 8 [(oC [(Cv n3 q3)]),(oC [Sl.v 1 s11]),(oC [zI z7]),(oC [Sl.v 1 s12]),(oC [(.func (.func 65) ⟨[]⟩ ⟨[pt 1 0,(pt 2 0),(pt 3 0),(pt 4 0),(pt 5 0)]⟩)]),(oC [zI x2]),.dead])) from KH 7 0 1 ((Sl.n s13)+1) (d2 ((Sl.n s13)+1)) (Br (Sl.cs s13) ([zI x2]:LV)) [] (by kernel_rfl) (by kernel_rfl) h17))) (BS (Dm Dk) (BS (Dm Dk) (BS (Dm Dk) (BS (Dm Dk) (BS (Dm Dk) (BS (Dm Dk) Gj))))))) (EI (H2:=(hT 8 [(oC [(Cv (Db.off p0) (Db.cs p0))]),(oC [Sl.v 1 s14]),(oC [zI x3]),(oC [Sl.v 1 s15]),(oC [(.func (.func 65) ⟨[]⟩ ⟨[pt 1 0,(pt 2 0),(pt 3 0),(pt 4 0),(pt 5 0)]⟩)]),(oC [zI x2]),.dead])) (v:=(.tuple ⟨[]⟩)) (v':=(.tuple ⟨[]⟩)) [some 0,some 1,some 2,some 3,some 4,some 5] [(false,some 1),(false,some 2),(false,some 3),(false,some 4),(true,some 5)] [(oC [(Cv n3 q3)]),(oC [Sl.v 1 s11]),(oC [zI z7]),(oC [Sl.v 1 s12]),(oC [(.func (.func 65) ⟨[]⟩ ⟨[pt 1 0,(pt 2 0),(pt 3 0),(pt 4 0),(pt 5 0)]⟩)])] [(Sl.v 1 (Sl.mk ((Sl.n s13)+1) 0 (Aq (((Sl.n s13)+1)*1) (Am 0 (Br (Sl.cs s13) ([zI x2]:LV)))))),(zI (Aj .i64 (Int.add z5 (1:Int)))),pt 1 0,(pt 2 0),(pt 3 0),(pt 4 0),(pt 5 0)] [(.agg ⟨[(Cv (Db.off p0) (Db.cs p0))]⟩),(.agg ⟨[Sl.v 1 s14]⟩),(.agg ⟨[zI x3]⟩),(.agg ⟨[Sl.v 1 s15]⟩),(.agg ⟨[(.func (.func 65) ⟨[]⟩ ⟨[pt 1 0,(pt 2 0),(pt 3 0),(pt 4 0),(pt 5 0)]⟩)]⟩)] [(oC [(Cv (Db.off p0) (Db.cs p0))]),(oC [Sl.v 1 s14]),(oC [zI x3]),(oC [Sl.v 1 s15]),(oC [(.func (.func 65) ⟨[]⟩ ⟨[pt 1 0,(pt 2 0),(pt 3 0),(pt 4 0),(pt 5 0)]⟩)])] [some 0,some 1,some 2,some 3,some 4,some 5,none,none] [(false,(oC [(Cv (Db.off p0) (Db.cs p0))])),(false,(oC [Sl.v 1 s14])),(false,(oC [zI x3])),(false,(oC [Sl.v 1 s15])),(true,(oC [(.func (.func 65) ⟨[]⟩ ⟨[pt 1 0,(pt 2 0),(pt 3 0),(pt 4 0),(pt 5 0)]⟩)]))] [(oC [(Cv (Db.off p0) (Db.cs p0))]),(oC [Sl.v 1 s14]),(oC [zI x3]),(oC [Sl.v 1 s15]),(oC [(.func (.func 65) ⟨[]⟩ ⟨[pt 1 0,(pt 2 0),(pt 3 0),(pt 4 0),(pt 5 0)]⟩)])] (by kernel_rfl) (En (by kernel_rfl) (En (by kernel_rfl) (En (by kernel_rfl) (En (by kernel_rfl) (En (by kernel_rfl) BX))))) (Eq.trans (by kernel_rfl) h18) (En rfl (En rfl (En rfl (En rfl (En rfl BX))))) (En (by kernel_rfl) (En (by kernel_rfl) (En (by kernel_rfl) (En (by kernel_rfl) (En (by kernel_rfl) BX))))))) (eE))))) ?_
    refine .ghs (fr 88 [(0,Sl.v 1 s10),(1,zI z5),(6,(pt 5 0)),(11,.int .u16 z6)]) (hT 6 [(oC [(Cv (Db.off p0) (Db.cs p0))]),(oC [Sl.v 1 s14]),(oC [zI x3]),(oC [Sl.v 1 s15]),(oC [(.func (.func 65) ⟨[]⟩ ⟨[pt 1 0,(pt 2 0),(pt 3 0),(pt 4 0),(pt 5 0)]⟩)])]) (.k0 [false,false,false,false,false,true] [] [0,1,6,11]) ?_
    refine .rK ?_
    exact⟨(s10,z5,(Np .u16 z6 (Aj .u16 (Int.sub z6 (1:Int)))),(Db.off p0),(Db.cs p0),s14,x3,s15),hm,(.k0 [false,false,false,false,false,true] [] [0,1,6,11])⟩
   ·refine BB (nt (Bd z6 (0:Int))) h13 ?_
    refine .exit ?_
    refine .ghs (fr 88 []) (hT 6 [(oC [(Cv n3 q3)]),(oC [Sl.v 1 s11]),(oC [zI z7]),(oC [Sl.v 1 s12]),(oC [(.func (.func 65) ⟨[]⟩ ⟨[pt 1 0,(pt 2 0),(pt 3 0),(pt 4 0),(pt 5 0)]⟩)])]) (.k0 [false,false,false,false,false,true] [] []) ?_
    exact TU (.tuple ⟨[]⟩) [(oC [(Cv n3 q3)]),(oC [Sl.v 1 s11]),(oC [zI z7]),(oC [Sl.v 1 s12]),(oC [(.func (.func 65) ⟨[]⟩ ⟨[pt 1 0,(pt 2 0),(pt 3 0),(pt 4 0),(pt 5 0)]⟩)])] (by kernel_rfl) hm (Nat.le_of_ble_eq_true rfl) (Fa (VT _) (Fa (VT _) (Fa (VT _) (Fa (VT _) (Fa (VT _) EJ)))))
theorem Aa7 (pu:Af) (n:Nat) (s0:Sl) (z0:Int) (n0:Nat) (q0:LV) (s1:Sl) (z1:Int) (s2:Sl) {v:Value} (hm:Pb pu n s0 z0 n0 q0 s1 z1 s2=some v):BN tt (Bb tabs isP pu (inl pu)) 6 Po (fr 88 [(0,Sl.v 1 s0),(1,zI z0),(2,pt 1 0),(3,(pt 2 0)),(4,(pt 3 0)),(5,(pt 4 0)),(6,(pt 5 0))]) (hT 6 [(oC [(Cv n0 q0)]),(oC [Sl.v 1 s1]),(oC [zI z1]),(oC [Sl.v 1 s2]),(oC [(.func (.func 65) ⟨[]⟩ ⟨[pt 1 0,(pt 2 0),(pt 3 0),(pt 4 0),(pt 5 0)]⟩)])]) (FJ tt 1 5 [] v):=by
 unfold Pb at hm
 refine .join (v:=v) (fun y:Sl×Int×Nat×LV×Sl×Int×Sl=>((fr 88 [(0,(Sl.v 1 y.1)),(1,(zI y.2.1)),(2,pt 1 0),(3,(pt 2 0)),(4,(pt 3 0)),(5,(pt 4 0)),(6,(pt 5 0))]),(hT 6 [(oC [(Cv y.2.2.1 y.2.2.2.1)]),(oC [(Sl.v 1 y.2.2.2.2.1)]),(oC [(zI y.2.2.2.2.2.1)]),(oC [(Sl.v 1 y.2.2.2.2.2.2)]),(oC [(.func (.func 65) ⟨[]⟩ ⟨[pt 1 0,(pt 2 0),(pt 3 0),(pt 4 0),(pt 5 0)]⟩)])]))) (fun y=>FY pu n y.1 y.2.1 y.2.2.1 y.2.2.2.1 y.2.2.2.2.1 y.2.2.2.2.2.1 y.2.2.2.2.2.2) ?_ ?_
 ·rintro⟨s3,z2,n1,q1,s4,z3,s5⟩ hm
  exact gH pu n s3 z2 n1 q1 s4 z3 s5 hm
 ·refine .block (.loopM (v:=v) (fun y:Sl×Int×Nat×LV×Sl×Int×Sl=>((fr 88 [(0,(Sl.v 1 y.1)),(1,(zI y.2.1)),(2,pt 1 0),(3,(pt 2 0)),(4,(pt 3 0)),(5,(pt 4 0)),(6,(pt 5 0))]),(hT 6 [(oC [(Cv y.2.2.1 y.2.2.2.1)]),(oC [(Sl.v 1 y.2.2.2.2.1)]),(oC [(zI y.2.2.2.2.2.1)]),(oC [(Sl.v 1 y.2.2.2.2.2.2)]),(oC [(.func (.func 65) ⟨[]⟩ ⟨[pt 1 0,(pt 2 0),(pt 3 0),(pt 4 0),(pt 5 0)]⟩)])]))) (fun w y=>Gm pu n w y.1 y.2.1 y.2.2.1 y.2.2.2.1 y.2.2.2.2.1 y.2.2.2.2.2.1 y.2.2.2.2.2.2) n ⟨(s0,z0,n0,q0,s1,z1,s2),hm,(.k0 [false,false,false,false,false,true] [] [0,1,2,3,4,5,6])⟩ (fun _=>rfl) ?_)
  rintro w0 ⟨s6,z4,n2,q2,s7,z5,s8⟩ hm
  replace hm:HY pu n (Gm pu n w0) s6 z4 n2 q2 s7 z5 s8=some v:=hm
  unfold HY at hm
  refine .then (.then ?_)
  replace hm:=fE hm;obtain⟨s9,h0,hm⟩:=hm
  refine .reg (eC 5 (keep (hT 6 [(oC [(Cv n2 q2)]),(oC [Sl.v 1 s7]),(oC [zI z5]),(oC [Sl.v 1 s8]),(oC [(.func (.func 65) ⟨[]⟩ ⟨[pt 1 0,(pt 2 0),(pt 3 0),(pt 4 0),(pt 5 0)]⟩)])]) (AL q2 ((n2+0)+3))) (AZ h0) (eE)) ?_
  refine .ghs (fr 88 [(0,Sl.v 1 s6),(1,zI z4),(2,pt 1 0),(3,(pt 2 0)),(4,(pt 3 0)),(5,(pt 4 0)),(6,(pt 5 0)),(19,(zB (AY z4 (Int.ofNat (Sl.n s9)))))]) (hT 6 [(oC [(Cv n2 q2)]),(oC [Sl.v 1 s7]),(oC [zI z5]),(oC [Sl.v 1 s8]),(oC [(.func (.func 65) ⟨[]⟩ ⟨[pt 1 0,(pt 2 0),(pt 3 0),(pt 4 0),(pt 5 0)]⟩)])]) (.k0 [false,false,false,false,false,true] [] [0,1,2,3,4,5,6,19]) ?_
  replace hm:=Ag hm;rcases hm with⟨h1,hm⟩ | ⟨h1,hm⟩
  ·refine Bq (AY z4 (Int.ofNat (Sl.n s9))) h1 ?_
   refine .skip (.ghs (fr 88 [(0,Sl.v 1 s6),(1,zI z4),(2,pt 1 0),(3,(pt 2 0)),(4,(pt 3 0)),(5,(pt 4 0)),(6,(pt 5 0))]) (hT 6 [(oC [(Cv n2 q2)]),(oC [Sl.v 1 s7]),(oC [zI z5]),(oC [Sl.v 1 s8]),(oC [(.func (.func 65) ⟨[]⟩ ⟨[pt 1 0,(pt 2 0),(pt 3 0),(pt 4 0),(pt 5 0)]⟩)])]) (.k0 [false,false,false,false,false,true] [] [0,1,2,3,4,5,6]) ?_)
   refine .block (.then ?_)
   replace hm:=Gt hm;obtain⟨x0,h2,hm⟩:=hm
   refine .reg (eC 3 ((oo (pu 51 [(Cv n2 q2),Sl.v 1 s7,zI z4]) none fun v=>some (v,(hT 6 [(oC [(Cv n2 q2)]),(oC [Sl.v 1 s7]),(oC [zI z5]),(oC [Sl.v 1 s8]),(oC [(.func (.func 65) ⟨[]⟩ ⟨[pt 1 0,(pt 2 0),(pt 3 0),(pt 4 0),(pt 5 0)]⟩)])])))) (AB h2) (eE)) ?_
   refine .ghs (fr 88 [(0,Sl.v 1 s6),(1,zI z4),(2,pt 1 0),(3,(pt 2 0)),(4,(pt 3 0)),(5,(pt 4 0)),(6,(pt 5 0)),(9,(pt 6 0))]) (hT 7 [(oC [(Cv n2 q2)]),(oC [Sl.v 1 s7]),(oC [zI z5]),(oC [Sl.v 1 s8]),(oC [(.func (.func 65) ⟨[]⟩ ⟨[pt 1 0,(pt 2 0),(pt 3 0),(pt 4 0),(pt 5 0)]⟩)]),(oC [.int .u16 x0])]) (.k0 [false,false,false,false,false,true] [.tmp 9 false] [0,1,2,3,4,5,6,9]) ?_
   refine .then (.join (v:=v) (fun y:Sl×Int×Bool×Nat×LV×Sl×Int×Sl=>((fr 88 [(0,(Sl.v 1 y.1)),(1,(zI y.2.1)),(2,pt 1 0),(3,(pt 2 0)),(4,(pt 3 0)),(5,(pt 4 0)),(6,(pt 5 0)),(31,(zB y.2.2.1))]),(hT 6 [(oC [(Cv y.2.2.2.1 y.2.2.2.2.1)]),(oC [(Sl.v 1 y.2.2.2.2.2.1)]),(oC [(zI y.2.2.2.2.2.2.1)]),(oC [(Sl.v 1 y.2.2.2.2.2.2.2)]),(oC [(.func (.func 65) ⟨[]⟩ ⟨[pt 1 0,(pt 2 0),(pt 3 0),(pt 4 0),(pt 5 0)]⟩)])]))) (fun y=>Jw pu n (Gm pu n w0) y.1 y.2.1 y.2.2.1 y.2.2.2.1 y.2.2.2.2.1 y.2.2.2.2.2.1 y.2.2.2.2.2.2.1 y.2.2.2.2.2.2.2) ?_ ?_)
   ·rintro⟨s10,z6,b0,n3,q3,s11,z7,s12⟩ hm
    unfold Jw at hm
    replace hm:=Ag hm;rcases hm with⟨h3,hm⟩ | ⟨h3,hm⟩
    ·refine .ifT b0 (by kernel_rfl) h3 ?_
     refine .exit ?_
     exact⟨(s10,z6,n3,q3,s11,z7,s12),hm,(.k0 [false,false,false,false,false,true] [] [0,1,2,3,4,5,6])⟩
    ·refine .ifF b0 (by kernel_rfl) h3 ?_
     refine .skip (.ghs (fr 88 [(0,Sl.v 1 s10),(1,zI z6),(2,pt 1 0),(3,(pt 2 0)),(4,(pt 3 0)),(5,(pt 4 0)),(6,(pt 5 0))]) (hT 6 [(oC [(Cv n3 q3)]),(oC [Sl.v 1 s11]),(oC [zI z7]),(oC [Sl.v 1 s12]),(oC [(.func (.func 65) ⟨[]⟩ ⟨[pt 1 0,(pt 2 0),(pt 3 0),(pt 4 0),(pt 5 0)]⟩)])]) (.k0 [false,false,false,false,false,true] [] [0,1,2,3,4,5,6]) ?_)
     refine .rK ?_
     exact⟨(s10,(Aj .i64 (Int.add z6 (1:Int))),n3,q3,s11,z7,s12),hm,(.k0 [false,false,false,false,false,true] [] [0,1,2,3,4,5,6])⟩
   ·replace hm:=Ag hm;rcases hm with⟨h4,hm⟩ | ⟨h4,hm⟩
    ·replace hm:=Ab hm;obtain⟨v0,h5,hm⟩:=hm
     replace hm:=Ch hm;obtain⟨l0,rfl,hm⟩:=hm
     replace hm:=Ad hm;obtain⟨v1,l1312_0,rfl,hm⟩:=hm
     replace hm:=Ad hm;obtain⟨v2,l1312_1,rfl,hm⟩:=hm
     replace hm:=AC hm;obtain⟨rfl,hm⟩:=hm
     replace hm:=Be hm;obtain⟨b1,rfl,hm⟩:=hm
     replace hm:=BG hm;obtain⟨l1,rfl,hm⟩:=hm
     replace hm:=Ad hm;obtain⟨v3,l1318_0,rfl,hm⟩:=hm
     replace hm:=AC hm;obtain⟨rfl,hm⟩:=hm
     replace hm:=Ai hm;obtain⟨x1,rfl,hm⟩:=hm
     refine .reg (eC 1 (some ((zB (nt (Bd x0 (0:Int)))),(hT 7 [(oC [(Cv n2 q2)]),(oC [Sl.v 1 s7]),(oC [zI z5]),(oC [Sl.v 1 s8]),(oC [(.func (.func 65) ⟨[]⟩ ⟨[pt 1 0,(pt 2 0),(pt 3 0),(pt 4 0),(pt 5 0)]⟩)]),(oC [.int .u16 x0])]))) (show _=some ((zB true),_) from (by rw[show (nt (Bd x0 (0:Int)))=true from h4])) (eC 3 (EK tabs [[some 1],[none]] 2 [.cap 1 0 false] [false] (pu 10660) [Sl.v 1 s6,(.func (.func 67) ⟨[]⟩ ⟨[(pt 6 0)]⟩)] (hT 7 [(oC [(Cv n2 q2)]),(oC [Sl.v 1 s7]),(oC [zI z5]),(oC [Sl.v 1 s8]),(oC [(.func (.func 65) ⟨[]⟩ ⟨[pt 1 0,(pt 2 0),(pt 3 0),(pt 4 0),(pt 5 0)]⟩)]),(oC [.int .u16 x0])])) (EL (as:=[Sl.v 1 s6,(.func (.func 67) ⟨[]⟩ ⟨[(pt 6 0)]⟩)]) (H1:=(hT 7 [(oC [(Cv n2 q2)]),(oC [Sl.v 1 s7]),(oC [zI z5]),(oC [Sl.v 1 s8]),(oC [(.func (.func 65) ⟨[]⟩ ⟨[pt 1 0,(pt 2 0),(pt 3 0),(pt 4 0),(pt 5 0)]⟩)]),(oC [.int .u16 x0])])) (BS (Dm (KQ (CV (z:=1) (v:=(Sl.v 1 s6)) (H:=(hT 7 [(oC [(Cv n2 q2)]),(oC [Sl.v 1 s7]),(oC [zI z5]),(oC [Sl.v 1 s8]),(oC [(.func (.func 65) ⟨[]⟩ ⟨[pt 1 0,(pt 2 0),(pt 3 0),(pt 4 0),(pt 5 0)]⟩)]),(oC [.int .u16 x0])])) (by kernel_rfl) (by kernel_rfl) (by kernel_rfl)))) (BS (Dm Dk) Gj)) (EI (H2:=(hT 7 [(oC [(Cv n2 q2)]),(oC [Sl.v 1 s7]),(oC [zI z5]),(oC [Sl.v 1 s8]),(oC [(.func (.func 65) ⟨[]⟩ ⟨[pt 1 0,(pt 2 0),(pt 3 0),(pt 4 0),(pt 5 0)]⟩)]),(oC [.int .u16 x1])])) (v:=(zB b1)) (v':=(zB b1)) [some 0,some 6] [(false,some 6)] [(oC [.int .u16 x0])] [Sl.v 1 s6,(.func (.func 67) ⟨[]⟩ ⟨[pt 1 0]⟩)] [(.agg ⟨[.int .u16 x1]⟩)] [(oC [.int .u16 x1])] [some 0,none,none,none,none,none,some 1] [(false,(oC [.int .u16 x1]))] [(oC [.int .u16 x1])] (by kernel_rfl) (En (by kernel_rfl) BX) (Eq.trans (by kernel_rfl) h5) (En rfl BX) (En (by kernel_rfl) BX))) (eE))) ?_
     exact⟨(s6,z4,(nt b1),n2,q2,s7,z5,s8),hm,(.k0 [false,false,false,false,false,true] [] [0,1,2,3,4,5,6,31])⟩
    ·refine .reg (eC 1 (some ((zB (nt (Bd x0 (0:Int)))),(hT 7 [(oC [(Cv n2 q2)]),(oC [Sl.v 1 s7]),(oC [zI z5]),(oC [Sl.v 1 s8]),(oC [(.func (.func 65) ⟨[]⟩ ⟨[pt 1 0,(pt 2 0),(pt 3 0),(pt 4 0),(pt 5 0)]⟩)]),(oC [.int .u16 x0])]))) (show _=some ((zB false),_) from (by rw[show (nt (Bd x0 (0:Int)))=false from h4])) (eE)) ?_
     exact⟨(s6,z4,false,n2,q2,s7,z5,s8),hm,(.k0 [false,false,false,false,false,true] [] [0,1,2,3,4,5,6,31])⟩
  ·refine BB (AY z4 (Int.ofNat (Sl.n s9))) h1 ?_
   refine .exit ?_
   exact⟨(s6,z4,n2,q2,s7,z5,s8),hm,(.k0 [false,false,false,false,false,true] [] [0,1,2,3,4,5,6])⟩
theorem Aa8 {call:A8} (pu:Af) (n:Nat) (hcall:call=Bb tabs isP pu (inl pu)) {args:LV} {os:List AJ} {z:Value} (ha:args.length=7) (hk:os.length=5) (hpl:∀ o∈os,plainO o) (hm:MG pu n (args++os.map Ef)=some z):args.length≤88∧BN tt call (tabs.length+5) Po (Fr.made 88 args) (BK tabs os) (FJ tt tabs.length 5 [] z):=by
 subst hcall
 have hq:=BC ha;clear ha;obtain⟨a0,args,rfl,ha⟩:=hq
 have hq:=BC ha;clear ha;obtain⟨a1,args,rfl,ha⟩:=hq
 have hq:=BC ha;clear ha;obtain⟨a2,args,rfl,ha⟩:=hq
 have hq:=BC ha;clear ha;obtain⟨a3,args,rfl,ha⟩:=hq
 have hq:=BC ha;clear ha;obtain⟨a4,args,rfl,ha⟩:=hq
 have hq:=BC ha;clear ha;obtain⟨a5,args,rfl,ha⟩:=hq
 have hq:=BC ha;clear ha;obtain⟨a6,args,rfl,ha⟩:=hq
 obtain rfl:=len_nil ha
 have hq:=BC hk;clear hk;obtain⟨b0,os,rfl,hk⟩:=hq
 have hp0:plainO b0:=hpl b0 (by simp)
 have hq:=BC hk;clear hk;obtain⟨b1,os,rfl,hk⟩:=hq
 have hp1:plainO b1:=hpl b1 (by simp)
 have hq:=BC hk;clear hk;obtain⟨b2,os,rfl,hk⟩:=hq
 have hp2:plainO b2:=hpl b2 (by simp)
 have hq:=BC hk;clear hk;obtain⟨b3,os,rfl,hk⟩:=hq
 have hp3:plainO b3:=hpl b3 (by simp)
 have hq:=BC hk;clear hk;obtain⟨b4,os,rfl,hk⟩:=hq
 have hp4:plainO b4:=hpl b4 (by simp)
 obtain rfl:=len_nil hk
 replace hm:MG pu n [a0,a1,a2,a3,a4,a5,a6,Ef b0,Ef b1,Ef b2,Ef b3,Ef b4]=some z:=hm
 unfold MG at hm
 replace hm:(oo (Bj 1 a0) none fun s0=>(oo (Bi .i64 a1) none fun x0=>(bb (MK a2 1 0) (bb (MK a3 2 0) (bb (MK a4 3 0) (bb (MK a5 4 0) (bb (MK a6 5 0) (oo (Bt (Ef b0)) none fun l0=>(ll l0 none fun v0 l0=>(ll l0 (oo (Pv v0) none fun p0=>(oo (Bt (Ef b1)) none fun l1=>(ll l1 none fun v1 l1=>(ll l1 (oo (Bj 1 v1) none fun s1=>(oo (Bt (Ef b2)) none fun l2=>(ll l2 none fun v2 l2=>(ll l2 (oo (Bi .i64 v2) none fun x1=>(oo (Bt (Ef b3)) none fun l3=>(ll l3 none fun v3 l3=>(ll l3 (oo (Bj 1 v3) none fun s2=>(oo (Bt (Ef b4)) none fun l4=>(ll l4 none fun v4 l4=>(ll l4 (oo (Om 65 0 v4) none fun l5=>(ll l5 none fun v5 l5=>(ll l5 none fun v6 l5=>(ll l5 none fun v7 l5=>(ll l5 none fun v8 l5=>(ll l5 none fun v9 l5=>(ll l5 (bb (MK v5 1 0) (bb (MK v6 2 0) (bb (MK v7 3 0) (bb (MK v8 4 0) (bb (MK v9 5 0) (Pb pu n s0 x0 (Db.off p0) (Db.cs p0) s1 x1 s2) none) none) none) none) none) fun _ _=>none))))))) fun _ _=>none)))) fun _ _=>none)))) fun _ _=>none)))) fun _ _=>none)))) fun _ _=>none))) none) none) none) none) none)))=some z:=hm
 replace hm:=Al hm;obtain⟨s0,rfl,hm⟩:=hm
 replace hm:=Ai hm;obtain⟨x0,rfl,hm⟩:=hm
 replace hm:=Ae hm;obtain⟨h0,hm⟩:=hm
 obtain rfl:=KR h0
 replace hm:=Ae hm;obtain⟨h1,hm⟩:=hm
 obtain rfl:=KR h1
 replace hm:=Ae hm;obtain⟨h2,hm⟩:=hm
 obtain rfl:=KR h2
 replace hm:=Ae hm;obtain⟨h3,hm⟩:=hm
 obtain rfl:=KR h3
 replace hm:=Ae hm;obtain⟨h4,hm⟩:=hm
 obtain rfl:=KR h4
 replace hm:=Ab hm;obtain⟨l0,h5,hm⟩:=hm
 obtain rfl:=I7 hp0 h5
 replace hm:=Ad hm;obtain⟨v0,l1332_0,rfl,hm⟩:=hm
 replace hm:=AC hm;obtain⟨rfl,hm⟩:=hm
 replace hm:=Ab hm;obtain⟨p0,h6,hm⟩:=hm
 obtain rfl:=F7 h6
 replace hm:=Ab hm;obtain⟨l1,h7,hm⟩:=hm
 obtain rfl:=I7 hp1 h7
 replace hm:=Ad hm;obtain⟨v1,l1337_0,rfl,hm⟩:=hm
 replace hm:=AC hm;obtain⟨rfl,hm⟩:=hm
 replace hm:=Al hm;obtain⟨s1,rfl,hm⟩:=hm
 replace hm:=Ab hm;obtain⟨l2,h8,hm⟩:=hm
 obtain rfl:=I7 hp2 h8
 replace hm:=Ad hm;obtain⟨v2,l1342_0,rfl,hm⟩:=hm
 replace hm:=AC hm;obtain⟨rfl,hm⟩:=hm
 replace hm:=Ai hm;obtain⟨x1,rfl,hm⟩:=hm
 replace hm:=Ab hm;obtain⟨l3,h9,hm⟩:=hm
 obtain rfl:=I7 hp3 h9
 replace hm:=Ad hm;obtain⟨v3,l1347_0,rfl,hm⟩:=hm
 replace hm:=AC hm;obtain⟨rfl,hm⟩:=hm
 replace hm:=Al hm;obtain⟨s2,rfl,hm⟩:=hm
 replace hm:=Ab hm;obtain⟨l4,h10,hm⟩:=hm
 obtain rfl:=I7 hp4 h10
 replace hm:=Ad hm;obtain⟨v4,l1352_0,rfl,hm⟩:=hm
 replace hm:=AC hm;obtain⟨rfl,hm⟩:=hm
 replace hm:=Ab hm;obtain⟨l5,h11,hm⟩:=hm
 obtain rfl:=Hu h11
 replace hm:=Ad hm;obtain⟨v5,l1355_0,rfl,hm⟩:=hm
 replace hm:=Ad hm;obtain⟨v6,l1355_1,rfl,hm⟩:=hm
 replace hm:=Ad hm;obtain⟨v7,l1355_2,rfl,hm⟩:=hm
 replace hm:=Ad hm;obtain⟨v8,l1355_3,rfl,hm⟩:=hm
 replace hm:=Ad hm;obtain⟨v9,l1355_4,rfl,hm⟩:=hm
 replace hm:=AC hm;obtain⟨rfl,hm⟩:=hm
 replace hm:=Ae hm;obtain⟨h12,hm⟩:=hm
 obtain rfl:=KR h12
 replace hm:=Ae hm;obtain⟨h13,hm⟩:=hm
 obtain rfl:=KR h13
 replace hm:=Ae hm;obtain⟨h14,hm⟩:=hm
 obtain rfl:=KR h14
 replace hm:=Ae hm;obtain⟨h15,hm⟩:=hm
 obtain rfl:=KR h15
 replace hm:=Ae hm;obtain⟨h16,hm⟩:=hm
 obtain rfl:=KR h16
 refine⟨by simp,?_⟩
 exact .same (F':=(fr 88 [(0,Sl.v 1 s0),(1,zI x0),(2,pt 1 0),(3,(pt 2 0)),(4,(pt 3 0)),(5,(pt 4 0)),(6,(pt 5 0))])) (H':=(hT 6 [(oC [(Cv (Db.off p0) (Db.cs p0))]),(oC [Sl.v 1 s1]),(oC [zI x1]),(oC [Sl.v 1 s2]),(oC [(.func (.func 65) ⟨[]⟩ ⟨[pt 1 0,(pt 2 0),(pt 3 0),(pt 4 0),(pt 5 0)]⟩)])])) (by kernel_rfl) (by kernel_rfl) (Aa7 pu n s0 x0 (Db.off p0) (Db.cs p0) s1 x1 s2 hm)
end
end Go.BkVM
