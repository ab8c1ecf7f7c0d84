/- Made from wip. -/
import Derived.Test.YtciohfkjabeooaaGreatDoorBaAMod1x

set_option maxRecDepth 100000
set_option maxHeartbeats 20000000
set_option linter.unusedVariables false
namespace Go.BaAM
open Go.Sp Go.BaA
noncomputable section
def XO (pu:Af) (n:Nat):OV:=
 (some (.bool false))
def PK (pu:Af) (n:Nat) (ih0:Sl→Sl→Int→OV) (s0 s1:Sl) (z0:Int):OV:=
 (bb (AY z0 (Int.ofNat (Sl.n s0))) (oo (EA z0) none fun k1=>(bb (an (Nat.blt k1 (Sl.n s0)) true) (oo (AL (Sl.cs s0) (k1*1)) none fun v0=>(oo (Bi .i64 v0) none fun x0=>(bb (an (Nat.blt k1 (Sl.n s1)) true) (oo (AL (Sl.cs s1) (k1*1)) none fun v1=>(oo (Bi .i64 v1) none fun x1=>(bb (nt (Bd x0 x1)) (bb (an (Nat.blt k1 (Sl.n s0)) true) (oo (AL (Sl.cs s0) (k1*1)) none fun v2=>(oo (Bi .i64 v2) none fun x2=>(bb (an (Nat.blt k1 (Sl.n s1)) true) (oo (AL (Sl.cs s1) (k1*1)) none fun v3=>(oo (Bi .i64 v3) none fun x3=>(some (.bool (AY x2 x3))))) none))) none) (ih0 s0 s1 (Aj .i64 (Int.add (Int.ofNat k1) (1:Int))))))) none))) none)) (XO pu n))
def RQ (pu:Af) (n w:Nat):Sl→Sl→Int→OV:=
 Nat.rec (motive:=fun _=>Sl→Sl→Int→OV) (fun _ _ _=>none) (fun _ ih0=>PK pu n ih0) w
def AdB (pu:Af) (n:Nat) (s0 s1:Sl):OV:=
 (RQ pu n n s0 s1 (0:Int))
def m58 (pu:Af) (n:Nat) (args:LV):OV:=
 (ll args none fun a0 args=>(ll args none fun a1 args=>(ll args (oo (Bj 1 a0) none fun s0=>(oo (Bj 1 a1) none fun s1=>(AdB pu n s0 s1))) fun _ _=>none)))
theorem AdD (pu:Af) (n:Nat) {v:Value} (hm:XO pu n=some v):BN tt (Bb tabs isP pu (inl pu)) 1 ZQ (fr 30 []) AO (Fin tt 1 [.tmp 4] v):=by
 unfold XO at hm
 refine .then (.rK (.ghs (fr 30 [(4,zB false)]) AO (.k0 [false] [] [4]) ?_))
 refine .ret ?_
 exact Ay (zB false) hm
theorem r58 {call:A8} (pu:Af) (n:Nat) (hcall:call=Bb tabs isP pu (inl pu)) {args:LV} {v:Value} (hm:m58 pu n args=some v) (_:∀ x∈args,closed2 x=true):args.length≤30∧BN tt call 1 SF (Fr.made 30 args) (Ao tabs) (Fin tt 1 [.tmp 4] v):=by
 subst hcall
 unfold m58 at hm
 replace hm:=Ad hm;obtain⟨a0,args_0,rfl,hm⟩:=hm
 replace hm:=Ad hm;obtain⟨a1,args_1,rfl,hm⟩:=hm
 replace hm:=AC hm;obtain⟨rfl,hm⟩:=hm
 replace hm:=Al hm;obtain⟨s0,rfl,hm⟩:=hm
 replace hm:=Al hm;obtain⟨s1,rfl,hm⟩:=hm
 unfold AdB at hm
 refine⟨by simp,?_⟩
 refine .same (F':=(fr 30 [(0,Sl.v 1 s0),(1,Sl.v 1 s1)])) (H':=AO) (by kernel_rfl) (by kernel_rfl) ?_
 refine .then (.rK (.ghs (fr 30 [(0,Sl.v 1 s0),(1,Sl.v 1 s1)]) AO (.k0 [false] [] [0,1]) ?_))
 refine .join (v:=v) (fun y:Unit=>((fr 30 []),AO)) (fun y=>XO pu n) ?_ ?_
 ·rintro _ hm
  exact AdD pu n hm
 ·refine .then (.rK (.ghs (fr 30 [(0,Sl.v 1 s0),(1,Sl.v 1 s1),(5,(zI (0:Int)))]) AO (.k0 [false] [] [0,1,5]) ?_))
  refine .block (.loopM (v:=v) (fun y:Sl×Sl×Int=>((fr 30 [(0,(Sl.v 1 y.1)),(1,(Sl.v 1 y.2.1)),(5,(zI y.2.2))]),AO)) (fun w y=>RQ pu n w y.1 y.2.1 y.2.2) n ⟨(s0,s1,(0:Int)),hm,(.k0 [false] [] [0,1,5])⟩ (fun _=>rfl) ?_)
  rintro w0 ⟨s2,s3,z0⟩ hm
  replace hm:PK pu n (RQ pu n w0) s2 s3 z0=some v:=hm
  unfold PK at hm
  refine .then (.then (.rK (.ghs (fr 30 [(0,Sl.v 1 s2),(1,Sl.v 1 s3),(5,zI z0),(9,(zB (AY z0 (Int.ofNat (Sl.n s2)))))]) AO (.k0 [false] [] [0,1,5,9]) ?_)))
  replace hm:=Ag hm;rcases hm with⟨h0,hm⟩ | ⟨h0,hm⟩
  ·refine C8 (AY z0 (Int.ofNat (Sl.n s2))) h0 ?_
   refine .skip (.ghs (fr 30 [(0,Sl.v 1 s2),(1,Sl.v 1 s3),(5,zI z0)]) AO (.k0 [false] [] [0,1,5]) ?_)
   refine .then (.block (.then ?_))
   replace hm:=Ab hm;obtain⟨k1,h1,hm⟩:=hm
   obtain rfl:=AR h1
   replace hm:=Ae hm;obtain⟨h2,hm⟩:=hm
   replace hm:=Kc hm;obtain⟨x0,h3,hm⟩:=hm
   replace hm:=Ae hm;obtain⟨h4,hm⟩:=hm
   replace hm:=Kc hm;obtain⟨x1,h5,hm⟩:=hm
   refine .reg (eC 2 (keep AO (bb (an (Nat.blt k1 (Sl.n s2)) true) (some (Cv (k1*1) (Sl.cs s2))) none)) (AX h2) (eD (keep AO (AL (Sl.cs s2) (k1*1))) (AZ h3) (eC 2 (keep AO (bb (an (Nat.blt k1 (Sl.n s3)) true) (some (Cv (k1*1) (Sl.cs s3))) none)) (AX h4) (eD (keep AO (AL (Sl.cs s3) (k1*1))) (AZ h5) (eE))))) ?_
   refine .ghs (fr 30 [(0,Sl.v 1 s2),(1,Sl.v 1 s3),(5,(zI (Int.ofNat k1))),(20,(zB (nt (Bd x0 x1))))]) AO (.k0 [false] [] [0,1,5,20]) ?_
   replace hm:=Ag hm;rcases hm with⟨h6,hm⟩ | ⟨h6,hm⟩
   ·refine C8 (nt (Bd x0 x1)) h6 ?_
    refine .then ?_
    replace hm:=Ae hm;obtain⟨h7,hm⟩:=hm
    replace hm:=Kc hm;obtain⟨x2,h8,hm⟩:=hm
    replace hm:=Ae hm;obtain⟨h9,hm⟩:=hm
    replace hm:=Kc hm;obtain⟨x3,h10,hm⟩:=hm
    refine .reg (eC 2 (keep AO (bb (an (Nat.blt k1 (Sl.n s2)) true) (some (Cv (k1*1) (Sl.cs s2))) none)) (AX h7) (eD (keep AO (AL (Sl.cs s2) (k1*1))) (AZ h8) (eC 2 (keep AO (bb (an (Nat.blt k1 (Sl.n s3)) true) (some (Cv (k1*1) (Sl.cs s3))) none)) (AX h9) (eD (keep AO (AL (Sl.cs s3) (k1*1))) (AZ h10) (eE))))) ?_
    refine .ghs (fr 30 [(4,(zB (AY x2 x3)))]) AO (.k0 [false] [] [4]) ?_
    refine .ret ?_
    exact Ay (zB (AY x2 x3)) hm
   ·refine Dn (nt (Bd x0 x1)) h6 ?_
    refine .skip (.ghs (fr 30 [(0,Sl.v 1 s2),(1,Sl.v 1 s3),(5,(zI (Int.ofNat k1)))]) AO (.k0 [false] [] [0,1,5]) ?_)
    refine .rK ?_
    exact⟨(s2,s3,(Aj .i64 (Int.add (Int.ofNat k1) (1:Int)))),hm,(.k0 [false] [] [0,1,5])⟩
  ·refine Dn (AY z0 (Int.ofNat (Sl.n s2))) h0 ?_
   refine .exit ?_
   exact⟨(),hm,(.k0 [false] [] [])⟩

def AdE (pu:Af) (n:Nat) (x0:Int):OV:=
 (some (.bool (nt (Bd x0 x0))))
def m71 (pu:Af) (n:Nat) (args:LV):OV:=
 (ll args none fun a0 args=>(ll args (oo (Bi .i64 a0) none fun x0=>(AdE pu n x0)) fun _ _=>none))
theorem r71 {call:A8} (pu:Af) (n:Nat) (hcall:call=Bb tabs isP pu (inl pu)) {args:LV} {v:Value} (hm:m71 pu n args=some v) (_:∀ x∈args,closed2 x=true):args.length≤6∧BN tt call 1 WX (Fr.made 6 args) (Ao tabs) (Fin tt 1 [.tmp 2] v):=by
 subst hcall
 unfold m71 at hm
 replace hm:=Ad hm;obtain⟨a0,args_0,rfl,hm⟩:=hm
 replace hm:=AC hm;obtain⟨rfl,hm⟩:=hm
 replace hm:=Ai hm;obtain⟨x0,rfl,hm⟩:=hm
 unfold AdE at hm
 refine⟨by simp,?_⟩
 refine .same (F':=(fr 6 [(0,zI x0)])) (H':=AO) (by kernel_rfl) (by kernel_rfl) ?_
 refine .then (.rK (.ghs (fr 6 [(0,zI x0)]) AO (.k0 [false] [] [0]) ?_))
 refine .then (.rK (.ghs (fr 6 [(2,(zB (nt (Bd x0 x0))))]) AO (.k0 [false] [] [2]) ?_))
 refine .ret ?_
 exact Ay (zB (nt (Bd x0 x0))) hm

def AdG (pu:Af) (n:Nat) (x0 x1 x2:Int) (s0:Sl) (x3 x4:Int):OV:=
 (bb (nt (Bd x1 (0:Int))) (bb (nt (Bd x1 (0:Int))) (oo (pu 80 [.int .i64 x0,.int .i64 x1,.int .i64 x3,(.int .i64 (Aj .i64 (Int.tdiv x4 x1))),(.int .i64 (Int.tmod x4 x1))]) none fun v0=>(oo (CQ v0) none fun l0=>(ll l0 none fun v1 l0=>(ll l0 none fun v2 l0=>(ll l0 (oo (Bi .i64 v1) none fun x5=>(oo (Bi .i64 v2) none fun x6=>(some (.int .i64 (Aj .i64 (Int.add (Aj .i64 (Int.mul x5 x1)) x6)))))) fun _ _=>none))))) none) none)
def m72 (pu:Af) (n:Nat) (args:LV):OV:=
 (ll args none fun a0 args=>(ll args none fun a1 args=>(ll args none fun a2 args=>(ll args (oo (Bt a0) none fun l0=>(ll l0 none fun v0 l0=>(ll l0 none fun v1 l0=>(ll l0 none fun v2 l0=>(ll l0 none fun v3 l0=>(ll l0 (oo (Bi .i64 v0) none fun x0=>(oo (Bi .i64 v1) none fun x1=>(oo (Bi .i64 v2) none fun x2=>(oo (Bj 1 v3) none fun s0=>(oo (Bi .i64 a1) none fun x3=>(oo (Bi .i64 a2) none fun x4=>(AdG pu n x0 x1 x2 s0 x3 x4))))))) fun _ _=>none)))))) fun _ _=>none))))
theorem r72 {call:A8} (pu:Af) (n:Nat) (hcall:call=Bb tabs isP pu (inl pu)) {args:LV} {v:Value} (hm:m72 pu n args=some v) (_:∀ x∈args,closed2 x=true):args.length≤32∧BN tt call 1 WY (Fr.made 32 args) (Ao tabs) (Fin tt 1 [.tmp 6] v):=by
 subst hcall
 unfold m72 at hm
 replace hm:=Ad hm;obtain⟨a0,args_0,rfl,hm⟩:=hm
 replace hm:=Ad hm;obtain⟨a1,args_1,rfl,hm⟩:=hm
 replace hm:=Ad hm;obtain⟨a2,args_2,rfl,hm⟩:=hm
 replace hm:=AC hm;obtain⟨rfl,hm⟩:=hm
 replace hm:=BG hm;obtain⟨l0,rfl,hm⟩:=hm
 replace hm:=Ad hm;obtain⟨v0,l7637_0,rfl,hm⟩:=hm
 replace hm:=Ad hm;obtain⟨v1,l7637_1,rfl,hm⟩:=hm
 replace hm:=Ad hm;obtain⟨v2,l7637_2,rfl,hm⟩:=hm
 replace hm:=Ad hm;obtain⟨v3,l7637_3,rfl,hm⟩:=hm
 replace hm:=AC hm;obtain⟨rfl,hm⟩:=hm
 replace hm:=Ai hm;obtain⟨x0,rfl,hm⟩:=hm
 replace hm:=Ai hm;obtain⟨x1,rfl,hm⟩:=hm
 replace hm:=Ai hm;obtain⟨x2,rfl,hm⟩:=hm
 replace hm:=Al hm;obtain⟨s0,rfl,hm⟩:=hm
 replace hm:=Ai hm;obtain⟨x3,rfl,hm⟩:=hm
 replace hm:=Ai hm;obtain⟨x4,rfl,hm⟩:=hm
 unfold AdG at hm
 refine⟨by simp,?_⟩
 refine .same (F':=(fr 32 [(0,(.agg ⟨[zI x0,zI x1,zI x2,Sl.v 1 s0]⟩)),(1,zI x3),(2,zI x4)])) (H':=AO) (by kernel_rfl) (by kernel_rfl) ?_
 refine .then (.rK (.ghs (fr 32 [(1,zI x3),(2,zI x4),(3,pt 1 0)]) (hT 2 [(oC [zI x0,zI x1,zI x2,Sl.v 1 s0])]) (.k0 [false] [.tmp 3 false] [1,2,3]) ?_))
 refine .then ?_
 replace hm:=Ae hm;obtain⟨h0,hm⟩:=hm
 replace hm:=Ae hm;obtain⟨h1,hm⟩:=hm
 replace hm:=Ab hm;obtain⟨v4,h2,hm⟩:=hm
 replace hm:=Ch hm;obtain⟨l1,rfl,hm⟩:=hm
 replace hm:=Ad hm;obtain⟨v5,l7671_0,rfl,hm⟩:=hm
 replace hm:=Ad hm;obtain⟨v6,l7671_1,rfl,hm⟩:=hm
 replace hm:=AC hm;obtain⟨rfl,hm⟩:=hm
 replace hm:=Ai hm;obtain⟨x5,rfl,hm⟩:=hm
 replace hm:=Ai hm;obtain⟨x6,rfl,hm⟩:=hm
 refine .reg (eC 8 (keep (hT 2 [(oC [zI x0,zI x1,zI x2,Sl.v 1 s0])]) (bb (Bd x1 (0:Int)) none (some (zI (Aj .i64 (Int.tdiv x4 x1)))))) (XH h0) (eC 3 (keep (hT 2 [(oC [zI x0,zI x1,zI x2,Sl.v 1 s0])]) (bb (Bd x1 (0:Int)) none (some (zI (Int.tmod x4 x1))))) (XH h1) (eD ((oo (pu 80 [zI x0,zI x1,zI x3,(zI (Aj .i64 (Int.tdiv x4 x1))),(zI (Int.tmod x4 x1))]) none fun v=>some (v,(hT 2 [(oC [zI x0,zI x1,zI x2,Sl.v 1 s0])])))) (AB h2) (eE)))) ?_
 refine .ghs (fr 32 [(3,pt 1 0),(7,zI x5),(8,zI x6)]) (hT 2 [(oC [zI x0,zI x1,zI x2,Sl.v 1 s0])]) (.k0 [false] [.tmp 3 false] [3,7,8]) ?_
 refine .then (.rK (.ghs (fr 32 [(6,(zI (Aj .i64 (Int.add (Aj .i64 (Int.mul x5 x1)) x6))))]) AO (.k0 [false] [] [6]) ?_))
 refine .ret ?_
 exact Ay (zI (Aj .i64 (Int.add (Aj .i64 (Int.mul x5 x1)) x6))) hm

def AdH (pu:Af) (n:Nat) (x0 x1 x2 x3 x4:Int):OV:=
 (bb (Bd x2 (1:Int)) (some (.tuple ⟨[(.int .i64 (Aj .i64 (Int.sub (Aj .i64 (Int.sub x0 (1:Int))) x4))),.int .i64 x3]⟩)) (bb (Bd x2 (2:Int)) (some (.tuple ⟨[(.int .i64 (Aj .i64 (Int.sub (Aj .i64 (Int.sub x0 (1:Int))) x3))),(.int .i64 (Aj .i64 (Int.sub (Aj .i64 (Int.sub x1 (1:Int))) x4)))]⟩)) (bb (Bd x2 (3:Int)) (some (.tuple ⟨[.int .i64 x4,(.int .i64 (Aj .i64 (Int.sub (Aj .i64 (Int.sub x1 (1:Int))) x3)))]⟩)) (bb (Bd x2 (4:Int)) (some (.tuple ⟨[.int .i64 x3,(.int .i64 (Aj .i64 (Int.sub (Aj .i64 (Int.sub x1 (1:Int))) x4)))]⟩)) (bb (Bd x2 (5:Int)) (some (.tuple ⟨[(.int .i64 (Aj .i64 (Int.sub (Aj .i64 (Int.sub x0 (1:Int))) x3))),.int .i64 x4]⟩)) (bb (Bd x2 (6:Int)) (some (.tuple ⟨[.int .i64 x4,.int .i64 x3]⟩)) (bb (Bd x2 (7:Int)) (some (.tuple ⟨[(.int .i64 (Aj .i64 (Int.sub (Aj .i64 (Int.sub x0 (1:Int))) x4))),(.int .i64 (Aj .i64 (Int.sub (Aj .i64 (Int.sub x1 (1:Int))) x3)))]⟩)) (some (.tuple ⟨[.int .i64 x3,.int .i64 x4]⟩)))))))))
def m80 (pu:Af) (n:Nat) (args:LV):OV:=
 (ll args none fun a0 args=>(ll args none fun a1 args=>(ll args none fun a2 args=>(ll args none fun a3 args=>(ll args none fun a4 args=>(ll args (oo (Bi .i64 a0) none fun x0=>(oo (Bi .i64 a1) none fun x1=>(oo (Bi .i64 a2) none fun x2=>(oo (Bi .i64 a3) none fun x3=>(oo (Bi .i64 a4) none fun x4=>(AdH pu n x0 x1 x2 x3 x4)))))) fun _ _=>none))))))
theorem r80 {call:A8} (pu:Af) (n:Nat) (hcall:call=Bb tabs isP pu (inl pu)) {args:LV} {v:Value} (hm:m80 pu n args=some v) (_:∀ x∈args,closed2 x=true):args.length≤67∧BN tt call 1 SG (Fr.made 67 args) (Ao tabs) (Fin tt 1 [.tmp 10,.tmp 11] v):=by
 subst hcall
 unfold m80 at hm
 replace hm:=Ad hm;obtain⟨a0,args_0,rfl,hm⟩:=hm
 replace hm:=Ad hm;obtain⟨a1,args_1,rfl,hm⟩:=hm
 replace hm:=Ad hm;obtain⟨a2,args_2,rfl,hm⟩:=hm
 replace hm:=Ad hm;obtain⟨a3,args_3,rfl,hm⟩:=hm
 replace hm:=Ad hm;obtain⟨a4,args_4,rfl,hm⟩:=hm
 replace hm:=AC hm;obtain⟨rfl,hm⟩:=hm
 replace hm:=Ai hm;obtain⟨x0,rfl,hm⟩:=hm
 replace hm:=Ai hm;obtain⟨x1,rfl,hm⟩:=hm
 replace hm:=Ai hm;obtain⟨x2,rfl,hm⟩:=hm
 replace hm:=Ai hm;obtain⟨x3,rfl,hm⟩:=hm
 replace hm:=Ai hm;obtain⟨x4,rfl,hm⟩:=hm
 unfold AdH at hm
 refine⟨by simp,?_⟩
 refine .same (F':=(fr 67 [(0,zI x0),(1,zI x1),(2,zI x2),(3,zI x3),(4,zI x4)])) (H':=AO) (by kernel_rfl) (by kernel_rfl) ?_
 refine .then (.rK (.ghs (fr 67 [(0,zI x0),(1,zI x1),(2,zI x2),(3,zI x3),(4,zI x4)]) AO (.k0 [false] [] [0,1,2,3,4]) ?_))
 refine .then (.then (.rK (.ghs (fr 67 [(0,zI x0),(1,zI x1),(3,zI x3),(4,zI x4),(12,zI x2)]) AO (.k0 [false] [] [0,1,3,4,12]) ?_)))
 refine .block (.then (.rK (.ghs (fr 67 [(0,zI x0),(1,zI x1),(3,zI x3),(4,zI x4),(12,zI x2),(13,(zB (Bd x2 (1:Int))))]) AO (.k0 [false] [] [0,1,3,4,12,13]) ?_)))
 replace hm:=Ag hm;rcases hm with⟨h0,hm⟩ | ⟨h0,hm⟩
 ·refine C8 (Bd x2 (1:Int)) h0 ?_
  refine .then (.rK (.ghs (fr 67 [(10,(zI (Aj .i64 (Int.sub (Aj .i64 (Int.sub x0 (1:Int))) x4)))),(11,zI x3)]) AO (.k0 [false] [] [10,11]) ?_))
  refine .ret ?_
  exact Ay (.tuple ⟨[(zI (Aj .i64 (Int.sub (Aj .i64 (Int.sub x0 (1:Int))) x4))),zI x3]⟩) hm
 ·refine Dn (Bd x2 (1:Int)) h0 ?_
  refine .then (.rK (.ghs (fr 67 [(0,zI x0),(1,zI x1),(3,zI x3),(4,zI x4),(12,zI x2),(20,(zB (Bd x2 (2:Int))))]) AO (.k0 [false] [] [0,1,3,4,12,20]) ?_))
  replace hm:=Ag hm;rcases hm with⟨h1,hm⟩ | ⟨h1,hm⟩
  ·refine C8 (Bd x2 (2:Int)) h1 ?_
   refine .then (.rK (.ghs (fr 67 [(10,(zI (Aj .i64 (Int.sub (Aj .i64 (Int.sub x0 (1:Int))) x3)))),(11,(zI (Aj .i64 (Int.sub (Aj .i64 (Int.sub x1 (1:Int))) x4))))]) AO (.k0 [false] [] [10,11]) ?_))
   refine .ret ?_
   exact Ay (.tuple ⟨[(zI (Aj .i64 (Int.sub (Aj .i64 (Int.sub x0 (1:Int))) x3))),(zI (Aj .i64 (Int.sub (Aj .i64 (Int.sub x1 (1:Int))) x4)))]⟩) hm
  ·refine Dn (Bd x2 (2:Int)) h1 ?_
   refine .then (.rK (.ghs (fr 67 [(0,zI x0),(1,zI x1),(3,zI x3),(4,zI x4),(12,zI x2),(30,(zB (Bd x2 (3:Int))))]) AO (.k0 [false] [] [0,1,3,4,12,30]) ?_))
   replace hm:=Ag hm;rcases hm with⟨h2,hm⟩ | ⟨h2,hm⟩
   ·refine C8 (Bd x2 (3:Int)) h2 ?_
    refine .then (.rK (.ghs (fr 67 [(10,zI x4),(11,(zI (Aj .i64 (Int.sub (Aj .i64 (Int.sub x1 (1:Int))) x3))))]) AO (.k0 [false] [] [10,11]) ?_))
    refine .ret ?_
    exact Ay (.tuple ⟨[zI x4,(zI (Aj .i64 (Int.sub (Aj .i64 (Int.sub x1 (1:Int))) x3)))]⟩) hm
   ·refine Dn (Bd x2 (3:Int)) h2 ?_
    refine .then (.rK (.ghs (fr 67 [(0,zI x0),(1,zI x1),(3,zI x3),(4,zI x4),(12,zI x2),(37,(zB (Bd x2 (4:Int))))]) AO (.k0 [false] [] [0,1,3,4,12,37]) ?_))
    replace hm:=Ag hm;rcases hm with⟨h3,hm⟩ | ⟨h3,hm⟩
    ·refine C8 (Bd x2 (4:Int)) h3 ?_
     refine .then (.rK (.ghs (fr 67 [(10,zI x3),(11,(zI (Aj .i64 (Int.sub (Aj .i64 (Int.sub x1 (1:Int))) x4))))]) AO (.k0 [false] [] [10,11]) ?_))
     refine .ret ?_
     exact Ay (.tuple ⟨[zI x3,(zI (Aj .i64 (Int.sub (Aj .i64 (Int.sub x1 (1:Int))) x4)))]⟩) hm
    ·refine Dn (Bd x2 (4:Int)) h3 ?_
     refine .then (.rK (.ghs (fr 67 [(0,zI x0),(1,zI x1),(3,zI x3),(4,zI x4),(12,zI x2),(44,(zB (Bd x2 (5:Int))))]) AO (.k0 [false] [] [0,1,3,4,12,44]) ?_))
     replace hm:=Ag hm;rcases hm with⟨h4,hm⟩ | ⟨h4,hm⟩
     ·refine C8 (Bd x2 (5:Int)) h4 ?_
      refine .then (.rK (.ghs (fr 67 [(10,(zI (Aj .i64 (Int.sub (Aj .i64 (Int.sub x0 (1:Int))) x3)))),(11,zI x4)]) AO (.k0 [false] [] [10,11]) ?_))
      refine .ret ?_
      exact Ay (.tuple ⟨[(zI (Aj .i64 (Int.sub (Aj .i64 (Int.sub x0 (1:Int))) x3))),zI x4]⟩) hm
     ·refine Dn (Bd x2 (5:Int)) h4 ?_
      refine .then (.rK (.ghs (fr 67 [(0,zI x0),(1,zI x1),(3,zI x3),(4,zI x4),(12,zI x2),(51,(zB (Bd x2 (6:Int))))]) AO (.k0 [false] [] [0,1,3,4,12,51]) ?_))
      replace hm:=Ag hm;rcases hm with⟨h5,hm⟩ | ⟨h5,hm⟩
      ·refine C8 (Bd x2 (6:Int)) h5 ?_
       refine .then (.rK (.ghs (fr 67 [(10,zI x4),(11,zI x3)]) AO (.k0 [false] [] [10,11]) ?_))
       refine .ret ?_
       exact Ay (.tuple ⟨[zI x4,zI x3]⟩) hm
      ·refine Dn (Bd x2 (6:Int)) h5 ?_
       refine .then (.rK (.ghs (fr 67 [(0,zI x0),(1,zI x1),(3,zI x3),(4,zI x4),(55,(zB (Bd x2 (7:Int))))]) AO (.k0 [false] [] [0,1,3,4,55]) ?_))
       replace hm:=Ag hm;rcases hm with⟨h6,hm⟩ | ⟨h6,hm⟩
       ·refine C8 (Bd x2 (7:Int)) h6 ?_
        refine .then (.rK (.ghs (fr 67 [(10,(zI (Aj .i64 (Int.sub (Aj .i64 (Int.sub x0 (1:Int))) x4)))),(11,(zI (Aj .i64 (Int.sub (Aj .i64 (Int.sub x1 (1:Int))) x3))))]) AO (.k0 [false] [] [10,11]) ?_))
        refine .ret ?_
        exact Ay (.tuple ⟨[(zI (Aj .i64 (Int.sub (Aj .i64 (Int.sub x0 (1:Int))) x4))),(zI (Aj .i64 (Int.sub (Aj .i64 (Int.sub x1 (1:Int))) x3)))]⟩) hm
       ·refine Dn (Bd x2 (7:Int)) h6 ?_
        refine .skip (.ghs (fr 67 [(3,zI x3),(4,zI x4)]) AO (.k0 [false] [] [3,4]) ?_)
        refine .then (.rK (.ghs (fr 67 [(10,zI x3),(11,zI x4)]) AO (.k0 [false] [] [10,11]) ?_))
        refine .ret ?_
        exact Ay (.tuple ⟨[zI x3,zI x4]⟩) hm
def Kg (pu:Af) (n:Nat) (iG:Bool):OV:=
 (some (.tuple ⟨[(.bool iG)]⟩))
def Pe (pu:Af) (n:Nat) (z15 z16 z17:Int) (s18 s19 s20:Sl):OV:=
 (bb (AY (30:Int) (Int.ofNat (Sl.n s18))) (Kg pu n true) (bb (AY (60:Int) (Int.ofNat (Sl.n s19))) (Kg pu n true) (Kg pu n (AY (60:Int) (Int.ofNat (Sl.n s20))))))
def OL (pu:Af) (n:Nat) (args:LV):OV:=
 (ll args none fun a0 args=>(ll args none fun a1 args=>(ll args none fun a2 args=>(ll args (oo (Bt a0) none fun l35=>(ll l35 none fun v37 l35=>(ll l35 none fun v38 l35=>(ll l35 none fun v39 l35=>(ll l35 none fun v40 l35=>(ll l35 (oo (Bi .i64 v37) none fun x41=>(oo (Bi .i64 v38) none fun x43=>(oo (Bi .i64 v39) none fun x45=>(oo (Bj 1 v40) none fun s47=>(oo (Bj 1 a1) none fun s49=>(oo (Bj 1 a2) none fun s51=>(Pe pu n x41 x43 x45 s47 s49 s51))))))) fun _ _=>none)))))) fun _ _=>none))))
theorem dS (pu:Af) (n:Nat) (iG:Bool) {v:Value} (hm:Kg pu n iG=some v):BN tt (Bb tabs isP pu (inl pu)) 1 .ret (fr 21 [(6,zB iG)]) AO (FJ tt 1 0 [.tmp 6] v):=by
 unfold Kg at hm
 refine .ghs (fr 21 [(6,zB iG)]) AO (.k0 [false] [] [6]) ?_
 refine .ret ?_
 exact Kb (zB iG) [] (by kernel_rfl) hm (Nat.le_of_ble_eq_true rfl) Hz
theorem xA (pu:Af) (n:Nat) (z15 z16 z17:Int) (s18 s19 s20:Sl) {v:Value} (hm:Pe pu n z15 z16 z17 s18 s19 s20=some v):BN tt (Bb tabs isP pu (inl pu)) 1 ZR (fr 21 [(0,(.agg ⟨[zI z15,zI z16,zI z17,Sl.v 1 s18]⟩)),(1,Sl.v 1 s19),(2,Sl.v 1 s20)]) AO (FJ tt 1 0 [.tmp 6] v):=by
 unfold Pe at hm
 refine .then (.rK (.ghs (fr 21 [(1,Sl.v 1 s19),(2,Sl.v 1 s20),(3,pt 1 0)]) (hT 2 [(oC [zI z15,zI z16,zI z17,Sl.v 1 s18])]) (.k0 [false] [.tmp 3 false] [1,2,3]) ?_))
 refine .join (v:=v) (fun y:Bool=>((fr 21 [(6,zB y)]),AO)) (fun y=>Kg pu n y) ?_ ?_
 ·rintro iG hm
  exact dS pu n iG hm
 ·replace hm:=Ag hm;rcases hm with⟨h33,hm⟩ | ⟨h33,hm⟩
  ·refine .reg (eC 3 (some ((zB (AY (30:Int) (Int.ofNat (Sl.n s18)))),(hT 2 [(oC [zI z15,zI z16,zI z17,Sl.v 1 s18])]))) (show _=some ((zB true),_) from (by rw[show (AY (30:Int) (Int.ofNat (Sl.n s18)))=true from h33])) (eE)) ?_
   exact⟨true,hm,(.k0 [false] [] [6])⟩
  ·replace hm:=Ag hm;rcases hm with⟨h34,hm⟩ | ⟨h34,hm⟩
   ·refine .reg (eC 3 (some ((zB (AY (30:Int) (Int.ofNat (Sl.n s18)))),(hT 2 [(oC [zI z15,zI z16,zI z17,Sl.v 1 s18])]))) (show _=some ((zB false),_) from (by rw[show (AY (30:Int) (Int.ofNat (Sl.n s18)))=false from h33])) (eC 3 (some ((zB (AY (60:Int) (Int.ofNat (Sl.n s19)))),(hT 2 [(oC [zI z15,zI z16,zI z17,Sl.v 1 s18])]))) (show _=some ((zB true),_) from (by rw[show (AY (60:Int) (Int.ofNat (Sl.n s19)))=true from h34])) (eE))) ?_
    exact⟨true,hm,(.k0 [false] [] [6])⟩
   ·refine .reg (eC 3 (some ((zB (AY (30:Int) (Int.ofNat (Sl.n s18)))),(hT 2 [(oC [zI z15,zI z16,zI z17,Sl.v 1 s18])]))) (show _=some ((zB false),_) from (by rw[show (AY (30:Int) (Int.ofNat (Sl.n s18)))=false from h33])) (eC 3 (some ((zB (AY (60:Int) (Int.ofNat (Sl.n s19)))),(hT 2 [(oC [zI z15,zI z16,zI z17,Sl.v 1 s18])]))) (show _=some ((zB false),_) from (by rw[show (AY (60:Int) (Int.ofNat (Sl.n s19)))=false from h34])) (eE))) ?_
    exact⟨(AY (60:Int) (Int.ofNat (Sl.n s20))),hm,(.k0 [false] [] [6])⟩
theorem xB {call:A8} (pu:Af) (n:Nat) (hcall:call=Bb tabs isP pu (inl pu)) {args:LV} {os:List AJ} {z:Value} (ha:args.length=3) (hk:os.length=0) (hpl:∀ o∈os,plainO o) (hm:OL pu n (args++os.map Ef)=some z):args.length≤21∧BN tt call (tabs.length+0) ZR (Fr.made 21 args) (BK tabs os) (FJ tt tabs.length 0 [.tmp 6] z):=by
 subst hcall
 have hq:=Co ha;clear ha;obtain⟨a0,args,rfl,ha⟩:=hq
 have hq:=Co ha;clear ha;obtain⟨a1,args,rfl,ha⟩:=hq
 have hq:=Co ha;clear ha;obtain⟨a2,args,rfl,ha⟩:=hq
 obtain rfl:=len_nil ha
 obtain rfl:=len_nil hk
 replace hm:OL pu n [a0,a1,a2]=some z:=hm
 unfold OL at hm
 replace hm:(oo (Bt a0) none fun l35=>(ll l35 none fun v37 l35=>(ll l35 none fun v38 l35=>(ll l35 none fun v39 l35=>(ll l35 none fun v40 l35=>(ll l35 (oo (Bi .i64 v37) none fun x41=>(oo (Bi .i64 v38) none fun x43=>(oo (Bi .i64 v39) none fun x45=>(oo (Bj 1 v40) none fun s47=>(oo (Bj 1 a1) none fun s49=>(oo (Bj 1 a2) none fun s51=>(Pe pu n x41 x43 x45 s47 s49 s51))))))) fun _ _=>none))))))=some z:=hm
 replace hm:=BG hm;obtain⟨l35,rfl,hm⟩:=hm
 replace hm:=Ad hm;obtain⟨v37,l35_0,rfl,hm⟩:=hm
 replace hm:=Ad hm;obtain⟨v38,l35_1,rfl,hm⟩:=hm
 replace hm:=Ad hm;obtain⟨v39,l35_2,rfl,hm⟩:=hm
 replace hm:=Ad hm;obtain⟨v40,l35_3,rfl,hm⟩:=hm
 replace hm:=AC hm;obtain⟨rfl,hm⟩:=hm
 replace hm:=Ai hm;obtain⟨x41,rfl,hm⟩:=hm
 replace hm:=Ai hm;obtain⟨x43,rfl,hm⟩:=hm
 replace hm:=Ai hm;obtain⟨x45,rfl,hm⟩:=hm
 replace hm:=Al hm;obtain⟨s47,rfl,hm⟩:=hm
 replace hm:=Al hm;obtain⟨s49,rfl,hm⟩:=hm
 replace hm:=Al hm;obtain⟨s51,rfl,hm⟩:=hm
 refine⟨by simp,?_⟩
 exact .same (F':=(fr 21 [(0,(.agg ⟨[zI x41,zI x43,zI x45,Sl.v 1 s47]⟩)),(1,Sl.v 1 s49),(2,Sl.v 1 s51)])) (H':=AO) (by kernel_rfl) (by kernel_rfl) (xA pu n x41 x43 x45 s47 s49 s51 hm)
def Jd (pu:Af) (n:Nat) (ih0:Sl→Int→Int→Nat→LV→Nat→Nat→LV→OV) (s0:Sl) (z0 z1:Int) (n0:Nat) (q0:LV) (n1 c0:Nat) (q1:LV):OV:=
 (bb (Au Ah q1) (bb (AY z1 z0) (bb (an (Dp (Nat.beq (Sl.fl s0) 1) (Nat.beq (Sl.fl s0) 2)) (EQ ((Sl.n s0)+1) 8)) (bb (Dp (Nat.ble 2 (2*((Sl.n s0)+1)+bb false 1 0)) (MQ (Br (Sl.cs s0) ([.int .i64 z1]:LV)))) (bb (Dp (Nat.ble 2 c0) (MQ q1)) (bb (Au Ah (Br (Sl.cs s0) ([.int .i64 z1]:LV))) (bb (Au Ah q1) (oo (pu 10261 [(.slice (some ⟨1,0,some 1⟩) ((Sl.n s0)+1) (2*((Sl.n s0)+1)+bb false 1 0)),(.pointer (some ⟨2,0,none⟩)),(.pointer (some ⟨3,0,none⟩)),(.pointer (some ⟨4,0,none⟩)),(.agg ⟨(Br (Sl.cs s0) ([.int .i64 z1]:LV))⟩),(.agg ⟨[(Cv n0 q0)]⟩),(.agg ⟨[(.slice (some ⟨5,0,some 1⟩) n1 c0)]⟩),(.agg ⟨[(.func (.func 26) ⟨[]⟩ ⟨[(.pointer (some ⟨2,0,none⟩)),(.pointer (some ⟨3,0,none⟩)),(.pointer (some ⟨4,0,none⟩))]⟩)]⟩),(.agg ⟨q1⟩)]) none fun v0=>(oo (CQ v0) none fun l0=>(ll l0 none fun v1 l0=>(ll l0 none fun v2 l0=>(ll l0 none fun v3 l0=>(ll l0 none fun v4 l0=>(ll l0 none fun v5 l0=>(ll l0 none fun v6 l0=>(ll l0 none fun v7 l0=>(ll l0 (bb (QM v1) (oo (Bt v2) none fun q2=>(oo (Bt v3) none fun l1=>(ll l1 none fun v8 l1=>(ll l1 (oo (Pv v8) none fun p0=>(oo (Bt v4) none fun l2=>(ll l2 none fun v9 l2=>(ll l2 (oo (OJ 6 0 1 v9) none fun y0=>(oo (Bt v5) none fun l3=>(ll l3 none fun v10 l3=>(ll l3 (oo (O6 26 0 v10) none fun l4=>(ll l4 none fun v11 l4=>(ll l4 none fun v12 l4=>(ll l4 none fun v13 l4=>(ll l4 (bb (FD v11 2 0) (bb (FD v12 3 0) (bb (FD v13 4 0) (bb (Nq v6) (oo (Bt v7) none fun q3=>(bb (Au Ah q2) (bb (Au Ah q3) (bb (Au Ah q3) (ih0 s0 z0 (Aj .i64 (Int.add z1 (1:Int))) (Db.off p0) (Db.cs p0) (NC.n y0) (NC.c y0) q3) none) none) none)) none) none) none) none) fun _ _=>none))))) fun _ _=>none)))) fun _ _=>none)))) fun _ _=>none)))) none) fun _ _=>none)))))))))) none) none) none) none) none) (some (.tuple ⟨[(.tuple ⟨[]⟩),(.agg ⟨[(Cv n0 q0)]⟩),(.agg ⟨[(.slice (some ⟨5,0,some 1⟩) n1 c0)]⟩),(.agg ⟨[(.func (.func 26) ⟨[]⟩ ⟨[(.pointer (some ⟨1,0,none⟩)),(.pointer (some ⟨2,0,none⟩)),(.pointer (some ⟨3,0,none⟩))]⟩)]⟩),EP,(.agg ⟨q1⟩)]⟩))) none)
def Kh (pu:Af) (n w:Nat):Sl→Int→Int→Nat→LV→Nat→Nat→LV→OV:=
 Nat.rec (motive:=fun _=>Sl→Int→Int→Nat→LV→Nat→Nat→LV→OV) (fun _ _ _ _ _ _ _ _=>none) (fun _ ih0=>Jd pu n ih0) w
def K9 (pu:Af) (n:Nat) (s0:Sl) (n0:Nat) (q0:LV) (n1 c0:Nat) (q1:LV):OV:=
 (oo (AL q0 ((n0+0)+2)) none fun v0=>(oo (Bi .i64 v0) none fun x0=>(bb (Au Ah q1) (Kh pu n n s0 x0 (0:Int) n0 q0 n1 c0 q1) none)))
def PL (pu:Af) (n:Nat) (s0:Sl) (n0:Nat) (q0:LV) (n1 c0:Nat) (q1:LV):OV:=
 (oo (pu 29 [Sl.v 1 s0]) none fun v0=>(oo (Bj 1 v0) none fun s1=>(bb (Au RH (Sl.cs s1)) (bb (an (Nat.ble (0+(Sl.n s1)*1) (len (Sl.cs s1))) (Au Ah (Aq ((Sl.n s1)*1) (Am 0 (Sl.cs s1))))) (bb (GV 1 24 n1 c0 1 q1) (bb (Au Ah (Br (Am 0 q1) [(Sl.v 1 (Sl.mk (Sl.n s1) 0 (Aq ((Sl.n s1)*1) (Am 0 (Sl.cs s1)))))])) (some (.tuple ⟨[(.tuple ⟨[]⟩),(.agg ⟨[(Cv n0 q0)]⟩),(.agg ⟨[(.slice (some ⟨5,0,some 1⟩) (n1+1) (2*(n1+1)+bb false 1 0))]⟩),(.agg ⟨[(.func (.func 26) ⟨[]⟩ ⟨[(.pointer (some ⟨1,0,none⟩)),(.pointer (some ⟨2,0,none⟩)),(.pointer (some ⟨3,0,none⟩))]⟩)]⟩),EP,(.agg ⟨(Br (Am 0 q1) [(Sl.v 1 (Sl.mk (Sl.n s1) 0 (Aq ((Sl.n s1)*1) (Am 0 (Sl.cs s1)))))])⟩)]⟩)) none) none) none) none)))
def PM (pu:Af) (n:Nat) (ih0:Sl→Int→Int→Nat→LV→Nat→Nat→LV→OV) (s0:Sl) (z0 z1:Int) (n0:Nat) (q0:LV) (n1 c0:Nat) (q1:LV):OV:=
 (bb (Au Ah q1) (bb (AY z1 z0) (oo (pu 28 [(Cv n0 q0),Sl.v 1 s0,.int .i64 z1]) none fun v0=>(oo (Bj 1 v0) none fun s1=>(bb (Au RH (Sl.cs s1)) (bb (an (Nat.ble (0+(Sl.n s1)*1) (len (Sl.cs s1))) (Au Ah (Aq ((Sl.n s1)*1) (Am 0 (Sl.cs s1))))) (oo (pu 27 [(Sl.v 1 (Sl.mk (Sl.n s1) 0 (Aq ((Sl.n s1)*1) (Am 0 (Sl.cs s1))))),Sl.v 1 s0]) none fun v1=>(oo (Bi .i64 v1) none fun x0=>(bb (AY x0 (0:Int)) (some (.tuple ⟨[(.tuple ⟨[]⟩),(.agg ⟨[(Cv n0 q0)]⟩),(.agg ⟨[(.slice (some ⟨5,0,some 1⟩) n1 c0)]⟩),(.agg ⟨[(.func (.func 26) ⟨[]⟩ ⟨[(.pointer (some ⟨1,0,none⟩)),(.pointer (some ⟨2,0,none⟩)),(.pointer (some ⟨3,0,none⟩))]⟩)]⟩),EP,(.agg ⟨q1⟩)]⟩)) (ih0 s0 z0 (Aj .i64 (Int.add z1 (1:Int))) n0 q0 n1 c0 q1)))) none) none))) (PL pu n s0 n0 q0 n1 c0 q1)) none)
def PN (pu:Af) (n w:Nat):Sl→Int→Int→Nat→LV→Nat→Nat→LV→OV:=
 Nat.rec (motive:=fun _=>Sl→Int→Int→Nat→LV→Nat→Nat→LV→OV) (fun _ _ _ _ _ _ _ _=>none) (fun _ ih0=>PM pu n ih0) w
def LZ (pu:Af) (n:Nat) (s0:Sl) (n0:Nat) (q0:LV) (n1 c0:Nat) (q1:LV):OV:=
 (oo (AL q0 ((n0+0)+0)) none fun v0=>(oo (Bi .i64 v0) none fun x0=>(oo (AL q0 ((n0+0)+1)) none fun v1=>(oo (Bi .i64 v1) none fun x1=>(bb (Au Ah q1) (bb (Bd (Int.ofNat (Sl.n s0)) (Aj .i64 (Int.mul x0 x1))) (oo (AL q0 ((n0+0)+3)) none fun v2=>(oo (Bj 1 v2) none fun s1=>(PN pu n n s0 (Int.ofNat (Sl.n s1)) (0:Int) n0 q0 n1 c0 q1))) (K9 pu n s0 n0 q0 n1 c0 q1)) none)))))
def OM (pu:Af) (n:Nat) (args:LV):OV:=
 (ll args none fun a0 args=>(ll args none fun a1 args=>(ll args none fun a2 args=>(ll args none fun a3 args=>(ll args none fun o0 args=>(ll args none fun o1 args=>(ll args none fun o2 args=>(ll args none fun o3 args=>(ll args (oo (Bj 1 a0) none fun s0=>(bb (FD a1 1 0) (bb (FD a2 2 0) (bb (FD a3 3 0) (oo (Bt o0) none fun l0=>(ll l0 none fun v0 l0=>(ll l0 (oo (Pv v0) none fun p0=>(oo (Bt o1) none fun l1=>(ll l1 none fun v1 l1=>(ll l1 (oo (OJ 4 0 1 v1) none fun y0=>(oo (Bt o2) none fun l2=>(ll l2 none fun v2 l2=>(ll l2 (oo (O6 26 0 v2) none fun l3=>(ll l3 none fun v3 l3=>(ll l3 none fun v4 l3=>(ll l3 none fun v5 l3=>(ll l3 (bb (FD v3 1 0) (bb (FD v4 2 0) (bb (FD v5 3 0) (oo (Bt o3) none fun q0=>(LZ pu n s0 (Db.off p0) (Db.cs p0) (NC.n y0) (NC.c y0) q0)) none) none) none) fun _ _=>none))))) fun _ _=>none)))) fun _ _=>none)))) fun _ _=>none))) none) none) none)) fun _ _=>none)))))))))
theorem dU (pu:Af) (n:Nat) (s0:Sl) (n0:Nat) (q0:LV) (n1 c0:Nat) (q1:LV) {v:Value} (hm:K9 pu n s0 n0 q0 n1 c0 q1=some v):BN tt (Bb tabs isP pu (inl pu)) 5 Wl (fr 58 [(0,Sl.v 1 s0),(1,pt 1 0),(3,(pt 3 0))]) (hT 6 [(oC [(Cv n0 q0)]),(oC [sc 5 0 1 n1 c0]),(oC [(.func (.func 26) ⟨[]⟩ ⟨[pt 1 0,(pt 2 0),(pt 3 0)]⟩)]),.dead,oC q1]) (FJ tt 1 4 [] v):=by
 unfold K9 at hm
 refine .then ?_
 replace hm:=Kc hm;obtain⟨x0,h0,hm⟩:=hm
 refine .reg (eC 4 (keep (hT 6 [(oC [(Cv n0 q0)]),(oC [sc 5 0 1 n1 c0]),(oC [(.func (.func 26) ⟨[]⟩ ⟨[pt 1 0,(pt 2 0),(pt 3 0)]⟩)]),.dead,oC q1]) (AL q0 ((n0+0)+2))) (AZ h0) (eE)) ?_
 replace hm:=Ae hm;obtain⟨h1,hm⟩:=hm
 refine .ghs (fr 58 [(0,Sl.v 1 s0),(3,(pt 3 0)),(47,zI x0),(48,(zI (0:Int)))]) (hT 6 [(oC [(Cv n0 q0)]),(oC [sc 5 0 1 n1 c0]),(oC [(.func (.func 26) ⟨[]⟩ ⟨[pt 1 0,(pt 2 0),(pt 3 0)]⟩)]),.dead,oC q1]) (.k [5] [false,false,true,true,false] [.cell 2 0 false] [0,3,47,48] ⟨BO h1,trivial⟩) ?_
 refine .block (.loopM (v:=v) (fun y:Sl×Int×Int×Nat×LV×Nat×Nat×LV=>((fr 58 [(0,(Sl.v 1 y.1)),(3,(pt 3 0)),(47,(zI y.2.1)),(48,(zI y.2.2.1))]),(hT 6 [(oC [(Cv y.2.2.2.1 y.2.2.2.2.1)]),(oC [(sc 5 0 1 y.2.2.2.2.2.1 y.2.2.2.2.2.2.1)]),(oC [(.func (.func 26) ⟨[]⟩ ⟨[pt 1 0,(pt 2 0),(pt 3 0)]⟩)]),.dead,(oC y.2.2.2.2.2.2.2)]))) (fun w y=>Kh pu n w y.1 y.2.1 y.2.2.1 y.2.2.2.1 y.2.2.2.2.1 y.2.2.2.2.2.1 y.2.2.2.2.2.2.1 y.2.2.2.2.2.2.2) n ⟨(s0,x0,(0:Int),n0,q0,n1,c0,q1),hm,(.k [5] [false,false,true,true,false] [.cell 2 0 false] [0,3,47,48] ⟨BO h1,trivial⟩)⟩ (fun _=>rfl) ?_)
 rintro w0 ⟨s1,z0,z1,n2,q2,n3,c1,q3⟩ hm
 replace hm:Jd pu n (Kh pu n w0) s1 z0 z1 n2 q2 n3 c1 q3=some v:=hm
 unfold Jd at hm
 refine .then (.rK ?_)
 replace hm:=Ae hm;obtain⟨h2,hm⟩:=hm
 refine .ghs (fr 58 [(0,Sl.v 1 s1),(3,(pt 3 0)),(47,zI z0),(48,zI z1),(49,(zB (AY z1 z0)))]) (hT 6 [(oC [(Cv n2 q2)]),(oC [sc 5 0 1 n3 c1]),(oC [(.func (.func 26) ⟨[]⟩ ⟨[pt 1 0,(pt 2 0),(pt 3 0)]⟩)]),.dead,oC q3]) (.k [5] [false,false,true,true,false] [.cell 2 0 false] [0,3,47,48,49] ⟨BO h2,trivial⟩) ?_
 refine .then ?_
 replace hm:=Ag hm;rcases hm with⟨h3,hm⟩ | ⟨h3,hm⟩
 ·refine C8 (AY z1 z0) h3 ?_
  refine .skip (.ghs (fr 58 [(0,Sl.v 1 s1),(3,(pt 3 0)),(47,zI z0),(48,zI z1)]) (hT 6 [(oC [(Cv n2 q2)]),(oC [sc 5 0 1 n3 c1]),(oC [(.func (.func 26) ⟨[]⟩ ⟨[pt 1 0,(pt 2 0),(pt 3 0)]⟩)]),.dead,oC q3]) (.k [5] [false,false,true,true,false] [.cell 2 0 false] [0,3,47,48] ⟨BO h2,trivial⟩) ?_)
  refine .then (.block (.then (.rK (.ghs (fr 58 [(0,Sl.v 1 s1),(3,(pt 3 0)),(6,zI z1),(47,zI z0),(48,zI z1)]) (hT 6 [(oC [(Cv n2 q2)]),(oC [sc 5 0 1 n3 c1]),(oC [(.func (.func 26) ⟨[]⟩ ⟨[pt 1 0,(pt 2 0),(pt 3 0)]⟩)]),.dead,oC q3]) (.k [5] [false,false,true,true,false] [.cell 2 0 false] [0,3,6,47,48] ⟨BO h2,trivial⟩) ?_))))
  replace hm:=Ae hm;obtain⟨h4,hm⟩:=hm
  replace hm:=Ae hm;obtain⟨h5,hm⟩:=hm
  replace hm:=Ae hm;obtain⟨h6,hm⟩:=hm
  replace hm:=Ae hm;obtain⟨h7,hm⟩:=hm
  replace hm:=Ae hm;obtain⟨h8,hm⟩:=hm
  replace hm:=Ab hm;obtain⟨v0,h9,hm⟩:=hm
  replace hm:=Ch hm;obtain⟨l0,rfl,hm⟩:=hm
  replace hm:=Ad hm;obtain⟨v1,l1380_0,rfl,hm⟩:=hm
  replace hm:=Ad hm;obtain⟨v2,l1380_1,rfl,hm⟩:=hm
  replace hm:=Ad hm;obtain⟨v3,l1380_2,rfl,hm⟩:=hm
  replace hm:=Ad hm;obtain⟨v4,l1380_3,rfl,hm⟩:=hm
  replace hm:=Ad hm;obtain⟨v5,l1380_4,rfl,hm⟩:=hm
  replace hm:=Ad hm;obtain⟨v6,l1380_5,rfl,hm⟩:=hm
  replace hm:=Ad hm;obtain⟨v7,l1380_6,rfl,hm⟩:=hm
  replace hm:=AC hm;obtain⟨rfl,hm⟩:=hm
  replace hm:=Ae hm;obtain⟨h10,hm⟩:=hm
  obtain rfl:=Pj h10
  replace hm:=BG hm;obtain⟨q4,rfl,hm⟩:=hm
  replace hm:=BG hm;obtain⟨l1,rfl,hm⟩:=hm
  replace hm:=Ad hm;obtain⟨v8,l1392_0,rfl,hm⟩:=hm
  replace hm:=AC hm;obtain⟨rfl,hm⟩:=hm
  replace hm:=Ab hm;obtain⟨p0,h11,hm⟩:=hm
  obtain rfl:=F7 h11
  replace hm:=BG hm;obtain⟨l2,rfl,hm⟩:=hm
  replace hm:=Ad hm;obtain⟨v9,l1397_0,rfl,hm⟩:=hm
  replace hm:=AC hm;obtain⟨rfl,hm⟩:=hm
  replace hm:=Ab hm;obtain⟨y0,h12,hm⟩:=hm
  obtain rfl:=I9 h12
  replace hm:=BG hm;obtain⟨l3,rfl,hm⟩:=hm
  replace hm:=Ad hm;obtain⟨v10,l1402_0,rfl,hm⟩:=hm
  replace hm:=AC hm;obtain⟨rfl,hm⟩:=hm
  replace hm:=Ab hm;obtain⟨l4,h13,hm⟩:=hm
  obtain rfl:=Jb h13
  replace hm:=Ad hm;obtain⟨v11,l1405_0,rfl,hm⟩:=hm
  replace hm:=Ad hm;obtain⟨v12,l1405_1,rfl,hm⟩:=hm
  replace hm:=Ad hm;obtain⟨v13,l1405_2,rfl,hm⟩:=hm
  replace hm:=AC hm;obtain⟨rfl,hm⟩:=hm
  replace hm:=Ae hm;obtain⟨h14,hm⟩:=hm
  obtain rfl:=DT h14
  replace hm:=Ae hm;obtain⟨h15,hm⟩:=hm
  obtain rfl:=DT h15
  replace hm:=Ae hm;obtain⟨h16,hm⟩:=hm
  obtain rfl:=DT h16
  replace hm:=Ae hm;obtain⟨h17,hm⟩:=hm
  replace hm:=BG hm;obtain⟨q5,rfl,hm⟩:=hm
  replace hm:=Ae hm;obtain⟨h18,hm⟩:=hm
  replace hm:=Ae hm;obtain⟨h19,hm⟩:=hm
  refine .reg (eC 4 (bI (hT 7 [(oC [(Cv n2 q2)]),(oC [sc 5 0 1 n3 c1]),(oC [(.func (.func 26) ⟨[]⟩ ⟨[pt 1 0,(pt 2 0),(pt 3 0)]⟩)]),.dead,oC q3,(oC [zI z1])]) 1 8 s1 1 ([zI z1]:LV)) (iW h4) (eD (Jg tabs [[none],[none],[none],[none]] 4 [.tmp 0 false,.tmp 1 false,.tmp 2 true,.tmp 3 true,.cell 3 0 false] [false,false,true,true,false,false] (pu 10261) [(sc 7 0 1 ((Sl.n s1)+1) (d2 ((Sl.n s1)+1))),pt 1 0,(pt 2 0),(pt 3 0)] (hT 8 [(oC [(Cv n2 q2)]),(oC [sc 5 0 1 n3 c1]),(oC [(.func (.func 26) ⟨[]⟩ ⟨[pt 1 0,(pt 2 0),(pt 3 0)]⟩)]),.dead,oC q3,(oC [zI z1]),(oC (Br (Sl.cs s1) ([zI z1]:LV)))])) (Hy (as:=[(sc 7 0 1 ((Sl.n s1)+1) (d2 ((Sl.n s1)+1))),pt 1 0,(pt 2 0),(pt 3 0)]) (H1:=(hT 8 [(oC [(Cv n2 q2)]),(oC [sc 5 0 1 n3 c1]),(oC [(.func (.func 26) ⟨[]⟩ ⟨[pt 1 0,(pt 2 0),(pt 3 0)]⟩)]),.dead,oC q3,(oC [zI z1]),(oC (Br (Sl.cs s1) ([zI z1]:LV)))])) (Cs (Fp FL) (Cs (Fp FL) (Cs (Fp FL) (Cs (Fp FL) JN)))) (Hw (H2:=(hT 9 [(oC [(Cv (Db.off p0) (Db.cs p0))]),(oC [(sc 8 0 1 (NC.n y0) (NC.c y0))]),(oC [(.func (.func 26) ⟨[]⟩ ⟨[pt 1 0,(pt 2 0),(pt 3 0)]⟩)]),.dead,.dead,(oC [zI z1]),oC q4,oC q5])) (v:=(.tuple ⟨[]⟩)) (v':=(.tuple ⟨[]⟩)) [some 0,some 7,some 1,some 2,some 3,some 5] [(false,some 7),(false,some 1),(true,some 2),(true,some 3),(false,some 5)] [(oC (Br (Sl.cs s1) ([zI z1]:LV))),(oC [(Cv n2 q2)]),(oC [sc 5 0 1 n3 c1]),(oC [(.func (.func 26) ⟨[]⟩ ⟨[(pt 2 0),(pt 3 0),(pt 4 0)]⟩)]),oC q3] [(sc 1 0 1 ((Sl.n s1)+1) (d2 ((Sl.n s1)+1))),(pt 2 0),(pt 3 0),(pt 4 0)] [(.agg ⟨q4⟩),(.agg ⟨[(Cv (Db.off p0) (Db.cs p0))]⟩),(.agg ⟨[(sc 6 0 1 (NC.n y0) (NC.c y0))]⟩),(.agg ⟨[(.func (.func 26) ⟨[]⟩ ⟨[(pt 2 0),(pt 3 0),(pt 4 0)]⟩)]⟩),v6,(.agg ⟨q5⟩)] [oC q4,(oC [(Cv (Db.off p0) (Db.cs p0))]),(oC [(sc 6 0 1 (NC.n y0) (NC.c y0))]),(oC [(.func (.func 26) ⟨[]⟩ ⟨[(pt 2 0),(pt 3 0),(pt 4 0)]⟩)]),.dead,oC q5] [some 0,some 2,some 3,some 4,none,some 5,none,some 1,some 6] [(false,oC q4),(false,(oC [(Cv (Db.off p0) (Db.cs p0))])),(true,(oC [(sc 6 0 1 (NC.n y0) (NC.c y0))])),(true,(oC [(.func (.func 26) ⟨[]⟩ ⟨[(pt 2 0),(pt 3 0),(pt 4 0)]⟩)])),(false,.dead),(false,oC q5)] [oC q4,(oC [(Cv (Db.off p0) (Db.cs p0))]),(oC [(sc 8 0 1 (NC.n y0) (NC.c y0))]),(oC [(.func (.func 26) ⟨[]⟩ ⟨[pt 1 0,(pt 2 0),(pt 3 0)]⟩)]),.dead,oC q5] (sF (by kernel_rfl) (Pi h5 (Pi h6 rfl))) (A7 (KU (anc:=[]) h7) (A7 (by kernel_rfl) (A7 (by kernel_rfl) (A7 (by kernel_rfl) (A7 (KU (anc:=[]) h8) Dy))))) (Eq.trans (by kernel_rfl) h9) (A7 rfl (A7 rfl (A7 rfl (A7 rfl (A7 (Nh h17) (A7 rfl Dy)))))) (A7 (KW h18) (A7 (by kernel_rfl) (A7 (by kernel_rfl) (A7 (by kernel_rfl) (A7 (by kernel_rfl) (A7 (KW h19) Dy)))))))) (eE))) ?_
  replace hm:=Ae hm;obtain⟨h20,hm⟩:=hm
  refine .ghs (fr 58 [(0,Sl.v 1 s1),(3,(pt 3 0)),(47,zI z0),(48,zI z1)]) (hT 6 [(oC [(Cv (Db.off p0) (Db.cs p0))]),(oC [(sc 5 0 1 (NC.n y0) (NC.c y0))]),(oC [(.func (.func 26) ⟨[]⟩ ⟨[pt 1 0,(pt 2 0),(pt 3 0)]⟩)]),.dead,oC q5]) (.k [8] [false,false,true,true,false] [.cell 2 0 false] [0,3,47,48] ⟨BO h20,trivial⟩) ?_
  refine .rK ?_
  exact⟨(s1,z0,(Aj .i64 (Int.add z1 (1:Int))),(Db.off p0),(Db.cs p0),(NC.n y0),(NC.c y0),q5),hm,(.k [5] [false,false,true,true,false] [.cell 2 0 false] [0,3,47,48] ⟨BO h20,trivial⟩)⟩
 ·refine Dn (AY z1 z0) h3 ?_
  refine .exit ?_
  refine .ghs (fr 58 []) (hT 6 [(oC [(Cv n2 q2)]),(oC [sc 5 0 1 n3 c1]),(oC [(.func (.func 26) ⟨[]⟩ ⟨[pt 1 0,(pt 2 0),(pt 3 0)]⟩)]),.dead,oC q3]) (.k [5] [false,false,true,true,false] [.cell 2 0 false] [] ⟨BO h2,trivial⟩) ?_
  exact Uw (.tuple ⟨[]⟩) [(oC [(Cv n2 q2)]),(oC [sc 5 0 1 n3 c1]),(oC [(.func (.func 26) ⟨[]⟩ ⟨[pt 1 0,(pt 2 0),(pt 3 0)]⟩)]),.dead,oC q3] (by kernel_rfl) hm (Nat.le_of_ble_eq_true rfl) (Bq (G9 _) (Bq (G9 _) (Bq (G9 _) (Bq Yd (Bq (G9 _) Hz)))))
theorem Wv (pu:Af) (n:Nat) (s0:Sl) (n0:Nat) (q0:LV) (n1 c0:Nat) (q1:LV) {v:Value} (hm:LZ pu n s0 n0 q0 n1 c0 q1=some v):BN tt (Bb tabs isP pu (inl pu)) 5 MR (fr 58 [(0,Sl.v 1 s0),(1,pt 1 0),(2,(pt 2 0)),(3,(pt 3 0))]) (hT 5 [(oC [(Cv n0 q0)]),(oC [sc 4 0 1 n1 c0]),(oC [(.func (.func 26) ⟨[]⟩ ⟨[pt 1 0,(pt 2 0),(pt 3 0)]⟩)]),oC q1]) (FJ tt 1 4 [] v):=by
 unfold LZ at hm
 refine .ghs (fr 58 [(0,Sl.v 1 s0),(1,pt 1 0),(2,(pt 2 0)),(3,(pt 3 0))]) (hT 6 [(oC [(Cv n0 q0)]),(oC [sc 5 0 1 n1 c0]),(oC [(.func (.func 26) ⟨[]⟩ ⟨[pt 1 0,(pt 2 0),(pt 3 0)]⟩)]),.dead,oC q1]) (.mv 2 2 0 4 0 1 n1 c0 [sc 4 0 1 n1 c0] q1 (spA:=false) (ancA:=[]) (ancB:=[]) (v:=(pt 2 0)) (by kernel_rfl) (QR (off:=0)) (E9.id _ _)) ?_
 refine .join (v:=v) (fun y:Sl×Nat×LV×Nat×Nat×LV=>((fr 58 [(0,(Sl.v 1 y.1)),(1,pt 1 0),(3,(pt 3 0))]),(hT 6 [(oC [(Cv y.2.1 y.2.2.1)]),(oC [(sc 5 0 1 y.2.2.2.1 y.2.2.2.2.1)]),(oC [(.func (.func 26) ⟨[]⟩ ⟨[pt 1 0,(pt 2 0),(pt 3 0)]⟩)]),.dead,(oC y.2.2.2.2.2)]))) (fun y=>K9 pu n y.1 y.2.1 y.2.2.1 y.2.2.2.1 y.2.2.2.2.1 y.2.2.2.2.2) ?_ ?_
 ·rintro⟨s1,n2,q2,n3,c1,q3⟩ hm
  exact dU pu n s1 n2 q2 n3 c1 q3 hm
 ·refine .then ?_
  replace hm:=Kc hm;obtain⟨x0,h0,hm⟩:=hm
  replace hm:=Kc hm;obtain⟨x1,h1,hm⟩:=hm
  refine .reg (eC 6 (keep (hT 6 [(oC [(Cv n0 q0)]),(oC [sc 5 0 1 n1 c0]),(oC [(.func (.func 26) ⟨[]⟩ ⟨[pt 1 0,(pt 2 0),(pt 3 0)]⟩)]),.dead,oC q1]) (AL q0 ((n0+0)+0))) (AZ h0) (eC 4 (keep (hT 6 [(oC [(Cv n0 q0)]),(oC [sc 5 0 1 n1 c0]),(oC [(.func (.func 26) ⟨[]⟩ ⟨[pt 1 0,(pt 2 0),(pt 3 0)]⟩)]),.dead,oC q1]) (AL q0 ((n0+0)+1))) (AZ h1) (eE))) ?_
  replace hm:=Ae hm;obtain⟨h2,hm⟩:=hm
  refine .ghs (fr 58 [(0,Sl.v 1 s0),(1,pt 1 0),(2,(pt 2 0)),(3,(pt 3 0)),(20,(zB (Bd (Int.ofNat (Sl.n s0)) (Aj .i64 (Int.mul x0 x1)))))]) (hT 6 [(oC [(Cv n0 q0)]),(oC [sc 5 0 1 n1 c0]),(oC [(.func (.func 26) ⟨[]⟩ ⟨[pt 1 0,(pt 2 0),(pt 3 0)]⟩)]),.dead,oC q1]) (.k [5] [false,false,true,true,false] [.cell 2 0 false] [0,1,2,3,20] ⟨BO h2,trivial⟩) ?_
  replace hm:=Ag hm;rcases hm with⟨h3,hm⟩ | ⟨h3,hm⟩
  ·refine C8 (Bd (Int.ofNat (Sl.n s0)) (Aj .i64 (Int.mul x0 x1))) h3 ?_
   refine .join (v:=v) (fun y:Sl×Nat×LV×Nat×Nat×LV=>((fr 58 [(0,(Sl.v 1 y.1)),(2,(pt 2 0))]),(hT 6 [(oC [(Cv y.2.1 y.2.2.1)]),(oC [(sc 5 0 1 y.2.2.2.1 y.2.2.2.2.1)]),(oC [(.func (.func 26) ⟨[]⟩ ⟨[pt 1 0,(pt 2 0),(pt 3 0)]⟩)]),.dead,(oC y.2.2.2.2.2)]))) (fun y=>PL pu n y.1 y.2.1 y.2.2.1 y.2.2.2.1 y.2.2.2.2.1 y.2.2.2.2.2) ?_ ?_
   ·rintro⟨s2,n4,q4,n5,c2,q5⟩ hm
    unfold PL at hm
    refine .then ?_
    replace hm:=ZC hm;obtain⟨s3,h4,hm⟩:=hm
    replace hm:=Ae hm;obtain⟨h5,hm⟩:=hm
    replace hm:=Ae hm;obtain⟨h6,hm⟩:=hm
    replace hm:=Ae hm;obtain⟨h7,hm⟩:=hm
    refine .reg (eC 2 (frzP tabs 1 (pu 29) [Sl.v 1 s2] (hT 6 [(oC [(Cv n4 q4)]),(oC [sc 5 0 1 n5 c2]),(oC [(.func (.func 26) ⟨[]⟩ ⟨[pt 1 0,(pt 2 0),(pt 3 0)]⟩)]),.dead,oC q5])) (Ov (s:=s3) (H2:=(hT 7 [(oC [(Cv n4 q4)]),(oC [sc 5 0 1 n5 c2]),(oC [(.func (.func 26) ⟨[]⟩ ⟨[pt 1 0,(pt 2 0),(pt 3 0)]⟩)]),.dead,oC q5,.dead])) (v:=(Sl.v 1 (Sl.mk (Sl.n s3) 0 (Aq ((Sl.n s3)*1) (Am 0 (Sl.cs s3)))))) (DL (FY (by kernel_rfl) (Gp (by kernel_rfl) (by kernel_rfl))) Jj) h4 h5 h6) (eC 1 (Oc 1 24 n5 c2 1 5 q5 [(Sl.v 1 (Sl.mk (Sl.n s3) 0 (Aq ((Sl.n s3)*1) (Am 0 (Sl.cs s3)))))] [] (hT 8 [(oC [(Cv n4 q4)]),(oC [sc 5 0 1 n5 c2]),(oC [(.func (.func 26) ⟨[]⟩ ⟨[pt 1 0,(pt 2 0),(pt 3 0)]⟩)]),.dead,oC q5,.dead,(oC [(Sl.v 1 (Sl.mk (Sl.n s3) 0 (Aq ((Sl.n s3)*1) (Am 0 (Sl.cs s3)))))])])) (I1 h7) (eE))) ?_
    replace hm:=Ae hm;obtain⟨h8,hm⟩:=hm
    refine .ghs (fr 58 []) (hT 6 [(oC [(Cv n4 q4)]),(oC [(sc 5 0 1 (n5+1) (d2 (n5+1)))]),(oC [(.func (.func 26) ⟨[]⟩ ⟨[pt 1 0,(pt 2 0),(pt 3 0)]⟩)]),.dead,(oC (Br (Am 0 q5) [(Sl.v 1 (Sl.mk (Sl.n s3) 0 (Aq ((Sl.n s3)*1) (Am 0 (Sl.cs s3)))))]))]) (.k [8] [false,false,true,true,false] [.cell 2 0 false] [] ⟨BO h8,trivial⟩) ?_
    refine .ghs (fr 58 []) (hT 6 [(oC [(Cv n4 q4)]),(oC [(sc 5 0 1 (n5+1) (d2 (n5+1)))]),(oC [(.func (.func 26) ⟨[]⟩ ⟨[pt 1 0,(pt 2 0),(pt 3 0)]⟩)]),.dead,(oC (Br (Am 0 q5) [(Sl.v 1 (Sl.mk (Sl.n s3) 0 (Aq ((Sl.n s3)*1) (Am 0 (Sl.cs s3)))))]))]) (.k [5] [false,false,true,true,false] [.cell 2 0 false] [] ⟨BO h8,trivial⟩) ?_
    refine .ret ?_
    exact Kb (.tuple ⟨[]⟩) [(oC [(Cv n4 q4)]),(oC [(sc 5 0 1 (n5+1) (d2 (n5+1)))]),(oC [(.func (.func 26) ⟨[]⟩ ⟨[pt 1 0,(pt 2 0),(pt 3 0)]⟩)]),.dead,(oC (Br (Am 0 q5) [(Sl.v 1 (Sl.mk (Sl.n s3) 0 (Aq ((Sl.n s3)*1) (Am 0 (Sl.cs s3)))))]))] (by kernel_rfl) hm (Nat.le_of_ble_eq_true rfl) (Bq (G9 _) (Bq (G9 _) (Bq (G9 _) (Bq Yd (Bq (G9 _) Hz)))))
   ·refine .then ?_
    replace hm:=ZC hm;obtain⟨s4,h9,hm⟩:=hm
    refine .reg (eC 4 (keep (hT 6 [(oC [(Cv n0 q0)]),(oC [sc 5 0 1 n1 c0]),(oC [(.func (.func 26) ⟨[]⟩ ⟨[pt 1 0,(pt 2 0),(pt 3 0)]⟩)]),.dead,oC q1]) (AL q0 ((n0+0)+3))) (AZ h9) (eE)) ?_
    refine .ghs (fr 58 [(0,Sl.v 1 s0),(1,pt 1 0),(2,(pt 2 0)),(26,(zI (Int.ofNat (Sl.n s4)))),(27,(zI (0:Int)))]) (hT 6 [(oC [(Cv n0 q0)]),(oC [sc 5 0 1 n1 c0]),(oC [(.func (.func 26) ⟨[]⟩ ⟨[pt 1 0,(pt 2 0),(pt 3 0)]⟩)]),.dead,oC q1]) (.k [5] [false,false,true,true,false] [.cell 2 0 false] [0,1,2,26,27] ⟨BO h2,trivial⟩) ?_
    refine .block (.loopM (v:=v) (fun y:Sl×Int×Int×Nat×LV×Nat×Nat×LV=>((fr 58 [(0,(Sl.v 1 y.1)),(1,pt 1 0),(2,(pt 2 0)),(26,(zI y.2.1)),(27,(zI y.2.2.1))]),(hT 6 [(oC [(Cv y.2.2.2.1 y.2.2.2.2.1)]),(oC [(sc 5 0 1 y.2.2.2.2.2.1 y.2.2.2.2.2.2.1)]),(oC [(.func (.func 26) ⟨[]⟩ ⟨[pt 1 0,(pt 2 0),(pt 3 0)]⟩)]),.dead,(oC y.2.2.2.2.2.2.2)]))) (fun w y=>PN pu n w y.1 y.2.1 y.2.2.1 y.2.2.2.1 y.2.2.2.2.1 y.2.2.2.2.2.1 y.2.2.2.2.2.2.1 y.2.2.2.2.2.2.2) n ⟨(s0,(Int.ofNat (Sl.n s4)),(0:Int),n0,q0,n1,c0,q1),hm,(.k [5] [false,false,true,true,false] [.cell 2 0 false] [0,1,2,26,27] ⟨BO h2,trivial⟩)⟩ (fun _=>rfl) ?_)
    rintro w0 ⟨s5,z0,z1,n6,q6,n7,c70,q7⟩ hm
    replace hm:PM pu n (PN pu n w0) s5 z0 z1 n6 q6 n7 c70 q7=some v:=hm
    unfold PM at hm
    refine .then (.rK ?_)
    replace hm:=Ae hm;obtain⟨h10,hm⟩:=hm
    refine .ghs (fr 58 [(0,Sl.v 1 s5),(1,pt 1 0),(2,(pt 2 0)),(26,zI z0),(27,zI z1),(28,(zB (AY z1 z0)))]) (hT 6 [(oC [(Cv n6 q6)]),(oC [sc 5 0 1 n7 c70]),(oC [(.func (.func 26) ⟨[]⟩ ⟨[pt 1 0,(pt 2 0),(pt 3 0)]⟩)]),.dead,oC q7]) (.k [5] [false,false,true,true,false] [.cell 2 0 false] [0,1,2,26,27,28] ⟨BO h10,trivial⟩) ?_
    refine .then ?_
    replace hm:=Ag hm;rcases hm with⟨h11,hm⟩ | ⟨h11,hm⟩
    ·refine C8 (AY z1 z0) h11 ?_
     refine .skip (.ghs (fr 58 [(0,Sl.v 1 s5),(1,pt 1 0),(2,(pt 2 0)),(26,zI z0),(27,zI z1)]) (hT 6 [(oC [(Cv n6 q6)]),(oC [sc 5 0 1 n7 c70]),(oC [(.func (.func 26) ⟨[]⟩ ⟨[pt 1 0,(pt 2 0),(pt 3 0)]⟩)]),.dead,oC q7]) (.k [5] [false,false,true,true,false] [.cell 2 0 false] [0,1,2,26,27] ⟨BO h10,trivial⟩) ?_)
     refine .then (.block (.then (.rK (.ghs (fr 58 [(0,Sl.v 1 s5),(1,pt 1 0),(2,(pt 2 0)),(5,zI z1),(26,zI z0),(27,zI z1)]) (hT 6 [(oC [(Cv n6 q6)]),(oC [sc 5 0 1 n7 c70]),(oC [(.func (.func 26) ⟨[]⟩ ⟨[pt 1 0,(pt 2 0),(pt 3 0)]⟩)]),.dead,oC q7]) (.k [5] [false,false,true,true,false] [.cell 2 0 false] [0,1,2,5,26,27] ⟨BO h10,trivial⟩) ?_))))
     refine .then ?_
     replace hm:=ZC hm;obtain⟨s6,h12,hm⟩:=hm
     replace hm:=Ae hm;obtain⟨h13,hm⟩:=hm
     replace hm:=Ae hm;obtain⟨h14,hm⟩:=hm
     replace hm:=Kc hm;obtain⟨x2,h15,hm⟩:=hm
     refine .reg (eC 3 (frzP tabs 1 (pu 28) [(Cv n6 q6),Sl.v 1 s5,zI z1] (hT 6 [(oC [(Cv n6 q6)]),(oC [sc 5 0 1 n7 c70]),(oC [(.func (.func 26) ⟨[]⟩ ⟨[pt 1 0,(pt 2 0),(pt 3 0)]⟩)]),.dead,oC q7])) (Ov (s:=s6) (H2:=(hT 7 [(oC [(Cv n6 q6)]),(oC [sc 5 0 1 n7 c70]),(oC [(.func (.func 26) ⟨[]⟩ ⟨[pt 1 0,(pt 2 0),(pt 3 0)]⟩)]),.dead,oC q7,.dead])) (v:=(Sl.v 1 (Sl.mk (Sl.n s6) 0 (Aq ((Sl.n s6)*1) (Am 0 (Sl.cs s6)))))) (DL (FY (by kernel_rfl) (Gp (by kernel_rfl) (by kernel_rfl))) (DL (FY (by kernel_rfl) (Gp (by kernel_rfl) (by kernel_rfl))) (DL (FY (by kernel_rfl) (Gp (by kernel_rfl) (by kernel_rfl))) Jj))) h12 h13 h14) (eC 1 ((oo (pu 27 [(Sl.v 1 (Sl.mk (Sl.n s6) 0 (Aq ((Sl.n s6)*1) (Am 0 (Sl.cs s6))))),Sl.v 1 s5]) none fun v=>some (v,(hT 7 [(oC [(Cv n6 q6)]),(oC [sc 5 0 1 n7 c70]),(oC [(.func (.func 26) ⟨[]⟩ ⟨[pt 1 0,(pt 2 0),(pt 3 0)]⟩)]),.dead,oC q7,.dead])))) (AB h15) (eE))) ?_
     refine .ghs (fr 58 [(0,Sl.v 1 s5),(1,pt 1 0),(2,(pt 2 0)),(26,zI z0),(27,zI z1),(36,(zB (AY x2 (0:Int))))]) (hT 6 [(oC [(Cv n6 q6)]),(oC [sc 5 0 1 n7 c70]),(oC [(.func (.func 26) ⟨[]⟩ ⟨[pt 1 0,(pt 2 0),(pt 3 0)]⟩)]),.dead,oC q7]) (.k [5] [false,false,true,true,false] [.cell 2 0 false] [0,1,2,26,27,36] ⟨BO h10,trivial⟩) ?_
     replace hm:=Ag hm;rcases hm with⟨h16,hm⟩ | ⟨h16,hm⟩
     ·refine C8 (AY x2 (0:Int)) h16 ?_
      refine .ghs (fr 58 []) (hT 6 [(oC [(Cv n6 q6)]),(oC [sc 5 0 1 n7 c70]),(oC [(.func (.func 26) ⟨[]⟩ ⟨[pt 1 0,(pt 2 0),(pt 3 0)]⟩)]),.dead,oC q7]) (.k [5] [false,false,true,true,false] [.cell 2 0 false] [] ⟨BO h10,trivial⟩) ?_
      refine .ret ?_
      exact Kb (.tuple ⟨[]⟩) [(oC [(Cv n6 q6)]),(oC [sc 5 0 1 n7 c70]),(oC [(.func (.func 26) ⟨[]⟩ ⟨[pt 1 0,(pt 2 0),(pt 3 0)]⟩)]),.dead,oC q7] (by kernel_rfl) hm (Nat.le_of_ble_eq_true rfl) (Bq (G9 _) (Bq (G9 _) (Bq (G9 _) (Bq Yd (Bq (G9 _) Hz)))))
     ·refine Dn (AY x2 (0:Int)) h16 ?_
      refine .skip (.ghs (fr 58 [(0,Sl.v 1 s5),(1,pt 1 0),(2,(pt 2 0)),(26,zI z0),(27,zI z1)]) (hT 6 [(oC [(Cv n6 q6)]),(oC [sc 5 0 1 n7 c70]),(oC [(.func (.func 26) ⟨[]⟩ ⟨[pt 1 0,(pt 2 0),(pt 3 0)]⟩)]),.dead,oC q7]) (.k [5] [false,false,true,true,false] [.cell 2 0 false] [0,1,2,26,27] ⟨BO h10,trivial⟩) ?_)
      refine .rK ?_
      exact⟨(s5,z0,(Aj .i64 (Int.add z1 (1:Int))),n6,q6,n7,c70,q7),hm,(.k [5] [false,false,true,true,false] [.cell 2 0 false] [0,1,2,26,27] ⟨BO h10,trivial⟩)⟩
    ·refine Dn (AY z1 z0) h11 ?_
     refine .exit ?_
     exact⟨(s5,n6,q6,n7,c70,q7),hm,(.k [5] [false,false,true,true,false] [.cell 2 0 false] [0,2] ⟨BO h10,trivial⟩)⟩
  ·refine Dn (Bd (Int.ofNat (Sl.n s0)) (Aj .i64 (Int.mul x0 x1))) h3 ?_
   refine .skip ?_
   exact⟨(s0,n0,q0,n1,c0,q1),hm,(.k [5] [false,false,true,true,false] [.cell 2 0 false] [0,1,3] ⟨BO h2,trivial⟩)⟩
theorem xC {call:A8} (pu:Af) (n:Nat) (hcall:call=Bb tabs isP pu (inl pu)) {args:LV} {os:List AJ} {z:Value} (ha:args.length=4) (hk:os.length=4) (hpl:∀ o∈os,plainO o) (hm:OM pu n (args++os.map Ef)=some z):args.length≤58∧BN tt call (tabs.length+4) MR (Fr.made 58 args) (BK tabs os) (FJ tt tabs.length 4 [] z):=by
 subst hcall
 have hq:=Co ha;clear ha;obtain⟨a0,args,rfl,ha⟩:=hq
 have hq:=Co ha;clear ha;obtain⟨a1,args,rfl,ha⟩:=hq
 have hq:=Co ha;clear ha;obtain⟨a2,args,rfl,ha⟩:=hq
 have hq:=Co ha;clear ha;obtain⟨a3,args,rfl,ha⟩:=hq
 obtain rfl:=len_nil ha
 have hq:=Co hk;clear hk;obtain⟨b0,os,rfl,hk⟩:=hq
 have hp0:plainO b0:=hpl b0 (by simp)
 have hq:=Co hk;clear hk;obtain⟨b1,os,rfl,hk⟩:=hq
 have hp1:plainO b1:=hpl b1 (by simp)
 have hq:=Co hk;clear hk;obtain⟨b2,os,rfl,hk⟩:=hq
 have hp2:plainO b2:=hpl b2 (by simp)
 have hq:=Co hk;clear hk;obtain⟨b3,os,rfl,hk⟩:=hq
 have hp3:plainO b3:=hpl b3 (by simp)
 obtain rfl:=len_nil hk
 replace hm:OM pu n [a0,a1,a2,a3,Ef b0,Ef b1,Ef b2,Ef b3]=some z:=hm
 unfold OM at hm
 replace hm:(oo (Bj 1 a0) none fun s0=>(bb (FD a1 1 0) (bb (FD a2 2 0) (bb (FD a3 3 0) (oo (Bt (Ef b0)) none fun l0=>(ll l0 none fun v0 l0=>(ll l0 (oo (Pv v0) none fun p0=>(oo (Bt (Ef b1)) none fun l1=>(ll l1 none fun v1 l1=>(ll l1 (oo (OJ 4 0 1 v1) none fun y0=>(oo (Bt (Ef b2)) none fun l2=>(ll l2 none fun v2 l2=>(ll l2 (oo (O6 26 0 v2) none fun l3=>(ll l3 none fun v3 l3=>(ll l3 none fun v4 l3=>(ll l3 none fun v5 l3=>(ll l3 (bb (FD v3 1 0) (bb (FD v4 2 0) (bb (FD v5 3 0) (oo (Bt (Ef b3)) none fun q0=>(LZ pu n s0 (Db.off p0) (Db.cs p0) (NC.n y0) (NC.c y0) q0)) none) none) none) fun _ _=>none))))) fun _ _=>none)))) fun _ _=>none)))) fun _ _=>none))) none) none) none))=some z:=hm
 replace hm:=Al hm;obtain⟨s0,rfl,hm⟩:=hm
 replace hm:=Ae hm;obtain⟨h0,hm⟩:=hm
 obtain rfl:=DT h0
 replace hm:=Ae hm;obtain⟨h1,hm⟩:=hm
 obtain rfl:=DT h1
 replace hm:=Ae hm;obtain⟨h2,hm⟩:=hm
 obtain rfl:=DT h2
 replace hm:=Ab hm;obtain⟨l0,h3,hm⟩:=hm
 obtain rfl:=Gw hp0 h3
 replace hm:=Ad hm;obtain⟨v0,l1595_0,rfl,hm⟩:=hm
 replace hm:=AC hm;obtain⟨rfl,hm⟩:=hm
 replace hm:=Ab hm;obtain⟨p0,h4,hm⟩:=hm
 obtain rfl:=F7 h4
 replace hm:=Ab hm;obtain⟨l1,h5,hm⟩:=hm
 obtain rfl:=Gw hp1 h5
 replace hm:=Ad hm;obtain⟨v1,l1600_0,rfl,hm⟩:=hm
 replace hm:=AC hm;obtain⟨rfl,hm⟩:=hm
 replace hm:=Ab hm;obtain⟨y0,h6,hm⟩:=hm
 obtain rfl:=I9 h6
 replace hm:=Ab hm;obtain⟨l2,h7,hm⟩:=hm
 obtain rfl:=Gw hp2 h7
 replace hm:=Ad hm;obtain⟨v2,l1605_0,rfl,hm⟩:=hm
 replace hm:=AC hm;obtain⟨rfl,hm⟩:=hm
 replace hm:=Ab hm;obtain⟨l3,h8,hm⟩:=hm
 obtain rfl:=Jb h8
 replace hm:=Ad hm;obtain⟨v3,l1608_0,rfl,hm⟩:=hm
 replace hm:=Ad hm;obtain⟨v4,l1608_1,rfl,hm⟩:=hm
 replace hm:=Ad hm;obtain⟨v5,l1608_2,rfl,hm⟩:=hm
 replace hm:=AC hm;obtain⟨rfl,hm⟩:=hm
 replace hm:=Ae hm;obtain⟨h9,hm⟩:=hm
 obtain rfl:=DT h9
 replace hm:=Ae hm;obtain⟨h10,hm⟩:=hm
 obtain rfl:=DT h10
 replace hm:=Ae hm;obtain⟨h11,hm⟩:=hm
 obtain rfl:=DT h11
 replace hm:=Ab hm;obtain⟨q0,h12,hm⟩:=hm
 obtain rfl:=Gw hp3 h12
 refine⟨by simp,?_⟩
 exact .same (F':=(fr 58 [(0,Sl.v 1 s0),(1,pt 1 0),(2,(pt 2 0)),(3,(pt 3 0))])) (H':=(hT 5 [(oC [(Cv (Db.off p0) (Db.cs p0))]),(oC [(sc 4 0 1 (NC.n y0) (NC.c y0))]),(oC [(.func (.func 26) ⟨[]⟩ ⟨[pt 1 0,(pt 2 0),(pt 3 0)]⟩)]),oC q0])) (by kernel_rfl) (by kernel_rfl) (Wv pu n s0 (Db.off p0) (Db.cs p0) (NC.n y0) (NC.c y0) q0 hm)
end
end Go.BaAM
