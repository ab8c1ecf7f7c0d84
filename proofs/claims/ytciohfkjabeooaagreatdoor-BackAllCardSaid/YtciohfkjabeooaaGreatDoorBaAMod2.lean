/- Made from wip. -/
import Derived.Test.YtciohfkjabeooaaGreatDoorBaAMod1x

set_option maxRecDepth 100000
set_option maxHeartbeats 20000000
set_option linter.unusedVariables false
namespace Go.BaAM
open Go.Sp Go.BaA
noncomputable section
def bX (pu:Af) (n:Nat):OV:=
 (some (.bool true))
def Wt (pu:Af) (n:Nat) (ih0:Sl→Sl→Int→OV) (s0 s1:Sl) (z0:Int):OV:=
 (bb (AY z0 (Int.ofNat (Sl.n s0))) (oo (EA z0) none fun k1=>(bb (an (Nat.blt k1 (Sl.n s0)) true) (oo (AL (Sl.cs s0) (k1*1)) none fun v0=>(oo (Bj 1 v0) none fun s2=>(bb (an (Nat.blt k1 (Sl.n s1)) true) (oo (AL (Sl.cs s1) (k1*1)) none fun v1=>(oo (Bj 1 v1) none fun s3=>(oo (pu 22 [Sl.v 1 s2,Sl.v 1 s3]) none fun v2=>(oo (Bf v2) none fun b0=>(bb (nt b0) (some (.bool false)) (ih0 s0 s1 (Aj .i64 (Int.add (Int.ofNat k1) (1:Int))))))))) none))) none)) (bX pu n))
def Wu (pu:Af) (n w:Nat):Sl→Sl→Int→OV:=
 Nat.rec (motive:=fun _=>Sl→Sl→Int→OV) (fun _ _ _=>none) (fun _ ih0=>Wt pu n ih0) w
def m8_ (pu:Af) (n:Nat) (s0 s1:Sl):OV:=
 (bb (nt (Bd (Int.ofNat (Sl.n s0)) (Int.ofNat (Sl.n s1)))) (some (.bool false)) (Wu pu n n s0 s1 (0:Int)))
def m8 (pu:Af) (n:Nat) (args:LV):OV:=
 (ll args none fun a0 args=>(ll args none fun a1 args=>(ll args (oo (Bj 1 a0) none fun s0=>(oo (Bj 1 a1) none fun s1=>(m8_ pu n s0 s1))) fun _ _=>none)))
theorem Ahv (pu:Af) (n:Nat) {v:Value} (hm:bX pu n=some v):BN tt (Bb tabs isP pu (inl pu)) 1 lV (fr 27 []) AO (Fin tt 1 [.tmp 4] v):=by
 unfold bX at hm
 refine .then (.rK (.ghs (fr 27 [(4,zB true)]) AO (.k0 [false] [] [4]) ?_))
 refine .ret ?_
 exact Ay (zB true) hm
theorem r8 {call:A8} (pu:Af) (n:Nat) (hcall:call=Bb tabs isP pu (inl pu)) {args:LV} {v:Value} (hm:m8 pu n args=some v) (_:∀ x∈args,closed2 x=true):args.length≤27∧BN tt call 1 WR (Fr.made 27 args) (Ao tabs) (Fin tt 1 [.tmp 4] v):=by
 subst hcall
 unfold m8 at hm
 replace hm:=Ad hm;obtain⟨a0,args_0,rfl,hm⟩:=hm
 replace hm:=Ad hm;obtain⟨a1,args_1,rfl,hm⟩:=hm
 replace hm:=AC hm;obtain⟨rfl,hm⟩:=hm
 replace hm:=Al hm;obtain⟨s0,rfl,hm⟩:=hm
 replace hm:=Al hm;obtain⟨s1,rfl,hm⟩:=hm
 unfold m8_ at hm
 refine⟨by simp,?_⟩
 refine .same (F':=(fr 27 [(0,Sl.v 1 s0),(1,Sl.v 1 s1)])) (H':=AO) (by kernel_rfl) (by kernel_rfl) ?_
 refine .then (.rK (.ghs (fr 27 [(0,Sl.v 1 s0),(1,Sl.v 1 s1)]) AO (.k0 [false] [] [0,1]) ?_))
 refine .then (.then (.rK (.ghs (fr 27 [(0,Sl.v 1 s0),(1,Sl.v 1 s1),(10,(zB (nt (Bd (Int.ofNat (Sl.n s0)) (Int.ofNat (Sl.n s1))))))]) AO (.k0 [false] [] [0,1,10]) ?_)))
 replace hm:=Ag hm;rcases hm with⟨h0,hm⟩ | ⟨h0,hm⟩
 ·refine C8 (nt (Bd (Int.ofNat (Sl.n s0)) (Int.ofNat (Sl.n s1)))) h0 ?_
  refine .then (.rK (.ghs (fr 27 [(4,zB false)]) AO (.k0 [false] [] [4]) ?_))
  refine .ret ?_
  exact Ay (zB false) hm
 ·refine Dn (nt (Bd (Int.ofNat (Sl.n s0)) (Int.ofNat (Sl.n s1)))) h0 ?_
  refine .skip (.ghs (fr 27 [(0,Sl.v 1 s0),(1,Sl.v 1 s1)]) AO (.k0 [false] [] [0,1]) ?_)
  refine .join (v:=v) (fun y:Unit=>((fr 27 []),AO)) (fun y=>bX pu n) ?_ ?_
  ·rintro _ hm
   exact Ahv pu n hm
  ·refine .then (.rK (.ghs (fr 27 [(0,Sl.v 1 s0),(1,Sl.v 1 s1),(5,(zI (0:Int)))]) AO (.k0 [false] [] [0,1,5]) ?_))
   refine .block (.loopM (v:=v) (fun y:Sl×Sl×Int=>((fr 27 [(0,(Sl.v 1 y.1)),(1,(Sl.v 1 y.2.1)),(5,(zI y.2.2))]),AO)) (fun w y=>Wu pu n w y.1 y.2.1 y.2.2) n ⟨(s0,s1,(0:Int)),hm,(.k0 [false] [] [0,1,5])⟩ (fun _=>rfl) ?_)
   rintro w0 ⟨s2,s3,z0⟩ hm
   replace hm:Wt pu n (Wu pu n w0) s2 s3 z0=some v:=hm
   unfold Wt at hm
   refine .then (.then (.rK (.ghs (fr 27 [(0,Sl.v 1 s2),(1,Sl.v 1 s3),(5,zI z0),(14,(zB (AY z0 (Int.ofNat (Sl.n s2)))))]) AO (.k0 [false] [] [0,1,5,14]) ?_)))
   replace hm:=Ag hm;rcases hm with⟨h1,hm⟩ | ⟨h1,hm⟩
   ·refine C8 (AY z0 (Int.ofNat (Sl.n s2))) h1 ?_
    refine .skip (.ghs (fr 27 [(0,Sl.v 1 s2),(1,Sl.v 1 s3),(5,zI z0)]) AO (.k0 [false] [] [0,1,5]) ?_)
    refine .then (.block (.then ?_))
    replace hm:=Ab hm;obtain⟨k1,h2,hm⟩:=hm
    obtain rfl:=AR h2
    replace hm:=Ae hm;obtain⟨h3,hm⟩:=hm
    replace hm:=ZC hm;obtain⟨s4,h4,hm⟩:=hm
    replace hm:=Ae hm;obtain⟨h5,hm⟩:=hm
    replace hm:=ZC hm;obtain⟨s5,h6,hm⟩:=hm
    replace hm:=QF hm;obtain⟨b0,h7,hm⟩:=hm
    refine .reg (eC 2 (keep AO (bb (an (Nat.blt k1 (Sl.n s2)) true) (some (Cv (k1*1) (Sl.cs s2))) none)) (AX h3) (eD (keep AO (AL (Sl.cs s2) (k1*1))) (AZ h4) (eC 2 (keep AO (bb (an (Nat.blt k1 (Sl.n s3)) true) (some (Cv (k1*1) (Sl.cs s3))) none)) (AX h5) (eD (keep AO (AL (Sl.cs s3) (k1*1))) (AZ h6) (eD ((oo (pu 22 [Sl.v 1 s4,Sl.v 1 s5]) none fun v=>some (v,AO))) (AB h7) (eE)))))) ?_
    refine .ghs (fr 27 [(0,Sl.v 1 s2),(1,Sl.v 1 s3),(5,(zI (Int.ofNat k1))),(26,(zB (nt b0)))]) AO (.k0 [false] [] [0,1,5,26]) ?_
    replace hm:=Ag hm;rcases hm with⟨h8,hm⟩ | ⟨h8,hm⟩
    ·refine C8 (nt b0) h8 ?_
     refine .then (.rK (.ghs (fr 27 [(4,zB false)]) AO (.k0 [false] [] [4]) ?_))
     refine .ret ?_
     exact Ay (zB false) hm
    ·refine Dn (nt b0) h8 ?_
     refine .skip (.ghs (fr 27 [(0,Sl.v 1 s2),(1,Sl.v 1 s3),(5,(zI (Int.ofNat k1)))]) AO (.k0 [false] [] [0,1,5]) ?_)
     refine .rK ?_
     exact⟨(s2,s3,(Aj .i64 (Int.add (Int.ofNat k1) (1:Int)))),hm,(.k0 [false] [] [0,1,5])⟩
   ·refine Dn (AY z0 (Int.ofNat (Sl.n s2))) h1 ?_
    refine .exit ?_
    exact⟨(),hm,(.k0 [false] [] [])⟩
def UE (pu:Af) (n:Nat):OV:=
 (some (.bool true))
def Pk (pu:Af) (n:Nat) (ih0:Sl→Sl→Int→OV) (s0 s1:Sl) (z0:Int):OV:=
 (bb (AY z0 (Int.ofNat (Sl.n s0))) (oo (EA z0) none fun k1=>(bb (an (Nat.blt k1 (Sl.n s0)) true) (oo (AL (Sl.cs s0) (k1*1)) none fun v0=>(oo (Bi .i64 v0) none fun x0=>(bb (an (Nat.blt k1 (Sl.n s1)) true) (oo (AL (Sl.cs s1) (k1*1)) none fun v1=>(oo (Bi .i64 v1) none fun x1=>(bb (nt (Bd x0 x1)) (some (.bool false)) (ih0 s0 s1 (Aj .i64 (Int.add (Int.ofNat k1) (1:Int))))))) none))) none)) (UE pu n))
def Pm (pu:Af) (n w:Nat):Sl→Sl→Int→OV:=
 Nat.rec (motive:=fun _=>Sl→Sl→Int→OV) (fun _ _ _=>none) (fun _ ih0=>Pk pu n ih0) w
def AcW (pu:Af) (n:Nat) (s0 s1:Sl):OV:=
 (bb (nt (Bd (Int.ofNat (Sl.n s0)) (Int.ofNat (Sl.n s1)))) (some (.bool false)) (Pm pu n n s0 s1 (0:Int)))
def zG (pu:Af) (n:Nat) (args:LV):OV:=
 (ll args none fun a0 args=>(ll args none fun a1 args=>(ll args (oo (Bj 1 a0) none fun s0=>(oo (Bj 1 a1) none fun s1=>(AcW pu n s0 s1))) fun _ _=>none)))
theorem AcX (pu:Af) (n:Nat) {v:Value} (hm:UE pu n=some v):BN tt (Bb tabs isP pu (inl pu)) 1 ZE (fr 26 []) AO (Fin tt 1 [.tmp 4] v):=by
 unfold UE at hm
 refine .then (.rK (.ghs (fr 26 [(4,zB true)]) AO (.k0 [false] [] [4]) ?_))
 refine .ret ?_
 exact Ay (zB true) hm
theorem r22 {call:A8} (pu:Af) (n:Nat) (hcall:call=Bb tabs isP pu (inl pu)) {args:LV} {v:Value} (hm:zG pu n args=some v) (_:∀ x∈args,closed2 x=true):args.length≤26∧BN tt call 1 Sc (Fr.made 26 args) (Ao tabs) (Fin tt 1 [.tmp 4] v):=by
 subst hcall
 unfold zG at hm
 replace hm:=Ad hm;obtain⟨a0,args_0,rfl,hm⟩:=hm
 replace hm:=Ad hm;obtain⟨a1,args_1,rfl,hm⟩:=hm
 replace hm:=AC hm;obtain⟨rfl,hm⟩:=hm
 replace hm:=Al hm;obtain⟨s0,rfl,hm⟩:=hm
 replace hm:=Al hm;obtain⟨s1,rfl,hm⟩:=hm
 unfold AcW at hm
 refine⟨by simp,?_⟩
 refine .same (F':=(fr 26 [(0,Sl.v 1 s0),(1,Sl.v 1 s1)])) (H':=AO) (by kernel_rfl) (by kernel_rfl) ?_
 refine .then (.rK (.ghs (fr 26 [(0,Sl.v 1 s0),(1,Sl.v 1 s1)]) AO (.k0 [false] [] [0,1]) ?_))
 refine .then (.then (.rK (.ghs (fr 26 [(0,Sl.v 1 s0),(1,Sl.v 1 s1),(10,(zB (nt (Bd (Int.ofNat (Sl.n s0)) (Int.ofNat (Sl.n s1))))))]) AO (.k0 [false] [] [0,1,10]) ?_)))
 replace hm:=Ag hm;rcases hm with⟨h0,hm⟩ | ⟨h0,hm⟩
 ·refine C8 (nt (Bd (Int.ofNat (Sl.n s0)) (Int.ofNat (Sl.n s1)))) h0 ?_
  refine .then (.rK (.ghs (fr 26 [(4,zB false)]) AO (.k0 [false] [] [4]) ?_))
  refine .ret ?_
  exact Ay (zB false) hm
 ·refine Dn (nt (Bd (Int.ofNat (Sl.n s0)) (Int.ofNat (Sl.n s1)))) h0 ?_
  refine .skip (.ghs (fr 26 [(0,Sl.v 1 s0),(1,Sl.v 1 s1)]) AO (.k0 [false] [] [0,1]) ?_)
  refine .join (v:=v) (fun y:Unit=>((fr 26 []),AO)) (fun y=>UE pu n) ?_ ?_
  ·rintro _ hm
   exact AcX pu n hm
  ·refine .then (.rK (.ghs (fr 26 [(0,Sl.v 1 s0),(1,Sl.v 1 s1),(5,(zI (0:Int)))]) AO (.k0 [false] [] [0,1,5]) ?_))
   refine .block (.loopM (v:=v) (fun y:Sl×Sl×Int=>((fr 26 [(0,(Sl.v 1 y.1)),(1,(Sl.v 1 y.2.1)),(5,(zI y.2.2))]),AO)) (fun w y=>Pm pu n w y.1 y.2.1 y.2.2) n ⟨(s0,s1,(0:Int)),hm,(.k0 [false] [] [0,1,5])⟩ (fun _=>rfl) ?_)
   rintro w0 ⟨s2,s3,z0⟩ hm
   replace hm:Pk pu n (Pm pu n w0) s2 s3 z0=some v:=hm
   unfold Pk at hm
   refine .then (.then (.rK (.ghs (fr 26 [(0,Sl.v 1 s2),(1,Sl.v 1 s3),(5,zI z0),(14,(zB (AY z0 (Int.ofNat (Sl.n s2)))))]) AO (.k0 [false] [] [0,1,5,14]) ?_)))
   replace hm:=Ag hm;rcases hm with⟨h1,hm⟩ | ⟨h1,hm⟩
   ·refine C8 (AY z0 (Int.ofNat (Sl.n s2))) h1 ?_
    refine .skip (.ghs (fr 26 [(0,Sl.v 1 s2),(1,Sl.v 1 s3),(5,zI z0)]) AO (.k0 [false] [] [0,1,5]) ?_)
    refine .then (.block (.then ?_))
    replace hm:=Ab hm;obtain⟨k1,h2,hm⟩:=hm
    obtain rfl:=AR h2
    replace hm:=Ae hm;obtain⟨h3,hm⟩:=hm
    replace hm:=Kc hm;obtain⟨x0,h4,hm⟩:=hm
    replace hm:=Ae hm;obtain⟨h5,hm⟩:=hm
    replace hm:=Kc hm;obtain⟨x1,h6,hm⟩:=hm
    refine .reg (eC 2 (keep AO (bb (an (Nat.blt k1 (Sl.n s2)) true) (some (Cv (k1*1) (Sl.cs s2))) none)) (AX h3) (eD (keep AO (AL (Sl.cs s2) (k1*1))) (AZ h4) (eC 2 (keep AO (bb (an (Nat.blt k1 (Sl.n s3)) true) (some (Cv (k1*1) (Sl.cs s3))) none)) (AX h5) (eD (keep AO (AL (Sl.cs s3) (k1*1))) (AZ h6) (eE))))) ?_
    refine .ghs (fr 26 [(0,Sl.v 1 s2),(1,Sl.v 1 s3),(5,(zI (Int.ofNat k1))),(25,(zB (nt (Bd x0 x1))))]) AO (.k0 [false] [] [0,1,5,25]) ?_
    replace hm:=Ag hm;rcases hm with⟨h7,hm⟩ | ⟨h7,hm⟩
    ·refine C8 (nt (Bd x0 x1)) h7 ?_
     refine .then (.rK (.ghs (fr 26 [(4,zB false)]) AO (.k0 [false] [] [4]) ?_))
     refine .ret ?_
     exact Ay (zB false) hm
    ·refine Dn (nt (Bd x0 x1)) h7 ?_
     refine .skip (.ghs (fr 26 [(0,Sl.v 1 s2),(1,Sl.v 1 s3),(5,(zI (Int.ofNat k1)))]) AO (.k0 [false] [] [0,1,5]) ?_)
     refine .rK ?_
     exact⟨(s2,s3,(Aj .i64 (Int.add (Int.ofNat k1) (1:Int)))),hm,(.k0 [false] [] [0,1,5])⟩
   ·refine Dn (AY z0 (Int.ofNat (Sl.n s2))) h1 ?_
    refine .exit ?_
    exact⟨(),hm,(.k0 [false] [] [])⟩
def Xa (pu:Af) (n:Nat) (z0 z1 z2:Int) (s0:Sl) (n0 c0:Nat) (q0:LV):OV:=
 (bb (Au Ah q0) (bb (an (Nat.ble (0+n0*1) (len q0)) (Au Ah (Aq (n0*1) (Am 0 q0)))) (some (.tuple ⟨[(Cv 0 ([.int .i64 z0,.int .i64 z1,.int .i64 z2,Sl.v 1 s0,(Sl.v 1 (Sl.mk n0 0 (Aq (n0*1) (Am 0 q0))))]:LV)),(.int .i64 (0:Int))]⟩)) none) none)
def bY (pu:Af) (n:Nat) (ih0:Int→Sl→Int→Int→Int→Int→Int→Sl→Int→Int→Int→Sl→Nat→Nat→LV→OV) (z0:Int) (s0:Sl) (z1 z2 z3 z4 z5:Int) (s1:Sl) (z6 z7 z8:Int) (s2:Sl) (n0 c0:Nat) (q0:LV):OV:=
 (bb (Au Ah q0) (ih0 z0 s0 z1 (Aj .i64 (Int.add z2 (1:Int))) z3 z4 z5 s1 z6 z7 z8 s2 n0 c0 q0) none)
def bZ (pu:Af) (n:Nat) (ih0:Int→Sl→Int→Int→Int→Int→Int→Sl→Int→Int→Int→Sl→Nat→Nat→LV→OV) (ih1:Int→Int→Sl→Int→Int→Sl→Int→Int→Int→Int→Int→Sl→Int→Int→Int→Sl→Nat→Nat→LV→OV) (z0 z1:Int) (s0:Sl) (z2 z3:Int) (s1:Sl) (z4 z5 z6 z7 z8:Int) (s2:Sl) (z9 z10 z11:Int) (s3:Sl) (n0 c0:Nat) (q0:LV):OV:=
 (bb (Au Ah q0) (bb (AY z5 z4) (oo (EA z5) none fun k1=>(bb (an (Nat.blt k1 (Sl.n s1)) true) (oo (AL (Sl.cs s1) (k1*1)) none fun v0=>(oo (Bi .i64 v0) none fun x0=>(oo (pu 35 [.int .i64 z1]) none fun v1=>(oo (Bt v1) none fun l0=>(ll l0 none fun v2 l0=>(ll l0 none fun v3 l0=>(ll l0 (oo (Bi .i64 v2) none fun x1=>(oo (Bf v3) none fun b0=>(oo (pu 35 [.int .i64 x0]) none fun v4=>(oo (Bt v4) none fun l1=>(ll l1 none fun v5 l1=>(ll l1 none fun v6 l1=>(ll l1 (oo (Bi .i64 v5) none fun x2=>(oo (Bf v6) none fun b1=>(oo (pu 36 [(.agg ⟨[.int .i64 x1,(.bool b0)]⟩),(.agg ⟨[.int .i64 x2,(.bool b1)]⟩)]) none fun v7=>(oo (Bt v7) none fun l2=>(ll l2 none fun v8 l2=>(ll l2 none fun v9 l2=>(ll l2 (oo (Bi .i64 v8) none fun x3=>(oo (Bf v9) none fun b2=>(oo (pu 37 [(.agg ⟨[.int .i64 x3,(.bool b2)]⟩)]) none fun v10=>(oo (Bi .i64 v10) none fun x4=>(oo (EA x4) none fun k2=>(bb (Bd (Np .u8 (G6 .u8 z0 k2) (1:Int)) (0:Int)) (some (.tuple ⟨[(.pointer none),(.int .i64 (21:Int))]⟩)) (ih1 z0 z1 s0 z2 z3 s1 z4 (Aj .i64 (Int.add (Int.ofNat k1) (1:Int))) z6 z7 z8 s2 z9 z10 z11 s3 n0 c0 q0))))))) fun _ _=>none))))))) fun _ _=>none))))))) fun _ _=>none))))))) none)) (bY pu n ih0 z0 s0 z2 z3 z6 z7 z8 s2 z9 z10 z11 s3 n0 c0 q0)) none)
def cB (pu:Af) (n:Nat) (ih0:Int→Sl→Int→Int→Int→Int→Int→Sl→Int→Int→Int→Sl→Nat→Nat→LV→OV) (w:Nat):Int→Int→Sl→Int→Int→Sl→Int→Int→Int→Int→Int→Sl→Int→Int→Int→Sl→Nat→Nat→LV→OV:=
 Nat.rec (motive:=fun _=>Int→Int→Sl→Int→Int→Sl→Int→Int→Int→Int→Int→Sl→Int→Int→Int→Sl→Nat→Nat→LV→OV) (fun _ _ _ _ _ _ _ _ _ _ _ _ _ _ _ _ _ _ _=>none) (fun _ ih1=>bZ pu n ih0 ih1) w
def cK (pu:Af) (n:Nat) (ih0:Int→Sl→Int→Int→Int→Int→Int→Sl→Int→Int→Int→Sl→Nat→Nat→LV→OV) (z0:Int) (s0:Sl) (z1 z2 z3 z4 z5:Int) (s1:Sl) (z6 z7 z8:Int) (s2:Sl) (n0 c0:Nat) (q0:LV):OV:=
 (bb (Au Ah q0) (bb (AY z2 z1) (oo (EA z2) none fun k1=>(bb (an (Nat.blt k1 (Sl.n s0)) true) (oo (AL (Sl.cs s0) (k1*1)) none fun v0=>(oo (Bi .i64 v0) none fun x0=>(cB pu n ih0 n z0 x0 s0 z1 (Int.ofNat k1) s1 (Int.ofNat (Sl.n s1)) (0:Int) z3 z4 z5 s1 z6 z7 z8 s2 n0 c0 q0))) none)) (Xa pu n z6 z7 z8 s2 n0 c0 q0)) none)
def Pn (pu:Af) (n w:Nat):Int→Sl→Int→Int→Int→Int→Int→Sl→Int→Int→Int→Sl→Nat→Nat→LV→OV:=
 Nat.rec (motive:=fun _=>Int→Sl→Int→Int→Int→Int→Int→Sl→Int→Int→Int→Sl→Nat→Nat→LV→OV) (fun _ _ _ _ _ _ _ _ _ _ _ _ _ _ _=>none) (fun _ ih0=>cK pu n ih0) w
def Xb (pu:Af) (n:Nat) (z0 z1 z2 z3:Int) (s0:Sl) (z4 z5 z6:Int) (s1:Sl) (n0 c0:Nat) (q0:LV):OV:=
 (bb (Au Ah q0) (bb (Bd (Np .u8 z0 (1:Int)) (0:Int)) (some (.tuple ⟨[(.pointer none),(.int .i64 (21:Int))]⟩)) (Pn pu n n z0 s0 (Int.ofNat (Sl.n s0)) (0:Int) z1 z2 z3 s0 z4 z5 z6 s1 n0 c0 q0)) none)
def Ow (pu:Af) (n:Nat) (ih0:Int→Int→Sl→Int→Int→Int→Int→Int→Sl→Int→Int→Int→Sl→Nat→Nat→LV→OV) (z0 z1 z2:Int) (s0:Sl) (z3 z4:Int) (b0:Bool) (z5 z6 z7:Int) (s1:Sl) (z8 z9 z10:Int) (s2:Sl) (n0 c0:Nat) (q0:LV):OV:=
 (bb b0 (some (.tuple ⟨[(.pointer none),(.int .i64 (8:Int))]⟩)) (bb (Au Ah q0) (bb (nt (AY z0 z2)) (some (.tuple ⟨[(.pointer none),(.int .i64 (7:Int))]⟩)) (oo (EA z2) none fun k1=>(oo (pu 53 [(.agg ⟨[.int .i64 z5,.int .i64 z6,.int .i64 z7,Sl.v 1 s1]⟩),(.int .i64 (Int.ofNat k1))]) none fun v0=>(oo (Bj 1 v0) none fun s3=>(bb (GV 1 24 n0 c0 1 q0) (bb (Au Ah (Br (Am 0 q0) [Sl.v 1 s3])) (ih0 (Int.ofNat k1) (jF .u8 z1 (QW .u8 (1:Int) k1)) s0 z3 (Aj .i64 (Int.add z4 (1:Int))) z5 z6 z7 s1 z8 z9 z10 s2 (n0+1) (2*(n0+1)+bb false 1 0) (Br (Am 0 q0) [Sl.v 1 s3])) none) none))))) none))
def UF (pu:Af) (n:Nat) (ih0:Int→Int→Sl→Int→Int→Int→Int→Int→Sl→Int→Int→Int→Sl→Nat→Nat→LV→OV) (z0 z1:Int) (s0:Sl) (z2 z3 z4 z5 z6:Int) (s1:Sl) (z7 z8 z9:Int) (s2:Sl) (n0 c0:Nat) (q0:LV):OV:=
 (bb (Au Ah q0) (bb (AY z3 z2) (oo (EA z3) none fun k1=>(bb (an (Nat.blt k1 (Sl.n s0)) true) (oo (AL (Sl.cs s0) (k1*1)) none fun v0=>(oo (Bi .i64 v0) none fun x0=>(oo (pu 34 [(.int .i64 (0:Int)),.int .i64 x0,(.int .i64 (7:Int))]) none fun v1=>(oo (Bf v1) none fun b0=>(bb (nt b0) (some (.tuple ⟨[(.pointer none),(.int .i64 (2:Int))]⟩)) (bb (nt (Bd z4 z5)) (oo (pu 35 [.int .i64 x0]) none fun v2=>(oo (Bt v2) none fun l0=>(ll l0 none fun v3 l0=>(ll l0 none fun v4 l0=>(ll l0 (oo (Bi .i64 v3) none fun x1=>(oo (Bf v4) none fun b1=>(Ow pu n ih0 z0 z1 x0 s0 z2 (Int.ofNat k1) (Bd (Int.tmod x1 (2:Int)) (1:Int)) z4 z5 z6 s1 z7 z8 z9 s2 n0 c0 q0))) fun _ _=>none))))) (Ow pu n ih0 z0 z1 x0 s0 z2 (Int.ofNat k1) false z4 z5 z6 s1 z7 z8 z9 s2 n0 c0 q0))))))) none)) (Xb pu n z1 z4 z5 z6 s1 z7 z8 z9 s2 n0 c0 q0)) none)
def K8 (pu:Af) (n w:Nat):Int→Int→Sl→Int→Int→Int→Int→Int→Sl→Int→Int→Int→Sl→Nat→Nat→LV→OV:=
 Nat.rec (motive:=fun _=>Int→Int→Sl→Int→Int→Int→Int→Int→Sl→Int→Int→Int→Sl→Nat→Nat→LV→OV) (fun _ _ _ _ _ _ _ _ _ _ _ _ _ _ _ _=>none) (fun _ ih0=>UF pu n ih0) w
def K5 (pu:Af) (n:Nat) (b0:Bool) (z0 z1 z2:Int) (s0:Sl):OV:=
 (bb b0 (some (.tuple ⟨[(.pointer none),(.int .i64 (1:Int))]⟩)) (K8 pu n n (-1:Int) (0:Int) s0 (Int.ofNat (Sl.n s0)) (0:Int) z0 z1 z2 s0 z0 z1 z2 s0 0 0 ([]:LV)))
def AcY (pu:Af) (n:Nat) (x0 x1 x2:Int) (s0:Sl):OV:=
 (oo (pu 34 [(.int .i64 (1:Int)),.int .i64 x0,(.int .i64 (4:Int))]) none fun v0=>(oo (Bf v0) none fun b0=>(bb (nt b0) (K5 pu n true x0 x1 x2 s0) (oo (pu 34 [(.int .i64 (1:Int)),.int .i64 x1,(.int .i64 (4:Int))]) none fun v1=>(oo (Bf v1) none fun b1=>(bb (nt b1) (K5 pu n true x0 x1 x2 s0) (oo (pu 34 [(.int .i64 (1:Int)),.int .i64 x2,(.int .i64 (4:Int))]) none fun v2=>(oo (Bf v2) none fun b2=>(K5 pu n (nt b2) x0 x1 x2 s0)))))))))
def m25 (pu:Af) (n:Nat) (args:LV):OV:=
 (ll args none fun a0 args=>(ll args (oo (Bt a0) none fun l0=>(ll l0 none fun v0 l0=>(ll l0 none fun v1 l0=>(ll l0 none fun v2 l0=>(ll l0 none fun v3 l0=>(ll l0 (oo (Bi .i64 v0) none fun x0=>(oo (Bi .i64 v1) none fun x1=>(oo (Bi .i64 v2) none fun x2=>(oo (Bj 1 v3) none fun s0=>(AcY pu n x0 x1 x2 s0))))) fun _ _=>none)))))) fun _ _=>none))
theorem Ac0 (pu:Af) (n:Nat) (z0 z1 z2:Int) (s0:Sl) (n0 c0:Nat) (q0:LV) {v:Value} (hm:Xa pu n z0 z1 z2 s0 n0 c0 q0=some v):BN tt (Bb tabs isP pu (inl pu)) 1 ZF (fr 110 [(4,pt 1 0)]) (hT 3 [(oC [zI z0,zI z1,zI z2,Sl.v 1 s0,sc 2 0 1 n0 c0]),oC q0]) (Fin tt 1 [.tmp 2,.tmp 3] v):=by
 unfold Xa at hm
 refine .then (.rK ?_)
 replace hm:=Ae hm;obtain⟨h0,hm⟩:=hm
 refine .ghs (fr 110 [(2,pt 1 0),(3,(zI (0:Int)))]) (hT 3 [(oC [zI z0,zI z1,zI z2,Sl.v 1 s0,sc 2 0 1 n0 c0]),oC q0]) (.k [2] [false] [.tmp 2 true,.cell 1 4 false] [2,3] ⟨BO h0,trivial⟩) ?_
 replace hm:=Ae hm;obtain⟨h1,hm⟩:=hm
 refine .ghs (Fr.puts (fr 110 [(2,pt 1 0),(3,(zI (0:Int)))]) [(2,(Cv 0 ([zI z0,zI z1,zI z2,Sl.v 1 s0,(Sl.v 1 (Sl.mk n0 0 (Aq (n0*1) (Am 0 q0))))]:LV)))]) (hT 3 [.dead,.dead]) (.frzC 1 1 4 [zI z0,zI z1,zI z2,Sl.v 1 s0,sc 2 0 1 n0 c0] (an (Nat.ble (0+n0*1) (len q0)) (Au Ah (Aq (n0*1) (Am 0 q0)))) (v:=(sc 2 0 1 n0 c0)) (v':=(Sl.v 1 (Sl.mk n0 0 (Aq (n0*1) (Am 0 q0))))) (H1:=(hT 3 [(oC [zI z0,zI z1,zI z2,Sl.v 1 s0,sc 2 0 1 n0 c0]),.dead])) (imm:=false) (spent:=false) (anc:=[]) h1 (.frzP 1 2 1 0 ([zI z0,zI z1,zI z2,Sl.v 1 s0,(Sl.v 1 (Sl.mk n0 0 (Aq (n0*1) (Am 0 q0))))]:LV) true (anc:=[]) (by kernel_rfl) rfl (E9.id _ _))) ?_
 refine .ret ?_
 exact Ay (.tuple ⟨[(Cv 0 ([zI z0,zI z1,zI z2,Sl.v 1 s0,(Sl.v 1 (Sl.mk n0 0 (Aq (n0*1) (Am 0 q0))))]:LV)),(zI (0:Int))]⟩) hm
theorem Ac1 (pu:Af) (n:Nat) (z0 z1 z2 z3:Int) (s0:Sl) (z4 z5 z6:Int) (s1:Sl) (n0 c0:Nat) (q0:LV) {v:Value} (hm:Xb pu n z0 z1 z2 z3 s0 z4 z5 z6 s1 n0 c0 q0=some v):BN tt (Bb tabs isP pu (inl pu)) 1 ZG (fr 110 [(1,pt 1 0),(4,(pt 2 0)),(6,(zY z0))]) (hT 4 [(oC [zI z1,zI z2,zI z3,Sl.v 1 s0]),(oC [zI z4,zI z5,zI z6,Sl.v 1 s1,sc 3 0 1 n0 c0]),oC q0]) (Fin tt 1 [.tmp 2,.tmp 3] v):=by
 unfold Xb at hm
 refine .then (.then (.rK ?_))
 replace hm:=Ae hm;obtain⟨h0,hm⟩:=hm
 refine .ghs (fr 110 [(1,pt 1 0),(4,(pt 2 0)),(6,(zY z0)),(81,(zB (Bd (Np .u8 z0 (1:Int)) (0:Int))))]) (hT 4 [(oC [zI z1,zI z2,zI z3,Sl.v 1 s0]),(oC [zI z4,zI z5,zI z6,Sl.v 1 s1,sc 3 0 1 n0 c0]),oC q0]) (.k [3] [false] [.tmp 1 false,.tmp 4 true,.cell 2 4 false] [1,4,6,81] ⟨BO h0,trivial⟩) ?_
 replace hm:=Ag hm;rcases hm with⟨h1,hm⟩ | ⟨h1,hm⟩
 ·refine C8 (Bd (Np .u8 z0 (1:Int)) (0:Int)) h1 ?_
  refine .then (.rK (.ghs (fr 110 [(2,(.pointer none)),(3,(zI (21:Int)))]) AO (.k0 [false] [] [2,3]) ?_))
  refine .ret ?_
  exact Ay (.tuple ⟨[(.pointer none),(zI (21:Int))]⟩) hm
 ·refine Dn (Bd (Np .u8 z0 (1:Int)) (0:Int)) h1 ?_
  refine .skip (.ghs (fr 110 [(1,pt 1 0),(4,(pt 2 0)),(6,(zY z0))]) (hT 4 [(oC [zI z1,zI z2,zI z3,Sl.v 1 s0]),(oC [zI z4,zI z5,zI z6,Sl.v 1 s1,sc 3 0 1 n0 c0]),oC q0]) (.k [3] [false] [.tmp 1 false,.tmp 4 true,.cell 2 4 false] [1,4,6] ⟨BO h0,trivial⟩) ?_)
  refine .join (v:=v) (fun y:Int×Int×Int×Sl×Nat×Nat×LV=>((fr 110 [(4,pt 1 0)]),(hT 3 [(oC [(zI y.1),(zI y.2.1),(zI y.2.2.1),(Sl.v 1 y.2.2.2.1),(sc 2 0 1 y.2.2.2.2.1 y.2.2.2.2.2.1)]),(oC y.2.2.2.2.2.2)]))) (fun y=>Xa pu n y.1 y.2.1 y.2.2.1 y.2.2.2.1 y.2.2.2.2.1 y.2.2.2.2.2.1 y.2.2.2.2.2.2) ?_ ?_
  ·rintro⟨z7,z8,z9,s2,n1,c1,q1⟩ hm
   exact Ac0 pu n z7 z8 z9 s2 n1 c1 q1 hm
  ·refine .then (.rK (.ghs (fr 110 [(1,pt 1 0),(4,(pt 2 0)),(6,(zY z0)),(83,Sl.v 1 s0),(84,(zI (Int.ofNat (Sl.n s0)))),(85,(zI (0:Int)))]) (hT 4 [(oC [zI z1,zI z2,zI z3,Sl.v 1 s0]),(oC [zI z4,zI z5,zI z6,Sl.v 1 s1,sc 3 0 1 n0 c0]),oC q0]) (.k [3] [false] [.tmp 1 false,.tmp 4 true,.cell 2 4 false] [1,4,6,83,84,85] ⟨BO h0,trivial⟩) ?_))
   refine .block (.loopM (v:=v) (fun y:Int×Sl×Int×Int×Int×Int×Int×Sl×Int×Int×Int×Sl×Nat×Nat×LV=>((fr 110 [(1,pt 1 0),(4,(pt 2 0)),(6,(zY y.1)),(83,(Sl.v 1 y.2.1)),(84,(zI y.2.2.1)),(85,(zI y.2.2.2.1))]),(hT 4 [(oC [(zI y.2.2.2.2.1),(zI y.2.2.2.2.2.1),(zI y.2.2.2.2.2.2.1),(Sl.v 1 y.2.2.2.2.2.2.2.1)]),(oC [(zI y.2.2.2.2.2.2.2.2.1),(zI y.2.2.2.2.2.2.2.2.2.1),(zI y.2.2.2.2.2.2.2.2.2.2.1),(Sl.v 1 y.2.2.2.2.2.2.2.2.2.2.2.1),(sc 3 0 1 y.2.2.2.2.2.2.2.2.2.2.2.2.1 y.2.2.2.2.2.2.2.2.2.2.2.2.2.1)]),(oC y.2.2.2.2.2.2.2.2.2.2.2.2.2.2)]))) (fun w y=>Pn pu n w y.1 y.2.1 y.2.2.1 y.2.2.2.1 y.2.2.2.2.1 y.2.2.2.2.2.1 y.2.2.2.2.2.2.1 y.2.2.2.2.2.2.2.1 y.2.2.2.2.2.2.2.2.1 y.2.2.2.2.2.2.2.2.2.1 y.2.2.2.2.2.2.2.2.2.2.1 y.2.2.2.2.2.2.2.2.2.2.2.1 y.2.2.2.2.2.2.2.2.2.2.2.2.1 y.2.2.2.2.2.2.2.2.2.2.2.2.2.1 y.2.2.2.2.2.2.2.2.2.2.2.2.2.2) n ⟨(z0,s0,(Int.ofNat (Sl.n s0)),(0:Int),z1,z2,z3,s0,z4,z5,z6,s1,n0,c0,q0),hm,(.k [3] [false] [.tmp 1 false,.tmp 4 true,.cell 2 4 false] [1,4,6,83,84,85] ⟨BO h0,trivial⟩)⟩ (fun _=>rfl) ?_)
   rintro w0 ⟨z10,s3,z11,z12,z13,z14,z15,s4,z16,z17,z18,s5,n2,c2,q2⟩ hm
   replace hm:cK pu n (Pn pu n w0) z10 s3 z11 z12 z13 z14 z15 s4 z16 z17 z18 s5 n2 c2 q2=some v:=hm
   unfold cK at hm
   refine .then (.rK ?_)
   replace hm:=Ae hm;obtain⟨h2,hm⟩:=hm
   refine .ghs (fr 110 [(1,pt 1 0),(4,(pt 2 0)),(6,(zY z10)),(83,Sl.v 1 s3),(84,zI z11),(85,zI z12),(86,(zB (AY z12 z11)))]) (hT 4 [(oC [zI z13,zI z14,zI z15,Sl.v 1 s4]),(oC [zI z16,zI z17,zI z18,Sl.v 1 s5,sc 3 0 1 n2 c2]),oC q2]) (.k [3] [false] [.tmp 1 false,.tmp 4 true,.cell 2 4 false] [1,4,6,83,84,85,86] ⟨BO h2,trivial⟩) ?_
   refine .then ?_
   replace hm:=Ag hm;rcases hm with⟨h3,hm⟩ | ⟨h3,hm⟩
   ·refine C8 (AY z12 z11) h3 ?_
    refine .skip (.ghs (fr 110 [(1,pt 1 0),(4,(pt 2 0)),(6,(zY z10)),(83,Sl.v 1 s3),(84,zI z11),(85,zI z12)]) (hT 4 [(oC [zI z13,zI z14,zI z15,Sl.v 1 s4]),(oC [zI z16,zI z17,zI z18,Sl.v 1 s5,sc 3 0 1 n2 c2]),oC q2]) (.k [3] [false] [.tmp 1 false,.tmp 4 true,.cell 2 4 false] [1,4,6,83,84,85] ⟨BO h2,trivial⟩) ?_)
    refine .join (v:=v) (fun y:Int×Sl×Int×Int×Int×Int×Int×Sl×Int×Int×Int×Sl×Nat×Nat×LV=>((fr 110 [(1,pt 1 0),(4,(pt 2 0)),(6,(zY y.1)),(83,(Sl.v 1 y.2.1)),(84,(zI y.2.2.1)),(85,(zI y.2.2.2.1))]),(hT 4 [(oC [(zI y.2.2.2.2.1),(zI y.2.2.2.2.2.1),(zI y.2.2.2.2.2.2.1),(Sl.v 1 y.2.2.2.2.2.2.2.1)]),(oC [(zI y.2.2.2.2.2.2.2.2.1),(zI y.2.2.2.2.2.2.2.2.2.1),(zI y.2.2.2.2.2.2.2.2.2.2.1),(Sl.v 1 y.2.2.2.2.2.2.2.2.2.2.2.1),(sc 3 0 1 y.2.2.2.2.2.2.2.2.2.2.2.2.1 y.2.2.2.2.2.2.2.2.2.2.2.2.2.1)]),(oC y.2.2.2.2.2.2.2.2.2.2.2.2.2.2)]))) (fun y=>bY pu n (Pn pu n w0) y.1 y.2.1 y.2.2.1 y.2.2.2.1 y.2.2.2.2.1 y.2.2.2.2.2.1 y.2.2.2.2.2.2.1 y.2.2.2.2.2.2.2.1 y.2.2.2.2.2.2.2.2.1 y.2.2.2.2.2.2.2.2.2.1 y.2.2.2.2.2.2.2.2.2.2.1 y.2.2.2.2.2.2.2.2.2.2.2.1 y.2.2.2.2.2.2.2.2.2.2.2.2.1 y.2.2.2.2.2.2.2.2.2.2.2.2.2.1 y.2.2.2.2.2.2.2.2.2.2.2.2.2.2) ?_ ?_
    ·rintro⟨z19,s6,z20,z21,z22,z23,z24,s7,z25,z26,z27,s8,n3,c70,q3⟩ hm
     unfold bY at hm
     refine .rK ?_
     replace hm:=Ae hm;obtain⟨h4,hm⟩:=hm
     exact⟨(z19,s6,z20,(Aj .i64 (Int.add z21 (1:Int))),z22,z23,z24,s7,z25,z26,z27,s8,n3,c70,q3),hm,(.k [3] [false] [.tmp 1 false,.tmp 4 true,.cell 2 4 false] [1,4,6,83,84,85] ⟨BO h4,trivial⟩)⟩
    ·refine .block (.then ?_)
     replace hm:=Ab hm;obtain⟨k1,h5,hm⟩:=hm
     obtain rfl:=AR h5
     replace hm:=Ae hm;obtain⟨h6,hm⟩:=hm
     replace hm:=Kc hm;obtain⟨x0,h7,hm⟩:=hm
     refine .reg (eD (keep (hT 4 [(oC [zI z13,zI z14,zI z15,Sl.v 1 s4]),(oC [zI z16,zI z17,zI z18,Sl.v 1 s5,sc 3 0 1 n2 c2]),oC q2]) (bb (an (Nat.blt k1 (Sl.n s3)) true) (some (Cv (k1*1) (Sl.cs s3))) none)) (AX h6) (eD (keep (hT 4 [(oC [zI z13,zI z14,zI z15,Sl.v 1 s4]),(oC [zI z16,zI z17,zI z18,Sl.v 1 s5,sc 3 0 1 n2 c2]),oC q2]) (AL (Sl.cs s3) (k1*1))) (AZ h7) (eE))) ?_
     refine .ghs (fr 110 [(1,pt 1 0),(4,(pt 2 0)),(6,(zY z10)),(10,zI x0),(83,Sl.v 1 s3),(84,zI z11),(85,(zI (Int.ofNat k1)))]) (hT 4 [(oC [zI z13,zI z14,zI z15,Sl.v 1 s4]),(oC [zI z16,zI z17,zI z18,Sl.v 1 s5,sc 3 0 1 n2 c2]),oC q2]) (.k [3] [false] [.tmp 1 false,.tmp 4 true,.cell 2 4 false] [1,4,6,10,83,84,85] ⟨BO h2,trivial⟩) ?_
     refine .then (.rK (.ghs (fr 110 [(1,pt 1 0),(4,(pt 2 0)),(6,(zY z10)),(10,zI x0),(83,Sl.v 1 s3),(84,zI z11),(85,(zI (Int.ofNat k1))),(90,Sl.v 1 s4),(91,(zI (Int.ofNat (Sl.n s4)))),(92,(zI (0:Int)))]) (hT 4 [(oC [zI z13,zI z14,zI z15,Sl.v 1 s4]),(oC [zI z16,zI z17,zI z18,Sl.v 1 s5,sc 3 0 1 n2 c2]),oC q2]) (.k [3] [false] [.tmp 1 false,.tmp 4 true,.cell 2 4 false] [1,4,6,10,83,84,85,90,91,92] ⟨BO h2,trivial⟩) ?_))
     refine .block (.loopM (v:=v) (fun y:Int×Int×Sl×Int×Int×Sl×Int×Int×Int×Int×Int×Sl×Int×Int×Int×Sl×Nat×Nat×LV=>((fr 110 [(1,pt 1 0),(4,(pt 2 0)),(6,(zY y.1)),(10,(zI y.2.1)),(83,(Sl.v 1 y.2.2.1)),(84,(zI y.2.2.2.1)),(85,(zI y.2.2.2.2.1)),(90,(Sl.v 1 y.2.2.2.2.2.1)),(91,(zI y.2.2.2.2.2.2.1)),(92,(zI y.2.2.2.2.2.2.2.1))]),(hT 4 [(oC [(zI y.2.2.2.2.2.2.2.2.1),(zI y.2.2.2.2.2.2.2.2.2.1),(zI y.2.2.2.2.2.2.2.2.2.2.1),(Sl.v 1 y.2.2.2.2.2.2.2.2.2.2.2.1)]),(oC [(zI y.2.2.2.2.2.2.2.2.2.2.2.2.1),(zI y.2.2.2.2.2.2.2.2.2.2.2.2.2.1),(zI y.2.2.2.2.2.2.2.2.2.2.2.2.2.2.1),(Sl.v 1 y.2.2.2.2.2.2.2.2.2.2.2.2.2.2.2.1),(sc 3 0 1 y.2.2.2.2.2.2.2.2.2.2.2.2.2.2.2.2.1 y.2.2.2.2.2.2.2.2.2.2.2.2.2.2.2.2.2.1)]),(oC y.2.2.2.2.2.2.2.2.2.2.2.2.2.2.2.2.2.2)]))) (fun w y=>cB pu n (Pn pu n w0) w y.1 y.2.1 y.2.2.1 y.2.2.2.1 y.2.2.2.2.1 y.2.2.2.2.2.1 y.2.2.2.2.2.2.1 y.2.2.2.2.2.2.2.1 y.2.2.2.2.2.2.2.2.1 y.2.2.2.2.2.2.2.2.2.1 y.2.2.2.2.2.2.2.2.2.2.1 y.2.2.2.2.2.2.2.2.2.2.2.1 y.2.2.2.2.2.2.2.2.2.2.2.2.1 y.2.2.2.2.2.2.2.2.2.2.2.2.2.1 y.2.2.2.2.2.2.2.2.2.2.2.2.2.2.1 y.2.2.2.2.2.2.2.2.2.2.2.2.2.2.2.1 y.2.2.2.2.2.2.2.2.2.2.2.2.2.2.2.2.1 y.2.2.2.2.2.2.2.2.2.2.2.2.2.2.2.2.2.1 y.2.2.2.2.2.2.2.2.2.2.2.2.2.2.2.2.2.2) n ⟨(z10,x0,s3,z11,(Int.ofNat k1),s4,(Int.ofNat (Sl.n s4)),(0:Int),z13,z14,z15,s4,z16,z17,z18,s5,n2,c2,q2),hm,(.k [3] [false] [.tmp 1 false,.tmp 4 true,.cell 2 4 false] [1,4,6,10,83,84,85,90,91,92] ⟨BO h2,trivial⟩)⟩ (fun _=>rfl) ?_)
     rintro w1 ⟨z28,z29,s9,z30,z31,s10,z32,z33,z34,z35,z36,s11,z37,z38,z39,s12,n4,c77,q4⟩ hm
     replace hm:bZ pu n (Pn pu n w0) (cB pu n (Pn pu n w0) w1) z28 z29 s9 z30 z31 s10 z32 z33 z34 z35 z36 s11 z37 z38 z39 s12 n4 c77 q4=some v:=hm
     unfold bZ at hm
     refine .then (.rK ?_)
     replace hm:=Ae hm;obtain⟨h8,hm⟩:=hm
     refine .ghs (fr 110 [(1,pt 1 0),(4,(pt 2 0)),(6,(zY z28)),(10,zI z29),(83,Sl.v 1 s9),(84,zI z30),(85,zI z31),(90,Sl.v 1 s10),(91,zI z32),(92,zI z33),(93,(zB (AY z33 z32)))]) (hT 4 [(oC [zI z34,zI z35,zI z36,Sl.v 1 s11]),(oC [zI z37,zI z38,zI z39,Sl.v 1 s12,sc 3 0 1 n4 c77]),oC q4]) (.k [3] [false] [.tmp 1 false,.tmp 4 true,.cell 2 4 false] [1,4,6,10,83,84,85,90,91,92,93] ⟨BO h8,trivial⟩) ?_
     refine .then ?_
     replace hm:=Ag hm;rcases hm with⟨h9,hm⟩ | ⟨h9,hm⟩
     ·refine C8 (AY z33 z32) h9 ?_
      refine .skip (.ghs (fr 110 [(1,pt 1 0),(4,(pt 2 0)),(6,(zY z28)),(10,zI z29),(83,Sl.v 1 s9),(84,zI z30),(85,zI z31),(90,Sl.v 1 s10),(91,zI z32),(92,zI z33)]) (hT 4 [(oC [zI z34,zI z35,zI z36,Sl.v 1 s11]),(oC [zI z37,zI z38,zI z39,Sl.v 1 s12,sc 3 0 1 n4 c77]),oC q4]) (.k [3] [false] [.tmp 1 false,.tmp 4 true,.cell 2 4 false] [1,4,6,10,83,84,85,90,91,92] ⟨BO h8,trivial⟩) ?_)
      refine .then (.block (.then ?_))
      replace hm:=Ab hm;obtain⟨k2,h10,hm⟩:=hm
      obtain rfl:=AR h10
      replace hm:=Ae hm;obtain⟨h11,hm⟩:=hm
      replace hm:=Kc hm;obtain⟨x1,h12,hm⟩:=hm
      refine .reg (eD (keep (hT 4 [(oC [zI z34,zI z35,zI z36,Sl.v 1 s11]),(oC [zI z37,zI z38,zI z39,Sl.v 1 s12,sc 3 0 1 n4 c77]),oC q4]) (bb (an (Nat.blt k2 (Sl.n s10)) true) (some (Cv (k2*1) (Sl.cs s10))) none)) (AX h11) (eD (keep (hT 4 [(oC [zI z34,zI z35,zI z36,Sl.v 1 s11]),(oC [zI z37,zI z38,zI z39,Sl.v 1 s12,sc 3 0 1 n4 c77]),oC q4]) (AL (Sl.cs s10) (k2*1))) (AZ h12) (eE))) ?_
      refine .ghs (fr 110 [(1,pt 1 0),(4,(pt 2 0)),(6,(zY z28)),(10,zI z29),(12,zI x1),(83,Sl.v 1 s9),(84,zI z30),(85,zI z31),(90,Sl.v 1 s10),(91,zI z32),(92,(zI (Int.ofNat k2)))]) (hT 4 [(oC [zI z34,zI z35,zI z36,Sl.v 1 s11]),(oC [zI z37,zI z38,zI z39,Sl.v 1 s12,sc 3 0 1 n4 c77]),oC q4]) (.k [3] [false] [.tmp 1 false,.tmp 4 true,.cell 2 4 false] [1,4,6,10,12,83,84,85,90,91,92] ⟨BO h8,trivial⟩) ?_
      refine .then ?_
      replace hm:=Ab hm;obtain⟨v0,h13,hm⟩:=hm
      replace hm:=BG hm;obtain⟨l0,rfl,hm⟩:=hm
      replace hm:=Ad hm;obtain⟨v1,l4293_0,rfl,hm⟩:=hm
      replace hm:=Ad hm;obtain⟨v2,l4293_1,rfl,hm⟩:=hm
      replace hm:=AC hm;obtain⟨rfl,hm⟩:=hm
      replace hm:=Ai hm;obtain⟨x2,rfl,hm⟩:=hm
      replace hm:=Be hm;obtain⟨b0,rfl,hm⟩:=hm
      replace hm:=Ab hm;obtain⟨v3,h14,hm⟩:=hm
      replace hm:=BG hm;obtain⟨l1,rfl,hm⟩:=hm
      replace hm:=Ad hm;obtain⟨v4,l4303_0,rfl,hm⟩:=hm
      replace hm:=Ad hm;obtain⟨v5,l4303_1,rfl,hm⟩:=hm
      replace hm:=AC hm;obtain⟨rfl,hm⟩:=hm
      replace hm:=Ai hm;obtain⟨x3,rfl,hm⟩:=hm
      replace hm:=Be hm;obtain⟨b1,rfl,hm⟩:=hm
      replace hm:=Ab hm;obtain⟨v6,h15,hm⟩:=hm
      replace hm:=BG hm;obtain⟨l2,rfl,hm⟩:=hm
      replace hm:=Ad hm;obtain⟨v7,l4313_0,rfl,hm⟩:=hm
      replace hm:=Ad hm;obtain⟨v8,l4313_1,rfl,hm⟩:=hm
      replace hm:=AC hm;obtain⟨rfl,hm⟩:=hm
      replace hm:=Ai hm;obtain⟨x4,rfl,hm⟩:=hm
      replace hm:=Be hm;obtain⟨b2,rfl,hm⟩:=hm
      replace hm:=Kc hm;obtain⟨x5,h16,hm⟩:=hm
      refine .reg (eC 1 ((oo (pu 35 [zI z29]) none fun v=>some (v,(hT 4 [(oC [zI z34,zI z35,zI z36,Sl.v 1 s11]),(oC [zI z37,zI z38,zI z39,Sl.v 1 s12,sc 3 0 1 n4 c77]),oC q4])))) (AB h13) (eC 1 ((oo (pu 35 [zI x1]) none fun v=>some (v,(hT 4 [(oC [zI z34,zI z35,zI z36,Sl.v 1 s11]),(oC [zI z37,zI z38,zI z39,Sl.v 1 s12,sc 3 0 1 n4 c77]),oC q4])))) (AB h14) (eD ((oo (pu 36 [(.agg ⟨[zI x2,zB b0]⟩),(.agg ⟨[zI x3,zB b1]⟩)]) none fun v=>some (v,(hT 4 [(oC [zI z34,zI z35,zI z36,Sl.v 1 s11]),(oC [zI z37,zI z38,zI z39,Sl.v 1 s12,sc 3 0 1 n4 c77]),oC q4])))) (AB h15) (eD ((oo (pu 37 [(.agg ⟨[zI x4,zB b2]⟩)]) none fun v=>some (v,(hT 4 [(oC [zI z34,zI z35,zI z36,Sl.v 1 s11]),(oC [zI z37,zI z38,zI z39,Sl.v 1 s12,sc 3 0 1 n4 c77]),oC q4])))) (AB h16) (eE))))) ?_
      refine .ghs (fr 110 [(1,pt 1 0),(4,(pt 2 0)),(6,(zY z28)),(10,zI z29),(13,zI x5),(83,Sl.v 1 s9),(84,zI z30),(85,zI z31),(90,Sl.v 1 s10),(91,zI z32),(92,(zI (Int.ofNat k2)))]) (hT 4 [(oC [zI z34,zI z35,zI z36,Sl.v 1 s11]),(oC [zI z37,zI z38,zI z39,Sl.v 1 s12,sc 3 0 1 n4 c77]),oC q4]) (.k [3] [false] [.tmp 1 false,.tmp 4 true,.cell 2 4 false] [1,4,6,10,13,83,84,85,90,91,92] ⟨BO h8,trivial⟩) ?_
      refine .then ?_
      replace hm:=Ab hm;obtain⟨k3,h17,hm⟩:=hm
      obtain rfl:=AR h17
      refine .rK (.ghs (fr 110 [(1,pt 1 0),(4,(pt 2 0)),(6,(zY z28)),(10,zI z29),(83,Sl.v 1 s9),(84,zI z30),(85,zI z31),(90,Sl.v 1 s10),(91,zI z32),(92,(zI (Int.ofNat k2))),(106,(zB (Bd (Np .u8 (G6 .u8 z28 k3) (1:Int)) (0:Int))))]) (hT 4 [(oC [zI z34,zI z35,zI z36,Sl.v 1 s11]),(oC [zI z37,zI z38,zI z39,Sl.v 1 s12,sc 3 0 1 n4 c77]),oC q4]) (.k [3] [false] [.tmp 1 false,.tmp 4 true,.cell 2 4 false] [1,4,6,10,83,84,85,90,91,92,106] ⟨BO h8,trivial⟩) ?_)
      replace hm:=Ag hm;rcases hm with⟨h18,hm⟩ | ⟨h18,hm⟩
      ·refine C8 (Bd (Np .u8 (G6 .u8 z28 k3) (1:Int)) (0:Int)) h18 ?_
       refine .then (.rK (.ghs (fr 110 [(2,(.pointer none)),(3,(zI (21:Int)))]) AO (.k0 [false] [] [2,3]) ?_))
       refine .ret ?_
       exact Ay (.tuple ⟨[(.pointer none),(zI (21:Int))]⟩) hm
      ·refine Dn (Bd (Np .u8 (G6 .u8 z28 k3) (1:Int)) (0:Int)) h18 ?_
       refine .skip (.ghs (fr 110 [(1,pt 1 0),(4,(pt 2 0)),(6,(zY z28)),(10,zI z29),(83,Sl.v 1 s9),(84,zI z30),(85,zI z31),(90,Sl.v 1 s10),(91,zI z32),(92,(zI (Int.ofNat k2)))]) (hT 4 [(oC [zI z34,zI z35,zI z36,Sl.v 1 s11]),(oC [zI z37,zI z38,zI z39,Sl.v 1 s12,sc 3 0 1 n4 c77]),oC q4]) (.k [3] [false] [.tmp 1 false,.tmp 4 true,.cell 2 4 false] [1,4,6,10,83,84,85,90,91,92] ⟨BO h8,trivial⟩) ?_)
       refine .rK ?_
       exact⟨(z28,z29,s9,z30,z31,s10,z32,(Aj .i64 (Int.add (Int.ofNat k2) (1:Int))),z34,z35,z36,s11,z37,z38,z39,s12,n4,c77,q4),hm,(.k [3] [false] [.tmp 1 false,.tmp 4 true,.cell 2 4 false] [1,4,6,10,83,84,85,90,91,92] ⟨BO h8,trivial⟩)⟩
     ·refine Dn (AY z33 z32) h9 ?_
      refine .exit ?_
      exact⟨(z28,s9,z30,z31,z34,z35,z36,s11,z37,z38,z39,s12,n4,c77,q4),hm,(.k [3] [false] [.tmp 1 false,.tmp 4 true,.cell 2 4 false] [1,4,6,83,84,85] ⟨BO h8,trivial⟩)⟩
   ·refine Dn (AY z12 z11) h3 ?_
    refine .exit ?_
    exact⟨(z16,z17,z18,s5,n2,c2,q2),hm,(.k [3] [false] [.tmp 4 true,.cell 1 4 false] [4] ⟨BO h2,trivial⟩)⟩
theorem r25 {call:A8} (pu:Af) (n:Nat) (hcall:call=Bb tabs isP pu (inl pu)) {args:LV} {v:Value} (hm:m25 pu n args=some v) (_:∀ x∈args,closed2 x=true):args.length≤110∧BN tt call 1 Sd (Fr.made 110 args) (Ao tabs) (Fin tt 1 [.tmp 2,.tmp 3] v):=by
 subst hcall
 unfold m25 at hm
 replace hm:=Ad hm;obtain⟨a0,args_0,rfl,hm⟩:=hm
 replace hm:=AC hm;obtain⟨rfl,hm⟩:=hm
 replace hm:=BG hm;obtain⟨l0,rfl,hm⟩:=hm
 replace hm:=Ad hm;obtain⟨v0,l2528_0,rfl,hm⟩:=hm
 replace hm:=Ad hm;obtain⟨v1,l2528_1,rfl,hm⟩:=hm
 replace hm:=Ad hm;obtain⟨v2,l2528_2,rfl,hm⟩:=hm
 replace hm:=Ad hm;obtain⟨v3,l2528_3,rfl,hm⟩:=hm
 replace hm:=AC hm;obtain⟨rfl,hm⟩:=hm
 replace hm:=Ai hm;obtain⟨x0,rfl,hm⟩:=hm
 replace hm:=Ai hm;obtain⟨x1,rfl,hm⟩:=hm
 replace hm:=Ai hm;obtain⟨x2,rfl,hm⟩:=hm
 replace hm:=Al hm;obtain⟨s0,rfl,hm⟩:=hm
 unfold AcY at hm
 refine⟨by simp,?_⟩
 refine .same (F':=(fr 110 [(0,(.agg ⟨[zI x0,zI x1,zI x2,Sl.v 1 s0]⟩))])) (H':=AO) (by kernel_rfl) (by kernel_rfl) ?_
 refine .then (.rK (.ghs (fr 110 [(1,pt 1 0)]) (hT 2 [(oC [zI x0,zI x1,zI x2,Sl.v 1 s0])]) (.k0 [false] [.tmp 1 false] [1]) ?_))
 refine .then (.join (v:=v) (fun y:Bool×Int×Int×Int×Sl=>((fr 110 [(1,pt 1 0),(29,(zB y.1))]),(hT 2 [(oC [(zI y.2.1),(zI y.2.2.1),(zI y.2.2.2.1),(Sl.v 1 y.2.2.2.2)])]))) (fun y=>K5 pu n y.1 y.2.1 y.2.2.1 y.2.2.2.1 y.2.2.2.2) ?_ ?_)
 ·rintro⟨b0,z0,z1,z2,s1⟩ hm
  unfold K5 at hm
  replace hm:=Ag hm;rcases hm with⟨h0,hm⟩ | ⟨h0,hm⟩
  ·refine .ifT b0 (by kernel_rfl) h0 ?_
   refine .then (.rK (.ghs (fr 110 [(2,(.pointer none)),(3,(zI (1:Int)))]) AO (.k0 [false] [] [2,3]) ?_))
   refine .ret ?_
   exact Ay (.tuple ⟨[(.pointer none),(zI (1:Int))]⟩) hm
  ·refine .ifF b0 (by kernel_rfl) h0 ?_
   refine .skip (.ghs (fr 110 [(1,pt 1 0)]) (hT 2 [(oC [zI z0,zI z1,zI z2,Sl.v 1 s1])]) (.k0 [false] [.tmp 1 false] [1]) ?_)
   refine .then (.rK (.ghs (fr 110 [(1,pt 1 0),(4,(pt 2 0))]) (hT 3 [(oC [zI z0,zI z1,zI z2,Sl.v 1 s1]),(oC [zI z0,zI z1,zI z2,Sl.v 1 s1,(.slice none 0 0)])]) (.k0 [false] [.tmp 1 false,.tmp 4 false] [1,4]) ?_))
   refine .then (.rK (.ghs (fr 110 [(1,pt 1 0),(4,(pt 2 0)),(5,(zI (-1:Int)))]) (hT 3 [(oC [zI z0,zI z1,zI z2,Sl.v 1 s1]),(oC [zI z0,zI z1,zI z2,Sl.v 1 s1,(.slice none 0 0)])]) (.k0 [false] [.tmp 1 false,.tmp 4 false] [1,4,5]) ?_))
   refine .then (.rK (.ghs (fr 110 [(1,pt 1 0),(4,(pt 2 0)),(5,(zI (-1:Int))),(6,(zY (0:Int)))]) (hT 3 [(oC [zI z0,zI z1,zI z2,Sl.v 1 s1]),(oC [zI z0,zI z1,zI z2,Sl.v 1 s1,(.slice none 0 0)])]) (.k0 [false] [.tmp 1 false,.tmp 4 false] [1,4,5,6]) ?_))
   refine .join (v:=v) (fun y:Int×Int×Int×Int×Sl×Int×Int×Int×Sl×Nat×Nat×LV=>((fr 110 [(1,pt 1 0),(4,(pt 2 0)),(6,(zY y.1))]),(hT 4 [(oC [(zI y.2.1),(zI y.2.2.1),(zI y.2.2.2.1),(Sl.v 1 y.2.2.2.2.1)]),(oC [(zI y.2.2.2.2.2.1),(zI y.2.2.2.2.2.2.1),(zI y.2.2.2.2.2.2.2.1),(Sl.v 1 y.2.2.2.2.2.2.2.2.1),(sc 3 0 1 y.2.2.2.2.2.2.2.2.2.1 y.2.2.2.2.2.2.2.2.2.2.1)]),(oC y.2.2.2.2.2.2.2.2.2.2.2)]))) (fun y=>Xb pu n y.1 y.2.1 y.2.2.1 y.2.2.2.1 y.2.2.2.2.1 y.2.2.2.2.2.1 y.2.2.2.2.2.2.1 y.2.2.2.2.2.2.2.1 y.2.2.2.2.2.2.2.2.1 y.2.2.2.2.2.2.2.2.2.1 y.2.2.2.2.2.2.2.2.2.2.1 y.2.2.2.2.2.2.2.2.2.2.2) ?_ ?_
   ·rintro⟨z3,z4,z5,z6,s2,z7,z8,z9,s3,n0,c0,q0⟩ hm
    exact Ac1 pu n z3 z4 z5 z6 s2 z7 z8 z9 s3 n0 c0 q0 hm
   ·refine .then (.rK (.ghs (fr 110 [(1,pt 1 0),(4,(pt 2 0)),(5,(zI (-1:Int))),(6,(zY (0:Int))),(34,Sl.v 1 s1),(35,(zI (Int.ofNat (Sl.n s1)))),(36,(zI (0:Int)))]) (hT 3 [(oC [zI z0,zI z1,zI z2,Sl.v 1 s1]),(oC [zI z0,zI z1,zI z2,Sl.v 1 s1,(.slice none 0 0)])]) (.k0 [false] [.tmp 1 false,.tmp 4 false] [1,4,5,6,34,35,36]) ?_))
    refine .block (.loopM (v:=v) (fun y:Int×Int×Sl×Int×Int×Int×Int×Int×Sl×Int×Int×Int×Sl×Nat×Nat×LV=>((fr 110 [(1,pt 1 0),(4,(pt 2 0)),(5,(zI y.1)),(6,(zY y.2.1)),(34,(Sl.v 1 y.2.2.1)),(35,(zI y.2.2.2.1)),(36,(zI y.2.2.2.2.1))]),(hT 4 [(oC [(zI y.2.2.2.2.2.1),(zI y.2.2.2.2.2.2.1),(zI y.2.2.2.2.2.2.2.1),(Sl.v 1 y.2.2.2.2.2.2.2.2.1)]),(oC [(zI y.2.2.2.2.2.2.2.2.2.1),(zI y.2.2.2.2.2.2.2.2.2.2.1),(zI y.2.2.2.2.2.2.2.2.2.2.2.1),(Sl.v 1 y.2.2.2.2.2.2.2.2.2.2.2.2.1),(sc 3 0 1 y.2.2.2.2.2.2.2.2.2.2.2.2.2.1 y.2.2.2.2.2.2.2.2.2.2.2.2.2.2.1)]),(oC y.2.2.2.2.2.2.2.2.2.2.2.2.2.2.2)]))) (fun w y=>K8 pu n w y.1 y.2.1 y.2.2.1 y.2.2.2.1 y.2.2.2.2.1 y.2.2.2.2.2.1 y.2.2.2.2.2.2.1 y.2.2.2.2.2.2.2.1 y.2.2.2.2.2.2.2.2.1 y.2.2.2.2.2.2.2.2.2.1 y.2.2.2.2.2.2.2.2.2.2.1 y.2.2.2.2.2.2.2.2.2.2.2.1 y.2.2.2.2.2.2.2.2.2.2.2.2.1 y.2.2.2.2.2.2.2.2.2.2.2.2.2.1 y.2.2.2.2.2.2.2.2.2.2.2.2.2.2.1 y.2.2.2.2.2.2.2.2.2.2.2.2.2.2.2) n ⟨((-1:Int),(0:Int),s1,(Int.ofNat (Sl.n s1)),(0:Int),z0,z1,z2,s1,z0,z1,z2,s1,0,0,([]:LV)),hm,(.thawC 2 4 1 [zI z0,zI z1,zI z2,Sl.v 1 s1,(.slice none 0 0)] (imm:=false) (spent:=false) (anc:=[]) (by kernel_rfl) (by kernel_rfl) (by kernel_rfl) (by kernel_rfl) (.k0 [false] [.tmp 1 false,.tmp 4 true,.cell 2 4 false] [1,4,5,6,34,35,36]))⟩ (fun _=>rfl) ?_)
    rintro w0 ⟨z10,z11,s4,z12,z13,z14,z15,z16,s5,z17,z18,z19,s6,n1,c1,q1⟩ hm
    replace hm:UF pu n (K8 pu n w0) z10 z11 s4 z12 z13 z14 z15 z16 s5 z17 z18 z19 s6 n1 c1 q1=some v:=hm
    unfold UF at hm
    refine .then (.rK ?_)
    replace hm:=Ae hm;obtain⟨h1,hm⟩:=hm
    refine .ghs (fr 110 [(1,pt 1 0),(4,(pt 2 0)),(5,zI z10),(6,(zY z11)),(34,Sl.v 1 s4),(35,zI z12),(36,zI z13),(37,(zB (AY z13 z12)))]) (hT 4 [(oC [zI z14,zI z15,zI z16,Sl.v 1 s5]),(oC [zI z17,zI z18,zI z19,Sl.v 1 s6,sc 3 0 1 n1 c1]),oC q1]) (.k [3] [false] [.tmp 1 false,.tmp 4 true,.cell 2 4 false] [1,4,5,6,34,35,36,37] ⟨BO h1,trivial⟩) ?_
    refine .then ?_
    replace hm:=Ag hm;rcases hm with⟨h2,hm⟩ | ⟨h2,hm⟩
    ·refine C8 (AY z13 z12) h2 ?_
     refine .skip (.ghs (fr 110 [(1,pt 1 0),(4,(pt 2 0)),(5,zI z10),(6,(zY z11)),(34,Sl.v 1 s4),(35,zI z12),(36,zI z13)]) (hT 4 [(oC [zI z14,zI z15,zI z16,Sl.v 1 s5]),(oC [zI z17,zI z18,zI z19,Sl.v 1 s6,sc 3 0 1 n1 c1]),oC q1]) (.k [3] [false] [.tmp 1 false,.tmp 4 true,.cell 2 4 false] [1,4,5,6,34,35,36] ⟨BO h1,trivial⟩) ?_)
     refine .then (.block (.then ?_))
     replace hm:=Ab hm;obtain⟨k1,h3,hm⟩:=hm
     obtain rfl:=AR h3
     replace hm:=Ae hm;obtain⟨h4,hm⟩:=hm
     replace hm:=Kc hm;obtain⟨x3,h5,hm⟩:=hm
     refine .reg (eD (keep (hT 4 [(oC [zI z14,zI z15,zI z16,Sl.v 1 s5]),(oC [zI z17,zI z18,zI z19,Sl.v 1 s6,sc 3 0 1 n1 c1]),oC q1]) (bb (an (Nat.blt k1 (Sl.n s4)) true) (some (Cv (k1*1) (Sl.cs s4))) none)) (AX h4) (eD (keep (hT 4 [(oC [zI z14,zI z15,zI z16,Sl.v 1 s5]),(oC [zI z17,zI z18,zI z19,Sl.v 1 s6,sc 3 0 1 n1 c1]),oC q1]) (AL (Sl.cs s4) (k1*1))) (AZ h5) (eE))) ?_
     refine .ghs (fr 110 [(1,pt 1 0),(4,(pt 2 0)),(5,zI z10),(6,(zY z11)),(8,zI x3),(34,Sl.v 1 s4),(35,zI z12),(36,(zI (Int.ofNat k1)))]) (hT 4 [(oC [zI z14,zI z15,zI z16,Sl.v 1 s5]),(oC [zI z17,zI z18,zI z19,Sl.v 1 s6,sc 3 0 1 n1 c1]),oC q1]) (.k [3] [false] [.tmp 1 false,.tmp 4 true,.cell 2 4 false] [1,4,5,6,8,34,35,36] ⟨BO h1,trivial⟩) ?_
     refine .then (.block (.then ?_))
     replace hm:=QF hm;obtain⟨b1,h6,hm⟩:=hm
     refine .reg (eC 1 ((oo (pu 34 [(zI (0:Int)),zI x3,(zI (7:Int))]) none fun v=>some (v,(hT 4 [(oC [zI z14,zI z15,zI z16,Sl.v 1 s5]),(oC [zI z17,zI z18,zI z19,Sl.v 1 s6,sc 3 0 1 n1 c1]),oC q1])))) (AB h6) (eE)) ?_
     refine .ghs (fr 110 [(1,pt 1 0),(4,(pt 2 0)),(5,zI z10),(6,(zY z11)),(8,zI x3),(34,Sl.v 1 s4),(35,zI z12),(36,(zI (Int.ofNat k1))),(40,(zB (nt b1)))]) (hT 4 [(oC [zI z14,zI z15,zI z16,Sl.v 1 s5]),(oC [zI z17,zI z18,zI z19,Sl.v 1 s6,sc 3 0 1 n1 c1]),oC q1]) (.k [3] [false] [.tmp 1 false,.tmp 4 true,.cell 2 4 false] [1,4,5,6,8,34,35,36,40] ⟨BO h1,trivial⟩) ?_
     replace hm:=Ag hm;rcases hm with⟨h7,hm⟩ | ⟨h7,hm⟩
     ·refine C8 (nt b1) h7 ?_
      refine .then (.rK (.ghs (fr 110 [(2,(.pointer none)),(3,(zI (2:Int)))]) AO (.k0 [false] [] [2,3]) ?_))
      refine .ret ?_
      exact Ay (.tuple ⟨[(.pointer none),(zI (2:Int))]⟩) hm
     ·refine Dn (nt b1) h7 ?_
      refine .join (v:=v) (fun y:Int×Int×Int×Sl×Int×Int×Bool×Int×Int×Int×Sl×Int×Int×Int×Sl×Nat×Nat×LV=>((fr 110 [(1,pt 1 0),(4,(pt 2 0)),(5,(zI y.1)),(6,(zY y.2.1)),(8,(zI y.2.2.1)),(34,(Sl.v 1 y.2.2.2.1)),(35,(zI y.2.2.2.2.1)),(36,(zI y.2.2.2.2.2.1)),(44,(zB y.2.2.2.2.2.2.1))]),(hT 4 [(oC [(zI y.2.2.2.2.2.2.2.1),(zI y.2.2.2.2.2.2.2.2.1),(zI y.2.2.2.2.2.2.2.2.2.1),(Sl.v 1 y.2.2.2.2.2.2.2.2.2.2.1)]),(oC [(zI y.2.2.2.2.2.2.2.2.2.2.2.1),(zI y.2.2.2.2.2.2.2.2.2.2.2.2.1),(zI y.2.2.2.2.2.2.2.2.2.2.2.2.2.1),(Sl.v 1 y.2.2.2.2.2.2.2.2.2.2.2.2.2.2.1),(sc 3 0 1 y.2.2.2.2.2.2.2.2.2.2.2.2.2.2.2.1 y.2.2.2.2.2.2.2.2.2.2.2.2.2.2.2.2.1)]),(oC y.2.2.2.2.2.2.2.2.2.2.2.2.2.2.2.2.2)]))) (fun y=>Ow pu n (K8 pu n w0) y.1 y.2.1 y.2.2.1 y.2.2.2.1 y.2.2.2.2.1 y.2.2.2.2.2.1 y.2.2.2.2.2.2.1 y.2.2.2.2.2.2.2.1 y.2.2.2.2.2.2.2.2.1 y.2.2.2.2.2.2.2.2.2.1 y.2.2.2.2.2.2.2.2.2.2.1 y.2.2.2.2.2.2.2.2.2.2.2.1 y.2.2.2.2.2.2.2.2.2.2.2.2.1 y.2.2.2.2.2.2.2.2.2.2.2.2.2.1 y.2.2.2.2.2.2.2.2.2.2.2.2.2.2.1 y.2.2.2.2.2.2.2.2.2.2.2.2.2.2.2.1 y.2.2.2.2.2.2.2.2.2.2.2.2.2.2.2.2.1 y.2.2.2.2.2.2.2.2.2.2.2.2.2.2.2.2.2) ?_ ?_
      ·rintro⟨z20,z21,z22,s7,z23,z24,b2,z25,z26,z27,s8,z28,z29,z30,s9,n2,c2,q2⟩ hm
       unfold Ow at hm
       replace hm:=Ag hm;rcases hm with⟨h8,hm⟩ | ⟨h8,hm⟩
       ·refine .ifT b2 (by kernel_rfl) h8 ?_
        refine .then (.rK (.ghs (fr 110 [(2,(.pointer none)),(3,(zI (8:Int)))]) AO (.k0 [false] [] [2,3]) ?_))
        refine .ret ?_
        exact Ay (.tuple ⟨[(.pointer none),(zI (8:Int))]⟩) hm
       ·refine .ifF b2 (by kernel_rfl) h8 ?_
        refine .then (.rK ?_)
        replace hm:=Ae hm;obtain⟨h9,hm⟩:=hm
        refine .ghs (fr 110 [(1,pt 1 0),(4,(pt 2 0)),(6,(zY z21)),(8,zI z22),(34,Sl.v 1 s7),(35,zI z23),(36,zI z24),(57,(zB (nt (AY z20 z22))))]) (hT 4 [(oC [zI z25,zI z26,zI z27,Sl.v 1 s8]),(oC [zI z28,zI z29,zI z30,Sl.v 1 s9,sc 3 0 1 n2 c2]),oC q2]) (.k [3] [false] [.tmp 1 false,.tmp 4 true,.cell 2 4 false] [1,4,6,8,34,35,36,57] ⟨BO h9,trivial⟩) ?_
        replace hm:=Ag hm;rcases hm with⟨h10,hm⟩ | ⟨h10,hm⟩
        ·refine C8 (nt (AY z20 z22)) h10 ?_
         refine .then (.rK (.ghs (fr 110 [(2,(.pointer none)),(3,(zI (7:Int)))]) AO (.k0 [false] [] [2,3]) ?_))
         refine .ret ?_
         exact Ay (.tuple ⟨[(.pointer none),(zI (7:Int))]⟩) hm
        ·refine Dn (nt (AY z20 z22)) h10 ?_
         refine .skip (.ghs (fr 110 [(1,pt 1 0),(4,(pt 2 0)),(6,(zY z21)),(8,zI z22),(34,Sl.v 1 s7),(35,zI z23),(36,zI z24)]) (hT 4 [(oC [zI z25,zI z26,zI z27,Sl.v 1 s8]),(oC [zI z28,zI z29,zI z30,Sl.v 1 s9,sc 3 0 1 n2 c2]),oC q2]) (.k [3] [false] [.tmp 1 false,.tmp 4 true,.cell 2 4 false] [1,4,6,8,34,35,36] ⟨BO h9,trivial⟩) ?_)
         refine .then (.rK (.ghs (fr 110 [(1,pt 1 0),(4,(pt 2 0)),(5,zI z22),(6,(zY z21)),(8,zI z22),(34,Sl.v 1 s7),(35,zI z23),(36,zI z24)]) (hT 4 [(oC [zI z25,zI z26,zI z27,Sl.v 1 s8]),(oC [zI z28,zI z29,zI z30,Sl.v 1 s9,sc 3 0 1 n2 c2]),oC q2]) (.k [3] [false] [.tmp 1 false,.tmp 4 true,.cell 2 4 false] [1,4,5,6,8,34,35,36] ⟨BO h9,trivial⟩) ?_))
         refine .then ?_
         replace hm:=Ab hm;obtain⟨k2,h11,hm⟩:=hm
         obtain rfl:=AR h11
         refine .rK (.ghs (fr 110 [(1,pt 1 0),(4,(pt 2 0)),(5,(zI (Int.ofNat k2))),(6,(zY (jF .u8 z21 (QW .u8 (1:Int) k2)))),(8,(zI (Int.ofNat k2))),(34,Sl.v 1 s7),(35,zI z23),(36,zI z24)]) (hT 4 [(oC [zI z25,zI z26,zI z27,Sl.v 1 s8]),(oC [zI z28,zI z29,zI z30,Sl.v 1 s9,sc 3 0 1 n2 c2]),oC q2]) (.k [3] [false] [.tmp 1 false,.tmp 4 true,.cell 2 4 false] [1,4,5,6,8,34,35,36] ⟨BO h9,trivial⟩) ?_)
         replace hm:=ZC hm;obtain⟨s10,h12,hm⟩:=hm
         replace hm:=Ae hm;obtain⟨h13,hm⟩:=hm
         refine .reg (eC 7 ((oo (pu 53 [(.agg ⟨[zI z25,zI z26,zI z27,Sl.v 1 s8]⟩),(zI (Int.ofNat k2))]) none fun v=>some (v,(hT 4 [(oC [zI z25,zI z26,zI z27,Sl.v 1 s8]),(oC [zI z28,zI z29,zI z30,Sl.v 1 s9,sc 3 0 1 n2 c2]),oC q2])))) (AB h12) (eC 1 (Oc 1 24 n2 c2 1 3 q2 [Sl.v 1 s10] [] (hT 5 [(oC [zI z25,zI z26,zI z27,Sl.v 1 s8]),(oC [zI z28,zI z29,zI z30,Sl.v 1 s9,sc 3 0 1 n2 c2]),oC q2,(oC [Sl.v 1 s10])])) (I1 h13) (eE))) ?_
         replace hm:=Ae hm;obtain⟨h14,hm⟩:=hm
         refine .ghs (fr 110 [(1,pt 1 0),(4,(pt 2 0)),(5,(zI (Int.ofNat k2))),(6,(zY (jF .u8 z21 (QW .u8 (1:Int) k2)))),(34,Sl.v 1 s7),(35,zI z23),(36,zI z24)]) (hT 4 [(oC [zI z25,zI z26,zI z27,Sl.v 1 s8]),(oC [zI z28,zI z29,zI z30,Sl.v 1 s9,(sc 3 0 1 (n2+1) (d2 (n2+1)))]),(oC (Br (Am 0 q2) [Sl.v 1 s10]))]) (.k [5] [false] [.tmp 1 false,.tmp 4 true,.cell 2 4 false] [1,4,5,6,34,35,36] ⟨BO h14,trivial⟩) ?_
         refine .rK ?_
         exact⟨((Int.ofNat k2),(jF .u8 z21 (QW .u8 (1:Int) k2)),s7,z23,(Aj .i64 (Int.add z24 (1:Int))),z25,z26,z27,s8,z28,z29,z30,s9,(n2+1),(d2 (n2+1)),(Br (Am 0 q2) [Sl.v 1 s10])),hm,(.k [3] [false] [.tmp 1 false,.tmp 4 true,.cell 2 4 false] [1,4,5,6,34,35,36] ⟨BO h14,trivial⟩)⟩
      ·replace hm:=Ag hm;rcases hm with⟨h15,hm⟩ | ⟨h15,hm⟩
       ·replace hm:=Ab hm;obtain⟨v4,h16,hm⟩:=hm
        replace hm:=BG hm;obtain⟨l1,rfl,hm⟩:=hm
        replace hm:=Ad hm;obtain⟨v5,l4575_0,rfl,hm⟩:=hm
        replace hm:=Ad hm;obtain⟨v6,l4575_1,rfl,hm⟩:=hm
        replace hm:=AC hm;obtain⟨rfl,hm⟩:=hm
        replace hm:=Ai hm;obtain⟨x4,rfl,hm⟩:=hm
        replace hm:=Be hm;obtain⟨b70,rfl,hm⟩:=hm
        refine .reg (eC 4 (some ((zB (nt (Bd z14 z15))),(hT 4 [(oC [zI z14,zI z15,zI z16,Sl.v 1 s5]),(oC [zI z17,zI z18,zI z19,Sl.v 1 s6,sc 3 0 1 n1 c1]),oC q1]))) (show _=some ((zB true),_) from (by rw[show (nt (Bd z14 z15))=true from h15])) (eC 2 ((oo (pu 35 [zI x3]) none fun v=>some (v,(hT 4 [(oC [zI z14,zI z15,zI z16,Sl.v 1 s5]),(oC [zI z17,zI z18,zI z19,Sl.v 1 s6,sc 3 0 1 n1 c1]),oC q1])))) (AB h16) (eE))) ?_
        exact⟨(z10,z11,x3,s4,z12,(Int.ofNat k1),(Bd (Int.tmod x4 (2:Int)) (1:Int)),z14,z15,z16,s5,z17,z18,z19,s6,n1,c1,q1),hm,(.k [3] [false] [.tmp 1 false,.tmp 4 true,.cell 2 4 false] [1,4,5,6,8,34,35,36,44] ⟨BO h1,trivial⟩)⟩
       ·refine .reg (eC 4 (some ((zB (nt (Bd z14 z15))),(hT 4 [(oC [zI z14,zI z15,zI z16,Sl.v 1 s5]),(oC [zI z17,zI z18,zI z19,Sl.v 1 s6,sc 3 0 1 n1 c1]),oC q1]))) (show _=some ((zB false),_) from (by rw[show (nt (Bd z14 z15))=false from h15])) (eE)) ?_
        exact⟨(z10,z11,x3,s4,z12,(Int.ofNat k1),false,z14,z15,z16,s5,z17,z18,z19,s6,n1,c1,q1),hm,(.k [3] [false] [.tmp 1 false,.tmp 4 true,.cell 2 4 false] [1,4,5,6,8,34,35,36,44] ⟨BO h1,trivial⟩)⟩
    ·refine Dn (AY z13 z12) h2 ?_
     refine .exit ?_
     exact⟨(z11,z14,z15,z16,s5,z17,z18,z19,s6,n1,c1,q1),hm,(.k [3] [false] [.tmp 1 false,.tmp 4 true,.cell 2 4 false] [1,4,6] ⟨BO h1,trivial⟩)⟩
 ·replace hm:=QF hm;obtain⟨b77,h17,hm⟩:=hm
  replace hm:=Ag hm;rcases hm with⟨h18,hm⟩ | ⟨h18,hm⟩
  ·refine .reg (eC 2 ((oo (pu 34 [(zI (1:Int)),zI x0,(zI (4:Int))]) none fun v=>some (v,(hT 2 [(oC [zI x0,zI x1,zI x2,Sl.v 1 s0])])))) (AB h17) (eD (some ((zB (nt b77)),(hT 2 [(oC [zI x0,zI x1,zI x2,Sl.v 1 s0])]))) (show _=some ((zB true),_) from (by rw[show (nt b77)=true from h18])) (eE))) ?_
   exact⟨(true,x0,x1,x2,s0),hm,(.k0 [false] [.tmp 1 false] [1,29])⟩
  ·replace hm:=QF hm;obtain⟨b79,h19,hm⟩:=hm
   replace hm:=Ag hm;rcases hm with⟨h20,hm⟩ | ⟨h20,hm⟩
   ·refine .reg (eC 2 ((oo (pu 34 [(zI (1:Int)),zI x0,(zI (4:Int))]) none fun v=>some (v,(hT 2 [(oC [zI x0,zI x1,zI x2,Sl.v 1 s0])])))) (AB h17) (eD (some ((zB (nt b77)),(hT 2 [(oC [zI x0,zI x1,zI x2,Sl.v 1 s0])]))) (show _=some ((zB false),_) from (by rw[show (nt b77)=false from h18])) (eC 3 ((oo (pu 34 [(zI (1:Int)),zI x1,(zI (4:Int))]) none fun v=>some (v,(hT 2 [(oC [zI x0,zI x1,zI x2,Sl.v 1 s0])])))) (AB h19) (eD (some ((zB (nt b79)),(hT 2 [(oC [zI x0,zI x1,zI x2,Sl.v 1 s0])]))) (show _=some ((zB true),_) from (by rw[show (nt b79)=true from h20])) (eE))))) ?_
    exact⟨(true,x0,x1,x2,s0),hm,(.k0 [false] [.tmp 1 false] [1,29])⟩
   ·replace hm:=QF hm;obtain⟨b100,h21,hm⟩:=hm
    refine .reg (eC 2 ((oo (pu 34 [(zI (1:Int)),zI x0,(zI (4:Int))]) none fun v=>some (v,(hT 2 [(oC [zI x0,zI x1,zI x2,Sl.v 1 s0])])))) (AB h17) (eD (some ((zB (nt b77)),(hT 2 [(oC [zI x0,zI x1,zI x2,Sl.v 1 s0])]))) (show _=some ((zB false),_) from (by rw[show (nt b77)=false from h18])) (eC 3 ((oo (pu 34 [(zI (1:Int)),zI x1,(zI (4:Int))]) none fun v=>some (v,(hT 2 [(oC [zI x0,zI x1,zI x2,Sl.v 1 s0])])))) (AB h19) (eD (some ((zB (nt b79)),(hT 2 [(oC [zI x0,zI x1,zI x2,Sl.v 1 s0])]))) (show _=some ((zB false),_) from (by rw[show (nt b79)=false from h20])) (eC 4 ((oo (pu 34 [(zI (1:Int)),zI x2,(zI (4:Int))]) none fun v=>some (v,(hT 2 [(oC [zI x0,zI x1,zI x2,Sl.v 1 s0])])))) (AB h21) (eE)))))) ?_
    exact⟨((nt b100),x0,x1,x2,s0),hm,(.k0 [false] [.tmp 1 false] [1,29])⟩
end
end Go.BaAM
