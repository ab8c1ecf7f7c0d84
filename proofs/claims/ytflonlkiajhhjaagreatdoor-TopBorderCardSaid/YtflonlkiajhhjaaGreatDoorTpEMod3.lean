/- Made from wip. -/
import Derived.Test.YtflonlkiajhhjaaGreatDoorTpEMod0x

set_option maxRecDepth 100000
set_option maxHeartbeats 20000000
set_option linter.unusedVariables false
namespace Go.TpEM
open Go.Sp Go.TpE
noncomputable section
def VZ (pu:Af) (n:Nat):OV:=
 (some (.bool true))
def Yt (pu:Af) (n:Nat) (ih0:Sl→Sl→Int→Int→OV) (s0 s1:Sl) (z0 z1:Int):OV:=
 (bb (AY z1 z0) (oo (EA z1) none fun k1=>(bb (an (Nat.blt k1 (Sl.n s0)) true) (oo (AL (Sl.cs s0) (k1*1)) none fun v0=>(oo (Bi .i64 v0) none fun x0=>(bb (an (Nat.blt k1 (Sl.n s1)) true) (oo (AL (Sl.cs s1) (k1*1)) none fun v1=>(oo (Bi .i64 v1) none fun x1=>(bb (nt (Bd x0 x1)) (some (.bool false)) (ih0 s0 s1 z0 (Aj .i64 (Int.add (Int.ofNat k1) (1:Int))))))) none))) none)) (VZ pu n))
def Yu (pu:Af) (n w:Nat):Sl→Sl→Int→Int→OV:=
 Nat.rec (motive:=fun _=>Sl→Sl→Int→Int→OV) (fun _ _ _ _=>none) (fun _ ih0=>Yt pu n ih0) w
def Ahf (pu:Af) (n:Nat) (s0 s1:Sl):OV:=
 (bb (nt (Bd (Int.ofNat (Sl.n s0)) (Int.ofNat (Sl.n s1)))) (some (.bool false)) (Yu pu n n s0 s1 (Int.ofNat (Sl.n s0)) (0:Int)))
def m22 (pu:Af) (n:Nat) (args:LV):OV:=
 (ll args none fun a0 args=>(ll args none fun a1 args=>(ll args (oo (Bj 1 a0) none fun s0=>(oo (Bj 1 a1) none fun s1=>(Ahf pu n s0 s1))) fun _ _=>none)))
theorem Ahg (pu:Af) (n:Nat) {v:Value} (hm:VZ pu n=some v):BN tt (Bb tabs isP pu (inl pu)) 2 XT (fr 26 []) (hT 2 [(.cells Ay true false [])]) (Fin tt 2 [.tmp 4] v):=by
 unfold VZ at hm
 refine .then (.rK (.ghs (fr 26 [(4,zB true)]) (hT 2 [(.cells Ay true false [])]) (.k0 [false,false] [] [4]) ?_))
 refine .ret ?_
 exact AO (zB true) hm
theorem r22 {call:A8} (pu:Af) (n:Nat) (hcall:call=Bb tabs isP pu (inl pu)) {args:LV} {v:Value} (hm:m22 pu n args=some v) (_:∀ x∈args,closed2 x=true):args.length≤26∧BN tt call 2 Pq (Fr.made 26 args) (Ao tabs) (Fin tt 2 [.tmp 4] v):=by
 subst hcall
 unfold m22 at hm
 replace hm:=Ad hm;obtain⟨a0,args_0,rfl,hm⟩:=hm
 replace hm:=Ad hm;obtain⟨a1,args_1,rfl,hm⟩:=hm
 replace hm:=AC hm;obtain⟨rfl,hm⟩:=hm
 replace hm:=Al hm;obtain⟨s0,rfl,hm⟩:=hm
 replace hm:=Al hm;obtain⟨s1,rfl,hm⟩:=hm
 unfold Ahf at hm
 refine⟨by simp,?_⟩
 refine .same (F':=(fr 26 [(0,Sl.v 1 s0),(1,Sl.v 1 s1)])) (H':=(hT 2 [(.cells Ay true false [])])) (by kernel_rfl) (by kernel_rfl) ?_
 refine .then (.rK (.ghs (fr 26 [(0,Sl.v 1 s0),(1,Sl.v 1 s1)]) (hT 2 [(.cells Ay true false [])]) (.k0 [false,false] [] [0,1]) ?_))
 refine .then (.then (.rK (.ghs (fr 26 [(0,Sl.v 1 s0),(1,Sl.v 1 s1),(10,(zB (nt (Bd (Int.ofNat (Sl.n s0)) (Int.ofNat (Sl.n s1))))))]) (hT 2 [(.cells Ay true false [])]) (.k0 [false,false] [] [0,1,10]) ?_)))
 replace hm:=Ag hm;rcases hm with⟨h0,hm⟩ | ⟨h0,hm⟩
 ·refine BB (nt (Bd (Int.ofNat (Sl.n s0)) (Int.ofNat (Sl.n s1)))) h0 ?_
  refine .then (.rK (.ghs (fr 26 [(4,zB false)]) (hT 2 [(.cells Ay true false [])]) (.k0 [false,false] [] [4]) ?_))
  refine .ret ?_
  exact AO (zB false) hm
 ·refine BI (nt (Bd (Int.ofNat (Sl.n s0)) (Int.ofNat (Sl.n s1)))) h0 ?_
  refine .skip (.ghs (fr 26 [(0,Sl.v 1 s0),(1,Sl.v 1 s1)]) (hT 2 [(.cells Ay true false [])]) (.k0 [false,false] [] [0,1]) ?_)
  refine .join (v:=v) (fun y:Unit=>((fr 26 []),(hT 2 [(.cells Ay true false [])]))) (fun y=>VZ pu n) ?_ ?_
  ·rintro _ hm
   exact Ahg pu n hm
  ·refine .then (.rK (.ghs (fr 26 [(0,Sl.v 1 s0),(1,Sl.v 1 s1),(12,(zI (Int.ofNat (Sl.n s0)))),(13,(zI (0:Int)))]) (hT 2 [(.cells Ay true false [])]) (.k0 [false,false] [] [0,1,12,13]) ?_))
   refine .block (.loopM (v:=v) (fun y:Sl×Sl×Int×Int=>((fr 26 [(0,(Sl.v 1 y.1)),(1,(Sl.v 1 y.2.1)),(12,(zI y.2.2.1)),(13,(zI y.2.2.2))]),(hT 2 [(.cells Ay true false [])]))) (fun w y=>Yu pu n w y.1 y.2.1 y.2.2.1 y.2.2.2) n ⟨(s0,s1,(Int.ofNat (Sl.n s0)),(0:Int)),hm,(.k0 [false,false] [] [0,1,12,13])⟩ (fun _=>rfl) ?_)
   rintro w0 ⟨s2,s3,z0,z1⟩ hm
   replace hm:Yt pu n (Yu pu n w0) s2 s3 z0 z1=some v:=hm
   unfold Yt at hm
   refine .then (.rK (.ghs (fr 26 [(0,Sl.v 1 s2),(1,Sl.v 1 s3),(12,zI z0),(13,zI z1),(14,(zB (AY z1 z0)))]) (hT 2 [(.cells Ay true false [])]) (.k0 [false,false] [] [0,1,12,13,14]) ?_))
   refine .then ?_
   replace hm:=Ag hm;rcases hm with⟨h1,hm⟩ | ⟨h1,hm⟩
   ·refine BB (AY z1 z0) h1 ?_
    refine .skip (.ghs (fr 26 [(0,Sl.v 1 s2),(1,Sl.v 1 s3),(12,zI z0),(13,zI z1)]) (hT 2 [(.cells Ay true false [])]) (.k0 [false,false] [] [0,1,12,13]) ?_)
    refine .then (.block (.then (.rK (.ghs (fr 26 [(0,Sl.v 1 s2),(1,Sl.v 1 s3),(5,zI z1),(12,zI z0),(13,zI z1)]) (hT 2 [(.cells Ay true false [])]) (.k0 [false,false] [] [0,1,5,12,13]) ?_))))
    refine .then ?_
    replace hm:=Ab hm;obtain⟨k1,h2,hm⟩:=hm
    obtain rfl:=AR h2
    replace hm:=Ae hm;obtain⟨h3,hm⟩:=hm
    replace hm:=Gs hm;obtain⟨x0,h4,hm⟩:=hm
    replace hm:=Ae hm;obtain⟨h5,hm⟩:=hm
    replace hm:=Gs hm;obtain⟨x1,h6,hm⟩:=hm
    refine .reg (eC 2 (keep (hT 2 [(.cells Ay true false [])]) (bb (an (Nat.blt k1 (Sl.n s2)) true) (some (Cv (k1*1) (Sl.cs s2))) none)) (AX h3) (eD (keep (hT 2 [(.cells Ay true false [])]) (AL (Sl.cs s2) (k1*1))) (AZ h4) (eC 2 (keep (hT 2 [(.cells Ay true false [])]) (bb (an (Nat.blt k1 (Sl.n s3)) true) (some (Cv (k1*1) (Sl.cs s3))) none)) (AX h5) (eD (keep (hT 2 [(.cells Ay true false [])]) (AL (Sl.cs s3) (k1*1))) (AZ h6) (eE))))) ?_
    refine .ghs (fr 26 [(0,Sl.v 1 s2),(1,Sl.v 1 s3),(12,zI z0),(13,(zI (Int.ofNat k1))),(24,(zB (nt (Bd x0 x1))))]) (hT 2 [(.cells Ay true false [])]) (.k0 [false,false] [] [0,1,12,13,24]) ?_
    replace hm:=Ag hm;rcases hm with⟨h7,hm⟩ | ⟨h7,hm⟩
    ·refine BB (nt (Bd x0 x1)) h7 ?_
     refine .then (.rK (.ghs (fr 26 [(4,zB false)]) (hT 2 [(.cells Ay true false [])]) (.k0 [false,false] [] [4]) ?_))
     refine .ret ?_
     exact AO (zB false) hm
    ·refine BI (nt (Bd x0 x1)) h7 ?_
     refine .skip (.ghs (fr 26 [(0,Sl.v 1 s2),(1,Sl.v 1 s3),(12,zI z0),(13,(zI (Int.ofNat k1)))]) (hT 2 [(.cells Ay true false [])]) (.k0 [false,false] [] [0,1,12,13]) ?_)
     refine .rK ?_
     exact⟨(s2,s3,z0,(Aj .i64 (Int.add (Int.ofNat k1) (1:Int)))),hm,(.k0 [false,false] [] [0,1,12,13])⟩
   ·refine BI (AY z1 z0) h1 ?_
    refine .exit ?_
    exact⟨(),hm,(.k0 [false,false] [] [])⟩
def V3 (pu:Af) (n:Nat) (z0:Int):OV:=
 (some (.int .i64 z0))
def Yv (pu:Af) (n:Nat) (ih0:Sl→Int→Int→OV) (s0:Sl) (z0 z1:Int):OV:=
 (bb (AY z1 (Int.ofNat (Sl.n s0))) (oo (EA z1) none fun k1=>(bb (an (Nat.blt k1 (Sl.n s0)) true) (oo (AL (Sl.cs s0) (k1*1)) none fun v0=>(oo (Bi .i64 v0) none fun x0=>(ih0 s0 (bb (AY z0 x0) x0 z0) (Aj .i64 (Int.add (Int.ofNat k1) (1:Int)))))) none)) (V3 pu n z0))
def Yw (pu:Af) (n w:Nat):Sl→Int→Int→OV:=
 Nat.rec (motive:=fun _=>Sl→Int→Int→OV) (fun _ _ _=>none) (fun _ ih0=>Yv pu n ih0) w
def V4 (pu:Af) (n:Nat) (s0:Sl):OV:=
 (bb (an (Nat.blt 0 (Sl.n s0)) true) (oo (AL (Sl.cs s0) (0*1)) none fun v0=>(oo (Bi .i64 v0) none fun x0=>(Yw pu n n s0 x0 (1:Int)))) none)
def Ahh (pu:Af) (n:Nat) (s0:Sl):OV:=
 (bb (AY (Int.ofNat (Sl.n s0)) (1:Int)) none (V4 pu n s0))
def m46 (pu:Af) (n:Nat) (args:LV):OV:=
 (ll args none fun a0 args=>(ll args (oo (Bj 1 a0) none fun s0=>(Ahh pu n s0)) fun _ _=>none))
theorem Ahi (pu:Af) (n:Nat) (z0:Int) {v:Value} (hm:V3 pu n z0=some v):BN tt (Bb tabs isP pu (inl pu)) 2 XU (fr 25 [(3,zI z0)]) (hT 2 [(.cells Ay true false [])]) (Fin tt 2 [.tmp 2] v):=by
 unfold V3 at hm
 refine .then (.rK (.ghs (fr 25 [(2,zI z0)]) (hT 2 [(.cells Ay true false [])]) (.k0 [false,false] [] [2]) ?_))
 refine .ret ?_
 exact AO (zI z0) hm
theorem Ahj (pu:Af) (n:Nat) (s0:Sl) {v:Value} (hm:V4 pu n s0=some v):BN tt (Bb tabs isP pu (inl pu)) 2 XZ (fr 25 [(0,Sl.v 1 s0)]) (hT 2 [(.cells Ay true false [])]) (Fin tt 2 [.tmp 2] v):=by
 unfold V4 at hm
 refine .then ?_
 replace hm:=Ae hm;obtain⟨h0,hm⟩:=hm
 replace hm:=Gs hm;obtain⟨x0,h1,hm⟩:=hm
 refine .reg (eC 1 (keep (hT 2 [(.cells Ay true false [])]) (bb (an (Nat.blt 0 (Sl.n s0)) true) (some (Cv (0*1) (Sl.cs s0))) none)) (AX h0) (eD (keep (hT 2 [(.cells Ay true false [])]) (AL (Sl.cs s0) (0*1))) (AZ h1) (eE))) ?_
 refine .ghs (fr 25 [(0,Sl.v 1 s0),(3,zI x0)]) (hT 2 [(.cells Ay true false [])]) (.k0 [false,false] [] [0,3]) ?_
 refine .join (v:=v) (fun y:Int=>((fr 25 [(3,zI y)]),(hT 2 [(.cells Ay true false [])]))) (fun y=>V3 pu n y) ?_ ?_
 ·rintro z0 hm
  exact Ahi pu n z0 hm
 ·refine .then (.rK (.ghs (fr 25 [(0,Sl.v 1 s0),(3,zI x0),(4,(zI (1:Int)))]) (hT 2 [(.cells Ay true false [])]) (.k0 [false,false] [] [0,3,4]) ?_))
  refine .block (.loopM (v:=v) (fun y:Sl×Int×Int=>((fr 25 [(0,(Sl.v 1 y.1)),(3,(zI y.2.1)),(4,(zI y.2.2))]),(hT 2 [(.cells Ay true false [])]))) (fun w y=>Yw pu n w y.1 y.2.1 y.2.2) n ⟨(s0,x0,(1:Int)),hm,(.k0 [false,false] [] [0,3,4])⟩ (fun _=>rfl) ?_)
  rintro w0 ⟨s1,z1,z2⟩ hm
  replace hm:Yv pu n (Yw pu n w0) s1 z1 z2=some v:=hm
  unfold Yv at hm
  refine .then (.then (.rK (.ghs (fr 25 [(0,Sl.v 1 s1),(3,zI z1),(4,zI z2),(15,(zB (AY z2 (Int.ofNat (Sl.n s1)))))]) (hT 2 [(.cells Ay true false [])]) (.k0 [false,false] [] [0,3,4,15]) ?_)))
  replace hm:=Ag hm;rcases hm with⟨h2,hm⟩ | ⟨h2,hm⟩
  ·refine BB (AY z2 (Int.ofNat (Sl.n s1))) h2 ?_
   refine .skip (.ghs (fr 25 [(0,Sl.v 1 s1),(3,zI z1),(4,zI z2)]) (hT 2 [(.cells Ay true false [])]) (.k0 [false,false] [] [0,3,4]) ?_)
   refine .then (.block ?_)
   replace hm:=Ab hm;obtain⟨k1,h3,hm⟩:=hm
   obtain rfl:=AR h3
   replace hm:=Ae hm;obtain⟨h4,hm⟩:=hm
   replace hm:=Gs hm;obtain⟨x1,h5,hm⟩:=hm
   refine .reg (eC 3 (keep (hT 2 [(.cells Ay true false [])]) (bb (an (Nat.blt k1 (Sl.n s1)) true) (some (Cv (k1*1) (Sl.cs s1))) none)) (AX h4) (eD (keep (hT 2 [(.cells Ay true false [])]) (AL (Sl.cs s1) (k1*1))) (AZ h5) (eE))) ?_
   refine .ghs (fr 25 [(0,Sl.v 1 s1),(3,(zI (bb (AY z1 x1) x1 z1))),(4,(zI (Int.ofNat k1)))]) (hT 2 [(.cells Ay true false [])]) (.k0 [false,false] [] [0,3,4]) ?_
   refine .rK ?_
   exact⟨(s1,(bb (AY z1 x1) x1 z1),(Aj .i64 (Int.add (Int.ofNat k1) (1:Int)))),hm,(.k0 [false,false] [] [0,3,4])⟩
  ·refine BI (AY z2 (Int.ofNat (Sl.n s1))) h2 ?_
   refine .exit ?_
   exact⟨z1,hm,(.k0 [false,false] [] [3])⟩
theorem r46 {call:A8} (pu:Af) (n:Nat) (hcall:call=Bb tabs isP pu (inl pu)) {args:LV} {v:Value} (hm:m46 pu n args=some v) (_:∀ x∈args,closed2 x=true):args.length≤25∧BN tt call 2 Ps (Fr.made 25 args) (Ao tabs) (Fin tt 2 [.tmp 2] v):=by
 subst hcall
 unfold m46 at hm
 replace hm:=Ad hm;obtain⟨a0,args_0,rfl,hm⟩:=hm
 replace hm:=AC hm;obtain⟨rfl,hm⟩:=hm
 replace hm:=Al hm;obtain⟨s0,rfl,hm⟩:=hm
 unfold Ahh at hm
 refine⟨by simp,?_⟩
 refine .same (F':=(fr 25 [(0,Sl.v 1 s0)])) (H':=(hT 2 [(.cells Ay true false [])])) (by kernel_rfl) (by kernel_rfl) ?_
 refine .then (.rK (.ghs (fr 25 [(0,Sl.v 1 s0)]) (hT 2 [(.cells Ay true false [])]) (.k0 [false,false] [] [0]) ?_))
 refine .join (v:=v) (fun y:Sl=>((fr 25 [(0,Sl.v 1 y)]),(hT 2 [(.cells Ay true false [])]))) (fun y=>V4 pu n y) ?_ ?_
 ·rintro s1 hm
  exact Ahj pu n s1 hm
 ·refine .then (.rK (.ghs (fr 25 [(0,Sl.v 1 s0),(7,(zB (AY (Int.ofNat (Sl.n s0)) (1:Int))))]) (hT 2 [(.cells Ay true false [])]) (.k0 [false,false] [] [0,7]) ?_))
  replace hm:=Ag hm;rcases hm with⟨h0,hm⟩ | ⟨h0,hm⟩
  ·refine BB (AY (Int.ofNat (Sl.n s0)) (1:Int)) h0 ?_
   cases hm
  ·refine BI (AY (Int.ofNat (Sl.n s0)) (1:Int)) h0 ?_
   refine .skip ?_
   exact⟨s0,hm,(.k0 [false,false] [] [0])⟩
def V5 (pu:Af) (n n0:Nat) (q0:LV):OV:=
 (some (.tuple ⟨[(Cv n0 q0),(.int .i64 (0:Int))]⟩))
def Yy (pu:Af) (n:Nat) (ih0:Nat→LV→Sl→Int→Int→OV) (n0:Nat) (q0:LV) (s0:Sl) (z0 z1:Int):OV:=
 (bb (AY z1 z0) (oo (EA z1) none fun k1=>(bb (an (Nat.blt k1 (Sl.n s0)) true) (oo (AL (Sl.cs s0) (k1*1)) none fun v0=>(oo (Bj 1 v0) none fun s1=>(oo (pu 113 [(Cv n0 q0),Sl.v 1 s1]) none fun v1=>(oo (Bi .i64 v1) none fun x0=>(bb (nt (Bd x0 (0:Int))) (some (.tuple ⟨[(.pointer none),.int .i64 x0]⟩)) (ih0 n0 q0 s0 z0 (Aj .i64 (Int.add (Int.ofNat k1) (1:Int))))))))) none)) (V5 pu n n0 q0))
def Yz (pu:Af) (n w:Nat):Nat→LV→Sl→Int→Int→OV:=
 Nat.rec (motive:=fun _=>Nat→LV→Sl→Int→Int→OV) (fun _ _ _ _ _=>none) (fun _ ih0=>Yy pu n ih0) w
def V6 (pu:Af) (n:Nat):OV:=
 (some (.tuple ⟨[(.pointer none),(.int .i64 (0:Int))]⟩))
def YA (pu:Af) (n:Nat) (ih0:Sl→Int→Int→OV) (s0:Sl) (z0 z1:Int):OV:=
 (bb (AY z1 z0) (oo (EA z1) none fun k1=>(bb (an (Nat.blt k1 (Sl.n s0)) true) (oo (AL (Sl.cs s0) (k1*1)) none fun v0=>(oo (Bj 1 v0) none fun s1=>(oo (pu 113 [(.pointer none),Sl.v 1 s1]) none fun v1=>(oo (Bi .i64 v1) none fun x0=>(bb (nt (Bd x0 (0:Int))) (some (.tuple ⟨[(.pointer none),.int .i64 x0]⟩)) (ih0 s0 z0 (Aj .i64 (Int.add (Int.ofNat k1) (1:Int))))))))) none)) (V6 pu n))
def YB (pu:Af) (n w:Nat):Sl→Int→Int→OV:=
 Nat.rec (motive:=fun _=>Sl→Int→Int→OV) (fun _ _ _=>none) (fun _ ih0=>YA pu n ih0) w
def Ahk (pu:Af) (n:Nat) (x0 x1 x2:Int) (s0 s1:Sl):OV:=
 (oo (pu 112 [(.agg ⟨[.int .i64 x0,.int .i64 x1,.int .i64 x2,Sl.v 1 s0]⟩)]) none fun v0=>(oo (CQ v0) none fun l0=>(ll l0 none fun v1 l0=>(ll l0 none fun v2 l0=>(ll l0 (bb (isS (Pv v1)) (oo (Pv v1) none fun p0=>(oo (Bi .i64 v2) none fun x3=>(bb (nt (Bd x3 (0:Int))) (some (.tuple ⟨[(.pointer none),.int .i64 x3]⟩)) (Yz pu n n (Db.off p0) (Db.cs p0) s1 (Int.ofNat (Sl.n s1)) (0:Int))))) (bb (Xe v1) (oo (Bi .i64 v2) none fun x4=>(bb (nt (Bd x4 (0:Int))) (some (.tuple ⟨[(.pointer none),.int .i64 x4]⟩)) (YB pu n n s1 (Int.ofNat (Sl.n s1)) (0:Int)))) none)) fun _ _=>none)))))
def m52 (pu:Af) (n:Nat) (args:LV):OV:=
 (ll args none fun a0 args=>(ll args none fun a1 args=>(ll args (oo (Bt a0) none fun l0=>(ll l0 none fun v0 l0=>(ll l0 none fun v1 l0=>(ll l0 none fun v2 l0=>(ll l0 none fun v3 l0=>(ll l0 (oo (Bi .i64 v0) none fun x0=>(oo (Bi .i64 v1) none fun x1=>(oo (Bi .i64 v2) none fun x2=>(oo (Bj 1 v3) none fun s0=>(oo (Bj 1 a1) none fun s1=>(Ahk pu n x0 x1 x2 s0 s1)))))) fun _ _=>none)))))) fun _ _=>none)))
theorem Ahl (pu:Af) (n n0:Nat) (q0:LV) {v:Value} (hm:V5 pu n n0 q0=some v):BN tt (Bb tabs isP pu (inl pu)) 2 SF (fr 33 [(6,(Cv n0 q0))]) (hT 2 [(.cells Ay true false [])]) (Fin tt 2 [.tmp 4,.tmp 5] v):=by
 unfold V5 at hm
 refine .then (.rK (.ghs (fr 33 [(4,(Cv n0 q0)),(5,(zI (0:Int)))]) (hT 2 [(.cells Ay true false [])]) (.k0 [false,false] [] [4,5]) ?_))
 refine .ret ?_
 exact AO (.tuple ⟨[(Cv n0 q0),(zI (0:Int))]⟩) hm
theorem Ahm (pu:Af) (n:Nat) {v:Value} (hm:V6 pu n=some v):BN tt (Bb tabs isP pu (inl pu)) 2 SF (fr 33 [(6,(.pointer none))]) (hT 2 [(.cells Ay true false [])]) (Fin tt 2 [.tmp 4,.tmp 5] v):=by
 unfold V6 at hm
 refine .then (.rK (.ghs (fr 33 [(4,(.pointer none)),(5,(zI (0:Int)))]) (hT 2 [(.cells Ay true false [])]) (.k0 [false,false] [] [4,5]) ?_))
 refine .ret ?_
 exact AO (.tuple ⟨[(.pointer none),(zI (0:Int))]⟩) hm
theorem r52 {call:A8} (pu:Af) (n:Nat) (hcall:call=Bb tabs isP pu (inl pu)) {args:LV} {v:Value} (hm:m52 pu n args=some v) (_:∀ x∈args,closed2 x=true):args.length≤33∧BN tt call 2 Pt (Fr.made 33 args) (Ao tabs) (Fin tt 2 [.tmp 4,.tmp 5] v):=by
 subst hcall
 unfold m52 at hm
 replace hm:=Ad hm;obtain⟨a0,args_0,rfl,hm⟩:=hm
 replace hm:=Ad hm;obtain⟨a1,args_1,rfl,hm⟩:=hm
 replace hm:=AC hm;obtain⟨rfl,hm⟩:=hm
 replace hm:=BG hm;obtain⟨l0,rfl,hm⟩:=hm
 replace hm:=Ad hm;obtain⟨v0,l6378_0,rfl,hm⟩:=hm
 replace hm:=Ad hm;obtain⟨v1,l6378_1,rfl,hm⟩:=hm
 replace hm:=Ad hm;obtain⟨v2,l6378_2,rfl,hm⟩:=hm
 replace hm:=Ad hm;obtain⟨v3,l6378_3,rfl,hm⟩:=hm
 replace hm:=AC hm;obtain⟨rfl,hm⟩:=hm
 replace hm:=Ai hm;obtain⟨x0,rfl,hm⟩:=hm
 replace hm:=Ai hm;obtain⟨x1,rfl,hm⟩:=hm
 replace hm:=Ai hm;obtain⟨x2,rfl,hm⟩:=hm
 replace hm:=Al hm;obtain⟨s0,rfl,hm⟩:=hm
 replace hm:=Al hm;obtain⟨s1,rfl,hm⟩:=hm
 unfold Ahk at hm
 refine⟨by simp,?_⟩
 refine .same (F':=(fr 33 [(0,(.agg ⟨[zI x0,zI x1,zI x2,Sl.v 1 s0]⟩)),(1,Sl.v 1 s1)])) (H':=(hT 2 [(.cells Ay true false [])])) (by kernel_rfl) (by kernel_rfl) ?_
 refine .then (.rK (.ghs (fr 33 [(1,Sl.v 1 s1),(2,(pt 2 0))]) (hT 3 [(.cells Ay true false []),(oC [zI x0,zI x1,zI x2,Sl.v 1 s0])]) (.k0 [false,false] [.tmp 2 false] [1,2]) ?_))
 refine .then ?_
 replace hm:=Ab hm;obtain⟨v4,h0,hm⟩:=hm
 replace hm:=Ch hm;obtain⟨l1,rfl,hm⟩:=hm
 replace hm:=Ad hm;obtain⟨v5,l6407_0,rfl,hm⟩:=hm
 replace hm:=Ad hm;obtain⟨v6,l6407_1,rfl,hm⟩:=hm
 replace hm:=AC hm;obtain⟨rfl,hm⟩:=hm
 replace hm:=Ag hm;rcases hm with⟨h1,hm⟩ | ⟨h1,hm⟩
 ·replace hm:=Ab hm;obtain⟨p0,h2,hm⟩:=hm
  obtain rfl:=F7 h2
  replace hm:=Ai hm;obtain⟨x3,rfl,hm⟩:=hm
  refine .reg (eC 1 ((oo (pu 112 [(.agg ⟨[zI x0,zI x1,zI x2,Sl.v 1 s0]⟩)]) none fun v=>some (v,(hT 3 [(.cells Ay true false []),(oC [zI x0,zI x1,zI x2,Sl.v 1 s0])])))) (AB h0) (eE)) ?_
  refine .ghs (fr 33 [(1,Sl.v 1 s1),(6,(Cv (Db.off p0) (Db.cs p0))),(7,zI x3)]) (hT 2 [(.cells Ay true false [])]) (.k0 [false,false] [] [1,6,7]) ?_
  refine .then (.then (.rK (.ghs (fr 33 [(1,Sl.v 1 s1),(6,(Cv (Db.off p0) (Db.cs p0))),(7,zI x3),(17,(zB (nt (Bd x3 (0:Int)))))]) (hT 2 [(.cells Ay true false [])]) (.k0 [false,false] [] [1,6,7,17]) ?_)))
  replace hm:=Ag hm;rcases hm with⟨h3,hm⟩ | ⟨h3,hm⟩
  ·refine BB (nt (Bd x3 (0:Int))) h3 ?_
   refine .then (.rK (.ghs (fr 33 [(4,(.pointer none)),(5,zI x3)]) (hT 2 [(.cells Ay true false [])]) (.k0 [false,false] [] [4,5]) ?_))
   refine .ret ?_
   exact AO (.tuple ⟨[(.pointer none),zI x3]⟩) hm
  ·refine BI (nt (Bd x3 (0:Int))) h3 ?_
   refine .skip (.ghs (fr 33 [(1,Sl.v 1 s1),(6,(Cv (Db.off p0) (Db.cs p0)))]) (hT 2 [(.cells Ay true false [])]) (.k0 [false,false] [] [1,6]) ?_)
   refine .join (v:=v) (fun y:Nat×LV=>((fr 33 [(6,(Cv y.1 y.2))]),(hT 2 [(.cells Ay true false [])]))) (fun y=>V5 pu n y.1 y.2) ?_ ?_
   ·rintro⟨n0,q0⟩ hm
    exact Ahl pu n n0 q0 hm
   ·refine .then (.rK (.ghs (fr 33 [(6,(Cv (Db.off p0) (Db.cs p0))),(19,Sl.v 1 s1),(20,(zI (Int.ofNat (Sl.n s1)))),(21,(zI (0:Int)))]) (hT 2 [(.cells Ay true false [])]) (.k0 [false,false] [] [6,19,20,21]) ?_))
    refine .block (.loopM (v:=v) (fun y:Nat×LV×Sl×Int×Int=>((fr 33 [(6,(Cv y.1 y.2.1)),(19,(Sl.v 1 y.2.2.1)),(20,(zI y.2.2.2.1)),(21,(zI y.2.2.2.2))]),(hT 2 [(.cells Ay true false [])]))) (fun w y=>Yz pu n w y.1 y.2.1 y.2.2.1 y.2.2.2.1 y.2.2.2.2) n ⟨((Db.off p0),(Db.cs p0),s1,(Int.ofNat (Sl.n s1)),(0:Int)),hm,(.k0 [false,false] [] [6,19,20,21])⟩ (fun _=>rfl) ?_)
    rintro w0 ⟨n1,q1,s2,z0,z1⟩ hm
    replace hm:Yy pu n (Yz pu n w0) n1 q1 s2 z0 z1=some v:=hm
    unfold Yy at hm
    refine .then (.rK (.ghs (fr 33 [(6,(Cv n1 q1)),(19,Sl.v 1 s2),(20,zI z0),(21,zI z1),(22,(zB (AY z1 z0)))]) (hT 2 [(.cells Ay true false [])]) (.k0 [false,false] [] [6,19,20,21,22]) ?_))
    refine .then ?_
    replace hm:=Ag hm;rcases hm with⟨h4,hm⟩ | ⟨h4,hm⟩
    ·refine BB (AY z1 z0) h4 ?_
     refine .skip (.ghs (fr 33 [(6,(Cv n1 q1)),(19,Sl.v 1 s2),(20,zI z0),(21,zI z1)]) (hT 2 [(.cells Ay true false [])]) (.k0 [false,false] [] [6,19,20,21]) ?_)
     refine .then (.block (.then ?_))
     replace hm:=Ab hm;obtain⟨k1,h5,hm⟩:=hm
     obtain rfl:=AR h5
     replace hm:=Ae hm;obtain⟨h6,hm⟩:=hm
     replace hm:=Sa hm;obtain⟨s3,h7,hm⟩:=hm
     refine .reg (eD (keep (hT 2 [(.cells Ay true false [])]) (bb (an (Nat.blt k1 (Sl.n s2)) true) (some (Cv (k1*1) (Sl.cs s2))) none)) (AX h6) (eD (keep (hT 2 [(.cells Ay true false [])]) (AL (Sl.cs s2) (k1*1))) (AZ h7) (eE))) ?_
     refine .ghs (fr 33 [(6,(Cv n1 q1)),(9,Sl.v 1 s3),(19,Sl.v 1 s2),(20,zI z0),(21,(zI (Int.ofNat k1)))]) (hT 2 [(.cells Ay true false [])]) (.k0 [false,false] [] [6,9,19,20,21]) ?_
     refine .then ?_
     replace hm:=Gs hm;obtain⟨x4,h8,hm⟩:=hm
     refine .reg (eC 2 ((oo (pu 113 [(Cv n1 q1),Sl.v 1 s3]) none fun v=>some (v,(hT 2 [(.cells Ay true false [])])))) (AB h8) (eE)) ?_
     refine .ghs (fr 33 [(6,(Cv n1 q1)),(10,zI x4),(19,Sl.v 1 s2),(20,zI z0),(21,(zI (Int.ofNat k1)))]) (hT 2 [(.cells Ay true false [])]) (.k0 [false,false] [] [6,10,19,20,21]) ?_
     refine .then (.rK (.ghs (fr 33 [(6,(Cv n1 q1)),(10,zI x4),(19,Sl.v 1 s2),(20,zI z0),(21,(zI (Int.ofNat k1))),(29,(zB (nt (Bd x4 (0:Int)))))]) (hT 2 [(.cells Ay true false [])]) (.k0 [false,false] [] [6,10,19,20,21,29]) ?_))
     replace hm:=Ag hm;rcases hm with⟨h9,hm⟩ | ⟨h9,hm⟩
     ·refine BB (nt (Bd x4 (0:Int))) h9 ?_
      refine .then (.rK (.ghs (fr 33 [(4,(.pointer none)),(5,zI x4)]) (hT 2 [(.cells Ay true false [])]) (.k0 [false,false] [] [4,5]) ?_))
      refine .ret ?_
      exact AO (.tuple ⟨[(.pointer none),zI x4]⟩) hm
     ·refine BI (nt (Bd x4 (0:Int))) h9 ?_
      refine .skip (.ghs (fr 33 [(6,(Cv n1 q1)),(19,Sl.v 1 s2),(20,zI z0),(21,(zI (Int.ofNat k1)))]) (hT 2 [(.cells Ay true false [])]) (.k0 [false,false] [] [6,19,20,21]) ?_)
      refine .rK ?_
      exact⟨(n1,q1,s2,z0,(Aj .i64 (Int.add (Int.ofNat k1) (1:Int)))),hm,(.k0 [false,false] [] [6,19,20,21])⟩
    ·refine BI (AY z1 z0) h4 ?_
     refine .exit ?_
     exact⟨(n1,q1),hm,(.k0 [false,false] [] [6])⟩
 ·replace hm:=Ae hm;obtain⟨h10,hm⟩:=hm
  obtain rfl:=Pi h10
  replace hm:=Ai hm;obtain⟨x5,rfl,hm⟩:=hm
  refine .reg (eC 1 ((oo (pu 112 [(.agg ⟨[zI x0,zI x1,zI x2,Sl.v 1 s0]⟩)]) none fun v=>some (v,(hT 3 [(.cells Ay true false []),(oC [zI x0,zI x1,zI x2,Sl.v 1 s0])])))) (AB h0) (eE)) ?_
  refine .ghs (fr 33 [(1,Sl.v 1 s1),(6,(.pointer none)),(7,zI x5)]) (hT 2 [(.cells Ay true false [])]) (.k0 [false,false] [] [1,6,7]) ?_
  refine .then (.then (.rK (.ghs (fr 33 [(1,Sl.v 1 s1),(6,(.pointer none)),(7,zI x5),(17,(zB (nt (Bd x5 (0:Int)))))]) (hT 2 [(.cells Ay true false [])]) (.k0 [false,false] [] [1,6,7,17]) ?_)))
  replace hm:=Ag hm;rcases hm with⟨h11,hm⟩ | ⟨h11,hm⟩
  ·refine BB (nt (Bd x5 (0:Int))) h11 ?_
   refine .then (.rK (.ghs (fr 33 [(4,(.pointer none)),(5,zI x5)]) (hT 2 [(.cells Ay true false [])]) (.k0 [false,false] [] [4,5]) ?_))
   refine .ret ?_
   exact AO (.tuple ⟨[(.pointer none),zI x5]⟩) hm
  ·refine BI (nt (Bd x5 (0:Int))) h11 ?_
   refine .skip (.ghs (fr 33 [(1,Sl.v 1 s1),(6,(.pointer none))]) (hT 2 [(.cells Ay true false [])]) (.k0 [false,false] [] [1,6]) ?_)
   refine .join (v:=v) (fun y:Unit=>((fr 33 [(6,(.pointer none))]),(hT 2 [(.cells Ay true false [])]))) (fun y=>V6 pu n) ?_ ?_
   ·rintro _ hm
    exact Ahm pu n hm
   ·refine .then (.rK (.ghs (fr 33 [(6,(.pointer none)),(19,Sl.v 1 s1),(20,(zI (Int.ofNat (Sl.n s1)))),(21,(zI (0:Int)))]) (hT 2 [(.cells Ay true false [])]) (.k0 [false,false] [] [6,19,20,21]) ?_))
    refine .block (.loopM (v:=v) (fun y:Sl×Int×Int=>((fr 33 [(6,(.pointer none)),(19,(Sl.v 1 y.1)),(20,(zI y.2.1)),(21,(zI y.2.2))]),(hT 2 [(.cells Ay true false [])]))) (fun w y=>YB pu n w y.1 y.2.1 y.2.2) n ⟨(s1,(Int.ofNat (Sl.n s1)),(0:Int)),hm,(.k0 [false,false] [] [6,19,20,21])⟩ (fun _=>rfl) ?_)
    rintro w0 ⟨s4,z2,z3⟩ hm
    replace hm:YA pu n (YB pu n w0) s4 z2 z3=some v:=hm
    unfold YA at hm
    refine .then (.rK (.ghs (fr 33 [(6,(.pointer none)),(19,Sl.v 1 s4),(20,zI z2),(21,zI z3),(22,(zB (AY z3 z2)))]) (hT 2 [(.cells Ay true false [])]) (.k0 [false,false] [] [6,19,20,21,22]) ?_))
    refine .then ?_
    replace hm:=Ag hm;rcases hm with⟨h12,hm⟩ | ⟨h12,hm⟩
    ·refine BB (AY z3 z2) h12 ?_
     refine .skip (.ghs (fr 33 [(6,(.pointer none)),(19,Sl.v 1 s4),(20,zI z2),(21,zI z3)]) (hT 2 [(.cells Ay true false [])]) (.k0 [false,false] [] [6,19,20,21]) ?_)
     refine .then (.block (.then ?_))
     replace hm:=Ab hm;obtain⟨k2,h13,hm⟩:=hm
     obtain rfl:=AR h13
     replace hm:=Ae hm;obtain⟨h14,hm⟩:=hm
     replace hm:=Sa hm;obtain⟨s5,h15,hm⟩:=hm
     refine .reg (eD (keep (hT 2 [(.cells Ay true false [])]) (bb (an (Nat.blt k2 (Sl.n s4)) true) (some (Cv (k2*1) (Sl.cs s4))) none)) (AX h14) (eD (keep (hT 2 [(.cells Ay true false [])]) (AL (Sl.cs s4) (k2*1))) (AZ h15) (eE))) ?_
     refine .ghs (fr 33 [(6,(.pointer none)),(9,Sl.v 1 s5),(19,Sl.v 1 s4),(20,zI z2),(21,(zI (Int.ofNat k2)))]) (hT 2 [(.cells Ay true false [])]) (.k0 [false,false] [] [6,9,19,20,21]) ?_
     refine .then ?_
     replace hm:=Gs hm;obtain⟨x6,h16,hm⟩:=hm
     refine .reg (eC 2 ((oo (pu 113 [(.pointer none),Sl.v 1 s5]) none fun v=>some (v,(hT 2 [(.cells Ay true false [])])))) (AB h16) (eE)) ?_
     refine .ghs (fr 33 [(6,(.pointer none)),(10,zI x6),(19,Sl.v 1 s4),(20,zI z2),(21,(zI (Int.ofNat k2)))]) (hT 2 [(.cells Ay true false [])]) (.k0 [false,false] [] [6,10,19,20,21]) ?_
     refine .then (.rK (.ghs (fr 33 [(6,(.pointer none)),(10,zI x6),(19,Sl.v 1 s4),(20,zI z2),(21,(zI (Int.ofNat k2))),(29,(zB (nt (Bd x6 (0:Int)))))]) (hT 2 [(.cells Ay true false [])]) (.k0 [false,false] [] [6,10,19,20,21,29]) ?_))
     replace hm:=Ag hm;rcases hm with⟨h17,hm⟩ | ⟨h17,hm⟩
     ·refine BB (nt (Bd x6 (0:Int))) h17 ?_
      refine .then (.rK (.ghs (fr 33 [(4,(.pointer none)),(5,zI x6)]) (hT 2 [(.cells Ay true false [])]) (.k0 [false,false] [] [4,5]) ?_))
      refine .ret ?_
      exact AO (.tuple ⟨[(.pointer none),zI x6]⟩) hm
     ·refine BI (nt (Bd x6 (0:Int))) h17 ?_
      refine .skip (.ghs (fr 33 [(6,(.pointer none)),(19,Sl.v 1 s4),(20,zI z2),(21,(zI (Int.ofNat k2)))]) (hT 2 [(.cells Ay true false [])]) (.k0 [false,false] [] [6,19,20,21]) ?_)
      refine .rK ?_
      exact⟨(s4,z2,(Aj .i64 (Int.add (Int.ofNat k2) (1:Int)))),hm,(.k0 [false,false] [] [6,19,20,21])⟩
    ·refine BI (AY z3 z2) h12 ?_
     refine .exit ?_
     exact⟨(),hm,(.k0 [false,false] [] [6])⟩
def V8 (pu:Af) (n:Nat) (z0:Int):OV:=
 (some (.int .u16 z0))
def V9 (pu:Af) (n:Nat) (ih0:Sl→Int→Sl→Int→Int→OV) (s0:Sl) (z0:Int) (s1:Sl) (z1 z2:Int):OV:=
 (ih0 s0 z0 s1 z1 (Aj .i64 (Int.add z2 (1:Int))))
def YC (pu:Af) (n:Nat) (ih0:Sl→Int→Sl→Int→Int→OV) (s0:Sl) (z0:Int) (s1:Sl) (z1 z2:Int):OV:=
 (bb (AY z2 z1) (oo (EA z2) none fun k1=>(bb (an (Nat.blt k1 (Sl.n s1)) true) (oo (AL (Sl.cs s1) (k1*1)) none fun v0=>(oo (Bi .i64 v0) none fun x0=>(oo (EA x0) none fun k2=>(bb (an (Nat.blt k2 (Sl.n s0)) true) (oo (AL (Sl.cs s0) (k2*1)) none fun v1=>(oo (Bi .i64 v1) none fun x1=>(bb (an (Nat.blt k1 (Sl.n s0)) true) (oo (AL (Sl.cs s0) (k1*1)) none fun v2=>(oo (Bi .i64 v2) none fun x2=>(bb (nt (Bd x1 x2)) (V9 pu n ih0 s0 (jF .u16 z0 (QW .u16 (1:Int) k1)) s1 z1 (Int.ofNat k1)) (V9 pu n ih0 s0 z0 s1 z1 (Int.ofNat k1))))) none))) none)))) none)) (V8 pu n z0))
def Wl (pu:Af) (n w:Nat):Sl→Int→Sl→Int→Int→OV:=
 Nat.rec (motive:=fun _=>Sl→Int→Sl→Int→Int→OV) (fun _ _ _ _ _=>none) (fun _ ih0=>YC pu n ih0) w
def Ahn (pu:Af) (n:Nat) (p0:Db) (s0:Sl) (x0:Int):OV:=
 (oo (AL (Db.cs p0) ((Db.off p0)+4)) none fun v0=>(oo (Bj 1 v0) none fun s1=>(oo (EA x0) none fun k1=>(bb (an (Nat.blt k1 (Sl.n s1)) true) (oo (AL (Sl.cs s1) (k1*1)) none fun v1=>(oo (Bj 1 v1) none fun s2=>(Wl pu n n s0 (0:Int) s2 (Int.ofNat (Sl.n s2)) (0:Int)))) none))))
def m53 (pu:Af) (n:Nat) (args:LV):OV:=
 (ll args none fun a0 args=>(ll args none fun a1 args=>(ll args none fun a2 args=>(ll args (oo (Pv a0) none fun p0=>(oo (Bj 1 a1) none fun s0=>(oo (Bi .i64 a2) none fun x0=>(Ahn pu n p0 s0 x0)))) fun _ _=>none))))
theorem Aho (pu:Af) (n:Nat) (z0:Int) {v:Value} (hm:V8 pu n z0=some v):BN tt (Bb tabs isP pu (inl pu)) 2 X0 (fr 38 [(7,.int .u16 z0)]) (hT 2 [(.cells Ay true false [])]) (Fin tt 2 [.tmp 6] v):=by
 unfold V8 at hm
 refine .then (.rK (.ghs (fr 38 [(6,.int .u16 z0)]) (hT 2 [(.cells Ay true false [])]) (.k0 [false,false] [] [6]) ?_))
 refine .ret ?_
 exact AO (.int .u16 z0) hm
theorem r53 {call:A8} (pu:Af) (n:Nat) (hcall:call=Bb tabs isP pu (inl pu)) {args:LV} {v:Value} (hm:m53 pu n args=some v) (_:∀ x∈args,closed2 x=true):args.length≤38∧BN tt call 2 PI (Fr.made 38 args) (Ao tabs) (Fin tt 2 [.tmp 6] v):=by
 subst hcall
 unfold m53 at hm
 replace hm:=Ad hm;obtain⟨a0,args_0,rfl,hm⟩:=hm
 replace hm:=Ad hm;obtain⟨a1,args_1,rfl,hm⟩:=hm
 replace hm:=Ad hm;obtain⟨a2,args_2,rfl,hm⟩:=hm
 replace hm:=AC hm;obtain⟨rfl,hm⟩:=hm
 replace hm:=Ab hm;obtain⟨p0,h0,hm⟩:=hm
 obtain rfl:=F7 h0
 replace hm:=Al hm;obtain⟨s0,rfl,hm⟩:=hm
 replace hm:=Ai hm;obtain⟨x0,rfl,hm⟩:=hm
 unfold Ahn at hm
 refine⟨by simp,?_⟩
 refine .same (F':=(fr 38 [(0,(Cv (Db.off p0) (Db.cs p0))),(1,Sl.v 1 s0),(2,zI x0)])) (H':=(hT 2 [(.cells Ay true false [])])) (by kernel_rfl) (by kernel_rfl) ?_
 refine .then (.rK (.ghs (fr 38 [(0,(Cv (Db.off p0) (Db.cs p0))),(1,Sl.v 1 s0),(2,zI x0)]) (hT 2 [(.cells Ay true false [])]) (.k0 [false,false] [] [0,1,2]) ?_))
 refine .then (.rK (.ghs (fr 38 [(0,(Cv (Db.off p0) (Db.cs p0))),(1,Sl.v 1 s0),(2,zI x0),(7,(.int .u16 (0:Int)))]) (hT 2 [(.cells Ay true false [])]) (.k0 [false,false] [] [0,1,2,7]) ?_))
 refine .join (v:=v) (fun y:Int=>((fr 38 [(7,.int .u16 y)]),(hT 2 [(.cells Ay true false [])]))) (fun y=>V8 pu n y) ?_ ?_
 ·rintro z0 hm
  exact Aho pu n z0 hm
 ·refine .then ?_
  replace hm:=Sa hm;obtain⟨s1,h1,hm⟩:=hm
  replace hm:=Ab hm;obtain⟨k1,h2,hm⟩:=hm
  obtain rfl:=AR h2
  replace hm:=Ae hm;obtain⟨h3,hm⟩:=hm
  replace hm:=Sa hm;obtain⟨s2,h4,hm⟩:=hm
  refine .reg (eC 3 (keep (hT 2 [(.cells Ay true false [])]) (AL (Db.cs p0) ((Db.off p0)+4))) (AZ h1) (eC 1 (keep (hT 2 [(.cells Ay true false [])]) (bb (an (Nat.blt k1 (Sl.n s1)) true) (some (Cv (k1*1) (Sl.cs s1))) none)) (AX h3) (eD (keep (hT 2 [(.cells Ay true false [])]) (AL (Sl.cs s1) (k1*1))) (AZ h4) (eE)))) ?_
  refine .ghs (fr 38 [(1,Sl.v 1 s0),(7,(.int .u16 (0:Int))),(16,Sl.v 1 s2),(17,(zI (Int.ofNat (Sl.n s2)))),(18,(zI (0:Int)))]) (hT 2 [(.cells Ay true false [])]) (.k0 [false,false] [] [1,7,16,17,18]) ?_
  refine .block (.loopM (v:=v) (fun y:Sl×Int×Sl×Int×Int=>((fr 38 [(1,(Sl.v 1 y.1)),(7,(.int .u16 y.2.1)),(16,(Sl.v 1 y.2.2.1)),(17,(zI y.2.2.2.1)),(18,(zI y.2.2.2.2))]),(hT 2 [(.cells Ay true false [])]))) (fun w y=>Wl pu n w y.1 y.2.1 y.2.2.1 y.2.2.2.1 y.2.2.2.2) n ⟨(s0,(0:Int),s2,(Int.ofNat (Sl.n s2)),(0:Int)),hm,(.k0 [false,false] [] [1,7,16,17,18])⟩ (fun _=>rfl) ?_)
  rintro w0 ⟨s3,z1,s4,z2,z3⟩ hm
  replace hm:YC pu n (Wl pu n w0) s3 z1 s4 z2 z3=some v:=hm
  unfold YC at hm
  refine .then (.rK (.ghs (fr 38 [(1,Sl.v 1 s3),(7,.int .u16 z1),(16,Sl.v 1 s4),(17,zI z2),(18,zI z3),(19,(zB (AY z3 z2)))]) (hT 2 [(.cells Ay true false [])]) (.k0 [false,false] [] [1,7,16,17,18,19]) ?_))
  refine .then ?_
  replace hm:=Ag hm;rcases hm with⟨h5,hm⟩ | ⟨h5,hm⟩
  ·refine BB (AY z3 z2) h5 ?_
   refine .skip (.ghs (fr 38 [(1,Sl.v 1 s3),(7,.int .u16 z1),(16,Sl.v 1 s4),(17,zI z2),(18,zI z3)]) (hT 2 [(.cells Ay true false [])]) (.k0 [false,false] [] [1,7,16,17,18]) ?_)
   refine .join (v:=v) (fun y:Sl×Int×Sl×Int×Int=>((fr 38 [(1,(Sl.v 1 y.1)),(7,(.int .u16 y.2.1)),(16,(Sl.v 1 y.2.2.1)),(17,(zI y.2.2.2.1)),(18,(zI y.2.2.2.2))]),(hT 2 [(.cells Ay true false [])]))) (fun y=>V9 pu n (Wl pu n w0) y.1 y.2.1 y.2.2.1 y.2.2.2.1 y.2.2.2.2) ?_ ?_
   ·rintro⟨s5,z4,s6,z5,z6⟩ hm
    unfold V9 at hm
    refine .rK ?_
    exact⟨(s5,z4,s6,z5,(Aj .i64 (Int.add z6 (1:Int)))),hm,(.k0 [false,false] [] [1,7,16,17,18])⟩
   ·refine .block (.then ?_)
    replace hm:=Ab hm;obtain⟨k2,h6,hm⟩:=hm
    obtain rfl:=AR h6
    replace hm:=Ae hm;obtain⟨h7,hm⟩:=hm
    replace hm:=Gs hm;obtain⟨x1,h8,hm⟩:=hm
    refine .reg (eC 1 (keep (hT 2 [(.cells Ay true false [])]) (bb (an (Nat.blt k2 (Sl.n s4)) true) (some (Cv (k2*1) (Sl.cs s4))) none)) (AX h7) (eD (keep (hT 2 [(.cells Ay true false [])]) (AL (Sl.cs s4) (k2*1))) (AZ h8) (eE))) ?_
    refine .ghs (fr 38 [(1,Sl.v 1 s3),(7,.int .u16 z1),(8,(zI (Int.ofNat k2))),(9,zI x1),(16,Sl.v 1 s4),(17,zI z2),(18,(zI (Int.ofNat k2)))]) (hT 2 [(.cells Ay true false [])]) (.k0 [false,false] [] [1,7,8,9,16,17,18]) ?_
    refine .then ?_
    replace hm:=Ab hm;obtain⟨k3,h9,hm⟩:=hm
    obtain rfl:=AR h9
    replace hm:=Ae hm;obtain⟨h10,hm⟩:=hm
    replace hm:=Gs hm;obtain⟨x2,h11,hm⟩:=hm
    replace hm:=Ae hm;obtain⟨h12,hm⟩:=hm
    replace hm:=Gs hm;obtain⟨x3,h13,hm⟩:=hm
    refine .reg (eC 2 (keep (hT 2 [(.cells Ay true false [])]) (bb (an (Nat.blt k3 (Sl.n s3)) true) (some (Cv (k3*1) (Sl.cs s3))) none)) (AX h10) (eD (keep (hT 2 [(.cells Ay true false [])]) (AL (Sl.cs s3) (k3*1))) (AZ h11) (eC 2 (keep (hT 2 [(.cells Ay true false [])]) (bb (an (Nat.blt k2 (Sl.n s3)) true) (some (Cv (k2*1) (Sl.cs s3))) none)) (AX h12) (eD (keep (hT 2 [(.cells Ay true false [])]) (AL (Sl.cs s3) (k2*1))) (AZ h13) (eE))))) ?_
    refine .ghs (fr 38 [(1,Sl.v 1 s3),(7,.int .u16 z1),(8,(zI (Int.ofNat k2))),(16,Sl.v 1 s4),(17,zI z2),(18,(zI (Int.ofNat k2))),(31,(zB (nt (Bd x2 x3))))]) (hT 2 [(.cells Ay true false [])]) (.k0 [false,false] [] [1,7,8,16,17,18,31]) ?_
    replace hm:=Ag hm;rcases hm with⟨h14,hm⟩ | ⟨h14,hm⟩
    ·refine BB (nt (Bd x2 x3)) h14 ?_
     refine .rK ?_
     exact⟨(s3,(jF .u16 z1 (QW .u16 (1:Int) k2)),s4,z2,(Int.ofNat k2)),hm,(.k0 [false,false] [] [1,7,16,17,18])⟩
    ·refine BI (nt (Bd x2 x3)) h14 ?_
     refine .skip ?_
     exact⟨(s3,z1,s4,z2,(Int.ofNat k2)),hm,(.k0 [false,false] [] [1,7,16,17,18])⟩
  ·refine BI (AY z3 z2) h5 ?_
   refine .exit ?_
   exact⟨z1,hm,(.k0 [false,false] [] [7])⟩

def Ahp (pu:Af) (n:Nat) (x0:Int) (s0:Sl):OV:=
 (oo (pu 114 [(.agg ⟨[.int .i64 x0,Sl.v 1 s0]⟩)]) none fun v0=>(oo (Bi .i64 v0) none fun x1=>(bb (nt (Bd x1 (0:Int))) (some (.tuple ⟨[(.agg ⟨[(.int .i64 (0:Int)),(.int .u32 (0:Int))]⟩),.int .i64 x1]⟩)) (oo (pu 115 [.int .i64 x0,Sl.v 1 s0]) none fun v1=>(oo (Bt v1) none fun l0=>(ll l0 none fun v2 l0=>(ll l0 none fun v3 l0=>(ll l0 (oo (Bi .i64 v2) none fun x2=>(oo (Bi .u32 v3) none fun x3=>(some (.tuple ⟨[(.agg ⟨[.int .i64 x2,.int .u32 x3]⟩),(.int .i64 (0:Int))]⟩)))) fun _ _=>none))))))))
def m54 (pu:Af) (n:Nat) (args:LV):OV:=
 (ll args none fun a0 args=>(ll args (oo (Bt a0) none fun l0=>(ll l0 none fun v0 l0=>(ll l0 none fun v1 l0=>(ll l0 (oo (Bi .i64 v0) none fun x0=>(oo (Bj 1 v1) none fun s0=>(Ahp pu n x0 s0))) fun _ _=>none)))) fun _ _=>none))
theorem r54 {call:A8} (pu:Af) (n:Nat) (hcall:call=Bb tabs isP pu (inl pu)) {args:LV} {v:Value} (hm:m54 pu n args=some v) (_:∀ x∈args,closed2 x=true):args.length≤16∧BN tt call 2 PK (Fr.made 16 args) (Ao tabs) (Fin tt 2 [.cell 2 99,.tmp 3] v):=by
 subst hcall
 unfold m54 at hm
 replace hm:=Ad hm;obtain⟨a0,args_0,rfl,hm⟩:=hm
 replace hm:=AC hm;obtain⟨rfl,hm⟩:=hm
 replace hm:=BG hm;obtain⟨l0,rfl,hm⟩:=hm
 replace hm:=Ad hm;obtain⟨v0,l7045_0,rfl,hm⟩:=hm
 replace hm:=Ad hm;obtain⟨v1,l7045_1,rfl,hm⟩:=hm
 replace hm:=AC hm;obtain⟨rfl,hm⟩:=hm
 replace hm:=Ai hm;obtain⟨x0,rfl,hm⟩:=hm
 replace hm:=Al hm;obtain⟨s0,rfl,hm⟩:=hm
 unfold Ahp at hm
 refine⟨by simp,?_⟩
 refine .same (F':=(fr 16 [(0,(.agg ⟨[zI x0,Sl.v 1 s0]⟩))])) (H':=(hT 2 [(.cells Ay true false [])])) (by kernel_rfl) (by kernel_rfl) ?_
 refine .then (.rK (.ghs (fr 16 [(1,(pt 2 0)),(2,(pt 3 0))]) (hT 4 [(.cells Ay true false []),(oC [zI x0,Sl.v 1 s0]),(oC [(zI (0:Int)),(.int .u32 (0:Int))])]) (.k0 [false,false] [.tmp 1 false,.tmp 2 false] [1,2]) ?_))
 refine .then (.then ?_)
 replace hm:=Gs hm;obtain⟨x1,h0,hm⟩:=hm
 refine .reg (eC 1 ((oo (pu 114 [(.agg ⟨[zI x0,Sl.v 1 s0]⟩)]) none fun v=>some (v,(hT 4 [(.cells Ay true false []),(oC [zI x0,Sl.v 1 s0]),(oC [(zI (0:Int)),(.int .u32 (0:Int))])])))) (AB h0) (eE)) ?_
 refine .ghs (fr 16 [(1,(pt 2 0)),(2,(pt 3 0)),(4,zI x1)]) (hT 4 [(.cells Ay true false []),(oC [zI x0,Sl.v 1 s0]),(oC [(zI (0:Int)),(.int .u32 (0:Int))])]) (.k0 [false,false] [.tmp 1 false,.tmp 2 false] [1,2,4]) ?_
 refine .then (.rK (.ghs (fr 16 [(1,(pt 2 0)),(2,(pt 3 0)),(4,zI x1),(8,(zB (nt (Bd x1 (0:Int)))))]) (hT 4 [(.cells Ay true false []),(oC [zI x0,Sl.v 1 s0]),(oC [(zI (0:Int)),(.int .u32 (0:Int))])]) (.k0 [false,false] [.tmp 1 false,.tmp 2 false] [1,2,4,8]) ?_))
 replace hm:=Ag hm;rcases hm with⟨h1,hm⟩ | ⟨h1,hm⟩
 ·refine BB (nt (Bd x1 (0:Int))) h1 ?_
  refine .then (.rK (.ghs (fr 16 [(2,(pt 2 0)),(3,zI x1)]) (hT 3 [(.cells Ay true false []),(oC [(zI (0:Int)),(.int .u32 (0:Int))])]) (.k0 [false,false] [.tmp 2 false] [2,3]) ?_))
  refine .ret ?_
  exact AO (.tuple ⟨[(.agg ⟨[(zI (0:Int)),(.int .u32 (0:Int))]⟩),zI x1]⟩) hm
 ·refine BI (nt (Bd x1 (0:Int))) h1 ?_
  refine .skip (.ghs (fr 16 [(1,(pt 2 0)),(2,(pt 3 0))]) (hT 4 [(.cells Ay true false []),(oC [zI x0,Sl.v 1 s0]),(oC [(zI (0:Int)),(.int .u32 (0:Int))])]) (.k0 [false,false] [.tmp 1 false,.tmp 2 false] [1,2]) ?_)
  refine .then ?_
  replace hm:=Ab hm;obtain⟨v2,h2,hm⟩:=hm
  replace hm:=BG hm;obtain⟨l1,rfl,hm⟩:=hm
  replace hm:=Ad hm;obtain⟨v3,l7074_0,rfl,hm⟩:=hm
  replace hm:=Ad hm;obtain⟨v4,l7074_1,rfl,hm⟩:=hm
  replace hm:=AC hm;obtain⟨rfl,hm⟩:=hm
  replace hm:=Ai hm;obtain⟨x2,rfl,hm⟩:=hm
  replace hm:=Ai hm;obtain⟨x3,rfl,hm⟩:=hm
  refine .reg (eC 4 ((oo (pu 115 [zI x0,Sl.v 1 s0]) none fun v=>some (v,(hT 4 [(.cells Ay true false []),(oC [zI x0,Sl.v 1 s0]),(oC [(zI (0:Int)),(.int .u32 (0:Int))])])))) (AB h2) (eE)) ?_
  refine .ghs (fr 16 [(2,(pt 2 0)),(3,(zI (0:Int)))]) (hT 3 [(.cells Ay true false []),(oC [zI x2,.int .u32 x3])]) (.k0 [false,false] [.tmp 2 false] [2,3]) ?_
  refine .ret ?_
  exact AO (.tuple ⟨[(.agg ⟨[zI x2,.int .u32 x3]⟩),(zI (0:Int))]⟩) hm

def Ahq (pu:Af) (n:Nat) (x0 x1 x2:Int):OV:=
 (oo (EA x0) none fun k1=>(oo (EA x2) none fun k2=>(oo (EA (Aj .i64 (Int.sub (Int.ofNat k1) (Int.ofNat k2)))) none fun k3=>(some (.agg ⟨[(.int .i64 (Int.ofNat k1)),(.int .u32 (Np .u32 (jF .u32 (QW .u32 x1 k2) (G6 .u32 x1 k3)) (Aj .u32 (Int.sub (QW .u32 (1:Int) k1) (1:Int)))))]⟩)))))
def m55 (pu:Af) (n:Nat) (args:LV):OV:=
 (ll args none fun a0 args=>(ll args none fun a1 args=>(ll args (oo (Bt a0) none fun l0=>(ll l0 none fun v0 l0=>(ll l0 none fun v1 l0=>(ll l0 (oo (Bi .i64 v0) none fun x0=>(oo (Bi .u32 v1) none fun x1=>(oo (Bi .i64 a1) none fun x2=>(Ahq pu n x0 x1 x2)))) fun _ _=>none)))) fun _ _=>none)))
theorem r55 {call:A8} (pu:Af) (n:Nat) (hcall:call=Bb tabs isP pu (inl pu)) {args:LV} {v:Value} (hm:m55 pu n args=some v) (_:∀ x∈args,closed2 x=true):args.length≤26∧BN tt call 2 UF (Fr.made 26 args) (Ao tabs) (Fin tt 2 [.cell 4 99] v):=by
 subst hcall
 unfold m55 at hm
 replace hm:=Ad hm;obtain⟨a0,args_0,rfl,hm⟩:=hm
 replace hm:=Ad hm;obtain⟨a1,args_1,rfl,hm⟩:=hm
 replace hm:=AC hm;obtain⟨rfl,hm⟩:=hm
 replace hm:=BG hm;obtain⟨l0,rfl,hm⟩:=hm
 replace hm:=Ad hm;obtain⟨v0,l7082_0,rfl,hm⟩:=hm
 replace hm:=Ad hm;obtain⟨v1,l7082_1,rfl,hm⟩:=hm
 replace hm:=AC hm;obtain⟨rfl,hm⟩:=hm
 replace hm:=Ai hm;obtain⟨x0,rfl,hm⟩:=hm
 replace hm:=Ai hm;obtain⟨x1,rfl,hm⟩:=hm
 replace hm:=Ai hm;obtain⟨x2,rfl,hm⟩:=hm
 unfold Ahq at hm
 refine⟨by simp,?_⟩
 refine .same (F':=(fr 26 [(0,(.agg ⟨[zI x0,.int .u32 x1]⟩)),(1,zI x2)])) (H':=(hT 2 [(.cells Ay true false [])])) (by kernel_rfl) (by kernel_rfl) ?_
 refine .then (.rK (.ghs (fr 26 [(1,zI x2),(2,(pt 2 0)),(4,(pt 3 0))]) (hT 4 [(.cells Ay true false []),(oC [zI x0,.int .u32 x1]),(oC [(zI (0:Int)),(.int .u32 (0:Int))])]) (.k0 [false,false] [.tmp 2 false,.tmp 4 false] [1,2,4]) ?_))
 refine .then ?_
 replace hm:=Ab hm;obtain⟨k1,h0,hm⟩:=hm
 obtain rfl:=AR h0
 refine .rK (.ghs (fr 26 [(1,zI x2),(2,(pt 2 0)),(4,(pt 3 0)),(5,(.int .u32 (Aj .u32 (Int.sub (QW .u32 (1:Int) k1) (1:Int)))))]) (hT 4 [(.cells Ay true false []),(oC [(zI (Int.ofNat k1)),.int .u32 x1]),(oC [(zI (0:Int)),(.int .u32 (0:Int))])]) (.k0 [false,false] [.tmp 2 false,.tmp 4 false] [1,2,4,5]) ?_)
 refine .then ?_
 replace hm:=Ab hm;obtain⟨k2,h1,hm⟩:=hm
 obtain rfl:=AR h1
 replace hm:=Ab hm;obtain⟨k3,h2,hm⟩:=hm
 refine .reg (eC 9 (some ((zI (Aj .i64 (Int.sub (Int.ofNat k1) (Int.ofNat k2)))),(hT 4 [(.cells Ay true false []),(oC [(zI (Int.ofNat k1)),.int .u32 x1]),(oC [(zI (0:Int)),(.int .u32 (0:Int))])]))) (show _=some ((zI (Int.ofNat k3)),_) from (by rw[AR h2])) (eE)) ?_
 refine .ghs (fr 26 [(2,(pt 2 0)),(4,(pt 3 0))]) (hT 4 [(.cells Ay true false []),(oC [(zI (Int.ofNat k1)),(.int .u32 (Np .u32 (jF .u32 (QW .u32 x1 k2) (G6 .u32 x1 k3)) (Aj .u32 (Int.sub (QW .u32 (1:Int) k1) (1:Int)))))]),(oC [(zI (0:Int)),(.int .u32 (0:Int))])]) (.k0 [false,false] [.tmp 2 false,.tmp 4 false] [2,4]) ?_
 refine .then (.rK (.ghs (fr 26 [(4,(pt 2 0))]) (hT 3 [(.cells Ay true false []),(oC [(zI (Int.ofNat k1)),(.int .u32 (Np .u32 (jF .u32 (QW .u32 x1 k2) (G6 .u32 x1 k3)) (Aj .u32 (Int.sub (QW .u32 (1:Int) k1) (1:Int)))))])]) (.k0 [false,false] [.tmp 4 false] [4]) ?_))
 refine .ret ?_
 exact AO (.agg ⟨[(zI (Int.ofNat k1)),(.int .u32 (Np .u32 (jF .u32 (QW .u32 x1 k2) (G6 .u32 x1 k3)) (Aj .u32 (Int.sub (QW .u32 (1:Int) k1) (1:Int)))))]⟩) hm

def rG (pu:Af) (n:Nat) (x0 x1 x2:Int):OV:=
 (bb (nt (Bd x0 (0:Int))) (bb (nt (Bd x0 (0:Int))) (some (.int .i64 (Int.tmod (Aj .i64 (Int.add (Int.tmod x2 x0) x0)) x0))) none) none)
def m56 (pu:Af) (n:Nat) (args:LV):OV:=
 (ll args none fun a0 args=>(ll args none fun a1 args=>(ll args (oo (Bt a0) none fun l0=>(ll l0 none fun v0 l0=>(ll l0 none fun v1 l0=>(ll l0 (oo (Bi .i64 v0) none fun x0=>(oo (Bi .u32 v1) none fun x1=>(oo (Bi .i64 a1) none fun x2=>(rG pu n x0 x1 x2)))) fun _ _=>none)))) fun _ _=>none)))
theorem r56 {call:A8} (pu:Af) (n:Nat) (hcall:call=Bb tabs isP pu (inl pu)) {args:LV} {v:Value} (hm:m56 pu n args=some v) (_:∀ x∈args,closed2 x=true):args.length≤15∧BN tt call 2 UG (Fr.made 15 args) (Ao tabs) (Fin tt 2 [.tmp 4] v):=by
 subst hcall
 unfold m56 at hm
 replace hm:=Ad hm;obtain⟨a0,args_0,rfl,hm⟩:=hm
 replace hm:=Ad hm;obtain⟨a1,args_1,rfl,hm⟩:=hm
 replace hm:=AC hm;obtain⟨rfl,hm⟩:=hm
 replace hm:=BG hm;obtain⟨l0,rfl,hm⟩:=hm
 replace hm:=Ad hm;obtain⟨v0,l7104_0,rfl,hm⟩:=hm
 replace hm:=Ad hm;obtain⟨v1,l7104_1,rfl,hm⟩:=hm
 replace hm:=AC hm;obtain⟨rfl,hm⟩:=hm
 replace hm:=Ai hm;obtain⟨x0,rfl,hm⟩:=hm
 replace hm:=Ai hm;obtain⟨x1,rfl,hm⟩:=hm
 replace hm:=Ai hm;obtain⟨x2,rfl,hm⟩:=hm
 unfold rG at hm
 refine⟨by simp,?_⟩
 refine .same (F':=(fr 15 [(0,(.agg ⟨[zI x0,.int .u32 x1]⟩)),(1,zI x2)])) (H':=(hT 2 [(.cells Ay true false [])])) (by kernel_rfl) (by kernel_rfl) ?_
 refine .then (.rK (.ghs (fr 15 [(1,zI x2),(2,(pt 2 0))]) (hT 3 [(.cells Ay true false []),(oC [zI x0,.int .u32 x1])]) (.k0 [false,false] [.tmp 2 false] [1,2]) ?_))
 refine .then ?_
 replace hm:=Ae hm;obtain⟨h0,hm⟩:=hm
 replace hm:=Ae hm;obtain⟨h1,hm⟩:=hm
 refine .reg (eC 3 (keep (hT 3 [(.cells Ay true false []),(oC [zI x0,.int .u32 x1])]) (bb (Bd x0 (0:Int)) none (some (zI (Int.tmod x2 x0))))) (XH h0) (eC 5 (keep (hT 3 [(.cells Ay true false []),(oC [zI x0,.int .u32 x1])]) (bb (Bd x0 (0:Int)) none (some (zI (Int.tmod (Aj .i64 (Int.add (Int.tmod x2 x0) x0)) x0))))) (XH h1) (eE))) ?_
 refine .ghs (fr 15 [(4,(zI (Int.tmod (Aj .i64 (Int.add (Int.tmod x2 x0) x0)) x0)))]) (hT 2 [(.cells Ay true false [])]) (.k0 [false,false] [] [4]) ?_
 refine .ret ?_
 exact AO (zI (Int.tmod (Aj .i64 (Int.add (Int.tmod x2 x0) x0)) x0)) hm

def Ahr (pu:Af) (n:Nat) (x0 x1:Int):OV:=
 (oo (pu 116 [(.agg ⟨[.int .i64 x0,.int .u32 x1]⟩)]) none fun v0=>(oo (Bj 1 v0) none fun s0=>(some (.agg ⟨[.int .i64 x0,Sl.v 1 s0]⟩))))
def m57 (pu:Af) (n:Nat) (args:LV):OV:=
 (ll args none fun a0 args=>(ll args (oo (Bt a0) none fun l0=>(ll l0 none fun v0 l0=>(ll l0 none fun v1 l0=>(ll l0 (oo (Bi .i64 v0) none fun x0=>(oo (Bi .u32 v1) none fun x1=>(Ahr pu n x0 x1))) fun _ _=>none)))) fun _ _=>none))
theorem r57 {call:A8} (pu:Af) (n:Nat) (hcall:call=Bb tabs isP pu (inl pu)) {args:LV} {v:Value} (hm:m57 pu n args=some v) (_:∀ x∈args,closed2 x=true):args.length≤8∧BN tt call 2 UH (Fr.made 8 args) (Ao tabs) (Fin tt 2 [.cell 2 41] v):=by
 subst hcall
 unfold m57 at hm
 replace hm:=Ad hm;obtain⟨a0,args_0,rfl,hm⟩:=hm
 replace hm:=AC hm;obtain⟨rfl,hm⟩:=hm
 replace hm:=BG hm;obtain⟨l0,rfl,hm⟩:=hm
 replace hm:=Ad hm;obtain⟨v0,l7118_0,rfl,hm⟩:=hm
 replace hm:=Ad hm;obtain⟨v1,l7118_1,rfl,hm⟩:=hm
 replace hm:=AC hm;obtain⟨rfl,hm⟩:=hm
 replace hm:=Ai hm;obtain⟨x0,rfl,hm⟩:=hm
 replace hm:=Ai hm;obtain⟨x1,rfl,hm⟩:=hm
 unfold Ahr at hm
 refine⟨by simp,?_⟩
 refine .same (F':=(fr 8 [(0,(.agg ⟨[zI x0,.int .u32 x1]⟩))])) (H':=(hT 2 [(.cells Ay true false [])])) (by kernel_rfl) (by kernel_rfl) ?_
 refine .then (.rK (.ghs (fr 8 [(1,(pt 2 0)),(2,(pt 3 0))]) (hT 4 [(.cells Ay true false []),(oC [zI x0,.int .u32 x1]),(oC [(zI (0:Int)),(.slice none 0 0)])]) (.k0 [false,false] [.tmp 1 false,.tmp 2 false] [1,2]) ?_))
 refine .then ?_
 replace hm:=Sa hm;obtain⟨s0,h0,hm⟩:=hm
 refine .reg (eC 3 ((oo (pu 116 [(.agg ⟨[zI x0,.int .u32 x1]⟩)]) none fun v=>some (v,(hT 4 [(.cells Ay true false []),(oC [zI x0,.int .u32 x1]),(oC [(zI (0:Int)),(.slice none 0 0)])])))) (AB h0) (eE)) ?_
 refine .ghs (fr 8 [(2,(pt 2 0))]) (hT 3 [(.cells Ay true false []),(oC [zI x0,Sl.v 1 s0])]) (.k0 [false,false] [.tmp 2 false] [2]) ?_
 refine .ret ?_
 exact AO (.agg ⟨[zI x0,Sl.v 1 s0]⟩) hm
end
end Go.TpEM
