/- Made from wip. -/
import Derived.Test.YtflonlkiajhhjaaTpMMod0x

set_option maxRecDepth 100000
set_option maxHeartbeats 20000000
set_option linter.unusedVariables false
namespace Go.TpMM
open Go.Sp Go.TpM
noncomputable section
def SQ (pu:Af) (n:Nat) (s0 s1:Sl):OV:=
 (bb (AY (Int.ofNat (Sl.n s0)) (Int.ofNat (Sl.n s1))) (some (.int .i64 (-1:Int))) (some (.int .i64 (0:Int))))
def WT (pu:Af) (n:Nat) (ih0:Sl→Sl→Sl→Int→Int→OV) (s0 s1 s2:Sl) (z0 z1:Int):OV:=
 (bb (AY z1 z0) (oo (EA z1) none fun k1=>(bb (an (Nat.blt k1 (Sl.n s2)) true) (oo (AL (Sl.cs s2) (k1*1)) none fun v0=>(oo (Bi .i64 v0) none fun x0=>(bb (nt (AY (Int.ofNat k1) (Int.ofNat (Sl.n s1)))) (some (.int .i64 (1:Int))) (bb (an (Nat.blt k1 (Sl.n s1)) true) (oo (AL (Sl.cs s1) (k1*1)) none fun v1=>(oo (Bi .i64 v1) none fun x1=>(oo (pu 70 [.int .i64 x0,.int .i64 x1]) none fun v2=>(oo (Bi .i64 v2) none fun x2=>(bb (nt (Bd x2 (0:Int))) (some (.int .i64 x2)) (ih0 s0 s1 s2 z0 (Aj .i64 (Int.add (Int.ofNat k1) (1:Int))))))))) none)))) none)) (SQ pu n s0 s1))
def WU (pu:Af) (n w:Nat):Sl→Sl→Sl→Int→Int→OV:=
 Nat.rec (motive:=fun _=>Sl→Sl→Sl→Int→Int→OV) (fun _ _ _ _ _=>none) (fun _ ih0=>WT pu n ih0) w
def AeI (pu:Af) (n:Nat) (s0 s1:Sl):OV:=
 (WU pu n n s0 s1 s0 (Int.ofNat (Sl.n s0)) (0:Int))
def m45 (pu:Af) (n:Nat) (args:LV):OV:=
 (ll args none fun a0 args=>(ll args none fun a1 args=>(ll args (oo (Bj 1 a0) none fun s0=>(oo (Bj 1 a1) none fun s1=>(AeI pu n s0 s1))) fun _ _=>none)))
theorem AeJ (pu:Af) (n:Nat) (s0 s1:Sl) {v:Value} (hm:SQ pu n s0 s1=some v):BN tt (Bb tabs isP pu (inl pu)) 0 UQ (fr 36 [(0,Sl.v 1 s0),(1,Sl.v 1 s1)]) (hp 0 []) (Fin tt 0 [.tmp 4] v):=by
 unfold SQ at hm
 refine .then (.then (.rK (.ghs (fr 36 [(35,(zB (AY (Int.ofNat (Sl.n s0)) (Int.ofNat (Sl.n s1)))))]) (hp 0 []) (.k0 [] [] [35]) ?_)))
 replace hm:=Ag hm;rcases hm with⟨h0,hm⟩ | ⟨h0,hm⟩
 ·refine A7 (AY (Int.ofNat (Sl.n s0)) (Int.ofNat (Sl.n s1))) h0 ?_
  refine .then (.rK (.ghs (fr 36 [(4,(zI (-1:Int)))]) (hp 0 []) (.k0 [] [] [4]) ?_))
  refine .ret ?_
  exact Ay (zI (-1:Int)) hm
 ·refine Bp (AY (Int.ofNat (Sl.n s0)) (Int.ofNat (Sl.n s1))) h0 ?_
  refine .skip (.ghs (fr 36 []) (hp 0 []) (.k0 [] [] []) ?_)
  refine .then (.rK (.ghs (fr 36 [(4,(zI (0:Int)))]) (hp 0 []) (.k0 [] [] [4]) ?_))
  refine .ret ?_
  exact Ay (zI (0:Int)) hm
theorem r45 {call:A8} (pu:Af) (n:Nat) (hcall:call=Bb tabs isP pu (inl pu)) {args:LV} {v:Value} (hm:m45 pu n args=some v) (_:∀ x∈args,closed2 x=true):args.length≤36∧BN tt call 0 OP (Fr.made 36 args) (Ao tabs) (Fin tt 0 [.tmp 4] v):=by
 subst hcall
 unfold m45 at hm
 replace hm:=Ad hm;obtain⟨a0,args_0,rfl,hm⟩:=hm
 replace hm:=Ad hm;obtain⟨a1,args_1,rfl,hm⟩:=hm
 replace hm:=AC hm;obtain⟨rfl,hm⟩:=hm
 replace hm:=Al hm;obtain⟨s0,rfl,hm⟩:=hm
 replace hm:=Al hm;obtain⟨s1,rfl,hm⟩:=hm
 unfold AeI at hm
 refine⟨by simp,?_⟩
 refine .same (F':=(fr 36 [(0,Sl.v 1 s0),(1,Sl.v 1 s1)])) (H':=(hp 0 [])) (by kernel_rfl) (by kernel_rfl) ?_
 refine .then (.rK (.ghs (fr 36 [(0,Sl.v 1 s0),(1,Sl.v 1 s1)]) (hp 0 []) (.k0 [] [] [0,1]) ?_))
 refine .join (v:=v) (fun y:Sl×Sl=>((fr 36 [(0,(Sl.v 1 y.1)),(1,(Sl.v 1 y.2))]),(hp 0 []))) (fun y=>SQ pu n y.1 y.2) ?_ ?_
 ·rintro⟨s2,s3⟩ hm
  exact AeJ pu n s2 s3 hm
 ·refine .then (.rK (.ghs (fr 36 [(0,Sl.v 1 s0),(1,Sl.v 1 s1),(9,Sl.v 1 s0),(10,(zI (Int.ofNat (Sl.n s0)))),(11,(zI (0:Int)))]) (hp 0 []) (.k0 [] [] [0,1,9,10,11]) ?_))
  refine .block (.loopM (v:=v) (fun y:Sl×Sl×Sl×Int×Int=>((fr 36 [(0,(Sl.v 1 y.1)),(1,(Sl.v 1 y.2.1)),(9,(Sl.v 1 y.2.2.1)),(10,(zI y.2.2.2.1)),(11,(zI y.2.2.2.2))]),(hp 0 []))) (fun w y=>WU pu n w y.1 y.2.1 y.2.2.1 y.2.2.2.1 y.2.2.2.2) n ⟨(s0,s1,s0,(Int.ofNat (Sl.n s0)),(0:Int)),hm,(.k0 [] [] [0,1,9,10,11])⟩ (fun _=>rfl) ?_)
  rintro w0 ⟨s4,s5,s6,z0,z1⟩ hm
  replace hm:WT pu n (WU pu n w0) s4 s5 s6 z0 z1=some v:=hm
  unfold WT at hm
  refine .then (.rK (.ghs (fr 36 [(0,Sl.v 1 s4),(1,Sl.v 1 s5),(9,Sl.v 1 s6),(10,zI z0),(11,zI z1),(12,(zB (AY z1 z0)))]) (hp 0 []) (.k0 [] [] [0,1,9,10,11,12]) ?_))
  refine .then ?_
  replace hm:=Ag hm;rcases hm with⟨h0,hm⟩ | ⟨h0,hm⟩
  ·refine A7 (AY z1 z0) h0 ?_
   refine .skip (.ghs (fr 36 [(0,Sl.v 1 s4),(1,Sl.v 1 s5),(9,Sl.v 1 s6),(10,zI z0),(11,zI z1)]) (hp 0 []) (.k0 [] [] [0,1,9,10,11]) ?_)
   refine .then (.block (.then ?_))
   replace hm:=Ab hm;obtain⟨k1,h1,hm⟩:=hm
   obtain rfl:=AR h1
   replace hm:=Ae hm;obtain⟨h2,hm⟩:=hm
   replace hm:=Dn hm;obtain⟨x0,h3,hm⟩:=hm
   refine .reg (eC 1 (keep (hp 0 []) (bb (an (Nat.blt k1 (Sl.n s6)) true) (some (Cv (k1*1) (Sl.cs s6))) none)) (AX h2) (eD (keep (hp 0 []) (AL (Sl.cs s6) (k1*1))) (AZ h3) (eE))) ?_
   refine .ghs (fr 36 [(0,Sl.v 1 s4),(1,Sl.v 1 s5),(5,(zI (Int.ofNat k1))),(6,zI x0),(9,Sl.v 1 s6),(10,zI z0),(11,(zI (Int.ofNat k1)))]) (hp 0 []) (.k0 [] [] [0,1,5,6,9,10,11]) ?_
   refine .then (.then (.rK (.ghs (fr 36 [(0,Sl.v 1 s4),(1,Sl.v 1 s5),(5,(zI (Int.ofNat k1))),(6,zI x0),(9,Sl.v 1 s6),(10,zI z0),(11,(zI (Int.ofNat k1))),(19,(zB (nt (AY (Int.ofNat k1) (Int.ofNat (Sl.n s5))))))]) (hp 0 []) (.k0 [] [] [0,1,5,6,9,10,11,19]) ?_)))
   replace hm:=Ag hm;rcases hm with⟨h4,hm⟩ | ⟨h4,hm⟩
   ·refine A7 (nt (AY (Int.ofNat k1) (Int.ofNat (Sl.n s5)))) h4 ?_
    refine .then (.rK (.ghs (fr 36 [(4,(zI (1:Int)))]) (hp 0 []) (.k0 [] [] [4]) ?_))
    refine .ret ?_
    exact Ay (zI (1:Int)) hm
   ·refine Bp (nt (AY (Int.ofNat k1) (Int.ofNat (Sl.n s5)))) h4 ?_
    refine .skip (.ghs (fr 36 [(0,Sl.v 1 s4),(1,Sl.v 1 s5),(5,(zI (Int.ofNat k1))),(6,zI x0),(9,Sl.v 1 s6),(10,zI z0),(11,(zI (Int.ofNat k1)))]) (hp 0 []) (.k0 [] [] [0,1,5,6,9,10,11]) ?_)
    refine .then ?_
    replace hm:=Ae hm;obtain⟨h5,hm⟩:=hm
    replace hm:=Dn hm;obtain⟨x1,h6,hm⟩:=hm
    refine .reg (eC 2 (keep (hp 0 []) (bb (an (Nat.blt k1 (Sl.n s5)) true) (some (Cv (k1*1) (Sl.cs s5))) none)) (AX h5) (eD (keep (hp 0 []) (AL (Sl.cs s5) (k1*1))) (AZ h6) (eE))) ?_
    refine .ghs (fr 36 [(0,Sl.v 1 s4),(1,Sl.v 1 s5),(6,zI x0),(7,zI x1),(9,Sl.v 1 s6),(10,zI z0),(11,(zI (Int.ofNat k1)))]) (hp 0 []) (.k0 [] [] [0,1,6,7,9,10,11]) ?_
    refine .then ?_
    replace hm:=Dn hm;obtain⟨x2,h7,hm⟩:=hm
    refine .reg (eC 2 ((oo (pu 70 [zI x0,zI x1]) none fun v=>some (v,(hp 0 [])))) (AB h7) (eE)) ?_
    refine .ghs (fr 36 [(0,Sl.v 1 s4),(1,Sl.v 1 s5),(8,zI x2),(9,Sl.v 1 s6),(10,zI z0),(11,(zI (Int.ofNat k1)))]) (hp 0 []) (.k0 [] [] [0,1,8,9,10,11]) ?_
    refine .then (.rK (.ghs (fr 36 [(0,Sl.v 1 s4),(1,Sl.v 1 s5),(8,zI x2),(9,Sl.v 1 s6),(10,zI z0),(11,(zI (Int.ofNat k1))),(28,(zB (nt (Bd x2 (0:Int)))))]) (hp 0 []) (.k0 [] [] [0,1,8,9,10,11,28]) ?_))
    replace hm:=Ag hm;rcases hm with⟨h8,hm⟩ | ⟨h8,hm⟩
    ·refine A7 (nt (Bd x2 (0:Int))) h8 ?_
     refine .then (.rK (.ghs (fr 36 [(4,zI x2)]) (hp 0 []) (.k0 [] [] [4]) ?_))
     refine .ret ?_
     exact Ay (zI x2) hm
    ·refine Bp (nt (Bd x2 (0:Int))) h8 ?_
     refine .skip (.ghs (fr 36 [(0,Sl.v 1 s4),(1,Sl.v 1 s5),(9,Sl.v 1 s6),(10,zI z0),(11,(zI (Int.ofNat k1)))]) (hp 0 []) (.k0 [] [] [0,1,9,10,11]) ?_)
     refine .rK ?_
     exact⟨(s4,s5,s6,z0,(Aj .i64 (Int.add (Int.ofNat k1) (1:Int)))),hm,(.k0 [] [] [0,1,9,10,11])⟩
  ·refine Bp (AY z1 z0) h0 ?_
   refine .exit ?_
   exact⟨(s4,s5),hm,(.k0 [] [] [0,1])⟩
def TV (pu:Af) (n:Nat):OV:=
 (some (.bool true))
def WV (pu:Af) (n:Nat) (ih0:Sl→Sl→Int→Int→OV) (s0 s1:Sl) (z0 z1:Int):OV:=
 (bb (AY z1 z0) (oo (EA z1) none fun k1=>(bb (an (Nat.blt k1 (Sl.n s0)) true) (oo (AL (Sl.cs s0) (k1*1)) none fun v0=>(oo (Bi .i64 v0) none fun x0=>(bb (an (Nat.blt k1 (Sl.n s1)) true) (oo (AL (Sl.cs s1) (k1*1)) none fun v1=>(oo (Bi .i64 v1) none fun x1=>(bb (nt (Bd x0 x1)) (some (.bool false)) (ih0 s0 s1 z0 (Aj .i64 (Int.add (Int.ofNat k1) (1:Int))))))) none))) none)) (TV pu n))
def WW (pu:Af) (n w:Nat):Sl→Sl→Int→Int→OV:=
 Nat.rec (motive:=fun _=>Sl→Sl→Int→Int→OV) (fun _ _ _ _=>none) (fun _ ih0=>WV pu n ih0) w
def AeK (pu:Af) (n:Nat) (s0 s1:Sl):OV:=
 (bb (nt (Bd (Int.ofNat (Sl.n s0)) (Int.ofNat (Sl.n s1)))) (some (.bool false)) (WW pu n n s0 s1 (Int.ofNat (Sl.n s0)) (0:Int)))
def m47 (pu:Af) (n:Nat) (args:LV):OV:=
 (ll args none fun a0 args=>(ll args none fun a1 args=>(ll args (oo (Bj 1 a0) none fun s0=>(oo (Bj 1 a1) none fun s1=>(AeK pu n s0 s1))) fun _ _=>none)))
theorem AeL (pu:Af) (n:Nat) {v:Value} (hm:TV pu n=some v):BN tt (Bb tabs isP pu (inl pu)) 0 UT (fr 26 []) (hp 0 []) (Fin tt 0 [.tmp 4] v):=by
 unfold TV at hm
 refine .then (.rK (.ghs (fr 26 [(4,zB true)]) (hp 0 []) (.k0 [] [] [4]) ?_))
 refine .ret ?_
 exact Ay (zB true) hm
theorem r47 {call:A8} (pu:Af) (n:Nat) (hcall:call=Bb tabs isP pu (inl pu)) {args:LV} {v:Value} (hm:m47 pu n args=some v) (_:∀ x∈args,closed2 x=true):args.length≤26∧BN tt call 0 OQ (Fr.made 26 args) (Ao tabs) (Fin tt 0 [.tmp 4] v):=by
 subst hcall
 unfold m47 at hm
 replace hm:=Ad hm;obtain⟨a0,args_0,rfl,hm⟩:=hm
 replace hm:=Ad hm;obtain⟨a1,args_1,rfl,hm⟩:=hm
 replace hm:=AC hm;obtain⟨rfl,hm⟩:=hm
 replace hm:=Al hm;obtain⟨s0,rfl,hm⟩:=hm
 replace hm:=Al hm;obtain⟨s1,rfl,hm⟩:=hm
 unfold AeK at hm
 refine⟨by simp,?_⟩
 refine .same (F':=(fr 26 [(0,Sl.v 1 s0),(1,Sl.v 1 s1)])) (H':=(hp 0 [])) (by kernel_rfl) (by kernel_rfl) ?_
 refine .then (.rK (.ghs (fr 26 [(0,Sl.v 1 s0),(1,Sl.v 1 s1)]) (hp 0 []) (.k0 [] [] [0,1]) ?_))
 refine .then (.then (.rK (.ghs (fr 26 [(0,Sl.v 1 s0),(1,Sl.v 1 s1),(10,(zB (nt (Bd (Int.ofNat (Sl.n s0)) (Int.ofNat (Sl.n s1))))))]) (hp 0 []) (.k0 [] [] [0,1,10]) ?_)))
 replace hm:=Ag hm;rcases hm with⟨h0,hm⟩ | ⟨h0,hm⟩
 ·refine A7 (nt (Bd (Int.ofNat (Sl.n s0)) (Int.ofNat (Sl.n s1)))) h0 ?_
  refine .then (.rK (.ghs (fr 26 [(4,zB false)]) (hp 0 []) (.k0 [] [] [4]) ?_))
  refine .ret ?_
  exact Ay (zB false) hm
 ·refine Bp (nt (Bd (Int.ofNat (Sl.n s0)) (Int.ofNat (Sl.n s1)))) h0 ?_
  refine .skip (.ghs (fr 26 [(0,Sl.v 1 s0),(1,Sl.v 1 s1)]) (hp 0 []) (.k0 [] [] [0,1]) ?_)
  refine .join (v:=v) (fun y:Unit=>((fr 26 []),(hp 0 []))) (fun y=>TV pu n) ?_ ?_
  ·rintro _ hm
   exact AeL pu n hm
  ·refine .then (.rK (.ghs (fr 26 [(0,Sl.v 1 s0),(1,Sl.v 1 s1),(12,(zI (Int.ofNat (Sl.n s0)))),(13,(zI (0:Int)))]) (hp 0 []) (.k0 [] [] [0,1,12,13]) ?_))
   refine .block (.loopM (v:=v) (fun y:Sl×Sl×Int×Int=>((fr 26 [(0,(Sl.v 1 y.1)),(1,(Sl.v 1 y.2.1)),(12,(zI y.2.2.1)),(13,(zI y.2.2.2))]),(hp 0 []))) (fun w y=>WW pu n w y.1 y.2.1 y.2.2.1 y.2.2.2) n ⟨(s0,s1,(Int.ofNat (Sl.n s0)),(0:Int)),hm,(.k0 [] [] [0,1,12,13])⟩ (fun _=>rfl) ?_)
   rintro w0 ⟨s2,s3,z0,z1⟩ hm
   replace hm:WV pu n (WW pu n w0) s2 s3 z0 z1=some v:=hm
   unfold WV at hm
   refine .then (.rK (.ghs (fr 26 [(0,Sl.v 1 s2),(1,Sl.v 1 s3),(12,zI z0),(13,zI z1),(14,(zB (AY z1 z0)))]) (hp 0 []) (.k0 [] [] [0,1,12,13,14]) ?_))
   refine .then ?_
   replace hm:=Ag hm;rcases hm with⟨h1,hm⟩ | ⟨h1,hm⟩
   ·refine A7 (AY z1 z0) h1 ?_
    refine .skip (.ghs (fr 26 [(0,Sl.v 1 s2),(1,Sl.v 1 s3),(12,zI z0),(13,zI z1)]) (hp 0 []) (.k0 [] [] [0,1,12,13]) ?_)
    refine .then (.block (.then (.rK (.ghs (fr 26 [(0,Sl.v 1 s2),(1,Sl.v 1 s3),(5,zI z1),(12,zI z0),(13,zI z1)]) (hp 0 []) (.k0 [] [] [0,1,5,12,13]) ?_))))
    refine .then ?_
    replace hm:=Ab hm;obtain⟨k1,h2,hm⟩:=hm
    obtain rfl:=AR h2
    replace hm:=Ae hm;obtain⟨h3,hm⟩:=hm
    replace hm:=Dn hm;obtain⟨x0,h4,hm⟩:=hm
    replace hm:=Ae hm;obtain⟨h5,hm⟩:=hm
    replace hm:=Dn hm;obtain⟨x1,h6,hm⟩:=hm
    refine .reg (eC 2 (keep (hp 0 []) (bb (an (Nat.blt k1 (Sl.n s2)) true) (some (Cv (k1*1) (Sl.cs s2))) none)) (AX h3) (eD (keep (hp 0 []) (AL (Sl.cs s2) (k1*1))) (AZ h4) (eC 2 (keep (hp 0 []) (bb (an (Nat.blt k1 (Sl.n s3)) true) (some (Cv (k1*1) (Sl.cs s3))) none)) (AX h5) (eD (keep (hp 0 []) (AL (Sl.cs s3) (k1*1))) (AZ h6) (eE))))) ?_
    refine .ghs (fr 26 [(0,Sl.v 1 s2),(1,Sl.v 1 s3),(12,zI z0),(13,(zI (Int.ofNat k1))),(24,(zB (nt (Bd x0 x1))))]) (hp 0 []) (.k0 [] [] [0,1,12,13,24]) ?_
    replace hm:=Ag hm;rcases hm with⟨h7,hm⟩ | ⟨h7,hm⟩
    ·refine A7 (nt (Bd x0 x1)) h7 ?_
     refine .then (.rK (.ghs (fr 26 [(4,zB false)]) (hp 0 []) (.k0 [] [] [4]) ?_))
     refine .ret ?_
     exact Ay (zB false) hm
    ·refine Bp (nt (Bd x0 x1)) h7 ?_
     refine .skip (.ghs (fr 26 [(0,Sl.v 1 s2),(1,Sl.v 1 s3),(12,zI z0),(13,(zI (Int.ofNat k1)))]) (hp 0 []) (.k0 [] [] [0,1,12,13]) ?_)
     refine .rK ?_
     exact⟨(s2,s3,z0,(Aj .i64 (Int.add (Int.ofNat k1) (1:Int)))),hm,(.k0 [] [] [0,1,12,13])⟩
   ·refine Bp (AY z1 z0) h1 ?_
    refine .exit ?_
    exact⟨(),hm,(.k0 [] [] [])⟩
def TW (pu:Af) (n:Nat) (z0:Int):OV:=
 (some (.int .i64 z0))
def WX (pu:Af) (n:Nat) (ih0:Sl→Int→Int→OV) (s0:Sl) (z0 z1:Int):OV:=
 (bb (AY z1 (Int.ofNat (Sl.n s0))) (oo (EA z1) none fun k1=>(bb (an (Nat.blt k1 (Sl.n s0)) true) (oo (AL (Sl.cs s0) (k1*1)) none fun v0=>(oo (Bi .i64 v0) none fun x0=>(ih0 s0 (bb (AY z0 x0) x0 z0) (Aj .i64 (Int.add (Int.ofNat k1) (1:Int)))))) none)) (TW pu n z0))
def WY (pu:Af) (n w:Nat):Sl→Int→Int→OV:=
 Nat.rec (motive:=fun _=>Sl→Int→Int→OV) (fun _ _ _=>none) (fun _ ih0=>WX pu n ih0) w
def Ua (pu:Af) (n:Nat) (s0:Sl):OV:=
 (bb (an (Nat.blt 0 (Sl.n s0)) true) (oo (AL (Sl.cs s0) (0*1)) none fun v0=>(oo (Bi .i64 v0) none fun x0=>(WY pu n n s0 x0 (1:Int)))) none)
def AeM (pu:Af) (n:Nat) (s0:Sl):OV:=
 (bb (AY (Int.ofNat (Sl.n s0)) (1:Int)) none (Ua pu n s0))
def m50 (pu:Af) (n:Nat) (args:LV):OV:=
 (ll args none fun a0 args=>(ll args (oo (Bj 1 a0) none fun s0=>(AeM pu n s0)) fun _ _=>none))
theorem AeN (pu:Af) (n:Nat) (z0:Int) {v:Value} (hm:TW pu n z0=some v):BN tt (Bb tabs isP pu (inl pu)) 0 UU (fr 25 [(3,zI z0)]) (hp 0 []) (Fin tt 0 [.tmp 2] v):=by
 unfold TW at hm
 refine .then (.rK (.ghs (fr 25 [(2,zI z0)]) (hp 0 []) (.k0 [] [] [2]) ?_))
 refine .ret ?_
 exact Ay (zI z0) hm
theorem AeO (pu:Af) (n:Nat) (s0:Sl) {v:Value} (hm:Ua pu n s0=some v):BN tt (Bb tabs isP pu (inl pu)) 0 UV (fr 25 [(0,Sl.v 1 s0)]) (hp 0 []) (Fin tt 0 [.tmp 2] v):=by
 unfold Ua at hm
 refine .then ?_
 replace hm:=Ae hm;obtain⟨h0,hm⟩:=hm
 replace hm:=Dn hm;obtain⟨x0,h1,hm⟩:=hm
 refine .reg (eC 1 (keep (hp 0 []) (bb (an (Nat.blt 0 (Sl.n s0)) true) (some (Cv (0*1) (Sl.cs s0))) none)) (AX h0) (eD (keep (hp 0 []) (AL (Sl.cs s0) (0*1))) (AZ h1) (eE))) ?_
 refine .ghs (fr 25 [(0,Sl.v 1 s0),(3,zI x0)]) (hp 0 []) (.k0 [] [] [0,3]) ?_
 refine .join (v:=v) (fun y:Int=>((fr 25 [(3,zI y)]),(hp 0 []))) (fun y=>TW pu n y) ?_ ?_
 ·rintro z0 hm
  exact AeN pu n z0 hm
 ·refine .then (.rK (.ghs (fr 25 [(0,Sl.v 1 s0),(3,zI x0),(4,(zI (1:Int)))]) (hp 0 []) (.k0 [] [] [0,3,4]) ?_))
  refine .block (.loopM (v:=v) (fun y:Sl×Int×Int=>((fr 25 [(0,(Sl.v 1 y.1)),(3,(zI y.2.1)),(4,(zI y.2.2))]),(hp 0 []))) (fun w y=>WY pu n w y.1 y.2.1 y.2.2) n ⟨(s0,x0,(1:Int)),hm,(.k0 [] [] [0,3,4])⟩ (fun _=>rfl) ?_)
  rintro w0 ⟨s1,z1,z2⟩ hm
  replace hm:WX pu n (WY pu n w0) s1 z1 z2=some v:=hm
  unfold WX at hm
  refine .then (.then (.rK (.ghs (fr 25 [(0,Sl.v 1 s1),(3,zI z1),(4,zI z2),(15,(zB (AY z2 (Int.ofNat (Sl.n s1)))))]) (hp 0 []) (.k0 [] [] [0,3,4,15]) ?_)))
  replace hm:=Ag hm;rcases hm with⟨h2,hm⟩ | ⟨h2,hm⟩
  ·refine A7 (AY z2 (Int.ofNat (Sl.n s1))) h2 ?_
   refine .skip (.ghs (fr 25 [(0,Sl.v 1 s1),(3,zI z1),(4,zI z2)]) (hp 0 []) (.k0 [] [] [0,3,4]) ?_)
   refine .then (.block ?_)
   replace hm:=Ab hm;obtain⟨k1,h3,hm⟩:=hm
   obtain rfl:=AR h3
   replace hm:=Ae hm;obtain⟨h4,hm⟩:=hm
   replace hm:=Dn hm;obtain⟨x1,h5,hm⟩:=hm
   refine .reg (eC 3 (keep (hp 0 []) (bb (an (Nat.blt k1 (Sl.n s1)) true) (some (Cv (k1*1) (Sl.cs s1))) none)) (AX h4) (eD (keep (hp 0 []) (AL (Sl.cs s1) (k1*1))) (AZ h5) (eE))) ?_
   refine .ghs (fr 25 [(0,Sl.v 1 s1),(3,(zI (bb (AY z1 x1) x1 z1))),(4,(zI (Int.ofNat k1)))]) (hp 0 []) (.k0 [] [] [0,3,4]) ?_
   refine .rK ?_
   exact⟨(s1,(bb (AY z1 x1) x1 z1),(Aj .i64 (Int.add (Int.ofNat k1) (1:Int)))),hm,(.k0 [] [] [0,3,4])⟩
  ·refine Bp (AY z2 (Int.ofNat (Sl.n s1))) h2 ?_
   refine .exit ?_
   exact⟨z1,hm,(.k0 [] [] [3])⟩
theorem r50 {call:A8} (pu:Af) (n:Nat) (hcall:call=Bb tabs isP pu (inl pu)) {args:LV} {v:Value} (hm:m50 pu n args=some v) (_:∀ x∈args,closed2 x=true):args.length≤25∧BN tt call 0 OT (Fr.made 25 args) (Ao tabs) (Fin tt 0 [.tmp 2] v):=by
 subst hcall
 unfold m50 at hm
 replace hm:=Ad hm;obtain⟨a0,args_0,rfl,hm⟩:=hm
 replace hm:=AC hm;obtain⟨rfl,hm⟩:=hm
 replace hm:=Al hm;obtain⟨s0,rfl,hm⟩:=hm
 unfold AeM at hm
 refine⟨by simp,?_⟩
 refine .same (F':=(fr 25 [(0,Sl.v 1 s0)])) (H':=(hp 0 [])) (by kernel_rfl) (by kernel_rfl) ?_
 refine .then (.rK (.ghs (fr 25 [(0,Sl.v 1 s0)]) (hp 0 []) (.k0 [] [] [0]) ?_))
 refine .join (v:=v) (fun y:Sl=>((fr 25 [(0,Sl.v 1 y)]),(hp 0 []))) (fun y=>Ua pu n y) ?_ ?_
 ·rintro s1 hm
  exact AeO pu n s1 hm
 ·refine .then (.rK (.ghs (fr 25 [(0,Sl.v 1 s0),(7,(zB (AY (Int.ofNat (Sl.n s0)) (1:Int))))]) (hp 0 []) (.k0 [] [] [0,7]) ?_))
  replace hm:=Ag hm;rcases hm with⟨h0,hm⟩ | ⟨h0,hm⟩
  ·refine A7 (AY (Int.ofNat (Sl.n s0)) (1:Int)) h0 ?_
   cases hm
  ·refine Bp (AY (Int.ofNat (Sl.n s0)) (1:Int)) h0 ?_
   refine .skip ?_
   exact⟨s0,hm,(.k0 [] [] [0])⟩
def Ub (pu:Af) (n:Nat) (z0:Int):OV:=
 (some (.int .u64 z0))
def WZ (pu:Af) (n:Nat) (ih0:Int→Int→Int→Int→Int→OV) (z0 z1 z2 z3 z4:Int):OV:=
 (bb (AY z4 z3) (oo (EA z0) none fun k1=>(ih0 (Int.ofNat k1) (jF .u64 (QW .u64 z1 k1) z2) z2 z3 (Aj .i64 (Int.add z4 (1:Int))))) (Ub pu n z1))
def W9 (pu:Af) (n w:Nat):Int→Int→Int→Int→Int→OV:=
 Nat.rec (motive:=fun _=>Int→Int→Int→Int→Int→OV) (fun _ _ _ _ _=>none) (fun _ ih0=>WZ pu n ih0) w
def AeP (pu:Af) (n:Nat) (x0 x1 x2:Int):OV:=
 (oo (EA x1) none fun k1=>(W9 pu n n x2 (0:Int) (Aj .u64 (Int.sub (QW .u64 (1:Int) k1) (1:Int))) x0 (0:Int)))
def m54 (pu:Af) (n:Nat) (args:LV):OV:=
 (ll args none fun a0 args=>(ll args none fun a1 args=>(ll args none fun a2 args=>(ll args (oo (Bi .i64 a0) none fun x0=>(oo (Bi .i64 a1) none fun x1=>(oo (Bi .i64 a2) none fun x2=>(AeP pu n x0 x1 x2)))) fun _ _=>none))))
theorem AeQ (pu:Af) (n:Nat) (z0:Int) {v:Value} (hm:Ub pu n z0=some v):BN tt (Bb tabs isP pu (inl pu)) 0 UW (fr 22 [(7,(zU z0))]) (hp 0 []) (Fin tt 0 [.tmp 6] v):=by
 unfold Ub at hm
 refine .then (.rK (.ghs (fr 22 [(6,(zU z0))]) (hp 0 []) (.k0 [] [] [6]) ?_))
 refine .ret ?_
 exact Ay (zU z0) hm
theorem r54 {call:A8} (pu:Af) (n:Nat) (hcall:call=Bb tabs isP pu (inl pu)) {args:LV} {v:Value} (hm:m54 pu n args=some v) (_:∀ x∈args,closed2 x=true):args.length≤22∧BN tt call 0 OU (Fr.made 22 args) (Ao tabs) (Fin tt 0 [.tmp 6] v):=by
 subst hcall
 unfold m54 at hm
 replace hm:=Ad hm;obtain⟨a0,args_0,rfl,hm⟩:=hm
 replace hm:=Ad hm;obtain⟨a1,args_1,rfl,hm⟩:=hm
 replace hm:=Ad hm;obtain⟨a2,args_2,rfl,hm⟩:=hm
 replace hm:=AC hm;obtain⟨rfl,hm⟩:=hm
 replace hm:=Ai hm;obtain⟨x0,rfl,hm⟩:=hm
 replace hm:=Ai hm;obtain⟨x1,rfl,hm⟩:=hm
 replace hm:=Ai hm;obtain⟨x2,rfl,hm⟩:=hm
 unfold AeP at hm
 refine⟨by simp,?_⟩
 refine .same (F':=(fr 22 [(0,zI x0),(1,zI x1),(2,zI x2)])) (H':=(hp 0 [])) (by kernel_rfl) (by kernel_rfl) ?_
 refine .then (.rK (.ghs (fr 22 [(0,zI x0),(1,zI x1),(2,zI x2)]) (hp 0 []) (.k0 [] [] [0,1,2]) ?_))
 refine .then ?_
 replace hm:=Ab hm;obtain⟨k1,h0,hm⟩:=hm
 obtain rfl:=AR h0
 refine .rK (.ghs (fr 22 [(0,zI x0),(2,zI x2),(7,(zU (0:Int))),(8,(zU (Aj .u64 (Int.sub (QW .u64 (1:Int) k1) (1:Int)))))]) (hp 0 []) (.k0 [] [] [0,2,7,8]) ?_)
 refine .join (v:=v) (fun y:Int=>((fr 22 [(7,(zU y))]),(hp 0 []))) (fun y=>Ub pu n y) ?_ ?_
 ·rintro z0 hm
  exact AeQ pu n z0 hm
 ·refine .then (.rK (.ghs (fr 22 [(2,zI x2),(7,(zU (0:Int))),(8,(zU (Aj .u64 (Int.sub (QW .u64 (1:Int) k1) (1:Int))))),(12,zI x0),(13,(zI (0:Int)))]) (hp 0 []) (.k0 [] [] [2,7,8,12,13]) ?_))
  refine .block (.loopM (v:=v) (fun y:Int×Int×Int×Int×Int=>((fr 22 [(2,(zI y.1)),(7,(zU y.2.1)),(8,(zU y.2.2.1)),(12,(zI y.2.2.2.1)),(13,(zI y.2.2.2.2))]),(hp 0 []))) (fun w y=>W9 pu n w y.1 y.2.1 y.2.2.1 y.2.2.2.1 y.2.2.2.2) n ⟨(x2,(0:Int),(Aj .u64 (Int.sub (QW .u64 (1:Int) k1) (1:Int))),x0,(0:Int)),hm,(.k0 [] [] [2,7,8,12,13])⟩ (fun _=>rfl) ?_)
  rintro w0 ⟨z1,z2,z3,z4,z5⟩ hm
  replace hm:WZ pu n (W9 pu n w0) z1 z2 z3 z4 z5=some v:=hm
  unfold WZ at hm
  refine .then (.rK (.ghs (fr 22 [(2,zI z1),(7,(zU z2)),(8,(zU z3)),(12,zI z4),(13,zI z5),(14,(zB (AY z5 z4)))]) (hp 0 []) (.k0 [] [] [2,7,8,12,13,14]) ?_))
  refine .then ?_
  replace hm:=Ag hm;rcases hm with⟨h1,hm⟩ | ⟨h1,hm⟩
  ·refine A7 (AY z5 z4) h1 ?_
   refine .skip (.ghs (fr 22 [(2,zI z1),(7,(zU z2)),(8,(zU z3)),(12,zI z4),(13,zI z5)]) (hp 0 []) (.k0 [] [] [2,7,8,12,13]) ?_)
   refine .then (.block ?_)
   replace hm:=Ab hm;obtain⟨k2,h2,hm⟩:=hm
   obtain rfl:=AR h2
   refine .rK (.ghs (fr 22 [(2,(zI (Int.ofNat k2))),(7,(zU (jF .u64 (QW .u64 z2 k2) z3))),(8,(zU z3)),(12,zI z4),(13,zI z5)]) (hp 0 []) (.k0 [] [] [2,7,8,12,13]) ?_)
   refine .rK ?_
   exact⟨((Int.ofNat k2),(jF .u64 (QW .u64 z2 k2) z3),z3,z4,(Aj .i64 (Int.add z5 (1:Int)))),hm,(.k0 [] [] [2,7,8,12,13])⟩
  ·refine Bp (AY z5 z4) h1 ?_
   refine .exit ?_
   exact⟨z2,hm,(.k0 [] [] [7])⟩
def Ud (pu:Af) (n:Nat) (z0 z1 z2 z3 z4 z5 z6 z7:Int):OV:=
 (bb (nt (Bd z2 (0:Int))) (bb (nt (Bd z2 (0:Int))) (some (.tuple ⟨[(.int .i64 (Aj .i64 (Int.tdiv z0 z2))),(.int .i64 (Int.tmod z0 z2))]⟩)) none) none)
def Xa (pu:Af) (n:Nat) (ih0:Int→Int→Int→Int→Int→Int→Int→Int→Int→OV) (z0 z1 z2 z3 z4 z5 z6 z7 z8:Int):OV:=
 (oo (EA z1) none fun k1=>(bb (Bd (Np .u64 (G6 .u64 z0 k1) (1:Int)) (1:Int)) (ih0 z0 (Aj .i64 (Int.add (Int.ofNat k1) (1:Int))) z2 z3 z4 z5 z6 z7 z8) (Ud pu n (Int.ofNat k1) z2 z3 z4 z5 z6 z7 z8)))
def Xb (pu:Af) (n w:Nat):Int→Int→Int→Int→Int→Int→Int→Int→Int→OV:=
 Nat.rec (motive:=fun _=>Int→Int→Int→Int→Int→Int→Int→Int→Int→OV) (fun _ _ _ _ _ _ _ _ _=>none) (fun _ ih0=>Xa pu n ih0) w
def AeR (pu:Af) (n:Nat) (x0 x1 x2 x3 x4 x5 x6 x7:Int):OV:=
 (Xb pu n n x7 (0:Int) x0 x1 x2 x3 x4 x5 x6)
def m55 (pu:Af) (n:Nat) (args:LV):OV:=
 (ll args none fun a0 args=>(ll args none fun a1 args=>(ll args (oo (Bt a0) none fun l0=>(ll l0 none fun v0 l0=>(ll l0 none fun v1 l0=>(ll l0 none fun v2 l0=>(ll l0 none fun v3 l0=>(ll l0 none fun v4 l0=>(ll l0 none fun v5 l0=>(ll l0 none fun v6 l0=>(ll l0 (oo (Bi .i64 v0) none fun x0=>(oo (Bi .i64 v1) none fun x1=>(oo (Bi .i64 v2) none fun x2=>(oo (Bi .i64 v3) none fun x3=>(oo (Bi .u64 v4) none fun x4=>(oo (Bi .u64 v5) none fun x5=>(oo (Bi .u64 v6) none fun x6=>(oo (Bi .u64 a1) none fun x7=>(AeR pu n x0 x1 x2 x3 x4 x5 x6 x7))))))))) fun _ _=>none))))))))) fun _ _=>none)))
theorem AeS (pu:Af) (n:Nat) (z0 z1 z2 z3 z4 z5 z6 z7:Int) {v:Value} (hm:Ud pu n z0 z1 z2 z3 z4 z5 z6 z7=some v):BN tt (Bb tabs isP pu (inl pu)) 0 UX (fr 24 [(2,(pt 0 0)),(6,zI z0)]) (hp 1 [(oC [zI z1,zI z2,zI z3,zI z4,(zU z5),(zU z6),(zU z7)])]) (Fin tt 0 [.tmp 4,.tmp 5] v):=by
 unfold Ud at hm
 refine .then ?_
 replace hm:=Ae hm;obtain⟨h0,hm⟩:=hm
 replace hm:=Ae hm;obtain⟨h1,hm⟩:=hm
 refine .reg (eC 4 (keep (hp 1 [(oC [zI z1,zI z2,zI z3,zI z4,(zU z5),(zU z6),(zU z7)])]) (bb (Bd z2 (0:Int)) none (some (zI (Aj .i64 (Int.tdiv z0 z2)))))) (XH h0) (eC 4 (keep (hp 1 [(oC [zI z1,zI z2,zI z3,zI z4,(zU z5),(zU z6),(zU z7)])]) (bb (Bd z2 (0:Int)) none (some (zI (Int.tmod z0 z2))))) (XH h1) (eE))) ?_
 refine .ghs (fr 24 [(4,(zI (Aj .i64 (Int.tdiv z0 z2)))),(5,(zI (Int.tmod z0 z2)))]) (hp 0 []) (.k0 [] [] [4,5]) ?_
 refine .ret ?_
 exact Ay (.tuple ⟨[(zI (Aj .i64 (Int.tdiv z0 z2))),(zI (Int.tmod z0 z2))]⟩) hm
theorem r55 {call:A8} (pu:Af) (n:Nat) (hcall:call=Bb tabs isP pu (inl pu)) {args:LV} {v:Value} (hm:m55 pu n args=some v) (_:∀ x∈args,closed2 x=true):args.length≤24∧BN tt call 0 OW (Fr.made 24 args) (Ao tabs) (Fin tt 0 [.tmp 4,.tmp 5] v):=by
 subst hcall
 unfold m55 at hm
 replace hm:=Ad hm;obtain⟨a0,args_0,rfl,hm⟩:=hm
 replace hm:=Ad hm;obtain⟨a1,args_1,rfl,hm⟩:=hm
 replace hm:=AC hm;obtain⟨rfl,hm⟩:=hm
 replace hm:=BG hm;obtain⟨l0,rfl,hm⟩:=hm
 replace hm:=Ad hm;obtain⟨v0,l19507_0,rfl,hm⟩:=hm
 replace hm:=Ad hm;obtain⟨v1,l19507_1,rfl,hm⟩:=hm
 replace hm:=Ad hm;obtain⟨v2,l19507_2,rfl,hm⟩:=hm
 replace hm:=Ad hm;obtain⟨v3,l19507_3,rfl,hm⟩:=hm
 replace hm:=Ad hm;obtain⟨v4,l19507_4,rfl,hm⟩:=hm
 replace hm:=Ad hm;obtain⟨v5,l19507_5,rfl,hm⟩:=hm
 replace hm:=Ad hm;obtain⟨v6,l19507_6,rfl,hm⟩:=hm
 replace hm:=AC hm;obtain⟨rfl,hm⟩:=hm
 replace hm:=Ai hm;obtain⟨x0,rfl,hm⟩:=hm
 replace hm:=Ai hm;obtain⟨x1,rfl,hm⟩:=hm
 replace hm:=Ai hm;obtain⟨x2,rfl,hm⟩:=hm
 replace hm:=Ai hm;obtain⟨x3,rfl,hm⟩:=hm
 replace hm:=Ai hm;obtain⟨x4,rfl,hm⟩:=hm
 replace hm:=Ai hm;obtain⟨x5,rfl,hm⟩:=hm
 replace hm:=Ai hm;obtain⟨x6,rfl,hm⟩:=hm
 replace hm:=Ai hm;obtain⟨x7,rfl,hm⟩:=hm
 unfold AeR at hm
 refine⟨by simp,?_⟩
 refine .same (F':=(fr 24 [(0,(.agg ⟨[zI x0,zI x1,zI x2,zI x3,(zU x4),(zU x5),(zU x6)]⟩)),(1,(zU x7))])) (H':=(hp 0 [])) (by kernel_rfl) (by kernel_rfl) ?_
 refine .then (.rK (.ghs (fr 24 [(1,(zU x7)),(2,(pt 0 0))]) (hp 1 [(oC [zI x0,zI x1,zI x2,zI x3,(zU x4),(zU x5),(zU x6)])]) (.k0 [] [.tmp 2 false] [1,2]) ?_))
 refine .then (.rK (.ghs (fr 24 [(1,(zU x7)),(2,(pt 0 0)),(6,(zI (0:Int)))]) (hp 1 [(oC [zI x0,zI x1,zI x2,zI x3,(zU x4),(zU x5),(zU x6)])]) (.k0 [] [.tmp 2 false] [1,2,6]) ?_))
 refine .join (v:=v) (fun y:Int×Int×Int×Int×Int×Int×Int×Int=>((fr 24 [(2,(pt 0 0)),(6,(zI y.1))]),(hp 1 [(oC [(zI y.2.1),(zI y.2.2.1),(zI y.2.2.2.1),(zI y.2.2.2.2.1),(zU y.2.2.2.2.2.1),(zU y.2.2.2.2.2.2.1),(zU y.2.2.2.2.2.2.2)])]))) (fun y=>Ud pu n y.1 y.2.1 y.2.2.1 y.2.2.2.1 y.2.2.2.2.1 y.2.2.2.2.2.1 y.2.2.2.2.2.2.1 y.2.2.2.2.2.2.2) ?_ ?_
 ·rintro⟨z0,z1,z2,z3,z4,z5,z6,z7⟩ hm
  exact AeS pu n z0 z1 z2 z3 z4 z5 z6 z7 hm
 ·refine .block (.loopM (v:=v) (fun y:Int×Int×Int×Int×Int×Int×Int×Int×Int=>((fr 24 [(1,(zU y.1)),(2,(pt 0 0)),(6,(zI y.2.1))]),(hp 1 [(oC [(zI y.2.2.1),(zI y.2.2.2.1),(zI y.2.2.2.2.1),(zI y.2.2.2.2.2.1),(zU y.2.2.2.2.2.2.1),(zU y.2.2.2.2.2.2.2.1),(zU y.2.2.2.2.2.2.2.2)])]))) (fun w y=>Xb pu n w y.1 y.2.1 y.2.2.1 y.2.2.2.1 y.2.2.2.2.1 y.2.2.2.2.2.1 y.2.2.2.2.2.2.1 y.2.2.2.2.2.2.2.1 y.2.2.2.2.2.2.2.2) n ⟨(x7,(0:Int),x0,x1,x2,x3,x4,x5,x6),hm,(.k0 [] [.tmp 2 false] [1,2,6])⟩ (fun _=>rfl) ?_)
  rintro w0 ⟨z8,z9,z10,z11,z12,z13,z14,z15,z16⟩ hm
  replace hm:Xa pu n (Xb pu n w0) z8 z9 z10 z11 z12 z13 z14 z15 z16=some v:=hm
  unfold Xa at hm
  refine .then (.then ?_)
  replace hm:=Ab hm;obtain⟨k1,h0,hm⟩:=hm
  obtain rfl:=AR h0
  refine .rK (.ghs (fr 24 [(1,(zU z8)),(2,(pt 0 0)),(6,(zI (Int.ofNat k1))),(11,(zB (Bd (Np .u64 (G6 .u64 z8 k1) (1:Int)) (1:Int))))]) (hp 1 [(oC [zI z10,zI z11,zI z12,zI z13,(zU z14),(zU z15),(zU z16)])]) (.k0 [] [.tmp 2 false] [1,2,6,11]) ?_)
  replace hm:=Ag hm;rcases hm with⟨h1,hm⟩ | ⟨h1,hm⟩
  ·refine A7 (Bd (Np .u64 (G6 .u64 z8 k1) (1:Int)) (1:Int)) h1 ?_
   refine .skip (.ghs (fr 24 [(1,(zU z8)),(2,(pt 0 0)),(6,(zI (Int.ofNat k1)))]) (hp 1 [(oC [zI z10,zI z11,zI z12,zI z13,(zU z14),(zU z15),(zU z16)])]) (.k0 [] [.tmp 2 false] [1,2,6]) ?_)
   refine .block (.rK ?_)
   exact⟨(z8,(Aj .i64 (Int.add (Int.ofNat k1) (1:Int))),z10,z11,z12,z13,z14,z15,z16),hm,(.k0 [] [.tmp 2 false] [1,2,6])⟩
  ·refine Bp (Bd (Np .u64 (G6 .u64 z8 k1) (1:Int)) (1:Int)) h1 ?_
   refine .exit ?_
   exact⟨((Int.ofNat k1),z10,z11,z12,z13,z14,z15,z16),hm,(.k0 [] [.tmp 2 false] [2,6])⟩
def PN (pu:Af) (n:Nat) (b0:Bool):OV:=
 (some (.bool b0))
def AeT (pu:Af) (n:Nat) (x0 x1 x2:Int):OV:=
 (bb (nt (AY x1 x0)) (PN pu n (nt (AY x2 x1))) (PN pu n false))
def m62 (pu:Af) (n:Nat) (args:LV):OV:=
 (ll args none fun a0 args=>(ll args none fun a1 args=>(ll args none fun a2 args=>(ll args (oo (Bi .i64 a0) none fun x0=>(oo (Bi .i64 a1) none fun x1=>(oo (Bi .i64 a2) none fun x2=>(AeT pu n x0 x1 x2)))) fun _ _=>none))))
theorem AeU (pu:Af) (n:Nat) (b0:Bool) {v:Value} (hm:PN pu n b0=some v):BN tt (Bb tabs isP pu (inl pu)) 0 .ret (fr 15 [(6,zB b0)]) (hp 0 []) (Fin tt 0 [.tmp 6] v):=by
 unfold PN at hm
 refine .ret ?_
 exact Ay (zB b0) hm
theorem r62 {call:A8} (pu:Af) (n:Nat) (hcall:call=Bb tabs isP pu (inl pu)) {args:LV} {v:Value} (hm:m62 pu n args=some v) (_:∀ x∈args,closed2 x=true):args.length≤15∧BN tt call 0 QN (Fr.made 15 args) (Ao tabs) (Fin tt 0 [.tmp 6] v):=by
 subst hcall
 unfold m62 at hm
 replace hm:=Ad hm;obtain⟨a0,args_0,rfl,hm⟩:=hm
 replace hm:=Ad hm;obtain⟨a1,args_1,rfl,hm⟩:=hm
 replace hm:=Ad hm;obtain⟨a2,args_2,rfl,hm⟩:=hm
 replace hm:=AC hm;obtain⟨rfl,hm⟩:=hm
 replace hm:=Ai hm;obtain⟨x0,rfl,hm⟩:=hm
 replace hm:=Ai hm;obtain⟨x1,rfl,hm⟩:=hm
 replace hm:=Ai hm;obtain⟨x2,rfl,hm⟩:=hm
 unfold AeT at hm
 refine⟨by simp,?_⟩
 refine .same (F':=(fr 15 [(0,zI x0),(1,zI x1),(2,zI x2)])) (H':=(hp 0 [])) (by kernel_rfl) (by kernel_rfl) ?_
 refine .then (.rK (.ghs (fr 15 [(0,zI x0),(1,zI x1),(2,zI x2)]) (hp 0 []) (.k0 [] [] [0,1,2]) ?_))
 refine .join (v:=v) (fun y:Bool=>((fr 15 [(6,zB y)]),(hp 0 []))) (fun y=>PN pu n y) ?_ ?_
 ·rintro b0 hm
  exact AeU pu n b0 hm
 ·replace hm:=Ag hm;rcases hm with⟨h0,hm⟩ | ⟨h0,hm⟩
  ·refine .reg (eC 2 (some ((zB (nt (AY x1 x0))),(hp 0 []))) (show _=some ((zB true),_) from (by rw[show (nt (AY x1 x0))=true from h0])) (eE)) ?_
   exact⟨(nt (AY x2 x1)),hm,(.k0 [] [] [6])⟩
  ·refine .reg (eC 2 (some ((zB (nt (AY x1 x0))),(hp 0 []))) (show _=some ((zB false),_) from (by rw[show (nt (AY x1 x0))=false from h0])) (eE)) ?_
   exact⟨false,hm,(.k0 [] [] [6])⟩

def AeV (pu:Af) (n:Nat) (x0:Int):OV:=
 (bb (Bd x0 (4:Int)) (some (.agg ⟨[(.int .i64 (0:Int)),(.bool true)]⟩)) (bb (Bd x0 (5:Int)) (some (.agg ⟨[(.int .i64 (2:Int)),(.bool true)]⟩)) (bb (Bd x0 (6:Int)) (some (.agg ⟨[(.int .i64 (1:Int)),(.bool true)]⟩)) (bb (Bd x0 (7:Int)) (some (.agg ⟨[(.int .i64 (3:Int)),(.bool true)]⟩)) (some (.agg ⟨[.int .i64 x0,(.bool false)]⟩))))))
def m63 (pu:Af) (n:Nat) (args:LV):OV:=
 (ll args none fun a0 args=>(ll args (oo (Bi .i64 a0) none fun x0=>(AeV pu n x0)) fun _ _=>none))
theorem r63 {call:A8} (pu:Af) (n:Nat) (hcall:call=Bb tabs isP pu (inl pu)) {args:LV} {v:Value} (hm:m63 pu n args=some v) (_:∀ x∈args,closed2 x=true):args.length≤18∧BN tt call 0 OX (Fr.made 18 args) (Ao tabs) (Fin tt 0 [.cell 2 122] v):=by
 subst hcall
 unfold m63 at hm
 replace hm:=Ad hm;obtain⟨a0,args_0,rfl,hm⟩:=hm
 replace hm:=AC hm;obtain⟨rfl,hm⟩:=hm
 replace hm:=Ai hm;obtain⟨x0,rfl,hm⟩:=hm
 unfold AeV at hm
 refine⟨by simp,?_⟩
 refine .same (F':=(fr 18 [(0,zI x0)])) (H':=(hp 0 [])) (by kernel_rfl) (by kernel_rfl) ?_
 refine .then (.rK (.ghs (fr 18 [(0,zI x0),(2,(pt 0 0))]) (hp 1 [(oC [(zI (0:Int)),zB false])]) (.k0 [] [.tmp 2 false] [0,2]) ?_))
 refine .then (.then (.rK (.ghs (fr 18 [(0,zI x0),(2,(pt 0 0)),(3,zI x0)]) (hp 1 [(oC [(zI (0:Int)),zB false])]) (.k0 [] [.tmp 2 false] [0,2,3]) ?_)))
 refine .block (.then (.rK (.ghs (fr 18 [(0,zI x0),(2,(pt 0 0)),(3,zI x0),(4,(zB (Bd x0 (4:Int))))]) (hp 1 [(oC [(zI (0:Int)),zB false])]) (.k0 [] [.tmp 2 false] [0,2,3,4]) ?_)))
 replace hm:=Ag hm;rcases hm with⟨h0,hm⟩ | ⟨h0,hm⟩
 ·refine A7 (Bd x0 (4:Int)) h0 ?_
  refine .then (.rK (.ghs (fr 18 [(2,(pt 0 0))]) (hp 1 [(oC [(zI (0:Int)),zB true])]) (.k0 [] [.tmp 2 false] [2]) ?_))
  refine .ret ?_
  exact Ay (.agg ⟨[(zI (0:Int)),zB true]⟩) hm
 ·refine Bp (Bd x0 (4:Int)) h0 ?_
  refine .then (.rK (.ghs (fr 18 [(0,zI x0),(2,(pt 0 0)),(3,zI x0),(7,(zB (Bd x0 (5:Int))))]) (hp 1 [(oC [(zI (0:Int)),zB false])]) (.k0 [] [.tmp 2 false] [0,2,3,7]) ?_))
  replace hm:=Ag hm;rcases hm with⟨h1,hm⟩ | ⟨h1,hm⟩
  ·refine A7 (Bd x0 (5:Int)) h1 ?_
   refine .then (.rK (.ghs (fr 18 [(2,(pt 0 0))]) (hp 1 [(oC [(zI (2:Int)),zB true])]) (.k0 [] [.tmp 2 false] [2]) ?_))
   refine .ret ?_
   exact Ay (.agg ⟨[(zI (2:Int)),zB true]⟩) hm
  ·refine Bp (Bd x0 (5:Int)) h1 ?_
   refine .then (.rK (.ghs (fr 18 [(0,zI x0),(2,(pt 0 0)),(3,zI x0),(10,(zB (Bd x0 (6:Int))))]) (hp 1 [(oC [(zI (0:Int)),zB false])]) (.k0 [] [.tmp 2 false] [0,2,3,10]) ?_))
   replace hm:=Ag hm;rcases hm with⟨h2,hm⟩ | ⟨h2,hm⟩
   ·refine A7 (Bd x0 (6:Int)) h2 ?_
    refine .then (.rK (.ghs (fr 18 [(2,(pt 0 0))]) (hp 1 [(oC [(zI (1:Int)),zB true])]) (.k0 [] [.tmp 2 false] [2]) ?_))
    refine .ret ?_
    exact Ay (.agg ⟨[(zI (1:Int)),zB true]⟩) hm
   ·refine Bp (Bd x0 (6:Int)) h2 ?_
    refine .then (.rK (.ghs (fr 18 [(0,zI x0),(2,(pt 0 0)),(13,(zB (Bd x0 (7:Int))))]) (hp 1 [(oC [(zI (0:Int)),zB false])]) (.k0 [] [.tmp 2 false] [0,2,13]) ?_))
    replace hm:=Ag hm;rcases hm with⟨h3,hm⟩ | ⟨h3,hm⟩
    ·refine A7 (Bd x0 (7:Int)) h3 ?_
     refine .then (.rK (.ghs (fr 18 [(2,(pt 0 0))]) (hp 1 [(oC [(zI (3:Int)),zB true])]) (.k0 [] [.tmp 2 false] [2]) ?_))
     refine .ret ?_
     exact Ay (.agg ⟨[(zI (3:Int)),zB true]⟩) hm
    ·refine Bp (Bd x0 (7:Int)) h3 ?_
     refine .skip (.ghs (fr 18 [(0,zI x0),(2,(pt 0 0))]) (hp 1 [(oC [(zI (0:Int)),zB false])]) (.k0 [] [.tmp 2 false] [0,2]) ?_)
     refine .then (.rK (.ghs (fr 18 [(2,(pt 0 0))]) (hp 1 [(oC [zI x0,zB false])]) (.k0 [] [.tmp 2 false] [2]) ?_))
     refine .ret ?_
     exact Ay (.agg ⟨[zI x0,zB false]⟩) hm
def PO (pu:Af) (n:Nat) (z0:Int) (b0:Bool) (z1:Int) (b1:Bool) (z2:Int) (b2:Bool):OV:=
 (some (.agg ⟨[(.int .i64 (Aj .i64 (Int.add z0 z1))),(.bool (bq false (bq b0 b1)))]⟩))
def AeW (pu:Af) (n:Nat) (x0:Int) (b0:Bool) (x1:Int) (b1:Bool):OV:=
 (bb b0 (PO pu n x0 b0 (Aj .i64 (Int.sub (.ofNat 0) x1)) b1 (0:Int) false) (PO pu n x0 b0 x1 b1 (0:Int) false))
def m65 (pu:Af) (n:Nat) (args:LV):OV:=
 (ll args none fun a0 args=>(ll args none fun a1 args=>(ll args (oo (Bt a0) none fun l0=>(ll l0 none fun v0 l0=>(ll l0 none fun v1 l0=>(ll l0 (oo (Bi .i64 v0) none fun x0=>(oo (Bf v1) none fun b0=>(oo (Bt a1) none fun l1=>(ll l1 none fun v2 l1=>(ll l1 none fun v3 l1=>(ll l1 (oo (Bi .i64 v2) none fun x1=>(oo (Bf v3) none fun b1=>(AeW pu n x0 b0 x1 b1))) fun _ _=>none)))))) fun _ _=>none)))) fun _ _=>none)))
theorem AeX (pu:Af) (n:Nat) (z0:Int) (b0:Bool) (z1:Int) (b1:Bool) (z2:Int) (b2:Bool) {v:Value} (hm:PO pu n z0 b0 z1 b1 z2 b2=some v):BN tt (Bb tabs isP pu (inl pu)) 0 Zt (fr 22 [(2,(pt 0 0)),(3,pt 1 0),(4,(pt 2 0))]) (hp 3 [(oC [zI z0,zB b0]),(oC [zI z1,zB b1]),(oC [zI z2,zB b2])]) (Fin tt 0 [.cell 4 122] v):=by
 unfold PO at hm
 refine .then (.rK (.ghs (fr 22 [(4,(pt 0 0))]) (hp 1 [(oC [(zI (Aj .i64 (Int.add z0 z1))),(zB (bq false (bq b0 b1)))])]) (.k0 [] [.tmp 4 false] [4]) ?_))
 refine .ret ?_
 exact Ay (.agg ⟨[(zI (Aj .i64 (Int.add z0 z1))),(zB (bq false (bq b0 b1)))]⟩) hm
theorem r65 {call:A8} (pu:Af) (n:Nat) (hcall:call=Bb tabs isP pu (inl pu)) {args:LV} {v:Value} (hm:m65 pu n args=some v) (_:∀ x∈args,closed2 x=true):args.length≤22∧BN tt call 0 QO (Fr.made 22 args) (Ao tabs) (Fin tt 0 [.cell 4 122] v):=by
 subst hcall
 unfold m65 at hm
 replace hm:=Ad hm;obtain⟨a0,args_0,rfl,hm⟩:=hm
 replace hm:=Ad hm;obtain⟨a1,args_1,rfl,hm⟩:=hm
 replace hm:=AC hm;obtain⟨rfl,hm⟩:=hm
 replace hm:=BG hm;obtain⟨l0,rfl,hm⟩:=hm
 replace hm:=Ad hm;obtain⟨v0,l19605_0,rfl,hm⟩:=hm
 replace hm:=Ad hm;obtain⟨v1,l19605_1,rfl,hm⟩:=hm
 replace hm:=AC hm;obtain⟨rfl,hm⟩:=hm
 replace hm:=Ai hm;obtain⟨x0,rfl,hm⟩:=hm
 replace hm:=Be hm;obtain⟨b0,rfl,hm⟩:=hm
 replace hm:=BG hm;obtain⟨l1,rfl,hm⟩:=hm
 replace hm:=Ad hm;obtain⟨v2,l19613_0,rfl,hm⟩:=hm
 replace hm:=Ad hm;obtain⟨v3,l19613_1,rfl,hm⟩:=hm
 replace hm:=AC hm;obtain⟨rfl,hm⟩:=hm
 replace hm:=Ai hm;obtain⟨x1,rfl,hm⟩:=hm
 replace hm:=Be hm;obtain⟨b1,rfl,hm⟩:=hm
 unfold AeW at hm
 refine⟨by simp,?_⟩
 refine .same (F':=(fr 22 [(0,(.agg ⟨[zI x0,zB b0]⟩)),(1,(.agg ⟨[zI x1,zB b1]⟩))])) (H':=(hp 0 [])) (by kernel_rfl) (by kernel_rfl) ?_
 refine .then (.rK (.ghs (fr 22 [(2,(pt 0 0)),(3,pt 1 0),(4,(pt 2 0))]) (hp 3 [(oC [zI x0,zB b0]),(oC [zI x1,zB b1]),(oC [(zI (0:Int)),zB false])]) (.k0 [] [.tmp 2 false,.tmp 3 false,.tmp 4 false] [2,3,4]) ?_))
 refine .join (v:=v) (fun y:Int×Bool×Int×Bool×Int×Bool=>((fr 22 [(2,(pt 0 0)),(3,pt 1 0),(4,(pt 2 0))]),(hp 3 [(oC [(zI y.1),(zB y.2.1)]),(oC [(zI y.2.2.1),(zB y.2.2.2.1)]),(oC [(zI y.2.2.2.2.1),(zB y.2.2.2.2.2)])]))) (fun y=>PO pu n y.1 y.2.1 y.2.2.1 y.2.2.2.1 y.2.2.2.2.1 y.2.2.2.2.2) ?_ ?_
 ·rintro⟨z0,b2,z1,b3,z2,b6⟩ hm
  exact AeX pu n z0 b2 z1 b3 z2 b6 hm
 ·refine .then (.rK (.ghs (fr 22 [(2,(pt 0 0)),(3,pt 1 0),(4,(pt 2 0)),(6,zB b0)]) (hp 3 [(oC [zI x0,zB b0]),(oC [zI x1,zB b1]),(oC [(zI (0:Int)),zB false])]) (.k0 [] [.tmp 2 false,.tmp 3 false,.tmp 4 false] [2,3,4,6]) ?_))
  replace hm:=Ag hm;rcases hm with⟨h0,hm⟩ | ⟨h0,hm⟩
  ·refine .ifT b0 (by kernel_rfl) h0 ?_
   refine .rK ?_
   exact⟨(x0,b0,(Aj .i64 (Int.sub (.ofNat 0) x1)),b1,(0:Int),false),hm,(.k0 [] [.tmp 2 false,.tmp 3 false,.tmp 4 false] [2,3,4])⟩
  ·refine .ifF b0 (by kernel_rfl) h0 ?_
   refine .skip ?_
   exact⟨(x0,b0,x1,b1,(0:Int),false),hm,(.k0 [] [.tmp 2 false,.tmp 3 false,.tmp 4 false] [2,3,4])⟩

def AeY (pu:Af) (n:Nat) (x0:Int) (b0:Bool):OV:=
 (bb (nt b0) (some (.int .i64 (Int.tmod (Aj .i64 (Int.add x0 (4:Int))) (4:Int)))) (bb (Bd (Int.tmod (Aj .i64 (Int.add x0 (4:Int))) (4:Int)) (0:Int)) (some (.int .i64 (4:Int))) (bb (Bd (Int.tmod (Aj .i64 (Int.add x0 (4:Int))) (4:Int)) (1:Int)) (some (.int .i64 (6:Int))) (bb (Bd (Int.tmod (Aj .i64 (Int.add x0 (4:Int))) (4:Int)) (2:Int)) (some (.int .i64 (5:Int))) (some (.int .i64 (7:Int)))))))
def m66 (pu:Af) (n:Nat) (args:LV):OV:=
 (ll args none fun a0 args=>(ll args (oo (Bt a0) none fun l0=>(ll l0 none fun v0 l0=>(ll l0 none fun v1 l0=>(ll l0 (oo (Bi .i64 v0) none fun x0=>(oo (Bf v1) none fun b0=>(AeY pu n x0 b0))) fun _ _=>none)))) fun _ _=>none))
theorem r66 {call:A8} (pu:Af) (n:Nat) (hcall:call=Bb tabs isP pu (inl pu)) {args:LV} {v:Value} (hm:m66 pu n args=some v) (_:∀ x∈args,closed2 x=true):args.length≤22∧BN tt call 0 OZ (Fr.made 22 args) (Ao tabs) (Fin tt 0 [.tmp 2] v):=by
 subst hcall
 unfold m66 at hm
 replace hm:=Ad hm;obtain⟨a0,args_0,rfl,hm⟩:=hm
 replace hm:=AC hm;obtain⟨rfl,hm⟩:=hm
 replace hm:=BG hm;obtain⟨l0,rfl,hm⟩:=hm
 replace hm:=Ad hm;obtain⟨v0,l19630_0,rfl,hm⟩:=hm
 replace hm:=Ad hm;obtain⟨v1,l19630_1,rfl,hm⟩:=hm
 replace hm:=AC hm;obtain⟨rfl,hm⟩:=hm
 replace hm:=Ai hm;obtain⟨x0,rfl,hm⟩:=hm
 replace hm:=Be hm;obtain⟨b0,rfl,hm⟩:=hm
 unfold AeY at hm
 refine⟨by simp,?_⟩
 refine .same (F':=(fr 22 [(0,(.agg ⟨[zI x0,zB b0]⟩))])) (H':=(hp 0 [])) (by kernel_rfl) (by kernel_rfl) ?_
 refine .then (.rK (.ghs (fr 22 [(1,(pt 0 0))]) (hp 1 [(oC [zI x0,zB b0])]) (.k0 [] [.tmp 1 false] [1]) ?_))
 refine .then (.rK (.ghs (fr 22 [(1,(pt 0 0)),(3,(zI (Int.tmod (Aj .i64 (Int.add x0 (4:Int))) (4:Int))))]) (hp 1 [(oC [zI x0,zB b0])]) (.k0 [] [.tmp 1 false] [1,3]) ?_))
 refine .then (.block (.then (.rK (.ghs (fr 22 [(3,(zI (Int.tmod (Aj .i64 (Int.add x0 (4:Int))) (4:Int)))),(8,(zB (nt b0)))]) (hp 0 []) (.k0 [] [] [3,8]) ?_))))
 replace hm:=Ag hm;rcases hm with⟨h0,hm⟩ | ⟨h0,hm⟩
 ·refine A7 (nt b0) h0 ?_
  refine .then (.rK (.ghs (fr 22 [(2,(zI (Int.tmod (Aj .i64 (Int.add x0 (4:Int))) (4:Int))))]) (hp 0 []) (.k0 [] [] [2]) ?_))
  refine .ret ?_
  exact Ay (zI (Int.tmod (Aj .i64 (Int.add x0 (4:Int))) (4:Int))) hm
 ·refine Bp (nt b0) h0 ?_
  refine .then (.rK (.ghs (fr 22 [(3,(zI (Int.tmod (Aj .i64 (Int.add x0 (4:Int))) (4:Int)))),(13,(zB (Bd (Int.tmod (Aj .i64 (Int.add x0 (4:Int))) (4:Int)) (0:Int))))]) (hp 0 []) (.k0 [] [] [3,13]) ?_))
  replace hm:=Ag hm;rcases hm with⟨h1,hm⟩ | ⟨h1,hm⟩
  ·refine A7 (Bd (Int.tmod (Aj .i64 (Int.add x0 (4:Int))) (4:Int)) (0:Int)) h1 ?_
   refine .then (.rK (.ghs (fr 22 [(2,(zI (4:Int)))]) (hp 0 []) (.k0 [] [] [2]) ?_))
   refine .ret ?_
   exact Ay (zI (4:Int)) hm
  ·refine Bp (Bd (Int.tmod (Aj .i64 (Int.add x0 (4:Int))) (4:Int)) (0:Int)) h1 ?_
   refine .then (.rK (.ghs (fr 22 [(3,(zI (Int.tmod (Aj .i64 (Int.add x0 (4:Int))) (4:Int)))),(16,(zB (Bd (Int.tmod (Aj .i64 (Int.add x0 (4:Int))) (4:Int)) (1:Int))))]) (hp 0 []) (.k0 [] [] [3,16]) ?_))
   replace hm:=Ag hm;rcases hm with⟨h2,hm⟩ | ⟨h2,hm⟩
   ·refine A7 (Bd (Int.tmod (Aj .i64 (Int.add x0 (4:Int))) (4:Int)) (1:Int)) h2 ?_
    refine .then (.rK (.ghs (fr 22 [(2,(zI (6:Int)))]) (hp 0 []) (.k0 [] [] [2]) ?_))
    refine .ret ?_
    exact Ay (zI (6:Int)) hm
   ·refine Bp (Bd (Int.tmod (Aj .i64 (Int.add x0 (4:Int))) (4:Int)) (1:Int)) h2 ?_
    refine .then (.rK (.ghs (fr 22 [(19,(zB (Bd (Int.tmod (Aj .i64 (Int.add x0 (4:Int))) (4:Int)) (2:Int))))]) (hp 0 []) (.k0 [] [] [19]) ?_))
    replace hm:=Ag hm;rcases hm with⟨h3,hm⟩ | ⟨h3,hm⟩
    ·refine A7 (Bd (Int.tmod (Aj .i64 (Int.add x0 (4:Int))) (4:Int)) (2:Int)) h3 ?_
     refine .then (.rK (.ghs (fr 22 [(2,(zI (5:Int)))]) (hp 0 []) (.k0 [] [] [2]) ?_))
     refine .ret ?_
     exact Ay (zI (5:Int)) hm
    ·refine Bp (Bd (Int.tmod (Aj .i64 (Int.add x0 (4:Int))) (4:Int)) (2:Int)) h3 ?_
     refine .skip (.ghs (fr 22 []) (hp 0 []) (.k0 [] [] []) ?_)
     refine .then (.rK (.ghs (fr 22 [(2,(zI (7:Int)))]) (hp 0 []) (.k0 [] [] [2]) ?_))
     refine .ret ?_
     exact Ay (zI (7:Int)) hm
def Ue (pu:Af) (n:Nat) (z0:Int):OV:=
 (some (.int .i64 z0))
def Xc (pu:Af) (n:Nat) (ih0:Sl→Int→Int→OV) (s0:Sl) (z0 z1:Int):OV:=
 (bb (AY z1 (Int.ofNat (Sl.n s0))) (oo (EA z1) none fun k1=>(bb (an (Nat.blt k1 (Sl.n s0)) true) (oo (AL (Sl.cs s0) (k1*1)) none fun v0=>(oo (Bi .i64 v0) none fun x0=>(ih0 s0 (bb (AY x0 z0) x0 z0) (Aj .i64 (Int.add (Int.ofNat k1) (1:Int)))))) none)) (Ue pu n z0))
def Xd (pu:Af) (n w:Nat):Sl→Int→Int→OV:=
 Nat.rec (motive:=fun _=>Sl→Int→Int→OV) (fun _ _ _=>none) (fun _ ih0=>Xc pu n ih0) w
def Uf (pu:Af) (n:Nat) (s0:Sl):OV:=
 (bb (an (Nat.blt 0 (Sl.n s0)) true) (oo (AL (Sl.cs s0) (0*1)) none fun v0=>(oo (Bi .i64 v0) none fun x0=>(Xd pu n n s0 x0 (1:Int)))) none)
def AeZ (pu:Af) (n:Nat) (s0:Sl):OV:=
 (bb (AY (Int.ofNat (Sl.n s0)) (1:Int)) none (Uf pu n s0))
def m67 (pu:Af) (n:Nat) (args:LV):OV:=
 (ll args none fun a0 args=>(ll args (oo (Bj 1 a0) none fun s0=>(AeZ pu n s0)) fun _ _=>none))
theorem Ae0 (pu:Af) (n:Nat) (z0:Int) {v:Value} (hm:Ue pu n z0=some v):BN tt (Bb tabs isP pu (inl pu)) 0 UY (fr 25 [(3,zI z0)]) (hp 0 []) (Fin tt 0 [.tmp 2] v):=by
 unfold Ue at hm
 refine .then (.rK (.ghs (fr 25 [(2,zI z0)]) (hp 0 []) (.k0 [] [] [2]) ?_))
 refine .ret ?_
 exact Ay (zI z0) hm
theorem Ae1 (pu:Af) (n:Nat) (s0:Sl) {v:Value} (hm:Uf pu n s0=some v):BN tt (Bb tabs isP pu (inl pu)) 0 UZ (fr 25 [(0,Sl.v 1 s0)]) (hp 0 []) (Fin tt 0 [.tmp 2] v):=by
 unfold Uf at hm
 refine .then ?_
 replace hm:=Ae hm;obtain⟨h0,hm⟩:=hm
 replace hm:=Dn hm;obtain⟨x0,h1,hm⟩:=hm
 refine .reg (eC 1 (keep (hp 0 []) (bb (an (Nat.blt 0 (Sl.n s0)) true) (some (Cv (0*1) (Sl.cs s0))) none)) (AX h0) (eD (keep (hp 0 []) (AL (Sl.cs s0) (0*1))) (AZ h1) (eE))) ?_
 refine .ghs (fr 25 [(0,Sl.v 1 s0),(3,zI x0)]) (hp 0 []) (.k0 [] [] [0,3]) ?_
 refine .join (v:=v) (fun y:Int=>((fr 25 [(3,zI y)]),(hp 0 []))) (fun y=>Ue pu n y) ?_ ?_
 ·rintro z0 hm
  exact Ae0 pu n z0 hm
 ·refine .then (.rK (.ghs (fr 25 [(0,Sl.v 1 s0),(3,zI x0),(4,(zI (1:Int)))]) (hp 0 []) (.k0 [] [] [0,3,4]) ?_))
  refine .block (.loopM (v:=v) (fun y:Sl×Int×Int=>((fr 25 [(0,(Sl.v 1 y.1)),(3,(zI y.2.1)),(4,(zI y.2.2))]),(hp 0 []))) (fun w y=>Xd pu n w y.1 y.2.1 y.2.2) n ⟨(s0,x0,(1:Int)),hm,(.k0 [] [] [0,3,4])⟩ (fun _=>rfl) ?_)
  rintro w0 ⟨s1,z1,z2⟩ hm
  replace hm:Xc pu n (Xd pu n w0) s1 z1 z2=some v:=hm
  unfold Xc at hm
  refine .then (.then (.rK (.ghs (fr 25 [(0,Sl.v 1 s1),(3,zI z1),(4,zI z2),(15,(zB (AY z2 (Int.ofNat (Sl.n s1)))))]) (hp 0 []) (.k0 [] [] [0,3,4,15]) ?_)))
  replace hm:=Ag hm;rcases hm with⟨h2,hm⟩ | ⟨h2,hm⟩
  ·refine A7 (AY z2 (Int.ofNat (Sl.n s1))) h2 ?_
   refine .skip (.ghs (fr 25 [(0,Sl.v 1 s1),(3,zI z1),(4,zI z2)]) (hp 0 []) (.k0 [] [] [0,3,4]) ?_)
   refine .then (.block ?_)
   replace hm:=Ab hm;obtain⟨k1,h3,hm⟩:=hm
   obtain rfl:=AR h3
   replace hm:=Ae hm;obtain⟨h4,hm⟩:=hm
   replace hm:=Dn hm;obtain⟨x1,h5,hm⟩:=hm
   refine .reg (eC 3 (keep (hp 0 []) (bb (an (Nat.blt k1 (Sl.n s1)) true) (some (Cv (k1*1) (Sl.cs s1))) none)) (AX h4) (eD (keep (hp 0 []) (AL (Sl.cs s1) (k1*1))) (AZ h5) (eE))) ?_
   refine .ghs (fr 25 [(0,Sl.v 1 s1),(3,(zI (bb (AY x1 z1) x1 z1))),(4,(zI (Int.ofNat k1)))]) (hp 0 []) (.k0 [] [] [0,3,4]) ?_
   refine .rK ?_
   exact⟨(s1,(bb (AY x1 z1) x1 z1),(Aj .i64 (Int.add (Int.ofNat k1) (1:Int)))),hm,(.k0 [] [] [0,3,4])⟩
  ·refine Bp (AY z2 (Int.ofNat (Sl.n s1))) h2 ?_
   refine .exit ?_
   exact⟨z1,hm,(.k0 [] [] [3])⟩
theorem r67 {call:A8} (pu:Af) (n:Nat) (hcall:call=Bb tabs isP pu (inl pu)) {args:LV} {v:Value} (hm:m67 pu n args=some v) (_:∀ x∈args,closed2 x=true):args.length≤25∧BN tt call 0 O0 (Fr.made 25 args) (Ao tabs) (Fin tt 0 [.tmp 2] v):=by
 subst hcall
 unfold m67 at hm
 replace hm:=Ad hm;obtain⟨a0,args_0,rfl,hm⟩:=hm
 replace hm:=AC hm;obtain⟨rfl,hm⟩:=hm
 replace hm:=Al hm;obtain⟨s0,rfl,hm⟩:=hm
 unfold AeZ at hm
 refine⟨by simp,?_⟩
 refine .same (F':=(fr 25 [(0,Sl.v 1 s0)])) (H':=(hp 0 [])) (by kernel_rfl) (by kernel_rfl) ?_
 refine .then (.rK (.ghs (fr 25 [(0,Sl.v 1 s0)]) (hp 0 []) (.k0 [] [] [0]) ?_))
 refine .join (v:=v) (fun y:Sl=>((fr 25 [(0,Sl.v 1 y)]),(hp 0 []))) (fun y=>Uf pu n y) ?_ ?_
 ·rintro s1 hm
  exact Ae1 pu n s1 hm
 ·refine .then (.rK (.ghs (fr 25 [(0,Sl.v 1 s0),(7,(zB (AY (Int.ofNat (Sl.n s0)) (1:Int))))]) (hp 0 []) (.k0 [] [] [0,7]) ?_))
  replace hm:=Ag hm;rcases hm with⟨h0,hm⟩ | ⟨h0,hm⟩
  ·refine A7 (AY (Int.ofNat (Sl.n s0)) (1:Int)) h0 ?_
   cases hm
  ·refine Bp (AY (Int.ofNat (Sl.n s0)) (1:Int)) h0 ?_
   refine .skip ?_
   exact⟨s0,hm,(.k0 [] [] [0])⟩
end
end Go.TpMM
