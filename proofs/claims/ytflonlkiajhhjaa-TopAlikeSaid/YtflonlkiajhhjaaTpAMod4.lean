/- Made from wip. -/
import Derived.Test.YtflonlkiajhhjaaTpAMod1x

set_option maxRecDepth 100000
set_option maxHeartbeats 20000000
set_option linter.unusedVariables false
namespace Go.TpAM
open Go.Sp Go.TpA
noncomputable section
def Ue (pu:Af) (n:Nat) (b0:Bool):OV:=
 (bb b0 (some (.int .i64 (1:Int))) (some (.int .i64 (0:Int))))
def AcR (pu:Af) (n:Nat) (p0:Db) (s0:Sl):OV:=
 (oo (AL (Db.cs p0) (((Db.off p0)+0)+0)) none fun v0=>(oo (Bi .i64 v0) none fun x0=>(oo (AL (Db.cs p0) (((Db.off p0)+0)+1)) none fun v1=>(oo (Bi .i64 v1) none fun x1=>(bb (nt (Bd (Int.ofNat (Sl.n s0)) (Aj .i64 (Int.mul x0 x1)))) (some (.int .i64 (5:Int))) (oo (pu 67 [Sl.v 1 s0]) none fun v2=>(oo (Bi .i64 v2) none fun x2=>(bb (AY x2 (0:Int)) (Ue pu n true) (oo (AL (Db.cs p0) (((Db.off p0)+0)+2)) none fun v3=>(oo (Bi .i64 v3) none fun x3=>(oo (pu 50 [Sl.v 1 s0]) none fun v4=>(oo (Bi .i64 v4) none fun x4=>(Ue pu n (nt (AY x4 x3)))))))))))))))
def m43 (pu:Af) (n:Nat) (args:LV):OV:=
 (ll args none fun a0 args=>(ll args none fun a1 args=>(ll args (oo (Pv a0) none fun p0=>(oo (Bj 1 a1) none fun s0=>(AcR pu n p0 s0))) fun _ _=>none)))
theorem r43 {call:A8} (pu:Af) (n:Nat) (hcall:call=Bb tabs isP pu (inl pu)) {args:LV} {v:Value} (hm:m43 pu n args=some v) (_:∀ x∈args,closed2 x=true):args.length≤34∧BN tt call 0 Pm (Fr.made 34 args) (Ao tabs) (Fin tt 0 [.tmp 4] v):=by
 subst hcall
 unfold m43 at hm
 replace hm:=Ad hm;obtain⟨a0,args_0,rfl,hm⟩:=hm
 replace hm:=Ad hm;obtain⟨a1,args_1,rfl,hm⟩:=hm
 replace hm:=AC hm;obtain⟨rfl,hm⟩:=hm
 replace hm:=Ab hm;obtain⟨p0,h0,hm⟩:=hm
 obtain rfl:=F7 h0
 replace hm:=Al hm;obtain⟨s0,rfl,hm⟩:=hm
 unfold AcR at hm
 refine⟨by simp,?_⟩
 refine .same (F':=(fr 34 [(0,(Cv (Db.off p0) (Db.cs p0))),(1,Sl.v 1 s0)])) (H':=(hp 0 [])) (by kernel_rfl) (by kernel_rfl) ?_
 refine .then (.rK (.ghs (fr 34 [(0,(Cv (Db.off p0) (Db.cs p0))),(1,Sl.v 1 s0)]) (hp 0 []) (.k0 [] [] [0,1]) ?_))
 refine .then (.block (.then ?_))
 replace hm:=Hw hm;obtain⟨x0,h1,hm⟩:=hm
 replace hm:=Hw hm;obtain⟨x1,h2,hm⟩:=hm
 refine .reg (eC 6 (keep (hp 0 []) (AL (Db.cs p0) (((Db.off p0)+0)+0))) (AZ h1) (eC 4 (keep (hp 0 []) (AL (Db.cs p0) (((Db.off p0)+0)+1))) (AZ h2) (eE))) ?_
 refine .ghs (fr 34 [(0,(Cv (Db.off p0) (Db.cs p0))),(1,Sl.v 1 s0),(5,(zB (nt (Bd (Int.ofNat (Sl.n s0)) (Aj .i64 (Int.mul x0 x1))))))]) (hp 0 []) (.k0 [] [] [0,1,5]) ?_
 replace hm:=Ag hm;rcases hm with⟨h3,hm⟩ | ⟨h3,hm⟩
 ·refine Cs (nt (Bd (Int.ofNat (Sl.n s0)) (Aj .i64 (Int.mul x0 x1)))) h3 ?_
  refine .then (.rK (.ghs (fr 34 [(4,(zI (5:Int)))]) (hp 0 []) (.k0 [] [] [4]) ?_))
  refine .ret ?_
  exact Bp (zI (5:Int)) hm
 ·refine CY (nt (Bd (Int.ofNat (Sl.n s0)) (Aj .i64 (Int.mul x0 x1)))) h3 ?_
  refine .join (v:=v) (fun y:Bool=>((fr 34 [(20,zB y)]),(hp 0 []))) (fun y=>Ue pu n y) ?_ ?_
  ·rintro b0 hm
   unfold Ue at hm
   replace hm:=Ag hm;rcases hm with⟨h4,hm⟩ | ⟨h4,hm⟩
   ·refine .ifT b0 (by kernel_rfl) h4 ?_
    refine .then (.rK (.ghs (fr 34 [(4,(zI (1:Int)))]) (hp 0 []) (.k0 [] [] [4]) ?_))
    refine .ret ?_
    exact Bp (zI (1:Int)) hm
   ·refine .ifF b0 (by kernel_rfl) h4 ?_
    refine .skip (.ghs (fr 34 []) (hp 0 []) (.k0 [] [] []) ?_)
    refine .then (.rK (.ghs (fr 34 [(4,(zI (0:Int)))]) (hp 0 []) (.k0 [] [] [4]) ?_))
    refine .ret ?_
    exact Bp (zI (0:Int)) hm
  ·replace hm:=Hw hm;obtain⟨x2,h5,hm⟩:=hm
   replace hm:=Ag hm;rcases hm with⟨h6,hm⟩ | ⟨h6,hm⟩
   ·refine .reg (eC 1 ((oo (pu 67 [Sl.v 1 s0]) none fun v=>some (v,(hp 0 [])))) (AB h5) (eD (some ((zB (AY x2 (0:Int))),(hp 0 []))) (show _=some ((zB true),_) from (by rw[show (AY x2 (0:Int))=true from h6])) (eE))) ?_
    exact⟨true,hm,(.k0 [] [] [20])⟩
   ·replace hm:=Hw hm;obtain⟨x3,h7,hm⟩:=hm
    replace hm:=Hw hm;obtain⟨x4,h8,hm⟩:=hm
    refine .reg (eC 1 ((oo (pu 67 [Sl.v 1 s0]) none fun v=>some (v,(hp 0 [])))) (AB h5) (eD (some ((zB (AY x2 (0:Int))),(hp 0 []))) (show _=some ((zB false),_) from (by rw[show (AY x2 (0:Int))=false from h6])) (eC 6 (keep (hp 0 []) (AL (Db.cs p0) (((Db.off p0)+0)+2))) (AZ h7) (eD ((oo (pu 50 [Sl.v 1 s0]) none fun v=>some (v,(hp 0 [])))) (AB h8) (eE))))) ?_
    exact⟨(nt (AY x4 x3)),hm,(.k0 [] [] [20])⟩
def Uf (pu:Af) (n:Nat) (s0 s1:Sl):OV:=
 (bb (AY (Int.ofNat (Sl.n s0)) (Int.ofNat (Sl.n s1))) (some (.int .i64 (-1:Int))) (some (.int .i64 (0:Int))))
def Wy (pu:Af) (n:Nat) (ih0:Sl→Sl→Sl→Int→Int→OV) (s0 s1 s2:Sl) (z0 z1:Int):OV:=
 (bb (AY z1 z0) (oo (EA z1) none fun k1=>(bb (an (Nat.blt k1 (Sl.n s2)) true) (oo (AL (Sl.cs s2) (k1*1)) none fun v0=>(oo (Bi .i64 v0) none fun x0=>(bb (nt (AY (Int.ofNat k1) (Int.ofNat (Sl.n s1)))) (some (.int .i64 (1:Int))) (bb (an (Nat.blt k1 (Sl.n s1)) true) (oo (AL (Sl.cs s1) (k1*1)) none fun v1=>(oo (Bi .i64 v1) none fun x1=>(oo (pu 70 [.int .i64 x0,.int .i64 x1]) none fun v2=>(oo (Bi .i64 v2) none fun x2=>(bb (nt (Bd x2 (0:Int))) (some (.int .i64 x2)) (ih0 s0 s1 s2 z0 (Aj .i64 (Int.add (Int.ofNat k1) (1:Int))))))))) none)))) none)) (Uf pu n s0 s1))
def Wz (pu:Af) (n w:Nat):Sl→Sl→Sl→Int→Int→OV:=
 Nat.rec (motive:=fun _=>Sl→Sl→Sl→Int→Int→OV) (fun _ _ _ _ _=>none) (fun _ ih0=>Wy pu n ih0) w
def AcS (pu:Af) (n:Nat) (s0 s1:Sl):OV:=
 (Wz pu n n s0 s1 s0 (Int.ofNat (Sl.n s0)) (0:Int))
def m45 (pu:Af) (n:Nat) (args:LV):OV:=
 (ll args none fun a0 args=>(ll args none fun a1 args=>(ll args (oo (Bj 1 a0) none fun s0=>(oo (Bj 1 a1) none fun s1=>(AcS pu n s0 s1))) fun _ _=>none)))
theorem AcT (pu:Af) (n:Nat) (s0 s1:Sl) {v:Value} (hm:Uf pu n s0 s1=some v):BN tt (Bb tabs isP pu (inl pu)) 0 UH (fr 36 [(0,Sl.v 1 s0),(1,Sl.v 1 s1)]) (hp 0 []) (Fin tt 0 [.tmp 4] v):=by
 unfold Uf at hm
 refine .then (.then (.rK (.ghs (fr 36 [(35,(zB (AY (Int.ofNat (Sl.n s0)) (Int.ofNat (Sl.n s1)))))]) (hp 0 []) (.k0 [] [] [35]) ?_)))
 replace hm:=Ag hm;rcases hm with⟨h0,hm⟩ | ⟨h0,hm⟩
 ·refine Cs (AY (Int.ofNat (Sl.n s0)) (Int.ofNat (Sl.n s1))) h0 ?_
  refine .then (.rK (.ghs (fr 36 [(4,(zI (-1:Int)))]) (hp 0 []) (.k0 [] [] [4]) ?_))
  refine .ret ?_
  exact Bp (zI (-1:Int)) hm
 ·refine CY (AY (Int.ofNat (Sl.n s0)) (Int.ofNat (Sl.n s1))) h0 ?_
  refine .skip (.ghs (fr 36 []) (hp 0 []) (.k0 [] [] []) ?_)
  refine .then (.rK (.ghs (fr 36 [(4,(zI (0:Int)))]) (hp 0 []) (.k0 [] [] [4]) ?_))
  refine .ret ?_
  exact Bp (zI (0:Int)) hm
theorem r45 {call:A8} (pu:Af) (n:Nat) (hcall:call=Bb tabs isP pu (inl pu)) {args:LV} {v:Value} (hm:m45 pu n args=some v) (_:∀ x∈args,closed2 x=true):args.length≤36∧BN tt call 0 Pn (Fr.made 36 args) (Ao tabs) (Fin tt 0 [.tmp 4] v):=by
 subst hcall
 unfold m45 at hm
 replace hm:=Ad hm;obtain⟨a0,args_0,rfl,hm⟩:=hm
 replace hm:=Ad hm;obtain⟨a1,args_1,rfl,hm⟩:=hm
 replace hm:=AC hm;obtain⟨rfl,hm⟩:=hm
 replace hm:=Al hm;obtain⟨s0,rfl,hm⟩:=hm
 replace hm:=Al hm;obtain⟨s1,rfl,hm⟩:=hm
 unfold AcS at hm
 refine⟨by simp,?_⟩
 refine .same (F':=(fr 36 [(0,Sl.v 1 s0),(1,Sl.v 1 s1)])) (H':=(hp 0 [])) (by kernel_rfl) (by kernel_rfl) ?_
 refine .then (.rK (.ghs (fr 36 [(0,Sl.v 1 s0),(1,Sl.v 1 s1)]) (hp 0 []) (.k0 [] [] [0,1]) ?_))
 refine .join (v:=v) (fun y:Sl×Sl=>((fr 36 [(0,(Sl.v 1 y.1)),(1,(Sl.v 1 y.2))]),(hp 0 []))) (fun y=>Uf pu n y.1 y.2) ?_ ?_
 ·rintro⟨s2,s3⟩ hm
  exact AcT pu n s2 s3 hm
 ·refine .then (.rK (.ghs (fr 36 [(0,Sl.v 1 s0),(1,Sl.v 1 s1),(9,Sl.v 1 s0),(10,(zI (Int.ofNat (Sl.n s0)))),(11,(zI (0:Int)))]) (hp 0 []) (.k0 [] [] [0,1,9,10,11]) ?_))
  refine .block (.loopM (v:=v) (fun y:Sl×Sl×Sl×Int×Int=>((fr 36 [(0,(Sl.v 1 y.1)),(1,(Sl.v 1 y.2.1)),(9,(Sl.v 1 y.2.2.1)),(10,(zI y.2.2.2.1)),(11,(zI y.2.2.2.2))]),(hp 0 []))) (fun w y=>Wz pu n w y.1 y.2.1 y.2.2.1 y.2.2.2.1 y.2.2.2.2) n ⟨(s0,s1,s0,(Int.ofNat (Sl.n s0)),(0:Int)),hm,(.k0 [] [] [0,1,9,10,11])⟩ (fun _=>rfl) ?_)
  rintro w0 ⟨s4,s5,s6,z0,z1⟩ hm
  replace hm:Wy pu n (Wz pu n w0) s4 s5 s6 z0 z1=some v:=hm
  unfold Wy at hm
  refine .then (.rK (.ghs (fr 36 [(0,Sl.v 1 s4),(1,Sl.v 1 s5),(9,Sl.v 1 s6),(10,zI z0),(11,zI z1),(12,(zB (AY z1 z0)))]) (hp 0 []) (.k0 [] [] [0,1,9,10,11,12]) ?_))
  refine .then ?_
  replace hm:=Ag hm;rcases hm with⟨h0,hm⟩ | ⟨h0,hm⟩
  ·refine Cs (AY z1 z0) h0 ?_
   refine .skip (.ghs (fr 36 [(0,Sl.v 1 s4),(1,Sl.v 1 s5),(9,Sl.v 1 s6),(10,zI z0),(11,zI z1)]) (hp 0 []) (.k0 [] [] [0,1,9,10,11]) ?_)
   refine .then (.block (.then ?_))
   replace hm:=Ab hm;obtain⟨k1,h1,hm⟩:=hm
   obtain rfl:=AR h1
   replace hm:=Ae hm;obtain⟨h2,hm⟩:=hm
   replace hm:=Hw hm;obtain⟨x0,h3,hm⟩:=hm
   refine .reg (eC 1 (keep (hp 0 []) (bb (an (Nat.blt k1 (Sl.n s6)) true) (some (Cv (k1*1) (Sl.cs s6))) none)) (AX h2) (eD (keep (hp 0 []) (AL (Sl.cs s6) (k1*1))) (AZ h3) (eE))) ?_
   refine .ghs (fr 36 [(0,Sl.v 1 s4),(1,Sl.v 1 s5),(5,(zI (Int.ofNat k1))),(6,zI x0),(9,Sl.v 1 s6),(10,zI z0),(11,(zI (Int.ofNat k1)))]) (hp 0 []) (.k0 [] [] [0,1,5,6,9,10,11]) ?_
   refine .then (.then (.rK (.ghs (fr 36 [(0,Sl.v 1 s4),(1,Sl.v 1 s5),(5,(zI (Int.ofNat k1))),(6,zI x0),(9,Sl.v 1 s6),(10,zI z0),(11,(zI (Int.ofNat k1))),(19,(zB (nt (AY (Int.ofNat k1) (Int.ofNat (Sl.n s5))))))]) (hp 0 []) (.k0 [] [] [0,1,5,6,9,10,11,19]) ?_)))
   replace hm:=Ag hm;rcases hm with⟨h4,hm⟩ | ⟨h4,hm⟩
   ·refine Cs (nt (AY (Int.ofNat k1) (Int.ofNat (Sl.n s5)))) h4 ?_
    refine .then (.rK (.ghs (fr 36 [(4,(zI (1:Int)))]) (hp 0 []) (.k0 [] [] [4]) ?_))
    refine .ret ?_
    exact Bp (zI (1:Int)) hm
   ·refine CY (nt (AY (Int.ofNat k1) (Int.ofNat (Sl.n s5)))) h4 ?_
    refine .skip (.ghs (fr 36 [(0,Sl.v 1 s4),(1,Sl.v 1 s5),(5,(zI (Int.ofNat k1))),(6,zI x0),(9,Sl.v 1 s6),(10,zI z0),(11,(zI (Int.ofNat k1)))]) (hp 0 []) (.k0 [] [] [0,1,5,6,9,10,11]) ?_)
    refine .then ?_
    replace hm:=Ae hm;obtain⟨h5,hm⟩:=hm
    replace hm:=Hw hm;obtain⟨x1,h6,hm⟩:=hm
    refine .reg (eC 2 (keep (hp 0 []) (bb (an (Nat.blt k1 (Sl.n s5)) true) (some (Cv (k1*1) (Sl.cs s5))) none)) (AX h5) (eD (keep (hp 0 []) (AL (Sl.cs s5) (k1*1))) (AZ h6) (eE))) ?_
    refine .ghs (fr 36 [(0,Sl.v 1 s4),(1,Sl.v 1 s5),(6,zI x0),(7,zI x1),(9,Sl.v 1 s6),(10,zI z0),(11,(zI (Int.ofNat k1)))]) (hp 0 []) (.k0 [] [] [0,1,6,7,9,10,11]) ?_
    refine .then ?_
    replace hm:=Hw hm;obtain⟨x2,h7,hm⟩:=hm
    refine .reg (eC 2 ((oo (pu 70 [zI x0,zI x1]) none fun v=>some (v,(hp 0 [])))) (AB h7) (eE)) ?_
    refine .ghs (fr 36 [(0,Sl.v 1 s4),(1,Sl.v 1 s5),(8,zI x2),(9,Sl.v 1 s6),(10,zI z0),(11,(zI (Int.ofNat k1)))]) (hp 0 []) (.k0 [] [] [0,1,8,9,10,11]) ?_
    refine .then (.rK (.ghs (fr 36 [(0,Sl.v 1 s4),(1,Sl.v 1 s5),(8,zI x2),(9,Sl.v 1 s6),(10,zI z0),(11,(zI (Int.ofNat k1))),(28,(zB (nt (Bd x2 (0:Int)))))]) (hp 0 []) (.k0 [] [] [0,1,8,9,10,11,28]) ?_))
    replace hm:=Ag hm;rcases hm with⟨h8,hm⟩ | ⟨h8,hm⟩
    ·refine Cs (nt (Bd x2 (0:Int))) h8 ?_
     refine .then (.rK (.ghs (fr 36 [(4,zI x2)]) (hp 0 []) (.k0 [] [] [4]) ?_))
     refine .ret ?_
     exact Bp (zI x2) hm
    ·refine CY (nt (Bd x2 (0:Int))) h8 ?_
     refine .skip (.ghs (fr 36 [(0,Sl.v 1 s4),(1,Sl.v 1 s5),(9,Sl.v 1 s6),(10,zI z0),(11,(zI (Int.ofNat k1)))]) (hp 0 []) (.k0 [] [] [0,1,9,10,11]) ?_)
     refine .rK ?_
     exact⟨(s4,s5,s6,z0,(Aj .i64 (Int.add (Int.ofNat k1) (1:Int)))),hm,(.k0 [] [] [0,1,9,10,11])⟩
  ·refine CY (AY z1 z0) h0 ?_
   refine .exit ?_
   exact⟨(s4,s5),hm,(.k0 [] [] [0,1])⟩
def Ug (pu:Af) (n:Nat):OV:=
 (some (.bool true))
def WA (pu:Af) (n:Nat) (ih0:Sl→Sl→Int→Int→OV) (s0 s1:Sl) (z0 z1:Int):OV:=
 (bb (AY z1 z0) (oo (EA z1) none fun k1=>(bb (an (Nat.blt k1 (Sl.n s0)) true) (oo (AL (Sl.cs s0) (k1*1)) none fun v0=>(oo (Bi .i64 v0) none fun x0=>(bb (an (Nat.blt k1 (Sl.n s1)) true) (oo (AL (Sl.cs s1) (k1*1)) none fun v1=>(oo (Bi .i64 v1) none fun x1=>(bb (nt (Bd x0 x1)) (some (.bool false)) (ih0 s0 s1 z0 (Aj .i64 (Int.add (Int.ofNat k1) (1:Int))))))) none))) none)) (Ug pu n))
def WB (pu:Af) (n w:Nat):Sl→Sl→Int→Int→OV:=
 Nat.rec (motive:=fun _=>Sl→Sl→Int→Int→OV) (fun _ _ _ _=>none) (fun _ ih0=>WA pu n ih0) w
def AcU (pu:Af) (n:Nat) (s0 s1:Sl):OV:=
 (bb (nt (Bd (Int.ofNat (Sl.n s0)) (Int.ofNat (Sl.n s1)))) (some (.bool false)) (WB pu n n s0 s1 (Int.ofNat (Sl.n s0)) (0:Int)))
def m47 (pu:Af) (n:Nat) (args:LV):OV:=
 (ll args none fun a0 args=>(ll args none fun a1 args=>(ll args (oo (Bj 1 a0) none fun s0=>(oo (Bj 1 a1) none fun s1=>(AcU pu n s0 s1))) fun _ _=>none)))
theorem AcV (pu:Af) (n:Nat) {v:Value} (hm:Ug pu n=some v):BN tt (Bb tabs isP pu (inl pu)) 0 UI (fr 26 []) (hp 0 []) (Fin tt 0 [.tmp 4] v):=by
 unfold Ug at hm
 refine .then (.rK (.ghs (fr 26 [(4,zB true)]) (hp 0 []) (.k0 [] [] [4]) ?_))
 refine .ret ?_
 exact Bp (zB true) hm
theorem r47 {call:A8} (pu:Af) (n:Nat) (hcall:call=Bb tabs isP pu (inl pu)) {args:LV} {v:Value} (hm:m47 pu n args=some v) (_:∀ x∈args,closed2 x=true):args.length≤26∧BN tt call 0 Po (Fr.made 26 args) (Ao tabs) (Fin tt 0 [.tmp 4] v):=by
 subst hcall
 unfold m47 at hm
 replace hm:=Ad hm;obtain⟨a0,args_0,rfl,hm⟩:=hm
 replace hm:=Ad hm;obtain⟨a1,args_1,rfl,hm⟩:=hm
 replace hm:=AC hm;obtain⟨rfl,hm⟩:=hm
 replace hm:=Al hm;obtain⟨s0,rfl,hm⟩:=hm
 replace hm:=Al hm;obtain⟨s1,rfl,hm⟩:=hm
 unfold AcU at hm
 refine⟨by simp,?_⟩
 refine .same (F':=(fr 26 [(0,Sl.v 1 s0),(1,Sl.v 1 s1)])) (H':=(hp 0 [])) (by kernel_rfl) (by kernel_rfl) ?_
 refine .then (.rK (.ghs (fr 26 [(0,Sl.v 1 s0),(1,Sl.v 1 s1)]) (hp 0 []) (.k0 [] [] [0,1]) ?_))
 refine .then (.then (.rK (.ghs (fr 26 [(0,Sl.v 1 s0),(1,Sl.v 1 s1),(10,(zB (nt (Bd (Int.ofNat (Sl.n s0)) (Int.ofNat (Sl.n s1))))))]) (hp 0 []) (.k0 [] [] [0,1,10]) ?_)))
 replace hm:=Ag hm;rcases hm with⟨h0,hm⟩ | ⟨h0,hm⟩
 ·refine Cs (nt (Bd (Int.ofNat (Sl.n s0)) (Int.ofNat (Sl.n s1)))) h0 ?_
  refine .then (.rK (.ghs (fr 26 [(4,zB false)]) (hp 0 []) (.k0 [] [] [4]) ?_))
  refine .ret ?_
  exact Bp (zB false) hm
 ·refine CY (nt (Bd (Int.ofNat (Sl.n s0)) (Int.ofNat (Sl.n s1)))) h0 ?_
  refine .skip (.ghs (fr 26 [(0,Sl.v 1 s0),(1,Sl.v 1 s1)]) (hp 0 []) (.k0 [] [] [0,1]) ?_)
  refine .join (v:=v) (fun y:Unit=>((fr 26 []),(hp 0 []))) (fun y=>Ug pu n) ?_ ?_
  ·rintro _ hm
   exact AcV pu n hm
  ·refine .then (.rK (.ghs (fr 26 [(0,Sl.v 1 s0),(1,Sl.v 1 s1),(12,(zI (Int.ofNat (Sl.n s0)))),(13,(zI (0:Int)))]) (hp 0 []) (.k0 [] [] [0,1,12,13]) ?_))
   refine .block (.loopM (v:=v) (fun y:Sl×Sl×Int×Int=>((fr 26 [(0,(Sl.v 1 y.1)),(1,(Sl.v 1 y.2.1)),(12,(zI y.2.2.1)),(13,(zI y.2.2.2))]),(hp 0 []))) (fun w y=>WB pu n w y.1 y.2.1 y.2.2.1 y.2.2.2) n ⟨(s0,s1,(Int.ofNat (Sl.n s0)),(0:Int)),hm,(.k0 [] [] [0,1,12,13])⟩ (fun _=>rfl) ?_)
   rintro w0 ⟨s2,s3,z0,z1⟩ hm
   replace hm:WA pu n (WB pu n w0) s2 s3 z0 z1=some v:=hm
   unfold WA at hm
   refine .then (.rK (.ghs (fr 26 [(0,Sl.v 1 s2),(1,Sl.v 1 s3),(12,zI z0),(13,zI z1),(14,(zB (AY z1 z0)))]) (hp 0 []) (.k0 [] [] [0,1,12,13,14]) ?_))
   refine .then ?_
   replace hm:=Ag hm;rcases hm with⟨h1,hm⟩ | ⟨h1,hm⟩
   ·refine Cs (AY z1 z0) h1 ?_
    refine .skip (.ghs (fr 26 [(0,Sl.v 1 s2),(1,Sl.v 1 s3),(12,zI z0),(13,zI z1)]) (hp 0 []) (.k0 [] [] [0,1,12,13]) ?_)
    refine .then (.block (.then (.rK (.ghs (fr 26 [(0,Sl.v 1 s2),(1,Sl.v 1 s3),(5,zI z1),(12,zI z0),(13,zI z1)]) (hp 0 []) (.k0 [] [] [0,1,5,12,13]) ?_))))
    refine .then ?_
    replace hm:=Ab hm;obtain⟨k1,h2,hm⟩:=hm
    obtain rfl:=AR h2
    replace hm:=Ae hm;obtain⟨h3,hm⟩:=hm
    replace hm:=Hw hm;obtain⟨x0,h4,hm⟩:=hm
    replace hm:=Ae hm;obtain⟨h5,hm⟩:=hm
    replace hm:=Hw hm;obtain⟨x1,h6,hm⟩:=hm
    refine .reg (eC 2 (keep (hp 0 []) (bb (an (Nat.blt k1 (Sl.n s2)) true) (some (Cv (k1*1) (Sl.cs s2))) none)) (AX h3) (eD (keep (hp 0 []) (AL (Sl.cs s2) (k1*1))) (AZ h4) (eC 2 (keep (hp 0 []) (bb (an (Nat.blt k1 (Sl.n s3)) true) (some (Cv (k1*1) (Sl.cs s3))) none)) (AX h5) (eD (keep (hp 0 []) (AL (Sl.cs s3) (k1*1))) (AZ h6) (eE))))) ?_
    refine .ghs (fr 26 [(0,Sl.v 1 s2),(1,Sl.v 1 s3),(12,zI z0),(13,(zI (Int.ofNat k1))),(24,(zB (nt (Bd x0 x1))))]) (hp 0 []) (.k0 [] [] [0,1,12,13,24]) ?_
    replace hm:=Ag hm;rcases hm with⟨h7,hm⟩ | ⟨h7,hm⟩
    ·refine Cs (nt (Bd x0 x1)) h7 ?_
     refine .then (.rK (.ghs (fr 26 [(4,zB false)]) (hp 0 []) (.k0 [] [] [4]) ?_))
     refine .ret ?_
     exact Bp (zB false) hm
    ·refine CY (nt (Bd x0 x1)) h7 ?_
     refine .skip (.ghs (fr 26 [(0,Sl.v 1 s2),(1,Sl.v 1 s3),(12,zI z0),(13,(zI (Int.ofNat k1)))]) (hp 0 []) (.k0 [] [] [0,1,12,13]) ?_)
     refine .rK ?_
     exact⟨(s2,s3,z0,(Aj .i64 (Int.add (Int.ofNat k1) (1:Int)))),hm,(.k0 [] [] [0,1,12,13])⟩
   ·refine CY (AY z1 z0) h1 ?_
    refine .exit ?_
    exact⟨(),hm,(.k0 [] [] [])⟩
def QK (pu:Af) (n:Nat) (b0:Bool):OV:=
 (some (.bool b0))
def AcW (pu:Af) (n:Nat) (x0:Int):OV:=
 (bb (AY x0 (0:Int)) (QK pu n true) (QK pu n (AY (3:Int) x0)))
def m49 (pu:Af) (n:Nat) (args:LV):OV:=
 (ll args none fun a0 args=>(ll args (oo (Bi .i64 a0) none fun x0=>(AcW pu n x0)) fun _ _=>none))
theorem AcX (pu:Af) (n:Nat) (b0:Bool) {v:Value} (hm:QK pu n b0=some v):BN tt (Bb tabs isP pu (inl pu)) 0 .ret (fr 9 [(2,zB b0)]) (hp 0 []) (Fin tt 0 [.tmp 2] v):=by
 unfold QK at hm
 refine .ret ?_
 exact Bp (zB b0) hm
theorem r49 {call:A8} (pu:Af) (n:Nat) (hcall:call=Bb tabs isP pu (inl pu)) {args:LV} {v:Value} (hm:m49 pu n args=some v) (_:∀ x∈args,closed2 x=true):args.length≤9∧BN tt call 0 Sb (Fr.made 9 args) (Ao tabs) (Fin tt 0 [.tmp 2] v):=by
 subst hcall
 unfold m49 at hm
 replace hm:=Ad hm;obtain⟨a0,args_0,rfl,hm⟩:=hm
 replace hm:=AC hm;obtain⟨rfl,hm⟩:=hm
 replace hm:=Ai hm;obtain⟨x0,rfl,hm⟩:=hm
 unfold AcW at hm
 refine⟨by simp,?_⟩
 refine .same (F':=(fr 9 [(0,zI x0)])) (H':=(hp 0 [])) (by kernel_rfl) (by kernel_rfl) ?_
 refine .then (.rK (.ghs (fr 9 [(0,zI x0)]) (hp 0 []) (.k0 [] [] [0]) ?_))
 refine .join (v:=v) (fun y:Bool=>((fr 9 [(2,zB y)]),(hp 0 []))) (fun y=>QK pu n y) ?_ ?_
 ·rintro b0 hm
  exact AcX pu n b0 hm
 ·replace hm:=Ag hm;rcases hm with⟨h0,hm⟩ | ⟨h0,hm⟩
  ·refine .reg (eC 1 (some ((zB (AY x0 (0:Int))),(hp 0 []))) (show _=some ((zB true),_) from (by rw[show (AY x0 (0:Int))=true from h0])) (eE)) ?_
   exact⟨true,hm,(.k0 [] [] [2])⟩
  ·refine .reg (eC 1 (some ((zB (AY x0 (0:Int))),(hp 0 []))) (show _=some ((zB false),_) from (by rw[show (AY x0 (0:Int))=false from h0])) (eE)) ?_
   exact⟨(AY (3:Int) x0),hm,(.k0 [] [] [2])⟩
def Uh (pu:Af) (n:Nat) (z0:Int):OV:=
 (some (.int .i64 z0))
def WC (pu:Af) (n:Nat) (ih0:Sl→Int→Int→OV) (s0:Sl) (z0 z1:Int):OV:=
 (bb (AY z1 (Int.ofNat (Sl.n s0))) (oo (EA z1) none fun k1=>(bb (an (Nat.blt k1 (Sl.n s0)) true) (oo (AL (Sl.cs s0) (k1*1)) none fun v0=>(oo (Bi .i64 v0) none fun x0=>(ih0 s0 (bb (AY z0 x0) x0 z0) (Aj .i64 (Int.add (Int.ofNat k1) (1:Int)))))) none)) (Uh pu n z0))
def WE (pu:Af) (n w:Nat):Sl→Int→Int→OV:=
 Nat.rec (motive:=fun _=>Sl→Int→Int→OV) (fun _ _ _=>none) (fun _ ih0=>WC pu n ih0) w
def Ui (pu:Af) (n:Nat) (s0:Sl):OV:=
 (bb (an (Nat.blt 0 (Sl.n s0)) true) (oo (AL (Sl.cs s0) (0*1)) none fun v0=>(oo (Bi .i64 v0) none fun x0=>(WE pu n n s0 x0 (1:Int)))) none)
def AcY (pu:Af) (n:Nat) (s0:Sl):OV:=
 (bb (AY (Int.ofNat (Sl.n s0)) (1:Int)) none (Ui pu n s0))
def m50 (pu:Af) (n:Nat) (args:LV):OV:=
 (ll args none fun a0 args=>(ll args (oo (Bj 1 a0) none fun s0=>(AcY pu n s0)) fun _ _=>none))
theorem AcZ (pu:Af) (n:Nat) (z0:Int) {v:Value} (hm:Uh pu n z0=some v):BN tt (Bb tabs isP pu (inl pu)) 0 UJ (fr 25 [(3,zI z0)]) (hp 0 []) (Fin tt 0 [.tmp 2] v):=by
 unfold Uh at hm
 refine .then (.rK (.ghs (fr 25 [(2,zI z0)]) (hp 0 []) (.k0 [] [] [2]) ?_))
 refine .ret ?_
 exact Bp (zI z0) hm
theorem Ac0 (pu:Af) (n:Nat) (s0:Sl) {v:Value} (hm:Ui pu n s0=some v):BN tt (Bb tabs isP pu (inl pu)) 0 UK (fr 25 [(0,Sl.v 1 s0)]) (hp 0 []) (Fin tt 0 [.tmp 2] v):=by
 unfold Ui at hm
 refine .then ?_
 replace hm:=Ae hm;obtain⟨h0,hm⟩:=hm
 replace hm:=Hw hm;obtain⟨x0,h1,hm⟩:=hm
 refine .reg (eC 1 (keep (hp 0 []) (bb (an (Nat.blt 0 (Sl.n s0)) true) (some (Cv (0*1) (Sl.cs s0))) none)) (AX h0) (eD (keep (hp 0 []) (AL (Sl.cs s0) (0*1))) (AZ h1) (eE))) ?_
 refine .ghs (fr 25 [(0,Sl.v 1 s0),(3,zI x0)]) (hp 0 []) (.k0 [] [] [0,3]) ?_
 refine .join (v:=v) (fun y:Int=>((fr 25 [(3,zI y)]),(hp 0 []))) (fun y=>Uh pu n y) ?_ ?_
 ·rintro z0 hm
  exact AcZ pu n z0 hm
 ·refine .then (.rK (.ghs (fr 25 [(0,Sl.v 1 s0),(3,zI x0),(4,(zI (1:Int)))]) (hp 0 []) (.k0 [] [] [0,3,4]) ?_))
  refine .block (.loopM (v:=v) (fun y:Sl×Int×Int=>((fr 25 [(0,(Sl.v 1 y.1)),(3,(zI y.2.1)),(4,(zI y.2.2))]),(hp 0 []))) (fun w y=>WE pu n w y.1 y.2.1 y.2.2) n ⟨(s0,x0,(1:Int)),hm,(.k0 [] [] [0,3,4])⟩ (fun _=>rfl) ?_)
  rintro w0 ⟨s1,z1,z2⟩ hm
  replace hm:WC pu n (WE pu n w0) s1 z1 z2=some v:=hm
  unfold WC at hm
  refine .then (.then (.rK (.ghs (fr 25 [(0,Sl.v 1 s1),(3,zI z1),(4,zI z2),(15,(zB (AY z2 (Int.ofNat (Sl.n s1)))))]) (hp 0 []) (.k0 [] [] [0,3,4,15]) ?_)))
  replace hm:=Ag hm;rcases hm with⟨h2,hm⟩ | ⟨h2,hm⟩
  ·refine Cs (AY z2 (Int.ofNat (Sl.n s1))) h2 ?_
   refine .skip (.ghs (fr 25 [(0,Sl.v 1 s1),(3,zI z1),(4,zI z2)]) (hp 0 []) (.k0 [] [] [0,3,4]) ?_)
   refine .then (.block ?_)
   replace hm:=Ab hm;obtain⟨k1,h3,hm⟩:=hm
   obtain rfl:=AR h3
   replace hm:=Ae hm;obtain⟨h4,hm⟩:=hm
   replace hm:=Hw hm;obtain⟨x1,h5,hm⟩:=hm
   refine .reg (eC 3 (keep (hp 0 []) (bb (an (Nat.blt k1 (Sl.n s1)) true) (some (Cv (k1*1) (Sl.cs s1))) none)) (AX h4) (eD (keep (hp 0 []) (AL (Sl.cs s1) (k1*1))) (AZ h5) (eE))) ?_
   refine .ghs (fr 25 [(0,Sl.v 1 s1),(3,(zI (bb (AY z1 x1) x1 z1))),(4,(zI (Int.ofNat k1)))]) (hp 0 []) (.k0 [] [] [0,3,4]) ?_
   refine .rK ?_
   exact⟨(s1,(bb (AY z1 x1) x1 z1),(Aj .i64 (Int.add (Int.ofNat k1) (1:Int)))),hm,(.k0 [] [] [0,3,4])⟩
  ·refine CY (AY z2 (Int.ofNat (Sl.n s1))) h2 ?_
   refine .exit ?_
   exact⟨z1,hm,(.k0 [] [] [3])⟩
theorem r50 {call:A8} (pu:Af) (n:Nat) (hcall:call=Bb tabs isP pu (inl pu)) {args:LV} {v:Value} (hm:m50 pu n args=some v) (_:∀ x∈args,closed2 x=true):args.length≤25∧BN tt call 0 Pp (Fr.made 25 args) (Ao tabs) (Fin tt 0 [.tmp 2] v):=by
 subst hcall
 unfold m50 at hm
 replace hm:=Ad hm;obtain⟨a0,args_0,rfl,hm⟩:=hm
 replace hm:=AC hm;obtain⟨rfl,hm⟩:=hm
 replace hm:=Al hm;obtain⟨s0,rfl,hm⟩:=hm
 unfold AcY at hm
 refine⟨by simp,?_⟩
 refine .same (F':=(fr 25 [(0,Sl.v 1 s0)])) (H':=(hp 0 [])) (by kernel_rfl) (by kernel_rfl) ?_
 refine .then (.rK (.ghs (fr 25 [(0,Sl.v 1 s0)]) (hp 0 []) (.k0 [] [] [0]) ?_))
 refine .join (v:=v) (fun y:Sl=>((fr 25 [(0,Sl.v 1 y)]),(hp 0 []))) (fun y=>Ui pu n y) ?_ ?_
 ·rintro s1 hm
  exact Ac0 pu n s1 hm
 ·refine .then (.rK (.ghs (fr 25 [(0,Sl.v 1 s0),(7,(zB (AY (Int.ofNat (Sl.n s0)) (1:Int))))]) (hp 0 []) (.k0 [] [] [0,7]) ?_))
  replace hm:=Ag hm;rcases hm with⟨h0,hm⟩ | ⟨h0,hm⟩
  ·refine Cs (AY (Int.ofNat (Sl.n s0)) (1:Int)) h0 ?_
   cases hm
  ·refine CY (AY (Int.ofNat (Sl.n s0)) (1:Int)) h0 ?_
   refine .skip ?_
   exact⟨s0,hm,(.k0 [] [] [0])⟩
def QL (pu:Af) (n:Nat) (b0:Bool):OV:=
 (some (.bool b0))
def Ac1 (pu:Af) (n:Nat) (x0 x1 x2:Int):OV:=
 (bb (nt (AY x1 x0)) (QL pu n (nt (AY x2 x1))) (QL pu n false))
def m62 (pu:Af) (n:Nat) (args:LV):OV:=
 (ll args none fun a0 args=>(ll args none fun a1 args=>(ll args none fun a2 args=>(ll args (oo (Bi .i64 a0) none fun x0=>(oo (Bi .i64 a1) none fun x1=>(oo (Bi .i64 a2) none fun x2=>(Ac1 pu n x0 x1 x2)))) fun _ _=>none))))
theorem Ac2 (pu:Af) (n:Nat) (b0:Bool) {v:Value} (hm:QL pu n b0=some v):BN tt (Bb tabs isP pu (inl pu)) 0 .ret (fr 15 [(6,zB b0)]) (hp 0 []) (Fin tt 0 [.tmp 6] v):=by
 unfold QL at hm
 refine .ret ?_
 exact Bp (zB b0) hm
theorem r62 {call:A8} (pu:Af) (n:Nat) (hcall:call=Bb tabs isP pu (inl pu)) {args:LV} {v:Value} (hm:m62 pu n args=some v) (_:∀ x∈args,closed2 x=true):args.length≤15∧BN tt call 0 Sc (Fr.made 15 args) (Ao tabs) (Fin tt 0 [.tmp 6] v):=by
 subst hcall
 unfold m62 at hm
 replace hm:=Ad hm;obtain⟨a0,args_0,rfl,hm⟩:=hm
 replace hm:=Ad hm;obtain⟨a1,args_1,rfl,hm⟩:=hm
 replace hm:=Ad hm;obtain⟨a2,args_2,rfl,hm⟩:=hm
 replace hm:=AC hm;obtain⟨rfl,hm⟩:=hm
 replace hm:=Ai hm;obtain⟨x0,rfl,hm⟩:=hm
 replace hm:=Ai hm;obtain⟨x1,rfl,hm⟩:=hm
 replace hm:=Ai hm;obtain⟨x2,rfl,hm⟩:=hm
 unfold Ac1 at hm
 refine⟨by simp,?_⟩
 refine .same (F':=(fr 15 [(0,zI x0),(1,zI x1),(2,zI x2)])) (H':=(hp 0 [])) (by kernel_rfl) (by kernel_rfl) ?_
 refine .then (.rK (.ghs (fr 15 [(0,zI x0),(1,zI x1),(2,zI x2)]) (hp 0 []) (.k0 [] [] [0,1,2]) ?_))
 refine .join (v:=v) (fun y:Bool=>((fr 15 [(6,zB y)]),(hp 0 []))) (fun y=>QL pu n y) ?_ ?_
 ·rintro b0 hm
  exact Ac2 pu n b0 hm
 ·replace hm:=Ag hm;rcases hm with⟨h0,hm⟩ | ⟨h0,hm⟩
  ·refine .reg (eC 2 (some ((zB (nt (AY x1 x0))),(hp 0 []))) (show _=some ((zB true),_) from (by rw[show (nt (AY x1 x0))=true from h0])) (eE)) ?_
   exact⟨(nt (AY x2 x1)),hm,(.k0 [] [] [6])⟩
  ·refine .reg (eC 2 (some ((zB (nt (AY x1 x0))),(hp 0 []))) (show _=some ((zB false),_) from (by rw[show (nt (AY x1 x0))=false from h0])) (eE)) ?_
   exact⟨false,hm,(.k0 [] [] [6])⟩

def Ac3 (pu:Af) (n:Nat) (x0:Int):OV:=
 (bb (Bd x0 (4:Int)) (some (.agg ⟨[(.int .i64 (0:Int)),(.bool true)]⟩)) (bb (Bd x0 (5:Int)) (some (.agg ⟨[(.int .i64 (2:Int)),(.bool true)]⟩)) (bb (Bd x0 (6:Int)) (some (.agg ⟨[(.int .i64 (1:Int)),(.bool true)]⟩)) (bb (Bd x0 (7:Int)) (some (.agg ⟨[(.int .i64 (3:Int)),(.bool true)]⟩)) (some (.agg ⟨[.int .i64 x0,(.bool false)]⟩))))))
def m63 (pu:Af) (n:Nat) (args:LV):OV:=
 (ll args none fun a0 args=>(ll args (oo (Bi .i64 a0) none fun x0=>(Ac3 pu n x0)) fun _ _=>none))
theorem r63 {call:A8} (pu:Af) (n:Nat) (hcall:call=Bb tabs isP pu (inl pu)) {args:LV} {v:Value} (hm:m63 pu n args=some v) (_:∀ x∈args,closed2 x=true):args.length≤18∧BN tt call 0 Pq (Fr.made 18 args) (Ao tabs) (Fin tt 0 [.cell 2 122] v):=by
 subst hcall
 unfold m63 at hm
 replace hm:=Ad hm;obtain⟨a0,args_0,rfl,hm⟩:=hm
 replace hm:=AC hm;obtain⟨rfl,hm⟩:=hm
 replace hm:=Ai hm;obtain⟨x0,rfl,hm⟩:=hm
 unfold Ac3 at hm
 refine⟨by simp,?_⟩
 refine .same (F':=(fr 18 [(0,zI x0)])) (H':=(hp 0 [])) (by kernel_rfl) (by kernel_rfl) ?_
 refine .then (.rK (.ghs (fr 18 [(0,zI x0),(2,(pt 0 0))]) (hp 1 [(oC [(zI (0:Int)),zB false])]) (.k0 [] [.tmp 2 false] [0,2]) ?_))
 refine .then (.then (.rK (.ghs (fr 18 [(0,zI x0),(2,(pt 0 0)),(3,zI x0)]) (hp 1 [(oC [(zI (0:Int)),zB false])]) (.k0 [] [.tmp 2 false] [0,2,3]) ?_)))
 refine .block (.then (.rK (.ghs (fr 18 [(0,zI x0),(2,(pt 0 0)),(3,zI x0),(4,(zB (Bd x0 (4:Int))))]) (hp 1 [(oC [(zI (0:Int)),zB false])]) (.k0 [] [.tmp 2 false] [0,2,3,4]) ?_)))
 replace hm:=Ag hm;rcases hm with⟨h0,hm⟩ | ⟨h0,hm⟩
 ·refine Cs (Bd x0 (4:Int)) h0 ?_
  refine .then (.rK (.ghs (fr 18 [(2,(pt 0 0))]) (hp 1 [(oC [(zI (0:Int)),zB true])]) (.k0 [] [.tmp 2 false] [2]) ?_))
  refine .ret ?_
  exact Bp (.agg ⟨[(zI (0:Int)),zB true]⟩) hm
 ·refine CY (Bd x0 (4:Int)) h0 ?_
  refine .then (.rK (.ghs (fr 18 [(0,zI x0),(2,(pt 0 0)),(3,zI x0),(7,(zB (Bd x0 (5:Int))))]) (hp 1 [(oC [(zI (0:Int)),zB false])]) (.k0 [] [.tmp 2 false] [0,2,3,7]) ?_))
  replace hm:=Ag hm;rcases hm with⟨h1,hm⟩ | ⟨h1,hm⟩
  ·refine Cs (Bd x0 (5:Int)) h1 ?_
   refine .then (.rK (.ghs (fr 18 [(2,(pt 0 0))]) (hp 1 [(oC [(zI (2:Int)),zB true])]) (.k0 [] [.tmp 2 false] [2]) ?_))
   refine .ret ?_
   exact Bp (.agg ⟨[(zI (2:Int)),zB true]⟩) hm
  ·refine CY (Bd x0 (5:Int)) h1 ?_
   refine .then (.rK (.ghs (fr 18 [(0,zI x0),(2,(pt 0 0)),(3,zI x0),(10,(zB (Bd x0 (6:Int))))]) (hp 1 [(oC [(zI (0:Int)),zB false])]) (.k0 [] [.tmp 2 false] [0,2,3,10]) ?_))
   replace hm:=Ag hm;rcases hm with⟨h2,hm⟩ | ⟨h2,hm⟩
   ·refine Cs (Bd x0 (6:Int)) h2 ?_
    refine .then (.rK (.ghs (fr 18 [(2,(pt 0 0))]) (hp 1 [(oC [(zI (1:Int)),zB true])]) (.k0 [] [.tmp 2 false] [2]) ?_))
    refine .ret ?_
    exact Bp (.agg ⟨[(zI (1:Int)),zB true]⟩) hm
   ·refine CY (Bd x0 (6:Int)) h2 ?_
    refine .then (.rK (.ghs (fr 18 [(0,zI x0),(2,(pt 0 0)),(13,(zB (Bd x0 (7:Int))))]) (hp 1 [(oC [(zI (0:Int)),zB false])]) (.k0 [] [.tmp 2 false] [0,2,13]) ?_))
    replace hm:=Ag hm;rcases hm with⟨h3,hm⟩ | ⟨h3,hm⟩
    ·refine Cs (Bd x0 (7:Int)) h3 ?_
     refine .then (.rK (.ghs (fr 18 [(2,(pt 0 0))]) (hp 1 [(oC [(zI (3:Int)),zB true])]) (.k0 [] [.tmp 2 false] [2]) ?_))
     refine .ret ?_
     exact Bp (.agg ⟨[(zI (3:Int)),zB true]⟩) hm
    ·refine CY (Bd x0 (7:Int)) h3 ?_
     refine .skip (.ghs (fr 18 [(0,zI x0),(2,(pt 0 0))]) (hp 1 [(oC [(zI (0:Int)),zB false])]) (.k0 [] [.tmp 2 false] [0,2]) ?_)
     refine .then (.rK (.ghs (fr 18 [(2,(pt 0 0))]) (hp 1 [(oC [zI x0,zB false])]) (.k0 [] [.tmp 2 false] [2]) ?_))
     refine .ret ?_
     exact Bp (.agg ⟨[zI x0,zB false]⟩) hm
def QM (pu:Af) (n:Nat) (z0:Int) (b0:Bool) (z1:Int) (b1:Bool) (z2:Int) (b2:Bool):OV:=
 (some (.agg ⟨[(.int .i64 (Aj .i64 (Int.add z0 z1))),(.bool (bq false (bq b0 b1)))]⟩))
def Ac4 (pu:Af) (n:Nat) (x0:Int) (b0:Bool) (x1:Int) (b1:Bool):OV:=
 (bb b0 (QM pu n x0 b0 (Aj .i64 (Int.sub (.ofNat 0) x1)) b1 (0:Int) false) (QM pu n x0 b0 x1 b1 (0:Int) false))
def m65 (pu:Af) (n:Nat) (args:LV):OV:=
 (ll args none fun a0 args=>(ll args none fun a1 args=>(ll args (oo (Bt a0) none fun l0=>(ll l0 none fun v0 l0=>(ll l0 none fun v1 l0=>(ll l0 (oo (Bi .i64 v0) none fun x0=>(oo (Bf v1) none fun b0=>(oo (Bt a1) none fun l1=>(ll l1 none fun v2 l1=>(ll l1 none fun v3 l1=>(ll l1 (oo (Bi .i64 v2) none fun x1=>(oo (Bf v3) none fun b1=>(Ac4 pu n x0 b0 x1 b1))) fun _ _=>none)))))) fun _ _=>none)))) fun _ _=>none)))
theorem Ac5 (pu:Af) (n:Nat) (z0:Int) (b0:Bool) (z1:Int) (b1:Bool) (z2:Int) (b2:Bool) {v:Value} (hm:QM pu n z0 b0 z1 b1 z2 b2=some v):BN tt (Bb tabs isP pu (inl pu)) 0 Yk (fr 22 [(2,(pt 0 0)),(3,pt 1 0),(4,(pt 2 0))]) (hp 3 [(oC [zI z0,zB b0]),(oC [zI z1,zB b1]),(oC [zI z2,zB b2])]) (Fin tt 0 [.cell 4 122] v):=by
 unfold QM at hm
 refine .then (.rK (.ghs (fr 22 [(4,(pt 0 0))]) (hp 1 [(oC [(zI (Aj .i64 (Int.add z0 z1))),(zB (bq false (bq b0 b1)))])]) (.k0 [] [.tmp 4 false] [4]) ?_))
 refine .ret ?_
 exact Bp (.agg ⟨[(zI (Aj .i64 (Int.add z0 z1))),(zB (bq false (bq b0 b1)))]⟩) hm
theorem r65 {call:A8} (pu:Af) (n:Nat) (hcall:call=Bb tabs isP pu (inl pu)) {args:LV} {v:Value} (hm:m65 pu n args=some v) (_:∀ x∈args,closed2 x=true):args.length≤22∧BN tt call 0 Sd (Fr.made 22 args) (Ao tabs) (Fin tt 0 [.cell 4 122] v):=by
 subst hcall
 unfold m65 at hm
 replace hm:=Ad hm;obtain⟨a0,args_0,rfl,hm⟩:=hm
 replace hm:=Ad hm;obtain⟨a1,args_1,rfl,hm⟩:=hm
 replace hm:=AC hm;obtain⟨rfl,hm⟩:=hm
 replace hm:=BG hm;obtain⟨l0,rfl,hm⟩:=hm
 replace hm:=Ad hm;obtain⟨v0,l1546689_0,rfl,hm⟩:=hm
 replace hm:=Ad hm;obtain⟨v1,l1546689_1,rfl,hm⟩:=hm
 replace hm:=AC hm;obtain⟨rfl,hm⟩:=hm
 replace hm:=Ai hm;obtain⟨x0,rfl,hm⟩:=hm
 replace hm:=Be hm;obtain⟨b0,rfl,hm⟩:=hm
 replace hm:=BG hm;obtain⟨l1,rfl,hm⟩:=hm
 replace hm:=Ad hm;obtain⟨v2,l1546697_0,rfl,hm⟩:=hm
 replace hm:=Ad hm;obtain⟨v3,l1546697_1,rfl,hm⟩:=hm
 replace hm:=AC hm;obtain⟨rfl,hm⟩:=hm
 replace hm:=Ai hm;obtain⟨x1,rfl,hm⟩:=hm
 replace hm:=Be hm;obtain⟨b1,rfl,hm⟩:=hm
 unfold Ac4 at hm
 refine⟨by simp,?_⟩
 refine .same (F':=(fr 22 [(0,(.agg ⟨[zI x0,zB b0]⟩)),(1,(.agg ⟨[zI x1,zB b1]⟩))])) (H':=(hp 0 [])) (by kernel_rfl) (by kernel_rfl) ?_
 refine .then (.rK (.ghs (fr 22 [(2,(pt 0 0)),(3,pt 1 0),(4,(pt 2 0))]) (hp 3 [(oC [zI x0,zB b0]),(oC [zI x1,zB b1]),(oC [(zI (0:Int)),zB false])]) (.k0 [] [.tmp 2 false,.tmp 3 false,.tmp 4 false] [2,3,4]) ?_))
 refine .join (v:=v) (fun y:Int×Bool×Int×Bool×Int×Bool=>((fr 22 [(2,(pt 0 0)),(3,pt 1 0),(4,(pt 2 0))]),(hp 3 [(oC [(zI y.1),(zB y.2.1)]),(oC [(zI y.2.2.1),(zB y.2.2.2.1)]),(oC [(zI y.2.2.2.2.1),(zB y.2.2.2.2.2)])]))) (fun y=>QM pu n y.1 y.2.1 y.2.2.1 y.2.2.2.1 y.2.2.2.2.1 y.2.2.2.2.2) ?_ ?_
 ·rintro⟨z0,b2,z1,b4,z2,b10⟩ hm
  exact Ac5 pu n z0 b2 z1 b4 z2 b10 hm
 ·refine .then (.rK (.ghs (fr 22 [(2,(pt 0 0)),(3,pt 1 0),(4,(pt 2 0)),(6,zB b0)]) (hp 3 [(oC [zI x0,zB b0]),(oC [zI x1,zB b1]),(oC [(zI (0:Int)),zB false])]) (.k0 [] [.tmp 2 false,.tmp 3 false,.tmp 4 false] [2,3,4,6]) ?_))
  replace hm:=Ag hm;rcases hm with⟨h0,hm⟩ | ⟨h0,hm⟩
  ·refine .ifT b0 (by kernel_rfl) h0 ?_
   refine .rK ?_
   exact⟨(x0,b0,(Aj .i64 (Int.sub (.ofNat 0) x1)),b1,(0:Int),false),hm,(.k0 [] [.tmp 2 false,.tmp 3 false,.tmp 4 false] [2,3,4])⟩
  ·refine .ifF b0 (by kernel_rfl) h0 ?_
   refine .skip ?_
   exact⟨(x0,b0,x1,b1,(0:Int),false),hm,(.k0 [] [.tmp 2 false,.tmp 3 false,.tmp 4 false] [2,3,4])⟩

def Ac6 (pu:Af) (n:Nat) (x0:Int) (b0:Bool):OV:=
 (bb (nt b0) (some (.int .i64 (Int.tmod (Aj .i64 (Int.add x0 (4:Int))) (4:Int)))) (bb (Bd (Int.tmod (Aj .i64 (Int.add x0 (4:Int))) (4:Int)) (0:Int)) (some (.int .i64 (4:Int))) (bb (Bd (Int.tmod (Aj .i64 (Int.add x0 (4:Int))) (4:Int)) (1:Int)) (some (.int .i64 (6:Int))) (bb (Bd (Int.tmod (Aj .i64 (Int.add x0 (4:Int))) (4:Int)) (2:Int)) (some (.int .i64 (5:Int))) (some (.int .i64 (7:Int)))))))
def m66 (pu:Af) (n:Nat) (args:LV):OV:=
 (ll args none fun a0 args=>(ll args (oo (Bt a0) none fun l0=>(ll l0 none fun v0 l0=>(ll l0 none fun v1 l0=>(ll l0 (oo (Bi .i64 v0) none fun x0=>(oo (Bf v1) none fun b0=>(Ac6 pu n x0 b0))) fun _ _=>none)))) fun _ _=>none))
theorem r66 {call:A8} (pu:Af) (n:Nat) (hcall:call=Bb tabs isP pu (inl pu)) {args:LV} {v:Value} (hm:m66 pu n args=some v) (_:∀ x∈args,closed2 x=true):args.length≤22∧BN tt call 0 Ps (Fr.made 22 args) (Ao tabs) (Fin tt 0 [.tmp 2] v):=by
 subst hcall
 unfold m66 at hm
 replace hm:=Ad hm;obtain⟨a0,args_0,rfl,hm⟩:=hm
 replace hm:=AC hm;obtain⟨rfl,hm⟩:=hm
 replace hm:=BG hm;obtain⟨l0,rfl,hm⟩:=hm
 replace hm:=Ad hm;obtain⟨v0,l1546714_0,rfl,hm⟩:=hm
 replace hm:=Ad hm;obtain⟨v1,l1546714_1,rfl,hm⟩:=hm
 replace hm:=AC hm;obtain⟨rfl,hm⟩:=hm
 replace hm:=Ai hm;obtain⟨x0,rfl,hm⟩:=hm
 replace hm:=Be hm;obtain⟨b0,rfl,hm⟩:=hm
 unfold Ac6 at hm
 refine⟨by simp,?_⟩
 refine .same (F':=(fr 22 [(0,(.agg ⟨[zI x0,zB b0]⟩))])) (H':=(hp 0 [])) (by kernel_rfl) (by kernel_rfl) ?_
 refine .then (.rK (.ghs (fr 22 [(1,(pt 0 0))]) (hp 1 [(oC [zI x0,zB b0])]) (.k0 [] [.tmp 1 false] [1]) ?_))
 refine .then (.rK (.ghs (fr 22 [(1,(pt 0 0)),(3,(zI (Int.tmod (Aj .i64 (Int.add x0 (4:Int))) (4:Int))))]) (hp 1 [(oC [zI x0,zB b0])]) (.k0 [] [.tmp 1 false] [1,3]) ?_))
 refine .then (.block (.then (.rK (.ghs (fr 22 [(3,(zI (Int.tmod (Aj .i64 (Int.add x0 (4:Int))) (4:Int)))),(8,(zB (nt b0)))]) (hp 0 []) (.k0 [] [] [3,8]) ?_))))
 replace hm:=Ag hm;rcases hm with⟨h0,hm⟩ | ⟨h0,hm⟩
 ·refine Cs (nt b0) h0 ?_
  refine .then (.rK (.ghs (fr 22 [(2,(zI (Int.tmod (Aj .i64 (Int.add x0 (4:Int))) (4:Int))))]) (hp 0 []) (.k0 [] [] [2]) ?_))
  refine .ret ?_
  exact Bp (zI (Int.tmod (Aj .i64 (Int.add x0 (4:Int))) (4:Int))) hm
 ·refine CY (nt b0) h0 ?_
  refine .then (.rK (.ghs (fr 22 [(3,(zI (Int.tmod (Aj .i64 (Int.add x0 (4:Int))) (4:Int)))),(13,(zB (Bd (Int.tmod (Aj .i64 (Int.add x0 (4:Int))) (4:Int)) (0:Int))))]) (hp 0 []) (.k0 [] [] [3,13]) ?_))
  replace hm:=Ag hm;rcases hm with⟨h1,hm⟩ | ⟨h1,hm⟩
  ·refine Cs (Bd (Int.tmod (Aj .i64 (Int.add x0 (4:Int))) (4:Int)) (0:Int)) h1 ?_
   refine .then (.rK (.ghs (fr 22 [(2,(zI (4:Int)))]) (hp 0 []) (.k0 [] [] [2]) ?_))
   refine .ret ?_
   exact Bp (zI (4:Int)) hm
  ·refine CY (Bd (Int.tmod (Aj .i64 (Int.add x0 (4:Int))) (4:Int)) (0:Int)) h1 ?_
   refine .then (.rK (.ghs (fr 22 [(3,(zI (Int.tmod (Aj .i64 (Int.add x0 (4:Int))) (4:Int)))),(16,(zB (Bd (Int.tmod (Aj .i64 (Int.add x0 (4:Int))) (4:Int)) (1:Int))))]) (hp 0 []) (.k0 [] [] [3,16]) ?_))
   replace hm:=Ag hm;rcases hm with⟨h2,hm⟩ | ⟨h2,hm⟩
   ·refine Cs (Bd (Int.tmod (Aj .i64 (Int.add x0 (4:Int))) (4:Int)) (1:Int)) h2 ?_
    refine .then (.rK (.ghs (fr 22 [(2,(zI (6:Int)))]) (hp 0 []) (.k0 [] [] [2]) ?_))
    refine .ret ?_
    exact Bp (zI (6:Int)) hm
   ·refine CY (Bd (Int.tmod (Aj .i64 (Int.add x0 (4:Int))) (4:Int)) (1:Int)) h2 ?_
    refine .then (.rK (.ghs (fr 22 [(19,(zB (Bd (Int.tmod (Aj .i64 (Int.add x0 (4:Int))) (4:Int)) (2:Int))))]) (hp 0 []) (.k0 [] [] [19]) ?_))
    replace hm:=Ag hm;rcases hm with⟨h3,hm⟩ | ⟨h3,hm⟩
    ·refine Cs (Bd (Int.tmod (Aj .i64 (Int.add x0 (4:Int))) (4:Int)) (2:Int)) h3 ?_
     refine .then (.rK (.ghs (fr 22 [(2,(zI (5:Int)))]) (hp 0 []) (.k0 [] [] [2]) ?_))
     refine .ret ?_
     exact Bp (zI (5:Int)) hm
    ·refine CY (Bd (Int.tmod (Aj .i64 (Int.add x0 (4:Int))) (4:Int)) (2:Int)) h3 ?_
     refine .skip (.ghs (fr 22 []) (hp 0 []) (.k0 [] [] []) ?_)
     refine .then (.rK (.ghs (fr 22 [(2,(zI (7:Int)))]) (hp 0 []) (.k0 [] [] [2]) ?_))
     refine .ret ?_
     exact Bp (zI (7:Int)) hm
def Uj (pu:Af) (n:Nat) (z0:Int):OV:=
 (some (.int .i64 z0))
def WF (pu:Af) (n:Nat) (ih0:Sl→Int→Int→OV) (s0:Sl) (z0 z1:Int):OV:=
 (bb (AY z1 (Int.ofNat (Sl.n s0))) (oo (EA z1) none fun k1=>(bb (an (Nat.blt k1 (Sl.n s0)) true) (oo (AL (Sl.cs s0) (k1*1)) none fun v0=>(oo (Bi .i64 v0) none fun x0=>(ih0 s0 (bb (AY x0 z0) x0 z0) (Aj .i64 (Int.add (Int.ofNat k1) (1:Int)))))) none)) (Uj pu n z0))
def WG (pu:Af) (n w:Nat):Sl→Int→Int→OV:=
 Nat.rec (motive:=fun _=>Sl→Int→Int→OV) (fun _ _ _=>none) (fun _ ih0=>WF pu n ih0) w
def Uk (pu:Af) (n:Nat) (s0:Sl):OV:=
 (bb (an (Nat.blt 0 (Sl.n s0)) true) (oo (AL (Sl.cs s0) (0*1)) none fun v0=>(oo (Bi .i64 v0) none fun x0=>(WG pu n n s0 x0 (1:Int)))) none)
def Ac7 (pu:Af) (n:Nat) (s0:Sl):OV:=
 (bb (AY (Int.ofNat (Sl.n s0)) (1:Int)) none (Uk pu n s0))
def m67 (pu:Af) (n:Nat) (args:LV):OV:=
 (ll args none fun a0 args=>(ll args (oo (Bj 1 a0) none fun s0=>(Ac7 pu n s0)) fun _ _=>none))
theorem Ac8 (pu:Af) (n:Nat) (z0:Int) {v:Value} (hm:Uj pu n z0=some v):BN tt (Bb tabs isP pu (inl pu)) 0 UL (fr 25 [(3,zI z0)]) (hp 0 []) (Fin tt 0 [.tmp 2] v):=by
 unfold Uj at hm
 refine .then (.rK (.ghs (fr 25 [(2,zI z0)]) (hp 0 []) (.k0 [] [] [2]) ?_))
 refine .ret ?_
 exact Bp (zI z0) hm
theorem Ac9 (pu:Af) (n:Nat) (s0:Sl) {v:Value} (hm:Uk pu n s0=some v):BN tt (Bb tabs isP pu (inl pu)) 0 UM (fr 25 [(0,Sl.v 1 s0)]) (hp 0 []) (Fin tt 0 [.tmp 2] v):=by
 unfold Uk at hm
 refine .then ?_
 replace hm:=Ae hm;obtain⟨h0,hm⟩:=hm
 replace hm:=Hw hm;obtain⟨x0,h1,hm⟩:=hm
 refine .reg (eC 1 (keep (hp 0 []) (bb (an (Nat.blt 0 (Sl.n s0)) true) (some (Cv (0*1) (Sl.cs s0))) none)) (AX h0) (eD (keep (hp 0 []) (AL (Sl.cs s0) (0*1))) (AZ h1) (eE))) ?_
 refine .ghs (fr 25 [(0,Sl.v 1 s0),(3,zI x0)]) (hp 0 []) (.k0 [] [] [0,3]) ?_
 refine .join (v:=v) (fun y:Int=>((fr 25 [(3,zI y)]),(hp 0 []))) (fun y=>Uj pu n y) ?_ ?_
 ·rintro z0 hm
  exact Ac8 pu n z0 hm
 ·refine .then (.rK (.ghs (fr 25 [(0,Sl.v 1 s0),(3,zI x0),(4,(zI (1:Int)))]) (hp 0 []) (.k0 [] [] [0,3,4]) ?_))
  refine .block (.loopM (v:=v) (fun y:Sl×Int×Int=>((fr 25 [(0,(Sl.v 1 y.1)),(3,(zI y.2.1)),(4,(zI y.2.2))]),(hp 0 []))) (fun w y=>WG pu n w y.1 y.2.1 y.2.2) n ⟨(s0,x0,(1:Int)),hm,(.k0 [] [] [0,3,4])⟩ (fun _=>rfl) ?_)
  rintro w0 ⟨s1,z1,z2⟩ hm
  replace hm:WF pu n (WG pu n w0) s1 z1 z2=some v:=hm
  unfold WF at hm
  refine .then (.then (.rK (.ghs (fr 25 [(0,Sl.v 1 s1),(3,zI z1),(4,zI z2),(15,(zB (AY z2 (Int.ofNat (Sl.n s1)))))]) (hp 0 []) (.k0 [] [] [0,3,4,15]) ?_)))
  replace hm:=Ag hm;rcases hm with⟨h2,hm⟩ | ⟨h2,hm⟩
  ·refine Cs (AY z2 (Int.ofNat (Sl.n s1))) h2 ?_
   refine .skip (.ghs (fr 25 [(0,Sl.v 1 s1),(3,zI z1),(4,zI z2)]) (hp 0 []) (.k0 [] [] [0,3,4]) ?_)
   refine .then (.block ?_)
   replace hm:=Ab hm;obtain⟨k1,h3,hm⟩:=hm
   obtain rfl:=AR h3
   replace hm:=Ae hm;obtain⟨h4,hm⟩:=hm
   replace hm:=Hw hm;obtain⟨x1,h5,hm⟩:=hm
   refine .reg (eC 3 (keep (hp 0 []) (bb (an (Nat.blt k1 (Sl.n s1)) true) (some (Cv (k1*1) (Sl.cs s1))) none)) (AX h4) (eD (keep (hp 0 []) (AL (Sl.cs s1) (k1*1))) (AZ h5) (eE))) ?_
   refine .ghs (fr 25 [(0,Sl.v 1 s1),(3,(zI (bb (AY x1 z1) x1 z1))),(4,(zI (Int.ofNat k1)))]) (hp 0 []) (.k0 [] [] [0,3,4]) ?_
   refine .rK ?_
   exact⟨(s1,(bb (AY x1 z1) x1 z1),(Aj .i64 (Int.add (Int.ofNat k1) (1:Int)))),hm,(.k0 [] [] [0,3,4])⟩
  ·refine CY (AY z2 (Int.ofNat (Sl.n s1))) h2 ?_
   refine .exit ?_
   exact⟨z1,hm,(.k0 [] [] [3])⟩
theorem r67 {call:A8} (pu:Af) (n:Nat) (hcall:call=Bb tabs isP pu (inl pu)) {args:LV} {v:Value} (hm:m67 pu n args=some v) (_:∀ x∈args,closed2 x=true):args.length≤25∧BN tt call 0 Pt (Fr.made 25 args) (Ao tabs) (Fin tt 0 [.tmp 2] v):=by
 subst hcall
 unfold m67 at hm
 replace hm:=Ad hm;obtain⟨a0,args_0,rfl,hm⟩:=hm
 replace hm:=AC hm;obtain⟨rfl,hm⟩:=hm
 replace hm:=Al hm;obtain⟨s0,rfl,hm⟩:=hm
 unfold Ac7 at hm
 refine⟨by simp,?_⟩
 refine .same (F':=(fr 25 [(0,Sl.v 1 s0)])) (H':=(hp 0 [])) (by kernel_rfl) (by kernel_rfl) ?_
 refine .then (.rK (.ghs (fr 25 [(0,Sl.v 1 s0)]) (hp 0 []) (.k0 [] [] [0]) ?_))
 refine .join (v:=v) (fun y:Sl=>((fr 25 [(0,Sl.v 1 y)]),(hp 0 []))) (fun y=>Uk pu n y) ?_ ?_
 ·rintro s1 hm
  exact Ac9 pu n s1 hm
 ·refine .then (.rK (.ghs (fr 25 [(0,Sl.v 1 s0),(7,(zB (AY (Int.ofNat (Sl.n s0)) (1:Int))))]) (hp 0 []) (.k0 [] [] [0,7]) ?_))
  replace hm:=Ag hm;rcases hm with⟨h0,hm⟩ | ⟨h0,hm⟩
  ·refine Cs (AY (Int.ofNat (Sl.n s0)) (1:Int)) h0 ?_
   cases hm
  ·refine CY (AY (Int.ofNat (Sl.n s0)) (1:Int)) h0 ?_
   refine .skip ?_
   exact⟨s0,hm,(.k0 [] [] [0])⟩
end
end Go.TpAM
