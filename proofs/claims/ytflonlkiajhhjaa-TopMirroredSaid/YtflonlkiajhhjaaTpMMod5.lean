/- Made from wip. -/
import Derived.Test.YtflonlkiajhhjaaTpMMod0x

set_option maxRecDepth 100000
set_option maxHeartbeats 20000000
set_option linter.unusedVariables false
namespace Go.TpMM
open Go.Sp Go.TpM
noncomputable section
def PK (pu:Af) (n:Nat) (b0:Bool):OV:=
 (some (.bool b0))
def Aeq (pu:Af) (n:Nat) (x0 x1 x2 x3 x4:Int):OV:=
 (bb (nt (Bd x4 (0:Int))) (bb (Bd (Int.tmod x0 x4) (0:Int)) (PK pu n true) (bb (nt (Bd x4 (0:Int))) (PK pu n (Bd (Int.tmod x1 x4) (0:Int))) none)) none)
def m33 (pu:Af) (n:Nat) (args:LV):OV:=
 (ll args none fun a0 args=>(ll args none fun a1 args=>(ll args (oo (Bt a0) none fun l0=>(ll l0 none fun v0 l0=>(ll l0 none fun v1 l0=>(ll l0 none fun v2 l0=>(ll l0 none fun v3 l0=>(ll l0 (oo (Bi .i64 v0) none fun x0=>(oo (Bi .i64 v1) none fun x1=>(oo (Bi .i64 v2) none fun x2=>(oo (Bi .i64 v3) none fun x3=>(oo (Bi .i64 a1) none fun x4=>(Aeq pu n x0 x1 x2 x3 x4)))))) fun _ _=>none)))))) fun _ _=>none)))
theorem Aer (pu:Af) (n:Nat) (b0:Bool) {v:Value} (hm:PK pu n b0=some v):BN tt (Bb tabs isP pu (inl pu)) 0 .ret (fr 17 [(4,zB b0)]) (hp 0 []) (Fin tt 0 [.tmp 4] v):=by
 unfold PK at hm
 refine .ret ?_
 exact Ay (zB b0) hm
theorem r33 {call:A8} (pu:Af) (n:Nat) (hcall:call=Bb tabs isP pu (inl pu)) {args:LV} {v:Value} (hm:m33 pu n args=some v) (_:∀ x∈args,closed2 x=true):args.length≤17∧BN tt call 0 QL (Fr.made 17 args) (Ao tabs) (Fin tt 0 [.tmp 4] v):=by
 subst hcall
 unfold m33 at hm
 replace hm:=Ad hm;obtain⟨a0,args_0,rfl,hm⟩:=hm
 replace hm:=Ad hm;obtain⟨a1,args_1,rfl,hm⟩:=hm
 replace hm:=AC hm;obtain⟨rfl,hm⟩:=hm
 replace hm:=BG hm;obtain⟨l0,rfl,hm⟩:=hm
 replace hm:=Ad hm;obtain⟨v0,l16198_0,rfl,hm⟩:=hm
 replace hm:=Ad hm;obtain⟨v1,l16198_1,rfl,hm⟩:=hm
 replace hm:=Ad hm;obtain⟨v2,l16198_2,rfl,hm⟩:=hm
 replace hm:=Ad hm;obtain⟨v3,l16198_3,rfl,hm⟩:=hm
 replace hm:=AC hm;obtain⟨rfl,hm⟩:=hm
 replace hm:=Ai hm;obtain⟨x0,rfl,hm⟩:=hm
 replace hm:=Ai hm;obtain⟨x1,rfl,hm⟩:=hm
 replace hm:=Ai hm;obtain⟨x2,rfl,hm⟩:=hm
 replace hm:=Ai hm;obtain⟨x3,rfl,hm⟩:=hm
 replace hm:=Ai hm;obtain⟨x4,rfl,hm⟩:=hm
 unfold Aeq at hm
 refine⟨by simp,?_⟩
 refine .same (F':=(fr 17 [(0,(.agg ⟨[zI x0,zI x1,zI x2,zI x3]⟩)),(1,zI x4)])) (H':=(hp 0 [])) (by kernel_rfl) (by kernel_rfl) ?_
 refine .then (.rK (.ghs (fr 17 [(1,zI x4),(2,(pt 0 0))]) (hp 1 [(oC [zI x0,zI x1,zI x2,zI x3])]) (.k0 [] [.tmp 2 false] [1,2]) ?_))
 refine .join (v:=v) (fun y:Bool=>((fr 17 [(4,zB y)]),(hp 0 []))) (fun y=>PK pu n y) ?_ ?_
 ·rintro b0 hm
  exact Aer pu n b0 hm
 ·replace hm:=Ae hm;obtain⟨h0,hm⟩:=hm
  replace hm:=Ag hm;rcases hm with⟨h1,hm⟩ | ⟨h1,hm⟩
  ·refine .reg (eC 3 (keep (hp 1 [(oC [zI x0,zI x1,zI x2,zI x3])]) (bb (Bd x4 (0:Int)) none (some (zI (Int.tmod x0 x4))))) (XH h0) (eD (some ((zB (Bd (Int.tmod x0 x4) (0:Int))),(hp 1 [(oC [zI x0,zI x1,zI x2,zI x3])]))) (show _=some ((zB true),_) from (by rw[show (Bd (Int.tmod x0 x4) (0:Int))=true from h1])) (eE))) ?_
   exact⟨true,hm,(.k0 [] [] [4])⟩
  ·replace hm:=Ae hm;obtain⟨h2,hm⟩:=hm
   refine .reg (eC 3 (keep (hp 1 [(oC [zI x0,zI x1,zI x2,zI x3])]) (bb (Bd x4 (0:Int)) none (some (zI (Int.tmod x0 x4))))) (XH h0) (eD (some ((zB (Bd (Int.tmod x0 x4) (0:Int))),(hp 1 [(oC [zI x0,zI x1,zI x2,zI x3])]))) (show _=some ((zB false),_) from (by rw[show (Bd (Int.tmod x0 x4) (0:Int))=false from h1])) (eC 4 (keep (hp 1 [(oC [zI x0,zI x1,zI x2,zI x3])]) (bb (Bd x4 (0:Int)) none (some (zI (Int.tmod x1 x4))))) (XH h2) (eE)))) ?_
   exact⟨(Bd (Int.tmod x1 x4) (0:Int)),hm,(.k0 [] [] [4])⟩
def Sk (pu:Af) (n:Nat):OV:=
 (some (.int .i64 (-1:Int)))
def WH (pu:Af) (n:Nat) (ih0:Sl→Int→Int→Int→OV) (s0:Sl) (z0 z1 z2:Int):OV:=
 (bb (AY z2 z1) (oo (EA z2) none fun k1=>(bb (an (Nat.blt k1 (Sl.n s0)) true) (oo (AL (Sl.cs s0) (k1*1)) none fun v0=>(oo (Bi .i64 v0) none fun x0=>(bb (Bd z0 x0) (some (.int .i64 (Int.ofNat k1))) (ih0 s0 z0 z1 (Aj .i64 (Int.add (Int.ofNat k1) (1:Int))))))) none)) (Sk pu n))
def WI (pu:Af) (n w:Nat):Sl→Int→Int→Int→OV:=
 Nat.rec (motive:=fun _=>Sl→Int→Int→Int→OV) (fun _ _ _ _=>none) (fun _ ih0=>WH pu n ih0) w
def Aes (pu:Af) (n:Nat) (s0:Sl) (x0:Int):OV:=
 (WI pu n n s0 x0 (Int.ofNat (Sl.n s0)) (0:Int))
def m36 (pu:Af) (n:Nat) (args:LV):OV:=
 (ll args none fun a0 args=>(ll args none fun a1 args=>(ll args (oo (Bj 1 a0) none fun s0=>(oo (Bi .i64 a1) none fun x0=>(Aes pu n s0 x0))) fun _ _=>none)))
theorem Aet (pu:Af) (n:Nat) {v:Value} (hm:Sk pu n=some v):BN tt (Bb tabs isP pu (inl pu)) 0 UI (fr 19 []) (hp 0 []) (Fin tt 0 [.tmp 4] v):=by
 unfold Sk at hm
 refine .then (.rK (.ghs (fr 19 [(4,(zI (-1:Int)))]) (hp 0 []) (.k0 [] [] [4]) ?_))
 refine .ret ?_
 exact Ay (zI (-1:Int)) hm
theorem r36 {call:A8} (pu:Af) (n:Nat) (hcall:call=Bb tabs isP pu (inl pu)) {args:LV} {v:Value} (hm:m36 pu n args=some v) (_:∀ x∈args,closed2 x=true):args.length≤19∧BN tt call 0 OE (Fr.made 19 args) (Ao tabs) (Fin tt 0 [.tmp 4] v):=by
 subst hcall
 unfold m36 at hm
 replace hm:=Ad hm;obtain⟨a0,args_0,rfl,hm⟩:=hm
 replace hm:=Ad hm;obtain⟨a1,args_1,rfl,hm⟩:=hm
 replace hm:=AC hm;obtain⟨rfl,hm⟩:=hm
 replace hm:=Al hm;obtain⟨s0,rfl,hm⟩:=hm
 replace hm:=Ai hm;obtain⟨x0,rfl,hm⟩:=hm
 unfold Aes at hm
 refine⟨by simp,?_⟩
 refine .same (F':=(fr 19 [(0,Sl.v 1 s0),(1,zI x0)])) (H':=(hp 0 [])) (by kernel_rfl) (by kernel_rfl) ?_
 refine .then (.rK (.ghs (fr 19 [(0,Sl.v 1 s0),(1,zI x0)]) (hp 0 []) (.k0 [] [] [0,1]) ?_))
 refine .join (v:=v) (fun y:Unit=>((fr 19 []),(hp 0 []))) (fun y=>Sk pu n) ?_ ?_
 ·rintro _ hm
  exact Aet pu n hm
 ·refine .then (.rK (.ghs (fr 19 [(0,Sl.v 1 s0),(1,zI x0),(7,(zI (Int.ofNat (Sl.n s0)))),(8,(zI (0:Int)))]) (hp 0 []) (.k0 [] [] [0,1,7,8]) ?_))
  refine .block (.loopM (v:=v) (fun y:Sl×Int×Int×Int=>((fr 19 [(0,(Sl.v 1 y.1)),(1,(zI y.2.1)),(7,(zI y.2.2.1)),(8,(zI y.2.2.2))]),(hp 0 []))) (fun w y=>WI pu n w y.1 y.2.1 y.2.2.1 y.2.2.2) n ⟨(s0,x0,(Int.ofNat (Sl.n s0)),(0:Int)),hm,(.k0 [] [] [0,1,7,8])⟩ (fun _=>rfl) ?_)
  rintro w0 ⟨s1,z0,z1,z2⟩ hm
  replace hm:WH pu n (WI pu n w0) s1 z0 z1 z2=some v:=hm
  unfold WH at hm
  refine .then (.rK (.ghs (fr 19 [(0,Sl.v 1 s1),(1,zI z0),(7,zI z1),(8,zI z2),(9,(zB (AY z2 z1)))]) (hp 0 []) (.k0 [] [] [0,1,7,8,9]) ?_))
  refine .then ?_
  replace hm:=Ag hm;rcases hm with⟨h0,hm⟩ | ⟨h0,hm⟩
  ·refine A7 (AY z2 z1) h0 ?_
   refine .skip (.ghs (fr 19 [(0,Sl.v 1 s1),(1,zI z0),(7,zI z1),(8,zI z2)]) (hp 0 []) (.k0 [] [] [0,1,7,8]) ?_)
   refine .then (.block (.then (.rK (.ghs (fr 19 [(0,Sl.v 1 s1),(1,zI z0),(5,zI z2),(7,zI z1),(8,zI z2)]) (hp 0 []) (.k0 [] [] [0,1,5,7,8]) ?_))))
   refine .then ?_
   replace hm:=Ab hm;obtain⟨k1,h1,hm⟩:=hm
   obtain rfl:=AR h1
   replace hm:=Ae hm;obtain⟨h2,hm⟩:=hm
   replace hm:=Dn hm;obtain⟨x1,h3,hm⟩:=hm
   refine .reg (eC 3 (keep (hp 0 []) (bb (an (Nat.blt k1 (Sl.n s1)) true) (some (Cv (k1*1) (Sl.cs s1))) none)) (AX h2) (eD (keep (hp 0 []) (AL (Sl.cs s1) (k1*1))) (AZ h3) (eE))) ?_
   refine .ghs (fr 19 [(0,Sl.v 1 s1),(1,zI z0),(5,(zI (Int.ofNat k1))),(7,zI z1),(8,(zI (Int.ofNat k1))),(16,(zB (Bd z0 x1)))]) (hp 0 []) (.k0 [] [] [0,1,5,7,8,16]) ?_
   replace hm:=Ag hm;rcases hm with⟨h4,hm⟩ | ⟨h4,hm⟩
   ·refine A7 (Bd z0 x1) h4 ?_
    refine .then (.rK (.ghs (fr 19 [(4,(zI (Int.ofNat k1)))]) (hp 0 []) (.k0 [] [] [4]) ?_))
    refine .ret ?_
    exact Ay (zI (Int.ofNat k1)) hm
   ·refine Bp (Bd z0 x1) h4 ?_
    refine .skip (.ghs (fr 19 [(0,Sl.v 1 s1),(1,zI z0),(7,zI z1),(8,(zI (Int.ofNat k1)))]) (hp 0 []) (.k0 [] [] [0,1,7,8]) ?_)
    refine .rK ?_
    exact⟨(s1,z0,z1,(Aj .i64 (Int.add (Int.ofNat k1) (1:Int)))),hm,(.k0 [] [] [0,1,7,8])⟩
  ·refine Bp (AY z2 z1) h0 ?_
   refine .exit ?_
   exact⟨(),hm,(.k0 [] [] [])⟩
def Sm (pu:Af) (n n0 c0:Nat) (q0:LV):OV:=
 (bb (Au Ah q0) (bb (an (Nat.ble (0+n0*1) (len q0)) (Au Ah (Aq (n0*1) (Am 0 q0)))) (some (Sl.v 1 (Sl.mk n0 0 (Aq (n0*1) (Am 0 q0))))) none) none)
def WJ (pu:Af) (n:Nat) (ih0:Sl→Nat→Nat→Sl→Int→Int→LV→OV) (s0:Sl) (n0 c0:Nat) (s1:Sl) (z0 z1:Int) (q0:LV):OV:=
 (bb (Au Ah q0) (bb (AY z1 z0) (oo (EA z1) none fun k1=>(bb (an (Nat.blt k1 (Sl.n s1)) true) (oo (AL (Sl.cs s1) (k1*1)) none fun v0=>(oo (Bi .i64 v0) none fun x0=>(oo (EA x0) none fun k2=>(bb (an (Nat.blt k2 (Sl.n s0)) true) (oo (AL (Sl.cs s0) (k2*1)) none fun v1=>(oo (Bi .i64 v1) none fun x1=>(bb (an (Nat.blt k1 n0) true) (bb (an (Nat.ble ((0+k1*1)+1) (len q0)) true) (bb (Au Ah (BM ([.int .i64 x1]:LV) (0+k1*1) q0)) (ih0 s0 n0 c0 s1 z0 (Aj .i64 (Int.add (Int.ofNat k1) (1:Int))) (BM ([.int .i64 x1]:LV) (0+k1*1) q0)) none) none) none))) none)))) none)) (Sm pu n n0 c0 q0)) none)
def WK (pu:Af) (n w:Nat):Sl→Nat→Nat→Sl→Int→Int→LV→OV:=
 Nat.rec (motive:=fun _=>Sl→Nat→Nat→Sl→Int→Int→LV→OV) (fun _ _ _ _ _ _ _=>none) (fun _ ih0=>WJ pu n ih0) w
def Aeu (pu:Af) (n:Nat) (p0:Db) (s0:Sl) (x0:Int):OV:=
 (bb (an (Nat.ble (Sl.n s0) (Sl.n s0)) (an (Nat.ble ((Sl.n s0)*8) 1099511627776) (an (Nat.ble (Sl.n s0) 1099511627776) true))) (bb (Au Ah (AF ([(.int .i64 (0:Int))]:LV) (Sl.n s0))) (oo (AL (Db.cs p0) ((Db.off p0)+4)) none fun v0=>(oo (Bj 1 v0) none fun s1=>(oo (EA x0) none fun k1=>(bb (an (Nat.blt k1 (Sl.n s1)) true) (oo (AL (Sl.cs s1) (k1*1)) none fun v1=>(oo (Bj 1 v1) none fun s2=>(WK pu n n s0 (Sl.n s0) (2*(Sl.n s0)+bb true 1 0) s2 (Int.ofNat (Sl.n s2)) (0:Int) (AF ([(.int .i64 (0:Int))]:LV) (Sl.n s0))))) none)))) none) none)
def m37 (pu:Af) (n:Nat) (args:LV):OV:=
 (ll args none fun a0 args=>(ll args none fun a1 args=>(ll args none fun a2 args=>(ll args (oo (Pv a0) none fun p0=>(oo (Bj 1 a1) none fun s0=>(oo (Bi .i64 a2) none fun x0=>(Aeu pu n p0 s0 x0)))) fun _ _=>none))))
theorem Aev (pu:Af) (n n0 c0:Nat) (q0:LV) {v:Value} (hm:Sm pu n n0 c0 q0=some v):BN tt (Bb tabs isP pu (inl pu)) 0 UJ (fr 35 [(7,sc 0 0 1 n0 c0)]) (hp 1 [oC q0]) (Fin tt 0 [.tmp 6] v):=by
 unfold Sm at hm
 refine .then (.rK ?_)
 replace hm:=Ae hm;obtain⟨h0,hm⟩:=hm
 refine .ghs (fr 35 [(6,sc 0 0 1 n0 c0)]) (hp 1 [oC q0]) (.k [0] [] [.tmp 6 false] [6] ⟨AO h0,trivial⟩) ?_
 replace hm:=Ae hm;obtain⟨h1,hm⟩:=hm
 refine .ghs (Fr.puts (fr 35 [(6,sc 0 0 1 n0 c0)]) [(6,(Sl.v 1 (Sl.mk n0 0 (Aq (n0*1) (Am 0 q0)))))]) (hp 1 [.dead]) (.freezeC 0 6 1 (an (Nat.ble (0+n0*1) (len q0)) (Au Ah (Aq (n0*1) (Am 0 q0)))) (F1:=(Fr.puts (fr 35 [(6,sc 0 0 1 n0 c0)]) [(6,(Sl.v 1 (Sl.mk n0 0 (Aq (n0*1) (Am 0 q0)))))])) (H1:=(hp 1 [.dead])) (by kernel_rfl) (by kernel_rfl) h1 (E9.id _ _)) ?_
 refine .ret ?_
 exact Ay (Sl.v 1 (Sl.mk n0 0 (Aq (n0*1) (Am 0 q0)))) hm
theorem r37 {call:A8} (pu:Af) (n:Nat) (hcall:call=Bb tabs isP pu (inl pu)) {args:LV} {v:Value} (hm:m37 pu n args=some v) (_:∀ x∈args,closed2 x=true):args.length≤35∧BN tt call 0 OG (Fr.made 35 args) (Ao tabs) (Fin tt 0 [.tmp 6] v):=by
 subst hcall
 unfold m37 at hm
 replace hm:=Ad hm;obtain⟨a0,args_0,rfl,hm⟩:=hm
 replace hm:=Ad hm;obtain⟨a1,args_1,rfl,hm⟩:=hm
 replace hm:=Ad hm;obtain⟨a2,args_2,rfl,hm⟩:=hm
 replace hm:=AC hm;obtain⟨rfl,hm⟩:=hm
 replace hm:=Ab hm;obtain⟨p0,h0,hm⟩:=hm
 obtain rfl:=F7 h0
 replace hm:=Al hm;obtain⟨s0,rfl,hm⟩:=hm
 replace hm:=Ai hm;obtain⟨x0,rfl,hm⟩:=hm
 unfold Aeu at hm
 refine⟨by simp,?_⟩
 refine .same (F':=(fr 35 [(0,(Cv (Db.off p0) (Db.cs p0))),(1,Sl.v 1 s0),(2,zI x0)])) (H':=(hp 0 [])) (by kernel_rfl) (by kernel_rfl) ?_
 refine .then (.rK (.ghs (fr 35 [(0,(Cv (Db.off p0) (Db.cs p0))),(1,Sl.v 1 s0),(2,zI x0)]) (hp 0 []) (.k0 [] [] [0,1,2]) ?_))
 refine .then ?_
 replace hm:=Ae hm;obtain⟨h1,hm⟩:=hm
 refine .reg (eC 2 (bb (an (Nat.ble (Sl.n s0) (Sl.n s0)) (an (Nat.ble ((Sl.n s0)*8) 1099511627776) (an (Nat.ble (Sl.n s0) 1099511627776) true))) (some ((sc 0 0 1 (Sl.n s0) (2*(Sl.n s0)+bb true 1 0)),(hp 1 [(oC (AF ([(zI (0:Int))]:LV) (Sl.n s0)))]))) none) (kH h1) (eE)) ?_
 replace hm:=Ae hm;obtain⟨h2,hm⟩:=hm
 refine .ghs (fr 35 [(0,(Cv (Db.off p0) (Db.cs p0))),(1,Sl.v 1 s0),(2,zI x0),(7,(sc 0 0 1 (Sl.n s0) (2*(Sl.n s0)+bb true 1 0)))]) (hp 1 [(oC (AF ([(zI (0:Int))]:LV) (Sl.n s0)))]) (.k [0] [] [.tmp 7 false] [0,1,2,7] ⟨AO h2,trivial⟩) ?_
 refine .join (v:=v) (fun y:Nat×Nat×LV=>((fr 35 [(7,(sc 0 0 1 y.1 y.2.1))]),(hp 1 [(oC y.2.2)]))) (fun y=>Sm pu n y.1 y.2.1 y.2.2) ?_ ?_
 ·rintro⟨n0,c0,q0⟩ hm
  exact Aev pu n n0 c0 q0 hm
 ·refine .then ?_
  replace hm:=I9 hm;obtain⟨s1,h3,hm⟩:=hm
  replace hm:=Ab hm;obtain⟨k1,h4,hm⟩:=hm
  obtain rfl:=AR h4
  replace hm:=Ae hm;obtain⟨h5,hm⟩:=hm
  replace hm:=I9 hm;obtain⟨s2,h6,hm⟩:=hm
  refine .reg (eC 3 (keep (hp 1 [(oC (AF ([(zI (0:Int))]:LV) (Sl.n s0)))]) (AL (Db.cs p0) ((Db.off p0)+4))) (AZ h3) (eC 1 (keep (hp 1 [(oC (AF ([(zI (0:Int))]:LV) (Sl.n s0)))]) (bb (an (Nat.blt k1 (Sl.n s1)) true) (some (Cv (k1*1) (Sl.cs s1))) none)) (AX h5) (eD (keep (hp 1 [(oC (AF ([(zI (0:Int))]:LV) (Sl.n s0)))]) (AL (Sl.cs s1) (k1*1))) (AZ h6) (eE)))) ?_
  refine .ghs (fr 35 [(1,Sl.v 1 s0),(7,(sc 0 0 1 (Sl.n s0) (2*(Sl.n s0)+bb true 1 0))),(19,Sl.v 1 s2),(20,(zI (Int.ofNat (Sl.n s2)))),(21,(zI (0:Int)))]) (hp 1 [(oC (AF ([(zI (0:Int))]:LV) (Sl.n s0)))]) (.k [0] [] [.tmp 7 false] [1,7,19,20,21] ⟨AO h2,trivial⟩) ?_
  refine .block (.loopM (v:=v) (fun y:Sl×Nat×Nat×Sl×Int×Int×LV=>((fr 35 [(1,(Sl.v 1 y.1)),(7,(sc 0 0 1 y.2.1 y.2.2.1)),(19,(Sl.v 1 y.2.2.2.1)),(20,(zI y.2.2.2.2.1)),(21,(zI y.2.2.2.2.2.1))]),(hp 1 [(oC y.2.2.2.2.2.2)]))) (fun w y=>WK pu n w y.1 y.2.1 y.2.2.1 y.2.2.2.1 y.2.2.2.2.1 y.2.2.2.2.2.1 y.2.2.2.2.2.2) n ⟨(s0,(Sl.n s0),(2*(Sl.n s0)+bb true 1 0),s2,(Int.ofNat (Sl.n s2)),(0:Int),(AF ([(zI (0:Int))]:LV) (Sl.n s0))),hm,(.k [0] [] [.tmp 7 false] [1,7,19,20,21] ⟨AO h2,trivial⟩)⟩ (fun _=>rfl) ?_)
  rintro w0 ⟨s3,n1,c1,s4,z0,z1,q1⟩ hm
  replace hm:WJ pu n (WK pu n w0) s3 n1 c1 s4 z0 z1 q1=some v:=hm
  unfold WJ at hm
  refine .then (.rK ?_)
  replace hm:=Ae hm;obtain⟨h7,hm⟩:=hm
  refine .ghs (fr 35 [(1,Sl.v 1 s3),(7,sc 0 0 1 n1 c1),(19,Sl.v 1 s4),(20,zI z0),(21,zI z1),(22,(zB (AY z1 z0)))]) (hp 1 [oC q1]) (.k [0] [] [.tmp 7 false] [1,7,19,20,21,22] ⟨AO h7,trivial⟩) ?_
  refine .then ?_
  replace hm:=Ag hm;rcases hm with⟨h8,hm⟩ | ⟨h8,hm⟩
  ·refine A7 (AY z1 z0) h8 ?_
   refine .skip (.ghs (fr 35 [(1,Sl.v 1 s3),(7,sc 0 0 1 n1 c1),(19,Sl.v 1 s4),(20,zI z0),(21,zI z1)]) (hp 1 [oC q1]) (.k [0] [] [.tmp 7 false] [1,7,19,20,21] ⟨AO h7,trivial⟩) ?_)
   refine .then (.block (.then ?_))
   replace hm:=Ab hm;obtain⟨k2,h9,hm⟩:=hm
   obtain rfl:=AR h9
   replace hm:=Ae hm;obtain⟨h10,hm⟩:=hm
   replace hm:=Dn hm;obtain⟨x1,h11,hm⟩:=hm
   refine .reg (eC 1 (keep (hp 1 [oC q1]) (bb (an (Nat.blt k2 (Sl.n s4)) true) (some (Cv (k2*1) (Sl.cs s4))) none)) (AX h10) (eD (keep (hp 1 [oC q1]) (AL (Sl.cs s4) (k2*1))) (AZ h11) (eE))) ?_
   refine .ghs (fr 35 [(1,Sl.v 1 s3),(7,sc 0 0 1 n1 c1),(8,(zI (Int.ofNat k2))),(9,zI x1),(19,Sl.v 1 s4),(20,zI z0),(21,(zI (Int.ofNat k2)))]) (hp 1 [oC q1]) (.k [0] [] [.tmp 7 false] [1,7,8,9,19,20,21] ⟨AO h7,trivial⟩) ?_
   replace hm:=Ab hm;obtain⟨k3,h12,hm⟩:=hm
   obtain rfl:=AR h12
   replace hm:=Ae hm;obtain⟨h13,hm⟩:=hm
   replace hm:=Dn hm;obtain⟨x2,h14,hm⟩:=hm
   replace hm:=Ae hm;obtain⟨h15,hm⟩:=hm
   replace hm:=Ae hm;obtain⟨h16,hm⟩:=hm
   refine .reg (eC 4 (keep (hp 1 [oC q1]) (bb (an (Nat.blt k3 (Sl.n s3)) true) (some (Cv (k3*1) (Sl.cs s3))) none)) (AX h13) (eD (keep (hp 1 [oC q1]) (AL (Sl.cs s3) (k3*1))) (AZ h14) (eD (keep (hp 1 [oC q1]) (bb (an (Nat.blt k2 n1) true) (some (.pointer (some ⟨0,(0+k2*1),none⟩))) none)) (AX h15) (eD (done (bb (an (Nat.ble ((0+k2*1)+1) (len q1)) true) (some (hp 1 [(oC (BM ([zI x2]:LV) (0+k2*1) q1))])) none) undef) (Js h16) (eE))))) ?_
   replace hm:=Ae hm;obtain⟨h17,hm⟩:=hm
   refine .ghs (fr 35 [(1,Sl.v 1 s3),(7,sc 0 0 1 n1 c1),(19,Sl.v 1 s4),(20,zI z0),(21,(zI (Int.ofNat k2)))]) (hp 1 [(oC (BM ([zI x2]:LV) (0+k2*1) q1))]) (.k [0] [] [.tmp 7 false] [1,7,19,20,21] ⟨AO h17,trivial⟩) ?_
   refine .rK ?_
   exact⟨(s3,n1,c1,s4,z0,(Aj .i64 (Int.add (Int.ofNat k2) (1:Int))),(BM ([zI x2]:LV) (0+k2*1) q1)),hm,(.k [0] [] [.tmp 7 false] [1,7,19,20,21] ⟨AO h17,trivial⟩)⟩
  ·refine Bp (AY z1 z0) h8 ?_
   refine .exit ?_
   exact⟨(n1,c1,q1),hm,(.k [0] [] [.tmp 7 false] [7] ⟨AO h7,trivial⟩)⟩

def Aew (pu:Af) (n:Nat) (x0 x1 x2 x3:Int) (b0:Bool):OV:=
 (bb b0 (some (.tuple ⟨[.int .i64 x3,.int .i64 x2]⟩)) (some (.tuple ⟨[.int .i64 x2,.int .i64 x3]⟩)))
def m38 (pu:Af) (n:Nat) (args:LV):OV:=
 (ll args none fun a0 args=>(ll args none fun a1 args=>(ll args (oo (Bt a0) none fun l0=>(ll l0 none fun v0 l0=>(ll l0 none fun v1 l0=>(ll l0 none fun v2 l0=>(ll l0 none fun v3 l0=>(ll l0 (oo (Bi .i64 v0) none fun x0=>(oo (Bi .i64 v1) none fun x1=>(oo (Bi .i64 v2) none fun x2=>(oo (Bi .i64 v3) none fun x3=>(oo (Bf a1) none fun b0=>(Aew pu n x0 x1 x2 x3 b0)))))) fun _ _=>none)))))) fun _ _=>none)))
theorem r38 {call:A8} (pu:Af) (n:Nat) (hcall:call=Bb tabs isP pu (inl pu)) {args:LV} {v:Value} (hm:m38 pu n args=some v) (_:∀ x∈args,closed2 x=true):args.length≤15∧BN tt call 0 QM (Fr.made 15 args) (Ao tabs) (Fin tt 0 [.tmp 4,.tmp 5] v):=by
 subst hcall
 unfold m38 at hm
 replace hm:=Ad hm;obtain⟨a0,args_0,rfl,hm⟩:=hm
 replace hm:=Ad hm;obtain⟨a1,args_1,rfl,hm⟩:=hm
 replace hm:=AC hm;obtain⟨rfl,hm⟩:=hm
 replace hm:=BG hm;obtain⟨l0,rfl,hm⟩:=hm
 replace hm:=Ad hm;obtain⟨v0,l16503_0,rfl,hm⟩:=hm
 replace hm:=Ad hm;obtain⟨v1,l16503_1,rfl,hm⟩:=hm
 replace hm:=Ad hm;obtain⟨v2,l16503_2,rfl,hm⟩:=hm
 replace hm:=Ad hm;obtain⟨v3,l16503_3,rfl,hm⟩:=hm
 replace hm:=AC hm;obtain⟨rfl,hm⟩:=hm
 replace hm:=Ai hm;obtain⟨x0,rfl,hm⟩:=hm
 replace hm:=Ai hm;obtain⟨x1,rfl,hm⟩:=hm
 replace hm:=Ai hm;obtain⟨x2,rfl,hm⟩:=hm
 replace hm:=Ai hm;obtain⟨x3,rfl,hm⟩:=hm
 replace hm:=Be hm;obtain⟨b0,rfl,hm⟩:=hm
 unfold Aew at hm
 refine⟨by simp,?_⟩
 refine .same (F':=(fr 15 [(0,(.agg ⟨[zI x0,zI x1,zI x2,zI x3]⟩)),(1,zB b0)])) (H':=(hp 0 [])) (by kernel_rfl) (by kernel_rfl) ?_
 refine .then (.rK (.ghs (fr 15 [(1,zB b0),(2,(pt 0 0))]) (hp 1 [(oC [zI x0,zI x1,zI x2,zI x3])]) (.k0 [] [.tmp 2 false] [1,2]) ?_))
 refine .then (.then (.rK (.ghs (fr 15 [(2,(pt 0 0)),(6,zB b0)]) (hp 1 [(oC [zI x0,zI x1,zI x2,zI x3])]) (.k0 [] [.tmp 2 false] [2,6]) ?_)))
 replace hm:=Ag hm;rcases hm with⟨h0,hm⟩ | ⟨h0,hm⟩
 ·refine .ifT b0 (by kernel_rfl) h0 ?_
  refine .then (.rK (.ghs (fr 15 [(4,zI x3),(5,zI x2)]) (hp 0 []) (.k0 [] [] [4,5]) ?_))
  refine .ret ?_
  exact Ay (.tuple ⟨[zI x3,zI x2]⟩) hm
 ·refine .ifF b0 (by kernel_rfl) h0 ?_
  refine .skip (.ghs (fr 15 [(2,(pt 0 0))]) (hp 1 [(oC [zI x0,zI x1,zI x2,zI x3])]) (.k0 [] [.tmp 2 false] [2]) ?_)
  refine .then (.rK (.ghs (fr 15 [(4,zI x2),(5,zI x3)]) (hp 0 []) (.k0 [] [] [4,5]) ?_))
  refine .ret ?_
  exact Ay (.tuple ⟨[zI x2,zI x3]⟩) hm
def PL (pu:Af) (n:Nat) (z0 z1 z2 z3 z4 z5 z6 z7 z8 z9 z10:Int) (b0:Bool):OV:=
 (oo (EA (Aj .i64 (Int.add (Aj .i64 (Int.mul z9 z3)) z10))) none fun k1=>(some (.tuple ⟨[(.int .u64 (jF .u64 z0 (QW .u64 z1 k1))),(.bool (Bd (Np .u64 z0 (QW .u64 z1 k1)) (0:Int)))]⟩)))
def Sn (pu:Af) (n:Nat) (z0:Int) (b0:Bool) (z1 z2 z3 z4 z5 z6 z7 z8 z9:Int) (b1:Bool):OV:=
 (bb b0 (some (.tuple ⟨[(.int .u64 (0:Int)),(.bool false)]⟩)) (bb b1 (PL pu n z0 z6 z1 z2 z3 z4 z5 z6 z7 z8 z9 b1) (PL pu n z0 z5 z1 z2 z3 z4 z5 z6 z7 z8 z9 b1)))
def Aey (pu:Af) (n:Nat) (x0 x1 x2 x3 x4 x5 x6 x7 x8 x9:Int) (b0:Bool):OV:=
 (oo (pu 38 [(.agg ⟨[.int .i64 x0,.int .i64 x1,.int .i64 x2,.int .i64 x3]⟩),(.bool b0)]) none fun v0=>(oo (CQ v0) none fun l0=>(ll l0 none fun v1 l0=>(ll l0 none fun v2 l0=>(ll l0 (oo (Bi .i64 v1) none fun x10=>(oo (Bi .i64 v2) none fun x11=>(bb (AY x0 (Aj .i64 (Int.add x8 x10))) (Sn pu n x7 true x0 x1 x2 x3 x4 x5 x6 x8 x9 b0) (Sn pu n x7 (AY x1 (Aj .i64 (Int.add x9 x11))) x0 x1 x2 x3 x4 x5 x6 x8 x9 b0)))) fun _ _=>none)))))
def m39 (pu:Af) (n:Nat) (args:LV):OV:=
 (ll args none fun a0 args=>(ll args none fun a1 args=>(ll args none fun a2 args=>(ll args (oo (Bt a0) none fun l0=>(ll l0 none fun v0 l0=>(ll l0 none fun v1 l0=>(ll l0 none fun v2 l0=>(ll l0 none fun v3 l0=>(ll l0 none fun v4 l0=>(ll l0 none fun v5 l0=>(ll l0 none fun v6 l0=>(ll l0 (oo (Bi .i64 v0) none fun x0=>(oo (Bi .i64 v1) none fun x1=>(oo (Bi .i64 v2) none fun x2=>(oo (Bi .i64 v3) none fun x3=>(oo (Bi .u64 v4) none fun x4=>(oo (Bi .u64 v5) none fun x5=>(oo (Bi .u64 v6) none fun x6=>(oo (Bi .u64 a1) none fun x7=>(oo (Bt a2) none fun l1=>(ll l1 none fun v7 l1=>(ll l1 none fun v8 l1=>(ll l1 none fun v9 l1=>(ll l1 (oo (Bi .i64 v7) none fun x8=>(oo (Bi .i64 v8) none fun x9=>(oo (Bf v9) none fun b0=>(Aey pu n x0 x1 x2 x3 x4 x5 x6 x7 x8 x9 b0)))) fun _ _=>none))))))))))))) fun _ _=>none))))))))) fun _ _=>none))))
theorem Aez (pu:Af) (n:Nat) (z0 z1 z2 z3 z4 z5 z6 z7 z8 z9 z10:Int) (b0:Bool) {v:Value} (hm:PL pu n z0 z1 z2 z3 z4 z5 z6 z7 z8 z9 z10 b0=some v):BN tt (Bb tabs isP pu (inl pu)) 0 UK (fr 63 [(1,(zU z0)),(3,(pt 0 0)),(5,pt 1 0),(10,(zU z1))]) (hp 2 [(oC [zI z2,zI z3,zI z4,zI z5,(zU z6),(zU z7),(zU z8)]),(oC [zI z9,zI z10,zB b0])]) (Fin tt 0 [.tmp 6,.tmp 7] v):=by
 unfold PL at hm
 refine .then ?_
 replace hm:=Ab hm;obtain⟨k1,h0,hm⟩:=hm
 refine .reg (eC 9 (some ((zI (Aj .i64 (Int.add (Aj .i64 (Int.mul z9 z3)) z10))),(hp 2 [(oC [zI z2,zI z3,zI z4,zI z5,(zU z6),(zU z7),(zU z8)]),(oC [zI z9,zI z10,zB b0])]))) (show _=some ((zI (Int.ofNat k1)),_) from (by rw[AR h0])) (eE)) ?_
 refine .ghs (fr 63 [(1,(zU z0)),(10,(zU (QW .u64 z1 k1)))]) (hp 0 []) (.k0 [] [] [1,10]) ?_
 refine .then (.rK (.ghs (fr 63 [(6,(zU (jF .u64 z0 (QW .u64 z1 k1)))),(7,(zB (Bd (Np .u64 z0 (QW .u64 z1 k1)) (0:Int))))]) (hp 0 []) (.k0 [] [] [6,7]) ?_))
 refine .ret ?_
 exact Ay (.tuple ⟨[(zU (jF .u64 z0 (QW .u64 z1 k1))),(zB (Bd (Np .u64 z0 (QW .u64 z1 k1)) (0:Int)))]⟩) hm
theorem r39 {call:A8} (pu:Af) (n:Nat) (hcall:call=Bb tabs isP pu (inl pu)) {args:LV} {v:Value} (hm:m39 pu n args=some v) (_:∀ x∈args,closed2 x=true):args.length≤63∧BN tt call 0 OH (Fr.made 63 args) (Ao tabs) (Fin tt 0 [.tmp 6,.tmp 7] v):=by
 subst hcall
 unfold m39 at hm
 replace hm:=Ad hm;obtain⟨a0,args_0,rfl,hm⟩:=hm
 replace hm:=Ad hm;obtain⟨a1,args_1,rfl,hm⟩:=hm
 replace hm:=Ad hm;obtain⟨a2,args_2,rfl,hm⟩:=hm
 replace hm:=AC hm;obtain⟨rfl,hm⟩:=hm
 replace hm:=BG hm;obtain⟨l0,rfl,hm⟩:=hm
 replace hm:=Ad hm;obtain⟨v0,l16520_0,rfl,hm⟩:=hm
 replace hm:=Ad hm;obtain⟨v1,l16520_1,rfl,hm⟩:=hm
 replace hm:=Ad hm;obtain⟨v2,l16520_2,rfl,hm⟩:=hm
 replace hm:=Ad hm;obtain⟨v3,l16520_3,rfl,hm⟩:=hm
 replace hm:=Ad hm;obtain⟨v4,l16520_4,rfl,hm⟩:=hm
 replace hm:=Ad hm;obtain⟨v5,l16520_5,rfl,hm⟩:=hm
 replace hm:=Ad hm;obtain⟨v6,l16520_6,rfl,hm⟩:=hm
 replace hm:=AC hm;obtain⟨rfl,hm⟩:=hm
 replace hm:=Ai hm;obtain⟨x0,rfl,hm⟩:=hm
 replace hm:=Ai hm;obtain⟨x1,rfl,hm⟩:=hm
 replace hm:=Ai hm;obtain⟨x2,rfl,hm⟩:=hm
 replace hm:=Ai hm;obtain⟨x3,rfl,hm⟩:=hm
 replace hm:=Ai hm;obtain⟨x4,rfl,hm⟩:=hm
 replace hm:=Ai hm;obtain⟨x5,rfl,hm⟩:=hm
 replace hm:=Ai hm;obtain⟨x6,rfl,hm⟩:=hm
 replace hm:=Ai hm;obtain⟨x7,rfl,hm⟩:=hm
 replace hm:=BG hm;obtain⟨l1,rfl,hm⟩:=hm
 replace hm:=Ad hm;obtain⟨v7,l16545_0,rfl,hm⟩:=hm
 replace hm:=Ad hm;obtain⟨v8,l16545_1,rfl,hm⟩:=hm
 replace hm:=Ad hm;obtain⟨v9,l16545_2,rfl,hm⟩:=hm
 replace hm:=AC hm;obtain⟨rfl,hm⟩:=hm
 replace hm:=Ai hm;obtain⟨x8,rfl,hm⟩:=hm
 replace hm:=Ai hm;obtain⟨x9,rfl,hm⟩:=hm
 replace hm:=Be hm;obtain⟨b0,rfl,hm⟩:=hm
 unfold Aey at hm
 refine⟨by simp,?_⟩
 refine .same (F':=(fr 63 [(0,(.agg ⟨[zI x0,zI x1,zI x2,zI x3,(zU x4),(zU x5),(zU x6)]⟩)),(1,(zU x7)),(2,(.agg ⟨[zI x8,zI x9,zB b0]⟩))])) (H':=(hp 0 [])) (by kernel_rfl) (by kernel_rfl) ?_
 refine .then (.rK (.ghs (fr 63 [(1,(zU x7)),(3,(pt 0 0)),(5,pt 1 0)]) (hp 2 [(oC [zI x0,zI x1,zI x2,zI x3,(zU x4),(zU x5),(zU x6)]),(oC [zI x8,zI x9,zB b0])]) (.k0 [] [.tmp 3 false,.tmp 5 false] [1,3,5]) ?_))
 refine .then ?_
 replace hm:=Ab hm;obtain⟨v10,h0,hm⟩:=hm
 replace hm:=Ch hm;obtain⟨l2,rfl,hm⟩:=hm
 replace hm:=Ad hm;obtain⟨v11,l16568_0,rfl,hm⟩:=hm
 replace hm:=Ad hm;obtain⟨v12,l16568_1,rfl,hm⟩:=hm
 replace hm:=AC hm;obtain⟨rfl,hm⟩:=hm
 replace hm:=Ai hm;obtain⟨x10,rfl,hm⟩:=hm
 replace hm:=Ai hm;obtain⟨x11,rfl,hm⟩:=hm
 refine .reg (eC 4 ((oo (pu 38 [(.agg ⟨[zI x0,zI x1,zI x2,zI x3]⟩),zB b0]) none fun v=>some (v,(hp 2 [(oC [zI x0,zI x1,zI x2,zI x3,(zU x4),(zU x5),(zU x6)]),(oC [zI x8,zI x9,zB b0])])))) (AB h0) (eE)) ?_
 refine .ghs (fr 63 [(1,(zU x7)),(3,(pt 0 0)),(5,pt 1 0),(8,zI x10),(9,zI x11)]) (hp 2 [(oC [zI x0,zI x1,zI x2,zI x3,(zU x4),(zU x5),(zU x6)]),(oC [zI x8,zI x9,zB b0])]) (.k0 [] [.tmp 3 false,.tmp 5 false] [1,3,5,8,9]) ?_
 refine .then (.join (v:=v) (fun y:Int×Bool×Int×Int×Int×Int×Int×Int×Int×Int×Int×Bool=>((fr 63 [(1,(zU y.1)),(3,(pt 0 0)),(5,pt 1 0),(36,(zB y.2.1))]),(hp 2 [(oC [(zI y.2.2.1),(zI y.2.2.2.1),(zI y.2.2.2.2.1),(zI y.2.2.2.2.2.1),(zU y.2.2.2.2.2.2.1),(zU y.2.2.2.2.2.2.2.1),(zU y.2.2.2.2.2.2.2.2.1)]),(oC [(zI y.2.2.2.2.2.2.2.2.2.1),(zI y.2.2.2.2.2.2.2.2.2.2.1),(zB y.2.2.2.2.2.2.2.2.2.2.2)])]))) (fun y=>Sn pu n y.1 y.2.1 y.2.2.1 y.2.2.2.1 y.2.2.2.2.1 y.2.2.2.2.2.1 y.2.2.2.2.2.2.1 y.2.2.2.2.2.2.2.1 y.2.2.2.2.2.2.2.2.1 y.2.2.2.2.2.2.2.2.2.1 y.2.2.2.2.2.2.2.2.2.2.1 y.2.2.2.2.2.2.2.2.2.2.2) ?_ ?_)
 ·rintro⟨z0,b1,z1,z2,z3,z4,z5,z6,z7,z8,z9,b2⟩ hm
  unfold Sn at hm
  replace hm:=Ag hm;rcases hm with⟨h1,hm⟩ | ⟨h1,hm⟩
  ·refine .ifT b1 (by kernel_rfl) h1 ?_
   refine .then (.rK (.ghs (fr 63 [(6,(zU (0:Int))),(7,zB false)]) (hp 0 []) (.k0 [] [] [6,7]) ?_))
   refine .ret ?_
   exact Ay (.tuple ⟨[(zU (0:Int)),zB false]⟩) hm
  ·refine .ifF b1 (by kernel_rfl) h1 ?_
   refine .skip (.ghs (fr 63 [(1,(zU z0)),(3,(pt 0 0)),(5,pt 1 0)]) (hp 2 [(oC [zI z1,zI z2,zI z3,zI z4,(zU z5),(zU z6),(zU z7)]),(oC [zI z8,zI z9,zB b2])]) (.k0 [] [.tmp 3 false,.tmp 5 false] [1,3,5]) ?_)
   refine .then (.rK (.ghs (fr 63 [(1,(zU z0)),(3,(pt 0 0)),(5,pt 1 0),(10,(zU z5))]) (hp 2 [(oC [zI z1,zI z2,zI z3,zI z4,(zU z5),(zU z6),(zU z7)]),(oC [zI z8,zI z9,zB b2])]) (.k0 [] [.tmp 3 false,.tmp 5 false] [1,3,5,10]) ?_))
   refine .join (v:=v) (fun y:Int×Int×Int×Int×Int×Int×Int×Int×Int×Int×Int×Bool=>((fr 63 [(1,(zU y.1)),(3,(pt 0 0)),(5,pt 1 0),(10,(zU y.2.1))]),(hp 2 [(oC [(zI y.2.2.1),(zI y.2.2.2.1),(zI y.2.2.2.2.1),(zI y.2.2.2.2.2.1),(zU y.2.2.2.2.2.2.1),(zU y.2.2.2.2.2.2.2.1),(zU y.2.2.2.2.2.2.2.2.1)]),(oC [(zI y.2.2.2.2.2.2.2.2.2.1),(zI y.2.2.2.2.2.2.2.2.2.2.1),(zB y.2.2.2.2.2.2.2.2.2.2.2)])]))) (fun y=>PL pu n y.1 y.2.1 y.2.2.1 y.2.2.2.1 y.2.2.2.2.1 y.2.2.2.2.2.1 y.2.2.2.2.2.2.1 y.2.2.2.2.2.2.2.1 y.2.2.2.2.2.2.2.2.1 y.2.2.2.2.2.2.2.2.2.1 y.2.2.2.2.2.2.2.2.2.2.1 y.2.2.2.2.2.2.2.2.2.2.2) ?_ ?_
   ·rintro⟨z10,z11,z12,z13,z14,z15,z16,z17,z18,z19,z20,b3⟩ hm
    exact Aez pu n z10 z11 z12 z13 z14 z15 z16 z17 z18 z19 z20 b3 hm
   ·refine .then (.rK (.ghs (fr 63 [(1,(zU z0)),(3,(pt 0 0)),(5,pt 1 0),(10,(zU z5)),(41,zB b2)]) (hp 2 [(oC [zI z1,zI z2,zI z3,zI z4,(zU z5),(zU z6),(zU z7)]),(oC [zI z8,zI z9,zB b2])]) (.k0 [] [.tmp 3 false,.tmp 5 false] [1,3,5,10,41]) ?_))
    replace hm:=Ag hm;rcases hm with⟨h2,hm⟩ | ⟨h2,hm⟩
    ·refine .ifT b2 (by kernel_rfl) h2 ?_
     refine .rK ?_
     exact⟨(z0,z6,z1,z2,z3,z4,z5,z6,z7,z8,z9,b2),hm,(.k0 [] [.tmp 3 false,.tmp 5 false] [1,3,5,10])⟩
    ·refine .ifF b2 (by kernel_rfl) h2 ?_
     refine .skip ?_
     exact⟨(z0,z5,z1,z2,z3,z4,z5,z6,z7,z8,z9,b2),hm,(.k0 [] [.tmp 3 false,.tmp 5 false] [1,3,5,10])⟩
 ·replace hm:=Ag hm;rcases hm with⟨h3,hm⟩ | ⟨h3,hm⟩
  ·refine .reg (eC 7 (some ((zB (AY x0 (Aj .i64 (Int.add x8 x10)))),(hp 2 [(oC [zI x0,zI x1,zI x2,zI x3,(zU x4),(zU x5),(zU x6)]),(oC [zI x8,zI x9,zB b0])]))) (show _=some ((zB true),_) from (by rw[show (AY x0 (Aj .i64 (Int.add x8 x10)))=true from h3])) (eE)) ?_
   exact⟨(x7,true,x0,x1,x2,x3,x4,x5,x6,x8,x9,b0),hm,(.k0 [] [.tmp 3 false,.tmp 5 false] [1,3,5,36])⟩
  ·refine .reg (eC 7 (some ((zB (AY x0 (Aj .i64 (Int.add x8 x10)))),(hp 2 [(oC [zI x0,zI x1,zI x2,zI x3,(zU x4),(zU x5),(zU x6)]),(oC [zI x8,zI x9,zB b0])]))) (show _=some ((zB false),_) from (by rw[show (AY x0 (Aj .i64 (Int.add x8 x10)))=false from h3])) (eE)) ?_
   exact⟨(x7,(AY x1 (Aj .i64 (Int.add x9 x11))),x0,x1,x2,x3,x4,x5,x6,x8,x9,b0),hm,(.k0 [] [.tmp 3 false,.tmp 5 false] [1,3,5,36])⟩
def Sq (pu:Af) (n:Nat) (z0 z1:Int):OV:=
 (some (.tuple ⟨[.int .u8 z0,.int .u8 z1]⟩))
def WL (pu:Af) (n:Nat) (ih0:Int→Int→Sl→Int→Int→Int→Int→Int→Int→OV) (z0 z1:Int) (s0:Sl) (z2 z3 z4 z5 z6 z7:Int):OV:=
 (bb (AY z3 z2) (oo (EA z3) none fun k1=>(bb (an (Nat.blt k1 (Sl.n s0)) true) (bb (Nat.ble ((k1*3)+3) (len (Sl.cs s0))) (oo (AL (Sl.cs s0) (k1*3)) none fun v0=>(oo (Bi .i64 v0) none fun x0=>(oo (AL (Sl.cs s0) ((k1*3)+1)) none fun v1=>(oo (Bi .i64 v1) none fun x1=>(oo (AL (Sl.cs s0) (((k1*3)+1)+1)) none fun v2=>(oo (Bf v2) none fun b0=>(oo (pu 38 [(.agg ⟨[.int .i64 z4,.int .i64 z5,.int .i64 z6,.int .i64 z7]⟩),(.bool b0)]) none fun v3=>(oo (CQ v3) none fun l0=>(ll l0 none fun v4 l0=>(ll l0 none fun v5 l0=>(ll l0 (oo (Bi .i64 v4) none fun x2=>(oo (Bi .i64 v5) none fun x3=>(oo (EA (Aj .i64 (Int.sub x2 (1:Int)))) none fun k2=>(oo (EA (Aj .i64 (Int.add x0 (1:Int)))) none fun k3=>(oo (EA (Aj .i64 (Int.sub x3 (1:Int)))) none fun k4=>(oo (EA (Aj .i64 (Int.add x1 (1:Int)))) none fun k5=>(ih0 (QV .u8 z0 (QW .u8 (Aj .u8 (Int.sub (QW .u8 (1:Int) k2) (1:Int))) k3)) (QV .u8 z1 (QW .u8 (Aj .u8 (Int.sub (QW .u8 (1:Int) k4) (1:Int))) k5)) s0 z2 (Aj .i64 (Int.add (Int.ofNat k1) (1:Int))) z4 z5 z6 z7))))))) fun _ _=>none))))))))))) none) none)) (Sq pu n z0 z1))
def WM (pu:Af) (n w:Nat):Int→Int→Sl→Int→Int→Int→Int→Int→Int→OV:=
 Nat.rec (motive:=fun _=>Int→Int→Sl→Int→Int→Int→Int→Int→Int→OV) (fun _ _ _ _ _ _ _ _ _=>none) (fun _ ih0=>WL pu n ih0) w
def AeA (pu:Af) (n:Nat) (x0 x1 x2 x3:Int) (s0:Sl):OV:=
 (oo (EA x0) none fun k1=>(oo (EA x1) none fun k2=>(WM pu n n (Aj .u8 (Int.sub (QW .u8 (1:Int) k1) (2:Int))) (Aj .u8 (Int.sub (QW .u8 (1:Int) k2) (2:Int))) s0 (Int.ofNat (Sl.n s0)) (0:Int) (Int.ofNat k1) (Int.ofNat k2) x2 x3)))
def m40 (pu:Af) (n:Nat) (args:LV):OV:=
 (ll args none fun a0 args=>(ll args none fun a1 args=>(ll args (oo (Bt a0) none fun l0=>(ll l0 none fun v0 l0=>(ll l0 none fun v1 l0=>(ll l0 none fun v2 l0=>(ll l0 none fun v3 l0=>(ll l0 (oo (Bi .i64 v0) none fun x0=>(oo (Bi .i64 v1) none fun x1=>(oo (Bi .i64 v2) none fun x2=>(oo (Bi .i64 v3) none fun x3=>(oo (Bj 3 a1) none fun s0=>(AeA pu n x0 x1 x2 x3 s0)))))) fun _ _=>none)))))) fun _ _=>none)))
theorem AeB (pu:Af) (n:Nat) (z0 z1:Int) {v:Value} (hm:Sq pu n z0 z1=some v):BN tt (Bb tabs isP pu (inl pu)) 0 UL (fr 54 [(4,(zY z0)),(5,(zY z1))]) (hp 0 []) (Fin tt 0 [.tmp 4,.tmp 5] v):=by
 unfold Sq at hm
 refine .then (.rK (.ghs (fr 54 [(4,(zY z0)),(5,(zY z1))]) (hp 0 []) (.k0 [] [] [4,5]) ?_))
 refine .ret ?_
 exact Ay (.tuple ⟨[(zY z0),(zY z1)]⟩) hm
theorem r40 {call:A8} (pu:Af) (n:Nat) (hcall:call=Bb tabs isP pu (inl pu)) {args:LV} {v:Value} (hm:m40 pu n args=some v) (_:∀ x∈args,closed2 x=true):args.length≤54∧BN tt call 0 OJ (Fr.made 54 args) (Ao tabs) (Fin tt 0 [.tmp 4,.tmp 5] v):=by
 subst hcall
 unfold m40 at hm
 replace hm:=Ad hm;obtain⟨a0,args_0,rfl,hm⟩:=hm
 replace hm:=Ad hm;obtain⟨a1,args_1,rfl,hm⟩:=hm
 replace hm:=AC hm;obtain⟨rfl,hm⟩:=hm
 replace hm:=BG hm;obtain⟨l0,rfl,hm⟩:=hm
 replace hm:=Ad hm;obtain⟨v0,l16614_0,rfl,hm⟩:=hm
 replace hm:=Ad hm;obtain⟨v1,l16614_1,rfl,hm⟩:=hm
 replace hm:=Ad hm;obtain⟨v2,l16614_2,rfl,hm⟩:=hm
 replace hm:=Ad hm;obtain⟨v3,l16614_3,rfl,hm⟩:=hm
 replace hm:=AC hm;obtain⟨rfl,hm⟩:=hm
 replace hm:=Ai hm;obtain⟨x0,rfl,hm⟩:=hm
 replace hm:=Ai hm;obtain⟨x1,rfl,hm⟩:=hm
 replace hm:=Ai hm;obtain⟨x2,rfl,hm⟩:=hm
 replace hm:=Ai hm;obtain⟨x3,rfl,hm⟩:=hm
 replace hm:=Al hm;obtain⟨s0,rfl,hm⟩:=hm
 unfold AeA at hm
 refine⟨by simp,?_⟩
 refine .same (F':=(fr 54 [(0,(.agg ⟨[zI x0,zI x1,zI x2,zI x3]⟩)),(1,(Sl.v 3 s0))])) (H':=(hp 0 [])) (by kernel_rfl) (by kernel_rfl) ?_
 refine .then (.rK (.ghs (fr 54 [(1,(Sl.v 3 s0)),(2,(pt 0 0))]) (hp 1 [(oC [zI x0,zI x1,zI x2,zI x3])]) (.k0 [] [.tmp 2 false] [1,2]) ?_))
 refine .then ?_
 replace hm:=Ab hm;obtain⟨k1,h0,hm⟩:=hm
 obtain rfl:=AR h0
 replace hm:=Ab hm;obtain⟨k2,h1,hm⟩:=hm
 obtain rfl:=AR h1
 refine .rK (.ghs (fr 54 [(1,(Sl.v 3 s0)),(2,(pt 0 0)),(4,(zY (Aj .u8 (Int.sub (QW .u8 (1:Int) k1) (2:Int))))),(5,(zY (Aj .u8 (Int.sub (QW .u8 (1:Int) k2) (2:Int)))))]) (hp 1 [(oC [(zI (Int.ofNat k1)),(zI (Int.ofNat k2)),zI x2,zI x3])]) (.k0 [] [.tmp 2 false] [1,2,4,5]) ?_)
 refine .join (v:=v) (fun y:Int×Int=>((fr 54 [(4,(zY y.1)),(5,(zY y.2))]),(hp 0 []))) (fun y=>Sq pu n y.1 y.2) ?_ ?_
 ·rintro⟨z0,z1⟩ hm
  exact AeB pu n z0 z1 hm
 ·refine .then (.rK (.ghs (fr 54 [(2,(pt 0 0)),(4,(zY (Aj .u8 (Int.sub (QW .u8 (1:Int) k1) (2:Int))))),(5,(zY (Aj .u8 (Int.sub (QW .u8 (1:Int) k2) (2:Int))))),(18,(Sl.v 3 s0)),(19,(zI (Int.ofNat (Sl.n s0)))),(20,(zI (0:Int)))]) (hp 1 [(oC [(zI (Int.ofNat k1)),(zI (Int.ofNat k2)),zI x2,zI x3])]) (.k0 [] [.tmp 2 false] [2,4,5,18,19,20]) ?_))
  refine .block (.loopM (v:=v) (fun y:Int×Int×Sl×Int×Int×Int×Int×Int×Int=>((fr 54 [(2,(pt 0 0)),(4,(zY y.1)),(5,(zY y.2.1)),(18,(Sl.v 3 y.2.2.1)),(19,(zI y.2.2.2.1)),(20,(zI y.2.2.2.2.1))]),(hp 1 [(oC [(zI y.2.2.2.2.2.1),(zI y.2.2.2.2.2.2.1),(zI y.2.2.2.2.2.2.2.1),(zI y.2.2.2.2.2.2.2.2)])]))) (fun w y=>WM pu n w y.1 y.2.1 y.2.2.1 y.2.2.2.1 y.2.2.2.2.1 y.2.2.2.2.2.1 y.2.2.2.2.2.2.1 y.2.2.2.2.2.2.2.1 y.2.2.2.2.2.2.2.2) n ⟨((Aj .u8 (Int.sub (QW .u8 (1:Int) k1) (2:Int))),(Aj .u8 (Int.sub (QW .u8 (1:Int) k2) (2:Int))),s0,(Int.ofNat (Sl.n s0)),(0:Int),(Int.ofNat k1),(Int.ofNat k2),x2,x3),hm,(.k0 [] [.tmp 2 false] [2,4,5,18,19,20])⟩ (fun _=>rfl) ?_)
  rintro w0 ⟨z2,z3,s1,z4,z5,z6,z7,z8,z9⟩ hm
  replace hm:WL pu n (WM pu n w0) z2 z3 s1 z4 z5 z6 z7 z8 z9=some v:=hm
  unfold WL at hm
  refine .then (.rK (.ghs (fr 54 [(2,(pt 0 0)),(4,(zY z2)),(5,(zY z3)),(18,(Sl.v 3 s1)),(19,zI z4),(20,zI z5),(21,(zB (AY z5 z4)))]) (hp 1 [(oC [zI z6,zI z7,zI z8,zI z9])]) (.k0 [] [.tmp 2 false] [2,4,5,18,19,20,21]) ?_))
  refine .then ?_
  replace hm:=Ag hm;rcases hm with⟨h2,hm⟩ | ⟨h2,hm⟩
  ·refine A7 (AY z5 z4) h2 ?_
   refine .skip (.ghs (fr 54 [(2,(pt 0 0)),(4,(zY z2)),(5,(zY z3)),(18,(Sl.v 3 s1)),(19,zI z4),(20,zI z5)]) (hp 1 [(oC [zI z6,zI z7,zI z8,zI z9])]) (.k0 [] [.tmp 2 false] [2,4,5,18,19,20]) ?_)
   refine .then (.block (.then ?_))
   replace hm:=Ab hm;obtain⟨k3,h3,hm⟩:=hm
   obtain rfl:=AR h3
   replace hm:=Ae hm;obtain⟨h4,hm⟩:=hm
   replace hm:=Ae hm;obtain⟨h5,hm⟩:=hm
   replace hm:=Dn hm;obtain⟨x4,h6,hm⟩:=hm
   replace hm:=Dn hm;obtain⟨x5,h7,hm⟩:=hm
   replace hm:=Jf hm;obtain⟨b0,h8,hm⟩:=hm
   refine .reg (eD (keep (hp 1 [(oC [zI z6,zI z7,zI z8,zI z9])]) (bb (an (Nat.blt k3 (Sl.n s1)) true) (some (Cv (k3*3) (Sl.cs s1))) none)) (AX h4) (eD (keep (hp 1 [(oC [zI z6,zI z7,zI z8,zI z9])]) (bb (Nat.ble ((k3*3)+3) (len (Sl.cs s1))) (some (.agg ⟨Aq 3 (Am (k3*3) (Sl.cs s1))⟩)) none)) (Pd h5 (Ca h6 (Ca h7 (Ca h8 rfl)))) (eE))) ?_
   refine .ghs (fr 54 [(2,(pt 0 0)),(4,(zY z2)),(5,(zY z3)),(7,pt 1 0),(18,(Sl.v 3 s1)),(19,zI z4),(20,(zI (Int.ofNat k3)))]) (hp 2 [(oC [zI z6,zI z7,zI z8,zI z9]),(oC [zI x4,zI x5,zB b0])]) (.k0 [] [.tmp 2 false,.tmp 7 false] [2,4,5,7,18,19,20]) ?_
   refine .then ?_
   replace hm:=Ab hm;obtain⟨v4,h9,hm⟩:=hm
   replace hm:=Ch hm;obtain⟨l1,rfl,hm⟩:=hm
   replace hm:=Ad hm;obtain⟨v5,l16850_0,rfl,hm⟩:=hm
   replace hm:=Ad hm;obtain⟨v6,l16850_1,rfl,hm⟩:=hm
   replace hm:=AC hm;obtain⟨rfl,hm⟩:=hm
   replace hm:=Ai hm;obtain⟨x6,rfl,hm⟩:=hm
   replace hm:=Ai hm;obtain⟨x7,rfl,hm⟩:=hm
   refine .reg (eC 3 ((oo (pu 38 [(.agg ⟨[zI z6,zI z7,zI z8,zI z9]⟩),zB b0]) none fun v=>some (v,(hp 2 [(oC [zI z6,zI z7,zI z8,zI z9]),(oC [zI x4,zI x5,zB b0])])))) (AB h9) (eE)) ?_
   refine .ghs (fr 54 [(2,(pt 0 0)),(4,(zY z2)),(5,(zY z3)),(7,pt 1 0),(8,zI x6),(9,zI x7),(18,(Sl.v 3 s1)),(19,zI z4),(20,(zI (Int.ofNat k3)))]) (hp 2 [(oC [zI z6,zI z7,zI z8,zI z9]),(oC [zI x4,zI x5,zB b0])]) (.k0 [] [.tmp 2 false,.tmp 7 false] [2,4,5,7,8,9,18,19,20]) ?_
   refine .then ?_
   replace hm:=Ab hm;obtain⟨k4,h10,hm⟩:=hm
   replace hm:=Ab hm;obtain⟨k5,h11,hm⟩:=hm
   refine .reg (eC 2 (some ((zI (Aj .i64 (Int.sub x6 (1:Int)))),(hp 2 [(oC [zI z6,zI z7,zI z8,zI z9]),(oC [zI x4,zI x5,zB b0])]))) (show _=some ((zI (Int.ofNat k4)),_) from (by rw[AR h10])) (eC 4 (some ((zI (Aj .i64 (Int.add x4 (1:Int)))),(hp 2 [(oC [zI z6,zI z7,zI z8,zI z9]),(oC [zI x4,zI x5,zB b0])]))) (show _=some ((zI (Int.ofNat k5)),_) from (by rw[AR h11])) (eE))) ?_
   refine .ghs (fr 54 [(2,(pt 0 0)),(4,(zY (QV .u8 z2 (QW .u8 (Aj .u8 (Int.sub (QW .u8 (1:Int) k4) (1:Int))) k5)))),(5,(zY z3)),(7,pt 1 0),(9,zI x7),(18,(Sl.v 3 s1)),(19,zI z4),(20,(zI (Int.ofNat k3)))]) (hp 2 [(oC [zI z6,zI z7,zI z8,zI z9]),(oC [zI x4,zI x5,zB b0])]) (.k0 [] [.tmp 2 false,.tmp 7 false] [2,4,5,7,9,18,19,20]) ?_
   replace hm:=Ab hm;obtain⟨k6,h12,hm⟩:=hm
   replace hm:=Ab hm;obtain⟨k7,h13,hm⟩:=hm
   refine .reg (eC 2 (some ((zI (Aj .i64 (Int.sub x7 (1:Int)))),(hp 2 [(oC [zI z6,zI z7,zI z8,zI z9]),(oC [zI x4,zI x5,zB b0])]))) (show _=some ((zI (Int.ofNat k6)),_) from (by rw[AR h12])) (eC 4 (some ((zI (Aj .i64 (Int.add x5 (1:Int)))),(hp 2 [(oC [zI z6,zI z7,zI z8,zI z9]),(oC [zI x4,zI x5,zB b0])]))) (show _=some ((zI (Int.ofNat k7)),_) from (by rw[AR h13])) (eE))) ?_
   refine .ghs (fr 54 [(2,(pt 0 0)),(4,(zY (QV .u8 z2 (QW .u8 (Aj .u8 (Int.sub (QW .u8 (1:Int) k4) (1:Int))) k5)))),(5,(zY (QV .u8 z3 (QW .u8 (Aj .u8 (Int.sub (QW .u8 (1:Int) k6) (1:Int))) k7)))),(18,(Sl.v 3 s1)),(19,zI z4),(20,(zI (Int.ofNat k3)))]) (hp 1 [(oC [zI z6,zI z7,zI z8,zI z9])]) (.k0 [] [.tmp 2 false] [2,4,5,18,19,20]) ?_
   refine .rK ?_
   exact⟨((QV .u8 z2 (QW .u8 (Aj .u8 (Int.sub (QW .u8 (1:Int) k4) (1:Int))) k5)),(QV .u8 z3 (QW .u8 (Aj .u8 (Int.sub (QW .u8 (1:Int) k6) (1:Int))) k7)),s1,z4,(Aj .i64 (Int.add (Int.ofNat k3) (1:Int))),z6,z7,z8,z9),hm,(.k0 [] [.tmp 2 false] [2,4,5,18,19,20])⟩
  ·refine Bp (AY z5 z4) h2 ?_
   refine .exit ?_
   exact⟨(z2,z3),hm,(.k0 [] [] [4,5])⟩
def Sz (pu:Af) (n n0 c0:Nat) (q0:LV):OV:=
 (bb (Au Ah q0) (bb (an (Nat.ble (0+n0*1) (len q0)) (Au Ah (Aq (n0*1) (Am 0 q0)))) (some (Sl.v 1 (Sl.mk n0 0 (Aq (n0*1) (Am 0 q0))))) none) none)
def SA (pu:Af) (n:Nat) (ih0:Int→Nat→Nat→Int→LV→OV) (z0:Int) (n0 c0:Nat) (z1:Int) (q0:LV):OV:=
 (bb (Au Ah q0) (ih0 z0 n0 c0 (Aj .i64 (Int.add z1 (1:Int))) q0) none)
def WN (pu:Af) (n:Nat) (ih0:Int→Nat→Nat→Int→LV→OV) (z0:Int) (n0 c0:Nat) (z1:Int) (q0:LV):OV:=
 (bb (Au Ah q0) (bb (AY z1 (8:Int)) (oo (EA z1) none fun k1=>(bb (Bd (Np .u8 (G6 .u8 z0 k1) (1:Int)) (1:Int)) (bb (GV 1 8 n0 c0 1 q0) (bb (Au Ah (Br (Am 0 q0) [(.int .i64 (Int.ofNat k1))])) (SA pu n ih0 z0 (n0+1) (2*(n0+1)+bb false 1 0) (Int.ofNat k1) (Br (Am 0 q0) [(.int .i64 (Int.ofNat k1))])) none) none) (SA pu n ih0 z0 n0 c0 (Int.ofNat k1) q0))) (Sz pu n n0 c0 q0)) none)
def SB (pu:Af) (n w:Nat):Int→Nat→Nat→Int→LV→OV:=
 Nat.rec (motive:=fun _=>Int→Nat→Nat→Int→LV→OV) (fun _ _ _ _ _=>none) (fun _ ih0=>WN pu n ih0) w
def AeC (pu:Af) (n:Nat) (x0:Int):OV:=
 (SB pu n n x0 0 0 (0:Int) ([]:LV))
def m41 (pu:Af) (n:Nat) (args:LV):OV:=
 (ll args none fun a0 args=>(ll args (oo (Bi .u8 a0) none fun x0=>(AeC pu n x0)) fun _ _=>none))
theorem AeD (pu:Af) (n n0 c0:Nat) (q0:LV) {v:Value} (hm:Sz pu n n0 c0 q0=some v):BN tt (Bb tabs isP pu (inl pu)) 0 UM (fr 19 [(3,sc 0 0 1 n0 c0)]) (hp 1 [oC q0]) (Fin tt 0 [.tmp 2] v):=by
 unfold Sz at hm
 refine .then (.rK ?_)
 replace hm:=Ae hm;obtain⟨h0,hm⟩:=hm
 refine .ghs (fr 19 [(2,sc 0 0 1 n0 c0)]) (hp 1 [oC q0]) (.k [0] [] [.tmp 2 false] [2] ⟨AO h0,trivial⟩) ?_
 replace hm:=Ae hm;obtain⟨h1,hm⟩:=hm
 refine .ghs (Fr.puts (fr 19 [(2,sc 0 0 1 n0 c0)]) [(2,(Sl.v 1 (Sl.mk n0 0 (Aq (n0*1) (Am 0 q0)))))]) (hp 1 [.dead]) (.freezeC 0 2 1 (an (Nat.ble (0+n0*1) (len q0)) (Au Ah (Aq (n0*1) (Am 0 q0)))) (F1:=(Fr.puts (fr 19 [(2,sc 0 0 1 n0 c0)]) [(2,(Sl.v 1 (Sl.mk n0 0 (Aq (n0*1) (Am 0 q0)))))])) (H1:=(hp 1 [.dead])) (by kernel_rfl) (by kernel_rfl) h1 (E9.id _ _)) ?_
 refine .ret ?_
 exact Ay (Sl.v 1 (Sl.mk n0 0 (Aq (n0*1) (Am 0 q0)))) hm
theorem r41 {call:A8} (pu:Af) (n:Nat) (hcall:call=Bb tabs isP pu (inl pu)) {args:LV} {v:Value} (hm:m41 pu n args=some v) (_:∀ x∈args,closed2 x=true):args.length≤19∧BN tt call 0 OL (Fr.made 19 args) (Ao tabs) (Fin tt 0 [.tmp 2] v):=by
 subst hcall
 unfold m41 at hm
 replace hm:=Ad hm;obtain⟨a0,args_0,rfl,hm⟩:=hm
 replace hm:=AC hm;obtain⟨rfl,hm⟩:=hm
 replace hm:=Ai hm;obtain⟨x0,rfl,hm⟩:=hm
 unfold AeC at hm
 refine⟨by simp,?_⟩
 refine .same (F':=(fr 19 [(0,(zY x0))])) (H':=(hp 0 [])) (by kernel_rfl) (by kernel_rfl) ?_
 refine .then (.rK (.ghs (fr 19 [(0,(zY x0))]) (hp 0 []) (.k0 [] [] [0]) ?_))
 refine .then (.rK (.ghs (fr 19 [(0,(zY x0)),(3,(.slice none 0 0))]) (hp 0 []) (.k0 [] [] [0,3]) ?_))
 refine .join (v:=v) (fun y:Nat×Nat×LV=>((fr 19 [(3,(sc 0 0 1 y.1 y.2.1))]),(hp 1 [(oC y.2.2)]))) (fun y=>Sz pu n y.1 y.2.1 y.2.2) ?_ ?_
 ·rintro⟨n0,c0,q0⟩ hm
  exact AeD pu n n0 c0 q0 hm
 ·refine .then (.rK (.ghs (fr 19 [(0,(zY x0)),(3,(.slice none 0 0)),(5,(zI (0:Int)))]) (hp 0 []) (.k0 [] [] [0,3,5]) ?_))
  refine .block (.loopM (v:=v) (fun y:Int×Nat×Nat×Int×LV=>((fr 19 [(0,(zY y.1)),(3,(sc 0 0 1 y.2.1 y.2.2.1)),(5,(zI y.2.2.2.1))]),(hp 1 [(oC y.2.2.2.2)]))) (fun w y=>SB pu n w y.1 y.2.1 y.2.2.1 y.2.2.2.1 y.2.2.2.2) n ⟨(x0,0,0,(0:Int),([]:LV)),hm,(.thaw 3 1 (by kernel_rfl) (.k0 [] [.tmp 3 false] [0,3,5]))⟩ (fun _=>rfl) ?_)
  rintro w0 ⟨z0,n1,c1,z1,q1⟩ hm
  replace hm:WN pu n (SB pu n w0) z0 n1 c1 z1 q1=some v:=hm
  unfold WN at hm
  refine .then (.rK ?_)
  replace hm:=Ae hm;obtain⟨h0,hm⟩:=hm
  refine .ghs (fr 19 [(0,(zY z0)),(3,sc 0 0 1 n1 c1),(5,zI z1),(6,(zB (AY z1 (8:Int))))]) (hp 1 [oC q1]) (.k [0] [] [.tmp 3 false] [0,3,5,6] ⟨AO h0,trivial⟩) ?_
  refine .then ?_
  replace hm:=Ag hm;rcases hm with⟨h1,hm⟩ | ⟨h1,hm⟩
  ·refine A7 (AY z1 (8:Int)) h1 ?_
   refine .skip (.ghs (fr 19 [(0,(zY z0)),(3,sc 0 0 1 n1 c1),(5,zI z1)]) (hp 1 [oC q1]) (.k [0] [] [.tmp 3 false] [0,3,5] ⟨AO h0,trivial⟩) ?_)
   refine .join (v:=v) (fun y:Int×Nat×Nat×Int×LV=>((fr 19 [(0,(zY y.1)),(3,(sc 0 0 1 y.2.1 y.2.2.1)),(5,(zI y.2.2.2.1))]),(hp 1 [(oC y.2.2.2.2)]))) (fun y=>SA pu n (SB pu n w0) y.1 y.2.1 y.2.2.1 y.2.2.2.1 y.2.2.2.2) ?_ ?_
   ·rintro⟨z2,n2,c2,z3,q2⟩ hm
    unfold SA at hm
    refine .rK ?_
    replace hm:=Ae hm;obtain⟨h2,hm⟩:=hm
    exact⟨(z2,n2,c2,(Aj .i64 (Int.add z3 (1:Int))),q2),hm,(.k [0] [] [.tmp 3 false] [0,3,5] ⟨AO h2,trivial⟩)⟩
   ·refine .block (.then (.rK (.ghs (fr 19 [(0,(zY z0)),(3,sc 0 0 1 n1 c1),(4,zI z1),(5,zI z1)]) (hp 1 [oC q1]) (.k [0] [] [.tmp 3 false] [0,3,4,5] ⟨AO h0,trivial⟩) ?_)))
    refine .then ?_
    replace hm:=Ab hm;obtain⟨k1,h3,hm⟩:=hm
    obtain rfl:=AR h3
    refine .rK (.ghs (fr 19 [(0,(zY z0)),(3,sc 0 0 1 n1 c1),(4,(zI (Int.ofNat k1))),(5,(zI (Int.ofNat k1))),(12,(zB (Bd (Np .u8 (G6 .u8 z0 k1) (1:Int)) (1:Int))))]) (hp 1 [oC q1]) (.k [0] [] [.tmp 3 false] [0,3,4,5,12] ⟨AO h0,trivial⟩) ?_)
    replace hm:=Ag hm;rcases hm with⟨h4,hm⟩ | ⟨h4,hm⟩
    ·refine A7 (Bd (Np .u8 (G6 .u8 z0 k1) (1:Int)) (1:Int)) h4 ?_
     replace hm:=Ae hm;obtain⟨h5,hm⟩:=hm
     refine .reg (eC 3 (Oc 1 8 n1 c1 1 0 q1 [(zI (Int.ofNat k1))] [] (hp 2 [oC q1,(oC [(zI (Int.ofNat k1))])])) (I1 h5) (eE)) ?_
     replace hm:=Ae hm;obtain⟨h6,hm⟩:=hm
     exact⟨(z0,(n1+1),(d2 (n1+1)),(Int.ofNat k1),(Br (Am 0 q1) [(zI (Int.ofNat k1))])),hm,(.k [2] [] [.tmp 3 false] [0,3,5] ⟨AO h6,trivial⟩)⟩
    ·refine Bp (Bd (Np .u8 (G6 .u8 z0 k1) (1:Int)) (1:Int)) h4 ?_
     refine .skip ?_
     exact⟨(z0,n1,c1,(Int.ofNat k1),q1),hm,(.k [0] [] [.tmp 3 false] [0,3,5] ⟨AO h0,trivial⟩)⟩
  ·refine Bp (AY z1 (8:Int)) h1 ?_
   refine .exit ?_
   exact⟨(n1,c1,q1),hm,(.k [0] [] [.tmp 3 false] [3] ⟨AO h0,trivial⟩)⟩
end
end Go.TpMM
