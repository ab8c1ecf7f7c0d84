/- Made from wip. -/
import Derived.Test.YtokbaaeimejjlaaDoorBkMMod0x

set_option maxRecDepth 100000
set_option maxHeartbeats 20000000
set_option linter.unusedVariables false
namespace Go.BkMM
open Go.Sp Go.BkM
noncomputable section
def XT (pu:Af) (n n0 c0:Nat) (q0:LV):OV:=
 (bb (Au Ah q0) (bb (an (Nat.ble (0+n0*1) (len q0)) (Au Ah (Aq (n0*1) (Am 0 q0)))) (some (Sl.v 1 (Sl.mk n0 0 (Aq (n0*1) (Am 0 q0))))) none) none)
def Pp (pu:Af) (n:Nat) (ih0:Sl→Nat→Nat→Sl→Int→Int→LV→OV) (s0:Sl) (n0 c0:Nat) (s1:Sl) (z0 z1:Int) (q0:LV):OV:=
 (bb (Au Ah q0) (bb (AY z1 z0) (oo (EA z1) none fun k1=>(bb (an (Nat.blt k1 (Sl.n s1)) true) (oo (AL (Sl.cs s1) (k1*1)) none fun v0=>(oo (Bi .i64 v0) none fun x0=>(oo (EA x0) none fun k2=>(bb (an (Nat.blt k2 (Sl.n s0)) true) (oo (AL (Sl.cs s0) (k2*1)) none fun v1=>(oo (Bi .i64 v1) none fun x1=>(bb (an (Nat.blt k1 n0) true) (bb (an (Nat.ble ((0+k1*1)+1) (len q0)) true) (bb (Au Ah (BM ([.int .i64 x1]:LV) (0+k1*1) q0)) (ih0 s0 n0 c0 s1 z0 (Aj .i64 (Int.add (Int.ofNat k1) (1:Int))) (BM ([.int .i64 x1]:LV) (0+k1*1) q0)) none) none) none))) none)))) none)) (XT pu n n0 c0 q0)) none)
def OT (pu:Af) (n w:Nat):Sl→Nat→Nat→Sl→Int→Int→LV→OV:=
 Nat.rec (motive:=fun _=>Sl→Nat→Nat→Sl→Int→Int→LV→OV) (fun _ _ _ _ _ _ _=>none) (fun _ ih0=>Pp pu n ih0) w
def AfI (pu:Af) (n:Nat) (p0:Db) (s0:Sl) (x0:Int):OV:=
 (bb (an (Nat.ble (Sl.n s0) (Sl.n s0)) (an (Nat.ble ((Sl.n s0)*8) 1099511627776) (an (Nat.ble (Sl.n s0) 1099511627776) true))) (bb (Au Ah (AF ([(.int .i64 (0:Int))]:LV) (Sl.n s0))) (oo (AL (Db.cs p0) ((Db.off p0)+4)) none fun v0=>(oo (Bj 1 v0) none fun s1=>(oo (EA x0) none fun k1=>(bb (an (Nat.blt k1 (Sl.n s1)) true) (oo (AL (Sl.cs s1) (k1*1)) none fun v1=>(oo (Bj 1 v1) none fun s2=>(OT pu n n s0 (Sl.n s0) (2*(Sl.n s0)+bb true 1 0) s2 (Int.ofNat (Sl.n s2)) (0:Int) (AF ([(.int .i64 (0:Int))]:LV) (Sl.n s0))))) none)))) none) none)
def m34 (pu:Af) (n:Nat) (args:LV):OV:=
 (ll args none fun a0 args=>(ll args none fun a1 args=>(ll args none fun a2 args=>(ll args (oo (Pv a0) none fun p0=>(oo (Bj 1 a1) none fun s0=>(oo (Bi .i64 a2) none fun x0=>(AfI pu n p0 s0 x0)))) fun _ _=>none))))
theorem AfK (pu:Af) (n n0 c0:Nat) (q0:LV) {v:Value} (hm:XT pu n n0 c0 q0=some v):BN tt (Bb tabs isP pu (inl pu)) 1 bR (fr 35 [(7,sc 1 0 1 n0 c0)]) (hT 2 [oC q0]) (Fin tt 1 [.tmp 6] v):=by
 unfold XT at hm
 refine .then (.rK ?_)
 replace hm:=Ae hm;obtain⟨h0,hm⟩:=hm
 refine .ghs (fr 35 [(6,sc 1 0 1 n0 c0)]) (hT 2 [oC q0]) (.k [1] [false] [.tmp 6 false] [6] ⟨Bq h0,trivial⟩) ?_
 replace hm:=Ae hm;obtain⟨h1,hm⟩:=hm
 refine .ghs (Fr.puts (fr 35 [(6,sc 1 0 1 n0 c0)]) [(6,(Sl.v 1 (Sl.mk n0 0 (Aq (n0*1) (Am 0 q0)))))]) (hT 2 [.dead]) (.freezeC 1 6 1 (an (Nat.ble (0+n0*1) (len q0)) (Au Ah (Aq (n0*1) (Am 0 q0)))) (F1:=(Fr.puts (fr 35 [(6,sc 1 0 1 n0 c0)]) [(6,(Sl.v 1 (Sl.mk n0 0 (Aq (n0*1) (Am 0 q0)))))])) (H1:=(hT 2 [.dead])) (by kernel_rfl) (by kernel_rfl) h1 (E9.id _ _)) ?_
 refine .ret ?_
 exact AO (Sl.v 1 (Sl.mk n0 0 (Aq (n0*1) (Am 0 q0)))) hm
theorem r34 {call:A8} (pu:Af) (n:Nat) (hcall:call=Bb tabs isP pu (inl pu)) {args:LV} {v:Value} (hm:m34 pu n args=some v) (_:∀ x∈args,closed2 x=true):args.length≤35∧BN tt call 1 SF (Fr.made 35 args) (Ao tabs) (Fin tt 1 [.tmp 6] v):=by
 subst hcall
 unfold m34 at hm
 replace hm:=Ad hm;obtain⟨a0,args_0,rfl,hm⟩:=hm
 replace hm:=Ad hm;obtain⟨a1,args_1,rfl,hm⟩:=hm
 replace hm:=Ad hm;obtain⟨a2,args_2,rfl,hm⟩:=hm
 replace hm:=AC hm;obtain⟨rfl,hm⟩:=hm
 replace hm:=Ab hm;obtain⟨p0,h0,hm⟩:=hm
 obtain rfl:=F7 h0
 replace hm:=Al hm;obtain⟨s0,rfl,hm⟩:=hm
 replace hm:=Ai hm;obtain⟨x0,rfl,hm⟩:=hm
 unfold AfI at hm
 refine⟨by simp,?_⟩
 refine .same (F':=(fr 35 [(0,(Cv (Db.off p0) (Db.cs p0))),(1,Sl.v 1 s0),(2,zI x0)])) (H':=Ay) (by kernel_rfl) (by kernel_rfl) ?_
 refine .then (.rK (.ghs (fr 35 [(0,(Cv (Db.off p0) (Db.cs p0))),(1,Sl.v 1 s0),(2,zI x0)]) Ay (.k0 [false] [] [0,1,2]) ?_))
 refine .then ?_
 replace hm:=Ae hm;obtain⟨h1,hm⟩:=hm
 refine .reg (eC 2 (bb (an (Nat.ble (Sl.n s0) (Sl.n s0)) (an (Nat.ble ((Sl.n s0)*8) 1099511627776) (an (Nat.ble (Sl.n s0) 1099511627776) true))) (some ((sc 1 0 1 (Sl.n s0) (2*(Sl.n s0)+bb true 1 0)),(hT 2 [(oC (AF ([(zI (0:Int))]:LV) (Sl.n s0)))]))) none) (kH h1) (eE)) ?_
 replace hm:=Ae hm;obtain⟨h2,hm⟩:=hm
 refine .ghs (fr 35 [(0,(Cv (Db.off p0) (Db.cs p0))),(1,Sl.v 1 s0),(2,zI x0),(7,(sc 1 0 1 (Sl.n s0) (2*(Sl.n s0)+bb true 1 0)))]) (hT 2 [(oC (AF ([(zI (0:Int))]:LV) (Sl.n s0)))]) (.k [1] [false] [.tmp 7 false] [0,1,2,7] ⟨Bq h2,trivial⟩) ?_
 refine .join (v:=v) (fun y:Nat×Nat×LV=>((fr 35 [(7,(sc 1 0 1 y.1 y.2.1))]),(hT 2 [(oC y.2.2)]))) (fun y=>XT pu n y.1 y.2.1 y.2.2) ?_ ?_
 ·rintro⟨n0,c0,q0⟩ hm
  exact AfK pu n n0 c0 q0 hm
 ·refine .then ?_
  replace hm:=LK hm;obtain⟨s1,h3,hm⟩:=hm
  replace hm:=Ab hm;obtain⟨k1,h4,hm⟩:=hm
  obtain rfl:=AR h4
  replace hm:=Ae hm;obtain⟨h5,hm⟩:=hm
  replace hm:=LK hm;obtain⟨s2,h6,hm⟩:=hm
  refine .reg (eC 3 (keep (hT 2 [(oC (AF ([(zI (0:Int))]:LV) (Sl.n s0)))]) (AL (Db.cs p0) ((Db.off p0)+4))) (AZ h3) (eC 1 (keep (hT 2 [(oC (AF ([(zI (0:Int))]:LV) (Sl.n s0)))]) (bb (an (Nat.blt k1 (Sl.n s1)) true) (some (Cv (k1*1) (Sl.cs s1))) none)) (AX h5) (eD (keep (hT 2 [(oC (AF ([(zI (0:Int))]:LV) (Sl.n s0)))]) (AL (Sl.cs s1) (k1*1))) (AZ h6) (eE)))) ?_
  refine .ghs (fr 35 [(1,Sl.v 1 s0),(7,(sc 1 0 1 (Sl.n s0) (2*(Sl.n s0)+bb true 1 0))),(19,Sl.v 1 s2),(20,(zI (Int.ofNat (Sl.n s2)))),(21,(zI (0:Int)))]) (hT 2 [(oC (AF ([(zI (0:Int))]:LV) (Sl.n s0)))]) (.k [1] [false] [.tmp 7 false] [1,7,19,20,21] ⟨Bq h2,trivial⟩) ?_
  refine .block (.loopM (v:=v) (fun y:Sl×Nat×Nat×Sl×Int×Int×LV=>((fr 35 [(1,(Sl.v 1 y.1)),(7,(sc 1 0 1 y.2.1 y.2.2.1)),(19,(Sl.v 1 y.2.2.2.1)),(20,(zI y.2.2.2.2.1)),(21,(zI y.2.2.2.2.2.1))]),(hT 2 [(oC y.2.2.2.2.2.2)]))) (fun w y=>OT pu n w y.1 y.2.1 y.2.2.1 y.2.2.2.1 y.2.2.2.2.1 y.2.2.2.2.2.1 y.2.2.2.2.2.2) n ⟨(s0,(Sl.n s0),(2*(Sl.n s0)+bb true 1 0),s2,(Int.ofNat (Sl.n s2)),(0:Int),(AF ([(zI (0:Int))]:LV) (Sl.n s0))),hm,(.k [1] [false] [.tmp 7 false] [1,7,19,20,21] ⟨Bq h2,trivial⟩)⟩ (fun _=>rfl) ?_)
  rintro w0 ⟨s3,n1,c1,s4,z0,z1,q1⟩ hm
  replace hm:Pp pu n (OT pu n w0) s3 n1 c1 s4 z0 z1 q1=some v:=hm
  unfold Pp at hm
  refine .then (.rK ?_)
  replace hm:=Ae hm;obtain⟨h7,hm⟩:=hm
  refine .ghs (fr 35 [(1,Sl.v 1 s3),(7,sc 1 0 1 n1 c1),(19,Sl.v 1 s4),(20,zI z0),(21,zI z1),(22,(zB (AY z1 z0)))]) (hT 2 [oC q1]) (.k [1] [false] [.tmp 7 false] [1,7,19,20,21,22] ⟨Bq h7,trivial⟩) ?_
  refine .then ?_
  replace hm:=Ag hm;rcases hm with⟨h8,hm⟩ | ⟨h8,hm⟩
  ·refine BB (AY z1 z0) h8 ?_
   refine .skip (.ghs (fr 35 [(1,Sl.v 1 s3),(7,sc 1 0 1 n1 c1),(19,Sl.v 1 s4),(20,zI z0),(21,zI z1)]) (hT 2 [oC q1]) (.k [1] [false] [.tmp 7 false] [1,7,19,20,21] ⟨Bq h7,trivial⟩) ?_)
   refine .then (.block (.then ?_))
   replace hm:=Ab hm;obtain⟨k2,h9,hm⟩:=hm
   obtain rfl:=AR h9
   replace hm:=Ae hm;obtain⟨h10,hm⟩:=hm
   replace hm:=G9 hm;obtain⟨x1,h11,hm⟩:=hm
   refine .reg (eC 1 (keep (hT 2 [oC q1]) (bb (an (Nat.blt k2 (Sl.n s4)) true) (some (Cv (k2*1) (Sl.cs s4))) none)) (AX h10) (eD (keep (hT 2 [oC q1]) (AL (Sl.cs s4) (k2*1))) (AZ h11) (eE))) ?_
   refine .ghs (fr 35 [(1,Sl.v 1 s3),(7,sc 1 0 1 n1 c1),(8,(zI (Int.ofNat k2))),(9,zI x1),(19,Sl.v 1 s4),(20,zI z0),(21,(zI (Int.ofNat k2)))]) (hT 2 [oC q1]) (.k [1] [false] [.tmp 7 false] [1,7,8,9,19,20,21] ⟨Bq h7,trivial⟩) ?_
   replace hm:=Ab hm;obtain⟨k3,h12,hm⟩:=hm
   obtain rfl:=AR h12
   replace hm:=Ae hm;obtain⟨h13,hm⟩:=hm
   replace hm:=G9 hm;obtain⟨x2,h14,hm⟩:=hm
   replace hm:=Ae hm;obtain⟨h15,hm⟩:=hm
   replace hm:=Ae hm;obtain⟨h16,hm⟩:=hm
   refine .reg (eC 4 (keep (hT 2 [oC q1]) (bb (an (Nat.blt k3 (Sl.n s3)) true) (some (Cv (k3*1) (Sl.cs s3))) none)) (AX h13) (eD (keep (hT 2 [oC q1]) (AL (Sl.cs s3) (k3*1))) (AZ h14) (eD (keep (hT 2 [oC q1]) (bb (an (Nat.blt k2 n1) true) (some (.pointer (some ⟨1,(0+k2*1),none⟩))) none)) (AX h15) (eD (done (bb (an (Nat.ble ((0+k2*1)+1) (len q1)) true) (some (hT 2 [(oC (BM ([zI x2]:LV) (0+k2*1) q1))])) none) undef) (Js h16) (eE))))) ?_
   replace hm:=Ae hm;obtain⟨h17,hm⟩:=hm
   refine .ghs (fr 35 [(1,Sl.v 1 s3),(7,sc 1 0 1 n1 c1),(19,Sl.v 1 s4),(20,zI z0),(21,(zI (Int.ofNat k2)))]) (hT 2 [(oC (BM ([zI x2]:LV) (0+k2*1) q1))]) (.k [1] [false] [.tmp 7 false] [1,7,19,20,21] ⟨Bq h17,trivial⟩) ?_
   refine .rK ?_
   exact⟨(s3,n1,c1,s4,z0,(Aj .i64 (Int.add (Int.ofNat k2) (1:Int))),(BM ([zI x2]:LV) (0+k2*1) q1)),hm,(.k [1] [false] [.tmp 7 false] [1,7,19,20,21] ⟨Bq h17,trivial⟩)⟩
  ·refine BI (AY z1 z0) h8 ?_
   refine .exit ?_
   exact⟨(n1,c1,q1),hm,(.k [1] [false] [.tmp 7 false] [7] ⟨Bq h7,trivial⟩)⟩
def RP (pu:Af) (n n0 c0:Nat) (q0:LV):OV:=
 (bb (Dp (Nat.ble 2 c0) (MQ q0)) (bb (Au Ah q0) (oo (pu 10590 [(.slice (some ⟨1,0,some 1⟩) n0 c0),(.func (.func 45) ⟨[]⟩ ⟨[]⟩),(.agg ⟨q0⟩)]) none fun v0=>(oo (CQ v0) none fun l0=>(ll l0 none fun v1 l0=>(ll l0 none fun v2 l0=>(ll l0 (bb (MC v1) (oo (Bt v2) none fun q1=>(bb (Au Ah q1) (bb (Au Ah q1) (bb (Dp (Nat.ble 2 c0) (MQ q1)) (bb (Au Ah q1) (oo (pu 10600 [(.slice (some ⟨1,0,some 1⟩) n0 c0),(.func (.func 37) ⟨[]⟩ ⟨[]⟩),(.agg ⟨q1⟩)]) none fun v3=>(oo (CQ v3) none fun l1=>(ll l1 none fun v4 l1=>(ll l1 none fun v5 l1=>(ll l1 (oo (KP 1 0 1 v4) none fun y0=>(oo (Bt v5) none fun q2=>(bb (Au Ah q2) (bb (Au Ah q2) (bb (an (Nat.ble (0+(NC.n y0)*1) (len q2)) (Au Ah (Aq ((NC.n y0)*1) (Am 0 q2)))) (some (Sl.v 1 (Sl.mk (NC.n y0) 0 (Aq ((NC.n y0)*1) (Am 0 q2))))) none) none) none))) fun _ _=>none))))) none) none) none) none)) none) fun _ _=>none))))) none) none)
def Pq (pu:Af) (n:Nat) (ih0:Nat→LV→Sl→Nat→Nat→Int→Int→LV→OV) (n0:Nat) (q0:LV) (s0:Sl) (n1 c0:Nat) (z0 z1:Int) (q1:LV):OV:=
 (bb (Au Ah q1) (bb (AY z1 z0) (oo (pu 34 [(Cv n0 q0),Sl.v 1 s0,.int .i64 z1]) none fun v0=>(oo (Bj 1 v0) none fun s1=>(bb (GV 1 24 n1 c0 1 q1) (bb (Au Ah (Br (Am 0 q1) [Sl.v 1 s1])) (ih0 n0 q0 s0 (n1+1) (2*(n1+1)+bb false 1 0) z0 (Aj .i64 (Int.add z1 (1:Int))) (Br (Am 0 q1) [Sl.v 1 s1])) none) none))) (RP pu n n1 c0 q1)) none)
def Ps (pu:Af) (n w:Nat):Nat→LV→Sl→Nat→Nat→Int→Int→LV→OV:=
 Nat.rec (motive:=fun _=>Nat→LV→Sl→Nat→Nat→Int→Int→LV→OV) (fun _ _ _ _ _ _ _ _=>none) (fun _ ih0=>Pq pu n ih0) w
def AfL (pu:Af) (n:Nat) (p0:Db) (s0:Sl):OV:=
 (oo (AL (Db.cs p0) (((Db.off p0)+0)+3)) none fun v0=>(oo (Bj 1 v0) none fun s1=>(Ps pu n n (Db.off p0) (Db.cs p0) s0 0 0 (Int.ofNat (Sl.n s1)) (0:Int) ([]:LV))))
def m35 (pu:Af) (n:Nat) (args:LV):OV:=
 (ll args none fun a0 args=>(ll args none fun a1 args=>(ll args (oo (Pv a0) none fun p0=>(oo (Bj 1 a1) none fun s0=>(AfL pu n p0 s0))) fun _ _=>none)))
theorem AfN (pu:Af) (n n0 c0:Nat) (q0:LV) {v:Value} (hm:RP pu n n0 c0 q0=some v):BN tt (Bb tabs isP pu (inl pu)) 1 bS (fr 28 [(5,sc 1 0 1 n0 c0)]) (hT 2 [oC q0]) (Fin tt 1 [.tmp 4] v):=by
 unfold RP at hm
 refine .then ?_
 replace hm:=Ae hm;obtain⟨h0,hm⟩:=hm
 replace hm:=Ae hm;obtain⟨h1,hm⟩:=hm
 replace hm:=Ab hm;obtain⟨v0,h2,hm⟩:=hm
 replace hm:=Ch hm;obtain⟨l0,rfl,hm⟩:=hm
 replace hm:=Ad hm;obtain⟨v1,l3791_0,rfl,hm⟩:=hm
 replace hm:=Ad hm;obtain⟨v2,l3791_1,rfl,hm⟩:=hm
 replace hm:=AC hm;obtain⟨rfl,hm⟩:=hm
 replace hm:=Ae hm;obtain⟨h3,hm⟩:=hm
 obtain rfl:=Oo h3
 replace hm:=BG hm;obtain⟨q1,rfl,hm⟩:=hm
 replace hm:=Ae hm;obtain⟨h4,hm⟩:=hm
 refine .reg (eC 1 (EK tabs [[none],[none]] 2 [.tmp 0 false] [false] (pu 10590) [sc 1 0 1 n0 c0,(.func (.func 45) ⟨[]⟩ ⟨[]⟩)] (hT 2 [oC q0])) (EL (as:=[sc 1 0 1 n0 c0,(.func (.func 45) ⟨[]⟩ ⟨[]⟩)]) (H1:=(hT 2 [oC q0])) (BS (Dm Dk) (BS (Dm Dk) Gj)) (EI (H2:=(hT 2 [oC q1])) (v:=(.tuple ⟨[]⟩)) (v':=(.tuple ⟨[]⟩)) [some 0,some 1] [(false,some 1)] [oC q0] [sc 1 0 1 n0 c0,(.func (.func 45) ⟨[]⟩ ⟨[]⟩)] [(.agg ⟨q1⟩)] [oC q1] [some 0,some 1] [(false,oC q1)] [oC q1] (trE (by kernel_rfl) (XX h0 rfl)) (En (Nb (anc:=[]) h1) BX) (Eq.trans (by kernel_rfl) h2) (En rfl BX) (En (KO h4) BX))) (eE)) ?_
 replace hm:=Ae hm;obtain⟨h5,hm⟩:=hm
 refine .ghs (fr 28 [(5,sc 1 0 1 n0 c0)]) (hT 2 [oC q1]) (.k [1] [false] [.tmp 5 false] [5] ⟨Bq h5,trivial⟩) ?_
 refine .then ?_
 replace hm:=Ae hm;obtain⟨h6,hm⟩:=hm
 replace hm:=Ae hm;obtain⟨h7,hm⟩:=hm
 replace hm:=Ab hm;obtain⟨v3,h8,hm⟩:=hm
 replace hm:=Ch hm;obtain⟨l1,rfl,hm⟩:=hm
 replace hm:=Ad hm;obtain⟨v4,l9430_0,rfl,hm⟩:=hm
 replace hm:=Ad hm;obtain⟨v5,l9430_1,rfl,hm⟩:=hm
 replace hm:=AC hm;obtain⟨rfl,hm⟩:=hm
 replace hm:=Ab hm;obtain⟨y0,h9,hm⟩:=hm
 obtain rfl:=F5 h9
 replace hm:=BG hm;obtain⟨q2,rfl,hm⟩:=hm
 replace hm:=Ae hm;obtain⟨h10,hm⟩:=hm
 refine .reg (eC 1 (EK tabs [[none],[none]] 2 [.tmp 0 false] [false] (pu 10600) [sc 1 0 1 n0 c0,(.func (.func 37) ⟨[]⟩ ⟨[]⟩)] (hT 2 [oC q1])) (EL (as:=[sc 1 0 1 n0 c0,(.func (.func 37) ⟨[]⟩ ⟨[]⟩)]) (H1:=(hT 2 [oC q1])) (BS (Dm Dk) (BS (Dm Dk) Gj)) (EI (H2:=(hT 2 [oC q2])) (v:=(sc 1 0 1 (NC.n y0) (NC.c y0))) (v':=(sc 1 0 1 (NC.n y0) (NC.c y0))) [some 0,some 1] [(false,some 1)] [oC q1] [sc 1 0 1 n0 c0,(.func (.func 37) ⟨[]⟩ ⟨[]⟩)] [(.agg ⟨q2⟩)] [oC q2] [some 0,some 1] [(false,oC q2)] [oC q2] (trE (by kernel_rfl) (XX h6 rfl)) (En (Nb (anc:=[]) h7) BX) (Eq.trans (by kernel_rfl) h8) (En rfl BX) (En (KO h10) BX))) (eE)) ?_
 replace hm:=Ae hm;obtain⟨h11,hm⟩:=hm
 refine .ghs (fr 28 [(4,(sc 1 0 1 (NC.n y0) (NC.c y0)))]) (hT 2 [oC q2]) (.k [1] [false] [.tmp 4 false] [4] ⟨Bq h11,trivial⟩) ?_
 replace hm:=Ae hm;obtain⟨h12,hm⟩:=hm
 refine .ghs (Fr.puts (fr 28 [(4,(sc 1 0 1 (NC.n y0) (NC.c y0)))]) [(4,(Sl.v 1 (Sl.mk (NC.n y0) 0 (Aq ((NC.n y0)*1) (Am 0 q2)))))]) (hT 2 [.dead]) (.freezeC 1 4 1 (an (Nat.ble (0+(NC.n y0)*1) (len q2)) (Au Ah (Aq ((NC.n y0)*1) (Am 0 q2)))) (F1:=(Fr.puts (fr 28 [(4,(sc 1 0 1 (NC.n y0) (NC.c y0)))]) [(4,(Sl.v 1 (Sl.mk (NC.n y0) 0 (Aq ((NC.n y0)*1) (Am 0 q2)))))])) (H1:=(hT 2 [.dead])) (by kernel_rfl) (by kernel_rfl) h12 (E9.id _ _)) ?_
 refine .ret ?_
 exact AO (Sl.v 1 (Sl.mk (NC.n y0) 0 (Aq ((NC.n y0)*1) (Am 0 q2)))) hm
theorem r35 {call:A8} (pu:Af) (n:Nat) (hcall:call=Bb tabs isP pu (inl pu)) {args:LV} {v:Value} (hm:m35 pu n args=some v) (_:∀ x∈args,closed2 x=true):args.length≤28∧BN tt call 1 SG (Fr.made 28 args) (Ao tabs) (Fin tt 1 [.tmp 4] v):=by
 subst hcall
 unfold m35 at hm
 replace hm:=Ad hm;obtain⟨a0,args_0,rfl,hm⟩:=hm
 replace hm:=Ad hm;obtain⟨a1,args_1,rfl,hm⟩:=hm
 replace hm:=AC hm;obtain⟨rfl,hm⟩:=hm
 replace hm:=Ab hm;obtain⟨p0,h0,hm⟩:=hm
 obtain rfl:=F7 h0
 replace hm:=Al hm;obtain⟨s0,rfl,hm⟩:=hm
 unfold AfL at hm
 refine⟨by simp,?_⟩
 refine .same (F':=(fr 28 [(0,(Cv (Db.off p0) (Db.cs p0))),(1,Sl.v 1 s0)])) (H':=Ay) (by kernel_rfl) (by kernel_rfl) ?_
 refine .then (.rK (.ghs (fr 28 [(0,(Cv (Db.off p0) (Db.cs p0))),(1,Sl.v 1 s0)]) Ay (.k0 [false] [] [0,1]) ?_))
 refine .then (.rK (.ghs (fr 28 [(0,(Cv (Db.off p0) (Db.cs p0))),(1,Sl.v 1 s0),(5,(.slice none 0 0))]) Ay (.k0 [false] [] [0,1,5]) ?_))
 refine .join (v:=v) (fun y:Nat×Nat×LV=>((fr 28 [(5,(sc 1 0 1 y.1 y.2.1))]),(hT 2 [(oC y.2.2)]))) (fun y=>RP pu n y.1 y.2.1 y.2.2) ?_ ?_
 ·rintro⟨n0,c0,q0⟩ hm
  exact AfN pu n n0 c0 q0 hm
 ·refine .then ?_
  replace hm:=LK hm;obtain⟨s1,h1,hm⟩:=hm
  refine .reg (eC 4 (keep Ay (AL (Db.cs p0) (((Db.off p0)+0)+3))) (AZ h1) (eE)) ?_
  refine .ghs (fr 28 [(0,(Cv (Db.off p0) (Db.cs p0))),(1,Sl.v 1 s0),(5,(.slice none 0 0)),(12,(zI (Int.ofNat (Sl.n s1)))),(13,(zI (0:Int)))]) Ay (.k0 [false] [] [0,1,5,12,13]) ?_
  refine .block (.loopM (v:=v) (fun y:Nat×LV×Sl×Nat×Nat×Int×Int×LV=>((fr 28 [(0,(Cv y.1 y.2.1)),(1,(Sl.v 1 y.2.2.1)),(5,(sc 1 0 1 y.2.2.2.1 y.2.2.2.2.1)),(12,(zI y.2.2.2.2.2.1)),(13,(zI y.2.2.2.2.2.2.1))]),(hT 2 [(oC y.2.2.2.2.2.2.2)]))) (fun w y=>Ps pu n w y.1 y.2.1 y.2.2.1 y.2.2.2.1 y.2.2.2.2.1 y.2.2.2.2.2.1 y.2.2.2.2.2.2.1 y.2.2.2.2.2.2.2) n ⟨((Db.off p0),(Db.cs p0),s0,0,0,(Int.ofNat (Sl.n s1)),(0:Int),([]:LV)),hm,(.thaw 5 1 (by kernel_rfl) (.k0 [false] [.tmp 5 false] [0,1,5,12,13]))⟩ (fun _=>rfl) ?_)
  rintro w0 ⟨n1,q1,s2,n2,c1,z0,z1,q2⟩ hm
  replace hm:Pq pu n (Ps pu n w0) n1 q1 s2 n2 c1 z0 z1 q2=some v:=hm
  unfold Pq at hm
  refine .then (.rK ?_)
  replace hm:=Ae hm;obtain⟨h2,hm⟩:=hm
  refine .ghs (fr 28 [(0,(Cv n1 q1)),(1,Sl.v 1 s2),(5,sc 1 0 1 n2 c1),(12,zI z0),(13,zI z1),(14,(zB (AY z1 z0)))]) (hT 2 [oC q2]) (.k [1] [false] [.tmp 5 false] [0,1,5,12,13,14] ⟨Bq h2,trivial⟩) ?_
  refine .then ?_
  replace hm:=Ag hm;rcases hm with⟨h3,hm⟩ | ⟨h3,hm⟩
  ·refine BB (AY z1 z0) h3 ?_
   refine .skip (.ghs (fr 28 [(0,(Cv n1 q1)),(1,Sl.v 1 s2),(5,sc 1 0 1 n2 c1),(12,zI z0),(13,zI z1)]) (hT 2 [oC q2]) (.k [1] [false] [.tmp 5 false] [0,1,5,12,13] ⟨Bq h2,trivial⟩) ?_)
   refine .then (.block (.then (.rK (.ghs (fr 28 [(0,(Cv n1 q1)),(1,Sl.v 1 s2),(5,sc 1 0 1 n2 c1),(6,zI z1),(12,zI z0),(13,zI z1)]) (hT 2 [oC q2]) (.k [1] [false] [.tmp 5 false] [0,1,5,6,12,13] ⟨Bq h2,trivial⟩) ?_))))
   replace hm:=LK hm;obtain⟨s3,h4,hm⟩:=hm
   replace hm:=Ae hm;obtain⟨h5,hm⟩:=hm
   refine .reg (eC 4 ((oo (pu 34 [(Cv n1 q1),Sl.v 1 s2,zI z1]) none fun v=>some (v,(hT 2 [oC q2])))) (AB h4) (eC 1 (Oc 1 24 n2 c1 1 1 q2 [Sl.v 1 s3] [] (hT 3 [oC q2,(oC [Sl.v 1 s3])])) (I1 h5) (eE))) ?_
   replace hm:=Ae hm;obtain⟨h6,hm⟩:=hm
   refine .ghs (fr 28 [(0,(Cv n1 q1)),(1,Sl.v 1 s2),(5,(sc 1 0 1 (n2+1) (d2 (n2+1)))),(12,zI z0),(13,zI z1)]) (hT 2 [(oC (Br (Am 0 q2) [Sl.v 1 s3]))]) (.k [3] [false] [.tmp 5 false] [0,1,5,12,13] ⟨Bq h6,trivial⟩) ?_
   refine .rK ?_
   exact⟨(n1,q1,s2,(n2+1),(d2 (n2+1)),z0,(Aj .i64 (Int.add z1 (1:Int))),(Br (Am 0 q2) [Sl.v 1 s3])),hm,(.k [1] [false] [.tmp 5 false] [0,1,5,12,13] ⟨Bq h6,trivial⟩)⟩
  ·refine BI (AY z1 z0) h3 ?_
   refine .exit ?_
   exact⟨(n2,c1,q2),hm,(.k [1] [false] [.tmp 5 false] [5] ⟨Bq h2,trivial⟩)⟩
def XU (pu:Af) (n:Nat) (z0:Int):OV:=
 (some (.int .u16 z0))
def RQ (pu:Af) (n:Nat) (ih0:Sl→Int→Sl→Int→Int→OV) (s0:Sl) (z0:Int) (s1:Sl) (z1 z2:Int):OV:=
 (ih0 s0 z0 s1 z1 (Aj .i64 (Int.add z2 (1:Int))))
def Pt (pu:Af) (n:Nat) (ih0:Sl→Int→Sl→Int→Int→OV) (s0:Sl) (z0:Int) (s1:Sl) (z1 z2:Int):OV:=
 (bb (AY z2 z1) (oo (EA z2) none fun k1=>(bb (an (Nat.blt k1 (Sl.n s1)) true) (oo (AL (Sl.cs s1) (k1*1)) none fun v0=>(oo (Bi .i64 v0) none fun x0=>(oo (EA x0) none fun k2=>(bb (an (Nat.blt k2 (Sl.n s0)) true) (oo (AL (Sl.cs s0) (k2*1)) none fun v1=>(oo (Bi .i64 v1) none fun x1=>(bb (an (Nat.blt k1 (Sl.n s0)) true) (oo (AL (Sl.cs s0) (k1*1)) none fun v2=>(oo (Bi .i64 v2) none fun x2=>(bb (nt (Bd x1 x2)) (RQ pu n ih0 s0 (jF .u16 z0 (QW .u16 (1:Int) k1)) s1 z1 (Int.ofNat k1)) (RQ pu n ih0 s0 z0 s1 z1 (Int.ofNat k1))))) none))) none)))) none)) (XU pu n z0))
def Gt (pu:Af) (n w:Nat):Sl→Int→Sl→Int→Int→OV:=
 Nat.rec (motive:=fun _=>Sl→Int→Sl→Int→Int→OV) (fun _ _ _ _ _=>none) (fun _ ih0=>Pt pu n ih0) w
def AfO (pu:Af) (n:Nat) (p0:Db) (s0:Sl) (x0:Int):OV:=
 (oo (AL (Db.cs p0) ((Db.off p0)+4)) none fun v0=>(oo (Bj 1 v0) none fun s1=>(oo (EA x0) none fun k1=>(bb (an (Nat.blt k1 (Sl.n s1)) true) (oo (AL (Sl.cs s1) (k1*1)) none fun v1=>(oo (Bj 1 v1) none fun s2=>(Gt pu n n s0 (0:Int) s2 (Int.ofNat (Sl.n s2)) (0:Int)))) none))))
def m36 (pu:Af) (n:Nat) (args:LV):OV:=
 (ll args none fun a0 args=>(ll args none fun a1 args=>(ll args none fun a2 args=>(ll args (oo (Pv a0) none fun p0=>(oo (Bj 1 a1) none fun s0=>(oo (Bi .i64 a2) none fun x0=>(AfO pu n p0 s0 x0)))) fun _ _=>none))))
theorem AfQ (pu:Af) (n:Nat) (z0:Int) {v:Value} (hm:XU pu n z0=some v):BN tt (Bb tabs isP pu (inl pu)) 1 bT (fr 38 [(7,.int .u16 z0)]) Ay (Fin tt 1 [.tmp 6] v):=by
 unfold XU at hm
 refine .then (.rK (.ghs (fr 38 [(6,.int .u16 z0)]) Ay (.k0 [false] [] [6]) ?_))
 refine .ret ?_
 exact AO (.int .u16 z0) hm
theorem r36 {call:A8} (pu:Af) (n:Nat) (hcall:call=Bb tabs isP pu (inl pu)) {args:LV} {v:Value} (hm:m36 pu n args=some v) (_:∀ x∈args,closed2 x=true):args.length≤38∧BN tt call 1 SI (Fr.made 38 args) (Ao tabs) (Fin tt 1 [.tmp 6] v):=by
 subst hcall
 unfold m36 at hm
 replace hm:=Ad hm;obtain⟨a0,args_0,rfl,hm⟩:=hm
 replace hm:=Ad hm;obtain⟨a1,args_1,rfl,hm⟩:=hm
 replace hm:=Ad hm;obtain⟨a2,args_2,rfl,hm⟩:=hm
 replace hm:=AC hm;obtain⟨rfl,hm⟩:=hm
 replace hm:=Ab hm;obtain⟨p0,h0,hm⟩:=hm
 obtain rfl:=F7 h0
 replace hm:=Al hm;obtain⟨s0,rfl,hm⟩:=hm
 replace hm:=Ai hm;obtain⟨x0,rfl,hm⟩:=hm
 unfold AfO at hm
 refine⟨by simp,?_⟩
 refine .same (F':=(fr 38 [(0,(Cv (Db.off p0) (Db.cs p0))),(1,Sl.v 1 s0),(2,zI x0)])) (H':=Ay) (by kernel_rfl) (by kernel_rfl) ?_
 refine .then (.rK (.ghs (fr 38 [(0,(Cv (Db.off p0) (Db.cs p0))),(1,Sl.v 1 s0),(2,zI x0)]) Ay (.k0 [false] [] [0,1,2]) ?_))
 refine .then (.rK (.ghs (fr 38 [(0,(Cv (Db.off p0) (Db.cs p0))),(1,Sl.v 1 s0),(2,zI x0),(7,(.int .u16 (0:Int)))]) Ay (.k0 [false] [] [0,1,2,7]) ?_))
 refine .join (v:=v) (fun y:Int=>((fr 38 [(7,.int .u16 y)]),Ay)) (fun y=>XU pu n y) ?_ ?_
 ·rintro z0 hm
  exact AfQ pu n z0 hm
 ·refine .then ?_
  replace hm:=LK hm;obtain⟨s1,h1,hm⟩:=hm
  replace hm:=Ab hm;obtain⟨k1,h2,hm⟩:=hm
  obtain rfl:=AR h2
  replace hm:=Ae hm;obtain⟨h3,hm⟩:=hm
  replace hm:=LK hm;obtain⟨s2,h4,hm⟩:=hm
  refine .reg (eC 3 (keep Ay (AL (Db.cs p0) ((Db.off p0)+4))) (AZ h1) (eC 1 (keep Ay (bb (an (Nat.blt k1 (Sl.n s1)) true) (some (Cv (k1*1) (Sl.cs s1))) none)) (AX h3) (eD (keep Ay (AL (Sl.cs s1) (k1*1))) (AZ h4) (eE)))) ?_
  refine .ghs (fr 38 [(1,Sl.v 1 s0),(7,(.int .u16 (0:Int))),(16,Sl.v 1 s2),(17,(zI (Int.ofNat (Sl.n s2)))),(18,(zI (0:Int)))]) Ay (.k0 [false] [] [1,7,16,17,18]) ?_
  refine .block (.loopM (v:=v) (fun y:Sl×Int×Sl×Int×Int=>((fr 38 [(1,(Sl.v 1 y.1)),(7,(.int .u16 y.2.1)),(16,(Sl.v 1 y.2.2.1)),(17,(zI y.2.2.2.1)),(18,(zI y.2.2.2.2))]),Ay)) (fun w y=>Gt pu n w y.1 y.2.1 y.2.2.1 y.2.2.2.1 y.2.2.2.2) n ⟨(s0,(0:Int),s2,(Int.ofNat (Sl.n s2)),(0:Int)),hm,(.k0 [false] [] [1,7,16,17,18])⟩ (fun _=>rfl) ?_)
  rintro w0 ⟨s3,z1,s4,z2,z3⟩ hm
  replace hm:Pt pu n (Gt pu n w0) s3 z1 s4 z2 z3=some v:=hm
  unfold Pt at hm
  refine .then (.rK (.ghs (fr 38 [(1,Sl.v 1 s3),(7,.int .u16 z1),(16,Sl.v 1 s4),(17,zI z2),(18,zI z3),(19,(zB (AY z3 z2)))]) Ay (.k0 [false] [] [1,7,16,17,18,19]) ?_))
  refine .then ?_
  replace hm:=Ag hm;rcases hm with⟨h5,hm⟩ | ⟨h5,hm⟩
  ·refine BB (AY z3 z2) h5 ?_
   refine .skip (.ghs (fr 38 [(1,Sl.v 1 s3),(7,.int .u16 z1),(16,Sl.v 1 s4),(17,zI z2),(18,zI z3)]) Ay (.k0 [false] [] [1,7,16,17,18]) ?_)
   refine .join (v:=v) (fun y:Sl×Int×Sl×Int×Int=>((fr 38 [(1,(Sl.v 1 y.1)),(7,(.int .u16 y.2.1)),(16,(Sl.v 1 y.2.2.1)),(17,(zI y.2.2.2.1)),(18,(zI y.2.2.2.2))]),Ay)) (fun y=>RQ pu n (Gt pu n w0) y.1 y.2.1 y.2.2.1 y.2.2.2.1 y.2.2.2.2) ?_ ?_
   ·rintro⟨s5,z4,s6,z5,z6⟩ hm
    unfold RQ at hm
    refine .rK ?_
    exact⟨(s5,z4,s6,z5,(Aj .i64 (Int.add z6 (1:Int)))),hm,(.k0 [false] [] [1,7,16,17,18])⟩
   ·refine .block (.then ?_)
    replace hm:=Ab hm;obtain⟨k2,h6,hm⟩:=hm
    obtain rfl:=AR h6
    replace hm:=Ae hm;obtain⟨h7,hm⟩:=hm
    replace hm:=G9 hm;obtain⟨x1,h8,hm⟩:=hm
    refine .reg (eC 1 (keep Ay (bb (an (Nat.blt k2 (Sl.n s4)) true) (some (Cv (k2*1) (Sl.cs s4))) none)) (AX h7) (eD (keep Ay (AL (Sl.cs s4) (k2*1))) (AZ h8) (eE))) ?_
    refine .ghs (fr 38 [(1,Sl.v 1 s3),(7,.int .u16 z1),(8,(zI (Int.ofNat k2))),(9,zI x1),(16,Sl.v 1 s4),(17,zI z2),(18,(zI (Int.ofNat k2)))]) Ay (.k0 [false] [] [1,7,8,9,16,17,18]) ?_
    refine .then ?_
    replace hm:=Ab hm;obtain⟨k3,h9,hm⟩:=hm
    obtain rfl:=AR h9
    replace hm:=Ae hm;obtain⟨h10,hm⟩:=hm
    replace hm:=G9 hm;obtain⟨x2,h11,hm⟩:=hm
    replace hm:=Ae hm;obtain⟨h12,hm⟩:=hm
    replace hm:=G9 hm;obtain⟨x3,h13,hm⟩:=hm
    refine .reg (eC 2 (keep Ay (bb (an (Nat.blt k3 (Sl.n s3)) true) (some (Cv (k3*1) (Sl.cs s3))) none)) (AX h10) (eD (keep Ay (AL (Sl.cs s3) (k3*1))) (AZ h11) (eC 2 (keep Ay (bb (an (Nat.blt k2 (Sl.n s3)) true) (some (Cv (k2*1) (Sl.cs s3))) none)) (AX h12) (eD (keep Ay (AL (Sl.cs s3) (k2*1))) (AZ h13) (eE))))) ?_
    refine .ghs (fr 38 [(1,Sl.v 1 s3),(7,.int .u16 z1),(8,(zI (Int.ofNat k2))),(16,Sl.v 1 s4),(17,zI z2),(18,(zI (Int.ofNat k2))),(31,(zB (nt (Bd x2 x3))))]) Ay (.k0 [false] [] [1,7,8,16,17,18,31]) ?_
    replace hm:=Ag hm;rcases hm with⟨h14,hm⟩ | ⟨h14,hm⟩
    ·refine BB (nt (Bd x2 x3)) h14 ?_
     refine .rK ?_
     exact⟨(s3,(jF .u16 z1 (QW .u16 (1:Int) k2)),s4,z2,(Int.ofNat k2)),hm,(.k0 [false] [] [1,7,16,17,18])⟩
    ·refine BI (nt (Bd x2 x3)) h14 ?_
     refine .skip ?_
     exact⟨(s3,z1,s4,z2,(Int.ofNat k2)),hm,(.k0 [false] [] [1,7,16,17,18])⟩
  ·refine BI (AY z3 z2) h5 ?_
   refine .exit ?_
   exact⟨z1,hm,(.k0 [false] [] [7])⟩
def XZ (pu:Af) (n:Nat):OV:=
 (some (.bool true))
def VL (pu:Af) (n:Nat) (ih0:Sl→Sl→Int→Int→OV) (s0 s1:Sl) (z0 z1:Int):OV:=
 (bb (AY z1 z0) (oo (EA z1) none fun k1=>(bb (an (Nat.blt k1 (Sl.n s0)) true) (oo (AL (Sl.cs s0) (k1*1)) none fun v0=>(oo (Bi .i64 v0) none fun x0=>(bb (an (Nat.blt k1 (Sl.n s1)) true) (oo (AL (Sl.cs s1) (k1*1)) none fun v1=>(oo (Bi .i64 v1) none fun x1=>(bb (nt (Bd x0 x1)) (some (.bool false)) (ih0 s0 s1 z0 (Aj .i64 (Int.add (Int.ofNat k1) (1:Int))))))) none))) none)) (XZ pu n))
def RS (pu:Af) (n w:Nat):Sl→Sl→Int→Int→OV:=
 Nat.rec (motive:=fun _=>Sl→Sl→Int→Int→OV) (fun _ _ _ _=>none) (fun _ ih0=>VL pu n ih0) w
def AfR (pu:Af) (n:Nat) (s0 s1:Sl):OV:=
 (bb (nt (Bd (Int.ofNat (Sl.n s0)) (Int.ofNat (Sl.n s1)))) (some (.bool false)) (RS pu n n s0 s1 (Int.ofNat (Sl.n s0)) (0:Int)))
def m37 (pu:Af) (n:Nat) (args:LV):OV:=
 (ll args none fun a0 args=>(ll args none fun a1 args=>(ll args (oo (Bj 1 a0) none fun s0=>(oo (Bj 1 a1) none fun s1=>(AfR pu n s0 s1))) fun _ _=>none)))
theorem AfT (pu:Af) (n:Nat) {v:Value} (hm:XZ pu n=some v):BN tt (Bb tabs isP pu (inl pu)) 1 bU (fr 26 []) Ay (Fin tt 1 [.tmp 4] v):=by
 unfold XZ at hm
 refine .then (.rK (.ghs (fr 26 [(4,zB true)]) Ay (.k0 [false] [] [4]) ?_))
 refine .ret ?_
 exact AO (zB true) hm
theorem r37 {call:A8} (pu:Af) (n:Nat) (hcall:call=Bb tabs isP pu (inl pu)) {args:LV} {v:Value} (hm:m37 pu n args=some v) (_:∀ x∈args,closed2 x=true):args.length≤26∧BN tt call 1 SK (Fr.made 26 args) (Ao tabs) (Fin tt 1 [.tmp 4] v):=by
 subst hcall
 unfold m37 at hm
 replace hm:=Ad hm;obtain⟨a0,args_0,rfl,hm⟩:=hm
 replace hm:=Ad hm;obtain⟨a1,args_1,rfl,hm⟩:=hm
 replace hm:=AC hm;obtain⟨rfl,hm⟩:=hm
 replace hm:=Al hm;obtain⟨s0,rfl,hm⟩:=hm
 replace hm:=Al hm;obtain⟨s1,rfl,hm⟩:=hm
 unfold AfR at hm
 refine⟨by simp,?_⟩
 refine .same (F':=(fr 26 [(0,Sl.v 1 s0),(1,Sl.v 1 s1)])) (H':=Ay) (by kernel_rfl) (by kernel_rfl) ?_
 refine .then (.rK (.ghs (fr 26 [(0,Sl.v 1 s0),(1,Sl.v 1 s1)]) Ay (.k0 [false] [] [0,1]) ?_))
 refine .then (.then (.rK (.ghs (fr 26 [(0,Sl.v 1 s0),(1,Sl.v 1 s1),(10,(zB (nt (Bd (Int.ofNat (Sl.n s0)) (Int.ofNat (Sl.n s1))))))]) Ay (.k0 [false] [] [0,1,10]) ?_)))
 replace hm:=Ag hm;rcases hm with⟨h0,hm⟩ | ⟨h0,hm⟩
 ·refine BB (nt (Bd (Int.ofNat (Sl.n s0)) (Int.ofNat (Sl.n s1)))) h0 ?_
  refine .then (.rK (.ghs (fr 26 [(4,zB false)]) Ay (.k0 [false] [] [4]) ?_))
  refine .ret ?_
  exact AO (zB false) hm
 ·refine BI (nt (Bd (Int.ofNat (Sl.n s0)) (Int.ofNat (Sl.n s1)))) h0 ?_
  refine .skip (.ghs (fr 26 [(0,Sl.v 1 s0),(1,Sl.v 1 s1)]) Ay (.k0 [false] [] [0,1]) ?_)
  refine .join (v:=v) (fun y:Unit=>((fr 26 []),Ay)) (fun y=>XZ pu n) ?_ ?_
  ·rintro _ hm
   exact AfT pu n hm
  ·refine .then (.rK (.ghs (fr 26 [(0,Sl.v 1 s0),(1,Sl.v 1 s1),(12,(zI (Int.ofNat (Sl.n s0)))),(13,(zI (0:Int)))]) Ay (.k0 [false] [] [0,1,12,13]) ?_))
   refine .block (.loopM (v:=v) (fun y:Sl×Sl×Int×Int=>((fr 26 [(0,(Sl.v 1 y.1)),(1,(Sl.v 1 y.2.1)),(12,(zI y.2.2.1)),(13,(zI y.2.2.2))]),Ay)) (fun w y=>RS pu n w y.1 y.2.1 y.2.2.1 y.2.2.2) n ⟨(s0,s1,(Int.ofNat (Sl.n s0)),(0:Int)),hm,(.k0 [false] [] [0,1,12,13])⟩ (fun _=>rfl) ?_)
   rintro w0 ⟨s2,s3,z0,z1⟩ hm
   replace hm:VL pu n (RS pu n w0) s2 s3 z0 z1=some v:=hm
   unfold VL at hm
   refine .then (.rK (.ghs (fr 26 [(0,Sl.v 1 s2),(1,Sl.v 1 s3),(12,zI z0),(13,zI z1),(14,(zB (AY z1 z0)))]) Ay (.k0 [false] [] [0,1,12,13,14]) ?_))
   refine .then ?_
   replace hm:=Ag hm;rcases hm with⟨h1,hm⟩ | ⟨h1,hm⟩
   ·refine BB (AY z1 z0) h1 ?_
    refine .skip (.ghs (fr 26 [(0,Sl.v 1 s2),(1,Sl.v 1 s3),(12,zI z0),(13,zI z1)]) Ay (.k0 [false] [] [0,1,12,13]) ?_)
    refine .then (.block (.then (.rK (.ghs (fr 26 [(0,Sl.v 1 s2),(1,Sl.v 1 s3),(5,zI z1),(12,zI z0),(13,zI z1)]) Ay (.k0 [false] [] [0,1,5,12,13]) ?_))))
    refine .then ?_
    replace hm:=Ab hm;obtain⟨k1,h2,hm⟩:=hm
    obtain rfl:=AR h2
    replace hm:=Ae hm;obtain⟨h3,hm⟩:=hm
    replace hm:=G9 hm;obtain⟨x0,h4,hm⟩:=hm
    replace hm:=Ae hm;obtain⟨h5,hm⟩:=hm
    replace hm:=G9 hm;obtain⟨x1,h6,hm⟩:=hm
    refine .reg (eC 2 (keep Ay (bb (an (Nat.blt k1 (Sl.n s2)) true) (some (Cv (k1*1) (Sl.cs s2))) none)) (AX h3) (eD (keep Ay (AL (Sl.cs s2) (k1*1))) (AZ h4) (eC 2 (keep Ay (bb (an (Nat.blt k1 (Sl.n s3)) true) (some (Cv (k1*1) (Sl.cs s3))) none)) (AX h5) (eD (keep Ay (AL (Sl.cs s3) (k1*1))) (AZ h6) (eE))))) ?_
    refine .ghs (fr 26 [(0,Sl.v 1 s2),(1,Sl.v 1 s3),(12,zI z0),(13,(zI (Int.ofNat k1))),(24,(zB (nt (Bd x0 x1))))]) Ay (.k0 [false] [] [0,1,12,13,24]) ?_
    replace hm:=Ag hm;rcases hm with⟨h7,hm⟩ | ⟨h7,hm⟩
    ·refine BB (nt (Bd x0 x1)) h7 ?_
     refine .then (.rK (.ghs (fr 26 [(4,zB false)]) Ay (.k0 [false] [] [4]) ?_))
     refine .ret ?_
     exact AO (zB false) hm
    ·refine BI (nt (Bd x0 x1)) h7 ?_
     refine .skip (.ghs (fr 26 [(0,Sl.v 1 s2),(1,Sl.v 1 s3),(12,zI z0),(13,(zI (Int.ofNat k1)))]) Ay (.k0 [false] [] [0,1,12,13]) ?_)
     refine .rK ?_
     exact⟨(s2,s3,z0,(Aj .i64 (Int.add (Int.ofNat k1) (1:Int)))),hm,(.k0 [false] [] [0,1,12,13])⟩
   ·refine BI (AY z1 z0) h1 ?_
    refine .exit ?_
    exact⟨(),hm,(.k0 [false] [] [])⟩
def VM (pu:Af) (n:Nat) (s0 s1:Sl):OV:=
 (bb (AY (Int.ofNat (Sl.n s0)) (Int.ofNat (Sl.n s1))) (some (.int .i64 (-1:Int))) (some (.int .i64 (0:Int))))
def PI (pu:Af) (n:Nat) (ih0:Sl→Sl→Sl→Int→Int→OV) (s0 s1 s2:Sl) (z0 z1:Int):OV:=
 (bb (AY z1 z0) (oo (EA z1) none fun k1=>(bb (an (Nat.blt k1 (Sl.n s2)) true) (oo (AL (Sl.cs s2) (k1*1)) none fun v0=>(oo (Bi .i64 v0) none fun x0=>(bb (nt (AY (Int.ofNat k1) (Int.ofNat (Sl.n s1)))) (some (.int .i64 (1:Int))) (bb (an (Nat.blt k1 (Sl.n s1)) true) (oo (AL (Sl.cs s1) (k1*1)) none fun v1=>(oo (Bi .i64 v1) none fun x1=>(oo (pu 65 [.int .i64 x0,.int .i64 x1]) none fun v2=>(oo (Bi .i64 v2) none fun x2=>(bb (nt (Bd x2 (0:Int))) (some (.int .i64 x2)) (ih0 s0 s1 s2 z0 (Aj .i64 (Int.add (Int.ofNat k1) (1:Int))))))))) none)))) none)) (VM pu n s0 s1))
def RU (pu:Af) (n w:Nat):Sl→Sl→Sl→Int→Int→OV:=
 Nat.rec (motive:=fun _=>Sl→Sl→Sl→Int→Int→OV) (fun _ _ _ _ _=>none) (fun _ ih0=>PI pu n ih0) w
def AfU (pu:Af) (n:Nat) (s0 s1:Sl):OV:=
 (RU pu n n s0 s1 s0 (Int.ofNat (Sl.n s0)) (0:Int))
def m45 (pu:Af) (n:Nat) (args:LV):OV:=
 (ll args none fun a0 args=>(ll args none fun a1 args=>(ll args (oo (Bj 1 a0) none fun s0=>(oo (Bj 1 a1) none fun s1=>(AfU pu n s0 s1))) fun _ _=>none)))
theorem AfW (pu:Af) (n:Nat) (s0 s1:Sl) {v:Value} (hm:VM pu n s0 s1=some v):BN tt (Bb tabs isP pu (inl pu)) 1 bV (fr 36 [(0,Sl.v 1 s0),(1,Sl.v 1 s1)]) Ay (Fin tt 1 [.tmp 4] v):=by
 unfold VM at hm
 refine .then (.then (.rK (.ghs (fr 36 [(35,(zB (AY (Int.ofNat (Sl.n s0)) (Int.ofNat (Sl.n s1)))))]) Ay (.k0 [false] [] [35]) ?_)))
 replace hm:=Ag hm;rcases hm with⟨h0,hm⟩ | ⟨h0,hm⟩
 ·refine BB (AY (Int.ofNat (Sl.n s0)) (Int.ofNat (Sl.n s1))) h0 ?_
  refine .then (.rK (.ghs (fr 36 [(4,(zI (-1:Int)))]) Ay (.k0 [false] [] [4]) ?_))
  refine .ret ?_
  exact AO (zI (-1:Int)) hm
 ·refine BI (AY (Int.ofNat (Sl.n s0)) (Int.ofNat (Sl.n s1))) h0 ?_
  refine .skip (.ghs (fr 36 []) Ay (.k0 [false] [] []) ?_)
  refine .then (.rK (.ghs (fr 36 [(4,(zI (0:Int)))]) Ay (.k0 [false] [] [4]) ?_))
  refine .ret ?_
  exact AO (zI (0:Int)) hm
theorem r45 {call:A8} (pu:Af) (n:Nat) (hcall:call=Bb tabs isP pu (inl pu)) {args:LV} {v:Value} (hm:m45 pu n args=some v) (_:∀ x∈args,closed2 x=true):args.length≤36∧BN tt call 1 SQ (Fr.made 36 args) (Ao tabs) (Fin tt 1 [.tmp 4] v):=by
 subst hcall
 unfold m45 at hm
 replace hm:=Ad hm;obtain⟨a0,args_0,rfl,hm⟩:=hm
 replace hm:=Ad hm;obtain⟨a1,args_1,rfl,hm⟩:=hm
 replace hm:=AC hm;obtain⟨rfl,hm⟩:=hm
 replace hm:=Al hm;obtain⟨s0,rfl,hm⟩:=hm
 replace hm:=Al hm;obtain⟨s1,rfl,hm⟩:=hm
 unfold AfU at hm
 refine⟨by simp,?_⟩
 refine .same (F':=(fr 36 [(0,Sl.v 1 s0),(1,Sl.v 1 s1)])) (H':=Ay) (by kernel_rfl) (by kernel_rfl) ?_
 refine .then (.rK (.ghs (fr 36 [(0,Sl.v 1 s0),(1,Sl.v 1 s1)]) Ay (.k0 [false] [] [0,1]) ?_))
 refine .join (v:=v) (fun y:Sl×Sl=>((fr 36 [(0,(Sl.v 1 y.1)),(1,(Sl.v 1 y.2))]),Ay)) (fun y=>VM pu n y.1 y.2) ?_ ?_
 ·rintro⟨s2,s3⟩ hm
  exact AfW pu n s2 s3 hm
 ·refine .then (.rK (.ghs (fr 36 [(0,Sl.v 1 s0),(1,Sl.v 1 s1),(9,Sl.v 1 s0),(10,(zI (Int.ofNat (Sl.n s0)))),(11,(zI (0:Int)))]) Ay (.k0 [false] [] [0,1,9,10,11]) ?_))
  refine .block (.loopM (v:=v) (fun y:Sl×Sl×Sl×Int×Int=>((fr 36 [(0,(Sl.v 1 y.1)),(1,(Sl.v 1 y.2.1)),(9,(Sl.v 1 y.2.2.1)),(10,(zI y.2.2.2.1)),(11,(zI y.2.2.2.2))]),Ay)) (fun w y=>RU pu n w y.1 y.2.1 y.2.2.1 y.2.2.2.1 y.2.2.2.2) n ⟨(s0,s1,s0,(Int.ofNat (Sl.n s0)),(0:Int)),hm,(.k0 [false] [] [0,1,9,10,11])⟩ (fun _=>rfl) ?_)
  rintro w0 ⟨s4,s5,s6,z0,z1⟩ hm
  replace hm:PI pu n (RU pu n w0) s4 s5 s6 z0 z1=some v:=hm
  unfold PI at hm
  refine .then (.rK (.ghs (fr 36 [(0,Sl.v 1 s4),(1,Sl.v 1 s5),(9,Sl.v 1 s6),(10,zI z0),(11,zI z1),(12,(zB (AY z1 z0)))]) Ay (.k0 [false] [] [0,1,9,10,11,12]) ?_))
  refine .then ?_
  replace hm:=Ag hm;rcases hm with⟨h0,hm⟩ | ⟨h0,hm⟩
  ·refine BB (AY z1 z0) h0 ?_
   refine .skip (.ghs (fr 36 [(0,Sl.v 1 s4),(1,Sl.v 1 s5),(9,Sl.v 1 s6),(10,zI z0),(11,zI z1)]) Ay (.k0 [false] [] [0,1,9,10,11]) ?_)
   refine .then (.block (.then ?_))
   replace hm:=Ab hm;obtain⟨k1,h1,hm⟩:=hm
   obtain rfl:=AR h1
   replace hm:=Ae hm;obtain⟨h2,hm⟩:=hm
   replace hm:=G9 hm;obtain⟨x0,h3,hm⟩:=hm
   refine .reg (eC 1 (keep Ay (bb (an (Nat.blt k1 (Sl.n s6)) true) (some (Cv (k1*1) (Sl.cs s6))) none)) (AX h2) (eD (keep Ay (AL (Sl.cs s6) (k1*1))) (AZ h3) (eE))) ?_
   refine .ghs (fr 36 [(0,Sl.v 1 s4),(1,Sl.v 1 s5),(5,(zI (Int.ofNat k1))),(6,zI x0),(9,Sl.v 1 s6),(10,zI z0),(11,(zI (Int.ofNat k1)))]) Ay (.k0 [false] [] [0,1,5,6,9,10,11]) ?_
   refine .then (.then (.rK (.ghs (fr 36 [(0,Sl.v 1 s4),(1,Sl.v 1 s5),(5,(zI (Int.ofNat k1))),(6,zI x0),(9,Sl.v 1 s6),(10,zI z0),(11,(zI (Int.ofNat k1))),(19,(zB (nt (AY (Int.ofNat k1) (Int.ofNat (Sl.n s5))))))]) Ay (.k0 [false] [] [0,1,5,6,9,10,11,19]) ?_)))
   replace hm:=Ag hm;rcases hm with⟨h4,hm⟩ | ⟨h4,hm⟩
   ·refine BB (nt (AY (Int.ofNat k1) (Int.ofNat (Sl.n s5)))) h4 ?_
    refine .then (.rK (.ghs (fr 36 [(4,(zI (1:Int)))]) Ay (.k0 [false] [] [4]) ?_))
    refine .ret ?_
    exact AO (zI (1:Int)) hm
   ·refine BI (nt (AY (Int.ofNat k1) (Int.ofNat (Sl.n s5)))) h4 ?_
    refine .skip (.ghs (fr 36 [(0,Sl.v 1 s4),(1,Sl.v 1 s5),(5,(zI (Int.ofNat k1))),(6,zI x0),(9,Sl.v 1 s6),(10,zI z0),(11,(zI (Int.ofNat k1)))]) Ay (.k0 [false] [] [0,1,5,6,9,10,11]) ?_)
    refine .then ?_
    replace hm:=Ae hm;obtain⟨h5,hm⟩:=hm
    replace hm:=G9 hm;obtain⟨x1,h6,hm⟩:=hm
    refine .reg (eC 2 (keep Ay (bb (an (Nat.blt k1 (Sl.n s5)) true) (some (Cv (k1*1) (Sl.cs s5))) none)) (AX h5) (eD (keep Ay (AL (Sl.cs s5) (k1*1))) (AZ h6) (eE))) ?_
    refine .ghs (fr 36 [(0,Sl.v 1 s4),(1,Sl.v 1 s5),(6,zI x0),(7,zI x1),(9,Sl.v 1 s6),(10,zI z0),(11,(zI (Int.ofNat k1)))]) Ay (.k0 [false] [] [0,1,6,7,9,10,11]) ?_
    refine .then ?_
    replace hm:=G9 hm;obtain⟨x2,h7,hm⟩:=hm
    refine .reg (eC 2 ((oo (pu 65 [zI x0,zI x1]) none fun v=>some (v,Ay))) (AB h7) (eE)) ?_
    refine .ghs (fr 36 [(0,Sl.v 1 s4),(1,Sl.v 1 s5),(8,zI x2),(9,Sl.v 1 s6),(10,zI z0),(11,(zI (Int.ofNat k1)))]) Ay (.k0 [false] [] [0,1,8,9,10,11]) ?_
    refine .then (.rK (.ghs (fr 36 [(0,Sl.v 1 s4),(1,Sl.v 1 s5),(8,zI x2),(9,Sl.v 1 s6),(10,zI z0),(11,(zI (Int.ofNat k1))),(28,(zB (nt (Bd x2 (0:Int)))))]) Ay (.k0 [false] [] [0,1,8,9,10,11,28]) ?_))
    replace hm:=Ag hm;rcases hm with⟨h8,hm⟩ | ⟨h8,hm⟩
    ·refine BB (nt (Bd x2 (0:Int))) h8 ?_
     refine .then (.rK (.ghs (fr 36 [(4,zI x2)]) Ay (.k0 [false] [] [4]) ?_))
     refine .ret ?_
     exact AO (zI x2) hm
    ·refine BI (nt (Bd x2 (0:Int))) h8 ?_
     refine .skip (.ghs (fr 36 [(0,Sl.v 1 s4),(1,Sl.v 1 s5),(9,Sl.v 1 s6),(10,zI z0),(11,(zI (Int.ofNat k1)))]) Ay (.k0 [false] [] [0,1,9,10,11]) ?_)
     refine .rK ?_
     exact⟨(s4,s5,s6,z0,(Aj .i64 (Int.add (Int.ofNat k1) (1:Int)))),hm,(.k0 [false] [] [0,1,9,10,11])⟩
  ·refine BI (AY z1 z0) h0 ?_
   refine .exit ?_
   exact⟨(s4,s5),hm,(.k0 [false] [] [0,1])⟩

def jA (pu:Af) (n:Nat) (s0:Sl):OV:=
 (bb (Dp (nt (Nat.beq (Sl.fl s0) 2)) (Nat.beq (Sl.n s0) 0)) (some (Sl.v 1 (KY 1 s0))) none)
def m46 (pu:Af) (n:Nat) (args:LV):OV:=
 (ll args none fun a0 args=>(ll args (oo (Bj 1 a0) none fun s0=>(jA pu n s0)) fun _ _=>none))
theorem r46 {call:A8} (pu:Af) (n:Nat) (hcall:call=Bb tabs isP pu (inl pu)) {args:LV} {v:Value} (hm:m46 pu n args=some v) (_:∀ x∈args,closed2 x=true):args.length≤9∧BN tt call 1 Xh (Fr.made 9 args) (Ao tabs) (Fin tt 1 [.tmp 2] v):=by
 subst hcall
 unfold m46 at hm
 replace hm:=Ad hm;obtain⟨a0,args_0,rfl,hm⟩:=hm
 replace hm:=AC hm;obtain⟨rfl,hm⟩:=hm
 replace hm:=Al hm;obtain⟨s0,rfl,hm⟩:=hm
 unfold jA at hm
 refine⟨by simp,?_⟩
 refine .same (F':=(fr 9 [(0,Sl.v 1 s0)])) (H':=Ay) (by kernel_rfl) (by kernel_rfl) ?_
 refine .then (.rK (.ghs (fr 9 [(0,Sl.v 1 s0)]) Ay (.k0 [false] [] [0]) ?_))
 refine .then ?_
 replace hm:=Ae hm;obtain⟨h0,hm⟩:=hm
 refine .reg (eC 5 (Ut Ay ti3 1 s0) (Wh h0) (eE)) ?_
 refine .ghs (fr 9 [(2,(Sl.v 1 (KY 1 s0)))]) Ay (.k0 [false] [] [2]) ?_
 refine .ret ?_
 exact AO (Sl.v 1 (KY 1 s0)) hm

def jC (pu:Af) (n:Nat) (x0:Int):OV:=
 (bb (Bd x0 (0:Int)) (some (.int .i64 (16:Int))) (oo (EA (G6 .u32 (Aj .u32 (Int.mul (Aj .u32 (Np .u16 x0 (Aj .u16 (Int.sub (.ofNat 0) x0)))) (125613361:Int))) 27)) none fun k1=>(bb (Nat.blt k1 32) (oo (AL QH (0+k1*1)) none fun v0=>(oo (Bi .u8 v0) none fun x1=>(some (.int .i64 (Aj .i64 x1))))) none)))
def m47 (pu:Af) (n:Nat) (args:LV):OV:=
 (ll args none fun a0 args=>(ll args (oo (Bi .u16 a0) none fun x0=>(jC pu n x0)) fun _ _=>none))
theorem r47 {call:A8} (pu:Af) (n:Nat) (hcall:call=Bb tabs isP pu (inl pu)) {args:LV} {v:Value} (hm:m47 pu n args=some v) (_:∀ x∈args,closed2 x=true):args.length≤15∧BN tt call 1 XJ (Fr.made 15 args) (Ao tabs) (Fin tt 1 [.tmp 2] v):=by
 subst hcall
 unfold m47 at hm
 replace hm:=Ad hm;obtain⟨a0,args_0,rfl,hm⟩:=hm
 replace hm:=AC hm;obtain⟨rfl,hm⟩:=hm
 replace hm:=Ai hm;obtain⟨x0,rfl,hm⟩:=hm
 unfold jC at hm
 refine⟨by simp,?_⟩
 refine .same (F':=(fr 15 [(0,.int .u16 x0)])) (H':=Ay) (by kernel_rfl) (by kernel_rfl) ?_
 refine .then (.rK (.ghs (fr 15 [(0,.int .u16 x0)]) Ay (.k0 [false] [] [0]) ?_))
 refine .then (.then (.rK (.ghs (fr 15 [(0,.int .u16 x0),(4,(zB (Bd x0 (0:Int))))]) Ay (.k0 [false] [] [0,4]) ?_)))
 replace hm:=Ag hm;rcases hm with⟨h0,hm⟩ | ⟨h0,hm⟩
 ·refine BB (Bd x0 (0:Int)) h0 ?_
  refine .then (.rK (.ghs (fr 15 [(2,(zI (16:Int)))]) Ay (.k0 [false] [] [2]) ?_))
  refine .ret ?_
  exact AO (zI (16:Int)) hm
 ·refine BI (Bd x0 (0:Int)) h0 ?_
  refine .skip (.ghs (fr 15 [(0,.int .u16 x0)]) Ay (.k0 [false] [] [0]) ?_)
  refine .then ?_
  replace hm:=Ab hm;obtain⟨k1,h1,hm⟩:=hm
  replace hm:=Ae hm;obtain⟨h2,hm⟩:=hm
  replace hm:=G9 hm;obtain⟨x1,h3,hm⟩:=hm
  refine .reg (eC 6 (some ((.int .u32 (G6 .u32 (Aj .u32 (Int.mul (Aj .u32 (Np .u16 x0 (Aj .u16 (Int.sub (.ofNat 0) x0)))) (125613361:Int))) 27)),Ay)) (show _=some ((.int .u32 (Int.ofNat k1)),_) from (by rw[AR h1])) (eD (keep Ay (bb (Nat.blt k1 32) (some (.pointer (some ⟨0,(0+k1*1),none⟩))) none)) (AX h2) (eD (keep Ay (AL QH (0+k1*1))) (AZ h3) (eE)))) ?_
  refine .ghs (fr 15 [(2,(zI (Aj .i64 x1)))]) Ay (.k0 [false] [] [2]) ?_
  refine .ret ?_
  exact AO (zI (Aj .i64 x1)) hm
def VU (pu:Af) (n:Nat) (b0:Bool):OV:=
 (some (.bool b0))
def AfZ (pu:Af) (n:Nat) (x0 x1 x2:Int):OV:=
 (bb (nt (AY x1 x0)) (VU pu n (nt (AY x2 x1))) (VU pu n false))
def m48 (pu:Af) (n:Nat) (args:LV):OV:=
 (ll args none fun a0 args=>(ll args none fun a1 args=>(ll args none fun a2 args=>(ll args (oo (Bi .i64 a0) none fun x0=>(oo (Bi .i64 a1) none fun x1=>(oo (Bi .i64 a2) none fun x2=>(AfZ pu n x0 x1 x2)))) fun _ _=>none))))
theorem Af0 (pu:Af) (n:Nat) (b0:Bool) {v:Value} (hm:VU pu n b0=some v):BN tt (Bb tabs isP pu (inl pu)) 1 .ret (fr 15 [(6,zB b0)]) Ay (Fin tt 1 [.tmp 6] v):=by
 unfold VU at hm
 refine .ret ?_
 exact AO (zB b0) hm
theorem r48 {call:A8} (pu:Af) (n:Nat) (hcall:call=Bb tabs isP pu (inl pu)) {args:LV} {v:Value} (hm:m48 pu n args=some v) (_:∀ x∈args,closed2 x=true):args.length≤15∧BN tt call 1 XK (Fr.made 15 args) (Ao tabs) (Fin tt 1 [.tmp 6] v):=by
 subst hcall
 unfold m48 at hm
 replace hm:=Ad hm;obtain⟨a0,args_0,rfl,hm⟩:=hm
 replace hm:=Ad hm;obtain⟨a1,args_1,rfl,hm⟩:=hm
 replace hm:=Ad hm;obtain⟨a2,args_2,rfl,hm⟩:=hm
 replace hm:=AC hm;obtain⟨rfl,hm⟩:=hm
 replace hm:=Ai hm;obtain⟨x0,rfl,hm⟩:=hm
 replace hm:=Ai hm;obtain⟨x1,rfl,hm⟩:=hm
 replace hm:=Ai hm;obtain⟨x2,rfl,hm⟩:=hm
 unfold AfZ at hm
 refine⟨by simp,?_⟩
 refine .same (F':=(fr 15 [(0,zI x0),(1,zI x1),(2,zI x2)])) (H':=Ay) (by kernel_rfl) (by kernel_rfl) ?_
 refine .then (.rK (.ghs (fr 15 [(0,zI x0),(1,zI x1),(2,zI x2)]) Ay (.k0 [false] [] [0,1,2]) ?_))
 refine .join (v:=v) (fun y:Bool=>((fr 15 [(6,zB y)]),Ay)) (fun y=>VU pu n y) ?_ ?_
 ·rintro b0 hm
  exact Af0 pu n b0 hm
 ·replace hm:=Ag hm;rcases hm with⟨h0,hm⟩ | ⟨h0,hm⟩
  ·refine .reg (eC 2 (some ((zB (nt (AY x1 x0))),Ay)) (show _=some ((zB true),_) from (by rw[show (nt (AY x1 x0))=true from h0])) (eE)) ?_
   exact⟨(nt (AY x2 x1)),hm,(.k0 [false] [] [6])⟩
  ·refine .reg (eC 2 (some ((zB (nt (AY x1 x0))),Ay)) (show _=some ((zB false),_) from (by rw[show (nt (AY x1 x0))=false from h0])) (eE)) ?_
   exact⟨false,hm,(.k0 [false] [] [6])⟩
end
end Go.BkMM
