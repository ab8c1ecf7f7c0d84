/- Made from wip. -/
import Derived.Test.YtglnihplphhhoaaDoorTbRMod1x

set_option maxRecDepth 100000
set_option maxHeartbeats 20000000
set_option linter.unusedVariables false
namespace Go.TbRM
open Go.Sp Go.TbR
noncomputable section
def RQ (pu:Af) (n n0 c0 n1 c1:Nat) (q0:LV) (q1:LV):OV:=
 (bb (Au Ah q0) (bb (Au Ah q1) (bb (an (Nat.ble (0+n0*1) (len q0)) (Au Ah (Aq (n0*1) (Am 0 q0)))) (bb (an (Nat.ble (0+n1*1) (len q1)) (Au Ah (Aq (n1*1) (Am 0 q1)))) (some (.tuple ⟨[(Sl.v 1 (Sl.mk n0 0 (Aq (n0*1) (Am 0 q0)))),(Sl.v 1 (Sl.mk n1 0 (Aq (n1*1) (Am 0 q1))))]⟩)) none) none) none) none)
def Sc (pu:Af) (n:Nat) (ih0:Int→Nat→Nat→Nat→Nat→Sl→Int→Int→LV→LV→OV) (z0:Int) (n0 c0 n1 c1:Nat) (s0:Sl) (z1 z2:Int) (q0:LV) (q1:LV):OV:=
 (bb (Au Ah q0) (bb (Au Ah q1) (ih0 z0 n0 c0 n1 c1 s0 z1 (Aj .i64 (Int.add z2 (1:Int))) q0 q1) none) none)
def Sd (pu:Af) (n:Nat) (ih0:Int→Nat→Nat→Nat→Nat→Sl→Int→Int→LV→LV→OV) (z0:Int) (n0 c0 n1 c1:Nat) (z1:Int) (s0:Sl) (z2 z3:Int) (b0:Bool) (q0:LV) (q1:LV) (z4 z5:Int):OV:=
 (bb b0 (oo (EA z5) none fun k1=>(bb (an (Nat.blt k1 n0) true) (oo (AL q0 (0+k1*1)) none fun v0=>(oo (Bi .i64 v0) none fun x0=>(oo (EA z4) none fun k2=>(bb (an (Nat.blt k2 n0) true) (oo (AL q0 (0+k2*1)) none fun v1=>(oo (Bi .i64 v1) none fun x1=>(bb (an (Nat.blt k2 n0) true) (bb (an (Nat.ble ((0+k2*1)+1) (len q0)) true) (bb (an (Nat.blt k1 n0) true) (bb (an (Nat.ble ((0+k1*1)+1) (len (BM ([.int .i64 x0]:LV) (0+k2*1) q0))) true) (bb (Au Ah (BM ([.int .i64 x1]:LV) (0+k1*1) (BM ([.int .i64 x0]:LV) (0+k2*1) q0))) (bb (Au Ah q1) (oo (EA z1) none fun k3=>(bb (an (Nat.blt k3 n1) true) (bb (an (Nat.ble ((0+k3*1)+1) (len q1)) true) (bb (Au Ah (BM ([(.bool true)]:LV) (0+k3*1) q1)) (Sc pu n ih0 z0 n0 c0 n1 c1 s0 z2 z3 (BM ([.int .i64 x1]:LV) (0+k1*1) (BM ([.int .i64 x0]:LV) (0+k2*1) q0)) (BM ([(.bool true)]:LV) (0+k3*1) q1)) none) none) none)) none) none) none) none) none) none))) none)))) none)) (bb (Au Ah q0) (bb (Au Ah q1) (Sc pu n ih0 z0 n0 c0 n1 c1 s0 z2 z3 q0 q1) none) none))
def Pp (pu:Af) (n:Nat) (ih0:Int→Nat→Nat→Nat→Nat→Sl→Int→Int→LV→LV→OV) (z0:Int) (n0 c0 n1 c1:Nat) (s0:Sl) (z1 z2:Int) (q0:LV) (q1:LV):OV:=
 (bb (Au Ah q0) (bb (Au Ah q1) (bb (AY z2 z1) (oo (EA z2) none fun k1=>(bb (an (Nat.blt k1 (Sl.n s0)) true) (bb (Nat.ble ((k1*2)+2) (len (Sl.cs s0))) (oo (AL (Sl.cs s0) (k1*2)) none fun v0=>(oo (Bi .i64 v0) none fun x0=>(oo (AL (Sl.cs s0) ((k1*2)+1)) none fun v1=>(oo (Bi .i64 v1) none fun x1=>(bb (nt (Bd (Int.ofNat k1) z0)) (oo (EA x0) none fun k2=>(bb (an (Nat.blt k2 n0) true) (oo (AL q0 (0+k2*1)) none fun v2=>(oo (Bi .i64 v2) none fun x2=>(oo (EA x1) none fun k3=>(bb (an (Nat.blt k3 n0) true) (oo (AL q0 (0+k3*1)) none fun v3=>(oo (Bi .i64 v3) none fun x3=>(Sd pu n ih0 z0 n0 c0 n1 c1 (Int.ofNat k1) s0 z1 (Int.ofNat k1) (AY x3 x2) q0 q1 (Int.ofNat k2) (Int.ofNat k3)))) none)))) none)) (Sd pu n ih0 z0 n0 c0 n1 c1 (Int.ofNat k1) s0 z1 (Int.ofNat k1) false q0 q1 x0 x1)))))) none) none)) (RQ pu n n0 c0 n1 c1 q0 q1)) none) none)
def OT (pu:Af) (n w:Nat):Int→Nat→Nat→Nat→Nat→Sl→Int→Int→LV→LV→OV:=
 Nat.rec (motive:=fun _=>Int→Nat→Nat→Nat→Nat→Sl→Int→Int→LV→LV→OV) (fun _ _ _ _ _ _ _ _ _ _=>none) (fun _ ih0=>Pp pu n ih0) w
def tX (pu:Af) (n:Nat) (x0:Int) (s0 s1:Sl) (x1:Int):OV:=
 (bb (EQ (0+(Sl.n s1)) 8) (bb (Au Ah (Aq ((Sl.n s1)*1) (Sl.cs s1))) (bb (an (Nat.ble (Sl.n s0) (Sl.n s0)) (an (Nat.ble ((Sl.n s0)*1) 1099511627776) (an (Nat.ble (Sl.n s0) 1099511627776) true))) (bb (Au Ah (AF ([(.bool false)]:LV) (Sl.n s0))) (OT pu n n x1 (Sl.n s1) (2*(Sl.n s1)+bb false 1 0) (Sl.n s0) (2*(Sl.n s0)+bb true 1 0) s0 (Int.ofNat (Sl.n s0)) (0:Int) (Aq ((Sl.n s1)*1) (Sl.cs s1)) (AF ([(.bool false)]:LV) (Sl.n s0))) none) none) none) none)
def m8 (pu:Af) (n:Nat) (args:LV):OV:=
 (ll args none fun a0 args=>(ll args none fun a1 args=>(ll args none fun a2 args=>(ll args (oo (Bt a0) none fun l0=>(ll l0 none fun v0 l0=>(ll l0 none fun v1 l0=>(ll l0 (oo (Bi .i64 v0) none fun x0=>(oo (Bj 2 v1) none fun s0=>(oo (Bj 1 a1) none fun s1=>(oo (Bi .i64 a2) none fun x1=>(tX pu n x0 s0 s1 x1))))) fun _ _=>none)))) fun _ _=>none))))
theorem xH (pu:Af) (n n0 c0 n1 c1:Nat) (q0:LV) (q1:LV) {v:Value} (hm:RQ pu n n0 c0 n1 c1 q0 q1=some v):BN tt (Bb tabs Fb pu (inl pu)) 1 Wn (fr 66 [(8,sc 1 0 1 n0 c0),(9,sc 2 0 1 n1 c1)]) (hT 3 [oC q0,oC q1]) (Fin tt 1 [.tmp 6,.tmp 7] v):=by
 unfold RQ at hm
 refine .then (.rK ?_)
 replace hm:=Ae hm;obtain⟨h0,hm⟩:=hm
 replace hm:=Ae hm;obtain⟨h1,hm⟩:=hm
 refine .ghs (fr 66 [(6,sc 1 0 1 n0 c0),(7,sc 2 0 1 n1 c1)]) (hT 3 [oC q0,oC q1]) (.k [1,2] [false] [.tmp 6 false,.tmp 7 false] [6,7] ⟨Bp h0,Bp h1,trivial⟩) ?_
 replace hm:=Ae hm;obtain⟨h2,hm⟩:=hm
 replace hm:=Ae hm;obtain⟨h3,hm⟩:=hm
 refine .ghs (Fr.puts (fr 66 [(6,sc 1 0 1 n0 c0),(7,sc 2 0 1 n1 c1)]) [(6,(Sl.v 1 (Sl.mk n0 0 (Aq (n0*1) (Am 0 q0))))),(7,(Sl.v 1 (Sl.mk n1 0 (Aq (n1*1) (Am 0 q1)))))]) (hT 3 [.dead,.dead]) (.freezeC 1 6 1 (an (Nat.ble (0+n0*1) (len q0)) (Au Ah (Aq (n0*1) (Am 0 q0)))) (F1:=(Fr.puts (fr 66 [(6,sc 1 0 1 n0 c0),(7,sc 2 0 1 n1 c1)]) [(6,(Sl.v 1 (Sl.mk n0 0 (Aq (n0*1) (Am 0 q0)))))])) (H1:=(hT 3 [.dead,oC q1])) (by kernel_rfl) (by kernel_rfl) h2 (.freezeC 1 7 1 (an (Nat.ble (0+n1*1) (len q1)) (Au Ah (Aq (n1*1) (Am 0 q1)))) (F1:=(Fr.puts (fr 66 [(6,sc 1 0 1 n0 c0),(7,sc 2 0 1 n1 c1)]) [(6,(Sl.v 1 (Sl.mk n0 0 (Aq (n0*1) (Am 0 q0))))),(7,(Sl.v 1 (Sl.mk n1 0 (Aq (n1*1) (Am 0 q1)))))])) (H1:=(hT 3 [.dead,.dead])) (by kernel_rfl) (by kernel_rfl) h3 (E9.id _ _))) ?_
 refine .ret ?_
 exact BO (.tuple ⟨[(Sl.v 1 (Sl.mk n0 0 (Aq (n0*1) (Am 0 q0)))),(Sl.v 1 (Sl.mk n1 0 (Aq (n1*1) (Am 0 q1))))]⟩) hm
theorem r8 {call:A8} (pu:Af) (n:Nat) (hcall:call=Bb tabs Fb pu (inl pu)) {args:LV} {v:Value} (hm:m8 pu n args=some v) (_:∀ x∈args,closed2 x=true):args.length≤66∧BN tt call 1 PO (Fr.made 66 args) (Ao tabs) (Fin tt 1 [.tmp 6,.tmp 7] v):=by
 subst hcall
 unfold m8 at hm
 replace hm:=Ad hm;obtain⟨a0,args_0,rfl,hm⟩:=hm
 replace hm:=Ad hm;obtain⟨a1,args_1,rfl,hm⟩:=hm
 replace hm:=Ad hm;obtain⟨a2,args_2,rfl,hm⟩:=hm
 replace hm:=AC hm;obtain⟨rfl,hm⟩:=hm
 replace hm:=BG hm;obtain⟨l0,rfl,hm⟩:=hm
 replace hm:=Ad hm;obtain⟨v0,l2901_0,rfl,hm⟩:=hm
 replace hm:=Ad hm;obtain⟨v1,l2901_1,rfl,hm⟩:=hm
 replace hm:=AC hm;obtain⟨rfl,hm⟩:=hm
 replace hm:=Ai hm;obtain⟨x0,rfl,hm⟩:=hm
 replace hm:=Al hm;obtain⟨s0,rfl,hm⟩:=hm
 replace hm:=Al hm;obtain⟨s1,rfl,hm⟩:=hm
 replace hm:=Ai hm;obtain⟨x1,rfl,hm⟩:=hm
 unfold tX at hm
 refine⟨by simp,?_⟩
 refine .same (F':=(fr 66 [(0,(.agg ⟨[zI x0,(Sl.v 2 s0)]⟩)),(1,Sl.v 1 s1),(2,zI x1)])) (H':=BB) (by kernel_rfl) (by kernel_rfl) ?_
 refine .then (.rK (.ghs (fr 66 [(1,Sl.v 1 s1),(2,zI x1),(3,pt 1 0)]) (hT 2 [(oC [zI x0,(Sl.v 2 s0)])]) (.k0 [false] [.tmp 3 false] [1,2,3]) ?_))
 refine .then ?_
 replace hm:=Ae hm;obtain⟨h0,hm⟩:=hm
 refine .reg (eC 1 (bb (EQ (0+(Sl.n s1)) 8) (some ((sc 3 0 1 (Sl.n s1) (d2 (Sl.n s1))),(hT 4 [(oC [zI x0,(Sl.v 2 s0)]),(oC []),(oC (Aq ((Sl.n s1)*1) (Sl.cs s1)))]))) none) (kH h0) (eE)) ?_
 replace hm:=Ae hm;obtain⟨h1,hm⟩:=hm
 refine .ghs (fr 66 [(2,zI x1),(3,pt 1 0),(8,(sc 2 0 1 (Sl.n s1) (d2 (Sl.n s1))))]) (hT 3 [(oC [zI x0,(Sl.v 2 s0)]),(oC (Aq ((Sl.n s1)*1) (Sl.cs s1)))]) (.k [3] [false] [.tmp 3 false,.tmp 8 false] [2,3,8] ⟨Bp h1,trivial⟩) ?_
 refine .then ?_
 replace hm:=Ae hm;obtain⟨h2,hm⟩:=hm
 refine .reg (eC 3 (bb (an (Nat.ble (Sl.n s0) (Sl.n s0)) (an (Nat.ble ((Sl.n s0)*1) 1099511627776) (an (Nat.ble (Sl.n s0) 1099511627776) true))) (some ((sc 3 0 1 (Sl.n s0) (2*(Sl.n s0)+bb true 1 0)),(hT 4 [(oC [zI x0,(Sl.v 2 s0)]),(oC (Aq ((Sl.n s1)*1) (Sl.cs s1))),(oC (AF ([zB false]:LV) (Sl.n s0)))]))) none) (kH h2) (eE)) ?_
 replace hm:=Ae hm;obtain⟨h3,hm⟩:=hm
 refine .ghs (fr 66 [(2,zI x1),(3,pt 1 0),(8,(sc 2 0 1 (Sl.n s1) (d2 (Sl.n s1)))),(9,(sc 3 0 1 (Sl.n s0) (2*(Sl.n s0)+bb true 1 0)))]) (hT 4 [(oC [zI x0,(Sl.v 2 s0)]),(oC (Aq ((Sl.n s1)*1) (Sl.cs s1))),(oC (AF ([zB false]:LV) (Sl.n s0)))]) (.k [2,3] [false] [.tmp 3 false,.tmp 8 false,.tmp 9 false] [2,3,8,9] ⟨Bp h1,Bp h3,trivial⟩) ?_
 refine .join (v:=v) (fun y:Nat×Nat×Nat×Nat×LV×LV=>((fr 66 [(8,(sc 1 0 1 y.1 y.2.1)),(9,(sc 2 0 1 y.2.2.1 y.2.2.2.1))]),(hT 3 [(oC y.2.2.2.2.1),(oC y.2.2.2.2.2)]))) (fun y=>RQ pu n y.1 y.2.1 y.2.2.1 y.2.2.2.1 y.2.2.2.2.1 y.2.2.2.2.2) ?_ ?_
 ·rintro⟨n0,c0,n1,c1,q0,q1⟩ hm
  exact xH pu n n0 c0 n1 c1 q0 q1 hm
 ·refine .then (.rK (.ghs (fr 66 [(2,zI x1),(8,(sc 1 0 1 (Sl.n s1) (d2 (Sl.n s1)))),(9,(sc 2 0 1 (Sl.n s0) (2*(Sl.n s0)+bb true 1 0))),(19,(Sl.v 2 s0)),(20,(zI (Int.ofNat (Sl.n s0)))),(21,(zI (0:Int)))]) (hT 3 [(oC (Aq ((Sl.n s1)*1) (Sl.cs s1))),(oC (AF ([zB false]:LV) (Sl.n s0)))]) (.k [2,3] [false] [.tmp 8 false,.tmp 9 false] [2,8,9,19,20,21] ⟨Bp h1,Bp h3,trivial⟩) ?_))
  refine .block (.loopM (v:=v) (fun y:Int×Nat×Nat×Nat×Nat×Sl×Int×Int×LV×LV=>((fr 66 [(2,(zI y.1)),(8,(sc 1 0 1 y.2.1 y.2.2.1)),(9,(sc 2 0 1 y.2.2.2.1 y.2.2.2.2.1)),(19,(Sl.v 2 y.2.2.2.2.2.1)),(20,(zI y.2.2.2.2.2.2.1)),(21,(zI y.2.2.2.2.2.2.2.1))]),(hT 3 [(oC y.2.2.2.2.2.2.2.2.1),(oC y.2.2.2.2.2.2.2.2.2)]))) (fun w y=>OT pu n w y.1 y.2.1 y.2.2.1 y.2.2.2.1 y.2.2.2.2.1 y.2.2.2.2.2.1 y.2.2.2.2.2.2.1 y.2.2.2.2.2.2.2.1 y.2.2.2.2.2.2.2.2.1 y.2.2.2.2.2.2.2.2.2) n ⟨(x1,(Sl.n s1),(d2 (Sl.n s1)),(Sl.n s0),(2*(Sl.n s0)+bb true 1 0),s0,(Int.ofNat (Sl.n s0)),(0:Int),(Aq ((Sl.n s1)*1) (Sl.cs s1)),(AF ([zB false]:LV) (Sl.n s0))),hm,(.k [1,2] [false] [.tmp 8 false,.tmp 9 false] [2,8,9,19,20,21] ⟨Bp h1,Bp h3,trivial⟩)⟩ (fun _=>rfl) ?_)
  rintro w0 ⟨z0,n2,c2,n3,c4,s2,z1,z2,q2,q3⟩ hm
  replace hm:Pp pu n (OT pu n w0) z0 n2 c2 n3 c4 s2 z1 z2 q2 q3=some v:=hm
  unfold Pp at hm
  refine .then (.rK ?_)
  replace hm:=Ae hm;obtain⟨h4,hm⟩:=hm
  replace hm:=Ae hm;obtain⟨h5,hm⟩:=hm
  refine .ghs (fr 66 [(2,zI z0),(8,sc 1 0 1 n2 c2),(9,sc 2 0 1 n3 c4),(19,(Sl.v 2 s2)),(20,zI z1),(21,zI z2),(22,(zB (AY z2 z1)))]) (hT 3 [oC q2,oC q3]) (.k [1,2] [false] [.tmp 8 false,.tmp 9 false] [2,8,9,19,20,21,22] ⟨Bp h4,Bp h5,trivial⟩) ?_
  refine .then ?_
  replace hm:=Ag hm;rcases hm with⟨h6,hm⟩ | ⟨h6,hm⟩
  ·refine DL (AY z2 z1) h6 ?_
   refine .skip (.ghs (fr 66 [(2,zI z0),(8,sc 1 0 1 n2 c2),(9,sc 2 0 1 n3 c4),(19,(Sl.v 2 s2)),(20,zI z1),(21,zI z2)]) (hT 3 [oC q2,oC q3]) (.k [1,2] [false] [.tmp 8 false,.tmp 9 false] [2,8,9,19,20,21] ⟨Bp h4,Bp h5,trivial⟩) ?_)
   refine .join (v:=v) (fun y:Int×Nat×Nat×Nat×Nat×Sl×Int×Int×LV×LV=>((fr 66 [(2,(zI y.1)),(8,(sc 1 0 1 y.2.1 y.2.2.1)),(9,(sc 2 0 1 y.2.2.2.1 y.2.2.2.2.1)),(19,(Sl.v 2 y.2.2.2.2.2.1)),(20,(zI y.2.2.2.2.2.2.1)),(21,(zI y.2.2.2.2.2.2.2.1))]),(hT 3 [(oC y.2.2.2.2.2.2.2.2.1),(oC y.2.2.2.2.2.2.2.2.2)]))) (fun y=>Sc pu n (OT pu n w0) y.1 y.2.1 y.2.2.1 y.2.2.2.1 y.2.2.2.2.1 y.2.2.2.2.2.1 y.2.2.2.2.2.2.1 y.2.2.2.2.2.2.2.1 y.2.2.2.2.2.2.2.2.1 y.2.2.2.2.2.2.2.2.2) ?_ ?_
   ·rintro⟨z3,n4,c12,n5,c72,s3,z4,z5,q4,q5⟩ hm
    unfold Sc at hm
    refine .rK ?_
    replace hm:=Ae hm;obtain⟨h7,hm⟩:=hm
    replace hm:=Ae hm;obtain⟨h8,hm⟩:=hm
    exact⟨(z3,n4,c12,n5,c72,s3,z4,(Aj .i64 (Int.add z5 (1:Int))),q4,q5),hm,(.k [1,2] [false] [.tmp 8 false,.tmp 9 false] [2,8,9,19,20,21] ⟨Bp h7,Bp h8,trivial⟩)⟩
   ·refine .block (.then ?_)
    replace hm:=Ab hm;obtain⟨k1,h9,hm⟩:=hm
    obtain rfl:=AR h9
    replace hm:=Ae hm;obtain⟨h10,hm⟩:=hm
    replace hm:=Ae hm;obtain⟨h11,hm⟩:=hm
    replace hm:=IV hm;obtain⟨x2,h12,hm⟩:=hm
    replace hm:=IV hm;obtain⟨x3,h13,hm⟩:=hm
    refine .reg (eC 1 (keep (hT 3 [oC q2,oC q3]) (bb (an (Nat.blt k1 (Sl.n s2)) true) (some (Cv (k1*2) (Sl.cs s2))) none)) (AX h10) (eD (keep (hT 3 [oC q2,oC q3]) (bb (Nat.ble ((k1*2)+2) (len (Sl.cs s2))) (some (.agg ⟨Aq 2 (Am (k1*2) (Sl.cs s2))⟩)) none)) (Pd h11 (Ca h12 (Ca h13 rfl))) (eE))) ?_
    refine .ghs (fr 66 [(2,zI z0),(8,sc 1 0 1 n2 c2),(9,sc 2 0 1 n3 c4),(10,(zI (Int.ofNat k1))),(11,(pt 3 0)),(19,(Sl.v 2 s2)),(20,zI z1),(21,(zI (Int.ofNat k1)))]) (hT 4 [oC q2,oC q3,(oC [zI x2,zI x3])]) (.k [1,2] [false] [.tmp 8 false,.tmp 9 false,.tmp 11 false] [2,8,9,10,11,19,20,21] ⟨Bp h4,Bp h5,trivial⟩) ?_
    refine .join (v:=v) (fun y:Int×Nat×Nat×Nat×Nat×Int×Sl×Int×Int×Bool×LV×LV×Int×Int=>((fr 66 [(2,(zI y.1)),(8,(sc 1 0 1 y.2.1 y.2.2.1)),(9,(sc 2 0 1 y.2.2.2.1 y.2.2.2.2.1)),(10,(zI y.2.2.2.2.2.1)),(11,(pt 3 0)),(19,(Sl.v 2 y.2.2.2.2.2.2.1)),(20,(zI y.2.2.2.2.2.2.2.1)),(21,(zI y.2.2.2.2.2.2.2.2.1)),(41,(zB y.2.2.2.2.2.2.2.2.2.1))]),(hT 4 [(oC y.2.2.2.2.2.2.2.2.2.2.1),(oC y.2.2.2.2.2.2.2.2.2.2.2.1),(oC [(zI y.2.2.2.2.2.2.2.2.2.2.2.2.1),(zI y.2.2.2.2.2.2.2.2.2.2.2.2.2)])]))) (fun y=>Sd pu n (OT pu n w0) y.1 y.2.1 y.2.2.1 y.2.2.2.1 y.2.2.2.2.1 y.2.2.2.2.2.1 y.2.2.2.2.2.2.1 y.2.2.2.2.2.2.2.1 y.2.2.2.2.2.2.2.2.1 y.2.2.2.2.2.2.2.2.2.1 y.2.2.2.2.2.2.2.2.2.2.1 y.2.2.2.2.2.2.2.2.2.2.2.1 y.2.2.2.2.2.2.2.2.2.2.2.2.1 y.2.2.2.2.2.2.2.2.2.2.2.2.2) ?_ ?_
    ·rintro⟨z6,n6,c73,n7,c74,z7,s4,z8,z9,b0,q6,q7,z10,z11⟩ hm
     unfold Sd at hm
     replace hm:=Ag hm;rcases hm with⟨h14,hm⟩ | ⟨h14,hm⟩
     ·refine .ifT b0 (by kernel_rfl) h14 ?_
      refine .then ?_
      replace hm:=Ab hm;obtain⟨k2,h15,hm⟩:=hm
      obtain rfl:=AR h15
      replace hm:=Ae hm;obtain⟨h16,hm⟩:=hm
      replace hm:=IV hm;obtain⟨x4,h17,hm⟩:=hm
      replace hm:=Ab hm;obtain⟨k3,h18,hm⟩:=hm
      obtain rfl:=AR h18
      replace hm:=Ae hm;obtain⟨h19,hm⟩:=hm
      replace hm:=IV hm;obtain⟨x5,h20,hm⟩:=hm
      replace hm:=Ae hm;obtain⟨h21,hm⟩:=hm
      replace hm:=Ae hm;obtain⟨h22,hm⟩:=hm
      replace hm:=Ae hm;obtain⟨h23,hm⟩:=hm
      replace hm:=Ae hm;obtain⟨h24,hm⟩:=hm
      refine .reg (eN 15 (Fr.puts (fr 66 [(2,zI z6),(8,sc 1 0 1 n6 c73),(9,sc 2 0 1 n7 c74),(10,zI z7),(11,(pt 3 0)),(19,(Sl.v 2 s4)),(20,zI z8),(21,zI z9),(41,zB b0)]) [(42,sc 1 0 1 n6 c73),(43,(pt 3 0)),(44,(zI (Int.ofNat k3))),(45,sc 1 0 1 n6 c73),(46,(pt 3 1)),(47,(zI (Int.ofNat k2))),(48,sc 1 0 1 n6 c73),(49,(pt 3 1)),(50,(zI (Int.ofNat k2))),(51,(.pointer (some ⟨1,(0+k2*1),none⟩))),(52,zI x4),(53,sc 1 0 1 n6 c73),(54,(pt 3 0)),(55,(zI (Int.ofNat k3))),(56,(.pointer (some ⟨1,(0+k3*1),none⟩)))]) (hT 4 [oC q6,oC q7,(oC [(zI (Int.ofNat k3)),(zI (Int.ofNat k2))])]) (eC 9 (keep (hT 4 [oC q6,oC q7,(oC [(zI (Int.ofNat k3)),(zI (Int.ofNat k2))])]) (bb (an (Nat.blt k2 n6) true) (some (.pointer (some ⟨1,(0+k2*1),none⟩))) none)) (AX h16) (eD (keep (hT 4 [oC q6,oC q7,(oC [(zI (Int.ofNat k3)),(zI (Int.ofNat k2))])]) (AL q6 (0+k2*1))) (AZ h17) (eC 3 (keep (hT 4 [oC q6,oC q7,(oC [(zI (Int.ofNat k3)),(zI (Int.ofNat k2))])]) (bb (an (Nat.blt k3 n6) true) (some (.pointer (some ⟨1,(0+k3*1),none⟩))) none)) (AX h19) (by kernel_rfl)))) (eD (keep (hT 4 [oC q6,oC q7,(oC [(zI (Int.ofNat k3)),(zI (Int.ofNat k2))])]) (AL q6 (0+k3*1))) (AZ h20) (eD (keep (hT 4 [oC q6,oC q7,(oC [(zI (Int.ofNat k3)),(zI (Int.ofNat k2))])]) (bb (an (Nat.blt k3 n6) true) (some (.pointer (some ⟨1,(0+k3*1),none⟩))) none)) (AX h21) (eD (done (bb (an (Nat.ble ((0+k3*1)+1) (len q6)) true) (some (hT 4 [(oC (BM ([zI x4]:LV) (0+k3*1) q6)),oC q7,(oC [(zI (Int.ofNat k3)),(zI (Int.ofNat k2))])])) none) undef) (Js h22) (eD (keep (hT 4 [(oC (BM ([zI x4]:LV) (0+k3*1) q6)),oC q7,(oC [(zI (Int.ofNat k3)),(zI (Int.ofNat k2))])]) (bb (an (Nat.blt k2 n6) true) (some (.pointer (some ⟨1,(0+k2*1),none⟩))) none)) (AX h23) (eD (done (bb (an (Nat.ble ((0+k2*1)+1) (len (BM ([zI x4]:LV) (0+k3*1) q6))) true) (some (hT 4 [(oC (BM ([zI x5]:LV) (0+k2*1) (BM ([zI x4]:LV) (0+k3*1) q6))),oC q7,(oC [(zI (Int.ofNat k3)),(zI (Int.ofNat k2))])])) none) undef) (Js h24) (eE))))))) ?_
      replace hm:=Ae hm;obtain⟨h25,hm⟩:=hm
      replace hm:=Ae hm;obtain⟨h26,hm⟩:=hm
      refine .ghs (fr 66 [(2,zI z6),(8,sc 1 0 1 n6 c73),(9,sc 2 0 1 n7 c74),(10,zI z7),(19,(Sl.v 2 s4)),(20,zI z8),(21,zI z9)]) (hT 3 [(oC (BM ([zI x5]:LV) (0+k2*1) (BM ([zI x4]:LV) (0+k3*1) q6))),oC q7]) (.k [1,2] [false] [.tmp 8 false,.tmp 9 false] [2,8,9,10,19,20,21] ⟨Bp h25,Bp h26,trivial⟩) ?_
      replace hm:=Ab hm;obtain⟨k4,h27,hm⟩:=hm
      obtain rfl:=AR h27
      replace hm:=Ae hm;obtain⟨h28,hm⟩:=hm
      replace hm:=Ae hm;obtain⟨h29,hm⟩:=hm
      refine .reg (eC 2 (keep (hT 3 [(oC (BM ([zI x5]:LV) (0+k2*1) (BM ([zI x4]:LV) (0+k3*1) q6))),oC q7]) (bb (an (Nat.blt k4 n7) true) (some (.pointer (some ⟨2,(0+k4*1),none⟩))) none)) (AX h28) (eD (done (bb (an (Nat.ble ((0+k4*1)+1) (len q7)) true) (some (hT 3 [(oC (BM ([zI x5]:LV) (0+k2*1) (BM ([zI x4]:LV) (0+k3*1) q6))),(oC (BM ([zB true]:LV) (0+k4*1) q7))])) none) undef) (Js h29) (eE))) ?_
      replace hm:=Ae hm;obtain⟨h30,hm⟩:=hm
      exact⟨(z6,n6,c73,n7,c74,s4,z8,z9,(BM ([zI x5]:LV) (0+k2*1) (BM ([zI x4]:LV) (0+k3*1) q6)),(BM ([zB true]:LV) (0+k4*1) q7)),hm,(.k [1,2] [false] [.tmp 8 false,.tmp 9 false] [2,8,9,19,20,21] ⟨Bp h25,Bp h30,trivial⟩)⟩
     ·refine .ifF b0 (by kernel_rfl) h14 ?_
      refine .skip ?_
      replace hm:=Ae hm;obtain⟨h31,hm⟩:=hm
      replace hm:=Ae hm;obtain⟨h32,hm⟩:=hm
      exact⟨(z6,n6,c73,n7,c74,s4,z8,z9,q6,q7),hm,(.k [1,2] [false] [.tmp 8 false,.tmp 9 false] [2,8,9,19,20,21] ⟨Bp h31,Bp h32,trivial⟩)⟩
    ·replace hm:=Ag hm;rcases hm with⟨h33,hm⟩ | ⟨h33,hm⟩
     ·replace hm:=Ab hm;obtain⟨k5,h34,hm⟩:=hm
      obtain rfl:=AR h34
      replace hm:=Ae hm;obtain⟨h35,hm⟩:=hm
      replace hm:=IV hm;obtain⟨x6,h36,hm⟩:=hm
      replace hm:=Ab hm;obtain⟨k6,h37,hm⟩:=hm
      obtain rfl:=AR h37
      replace hm:=Ae hm;obtain⟨h38,hm⟩:=hm
      replace hm:=IV hm;obtain⟨x7,h39,hm⟩:=hm
      refine .reg (eC 2 (some ((zB (nt (Bd (Int.ofNat k1) z0))),(hT 4 [oC q2,oC q3,(oC [(zI (Int.ofNat k5)),(zI (Int.ofNat k6))])]))) (show _=some ((zB true),_) from (by rw[show (nt (Bd (Int.ofNat k1) z0))=true from h33])) (eC 4 (keep (hT 4 [oC q2,oC q3,(oC [(zI (Int.ofNat k5)),(zI (Int.ofNat k6))])]) (bb (an (Nat.blt k5 n2) true) (some (.pointer (some ⟨1,(0+k5*1),none⟩))) none)) (AX h35) (eD (keep (hT 4 [oC q2,oC q3,(oC [(zI (Int.ofNat k5)),(zI (Int.ofNat k6))])]) (AL q2 (0+k5*1))) (AZ h36) (eC 3 (keep (hT 4 [oC q2,oC q3,(oC [(zI (Int.ofNat k5)),(zI (Int.ofNat k6))])]) (bb (an (Nat.blt k6 n2) true) (some (.pointer (some ⟨1,(0+k6*1),none⟩))) none)) (AX h38) (eD (keep (hT 4 [oC q2,oC q3,(oC [(zI (Int.ofNat k5)),(zI (Int.ofNat k6))])]) (AL q2 (0+k6*1))) (AZ h39) (eE)))))) ?_
      exact⟨(z0,n2,c2,n3,c4,(Int.ofNat k1),s2,z1,(Int.ofNat k1),(AY x7 x6),q2,q3,(Int.ofNat k5),(Int.ofNat k6)),hm,(.k [1,2] [false] [.tmp 8 false,.tmp 9 false,.tmp 11 false] [2,8,9,10,11,19,20,21,41] ⟨Bp h4,Bp h5,trivial⟩)⟩
     ·refine .reg (eC 2 (some ((zB (nt (Bd (Int.ofNat k1) z0))),(hT 4 [oC q2,oC q3,(oC [zI x2,zI x3])]))) (show _=some ((zB false),_) from (by rw[show (nt (Bd (Int.ofNat k1) z0))=false from h33])) (eE)) ?_
      exact⟨(z0,n2,c2,n3,c4,(Int.ofNat k1),s2,z1,(Int.ofNat k1),false,q2,q3,x2,x3),hm,(.k [1,2] [false] [.tmp 8 false,.tmp 9 false,.tmp 11 false] [2,8,9,10,11,19,20,21,41] ⟨Bp h4,Bp h5,trivial⟩)⟩
  ·refine DT (AY z2 z1) h6 ?_
   refine .exit ?_
   exact⟨(n2,c2,n3,c4,q2,q3),hm,(.k [1,2] [false] [.tmp 8 false,.tmp 9 false] [8,9] ⟨Bp h4,Bp h5,trivial⟩)⟩
def UH (pu:Af) (n:Nat) (z0 z1:Int):OV:=
 (some (.tuple ⟨[.int .i64 z0,.int .i64 z1,(.int .i64 (0:Int))]⟩))
def Sg (pu:Af) (n:Nat) (ih0:Int→Int→Int→Int→Int→Int→Sl→LV→OV) (z0 z1 z2 z3 z4 z5:Int) (s0:Sl) (q0:LV):OV:=
 (bb (Au Ah q0) (ih0 z0 z1 z2 z3 (Aj .i64 (Int.add z4 (1:Int))) z5 s0 q0) none)
def Pq (pu:Af) (n:Nat) (ih0:Int→Int→Int→Int→Int→Int→Sl→LV→OV) (z0 z1 z2 z3 z4 z5:Int) (s0:Sl) (q0:LV):OV:=
 (bb (Au Ah q0) (bb (AY z4 z3) (oo (pu 21 [(.int .u64 (Aj .u64 z4))]) none fun v0=>(oo (Bi .i64 v0) none fun x0=>(oo (EA (Aj .i64 (Int.tdiv z4 (64:Int)))) none fun k1=>(oo (EA z0) none fun k2=>(bb (Nat.blt k2 7) (bb (Nat.blt k1 2) (oo (AL q0 ((0+k2*2)+k1*1)) none fun v1=>(oo (Bi .u64 v1) none fun x1=>(oo (EA (Int.tmod z4 (64:Int))) none fun k3=>(bb (Bd (Np .u64 (G6 .u64 x1 k3) (1:Int)) (0:Int)) (Sg pu n ih0 (Int.ofNat k2) (bb (AY (Aj .i64 (Int.sub (Aj .i64 (Int.sub z5 x0)) (1:Int))) z1) (Aj .i64 (Int.sub (Aj .i64 (Int.sub z5 x0)) (1:Int))) z1) z2 z3 z4 z5 s0 q0) (Sg pu n ih0 (Int.ofNat k2) z1 (bb (AY z2 (Aj .i64 (Int.sub z5 x0))) (Aj .i64 (Int.sub z5 x0)) z2) z3 z4 z5 s0 q0))))) none) none))))) (UH pu n z1 z2)) none)
def Ps (pu:Af) (n w:Nat):Int→Int→Int→Int→Int→Int→Sl→LV→OV:=
 Nat.rec (motive:=fun _=>Int→Int→Int→Int→Int→Int→Sl→LV→OV) (fun _ _ _ _ _ _ _ _=>none) (fun _ ih0=>Pq pu n ih0) w
def tY (pu:Af) (n:Nat) (x0:Int) (s0:Sl) (x1:Int):OV:=
 (oo (pu 19 [(.agg ⟨[.int .i64 x0,(Sl.v 2 s0)]⟩)]) none fun v0=>(oo (CQ v0) none fun l0=>(ll l0 none fun v1 l0=>(ll l0 none fun v2 l0=>(ll l0 (oo (Bt v1) none fun q0=>(bb (an (Nat.beq (len q0) 14) (Au Ah q0)) (oo (Bi .i64 v2) none fun x2=>(bb (Nat.beq (len q0) 14) (bb (an (Nat.ble (0+len q0) (len Bq)) (Au D6 q0)) (bb (Au Ah (BM q0 0 Bq)) (bb (nt (Bd x2 (0:Int))) (some (.tuple ⟨[(.int .i64 (0:Int)),(.int .i64 (0:Int)),.int .i64 x2]⟩)) (oo (pu 20 [(.int .i64 (0:Int)),.int .i64 x1,(.int .i64 (Aj .i64 (Int.sub x0 (1:Int))))]) none fun v3=>(oo (Bf v3) none fun b0=>(bb (nt b0) (some (.tuple ⟨[(.int .i64 (0:Int)),(.int .i64 (0:Int)),(.int .i64 (2:Int))]⟩)) (oo (EA x0) none fun k1=>(Ps pu n n x1 (Int.ofNat k1) (0:Int) (QW .i64 (1:Int) k1) (0:Int) (Int.ofNat k1) s0 (BM q0 0 Bq))))))) none) none) none)) none)) fun _ _=>none)))))
def m9 (pu:Af) (n:Nat) (args:LV):OV:=
 (ll args none fun a0 args=>(ll args none fun a1 args=>(ll args (oo (Bt a0) none fun l0=>(ll l0 none fun v0 l0=>(ll l0 none fun v1 l0=>(ll l0 (oo (Bi .i64 v0) none fun x0=>(oo (Bj 2 v1) none fun s0=>(oo (Bi .i64 a1) none fun x1=>(tY pu n x0 s0 x1)))) fun _ _=>none)))) fun _ _=>none)))
theorem xI (pu:Af) (n:Nat) (z0 z1:Int) {v:Value} (hm:UH pu n z0 z1=some v):BN tt (Bb tabs Fb pu (inl pu)) 1 Wo (fr 61 [(4,zI z0),(5,zI z1)]) BB (Fin tt 1 [.tmp 4,.tmp 5,.tmp 6] v):=by
 unfold UH at hm
 refine .then (.rK (.ghs (fr 61 [(4,zI z0),(5,zI z1),(6,(zI (0:Int)))]) BB (.k0 [false] [] [4,5,6]) ?_))
 refine .ret ?_
 exact BO (.tuple ⟨[zI z0,zI z1,(zI (0:Int))]⟩) hm
theorem r9 {call:A8} (pu:Af) (n:Nat) (hcall:call=Bb tabs Fb pu (inl pu)) {args:LV} {v:Value} (hm:m9 pu n args=some v) (_:∀ x∈args,closed2 x=true):args.length≤61∧BN tt call 1 PP (Fr.made 61 args) (Ao tabs) (Fin tt 1 [.tmp 4,.tmp 5,.tmp 6] v):=by
 subst hcall
 unfold m9 at hm
 replace hm:=Ad hm;obtain⟨a0,args_0,rfl,hm⟩:=hm
 replace hm:=Ad hm;obtain⟨a1,args_1,rfl,hm⟩:=hm
 replace hm:=AC hm;obtain⟨rfl,hm⟩:=hm
 replace hm:=BG hm;obtain⟨l0,rfl,hm⟩:=hm
 replace hm:=Ad hm;obtain⟨v0,l4591_0,rfl,hm⟩:=hm
 replace hm:=Ad hm;obtain⟨v1,l4591_1,rfl,hm⟩:=hm
 replace hm:=AC hm;obtain⟨rfl,hm⟩:=hm
 replace hm:=Ai hm;obtain⟨x0,rfl,hm⟩:=hm
 replace hm:=Al hm;obtain⟨s0,rfl,hm⟩:=hm
 replace hm:=Ai hm;obtain⟨x1,rfl,hm⟩:=hm
 unfold tY at hm
 refine⟨by simp,?_⟩
 refine .same (F':=(fr 61 [(0,(.agg ⟨[zI x0,(Sl.v 2 s0)]⟩)),(1,zI x1)])) (H':=BB) (by kernel_rfl) (by kernel_rfl) ?_
 refine .then (.rK (.ghs (fr 61 [(1,zI x1),(2,pt 1 0),(5,(zI (0:Int)))]) (hT 2 [(oC [zI x0,(Sl.v 2 s0)])]) (.k0 [false] [.tmp 2 false] [1,2,5]) ?_))
 refine .then ?_
 replace hm:=Ab hm;obtain⟨v2,h0,hm⟩:=hm
 replace hm:=Ch hm;obtain⟨l1,rfl,hm⟩:=hm
 replace hm:=Ad hm;obtain⟨v3,l4616_0,rfl,hm⟩:=hm
 replace hm:=Ad hm;obtain⟨v4,l4616_1,rfl,hm⟩:=hm
 replace hm:=AC hm;obtain⟨rfl,hm⟩:=hm
 replace hm:=BG hm;obtain⟨q0,rfl,hm⟩:=hm
 replace hm:=Ae hm;obtain⟨h1,hm⟩:=hm
 replace hm:=Ai hm;obtain⟨x2,rfl,hm⟩:=hm
 replace hm:=Ae hm;obtain⟨h2,hm⟩:=hm
 replace hm:=Ae hm;obtain⟨h3,hm⟩:=hm
 refine .reg (eC 1 ((oo (pu 19 [(.agg ⟨[zI x0,(Sl.v 2 s0)]⟩)]) none fun v=>some (v,(hT 2 [(oC [zI x0,(Sl.v 2 s0)])])))) (AB h0) (eC 4 (done (bb (Nat.beq (len q0) 14) (bb (an (Nat.ble (0+len q0) (len Bq)) (Au D6 q0)) (some (hT 3 [(oC [zI x0,(Sl.v 2 s0)]),(oC (BM q0 0 Bq))])) none) none) undef) (bH h2 h3) (eE))) ?_
 replace hm:=Ae hm;obtain⟨h4,hm⟩:=hm
 refine .ghs (fr 61 [(1,zI x1),(2,pt 1 0),(5,(zI (0:Int))),(6,zI x2),(7,(pt 2 0))]) (hT 3 [(oC [zI x0,(Sl.v 2 s0)]),(oC (BM q0 0 Bq))]) (.k [2] [false] [.tmp 2 false,.tmp 7 false] [1,2,5,6,7] ⟨Bp h4,trivial⟩) ?_
 refine .then (.block (.then (.rK (.ghs (fr 61 [(1,zI x1),(2,pt 1 0),(5,(zI (0:Int))),(6,zI x2),(7,(pt 2 0)),(15,(zB (nt (Bd x2 (0:Int)))))]) (hT 3 [(oC [zI x0,(Sl.v 2 s0)]),(oC (BM q0 0 Bq))]) (.k [2] [false] [.tmp 2 false,.tmp 7 false] [1,2,5,6,7,15] ⟨Bp h4,trivial⟩) ?_))))
 replace hm:=Ag hm;rcases hm with⟨h5,hm⟩ | ⟨h5,hm⟩
 ·refine DL (nt (Bd x2 (0:Int))) h5 ?_
  refine .then (.rK (.ghs (fr 61 [(4,(zI (0:Int))),(5,(zI (0:Int))),(6,zI x2)]) BB (.k0 [false] [] [4,5,6]) ?_))
  refine .ret ?_
  exact BO (.tuple ⟨[(zI (0:Int)),(zI (0:Int)),zI x2]⟩) hm
 ·refine DT (nt (Bd x2 (0:Int))) h5 ?_
  refine .then ?_
  replace hm:=Yq hm;obtain⟨b0,h6,hm⟩:=hm
  refine .reg (eC 4 ((oo (pu 20 [(zI (0:Int)),zI x1,(zI (Aj .i64 (Int.sub x0 (1:Int))))]) none fun v=>some (v,(hT 3 [(oC [zI x0,(Sl.v 2 s0)]),(oC (BM q0 0 Bq))])))) (AB h6) (eE)) ?_
  refine .ghs (fr 61 [(1,zI x1),(2,pt 1 0),(5,(zI (0:Int))),(7,(pt 2 0)),(19,(zB (nt b0)))]) (hT 3 [(oC [zI x0,(Sl.v 2 s0)]),(oC (BM q0 0 Bq))]) (.k [2] [false] [.tmp 2 false,.tmp 7 false] [1,2,5,7,19] ⟨Bp h4,trivial⟩) ?_
  replace hm:=Ag hm;rcases hm with⟨h7,hm⟩ | ⟨h7,hm⟩
  ·refine DL (nt b0) h7 ?_
   refine .then (.rK (.ghs (fr 61 [(4,(zI (0:Int))),(5,(zI (0:Int))),(6,(zI (2:Int)))]) BB (.k0 [false] [] [4,5,6]) ?_))
   refine .ret ?_
   exact BO (.tuple ⟨[(zI (0:Int)),(zI (0:Int)),(zI (2:Int))]⟩) hm
  ·refine DT (nt b0) h7 ?_
   refine .skip (.ghs (fr 61 [(1,zI x1),(2,pt 1 0),(5,(zI (0:Int))),(7,(pt 2 0))]) (hT 3 [(oC [zI x0,(Sl.v 2 s0)]),(oC (BM q0 0 Bq))]) (.k [2] [false] [.tmp 2 false,.tmp 7 false] [1,2,5,7] ⟨Bp h4,trivial⟩) ?_)
   refine .then (.rK (.ghs (fr 61 [(1,zI x1),(2,pt 1 0),(4,zI x0),(5,(zI (0:Int))),(7,(pt 2 0))]) (hT 3 [(oC [zI x0,(Sl.v 2 s0)]),(oC (BM q0 0 Bq))]) (.k [2] [false] [.tmp 2 false,.tmp 7 false] [1,2,4,5,7] ⟨Bp h4,trivial⟩) ?_))
   refine .join (v:=v) (fun y:Int×Int=>((fr 61 [(4,(zI y.1)),(5,(zI y.2))]),BB)) (fun y=>UH pu n y.1 y.2) ?_ ?_
   ·rintro⟨z0,z1⟩ hm
    exact xI pu n z0 z1 hm
   ·refine .then ?_
    replace hm:=Ab hm;obtain⟨k1,h8,hm⟩:=hm
    obtain rfl:=AR h8
    refine .rK (.ghs (fr 61 [(1,zI x1),(2,pt 1 0),(4,(zI (Int.ofNat k1))),(5,(zI (0:Int))),(7,(pt 2 0)),(30,(zI (QW .i64 (1:Int) k1))),(31,(zI (0:Int)))]) (hT 3 [(oC [(zI (Int.ofNat k1)),(Sl.v 2 s0)]),(oC (BM q0 0 Bq))]) (.k [2] [false] [.tmp 2 false,.tmp 7 false] [1,2,4,5,7,30,31] ⟨Bp h4,trivial⟩) ?_)
    refine .block (.loopM (v:=v) (fun y:Int×Int×Int×Int×Int×Int×Sl×LV=>((fr 61 [(1,(zI y.1)),(2,pt 1 0),(4,(zI y.2.1)),(5,(zI y.2.2.1)),(7,(pt 2 0)),(30,(zI y.2.2.2.1)),(31,(zI y.2.2.2.2.1))]),(hT 3 [(oC [(zI y.2.2.2.2.2.1),(Sl.v 2 y.2.2.2.2.2.2.1)]),(oC y.2.2.2.2.2.2.2)]))) (fun w y=>Ps pu n w y.1 y.2.1 y.2.2.1 y.2.2.2.1 y.2.2.2.2.1 y.2.2.2.2.2.1 y.2.2.2.2.2.2.1 y.2.2.2.2.2.2.2) n ⟨(x1,(Int.ofNat k1),(0:Int),(QW .i64 (1:Int) k1),(0:Int),(Int.ofNat k1),s0,(BM q0 0 Bq)),hm,(.k [2] [false] [.tmp 2 false,.tmp 7 false] [1,2,4,5,7,30,31] ⟨Bp h4,trivial⟩)⟩ (fun _=>rfl) ?_)
    rintro w0 ⟨z2,z3,z4,z5,z6,z7,s1,q1⟩ hm
    replace hm:Pq pu n (Ps pu n w0) z2 z3 z4 z5 z6 z7 s1 q1=some v:=hm
    unfold Pq at hm
    refine .then (.rK ?_)
    replace hm:=Ae hm;obtain⟨h9,hm⟩:=hm
    refine .ghs (fr 61 [(1,zI z2),(2,pt 1 0),(4,zI z3),(5,zI z4),(7,(pt 2 0)),(30,zI z5),(31,zI z6),(32,(zB (AY z6 z5)))]) (hT 3 [(oC [zI z7,(Sl.v 2 s1)]),oC q1]) (.k [2] [false] [.tmp 2 false,.tmp 7 false] [1,2,4,5,7,30,31,32] ⟨Bp h9,trivial⟩) ?_
    refine .then ?_
    replace hm:=Ag hm;rcases hm with⟨h10,hm⟩ | ⟨h10,hm⟩
    ·refine DL (AY z6 z5) h10 ?_
     refine .skip (.ghs (fr 61 [(1,zI z2),(2,pt 1 0),(4,zI z3),(5,zI z4),(7,(pt 2 0)),(30,zI z5),(31,zI z6)]) (hT 3 [(oC [zI z7,(Sl.v 2 s1)]),oC q1]) (.k [2] [false] [.tmp 2 false,.tmp 7 false] [1,2,4,5,7,30,31] ⟨Bp h9,trivial⟩) ?_)
     refine .join (v:=v) (fun y:Int×Int×Int×Int×Int×Int×Sl×LV=>((fr 61 [(1,(zI y.1)),(2,pt 1 0),(4,(zI y.2.1)),(5,(zI y.2.2.1)),(7,(pt 2 0)),(30,(zI y.2.2.2.1)),(31,(zI y.2.2.2.2.1))]),(hT 3 [(oC [(zI y.2.2.2.2.2.1),(Sl.v 2 y.2.2.2.2.2.2.1)]),(oC y.2.2.2.2.2.2.2)]))) (fun y=>Sg pu n (Ps pu n w0) y.1 y.2.1 y.2.2.1 y.2.2.2.1 y.2.2.2.2.1 y.2.2.2.2.2.1 y.2.2.2.2.2.2.1 y.2.2.2.2.2.2.2) ?_ ?_
     ·rintro⟨z8,z9,z10,z11,z12,z13,s2,q2⟩ hm
      unfold Sg at hm
      refine .rK ?_
      replace hm:=Ae hm;obtain⟨h11,hm⟩:=hm
      exact⟨(z8,z9,z10,z11,(Aj .i64 (Int.add z12 (1:Int))),z13,s2,q2),hm,(.k [2] [false] [.tmp 2 false,.tmp 7 false] [1,2,4,5,7,30,31] ⟨Bp h11,trivial⟩)⟩
     ·refine .block (.then (.rK (.ghs (fr 61 [(1,zI z2),(2,pt 1 0),(4,zI z3),(5,zI z4),(7,(pt 2 0)),(8,zI z6),(30,zI z5),(31,zI z6)]) (hT 3 [(oC [zI z7,(Sl.v 2 s1)]),oC q1]) (.k [2] [false] [.tmp 2 false,.tmp 7 false] [1,2,4,5,7,8,30,31] ⟨Bp h9,trivial⟩) ?_)))
      refine .then ?_
      replace hm:=IV hm;obtain⟨x3,h12,hm⟩:=hm
      refine .reg (eC 4 ((oo (pu 21 [(zU (Aj .u64 z6))]) none fun v=>some (v,(hT 3 [(oC [zI z7,(Sl.v 2 s1)]),oC q1])))) (AB h12) (eE)) ?_
      refine .ghs (fr 61 [(1,zI z2),(2,pt 1 0),(4,zI z3),(5,zI z4),(7,(pt 2 0)),(8,zI z6),(9,(zI (Aj .i64 (Int.sub z7 x3)))),(30,zI z5),(31,zI z6)]) (hT 3 [(oC [zI z7,(Sl.v 2 s1)]),oC q1]) (.k [2] [false] [.tmp 2 false,.tmp 7 false] [1,2,4,5,7,8,9,30,31] ⟨Bp h9,trivial⟩) ?_
      refine .then ?_
      replace hm:=Ab hm;obtain⟨k2,h13,hm⟩:=hm
      replace hm:=Ab hm;obtain⟨k3,h14,hm⟩:=hm
      obtain rfl:=AR h14
      replace hm:=Ae hm;obtain⟨h15,hm⟩:=hm
      replace hm:=Ae hm;obtain⟨h16,hm⟩:=hm
      replace hm:=IV hm;obtain⟨x4,h17,hm⟩:=hm
      replace hm:=Ab hm;obtain⟨k4,h18,hm⟩:=hm
      refine .reg (eC 2 (some ((zI (Aj .i64 (Int.tdiv z6 (64:Int)))),(hT 3 [(oC [zI z7,(Sl.v 2 s1)]),oC q1]))) (show _=some ((zI (Int.ofNat k2)),_) from (by rw[AR h13])) (eD (keep (hT 3 [(oC [zI z7,(Sl.v 2 s1)]),oC q1]) (bb (Nat.blt k3 7) (some (.pointer (some ⟨2,(0+k3*2),none⟩))) none)) (AX h15) (eD (keep (hT 3 [(oC [zI z7,(Sl.v 2 s1)]),oC q1]) (bb (Nat.blt k2 2) (some (.pointer (some ⟨2,((0+k3*2)+k2*1),none⟩))) none)) (AX h16) (eD (keep (hT 3 [(oC [zI z7,(Sl.v 2 s1)]),oC q1]) (AL q1 ((0+k3*2)+k2*1))) (AZ h17) (eC 1 (some ((zI (Int.tmod z6 (64:Int))),(hT 3 [(oC [zI z7,(Sl.v 2 s1)]),oC q1]))) (show _=some ((zI (Int.ofNat k4)),_) from (by rw[AR h18])) (eE)))))) ?_
      refine .ghs (fr 61 [(1,(zI (Int.ofNat k3))),(2,pt 1 0),(4,zI z3),(5,zI z4),(7,(pt 2 0)),(9,(zI (Aj .i64 (Int.sub z7 x3)))),(30,zI z5),(31,zI z6),(50,(zB (Bd (Np .u64 (G6 .u64 x4 k4) (1:Int)) (0:Int))))]) (hT 3 [(oC [zI z7,(Sl.v 2 s1)]),oC q1]) (.k [2] [false] [.tmp 2 false,.tmp 7 false] [1,2,4,5,7,9,30,31,50] ⟨Bp h9,trivial⟩) ?_
      replace hm:=Ag hm;rcases hm with⟨h19,hm⟩ | ⟨h19,hm⟩
      ·refine DL (Bd (Np .u64 (G6 .u64 x4 k4) (1:Int)) (0:Int)) h19 ?_
       refine .rK ?_
       exact⟨((Int.ofNat k3),(bb (AY (Aj .i64 (Int.sub (Aj .i64 (Int.sub z7 x3)) (1:Int))) z3) (Aj .i64 (Int.sub (Aj .i64 (Int.sub z7 x3)) (1:Int))) z3),z4,z5,z6,z7,s1,q1),hm,(.k [2] [false] [.tmp 2 false,.tmp 7 false] [1,2,4,5,7,30,31] ⟨Bp h9,trivial⟩)⟩
      ·refine DT (Bd (Np .u64 (G6 .u64 x4 k4) (1:Int)) (0:Int)) h19 ?_
       refine .rK ?_
       exact⟨((Int.ofNat k3),z3,(bb (AY z4 (Aj .i64 (Int.sub z7 x3))) (Aj .i64 (Int.sub z7 x3)) z4),z5,z6,z7,s1,q1),hm,(.k [2] [false] [.tmp 2 false,.tmp 7 false] [1,2,4,5,7,30,31] ⟨Bp h9,trivial⟩)⟩
    ·refine DT (AY z6 z5) h10 ?_
     refine .exit ?_
     exact⟨(z3,z4),hm,(.k0 [false] [] [4,5])⟩

def UI (pu:Af) (n:Nat) (x0:Int) (s0:Sl):OV:=
 (oo (pu 19 [(.agg ⟨[.int .i64 x0,(Sl.v 2 s0)]⟩)]) none fun v0=>(oo (CQ v0) none fun l0=>(ll l0 none fun v1 l0=>(ll l0 none fun v2 l0=>(ll l0 (oo (Bt v1) none fun q0=>(bb (an (Nat.beq (len q0) 14) (Au Ah q0)) (oo (Bi .i64 v2) none fun x1=>(bb (Nat.beq (len q0) 14) (bb (an (Nat.ble (0+len q0) (len Bq)) (Au D6 q0)) (bb (Au Ah (BM q0 0 Bq)) (bb (nt (Bd x1 (0:Int))) (some (.tuple ⟨[(.bool false),.int .i64 x1]⟩)) (bb (Nat.ble (0+14) (len (BM q0 0 Bq))) (oo (pu 22 [(.agg ⟨(Aq 14 (Am 0 (BM q0 0 Bq)))⟩),.int .i64 x0]) none fun v3=>(oo (Bi .i64 v3) none fun x2=>(bb (Au closed2 [(.agg ⟨(Aq 14 (Am 0 (BM q0 0 Bq)))⟩),.int .i64 x0]) (some (.tuple ⟨[(.bool (AY x2 (0:Int))),(.int .i64 (0:Int))]⟩)) none))) none)) none) none) none)) none)) fun _ _=>none)))))
def tZ (pu:Af) (n:Nat) (args:LV):OV:=
 (ll args none fun a0 args=>(ll args (oo (Bt a0) none fun l0=>(ll l0 none fun v0 l0=>(ll l0 none fun v1 l0=>(ll l0 (oo (Bi .i64 v0) none fun x0=>(oo (Bj 2 v1) none fun s0=>(UI pu n x0 s0))) fun _ _=>none)))) fun _ _=>none))
theorem r10 {call:A8} (pu:Af) (n:Nat) (hcall:call=Bb tabs Fb pu (inl pu)) {args:LV} {v:Value} (hm:tZ pu n args=some v) (_:∀ x∈args,closed2 x=true):args.length≤19∧BN tt call 1 MU (Fr.made 19 args) (Ao tabs) (Fin tt 1 [.tmp 2,.tmp 3] v):=by
 subst hcall
 unfold tZ at hm
 replace hm:=Ad hm;obtain⟨a0,args_0,rfl,hm⟩:=hm
 replace hm:=AC hm;obtain⟨rfl,hm⟩:=hm
 replace hm:=BG hm;obtain⟨l0,rfl,hm⟩:=hm
 replace hm:=Ad hm;obtain⟨v0,l5006_0,rfl,hm⟩:=hm
 replace hm:=Ad hm;obtain⟨v1,l5006_1,rfl,hm⟩:=hm
 replace hm:=AC hm;obtain⟨rfl,hm⟩:=hm
 replace hm:=Ai hm;obtain⟨x0,rfl,hm⟩:=hm
 replace hm:=Al hm;obtain⟨s0,rfl,hm⟩:=hm
 unfold UI at hm
 refine⟨by simp,?_⟩
 refine .same (F':=(fr 19 [(0,(.agg ⟨[zI x0,(Sl.v 2 s0)]⟩))])) (H':=BB) (by kernel_rfl) (by kernel_rfl) ?_
 refine .then (.rK (.ghs (fr 19 [(1,pt 1 0)]) (hT 2 [(oC [zI x0,(Sl.v 2 s0)])]) (.k0 [false] [.tmp 1 false] [1]) ?_))
 refine .then ?_
 replace hm:=Ab hm;obtain⟨v2,h0,hm⟩:=hm
 replace hm:=Ch hm;obtain⟨l2,rfl,hm⟩:=hm
 replace hm:=Ad hm;obtain⟨v3,l5029_0,rfl,hm⟩:=hm
 replace hm:=Ad hm;obtain⟨v4,l5029_1,rfl,hm⟩:=hm
 replace hm:=AC hm;obtain⟨rfl,hm⟩:=hm
 replace hm:=BG hm;obtain⟨q0,rfl,hm⟩:=hm
 replace hm:=Ae hm;obtain⟨h1,hm⟩:=hm
 replace hm:=Ai hm;obtain⟨x1,rfl,hm⟩:=hm
 replace hm:=Ae hm;obtain⟨h2,hm⟩:=hm
 replace hm:=Ae hm;obtain⟨h3,hm⟩:=hm
 refine .reg (eC 1 ((oo (pu 19 [(.agg ⟨[zI x0,(Sl.v 2 s0)]⟩)]) none fun v=>some (v,(hT 2 [(oC [zI x0,(Sl.v 2 s0)])])))) (AB h0) (eC 4 (done (bb (Nat.beq (len q0) 14) (bb (an (Nat.ble (0+len q0) (len Bq)) (Au D6 q0)) (some (hT 3 [(oC [zI x0,(Sl.v 2 s0)]),(oC (BM q0 0 Bq))])) none) none) undef) (bH h2 h3) (eE))) ?_
 replace hm:=Ae hm;obtain⟨h4,hm⟩:=hm
 refine .ghs (fr 19 [(1,pt 1 0),(4,(pt 2 0)),(5,zI x1)]) (hT 3 [(oC [zI x0,(Sl.v 2 s0)]),(oC (BM q0 0 Bq))]) (.k [2] [false] [.tmp 1 false,.tmp 4 false] [1,4,5] ⟨Bp h4,trivial⟩) ?_
 refine .then (.then (.rK (.ghs (fr 19 [(1,pt 1 0),(4,(pt 2 0)),(5,zI x1),(12,(zB (nt (Bd x1 (0:Int)))))]) (hT 3 [(oC [zI x0,(Sl.v 2 s0)]),(oC (BM q0 0 Bq))]) (.k [2] [false] [.tmp 1 false,.tmp 4 false] [1,4,5,12] ⟨Bp h4,trivial⟩) ?_)))
 replace hm:=Ag hm;rcases hm with⟨h5,hm⟩ | ⟨h5,hm⟩
 ·refine DL (nt (Bd x1 (0:Int))) h5 ?_
  refine .then (.rK (.ghs (fr 19 [(2,zB false),(3,zI x1)]) BB (.k0 [false] [] [2,3]) ?_))
  refine .ret ?_
  exact BO (.tuple ⟨[zB false,zI x1]⟩) hm
 ·refine DT (nt (Bd x1 (0:Int))) h5 ?_
  refine .skip (.ghs (fr 19 [(1,pt 1 0),(4,(pt 2 0))]) (hT 3 [(oC [zI x0,(Sl.v 2 s0)]),(oC (BM q0 0 Bq))]) (.k [2] [false] [.tmp 1 false,.tmp 4 false] [1,4] ⟨Bp h4,trivial⟩) ?_)
  refine .then ?_
  replace hm:=Ae hm;obtain⟨h6,hm⟩:=hm
  replace hm:=IV hm;obtain⟨x2,h7,hm⟩:=hm
  replace hm:=Ae hm;obtain⟨h8,hm⟩:=hm
  refine .reg (eD (keep (hT 3 [(oC [zI x0,(Sl.v 2 s0)]),(oC (BM q0 0 Bq))]) (bb (Nat.ble (0+14) (len (BM q0 0 Bq))) (some (.agg ⟨(Aq 14 (Am 0 (BM q0 0 Bq)))⟩)) none)) (AX h6) (eC 2 (bb (Au closed2 [(.agg ⟨(Aq 14 (Am 0 (BM q0 0 Bq)))⟩),zI x0]) (oo (pu 22 [(.agg ⟨(Aq 14 (Am 0 (BM q0 0 Bq)))⟩),zI x0]) none fun v=>some (v,(hT 3 [(oC [zI x0,(Sl.v 2 s0)]),(oC (BM q0 0 Bq))]))) (oo (CG (RG (hT 3 [(oC [zI x0,(Sl.v 2 s0)]),(oC (BM q0 0 Bq))])) [(.agg ⟨(Aq 14 (Am 0 (BM q0 0 Bq)))⟩),zI x0]) none fun l1=>oo (pu 22 l1) none fun v=>bb (RH v) (some (v,(hT 3 [(oC [zI x0,(Sl.v 2 s0)]),(oC (BM q0 0 Bq))]))) none)) (SL h8 h7) (eE))) ?_
  refine .ghs (fr 19 [(2,(zB (AY x2 (0:Int)))),(3,(zI (0:Int)))]) BB (.k0 [false] [] [2,3]) ?_
  refine .ret ?_
  exact BO (.tuple ⟨[(zB (AY x2 (0:Int))),(zI (0:Int))]⟩) hm
def Qw (pu:Af) (n:Nat):OV:=
 (some (.bool true))
def Je (pu:Af) (n:Nat) (ih0:Sl→Int→OV) (s0:Sl) (z0:Int):OV:=
 (bb (AY (0:Int) z0) (oo (EA z0) none fun k1=>(bb (an (Nat.blt k1 (Sl.n s0)) true) (oo (AL (Sl.cs s0) (k1*1)) none fun v0=>(oo (Bi .i64 v0) none fun x0=>(oo (EA (Aj .i64 (Int.sub (Int.ofNat k1) (1:Int)))) none fun k2=>(bb (an (Nat.blt k2 (Sl.n s0)) true) (oo (AL (Sl.cs s0) (k2*1)) none fun v1=>(oo (Bi .i64 v1) none fun x1=>(oo (pu 39 [.int .i64 x0,.int .i64 x1]) none fun v2=>(oo (Bf v2) none fun b0=>(bb b0 (some (.bool false)) (ih0 s0 (Aj .i64 (Int.sub (Int.ofNat k1) (1:Int))))))))) none)))) none)) (Qw pu n))
def K4 (pu:Af) (n w:Nat):Sl→Int→OV:=
 Nat.rec (motive:=fun _=>Sl→Int→OV) (fun _ _=>none) (fun _ ih0=>Je pu n ih0) w
def UJ (pu:Af) (n:Nat) (s0:Sl):OV:=
 (K4 pu n n s0 (Aj .i64 (Int.sub (Int.ofNat (Sl.n s0)) (1:Int))))
def uA (pu:Af) (n:Nat) (args:LV):OV:=
 (ll args none fun a0 args=>(ll args (oo (Bj 1 a0) none fun s0=>(UJ pu n s0)) fun _ _=>none))
theorem lL (pu:Af) (n:Nat) {v:Value} (hm:Qw pu n=some v):BN tt (Bb tabs Fb pu (inl pu)) 1 RZ (fr 21 []) BB (Fin tt 1 [.tmp 2] v):=by
 unfold Qw at hm
 refine .then (.rK (.ghs (fr 21 [(2,zB true)]) BB (.k0 [false] [] [2]) ?_))
 refine .ret ?_
 exact BO (zB true) hm
theorem r13 {call:A8} (pu:Af) (n:Nat) (hcall:call=Bb tabs Fb pu (inl pu)) {args:LV} {v:Value} (hm:uA pu n args=some v) (_:∀ x∈args,closed2 x=true):args.length≤21∧BN tt call 1 M8 (Fr.made 21 args) (Ao tabs) (Fin tt 1 [.tmp 2] v):=by
 subst hcall
 unfold uA at hm
 replace hm:=Ad hm;obtain⟨a0,args_0,rfl,hm⟩:=hm
 replace hm:=AC hm;obtain⟨rfl,hm⟩:=hm
 replace hm:=Al hm;obtain⟨s0,rfl,hm⟩:=hm
 unfold UJ at hm
 refine⟨by simp,?_⟩
 refine .same (F':=(fr 21 [(0,Sl.v 1 s0)])) (H':=BB) (by kernel_rfl) (by kernel_rfl) ?_
 refine .then (.rK (.ghs (fr 21 [(0,Sl.v 1 s0)]) BB (.k0 [false] [] [0]) ?_))
 refine .join (v:=v) (fun y:Unit=>((fr 21 []),BB)) (fun y=>Qw pu n) ?_ ?_
 ·rintro _ hm
  exact lL pu n hm
 ·refine .then (.rK (.ghs (fr 21 [(0,Sl.v 1 s0),(3,(zI (Aj .i64 (Int.sub (Int.ofNat (Sl.n s0)) (1:Int)))))]) BB (.k0 [false] [] [0,3]) ?_))
  refine .block (.loopM (v:=v) (fun y:Sl×Int=>((fr 21 [(0,(Sl.v 1 y.1)),(3,(zI y.2))]),BB)) (fun w y=>K4 pu n w y.1 y.2) n ⟨(s0,(Aj .i64 (Int.sub (Int.ofNat (Sl.n s0)) (1:Int)))),hm,(.k0 [false] [] [0,3])⟩ (fun _=>rfl) ?_)
  rintro w0 ⟨s1,z0⟩ hm
  replace hm:Je pu n (K4 pu n w0) s1 z0=some v:=hm
  unfold Je at hm
  refine .then (.then (.rK (.ghs (fr 21 [(0,Sl.v 1 s1),(3,zI z0),(8,(zB (AY (0:Int) z0)))]) BB (.k0 [false] [] [0,3,8]) ?_)))
  replace hm:=Ag hm;rcases hm with⟨h0,hm⟩ | ⟨h0,hm⟩
  ·refine DL (AY (0:Int) z0) h0 ?_
   refine .skip (.ghs (fr 21 [(0,Sl.v 1 s1),(3,zI z0)]) BB (.k0 [false] [] [0,3]) ?_)
   refine .then (.block (.then ?_))
   replace hm:=Ab hm;obtain⟨k1,h1,hm⟩:=hm
   obtain rfl:=AR h1
   replace hm:=Ae hm;obtain⟨h2,hm⟩:=hm
   replace hm:=IV hm;obtain⟨x0,h3,hm⟩:=hm
   replace hm:=Ab hm;obtain⟨k2,h4,hm⟩:=hm
   replace hm:=Ae hm;obtain⟨h5,hm⟩:=hm
   replace hm:=IV hm;obtain⟨x1,h6,hm⟩:=hm
   replace hm:=Yq hm;obtain⟨b0,h7,hm⟩:=hm
   refine .reg (eN 7 (Fr.puts (fr 21 [(0,Sl.v 1 s1),(3,(zI (Int.ofNat k1)))]) [(11,Sl.v 1 s1),(12,(zI (Int.ofNat k1))),(13,(Cv (k1*1) (Sl.cs s1))),(14,zI x0),(15,Sl.v 1 s1),(16,(zI (Int.ofNat k1))),(17,(zI (Int.ofNat k2)))]) BB (eC 2 (keep BB (bb (an (Nat.blt k1 (Sl.n s1)) true) (some (Cv (k1*1) (Sl.cs s1))) none)) (AX h2) (eD (keep BB (AL (Sl.cs s1) (k1*1))) (AZ h3) (eC 2 (some ((zI (Aj .i64 (Int.sub (Int.ofNat k1) (1:Int)))),BB)) (show _=some ((zI (Int.ofNat k2)),_) from (by rw[AR h4])) (by kernel_rfl)))) (eD (keep BB (bb (an (Nat.blt k2 (Sl.n s1)) true) (some (Cv (k2*1) (Sl.cs s1))) none)) (AX h5) (eD (keep BB (AL (Sl.cs s1) (k2*1))) (AZ h6) (eD ((oo (pu 39 [zI x0,zI x1]) none fun v=>some (v,BB))) (AB h7) (eE))))) ?_
   refine .ghs (fr 21 [(0,Sl.v 1 s1),(3,(zI (Int.ofNat k1))),(20,zB b0)]) BB (.k0 [false] [] [0,3,20]) ?_
   replace hm:=Ag hm;rcases hm with⟨h8,hm⟩ | ⟨h8,hm⟩
   ·refine .ifT b0 (by kernel_rfl) h8 ?_
    refine .then (.rK (.ghs (fr 21 [(2,zB false)]) BB (.k0 [false] [] [2]) ?_))
    refine .ret ?_
    exact BO (zB false) hm
   ·refine .ifF b0 (by kernel_rfl) h8 ?_
    refine .skip (.ghs (fr 21 [(0,Sl.v 1 s1),(3,(zI (Int.ofNat k1)))]) BB (.k0 [false] [] [0,3]) ?_)
    refine .rK ?_
    exact⟨(s1,(Aj .i64 (Int.sub (Int.ofNat k1) (1:Int)))),hm,(.k0 [false] [] [0,3])⟩
  ·refine DT (AY (0:Int) z0) h0 ?_
   refine .exit ?_
   exact⟨(),hm,(.k0 [false] [] [])⟩

def UK (pu:Af) (n:Nat) (s0:Sl) (x0:Int):OV:=
 (oo (pu 42 [Sl.v 1 s0,.int .i64 x0]) none fun v0=>(oo (Bi .i64 v0) none fun x1=>(some (.bool (nt (AY x1 (0:Int)))))))
def uB (pu:Af) (n:Nat) (args:LV):OV:=
 (ll args none fun a0 args=>(ll args none fun a1 args=>(ll args (oo (Bj 1 a0) none fun s0=>(oo (Bi .i64 a1) none fun x0=>(UK pu n s0 x0))) fun _ _=>none)))
theorem r16 {call:A8} (pu:Af) (n:Nat) (hcall:call=Bb tabs Fb pu (inl pu)) {args:LV} {v:Value} (hm:uB pu n args=some v) (_:∀ x∈args,closed2 x=true):args.length≤9∧BN tt call 1 PQ (Fr.made 9 args) (Ao tabs) (Fin tt 1 [.tmp 4] v):=by
 subst hcall
 unfold uB at hm
 replace hm:=Ad hm;obtain⟨a0,args_0,rfl,hm⟩:=hm
 replace hm:=Ad hm;obtain⟨a1,args_1,rfl,hm⟩:=hm
 replace hm:=AC hm;obtain⟨rfl,hm⟩:=hm
 replace hm:=Al hm;obtain⟨s0,rfl,hm⟩:=hm
 replace hm:=Ai hm;obtain⟨x0,rfl,hm⟩:=hm
 unfold UK at hm
 refine⟨by simp,?_⟩
 refine .same (F':=(fr 9 [(0,Sl.v 1 s0),(1,zI x0)])) (H':=BB) (by kernel_rfl) (by kernel_rfl) ?_
 refine .then (.rK (.ghs (fr 9 [(0,Sl.v 1 s0),(1,zI x0)]) BB (.k0 [false] [] [0,1]) ?_))
 refine .then ?_
 replace hm:=IV hm;obtain⟨x1,h0,hm⟩:=hm
 refine .reg (eC 2 ((oo (pu 42 [Sl.v 1 s0,zI x0]) none fun v=>some (v,BB))) (AB h0) (eE)) ?_
 refine .ghs (fr 9 [(4,(zB (nt (AY x1 (0:Int)))))]) BB (.k0 [false] [] [4]) ?_
 refine .ret ?_
 exact BO (zB (nt (AY x1 (0:Int)))) hm
end
end Go.TbRM
