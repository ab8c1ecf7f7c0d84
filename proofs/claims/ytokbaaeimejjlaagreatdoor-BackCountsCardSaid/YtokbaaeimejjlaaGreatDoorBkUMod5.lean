/- Made from wip. -/
import Derived.Test.YtokbaaeimejjlaaGreatDoorBkUMod1x

set_option maxRecDepth 100000
set_option maxHeartbeats 20000000
set_option linter.unusedVariables false
namespace Go.BkUM
open Go.Sp Go.BkU
noncomputable section
def X0 (pu:Af) (n:Nat) (z0:Int):OV:=
 (some (.int .i64 z0))
def fM (pu:Af) (n:Nat) (ih0:Nat→LV→Int→LV→Int→OV) (n0:Nat) (q0:LV) (z0:Int) (q1:LV) (z1:Int):OV:=
 (bb (Au Ah q1) (ih0 n0 q0 z0 q1 (Aj .i64 (Int.add z1 (1:Int)))) none)
def fO (pu:Af) (n:Nat) (ih0:Nat→LV→Int→LV→Int→OV) (ih1:Nat→LV→Int→LV→Int→Int→Int→OV) (n0:Nat) (q0:LV) (z0:Int) (q1:LV) (z1 z2 z3:Int):OV:=
 (bb (AY z3 z2) (oo (AL q0 ((n0+0)+2)) none fun v0=>(oo (Bi .i64 v0) none fun x0=>(bb (Au Ah q1) (ih1 n0 q0 (Aj .i64 (Int.mul z0 x0)) q1 z1 z2 (Aj .i64 (Int.add z3 (1:Int)))) none))) (bb (Au Ah q1) (fM pu n ih0 n0 q0 z0 q1 z1) none))
def fP (pu:Af) (n:Nat) (ih0:Nat→LV→Int→LV→Int→OV) (w:Nat):Nat→LV→Int→LV→Int→Int→Int→OV:=
 Nat.rec (motive:=fun _=>Nat→LV→Int→LV→Int→Int→Int→OV) (fun _ _ _ _ _ _ _=>none) (fun _ ih1=>fO pu n ih0 ih1) w
def fQ (pu:Af) (n:Nat) (ih0:Nat→LV→Int→LV→Int→OV) (n0:Nat) (q0:LV) (z0:Int) (q1:LV) (z1:Int):OV:=
 (bb (AY z1 (17:Int)) (oo (EA z1) none fun k1=>(bb (Nat.blt k1 17) (oo (AL q1 (k1*1)) none fun v0=>(oo (Bi .i64 v0) none fun x0=>(bb (Au Ah q1) (fP pu n ih0 n n0 q0 z0 q1 (Int.ofNat k1) x0 (0:Int)) none))) none)) (X0 pu n z0))
def OO (pu:Af) (n w:Nat):Nat→LV→Int→LV→Int→OV:=
 Nat.rec (motive:=fun _=>Nat→LV→Int→LV→Int→OV) (fun _ _ _ _ _=>none) (fun _ ih0=>fQ pu n ih0) w
def Af7 (pu:Af) (n:Nat) (p0:Db) (x0:Int):OV:=
 (oo (pu 61 [(Cv (Db.off p0) (Db.cs p0)),.int .i64 x0]) none fun v0=>(oo (Bt v0) none fun q0=>(bb (an (Nat.beq (len q0) 17) (Au Ah q0)) (bb (Au Ah q0) (OO pu n n (Db.off p0) (Db.cs p0) (1:Int) q0 (0:Int)) none) none)))
def m56 (pu:Af) (n:Nat) (args:LV):OV:=
 (ll args none fun a0 args=>(ll args none fun a1 args=>(ll args (oo (Pv a0) none fun p0=>(oo (Bi .i64 a1) none fun x0=>(Af7 pu n p0 x0))) fun _ _=>none)))
theorem Af8 (pu:Af) (n:Nat) (z0:Int) {v:Value} (hm:X0 pu n z0=some v):BN tt (Bb tabs isP pu (inl pu)) 1 cK (fr 27 [(5,zI z0)]) Ap (Fin tt 1 [.tmp 4] v):=by
 unfold X0 at hm
 refine .then (.rK (.ghs (fr 27 [(4,zI z0)]) Ap (.k0 [false] [] [4]) ?_))
 refine .ret ?_
 exact Ay (zI z0) hm
theorem r56 {call:A8} (pu:Af) (n:Nat) (hcall:call=Bb tabs isP pu (inl pu)) {args:LV} {v:Value} (hm:m56 pu n args=some v) (_:∀ x∈args,closed2 x=true):args.length≤27∧BN tt call 1 RX (Fr.made 27 args) (Ao tabs) (Fin tt 1 [.tmp 4] v):=by
 subst hcall
 unfold m56 at hm
 replace hm:=Ad hm;obtain⟨a0,args_0,rfl,hm⟩:=hm
 replace hm:=Ad hm;obtain⟨a1,args_1,rfl,hm⟩:=hm
 replace hm:=AC hm;obtain⟨rfl,hm⟩:=hm
 replace hm:=Ab hm;obtain⟨p0,h0,hm⟩:=hm
 obtain rfl:=F7 h0
 replace hm:=Ai hm;obtain⟨x0,rfl,hm⟩:=hm
 unfold Af7 at hm
 refine⟨by simp,?_⟩
 refine .same (F':=(fr 27 [(0,(Cv (Db.off p0) (Db.cs p0))),(1,zI x0)])) (H':=Ap) (by kernel_rfl) (by kernel_rfl) ?_
 refine .then (.rK (.ghs (fr 27 [(0,(Cv (Db.off p0) (Db.cs p0))),(1,zI x0)]) Ap (.k0 [false] [] [0,1]) ?_))
 refine .then (.rK (.ghs (fr 27 [(0,(Cv (Db.off p0) (Db.cs p0))),(1,zI x0),(5,(zI (1:Int)))]) Ap (.k0 [false] [] [0,1,5]) ?_))
 refine .join (v:=v) (fun y:Int=>((fr 27 [(5,zI y)]),Ap)) (fun y=>X0 pu n y) ?_ ?_
 ·rintro z0 hm
  exact Af8 pu n z0 hm
 ·refine .then ?_
  replace hm:=Ab hm;obtain⟨v0,h1,hm⟩:=hm
  replace hm:=BG hm;obtain⟨q0,rfl,hm⟩:=hm
  replace hm:=Ae hm;obtain⟨h2,hm⟩:=hm
  refine .reg (eC 2 ((oo (pu 61 [(Cv (Db.off p0) (Db.cs p0)),zI x0]) none fun v=>some (v,Ap))) (AB h1) (eE)) ?_
  refine .block ?_
  replace hm:=Ae hm;obtain⟨h3,hm⟩:=hm
  refine .loopM (v:=v) (fun y:Nat×LV×Int×LV×Int=>((fr 27 [(0,(Cv y.1 y.2.1)),(5,(zI y.2.2.1)),(10,(.agg ⟨y.2.2.2.1⟩)),(11,(zI y.2.2.2.2))]),Ap)) (fun w y=>OO pu n w y.1 y.2.1 y.2.2.1 y.2.2.2.1 y.2.2.2.2) n ⟨((Db.off p0),(Db.cs p0),(1:Int),q0,(0:Int)),hm,(.kA [] [false] [] [0,5,11] 10 (.agg ⟨q0⟩) trivial (BI h3))⟩ (fun _=>rfl) ?_
  rintro w0 ⟨n0,q1,z1,q2,z2⟩ hm
  replace hm:fQ pu n (OO pu n w0) n0 q1 z1 q2 z2=some v:=hm
  unfold fQ at hm
  refine .then (.rK (.then ?_))
  replace hm:=Ag hm;rcases hm with⟨h4,hm⟩ | ⟨h4,hm⟩
  ·refine Bq (AY z2 (17 : Int)) h4 ?_
   refine .skip (.join (v:=v) (fun y:Nat×LV×Int×LV×Int=>((fr 27 [(0,(Cv y.1 y.2.1)),(5,(zI y.2.2.1)),(10,(.agg ⟨y.2.2.2.1⟩)),(11,(zI y.2.2.2.2))]),Ap)) (fun y=>fM pu n (OO pu n w0) y.1 y.2.1 y.2.2.1 y.2.2.2.1 y.2.2.2.2) ?_ ?_)
   ·rintro ⟨n1, q3, z3, q4, z4⟩ hm
    unfold fM at hm
    refine .rK ?_
    replace hm:=Ae hm;obtain⟨h5,hm⟩:=hm
    exact⟨(n1,q3,z3,q4,(Aj .i64 (Int.add z4 (1:Int)))),hm,(.kA [] [false] [] [0,5,11] 10 (.agg ⟨q4⟩) trivial (BI h5))⟩
   ·refine .block (.then ?_)
    replace hm:=Ab hm;obtain⟨k1,h6,hm⟩:=hm
    obtain rfl:=AR h6
    replace hm:=Ae hm;obtain⟨h7,hm⟩:=hm
    replace hm:=oI hm;obtain⟨x1,h8,hm⟩:=hm
    refine .reg (eD (keep Ap (bb (Nat.blt k1 17) (AL q2 (k1*1)) none)) (dW h7 h8) (eE)) ?_
    refine .then (.rK (.block ?_))
    replace hm:=Ae hm;obtain⟨h9,hm⟩:=hm
    refine .loopM (v:=v) (fun y:Nat×LV×Int×LV×Int×Int×Int=>((fr 27 [(0,(Cv y.1 y.2.1)),(5,(zI y.2.2.1)),(10,(.agg ⟨y.2.2.2.1⟩)),(11,(zI y.2.2.2.2.1)),(14,(zI y.2.2.2.2.2.1)),(15,(zI y.2.2.2.2.2.2))]),Ap)) (fun w y=>fP pu n (OO pu n w0) w y.1 y.2.1 y.2.2.1 y.2.2.2.1 y.2.2.2.2.1 y.2.2.2.2.2.1 y.2.2.2.2.2.2) n ⟨(n0,q1,z1,q2,(Int.ofNat k1),x1,(0:Int)),hm,(.kA [] [false] [] [0,5,11,14,15] 10 (.agg ⟨q2⟩) trivial (BI h9))⟩ (fun _=>rfl) ?_
    rintro w1 ⟨n2,q5,z5,q6,z6,z7,z8⟩ hm
    replace hm:fO pu n (OO pu n w0) (fP pu n (OO pu n w0) w1) n2 q5 z5 q6 z6 z7 z8=some v:=hm
    unfold fO at hm
    refine .then (.rK (.then ?_))
    replace hm:=Ag hm;rcases hm with⟨h10,hm⟩ | ⟨h10,hm⟩
    ·refine Bq (AY z8 z7) h10 ?_
     refine .skip (.then (.block ?_))
     replace hm:=oI hm;obtain⟨x2,h11,hm⟩:=hm
     refine .reg (eC 5 (keep Ap (AL q5 ((n2+0)+2))) (AZ h11) (eE)) ?_
     refine .rK ?_
     replace hm:=Ae hm;obtain⟨h12,hm⟩:=hm
     exact⟨(n2,q5,(Aj .i64 (Int.mul z5 x2)),q6,z6,z7,(Aj .i64 (Int.add z8 (1:Int)))),hm,(.kA [] [false] [] [0,5,11,14,15] 10 (.agg ⟨q6⟩) trivial (BI h12))⟩
    ·refine BB (AY z8 z7) h10 ?_
     refine .exit ?_
     replace hm:=Ae hm;obtain⟨h13,hm⟩:=hm
     exact⟨(n2,q5,z5,q6,z6),hm,(.kA [] [false] [] [0,5,11] 10 (.agg ⟨q6⟩) trivial (BI h13))⟩
  ·refine BB (AY z2 (17 : Int)) h4 ?_
   refine .exit ?_
   exact⟨z1,hm,(.k0 [false] [] [5])⟩
def Ui (pu:Af) (n:Nat) (z0:Int):OV:=
 (some (.int .i64 z0))
def OP (pu:Af) (n:Nat) (ih0:Int→Int→Int→Int→OV) (z0 z1 z2 z3:Int):OV:=
 (bb (AY z3 z1) (ih0 z0 z1 (Aj .i64 (Int.mul z2 z0)) (Aj .i64 (Int.add z3 (1:Int)))) (Ui pu n z2))
def Qr (pu:Af) (n w:Nat):Int→Int→Int→Int→OV:=
 Nat.rec (motive:=fun _=>Int→Int→Int→Int→OV) (fun _ _ _ _=>none) (fun _ ih0=>OP pu n ih0) w
def Af9 (pu:Af) (n:Nat) (x0 x1:Int):OV:=
 (Qr pu n n x0 x1 (1:Int) (0:Int))
def m57 (pu:Af) (n:Nat) (args:LV):OV:=
 (ll args none fun a0 args=>(ll args none fun a1 args=>(ll args (oo (Bi .i64 a0) none fun x0=>(oo (Bi .i64 a1) none fun x1=>(Af9 pu n x0 x1))) fun _ _=>none)))
theorem Agb (pu:Af) (n:Nat) (z0:Int) {v:Value} (hm:Ui pu n z0=some v):BN tt (Bb tabs isP pu (inl pu)) 1 cO (fr 16 [(5,zI z0)]) Ap (Fin tt 1 [.tmp 4] v):=by
 unfold Ui at hm
 refine .then (.rK (.ghs (fr 16 [(4,zI z0)]) Ap (.k0 [false] [] [4]) ?_))
 refine .ret ?_
 exact Ay (zI z0) hm
theorem r57 {call:A8} (pu:Af) (n:Nat) (hcall:call=Bb tabs isP pu (inl pu)) {args:LV} {v:Value} (hm:m57 pu n args=some v) (_:∀ x∈args,closed2 x=true):args.length≤16∧BN tt call 1 RY (Fr.made 16 args) (Ao tabs) (Fin tt 1 [.tmp 4] v):=by
 subst hcall
 unfold m57 at hm
 replace hm:=Ad hm;obtain⟨a0,args_0,rfl,hm⟩:=hm
 replace hm:=Ad hm;obtain⟨a1,args_1,rfl,hm⟩:=hm
 replace hm:=AC hm;obtain⟨rfl,hm⟩:=hm
 replace hm:=Ai hm;obtain⟨x0,rfl,hm⟩:=hm
 replace hm:=Ai hm;obtain⟨x1,rfl,hm⟩:=hm
 unfold Af9 at hm
 refine⟨by simp,?_⟩
 refine .same (F':=(fr 16 [(0,zI x0),(1,zI x1)])) (H':=Ap) (by kernel_rfl) (by kernel_rfl) ?_
 refine .then (.rK (.ghs (fr 16 [(0,zI x0),(1,zI x1)]) Ap (.k0 [false] [] [0,1]) ?_))
 refine .then (.rK (.ghs (fr 16 [(0,zI x0),(1,zI x1),(5,(zI (1:Int)))]) Ap (.k0 [false] [] [0,1,5]) ?_))
 refine .join (v:=v) (fun y:Int=>((fr 16 [(5,zI y)]),Ap)) (fun y=>Ui pu n y) ?_ ?_
 ·rintro z0 hm
  exact Agb pu n z0 hm
 ·refine .then (.rK (.ghs (fr 16 [(0, zI x0), (1, zI x1), (5, (zI (1 : Int))), (6, (zI (0 : Int)))]) Ap (.k0 [false] [] [0, 1, 5, 6]) ?_))
  refine .block (.loopM (v:=v) (fun y:Int×Int×Int×Int=>((fr 16 [(0,(zI y.1)),(1,(zI y.2.1)),(5,(zI y.2.2.1)),(6,(zI y.2.2.2))]),Ap)) (fun w y=>Qr pu n w y.1 y.2.1 y.2.2.1 y.2.2.2) n ⟨(x0,x1,(1:Int),(0:Int)),hm,(.k0 [false] [] [0,1,5,6])⟩ (fun _=>rfl) ?_)
  rintro w0 ⟨z1,z2,z3,z4⟩ hm
  replace hm:OP pu n (Qr pu n w0) z1 z2 z3 z4=some v:=hm
  unfold OP at hm
  refine .then (.then (.rK (.ghs (fr 16 [(0,zI z1),(1,zI z2),(5,zI z3),(6,zI z4),(9,(zB (AY z4 z2)))]) Ap (.k0 [false] [] [0,1,5,6,9]) ?_)))
  replace hm:=Ag hm;rcases hm with⟨h0,hm⟩ | ⟨h0,hm⟩
  ·refine Bq (AY z4 z2) h0 ?_
   refine .skip (.ghs (fr 16 [(0,zI z1),(1,zI z2),(5,zI z3),(6,zI z4)]) Ap (.k0 [false] [] [0,1,5,6]) ?_)
   refine .then (.block (.rK (.ghs (fr 16 [(0,zI z1),(1,zI z2),(5,(zI (Aj .i64 (Int.mul z3 z1)))),(6,zI z4)]) Ap (.k0 [false] [] [0,1,5,6]) ?_)))
   refine .rK ?_
   exact⟨(z1,z2,(Aj .i64 (Int.mul z3 z1)),(Aj .i64 (Int.add z4 (1:Int)))),hm,(.k0 [false] [] [0,1,5,6])⟩
  ·refine BB (AY z4 z2) h0 ?_
   refine .exit ?_
   exact⟨z3,hm,(.k0 [false] [] [5])⟩
def X3 (pu:Af) (n n0 c0:Nat) (q0:LV):OV:=
 (bb (Au Ah q0) (bb (an (Nat.ble (0+n0*1) (len q0)) (Au Ah (Aq (n0*1) (Am 0 q0)))) (some (Sl.v 1 (Sl.mk n0 0 (Aq (n0*1) (Am 0 q0))))) none) none)
def X4 (pu:Af) (n:Nat) (ih0:Int→Nat→Nat→Nat→Nat→Int→Int→Int→Int→Sl→LV→LV→OV) (z0:Int) (n0 c0 n1 c1:Nat) (z1 z2 z3 z4:Int) (s0:Sl) (q0:LV) (q1:LV):OV:=
 (bb (Au Ah q0) (bb (Au Ah q1) (ih0 z0 n0 c0 n1 c1 (Aj .i64 (Int.add z1 (1:Int))) z2 z3 z4 s0 q0 q1) none) none)
def fT (pu:Af) (n:Nat) (ih0:Int→Nat→Nat→Nat→Nat→Int→Int→Int→Int→Sl→LV→LV→OV) (z0:Int) (n0 c0 n1 c1:Nat) (z1 z2 z3 z4 z5:Int) (s0:Sl) (q0:LV) (q1:LV):OV:=
 (bb (Au Ah q0) (bb (Au Ah q1) (bb (AY (0:Int) z2) (bb (GV 1 8 n0 c0 1 q0) (bb (Au Ah (Br (Am 0 q0) [.int .i64 z2])) (X4 pu n ih0 z0 (n0+1) (2*(n0+1)+bb false 1 0) n1 c1 z1 z3 z4 z5 s0 (Br (Am 0 q0) [.int .i64 z2]) q1) none) none) (X4 pu n ih0 z0 n0 c0 n1 c1 z1 z3 z4 z5 s0 q0 q1)) none) none)
def fU (pu:Af) (n:Nat) (ih0:Int→Nat→Nat→Nat→Nat→Int→Int→Int→Int→Sl→LV→LV→OV) (ih1:Int→Nat→Nat→Nat→Nat→Int→Int→Int→Int→Int→Int→Sl→LV→LV→OV) (z0:Int) (n0 c0 n1 c1:Nat) (z1 z2 z3 z4 z5 z6:Int) (s0:Sl) (q0:LV) (q1:LV):OV:=
 (oo (EA z3) none fun k1=>(bb (an (Nat.blt k1 n1) true) (oo (AL q1 (0+k1*1)) none fun v0=>(oo (Bf v0) none fun b0=>(bb (Au Ah q0) (bb (Au Ah q1) (bb (nt b0) (bb (an (Nat.blt k1 n1) true) (bb (an (Nat.ble ((0+k1*1)+1) (len q1)) true) (bb (Au Ah (BM ([(.bool true)]:LV) (0+k1*1) q1)) (oo (pu 81 [(.agg ⟨[.int .i64 z4,.int .i64 z5,.int .i64 z6,Sl.v 1 s0]⟩),.int .i64 z0,(.int .i64 (Int.ofNat k1))]) none fun v1=>(oo (Bi .i64 v1) none fun x0=>(ih1 z0 n0 c0 n1 c1 z1 (Aj .i64 (Int.add z2 (1:Int))) x0 z4 z5 z6 s0 q0 (BM ([(.bool true)]:LV) (0+k1*1) q1)))) none) none) none) (fT pu n ih0 z0 n0 c0 n1 c1 z1 z2 z4 z5 z6 s0 q0 q1)) none) none))) none))
def fV (pu:Af) (n:Nat) (ih0:Int→Nat→Nat→Nat→Nat→Int→Int→Int→Int→Sl→LV→LV→OV) (w:Nat):Int→Nat→Nat→Nat→Nat→Int→Int→Int→Int→Int→Int→Sl→LV→LV→OV:=
 Nat.rec (motive:=fun _=>Int→Nat→Nat→Nat→Nat→Int→Int→Int→Int→Int→Int→Sl→LV→LV→OV) (fun _ _ _ _ _ _ _ _ _ _ _ _ _ _=>none) (fun _ ih1=>fU pu n ih0 ih1) w
def fZ (pu:Af) (n:Nat) (ih0:Int→Nat→Nat→Nat→Nat→Int→Int→Int→Int→Sl→LV→LV→OV) (z0:Int) (n0 c0 n1 c1:Nat) (z1 z2 z3 z4:Int) (s0:Sl) (q0:LV) (q1:LV):OV:=
 (bb (Au Ah q0) (bb (Au Ah q1) (bb (AY z1 (Int.ofNat n1)) (fV pu n ih0 n z0 n0 c0 n1 c1 z1 (0:Int) z1 z2 z3 z4 s0 q0 q1) (X3 pu n n0 c0 q0)) none) none)
def MI (pu:Af) (n w:Nat):Int→Nat→Nat→Nat→Nat→Int→Int→Int→Int→Sl→LV→LV→OV:=
 Nat.rec (motive:=fun _=>Int→Nat→Nat→Nat→Nat→Int→Int→Int→Int→Sl→LV→LV→OV) (fun _ _ _ _ _ _ _ _ _ _ _ _=>none) (fun _ ih0=>fZ pu n ih0) w
def Agc (pu:Af) (n:Nat) (x0 x1 x2:Int) (s0:Sl) (x3:Int):OV:=
 (oo (EA (Aj .i64 (Int.mul x0 x1))) none fun k1=>(bb (an (Nat.ble k1 k1) (an (Nat.ble (k1*1) 1099511627776) (an (Nat.ble k1 1099511627776) true))) (bb (Au Ah (AF ([(.bool false)]:LV) k1)) (MI pu n n x3 0 0 k1 (2*k1+bb true 1 0) (0:Int) x0 x1 x2 s0 ([]:LV) (AF ([(.bool false)]:LV) k1)) none) none))
def m58 (pu:Af) (n:Nat) (args:LV):OV:=
 (ll args none fun a0 args=>(ll args none fun a1 args=>(ll args (oo (Bt a0) none fun l0=>(ll l0 none fun v0 l0=>(ll l0 none fun v1 l0=>(ll l0 none fun v2 l0=>(ll l0 none fun v3 l0=>(ll l0 (oo (Bi .i64 v0) none fun x0=>(oo (Bi .i64 v1) none fun x1=>(oo (Bi .i64 v2) none fun x2=>(oo (Bj 1 v3) none fun s0=>(oo (Bi .i64 a1) none fun x3=>(Agc pu n x0 x1 x2 s0 x3)))))) fun _ _=>none)))))) fun _ _=>none)))
theorem Agd (pu:Af) (n n0 c0:Nat) (q0:LV) {v:Value} (hm:X3 pu n n0 c0 q0=some v):BN tt (Bb tabs isP pu (inl pu)) 1 cZ (fr 44 [(5,sc 1 0 1 n0 c0)]) (hT 2 [oC q0]) (Fin tt 1 [.tmp 4] v):=by
 unfold X3 at hm
 refine .then (.rK ?_)
 replace hm:=Ae hm;obtain⟨h0,hm⟩:=hm
 refine .ghs (fr 44 [(4,sc 1 0 1 n0 c0)]) (hT 2 [oC q0]) (.k [1] [false] [.tmp 4 false] [4] ⟨BI h0,trivial⟩) ?_
 replace hm:=Ae hm;obtain⟨h1,hm⟩:=hm
 refine .ghs (Fr.puts (fr 44 [(4,sc 1 0 1 n0 c0)]) [(4,(Sl.v 1 (Sl.mk n0 0 (Aq (n0*1) (Am 0 q0)))))]) (hT 2 [.dead]) (.freezeC 1 4 1 (an (Nat.ble (0+n0*1) (len q0)) (Au Ah (Aq (n0*1) (Am 0 q0)))) (F1:=(Fr.puts (fr 44 [(4,sc 1 0 1 n0 c0)]) [(4,(Sl.v 1 (Sl.mk n0 0 (Aq (n0*1) (Am 0 q0)))))])) (H1:=(hT 2 [.dead])) (by kernel_rfl) (by kernel_rfl) h1 (E9.id _ _)) ?_
 refine .ret ?_
 exact Ay (Sl.v 1 (Sl.mk n0 0 (Aq (n0*1) (Am 0 q0)))) hm
theorem r58 {call:A8} (pu:Af) (n:Nat) (hcall:call=Bb tabs isP pu (inl pu)) {args:LV} {v:Value} (hm:m58 pu n args=some v) (_:∀ x∈args,closed2 x=true):args.length≤44∧BN tt call 1 RZ (Fr.made 44 args) (Ao tabs) (Fin tt 1 [.tmp 4] v):=by
 subst hcall
 unfold m58 at hm
 replace hm:=Ad hm;obtain⟨a0,args_0,rfl,hm⟩:=hm
 replace hm:=Ad hm;obtain⟨a1,args_1,rfl,hm⟩:=hm
 replace hm:=AC hm;obtain⟨rfl,hm⟩:=hm
 replace hm:=BG hm;obtain⟨l0,rfl,hm⟩:=hm
 replace hm:=Ad hm;obtain⟨v0,l8279_0,rfl,hm⟩:=hm
 replace hm:=Ad hm;obtain⟨v1,l8279_1,rfl,hm⟩:=hm
 replace hm:=Ad hm;obtain⟨v2,l8279_2,rfl,hm⟩:=hm
 replace hm:=Ad hm;obtain⟨v3,l8279_3,rfl,hm⟩:=hm
 replace hm:=AC hm;obtain⟨rfl,hm⟩:=hm
 replace hm:=Ai hm;obtain⟨x0,rfl,hm⟩:=hm
 replace hm:=Ai hm;obtain⟨x1,rfl,hm⟩:=hm
 replace hm:=Ai hm;obtain⟨x2,rfl,hm⟩:=hm
 replace hm:=Al hm;obtain⟨s0,rfl,hm⟩:=hm
 replace hm:=Ai hm;obtain⟨x3,rfl,hm⟩:=hm
 unfold Agc at hm
 refine⟨by simp,?_⟩
 refine .same (F':=(fr 44 [(0,(.agg ⟨[zI x0,zI x1,zI x2,Sl.v 1 s0]⟩)),(1,zI x3)])) (H':=Ap) (by kernel_rfl) (by kernel_rfl) ?_
 refine .then (.rK (.ghs (fr 44 [(1,zI x3),(2,pt 1 0)]) (hT 2 [(oC [zI x0,zI x1,zI x2,Sl.v 1 s0])]) (.k0 [false] [.tmp 2 false] [1,2]) ?_))
 refine .then (.rK (.ghs (fr 44 [(1,zI x3),(2,pt 1 0),(5,(.slice none 0 0))]) (hT 2 [(oC [zI x0,zI x1,zI x2,Sl.v 1 s0])]) (.k0 [false] [.tmp 2 false] [1,2,5]) ?_))
 refine .then ?_
 replace hm:=Ab hm;obtain⟨k1,h0,hm⟩:=hm
 replace hm:=Ae hm;obtain⟨h1,hm⟩:=hm
 refine .reg (eC 4 (some ((zI (Aj .i64 (Int.mul x0 x1))),(hT 2 [(oC [zI x0,zI x1,zI x2,Sl.v 1 s0])]))) (show _=some ((zI (Int.ofNat k1)),_) from (by rw[AR h0])) (eD (bb (an (Nat.ble k1 k1) (an (Nat.ble (k1*1) 1099511627776) (an (Nat.ble k1 1099511627776) true))) (some ((sc 2 0 1 k1 (2*k1+bb true 1 0)),(hT 3 [(oC [zI x0,zI x1,zI x2,Sl.v 1 s0]),(oC (AF ([zB false]:LV) k1))]))) none) (kH h1) (eE))) ?_
 replace hm:=Ae hm;obtain⟨h2,hm⟩:=hm
 refine .ghs (fr 44 [(1,zI x3),(2,pt 1 0),(5,(.slice none 0 0)),(6,(sc 2 0 1 k1 (2*k1+bb true 1 0)))]) (hT 3 [(oC [zI x0,zI x1,zI x2,Sl.v 1 s0]),(oC (AF ([zB false]:LV) k1))]) (.k [2] [false] [.tmp 2 false,.tmp 6 false] [1,2,5,6] ⟨BI h2,trivial⟩) ?_
 refine .join (v:=v) (fun y:Nat×Nat×LV=>((fr 44 [(5,(sc 1 0 1 y.1 y.2.1))]),(hT 2 [(oC y.2.2)]))) (fun y=>X3 pu n y.1 y.2.1 y.2.2) ?_ ?_
 ·rintro ⟨n0, c0, q0⟩ hm
  exact Agd pu n n0 c0 q0 hm
 ·refine .then (.rK (.ghs (fr 44 [(1, zI x3), (2, pt 1 0), (5, (.slice none 0 0)), (6, (sc 2 0 1 k1 (2 * k1 + bb true 1 0))), (7, (zI (0 : Int)))]) (hT 3 [(oC [zI x0, zI x1, zI x2, Sl.v 1 s0]), (oC (AF ([zB false] : LV) k1))]) (.k [2] [false] [.tmp 2 false, .tmp 6 false] [1, 2, 5, 6, 7] ⟨BI h2, trivial⟩) ?_))
  refine .block (.loopM (v:=v) (fun y:Int×Nat×Nat×Nat×Nat×Int×Int×Int×Int×Sl×LV×LV=>((fr 44 [(1,(zI y.1)),(2,pt 1 0),(5,(sc 2 0 1 y.2.1 y.2.2.1)),(6,(sc 3 0 1 y.2.2.2.1 y.2.2.2.2.1)),(7,(zI y.2.2.2.2.2.1))]),(hT 4 [(oC [(zI y.2.2.2.2.2.2.1),(zI y.2.2.2.2.2.2.2.1),(zI y.2.2.2.2.2.2.2.2.1),(Sl.v 1 y.2.2.2.2.2.2.2.2.2.1)]),(oC y.2.2.2.2.2.2.2.2.2.2.1),(oC y.2.2.2.2.2.2.2.2.2.2.2)]))) (fun w y=>MI pu n w y.1 y.2.1 y.2.2.1 y.2.2.2.1 y.2.2.2.2.1 y.2.2.2.2.2.1 y.2.2.2.2.2.2.1 y.2.2.2.2.2.2.2.1 y.2.2.2.2.2.2.2.2.1 y.2.2.2.2.2.2.2.2.2.1 y.2.2.2.2.2.2.2.2.2.2.1 y.2.2.2.2.2.2.2.2.2.2.2) n ⟨(x3,0,0,k1,(2*k1+bb true 1 0),(0:Int),x0,x1,x2,s0,([]:LV),(AF ([zB false]:LV) k1)),hm,(.thaw 5 1 (by kernel_rfl) (.k [2] [false] [.tmp 2 false,.tmp 5 false,.tmp 6 false] [1,2,5,6,7] ⟨BI h2,trivial⟩))⟩ (fun _=>rfl) ?_)
  rintro w0 ⟨z0,n1,c1,n2,c2,z1,z2,z3,z4,s1,q1,q2⟩ hm
  replace hm:fZ pu n (MI pu n w0) z0 n1 c1 n2 c2 z1 z2 z3 z4 s1 q1 q2=some v:=hm
  unfold fZ at hm
  refine .then (.then (.rK ?_))
  replace hm:=Ae hm;obtain⟨h3,hm⟩:=hm
  replace hm:=Ae hm;obtain⟨h4,hm⟩:=hm
  refine .ghs (fr 44 [(1,zI z0),(2,pt 1 0),(5,sc 2 0 1 n1 c1),(6,sc 3 0 1 n2 c2),(7,zI z1),(19,(zB (AY z1 (Int.ofNat n2))))]) (hT 4 [(oC [zI z2,zI z3,zI z4,Sl.v 1 s1]),oC q1,oC q2]) (.k [2,3] [false] [.tmp 2 false,.tmp 5 false,.tmp 6 false] [1,2,5,6,7,19] ⟨BI h3,BI h4,trivial⟩) ?_
  replace hm:=Ag hm;rcases hm with⟨h5,hm⟩ | ⟨h5,hm⟩
  ·refine Bq (AY z1 (Int.ofNat n2)) h5 ?_
   refine .skip (.ghs (fr 44 [(1,zI z0),(2,pt 1 0),(5,sc 2 0 1 n1 c1),(6,sc 3 0 1 n2 c2),(7,zI z1)]) (hT 4 [(oC [zI z2,zI z3,zI z4,Sl.v 1 s1]),oC q1,oC q2]) (.k [2,3] [false] [.tmp 2 false,.tmp 5 false,.tmp 6 false] [1,2,5,6,7] ⟨BI h3,BI h4,trivial⟩) ?_)
   refine .join (v:=v) (fun y:Int×Nat×Nat×Nat×Nat×Int×Int×Int×Int×Sl×LV×LV=>((fr 44 [(1,(zI y.1)),(2,pt 1 0),(5,(sc 2 0 1 y.2.1 y.2.2.1)),(6,(sc 3 0 1 y.2.2.2.1 y.2.2.2.2.1)),(7,(zI y.2.2.2.2.2.1))]),(hT 4 [(oC [(zI y.2.2.2.2.2.2.1),(zI y.2.2.2.2.2.2.2.1),(zI y.2.2.2.2.2.2.2.2.1),(Sl.v 1 y.2.2.2.2.2.2.2.2.2.1)]),(oC y.2.2.2.2.2.2.2.2.2.2.1),(oC y.2.2.2.2.2.2.2.2.2.2.2)]))) (fun y=>X4 pu n (MI pu n w0) y.1 y.2.1 y.2.2.1 y.2.2.2.1 y.2.2.2.2.1 y.2.2.2.2.2.1 y.2.2.2.2.2.2.1 y.2.2.2.2.2.2.2.1 y.2.2.2.2.2.2.2.2.1 y.2.2.2.2.2.2.2.2.2.1 y.2.2.2.2.2.2.2.2.2.2.1 y.2.2.2.2.2.2.2.2.2.2.2) ?_ ?_
   ·rintro ⟨z5, n3, c3, n4, c4, z6, z7, z8, z9, s2, q3, q4⟩ hm
    unfold X4 at hm
    refine .rK ?_
    replace hm:=Ae hm;obtain⟨h6,hm⟩:=hm
    replace hm:=Ae hm;obtain⟨h7,hm⟩:=hm
    exact⟨(z5,n3,c3,n4,c4,(Aj .i64 (Int.add z6 (1:Int))),z7,z8,z9,s2,q3,q4),hm,(.k [2,3] [false] [.tmp 2 false,.tmp 5 false,.tmp 6 false] [1,2,5,6,7] ⟨BI h6,BI h7,trivial⟩)⟩
   ·refine .block (.then (.rK (.ghs (fr 44 [(1, zI z0), (2, pt 1 0), (5, sc 2 0 1 n1 c1), (6, sc 3 0 1 n2 c2), (7, zI z1), (8, (zI (0 : Int)))]) (hT 4 [(oC [zI z2, zI z3, zI z4, Sl.v 1 s1]), oC q1, oC q2]) (.k [2, 3] [false] [.tmp 2 false, .tmp 5 false, .tmp 6 false] [1, 2, 5, 6, 7, 8] ⟨BI h3, BI h4, trivial⟩) ?_)))
    refine .join (v:=v) (fun y:Int×Nat×Nat×Nat×Nat×Int×Int×Int×Int×Int×Sl×LV×LV=>((fr 44 [(1,(zI y.1)),(2,pt 1 0),(5,(sc 2 0 1 y.2.1 y.2.2.1)),(6,(sc 3 0 1 y.2.2.2.1 y.2.2.2.2.1)),(7,(zI y.2.2.2.2.2.1)),(8,(zI y.2.2.2.2.2.2.1))]),(hT 4 [(oC [(zI y.2.2.2.2.2.2.2.1),(zI y.2.2.2.2.2.2.2.2.1),(zI y.2.2.2.2.2.2.2.2.2.1),(Sl.v 1 y.2.2.2.2.2.2.2.2.2.2.1)]),(oC y.2.2.2.2.2.2.2.2.2.2.2.1),(oC y.2.2.2.2.2.2.2.2.2.2.2.2)]))) (fun y=>fT pu n (MI pu n w0) y.1 y.2.1 y.2.2.1 y.2.2.2.1 y.2.2.2.2.1 y.2.2.2.2.2.1 y.2.2.2.2.2.2.1 y.2.2.2.2.2.2.2.1 y.2.2.2.2.2.2.2.2.1 y.2.2.2.2.2.2.2.2.2.1 y.2.2.2.2.2.2.2.2.2.2.1 y.2.2.2.2.2.2.2.2.2.2.2.1 y.2.2.2.2.2.2.2.2.2.2.2.2) ?_ ?_
    ·rintro ⟨z10, n5, c6, n6, c7, z11, z12, z13, z14, z15, s3, q5, q6⟩ hm
     unfold fT at hm
     refine .then (.rK ?_)
     replace hm:=Ae hm;obtain⟨h8,hm⟩:=hm
     replace hm:=Ae hm;obtain⟨h9,hm⟩:=hm
     refine .ghs (fr 44 [(1,zI z10),(2,pt 1 0),(5,sc 2 0 1 n5 c6),(6,sc 3 0 1 n6 c7),(7,zI z11),(8,zI z12),(38,(zB (AY (0:Int) z12)))]) (hT 4 [(oC [zI z13,zI z14,zI z15,Sl.v 1 s3]),oC q5,oC q6]) (.k [2,3] [false] [.tmp 2 false,.tmp 5 false,.tmp 6 false] [1,2,5,6,7,8,38] ⟨BI h8,BI h9,trivial⟩) ?_
     replace hm:=Ag hm;rcases hm with⟨h10,hm⟩ | ⟨h10,hm⟩
     ·refine Bq (AY (0 : Int) z12) h10 ?_
      replace hm:=Ae hm;obtain⟨h11,hm⟩:=hm
      refine .reg (eC 3 (Oc 1 8 n5 c6 1 2 q5 [zI z12] [] (hT 5 [(oC [zI z13,zI z14,zI z15,Sl.v 1 s3]),oC q5,oC q6,(oC [zI z12])])) (I1 h11) (eE)) ?_
      replace hm:=Ae hm;obtain⟨h12,hm⟩:=hm
      exact⟨(z10,(n5+1),(d2 (n5+1)),n6,c7,z11,z13,z14,z15,s3,(Br (Am 0 q5) [zI z12]),q6),hm,(.k [5,3] [false] [.tmp 2 false,.tmp 5 false,.tmp 6 false] [1,2,5,6,7] ⟨BI h12,BI h9,trivial⟩)⟩
     ·refine BB (AY (0 : Int) z12) h10 ?_
      refine .skip ?_
      exact⟨(z10,n5,c6,n6,c7,z11,z13,z14,z15,s3,q5,q6),hm,(.k [2,3] [false] [.tmp 2 false,.tmp 5 false,.tmp 6 false] [1,2,5,6,7] ⟨BI h8,BI h9,trivial⟩)⟩
    ·refine .then (.rK (.ghs (fr 44 [(1, zI z0), (2, pt 1 0), (5, sc 2 0 1 n1 c1), (6, sc 3 0 1 n2 c2), (7, zI z1), (8, (zI (0 : Int))), (9, zI z1)]) (hT 4 [(oC [zI z2, zI z3, zI z4, Sl.v 1 s1]), oC q1, oC q2]) (.k [2, 3] [false] [.tmp 2 false, .tmp 5 false, .tmp 6 false] [1, 2, 5, 6, 7, 8, 9] ⟨BI h3, BI h4, trivial⟩) ?_))
     refine .block (.loopM (v:=v) (fun y:Int×Nat×Nat×Nat×Nat×Int×Int×Int×Int×Int×Int×Sl×LV×LV=>((fr 44 [(1,(zI y.1)),(2,pt 1 0),(5,(sc 2 0 1 y.2.1 y.2.2.1)),(6,(sc 3 0 1 y.2.2.2.1 y.2.2.2.2.1)),(7,(zI y.2.2.2.2.2.1)),(8,(zI y.2.2.2.2.2.2.1)),(9,(zI y.2.2.2.2.2.2.2.1))]),(hT 4 [(oC [(zI y.2.2.2.2.2.2.2.2.1),(zI y.2.2.2.2.2.2.2.2.2.1),(zI y.2.2.2.2.2.2.2.2.2.2.1),(Sl.v 1 y.2.2.2.2.2.2.2.2.2.2.2.1)]),(oC y.2.2.2.2.2.2.2.2.2.2.2.2.1),(oC y.2.2.2.2.2.2.2.2.2.2.2.2.2)]))) (fun w y=>fV pu n (MI pu n w0) w y.1 y.2.1 y.2.2.1 y.2.2.2.1 y.2.2.2.2.1 y.2.2.2.2.2.1 y.2.2.2.2.2.2.1 y.2.2.2.2.2.2.2.1 y.2.2.2.2.2.2.2.2.1 y.2.2.2.2.2.2.2.2.2.1 y.2.2.2.2.2.2.2.2.2.2.1 y.2.2.2.2.2.2.2.2.2.2.2.1 y.2.2.2.2.2.2.2.2.2.2.2.2.1 y.2.2.2.2.2.2.2.2.2.2.2.2.2) n ⟨(z0,n1,c1,n2,c2,z1,(0:Int),z1,z2,z3,z4,s1,q1,q2),hm,(.k [2,3] [false] [.tmp 2 false,.tmp 5 false,.tmp 6 false] [1,2,5,6,7,8,9] ⟨BI h3,BI h4,trivial⟩)⟩ (fun _=>rfl) ?_)
     rintro w1 ⟨z16,n7,c8,n8,c12,z17,z18,z19,z20,z21,z22,s4,q7,q8⟩ hm
     replace hm:fU pu n (MI pu n w0) (fV pu n (MI pu n w0) w1) z16 n7 c8 n8 c12 z17 z18 z19 z20 z21 z22 s4 q7 q8=some v:=hm
     unfold fU at hm
     refine .then (.then ?_)
     replace hm:=Ab hm;obtain⟨k2,h13,hm⟩:=hm
     obtain rfl:=AR h13
     replace hm:=Ae hm;obtain⟨h14,hm⟩:=hm
     replace hm:=oB hm;obtain⟨b0,h15,hm⟩:=hm
     refine .reg (eC 2 (keep (hT 4 [(oC [zI z20,zI z21,zI z22,Sl.v 1 s4]),oC q7,oC q8]) (bb (an (Nat.blt k2 n8) true) (some (.pointer (some ⟨3,(0+k2*1),none⟩))) none)) (AX h14) (eD (keep (hT 4 [(oC [zI z20,zI z21,zI z22,Sl.v 1 s4]),oC q7,oC q8]) (AL q8 (0+k2*1))) (AZ h15) (eE))) ?_
     replace hm:=Ae hm;obtain⟨h16,hm⟩:=hm
     replace hm:=Ae hm;obtain⟨h17,hm⟩:=hm
     refine .ghs (fr 44 [(1,zI z16),(2,pt 1 0),(5,sc 2 0 1 n7 c8),(6,sc 3 0 1 n8 c12),(7,zI z17),(8,zI z18),(9,(zI (Int.ofNat k2))),(27,(zB (nt b0)))]) (hT 4 [(oC [zI z20,zI z21,zI z22,Sl.v 1 s4]),oC q7,oC q8]) (.k [2,3] [false] [.tmp 2 false,.tmp 5 false,.tmp 6 false] [1,2,5,6,7,8,9,27] ⟨BI h16,BI h17,trivial⟩) ?_
     replace hm:=Ag hm;rcases hm with⟨h18,hm⟩ | ⟨h18,hm⟩
     ·refine Bq (nt b0) h18 ?_
      refine .skip (.ghs (fr 44 [(1,zI z16),(2,pt 1 0),(5,sc 2 0 1 n7 c8),(6,sc 3 0 1 n8 c12),(7,zI z17),(8,zI z18),(9,(zI (Int.ofNat k2)))]) (hT 4 [(oC [zI z20,zI z21,zI z22,Sl.v 1 s4]),oC q7,oC q8]) (.k [2,3] [false] [.tmp 2 false,.tmp 5 false,.tmp 6 false] [1,2,5,6,7,8,9] ⟨BI h16,BI h17,trivial⟩) ?_)
      refine .then (.block (.then ?_))
      replace hm:=Ae hm;obtain⟨h19,hm⟩:=hm
      replace hm:=Ae hm;obtain⟨h20,hm⟩:=hm
      refine .reg (eC 2 (keep (hT 4 [(oC [zI z20,zI z21,zI z22,Sl.v 1 s4]),oC q7,oC q8]) (bb (an (Nat.blt k2 n8) true) (some (.pointer (some ⟨3,(0+k2*1),none⟩))) none)) (AX h19) (eD (done (bb (an (Nat.ble ((0+k2*1)+1) (len q8)) true) (some (hT 4 [(oC [zI z20,zI z21,zI z22,Sl.v 1 s4]),oC q7,(oC (BM ([zB true]:LV) (0+k2*1) q8))])) none) undef) (Js h20) (eE))) ?_
      replace hm:=Ae hm;obtain⟨h21,hm⟩:=hm
      refine .ghs (fr 44 [(1,zI z16),(2,pt 1 0),(5,sc 2 0 1 n7 c8),(6,sc 3 0 1 n8 c12),(7,zI z17),(8,zI z18),(9,(zI (Int.ofNat k2)))]) (hT 4 [(oC [zI z20,zI z21,zI z22,Sl.v 1 s4]),oC q7,(oC (BM ([zB true]:LV) (0+k2*1) q8))]) (.k [2,3] [false] [.tmp 2 false,.tmp 5 false,.tmp 6 false] [1,2,5,6,7,8,9] ⟨BI h16,BI h21,trivial⟩) ?_
      refine .rK (.ghs (fr 44 [(1,zI z16),(2,pt 1 0),(5,sc 2 0 1 n7 c8),(6,sc 3 0 1 n8 c12),(7,zI z17),(8,(zI (Aj .i64 (Int.add z18 (1:Int))))),(9,(zI (Int.ofNat k2)))]) (hT 4 [(oC [zI z20,zI z21,zI z22,Sl.v 1 s4]),oC q7,(oC (BM ([zB true]:LV) (0+k2*1) q8))]) (.k [2,3] [false] [.tmp 2 false,.tmp 5 false,.tmp 6 false] [1,2,5,6,7,8,9] ⟨BI h16,BI h21,trivial⟩) ?_)
      replace hm:=oI hm;obtain⟨x4,h22,hm⟩:=hm
      refine .reg (eC 3 ((oo (pu 81 [(.agg ⟨[zI z20,zI z21,zI z22,Sl.v 1 s4]⟩),zI z16,(zI (Int.ofNat k2))]) none fun v=>some (v,(hT 4 [(oC [zI z20,zI z21,zI z22,Sl.v 1 s4]),oC q7,(oC (BM ([zB true]:LV) (0+k2*1) q8))])))) (AB h22) (eE)) ?_
      exact⟨(z16,n7,c8,n8,c12,z17,(Aj .i64 (Int.add z18 (1:Int))),x4,z20,z21,z22,s4,q7,(BM ([zB true]:LV) (0+k2*1) q8)),hm,(.k [2,3] [false] [.tmp 2 false,.tmp 5 false,.tmp 6 false] [1,2,5,6,7,8,9] ⟨BI h16,BI h21,trivial⟩)⟩
     ·refine BB (nt b0) h18 ?_
      refine .exit ?_
      exact⟨(z16,n7,c8,n8,c12,z17,z18,z20,z21,z22,s4,q7,q8),hm,(.k [2,3] [false] [.tmp 2 false,.tmp 5 false,.tmp 6 false] [1,2,5,6,7,8] ⟨BI h16,BI h17,trivial⟩)⟩
  ·refine BB (AY z1 (Int.ofNat n2)) h5 ?_
   refine .exit ?_
   exact⟨(n1,c1,q1),hm,(.k [2] [false] [.tmp 5 false] [5] ⟨BI h3,trivial⟩)⟩
def Uj (pu:Af) (n:Nat) (b0:Bool):OV:=
 (some (.bool b0))
def Agf (pu:Af) (n:Nat) (x0 x1 x2:Int):OV:=
 (bb (nt (AY x1 x0)) (Uj pu n (nt (AY x2 x1))) (Uj pu n false))
def m59 (pu:Af) (n:Nat) (args:LV):OV:=
 (ll args none fun a0 args=>(ll args none fun a1 args=>(ll args none fun a2 args=>(ll args (oo (Bi .i64 a0) none fun x0=>(oo (Bi .i64 a1) none fun x1=>(oo (Bi .i64 a2) none fun x2=>(Agf pu n x0 x1 x2)))) fun _ _=>none))))
theorem Agh (pu:Af) (n:Nat) (b0:Bool) {v:Value} (hm:Uj pu n b0=some v):BN tt (Bb tabs isP pu (inl pu)) 1 .ret (fr 15 [(6,zB b0)]) Ap (Fin tt 1 [.tmp 6] v):=by
 unfold Uj at hm
 refine .ret ?_
 exact Ay (zB b0) hm
theorem r59 {call:A8} (pu:Af) (n:Nat) (hcall:call=Bb tabs isP pu (inl pu)) {args:LV} {v:Value} (hm:m59 pu n args=some v) (_:∀ x∈args,closed2 x=true):args.length≤15∧BN tt call 1 Xb (Fr.made 15 args) (Ao tabs) (Fin tt 1 [.tmp 6] v):=by
 subst hcall
 unfold m59 at hm
 replace hm:=Ad hm;obtain⟨a0,args_0,rfl,hm⟩:=hm
 replace hm:=Ad hm;obtain⟨a1,args_1,rfl,hm⟩:=hm
 replace hm:=Ad hm;obtain⟨a2,args_2,rfl,hm⟩:=hm
 replace hm:=AC hm;obtain⟨rfl,hm⟩:=hm
 replace hm:=Ai hm;obtain⟨x0,rfl,hm⟩:=hm
 replace hm:=Ai hm;obtain⟨x1,rfl,hm⟩:=hm
 replace hm:=Ai hm;obtain⟨x2,rfl,hm⟩:=hm
 unfold Agf at hm
 refine⟨by simp,?_⟩
 refine .same (F':=(fr 15 [(0,zI x0),(1,zI x1),(2,zI x2)])) (H':=Ap) (by kernel_rfl) (by kernel_rfl) ?_
 refine .then (.rK (.ghs (fr 15 [(0,zI x0),(1,zI x1),(2,zI x2)]) Ap (.k0 [false] [] [0,1,2]) ?_))
 refine .join (v:=v) (fun y:Bool=>((fr 15 [(6,zB y)]),Ap)) (fun y=>Uj pu n y) ?_ ?_
 ·rintro b0 hm
  exact Agh pu n b0 hm
 ·replace hm := Ag hm; rcases hm with ⟨h0, hm⟩ | ⟨h0, hm⟩
  ·refine .reg (eC 2 (some ((zB (nt (AY x1 x0))), Ap)) (show _ = some ((zB true), _) from (by rw [show (nt (AY x1 x0)) = true from h0])) (eE)) ?_
   exact⟨(nt (AY x2 x1)),hm,(.k0 [false] [] [6])⟩
  ·refine .reg (eC 2 (some ((zB (nt (AY x1 x0))), Ap)) (show _ = some ((zB false), _) from (by rw [show (nt (AY x1 x0)) = false from h0])) (eE)) ?_
   exact⟨false,hm,(.k0 [false] [] [6])⟩

def mG (pu:Af) (n:Nat) (q0:LV) (s0:Sl):OV:=
 (bb (Au Ah q0) (bb (Bd (Int.ofNat (Sl.n s0)) (1:Int)) (some (.int .i64 (1:Int))) (bb (an (Nat.blt 0 (Sl.n s0)) true) (oo (AL (Sl.cs s0) (0*1)) none fun v0=>(oo (Bi .i64 v0) none fun x0=>(bb (Au Ah q0) (oo (pu 10850 [(.int .i64 (1:Int)),.int .i64 x0,(.int .i64 (1:Int)),(.pointer (some ⟨1,0,none⟩)),(.pointer (some ⟨2,0,none⟩)),(.pointer (some ⟨3,0,none⟩)),(.agg ⟨q0⟩),(.agg ⟨[Sl.v 1 s0]⟩),(.agg ⟨[(.func (.func 85) ⟨[]⟩ ⟨[(.pointer (some ⟨1,0,none⟩)),(.pointer (some ⟨2,0,none⟩)),(.pointer (some ⟨3,0,none⟩))]⟩)]⟩)]) none fun v1=>(oo (CQ v1) none fun l0=>(ll l0 none fun v2 l0=>(ll l0 none fun v3 l0=>(ll l0 none fun v4 l0=>(ll l0 none fun v5 l0=>(ll l0 (oo (Bi .i64 v2) none fun x1=>(oo (Bt v3) none fun q1=>(oo (Bt v4) none fun l1=>(ll l1 none fun v6 l1=>(ll l1 (oo (Bj 1 v6) none fun s1=>(oo (Bt v5) none fun l2=>(ll l2 none fun v7 l2=>(ll l2 (oo (SQ 85 0 v7) none fun l3=>(ll l3 none fun v8 l3=>(ll l3 none fun v9 l3=>(ll l3 none fun v10 l3=>(ll l3 (bb (Gm v8 1 0) (bb (Gm v9 2 0) (bb (Gm v10 3 0) (bb (Au Ah q1) (some (.int .i64 x1)) none) none) none) none) fun _ _=>none))))) fun _ _=>none)))) fun _ _=>none))))) fun _ _=>none))))))) none))) none)) none)
def m60 (pu:Af) (n:Nat) (args:LV):OV:=
 (ll args none fun a0 args=>(ll args none fun a1 args=>(ll args (oo (Bt a0) none fun q0=>(bb (an (Nat.beq (len q0) 17) (Au Ah q0)) (oo (Bj 1 a1) none fun s0=>(mG pu n q0 s0)) none)) fun _ _=>none)))
theorem r60 {call:A8} (pu:Af) (n:Nat) (hcall:call=Bb tabs isP pu (inl pu)) {args:LV} {v:Value} (hm:m60 pu n args=some v) (_:∀ x∈args,closed2 x=true):args.length≤15∧BN tt call 1 R4 (Fr.made 15 args) (Ao tabs) (Fin tt 1 [.tmp 4] v):=by
 subst hcall
 unfold m60 at hm
 replace hm:=Ad hm;obtain⟨a0,args_0,rfl,hm⟩:=hm
 replace hm:=Ad hm;obtain⟨a1,args_1,rfl,hm⟩:=hm
 replace hm:=AC hm;obtain⟨rfl,hm⟩:=hm
 replace hm:=BG hm;obtain⟨q0,rfl,hm⟩:=hm
 replace hm:=Ae hm;obtain⟨h0,hm⟩:=hm
 replace hm:=Al hm;obtain⟨s0,rfl,hm⟩:=hm
 unfold mG at hm
 refine⟨by simp,?_⟩
 refine .same (F':=(fr 15 [(0,(.agg ⟨q0⟩)),(1,Sl.v 1 s0)])) (H':=Ap) (by kernel_rfl) (by kernel_rfl) ?_
 refine .then (.rK ?_)
 replace hm:=Ae hm;obtain⟨h1,hm⟩:=hm
 refine .ghs (fr 15 [(2,pt 1 0),(3,(pt 2 0))]) (hT 3 [oC q0,(oC [Sl.v 1 s0])]) (.k [1] [false] [.tmp 2 false,.tmp 3 false] [2,3] ⟨BI h1,trivial⟩) ?_
 refine .then (.then (.rK (.ghs (fr 15 [(2,pt 1 0),(3,(pt 2 0)),(8,(zB (Bd (Int.ofNat (Sl.n s0)) (1:Int))))]) (hT 3 [oC q0,(oC [Sl.v 1 s0])]) (.k [1] [false] [.tmp 2 false,.tmp 3 false] [2,3,8] ⟨BI h1,trivial⟩) ?_)))
 replace hm:=Ag hm;rcases hm with⟨h2,hm⟩ | ⟨h2,hm⟩
 ·refine Bq (Bd (Int.ofNat (Sl.n s0)) (1 : Int)) h2 ?_
  refine .then (.rK (.ghs (fr 15 [(4,(zI (1:Int)))]) Ap (.k0 [false] [] [4]) ?_))
  refine .ret ?_
  exact Ay (zI (1:Int)) hm
 ·refine BB (Bd (Int.ofNat (Sl.n s0)) (1 : Int)) h2 ?_
  refine .skip (.ghs (fr 15 [(2,pt 1 0),(3,(pt 2 0))]) (hT 3 [oC q0,(oC [Sl.v 1 s0])]) (.k [1] [false] [.tmp 2 false,.tmp 3 false] [2,3] ⟨BI h1,trivial⟩) ?_)
  refine .then (.rK (.ghs (fr 15 [(2,pt 1 0),(3,(pt 2 0)),(5,(pt 3 0))]) (hT 4 [oC q0,(oC [Sl.v 1 s0]),(oC [.nilFunc])]) (.k [1] [false] [.tmp 2 false,.tmp 3 false,.tmp 5 false] [2,3,5] ⟨BI h1,trivial⟩) ?_))
  refine .then (.rK (.ghs (fr 15 [(3,pt 1 0),(5,(pt 2 0))]) (hT 4 [(oC [Sl.v 1 s0]),(oC [(.func (.func 85) ⟨[]⟩ ⟨[(pt 3 0),pt 1 0,(pt 2 0)]⟩)]),oC q0]) (.k [1] [false] [.tmp 3 false,.tmp 5 true,.ccap 2 0 0 false] [3,5] ⟨BI h1,trivial⟩) ?_))
  refine .then ?_
  replace hm:=Ae hm;obtain⟨h3,hm⟩:=hm
  replace hm:=oI hm;obtain⟨x0,h4,hm⟩:=hm
  replace hm:=Ae hm;obtain⟨h5,hm⟩:=hm
  replace hm:=Ab hm;obtain⟨v0,h6,hm⟩:=hm
  replace hm:=Ch hm;obtain⟨l0,rfl,hm⟩:=hm
  replace hm:=Ad hm;obtain⟨v1,l10244_0,rfl,hm⟩:=hm
  replace hm:=Ad hm;obtain⟨v2,l10244_1,rfl,hm⟩:=hm
  replace hm:=Ad hm;obtain⟨v3,l10244_2,rfl,hm⟩:=hm
  replace hm:=Ad hm;obtain⟨v4,l10244_3,rfl,hm⟩:=hm
  replace hm:=AC hm;obtain⟨rfl,hm⟩:=hm
  replace hm:=Ai hm;obtain⟨x1,rfl,hm⟩:=hm
  replace hm:=BG hm;obtain⟨q1,rfl,hm⟩:=hm
  replace hm:=BG hm;obtain⟨l1,rfl,hm⟩:=hm
  replace hm:=Ad hm;obtain⟨v5,l10254_0,rfl,hm⟩:=hm
  replace hm:=AC hm;obtain⟨rfl,hm⟩:=hm
  replace hm:=Al hm;obtain⟨s1,rfl,hm⟩:=hm
  replace hm:=BG hm;obtain⟨l2,rfl,hm⟩:=hm
  replace hm:=Ad hm;obtain⟨v6,l10259_0,rfl,hm⟩:=hm
  replace hm:=AC hm;obtain⟨rfl,hm⟩:=hm
  replace hm:=Ab hm;obtain⟨l3,h7,hm⟩:=hm
  obtain rfl:=JO h7
  replace hm:=Ad hm;obtain⟨v7,l10262_0,rfl,hm⟩:=hm
  replace hm:=Ad hm;obtain⟨v8,l10262_1,rfl,hm⟩:=hm
  replace hm:=Ad hm;obtain⟨v9,l10262_2,rfl,hm⟩:=hm
  replace hm:=AC hm;obtain⟨rfl,hm⟩:=hm
  replace hm:=Ae hm;obtain⟨h8,hm⟩:=hm
  obtain rfl:=Eo h8
  replace hm:=Ae hm;obtain⟨h9,hm⟩:=hm
  obtain rfl:=Eo h9
  replace hm:=Ae hm;obtain⟨h10,hm⟩:=hm
  obtain rfl:=Eo h10
  replace hm:=Ae hm;obtain⟨h11,hm⟩:=hm
  refine .reg (eC 2 (keep (hT 4 [(oC [Sl.v 1 s0]),(oC [(.func (.func 85) ⟨[]⟩ ⟨[(pt 3 0),pt 1 0,(pt 2 0)]⟩)]),oC q0]) (bb (an (Nat.blt 0 (Sl.n s0)) true) (some (Cv (0*1) (Sl.cs s0))) none)) (AX h3) (eD (keep (hT 4 [(oC [Sl.v 1 s0]),(oC [(.func (.func 85) ⟨[]⟩ ⟨[(pt 3 0),pt 1 0,(pt 2 0)]⟩)]),oC q0]) (AL (Sl.cs s0) (0*1))) (AZ h4) (eD (Gn tabs [[none],[none],[none],[none],[none],[none]] 6 [.tmp 3 false,.tmp 4 false,.tmp 5 true] [false,false,true] (pu 10850) [(zI (1:Int)),zI x0,(zI (1:Int)),(pt 3 0),pt 1 0,(pt 2 0)] (hT 4 [(oC [Sl.v 1 s0]),(oC [(.func (.func 85) ⟨[]⟩ ⟨[(pt 3 0),pt 1 0,(pt 2 0)]⟩)]),oC q0])) (FY (as:=[(zI (1:Int)),zI x0,(zI (1:Int)),(pt 3 0),pt 1 0,(pt 2 0)]) (H1:=(hT 4 [(oC [Sl.v 1 s0]),(oC [(.func (.func 85) ⟨[]⟩ ⟨[(pt 3 0),pt 1 0,(pt 2 0)]⟩)]),oC q0])) (CK (DR Ey) (CK (DR Ey) (CK (DR Ey) (CK (DR Ey) (CK (DR Ey) (CK (DR Ey) Iz)))))) (FX (H2:=(hT 4 [(oC [Sl.v 1 s1]),(oC [(.func (.func 85) ⟨[]⟩ ⟨[(pt 3 0),pt 1 0,(pt 2 0)]⟩)]),oC q1])) (v:=(zI x1)) (v':=(zI x1)) [some 0,some 3,some 1,some 2] [(false,some 3),(false,some 1),(true,some 2)] [oC q0,(oC [Sl.v 1 s0]),(oC [(.func (.func 85) ⟨[]⟩ ⟨[pt 1 0,(pt 2 0),(pt 3 0)]⟩)])] [(zI (1:Int)),zI x0,(zI (1:Int)),pt 1 0,(pt 2 0),(pt 3 0)] [(.agg ⟨q1⟩),(.agg ⟨[Sl.v 1 s1]⟩),(.agg ⟨[(.func (.func 85) ⟨[]⟩ ⟨[pt 1 0,(pt 2 0),(pt 3 0)]⟩)]⟩)] [oC q1,(oC [Sl.v 1 s1]),(oC [(.func (.func 85) ⟨[]⟩ ⟨[pt 1 0,(pt 2 0),(pt 3 0)]⟩)])] [some 0,some 2,some 3,some 1] [(false,oC q1),(false,(oC [Sl.v 1 s1])),(true,(oC [(.func (.func 85) ⟨[]⟩ ⟨[pt 1 0,(pt 2 0),(pt 3 0)]⟩)]))] [oC q1,(oC [Sl.v 1 s1]),(oC [(.func (.func 85) ⟨[]⟩ ⟨[(pt 3 0),pt 1 0,(pt 2 0)]⟩)])] (by kernel_rfl) (Cz (KT (anc:=[]) h5) (Cz (by kernel_rfl) (Cz (by kernel_rfl) C8))) (Eq.trans (by kernel_rfl) h6) (Cz rfl (Cz rfl (Cz rfl C8))) (Cz (JN h11) (Cz (by kernel_rfl) (Cz (by kernel_rfl) C8))))) (eE)))) ?_
  refine .ghs (fr 15 [(4,zI x1)]) Ap (.k0 [false] [] [4]) ?_
  refine .ret ?_
  exact Ay (zI x1) hm
def X5 (pu:Af) (n:Nat) (q0:LV):OV:=
 (bb (an (Nat.ble (0+1) (len q0)) true) (bb (Au Ah (BM ([(.int .i64 (0:Int))]:LV) 0 q0)) (bb (Nat.ble (0+17) (len (BM ([(.int .i64 (0:Int))]:LV) 0 q0))) (bb (Nat.beq (len (Aq 17 (Am 0 (BM ([(.int .i64 (0:Int))]:LV) 0 q0)))) 17) (bb (an (Nat.ble (0+len (Aq 17 (Am 0 (BM ([(.int .i64 (0:Int))]:LV) 0 q0)))) (len (BM ([(.int .i64 (0:Int))]:LV) 0 q0))) (Au D6 (Aq 17 (Am 0 (BM ([(.int .i64 (0:Int))]:LV) 0 q0))))) (bb (Au Ah (BM (Aq 17 (Am 0 (BM ([(.int .i64 (0:Int))]:LV) 0 q0))) 0 (BM ([(.int .i64 (0:Int))]:LV) 0 q0))) (bb (Nat.ble (0+17) (len (BM (Aq 17 (Am 0 (BM ([(.int .i64 (0:Int))]:LV) 0 q0))) 0 (BM ([(.int .i64 (0:Int))]:LV) 0 q0)))) (bb (Fe (.agg ⟨(Aq 17 (Am 0 (BM (Aq 17 (Am 0 (BM ([(.int .i64 (0:Int))]:LV) 0 q0))) 0 (BM ([(.int .i64 (0:Int))]:LV) 0 q0))))⟩)) (some (.agg ⟨(Aq 17 (Am 0 (BM (Aq 17 (Am 0 (BM ([(.int .i64 (0:Int))]:LV) 0 q0))) 0 (BM ([(.int .i64 (0:Int))]:LV) 0 q0))))⟩)) none) none) none) none) none) none) none) none)
def gD (pu:Af) (n:Nat) (ih0:Nat→LV→Int→Int→Int→Int→LV→OV) (n0:Nat) (q0:LV) (z0 z1 z2 z3:Int) (q1:LV):OV:=
 (bb (Au Ah q1) (ih0 n0 q0 z0 z1 z2 (Aj .i64 (Int.add z3 (1:Int))) q1) none)
def gF (pu:Af) (n:Nat) (ih0:Nat→LV→Int→Int→Int→Int→LV→OV) (n0:Nat) (q0:LV) (z0 z1 z2 z3 z4:Int) (q1:LV):OV:=
 (oo (EA z2) none fun k1=>(bb (Nat.blt k1 17) (oo (AL q1 (0+k1*1)) none fun v0=>(oo (Bi .i64 v0) none fun x0=>(bb (Nat.blt k1 17) (bb (an (Nat.ble ((0+k1*1)+1) (len q1)) true) (bb (Au Ah (BM ([(.int .i64 (Aj .i64 (Int.add x0 (1:Int))))]:LV) (0+k1*1) q1)) (gD pu n ih0 n0 q0 z0 z1 z3 z4 (BM ([(.int .i64 (Aj .i64 (Int.add x0 (1:Int))))]:LV) (0+k1*1) q1)) none) none) none))) none))
def gG (pu:Af) (n:Nat) (ih0:Nat→LV→Int→Int→Int→Int→LV→OV) (ih1:Nat→LV→Int→Int→Int→Int→Int→Int→LV→OV) (n0:Nat) (q0:LV) (z0 z1 z2 z3 z4 z5:Int) (q1:LV):OV:=
 (oo (EA z3) none fun k1=>(bb (Au Ah q1) (bb (Bd (Np .u16 (G6 .u16 z1 k1) (1:Int)) (0:Int)) (oo (AL q0 (n0+4)) none fun v0=>(oo (Bj 1 v0) none fun s0=>(oo (EA z0) none fun k2=>(bb (an (Nat.blt k2 (Sl.n s0)) true) (oo (AL (Sl.cs s0) (k2*1)) none fun v1=>(oo (Bj 1 v1) none fun s1=>(bb (an (Nat.blt k1 (Sl.n s1)) true) (oo (AL (Sl.cs s1) (k1*1)) none fun v2=>(oo (Bi .i64 v2) none fun x0=>(ih1 n0 q0 (Int.ofNat k2) (jF .u16 z1 (QW .u16 (1:Int) k1)) (Aj .i64 (Int.add z2 (1:Int))) x0 z4 z5 q1))) none))) none)))) (gF pu n ih0 n0 q0 z0 z1 z2 z4 z5 q1)) none))
def gH (pu:Af) (n:Nat) (ih0:Nat→LV→Int→Int→Int→Int→LV→OV) (w:Nat):Nat→LV→Int→Int→Int→Int→Int→Int→LV→OV:=
 Nat.rec (motive:=fun _=>Nat→LV→Int→Int→Int→Int→Int→Int→LV→OV) (fun _ _ _ _ _ _ _ _ _=>none) (fun _ ih1=>gG pu n ih0 ih1) w
def gI (pu:Af) (n:Nat) (ih0:Nat→LV→Int→Int→Int→Int→LV→OV) (n0:Nat) (q0:LV) (z0 z1 z2 z3:Int) (q1:LV):OV:=
 (bb (Au Ah q1) (bb (AY z3 z2) (gH pu n ih0 n n0 q0 z0 z1 (0:Int) z3 z2 z3 q1) (X5 pu n q1)) none)
def MJ (pu:Af) (n w:Nat):Nat→LV→Int→Int→Int→Int→LV→OV:=
 Nat.rec (motive:=fun _=>Nat→LV→Int→Int→Int→Int→LV→OV) (fun _ _ _ _ _ _ _=>none) (fun _ ih0=>gI pu n ih0) w
def Agj (pu:Af) (n:Nat) (p0:Db) (x0:Int):OV:=
 (bb (Au Ah Sg) (oo (AL (Db.cs p0) ((Db.off p0)+4)) none fun v0=>(oo (Bj 1 v0) none fun s0=>(oo (EA x0) none fun k1=>(bb (an (Nat.blt k1 (Sl.n s0)) true) (oo (AL (Sl.cs s0) (k1*1)) none fun v1=>(oo (Bj 1 v1) none fun s1=>(MJ pu n n (Db.off p0) (Db.cs p0) (Int.ofNat k1) (0:Int) (Int.ofNat (Sl.n s1)) (0:Int) Sg))) none)))) none)
def m61 (pu:Af) (n:Nat) (args:LV):OV:=
 (ll args none fun a0 args=>(ll args none fun a1 args=>(ll args (oo (Pv a0) none fun p0=>(oo (Bi .i64 a1) none fun x0=>(Agj pu n p0 x0))) fun _ _=>none)))
theorem Agk (pu:Af) (n:Nat) (q0:LV) {v:Value} (hm:X5 pu n q0=some v):BN tt (Bb tabs isP pu (inl pu)) 1 dA (fr 50 [(4,pt 1 0)]) (hT 2 [oC q0]) (Fin tt 1 [.cell 4 84] v):=by
 unfold X5 at hm
 refine .then ?_
 replace hm:=Ae hm;obtain⟨h0,hm⟩:=hm
 refine .reg (eC 1 (done (bb (an (Nat.ble (0+1) (len q0)) true) (some (hT 2 [(oC (BM ([(zI (0:Int))]:LV) 0 q0))])) none) undef) (Js h0) (eE)) ?_
 replace hm:=Ae hm;obtain⟨h1,hm⟩:=hm
 refine .ghs (fr 50 [(4,pt 1 0)]) (hT 2 [(oC (BM ([(zI (0:Int))]:LV) 0 q0))]) (.k [1] [false] [.tmp 4 false] [4] ⟨BI h1,trivial⟩) ?_
 refine .then ?_
 replace hm:=Ae hm;obtain⟨h2,hm⟩:=hm
 replace hm:=Ae hm;obtain⟨h3,hm⟩:=hm
 replace hm:=Ae hm;obtain⟨h4,hm⟩:=hm
 refine .reg (eD (keep (hT 2 [(oC (BM ([(zI (0:Int))]:LV) 0 q0))]) (bb (Nat.ble (0+17) (len (BM ([(zI (0:Int))]:LV) 0 q0))) (some (.agg ⟨(Aq 17 (Am 0 (BM ([(zI (0:Int))]:LV) 0 q0)))⟩)) none)) (AX h2) (eD (done (bb (Nat.beq (len (Aq 17 (Am 0 (BM ([(zI (0:Int))]:LV) 0 q0)))) 17) (bb (an (Nat.ble (0+len (Aq 17 (Am 0 (BM ([(zI (0:Int))]:LV) 0 q0)))) (len (BM ([(zI (0:Int))]:LV) 0 q0))) (Au D6 (Aq 17 (Am 0 (BM ([(zI (0:Int))]:LV) 0 q0))))) (some (hT 2 [(oC (BM (Aq 17 (Am 0 (BM ([(zI (0:Int))]:LV) 0 q0))) 0 (BM ([(zI (0:Int))]:LV) 0 q0)))])) none) none) undef) (bH h3 h4) (eE))) ?_
 replace hm:=Ae hm;obtain⟨h5,hm⟩:=hm
 refine .ghs (fr 50 [(4,pt 1 0)]) (hT 2 [(oC (BM (Aq 17 (Am 0 (BM ([(zI (0:Int))]:LV) 0 q0))) 0 (BM ([(zI (0:Int))]:LV) 0 q0)))]) (.k [1] [false] [.tmp 4 false] [4] ⟨BI h5,trivial⟩) ?_
 refine .ret ?_
 replace hm:=Ae hm;obtain⟨h6,hm⟩:=hm
 replace hm:=Ae hm;obtain⟨h7,hm⟩:=hm
 exact kI (.agg ⟨(Aq 17 (Am 0 (BM (Aq 17 (Am 0 (BM ([(zI (0:Int))]:LV) 0 q0))) 0 (BM ([(zI (0:Int))]:LV) 0 q0))))⟩) (SN (Oh (show Q6 _ _ _ _=some (.agg ⟨(Aq 17 (Am 0 (BM (Aq 17 (Am 0 (BM ([(zI (0:Int))]:LV) 0 q0))) 0 (BM ([(zI (0:Int))]:LV) 0 q0))))⟩) from (Aex (c:=(Nat.ble (0+17) (len (BM (Aq 17 (Am 0 (BM ([(zI (0:Int))]:LV) 0 q0))) 0 (BM ([(zI (0:Int))]:LV) 0 q0))))) (by kernel_rfl) h6)) rfl) (by kernel_rfl)) h7 hm
theorem r61 {call:A8} (pu:Af) (n:Nat) (hcall:call=Bb tabs isP pu (inl pu)) {args:LV} {v:Value} (hm:m61 pu n args=some v) (_:∀ x∈args,closed2 x=true):args.length≤50∧BN tt call 1 R5 (Fr.made 50 args) (Ao tabs) (Fin tt 1 [.cell 4 84] v):=by
 subst hcall
 unfold m61 at hm
 replace hm:=Ad hm;obtain⟨a0,args_0,rfl,hm⟩:=hm
 replace hm:=Ad hm;obtain⟨a1,args_1,rfl,hm⟩:=hm
 replace hm:=AC hm;obtain⟨rfl,hm⟩:=hm
 replace hm:=Ab hm;obtain⟨p0,h0,hm⟩:=hm
 obtain rfl:=F7 h0
 replace hm:=Ai hm;obtain⟨x0,rfl,hm⟩:=hm
 unfold Agj at hm
 refine⟨by simp,?_⟩
 refine .same (F':=(fr 50 [(0,(Cv (Db.off p0) (Db.cs p0))),(1,zI x0)])) (H':=Ap) (by kernel_rfl) (by kernel_rfl) ?_
 refine .then (.rK ?_)
 replace hm:=Ae hm;obtain⟨h1,hm⟩:=hm
 refine .ghs (fr 50 [(0,(Cv (Db.off p0) (Db.cs p0))),(1,zI x0),(4,pt 1 0)]) (hT 2 [oC Sg]) (.k [1] [false] [.tmp 4 false] [0,1,4] ⟨BI h1,trivial⟩) ?_
 refine .then (.rK (.ghs (fr 50 [(0,(Cv (Db.off p0) (Db.cs p0))),(1,zI x0),(4,pt 1 0),(5,(.int .u16 (0:Int)))]) (hT 2 [oC Sg]) (.k [1] [false] [.tmp 4 false] [0,1,4,5] ⟨BI h1,trivial⟩) ?_))
 refine .join (v:=v) (fun y:LV=>((fr 50 [(4,pt 1 0)]),(hT 2 [oC y]))) (fun y=>X5 pu n y) ?_ ?_
 ·rintro q0 hm
  exact Agk pu n q0 hm
 ·refine .then ?_
  replace hm:=oS hm;obtain⟨s0,h2,hm⟩:=hm
  replace hm:=Ab hm;obtain⟨k1,h3,hm⟩:=hm
  obtain rfl:=AR h3
  replace hm:=Ae hm;obtain⟨h4,hm⟩:=hm
  replace hm:=oS hm;obtain⟨s1,h5,hm⟩:=hm
  refine .reg (eC 3 (keep (hT 2 [oC Sg]) (AL (Db.cs p0) ((Db.off p0)+4))) (AZ h2) (eC 1 (keep (hT 2 [oC Sg]) (bb (an (Nat.blt k1 (Sl.n s0)) true) (some (Cv (k1*1) (Sl.cs s0))) none)) (AX h4) (eD (keep (hT 2 [oC Sg]) (AL (Sl.cs s0) (k1*1))) (AZ h5) (eE)))) ?_
  refine .ghs (fr 50 [(0,(Cv (Db.off p0) (Db.cs p0))),(1,(zI (Int.ofNat k1))),(4,pt 1 0),(5,(.int .u16 (0:Int))),(16,(zI (Int.ofNat (Sl.n s1)))),(17,(zI (0:Int)))]) (hT 2 [oC Sg]) (.k [1] [false] [.tmp 4 false] [0,1,4,5,16,17] ⟨BI h1,trivial⟩) ?_
  refine .block (.loopM (v:=v) (fun y:Nat×LV×Int×Int×Int×Int×LV=>((fr 50 [(0,(Cv y.1 y.2.1)),(1,(zI y.2.2.1)),(4,pt 1 0),(5,(.int .u16 y.2.2.2.1)),(16,(zI y.2.2.2.2.1)),(17,(zI y.2.2.2.2.2.1))]),(hT 2 [(oC y.2.2.2.2.2.2)]))) (fun w y=>MJ pu n w y.1 y.2.1 y.2.2.1 y.2.2.2.1 y.2.2.2.2.1 y.2.2.2.2.2.1 y.2.2.2.2.2.2) n ⟨((Db.off p0),(Db.cs p0),(Int.ofNat k1),(0:Int),(Int.ofNat (Sl.n s1)),(0:Int),Sg),hm,(.k [1] [false] [.tmp 4 false] [0,1,4,5,16,17] ⟨BI h1,trivial⟩)⟩ (fun _=>rfl) ?_)
  rintro w0 ⟨n0,q1,z0,z1,z2,z3,q2⟩ hm
  replace hm:gI pu n (MJ pu n w0) n0 q1 z0 z1 z2 z3 q2=some v:=hm
  unfold gI at hm
  refine .then (.rK ?_)
  replace hm:=Ae hm;obtain⟨h6,hm⟩:=hm
  refine .ghs (fr 50 [(0,(Cv n0 q1)),(1,zI z0),(4,pt 1 0),(5,.int .u16 z1),(16,zI z2),(17,zI z3),(18,(zB (AY z3 z2)))]) (hT 2 [oC q2]) (.k [1] [false] [.tmp 4 false] [0,1,4,5,16,17,18] ⟨BI h6,trivial⟩) ?_
  refine .then ?_
  replace hm:=Ag hm;rcases hm with⟨h7,hm⟩ | ⟨h7,hm⟩
  ·refine Bq (AY z3 z2) h7 ?_
   refine .skip (.ghs (fr 50 [(0,(Cv n0 q1)),(1,zI z0),(4,pt 1 0),(5,.int .u16 z1),(16,zI z2),(17,zI z3)]) (hT 2 [oC q2]) (.k [1] [false] [.tmp 4 false] [0,1,4,5,16,17] ⟨BI h6,trivial⟩) ?_)
   refine .join (v:=v) (fun y:Nat×LV×Int×Int×Int×Int×LV=>((fr 50 [(0,(Cv y.1 y.2.1)),(1,(zI y.2.2.1)),(4,pt 1 0),(5,(.int .u16 y.2.2.2.1)),(16,(zI y.2.2.2.2.1)),(17,(zI y.2.2.2.2.2.1))]),(hT 2 [(oC y.2.2.2.2.2.2)]))) (fun y=>gD pu n (MJ pu n w0) y.1 y.2.1 y.2.2.1 y.2.2.2.1 y.2.2.2.2.1 y.2.2.2.2.2.1 y.2.2.2.2.2.2) ?_ ?_
   ·rintro ⟨n1, q3, z4, z5, z6, z7, q4⟩ hm
    unfold gD at hm
    refine .rK ?_
    replace hm:=Ae hm;obtain⟨h8,hm⟩:=hm
    exact⟨(n1,q3,z4,z5,z6,(Aj .i64 (Int.add z7 (1:Int))),q4),hm,(.k [1] [false] [.tmp 4 false] [0,1,4,5,16,17] ⟨BI h8,trivial⟩)⟩
   ·refine .block (.then (.rK (.ghs (fr 50 [(0, (Cv n0 q1)), (1, zI z0), (4, pt 1 0), (5, .int .u16 z1), (6, zI z3), (16, zI z2), (17, zI z3)]) (hT 2 [oC q2]) (.k [1] [false] [.tmp 4 false] [0, 1, 4, 5, 6, 16, 17] ⟨BI h6, trivial⟩) ?_)))
    refine .then (.rK (.ghs (fr 50 [(0,(Cv n0 q1)),(1,zI z0),(4,pt 1 0),(5,.int .u16 z1),(6,zI z3),(7,(zI (0:Int))),(16,zI z2),(17,zI z3)]) (hT 2 [oC q2]) (.k [1] [false] [.tmp 4 false] [0,1,4,5,6,7,16,17] ⟨BI h6,trivial⟩) ?_))
    refine .join (v:=v) (fun y:Nat×LV×Int×Int×Int×Int×Int×LV=>((fr 50 [(0,(Cv y.1 y.2.1)),(1,(zI y.2.2.1)),(4,pt 1 0),(5,(.int .u16 y.2.2.2.1)),(7,(zI y.2.2.2.2.1)),(16,(zI y.2.2.2.2.2.1)),(17,(zI y.2.2.2.2.2.2.1))]),(hT 2 [(oC y.2.2.2.2.2.2.2)]))) (fun y=>gF pu n (MJ pu n w0) y.1 y.2.1 y.2.2.1 y.2.2.2.1 y.2.2.2.2.1 y.2.2.2.2.2.1 y.2.2.2.2.2.2.1 y.2.2.2.2.2.2.2) ?_ ?_
    ·rintro ⟨n2, q5, z8, z9, z10, z11, z12, q6⟩ hm
     unfold gF at hm
     replace hm:=Ab hm;obtain⟨k2,h9,hm⟩:=hm
     obtain rfl:=AR h9
     replace hm:=Ae hm;obtain⟨h10,hm⟩:=hm
     replace hm:=oI hm;obtain⟨x1,h11,hm⟩:=hm
     replace hm:=Ae hm;obtain⟨h12,hm⟩:=hm
     replace hm:=Ae hm;obtain⟨h13,hm⟩:=hm
     refine .reg (eC 1 (keep (hT 2 [oC q6]) (bb (Nat.blt k2 17) (some (.pointer (some ⟨1,(0+k2*1),none⟩))) none)) (AX h10) (eD (keep (hT 2 [oC q6]) (AL q6 (0+k2*1))) (AZ h11) (eC 1 (keep (hT 2 [oC q6]) (bb (Nat.blt k2 17) (some (.pointer (some ⟨1,(0+k2*1),none⟩))) none)) (AX h12) (eD (done (bb (an (Nat.ble ((0+k2*1)+1) (len q6)) true) (some (hT 2 [(oC (BM ([(zI (Aj .i64 (Int.add x1 (1:Int))))]:LV) (0+k2*1) q6))])) none) undef) (Js h13) (eE))))) ?_
     replace hm:=Ae hm;obtain⟨h14,hm⟩:=hm
     exact⟨(n2,q5,z8,z9,z11,z12,(BM ([(zI (Aj .i64 (Int.add x1 (1:Int))))]:LV) (0+k2*1) q6)),hm,(.k [1] [false] [.tmp 4 false] [0,1,4,5,16,17] ⟨BI h14,trivial⟩)⟩
    ·refine .then (.rK (.ghs (fr 50 [(0, (Cv n0 q1)), (1, zI z0), (4, pt 1 0), (5, .int .u16 z1), (7, (zI (0 : Int))), (8, zI z3), (16, zI z2), (17, zI z3)]) (hT 2 [oC q2]) (.k [1] [false] [.tmp 4 false] [0, 1, 4, 5, 7, 8, 16, 17] ⟨BI h6, trivial⟩) ?_))
     refine .block (.loopM (v:=v) (fun y:Nat×LV×Int×Int×Int×Int×Int×Int×LV=>((fr 50 [(0,(Cv y.1 y.2.1)),(1,(zI y.2.2.1)),(4,pt 1 0),(5,(.int .u16 y.2.2.2.1)),(7,(zI y.2.2.2.2.1)),(8,(zI y.2.2.2.2.2.1)),(16,(zI y.2.2.2.2.2.2.1)),(17,(zI y.2.2.2.2.2.2.2.1))]),(hT 2 [(oC y.2.2.2.2.2.2.2.2)]))) (fun w y=>gH pu n (MJ pu n w0) w y.1 y.2.1 y.2.2.1 y.2.2.2.1 y.2.2.2.2.1 y.2.2.2.2.2.1 y.2.2.2.2.2.2.1 y.2.2.2.2.2.2.2.1 y.2.2.2.2.2.2.2.2) n ⟨(n0,q1,z0,z1,(0:Int),z3,z2,z3,q2),hm,(.k [1] [false] [.tmp 4 false] [0,1,4,5,7,8,16,17] ⟨BI h6,trivial⟩)⟩ (fun _=>rfl) ?_)
     rintro w1 ⟨n3,q7,z13,z14,z15,z16,z17,z18,q8⟩ hm
     replace hm:gG pu n (MJ pu n w0) (gH pu n (MJ pu n w0) w1) n3 q7 z13 z14 z15 z16 z17 z18 q8=some v:=hm
     unfold gG at hm
     refine .then (.then ?_)
     replace hm:=Ab hm;obtain⟨k3,h15,hm⟩:=hm
     obtain rfl:=AR h15
     refine .rK ?_
     replace hm:=Ae hm;obtain⟨h16,hm⟩:=hm
     refine .ghs (fr 50 [(0,(Cv n3 q7)),(1,zI z13),(4,pt 1 0),(5,.int .u16 z14),(7,zI z15),(8,(zI (Int.ofNat k3))),(16,zI z17),(17,zI z18),(25,(zB (Bd (Np .u16 (G6 .u16 z14 k3) (1:Int)) (0:Int))))]) (hT 2 [oC q8]) (.k [1] [false] [.tmp 4 false] [0,1,4,5,7,8,16,17,25] ⟨BI h16,trivial⟩) ?_
     replace hm:=Ag hm;rcases hm with⟨h17,hm⟩ | ⟨h17,hm⟩
     ·refine Bq (Bd (Np .u16 (G6 .u16 z14 k3) (1 : Int)) (0 : Int)) h17 ?_
      refine .skip (.ghs (fr 50 [(0,(Cv n3 q7)),(1,zI z13),(4,pt 1 0),(5,.int .u16 z14),(7,zI z15),(8,(zI (Int.ofNat k3))),(16,zI z17),(17,zI z18)]) (hT 2 [oC q8]) (.k [1] [false] [.tmp 4 false] [0,1,4,5,7,8,16,17] ⟨BI h16,trivial⟩) ?_)
      refine .then (.block (.then (.rK (.ghs (fr 50 [(0,(Cv n3 q7)),(1,zI z13),(4,pt 1 0),(5,(.int .u16 (jF .u16 z14 (QW .u16 (1:Int) k3)))),(7,zI z15),(8,(zI (Int.ofNat k3))),(16,zI z17),(17,zI z18)]) (hT 2 [oC q8]) (.k [1] [false] [.tmp 4 false] [0,1,4,5,7,8,16,17] ⟨BI h16,trivial⟩) ?_))))
      refine .rK (.ghs (fr 50 [(0,(Cv n3 q7)),(1,zI z13),(4,pt 1 0),(5,(.int .u16 (jF .u16 z14 (QW .u16 (1:Int) k3)))),(7,(zI (Aj .i64 (Int.add z15 (1:Int))))),(8,(zI (Int.ofNat k3))),(16,zI z17),(17,zI z18)]) (hT 2 [oC q8]) (.k [1] [false] [.tmp 4 false] [0,1,4,5,7,8,16,17] ⟨BI h16,trivial⟩) ?_)
      replace hm:=oS hm;obtain⟨s2,h18,hm⟩:=hm
      replace hm:=Ab hm;obtain⟨k4,h19,hm⟩:=hm
      obtain rfl:=AR h19
      replace hm:=Ae hm;obtain⟨h20,hm⟩:=hm
      replace hm:=oS hm;obtain⟨s3,h21,hm⟩:=hm
      replace hm:=Ae hm;obtain⟨h22,hm⟩:=hm
      replace hm:=oI hm;obtain⟨x2,h23,hm⟩:=hm
      refine .reg (eC 3 (keep (hT 2 [oC q8]) (AL q7 (n3+4))) (AZ h18) (eC 1 (keep (hT 2 [oC q8]) (bb (an (Nat.blt k4 (Sl.n s2)) true) (some (Cv (k4*1) (Sl.cs s2))) none)) (AX h20) (eD (keep (hT 2 [oC q8]) (AL (Sl.cs s2) (k4*1))) (AZ h21) (eC 1 (keep (hT 2 [oC q8]) (bb (an (Nat.blt k3 (Sl.n s3)) true) (some (Cv (k3*1) (Sl.cs s3))) none)) (AX h22) (eD (keep (hT 2 [oC q8]) (AL (Sl.cs s3) (k3*1))) (AZ h23) (eE)))))) ?_
      exact⟨(n3,q7,(Int.ofNat k4),(jF .u16 z14 (QW .u16 (1:Int) k3)),(Aj .i64 (Int.add z15 (1:Int))),x2,z17,z18,q8),hm,(.k [1] [false] [.tmp 4 false] [0,1,4,5,7,8,16,17] ⟨BI h16,trivial⟩)⟩
     ·refine BB (Bd (Np .u16 (G6 .u16 z14 k3) (1 : Int)) (0 : Int)) h17 ?_
      refine .exit ?_
      exact⟨(n3,q7,z13,z14,z15,z17,z18,q8),hm,(.k [1] [false] [.tmp 4 false] [0,1,4,5,7,16,17] ⟨BI h16,trivial⟩)⟩
  ·refine BB (AY z3 z2) h7 ?_
   refine .exit ?_
   exact⟨q2,hm,(.k [1] [false] [.tmp 4 false] [4] ⟨BI h6,trivial⟩)⟩
end
end Go.BkUM
