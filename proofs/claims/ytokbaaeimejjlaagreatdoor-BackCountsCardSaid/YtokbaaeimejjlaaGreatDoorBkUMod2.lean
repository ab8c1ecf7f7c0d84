/- Made from wip. -/
import Derived.Test.YtokbaaeimejjlaaGreatDoorBkUMod1x

set_option maxRecDepth 100000
set_option maxHeartbeats 20000000
set_option linter.unusedVariables false
namespace Go.BkUM
open Go.Sp Go.BkU
noncomputable section
def Uc (pu:Af) (n n0:Nat) (q0:LV) (z0:Int):OV:=
 (oo (AL q0 ((n0+0)+3)) none fun v0=>(oo (Bj 1 v0) none fun s0=>(bb (nt (Bd (Int.ofNat (Sl.n s0)) (0:Int))) (some (.tuple ⟨[(.int .i64 (Aj .i64 (Int.tdiv z0 (Int.ofNat (Sl.n s0))))),(.int .i64 (0:Int))]⟩)) none)))
def Ox (pu:Af) (n:Nat) (ih0:Sl→Nat→LV→Int→Int→Int→OV) (s0:Sl) (n0:Nat) (q0:LV) (z0 z1 z2:Int):OV:=
 (bb (AY z2 z1) (oo (pu 61 [(Cv n0 q0),.int .i64 z2]) none fun v0=>(oo (Bt v0) none fun q1=>(bb (an (Nat.beq (len q1) 17) (Au Ah q1)) (oo (pu 60 [(.agg ⟨q1⟩),Sl.v 1 s0]) none fun v1=>(oo (Bi .i64 v1) none fun x0=>(bb (Au closed2 [(.agg ⟨q1⟩),Sl.v 1 s0]) (ih0 s0 n0 q0 (Aj .i64 (Int.add z0 x0)) z1 (Aj .i64 (Int.add z2 (1:Int)))) none))) none))) (Uc pu n n0 q0 z0))
def PP (pu:Af) (n w:Nat):Sl→Nat→LV→Int→Int→Int→OV:=
 Nat.rec (motive:=fun _=>Sl→Nat→LV→Int→Int→Int→OV) (fun _ _ _ _ _ _=>none) (fun _ ih0=>Ox pu n ih0) w
def Oy (pu:Af) (n:Nat) (s0:Sl) (n0:Nat) (q0:LV) (z0:Int):OV:=
 (oo (AL q0 ((n0+0)+0)) none fun v0=>(oo (Bi .i64 v0) none fun x0=>(oo (AL q0 ((n0+0)+1)) none fun v1=>(oo (Bi .i64 v1) none fun x1=>(bb (nt (Bd z0 (Aj .i64 (Int.mul x0 x1)))) (some (.tuple ⟨[(.int .i64 (0:Int)),(.int .i64 (17:Int))]⟩)) (oo (AL q0 ((n0+0)+3)) none fun v2=>(oo (Bj 1 v2) none fun s1=>(PP pu n n s0 n0 q0 (0:Int) (Int.ofNat (Sl.n s1)) (0:Int)))))))))
def KV (pu:Af) (n:Nat) (ih0:Sl→Nat→LV→Int→Sl→Int→Int→OV) (s0:Sl) (n0:Nat) (q0:LV) (z0:Int) (s1:Sl) (z1 z2:Int):OV:=
 (bb (AY z2 z1) (oo (EA z2) none fun k1=>(bb (an (Nat.blt k1 (Sl.n s1)) true) (oo (AL (Sl.cs s1) (k1*1)) none fun v0=>(oo (Bi .i64 v0) none fun x0=>(oo (AL q0 ((n0+0)+0)) none fun v1=>(oo (Bi .i64 v1) none fun x1=>(oo (AL q0 ((n0+0)+1)) none fun v2=>(oo (Bi .i64 v2) none fun x2=>(oo (pu 59 [(.int .i64 (0:Int)),.int .i64 x0,(.int .i64 (Aj .i64 (Int.mul x1 x2)))]) none fun v3=>(oo (Bf v3) none fun b0=>(bb (nt b0) (some (.tuple ⟨[(.int .i64 (0:Int)),(.int .i64 (1:Int))]⟩)) (ih0 s0 n0 q0 (Aj .i64 (Int.add z0 x0)) s1 z1 (Aj .i64 (Int.add (Int.ofNat k1) (1:Int))))))))))))) none)) (Oy pu n s0 n0 q0 z0))
def Ke (pu:Af) (n w:Nat):Sl→Nat→LV→Int→Sl→Int→Int→OV:=
 Nat.rec (motive:=fun _=>Sl→Nat→LV→Int→Sl→Int→Int→OV) (fun _ _ _ _ _ _ _=>none) (fun _ ih0=>KV pu n ih0) w
def Yz (pu:Af) (n:Nat) (x0 x1 x2:Int) (s0 s1:Sl):OV:=
 (oo (pu 55 [(.agg ⟨[.int .i64 x0,.int .i64 x1,.int .i64 x2,Sl.v 1 s0]⟩)]) none fun v0=>(oo (CQ v0) none fun l0=>(ll l0 none fun v1 l0=>(ll l0 none fun v2 l0=>(ll l0 (bb (isS (Pv v1)) (oo (Pv v1) none fun p0=>(oo (Bi .i64 v2) none fun x3=>(bb (nt (Bd x3 (0:Int))) (some (.tuple ⟨[(.int .i64 (0:Int)),.int .i64 x3]⟩)) (oo (AL (Db.cs p0) (((Db.off p0)+0)+2)) none fun v3=>(oo (Bi .i64 v3) none fun x4=>(bb (nt (Bd (Int.ofNat (Sl.n s1)) x4)) (some (.tuple ⟨[(.int .i64 (0:Int)),(.int .i64 (5:Int))]⟩)) (Ke pu n n s1 (Db.off p0) (Db.cs p0) (0:Int) s1 (Int.ofNat (Sl.n s1)) (0:Int)))))))) (bb (U0 v1) (oo (Bi .i64 v2) none fun x5=>(bb (nt (Bd x5 (0:Int))) (some (.tuple ⟨[(.int .i64 (0:Int)),.int .i64 x5]⟩)) none)) none)) fun _ _=>none)))))
def m27 (pu:Af) (n:Nat) (args:LV):OV:=
 (ll args none fun a0 args=>(ll args none fun a1 args=>(ll args (oo (Bt a0) none fun l0=>(ll l0 none fun v0 l0=>(ll l0 none fun v1 l0=>(ll l0 none fun v2 l0=>(ll l0 none fun v3 l0=>(ll l0 (oo (Bi .i64 v0) none fun x0=>(oo (Bi .i64 v1) none fun x1=>(oo (Bi .i64 v2) none fun x2=>(oo (Bj 1 v3) none fun s0=>(oo (Bj 1 a1) none fun s1=>(Yz pu n x0 x1 x2 s0 s1)))))) fun _ _=>none)))))) fun _ _=>none)))
theorem Afx (pu:Af) (n n0:Nat) (q0:LV) (z0:Int) {v:Value} (hm:Uc pu n n0 q0 z0=some v):BN tt (Bb tabs isP pu (inl pu)) 1 bJ (fr 93 [(6,(Cv n0 q0)),(11,zI z0)]) Ap (Fin tt 1 [.tmp 4,.tmp 5] v):=by
 unfold Uc at hm
 refine .then ?_
 replace hm:=oS hm;obtain⟨s0,h0,hm⟩:=hm
 replace hm:=Ae hm;obtain⟨h1,hm⟩:=hm
 refine .reg (eC 5 (keep Ap (AL q0 ((n0+0)+3))) (AZ h0) (eC 1 (keep Ap (bb (Bd (Int.ofNat (Sl.n s0)) (0:Int)) none (some (zI (Aj .i64 (Int.tdiv z0 (Int.ofNat (Sl.n s0)))))))) (XH h1) (eE))) ?_
 refine .ghs (fr 93 [(4,(zI (Aj .i64 (Int.tdiv z0 (Int.ofNat (Sl.n s0)))))),(5,(zI (0:Int)))]) Ap (.k0 [false] [] [4,5]) ?_
 refine .ret ?_
 exact Ay (.tuple ⟨[(zI (Aj .i64 (Int.tdiv z0 (Int.ofNat (Sl.n s0))))),(zI (0:Int))]⟩) hm
theorem Afy (pu:Af) (n:Nat) (s0:Sl) (n0:Nat) (q0:LV) (z0:Int) {v:Value} (hm:Oy pu n s0 n0 q0 z0=some v):BN tt (Bb tabs isP pu (inl pu)) 1 bK (fr 93 [(1,Sl.v 1 s0),(6,(Cv n0 q0)),(8,zI z0)]) Ap (Fin tt 1 [.tmp 4,.tmp 5] v):=by
 unfold Oy at hm
 refine .then (.then ?_)
 replace hm:=oI hm;obtain⟨x0,h0,hm⟩:=hm
 replace hm:=oI hm;obtain⟨x1,h1,hm⟩:=hm
 refine .reg (eC 5 (keep Ap (AL q0 ((n0+0)+0))) (AZ h0) (eC 4 (keep Ap (AL q0 ((n0+0)+1))) (AZ h1) (eE))) ?_
 refine .ghs (fr 93 [(1,Sl.v 1 s0),(6,(Cv n0 q0)),(67,(zB (nt (Bd z0 (Aj .i64 (Int.mul x0 x1))))))]) Ap (.k0 [false] [] [1,6,67]) ?_
 replace hm:=Ag hm;rcases hm with⟨h2,hm⟩ | ⟨h2,hm⟩
 ·refine Bq (nt (Bd z0 (Aj .i64 (Int.mul x0 x1)))) h2 ?_
  refine .then (.rK (.ghs (fr 93 [(4,(zI (0:Int))),(5,(zI (17:Int)))]) Ap (.k0 [false] [] [4,5]) ?_))
  refine .ret ?_
  exact Ay (.tuple ⟨[(zI (0:Int)),(zI (17:Int))]⟩) hm
 ·refine BB (nt (Bd z0 (Aj .i64 (Int.mul x0 x1)))) h2 ?_
  refine .skip (.ghs (fr 93 [(1,Sl.v 1 s0),(6,(Cv n0 q0))]) Ap (.k0 [false] [] [1,6]) ?_)
  refine .then (.rK (.ghs (fr 93 [(1,Sl.v 1 s0),(6,(Cv n0 q0)),(11,(zI (0:Int)))]) Ap (.k0 [false] [] [1,6,11]) ?_))
  refine .join (v:=v) (fun y:Nat×LV×Int=>((fr 93 [(6,(Cv y.1 y.2.1)),(11,(zI y.2.2))]),Ap)) (fun y=>Uc pu n y.1 y.2.1 y.2.2) ?_ ?_
  ·rintro ⟨n1, q1, z1⟩ hm
   exact Afx pu n n1 q1 z1 hm
  ·refine .then ?_
   replace hm:=oS hm;obtain⟨s1,h3,hm⟩:=hm
   refine .reg (eC 4 (keep Ap (AL q0 ((n0+0)+3))) (AZ h3) (eE)) ?_
   refine .ghs (fr 93 [(1,Sl.v 1 s0),(6,(Cv n0 q0)),(11,(zI (0:Int))),(73,(zI (Int.ofNat (Sl.n s1)))),(74,(zI (0:Int)))]) Ap (.k0 [false] [] [1,6,11,73,74]) ?_
   refine .block (.loopM (v:=v) (fun y:Sl×Nat×LV×Int×Int×Int=>((fr 93 [(1,(Sl.v 1 y.1)),(6,(Cv y.2.1 y.2.2.1)),(11,(zI y.2.2.2.1)),(73,(zI y.2.2.2.2.1)),(74,(zI y.2.2.2.2.2))]),Ap)) (fun w y=>PP pu n w y.1 y.2.1 y.2.2.1 y.2.2.2.1 y.2.2.2.2.1 y.2.2.2.2.2) n ⟨(s0,n0,q0,(0:Int),(Int.ofNat (Sl.n s1)),(0:Int)),hm,(.k0 [false] [] [1,6,11,73,74])⟩ (fun _=>rfl) ?_)
   rintro w0 ⟨s2,n2,q2,z2,z3,z4⟩ hm
   replace hm:Ox pu n (PP pu n w0) s2 n2 q2 z2 z3 z4=some v:=hm
   unfold Ox at hm
   refine .then (.rK (.ghs (fr 93 [(1,Sl.v 1 s2),(6,(Cv n2 q2)),(11,zI z2),(73,zI z3),(74,zI z4),(75,(zB (AY z4 z3)))]) Ap (.k0 [false] [] [1,6,11,73,74,75]) ?_))
   refine .then ?_
   replace hm:=Ag hm;rcases hm with⟨h4,hm⟩ | ⟨h4,hm⟩
   ·refine Bq (AY z4 z3) h4 ?_
    refine .skip (.ghs (fr 93 [(1,Sl.v 1 s2),(6,(Cv n2 q2)),(11,zI z2),(73,zI z3),(74,zI z4)]) Ap (.k0 [false] [] [1,6,11,73,74]) ?_)
    refine .then (.block (.then (.rK (.ghs (fr 93 [(1,Sl.v 1 s2),(6,(Cv n2 q2)),(11,zI z2),(12,zI z4),(73,zI z3),(74,zI z4)]) Ap (.k0 [false] [] [1,6,11,12,73,74]) ?_))))
    replace hm:=Ab hm;obtain⟨v0,h5,hm⟩:=hm
    replace hm:=BG hm;obtain⟨q3,rfl,hm⟩:=hm
    replace hm:=Ae hm;obtain⟨h6,hm⟩:=hm
    replace hm:=oI hm;obtain⟨x2,h7,hm⟩:=hm
    replace hm:=Ae hm;obtain⟨h8,hm⟩:=hm
    refine .reg (eC 3 ((oo (pu 61 [(Cv n2 q2),zI z4]) none fun v=>some (v,Ap))) (AB h5) (eC 1 (bb (Au closed2 [(.agg ⟨q3⟩),Sl.v 1 s2]) (oo (pu 60 [(.agg ⟨q3⟩),Sl.v 1 s2]) none fun v=>some (v,Ap)) (oo (CG (RG Ap) [(.agg ⟨q3⟩),Sl.v 1 s2]) none fun l1=>oo (pu 60 l1) none fun v=>bb (RH v) (some (v,Ap)) none)) (SL h8 h7) (eE))) ?_
    refine .ghs (fr 93 [(1,Sl.v 1 s2),(6,(Cv n2 q2)),(11,(zI (Aj .i64 (Int.add z2 x2)))),(73,zI z3),(74,zI z4)]) Ap (.k0 [false] [] [1,6,11,73,74]) ?_
    refine .rK ?_
    exact⟨(s2,n2,q2,(Aj .i64 (Int.add z2 x2)),z3,(Aj .i64 (Int.add z4 (1:Int)))),hm,(.k0 [false] [] [1,6,11,73,74])⟩
   ·refine BB (AY z4 z3) h4 ?_
    refine .exit ?_
    exact⟨(n2,q2,z2),hm,(.k0 [false] [] [6,11])⟩
theorem r27 {call:A8} (pu:Af) (n:Nat) (hcall:call=Bb tabs isP pu (inl pu)) {args:LV} {v:Value} (hm:m27 pu n args=some v) (_:∀ x∈args,closed2 x=true):args.length≤93∧BN tt call 1 QO (Fr.made 93 args) (Ao tabs) (Fin tt 1 [.tmp 4,.tmp 5] v):=by
 subst hcall
 unfold m27 at hm
 replace hm:=Ad hm;obtain⟨a0,args_0,rfl,hm⟩:=hm
 replace hm:=Ad hm;obtain⟨a1,args_1,rfl,hm⟩:=hm
 replace hm:=AC hm;obtain⟨rfl,hm⟩:=hm
 replace hm:=BG hm;obtain⟨l0,rfl,hm⟩:=hm
 replace hm:=Ad hm;obtain⟨v0,l751_0,rfl,hm⟩:=hm
 replace hm:=Ad hm;obtain⟨v1,l751_1,rfl,hm⟩:=hm
 replace hm:=Ad hm;obtain⟨v2,l751_2,rfl,hm⟩:=hm
 replace hm:=Ad hm;obtain⟨v3,l751_3,rfl,hm⟩:=hm
 replace hm:=AC hm;obtain⟨rfl,hm⟩:=hm
 replace hm:=Ai hm;obtain⟨x0,rfl,hm⟩:=hm
 replace hm:=Ai hm;obtain⟨x1,rfl,hm⟩:=hm
 replace hm:=Ai hm;obtain⟨x2,rfl,hm⟩:=hm
 replace hm:=Al hm;obtain⟨s0,rfl,hm⟩:=hm
 replace hm:=Al hm;obtain⟨s1,rfl,hm⟩:=hm
 unfold Yz at hm
 refine⟨by simp,?_⟩
 refine .same (F':=(fr 93 [(0,(.agg ⟨[zI x0,zI x1,zI x2,Sl.v 1 s0]⟩)),(1,Sl.v 1 s1)])) (H':=Ap) (by kernel_rfl) (by kernel_rfl) ?_
 refine .then (.rK (.ghs (fr 93 [(1,Sl.v 1 s1),(2,pt 1 0)]) (hT 2 [(oC [zI x0,zI x1,zI x2,Sl.v 1 s0])]) (.k0 [false] [.tmp 2 false] [1,2]) ?_))
 refine .then ?_
 replace hm:=Ab hm;obtain⟨v4,h0,hm⟩:=hm
 replace hm:=Ch hm;obtain⟨l1,rfl,hm⟩:=hm
 replace hm:=Ad hm;obtain⟨v5,l780_0,rfl,hm⟩:=hm
 replace hm:=Ad hm;obtain⟨v6,l780_1,rfl,hm⟩:=hm
 replace hm:=AC hm;obtain⟨rfl,hm⟩:=hm
 replace hm:=Ag hm;rcases hm with⟨h1,hm⟩ | ⟨h1,hm⟩
 ·replace hm := Ab hm; obtain ⟨p0, h2, hm⟩ := hm
  obtain rfl:=F7 h2
  replace hm:=Ai hm;obtain⟨x3,rfl,hm⟩:=hm
  refine .reg (eC 1 ((oo (pu 55 [(.agg ⟨[zI x0,zI x1,zI x2,Sl.v 1 s0]⟩)]) none fun v=>some (v,(hT 2 [(oC [zI x0,zI x1,zI x2,Sl.v 1 s0])])))) (AB h0) (eE)) ?_
  refine .ghs (fr 93 [(1,Sl.v 1 s1),(6,(Cv (Db.off p0) (Db.cs p0))),(7,zI x3)]) Ap (.k0 [false] [] [1,6,7]) ?_
  refine .then (.block (.then (.rK (.ghs (fr 93 [(1,Sl.v 1 s1),(6,(Cv (Db.off p0) (Db.cs p0))),(7,zI x3),(18,(zB (nt (Bd x3 (0:Int)))))]) Ap (.k0 [false] [] [1,6,7,18]) ?_))))
  replace hm:=Ag hm;rcases hm with⟨h3,hm⟩ | ⟨h3,hm⟩
  ·refine Bq (nt (Bd x3 (0 : Int))) h3 ?_
   refine .then (.rK (.ghs (fr 93 [(4,(zI (0:Int))),(5,zI x3)]) Ap (.k0 [false] [] [4,5]) ?_))
   refine .ret ?_
   exact Ay (.tuple ⟨[(zI (0:Int)),zI x3]⟩) hm
  ·refine BB (nt (Bd x3 (0 : Int))) h3 ?_
   refine .then ?_
   replace hm:=oI hm;obtain⟨x4,h4,hm⟩:=hm
   refine .reg (eC 6 (keep Ap (AL (Db.cs p0) (((Db.off p0)+0)+2))) (AZ h4) (eE)) ?_
   refine .ghs (fr 93 [(1,Sl.v 1 s1),(6,(Cv (Db.off p0) (Db.cs p0))),(22,(zB (nt (Bd (Int.ofNat (Sl.n s1)) x4))))]) Ap (.k0 [false] [] [1,6,22]) ?_
   replace hm:=Ag hm;rcases hm with⟨h5,hm⟩ | ⟨h5,hm⟩
   ·refine Bq (nt (Bd (Int.ofNat (Sl.n s1)) x4)) h5 ?_
    refine .then (.rK (.ghs (fr 93 [(4,(zI (0:Int))),(5,(zI (5:Int)))]) Ap (.k0 [false] [] [4,5]) ?_))
    refine .ret ?_
    exact Ay (.tuple ⟨[(zI (0:Int)),(zI (5:Int))]⟩) hm
   ·refine BB (nt (Bd (Int.ofNat (Sl.n s1)) x4)) h5 ?_
    refine .skip (.ghs (fr 93 [(1,Sl.v 1 s1),(6,(Cv (Db.off p0) (Db.cs p0)))]) Ap (.k0 [false] [] [1,6]) ?_)
    refine .then (.rK (.ghs (fr 93 [(1,Sl.v 1 s1),(6,(Cv (Db.off p0) (Db.cs p0))),(8,(zI (0:Int)))]) Ap (.k0 [false] [] [1,6,8]) ?_))
    refine .join (v:=v) (fun y:Sl×Nat×LV×Int=>((fr 93 [(1,(Sl.v 1 y.1)),(6,(Cv y.2.1 y.2.2.1)),(8,(zI y.2.2.2))]),Ap)) (fun y=>Oy pu n y.1 y.2.1 y.2.2.1 y.2.2.2) ?_ ?_
    ·rintro ⟨s2, n0, q0, z0⟩ hm
     exact Afy pu n s2 n0 q0 z0 hm
    ·refine .then (.rK (.ghs (fr 93 [(1, Sl.v 1 s1), (6, (Cv (Db.off p0) (Db.cs p0))), (8, (zI (0 : Int))), (31, Sl.v 1 s1), (32, (zI (Int.ofNat (Sl.n s1)))), (33, (zI (0 : Int)))]) Ap (.k0 [false] [] [1, 6, 8, 31, 32, 33]) ?_))
     refine .block (.loopM (v:=v) (fun y:Sl×Nat×LV×Int×Sl×Int×Int=>((fr 93 [(1,(Sl.v 1 y.1)),(6,(Cv y.2.1 y.2.2.1)),(8,(zI y.2.2.2.1)),(31,(Sl.v 1 y.2.2.2.2.1)),(32,(zI y.2.2.2.2.2.1)),(33,(zI y.2.2.2.2.2.2))]),Ap)) (fun w y=>Ke pu n w y.1 y.2.1 y.2.2.1 y.2.2.2.1 y.2.2.2.2.1 y.2.2.2.2.2.1 y.2.2.2.2.2.2) n ⟨(s1,(Db.off p0),(Db.cs p0),(0:Int),s1,(Int.ofNat (Sl.n s1)),(0:Int)),hm,(.k0 [false] [] [1,6,8,31,32,33])⟩ (fun _=>rfl) ?_)
     rintro w0 ⟨s3,n1,q1,z1,s4,z2,z3⟩ hm
     replace hm:KV pu n (Ke pu n w0) s3 n1 q1 z1 s4 z2 z3=some v:=hm
     unfold KV at hm
     refine .then (.rK (.ghs (fr 93 [(1,Sl.v 1 s3),(6,(Cv n1 q1)),(8,zI z1),(31,Sl.v 1 s4),(32,zI z2),(33,zI z3),(34,(zB (AY z3 z2)))]) Ap (.k0 [false] [] [1,6,8,31,32,33,34]) ?_))
     refine .then ?_
     replace hm:=Ag hm;rcases hm with⟨h6,hm⟩ | ⟨h6,hm⟩
     ·refine Bq (AY z3 z2) h6 ?_
      refine .skip (.ghs (fr 93 [(1,Sl.v 1 s3),(6,(Cv n1 q1)),(8,zI z1),(31,Sl.v 1 s4),(32,zI z2),(33,zI z3)]) Ap (.k0 [false] [] [1,6,8,31,32,33]) ?_)
      refine .then (.block (.then ?_))
      replace hm:=Ab hm;obtain⟨k1,h7,hm⟩:=hm
      obtain rfl:=AR h7
      replace hm:=Ae hm;obtain⟨h8,hm⟩:=hm
      replace hm:=oI hm;obtain⟨x5,h9,hm⟩:=hm
      refine .reg (eD (keep Ap (bb (an (Nat.blt k1 (Sl.n s4)) true) (some (Cv (k1*1) (Sl.cs s4))) none)) (AX h8) (eD (keep Ap (AL (Sl.cs s4) (k1*1))) (AZ h9) (eE))) ?_
      refine .ghs (fr 93 [(1,Sl.v 1 s3),(6,(Cv n1 q1)),(8,zI z1),(10,zI x5),(31,Sl.v 1 s4),(32,zI z2),(33,(zI (Int.ofNat k1)))]) Ap (.k0 [false] [] [1,6,8,10,31,32,33]) ?_
      refine .then (.then ?_)
      replace hm:=oI hm;obtain⟨x6,h10,hm⟩:=hm
      replace hm:=oI hm;obtain⟨x7,h11,hm⟩:=hm
      replace hm:=oB hm;obtain⟨b0,h12,hm⟩:=hm
      refine .reg (eC 5 (keep Ap (AL q1 ((n1+0)+0))) (AZ h10) (eC 4 (keep Ap (AL q1 ((n1+0)+1))) (AZ h11) (eC 1 ((oo (pu 59 [(zI (0:Int)),zI x5,(zI (Aj .i64 (Int.mul x6 x7)))]) none fun v=>some (v,Ap))) (AB h12) (eE)))) ?_
      refine .ghs (fr 93 [(1,Sl.v 1 s3),(6,(Cv n1 q1)),(8,zI z1),(10,zI x5),(31,Sl.v 1 s4),(32,zI z2),(33,(zI (Int.ofNat k1))),(50,(zB (nt b0)))]) Ap (.k0 [false] [] [1,6,8,10,31,32,33,50]) ?_
      replace hm:=Ag hm;rcases hm with⟨h13,hm⟩ | ⟨h13,hm⟩
      ·refine Bq (nt b0) h13 ?_
       refine .then (.rK (.ghs (fr 93 [(4,(zI (0:Int))),(5,(zI (1:Int)))]) Ap (.k0 [false] [] [4,5]) ?_))
       refine .ret ?_
       exact Ay (.tuple ⟨[(zI (0:Int)),(zI (1:Int))]⟩) hm
      ·refine BB (nt b0) h13 ?_
       refine .skip (.ghs (fr 93 [(1,Sl.v 1 s3),(6,(Cv n1 q1)),(8,zI z1),(10,zI x5),(31,Sl.v 1 s4),(32,zI z2),(33,(zI (Int.ofNat k1)))]) Ap (.k0 [false] [] [1,6,8,10,31,32,33]) ?_)
       refine .rK (.ghs (fr 93 [(1,Sl.v 1 s3),(6,(Cv n1 q1)),(8,(zI (Aj .i64 (Int.add z1 x5)))),(31,Sl.v 1 s4),(32,zI z2),(33,(zI (Int.ofNat k1)))]) Ap (.k0 [false] [] [1,6,8,31,32,33]) ?_)
       refine .rK ?_
       exact⟨(s3,n1,q1,(Aj .i64 (Int.add z1 x5)),s4,z2,(Aj .i64 (Int.add (Int.ofNat k1) (1:Int)))),hm,(.k0 [false] [] [1,6,8,31,32,33])⟩
     ·refine BB (AY z3 z2) h6 ?_
      refine .exit ?_
      exact⟨(s3,n1,q1,z1),hm,(.k0 [false] [] [1,6,8])⟩
 ·replace hm := Ae hm; obtain ⟨h14, hm⟩ := hm
  obtain rfl:=MS h14
  replace hm:=Ai hm;obtain⟨x8,rfl,hm⟩:=hm
  refine .reg (eC 1 ((oo (pu 55 [(.agg ⟨[zI x0,zI x1,zI x2,Sl.v 1 s0]⟩)]) none fun v=>some (v,(hT 2 [(oC [zI x0,zI x1,zI x2,Sl.v 1 s0])])))) (AB h0) (eE)) ?_
  refine .ghs (fr 93 [(1,Sl.v 1 s1),(6,(.pointer none)),(7,zI x8)]) Ap (.k0 [false] [] [1,6,7]) ?_
  refine .then (.block (.then (.rK (.ghs (fr 93 [(1,Sl.v 1 s1),(6,(.pointer none)),(7,zI x8),(18,(zB (nt (Bd x8 (0:Int)))))]) Ap (.k0 [false] [] [1,6,7,18]) ?_))))
  replace hm:=Ag hm;rcases hm with⟨h15,hm⟩ | ⟨h15,hm⟩
  ·refine Bq (nt (Bd x8 (0 : Int))) h15 ?_
   refine .then (.rK (.ghs (fr 93 [(4,(zI (0:Int))),(5,zI x8)]) Ap (.k0 [false] [] [4,5]) ?_))
   refine .ret ?_
   exact Ay (.tuple ⟨[(zI (0:Int)),zI x8]⟩) hm
  ·refine BB (nt (Bd x8 (0 : Int))) h15 ?_
   refine .then ?_
   cases hm
def Ud (pu:Af) (n:Nat) (z0 z1 z2 z3:Int) (s0:Sl):OV:=
 (bb (nt (Bd (Int.ofNat (Sl.n s0)) (0:Int))) (some (.tuple ⟨[(.int .i64 (Aj .i64 (Int.tdiv z0 (Int.ofNat (Sl.n s0))))),(.int .i64 (0:Int))]⟩)) none)
def PQ (pu:Af) (n:Nat) (ih0:Sl→Int→Int→Int→Int→Int→Sl→OV) (s0:Sl) (z0 z1 z2 z3 z4:Int) (s1:Sl):OV:=
 (ih0 s0 z0 (Aj .i64 (Int.add z1 (1:Int))) z2 z3 z4 s1)
def Oz (pu:Af) (n:Nat) (ih0:Sl→Int→Int→Int→Int→Int→Sl→OV) (s0:Sl) (z0 z1 z2 z3 z4:Int) (s1:Sl):OV:=
 (bb (AY z1 (Int.ofNat (Sl.n s1))) (oo (EA z1) none fun k1=>(bb (an (Nat.blt k1 (Sl.n s1)) true) (oo (AL (Sl.cs s1) (k1*1)) none fun v0=>(oo (Bi .i64 v0) none fun x0=>(bb (nt (Bd x0 (0:Int))) (bb (an (Nat.blt k1 (Sl.n s1)) true) (oo (AL (Sl.cs s1) (k1*1)) none fun v1=>(oo (Bi .i64 v1) none fun x1=>(oo (pu 58 [(.agg ⟨[.int .i64 z2,.int .i64 z3,.int .i64 z4,Sl.v 1 s1]⟩),.int .i64 x1]) none fun v2=>(oo (Bj 1 v2) none fun s2=>(bb (Nat.beq (Sl.n s0) 0) (bb (Dp (Nat.ble 2 1) (MQ ([]:LV))) (bb (Au Ah ([]:LV)) (oo (pu 10640 [Sl.v 1 s2,(.slice (some ⟨1,0,some 1⟩) 0 1),(.agg ⟨([]:LV)⟩)]) none fun v3=>(oo (CQ v3) none fun l0=>(ll l0 none fun v4 l0=>(ll l0 none fun v5 l0=>(ll l0 (oo (Bi .i64 v4) none fun x2=>(oo (Bt v5) none fun q0=>(bb (Au Ah q0) (PQ pu n ih0 s0 (Aj .i64 (Int.add z0 x2)) (Int.ofNat k1) z2 z3 z4 s1) none))) fun _ _=>none))))) none) none) (bb (EQ (0+(Sl.n s0)) 8) (bb (Dp (Nat.ble 2 (2*(0+(Sl.n s0))+bb false 1 0)) (MQ (Aq ((Sl.n s0)*1) (Sl.cs s0)))) (bb (Au Ah (Aq ((Sl.n s0)*1) (Sl.cs s0))) (oo (pu 10640 [Sl.v 1 s2,(.slice (some ⟨1,0,some 1⟩) (0+(Sl.n s0)) (2*(0+(Sl.n s0))+bb false 1 0)),(.agg ⟨(Aq ((Sl.n s0)*1) (Sl.cs s0))⟩)]) none fun v6=>(oo (CQ v6) none fun l1=>(ll l1 none fun v5 l1=>(ll l1 none fun v7 l1=>(ll l1 (oo (Bi .i64 v5) none fun x3=>(oo (Bt v7) none fun q1=>(bb (Au Ah q1) (PQ pu n ih0 s0 (Aj .i64 (Int.add z0 x3)) (Int.ofNat k1) z2 z3 z4 s1) none))) fun _ _=>none))))) none) none) none)))))) none) (PQ pu n ih0 s0 z0 (Int.ofNat k1) z2 z3 z4 s1)))) none)) (Ud pu n z0 z2 z3 z4 s1))
def OA (pu:Af) (n w:Nat):Sl→Int→Int→Int→Int→Int→Sl→OV:=
 Nat.rec (motive:=fun _=>Sl→Int→Int→Int→Int→Int→Sl→OV) (fun _ _ _ _ _ _ _=>none) (fun _ ih0=>Oz pu n ih0) w
def OB (pu:Af) (n:Nat) (s0:Sl) (z0 z1 z2 z3:Int) (s1:Sl):OV:=
 (OA pu n n s0 z0 (0:Int) z1 z2 z3 s1)
def OC (pu:Af) (n:Nat) (ih0:Sl→Int→Int→Int→Int→Int→Int→Sl→OV) (s0:Sl) (z0 z1 z2 z3 z4 z5:Int) (s1:Sl):OV:=
 (bb (AY z2 (Int.ofNat (Sl.n s0))) (oo (EA z2) none fun k1=>(bb (an (Nat.blt k1 (Sl.n s0)) true) (oo (AL (Sl.cs s0) (k1*1)) none fun v0=>(oo (Bi .i64 v0) none fun x0=>(oo (pu 63 [.int .i64 z1,.int .i64 x0]) none fun v1=>(oo (Bi .i64 v1) none fun x1=>(bb (an (Nat.blt k1 (Sl.n s0)) true) (oo (AL (Sl.cs s0) (k1*1)) none fun v2=>(oo (Bi .i64 v2) none fun x2=>(ih0 s0 (Aj .i64 (Int.mul z0 x1)) (Aj .i64 (Int.sub z1 x2)) (Aj .i64 (Int.add (Int.ofNat k1) (1:Int))) z3 z4 z5 s1))) none))))) none)) (OB pu n s0 z0 z3 z4 z5 s1))
def OD (pu:Af) (n w:Nat):Sl→Int→Int→Int→Int→Int→Int→Sl→OV:=
 Nat.rec (motive:=fun _=>Sl→Int→Int→Int→Int→Int→Int→Sl→OV) (fun _ _ _ _ _ _ _ _=>none) (fun _ ih0=>OC pu n ih0) w
def OE (pu:Af) (n:Nat) (s0:Sl) (z0 z1 z2 z3 z4:Int) (s1:Sl):OV:=
 (bb (nt (Bd z0 (0:Int))) (some (.tuple ⟨[(.int .i64 (0:Int)),.int .i64 z0]⟩)) (OD pu n n s0 (1:Int) z1 (0:Int) z2 z3 z4 s1))
def Qp (pu:Af) (n:Nat) (s0:Sl) (z0 z1:Int) (b0:Bool) (z2 z3 z4:Int) (s1:Sl):OV:=
 (bb b0 (OE pu n s0 (17:Int) z1 z2 z3 z4 s1) (OE pu n s0 z0 z1 z2 z3 z4 s1))
def MG (pu:Af) (n:Nat) (s0:Sl) (z0 z1 z2 z3 z4 z5:Int) (s1:Sl):OV:=
 (bb (Bd z0 (0:Int)) (Qp pu n s0 z0 z2 (nt (Bd z1 z2)) z3 z4 z5 s1) (Qp pu n s0 z0 z2 false z3 z4 z5 s1))
def K6 (pu:Af) (n:Nat) (ih0:Sl→Int→Int→Int→Int→Int→Int→Int→Sl→OV) (s0:Sl) (z0 z1 z2 z3 z4 z5 z6:Int) (s1:Sl):OV:=
 (oo (EA z3) none fun k1=>(bb (an (Nat.blt k1 (Sl.n s0)) true) (oo (AL (Sl.cs s0) (k1*1)) none fun v0=>(oo (Bi .i64 v0) none fun x0=>(ih0 s0 z0 (Aj .i64 (Int.add z1 x0)) z2 (Aj .i64 (Int.add (Int.ofNat k1) (1:Int))) z4 z5 z6 s1))) none))
def Jd (pu:Af) (n:Nat) (ih0:Sl→Int→Int→Int→Int→Int→Int→Int→Sl→OV) (s0:Sl) (z0 z1 z2 z3:Int) (b0:Bool) (z4 z5 z6:Int) (s1:Sl):OV:=
 (bb b0 (oo (EA z3) none fun k1=>(bb (an (Nat.blt k1 (Sl.n s0)) true) (oo (AL (Sl.cs s0) (k1*1)) none fun v0=>(oo (Bi .i64 v0) none fun x0=>(oo (pu 62 [.int .i64 x0,(.int .i64 (0:Int)),.int .i64 z2]) none fun v1=>(oo (Bf v1) none fun b1=>(bb (nt b1) (K6 pu n ih0 s0 (1:Int) z1 z2 (Int.ofNat k1) z4 z5 z6 s1) (K6 pu n ih0 s0 z0 z1 z2 (Int.ofNat k1) z4 z5 z6 s1)))))) none)) (MG pu n s0 z0 z1 z2 z4 z5 z6 s1))
def Je (pu:Af) (n:Nat) (ih0:Sl→Int→Int→Int→Int→Int→Int→Int→Sl→OV) (s0:Sl) (z0 z1 z2 z3 z4 z5 z6:Int) (s1:Sl):OV:=
 (bb (AY z3 (Int.ofNat (Sl.n s0))) (Jd pu n ih0 s0 z0 z1 z2 z3 (Bd z0 (0:Int)) z4 z5 z6 s1) (Jd pu n ih0 s0 z0 z1 z2 z3 false z4 z5 z6 s1))
def Gu (pu:Af) (n w:Nat):Sl→Int→Int→Int→Int→Int→Int→Int→Sl→OV:=
 Nat.rec (motive:=fun _=>Sl→Int→Int→Int→Int→Int→Int→Int→Sl→OV) (fun _ _ _ _ _ _ _ _ _=>none) (fun _ ih0=>Je pu n ih0) w
def OG (pu:Af) (n:Nat) (s0:Sl) (z0 z1 z2 z3:Int) (s1:Sl):OV:=
 (Gu pu n n s0 z0 (0:Int) (Aj .i64 (Int.mul z1 z2)) (0:Int) z1 z2 z3 s1)
def K7 (pu:Af) (n:Nat) (s0:Sl) (z0:Int) (b0:Bool) (z1 z2 z3:Int) (s1:Sl):OV:=
 (bb b0 (OG pu n s0 (5:Int) z1 z2 z3 s1) (OG pu n s0 z0 z1 z2 z3 s1))
def YA (pu:Af) (n:Nat) (x0 x1 x2:Int) (s0 s1:Sl):OV:=
 (oo (pu 36 [(.agg ⟨[.int .i64 x0,.int .i64 x1,.int .i64 x2,Sl.v 1 s0]⟩)]) none fun v0=>(oo (Bi .i64 v0) none fun x3=>(bb (Bd x3 (0:Int)) (K7 pu n s1 x3 (nt (Bd (Int.ofNat (Sl.n s1)) x2)) x0 x1 x2 s0) (K7 pu n s1 x3 false x0 x1 x2 s0))))
def m28 (pu:Af) (n:Nat) (args:LV):OV:=
 (ll args none fun a0 args=>(ll args none fun a1 args=>(ll args (oo (Bt a0) none fun l0=>(ll l0 none fun v0 l0=>(ll l0 none fun v1 l0=>(ll l0 none fun v2 l0=>(ll l0 none fun v3 l0=>(ll l0 (oo (Bi .i64 v0) none fun x0=>(oo (Bi .i64 v1) none fun x1=>(oo (Bi .i64 v2) none fun x2=>(oo (Bj 1 v3) none fun s0=>(oo (Bj 1 a1) none fun s1=>(YA pu n x0 x1 x2 s0 s1)))))) fun _ _=>none)))))) fun _ _=>none)))
theorem Afz (pu:Af) (n:Nat) (z0 z1 z2 z3:Int) (s0:Sl) {v:Value} (hm:Ud pu n z0 z1 z2 z3 s0=some v):BN tt (Bb tabs isP pu (inl pu)) 1 bL (fr 115 [(2,pt 1 0),(10,zI z0)]) (hT 2 [(oC [zI z1,zI z2,zI z3,Sl.v 1 s0])]) (Fin tt 1 [.tmp 4,.tmp 5] v):=by
 unfold Ud at hm
 refine .then ?_
 replace hm:=Ae hm;obtain⟨h0,hm⟩:=hm
 refine .reg (eC 4 (keep (hT 2 [(oC [zI z1,zI z2,zI z3,Sl.v 1 s0])]) (bb (Bd (Int.ofNat (Sl.n s0)) (0:Int)) none (some (zI (Aj .i64 (Int.tdiv z0 (Int.ofNat (Sl.n s0)))))))) (XH h0) (eE)) ?_
 refine .ghs (fr 115 [(4,(zI (Aj .i64 (Int.tdiv z0 (Int.ofNat (Sl.n s0)))))),(5,(zI (0:Int)))]) Ap (.k0 [false] [] [4,5]) ?_
 refine .ret ?_
 exact Ay (.tuple ⟨[(zI (Aj .i64 (Int.tdiv z0 (Int.ofNat (Sl.n s0))))),(zI (0:Int))]⟩) hm
theorem AfA (pu:Af) (n:Nat) (s0:Sl) (z0 z1 z2 z3:Int) (s1:Sl) {v:Value} (hm:OB pu n s0 z0 z1 z2 z3 s1=some v):BN tt (Bb tabs isP pu (inl pu)) 1 bM (fr 115 [(1,Sl.v 1 s0),(2,pt 1 0),(10,zI z0)]) (hT 2 [(oC [zI z1,zI z2,zI z3,Sl.v 1 s1])]) (Fin tt 1 [.tmp 4,.tmp 5] v):=by
 unfold OB at hm
 refine .join (v:=v) (fun y:Int×Int×Int×Int×Sl=>((fr 115 [(2,pt 1 0),(10,(zI y.1))]),(hT 2 [(oC [(zI y.2.1),(zI y.2.2.1),(zI y.2.2.2.1),(Sl.v 1 y.2.2.2.2)])]))) (fun y=>Ud pu n y.1 y.2.1 y.2.2.1 y.2.2.2.1 y.2.2.2.2) ?_ ?_
 ·rintro ⟨z4, z5, z6, z7, s2⟩ hm
  exact Afz pu n z4 z5 z6 z7 s2 hm
 ·refine .then (.rK (.ghs (fr 115 [(1, Sl.v 1 s0), (2, pt 1 0), (10, zI z0), (13, (zI (0 : Int)))]) (hT 2 [(oC [zI z1, zI z2, zI z3, Sl.v 1 s1])]) (.k0 [false] [.tmp 2 false] [1, 2, 10, 13]) ?_))
  refine .block (.loopM (v:=v) (fun y:Sl×Int×Int×Int×Int×Int×Sl=>((fr 115 [(1,(Sl.v 1 y.1)),(2,pt 1 0),(10,(zI y.2.1)),(13,(zI y.2.2.1))]),(hT 2 [(oC [(zI y.2.2.2.1),(zI y.2.2.2.2.1),(zI y.2.2.2.2.2.1),(Sl.v 1 y.2.2.2.2.2.2)])]))) (fun w y=>OA pu n w y.1 y.2.1 y.2.2.1 y.2.2.2.1 y.2.2.2.2.1 y.2.2.2.2.2.1 y.2.2.2.2.2.2) n ⟨(s0,z0,(0:Int),z1,z2,z3,s1),hm,(.k0 [false] [.tmp 2 false] [1,2,10,13])⟩ (fun _=>rfl) ?_)
  rintro w0 ⟨s3,z8,z9,z10,z11,z12,s4⟩ hm
  replace hm:Oz pu n (OA pu n w0) s3 z8 z9 z10 z11 z12 s4=some v:=hm
  unfold Oz at hm
  refine .then (.then (.rK (.ghs (fr 115 [(1,Sl.v 1 s3),(2,pt 1 0),(10,zI z8),(13,zI z9),(88,(zB (AY z9 (Int.ofNat (Sl.n s4)))))]) (hT 2 [(oC [zI z10,zI z11,zI z12,Sl.v 1 s4])]) (.k0 [false] [.tmp 2 false] [1,2,10,13,88]) ?_)))
  replace hm:=Ag hm;rcases hm with⟨h0,hm⟩ | ⟨h0,hm⟩
  ·refine Bq (AY z9 (Int.ofNat (Sl.n s4))) h0 ?_
   refine .skip (.ghs (fr 115 [(1,Sl.v 1 s3),(2,pt 1 0),(10,zI z8),(13,zI z9)]) (hT 2 [(oC [zI z10,zI z11,zI z12,Sl.v 1 s4])]) (.k0 [false] [.tmp 2 false] [1,2,10,13]) ?_)
   refine .join (v:=v) (fun y:Sl×Int×Int×Int×Int×Int×Sl=>((fr 115 [(1,(Sl.v 1 y.1)),(2,pt 1 0),(10,(zI y.2.1)),(13,(zI y.2.2.1))]),(hT 2 [(oC [(zI y.2.2.2.1),(zI y.2.2.2.2.1),(zI y.2.2.2.2.2.1),(Sl.v 1 y.2.2.2.2.2.2)])]))) (fun y=>PQ pu n (OA pu n w0) y.1 y.2.1 y.2.2.1 y.2.2.2.1 y.2.2.2.2.1 y.2.2.2.2.2.1 y.2.2.2.2.2.2) ?_ ?_
   ·rintro ⟨s5, z13, z14, z15, z16, z17, s6⟩ hm
    unfold PQ at hm
    refine .rK ?_
    exact⟨(s5,z13,(Aj .i64 (Int.add z14 (1:Int))),z15,z16,z17,s6),hm,(.k0 [false] [.tmp 2 false] [1,2,10,13])⟩
   ·refine .block (.then ?_)
    replace hm:=Ab hm;obtain⟨k1,h1,hm⟩:=hm
    obtain rfl:=AR h1
    replace hm:=Ae hm;obtain⟨h2,hm⟩:=hm
    replace hm:=oI hm;obtain⟨x0,h3,hm⟩:=hm
    refine .reg (eC 3 (keep (hT 2 [(oC [zI z10,zI z11,zI z12,Sl.v 1 s4])]) (bb (an (Nat.blt k1 (Sl.n s4)) true) (some (Cv (k1*1) (Sl.cs s4))) none)) (AX h2) (eD (keep (hT 2 [(oC [zI z10,zI z11,zI z12,Sl.v 1 s4])]) (AL (Sl.cs s4) (k1*1))) (AZ h3) (eE))) ?_
    refine .ghs (fr 115 [(1,Sl.v 1 s3),(2,pt 1 0),(10,zI z8),(13,(zI (Int.ofNat k1))),(96,(zB (nt (Bd x0 (0:Int)))))]) (hT 2 [(oC [zI z10,zI z11,zI z12,Sl.v 1 s4])]) (.k0 [false] [.tmp 2 false] [1,2,10,13,96]) ?_
    replace hm:=Ag hm;rcases hm with⟨h4,hm⟩ | ⟨h4,hm⟩
    ·refine Bq (nt (Bd x0 (0 : Int))) h4 ?_
     replace hm:=Ae hm;obtain⟨h5,hm⟩:=hm
     replace hm:=oI hm;obtain⟨x1,h6,hm⟩:=hm
     replace hm:=oS hm;obtain⟨s7,h7,hm⟩:=hm
     replace hm:=Ag hm;rcases hm with⟨h8,hm⟩ | ⟨h8,hm⟩
     ·replace hm := Ae hm; obtain ⟨h9, hm⟩ := hm
      replace hm:=Ae hm;obtain⟨h10,hm⟩:=hm
      replace hm:=Ab hm;obtain⟨v0,h11,hm⟩:=hm
      replace hm:=Ch hm;obtain⟨l0,rfl,hm⟩:=hm
      replace hm:=Ad hm;obtain⟨v1,l3271_0,rfl,hm⟩:=hm
      replace hm:=Ad hm;obtain⟨v2,l3271_1,rfl,hm⟩:=hm
      replace hm:=AC hm;obtain⟨rfl,hm⟩:=hm
      replace hm:=Ai hm;obtain⟨x2,rfl,hm⟩:=hm
      replace hm:=BG hm;obtain⟨q0,rfl,hm⟩:=hm
      replace hm:=Ae hm;obtain⟨h12,hm⟩:=hm
      refine .reg (eC 5 (keep (hT 2 [(oC [zI z10,zI z11,zI z12,Sl.v 1 s4])]) (bb (an (Nat.blt k1 (Sl.n s4)) true) (some (Cv (k1*1) (Sl.cs s4))) none)) (AX h5) (eD (keep (hT 2 [(oC [zI z10,zI z11,zI z12,Sl.v 1 s4])]) (AL (Sl.cs s4) (k1*1))) (AZ h6) (eC 2 ((oo (pu 58 [(.agg ⟨[zI z10,zI z11,zI z12,Sl.v 1 s4]⟩),zI x1]) none fun v=>some (v,(hT 3 [(oC [zI z10,zI z11,zI z12,Sl.v 1 s4]),(oC [])])))) (AB h7) (eD (Ql (hT 3 [(oC [zI z10,zI z11,zI z12,Sl.v 1 s4]),(oC [])]) 1 8 (sc 2 0 1 0 1) s3) (Ze h8) (eD (Gn tabs [[some 1],[none]] 2 [.tmp 1 false] [false] (pu 10640) [Sl.v 1 s7,sc 2 0 1 0 1] (hT 3 [(oC [zI z10,zI z11,zI z12,Sl.v 1 s4]),(oC [])])) (FY (as:=[Sl.v 1 s7,sc 2 0 1 0 1]) (H1:=(hT 3 [(oC [zI z10,zI z11,zI z12,Sl.v 1 s4]),(oC ([]:LV))])) (CK (DR (Oi (CV (z:=1) (v:=(Sl.v 1 s7)) (H:=(hT 3 [(oC [zI z10,zI z11,zI z12,Sl.v 1 s4]),(oC ([]:LV))])) (by kernel_rfl) (by kernel_rfl) (by kernel_rfl)))) (CK (DR Ey) Iz)) (FX (H2:=(hT 3 [(oC [zI z10,zI z11,zI z12,Sl.v 1 s4]),oC q0])) (v:=(zI x2)) (v':=(zI x2)) [some 0,some 2] [(false,some 2)] [(oC ([]:LV))] [Sl.v 1 s7,sc 1 0 1 0 1] [(.agg ⟨q0⟩)] [oC q0] [some 0,none,some 1] [(false,oC q0)] [oC q0] (trE (by kernel_rfl) (dX h9 rfl)) (Cz (KT (anc:=[]) h10) C8) (Eq.trans (by kernel_rfl) h11) (Cz rfl C8) (Cz (JN h12) C8))) (eE)))))) ?_
      exact⟨(s3,(Aj .i64 (Int.add z8 x2)),(Int.ofNat k1),z10,z11,z12,s4),hm,(.k0 [false] [.tmp 2 false] [1,2,10,13])⟩
     ·replace hm := Ae hm; obtain ⟨h13, hm⟩ := hm
      replace hm:=Ae hm;obtain⟨h10,hm⟩:=hm
      replace hm:=Ae hm;obtain⟨h14,hm⟩:=hm
      replace hm:=Ab hm;obtain⟨v3,h15,hm⟩:=hm
      replace hm:=Ch hm;obtain⟨l1,rfl,hm⟩:=hm
      replace hm:=Ad hm;obtain⟨v2,l3272_0,rfl,hm⟩:=hm
      replace hm:=Ad hm;obtain⟨v4,l3272_1,rfl,hm⟩:=hm
      replace hm:=AC hm;obtain⟨rfl,hm⟩:=hm
      replace hm:=Ai hm;obtain⟨x3,rfl,hm⟩:=hm
      replace hm:=BG hm;obtain⟨q1,rfl,hm⟩:=hm
      replace hm:=Ae hm;obtain⟨h16,hm⟩:=hm
      refine .reg (eC 5 (keep (hT 2 [(oC [zI z10,zI z11,zI z12,Sl.v 1 s4])]) (bb (an (Nat.blt k1 (Sl.n s4)) true) (some (Cv (k1*1) (Sl.cs s4))) none)) (AX h5) (eD (keep (hT 2 [(oC [zI z10,zI z11,zI z12,Sl.v 1 s4])]) (AL (Sl.cs s4) (k1*1))) (AZ h6) (eC 2 ((oo (pu 58 [(.agg ⟨[zI z10,zI z11,zI z12,Sl.v 1 s4]⟩),zI x1]) none fun v=>some (v,(hT 3 [(oC [zI z10,zI z11,zI z12,Sl.v 1 s4]),(oC [])])))) (AB h7) (eD (Ql (hT 3 [(oC [zI z10,zI z11,zI z12,Sl.v 1 s4]),(oC [])]) 1 8 (sc 2 0 1 0 1) s3) (Zf h8 h13 (by kernel_rfl)) (eD (Gn tabs [[some 1],[none]] 2 [.tmp 1 false] [false] (pu 10640) [Sl.v 1 s7,(sc 3 0 1 (0+(Sl.n s3)) (d2 (0+(Sl.n s3))))] (hT 4 [(oC [zI z10,zI z11,zI z12,Sl.v 1 s4]),(oC []),(oC (Aq ((Sl.n s3)*1) (Sl.cs s3)))])) (FY (as:=[Sl.v 1 s7,(sc 3 0 1 (0+(Sl.n s3)) (d2 (0+(Sl.n s3))))]) (H1:=(hT 4 [(oC [zI z10,zI z11,zI z12,Sl.v 1 s4]),(oC []),(oC (Aq ((Sl.n s3)*1) (Sl.cs s3)))])) (CK (DR (Oi (CV (z:=1) (v:=(Sl.v 1 s7)) (H:=(hT 4 [(oC [zI z10,zI z11,zI z12,Sl.v 1 s4]),(oC []),(oC (Aq ((Sl.n s3)*1) (Sl.cs s3)))])) (by kernel_rfl) (by kernel_rfl) (by kernel_rfl)))) (CK (DR Ey) Iz)) (FX (H2:=(hT 4 [(oC [zI z10,zI z11,zI z12,Sl.v 1 s4]),(oC []),oC q1])) (v:=(zI x3)) (v':=(zI x3)) [some 0,some 3] [(false,some 3)] [(oC (Aq ((Sl.n s3)*1) (Sl.cs s3)))] [Sl.v 1 s7,(sc 1 0 1 (0+(Sl.n s3)) (d2 (0+(Sl.n s3))))] [(.agg ⟨q1⟩)] [oC q1] [some 0,none,none,some 1] [(false,oC q1)] [oC q1] (trE (by kernel_rfl) (dX h10 rfl)) (Cz (KT (anc:=[]) h14) C8) (Eq.trans (by kernel_rfl) h15) (Cz rfl C8) (Cz (JN h16) C8))) (eE)))))) ?_
      exact⟨(s3,(Aj .i64 (Int.add z8 x3)),(Int.ofNat k1),z10,z11,z12,s4),hm,(.k0 [false] [.tmp 2 false] [1,2,10,13])⟩
    ·refine BB (nt (Bd x0 (0 : Int))) h4 ?_
     refine .skip ?_
     exact⟨(s3,z8,(Int.ofNat k1),z10,z11,z12,s4),hm,(.k0 [false] [.tmp 2 false] [1,2,10,13])⟩
  ·refine BB (AY z9 (Int.ofNat (Sl.n s4))) h0 ?_
   refine .exit ?_
   exact⟨(z8,z10,z11,z12,s4),hm,(.k0 [false] [.tmp 2 false] [2,10])⟩
theorem AfB (pu:Af) (n:Nat) (s0:Sl) (z0 z1 z2 z3 z4:Int) (s1:Sl) {v:Value} (hm:OE pu n s0 z0 z1 z2 z3 z4 s1=some v):BN tt (Bb tabs isP pu (inl pu)) 1 bN (fr 115 [(1,Sl.v 1 s0),(2,pt 1 0),(6,zI z0),(8,zI z1)]) (hT 2 [(oC [zI z2,zI z3,zI z4,Sl.v 1 s1])]) (Fin tt 1 [.tmp 4,.tmp 5] v):=by
 unfold OE at hm
 refine .then (.then (.rK (.ghs (fr 115 [(1,Sl.v 1 s0),(2,pt 1 0),(6,zI z0),(8,zI z1),(61,(zB (nt (Bd z0 (0:Int)))))]) (hT 2 [(oC [zI z2,zI z3,zI z4,Sl.v 1 s1])]) (.k0 [false] [.tmp 2 false] [1,2,6,8,61]) ?_)))
 replace hm:=Ag hm;rcases hm with⟨h0,hm⟩ | ⟨h0,hm⟩
 ·refine Bq (nt (Bd z0 (0 : Int))) h0 ?_
  refine .then (.rK (.ghs (fr 115 [(4,(zI (0:Int))),(5,zI z0)]) Ap (.k0 [false] [] [4,5]) ?_))
  refine .ret ?_
  exact Ay (.tuple ⟨[(zI (0:Int)),zI z0]⟩) hm
 ·refine BB (nt (Bd z0 (0 : Int))) h0 ?_
  refine .skip (.ghs (fr 115 [(1,Sl.v 1 s0),(2,pt 1 0),(8,zI z1)]) (hT 2 [(oC [zI z2,zI z3,zI z4,Sl.v 1 s1])]) (.k0 [false] [.tmp 2 false] [1,2,8]) ?_)
  refine .then (.rK (.ghs (fr 115 [(1,Sl.v 1 s0),(2,pt 1 0),(10,(zI (1:Int))),(11,zI z1)]) (hT 2 [(oC [zI z2,zI z3,zI z4,Sl.v 1 s1])]) (.k0 [false] [.tmp 2 false] [1,2,10,11]) ?_))
  refine .join (v:=v) (fun y:Sl×Int×Int×Int×Int×Sl=>((fr 115 [(1,(Sl.v 1 y.1)),(2,pt 1 0),(10,(zI y.2.1))]),(hT 2 [(oC [(zI y.2.2.1),(zI y.2.2.2.1),(zI y.2.2.2.2.1),(Sl.v 1 y.2.2.2.2.2)])]))) (fun y=>OB pu n y.1 y.2.1 y.2.2.1 y.2.2.2.1 y.2.2.2.2.1 y.2.2.2.2.2) ?_ ?_
  ·rintro ⟨s2, z5, z6, z7, z8, s3⟩ hm
   exact AfA pu n s2 z5 z6 z7 z8 s3 hm
  ·refine .then (.rK (.ghs (fr 115 [(1, Sl.v 1 s0), (2, pt 1 0), (10, (zI (1 : Int))), (11, zI z1), (12, (zI (0 : Int)))]) (hT 2 [(oC [zI z2, zI z3, zI z4, Sl.v 1 s1])]) (.k0 [false] [.tmp 2 false] [1, 2, 10, 11, 12]) ?_))
   refine .block (.loopM (v:=v) (fun y:Sl×Int×Int×Int×Int×Int×Int×Sl=>((fr 115 [(1,(Sl.v 1 y.1)),(2,pt 1 0),(10,(zI y.2.1)),(11,(zI y.2.2.1)),(12,(zI y.2.2.2.1))]),(hT 2 [(oC [(zI y.2.2.2.2.1),(zI y.2.2.2.2.2.1),(zI y.2.2.2.2.2.2.1),(Sl.v 1 y.2.2.2.2.2.2.2)])]))) (fun w y=>OD pu n w y.1 y.2.1 y.2.2.1 y.2.2.2.1 y.2.2.2.2.1 y.2.2.2.2.2.1 y.2.2.2.2.2.2.1 y.2.2.2.2.2.2.2) n ⟨(s0,(1:Int),z1,(0:Int),z2,z3,z4,s1),hm,(.k0 [false] [.tmp 2 false] [1,2,10,11,12])⟩ (fun _=>rfl) ?_)
   rintro w0 ⟨s4,z9,z10,z11,z12,z13,z14,s5⟩ hm
   replace hm:OC pu n (OD pu n w0) s4 z9 z10 z11 z12 z13 z14 s5=some v:=hm
   unfold OC at hm
   refine .then (.then (.rK (.ghs (fr 115 [(1,Sl.v 1 s4),(2,pt 1 0),(10,zI z9),(11,zI z10),(12,zI z11),(67,(zB (AY z11 (Int.ofNat (Sl.n s4)))))]) (hT 2 [(oC [zI z12,zI z13,zI z14,Sl.v 1 s5])]) (.k0 [false] [.tmp 2 false] [1,2,10,11,12,67]) ?_)))
   replace hm:=Ag hm;rcases hm with⟨h1,hm⟩ | ⟨h1,hm⟩
   ·refine Bq (AY z11 (Int.ofNat (Sl.n s4))) h1 ?_
    refine .skip (.ghs (fr 115 [(1,Sl.v 1 s4),(2,pt 1 0),(10,zI z9),(11,zI z10),(12,zI z11)]) (hT 2 [(oC [zI z12,zI z13,zI z14,Sl.v 1 s5])]) (.k0 [false] [.tmp 2 false] [1,2,10,11,12]) ?_)
    refine .then (.block (.then ?_))
    replace hm:=Ab hm;obtain⟨k1,h2,hm⟩:=hm
    obtain rfl:=AR h2
    replace hm:=Ae hm;obtain⟨h3,hm⟩:=hm
    replace hm:=oI hm;obtain⟨x0,h4,hm⟩:=hm
    replace hm:=oI hm;obtain⟨x1,h5,hm⟩:=hm
    refine .reg (eC 4 (keep (hT 2 [(oC [zI z12,zI z13,zI z14,Sl.v 1 s5])]) (bb (an (Nat.blt k1 (Sl.n s4)) true) (some (Cv (k1*1) (Sl.cs s4))) none)) (AX h3) (eD (keep (hT 2 [(oC [zI z12,zI z13,zI z14,Sl.v 1 s5])]) (AL (Sl.cs s4) (k1*1))) (AZ h4) (eD ((oo (pu 63 [zI z10,zI x0]) none fun v=>some (v,(hT 2 [(oC [zI z12,zI z13,zI z14,Sl.v 1 s5])])))) (AB h5) (eE)))) ?_
    refine .ghs (fr 115 [(1,Sl.v 1 s4),(2,pt 1 0),(10,(zI (Aj .i64 (Int.mul z9 x1)))),(11,zI z10),(12,(zI (Int.ofNat k1)))]) (hT 2 [(oC [zI z12,zI z13,zI z14,Sl.v 1 s5])]) (.k0 [false] [.tmp 2 false] [1,2,10,11,12]) ?_
    replace hm:=Ae hm;obtain⟨h6,hm⟩:=hm
    replace hm:=oI hm;obtain⟨x2,h7,hm⟩:=hm
    refine .reg (eC 3 (keep (hT 2 [(oC [zI z12,zI z13,zI z14,Sl.v 1 s5])]) (bb (an (Nat.blt k1 (Sl.n s4)) true) (some (Cv (k1*1) (Sl.cs s4))) none)) (AX h6) (eD (keep (hT 2 [(oC [zI z12,zI z13,zI z14,Sl.v 1 s5])]) (AL (Sl.cs s4) (k1*1))) (AZ h7) (eE))) ?_
    refine .ghs (fr 115 [(1,Sl.v 1 s4),(2,pt 1 0),(10,(zI (Aj .i64 (Int.mul z9 x1)))),(11,(zI (Aj .i64 (Int.sub z10 x2)))),(12,(zI (Int.ofNat k1)))]) (hT 2 [(oC [zI z12,zI z13,zI z14,Sl.v 1 s5])]) (.k0 [false] [.tmp 2 false] [1,2,10,11,12]) ?_
    refine .rK ?_
    exact⟨(s4,(Aj .i64 (Int.mul z9 x1)),(Aj .i64 (Int.sub z10 x2)),(Aj .i64 (Int.add (Int.ofNat k1) (1:Int))),z12,z13,z14,s5),hm,(.k0 [false] [.tmp 2 false] [1,2,10,11,12])⟩
   ·refine BB (AY z11 (Int.ofNat (Sl.n s4))) h1 ?_
    refine .exit ?_
    exact⟨(s4,z9,z12,z13,z14,s5),hm,(.k0 [false] [.tmp 2 false] [1,2,10])⟩
theorem AfC (pu:Af) (n:Nat) (s0:Sl) (z0 z1 z2 z3 z4 z5:Int) (s1:Sl) {v:Value} (hm:MG pu n s0 z0 z1 z2 z3 z4 z5 s1=some v):BN tt (Bb tabs isP pu (inl pu)) 1 bP (fr 115 [(1,Sl.v 1 s0),(2,pt 1 0),(6,zI z0),(7,zI z1),(8,zI z2)]) (hT 2 [(oC [zI z3,zI z4,zI z5,Sl.v 1 s1])]) (Fin tt 1 [.tmp 4,.tmp 5] v):=by
 unfold MG at hm
 refine .join (v:=v) (fun y:Sl×Int×Int×Int×Int×Int×Sl=>((fr 115 [(1,(Sl.v 1 y.1)),(2,pt 1 0),(6,(zI y.2.1)),(8,(zI y.2.2.1))]),(hT 2 [(oC [(zI y.2.2.2.1),(zI y.2.2.2.2.1),(zI y.2.2.2.2.2.1),(Sl.v 1 y.2.2.2.2.2.2)])]))) (fun y=>OE pu n y.1 y.2.1 y.2.2.1 y.2.2.2.1 y.2.2.2.2.1 y.2.2.2.2.2.1 y.2.2.2.2.2.2) ?_ ?_
 ·rintro ⟨s2, z6, z7, z8, z9, z10, s3⟩ hm
  exact AfB pu n s2 z6 z7 z8 z9 z10 s3 hm
 ·refine .join (v := v) (fun y : Sl × Int × Int × Bool × Int × Int × Int × Sl => ((fr 115 [(1, (Sl.v 1 y.1)), (2, pt 1 0), (6, (zI y.2.1)), (8, (zI y.2.2.1)), (59, (zB y.2.2.2.1))]), (hT 2 [(oC [(zI y.2.2.2.2.1), (zI y.2.2.2.2.2.1), (zI y.2.2.2.2.2.2.1), (Sl.v 1 y.2.2.2.2.2.2.2)])]))) (fun y => Qp pu n y.1 y.2.1 y.2.2.1 y.2.2.2.1 y.2.2.2.2.1 y.2.2.2.2.2.1 y.2.2.2.2.2.2.1 y.2.2.2.2.2.2.2) ?_ ?_
  ·rintro ⟨s4, z11, z12, b0, z13, z14, z15, s5⟩ hm
   unfold Qp at hm
   replace hm:=Ag hm;rcases hm with⟨h0,hm⟩ | ⟨h0,hm⟩
   ·refine .ifT b0 (by kernel_rfl) h0 ?_
    refine .rK ?_
    exact⟨(s4,(17:Int),z12,z13,z14,z15,s5),hm,(.k0 [false] [.tmp 2 false] [1,2,6,8])⟩
   ·refine .ifF b0 (by kernel_rfl) h0 ?_
    refine .skip ?_
    exact⟨(s4,z11,z12,z13,z14,z15,s5),hm,(.k0 [false] [.tmp 2 false] [1,2,6,8])⟩
  ·replace hm := Ag hm; rcases hm with ⟨h1, hm⟩ | ⟨h1, hm⟩
   ·refine .reg (eC 1 (some ((zB (Bd z0 (0 : Int))), (hT 2 [(oC [zI z3, zI z4, zI z5, Sl.v 1 s1])]))) (show _ = some ((zB true), _) from (by rw [show (Bd z0 (0 : Int)) = true from h1])) (eE)) ?_
    exact⟨(s0,z0,z2,(nt (Bd z1 z2)),z3,z4,z5,s1),hm,(.k0 [false] [.tmp 2 false] [1,2,6,8,59])⟩
   ·refine .reg (eC 1 (some ((zB (Bd z0 (0 : Int))), (hT 2 [(oC [zI z3, zI z4, zI z5, Sl.v 1 s1])]))) (show _ = some ((zB false), _) from (by rw [show (Bd z0 (0 : Int)) = false from h1])) (eE)) ?_
    exact⟨(s0,z0,z2,false,z3,z4,z5,s1),hm,(.k0 [false] [.tmp 2 false] [1,2,6,8,59])⟩
theorem AfD (pu:Af) (n:Nat) (s0:Sl) (z0 z1 z2 z3:Int) (s1:Sl) {v:Value} (hm:OG pu n s0 z0 z1 z2 z3 s1=some v):BN tt (Bb tabs isP pu (inl pu)) 1 bQ (fr 115 [(1,Sl.v 1 s0),(2,pt 1 0),(6,zI z0)]) (hT 2 [(oC [zI z1,zI z2,zI z3,Sl.v 1 s1])]) (Fin tt 1 [.tmp 4,.tmp 5] v):=by
 unfold OG at hm
 refine .then (.rK (.ghs (fr 115 [(1,Sl.v 1 s0),(2,pt 1 0),(6,zI z0),(7,(zI (0:Int))),(8,(zI (Aj .i64 (Int.mul z1 z2))))]) (hT 2 [(oC [zI z1,zI z2,zI z3,Sl.v 1 s1])]) (.k0 [false] [.tmp 2 false] [1,2,6,7,8]) ?_))
 refine .join (v:=v) (fun y:Sl×Int×Int×Int×Int×Int×Int×Sl=>((fr 115 [(1,(Sl.v 1 y.1)),(2,pt 1 0),(6,(zI y.2.1)),(7,(zI y.2.2.1)),(8,(zI y.2.2.2.1))]),(hT 2 [(oC [(zI y.2.2.2.2.1),(zI y.2.2.2.2.2.1),(zI y.2.2.2.2.2.2.1),(Sl.v 1 y.2.2.2.2.2.2.2)])]))) (fun y=>MG pu n y.1 y.2.1 y.2.2.1 y.2.2.2.1 y.2.2.2.2.1 y.2.2.2.2.2.1 y.2.2.2.2.2.2.1 y.2.2.2.2.2.2.2) ?_ ?_
 ·rintro ⟨s2, z4, z5, z6, z7, z8, z9, s3⟩ hm
  exact AfC pu n s2 z4 z5 z6 z7 z8 z9 s3 hm
 ·refine .then (.rK (.ghs (fr 115 [(1, Sl.v 1 s0), (2, pt 1 0), (6, zI z0), (7, (zI (0 : Int))), (8, (zI (Aj .i64 (Int.mul z1 z2)))), (9, (zI (0 : Int)))]) (hT 2 [(oC [zI z1, zI z2, zI z3, Sl.v 1 s1])]) (.k0 [false] [.tmp 2 false] [1, 2, 6, 7, 8, 9]) ?_))
  refine .block (.loopM (v:=v) (fun y:Sl×Int×Int×Int×Int×Int×Int×Int×Sl=>((fr 115 [(1,(Sl.v 1 y.1)),(2,pt 1 0),(6,(zI y.2.1)),(7,(zI y.2.2.1)),(8,(zI y.2.2.2.1)),(9,(zI y.2.2.2.2.1))]),(hT 2 [(oC [(zI y.2.2.2.2.2.1),(zI y.2.2.2.2.2.2.1),(zI y.2.2.2.2.2.2.2.1),(Sl.v 1 y.2.2.2.2.2.2.2.2)])]))) (fun w y=>Gu pu n w y.1 y.2.1 y.2.2.1 y.2.2.2.1 y.2.2.2.2.1 y.2.2.2.2.2.1 y.2.2.2.2.2.2.1 y.2.2.2.2.2.2.2.1 y.2.2.2.2.2.2.2.2) n ⟨(s0,z0,(0:Int),(Aj .i64 (Int.mul z1 z2)),(0:Int),z1,z2,z3,s1),hm,(.k0 [false] [.tmp 2 false] [1,2,6,7,8,9])⟩ (fun _=>rfl) ?_)
  rintro w0 ⟨s4,z10,z11,z12,z13,z14,z15,z16,s5⟩ hm
  replace hm:Je pu n (Gu pu n w0) s4 z10 z11 z12 z13 z14 z15 z16 s5=some v:=hm
  unfold Je at hm
  refine .then (.join (v:=v) (fun y:Sl×Int×Int×Int×Int×Bool×Int×Int×Int×Sl=>((fr 115 [(1,(Sl.v 1 y.1)),(2,pt 1 0),(6,(zI y.2.1)),(7,(zI y.2.2.1)),(8,(zI y.2.2.2.1)),(9,(zI y.2.2.2.2.1)),(37,(zB y.2.2.2.2.2.1))]),(hT 2 [(oC [(zI y.2.2.2.2.2.2.1),(zI y.2.2.2.2.2.2.2.1),(zI y.2.2.2.2.2.2.2.2.1),(Sl.v 1 y.2.2.2.2.2.2.2.2.2)])]))) (fun y=>Jd pu n (Gu pu n w0) y.1 y.2.1 y.2.2.1 y.2.2.2.1 y.2.2.2.2.1 y.2.2.2.2.2.1 y.2.2.2.2.2.2.1 y.2.2.2.2.2.2.2.1 y.2.2.2.2.2.2.2.2.1 y.2.2.2.2.2.2.2.2.2) ?_ ?_)
  ·rintro ⟨s6, z17, z18, z19, z20, b0, z21, z22, z23, s7⟩ hm
   unfold Jd at hm
   replace hm:=Ag hm;rcases hm with⟨h0,hm⟩ | ⟨h0,hm⟩
   ·refine .ifT b0 (by kernel_rfl) h0 ?_
    refine .skip (.ghs (fr 115 [(1,Sl.v 1 s6),(2,pt 1 0),(6,zI z17),(7,zI z18),(8,zI z19),(9,zI z20)]) (hT 2 [(oC [zI z21,zI z22,zI z23,Sl.v 1 s7])]) (.k0 [false] [.tmp 2 false] [1,2,6,7,8,9]) ?_)
    refine .then (.block (.join (v:=v) (fun y:Sl×Int×Int×Int×Int×Int×Int×Int×Sl=>((fr 115 [(1,(Sl.v 1 y.1)),(2,pt 1 0),(6,(zI y.2.1)),(7,(zI y.2.2.1)),(8,(zI y.2.2.2.1)),(9,(zI y.2.2.2.2.1))]),(hT 2 [(oC [(zI y.2.2.2.2.2.1),(zI y.2.2.2.2.2.2.1),(zI y.2.2.2.2.2.2.2.1),(Sl.v 1 y.2.2.2.2.2.2.2.2)])]))) (fun y=>K6 pu n (Gu pu n w0) y.1 y.2.1 y.2.2.1 y.2.2.2.1 y.2.2.2.2.1 y.2.2.2.2.2.1 y.2.2.2.2.2.2.1 y.2.2.2.2.2.2.2.1 y.2.2.2.2.2.2.2.2) ?_ ?_))
    ·rintro ⟨s8, z24, z25, z26, z27, z28, z29, z30, s9⟩ hm
     unfold K6 at hm
     replace hm:=Ab hm;obtain⟨k1,h1,hm⟩:=hm
     obtain rfl:=AR h1
     replace hm:=Ae hm;obtain⟨h2,hm⟩:=hm
     replace hm:=oI hm;obtain⟨x0,h3,hm⟩:=hm
     refine .reg (eC 3 (keep (hT 2 [(oC [zI z28,zI z29,zI z30,Sl.v 1 s9])]) (bb (an (Nat.blt k1 (Sl.n s8)) true) (some (Cv (k1*1) (Sl.cs s8))) none)) (AX h2) (eD (keep (hT 2 [(oC [zI z28,zI z29,zI z30,Sl.v 1 s9])]) (AL (Sl.cs s8) (k1*1))) (AZ h3) (eE))) ?_
     refine .ghs (fr 115 [(1,Sl.v 1 s8),(2,pt 1 0),(6,zI z24),(7,(zI (Aj .i64 (Int.add z25 x0)))),(8,zI z26),(9,(zI (Int.ofNat k1)))]) (hT 2 [(oC [zI z28,zI z29,zI z30,Sl.v 1 s9])]) (.k0 [false] [.tmp 2 false] [1,2,6,7,8,9]) ?_
     refine .rK ?_
     exact⟨(s8,z24,(Aj .i64 (Int.add z25 x0)),z26,(Aj .i64 (Int.add (Int.ofNat k1) (1:Int))),z28,z29,z30,s9),hm,(.k0 [false] [.tmp 2 false] [1,2,6,7,8,9])⟩
    ·refine .then ?_
     replace hm:=Ab hm;obtain⟨k2,h4,hm⟩:=hm
     obtain rfl:=AR h4
     replace hm:=Ae hm;obtain⟨h5,hm⟩:=hm
     replace hm:=oI hm;obtain⟨x1,h6,hm⟩:=hm
     replace hm:=oB hm;obtain⟨b1,h7,hm⟩:=hm
     refine .reg (eC 2 (keep (hT 2 [(oC [zI z21,zI z22,zI z23,Sl.v 1 s7])]) (bb (an (Nat.blt k2 (Sl.n s6)) true) (some (Cv (k2*1) (Sl.cs s6))) none)) (AX h5) (eD (keep (hT 2 [(oC [zI z21,zI z22,zI z23,Sl.v 1 s7])]) (AL (Sl.cs s6) (k2*1))) (AZ h6) (eC 1 ((oo (pu 62 [zI x1,(zI (0:Int)),zI z19]) none fun v=>some (v,(hT 2 [(oC [zI z21,zI z22,zI z23,Sl.v 1 s7])])))) (AB h7) (eE)))) ?_
     refine .ghs (fr 115 [(1,Sl.v 1 s6),(2,pt 1 0),(6,zI z17),(7,zI z18),(8,zI z19),(9,(zI (Int.ofNat k2))),(46,(zB (nt b1)))]) (hT 2 [(oC [zI z21,zI z22,zI z23,Sl.v 1 s7])]) (.k0 [false] [.tmp 2 false] [1,2,6,7,8,9,46]) ?_
     replace hm:=Ag hm;rcases hm with⟨h8,hm⟩ | ⟨h8,hm⟩
     ·refine Bq (nt b1) h8 ?_
      refine .rK ?_
      exact⟨(s6,(1:Int),z18,z19,(Int.ofNat k2),z21,z22,z23,s7),hm,(.k0 [false] [.tmp 2 false] [1,2,6,7,8,9])⟩
     ·refine BB (nt b1) h8 ?_
      refine .skip ?_
      exact⟨(s6,z17,z18,z19,(Int.ofNat k2),z21,z22,z23,s7),hm,(.k0 [false] [.tmp 2 false] [1,2,6,7,8,9])⟩
   ·refine .ifF b0 (by kernel_rfl) h0 ?_
    refine .exit ?_
    exact⟨(s6,z17,z18,z19,z21,z22,z23,s7),hm,(.k0 [false] [.tmp 2 false] [1,2,6,7,8])⟩
  ·replace hm := Ag hm; rcases hm with ⟨h9, hm⟩ | ⟨h9, hm⟩
   ·refine .reg (eC 3 (some ((zB (AY z13 (Int.ofNat (Sl.n s4)))), (hT 2 [(oC [zI z14, zI z15, zI z16, Sl.v 1 s5])]))) (show _ = some ((zB true), _) from (by rw [show (AY z13 (Int.ofNat (Sl.n s4))) = true from h9])) (eE)) ?_
    exact⟨(s4,z10,z11,z12,z13,(Bd z10 (0:Int)),z14,z15,z16,s5),hm,(.k0 [false] [.tmp 2 false] [1,2,6,7,8,9,37])⟩
   ·refine .reg (eC 3 (some ((zB (AY z13 (Int.ofNat (Sl.n s4)))), (hT 2 [(oC [zI z14, zI z15, zI z16, Sl.v 1 s5])]))) (show _ = some ((zB false), _) from (by rw [show (AY z13 (Int.ofNat (Sl.n s4))) = false from h9])) (eE)) ?_
    exact⟨(s4,z10,z11,z12,z13,false,z14,z15,z16,s5),hm,(.k0 [false] [.tmp 2 false] [1,2,6,7,8,9,37])⟩
theorem r28 {call:A8} (pu:Af) (n:Nat) (hcall:call=Bb tabs isP pu (inl pu)) {args:LV} {v:Value} (hm:m28 pu n args=some v) (_:∀ x∈args,closed2 x=true):args.length≤115∧BN tt call 1 QP (Fr.made 115 args) (Ao tabs) (Fin tt 1 [.tmp 4,.tmp 5] v):=by
 subst hcall
 unfold m28 at hm
 replace hm:=Ad hm;obtain⟨a0,args_0,rfl,hm⟩:=hm
 replace hm:=Ad hm;obtain⟨a1,args_1,rfl,hm⟩:=hm
 replace hm:=AC hm;obtain⟨rfl,hm⟩:=hm
 replace hm:=BG hm;obtain⟨l0,rfl,hm⟩:=hm
 replace hm:=Ad hm;obtain⟨v0,l1080_0,rfl,hm⟩:=hm
 replace hm:=Ad hm;obtain⟨v1,l1080_1,rfl,hm⟩:=hm
 replace hm:=Ad hm;obtain⟨v2,l1080_2,rfl,hm⟩:=hm
 replace hm:=Ad hm;obtain⟨v3,l1080_3,rfl,hm⟩:=hm
 replace hm:=AC hm;obtain⟨rfl,hm⟩:=hm
 replace hm:=Ai hm;obtain⟨x0,rfl,hm⟩:=hm
 replace hm:=Ai hm;obtain⟨x1,rfl,hm⟩:=hm
 replace hm:=Ai hm;obtain⟨x2,rfl,hm⟩:=hm
 replace hm:=Al hm;obtain⟨s0,rfl,hm⟩:=hm
 replace hm:=Al hm;obtain⟨s1,rfl,hm⟩:=hm
 unfold YA at hm
 refine⟨by simp,?_⟩
 refine .same (F':=(fr 115 [(0,(.agg ⟨[zI x0,zI x1,zI x2,Sl.v 1 s0]⟩)),(1,Sl.v 1 s1)])) (H':=Ap) (by kernel_rfl) (by kernel_rfl) ?_
 refine .then (.rK (.ghs (fr 115 [(1,Sl.v 1 s1),(2,pt 1 0)]) (hT 2 [(oC [zI x0,zI x1,zI x2,Sl.v 1 s0])]) (.k0 [false] [.tmp 2 false] [1,2]) ?_))
 refine .then ?_
 replace hm:=oI hm;obtain⟨x3,h0,hm⟩:=hm
 refine .reg (eC 1 ((oo (pu 36 [(.agg ⟨[zI x0,zI x1,zI x2,Sl.v 1 s0]⟩)]) none fun v=>some (v,(hT 2 [(oC [zI x0,zI x1,zI x2,Sl.v 1 s0])])))) (AB h0) (eE)) ?_
 refine .ghs (fr 115 [(1,Sl.v 1 s1),(2,pt 1 0),(6,zI x3)]) (hT 2 [(oC [zI x0,zI x1,zI x2,Sl.v 1 s0])]) (.k0 [false] [.tmp 2 false] [1,2,6]) ?_
 refine .join (v:=v) (fun y:Sl×Int×Int×Int×Int×Sl=>((fr 115 [(1,(Sl.v 1 y.1)),(2,pt 1 0),(6,(zI y.2.1))]),(hT 2 [(oC [(zI y.2.2.1),(zI y.2.2.2.1),(zI y.2.2.2.2.1),(Sl.v 1 y.2.2.2.2.2)])]))) (fun y=>OG pu n y.1 y.2.1 y.2.2.1 y.2.2.2.1 y.2.2.2.2.1 y.2.2.2.2.2) ?_ ?_
 ·rintro ⟨s2, z0, z1, z2, z3, s3⟩ hm
  exact AfD pu n s2 z0 z1 z2 z3 s3 hm
 ·refine .join (v := v) (fun y : Sl × Int × Bool × Int × Int × Int × Sl => ((fr 115 [(1, (Sl.v 1 y.1)), (2, pt 1 0), (6, (zI y.2.1)), (24, (zB y.2.2.1))]), (hT 2 [(oC [(zI y.2.2.2.1), (zI y.2.2.2.2.1), (zI y.2.2.2.2.2.1), (Sl.v 1 y.2.2.2.2.2.2)])]))) (fun y => K7 pu n y.1 y.2.1 y.2.2.1 y.2.2.2.1 y.2.2.2.2.1 y.2.2.2.2.2.1 y.2.2.2.2.2.2) ?_ ?_
  ·rintro ⟨s4, z4, b0, z5, z6, z7, s5⟩ hm
   unfold K7 at hm
   replace hm:=Ag hm;rcases hm with⟨h1,hm⟩ | ⟨h1,hm⟩
   ·refine .ifT b0 (by kernel_rfl) h1 ?_
    refine .rK ?_
    exact⟨(s4,(5:Int),z5,z6,z7,s5),hm,(.k0 [false] [.tmp 2 false] [1,2,6])⟩
   ·refine .ifF b0 (by kernel_rfl) h1 ?_
    refine .skip ?_
    exact⟨(s4,z4,z5,z6,z7,s5),hm,(.k0 [false] [.tmp 2 false] [1,2,6])⟩
  ·replace hm := Ag hm; rcases hm with ⟨h2, hm⟩ | ⟨h2, hm⟩
   ·refine .reg (eC 1 (some ((zB (Bd x3 (0 : Int))), (hT 2 [(oC [zI x0, zI x1, zI x2, Sl.v 1 s0])]))) (show _ = some ((zB true), _) from (by rw [show (Bd x3 (0 : Int)) = true from h2])) (eE)) ?_
    exact⟨(s1,x3,(nt (Bd (Int.ofNat (Sl.n s1)) x2)),x0,x1,x2,s0),hm,(.k0 [false] [.tmp 2 false] [1,2,6,24])⟩
   ·refine .reg (eC 1 (some ((zB (Bd x3 (0 : Int))), (hT 2 [(oC [zI x0, zI x1, zI x2, Sl.v 1 s0])]))) (show _ = some ((zB false), _) from (by rw [show (Bd x3 (0 : Int)) = false from h2])) (eE)) ?_
    exact⟨(s1,x3,false,x0,x1,x2,s0),hm,(.k0 [false] [.tmp 2 false] [1,2,6,24])⟩
end
end Go.BkUM
