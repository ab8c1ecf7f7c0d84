/- Made from wip. -/
import Derived.Test.YtokbaaeimejjlaaDoorBkMMod0x

set_option maxRecDepth 100000
set_option maxHeartbeats 20000000
set_option linter.unusedVariables false
namespace Go.BkMM
open Go.Sp Go.BkM
noncomputable section
def XP (pu:Af) (n n0 c0:Nat) (q0:LV):OV:=
 (bb (Au Ah q0) (bb (an (Nat.ble (0+n0*1) (len q0)) (Au Ah (Aq (n0*1) (Am 0 q0)))) (some (.tuple ⟨[(Sl.v 1 (Sl.mk n0 0 (Aq (n0*1) (Am 0 q0)))),(.int .i64 (0:Int))]⟩)) none) none)
def UY (pu:Af) (n:Nat) (ih0:Sl→Nat→LV→Nat→Nat→Sl→Int→Int→LV→OV) (s0:Sl) (n0:Nat) (q0:LV) (n1 c0:Nat) (s1:Sl) (z0 z1:Int) (q1:LV):OV:=
 (bb (Au Ah q1) (ih0 s0 n0 q0 n1 c0 s1 z0 (Aj .i64 (Int.add z1 (1:Int))) q1) none)
def UZ (pu:Af) (n:Nat) (ih0:Sl→Nat→LV→Nat→Nat→Sl→Int→Int→LV→OV) (s0:Sl) (n0:Nat) (q0:LV) (n1 c0:Nat) (s1:Sl) (z0 z1:Int) (q1:LV):OV:=
 (bb (Au Ah q1) (bb (AY z1 z0) (oo (EA z1) none fun k1=>(bb (an (Nat.blt k1 (Sl.n s1)) true) (oo (AL (Sl.cs s1) (k1*1)) none fun v0=>(oo (Bi .i64 v0) none fun x0=>(oo (pu 36 [(Cv n0 q0),Sl.v 1 s0,(.int .i64 (Int.ofNat k1))]) none fun v1=>(oo (Bi .u16 v1) none fun x1=>(bb (Bd x1 (0:Int)) (bb (GV 1 8 n1 c0 1 q1) (bb (Au Ah (Br (Am 0 q1) [.int .i64 x0])) (UY pu n ih0 s0 n0 q0 (n1+1) (2*(n1+1)+bb false 1 0) s1 z0 (Int.ofNat k1) (Br (Am 0 q1) [.int .i64 x0])) none) none) (UY pu n ih0 s0 n0 q0 n1 c0 s1 z0 (Int.ofNat k1) q1)))))) none)) (XP pu n n1 c0 q1)) none)
def OP (pu:Af) (n w:Nat):Sl→Nat→LV→Nat→Nat→Sl→Int→Int→LV→OV:=
 Nat.rec (motive:=fun _=>Sl→Nat→LV→Nat→Nat→Sl→Int→Int→LV→OV) (fun _ _ _ _ _ _ _ _ _=>none) (fun _ ih0=>UZ pu n ih0) w
def iX (pu:Af) (n:Nat) (x0 x1 x2:Int) (s0 s1:Sl):OV:=
 (oo (pu 32 [(.agg ⟨[.int .i64 x0,.int .i64 x1,.int .i64 x2,Sl.v 1 s0]⟩),(Sl.v 1 (Sl.mk 1 0 (Aq (1*1) (Am 0 ([Sl.v 1 s1]:LV)))))]) none fun v0=>(oo (CQ v0) none fun l0=>(ll l0 none fun v1 l0=>(ll l0 none fun v2 l0=>(ll l0 (bb (isS (Pv v1)) (oo (Pv v1) none fun p0=>(oo (Bi .i64 v2) none fun x3=>(bb (nt (Bd x3 (0:Int))) (some (.tuple ⟨[(Sl.v 1 (Sl.mk 0 2 [])),.int .i64 x3]⟩)) (oo (AL (Db.cs p0) (((Db.off p0)+0)+3)) none fun v3=>(oo (Bj 1 v3) none fun s2=>(OP pu n n s1 (Db.off p0) (Db.cs p0) 0 0 s2 (Int.ofNat (Sl.n s2)) (0:Int) ([]:LV))))))) (bb (WE v1) (oo (Bi .i64 v2) none fun x4=>(bb (nt (Bd x4 (0:Int))) (some (.tuple ⟨[(Sl.v 1 (Sl.mk 0 2 [])),.int .i64 x4]⟩)) none)) none)) fun _ _=>none)))))
def m15 (pu:Af) (n:Nat) (args:LV):OV:=
 (ll args none fun a0 args=>(ll args none fun a1 args=>(ll args (oo (Bt a0) none fun l0=>(ll l0 none fun v0 l0=>(ll l0 none fun v1 l0=>(ll l0 none fun v2 l0=>(ll l0 none fun v3 l0=>(ll l0 (oo (Bi .i64 v0) none fun x0=>(oo (Bi .i64 v1) none fun x1=>(oo (Bi .i64 v2) none fun x2=>(oo (Bj 1 v3) none fun s0=>(oo (Bj 1 a1) none fun s1=>(iX pu n x0 x1 x2 s0 s1)))))) fun _ _=>none)))))) fun _ _=>none)))
theorem Afz (pu:Af) (n n0 c0:Nat) (q0:LV) {v:Value} (hm:XP pu n n0 c0 q0=some v):BN tt (Bb tabs isP pu (inl pu)) 1 bP (fr 43 [(8,sc 1 0 1 n0 c0)]) (hT 2 [oC q0]) (Fin tt 1 [.tmp 4,.tmp 5] v):=by
 unfold XP at hm
 refine .then (.rK ?_)
 replace hm:=Ae hm;obtain⟨h0,hm⟩:=hm
 refine .ghs (fr 43 [(4,sc 1 0 1 n0 c0),(5,(zI (0:Int)))]) (hT 2 [oC q0]) (.k [1] [false] [.tmp 4 false] [4,5] ⟨Bq h0,trivial⟩) ?_
 replace hm:=Ae hm;obtain⟨h1,hm⟩:=hm
 refine .ghs (Fr.puts (fr 43 [(4,sc 1 0 1 n0 c0),(5,(zI (0:Int)))]) [(4,(Sl.v 1 (Sl.mk n0 0 (Aq (n0*1) (Am 0 q0)))))]) (hT 2 [.dead]) (.freezeC 1 4 1 (an (Nat.ble (0+n0*1) (len q0)) (Au Ah (Aq (n0*1) (Am 0 q0)))) (F1:=(Fr.puts (fr 43 [(4,sc 1 0 1 n0 c0),(5,(zI (0:Int)))]) [(4,(Sl.v 1 (Sl.mk n0 0 (Aq (n0*1) (Am 0 q0)))))])) (H1:=(hT 2 [.dead])) (by kernel_rfl) (by kernel_rfl) h1 (E9.id _ _)) ?_
 refine .ret ?_
 exact AO (.tuple ⟨[(Sl.v 1 (Sl.mk n0 0 (Aq (n0*1) (Am 0 q0)))),(zI (0:Int))]⟩) hm
theorem r15 {call:A8} (pu:Af) (n:Nat) (hcall:call=Bb tabs isP pu (inl pu)) {args:LV} {v:Value} (hm:m15 pu n args=some v) (_:∀ x∈args,closed2 x=true):args.length≤43∧BN tt call 1 SA (Fr.made 43 args) (Ao tabs) (Fin tt 1 [.tmp 4,.tmp 5] v):=by
 subst hcall
 unfold m15 at hm
 replace hm:=Ad hm;obtain⟨a0,args_0,rfl,hm⟩:=hm
 replace hm:=Ad hm;obtain⟨a1,args_1,rfl,hm⟩:=hm
 replace hm:=AC hm;obtain⟨rfl,hm⟩:=hm
 replace hm:=BG hm;obtain⟨l0,rfl,hm⟩:=hm
 replace hm:=Ad hm;obtain⟨v0,l964_0,rfl,hm⟩:=hm
 replace hm:=Ad hm;obtain⟨v1,l964_1,rfl,hm⟩:=hm
 replace hm:=Ad hm;obtain⟨v2,l964_2,rfl,hm⟩:=hm
 replace hm:=Ad hm;obtain⟨v3,l964_3,rfl,hm⟩:=hm
 replace hm:=AC hm;obtain⟨rfl,hm⟩:=hm
 replace hm:=Ai hm;obtain⟨x0,rfl,hm⟩:=hm
 replace hm:=Ai hm;obtain⟨x1,rfl,hm⟩:=hm
 replace hm:=Ai hm;obtain⟨x2,rfl,hm⟩:=hm
 replace hm:=Al hm;obtain⟨s0,rfl,hm⟩:=hm
 replace hm:=Al hm;obtain⟨s1,rfl,hm⟩:=hm
 unfold iX at hm
 refine⟨by simp,?_⟩
 refine .same (F':=(fr 43 [(0,(.agg ⟨[zI x0,zI x1,zI x2,Sl.v 1 s0]⟩)),(1,Sl.v 1 s1)])) (H':=Ay) (by kernel_rfl) (by kernel_rfl) ?_
 refine .then (.rK (.ghs (fr 43 [(1,Sl.v 1 s1),(2,pt 1 0)]) (hT 2 [(oC [zI x0,zI x1,zI x2,Sl.v 1 s0])]) (.k0 [false] [.tmp 2 false] [1,2]) ?_))
 refine .then ?_
 replace hm:=Ab hm;obtain⟨v4,h0,hm⟩:=hm
 replace hm:=Ch hm;obtain⟨l1,rfl,hm⟩:=hm
 replace hm:=Ad hm;obtain⟨v5,l993_0,rfl,hm⟩:=hm
 replace hm:=Ad hm;obtain⟨v6,l993_1,rfl,hm⟩:=hm
 replace hm:=AC hm;obtain⟨rfl,hm⟩:=hm
 replace hm:=Ag hm;rcases hm with⟨h1,hm⟩ | ⟨h1,hm⟩
 ·replace hm:=Ab hm;obtain⟨p0,h2,hm⟩:=hm
  obtain rfl:=F7 h2
  replace hm:=Ai hm;obtain⟨x3,rfl,hm⟩:=hm
  refine .reg (eC 3 (Hr tabs 1 (pu 32) [(.agg ⟨[zI x0,zI x1,zI x2,Sl.v 1 s0]⟩),sc 2 0 1 1 3] (hT 3 [(oC [zI x0,zI x1,zI x2,Sl.v 1 s0]),(oC [Sl.v 1 s1])])) (KI (DZ (CV (z:=1) (v:=(.agg ⟨[zI x0,zI x1,zI x2,Sl.v 1 s0]⟩)) (H:=(hT 3 [(oC [zI x0,zI x1,zI x2,Sl.v 1 s0]),(oC [Sl.v 1 s1])])) (by kernel_rfl) (by kernel_rfl) (by kernel_rfl)) (DZ (show ER 1 (sc 2 0 1 1 3) (hT 3 [(oC [zI x0,zI x1,zI x2,Sl.v 1 s0]),(oC [Sl.v 1 s1])])=some ((Sl.v 1 (Sl.mk 1 0 (Aq (1*1) (Am 0 ([Sl.v 1 s1]:LV))))),(hT 3 [(oC [zI x0,zI x1,zI x2,Sl.v 1 s0]),.dead])) from KH 2 0 1 1 3 ([Sl.v 1 s1]:LV) [] (by kernel_rfl) (by kernel_rfl) (by kernel_rfl)) Jt)) (by kernel_rfl) h0) (eE)) ?_
  refine .ghs (fr 43 [(1,Sl.v 1 s1),(6,(Cv (Db.off p0) (Db.cs p0))),(7,zI x3)]) Ay (.k0 [false] [] [1,6,7]) ?_
  refine .then (.then (.rK (.ghs (fr 43 [(1,Sl.v 1 s1),(6,(Cv (Db.off p0) (Db.cs p0))),(7,zI x3),(19,(zB (nt (Bd x3 (0:Int)))))]) Ay (.k0 [false] [] [1,6,7,19]) ?_)))
  replace hm:=Ag hm;rcases hm with⟨h3,hm⟩ | ⟨h3,hm⟩
  ·refine BB (nt (Bd x3 (0:Int))) h3 ?_
   refine .then (.rK (.ghs (fr 43 [(4,(.slice none 0 0)),(5,zI x3)]) Ay (.k0 [false] [] [4,5]) ?_))
   refine .ghs (Fr.puts (fr 43 [(4,(.slice none 0 0)),(5,zI x3)]) [(4,(Sl.v 1 (Sl.mk 0 2 [])))]) Ay (.freeze 1 4 1 (by kernel_rfl) (by kernel_rfl) (E9.id _ _)) ?_
   refine .ret ?_
   exact AO (.tuple ⟨[(Sl.v 1 (Sl.mk 0 2 [])),zI x3]⟩) hm
  ·refine BI (nt (Bd x3 (0:Int))) h3 ?_
   refine .skip (.ghs (fr 43 [(1,Sl.v 1 s1),(6,(Cv (Db.off p0) (Db.cs p0)))]) Ay (.k0 [false] [] [1,6]) ?_)
   refine .then (.rK (.ghs (fr 43 [(1,Sl.v 1 s1),(6,(Cv (Db.off p0) (Db.cs p0))),(8,(.slice none 0 0))]) Ay (.k0 [false] [] [1,6,8]) ?_))
   refine .join (v:=v) (fun y:Nat×Nat×LV=>((fr 43 [(8,(sc 1 0 1 y.1 y.2.1))]),(hT 2 [(oC y.2.2)]))) (fun y=>XP pu n y.1 y.2.1 y.2.2) ?_ ?_
   ·rintro⟨n0,c0,q0⟩ hm
    exact Afz pu n n0 c0 q0 hm
   ·refine .then ?_
    replace hm:=LK hm;obtain⟨s2,h4,hm⟩:=hm
    refine .reg (eC 4 (keep Ay (AL (Db.cs p0) (((Db.off p0)+0)+3))) (AZ h4) (eE)) ?_
    refine .ghs (fr 43 [(1,Sl.v 1 s1),(6,(Cv (Db.off p0) (Db.cs p0))),(8,(.slice none 0 0)),(25,Sl.v 1 s2),(26,(zI (Int.ofNat (Sl.n s2)))),(27,(zI (0:Int)))]) Ay (.k0 [false] [] [1,6,8,25,26,27]) ?_
    refine .block (.loopM (v:=v) (fun y:Sl×Nat×LV×Nat×Nat×Sl×Int×Int×LV=>((fr 43 [(1,(Sl.v 1 y.1)),(6,(Cv y.2.1 y.2.2.1)),(8,(sc 1 0 1 y.2.2.2.1 y.2.2.2.2.1)),(25,(Sl.v 1 y.2.2.2.2.2.1)),(26,(zI y.2.2.2.2.2.2.1)),(27,(zI y.2.2.2.2.2.2.2.1))]),(hT 2 [(oC y.2.2.2.2.2.2.2.2)]))) (fun w y=>OP pu n w y.1 y.2.1 y.2.2.1 y.2.2.2.1 y.2.2.2.2.1 y.2.2.2.2.2.1 y.2.2.2.2.2.2.1 y.2.2.2.2.2.2.2.1 y.2.2.2.2.2.2.2.2) n ⟨(s1,(Db.off p0),(Db.cs p0),0,0,s2,(Int.ofNat (Sl.n s2)),(0:Int),([]:LV)),hm,(.thaw 8 1 (by kernel_rfl) (.k0 [false] [.tmp 8 false] [1,6,8,25,26,27]))⟩ (fun _=>rfl) ?_)
    rintro w0 ⟨s3,n1,q1,n2,c1,s4,z0,z1,q2⟩ hm
    replace hm:UZ pu n (OP pu n w0) s3 n1 q1 n2 c1 s4 z0 z1 q2=some v:=hm
    unfold UZ at hm
    refine .then (.rK ?_)
    replace hm:=Ae hm;obtain⟨h5,hm⟩:=hm
    refine .ghs (fr 43 [(1,Sl.v 1 s3),(6,(Cv n1 q1)),(8,sc 1 0 1 n2 c1),(25,Sl.v 1 s4),(26,zI z0),(27,zI z1),(28,(zB (AY z1 z0)))]) (hT 2 [oC q2]) (.k [1] [false] [.tmp 8 false] [1,6,8,25,26,27,28] ⟨Bq h5,trivial⟩) ?_
    refine .then ?_
    replace hm:=Ag hm;rcases hm with⟨h6,hm⟩ | ⟨h6,hm⟩
    ·refine BB (AY z1 z0) h6 ?_
     refine .skip (.ghs (fr 43 [(1,Sl.v 1 s3),(6,(Cv n1 q1)),(8,sc 1 0 1 n2 c1),(25,Sl.v 1 s4),(26,zI z0),(27,zI z1)]) (hT 2 [oC q2]) (.k [1] [false] [.tmp 8 false] [1,6,8,25,26,27] ⟨Bq h5,trivial⟩) ?_)
     refine .join (v:=v) (fun y:Sl×Nat×LV×Nat×Nat×Sl×Int×Int×LV=>((fr 43 [(1,(Sl.v 1 y.1)),(6,(Cv y.2.1 y.2.2.1)),(8,(sc 1 0 1 y.2.2.2.1 y.2.2.2.2.1)),(25,(Sl.v 1 y.2.2.2.2.2.1)),(26,(zI y.2.2.2.2.2.2.1)),(27,(zI y.2.2.2.2.2.2.2.1))]),(hT 2 [(oC y.2.2.2.2.2.2.2.2)]))) (fun y=>UY pu n (OP pu n w0) y.1 y.2.1 y.2.2.1 y.2.2.2.1 y.2.2.2.2.1 y.2.2.2.2.2.1 y.2.2.2.2.2.2.1 y.2.2.2.2.2.2.2.1 y.2.2.2.2.2.2.2.2) ?_ ?_
     ·rintro⟨s5,n3,q3,n4,c2,s6,z2,z3,q4⟩ hm
      unfold UY at hm
      refine .rK ?_
      replace hm:=Ae hm;obtain⟨h7,hm⟩:=hm
      exact⟨(s5,n3,q3,n4,c2,s6,z2,(Aj .i64 (Int.add z3 (1:Int))),q4),hm,(.k [1] [false] [.tmp 8 false] [1,6,8,25,26,27] ⟨Bq h7,trivial⟩)⟩
     ·refine .block (.then ?_)
      replace hm:=Ab hm;obtain⟨k1,h8,hm⟩:=hm
      obtain rfl:=AR h8
      replace hm:=Ae hm;obtain⟨h9,hm⟩:=hm
      replace hm:=G9 hm;obtain⟨x4,h10,hm⟩:=hm
      refine .reg (eC 1 (keep (hT 2 [oC q2]) (bb (an (Nat.blt k1 (Sl.n s4)) true) (some (Cv (k1*1) (Sl.cs s4))) none)) (AX h9) (eD (keep (hT 2 [oC q2]) (AL (Sl.cs s4) (k1*1))) (AZ h10) (eE))) ?_
      refine .ghs (fr 43 [(1,Sl.v 1 s3),(6,(Cv n1 q1)),(8,sc 1 0 1 n2 c1),(9,(zI (Int.ofNat k1))),(10,zI x4),(25,Sl.v 1 s4),(26,zI z0),(27,(zI (Int.ofNat k1)))]) (hT 2 [oC q2]) (.k [1] [false] [.tmp 8 false] [1,6,8,9,10,25,26,27] ⟨Bq h5,trivial⟩) ?_
      refine .then ?_
      replace hm:=G9 hm;obtain⟨x5,h11,hm⟩:=hm
      refine .reg (eC 3 ((oo (pu 36 [(Cv n1 q1),Sl.v 1 s3,(zI (Int.ofNat k1))]) none fun v=>some (v,(hT 2 [oC q2])))) (AB h11) (eE)) ?_
      refine .ghs (fr 43 [(1,Sl.v 1 s3),(6,(Cv n1 q1)),(8,sc 1 0 1 n2 c1),(10,zI x4),(25,Sl.v 1 s4),(26,zI z0),(27,(zI (Int.ofNat k1))),(36,(zB (Bd x5 (0:Int))))]) (hT 2 [oC q2]) (.k [1] [false] [.tmp 8 false] [1,6,8,10,25,26,27,36] ⟨Bq h5,trivial⟩) ?_
      replace hm:=Ag hm;rcases hm with⟨h12,hm⟩ | ⟨h12,hm⟩
      ·refine BB (Bd x5 (0:Int)) h12 ?_
       replace hm:=Ae hm;obtain⟨h13,hm⟩:=hm
       refine .reg (eC 3 (Oc 1 8 n2 c1 1 1 q2 [zI x4] [] (hT 3 [oC q2,(oC [zI x4])])) (I1 h13) (eE)) ?_
       replace hm:=Ae hm;obtain⟨h14,hm⟩:=hm
       exact⟨(s3,n1,q1,(n2+1),(d2 (n2+1)),s4,z0,(Int.ofNat k1),(Br (Am 0 q2) [zI x4])),hm,(.k [3] [false] [.tmp 8 false] [1,6,8,25,26,27] ⟨Bq h14,trivial⟩)⟩
      ·refine BI (Bd x5 (0:Int)) h12 ?_
       refine .skip ?_
       exact⟨(s3,n1,q1,n2,c1,s4,z0,(Int.ofNat k1),q2),hm,(.k [1] [false] [.tmp 8 false] [1,6,8,25,26,27] ⟨Bq h5,trivial⟩)⟩
    ·refine BI (AY z1 z0) h6 ?_
     refine .exit ?_
     exact⟨(n2,c1,q2),hm,(.k [1] [false] [.tmp 8 false] [8] ⟨Bq h5,trivial⟩)⟩
 ·replace hm:=Ae hm;obtain⟨h15,hm⟩:=hm
  obtain rfl:=MG h15
  replace hm:=Ai hm;obtain⟨x6,rfl,hm⟩:=hm
  refine .reg (eC 3 (Hr tabs 1 (pu 32) [(.agg ⟨[zI x0,zI x1,zI x2,Sl.v 1 s0]⟩),sc 2 0 1 1 3] (hT 3 [(oC [zI x0,zI x1,zI x2,Sl.v 1 s0]),(oC [Sl.v 1 s1])])) (KI (DZ (CV (z:=1) (v:=(.agg ⟨[zI x0,zI x1,zI x2,Sl.v 1 s0]⟩)) (H:=(hT 3 [(oC [zI x0,zI x1,zI x2,Sl.v 1 s0]),(oC [Sl.v 1 s1])])) (by kernel_rfl) (by kernel_rfl) (by kernel_rfl)) (DZ (show ER 1 (sc 2 0 1 1 3) (hT 3 [(oC [zI x0,zI x1,zI x2,Sl.v 1 s0]),(oC [Sl.v 1 s1])])=some ((Sl.v 1 (Sl.mk 1 0 (Aq (1*1) (Am 0 ([Sl.v 1 s1]:LV))))),(hT 3 [(oC [zI x0,zI x1,zI x2,Sl.v 1 s0]),.dead])) from KH 2 0 1 1 3 ([Sl.v 1 s1]:LV) [] (by kernel_rfl) (by kernel_rfl) (by kernel_rfl)) Jt)) (by kernel_rfl) h0) (eE)) ?_
  refine .ghs (fr 43 [(1,Sl.v 1 s1),(6,(.pointer none)),(7,zI x6)]) Ay (.k0 [false] [] [1,6,7]) ?_
  refine .then (.then (.rK (.ghs (fr 43 [(1,Sl.v 1 s1),(6,(.pointer none)),(7,zI x6),(19,(zB (nt (Bd x6 (0:Int)))))]) Ay (.k0 [false] [] [1,6,7,19]) ?_)))
  replace hm:=Ag hm;rcases hm with⟨h16,hm⟩ | ⟨h16,hm⟩
  ·refine BB (nt (Bd x6 (0:Int))) h16 ?_
   refine .then (.rK (.ghs (fr 43 [(4,(.slice none 0 0)),(5,zI x6)]) Ay (.k0 [false] [] [4,5]) ?_))
   refine .ghs (Fr.puts (fr 43 [(4,(.slice none 0 0)),(5,zI x6)]) [(4,(Sl.v 1 (Sl.mk 0 2 [])))]) Ay (.freeze 1 4 1 (by kernel_rfl) (by kernel_rfl) (E9.id _ _)) ?_
   refine .ret ?_
   exact AO (.tuple ⟨[(Sl.v 1 (Sl.mk 0 2 [])),zI x6]⟩) hm
  ·refine BI (nt (Bd x6 (0:Int))) h16 ?_
   refine .skip (.ghs (fr 43 [(1,Sl.v 1 s1),(6,(.pointer none))]) Ay (.k0 [false] [] [1,6]) ?_)
   refine .then (.rK (.ghs (fr 43 [(1,Sl.v 1 s1),(6,(.pointer none)),(8,(.slice none 0 0))]) Ay (.k0 [false] [] [1,6,8]) ?_))
   refine .then (.then ?_)
   cases hm

def iY (pu:Af) (n:Nat) (x0 x1 x2:Int) (s0 s1:Sl):OV:=
 (oo (pu 32 [(.agg ⟨[.int .i64 x0,.int .i64 x1,.int .i64 x2,Sl.v 1 s0]⟩),(Sl.v 1 (Sl.mk 1 0 (Aq (1*1) (Am 0 ([Sl.v 1 s1]:LV)))))]) none fun v0=>(oo (CQ v0) none fun l0=>(ll l0 none fun v1 l0=>(ll l0 none fun v2 l0=>(ll l0 (bb (isS (Pv v1)) (oo (Pv v1) none fun p0=>(oo (Bi .i64 v2) none fun x3=>(bb (nt (Bd x3 (0:Int))) (some (.tuple ⟨[(Sl.v 1 (Sl.mk 0 2 [])),.int .i64 x3]⟩)) (oo (pu 10400 [(Sl.v 1 (Sl.mk 0 2 [])),(.int .i64 (0:Int)),(.pointer (some ⟨1,0,none⟩)),(.pointer (some ⟨2,0,none⟩)),(.pointer (some ⟨3,0,none⟩)),(.pointer (some ⟨4,0,none⟩)),(.pointer (some ⟨5,0,none⟩)),(.agg ⟨[(Cv (Db.off p0) (Db.cs p0))]⟩),(.agg ⟨[Sl.v 1 s1]⟩),(.agg ⟨[(.int .i64 (64:Int))]⟩),(.agg ⟨[(Sl.v 1 (Sl.mk 0 2 []))]⟩),(.agg ⟨[(.func (.func 40) ⟨[]⟩ ⟨[(.pointer (some ⟨1,0,none⟩)),(.pointer (some ⟨2,0,none⟩)),(.pointer (some ⟨3,0,none⟩)),(.pointer (some ⟨4,0,none⟩)),(.pointer (some ⟨5,0,none⟩))]⟩)]⟩)]) none fun v3=>(oo (CQ v3) none fun l1=>(ll l1 none fun v4 l1=>(ll l1 none fun v5 l1=>(ll l1 none fun v6 l1=>(ll l1 none fun v7 l1=>(ll l1 none fun v8 l1=>(ll l1 none fun v9 l1=>(ll l1 (bb (MC v4) (oo (Bt v5) none fun l2=>(ll l2 none fun v10 l2=>(ll l2 (oo (Pv v10) none fun p1=>(oo (Bt v6) none fun l3=>(ll l3 none fun v11 l3=>(ll l3 (oo (Bj 1 v11) none fun s2=>(oo (Bt v7) none fun l4=>(ll l4 none fun v12 l4=>(ll l4 (oo (Bi .i64 v12) none fun x4=>(oo (Bt v8) none fun l5=>(ll l5 none fun v13 l5=>(ll l5 (oo (Bj 1 v13) none fun s3=>(oo (Bt v9) none fun l6=>(ll l6 none fun v14 l6=>(ll l6 (oo (Om 40 0 v14) none fun l7=>(ll l7 none fun v15 l7=>(ll l7 none fun v16 l7=>(ll l7 none fun v17 l7=>(ll l7 none fun v18 l7=>(ll l7 none fun v19 l7=>(ll l7 (bb (MK v15 1 0) (bb (MK v16 2 0) (bb (MK v17 3 0) (bb (MK v18 4 0) (bb (MK v19 5 0) (some (.tuple ⟨[Sl.v 1 s3,(.int .i64 (0:Int))]⟩)) none) none) none) none) none) fun _ _=>none))))))) fun _ _=>none)))) fun _ _=>none)))) fun _ _=>none)))) fun _ _=>none)))) fun _ _=>none))) none) fun _ _=>none)))))))))))) (bb (WE v1) (oo (Bi .i64 v2) none fun x5=>(bb (nt (Bd x5 (0:Int))) (some (.tuple ⟨[(Sl.v 1 (Sl.mk 0 2 [])),.int .i64 x5]⟩)) none)) none)) fun _ _=>none)))))
def m20 (pu:Af) (n:Nat) (args:LV):OV:=
 (ll args none fun a0 args=>(ll args none fun a1 args=>(ll args (oo (Bt a0) none fun l0=>(ll l0 none fun v0 l0=>(ll l0 none fun v1 l0=>(ll l0 none fun v2 l0=>(ll l0 none fun v3 l0=>(ll l0 (oo (Bi .i64 v0) none fun x0=>(oo (Bi .i64 v1) none fun x1=>(oo (Bi .i64 v2) none fun x2=>(oo (Bj 1 v3) none fun s0=>(oo (Bj 1 a1) none fun s1=>(iY pu n x0 x1 x2 s0 s1)))))) fun _ _=>none)))))) fun _ _=>none)))
theorem r20 {call:A8} (pu:Af) (n:Nat) (hcall:call=Bb tabs isP pu (inl pu)) {args:LV} {v:Value} (hm:m20 pu n args=some v) (_:∀ x∈args,closed2 x=true):args.length≤25∧BN tt call 1 SB (Fr.made 25 args) (Ao tabs) (Fin tt 1 [.tmp 4,.tmp 5] v):=by
 subst hcall
 unfold m20 at hm
 replace hm:=Ad hm;obtain⟨a0,args_0,rfl,hm⟩:=hm
 replace hm:=Ad hm;obtain⟨a1,args_1,rfl,hm⟩:=hm
 replace hm:=AC hm;obtain⟨rfl,hm⟩:=hm
 replace hm:=BG hm;obtain⟨l0,rfl,hm⟩:=hm
 replace hm:=Ad hm;obtain⟨v0,l1327_0,rfl,hm⟩:=hm
 replace hm:=Ad hm;obtain⟨v1,l1327_1,rfl,hm⟩:=hm
 replace hm:=Ad hm;obtain⟨v2,l1327_2,rfl,hm⟩:=hm
 replace hm:=Ad hm;obtain⟨v3,l1327_3,rfl,hm⟩:=hm
 replace hm:=AC hm;obtain⟨rfl,hm⟩:=hm
 replace hm:=Ai hm;obtain⟨x0,rfl,hm⟩:=hm
 replace hm:=Ai hm;obtain⟨x1,rfl,hm⟩:=hm
 replace hm:=Ai hm;obtain⟨x2,rfl,hm⟩:=hm
 replace hm:=Al hm;obtain⟨s0,rfl,hm⟩:=hm
 replace hm:=Al hm;obtain⟨s1,rfl,hm⟩:=hm
 unfold iY at hm
 refine⟨by simp,?_⟩
 refine .same (F':=(fr 25 [(0,(.agg ⟨[zI x0,zI x1,zI x2,Sl.v 1 s0]⟩)),(1,Sl.v 1 s1)])) (H':=Ay) (by kernel_rfl) (by kernel_rfl) ?_
 refine .then (.rK (.ghs (fr 25 [(2,pt 1 0),(3,(pt 2 0))]) (hT 3 [(oC [zI x0,zI x1,zI x2,Sl.v 1 s0]),(oC [Sl.v 1 s1])]) (.k0 [false] [.tmp 2 false,.tmp 3 false] [2,3]) ?_))
 refine .then ?_
 replace hm:=Ab hm;obtain⟨v4,h0,hm⟩:=hm
 replace hm:=Ch hm;obtain⟨l1,rfl,hm⟩:=hm
 replace hm:=Ad hm;obtain⟨v5,l1356_0,rfl,hm⟩:=hm
 replace hm:=Ad hm;obtain⟨v6,l1356_1,rfl,hm⟩:=hm
 replace hm:=AC hm;obtain⟨rfl,hm⟩:=hm
 replace hm:=Ag hm;rcases hm with⟨h1,hm⟩ | ⟨h1,hm⟩
 ·replace hm:=Ab hm;obtain⟨p0,h2,hm⟩:=hm
  obtain rfl:=F7 h2
  replace hm:=Ai hm;obtain⟨x3,rfl,hm⟩:=hm
  refine .reg (eC 3 (Hr tabs 1 (pu 32) [(.agg ⟨[zI x0,zI x1,zI x2,Sl.v 1 s0]⟩),sc 3 0 1 1 3] (hT 4 [(oC [zI x0,zI x1,zI x2,Sl.v 1 s0]),(oC [Sl.v 1 s1]),(oC [Sl.v 1 s1])])) (KI (DZ (CV (z:=1) (v:=(.agg ⟨[zI x0,zI x1,zI x2,Sl.v 1 s0]⟩)) (H:=(hT 4 [(oC [zI x0,zI x1,zI x2,Sl.v 1 s0]),(oC [Sl.v 1 s1]),(oC [Sl.v 1 s1])])) (by kernel_rfl) (by kernel_rfl) (by kernel_rfl)) (DZ (show ER 1 (sc 3 0 1 1 3) (hT 4 [(oC [zI x0,zI x1,zI x2,Sl.v 1 s0]),(oC [Sl.v 1 s1]),(oC [Sl.v 1 s1])])=some ((Sl.v 1 (Sl.mk 1 0 (Aq (1*1) (Am 0 ([Sl.v 1 s1]:LV))))),(hT 4 [(oC [zI x0,zI x1,zI x2,Sl.v 1 s0]),(oC [Sl.v 1 s1]),.dead])) from KH 3 0 1 1 3 ([Sl.v 1 s1]:LV) [] (by kernel_rfl) (by kernel_rfl) (by kernel_rfl)) Jt)) (by kernel_rfl) h0) (eE)) ?_
  refine .ghs (fr 25 [(3,pt 1 0),(6,(pt 2 0)),(7,zI x3)]) (hT 3 [(oC [Sl.v 1 s1]),(oC [(Cv (Db.off p0) (Db.cs p0))])]) (.k0 [false] [.tmp 3 false,.tmp 6 false] [3,6,7]) ?_
  refine .then (.then (.rK (.ghs (fr 25 [(3,pt 1 0),(6,(pt 2 0)),(7,zI x3),(19,(zB (nt (Bd x3 (0:Int)))))]) (hT 3 [(oC [Sl.v 1 s1]),(oC [(Cv (Db.off p0) (Db.cs p0))])]) (.k0 [false] [.tmp 3 false,.tmp 6 false] [3,6,7,19]) ?_)))
  replace hm:=Ag hm;rcases hm with⟨h3,hm⟩ | ⟨h3,hm⟩
  ·refine BB (nt (Bd x3 (0:Int))) h3 ?_
   refine .then (.rK (.ghs (fr 25 [(4,(.slice none 0 0)),(5,zI x3)]) Ay (.k0 [false] [] [4,5]) ?_))
   refine .ghs (Fr.puts (fr 25 [(4,(.slice none 0 0)),(5,zI x3)]) [(4,(Sl.v 1 (Sl.mk 0 2 [])))]) Ay (.freeze 1 4 1 (by kernel_rfl) (by kernel_rfl) (E9.id _ _)) ?_
   refine .ret ?_
   exact AO (.tuple ⟨[(Sl.v 1 (Sl.mk 0 2 [])),zI x3]⟩) hm
  ·refine BI (nt (Bd x3 (0:Int))) h3 ?_
   refine .skip (.ghs (fr 25 [(3,pt 1 0),(6,(pt 2 0))]) (hT 3 [(oC [Sl.v 1 s1]),(oC [(Cv (Db.off p0) (Db.cs p0))])]) (.k0 [false] [.tmp 3 false,.tmp 6 false] [3,6]) ?_)
   refine .then (.rG (NY.seg 1 (Fr.puts (fr 25 [(3,pt 1 0),(6,(pt 2 0))]) [(8,(pt 3 0))]) (hT 4 [(oC [Sl.v 1 s1]),(oC [(Cv (Db.off p0) (Db.cs p0))]),(oC [(.slice none 0 0)])]) (by kernel_rfl) (NY.ghs (Fr.puts (fr 25 [(3,pt 1 0),(6,(pt 2 0))]) [(8,(pt 3 0))]) (hT 4 [(oC [Sl.v 1 s1]),(oC [(Cv (Db.off p0) (Db.cs p0))]),(oC [(Sl.v 1 (Sl.mk 0 2 []))])]) (.nilC 3 0 1 [(.slice none 0 0)] (imm:=false) (spent:=false) (anc:=[]) (by kernel_rfl) (by kernel_rfl) (by kernel_rfl) (E9.id _ _)) (NY.fin eE))) ?_)
   refine .ghs (fr 25 [(3,pt 1 0),(6,(pt 2 0)),(8,(pt 3 0))]) (hT 4 [(oC [Sl.v 1 s1]),(oC [(Cv (Db.off p0) (Db.cs p0))]),(oC [(Sl.v 1 (Sl.mk 0 2 []))])]) (.k0 [false] [.tmp 3 false,.tmp 6 false,.tmp 8 false] [3,6,8]) ?_
   refine .then (.rK (.ghs (fr 25 [(3,pt 1 0),(6,(pt 2 0)),(8,(pt 3 0)),(9,(pt 4 0))]) (hT 5 [(oC [Sl.v 1 s1]),(oC [(Cv (Db.off p0) (Db.cs p0))]),(oC [(Sl.v 1 (Sl.mk 0 2 []))]),(oC [(zI (64:Int))])]) (.k0 [false] [.tmp 3 false,.tmp 6 false,.tmp 8 false,.tmp 9 false] [3,6,8,9]) ?_))
   refine .then (.rK (.ghs (fr 25 [(3,pt 1 0),(6,(pt 2 0)),(8,(pt 3 0)),(9,(pt 4 0)),(10,(pt 5 0))]) (hT 6 [(oC [Sl.v 1 s1]),(oC [(Cv (Db.off p0) (Db.cs p0))]),(oC [(Sl.v 1 (Sl.mk 0 2 []))]),(oC [(zI (64:Int))]),(oC [.nilFunc])]) (.k0 [false] [.tmp 3 false,.tmp 6 false,.tmp 8 false,.tmp 9 false,.tmp 10 false] [3,6,8,9,10]) ?_))
   refine .then (.rK (.ghs (fr 25 [(8,pt 1 0),(10,(pt 2 0))]) (hT 6 [(oC [(Sl.v 1 (Sl.mk 0 2 []))]),(oC [(.func (.func 40) ⟨[]⟩ ⟨[(pt 3 0),(pt 4 0),(pt 5 0),pt 1 0,(pt 2 0)]⟩)]),(oC [(Cv (Db.off p0) (Db.cs p0))]),(oC [Sl.v 1 s1]),(oC [(zI (64:Int))])]) (.k0 [false] [.tmp 8 false,.tmp 10 true,.ccap 2 0 0 false,.ccap 2 0 1 false,.ccap 2 0 2 false] [8,10]) ?_))
   refine .then ?_
   replace hm:=Ab hm;obtain⟨v7,h4,hm⟩:=hm
   replace hm:=Ch hm;obtain⟨l2,rfl,hm⟩:=hm
   replace hm:=Ad hm;obtain⟨v8,l2435_0,rfl,hm⟩:=hm
   replace hm:=Ad hm;obtain⟨v9,l2435_1,rfl,hm⟩:=hm
   replace hm:=Ad hm;obtain⟨v10,l2435_2,rfl,hm⟩:=hm
   replace hm:=Ad hm;obtain⟨v11,l2435_3,rfl,hm⟩:=hm
   replace hm:=Ad hm;obtain⟨v12,l2435_4,rfl,hm⟩:=hm
   replace hm:=Ad hm;obtain⟨v13,l2435_5,rfl,hm⟩:=hm
   replace hm:=AC hm;obtain⟨rfl,hm⟩:=hm
   replace hm:=Ae hm;obtain⟨h5,hm⟩:=hm
   obtain rfl:=Oo h5
   replace hm:=BG hm;obtain⟨l3,rfl,hm⟩:=hm
   replace hm:=Ad hm;obtain⟨v14,l2444_0,rfl,hm⟩:=hm
   replace hm:=AC hm;obtain⟨rfl,hm⟩:=hm
   replace hm:=Ab hm;obtain⟨p1,h6,hm⟩:=hm
   obtain rfl:=F7 h6
   replace hm:=BG hm;obtain⟨l4,rfl,hm⟩:=hm
   replace hm:=Ad hm;obtain⟨v15,l2449_0,rfl,hm⟩:=hm
   replace hm:=AC hm;obtain⟨rfl,hm⟩:=hm
   replace hm:=Al hm;obtain⟨s2,rfl,hm⟩:=hm
   replace hm:=BG hm;obtain⟨l5,rfl,hm⟩:=hm
   replace hm:=Ad hm;obtain⟨v16,l2454_0,rfl,hm⟩:=hm
   replace hm:=AC hm;obtain⟨rfl,hm⟩:=hm
   replace hm:=Ai hm;obtain⟨x4,rfl,hm⟩:=hm
   replace hm:=BG hm;obtain⟨l6,rfl,hm⟩:=hm
   replace hm:=Ad hm;obtain⟨v17,l2459_0,rfl,hm⟩:=hm
   replace hm:=AC hm;obtain⟨rfl,hm⟩:=hm
   replace hm:=Al hm;obtain⟨s3,rfl,hm⟩:=hm
   replace hm:=BG hm;obtain⟨l7,rfl,hm⟩:=hm
   replace hm:=Ad hm;obtain⟨v18,l2464_0,rfl,hm⟩:=hm
   replace hm:=AC hm;obtain⟨rfl,hm⟩:=hm
   replace hm:=Ab hm;obtain⟨l8,h7,hm⟩:=hm
   obtain rfl:=Hu h7
   replace hm:=Ad hm;obtain⟨v19,l2467_0,rfl,hm⟩:=hm
   replace hm:=Ad hm;obtain⟨v20,l2467_1,rfl,hm⟩:=hm
   replace hm:=Ad hm;obtain⟨v21,l2467_2,rfl,hm⟩:=hm
   replace hm:=Ad hm;obtain⟨v22,l2467_3,rfl,hm⟩:=hm
   replace hm:=Ad hm;obtain⟨v23,l2467_4,rfl,hm⟩:=hm
   replace hm:=AC hm;obtain⟨rfl,hm⟩:=hm
   replace hm:=Ae hm;obtain⟨h8,hm⟩:=hm
   obtain rfl:=KR h8
   replace hm:=Ae hm;obtain⟨h9,hm⟩:=hm
   obtain rfl:=KR h9
   replace hm:=Ae hm;obtain⟨h10,hm⟩:=hm
   obtain rfl:=KR h10
   replace hm:=Ae hm;obtain⟨h11,hm⟩:=hm
   obtain rfl:=KR h11
   replace hm:=Ae hm;obtain⟨h12,hm⟩:=hm
   obtain rfl:=KR h12
   refine .reg (eC 1 (EK tabs [[some 1],[none],[none],[none],[none],[none],[none]] 7 [.tmp 2 false,.tmp 3 false,.tmp 4 false,.tmp 5 false,.tmp 6 true] [false,false,false,false,true] (pu 10400) [(.slice none 0 0),(zI (0:Int)),(pt 3 0),(pt 4 0),(pt 5 0),pt 1 0,(pt 2 0)] (hT 6 [(oC [(Sl.v 1 (Sl.mk 0 2 []))]),(oC [(.func (.func 40) ⟨[]⟩ ⟨[(pt 3 0),(pt 4 0),(pt 5 0),pt 1 0,(pt 2 0)]⟩)]),(oC [(Cv (Db.off p0) (Db.cs p0))]),(oC [Sl.v 1 s1]),(oC [(zI (64:Int))])])) (EL (as:=[(Sl.v 1 (Sl.mk 0 2 [])),(zI (0:Int)),(pt 3 0),(pt 4 0),(pt 5 0),pt 1 0,(pt 2 0)]) (H1:=(hT 6 [(oC [(Sl.v 1 (Sl.mk 0 2 []))]),(oC [(.func (.func 40) ⟨[]⟩ ⟨[(pt 3 0),(pt 4 0),(pt 5 0),pt 1 0,(pt 2 0)]⟩)]),(oC [(Cv (Db.off p0) (Db.cs p0))]),(oC [Sl.v 1 s1]),(oC [(zI (64:Int))])])) (BS (Dm (KQ (Ju (z:=1) (H:=(hT 6 [(oC [(Sl.v 1 (Sl.mk 0 2 []))]),(oC [(.func (.func 40) ⟨[]⟩ ⟨[(pt 3 0),(pt 4 0),(pt 5 0),pt 1 0,(pt 2 0)]⟩)]),(oC [(Cv (Db.off p0) (Db.cs p0))]),(oC [Sl.v 1 s1]),(oC [(zI (64:Int))])]))))) (BS (Dm Dk) (BS (Dm Dk) (BS (Dm Dk) (BS (Dm Dk) (BS (Dm Dk) (BS (Dm Dk) Gj))))))) (EI (H2:=(hT 6 [(oC [Sl.v 1 s3]),(oC [(.func (.func 40) ⟨[]⟩ ⟨[(pt 3 0),(pt 4 0),(pt 5 0),pt 1 0,(pt 2 0)]⟩)]),(oC [(Cv (Db.off p1) (Db.cs p1))]),(oC [Sl.v 1 s2]),(oC [zI x4])])) (v:=(.tuple ⟨[]⟩)) (v':=(.tuple ⟨[]⟩)) [some 0,some 3,some 4,some 5,some 1,some 2] [(false,some 3),(false,some 4),(false,some 5),(false,some 1),(true,some 2)] [(oC [(Cv (Db.off p0) (Db.cs p0))]),(oC [Sl.v 1 s1]),(oC [(zI (64:Int))]),(oC [(Sl.v 1 (Sl.mk 0 2 []))]),(oC [(.func (.func 40) ⟨[]⟩ ⟨[pt 1 0,(pt 2 0),(pt 3 0),(pt 4 0),(pt 5 0)]⟩)])] [(Sl.v 1 (Sl.mk 0 2 [])),(zI (0:Int)),pt 1 0,(pt 2 0),(pt 3 0),(pt 4 0),(pt 5 0)] [(.agg ⟨[(Cv (Db.off p1) (Db.cs p1))]⟩),(.agg ⟨[Sl.v 1 s2]⟩),(.agg ⟨[zI x4]⟩),(.agg ⟨[Sl.v 1 s3]⟩),(.agg ⟨[(.func (.func 40) ⟨[]⟩ ⟨[pt 1 0,(pt 2 0),(pt 3 0),(pt 4 0),(pt 5 0)]⟩)]⟩)] [(oC [(Cv (Db.off p1) (Db.cs p1))]),(oC [Sl.v 1 s2]),(oC [zI x4]),(oC [Sl.v 1 s3]),(oC [(.func (.func 40) ⟨[]⟩ ⟨[pt 1 0,(pt 2 0),(pt 3 0),(pt 4 0),(pt 5 0)]⟩)])] [some 0,some 4,some 5,some 1,some 2,some 3] [(false,(oC [(Cv (Db.off p1) (Db.cs p1))])),(false,(oC [Sl.v 1 s2])),(false,(oC [zI x4])),(false,(oC [Sl.v 1 s3])),(true,(oC [(.func (.func 40) ⟨[]⟩ ⟨[pt 1 0,(pt 2 0),(pt 3 0),(pt 4 0),(pt 5 0)]⟩)]))] [(oC [(Cv (Db.off p1) (Db.cs p1))]),(oC [Sl.v 1 s2]),(oC [zI x4]),(oC [Sl.v 1 s3]),(oC [(.func (.func 40) ⟨[]⟩ ⟨[(pt 3 0),(pt 4 0),(pt 5 0),pt 1 0,(pt 2 0)]⟩)])] (by kernel_rfl) (En (by kernel_rfl) (En (by kernel_rfl) (En (by kernel_rfl) (En (by kernel_rfl) (En (by kernel_rfl) BX))))) (Eq.trans (by kernel_rfl) h4) (En rfl (En rfl (En rfl (En rfl (En rfl BX))))) (En (by kernel_rfl) (En (by kernel_rfl) (En (by kernel_rfl) (En (by kernel_rfl) (En (by kernel_rfl) BX))))))) (eE)) ?_
   refine .ghs (fr 25 [(8,pt 1 0)]) (hT 2 [(oC [Sl.v 1 s3])]) (.k0 [false] [.tmp 8 false] [8]) ?_
   refine .then (.rK (.ghs (fr 25 [(4,Sl.v 1 s3),(5,(zI (0:Int)))]) Ay (.k0 [false] [] [4,5]) ?_))
   refine .ret ?_
   exact AO (.tuple ⟨[Sl.v 1 s3,(zI (0:Int))]⟩) hm
 ·replace hm:=Ae hm;obtain⟨h13,hm⟩:=hm
  obtain rfl:=MG h13
  replace hm:=Ai hm;obtain⟨x5,rfl,hm⟩:=hm
  refine .reg (eC 3 (Hr tabs 1 (pu 32) [(.agg ⟨[zI x0,zI x1,zI x2,Sl.v 1 s0]⟩),sc 3 0 1 1 3] (hT 4 [(oC [zI x0,zI x1,zI x2,Sl.v 1 s0]),(oC [Sl.v 1 s1]),(oC [Sl.v 1 s1])])) (KI (DZ (CV (z:=1) (v:=(.agg ⟨[zI x0,zI x1,zI x2,Sl.v 1 s0]⟩)) (H:=(hT 4 [(oC [zI x0,zI x1,zI x2,Sl.v 1 s0]),(oC [Sl.v 1 s1]),(oC [Sl.v 1 s1])])) (by kernel_rfl) (by kernel_rfl) (by kernel_rfl)) (DZ (show ER 1 (sc 3 0 1 1 3) (hT 4 [(oC [zI x0,zI x1,zI x2,Sl.v 1 s0]),(oC [Sl.v 1 s1]),(oC [Sl.v 1 s1])])=some ((Sl.v 1 (Sl.mk 1 0 (Aq (1*1) (Am 0 ([Sl.v 1 s1]:LV))))),(hT 4 [(oC [zI x0,zI x1,zI x2,Sl.v 1 s0]),(oC [Sl.v 1 s1]),.dead])) from KH 3 0 1 1 3 ([Sl.v 1 s1]:LV) [] (by kernel_rfl) (by kernel_rfl) (by kernel_rfl)) Jt)) (by kernel_rfl) h0) (eE)) ?_
  refine .ghs (fr 25 [(3,pt 1 0),(6,(pt 2 0)),(7,zI x5)]) (hT 3 [(oC [Sl.v 1 s1]),(oC [(.pointer none)])]) (.k0 [false] [.tmp 3 false,.tmp 6 false] [3,6,7]) ?_
  refine .then (.then (.rK (.ghs (fr 25 [(3,pt 1 0),(6,(pt 2 0)),(7,zI x5),(19,(zB (nt (Bd x5 (0:Int)))))]) (hT 3 [(oC [Sl.v 1 s1]),(oC [(.pointer none)])]) (.k0 [false] [.tmp 3 false,.tmp 6 false] [3,6,7,19]) ?_)))
  replace hm:=Ag hm;rcases hm with⟨h14,hm⟩ | ⟨h14,hm⟩
  ·refine BB (nt (Bd x5 (0:Int))) h14 ?_
   refine .then (.rK (.ghs (fr 25 [(4,(.slice none 0 0)),(5,zI x5)]) Ay (.k0 [false] [] [4,5]) ?_))
   refine .ghs (Fr.puts (fr 25 [(4,(.slice none 0 0)),(5,zI x5)]) [(4,(Sl.v 1 (Sl.mk 0 2 [])))]) Ay (.freeze 1 4 1 (by kernel_rfl) (by kernel_rfl) (E9.id _ _)) ?_
   refine .ret ?_
   exact AO (.tuple ⟨[(Sl.v 1 (Sl.mk 0 2 [])),zI x5]⟩) hm
  ·refine BI (nt (Bd x5 (0:Int))) h14 ?_
   refine .skip (.ghs (fr 25 [(3,pt 1 0),(6,(pt 2 0))]) (hT 3 [(oC [Sl.v 1 s1]),(oC [(.pointer none)])]) (.k0 [false] [.tmp 3 false,.tmp 6 false] [3,6]) ?_)
   refine .then (.rG (NY.seg 1 (Fr.puts (fr 25 [(3,pt 1 0),(6,(pt 2 0))]) [(8,(pt 3 0))]) (hT 4 [(oC [Sl.v 1 s1]),(oC [(.pointer none)]),(oC [(.slice none 0 0)])]) (by kernel_rfl) (NY.ghs (Fr.puts (fr 25 [(3,pt 1 0),(6,(pt 2 0))]) [(8,(pt 3 0))]) (hT 4 [(oC [Sl.v 1 s1]),(oC [(.pointer none)]),(oC [(Sl.v 1 (Sl.mk 0 2 []))])]) (.nilC 3 0 1 [(.slice none 0 0)] (imm:=false) (spent:=false) (anc:=[]) (by kernel_rfl) (by kernel_rfl) (by kernel_rfl) (E9.id _ _)) (NY.fin eE))) ?_)
   refine .ghs (fr 25 [(3,pt 1 0),(6,(pt 2 0)),(8,(pt 3 0))]) (hT 4 [(oC [Sl.v 1 s1]),(oC [(.pointer none)]),(oC [(Sl.v 1 (Sl.mk 0 2 []))])]) (.k0 [false] [.tmp 3 false,.tmp 6 false,.tmp 8 false] [3,6,8]) ?_
   refine .then (.rK (.ghs (fr 25 [(3,pt 1 0),(6,(pt 2 0)),(8,(pt 3 0)),(9,(pt 4 0))]) (hT 5 [(oC [Sl.v 1 s1]),(oC [(.pointer none)]),(oC [(Sl.v 1 (Sl.mk 0 2 []))]),(oC [(zI (64:Int))])]) (.k0 [false] [.tmp 3 false,.tmp 6 false,.tmp 8 false,.tmp 9 false] [3,6,8,9]) ?_))
   refine .then (.rK (.ghs (fr 25 [(3,pt 1 0),(6,(pt 2 0)),(8,(pt 3 0)),(9,(pt 4 0)),(10,(pt 5 0))]) (hT 6 [(oC [Sl.v 1 s1]),(oC [(.pointer none)]),(oC [(Sl.v 1 (Sl.mk 0 2 []))]),(oC [(zI (64:Int))]),(oC [.nilFunc])]) (.k0 [false] [.tmp 3 false,.tmp 6 false,.tmp 8 false,.tmp 9 false,.tmp 10 false] [3,6,8,9,10]) ?_))
   refine .then (.rK (.ghs (fr 25 [(8,pt 1 0),(10,(pt 2 0))]) (hT 6 [(oC [(Sl.v 1 (Sl.mk 0 2 []))]),(oC [(.func (.func 40) ⟨[]⟩ ⟨[(pt 3 0),(pt 4 0),(pt 5 0),pt 1 0,(pt 2 0)]⟩)]),(oC [(.pointer none)]),(oC [Sl.v 1 s1]),(oC [(zI (64:Int))])]) (.k0 [false] [.tmp 8 false,.tmp 10 true,.ccap 2 0 0 false,.ccap 2 0 1 false,.ccap 2 0 2 false] [8,10]) ?_))
   refine .then ?_
   cases hm

def AfB (pu:Af) (n:Nat) (s0:Sl):OV:=
 (some (Sl.v 1 s0))
def m22 (pu:Af) (n:Nat) (args:LV):OV:=
 (ll args none fun a0 args=>(ll args (oo (Bj 1 a0) none fun s0=>(AfB pu n s0)) fun _ _=>none))
theorem r22 {call:A8} (pu:Af) (n:Nat) (hcall:call=Bb tabs isP pu (inl pu)) {args:LV} {v:Value} (hm:m22 pu n args=some v) (_:∀ x∈args,closed2 x=true):args.length≤4∧BN tt call 1 Xg (Fr.made 4 args) (Ao tabs) (Fin tt 1 [.tmp 2] v):=by
 subst hcall
 unfold m22 at hm
 replace hm:=Ad hm;obtain⟨a0,args_0,rfl,hm⟩:=hm
 replace hm:=AC hm;obtain⟨rfl,hm⟩:=hm
 replace hm:=Al hm;obtain⟨s0,rfl,hm⟩:=hm
 unfold AfB at hm
 refine⟨by simp,?_⟩
 refine .same (F':=(fr 4 [(0,Sl.v 1 s0)])) (H':=Ay) (by kernel_rfl) (by kernel_rfl) ?_
 refine .then (.rK (.ghs (fr 4 [(0,Sl.v 1 s0)]) Ay (.k0 [false] [] [0]) ?_))
 refine .then (.rK (.ghs (fr 4 [(2,Sl.v 1 s0)]) Ay (.k0 [false] [] [2]) ?_))
 refine .ret ?_
 exact AO (Sl.v 1 s0) hm
def U0 (pu:Af) (n n0:Nat) (q0:LV) (z0:Int):OV:=
 (oo (AL q0 ((n0+0)+3)) none fun v0=>(oo (Bj 1 v0) none fun s0=>(bb (nt (Bd (Int.ofNat (Sl.n s0)) (0:Int))) (some (.tuple ⟨[(.int .i64 (Aj .i64 (Int.tdiv z0 (Int.ofNat (Sl.n s0))))),(.int .i64 (0:Int))]⟩)) none)))
def Pn (pu:Af) (n:Nat) (ih0:Nat→LV→Int→Int→Int→OV) (n0:Nat) (q0:LV) (z0 z1 z2:Int):OV:=
 (bb (AY z2 z1) (oo (pu 50 [(Cv n0 q0),.int .i64 z2]) none fun v0=>(oo (Bi .i64 v0) none fun x0=>(ih0 n0 q0 (Aj .i64 (Int.add z0 x0)) z1 (Aj .i64 (Int.add z2 (1:Int)))))) (U0 pu n n0 q0 z0))
def RO (pu:Af) (n w:Nat):Nat→LV→Int→Int→Int→OV:=
 Nat.rec (motive:=fun _=>Nat→LV→Int→Int→Int→OV) (fun _ _ _ _ _=>none) (fun _ ih0=>Pn pu n ih0) w
def iZ (pu:Af) (n:Nat) (x0 x1 x2:Int) (s0:Sl):OV:=
 (oo (pu 49 [(.agg ⟨[.int .i64 x0,.int .i64 x1,.int .i64 x2,Sl.v 1 s0]⟩)]) none fun v0=>(oo (CQ v0) none fun l0=>(ll l0 none fun v1 l0=>(ll l0 none fun v2 l0=>(ll l0 (bb (isS (Pv v1)) (oo (Pv v1) none fun p0=>(oo (Bi .i64 v2) none fun x3=>(bb (nt (Bd x3 (0:Int))) (some (.tuple ⟨[(.int .i64 (0:Int)),.int .i64 x3]⟩)) (oo (AL (Db.cs p0) (((Db.off p0)+0)+3)) none fun v3=>(oo (Bj 1 v3) none fun s1=>(RO pu n n (Db.off p0) (Db.cs p0) (0:Int) (Int.ofNat (Sl.n s1)) (0:Int))))))) (bb (WE v1) (oo (Bi .i64 v2) none fun x4=>(bb (nt (Bd x4 (0:Int))) (some (.tuple ⟨[(.int .i64 (0:Int)),.int .i64 x4]⟩)) none)) none)) fun _ _=>none)))))
def m23 (pu:Af) (n:Nat) (args:LV):OV:=
 (ll args none fun a0 args=>(ll args (oo (Bt a0) none fun l0=>(ll l0 none fun v0 l0=>(ll l0 none fun v1 l0=>(ll l0 none fun v2 l0=>(ll l0 none fun v3 l0=>(ll l0 (oo (Bi .i64 v0) none fun x0=>(oo (Bi .i64 v1) none fun x1=>(oo (Bi .i64 v2) none fun x2=>(oo (Bj 1 v3) none fun s0=>(iZ pu n x0 x1 x2 s0))))) fun _ _=>none)))))) fun _ _=>none))
theorem AfE (pu:Af) (n n0:Nat) (q0:LV) (z0:Int) {v:Value} (hm:U0 pu n n0 q0 z0=some v):BN tt (Bb tabs isP pu (inl pu)) 1 bQ (fr 39 [(4,(Cv n0 q0)),(6,zI z0)]) Ay (Fin tt 1 [.tmp 2,.tmp 3] v):=by
 unfold U0 at hm
 refine .then ?_
 replace hm:=LK hm;obtain⟨s0,h0,hm⟩:=hm
 replace hm:=Ae hm;obtain⟨h1,hm⟩:=hm
 refine .reg (eC 5 (keep Ay (AL q0 ((n0+0)+3))) (AZ h0) (eC 1 (keep Ay (bb (Bd (Int.ofNat (Sl.n s0)) (0:Int)) none (some (zI (Aj .i64 (Int.tdiv z0 (Int.ofNat (Sl.n s0)))))))) (XH h1) (eE))) ?_
 refine .ghs (fr 39 [(2,(zI (Aj .i64 (Int.tdiv z0 (Int.ofNat (Sl.n s0)))))),(3,(zI (0:Int)))]) Ay (.k0 [false] [] [2,3]) ?_
 refine .ret ?_
 exact AO (.tuple ⟨[(zI (Aj .i64 (Int.tdiv z0 (Int.ofNat (Sl.n s0))))),(zI (0:Int))]⟩) hm
theorem r23 {call:A8} (pu:Af) (n:Nat) (hcall:call=Bb tabs isP pu (inl pu)) {args:LV} {v:Value} (hm:m23 pu n args=some v) (_:∀ x∈args,closed2 x=true):args.length≤39∧BN tt call 1 SC (Fr.made 39 args) (Ao tabs) (Fin tt 1 [.tmp 2,.tmp 3] v):=by
 subst hcall
 unfold m23 at hm
 replace hm:=Ad hm;obtain⟨a0,args_0,rfl,hm⟩:=hm
 replace hm:=AC hm;obtain⟨rfl,hm⟩:=hm
 replace hm:=BG hm;obtain⟨l0,rfl,hm⟩:=hm
 replace hm:=Ad hm;obtain⟨v0,l2492_0,rfl,hm⟩:=hm
 replace hm:=Ad hm;obtain⟨v1,l2492_1,rfl,hm⟩:=hm
 replace hm:=Ad hm;obtain⟨v2,l2492_2,rfl,hm⟩:=hm
 replace hm:=Ad hm;obtain⟨v3,l2492_3,rfl,hm⟩:=hm
 replace hm:=AC hm;obtain⟨rfl,hm⟩:=hm
 replace hm:=Ai hm;obtain⟨x0,rfl,hm⟩:=hm
 replace hm:=Ai hm;obtain⟨x1,rfl,hm⟩:=hm
 replace hm:=Ai hm;obtain⟨x2,rfl,hm⟩:=hm
 replace hm:=Al hm;obtain⟨s0,rfl,hm⟩:=hm
 unfold iZ at hm
 refine⟨by simp,?_⟩
 refine .same (F':=(fr 39 [(0,(.agg ⟨[zI x0,zI x1,zI x2,Sl.v 1 s0]⟩))])) (H':=Ay) (by kernel_rfl) (by kernel_rfl) ?_
 refine .then (.rK (.ghs (fr 39 [(1,pt 1 0)]) (hT 2 [(oC [zI x0,zI x1,zI x2,Sl.v 1 s0])]) (.k0 [false] [.tmp 1 false] [1]) ?_))
 refine .then ?_
 replace hm:=Ab hm;obtain⟨v4,h0,hm⟩:=hm
 replace hm:=Ch hm;obtain⟨l1,rfl,hm⟩:=hm
 replace hm:=Ad hm;obtain⟨v5,l2519_0,rfl,hm⟩:=hm
 replace hm:=Ad hm;obtain⟨v6,l2519_1,rfl,hm⟩:=hm
 replace hm:=AC hm;obtain⟨rfl,hm⟩:=hm
 replace hm:=Ag hm;rcases hm with⟨h1,hm⟩ | ⟨h1,hm⟩
 ·replace hm:=Ab hm;obtain⟨p0,h2,hm⟩:=hm
  obtain rfl:=F7 h2
  replace hm:=Ai hm;obtain⟨x3,rfl,hm⟩:=hm
  refine .reg (eC 1 ((oo (pu 49 [(.agg ⟨[zI x0,zI x1,zI x2,Sl.v 1 s0]⟩)]) none fun v=>some (v,(hT 2 [(oC [zI x0,zI x1,zI x2,Sl.v 1 s0])])))) (AB h0) (eE)) ?_
  refine .ghs (fr 39 [(4,(Cv (Db.off p0) (Db.cs p0))),(5,zI x3)]) Ay (.k0 [false] [] [4,5]) ?_
  refine .then (.then (.rK (.ghs (fr 39 [(4,(Cv (Db.off p0) (Db.cs p0))),(5,zI x3),(14,(zB (nt (Bd x3 (0:Int)))))]) Ay (.k0 [false] [] [4,5,14]) ?_)))
  replace hm:=Ag hm;rcases hm with⟨h3,hm⟩ | ⟨h3,hm⟩
  ·refine BB (nt (Bd x3 (0:Int))) h3 ?_
   refine .then (.rK (.ghs (fr 39 [(2,(zI (0:Int))),(3,zI x3)]) Ay (.k0 [false] [] [2,3]) ?_))
   refine .ret ?_
   exact AO (.tuple ⟨[(zI (0:Int)),zI x3]⟩) hm
  ·refine BI (nt (Bd x3 (0:Int))) h3 ?_
   refine .skip (.ghs (fr 39 [(4,(Cv (Db.off p0) (Db.cs p0)))]) Ay (.k0 [false] [] [4]) ?_)
   refine .then (.rK (.ghs (fr 39 [(4,(Cv (Db.off p0) (Db.cs p0))),(6,(zI (0:Int)))]) Ay (.k0 [false] [] [4,6]) ?_))
   refine .join (v:=v) (fun y:Nat×LV×Int=>((fr 39 [(4,(Cv y.1 y.2.1)),(6,(zI y.2.2))]),Ay)) (fun y=>U0 pu n y.1 y.2.1 y.2.2) ?_ ?_
   ·rintro⟨n0,q0,z0⟩ hm
    exact AfE pu n n0 q0 z0 hm
   ·refine .then ?_
    replace hm:=LK hm;obtain⟨s1,h4,hm⟩:=hm
    refine .reg (eC 4 (keep Ay (AL (Db.cs p0) (((Db.off p0)+0)+3))) (AZ h4) (eE)) ?_
    refine .ghs (fr 39 [(4,(Cv (Db.off p0) (Db.cs p0))),(6,(zI (0:Int))),(21,(zI (Int.ofNat (Sl.n s1)))),(22,(zI (0:Int)))]) Ay (.k0 [false] [] [4,6,21,22]) ?_
    refine .block (.loopM (v:=v) (fun y:Nat×LV×Int×Int×Int=>((fr 39 [(4,(Cv y.1 y.2.1)),(6,(zI y.2.2.1)),(21,(zI y.2.2.2.1)),(22,(zI y.2.2.2.2))]),Ay)) (fun w y=>RO pu n w y.1 y.2.1 y.2.2.1 y.2.2.2.1 y.2.2.2.2) n ⟨((Db.off p0),(Db.cs p0),(0:Int),(Int.ofNat (Sl.n s1)),(0:Int)),hm,(.k0 [false] [] [4,6,21,22])⟩ (fun _=>rfl) ?_)
    rintro w0 ⟨n1,q1,z1,z2,z3⟩ hm
    replace hm:Pn pu n (RO pu n w0) n1 q1 z1 z2 z3=some v:=hm
    unfold Pn at hm
    refine .then (.rK (.ghs (fr 39 [(4,(Cv n1 q1)),(6,zI z1),(21,zI z2),(22,zI z3),(23,(zB (AY z3 z2)))]) Ay (.k0 [false] [] [4,6,21,22,23]) ?_))
    refine .then ?_
    replace hm:=Ag hm;rcases hm with⟨h5,hm⟩ | ⟨h5,hm⟩
    ·refine BB (AY z3 z2) h5 ?_
     refine .skip (.ghs (fr 39 [(4,(Cv n1 q1)),(6,zI z1),(21,zI z2),(22,zI z3)]) Ay (.k0 [false] [] [4,6,21,22]) ?_)
     refine .then (.block (.then (.rK (.ghs (fr 39 [(4,(Cv n1 q1)),(6,zI z1),(7,zI z3),(21,zI z2),(22,zI z3)]) Ay (.k0 [false] [] [4,6,7,21,22]) ?_))))
     replace hm:=G9 hm;obtain⟨x4,h6,hm⟩:=hm
     refine .reg (eC 3 ((oo (pu 50 [(Cv n1 q1),zI z3]) none fun v=>some (v,Ay))) (AB h6) (eE)) ?_
     refine .ghs (fr 39 [(4,(Cv n1 q1)),(6,(zI (Aj .i64 (Int.add z1 x4)))),(21,zI z2),(22,zI z3)]) Ay (.k0 [false] [] [4,6,21,22]) ?_
     refine .rK ?_
     exact⟨(n1,q1,(Aj .i64 (Int.add z1 x4)),z2,(Aj .i64 (Int.add z3 (1:Int)))),hm,(.k0 [false] [] [4,6,21,22])⟩
    ·refine BI (AY z3 z2) h5 ?_
     refine .exit ?_
     exact⟨(n1,q1,z1),hm,(.k0 [false] [] [4,6])⟩
 ·replace hm:=Ae hm;obtain⟨h7,hm⟩:=hm
  obtain rfl:=MG h7
  replace hm:=Ai hm;obtain⟨x5,rfl,hm⟩:=hm
  refine .reg (eC 1 ((oo (pu 49 [(.agg ⟨[zI x0,zI x1,zI x2,Sl.v 1 s0]⟩)]) none fun v=>some (v,(hT 2 [(oC [zI x0,zI x1,zI x2,Sl.v 1 s0])])))) (AB h0) (eE)) ?_
  refine .ghs (fr 39 [(4,(.pointer none)),(5,zI x5)]) Ay (.k0 [false] [] [4,5]) ?_
  refine .then (.then (.rK (.ghs (fr 39 [(4,(.pointer none)),(5,zI x5),(14,(zB (nt (Bd x5 (0:Int)))))]) Ay (.k0 [false] [] [4,5,14]) ?_)))
  replace hm:=Ag hm;rcases hm with⟨h8,hm⟩ | ⟨h8,hm⟩
  ·refine BB (nt (Bd x5 (0:Int))) h8 ?_
   refine .then (.rK (.ghs (fr 39 [(2,(zI (0:Int))),(3,zI x5)]) Ay (.k0 [false] [] [2,3]) ?_))
   refine .ret ?_
   exact AO (.tuple ⟨[(zI (0:Int)),zI x5]⟩) hm
  ·refine BI (nt (Bd x5 (0:Int))) h8 ?_
   refine .skip (.ghs (fr 39 [(4,(.pointer none))]) Ay (.k0 [false] [] [4]) ?_)
   refine .then (.rK (.ghs (fr 39 [(4,(.pointer none)),(6,(zI (0:Int)))]) Ay (.k0 [false] [] [4,6]) ?_))
   refine .then (.then ?_)
   cases hm
def XQ (pu:Af) (n n0:Nat) (q0:LV):OV:=
 (some (.tuple ⟨[(Cv n0 q0),(.int .i64 (0:Int))]⟩))
def Po (pu:Af) (n:Nat) (ih0:Nat→LV→Sl→Int→Int→OV) (n0:Nat) (q0:LV) (s0:Sl) (z0 z1:Int):OV:=
 (bb (AY z1 z0) (oo (EA z1) none fun k1=>(bb (an (Nat.blt k1 (Sl.n s0)) true) (oo (AL (Sl.cs s0) (k1*1)) none fun v0=>(oo (Bj 1 v0) none fun s1=>(oo (pu 58 [(Cv n0 q0),Sl.v 1 s1]) none fun v1=>(oo (Bi .i64 v1) none fun x0=>(bb (nt (Bd x0 (0:Int))) (some (.tuple ⟨[(.pointer none),.int .i64 x0]⟩)) (ih0 n0 q0 s0 z0 (Aj .i64 (Int.add (Int.ofNat k1) (1:Int))))))))) none)) (XQ pu n n0 q0))
def OQ (pu:Af) (n w:Nat):Nat→LV→Sl→Int→Int→OV:=
 Nat.rec (motive:=fun _=>Nat→LV→Sl→Int→Int→OV) (fun _ _ _ _ _=>none) (fun _ ih0=>Po pu n ih0) w
def XR (pu:Af) (n:Nat):OV:=
 (some (.tuple ⟨[(.pointer none),(.int .i64 (0:Int))]⟩))
def dX (pu:Af) (n:Nat) (ih0:Sl→Int→Int→OV) (s0:Sl) (z0 z1:Int):OV:=
 (bb (AY z1 z0) (oo (EA z1) none fun k1=>(bb (an (Nat.blt k1 (Sl.n s0)) true) (oo (AL (Sl.cs s0) (k1*1)) none fun v0=>(oo (Bj 1 v0) none fun s1=>(oo (pu 58 [(.pointer none),Sl.v 1 s1]) none fun v1=>(oo (Bi .i64 v1) none fun x0=>(bb (nt (Bd x0 (0:Int))) (some (.tuple ⟨[(.pointer none),.int .i64 x0]⟩)) (ih0 s0 z0 (Aj .i64 (Int.add (Int.ofNat k1) (1:Int))))))))) none)) (XR pu n))
def dY (pu:Af) (n w:Nat):Sl→Int→Int→OV:=
 Nat.rec (motive:=fun _=>Sl→Int→Int→OV) (fun _ _ _=>none) (fun _ ih0=>dX pu n ih0) w
def AfF (pu:Af) (n:Nat) (x0 x1 x2:Int) (s0 s1:Sl):OV:=
 (oo (pu 49 [(.agg ⟨[.int .i64 x0,.int .i64 x1,.int .i64 x2,Sl.v 1 s0]⟩)]) none fun v0=>(oo (CQ v0) none fun l0=>(ll l0 none fun v1 l0=>(ll l0 none fun v2 l0=>(ll l0 (bb (isS (Pv v1)) (oo (Pv v1) none fun p0=>(oo (Bi .i64 v2) none fun x3=>(bb (nt (Bd x3 (0:Int))) (some (.tuple ⟨[(.pointer none),.int .i64 x3]⟩)) (OQ pu n n (Db.off p0) (Db.cs p0) s1 (Int.ofNat (Sl.n s1)) (0:Int))))) (bb (WE v1) (oo (Bi .i64 v2) none fun x4=>(bb (nt (Bd x4 (0:Int))) (some (.tuple ⟨[(.pointer none),.int .i64 x4]⟩)) (dY pu n n s1 (Int.ofNat (Sl.n s1)) (0:Int)))) none)) fun _ _=>none)))))
def m32 (pu:Af) (n:Nat) (args:LV):OV:=
 (ll args none fun a0 args=>(ll args none fun a1 args=>(ll args (oo (Bt a0) none fun l0=>(ll l0 none fun v0 l0=>(ll l0 none fun v1 l0=>(ll l0 none fun v2 l0=>(ll l0 none fun v3 l0=>(ll l0 (oo (Bi .i64 v0) none fun x0=>(oo (Bi .i64 v1) none fun x1=>(oo (Bi .i64 v2) none fun x2=>(oo (Bj 1 v3) none fun s0=>(oo (Bj 1 a1) none fun s1=>(AfF pu n x0 x1 x2 s0 s1)))))) fun _ _=>none)))))) fun _ _=>none)))
theorem AfG (pu:Af) (n n0:Nat) (q0:LV) {v:Value} (hm:XQ pu n n0 q0=some v):BN tt (Bb tabs isP pu (inl pu)) 1 WC (fr 33 [(6,(Cv n0 q0))]) Ay (Fin tt 1 [.tmp 4,.tmp 5] v):=by
 unfold XQ at hm
 refine .then (.rK (.ghs (fr 33 [(4,(Cv n0 q0)),(5,(zI (0:Int)))]) Ay (.k0 [false] [] [4,5]) ?_))
 refine .ret ?_
 exact AO (.tuple ⟨[(Cv n0 q0),(zI (0:Int))]⟩) hm
theorem AfH (pu:Af) (n:Nat) {v:Value} (hm:XR pu n=some v):BN tt (Bb tabs isP pu (inl pu)) 1 WC (fr 33 [(6,(.pointer none))]) Ay (Fin tt 1 [.tmp 4,.tmp 5] v):=by
 unfold XR at hm
 refine .then (.rK (.ghs (fr 33 [(4,(.pointer none)),(5,(zI (0:Int)))]) Ay (.k0 [false] [] [4,5]) ?_))
 refine .ret ?_
 exact AO (.tuple ⟨[(.pointer none),(zI (0:Int))]⟩) hm
theorem r32 {call:A8} (pu:Af) (n:Nat) (hcall:call=Bb tabs isP pu (inl pu)) {args:LV} {v:Value} (hm:m32 pu n args=some v) (_:∀ x∈args,closed2 x=true):args.length≤33∧BN tt call 1 SE (Fr.made 33 args) (Ao tabs) (Fin tt 1 [.tmp 4,.tmp 5] v):=by
 subst hcall
 unfold m32 at hm
 replace hm:=Ad hm;obtain⟨a0,args_0,rfl,hm⟩:=hm
 replace hm:=Ad hm;obtain⟨a1,args_1,rfl,hm⟩:=hm
 replace hm:=AC hm;obtain⟨rfl,hm⟩:=hm
 replace hm:=BG hm;obtain⟨l0,rfl,hm⟩:=hm
 replace hm:=Ad hm;obtain⟨v0,l2609_0,rfl,hm⟩:=hm
 replace hm:=Ad hm;obtain⟨v1,l2609_1,rfl,hm⟩:=hm
 replace hm:=Ad hm;obtain⟨v2,l2609_2,rfl,hm⟩:=hm
 replace hm:=Ad hm;obtain⟨v3,l2609_3,rfl,hm⟩:=hm
 replace hm:=AC hm;obtain⟨rfl,hm⟩:=hm
 replace hm:=Ai hm;obtain⟨x0,rfl,hm⟩:=hm
 replace hm:=Ai hm;obtain⟨x1,rfl,hm⟩:=hm
 replace hm:=Ai hm;obtain⟨x2,rfl,hm⟩:=hm
 replace hm:=Al hm;obtain⟨s0,rfl,hm⟩:=hm
 replace hm:=Al hm;obtain⟨s1,rfl,hm⟩:=hm
 unfold AfF at hm
 refine⟨by simp,?_⟩
 refine .same (F':=(fr 33 [(0,(.agg ⟨[zI x0,zI x1,zI x2,Sl.v 1 s0]⟩)),(1,Sl.v 1 s1)])) (H':=Ay) (by kernel_rfl) (by kernel_rfl) ?_
 refine .then (.rK (.ghs (fr 33 [(1,Sl.v 1 s1),(2,pt 1 0)]) (hT 2 [(oC [zI x0,zI x1,zI x2,Sl.v 1 s0])]) (.k0 [false] [.tmp 2 false] [1,2]) ?_))
 refine .then ?_
 replace hm:=Ab hm;obtain⟨v4,h0,hm⟩:=hm
 replace hm:=Ch hm;obtain⟨l1,rfl,hm⟩:=hm
 replace hm:=Ad hm;obtain⟨v5,l2638_0,rfl,hm⟩:=hm
 replace hm:=Ad hm;obtain⟨v6,l2638_1,rfl,hm⟩:=hm
 replace hm:=AC hm;obtain⟨rfl,hm⟩:=hm
 replace hm:=Ag hm;rcases hm with⟨h1,hm⟩ | ⟨h1,hm⟩
 ·replace hm:=Ab hm;obtain⟨p0,h2,hm⟩:=hm
  obtain rfl:=F7 h2
  replace hm:=Ai hm;obtain⟨x3,rfl,hm⟩:=hm
  refine .reg (eC 1 ((oo (pu 49 [(.agg ⟨[zI x0,zI x1,zI x2,Sl.v 1 s0]⟩)]) none fun v=>some (v,(hT 2 [(oC [zI x0,zI x1,zI x2,Sl.v 1 s0])])))) (AB h0) (eE)) ?_
  refine .ghs (fr 33 [(1,Sl.v 1 s1),(6,(Cv (Db.off p0) (Db.cs p0))),(7,zI x3)]) Ay (.k0 [false] [] [1,6,7]) ?_
  refine .then (.then (.rK (.ghs (fr 33 [(1,Sl.v 1 s1),(6,(Cv (Db.off p0) (Db.cs p0))),(7,zI x3),(17,(zB (nt (Bd x3 (0:Int)))))]) Ay (.k0 [false] [] [1,6,7,17]) ?_)))
  replace hm:=Ag hm;rcases hm with⟨h3,hm⟩ | ⟨h3,hm⟩
  ·refine BB (nt (Bd x3 (0:Int))) h3 ?_
   refine .then (.rK (.ghs (fr 33 [(4,(.pointer none)),(5,zI x3)]) Ay (.k0 [false] [] [4,5]) ?_))
   refine .ret ?_
   exact AO (.tuple ⟨[(.pointer none),zI x3]⟩) hm
  ·refine BI (nt (Bd x3 (0:Int))) h3 ?_
   refine .skip (.ghs (fr 33 [(1,Sl.v 1 s1),(6,(Cv (Db.off p0) (Db.cs p0)))]) Ay (.k0 [false] [] [1,6]) ?_)
   refine .join (v:=v) (fun y:Nat×LV=>((fr 33 [(6,(Cv y.1 y.2))]),Ay)) (fun y=>XQ pu n y.1 y.2) ?_ ?_
   ·rintro⟨n0,q0⟩ hm
    exact AfG pu n n0 q0 hm
   ·refine .then (.rK (.ghs (fr 33 [(6,(Cv (Db.off p0) (Db.cs p0))),(19,Sl.v 1 s1),(20,(zI (Int.ofNat (Sl.n s1)))),(21,(zI (0:Int)))]) Ay (.k0 [false] [] [6,19,20,21]) ?_))
    refine .block (.loopM (v:=v) (fun y:Nat×LV×Sl×Int×Int=>((fr 33 [(6,(Cv y.1 y.2.1)),(19,(Sl.v 1 y.2.2.1)),(20,(zI y.2.2.2.1)),(21,(zI y.2.2.2.2))]),Ay)) (fun w y=>OQ pu n w y.1 y.2.1 y.2.2.1 y.2.2.2.1 y.2.2.2.2) n ⟨((Db.off p0),(Db.cs p0),s1,(Int.ofNat (Sl.n s1)),(0:Int)),hm,(.k0 [false] [] [6,19,20,21])⟩ (fun _=>rfl) ?_)
    rintro w0 ⟨n1,q1,s2,z0,z1⟩ hm
    replace hm:Po pu n (OQ pu n w0) n1 q1 s2 z0 z1=some v:=hm
    unfold Po at hm
    refine .then (.rK (.ghs (fr 33 [(6,(Cv n1 q1)),(19,Sl.v 1 s2),(20,zI z0),(21,zI z1),(22,(zB (AY z1 z0)))]) Ay (.k0 [false] [] [6,19,20,21,22]) ?_))
    refine .then ?_
    replace hm:=Ag hm;rcases hm with⟨h4,hm⟩ | ⟨h4,hm⟩
    ·refine BB (AY z1 z0) h4 ?_
     refine .skip (.ghs (fr 33 [(6,(Cv n1 q1)),(19,Sl.v 1 s2),(20,zI z0),(21,zI z1)]) Ay (.k0 [false] [] [6,19,20,21]) ?_)
     refine .then (.block (.then ?_))
     replace hm:=Ab hm;obtain⟨k1,h5,hm⟩:=hm
     obtain rfl:=AR h5
     replace hm:=Ae hm;obtain⟨h6,hm⟩:=hm
     replace hm:=LK hm;obtain⟨s3,h7,hm⟩:=hm
     refine .reg (eD (keep Ay (bb (an (Nat.blt k1 (Sl.n s2)) true) (some (Cv (k1*1) (Sl.cs s2))) none)) (AX h6) (eD (keep Ay (AL (Sl.cs s2) (k1*1))) (AZ h7) (eE))) ?_
     refine .ghs (fr 33 [(6,(Cv n1 q1)),(9,Sl.v 1 s3),(19,Sl.v 1 s2),(20,zI z0),(21,(zI (Int.ofNat k1)))]) Ay (.k0 [false] [] [6,9,19,20,21]) ?_
     refine .then ?_
     replace hm:=G9 hm;obtain⟨x4,h8,hm⟩:=hm
     refine .reg (eC 2 ((oo (pu 58 [(Cv n1 q1),Sl.v 1 s3]) none fun v=>some (v,Ay))) (AB h8) (eE)) ?_
     refine .ghs (fr 33 [(6,(Cv n1 q1)),(10,zI x4),(19,Sl.v 1 s2),(20,zI z0),(21,(zI (Int.ofNat k1)))]) Ay (.k0 [false] [] [6,10,19,20,21]) ?_
     refine .then (.rK (.ghs (fr 33 [(6,(Cv n1 q1)),(10,zI x4),(19,Sl.v 1 s2),(20,zI z0),(21,(zI (Int.ofNat k1))),(29,(zB (nt (Bd x4 (0:Int)))))]) Ay (.k0 [false] [] [6,10,19,20,21,29]) ?_))
     replace hm:=Ag hm;rcases hm with⟨h9,hm⟩ | ⟨h9,hm⟩
     ·refine BB (nt (Bd x4 (0:Int))) h9 ?_
      refine .then (.rK (.ghs (fr 33 [(4,(.pointer none)),(5,zI x4)]) Ay (.k0 [false] [] [4,5]) ?_))
      refine .ret ?_
      exact AO (.tuple ⟨[(.pointer none),zI x4]⟩) hm
     ·refine BI (nt (Bd x4 (0:Int))) h9 ?_
      refine .skip (.ghs (fr 33 [(6,(Cv n1 q1)),(19,Sl.v 1 s2),(20,zI z0),(21,(zI (Int.ofNat k1)))]) Ay (.k0 [false] [] [6,19,20,21]) ?_)
      refine .rK ?_
      exact⟨(n1,q1,s2,z0,(Aj .i64 (Int.add (Int.ofNat k1) (1:Int)))),hm,(.k0 [false] [] [6,19,20,21])⟩
    ·refine BI (AY z1 z0) h4 ?_
     refine .exit ?_
     exact⟨(n1,q1),hm,(.k0 [false] [] [6])⟩
 ·replace hm:=Ae hm;obtain⟨h10,hm⟩:=hm
  obtain rfl:=MG h10
  replace hm:=Ai hm;obtain⟨x5,rfl,hm⟩:=hm
  refine .reg (eC 1 ((oo (pu 49 [(.agg ⟨[zI x0,zI x1,zI x2,Sl.v 1 s0]⟩)]) none fun v=>some (v,(hT 2 [(oC [zI x0,zI x1,zI x2,Sl.v 1 s0])])))) (AB h0) (eE)) ?_
  refine .ghs (fr 33 [(1,Sl.v 1 s1),(6,(.pointer none)),(7,zI x5)]) Ay (.k0 [false] [] [1,6,7]) ?_
  refine .then (.then (.rK (.ghs (fr 33 [(1,Sl.v 1 s1),(6,(.pointer none)),(7,zI x5),(17,(zB (nt (Bd x5 (0:Int)))))]) Ay (.k0 [false] [] [1,6,7,17]) ?_)))
  replace hm:=Ag hm;rcases hm with⟨h11,hm⟩ | ⟨h11,hm⟩
  ·refine BB (nt (Bd x5 (0:Int))) h11 ?_
   refine .then (.rK (.ghs (fr 33 [(4,(.pointer none)),(5,zI x5)]) Ay (.k0 [false] [] [4,5]) ?_))
   refine .ret ?_
   exact AO (.tuple ⟨[(.pointer none),zI x5]⟩) hm
  ·refine BI (nt (Bd x5 (0:Int))) h11 ?_
   refine .skip (.ghs (fr 33 [(1,Sl.v 1 s1),(6,(.pointer none))]) Ay (.k0 [false] [] [1,6]) ?_)
   refine .join (v:=v) (fun y:Unit=>((fr 33 [(6,(.pointer none))]),Ay)) (fun y=>XR pu n) ?_ ?_
   ·rintro _ hm
    exact AfH pu n hm
   ·refine .then (.rK (.ghs (fr 33 [(6,(.pointer none)),(19,Sl.v 1 s1),(20,(zI (Int.ofNat (Sl.n s1)))),(21,(zI (0:Int)))]) Ay (.k0 [false] [] [6,19,20,21]) ?_))
    refine .block (.loopM (v:=v) (fun y:Sl×Int×Int=>((fr 33 [(6,(.pointer none)),(19,(Sl.v 1 y.1)),(20,(zI y.2.1)),(21,(zI y.2.2))]),Ay)) (fun w y=>dY pu n w y.1 y.2.1 y.2.2) n ⟨(s1,(Int.ofNat (Sl.n s1)),(0:Int)),hm,(.k0 [false] [] [6,19,20,21])⟩ (fun _=>rfl) ?_)
    rintro w0 ⟨s4,z2,z3⟩ hm
    replace hm:dX pu n (dY pu n w0) s4 z2 z3=some v:=hm
    unfold dX at hm
    refine .then (.rK (.ghs (fr 33 [(6,(.pointer none)),(19,Sl.v 1 s4),(20,zI z2),(21,zI z3),(22,(zB (AY z3 z2)))]) Ay (.k0 [false] [] [6,19,20,21,22]) ?_))
    refine .then ?_
    replace hm:=Ag hm;rcases hm with⟨h12,hm⟩ | ⟨h12,hm⟩
    ·refine BB (AY z3 z2) h12 ?_
     refine .skip (.ghs (fr 33 [(6,(.pointer none)),(19,Sl.v 1 s4),(20,zI z2),(21,zI z3)]) Ay (.k0 [false] [] [6,19,20,21]) ?_)
     refine .then (.block (.then ?_))
     replace hm:=Ab hm;obtain⟨k2,h13,hm⟩:=hm
     obtain rfl:=AR h13
     replace hm:=Ae hm;obtain⟨h14,hm⟩:=hm
     replace hm:=LK hm;obtain⟨s5,h15,hm⟩:=hm
     refine .reg (eD (keep Ay (bb (an (Nat.blt k2 (Sl.n s4)) true) (some (Cv (k2*1) (Sl.cs s4))) none)) (AX h14) (eD (keep Ay (AL (Sl.cs s4) (k2*1))) (AZ h15) (eE))) ?_
     refine .ghs (fr 33 [(6,(.pointer none)),(9,Sl.v 1 s5),(19,Sl.v 1 s4),(20,zI z2),(21,(zI (Int.ofNat k2)))]) Ay (.k0 [false] [] [6,9,19,20,21]) ?_
     refine .then ?_
     replace hm:=G9 hm;obtain⟨x6,h16,hm⟩:=hm
     refine .reg (eC 2 ((oo (pu 58 [(.pointer none),Sl.v 1 s5]) none fun v=>some (v,Ay))) (AB h16) (eE)) ?_
     refine .ghs (fr 33 [(6,(.pointer none)),(10,zI x6),(19,Sl.v 1 s4),(20,zI z2),(21,(zI (Int.ofNat k2)))]) Ay (.k0 [false] [] [6,10,19,20,21]) ?_
     refine .then (.rK (.ghs (fr 33 [(6,(.pointer none)),(10,zI x6),(19,Sl.v 1 s4),(20,zI z2),(21,(zI (Int.ofNat k2))),(29,(zB (nt (Bd x6 (0:Int)))))]) Ay (.k0 [false] [] [6,10,19,20,21,29]) ?_))
     replace hm:=Ag hm;rcases hm with⟨h17,hm⟩ | ⟨h17,hm⟩
     ·refine BB (nt (Bd x6 (0:Int))) h17 ?_
      refine .then (.rK (.ghs (fr 33 [(4,(.pointer none)),(5,zI x6)]) Ay (.k0 [false] [] [4,5]) ?_))
      refine .ret ?_
      exact AO (.tuple ⟨[(.pointer none),zI x6]⟩) hm
     ·refine BI (nt (Bd x6 (0:Int))) h17 ?_
      refine .skip (.ghs (fr 33 [(6,(.pointer none)),(19,Sl.v 1 s4),(20,zI z2),(21,(zI (Int.ofNat k2)))]) Ay (.k0 [false] [] [6,19,20,21]) ?_)
      refine .rK ?_
      exact⟨(s4,z2,(Aj .i64 (Int.add (Int.ofNat k2) (1:Int)))),hm,(.k0 [false] [] [6,19,20,21])⟩
    ·refine BI (AY z3 z2) h12 ?_
     refine .exit ?_
     exact⟨(),hm,(.k0 [false] [] [6])⟩
end
end Go.BkMM
