/- Made from wip. -/
import Derived.Test.YtokbaaeimejjlaaDoorBkOMod0x

set_option maxRecDepth 100000
set_option maxHeartbeats 20000000
set_option linter.unusedVariables false
namespace Go.BkOM
open Go.Sp Go.BkO
noncomputable section

def Ad0 (pu:Af) (n:Nat) (x0 x1 x2:Int) (s0 s1:Sl) (x3:Int):OV:=
 (oo (pu 32 [(.agg ⟨[.int .i64 x0,.int .i64 x1,.int .i64 x2,Sl.v 1 s0]⟩),(Sl.v 1 (Sl.mk 1 0 (Aq (1*1) (Am 0 ([Sl.v 1 s1]:LV)))))]) none fun v0=>(oo (CQ v0) none fun l0=>(ll l0 none fun v1 l0=>(ll l0 none fun v2 l0=>(ll l0 (bb (isS (Pv v1)) (oo (Pv v1) none fun p0=>(oo (Bi .i64 v2) none fun x4=>(bb (nt (Bd x4 (0:Int))) (some (.tuple ⟨[(Sl.v 1 (Sl.mk 0 2 [])),.int .i64 x4]⟩)) (oo (AL (Db.cs p0) (((Db.off p0)+0)+3)) none fun v3=>(oo (Bj 1 v3) none fun s2=>(oo (pu 33 [Sl.v 1 s2,.int .i64 x3]) none fun v4=>(oo (Bi .i64 v4) none fun x5=>(bb (AY x5 (0:Int)) (some (.tuple ⟨[(Sl.v 1 (Sl.mk 0 2 [])),(.int .i64 (2:Int))]⟩)) (oo (pu 34 [(Cv (Db.off p0) (Db.cs p0)),Sl.v 1 s1,.int .i64 x5]) none fun v5=>(oo (Bj 1 v5) none fun s3=>(some (.tuple ⟨[Sl.v 1 s3,(.int .i64 (0:Int))]⟩)))))))))))) (bb (T9 v1) (oo (Bi .i64 v2) none fun x6=>(bb (nt (Bd x6 (0:Int))) (some (.tuple ⟨[(Sl.v 1 (Sl.mk 0 2 [])),.int .i64 x6]⟩)) none)) none)) fun _ _=>none)))))
def m11 (pu:Af) (n:Nat) (args:LV):OV:=
 (ll args none fun a0 args=>(ll args none fun a1 args=>(ll args none fun a2 args=>(ll args (oo (Bt a0) none fun l0=>(ll l0 none fun v0 l0=>(ll l0 none fun v1 l0=>(ll l0 none fun v2 l0=>(ll l0 none fun v3 l0=>(ll l0 (oo (Bi .i64 v0) none fun x0=>(oo (Bi .i64 v1) none fun x1=>(oo (Bi .i64 v2) none fun x2=>(oo (Bj 1 v3) none fun s0=>(oo (Bj 1 a1) none fun s1=>(oo (Bi .i64 a2) none fun x3=>(Ad0 pu n x0 x1 x2 s0 s1 x3))))))) fun _ _=>none)))))) fun _ _=>none))))
theorem r11 {call:A8} (pu:Af) (n:Nat) (hcall:call=Bb tabs isP pu (inl pu)) {args:LV} {v:Value} (hm:m11 pu n args=some v) (_:∀ x∈args,closed2 x=true):args.length≤34∧BN tt call 1 RY (Fr.made 34 args) (Ao tabs) (Fin tt 1 [.tmp 6,.tmp 7] v):=by
 subst hcall
 unfold m11 at hm
 replace hm:=Ad hm;obtain⟨a0,args_0,rfl,hm⟩:=hm
 replace hm:=Ad hm;obtain⟨a1,args_1,rfl,hm⟩:=hm
 replace hm:=Ad hm;obtain⟨a2,args_2,rfl,hm⟩:=hm
 replace hm:=AC hm;obtain⟨rfl,hm⟩:=hm
 replace hm:=BG hm;obtain⟨l0,rfl,hm⟩:=hm
 replace hm:=Ad hm;obtain⟨v0,l14484_0,rfl,hm⟩:=hm
 replace hm:=Ad hm;obtain⟨v1,l14484_1,rfl,hm⟩:=hm
 replace hm:=Ad hm;obtain⟨v2,l14484_2,rfl,hm⟩:=hm
 replace hm:=Ad hm;obtain⟨v3,l14484_3,rfl,hm⟩:=hm
 replace hm:=AC hm;obtain⟨rfl,hm⟩:=hm
 replace hm:=Ai hm;obtain⟨x0,rfl,hm⟩:=hm
 replace hm:=Ai hm;obtain⟨x1,rfl,hm⟩:=hm
 replace hm:=Ai hm;obtain⟨x2,rfl,hm⟩:=hm
 replace hm:=Al hm;obtain⟨s0,rfl,hm⟩:=hm
 replace hm:=Al hm;obtain⟨s1,rfl,hm⟩:=hm
 replace hm:=Ai hm;obtain⟨x3,rfl,hm⟩:=hm
 unfold Ad0 at hm
 refine⟨by simp,?_⟩
 refine .same (F':=(fr 34 [(0,(.agg ⟨[zI x0,zI x1,zI x2,Sl.v 1 s0]⟩)),(1,Sl.v 1 s1),(2,zI x3)])) (H':=Ay) (by kernel_rfl) (by kernel_rfl) ?_
 refine .then (.rK (.ghs (fr 34 [(1,Sl.v 1 s1),(2,zI x3),(3,pt 1 0)]) (hT 2 [(oC [zI x0,zI x1,zI x2,Sl.v 1 s0])]) (.k0 [false] [.tmp 3 false] [1,2,3]) ?_))
 refine .then ?_
 replace hm:=Ab hm;obtain⟨v4,h0,hm⟩:=hm
 replace hm:=Ch hm;obtain⟨l1,rfl,hm⟩:=hm
 replace hm:=Ad hm;obtain⟨v5,l14515_0,rfl,hm⟩:=hm
 replace hm:=Ad hm;obtain⟨v6,l14515_1,rfl,hm⟩:=hm
 replace hm:=AC hm;obtain⟨rfl,hm⟩:=hm
 replace hm:=Ag hm;rcases hm with⟨h1,hm⟩ | ⟨h1,hm⟩
 ·replace hm:=Ab hm;obtain⟨p0,h2,hm⟩:=hm
  obtain rfl:=F7 h2
  replace hm:=Ai hm;obtain⟨x4,rfl,hm⟩:=hm
  refine .reg (eC 3 (Hr tabs 1 (pu 32) [(.agg ⟨[zI x0,zI x1,zI x2,Sl.v 1 s0]⟩),sc 2 0 1 1 3] (hT 3 [(oC [zI x0,zI x1,zI x2,Sl.v 1 s0]),(oC [Sl.v 1 s1])])) (KI (DZ (CV (z:=1) (v:=(.agg ⟨[zI x0,zI x1,zI x2,Sl.v 1 s0]⟩)) (H:=(hT 3 [(oC [zI x0,zI x1,zI x2,Sl.v 1 s0]),(oC [Sl.v 1 s1])])) (by kernel_rfl) (by kernel_rfl) (by kernel_rfl)) (DZ (show ER 1 (sc 2 0 1 1 3) (hT 3 [(oC [zI x0,zI x1,zI x2,Sl.v 1 s0]),(oC [Sl.v 1 s1])])=some ((Sl.v 1 (Sl.mk 1 0 (Aq (1*1) (Am 0 ([Sl.v 1 s1]:LV))))),(hT 3 [(oC [zI x0,zI x1,zI x2,Sl.v 1 s0]),.dead])) from KH 2 0 1 1 3 ([Sl.v 1 s1]:LV) [] (by kernel_rfl) (by kernel_rfl) (by kernel_rfl)) Jt)) (by kernel_rfl) h0) (eE)) ?_
  refine .ghs (fr 34 [(1,Sl.v 1 s1),(2,zI x3),(8,(Cv (Db.off p0) (Db.cs p0))),(9,zI x4)]) Ay (.k0 [false] [] [1,2,8,9]) ?_
  refine .then (.then (.rK (.ghs (fr 34 [(1,Sl.v 1 s1),(2,zI x3),(8,(Cv (Db.off p0) (Db.cs p0))),(9,zI x4),(19,(zB (nt (Bd x4 (0:Int)))))]) Ay (.k0 [false] [] [1,2,8,9,19]) ?_)))
  replace hm:=Ag hm;rcases hm with⟨h3,hm⟩ | ⟨h3,hm⟩
  ·refine BI (nt (Bd x4 (0:Int))) h3 ?_
   refine .then (.rK (.ghs (fr 34 [(6,(.slice none 0 0)),(7,zI x4)]) Ay (.k0 [false] [] [6,7]) ?_))
   refine .ghs (Fr.puts (fr 34 [(6,(.slice none 0 0)),(7,zI x4)]) [(6,(Sl.v 1 (Sl.mk 0 2 [])))]) Ay (.freeze 1 6 1 (by kernel_rfl) (by kernel_rfl) (E9.id _ _)) ?_
   refine .ret ?_
   exact AO (.tuple ⟨[(Sl.v 1 (Sl.mk 0 2 [])),zI x4]⟩) hm
  ·refine BO (nt (Bd x4 (0:Int))) h3 ?_
   refine .skip (.ghs (fr 34 [(1,Sl.v 1 s1),(2,zI x3),(8,(Cv (Db.off p0) (Db.cs p0)))]) Ay (.k0 [false] [] [1,2,8]) ?_)
   refine .then ?_
   replace hm:=oS hm;obtain⟨s2,h4,hm⟩:=hm
   replace hm:=oI hm;obtain⟨x5,h5,hm⟩:=hm
   refine .reg (eC 4 (keep Ay (AL (Db.cs p0) (((Db.off p0)+0)+3))) (AZ h4) (eC 1 ((oo (pu 33 [Sl.v 1 s2,zI x3]) none fun v=>some (v,Ay))) (AB h5) (eE))) ?_
   refine .ghs (fr 34 [(1,Sl.v 1 s1),(8,(Cv (Db.off p0) (Db.cs p0))),(10,zI x5)]) Ay (.k0 [false] [] [1,8,10]) ?_
   refine .then (.then (.rK (.ghs (fr 34 [(1,Sl.v 1 s1),(8,(Cv (Db.off p0) (Db.cs p0))),(10,zI x5),(29,(zB (AY x5 (0:Int))))]) Ay (.k0 [false] [] [1,8,10,29]) ?_)))
   replace hm:=Ag hm;rcases hm with⟨h6,hm⟩ | ⟨h6,hm⟩
   ·refine BI (AY x5 (0:Int)) h6 ?_
    refine .then (.rK (.ghs (fr 34 [(6,(.slice none 0 0)),(7,(zI (2:Int)))]) Ay (.k0 [false] [] [6,7]) ?_))
    refine .ghs (Fr.puts (fr 34 [(6,(.slice none 0 0)),(7,(zI (2:Int)))]) [(6,(Sl.v 1 (Sl.mk 0 2 [])))]) Ay (.freeze 1 6 1 (by kernel_rfl) (by kernel_rfl) (E9.id _ _)) ?_
    refine .ret ?_
    exact AO (.tuple ⟨[(Sl.v 1 (Sl.mk 0 2 [])),(zI (2:Int))]⟩) hm
   ·refine BO (AY x5 (0:Int)) h6 ?_
    refine .skip (.ghs (fr 34 [(1,Sl.v 1 s1),(8,(Cv (Db.off p0) (Db.cs p0))),(10,zI x5)]) Ay (.k0 [false] [] [1,8,10]) ?_)
    refine .then ?_
    replace hm:=oS hm;obtain⟨s3,h7,hm⟩:=hm
    refine .reg (eC 3 ((oo (pu 34 [(Cv (Db.off p0) (Db.cs p0)),Sl.v 1 s1,zI x5]) none fun v=>some (v,Ay))) (AB h7) (eE)) ?_
    refine .ghs (fr 34 [(6,Sl.v 1 s3),(7,(zI (0:Int)))]) Ay (.k0 [false] [] [6,7]) ?_
    refine .ret ?_
    exact AO (.tuple ⟨[Sl.v 1 s3,(zI (0:Int))]⟩) hm
 ·replace hm:=Ae hm;obtain⟨h8,hm⟩:=hm
  obtain rfl:=KR h8
  replace hm:=Ai hm;obtain⟨x6,rfl,hm⟩:=hm
  refine .reg (eC 3 (Hr tabs 1 (pu 32) [(.agg ⟨[zI x0,zI x1,zI x2,Sl.v 1 s0]⟩),sc 2 0 1 1 3] (hT 3 [(oC [zI x0,zI x1,zI x2,Sl.v 1 s0]),(oC [Sl.v 1 s1])])) (KI (DZ (CV (z:=1) (v:=(.agg ⟨[zI x0,zI x1,zI x2,Sl.v 1 s0]⟩)) (H:=(hT 3 [(oC [zI x0,zI x1,zI x2,Sl.v 1 s0]),(oC [Sl.v 1 s1])])) (by kernel_rfl) (by kernel_rfl) (by kernel_rfl)) (DZ (show ER 1 (sc 2 0 1 1 3) (hT 3 [(oC [zI x0,zI x1,zI x2,Sl.v 1 s0]),(oC [Sl.v 1 s1])])=some ((Sl.v 1 (Sl.mk 1 0 (Aq (1*1) (Am 0 ([Sl.v 1 s1]:LV))))),(hT 3 [(oC [zI x0,zI x1,zI x2,Sl.v 1 s0]),.dead])) from KH 2 0 1 1 3 ([Sl.v 1 s1]:LV) [] (by kernel_rfl) (by kernel_rfl) (by kernel_rfl)) Jt)) (by kernel_rfl) h0) (eE)) ?_
  refine .ghs (fr 34 [(1,Sl.v 1 s1),(2,zI x3),(8,(.pointer none)),(9,zI x6)]) Ay (.k0 [false] [] [1,2,8,9]) ?_
  refine .then (.then (.rK (.ghs (fr 34 [(1,Sl.v 1 s1),(2,zI x3),(8,(.pointer none)),(9,zI x6),(19,(zB (nt (Bd x6 (0:Int)))))]) Ay (.k0 [false] [] [1,2,8,9,19]) ?_)))
  replace hm:=Ag hm;rcases hm with⟨h9,hm⟩ | ⟨h9,hm⟩
  ·refine BI (nt (Bd x6 (0:Int))) h9 ?_
   refine .then (.rK (.ghs (fr 34 [(6,(.slice none 0 0)),(7,zI x6)]) Ay (.k0 [false] [] [6,7]) ?_))
   refine .ghs (Fr.puts (fr 34 [(6,(.slice none 0 0)),(7,zI x6)]) [(6,(Sl.v 1 (Sl.mk 0 2 [])))]) Ay (.freeze 1 6 1 (by kernel_rfl) (by kernel_rfl) (E9.id _ _)) ?_
   refine .ret ?_
   exact AO (.tuple ⟨[(Sl.v 1 (Sl.mk 0 2 [])),zI x6]⟩) hm
  ·refine BO (nt (Bd x6 (0:Int))) h9 ?_
   refine .skip (.ghs (fr 34 [(1,Sl.v 1 s1),(2,zI x3),(8,(.pointer none))]) Ay (.k0 [false] [] [1,2,8]) ?_)
   refine .then ?_
   cases hm
def WM (pu:Af) (n:Nat):OV:=
 (some (.bool false))
def O3 (pu:Af) (n:Nat) (ih0:Sl→Sl→Int→Int→OV) (s0 s1:Sl) (z0 z1:Int):OV:=
 (bb (AY z1 z0) (oo (EA z1) none fun k1=>(bb (an (Nat.blt k1 (Sl.n s0)) true) (oo (AL (Sl.cs s0) (k1*1)) none fun v0=>(oo (Bi .i64 v0) none fun x0=>(bb (an (Nat.blt k1 (Sl.n s1)) true) (oo (AL (Sl.cs s1) (k1*1)) none fun v1=>(oo (Bi .i64 v1) none fun x1=>(bb (nt (Bd x0 x1)) (bb (an (Nat.blt k1 (Sl.n s0)) true) (oo (AL (Sl.cs s0) (k1*1)) none fun v2=>(oo (Bi .i64 v2) none fun x2=>(bb (an (Nat.blt k1 (Sl.n s1)) true) (oo (AL (Sl.cs s1) (k1*1)) none fun v3=>(oo (Bi .i64 v3) none fun x3=>(some (.bool (AY x2 x3))))) none))) none) (ih0 s0 s1 z0 (Aj .i64 (Int.add (Int.ofNat k1) (1:Int))))))) none))) none)) (WM pu n))
def QH (pu:Af) (n w:Nat):Sl→Sl→Int→Int→OV:=
 Nat.rec (motive:=fun _=>Sl→Sl→Int→Int→OV) (fun _ _ _ _=>none) (fun _ ih0=>O3 pu n ih0) w
def Ad2 (pu:Af) (n:Nat) (s0 s1:Sl):OV:=
 (QH pu n n s0 s1 (Int.ofNat (Sl.n s0)) (0:Int))
def m13 (pu:Af) (n:Nat) (args:LV):OV:=
 (ll args none fun a0 args=>(ll args none fun a1 args=>(ll args (oo (Bj 1 a0) none fun s0=>(oo (Bj 1 a1) none fun s1=>(Ad2 pu n s0 s1))) fun _ _=>none)))
theorem Ad4 (pu:Af) (n:Nat) {v:Value} (hm:WM pu n=some v):BN tt (Bb tabs isP pu (inl pu)) 1 Yv (fr 30 []) Ay (Fin tt 1 [.tmp 4] v):=by
 unfold WM at hm
 refine .then (.rK (.ghs (fr 30 [(4,zB false)]) Ay (.k0 [false] [] [4]) ?_))
 refine .ret ?_
 exact AO (zB false) hm
theorem r13 {call:A8} (pu:Af) (n:Nat) (hcall:call=Bb tabs isP pu (inl pu)) {args:LV} {v:Value} (hm:m13 pu n args=some v) (_:∀ x∈args,closed2 x=true):args.length≤30∧BN tt call 1 RZ (Fr.made 30 args) (Ao tabs) (Fin tt 1 [.tmp 4] v):=by
 subst hcall
 unfold m13 at hm
 replace hm:=Ad hm;obtain⟨a0,args_0,rfl,hm⟩:=hm
 replace hm:=Ad hm;obtain⟨a1,args_1,rfl,hm⟩:=hm
 replace hm:=AC hm;obtain⟨rfl,hm⟩:=hm
 replace hm:=Al hm;obtain⟨s0,rfl,hm⟩:=hm
 replace hm:=Al hm;obtain⟨s1,rfl,hm⟩:=hm
 unfold Ad2 at hm
 refine⟨by simp,?_⟩
 refine .same (F':=(fr 30 [(0,Sl.v 1 s0),(1,Sl.v 1 s1)])) (H':=Ay) (by kernel_rfl) (by kernel_rfl) ?_
 refine .then (.rK (.ghs (fr 30 [(0,Sl.v 1 s0),(1,Sl.v 1 s1)]) Ay (.k0 [false] [] [0,1]) ?_))
 refine .join (v:=v) (fun y:Unit=>((fr 30 []),Ay)) (fun y=>WM pu n) ?_ ?_
 ·rintro _ hm
  exact Ad4 pu n hm
 ·refine .then (.rK (.ghs (fr 30 [(0,Sl.v 1 s0),(1,Sl.v 1 s1),(7,(zI (Int.ofNat (Sl.n s0)))),(8,(zI (0:Int)))]) Ay (.k0 [false] [] [0,1,7,8]) ?_))
  refine .block (.loopM (v:=v) (fun y:Sl×Sl×Int×Int=>((fr 30 [(0,(Sl.v 1 y.1)),(1,(Sl.v 1 y.2.1)),(7,(zI y.2.2.1)),(8,(zI y.2.2.2))]),Ay)) (fun w y=>QH pu n w y.1 y.2.1 y.2.2.1 y.2.2.2) n ⟨(s0,s1,(Int.ofNat (Sl.n s0)),(0:Int)),hm,(.k0 [false] [] [0,1,7,8])⟩ (fun _=>rfl) ?_)
  rintro w0 ⟨s2,s3,z0,z1⟩ hm
  replace hm:O3 pu n (QH pu n w0) s2 s3 z0 z1=some v:=hm
  unfold O3 at hm
  refine .then (.rK (.ghs (fr 30 [(0,Sl.v 1 s2),(1,Sl.v 1 s3),(7,zI z0),(8,zI z1),(9,(zB (AY z1 z0)))]) Ay (.k0 [false] [] [0,1,7,8,9]) ?_))
  refine .then ?_
  replace hm:=Ag hm;rcases hm with⟨h0,hm⟩ | ⟨h0,hm⟩
  ·refine BI (AY z1 z0) h0 ?_
   refine .skip (.ghs (fr 30 [(0,Sl.v 1 s2),(1,Sl.v 1 s3),(7,zI z0),(8,zI z1)]) Ay (.k0 [false] [] [0,1,7,8]) ?_)
   refine .then (.block (.then (.rK (.ghs (fr 30 [(0,Sl.v 1 s2),(1,Sl.v 1 s3),(5,zI z1),(7,zI z0),(8,zI z1)]) Ay (.k0 [false] [] [0,1,5,7,8]) ?_))))
   refine .then ?_
   replace hm:=Ab hm;obtain⟨k1,h1,hm⟩:=hm
   obtain rfl:=AR h1
   replace hm:=Ae hm;obtain⟨h2,hm⟩:=hm
   replace hm:=oI hm;obtain⟨x0,h3,hm⟩:=hm
   replace hm:=Ae hm;obtain⟨h4,hm⟩:=hm
   replace hm:=oI hm;obtain⟨x1,h5,hm⟩:=hm
   refine .reg (eC 2 (keep Ay (bb (an (Nat.blt k1 (Sl.n s2)) true) (some (Cv (k1*1) (Sl.cs s2))) none)) (AX h2) (eD (keep Ay (AL (Sl.cs s2) (k1*1))) (AZ h3) (eC 2 (keep Ay (bb (an (Nat.blt k1 (Sl.n s3)) true) (some (Cv (k1*1) (Sl.cs s3))) none)) (AX h4) (eD (keep Ay (AL (Sl.cs s3) (k1*1))) (AZ h5) (eE))))) ?_
   refine .ghs (fr 30 [(0,Sl.v 1 s2),(1,Sl.v 1 s3),(5,(zI (Int.ofNat k1))),(7,zI z0),(8,(zI (Int.ofNat k1))),(19,(zB (nt (Bd x0 x1))))]) Ay (.k0 [false] [] [0,1,5,7,8,19]) ?_
   replace hm:=Ag hm;rcases hm with⟨h6,hm⟩ | ⟨h6,hm⟩
   ·refine BI (nt (Bd x0 x1)) h6 ?_
    refine .then ?_
    replace hm:=Ae hm;obtain⟨h7,hm⟩:=hm
    replace hm:=oI hm;obtain⟨x2,h8,hm⟩:=hm
    replace hm:=Ae hm;obtain⟨h9,hm⟩:=hm
    replace hm:=oI hm;obtain⟨x3,h10,hm⟩:=hm
    refine .reg (eC 2 (keep Ay (bb (an (Nat.blt k1 (Sl.n s2)) true) (some (Cv (k1*1) (Sl.cs s2))) none)) (AX h7) (eD (keep Ay (AL (Sl.cs s2) (k1*1))) (AZ h8) (eC 2 (keep Ay (bb (an (Nat.blt k1 (Sl.n s3)) true) (some (Cv (k1*1) (Sl.cs s3))) none)) (AX h9) (eD (keep Ay (AL (Sl.cs s3) (k1*1))) (AZ h10) (eE))))) ?_
    refine .ghs (fr 30 [(4,(zB (AY x2 x3)))]) Ay (.k0 [false] [] [4]) ?_
    refine .ret ?_
    exact AO (zB (AY x2 x3)) hm
   ·refine BO (nt (Bd x0 x1)) h6 ?_
    refine .skip (.ghs (fr 30 [(0,Sl.v 1 s2),(1,Sl.v 1 s3),(7,zI z0),(8,(zI (Int.ofNat k1)))]) Ay (.k0 [false] [] [0,1,7,8]) ?_)
    refine .rK ?_
    exact⟨(s2,s3,z0,(Aj .i64 (Int.add (Int.ofNat k1) (1:Int)))),hm,(.k0 [false] [] [0,1,7,8])⟩
  ·refine BO (AY z1 z0) h0 ?_
   refine .exit ?_
   exact⟨(),hm,(.k0 [false] [] [])⟩

def fG (pu:Af) (n:Nat) (x0 x1 x2:Int) (s0 s1:Sl):OV:=
 (oo (pu 32 [(.agg ⟨[.int .i64 x0,.int .i64 x1,.int .i64 x2,Sl.v 1 s0]⟩),(Sl.v 1 (Sl.mk 1 0 (Aq (1*1) (Am 0 ([Sl.v 1 s1]:LV)))))]) none fun v0=>(oo (CQ v0) none fun l0=>(ll l0 none fun v1 l0=>(ll l0 none fun v2 l0=>(ll l0 (bb (isS (Pv v1)) (oo (Pv v1) none fun p0=>(oo (Bi .i64 v2) none fun x3=>(bb (nt (Bd x3 (0:Int))) (some (.tuple ⟨[(Sl.v 1 (Sl.mk 0 2 [])),.int .i64 x3]⟩)) (oo (pu 35 [(Cv (Db.off p0) (Db.cs p0)),Sl.v 1 s1]) none fun v3=>(oo (Bj 1 v3) none fun s2=>(some (.tuple ⟨[Sl.v 1 s2,(.int .i64 (0:Int))]⟩))))))) (bb (T9 v1) (oo (Bi .i64 v2) none fun x4=>(bb (nt (Bd x4 (0:Int))) (some (.tuple ⟨[(Sl.v 1 (Sl.mk 0 2 [])),.int .i64 x4]⟩)) (oo (pu 35 [(.pointer none),Sl.v 1 s1]) none fun v4=>(oo (Bj 1 v4) none fun s3=>(some (.tuple ⟨[Sl.v 1 s3,(.int .i64 (0:Int))]⟩)))))) none)) fun _ _=>none)))))
def m14 (pu:Af) (n:Nat) (args:LV):OV:=
 (ll args none fun a0 args=>(ll args none fun a1 args=>(ll args (oo (Bt a0) none fun l0=>(ll l0 none fun v0 l0=>(ll l0 none fun v1 l0=>(ll l0 none fun v2 l0=>(ll l0 none fun v3 l0=>(ll l0 (oo (Bi .i64 v0) none fun x0=>(oo (Bi .i64 v1) none fun x1=>(oo (Bi .i64 v2) none fun x2=>(oo (Bj 1 v3) none fun s0=>(oo (Bj 1 a1) none fun s1=>(fG pu n x0 x1 x2 s0 s1)))))) fun _ _=>none)))))) fun _ _=>none)))
theorem r14 {call:A8} (pu:Af) (n:Nat) (hcall:call=Bb tabs isP pu (inl pu)) {args:LV} {v:Value} (hm:m14 pu n args=some v) (_:∀ x∈args,closed2 x=true):args.length≤21∧BN tt call 1 R4 (Fr.made 21 args) (Ao tabs) (Fin tt 1 [.tmp 4,.tmp 5] v):=by
 subst hcall
 unfold m14 at hm
 replace hm:=Ad hm;obtain⟨a0,args_0,rfl,hm⟩:=hm
 replace hm:=Ad hm;obtain⟨a1,args_1,rfl,hm⟩:=hm
 replace hm:=AC hm;obtain⟨rfl,hm⟩:=hm
 replace hm:=BG hm;obtain⟨l0,rfl,hm⟩:=hm
 replace hm:=Ad hm;obtain⟨v0,l14705_0,rfl,hm⟩:=hm
 replace hm:=Ad hm;obtain⟨v1,l14705_1,rfl,hm⟩:=hm
 replace hm:=Ad hm;obtain⟨v2,l14705_2,rfl,hm⟩:=hm
 replace hm:=Ad hm;obtain⟨v3,l14705_3,rfl,hm⟩:=hm
 replace hm:=AC hm;obtain⟨rfl,hm⟩:=hm
 replace hm:=Ai hm;obtain⟨x0,rfl,hm⟩:=hm
 replace hm:=Ai hm;obtain⟨x1,rfl,hm⟩:=hm
 replace hm:=Ai hm;obtain⟨x2,rfl,hm⟩:=hm
 replace hm:=Al hm;obtain⟨s0,rfl,hm⟩:=hm
 replace hm:=Al hm;obtain⟨s1,rfl,hm⟩:=hm
 unfold fG at hm
 refine⟨by simp,?_⟩
 refine .same (F':=(fr 21 [(0,(.agg ⟨[zI x0,zI x1,zI x2,Sl.v 1 s0]⟩)),(1,Sl.v 1 s1)])) (H':=Ay) (by kernel_rfl) (by kernel_rfl) ?_
 refine .then (.rK (.ghs (fr 21 [(1,Sl.v 1 s1),(2,pt 1 0)]) (hT 2 [(oC [zI x0,zI x1,zI x2,Sl.v 1 s0])]) (.k0 [false] [.tmp 2 false] [1,2]) ?_))
 refine .then ?_
 replace hm:=Ab hm;obtain⟨v4,h0,hm⟩:=hm
 replace hm:=Ch hm;obtain⟨l1,rfl,hm⟩:=hm
 replace hm:=Ad hm;obtain⟨v5,l14734_0,rfl,hm⟩:=hm
 replace hm:=Ad hm;obtain⟨v6,l14734_1,rfl,hm⟩:=hm
 replace hm:=AC hm;obtain⟨rfl,hm⟩:=hm
 replace hm:=Ag hm;rcases hm with⟨h1,hm⟩ | ⟨h1,hm⟩
 ·replace hm:=Ab hm;obtain⟨p0,h2,hm⟩:=hm
  obtain rfl:=F7 h2
  replace hm:=Ai hm;obtain⟨x3,rfl,hm⟩:=hm
  refine .reg (eC 3 (Hr tabs 1 (pu 32) [(.agg ⟨[zI x0,zI x1,zI x2,Sl.v 1 s0]⟩),sc 2 0 1 1 3] (hT 3 [(oC [zI x0,zI x1,zI x2,Sl.v 1 s0]),(oC [Sl.v 1 s1])])) (KI (DZ (CV (z:=1) (v:=(.agg ⟨[zI x0,zI x1,zI x2,Sl.v 1 s0]⟩)) (H:=(hT 3 [(oC [zI x0,zI x1,zI x2,Sl.v 1 s0]),(oC [Sl.v 1 s1])])) (by kernel_rfl) (by kernel_rfl) (by kernel_rfl)) (DZ (show ER 1 (sc 2 0 1 1 3) (hT 3 [(oC [zI x0,zI x1,zI x2,Sl.v 1 s0]),(oC [Sl.v 1 s1])])=some ((Sl.v 1 (Sl.mk 1 0 (Aq (1*1) (Am 0 ([Sl.v 1 s1]:LV))))),(hT 3 [(oC [zI x0,zI x1,zI x2,Sl.v 1 s0]),.dead])) from KH 2 0 1 1 3 ([Sl.v 1 s1]:LV) [] (by kernel_rfl) (by kernel_rfl) (by kernel_rfl)) Jt)) (by kernel_rfl) h0) (eE)) ?_
  refine .ghs (fr 21 [(1,Sl.v 1 s1),(6,(Cv (Db.off p0) (Db.cs p0))),(7,zI x3)]) Ay (.k0 [false] [] [1,6,7]) ?_
  refine .then (.then (.rK (.ghs (fr 21 [(1,Sl.v 1 s1),(6,(Cv (Db.off p0) (Db.cs p0))),(7,zI x3),(16,(zB (nt (Bd x3 (0:Int)))))]) Ay (.k0 [false] [] [1,6,7,16]) ?_)))
  replace hm:=Ag hm;rcases hm with⟨h3,hm⟩ | ⟨h3,hm⟩
  ·refine BI (nt (Bd x3 (0:Int))) h3 ?_
   refine .then (.rK (.ghs (fr 21 [(4,(.slice none 0 0)),(5,zI x3)]) Ay (.k0 [false] [] [4,5]) ?_))
   refine .ghs (Fr.puts (fr 21 [(4,(.slice none 0 0)),(5,zI x3)]) [(4,(Sl.v 1 (Sl.mk 0 2 [])))]) Ay (.freeze 1 4 1 (by kernel_rfl) (by kernel_rfl) (E9.id _ _)) ?_
   refine .ret ?_
   exact AO (.tuple ⟨[(Sl.v 1 (Sl.mk 0 2 [])),zI x3]⟩) hm
  ·refine BO (nt (Bd x3 (0:Int))) h3 ?_
   refine .skip (.ghs (fr 21 [(1,Sl.v 1 s1),(6,(Cv (Db.off p0) (Db.cs p0)))]) Ay (.k0 [false] [] [1,6]) ?_)
   refine .then ?_
   replace hm:=oS hm;obtain⟨s2,h4,hm⟩:=hm
   refine .reg (eC 2 ((oo (pu 35 [(Cv (Db.off p0) (Db.cs p0)),Sl.v 1 s1]) none fun v=>some (v,Ay))) (AB h4) (eE)) ?_
   refine .ghs (fr 21 [(4,Sl.v 1 s2),(5,(zI (0:Int)))]) Ay (.k0 [false] [] [4,5]) ?_
   refine .ret ?_
   exact AO (.tuple ⟨[Sl.v 1 s2,(zI (0:Int))]⟩) hm
 ·replace hm:=Ae hm;obtain⟨h5,hm⟩:=hm
  obtain rfl:=KR h5
  replace hm:=Ai hm;obtain⟨x4,rfl,hm⟩:=hm
  refine .reg (eC 3 (Hr tabs 1 (pu 32) [(.agg ⟨[zI x0,zI x1,zI x2,Sl.v 1 s0]⟩),sc 2 0 1 1 3] (hT 3 [(oC [zI x0,zI x1,zI x2,Sl.v 1 s0]),(oC [Sl.v 1 s1])])) (KI (DZ (CV (z:=1) (v:=(.agg ⟨[zI x0,zI x1,zI x2,Sl.v 1 s0]⟩)) (H:=(hT 3 [(oC [zI x0,zI x1,zI x2,Sl.v 1 s0]),(oC [Sl.v 1 s1])])) (by kernel_rfl) (by kernel_rfl) (by kernel_rfl)) (DZ (show ER 1 (sc 2 0 1 1 3) (hT 3 [(oC [zI x0,zI x1,zI x2,Sl.v 1 s0]),(oC [Sl.v 1 s1])])=some ((Sl.v 1 (Sl.mk 1 0 (Aq (1*1) (Am 0 ([Sl.v 1 s1]:LV))))),(hT 3 [(oC [zI x0,zI x1,zI x2,Sl.v 1 s0]),.dead])) from KH 2 0 1 1 3 ([Sl.v 1 s1]:LV) [] (by kernel_rfl) (by kernel_rfl) (by kernel_rfl)) Jt)) (by kernel_rfl) h0) (eE)) ?_
  refine .ghs (fr 21 [(1,Sl.v 1 s1),(6,(.pointer none)),(7,zI x4)]) Ay (.k0 [false] [] [1,6,7]) ?_
  refine .then (.then (.rK (.ghs (fr 21 [(1,Sl.v 1 s1),(6,(.pointer none)),(7,zI x4),(16,(zB (nt (Bd x4 (0:Int)))))]) Ay (.k0 [false] [] [1,6,7,16]) ?_)))
  replace hm:=Ag hm;rcases hm with⟨h6,hm⟩ | ⟨h6,hm⟩
  ·refine BI (nt (Bd x4 (0:Int))) h6 ?_
   refine .then (.rK (.ghs (fr 21 [(4,(.slice none 0 0)),(5,zI x4)]) Ay (.k0 [false] [] [4,5]) ?_))
   refine .ghs (Fr.puts (fr 21 [(4,(.slice none 0 0)),(5,zI x4)]) [(4,(Sl.v 1 (Sl.mk 0 2 [])))]) Ay (.freeze 1 4 1 (by kernel_rfl) (by kernel_rfl) (E9.id _ _)) ?_
   refine .ret ?_
   exact AO (.tuple ⟨[(Sl.v 1 (Sl.mk 0 2 [])),zI x4]⟩) hm
  ·refine BO (nt (Bd x4 (0:Int))) h6 ?_
   refine .skip (.ghs (fr 21 [(1,Sl.v 1 s1),(6,(.pointer none))]) Ay (.k0 [false] [] [1,6]) ?_)
   refine .then ?_
   replace hm:=oS hm;obtain⟨s3,h7,hm⟩:=hm
   refine .reg (eC 2 ((oo (pu 35 [(.pointer none),Sl.v 1 s1]) none fun v=>some (v,Ay))) (AB h7) (eE)) ?_
   refine .ghs (fr 21 [(4,Sl.v 1 s3),(5,(zI (0:Int)))]) Ay (.k0 [false] [] [4,5]) ?_
   refine .ret ?_
   exact AO (.tuple ⟨[Sl.v 1 s3,(zI (0:Int))]⟩) hm
def WN (pu:Af) (n n0 c0:Nat) (q0:LV):OV:=
 (bb (Au Ah q0) (bb (an (Nat.ble (0+n0*1) (len q0)) (Au Ah (Aq (n0*1) (Am 0 q0)))) (some (.tuple ⟨[(Sl.v 1 (Sl.mk n0 0 (Aq (n0*1) (Am 0 q0)))),(.int .i64 (0:Int))]⟩)) none) none)
def Ul (pu:Af) (n:Nat) (ih0:Sl→Nat→LV→Nat→Nat→Sl→Int→Int→LV→OV) (s0:Sl) (n0:Nat) (q0:LV) (n1 c0:Nat) (s1:Sl) (z0 z1:Int) (q1:LV):OV:=
 (bb (Au Ah q1) (ih0 s0 n0 q0 n1 c0 s1 z0 (Aj .i64 (Int.add z1 (1:Int))) q1) none)
def Um (pu:Af) (n:Nat) (ih0:Sl→Nat→LV→Nat→Nat→Sl→Int→Int→LV→OV) (s0:Sl) (n0:Nat) (q0:LV) (n1 c0:Nat) (s1:Sl) (z0 z1:Int) (q1:LV):OV:=
 (bb (Au Ah q1) (bb (AY z1 z0) (oo (EA z1) none fun k1=>(bb (an (Nat.blt k1 (Sl.n s1)) true) (oo (AL (Sl.cs s1) (k1*1)) none fun v0=>(oo (Bi .i64 v0) none fun x0=>(oo (pu 36 [(Cv n0 q0),Sl.v 1 s0,(.int .i64 (Int.ofNat k1))]) none fun v1=>(oo (Bi .u16 v1) none fun x1=>(bb (Bd x1 (0:Int)) (bb (GV 1 8 n1 c0 1 q1) (bb (Au Ah (Br (Am 0 q1) [.int .i64 x0])) (Ul pu n ih0 s0 n0 q0 (n1+1) (2*(n1+1)+bb false 1 0) s1 z0 (Int.ofNat k1) (Br (Am 0 q1) [.int .i64 x0])) none) none) (Ul pu n ih0 s0 n0 q0 n1 c0 s1 z0 (Int.ofNat k1) q1)))))) none)) (WN pu n n1 c0 q1)) none)
def Oi (pu:Af) (n w:Nat):Sl→Nat→LV→Nat→Nat→Sl→Int→Int→LV→OV:=
 Nat.rec (motive:=fun _=>Sl→Nat→LV→Nat→Nat→Sl→Int→Int→LV→OV) (fun _ _ _ _ _ _ _ _ _=>none) (fun _ ih0=>Um pu n ih0) w
def fH (pu:Af) (n:Nat) (x0 x1 x2:Int) (s0 s1:Sl):OV:=
 (oo (pu 32 [(.agg ⟨[.int .i64 x0,.int .i64 x1,.int .i64 x2,Sl.v 1 s0]⟩),(Sl.v 1 (Sl.mk 1 0 (Aq (1*1) (Am 0 ([Sl.v 1 s1]:LV)))))]) none fun v0=>(oo (CQ v0) none fun l0=>(ll l0 none fun v1 l0=>(ll l0 none fun v2 l0=>(ll l0 (bb (isS (Pv v1)) (oo (Pv v1) none fun p0=>(oo (Bi .i64 v2) none fun x3=>(bb (nt (Bd x3 (0:Int))) (some (.tuple ⟨[(Sl.v 1 (Sl.mk 0 2 [])),.int .i64 x3]⟩)) (oo (AL (Db.cs p0) (((Db.off p0)+0)+3)) none fun v3=>(oo (Bj 1 v3) none fun s2=>(Oi pu n n s1 (Db.off p0) (Db.cs p0) 0 0 s2 (Int.ofNat (Sl.n s2)) (0:Int) ([]:LV))))))) (bb (T9 v1) (oo (Bi .i64 v2) none fun x4=>(bb (nt (Bd x4 (0:Int))) (some (.tuple ⟨[(Sl.v 1 (Sl.mk 0 2 [])),.int .i64 x4]⟩)) none)) none)) fun _ _=>none)))))
def m15 (pu:Af) (n:Nat) (args:LV):OV:=
 (ll args none fun a0 args=>(ll args none fun a1 args=>(ll args (oo (Bt a0) none fun l0=>(ll l0 none fun v0 l0=>(ll l0 none fun v1 l0=>(ll l0 none fun v2 l0=>(ll l0 none fun v3 l0=>(ll l0 (oo (Bi .i64 v0) none fun x0=>(oo (Bi .i64 v1) none fun x1=>(oo (Bi .i64 v2) none fun x2=>(oo (Bj 1 v3) none fun s0=>(oo (Bj 1 a1) none fun s1=>(fH pu n x0 x1 x2 s0 s1)))))) fun _ _=>none)))))) fun _ _=>none)))
theorem Ad7 (pu:Af) (n n0 c0:Nat) (q0:LV) {v:Value} (hm:WN pu n n0 c0 q0=some v):BN tt (Bb tabs isP pu (inl pu)) 1 Yw (fr 43 [(8,sc 1 0 1 n0 c0)]) (hT 2 [oC q0]) (Fin tt 1 [.tmp 4,.tmp 5] v):=by
 unfold WN at hm
 refine .then (.rK ?_)
 replace hm:=Ae hm;obtain⟨h0,hm⟩:=hm
 refine .ghs (fr 43 [(4,sc 1 0 1 n0 c0),(5,(zI (0:Int)))]) (hT 2 [oC q0]) (.k [1] [false] [.tmp 4 false] [4,5] ⟨A7 h0,trivial⟩) ?_
 replace hm:=Ae hm;obtain⟨h1,hm⟩:=hm
 refine .ghs (Fr.puts (fr 43 [(4,sc 1 0 1 n0 c0),(5,(zI (0:Int)))]) [(4,(Sl.v 1 (Sl.mk n0 0 (Aq (n0*1) (Am 0 q0)))))]) (hT 2 [.dead]) (.freezeC 1 4 1 (an (Nat.ble (0+n0*1) (len q0)) (Au Ah (Aq (n0*1) (Am 0 q0)))) (F1:=(Fr.puts (fr 43 [(4,sc 1 0 1 n0 c0),(5,(zI (0:Int)))]) [(4,(Sl.v 1 (Sl.mk n0 0 (Aq (n0*1) (Am 0 q0)))))])) (H1:=(hT 2 [.dead])) (by kernel_rfl) (by kernel_rfl) h1 (E9.id _ _)) ?_
 refine .ret ?_
 exact AO (.tuple ⟨[(Sl.v 1 (Sl.mk n0 0 (Aq (n0*1) (Am 0 q0)))),(zI (0:Int))]⟩) hm
theorem r15 {call:A8} (pu:Af) (n:Nat) (hcall:call=Bb tabs isP pu (inl pu)) {args:LV} {v:Value} (hm:m15 pu n args=some v) (_:∀ x∈args,closed2 x=true):args.length≤43∧BN tt call 1 R5 (Fr.made 43 args) (Ao tabs) (Fin tt 1 [.tmp 4,.tmp 5] v):=by
 subst hcall
 unfold m15 at hm
 replace hm:=Ad hm;obtain⟨a0,args_0,rfl,hm⟩:=hm
 replace hm:=Ad hm;obtain⟨a1,args_1,rfl,hm⟩:=hm
 replace hm:=AC hm;obtain⟨rfl,hm⟩:=hm
 replace hm:=BG hm;obtain⟨l0,rfl,hm⟩:=hm
 replace hm:=Ad hm;obtain⟨v0,l14761_0,rfl,hm⟩:=hm
 replace hm:=Ad hm;obtain⟨v1,l14761_1,rfl,hm⟩:=hm
 replace hm:=Ad hm;obtain⟨v2,l14761_2,rfl,hm⟩:=hm
 replace hm:=Ad hm;obtain⟨v3,l14761_3,rfl,hm⟩:=hm
 replace hm:=AC hm;obtain⟨rfl,hm⟩:=hm
 replace hm:=Ai hm;obtain⟨x0,rfl,hm⟩:=hm
 replace hm:=Ai hm;obtain⟨x1,rfl,hm⟩:=hm
 replace hm:=Ai hm;obtain⟨x2,rfl,hm⟩:=hm
 replace hm:=Al hm;obtain⟨s0,rfl,hm⟩:=hm
 replace hm:=Al hm;obtain⟨s1,rfl,hm⟩:=hm
 unfold fH at hm
 refine⟨by simp,?_⟩
 refine .same (F':=(fr 43 [(0,(.agg ⟨[zI x0,zI x1,zI x2,Sl.v 1 s0]⟩)),(1,Sl.v 1 s1)])) (H':=Ay) (by kernel_rfl) (by kernel_rfl) ?_
 refine .then (.rK (.ghs (fr 43 [(1,Sl.v 1 s1),(2,pt 1 0)]) (hT 2 [(oC [zI x0,zI x1,zI x2,Sl.v 1 s0])]) (.k0 [false] [.tmp 2 false] [1,2]) ?_))
 refine .then ?_
 replace hm:=Ab hm;obtain⟨v4,h0,hm⟩:=hm
 replace hm:=Ch hm;obtain⟨l1,rfl,hm⟩:=hm
 replace hm:=Ad hm;obtain⟨v5,l14790_0,rfl,hm⟩:=hm
 replace hm:=Ad hm;obtain⟨v6,l14790_1,rfl,hm⟩:=hm
 replace hm:=AC hm;obtain⟨rfl,hm⟩:=hm
 replace hm:=Ag hm;rcases hm with⟨h1,hm⟩ | ⟨h1,hm⟩
 ·replace hm:=Ab hm;obtain⟨p0,h2,hm⟩:=hm
  obtain rfl:=F7 h2
  replace hm:=Ai hm;obtain⟨x3,rfl,hm⟩:=hm
  refine .reg (eC 3 (Hr tabs 1 (pu 32) [(.agg ⟨[zI x0,zI x1,zI x2,Sl.v 1 s0]⟩),sc 2 0 1 1 3] (hT 3 [(oC [zI x0,zI x1,zI x2,Sl.v 1 s0]),(oC [Sl.v 1 s1])])) (KI (DZ (CV (z:=1) (v:=(.agg ⟨[zI x0,zI x1,zI x2,Sl.v 1 s0]⟩)) (H:=(hT 3 [(oC [zI x0,zI x1,zI x2,Sl.v 1 s0]),(oC [Sl.v 1 s1])])) (by kernel_rfl) (by kernel_rfl) (by kernel_rfl)) (DZ (show ER 1 (sc 2 0 1 1 3) (hT 3 [(oC [zI x0,zI x1,zI x2,Sl.v 1 s0]),(oC [Sl.v 1 s1])])=some ((Sl.v 1 (Sl.mk 1 0 (Aq (1*1) (Am 0 ([Sl.v 1 s1]:LV))))),(hT 3 [(oC [zI x0,zI x1,zI x2,Sl.v 1 s0]),.dead])) from KH 2 0 1 1 3 ([Sl.v 1 s1]:LV) [] (by kernel_rfl) (by kernel_rfl) (by kernel_rfl)) Jt)) (by kernel_rfl) h0) (eE)) ?_
  refine .ghs (fr 43 [(1,Sl.v 1 s1),(6,(Cv (Db.off p0) (Db.cs p0))),(7,zI x3)]) Ay (.k0 [false] [] [1,6,7]) ?_
  refine .then (.then (.rK (.ghs (fr 43 [(1,Sl.v 1 s1),(6,(Cv (Db.off p0) (Db.cs p0))),(7,zI x3),(19,(zB (nt (Bd x3 (0:Int)))))]) Ay (.k0 [false] [] [1,6,7,19]) ?_)))
  replace hm:=Ag hm;rcases hm with⟨h3,hm⟩ | ⟨h3,hm⟩
  ·refine BI (nt (Bd x3 (0:Int))) h3 ?_
   refine .then (.rK (.ghs (fr 43 [(4,(.slice none 0 0)),(5,zI x3)]) Ay (.k0 [false] [] [4,5]) ?_))
   refine .ghs (Fr.puts (fr 43 [(4,(.slice none 0 0)),(5,zI x3)]) [(4,(Sl.v 1 (Sl.mk 0 2 [])))]) Ay (.freeze 1 4 1 (by kernel_rfl) (by kernel_rfl) (E9.id _ _)) ?_
   refine .ret ?_
   exact AO (.tuple ⟨[(Sl.v 1 (Sl.mk 0 2 [])),zI x3]⟩) hm
  ·refine BO (nt (Bd x3 (0:Int))) h3 ?_
   refine .skip (.ghs (fr 43 [(1,Sl.v 1 s1),(6,(Cv (Db.off p0) (Db.cs p0)))]) Ay (.k0 [false] [] [1,6]) ?_)
   refine .then (.rK (.ghs (fr 43 [(1,Sl.v 1 s1),(6,(Cv (Db.off p0) (Db.cs p0))),(8,(.slice none 0 0))]) Ay (.k0 [false] [] [1,6,8]) ?_))
   refine .join (v:=v) (fun y:Nat×Nat×LV=>((fr 43 [(8,(sc 1 0 1 y.1 y.2.1))]),(hT 2 [(oC y.2.2)]))) (fun y=>WN pu n y.1 y.2.1 y.2.2) ?_ ?_
   ·rintro⟨n0,c0,q0⟩ hm
    exact Ad7 pu n n0 c0 q0 hm
   ·refine .then ?_
    replace hm:=oS hm;obtain⟨s2,h4,hm⟩:=hm
    refine .reg (eC 4 (keep Ay (AL (Db.cs p0) (((Db.off p0)+0)+3))) (AZ h4) (eE)) ?_
    refine .ghs (fr 43 [(1,Sl.v 1 s1),(6,(Cv (Db.off p0) (Db.cs p0))),(8,(.slice none 0 0)),(25,Sl.v 1 s2),(26,(zI (Int.ofNat (Sl.n s2)))),(27,(zI (0:Int)))]) Ay (.k0 [false] [] [1,6,8,25,26,27]) ?_
    refine .block (.loopM (v:=v) (fun y:Sl×Nat×LV×Nat×Nat×Sl×Int×Int×LV=>((fr 43 [(1,(Sl.v 1 y.1)),(6,(Cv y.2.1 y.2.2.1)),(8,(sc 1 0 1 y.2.2.2.1 y.2.2.2.2.1)),(25,(Sl.v 1 y.2.2.2.2.2.1)),(26,(zI y.2.2.2.2.2.2.1)),(27,(zI y.2.2.2.2.2.2.2.1))]),(hT 2 [(oC y.2.2.2.2.2.2.2.2)]))) (fun w y=>Oi pu n w y.1 y.2.1 y.2.2.1 y.2.2.2.1 y.2.2.2.2.1 y.2.2.2.2.2.1 y.2.2.2.2.2.2.1 y.2.2.2.2.2.2.2.1 y.2.2.2.2.2.2.2.2) n ⟨(s1,(Db.off p0),(Db.cs p0),0,0,s2,(Int.ofNat (Sl.n s2)),(0:Int),([]:LV)),hm,(.thaw 8 1 (by kernel_rfl) (.k0 [false] [.tmp 8 false] [1,6,8,25,26,27]))⟩ (fun _=>rfl) ?_)
    rintro w0 ⟨s3,n1,q1,n2,c1,s4,z0,z1,q2⟩ hm
    replace hm:Um pu n (Oi pu n w0) s3 n1 q1 n2 c1 s4 z0 z1 q2=some v:=hm
    unfold Um at hm
    refine .then (.rK ?_)
    replace hm:=Ae hm;obtain⟨h5,hm⟩:=hm
    refine .ghs (fr 43 [(1,Sl.v 1 s3),(6,(Cv n1 q1)),(8,sc 1 0 1 n2 c1),(25,Sl.v 1 s4),(26,zI z0),(27,zI z1),(28,(zB (AY z1 z0)))]) (hT 2 [oC q2]) (.k [1] [false] [.tmp 8 false] [1,6,8,25,26,27,28] ⟨A7 h5,trivial⟩) ?_
    refine .then ?_
    replace hm:=Ag hm;rcases hm with⟨h6,hm⟩ | ⟨h6,hm⟩
    ·refine BI (AY z1 z0) h6 ?_
     refine .skip (.ghs (fr 43 [(1,Sl.v 1 s3),(6,(Cv n1 q1)),(8,sc 1 0 1 n2 c1),(25,Sl.v 1 s4),(26,zI z0),(27,zI z1)]) (hT 2 [oC q2]) (.k [1] [false] [.tmp 8 false] [1,6,8,25,26,27] ⟨A7 h5,trivial⟩) ?_)
     refine .join (v:=v) (fun y:Sl×Nat×LV×Nat×Nat×Sl×Int×Int×LV=>((fr 43 [(1,(Sl.v 1 y.1)),(6,(Cv y.2.1 y.2.2.1)),(8,(sc 1 0 1 y.2.2.2.1 y.2.2.2.2.1)),(25,(Sl.v 1 y.2.2.2.2.2.1)),(26,(zI y.2.2.2.2.2.2.1)),(27,(zI y.2.2.2.2.2.2.2.1))]),(hT 2 [(oC y.2.2.2.2.2.2.2.2)]))) (fun y=>Ul pu n (Oi pu n w0) y.1 y.2.1 y.2.2.1 y.2.2.2.1 y.2.2.2.2.1 y.2.2.2.2.2.1 y.2.2.2.2.2.2.1 y.2.2.2.2.2.2.2.1 y.2.2.2.2.2.2.2.2) ?_ ?_
     ·rintro⟨s5,n3,q3,n4,c2,s6,z2,z3,q4⟩ hm
      unfold Ul at hm
      refine .rK ?_
      replace hm:=Ae hm;obtain⟨h7,hm⟩:=hm
      exact⟨(s5,n3,q3,n4,c2,s6,z2,(Aj .i64 (Int.add z3 (1:Int))),q4),hm,(.k [1] [false] [.tmp 8 false] [1,6,8,25,26,27] ⟨A7 h7,trivial⟩)⟩
     ·refine .block (.then ?_)
      replace hm:=Ab hm;obtain⟨k1,h8,hm⟩:=hm
      obtain rfl:=AR h8
      replace hm:=Ae hm;obtain⟨h9,hm⟩:=hm
      replace hm:=oI hm;obtain⟨x4,h10,hm⟩:=hm
      refine .reg (eC 1 (keep (hT 2 [oC q2]) (bb (an (Nat.blt k1 (Sl.n s4)) true) (some (Cv (k1*1) (Sl.cs s4))) none)) (AX h9) (eD (keep (hT 2 [oC q2]) (AL (Sl.cs s4) (k1*1))) (AZ h10) (eE))) ?_
      refine .ghs (fr 43 [(1,Sl.v 1 s3),(6,(Cv n1 q1)),(8,sc 1 0 1 n2 c1),(9,(zI (Int.ofNat k1))),(10,zI x4),(25,Sl.v 1 s4),(26,zI z0),(27,(zI (Int.ofNat k1)))]) (hT 2 [oC q2]) (.k [1] [false] [.tmp 8 false] [1,6,8,9,10,25,26,27] ⟨A7 h5,trivial⟩) ?_
      refine .then ?_
      replace hm:=oI hm;obtain⟨x5,h11,hm⟩:=hm
      refine .reg (eC 3 ((oo (pu 36 [(Cv n1 q1),Sl.v 1 s3,(zI (Int.ofNat k1))]) none fun v=>some (v,(hT 2 [oC q2])))) (AB h11) (eE)) ?_
      refine .ghs (fr 43 [(1,Sl.v 1 s3),(6,(Cv n1 q1)),(8,sc 1 0 1 n2 c1),(10,zI x4),(25,Sl.v 1 s4),(26,zI z0),(27,(zI (Int.ofNat k1))),(36,(zB (Bd x5 (0:Int))))]) (hT 2 [oC q2]) (.k [1] [false] [.tmp 8 false] [1,6,8,10,25,26,27,36] ⟨A7 h5,trivial⟩) ?_
      replace hm:=Ag hm;rcases hm with⟨h12,hm⟩ | ⟨h12,hm⟩
      ·refine BI (Bd x5 (0:Int)) h12 ?_
       replace hm:=Ae hm;obtain⟨h13,hm⟩:=hm
       refine .reg (eC 3 (Oc 1 8 n2 c1 1 1 q2 [zI x4] [] (hT 3 [oC q2,(oC [zI x4])])) (I1 h13) (eE)) ?_
       replace hm:=Ae hm;obtain⟨h14,hm⟩:=hm
       exact⟨(s3,n1,q1,(n2+1),(d2 (n2+1)),s4,z0,(Int.ofNat k1),(Br (Am 0 q2) [zI x4])),hm,(.k [3] [false] [.tmp 8 false] [1,6,8,25,26,27] ⟨A7 h14,trivial⟩)⟩
      ·refine BO (Bd x5 (0:Int)) h12 ?_
       refine .skip ?_
       exact⟨(s3,n1,q1,n2,c1,s4,z0,(Int.ofNat k1),q2),hm,(.k [1] [false] [.tmp 8 false] [1,6,8,25,26,27] ⟨A7 h5,trivial⟩)⟩
    ·refine BO (AY z1 z0) h6 ?_
     refine .exit ?_
     exact⟨(n2,c1,q2),hm,(.k [1] [false] [.tmp 8 false] [8] ⟨A7 h5,trivial⟩)⟩
 ·replace hm:=Ae hm;obtain⟨h15,hm⟩:=hm
  obtain rfl:=KR h15
  replace hm:=Ai hm;obtain⟨x6,rfl,hm⟩:=hm
  refine .reg (eC 3 (Hr tabs 1 (pu 32) [(.agg ⟨[zI x0,zI x1,zI x2,Sl.v 1 s0]⟩),sc 2 0 1 1 3] (hT 3 [(oC [zI x0,zI x1,zI x2,Sl.v 1 s0]),(oC [Sl.v 1 s1])])) (KI (DZ (CV (z:=1) (v:=(.agg ⟨[zI x0,zI x1,zI x2,Sl.v 1 s0]⟩)) (H:=(hT 3 [(oC [zI x0,zI x1,zI x2,Sl.v 1 s0]),(oC [Sl.v 1 s1])])) (by kernel_rfl) (by kernel_rfl) (by kernel_rfl)) (DZ (show ER 1 (sc 2 0 1 1 3) (hT 3 [(oC [zI x0,zI x1,zI x2,Sl.v 1 s0]),(oC [Sl.v 1 s1])])=some ((Sl.v 1 (Sl.mk 1 0 (Aq (1*1) (Am 0 ([Sl.v 1 s1]:LV))))),(hT 3 [(oC [zI x0,zI x1,zI x2,Sl.v 1 s0]),.dead])) from KH 2 0 1 1 3 ([Sl.v 1 s1]:LV) [] (by kernel_rfl) (by kernel_rfl) (by kernel_rfl)) Jt)) (by kernel_rfl) h0) (eE)) ?_
  refine .ghs (fr 43 [(1,Sl.v 1 s1),(6,(.pointer none)),(7,zI x6)]) Ay (.k0 [false] [] [1,6,7]) ?_
  refine .then (.then (.rK (.ghs (fr 43 [(1,Sl.v 1 s1),(6,(.pointer none)),(7,zI x6),(19,(zB (nt (Bd x6 (0:Int)))))]) Ay (.k0 [false] [] [1,6,7,19]) ?_)))
  replace hm:=Ag hm;rcases hm with⟨h16,hm⟩ | ⟨h16,hm⟩
  ·refine BI (nt (Bd x6 (0:Int))) h16 ?_
   refine .then (.rK (.ghs (fr 43 [(4,(.slice none 0 0)),(5,zI x6)]) Ay (.k0 [false] [] [4,5]) ?_))
   refine .ghs (Fr.puts (fr 43 [(4,(.slice none 0 0)),(5,zI x6)]) [(4,(Sl.v 1 (Sl.mk 0 2 [])))]) Ay (.freeze 1 4 1 (by kernel_rfl) (by kernel_rfl) (E9.id _ _)) ?_
   refine .ret ?_
   exact AO (.tuple ⟨[(Sl.v 1 (Sl.mk 0 2 [])),zI x6]⟩) hm
  ·refine BO (nt (Bd x6 (0:Int))) h16 ?_
   refine .skip (.ghs (fr 43 [(1,Sl.v 1 s1),(6,(.pointer none))]) Ay (.k0 [false] [] [1,6]) ?_)
   refine .then (.rK (.ghs (fr 43 [(1,Sl.v 1 s1),(6,(.pointer none)),(8,(.slice none 0 0))]) Ay (.k0 [false] [] [1,6,8]) ?_))
   refine .then (.then ?_)
   cases hm

def fI (pu:Af) (n:Nat) (x0 x1 x2:Int) (s0 s1:Sl):OV:=
 (oo (pu 32 [(.agg ⟨[.int .i64 x0,.int .i64 x1,.int .i64 x2,Sl.v 1 s0]⟩),(Sl.v 1 (Sl.mk 1 0 (Aq (1*1) (Am 0 ([Sl.v 1 s1]:LV)))))]) none fun v0=>(oo (CQ v0) none fun l0=>(ll l0 none fun v1 l0=>(ll l0 none fun v2 l0=>(ll l0 (bb (isS (Pv v1)) (oo (Pv v1) none fun p0=>(oo (Bi .i64 v2) none fun x3=>(bb (nt (Bd x3 (0:Int))) (some (.tuple ⟨[(Sl.v 1 (Sl.mk 0 2 [])),.int .i64 x3]⟩)) (oo (pu 35 [(Cv (Db.off p0) (Db.cs p0)),Sl.v 1 s1]) none fun v3=>(oo (Bj 1 v3) none fun s2=>(bb (an (Nat.blt 0 (Sl.n s2)) true) (oo (AL (Sl.cs s2) (0*1)) none fun v4=>(oo (Bj 1 v4) none fun s3=>(some (.tuple ⟨[Sl.v 1 s3,(.int .i64 (0:Int))]⟩)))) none)))))) (bb (T9 v1) (oo (Bi .i64 v2) none fun x4=>(bb (nt (Bd x4 (0:Int))) (some (.tuple ⟨[(Sl.v 1 (Sl.mk 0 2 [])),.int .i64 x4]⟩)) (oo (pu 35 [(.pointer none),Sl.v 1 s1]) none fun v5=>(oo (Bj 1 v5) none fun s4=>(bb (an (Nat.blt 0 (Sl.n s4)) true) (oo (AL (Sl.cs s4) (0*1)) none fun v6=>(oo (Bj 1 v6) none fun s5=>(some (.tuple ⟨[Sl.v 1 s5,(.int .i64 (0:Int))]⟩)))) none))))) none)) fun _ _=>none)))))
def m17 (pu:Af) (n:Nat) (args:LV):OV:=
 (ll args none fun a0 args=>(ll args none fun a1 args=>(ll args (oo (Bt a0) none fun l0=>(ll l0 none fun v0 l0=>(ll l0 none fun v1 l0=>(ll l0 none fun v2 l0=>(ll l0 none fun v3 l0=>(ll l0 (oo (Bi .i64 v0) none fun x0=>(oo (Bi .i64 v1) none fun x1=>(oo (Bi .i64 v2) none fun x2=>(oo (Bj 1 v3) none fun s0=>(oo (Bj 1 a1) none fun s1=>(fI pu n x0 x1 x2 s0 s1)))))) fun _ _=>none)))))) fun _ _=>none)))
theorem r17 {call:A8} (pu:Af) (n:Nat) (hcall:call=Bb tabs isP pu (inl pu)) {args:LV} {v:Value} (hm:m17 pu n args=some v) (_:∀ x∈args,closed2 x=true):args.length≤23∧BN tt call 1 R6 (Fr.made 23 args) (Ao tabs) (Fin tt 1 [.tmp 4,.tmp 5] v):=by
 subst hcall
 unfold m17 at hm
 replace hm:=Ad hm;obtain⟨a0,args_0,rfl,hm⟩:=hm
 replace hm:=Ad hm;obtain⟨a1,args_1,rfl,hm⟩:=hm
 replace hm:=AC hm;obtain⟨rfl,hm⟩:=hm
 replace hm:=BG hm;obtain⟨l0,rfl,hm⟩:=hm
 replace hm:=Ad hm;obtain⟨v0,l15124_0,rfl,hm⟩:=hm
 replace hm:=Ad hm;obtain⟨v1,l15124_1,rfl,hm⟩:=hm
 replace hm:=Ad hm;obtain⟨v2,l15124_2,rfl,hm⟩:=hm
 replace hm:=Ad hm;obtain⟨v3,l15124_3,rfl,hm⟩:=hm
 replace hm:=AC hm;obtain⟨rfl,hm⟩:=hm
 replace hm:=Ai hm;obtain⟨x0,rfl,hm⟩:=hm
 replace hm:=Ai hm;obtain⟨x1,rfl,hm⟩:=hm
 replace hm:=Ai hm;obtain⟨x2,rfl,hm⟩:=hm
 replace hm:=Al hm;obtain⟨s0,rfl,hm⟩:=hm
 replace hm:=Al hm;obtain⟨s1,rfl,hm⟩:=hm
 unfold fI at hm
 refine⟨by simp,?_⟩
 refine .same (F':=(fr 23 [(0,(.agg ⟨[zI x0,zI x1,zI x2,Sl.v 1 s0]⟩)),(1,Sl.v 1 s1)])) (H':=Ay) (by kernel_rfl) (by kernel_rfl) ?_
 refine .then (.rK (.ghs (fr 23 [(1,Sl.v 1 s1),(2,pt 1 0)]) (hT 2 [(oC [zI x0,zI x1,zI x2,Sl.v 1 s0])]) (.k0 [false] [.tmp 2 false] [1,2]) ?_))
 refine .then ?_
 replace hm:=Ab hm;obtain⟨v4,h0,hm⟩:=hm
 replace hm:=Ch hm;obtain⟨l1,rfl,hm⟩:=hm
 replace hm:=Ad hm;obtain⟨v5,l15153_0,rfl,hm⟩:=hm
 replace hm:=Ad hm;obtain⟨v6,l15153_1,rfl,hm⟩:=hm
 replace hm:=AC hm;obtain⟨rfl,hm⟩:=hm
 replace hm:=Ag hm;rcases hm with⟨h1,hm⟩ | ⟨h1,hm⟩
 ·replace hm:=Ab hm;obtain⟨p0,h2,hm⟩:=hm
  obtain rfl:=F7 h2
  replace hm:=Ai hm;obtain⟨x3,rfl,hm⟩:=hm
  refine .reg (eC 3 (Hr tabs 1 (pu 32) [(.agg ⟨[zI x0,zI x1,zI x2,Sl.v 1 s0]⟩),sc 2 0 1 1 3] (hT 3 [(oC [zI x0,zI x1,zI x2,Sl.v 1 s0]),(oC [Sl.v 1 s1])])) (KI (DZ (CV (z:=1) (v:=(.agg ⟨[zI x0,zI x1,zI x2,Sl.v 1 s0]⟩)) (H:=(hT 3 [(oC [zI x0,zI x1,zI x2,Sl.v 1 s0]),(oC [Sl.v 1 s1])])) (by kernel_rfl) (by kernel_rfl) (by kernel_rfl)) (DZ (show ER 1 (sc 2 0 1 1 3) (hT 3 [(oC [zI x0,zI x1,zI x2,Sl.v 1 s0]),(oC [Sl.v 1 s1])])=some ((Sl.v 1 (Sl.mk 1 0 (Aq (1*1) (Am 0 ([Sl.v 1 s1]:LV))))),(hT 3 [(oC [zI x0,zI x1,zI x2,Sl.v 1 s0]),.dead])) from KH 2 0 1 1 3 ([Sl.v 1 s1]:LV) [] (by kernel_rfl) (by kernel_rfl) (by kernel_rfl)) Jt)) (by kernel_rfl) h0) (eE)) ?_
  refine .ghs (fr 23 [(1,Sl.v 1 s1),(6,(Cv (Db.off p0) (Db.cs p0))),(7,zI x3)]) Ay (.k0 [false] [] [1,6,7]) ?_
  refine .then (.then (.rK (.ghs (fr 23 [(1,Sl.v 1 s1),(6,(Cv (Db.off p0) (Db.cs p0))),(7,zI x3),(16,(zB (nt (Bd x3 (0:Int)))))]) Ay (.k0 [false] [] [1,6,7,16]) ?_)))
  replace hm:=Ag hm;rcases hm with⟨h3,hm⟩ | ⟨h3,hm⟩
  ·refine BI (nt (Bd x3 (0:Int))) h3 ?_
   refine .then (.rK (.ghs (fr 23 [(4,(.slice none 0 0)),(5,zI x3)]) Ay (.k0 [false] [] [4,5]) ?_))
   refine .ghs (Fr.puts (fr 23 [(4,(.slice none 0 0)),(5,zI x3)]) [(4,(Sl.v 1 (Sl.mk 0 2 [])))]) Ay (.freeze 1 4 1 (by kernel_rfl) (by kernel_rfl) (E9.id _ _)) ?_
   refine .ret ?_
   exact AO (.tuple ⟨[(Sl.v 1 (Sl.mk 0 2 [])),zI x3]⟩) hm
  ·refine BO (nt (Bd x3 (0:Int))) h3 ?_
   refine .skip (.ghs (fr 23 [(1,Sl.v 1 s1),(6,(Cv (Db.off p0) (Db.cs p0)))]) Ay (.k0 [false] [] [1,6]) ?_)
   refine .then ?_
   replace hm:=oS hm;obtain⟨s2,h4,hm⟩:=hm
   replace hm:=Ae hm;obtain⟨h5,hm⟩:=hm
   replace hm:=oS hm;obtain⟨s3,h6,hm⟩:=hm
   refine .reg (eC 2 ((oo (pu 35 [(Cv (Db.off p0) (Db.cs p0)),Sl.v 1 s1]) none fun v=>some (v,Ay))) (AB h4) (eD (keep Ay (bb (an (Nat.blt 0 (Sl.n s2)) true) (some (Cv (0*1) (Sl.cs s2))) none)) (AX h5) (eD (keep Ay (AL (Sl.cs s2) (0*1))) (AZ h6) (eE)))) ?_
   refine .ghs (fr 23 [(4,Sl.v 1 s3),(5,(zI (0:Int)))]) Ay (.k0 [false] [] [4,5]) ?_
   refine .ret ?_
   exact AO (.tuple ⟨[Sl.v 1 s3,(zI (0:Int))]⟩) hm
 ·replace hm:=Ae hm;obtain⟨h7,hm⟩:=hm
  obtain rfl:=KR h7
  replace hm:=Ai hm;obtain⟨x4,rfl,hm⟩:=hm
  refine .reg (eC 3 (Hr tabs 1 (pu 32) [(.agg ⟨[zI x0,zI x1,zI x2,Sl.v 1 s0]⟩),sc 2 0 1 1 3] (hT 3 [(oC [zI x0,zI x1,zI x2,Sl.v 1 s0]),(oC [Sl.v 1 s1])])) (KI (DZ (CV (z:=1) (v:=(.agg ⟨[zI x0,zI x1,zI x2,Sl.v 1 s0]⟩)) (H:=(hT 3 [(oC [zI x0,zI x1,zI x2,Sl.v 1 s0]),(oC [Sl.v 1 s1])])) (by kernel_rfl) (by kernel_rfl) (by kernel_rfl)) (DZ (show ER 1 (sc 2 0 1 1 3) (hT 3 [(oC [zI x0,zI x1,zI x2,Sl.v 1 s0]),(oC [Sl.v 1 s1])])=some ((Sl.v 1 (Sl.mk 1 0 (Aq (1*1) (Am 0 ([Sl.v 1 s1]:LV))))),(hT 3 [(oC [zI x0,zI x1,zI x2,Sl.v 1 s0]),.dead])) from KH 2 0 1 1 3 ([Sl.v 1 s1]:LV) [] (by kernel_rfl) (by kernel_rfl) (by kernel_rfl)) Jt)) (by kernel_rfl) h0) (eE)) ?_
  refine .ghs (fr 23 [(1,Sl.v 1 s1),(6,(.pointer none)),(7,zI x4)]) Ay (.k0 [false] [] [1,6,7]) ?_
  refine .then (.then (.rK (.ghs (fr 23 [(1,Sl.v 1 s1),(6,(.pointer none)),(7,zI x4),(16,(zB (nt (Bd x4 (0:Int)))))]) Ay (.k0 [false] [] [1,6,7,16]) ?_)))
  replace hm:=Ag hm;rcases hm with⟨h8,hm⟩ | ⟨h8,hm⟩
  ·refine BI (nt (Bd x4 (0:Int))) h8 ?_
   refine .then (.rK (.ghs (fr 23 [(4,(.slice none 0 0)),(5,zI x4)]) Ay (.k0 [false] [] [4,5]) ?_))
   refine .ghs (Fr.puts (fr 23 [(4,(.slice none 0 0)),(5,zI x4)]) [(4,(Sl.v 1 (Sl.mk 0 2 [])))]) Ay (.freeze 1 4 1 (by kernel_rfl) (by kernel_rfl) (E9.id _ _)) ?_
   refine .ret ?_
   exact AO (.tuple ⟨[(Sl.v 1 (Sl.mk 0 2 [])),zI x4]⟩) hm
  ·refine BO (nt (Bd x4 (0:Int))) h8 ?_
   refine .skip (.ghs (fr 23 [(1,Sl.v 1 s1),(6,(.pointer none))]) Ay (.k0 [false] [] [1,6]) ?_)
   refine .then ?_
   replace hm:=oS hm;obtain⟨s4,h9,hm⟩:=hm
   replace hm:=Ae hm;obtain⟨h10,hm⟩:=hm
   replace hm:=oS hm;obtain⟨s5,h11,hm⟩:=hm
   refine .reg (eC 2 ((oo (pu 35 [(.pointer none),Sl.v 1 s1]) none fun v=>some (v,Ay))) (AB h9) (eD (keep Ay (bb (an (Nat.blt 0 (Sl.n s4)) true) (some (Cv (0*1) (Sl.cs s4))) none)) (AX h10) (eD (keep Ay (AL (Sl.cs s4) (0*1))) (AZ h11) (eE)))) ?_
   refine .ghs (fr 23 [(4,Sl.v 1 s5),(5,(zI (0:Int)))]) Ay (.k0 [false] [] [4,5]) ?_
   refine .ret ?_
   exact AO (.tuple ⟨[Sl.v 1 s5,(zI (0:Int))]⟩) hm
end
end Go.BkOM
