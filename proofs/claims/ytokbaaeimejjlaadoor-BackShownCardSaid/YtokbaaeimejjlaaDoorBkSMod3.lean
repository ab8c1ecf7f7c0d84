/- Made from wip. -/
import Derived.Test.YtokbaaeimejjlaaDoorBkSMod1x

set_option maxRecDepth 100000
set_option maxHeartbeats 20000000
set_option linter.unusedVariables false
namespace Go.BkSM
open Go.Sp Go.BkS
noncomputable section
def UU (pu:Af) (n:Nat):OV:=
 (some (.bool true))
def Ou (pu:Af) (n:Nat) (ih0:Sl→Sl→Int→OV) (s0 s1:Sl) (z0:Int):OV:=
 (bb (AY z0 (Int.ofNat (Sl.n s0))) (oo (EA z0) none fun k1=>(bb (an (Nat.blt k1 (Sl.n s0)) true) (oo (AL (Sl.cs s0) (k1*1)) none fun v0=>(oo (Bi .i64 v0) none fun x0=>(bb (an (Nat.blt k1 (Sl.n s1)) true) (oo (AL (Sl.cs s1) (k1*1)) none fun v1=>(oo (Bi .i64 v1) none fun x1=>(bb (nt (Bd x0 x1)) (some (.bool false)) (ih0 s0 s1 (Aj .i64 (Int.add (Int.ofNat k1) (1:Int))))))) none))) none)) (UU pu n))
def Ov (pu:Af) (n w:Nat):Sl→Sl→Int→OV:=
 Nat.rec (motive:=fun _=>Sl→Sl→Int→OV) (fun _ _ _=>none) (fun _ ih0=>Ou pu n ih0) w
def Acg (pu:Af) (n:Nat) (s0 s1:Sl):OV:=
 (bb (nt (Bd (Int.ofNat (Sl.n s0)) (Int.ofNat (Sl.n s1)))) (some (.bool false)) (Ov pu n n s0 s1 (0:Int)))
def m12 (pu:Af) (n:Nat) (args:LV):OV:=
 (ll args none fun a0 args=>(ll args none fun a1 args=>(ll args (oo (Bj 1 a0) none fun s0=>(oo (Bj 1 a1) none fun s1=>(Acg pu n s0 s1))) fun _ _=>none)))
theorem Aci (pu:Af) (n:Nat) {v:Value} (hm:UU pu n=some v):BN tt (Bb tabs isP pu (inl pu)) 1 XK (fr 26 []) Ay (Fin tt 1 [.tmp 4] v):=by
 unfold UU at hm
 refine .then (.rK (.ghs (fr 26 [(4,zB true)]) Ay (.k0 [false] [] [4]) ?_))
 refine .ret ?_
 exact A7 (zB true) hm
theorem r12 {call:A8} (pu:Af) (n:Nat) (hcall:call=Bb tabs isP pu (inl pu)) {args:LV} {v:Value} (hm:m12 pu n args=some v) (_:∀ x∈args,closed2 x=true):args.length≤26∧BN tt call 1 PO (Fr.made 26 args) (Ao tabs) (Fin tt 1 [.tmp 4] v):=by
 subst hcall
 unfold m12 at hm
 replace hm:=Ad hm;obtain⟨a0,args_0,rfl,hm⟩:=hm
 replace hm:=Ad hm;obtain⟨a1,args_1,rfl,hm⟩:=hm
 replace hm:=AC hm;obtain⟨rfl,hm⟩:=hm
 replace hm:=Al hm;obtain⟨s0,rfl,hm⟩:=hm
 replace hm:=Al hm;obtain⟨s1,rfl,hm⟩:=hm
 unfold Acg at hm
 refine⟨by simp,?_⟩
 refine .same (F':=(fr 26 [(0,Sl.v 1 s0),(1,Sl.v 1 s1)])) (H':=Ay) (by kernel_rfl) (by kernel_rfl) ?_
 refine .then (.rK (.ghs (fr 26 [(0,Sl.v 1 s0),(1,Sl.v 1 s1)]) Ay (.k0 [false] [] [0,1]) ?_))
 refine .then (.then (.rK (.ghs (fr 26 [(0,Sl.v 1 s0),(1,Sl.v 1 s1),(10,(zB (nt (Bd (Int.ofNat (Sl.n s0)) (Int.ofNat (Sl.n s1))))))]) Ay (.k0 [false] [] [0,1,10]) ?_)))
 replace hm:=Ag hm;rcases hm with⟨h0,hm⟩ | ⟨h0,hm⟩
 ·refine BI (nt (Bd (Int.ofNat (Sl.n s0)) (Int.ofNat (Sl.n s1)))) h0 ?_
  refine .then (.rK (.ghs (fr 26 [(4,zB false)]) Ay (.k0 [false] [] [4]) ?_))
  refine .ret ?_
  exact A7 (zB false) hm
 ·refine BO (nt (Bd (Int.ofNat (Sl.n s0)) (Int.ofNat (Sl.n s1)))) h0 ?_
  refine .skip (.ghs (fr 26 [(0,Sl.v 1 s0),(1,Sl.v 1 s1)]) Ay (.k0 [false] [] [0,1]) ?_)
  refine .join (v:=v) (fun y:Unit=>((fr 26 []),Ay)) (fun y=>UU pu n) ?_ ?_
  ·rintro _ hm
   exact Aci pu n hm
  ·refine .then (.rK (.ghs (fr 26 [(0,Sl.v 1 s0),(1,Sl.v 1 s1),(5,(zI (0:Int)))]) Ay (.k0 [false] [] [0,1,5]) ?_))
   refine .block (.loopM (v:=v) (fun y:Sl×Sl×Int=>((fr 26 [(0,(Sl.v 1 y.1)),(1,(Sl.v 1 y.2.1)),(5,(zI y.2.2))]),Ay)) (fun w y=>Ov pu n w y.1 y.2.1 y.2.2) n ⟨(s0,s1,(0:Int)),hm,(.k0 [false] [] [0,1,5])⟩ (fun _=>rfl) ?_)
   rintro w0 ⟨s2,s3,z0⟩ hm
   replace hm:Ou pu n (Ov pu n w0) s2 s3 z0=some v:=hm
   unfold Ou at hm
   refine .then (.then (.rK (.ghs (fr 26 [(0,Sl.v 1 s2),(1,Sl.v 1 s3),(5,zI z0),(14,(zB (AY z0 (Int.ofNat (Sl.n s2)))))]) Ay (.k0 [false] [] [0,1,5,14]) ?_)))
   replace hm:=Ag hm;rcases hm with⟨h1,hm⟩ | ⟨h1,hm⟩
   ·refine BI (AY z0 (Int.ofNat (Sl.n s2))) h1 ?_
    refine .skip (.ghs (fr 26 [(0,Sl.v 1 s2),(1,Sl.v 1 s3),(5,zI z0)]) Ay (.k0 [false] [] [0,1,5]) ?_)
    refine .then (.block (.then ?_))
    replace hm:=Ab hm;obtain⟨k1,h2,hm⟩:=hm
    obtain rfl:=AR h2
    replace hm:=Ae hm;obtain⟨h3,hm⟩:=hm
    replace hm:=Gp hm;obtain⟨x0,h4,hm⟩:=hm
    replace hm:=Ae hm;obtain⟨h5,hm⟩:=hm
    replace hm:=Gp hm;obtain⟨x1,h6,hm⟩:=hm
    refine .reg (eC 2 (keep Ay (bb (an (Nat.blt k1 (Sl.n s2)) true) (some (Cv (k1*1) (Sl.cs s2))) none)) (AX h3) (eD (keep Ay (AL (Sl.cs s2) (k1*1))) (AZ h4) (eC 2 (keep Ay (bb (an (Nat.blt k1 (Sl.n s3)) true) (some (Cv (k1*1) (Sl.cs s3))) none)) (AX h5) (eD (keep Ay (AL (Sl.cs s3) (k1*1))) (AZ h6) (eE))))) ?_
    refine .ghs (fr 26 [(0,Sl.v 1 s2),(1,Sl.v 1 s3),(5,(zI (Int.ofNat k1))),(25,(zB (nt (Bd x0 x1))))]) Ay (.k0 [false] [] [0,1,5,25]) ?_
    replace hm:=Ag hm;rcases hm with⟨h7,hm⟩ | ⟨h7,hm⟩
    ·refine BI (nt (Bd x0 x1)) h7 ?_
     refine .then (.rK (.ghs (fr 26 [(4,zB false)]) Ay (.k0 [false] [] [4]) ?_))
     refine .ret ?_
     exact A7 (zB false) hm
    ·refine BO (nt (Bd x0 x1)) h7 ?_
     refine .skip (.ghs (fr 26 [(0,Sl.v 1 s2),(1,Sl.v 1 s3),(5,(zI (Int.ofNat k1)))]) Ay (.k0 [false] [] [0,1,5]) ?_)
     refine .rK ?_
     exact⟨(s2,s3,(Aj .i64 (Int.add (Int.ofNat k1) (1:Int)))),hm,(.k0 [false] [] [0,1,5])⟩
   ·refine BO (AY z0 (Int.ofNat (Sl.n s2))) h1 ?_
    refine .exit ?_
    exact⟨(),hm,(.k0 [false] [] [])⟩
def UV (pu:Af) (n:Nat):OV:=
 (some (.bool false))
def Ow (pu:Af) (n:Nat) (ih0:Sl→Sl→Int→Int→OV) (s0 s1:Sl) (z0 z1:Int):OV:=
 (bb (AY z1 z0) (oo (EA z1) none fun k1=>(bb (an (Nat.blt k1 (Sl.n s0)) true) (oo (AL (Sl.cs s0) (k1*1)) none fun v0=>(oo (Bi .i64 v0) none fun x0=>(bb (an (Nat.blt k1 (Sl.n s1)) true) (oo (AL (Sl.cs s1) (k1*1)) none fun v1=>(oo (Bi .i64 v1) none fun x1=>(bb (nt (Bd x0 x1)) (bb (an (Nat.blt k1 (Sl.n s0)) true) (oo (AL (Sl.cs s0) (k1*1)) none fun v2=>(oo (Bi .i64 v2) none fun x2=>(bb (an (Nat.blt k1 (Sl.n s1)) true) (oo (AL (Sl.cs s1) (k1*1)) none fun v3=>(oo (Bi .i64 v3) none fun x3=>(some (.bool (AY x2 x3))))) none))) none) (ih0 s0 s1 z0 (Aj .i64 (Int.add (Int.ofNat k1) (1:Int))))))) none))) none)) (UV pu n))
def Pb (pu:Af) (n w:Nat):Sl→Sl→Int→Int→OV:=
 Nat.rec (motive:=fun _=>Sl→Sl→Int→Int→OV) (fun _ _ _ _=>none) (fun _ ih0=>Ow pu n ih0) w
def Acj (pu:Af) (n:Nat) (s0 s1:Sl):OV:=
 (Pb pu n n s0 s1 (Int.ofNat (Sl.n s0)) (0:Int))
def m13 (pu:Af) (n:Nat) (args:LV):OV:=
 (ll args none fun a0 args=>(ll args none fun a1 args=>(ll args (oo (Bj 1 a0) none fun s0=>(oo (Bj 1 a1) none fun s1=>(Acj pu n s0 s1))) fun _ _=>none)))
theorem Acl (pu:Af) (n:Nat) {v:Value} (hm:UV pu n=some v):BN tt (Bb tabs isP pu (inl pu)) 1 XL (fr 30 []) Ay (Fin tt 1 [.tmp 4] v):=by
 unfold UV at hm
 refine .then (.rK (.ghs (fr 30 [(4,zB false)]) Ay (.k0 [false] [] [4]) ?_))
 refine .ret ?_
 exact A7 (zB false) hm
theorem r13 {call:A8} (pu:Af) (n:Nat) (hcall:call=Bb tabs isP pu (inl pu)) {args:LV} {v:Value} (hm:m13 pu n args=some v) (_:∀ x∈args,closed2 x=true):args.length≤30∧BN tt call 1 PP (Fr.made 30 args) (Ao tabs) (Fin tt 1 [.tmp 4] v):=by
 subst hcall
 unfold m13 at hm
 replace hm:=Ad hm;obtain⟨a0,args_0,rfl,hm⟩:=hm
 replace hm:=Ad hm;obtain⟨a1,args_1,rfl,hm⟩:=hm
 replace hm:=AC hm;obtain⟨rfl,hm⟩:=hm
 replace hm:=Al hm;obtain⟨s0,rfl,hm⟩:=hm
 replace hm:=Al hm;obtain⟨s1,rfl,hm⟩:=hm
 unfold Acj at hm
 refine⟨by simp,?_⟩
 refine .same (F':=(fr 30 [(0,Sl.v 1 s0),(1,Sl.v 1 s1)])) (H':=Ay) (by kernel_rfl) (by kernel_rfl) ?_
 refine .then (.rK (.ghs (fr 30 [(0,Sl.v 1 s0),(1,Sl.v 1 s1)]) Ay (.k0 [false] [] [0,1]) ?_))
 refine .join (v:=v) (fun y:Unit=>((fr 30 []),Ay)) (fun y=>UV pu n) ?_ ?_
 ·rintro _ hm
  exact Acl pu n hm
 ·refine .then (.rK (.ghs (fr 30 [(0,Sl.v 1 s0),(1,Sl.v 1 s1),(7,(zI (Int.ofNat (Sl.n s0)))),(8,(zI (0:Int)))]) Ay (.k0 [false] [] [0,1,7,8]) ?_))
  refine .block (.loopM (v:=v) (fun y:Sl×Sl×Int×Int=>((fr 30 [(0,(Sl.v 1 y.1)),(1,(Sl.v 1 y.2.1)),(7,(zI y.2.2.1)),(8,(zI y.2.2.2))]),Ay)) (fun w y=>Pb pu n w y.1 y.2.1 y.2.2.1 y.2.2.2) n ⟨(s0,s1,(Int.ofNat (Sl.n s0)),(0:Int)),hm,(.k0 [false] [] [0,1,7,8])⟩ (fun _=>rfl) ?_)
  rintro w0 ⟨s2,s3,z0,z1⟩ hm
  replace hm:Ow pu n (Pb pu n w0) s2 s3 z0 z1=some v:=hm
  unfold Ow at hm
  refine .then (.rK (.ghs (fr 30 [(0,Sl.v 1 s2),(1,Sl.v 1 s3),(7,zI z0),(8,zI z1),(9,(zB (AY z1 z0)))]) Ay (.k0 [false] [] [0,1,7,8,9]) ?_))
  refine .then ?_
  replace hm:=Ag hm;rcases hm with⟨h0,hm⟩ | ⟨h0,hm⟩
  ·refine BI (AY z1 z0) h0 ?_
   refine .skip (.ghs (fr 30 [(0,Sl.v 1 s2),(1,Sl.v 1 s3),(7,zI z0),(8,zI z1)]) Ay (.k0 [false] [] [0,1,7,8]) ?_)
   refine .then (.block (.then (.rK (.ghs (fr 30 [(0,Sl.v 1 s2),(1,Sl.v 1 s3),(5,zI z1),(7,zI z0),(8,zI z1)]) Ay (.k0 [false] [] [0,1,5,7,8]) ?_))))
   refine .then ?_
   replace hm:=Ab hm;obtain⟨k1,h1,hm⟩:=hm
   obtain rfl:=AR h1
   replace hm:=Ae hm;obtain⟨h2,hm⟩:=hm
   replace hm:=Gp hm;obtain⟨x0,h3,hm⟩:=hm
   replace hm:=Ae hm;obtain⟨h4,hm⟩:=hm
   replace hm:=Gp hm;obtain⟨x1,h5,hm⟩:=hm
   refine .reg (eC 2 (keep Ay (bb (an (Nat.blt k1 (Sl.n s2)) true) (some (Cv (k1*1) (Sl.cs s2))) none)) (AX h2) (eD (keep Ay (AL (Sl.cs s2) (k1*1))) (AZ h3) (eC 2 (keep Ay (bb (an (Nat.blt k1 (Sl.n s3)) true) (some (Cv (k1*1) (Sl.cs s3))) none)) (AX h4) (eD (keep Ay (AL (Sl.cs s3) (k1*1))) (AZ h5) (eE))))) ?_
   refine .ghs (fr 30 [(0,Sl.v 1 s2),(1,Sl.v 1 s3),(5,(zI (Int.ofNat k1))),(7,zI z0),(8,(zI (Int.ofNat k1))),(19,(zB (nt (Bd x0 x1))))]) Ay (.k0 [false] [] [0,1,5,7,8,19]) ?_
   replace hm:=Ag hm;rcases hm with⟨h6,hm⟩ | ⟨h6,hm⟩
   ·refine BI (nt (Bd x0 x1)) h6 ?_
    refine .then ?_
    replace hm:=Ae hm;obtain⟨h7,hm⟩:=hm
    replace hm:=Gp hm;obtain⟨x2,h8,hm⟩:=hm
    replace hm:=Ae hm;obtain⟨h9,hm⟩:=hm
    replace hm:=Gp hm;obtain⟨x3,h10,hm⟩:=hm
    refine .reg (eC 2 (keep Ay (bb (an (Nat.blt k1 (Sl.n s2)) true) (some (Cv (k1*1) (Sl.cs s2))) none)) (AX h7) (eD (keep Ay (AL (Sl.cs s2) (k1*1))) (AZ h8) (eC 2 (keep Ay (bb (an (Nat.blt k1 (Sl.n s3)) true) (some (Cv (k1*1) (Sl.cs s3))) none)) (AX h9) (eD (keep Ay (AL (Sl.cs s3) (k1*1))) (AZ h10) (eE))))) ?_
    refine .ghs (fr 30 [(4,(zB (AY x2 x3)))]) Ay (.k0 [false] [] [4]) ?_
    refine .ret ?_
    exact A7 (zB (AY x2 x3)) hm
   ·refine BO (nt (Bd x0 x1)) h6 ?_
    refine .skip (.ghs (fr 30 [(0,Sl.v 1 s2),(1,Sl.v 1 s3),(7,zI z0),(8,(zI (Int.ofNat k1)))]) Ay (.k0 [false] [] [0,1,7,8]) ?_)
    refine .rK ?_
    exact⟨(s2,s3,z0,(Aj .i64 (Int.add (Int.ofNat k1) (1:Int)))),hm,(.k0 [false] [] [0,1,7,8])⟩
  ·refine BO (AY z1 z0) h0 ?_
   refine .exit ?_
   exact⟨(),hm,(.k0 [false] [] [])⟩

def bQ (pu:Af) (n:Nat) (x0 x1 x2:Int) (s0 s1:Sl):OV:=
 (oo (pu 32 [(.agg ⟨[.int .i64 x0,.int .i64 x1,.int .i64 x2,Sl.v 1 s0]⟩),(Sl.v 1 (Sl.mk 1 0 (Aq (1*1) (Am 0 ([Sl.v 1 s1]:LV)))))]) none fun v0=>(oo (CQ v0) none fun l0=>(ll l0 none fun v1 l0=>(ll l0 none fun v2 l0=>(ll l0 (bb (isS (Pv v1)) (oo (Pv v1) none fun p0=>(oo (Bi .i64 v2) none fun x3=>(bb (nt (Bd x3 (0:Int))) (some (.tuple ⟨[(Sl.v 1 (Sl.mk 0 2 [])),.int .i64 x3]⟩)) (oo (pu 10400 [(Sl.v 1 (Sl.mk 0 2 [])),(.int .i64 (0:Int)),(.pointer (some ⟨1,0,none⟩)),(.pointer (some ⟨2,0,none⟩)),(.pointer (some ⟨3,0,none⟩)),(.pointer (some ⟨4,0,none⟩)),(.pointer (some ⟨5,0,none⟩)),(.agg ⟨[(Cv (Db.off p0) (Db.cs p0))]⟩),(.agg ⟨[Sl.v 1 s1]⟩),(.agg ⟨[(.int .i64 (64:Int))]⟩),(.agg ⟨[(Sl.v 1 (Sl.mk 0 2 []))]⟩),(.agg ⟨[(.func (.func 40) ⟨[]⟩ ⟨[(.pointer (some ⟨1,0,none⟩)),(.pointer (some ⟨2,0,none⟩)),(.pointer (some ⟨3,0,none⟩)),(.pointer (some ⟨4,0,none⟩)),(.pointer (some ⟨5,0,none⟩))]⟩)]⟩)]) none fun v3=>(oo (CQ v3) none fun l1=>(ll l1 none fun v4 l1=>(ll l1 none fun v5 l1=>(ll l1 none fun v6 l1=>(ll l1 none fun v7 l1=>(ll l1 none fun v8 l1=>(ll l1 none fun v9 l1=>(ll l1 (bb (MC v4) (oo (Bt v5) none fun l2=>(ll l2 none fun v10 l2=>(ll l2 (oo (Pv v10) none fun p1=>(oo (Bt v6) none fun l3=>(ll l3 none fun v11 l3=>(ll l3 (oo (Bj 1 v11) none fun s2=>(oo (Bt v7) none fun l4=>(ll l4 none fun v12 l4=>(ll l4 (oo (Bi .i64 v12) none fun x4=>(oo (Bt v8) none fun l5=>(ll l5 none fun v13 l5=>(ll l5 (oo (Bj 1 v13) none fun s3=>(oo (Bt v9) none fun l6=>(ll l6 none fun v14 l6=>(ll l6 (oo (Om 40 0 v14) none fun l7=>(ll l7 none fun v15 l7=>(ll l7 none fun v16 l7=>(ll l7 none fun v17 l7=>(ll l7 none fun v18 l7=>(ll l7 none fun v19 l7=>(ll l7 (bb (MK v15 1 0) (bb (MK v16 2 0) (bb (MK v17 3 0) (bb (MK v18 4 0) (bb (MK v19 5 0) (some (.tuple ⟨[Sl.v 1 s3,(.int .i64 (0:Int))]⟩)) none) none) none) none) none) fun _ _=>none))))))) fun _ _=>none)))) fun _ _=>none)))) fun _ _=>none)))) fun _ _=>none)))) fun _ _=>none))) none) fun _ _=>none)))))))))))) (bb (Xc v1) (oo (Bi .i64 v2) none fun x5=>(bb (nt (Bd x5 (0:Int))) (some (.tuple ⟨[(Sl.v 1 (Sl.mk 0 2 [])),.int .i64 x5]⟩)) none)) none)) fun _ _=>none)))))
def m20 (pu:Af) (n:Nat) (args:LV):OV:=
 (ll args none fun a0 args=>(ll args none fun a1 args=>(ll args (oo (Bt a0) none fun l0=>(ll l0 none fun v0 l0=>(ll l0 none fun v1 l0=>(ll l0 none fun v2 l0=>(ll l0 none fun v3 l0=>(ll l0 (oo (Bi .i64 v0) none fun x0=>(oo (Bi .i64 v1) none fun x1=>(oo (Bi .i64 v2) none fun x2=>(oo (Bj 1 v3) none fun s0=>(oo (Bj 1 a1) none fun s1=>(bQ pu n x0 x1 x2 s0 s1)))))) fun _ _=>none)))))) fun _ _=>none)))
theorem r20 {call:A8} (pu:Af) (n:Nat) (hcall:call=Bb tabs isP pu (inl pu)) {args:LV} {v:Value} (hm:m20 pu n args=some v) (_:∀ x∈args,closed2 x=true):args.length≤25∧BN tt call 1 PQ (Fr.made 25 args) (Ao tabs) (Fin tt 1 [.tmp 4,.tmp 5] v):=by
 subst hcall
 unfold m20 at hm
 replace hm:=Ad hm;obtain⟨a0,args_0,rfl,hm⟩:=hm
 replace hm:=Ad hm;obtain⟨a1,args_1,rfl,hm⟩:=hm
 replace hm:=AC hm;obtain⟨rfl,hm⟩:=hm
 replace hm:=BG hm;obtain⟨l0,rfl,hm⟩:=hm
 replace hm:=Ad hm;obtain⟨v0,l12581_0,rfl,hm⟩:=hm
 replace hm:=Ad hm;obtain⟨v1,l12581_1,rfl,hm⟩:=hm
 replace hm:=Ad hm;obtain⟨v2,l12581_2,rfl,hm⟩:=hm
 replace hm:=Ad hm;obtain⟨v3,l12581_3,rfl,hm⟩:=hm
 replace hm:=AC hm;obtain⟨rfl,hm⟩:=hm
 replace hm:=Ai hm;obtain⟨x0,rfl,hm⟩:=hm
 replace hm:=Ai hm;obtain⟨x1,rfl,hm⟩:=hm
 replace hm:=Ai hm;obtain⟨x2,rfl,hm⟩:=hm
 replace hm:=Al hm;obtain⟨s0,rfl,hm⟩:=hm
 replace hm:=Al hm;obtain⟨s1,rfl,hm⟩:=hm
 unfold bQ at hm
 refine⟨by simp,?_⟩
 refine .same (F':=(fr 25 [(0,(.agg ⟨[zI x0,zI x1,zI x2,Sl.v 1 s0]⟩)),(1,Sl.v 1 s1)])) (H':=Ay) (by kernel_rfl) (by kernel_rfl) ?_
 refine .then (.rK (.ghs (fr 25 [(2,pt 1 0),(3,(pt 2 0))]) (hT 3 [(oC [zI x0,zI x1,zI x2,Sl.v 1 s0]),(oC [Sl.v 1 s1])]) (.k0 [false] [.tmp 2 false,.tmp 3 false] [2,3]) ?_))
 refine .then ?_
 replace hm:=Ab hm;obtain⟨v4,h0,hm⟩:=hm
 replace hm:=Ch hm;obtain⟨l1,rfl,hm⟩:=hm
 replace hm:=Ad hm;obtain⟨v5,l12610_0,rfl,hm⟩:=hm
 replace hm:=Ad hm;obtain⟨v6,l12610_1,rfl,hm⟩:=hm
 replace hm:=AC hm;obtain⟨rfl,hm⟩:=hm
 replace hm:=Ag hm;rcases hm with⟨h1,hm⟩ | ⟨h1,hm⟩
 ·replace hm:=Ab hm;obtain⟨p0,h2,hm⟩:=hm
  obtain rfl:=F7 h2
  replace hm:=Ai hm;obtain⟨x3,rfl,hm⟩:=hm
  refine .reg (eC 3 (Hr tabs 1 (pu 32) [(.agg ⟨[zI x0,zI x1,zI x2,Sl.v 1 s0]⟩),sc 3 0 1 1 3] (hT 4 [(oC [zI x0,zI x1,zI x2,Sl.v 1 s0]),(oC [Sl.v 1 s1]),(oC [Sl.v 1 s1])])) (KI (DZ (CV (z:=1) (v:=(.agg ⟨[zI x0,zI x1,zI x2,Sl.v 1 s0]⟩)) (H:=(hT 4 [(oC [zI x0,zI x1,zI x2,Sl.v 1 s0]),(oC [Sl.v 1 s1]),(oC [Sl.v 1 s1])])) (by kernel_rfl) (by kernel_rfl) (by kernel_rfl)) (DZ (show ER 1 (sc 3 0 1 1 3) (hT 4 [(oC [zI x0,zI x1,zI x2,Sl.v 1 s0]),(oC [Sl.v 1 s1]),(oC [Sl.v 1 s1])])=some ((Sl.v 1 (Sl.mk 1 0 (Aq (1*1) (Am 0 ([Sl.v 1 s1]:LV))))),(hT 4 [(oC [zI x0,zI x1,zI x2,Sl.v 1 s0]),(oC [Sl.v 1 s1]),.dead])) from KH 3 0 1 1 3 ([Sl.v 1 s1]:LV) [] (by kernel_rfl) (by kernel_rfl) (by kernel_rfl)) Jt)) (by kernel_rfl) h0) (eE)) ?_
  refine .ghs (fr 25 [(3,pt 1 0),(6,(pt 2 0)),(7,zI x3)]) (hT 3 [(oC [Sl.v 1 s1]),(oC [(Cv (Db.off p0) (Db.cs p0))])]) (.k0 [false] [.tmp 3 false,.tmp 6 false] [3,6,7]) ?_
  refine .then (.then (.rK (.ghs (fr 25 [(3,pt 1 0),(6,(pt 2 0)),(7,zI x3),(19,(zB (nt (Bd x3 (0:Int)))))]) (hT 3 [(oC [Sl.v 1 s1]),(oC [(Cv (Db.off p0) (Db.cs p0))])]) (.k0 [false] [.tmp 3 false,.tmp 6 false] [3,6,7,19]) ?_)))
  replace hm:=Ag hm;rcases hm with⟨h3,hm⟩ | ⟨h3,hm⟩
  ·refine BI (nt (Bd x3 (0:Int))) h3 ?_
   refine .then (.rK (.ghs (fr 25 [(4,(.slice none 0 0)),(5,zI x3)]) Ay (.k0 [false] [] [4,5]) ?_))
   refine .ghs (Fr.puts (fr 25 [(4,(.slice none 0 0)),(5,zI x3)]) [(4,(Sl.v 1 (Sl.mk 0 2 [])))]) Ay (.freeze 1 4 1 (by kernel_rfl) (by kernel_rfl) (E9.id _ _)) ?_
   refine .ret ?_
   exact A7 (.tuple ⟨[(Sl.v 1 (Sl.mk 0 2 [])),zI x3]⟩) hm
  ·refine BO (nt (Bd x3 (0:Int))) h3 ?_
   refine .skip (.ghs (fr 25 [(3,pt 1 0),(6,(pt 2 0))]) (hT 3 [(oC [Sl.v 1 s1]),(oC [(Cv (Db.off p0) (Db.cs p0))])]) (.k0 [false] [.tmp 3 false,.tmp 6 false] [3,6]) ?_)
   refine .then (.rG (NY.seg 1 (Fr.puts (fr 25 [(3,pt 1 0),(6,(pt 2 0))]) [(8,(pt 3 0))]) (hT 4 [(oC [Sl.v 1 s1]),(oC [(Cv (Db.off p0) (Db.cs p0))]),(oC [(.slice none 0 0)])]) (by kernel_rfl) (NY.ghs (Fr.puts (fr 25 [(3,pt 1 0),(6,(pt 2 0))]) [(8,(pt 3 0))]) (hT 4 [(oC [Sl.v 1 s1]),(oC [(Cv (Db.off p0) (Db.cs p0))]),(oC [(Sl.v 1 (Sl.mk 0 2 []))])]) (.nilC 3 0 1 [(.slice none 0 0)] (imm:=false) (spent:=false) (anc:=[]) (by kernel_rfl) (by kernel_rfl) (by kernel_rfl) (E9.id _ _)) (NY.fin eE))) ?_)
   refine .ghs (fr 25 [(3,pt 1 0),(6,(pt 2 0)),(8,(pt 3 0))]) (hT 4 [(oC [Sl.v 1 s1]),(oC [(Cv (Db.off p0) (Db.cs p0))]),(oC [(Sl.v 1 (Sl.mk 0 2 []))])]) (.k0 [false] [.tmp 3 false,.tmp 6 false,.tmp 8 false] [3,6,8]) ?_
   refine .then (.rK (.ghs (fr 25 [(3,pt 1 0),(6,(pt 2 0)),(8,(pt 3 0)),(9,(pt 4 0))]) (hT 5 [(oC [Sl.v 1 s1]),(oC [(Cv (Db.off p0) (Db.cs p0))]),(oC [(Sl.v 1 (Sl.mk 0 2 []))]),(oC [(zI (64:Int))])]) (.k0 [false] [.tmp 3 false,.tmp 6 false,.tmp 8 false,.tmp 9 false] [3,6,8,9]) ?_))
   refine .then (.rK (.ghs (fr 25 [(3,pt 1 0),(6,(pt 2 0)),(8,(pt 3 0)),(9,(pt 4 0)),(10,(pt 5 0))]) (hT 6 [(oC [Sl.v 1 s1]),(oC [(Cv (Db.off p0) (Db.cs p0))]),(oC [(Sl.v 1 (Sl.mk 0 2 []))]),(oC [(zI (64:Int))]),(oC [.nilFunc])]) (.k0 [false] [.tmp 3 false,.tmp 6 false,.tmp 8 false,.tmp 9 false,.tmp 10 false] [3,6,8,9,10]) ?_))
   refine .then (.rK (.ghs (fr 25 [(8,pt 1 0),(10,(pt 2 0))]) (hT 6 [(oC [(Sl.v 1 (Sl.mk 0 2 []))]),(oC [(.func (.func 40) ⟨[]⟩ ⟨[(pt 3 0),(pt 4 0),(pt 5 0),pt 1 0,(pt 2 0)]⟩)]),(oC [(Cv (Db.off p0) (Db.cs p0))]),(oC [Sl.v 1 s1]),(oC [(zI (64:Int))])]) (.k0 [false] [.tmp 8 false,.tmp 10 true,.ccap 2 0 0 false,.ccap 2 0 1 false,.ccap 2 0 2 false] [8,10]) ?_))
   refine .then ?_
   replace hm:=Ab hm;obtain⟨v7,h4,hm⟩:=hm
   replace hm:=Ch hm;obtain⟨l2,rfl,hm⟩:=hm
   replace hm:=Ad hm;obtain⟨v8,l13689_0,rfl,hm⟩:=hm
   replace hm:=Ad hm;obtain⟨v9,l13689_1,rfl,hm⟩:=hm
   replace hm:=Ad hm;obtain⟨v10,l13689_2,rfl,hm⟩:=hm
   replace hm:=Ad hm;obtain⟨v11,l13689_3,rfl,hm⟩:=hm
   replace hm:=Ad hm;obtain⟨v12,l13689_4,rfl,hm⟩:=hm
   replace hm:=Ad hm;obtain⟨v13,l13689_5,rfl,hm⟩:=hm
   replace hm:=AC hm;obtain⟨rfl,hm⟩:=hm
   replace hm:=Ae hm;obtain⟨h5,hm⟩:=hm
   obtain rfl:=Oo h5
   replace hm:=BG hm;obtain⟨l3,rfl,hm⟩:=hm
   replace hm:=Ad hm;obtain⟨v14,l13698_0,rfl,hm⟩:=hm
   replace hm:=AC hm;obtain⟨rfl,hm⟩:=hm
   replace hm:=Ab hm;obtain⟨p1,h6,hm⟩:=hm
   obtain rfl:=F7 h6
   replace hm:=BG hm;obtain⟨l4,rfl,hm⟩:=hm
   replace hm:=Ad hm;obtain⟨v15,l13703_0,rfl,hm⟩:=hm
   replace hm:=AC hm;obtain⟨rfl,hm⟩:=hm
   replace hm:=Al hm;obtain⟨s2,rfl,hm⟩:=hm
   replace hm:=BG hm;obtain⟨l5,rfl,hm⟩:=hm
   replace hm:=Ad hm;obtain⟨v16,l13708_0,rfl,hm⟩:=hm
   replace hm:=AC hm;obtain⟨rfl,hm⟩:=hm
   replace hm:=Ai hm;obtain⟨x4,rfl,hm⟩:=hm
   replace hm:=BG hm;obtain⟨l6,rfl,hm⟩:=hm
   replace hm:=Ad hm;obtain⟨v17,l13713_0,rfl,hm⟩:=hm
   replace hm:=AC hm;obtain⟨rfl,hm⟩:=hm
   replace hm:=Al hm;obtain⟨s3,rfl,hm⟩:=hm
   replace hm:=BG hm;obtain⟨l7,rfl,hm⟩:=hm
   replace hm:=Ad hm;obtain⟨v18,l13718_0,rfl,hm⟩:=hm
   replace hm:=AC hm;obtain⟨rfl,hm⟩:=hm
   replace hm:=Ab hm;obtain⟨l8,h7,hm⟩:=hm
   obtain rfl:=Hu h7
   replace hm:=Ad hm;obtain⟨v19,l13721_0,rfl,hm⟩:=hm
   replace hm:=Ad hm;obtain⟨v20,l13721_1,rfl,hm⟩:=hm
   replace hm:=Ad hm;obtain⟨v21,l13721_2,rfl,hm⟩:=hm
   replace hm:=Ad hm;obtain⟨v22,l13721_3,rfl,hm⟩:=hm
   replace hm:=Ad hm;obtain⟨v23,l13721_4,rfl,hm⟩:=hm
   replace hm:=AC hm;obtain⟨rfl,hm⟩:=hm
   replace hm:=Ae hm;obtain⟨h8,hm⟩:=hm
   obtain rfl:=KR h8
   replace hm:=Ae hm;obtain⟨h9,hm⟩:=hm
   obtain rfl:=KR h9
   replace hm:=Ae hm;obtain⟨h10,hm⟩:=hm
   obtain rfl:=KR h10
   replace hm:=Ae hm;obtain⟨h11,hm⟩:=hm
   obtain rfl:=KR h11
   replace hm:=Ae hm;obtain⟨h12,hm⟩:=hm
   obtain rfl:=KR h12
   refine .reg (eC 1 (EK tabs [[some 1],[none],[none],[none],[none],[none],[none]] 7 [.tmp 2 false,.tmp 3 false,.tmp 4 false,.tmp 5 false,.tmp 6 true] [false,false,false,false,true] (pu 10400) [(.slice none 0 0),(zI (0:Int)),(pt 3 0),(pt 4 0),(pt 5 0),pt 1 0,(pt 2 0)] (hT 6 [(oC [(Sl.v 1 (Sl.mk 0 2 []))]),(oC [(.func (.func 40) ⟨[]⟩ ⟨[(pt 3 0),(pt 4 0),(pt 5 0),pt 1 0,(pt 2 0)]⟩)]),(oC [(Cv (Db.off p0) (Db.cs p0))]),(oC [Sl.v 1 s1]),(oC [(zI (64:Int))])])) (EL (as:=[(Sl.v 1 (Sl.mk 0 2 [])),(zI (0:Int)),(pt 3 0),(pt 4 0),(pt 5 0),pt 1 0,(pt 2 0)]) (H1:=(hT 6 [(oC [(Sl.v 1 (Sl.mk 0 2 []))]),(oC [(.func (.func 40) ⟨[]⟩ ⟨[(pt 3 0),(pt 4 0),(pt 5 0),pt 1 0,(pt 2 0)]⟩)]),(oC [(Cv (Db.off p0) (Db.cs p0))]),(oC [Sl.v 1 s1]),(oC [(zI (64:Int))])])) (BS (Dm (KQ (Ju (z:=1) (H:=(hT 6 [(oC [(Sl.v 1 (Sl.mk 0 2 []))]),(oC [(.func (.func 40) ⟨[]⟩ ⟨[(pt 3 0),(pt 4 0),(pt 5 0),pt 1 0,(pt 2 0)]⟩)]),(oC [(Cv (Db.off p0) (Db.cs p0))]),(oC [Sl.v 1 s1]),(oC [(zI (64:Int))])]))))) (BS (Dm Dk) (BS (Dm Dk) (BS (Dm Dk) (BS (Dm Dk) (BS (Dm Dk) (BS (Dm Dk) Gj))))))) (EI (H2:=(hT 6 [(oC [Sl.v 1 s3]),(oC [(.func (.func 40) ⟨[]⟩ ⟨[(pt 3 0),(pt 4 0),(pt 5 0),pt 1 0,(pt 2 0)]⟩)]),(oC [(Cv (Db.off p1) (Db.cs p1))]),(oC [Sl.v 1 s2]),(oC [zI x4])])) (v:=(.tuple ⟨[]⟩)) (v':=(.tuple ⟨[]⟩)) [some 0,some 3,some 4,some 5,some 1,some 2] [(false,some 3),(false,some 4),(false,some 5),(false,some 1),(true,some 2)] [(oC [(Cv (Db.off p0) (Db.cs p0))]),(oC [Sl.v 1 s1]),(oC [(zI (64:Int))]),(oC [(Sl.v 1 (Sl.mk 0 2 []))]),(oC [(.func (.func 40) ⟨[]⟩ ⟨[pt 1 0,(pt 2 0),(pt 3 0),(pt 4 0),(pt 5 0)]⟩)])] [(Sl.v 1 (Sl.mk 0 2 [])),(zI (0:Int)),pt 1 0,(pt 2 0),(pt 3 0),(pt 4 0),(pt 5 0)] [(.agg ⟨[(Cv (Db.off p1) (Db.cs p1))]⟩),(.agg ⟨[Sl.v 1 s2]⟩),(.agg ⟨[zI x4]⟩),(.agg ⟨[Sl.v 1 s3]⟩),(.agg ⟨[(.func (.func 40) ⟨[]⟩ ⟨[pt 1 0,(pt 2 0),(pt 3 0),(pt 4 0),(pt 5 0)]⟩)]⟩)] [(oC [(Cv (Db.off p1) (Db.cs p1))]),(oC [Sl.v 1 s2]),(oC [zI x4]),(oC [Sl.v 1 s3]),(oC [(.func (.func 40) ⟨[]⟩ ⟨[pt 1 0,(pt 2 0),(pt 3 0),(pt 4 0),(pt 5 0)]⟩)])] [some 0,some 4,some 5,some 1,some 2,some 3] [(false,(oC [(Cv (Db.off p1) (Db.cs p1))])),(false,(oC [Sl.v 1 s2])),(false,(oC [zI x4])),(false,(oC [Sl.v 1 s3])),(true,(oC [(.func (.func 40) ⟨[]⟩ ⟨[pt 1 0,(pt 2 0),(pt 3 0),(pt 4 0),(pt 5 0)]⟩)]))] [(oC [(Cv (Db.off p1) (Db.cs p1))]),(oC [Sl.v 1 s2]),(oC [zI x4]),(oC [Sl.v 1 s3]),(oC [(.func (.func 40) ⟨[]⟩ ⟨[(pt 3 0),(pt 4 0),(pt 5 0),pt 1 0,(pt 2 0)]⟩)])] (by kernel_rfl) (En (by kernel_rfl) (En (by kernel_rfl) (En (by kernel_rfl) (En (by kernel_rfl) (En (by kernel_rfl) BX))))) (Eq.trans (by kernel_rfl) h4) (En rfl (En rfl (En rfl (En rfl (En rfl BX))))) (En (by kernel_rfl) (En (by kernel_rfl) (En (by kernel_rfl) (En (by kernel_rfl) (En (by kernel_rfl) BX))))))) (eE)) ?_
   refine .ghs (fr 25 [(8,pt 1 0)]) (hT 2 [(oC [Sl.v 1 s3])]) (.k0 [false] [.tmp 8 false] [8]) ?_
   refine .then (.rK (.ghs (fr 25 [(4,Sl.v 1 s3),(5,(zI (0:Int)))]) Ay (.k0 [false] [] [4,5]) ?_))
   refine .ret ?_
   exact A7 (.tuple ⟨[Sl.v 1 s3,(zI (0:Int))]⟩) hm
 ·replace hm:=Ae hm;obtain⟨h13,hm⟩:=hm
  obtain rfl:=PL h13
  replace hm:=Ai hm;obtain⟨x5,rfl,hm⟩:=hm
  refine .reg (eC 3 (Hr tabs 1 (pu 32) [(.agg ⟨[zI x0,zI x1,zI x2,Sl.v 1 s0]⟩),sc 3 0 1 1 3] (hT 4 [(oC [zI x0,zI x1,zI x2,Sl.v 1 s0]),(oC [Sl.v 1 s1]),(oC [Sl.v 1 s1])])) (KI (DZ (CV (z:=1) (v:=(.agg ⟨[zI x0,zI x1,zI x2,Sl.v 1 s0]⟩)) (H:=(hT 4 [(oC [zI x0,zI x1,zI x2,Sl.v 1 s0]),(oC [Sl.v 1 s1]),(oC [Sl.v 1 s1])])) (by kernel_rfl) (by kernel_rfl) (by kernel_rfl)) (DZ (show ER 1 (sc 3 0 1 1 3) (hT 4 [(oC [zI x0,zI x1,zI x2,Sl.v 1 s0]),(oC [Sl.v 1 s1]),(oC [Sl.v 1 s1])])=some ((Sl.v 1 (Sl.mk 1 0 (Aq (1*1) (Am 0 ([Sl.v 1 s1]:LV))))),(hT 4 [(oC [zI x0,zI x1,zI x2,Sl.v 1 s0]),(oC [Sl.v 1 s1]),.dead])) from KH 3 0 1 1 3 ([Sl.v 1 s1]:LV) [] (by kernel_rfl) (by kernel_rfl) (by kernel_rfl)) Jt)) (by kernel_rfl) h0) (eE)) ?_
  refine .ghs (fr 25 [(3,pt 1 0),(6,(pt 2 0)),(7,zI x5)]) (hT 3 [(oC [Sl.v 1 s1]),(oC [(.pointer none)])]) (.k0 [false] [.tmp 3 false,.tmp 6 false] [3,6,7]) ?_
  refine .then (.then (.rK (.ghs (fr 25 [(3,pt 1 0),(6,(pt 2 0)),(7,zI x5),(19,(zB (nt (Bd x5 (0:Int)))))]) (hT 3 [(oC [Sl.v 1 s1]),(oC [(.pointer none)])]) (.k0 [false] [.tmp 3 false,.tmp 6 false] [3,6,7,19]) ?_)))
  replace hm:=Ag hm;rcases hm with⟨h14,hm⟩ | ⟨h14,hm⟩
  ·refine BI (nt (Bd x5 (0:Int))) h14 ?_
   refine .then (.rK (.ghs (fr 25 [(4,(.slice none 0 0)),(5,zI x5)]) Ay (.k0 [false] [] [4,5]) ?_))
   refine .ghs (Fr.puts (fr 25 [(4,(.slice none 0 0)),(5,zI x5)]) [(4,(Sl.v 1 (Sl.mk 0 2 [])))]) Ay (.freeze 1 4 1 (by kernel_rfl) (by kernel_rfl) (E9.id _ _)) ?_
   refine .ret ?_
   exact A7 (.tuple ⟨[(Sl.v 1 (Sl.mk 0 2 [])),zI x5]⟩) hm
  ·refine BO (nt (Bd x5 (0:Int))) h14 ?_
   refine .skip (.ghs (fr 25 [(3,pt 1 0),(6,(pt 2 0))]) (hT 3 [(oC [Sl.v 1 s1]),(oC [(.pointer none)])]) (.k0 [false] [.tmp 3 false,.tmp 6 false] [3,6]) ?_)
   refine .then (.rG (NY.seg 1 (Fr.puts (fr 25 [(3,pt 1 0),(6,(pt 2 0))]) [(8,(pt 3 0))]) (hT 4 [(oC [Sl.v 1 s1]),(oC [(.pointer none)]),(oC [(.slice none 0 0)])]) (by kernel_rfl) (NY.ghs (Fr.puts (fr 25 [(3,pt 1 0),(6,(pt 2 0))]) [(8,(pt 3 0))]) (hT 4 [(oC [Sl.v 1 s1]),(oC [(.pointer none)]),(oC [(Sl.v 1 (Sl.mk 0 2 []))])]) (.nilC 3 0 1 [(.slice none 0 0)] (imm:=false) (spent:=false) (anc:=[]) (by kernel_rfl) (by kernel_rfl) (by kernel_rfl) (E9.id _ _)) (NY.fin eE))) ?_)
   refine .ghs (fr 25 [(3,pt 1 0),(6,(pt 2 0)),(8,(pt 3 0))]) (hT 4 [(oC [Sl.v 1 s1]),(oC [(.pointer none)]),(oC [(Sl.v 1 (Sl.mk 0 2 []))])]) (.k0 [false] [.tmp 3 false,.tmp 6 false,.tmp 8 false] [3,6,8]) ?_
   refine .then (.rK (.ghs (fr 25 [(3,pt 1 0),(6,(pt 2 0)),(8,(pt 3 0)),(9,(pt 4 0))]) (hT 5 [(oC [Sl.v 1 s1]),(oC [(.pointer none)]),(oC [(Sl.v 1 (Sl.mk 0 2 []))]),(oC [(zI (64:Int))])]) (.k0 [false] [.tmp 3 false,.tmp 6 false,.tmp 8 false,.tmp 9 false] [3,6,8,9]) ?_))
   refine .then (.rK (.ghs (fr 25 [(3,pt 1 0),(6,(pt 2 0)),(8,(pt 3 0)),(9,(pt 4 0)),(10,(pt 5 0))]) (hT 6 [(oC [Sl.v 1 s1]),(oC [(.pointer none)]),(oC [(Sl.v 1 (Sl.mk 0 2 []))]),(oC [(zI (64:Int))]),(oC [.nilFunc])]) (.k0 [false] [.tmp 3 false,.tmp 6 false,.tmp 8 false,.tmp 9 false,.tmp 10 false] [3,6,8,9,10]) ?_))
   refine .then (.rK (.ghs (fr 25 [(8,pt 1 0),(10,(pt 2 0))]) (hT 6 [(oC [(Sl.v 1 (Sl.mk 0 2 []))]),(oC [(.func (.func 40) ⟨[]⟩ ⟨[(pt 3 0),(pt 4 0),(pt 5 0),pt 1 0,(pt 2 0)]⟩)]),(oC [(.pointer none)]),(oC [Sl.v 1 s1]),(oC [(zI (64:Int))])]) (.k0 [false] [.tmp 8 false,.tmp 10 true,.ccap 2 0 0 false,.ccap 2 0 1 false,.ccap 2 0 2 false] [8,10]) ?_))
   refine .then ?_
   cases hm
def UW (pu:Af) (n:Nat):OV:=
 (some (.int .i64 (0:Int)))
def Sc (pu:Af) (n:Nat) (ih0:Sl→Nat→LV→Int→Int→Int→OV) (s0:Sl) (n0:Nat) (q0:LV) (z0 z1 z2:Int) (b0:Bool):OV:=
 (bb b0 (some (.int .i64 (14:Int))) (ih0 s0 n0 q0 z0 z1 (Aj .i64 (Int.add z2 (1:Int)))))
def Ox (pu:Af) (n:Nat) (ih0:Sl→Nat→LV→Int→Int→Int→OV) (s0:Sl) (n0:Nat) (q0:LV) (z0 z1 z2:Int):OV:=
 (bb (AY z2 z1) (oo (pu 36 [(Cv n0 q0),Sl.v 1 s0,.int .i64 z2]) none fun v0=>(oo (Bi .u16 v0) none fun x0=>(bb (nt (Bd x0 (0:Int))) (Sc pu n ih0 s0 n0 q0 z0 z1 z2 (Bd (Np .u16 x0 z0) (0:Int))) (Sc pu n ih0 s0 n0 q0 z0 z1 z2 false)))) (UW pu n))
def Oy (pu:Af) (n w:Nat):Sl→Nat→LV→Int→Int→Int→OV:=
 Nat.rec (motive:=fun _=>Sl→Nat→LV→Int→Int→Int→OV) (fun _ _ _ _ _ _=>none) (fun _ ih0=>Ox pu n ih0) w
def Pe (pu:Af) (n:Nat) (s0:Sl) (n0:Nat) (q0:LV) (z0:Int):OV:=
 (oo (AL q0 ((n0+0)+3)) none fun v0=>(oo (Bj 1 v0) none fun s1=>(Oy pu n n s0 n0 q0 z0 (Int.ofNat (Sl.n s1)) (0:Int))))
def Oz (pu:Af) (n:Nat) (ih0:Sl→Nat→LV→Int→Int→Sl→Int→Int→OV) (s0:Sl) (n0:Nat) (q0:LV) (z0 z1:Int) (s1:Sl) (z2 z3:Int):OV:=
 (bb (AY z3 z2) (oo (EA z3) none fun k1=>(bb (an (Nat.blt k1 (Sl.n s1)) true) (oo (AL (Sl.cs s1) (k1*1)) none fun v0=>(oo (Bi .i64 v0) none fun x0=>(oo (pu 48 [(.int .i64 (0:Int)),.int .i64 x0,(.int .i64 (Aj .i64 (Int.sub (Int.ofNat (Sl.n s0)) (1:Int))))]) none fun v1=>(oo (Bf v1) none fun b0=>(bb (nt b0) (some (.int .i64 (2:Int))) (bb (nt (AY z0 x0)) (some (.int .i64 (7:Int))) (oo (EA x0) none fun k2=>(ih0 s0 n0 q0 (Int.ofNat k2) (jF .u16 z1 (QW .u16 (1:Int) k2)) s1 z2 (Aj .i64 (Int.add (Int.ofNat k1) (1:Int))))))))))) none)) (Pe pu n s0 n0 q0 z1))
def Pf (pu:Af) (n w:Nat):Sl→Nat→LV→Int→Int→Sl→Int→Int→OV:=
 Nat.rec (motive:=fun _=>Sl→Nat→LV→Int→Int→Sl→Int→Int→OV) (fun _ _ _ _ _ _ _ _=>none) (fun _ ih0=>Oz pu n ih0) w
def UX (pu:Af) (n:Nat) (s0:Sl) (z0:Int):OV:=
 none
def Yg (pu:Af) (n:Nat) (ih0:Sl→Int→Int→Sl→Int→Int→OV) (s0:Sl) (z0 z1:Int) (s1:Sl) (z2 z3:Int):OV:=
 (bb (AY z3 z2) (oo (EA z3) none fun k1=>(bb (an (Nat.blt k1 (Sl.n s1)) true) (oo (AL (Sl.cs s1) (k1*1)) none fun v0=>(oo (Bi .i64 v0) none fun x0=>(oo (pu 48 [(.int .i64 (0:Int)),.int .i64 x0,(.int .i64 (Aj .i64 (Int.sub (Int.ofNat (Sl.n s0)) (1:Int))))]) none fun v1=>(oo (Bf v1) none fun b0=>(bb (nt b0) (some (.int .i64 (2:Int))) (bb (nt (AY z0 x0)) (some (.int .i64 (7:Int))) (oo (EA x0) none fun k2=>(ih0 s0 (Int.ofNat k2) (jF .u16 z1 (QW .u16 (1:Int) k2)) s1 z2 (Aj .i64 (Int.add (Int.ofNat k1) (1:Int))))))))))) none)) (UX pu n s0 z1))
def Yh (pu:Af) (n w:Nat):Sl→Int→Int→Sl→Int→Int→OV:=
 Nat.rec (motive:=fun _=>Sl→Int→Int→Sl→Int→Int→OV) (fun _ _ _ _ _ _=>none) (fun _ ih0=>Yg pu n ih0) w
def bR (pu:Af) (n:Nat) (x0 x1 x2:Int) (s0 s1 s2:Sl):OV:=
 (oo (pu 32 [(.agg ⟨[.int .i64 x0,.int .i64 x1,.int .i64 x2,Sl.v 1 s0]⟩),(Sl.v 1 (Sl.mk 1 0 (Aq (1*1) (Am 0 ([Sl.v 1 s1]:LV)))))]) none fun v0=>(oo (CQ v0) none fun l0=>(ll l0 none fun v1 l0=>(ll l0 none fun v2 l0=>(ll l0 (bb (isS (Pv v1)) (oo (Pv v1) none fun p0=>(oo (Bi .i64 v2) none fun x3=>(bb (nt (Bd x3 (0:Int))) (some (.int .i64 x3)) (Pf pu n n s1 (Db.off p0) (Db.cs p0) (-1:Int) (0:Int) s2 (Int.ofNat (Sl.n s2)) (0:Int))))) (bb (Xc v1) (oo (Bi .i64 v2) none fun x4=>(bb (nt (Bd x4 (0:Int))) (some (.int .i64 x4)) (Yh pu n n s1 (-1:Int) (0:Int) s2 (Int.ofNat (Sl.n s2)) (0:Int)))) none)) fun _ _=>none)))))
def m21 (pu:Af) (n:Nat) (args:LV):OV:=
 (ll args none fun a0 args=>(ll args none fun a1 args=>(ll args none fun a2 args=>(ll args (oo (Bt a0) none fun l0=>(ll l0 none fun v0 l0=>(ll l0 none fun v1 l0=>(ll l0 none fun v2 l0=>(ll l0 none fun v3 l0=>(ll l0 (oo (Bi .i64 v0) none fun x0=>(oo (Bi .i64 v1) none fun x1=>(oo (Bi .i64 v2) none fun x2=>(oo (Bj 1 v3) none fun s0=>(oo (Bj 1 a1) none fun s1=>(oo (Bj 1 a2) none fun s2=>(bR pu n x0 x1 x2 s0 s1 s2))))))) fun _ _=>none)))))) fun _ _=>none))))
theorem Aco (pu:Af) (n:Nat) {v:Value} (hm:UW pu n=some v):BN tt (Bb tabs isP pu (inl pu)) 1 XM (fr 70 []) Ay (Fin tt 1 [.tmp 6] v):=by
 unfold UW at hm
 refine .then (.rK (.ghs (fr 70 [(6,(zI (0:Int)))]) Ay (.k0 [false] [] [6]) ?_))
 refine .ret ?_
 exact A7 (zI (0:Int)) hm
theorem Acp (pu:Af) (n:Nat) (s0:Sl) (n0:Nat) (q0:LV) (z0:Int) {v:Value} (hm:Pe pu n s0 n0 q0 z0=some v):BN tt (Bb tabs isP pu (inl pu)) 1 Ue (fr 70 [(1,Sl.v 1 s0),(7,(Cv n0 q0)),(10,.int .u16 z0)]) Ay (Fin tt 1 [.tmp 6] v):=by
 unfold Pe at hm
 refine .join (v:=v) (fun y:Unit=>((fr 70 []),Ay)) (fun y=>UW pu n) ?_ ?_
 ·rintro _ hm
  exact Aco pu n hm
 ·refine .then ?_
  replace hm:=X4 hm;obtain⟨s1,h0,hm⟩:=hm
  refine .reg (eC 4 (keep Ay (AL q0 ((n0+0)+3))) (AZ h0) (eE)) ?_
  refine .ghs (fr 70 [(1,Sl.v 1 s0),(7,(Cv n0 q0)),(10,.int .u16 z0),(53,(zI (Int.ofNat (Sl.n s1)))),(54,(zI (0:Int)))]) Ay (.k0 [false] [] [1,7,10,53,54]) ?_
  refine .block (.loopM (v:=v) (fun y:Sl×Nat×LV×Int×Int×Int=>((fr 70 [(1,(Sl.v 1 y.1)),(7,(Cv y.2.1 y.2.2.1)),(10,(.int .u16 y.2.2.2.1)),(53,(zI y.2.2.2.2.1)),(54,(zI y.2.2.2.2.2))]),Ay)) (fun w y=>Oy pu n w y.1 y.2.1 y.2.2.1 y.2.2.2.1 y.2.2.2.2.1 y.2.2.2.2.2) n ⟨(s0,n0,q0,z0,(Int.ofNat (Sl.n s1)),(0:Int)),hm,(.k0 [false] [] [1,7,10,53,54])⟩ (fun _=>rfl) ?_)
  rintro w0 ⟨s2,n1,q1,z1,z2,z3⟩ hm
  replace hm:Ox pu n (Oy pu n w0) s2 n1 q1 z1 z2 z3=some v:=hm
  unfold Ox at hm
  refine .then (.rK (.ghs (fr 70 [(1,Sl.v 1 s2),(7,(Cv n1 q1)),(10,.int .u16 z1),(53,zI z2),(54,zI z3),(55,(zB (AY z3 z2)))]) Ay (.k0 [false] [] [1,7,10,53,54,55]) ?_))
  refine .then ?_
  replace hm:=Ag hm;rcases hm with⟨h1,hm⟩ | ⟨h1,hm⟩
  ·refine BI (AY z3 z2) h1 ?_
   refine .skip (.ghs (fr 70 [(1,Sl.v 1 s2),(7,(Cv n1 q1)),(10,.int .u16 z1),(53,zI z2),(54,zI z3)]) Ay (.k0 [false] [] [1,7,10,53,54]) ?_)
   refine .then (.block (.then (.rK (.ghs (fr 70 [(1,Sl.v 1 s2),(7,(Cv n1 q1)),(10,.int .u16 z1),(13,zI z3),(53,zI z2),(54,zI z3)]) Ay (.k0 [false] [] [1,7,10,13,53,54]) ?_))))
   refine .then ?_
   replace hm:=Gp hm;obtain⟨x0,h2,hm⟩:=hm
   refine .reg (eC 3 ((oo (pu 36 [(Cv n1 q1),Sl.v 1 s2,zI z3]) none fun v=>some (v,Ay))) (AB h2) (eE)) ?_
   refine .ghs (fr 70 [(1,Sl.v 1 s2),(7,(Cv n1 q1)),(10,.int .u16 z1),(14,.int .u16 x0),(53,zI z2),(54,zI z3)]) Ay (.k0 [false] [] [1,7,10,14,53,54]) ?_
   refine .join (v:=v) (fun y:Sl×Nat×LV×Int×Int×Int×Bool=>((fr 70 [(1,(Sl.v 1 y.1)),(7,(Cv y.2.1 y.2.2.1)),(10,(.int .u16 y.2.2.2.1)),(53,(zI y.2.2.2.2.1)),(54,(zI y.2.2.2.2.2.1)),(68,(zB y.2.2.2.2.2.2))]),Ay)) (fun y=>Sc pu n (Oy pu n w0) y.1 y.2.1 y.2.2.1 y.2.2.2.1 y.2.2.2.2.1 y.2.2.2.2.2.1 y.2.2.2.2.2.2) ?_ ?_
   ·rintro⟨s3,n2,q2,z4,z5,z6,b0⟩ hm
    unfold Sc at hm
    replace hm:=Ag hm;rcases hm with⟨h3,hm⟩ | ⟨h3,hm⟩
    ·refine .ifT b0 (by kernel_rfl) h3 ?_
     refine .then (.rK (.ghs (fr 70 [(6,(zI (14:Int)))]) Ay (.k0 [false] [] [6]) ?_))
     refine .ret ?_
     exact A7 (zI (14:Int)) hm
    ·refine .ifF b0 (by kernel_rfl) h3 ?_
     refine .skip (.ghs (fr 70 [(1,Sl.v 1 s3),(7,(Cv n2 q2)),(10,.int .u16 z4),(53,zI z5),(54,zI z6)]) Ay (.k0 [false] [] [1,7,10,53,54]) ?_)
     refine .rK ?_
     exact⟨(s3,n2,q2,z4,z5,(Aj .i64 (Int.add z6 (1:Int)))),hm,(.k0 [false] [] [1,7,10,53,54])⟩
   ·replace hm:=Ag hm;rcases hm with⟨h4,hm⟩ | ⟨h4,hm⟩
    ·refine .reg (eC 1 (some ((zB (nt (Bd x0 (0:Int)))),Ay)) (show _=some ((zB true),_) from (by rw[show (nt (Bd x0 (0:Int)))=true from h4])) (eE)) ?_
     exact⟨(s2,n1,q1,z1,z2,z3,(Bd (Np .u16 x0 z1) (0:Int))),hm,(.k0 [false] [] [1,7,10,53,54,68])⟩
    ·refine .reg (eC 1 (some ((zB (nt (Bd x0 (0:Int)))),Ay)) (show _=some ((zB false),_) from (by rw[show (nt (Bd x0 (0:Int)))=false from h4])) (eE)) ?_
     exact⟨(s2,n1,q1,z1,z2,z3,false),hm,(.k0 [false] [] [1,7,10,53,54,68])⟩
  ·refine BO (AY z3 z2) h1 ?_
   refine .exit ?_
   exact⟨(),hm,(.k0 [false] [] [])⟩
theorem Acr (pu:Af) (n:Nat) (s0:Sl) (z0:Int) {v:Value} (hm:UX pu n s0 z0=some v):BN tt (Bb tabs isP pu (inl pu)) 1 Ue (fr 70 [(1,Sl.v 1 s0),(7,(.pointer none)),(10,.int .u16 z0)]) Ay (Fin tt 1 [.tmp 6] v):=by
 unfold UX at hm
 refine .then (.then ?_)
 cases hm
theorem r21 {call:A8} (pu:Af) (n:Nat) (hcall:call=Bb tabs isP pu (inl pu)) {args:LV} {v:Value} (hm:m21 pu n args=some v) (_:∀ x∈args,closed2 x=true):args.length≤70∧BN tt call 1 Qp (Fr.made 70 args) (Ao tabs) (Fin tt 1 [.tmp 6] v):=by
 subst hcall
 unfold m21 at hm
 replace hm:=Ad hm;obtain⟨a0,args_0,rfl,hm⟩:=hm
 replace hm:=Ad hm;obtain⟨a1,args_1,rfl,hm⟩:=hm
 replace hm:=Ad hm;obtain⟨a2,args_2,rfl,hm⟩:=hm
 replace hm:=AC hm;obtain⟨rfl,hm⟩:=hm
 replace hm:=BG hm;obtain⟨l0,rfl,hm⟩:=hm
 replace hm:=Ad hm;obtain⟨v0,l13744_0,rfl,hm⟩:=hm
 replace hm:=Ad hm;obtain⟨v1,l13744_1,rfl,hm⟩:=hm
 replace hm:=Ad hm;obtain⟨v2,l13744_2,rfl,hm⟩:=hm
 replace hm:=Ad hm;obtain⟨v3,l13744_3,rfl,hm⟩:=hm
 replace hm:=AC hm;obtain⟨rfl,hm⟩:=hm
 replace hm:=Ai hm;obtain⟨x0,rfl,hm⟩:=hm
 replace hm:=Ai hm;obtain⟨x1,rfl,hm⟩:=hm
 replace hm:=Ai hm;obtain⟨x2,rfl,hm⟩:=hm
 replace hm:=Al hm;obtain⟨s0,rfl,hm⟩:=hm
 replace hm:=Al hm;obtain⟨s1,rfl,hm⟩:=hm
 replace hm:=Al hm;obtain⟨s2,rfl,hm⟩:=hm
 unfold bR at hm
 refine⟨by simp,?_⟩
 refine .same (F':=(fr 70 [(0,(.agg ⟨[zI x0,zI x1,zI x2,Sl.v 1 s0]⟩)),(1,Sl.v 1 s1),(2,Sl.v 1 s2)])) (H':=Ay) (by kernel_rfl) (by kernel_rfl) ?_
 refine .then (.rK (.ghs (fr 70 [(1,Sl.v 1 s1),(2,Sl.v 1 s2),(3,pt 1 0)]) (hT 2 [(oC [zI x0,zI x1,zI x2,Sl.v 1 s0])]) (.k0 [false] [.tmp 3 false] [1,2,3]) ?_))
 refine .then ?_
 replace hm:=Ab hm;obtain⟨v4,h0,hm⟩:=hm
 replace hm:=Ch hm;obtain⟨l1,rfl,hm⟩:=hm
 replace hm:=Ad hm;obtain⟨v5,l13775_0,rfl,hm⟩:=hm
 replace hm:=Ad hm;obtain⟨v6,l13775_1,rfl,hm⟩:=hm
 replace hm:=AC hm;obtain⟨rfl,hm⟩:=hm
 replace hm:=Ag hm;rcases hm with⟨h1,hm⟩ | ⟨h1,hm⟩
 ·replace hm:=Ab hm;obtain⟨p0,h2,hm⟩:=hm
  obtain rfl:=F7 h2
  replace hm:=Ai hm;obtain⟨x3,rfl,hm⟩:=hm
  refine .reg (eC 3 (Hr tabs 1 (pu 32) [(.agg ⟨[zI x0,zI x1,zI x2,Sl.v 1 s0]⟩),sc 2 0 1 1 3] (hT 3 [(oC [zI x0,zI x1,zI x2,Sl.v 1 s0]),(oC [Sl.v 1 s1])])) (KI (DZ (CV (z:=1) (v:=(.agg ⟨[zI x0,zI x1,zI x2,Sl.v 1 s0]⟩)) (H:=(hT 3 [(oC [zI x0,zI x1,zI x2,Sl.v 1 s0]),(oC [Sl.v 1 s1])])) (by kernel_rfl) (by kernel_rfl) (by kernel_rfl)) (DZ (show ER 1 (sc 2 0 1 1 3) (hT 3 [(oC [zI x0,zI x1,zI x2,Sl.v 1 s0]),(oC [Sl.v 1 s1])])=some ((Sl.v 1 (Sl.mk 1 0 (Aq (1*1) (Am 0 ([Sl.v 1 s1]:LV))))),(hT 3 [(oC [zI x0,zI x1,zI x2,Sl.v 1 s0]),.dead])) from KH 2 0 1 1 3 ([Sl.v 1 s1]:LV) [] (by kernel_rfl) (by kernel_rfl) (by kernel_rfl)) Jt)) (by kernel_rfl) h0) (eE)) ?_
  refine .ghs (fr 70 [(1,Sl.v 1 s1),(2,Sl.v 1 s2),(7,(Cv (Db.off p0) (Db.cs p0))),(8,zI x3)]) Ay (.k0 [false] [] [1,2,7,8]) ?_
  refine .then (.then (.rK (.ghs (fr 70 [(1,Sl.v 1 s1),(2,Sl.v 1 s2),(7,(Cv (Db.off p0) (Db.cs p0))),(8,zI x3),(23,(zB (nt (Bd x3 (0:Int)))))]) Ay (.k0 [false] [] [1,2,7,8,23]) ?_)))
  replace hm:=Ag hm;rcases hm with⟨h3,hm⟩ | ⟨h3,hm⟩
  ·refine BI (nt (Bd x3 (0:Int))) h3 ?_
   refine .then (.rK (.ghs (fr 70 [(6,zI x3)]) Ay (.k0 [false] [] [6]) ?_))
   refine .ret ?_
   exact A7 (zI x3) hm
  ·refine BO (nt (Bd x3 (0:Int))) h3 ?_
   refine .skip (.ghs (fr 70 [(1,Sl.v 1 s1),(2,Sl.v 1 s2),(7,(Cv (Db.off p0) (Db.cs p0)))]) Ay (.k0 [false] [] [1,2,7]) ?_)
   refine .then (.rK (.ghs (fr 70 [(1,Sl.v 1 s1),(2,Sl.v 1 s2),(7,(Cv (Db.off p0) (Db.cs p0))),(9,(zI (-1:Int)))]) Ay (.k0 [false] [] [1,2,7,9]) ?_))
   refine .then (.rK (.ghs (fr 70 [(1,Sl.v 1 s1),(2,Sl.v 1 s2),(7,(Cv (Db.off p0) (Db.cs p0))),(9,(zI (-1:Int))),(10,(.int .u16 (0:Int)))]) Ay (.k0 [false] [] [1,2,7,9,10]) ?_))
   refine .join (v:=v) (fun y:Sl×Nat×LV×Int=>((fr 70 [(1,(Sl.v 1 y.1)),(7,(Cv y.2.1 y.2.2.1)),(10,(.int .u16 y.2.2.2))]),Ay)) (fun y=>Pe pu n y.1 y.2.1 y.2.2.1 y.2.2.2) ?_ ?_
   ·rintro⟨s3,n0,q0,z0⟩ hm
    exact Acp pu n s3 n0 q0 z0 hm
   ·refine .then (.rK (.ghs (fr 70 [(1,Sl.v 1 s1),(7,(Cv (Db.off p0) (Db.cs p0))),(9,(zI (-1:Int))),(10,(.int .u16 (0:Int))),(25,Sl.v 1 s2),(26,(zI (Int.ofNat (Sl.n s2)))),(27,(zI (0:Int)))]) Ay (.k0 [false] [] [1,7,9,10,25,26,27]) ?_))
    refine .block (.loopM (v:=v) (fun y:Sl×Nat×LV×Int×Int×Sl×Int×Int=>((fr 70 [(1,(Sl.v 1 y.1)),(7,(Cv y.2.1 y.2.2.1)),(9,(zI y.2.2.2.1)),(10,(.int .u16 y.2.2.2.2.1)),(25,(Sl.v 1 y.2.2.2.2.2.1)),(26,(zI y.2.2.2.2.2.2.1)),(27,(zI y.2.2.2.2.2.2.2))]),Ay)) (fun w y=>Pf pu n w y.1 y.2.1 y.2.2.1 y.2.2.2.1 y.2.2.2.2.1 y.2.2.2.2.2.1 y.2.2.2.2.2.2.1 y.2.2.2.2.2.2.2) n ⟨(s1,(Db.off p0),(Db.cs p0),(-1:Int),(0:Int),s2,(Int.ofNat (Sl.n s2)),(0:Int)),hm,(.k0 [false] [] [1,7,9,10,25,26,27])⟩ (fun _=>rfl) ?_)
    rintro w0 ⟨s4,n1,q1,z1,z2,s5,z3,z4⟩ hm
    replace hm:Oz pu n (Pf pu n w0) s4 n1 q1 z1 z2 s5 z3 z4=some v:=hm
    unfold Oz at hm
    refine .then (.rK (.ghs (fr 70 [(1,Sl.v 1 s4),(7,(Cv n1 q1)),(9,zI z1),(10,.int .u16 z2),(25,Sl.v 1 s5),(26,zI z3),(27,zI z4),(28,(zB (AY z4 z3)))]) Ay (.k0 [false] [] [1,7,9,10,25,26,27,28]) ?_))
    refine .then ?_
    replace hm:=Ag hm;rcases hm with⟨h4,hm⟩ | ⟨h4,hm⟩
    ·refine BI (AY z4 z3) h4 ?_
     refine .skip (.ghs (fr 70 [(1,Sl.v 1 s4),(7,(Cv n1 q1)),(9,zI z1),(10,.int .u16 z2),(25,Sl.v 1 s5),(26,zI z3),(27,zI z4)]) Ay (.k0 [false] [] [1,7,9,10,25,26,27]) ?_)
     refine .then (.block (.then ?_))
     replace hm:=Ab hm;obtain⟨k1,h5,hm⟩:=hm
     obtain rfl:=AR h5
     replace hm:=Ae hm;obtain⟨h6,hm⟩:=hm
     replace hm:=Gp hm;obtain⟨x4,h7,hm⟩:=hm
     refine .reg (eD (keep Ay (bb (an (Nat.blt k1 (Sl.n s5)) true) (some (Cv (k1*1) (Sl.cs s5))) none)) (AX h6) (eD (keep Ay (AL (Sl.cs s5) (k1*1))) (AZ h7) (eE))) ?_
     refine .ghs (fr 70 [(1,Sl.v 1 s4),(7,(Cv n1 q1)),(9,zI z1),(10,.int .u16 z2),(12,zI x4),(25,Sl.v 1 s5),(26,zI z3),(27,(zI (Int.ofNat k1)))]) Ay (.k0 [false] [] [1,7,9,10,12,25,26,27]) ?_
     refine .then (.block (.then ?_))
     replace hm:=X5 hm;obtain⟨b0,h8,hm⟩:=hm
     refine .reg (eC 4 ((oo (pu 48 [(zI (0:Int)),zI x4,(zI (Aj .i64 (Int.sub (Int.ofNat (Sl.n s4)) (1:Int))))]) none fun v=>some (v,Ay))) (AB h8) (eE)) ?_
     refine .ghs (fr 70 [(1,Sl.v 1 s4),(7,(Cv n1 q1)),(9,zI z1),(10,.int .u16 z2),(12,zI x4),(25,Sl.v 1 s5),(26,zI z3),(27,(zI (Int.ofNat k1))),(31,(zB (nt b0)))]) Ay (.k0 [false] [] [1,7,9,10,12,25,26,27,31]) ?_
     replace hm:=Ag hm;rcases hm with⟨h9,hm⟩ | ⟨h9,hm⟩
     ·refine BI (nt b0) h9 ?_
      refine .then (.rK (.ghs (fr 70 [(6,(zI (2:Int)))]) Ay (.k0 [false] [] [6]) ?_))
      refine .ret ?_
      exact A7 (zI (2:Int)) hm
     ·refine BO (nt b0) h9 ?_
      refine .then (.rK (.ghs (fr 70 [(1,Sl.v 1 s4),(7,(Cv n1 q1)),(10,.int .u16 z2),(12,zI x4),(25,Sl.v 1 s5),(26,zI z3),(27,(zI (Int.ofNat k1))),(38,(zB (nt (AY z1 x4))))]) Ay (.k0 [false] [] [1,7,10,12,25,26,27,38]) ?_))
      replace hm:=Ag hm;rcases hm with⟨h10,hm⟩ | ⟨h10,hm⟩
      ·refine BI (nt (AY z1 x4)) h10 ?_
       refine .then (.rK (.ghs (fr 70 [(6,(zI (7:Int)))]) Ay (.k0 [false] [] [6]) ?_))
       refine .ret ?_
       exact A7 (zI (7:Int)) hm
      ·refine BO (nt (AY z1 x4)) h10 ?_
       refine .skip (.ghs (fr 70 [(1,Sl.v 1 s4),(7,(Cv n1 q1)),(10,.int .u16 z2),(12,zI x4),(25,Sl.v 1 s5),(26,zI z3),(27,(zI (Int.ofNat k1)))]) Ay (.k0 [false] [] [1,7,10,12,25,26,27]) ?_)
       refine .then (.rK (.ghs (fr 70 [(1,Sl.v 1 s4),(7,(Cv n1 q1)),(9,zI x4),(10,.int .u16 z2),(12,zI x4),(25,Sl.v 1 s5),(26,zI z3),(27,(zI (Int.ofNat k1)))]) Ay (.k0 [false] [] [1,7,9,10,12,25,26,27]) ?_))
       replace hm:=Ab hm;obtain⟨k2,h11,hm⟩:=hm
       obtain rfl:=AR h11
       refine .rK (.ghs (fr 70 [(1,Sl.v 1 s4),(7,(Cv n1 q1)),(9,(zI (Int.ofNat k2))),(10,(.int .u16 (jF .u16 z2 (QW .u16 (1:Int) k2)))),(25,Sl.v 1 s5),(26,zI z3),(27,(zI (Int.ofNat k1)))]) Ay (.k0 [false] [] [1,7,9,10,25,26,27]) ?_)
       refine .rK ?_
       exact⟨(s4,n1,q1,(Int.ofNat k2),(jF .u16 z2 (QW .u16 (1:Int) k2)),s5,z3,(Aj .i64 (Int.add (Int.ofNat k1) (1:Int)))),hm,(.k0 [false] [] [1,7,9,10,25,26,27])⟩
    ·refine BO (AY z4 z3) h4 ?_
     refine .exit ?_
     exact⟨(s4,n1,q1,z2),hm,(.k0 [false] [] [1,7,10])⟩
 ·replace hm:=Ae hm;obtain⟨h12,hm⟩:=hm
  obtain rfl:=PL h12
  replace hm:=Ai hm;obtain⟨x5,rfl,hm⟩:=hm
  refine .reg (eC 3 (Hr tabs 1 (pu 32) [(.agg ⟨[zI x0,zI x1,zI x2,Sl.v 1 s0]⟩),sc 2 0 1 1 3] (hT 3 [(oC [zI x0,zI x1,zI x2,Sl.v 1 s0]),(oC [Sl.v 1 s1])])) (KI (DZ (CV (z:=1) (v:=(.agg ⟨[zI x0,zI x1,zI x2,Sl.v 1 s0]⟩)) (H:=(hT 3 [(oC [zI x0,zI x1,zI x2,Sl.v 1 s0]),(oC [Sl.v 1 s1])])) (by kernel_rfl) (by kernel_rfl) (by kernel_rfl)) (DZ (show ER 1 (sc 2 0 1 1 3) (hT 3 [(oC [zI x0,zI x1,zI x2,Sl.v 1 s0]),(oC [Sl.v 1 s1])])=some ((Sl.v 1 (Sl.mk 1 0 (Aq (1*1) (Am 0 ([Sl.v 1 s1]:LV))))),(hT 3 [(oC [zI x0,zI x1,zI x2,Sl.v 1 s0]),.dead])) from KH 2 0 1 1 3 ([Sl.v 1 s1]:LV) [] (by kernel_rfl) (by kernel_rfl) (by kernel_rfl)) Jt)) (by kernel_rfl) h0) (eE)) ?_
  refine .ghs (fr 70 [(1,Sl.v 1 s1),(2,Sl.v 1 s2),(7,(.pointer none)),(8,zI x5)]) Ay (.k0 [false] [] [1,2,7,8]) ?_
  refine .then (.then (.rK (.ghs (fr 70 [(1,Sl.v 1 s1),(2,Sl.v 1 s2),(7,(.pointer none)),(8,zI x5),(23,(zB (nt (Bd x5 (0:Int)))))]) Ay (.k0 [false] [] [1,2,7,8,23]) ?_)))
  replace hm:=Ag hm;rcases hm with⟨h13,hm⟩ | ⟨h13,hm⟩
  ·refine BI (nt (Bd x5 (0:Int))) h13 ?_
   refine .then (.rK (.ghs (fr 70 [(6,zI x5)]) Ay (.k0 [false] [] [6]) ?_))
   refine .ret ?_
   exact A7 (zI x5) hm
  ·refine BO (nt (Bd x5 (0:Int))) h13 ?_
   refine .skip (.ghs (fr 70 [(1,Sl.v 1 s1),(2,Sl.v 1 s2),(7,(.pointer none))]) Ay (.k0 [false] [] [1,2,7]) ?_)
   refine .then (.rK (.ghs (fr 70 [(1,Sl.v 1 s1),(2,Sl.v 1 s2),(7,(.pointer none)),(9,(zI (-1:Int)))]) Ay (.k0 [false] [] [1,2,7,9]) ?_))
   refine .then (.rK (.ghs (fr 70 [(1,Sl.v 1 s1),(2,Sl.v 1 s2),(7,(.pointer none)),(9,(zI (-1:Int))),(10,(.int .u16 (0:Int)))]) Ay (.k0 [false] [] [1,2,7,9,10]) ?_))
   refine .join (v:=v) (fun y:Sl×Int=>((fr 70 [(1,(Sl.v 1 y.1)),(7,(.pointer none)),(10,(.int .u16 y.2))]),Ay)) (fun y=>UX pu n y.1 y.2) ?_ ?_
   ·rintro⟨s6,z5⟩ hm
    exact Acr pu n s6 z5 hm
   ·refine .then (.rK (.ghs (fr 70 [(1,Sl.v 1 s1),(7,(.pointer none)),(9,(zI (-1:Int))),(10,(.int .u16 (0:Int))),(25,Sl.v 1 s2),(26,(zI (Int.ofNat (Sl.n s2)))),(27,(zI (0:Int)))]) Ay (.k0 [false] [] [1,7,9,10,25,26,27]) ?_))
    refine .block (.loopM (v:=v) (fun y:Sl×Int×Int×Sl×Int×Int=>((fr 70 [(1,(Sl.v 1 y.1)),(7,(.pointer none)),(9,(zI y.2.1)),(10,(.int .u16 y.2.2.1)),(25,(Sl.v 1 y.2.2.2.1)),(26,(zI y.2.2.2.2.1)),(27,(zI y.2.2.2.2.2))]),Ay)) (fun w y=>Yh pu n w y.1 y.2.1 y.2.2.1 y.2.2.2.1 y.2.2.2.2.1 y.2.2.2.2.2) n ⟨(s1,(-1:Int),(0:Int),s2,(Int.ofNat (Sl.n s2)),(0:Int)),hm,(.k0 [false] [] [1,7,9,10,25,26,27])⟩ (fun _=>rfl) ?_)
    rintro w0 ⟨s7,z6,z7,s8,z8,z9⟩ hm
    replace hm:Yg pu n (Yh pu n w0) s7 z6 z7 s8 z8 z9=some v:=hm
    unfold Yg at hm
    refine .then (.rK (.ghs (fr 70 [(1,Sl.v 1 s7),(7,(.pointer none)),(9,zI z6),(10,.int .u16 z7),(25,Sl.v 1 s8),(26,zI z8),(27,zI z9),(28,(zB (AY z9 z8)))]) Ay (.k0 [false] [] [1,7,9,10,25,26,27,28]) ?_))
    refine .then ?_
    replace hm:=Ag hm;rcases hm with⟨h14,hm⟩ | ⟨h14,hm⟩
    ·refine BI (AY z9 z8) h14 ?_
     refine .skip (.ghs (fr 70 [(1,Sl.v 1 s7),(7,(.pointer none)),(9,zI z6),(10,.int .u16 z7),(25,Sl.v 1 s8),(26,zI z8),(27,zI z9)]) Ay (.k0 [false] [] [1,7,9,10,25,26,27]) ?_)
     refine .then (.block (.then ?_))
     replace hm:=Ab hm;obtain⟨k3,h15,hm⟩:=hm
     obtain rfl:=AR h15
     replace hm:=Ae hm;obtain⟨h16,hm⟩:=hm
     replace hm:=Gp hm;obtain⟨x6,h17,hm⟩:=hm
     refine .reg (eD (keep Ay (bb (an (Nat.blt k3 (Sl.n s8)) true) (some (Cv (k3*1) (Sl.cs s8))) none)) (AX h16) (eD (keep Ay (AL (Sl.cs s8) (k3*1))) (AZ h17) (eE))) ?_
     refine .ghs (fr 70 [(1,Sl.v 1 s7),(7,(.pointer none)),(9,zI z6),(10,.int .u16 z7),(12,zI x6),(25,Sl.v 1 s8),(26,zI z8),(27,(zI (Int.ofNat k3)))]) Ay (.k0 [false] [] [1,7,9,10,12,25,26,27]) ?_
     refine .then (.block (.then ?_))
     replace hm:=X5 hm;obtain⟨b1,h18,hm⟩:=hm
     refine .reg (eC 4 ((oo (pu 48 [(zI (0:Int)),zI x6,(zI (Aj .i64 (Int.sub (Int.ofNat (Sl.n s7)) (1:Int))))]) none fun v=>some (v,Ay))) (AB h18) (eE)) ?_
     refine .ghs (fr 70 [(1,Sl.v 1 s7),(7,(.pointer none)),(9,zI z6),(10,.int .u16 z7),(12,zI x6),(25,Sl.v 1 s8),(26,zI z8),(27,(zI (Int.ofNat k3))),(31,(zB (nt b1)))]) Ay (.k0 [false] [] [1,7,9,10,12,25,26,27,31]) ?_
     replace hm:=Ag hm;rcases hm with⟨h19,hm⟩ | ⟨h19,hm⟩
     ·refine BI (nt b1) h19 ?_
      refine .then (.rK (.ghs (fr 70 [(6,(zI (2:Int)))]) Ay (.k0 [false] [] [6]) ?_))
      refine .ret ?_
      exact A7 (zI (2:Int)) hm
     ·refine BO (nt b1) h19 ?_
      refine .then (.rK (.ghs (fr 70 [(1,Sl.v 1 s7),(7,(.pointer none)),(10,.int .u16 z7),(12,zI x6),(25,Sl.v 1 s8),(26,zI z8),(27,(zI (Int.ofNat k3))),(38,(zB (nt (AY z6 x6))))]) Ay (.k0 [false] [] [1,7,10,12,25,26,27,38]) ?_))
      replace hm:=Ag hm;rcases hm with⟨h20,hm⟩ | ⟨h20,hm⟩
      ·refine BI (nt (AY z6 x6)) h20 ?_
       refine .then (.rK (.ghs (fr 70 [(6,(zI (7:Int)))]) Ay (.k0 [false] [] [6]) ?_))
       refine .ret ?_
       exact A7 (zI (7:Int)) hm
      ·refine BO (nt (AY z6 x6)) h20 ?_
       refine .skip (.ghs (fr 70 [(1,Sl.v 1 s7),(7,(.pointer none)),(10,.int .u16 z7),(12,zI x6),(25,Sl.v 1 s8),(26,zI z8),(27,(zI (Int.ofNat k3)))]) Ay (.k0 [false] [] [1,7,10,12,25,26,27]) ?_)
       refine .then (.rK (.ghs (fr 70 [(1,Sl.v 1 s7),(7,(.pointer none)),(9,zI x6),(10,.int .u16 z7),(12,zI x6),(25,Sl.v 1 s8),(26,zI z8),(27,(zI (Int.ofNat k3)))]) Ay (.k0 [false] [] [1,7,9,10,12,25,26,27]) ?_))
       replace hm:=Ab hm;obtain⟨k4,h21,hm⟩:=hm
       obtain rfl:=AR h21
       refine .rK (.ghs (fr 70 [(1,Sl.v 1 s7),(7,(.pointer none)),(9,(zI (Int.ofNat k4))),(10,(.int .u16 (jF .u16 z7 (QW .u16 (1:Int) k4)))),(25,Sl.v 1 s8),(26,zI z8),(27,(zI (Int.ofNat k3)))]) Ay (.k0 [false] [] [1,7,9,10,25,26,27]) ?_)
       refine .rK ?_
       exact⟨(s7,(Int.ofNat k4),(jF .u16 z7 (QW .u16 (1:Int) k4)),s8,z8,(Aj .i64 (Int.add (Int.ofNat k3) (1:Int)))),hm,(.k0 [false] [] [1,7,9,10,25,26,27])⟩
    ·refine BO (AY z9 z8) h14 ?_
     refine .exit ?_
     exact⟨(s7,z7),hm,(.k0 [false] [] [1,7,10])⟩
end
end Go.BkSM
