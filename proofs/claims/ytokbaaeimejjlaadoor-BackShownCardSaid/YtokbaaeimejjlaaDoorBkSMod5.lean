/- Made from wip. -/
import Derived.Test.YtokbaaeimejjlaaDoorBkSMod1x

set_option maxRecDepth 100000
set_option maxHeartbeats 20000000
set_option linter.unusedVariables false
namespace Go.BkSM
open Go.Sp Go.BkS
noncomputable section

def AcL (pu:Af) (n:Nat) (x0:Int):OV:=
 (bb (Bd x0 (4:Int)) (some (.agg ⟨[(.int .i64 (0:Int)),(.bool true)]⟩)) (bb (Bd x0 (5:Int)) (some (.agg ⟨[(.int .i64 (2:Int)),(.bool true)]⟩)) (bb (Bd x0 (6:Int)) (some (.agg ⟨[(.int .i64 (1:Int)),(.bool true)]⟩)) (bb (Bd x0 (7:Int)) (some (.agg ⟨[(.int .i64 (3:Int)),(.bool true)]⟩)) (some (.agg ⟨[.int .i64 x0,(.bool false)]⟩))))))
def m51 (pu:Af) (n:Nat) (args:LV):OV:=
 (ll args none fun a0 args=>(ll args (oo (Bi .i64 a0) none fun x0=>(AcL pu n x0)) fun _ _=>none))
theorem r51 {call:A8} (pu:Af) (n:Nat) (hcall:call=Bb tabs isP pu (inl pu)) {args:LV} {v:Value} (hm:m51 pu n args=some v) (_:∀ x∈args,closed2 x=true):args.length≤18∧BN tt call 1 Qu (Fr.made 18 args) (Ao tabs) (Fin tt 1 [.cell 2 86] v):=by
 subst hcall
 unfold m51 at hm
 replace hm:=Ad hm;obtain⟨a0,args_0,rfl,hm⟩:=hm
 replace hm:=AC hm;obtain⟨rfl,hm⟩:=hm
 replace hm:=Ai hm;obtain⟨x0,rfl,hm⟩:=hm
 unfold AcL at hm
 refine⟨by simp,?_⟩
 refine .same (F':=(fr 18 [(0,zI x0)])) (H':=Ay) (by kernel_rfl) (by kernel_rfl) ?_
 refine .then (.rK (.ghs (fr 18 [(0,zI x0),(2,pt 1 0)]) (hT 2 [(oC [(zI (0:Int)),zB false])]) (.k0 [false] [.tmp 2 false] [0,2]) ?_))
 refine .then (.then (.rK (.ghs (fr 18 [(0,zI x0),(2,pt 1 0),(3,zI x0)]) (hT 2 [(oC [(zI (0:Int)),zB false])]) (.k0 [false] [.tmp 2 false] [0,2,3]) ?_)))
 refine .block (.then (.rK (.ghs (fr 18 [(0,zI x0),(2,pt 1 0),(3,zI x0),(4,(zB (Bd x0 (4:Int))))]) (hT 2 [(oC [(zI (0:Int)),zB false])]) (.k0 [false] [.tmp 2 false] [0,2,3,4]) ?_)))
 replace hm:=Ag hm;rcases hm with⟨h0,hm⟩ | ⟨h0,hm⟩
 ·refine BI (Bd x0 (4:Int)) h0 ?_
  refine .then (.rK (.ghs (fr 18 [(2,pt 1 0)]) (hT 2 [(oC [(zI (0:Int)),zB true])]) (.k0 [false] [.tmp 2 false] [2]) ?_))
  refine .ret ?_
  exact A7 (.agg ⟨[(zI (0:Int)),zB true]⟩) hm
 ·refine BO (Bd x0 (4:Int)) h0 ?_
  refine .then (.rK (.ghs (fr 18 [(0,zI x0),(2,pt 1 0),(3,zI x0),(7,(zB (Bd x0 (5:Int))))]) (hT 2 [(oC [(zI (0:Int)),zB false])]) (.k0 [false] [.tmp 2 false] [0,2,3,7]) ?_))
  replace hm:=Ag hm;rcases hm with⟨h1,hm⟩ | ⟨h1,hm⟩
  ·refine BI (Bd x0 (5:Int)) h1 ?_
   refine .then (.rK (.ghs (fr 18 [(2,pt 1 0)]) (hT 2 [(oC [(zI (2:Int)),zB true])]) (.k0 [false] [.tmp 2 false] [2]) ?_))
   refine .ret ?_
   exact A7 (.agg ⟨[(zI (2:Int)),zB true]⟩) hm
  ·refine BO (Bd x0 (5:Int)) h1 ?_
   refine .then (.rK (.ghs (fr 18 [(0,zI x0),(2,pt 1 0),(3,zI x0),(10,(zB (Bd x0 (6:Int))))]) (hT 2 [(oC [(zI (0:Int)),zB false])]) (.k0 [false] [.tmp 2 false] [0,2,3,10]) ?_))
   replace hm:=Ag hm;rcases hm with⟨h2,hm⟩ | ⟨h2,hm⟩
   ·refine BI (Bd x0 (6:Int)) h2 ?_
    refine .then (.rK (.ghs (fr 18 [(2,pt 1 0)]) (hT 2 [(oC [(zI (1:Int)),zB true])]) (.k0 [false] [.tmp 2 false] [2]) ?_))
    refine .ret ?_
    exact A7 (.agg ⟨[(zI (1:Int)),zB true]⟩) hm
   ·refine BO (Bd x0 (6:Int)) h2 ?_
    refine .then (.rK (.ghs (fr 18 [(0,zI x0),(2,pt 1 0),(13,(zB (Bd x0 (7:Int))))]) (hT 2 [(oC [(zI (0:Int)),zB false])]) (.k0 [false] [.tmp 2 false] [0,2,13]) ?_))
    replace hm:=Ag hm;rcases hm with⟨h3,hm⟩ | ⟨h3,hm⟩
    ·refine BI (Bd x0 (7:Int)) h3 ?_
     refine .then (.rK (.ghs (fr 18 [(2,pt 1 0)]) (hT 2 [(oC [(zI (3:Int)),zB true])]) (.k0 [false] [.tmp 2 false] [2]) ?_))
     refine .ret ?_
     exact A7 (.agg ⟨[(zI (3:Int)),zB true]⟩) hm
    ·refine BO (Bd x0 (7:Int)) h3 ?_
     refine .skip (.ghs (fr 18 [(0,zI x0),(2,pt 1 0)]) (hT 2 [(oC [(zI (0:Int)),zB false])]) (.k0 [false] [.tmp 2 false] [0,2]) ?_)
     refine .then (.rK (.ghs (fr 18 [(2,pt 1 0)]) (hT 2 [(oC [zI x0,zB false])]) (.k0 [false] [.tmp 2 false] [2]) ?_))
     refine .ret ?_
     exact A7 (.agg ⟨[zI x0,zB false]⟩) hm
def Sm (pu:Af) (n:Nat) (z0:Int) (b0:Bool) (z1:Int) (b1:Bool) (z2:Int) (b2:Bool):OV:=
 (some (.agg ⟨[(.int .i64 (Aj .i64 (Int.add z0 z1))),(.bool (bq false (bq b0 b1)))]⟩))
def AcM (pu:Af) (n:Nat) (x0:Int) (b0:Bool) (x1:Int) (b1:Bool):OV:=
 (bb b0 (Sm pu n x0 b0 (Aj .i64 (Int.sub (.ofNat 0) x1)) b1 (0:Int) false) (Sm pu n x0 b0 x1 b1 (0:Int) false))
def m52 (pu:Af) (n:Nat) (args:LV):OV:=
 (ll args none fun a0 args=>(ll args none fun a1 args=>(ll args (oo (Bt a0) none fun l0=>(ll l0 none fun v0 l0=>(ll l0 none fun v1 l0=>(ll l0 (oo (Bi .i64 v0) none fun x0=>(oo (Bf v1) none fun b0=>(oo (Bt a1) none fun l1=>(ll l1 none fun v2 l1=>(ll l1 none fun v3 l1=>(ll l1 (oo (Bi .i64 v2) none fun x1=>(oo (Bf v3) none fun b1=>(AcM pu n x0 b0 x1 b1))) fun _ _=>none)))))) fun _ _=>none)))) fun _ _=>none)))
theorem AcN (pu:Af) (n:Nat) (z0:Int) (b0:Bool) (z1:Int) (b1:Bool) (z2:Int) (b2:Bool) {v:Value} (hm:Sm pu n z0 b0 z1 b1 z2 b2=some v):BN tt (Bb tabs isP pu (inl pu)) 1 eU (fr 22 [(2,pt 1 0),(3,(pt 2 0)),(4,(pt 3 0))]) (hT 4 [(oC [zI z0,zB b0]),(oC [zI z1,zB b1]),(oC [zI z2,zB b2])]) (Fin tt 1 [.cell 4 86] v):=by
 unfold Sm at hm
 refine .then (.rK (.ghs (fr 22 [(4,pt 1 0)]) (hT 2 [(oC [(zI (Aj .i64 (Int.add z0 z1))),(zB (bq false (bq b0 b1)))])]) (.k0 [false] [.tmp 4 false] [4]) ?_))
 refine .ret ?_
 exact A7 (.agg ⟨[(zI (Aj .i64 (Int.add z0 z1))),(zB (bq false (bq b0 b1)))]⟩) hm
theorem r52 {call:A8} (pu:Af) (n:Nat) (hcall:call=Bb tabs isP pu (inl pu)) {args:LV} {v:Value} (hm:m52 pu n args=some v) (_:∀ x∈args,closed2 x=true):args.length≤22∧BN tt call 1 UN (Fr.made 22 args) (Ao tabs) (Fin tt 1 [.cell 4 86] v):=by
 subst hcall
 unfold m52 at hm
 replace hm:=Ad hm;obtain⟨a0,args_0,rfl,hm⟩:=hm
 replace hm:=Ad hm;obtain⟨a1,args_1,rfl,hm⟩:=hm
 replace hm:=AC hm;obtain⟨rfl,hm⟩:=hm
 replace hm:=BG hm;obtain⟨l0,rfl,hm⟩:=hm
 replace hm:=Ad hm;obtain⟨v0,l17038_0,rfl,hm⟩:=hm
 replace hm:=Ad hm;obtain⟨v1,l17038_1,rfl,hm⟩:=hm
 replace hm:=AC hm;obtain⟨rfl,hm⟩:=hm
 replace hm:=Ai hm;obtain⟨x0,rfl,hm⟩:=hm
 replace hm:=Be hm;obtain⟨b0,rfl,hm⟩:=hm
 replace hm:=BG hm;obtain⟨l1,rfl,hm⟩:=hm
 replace hm:=Ad hm;obtain⟨v2,l17046_0,rfl,hm⟩:=hm
 replace hm:=Ad hm;obtain⟨v3,l17046_1,rfl,hm⟩:=hm
 replace hm:=AC hm;obtain⟨rfl,hm⟩:=hm
 replace hm:=Ai hm;obtain⟨x1,rfl,hm⟩:=hm
 replace hm:=Be hm;obtain⟨b1,rfl,hm⟩:=hm
 unfold AcM at hm
 refine⟨by simp,?_⟩
 refine .same (F':=(fr 22 [(0,(.agg ⟨[zI x0,zB b0]⟩)),(1,(.agg ⟨[zI x1,zB b1]⟩))])) (H':=Ay) (by kernel_rfl) (by kernel_rfl) ?_
 refine .then (.rK (.ghs (fr 22 [(2,pt 1 0),(3,(pt 2 0)),(4,(pt 3 0))]) (hT 4 [(oC [zI x0,zB b0]),(oC [zI x1,zB b1]),(oC [(zI (0:Int)),zB false])]) (.k0 [false] [.tmp 2 false,.tmp 3 false,.tmp 4 false] [2,3,4]) ?_))
 refine .join (v:=v) (fun y:Int×Bool×Int×Bool×Int×Bool=>((fr 22 [(2,pt 1 0),(3,(pt 2 0)),(4,(pt 3 0))]),(hT 4 [(oC [(zI y.1),(zB y.2.1)]),(oC [(zI y.2.2.1),(zB y.2.2.2.1)]),(oC [(zI y.2.2.2.2.1),(zB y.2.2.2.2.2)])]))) (fun y=>Sm pu n y.1 y.2.1 y.2.2.1 y.2.2.2.1 y.2.2.2.2.1 y.2.2.2.2.2) ?_ ?_
 ·rintro⟨z0,b2,z1,b3,z2,b5⟩ hm
  exact AcN pu n z0 b2 z1 b3 z2 b5 hm
 ·refine .then (.rK (.ghs (fr 22 [(2,pt 1 0),(3,(pt 2 0)),(4,(pt 3 0)),(6,zB b0)]) (hT 4 [(oC [zI x0,zB b0]),(oC [zI x1,zB b1]),(oC [(zI (0:Int)),zB false])]) (.k0 [false] [.tmp 2 false,.tmp 3 false,.tmp 4 false] [2,3,4,6]) ?_))
  replace hm:=Ag hm;rcases hm with⟨h0,hm⟩ | ⟨h0,hm⟩
  ·refine .ifT b0 (by kernel_rfl) h0 ?_
   refine .rK ?_
   exact⟨(x0,b0,(Aj .i64 (Int.sub (.ofNat 0) x1)),b1,(0:Int),false),hm,(.k0 [false] [.tmp 2 false,.tmp 3 false,.tmp 4 false] [2,3,4])⟩
  ·refine .ifF b0 (by kernel_rfl) h0 ?_
   refine .skip ?_
   exact⟨(x0,b0,x1,b1,(0:Int),false),hm,(.k0 [false] [.tmp 2 false,.tmp 3 false,.tmp 4 false] [2,3,4])⟩

def AcO (pu:Af) (n:Nat) (x0:Int) (b0:Bool):OV:=
 (bb (nt b0) (some (.int .i64 (Int.tmod (Aj .i64 (Int.add x0 (4:Int))) (4:Int)))) (bb (Bd (Int.tmod (Aj .i64 (Int.add x0 (4:Int))) (4:Int)) (0:Int)) (some (.int .i64 (4:Int))) (bb (Bd (Int.tmod (Aj .i64 (Int.add x0 (4:Int))) (4:Int)) (1:Int)) (some (.int .i64 (6:Int))) (bb (Bd (Int.tmod (Aj .i64 (Int.add x0 (4:Int))) (4:Int)) (2:Int)) (some (.int .i64 (5:Int))) (some (.int .i64 (7:Int)))))))
def m53 (pu:Af) (n:Nat) (args:LV):OV:=
 (ll args none fun a0 args=>(ll args (oo (Bt a0) none fun l0=>(ll l0 none fun v0 l0=>(ll l0 none fun v1 l0=>(ll l0 (oo (Bi .i64 v0) none fun x0=>(oo (Bf v1) none fun b0=>(AcO pu n x0 b0))) fun _ _=>none)))) fun _ _=>none))
theorem r53 {call:A8} (pu:Af) (n:Nat) (hcall:call=Bb tabs isP pu (inl pu)) {args:LV} {v:Value} (hm:m53 pu n args=some v) (_:∀ x∈args,closed2 x=true):args.length≤22∧BN tt call 1 Qv (Fr.made 22 args) (Ao tabs) (Fin tt 1 [.tmp 2] v):=by
 subst hcall
 unfold m53 at hm
 replace hm:=Ad hm;obtain⟨a0,args_0,rfl,hm⟩:=hm
 replace hm:=AC hm;obtain⟨rfl,hm⟩:=hm
 replace hm:=BG hm;obtain⟨l0,rfl,hm⟩:=hm
 replace hm:=Ad hm;obtain⟨v0,l17063_0,rfl,hm⟩:=hm
 replace hm:=Ad hm;obtain⟨v1,l17063_1,rfl,hm⟩:=hm
 replace hm:=AC hm;obtain⟨rfl,hm⟩:=hm
 replace hm:=Ai hm;obtain⟨x0,rfl,hm⟩:=hm
 replace hm:=Be hm;obtain⟨b0,rfl,hm⟩:=hm
 unfold AcO at hm
 refine⟨by simp,?_⟩
 refine .same (F':=(fr 22 [(0,(.agg ⟨[zI x0,zB b0]⟩))])) (H':=Ay) (by kernel_rfl) (by kernel_rfl) ?_
 refine .then (.rK (.ghs (fr 22 [(1,pt 1 0)]) (hT 2 [(oC [zI x0,zB b0])]) (.k0 [false] [.tmp 1 false] [1]) ?_))
 refine .then (.rK (.ghs (fr 22 [(1,pt 1 0),(3,(zI (Int.tmod (Aj .i64 (Int.add x0 (4:Int))) (4:Int))))]) (hT 2 [(oC [zI x0,zB b0])]) (.k0 [false] [.tmp 1 false] [1,3]) ?_))
 refine .then (.block (.then (.rK (.ghs (fr 22 [(3,(zI (Int.tmod (Aj .i64 (Int.add x0 (4:Int))) (4:Int)))),(8,(zB (nt b0)))]) Ay (.k0 [false] [] [3,8]) ?_))))
 replace hm:=Ag hm;rcases hm with⟨h0,hm⟩ | ⟨h0,hm⟩
 ·refine BI (nt b0) h0 ?_
  refine .then (.rK (.ghs (fr 22 [(2,(zI (Int.tmod (Aj .i64 (Int.add x0 (4:Int))) (4:Int))))]) Ay (.k0 [false] [] [2]) ?_))
  refine .ret ?_
  exact A7 (zI (Int.tmod (Aj .i64 (Int.add x0 (4:Int))) (4:Int))) hm
 ·refine BO (nt b0) h0 ?_
  refine .then (.rK (.ghs (fr 22 [(3,(zI (Int.tmod (Aj .i64 (Int.add x0 (4:Int))) (4:Int)))),(13,(zB (Bd (Int.tmod (Aj .i64 (Int.add x0 (4:Int))) (4:Int)) (0:Int))))]) Ay (.k0 [false] [] [3,13]) ?_))
  replace hm:=Ag hm;rcases hm with⟨h1,hm⟩ | ⟨h1,hm⟩
  ·refine BI (Bd (Int.tmod (Aj .i64 (Int.add x0 (4:Int))) (4:Int)) (0:Int)) h1 ?_
   refine .then (.rK (.ghs (fr 22 [(2,(zI (4:Int)))]) Ay (.k0 [false] [] [2]) ?_))
   refine .ret ?_
   exact A7 (zI (4:Int)) hm
  ·refine BO (Bd (Int.tmod (Aj .i64 (Int.add x0 (4:Int))) (4:Int)) (0:Int)) h1 ?_
   refine .then (.rK (.ghs (fr 22 [(3,(zI (Int.tmod (Aj .i64 (Int.add x0 (4:Int))) (4:Int)))),(16,(zB (Bd (Int.tmod (Aj .i64 (Int.add x0 (4:Int))) (4:Int)) (1:Int))))]) Ay (.k0 [false] [] [3,16]) ?_))
   replace hm:=Ag hm;rcases hm with⟨h2,hm⟩ | ⟨h2,hm⟩
   ·refine BI (Bd (Int.tmod (Aj .i64 (Int.add x0 (4:Int))) (4:Int)) (1:Int)) h2 ?_
    refine .then (.rK (.ghs (fr 22 [(2,(zI (6:Int)))]) Ay (.k0 [false] [] [2]) ?_))
    refine .ret ?_
    exact A7 (zI (6:Int)) hm
   ·refine BO (Bd (Int.tmod (Aj .i64 (Int.add x0 (4:Int))) (4:Int)) (1:Int)) h2 ?_
    refine .then (.rK (.ghs (fr 22 [(19,(zB (Bd (Int.tmod (Aj .i64 (Int.add x0 (4:Int))) (4:Int)) (2:Int))))]) Ay (.k0 [false] [] [19]) ?_))
    replace hm:=Ag hm;rcases hm with⟨h3,hm⟩ | ⟨h3,hm⟩
    ·refine BI (Bd (Int.tmod (Aj .i64 (Int.add x0 (4:Int))) (4:Int)) (2:Int)) h3 ?_
     refine .then (.rK (.ghs (fr 22 [(2,(zI (5:Int)))]) Ay (.k0 [false] [] [2]) ?_))
     refine .ret ?_
     exact A7 (zI (5:Int)) hm
    ·refine BO (Bd (Int.tmod (Aj .i64 (Int.add x0 (4:Int))) (4:Int)) (2:Int)) h3 ?_
     refine .skip (.ghs (fr 22 []) Ay (.k0 [false] [] []) ?_)
     refine .then (.rK (.ghs (fr 22 [(2,(zI (7:Int)))]) Ay (.k0 [false] [] [2]) ?_))
     refine .ret ?_
     exact A7 (zI (7:Int)) hm
def VW (pu:Af) (n:Nat) (b0:Bool):OV:=
 (bb b0 (some (.int .i64 (1:Int))) (some (.int .i64 (0:Int))))
def AcP (pu:Af) (n:Nat) (p0:Db) (s0:Sl):OV:=
 (oo (AL (Db.cs p0) (((Db.off p0)+0)+0)) none fun v0=>(oo (Bi .i64 v0) none fun x0=>(oo (AL (Db.cs p0) (((Db.off p0)+0)+1)) none fun v1=>(oo (Bi .i64 v1) none fun x1=>(bb (nt (Bd (Int.ofNat (Sl.n s0)) (Aj .i64 (Int.mul x0 x1)))) (some (.int .i64 (5:Int))) (oo (pu 68 [Sl.v 1 s0]) none fun v2=>(oo (Bi .i64 v2) none fun x2=>(bb (AY x2 (0:Int)) (VW pu n true) (oo (AL (Db.cs p0) (((Db.off p0)+0)+2)) none fun v3=>(oo (Bi .i64 v3) none fun x3=>(oo (pu 69 [Sl.v 1 s0]) none fun v4=>(oo (Bi .i64 v4) none fun x4=>(VW pu n (nt (AY x4 x3)))))))))))))))
def m58 (pu:Af) (n:Nat) (args:LV):OV:=
 (ll args none fun a0 args=>(ll args none fun a1 args=>(ll args (oo (Pv a0) none fun p0=>(oo (Bj 1 a1) none fun s0=>(AcP pu n p0 s0))) fun _ _=>none)))
theorem r58 {call:A8} (pu:Af) (n:Nat) (hcall:call=Bb tabs isP pu (inl pu)) {args:LV} {v:Value} (hm:m58 pu n args=some v) (_:∀ x∈args,closed2 x=true):args.length≤34∧BN tt call 1 Qw (Fr.made 34 args) (Ao tabs) (Fin tt 1 [.tmp 4] v):=by
 subst hcall
 unfold m58 at hm
 replace hm:=Ad hm;obtain⟨a0,args_0,rfl,hm⟩:=hm
 replace hm:=Ad hm;obtain⟨a1,args_1,rfl,hm⟩:=hm
 replace hm:=AC hm;obtain⟨rfl,hm⟩:=hm
 replace hm:=Ab hm;obtain⟨p0,h0,hm⟩:=hm
 obtain rfl:=F7 h0
 replace hm:=Al hm;obtain⟨s0,rfl,hm⟩:=hm
 unfold AcP at hm
 refine⟨by simp,?_⟩
 refine .same (F':=(fr 34 [(0,(Cv (Db.off p0) (Db.cs p0))),(1,Sl.v 1 s0)])) (H':=Ay) (by kernel_rfl) (by kernel_rfl) ?_
 refine .then (.rK (.ghs (fr 34 [(0,(Cv (Db.off p0) (Db.cs p0))),(1,Sl.v 1 s0)]) Ay (.k0 [false] [] [0,1]) ?_))
 refine .then (.block (.then ?_))
 replace hm:=Gp hm;obtain⟨x0,h1,hm⟩:=hm
 replace hm:=Gp hm;obtain⟨x1,h2,hm⟩:=hm
 refine .reg (eC 6 (keep Ay (AL (Db.cs p0) (((Db.off p0)+0)+0))) (AZ h1) (eC 4 (keep Ay (AL (Db.cs p0) (((Db.off p0)+0)+1))) (AZ h2) (eE))) ?_
 refine .ghs (fr 34 [(0,(Cv (Db.off p0) (Db.cs p0))),(1,Sl.v 1 s0),(5,(zB (nt (Bd (Int.ofNat (Sl.n s0)) (Aj .i64 (Int.mul x0 x1))))))]) Ay (.k0 [false] [] [0,1,5]) ?_
 replace hm:=Ag hm;rcases hm with⟨h3,hm⟩ | ⟨h3,hm⟩
 ·refine BI (nt (Bd (Int.ofNat (Sl.n s0)) (Aj .i64 (Int.mul x0 x1)))) h3 ?_
  refine .then (.rK (.ghs (fr 34 [(4,(zI (5:Int)))]) Ay (.k0 [false] [] [4]) ?_))
  refine .ret ?_
  exact A7 (zI (5:Int)) hm
 ·refine BO (nt (Bd (Int.ofNat (Sl.n s0)) (Aj .i64 (Int.mul x0 x1)))) h3 ?_
  refine .join (v:=v) (fun y:Bool=>((fr 34 [(20,zB y)]),Ay)) (fun y=>VW pu n y) ?_ ?_
  ·rintro b0 hm
   unfold VW at hm
   replace hm:=Ag hm;rcases hm with⟨h4,hm⟩ | ⟨h4,hm⟩
   ·refine .ifT b0 (by kernel_rfl) h4 ?_
    refine .then (.rK (.ghs (fr 34 [(4,(zI (1:Int)))]) Ay (.k0 [false] [] [4]) ?_))
    refine .ret ?_
    exact A7 (zI (1:Int)) hm
   ·refine .ifF b0 (by kernel_rfl) h4 ?_
    refine .skip (.ghs (fr 34 []) Ay (.k0 [false] [] []) ?_)
    refine .then (.rK (.ghs (fr 34 [(4,(zI (0:Int)))]) Ay (.k0 [false] [] [4]) ?_))
    refine .ret ?_
    exact A7 (zI (0:Int)) hm
  ·replace hm:=Gp hm;obtain⟨x2,h5,hm⟩:=hm
   replace hm:=Ag hm;rcases hm with⟨h6,hm⟩ | ⟨h6,hm⟩
   ·refine .reg (eC 1 ((oo (pu 68 [Sl.v 1 s0]) none fun v=>some (v,Ay))) (AB h5) (eD (some ((zB (AY x2 (0:Int))),Ay)) (show _=some ((zB true),_) from (by rw[show (AY x2 (0:Int))=true from h6])) (eE))) ?_
    exact⟨true,hm,(.k0 [false] [] [20])⟩
   ·replace hm:=Gp hm;obtain⟨x3,h7,hm⟩:=hm
    replace hm:=Gp hm;obtain⟨x4,h8,hm⟩:=hm
    refine .reg (eC 1 ((oo (pu 68 [Sl.v 1 s0]) none fun v=>some (v,Ay))) (AB h5) (eD (some ((zB (AY x2 (0:Int))),Ay)) (show _=some ((zB false),_) from (by rw[show (AY x2 (0:Int))=false from h6])) (eC 6 (keep Ay (AL (Db.cs p0) (((Db.off p0)+0)+2))) (AZ h7) (eD ((oo (pu 69 [Sl.v 1 s0]) none fun v=>some (v,Ay))) (AB h8) (eE))))) ?_
    exact⟨(nt (AY x4 x3)),hm,(.k0 [false] [] [20])⟩

def uA (pu:Af) (n:Nat) (x0 x1:Int):OV:=
 (oo (pu 74 [.int .i64 x0]) none fun v0=>(oo (Bf v0) none fun b0=>(oo (pu 74 [.int .i64 x1]) none fun v1=>(oo (Bf v1) none fun b1=>(bb b0 (bb b1 (some (.int .i64 (0:Int))) (some (.int .i64 (-1:Int)))) (bb b1 (some (.int .i64 (1:Int))) (bb (AY x0 x1) (some (.int .i64 (-1:Int))) (bb (AY x1 x0) (some (.int .i64 (1:Int))) (some (.int .i64 (0:Int)))))))))))
def vE (pu:Af) (n:Nat) (args:LV):OV:=
 (ll args none fun a0 args=>(ll args none fun a1 args=>(ll args (oo (Bi .i64 a0) none fun x0=>(oo (Bi .i64 a1) none fun x1=>(uA pu n x0 x1))) fun _ _=>none)))
theorem r65 {call:A8} (pu:Af) (n:Nat) (hcall:call=Bb tabs isP pu (inl pu)) {args:LV} {v:Value} (hm:vE pu n args=some v) (_:∀ x∈args,closed2 x=true):args.length≤20∧BN tt call 1 Qz (Fr.made 20 args) (Ao tabs) (Fin tt 1 [.tmp 4] v):=by
 subst hcall
 unfold vE at hm
 replace hm:=Ad hm;obtain⟨a0,args_0,rfl,hm⟩:=hm
 replace hm:=Ad hm;obtain⟨a1,args_1,rfl,hm⟩:=hm
 replace hm:=AC hm;obtain⟨rfl,hm⟩:=hm
 replace hm:=Ai hm;obtain⟨x0,rfl,hm⟩:=hm
 replace hm:=Ai hm;obtain⟨x1,rfl,hm⟩:=hm
 unfold uA at hm
 refine⟨by simp,?_⟩
 refine .same (F':=(fr 20 [(0,zI x0),(1,zI x1)])) (H':=Ay) (by kernel_rfl) (by kernel_rfl) ?_
 refine .then (.rK (.ghs (fr 20 [(0,zI x0),(1,zI x1)]) Ay (.k0 [false] [] [0,1]) ?_))
 refine .then ?_
 replace hm:=X5 hm;obtain⟨b0,h0,hm⟩:=hm
 refine .reg (eC 1 ((oo (pu 74 [zI x0]) none fun v=>some (v,Ay))) (AB h0) (eE)) ?_
 refine .ghs (fr 20 [(0,zI x0),(1,zI x1),(5,zB b0)]) Ay (.k0 [false] [] [0,1,5]) ?_
 refine .then ?_
 replace hm:=X5 hm;obtain⟨b1,h1,hm⟩:=hm
 refine .reg (eC 1 ((oo (pu 74 [zI x1]) none fun v=>some (v,Ay))) (AB h1) (eE)) ?_
 refine .ghs (fr 20 [(0,zI x0),(1,zI x1),(5,zB b0),(6,zB b1)]) Ay (.k0 [false] [] [0,1,5,6]) ?_
 refine .then (.then (.rK (.ghs (fr 20 [(0,zI x0),(1,zI x1),(6,zB b1),(11,zB b0)]) Ay (.k0 [false] [] [0,1,6,11]) ?_)))
 replace hm:=Ag hm;rcases hm with⟨h2,hm⟩ | ⟨h2,hm⟩
 ·refine .ifT b0 (by kernel_rfl) h2 ?_
  refine .then (.then (.rK (.ghs (fr 20 [(12,zB b1)]) Ay (.k0 [false] [] [12]) ?_)))
  replace hm:=Ag hm;rcases hm with⟨h3,hm⟩ | ⟨h3,hm⟩
  ·refine .ifT b1 (by kernel_rfl) h3 ?_
   refine .then (.rK (.ghs (fr 20 [(4,(zI (0:Int)))]) Ay (.k0 [false] [] [4]) ?_))
   refine .ret ?_
   exact A7 (zI (0:Int)) hm
  ·refine .ifF b1 (by kernel_rfl) h3 ?_
   refine .skip (.ghs (fr 20 []) Ay (.k0 [false] [] []) ?_)
   refine .then (.rK (.ghs (fr 20 [(4,(zI (-1:Int)))]) Ay (.k0 [false] [] [4]) ?_))
   refine .ret ?_
   exact A7 (zI (-1:Int)) hm
 ·refine .ifF b0 (by kernel_rfl) h2 ?_
  refine .skip (.ghs (fr 20 [(0,zI x0),(1,zI x1),(6,zB b1)]) Ay (.k0 [false] [] [0,1,6]) ?_)
  refine .then (.then (.rK (.ghs (fr 20 [(0,zI x0),(1,zI x1),(13,zB b1)]) Ay (.k0 [false] [] [0,1,13]) ?_)))
  replace hm:=Ag hm;rcases hm with⟨h4,hm⟩ | ⟨h4,hm⟩
  ·refine .ifT b1 (by kernel_rfl) h4 ?_
   refine .then (.rK (.ghs (fr 20 [(4,(zI (1:Int)))]) Ay (.k0 [false] [] [4]) ?_))
   refine .ret ?_
   exact A7 (zI (1:Int)) hm
  ·refine .ifF b1 (by kernel_rfl) h4 ?_
   refine .skip (.ghs (fr 20 [(0,zI x0),(1,zI x1)]) Ay (.k0 [false] [] [0,1]) ?_)
   refine .then (.then (.rK (.ghs (fr 20 [(0,zI x0),(1,zI x1),(16,(zB (AY x0 x1)))]) Ay (.k0 [false] [] [0,1,16]) ?_)))
   replace hm:=Ag hm;rcases hm with⟨h5,hm⟩ | ⟨h5,hm⟩
   ·refine BI (AY x0 x1) h5 ?_
    refine .then (.rK (.ghs (fr 20 [(4,(zI (-1:Int)))]) Ay (.k0 [false] [] [4]) ?_))
    refine .ret ?_
    exact A7 (zI (-1:Int)) hm
   ·refine BO (AY x0 x1) h5 ?_
    refine .skip (.ghs (fr 20 [(0,zI x0),(1,zI x1)]) Ay (.k0 [false] [] [0,1]) ?_)
    refine .then (.then (.rK (.ghs (fr 20 [(19,(zB (AY x1 x0)))]) Ay (.k0 [false] [] [19]) ?_)))
    replace hm:=Ag hm;rcases hm with⟨h6,hm⟩ | ⟨h6,hm⟩
    ·refine BI (AY x1 x0) h6 ?_
     refine .then (.rK (.ghs (fr 20 [(4,(zI (1:Int)))]) Ay (.k0 [false] [] [4]) ?_))
     refine .ret ?_
     exact A7 (zI (1:Int)) hm
    ·refine BO (AY x1 x0) h6 ?_
     refine .skip (.ghs (fr 20 []) Ay (.k0 [false] [] []) ?_)
     refine .then (.rK (.ghs (fr 20 [(4,(zI (0:Int)))]) Ay (.k0 [false] [] [4]) ?_))
     refine .ret ?_
     exact A7 (zI (0:Int)) hm
def VY (pu:Af) (n:Nat) (z0:Int):OV:=
 (some (.int .i64 z0))
def OD (pu:Af) (n:Nat) (ih0:Sl→Int→Int→OV) (s0:Sl) (z0 z1:Int):OV:=
 (bb (AY z1 (Int.ofNat (Sl.n s0))) (oo (EA z1) none fun k1=>(bb (an (Nat.blt k1 (Sl.n s0)) true) (oo (AL (Sl.cs s0) (k1*1)) none fun v0=>(oo (Bi .i64 v0) none fun x0=>(ih0 s0 (bb (AY x0 z0) x0 z0) (Aj .i64 (Int.add (Int.ofNat k1) (1:Int)))))) none)) (VY pu n z0))
def LU (pu:Af) (n w:Nat):Sl→Int→Int→OV:=
 Nat.rec (motive:=fun _=>Sl→Int→Int→OV) (fun _ _ _=>none) (fun _ ih0=>OD pu n ih0) w
def VZ (pu:Af) (n:Nat) (s0:Sl):OV:=
 (bb (an (Nat.blt 0 (Sl.n s0)) true) (oo (AL (Sl.cs s0) (0*1)) none fun v0=>(oo (Bi .i64 v0) none fun x0=>(LU pu n n s0 x0 (1:Int)))) none)
def AcR (pu:Af) (n:Nat) (s0:Sl):OV:=
 (bb (AY (Int.ofNat (Sl.n s0)) (1:Int)) none (VZ pu n s0))
def m68 (pu:Af) (n:Nat) (args:LV):OV:=
 (ll args none fun a0 args=>(ll args (oo (Bj 1 a0) none fun s0=>(AcR pu n s0)) fun _ _=>none))
theorem AcT (pu:Af) (n:Nat) (z0:Int) {v:Value} (hm:VY pu n z0=some v):BN tt (Bb tabs isP pu (inl pu)) 1 XR (fr 25 [(3,zI z0)]) Ay (Fin tt 1 [.tmp 2] v):=by
 unfold VY at hm
 refine .then (.rK (.ghs (fr 25 [(2,zI z0)]) Ay (.k0 [false] [] [2]) ?_))
 refine .ret ?_
 exact A7 (zI z0) hm
theorem AcU (pu:Af) (n:Nat) (s0:Sl) {v:Value} (hm:VZ pu n s0=some v):BN tt (Bb tabs isP pu (inl pu)) 1 XT (fr 25 [(0,Sl.v 1 s0)]) Ay (Fin tt 1 [.tmp 2] v):=by
 unfold VZ at hm
 refine .then ?_
 replace hm:=Ae hm;obtain⟨h0,hm⟩:=hm
 replace hm:=Gp hm;obtain⟨x0,h1,hm⟩:=hm
 refine .reg (eC 1 (keep Ay (bb (an (Nat.blt 0 (Sl.n s0)) true) (some (Cv (0*1) (Sl.cs s0))) none)) (AX h0) (eD (keep Ay (AL (Sl.cs s0) (0*1))) (AZ h1) (eE))) ?_
 refine .ghs (fr 25 [(0,Sl.v 1 s0),(3,zI x0)]) Ay (.k0 [false] [] [0,3]) ?_
 refine .join (v:=v) (fun y:Int=>((fr 25 [(3,zI y)]),Ay)) (fun y=>VY pu n y) ?_ ?_
 ·rintro z0 hm
  exact AcT pu n z0 hm
 ·refine .then (.rK (.ghs (fr 25 [(0,Sl.v 1 s0),(3,zI x0),(4,(zI (1:Int)))]) Ay (.k0 [false] [] [0,3,4]) ?_))
  refine .block (.loopM (v:=v) (fun y:Sl×Int×Int=>((fr 25 [(0,(Sl.v 1 y.1)),(3,(zI y.2.1)),(4,(zI y.2.2))]),Ay)) (fun w y=>LU pu n w y.1 y.2.1 y.2.2) n ⟨(s0,x0,(1:Int)),hm,(.k0 [false] [] [0,3,4])⟩ (fun _=>rfl) ?_)
  rintro w0 ⟨s1,z1,z2⟩ hm
  replace hm:OD pu n (LU pu n w0) s1 z1 z2=some v:=hm
  unfold OD at hm
  refine .then (.then (.rK (.ghs (fr 25 [(0,Sl.v 1 s1),(3,zI z1),(4,zI z2),(15,(zB (AY z2 (Int.ofNat (Sl.n s1)))))]) Ay (.k0 [false] [] [0,3,4,15]) ?_)))
  replace hm:=Ag hm;rcases hm with⟨h2,hm⟩ | ⟨h2,hm⟩
  ·refine BI (AY z2 (Int.ofNat (Sl.n s1))) h2 ?_
   refine .skip (.ghs (fr 25 [(0,Sl.v 1 s1),(3,zI z1),(4,zI z2)]) Ay (.k0 [false] [] [0,3,4]) ?_)
   refine .then (.block ?_)
   replace hm:=Ab hm;obtain⟨k1,h3,hm⟩:=hm
   obtain rfl:=AR h3
   replace hm:=Ae hm;obtain⟨h4,hm⟩:=hm
   replace hm:=Gp hm;obtain⟨x1,h5,hm⟩:=hm
   refine .reg (eC 3 (keep Ay (bb (an (Nat.blt k1 (Sl.n s1)) true) (some (Cv (k1*1) (Sl.cs s1))) none)) (AX h4) (eD (keep Ay (AL (Sl.cs s1) (k1*1))) (AZ h5) (eE))) ?_
   refine .ghs (fr 25 [(0,Sl.v 1 s1),(3,(zI (bb (AY x1 z1) x1 z1))),(4,(zI (Int.ofNat k1)))]) Ay (.k0 [false] [] [0,3,4]) ?_
   refine .rK ?_
   exact⟨(s1,(bb (AY x1 z1) x1 z1),(Aj .i64 (Int.add (Int.ofNat k1) (1:Int)))),hm,(.k0 [false] [] [0,3,4])⟩
  ·refine BO (AY z2 (Int.ofNat (Sl.n s1))) h2 ?_
   refine .exit ?_
   exact⟨z1,hm,(.k0 [false] [] [3])⟩
theorem r68 {call:A8} (pu:Af) (n:Nat) (hcall:call=Bb tabs isP pu (inl pu)) {args:LV} {v:Value} (hm:m68 pu n args=some v) (_:∀ x∈args,closed2 x=true):args.length≤25∧BN tt call 1 QA (Fr.made 25 args) (Ao tabs) (Fin tt 1 [.tmp 2] v):=by
 subst hcall
 unfold m68 at hm
 replace hm:=Ad hm;obtain⟨a0,args_0,rfl,hm⟩:=hm
 replace hm:=AC hm;obtain⟨rfl,hm⟩:=hm
 replace hm:=Al hm;obtain⟨s0,rfl,hm⟩:=hm
 unfold AcR at hm
 refine⟨by simp,?_⟩
 refine .same (F':=(fr 25 [(0,Sl.v 1 s0)])) (H':=Ay) (by kernel_rfl) (by kernel_rfl) ?_
 refine .then (.rK (.ghs (fr 25 [(0,Sl.v 1 s0)]) Ay (.k0 [false] [] [0]) ?_))
 refine .join (v:=v) (fun y:Sl=>((fr 25 [(0,Sl.v 1 y)]),Ay)) (fun y=>VZ pu n y) ?_ ?_
 ·rintro s1 hm
  exact AcU pu n s1 hm
 ·refine .then (.rK (.ghs (fr 25 [(0,Sl.v 1 s0),(7,(zB (AY (Int.ofNat (Sl.n s0)) (1:Int))))]) Ay (.k0 [false] [] [0,7]) ?_))
  replace hm:=Ag hm;rcases hm with⟨h0,hm⟩ | ⟨h0,hm⟩
  ·refine BI (AY (Int.ofNat (Sl.n s0)) (1:Int)) h0 ?_
   cases hm
  ·refine BO (AY (Int.ofNat (Sl.n s0)) (1:Int)) h0 ?_
   refine .skip ?_
   exact⟨s0,hm,(.k0 [false] [] [0])⟩
def V3 (pu:Af) (n:Nat) (z0:Int):OV:=
 (some (.int .i64 z0))
def OE (pu:Af) (n:Nat) (ih0:Sl→Int→Int→OV) (s0:Sl) (z0 z1:Int):OV:=
 (bb (AY z1 (Int.ofNat (Sl.n s0))) (oo (EA z1) none fun k1=>(bb (an (Nat.blt k1 (Sl.n s0)) true) (oo (AL (Sl.cs s0) (k1*1)) none fun v0=>(oo (Bi .i64 v0) none fun x0=>(ih0 s0 (bb (AY z0 x0) x0 z0) (Aj .i64 (Int.add (Int.ofNat k1) (1:Int)))))) none)) (V3 pu n z0))
def LW (pu:Af) (n w:Nat):Sl→Int→Int→OV:=
 Nat.rec (motive:=fun _=>Sl→Int→Int→OV) (fun _ _ _=>none) (fun _ ih0=>OE pu n ih0) w
def V4 (pu:Af) (n:Nat) (s0:Sl):OV:=
 (bb (an (Nat.blt 0 (Sl.n s0)) true) (oo (AL (Sl.cs s0) (0*1)) none fun v0=>(oo (Bi .i64 v0) none fun x0=>(LW pu n n s0 x0 (1:Int)))) none)
def AcV (pu:Af) (n:Nat) (s0:Sl):OV:=
 (bb (AY (Int.ofNat (Sl.n s0)) (1:Int)) none (V4 pu n s0))
def m69 (pu:Af) (n:Nat) (args:LV):OV:=
 (ll args none fun a0 args=>(ll args (oo (Bj 1 a0) none fun s0=>(AcV pu n s0)) fun _ _=>none))
theorem AcX (pu:Af) (n:Nat) (z0:Int) {v:Value} (hm:V3 pu n z0=some v):BN tt (Bb tabs isP pu (inl pu)) 1 XU (fr 25 [(3,zI z0)]) Ay (Fin tt 1 [.tmp 2] v):=by
 unfold V3 at hm
 refine .then (.rK (.ghs (fr 25 [(2,zI z0)]) Ay (.k0 [false] [] [2]) ?_))
 refine .ret ?_
 exact A7 (zI z0) hm
theorem AcY (pu:Af) (n:Nat) (s0:Sl) {v:Value} (hm:V4 pu n s0=some v):BN tt (Bb tabs isP pu (inl pu)) 1 XZ (fr 25 [(0,Sl.v 1 s0)]) Ay (Fin tt 1 [.tmp 2] v):=by
 unfold V4 at hm
 refine .then ?_
 replace hm:=Ae hm;obtain⟨h0,hm⟩:=hm
 replace hm:=Gp hm;obtain⟨x0,h1,hm⟩:=hm
 refine .reg (eC 1 (keep Ay (bb (an (Nat.blt 0 (Sl.n s0)) true) (some (Cv (0*1) (Sl.cs s0))) none)) (AX h0) (eD (keep Ay (AL (Sl.cs s0) (0*1))) (AZ h1) (eE))) ?_
 refine .ghs (fr 25 [(0,Sl.v 1 s0),(3,zI x0)]) Ay (.k0 [false] [] [0,3]) ?_
 refine .join (v:=v) (fun y:Int=>((fr 25 [(3,zI y)]),Ay)) (fun y=>V3 pu n y) ?_ ?_
 ·rintro z0 hm
  exact AcX pu n z0 hm
 ·refine .then (.rK (.ghs (fr 25 [(0,Sl.v 1 s0),(3,zI x0),(4,(zI (1:Int)))]) Ay (.k0 [false] [] [0,3,4]) ?_))
  refine .block (.loopM (v:=v) (fun y:Sl×Int×Int=>((fr 25 [(0,(Sl.v 1 y.1)),(3,(zI y.2.1)),(4,(zI y.2.2))]),Ay)) (fun w y=>LW pu n w y.1 y.2.1 y.2.2) n ⟨(s0,x0,(1:Int)),hm,(.k0 [false] [] [0,3,4])⟩ (fun _=>rfl) ?_)
  rintro w0 ⟨s1,z1,z2⟩ hm
  replace hm:OE pu n (LW pu n w0) s1 z1 z2=some v:=hm
  unfold OE at hm
  refine .then (.then (.rK (.ghs (fr 25 [(0,Sl.v 1 s1),(3,zI z1),(4,zI z2),(15,(zB (AY z2 (Int.ofNat (Sl.n s1)))))]) Ay (.k0 [false] [] [0,3,4,15]) ?_)))
  replace hm:=Ag hm;rcases hm with⟨h2,hm⟩ | ⟨h2,hm⟩
  ·refine BI (AY z2 (Int.ofNat (Sl.n s1))) h2 ?_
   refine .skip (.ghs (fr 25 [(0,Sl.v 1 s1),(3,zI z1),(4,zI z2)]) Ay (.k0 [false] [] [0,3,4]) ?_)
   refine .then (.block ?_)
   replace hm:=Ab hm;obtain⟨k1,h3,hm⟩:=hm
   obtain rfl:=AR h3
   replace hm:=Ae hm;obtain⟨h4,hm⟩:=hm
   replace hm:=Gp hm;obtain⟨x1,h5,hm⟩:=hm
   refine .reg (eC 3 (keep Ay (bb (an (Nat.blt k1 (Sl.n s1)) true) (some (Cv (k1*1) (Sl.cs s1))) none)) (AX h4) (eD (keep Ay (AL (Sl.cs s1) (k1*1))) (AZ h5) (eE))) ?_
   refine .ghs (fr 25 [(0,Sl.v 1 s1),(3,(zI (bb (AY z1 x1) x1 z1))),(4,(zI (Int.ofNat k1)))]) Ay (.k0 [false] [] [0,3,4]) ?_
   refine .rK ?_
   exact⟨(s1,(bb (AY z1 x1) x1 z1),(Aj .i64 (Int.add (Int.ofNat k1) (1:Int)))),hm,(.k0 [false] [] [0,3,4])⟩
  ·refine BO (AY z2 (Int.ofNat (Sl.n s1))) h2 ?_
   refine .exit ?_
   exact⟨z1,hm,(.k0 [false] [] [3])⟩
theorem r69 {call:A8} (pu:Af) (n:Nat) (hcall:call=Bb tabs isP pu (inl pu)) {args:LV} {v:Value} (hm:m69 pu n args=some v) (_:∀ x∈args,closed2 x=true):args.length≤25∧BN tt call 1 QB (Fr.made 25 args) (Ao tabs) (Fin tt 1 [.tmp 2] v):=by
 subst hcall
 unfold m69 at hm
 replace hm:=Ad hm;obtain⟨a0,args_0,rfl,hm⟩:=hm
 replace hm:=AC hm;obtain⟨rfl,hm⟩:=hm
 replace hm:=Al hm;obtain⟨s0,rfl,hm⟩:=hm
 unfold AcV at hm
 refine⟨by simp,?_⟩
 refine .same (F':=(fr 25 [(0,Sl.v 1 s0)])) (H':=Ay) (by kernel_rfl) (by kernel_rfl) ?_
 refine .then (.rK (.ghs (fr 25 [(0,Sl.v 1 s0)]) Ay (.k0 [false] [] [0]) ?_))
 refine .join (v:=v) (fun y:Sl=>((fr 25 [(0,Sl.v 1 y)]),Ay)) (fun y=>V4 pu n y) ?_ ?_
 ·rintro s1 hm
  exact AcY pu n s1 hm
 ·refine .then (.rK (.ghs (fr 25 [(0,Sl.v 1 s0),(7,(zB (AY (Int.ofNat (Sl.n s0)) (1:Int))))]) Ay (.k0 [false] [] [0,7]) ?_))
  replace hm:=Ag hm;rcases hm with⟨h0,hm⟩ | ⟨h0,hm⟩
  ·refine BI (AY (Int.ofNat (Sl.n s0)) (1:Int)) h0 ?_
   cases hm
  ·refine BO (AY (Int.ofNat (Sl.n s0)) (1:Int)) h0 ?_
   refine .skip ?_
   exact⟨s0,hm,(.k0 [false] [] [0])⟩

def AcZ (pu:Af) (n:Nat) (x0:Int):OV:=
 (some (.bool (nt (Bd x0 x0))))
def m74 (pu:Af) (n:Nat) (args:LV):OV:=
 (ll args none fun a0 args=>(ll args (oo (Bi .i64 a0) none fun x0=>(AcZ pu n x0)) fun _ _=>none))
theorem r74 {call:A8} (pu:Af) (n:Nat) (hcall:call=Bb tabs isP pu (inl pu)) {args:LV} {v:Value} (hm:m74 pu n args=some v) (_:∀ x∈args,closed2 x=true):args.length≤6∧BN tt call 1 UO (Fr.made 6 args) (Ao tabs) (Fin tt 1 [.tmp 2] v):=by
 subst hcall
 unfold m74 at hm
 replace hm:=Ad hm;obtain⟨a0,args_0,rfl,hm⟩:=hm
 replace hm:=AC hm;obtain⟨rfl,hm⟩:=hm
 replace hm:=Ai hm;obtain⟨x0,rfl,hm⟩:=hm
 unfold AcZ at hm
 refine⟨by simp,?_⟩
 refine .same (F':=(fr 6 [(0,zI x0)])) (H':=Ay) (by kernel_rfl) (by kernel_rfl) ?_
 refine .then (.rK (.ghs (fr 6 [(0,zI x0)]) Ay (.k0 [false] [] [0]) ?_))
 refine .then (.rK (.ghs (fr 6 [(2,(zB (nt (Bd x0 x0))))]) Ay (.k0 [false] [] [2]) ?_))
 refine .ret ?_
 exact A7 (zB (nt (Bd x0 x0))) hm
def Ki (pu:Af) (n n0:Nat) (q0:LV) (s0:Sl) (z0:Int) (s1:Sl):OV:=
 (some (.tuple ⟨[(.tuple ⟨[]⟩),(.agg ⟨[(Cv n0 q0)]⟩),(.agg ⟨[Sl.v 1 s0]⟩),(.agg ⟨[.int .i64 z0]⟩),(.agg ⟨[Sl.v 1 s1]⟩),(.agg ⟨[(.func (.func 40) ⟨[]⟩ ⟨[(.pointer (some ⟨1,0,none⟩)),(.pointer (some ⟨2,0,none⟩)),(.pointer (some ⟨3,0,none⟩)),(.pointer (some ⟨4,0,none⟩)),(.pointer (some ⟨5,0,none⟩))]⟩)]⟩)]⟩))
def HV (pu:Af) (n:Nat) (s0:Sl) (b0:Bool) (n0:Nat) (q0:LV) (s1:Sl) (z0:Int) (s2:Sl):OV:=
 (bb b0 (Ki pu n n0 q0 s1 (Int.ofNat (Sl.n s0)) s0) (Ki pu n n0 q0 s1 z0 s2))
def Jc (pu:Af) (n:Nat) (ih0:Sl→Int→Int→Nat→LV→Sl→Int→Sl→OV) (s0:Sl) (z0 z1:Int) (n0:Nat) (q0:LV) (s1:Sl) (z2:Int) (s2:Sl):OV:=
 (bb (nt (Bd z1 (0:Int))) (oo (pu 46 [Sl.v 1 s0]) none fun v0=>(oo (Bj 1 v0) none fun s3=>(oo (pu 47 [.int .u16 z1]) none fun v1=>(oo (Bi .i64 v1) none fun x0=>(bb (an (Dp (Nat.beq (Sl.fl s3) 1) (Nat.beq (Sl.fl s3) 2)) (EQ ((Sl.n s3)+1) 8)) (bb (an (Nat.ble (0+((Sl.n s3)+1)*1) (len (Br (Sl.cs s3) ([.int .i64 x0]:LV)))) (Au Ah (Aq (((Sl.n s3)+1)*1) (Am 0 (Br (Sl.cs s3) ([.int .i64 x0]:LV)))))) (oo (pu 10400 [(Sl.v 1 (Sl.mk ((Sl.n s3)+1) 0 (Aq (((Sl.n s3)+1)*1) (Am 0 (Br (Sl.cs s3) ([.int .i64 x0]:LV)))))),(.int .i64 (Aj .i64 (Int.add z0 (1:Int)))),(.pointer (some ⟨1,0,none⟩)),(.pointer (some ⟨2,0,none⟩)),(.pointer (some ⟨3,0,none⟩)),(.pointer (some ⟨4,0,none⟩)),(.pointer (some ⟨5,0,none⟩)),(.agg ⟨[(Cv n0 q0)]⟩),(.agg ⟨[Sl.v 1 s1]⟩),(.agg ⟨[.int .i64 z2]⟩),(.agg ⟨[Sl.v 1 s2]⟩),(.agg ⟨[(.func (.func 40) ⟨[]⟩ ⟨[(.pointer (some ⟨1,0,none⟩)),(.pointer (some ⟨2,0,none⟩)),(.pointer (some ⟨3,0,none⟩)),(.pointer (some ⟨4,0,none⟩)),(.pointer (some ⟨5,0,none⟩))]⟩)]⟩)]) none fun v2=>(oo (CQ v2) none fun l0=>(ll l0 none fun v3 l0=>(ll l0 none fun v4 l0=>(ll l0 none fun v5 l0=>(ll l0 none fun v6 l0=>(ll l0 none fun v7 l0=>(ll l0 none fun v8 l0=>(ll l0 (bb (MC v3) (oo (Bt v4) none fun l1=>(ll l1 none fun v9 l1=>(ll l1 (oo (Pv v9) none fun p0=>(oo (Bt v5) none fun l2=>(ll l2 none fun v10 l2=>(ll l2 (oo (Bj 1 v10) none fun s4=>(oo (Bt v6) none fun l3=>(ll l3 none fun v11 l3=>(ll l3 (oo (Bi .i64 v11) none fun x1=>(oo (Bt v7) none fun l4=>(ll l4 none fun v12 l4=>(ll l4 (oo (Bj 1 v12) none fun s5=>(oo (Bt v8) none fun l5=>(ll l5 none fun v13 l5=>(ll l5 (oo (Om 40 0 v13) none fun l6=>(ll l6 none fun v14 l6=>(ll l6 none fun v15 l6=>(ll l6 none fun v16 l6=>(ll l6 none fun v17 l6=>(ll l6 none fun v18 l6=>(ll l6 (bb (MK v14 1 0) (bb (MK v15 2 0) (bb (MK v16 3 0) (bb (MK v17 4 0) (bb (MK v18 5 0) (ih0 s0 z0 (Np .u16 z1 (Aj .u16 (Int.sub z1 (1:Int)))) (Db.off p0) (Db.cs p0) s4 x1 s5) none) none) none) none) none) fun _ _=>none))))))) fun _ _=>none)))) fun _ _=>none)))) fun _ _=>none)))) fun _ _=>none)))) fun _ _=>none))) none) fun _ _=>none))))))))) none) none))))) (some (.tuple ⟨[(.tuple ⟨[]⟩),(.agg ⟨[(Cv n0 q0)]⟩),(.agg ⟨[Sl.v 1 s1]⟩),(.agg ⟨[.int .i64 z2]⟩),(.agg ⟨[Sl.v 1 s2]⟩),(.agg ⟨[(.func (.func 40) ⟨[]⟩ ⟨[(.pointer (some ⟨1,0,none⟩)),(.pointer (some ⟨2,0,none⟩)),(.pointer (some ⟨3,0,none⟩)),(.pointer (some ⟨4,0,none⟩)),(.pointer (some ⟨5,0,none⟩))]⟩)]⟩)]⟩)))
def Jd (pu:Af) (n w:Nat):Sl→Int→Int→Nat→LV→Sl→Int→Sl→OV:=
 Nat.rec (motive:=fun _=>Sl→Int→Int→Nat→LV→Sl→Int→Sl→OV) (fun _ _ _ _ _ _ _ _=>none) (fun _ ih0=>Jc pu n ih0) w
def FK (pu:Af) (n:Nat) (s0:Sl) (z0:Int) (n0:Nat) (q0:LV) (s1:Sl) (z1:Int) (s2:Sl):OV:=
 (oo (AL q0 ((n0+0)+3)) none fun v0=>(oo (Bj 1 v0) none fun s3=>(bb (Bd z0 (Int.ofNat (Sl.n s3))) (oo (pu 10440 [Sl.v 1 s0]) none fun v1=>(oo (CQ v1) none fun l0=>(ll l0 none fun v2 l0=>(ll l0 none fun v3 l0=>(ll l0 (oo (Om 64 0 v2) none fun l1=>(ll l1 none fun v4 l1=>(ll l1 (bb (MK v4 1 0) (oo (Bt v3) none fun l2=>(ll l2 none fun v5 l2=>(ll l2 (oo (Bj 1 v5) none fun s4=>(oo (CG (Bi .i64) (Sl.cs s4)) none fun z2=>(bb (an (Nat.beq (len z2) (Sl.n s4)) (Nat.ble (len z2) 1000000)) (bb (AY (Int.ofNat (Sl.n (Sl.mk (len z2) (bb (MQ z2) 2 0) (AP Dy (Cs z2))))) z1) (HV pu n (Sl.mk (len z2) (bb (MQ z2) 2 0) (AP Dy (Cs z2))) true n0 q0 s1 z1 s2) (bb (Bd (Int.ofNat (Sl.n (Sl.mk (len z2) (bb (MQ z2) 2 0) (AP Dy (Cs z2))))) z1) (oo (pu 45 [(Sl.v 1 (Sl.mk (len z2) (bb (MQ z2) 2 0) (AP Dy (Cs z2)))),Sl.v 1 s2]) none fun v6=>(oo (Bi .i64 v6) none fun x0=>(HV pu n (Sl.mk (len z2) (bb (MQ z2) 2 0) (AP Dy (Cs z2))) (AY x0 (0:Int)) n0 q0 s1 z1 s2))) (HV pu n (Sl.mk (len z2) (bb (MQ z2) 2 0) (AP Dy (Cs z2))) false n0 q0 s1 z1 s2))) none))) fun _ _=>none))) none) fun _ _=>none))) fun _ _=>none))))) (bb (Bd (Int.ofNat (Sl.n s0)) z1) (some (.tuple ⟨[(.tuple ⟨[]⟩),(.agg ⟨[(Cv n0 q0)]⟩),(.agg ⟨[Sl.v 1 s1]⟩),(.agg ⟨[.int .i64 z1]⟩),(.agg ⟨[Sl.v 1 s2]⟩),(.agg ⟨[(.func (.func 40) ⟨[]⟩ ⟨[(.pointer (some ⟨1,0,none⟩)),(.pointer (some ⟨2,0,none⟩)),(.pointer (some ⟨3,0,none⟩)),(.pointer (some ⟨4,0,none⟩)),(.pointer (some ⟨5,0,none⟩))]⟩)]⟩)]⟩)) (oo (pu 36 [(Cv n0 q0),Sl.v 1 s1,.int .i64 z0]) none fun v7=>(oo (Bi .u16 v7) none fun x1=>(Jd pu n n s0 z0 x1 n0 q0 s1 z1 s2)))))))
def HY (pu:Af) (n:Nat) (ih0:Sl→Int→Nat→LV→Sl→Int→Sl→OV) (s0:Sl) (z0:Int) (b0:Bool) (n0:Nat) (q0:LV) (s1:Sl) (z1:Int) (s2:Sl):OV:=
 (bb b0 (FK pu n s0 z0 n0 q0 s1 z1 s2) (ih0 s0 (Aj .i64 (Int.add z0 (1:Int))) n0 q0 s1 z1 s2))
def Gu (pu:Af) (n:Nat) (ih0:Sl→Int→Nat→LV→Sl→Int→Sl→OV) (s0:Sl) (z0:Int) (n0:Nat) (q0:LV) (s1:Sl) (z1:Int) (s2:Sl):OV:=
 (oo (AL q0 ((n0+0)+3)) none fun v0=>(oo (Bj 1 v0) none fun s3=>(bb (AY z0 (Int.ofNat (Sl.n s3))) (oo (pu 36 [(Cv n0 q0),Sl.v 1 s1,.int .i64 z0]) none fun v1=>(oo (Bi .u16 v1) none fun x0=>(bb (nt (Bd x0 (0:Int))) (oo (pu 10410 [Sl.v 1 s0,(.func (.func 42) ⟨[]⟩ ⟨[(.pointer (some ⟨1,0,none⟩))]⟩),(.agg ⟨[.int .u16 x0]⟩)]) none fun v2=>(oo (CQ v2) none fun l0=>(ll l0 none fun v3 l0=>(ll l0 none fun v4 l0=>(ll l0 (oo (Bf v3) none fun b0=>(oo (Bt v4) none fun l1=>(ll l1 none fun v5 l1=>(ll l1 (oo (Bi .u16 v5) none fun x1=>(HY pu n ih0 s0 z0 (nt b0) n0 q0 s1 z1 s2)) fun _ _=>none)))) fun _ _=>none))))) (HY pu n ih0 s0 z0 false n0 q0 s1 z1 s2)))) (FK pu n s0 z0 n0 q0 s1 z1 s2))))
def FL (pu:Af) (n w:Nat):Sl→Int→Nat→LV→Sl→Int→Sl→OV:=
 Nat.rec (motive:=fun _=>Sl→Int→Nat→LV→Sl→Int→Sl→OV) (fun _ _ _ _ _ _ _=>none) (fun _ ih0=>Gu pu n ih0) w
def MH (pu:Af) (n:Nat) (s0:Sl) (z0:Int) (n0:Nat) (q0:LV) (s1:Sl) (z1:Int) (s2:Sl):OV:=
 (FL pu n n s0 z0 n0 q0 s1 z1 s2)
def Kb (pu:Af) (n:Nat) (args:LV):OV:=
 (ll args none fun a0 args=>(ll args none fun a1 args=>(ll args none fun a2 args=>(ll args none fun a3 args=>(ll args none fun a4 args=>(ll args none fun a5 args=>(ll args none fun a6 args=>(ll args none fun o0 args=>(ll args none fun o1 args=>(ll args none fun o2 args=>(ll args none fun o3 args=>(ll args none fun o4 args=>(ll args (oo (Bj 1 a0) none fun s0=>(oo (Bi .i64 a1) none fun x0=>(bb (MK a2 1 0) (bb (MK a3 2 0) (bb (MK a4 3 0) (bb (MK a5 4 0) (bb (MK a6 5 0) (oo (Bt o0) none fun l0=>(ll l0 none fun v0 l0=>(ll l0 (oo (Pv v0) none fun p0=>(oo (Bt o1) none fun l1=>(ll l1 none fun v1 l1=>(ll l1 (oo (Bj 1 v1) none fun s1=>(oo (Bt o2) none fun l2=>(ll l2 none fun v2 l2=>(ll l2 (oo (Bi .i64 v2) none fun x1=>(oo (Bt o3) none fun l3=>(ll l3 none fun v3 l3=>(ll l3 (oo (Bj 1 v3) none fun s2=>(oo (Bt o4) none fun l4=>(ll l4 none fun v4 l4=>(ll l4 (oo (Om 40 0 v4) none fun l5=>(ll l5 none fun v5 l5=>(ll l5 none fun v6 l5=>(ll l5 none fun v7 l5=>(ll l5 none fun v8 l5=>(ll l5 none fun v9 l5=>(ll l5 (bb (MK v5 1 0) (bb (MK v6 2 0) (bb (MK v7 3 0) (bb (MK v8 4 0) (bb (MK v9 5 0) (MH pu n s0 x0 (Db.off p0) (Db.cs p0) s1 x1 s2) none) none) none) none) none) fun _ _=>none))))))) fun _ _=>none)))) fun _ _=>none)))) fun _ _=>none)))) fun _ _=>none)))) fun _ _=>none))) none) none) none) none) none))) fun _ _=>none)))))))))))))
theorem Yp (pu:Af) (n:Nat) (s0:Sl) (z0:Int) (n0:Nat) (q0:LV) (s1:Sl) (z1:Int) (s2:Sl) {v:Value} (hm:FK pu n s0 z0 n0 q0 s1 z1 s2=some v):BN tt (Bb tabs isP pu (inl pu)) 6 X0 (fr 88 [(0,Sl.v 1 s0),(1,zI z0),(2,pt 1 0),(3,(pt 2 0)),(4,(pt 3 0)),(5,(pt 4 0)),(6,(pt 5 0))]) (hT 6 [(oC [(Cv n0 q0)]),(oC [Sl.v 1 s1]),(oC [zI z1]),(oC [Sl.v 1 s2]),(oC [(.func (.func 40) ⟨[]⟩ ⟨[pt 1 0,(pt 2 0),(pt 3 0),(pt 4 0),(pt 5 0)]⟩)])]) (FJ tt 1 5 [] v):=by
 unfold FK at hm
 refine .then (.then ?_)
 replace hm:=X4 hm;obtain⟨s3,h0,hm⟩:=hm
 refine .reg (eC 5 (keep (hT 6 [(oC [(Cv n0 q0)]),(oC [Sl.v 1 s1]),(oC [zI z1]),(oC [Sl.v 1 s2]),(oC [(.func (.func 40) ⟨[]⟩ ⟨[pt 1 0,(pt 2 0),(pt 3 0),(pt 4 0),(pt 5 0)]⟩)])]) (AL q0 ((n0+0)+3))) (AZ h0) (eE)) ?_
 refine .ghs (fr 88 [(0,Sl.v 1 s0),(1,zI z0),(2,pt 1 0),(3,(pt 2 0)),(4,(pt 3 0)),(5,(pt 4 0)),(6,(pt 5 0)),(41,(zB (Bd z0 (Int.ofNat (Sl.n s3)))))]) (hT 6 [(oC [(Cv n0 q0)]),(oC [Sl.v 1 s1]),(oC [zI z1]),(oC [Sl.v 1 s2]),(oC [(.func (.func 40) ⟨[]⟩ ⟨[pt 1 0,(pt 2 0),(pt 3 0),(pt 4 0),(pt 5 0)]⟩)])]) (.k0 [false,false,false,false,false,true] [] [0,1,2,3,4,5,6,41]) ?_
 replace hm:=Ag hm;rcases hm with⟨h1,hm⟩ | ⟨h1,hm⟩
 ·refine BI (Bd z0 (Int.ofNat (Sl.n s3))) h1 ?_
  refine .then ?_
  replace hm:=Ab hm;obtain⟨v0,h2,hm⟩:=hm
  replace hm:=Ch hm;obtain⟨l0,rfl,hm⟩:=hm
  replace hm:=Ad hm;obtain⟨v1,l13149_0,rfl,hm⟩:=hm
  replace hm:=Ad hm;obtain⟨v2,l13149_1,rfl,hm⟩:=hm
  replace hm:=AC hm;obtain⟨rfl,hm⟩:=hm
  replace hm:=Ab hm;obtain⟨l1,h3,hm⟩:=hm
  obtain rfl:=Hu h3
  replace hm:=Ad hm;obtain⟨v3,l13153_0,rfl,hm⟩:=hm
  replace hm:=AC hm;obtain⟨rfl,hm⟩:=hm
  replace hm:=Ae hm;obtain⟨h4,hm⟩:=hm
  obtain rfl:=KR h4
  replace hm:=BG hm;obtain⟨l2,rfl,hm⟩:=hm
  replace hm:=Ad hm;obtain⟨v4,l13157_0,rfl,hm⟩:=hm
  replace hm:=AC hm;obtain⟨rfl,hm⟩:=hm
  replace hm:=Al hm;obtain⟨s4,rfl,hm⟩:=hm
  replace hm:=Ab hm;obtain⟨z2,h5,hm⟩:=hm
  replace hm:=Ae hm;obtain⟨h6,hm⟩:=hm
  refine .reg (eC 1 (EK tabs [[some 1]] 1 [] [false] (pu 10440) [Sl.v 1 s0] (hT 6 [(oC [(Cv n0 q0)]),(oC [Sl.v 1 s1]),(oC [zI z1]),(oC [Sl.v 1 s2]),(oC [(.func (.func 40) ⟨[]⟩ ⟨[pt 1 0,(pt 2 0),(pt 3 0),(pt 4 0),(pt 5 0)]⟩)])])) (EL (as:=[Sl.v 1 s0]) (H1:=(hT 6 [(oC [(Cv n0 q0)]),(oC [Sl.v 1 s1]),(oC [zI z1]),(oC [Sl.v 1 s2]),(oC [(.func (.func 40) ⟨[]⟩ ⟨[pt 1 0,(pt 2 0),(pt 3 0),(pt 4 0),(pt 5 0)]⟩)])])) (BS (Dm (KQ (CV (z:=1) (v:=(Sl.v 1 s0)) (H:=(hT 6 [(oC [(Cv n0 q0)]),(oC [Sl.v 1 s1]),(oC [zI z1]),(oC [Sl.v 1 s2]),(oC [(.func (.func 40) ⟨[]⟩ ⟨[pt 1 0,(pt 2 0),(pt 3 0),(pt 4 0),(pt 5 0)]⟩)])])) (by kernel_rfl) (by kernel_rfl) (by kernel_rfl)))) Gj) (EI (H2:=(hT 7 [(oC [(Cv n0 q0)]),(oC [Sl.v 1 s1]),(oC [zI z1]),(oC [Sl.v 1 s2]),(oC [(.func (.func 40) ⟨[]⟩ ⟨[pt 1 0,(pt 2 0),(pt 3 0),(pt 4 0),(pt 5 0)]⟩)]),(oC [Sl.v 1 s4])])) (v:=(.func (.func 64) ⟨[]⟩ ⟨[pt 1 0]⟩)) (v':=(.func (.func 64) ⟨[]⟩ ⟨[(pt 6 0)]⟩)) [some 0] [] [] [Sl.v 1 s0] [(.agg ⟨[Sl.v 1 s4]⟩)] [(oC [Sl.v 1 s4])] [some 0,none,none,none,none,none,some 1] [(false,(oC [Sl.v 1 s4]))] [(oC [Sl.v 1 s4])] (by kernel_rfl) BX (Eq.trans (by kernel_rfl) h2) (En rfl BX) (En (by kernel_rfl) BX))) (eD (sortedF 64 [(.func (.func 64) ⟨[]⟩ ⟨[(pt 6 0)]⟩)] (hT 7 [(oC [(Cv n0 q0)]),(oC [Sl.v 1 s1]),(oC [zI z1]),(oC [Sl.v 1 s2]),(oC [(.func (.func 40) ⟨[]⟩ ⟨[pt 1 0,(pt 2 0),(pt 3 0),(pt 4 0),(pt 5 0)]⟩)]),(oC [Sl.v 1 s4])])) (show _=some ((Sl.v 1 (Sl.mk (len z2) (bb (MQ z2) 2 0) (AP Dy (Cs z2)))),(hT 8 [(oC [(Cv n0 q0)]),(oC [Sl.v 1 s1]),(oC [zI z1]),(oC [Sl.v 1 s2]),(oC [(.func (.func 40) ⟨[]⟩ ⟨[pt 1 0,(pt 2 0),(pt 3 0),(pt 4 0),(pt 5 0)]⟩)]),(oC [Sl.v 1 s4]),.dead])) from (Eq.trans (by kernel_rfl) (Eq.trans (WE (g:=64) (H:=(hT 7 [(oC [(Cv n0 q0)]),(oC [Sl.v 1 s1]),(oC [zI z1]),(oC [Sl.v 1 s2]),(oC [(.func (.func 40) ⟨[]⟩ ⟨[pt 1 0,(pt 2 0),(pt 3 0),(pt 4 0),(pt 5 0)]⟩)]),(oC [Sl.v 1 s4])])) (id:=6) (o:=⟨[Sl.v 1 s4],false,false,[]⟩) (s:=s4) (zs:=z2) (by kernel_rfl) (by kernel_rfl) h5 h6) (by kernel_rfl)))) (eE))) ?_
  refine .ghs (fr 88 [(4,(pt 3 0)),(5,(pt 4 0)),(10,(Sl.v 1 (Sl.mk (len z2) (bb (MQ z2) 2 0) (AP Dy (Cs z2)))))]) (hT 6 [(oC [(Cv n0 q0)]),(oC [Sl.v 1 s1]),(oC [zI z1]),(oC [Sl.v 1 s2]),(oC [(.func (.func 40) ⟨[]⟩ ⟨[pt 1 0,(pt 2 0),(pt 3 0),(pt 4 0),(pt 5 0)]⟩)])]) (.k0 [false,false,false,false,false,true] [] [4,5,10]) ?_
  refine .join (v:=v) (fun y:Nat×LV×Sl×Int×Sl=>((fr 88 []),(hT 6 [(oC [(Cv y.1 y.2.1)]),(oC [(Sl.v 1 y.2.2.1)]),(oC [(zI y.2.2.2.1)]),(oC [(Sl.v 1 y.2.2.2.2)]),(oC [(.func (.func 40) ⟨[]⟩ ⟨[pt 1 0,(pt 2 0),(pt 3 0),(pt 4 0),(pt 5 0)]⟩)])]))) (fun y=>Ki pu n y.1 y.2.1 y.2.2.1 y.2.2.2.1 y.2.2.2.2) ?_ ?_
  ·rintro⟨n1,q1,s5,z3,s6⟩ hm
   unfold Ki at hm
   refine .ghs (fr 88 []) (hT 6 [(oC [(Cv n1 q1)]),(oC [Sl.v 1 s5]),(oC [zI z3]),(oC [Sl.v 1 s6]),(oC [(.func (.func 40) ⟨[]⟩ ⟨[pt 1 0,(pt 2 0),(pt 3 0),(pt 4 0),(pt 5 0)]⟩)])]) (.k0 [false,false,false,false,false,true] [] []) ?_
   refine .ret ?_
   exact Gi (.tuple ⟨[]⟩) [(oC [(Cv n1 q1)]),(oC [Sl.v 1 s5]),(oC [zI z3]),(oC [Sl.v 1 s6]),(oC [(.func (.func 40) ⟨[]⟩ ⟨[pt 1 0,(pt 2 0),(pt 3 0),(pt 4 0),(pt 5 0)]⟩)])] (by kernel_rfl) hm (Nat.le_of_ble_eq_true rfl) (Fa (VT _) (Fa (VT _) (Fa (VT _) (Fa (VT _) (Fa (VT _) EJ)))))
  ·refine .join (v:=v) (fun y:Sl×Bool×Nat×LV×Sl×Int×Sl=>((fr 88 [(4,(pt 3 0)),(5,(pt 4 0)),(10,(Sl.v 1 y.1)),(60,(zB y.2.1))]),(hT 6 [(oC [(Cv y.2.2.1 y.2.2.2.1)]),(oC [(Sl.v 1 y.2.2.2.2.1)]),(oC [(zI y.2.2.2.2.2.1)]),(oC [(Sl.v 1 y.2.2.2.2.2.2)]),(oC [(.func (.func 40) ⟨[]⟩ ⟨[pt 1 0,(pt 2 0),(pt 3 0),(pt 4 0),(pt 5 0)]⟩)])]))) (fun y=>HV pu n y.1 y.2.1 y.2.2.1 y.2.2.2.1 y.2.2.2.2.1 y.2.2.2.2.2.1 y.2.2.2.2.2.2) ?_ ?_
   ·rintro⟨s7,b0,n2,q2,s8,z4,s9⟩ hm
    unfold HV at hm
    replace hm:=Ag hm;rcases hm with⟨h7,hm⟩ | ⟨h7,hm⟩
    ·refine .ifT b0 (by kernel_rfl) h7 ?_
     refine .rK ?_
     exact⟨(n2,q2,s8,(Int.ofNat (Sl.n s7)),s7),hm,(.k0 [false,false,false,false,false,true] [] [])⟩
    ·refine .ifF b0 (by kernel_rfl) h7 ?_
     refine .skip ?_
     exact⟨(n2,q2,s8,z4,s9),hm,(.k0 [false,false,false,false,false,true] [] [])⟩
   ·replace hm:=Ag hm;rcases hm with⟨h8,hm⟩ | ⟨h8,hm⟩
    ·refine .reg (eC 3 (some ((zB (AY (Int.ofNat (Sl.n (Sl.mk (len z2) (bb (MQ z2) 2 0) (AP Dy (Cs z2))))) z1)),(hT 6 [(oC [(Cv n0 q0)]),(oC [Sl.v 1 s1]),(oC [zI z1]),(oC [Sl.v 1 s2]),(oC [(.func (.func 40) ⟨[]⟩ ⟨[pt 1 0,(pt 2 0),(pt 3 0),(pt 4 0),(pt 5 0)]⟩)])]))) (show _=some ((zB true),_) from (by rw[show (AY (Int.ofNat (Sl.n (Sl.mk (len z2) (bb (MQ z2) 2 0) (AP Dy (Cs z2))))) z1)=true from h8])) (eE)) ?_
     exact⟨((Sl.mk (len z2) (bb (MQ z2) 2 0) (AP Dy (Cs z2))),true,n0,q0,s1,z1,s2),hm,(.k0 [false,false,false,false,false,true] [] [4,5,10,60])⟩
    ·replace hm:=Ag hm;rcases hm with⟨h9,hm⟩ | ⟨h9,hm⟩
     ·replace hm:=Gp hm;obtain⟨x0,h10,hm⟩:=hm
      refine .reg (eC 3 (some ((zB (AY (Int.ofNat (Sl.n (Sl.mk (len z2) (bb (MQ z2) 2 0) (AP Dy (Cs z2))))) z1)),(hT 6 [(oC [(Cv n0 q0)]),(oC [Sl.v 1 s1]),(oC [zI z1]),(oC [Sl.v 1 s2]),(oC [(.func (.func 40) ⟨[]⟩ ⟨[pt 1 0,(pt 2 0),(pt 3 0),(pt 4 0),(pt 5 0)]⟩)])]))) (show _=some ((zB false),_) from (by rw[show (AY (Int.ofNat (Sl.n (Sl.mk (len z2) (bb (MQ z2) 2 0) (AP Dy (Cs z2))))) z1)=false from h8])) (eC 4 (some ((zB (Bd (Int.ofNat (Sl.n (Sl.mk (len z2) (bb (MQ z2) 2 0) (AP Dy (Cs z2))))) z1)),(hT 6 [(oC [(Cv n0 q0)]),(oC [Sl.v 1 s1]),(oC [zI z1]),(oC [Sl.v 1 s2]),(oC [(.func (.func 40) ⟨[]⟩ ⟨[pt 1 0,(pt 2 0),(pt 3 0),(pt 4 0),(pt 5 0)]⟩)])]))) (show _=some ((zB true),_) from (by rw[show (Bd (Int.ofNat (Sl.n (Sl.mk (len z2) (bb (MQ z2) 2 0) (AP Dy (Cs z2))))) z1)=true from h9])) (eC 3 ((oo (pu 45 [(Sl.v 1 (Sl.mk (len z2) (bb (MQ z2) 2 0) (AP Dy (Cs z2)))),Sl.v 1 s2]) none fun v=>some (v,(hT 6 [(oC [(Cv n0 q0)]),(oC [Sl.v 1 s1]),(oC [zI z1]),(oC [Sl.v 1 s2]),(oC [(.func (.func 40) ⟨[]⟩ ⟨[pt 1 0,(pt 2 0),(pt 3 0),(pt 4 0),(pt 5 0)]⟩)])])))) (AB h10) (eE)))) ?_
      exact⟨((Sl.mk (len z2) (bb (MQ z2) 2 0) (AP Dy (Cs z2))),(AY x0 (0:Int)),n0,q0,s1,z1,s2),hm,(.k0 [false,false,false,false,false,true] [] [4,5,10,60])⟩
     ·refine .reg (eC 3 (some ((zB (AY (Int.ofNat (Sl.n (Sl.mk (len z2) (bb (MQ z2) 2 0) (AP Dy (Cs z2))))) z1)),(hT 6 [(oC [(Cv n0 q0)]),(oC [Sl.v 1 s1]),(oC [zI z1]),(oC [Sl.v 1 s2]),(oC [(.func (.func 40) ⟨[]⟩ ⟨[pt 1 0,(pt 2 0),(pt 3 0),(pt 4 0),(pt 5 0)]⟩)])]))) (show _=some ((zB false),_) from (by rw[show (AY (Int.ofNat (Sl.n (Sl.mk (len z2) (bb (MQ z2) 2 0) (AP Dy (Cs z2))))) z1)=false from h8])) (eC 4 (some ((zB (Bd (Int.ofNat (Sl.n (Sl.mk (len z2) (bb (MQ z2) 2 0) (AP Dy (Cs z2))))) z1)),(hT 6 [(oC [(Cv n0 q0)]),(oC [Sl.v 1 s1]),(oC [zI z1]),(oC [Sl.v 1 s2]),(oC [(.func (.func 40) ⟨[]⟩ ⟨[pt 1 0,(pt 2 0),(pt 3 0),(pt 4 0),(pt 5 0)]⟩)])]))) (show _=some ((zB false),_) from (by rw[show (Bd (Int.ofNat (Sl.n (Sl.mk (len z2) (bb (MQ z2) 2 0) (AP Dy (Cs z2))))) z1)=false from h9])) (eE))) ?_
      exact⟨((Sl.mk (len z2) (bb (MQ z2) 2 0) (AP Dy (Cs z2))),false,n0,q0,s1,z1,s2),hm,(.k0 [false,false,false,false,false,true] [] [4,5,10,60])⟩
 ·refine BO (Bd z0 (Int.ofNat (Sl.n s3))) h1 ?_
  refine .skip (.ghs (fr 88 [(0,Sl.v 1 s0),(1,zI z0),(2,pt 1 0),(3,(pt 2 0)),(4,(pt 3 0)),(6,(pt 5 0))]) (hT 6 [(oC [(Cv n0 q0)]),(oC [Sl.v 1 s1]),(oC [zI z1]),(oC [Sl.v 1 s2]),(oC [(.func (.func 40) ⟨[]⟩ ⟨[pt 1 0,(pt 2 0),(pt 3 0),(pt 4 0),(pt 5 0)]⟩)])]) (.k0 [false,false,false,false,false,true] [] [0,1,2,3,4,6]) ?_)
  refine .then (.then (.rK (.ghs (fr 88 [(0,Sl.v 1 s0),(1,zI z0),(2,pt 1 0),(3,(pt 2 0)),(6,(pt 5 0)),(67,(zB (Bd (Int.ofNat (Sl.n s0)) z1)))]) (hT 6 [(oC [(Cv n0 q0)]),(oC [Sl.v 1 s1]),(oC [zI z1]),(oC [Sl.v 1 s2]),(oC [(.func (.func 40) ⟨[]⟩ ⟨[pt 1 0,(pt 2 0),(pt 3 0),(pt 4 0),(pt 5 0)]⟩)])]) (.k0 [false,false,false,false,false,true] [] [0,1,2,3,6,67]) ?_)))
  replace hm:=Ag hm;rcases hm with⟨h11,hm⟩ | ⟨h11,hm⟩
  ·refine BI (Bd (Int.ofNat (Sl.n s0)) z1) h11 ?_
   refine .ghs (fr 88 []) (hT 6 [(oC [(Cv n0 q0)]),(oC [Sl.v 1 s1]),(oC [zI z1]),(oC [Sl.v 1 s2]),(oC [(.func (.func 40) ⟨[]⟩ ⟨[pt 1 0,(pt 2 0),(pt 3 0),(pt 4 0),(pt 5 0)]⟩)])]) (.k0 [false,false,false,false,false,true] [] []) ?_
   refine .ret ?_
   exact Gi (.tuple ⟨[]⟩) [(oC [(Cv n0 q0)]),(oC [Sl.v 1 s1]),(oC [zI z1]),(oC [Sl.v 1 s2]),(oC [(.func (.func 40) ⟨[]⟩ ⟨[pt 1 0,(pt 2 0),(pt 3 0),(pt 4 0),(pt 5 0)]⟩)])] (by kernel_rfl) hm (Nat.le_of_ble_eq_true rfl) (Fa (VT _) (Fa (VT _) (Fa (VT _) (Fa (VT _) (Fa (VT _) EJ)))))
  ·refine BO (Bd (Int.ofNat (Sl.n s0)) z1) h11 ?_
   refine .skip (.ghs (fr 88 [(0,Sl.v 1 s0),(1,zI z0),(2,pt 1 0),(3,(pt 2 0)),(6,(pt 5 0))]) (hT 6 [(oC [(Cv n0 q0)]),(oC [Sl.v 1 s1]),(oC [zI z1]),(oC [Sl.v 1 s2]),(oC [(.func (.func 40) ⟨[]⟩ ⟨[pt 1 0,(pt 2 0),(pt 3 0),(pt 4 0),(pt 5 0)]⟩)])]) (.k0 [false,false,false,false,false,true] [] [0,1,2,3,6]) ?_)
   refine .then ?_
   replace hm:=Gp hm;obtain⟨x1,h12,hm⟩:=hm
   refine .reg (eC 3 ((oo (pu 36 [(Cv n0 q0),Sl.v 1 s1,zI z0]) none fun v=>some (v,(hT 6 [(oC [(Cv n0 q0)]),(oC [Sl.v 1 s1]),(oC [zI z1]),(oC [Sl.v 1 s2]),(oC [(.func (.func 40) ⟨[]⟩ ⟨[pt 1 0,(pt 2 0),(pt 3 0),(pt 4 0),(pt 5 0)]⟩)])])))) (AB h12) (eE)) ?_
   refine .ghs (fr 88 [(0,Sl.v 1 s0),(1,zI z0),(6,(pt 5 0)),(11,.int .u16 x1)]) (hT 6 [(oC [(Cv n0 q0)]),(oC [Sl.v 1 s1]),(oC [zI z1]),(oC [Sl.v 1 s2]),(oC [(.func (.func 40) ⟨[]⟩ ⟨[pt 1 0,(pt 2 0),(pt 3 0),(pt 4 0),(pt 5 0)]⟩)])]) (.k0 [false,false,false,false,false,true] [] [0,1,6,11]) ?_
   refine .block (.loopM (v:=v) (fun y:Sl×Int×Int×Nat×LV×Sl×Int×Sl=>((fr 88 [(0,(Sl.v 1 y.1)),(1,(zI y.2.1)),(6,(pt 5 0)),(11,(.int .u16 y.2.2.1))]),(hT 6 [(oC [(Cv y.2.2.2.1 y.2.2.2.2.1)]),(oC [(Sl.v 1 y.2.2.2.2.2.1)]),(oC [(zI y.2.2.2.2.2.2.1)]),(oC [(Sl.v 1 y.2.2.2.2.2.2.2)]),(oC [(.func (.func 40) ⟨[]⟩ ⟨[pt 1 0,(pt 2 0),(pt 3 0),(pt 4 0),(pt 5 0)]⟩)])]))) (fun w y=>Jd pu n w y.1 y.2.1 y.2.2.1 y.2.2.2.1 y.2.2.2.2.1 y.2.2.2.2.2.1 y.2.2.2.2.2.2.1 y.2.2.2.2.2.2.2) n ⟨(s0,z0,x1,n0,q0,s1,z1,s2),hm,(.k0 [false,false,false,false,false,true] [] [0,1,6,11])⟩ (fun _=>rfl) ?_)
   rintro w0 ⟨s10,z5,z6,n3,q3,s11,z7,s12⟩ hm
   replace hm:Jc pu n (Jd pu n w0) s10 z5 z6 n3 q3 s11 z7 s12=some v:=hm
   unfold Jc at hm
   refine .then (.then (.rK (.ghs (fr 88 [(0,Sl.v 1 s10),(1,zI z5),(6,(pt 5 0)),(11,.int .u16 z6),(73,(zB (nt (Bd z6 (0:Int)))))]) (hT 6 [(oC [(Cv n3 q3)]),(oC [Sl.v 1 s11]),(oC [zI z7]),(oC [Sl.v 1 s12]),(oC [(.func (.func 40) ⟨[]⟩ ⟨[pt 1 0,(pt 2 0),(pt 3 0),(pt 4 0),(pt 5 0)]⟩)])]) (.k0 [false,false,false,false,false,true] [] [0,1,6,11,73]) ?_)))
   replace hm:=Ag hm;rcases hm with⟨h13,hm⟩ | ⟨h13,hm⟩
   ·refine BI (nt (Bd z6 (0:Int))) h13 ?_
    refine .skip (.ghs (fr 88 [(0,Sl.v 1 s10),(1,zI z5),(6,(pt 5 0)),(11,.int .u16 z6)]) (hT 6 [(oC [(Cv n3 q3)]),(oC [Sl.v 1 s11]),(oC [zI z7]),(oC [Sl.v 1 s12]),(oC [(.func (.func 40) ⟨[]⟩ ⟨[pt 1 0,(pt 2 0),(pt 3 0),(pt 4 0),(pt 5 0)]⟩)])]) (.k0 [false,false,false,false,false,true] [] [0,1,6,11]) ?_)
    refine .then (.block ?_)
    replace hm:=X4 hm;obtain⟨s13,h14,hm⟩:=hm
    replace hm:=Gp hm;obtain⟨x2,h15,hm⟩:=hm
    replace hm:=Ae hm;obtain⟨h16,hm⟩:=hm
    replace hm:=Ae hm;obtain⟨h17,hm⟩:=hm
    replace hm:=Ab hm;obtain⟨v5,h18,hm⟩:=hm
    replace hm:=Ch hm;obtain⟨l3,rfl,hm⟩:=hm
    replace hm:=Ad hm;obtain⟨v6,l13412_0,rfl,hm⟩:=hm
    replace hm:=Ad hm;obtain⟨v7,l13412_1,rfl,hm⟩:=hm
    replace hm:=Ad hm;obtain⟨v8,l13412_2,rfl,hm⟩:=hm
    replace hm:=Ad hm;obtain⟨v9,l13412_3,rfl,hm⟩:=hm
    replace hm:=Ad hm;obtain⟨v10,l13412_4,rfl,hm⟩:=hm
    replace hm:=Ad hm;obtain⟨v11,l13412_5,rfl,hm⟩:=hm
    replace hm:=AC hm;obtain⟨rfl,hm⟩:=hm
    replace hm:=Ae hm;obtain⟨h19,hm⟩:=hm
    obtain rfl:=Oo h19
    replace hm:=BG hm;obtain⟨l4,rfl,hm⟩:=hm
    replace hm:=Ad hm;obtain⟨v12,l13421_0,rfl,hm⟩:=hm
    replace hm:=AC hm;obtain⟨rfl,hm⟩:=hm
    replace hm:=Ab hm;obtain⟨p0,h20,hm⟩:=hm
    obtain rfl:=F7 h20
    replace hm:=BG hm;obtain⟨l5,rfl,hm⟩:=hm
    replace hm:=Ad hm;obtain⟨v13,l13426_0,rfl,hm⟩:=hm
    replace hm:=AC hm;obtain⟨rfl,hm⟩:=hm
    replace hm:=Al hm;obtain⟨s14,rfl,hm⟩:=hm
    replace hm:=BG hm;obtain⟨l6,rfl,hm⟩:=hm
    replace hm:=Ad hm;obtain⟨v14,l13431_0,rfl,hm⟩:=hm
    replace hm:=AC hm;obtain⟨rfl,hm⟩:=hm
    replace hm:=Ai hm;obtain⟨x3,rfl,hm⟩:=hm
    replace hm:=BG hm;obtain⟨l7,rfl,hm⟩:=hm
    replace hm:=Ad hm;obtain⟨v15,l13436_0,rfl,hm⟩:=hm
    replace hm:=AC hm;obtain⟨rfl,hm⟩:=hm
    replace hm:=Al hm;obtain⟨s15,rfl,hm⟩:=hm
    replace hm:=BG hm;obtain⟨l8,rfl,hm⟩:=hm
    replace hm:=Ad hm;obtain⟨v16,l13441_0,rfl,hm⟩:=hm
    replace hm:=AC hm;obtain⟨rfl,hm⟩:=hm
    replace hm:=Ab hm;obtain⟨l9,h21,hm⟩:=hm
    obtain rfl:=Hu h21
    replace hm:=Ad hm;obtain⟨v17,l13444_0,rfl,hm⟩:=hm
    replace hm:=Ad hm;obtain⟨v18,l13444_1,rfl,hm⟩:=hm
    replace hm:=Ad hm;obtain⟨v19,l13444_2,rfl,hm⟩:=hm
    replace hm:=Ad hm;obtain⟨v20,l13444_3,rfl,hm⟩:=hm
    replace hm:=Ad hm;obtain⟨v21,l13444_4,rfl,hm⟩:=hm
    replace hm:=AC hm;obtain⟨rfl,hm⟩:=hm
    replace hm:=Ae hm;obtain⟨h22,hm⟩:=hm
    obtain rfl:=KR h22
    replace hm:=Ae hm;obtain⟨h23,hm⟩:=hm
    obtain rfl:=KR h23
    replace hm:=Ae hm;obtain⟨h24,hm⟩:=hm
    obtain rfl:=KR h24
    replace hm:=Ae hm;obtain⟨h25,hm⟩:=hm
    obtain rfl:=KR h25
    replace hm:=Ae hm;obtain⟨h26,hm⟩:=hm
    obtain rfl:=KR h26
    refine .reg (eC 5 ((oo (pu 46 [Sl.v 1 s10]) none fun v=>some (v,(hT 6 [(oC [(Cv n3 q3)]),(oC [Sl.v 1 s11]),(oC [zI z7]),(oC [Sl.v 1 s12]),(oC [(.func (.func 40) ⟨[]⟩ ⟨[pt 1 0,(pt 2 0),(pt 3 0),(pt 4 0),(pt 5 0)]⟩)])])))) (AB h14) (eD ((oo (pu 47 [.int .u16 z6]) none fun v=>some (v,(hT 6 [(oC [(Cv n3 q3)]),(oC [Sl.v 1 s11]),(oC [zI z7]),(oC [Sl.v 1 s12]),(oC [(.func (.func 40) ⟨[]⟩ ⟨[pt 1 0,(pt 2 0),(pt 3 0),(pt 4 0),(pt 5 0)]⟩)])])))) (AB h15) (eC 1 (Uu (hT 7 [(oC [(Cv n3 q3)]),(oC [Sl.v 1 s11]),(oC [zI z7]),(oC [Sl.v 1 s12]),(oC [(.func (.func 40) ⟨[]⟩ ⟨[pt 1 0,(pt 2 0),(pt 3 0),(pt 4 0),(pt 5 0)]⟩)]),(oC [zI x2])]) 1 8 s13 1 ([zI x2]:LV)) (Wi h16) (eD (EK tabs [[some 1],[none],[none],[none],[none],[none],[none]] 7 [.tmp 2 false,.tmp 3 false,.tmp 4 false,.tmp 5 false,.tmp 6 true] [false,false,false,false,true] (pu 10400) [(sc 7 0 1 ((Sl.n s13)+1) (d2 ((Sl.n s13)+1))),(zI (Aj .i64 (Int.add z5 (1:Int)))),pt 1 0,(pt 2 0),(pt 3 0),(pt 4 0),(pt 5 0)] (hT 8 [(oC [(Cv n3 q3)]),(oC [Sl.v 1 s11]),(oC [zI z7]),(oC [Sl.v 1 s12]),(oC [(.func (.func 40) ⟨[]⟩ ⟨[pt 1 0,(pt 2 0),(pt 3 0),(pt 4 0),(pt 5 0)]⟩)]),(oC [zI x2]),(oC (Br (Sl.cs s13) ([zI x2]:LV)))])) (EL (as:=[(Sl.v 1 (Sl.mk ((Sl.n s13)+1) 0 (Aq (((Sl.n s13)+1)*1) (Am 0 (Br (Sl.cs s13) ([zI x2]:LV)))))),(zI (Aj .i64 (Int.add z5 (1:Int)))),pt 1 0,(pt 2 0),(pt 3 0),(pt 4 0),(pt 5 0)]) (H1:=(hT 8 [(oC [(Cv n3 q3)]),(oC [Sl.v 1 s11]),(oC [zI z7]),(oC [Sl.v 1 s12]),(oC [(.func (.func 40) ⟨[]⟩ ⟨[pt 1 0,(pt 2 0),(pt 3 0),(pt 4 0),(pt 5 0)]⟩)]),(oC [zI x2]),.dead])) (BS (Dm (KQ (show ER 1 (sc 7 0 1 ((Sl.n s13)+1) (d2 ((Sl.n s13)+1))) (hT 8 [(oC [(Cv n3 q3)]),(oC [Sl.v 1 s11]),(oC [zI z7]),(oC [Sl.v 1 s12]),(oC [(.func (.func 40) ⟨[]⟩ ⟨[pt 1 0,(pt 2 0),(pt 3 0),(pt 4 0),(pt 5 0)]⟩)]),(oC [zI x2]),(oC (Br (Sl.cs s13) ([zI x2]:LV)))])=some ((Sl.v 1 (Sl.mk ((Sl.n s13)+1) 0 (Aq (((Sl.n s13)+1)*1) (Am 0 (Br (Sl.cs s13) ([zI x2]:LV)))))),(hT 8 [(oC [(Cv n3 q3)]),(oC [Sl.v 1 s11]),(oC [zI z7]),(oC [Sl.v 1 s12]),(oC [(.func (.func 40) ⟨[]⟩ ⟨[pt 1 0,(pt 2 0),(pt 3 0),(pt 4 0),(pt 5 0)]⟩)]),(oC [zI x2]),.dead])) from KH 7 0 1 ((Sl.n s13)+1) (d2 ((Sl.n s13)+1)) (Br (Sl.cs s13) ([zI x2]:LV)) [] (by kernel_rfl) (by kernel_rfl) h17))) (BS (Dm Dk) (BS (Dm Dk) (BS (Dm Dk) (BS (Dm Dk) (BS (Dm Dk) (BS (Dm Dk) Gj))))))) (EI (H2:=(hT 8 [(oC [(Cv (Db.off p0) (Db.cs p0))]),(oC [Sl.v 1 s14]),(oC [zI x3]),(oC [Sl.v 1 s15]),(oC [(.func (.func 40) ⟨[]⟩ ⟨[pt 1 0,(pt 2 0),(pt 3 0),(pt 4 0),(pt 5 0)]⟩)]),(oC [zI x2]),.dead])) (v:=(.tuple ⟨[]⟩)) (v':=(.tuple ⟨[]⟩)) [some 0,some 1,some 2,some 3,some 4,some 5] [(false,some 1),(false,some 2),(false,some 3),(false,some 4),(true,some 5)] [(oC [(Cv n3 q3)]),(oC [Sl.v 1 s11]),(oC [zI z7]),(oC [Sl.v 1 s12]),(oC [(.func (.func 40) ⟨[]⟩ ⟨[pt 1 0,(pt 2 0),(pt 3 0),(pt 4 0),(pt 5 0)]⟩)])] [(Sl.v 1 (Sl.mk ((Sl.n s13)+1) 0 (Aq (((Sl.n s13)+1)*1) (Am 0 (Br (Sl.cs s13) ([zI x2]:LV)))))),(zI (Aj .i64 (Int.add z5 (1:Int)))),pt 1 0,(pt 2 0),(pt 3 0),(pt 4 0),(pt 5 0)] [(.agg ⟨[(Cv (Db.off p0) (Db.cs p0))]⟩),(.agg ⟨[Sl.v 1 s14]⟩),(.agg ⟨[zI x3]⟩),(.agg ⟨[Sl.v 1 s15]⟩),(.agg ⟨[(.func (.func 40) ⟨[]⟩ ⟨[pt 1 0,(pt 2 0),(pt 3 0),(pt 4 0),(pt 5 0)]⟩)]⟩)] [(oC [(Cv (Db.off p0) (Db.cs p0))]),(oC [Sl.v 1 s14]),(oC [zI x3]),(oC [Sl.v 1 s15]),(oC [(.func (.func 40) ⟨[]⟩ ⟨[pt 1 0,(pt 2 0),(pt 3 0),(pt 4 0),(pt 5 0)]⟩)])] [some 0,some 1,some 2,some 3,some 4,some 5,none,none] [(false,(oC [(Cv (Db.off p0) (Db.cs p0))])),(false,(oC [Sl.v 1 s14])),(false,(oC [zI x3])),(false,(oC [Sl.v 1 s15])),(true,(oC [(.func (.func 40) ⟨[]⟩ ⟨[pt 1 0,(pt 2 0),(pt 3 0),(pt 4 0),(pt 5 0)]⟩)]))] [(oC [(Cv (Db.off p0) (Db.cs p0))]),(oC [Sl.v 1 s14]),(oC [zI x3]),(oC [Sl.v 1 s15]),(oC [(.func (.func 40) ⟨[]⟩ ⟨[pt 1 0,(pt 2 0),(pt 3 0),(pt 4 0),(pt 5 0)]⟩)])] (by kernel_rfl) (En (by kernel_rfl) (En (by kernel_rfl) (En (by kernel_rfl) (En (by kernel_rfl) (En (by kernel_rfl) BX))))) (Eq.trans (by kernel_rfl) h18) (En rfl (En rfl (En rfl (En rfl (En rfl BX))))) (En (by kernel_rfl) (En (by kernel_rfl) (En (by kernel_rfl) (En (by kernel_rfl) (En (by kernel_rfl) BX))))))) (eE))))) ?_
    refine .ghs (fr 88 [(0,Sl.v 1 s10),(1,zI z5),(6,(pt 5 0)),(11,.int .u16 z6)]) (hT 6 [(oC [(Cv (Db.off p0) (Db.cs p0))]),(oC [Sl.v 1 s14]),(oC [zI x3]),(oC [Sl.v 1 s15]),(oC [(.func (.func 40) ⟨[]⟩ ⟨[pt 1 0,(pt 2 0),(pt 3 0),(pt 4 0),(pt 5 0)]⟩)])]) (.k0 [false,false,false,false,false,true] [] [0,1,6,11]) ?_
    refine .rK ?_
    exact⟨(s10,z5,(Np .u16 z6 (Aj .u16 (Int.sub z6 (1:Int)))),(Db.off p0),(Db.cs p0),s14,x3,s15),hm,(.k0 [false,false,false,false,false,true] [] [0,1,6,11])⟩
   ·refine BO (nt (Bd z6 (0:Int))) h13 ?_
    refine .exit ?_
    refine .ghs (fr 88 []) (hT 6 [(oC [(Cv n3 q3)]),(oC [Sl.v 1 s11]),(oC [zI z7]),(oC [Sl.v 1 s12]),(oC [(.func (.func 40) ⟨[]⟩ ⟨[pt 1 0,(pt 2 0),(pt 3 0),(pt 4 0),(pt 5 0)]⟩)])]) (.k0 [false,false,false,false,false,true] [] []) ?_
    exact TU (.tuple ⟨[]⟩) [(oC [(Cv n3 q3)]),(oC [Sl.v 1 s11]),(oC [zI z7]),(oC [Sl.v 1 s12]),(oC [(.func (.func 40) ⟨[]⟩ ⟨[pt 1 0,(pt 2 0),(pt 3 0),(pt 4 0),(pt 5 0)]⟩)])] (by kernel_rfl) hm (Nat.le_of_ble_eq_true rfl) (Fa (VT _) (Fa (VT _) (Fa (VT _) (Fa (VT _) (Fa (VT _) EJ)))))
theorem QC (pu:Af) (n:Nat) (s0:Sl) (z0:Int) (n0:Nat) (q0:LV) (s1:Sl) (z1:Int) (s2:Sl) {v:Value} (hm:MH pu n s0 z0 n0 q0 s1 z1 s2=some v):BN tt (Bb tabs isP pu (inl pu)) 6 MU (fr 88 [(0,Sl.v 1 s0),(1,zI z0),(2,pt 1 0),(3,(pt 2 0)),(4,(pt 3 0)),(5,(pt 4 0)),(6,(pt 5 0))]) (hT 6 [(oC [(Cv n0 q0)]),(oC [Sl.v 1 s1]),(oC [zI z1]),(oC [Sl.v 1 s2]),(oC [(.func (.func 40) ⟨[]⟩ ⟨[pt 1 0,(pt 2 0),(pt 3 0),(pt 4 0),(pt 5 0)]⟩)])]) (FJ tt 1 5 [] v):=by
 unfold MH at hm
 refine .join (v:=v) (fun y:Sl×Int×Nat×LV×Sl×Int×Sl=>((fr 88 [(0,(Sl.v 1 y.1)),(1,(zI y.2.1)),(2,pt 1 0),(3,(pt 2 0)),(4,(pt 3 0)),(5,(pt 4 0)),(6,(pt 5 0))]),(hT 6 [(oC [(Cv y.2.2.1 y.2.2.2.1)]),(oC [(Sl.v 1 y.2.2.2.2.1)]),(oC [(zI y.2.2.2.2.2.1)]),(oC [(Sl.v 1 y.2.2.2.2.2.2)]),(oC [(.func (.func 40) ⟨[]⟩ ⟨[pt 1 0,(pt 2 0),(pt 3 0),(pt 4 0),(pt 5 0)]⟩)])]))) (fun y=>FK pu n y.1 y.2.1 y.2.2.1 y.2.2.2.1 y.2.2.2.2.1 y.2.2.2.2.2.1 y.2.2.2.2.2.2) ?_ ?_
 ·rintro⟨s3,z2,n1,q1,s4,z3,s5⟩ hm
  exact Yp pu n s3 z2 n1 q1 s4 z3 s5 hm
 ·refine .block (.loopM (v:=v) (fun y:Sl×Int×Nat×LV×Sl×Int×Sl=>((fr 88 [(0,(Sl.v 1 y.1)),(1,(zI y.2.1)),(2,pt 1 0),(3,(pt 2 0)),(4,(pt 3 0)),(5,(pt 4 0)),(6,(pt 5 0))]),(hT 6 [(oC [(Cv y.2.2.1 y.2.2.2.1)]),(oC [(Sl.v 1 y.2.2.2.2.1)]),(oC [(zI y.2.2.2.2.2.1)]),(oC [(Sl.v 1 y.2.2.2.2.2.2)]),(oC [(.func (.func 40) ⟨[]⟩ ⟨[pt 1 0,(pt 2 0),(pt 3 0),(pt 4 0),(pt 5 0)]⟩)])]))) (fun w y=>FL pu n w y.1 y.2.1 y.2.2.1 y.2.2.2.1 y.2.2.2.2.1 y.2.2.2.2.2.1 y.2.2.2.2.2.2) n ⟨(s0,z0,n0,q0,s1,z1,s2),hm,(.k0 [false,false,false,false,false,true] [] [0,1,2,3,4,5,6])⟩ (fun _=>rfl) ?_)
  rintro w0 ⟨s6,z4,n2,q2,s7,z5,s8⟩ hm
  replace hm:Gu pu n (FL pu n w0) s6 z4 n2 q2 s7 z5 s8=some v:=hm
  unfold Gu at hm
  refine .then (.then ?_)
  replace hm:=X4 hm;obtain⟨s9,h0,hm⟩:=hm
  refine .reg (eC 5 (keep (hT 6 [(oC [(Cv n2 q2)]),(oC [Sl.v 1 s7]),(oC [zI z5]),(oC [Sl.v 1 s8]),(oC [(.func (.func 40) ⟨[]⟩ ⟨[pt 1 0,(pt 2 0),(pt 3 0),(pt 4 0),(pt 5 0)]⟩)])]) (AL q2 ((n2+0)+3))) (AZ h0) (eE)) ?_
  refine .ghs (fr 88 [(0,Sl.v 1 s6),(1,zI z4),(2,pt 1 0),(3,(pt 2 0)),(4,(pt 3 0)),(5,(pt 4 0)),(6,(pt 5 0)),(19,(zB (AY z4 (Int.ofNat (Sl.n s9)))))]) (hT 6 [(oC [(Cv n2 q2)]),(oC [Sl.v 1 s7]),(oC [zI z5]),(oC [Sl.v 1 s8]),(oC [(.func (.func 40) ⟨[]⟩ ⟨[pt 1 0,(pt 2 0),(pt 3 0),(pt 4 0),(pt 5 0)]⟩)])]) (.k0 [false,false,false,false,false,true] [] [0,1,2,3,4,5,6,19]) ?_
  replace hm:=Ag hm;rcases hm with⟨h1,hm⟩ | ⟨h1,hm⟩
  ·refine BI (AY z4 (Int.ofNat (Sl.n s9))) h1 ?_
   refine .skip (.ghs (fr 88 [(0,Sl.v 1 s6),(1,zI z4),(2,pt 1 0),(3,(pt 2 0)),(4,(pt 3 0)),(5,(pt 4 0)),(6,(pt 5 0))]) (hT 6 [(oC [(Cv n2 q2)]),(oC [Sl.v 1 s7]),(oC [zI z5]),(oC [Sl.v 1 s8]),(oC [(.func (.func 40) ⟨[]⟩ ⟨[pt 1 0,(pt 2 0),(pt 3 0),(pt 4 0),(pt 5 0)]⟩)])]) (.k0 [false,false,false,false,false,true] [] [0,1,2,3,4,5,6]) ?_)
   refine .block (.then ?_)
   replace hm:=Gp hm;obtain⟨x0,h2,hm⟩:=hm
   refine .reg (eC 3 ((oo (pu 36 [(Cv n2 q2),Sl.v 1 s7,zI z4]) none fun v=>some (v,(hT 6 [(oC [(Cv n2 q2)]),(oC [Sl.v 1 s7]),(oC [zI z5]),(oC [Sl.v 1 s8]),(oC [(.func (.func 40) ⟨[]⟩ ⟨[pt 1 0,(pt 2 0),(pt 3 0),(pt 4 0),(pt 5 0)]⟩)])])))) (AB h2) (eE)) ?_
   refine .ghs (fr 88 [(0,Sl.v 1 s6),(1,zI z4),(2,pt 1 0),(3,(pt 2 0)),(4,(pt 3 0)),(5,(pt 4 0)),(6,(pt 5 0)),(9,(pt 6 0))]) (hT 7 [(oC [(Cv n2 q2)]),(oC [Sl.v 1 s7]),(oC [zI z5]),(oC [Sl.v 1 s8]),(oC [(.func (.func 40) ⟨[]⟩ ⟨[pt 1 0,(pt 2 0),(pt 3 0),(pt 4 0),(pt 5 0)]⟩)]),(oC [.int .u16 x0])]) (.k0 [false,false,false,false,false,true] [.tmp 9 false] [0,1,2,3,4,5,6,9]) ?_
   refine .then (.join (v:=v) (fun y:Sl×Int×Bool×Nat×LV×Sl×Int×Sl=>((fr 88 [(0,(Sl.v 1 y.1)),(1,(zI y.2.1)),(2,pt 1 0),(3,(pt 2 0)),(4,(pt 3 0)),(5,(pt 4 0)),(6,(pt 5 0)),(31,(zB y.2.2.1))]),(hT 6 [(oC [(Cv y.2.2.2.1 y.2.2.2.2.1)]),(oC [(Sl.v 1 y.2.2.2.2.2.1)]),(oC [(zI y.2.2.2.2.2.2.1)]),(oC [(Sl.v 1 y.2.2.2.2.2.2.2)]),(oC [(.func (.func 40) ⟨[]⟩ ⟨[pt 1 0,(pt 2 0),(pt 3 0),(pt 4 0),(pt 5 0)]⟩)])]))) (fun y=>HY pu n (FL pu n w0) y.1 y.2.1 y.2.2.1 y.2.2.2.1 y.2.2.2.2.1 y.2.2.2.2.2.1 y.2.2.2.2.2.2.1 y.2.2.2.2.2.2.2) ?_ ?_)
   ·rintro⟨s10,z6,b0,n3,q3,s11,z7,s12⟩ hm
    unfold HY at hm
    replace hm:=Ag hm;rcases hm with⟨h3,hm⟩ | ⟨h3,hm⟩
    ·refine .ifT b0 (by kernel_rfl) h3 ?_
     refine .exit ?_
     exact⟨(s10,z6,n3,q3,s11,z7,s12),hm,(.k0 [false,false,false,false,false,true] [] [0,1,2,3,4,5,6])⟩
    ·refine .ifF b0 (by kernel_rfl) h3 ?_
     refine .skip (.ghs (fr 88 [(0,Sl.v 1 s10),(1,zI z6),(2,pt 1 0),(3,(pt 2 0)),(4,(pt 3 0)),(5,(pt 4 0)),(6,(pt 5 0))]) (hT 6 [(oC [(Cv n3 q3)]),(oC [Sl.v 1 s11]),(oC [zI z7]),(oC [Sl.v 1 s12]),(oC [(.func (.func 40) ⟨[]⟩ ⟨[pt 1 0,(pt 2 0),(pt 3 0),(pt 4 0),(pt 5 0)]⟩)])]) (.k0 [false,false,false,false,false,true] [] [0,1,2,3,4,5,6]) ?_)
     refine .rK ?_
     exact⟨(s10,(Aj .i64 (Int.add z6 (1:Int))),n3,q3,s11,z7,s12),hm,(.k0 [false,false,false,false,false,true] [] [0,1,2,3,4,5,6])⟩
   ·replace hm:=Ag hm;rcases hm with⟨h4,hm⟩ | ⟨h4,hm⟩
    ·replace hm:=Ab hm;obtain⟨v0,h5,hm⟩:=hm
     replace hm:=Ch hm;obtain⟨l0,rfl,hm⟩:=hm
     replace hm:=Ad hm;obtain⟨v1,l13579_0,rfl,hm⟩:=hm
     replace hm:=Ad hm;obtain⟨v2,l13579_1,rfl,hm⟩:=hm
     replace hm:=AC hm;obtain⟨rfl,hm⟩:=hm
     replace hm:=Be hm;obtain⟨b1,rfl,hm⟩:=hm
     replace hm:=BG hm;obtain⟨l1,rfl,hm⟩:=hm
     replace hm:=Ad hm;obtain⟨v3,l13585_0,rfl,hm⟩:=hm
     replace hm:=AC hm;obtain⟨rfl,hm⟩:=hm
     replace hm:=Ai hm;obtain⟨x1,rfl,hm⟩:=hm
     refine .reg (eC 1 (some ((zB (nt (Bd x0 (0:Int)))),(hT 7 [(oC [(Cv n2 q2)]),(oC [Sl.v 1 s7]),(oC [zI z5]),(oC [Sl.v 1 s8]),(oC [(.func (.func 40) ⟨[]⟩ ⟨[pt 1 0,(pt 2 0),(pt 3 0),(pt 4 0),(pt 5 0)]⟩)]),(oC [.int .u16 x0])]))) (show _=some ((zB true),_) from (by rw[show (nt (Bd x0 (0:Int)))=true from h4])) (eC 3 (EK tabs [[some 1],[none]] 2 [.cap 1 0 false] [false] (pu 10410) [Sl.v 1 s6,(.func (.func 42) ⟨[]⟩ ⟨[(pt 6 0)]⟩)] (hT 7 [(oC [(Cv n2 q2)]),(oC [Sl.v 1 s7]),(oC [zI z5]),(oC [Sl.v 1 s8]),(oC [(.func (.func 40) ⟨[]⟩ ⟨[pt 1 0,(pt 2 0),(pt 3 0),(pt 4 0),(pt 5 0)]⟩)]),(oC [.int .u16 x0])])) (EL (as:=[Sl.v 1 s6,(.func (.func 42) ⟨[]⟩ ⟨[(pt 6 0)]⟩)]) (H1:=(hT 7 [(oC [(Cv n2 q2)]),(oC [Sl.v 1 s7]),(oC [zI z5]),(oC [Sl.v 1 s8]),(oC [(.func (.func 40) ⟨[]⟩ ⟨[pt 1 0,(pt 2 0),(pt 3 0),(pt 4 0),(pt 5 0)]⟩)]),(oC [.int .u16 x0])])) (BS (Dm (KQ (CV (z:=1) (v:=(Sl.v 1 s6)) (H:=(hT 7 [(oC [(Cv n2 q2)]),(oC [Sl.v 1 s7]),(oC [zI z5]),(oC [Sl.v 1 s8]),(oC [(.func (.func 40) ⟨[]⟩ ⟨[pt 1 0,(pt 2 0),(pt 3 0),(pt 4 0),(pt 5 0)]⟩)]),(oC [.int .u16 x0])])) (by kernel_rfl) (by kernel_rfl) (by kernel_rfl)))) (BS (Dm Dk) Gj)) (EI (H2:=(hT 7 [(oC [(Cv n2 q2)]),(oC [Sl.v 1 s7]),(oC [zI z5]),(oC [Sl.v 1 s8]),(oC [(.func (.func 40) ⟨[]⟩ ⟨[pt 1 0,(pt 2 0),(pt 3 0),(pt 4 0),(pt 5 0)]⟩)]),(oC [.int .u16 x1])])) (v:=(zB b1)) (v':=(zB b1)) [some 0,some 6] [(false,some 6)] [(oC [.int .u16 x0])] [Sl.v 1 s6,(.func (.func 42) ⟨[]⟩ ⟨[pt 1 0]⟩)] [(.agg ⟨[.int .u16 x1]⟩)] [(oC [.int .u16 x1])] [some 0,none,none,none,none,none,some 1] [(false,(oC [.int .u16 x1]))] [(oC [.int .u16 x1])] (by kernel_rfl) (En (by kernel_rfl) BX) (Eq.trans (by kernel_rfl) h5) (En rfl BX) (En (by kernel_rfl) BX))) (eE))) ?_
     exact⟨(s6,z4,(nt b1),n2,q2,s7,z5,s8),hm,(.k0 [false,false,false,false,false,true] [] [0,1,2,3,4,5,6,31])⟩
    ·refine .reg (eC 1 (some ((zB (nt (Bd x0 (0:Int)))),(hT 7 [(oC [(Cv n2 q2)]),(oC [Sl.v 1 s7]),(oC [zI z5]),(oC [Sl.v 1 s8]),(oC [(.func (.func 40) ⟨[]⟩ ⟨[pt 1 0,(pt 2 0),(pt 3 0),(pt 4 0),(pt 5 0)]⟩)]),(oC [.int .u16 x0])]))) (show _=some ((zB false),_) from (by rw[show (nt (Bd x0 (0:Int)))=false from h4])) (eE)) ?_
     exact⟨(s6,z4,false,n2,q2,s7,z5,s8),hm,(.k0 [false,false,false,false,false,true] [] [0,1,2,3,4,5,6,31])⟩
  ·refine BO (AY z4 (Int.ofNat (Sl.n s9))) h1 ?_
   refine .exit ?_
   exact⟨(s6,z4,n2,q2,s7,z5,s8),hm,(.k0 [false,false,false,false,false,true] [] [0,1,2,3,4,5,6])⟩
theorem uB {call:A8} (pu:Af) (n:Nat) (hcall:call=Bb tabs isP pu (inl pu)) {args:LV} {os:List AJ} {z:Value} (ha:args.length=7) (hk:os.length=5) (hpl:∀ o∈os,plainO o) (hm:Kb pu n (args++os.map Ef)=some z):args.length≤88∧BN tt call (tabs.length+5) MU (Fr.made 88 args) (BK tabs os) (FJ tt tabs.length 5 [] z):=by
 subst hcall
 have hq:=BC ha;clear ha;obtain⟨a0,args,rfl,ha⟩:=hq
 have hq:=BC ha;clear ha;obtain⟨a1,args,rfl,ha⟩:=hq
 have hq:=BC ha;clear ha;obtain⟨a2,args,rfl,ha⟩:=hq
 have hq:=BC ha;clear ha;obtain⟨a3,args,rfl,ha⟩:=hq
 have hq:=BC ha;clear ha;obtain⟨a4,args,rfl,ha⟩:=hq
 have hq:=BC ha;clear ha;obtain⟨a5,args,rfl,ha⟩:=hq
 have hq:=BC ha;clear ha;obtain⟨a6,args,rfl,ha⟩:=hq
 obtain rfl:=len_nil ha
 have hq:=BC hk;clear hk;obtain⟨b0,os,rfl,hk⟩:=hq
 have hp0:plainO b0:=hpl b0 (by simp)
 have hq:=BC hk;clear hk;obtain⟨b1,os,rfl,hk⟩:=hq
 have hp1:plainO b1:=hpl b1 (by simp)
 have hq:=BC hk;clear hk;obtain⟨b2,os,rfl,hk⟩:=hq
 have hp2:plainO b2:=hpl b2 (by simp)
 have hq:=BC hk;clear hk;obtain⟨b3,os,rfl,hk⟩:=hq
 have hp3:plainO b3:=hpl b3 (by simp)
 have hq:=BC hk;clear hk;obtain⟨b4,os,rfl,hk⟩:=hq
 have hp4:plainO b4:=hpl b4 (by simp)
 obtain rfl:=len_nil hk
 replace hm:Kb pu n [a0,a1,a2,a3,a4,a5,a6,Ef b0,Ef b1,Ef b2,Ef b3,Ef b4]=some z:=hm
 unfold Kb at hm
 replace hm:(oo (Bj 1 a0) none fun s0=>(oo (Bi .i64 a1) none fun x0=>(bb (MK a2 1 0) (bb (MK a3 2 0) (bb (MK a4 3 0) (bb (MK a5 4 0) (bb (MK a6 5 0) (oo (Bt (Ef b0)) none fun l0=>(ll l0 none fun v0 l0=>(ll l0 (oo (Pv v0) none fun p0=>(oo (Bt (Ef b1)) none fun l1=>(ll l1 none fun v1 l1=>(ll l1 (oo (Bj 1 v1) none fun s1=>(oo (Bt (Ef b2)) none fun l2=>(ll l2 none fun v2 l2=>(ll l2 (oo (Bi .i64 v2) none fun x1=>(oo (Bt (Ef b3)) none fun l3=>(ll l3 none fun v3 l3=>(ll l3 (oo (Bj 1 v3) none fun s2=>(oo (Bt (Ef b4)) none fun l4=>(ll l4 none fun v4 l4=>(ll l4 (oo (Om 40 0 v4) none fun l5=>(ll l5 none fun v5 l5=>(ll l5 none fun v6 l5=>(ll l5 none fun v7 l5=>(ll l5 none fun v8 l5=>(ll l5 none fun v9 l5=>(ll l5 (bb (MK v5 1 0) (bb (MK v6 2 0) (bb (MK v7 3 0) (bb (MK v8 4 0) (bb (MK v9 5 0) (MH pu n s0 x0 (Db.off p0) (Db.cs p0) s1 x1 s2) none) none) none) none) none) fun _ _=>none))))))) fun _ _=>none)))) fun _ _=>none)))) fun _ _=>none)))) fun _ _=>none)))) fun _ _=>none))) none) none) none) none) none)))=some z:=hm
 replace hm:=Al hm;obtain⟨s0,rfl,hm⟩:=hm
 replace hm:=Ai hm;obtain⟨x0,rfl,hm⟩:=hm
 replace hm:=Ae hm;obtain⟨h0,hm⟩:=hm
 obtain rfl:=KR h0
 replace hm:=Ae hm;obtain⟨h1,hm⟩:=hm
 obtain rfl:=KR h1
 replace hm:=Ae hm;obtain⟨h2,hm⟩:=hm
 obtain rfl:=KR h2
 replace hm:=Ae hm;obtain⟨h3,hm⟩:=hm
 obtain rfl:=KR h3
 replace hm:=Ae hm;obtain⟨h4,hm⟩:=hm
 obtain rfl:=KR h4
 replace hm:=Ab hm;obtain⟨l0,h5,hm⟩:=hm
 obtain rfl:=I7 hp0 h5
 replace hm:=Ad hm;obtain⟨v0,l13599_0,rfl,hm⟩:=hm
 replace hm:=AC hm;obtain⟨rfl,hm⟩:=hm
 replace hm:=Ab hm;obtain⟨p0,h6,hm⟩:=hm
 obtain rfl:=F7 h6
 replace hm:=Ab hm;obtain⟨l1,h7,hm⟩:=hm
 obtain rfl:=I7 hp1 h7
 replace hm:=Ad hm;obtain⟨v1,l13604_0,rfl,hm⟩:=hm
 replace hm:=AC hm;obtain⟨rfl,hm⟩:=hm
 replace hm:=Al hm;obtain⟨s1,rfl,hm⟩:=hm
 replace hm:=Ab hm;obtain⟨l2,h8,hm⟩:=hm
 obtain rfl:=I7 hp2 h8
 replace hm:=Ad hm;obtain⟨v2,l13609_0,rfl,hm⟩:=hm
 replace hm:=AC hm;obtain⟨rfl,hm⟩:=hm
 replace hm:=Ai hm;obtain⟨x1,rfl,hm⟩:=hm
 replace hm:=Ab hm;obtain⟨l3,h9,hm⟩:=hm
 obtain rfl:=I7 hp3 h9
 replace hm:=Ad hm;obtain⟨v3,l13614_0,rfl,hm⟩:=hm
 replace hm:=AC hm;obtain⟨rfl,hm⟩:=hm
 replace hm:=Al hm;obtain⟨s2,rfl,hm⟩:=hm
 replace hm:=Ab hm;obtain⟨l4,h10,hm⟩:=hm
 obtain rfl:=I7 hp4 h10
 replace hm:=Ad hm;obtain⟨v4,l13619_0,rfl,hm⟩:=hm
 replace hm:=AC hm;obtain⟨rfl,hm⟩:=hm
 replace hm:=Ab hm;obtain⟨l5,h11,hm⟩:=hm
 obtain rfl:=Hu h11
 replace hm:=Ad hm;obtain⟨v5,l13622_0,rfl,hm⟩:=hm
 replace hm:=Ad hm;obtain⟨v6,l13622_1,rfl,hm⟩:=hm
 replace hm:=Ad hm;obtain⟨v7,l13622_2,rfl,hm⟩:=hm
 replace hm:=Ad hm;obtain⟨v8,l13622_3,rfl,hm⟩:=hm
 replace hm:=Ad hm;obtain⟨v9,l13622_4,rfl,hm⟩:=hm
 replace hm:=AC hm;obtain⟨rfl,hm⟩:=hm
 replace hm:=Ae hm;obtain⟨h12,hm⟩:=hm
 obtain rfl:=KR h12
 replace hm:=Ae hm;obtain⟨h13,hm⟩:=hm
 obtain rfl:=KR h13
 replace hm:=Ae hm;obtain⟨h14,hm⟩:=hm
 obtain rfl:=KR h14
 replace hm:=Ae hm;obtain⟨h15,hm⟩:=hm
 obtain rfl:=KR h15
 replace hm:=Ae hm;obtain⟨h16,hm⟩:=hm
 obtain rfl:=KR h16
 refine⟨by simp,?_⟩
 exact .same (F':=(fr 88 [(0,Sl.v 1 s0),(1,zI x0),(2,pt 1 0),(3,(pt 2 0)),(4,(pt 3 0)),(5,(pt 4 0)),(6,(pt 5 0))])) (H':=(hT 6 [(oC [(Cv (Db.off p0) (Db.cs p0))]),(oC [Sl.v 1 s1]),(oC [zI x1]),(oC [Sl.v 1 s2]),(oC [(.func (.func 40) ⟨[]⟩ ⟨[pt 1 0,(pt 2 0),(pt 3 0),(pt 4 0),(pt 5 0)]⟩)])])) (by kernel_rfl) (by kernel_rfl) (QC pu n s0 x0 (Db.off p0) (Db.cs p0) s1 x1 s2 hm)
end
end Go.BkSM
