/- Made from wip. -/
import Derived.Test.YtokbaaeimejjlaaDoorBkOMod0x

set_option maxRecDepth 100000
set_option maxHeartbeats 20000000
set_option linter.unusedVariables false
namespace Go.BkOM
open Go.Sp Go.BkO
noncomputable section

def AeD (pu:Af) (n:Nat) (x0:Int):OV:=
 (bb (Bd x0 (4:Int)) (some (.agg ⟨[(.int .i64 (0:Int)),(.bool true)]⟩)) (bb (Bd x0 (5:Int)) (some (.agg ⟨[(.int .i64 (2:Int)),(.bool true)]⟩)) (bb (Bd x0 (6:Int)) (some (.agg ⟨[(.int .i64 (1:Int)),(.bool true)]⟩)) (bb (Bd x0 (7:Int)) (some (.agg ⟨[(.int .i64 (3:Int)),(.bool true)]⟩)) (some (.agg ⟨[.int .i64 x0,(.bool false)]⟩))))))
def m51 (pu:Af) (n:Nat) (args:LV):OV:=
 (ll args none fun a0 args=>(ll args (oo (Bi .i64 a0) none fun x0=>(AeD pu n x0)) fun _ _=>none))
theorem r51 {call:A8} (pu:Af) (n:Nat) (hcall:call=Bb tabs isP pu (inl pu)) {args:LV} {v:Value} (hm:m51 pu n args=some v) (_:∀ x∈args,closed2 x=true):args.length≤18∧BN tt call 1 Sj (Fr.made 18 args) (Ao tabs) (Fin tt 1 [.cell 2 86] v):=by
 subst hcall
 unfold m51 at hm
 replace hm:=Ad hm;obtain⟨a0,args_0,rfl,hm⟩:=hm
 replace hm:=AC hm;obtain⟨rfl,hm⟩:=hm
 replace hm:=Ai hm;obtain⟨x0,rfl,hm⟩:=hm
 unfold AeD at hm
 refine⟨by simp,?_⟩
 refine .same (F':=(fr 18 [(0,zI x0)])) (H':=Ay) (by kernel_rfl) (by kernel_rfl) ?_
 refine .then (.rK (.ghs (fr 18 [(0,zI x0),(2,pt 1 0)]) (hT 2 [(oC [(zI (0:Int)),zB false])]) (.k0 [false] [.tmp 2 false] [0,2]) ?_))
 refine .then (.then (.rK (.ghs (fr 18 [(0,zI x0),(2,pt 1 0),(3,zI x0)]) (hT 2 [(oC [(zI (0:Int)),zB false])]) (.k0 [false] [.tmp 2 false] [0,2,3]) ?_)))
 refine .block (.then (.rK (.ghs (fr 18 [(0,zI x0),(2,pt 1 0),(3,zI x0),(4,(zB (Bd x0 (4:Int))))]) (hT 2 [(oC [(zI (0:Int)),zB false])]) (.k0 [false] [.tmp 2 false] [0,2,3,4]) ?_)))
 replace hm:=Ag hm;rcases hm with⟨h0,hm⟩ | ⟨h0,hm⟩
 ·refine BI (Bd x0 (4:Int)) h0 ?_
  refine .then (.rK (.ghs (fr 18 [(2,pt 1 0)]) (hT 2 [(oC [(zI (0:Int)),zB true])]) (.k0 [false] [.tmp 2 false] [2]) ?_))
  refine .ret ?_
  exact AO (.agg ⟨[(zI (0:Int)),zB true]⟩) hm
 ·refine BO (Bd x0 (4:Int)) h0 ?_
  refine .then (.rK (.ghs (fr 18 [(0,zI x0),(2,pt 1 0),(3,zI x0),(7,(zB (Bd x0 (5:Int))))]) (hT 2 [(oC [(zI (0:Int)),zB false])]) (.k0 [false] [.tmp 2 false] [0,2,3,7]) ?_))
  replace hm:=Ag hm;rcases hm with⟨h1,hm⟩ | ⟨h1,hm⟩
  ·refine BI (Bd x0 (5:Int)) h1 ?_
   refine .then (.rK (.ghs (fr 18 [(2,pt 1 0)]) (hT 2 [(oC [(zI (2:Int)),zB true])]) (.k0 [false] [.tmp 2 false] [2]) ?_))
   refine .ret ?_
   exact AO (.agg ⟨[(zI (2:Int)),zB true]⟩) hm
  ·refine BO (Bd x0 (5:Int)) h1 ?_
   refine .then (.rK (.ghs (fr 18 [(0,zI x0),(2,pt 1 0),(3,zI x0),(10,(zB (Bd x0 (6:Int))))]) (hT 2 [(oC [(zI (0:Int)),zB false])]) (.k0 [false] [.tmp 2 false] [0,2,3,10]) ?_))
   replace hm:=Ag hm;rcases hm with⟨h2,hm⟩ | ⟨h2,hm⟩
   ·refine BI (Bd x0 (6:Int)) h2 ?_
    refine .then (.rK (.ghs (fr 18 [(2,pt 1 0)]) (hT 2 [(oC [(zI (1:Int)),zB true])]) (.k0 [false] [.tmp 2 false] [2]) ?_))
    refine .ret ?_
    exact AO (.agg ⟨[(zI (1:Int)),zB true]⟩) hm
   ·refine BO (Bd x0 (6:Int)) h2 ?_
    refine .then (.rK (.ghs (fr 18 [(0,zI x0),(2,pt 1 0),(13,(zB (Bd x0 (7:Int))))]) (hT 2 [(oC [(zI (0:Int)),zB false])]) (.k0 [false] [.tmp 2 false] [0,2,13]) ?_))
    replace hm:=Ag hm;rcases hm with⟨h3,hm⟩ | ⟨h3,hm⟩
    ·refine BI (Bd x0 (7:Int)) h3 ?_
     refine .then (.rK (.ghs (fr 18 [(2,pt 1 0)]) (hT 2 [(oC [(zI (3:Int)),zB true])]) (.k0 [false] [.tmp 2 false] [2]) ?_))
     refine .ret ?_
     exact AO (.agg ⟨[(zI (3:Int)),zB true]⟩) hm
    ·refine BO (Bd x0 (7:Int)) h3 ?_
     refine .skip (.ghs (fr 18 [(0,zI x0),(2,pt 1 0)]) (hT 2 [(oC [(zI (0:Int)),zB false])]) (.k0 [false] [.tmp 2 false] [0,2]) ?_)
     refine .then (.rK (.ghs (fr 18 [(2,pt 1 0)]) (hT 2 [(oC [zI x0,zB false])]) (.k0 [false] [.tmp 2 false] [2]) ?_))
     refine .ret ?_
     exact AO (.agg ⟨[zI x0,zB false]⟩) hm
def Uw (pu:Af) (n:Nat) (z0:Int) (b0:Bool) (z1:Int) (b1:Bool) (z2:Int) (b2:Bool):OV:=
 (some (.agg ⟨[(.int .i64 (Aj .i64 (Int.add z0 z1))),(.bool (bq false (bq b0 b1)))]⟩))
def AeE (pu:Af) (n:Nat) (x0:Int) (b0:Bool) (x1:Int) (b1:Bool):OV:=
 (bb b0 (Uw pu n x0 b0 (Aj .i64 (Int.sub (.ofNat 0) x1)) b1 (0:Int) false) (Uw pu n x0 b0 x1 b1 (0:Int) false))
def m52 (pu:Af) (n:Nat) (args:LV):OV:=
 (ll args none fun a0 args=>(ll args none fun a1 args=>(ll args (oo (Bt a0) none fun l0=>(ll l0 none fun v0 l0=>(ll l0 none fun v1 l0=>(ll l0 (oo (Bi .i64 v0) none fun x0=>(oo (Bf v1) none fun b0=>(oo (Bt a1) none fun l1=>(ll l1 none fun v2 l1=>(ll l1 none fun v3 l1=>(ll l1 (oo (Bi .i64 v2) none fun x1=>(oo (Bf v3) none fun b1=>(AeE pu n x0 b0 x1 b1))) fun _ _=>none)))))) fun _ _=>none)))) fun _ _=>none)))
theorem AeF (pu:Af) (n:Nat) (z0:Int) (b0:Bool) (z1:Int) (b1:Bool) (z2:Int) (b2:Bool) {v:Value} (hm:Uw pu n z0 b0 z1 b1 z2 b2=some v):BN tt (Bb tabs isP pu (inl pu)) 1 iJ (fr 22 [(2,pt 1 0),(3,(pt 2 0)),(4,(pt 3 0))]) (hT 4 [(oC [zI z0,zB b0]),(oC [zI z1,zB b1]),(oC [zI z2,zB b2])]) (Fin tt 1 [.cell 4 86] v):=by
 unfold Uw at hm
 refine .then (.rK (.ghs (fr 22 [(4,pt 1 0)]) (hT 2 [(oC [(zI (Aj .i64 (Int.add z0 z1))),(zB (bq false (bq b0 b1)))])]) (.k0 [false] [.tmp 4 false] [4]) ?_))
 refine .ret ?_
 exact AO (.agg ⟨[(zI (Aj .i64 (Int.add z0 z1))),(zB (bq false (bq b0 b1)))]⟩) hm
theorem r52 {call:A8} (pu:Af) (n:Nat) (hcall:call=Bb tabs isP pu (inl pu)) {args:LV} {v:Value} (hm:m52 pu n args=some v) (_:∀ x∈args,closed2 x=true):args.length≤22∧BN tt call 1 WE (Fr.made 22 args) (Ao tabs) (Fin tt 1 [.cell 4 86] v):=by
 subst hcall
 unfold m52 at hm
 replace hm:=Ad hm;obtain⟨a0,args_0,rfl,hm⟩:=hm
 replace hm:=Ad hm;obtain⟨a1,args_1,rfl,hm⟩:=hm
 replace hm:=AC hm;obtain⟨rfl,hm⟩:=hm
 replace hm:=BG hm;obtain⟨l0,rfl,hm⟩:=hm
 replace hm:=Ad hm;obtain⟨v0,l25091_0,rfl,hm⟩:=hm
 replace hm:=Ad hm;obtain⟨v1,l25091_1,rfl,hm⟩:=hm
 replace hm:=AC hm;obtain⟨rfl,hm⟩:=hm
 replace hm:=Ai hm;obtain⟨x0,rfl,hm⟩:=hm
 replace hm:=Be hm;obtain⟨b0,rfl,hm⟩:=hm
 replace hm:=BG hm;obtain⟨l1,rfl,hm⟩:=hm
 replace hm:=Ad hm;obtain⟨v2,l25099_0,rfl,hm⟩:=hm
 replace hm:=Ad hm;obtain⟨v3,l25099_1,rfl,hm⟩:=hm
 replace hm:=AC hm;obtain⟨rfl,hm⟩:=hm
 replace hm:=Ai hm;obtain⟨x1,rfl,hm⟩:=hm
 replace hm:=Be hm;obtain⟨b1,rfl,hm⟩:=hm
 unfold AeE at hm
 refine⟨by simp,?_⟩
 refine .same (F':=(fr 22 [(0,(.agg ⟨[zI x0,zB b0]⟩)),(1,(.agg ⟨[zI x1,zB b1]⟩))])) (H':=Ay) (by kernel_rfl) (by kernel_rfl) ?_
 refine .then (.rK (.ghs (fr 22 [(2,pt 1 0),(3,(pt 2 0)),(4,(pt 3 0))]) (hT 4 [(oC [zI x0,zB b0]),(oC [zI x1,zB b1]),(oC [(zI (0:Int)),zB false])]) (.k0 [false] [.tmp 2 false,.tmp 3 false,.tmp 4 false] [2,3,4]) ?_))
 refine .join (v:=v) (fun y:Int×Bool×Int×Bool×Int×Bool=>((fr 22 [(2,pt 1 0),(3,(pt 2 0)),(4,(pt 3 0))]),(hT 4 [(oC [(zI y.1),(zB y.2.1)]),(oC [(zI y.2.2.1),(zB y.2.2.2.1)]),(oC [(zI y.2.2.2.2.1),(zB y.2.2.2.2.2)])]))) (fun y=>Uw pu n y.1 y.2.1 y.2.2.1 y.2.2.2.1 y.2.2.2.2.1 y.2.2.2.2.2) ?_ ?_
 ·rintro⟨z0,b2,z1,b4,z2,b5⟩ hm
  exact AeF pu n z0 b2 z1 b4 z2 b5 hm
 ·refine .then (.rK (.ghs (fr 22 [(2,pt 1 0),(3,(pt 2 0)),(4,(pt 3 0)),(6,zB b0)]) (hT 4 [(oC [zI x0,zB b0]),(oC [zI x1,zB b1]),(oC [(zI (0:Int)),zB false])]) (.k0 [false] [.tmp 2 false,.tmp 3 false,.tmp 4 false] [2,3,4,6]) ?_))
  replace hm:=Ag hm;rcases hm with⟨h0,hm⟩ | ⟨h0,hm⟩
  ·refine .ifT b0 (by kernel_rfl) h0 ?_
   refine .rK ?_
   exact⟨(x0,b0,(Aj .i64 (Int.sub (.ofNat 0) x1)),b1,(0:Int),false),hm,(.k0 [false] [.tmp 2 false,.tmp 3 false,.tmp 4 false] [2,3,4])⟩
  ·refine .ifF b0 (by kernel_rfl) h0 ?_
   refine .skip ?_
   exact⟨(x0,b0,x1,b1,(0:Int),false),hm,(.k0 [false] [.tmp 2 false,.tmp 3 false,.tmp 4 false] [2,3,4])⟩

def AeG (pu:Af) (n:Nat) (x0:Int) (b0:Bool):OV:=
 (bb (nt b0) (some (.int .i64 (Int.tmod (Aj .i64 (Int.add x0 (4:Int))) (4:Int)))) (bb (Bd (Int.tmod (Aj .i64 (Int.add x0 (4:Int))) (4:Int)) (0:Int)) (some (.int .i64 (4:Int))) (bb (Bd (Int.tmod (Aj .i64 (Int.add x0 (4:Int))) (4:Int)) (1:Int)) (some (.int .i64 (6:Int))) (bb (Bd (Int.tmod (Aj .i64 (Int.add x0 (4:Int))) (4:Int)) (2:Int)) (some (.int .i64 (5:Int))) (some (.int .i64 (7:Int)))))))
def m53 (pu:Af) (n:Nat) (args:LV):OV:=
 (ll args none fun a0 args=>(ll args (oo (Bt a0) none fun l0=>(ll l0 none fun v0 l0=>(ll l0 none fun v1 l0=>(ll l0 (oo (Bi .i64 v0) none fun x0=>(oo (Bf v1) none fun b0=>(AeG pu n x0 b0))) fun _ _=>none)))) fun _ _=>none))
theorem r53 {call:A8} (pu:Af) (n:Nat) (hcall:call=Bb tabs isP pu (inl pu)) {args:LV} {v:Value} (hm:m53 pu n args=some v) (_:∀ x∈args,closed2 x=true):args.length≤22∧BN tt call 1 Sk (Fr.made 22 args) (Ao tabs) (Fin tt 1 [.tmp 2] v):=by
 subst hcall
 unfold m53 at hm
 replace hm:=Ad hm;obtain⟨a0,args_0,rfl,hm⟩:=hm
 replace hm:=AC hm;obtain⟨rfl,hm⟩:=hm
 replace hm:=BG hm;obtain⟨l0,rfl,hm⟩:=hm
 replace hm:=Ad hm;obtain⟨v0,l25116_0,rfl,hm⟩:=hm
 replace hm:=Ad hm;obtain⟨v1,l25116_1,rfl,hm⟩:=hm
 replace hm:=AC hm;obtain⟨rfl,hm⟩:=hm
 replace hm:=Ai hm;obtain⟨x0,rfl,hm⟩:=hm
 replace hm:=Be hm;obtain⟨b0,rfl,hm⟩:=hm
 unfold AeG at hm
 refine⟨by simp,?_⟩
 refine .same (F':=(fr 22 [(0,(.agg ⟨[zI x0,zB b0]⟩))])) (H':=Ay) (by kernel_rfl) (by kernel_rfl) ?_
 refine .then (.rK (.ghs (fr 22 [(1,pt 1 0)]) (hT 2 [(oC [zI x0,zB b0])]) (.k0 [false] [.tmp 1 false] [1]) ?_))
 refine .then (.rK (.ghs (fr 22 [(1,pt 1 0),(3,(zI (Int.tmod (Aj .i64 (Int.add x0 (4:Int))) (4:Int))))]) (hT 2 [(oC [zI x0,zB b0])]) (.k0 [false] [.tmp 1 false] [1,3]) ?_))
 refine .then (.block (.then (.rK (.ghs (fr 22 [(3,(zI (Int.tmod (Aj .i64 (Int.add x0 (4:Int))) (4:Int)))),(8,(zB (nt b0)))]) Ay (.k0 [false] [] [3,8]) ?_))))
 replace hm:=Ag hm;rcases hm with⟨h0,hm⟩ | ⟨h0,hm⟩
 ·refine BI (nt b0) h0 ?_
  refine .then (.rK (.ghs (fr 22 [(2,(zI (Int.tmod (Aj .i64 (Int.add x0 (4:Int))) (4:Int))))]) Ay (.k0 [false] [] [2]) ?_))
  refine .ret ?_
  exact AO (zI (Int.tmod (Aj .i64 (Int.add x0 (4:Int))) (4:Int))) hm
 ·refine BO (nt b0) h0 ?_
  refine .then (.rK (.ghs (fr 22 [(3,(zI (Int.tmod (Aj .i64 (Int.add x0 (4:Int))) (4:Int)))),(13,(zB (Bd (Int.tmod (Aj .i64 (Int.add x0 (4:Int))) (4:Int)) (0:Int))))]) Ay (.k0 [false] [] [3,13]) ?_))
  replace hm:=Ag hm;rcases hm with⟨h1,hm⟩ | ⟨h1,hm⟩
  ·refine BI (Bd (Int.tmod (Aj .i64 (Int.add x0 (4:Int))) (4:Int)) (0:Int)) h1 ?_
   refine .then (.rK (.ghs (fr 22 [(2,(zI (4:Int)))]) Ay (.k0 [false] [] [2]) ?_))
   refine .ret ?_
   exact AO (zI (4:Int)) hm
  ·refine BO (Bd (Int.tmod (Aj .i64 (Int.add x0 (4:Int))) (4:Int)) (0:Int)) h1 ?_
   refine .then (.rK (.ghs (fr 22 [(3,(zI (Int.tmod (Aj .i64 (Int.add x0 (4:Int))) (4:Int)))),(16,(zB (Bd (Int.tmod (Aj .i64 (Int.add x0 (4:Int))) (4:Int)) (1:Int))))]) Ay (.k0 [false] [] [3,16]) ?_))
   replace hm:=Ag hm;rcases hm with⟨h2,hm⟩ | ⟨h2,hm⟩
   ·refine BI (Bd (Int.tmod (Aj .i64 (Int.add x0 (4:Int))) (4:Int)) (1:Int)) h2 ?_
    refine .then (.rK (.ghs (fr 22 [(2,(zI (6:Int)))]) Ay (.k0 [false] [] [2]) ?_))
    refine .ret ?_
    exact AO (zI (6:Int)) hm
   ·refine BO (Bd (Int.tmod (Aj .i64 (Int.add x0 (4:Int))) (4:Int)) (1:Int)) h2 ?_
    refine .then (.rK (.ghs (fr 22 [(19,(zB (Bd (Int.tmod (Aj .i64 (Int.add x0 (4:Int))) (4:Int)) (2:Int))))]) Ay (.k0 [false] [] [19]) ?_))
    replace hm:=Ag hm;rcases hm with⟨h3,hm⟩ | ⟨h3,hm⟩
    ·refine BI (Bd (Int.tmod (Aj .i64 (Int.add x0 (4:Int))) (4:Int)) (2:Int)) h3 ?_
     refine .then (.rK (.ghs (fr 22 [(2,(zI (5:Int)))]) Ay (.k0 [false] [] [2]) ?_))
     refine .ret ?_
     exact AO (zI (5:Int)) hm
    ·refine BO (Bd (Int.tmod (Aj .i64 (Int.add x0 (4:Int))) (4:Int)) (2:Int)) h3 ?_
     refine .skip (.ghs (fr 22 []) Ay (.k0 [false] [] []) ?_)
     refine .then (.rK (.ghs (fr 22 [(2,(zI (7:Int)))]) Ay (.k0 [false] [] [2]) ?_))
     refine .ret ?_
     exact AO (zI (7:Int)) hm
def WZ (pu:Af) (n:Nat) (b0:Bool):OV:=
 (bb b0 (some (.int .i64 (1:Int))) (some (.int .i64 (0:Int))))
def AeH (pu:Af) (n:Nat) (p0:Db) (s0:Sl):OV:=
 (oo (AL (Db.cs p0) (((Db.off p0)+0)+0)) none fun v0=>(oo (Bi .i64 v0) none fun x0=>(oo (AL (Db.cs p0) (((Db.off p0)+0)+1)) none fun v1=>(oo (Bi .i64 v1) none fun x1=>(bb (nt (Bd (Int.ofNat (Sl.n s0)) (Aj .i64 (Int.mul x0 x1)))) (some (.int .i64 (5:Int))) (oo (pu 68 [Sl.v 1 s0]) none fun v2=>(oo (Bi .i64 v2) none fun x2=>(bb (AY x2 (0:Int)) (WZ pu n true) (oo (AL (Db.cs p0) (((Db.off p0)+0)+2)) none fun v3=>(oo (Bi .i64 v3) none fun x3=>(oo (pu 69 [Sl.v 1 s0]) none fun v4=>(oo (Bi .i64 v4) none fun x4=>(WZ pu n (nt (AY x4 x3)))))))))))))))
def m58 (pu:Af) (n:Nat) (args:LV):OV:=
 (ll args none fun a0 args=>(ll args none fun a1 args=>(ll args (oo (Pv a0) none fun p0=>(oo (Bj 1 a1) none fun s0=>(AeH pu n p0 s0))) fun _ _=>none)))
theorem r58 {call:A8} (pu:Af) (n:Nat) (hcall:call=Bb tabs isP pu (inl pu)) {args:LV} {v:Value} (hm:m58 pu n args=some v) (_:∀ x∈args,closed2 x=true):args.length≤34∧BN tt call 1 Sm (Fr.made 34 args) (Ao tabs) (Fin tt 1 [.tmp 4] v):=by
 subst hcall
 unfold m58 at hm
 replace hm:=Ad hm;obtain⟨a0,args_0,rfl,hm⟩:=hm
 replace hm:=Ad hm;obtain⟨a1,args_1,rfl,hm⟩:=hm
 replace hm:=AC hm;obtain⟨rfl,hm⟩:=hm
 replace hm:=Ab hm;obtain⟨p0,h0,hm⟩:=hm
 obtain rfl:=F7 h0
 replace hm:=Al hm;obtain⟨s0,rfl,hm⟩:=hm
 unfold AeH at hm
 refine⟨by simp,?_⟩
 refine .same (F':=(fr 34 [(0,(Cv (Db.off p0) (Db.cs p0))),(1,Sl.v 1 s0)])) (H':=Ay) (by kernel_rfl) (by kernel_rfl) ?_
 refine .then (.rK (.ghs (fr 34 [(0,(Cv (Db.off p0) (Db.cs p0))),(1,Sl.v 1 s0)]) Ay (.k0 [false] [] [0,1]) ?_))
 refine .then (.block (.then ?_))
 replace hm:=oI hm;obtain⟨x0,h1,hm⟩:=hm
 replace hm:=oI hm;obtain⟨x1,h2,hm⟩:=hm
 refine .reg (eC 6 (keep Ay (AL (Db.cs p0) (((Db.off p0)+0)+0))) (AZ h1) (eC 4 (keep Ay (AL (Db.cs p0) (((Db.off p0)+0)+1))) (AZ h2) (eE))) ?_
 refine .ghs (fr 34 [(0,(Cv (Db.off p0) (Db.cs p0))),(1,Sl.v 1 s0),(5,(zB (nt (Bd (Int.ofNat (Sl.n s0)) (Aj .i64 (Int.mul x0 x1))))))]) Ay (.k0 [false] [] [0,1,5]) ?_
 replace hm:=Ag hm;rcases hm with⟨h3,hm⟩ | ⟨h3,hm⟩
 ·refine BI (nt (Bd (Int.ofNat (Sl.n s0)) (Aj .i64 (Int.mul x0 x1)))) h3 ?_
  refine .then (.rK (.ghs (fr 34 [(4,(zI (5:Int)))]) Ay (.k0 [false] [] [4]) ?_))
  refine .ret ?_
  exact AO (zI (5:Int)) hm
 ·refine BO (nt (Bd (Int.ofNat (Sl.n s0)) (Aj .i64 (Int.mul x0 x1)))) h3 ?_
  refine .join (v:=v) (fun y:Bool=>((fr 34 [(20,zB y)]),Ay)) (fun y=>WZ pu n y) ?_ ?_
  ·rintro b0 hm
   unfold WZ at hm
   replace hm:=Ag hm;rcases hm with⟨h4,hm⟩ | ⟨h4,hm⟩
   ·refine .ifT b0 (by kernel_rfl) h4 ?_
    refine .then (.rK (.ghs (fr 34 [(4,(zI (1:Int)))]) Ay (.k0 [false] [] [4]) ?_))
    refine .ret ?_
    exact AO (zI (1:Int)) hm
   ·refine .ifF b0 (by kernel_rfl) h4 ?_
    refine .skip (.ghs (fr 34 []) Ay (.k0 [false] [] []) ?_)
    refine .then (.rK (.ghs (fr 34 [(4,(zI (0:Int)))]) Ay (.k0 [false] [] [4]) ?_))
    refine .ret ?_
    exact AO (zI (0:Int)) hm
  ·replace hm:=oI hm;obtain⟨x2,h5,hm⟩:=hm
   replace hm:=Ag hm;rcases hm with⟨h6,hm⟩ | ⟨h6,hm⟩
   ·refine .reg (eC 1 ((oo (pu 68 [Sl.v 1 s0]) none fun v=>some (v,Ay))) (AB h5) (eD (some ((zB (AY x2 (0:Int))),Ay)) (show _=some ((zB true),_) from (by rw[show (AY x2 (0:Int))=true from h6])) (eE))) ?_
    exact⟨true,hm,(.k0 [false] [] [20])⟩
   ·replace hm:=oI hm;obtain⟨x3,h7,hm⟩:=hm
    replace hm:=oI hm;obtain⟨x4,h8,hm⟩:=hm
    refine .reg (eC 1 ((oo (pu 68 [Sl.v 1 s0]) none fun v=>some (v,Ay))) (AB h5) (eD (some ((zB (AY x2 (0:Int))),Ay)) (show _=some ((zB false),_) from (by rw[show (AY x2 (0:Int))=false from h6])) (eC 6 (keep Ay (AL (Db.cs p0) (((Db.off p0)+0)+2))) (AZ h7) (eD ((oo (pu 69 [Sl.v 1 s0]) none fun v=>some (v,Ay))) (AB h8) (eE))))) ?_
    exact⟨(nt (AY x4 x3)),hm,(.k0 [false] [] [20])⟩

def yJ (pu:Af) (n:Nat) (x0 x1:Int):OV:=
 (oo (pu 74 [.int .i64 x0]) none fun v0=>(oo (Bf v0) none fun b0=>(oo (pu 74 [.int .i64 x1]) none fun v1=>(oo (Bf v1) none fun b1=>(bb b0 (bb b1 (some (.int .i64 (0:Int))) (some (.int .i64 (-1:Int)))) (bb b1 (some (.int .i64 (1:Int))) (bb (AY x0 x1) (some (.int .i64 (-1:Int))) (bb (AY x1 x0) (some (.int .i64 (1:Int))) (some (.int .i64 (0:Int)))))))))))
def m65 (pu:Af) (n:Nat) (args:LV):OV:=
 (ll args none fun a0 args=>(ll args none fun a1 args=>(ll args (oo (Bi .i64 a0) none fun x0=>(oo (Bi .i64 a1) none fun x1=>(yJ pu n x0 x1))) fun _ _=>none)))
theorem r65 {call:A8} (pu:Af) (n:Nat) (hcall:call=Bb tabs isP pu (inl pu)) {args:LV} {v:Value} (hm:m65 pu n args=some v) (_:∀ x∈args,closed2 x=true):args.length≤20∧BN tt call 1 Sn (Fr.made 20 args) (Ao tabs) (Fin tt 1 [.tmp 4] v):=by
 subst hcall
 unfold m65 at hm
 replace hm:=Ad hm;obtain⟨a0,args_0,rfl,hm⟩:=hm
 replace hm:=Ad hm;obtain⟨a1,args_1,rfl,hm⟩:=hm
 replace hm:=AC hm;obtain⟨rfl,hm⟩:=hm
 replace hm:=Ai hm;obtain⟨x0,rfl,hm⟩:=hm
 replace hm:=Ai hm;obtain⟨x1,rfl,hm⟩:=hm
 unfold yJ at hm
 refine⟨by simp,?_⟩
 refine .same (F':=(fr 20 [(0,zI x0),(1,zI x1)])) (H':=Ay) (by kernel_rfl) (by kernel_rfl) ?_
 refine .then (.rK (.ghs (fr 20 [(0,zI x0),(1,zI x1)]) Ay (.k0 [false] [] [0,1]) ?_))
 refine .then ?_
 replace hm:=oB hm;obtain⟨b0,h0,hm⟩:=hm
 refine .reg (eC 1 ((oo (pu 74 [zI x0]) none fun v=>some (v,Ay))) (AB h0) (eE)) ?_
 refine .ghs (fr 20 [(0,zI x0),(1,zI x1),(5,zB b0)]) Ay (.k0 [false] [] [0,1,5]) ?_
 refine .then ?_
 replace hm:=oB hm;obtain⟨b1,h1,hm⟩:=hm
 refine .reg (eC 1 ((oo (pu 74 [zI x1]) none fun v=>some (v,Ay))) (AB h1) (eE)) ?_
 refine .ghs (fr 20 [(0,zI x0),(1,zI x1),(5,zB b0),(6,zB b1)]) Ay (.k0 [false] [] [0,1,5,6]) ?_
 refine .then (.then (.rK (.ghs (fr 20 [(0,zI x0),(1,zI x1),(6,zB b1),(11,zB b0)]) Ay (.k0 [false] [] [0,1,6,11]) ?_)))
 replace hm:=Ag hm;rcases hm with⟨h2,hm⟩ | ⟨h2,hm⟩
 ·refine .ifT b0 (by kernel_rfl) h2 ?_
  refine .then (.then (.rK (.ghs (fr 20 [(12,zB b1)]) Ay (.k0 [false] [] [12]) ?_)))
  replace hm:=Ag hm;rcases hm with⟨h3,hm⟩ | ⟨h3,hm⟩
  ·refine .ifT b1 (by kernel_rfl) h3 ?_
   refine .then (.rK (.ghs (fr 20 [(4,(zI (0:Int)))]) Ay (.k0 [false] [] [4]) ?_))
   refine .ret ?_
   exact AO (zI (0:Int)) hm
  ·refine .ifF b1 (by kernel_rfl) h3 ?_
   refine .skip (.ghs (fr 20 []) Ay (.k0 [false] [] []) ?_)
   refine .then (.rK (.ghs (fr 20 [(4,(zI (-1:Int)))]) Ay (.k0 [false] [] [4]) ?_))
   refine .ret ?_
   exact AO (zI (-1:Int)) hm
 ·refine .ifF b0 (by kernel_rfl) h2 ?_
  refine .skip (.ghs (fr 20 [(0,zI x0),(1,zI x1),(6,zB b1)]) Ay (.k0 [false] [] [0,1,6]) ?_)
  refine .then (.then (.rK (.ghs (fr 20 [(0,zI x0),(1,zI x1),(13,zB b1)]) Ay (.k0 [false] [] [0,1,13]) ?_)))
  replace hm:=Ag hm;rcases hm with⟨h4,hm⟩ | ⟨h4,hm⟩
  ·refine .ifT b1 (by kernel_rfl) h4 ?_
   refine .then (.rK (.ghs (fr 20 [(4,(zI (1:Int)))]) Ay (.k0 [false] [] [4]) ?_))
   refine .ret ?_
   exact AO (zI (1:Int)) hm
  ·refine .ifF b1 (by kernel_rfl) h4 ?_
   refine .skip (.ghs (fr 20 [(0,zI x0),(1,zI x1)]) Ay (.k0 [false] [] [0,1]) ?_)
   refine .then (.then (.rK (.ghs (fr 20 [(0,zI x0),(1,zI x1),(16,(zB (AY x0 x1)))]) Ay (.k0 [false] [] [0,1,16]) ?_)))
   replace hm:=Ag hm;rcases hm with⟨h5,hm⟩ | ⟨h5,hm⟩
   ·refine BI (AY x0 x1) h5 ?_
    refine .then (.rK (.ghs (fr 20 [(4,(zI (-1:Int)))]) Ay (.k0 [false] [] [4]) ?_))
    refine .ret ?_
    exact AO (zI (-1:Int)) hm
   ·refine BO (AY x0 x1) h5 ?_
    refine .skip (.ghs (fr 20 [(0,zI x0),(1,zI x1)]) Ay (.k0 [false] [] [0,1]) ?_)
    refine .then (.then (.rK (.ghs (fr 20 [(19,(zB (AY x1 x0)))]) Ay (.k0 [false] [] [19]) ?_)))
    replace hm:=Ag hm;rcases hm with⟨h6,hm⟩ | ⟨h6,hm⟩
    ·refine BI (AY x1 x0) h6 ?_
     refine .then (.rK (.ghs (fr 20 [(4,(zI (1:Int)))]) Ay (.k0 [false] [] [4]) ?_))
     refine .ret ?_
     exact AO (zI (1:Int)) hm
    ·refine BO (AY x1 x0) h6 ?_
     refine .skip (.ghs (fr 20 []) Ay (.k0 [false] [] []) ?_)
     refine .then (.rK (.ghs (fr 20 [(4,(zI (0:Int)))]) Ay (.k0 [false] [] [4]) ?_))
     refine .ret ?_
     exact AO (zI (0:Int)) hm
def W9 (pu:Af) (n:Nat) (z0:Int):OV:=
 (some (.int .i64 z0))
def Pe (pu:Af) (n:Nat) (ih0:Sl→Int→Int→OV) (s0:Sl) (z0 z1:Int):OV:=
 (bb (AY z1 (Int.ofNat (Sl.n s0))) (oo (EA z1) none fun k1=>(bb (an (Nat.blt k1 (Sl.n s0)) true) (oo (AL (Sl.cs s0) (k1*1)) none fun v0=>(oo (Bi .i64 v0) none fun x0=>(ih0 s0 (bb (AY x0 z0) x0 z0) (Aj .i64 (Int.add (Int.ofNat k1) (1:Int)))))) none)) (W9 pu n z0))
def Ov (pu:Af) (n w:Nat):Sl→Int→Int→OV:=
 Nat.rec (motive:=fun _=>Sl→Int→Int→OV) (fun _ _ _=>none) (fun _ ih0=>Pe pu n ih0) w
def Xa (pu:Af) (n:Nat) (s0:Sl):OV:=
 (bb (an (Nat.blt 0 (Sl.n s0)) true) (oo (AL (Sl.cs s0) (0*1)) none fun v0=>(oo (Bi .i64 v0) none fun x0=>(Ov pu n n s0 x0 (1:Int)))) none)
def AeJ (pu:Af) (n:Nat) (s0:Sl):OV:=
 (bb (AY (Int.ofNat (Sl.n s0)) (1:Int)) none (Xa pu n s0))
def m68 (pu:Af) (n:Nat) (args:LV):OV:=
 (ll args none fun a0 args=>(ll args (oo (Bj 1 a0) none fun s0=>(AeJ pu n s0)) fun _ _=>none))
theorem AeL (pu:Af) (n:Nat) (z0:Int) {v:Value} (hm:W9 pu n z0=some v):BN tt (Bb tabs isP pu (inl pu)) 1 Zw (fr 25 [(3,zI z0)]) Ay (Fin tt 1 [.tmp 2] v):=by
 unfold W9 at hm
 refine .then (.rK (.ghs (fr 25 [(2,zI z0)]) Ay (.k0 [false] [] [2]) ?_))
 refine .ret ?_
 exact AO (zI z0) hm
theorem AeM (pu:Af) (n:Nat) (s0:Sl) {v:Value} (hm:Xa pu n s0=some v):BN tt (Bb tabs isP pu (inl pu)) 1 Zx (fr 25 [(0,Sl.v 1 s0)]) Ay (Fin tt 1 [.tmp 2] v):=by
 unfold Xa at hm
 refine .then ?_
 replace hm:=Ae hm;obtain⟨h0,hm⟩:=hm
 replace hm:=oI hm;obtain⟨x0,h1,hm⟩:=hm
 refine .reg (eC 1 (keep Ay (bb (an (Nat.blt 0 (Sl.n s0)) true) (some (Cv (0*1) (Sl.cs s0))) none)) (AX h0) (eD (keep Ay (AL (Sl.cs s0) (0*1))) (AZ h1) (eE))) ?_
 refine .ghs (fr 25 [(0,Sl.v 1 s0),(3,zI x0)]) Ay (.k0 [false] [] [0,3]) ?_
 refine .join (v:=v) (fun y:Int=>((fr 25 [(3,zI y)]),Ay)) (fun y=>W9 pu n y) ?_ ?_
 ·rintro z0 hm
  exact AeL pu n z0 hm
 ·refine .then (.rK (.ghs (fr 25 [(0,Sl.v 1 s0),(3,zI x0),(4,(zI (1:Int)))]) Ay (.k0 [false] [] [0,3,4]) ?_))
  refine .block (.loopM (v:=v) (fun y:Sl×Int×Int=>((fr 25 [(0,(Sl.v 1 y.1)),(3,(zI y.2.1)),(4,(zI y.2.2))]),Ay)) (fun w y=>Ov pu n w y.1 y.2.1 y.2.2) n ⟨(s0,x0,(1:Int)),hm,(.k0 [false] [] [0,3,4])⟩ (fun _=>rfl) ?_)
  rintro w0 ⟨s1,z1,z2⟩ hm
  replace hm:Pe pu n (Ov pu n w0) s1 z1 z2=some v:=hm
  unfold Pe at hm
  refine .then (.then (.rK (.ghs (fr 25 [(0,Sl.v 1 s1),(3,zI z1),(4,zI z2),(15,(zB (AY z2 (Int.ofNat (Sl.n s1)))))]) Ay (.k0 [false] [] [0,3,4,15]) ?_)))
  replace hm:=Ag hm;rcases hm with⟨h2,hm⟩ | ⟨h2,hm⟩
  ·refine BI (AY z2 (Int.ofNat (Sl.n s1))) h2 ?_
   refine .skip (.ghs (fr 25 [(0,Sl.v 1 s1),(3,zI z1),(4,zI z2)]) Ay (.k0 [false] [] [0,3,4]) ?_)
   refine .then (.block ?_)
   replace hm:=Ab hm;obtain⟨k1,h3,hm⟩:=hm
   obtain rfl:=AR h3
   replace hm:=Ae hm;obtain⟨h4,hm⟩:=hm
   replace hm:=oI hm;obtain⟨x1,h5,hm⟩:=hm
   refine .reg (eC 3 (keep Ay (bb (an (Nat.blt k1 (Sl.n s1)) true) (some (Cv (k1*1) (Sl.cs s1))) none)) (AX h4) (eD (keep Ay (AL (Sl.cs s1) (k1*1))) (AZ h5) (eE))) ?_
   refine .ghs (fr 25 [(0,Sl.v 1 s1),(3,(zI (bb (AY x1 z1) x1 z1))),(4,(zI (Int.ofNat k1)))]) Ay (.k0 [false] [] [0,3,4]) ?_
   refine .rK ?_
   exact⟨(s1,(bb (AY x1 z1) x1 z1),(Aj .i64 (Int.add (Int.ofNat k1) (1:Int)))),hm,(.k0 [false] [] [0,3,4])⟩
  ·refine BO (AY z2 (Int.ofNat (Sl.n s1))) h2 ?_
   refine .exit ?_
   exact⟨z1,hm,(.k0 [false] [] [3])⟩
theorem r68 {call:A8} (pu:Af) (n:Nat) (hcall:call=Bb tabs isP pu (inl pu)) {args:LV} {v:Value} (hm:m68 pu n args=some v) (_:∀ x∈args,closed2 x=true):args.length≤25∧BN tt call 1 Sq (Fr.made 25 args) (Ao tabs) (Fin tt 1 [.tmp 2] v):=by
 subst hcall
 unfold m68 at hm
 replace hm:=Ad hm;obtain⟨a0,args_0,rfl,hm⟩:=hm
 replace hm:=AC hm;obtain⟨rfl,hm⟩:=hm
 replace hm:=Al hm;obtain⟨s0,rfl,hm⟩:=hm
 unfold AeJ at hm
 refine⟨by simp,?_⟩
 refine .same (F':=(fr 25 [(0,Sl.v 1 s0)])) (H':=Ay) (by kernel_rfl) (by kernel_rfl) ?_
 refine .then (.rK (.ghs (fr 25 [(0,Sl.v 1 s0)]) Ay (.k0 [false] [] [0]) ?_))
 refine .join (v:=v) (fun y:Sl=>((fr 25 [(0,Sl.v 1 y)]),Ay)) (fun y=>Xa pu n y) ?_ ?_
 ·rintro s1 hm
  exact AeM pu n s1 hm
 ·refine .then (.rK (.ghs (fr 25 [(0,Sl.v 1 s0),(7,(zB (AY (Int.ofNat (Sl.n s0)) (1:Int))))]) Ay (.k0 [false] [] [0,7]) ?_))
  replace hm:=Ag hm;rcases hm with⟨h0,hm⟩ | ⟨h0,hm⟩
  ·refine BI (AY (Int.ofNat (Sl.n s0)) (1:Int)) h0 ?_
   cases hm
  ·refine BO (AY (Int.ofNat (Sl.n s0)) (1:Int)) h0 ?_
   refine .skip ?_
   exact⟨s0,hm,(.k0 [false] [] [0])⟩
def Xb (pu:Af) (n:Nat) (z0:Int):OV:=
 (some (.int .i64 z0))
def Pf (pu:Af) (n:Nat) (ih0:Sl→Int→Int→OV) (s0:Sl) (z0 z1:Int):OV:=
 (bb (AY z1 (Int.ofNat (Sl.n s0))) (oo (EA z1) none fun k1=>(bb (an (Nat.blt k1 (Sl.n s0)) true) (oo (AL (Sl.cs s0) (k1*1)) none fun v0=>(oo (Bi .i64 v0) none fun x0=>(ih0 s0 (bb (AY z0 x0) x0 z0) (Aj .i64 (Int.add (Int.ofNat k1) (1:Int)))))) none)) (Xb pu n z0))
def Ow (pu:Af) (n w:Nat):Sl→Int→Int→OV:=
 Nat.rec (motive:=fun _=>Sl→Int→Int→OV) (fun _ _ _=>none) (fun _ ih0=>Pf pu n ih0) w
def Xc (pu:Af) (n:Nat) (s0:Sl):OV:=
 (bb (an (Nat.blt 0 (Sl.n s0)) true) (oo (AL (Sl.cs s0) (0*1)) none fun v0=>(oo (Bi .i64 v0) none fun x0=>(Ow pu n n s0 x0 (1:Int)))) none)
def AeN (pu:Af) (n:Nat) (s0:Sl):OV:=
 (bb (AY (Int.ofNat (Sl.n s0)) (1:Int)) none (Xc pu n s0))
def m69 (pu:Af) (n:Nat) (args:LV):OV:=
 (ll args none fun a0 args=>(ll args (oo (Bj 1 a0) none fun s0=>(AeN pu n s0)) fun _ _=>none))
theorem AeP (pu:Af) (n:Nat) (z0:Int) {v:Value} (hm:Xb pu n z0=some v):BN tt (Bb tabs isP pu (inl pu)) 1 Zy (fr 25 [(3,zI z0)]) Ay (Fin tt 1 [.tmp 2] v):=by
 unfold Xb at hm
 refine .then (.rK (.ghs (fr 25 [(2,zI z0)]) Ay (.k0 [false] [] [2]) ?_))
 refine .ret ?_
 exact AO (zI z0) hm
theorem AeQ (pu:Af) (n:Nat) (s0:Sl) {v:Value} (hm:Xc pu n s0=some v):BN tt (Bb tabs isP pu (inl pu)) 1 Zz (fr 25 [(0,Sl.v 1 s0)]) Ay (Fin tt 1 [.tmp 2] v):=by
 unfold Xc at hm
 refine .then ?_
 replace hm:=Ae hm;obtain⟨h0,hm⟩:=hm
 replace hm:=oI hm;obtain⟨x0,h1,hm⟩:=hm
 refine .reg (eC 1 (keep Ay (bb (an (Nat.blt 0 (Sl.n s0)) true) (some (Cv (0*1) (Sl.cs s0))) none)) (AX h0) (eD (keep Ay (AL (Sl.cs s0) (0*1))) (AZ h1) (eE))) ?_
 refine .ghs (fr 25 [(0,Sl.v 1 s0),(3,zI x0)]) Ay (.k0 [false] [] [0,3]) ?_
 refine .join (v:=v) (fun y:Int=>((fr 25 [(3,zI y)]),Ay)) (fun y=>Xb pu n y) ?_ ?_
 ·rintro z0 hm
  exact AeP pu n z0 hm
 ·refine .then (.rK (.ghs (fr 25 [(0,Sl.v 1 s0),(3,zI x0),(4,(zI (1:Int)))]) Ay (.k0 [false] [] [0,3,4]) ?_))
  refine .block (.loopM (v:=v) (fun y:Sl×Int×Int=>((fr 25 [(0,(Sl.v 1 y.1)),(3,(zI y.2.1)),(4,(zI y.2.2))]),Ay)) (fun w y=>Ow pu n w y.1 y.2.1 y.2.2) n ⟨(s0,x0,(1:Int)),hm,(.k0 [false] [] [0,3,4])⟩ (fun _=>rfl) ?_)
  rintro w0 ⟨s1,z1,z2⟩ hm
  replace hm:Pf pu n (Ow pu n w0) s1 z1 z2=some v:=hm
  unfold Pf at hm
  refine .then (.then (.rK (.ghs (fr 25 [(0,Sl.v 1 s1),(3,zI z1),(4,zI z2),(15,(zB (AY z2 (Int.ofNat (Sl.n s1)))))]) Ay (.k0 [false] [] [0,3,4,15]) ?_)))
  replace hm:=Ag hm;rcases hm with⟨h2,hm⟩ | ⟨h2,hm⟩
  ·refine BI (AY z2 (Int.ofNat (Sl.n s1))) h2 ?_
   refine .skip (.ghs (fr 25 [(0,Sl.v 1 s1),(3,zI z1),(4,zI z2)]) Ay (.k0 [false] [] [0,3,4]) ?_)
   refine .then (.block ?_)
   replace hm:=Ab hm;obtain⟨k1,h3,hm⟩:=hm
   obtain rfl:=AR h3
   replace hm:=Ae hm;obtain⟨h4,hm⟩:=hm
   replace hm:=oI hm;obtain⟨x1,h5,hm⟩:=hm
   refine .reg (eC 3 (keep Ay (bb (an (Nat.blt k1 (Sl.n s1)) true) (some (Cv (k1*1) (Sl.cs s1))) none)) (AX h4) (eD (keep Ay (AL (Sl.cs s1) (k1*1))) (AZ h5) (eE))) ?_
   refine .ghs (fr 25 [(0,Sl.v 1 s1),(3,(zI (bb (AY z1 x1) x1 z1))),(4,(zI (Int.ofNat k1)))]) Ay (.k0 [false] [] [0,3,4]) ?_
   refine .rK ?_
   exact⟨(s1,(bb (AY z1 x1) x1 z1),(Aj .i64 (Int.add (Int.ofNat k1) (1:Int)))),hm,(.k0 [false] [] [0,3,4])⟩
  ·refine BO (AY z2 (Int.ofNat (Sl.n s1))) h2 ?_
   refine .exit ?_
   exact⟨z1,hm,(.k0 [false] [] [3])⟩
theorem r69 {call:A8} (pu:Af) (n:Nat) (hcall:call=Bb tabs isP pu (inl pu)) {args:LV} {v:Value} (hm:m69 pu n args=some v) (_:∀ x∈args,closed2 x=true):args.length≤25∧BN tt call 1 Sr (Fr.made 25 args) (Ao tabs) (Fin tt 1 [.tmp 2] v):=by
 subst hcall
 unfold m69 at hm
 replace hm:=Ad hm;obtain⟨a0,args_0,rfl,hm⟩:=hm
 replace hm:=AC hm;obtain⟨rfl,hm⟩:=hm
 replace hm:=Al hm;obtain⟨s0,rfl,hm⟩:=hm
 unfold AeN at hm
 refine⟨by simp,?_⟩
 refine .same (F':=(fr 25 [(0,Sl.v 1 s0)])) (H':=Ay) (by kernel_rfl) (by kernel_rfl) ?_
 refine .then (.rK (.ghs (fr 25 [(0,Sl.v 1 s0)]) Ay (.k0 [false] [] [0]) ?_))
 refine .join (v:=v) (fun y:Sl=>((fr 25 [(0,Sl.v 1 y)]),Ay)) (fun y=>Xc pu n y) ?_ ?_
 ·rintro s1 hm
  exact AeQ pu n s1 hm
 ·refine .then (.rK (.ghs (fr 25 [(0,Sl.v 1 s0),(7,(zB (AY (Int.ofNat (Sl.n s0)) (1:Int))))]) Ay (.k0 [false] [] [0,7]) ?_))
  replace hm:=Ag hm;rcases hm with⟨h0,hm⟩ | ⟨h0,hm⟩
  ·refine BI (AY (Int.ofNat (Sl.n s0)) (1:Int)) h0 ?_
   cases hm
  ·refine BO (AY (Int.ofNat (Sl.n s0)) (1:Int)) h0 ?_
   refine .skip ?_
   exact⟨s0,hm,(.k0 [false] [] [0])⟩

def AeR (pu:Af) (n:Nat) (x0:Int):OV:=
 (oo (pu 87 [.int .u64 x0]) none fun v0=>(oo (Bi .i64 v0) none fun x1=>(some (.int .i64 x1))))
def m71 (pu:Af) (n:Nat) (args:LV):OV:=
 (ll args none fun a0 args=>(ll args (oo (Bi .u64 a0) none fun x0=>(AeR pu n x0)) fun _ _=>none))
theorem r71 {call:A8} (pu:Af) (n:Nat) (hcall:call=Bb tabs isP pu (inl pu)) {args:LV} {v:Value} (hm:m71 pu n args=some v) (_:∀ x∈args,closed2 x=true):args.length≤8∧BN tt call 1 WF (Fr.made 8 args) (Ao tabs) (Fin tt 1 [.tmp 2] v):=by
 subst hcall
 unfold m71 at hm
 replace hm:=Ad hm;obtain⟨a0,args_0,rfl,hm⟩:=hm
 replace hm:=AC hm;obtain⟨rfl,hm⟩:=hm
 replace hm:=Ai hm;obtain⟨x0,rfl,hm⟩:=hm
 unfold AeR at hm
 refine⟨by simp,?_⟩
 refine .same (F':=(fr 8 [(0,(zU x0))])) (H':=Ay) (by kernel_rfl) (by kernel_rfl) ?_
 refine .then (.rK (.ghs (fr 8 [(0,(zU x0))]) Ay (.k0 [false] [] [0]) ?_))
 refine .then (.condF (by kernel_rfl) ?_)
 refine .skip (.ghs (fr 8 [(0,(zU x0))]) Ay (.k0 [false] [] [0]) ?_)
 refine .then ?_
 replace hm:=oI hm;obtain⟨x1,h0,hm⟩:=hm
 refine .reg (eC 1 ((oo (pu 87 [(zU x0)]) none fun v=>some (v,Ay))) (AB h0) (eE)) ?_
 refine .ghs (fr 8 [(2,zI x1)]) Ay (.k0 [false] [] [2]) ?_
 refine .ret ?_
 exact AO (zI x1) hm

def AeS (pu:Af) (n:Nat) (x0:Int):OV:=
 (some (.bool (nt (Bd x0 x0))))
def m74 (pu:Af) (n:Nat) (args:LV):OV:=
 (ll args none fun a0 args=>(ll args (oo (Bi .i64 a0) none fun x0=>(AeS pu n x0)) fun _ _=>none))
theorem r74 {call:A8} (pu:Af) (n:Nat) (hcall:call=Bb tabs isP pu (inl pu)) {args:LV} {v:Value} (hm:m74 pu n args=some v) (_:∀ x∈args,closed2 x=true):args.length≤6∧BN tt call 1 WG (Fr.made 6 args) (Ao tabs) (Fin tt 1 [.tmp 2] v):=by
 subst hcall
 unfold m74 at hm
 replace hm:=Ad hm;obtain⟨a0,args_0,rfl,hm⟩:=hm
 replace hm:=AC hm;obtain⟨rfl,hm⟩:=hm
 replace hm:=Ai hm;obtain⟨x0,rfl,hm⟩:=hm
 unfold AeS at hm
 refine⟨by simp,?_⟩
 refine .same (F':=(fr 6 [(0,zI x0)])) (H':=Ay) (by kernel_rfl) (by kernel_rfl) ?_
 refine .then (.rK (.ghs (fr 6 [(0,zI x0)]) Ay (.k0 [false] [] [0]) ?_))
 refine .then (.rK (.ghs (fr 6 [(2,(zB (nt (Bd x0 x0))))]) Ay (.k0 [false] [] [2]) ?_))
 refine .ret ?_
 exact AO (zB (nt (Bd x0 x0))) hm
def Ux (pu:Af) (n:Nat) (z0 z1:Int):OV:=
 (oo (EA (Aj .u8 z0)) none fun k1=>(oo (AdV[k1]?) none fun c0=>(some (.int .i64 (Aj .i64 (Int.add z1 (Aj .i64 (Int.ofNat (UInt8.toNat c0)))))))))
def Uy (pu:Af) (n:Nat) (z0 z1:Int):OV:=
 (bb (nt (AY z0 (256:Int))) (Ux pu n (G6 .u64 z0 8) (Aj .i64 (Int.add z1 (8:Int)))) (Ux pu n z0 z1))
def Uz (pu:Af) (n:Nat) (z0 z1:Int):OV:=
 (bb (nt (AY z0 (65536:Int))) (Uy pu n (G6 .u64 z0 16) (Aj .i64 (Int.add z1 (16:Int)))) (Uy pu n z0 z1))
def AeU (pu:Af) (n:Nat) (x0:Int):OV:=
 (bb (nt (AY x0 (4294967296:Int))) (Uz pu n (G6 .u64 x0 32) (32:Int)) (Uz pu n x0 (0:Int)))
def m87 (pu:Af) (n:Nat) (args:LV):OV:=
 (ll args none fun a0 args=>(ll args (oo (Bi .u64 a0) none fun x0=>(AeU pu n x0)) fun _ _=>none))
theorem AeV (pu:Af) (n:Nat) (z0 z1:Int) {v:Value} (hm:Ux pu n z0 z1=some v):BN tt (Bb tabs isP pu (inl pu)) 1 ZA (fr 25 [(0,(zU z0)),(2,zI z1)]) Ay (Fin tt 1 [.tmp 2] v):=by
 unfold Ux at hm
 refine .then ?_
 replace hm:=Ab hm;obtain⟨k1,h0,hm⟩:=hm
 replace hm:=Ab hm;obtain⟨c0,h1,hm⟩:=hm
 refine .reg (eC 2 (some ((zY (Aj .u8 z0)),Ay)) (show _=some ((zY (Int.ofNat k1)),_) from (by rw[AR h0])) (eD (keep Ay (oo (AdV[k1]?) none fun b=>iv .u8 (.ofNat b.toNat))) (nE h1) (eE))) ?_
 refine .ghs (fr 25 [(2,(zI (Aj .i64 (Int.add z1 (Aj .i64 (Int.ofNat (UInt8.toNat c0)))))))]) Ay (.k0 [false] [] [2]) ?_
 refine .ret ?_
 exact AO (zI (Aj .i64 (Int.add z1 (Aj .i64 (Int.ofNat (UInt8.toNat c0)))))) hm
theorem AeW (pu:Af) (n:Nat) (z0 z1:Int) {v:Value} (hm:Uy pu n z0 z1=some v):BN tt (Bb tabs isP pu (inl pu)) 1 ZB (fr 25 [(0,(zU z0)),(2,zI z1)]) Ay (Fin tt 1 [.tmp 2] v):=by
 unfold Uy at hm
 refine .join (v:=v) (fun y:Int×Int=>((fr 25 [(0,(zU y.1)),(2,(zI y.2))]),Ay)) (fun y=>Ux pu n y.1 y.2) ?_ ?_
 ·rintro⟨z2,z3⟩ hm
  exact AeV pu n z2 z3 hm
 ·refine .then (.rK (.ghs (fr 25 [(0,(zU z0)),(2,zI z1),(14,(zB (nt (AY z0 (256:Int)))))]) Ay (.k0 [false] [] [0,2,14]) ?_))
  replace hm:=Ag hm;rcases hm with⟨h0,hm⟩ | ⟨h0,hm⟩
  ·refine BI (nt (AY z0 (256:Int))) h0 ?_
   refine .then (.rK (.ghs (fr 25 [(0,(zU (G6 .u64 z0 8))),(2,zI z1)]) Ay (.k0 [false] [] [0,2]) ?_))
   refine .rK ?_
   exact⟨((G6 .u64 z0 8),(Aj .i64 (Int.add z1 (8:Int)))),hm,(.k0 [false] [] [0,2])⟩
  ·refine BO (nt (AY z0 (256:Int))) h0 ?_
   refine .skip ?_
   exact⟨(z0,z1),hm,(.k0 [false] [] [0,2])⟩
theorem AeX (pu:Af) (n:Nat) (z0 z1:Int) {v:Value} (hm:Uz pu n z0 z1=some v):BN tt (Bb tabs isP pu (inl pu)) 1 ZC (fr 25 [(0,(zU z0)),(2,zI z1)]) Ay (Fin tt 1 [.tmp 2] v):=by
 unfold Uz at hm
 refine .join (v:=v) (fun y:Int×Int=>((fr 25 [(0,(zU y.1)),(2,(zI y.2))]),Ay)) (fun y=>Uy pu n y.1 y.2) ?_ ?_
 ·rintro⟨z2,z3⟩ hm
  exact AeW pu n z2 z3 hm
 ·refine .then (.rK (.ghs (fr 25 [(0,(zU z0)),(2,zI z1),(8,(zB (nt (AY z0 (65536:Int)))))]) Ay (.k0 [false] [] [0,2,8]) ?_))
  replace hm:=Ag hm;rcases hm with⟨h0,hm⟩ | ⟨h0,hm⟩
  ·refine BI (nt (AY z0 (65536:Int))) h0 ?_
   refine .then (.rK (.ghs (fr 25 [(0,(zU (G6 .u64 z0 16))),(2,zI z1)]) Ay (.k0 [false] [] [0,2]) ?_))
   refine .rK ?_
   exact⟨((G6 .u64 z0 16),(Aj .i64 (Int.add z1 (16:Int)))),hm,(.k0 [false] [] [0,2])⟩
  ·refine BO (nt (AY z0 (65536:Int))) h0 ?_
   refine .skip ?_
   exact⟨(z0,z1),hm,(.k0 [false] [] [0,2])⟩
theorem r87 {call:A8} (pu:Af) (n:Nat) (hcall:call=Bb tabs isP pu (inl pu)) {args:LV} {v:Value} (hm:m87 pu n args=some v) (_:∀ x∈args,closed2 x=true):args.length≤25∧BN tt call 1 Sz (Fr.made 25 args) (Ao tabs) (Fin tt 1 [.tmp 2] v):=by
 subst hcall
 unfold m87 at hm
 replace hm:=Ad hm;obtain⟨a0,args_0,rfl,hm⟩:=hm
 replace hm:=AC hm;obtain⟨rfl,hm⟩:=hm
 replace hm:=Ai hm;obtain⟨x0,rfl,hm⟩:=hm
 unfold AeU at hm
 refine⟨by simp,?_⟩
 refine .same (F':=(fr 25 [(0,(zU x0))])) (H':=Ay) (by kernel_rfl) (by kernel_rfl) ?_
 refine .then (.rK (.ghs (fr 25 [(0,(zU x0)),(2,(zI (0:Int)))]) Ay (.k0 [false] [] [0,2]) ?_))
 refine .join (v:=v) (fun y:Int×Int=>((fr 25 [(0,(zU y.1)),(2,(zI y.2))]),Ay)) (fun y=>Uz pu n y.1 y.2) ?_ ?_
 ·rintro⟨z0,z1⟩ hm
  exact AeX pu n z0 z1 hm
 ·refine .then (.rK (.ghs (fr 25 [(0,(zU x0)),(2,(zI (0:Int))),(4,(zB (nt (AY x0 (4294967296:Int)))))]) Ay (.k0 [false] [] [0,2,4]) ?_))
  replace hm:=Ag hm;rcases hm with⟨h0,hm⟩ | ⟨h0,hm⟩
  ·refine BI (nt (AY x0 (4294967296:Int))) h0 ?_
   refine .then (.rK (.ghs (fr 25 [(0,(zU (G6 .u64 x0 32)))]) Ay (.k0 [false] [] [0]) ?_))
   refine .rK ?_
   exact⟨((G6 .u64 x0 32),(32:Int)),hm,(.k0 [false] [] [0,2])⟩
  ·refine BO (nt (AY x0 (4294967296:Int))) h0 ?_
   refine .skip ?_
   exact⟨(x0,(0:Int)),hm,(.k0 [false] [] [0,2])⟩
def LJ (pu:Af) (n:Nat):OV:=
 (some (.tuple ⟨[(.bool true)]⟩))
def GZ (pu:Af) (n:Nat) (ih0:Sl→Sl→Int→OV) (s0 s1:Sl) (z0:Int):OV:=
 (bb (AY z0 (Int.ofNat (Sl.n s0))) (oo (EA z0) none fun k1=>(bb (an (Nat.blt k1 (Sl.n s0)) true) (oo (AL (Sl.cs s0) (k1*1)) none fun v0=>(oo (Bi .i64 v0) none fun x0=>(bb (an (Nat.blt k1 (Sl.n s1)) true) (oo (AL (Sl.cs s1) (k1*1)) none fun v1=>(oo (Bi .i64 v1) none fun x1=>(bb (nt (Bd x0 x1)) (some (.tuple ⟨[(.bool false)]⟩)) (ih0 s0 s1 (Aj .i64 (Int.add (Int.ofNat k1) (1:Int))))))) none))) none)) (LJ pu n))
def G5 (pu:Af) (n w:Nat):Sl→Sl→Int→OV:=
 Nat.rec (motive:=fun _=>Sl→Sl→Int→OV) (fun _ _ _=>none) (fun _ ih0=>GZ pu n ih0) w
def OG (pu:Af) (n:Nat) (s0 s1:Sl):OV:=
 (bb (nt (Bd (Int.ofNat (Sl.n s0)) (Int.ofNat (Sl.n s1)))) (some (.tuple ⟨[(.bool false)]⟩)) (G5 pu n n s0 s1 (0:Int)))
def MF (pu:Af) (n:Nat) (args:LV):OV:=
 (ll args none fun a0 args=>(ll args none fun a1 args=>(ll args (oo (Bj 1 a0) none fun s0=>(oo (Bj 1 a1) none fun s1=>(OG pu n s0 s1))) fun _ _=>none)))
theorem bM (pu:Af) (n:Nat) {v:Value} (hm:LJ pu n=some v):BN tt (Bb tabs isP pu (inl pu)) 1 ZE (fr 26 []) Ay (FJ tt 1 0 [.tmp 4] v):=by
 unfold LJ at hm
 refine .then (.rK (.ghs (fr 26 [(4,zB true)]) Ay (.k0 [false] [] [4]) ?_))
 refine .ghs (fr 26 [(4,zB true)]) Ay (.k0 [false] [] [4]) ?_
 refine .ret ?_
 exact Gi (zB true) [] (by kernel_rfl) hm (Nat.le_of_ble_eq_true rfl) EJ
theorem Wd (pu:Af) (n:Nat) (s0 s1:Sl) {v:Value} (hm:OG pu n s0 s1=some v):BN tt (Bb tabs isP pu (inl pu)) 1 OO (fr 26 [(0,Sl.v 1 s0),(1,Sl.v 1 s1)]) Ay (FJ tt 1 0 [.tmp 4] v):=by
 unfold OG at hm
 refine .then (.rK (.ghs (fr 26 [(0,Sl.v 1 s0),(1,Sl.v 1 s1)]) Ay (.k0 [false] [] [0,1]) ?_))
 refine .then (.then (.rK (.ghs (fr 26 [(0,Sl.v 1 s0),(1,Sl.v 1 s1),(10,(zB (nt (Bd (Int.ofNat (Sl.n s0)) (Int.ofNat (Sl.n s1))))))]) Ay (.k0 [false] [] [0,1,10]) ?_)))
 replace hm:=Ag hm;rcases hm with⟨h0,hm⟩ | ⟨h0,hm⟩
 ·refine BI (nt (Bd (Int.ofNat (Sl.n s0)) (Int.ofNat (Sl.n s1)))) h0 ?_
  refine .then (.rK (.ghs (fr 26 [(4,zB false)]) Ay (.k0 [false] [] [4]) ?_))
  refine .ghs (fr 26 [(4,zB false)]) Ay (.k0 [false] [] [4]) ?_
  refine .ret ?_
  exact Gi (zB false) [] (by kernel_rfl) hm (Nat.le_of_ble_eq_true rfl) EJ
 ·refine BO (nt (Bd (Int.ofNat (Sl.n s0)) (Int.ofNat (Sl.n s1)))) h0 ?_
  refine .skip (.ghs (fr 26 [(0,Sl.v 1 s0),(1,Sl.v 1 s1)]) Ay (.k0 [false] [] [0,1]) ?_)
  refine .join (v:=v) (fun y:Unit=>((fr 26 []),Ay)) (fun y=>LJ pu n) ?_ ?_
  ·rintro _ hm
   exact bM pu n hm
  ·refine .then (.rK (.ghs (fr 26 [(0,Sl.v 1 s0),(1,Sl.v 1 s1),(5,(zI (0:Int)))]) Ay (.k0 [false] [] [0,1,5]) ?_))
   refine .block (.loopM (v:=v) (fun y:Sl×Sl×Int=>((fr 26 [(0,(Sl.v 1 y.1)),(1,(Sl.v 1 y.2.1)),(5,(zI y.2.2))]),Ay)) (fun w y=>G5 pu n w y.1 y.2.1 y.2.2) n ⟨(s0,s1,(0:Int)),hm,(.k0 [false] [] [0,1,5])⟩ (fun _=>rfl) ?_)
   rintro w0 ⟨s2,s3,z0⟩ hm
   replace hm:GZ pu n (G5 pu n w0) s2 s3 z0=some v:=hm
   unfold GZ at hm
   refine .then (.then (.rK (.ghs (fr 26 [(0,Sl.v 1 s2),(1,Sl.v 1 s3),(5,zI z0),(14,(zB (AY z0 (Int.ofNat (Sl.n s2)))))]) Ay (.k0 [false] [] [0,1,5,14]) ?_)))
   replace hm:=Ag hm;rcases hm with⟨h1,hm⟩ | ⟨h1,hm⟩
   ·refine BI (AY z0 (Int.ofNat (Sl.n s2))) h1 ?_
    refine .skip (.ghs (fr 26 [(0,Sl.v 1 s2),(1,Sl.v 1 s3),(5,zI z0)]) Ay (.k0 [false] [] [0,1,5]) ?_)
    refine .then (.block (.then ?_))
    replace hm:=Ab hm;obtain⟨k1,h2,hm⟩:=hm
    obtain rfl:=AR h2
    replace hm:=Ae hm;obtain⟨h3,hm⟩:=hm
    replace hm:=oI hm;obtain⟨x0,h4,hm⟩:=hm
    replace hm:=Ae hm;obtain⟨h5,hm⟩:=hm
    replace hm:=oI hm;obtain⟨x1,h6,hm⟩:=hm
    refine .reg (eC 2 (keep Ay (bb (an (Nat.blt k1 (Sl.n s2)) true) (some (Cv (k1*1) (Sl.cs s2))) none)) (AX h3) (eD (keep Ay (AL (Sl.cs s2) (k1*1))) (AZ h4) (eC 2 (keep Ay (bb (an (Nat.blt k1 (Sl.n s3)) true) (some (Cv (k1*1) (Sl.cs s3))) none)) (AX h5) (eD (keep Ay (AL (Sl.cs s3) (k1*1))) (AZ h6) (eE))))) ?_
    refine .ghs (fr 26 [(0,Sl.v 1 s2),(1,Sl.v 1 s3),(5,(zI (Int.ofNat k1))),(25,(zB (nt (Bd x0 x1))))]) Ay (.k0 [false] [] [0,1,5,25]) ?_
    replace hm:=Ag hm;rcases hm with⟨h7,hm⟩ | ⟨h7,hm⟩
    ·refine BI (nt (Bd x0 x1)) h7 ?_
     refine .then (.rK (.ghs (fr 26 [(4,zB false)]) Ay (.k0 [false] [] [4]) ?_))
     refine .ghs (fr 26 [(4,zB false)]) Ay (.k0 [false] [] [4]) ?_
     refine .ret ?_
     exact Gi (zB false) [] (by kernel_rfl) hm (Nat.le_of_ble_eq_true rfl) EJ
    ·refine BO (nt (Bd x0 x1)) h7 ?_
     refine .skip (.ghs (fr 26 [(0,Sl.v 1 s2),(1,Sl.v 1 s3),(5,(zI (Int.ofNat k1)))]) Ay (.k0 [false] [] [0,1,5]) ?_)
     refine .rK ?_
     exact⟨(s2,s3,(Aj .i64 (Int.add (Int.ofNat k1) (1:Int)))),hm,(.k0 [false] [] [0,1,5])⟩
   ·refine BO (AY z0 (Int.ofNat (Sl.n s2))) h1 ?_
    refine .exit ?_
    exact⟨(),hm,(.k0 [false] [] [])⟩
theorem yK {call:A8} (pu:Af) (n:Nat) (hcall:call=Bb tabs isP pu (inl pu)) {args:LV} {os:List AJ} {z:Value} (ha:args.length=2) (hk:os.length=0) (hpl:∀ o∈os,plainO o) (hm:MF pu n (args++os.map Ef)=some z):args.length≤26∧BN tt call (tabs.length+0) OO (Fr.made 26 args) (BK tabs os) (FJ tt tabs.length 0 [.tmp 4] z):=by
 subst hcall
 have hq:=BC ha;clear ha;obtain⟨a0,args,rfl,ha⟩:=hq
 have hq:=BC ha;clear ha;obtain⟨a1,args,rfl,ha⟩:=hq
 obtain rfl:=len_nil ha
 obtain rfl:=len_nil hk
 replace hm:MF pu n [a0,a1]=some z:=hm
 unfold MF at hm
 replace hm:(oo (Bj 1 a0) none fun s0=>(oo (Bj 1 a1) none fun s1=>(OG pu n s0 s1)))=some z:=hm
 replace hm:=Al hm;obtain⟨s0,rfl,hm⟩:=hm
 replace hm:=Al hm;obtain⟨s1,rfl,hm⟩:=hm
 refine⟨by simp,?_⟩
 exact .same (F':=(fr 26 [(0,Sl.v 1 s0),(1,Sl.v 1 s1)])) (H':=Ay) (by kernel_rfl) (by kernel_rfl) (Wd pu n s0 s1 hm)
end
end Go.BkOM
