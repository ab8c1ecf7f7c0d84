/- Made from wip. -/
import Derived.Test.YtokbaaeimejjlaaDoorBkMMod0x

set_option maxRecDepth 100000
set_option maxHeartbeats 20000000
set_option linter.unusedVariables false
namespace Go.BkMM
open Go.Sp Go.BkM
noncomputable section

def Af6 (pu:Af) (n:Nat) (x0:Int):OV:=
 (bb (Bd x0 (4:Int)) (some (.agg ⟨[(.int .i64 (0:Int)),(.bool true)]⟩)) (bb (Bd x0 (5:Int)) (some (.agg ⟨[(.int .i64 (2:Int)),(.bool true)]⟩)) (bb (Bd x0 (6:Int)) (some (.agg ⟨[(.int .i64 (1:Int)),(.bool true)]⟩)) (bb (Bd x0 (7:Int)) (some (.agg ⟨[(.int .i64 (3:Int)),(.bool true)]⟩)) (some (.agg ⟨[.int .i64 x0,(.bool false)]⟩))))))
def m51 (pu:Af) (n:Nat) (args:LV):OV:=
 (ll args none fun a0 args=>(ll args (oo (Bi .i64 a0) none fun x0=>(Af6 pu n x0)) fun _ _=>none))
theorem r51 {call:A8} (pu:Af) (n:Nat) (hcall:call=Bb tabs isP pu (inl pu)) {args:LV} {v:Value} (hm:m51 pu n args=some v) (_:∀ x∈args,closed2 x=true):args.length≤18∧BN tt call 1 TY (Fr.made 18 args) (Ao tabs) (Fin tt 1 [.cell 2 86] v):=by
 subst hcall
 unfold m51 at hm
 replace hm:=Ad hm;obtain⟨a0,args_0,rfl,hm⟩:=hm
 replace hm:=AC hm;obtain⟨rfl,hm⟩:=hm
 replace hm:=Ai hm;obtain⟨x0,rfl,hm⟩:=hm
 unfold Af6 at hm
 refine⟨by simp,?_⟩
 refine .same (F':=(fr 18 [(0,zI x0)])) (H':=Ay) (by kernel_rfl) (by kernel_rfl) ?_
 refine .then (.rK (.ghs (fr 18 [(0,zI x0),(2,pt 1 0)]) (hT 2 [(oC [(zI (0:Int)),zB false])]) (.k0 [false] [.tmp 2 false] [0,2]) ?_))
 refine .then (.then (.rK (.ghs (fr 18 [(0,zI x0),(2,pt 1 0),(3,zI x0)]) (hT 2 [(oC [(zI (0:Int)),zB false])]) (.k0 [false] [.tmp 2 false] [0,2,3]) ?_)))
 refine .block (.then (.rK (.ghs (fr 18 [(0,zI x0),(2,pt 1 0),(3,zI x0),(4,(zB (Bd x0 (4:Int))))]) (hT 2 [(oC [(zI (0:Int)),zB false])]) (.k0 [false] [.tmp 2 false] [0,2,3,4]) ?_)))
 replace hm:=Ag hm;rcases hm with⟨h0,hm⟩ | ⟨h0,hm⟩
 ·refine BB (Bd x0 (4:Int)) h0 ?_
  refine .then (.rK (.ghs (fr 18 [(2,pt 1 0)]) (hT 2 [(oC [(zI (0:Int)),zB true])]) (.k0 [false] [.tmp 2 false] [2]) ?_))
  refine .ret ?_
  exact AO (.agg ⟨[(zI (0:Int)),zB true]⟩) hm
 ·refine BI (Bd x0 (4:Int)) h0 ?_
  refine .then (.rK (.ghs (fr 18 [(0,zI x0),(2,pt 1 0),(3,zI x0),(7,(zB (Bd x0 (5:Int))))]) (hT 2 [(oC [(zI (0:Int)),zB false])]) (.k0 [false] [.tmp 2 false] [0,2,3,7]) ?_))
  replace hm:=Ag hm;rcases hm with⟨h1,hm⟩ | ⟨h1,hm⟩
  ·refine BB (Bd x0 (5:Int)) h1 ?_
   refine .then (.rK (.ghs (fr 18 [(2,pt 1 0)]) (hT 2 [(oC [(zI (2:Int)),zB true])]) (.k0 [false] [.tmp 2 false] [2]) ?_))
   refine .ret ?_
   exact AO (.agg ⟨[(zI (2:Int)),zB true]⟩) hm
  ·refine BI (Bd x0 (5:Int)) h1 ?_
   refine .then (.rK (.ghs (fr 18 [(0,zI x0),(2,pt 1 0),(3,zI x0),(10,(zB (Bd x0 (6:Int))))]) (hT 2 [(oC [(zI (0:Int)),zB false])]) (.k0 [false] [.tmp 2 false] [0,2,3,10]) ?_))
   replace hm:=Ag hm;rcases hm with⟨h2,hm⟩ | ⟨h2,hm⟩
   ·refine BB (Bd x0 (6:Int)) h2 ?_
    refine .then (.rK (.ghs (fr 18 [(2,pt 1 0)]) (hT 2 [(oC [(zI (1:Int)),zB true])]) (.k0 [false] [.tmp 2 false] [2]) ?_))
    refine .ret ?_
    exact AO (.agg ⟨[(zI (1:Int)),zB true]⟩) hm
   ·refine BI (Bd x0 (6:Int)) h2 ?_
    refine .then (.rK (.ghs (fr 18 [(0,zI x0),(2,pt 1 0),(13,(zB (Bd x0 (7:Int))))]) (hT 2 [(oC [(zI (0:Int)),zB false])]) (.k0 [false] [.tmp 2 false] [0,2,13]) ?_))
    replace hm:=Ag hm;rcases hm with⟨h3,hm⟩ | ⟨h3,hm⟩
    ·refine BB (Bd x0 (7:Int)) h3 ?_
     refine .then (.rK (.ghs (fr 18 [(2,pt 1 0)]) (hT 2 [(oC [(zI (3:Int)),zB true])]) (.k0 [false] [.tmp 2 false] [2]) ?_))
     refine .ret ?_
     exact AO (.agg ⟨[(zI (3:Int)),zB true]⟩) hm
    ·refine BI (Bd x0 (7:Int)) h3 ?_
     refine .skip (.ghs (fr 18 [(0,zI x0),(2,pt 1 0)]) (hT 2 [(oC [(zI (0:Int)),zB false])]) (.k0 [false] [.tmp 2 false] [0,2]) ?_)
     refine .then (.rK (.ghs (fr 18 [(2,pt 1 0)]) (hT 2 [(oC [zI x0,zB false])]) (.k0 [false] [.tmp 2 false] [2]) ?_))
     refine .ret ?_
     exact AO (.agg ⟨[zI x0,zB false]⟩) hm
def VW (pu:Af) (n:Nat) (z0:Int) (b0:Bool) (z1:Int) (b1:Bool) (z2:Int) (b2:Bool):OV:=
 (some (.agg ⟨[(.int .i64 (Aj .i64 (Int.add z0 z1))),(.bool (bq false (bq b0 b1)))]⟩))
def Af7 (pu:Af) (n:Nat) (x0:Int) (b0:Bool) (x1:Int) (b1:Bool):OV:=
 (bb b0 (VW pu n x0 b0 (Aj .i64 (Int.sub (.ofNat 0) x1)) b1 (0:Int) false) (VW pu n x0 b0 x1 b1 (0:Int) false))
def m52 (pu:Af) (n:Nat) (args:LV):OV:=
 (ll args none fun a0 args=>(ll args none fun a1 args=>(ll args (oo (Bt a0) none fun l0=>(ll l0 none fun v0 l0=>(ll l0 none fun v1 l0=>(ll l0 (oo (Bi .i64 v0) none fun x0=>(oo (Bf v1) none fun b0=>(oo (Bt a1) none fun l1=>(ll l1 none fun v2 l1=>(ll l1 none fun v3 l1=>(ll l1 (oo (Bi .i64 v2) none fun x1=>(oo (Bf v3) none fun b1=>(Af7 pu n x0 b0 x1 b1))) fun _ _=>none)))))) fun _ _=>none)))) fun _ _=>none)))
theorem Af8 (pu:Af) (n:Nat) (z0:Int) (b0:Bool) (z1:Int) (b1:Bool) (z2:Int) (b2:Bool) {v:Value} (hm:VW pu n z0 b0 z1 b1 z2 b2=some v):BN tt (Bb tabs isP pu (inl pu)) 1 mG (fr 22 [(2,pt 1 0),(3,(pt 2 0)),(4,(pt 3 0))]) (hT 4 [(oC [zI z0,zB b0]),(oC [zI z1,zB b1]),(oC [zI z2,zB b2])]) (Fin tt 1 [.cell 4 86] v):=by
 unfold VW at hm
 refine .then (.rK (.ghs (fr 22 [(4,pt 1 0)]) (hT 2 [(oC [(zI (Aj .i64 (Int.add z0 z1))),(zB (bq false (bq b0 b1)))])]) (.k0 [false] [.tmp 4 false] [4]) ?_))
 refine .ret ?_
 exact AO (.agg ⟨[(zI (Aj .i64 (Int.add z0 z1))),(zB (bq false (bq b0 b1)))]⟩) hm
theorem r52 {call:A8} (pu:Af) (n:Nat) (hcall:call=Bb tabs isP pu (inl pu)) {args:LV} {v:Value} (hm:m52 pu n args=some v) (_:∀ x∈args,closed2 x=true):args.length≤22∧BN tt call 1 XL (Fr.made 22 args) (Ao tabs) (Fin tt 1 [.cell 4 86] v):=by
 subst hcall
 unfold m52 at hm
 replace hm:=Ad hm;obtain⟨a0,args_0,rfl,hm⟩:=hm
 replace hm:=Ad hm;obtain⟨a1,args_1,rfl,hm⟩:=hm
 replace hm:=AC hm;obtain⟨rfl,hm⟩:=hm
 replace hm:=BG hm;obtain⟨l0,rfl,hm⟩:=hm
 replace hm:=Ad hm;obtain⟨v0,l12640_0,rfl,hm⟩:=hm
 replace hm:=Ad hm;obtain⟨v1,l12640_1,rfl,hm⟩:=hm
 replace hm:=AC hm;obtain⟨rfl,hm⟩:=hm
 replace hm:=Ai hm;obtain⟨x0,rfl,hm⟩:=hm
 replace hm:=Be hm;obtain⟨b0,rfl,hm⟩:=hm
 replace hm:=BG hm;obtain⟨l1,rfl,hm⟩:=hm
 replace hm:=Ad hm;obtain⟨v2,l12648_0,rfl,hm⟩:=hm
 replace hm:=Ad hm;obtain⟨v3,l12648_1,rfl,hm⟩:=hm
 replace hm:=AC hm;obtain⟨rfl,hm⟩:=hm
 replace hm:=Ai hm;obtain⟨x1,rfl,hm⟩:=hm
 replace hm:=Be hm;obtain⟨b1,rfl,hm⟩:=hm
 unfold Af7 at hm
 refine⟨by simp,?_⟩
 refine .same (F':=(fr 22 [(0,(.agg ⟨[zI x0,zB b0]⟩)),(1,(.agg ⟨[zI x1,zB b1]⟩))])) (H':=Ay) (by kernel_rfl) (by kernel_rfl) ?_
 refine .then (.rK (.ghs (fr 22 [(2,pt 1 0),(3,(pt 2 0)),(4,(pt 3 0))]) (hT 4 [(oC [zI x0,zB b0]),(oC [zI x1,zB b1]),(oC [(zI (0:Int)),zB false])]) (.k0 [false] [.tmp 2 false,.tmp 3 false,.tmp 4 false] [2,3,4]) ?_))
 refine .join (v:=v) (fun y:Int×Bool×Int×Bool×Int×Bool=>((fr 22 [(2,pt 1 0),(3,(pt 2 0)),(4,(pt 3 0))]),(hT 4 [(oC [(zI y.1),(zB y.2.1)]),(oC [(zI y.2.2.1),(zB y.2.2.2.1)]),(oC [(zI y.2.2.2.2.1),(zB y.2.2.2.2.2)])]))) (fun y=>VW pu n y.1 y.2.1 y.2.2.1 y.2.2.2.1 y.2.2.2.2.1 y.2.2.2.2.2) ?_ ?_
 ·rintro⟨z0,b2,z1,b3,z2,b4⟩ hm
  exact Af8 pu n z0 b2 z1 b3 z2 b4 hm
 ·refine .then (.rK (.ghs (fr 22 [(2,pt 1 0),(3,(pt 2 0)),(4,(pt 3 0)),(6,zB b0)]) (hT 4 [(oC [zI x0,zB b0]),(oC [zI x1,zB b1]),(oC [(zI (0:Int)),zB false])]) (.k0 [false] [.tmp 2 false,.tmp 3 false,.tmp 4 false] [2,3,4,6]) ?_))
  replace hm:=Ag hm;rcases hm with⟨h0,hm⟩ | ⟨h0,hm⟩
  ·refine .ifT b0 (by kernel_rfl) h0 ?_
   refine .rK ?_
   exact⟨(x0,b0,(Aj .i64 (Int.sub (.ofNat 0) x1)),b1,(0:Int),false),hm,(.k0 [false] [.tmp 2 false,.tmp 3 false,.tmp 4 false] [2,3,4])⟩
  ·refine .ifF b0 (by kernel_rfl) h0 ?_
   refine .skip ?_
   exact⟨(x0,b0,x1,b1,(0:Int),false),hm,(.k0 [false] [.tmp 2 false,.tmp 3 false,.tmp 4 false] [2,3,4])⟩

def Af9 (pu:Af) (n:Nat) (x0:Int) (b0:Bool):OV:=
 (bb (nt b0) (some (.int .i64 (Int.tmod (Aj .i64 (Int.add x0 (4:Int))) (4:Int)))) (bb (Bd (Int.tmod (Aj .i64 (Int.add x0 (4:Int))) (4:Int)) (0:Int)) (some (.int .i64 (4:Int))) (bb (Bd (Int.tmod (Aj .i64 (Int.add x0 (4:Int))) (4:Int)) (1:Int)) (some (.int .i64 (6:Int))) (bb (Bd (Int.tmod (Aj .i64 (Int.add x0 (4:Int))) (4:Int)) (2:Int)) (some (.int .i64 (5:Int))) (some (.int .i64 (7:Int)))))))
def m53 (pu:Af) (n:Nat) (args:LV):OV:=
 (ll args none fun a0 args=>(ll args (oo (Bt a0) none fun l0=>(ll l0 none fun v0 l0=>(ll l0 none fun v1 l0=>(ll l0 (oo (Bi .i64 v0) none fun x0=>(oo (Bf v1) none fun b0=>(Af9 pu n x0 b0))) fun _ _=>none)))) fun _ _=>none))
theorem r53 {call:A8} (pu:Af) (n:Nat) (hcall:call=Bb tabs isP pu (inl pu)) {args:LV} {v:Value} (hm:m53 pu n args=some v) (_:∀ x∈args,closed2 x=true):args.length≤22∧BN tt call 1 TZ (Fr.made 22 args) (Ao tabs) (Fin tt 1 [.tmp 2] v):=by
 subst hcall
 unfold m53 at hm
 replace hm:=Ad hm;obtain⟨a0,args_0,rfl,hm⟩:=hm
 replace hm:=AC hm;obtain⟨rfl,hm⟩:=hm
 replace hm:=BG hm;obtain⟨l0,rfl,hm⟩:=hm
 replace hm:=Ad hm;obtain⟨v0,l12665_0,rfl,hm⟩:=hm
 replace hm:=Ad hm;obtain⟨v1,l12665_1,rfl,hm⟩:=hm
 replace hm:=AC hm;obtain⟨rfl,hm⟩:=hm
 replace hm:=Ai hm;obtain⟨x0,rfl,hm⟩:=hm
 replace hm:=Be hm;obtain⟨b0,rfl,hm⟩:=hm
 unfold Af9 at hm
 refine⟨by simp,?_⟩
 refine .same (F':=(fr 22 [(0,(.agg ⟨[zI x0,zB b0]⟩))])) (H':=Ay) (by kernel_rfl) (by kernel_rfl) ?_
 refine .then (.rK (.ghs (fr 22 [(1,pt 1 0)]) (hT 2 [(oC [zI x0,zB b0])]) (.k0 [false] [.tmp 1 false] [1]) ?_))
 refine .then (.rK (.ghs (fr 22 [(1,pt 1 0),(3,(zI (Int.tmod (Aj .i64 (Int.add x0 (4:Int))) (4:Int))))]) (hT 2 [(oC [zI x0,zB b0])]) (.k0 [false] [.tmp 1 false] [1,3]) ?_))
 refine .then (.block (.then (.rK (.ghs (fr 22 [(3,(zI (Int.tmod (Aj .i64 (Int.add x0 (4:Int))) (4:Int)))),(8,(zB (nt b0)))]) Ay (.k0 [false] [] [3,8]) ?_))))
 replace hm:=Ag hm;rcases hm with⟨h0,hm⟩ | ⟨h0,hm⟩
 ·refine BB (nt b0) h0 ?_
  refine .then (.rK (.ghs (fr 22 [(2,(zI (Int.tmod (Aj .i64 (Int.add x0 (4:Int))) (4:Int))))]) Ay (.k0 [false] [] [2]) ?_))
  refine .ret ?_
  exact AO (zI (Int.tmod (Aj .i64 (Int.add x0 (4:Int))) (4:Int))) hm
 ·refine BI (nt b0) h0 ?_
  refine .then (.rK (.ghs (fr 22 [(3,(zI (Int.tmod (Aj .i64 (Int.add x0 (4:Int))) (4:Int)))),(13,(zB (Bd (Int.tmod (Aj .i64 (Int.add x0 (4:Int))) (4:Int)) (0:Int))))]) Ay (.k0 [false] [] [3,13]) ?_))
  replace hm:=Ag hm;rcases hm with⟨h1,hm⟩ | ⟨h1,hm⟩
  ·refine BB (Bd (Int.tmod (Aj .i64 (Int.add x0 (4:Int))) (4:Int)) (0:Int)) h1 ?_
   refine .then (.rK (.ghs (fr 22 [(2,(zI (4:Int)))]) Ay (.k0 [false] [] [2]) ?_))
   refine .ret ?_
   exact AO (zI (4:Int)) hm
  ·refine BI (Bd (Int.tmod (Aj .i64 (Int.add x0 (4:Int))) (4:Int)) (0:Int)) h1 ?_
   refine .then (.rK (.ghs (fr 22 [(3,(zI (Int.tmod (Aj .i64 (Int.add x0 (4:Int))) (4:Int)))),(16,(zB (Bd (Int.tmod (Aj .i64 (Int.add x0 (4:Int))) (4:Int)) (1:Int))))]) Ay (.k0 [false] [] [3,16]) ?_))
   replace hm:=Ag hm;rcases hm with⟨h2,hm⟩ | ⟨h2,hm⟩
   ·refine BB (Bd (Int.tmod (Aj .i64 (Int.add x0 (4:Int))) (4:Int)) (1:Int)) h2 ?_
    refine .then (.rK (.ghs (fr 22 [(2,(zI (6:Int)))]) Ay (.k0 [false] [] [2]) ?_))
    refine .ret ?_
    exact AO (zI (6:Int)) hm
   ·refine BI (Bd (Int.tmod (Aj .i64 (Int.add x0 (4:Int))) (4:Int)) (1:Int)) h2 ?_
    refine .then (.rK (.ghs (fr 22 [(19,(zB (Bd (Int.tmod (Aj .i64 (Int.add x0 (4:Int))) (4:Int)) (2:Int))))]) Ay (.k0 [false] [] [19]) ?_))
    replace hm:=Ag hm;rcases hm with⟨h3,hm⟩ | ⟨h3,hm⟩
    ·refine BB (Bd (Int.tmod (Aj .i64 (Int.add x0 (4:Int))) (4:Int)) (2:Int)) h3 ?_
     refine .then (.rK (.ghs (fr 22 [(2,(zI (5:Int)))]) Ay (.k0 [false] [] [2]) ?_))
     refine .ret ?_
     exact AO (zI (5:Int)) hm
    ·refine BI (Bd (Int.tmod (Aj .i64 (Int.add x0 (4:Int))) (4:Int)) (2:Int)) h3 ?_
     refine .skip (.ghs (fr 22 []) Ay (.k0 [false] [] []) ?_)
     refine .then (.rK (.ghs (fr 22 [(2,(zI (7:Int)))]) Ay (.k0 [false] [] [2]) ?_))
     refine .ret ?_
     exact AO (zI (7:Int)) hm
def X7 (pu:Af) (n:Nat) (q0:LV):OV:=
 (bb (an (Nat.ble (0+1) (len q0)) true) (bb (Au Ah (BM ([(.int .i64 (0:Int))]:LV) 0 q0)) (bb (Nat.ble (0+17) (len (BM ([(.int .i64 (0:Int))]:LV) 0 q0))) (bb (Nat.beq (len (Aq 17 (Am 0 (BM ([(.int .i64 (0:Int))]:LV) 0 q0)))) 17) (bb (an (Nat.ble (0+len (Aq 17 (Am 0 (BM ([(.int .i64 (0:Int))]:LV) 0 q0)))) (len (BM ([(.int .i64 (0:Int))]:LV) 0 q0))) (Au D6 (Aq 17 (Am 0 (BM ([(.int .i64 (0:Int))]:LV) 0 q0))))) (bb (Au Ah (BM (Aq 17 (Am 0 (BM ([(.int .i64 (0:Int))]:LV) 0 q0))) 0 (BM ([(.int .i64 (0:Int))]:LV) 0 q0))) (bb (Nat.ble (0+17) (len (BM (Aq 17 (Am 0 (BM ([(.int .i64 (0:Int))]:LV) 0 q0))) 0 (BM ([(.int .i64 (0:Int))]:LV) 0 q0)))) (bb (Fe (.agg ⟨(Aq 17 (Am 0 (BM (Aq 17 (Am 0 (BM ([(.int .i64 (0:Int))]:LV) 0 q0))) 0 (BM ([(.int .i64 (0:Int))]:LV) 0 q0))))⟩)) (some (.agg ⟨(Aq 17 (Am 0 (BM (Aq 17 (Am 0 (BM ([(.int .i64 (0:Int))]:LV) 0 q0))) 0 (BM ([(.int .i64 (0:Int))]:LV) 0 q0))))⟩)) none) none) none) none) none) none) none) none)
def eY (pu:Af) (n:Nat) (ih0:Nat→LV→Int→Int→Int→Int→LV→OV) (n0:Nat) (q0:LV) (z0 z1 z2 z3:Int) (q1:LV):OV:=
 (bb (Au Ah q1) (ih0 n0 q0 z0 z1 z2 (Aj .i64 (Int.add z3 (1:Int))) q1) none)
def fA (pu:Af) (n:Nat) (ih0:Nat→LV→Int→Int→Int→Int→LV→OV) (n0:Nat) (q0:LV) (z0 z1 z2 z3 z4:Int) (q1:LV):OV:=
 (oo (EA z2) none fun k1=>(bb (Nat.blt k1 17) (oo (AL q1 (0+k1*1)) none fun v0=>(oo (Bi .i64 v0) none fun x0=>(bb (Nat.blt k1 17) (bb (an (Nat.ble ((0+k1*1)+1) (len q1)) true) (bb (Au Ah (BM ([(.int .i64 (Aj .i64 (Int.add x0 (1:Int))))]:LV) (0+k1*1) q1)) (eY pu n ih0 n0 q0 z0 z1 z3 z4 (BM ([(.int .i64 (Aj .i64 (Int.add x0 (1:Int))))]:LV) (0+k1*1) q1)) none) none) none))) none))
def fB (pu:Af) (n:Nat) (ih0:Nat→LV→Int→Int→Int→Int→LV→OV) (ih1:Nat→LV→Int→Int→Int→Int→Int→Int→LV→OV) (n0:Nat) (q0:LV) (z0 z1 z2 z3 z4 z5:Int) (q1:LV):OV:=
 (oo (EA z3) none fun k1=>(bb (Au Ah q1) (bb (Bd (Np .u16 (G6 .u16 z1 k1) (1:Int)) (0:Int)) (oo (AL q0 (n0+4)) none fun v0=>(oo (Bj 1 v0) none fun s0=>(oo (EA z0) none fun k2=>(bb (an (Nat.blt k2 (Sl.n s0)) true) (oo (AL (Sl.cs s0) (k2*1)) none fun v1=>(oo (Bj 1 v1) none fun s1=>(bb (an (Nat.blt k1 (Sl.n s1)) true) (oo (AL (Sl.cs s1) (k1*1)) none fun v2=>(oo (Bi .i64 v2) none fun x0=>(ih1 n0 q0 (Int.ofNat k2) (jF .u16 z1 (QW .u16 (1:Int) k1)) (Aj .i64 (Int.add z2 (1:Int))) x0 z4 z5 q1))) none))) none)))) (fA pu n ih0 n0 q0 z0 z1 z2 z4 z5 q1)) none))
def fC (pu:Af) (n:Nat) (ih0:Nat→LV→Int→Int→Int→Int→LV→OV) (w:Nat):Nat→LV→Int→Int→Int→Int→Int→Int→LV→OV:=
 Nat.rec (motive:=fun _=>Nat→LV→Int→Int→Int→Int→Int→Int→LV→OV) (fun _ _ _ _ _ _ _ _ _=>none) (fun _ ih1=>fB pu n ih0 ih1) w
def fD (pu:Af) (n:Nat) (ih0:Nat→LV→Int→Int→Int→Int→LV→OV) (n0:Nat) (q0:LV) (z0 z1 z2 z3:Int) (q1:LV):OV:=
 (bb (Au Ah q1) (bb (AY z3 z2) (fC pu n ih0 n n0 q0 z0 z1 (0:Int) z3 z2 z3 q1) (X7 pu n q1)) none)
def OU (pu:Af) (n w:Nat):Nat→LV→Int→Int→Int→Int→LV→OV:=
 Nat.rec (motive:=fun _=>Nat→LV→Int→Int→Int→Int→LV→OV) (fun _ _ _ _ _ _ _=>none) (fun _ ih0=>fD pu n ih0) w
def Aga (pu:Af) (n:Nat) (p0:Db) (x0:Int):OV:=
 (bb (Au Ah Uh) (oo (AL (Db.cs p0) ((Db.off p0)+4)) none fun v0=>(oo (Bj 1 v0) none fun s0=>(oo (EA x0) none fun k1=>(bb (an (Nat.blt k1 (Sl.n s0)) true) (oo (AL (Sl.cs s0) (k1*1)) none fun v1=>(oo (Bj 1 v1) none fun s1=>(OU pu n n (Db.off p0) (Db.cs p0) (Int.ofNat k1) (0:Int) (Int.ofNat (Sl.n s1)) (0:Int) Uh))) none)))) none)
def m57 (pu:Af) (n:Nat) (args:LV):OV:=
 (ll args none fun a0 args=>(ll args none fun a1 args=>(ll args (oo (Pv a0) none fun p0=>(oo (Bi .i64 a1) none fun x0=>(Aga pu n p0 x0))) fun _ _=>none)))
theorem Agb (pu:Af) (n:Nat) (q0:LV) {v:Value} (hm:X7 pu n q0=some v):BN tt (Bb tabs isP pu (inl pu)) 1 bZ (fr 50 [(4,pt 1 0)]) (hT 2 [oC q0]) (Fin tt 1 [.cell 4 91] v):=by
 unfold X7 at hm
 refine .then ?_
 replace hm:=Ae hm;obtain⟨h0,hm⟩:=hm
 refine .reg (eC 1 (done (bb (an (Nat.ble (0+1) (len q0)) true) (some (hT 2 [(oC (BM ([(zI (0:Int))]:LV) 0 q0))])) none) undef) (Js h0) (eE)) ?_
 replace hm:=Ae hm;obtain⟨h1,hm⟩:=hm
 refine .ghs (fr 50 [(4,pt 1 0)]) (hT 2 [(oC (BM ([(zI (0:Int))]:LV) 0 q0))]) (.k [1] [false] [.tmp 4 false] [4] ⟨Bq h1,trivial⟩) ?_
 refine .then ?_
 replace hm:=Ae hm;obtain⟨h2,hm⟩:=hm
 replace hm:=Ae hm;obtain⟨h3,hm⟩:=hm
 replace hm:=Ae hm;obtain⟨h4,hm⟩:=hm
 refine .reg (eD (keep (hT 2 [(oC (BM ([(zI (0:Int))]:LV) 0 q0))]) (bb (Nat.ble (0+17) (len (BM ([(zI (0:Int))]:LV) 0 q0))) (some (.agg ⟨(Aq 17 (Am 0 (BM ([(zI (0:Int))]:LV) 0 q0)))⟩)) none)) (AX h2) (eD (done (bb (Nat.beq (len (Aq 17 (Am 0 (BM ([(zI (0:Int))]:LV) 0 q0)))) 17) (bb (an (Nat.ble (0+len (Aq 17 (Am 0 (BM ([(zI (0:Int))]:LV) 0 q0)))) (len (BM ([(zI (0:Int))]:LV) 0 q0))) (Au D6 (Aq 17 (Am 0 (BM ([(zI (0:Int))]:LV) 0 q0))))) (some (hT 2 [(oC (BM (Aq 17 (Am 0 (BM ([(zI (0:Int))]:LV) 0 q0))) 0 (BM ([(zI (0:Int))]:LV) 0 q0)))])) none) none) undef) (bH h3 h4) (eE))) ?_
 replace hm:=Ae hm;obtain⟨h5,hm⟩:=hm
 refine .ghs (fr 50 [(4,pt 1 0)]) (hT 2 [(oC (BM (Aq 17 (Am 0 (BM ([(zI (0:Int))]:LV) 0 q0))) 0 (BM ([(zI (0:Int))]:LV) 0 q0)))]) (.k [1] [false] [.tmp 4 false] [4] ⟨Bq h5,trivial⟩) ?_
 refine .ret ?_
 replace hm:=Ae hm;obtain⟨h6,hm⟩:=hm
 replace hm:=Ae hm;obtain⟨h7,hm⟩:=hm
 exact kI (.agg ⟨(Aq 17 (Am 0 (BM (Aq 17 (Am 0 (BM ([(zI (0:Int))]:LV) 0 q0))) 0 (BM ([(zI (0:Int))]:LV) 0 q0))))⟩) (SN (Oh (show Q6 _ _ _ _=some (.agg ⟨(Aq 17 (Am 0 (BM (Aq 17 (Am 0 (BM ([(zI (0:Int))]:LV) 0 q0))) 0 (BM ([(zI (0:Int))]:LV) 0 q0))))⟩) from (Aex (c:=(Nat.ble (0+17) (len (BM (Aq 17 (Am 0 (BM ([(zI (0:Int))]:LV) 0 q0))) 0 (BM ([(zI (0:Int))]:LV) 0 q0))))) (by kernel_rfl) h6)) rfl) (by kernel_rfl)) h7 hm
theorem r57 {call:A8} (pu:Af) (n:Nat) (hcall:call=Bb tabs isP pu (inl pu)) {args:LV} {v:Value} (hm:m57 pu n args=some v) (_:∀ x∈args,closed2 x=true):args.length≤50∧BN tt call 1 T9 (Fr.made 50 args) (Ao tabs) (Fin tt 1 [.cell 4 91] v):=by
 subst hcall
 unfold m57 at hm
 replace hm:=Ad hm;obtain⟨a0,args_0,rfl,hm⟩:=hm
 replace hm:=Ad hm;obtain⟨a1,args_1,rfl,hm⟩:=hm
 replace hm:=AC hm;obtain⟨rfl,hm⟩:=hm
 replace hm:=Ab hm;obtain⟨p0,h0,hm⟩:=hm
 obtain rfl:=F7 h0
 replace hm:=Ai hm;obtain⟨x0,rfl,hm⟩:=hm
 unfold Aga at hm
 refine⟨by simp,?_⟩
 refine .same (F':=(fr 50 [(0,(Cv (Db.off p0) (Db.cs p0))),(1,zI x0)])) (H':=Ay) (by kernel_rfl) (by kernel_rfl) ?_
 refine .then (.rK ?_)
 replace hm:=Ae hm;obtain⟨h1,hm⟩:=hm
 refine .ghs (fr 50 [(0,(Cv (Db.off p0) (Db.cs p0))),(1,zI x0),(4,pt 1 0)]) (hT 2 [oC Uh]) (.k [1] [false] [.tmp 4 false] [0,1,4] ⟨Bq h1,trivial⟩) ?_
 refine .then (.rK (.ghs (fr 50 [(0,(Cv (Db.off p0) (Db.cs p0))),(1,zI x0),(4,pt 1 0),(5,(.int .u16 (0:Int)))]) (hT 2 [oC Uh]) (.k [1] [false] [.tmp 4 false] [0,1,4,5] ⟨Bq h1,trivial⟩) ?_))
 refine .join (v:=v) (fun y:LV=>((fr 50 [(4,pt 1 0)]),(hT 2 [oC y]))) (fun y=>X7 pu n y) ?_ ?_
 ·rintro q0 hm
  exact Agb pu n q0 hm
 ·refine .then ?_
  replace hm:=LK hm;obtain⟨s0,h2,hm⟩:=hm
  replace hm:=Ab hm;obtain⟨k1,h3,hm⟩:=hm
  obtain rfl:=AR h3
  replace hm:=Ae hm;obtain⟨h4,hm⟩:=hm
  replace hm:=LK hm;obtain⟨s1,h5,hm⟩:=hm
  refine .reg (eC 3 (keep (hT 2 [oC Uh]) (AL (Db.cs p0) ((Db.off p0)+4))) (AZ h2) (eC 1 (keep (hT 2 [oC Uh]) (bb (an (Nat.blt k1 (Sl.n s0)) true) (some (Cv (k1*1) (Sl.cs s0))) none)) (AX h4) (eD (keep (hT 2 [oC Uh]) (AL (Sl.cs s0) (k1*1))) (AZ h5) (eE)))) ?_
  refine .ghs (fr 50 [(0,(Cv (Db.off p0) (Db.cs p0))),(1,(zI (Int.ofNat k1))),(4,pt 1 0),(5,(.int .u16 (0:Int))),(16,(zI (Int.ofNat (Sl.n s1)))),(17,(zI (0:Int)))]) (hT 2 [oC Uh]) (.k [1] [false] [.tmp 4 false] [0,1,4,5,16,17] ⟨Bq h1,trivial⟩) ?_
  refine .block (.loopM (v:=v) (fun y:Nat×LV×Int×Int×Int×Int×LV=>((fr 50 [(0,(Cv y.1 y.2.1)),(1,(zI y.2.2.1)),(4,pt 1 0),(5,(.int .u16 y.2.2.2.1)),(16,(zI y.2.2.2.2.1)),(17,(zI y.2.2.2.2.2.1))]),(hT 2 [(oC y.2.2.2.2.2.2)]))) (fun w y=>OU pu n w y.1 y.2.1 y.2.2.1 y.2.2.2.1 y.2.2.2.2.1 y.2.2.2.2.2.1 y.2.2.2.2.2.2) n ⟨((Db.off p0),(Db.cs p0),(Int.ofNat k1),(0:Int),(Int.ofNat (Sl.n s1)),(0:Int),Uh),hm,(.k [1] [false] [.tmp 4 false] [0,1,4,5,16,17] ⟨Bq h1,trivial⟩)⟩ (fun _=>rfl) ?_)
  rintro w0 ⟨n0,q1,z0,z1,z2,z3,q2⟩ hm
  replace hm:fD pu n (OU pu n w0) n0 q1 z0 z1 z2 z3 q2=some v:=hm
  unfold fD at hm
  refine .then (.rK ?_)
  replace hm:=Ae hm;obtain⟨h6,hm⟩:=hm
  refine .ghs (fr 50 [(0,(Cv n0 q1)),(1,zI z0),(4,pt 1 0),(5,.int .u16 z1),(16,zI z2),(17,zI z3),(18,(zB (AY z3 z2)))]) (hT 2 [oC q2]) (.k [1] [false] [.tmp 4 false] [0,1,4,5,16,17,18] ⟨Bq h6,trivial⟩) ?_
  refine .then ?_
  replace hm:=Ag hm;rcases hm with⟨h7,hm⟩ | ⟨h7,hm⟩
  ·refine BB (AY z3 z2) h7 ?_
   refine .skip (.ghs (fr 50 [(0,(Cv n0 q1)),(1,zI z0),(4,pt 1 0),(5,.int .u16 z1),(16,zI z2),(17,zI z3)]) (hT 2 [oC q2]) (.k [1] [false] [.tmp 4 false] [0,1,4,5,16,17] ⟨Bq h6,trivial⟩) ?_)
   refine .join (v:=v) (fun y:Nat×LV×Int×Int×Int×Int×LV=>((fr 50 [(0,(Cv y.1 y.2.1)),(1,(zI y.2.2.1)),(4,pt 1 0),(5,(.int .u16 y.2.2.2.1)),(16,(zI y.2.2.2.2.1)),(17,(zI y.2.2.2.2.2.1))]),(hT 2 [(oC y.2.2.2.2.2.2)]))) (fun y=>eY pu n (OU pu n w0) y.1 y.2.1 y.2.2.1 y.2.2.2.1 y.2.2.2.2.1 y.2.2.2.2.2.1 y.2.2.2.2.2.2) ?_ ?_
   ·rintro⟨n1,q3,z4,z5,z6,z7,q4⟩ hm
    unfold eY at hm
    refine .rK ?_
    replace hm:=Ae hm;obtain⟨h8,hm⟩:=hm
    exact⟨(n1,q3,z4,z5,z6,(Aj .i64 (Int.add z7 (1:Int))),q4),hm,(.k [1] [false] [.tmp 4 false] [0,1,4,5,16,17] ⟨Bq h8,trivial⟩)⟩
   ·refine .block (.then (.rK (.ghs (fr 50 [(0,(Cv n0 q1)),(1,zI z0),(4,pt 1 0),(5,.int .u16 z1),(6,zI z3),(16,zI z2),(17,zI z3)]) (hT 2 [oC q2]) (.k [1] [false] [.tmp 4 false] [0,1,4,5,6,16,17] ⟨Bq h6,trivial⟩) ?_)))
    refine .then (.rK (.ghs (fr 50 [(0,(Cv n0 q1)),(1,zI z0),(4,pt 1 0),(5,.int .u16 z1),(6,zI z3),(7,(zI (0:Int))),(16,zI z2),(17,zI z3)]) (hT 2 [oC q2]) (.k [1] [false] [.tmp 4 false] [0,1,4,5,6,7,16,17] ⟨Bq h6,trivial⟩) ?_))
    refine .join (v:=v) (fun y:Nat×LV×Int×Int×Int×Int×Int×LV=>((fr 50 [(0,(Cv y.1 y.2.1)),(1,(zI y.2.2.1)),(4,pt 1 0),(5,(.int .u16 y.2.2.2.1)),(7,(zI y.2.2.2.2.1)),(16,(zI y.2.2.2.2.2.1)),(17,(zI y.2.2.2.2.2.2.1))]),(hT 2 [(oC y.2.2.2.2.2.2.2)]))) (fun y=>fA pu n (OU pu n w0) y.1 y.2.1 y.2.2.1 y.2.2.2.1 y.2.2.2.2.1 y.2.2.2.2.2.1 y.2.2.2.2.2.2.1 y.2.2.2.2.2.2.2) ?_ ?_
    ·rintro⟨n2,q6,z8,z9,z10,z11,z12,q7⟩ hm
     unfold fA at hm
     replace hm:=Ab hm;obtain⟨k2,h9,hm⟩:=hm
     obtain rfl:=AR h9
     replace hm:=Ae hm;obtain⟨h10,hm⟩:=hm
     replace hm:=G9 hm;obtain⟨x1,h11,hm⟩:=hm
     replace hm:=Ae hm;obtain⟨h12,hm⟩:=hm
     replace hm:=Ae hm;obtain⟨h13,hm⟩:=hm
     refine .reg (eC 1 (keep (hT 2 [oC q7]) (bb (Nat.blt k2 17) (some (.pointer (some ⟨1,(0+k2*1),none⟩))) none)) (AX h10) (eD (keep (hT 2 [oC q7]) (AL q7 (0+k2*1))) (AZ h11) (eC 1 (keep (hT 2 [oC q7]) (bb (Nat.blt k2 17) (some (.pointer (some ⟨1,(0+k2*1),none⟩))) none)) (AX h12) (eD (done (bb (an (Nat.ble ((0+k2*1)+1) (len q7)) true) (some (hT 2 [(oC (BM ([(zI (Aj .i64 (Int.add x1 (1:Int))))]:LV) (0+k2*1) q7))])) none) undef) (Js h13) (eE))))) ?_
     replace hm:=Ae hm;obtain⟨h14,hm⟩:=hm
     exact⟨(n2,q6,z8,z9,z11,z12,(BM ([(zI (Aj .i64 (Int.add x1 (1:Int))))]:LV) (0+k2*1) q7)),hm,(.k [1] [false] [.tmp 4 false] [0,1,4,5,16,17] ⟨Bq h14,trivial⟩)⟩
    ·refine .then (.rK (.ghs (fr 50 [(0,(Cv n0 q1)),(1,zI z0),(4,pt 1 0),(5,.int .u16 z1),(7,(zI (0:Int))),(8,zI z3),(16,zI z2),(17,zI z3)]) (hT 2 [oC q2]) (.k [1] [false] [.tmp 4 false] [0,1,4,5,7,8,16,17] ⟨Bq h6,trivial⟩) ?_))
     refine .block (.loopM (v:=v) (fun y:Nat×LV×Int×Int×Int×Int×Int×Int×LV=>((fr 50 [(0,(Cv y.1 y.2.1)),(1,(zI y.2.2.1)),(4,pt 1 0),(5,(.int .u16 y.2.2.2.1)),(7,(zI y.2.2.2.2.1)),(8,(zI y.2.2.2.2.2.1)),(16,(zI y.2.2.2.2.2.2.1)),(17,(zI y.2.2.2.2.2.2.2.1))]),(hT 2 [(oC y.2.2.2.2.2.2.2.2)]))) (fun w y=>fC pu n (OU pu n w0) w y.1 y.2.1 y.2.2.1 y.2.2.2.1 y.2.2.2.2.1 y.2.2.2.2.2.1 y.2.2.2.2.2.2.1 y.2.2.2.2.2.2.2.1 y.2.2.2.2.2.2.2.2) n ⟨(n0,q1,z0,z1,(0:Int),z3,z2,z3,q2),hm,(.k [1] [false] [.tmp 4 false] [0,1,4,5,7,8,16,17] ⟨Bq h6,trivial⟩)⟩ (fun _=>rfl) ?_)
     rintro w1 ⟨n3,q8,z13,z14,z15,z16,z17,z18,q9⟩ hm
     replace hm:fB pu n (OU pu n w0) (fC pu n (OU pu n w0) w1) n3 q8 z13 z14 z15 z16 z17 z18 q9=some v:=hm
     unfold fB at hm
     refine .then (.then ?_)
     replace hm:=Ab hm;obtain⟨k3,h15,hm⟩:=hm
     obtain rfl:=AR h15
     refine .rK ?_
     replace hm:=Ae hm;obtain⟨h16,hm⟩:=hm
     refine .ghs (fr 50 [(0,(Cv n3 q8)),(1,zI z13),(4,pt 1 0),(5,.int .u16 z14),(7,zI z15),(8,(zI (Int.ofNat k3))),(16,zI z17),(17,zI z18),(25,(zB (Bd (Np .u16 (G6 .u16 z14 k3) (1:Int)) (0:Int))))]) (hT 2 [oC q9]) (.k [1] [false] [.tmp 4 false] [0,1,4,5,7,8,16,17,25] ⟨Bq h16,trivial⟩) ?_
     replace hm:=Ag hm;rcases hm with⟨h17,hm⟩ | ⟨h17,hm⟩
     ·refine BB (Bd (Np .u16 (G6 .u16 z14 k3) (1:Int)) (0:Int)) h17 ?_
      refine .skip (.ghs (fr 50 [(0,(Cv n3 q8)),(1,zI z13),(4,pt 1 0),(5,.int .u16 z14),(7,zI z15),(8,(zI (Int.ofNat k3))),(16,zI z17),(17,zI z18)]) (hT 2 [oC q9]) (.k [1] [false] [.tmp 4 false] [0,1,4,5,7,8,16,17] ⟨Bq h16,trivial⟩) ?_)
      refine .then (.block (.then (.rK (.ghs (fr 50 [(0,(Cv n3 q8)),(1,zI z13),(4,pt 1 0),(5,(.int .u16 (jF .u16 z14 (QW .u16 (1:Int) k3)))),(7,zI z15),(8,(zI (Int.ofNat k3))),(16,zI z17),(17,zI z18)]) (hT 2 [oC q9]) (.k [1] [false] [.tmp 4 false] [0,1,4,5,7,8,16,17] ⟨Bq h16,trivial⟩) ?_))))
      refine .rK (.ghs (fr 50 [(0,(Cv n3 q8)),(1,zI z13),(4,pt 1 0),(5,(.int .u16 (jF .u16 z14 (QW .u16 (1:Int) k3)))),(7,(zI (Aj .i64 (Int.add z15 (1:Int))))),(8,(zI (Int.ofNat k3))),(16,zI z17),(17,zI z18)]) (hT 2 [oC q9]) (.k [1] [false] [.tmp 4 false] [0,1,4,5,7,8,16,17] ⟨Bq h16,trivial⟩) ?_)
      replace hm:=LK hm;obtain⟨s2,h18,hm⟩:=hm
      replace hm:=Ab hm;obtain⟨k4,h19,hm⟩:=hm
      obtain rfl:=AR h19
      replace hm:=Ae hm;obtain⟨h20,hm⟩:=hm
      replace hm:=LK hm;obtain⟨s3,h21,hm⟩:=hm
      replace hm:=Ae hm;obtain⟨h22,hm⟩:=hm
      replace hm:=G9 hm;obtain⟨x2,h23,hm⟩:=hm
      refine .reg (eC 3 (keep (hT 2 [oC q9]) (AL q8 (n3+4))) (AZ h18) (eC 1 (keep (hT 2 [oC q9]) (bb (an (Nat.blt k4 (Sl.n s2)) true) (some (Cv (k4*1) (Sl.cs s2))) none)) (AX h20) (eD (keep (hT 2 [oC q9]) (AL (Sl.cs s2) (k4*1))) (AZ h21) (eC 1 (keep (hT 2 [oC q9]) (bb (an (Nat.blt k3 (Sl.n s3)) true) (some (Cv (k3*1) (Sl.cs s3))) none)) (AX h22) (eD (keep (hT 2 [oC q9]) (AL (Sl.cs s3) (k3*1))) (AZ h23) (eE)))))) ?_
      exact⟨(n3,q8,(Int.ofNat k4),(jF .u16 z14 (QW .u16 (1:Int) k3)),(Aj .i64 (Int.add z15 (1:Int))),x2,z17,z18,q9),hm,(.k [1] [false] [.tmp 4 false] [0,1,4,5,7,8,16,17] ⟨Bq h16,trivial⟩)⟩
     ·refine BI (Bd (Np .u16 (G6 .u16 z14 k3) (1:Int)) (0:Int)) h17 ?_
      refine .exit ?_
      exact⟨(n3,q8,z13,z14,z15,z17,z18,q9),hm,(.k [1] [false] [.tmp 4 false] [0,1,4,5,7,16,17] ⟨Bq h16,trivial⟩)⟩
  ·refine BI (AY z3 z2) h7 ?_
   refine .exit ?_
   exact⟨q2,hm,(.k [1] [false] [.tmp 4 false] [4] ⟨Bq h6,trivial⟩)⟩
def X9 (pu:Af) (n:Nat) (b0:Bool):OV:=
 (bb b0 (some (.int .i64 (1:Int))) (some (.int .i64 (0:Int))))
def Agc (pu:Af) (n:Nat) (p0:Db) (s0:Sl):OV:=
 (oo (AL (Db.cs p0) (((Db.off p0)+0)+0)) none fun v0=>(oo (Bi .i64 v0) none fun x0=>(oo (AL (Db.cs p0) (((Db.off p0)+0)+1)) none fun v1=>(oo (Bi .i64 v1) none fun x1=>(bb (nt (Bd (Int.ofNat (Sl.n s0)) (Aj .i64 (Int.mul x0 x1)))) (some (.int .i64 (5:Int))) (oo (pu 68 [Sl.v 1 s0]) none fun v2=>(oo (Bi .i64 v2) none fun x2=>(bb (AY x2 (0:Int)) (X9 pu n true) (oo (AL (Db.cs p0) (((Db.off p0)+0)+2)) none fun v3=>(oo (Bi .i64 v3) none fun x3=>(oo (pu 69 [Sl.v 1 s0]) none fun v4=>(oo (Bi .i64 v4) none fun x4=>(X9 pu n (nt (AY x4 x3)))))))))))))))
def m58 (pu:Af) (n:Nat) (args:LV):OV:=
 (ll args none fun a0 args=>(ll args none fun a1 args=>(ll args (oo (Pv a0) none fun p0=>(oo (Bj 1 a1) none fun s0=>(Agc pu n p0 s0))) fun _ _=>none)))
theorem r58 {call:A8} (pu:Af) (n:Nat) (hcall:call=Bb tabs isP pu (inl pu)) {args:LV} {v:Value} (hm:m58 pu n args=some v) (_:∀ x∈args,closed2 x=true):args.length≤34∧BN tt call 1 Ua (Fr.made 34 args) (Ao tabs) (Fin tt 1 [.tmp 4] v):=by
 subst hcall
 unfold m58 at hm
 replace hm:=Ad hm;obtain⟨a0,args_0,rfl,hm⟩:=hm
 replace hm:=Ad hm;obtain⟨a1,args_1,rfl,hm⟩:=hm
 replace hm:=AC hm;obtain⟨rfl,hm⟩:=hm
 replace hm:=Ab hm;obtain⟨p0,h0,hm⟩:=hm
 obtain rfl:=F7 h0
 replace hm:=Al hm;obtain⟨s0,rfl,hm⟩:=hm
 unfold Agc at hm
 refine⟨by simp,?_⟩
 refine .same (F':=(fr 34 [(0,(Cv (Db.off p0) (Db.cs p0))),(1,Sl.v 1 s0)])) (H':=Ay) (by kernel_rfl) (by kernel_rfl) ?_
 refine .then (.rK (.ghs (fr 34 [(0,(Cv (Db.off p0) (Db.cs p0))),(1,Sl.v 1 s0)]) Ay (.k0 [false] [] [0,1]) ?_))
 refine .then (.block (.then ?_))
 replace hm:=G9 hm;obtain⟨x0,h1,hm⟩:=hm
 replace hm:=G9 hm;obtain⟨x1,h2,hm⟩:=hm
 refine .reg (eC 6 (keep Ay (AL (Db.cs p0) (((Db.off p0)+0)+0))) (AZ h1) (eC 4 (keep Ay (AL (Db.cs p0) (((Db.off p0)+0)+1))) (AZ h2) (eE))) ?_
 refine .ghs (fr 34 [(0,(Cv (Db.off p0) (Db.cs p0))),(1,Sl.v 1 s0),(5,(zB (nt (Bd (Int.ofNat (Sl.n s0)) (Aj .i64 (Int.mul x0 x1))))))]) Ay (.k0 [false] [] [0,1,5]) ?_
 replace hm:=Ag hm;rcases hm with⟨h3,hm⟩ | ⟨h3,hm⟩
 ·refine BB (nt (Bd (Int.ofNat (Sl.n s0)) (Aj .i64 (Int.mul x0 x1)))) h3 ?_
  refine .then (.rK (.ghs (fr 34 [(4,(zI (5:Int)))]) Ay (.k0 [false] [] [4]) ?_))
  refine .ret ?_
  exact AO (zI (5:Int)) hm
 ·refine BI (nt (Bd (Int.ofNat (Sl.n s0)) (Aj .i64 (Int.mul x0 x1)))) h3 ?_
  refine .join (v:=v) (fun y:Bool=>((fr 34 [(20,zB y)]),Ay)) (fun y=>X9 pu n y) ?_ ?_
  ·rintro b0 hm
   unfold X9 at hm
   replace hm:=Ag hm;rcases hm with⟨h4,hm⟩ | ⟨h4,hm⟩
   ·refine .ifT b0 (by kernel_rfl) h4 ?_
    refine .then (.rK (.ghs (fr 34 [(4,(zI (1:Int)))]) Ay (.k0 [false] [] [4]) ?_))
    refine .ret ?_
    exact AO (zI (1:Int)) hm
   ·refine .ifF b0 (by kernel_rfl) h4 ?_
    refine .skip (.ghs (fr 34 []) Ay (.k0 [false] [] []) ?_)
    refine .then (.rK (.ghs (fr 34 [(4,(zI (0:Int)))]) Ay (.k0 [false] [] [4]) ?_))
    refine .ret ?_
    exact AO (zI (0:Int)) hm
  ·replace hm:=G9 hm;obtain⟨x2,h5,hm⟩:=hm
   replace hm:=Ag hm;rcases hm with⟨h6,hm⟩ | ⟨h6,hm⟩
   ·refine .reg (eC 1 ((oo (pu 68 [Sl.v 1 s0]) none fun v=>some (v,Ay))) (AB h5) (eD (some ((zB (AY x2 (0:Int))),Ay)) (show _=some ((zB true),_) from (by rw[show (AY x2 (0:Int))=true from h6])) (eE))) ?_
    exact⟨true,hm,(.k0 [false] [] [20])⟩
   ·replace hm:=G9 hm;obtain⟨x3,h7,hm⟩:=hm
    replace hm:=G9 hm;obtain⟨x4,h8,hm⟩:=hm
    refine .reg (eC 1 ((oo (pu 68 [Sl.v 1 s0]) none fun v=>some (v,Ay))) (AB h5) (eD (some ((zB (AY x2 (0:Int))),Ay)) (show _=some ((zB false),_) from (by rw[show (AY x2 (0:Int))=false from h6])) (eC 6 (keep Ay (AL (Db.cs p0) (((Db.off p0)+0)+2))) (AZ h7) (eD ((oo (pu 69 [Sl.v 1 s0]) none fun v=>some (v,Ay))) (AB h8) (eE))))) ?_
    exact⟨(nt (AY x4 x3)),hm,(.k0 [false] [] [20])⟩

def Aau (pu:Af) (n:Nat) (x0 x1:Int):OV:=
 (oo (pu 74 [.int .i64 x0]) none fun v0=>(oo (Bf v0) none fun b0=>(oo (pu 74 [.int .i64 x1]) none fun v1=>(oo (Bf v1) none fun b1=>(bb b0 (bb b1 (some (.int .i64 (0:Int))) (some (.int .i64 (-1:Int)))) (bb b1 (some (.int .i64 (1:Int))) (bb (AY x0 x1) (some (.int .i64 (-1:Int))) (bb (AY x1 x0) (some (.int .i64 (1:Int))) (some (.int .i64 (0:Int)))))))))))
def m65 (pu:Af) (n:Nat) (args:LV):OV:=
 (ll args none fun a0 args=>(ll args none fun a1 args=>(ll args (oo (Bi .i64 a0) none fun x0=>(oo (Bi .i64 a1) none fun x1=>(Aau pu n x0 x1))) fun _ _=>none)))
theorem r65 {call:A8} (pu:Af) (n:Nat) (hcall:call=Bb tabs isP pu (inl pu)) {args:LV} {v:Value} (hm:m65 pu n args=some v) (_:∀ x∈args,closed2 x=true):args.length≤20∧BN tt call 1 Ub (Fr.made 20 args) (Ao tabs) (Fin tt 1 [.tmp 4] v):=by
 subst hcall
 unfold m65 at hm
 replace hm:=Ad hm;obtain⟨a0,args_0,rfl,hm⟩:=hm
 replace hm:=Ad hm;obtain⟨a1,args_1,rfl,hm⟩:=hm
 replace hm:=AC hm;obtain⟨rfl,hm⟩:=hm
 replace hm:=Ai hm;obtain⟨x0,rfl,hm⟩:=hm
 replace hm:=Ai hm;obtain⟨x1,rfl,hm⟩:=hm
 unfold Aau at hm
 refine⟨by simp,?_⟩
 refine .same (F':=(fr 20 [(0,zI x0),(1,zI x1)])) (H':=Ay) (by kernel_rfl) (by kernel_rfl) ?_
 refine .then (.rK (.ghs (fr 20 [(0,zI x0),(1,zI x1)]) Ay (.k0 [false] [] [0,1]) ?_))
 refine .then ?_
 replace hm:=dV hm;obtain⟨b0,h0,hm⟩:=hm
 refine .reg (eC 1 ((oo (pu 74 [zI x0]) none fun v=>some (v,Ay))) (AB h0) (eE)) ?_
 refine .ghs (fr 20 [(0,zI x0),(1,zI x1),(5,zB b0)]) Ay (.k0 [false] [] [0,1,5]) ?_
 refine .then ?_
 replace hm:=dV hm;obtain⟨b1,h1,hm⟩:=hm
 refine .reg (eC 1 ((oo (pu 74 [zI x1]) none fun v=>some (v,Ay))) (AB h1) (eE)) ?_
 refine .ghs (fr 20 [(0,zI x0),(1,zI x1),(5,zB b0),(6,zB b1)]) Ay (.k0 [false] [] [0,1,5,6]) ?_
 refine .then (.then (.rK (.ghs (fr 20 [(0,zI x0),(1,zI x1),(6,zB b1),(11,zB b0)]) Ay (.k0 [false] [] [0,1,6,11]) ?_)))
 replace hm:=Ag hm;rcases hm with⟨h2,hm⟩ | ⟨h2,hm⟩
 ·refine .ifT b0 (by kernel_rfl) h2 ?_
  refine .then (.then (.rK (.ghs (fr 20 [(12,zB b1)]) Ay (.k0 [false] [] [12]) ?_)))
  replace hm:=Ag hm;rcases hm with⟨h3,hm⟩ | ⟨h3,hm⟩
  ·refine .ifT b1 (by kernel_rfl) h3 ?_
   refine .then (.rK (.ghs (fr 20 [(4,(zI (0:Int)))]) Ay (.k0 [false] [] [4]) ?_))
   refine .ret ?_
   exact AO (zI (0:Int)) hm
  ·refine .ifF b1 (by kernel_rfl) h3 ?_
   refine .skip (.ghs (fr 20 []) Ay (.k0 [false] [] []) ?_)
   refine .then (.rK (.ghs (fr 20 [(4,(zI (-1:Int)))]) Ay (.k0 [false] [] [4]) ?_))
   refine .ret ?_
   exact AO (zI (-1:Int)) hm
 ·refine .ifF b0 (by kernel_rfl) h2 ?_
  refine .skip (.ghs (fr 20 [(0,zI x0),(1,zI x1),(6,zB b1)]) Ay (.k0 [false] [] [0,1,6]) ?_)
  refine .then (.then (.rK (.ghs (fr 20 [(0,zI x0),(1,zI x1),(13,zB b1)]) Ay (.k0 [false] [] [0,1,13]) ?_)))
  replace hm:=Ag hm;rcases hm with⟨h4,hm⟩ | ⟨h4,hm⟩
  ·refine .ifT b1 (by kernel_rfl) h4 ?_
   refine .then (.rK (.ghs (fr 20 [(4,(zI (1:Int)))]) Ay (.k0 [false] [] [4]) ?_))
   refine .ret ?_
   exact AO (zI (1:Int)) hm
  ·refine .ifF b1 (by kernel_rfl) h4 ?_
   refine .skip (.ghs (fr 20 [(0,zI x0),(1,zI x1)]) Ay (.k0 [false] [] [0,1]) ?_)
   refine .then (.then (.rK (.ghs (fr 20 [(0,zI x0),(1,zI x1),(16,(zB (AY x0 x1)))]) Ay (.k0 [false] [] [0,1,16]) ?_)))
   replace hm:=Ag hm;rcases hm with⟨h5,hm⟩ | ⟨h5,hm⟩
   ·refine BB (AY x0 x1) h5 ?_
    refine .then (.rK (.ghs (fr 20 [(4,(zI (-1:Int)))]) Ay (.k0 [false] [] [4]) ?_))
    refine .ret ?_
    exact AO (zI (-1:Int)) hm
   ·refine BI (AY x0 x1) h5 ?_
    refine .skip (.ghs (fr 20 [(0,zI x0),(1,zI x1)]) Ay (.k0 [false] [] [0,1]) ?_)
    refine .then (.then (.rK (.ghs (fr 20 [(19,(zB (AY x1 x0)))]) Ay (.k0 [false] [] [19]) ?_)))
    replace hm:=Ag hm;rcases hm with⟨h6,hm⟩ | ⟨h6,hm⟩
    ·refine BB (AY x1 x0) h6 ?_
     refine .then (.rK (.ghs (fr 20 [(4,(zI (1:Int)))]) Ay (.k0 [false] [] [4]) ?_))
     refine .ret ?_
     exact AO (zI (1:Int)) hm
    ·refine BI (AY x1 x0) h6 ?_
     refine .skip (.ghs (fr 20 []) Ay (.k0 [false] [] []) ?_)
     refine .then (.rK (.ghs (fr 20 [(4,(zI (0:Int)))]) Ay (.k0 [false] [] [4]) ?_))
     refine .ret ?_
     exact AO (zI (0:Int)) hm
def Ya (pu:Af) (n:Nat) (z0:Int):OV:=
 (some (.int .i64 z0))
def PM (pu:Af) (n:Nat) (ih0:Sl→Int→Int→OV) (s0:Sl) (z0 z1:Int):OV:=
 (bb (AY z1 (Int.ofNat (Sl.n s0))) (oo (EA z1) none fun k1=>(bb (an (Nat.blt k1 (Sl.n s0)) true) (oo (AL (Sl.cs s0) (k1*1)) none fun v0=>(oo (Bi .i64 v0) none fun x0=>(ih0 s0 (bb (AY x0 z0) x0 z0) (Aj .i64 (Int.add (Int.ofNat k1) (1:Int)))))) none)) (Ya pu n z0))
def OW (pu:Af) (n w:Nat):Sl→Int→Int→OV:=
 Nat.rec (motive:=fun _=>Sl→Int→Int→OV) (fun _ _ _=>none) (fun _ ih0=>PM pu n ih0) w
def Yb (pu:Af) (n:Nat) (s0:Sl):OV:=
 (bb (an (Nat.blt 0 (Sl.n s0)) true) (oo (AL (Sl.cs s0) (0*1)) none fun v0=>(oo (Bi .i64 v0) none fun x0=>(OW pu n n s0 x0 (1:Int)))) none)
def Agf (pu:Af) (n:Nat) (s0:Sl):OV:=
 (bb (AY (Int.ofNat (Sl.n s0)) (1:Int)) none (Yb pu n s0))
def m68 (pu:Af) (n:Nat) (args:LV):OV:=
 (ll args none fun a0 args=>(ll args (oo (Bj 1 a0) none fun s0=>(Agf pu n s0)) fun _ _=>none))
theorem Agh (pu:Af) (n:Nat) (z0:Int) {v:Value} (hm:Ya pu n z0=some v):BN tt (Bb tabs isP pu (inl pu)) 1 cB (fr 25 [(3,zI z0)]) Ay (Fin tt 1 [.tmp 2] v):=by
 unfold Ya at hm
 refine .then (.rK (.ghs (fr 25 [(2,zI z0)]) Ay (.k0 [false] [] [2]) ?_))
 refine .ret ?_
 exact AO (zI z0) hm
theorem Agi (pu:Af) (n:Nat) (s0:Sl) {v:Value} (hm:Yb pu n s0=some v):BN tt (Bb tabs isP pu (inl pu)) 1 cK (fr 25 [(0,Sl.v 1 s0)]) Ay (Fin tt 1 [.tmp 2] v):=by
 unfold Yb at hm
 refine .then ?_
 replace hm:=Ae hm;obtain⟨h0,hm⟩:=hm
 replace hm:=G9 hm;obtain⟨x0,h1,hm⟩:=hm
 refine .reg (eC 1 (keep Ay (bb (an (Nat.blt 0 (Sl.n s0)) true) (some (Cv (0*1) (Sl.cs s0))) none)) (AX h0) (eD (keep Ay (AL (Sl.cs s0) (0*1))) (AZ h1) (eE))) ?_
 refine .ghs (fr 25 [(0,Sl.v 1 s0),(3,zI x0)]) Ay (.k0 [false] [] [0,3]) ?_
 refine .join (v:=v) (fun y:Int=>((fr 25 [(3,zI y)]),Ay)) (fun y=>Ya pu n y) ?_ ?_
 ·rintro z0 hm
  exact Agh pu n z0 hm
 ·refine .then (.rK (.ghs (fr 25 [(0,Sl.v 1 s0),(3,zI x0),(4,(zI (1:Int)))]) Ay (.k0 [false] [] [0,3,4]) ?_))
  refine .block (.loopM (v:=v) (fun y:Sl×Int×Int=>((fr 25 [(0,(Sl.v 1 y.1)),(3,(zI y.2.1)),(4,(zI y.2.2))]),Ay)) (fun w y=>OW pu n w y.1 y.2.1 y.2.2) n ⟨(s0,x0,(1:Int)),hm,(.k0 [false] [] [0,3,4])⟩ (fun _=>rfl) ?_)
  rintro w0 ⟨s1,z1,z2⟩ hm
  replace hm:PM pu n (OW pu n w0) s1 z1 z2=some v:=hm
  unfold PM at hm
  refine .then (.then (.rK (.ghs (fr 25 [(0,Sl.v 1 s1),(3,zI z1),(4,zI z2),(15,(zB (AY z2 (Int.ofNat (Sl.n s1)))))]) Ay (.k0 [false] [] [0,3,4,15]) ?_)))
  replace hm:=Ag hm;rcases hm with⟨h2,hm⟩ | ⟨h2,hm⟩
  ·refine BB (AY z2 (Int.ofNat (Sl.n s1))) h2 ?_
   refine .skip (.ghs (fr 25 [(0,Sl.v 1 s1),(3,zI z1),(4,zI z2)]) Ay (.k0 [false] [] [0,3,4]) ?_)
   refine .then (.block ?_)
   replace hm:=Ab hm;obtain⟨k1,h3,hm⟩:=hm
   obtain rfl:=AR h3
   replace hm:=Ae hm;obtain⟨h4,hm⟩:=hm
   replace hm:=G9 hm;obtain⟨x1,h5,hm⟩:=hm
   refine .reg (eC 3 (keep Ay (bb (an (Nat.blt k1 (Sl.n s1)) true) (some (Cv (k1*1) (Sl.cs s1))) none)) (AX h4) (eD (keep Ay (AL (Sl.cs s1) (k1*1))) (AZ h5) (eE))) ?_
   refine .ghs (fr 25 [(0,Sl.v 1 s1),(3,(zI (bb (AY x1 z1) x1 z1))),(4,(zI (Int.ofNat k1)))]) Ay (.k0 [false] [] [0,3,4]) ?_
   refine .rK ?_
   exact⟨(s1,(bb (AY x1 z1) x1 z1),(Aj .i64 (Int.add (Int.ofNat k1) (1:Int)))),hm,(.k0 [false] [] [0,3,4])⟩
  ·refine BI (AY z2 (Int.ofNat (Sl.n s1))) h2 ?_
   refine .exit ?_
   exact⟨z1,hm,(.k0 [false] [] [3])⟩
theorem r68 {call:A8} (pu:Af) (n:Nat) (hcall:call=Bb tabs isP pu (inl pu)) {args:LV} {v:Value} (hm:m68 pu n args=some v) (_:∀ x∈args,closed2 x=true):args.length≤25∧BN tt call 1 Ud (Fr.made 25 args) (Ao tabs) (Fin tt 1 [.tmp 2] v):=by
 subst hcall
 unfold m68 at hm
 replace hm:=Ad hm;obtain⟨a0,args_0,rfl,hm⟩:=hm
 replace hm:=AC hm;obtain⟨rfl,hm⟩:=hm
 replace hm:=Al hm;obtain⟨s0,rfl,hm⟩:=hm
 unfold Agf at hm
 refine⟨by simp,?_⟩
 refine .same (F':=(fr 25 [(0,Sl.v 1 s0)])) (H':=Ay) (by kernel_rfl) (by kernel_rfl) ?_
 refine .then (.rK (.ghs (fr 25 [(0,Sl.v 1 s0)]) Ay (.k0 [false] [] [0]) ?_))
 refine .join (v:=v) (fun y:Sl=>((fr 25 [(0,Sl.v 1 y)]),Ay)) (fun y=>Yb pu n y) ?_ ?_
 ·rintro s1 hm
  exact Agi pu n s1 hm
 ·refine .then (.rK (.ghs (fr 25 [(0,Sl.v 1 s0),(7,(zB (AY (Int.ofNat (Sl.n s0)) (1:Int))))]) Ay (.k0 [false] [] [0,7]) ?_))
  replace hm:=Ag hm;rcases hm with⟨h0,hm⟩ | ⟨h0,hm⟩
  ·refine BB (AY (Int.ofNat (Sl.n s0)) (1:Int)) h0 ?_
   cases hm
  ·refine BI (AY (Int.ofNat (Sl.n s0)) (1:Int)) h0 ?_
   refine .skip ?_
   exact⟨s0,hm,(.k0 [false] [] [0])⟩
def Yc (pu:Af) (n:Nat) (z0:Int):OV:=
 (some (.int .i64 z0))
def PN (pu:Af) (n:Nat) (ih0:Sl→Int→Int→OV) (s0:Sl) (z0 z1:Int):OV:=
 (bb (AY z1 (Int.ofNat (Sl.n s0))) (oo (EA z1) none fun k1=>(bb (an (Nat.blt k1 (Sl.n s0)) true) (oo (AL (Sl.cs s0) (k1*1)) none fun v0=>(oo (Bi .i64 v0) none fun x0=>(ih0 s0 (bb (AY z0 x0) x0 z0) (Aj .i64 (Int.add (Int.ofNat k1) (1:Int)))))) none)) (Yc pu n z0))
def OX (pu:Af) (n w:Nat):Sl→Int→Int→OV:=
 Nat.rec (motive:=fun _=>Sl→Int→Int→OV) (fun _ _ _=>none) (fun _ ih0=>PN pu n ih0) w
def Yd (pu:Af) (n:Nat) (s0:Sl):OV:=
 (bb (an (Nat.blt 0 (Sl.n s0)) true) (oo (AL (Sl.cs s0) (0*1)) none fun v0=>(oo (Bi .i64 v0) none fun x0=>(OX pu n n s0 x0 (1:Int)))) none)
def Agj (pu:Af) (n:Nat) (s0:Sl):OV:=
 (bb (AY (Int.ofNat (Sl.n s0)) (1:Int)) none (Yd pu n s0))
def m69 (pu:Af) (n:Nat) (args:LV):OV:=
 (ll args none fun a0 args=>(ll args (oo (Bj 1 a0) none fun s0=>(Agj pu n s0)) fun _ _=>none))
theorem Agl (pu:Af) (n:Nat) (z0:Int) {v:Value} (hm:Yc pu n z0=some v):BN tt (Bb tabs isP pu (inl pu)) 1 cO (fr 25 [(3,zI z0)]) Ay (Fin tt 1 [.tmp 2] v):=by
 unfold Yc at hm
 refine .then (.rK (.ghs (fr 25 [(2,zI z0)]) Ay (.k0 [false] [] [2]) ?_))
 refine .ret ?_
 exact AO (zI z0) hm
theorem Agm (pu:Af) (n:Nat) (s0:Sl) {v:Value} (hm:Yd pu n s0=some v):BN tt (Bb tabs isP pu (inl pu)) 1 cZ (fr 25 [(0,Sl.v 1 s0)]) Ay (Fin tt 1 [.tmp 2] v):=by
 unfold Yd at hm
 refine .then ?_
 replace hm:=Ae hm;obtain⟨h0,hm⟩:=hm
 replace hm:=G9 hm;obtain⟨x0,h1,hm⟩:=hm
 refine .reg (eC 1 (keep Ay (bb (an (Nat.blt 0 (Sl.n s0)) true) (some (Cv (0*1) (Sl.cs s0))) none)) (AX h0) (eD (keep Ay (AL (Sl.cs s0) (0*1))) (AZ h1) (eE))) ?_
 refine .ghs (fr 25 [(0,Sl.v 1 s0),(3,zI x0)]) Ay (.k0 [false] [] [0,3]) ?_
 refine .join (v:=v) (fun y:Int=>((fr 25 [(3,zI y)]),Ay)) (fun y=>Yc pu n y) ?_ ?_
 ·rintro z0 hm
  exact Agl pu n z0 hm
 ·refine .then (.rK (.ghs (fr 25 [(0,Sl.v 1 s0),(3,zI x0),(4,(zI (1:Int)))]) Ay (.k0 [false] [] [0,3,4]) ?_))
  refine .block (.loopM (v:=v) (fun y:Sl×Int×Int=>((fr 25 [(0,(Sl.v 1 y.1)),(3,(zI y.2.1)),(4,(zI y.2.2))]),Ay)) (fun w y=>OX pu n w y.1 y.2.1 y.2.2) n ⟨(s0,x0,(1:Int)),hm,(.k0 [false] [] [0,3,4])⟩ (fun _=>rfl) ?_)
  rintro w0 ⟨s1,z1,z2⟩ hm
  replace hm:PN pu n (OX pu n w0) s1 z1 z2=some v:=hm
  unfold PN at hm
  refine .then (.then (.rK (.ghs (fr 25 [(0,Sl.v 1 s1),(3,zI z1),(4,zI z2),(15,(zB (AY z2 (Int.ofNat (Sl.n s1)))))]) Ay (.k0 [false] [] [0,3,4,15]) ?_)))
  replace hm:=Ag hm;rcases hm with⟨h2,hm⟩ | ⟨h2,hm⟩
  ·refine BB (AY z2 (Int.ofNat (Sl.n s1))) h2 ?_
   refine .skip (.ghs (fr 25 [(0,Sl.v 1 s1),(3,zI z1),(4,zI z2)]) Ay (.k0 [false] [] [0,3,4]) ?_)
   refine .then (.block ?_)
   replace hm:=Ab hm;obtain⟨k1,h3,hm⟩:=hm
   obtain rfl:=AR h3
   replace hm:=Ae hm;obtain⟨h4,hm⟩:=hm
   replace hm:=G9 hm;obtain⟨x1,h5,hm⟩:=hm
   refine .reg (eC 3 (keep Ay (bb (an (Nat.blt k1 (Sl.n s1)) true) (some (Cv (k1*1) (Sl.cs s1))) none)) (AX h4) (eD (keep Ay (AL (Sl.cs s1) (k1*1))) (AZ h5) (eE))) ?_
   refine .ghs (fr 25 [(0,Sl.v 1 s1),(3,(zI (bb (AY z1 x1) x1 z1))),(4,(zI (Int.ofNat k1)))]) Ay (.k0 [false] [] [0,3,4]) ?_
   refine .rK ?_
   exact⟨(s1,(bb (AY z1 x1) x1 z1),(Aj .i64 (Int.add (Int.ofNat k1) (1:Int)))),hm,(.k0 [false] [] [0,3,4])⟩
  ·refine BI (AY z2 (Int.ofNat (Sl.n s1))) h2 ?_
   refine .exit ?_
   exact⟨z1,hm,(.k0 [false] [] [3])⟩
theorem r69 {call:A8} (pu:Af) (n:Nat) (hcall:call=Bb tabs isP pu (inl pu)) {args:LV} {v:Value} (hm:m69 pu n args=some v) (_:∀ x∈args,closed2 x=true):args.length≤25∧BN tt call 1 Ue (Fr.made 25 args) (Ao tabs) (Fin tt 1 [.tmp 2] v):=by
 subst hcall
 unfold m69 at hm
 replace hm:=Ad hm;obtain⟨a0,args_0,rfl,hm⟩:=hm
 replace hm:=AC hm;obtain⟨rfl,hm⟩:=hm
 replace hm:=Al hm;obtain⟨s0,rfl,hm⟩:=hm
 unfold Agj at hm
 refine⟨by simp,?_⟩
 refine .same (F':=(fr 25 [(0,Sl.v 1 s0)])) (H':=Ay) (by kernel_rfl) (by kernel_rfl) ?_
 refine .then (.rK (.ghs (fr 25 [(0,Sl.v 1 s0)]) Ay (.k0 [false] [] [0]) ?_))
 refine .join (v:=v) (fun y:Sl=>((fr 25 [(0,Sl.v 1 y)]),Ay)) (fun y=>Yd pu n y) ?_ ?_
 ·rintro s1 hm
  exact Agm pu n s1 hm
 ·refine .then (.rK (.ghs (fr 25 [(0,Sl.v 1 s0),(7,(zB (AY (Int.ofNat (Sl.n s0)) (1:Int))))]) Ay (.k0 [false] [] [0,7]) ?_))
  replace hm:=Ag hm;rcases hm with⟨h0,hm⟩ | ⟨h0,hm⟩
  ·refine BB (AY (Int.ofNat (Sl.n s0)) (1:Int)) h0 ?_
   cases hm
  ·refine BI (AY (Int.ofNat (Sl.n s0)) (1:Int)) h0 ?_
   refine .skip ?_
   exact⟨s0,hm,(.k0 [false] [] [0])⟩
end
end Go.BkMM
