/- Made from wip. -/
import Derived.Test.YtflonlkiajhhjaaGreatDoorTpEMod0x
import Derived.Test.YtflonlkiajhhjaaGreatDoorTpEMod1
import Derived.Test.YtflonlkiajhhjaaGreatDoorTpEMod2
import Derived.Test.YtflonlkiajhhjaaGreatDoorTpEMod3
import Derived.Test.YtflonlkiajhhjaaGreatDoorTpEMod4
import Derived.Test.YtflonlkiajhhjaaGreatDoorTpEMod5

set_option maxRecDepth 100000
set_option maxHeartbeats 20000000
set_option linter.unusedVariables false
namespace Go.TpEM
open Go.Sp Go.TpE
noncomputable section

def uV (pu:Af) (n:Nat) (x0:Int):OV:=
 (bb (Bd x0 (4:Int)) (some (.agg ⟨[(.int .i64 (0:Int)),(.bool true)]⟩)) (bb (Bd x0 (5:Int)) (some (.agg ⟨[(.int .i64 (2:Int)),(.bool true)]⟩)) (bb (Bd x0 (6:Int)) (some (.agg ⟨[(.int .i64 (1:Int)),(.bool true)]⟩)) (bb (Bd x0 (7:Int)) (some (.agg ⟨[(.int .i64 (3:Int)),(.bool true)]⟩)) (some (.agg ⟨[.int .i64 x0,(.bool false)]⟩))))))
def rP (pu:Af) (n:Nat) (args:LV):OV:=
 (ll args none fun a0 args=>(ll args (oo (Bi .i64 a0) none fun x0=>(uV pu n x0)) fun _ _=>none))
theorem AjN {call:A8} (pu:Af) (n:Nat) (hcall:call=Bb tabs isP pu (inl pu)) {args:LV} {v:Value} (hm:rP pu n args=some v) (_:∀ x∈args,closed2 x=true):args.length≤18∧BN tt call 2 LM (Fr.made 18 args) (Ao tabs) (Fin tt 2 [.cell 2 208] v):=by
 subst hcall
 unfold rP at hm
 replace hm:=Ad hm;obtain⟨a0,args_0,rfl,hm⟩:=hm
 replace hm:=AC hm;obtain⟨rfl,hm⟩:=hm
 replace hm:=Ai hm;obtain⟨x0,rfl,hm⟩:=hm
 unfold uV at hm
 refine⟨by simp,?_⟩
 refine .same (F':=(fr 18 [(0,zI x0)])) (H':=(hT 2 [(.cells Ay true false [])])) (by kernel_rfl) (by kernel_rfl) ?_
 refine .then (.rK (.ghs (fr 18 [(0,zI x0),(2,(pt 2 0))]) (hT 3 [(.cells Ay true false []),(oC [(zI (0:Int)),zB false])]) (.k0 [false,false] [.tmp 2 false] [0,2]) ?_))
 refine .then (.then (.rK (.ghs (fr 18 [(0,zI x0),(2,(pt 2 0)),(3,zI x0)]) (hT 3 [(.cells Ay true false []),(oC [(zI (0:Int)),zB false])]) (.k0 [false,false] [.tmp 2 false] [0,2,3]) ?_)))
 refine .block (.then (.rK (.ghs (fr 18 [(0,zI x0),(2,(pt 2 0)),(3,zI x0),(4,(zB (Bd x0 (4:Int))))]) (hT 3 [(.cells Ay true false []),(oC [(zI (0:Int)),zB false])]) (.k0 [false,false] [.tmp 2 false] [0,2,3,4]) ?_)))
 replace hm:=Ag hm;rcases hm with⟨h0,hm⟩ | ⟨h0,hm⟩
 ·refine BB (Bd x0 (4:Int)) h0 ?_
  refine .then (.rK (.ghs (fr 18 [(2,(pt 2 0))]) (hT 3 [(.cells Ay true false []),(oC [(zI (0:Int)),zB true])]) (.k0 [false,false] [.tmp 2 false] [2]) ?_))
  refine .ret ?_
  exact AO (.agg ⟨[(zI (0:Int)),zB true]⟩) hm
 ·refine BI (Bd x0 (4:Int)) h0 ?_
  refine .then (.rK (.ghs (fr 18 [(0,zI x0),(2,(pt 2 0)),(3,zI x0),(7,(zB (Bd x0 (5:Int))))]) (hT 3 [(.cells Ay true false []),(oC [(zI (0:Int)),zB false])]) (.k0 [false,false] [.tmp 2 false] [0,2,3,7]) ?_))
  replace hm:=Ag hm;rcases hm with⟨h1,hm⟩ | ⟨h1,hm⟩
  ·refine BB (Bd x0 (5:Int)) h1 ?_
   refine .then (.rK (.ghs (fr 18 [(2,(pt 2 0))]) (hT 3 [(.cells Ay true false []),(oC [(zI (2:Int)),zB true])]) (.k0 [false,false] [.tmp 2 false] [2]) ?_))
   refine .ret ?_
   exact AO (.agg ⟨[(zI (2:Int)),zB true]⟩) hm
  ·refine BI (Bd x0 (5:Int)) h1 ?_
   refine .then (.rK (.ghs (fr 18 [(0,zI x0),(2,(pt 2 0)),(3,zI x0),(10,(zB (Bd x0 (6:Int))))]) (hT 3 [(.cells Ay true false []),(oC [(zI (0:Int)),zB false])]) (.k0 [false,false] [.tmp 2 false] [0,2,3,10]) ?_))
   replace hm:=Ag hm;rcases hm with⟨h2,hm⟩ | ⟨h2,hm⟩
   ·refine BB (Bd x0 (6:Int)) h2 ?_
    refine .then (.rK (.ghs (fr 18 [(2,(pt 2 0))]) (hT 3 [(.cells Ay true false []),(oC [(zI (1:Int)),zB true])]) (.k0 [false,false] [.tmp 2 false] [2]) ?_))
    refine .ret ?_
    exact AO (.agg ⟨[(zI (1:Int)),zB true]⟩) hm
   ·refine BI (Bd x0 (6:Int)) h2 ?_
    refine .then (.rK (.ghs (fr 18 [(0,zI x0),(2,(pt 2 0)),(13,(zB (Bd x0 (7:Int))))]) (hT 3 [(.cells Ay true false []),(oC [(zI (0:Int)),zB false])]) (.k0 [false,false] [.tmp 2 false] [0,2,13]) ?_))
    replace hm:=Ag hm;rcases hm with⟨h3,hm⟩ | ⟨h3,hm⟩
    ·refine BB (Bd x0 (7:Int)) h3 ?_
     refine .then (.rK (.ghs (fr 18 [(2,(pt 2 0))]) (hT 3 [(.cells Ay true false []),(oC [(zI (3:Int)),zB true])]) (.k0 [false,false] [.tmp 2 false] [2]) ?_))
     refine .ret ?_
     exact AO (.agg ⟨[(zI (3:Int)),zB true]⟩) hm
    ·refine BI (Bd x0 (7:Int)) h3 ?_
     refine .skip (.ghs (fr 18 [(0,zI x0),(2,(pt 2 0))]) (hT 3 [(.cells Ay true false []),(oC [(zI (0:Int)),zB false])]) (.k0 [false,false] [.tmp 2 false] [0,2]) ?_)
     refine .then (.rK (.ghs (fr 18 [(2,(pt 2 0))]) (hT 3 [(.cells Ay true false []),(oC [zI x0,zB false])]) (.k0 [false,false] [.tmp 2 false] [2]) ?_))
     refine .ret ?_
     exact AO (.agg ⟨[zI x0,zB false]⟩) hm
def Nf (pu:Af) (n:Nat) (z0:Int) (b0:Bool) (z1:Int) (b1:Bool) (z2:Int) (b2:Bool):OV:=
 (some (.agg ⟨[(.int .i64 (Aj .i64 (Int.add z0 z1))),(.bool (bq false (bq b0 b1)))]⟩))
def uW (pu:Af) (n:Nat) (x0:Int) (b0:Bool) (x1:Int) (b1:Bool):OV:=
 (bb b0 (Nf pu n x0 b0 (Aj .i64 (Int.sub (.ofNat 0) x1)) b1 (0:Int) false) (Nf pu n x0 b0 x1 b1 (0:Int) false))
def rQ (pu:Af) (n:Nat) (args:LV):OV:=
 (ll args none fun a0 args=>(ll args none fun a1 args=>(ll args (oo (Bt a0) none fun l0=>(ll l0 none fun v0 l0=>(ll l0 none fun v1 l0=>(ll l0 (oo (Bi .i64 v0) none fun x0=>(oo (Bf v1) none fun b0=>(oo (Bt a1) none fun l1=>(ll l1 none fun v2 l1=>(ll l1 none fun v3 l1=>(ll l1 (oo (Bi .i64 v2) none fun x1=>(oo (Bf v3) none fun b1=>(uW pu n x0 b0 x1 b1))) fun _ _=>none)))))) fun _ _=>none)))) fun _ _=>none)))
theorem AbP (pu:Af) (n:Nat) (z0:Int) (b0:Bool) (z1:Int) (b1:Bool) (z2:Int) (b2:Bool) {v:Value} (hm:Nf pu n z0 b0 z1 b1 z2 b2=some v):BN tt (Bb tabs isP pu (inl pu)) 2 X7 (fr 22 [(2,(pt 2 0)),(3,(pt 3 0)),(4,(pt 4 0))]) (hT 5 [(.cells Ay true false []),(oC [zI z0,zB b0]),(oC [zI z1,zB b1]),(oC [zI z2,zB b2])]) (Fin tt 2 [.cell 4 208] v):=by
 unfold Nf at hm
 refine .then (.rK (.ghs (fr 22 [(4,(pt 2 0))]) (hT 3 [(.cells Ay true false []),(oC [(zI (Aj .i64 (Int.add z0 z1))),(zB (bq false (bq b0 b1)))])]) (.k0 [false,false] [.tmp 4 false] [4]) ?_))
 refine .ret ?_
 exact AO (.agg ⟨[(zI (Aj .i64 (Int.add z0 z1))),(zB (bq false (bq b0 b1)))]⟩) hm
theorem AjO {call:A8} (pu:Af) (n:Nat) (hcall:call=Bb tabs isP pu (inl pu)) {args:LV} {v:Value} (hm:rQ pu n args=some v) (_:∀ x∈args,closed2 x=true):args.length≤22∧BN tt call 2 PQ (Fr.made 22 args) (Ao tabs) (Fin tt 2 [.cell 4 208] v):=by
 subst hcall
 unfold rQ at hm
 replace hm:=Ad hm;obtain⟨a0,args_0,rfl,hm⟩:=hm
 replace hm:=Ad hm;obtain⟨a1,args_1,rfl,hm⟩:=hm
 replace hm:=AC hm;obtain⟨rfl,hm⟩:=hm
 replace hm:=BG hm;obtain⟨l0,rfl,hm⟩:=hm
 replace hm:=Ad hm;obtain⟨v0,l12015_0,rfl,hm⟩:=hm
 replace hm:=Ad hm;obtain⟨v1,l12015_1,rfl,hm⟩:=hm
 replace hm:=AC hm;obtain⟨rfl,hm⟩:=hm
 replace hm:=Ai hm;obtain⟨x0,rfl,hm⟩:=hm
 replace hm:=Be hm;obtain⟨b0,rfl,hm⟩:=hm
 replace hm:=BG hm;obtain⟨l1,rfl,hm⟩:=hm
 replace hm:=Ad hm;obtain⟨v2,l12023_0,rfl,hm⟩:=hm
 replace hm:=Ad hm;obtain⟨v3,l12023_1,rfl,hm⟩:=hm
 replace hm:=AC hm;obtain⟨rfl,hm⟩:=hm
 replace hm:=Ai hm;obtain⟨x1,rfl,hm⟩:=hm
 replace hm:=Be hm;obtain⟨b1,rfl,hm⟩:=hm
 unfold uW at hm
 refine⟨by simp,?_⟩
 refine .same (F':=(fr 22 [(0,(.agg ⟨[zI x0,zB b0]⟩)),(1,(.agg ⟨[zI x1,zB b1]⟩))])) (H':=(hT 2 [(.cells Ay true false [])])) (by kernel_rfl) (by kernel_rfl) ?_
 refine .then (.rK (.ghs (fr 22 [(2,(pt 2 0)),(3,(pt 3 0)),(4,(pt 4 0))]) (hT 5 [(.cells Ay true false []),(oC [zI x0,zB b0]),(oC [zI x1,zB b1]),(oC [(zI (0:Int)),zB false])]) (.k0 [false,false] [.tmp 2 false,.tmp 3 false,.tmp 4 false] [2,3,4]) ?_))
 refine .join (v:=v) (fun y:Int×Bool×Int×Bool×Int×Bool=>((fr 22 [(2,(pt 2 0)),(3,(pt 3 0)),(4,(pt 4 0))]),(hT 5 [(.cells Ay true false []),(oC [(zI y.1),(zB y.2.1)]),(oC [(zI y.2.2.1),(zB y.2.2.2.1)]),(oC [(zI y.2.2.2.2.1),(zB y.2.2.2.2.2)])]))) (fun y=>Nf pu n y.1 y.2.1 y.2.2.1 y.2.2.2.1 y.2.2.2.2.1 y.2.2.2.2.2) ?_ ?_
 ·rintro⟨z0,b2,z1,b3,z2,b5⟩ hm
  exact AbP pu n z0 b2 z1 b3 z2 b5 hm
 ·refine .then (.rK (.ghs (fr 22 [(2,(pt 2 0)),(3,(pt 3 0)),(4,(pt 4 0)),(6,zB b0)]) (hT 5 [(.cells Ay true false []),(oC [zI x0,zB b0]),(oC [zI x1,zB b1]),(oC [(zI (0:Int)),zB false])]) (.k0 [false,false] [.tmp 2 false,.tmp 3 false,.tmp 4 false] [2,3,4,6]) ?_))
  replace hm:=Ag hm;rcases hm with⟨h0,hm⟩ | ⟨h0,hm⟩
  ·refine .ifT b0 (by kernel_rfl) h0 ?_
   refine .rK ?_
   exact⟨(x0,b0,(Aj .i64 (Int.sub (.ofNat 0) x1)),b1,(0:Int),false),hm,(.k0 [false,false] [.tmp 2 false,.tmp 3 false,.tmp 4 false] [2,3,4])⟩
  ·refine .ifF b0 (by kernel_rfl) h0 ?_
   refine .skip ?_
   exact⟨(x0,b0,x1,b1,(0:Int),false),hm,(.k0 [false,false] [.tmp 2 false,.tmp 3 false,.tmp 4 false] [2,3,4])⟩

def uX (pu:Af) (n:Nat) (x0:Int) (b0:Bool):OV:=
 (bb (nt b0) (some (.int .i64 (Int.tmod (Aj .i64 (Int.add x0 (4:Int))) (4:Int)))) (bb (Bd (Int.tmod (Aj .i64 (Int.add x0 (4:Int))) (4:Int)) (0:Int)) (some (.int .i64 (4:Int))) (bb (Bd (Int.tmod (Aj .i64 (Int.add x0 (4:Int))) (4:Int)) (1:Int)) (some (.int .i64 (6:Int))) (bb (Bd (Int.tmod (Aj .i64 (Int.add x0 (4:Int))) (4:Int)) (2:Int)) (some (.int .i64 (5:Int))) (some (.int .i64 (7:Int)))))))
def rR (pu:Af) (n:Nat) (args:LV):OV:=
 (ll args none fun a0 args=>(ll args (oo (Bt a0) none fun l0=>(ll l0 none fun v0 l0=>(ll l0 none fun v1 l0=>(ll l0 (oo (Bi .i64 v0) none fun x0=>(oo (Bf v1) none fun b0=>(uX pu n x0 b0))) fun _ _=>none)))) fun _ _=>none))
theorem AjP {call:A8} (pu:Af) (n:Nat) (hcall:call=Bb tabs isP pu (inl pu)) {args:LV} {v:Value} (hm:rR pu n args=some v) (_:∀ x∈args,closed2 x=true):args.length≤22∧BN tt call 2 LQ (Fr.made 22 args) (Ao tabs) (Fin tt 2 [.tmp 2] v):=by
 subst hcall
 unfold rR at hm
 replace hm:=Ad hm;obtain⟨a0,args_0,rfl,hm⟩:=hm
 replace hm:=AC hm;obtain⟨rfl,hm⟩:=hm
 replace hm:=BG hm;obtain⟨l0,rfl,hm⟩:=hm
 replace hm:=Ad hm;obtain⟨v0,l12040_0,rfl,hm⟩:=hm
 replace hm:=Ad hm;obtain⟨v1,l12040_1,rfl,hm⟩:=hm
 replace hm:=AC hm;obtain⟨rfl,hm⟩:=hm
 replace hm:=Ai hm;obtain⟨x0,rfl,hm⟩:=hm
 replace hm:=Be hm;obtain⟨b0,rfl,hm⟩:=hm
 unfold uX at hm
 refine⟨by simp,?_⟩
 refine .same (F':=(fr 22 [(0,(.agg ⟨[zI x0,zB b0]⟩))])) (H':=(hT 2 [(.cells Ay true false [])])) (by kernel_rfl) (by kernel_rfl) ?_
 refine .then (.rK (.ghs (fr 22 [(1,(pt 2 0))]) (hT 3 [(.cells Ay true false []),(oC [zI x0,zB b0])]) (.k0 [false,false] [.tmp 1 false] [1]) ?_))
 refine .then (.rK (.ghs (fr 22 [(1,(pt 2 0)),(3,(zI (Int.tmod (Aj .i64 (Int.add x0 (4:Int))) (4:Int))))]) (hT 3 [(.cells Ay true false []),(oC [zI x0,zB b0])]) (.k0 [false,false] [.tmp 1 false] [1,3]) ?_))
 refine .then (.block (.then (.rK (.ghs (fr 22 [(3,(zI (Int.tmod (Aj .i64 (Int.add x0 (4:Int))) (4:Int)))),(8,(zB (nt b0)))]) (hT 2 [(.cells Ay true false [])]) (.k0 [false,false] [] [3,8]) ?_))))
 replace hm:=Ag hm;rcases hm with⟨h0,hm⟩ | ⟨h0,hm⟩
 ·refine BB (nt b0) h0 ?_
  refine .then (.rK (.ghs (fr 22 [(2,(zI (Int.tmod (Aj .i64 (Int.add x0 (4:Int))) (4:Int))))]) (hT 2 [(.cells Ay true false [])]) (.k0 [false,false] [] [2]) ?_))
  refine .ret ?_
  exact AO (zI (Int.tmod (Aj .i64 (Int.add x0 (4:Int))) (4:Int))) hm
 ·refine BI (nt b0) h0 ?_
  refine .then (.rK (.ghs (fr 22 [(3,(zI (Int.tmod (Aj .i64 (Int.add x0 (4:Int))) (4:Int)))),(13,(zB (Bd (Int.tmod (Aj .i64 (Int.add x0 (4:Int))) (4:Int)) (0:Int))))]) (hT 2 [(.cells Ay true false [])]) (.k0 [false,false] [] [3,13]) ?_))
  replace hm:=Ag hm;rcases hm with⟨h1,hm⟩ | ⟨h1,hm⟩
  ·refine BB (Bd (Int.tmod (Aj .i64 (Int.add x0 (4:Int))) (4:Int)) (0:Int)) h1 ?_
   refine .then (.rK (.ghs (fr 22 [(2,(zI (4:Int)))]) (hT 2 [(.cells Ay true false [])]) (.k0 [false,false] [] [2]) ?_))
   refine .ret ?_
   exact AO (zI (4:Int)) hm
  ·refine BI (Bd (Int.tmod (Aj .i64 (Int.add x0 (4:Int))) (4:Int)) (0:Int)) h1 ?_
   refine .then (.rK (.ghs (fr 22 [(3,(zI (Int.tmod (Aj .i64 (Int.add x0 (4:Int))) (4:Int)))),(16,(zB (Bd (Int.tmod (Aj .i64 (Int.add x0 (4:Int))) (4:Int)) (1:Int))))]) (hT 2 [(.cells Ay true false [])]) (.k0 [false,false] [] [3,16]) ?_))
   replace hm:=Ag hm;rcases hm with⟨h2,hm⟩ | ⟨h2,hm⟩
   ·refine BB (Bd (Int.tmod (Aj .i64 (Int.add x0 (4:Int))) (4:Int)) (1:Int)) h2 ?_
    refine .then (.rK (.ghs (fr 22 [(2,(zI (6:Int)))]) (hT 2 [(.cells Ay true false [])]) (.k0 [false,false] [] [2]) ?_))
    refine .ret ?_
    exact AO (zI (6:Int)) hm
   ·refine BI (Bd (Int.tmod (Aj .i64 (Int.add x0 (4:Int))) (4:Int)) (1:Int)) h2 ?_
    refine .then (.rK (.ghs (fr 22 [(19,(zB (Bd (Int.tmod (Aj .i64 (Int.add x0 (4:Int))) (4:Int)) (2:Int))))]) (hT 2 [(.cells Ay true false [])]) (.k0 [false,false] [] [19]) ?_))
    replace hm:=Ag hm;rcases hm with⟨h3,hm⟩ | ⟨h3,hm⟩
    ·refine BB (Bd (Int.tmod (Aj .i64 (Int.add x0 (4:Int))) (4:Int)) (2:Int)) h3 ?_
     refine .then (.rK (.ghs (fr 22 [(2,(zI (5:Int)))]) (hT 2 [(.cells Ay true false [])]) (.k0 [false,false] [] [2]) ?_))
     refine .ret ?_
     exact AO (zI (5:Int)) hm
    ·refine BI (Bd (Int.tmod (Aj .i64 (Int.add x0 (4:Int))) (4:Int)) (2:Int)) h3 ?_
     refine .skip (.ghs (fr 22 []) (hT 2 [(.cells Ay true false [])]) (.k0 [false,false] [] []) ?_)
     refine .then (.rK (.ghs (fr 22 [(2,(zI (7:Int)))]) (hT 2 [(.cells Ay true false [])]) (.k0 [false,false] [] [2]) ?_))
     refine .ret ?_
     exact AO (zI (7:Int)) hm
def QK (pu:Af) (n:Nat) (z0:Int):OV:=
 (some (.int .i64 z0))
def Uh (pu:Af) (n:Nat) (ih0:Sl→Int→Int→OV) (s0:Sl) (z0 z1:Int):OV:=
 (bb (AY z1 (Int.ofNat (Sl.n s0))) (oo (EA z1) none fun k1=>(bb (an (Nat.blt k1 (Sl.n s0)) true) (oo (AL (Sl.cs s0) (k1*1)) none fun v0=>(oo (Bi .i64 v0) none fun x0=>(ih0 s0 (bb (AY x0 z0) x0 z0) (Aj .i64 (Int.add (Int.ofNat k1) (1:Int)))))) none)) (QK pu n z0))
def Ui (pu:Af) (n w:Nat):Sl→Int→Int→OV:=
 Nat.rec (motive:=fun _=>Sl→Int→Int→OV) (fun _ _ _=>none) (fun _ ih0=>Uh pu n ih0) w
def QL (pu:Af) (n:Nat) (s0:Sl):OV:=
 (bb (an (Nat.blt 0 (Sl.n s0)) true) (oo (AL (Sl.cs s0) (0*1)) none fun v0=>(oo (Bi .i64 v0) none fun x0=>(Ui pu n n s0 x0 (1:Int)))) none)
def uY (pu:Af) (n:Nat) (s0:Sl):OV:=
 (bb (AY (Int.ofNat (Sl.n s0)) (1:Int)) none (QL pu n s0))
def rT (pu:Af) (n:Nat) (args:LV):OV:=
 (ll args none fun a0 args=>(ll args (oo (Bj 1 a0) none fun s0=>(uY pu n s0)) fun _ _=>none))
theorem AbQ (pu:Af) (n:Nat) (z0:Int) {v:Value} (hm:QK pu n z0=some v):BN tt (Bb tabs isP pu (inl pu)) 2 UQ (fr 25 [(3,zI z0)]) (hT 2 [(.cells Ay true false [])]) (Fin tt 2 [.tmp 2] v):=by
 unfold QK at hm
 refine .then (.rK (.ghs (fr 25 [(2,zI z0)]) (hT 2 [(.cells Ay true false [])]) (.k0 [false,false] [] [2]) ?_))
 refine .ret ?_
 exact AO (zI z0) hm
theorem AbR (pu:Af) (n:Nat) (s0:Sl) {v:Value} (hm:QL pu n s0=some v):BN tt (Bb tabs isP pu (inl pu)) 2 UT (fr 25 [(0,Sl.v 1 s0)]) (hT 2 [(.cells Ay true false [])]) (Fin tt 2 [.tmp 2] v):=by
 unfold QL at hm
 refine .then ?_
 replace hm:=Ae hm;obtain⟨h0,hm⟩:=hm
 replace hm:=Gs hm;obtain⟨x0,h1,hm⟩:=hm
 refine .reg (eC 1 (keep (hT 2 [(.cells Ay true false [])]) (bb (an (Nat.blt 0 (Sl.n s0)) true) (some (Cv (0*1) (Sl.cs s0))) none)) (AX h0) (eD (keep (hT 2 [(.cells Ay true false [])]) (AL (Sl.cs s0) (0*1))) (AZ h1) (eE))) ?_
 refine .ghs (fr 25 [(0,Sl.v 1 s0),(3,zI x0)]) (hT 2 [(.cells Ay true false [])]) (.k0 [false,false] [] [0,3]) ?_
 refine .join (v:=v) (fun y:Int=>((fr 25 [(3,zI y)]),(hT 2 [(.cells Ay true false [])]))) (fun y=>QK pu n y) ?_ ?_
 ·rintro z0 hm
  exact AbQ pu n z0 hm
 ·refine .then (.rK (.ghs (fr 25 [(0,Sl.v 1 s0),(3,zI x0),(4,(zI (1:Int)))]) (hT 2 [(.cells Ay true false [])]) (.k0 [false,false] [] [0,3,4]) ?_))
  refine .block (.loopM (v:=v) (fun y:Sl×Int×Int=>((fr 25 [(0,(Sl.v 1 y.1)),(3,(zI y.2.1)),(4,(zI y.2.2))]),(hT 2 [(.cells Ay true false [])]))) (fun w y=>Ui pu n w y.1 y.2.1 y.2.2) n ⟨(s0,x0,(1:Int)),hm,(.k0 [false,false] [] [0,3,4])⟩ (fun _=>rfl) ?_)
  rintro w0 ⟨s1,z1,z2⟩ hm
  replace hm:Uh pu n (Ui pu n w0) s1 z1 z2=some v:=hm
  unfold Uh at hm
  refine .then (.then (.rK (.ghs (fr 25 [(0,Sl.v 1 s1),(3,zI z1),(4,zI z2),(15,(zB (AY z2 (Int.ofNat (Sl.n s1)))))]) (hT 2 [(.cells Ay true false [])]) (.k0 [false,false] [] [0,3,4,15]) ?_)))
  replace hm:=Ag hm;rcases hm with⟨h2,hm⟩ | ⟨h2,hm⟩
  ·refine BB (AY z2 (Int.ofNat (Sl.n s1))) h2 ?_
   refine .skip (.ghs (fr 25 [(0,Sl.v 1 s1),(3,zI z1),(4,zI z2)]) (hT 2 [(.cells Ay true false [])]) (.k0 [false,false] [] [0,3,4]) ?_)
   refine .then (.block ?_)
   replace hm:=Ab hm;obtain⟨k1,h3,hm⟩:=hm
   obtain rfl:=AR h3
   replace hm:=Ae hm;obtain⟨h4,hm⟩:=hm
   replace hm:=Gs hm;obtain⟨x1,h5,hm⟩:=hm
   refine .reg (eC 3 (keep (hT 2 [(.cells Ay true false [])]) (bb (an (Nat.blt k1 (Sl.n s1)) true) (some (Cv (k1*1) (Sl.cs s1))) none)) (AX h4) (eD (keep (hT 2 [(.cells Ay true false [])]) (AL (Sl.cs s1) (k1*1))) (AZ h5) (eE))) ?_
   refine .ghs (fr 25 [(0,Sl.v 1 s1),(3,(zI (bb (AY x1 z1) x1 z1))),(4,(zI (Int.ofNat k1)))]) (hT 2 [(.cells Ay true false [])]) (.k0 [false,false] [] [0,3,4]) ?_
   refine .rK ?_
   exact⟨(s1,(bb (AY x1 z1) x1 z1),(Aj .i64 (Int.add (Int.ofNat k1) (1:Int)))),hm,(.k0 [false,false] [] [0,3,4])⟩
  ·refine BI (AY z2 (Int.ofNat (Sl.n s1))) h2 ?_
   refine .exit ?_
   exact⟨z1,hm,(.k0 [false,false] [] [3])⟩
theorem AjQ {call:A8} (pu:Af) (n:Nat) (hcall:call=Bb tabs isP pu (inl pu)) {args:LV} {v:Value} (hm:rT pu n args=some v) (_:∀ x∈args,closed2 x=true):args.length≤25∧BN tt call 2 LU (Fr.made 25 args) (Ao tabs) (Fin tt 2 [.tmp 2] v):=by
 subst hcall
 unfold rT at hm
 replace hm:=Ad hm;obtain⟨a0,args_0,rfl,hm⟩:=hm
 replace hm:=AC hm;obtain⟨rfl,hm⟩:=hm
 replace hm:=Al hm;obtain⟨s0,rfl,hm⟩:=hm
 unfold uY at hm
 refine⟨by simp,?_⟩
 refine .same (F':=(fr 25 [(0,Sl.v 1 s0)])) (H':=(hT 2 [(.cells Ay true false [])])) (by kernel_rfl) (by kernel_rfl) ?_
 refine .then (.rK (.ghs (fr 25 [(0,Sl.v 1 s0)]) (hT 2 [(.cells Ay true false [])]) (.k0 [false,false] [] [0]) ?_))
 refine .join (v:=v) (fun y:Sl=>((fr 25 [(0,Sl.v 1 y)]),(hT 2 [(.cells Ay true false [])]))) (fun y=>QL pu n y) ?_ ?_
 ·rintro s1 hm
  exact AbR pu n s1 hm
 ·refine .then (.rK (.ghs (fr 25 [(0,Sl.v 1 s0),(7,(zB (AY (Int.ofNat (Sl.n s0)) (1:Int))))]) (hT 2 [(.cells Ay true false [])]) (.k0 [false,false] [] [0,7]) ?_))
  replace hm:=Ag hm;rcases hm with⟨h0,hm⟩ | ⟨h0,hm⟩
  ·refine BB (AY (Int.ofNat (Sl.n s0)) (1:Int)) h0 ?_
   cases hm
  ·refine BI (AY (Int.ofNat (Sl.n s0)) (1:Int)) h0 ?_
   refine .skip ?_
   exact⟨s0,hm,(.k0 [false,false] [] [0])⟩

def uZ (pu:Af) (n:Nat) (x0 x1 x2:Int):OV:=
 (oo (EA x2) none fun k1=>(some (.bool (Bd (Np .u32 (G6 .u32 x1 k1) (1:Int)) (1:Int)))))
def WI (pu:Af) (n:Nat) (args:LV):OV:=
 (ll args none fun a0 args=>(ll args none fun a1 args=>(ll args (oo (Bt a0) none fun l0=>(ll l0 none fun v0 l0=>(ll l0 none fun v1 l0=>(ll l0 (oo (Bi .i64 v0) none fun x0=>(oo (Bi .u32 v1) none fun x1=>(oo (Bi .i64 a1) none fun x2=>(uZ pu n x0 x1 x2)))) fun _ _=>none)))) fun _ _=>none)))
theorem AjR {call:A8} (pu:Af) (n:Nat) (hcall:call=Bb tabs isP pu (inl pu)) {args:LV} {v:Value} (hm:WI pu n args=some v) (_:∀ x∈args,closed2 x=true):args.length≤11∧BN tt call 2 Qp (Fr.made 11 args) (Ao tabs) (Fin tt 2 [.tmp 4] v):=by
 subst hcall
 unfold WI at hm
 replace hm:=Ad hm;obtain⟨a0,args_0,rfl,hm⟩:=hm
 replace hm:=Ad hm;obtain⟨a1,args_1,rfl,hm⟩:=hm
 replace hm:=AC hm;obtain⟨rfl,hm⟩:=hm
 replace hm:=BG hm;obtain⟨l0,rfl,hm⟩:=hm
 replace hm:=Ad hm;obtain⟨v0,l12123_0,rfl,hm⟩:=hm
 replace hm:=Ad hm;obtain⟨v1,l12123_1,rfl,hm⟩:=hm
 replace hm:=AC hm;obtain⟨rfl,hm⟩:=hm
 replace hm:=Ai hm;obtain⟨x0,rfl,hm⟩:=hm
 replace hm:=Ai hm;obtain⟨x1,rfl,hm⟩:=hm
 replace hm:=Ai hm;obtain⟨x2,rfl,hm⟩:=hm
 unfold uZ at hm
 refine⟨by simp,?_⟩
 refine .same (F':=(fr 11 [(0,(.agg ⟨[zI x0,.int .u32 x1]⟩)),(1,zI x2)])) (H':=(hT 2 [(.cells Ay true false [])])) (by kernel_rfl) (by kernel_rfl) ?_
 refine .then (.rK (.ghs (fr 11 [(1,zI x2),(2,(pt 2 0))]) (hT 3 [(.cells Ay true false []),(oC [zI x0,.int .u32 x1])]) (.k0 [false,false] [.tmp 2 false] [1,2]) ?_))
 refine .then ?_
 replace hm:=Ab hm;obtain⟨k1,h0,hm⟩:=hm
 obtain rfl:=AR h0
 refine .rK (.ghs (fr 11 [(4,(zB (Bd (Np .u32 (G6 .u32 x1 k1) (1:Int)) (1:Int))))]) (hT 2 [(.cells Ay true false [])]) (.k0 [false,false] [] [4]) ?_)
 refine .ret ?_
 exact AO (zB (Bd (Np .u32 (G6 .u32 x1 k1) (1:Int)) (1:Int))) hm

def LW (pu:Af) (n:Nat) (s5:Sl):OV:=
 (some (.tuple ⟨[Sl.v 1 s5]⟩))
def Ng (pu:Af) (n:Nat) (args:LV):OV:=
 (ll args none fun a0 args=>(ll args (oo (Bj 1 a0) none fun s7=>(LW pu n s7)) fun _ _=>none))
theorem AbS (pu:Af) (n:Nat) (s5:Sl) {v:Value} (hm:LW pu n s5=some v):BN tt (Bb tabs isP pu (inl pu)) 2 R9 (fr 4 [(0,Sl.v 1 s5)]) (hT 2 [(.cells Ay true false [])]) (FJ tt 2 0 [.tmp 2] v):=by
 unfold LW at hm
 refine .then (.rK (.ghs (fr 4 [(0,Sl.v 1 s5)]) (hT 2 [(.cells Ay true false [])]) (.k0 [false,false] [] [0]) ?_))
 refine .then (.rK (.ghs (fr 4 [(2,Sl.v 1 s5)]) (hT 2 [(.cells Ay true false [])]) (.k0 [false,false] [] [2]) ?_))
 refine .ghs (fr 4 [(2,Sl.v 1 s5)]) (hT 2 [(.cells Ay true false [])]) (.k0 [false,false] [] [2]) ?_
 refine .ret ?_
 exact FN (Sl.v 1 s5) [] (by kernel_rfl) hm (Nat.le_of_ble_eq_true rfl) FD
theorem Ab0 {call:A8} (pu:Af) (n:Nat) (hcall:call=Bb tabs isP pu (inl pu)) {args:LV} {os:List AJ} {z:Value} (ha:args.length=1) (hk:os.length=0) (hpl:∀ o∈os,plainO o) (hm:Ng pu n (args++os.map Ef)=some z):args.length≤4∧BN tt call (tabs.length+0) R9 (Fr.made 4 args) (BK tabs os) (FJ tt tabs.length 0 [.tmp 2] z):=by
 subst hcall
 have hq:=Eb ha;clear ha;obtain⟨a0,args,rfl,ha⟩:=hq
 obtain rfl:=len_nil ha
 obtain rfl:=len_nil hk
 replace hm:Ng pu n [a0]=some z:=hm
 unfold Ng at hm
 replace hm:(oo (Bj 1 a0) none fun s7=>(LW pu n s7))=some z:=hm
 replace hm:=Al hm;obtain⟨s7,rfl,hm⟩:=hm
 refine⟨by simp,?_⟩
 exact .same (F':=(fr 4 [(0,Sl.v 1 s7)])) (H':=(hT 2 [(.cells Ay true false [])])) (by kernel_rfl) (by kernel_rfl) (AbS pu n s7 hm)
def JP (pu:Af) (n:Nat) (b0:Bool) (z0 z1 z2 z3:Int):OV:=
 (bb b0 (some (.tuple ⟨[(.tuple ⟨[(.int .i64 (0:Int)),(.bool false),(.int .i64 (5:Int))]⟩)]⟩)) (oo (pu 60 [(.agg ⟨[.int .i64 z0,.int .u32 z1]⟩),(.agg ⟨[.int .i64 z2,.int .u32 z3]⟩)]) none fun v0=>(oo (CQ v0) none fun l0=>(ll l0 none fun v1 l0=>(ll l0 none fun v2 l0=>(ll l0 (oo (Bi .i64 v1) none fun x0=>(oo (Bf v2) none fun b1=>(bb b1 (some (.tuple ⟨[(.tuple ⟨[.int .i64 x0,(.bool false),(.int .i64 (0:Int))]⟩)]⟩)) (oo (pu 61 [(.agg ⟨[.int .i64 z0,.int .u32 z1]⟩),(.int .i64 (-1:Int))]) none fun v3=>(oo (Bt v3) none fun l1=>(ll l1 none fun v4 l1=>(ll l1 none fun v5 l1=>(ll l1 (oo (Bi .i64 v4) none fun x1=>(oo (Bi .u32 v5) none fun x2=>(oo (pu 60 [(.agg ⟨[.int .i64 x1,.int .u32 x2]⟩),(.agg ⟨[.int .i64 z2,.int .u32 z3]⟩)]) none fun v6=>(oo (CQ v6) none fun l2=>(ll l2 none fun v7 l2=>(ll l2 none fun v8 l2=>(ll l2 (oo (Bi .i64 v7) none fun x3=>(oo (Bf v8) none fun b2=>(bb b2 (some (.tuple ⟨[(.tuple ⟨[.int .i64 x3,(.bool true),(.int .i64 (0:Int))]⟩)]⟩)) (some (.tuple ⟨[(.tuple ⟨[(.int .i64 (0:Int)),(.bool false),(.int .i64 (12:Int))]⟩)]⟩))))) fun _ _=>none))))))) fun _ _=>none)))))))) fun _ _=>none))))))
def LX (pu:Af) (n:Nat) (z0:Int) (s0:Sl) (z1:Int) (s1:Sl):OV:=
 (oo (pu 54 [(.agg ⟨[.int .i64 z0,Sl.v 1 s0]⟩)]) none fun v0=>(oo (CQ v0) none fun l0=>(ll l0 none fun v1 l0=>(ll l0 none fun v2 l0=>(ll l0 (oo (Bt v1) none fun l1=>(ll l1 none fun v3 l1=>(ll l1 none fun v4 l1=>(ll l1 (oo (Bi .i64 v3) none fun x0=>(oo (Bi .u32 v4) none fun x1=>(oo (Bi .i64 v2) none fun x2=>(bb (nt (Bd x2 (0:Int))) (some (.tuple ⟨[(.tuple ⟨[(.int .i64 (0:Int)),(.bool false),.int .i64 x2]⟩)]⟩)) (oo (pu 54 [(.agg ⟨[.int .i64 z1,Sl.v 1 s1]⟩)]) none fun v5=>(oo (CQ v5) none fun l2=>(ll l2 none fun v6 l2=>(ll l2 none fun v7 l2=>(ll l2 (oo (Bt v6) none fun l3=>(ll l3 none fun v8 l3=>(ll l3 none fun v9 l3=>(ll l3 (oo (Bi .i64 v8) none fun x3=>(oo (Bi .u32 v9) none fun x4=>(oo (Bi .i64 v7) none fun x5=>(bb (nt (Bd x5 (0:Int))) (some (.tuple ⟨[(.tuple ⟨[(.int .i64 (0:Int)),(.bool false),.int .i64 x5]⟩)]⟩)) (bb (nt (Bd x0 x3)) (JP pu n true x0 x1 x3 x4) (JP pu n (nt (Bd (Int.ofNat (Sl.n s0)) (Int.ofNat (Sl.n s1)))) x0 x1 x3 x4)))))) fun _ _=>none)))) fun _ _=>none))))))))) fun _ _=>none)))) fun _ _=>none)))))
def Nh (pu:Af) (n:Nat) (args:LV):OV:=
 (ll args none fun a0 args=>(ll args none fun a1 args=>(ll args (oo (Bt a0) none fun l0=>(ll l0 none fun v0 l0=>(ll l0 none fun v1 l0=>(ll l0 (oo (Bi .i64 v0) none fun x0=>(oo (Bj 1 v1) none fun s0=>(oo (Bt a1) none fun l1=>(ll l1 none fun v2 l1=>(ll l1 none fun v3 l1=>(ll l1 (oo (Bi .i64 v2) none fun x1=>(oo (Bj 1 v3) none fun s1=>(LX pu n x0 s0 x1 s1))) fun _ _=>none)))))) fun _ _=>none)))) fun _ _=>none)))
theorem Ab4 (pu:Af) (n:Nat) (z0:Int) (s0:Sl) (z1:Int) (s1:Sl) {v:Value} (hm:LX pu n z0 s0 z1 s1=some v):BN tt (Bb tabs isP pu (inl pu)) 2 MH (fr 62 [(0,(.agg ⟨[zI z0,Sl.v 1 s0]⟩)),(1,(.agg ⟨[zI z1,Sl.v 1 s1]⟩))]) (hT 2 [(.cells Ay true false [])]) (FJ tt 2 0 [.tmp 4,.tmp 5,.tmp 6] v):=by
 unfold LX at hm
 refine .then (.rK (.ghs (fr 62 [(2,(pt 2 0)),(3,(pt 3 0))]) (hT 4 [(.cells Ay true false []),(oC [zI z0,Sl.v 1 s0]),(oC [zI z1,Sl.v 1 s1])]) (.k0 [false,false] [.tmp 2 false,.tmp 3 false] [2,3]) ?_))
 refine .then ?_
 replace hm:=Ab hm;obtain⟨v0,h0,hm⟩:=hm
 replace hm:=Ch hm;obtain⟨l0,rfl,hm⟩:=hm
 replace hm:=Ad hm;obtain⟨v1,l3409_0,rfl,hm⟩:=hm
 replace hm:=Ad hm;obtain⟨v2,l3409_1,rfl,hm⟩:=hm
 replace hm:=AC hm;obtain⟨rfl,hm⟩:=hm
 replace hm:=BG hm;obtain⟨l1,rfl,hm⟩:=hm
 replace hm:=Ad hm;obtain⟨v3,l3413_0,rfl,hm⟩:=hm
 replace hm:=Ad hm;obtain⟨v4,l3413_1,rfl,hm⟩:=hm
 replace hm:=AC hm;obtain⟨rfl,hm⟩:=hm
 replace hm:=Ai hm;obtain⟨x0,rfl,hm⟩:=hm
 replace hm:=Ai hm;obtain⟨x1,rfl,hm⟩:=hm
 replace hm:=Ai hm;obtain⟨x2,rfl,hm⟩:=hm
 refine .reg (eC 1 ((oo (pu 54 [(.agg ⟨[zI z0,Sl.v 1 s0]⟩)]) none fun v=>some (v,(hT 4 [(.cells Ay true false []),(oC [zI z0,Sl.v 1 s0]),(oC [zI z1,Sl.v 1 s1])])))) (AB h0) (eE)) ?_
 refine .ghs (fr 62 [(2,(pt 2 0)),(3,(pt 3 0)),(6,zI x2),(7,(pt 4 0))]) (hT 5 [(.cells Ay true false []),(oC [zI z0,Sl.v 1 s0]),(oC [zI z1,Sl.v 1 s1]),(oC [zI x0,.int .u32 x1])]) (.k0 [false,false] [.tmp 2 false,.tmp 3 false,.tmp 7 false] [2,3,6,7]) ?_
 refine .then (.then (.rK (.ghs (fr 62 [(2,(pt 2 0)),(3,(pt 3 0)),(6,zI x2),(7,(pt 4 0)),(19,(zB (nt (Bd x2 (0:Int)))))]) (hT 5 [(.cells Ay true false []),(oC [zI z0,Sl.v 1 s0]),(oC [zI z1,Sl.v 1 s1]),(oC [zI x0,.int .u32 x1])]) (.k0 [false,false] [.tmp 2 false,.tmp 3 false,.tmp 7 false] [2,3,6,7,19]) ?_)))
 replace hm:=Ag hm;rcases hm with⟨h1,hm⟩ | ⟨h1,hm⟩
 ·refine BB (nt (Bd x2 (0:Int))) h1 ?_
  refine .then (.rK (.ghs (fr 62 [(4,(zI (0:Int))),(5,zB false),(6,zI x2)]) (hT 2 [(.cells Ay true false [])]) (.k0 [false,false] [] [4,5,6]) ?_))
  refine .ghs (fr 62 [(4,(zI (0:Int))),(5,zB false),(6,zI x2)]) (hT 2 [(.cells Ay true false [])]) (.k0 [false,false] [] [4,5,6]) ?_
  refine .ret ?_
  exact FN (.tuple ⟨[(zI (0:Int)),zB false,zI x2]⟩) [] (by kernel_rfl) hm (Nat.le_of_ble_eq_true rfl) FD
 ·refine BI (nt (Bd x2 (0:Int))) h1 ?_
  refine .skip (.ghs (fr 62 [(2,(pt 2 0)),(3,(pt 3 0)),(7,(pt 4 0))]) (hT 5 [(.cells Ay true false []),(oC [zI z0,Sl.v 1 s0]),(oC [zI z1,Sl.v 1 s1]),(oC [zI x0,.int .u32 x1])]) (.k0 [false,false] [.tmp 2 false,.tmp 3 false,.tmp 7 false] [2,3,7]) ?_)
  refine .then ?_
  replace hm:=Ab hm;obtain⟨v5,h2,hm⟩:=hm
  replace hm:=Ch hm;obtain⟨l2,rfl,hm⟩:=hm
  replace hm:=Ad hm;obtain⟨v6,l3445_0,rfl,hm⟩:=hm
  replace hm:=Ad hm;obtain⟨v7,l3445_1,rfl,hm⟩:=hm
  replace hm:=AC hm;obtain⟨rfl,hm⟩:=hm
  replace hm:=BG hm;obtain⟨l3,rfl,hm⟩:=hm
  replace hm:=Ad hm;obtain⟨v8,l3449_0,rfl,hm⟩:=hm
  replace hm:=Ad hm;obtain⟨v9,l3449_1,rfl,hm⟩:=hm
  replace hm:=AC hm;obtain⟨rfl,hm⟩:=hm
  replace hm:=Ai hm;obtain⟨x3,rfl,hm⟩:=hm
  replace hm:=Ai hm;obtain⟨x4,rfl,hm⟩:=hm
  replace hm:=Ai hm;obtain⟨x5,rfl,hm⟩:=hm
  refine .reg (eC 1 ((oo (pu 54 [(.agg ⟨[zI z1,Sl.v 1 s1]⟩)]) none fun v=>some (v,(hT 5 [(.cells Ay true false []),(oC [zI z0,Sl.v 1 s0]),(oC [zI z1,Sl.v 1 s1]),(oC [zI x0,.int .u32 x1])])))) (AB h2) (eE)) ?_
  refine .ghs (fr 62 [(2,(pt 2 0)),(3,(pt 3 0)),(6,zI x5),(7,(pt 4 0)),(8,(pt 5 0))]) (hT 6 [(.cells Ay true false []),(oC [zI z0,Sl.v 1 s0]),(oC [zI z1,Sl.v 1 s1]),(oC [zI x0,.int .u32 x1]),(oC [zI x3,.int .u32 x4])]) (.k0 [false,false] [.tmp 2 false,.tmp 3 false,.tmp 7 false,.tmp 8 false] [2,3,6,7,8]) ?_
  refine .then (.block (.then (.rK (.ghs (fr 62 [(2,(pt 2 0)),(3,(pt 3 0)),(6,zI x5),(7,(pt 4 0)),(8,(pt 5 0)),(26,(zB (nt (Bd x5 (0:Int)))))]) (hT 6 [(.cells Ay true false []),(oC [zI z0,Sl.v 1 s0]),(oC [zI z1,Sl.v 1 s1]),(oC [zI x0,.int .u32 x1]),(oC [zI x3,.int .u32 x4])]) (.k0 [false,false] [.tmp 2 false,.tmp 3 false,.tmp 7 false,.tmp 8 false] [2,3,6,7,8,26]) ?_))))
  replace hm:=Ag hm;rcases hm with⟨h3,hm⟩ | ⟨h3,hm⟩
  ·refine BB (nt (Bd x5 (0:Int))) h3 ?_
   refine .then (.rK (.ghs (fr 62 [(4,(zI (0:Int))),(5,zB false),(6,zI x5)]) (hT 2 [(.cells Ay true false [])]) (.k0 [false,false] [] [4,5,6]) ?_))
   refine .ghs (fr 62 [(4,(zI (0:Int))),(5,zB false),(6,zI x5)]) (hT 2 [(.cells Ay true false [])]) (.k0 [false,false] [] [4,5,6]) ?_
   refine .ret ?_
   exact FN (.tuple ⟨[(zI (0:Int)),zB false,zI x5]⟩) [] (by kernel_rfl) hm (Nat.le_of_ble_eq_true rfl) FD
  ·refine BI (nt (Bd x5 (0:Int))) h3 ?_
   refine .join (v:=v) (fun y:Bool×Int×Int×Int×Int=>((fr 62 [(7,(pt 2 0)),(8,(pt 3 0)),(30,(zB y.1))]),(hT 4 [(.cells Ay true false []),(oC [(zI y.2.1),(.int .u32 y.2.2.1)]),(oC [(zI y.2.2.2.1),(.int .u32 y.2.2.2.2)])]))) (fun y=>JP pu n y.1 y.2.1 y.2.2.1 y.2.2.2.1 y.2.2.2.2) ?_ ?_
   ·rintro⟨b0,z2,z3,z4,z5⟩ hm
    unfold JP at hm
    replace hm:=Ag hm;rcases hm with⟨h4,hm⟩ | ⟨h4,hm⟩
    ·refine .ifT b0 (by kernel_rfl) h4 ?_
     refine .then (.rK (.ghs (fr 62 [(4,(zI (0:Int))),(5,zB false),(6,(zI (5:Int)))]) (hT 2 [(.cells Ay true false [])]) (.k0 [false,false] [] [4,5,6]) ?_))
     refine .ghs (fr 62 [(4,(zI (0:Int))),(5,zB false),(6,(zI (5:Int)))]) (hT 2 [(.cells Ay true false [])]) (.k0 [false,false] [] [4,5,6]) ?_
     refine .ret ?_
     exact FN (.tuple ⟨[(zI (0:Int)),zB false,(zI (5:Int))]⟩) [] (by kernel_rfl) hm (Nat.le_of_ble_eq_true rfl) FD
    ·refine .ifF b0 (by kernel_rfl) h4 ?_
     refine .skip (.ghs (fr 62 [(7,(pt 2 0)),(8,(pt 3 0))]) (hT 4 [(.cells Ay true false []),(oC [zI z2,.int .u32 z3]),(oC [zI z4,.int .u32 z5])]) (.k0 [false,false] [.tmp 7 false,.tmp 8 false] [7,8]) ?_)
     refine .then (.then ?_)
     replace hm:=Ab hm;obtain⟨v10,h5,hm⟩:=hm
     replace hm:=Ch hm;obtain⟨l4,rfl,hm⟩:=hm
     replace hm:=Ad hm;obtain⟨v11,l3488_0,rfl,hm⟩:=hm
     replace hm:=Ad hm;obtain⟨v12,l3488_1,rfl,hm⟩:=hm
     replace hm:=AC hm;obtain⟨rfl,hm⟩:=hm
     replace hm:=Ai hm;obtain⟨x6,rfl,hm⟩:=hm
     replace hm:=Be hm;obtain⟨b1,rfl,hm⟩:=hm
     refine .reg (eC 2 ((oo (pu 60 [(.agg ⟨[zI z2,.int .u32 z3]⟩),(.agg ⟨[zI z4,.int .u32 z5]⟩)]) none fun v=>some (v,(hT 4 [(.cells Ay true false []),(oC [zI z2,.int .u32 z3]),(oC [zI z4,.int .u32 z5])])))) (AB h5) (eE)) ?_
     refine .ghs (fr 62 [(7,(pt 2 0)),(8,(pt 3 0)),(9,zI x6),(10,zB b1)]) (hT 4 [(.cells Ay true false []),(oC [zI z2,.int .u32 z3]),(oC [zI z4,.int .u32 z5])]) (.k0 [false,false] [.tmp 7 false,.tmp 8 false] [7,8,9,10]) ?_
     refine .then (.rK (.ghs (fr 62 [(7,(pt 2 0)),(8,(pt 3 0)),(9,zI x6),(51,zB b1)]) (hT 4 [(.cells Ay true false []),(oC [zI z2,.int .u32 z3]),(oC [zI z4,.int .u32 z5])]) (.k0 [false,false] [.tmp 7 false,.tmp 8 false] [7,8,9,51]) ?_))
     replace hm:=Ag hm;rcases hm with⟨h6,hm⟩ | ⟨h6,hm⟩
     ·refine .ifT b1 (by kernel_rfl) h6 ?_
      refine .then (.rK (.ghs (fr 62 [(4,zI x6),(5,zB false),(6,(zI (0:Int)))]) (hT 2 [(.cells Ay true false [])]) (.k0 [false,false] [] [4,5,6]) ?_))
      refine .ghs (fr 62 [(4,zI x6),(5,zB false),(6,(zI (0:Int)))]) (hT 2 [(.cells Ay true false [])]) (.k0 [false,false] [] [4,5,6]) ?_
      refine .ret ?_
      exact FN (.tuple ⟨[zI x6,zB false,(zI (0:Int))]⟩) [] (by kernel_rfl) hm (Nat.le_of_ble_eq_true rfl) FD
     ·refine .ifF b1 (by kernel_rfl) h6 ?_
      refine .skip (.ghs (fr 62 [(7,(pt 2 0)),(8,(pt 3 0))]) (hT 4 [(.cells Ay true false []),(oC [zI z2,.int .u32 z3]),(oC [zI z4,.int .u32 z5])]) (.k0 [false,false] [.tmp 7 false,.tmp 8 false] [7,8]) ?_)
      refine .then (.then ?_)
      replace hm:=Ab hm;obtain⟨v13,h7,hm⟩:=hm
      replace hm:=BG hm;obtain⟨l5,rfl,hm⟩:=hm
      replace hm:=Ad hm;obtain⟨v14,l3522_0,rfl,hm⟩:=hm
      replace hm:=Ad hm;obtain⟨v15,l3522_1,rfl,hm⟩:=hm
      replace hm:=AC hm;obtain⟨rfl,hm⟩:=hm
      replace hm:=Ai hm;obtain⟨x7,rfl,hm⟩:=hm
      replace hm:=Ai hm;obtain⟨x8,rfl,hm⟩:=hm
      replace hm:=Ab hm;obtain⟨v16,h8,hm⟩:=hm
      replace hm:=Ch hm;obtain⟨l6,rfl,hm⟩:=hm
      replace hm:=Ad hm;obtain⟨v17,l3532_0,rfl,hm⟩:=hm
      replace hm:=Ad hm;obtain⟨v18,l3532_1,rfl,hm⟩:=hm
      replace hm:=AC hm;obtain⟨rfl,hm⟩:=hm
      replace hm:=Ai hm;obtain⟨x9,rfl,hm⟩:=hm
      replace hm:=Be hm;obtain⟨b2,rfl,hm⟩:=hm
      refine .reg (eC 2 ((oo (pu 61 [(.agg ⟨[zI z2,.int .u32 z3]⟩),(zI (-1:Int))]) none fun v=>some (v,(hT 4 [(.cells Ay true false []),(oC [zI z2,.int .u32 z3]),(oC [zI z4,.int .u32 z5])])))) (AB h7) (eD ((oo (pu 60 [(.agg ⟨[zI x7,.int .u32 x8]⟩),(.agg ⟨[zI z4,.int .u32 z5]⟩)]) none fun v=>some (v,(hT 4 [(.cells Ay true false []),(oC [zI z2,.int .u32 z3]),(oC [zI z4,.int .u32 z5])])))) (AB h8) (eE))) ?_
      refine .ghs (fr 62 [(11,zI x9),(12,zB b2)]) (hT 2 [(.cells Ay true false [])]) (.k0 [false,false] [] [11,12]) ?_
      refine .then (.rK (.ghs (fr 62 [(11,zI x9),(60,zB b2)]) (hT 2 [(.cells Ay true false [])]) (.k0 [false,false] [] [11,60]) ?_))
      replace hm:=Ag hm;rcases hm with⟨h9,hm⟩ | ⟨h9,hm⟩
      ·refine .ifT b2 (by kernel_rfl) h9 ?_
       refine .then (.rK (.ghs (fr 62 [(4,zI x9),(5,zB true),(6,(zI (0:Int)))]) (hT 2 [(.cells Ay true false [])]) (.k0 [false,false] [] [4,5,6]) ?_))
       refine .ghs (fr 62 [(4,zI x9),(5,zB true),(6,(zI (0:Int)))]) (hT 2 [(.cells Ay true false [])]) (.k0 [false,false] [] [4,5,6]) ?_
       refine .ret ?_
       exact FN (.tuple ⟨[zI x9,zB true,(zI (0:Int))]⟩) [] (by kernel_rfl) hm (Nat.le_of_ble_eq_true rfl) FD
      ·refine .ifF b2 (by kernel_rfl) h9 ?_
       refine .skip (.ghs (fr 62 []) (hT 2 [(.cells Ay true false [])]) (.k0 [false,false] [] []) ?_)
       refine .then (.rK (.ghs (fr 62 [(4,(zI (0:Int))),(5,zB false),(6,(zI (12:Int)))]) (hT 2 [(.cells Ay true false [])]) (.k0 [false,false] [] [4,5,6]) ?_))
       refine .ghs (fr 62 [(4,(zI (0:Int))),(5,zB false),(6,(zI (12:Int)))]) (hT 2 [(.cells Ay true false [])]) (.k0 [false,false] [] [4,5,6]) ?_
       refine .ret ?_
       exact FN (.tuple ⟨[(zI (0:Int)),zB false,(zI (12:Int))]⟩) [] (by kernel_rfl) hm (Nat.le_of_ble_eq_true rfl) FD
   ·replace hm:=Ag hm;rcases hm with⟨h10,hm⟩ | ⟨h10,hm⟩
    ·refine .reg (eC 4 (some ((zB (nt (Bd x0 x3))),(hT 6 [(.cells Ay true false []),(oC [zI z0,Sl.v 1 s0]),(oC [zI z1,Sl.v 1 s1]),(oC [zI x0,.int .u32 x1]),(oC [zI x3,.int .u32 x4])]))) (show _=some ((zB true),_) from (by rw[show (nt (Bd x0 x3))=true from h10])) (eE)) ?_
     exact⟨(true,x0,x1,x3,x4),hm,(.k0 [false,false] [.tmp 7 false,.tmp 8 false] [7,8,30])⟩
    ·refine .reg (eC 4 (some ((zB (nt (Bd x0 x3))),(hT 6 [(.cells Ay true false []),(oC [zI z0,Sl.v 1 s0]),(oC [zI z1,Sl.v 1 s1]),(oC [zI x0,.int .u32 x1]),(oC [zI x3,.int .u32 x4])]))) (show _=some ((zB false),_) from (by rw[show (nt (Bd x0 x3))=false from h10])) (eE)) ?_
     exact⟨((nt (Bd (Int.ofNat (Sl.n s0)) (Int.ofNat (Sl.n s1)))),x0,x1,x3,x4),hm,(.k0 [false,false] [.tmp 7 false,.tmp 8 false] [7,8,30])⟩
theorem Ab8 {call:A8} (pu:Af) (n:Nat) (hcall:call=Bb tabs isP pu (inl pu)) {args:LV} {os:List AJ} {z:Value} (ha:args.length=2) (hk:os.length=0) (hpl:∀ o∈os,plainO o) (hm:Nh pu n (args++os.map Ef)=some z):args.length≤62∧BN tt call (tabs.length+0) MH (Fr.made 62 args) (BK tabs os) (FJ tt tabs.length 0 [.tmp 4,.tmp 5,.tmp 6] z):=by
 subst hcall
 have hq:=Eb ha;clear ha;obtain⟨a0,args,rfl,ha⟩:=hq
 have hq:=Eb ha;clear ha;obtain⟨a1,args,rfl,ha⟩:=hq
 obtain rfl:=len_nil ha
 obtain rfl:=len_nil hk
 replace hm:Nh pu n [a0,a1]=some z:=hm
 unfold Nh at hm
 replace hm:(oo (Bt a0) none fun l0=>(ll l0 none fun v0 l0=>(ll l0 none fun v1 l0=>(ll l0 (oo (Bi .i64 v0) none fun x0=>(oo (Bj 1 v1) none fun s0=>(oo (Bt a1) none fun l1=>(ll l1 none fun v2 l1=>(ll l1 none fun v3 l1=>(ll l1 (oo (Bi .i64 v2) none fun x1=>(oo (Bj 1 v3) none fun s1=>(LX pu n x0 s0 x1 s1))) fun _ _=>none)))))) fun _ _=>none))))=some z:=hm
 replace hm:=BG hm;obtain⟨l0,rfl,hm⟩:=hm
 replace hm:=Ad hm;obtain⟨v0,l3549_0,rfl,hm⟩:=hm
 replace hm:=Ad hm;obtain⟨v1,l3549_1,rfl,hm⟩:=hm
 replace hm:=AC hm;obtain⟨rfl,hm⟩:=hm
 replace hm:=Ai hm;obtain⟨x0,rfl,hm⟩:=hm
 replace hm:=Al hm;obtain⟨s0,rfl,hm⟩:=hm
 replace hm:=BG hm;obtain⟨l1,rfl,hm⟩:=hm
 replace hm:=Ad hm;obtain⟨v2,l3557_0,rfl,hm⟩:=hm
 replace hm:=Ad hm;obtain⟨v3,l3557_1,rfl,hm⟩:=hm
 replace hm:=AC hm;obtain⟨rfl,hm⟩:=hm
 replace hm:=Ai hm;obtain⟨x1,rfl,hm⟩:=hm
 replace hm:=Al hm;obtain⟨s1,rfl,hm⟩:=hm
 refine⟨by simp,?_⟩
 exact .same (F':=(fr 62 [(0,(.agg ⟨[zI x0,Sl.v 1 s0]⟩)),(1,(.agg ⟨[zI x1,Sl.v 1 s1]⟩))])) (H':=(hT 2 [(.cells Ay true false [])])) (by kernel_rfl) (by kernel_rfl) (Ab4 pu n x0 s0 x1 s1 hm)
def Iq (pu:Af) (n:Nat) (e0:List EO) (k1:Nat):OV:=
 (bb (Au F4 e0) (some (.tuple ⟨[(.map (some 2)),(Ef (.map e0 k1))]⟩)) none)
def G9 (pu:Af) (n:Nat) (ih0:Sl→Sl→Int→Int→Int→Int→List EO→Nat→OV) (s0 s1:Sl) (z0 z1 z2 z3:Int) (e0:List EO) (k1:Nat):OV:=
 (bb (Au F4 e0) (ih0 s0 s1 z0 (Aj .i64 (Int.add z1 (1:Int))) z2 z3 e0 k1) none)
def FK (pu:Af) (n:Nat) (ih0:Sl→Sl→Int→Int→Int→Int→List EO→Nat→OV) (ih1:Sl→Int→Sl→Int→Int→Sl→Int→Int→Int→Int→List EO→Nat→OV) (s0:Sl) (z0:Int) (s1:Sl) (z1 z2:Int) (s2:Sl) (z3 z4 z5 z6:Int) (e0:List EO) (k1:Nat):OV:=
 (bb (Au F4 e0) (ih1 s0 z0 s1 z1 z2 s2 z3 (Aj .i64 (Int.add z4 (1:Int))) z5 z6 e0 k1) none)
def Gt (pu:Af) (n:Nat) (ih0:Sl→Sl→Int→Int→Int→Int→List EO→Nat→OV) (ih1:Sl→Int→Sl→Int→Int→Sl→Int→Int→Int→Int→List EO→Nat→OV) (s0:Sl) (z0:Int) (s1:Sl) (z1 z2:Int) (s2:Sl) (z3 z4 z5 z6:Int) (e0:List EO) (k1:Nat):OV:=
 (bb (Au F4 e0) (bb (AY z4 z3) (oo (EA z4) none fun k2=>(bb (an (Nat.blt k2 (Sl.n s2)) true) (oo (AL (Sl.cs s2) (k2*1)) none fun v0=>(oo (Bi .i64 v0) none fun x0=>(bb (nt (Bd z0 x0)) (oo (pu 56 [(.agg ⟨[.int .i64 z5,.int .u32 z6]⟩),(.int .i64 (Aj .i64 (Int.sub x0 z0)))]) none fun v1=>(oo (Bi .i64 v1) none fun x1=>(oo (GD (.int .i64 x1) e0 0) none fun r0=>(oo (Bi .i64 (WY r0 (.int .i64 (0:Int)))) none fun x2=>(oo (GD (.int .i64 x1) e0 0) none fun r1=>(bb (Au F4 (MF (.int .i64 x1) (.int .i64 (Aj .i64 (Int.add x2 (1:Int)))) k1 e0 r1)) (FK pu n ih0 ih1 s0 z0 s1 z1 z2 s2 z3 (Int.ofNat k2) z5 z6 (MF (.int .i64 x1) (.int .i64 (Aj .i64 (Int.add x2 (1:Int)))) k1 e0 r1) (R5 k1 r1)) none)))))) (FK pu n ih0 ih1 s0 z0 s1 z1 z2 s2 z3 (Int.ofNat k2) z5 z6 e0 k1)))) none)) (G9 pu n ih0 s0 s1 z1 z2 z5 z6 e0 k1)) none)
def DT (pu:Af) (n:Nat) (ih0:Sl→Sl→Int→Int→Int→Int→List EO→Nat→OV) (w:Nat):Sl→Int→Sl→Int→Int→Sl→Int→Int→Int→Int→List EO→Nat→OV:=
 Nat.rec (motive:=fun _=>Sl→Int→Sl→Int→Int→Sl→Int→Int→Int→Int→List EO→Nat→OV) (fun _ _ _ _ _ _ _ _ _ _ _ _=>none) (fun _ ih1=>Gt pu n ih0 ih1) w
def Gu (pu:Af) (n:Nat) (ih0:Sl→Sl→Int→Int→Int→Int→List EO→Nat→OV) (s0 s1:Sl) (z0 z1 z2 z3:Int) (e0:List EO) (k1:Nat):OV:=
 (bb (Au F4 e0) (bb (AY z1 z0) (oo (EA z1) none fun k2=>(bb (an (Nat.blt k2 (Sl.n s1)) true) (oo (AL (Sl.cs s1) (k2*1)) none fun v0=>(oo (Bi .i64 v0) none fun x0=>(DT pu n ih0 n s0 x0 s1 z0 (Int.ofNat k2) s0 (Int.ofNat (Sl.n s0)) (0:Int) z2 z3 e0 k1))) none)) (Iq pu n e0 k1)) none)
def Cs (pu:Af) (n w:Nat):Sl→Sl→Int→Int→Int→Int→List EO→Nat→OV:=
 Nat.rec (motive:=fun _=>Sl→Sl→Int→Int→Int→Int→List EO→Nat→OV) (fun _ _ _ _ _ _ _ _=>none) (fun _ ih0=>Gu pu n ih0) w
def Iy (pu:Af) (n:Nat) (z0 z1:Int):OV:=
 (bb (Au F4 ([]:List EO)) (oo (pu 116 [(.agg ⟨[.int .i64 z0,.int .u32 z1]⟩)]) none fun v0=>(oo (Bj 1 v0) none fun s0=>(Cs pu n n s0 s0 (Int.ofNat (Sl.n s0)) (0:Int) z0 z1 ([]:List EO) 0))) none)
def Jf (pu:Af) (n:Nat) (args:LV):OV:=
 (ll args none fun a0 args=>(ll args (oo (Bt a0) none fun l0=>(ll l0 none fun v0 l0=>(ll l0 none fun v1 l0=>(ll l0 (oo (Bi .i64 v0) none fun x0=>(oo (Bi .u32 v1) none fun x1=>(Iy pu n x0 x1))) fun _ _=>none)))) fun _ _=>none))
theorem ZB (pu:Af) (n:Nat) (e0:List EO) (k1:Nat) {v:Value} (hm:Iq pu n e0 k1=some v):BN tt (Bb tabs isP pu (inl pu)) 2 UU (fr 38 [(3,(.map (some 2)))]) (hT 3 [(.cells Ay true false []),(.map e0 k1)]) (FJ tt 2 0 [.tmp 2] v):=by
 unfold Iq at hm
 refine .then (.rK ?_)
 replace hm:=Ae hm;obtain⟨h0,hm⟩:=hm
 refine .ghs (fr 38 [(2,(.map (some 2)))]) (hT 3 [(.cells Ay true false []),(.map e0 k1)]) (.k [2] [false,false] [.tmp 2 false] [2] ⟨A7 h0,trivial⟩) ?_
 refine .ghs (fr 38 [(2,(.map (some 2)))]) (hT 3 [(.cells Ay true false []),(.map e0 k1)]) (.k [2] [false,false] [.tmp 2 false] [2] ⟨A7 h0,trivial⟩) ?_
 refine .ret ?_
 exact FN (.map (some 2)) [(.map e0 k1)] (by kernel_rfl) hm (Nat.le_of_ble_eq_true rfl) (G5 (Aez _ _) FD)
theorem Ab9 (pu:Af) (n:Nat) (z0 z1:Int) {v:Value} (hm:Iy pu n z0 z1=some v):BN tt (Bb tabs isP pu (inl pu)) 2 JN (fr 38 [(0,(.agg ⟨[zI z0,.int .u32 z1]⟩))]) (hT 2 [(.cells Ay true false [])]) (FJ tt 2 0 [.tmp 2] v):=by
 unfold Iy at hm
 refine .then (.rK (.ghs (fr 38 [(1,(pt 2 0))]) (hT 3 [(.cells Ay true false []),(oC [zI z0,.int .u32 z1])]) (.k0 [false,false] [.tmp 1 false] [1]) ?_))
 refine .then (.rK ?_)
 replace hm:=Ae hm;obtain⟨h0,hm⟩:=hm
 refine .ghs (fr 38 [(1,(pt 2 0)),(3,(.map (some 3)))]) (hT 4 [(.cells Ay true false []),(oC [zI z0,.int .u32 z1]),(.map ([]:List EO) 0)]) (.k [3] [false,false] [.tmp 1 false,.tmp 3 false] [1,3] ⟨A7 h0,trivial⟩) ?_
 refine .then ?_
 replace hm:=Sa hm;obtain⟨s0,h1,hm⟩:=hm
 refine .reg (eC 1 ((oo (pu 116 [(.agg ⟨[zI z0,.int .u32 z1]⟩)]) none fun v=>some (v,(hT 4 [(.cells Ay true false []),(oC [zI z0,.int .u32 z1]),(.map ([]:List EO) 0)])))) (AB h1) (eE)) ?_
 refine .ghs (fr 38 [(1,(pt 2 0)),(3,(.map (some 3))),(4,Sl.v 1 s0)]) (hT 4 [(.cells Ay true false []),(oC [zI z0,.int .u32 z1]),(.map ([]:List EO) 0)]) (.k [3] [false,false] [.tmp 1 false,.tmp 3 false] [1,3,4] ⟨A7 h0,trivial⟩) ?_
 refine .join (v:=v) (fun y:List EO×Nat=>((fr 38 [(3,(.map (some 2)))]),(hT 3 [(.cells Ay true false []),(.map y.1 y.2)]))) (fun y=>Iq pu n y.1 y.2) ?_ ?_
 ·rintro⟨e0,k1⟩ hm
  exact ZB pu n e0 k1 hm
 ·refine .then (.rK (.ghs (fr 38 [(1,(pt 2 0)),(3,(.map (some 3))),(4,Sl.v 1 s0),(12,Sl.v 1 s0),(13,(zI (Int.ofNat (Sl.n s0)))),(14,(zI (0:Int)))]) (hT 4 [(.cells Ay true false []),(oC [zI z0,.int .u32 z1]),(.map ([]:List EO) 0)]) (.k [3] [false,false] [.tmp 1 false,.tmp 3 false] [1,3,4,12,13,14] ⟨A7 h0,trivial⟩) ?_))
  refine .block (.loopM (v:=v) (fun y:Sl×Sl×Int×Int×Int×Int×List EO×Nat=>((fr 38 [(1,(pt 2 0)),(3,(.map (some 3))),(4,(Sl.v 1 y.1)),(12,(Sl.v 1 y.2.1)),(13,(zI y.2.2.1)),(14,(zI y.2.2.2.1))]),(hT 4 [(.cells Ay true false []),(oC [(zI y.2.2.2.2.1),(.int .u32 y.2.2.2.2.2.1)]),(.map y.2.2.2.2.2.2.1 y.2.2.2.2.2.2.2)]))) (fun w y=>Cs pu n w y.1 y.2.1 y.2.2.1 y.2.2.2.1 y.2.2.2.2.1 y.2.2.2.2.2.1 y.2.2.2.2.2.2.1 y.2.2.2.2.2.2.2) n ⟨(s0,s0,(Int.ofNat (Sl.n s0)),(0:Int),z0,z1,([]:List EO),0),hm,(.k [3] [false,false] [.tmp 1 false,.tmp 3 false] [1,3,4,12,13,14] ⟨A7 h0,trivial⟩)⟩ (fun _=>rfl) ?_)
  rintro w0 ⟨s1,s2,z2,z3,z4,z5,e1,k2⟩ hm
  replace hm:Gu pu n (Cs pu n w0) s1 s2 z2 z3 z4 z5 e1 k2=some v:=hm
  unfold Gu at hm
  refine .then (.rK ?_)
  replace hm:=Ae hm;obtain⟨h2,hm⟩:=hm
  refine .ghs (fr 38 [(1,(pt 2 0)),(3,(.map (some 3))),(4,Sl.v 1 s1),(12,Sl.v 1 s2),(13,zI z2),(14,zI z3),(15,(zB (AY z3 z2)))]) (hT 4 [(.cells Ay true false []),(oC [zI z4,.int .u32 z5]),(.map e1 k2)]) (.k [3] [false,false] [.tmp 1 false,.tmp 3 false] [1,3,4,12,13,14,15] ⟨A7 h2,trivial⟩) ?_
  refine .then ?_
  replace hm:=Ag hm;rcases hm with⟨h3,hm⟩ | ⟨h3,hm⟩
  ·refine BB (AY z3 z2) h3 ?_
   refine .skip (.ghs (fr 38 [(1,(pt 2 0)),(3,(.map (some 3))),(4,Sl.v 1 s1),(12,Sl.v 1 s2),(13,zI z2),(14,zI z3)]) (hT 4 [(.cells Ay true false []),(oC [zI z4,.int .u32 z5]),(.map e1 k2)]) (.k [3] [false,false] [.tmp 1 false,.tmp 3 false] [1,3,4,12,13,14] ⟨A7 h2,trivial⟩) ?_)
   refine .join (v:=v) (fun y:Sl×Sl×Int×Int×Int×Int×List EO×Nat=>((fr 38 [(1,(pt 2 0)),(3,(.map (some 3))),(4,(Sl.v 1 y.1)),(12,(Sl.v 1 y.2.1)),(13,(zI y.2.2.1)),(14,(zI y.2.2.2.1))]),(hT 4 [(.cells Ay true false []),(oC [(zI y.2.2.2.2.1),(.int .u32 y.2.2.2.2.2.1)]),(.map y.2.2.2.2.2.2.1 y.2.2.2.2.2.2.2)]))) (fun y=>G9 pu n (Cs pu n w0) y.1 y.2.1 y.2.2.1 y.2.2.2.1 y.2.2.2.2.1 y.2.2.2.2.2.1 y.2.2.2.2.2.2.1 y.2.2.2.2.2.2.2) ?_ ?_
   ·rintro⟨s3,s4,z6,z7,z8,z9,e2,k3⟩ hm
    unfold G9 at hm
    refine .rK ?_
    replace hm:=Ae hm;obtain⟨h4,hm⟩:=hm
    exact⟨(s3,s4,z6,(Aj .i64 (Int.add z7 (1:Int))),z8,z9,e2,k3),hm,(.k [3] [false,false] [.tmp 1 false,.tmp 3 false] [1,3,4,12,13,14] ⟨A7 h4,trivial⟩)⟩
   ·refine .block (.then ?_)
    replace hm:=Ab hm;obtain⟨k4,h5,hm⟩:=hm
    obtain rfl:=AR h5
    replace hm:=Ae hm;obtain⟨h6,hm⟩:=hm
    replace hm:=Gs hm;obtain⟨x0,h7,hm⟩:=hm
    refine .reg (eD (keep (hT 4 [(.cells Ay true false []),(oC [zI z4,.int .u32 z5]),(.map e1 k2)]) (bb (an (Nat.blt k4 (Sl.n s2)) true) (some (Cv (k4*1) (Sl.cs s2))) none)) (AX h6) (eD (keep (hT 4 [(.cells Ay true false []),(oC [zI z4,.int .u32 z5]),(.map e1 k2)]) (AL (Sl.cs s2) (k4*1))) (AZ h7) (eE))) ?_
    refine .ghs (fr 38 [(1,(pt 2 0)),(3,(.map (some 3))),(4,Sl.v 1 s1),(6,zI x0),(12,Sl.v 1 s2),(13,zI z2),(14,(zI (Int.ofNat k4)))]) (hT 4 [(.cells Ay true false []),(oC [zI z4,.int .u32 z5]),(.map e1 k2)]) (.k [3] [false,false] [.tmp 1 false,.tmp 3 false] [1,3,4,6,12,13,14] ⟨A7 h2,trivial⟩) ?_
    refine .then (.rK (.ghs (fr 38 [(1,(pt 2 0)),(3,(.map (some 3))),(4,Sl.v 1 s1),(6,zI x0),(12,Sl.v 1 s2),(13,zI z2),(14,(zI (Int.ofNat k4))),(18,Sl.v 1 s1),(19,(zI (Int.ofNat (Sl.n s1)))),(20,(zI (0:Int)))]) (hT 4 [(.cells Ay true false []),(oC [zI z4,.int .u32 z5]),(.map e1 k2)]) (.k [3] [false,false] [.tmp 1 false,.tmp 3 false] [1,3,4,6,12,13,14,18,19,20] ⟨A7 h2,trivial⟩) ?_))
    refine .block (.loopM (v:=v) (fun y:Sl×Int×Sl×Int×Int×Sl×Int×Int×Int×Int×List EO×Nat=>((fr 38 [(1,(pt 2 0)),(3,(.map (some 3))),(4,(Sl.v 1 y.1)),(6,(zI y.2.1)),(12,(Sl.v 1 y.2.2.1)),(13,(zI y.2.2.2.1)),(14,(zI y.2.2.2.2.1)),(18,(Sl.v 1 y.2.2.2.2.2.1)),(19,(zI y.2.2.2.2.2.2.1)),(20,(zI y.2.2.2.2.2.2.2.1))]),(hT 4 [(.cells Ay true false []),(oC [(zI y.2.2.2.2.2.2.2.2.1),(.int .u32 y.2.2.2.2.2.2.2.2.2.1)]),(.map y.2.2.2.2.2.2.2.2.2.2.1 y.2.2.2.2.2.2.2.2.2.2.2)]))) (fun w y=>DT pu n (Cs pu n w0) w y.1 y.2.1 y.2.2.1 y.2.2.2.1 y.2.2.2.2.1 y.2.2.2.2.2.1 y.2.2.2.2.2.2.1 y.2.2.2.2.2.2.2.1 y.2.2.2.2.2.2.2.2.1 y.2.2.2.2.2.2.2.2.2.1 y.2.2.2.2.2.2.2.2.2.2.1 y.2.2.2.2.2.2.2.2.2.2.2) n ⟨(s1,x0,s2,z2,(Int.ofNat k4),s1,(Int.ofNat (Sl.n s1)),(0:Int),z4,z5,e1,k2),hm,(.k [3] [false,false] [.tmp 1 false,.tmp 3 false] [1,3,4,6,12,13,14,18,19,20] ⟨A7 h2,trivial⟩)⟩ (fun _=>rfl) ?_)
    rintro w1 ⟨s5,z10,s6,z11,z12,s7,z13,z14,z15,z16,e3,k5⟩ hm
    replace hm:Gt pu n (Cs pu n w0) (DT pu n (Cs pu n w0) w1) s5 z10 s6 z11 z12 s7 z13 z14 z15 z16 e3 k5=some v:=hm
    unfold Gt at hm
    refine .then (.rK ?_)
    replace hm:=Ae hm;obtain⟨h8,hm⟩:=hm
    refine .ghs (fr 38 [(1,(pt 2 0)),(3,(.map (some 3))),(4,Sl.v 1 s5),(6,zI z10),(12,Sl.v 1 s6),(13,zI z11),(14,zI z12),(18,Sl.v 1 s7),(19,zI z13),(20,zI z14),(21,(zB (AY z14 z13)))]) (hT 4 [(.cells Ay true false []),(oC [zI z15,.int .u32 z16]),(.map e3 k5)]) (.k [3] [false,false] [.tmp 1 false,.tmp 3 false] [1,3,4,6,12,13,14,18,19,20,21] ⟨A7 h8,trivial⟩) ?_
    refine .then ?_
    replace hm:=Ag hm;rcases hm with⟨h9,hm⟩ | ⟨h9,hm⟩
    ·refine BB (AY z14 z13) h9 ?_
     refine .skip (.ghs (fr 38 [(1,(pt 2 0)),(3,(.map (some 3))),(4,Sl.v 1 s5),(6,zI z10),(12,Sl.v 1 s6),(13,zI z11),(14,zI z12),(18,Sl.v 1 s7),(19,zI z13),(20,zI z14)]) (hT 4 [(.cells Ay true false []),(oC [zI z15,.int .u32 z16]),(.map e3 k5)]) (.k [3] [false,false] [.tmp 1 false,.tmp 3 false] [1,3,4,6,12,13,14,18,19,20] ⟨A7 h8,trivial⟩) ?_)
     refine .join (v:=v) (fun y:Sl×Int×Sl×Int×Int×Sl×Int×Int×Int×Int×List EO×Nat=>((fr 38 [(1,(pt 2 0)),(3,(.map (some 3))),(4,(Sl.v 1 y.1)),(6,(zI y.2.1)),(12,(Sl.v 1 y.2.2.1)),(13,(zI y.2.2.2.1)),(14,(zI y.2.2.2.2.1)),(18,(Sl.v 1 y.2.2.2.2.2.1)),(19,(zI y.2.2.2.2.2.2.1)),(20,(zI y.2.2.2.2.2.2.2.1))]),(hT 4 [(.cells Ay true false []),(oC [(zI y.2.2.2.2.2.2.2.2.1),(.int .u32 y.2.2.2.2.2.2.2.2.2.1)]),(.map y.2.2.2.2.2.2.2.2.2.2.1 y.2.2.2.2.2.2.2.2.2.2.2)]))) (fun y=>FK pu n (Cs pu n w0) (DT pu n (Cs pu n w0) w1) y.1 y.2.1 y.2.2.1 y.2.2.2.1 y.2.2.2.2.1 y.2.2.2.2.2.1 y.2.2.2.2.2.2.1 y.2.2.2.2.2.2.2.1 y.2.2.2.2.2.2.2.2.1 y.2.2.2.2.2.2.2.2.2.1 y.2.2.2.2.2.2.2.2.2.2.1 y.2.2.2.2.2.2.2.2.2.2.2) ?_ ?_
     ·rintro⟨s8,z17,s9,z18,z19,s10,z20,z21,z22,z23,e4,k6⟩ hm
      unfold FK at hm
      refine .rK ?_
      replace hm:=Ae hm;obtain⟨h10,hm⟩:=hm
      exact⟨(s8,z17,s9,z18,z19,s10,z20,(Aj .i64 (Int.add z21 (1:Int))),z22,z23,e4,k6),hm,(.k [3] [false,false] [.tmp 1 false,.tmp 3 false] [1,3,4,6,12,13,14,18,19,20] ⟨A7 h10,trivial⟩)⟩
     ·refine .block (.then ?_)
      replace hm:=Ab hm;obtain⟨k7,h11,hm⟩:=hm
      obtain rfl:=AR h11
      replace hm:=Ae hm;obtain⟨h12,hm⟩:=hm
      replace hm:=Gs hm;obtain⟨x1,h13,hm⟩:=hm
      refine .reg (eD (keep (hT 4 [(.cells Ay true false []),(oC [zI z15,.int .u32 z16]),(.map e3 k5)]) (bb (an (Nat.blt k7 (Sl.n s7)) true) (some (Cv (k7*1) (Sl.cs s7))) none)) (AX h12) (eD (keep (hT 4 [(.cells Ay true false []),(oC [zI z15,.int .u32 z16]),(.map e3 k5)]) (AL (Sl.cs s7) (k7*1))) (AZ h13) (eE))) ?_
      refine .ghs (fr 38 [(1,(pt 2 0)),(3,(.map (some 3))),(4,Sl.v 1 s5),(6,zI z10),(8,zI x1),(12,Sl.v 1 s6),(13,zI z11),(14,zI z12),(18,Sl.v 1 s7),(19,zI z13),(20,(zI (Int.ofNat k7)))]) (hT 4 [(.cells Ay true false []),(oC [zI z15,.int .u32 z16]),(.map e3 k5)]) (.k [3] [false,false] [.tmp 1 false,.tmp 3 false] [1,3,4,6,8,12,13,14,18,19,20] ⟨A7 h8,trivial⟩) ?_
      refine .then (.rK (.ghs (fr 38 [(1,(pt 2 0)),(3,(.map (some 3))),(4,Sl.v 1 s5),(6,zI z10),(8,zI x1),(12,Sl.v 1 s6),(13,zI z11),(14,zI z12),(18,Sl.v 1 s7),(19,zI z13),(20,(zI (Int.ofNat k7))),(26,(zB (nt (Bd z10 x1))))]) (hT 4 [(.cells Ay true false []),(oC [zI z15,.int .u32 z16]),(.map e3 k5)]) (.k [3] [false,false] [.tmp 1 false,.tmp 3 false] [1,3,4,6,8,12,13,14,18,19,20,26] ⟨A7 h8,trivial⟩) ?_))
      replace hm:=Ag hm;rcases hm with⟨h14,hm⟩ | ⟨h14,hm⟩
      ·refine BB (nt (Bd z10 x1)) h14 ?_
       replace hm:=Gs hm;obtain⟨x2,h15,hm⟩:=hm
       replace hm:=Ab hm;obtain⟨r0,h16,hm⟩:=hm
       replace hm:=Ab hm;obtain⟨x3,h17,hm⟩:=hm
       replace hm:=Ab hm;obtain⟨r1,h18,hm⟩:=hm
       refine .reg (eC 5 ((oo (pu 56 [(.agg ⟨[zI z15,.int .u32 z16]⟩),(zI (Aj .i64 (Int.sub x1 z10)))]) none fun v=>some (v,(hT 4 [(.cells Ay true false []),(oC [zI z15,.int .u32 z16]),(.map e3 k5)])))) (AB h15) (eD (keep (hT 4 [(.cells Ay true false []),(oC [zI z15,.int .u32 z16]),(.map e3 k5)]) (oo (GD (zI x2) e3 0) none fun r=>oo r (okV false (zI (0:Int)) false) fun p=>pp p fun _ v=>okV false v true)) (dY h16 (Eh h17)) (eC 1 (done (oo (GD (zI x2) e3 0) none fun r=>oo r (some (Aa.set (hT 4 [(.cells Ay true false []),(oC [zI z15,.int .u32 z16]),(.map e3 k5)]) 3 (.map (Br e3 [⟨zI x2,(zI (Aj .i64 (Int.add x3 (1:Int)))),k5⟩]) (k5+1)))) fun p=>pp p fun j _=>some (Aa.set (hT 4 [(.cells Ay true false []),(oC [zI z15,.int .u32 z16]),(.map e3 k5)]) 3 (.map (SS (fun e=>⟨zI x2,(zI (Aj .i64 (Int.add x3 (1:Int)))),e.born⟩) j e3) k5))) undef) (xJ (H2:=(hT 4 [(.cells Ay true false []),(oC [zI z15,.int .u32 z16]),(.map (MF (zI x2) (zI (Aj .i64 (Int.add x3 (1:Int)))) k5 e3 r1) (R5 k5 r1))])) h18) (eE)))) ?_
       replace hm:=Ae hm;obtain⟨h19,hm⟩:=hm
       exact⟨(s5,z10,s6,z11,z12,s7,z13,(Int.ofNat k7),z15,z16,(MF (zI x2) (zI (Aj .i64 (Int.add x3 (1:Int)))) k5 e3 r1),(R5 k5 r1)),hm,(.k [3] [false,false] [.tmp 1 false,.tmp 3 false] [1,3,4,6,12,13,14,18,19,20] ⟨A7 h19,trivial⟩)⟩
      ·refine BI (nt (Bd z10 x1)) h14 ?_
       refine .skip ?_
       exact⟨(s5,z10,s6,z11,z12,s7,z13,(Int.ofNat k7),z15,z16,e3,k5),hm,(.k [3] [false,false] [.tmp 1 false,.tmp 3 false] [1,3,4,6,12,13,14,18,19,20] ⟨A7 h8,trivial⟩)⟩
    ·refine BI (AY z14 z13) h9 ?_
     refine .exit ?_
     exact⟨(s5,s6,z11,z12,z15,z16,e3,k5),hm,(.k [3] [false,false] [.tmp 1 false,.tmp 3 false] [1,3,4,12,13,14] ⟨A7 h8,trivial⟩)⟩
  ·refine BI (AY z3 z2) h3 ?_
   refine .exit ?_
   exact⟨(e1,k2),hm,(.k [3] [false,false] [.tmp 3 false] [3] ⟨A7 h2,trivial⟩)⟩
theorem Aca {call:A8} (pu:Af) (n:Nat) (hcall:call=Bb tabs isP pu (inl pu)) {args:LV} {os:List AJ} {z:Value} (ha:args.length=1) (hk:os.length=0) (hpl:∀ o∈os,plainO o) (hm:Jf pu n (args++os.map Ef)=some z):args.length≤38∧BN tt call (tabs.length+0) JN (Fr.made 38 args) (BK tabs os) (FJ tt tabs.length 0 [.tmp 2] z):=by
 subst hcall
 have hq:=Eb ha;clear ha;obtain⟨a0,args,rfl,ha⟩:=hq
 obtain rfl:=len_nil ha
 obtain rfl:=len_nil hk
 replace hm:Jf pu n [a0]=some z:=hm
 unfold Jf at hm
 replace hm:(oo (Bt a0) none fun l0=>(ll l0 none fun v0 l0=>(ll l0 none fun v1 l0=>(ll l0 (oo (Bi .i64 v0) none fun x0=>(oo (Bi .u32 v1) none fun x1=>(Iy pu n x0 x1))) fun _ _=>none))))=some z:=hm
 replace hm:=BG hm;obtain⟨l0,rfl,hm⟩:=hm
 replace hm:=Ad hm;obtain⟨v0,l11648_0,rfl,hm⟩:=hm
 replace hm:=Ad hm;obtain⟨v1,l11648_1,rfl,hm⟩:=hm
 replace hm:=AC hm;obtain⟨rfl,hm⟩:=hm
 replace hm:=Ai hm;obtain⟨x0,rfl,hm⟩:=hm
 replace hm:=Ai hm;obtain⟨x1,rfl,hm⟩:=hm
 refine⟨by simp,?_⟩
 exact .same (F':=(fr 38 [(0,(.agg ⟨[zI x0,.int .u32 x1]⟩))])) (H':=(hT 2 [(.cells Ay true false [])])) (by kernel_rfl) (by kernel_rfl) (Ab9 pu n x0 x1 hm)
end
end Go.TpEM
set_option maxRecDepth 100000
set_option maxHeartbeats 20000000
set_option linter.unusedVariables false
namespace Go.TpEM
open Go.Sp Go.TpE
noncomputable section
def Ni (pu:Af) (n:Nat) (ih0:Int→Nat→Nat→Nat→Nat→List EO→Nat→LV→LV→Nat→List Nat→Nat→OV) (z0:Int) (n0 c0 n1 c1:Nat) (e0:List EO) (k1:Nat) (q0:LV) (q1:LV) (k2:Nat) (l0:List Nat) (k3:Nat):OV:=
 (bb (Au (fun e=>Nat.blt (EO.born e) k2) e0) (bb (Nat.ble k2 k3) (Xd e0 l0 (bb (Au F4 e0) (bb (Au Ah q0) (bb (Au Ah q1) (some (.tuple ⟨[(.tuple ⟨[]⟩),(.agg ⟨[.int .i64 z0,(.slice (some ⟨4,0,some 4⟩) n0 c0),(.slice (some ⟨5,0,some 1⟩) n1 c1)]⟩),(Ef (.map e0 k1)),(.agg ⟨q0⟩),(.agg ⟨q1⟩)]⟩)) none) none) none) (fun e1:EO=>(bb (Au F4 e0) (bb (Au Ah q0) (bb (Au Ah q1) (oo (Xb e0 k1 (Br l0 [(EO.born e1)]) k1) none fun v0=>(oo (CQ v0) none fun l1=>(ll l1 none fun v1 l1=>(ll l1 none fun v2 l1=>(ll l1 (oo (Bi .i64 v1) none fun x0=>(oo (Bf v2) none fun b0=>(bb b0 (oo (EA x0) none fun k4=>(bb (an (Nat.blt k4 n1) true) (oo (AL q1 (0+k4*1)) none fun v3=>(oo (Bi .i64 v3) none fun x1=>(bb (an (Nat.blt k4 n1) true) (bb (an (Nat.ble ((0+k4*1)+1) (len q1)) true) (bb (Au Ah (BM ([(.int .i64 (Aj .i64 (Int.add x1 (1:Int))))]:LV) (0+k4*1) q1)) (ih0 z0 n0 c0 n1 c1 e0 k1 q0 (BM ([(.int .i64 (Aj .i64 (Int.add x1 (1:Int))))]:LV) (0+k4*1) q1) k2 (Br l0 [(EO.born e1)]) k1) none) none) none))) none)) (oo (EA x0) none fun k5=>(bb (an (Nat.blt k5 n1) true) (oo (AL q1 (0+k5*1)) none fun v4=>(oo (Bi .i64 v4) none fun x2=>(bb (an (Nat.blt k5 n1) true) (bb (an (Nat.ble ((0+k5*1)+1) (len q1)) true) (bb (Au Ah (BM ([(.int .i64 (Aj .i64 (Int.sub x2 (1:Int))))]:LV) (0+k5*1) q1)) (ih0 z0 n0 c0 n1 c1 e0 k1 q0 (BM ([(.int .i64 (Aj .i64 (Int.sub x2 (1:Int))))]:LV) (0+k5*1) q1) k2 (Br l0 [(EO.born e1)]) k1) none) none) none))) none))))) fun _ _=>none))))) none) none) none))) none) none)
def Oi (pu:Af) (n w:Nat):Int→Nat→Nat→Nat→Nat→List EO→Nat→LV→LV→Nat→List Nat→Nat→OV:=
 Nat.rec (motive:=fun _=>Int→Nat→Nat→Nat→Nat→List EO→Nat→LV→LV→Nat→List Nat→Nat→OV) (fun _ _ _ _ _ _ _ _ _ _ _ _=>none) (fun _ ih0=>Ni pu n ih0) w
def LY (pu:Af) (n:Nat) (z0:Int) (n0 c0 n1 c1:Nat) (e0:List EO) (k1:Nat) (q0:LV) (q1:LV):OV:=
 (bb (Au F4 e0) (bb (Au Ah q0) (bb (Au Ah q1) (Oi pu n n z0 n0 c0 n1 c1 e0 k1 q0 q1 k1 ([]:List Nat) k1) none) none) none)
def Ov (pu:Af) (n:Nat) (args:LV):OV:=
 (ll args none fun a0 args=>(ll args none fun a1 args=>(ll args none fun o0 args=>(ll args none fun o1 args=>(ll args none fun o2 args=>(ll args none fun o3 args=>(ll args (bb (dZ a0 2 0) (bb (Wz a1 3) (oo (Bt o0) none fun l0=>(ll l0 none fun v0 l0=>(ll l0 none fun v1 l0=>(ll l0 none fun v2 l0=>(ll l0 (oo (Bi .i64 v0) none fun x0=>(oo (WA 4 0 4 v1) none fun y0=>(oo (WA 5 0 1 v2) none fun y1=>(oo (Fj o1) none fun y2=>(oo (Bt o2) none fun q0=>(oo (Bt o3) none fun q1=>(LY pu n x0 (NC.n y0) (NC.c y0) (NC.n y1) (NC.c y1) (Akd.es y2) (Akd.clock y2) q0 q1))))))) fun _ _=>none))))) none) none) fun _ _=>none)))))))
theorem Acb (pu:Af) (n:Nat) (z0:Int) (n0 c0 n1 c1:Nat) (e0:List EO) (k1:Nat) (q0:LV) (q1:LV) {v:Value} (hm:LY pu n z0 n0 c0 n1 c1 e0 k1 q0 q1=some v):BN tt (Bb tabs isP pu (inl pu)) 6 JO (fr 32 [(0,(pt 2 0)),(1,(.map (some 3)))]) (hT 6 [(.cells Ay true false []),(oC [zI z0,sc 4 0 4 n0 c0,sc 5 0 1 n1 c1]),(.map e0 k1),oC q0,oC q1]) (FJ tt 2 4 [] v):=by
 unfold LY at hm
 refine .then (.rK ?_)
 replace hm:=Ae hm;obtain⟨h0,hm⟩:=hm
 replace hm:=Ae hm;obtain⟨h1,hm⟩:=hm
 replace hm:=Ae hm;obtain⟨h2,hm⟩:=hm
 refine .ghs (fr 32 [(0,(pt 2 0)),(7,(pt 6 0))]) (hT 7 [(.cells Ay true false []),(oC [zI z0,sc 4 0 4 n0 c0,sc 5 0 1 n1 c1]),(.map e0 k1),oC q0,oC q1,(.iter (some 3) k1 ([]:List Nat) k1)]) (.k [3,4,5] [false,false,true,false,false,false] [.tmp 7 false] [0,7] ⟨A7 h0,A7 h1,A7 h2,trivial⟩) ?_
 refine .block (.loopM (v:=v) (fun y:Int×Nat×Nat×Nat×Nat×List EO×Nat×LV×LV×Nat×List Nat×Nat=>((fr 32 [(0,(pt 2 0)),(7,(pt 6 0))]),(hT 7 [(.cells Ay true false []),(oC [(zI y.1),(sc 4 0 4 y.2.1 y.2.2.1),(sc 5 0 1 y.2.2.2.1 y.2.2.2.2.1)]),(.map y.2.2.2.2.2.1 y.2.2.2.2.2.2.1),(oC y.2.2.2.2.2.2.2.1),(oC y.2.2.2.2.2.2.2.2.1),(.iter (some 3) y.2.2.2.2.2.2.2.2.2.1 y.2.2.2.2.2.2.2.2.2.2.1 y.2.2.2.2.2.2.2.2.2.2.2)]))) (fun w y=>Oi pu n w y.1 y.2.1 y.2.2.1 y.2.2.2.1 y.2.2.2.2.1 y.2.2.2.2.2.1 y.2.2.2.2.2.2.1 y.2.2.2.2.2.2.2.1 y.2.2.2.2.2.2.2.2.1 y.2.2.2.2.2.2.2.2.2.1 y.2.2.2.2.2.2.2.2.2.2.1 y.2.2.2.2.2.2.2.2.2.2.2) n ⟨(z0,n0,c0,n1,c1,e0,k1,q0,q1,k1,([]:List Nat),k1),hm,(.k [3,4,5] [false,false,true,false,false,false] [.tmp 7 false] [0,7] ⟨A7 h0,A7 h1,A7 h2,trivial⟩)⟩ (fun _=>rfl) ?_)
 rintro w0 ⟨z1,n2,c2,n3,c3,e1,k2,q2,q3,k3,l0,k4⟩ hm
 replace hm:Ni pu n (Oi pu n w0) z1 n2 c2 n3 c3 e1 k2 q2 q3 k3 l0 k4=some v:=hm
 unfold Ni at hm
 refine .then ?_
 replace hm:=Ae hm;obtain⟨h3,hm⟩:=hm
 replace hm:=Ae hm;obtain⟨h4,hm⟩:=hm
 refine .nextK (id:=6) (mid:=3) (since:=k3) (st:=k4) (clock:=k2) (seen:=l0) (es:=e1) (d:=some 8) (x:=(tp 7)) (ty:=0) (os:=[EM 9 8 0 4]) (by kernel_rfl) (by kernel_rfl) (by kernel_rfl) (by kernel_rfl) h3 h4 (by kernel_rfl) (fun _=>by kernel_rfl) (fun h5=>?_) (fun e2 h6=>?_)
 ·replace hm:=xN hm h5
  replace hm:=Ae hm;obtain⟨h7,hm⟩:=hm
  replace hm:=Ae hm;obtain⟨h8,hm⟩:=hm
  replace hm:=Ae hm;obtain⟨h9,hm⟩:=hm
  refine .ghs (fr 32 [(0,(pt 2 0)),(7,(pt 6 0)),(9,zB false)]) (hT 7 [(.cells Ay true false []),(oC [zI z1,sc 4 0 4 n2 c2,sc 5 0 1 n3 c3]),(.map e1 k2),oC q2,oC q3,(.iter (some 3) k3 l0 k4)]) (.k [3,4,5] [false,false,true,false,false,false] [.tmp 7 false] [0,7,9] ⟨A7 h7,A7 h8,A7 h9,trivial⟩) ?_
  refine .then (.condF (by kernel_rfl) ?_)
  refine .exit ?_
  refine .ghs (fr 32 []) (hT 6 [(.cells Ay true false []),(oC [zI z1,sc 4 0 4 n2 c2,sc 5 0 1 n3 c3]),(.map e1 k2),oC q2,oC q3]) (.k [3,4,5] [false,false,true,false,false,false] [] [] ⟨A7 h7,A7 h8,A7 h9,trivial⟩) ?_
  exact WZ (.tuple ⟨[]⟩) [(oC [zI z1,sc 4 0 4 n2 c2,sc 5 0 1 n3 c3]),(.map e1 k2),oC q2,oC q3] (by kernel_rfl) hm (Nat.le_of_ble_eq_true rfl) (G5 (xK _) (G5 (Aez _ _) (G5 (xK _) (G5 (xK _) FD))))
 ·replace hm:=xO hm h6
  replace hm:=Ae hm;obtain⟨h10,hm⟩:=hm
  replace hm:=Ae hm;obtain⟨h11,hm⟩:=hm
  replace hm:=Ae hm;obtain⟨h12,hm⟩:=hm
  refine .ghs (fr 32 [(0,(pt 2 0)),(7,(pt 6 0)),(9,zB true)]) (hT 7 [(.cells Ay true false []),(oC [zI z1,sc 4 0 4 n2 c2,sc 5 0 1 n3 c3]),(.map e1 k2),oC q2,oC q3,(.iter (some 3) k3 (Br l0 [(EO.born e2)]) k2)]) (.k [3,4,5] [false,false,true,false,false,false] [.tmp 7 false] [0,7,9] ⟨A7 h10,A7 h11,A7 h12,trivial⟩) ?_
  refine .then (.condT (by kernel_rfl) ?_)
  refine .skip (.ghs (fr 32 [(0,(pt 2 0)),(7,(pt 6 0))]) (hT 7 [(.cells Ay true false []),(oC [zI z1,sc 4 0 4 n2 c2,sc 5 0 1 n3 c3]),(.map e1 k2),oC q2,oC q3,(.iter (some 3) k3 (Br l0 [(EO.born e2)]) k2)]) (.k [3,4,5] [false,false,true,false,false,false] [.tmp 7 false] [0,7] ⟨A7 h10,A7 h11,A7 h12,trivial⟩) ?_)
  refine .block (.then ?_)
  replace hm:=Ab hm;obtain⟨v0,h13,hm⟩:=hm
  replace hm:=Ch hm;obtain⟨l1,rfl,hm⟩:=hm
  replace hm:=Ad hm;obtain⟨v1,l12193_0,rfl,hm⟩:=hm
  replace hm:=Ad hm;obtain⟨v2,l12193_1,rfl,hm⟩:=hm
  replace hm:=AC hm;obtain⟨rfl,hm⟩:=hm
  replace hm:=Ai hm;obtain⟨x0,rfl,hm⟩:=hm
  replace hm:=Be hm;obtain⟨b0,rfl,hm⟩:=hm
  refine .reg (eD (keep (hT 7 [(.cells Ay true false []),(oC [zI z1,sc 4 0 4 n2 c2,sc 5 0 1 n3 c3]),(.map e1 k2),oC q2,oC q3,(.iter (some 3) k3 (Br l0 [(EO.born e2)]) k2)]) (Xb e1 k2 (Br l0 [(EO.born e2)]) k2)) (AZ h13) (eE)) ?_
  refine .ghs (fr 32 [(0,(pt 2 0)),(4,zI x0),(5,zB b0),(7,(pt 6 0))]) (hT 7 [(.cells Ay true false []),(oC [zI z1,sc 4 0 4 n2 c2,sc 5 0 1 n3 c3]),(.map e1 k2),oC q2,oC q3,(.iter (some 3) k3 (Br l0 [(EO.born e2)]) k2)]) (.k [3,4,5] [false,false,true,false,false,false] [.tmp 7 false] [0,4,5,7] ⟨A7 h10,A7 h11,A7 h12,trivial⟩) ?_
  refine .then (.rK (.ghs (fr 32 [(0,(pt 2 0)),(4,zI x0),(7,(pt 6 0)),(13,zB b0)]) (hT 7 [(.cells Ay true false []),(oC [zI z1,sc 4 0 4 n2 c2,sc 5 0 1 n3 c3]),(.map e1 k2),oC q2,oC q3,(.iter (some 3) k3 (Br l0 [(EO.born e2)]) k2)]) (.k [3,4,5] [false,false,true,false,false,false] [.tmp 7 false] [0,4,7,13] ⟨A7 h10,A7 h11,A7 h12,trivial⟩) ?_))
  replace hm:=Ag hm;rcases hm with⟨h14,hm⟩ | ⟨h14,hm⟩
  ·refine .ifT b0 (by kernel_rfl) h14 ?_
   replace hm:=Ab hm;obtain⟨k5,h15,hm⟩:=hm
   obtain rfl:=AR h15
   replace hm:=Ae hm;obtain⟨h16,hm⟩:=hm
   replace hm:=Gs hm;obtain⟨x1,h17,hm⟩:=hm
   replace hm:=Ae hm;obtain⟨h18,hm⟩:=hm
   replace hm:=Ae hm;obtain⟨h19,hm⟩:=hm
   refine .reg (eC 5 (keep (hT 7 [(.cells Ay true false []),(oC [zI z1,sc 4 0 4 n2 c2,sc 5 0 1 n3 c3]),(.map e1 k2),oC q2,oC q3,(.iter (some 3) k3 (Br l0 [(EO.born e2)]) k2)]) (bb (an (Nat.blt k5 n3) true) (some (.pointer (some ⟨5,(0+k5*1),none⟩))) none)) (AX h16) (eD (keep (hT 7 [(.cells Ay true false []),(oC [zI z1,sc 4 0 4 n2 c2,sc 5 0 1 n3 c3]),(.map e1 k2),oC q2,oC q3,(.iter (some 3) k3 (Br l0 [(EO.born e2)]) k2)]) (AL q3 (0+k5*1))) (AZ h17) (eC 1 (keep (hT 7 [(.cells Ay true false []),(oC [zI z1,sc 4 0 4 n2 c2,sc 5 0 1 n3 c3]),(.map e1 k2),oC q2,oC q3,(.iter (some 3) k3 (Br l0 [(EO.born e2)]) k2)]) (bb (an (Nat.blt k5 n3) true) (some (.pointer (some ⟨5,(0+k5*1),none⟩))) none)) (AX h18) (eD (done (bb (an (Nat.ble ((0+k5*1)+1) (len q3)) true) (some (hT 7 [(.cells Ay true false []),(oC [zI z1,sc 4 0 4 n2 c2,sc 5 0 1 n3 c3]),(.map e1 k2),oC q2,(oC (BM ([(zI (Aj .i64 (Int.add x1 (1:Int))))]:LV) (0+k5*1) q3)),(.iter (some 3) k3 (Br l0 [(EO.born e2)]) k2)])) none) undef) (Js h19) (eE))))) ?_
   replace hm:=Ae hm;obtain⟨h20,hm⟩:=hm
   exact⟨(z1,n2,c2,n3,c3,e1,k2,q2,(BM ([(zI (Aj .i64 (Int.add x1 (1:Int))))]:LV) (0+k5*1) q3),k3,(Br l0 [(EO.born e2)]),k2),hm,(.k [3,4,5] [false,false,true,false,false,false] [.tmp 7 false] [0,7] ⟨A7 h10,A7 h11,A7 h20,trivial⟩)⟩
  ·refine .ifF b0 (by kernel_rfl) h14 ?_
   replace hm:=Ab hm;obtain⟨k6,h21,hm⟩:=hm
   obtain rfl:=AR h21
   replace hm:=Ae hm;obtain⟨h22,hm⟩:=hm
   replace hm:=Gs hm;obtain⟨x2,h23,hm⟩:=hm
   replace hm:=Ae hm;obtain⟨h24,hm⟩:=hm
   replace hm:=Ae hm;obtain⟨h25,hm⟩:=hm
   refine .reg (eC 5 (keep (hT 7 [(.cells Ay true false []),(oC [zI z1,sc 4 0 4 n2 c2,sc 5 0 1 n3 c3]),(.map e1 k2),oC q2,oC q3,(.iter (some 3) k3 (Br l0 [(EO.born e2)]) k2)]) (bb (an (Nat.blt k6 n3) true) (some (.pointer (some ⟨5,(0+k6*1),none⟩))) none)) (AX h22) (eD (keep (hT 7 [(.cells Ay true false []),(oC [zI z1,sc 4 0 4 n2 c2,sc 5 0 1 n3 c3]),(.map e1 k2),oC q2,oC q3,(.iter (some 3) k3 (Br l0 [(EO.born e2)]) k2)]) (AL q3 (0+k6*1))) (AZ h23) (eC 1 (keep (hT 7 [(.cells Ay true false []),(oC [zI z1,sc 4 0 4 n2 c2,sc 5 0 1 n3 c3]),(.map e1 k2),oC q2,oC q3,(.iter (some 3) k3 (Br l0 [(EO.born e2)]) k2)]) (bb (an (Nat.blt k6 n3) true) (some (.pointer (some ⟨5,(0+k6*1),none⟩))) none)) (AX h24) (eD (done (bb (an (Nat.ble ((0+k6*1)+1) (len q3)) true) (some (hT 7 [(.cells Ay true false []),(oC [zI z1,sc 4 0 4 n2 c2,sc 5 0 1 n3 c3]),(.map e1 k2),oC q2,(oC (BM ([(zI (Aj .i64 (Int.sub x2 (1:Int))))]:LV) (0+k6*1) q3)),(.iter (some 3) k3 (Br l0 [(EO.born e2)]) k2)])) none) undef) (Js h25) (eE))))) ?_
   replace hm:=Ae hm;obtain⟨h26,hm⟩:=hm
   exact⟨(z1,n2,c2,n3,c3,e1,k2,q2,(BM ([(zI (Aj .i64 (Int.sub x2 (1:Int))))]:LV) (0+k6*1) q3),k3,(Br l0 [(EO.born e2)]),k2),hm,(.k [3,4,5] [false,false,true,false,false,false] [.tmp 7 false] [0,7] ⟨A7 h10,A7 h11,A7 h26,trivial⟩)⟩
theorem Acc {call:A8} (pu:Af) (n:Nat) (hcall:call=Bb tabs isP pu (inl pu)) {args:LV} {os:List AJ} {z:Value} (ha:args.length=2) (hk:os.length=4) (hpl:∀ o∈os,plainO o) (hm:Ov pu n (args++os.map Ef)=some z):args.length≤32∧BN tt call (tabs.length+4) JO (Fr.made 32 args) (BK tabs os) (FJ tt tabs.length 4 [] z):=by
 subst hcall
 have hq:=Eb ha;clear ha;obtain⟨a0,args,rfl,ha⟩:=hq
 have hq:=Eb ha;clear ha;obtain⟨a1,args,rfl,ha⟩:=hq
 obtain rfl:=len_nil ha
 have hq:=Eb hk;clear hk;obtain⟨b0,os,rfl,hk⟩:=hq
 have hp0:plainO b0:=hpl b0 (by simp)
 have hq:=Eb hk;clear hk;obtain⟨b1,os,rfl,hk⟩:=hq
 have hp1:plainO b1:=hpl b1 (by simp)
 have hq:=Eb hk;clear hk;obtain⟨b2,os,rfl,hk⟩:=hq
 have hp2:plainO b2:=hpl b2 (by simp)
 have hq:=Eb hk;clear hk;obtain⟨b3,os,rfl,hk⟩:=hq
 have hp3:plainO b3:=hpl b3 (by simp)
 obtain rfl:=len_nil hk
 replace hm:Ov pu n [a0,a1,Ef b0,Ef b1,Ef b2,Ef b3]=some z:=hm
 unfold Ov at hm
 replace hm:(bb (dZ a0 2 0) (bb (Wz a1 3) (oo (Bt (Ef b0)) none fun l0=>(ll l0 none fun v0 l0=>(ll l0 none fun v1 l0=>(ll l0 none fun v2 l0=>(ll l0 (oo (Bi .i64 v0) none fun x0=>(oo (WA 4 0 4 v1) none fun y0=>(oo (WA 5 0 1 v2) none fun y1=>(oo (Fj (Ef b1)) none fun y2=>(oo (Bt (Ef b2)) none fun q0=>(oo (Bt (Ef b3)) none fun q1=>(LY pu n x0 (NC.n y0) (NC.c y0) (NC.n y1) (NC.c y1) (Akd.es y2) (Akd.clock y2) q0 q1))))))) fun _ _=>none))))) none) none)=some z:=hm
 replace hm:=Ae hm;obtain⟨h0,hm⟩:=hm
 obtain rfl:=eF h0
 replace hm:=Ae hm;obtain⟨h1,hm⟩:=hm
 obtain rfl:=Pg h1
 replace hm:=Ab hm;obtain⟨l0,h2,hm⟩:=hm
 obtain rfl:=L6 hp0 h2
 replace hm:=Ad hm;obtain⟨v0,l12242_0,rfl,hm⟩:=hm
 replace hm:=Ad hm;obtain⟨v1,l12242_1,rfl,hm⟩:=hm
 replace hm:=Ad hm;obtain⟨v2,l12242_2,rfl,hm⟩:=hm
 replace hm:=AC hm;obtain⟨rfl,hm⟩:=hm
 replace hm:=Ai hm;obtain⟨x0,rfl,hm⟩:=hm
 replace hm:=Ab hm;obtain⟨y0,h3,hm⟩:=hm
 obtain rfl:=OO h3
 replace hm:=Ab hm;obtain⟨y1,h4,hm⟩:=hm
 obtain rfl:=OO h4
 replace hm:=Ab hm;obtain⟨y2,h5,hm⟩:=hm
 obtain rfl:=Wy hp1 h5
 replace hm:=Ab hm;obtain⟨q0,h6,hm⟩:=hm
 obtain rfl:=L6 hp2 h6
 replace hm:=Ab hm;obtain⟨q1,h7,hm⟩:=hm
 obtain rfl:=L6 hp3 h7
 refine⟨by simp,?_⟩
 exact .same (F':=(fr 32 [(0,(pt 2 0)),(1,(.map (some 3)))])) (H':=(hT 6 [(.cells Ay true false []),(oC [zI x0,(sc 4 0 4 (NC.n y0) (NC.c y0)),(sc 5 0 1 (NC.n y1) (NC.c y1))]),(.map (Akd.es y2) (Akd.clock y2)),oC q0,oC q1])) (by kernel_rfl) (by kernel_rfl) (Acb pu n x0 (NC.n y0) (NC.c y0) (NC.n y1) (NC.c y1) (Akd.es y2) (Akd.clock y2) q0 q1 hm)
end
end Go.TpEM
set_option maxRecDepth 100000
namespace Go.TpEM
open Go.Sp Go.TpE
noncomputable section
def L:Nat:=10000
def Sk (pu:Af):Af:=fun g args=>
 bb (Nat.beq g 4) (m4 pu L args) (bb (Nat.beq g 16) (m16 pu L args) (bb (Nat.beq g 17) (m17 pu L args) (bb (Nat.beq g 18) (m18 pu L args) (bb (Nat.beq g 19) (m19 pu L args) (bb (Nat.beq g 20) (m20 pu L args) (bb (Nat.beq g 21) (m21 pu L args) (bb (Nat.beq g 22) (m22 pu L args) (bb (Nat.beq g 46) (m46 pu L args) (bb (Nat.beq g 52) (m52 pu L args) (bb (Nat.beq g 53) (m53 pu L args) (bb (Nat.beq g 54) (m54 pu L args) (bb (Nat.beq g 55) (m55 pu L args) (bb (Nat.beq g 56) (m56 pu L args) (bb (Nat.beq g 57) (m57 pu L args) (bb (Nat.beq g 58) (m58 pu L args) (bb (Nat.beq g 59) (m59 pu L args) (bb (Nat.beq g 60) (m60 pu L args) (bb (Nat.beq g 61) (m61 pu L args) (bb (Nat.beq g 96) (m96 pu L args) (bb (Nat.beq g 112) (rH pu L args) (bb (Nat.beq g 113) (rJ pu L args) (bb (Nat.beq g 114) (rM pu L args) (bb (Nat.beq g 115) (rO pu L args) (bb (Nat.beq g 116) (WF pu L args) (bb (Nat.beq g 119) (WG pu L args) (bb (Nat.beq g 121) (WH pu L args) (bb (Nat.beq g 164) (rP pu L args) (bb (Nat.beq g 166) (rQ pu L args) (bb (Nat.beq g 167) (rR pu L args) (bb (Nat.beq g 168) (rT pu L args) (bb (Nat.beq g 169) (WI pu L args) (bb (Nat.beq g 10150) (Ng pu L args) (bb (Nat.beq g 10230) (Nh pu L args) (bb (Nat.beq g 11700) (Jf pu L args) (bb (Nat.beq g 12520) (Ov pu L args) (bb (Nat.beq g 165) (Qq args) (bb (Nat.beq g 204) (Qr args) (bb (Nat.beq g 24) (UV args) (none)))))))))))))))))))))))))))))))))))))))
def I8:Nat→Af:=fun n=>Nat.rec (motive:=fun _=>Af) (fun _ _=>none) (fun _ ih=>Sk ih) n
end
end Go.TpEM
