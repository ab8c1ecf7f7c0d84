/- Made from wip. -/
import Derived.Test.YtokbaaeimejjlaaGreatDoorBkUMod1x

set_option maxRecDepth 100000
set_option maxHeartbeats 20000000
set_option linter.unusedVariables false
namespace Go.BkUM
open Go.Sp Go.BkU
noncomputable section
def Uk (pu:Af) (n:Nat) (b0:Bool):OV:=
 (some (.bool b0))
def Agl (pu:Af) (n:Nat) (x0 x1 x2:Int):OV:=
 (bb (nt (AY x0 x1)) (Uk pu n (nt (AY x2 x0))) (Uk pu n false))
def m62 (pu:Af) (n:Nat) (args:LV):OV:=
 (ll args none fun a0 args=>(ll args none fun a1 args=>(ll args none fun a2 args=>(ll args (oo (Bi .i64 a0) none fun x0=>(oo (Bi .i64 a1) none fun x1=>(oo (Bi .i64 a2) none fun x2=>(Agl pu n x0 x1 x2)))) fun _ _=>none))))
theorem Agm (pu:Af) (n:Nat) (b0:Bool) {v:Value} (hm:Uk pu n b0=some v):BN tt (Bb tabs isP pu (inl pu)) 1 .ret (fr 15 [(6,zB b0)]) Ap (Fin tt 1 [.tmp 6] v):=by
 unfold Uk at hm
 refine .ret ?_
 exact Ay (zB b0) hm
theorem r62 {call:A8} (pu:Af) (n:Nat) (hcall:call=Bb tabs isP pu (inl pu)) {args:LV} {v:Value} (hm:m62 pu n args=some v) (_:∀ x∈args,closed2 x=true):args.length≤15∧BN tt call 1 Xc (Fr.made 15 args) (Ao tabs) (Fin tt 1 [.tmp 6] v):=by
 subst hcall
 unfold m62 at hm
 replace hm:=Ad hm;obtain⟨a0,args_0,rfl,hm⟩:=hm
 replace hm:=Ad hm;obtain⟨a1,args_1,rfl,hm⟩:=hm
 replace hm:=Ad hm;obtain⟨a2,args_2,rfl,hm⟩:=hm
 replace hm:=AC hm;obtain⟨rfl,hm⟩:=hm
 replace hm:=Ai hm;obtain⟨x0,rfl,hm⟩:=hm
 replace hm:=Ai hm;obtain⟨x1,rfl,hm⟩:=hm
 replace hm:=Ai hm;obtain⟨x2,rfl,hm⟩:=hm
 unfold Agl at hm
 refine⟨by simp,?_⟩
 refine .same (F':=(fr 15 [(0,zI x0),(1,zI x1),(2,zI x2)])) (H':=Ap) (by kernel_rfl) (by kernel_rfl) ?_
 refine .then (.rK (.ghs (fr 15 [(0,zI x0),(1,zI x1),(2,zI x2)]) Ap (.k0 [false] [] [0,1,2]) ?_))
 refine .join (v:=v) (fun y:Bool=>((fr 15 [(6,zB y)]),Ap)) (fun y=>Uk pu n y) ?_ ?_
 ·rintro b0 hm
  exact Agm pu n b0 hm
 ·replace hm := Ag hm; rcases hm with ⟨h0, hm⟩ | ⟨h0, hm⟩
  ·refine .reg (eC 2 (some ((zB (nt (AY x0 x1))), Ap)) (show _ = some ((zB true), _) from (by rw [show (nt (AY x0 x1)) = true from h0])) (eE)) ?_
   exact⟨(nt (AY x2 x0)),hm,(.k0 [false] [] [6])⟩
  ·refine .reg (eC 2 (some ((zB (nt (AY x0 x1))), Ap)) (show _ = some ((zB false), _) from (by rw [show (nt (AY x0 x1)) = false from h0])) (eE)) ?_
   exact⟨false,hm,(.k0 [false] [] [6])⟩
def Ul (pu:Af) (n:Nat) (z0:Int):OV:=
 (some (.int .i64 z0))
def OQ (pu:Af) (n:Nat) (ih0:Int→Int→Int→Int→OV) (z0 z1 z2 z3:Int):OV:=
 (bb (nt (AY z1 z3)) (bb (nt (Bd z3 (0:Int))) (ih0 z0 z1 (Aj .i64 (Int.tdiv (Aj .i64 (Int.mul z2 (Aj .i64 (Int.add (Aj .i64 (Int.sub z0 z1)) z3)))) z3)) (Aj .i64 (Int.add z3 (1:Int)))) none) (Ul pu n z2))
def Qs (pu:Af) (n w:Nat):Int→Int→Int→Int→OV:=
 Nat.rec (motive:=fun _=>Int→Int→Int→Int→OV) (fun _ _ _ _=>none) (fun _ ih0=>OQ pu n ih0) w
def Agn (pu:Af) (n:Nat) (x0 x1:Int):OV:=
 (Qs pu n n x0 x1 (1:Int) (1:Int))
def m63 (pu:Af) (n:Nat) (args:LV):OV:=
 (ll args none fun a0 args=>(ll args none fun a1 args=>(ll args (oo (Bi .i64 a0) none fun x0=>(oo (Bi .i64 a1) none fun x1=>(Agn pu n x0 x1))) fun _ _=>none)))
theorem Agp (pu:Af) (n:Nat) (z0:Int) {v:Value} (hm:Ul pu n z0=some v):BN tt (Bb tabs isP pu (inl pu)) 1 dB (fr 22 [(5,zI z0)]) Ap (Fin tt 1 [.tmp 4] v):=by
 unfold Ul at hm
 refine .then (.rK (.ghs (fr 22 [(4,zI z0)]) Ap (.k0 [false] [] [4]) ?_))
 refine .ret ?_
 exact Ay (zI z0) hm
theorem r63 {call:A8} (pu:Af) (n:Nat) (hcall:call=Bb tabs isP pu (inl pu)) {args:LV} {v:Value} (hm:m63 pu n args=some v) (_:∀ x∈args,closed2 x=true):args.length≤22∧BN tt call 1 R6 (Fr.made 22 args) (Ao tabs) (Fin tt 1 [.tmp 4] v):=by
 subst hcall
 unfold m63 at hm
 replace hm:=Ad hm;obtain⟨a0,args_0,rfl,hm⟩:=hm
 replace hm:=Ad hm;obtain⟨a1,args_1,rfl,hm⟩:=hm
 replace hm:=AC hm;obtain⟨rfl,hm⟩:=hm
 replace hm:=Ai hm;obtain⟨x0,rfl,hm⟩:=hm
 replace hm:=Ai hm;obtain⟨x1,rfl,hm⟩:=hm
 unfold Agn at hm
 refine⟨by simp,?_⟩
 refine .same (F':=(fr 22 [(0,zI x0),(1,zI x1)])) (H':=Ap) (by kernel_rfl) (by kernel_rfl) ?_
 refine .then (.rK (.ghs (fr 22 [(0,zI x0),(1,zI x1)]) Ap (.k0 [false] [] [0,1]) ?_))
 refine .then (.rK (.ghs (fr 22 [(0,zI x0),(1,zI x1),(5,(zI (1:Int)))]) Ap (.k0 [false] [] [0,1,5]) ?_))
 refine .join (v:=v) (fun y:Int=>((fr 22 [(5,zI y)]),Ap)) (fun y=>Ul pu n y) ?_ ?_
 ·rintro z0 hm
  exact Agp pu n z0 hm
 ·refine .then (.rK (.ghs (fr 22 [(0, zI x0), (1, zI x1), (5, (zI (1 : Int))), (6, (zI (1 : Int)))]) Ap (.k0 [false] [] [0, 1, 5, 6]) ?_))
  refine .block (.loopM (v:=v) (fun y:Int×Int×Int×Int=>((fr 22 [(0,(zI y.1)),(1,(zI y.2.1)),(5,(zI y.2.2.1)),(6,(zI y.2.2.2))]),Ap)) (fun w y=>Qs pu n w y.1 y.2.1 y.2.2.1 y.2.2.2) n ⟨(x0,x1,(1:Int),(1:Int)),hm,(.k0 [false] [] [0,1,5,6])⟩ (fun _=>rfl) ?_)
  rintro w0 ⟨z1,z2,z3,z4⟩ hm
  replace hm:OQ pu n (Qs pu n w0) z1 z2 z3 z4=some v:=hm
  unfold OQ at hm
  refine .then (.then (.rK (.ghs (fr 22 [(0,zI z1),(1,zI z2),(5,zI z3),(6,zI z4),(9,(zB (nt (AY z2 z4))))]) Ap (.k0 [false] [] [0,1,5,6,9]) ?_)))
  replace hm:=Ag hm;rcases hm with⟨h0,hm⟩ | ⟨h0,hm⟩
  ·refine Bq (nt (AY z2 z4)) h0 ?_
   refine .skip (.ghs (fr 22 [(0,zI z1),(1,zI z2),(5,zI z3),(6,zI z4)]) Ap (.k0 [false] [] [0,1,5,6]) ?_)
   refine .then (.block ?_)
   replace hm:=Ae hm;obtain⟨h1,hm⟩:=hm
   refine .reg (eC 8 (keep Ap (bb (Bd z4 (0:Int)) none (some (zI (Aj .i64 (Int.tdiv (Aj .i64 (Int.mul z3 (Aj .i64 (Int.add (Aj .i64 (Int.sub z1 z2)) z4)))) z4)))))) (XH h1) (eE)) ?_
   refine .ghs (fr 22 [(0,zI z1),(1,zI z2),(5,(zI (Aj .i64 (Int.tdiv (Aj .i64 (Int.mul z3 (Aj .i64 (Int.add (Aj .i64 (Int.sub z1 z2)) z4)))) z4)))),(6,zI z4)]) Ap (.k0 [false] [] [0,1,5,6]) ?_
   refine .rK ?_
   exact⟨(z1,z2,(Aj .i64 (Int.tdiv (Aj .i64 (Int.mul z3 (Aj .i64 (Int.add (Aj .i64 (Int.sub z1 z2)) z4)))) z4)),(Aj .i64 (Int.add z4 (1:Int)))),hm,(.k0 [false] [] [0,1,5,6])⟩
  ·refine BB (nt (AY z2 z4)) h0 ?_
   refine .exit ?_
   exact⟨z3,hm,(.k0 [false] [] [5])⟩

def Agq (pu:Af) (n:Nat) (x0:Int):OV:=
 (bb (Bd x0 (4:Int)) (some (.agg ⟨[(.int .i64 (0:Int)),(.bool true)]⟩)) (bb (Bd x0 (5:Int)) (some (.agg ⟨[(.int .i64 (2:Int)),(.bool true)]⟩)) (bb (Bd x0 (6:Int)) (some (.agg ⟨[(.int .i64 (1:Int)),(.bool true)]⟩)) (bb (Bd x0 (7:Int)) (some (.agg ⟨[(.int .i64 (3:Int)),(.bool true)]⟩)) (some (.agg ⟨[.int .i64 x0,(.bool false)]⟩))))))
def m75 (pu:Af) (n:Nat) (args:LV):OV:=
 (ll args none fun a0 args=>(ll args (oo (Bi .i64 a0) none fun x0=>(Agq pu n x0)) fun _ _=>none))
theorem r75 {call:A8} (pu:Af) (n:Nat) (hcall:call=Bb tabs isP pu (inl pu)) {args:LV} {v:Value} (hm:m75 pu n args=some v) (_:∀ x∈args,closed2 x=true):args.length≤18∧BN tt call 1 R7 (Fr.made 18 args) (Ao tabs) (Fin tt 1 [.cell 2 99] v):=by
 subst hcall
 unfold m75 at hm
 replace hm:=Ad hm;obtain⟨a0,args_0,rfl,hm⟩:=hm
 replace hm:=AC hm;obtain⟨rfl,hm⟩:=hm
 replace hm:=Ai hm;obtain⟨x0,rfl,hm⟩:=hm
 unfold Agq at hm
 refine⟨by simp,?_⟩
 refine .same (F':=(fr 18 [(0,zI x0)])) (H':=Ap) (by kernel_rfl) (by kernel_rfl) ?_
 refine .then (.rK (.ghs (fr 18 [(0,zI x0),(2,pt 1 0)]) (hT 2 [(oC [(zI (0:Int)),zB false])]) (.k0 [false] [.tmp 2 false] [0,2]) ?_))
 refine .then (.then (.rK (.ghs (fr 18 [(0,zI x0),(2,pt 1 0),(3,zI x0)]) (hT 2 [(oC [(zI (0:Int)),zB false])]) (.k0 [false] [.tmp 2 false] [0,2,3]) ?_)))
 refine .block (.then (.rK (.ghs (fr 18 [(0,zI x0),(2,pt 1 0),(3,zI x0),(4,(zB (Bd x0 (4:Int))))]) (hT 2 [(oC [(zI (0:Int)),zB false])]) (.k0 [false] [.tmp 2 false] [0,2,3,4]) ?_)))
 replace hm:=Ag hm;rcases hm with⟨h0,hm⟩ | ⟨h0,hm⟩
 ·refine Bq (Bd x0 (4 : Int)) h0 ?_
  refine .then (.rK (.ghs (fr 18 [(2,pt 1 0)]) (hT 2 [(oC [(zI (0:Int)),zB true])]) (.k0 [false] [.tmp 2 false] [2]) ?_))
  refine .ret ?_
  exact Ay (.agg ⟨[(zI (0:Int)),zB true]⟩) hm
 ·refine BB (Bd x0 (4 : Int)) h0 ?_
  refine .then (.rK (.ghs (fr 18 [(0,zI x0),(2,pt 1 0),(3,zI x0),(7,(zB (Bd x0 (5:Int))))]) (hT 2 [(oC [(zI (0:Int)),zB false])]) (.k0 [false] [.tmp 2 false] [0,2,3,7]) ?_))
  replace hm:=Ag hm;rcases hm with⟨h1,hm⟩ | ⟨h1,hm⟩
  ·refine Bq (Bd x0 (5 : Int)) h1 ?_
   refine .then (.rK (.ghs (fr 18 [(2,pt 1 0)]) (hT 2 [(oC [(zI (2:Int)),zB true])]) (.k0 [false] [.tmp 2 false] [2]) ?_))
   refine .ret ?_
   exact Ay (.agg ⟨[(zI (2:Int)),zB true]⟩) hm
  ·refine BB (Bd x0 (5 : Int)) h1 ?_
   refine .then (.rK (.ghs (fr 18 [(0,zI x0),(2,pt 1 0),(3,zI x0),(10,(zB (Bd x0 (6:Int))))]) (hT 2 [(oC [(zI (0:Int)),zB false])]) (.k0 [false] [.tmp 2 false] [0,2,3,10]) ?_))
   replace hm:=Ag hm;rcases hm with⟨h2,hm⟩ | ⟨h2,hm⟩
   ·refine Bq (Bd x0 (6 : Int)) h2 ?_
    refine .then (.rK (.ghs (fr 18 [(2,pt 1 0)]) (hT 2 [(oC [(zI (1:Int)),zB true])]) (.k0 [false] [.tmp 2 false] [2]) ?_))
    refine .ret ?_
    exact Ay (.agg ⟨[(zI (1:Int)),zB true]⟩) hm
   ·refine BB (Bd x0 (6 : Int)) h2 ?_
    refine .then (.rK (.ghs (fr 18 [(0,zI x0),(2,pt 1 0),(13,(zB (Bd x0 (7:Int))))]) (hT 2 [(oC [(zI (0:Int)),zB false])]) (.k0 [false] [.tmp 2 false] [0,2,13]) ?_))
    replace hm:=Ag hm;rcases hm with⟨h3,hm⟩ | ⟨h3,hm⟩
    ·refine Bq (Bd x0 (7 : Int)) h3 ?_
     refine .then (.rK (.ghs (fr 18 [(2,pt 1 0)]) (hT 2 [(oC [(zI (3:Int)),zB true])]) (.k0 [false] [.tmp 2 false] [2]) ?_))
     refine .ret ?_
     exact Ay (.agg ⟨[(zI (3:Int)),zB true]⟩) hm
    ·refine BB (Bd x0 (7 : Int)) h3 ?_
     refine .skip (.ghs (fr 18 [(0,zI x0),(2,pt 1 0)]) (hT 2 [(oC [(zI (0:Int)),zB false])]) (.k0 [false] [.tmp 2 false] [0,2]) ?_)
     refine .then (.rK (.ghs (fr 18 [(2,pt 1 0)]) (hT 2 [(oC [zI x0,zB false])]) (.k0 [false] [.tmp 2 false] [2]) ?_))
     refine .ret ?_
     exact Ay (.agg ⟨[zI x0,zB false]⟩) hm
def Um (pu:Af) (n:Nat) (z0:Int) (b0:Bool) (z1:Int) (b1:Bool) (z2:Int) (b2:Bool):OV:=
 (some (.agg ⟨[(.int .i64 (Aj .i64 (Int.add z0 z1))),(.bool (bq false (bq b0 b1)))]⟩))
def Agr (pu:Af) (n:Nat) (x0:Int) (b0:Bool) (x1:Int) (b1:Bool):OV:=
 (bb b0 (Um pu n x0 b0 (Aj .i64 (Int.sub (.ofNat 0) x1)) b1 (0:Int) false) (Um pu n x0 b0 x1 b1 (0:Int) false))
def m76 (pu:Af) (n:Nat) (args:LV):OV:=
 (ll args none fun a0 args=>(ll args none fun a1 args=>(ll args (oo (Bt a0) none fun l0=>(ll l0 none fun v0 l0=>(ll l0 none fun v1 l0=>(ll l0 (oo (Bi .i64 v0) none fun x0=>(oo (Bf v1) none fun b0=>(oo (Bt a1) none fun l1=>(ll l1 none fun v2 l1=>(ll l1 none fun v3 l1=>(ll l1 (oo (Bi .i64 v2) none fun x1=>(oo (Bf v3) none fun b1=>(Agr pu n x0 b0 x1 b1))) fun _ _=>none)))))) fun _ _=>none)))) fun _ _=>none)))
theorem Ags (pu:Af) (n:Nat) (z0:Int) (b0:Bool) (z1:Int) (b1:Bool) (z2:Int) (b2:Bool) {v:Value} (hm:Um pu n z0 b0 z1 b1 z2 b2=some v):BN tt (Bb tabs isP pu (inl pu)) 1 nR (fr 22 [(2,pt 1 0),(3,(pt 2 0)),(4,(pt 3 0))]) (hT 4 [(oC [zI z0,zB b0]),(oC [zI z1,zB b1]),(oC [zI z2,zB b2])]) (Fin tt 1 [.cell 4 99] v):=by
 unfold Um at hm
 refine .then (.rK (.ghs (fr 22 [(4,pt 1 0)]) (hT 2 [(oC [(zI (Aj .i64 (Int.add z0 z1))),(zB (bq false (bq b0 b1)))])]) (.k0 [false] [.tmp 4 false] [4]) ?_))
 refine .ret ?_
 exact Ay (.agg ⟨[(zI (Aj .i64 (Int.add z0 z1))),(zB (bq false (bq b0 b1)))]⟩) hm
theorem r76 {call:A8} (pu:Af) (n:Nat) (hcall:call=Bb tabs isP pu (inl pu)) {args:LV} {v:Value} (hm:m76 pu n args=some v) (_:∀ x∈args,closed2 x=true):args.length≤22∧BN tt call 1 Xd (Fr.made 22 args) (Ao tabs) (Fin tt 1 [.cell 4 99] v):=by
 subst hcall
 unfold m76 at hm
 replace hm:=Ad hm;obtain⟨a0,args_0,rfl,hm⟩:=hm
 replace hm:=Ad hm;obtain⟨a1,args_1,rfl,hm⟩:=hm
 replace hm:=AC hm;obtain⟨rfl,hm⟩:=hm
 replace hm:=BG hm;obtain⟨l0,rfl,hm⟩:=hm
 replace hm:=Ad hm;obtain⟨v0,l11960_0,rfl,hm⟩:=hm
 replace hm:=Ad hm;obtain⟨v1,l11960_1,rfl,hm⟩:=hm
 replace hm:=AC hm;obtain⟨rfl,hm⟩:=hm
 replace hm:=Ai hm;obtain⟨x0,rfl,hm⟩:=hm
 replace hm:=Be hm;obtain⟨b0,rfl,hm⟩:=hm
 replace hm:=BG hm;obtain⟨l1,rfl,hm⟩:=hm
 replace hm:=Ad hm;obtain⟨v2,l11968_0,rfl,hm⟩:=hm
 replace hm:=Ad hm;obtain⟨v3,l11968_1,rfl,hm⟩:=hm
 replace hm:=AC hm;obtain⟨rfl,hm⟩:=hm
 replace hm:=Ai hm;obtain⟨x1,rfl,hm⟩:=hm
 replace hm:=Be hm;obtain⟨b1,rfl,hm⟩:=hm
 unfold Agr at hm
 refine⟨by simp,?_⟩
 refine .same (F':=(fr 22 [(0,(.agg ⟨[zI x0,zB b0]⟩)),(1,(.agg ⟨[zI x1,zB b1]⟩))])) (H':=Ap) (by kernel_rfl) (by kernel_rfl) ?_
 refine .then (.rK (.ghs (fr 22 [(2,pt 1 0),(3,(pt 2 0)),(4,(pt 3 0))]) (hT 4 [(oC [zI x0,zB b0]),(oC [zI x1,zB b1]),(oC [(zI (0:Int)),zB false])]) (.k0 [false] [.tmp 2 false,.tmp 3 false,.tmp 4 false] [2,3,4]) ?_))
 refine .join (v:=v) (fun y:Int×Bool×Int×Bool×Int×Bool=>((fr 22 [(2,pt 1 0),(3,(pt 2 0)),(4,(pt 3 0))]),(hT 4 [(oC [(zI y.1),(zB y.2.1)]),(oC [(zI y.2.2.1),(zB y.2.2.2.1)]),(oC [(zI y.2.2.2.2.1),(zB y.2.2.2.2.2)])]))) (fun y=>Um pu n y.1 y.2.1 y.2.2.1 y.2.2.2.1 y.2.2.2.2.1 y.2.2.2.2.2) ?_ ?_
 ·rintro ⟨z0, b2, z1, b3, z2, b4⟩ hm
  exact Ags pu n z0 b2 z1 b3 z2 b4 hm
 ·refine .then (.rK (.ghs (fr 22 [(2, pt 1 0), (3, (pt 2 0)), (4, (pt 3 0)), (6, zB b0)]) (hT 4 [(oC [zI x0, zB b0]), (oC [zI x1, zB b1]), (oC [(zI (0 : Int)), zB false])]) (.k0 [false] [.tmp 2 false, .tmp 3 false, .tmp 4 false] [2, 3, 4, 6]) ?_))
  replace hm:=Ag hm;rcases hm with⟨h0,hm⟩ | ⟨h0,hm⟩
  ·refine .ifT b0 (by kernel_rfl) h0 ?_
   refine .rK ?_
   exact⟨(x0,b0,(Aj .i64 (Int.sub (.ofNat 0) x1)),b1,(0:Int),false),hm,(.k0 [false] [.tmp 2 false,.tmp 3 false,.tmp 4 false] [2,3,4])⟩
  ·refine .ifF b0 (by kernel_rfl) h0 ?_
   refine .skip ?_
   exact⟨(x0,b0,x1,b1,(0:Int),false),hm,(.k0 [false] [.tmp 2 false,.tmp 3 false,.tmp 4 false] [2,3,4])⟩

def Agt (pu:Af) (n:Nat) (x0:Int) (b0:Bool):OV:=
 (bb (nt b0) (some (.int .i64 (Int.tmod (Aj .i64 (Int.add x0 (4:Int))) (4:Int)))) (bb (Bd (Int.tmod (Aj .i64 (Int.add x0 (4:Int))) (4:Int)) (0:Int)) (some (.int .i64 (4:Int))) (bb (Bd (Int.tmod (Aj .i64 (Int.add x0 (4:Int))) (4:Int)) (1:Int)) (some (.int .i64 (6:Int))) (bb (Bd (Int.tmod (Aj .i64 (Int.add x0 (4:Int))) (4:Int)) (2:Int)) (some (.int .i64 (5:Int))) (some (.int .i64 (7:Int)))))))
def m77 (pu:Af) (n:Nat) (args:LV):OV:=
 (ll args none fun a0 args=>(ll args (oo (Bt a0) none fun l0=>(ll l0 none fun v0 l0=>(ll l0 none fun v1 l0=>(ll l0 (oo (Bi .i64 v0) none fun x0=>(oo (Bf v1) none fun b0=>(Agt pu n x0 b0))) fun _ _=>none)))) fun _ _=>none))
theorem r77 {call:A8} (pu:Af) (n:Nat) (hcall:call=Bb tabs isP pu (inl pu)) {args:LV} {v:Value} (hm:m77 pu n args=some v) (_:∀ x∈args,closed2 x=true):args.length≤22∧BN tt call 1 R8 (Fr.made 22 args) (Ao tabs) (Fin tt 1 [.tmp 2] v):=by
 subst hcall
 unfold m77 at hm
 replace hm:=Ad hm;obtain⟨a0,args_0,rfl,hm⟩:=hm
 replace hm:=AC hm;obtain⟨rfl,hm⟩:=hm
 replace hm:=BG hm;obtain⟨l0,rfl,hm⟩:=hm
 replace hm:=Ad hm;obtain⟨v0,l11985_0,rfl,hm⟩:=hm
 replace hm:=Ad hm;obtain⟨v1,l11985_1,rfl,hm⟩:=hm
 replace hm:=AC hm;obtain⟨rfl,hm⟩:=hm
 replace hm:=Ai hm;obtain⟨x0,rfl,hm⟩:=hm
 replace hm:=Be hm;obtain⟨b0,rfl,hm⟩:=hm
 unfold Agt at hm
 refine⟨by simp,?_⟩
 refine .same (F':=(fr 22 [(0,(.agg ⟨[zI x0,zB b0]⟩))])) (H':=Ap) (by kernel_rfl) (by kernel_rfl) ?_
 refine .then (.rK (.ghs (fr 22 [(1,pt 1 0)]) (hT 2 [(oC [zI x0,zB b0])]) (.k0 [false] [.tmp 1 false] [1]) ?_))
 refine .then (.rK (.ghs (fr 22 [(1,pt 1 0),(3,(zI (Int.tmod (Aj .i64 (Int.add x0 (4:Int))) (4:Int))))]) (hT 2 [(oC [zI x0,zB b0])]) (.k0 [false] [.tmp 1 false] [1,3]) ?_))
 refine .then (.block (.then (.rK (.ghs (fr 22 [(3,(zI (Int.tmod (Aj .i64 (Int.add x0 (4:Int))) (4:Int)))),(8,(zB (nt b0)))]) Ap (.k0 [false] [] [3,8]) ?_))))
 replace hm:=Ag hm;rcases hm with⟨h0,hm⟩ | ⟨h0,hm⟩
 ·refine Bq (nt b0) h0 ?_
  refine .then (.rK (.ghs (fr 22 [(2,(zI (Int.tmod (Aj .i64 (Int.add x0 (4:Int))) (4:Int))))]) Ap (.k0 [false] [] [2]) ?_))
  refine .ret ?_
  exact Ay (zI (Int.tmod (Aj .i64 (Int.add x0 (4:Int))) (4:Int))) hm
 ·refine BB (nt b0) h0 ?_
  refine .then (.rK (.ghs (fr 22 [(3,(zI (Int.tmod (Aj .i64 (Int.add x0 (4:Int))) (4:Int)))),(13,(zB (Bd (Int.tmod (Aj .i64 (Int.add x0 (4:Int))) (4:Int)) (0:Int))))]) Ap (.k0 [false] [] [3,13]) ?_))
  replace hm:=Ag hm;rcases hm with⟨h1,hm⟩ | ⟨h1,hm⟩
  ·refine Bq (Bd (Int.tmod (Aj .i64 (Int.add x0 (4 : Int))) (4 : Int)) (0 : Int)) h1 ?_
   refine .then (.rK (.ghs (fr 22 [(2,(zI (4:Int)))]) Ap (.k0 [false] [] [2]) ?_))
   refine .ret ?_
   exact Ay (zI (4:Int)) hm
  ·refine BB (Bd (Int.tmod (Aj .i64 (Int.add x0 (4 : Int))) (4 : Int)) (0 : Int)) h1 ?_
   refine .then (.rK (.ghs (fr 22 [(3,(zI (Int.tmod (Aj .i64 (Int.add x0 (4:Int))) (4:Int)))),(16,(zB (Bd (Int.tmod (Aj .i64 (Int.add x0 (4:Int))) (4:Int)) (1:Int))))]) Ap (.k0 [false] [] [3,16]) ?_))
   replace hm:=Ag hm;rcases hm with⟨h2,hm⟩ | ⟨h2,hm⟩
   ·refine Bq (Bd (Int.tmod (Aj .i64 (Int.add x0 (4 : Int))) (4 : Int)) (1 : Int)) h2 ?_
    refine .then (.rK (.ghs (fr 22 [(2,(zI (6:Int)))]) Ap (.k0 [false] [] [2]) ?_))
    refine .ret ?_
    exact Ay (zI (6:Int)) hm
   ·refine BB (Bd (Int.tmod (Aj .i64 (Int.add x0 (4 : Int))) (4 : Int)) (1 : Int)) h2 ?_
    refine .then (.rK (.ghs (fr 22 [(19,(zB (Bd (Int.tmod (Aj .i64 (Int.add x0 (4:Int))) (4:Int)) (2:Int))))]) Ap (.k0 [false] [] [19]) ?_))
    replace hm:=Ag hm;rcases hm with⟨h3,hm⟩ | ⟨h3,hm⟩
    ·refine Bq (Bd (Int.tmod (Aj .i64 (Int.add x0 (4 : Int))) (4 : Int)) (2 : Int)) h3 ?_
     refine .then (.rK (.ghs (fr 22 [(2,(zI (5:Int)))]) Ap (.k0 [false] [] [2]) ?_))
     refine .ret ?_
     exact Ay (zI (5:Int)) hm
    ·refine BB (Bd (Int.tmod (Aj .i64 (Int.add x0 (4 : Int))) (4 : Int)) (2 : Int)) h3 ?_
     refine .skip (.ghs (fr 22 []) Ap (.k0 [false] [] []) ?_)
     refine .then (.rK (.ghs (fr 22 [(2,(zI (7:Int)))]) Ap (.k0 [false] [] [2]) ?_))
     refine .ret ?_
     exact Ay (zI (7:Int)) hm
def X6 (pu:Af) (n:Nat) (b0:Bool):OV:=
 (bb b0 (some (.int .i64 (1:Int))) (some (.int .i64 (0:Int))))
def Agu (pu:Af) (n:Nat) (p0:Db) (s0:Sl):OV:=
 (oo (AL (Db.cs p0) (((Db.off p0)+0)+0)) none fun v0=>(oo (Bi .i64 v0) none fun x0=>(oo (AL (Db.cs p0) (((Db.off p0)+0)+1)) none fun v1=>(oo (Bi .i64 v1) none fun x1=>(bb (nt (Bd (Int.ofNat (Sl.n s0)) (Aj .i64 (Int.mul x0 x1)))) (some (.int .i64 (5:Int))) (oo (pu 91 [Sl.v 1 s0]) none fun v2=>(oo (Bi .i64 v2) none fun x2=>(bb (AY x2 (0:Int)) (X6 pu n true) (oo (AL (Db.cs p0) (((Db.off p0)+0)+2)) none fun v3=>(oo (Bi .i64 v3) none fun x3=>(oo (pu 92 [Sl.v 1 s0]) none fun v4=>(oo (Bi .i64 v4) none fun x4=>(X6 pu n (nt (AY x4 x3)))))))))))))))
def m80 (pu:Af) (n:Nat) (args:LV):OV:=
 (ll args none fun a0 args=>(ll args none fun a1 args=>(ll args (oo (Pv a0) none fun p0=>(oo (Bj 1 a1) none fun s0=>(Agu pu n p0 s0))) fun _ _=>none)))
theorem r80 {call:A8} (pu:Af) (n:Nat) (hcall:call=Bb tabs isP pu (inl pu)) {args:LV} {v:Value} (hm:m80 pu n args=some v) (_:∀ x∈args,closed2 x=true):args.length≤34∧BN tt call 1 R9 (Fr.made 34 args) (Ao tabs) (Fin tt 1 [.tmp 4] v):=by
 subst hcall
 unfold m80 at hm
 replace hm:=Ad hm;obtain⟨a0,args_0,rfl,hm⟩:=hm
 replace hm:=Ad hm;obtain⟨a1,args_1,rfl,hm⟩:=hm
 replace hm:=AC hm;obtain⟨rfl,hm⟩:=hm
 replace hm:=Ab hm;obtain⟨p0,h0,hm⟩:=hm
 obtain rfl:=F7 h0
 replace hm:=Al hm;obtain⟨s0,rfl,hm⟩:=hm
 unfold Agu at hm
 refine⟨by simp,?_⟩
 refine .same (F':=(fr 34 [(0,(Cv (Db.off p0) (Db.cs p0))),(1,Sl.v 1 s0)])) (H':=Ap) (by kernel_rfl) (by kernel_rfl) ?_
 refine .then (.rK (.ghs (fr 34 [(0,(Cv (Db.off p0) (Db.cs p0))),(1,Sl.v 1 s0)]) Ap (.k0 [false] [] [0,1]) ?_))
 refine .then (.block (.then ?_))
 replace hm:=oI hm;obtain⟨x0,h1,hm⟩:=hm
 replace hm:=oI hm;obtain⟨x1,h2,hm⟩:=hm
 refine .reg (eC 6 (keep Ap (AL (Db.cs p0) (((Db.off p0)+0)+0))) (AZ h1) (eC 4 (keep Ap (AL (Db.cs p0) (((Db.off p0)+0)+1))) (AZ h2) (eE))) ?_
 refine .ghs (fr 34 [(0,(Cv (Db.off p0) (Db.cs p0))),(1,Sl.v 1 s0),(5,(zB (nt (Bd (Int.ofNat (Sl.n s0)) (Aj .i64 (Int.mul x0 x1))))))]) Ap (.k0 [false] [] [0,1,5]) ?_
 replace hm:=Ag hm;rcases hm with⟨h3,hm⟩ | ⟨h3,hm⟩
 ·refine Bq (nt (Bd (Int.ofNat (Sl.n s0)) (Aj .i64 (Int.mul x0 x1)))) h3 ?_
  refine .then (.rK (.ghs (fr 34 [(4,(zI (5:Int)))]) Ap (.k0 [false] [] [4]) ?_))
  refine .ret ?_
  exact Ay (zI (5:Int)) hm
 ·refine BB (nt (Bd (Int.ofNat (Sl.n s0)) (Aj .i64 (Int.mul x0 x1)))) h3 ?_
  refine .join (v:=v) (fun y:Bool=>((fr 34 [(20,zB y)]),Ap)) (fun y=>X6 pu n y) ?_ ?_
  ·rintro b0 hm
   unfold X6 at hm
   replace hm:=Ag hm;rcases hm with⟨h4,hm⟩ | ⟨h4,hm⟩
   ·refine .ifT b0 (by kernel_rfl) h4 ?_
    refine .then (.rK (.ghs (fr 34 [(4,(zI (1:Int)))]) Ap (.k0 [false] [] [4]) ?_))
    refine .ret ?_
    exact Ay (zI (1:Int)) hm
   ·refine .ifF b0 (by kernel_rfl) h4 ?_
    refine .skip (.ghs (fr 34 []) Ap (.k0 [false] [] []) ?_)
    refine .then (.rK (.ghs (fr 34 [(4,(zI (0:Int)))]) Ap (.k0 [false] [] [4]) ?_))
    refine .ret ?_
    exact Ay (zI (0:Int)) hm
  ·replace hm := oI hm; obtain ⟨x2, h5, hm⟩ := hm
   replace hm:=Ag hm;rcases hm with⟨h6,hm⟩ | ⟨h6,hm⟩
   ·refine .reg (eC 1 ((oo (pu 91 [Sl.v 1 s0]) none fun v => some (v, Ap))) (AB h5) (eD (some ((zB (AY x2 (0 : Int))), Ap)) (show _ = some ((zB true), _) from (by rw [show (AY x2 (0 : Int)) = true from h6])) (eE))) ?_
    exact⟨true,hm,(.k0 [false] [] [20])⟩
   ·replace hm := oI hm; obtain ⟨x3, h7, hm⟩ := hm
    replace hm:=oI hm;obtain⟨x4,h8,hm⟩:=hm
    refine .reg (eC 1 ((oo (pu 91 [Sl.v 1 s0]) none fun v=>some (v,Ap))) (AB h5) (eD (some ((zB (AY x2 (0:Int))),Ap)) (show _=some ((zB false),_) from (by rw[show (AY x2 (0:Int))=false from h6])) (eC 6 (keep Ap (AL (Db.cs p0) (((Db.off p0)+0)+2))) (AZ h7) (eD ((oo (pu 92 [Sl.v 1 s0]) none fun v=>some (v,Ap))) (AB h8) (eE))))) ?_
    exact⟨(nt (AY x4 x3)),hm,(.k0 [false] [] [20])⟩

def Agw (pu:Af) (n:Nat) (x0 x1 x2:Int) (s0:Sl) (x3 x4:Int):OV:=
 (bb (nt (Bd x1 (0:Int))) (bb (nt (Bd x1 (0:Int))) (oo (pu 93 [.int .i64 x0,.int .i64 x1,.int .i64 x3,(.int .i64 (Aj .i64 (Int.tdiv x4 x1))),(.int .i64 (Int.tmod x4 x1))]) none fun v0=>(oo (CQ v0) none fun l0=>(ll l0 none fun v1 l0=>(ll l0 none fun v2 l0=>(ll l0 (oo (Bi .i64 v1) none fun x5=>(oo (Bi .i64 v2) none fun x6=>(some (.int .i64 (Aj .i64 (Int.add (Aj .i64 (Int.mul x5 x1)) x6)))))) fun _ _=>none))))) none) none)
def m81 (pu:Af) (n:Nat) (args:LV):OV:=
 (ll args none fun a0 args=>(ll args none fun a1 args=>(ll args none fun a2 args=>(ll args (oo (Bt a0) none fun l0=>(ll l0 none fun v0 l0=>(ll l0 none fun v1 l0=>(ll l0 none fun v2 l0=>(ll l0 none fun v3 l0=>(ll l0 (oo (Bi .i64 v0) none fun x0=>(oo (Bi .i64 v1) none fun x1=>(oo (Bi .i64 v2) none fun x2=>(oo (Bj 1 v3) none fun s0=>(oo (Bi .i64 a1) none fun x3=>(oo (Bi .i64 a2) none fun x4=>(Agw pu n x0 x1 x2 s0 x3 x4))))))) fun _ _=>none)))))) fun _ _=>none))))
theorem r81 {call:A8} (pu:Af) (n:Nat) (hcall:call=Bb tabs isP pu (inl pu)) {args:LV} {v:Value} (hm:m81 pu n args=some v) (_:∀ x∈args,closed2 x=true):args.length≤32∧BN tt call 1 Xe (Fr.made 32 args) (Ao tabs) (Fin tt 1 [.tmp 6] v):=by
 subst hcall
 unfold m81 at hm
 replace hm:=Ad hm;obtain⟨a0,args_0,rfl,hm⟩:=hm
 replace hm:=Ad hm;obtain⟨a1,args_1,rfl,hm⟩:=hm
 replace hm:=Ad hm;obtain⟨a2,args_2,rfl,hm⟩:=hm
 replace hm:=AC hm;obtain⟨rfl,hm⟩:=hm
 replace hm:=BG hm;obtain⟨l0,rfl,hm⟩:=hm
 replace hm:=Ad hm;obtain⟨v0,l12098_0,rfl,hm⟩:=hm
 replace hm:=Ad hm;obtain⟨v1,l12098_1,rfl,hm⟩:=hm
 replace hm:=Ad hm;obtain⟨v2,l12098_2,rfl,hm⟩:=hm
 replace hm:=Ad hm;obtain⟨v3,l12098_3,rfl,hm⟩:=hm
 replace hm:=AC hm;obtain⟨rfl,hm⟩:=hm
 replace hm:=Ai hm;obtain⟨x0,rfl,hm⟩:=hm
 replace hm:=Ai hm;obtain⟨x1,rfl,hm⟩:=hm
 replace hm:=Ai hm;obtain⟨x2,rfl,hm⟩:=hm
 replace hm:=Al hm;obtain⟨s0,rfl,hm⟩:=hm
 replace hm:=Ai hm;obtain⟨x3,rfl,hm⟩:=hm
 replace hm:=Ai hm;obtain⟨x4,rfl,hm⟩:=hm
 unfold Agw at hm
 refine⟨by simp,?_⟩
 refine .same (F':=(fr 32 [(0,(.agg ⟨[zI x0,zI x1,zI x2,Sl.v 1 s0]⟩)),(1,zI x3),(2,zI x4)])) (H':=Ap) (by kernel_rfl) (by kernel_rfl) ?_
 refine .then (.rK (.ghs (fr 32 [(1,zI x3),(2,zI x4),(3,pt 1 0)]) (hT 2 [(oC [zI x0,zI x1,zI x2,Sl.v 1 s0])]) (.k0 [false] [.tmp 3 false] [1,2,3]) ?_))
 refine .then ?_
 replace hm:=Ae hm;obtain⟨h0,hm⟩:=hm
 replace hm:=Ae hm;obtain⟨h1,hm⟩:=hm
 replace hm:=Ab hm;obtain⟨v4,h2,hm⟩:=hm
 replace hm:=Ch hm;obtain⟨l1,rfl,hm⟩:=hm
 replace hm:=Ad hm;obtain⟨v5,l12132_0,rfl,hm⟩:=hm
 replace hm:=Ad hm;obtain⟨v6,l12132_1,rfl,hm⟩:=hm
 replace hm:=AC hm;obtain⟨rfl,hm⟩:=hm
 replace hm:=Ai hm;obtain⟨x5,rfl,hm⟩:=hm
 replace hm:=Ai hm;obtain⟨x6,rfl,hm⟩:=hm
 refine .reg (eC 8 (keep (hT 2 [(oC [zI x0,zI x1,zI x2,Sl.v 1 s0])]) (bb (Bd x1 (0:Int)) none (some (zI (Aj .i64 (Int.tdiv x4 x1)))))) (XH h0) (eC 3 (keep (hT 2 [(oC [zI x0,zI x1,zI x2,Sl.v 1 s0])]) (bb (Bd x1 (0:Int)) none (some (zI (Int.tmod x4 x1))))) (XH h1) (eD ((oo (pu 93 [zI x0,zI x1,zI x3,(zI (Aj .i64 (Int.tdiv x4 x1))),(zI (Int.tmod x4 x1))]) none fun v=>some (v,(hT 2 [(oC [zI x0,zI x1,zI x2,Sl.v 1 s0])])))) (AB h2) (eE)))) ?_
 refine .ghs (fr 32 [(3,pt 1 0),(7,zI x5),(8,zI x6)]) (hT 2 [(oC [zI x0,zI x1,zI x2,Sl.v 1 s0])]) (.k0 [false] [.tmp 3 false] [3,7,8]) ?_
 refine .then (.rK (.ghs (fr 32 [(6,(zI (Aj .i64 (Int.add (Aj .i64 (Int.mul x5 x1)) x6))))]) Ap (.k0 [false] [] [6]) ?_))
 refine .ret ?_
 exact Ay (zI (Aj .i64 (Int.add (Aj .i64 (Int.mul x5 x1)) x6))) hm
def X7 (pu:Af) (n:Nat) (z0:Int):OV:=
 (some (.int .i64 z0))
def gK (pu:Af) (n:Nat) (ih0:Sl→Int→Int→OV) (s0:Sl) (z0 z1:Int):OV:=
 (bb (AY z1 (Int.ofNat (Sl.n s0))) (oo (EA z1) none fun k1=>(bb (an (Nat.blt k1 (Sl.n s0)) true) (oo (AL (Sl.cs s0) (k1*1)) none fun v0=>(oo (Bi .i64 v0) none fun x0=>(ih0 s0 (bb (AY x0 z0) x0 z0) (Aj .i64 (Int.add (Int.ofNat k1) (1:Int)))))) none)) (X7 pu n z0))
def gL (pu:Af) (n w:Nat):Sl→Int→Int→OV:=
 Nat.rec (motive:=fun _=>Sl→Int→Int→OV) (fun _ _ _=>none) (fun _ ih0=>gK pu n ih0) w
def X8 (pu:Af) (n:Nat) (s0:Sl):OV:=
 (bb (an (Nat.blt 0 (Sl.n s0)) true) (oo (AL (Sl.cs s0) (0*1)) none fun v0=>(oo (Bi .i64 v0) none fun x0=>(gL pu n n s0 x0 (1:Int)))) none)
def Agx (pu:Af) (n:Nat) (s0:Sl):OV:=
 (bb (AY (Int.ofNat (Sl.n s0)) (1:Int)) none (X8 pu n s0))
def m91 (pu:Af) (n:Nat) (args:LV):OV:=
 (ll args none fun a0 args=>(ll args (oo (Bj 1 a0) none fun s0=>(Agx pu n s0)) fun _ _=>none))
theorem Agz (pu:Af) (n:Nat) (z0:Int) {v:Value} (hm:X7 pu n z0=some v):BN tt (Bb tabs isP pu (inl pu)) 1 dC (fr 25 [(3,zI z0)]) Ap (Fin tt 1 [.tmp 2] v):=by
 unfold X7 at hm
 refine .then (.rK (.ghs (fr 25 [(2,zI z0)]) Ap (.k0 [false] [] [2]) ?_))
 refine .ret ?_
 exact Ay (zI z0) hm
theorem AgA (pu:Af) (n:Nat) (s0:Sl) {v:Value} (hm:X8 pu n s0=some v):BN tt (Bb tabs isP pu (inl pu)) 1 dP (fr 25 [(0,Sl.v 1 s0)]) Ap (Fin tt 1 [.tmp 2] v):=by
 unfold X8 at hm
 refine .then ?_
 replace hm:=Ae hm;obtain⟨h0,hm⟩:=hm
 replace hm:=oI hm;obtain⟨x0,h1,hm⟩:=hm
 refine .reg (eC 1 (keep Ap (bb (an (Nat.blt 0 (Sl.n s0)) true) (some (Cv (0*1) (Sl.cs s0))) none)) (AX h0) (eD (keep Ap (AL (Sl.cs s0) (0*1))) (AZ h1) (eE))) ?_
 refine .ghs (fr 25 [(0,Sl.v 1 s0),(3,zI x0)]) Ap (.k0 [false] [] [0,3]) ?_
 refine .join (v:=v) (fun y:Int=>((fr 25 [(3,zI y)]),Ap)) (fun y=>X7 pu n y) ?_ ?_
 ·rintro z0 hm
  exact Agz pu n z0 hm
 ·refine .then (.rK (.ghs (fr 25 [(0, Sl.v 1 s0), (3, zI x0), (4, (zI (1 : Int)))]) Ap (.k0 [false] [] [0, 3, 4]) ?_))
  refine .block (.loopM (v:=v) (fun y:Sl×Int×Int=>((fr 25 [(0,(Sl.v 1 y.1)),(3,(zI y.2.1)),(4,(zI y.2.2))]),Ap)) (fun w y=>gL pu n w y.1 y.2.1 y.2.2) n ⟨(s0,x0,(1:Int)),hm,(.k0 [false] [] [0,3,4])⟩ (fun _=>rfl) ?_)
  rintro w0 ⟨s1,z1,z2⟩ hm
  replace hm:gK pu n (gL pu n w0) s1 z1 z2=some v:=hm
  unfold gK at hm
  refine .then (.then (.rK (.ghs (fr 25 [(0,Sl.v 1 s1),(3,zI z1),(4,zI z2),(15,(zB (AY z2 (Int.ofNat (Sl.n s1)))))]) Ap (.k0 [false] [] [0,3,4,15]) ?_)))
  replace hm:=Ag hm;rcases hm with⟨h2,hm⟩ | ⟨h2,hm⟩
  ·refine Bq (AY z2 (Int.ofNat (Sl.n s1))) h2 ?_
   refine .skip (.ghs (fr 25 [(0,Sl.v 1 s1),(3,zI z1),(4,zI z2)]) Ap (.k0 [false] [] [0,3,4]) ?_)
   refine .then (.block ?_)
   replace hm:=Ab hm;obtain⟨k1,h3,hm⟩:=hm
   obtain rfl:=AR h3
   replace hm:=Ae hm;obtain⟨h4,hm⟩:=hm
   replace hm:=oI hm;obtain⟨x1,h5,hm⟩:=hm
   refine .reg (eC 3 (keep Ap (bb (an (Nat.blt k1 (Sl.n s1)) true) (some (Cv (k1*1) (Sl.cs s1))) none)) (AX h4) (eD (keep Ap (AL (Sl.cs s1) (k1*1))) (AZ h5) (eE))) ?_
   refine .ghs (fr 25 [(0,Sl.v 1 s1),(3,(zI (bb (AY x1 z1) x1 z1))),(4,(zI (Int.ofNat k1)))]) Ap (.k0 [false] [] [0,3,4]) ?_
   refine .rK ?_
   exact⟨(s1,(bb (AY x1 z1) x1 z1),(Aj .i64 (Int.add (Int.ofNat k1) (1:Int)))),hm,(.k0 [false] [] [0,3,4])⟩
  ·refine BB (AY z2 (Int.ofNat (Sl.n s1))) h2 ?_
   refine .exit ?_
   exact⟨z1,hm,(.k0 [false] [] [3])⟩
theorem r91 {call:A8} (pu:Af) (n:Nat) (hcall:call=Bb tabs isP pu (inl pu)) {args:LV} {v:Value} (hm:m91 pu n args=some v) (_:∀ x∈args,closed2 x=true):args.length≤25∧BN tt call 1 Sa (Fr.made 25 args) (Ao tabs) (Fin tt 1 [.tmp 2] v):=by
 subst hcall
 unfold m91 at hm
 replace hm:=Ad hm;obtain⟨a0,args_0,rfl,hm⟩:=hm
 replace hm:=AC hm;obtain⟨rfl,hm⟩:=hm
 replace hm:=Al hm;obtain⟨s0,rfl,hm⟩:=hm
 unfold Agx at hm
 refine⟨by simp,?_⟩
 refine .same (F':=(fr 25 [(0,Sl.v 1 s0)])) (H':=Ap) (by kernel_rfl) (by kernel_rfl) ?_
 refine .then (.rK (.ghs (fr 25 [(0,Sl.v 1 s0)]) Ap (.k0 [false] [] [0]) ?_))
 refine .join (v:=v) (fun y:Sl=>((fr 25 [(0,Sl.v 1 y)]),Ap)) (fun y=>X8 pu n y) ?_ ?_
 ·rintro s1 hm
  exact AgA pu n s1 hm
 ·refine .then (.rK (.ghs (fr 25 [(0, Sl.v 1 s0), (7, (zB (AY (Int.ofNat (Sl.n s0)) (1 : Int))))]) Ap (.k0 [false] [] [0, 7]) ?_))
  replace hm:=Ag hm;rcases hm with⟨h0,hm⟩ | ⟨h0,hm⟩
  ·refine Bq (AY (Int.ofNat (Sl.n s0)) (1 : Int)) h0 ?_
   cases hm
  ·refine BB (AY (Int.ofNat (Sl.n s0)) (1 : Int)) h0 ?_
   refine .skip ?_
   exact⟨s0,hm,(.k0 [false] [] [0])⟩
def X9 (pu:Af) (n:Nat) (z0:Int):OV:=
 (some (.int .i64 z0))
def gM (pu:Af) (n:Nat) (ih0:Sl→Int→Int→OV) (s0:Sl) (z0 z1:Int):OV:=
 (bb (AY z1 (Int.ofNat (Sl.n s0))) (oo (EA z1) none fun k1=>(bb (an (Nat.blt k1 (Sl.n s0)) true) (oo (AL (Sl.cs s0) (k1*1)) none fun v0=>(oo (Bi .i64 v0) none fun x0=>(ih0 s0 (bb (AY z0 x0) x0 z0) (Aj .i64 (Int.add (Int.ofNat k1) (1:Int)))))) none)) (X9 pu n z0))
def gP (pu:Af) (n w:Nat):Sl→Int→Int→OV:=
 Nat.rec (motive:=fun _=>Sl→Int→Int→OV) (fun _ _ _=>none) (fun _ ih0=>gM pu n ih0) w
def Ya (pu:Af) (n:Nat) (s0:Sl):OV:=
 (bb (an (Nat.blt 0 (Sl.n s0)) true) (oo (AL (Sl.cs s0) (0*1)) none fun v0=>(oo (Bi .i64 v0) none fun x0=>(gP pu n n s0 x0 (1:Int)))) none)
def AgB (pu:Af) (n:Nat) (s0:Sl):OV:=
 (bb (AY (Int.ofNat (Sl.n s0)) (1:Int)) none (Ya pu n s0))
def m92 (pu:Af) (n:Nat) (args:LV):OV:=
 (ll args none fun a0 args=>(ll args (oo (Bj 1 a0) none fun s0=>(AgB pu n s0)) fun _ _=>none))
theorem AgD (pu:Af) (n:Nat) (z0:Int) {v:Value} (hm:X9 pu n z0=some v):BN tt (Bb tabs isP pu (inl pu)) 1 dQ (fr 25 [(3,zI z0)]) Ap (Fin tt 1 [.tmp 2] v):=by
 unfold X9 at hm
 refine .then (.rK (.ghs (fr 25 [(2,zI z0)]) Ap (.k0 [false] [] [2]) ?_))
 refine .ret ?_
 exact Ay (zI z0) hm
theorem AgE (pu:Af) (n:Nat) (s0:Sl) {v:Value} (hm:Ya pu n s0=some v):BN tt (Bb tabs isP pu (inl pu)) 1 dR (fr 25 [(0,Sl.v 1 s0)]) Ap (Fin tt 1 [.tmp 2] v):=by
 unfold Ya at hm
 refine .then ?_
 replace hm:=Ae hm;obtain⟨h0,hm⟩:=hm
 replace hm:=oI hm;obtain⟨x0,h1,hm⟩:=hm
 refine .reg (eC 1 (keep Ap (bb (an (Nat.blt 0 (Sl.n s0)) true) (some (Cv (0*1) (Sl.cs s0))) none)) (AX h0) (eD (keep Ap (AL (Sl.cs s0) (0*1))) (AZ h1) (eE))) ?_
 refine .ghs (fr 25 [(0,Sl.v 1 s0),(3,zI x0)]) Ap (.k0 [false] [] [0,3]) ?_
 refine .join (v:=v) (fun y:Int=>((fr 25 [(3,zI y)]),Ap)) (fun y=>X9 pu n y) ?_ ?_
 ·rintro z0 hm
  exact AgD pu n z0 hm
 ·refine .then (.rK (.ghs (fr 25 [(0, Sl.v 1 s0), (3, zI x0), (4, (zI (1 : Int)))]) Ap (.k0 [false] [] [0, 3, 4]) ?_))
  refine .block (.loopM (v:=v) (fun y:Sl×Int×Int=>((fr 25 [(0,(Sl.v 1 y.1)),(3,(zI y.2.1)),(4,(zI y.2.2))]),Ap)) (fun w y=>gP pu n w y.1 y.2.1 y.2.2) n ⟨(s0,x0,(1:Int)),hm,(.k0 [false] [] [0,3,4])⟩ (fun _=>rfl) ?_)
  rintro w0 ⟨s1,z1,z2⟩ hm
  replace hm:gM pu n (gP pu n w0) s1 z1 z2=some v:=hm
  unfold gM at hm
  refine .then (.then (.rK (.ghs (fr 25 [(0,Sl.v 1 s1),(3,zI z1),(4,zI z2),(15,(zB (AY z2 (Int.ofNat (Sl.n s1)))))]) Ap (.k0 [false] [] [0,3,4,15]) ?_)))
  replace hm:=Ag hm;rcases hm with⟨h2,hm⟩ | ⟨h2,hm⟩
  ·refine Bq (AY z2 (Int.ofNat (Sl.n s1))) h2 ?_
   refine .skip (.ghs (fr 25 [(0,Sl.v 1 s1),(3,zI z1),(4,zI z2)]) Ap (.k0 [false] [] [0,3,4]) ?_)
   refine .then (.block ?_)
   replace hm:=Ab hm;obtain⟨k1,h3,hm⟩:=hm
   obtain rfl:=AR h3
   replace hm:=Ae hm;obtain⟨h4,hm⟩:=hm
   replace hm:=oI hm;obtain⟨x1,h5,hm⟩:=hm
   refine .reg (eC 3 (keep Ap (bb (an (Nat.blt k1 (Sl.n s1)) true) (some (Cv (k1*1) (Sl.cs s1))) none)) (AX h4) (eD (keep Ap (AL (Sl.cs s1) (k1*1))) (AZ h5) (eE))) ?_
   refine .ghs (fr 25 [(0,Sl.v 1 s1),(3,(zI (bb (AY z1 x1) x1 z1))),(4,(zI (Int.ofNat k1)))]) Ap (.k0 [false] [] [0,3,4]) ?_
   refine .rK ?_
   exact⟨(s1,(bb (AY z1 x1) x1 z1),(Aj .i64 (Int.add (Int.ofNat k1) (1:Int)))),hm,(.k0 [false] [] [0,3,4])⟩
  ·refine BB (AY z2 (Int.ofNat (Sl.n s1))) h2 ?_
   refine .exit ?_
   exact⟨z1,hm,(.k0 [false] [] [3])⟩
theorem r92 {call:A8} (pu:Af) (n:Nat) (hcall:call=Bb tabs isP pu (inl pu)) {args:LV} {v:Value} (hm:m92 pu n args=some v) (_:∀ x∈args,closed2 x=true):args.length≤25∧BN tt call 1 Sb (Fr.made 25 args) (Ao tabs) (Fin tt 1 [.tmp 2] v):=by
 subst hcall
 unfold m92 at hm
 replace hm:=Ad hm;obtain⟨a0,args_0,rfl,hm⟩:=hm
 replace hm:=AC hm;obtain⟨rfl,hm⟩:=hm
 replace hm:=Al hm;obtain⟨s0,rfl,hm⟩:=hm
 unfold AgB at hm
 refine⟨by simp,?_⟩
 refine .same (F':=(fr 25 [(0,Sl.v 1 s0)])) (H':=Ap) (by kernel_rfl) (by kernel_rfl) ?_
 refine .then (.rK (.ghs (fr 25 [(0,Sl.v 1 s0)]) Ap (.k0 [false] [] [0]) ?_))
 refine .join (v:=v) (fun y:Sl=>((fr 25 [(0,Sl.v 1 y)]),Ap)) (fun y=>Ya pu n y) ?_ ?_
 ·rintro s1 hm
  exact AgE pu n s1 hm
 ·refine .then (.rK (.ghs (fr 25 [(0, Sl.v 1 s0), (7, (zB (AY (Int.ofNat (Sl.n s0)) (1 : Int))))]) Ap (.k0 [false] [] [0, 7]) ?_))
  replace hm:=Ag hm;rcases hm with⟨h0,hm⟩ | ⟨h0,hm⟩
  ·refine Bq (AY (Int.ofNat (Sl.n s0)) (1 : Int)) h0 ?_
   cases hm
  ·refine BB (AY (Int.ofNat (Sl.n s0)) (1 : Int)) h0 ?_
   refine .skip ?_
   exact⟨s0,hm,(.k0 [false] [] [0])⟩

def AgF (pu:Af) (n:Nat) (x0 x1 x2 x3 x4:Int):OV:=
 (bb (Bd x2 (1:Int)) (some (.tuple ⟨[(.int .i64 (Aj .i64 (Int.sub (Aj .i64 (Int.sub x0 (1:Int))) x4))),.int .i64 x3]⟩)) (bb (Bd x2 (2:Int)) (some (.tuple ⟨[(.int .i64 (Aj .i64 (Int.sub (Aj .i64 (Int.sub x0 (1:Int))) x3))),(.int .i64 (Aj .i64 (Int.sub (Aj .i64 (Int.sub x1 (1:Int))) x4)))]⟩)) (bb (Bd x2 (3:Int)) (some (.tuple ⟨[.int .i64 x4,(.int .i64 (Aj .i64 (Int.sub (Aj .i64 (Int.sub x1 (1:Int))) x3)))]⟩)) (bb (Bd x2 (4:Int)) (some (.tuple ⟨[.int .i64 x3,(.int .i64 (Aj .i64 (Int.sub (Aj .i64 (Int.sub x1 (1:Int))) x4)))]⟩)) (bb (Bd x2 (5:Int)) (some (.tuple ⟨[(.int .i64 (Aj .i64 (Int.sub (Aj .i64 (Int.sub x0 (1:Int))) x3))),.int .i64 x4]⟩)) (bb (Bd x2 (6:Int)) (some (.tuple ⟨[.int .i64 x4,.int .i64 x3]⟩)) (bb (Bd x2 (7:Int)) (some (.tuple ⟨[(.int .i64 (Aj .i64 (Int.sub (Aj .i64 (Int.sub x0 (1:Int))) x4))),(.int .i64 (Aj .i64 (Int.sub (Aj .i64 (Int.sub x1 (1:Int))) x3)))]⟩)) (some (.tuple ⟨[.int .i64 x3,.int .i64 x4]⟩)))))))))
def m93 (pu:Af) (n:Nat) (args:LV):OV:=
 (ll args none fun a0 args=>(ll args none fun a1 args=>(ll args none fun a2 args=>(ll args none fun a3 args=>(ll args none fun a4 args=>(ll args (oo (Bi .i64 a0) none fun x0=>(oo (Bi .i64 a1) none fun x1=>(oo (Bi .i64 a2) none fun x2=>(oo (Bi .i64 a3) none fun x3=>(oo (Bi .i64 a4) none fun x4=>(AgF pu n x0 x1 x2 x3 x4)))))) fun _ _=>none))))))
theorem r93 {call:A8} (pu:Af) (n:Nat) (hcall:call=Bb tabs isP pu (inl pu)) {args:LV} {v:Value} (hm:m93 pu n args=some v) (_:∀ x∈args,closed2 x=true):args.length≤67∧BN tt call 1 Sc (Fr.made 67 args) (Ao tabs) (Fin tt 1 [.tmp 10,.tmp 11] v):=by
 subst hcall
 unfold m93 at hm
 replace hm:=Ad hm;obtain⟨a0,args_0,rfl,hm⟩:=hm
 replace hm:=Ad hm;obtain⟨a1,args_1,rfl,hm⟩:=hm
 replace hm:=Ad hm;obtain⟨a2,args_2,rfl,hm⟩:=hm
 replace hm:=Ad hm;obtain⟨a3,args_3,rfl,hm⟩:=hm
 replace hm:=Ad hm;obtain⟨a4,args_4,rfl,hm⟩:=hm
 replace hm:=AC hm;obtain⟨rfl,hm⟩:=hm
 replace hm:=Ai hm;obtain⟨x0,rfl,hm⟩:=hm
 replace hm:=Ai hm;obtain⟨x1,rfl,hm⟩:=hm
 replace hm:=Ai hm;obtain⟨x2,rfl,hm⟩:=hm
 replace hm:=Ai hm;obtain⟨x3,rfl,hm⟩:=hm
 replace hm:=Ai hm;obtain⟨x4,rfl,hm⟩:=hm
 unfold AgF at hm
 refine⟨by simp,?_⟩
 refine .same (F':=(fr 67 [(0,zI x0),(1,zI x1),(2,zI x2),(3,zI x3),(4,zI x4)])) (H':=Ap) (by kernel_rfl) (by kernel_rfl) ?_
 refine .then (.rK (.ghs (fr 67 [(0,zI x0),(1,zI x1),(2,zI x2),(3,zI x3),(4,zI x4)]) Ap (.k0 [false] [] [0,1,2,3,4]) ?_))
 refine .then (.then (.rK (.ghs (fr 67 [(0,zI x0),(1,zI x1),(3,zI x3),(4,zI x4),(12,zI x2)]) Ap (.k0 [false] [] [0,1,3,4,12]) ?_)))
 refine .block (.then (.rK (.ghs (fr 67 [(0,zI x0),(1,zI x1),(3,zI x3),(4,zI x4),(12,zI x2),(13,(zB (Bd x2 (1:Int))))]) Ap (.k0 [false] [] [0,1,3,4,12,13]) ?_)))
 replace hm:=Ag hm;rcases hm with⟨h0,hm⟩ | ⟨h0,hm⟩
 ·refine Bq (Bd x2 (1 : Int)) h0 ?_
  refine .then (.rK (.ghs (fr 67 [(10,(zI (Aj .i64 (Int.sub (Aj .i64 (Int.sub x0 (1:Int))) x4)))),(11,zI x3)]) Ap (.k0 [false] [] [10,11]) ?_))
  refine .ret ?_
  exact Ay (.tuple ⟨[(zI (Aj .i64 (Int.sub (Aj .i64 (Int.sub x0 (1:Int))) x4))),zI x3]⟩) hm
 ·refine BB (Bd x2 (1 : Int)) h0 ?_
  refine .then (.rK (.ghs (fr 67 [(0,zI x0),(1,zI x1),(3,zI x3),(4,zI x4),(12,zI x2),(20,(zB (Bd x2 (2:Int))))]) Ap (.k0 [false] [] [0,1,3,4,12,20]) ?_))
  replace hm:=Ag hm;rcases hm with⟨h1,hm⟩ | ⟨h1,hm⟩
  ·refine Bq (Bd x2 (2 : Int)) h1 ?_
   refine .then (.rK (.ghs (fr 67 [(10,(zI (Aj .i64 (Int.sub (Aj .i64 (Int.sub x0 (1:Int))) x3)))),(11,(zI (Aj .i64 (Int.sub (Aj .i64 (Int.sub x1 (1:Int))) x4))))]) Ap (.k0 [false] [] [10,11]) ?_))
   refine .ret ?_
   exact Ay (.tuple ⟨[(zI (Aj .i64 (Int.sub (Aj .i64 (Int.sub x0 (1:Int))) x3))),(zI (Aj .i64 (Int.sub (Aj .i64 (Int.sub x1 (1:Int))) x4)))]⟩) hm
  ·refine BB (Bd x2 (2 : Int)) h1 ?_
   refine .then (.rK (.ghs (fr 67 [(0,zI x0),(1,zI x1),(3,zI x3),(4,zI x4),(12,zI x2),(30,(zB (Bd x2 (3:Int))))]) Ap (.k0 [false] [] [0,1,3,4,12,30]) ?_))
   replace hm:=Ag hm;rcases hm with⟨h2,hm⟩ | ⟨h2,hm⟩
   ·refine Bq (Bd x2 (3 : Int)) h2 ?_
    refine .then (.rK (.ghs (fr 67 [(10,zI x4),(11,(zI (Aj .i64 (Int.sub (Aj .i64 (Int.sub x1 (1:Int))) x3))))]) Ap (.k0 [false] [] [10,11]) ?_))
    refine .ret ?_
    exact Ay (.tuple ⟨[zI x4,(zI (Aj .i64 (Int.sub (Aj .i64 (Int.sub x1 (1:Int))) x3)))]⟩) hm
   ·refine BB (Bd x2 (3 : Int)) h2 ?_
    refine .then (.rK (.ghs (fr 67 [(0,zI x0),(1,zI x1),(3,zI x3),(4,zI x4),(12,zI x2),(37,(zB (Bd x2 (4:Int))))]) Ap (.k0 [false] [] [0,1,3,4,12,37]) ?_))
    replace hm:=Ag hm;rcases hm with⟨h3,hm⟩ | ⟨h3,hm⟩
    ·refine Bq (Bd x2 (4 : Int)) h3 ?_
     refine .then (.rK (.ghs (fr 67 [(10,zI x3),(11,(zI (Aj .i64 (Int.sub (Aj .i64 (Int.sub x1 (1:Int))) x4))))]) Ap (.k0 [false] [] [10,11]) ?_))
     refine .ret ?_
     exact Ay (.tuple ⟨[zI x3,(zI (Aj .i64 (Int.sub (Aj .i64 (Int.sub x1 (1:Int))) x4)))]⟩) hm
    ·refine BB (Bd x2 (4 : Int)) h3 ?_
     refine .then (.rK (.ghs (fr 67 [(0,zI x0),(1,zI x1),(3,zI x3),(4,zI x4),(12,zI x2),(44,(zB (Bd x2 (5:Int))))]) Ap (.k0 [false] [] [0,1,3,4,12,44]) ?_))
     replace hm:=Ag hm;rcases hm with⟨h4,hm⟩ | ⟨h4,hm⟩
     ·refine Bq (Bd x2 (5 : Int)) h4 ?_
      refine .then (.rK (.ghs (fr 67 [(10,(zI (Aj .i64 (Int.sub (Aj .i64 (Int.sub x0 (1:Int))) x3)))),(11,zI x4)]) Ap (.k0 [false] [] [10,11]) ?_))
      refine .ret ?_
      exact Ay (.tuple ⟨[(zI (Aj .i64 (Int.sub (Aj .i64 (Int.sub x0 (1:Int))) x3))),zI x4]⟩) hm
     ·refine BB (Bd x2 (5 : Int)) h4 ?_
      refine .then (.rK (.ghs (fr 67 [(0,zI x0),(1,zI x1),(3,zI x3),(4,zI x4),(12,zI x2),(51,(zB (Bd x2 (6:Int))))]) Ap (.k0 [false] [] [0,1,3,4,12,51]) ?_))
      replace hm:=Ag hm;rcases hm with⟨h5,hm⟩ | ⟨h5,hm⟩
      ·refine Bq (Bd x2 (6 : Int)) h5 ?_
       refine .then (.rK (.ghs (fr 67 [(10,zI x4),(11,zI x3)]) Ap (.k0 [false] [] [10,11]) ?_))
       refine .ret ?_
       exact Ay (.tuple ⟨[zI x4,zI x3]⟩) hm
      ·refine BB (Bd x2 (6 : Int)) h5 ?_
       refine .then (.rK (.ghs (fr 67 [(0,zI x0),(1,zI x1),(3,zI x3),(4,zI x4),(55,(zB (Bd x2 (7:Int))))]) Ap (.k0 [false] [] [0,1,3,4,55]) ?_))
       replace hm:=Ag hm;rcases hm with⟨h6,hm⟩ | ⟨h6,hm⟩
       ·refine Bq (Bd x2 (7 : Int)) h6 ?_
        refine .then (.rK (.ghs (fr 67 [(10,(zI (Aj .i64 (Int.sub (Aj .i64 (Int.sub x0 (1:Int))) x4)))),(11,(zI (Aj .i64 (Int.sub (Aj .i64 (Int.sub x1 (1:Int))) x3))))]) Ap (.k0 [false] [] [10,11]) ?_))
        refine .ret ?_
        exact Ay (.tuple ⟨[(zI (Aj .i64 (Int.sub (Aj .i64 (Int.sub x0 (1:Int))) x4))),(zI (Aj .i64 (Int.sub (Aj .i64 (Int.sub x1 (1:Int))) x3)))]⟩) hm
       ·refine BB (Bd x2 (7 : Int)) h6 ?_
        refine .skip (.ghs (fr 67 [(3,zI x3),(4,zI x4)]) Ap (.k0 [false] [] [3,4]) ?_)
        refine .then (.rK (.ghs (fr 67 [(10,zI x3),(11,zI x4)]) Ap (.k0 [false] [] [10,11]) ?_))
        refine .ret ?_
        exact Ay (.tuple ⟨[zI x3,zI x4]⟩) hm
end
end Go.BkUM
