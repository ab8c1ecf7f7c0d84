/- Made from wip. -/
import Derived.Test.YtokbaaeimejjlaaGreatDoorBkXMod1x
import Derived.Test.YtokbaaeimejjlaaGreatDoorBkXMod2
import Derived.Test.YtokbaaeimejjlaaGreatDoorBkXMod3
import Derived.Test.YtokbaaeimejjlaaGreatDoorBkXMod4

set_option maxRecDepth 100000
set_option maxHeartbeats 20000000
set_option linter.unusedVariables false
namespace Go.BkXM
open Go.Sp Go.BkX
noncomputable section
def m59_0 (pu:PureF) (n:Nat) (b0:Bool):OV:=
 (some (.bool b0))
def m59_ (pu:PureF) (n:Nat) (x0 x1 x2:Int):OV:=
 (bb (nt (ilt x1 x0)) (m59_0 pu n (nt (ilt x2 x1))) (m59_0 pu n false))
def m59 (pu:PureF) (n:Nat) (args:LV):OV:=
 (ll args none fun a0 args=>(ll args none fun a1 args=>(ll args none fun a2 args=>(ll args (oo (toI .i64 a0) none fun x0=>(oo (toI .i64 a1) none fun x1=>(oo (toI .i64 a2) none fun x2=>(m59_ pu n x0 x1 x2)))) fun _ _=>none))))
theorem w59_0 (pu:PureF) (n:Nat) (b0:Bool) {v:Value} (hm:m59_0 pu n b0 = some v):Run tt (callP tabs isP pu (inl pu)) 1 .ret (fr 15 [(6,zB b0)]) (hp 1 [(oT tab0)]) (Fin tt 1 [.tmp 6] v):=by
 unfold m59_0 at hm
 refine .ret ?_
 exact fin_ret (zB b0) (by kernel_rfl) (by kernel_rfl) hm
theorem r59 {call:CallF} (pu:PureF) (n:Nat) (hcall:call = callP tabs isP pu (inl pu)) {args:LV} {v:Value} (hm:m59 pu n args = some v) (_:∀ x ∈ args,closed2 x = true):args.length≤15∧Run tt call 1 c59_3 (Fr.made 15 args) (pureHeap tabs) (Fin tt 1 [.tmp 6] v):=by
 subst hcall
 unfold m59 at hm
 replace hm:=ll_uncons hm;obtain ⟨a0,args_0,rfl,hm⟩:=hm
 replace hm:=ll_uncons hm;obtain ⟨a1,args_1,rfl,hm⟩:=hm
 replace hm:=ll_uncons hm;obtain ⟨a2,args_2,rfl,hm⟩:=hm
 replace hm:=ll_end hm;obtain ⟨rfl,hm⟩:=hm
 replace hm:=inv_toI hm;obtain ⟨x0,rfl,hm⟩:=hm
 replace hm:=inv_toI hm;obtain ⟨x1,rfl,hm⟩:=hm
 replace hm:=inv_toI hm;obtain ⟨x2,rfl,hm⟩:=hm
 unfold m59_ at hm
 refine ⟨by simp,?_⟩
 refine .same (F':=(fr 15 [(0,zI x0),(1,zI x1),(2,zI x2)])) (H':=(hp 1 [(oT tab0)])) (by kernel_rfl) (by kernel_rfl) ?_
 refine .then (.rK ?_)
 refine .ghs (fr 15 [(0,zI x0),(1,zI x1),(2,zI x2)]) (hp 1 [(oT tab0)]) (.k0 [false] [] [0,1,2]) ?_
 refine .join (v:=v) (fun y:Bool=>((fr 15 [(6,zB y)]),(hp 1 [(oT tab0)]))) (fun y=>m59_0 pu n y) ?_ ?_
 ·rintro b0 hm
  exact w59_0 pu n b0 hm
 ·replace hm := bb_cases hm; rcases hm with ⟨h0, hm⟩ | ⟨h0, hm⟩
  ·refine .reg (eC 2 (some ((zB (nt (ilt x1 x0))), (hp 1 [(oT tab0)]))) (show _ = some ((zB true), _) from (by rw [show (nt (ilt x1 x0)) = true from h0])) (eE)) ?_
   exact ⟨(nt (ilt x2 x1)),hm,(.k0 [false] [] [6])⟩
  ·refine .reg (eC 2 (some ((zB (nt (ilt x1 x0))), (hp 1 [(oT tab0)]))) (show _ = some ((zB false), _) from (by rw [show (nt (ilt x1 x0)) = false from h0])) (eE)) ?_
   exact ⟨false,hm,(.k0 [false] [] [6])⟩
def m62_0 (pu:PureF) (n:Nat) (b0:Bool):OV:=
 (some (.bool b0))
def m62_ (pu:PureF) (n:Nat) (x0 x1 x2:Int):OV:=
 (bb (nt (ilt x0 x1)) (m62_0 pu n (nt (ilt x2 x0))) (m62_0 pu n false))
def m62 (pu:PureF) (n:Nat) (args:LV):OV:=
 (ll args none fun a0 args=>(ll args none fun a1 args=>(ll args none fun a2 args=>(ll args (oo (toI .i64 a0) none fun x0=>(oo (toI .i64 a1) none fun x1=>(oo (toI .i64 a2) none fun x2=>(m62_ pu n x0 x1 x2)))) fun _ _=>none))))
theorem w62_0 (pu:PureF) (n:Nat) (b0:Bool) {v:Value} (hm:m62_0 pu n b0 = some v):Run tt (callP tabs isP pu (inl pu)) 1 .ret (fr 15 [(6,zB b0)]) (hp 1 [(oT tab0)]) (Fin tt 1 [.tmp 6] v):=by
 unfold m62_0 at hm
 refine .ret ?_
 exact fin_ret (zB b0) (by kernel_rfl) (by kernel_rfl) hm
theorem r62 {call:CallF} (pu:PureF) (n:Nat) (hcall:call = callP tabs isP pu (inl pu)) {args:LV} {v:Value} (hm:m62 pu n args = some v) (_:∀ x ∈ args,closed2 x = true):args.length≤15∧Run tt call 1 c62_3 (Fr.made 15 args) (pureHeap tabs) (Fin tt 1 [.tmp 6] v):=by
 subst hcall
 unfold m62 at hm
 replace hm:=ll_uncons hm;obtain ⟨a0,args_0,rfl,hm⟩:=hm
 replace hm:=ll_uncons hm;obtain ⟨a1,args_1,rfl,hm⟩:=hm
 replace hm:=ll_uncons hm;obtain ⟨a2,args_2,rfl,hm⟩:=hm
 replace hm:=ll_end hm;obtain ⟨rfl,hm⟩:=hm
 replace hm:=inv_toI hm;obtain ⟨x0,rfl,hm⟩:=hm
 replace hm:=inv_toI hm;obtain ⟨x1,rfl,hm⟩:=hm
 replace hm:=inv_toI hm;obtain ⟨x2,rfl,hm⟩:=hm
 unfold m62_ at hm
 refine ⟨by simp,?_⟩
 refine .same (F':=(fr 15 [(0,zI x0),(1,zI x1),(2,zI x2)])) (H':=(hp 1 [(oT tab0)])) (by kernel_rfl) (by kernel_rfl) ?_
 refine .then (.rK ?_)
 refine .ghs (fr 15 [(0,zI x0),(1,zI x1),(2,zI x2)]) (hp 1 [(oT tab0)]) (.k0 [false] [] [0,1,2]) ?_
 refine .join (v:=v) (fun y:Bool=>((fr 15 [(6,zB y)]),(hp 1 [(oT tab0)]))) (fun y=>m62_0 pu n y) ?_ ?_
 ·rintro b0 hm
  exact w62_0 pu n b0 hm
 ·replace hm := bb_cases hm; rcases hm with ⟨h0, hm⟩ | ⟨h0, hm⟩
  ·refine .reg (eC 2 (some ((zB (nt (ilt x0 x1))), (hp 1 [(oT tab0)]))) (show _ = some ((zB true), _) from (by rw [show (nt (ilt x0 x1)) = true from h0])) (eE)) ?_
   exact ⟨(nt (ilt x2 x0)),hm,(.k0 [false] [] [6])⟩
  ·refine .reg (eC 2 (some ((zB (nt (ilt x0 x1))), (hp 1 [(oT tab0)]))) (show _ = some ((zB false), _) from (by rw [show (nt (ilt x0 x1)) = false from h0])) (eE)) ?_
   exact ⟨false,hm,(.k0 [false] [] [6])⟩

def m75_ (pu:PureF) (n:Nat) (x0:Int):OV:=
 (bb (ieq x0 (4:Int)) (some (.agg ⟨[(.int .i64 (0:Int)),(.bool true)]⟩)) (bb (ieq x0 (5:Int)) (some (.agg ⟨[(.int .i64 (2:Int)),(.bool true)]⟩)) (bb (ieq x0 (6:Int)) (some (.agg ⟨[(.int .i64 (1:Int)),(.bool true)]⟩)) (bb (ieq x0 (7:Int)) (some (.agg ⟨[(.int .i64 (3:Int)),(.bool true)]⟩)) (some (.agg ⟨[.int .i64 x0,(.bool false)]⟩))))))
def m75 (pu:PureF) (n:Nat) (args:LV):OV:=
 (ll args none fun a0 args=>(ll args (oo (toI .i64 a0) none fun x0=>(m75_ pu n x0)) fun _ _=>none))
theorem r75 {call:CallF} (pu:PureF) (n:Nat) (hcall:call = callP tabs isP pu (inl pu)) {args:LV} {v:Value} (hm:m75 pu n args = some v) (_:∀ x ∈ args,closed2 x = true):args.length≤18∧Run tt call 1 c75_27 (Fr.made 18 args) (pureHeap tabs) (Fin tt 1 [.cell 2 99] v):=by
 subst hcall
 unfold m75 at hm
 replace hm:=ll_uncons hm;obtain ⟨a0,args_0,rfl,hm⟩:=hm
 replace hm:=ll_end hm;obtain ⟨rfl,hm⟩:=hm
 replace hm:=inv_toI hm;obtain ⟨x0,rfl,hm⟩:=hm
 unfold m75_ at hm
 refine ⟨by simp,?_⟩
 refine .same (F':=(fr 18 [(0,zI x0)])) (H':=(hp 1 [(oT tab0)])) (by kernel_rfl) (by kernel_rfl) ?_
 refine .then (.rK ?_)
 refine .ghs (fr 18 [(0,zI x0),(2,pt 1 0)]) (hT 2 [(oC [(zI (0:Int)),zB false])]) (.k0 [false] [.tmp 2 false] [0,2]) ?_
 refine .then ?_
 refine .then (.rK ?_)
 refine .ghs (fr 18 [(0,zI x0),(2,pt 1 0),(3,zI x0)]) (hT 2 [(oC [(zI (0:Int)),zB false])]) (.k0 [false] [.tmp 2 false] [0,2,3]) ?_
 refine .block ?_
 refine .then (.rK ?_)
 refine .ghs (fr 18 [(0,zI x0),(2,pt 1 0),(3,zI x0),(4,(zB (ieq x0 (4:Int))))]) (hT 2 [(oC [(zI (0:Int)),zB false])]) (.k0 [false] [.tmp 2 false] [0,2,3,4]) ?_
 replace hm:=bb_cases hm;rcases hm with ⟨h0,hm⟩ | ⟨h0,hm⟩
 ·refine .ifT (ieq x0 (4 : Int)) (by kernel_rfl) h0 ?_
  refine .then (.rK ?_)
  refine .ghs (fr 18 [(2,pt 1 0)]) (hT 2 [(oC [(zI (0:Int)),zB true])]) (.k0 [false] [.tmp 2 false] [2]) ?_
  refine .ret ?_
  exact fin_ret (.agg ⟨[(zI (0:Int)),zB true]⟩) (by kernel_rfl) (by kernel_rfl) hm
 ·refine .ifF (ieq x0 (4 : Int)) (by kernel_rfl) h0 ?_
  refine .then (.rK ?_)
  refine .ghs (fr 18 [(0,zI x0),(2,pt 1 0),(3,zI x0),(7,(zB (ieq x0 (5:Int))))]) (hT 2 [(oC [(zI (0:Int)),zB false])]) (.k0 [false] [.tmp 2 false] [0,2,3,7]) ?_
  replace hm:=bb_cases hm;rcases hm with ⟨h1,hm⟩ | ⟨h1,hm⟩
  ·refine .ifT (ieq x0 (5 : Int)) (by kernel_rfl) h1 ?_
   refine .then (.rK ?_)
   refine .ghs (fr 18 [(2,pt 1 0)]) (hT 2 [(oC [(zI (2:Int)),zB true])]) (.k0 [false] [.tmp 2 false] [2]) ?_
   refine .ret ?_
   exact fin_ret (.agg ⟨[(zI (2:Int)),zB true]⟩) (by kernel_rfl) (by kernel_rfl) hm
  ·refine .ifF (ieq x0 (5 : Int)) (by kernel_rfl) h1 ?_
   refine .then (.rK ?_)
   refine .ghs (fr 18 [(0,zI x0),(2,pt 1 0),(3,zI x0),(10,(zB (ieq x0 (6:Int))))]) (hT 2 [(oC [(zI (0:Int)),zB false])]) (.k0 [false] [.tmp 2 false] [0,2,3,10]) ?_
   replace hm:=bb_cases hm;rcases hm with ⟨h2,hm⟩ | ⟨h2,hm⟩
   ·refine .ifT (ieq x0 (6 : Int)) (by kernel_rfl) h2 ?_
    refine .then (.rK ?_)
    refine .ghs (fr 18 [(2,pt 1 0)]) (hT 2 [(oC [(zI (1:Int)),zB true])]) (.k0 [false] [.tmp 2 false] [2]) ?_
    refine .ret ?_
    exact fin_ret (.agg ⟨[(zI (1:Int)),zB true]⟩) (by kernel_rfl) (by kernel_rfl) hm
   ·refine .ifF (ieq x0 (6 : Int)) (by kernel_rfl) h2 ?_
    refine .then (.rK ?_)
    refine .ghs (fr 18 [(0,zI x0),(2,pt 1 0),(13,(zB (ieq x0 (7:Int))))]) (hT 2 [(oC [(zI (0:Int)),zB false])]) (.k0 [false] [.tmp 2 false] [0,2,13]) ?_
    replace hm:=bb_cases hm;rcases hm with ⟨h3,hm⟩ | ⟨h3,hm⟩
    ·refine .ifT (ieq x0 (7 : Int)) (by kernel_rfl) h3 ?_
     refine .then (.rK ?_)
     refine .ghs (fr 18 [(2,pt 1 0)]) (hT 2 [(oC [(zI (3:Int)),zB true])]) (.k0 [false] [.tmp 2 false] [2]) ?_
     refine .ret ?_
     exact fin_ret (.agg ⟨[(zI (3:Int)),zB true]⟩) (by kernel_rfl) (by kernel_rfl) hm
    ·refine .ifF (ieq x0 (7 : Int)) (by kernel_rfl) h3 ?_
     refine .skip ?_
     refine .ghs (fr 18 [(0,zI x0),(2,pt 1 0)]) (hT 2 [(oC [(zI (0:Int)),zB false])]) (.k0 [false] [.tmp 2 false] [0,2]) ?_
     refine .then (.rK ?_)
     refine .ghs (fr 18 [(2,pt 1 0)]) (hT 2 [(oC [zI x0,zB false])]) (.k0 [false] [.tmp 2 false] [2]) ?_
     refine .ret ?_
     exact fin_ret (.agg ⟨[zI x0,zB false]⟩) (by kernel_rfl) (by kernel_rfl) hm
def m76_0 (pu:PureF) (n:Nat) (z0:Int) (b0:Bool) (z1:Int) (b1:Bool) (z2:Int) (b2:Bool):OV:=
 (some (.agg ⟨[(.int .i64 (wrapF .i64 (Int.add z0 z1))),(.bool (bq false (bq b0 b1)))]⟩))
def m76_ (pu:PureF) (n:Nat) (x0:Int) (b0:Bool) (x1:Int) (b1:Bool):OV:=
 (bb b0 (m76_0 pu n x0 b0 (wrapF .i64 (Int.sub (.ofNat 0) x1)) b1 (0:Int) false) (m76_0 pu n x0 b0 x1 b1 (0:Int) false))
def m76 (pu:PureF) (n:Nat) (args:LV):OV:=
 (ll args none fun a0 args=>(ll args none fun a1 args=>(ll args (oo (vAgg a0) none fun l0=>(ll l0 none fun v0 l0=>(ll l0 none fun v1 l0=>(ll l0 (oo (toI .i64 v0) none fun x0=>(oo (vBool v1) none fun b0=>(oo (vAgg a1) none fun l1=>(ll l1 none fun v2 l1=>(ll l1 none fun v3 l1=>(ll l1 (oo (toI .i64 v2) none fun x1=>(oo (vBool v3) none fun b1=>(m76_ pu n x0 b0 x1 b1))) fun _ _=>none)))))) fun _ _=>none)))) fun _ _=>none)))
theorem w76_0 (pu:PureF) (n:Nat) (z0:Int) (b0:Bool) (z1:Int) (b1:Bool) (z2:Int) (b2:Bool) {v:Value} (hm:m76_0 pu n z0 b0 z1 b1 z2 b2 = some v):Run tt (callP tabs isP pu (inl pu)) 1 c76_6 (fr 22 [(2,pt 1 0),(3,(pt 2 0)),(4,(pt 3 0))]) (hT 4 [(oC [zI z0,zB b0]),(oC [zI z1,zB b1]),(oC [zI z2,zB b2])]) (Fin tt 1 [.cell 4 99] v):=by
 unfold m76_0 at hm
 refine .then (.rK ?_)
 refine .ghs (fr 22 [(4,pt 1 0)]) (hT 2 [(oC [(zI (wrapF .i64 (Int.add z0 z1))),(zB (bq false (bq b0 b1)))])]) (.k0 [false] [.tmp 4 false] [4]) ?_
 refine .ret ?_
 exact fin_ret (.agg ⟨[(zI (wrapF .i64 (Int.add z0 z1))),(zB (bq false (bq b0 b1)))]⟩) (by kernel_rfl) (by kernel_rfl) hm
theorem r76 {call:CallF} (pu:PureF) (n:Nat) (hcall:call = callP tabs isP pu (inl pu)) {args:LV} {v:Value} (hm:m76 pu n args = some v) (_:∀ x ∈ args,closed2 x = true):args.length≤22∧Run tt call 1 c76_8 (Fr.made 22 args) (pureHeap tabs) (Fin tt 1 [.cell 4 99] v):=by
 subst hcall
 unfold m76 at hm
 replace hm:=ll_uncons hm;obtain ⟨a0,args_0,rfl,hm⟩:=hm
 replace hm:=ll_uncons hm;obtain ⟨a1,args_1,rfl,hm⟩:=hm
 replace hm:=ll_end hm;obtain ⟨rfl,hm⟩:=hm
 replace hm:=inv_vAgg hm;obtain ⟨l0,rfl,hm⟩:=hm
 replace hm:=ll_uncons hm;obtain ⟨v0,l7368_0,rfl,hm⟩:=hm
 replace hm:=ll_uncons hm;obtain ⟨v1,l7368_1,rfl,hm⟩:=hm
 replace hm:=ll_end hm;obtain ⟨rfl,hm⟩:=hm
 replace hm:=inv_toI hm;obtain ⟨x0,rfl,hm⟩:=hm
 replace hm:=inv_vBool hm;obtain ⟨b0,rfl,hm⟩:=hm
 replace hm:=inv_vAgg hm;obtain ⟨l1,rfl,hm⟩:=hm
 replace hm:=ll_uncons hm;obtain ⟨v2,l7376_0,rfl,hm⟩:=hm
 replace hm:=ll_uncons hm;obtain ⟨v3,l7376_1,rfl,hm⟩:=hm
 replace hm:=ll_end hm;obtain ⟨rfl,hm⟩:=hm
 replace hm:=inv_toI hm;obtain ⟨x1,rfl,hm⟩:=hm
 replace hm:=inv_vBool hm;obtain ⟨b1,rfl,hm⟩:=hm
 unfold m76_ at hm
 refine ⟨by simp,?_⟩
 refine .same (F':=(fr 22 [(0,(.agg ⟨[zI x0,zB b0]⟩)),(1,(.agg ⟨[zI x1,zB b1]⟩))])) (H':=(hp 1 [(oT tab0)])) (by kernel_rfl) (by kernel_rfl) ?_
 refine .then (.rK ?_)
 refine .ghs (fr 22 [(2,pt 1 0),(3,(pt 2 0)),(4,(pt 3 0))]) (hT 4 [(oC [zI x0,zB b0]),(oC [zI x1,zB b1]),(oC [(zI (0:Int)),zB false])]) (.k0 [false] [.tmp 2 false,.tmp 3 false,.tmp 4 false] [2,3,4]) ?_
 refine .join (v:=v) (fun y:Int×Bool×Int×Bool×Int×Bool=>((fr 22 [(2,pt 1 0),(3,(pt 2 0)),(4,(pt 3 0))]),(hT 4 [(oC [(zI y.1),(zB y.2.1)]),(oC [(zI y.2.2.1),(zB y.2.2.2.1)]),(oC [(zI y.2.2.2.2.1),(zB y.2.2.2.2.2)])]))) (fun y=>m76_0 pu n y.1 y.2.1 y.2.2.1 y.2.2.2.1 y.2.2.2.2.1 y.2.2.2.2.2) ?_ ?_
 ·rintro ⟨z0, b2, z1, b4, z2, b5⟩ hm
  exact w76_0 pu n z0 b2 z1 b4 z2 b5 hm
 ·refine .then (.rK ?_)
  refine .ghs (fr 22 [(2,pt 1 0),(3,(pt 2 0)),(4,(pt 3 0)),(6,zB b0)]) (hT 4 [(oC [zI x0,zB b0]),(oC [zI x1,zB b1]),(oC [(zI (0:Int)),zB false])]) (.k0 [false] [.tmp 2 false,.tmp 3 false,.tmp 4 false] [2,3,4,6]) ?_
  replace hm:=bb_cases hm;rcases hm with ⟨h0,hm⟩ | ⟨h0,hm⟩
  ·refine .ifT b0 (by kernel_rfl) h0 ?_
   refine .rK ?_
   exact ⟨(x0,b0,(wrapF .i64 (Int.sub (.ofNat 0) x1)),b1,(0:Int),false),hm,(.k0 [false] [.tmp 2 false,.tmp 3 false,.tmp 4 false] [2,3,4])⟩
  ·refine .ifF b0 (by kernel_rfl) h0 ?_
   refine .skip ?_
   exact ⟨(x0,b0,x1,b1,(0:Int),false),hm,(.k0 [false] [.tmp 2 false,.tmp 3 false,.tmp 4 false] [2,3,4])⟩

def m77_ (pu:PureF) (n:Nat) (x0:Int) (b0:Bool):OV:=
 (bb (nt b0) (some (.int .i64 (Int.tmod (wrapF .i64 (Int.add x0 (4:Int))) (4:Int)))) (bb (ieq (Int.tmod (wrapF .i64 (Int.add x0 (4:Int))) (4:Int)) (0:Int)) (some (.int .i64 (4:Int))) (bb (ieq (Int.tmod (wrapF .i64 (Int.add x0 (4:Int))) (4:Int)) (1:Int)) (some (.int .i64 (6:Int))) (bb (ieq (Int.tmod (wrapF .i64 (Int.add x0 (4:Int))) (4:Int)) (2:Int)) (some (.int .i64 (5:Int))) (some (.int .i64 (7:Int)))))))
def m77 (pu:PureF) (n:Nat) (args:LV):OV:=
 (ll args none fun a0 args=>(ll args (oo (vAgg a0) none fun l0=>(ll l0 none fun v0 l0=>(ll l0 none fun v1 l0=>(ll l0 (oo (toI .i64 v0) none fun x0=>(oo (vBool v1) none fun b0=>(m77_ pu n x0 b0))) fun _ _=>none)))) fun _ _=>none))
theorem r77 {call:CallF} (pu:PureF) (n:Nat) (hcall:call = callP tabs isP pu (inl pu)) {args:LV} {v:Value} (hm:m77 pu n args = some v) (_:∀ x ∈ args,closed2 x = true):args.length≤22∧Run tt call 1 c77_27 (Fr.made 22 args) (pureHeap tabs) (Fin tt 1 [.tmp 2] v):=by
 subst hcall
 unfold m77 at hm
 replace hm:=ll_uncons hm;obtain ⟨a0,args_0,rfl,hm⟩:=hm
 replace hm:=ll_end hm;obtain ⟨rfl,hm⟩:=hm
 replace hm:=inv_vAgg hm;obtain ⟨l0,rfl,hm⟩:=hm
 replace hm:=ll_uncons hm;obtain ⟨v0,l7393_0,rfl,hm⟩:=hm
 replace hm:=ll_uncons hm;obtain ⟨v1,l7393_1,rfl,hm⟩:=hm
 replace hm:=ll_end hm;obtain ⟨rfl,hm⟩:=hm
 replace hm:=inv_toI hm;obtain ⟨x0,rfl,hm⟩:=hm
 replace hm:=inv_vBool hm;obtain ⟨b0,rfl,hm⟩:=hm
 unfold m77_ at hm
 refine ⟨by simp,?_⟩
 refine .same (F':=(fr 22 [(0,(.agg ⟨[zI x0,zB b0]⟩))])) (H':=(hp 1 [(oT tab0)])) (by kernel_rfl) (by kernel_rfl) ?_
 refine .then (.rK ?_)
 refine .ghs (fr 22 [(1,pt 1 0)]) (hT 2 [(oC [zI x0,zB b0])]) (.k0 [false] [.tmp 1 false] [1]) ?_
 refine .then (.rK ?_)
 refine .ghs (fr 22 [(1,pt 1 0),(3,(zI (Int.tmod (wrapF .i64 (Int.add x0 (4:Int))) (4:Int))))]) (hT 2 [(oC [zI x0,zB b0])]) (.k0 [false] [.tmp 1 false] [1,3]) ?_
 refine .then ?_
 refine .block ?_
 refine .then (.rK ?_)
 refine .ghs (fr 22 [(3,(zI (Int.tmod (wrapF .i64 (Int.add x0 (4:Int))) (4:Int)))),(8,(zB (nt b0)))]) (hp 1 [(oT tab0)]) (.k0 [false] [] [3,8]) ?_
 replace hm:=bb_cases hm;rcases hm with ⟨h0,hm⟩ | ⟨h0,hm⟩
 ·refine .ifT (nt b0) (by kernel_rfl) h0 ?_
  refine .then (.rK ?_)
  refine .ghs (fr 22 [(2,(zI (Int.tmod (wrapF .i64 (Int.add x0 (4:Int))) (4:Int))))]) (hp 1 [(oT tab0)]) (.k0 [false] [] [2]) ?_
  refine .ret ?_
  exact fin_ret (zI (Int.tmod (wrapF .i64 (Int.add x0 (4:Int))) (4:Int))) (by kernel_rfl) (by kernel_rfl) hm
 ·refine .ifF (nt b0) (by kernel_rfl) h0 ?_
  refine .then (.rK ?_)
  refine .ghs (fr 22 [(3,(zI (Int.tmod (wrapF .i64 (Int.add x0 (4:Int))) (4:Int)))),(13,(zB (ieq (Int.tmod (wrapF .i64 (Int.add x0 (4:Int))) (4:Int)) (0:Int))))]) (hp 1 [(oT tab0)]) (.k0 [false] [] [3,13]) ?_
  replace hm:=bb_cases hm;rcases hm with ⟨h1,hm⟩ | ⟨h1,hm⟩
  ·refine .ifT (ieq (Int.tmod (wrapF .i64 (Int.add x0 (4 : Int))) (4 : Int)) (0 : Int)) (by kernel_rfl) h1 ?_
   refine .then (.rK ?_)
   refine .ghs (fr 22 [(2,(zI (4:Int)))]) (hp 1 [(oT tab0)]) (.k0 [false] [] [2]) ?_
   refine .ret ?_
   exact fin_ret (zI (4:Int)) (by kernel_rfl) (by kernel_rfl) hm
  ·refine .ifF (ieq (Int.tmod (wrapF .i64 (Int.add x0 (4 : Int))) (4 : Int)) (0 : Int)) (by kernel_rfl) h1 ?_
   refine .then (.rK ?_)
   refine .ghs (fr 22 [(3,(zI (Int.tmod (wrapF .i64 (Int.add x0 (4:Int))) (4:Int)))),(16,(zB (ieq (Int.tmod (wrapF .i64 (Int.add x0 (4:Int))) (4:Int)) (1:Int))))]) (hp 1 [(oT tab0)]) (.k0 [false] [] [3,16]) ?_
   replace hm:=bb_cases hm;rcases hm with ⟨h2,hm⟩ | ⟨h2,hm⟩
   ·refine .ifT (ieq (Int.tmod (wrapF .i64 (Int.add x0 (4 : Int))) (4 : Int)) (1 : Int)) (by kernel_rfl) h2 ?_
    refine .then (.rK ?_)
    refine .ghs (fr 22 [(2,(zI (6:Int)))]) (hp 1 [(oT tab0)]) (.k0 [false] [] [2]) ?_
    refine .ret ?_
    exact fin_ret (zI (6:Int)) (by kernel_rfl) (by kernel_rfl) hm
   ·refine .ifF (ieq (Int.tmod (wrapF .i64 (Int.add x0 (4 : Int))) (4 : Int)) (1 : Int)) (by kernel_rfl) h2 ?_
    refine .then (.rK ?_)
    refine .ghs (fr 22 [(19,(zB (ieq (Int.tmod (wrapF .i64 (Int.add x0 (4:Int))) (4:Int)) (2:Int))))]) (hp 1 [(oT tab0)]) (.k0 [false] [] [19]) ?_
    replace hm:=bb_cases hm;rcases hm with ⟨h3,hm⟩ | ⟨h3,hm⟩
    ·refine .ifT (ieq (Int.tmod (wrapF .i64 (Int.add x0 (4 : Int))) (4 : Int)) (2 : Int)) (by kernel_rfl) h3 ?_
     refine .then (.rK ?_)
     refine .ghs (fr 22 [(2,(zI (5:Int)))]) (hp 1 [(oT tab0)]) (.k0 [false] [] [2]) ?_
     refine .ret ?_
     exact fin_ret (zI (5:Int)) (by kernel_rfl) (by kernel_rfl) hm
    ·refine .ifF (ieq (Int.tmod (wrapF .i64 (Int.add x0 (4 : Int))) (4 : Int)) (2 : Int)) (by kernel_rfl) h3 ?_
     refine .skip ?_
     refine .ghs (fr 22 []) (hp 1 [(oT tab0)]) (.k0 [false] [] []) ?_
     refine .then (.rK ?_)
     refine .ghs (fr 22 [(2,(zI (7:Int)))]) (hp 1 [(oT tab0)]) (.k0 [false] [] [2]) ?_
     refine .ret ?_
     exact fin_ret (zI (7:Int)) (by kernel_rfl) (by kernel_rfl) hm
def m80_0 (pu:PureF) (n:Nat) (b0:Bool):OV:=
 (bb b0 (some (.int .i64 (1:Int))) (some (.int .i64 (0:Int))))
def m80_ (pu:PureF) (n:Nat) (p0:FpV) (s0:Sl):OV:=
 (oo (nthL (FpV.cs p0) (((FpV.off p0) + 0) + 0)) none fun v0=>(oo (toI .i64 v0) none fun x0=>(oo (nthL (FpV.cs p0) (((FpV.off p0) + 0) + 1)) none fun v1=>(oo (toI .i64 v1) none fun x1=>(bb (nt (ieq (Int.ofNat (Sl.n s0)) (wrapF .i64 (Int.mul x0 x1)))) (some (.int .i64 (5:Int))) (oo (pu 91 [Sl.v 1 s0]) none fun v2=>(oo (toI .i64 v2) none fun x2=>(bb (ilt x2 (0:Int)) (m80_0 pu n true) (oo (nthL (FpV.cs p0) (((FpV.off p0) + 0) + 2)) none fun v3=>(oo (toI .i64 v3) none fun x3=>(oo (pu 92 [Sl.v 1 s0]) none fun v4=>(oo (toI .i64 v4) none fun x4=>(m80_0 pu n (nt (ilt x4 x3)))))))))))))))
def m80 (pu:PureF) (n:Nat) (args:LV):OV:=
 (ll args none fun a0 args=>(ll args none fun a1 args=>(ll args (oo (vFp a0) none fun p0=>(oo (toSl 1 a1) none fun s0=>(m80_ pu n p0 s0))) fun _ _=>none)))
theorem r80 {call:CallF} (pu:PureF) (n:Nat) (hcall:call = callP tabs isP pu (inl pu)) {args:LV} {v:Value} (hm:m80 pu n args = some v) (_:∀ x ∈ args,closed2 x = true):args.length≤34∧Run tt call 1 c80_15 (Fr.made 34 args) (pureHeap tabs) (Fin tt 1 [.tmp 4] v):=by
 subst hcall
 unfold m80 at hm
 replace hm:=ll_uncons hm;obtain ⟨a0,args_0,rfl,hm⟩:=hm
 replace hm:=ll_uncons hm;obtain ⟨a1,args_1,rfl,hm⟩:=hm
 replace hm:=ll_end hm;obtain ⟨rfl,hm⟩:=hm
 replace hm:=oo_inv hm;obtain ⟨p0,h0,hm⟩:=hm
 obtain rfl:=vFp_some h0
 replace hm:=inv_toSl hm;obtain ⟨s0,rfl,hm⟩:=hm
 unfold m80_ at hm
 refine ⟨by simp,?_⟩
 refine .same (F':=(fr 34 [(0,(fpV (FpV.off p0) (FpV.cs p0))),(1,Sl.v 1 s0)])) (H':=(hp 1 [(oT tab0)])) (by kernel_rfl) (by kernel_rfl) ?_
 refine .then (.rK ?_)
 refine .ghs (fr 34 [(0,(fpV (FpV.off p0) (FpV.cs p0))),(1,Sl.v 1 s0)]) (hp 1 [(oT tab0)]) (.k0 [false] [] [0,1]) ?_
 refine .then ?_
 refine .block ?_
 refine .then ?_
 replace hm:=oo_inv hm;obtain ⟨v0,h1,hm⟩:=hm
 replace hm:=inv_toI hm;obtain ⟨x0,rfl,hm⟩:=hm
 replace hm:=oo_inv hm;obtain ⟨v1,h2,hm⟩:=hm
 replace hm:=inv_toI hm;obtain ⟨x1,rfl,hm⟩:=hm
 refine .reg (eC 6 (keep (hp 1 [(oT tab0)]) (nthL (FpV.cs p0) (((FpV.off p0) + 0) + 0))) (keep_eq h1) (eC 4 (keep (hp 1 [(oT tab0)]) (nthL (FpV.cs p0) (((FpV.off p0) + 0) + 1))) (keep_eq h2) (eE))) ?_
 refine .ghs (fr 34 [(0,(fpV (FpV.off p0) (FpV.cs p0))),(1,Sl.v 1 s0),(5,(zB (nt (ieq (Int.ofNat (Sl.n s0)) (wrapF .i64 (Int.mul x0 x1))))))]) (hp 1 [(oT tab0)]) (.k0 [false] [] [0,1,5]) ?_
 replace hm:=bb_cases hm;rcases hm with ⟨h3,hm⟩ | ⟨h3,hm⟩
 ·refine .ifT (nt (ieq (Int.ofNat (Sl.n s0)) (wrapF .i64 (Int.mul x0 x1)))) (by kernel_rfl) h3 ?_
  refine .then (.rK ?_)
  refine .ghs (fr 34 [(4,(zI (5:Int)))]) (hp 1 [(oT tab0)]) (.k0 [false] [] [4]) ?_
  refine .ret ?_
  exact fin_ret (zI (5:Int)) (by kernel_rfl) (by kernel_rfl) hm
 ·refine .ifF (nt (ieq (Int.ofNat (Sl.n s0)) (wrapF .i64 (Int.mul x0 x1)))) (by kernel_rfl) h3 ?_
  refine .join (v:=v) (fun y:Bool=>((fr 34 [(20,zB y)]),(hp 1 [(oT tab0)]))) (fun y=>m80_0 pu n y) ?_ ?_
  ·rintro b0 hm
   unfold m80_0 at hm
   replace hm:=bb_cases hm;rcases hm with ⟨h4,hm⟩ | ⟨h4,hm⟩
   ·refine .ifT b0 (by kernel_rfl) h4 ?_
    refine .then (.rK ?_)
    refine .ghs (fr 34 [(4,(zI (1:Int)))]) (hp 1 [(oT tab0)]) (.k0 [false] [] [4]) ?_
    refine .ret ?_
    exact fin_ret (zI (1:Int)) (by kernel_rfl) (by kernel_rfl) hm
   ·refine .ifF b0 (by kernel_rfl) h4 ?_
    refine .skip ?_
    refine .ghs (fr 34 []) (hp 1 [(oT tab0)]) (.k0 [false] [] []) ?_
    refine .then (.rK ?_)
    refine .ghs (fr 34 [(4,(zI (0:Int)))]) (hp 1 [(oT tab0)]) (.k0 [false] [] [4]) ?_
    refine .ret ?_
    exact fin_ret (zI (0:Int)) (by kernel_rfl) (by kernel_rfl) hm
  ·replace hm := oo_inv hm; obtain ⟨v2, h5, hm⟩ := hm
   replace hm:=inv_toI hm;obtain ⟨x2,rfl,hm⟩:=hm
   replace hm:=bb_cases hm;rcases hm with ⟨h6,hm⟩ | ⟨h6,hm⟩
   ·refine .reg (eC 1 ((oo (pu 91 [Sl.v 1 s0]) none fun v => some (v, (hp 1 [(oT tab0)])))) (call_eq h5) (eD (some ((zB (ilt x2 (0 : Int))), (hp 1 [(oT tab0)]))) (show _ = some ((zB true), _) from (by rw [show (ilt x2 (0 : Int)) = true from h6])) (eE))) ?_
    exact ⟨true,hm,(.k0 [false] [] [20])⟩
   ·replace hm := oo_inv hm; obtain ⟨v3, h7, hm⟩ := hm
    replace hm:=inv_toI hm;obtain ⟨x3,rfl,hm⟩:=hm
    replace hm:=oo_inv hm;obtain ⟨v4,h8,hm⟩:=hm
    replace hm:=inv_toI hm;obtain ⟨x4,rfl,hm⟩:=hm
    refine .reg (eC 1 ((oo (pu 91 [Sl.v 1 s0]) none fun v=>some (v,(hp 1 [(oT tab0)])))) (call_eq h5) (eD (some ((zB (ilt x2 (0:Int))),(hp 1 [(oT tab0)]))) (show _ = some ((zB false),_) from (by rw [show (ilt x2 (0:Int)) = false from h6])) (eC 6 (keep (hp 1 [(oT tab0)]) (nthL (FpV.cs p0) (((FpV.off p0) + 0) + 2))) (keep_eq h7) (eD ((oo (pu 92 [Sl.v 1 s0]) none fun v=>some (v,(hp 1 [(oT tab0)])))) (call_eq h8) (eE))))) ?_
    exact ⟨(nt (ilt x4 x3)),hm,(.k0 [false] [] [20])⟩

def m81_ (pu:PureF) (n:Nat) (x0 x1 x2:Int) (s0:Sl) (x3 x4:Int):OV:=
 (bb (nt (ieq x1 (0:Int))) (bb (nt (ieq x1 (0:Int))) (oo (pu 93 [.int .i64 x0,.int .i64 x1,.int .i64 x3,(.int .i64 (wrapF .i64 (Int.tdiv x4 x1))),(.int .i64 (Int.tmod x4 x1))]) none fun v0=>(oo (vTup v0) none fun l0=>(ll l0 none fun v1 l0=>(ll l0 none fun v2 l0=>(ll l0 (oo (toI .i64 v1) none fun x5=>(oo (toI .i64 v2) none fun x6=>(some (.int .i64 (wrapF .i64 (Int.add (wrapF .i64 (Int.mul x5 x1)) x6)))))) fun _ _=>none))))) none) none)
def m81 (pu:PureF) (n:Nat) (args:LV):OV:=
 (ll args none fun a0 args=>(ll args none fun a1 args=>(ll args none fun a2 args=>(ll args (oo (vAgg a0) none fun l0=>(ll l0 none fun v0 l0=>(ll l0 none fun v1 l0=>(ll l0 none fun v2 l0=>(ll l0 none fun v3 l0=>(ll l0 (oo (toI .i64 v0) none fun x0=>(oo (toI .i64 v1) none fun x1=>(oo (toI .i64 v2) none fun x2=>(oo (toSl 1 v3) none fun s0=>(oo (toI .i64 a1) none fun x3=>(oo (toI .i64 a2) none fun x4=>(m81_ pu n x0 x1 x2 s0 x3 x4))))))) fun _ _=>none)))))) fun _ _=>none))))
theorem r81 {call:CallF} (pu:PureF) (n:Nat) (hcall:call = callP tabs isP pu (inl pu)) {args:LV} {v:Value} (hm:m81 pu n args = some v) (_:∀ x ∈ args,closed2 x = true):args.length≤32∧Run tt call 1 c81_5 (Fr.made 32 args) (pureHeap tabs) (Fin tt 1 [.tmp 6] v):=by
 subst hcall
 unfold m81 at hm
 replace hm:=ll_uncons hm;obtain ⟨a0,args_0,rfl,hm⟩:=hm
 replace hm:=ll_uncons hm;obtain ⟨a1,args_1,rfl,hm⟩:=hm
 replace hm:=ll_uncons hm;obtain ⟨a2,args_2,rfl,hm⟩:=hm
 replace hm:=ll_end hm;obtain ⟨rfl,hm⟩:=hm
 replace hm:=inv_vAgg hm;obtain ⟨l0,rfl,hm⟩:=hm
 replace hm:=ll_uncons hm;obtain ⟨v0,l7506_0,rfl,hm⟩:=hm
 replace hm:=ll_uncons hm;obtain ⟨v1,l7506_1,rfl,hm⟩:=hm
 replace hm:=ll_uncons hm;obtain ⟨v2,l7506_2,rfl,hm⟩:=hm
 replace hm:=ll_uncons hm;obtain ⟨v3,l7506_3,rfl,hm⟩:=hm
 replace hm:=ll_end hm;obtain ⟨rfl,hm⟩:=hm
 replace hm:=inv_toI hm;obtain ⟨x0,rfl,hm⟩:=hm
 replace hm:=inv_toI hm;obtain ⟨x1,rfl,hm⟩:=hm
 replace hm:=inv_toI hm;obtain ⟨x2,rfl,hm⟩:=hm
 replace hm:=inv_toSl hm;obtain ⟨s0,rfl,hm⟩:=hm
 replace hm:=inv_toI hm;obtain ⟨x3,rfl,hm⟩:=hm
 replace hm:=inv_toI hm;obtain ⟨x4,rfl,hm⟩:=hm
 unfold m81_ at hm
 refine ⟨by simp,?_⟩
 refine .same (F':=(fr 32 [(0,(.agg ⟨[zI x0,zI x1,zI x2,Sl.v 1 s0]⟩)),(1,zI x3),(2,zI x4)])) (H':=(hp 1 [(oT tab0)])) (by kernel_rfl) (by kernel_rfl) ?_
 refine .then (.rK ?_)
 refine .ghs (fr 32 [(1,zI x3),(2,zI x4),(3,pt 1 0)]) (hT 2 [(oC [zI x0,zI x1,zI x2,Sl.v 1 s0])]) (.k0 [false] [.tmp 3 false] [1,2,3]) ?_
 refine .then ?_
 replace hm:=bb_inv hm;obtain ⟨h0,hm⟩:=hm
 replace hm:=bb_inv hm;obtain ⟨h1,hm⟩:=hm
 replace hm:=oo_inv hm;obtain ⟨v4,h2,hm⟩:=hm
 replace hm:=inv_vTup hm;obtain ⟨l1,rfl,hm⟩:=hm
 replace hm:=ll_uncons hm;obtain ⟨v5,l7540_0,rfl,hm⟩:=hm
 replace hm:=ll_uncons hm;obtain ⟨v6,l7540_1,rfl,hm⟩:=hm
 replace hm:=ll_end hm;obtain ⟨rfl,hm⟩:=hm
 replace hm:=inv_toI hm;obtain ⟨x5,rfl,hm⟩:=hm
 replace hm:=inv_toI hm;obtain ⟨x6,rfl,hm⟩:=hm
 refine .reg (eC 8 (keep (hT 2 [(oC [zI x0,zI x1,zI x2,Sl.v 1 s0])]) (bb (ieq x1 (0:Int)) none (some (zI (wrapF .i64 (Int.tdiv x4 x1)))))) (keep_nb h0) (eC 3 (keep (hT 2 [(oC [zI x0,zI x1,zI x2,Sl.v 1 s0])]) (bb (ieq x1 (0:Int)) none (some (zI (Int.tmod x4 x1))))) (keep_nb h1) (eD ((oo (pu 93 [zI x0,zI x1,zI x3,(zI (wrapF .i64 (Int.tdiv x4 x1))),(zI (Int.tmod x4 x1))]) none fun v=>some (v,(hT 2 [(oC [zI x0,zI x1,zI x2,Sl.v 1 s0])])))) (call_eq h2) (eE)))) ?_
 refine .ghs (fr 32 [(3,pt 1 0),(7,zI x5),(8,zI x6)]) (hT 2 [(oC [zI x0,zI x1,zI x2,Sl.v 1 s0])]) (.k0 [false] [.tmp 3 false] [3,7,8]) ?_
 refine .then (.rK ?_)
 refine .ghs (fr 32 [(6,(zI (wrapF .i64 (Int.add (wrapF .i64 (Int.mul x5 x1)) x6))))]) (hp 1 [(oT tab0)]) (.k0 [false] [] [6]) ?_
 refine .ret ?_
 exact fin_ret (zI (wrapF .i64 (Int.add (wrapF .i64 (Int.mul x5 x1)) x6))) (by kernel_rfl) (by kernel_rfl) hm
def m91_1 (pu:PureF) (n:Nat) (z0:Int):OV:=
 (some (.int .i64 z0))
def b91_2 (pu:PureF) (n:Nat) (ih0:Sl→Int→Int→OV) (s0:Sl) (z0 z1:Int):OV:=
 (bb (ilt z1 (Int.ofNat (Sl.n s0))) (oo (toN z1) none fun k1=>(bb (an (Nat.blt k1 (Sl.n s0)) true) (oo (nthL (Sl.cs s0) (k1 * 1)) none fun v0=>(oo (toI .i64 v0) none fun x0=>(ih0 s0 (bb (ilt x0 z0) x0 z0) (wrapF .i64 (Int.add (Int.ofNat k1) (1:Int)))))) none)) (m91_1 pu n z0))
def l91_2 (pu:PureF) (n w:Nat):Sl→Int→Int→OV:=
 Nat.rec (motive:=fun _=>Sl→Int→Int→OV) (fun _ _ _=>none) (fun _ ih0=>b91_2 pu n ih0) w
def m91_0 (pu:PureF) (n:Nat) (s0:Sl):OV:=
 (bb (an (Nat.blt 0 (Sl.n s0)) true) (oo (nthL (Sl.cs s0) (0 * 1)) none fun v0=>(oo (toI .i64 v0) none fun x0=>(l91_2 pu n n s0 x0 (1:Int)))) none)
def m91_ (pu:PureF) (n:Nat) (s0:Sl):OV:=
 (bb (ilt (Int.ofNat (Sl.n s0)) (1:Int)) none (m91_0 pu n s0))
def m91 (pu:PureF) (n:Nat) (args:LV):OV:=
 (ll args none fun a0 args=>(ll args (oo (toSl 1 a0) none fun s0=>(m91_ pu n s0)) fun _ _=>none))
theorem w91_1 (pu:PureF) (n:Nat) (z0:Int) {v:Value} (hm:m91_1 pu n z0 = some v):Run tt (callP tabs isP pu (inl pu)) 1 c91_19 (fr 25 [(3,zI z0)]) (hp 1 [(oT tab0)]) (Fin tt 1 [.tmp 2] v):=by
 unfold m91_1 at hm
 refine .then (.rK ?_)
 refine .ghs (fr 25 [(2,zI z0)]) (hp 1 [(oT tab0)]) (.k0 [false] [] [2]) ?_
 refine .ret ?_
 exact fin_ret (zI z0) (by kernel_rfl) (by kernel_rfl) hm
theorem w91_0 (pu:PureF) (n:Nat) (s0:Sl) {v:Value} (hm:m91_0 pu n s0 = some v):Run tt (callP tabs isP pu (inl pu)) 1 c91_21 (fr 25 [(0,Sl.v 1 s0)]) (hp 1 [(oT tab0)]) (Fin tt 1 [.tmp 2] v):=by
 unfold m91_0 at hm
 refine .then ?_
 replace hm:=bb_inv hm;obtain ⟨h0,hm⟩:=hm
 replace hm:=oo_inv hm;obtain ⟨v0,h1,hm⟩:=hm
 replace hm:=inv_toI hm;obtain ⟨x0,rfl,hm⟩:=hm
 refine .reg (eC 1 (keep (hp 1 [(oT tab0)]) (bb (an (Nat.blt 0 (Sl.n s0)) true) (some (fpV (0 * 1) (Sl.cs s0))) none)) (keep_bb h0) (eD (keep (hp 1 [(oT tab0)]) (nthL (Sl.cs s0) (0 * 1))) (keep_eq h1) (eE))) ?_
 refine .ghs (fr 25 [(0,Sl.v 1 s0),(3,zI x0)]) (hp 1 [(oT tab0)]) (.k0 [false] [] [0,3]) ?_
 refine .join (v:=v) (fun y:Int=>((fr 25 [(3,zI y)]),(hp 1 [(oT tab0)]))) (fun y=>m91_1 pu n y) ?_ ?_
 ·rintro z0 hm
  exact w91_1 pu n z0 hm
 ·refine .then (.rK ?_)
  refine .ghs (fr 25 [(0,Sl.v 1 s0),(3,zI x0),(4,(zI (1:Int)))]) (hp 1 [(oT tab0)]) (.k0 [false] [] [0,3,4]) ?_
  refine .block ?_
  refine .loopM (v:=v) (fun y:Sl×Int×Int=>((fr 25 [(0,(Sl.v 1 y.1)),(3,(zI y.2.1)),(4,(zI y.2.2))]),(hp 1 [(oT tab0)]))) (fun w y=>l91_2 pu n w y.1 y.2.1 y.2.2) n ⟨(s0,x0,(1:Int)),hm,(.k0 [false] [] [0,3,4])⟩ (fun _=>rfl) ?_
  rintro w0 ⟨s1,z1,z2⟩ hm
  replace hm:b91_2 pu n (l91_2 pu n w0) s1 z1 z2 = some v:=hm
  unfold b91_2 at hm
  refine .then ?_
  refine .then (.rK ?_)
  refine .ghs (fr 25 [(0,Sl.v 1 s1),(3,zI z1),(4,zI z2),(15,(zB (ilt z2 (Int.ofNat (Sl.n s1)))))]) (hp 1 [(oT tab0)]) (.k0 [false] [] [0,3,4,15]) ?_
  replace hm:=bb_cases hm;rcases hm with ⟨h2,hm⟩ | ⟨h2,hm⟩
  ·refine .ifT (ilt z2 (Int.ofNat (Sl.n s1))) (by kernel_rfl) h2 ?_
   refine .skip ?_
   refine .ghs (fr 25 [(0,Sl.v 1 s1),(3,zI z1),(4,zI z2)]) (hp 1 [(oT tab0)]) (.k0 [false] [] [0,3,4]) ?_
   refine .then ?_
   refine .block ?_
   replace hm:=oo_inv hm;obtain ⟨k1,h3,hm⟩:=hm
   obtain rfl:=toN_some h3
   replace hm:=bb_inv hm;obtain ⟨h4,hm⟩:=hm
   replace hm:=oo_inv hm;obtain ⟨v1,h5,hm⟩:=hm
   replace hm:=inv_toI hm;obtain ⟨x1,rfl,hm⟩:=hm
   refine .reg (eC 3 (keep (hp 1 [(oT tab0)]) (bb (an (Nat.blt k1 (Sl.n s1)) true) (some (fpV (k1 * 1) (Sl.cs s1))) none)) (keep_bb h4) (eD (keep (hp 1 [(oT tab0)]) (nthL (Sl.cs s1) (k1 * 1))) (keep_eq h5) (eE))) ?_
   refine .ghs (fr 25 [(0,Sl.v 1 s1),(3,(zI (bb (ilt x1 z1) x1 z1))),(4,(zI (Int.ofNat k1)))]) (hp 1 [(oT tab0)]) (.k0 [false] [] [0,3,4]) ?_
   refine .rK ?_
   exact ⟨(s1,(bb (ilt x1 z1) x1 z1),(wrapF .i64 (Int.add (Int.ofNat k1) (1:Int)))),hm,(.k0 [false] [] [0,3,4])⟩
  ·refine .ifF (ilt z2 (Int.ofNat (Sl.n s1))) (by kernel_rfl) h2 ?_
   refine .exit ?_
   exact ⟨z1,hm,(.k0 [false] [] [3])⟩
theorem r91 {call:CallF} (pu:PureF) (n:Nat) (hcall:call = callP tabs isP pu (inl pu)) {args:LV} {v:Value} (hm:m91 pu n args = some v) (_:∀ x ∈ args,closed2 x = true):args.length≤25∧Run tt call 1 c91_23 (Fr.made 25 args) (pureHeap tabs) (Fin tt 1 [.tmp 2] v):=by
 subst hcall
 unfold m91 at hm
 replace hm:=ll_uncons hm;obtain ⟨a0,args_0,rfl,hm⟩:=hm
 replace hm:=ll_end hm;obtain ⟨rfl,hm⟩:=hm
 replace hm:=inv_toSl hm;obtain ⟨s0,rfl,hm⟩:=hm
 unfold m91_ at hm
 refine ⟨by simp,?_⟩
 refine .same (F':=(fr 25 [(0,Sl.v 1 s0)])) (H':=(hp 1 [(oT tab0)])) (by kernel_rfl) (by kernel_rfl) ?_
 refine .then (.rK ?_)
 refine .ghs (fr 25 [(0,Sl.v 1 s0)]) (hp 1 [(oT tab0)]) (.k0 [false] [] [0]) ?_
 refine .join (v:=v) (fun y:Sl=>((fr 25 [(0,Sl.v 1 y)]),(hp 1 [(oT tab0)]))) (fun y=>m91_0 pu n y) ?_ ?_
 ·rintro s1 hm
  exact w91_0 pu n s1 hm
 ·refine .then (.rK ?_)
  refine .ghs (fr 25 [(0,Sl.v 1 s0),(7,(zB (ilt (Int.ofNat (Sl.n s0)) (1:Int))))]) (hp 1 [(oT tab0)]) (.k0 [false] [] [0,7]) ?_
  replace hm:=bb_cases hm;rcases hm with ⟨h0,hm⟩ | ⟨h0,hm⟩
  ·refine .ifT (ilt (Int.ofNat (Sl.n s0)) (1 : Int)) (by kernel_rfl) h0 ?_
   cases hm
  ·refine .ifF (ilt (Int.ofNat (Sl.n s0)) (1 : Int)) (by kernel_rfl) h0 ?_
   refine .skip ?_
   exact ⟨s0,hm,(.k0 [false] [] [0])⟩
def m92_1 (pu:PureF) (n:Nat) (z0:Int):OV:=
 (some (.int .i64 z0))
def b92_2 (pu:PureF) (n:Nat) (ih0:Sl→Int→Int→OV) (s0:Sl) (z0 z1:Int):OV:=
 (bb (ilt z1 (Int.ofNat (Sl.n s0))) (oo (toN z1) none fun k1=>(bb (an (Nat.blt k1 (Sl.n s0)) true) (oo (nthL (Sl.cs s0) (k1 * 1)) none fun v0=>(oo (toI .i64 v0) none fun x0=>(ih0 s0 (bb (ilt z0 x0) x0 z0) (wrapF .i64 (Int.add (Int.ofNat k1) (1:Int)))))) none)) (m92_1 pu n z0))
def l92_2 (pu:PureF) (n w:Nat):Sl→Int→Int→OV:=
 Nat.rec (motive:=fun _=>Sl→Int→Int→OV) (fun _ _ _=>none) (fun _ ih0=>b92_2 pu n ih0) w
def m92_0 (pu:PureF) (n:Nat) (s0:Sl):OV:=
 (bb (an (Nat.blt 0 (Sl.n s0)) true) (oo (nthL (Sl.cs s0) (0 * 1)) none fun v0=>(oo (toI .i64 v0) none fun x0=>(l92_2 pu n n s0 x0 (1:Int)))) none)
def m92_ (pu:PureF) (n:Nat) (s0:Sl):OV:=
 (bb (ilt (Int.ofNat (Sl.n s0)) (1:Int)) none (m92_0 pu n s0))
def m92 (pu:PureF) (n:Nat) (args:LV):OV:=
 (ll args none fun a0 args=>(ll args (oo (toSl 1 a0) none fun s0=>(m92_ pu n s0)) fun _ _=>none))
theorem w92_1 (pu:PureF) (n:Nat) (z0:Int) {v:Value} (hm:m92_1 pu n z0 = some v):Run tt (callP tabs isP pu (inl pu)) 1 c92_19 (fr 25 [(3,zI z0)]) (hp 1 [(oT tab0)]) (Fin tt 1 [.tmp 2] v):=by
 unfold m92_1 at hm
 refine .then (.rK ?_)
 refine .ghs (fr 25 [(2,zI z0)]) (hp 1 [(oT tab0)]) (.k0 [false] [] [2]) ?_
 refine .ret ?_
 exact fin_ret (zI z0) (by kernel_rfl) (by kernel_rfl) hm
theorem w92_0 (pu:PureF) (n:Nat) (s0:Sl) {v:Value} (hm:m92_0 pu n s0 = some v):Run tt (callP tabs isP pu (inl pu)) 1 c92_21 (fr 25 [(0,Sl.v 1 s0)]) (hp 1 [(oT tab0)]) (Fin tt 1 [.tmp 2] v):=by
 unfold m92_0 at hm
 refine .then ?_
 replace hm:=bb_inv hm;obtain ⟨h0,hm⟩:=hm
 replace hm:=oo_inv hm;obtain ⟨v0,h1,hm⟩:=hm
 replace hm:=inv_toI hm;obtain ⟨x0,rfl,hm⟩:=hm
 refine .reg (eC 1 (keep (hp 1 [(oT tab0)]) (bb (an (Nat.blt 0 (Sl.n s0)) true) (some (fpV (0 * 1) (Sl.cs s0))) none)) (keep_bb h0) (eD (keep (hp 1 [(oT tab0)]) (nthL (Sl.cs s0) (0 * 1))) (keep_eq h1) (eE))) ?_
 refine .ghs (fr 25 [(0,Sl.v 1 s0),(3,zI x0)]) (hp 1 [(oT tab0)]) (.k0 [false] [] [0,3]) ?_
 refine .join (v:=v) (fun y:Int=>((fr 25 [(3,zI y)]),(hp 1 [(oT tab0)]))) (fun y=>m92_1 pu n y) ?_ ?_
 ·rintro z0 hm
  exact w92_1 pu n z0 hm
 ·refine .then (.rK ?_)
  refine .ghs (fr 25 [(0,Sl.v 1 s0),(3,zI x0),(4,(zI (1:Int)))]) (hp 1 [(oT tab0)]) (.k0 [false] [] [0,3,4]) ?_
  refine .block ?_
  refine .loopM (v:=v) (fun y:Sl×Int×Int=>((fr 25 [(0,(Sl.v 1 y.1)),(3,(zI y.2.1)),(4,(zI y.2.2))]),(hp 1 [(oT tab0)]))) (fun w y=>l92_2 pu n w y.1 y.2.1 y.2.2) n ⟨(s0,x0,(1:Int)),hm,(.k0 [false] [] [0,3,4])⟩ (fun _=>rfl) ?_
  rintro w0 ⟨s1,z1,z2⟩ hm
  replace hm:b92_2 pu n (l92_2 pu n w0) s1 z1 z2 = some v:=hm
  unfold b92_2 at hm
  refine .then ?_
  refine .then (.rK ?_)
  refine .ghs (fr 25 [(0,Sl.v 1 s1),(3,zI z1),(4,zI z2),(15,(zB (ilt z2 (Int.ofNat (Sl.n s1)))))]) (hp 1 [(oT tab0)]) (.k0 [false] [] [0,3,4,15]) ?_
  replace hm:=bb_cases hm;rcases hm with ⟨h2,hm⟩ | ⟨h2,hm⟩
  ·refine .ifT (ilt z2 (Int.ofNat (Sl.n s1))) (by kernel_rfl) h2 ?_
   refine .skip ?_
   refine .ghs (fr 25 [(0,Sl.v 1 s1),(3,zI z1),(4,zI z2)]) (hp 1 [(oT tab0)]) (.k0 [false] [] [0,3,4]) ?_
   refine .then ?_
   refine .block ?_
   replace hm:=oo_inv hm;obtain ⟨k1,h3,hm⟩:=hm
   obtain rfl:=toN_some h3
   replace hm:=bb_inv hm;obtain ⟨h4,hm⟩:=hm
   replace hm:=oo_inv hm;obtain ⟨v1,h5,hm⟩:=hm
   replace hm:=inv_toI hm;obtain ⟨x1,rfl,hm⟩:=hm
   refine .reg (eC 3 (keep (hp 1 [(oT tab0)]) (bb (an (Nat.blt k1 (Sl.n s1)) true) (some (fpV (k1 * 1) (Sl.cs s1))) none)) (keep_bb h4) (eD (keep (hp 1 [(oT tab0)]) (nthL (Sl.cs s1) (k1 * 1))) (keep_eq h5) (eE))) ?_
   refine .ghs (fr 25 [(0,Sl.v 1 s1),(3,(zI (bb (ilt z1 x1) x1 z1))),(4,(zI (Int.ofNat k1)))]) (hp 1 [(oT tab0)]) (.k0 [false] [] [0,3,4]) ?_
   refine .rK ?_
   exact ⟨(s1,(bb (ilt z1 x1) x1 z1),(wrapF .i64 (Int.add (Int.ofNat k1) (1:Int)))),hm,(.k0 [false] [] [0,3,4])⟩
  ·refine .ifF (ilt z2 (Int.ofNat (Sl.n s1))) (by kernel_rfl) h2 ?_
   refine .exit ?_
   exact ⟨z1,hm,(.k0 [false] [] [3])⟩
theorem r92 {call:CallF} (pu:PureF) (n:Nat) (hcall:call = callP tabs isP pu (inl pu)) {args:LV} {v:Value} (hm:m92 pu n args = some v) (_:∀ x ∈ args,closed2 x = true):args.length≤25∧Run tt call 1 c92_23 (Fr.made 25 args) (pureHeap tabs) (Fin tt 1 [.tmp 2] v):=by
 subst hcall
 unfold m92 at hm
 replace hm:=ll_uncons hm;obtain ⟨a0,args_0,rfl,hm⟩:=hm
 replace hm:=ll_end hm;obtain ⟨rfl,hm⟩:=hm
 replace hm:=inv_toSl hm;obtain ⟨s0,rfl,hm⟩:=hm
 unfold m92_ at hm
 refine ⟨by simp,?_⟩
 refine .same (F':=(fr 25 [(0,Sl.v 1 s0)])) (H':=(hp 1 [(oT tab0)])) (by kernel_rfl) (by kernel_rfl) ?_
 refine .then (.rK ?_)
 refine .ghs (fr 25 [(0,Sl.v 1 s0)]) (hp 1 [(oT tab0)]) (.k0 [false] [] [0]) ?_
 refine .join (v:=v) (fun y:Sl=>((fr 25 [(0,Sl.v 1 y)]),(hp 1 [(oT tab0)]))) (fun y=>m92_0 pu n y) ?_ ?_
 ·rintro s1 hm
  exact w92_0 pu n s1 hm
 ·refine .then (.rK ?_)
  refine .ghs (fr 25 [(0,Sl.v 1 s0),(7,(zB (ilt (Int.ofNat (Sl.n s0)) (1:Int))))]) (hp 1 [(oT tab0)]) (.k0 [false] [] [0,7]) ?_
  replace hm:=bb_cases hm;rcases hm with ⟨h0,hm⟩ | ⟨h0,hm⟩
  ·refine .ifT (ilt (Int.ofNat (Sl.n s0)) (1 : Int)) (by kernel_rfl) h0 ?_
   cases hm
  ·refine .ifF (ilt (Int.ofNat (Sl.n s0)) (1 : Int)) (by kernel_rfl) h0 ?_
   refine .skip ?_
   exact ⟨s0,hm,(.k0 [false] [] [0])⟩

def m93_ (pu:PureF) (n:Nat) (x0 x1 x2 x3 x4:Int):OV:=
 (bb (ieq x2 (1:Int)) (some (.tuple ⟨[(.int .i64 (wrapF .i64 (Int.sub (wrapF .i64 (Int.sub x0 (1:Int))) x4))),.int .i64 x3]⟩)) (bb (ieq x2 (2:Int)) (some (.tuple ⟨[(.int .i64 (wrapF .i64 (Int.sub (wrapF .i64 (Int.sub x0 (1:Int))) x3))),(.int .i64 (wrapF .i64 (Int.sub (wrapF .i64 (Int.sub x1 (1:Int))) x4)))]⟩)) (bb (ieq x2 (3:Int)) (some (.tuple ⟨[.int .i64 x4,(.int .i64 (wrapF .i64 (Int.sub (wrapF .i64 (Int.sub x1 (1:Int))) x3)))]⟩)) (bb (ieq x2 (4:Int)) (some (.tuple ⟨[.int .i64 x3,(.int .i64 (wrapF .i64 (Int.sub (wrapF .i64 (Int.sub x1 (1:Int))) x4)))]⟩)) (bb (ieq x2 (5:Int)) (some (.tuple ⟨[(.int .i64 (wrapF .i64 (Int.sub (wrapF .i64 (Int.sub x0 (1:Int))) x3))),.int .i64 x4]⟩)) (bb (ieq x2 (6:Int)) (some (.tuple ⟨[.int .i64 x4,.int .i64 x3]⟩)) (bb (ieq x2 (7:Int)) (some (.tuple ⟨[(.int .i64 (wrapF .i64 (Int.sub (wrapF .i64 (Int.sub x0 (1:Int))) x4))),(.int .i64 (wrapF .i64 (Int.sub (wrapF .i64 (Int.sub x1 (1:Int))) x3)))]⟩)) (some (.tuple ⟨[.int .i64 x3,.int .i64 x4]⟩)))))))))
def m93 (pu:PureF) (n:Nat) (args:LV):OV:=
 (ll args none fun a0 args=>(ll args none fun a1 args=>(ll args none fun a2 args=>(ll args none fun a3 args=>(ll args none fun a4 args=>(ll args (oo (toI .i64 a0) none fun x0=>(oo (toI .i64 a1) none fun x1=>(oo (toI .i64 a2) none fun x2=>(oo (toI .i64 a3) none fun x3=>(oo (toI .i64 a4) none fun x4=>(m93_ pu n x0 x1 x2 x3 x4)))))) fun _ _=>none))))))
theorem r93 {call:CallF} (pu:PureF) (n:Nat) (hcall:call = callP tabs isP pu (inl pu)) {args:LV} {v:Value} (hm:m93 pu n args = some v) (_:∀ x ∈ args,closed2 x = true):args.length≤67∧Run tt call 1 c93_42 (Fr.made 67 args) (pureHeap tabs) (Fin tt 1 [.tmp 10,.tmp 11] v):=by
 subst hcall
 unfold m93 at hm
 replace hm:=ll_uncons hm;obtain ⟨a0,args_0,rfl,hm⟩:=hm
 replace hm:=ll_uncons hm;obtain ⟨a1,args_1,rfl,hm⟩:=hm
 replace hm:=ll_uncons hm;obtain ⟨a2,args_2,rfl,hm⟩:=hm
 replace hm:=ll_uncons hm;obtain ⟨a3,args_3,rfl,hm⟩:=hm
 replace hm:=ll_uncons hm;obtain ⟨a4,args_4,rfl,hm⟩:=hm
 replace hm:=ll_end hm;obtain ⟨rfl,hm⟩:=hm
 replace hm:=inv_toI hm;obtain ⟨x0,rfl,hm⟩:=hm
 replace hm:=inv_toI hm;obtain ⟨x1,rfl,hm⟩:=hm
 replace hm:=inv_toI hm;obtain ⟨x2,rfl,hm⟩:=hm
 replace hm:=inv_toI hm;obtain ⟨x3,rfl,hm⟩:=hm
 replace hm:=inv_toI hm;obtain ⟨x4,rfl,hm⟩:=hm
 unfold m93_ at hm
 refine ⟨by simp,?_⟩
 refine .same (F':=(fr 67 [(0,zI x0),(1,zI x1),(2,zI x2),(3,zI x3),(4,zI x4)])) (H':=(hp 1 [(oT tab0)])) (by kernel_rfl) (by kernel_rfl) ?_
 refine .then (.rK ?_)
 refine .ghs (fr 67 [(0,zI x0),(1,zI x1),(2,zI x2),(3,zI x3),(4,zI x4)]) (hp 1 [(oT tab0)]) (.k0 [false] [] [0,1,2,3,4]) ?_
 refine .then ?_
 refine .then (.rK ?_)
 refine .ghs (fr 67 [(0,zI x0),(1,zI x1),(3,zI x3),(4,zI x4),(12,zI x2)]) (hp 1 [(oT tab0)]) (.k0 [false] [] [0,1,3,4,12]) ?_
 refine .block ?_
 refine .then (.rK ?_)
 refine .ghs (fr 67 [(0,zI x0),(1,zI x1),(3,zI x3),(4,zI x4),(12,zI x2),(13,(zB (ieq x2 (1:Int))))]) (hp 1 [(oT tab0)]) (.k0 [false] [] [0,1,3,4,12,13]) ?_
 replace hm:=bb_cases hm;rcases hm with ⟨h0,hm⟩ | ⟨h0,hm⟩
 ·refine .ifT (ieq x2 (1 : Int)) (by kernel_rfl) h0 ?_
  refine .then (.rK ?_)
  refine .ghs (fr 67 [(10,(zI (wrapF .i64 (Int.sub (wrapF .i64 (Int.sub x0 (1:Int))) x4)))),(11,zI x3)]) (hp 1 [(oT tab0)]) (.k0 [false] [] [10,11]) ?_
  refine .ret ?_
  exact fin_ret (.tuple ⟨[(zI (wrapF .i64 (Int.sub (wrapF .i64 (Int.sub x0 (1:Int))) x4))),zI x3]⟩) (by kernel_rfl) (by kernel_rfl) hm
 ·refine .ifF (ieq x2 (1 : Int)) (by kernel_rfl) h0 ?_
  refine .then (.rK ?_)
  refine .ghs (fr 67 [(0,zI x0),(1,zI x1),(3,zI x3),(4,zI x4),(12,zI x2),(20,(zB (ieq x2 (2:Int))))]) (hp 1 [(oT tab0)]) (.k0 [false] [] [0,1,3,4,12,20]) ?_
  replace hm:=bb_cases hm;rcases hm with ⟨h1,hm⟩ | ⟨h1,hm⟩
  ·refine .ifT (ieq x2 (2 : Int)) (by kernel_rfl) h1 ?_
   refine .then (.rK ?_)
   refine .ghs (fr 67 [(10,(zI (wrapF .i64 (Int.sub (wrapF .i64 (Int.sub x0 (1:Int))) x3)))),(11,(zI (wrapF .i64 (Int.sub (wrapF .i64 (Int.sub x1 (1:Int))) x4))))]) (hp 1 [(oT tab0)]) (.k0 [false] [] [10,11]) ?_
   refine .ret ?_
   exact fin_ret (.tuple ⟨[(zI (wrapF .i64 (Int.sub (wrapF .i64 (Int.sub x0 (1:Int))) x3))),(zI (wrapF .i64 (Int.sub (wrapF .i64 (Int.sub x1 (1:Int))) x4)))]⟩) (by kernel_rfl) (by kernel_rfl) hm
  ·refine .ifF (ieq x2 (2 : Int)) (by kernel_rfl) h1 ?_
   refine .then (.rK ?_)
   refine .ghs (fr 67 [(0,zI x0),(1,zI x1),(3,zI x3),(4,zI x4),(12,zI x2),(30,(zB (ieq x2 (3:Int))))]) (hp 1 [(oT tab0)]) (.k0 [false] [] [0,1,3,4,12,30]) ?_
   replace hm:=bb_cases hm;rcases hm with ⟨h2,hm⟩ | ⟨h2,hm⟩
   ·refine .ifT (ieq x2 (3 : Int)) (by kernel_rfl) h2 ?_
    refine .then (.rK ?_)
    refine .ghs (fr 67 [(10,zI x4),(11,(zI (wrapF .i64 (Int.sub (wrapF .i64 (Int.sub x1 (1:Int))) x3))))]) (hp 1 [(oT tab0)]) (.k0 [false] [] [10,11]) ?_
    refine .ret ?_
    exact fin_ret (.tuple ⟨[zI x4,(zI (wrapF .i64 (Int.sub (wrapF .i64 (Int.sub x1 (1:Int))) x3)))]⟩) (by kernel_rfl) (by kernel_rfl) hm
   ·refine .ifF (ieq x2 (3 : Int)) (by kernel_rfl) h2 ?_
    refine .then (.rK ?_)
    refine .ghs (fr 67 [(0,zI x0),(1,zI x1),(3,zI x3),(4,zI x4),(12,zI x2),(37,(zB (ieq x2 (4:Int))))]) (hp 1 [(oT tab0)]) (.k0 [false] [] [0,1,3,4,12,37]) ?_
    replace hm:=bb_cases hm;rcases hm with ⟨h3,hm⟩ | ⟨h3,hm⟩
    ·refine .ifT (ieq x2 (4 : Int)) (by kernel_rfl) h3 ?_
     refine .then (.rK ?_)
     refine .ghs (fr 67 [(10,zI x3),(11,(zI (wrapF .i64 (Int.sub (wrapF .i64 (Int.sub x1 (1:Int))) x4))))]) (hp 1 [(oT tab0)]) (.k0 [false] [] [10,11]) ?_
     refine .ret ?_
     exact fin_ret (.tuple ⟨[zI x3,(zI (wrapF .i64 (Int.sub (wrapF .i64 (Int.sub x1 (1:Int))) x4)))]⟩) (by kernel_rfl) (by kernel_rfl) hm
    ·refine .ifF (ieq x2 (4 : Int)) (by kernel_rfl) h3 ?_
     refine .then (.rK ?_)
     refine .ghs (fr 67 [(0,zI x0),(1,zI x1),(3,zI x3),(4,zI x4),(12,zI x2),(44,(zB (ieq x2 (5:Int))))]) (hp 1 [(oT tab0)]) (.k0 [false] [] [0,1,3,4,12,44]) ?_
     replace hm:=bb_cases hm;rcases hm with ⟨h4,hm⟩ | ⟨h4,hm⟩
     ·refine .ifT (ieq x2 (5 : Int)) (by kernel_rfl) h4 ?_
      refine .then (.rK ?_)
      refine .ghs (fr 67 [(10,(zI (wrapF .i64 (Int.sub (wrapF .i64 (Int.sub x0 (1:Int))) x3)))),(11,zI x4)]) (hp 1 [(oT tab0)]) (.k0 [false] [] [10,11]) ?_
      refine .ret ?_
      exact fin_ret (.tuple ⟨[(zI (wrapF .i64 (Int.sub (wrapF .i64 (Int.sub x0 (1:Int))) x3))),zI x4]⟩) (by kernel_rfl) (by kernel_rfl) hm
     ·refine .ifF (ieq x2 (5 : Int)) (by kernel_rfl) h4 ?_
      refine .then (.rK ?_)
      refine .ghs (fr 67 [(0,zI x0),(1,zI x1),(3,zI x3),(4,zI x4),(12,zI x2),(51,(zB (ieq x2 (6:Int))))]) (hp 1 [(oT tab0)]) (.k0 [false] [] [0,1,3,4,12,51]) ?_
      replace hm:=bb_cases hm;rcases hm with ⟨h5,hm⟩ | ⟨h5,hm⟩
      ·refine .ifT (ieq x2 (6 : Int)) (by kernel_rfl) h5 ?_
       refine .then (.rK ?_)
       refine .ghs (fr 67 [(10,zI x4),(11,zI x3)]) (hp 1 [(oT tab0)]) (.k0 [false] [] [10,11]) ?_
       refine .ret ?_
       exact fin_ret (.tuple ⟨[zI x4,zI x3]⟩) (by kernel_rfl) (by kernel_rfl) hm
      ·refine .ifF (ieq x2 (6 : Int)) (by kernel_rfl) h5 ?_
       refine .then (.rK ?_)
       refine .ghs (fr 67 [(0,zI x0),(1,zI x1),(3,zI x3),(4,zI x4),(55,(zB (ieq x2 (7:Int))))]) (hp 1 [(oT tab0)]) (.k0 [false] [] [0,1,3,4,55]) ?_
       replace hm:=bb_cases hm;rcases hm with ⟨h6,hm⟩ | ⟨h6,hm⟩
       ·refine .ifT (ieq x2 (7 : Int)) (by kernel_rfl) h6 ?_
        refine .then (.rK ?_)
        refine .ghs (fr 67 [(10,(zI (wrapF .i64 (Int.sub (wrapF .i64 (Int.sub x0 (1:Int))) x4)))),(11,(zI (wrapF .i64 (Int.sub (wrapF .i64 (Int.sub x1 (1:Int))) x3))))]) (hp 1 [(oT tab0)]) (.k0 [false] [] [10,11]) ?_
        refine .ret ?_
        exact fin_ret (.tuple ⟨[(zI (wrapF .i64 (Int.sub (wrapF .i64 (Int.sub x0 (1:Int))) x4))),(zI (wrapF .i64 (Int.sub (wrapF .i64 (Int.sub x1 (1:Int))) x3)))]⟩) (by kernel_rfl) (by kernel_rfl) hm
       ·refine .ifF (ieq x2 (7 : Int)) (by kernel_rfl) h6 ?_
        refine .skip ?_
        refine .ghs (fr 67 [(3,zI x3),(4,zI x4)]) (hp 1 [(oT tab0)]) (.k0 [false] [] [3,4]) ?_
        refine .then (.rK ?_)
        refine .ghs (fr 67 [(10,zI x3),(11,zI x4)]) (hp 1 [(oT tab0)]) (.k0 [false] [] [10,11]) ?_
        refine .ret ?_
        exact fin_ret (.tuple ⟨[zI x3,zI x4]⟩) (by kernel_rfl) (by kernel_rfl) hm
def m10480_0 (pu:PureF) (n n0 c0:Nat) (q0:LV):OV:=
 (bb (allL closed1 q0) (bb (an (Nat.ble (0 + n0 * 1) (len q0)) (allL closed1 (takeL (n0 * 1) (dropL 0 q0)))) (some (.tuple ⟨[(Sl.v 1 (Sl.mk n0 0 (takeL (n0 * 1) (dropL 0 q0))))]⟩)) none) none)
def b10480_1 (pu:PureF) (n:Nat) (ih0:Sl→Int→Nat→Nat→Int→Int→Int→Int→Sl→LV→OV) (s0:Sl) (z0:Int) (n0 c0:Nat) (z1 z2 z3 z4:Int) (s1:Sl) (q0:LV):OV:=
 (bb (allL closed1 q0) (bb (ilt z1 (Int.ofNat (Sl.n s0))) (oo (pu 81 [(.agg ⟨[.int .i64 z2,.int .i64 z3,.int .i64 z4,Sl.v 1 s1]⟩),.int .i64 z0,.int .i64 z1]) none fun v0=>(oo (toI .i64 v0) none fun x0=>(oo (toN x0) none fun k1=>(bb (an (Nat.blt k1 (Sl.n s0)) true) (oo (nthL (Sl.cs s0) (k1 * 1)) none fun v1=>(oo (toI .i64 v1) none fun x1=>(bb (growC 1 8 n0 c0 1 q0) (bb (allL closed1 (appL (dropL 0 q0) [.int .i64 x1])) (ih0 s0 z0 (n0 + 1) (2 * (n0 + 1) + bb false 1 0) (wrapF .i64 (Int.add z1 (1:Int))) z2 z3 z4 s1 (appL (dropL 0 q0) [.int .i64 x1])) none) none))) none)))) (m10480_0 pu n n0 c0 q0)) none)
def l10480_1 (pu:PureF) (n w:Nat):Sl→Int→Nat→Nat→Int→Int→Int→Int→Sl→LV→OV:=
 Nat.rec (motive:=fun _=>Sl→Int→Nat→Nat→Int→Int→Int→Int→Sl→LV→OV) (fun _ _ _ _ _ _ _ _ _ _=>none) (fun _ ih0=>b10480_1 pu n ih0) w
def m10480_ (pu:PureF) (n:Nat) (z0 z1 z2:Int) (s0 s1:Sl) (z3:Int):OV:=
 (l10480_1 pu n n s1 z3 0 0 (0:Int) z0 z1 z2 s0 ([]:LV))
def m10480 (pu:PureF) (n:Nat) (args:LV):OV:=
 (ll args none fun a0 args=>(ll args none fun a1 args=>(ll args none fun a2 args=>(ll args (oo (vAgg a0) none fun l0=>(ll l0 none fun v0 l0=>(ll l0 none fun v1 l0=>(ll l0 none fun v2 l0=>(ll l0 none fun v3 l0=>(ll l0 (oo (toI .i64 v0) none fun x0=>(oo (toI .i64 v1) none fun x1=>(oo (toI .i64 v2) none fun x2=>(oo (toSl 1 v3) none fun s0=>(oo (toSl 1 a1) none fun s1=>(oo (toI .i64 a2) none fun x3=>(m10480_ pu n x0 x1 x2 s0 s1 x3))))))) fun _ _=>none)))))) fun _ _=>none))))
theorem w10480_0 (pu:PureF) (n n0 c0:Nat) (q0:LV) {v:Value} (hm:m10480_0 pu n n0 c0 q0 = some v):Run tt (callP tabs isP pu (inl pu)) 1 c48_15 (fr 26 [(7,sc 1 0 1 n0 c0)]) (hT 2 [oC q0]) (FinO tt 1 0 [.tmp 6] v):=by
 unfold m10480_0 at hm
 refine .then (.rK ?_)
 replace hm:=bb_inv hm;obtain ⟨h0,hm⟩:=hm
 refine .ghs (fr 26 [(6,sc 1 0 1 n0 c0)]) (hT 2 [oC q0]) (.k [1] [false] [.tmp 6 false] [6] ⟨trF h0,trivial⟩) ?_
 replace hm:=bb_inv hm;obtain ⟨h1,hm⟩:=hm
 refine .ghs (fr 26 [(6,(Sl.v 1 (Sl.mk n0 0 (takeL (n0 * 1) (dropL 0 q0)))))]) (hp 1 [(oT tab0)]) (.freezeC 1 6 1 (an (Nat.ble (0 + n0 * 1) (len q0)) (allL closed1 (takeL (n0 * 1) (dropL 0 q0)))) (F1:=(Fr.puts (fr 26 [(6,sc 1 0 1 n0 c0)]) [(6,(Sl.v 1 (Sl.mk n0 0 (takeL (n0 * 1) (dropL 0 q0)))))])) (H1:=(hT 2 [.dead])) (by kernel_rfl) (by kernel_rfl) h1 (.k0 [false] [] [6])) ?_
 refine .ret ?_
 exact finO_ret (Sl.v 1 (Sl.mk n0 0 (takeL (n0 * 1) (dropL 0 q0)))) [] (by kernel_rfl) hm (Nat.le_of_ble_eq_true rfl) ooAt_nil
theorem q10480 (pu:PureF) (n:Nat) (z0 z1 z2:Int) (s0 s1:Sl) (z3:Int) {v:Value} (hm:m10480_ pu n z0 z1 z2 s0 s1 z3 = some v):Run tt (callP tabs isP pu (inl pu)) 1 c48_18 (fr 26 [(0,(.agg ⟨[zI z0,zI z1,zI z2,Sl.v 1 s0]⟩)),(1,Sl.v 1 s1),(2,zI z3)]) (hp 1 [(oT tab0)]) (FinO tt 1 0 [.tmp 6] v):=by
 unfold m10480_ at hm
 refine .then (.rK ?_)
 refine .ghs (fr 26 [(1,Sl.v 1 s1),(2,zI z3),(3,pt 1 0)]) (hT 2 [(oC [zI z0,zI z1,zI z2,Sl.v 1 s0])]) (.k0 [false] [.tmp 3 false] [1,2,3]) ?_
 refine .then (.rK ?_)
 refine .ghs (fr 26 [(1,Sl.v 1 s1),(2,zI z3),(3,pt 1 0),(7,(.slice none 0 0))]) (hT 2 [(oC [zI z0,zI z1,zI z2,Sl.v 1 s0])]) (.k0 [false] [.tmp 3 false] [1,2,3,7]) ?_
 refine .join (v:=v) (fun y:Nat×Nat×LV=>((fr 26 [(7,(sc 1 0 1 y.1 y.2.1))]),(hT 2 [(oC y.2.2)]))) (fun y=>m10480_0 pu n y.1 y.2.1 y.2.2) ?_ ?_
 ·rintro ⟨n0, c0, q0⟩ hm
  exact w10480_0 pu n n0 c0 q0 hm
 ·refine .then (.rK ?_)
  refine .ghs (fr 26 [(1,Sl.v 1 s1),(2,zI z3),(3,pt 1 0),(7,(.slice none 0 0)),(8,(zI (0:Int)))]) (hT 2 [(oC [zI z0,zI z1,zI z2,Sl.v 1 s0])]) (.k0 [false] [.tmp 3 false] [1,2,3,7,8]) ?_
  refine .block ?_
  refine .loopM (v:=v) (fun y:Sl×Int×Nat×Nat×Int×Int×Int×Int×Sl×LV=>((fr 26 [(1,(Sl.v 1 y.1)),(2,(zI y.2.1)),(3,pt 1 0),(7,(sc 2 0 1 y.2.2.1 y.2.2.2.1)),(8,(zI y.2.2.2.2.1))]),(hT 3 [(oC [(zI y.2.2.2.2.2.1),(zI y.2.2.2.2.2.2.1),(zI y.2.2.2.2.2.2.2.1),(Sl.v 1 y.2.2.2.2.2.2.2.2.1)]),(oC y.2.2.2.2.2.2.2.2.2)]))) (fun w y=>l10480_1 pu n w y.1 y.2.1 y.2.2.1 y.2.2.2.1 y.2.2.2.2.1 y.2.2.2.2.2.1 y.2.2.2.2.2.2.1 y.2.2.2.2.2.2.2.1 y.2.2.2.2.2.2.2.2.1 y.2.2.2.2.2.2.2.2.2) n ⟨(s1,z3,0,0,(0:Int),z0,z1,z2,s0,([]:LV)),hm,(.thaw 7 1 (by kernel_rfl) (.k0 [false] [.tmp 3 false,.tmp 7 false] [1,2,3,7,8]))⟩ (fun _=>rfl) ?_
  rintro w0 ⟨s2,z4,n1,c1,z5,z6,z7,z8,s3,q1⟩ hm
  replace hm:b10480_1 pu n (l10480_1 pu n w0) s2 z4 n1 c1 z5 z6 z7 z8 s3 q1 = some v:=hm
  unfold b10480_1 at hm
  refine .then ?_
  refine .then (.rK ?_)
  replace hm:=bb_inv hm;obtain ⟨h0,hm⟩:=hm
  refine .ghs (fr 26 [(1,Sl.v 1 s2),(2,zI z4),(3,pt 1 0),(7,sc 2 0 1 n1 c1),(8,zI z5),(12,(zB (ilt z5 (Int.ofNat (Sl.n s2)))))]) (hT 3 [(oC [zI z6,zI z7,zI z8,Sl.v 1 s3]),oC q1]) (.k [2] [false] [.tmp 3 false,.tmp 7 false] [1,2,3,7,8,12] ⟨trF h0,trivial⟩) ?_
  replace hm:=bb_cases hm;rcases hm with ⟨h1,hm⟩ | ⟨h1,hm⟩
  ·refine .ifT (ilt z5 (Int.ofNat (Sl.n s2))) (by kernel_rfl) h1 ?_
   refine .skip ?_
   refine .ghs (fr 26 [(1,Sl.v 1 s2),(2,zI z4),(3,pt 1 0),(7,sc 2 0 1 n1 c1),(8,zI z5)]) (hT 3 [(oC [zI z6,zI z7,zI z8,Sl.v 1 s3]),oC q1]) (.k [2] [false] [.tmp 3 false,.tmp 7 false] [1,2,3,7,8] ⟨trF h0,trivial⟩) ?_
   refine .then ?_
   refine .block ?_
   replace hm:=oo_inv hm;obtain ⟨v0,h2,hm⟩:=hm
   replace hm:=inv_toI hm;obtain ⟨x0,rfl,hm⟩:=hm
   replace hm:=oo_inv hm;obtain ⟨k1,h3,hm⟩:=hm
   obtain rfl:=toN_some h3
   replace hm:=bb_inv hm;obtain ⟨h4,hm⟩:=hm
   replace hm:=oo_inv hm;obtain ⟨v1,h5,hm⟩:=hm
   replace hm:=inv_toI hm;obtain ⟨x1,rfl,hm⟩:=hm
   replace hm:=bb_inv hm;obtain ⟨h6,hm⟩:=hm
   refine .reg (eC 5 ((oo (pu 81 [(.agg ⟨[zI z6,zI z7,zI z8,Sl.v 1 s3]⟩),zI z4,zI z5]) none fun v=>some (v,(hT 3 [(oC [zI z6,zI z7,zI z8,Sl.v 1 s3]),oC q1])))) (call_eq h2) (eD (keep (hT 3 [(oC [zI z6,zI z7,zI z8,Sl.v 1 s3]),oC q1]) (bb (an (Nat.blt k1 (Sl.n s2)) true) (some (fpV (k1 * 1) (Sl.cs s2))) none)) (keep_bb h4) (eD (keep (hT 3 [(oC [zI z6,zI z7,zI z8,Sl.v 1 s3]),oC q1]) (nthL (Sl.cs s2) (k1 * 1))) (keep_eq h5) (eC 1 (growD 1 8 n1 c1 1 2 q1 [zI x1] [] (hT 4 [(oC [zI z6,zI z7,zI z8,Sl.v 1 s3]),oC q1,(oC [zI x1])])) (growD_eq h6) (eE))))) ?_
   replace hm:=bb_inv hm;obtain ⟨h7,hm⟩:=hm
   refine .ghs (fr 26 [(1,Sl.v 1 s2),(2,zI z4),(3,pt 1 0),(7,(sc 2 0 1 (n1 + 1) (d2 (n1 + 1)))),(8,zI z5)]) (hT 3 [(oC [zI z6,zI z7,zI z8,Sl.v 1 s3]),(oC (appL (dropL 0 q1) [zI x1]))]) (.k [4] [false] [.tmp 3 false,.tmp 7 false] [1,2,3,7,8] ⟨trF h7,trivial⟩) ?_
   refine .rK ?_
   exact ⟨(s2,z4,(n1 + 1),(d2 (n1 + 1)),(wrapF .i64 (Int.add z5 (1:Int))),z6,z7,z8,s3,(appL (dropL 0 q1) [zI x1])),hm,(.k [2] [false] [.tmp 3 false,.tmp 7 false] [1,2,3,7,8] ⟨trF h7,trivial⟩)⟩
  ·refine .ifF (ilt z5 (Int.ofNat (Sl.n s2))) (by kernel_rfl) h1 ?_
   refine .exit ?_
   exact ⟨(n1,c1,q1),hm,(.k [2] [false] [.tmp 7 false] [7] ⟨trF h0,trivial⟩)⟩
theorem r10480 {call:CallF} (pu:PureF) (n:Nat) (hcall:call = callP tabs isP pu (inl pu)) {args:LV} {os:List AObj} {z:Value} (ha:args.length = 3) (hk:os.length = 0) (hpl:∀ o ∈ os,plainO o) (hm:m10480 pu n (args ++ os.map encO) = some z):args.length≤26∧Run tt call (tabs.length + 0) c48_18 (Fr.made 26 args) (subHeap tabs os) (FinO tt tabs.length 0 [.tmp 6] z):=by
 subst hcall
 have hq:=len_cons ha;clear ha;obtain ⟨a0,args,rfl,ha⟩:=hq
 have hq:=len_cons ha;clear ha;obtain ⟨a1,args,rfl,ha⟩:=hq
 have hq:=len_cons ha;clear ha;obtain ⟨a2,args,rfl,ha⟩:=hq
 obtain rfl:=len_nil ha
 obtain rfl:=len_nil hk
 replace hm:m10480 pu n [a0,a1,a2] = some z:=hm
 unfold m10480 at hm
 replace hm:(oo (vAgg a0) none fun l0=>(ll l0 none fun v0 l0=>(ll l0 none fun v1 l0=>(ll l0 none fun v2 l0=>(ll l0 none fun v3 l0=>(ll l0 (oo (toI .i64 v0) none fun x0=>(oo (toI .i64 v1) none fun x1=>(oo (toI .i64 v2) none fun x2=>(oo (toSl 1 v3) none fun s0=>(oo (toSl 1 a1) none fun s1=>(oo (toI .i64 a2) none fun x3=>(m10480_ pu n x0 x1 x2 s0 s1 x3))))))) fun _ _=>none)))))) = some z:=hm
 replace hm:=inv_vAgg hm;obtain ⟨l0,rfl,hm⟩:=hm
 replace hm:=ll_uncons hm;obtain ⟨v0,l600_0,rfl,hm⟩:=hm
 replace hm:=ll_uncons hm;obtain ⟨v1,l600_1,rfl,hm⟩:=hm
 replace hm:=ll_uncons hm;obtain ⟨v2,l600_2,rfl,hm⟩:=hm
 replace hm:=ll_uncons hm;obtain ⟨v3,l600_3,rfl,hm⟩:=hm
 replace hm:=ll_end hm;obtain ⟨rfl,hm⟩:=hm
 replace hm:=inv_toI hm;obtain ⟨x0,rfl,hm⟩:=hm
 replace hm:=inv_toI hm;obtain ⟨x1,rfl,hm⟩:=hm
 replace hm:=inv_toI hm;obtain ⟨x2,rfl,hm⟩:=hm
 replace hm:=inv_toSl hm;obtain ⟨s0,rfl,hm⟩:=hm
 replace hm:=inv_toSl hm;obtain ⟨s1,rfl,hm⟩:=hm
 replace hm:=inv_toI hm;obtain ⟨x3,rfl,hm⟩:=hm
 refine ⟨by simp,?_⟩
 exact .same (F':=(fr 26 [(0,(.agg ⟨[zI x0,zI x1,zI x2,Sl.v 1 s0]⟩)),(1,Sl.v 1 s1),(2,zI x3)])) (H':=(hp 1 [(oT tab0)])) (by kernel_rfl) (by kernel_rfl) (q10480 pu n x0 x1 x2 s0 s1 x3 hm)
end
end Go.BkXM
set_option maxRecDepth 100000
set_option maxHeartbeats 20000000
set_option linter.unusedVariables false
namespace Go.BkXM
open Go.Sp Go.BkX
noncomputable section
def m10481_0 (pu:PureF) (n n0 c0:Nat) (q0:LV) (q1:LV):OV:=
 (bb (allL closed1 q0) (bb (allL closed1 q1) (bb (an (Nat.ble (0 + n0 * 1) (len q1)) (allL closed1 (takeL (n0 * 1) (dropL 0 q1)))) (some (.tuple ⟨[(Sl.v 1 (Sl.mk n0 0 (takeL (n0 * 1) (dropL 0 q1)))),(.agg ⟨q0⟩)]⟩)) none) none) none)
def b10481_1 (pu:PureF) (n:Nat) (ih0:Nat→Nat→Int→Nat→Nat→Int→LV→Int→Int→Int→Sl→LV→OV) (n0 c0:Nat) (z0:Int) (n1 c1:Nat) (z1:Int) (q0:LV) (z2 z3 z4:Int) (s0:Sl) (q1:LV):OV:=
 (bb (allL closed1 q0) (bb (allL closed1 q1) (bb (ilt z1 (Int.ofNat n0)) (oo (pu 81 [(.agg ⟨[.int .i64 z2,.int .i64 z3,.int .i64 z4,Sl.v 1 s0]⟩),.int .i64 z0,.int .i64 z1]) none fun v0=>(oo (toI .i64 v0) none fun x0=>(oo (toN x0) none fun k1=>(bb (an (Nat.blt k1 n0) true) (oo (nthL q0 (0 + k1 * 1)) none fun v1=>(oo (toI .i64 v1) none fun x1=>(bb (growC 1 8 n1 c1 1 q1) (bb (allL closed1 (appL (dropL 0 q1) [.int .i64 x1])) (ih0 n0 c0 z0 (n1 + 1) (2 * (n1 + 1) + bb false 1 0) (wrapF .i64 (Int.add z1 (1:Int))) q0 z2 z3 z4 s0 (appL (dropL 0 q1) [.int .i64 x1])) none) none))) none)))) (m10481_0 pu n n1 c1 q0 q1)) none) none)
def l10481_1 (pu:PureF) (n w:Nat):Nat→Nat→Int→Nat→Nat→Int→LV→Int→Int→Int→Sl→LV→OV:=
 Nat.rec (motive:=fun _=>Nat→Nat→Int→Nat→Nat→Int→LV→Int→Int→Int→Sl→LV→OV) (fun _ _ _ _ _ _ _ _ _ _ _ _=>none) (fun _ ih0=>b10481_1 pu n ih0) w
def m10481_ (pu:PureF) (n:Nat) (z0 z1 z2:Int) (s0:Sl) (n0 c0:Nat) (z3 z4 z5 z6 z7:Int):OV:=
 (l10481_1 pu n n n0 c0 z3 0 0 (0:Int) ([.int .i64 z4,.int .i64 z5,.int .i64 z6,.int .i64 z7]:LV) z0 z1 z2 s0 ([]:LV))
def m10481 (pu:PureF) (n:Nat) (args:LV):OV:=
 (ll args none fun a0 args=>(ll args none fun a1 args=>(ll args none fun a2 args=>(ll args none fun o0 args=>(ll args (oo (vAgg a0) none fun l0=>(ll l0 none fun v0 l0=>(ll l0 none fun v1 l0=>(ll l0 none fun v2 l0=>(ll l0 none fun v3 l0=>(ll l0 (oo (toI .i64 v0) none fun x0=>(oo (toI .i64 v1) none fun x1=>(oo (toI .i64 v2) none fun x2=>(oo (toSl 1 v3) none fun s0=>(oo (toSc 1 0 1 a1) none fun y0=>(oo (toI .i64 a2) none fun x3=>(oo (vAgg o0) none fun l1=>(ll l1 none fun v4 l1=>(ll l1 none fun v5 l1=>(ll l1 none fun v6 l1=>(ll l1 none fun v7 l1=>(ll l1 (oo (toI .i64 v4) none fun x4=>(oo (toI .i64 v5) none fun x5=>(oo (toI .i64 v6) none fun x6=>(oo (toI .i64 v7) none fun x7=>(m10481_ pu n x0 x1 x2 s0 (NC.n y0) (NC.c y0) x3 x4 x5 x6 x7))))) fun _ _=>none)))))))))))) fun _ _=>none)))))) fun _ _=>none)))))
theorem w10481_0 (pu:PureF) (n n0 c0:Nat) (q0:LV) (q1:LV) {v:Value} (hm:m10481_0 pu n n0 c0 q0 q1 = some v):Run tt (callP tabs isP pu (inl pu)) 2 c48_15 (fr 26 [(7,sc 2 0 1 n0 c0)]) (hT 3 [oC q0,oC q1]) (FinO tt 1 1 [.tmp 6] v):=by
 unfold m10481_0 at hm
 refine .then (.rK ?_)
 replace hm:=bb_inv hm;obtain ⟨h0,hm⟩:=hm
 replace hm:=bb_inv hm;obtain ⟨h1,hm⟩:=hm
 refine .ghs (fr 26 [(6,sc 2 0 1 n0 c0)]) (hT 3 [oC q0,oC q1]) (.k [1,2] [false,false] [.tmp 6 false] [6] ⟨trF h0,trF h1,trivial⟩) ?_
 replace hm:=bb_inv hm;obtain ⟨h2,hm⟩:=hm
 refine .ghs (fr 26 [(6,(Sl.v 1 (Sl.mk n0 0 (takeL (n0 * 1) (dropL 0 q1)))))]) (hT 2 [oC q0]) (.freezeC 2 6 1 (an (Nat.ble (0 + n0 * 1) (len q1)) (allL closed1 (takeL (n0 * 1) (dropL 0 q1)))) (F1:=(Fr.puts (fr 26 [(6,sc 2 0 1 n0 c0)]) [(6,(Sl.v 1 (Sl.mk n0 0 (takeL (n0 * 1) (dropL 0 q1)))))])) (H1:=(hT 3 [oC q0,.dead])) (by kernel_rfl) (by kernel_rfl) h2 (.k [1] [false,false] [] [6] ⟨trF h0,trivial⟩)) ?_
 refine .ret ?_
 exact finO_ret (Sl.v 1 (Sl.mk n0 0 (takeL (n0 * 1) (dropL 0 q1)))) [oC q0] (by kernel_rfl) hm (Nat.le_of_ble_eq_true rfl) (ooAt_cons (pO_c _) ooAt_nil)
theorem q10481 (pu:PureF) (n:Nat) (z0 z1 z2:Int) (s0:Sl) (n0 c0:Nat) (z3 z4 z5 z6 z7:Int) {v:Value} (hm:m10481_ pu n z0 z1 z2 s0 n0 c0 z3 z4 z5 z6 z7 = some v):Run tt (callP tabs isP pu (inl pu)) 2 c48_18 (fr 26 [(0,(.agg ⟨[zI z0,zI z1,zI z2,Sl.v 1 s0]⟩)),(1,sc 1 0 1 n0 c0),(2,zI z3)]) (hT 2 [(oC [zI z4,zI z5,zI z6,zI z7])]) (FinO tt 1 1 [.tmp 6] v):=by
 unfold m10481_ at hm
 refine .then (.rK ?_)
 refine .ghs (fr 26 [(1,sc 1 0 1 n0 c0),(2,zI z3),(3,(pt 2 0))]) (hT 3 [(oC [zI z4,zI z5,zI z6,zI z7]),(oC [zI z0,zI z1,zI z2,Sl.v 1 s0])]) (.k0 [false,false] [.tmp 3 false] [1,2,3]) ?_
 refine .then (.rK ?_)
 refine .ghs (fr 26 [(1,sc 1 0 1 n0 c0),(2,zI z3),(3,(pt 2 0)),(7,(.slice none 0 0))]) (hT 3 [(oC [zI z4,zI z5,zI z6,zI z7]),(oC [zI z0,zI z1,zI z2,Sl.v 1 s0])]) (.k0 [false,false] [.tmp 3 false] [1,2,3,7]) ?_
 refine .join (v:=v) (fun y:Nat×Nat×LV×LV=>((fr 26 [(7,(sc 2 0 1 y.1 y.2.1))]),(hT 3 [(oC y.2.2.1),(oC y.2.2.2)]))) (fun y=>m10481_0 pu n y.1 y.2.1 y.2.2.1 y.2.2.2) ?_ ?_
 ·rintro ⟨n1, c1, q0, q1⟩ hm
  exact w10481_0 pu n n1 c1 q0 q1 hm
 ·refine .then (.rK ?_)
  refine .ghs (fr 26 [(1,sc 1 0 1 n0 c0),(2,zI z3),(3,(pt 2 0)),(7,(.slice none 0 0)),(8,(zI (0:Int)))]) (hT 3 [(oC [zI z4,zI z5,zI z6,zI z7]),(oC [zI z0,zI z1,zI z2,Sl.v 1 s0])]) (.k0 [false,false] [.tmp 3 false] [1,2,3,7,8]) ?_
  refine .block ?_
  refine .loopM (v:=v) (fun y:Nat×Nat×Int×Nat×Nat×Int×LV×Int×Int×Int×Sl×LV=>((fr 26 [(1,(sc 1 0 1 y.1 y.2.1)),(2,(zI y.2.2.1)),(3,(pt 2 0)),(7,(sc 3 0 1 y.2.2.2.1 y.2.2.2.2.1)),(8,(zI y.2.2.2.2.2.1))]),(hT 4 [(oC y.2.2.2.2.2.2.1),(oC [(zI y.2.2.2.2.2.2.2.1),(zI y.2.2.2.2.2.2.2.2.1),(zI y.2.2.2.2.2.2.2.2.2.1),(Sl.v 1 y.2.2.2.2.2.2.2.2.2.2.1)]),(oC y.2.2.2.2.2.2.2.2.2.2.2)]))) (fun w y=>l10481_1 pu n w y.1 y.2.1 y.2.2.1 y.2.2.2.1 y.2.2.2.2.1 y.2.2.2.2.2.1 y.2.2.2.2.2.2.1 y.2.2.2.2.2.2.2.1 y.2.2.2.2.2.2.2.2.1 y.2.2.2.2.2.2.2.2.2.1 y.2.2.2.2.2.2.2.2.2.2.1 y.2.2.2.2.2.2.2.2.2.2.2) n ⟨(n0,c0,z3,0,0,(0:Int),([zI z4,zI z5,zI z6,zI z7]:LV),z0,z1,z2,s0,([]:LV)),hm,(.thaw 7 1 (by kernel_rfl) (.k0 [false,false] [.tmp 3 false,.tmp 7 false] [1,2,3,7,8]))⟩ (fun _=>rfl) ?_
  rintro w0 ⟨n2,c2,z8,n3,c4,z9,q2,z10,z11,z12,s1,q3⟩ hm
  replace hm:b10481_1 pu n (l10481_1 pu n w0) n2 c2 z8 n3 c4 z9 q2 z10 z11 z12 s1 q3 = some v:=hm
  unfold b10481_1 at hm
  refine .then ?_
  refine .then (.rK ?_)
  replace hm:=bb_inv hm;obtain ⟨h0,hm⟩:=hm
  replace hm:=bb_inv hm;obtain ⟨h1,hm⟩:=hm
  refine .ghs (fr 26 [(1,sc 1 0 1 n2 c2),(2,zI z8),(3,(pt 2 0)),(7,sc 3 0 1 n3 c4),(8,zI z9),(12,(zB (ilt z9 (Int.ofNat n2))))]) (hT 4 [oC q2,(oC [zI z10,zI z11,zI z12,Sl.v 1 s1]),oC q3]) (.k [1,3] [false,false] [.tmp 3 false,.tmp 7 false] [1,2,3,7,8,12] ⟨trF h0,trF h1,trivial⟩) ?_
  replace hm:=bb_cases hm;rcases hm with ⟨h2,hm⟩ | ⟨h2,hm⟩
  ·refine .ifT (ilt z9 (Int.ofNat n2)) (by kernel_rfl) h2 ?_
   refine .skip ?_
   refine .ghs (fr 26 [(1,sc 1 0 1 n2 c2),(2,zI z8),(3,(pt 2 0)),(7,sc 3 0 1 n3 c4),(8,zI z9)]) (hT 4 [oC q2,(oC [zI z10,zI z11,zI z12,Sl.v 1 s1]),oC q3]) (.k [1,3] [false,false] [.tmp 3 false,.tmp 7 false] [1,2,3,7,8] ⟨trF h0,trF h1,trivial⟩) ?_
   refine .then ?_
   refine .block ?_
   replace hm:=oo_inv hm;obtain ⟨v0,h3,hm⟩:=hm
   replace hm:=inv_toI hm;obtain ⟨x0,rfl,hm⟩:=hm
   replace hm:=oo_inv hm;obtain ⟨k1,h4,hm⟩:=hm
   obtain rfl:=toN_some h4
   replace hm:=bb_inv hm;obtain ⟨h5,hm⟩:=hm
   replace hm:=oo_inv hm;obtain ⟨v1,h6,hm⟩:=hm
   replace hm:=inv_toI hm;obtain ⟨x1,rfl,hm⟩:=hm
   replace hm:=bb_inv hm;obtain ⟨h7,hm⟩:=hm
   refine .reg (eC 5 ((oo (pu 81 [(.agg ⟨[zI z10,zI z11,zI z12,Sl.v 1 s1]⟩),zI z8,zI z9]) none fun v=>some (v,(hT 4 [oC q2,(oC [zI z10,zI z11,zI z12,Sl.v 1 s1]),oC q3])))) (call_eq h3) (eD (keep (hT 4 [oC q2,(oC [zI z10,zI z11,zI z12,Sl.v 1 s1]),oC q3]) (bb (an (Nat.blt k1 n2) true) (some (.pointer (some ⟨1,(0 + k1 * 1),none⟩))) none)) (keep_bb h5) (eD (keep (hT 4 [oC q2,(oC [zI z10,zI z11,zI z12,Sl.v 1 s1]),oC q3]) (nthL q2 (0 + k1 * 1))) (keep_eq h6) (eC 1 (growD 1 8 n3 c4 1 3 q3 [zI x1] [] (hT 5 [oC q2,(oC [zI z10,zI z11,zI z12,Sl.v 1 s1]),oC q3,(oC [zI x1])])) (growD_eq h7) (eE))))) ?_
   replace hm:=bb_inv hm;obtain ⟨h8,hm⟩:=hm
   refine .ghs (fr 26 [(1,sc 1 0 1 n2 c2),(2,zI z8),(3,(pt 2 0)),(7,(sc 3 0 1 (n3 + 1) (d2 (n3 + 1)))),(8,zI z9)]) (hT 4 [oC q2,(oC [zI z10,zI z11,zI z12,Sl.v 1 s1]),(oC (appL (dropL 0 q3) [zI x1]))]) (.k [1,5] [false,false] [.tmp 3 false,.tmp 7 false] [1,2,3,7,8] ⟨trF h0,trF h8,trivial⟩) ?_
   refine .rK ?_
   exact ⟨(n2,c2,z8,(n3 + 1),(d2 (n3 + 1)),(wrapF .i64 (Int.add z9 (1:Int))),q2,z10,z11,z12,s1,(appL (dropL 0 q3) [zI x1])),hm,(.k [1,3] [false,false] [.tmp 3 false,.tmp 7 false] [1,2,3,7,8] ⟨trF h0,trF h8,trivial⟩)⟩
  ·refine .ifF (ilt z9 (Int.ofNat n2)) (by kernel_rfl) h2 ?_
   refine .exit ?_
   exact ⟨(n3,c4,q2,q3),hm,(.k [1,3] [false,false] [.tmp 7 false] [7] ⟨trF h0,trF h1,trivial⟩)⟩
theorem r10481 {call:CallF} (pu:PureF) (n:Nat) (hcall:call = callP tabs isP pu (inl pu)) {args:LV} {os:List AObj} {z:Value} (ha:args.length = 3) (hk:os.length = 1) (hpl:∀ o ∈ os,plainO o) (hm:m10481 pu n (args ++ os.map encO) = some z):args.length≤26∧Run tt call (tabs.length + 1) c48_18 (Fr.made 26 args) (subHeap tabs os) (FinO tt tabs.length 1 [.tmp 6] z):=by
 subst hcall
 have hq:=len_cons ha;clear ha;obtain ⟨a0,args,rfl,ha⟩:=hq
 have hq:=len_cons ha;clear ha;obtain ⟨a1,args,rfl,ha⟩:=hq
 have hq:=len_cons ha;clear ha;obtain ⟨a2,args,rfl,ha⟩:=hq
 obtain rfl:=len_nil ha
 have hq:=len_cons hk;clear hk;obtain ⟨b0,os,rfl,hk⟩:=hq
 have hp0:plainO b0:=hpl b0 (by simp)
 obtain rfl:=len_nil hk
 replace hm:m10481 pu n [a0,a1,a2,encO b0] = some z:=hm
 unfold m10481 at hm
 replace hm:(oo (vAgg a0) none fun l0=>(ll l0 none fun v0 l0=>(ll l0 none fun v1 l0=>(ll l0 none fun v2 l0=>(ll l0 none fun v3 l0=>(ll l0 (oo (toI .i64 v0) none fun x0=>(oo (toI .i64 v1) none fun x1=>(oo (toI .i64 v2) none fun x2=>(oo (toSl 1 v3) none fun s0=>(oo (toSc 1 0 1 a1) none fun y0=>(oo (toI .i64 a2) none fun x3=>(oo (vAgg (encO b0)) none fun l1=>(ll l1 none fun v4 l1=>(ll l1 none fun v5 l1=>(ll l1 none fun v6 l1=>(ll l1 none fun v7 l1=>(ll l1 (oo (toI .i64 v4) none fun x4=>(oo (toI .i64 v5) none fun x5=>(oo (toI .i64 v6) none fun x6=>(oo (toI .i64 v7) none fun x7=>(m10481_ pu n x0 x1 x2 s0 (NC.n y0) (NC.c y0) x3 x4 x5 x6 x7))))) fun _ _=>none)))))))))))) fun _ _=>none)))))) = some z:=hm
 replace hm:=inv_vAgg hm;obtain ⟨l0,rfl,hm⟩:=hm
 replace hm:=ll_uncons hm;obtain ⟨v0,l2409_0,rfl,hm⟩:=hm
 replace hm:=ll_uncons hm;obtain ⟨v1,l2409_1,rfl,hm⟩:=hm
 replace hm:=ll_uncons hm;obtain ⟨v2,l2409_2,rfl,hm⟩:=hm
 replace hm:=ll_uncons hm;obtain ⟨v3,l2409_3,rfl,hm⟩:=hm
 replace hm:=ll_end hm;obtain ⟨rfl,hm⟩:=hm
 replace hm:=inv_toI hm;obtain ⟨x0,rfl,hm⟩:=hm
 replace hm:=inv_toI hm;obtain ⟨x1,rfl,hm⟩:=hm
 replace hm:=inv_toI hm;obtain ⟨x2,rfl,hm⟩:=hm
 replace hm:=inv_toSl hm;obtain ⟨s0,rfl,hm⟩:=hm
 replace hm:=oo_inv hm;obtain ⟨y0,h0,hm⟩:=hm
 obtain rfl:=toSc_some h0
 replace hm:=inv_toI hm;obtain ⟨x3,rfl,hm⟩:=hm
 replace hm:=oo_inv hm;obtain ⟨l1,h1,hm⟩:=hm
 obtain rfl:=vAgg_enc hp0 h1
 replace hm:=ll_uncons hm;obtain ⟨v4,l2427_0,rfl,hm⟩:=hm
 replace hm:=ll_uncons hm;obtain ⟨v5,l2427_1,rfl,hm⟩:=hm
 replace hm:=ll_uncons hm;obtain ⟨v6,l2427_2,rfl,hm⟩:=hm
 replace hm:=ll_uncons hm;obtain ⟨v7,l2427_3,rfl,hm⟩:=hm
 replace hm:=ll_end hm;obtain ⟨rfl,hm⟩:=hm
 replace hm:=inv_toI hm;obtain ⟨x4,rfl,hm⟩:=hm
 replace hm:=inv_toI hm;obtain ⟨x5,rfl,hm⟩:=hm
 replace hm:=inv_toI hm;obtain ⟨x6,rfl,hm⟩:=hm
 replace hm:=inv_toI hm;obtain ⟨x7,rfl,hm⟩:=hm
 refine ⟨by simp,?_⟩
 exact .same (F':=(fr 26 [(0,(.agg ⟨[zI x0,zI x1,zI x2,Sl.v 1 s0]⟩)),(1,(sc 1 0 1 (NC.n y0) (NC.c y0))),(2,zI x3)])) (H':=(hT 2 [(oC [zI x4,zI x5,zI x6,zI x7])])) (by kernel_rfl) (by kernel_rfl) (q10481 pu n x0 x1 x2 s0 (NC.n y0) (NC.c y0) x3 x4 x5 x6 x7 hm)
end
end Go.BkXM
set_option maxRecDepth 100000
namespace Go.BkXM
open Go.Sp Go.BkX
noncomputable section
def L:Nat:=1000000
def disp (pu:PureF):PureF:=fun g args=>
 bb (Nat.beq g 3) (m3 pu L args) (bb (Nat.beq g 9) (m9 pu L args) (bb (Nat.beq g 11) (m11 pu L args) (bb (Nat.beq g 12) (m12 pu L args) (bb (Nat.beq g 13) (m13 pu L args) (bb (Nat.beq g 14) (m14 pu L args) (bb (Nat.beq g 15) (m15 pu L args) (bb (Nat.beq g 16) (m16 pu L args) (bb (Nat.beq g 17) (m17 pu L args) (bb (Nat.beq g 34) (m34 pu L args) (bb (Nat.beq g 36) (m36 pu L args) (bb (Nat.beq g 43) (m43 pu L args) (bb (Nat.beq g 44) (m44 pu L args) (bb (Nat.beq g 45) (m45 pu L args) (bb (Nat.beq g 46) (m46 pu L args) (bb (Nat.beq g 47) (m47 pu L args) (bb (Nat.beq g 49) (m49 pu L args) (bb (Nat.beq g 50) (m50 pu L args) (bb (Nat.beq g 51) (m51 pu L args) (bb (Nat.beq g 55) (m55 pu L args) (bb (Nat.beq g 59) (m59 pu L args) (bb (Nat.beq g 62) (m62 pu L args) (bb (Nat.beq g 75) (m75 pu L args) (bb (Nat.beq g 76) (m76 pu L args) (bb (Nat.beq g 77) (m77 pu L args) (bb (Nat.beq g 80) (m80 pu L args) (bb (Nat.beq g 81) (m81 pu L args) (bb (Nat.beq g 91) (m91 pu L args) (bb (Nat.beq g 92) (m92 pu L args) (bb (Nat.beq g 93) (m93 pu L args) (bb (Nat.beq g 10480) (m10480 pu L args) (bb (Nat.beq g 10481) (m10481 pu L args) (bb (Nat.beq g 10) (orc10 args) (bb (Nat.beq g 84) (orc84 args) (bb (Nat.beq g 98) (orc98 args) (none)))))))))))))))))))))))))))))))))))
def puN:Nat→PureF:=fun n=>Nat.rec (motive:=fun _=>PureF) (fun _ _=>none) (fun _ ih=>disp ih) n
end
end Go.BkXM
