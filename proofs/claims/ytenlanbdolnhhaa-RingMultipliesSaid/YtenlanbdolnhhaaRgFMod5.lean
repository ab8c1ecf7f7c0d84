/- Made from wip. -/
import Derived.Test.YtenlanbdolnhhaaRgFMod0x

set_option maxRecDepth 100000
set_option maxHeartbeats 20000000
set_option linter.unusedVariables false
namespace Go.RgFM
open Go.Sp Go.RgF
noncomputable section
def m70_0 (pu:PureF) (n:Nat):OV:=
 (some (.tuple ⟨[(.int .i64 (0:Int)),(.bool false)]⟩))
def b70_1 (pu:PureF) (n:Nat) (ih0:Int→Int→Int→Int→Int→Int→OV) (z0 z1 z2 z3 z4 z5:Int):OV:=
 (bb (ilt z1 z0) (oo (pu 65 [(.agg ⟨[.int .i64 z2,.int .u32 z3]⟩),.int .i64 z1]) none fun v0=>(oo (vAgg v0) none fun l0=>(ll l0 none fun v1 l0=>(ll l0 none fun v2 l0=>(ll l0 (oo (toI .i64 v1) none fun x0=>(oo (toI .u32 v2) none fun x1=>(bb (bq true (an (ieq x0 z4) (an (ieq x1 z5) true))) (some (.tuple ⟨[.int .i64 z1,(.bool true)]⟩)) (ih0 z0 (wrapF .i64 (Int.add z1 (1:Int))) z2 z3 z4 z5)))) fun _ _=>none))))) (m70_0 pu n))
def l70_1 (pu:PureF) (n w:Nat):Int→Int→Int→Int→Int→Int→OV:=
 Nat.rec (motive:=fun _=>Int→Int→Int→Int→Int→Int→OV) (fun _ _ _ _ _ _=>none) (fun _ ih0=>b70_1 pu n ih0) w
def m70_ (pu:PureF) (n:Nat) (x0 x1 x2 x3:Int):OV:=
 (l70_1 pu n n x0 (0:Int) x0 x1 x2 x3)
def m70 (pu:PureF) (n:Nat) (args:LV):OV:=
 (ll args none fun a0 args=>(ll args none fun a1 args=>(ll args (oo (vAgg a0) none fun l0=>(ll l0 none fun v0 l0=>(ll l0 none fun v1 l0=>(ll l0 (oo (toI .i64 v0) none fun x0=>(oo (toI .u32 v1) none fun x1=>(oo (vAgg a1) none fun l1=>(ll l1 none fun v2 l1=>(ll l1 none fun v3 l1=>(ll l1 (oo (toI .i64 v2) none fun x2=>(oo (toI .u32 v3) none fun x3=>(m70_ pu n x0 x1 x2 x3))) fun _ _=>none)))))) fun _ _=>none)))) fun _ _=>none)))
theorem w70_0 (pu:PureF) (n:Nat) {v:Value} (hm:m70_0 pu n = some v):Run tt (callP tabs isP pu (inl pu)) 0 c70_20 (fr 19 []) (hp 0 []) (Fin tt 0 [.tmp 4,.tmp 5] v):=by
 unfold m70_0 at hm
 refine .then (.rK ?_)
 refine .ghs (fr 19 [(4,(zI (0:Int))),(5,zB false)]) (hp 0 []) (.k0 [] [] [4,5]) ?_
 refine .ret ?_
 exact fin_ret (.tuple ⟨[(zI (0:Int)),zB false]⟩) (by kernel_rfl) (by kernel_rfl) hm
theorem r70 {call:CallF} (pu:PureF) (n:Nat) (hcall:call = callP tabs isP pu (inl pu)) {args:LV} {v:Value} (hm:m70 pu n args = some v) (_:∀ x ∈ args,closed2 x = true):args.length≤19∧Run tt call 0 c70_22 (Fr.made 19 args) (pureHeap tabs) (Fin tt 0 [.tmp 4,.tmp 5] v):=by
 subst hcall
 unfold m70 at hm
 replace hm:=ll_uncons hm;obtain ⟨a0,args_0,rfl,hm⟩:=hm
 replace hm:=ll_uncons hm;obtain ⟨a1,args_1,rfl,hm⟩:=hm
 replace hm:=ll_end hm;obtain ⟨rfl,hm⟩:=hm
 replace hm:=inv_vAgg hm;obtain ⟨l0,rfl,hm⟩:=hm
 replace hm:=ll_uncons hm;obtain ⟨v0,l4619_0,rfl,hm⟩:=hm
 replace hm:=ll_uncons hm;obtain ⟨v1,l4619_1,rfl,hm⟩:=hm
 replace hm:=ll_end hm;obtain ⟨rfl,hm⟩:=hm
 replace hm:=inv_toI hm;obtain ⟨x0,rfl,hm⟩:=hm
 replace hm:=inv_toI hm;obtain ⟨x1,rfl,hm⟩:=hm
 replace hm:=inv_vAgg hm;obtain ⟨l1,rfl,hm⟩:=hm
 replace hm:=ll_uncons hm;obtain ⟨v2,l4627_0,rfl,hm⟩:=hm
 replace hm:=ll_uncons hm;obtain ⟨v3,l4627_1,rfl,hm⟩:=hm
 replace hm:=ll_end hm;obtain ⟨rfl,hm⟩:=hm
 replace hm:=inv_toI hm;obtain ⟨x2,rfl,hm⟩:=hm
 replace hm:=inv_toI hm;obtain ⟨x3,rfl,hm⟩:=hm
 unfold m70_ at hm
 refine ⟨by simp,?_⟩
 refine .same (F':=(fr 19 [(0,(.agg ⟨[zI x0,.int .u32 x1]⟩)),(1,(.agg ⟨[zI x2,.int .u32 x3]⟩))])) (H':=(hp 0 [])) (by kernel_rfl) (by kernel_rfl) ?_
 refine .then (.rK ?_)
 refine .ghs (fr 19 [(2,(pt 0 0)),(3,pt 1 0)]) (hp 2 [(oC [zI x0,.int .u32 x1]),(oC [zI x2,.int .u32 x3])]) (.k0 [] [.tmp 2 false,.tmp 3 false] [2,3]) ?_
 refine .join (v:=v) (fun y:Unit=>((fr 19 []),(hp 0 []))) (fun y=>m70_0 pu n) ?_ ?_
 ·rintro _ hm
  exact w70_0 pu n hm
 ·refine .then (.rK ?_)
  refine .ghs (fr 19 [(2,(pt 0 0)),(3,pt 1 0),(8,zI x0),(9,(zI (0:Int)))]) (hp 2 [(oC [zI x0,.int .u32 x1]),(oC [zI x2,.int .u32 x3])]) (.k0 [] [.tmp 2 false,.tmp 3 false] [2,3,8,9]) ?_
  refine .block ?_
  refine .loopM (v:=v) (fun y:Int×Int×Int×Int×Int×Int=>((fr 19 [(2,(pt 0 0)),(3,pt 1 0),(8,(zI y.1)),(9,(zI y.2.1))]),(hp 2 [(oC [(zI y.2.2.1),(.int .u32 y.2.2.2.1)]),(oC [(zI y.2.2.2.2.1),(.int .u32 y.2.2.2.2.2)])]))) (fun w y=>l70_1 pu n w y.1 y.2.1 y.2.2.1 y.2.2.2.1 y.2.2.2.2.1 y.2.2.2.2.2) n ⟨(x0,(0:Int),x0,x1,x2,x3),hm,(.k0 [] [.tmp 2 false,.tmp 3 false] [2,3,8,9])⟩ (fun _=>rfl) ?_
  rintro w0 ⟨z0,z1,z2,z3,z4,z5⟩ hm
  replace hm:b70_1 pu n (l70_1 pu n w0) z0 z1 z2 z3 z4 z5 = some v:=hm
  unfold b70_1 at hm
  refine .then (.rK ?_)
  refine .ghs (fr 19 [(2,(pt 0 0)),(3,pt 1 0),(8,zI z0),(9,zI z1),(10,(zB (ilt z1 z0)))]) (hp 2 [(oC [zI z2,.int .u32 z3]),(oC [zI z4,.int .u32 z5])]) (.k0 [] [.tmp 2 false,.tmp 3 false] [2,3,8,9,10]) ?_
  refine .then ?_
  replace hm:=bb_cases hm;rcases hm with ⟨h0,hm⟩ | ⟨h0,hm⟩
  ·refine .ifT (ilt z1 z0) (by kernel_rfl) h0 ?_
   refine .skip ?_
   refine .ghs (fr 19 [(2,(pt 0 0)),(3,pt 1 0),(8,zI z0),(9,zI z1)]) (hp 2 [(oC [zI z2,.int .u32 z3]),(oC [zI z4,.int .u32 z5])]) (.k0 [] [.tmp 2 false,.tmp 3 false] [2,3,8,9]) ?_
   refine .then ?_
   refine .block ?_
   refine .then (.rK ?_)
   refine .ghs (fr 19 [(2,(pt 0 0)),(3,pt 1 0),(6,zI z1),(8,zI z0),(9,zI z1)]) (hp 2 [(oC [zI z2,.int .u32 z3]),(oC [zI z4,.int .u32 z5])]) (.k0 [] [.tmp 2 false,.tmp 3 false] [2,3,6,8,9]) ?_
   refine .then ?_
   replace hm:=oo_inv hm;obtain ⟨v4,h1,hm⟩:=hm
   replace hm:=inv_vAgg hm;obtain ⟨l2,rfl,hm⟩:=hm
   replace hm:=ll_uncons hm;obtain ⟨v5,l4682_0,rfl,hm⟩:=hm
   replace hm:=ll_uncons hm;obtain ⟨v6,l4682_1,rfl,hm⟩:=hm
   replace hm:=ll_end hm;obtain ⟨rfl,hm⟩:=hm
   replace hm:=inv_toI hm;obtain ⟨x4,rfl,hm⟩:=hm
   replace hm:=inv_toI hm;obtain ⟨x5,rfl,hm⟩:=hm
   refine .reg (eC 3 ((oo (pu 65 [(.agg ⟨[zI z2,.int .u32 z3]⟩),zI z1]) none fun v=>some (v,(hp 2 [(oC [zI z2,.int .u32 z3]),(oC [zI z4,.int .u32 z5])])))) (call_eq h1) (eE)) ?_
   refine .ghs (fr 19 [(2,(pt 0 0)),(3,pt 1 0),(6,zI z1),(8,zI z0),(9,zI z1),(16,(zB (bq true (an (ieq x4 z4) (an (ieq x5 z5) true)))))]) (hp 2 [(oC [zI z2,.int .u32 z3]),(oC [zI z4,.int .u32 z5])]) (.k0 [] [.tmp 2 false,.tmp 3 false] [2,3,6,8,9,16]) ?_
   replace hm:=bb_cases hm;rcases hm with ⟨h2,hm⟩ | ⟨h2,hm⟩
   ·refine .ifT (bq true (an (ieq x4 z4) (an (ieq x5 z5) true))) (by kernel_rfl) h2 ?_
    refine .then (.rK ?_)
    refine .ghs (fr 19 [(4,zI z1),(5,zB true)]) (hp 0 []) (.k0 [] [] [4,5]) ?_
    refine .ret ?_
    exact fin_ret (.tuple ⟨[zI z1,zB true]⟩) (by kernel_rfl) (by kernel_rfl) hm
   ·refine .ifF (bq true (an (ieq x4 z4) (an (ieq x5 z5) true))) (by kernel_rfl) h2 ?_
    refine .skip ?_
    refine .ghs (fr 19 [(2,(pt 0 0)),(3,pt 1 0),(8,zI z0),(9,zI z1)]) (hp 2 [(oC [zI z2,.int .u32 z3]),(oC [zI z4,.int .u32 z5])]) (.k0 [] [.tmp 2 false,.tmp 3 false] [2,3,8,9]) ?_
    refine .rK ?_
    exact ⟨(z0,(wrapF .i64 (Int.add z1 (1:Int))),z2,z3,z4,z5),hm,(.k0 [] [.tmp 2 false,.tmp 3 false] [2,3,8,9])⟩
  ·refine .ifF (ilt z1 z0) (by kernel_rfl) h0 ?_
   refine .exit ?_
   exact ⟨(),hm,(.k0 [] [] [])⟩
def m71_0 (pu:PureF) (n:Nat) (z0 z1 z2 z3:Int):OV:=
 (some (.agg ⟨[.int .i64 z2,.int .u32 z3]⟩))
def b71_1 (pu:PureF) (n:Nat) (ih0:Int→Sl→Int→Int→Int→Int→Int→Int→Int→Int→OV) (z0:Int) (s0:Sl) (z1 z2 z3 z4 z5 z6 z7 z8:Int):OV:=
 (bb (ilt z2 z1) (oo (toN z2) none fun k1=>(bb (an (Nat.blt k1 (Sl.n s0)) true) (oo (nthL (Sl.cs s0) (k1 * 1)) none fun v0=>(oo (toI .i64 v0) none fun x0=>(oo (pu 62 [(.agg ⟨[.int .i64 z3,.int .u32 z4]⟩),(.int .i64 (wrapF .i64 (Int.mul x0 z0)))]) none fun v1=>(oo (toI .i64 v1) none fun x1=>(oo (toN x1) none fun k2=>(ih0 z0 s0 z1 (wrapF .i64 (Int.add (Int.ofNat k1) (1:Int))) z3 z4 z5 z6 z7 (aor .u32 z8 (shlI .u32 (1:Int) k2)))))))) none)) (m71_0 pu n z5 z6 z7 z8))
def l71_1 (pu:PureF) (n w:Nat):Int→Sl→Int→Int→Int→Int→Int→Int→Int→Int→OV:=
 Nat.rec (motive:=fun _=>Int→Sl→Int→Int→Int→Int→Int→Int→Int→Int→OV) (fun _ _ _ _ _ _ _ _ _ _=>none) (fun _ ih0=>b71_1 pu n ih0) w
def m71_ (pu:PureF) (n:Nat) (x0 x1 x2:Int):OV:=
 (oo (pu 80 [(.agg ⟨[.int .i64 x0,.int .u32 x1]⟩)]) none fun v0=>(oo (toSl 1 v0) none fun s0=>(l71_1 pu n n x2 s0 (Int.ofNat (Sl.n s0)) (0:Int) x0 x1 (0:Int) (0:Int) x0 (0:Int))))
def m71 (pu:PureF) (n:Nat) (args:LV):OV:=
 (ll args none fun a0 args=>(ll args none fun a1 args=>(ll args (oo (vAgg a0) none fun l0=>(ll l0 none fun v0 l0=>(ll l0 none fun v1 l0=>(ll l0 (oo (toI .i64 v0) none fun x0=>(oo (toI .u32 v1) none fun x1=>(oo (toI .i64 a1) none fun x2=>(m71_ pu n x0 x1 x2)))) fun _ _=>none)))) fun _ _=>none)))
theorem w71_0 (pu:PureF) (n:Nat) (z0 z1 z2 z3:Int) {v:Value} (hm:m71_0 pu n z0 z1 z2 z3 = some v):Run tt (callP tabs isP pu (inl pu)) 0 c71_17 (fr 30 [(4,(pt 0 0)),(5,pt 1 0)]) (hp 2 [(oC [zI z0,.int .u32 z1]),(oC [zI z2,.int .u32 z3])]) (Fin tt 0 [.cell 4 92] v):=by
 unfold m71_0 at hm
 refine .then (.rK ?_)
 refine .ghs (fr 30 [(4,(pt 0 0))]) (hp 1 [(oC [zI z2,.int .u32 z3])]) (.k0 [] [.tmp 4 false] [4]) ?_
 refine .ret ?_
 exact fin_ret (.agg ⟨[zI z2,.int .u32 z3]⟩) (by kernel_rfl) (by kernel_rfl) hm
theorem r71 {call:CallF} (pu:PureF) (n:Nat) (hcall:call = callP tabs isP pu (inl pu)) {args:LV} {v:Value} (hm:m71 pu n args = some v) (_:∀ x ∈ args,closed2 x = true):args.length≤30∧Run tt call 0 c71_20 (Fr.made 30 args) (pureHeap tabs) (Fin tt 0 [.cell 4 92] v):=by
 subst hcall
 unfold m71 at hm
 replace hm:=ll_uncons hm;obtain ⟨a0,args_0,rfl,hm⟩:=hm
 replace hm:=ll_uncons hm;obtain ⟨a1,args_1,rfl,hm⟩:=hm
 replace hm:=ll_end hm;obtain ⟨rfl,hm⟩:=hm
 replace hm:=inv_vAgg hm;obtain ⟨l0,rfl,hm⟩:=hm
 replace hm:=ll_uncons hm;obtain ⟨v0,l4691_0,rfl,hm⟩:=hm
 replace hm:=ll_uncons hm;obtain ⟨v1,l4691_1,rfl,hm⟩:=hm
 replace hm:=ll_end hm;obtain ⟨rfl,hm⟩:=hm
 replace hm:=inv_toI hm;obtain ⟨x0,rfl,hm⟩:=hm
 replace hm:=inv_toI hm;obtain ⟨x1,rfl,hm⟩:=hm
 replace hm:=inv_toI hm;obtain ⟨x2,rfl,hm⟩:=hm
 unfold m71_ at hm
 refine ⟨by simp,?_⟩
 refine .same (F':=(fr 30 [(0,(.agg ⟨[zI x0,.int .u32 x1]⟩)),(1,zI x2)])) (H':=(hp 0 [])) (by kernel_rfl) (by kernel_rfl) ?_
 refine .then (.rK ?_)
 refine .ghs (fr 30 [(1,zI x2),(2,(pt 0 0)),(4,pt 1 0)]) (hp 2 [(oC [zI x0,.int .u32 x1]),(oC [(zI (0:Int)),(.int .u32 (0:Int))])]) (.k0 [] [.tmp 2 false,.tmp 4 false] [1,2,4]) ?_
 refine .then (.rK ?_)
 refine .ghs (fr 30 [(1,zI x2),(2,(pt 0 0)),(4,pt 1 0),(5,(pt 2 0))]) (hp 3 [(oC [zI x0,.int .u32 x1]),(oC [(zI (0:Int)),(.int .u32 (0:Int))]),(oC [zI x0,(.int .u32 (0:Int))])]) (.k0 [] [.tmp 2 false,.tmp 4 false,.tmp 5 false] [1,2,4,5]) ?_
 refine .join (v:=v) (fun y:Int×Int×Int×Int=>((fr 30 [(4,(pt 0 0)),(5,pt 1 0)]),(hp 2 [(oC [(zI y.1),(.int .u32 y.2.1)]),(oC [(zI y.2.2.1),(.int .u32 y.2.2.2)])]))) (fun y=>m71_0 pu n y.1 y.2.1 y.2.2.1 y.2.2.2) ?_ ?_
 ·rintro ⟨z0, z1, z2, z3⟩ hm
  exact w71_0 pu n z0 z1 z2 z3 hm
 ·refine .then ?_
  replace hm:=oo_inv hm;obtain ⟨v2,h0,hm⟩:=hm
  replace hm:=inv_toSl hm;obtain ⟨s0,rfl,hm⟩:=hm
  refine .reg (eC 1 ((oo (pu 80 [(.agg ⟨[zI x0,.int .u32 x1]⟩)]) none fun v=>some (v,(hp 3 [(oC [zI x0,.int .u32 x1]),(oC [(zI (0:Int)),(.int .u32 (0:Int))]),(oC [zI x0,(.int .u32 (0:Int))])])))) (call_eq h0) (eE)) ?_
  refine .ghs (fr 30 [(1,zI x2),(2,(pt 0 0)),(4,pt 1 0),(5,(pt 2 0)),(12,Sl.v 1 s0),(13,(zI (Int.ofNat (Sl.n s0)))),(14,(zI (0:Int)))]) (hp 3 [(oC [zI x0,.int .u32 x1]),(oC [(zI (0:Int)),(.int .u32 (0:Int))]),(oC [zI x0,(.int .u32 (0:Int))])]) (.k0 [] [.tmp 2 false,.tmp 4 false,.tmp 5 false] [1,2,4,5,12,13,14]) ?_
  refine .block ?_
  refine .loopM (v:=v) (fun y:Int×Sl×Int×Int×Int×Int×Int×Int×Int×Int=>((fr 30 [(1,(zI y.1)),(2,(pt 0 0)),(4,pt 1 0),(5,(pt 2 0)),(12,(Sl.v 1 y.2.1)),(13,(zI y.2.2.1)),(14,(zI y.2.2.2.1))]),(hp 3 [(oC [(zI y.2.2.2.2.1),(.int .u32 y.2.2.2.2.2.1)]),(oC [(zI y.2.2.2.2.2.2.1),(.int .u32 y.2.2.2.2.2.2.2.1)]),(oC [(zI y.2.2.2.2.2.2.2.2.1),(.int .u32 y.2.2.2.2.2.2.2.2.2)])]))) (fun w y=>l71_1 pu n w y.1 y.2.1 y.2.2.1 y.2.2.2.1 y.2.2.2.2.1 y.2.2.2.2.2.1 y.2.2.2.2.2.2.1 y.2.2.2.2.2.2.2.1 y.2.2.2.2.2.2.2.2.1 y.2.2.2.2.2.2.2.2.2) n ⟨(x2,s0,(Int.ofNat (Sl.n s0)),(0:Int),x0,x1,(0:Int),(0:Int),x0,(0:Int)),hm,(.k0 [] [.tmp 2 false,.tmp 4 false,.tmp 5 false] [1,2,4,5,12,13,14])⟩ (fun _=>rfl) ?_
  rintro w0 ⟨z4,s1,z5,z6,z7,z8,z9,z10,z11,z12⟩ hm
  replace hm:b71_1 pu n (l71_1 pu n w0) z4 s1 z5 z6 z7 z8 z9 z10 z11 z12 = some v:=hm
  unfold b71_1 at hm
  refine .then (.rK ?_)
  refine .ghs (fr 30 [(1,zI z4),(2,(pt 0 0)),(4,pt 1 0),(5,(pt 2 0)),(12,Sl.v 1 s1),(13,zI z5),(14,zI z6),(15,(zB (ilt z6 z5)))]) (hp 3 [(oC [zI z7,.int .u32 z8]),(oC [zI z9,.int .u32 z10]),(oC [zI z11,.int .u32 z12])]) (.k0 [] [.tmp 2 false,.tmp 4 false,.tmp 5 false] [1,2,4,5,12,13,14,15]) ?_
  refine .then ?_
  replace hm:=bb_cases hm;rcases hm with ⟨h1,hm⟩ | ⟨h1,hm⟩
  ·refine .ifT (ilt z6 z5) (by kernel_rfl) h1 ?_
   refine .skip ?_
   refine .ghs (fr 30 [(1,zI z4),(2,(pt 0 0)),(4,pt 1 0),(5,(pt 2 0)),(12,Sl.v 1 s1),(13,zI z5),(14,zI z6)]) (hp 3 [(oC [zI z7,.int .u32 z8]),(oC [zI z9,.int .u32 z10]),(oC [zI z11,.int .u32 z12])]) (.k0 [] [.tmp 2 false,.tmp 4 false,.tmp 5 false] [1,2,4,5,12,13,14]) ?_
   refine .then ?_
   refine .block ?_
   refine .then ?_
   replace hm:=oo_inv hm;obtain ⟨k1,h2,hm⟩:=hm
   obtain rfl:=toN_some h2
   replace hm:=bb_inv hm;obtain ⟨h3,hm⟩:=hm
   replace hm:=oo_inv hm;obtain ⟨v3,h4,hm⟩:=hm
   replace hm:=inv_toI hm;obtain ⟨x3,rfl,hm⟩:=hm
   refine .reg (eD (keep (hp 3 [(oC [zI z7,.int .u32 z8]),(oC [zI z9,.int .u32 z10]),(oC [zI z11,.int .u32 z12])]) (bb (an (Nat.blt k1 (Sl.n s1)) true) (some (fpV (k1 * 1) (Sl.cs s1))) none)) (keep_bb h3) (eD (keep (hp 3 [(oC [zI z7,.int .u32 z8]),(oC [zI z9,.int .u32 z10]),(oC [zI z11,.int .u32 z12])]) (nthL (Sl.cs s1) (k1 * 1))) (keep_eq h4) (eE))) ?_
   refine .ghs (fr 30 [(1,zI z4),(2,(pt 0 0)),(4,pt 1 0),(5,(pt 2 0)),(7,zI x3),(12,Sl.v 1 s1),(13,zI z5),(14,(zI (Int.ofNat k1)))]) (hp 3 [(oC [zI z7,.int .u32 z8]),(oC [zI z9,.int .u32 z10]),(oC [zI z11,.int .u32 z12])]) (.k0 [] [.tmp 2 false,.tmp 4 false,.tmp 5 false] [1,2,4,5,7,12,13,14]) ?_
   replace hm:=oo_inv hm;obtain ⟨v4,h5,hm⟩:=hm
   replace hm:=inv_toI hm;obtain ⟨x4,rfl,hm⟩:=hm
   replace hm:=oo_inv hm;obtain ⟨k2,h6,hm⟩:=hm
   obtain rfl:=toN_some h6
   refine .reg (eC 6 ((oo (pu 62 [(.agg ⟨[zI z7,.int .u32 z8]⟩),(zI (wrapF .i64 (Int.mul x3 z4)))]) none fun v=>some (v,(hp 3 [(oC [zI z7,.int .u32 z8]),(oC [zI z9,.int .u32 z10]),(oC [zI z11,.int .u32 z12])])))) (call_eq h5) (eE)) ?_
   refine .ghs (fr 30 [(1,zI z4),(2,(pt 0 0)),(4,pt 1 0),(5,(pt 2 0)),(12,Sl.v 1 s1),(13,zI z5),(14,(zI (Int.ofNat k1)))]) (hp 3 [(oC [zI z7,.int .u32 z8]),(oC [zI z9,.int .u32 z10]),(oC [zI z11,(.int .u32 (aor .u32 z12 (shlI .u32 (1:Int) k2)))])]) (.k0 [] [.tmp 2 false,.tmp 4 false,.tmp 5 false] [1,2,4,5,12,13,14]) ?_
   refine .rK ?_
   exact ⟨(z4,s1,z5,(wrapF .i64 (Int.add (Int.ofNat k1) (1:Int))),z7,z8,z9,z10,z11,(aor .u32 z12 (shlI .u32 (1:Int) k2))),hm,(.k0 [] [.tmp 2 false,.tmp 4 false,.tmp 5 false] [1,2,4,5,12,13,14])⟩
  ·refine .ifF (ilt z6 z5) (by kernel_rfl) h1 ?_
   refine .exit ?_
   exact ⟨(z9,z10,z11,z12),hm,(.k0 [] [.tmp 4 false,.tmp 5 false] [4,5])⟩
def m72_0 (pu:PureF) (n:Nat) (b0:Bool):OV:=
 (some (.bool b0))
def m72_ (pu:PureF) (n:Nat) (s0 s1:Sl):OV:=
 (oo (pu 97 [Sl.v 1 s0,Sl.v 1 s1]) none fun v0=>(oo (vBool v0) none fun b0=>(bb (nt b0) (oo (pu 97 [Sl.v 1 s1,Sl.v 1 s0]) none fun v1=>(oo (vBool v1) none fun b1=>(m72_0 pu n (nt b1)))) (m72_0 pu n false))))
def m72 (pu:PureF) (n:Nat) (args:LV):OV:=
 (ll args none fun a0 args=>(ll args none fun a1 args=>(ll args (oo (toSl 1 a0) none fun s0=>(oo (toSl 1 a1) none fun s1=>(m72_ pu n s0 s1))) fun _ _=>none)))
theorem w72_0 (pu:PureF) (n:Nat) (b0:Bool) {v:Value} (hm:m72_0 pu n b0 = some v):Run tt (callP tabs isP pu (inl pu)) 0 .ret (fr 15 [(4,zB b0)]) (hp 0 []) (Fin tt 0 [.tmp 4] v):=by
 unfold m72_0 at hm
 refine .ret ?_
 exact fin_ret (zB b0) (by kernel_rfl) (by kernel_rfl) hm
theorem r72 {call:CallF} (pu:PureF) (n:Nat) (hcall:call = callP tabs isP pu (inl pu)) {args:LV} {v:Value} (hm:m72 pu n args = some v) (_:∀ x ∈ args,closed2 x = true):args.length≤15∧Run tt call 0 c72_3 (Fr.made 15 args) (pureHeap tabs) (Fin tt 0 [.tmp 4] v):=by
 subst hcall
 unfold m72 at hm
 replace hm:=ll_uncons hm;obtain ⟨a0,args_0,rfl,hm⟩:=hm
 replace hm:=ll_uncons hm;obtain ⟨a1,args_1,rfl,hm⟩:=hm
 replace hm:=ll_end hm;obtain ⟨rfl,hm⟩:=hm
 replace hm:=inv_toSl hm;obtain ⟨s0,rfl,hm⟩:=hm
 replace hm:=inv_toSl hm;obtain ⟨s1,rfl,hm⟩:=hm
 unfold m72_ at hm
 refine ⟨by simp,?_⟩
 refine .same (F':=(fr 15 [(0,Sl.v 1 s0),(1,Sl.v 1 s1)])) (H':=(hp 0 [])) (by kernel_rfl) (by kernel_rfl) ?_
 refine .then (.rK ?_)
 refine .ghs (fr 15 [(0,Sl.v 1 s0),(1,Sl.v 1 s1)]) (hp 0 []) (.k0 [] [] [0,1]) ?_
 refine .join (v:=v) (fun y:Bool=>((fr 15 [(4,zB y)]),(hp 0 []))) (fun y=>m72_0 pu n y) ?_ ?_
 ·rintro b0 hm
  exact w72_0 pu n b0 hm
 ·replace hm := oo_inv hm; obtain ⟨v0, h0, hm⟩ := hm
  replace hm:=inv_vBool hm;obtain ⟨b1,rfl,hm⟩:=hm
  replace hm:=bb_cases hm;rcases hm with ⟨h1,hm⟩ | ⟨h1,hm⟩
  ·replace hm := oo_inv hm; obtain ⟨v1, h2, hm⟩ := hm
   replace hm:=inv_vBool hm;obtain ⟨b2,rfl,hm⟩:=hm
   refine .reg (eC 2 ((oo (pu 97 [Sl.v 1 s0,Sl.v 1 s1]) none fun v=>some (v,(hp 0 [])))) (call_eq h0) (eD (some ((zB (nt b1)),(hp 0 []))) (show _ = some ((zB true),_) from (by rw [h1])) (eC 3 ((oo (pu 97 [Sl.v 1 s1,Sl.v 1 s0]) none fun v=>some (v,(hp 0 [])))) (call_eq h2) (eE)))) ?_
   exact ⟨(nt b2),hm,(.k0 [] [] [4])⟩
  ·refine .reg (eC 2 ((oo (pu 97 [Sl.v 1 s0, Sl.v 1 s1]) none fun v => some (v, (hp 0 [])))) (call_eq h0) (eD (some ((zB (nt b1)), (hp 0 []))) (show _ = some ((zB false), _) from (by rw [h1])) (eE))) ?_
   exact ⟨false,hm,(.k0 [] [] [4])⟩
def m73_0 (pu:PureF) (n:Nat) (b0:Bool):OV:=
 (some (.bool b0))
def m73_ (pu:PureF) (n:Nat) (x0 x1 x2:Int):OV:=
 (bb (nt (ilt x0 x1)) (m73_0 pu n (nt (ilt x2 x0))) (m73_0 pu n false))
def m73 (pu:PureF) (n:Nat) (args:LV):OV:=
 (ll args none fun a0 args=>(ll args none fun a1 args=>(ll args none fun a2 args=>(ll args (oo (toI .i64 a0) none fun x0=>(oo (toI .i64 a1) none fun x1=>(oo (toI .i64 a2) none fun x2=>(m73_ pu n x0 x1 x2)))) fun _ _=>none))))
theorem w73_0 (pu:PureF) (n:Nat) (b0:Bool) {v:Value} (hm:m73_0 pu n b0 = some v):Run tt (callP tabs isP pu (inl pu)) 0 .ret (fr 15 [(6,zB b0)]) (hp 0 []) (Fin tt 0 [.tmp 6] v):=by
 unfold m73_0 at hm
 refine .ret ?_
 exact fin_ret (zB b0) (by kernel_rfl) (by kernel_rfl) hm
theorem r73 {call:CallF} (pu:PureF) (n:Nat) (hcall:call = callP tabs isP pu (inl pu)) {args:LV} {v:Value} (hm:m73 pu n args = some v) (_:∀ x ∈ args,closed2 x = true):args.length≤15∧Run tt call 0 c73_3 (Fr.made 15 args) (pureHeap tabs) (Fin tt 0 [.tmp 6] v):=by
 subst hcall
 unfold m73 at hm
 replace hm:=ll_uncons hm;obtain ⟨a0,args_0,rfl,hm⟩:=hm
 replace hm:=ll_uncons hm;obtain ⟨a1,args_1,rfl,hm⟩:=hm
 replace hm:=ll_uncons hm;obtain ⟨a2,args_2,rfl,hm⟩:=hm
 replace hm:=ll_end hm;obtain ⟨rfl,hm⟩:=hm
 replace hm:=inv_toI hm;obtain ⟨x0,rfl,hm⟩:=hm
 replace hm:=inv_toI hm;obtain ⟨x1,rfl,hm⟩:=hm
 replace hm:=inv_toI hm;obtain ⟨x2,rfl,hm⟩:=hm
 unfold m73_ at hm
 refine ⟨by simp,?_⟩
 refine .same (F':=(fr 15 [(0,zI x0),(1,zI x1),(2,zI x2)])) (H':=(hp 0 [])) (by kernel_rfl) (by kernel_rfl) ?_
 refine .then (.rK ?_)
 refine .ghs (fr 15 [(0,zI x0),(1,zI x1),(2,zI x2)]) (hp 0 []) (.k0 [] [] [0,1,2]) ?_
 refine .join (v:=v) (fun y:Bool=>((fr 15 [(6,zB y)]),(hp 0 []))) (fun y=>m73_0 pu n y) ?_ ?_
 ·rintro b0 hm
  exact w73_0 pu n b0 hm
 ·replace hm := bb_cases hm; rcases hm with ⟨h0, hm⟩ | ⟨h0, hm⟩
  ·refine .reg (eC 2 (some ((zB (nt (ilt x0 x1))), (hp 0 []))) (show _ = some ((zB true), _) from (by rw [h0])) (eE)) ?_
   exact ⟨(nt (ilt x2 x0)),hm,(.k0 [] [] [6])⟩
  ·refine .reg (eC 2 (some ((zB (nt (ilt x0 x1))), (hp 0 []))) (show _ = some ((zB false), _) from (by rw [h0])) (eE)) ?_
   exact ⟨false,hm,(.k0 [] [] [6])⟩
def m75_0 (pu:PureF) (n n0 c0:Nat) (q1:LV):OV:=
 (bb (allL closed1 q1) (bb (an (Nat.ble (0 + n0 * 1) (len q1)) (allL closed1 (takeL (n0 * 1) (dropL 0 q1)))) (some (Sl.v 1 (Sl.mk n0 0 (takeL (n0 * 1) (dropL 0 q1))))) none) none)
def m75_2 (pu:PureF) (n:Nat) (ih0:Nat→Nat→Int→Int→Sl→LV→OV) (n0 c0:Nat) (z0 z1:Int) (s0:Sl) (q1:LV):OV:=
 (bb (allL closed1 q1) (ih0 n0 c0 (wrapF .i64 (Int.add z0 (1:Int))) z1 s0 q1) none)
def m75_3 (pu:PureF) (n:Nat) (ih0:Nat→Nat→Int→Int→Sl→LV→OV) (n0 c0:Nat) (z0 z1 z2:Int) (s0:Sl) (q1:LV):OV:=
 (bb (growC 1 8 n0 c0 1 q1) (bb (allL closed1 (appL (dropL 0 q1) [.int .i64 z1])) (m75_2 pu n ih0 (n0 + 1) (2 * (n0 + 1) + bb false 1 0) z0 z2 s0 (appL (dropL 0 q1) [.int .i64 z1])) none) none)
def m75_5 (pu:PureF) (n:Nat) (ih0:Nat→Nat→Int→Int→Sl→LV→OV) (ih1:Nat→Nat→Int→Int→Int→Int→Sl→LV→OV) (n0 c0:Nat) (z0 z1 z2 z3:Int) (s0:Sl) (q1:LV):OV:=
 (bb (allL closed1 q1) (ih1 n0 c0 z0 z1 (wrapF .i64 (Int.add z2 (1:Int))) z3 s0 q1) none)
def b75_4 (pu:PureF) (n:Nat) (ih0:Nat→Nat→Int→Int→Sl→LV→OV) (ih1:Nat→Nat→Int→Int→Int→Int→Sl→LV→OV) (n0 c0:Nat) (z0 z1 z2 z3:Int) (s0:Sl) (q1:LV):OV:=
 (bb (allL closed1 q1) (bb (ilt z2 (Int.ofNat (Sl.n s0))) (oo (toN z2) none fun k1=>(bb (an (Nat.blt k1 (Sl.n s0)) true) (oo (nthL (Sl.cs s0) (k1 * 1)) none fun v0=>(oo (toI .i64 v0) none fun x0=>(oo (pu 64 [(.int .i64 (wrapF .i64 (Int.add x0 z0))),.int .i64 z3]) none fun v1=>(oo (toI .i64 v1) none fun x1=>(oo (pu 63 [(.agg ⟨[.int .i64 z3,Sl.v 1 s0]⟩),.int .i64 x1]) none fun v2=>(oo (vBool v2) none fun b0=>(bb b0 (m75_5 pu n ih0 ih1 n0 c0 z0 (wrapF .i64 (Int.add z1 (1:Int))) (Int.ofNat k1) z3 s0 q1) (m75_5 pu n ih0 ih1 n0 c0 z0 z1 (Int.ofNat k1) z3 s0 q1)))))))) none)) (m75_3 pu n ih0 n0 c0 z0 z1 z3 s0 q1)) none)
def l75_4 (pu:PureF) (n:Nat) (ih0:Nat→Nat→Int→Int→Sl→LV→OV) (w:Nat):Nat→Nat→Int→Int→Int→Int→Sl→LV→OV:=
 Nat.rec (motive:=fun _=>Nat→Nat→Int→Int→Int→Int→Sl→LV→OV) (fun _ _ _ _ _ _ _ _=>none) (fun _ ih1=>b75_4 pu n ih0 ih1) w
def b75_1 (pu:PureF) (n:Nat) (ih0:Nat→Nat→Int→Int→Sl→LV→OV) (n0 c0:Nat) (z0 z1:Int) (s0:Sl) (q1:LV):OV:=
 (bb (allL closed1 q1) (bb (ilt z0 z1) (l75_4 pu n ih0 n n0 c0 z0 (0:Int) (0:Int) z1 s0 q1) (m75_0 pu n n0 c0 q1)) none)
def l75_1 (pu:PureF) (n w:Nat):Nat→Nat→Int→Int→Sl→LV→OV:=
 Nat.rec (motive:=fun _=>Nat→Nat→Int→Int→Sl→LV→OV) (fun _ _ _ _ _ _=>none) (fun _ ih0=>b75_1 pu n ih0) w
def m75_ (pu:PureF) (n:Nat) (x0:Int) (s0:Sl):OV:=
 (l75_1 pu n n 0 0 (1:Int) x0 s0 ([]:LV))
def m75 (pu:PureF) (n:Nat) (args:LV):OV:=
 (ll args none fun a0 args=>(ll args (oo (vAgg a0) none fun l0=>(ll l0 none fun v0 l0=>(ll l0 none fun v1 l0=>(ll l0 (oo (toI .i64 v0) none fun x0=>(oo (toSl 1 v1) none fun s0=>(m75_ pu n x0 s0))) fun _ _=>none)))) fun _ _=>none))
theorem w75_0 (pu:PureF) (n n0 c0:Nat) (q1:LV) {v:Value} (hm:m75_0 pu n n0 c0 q1 = some v):Run tt (callP tabs isP pu (inl pu)) 0 c75_33 (fr 39 [(3,sc 0 0 1 n0 c0)]) (hp 1 [oC q1]) (Fin tt 0 [.tmp 2] v):=by
 unfold m75_0 at hm
 refine .then (.rK ?_)
 replace hm:=bb_inv hm;obtain ⟨h0,hm⟩:=hm
 refine .ghs (fr 39 [(2,sc 0 0 1 n0 c0)]) (hp 1 [oC q1]) (.k [0] [] [.tmp 2 false] [2] ⟨trF h0,trivial⟩) ?_
 replace hm:=bb_inv hm;obtain ⟨h1,hm⟩:=hm
 refine .ghs (Fr.puts (fr 39 [(2,sc 0 0 1 n0 c0)]) [(2,(Sl.v 1 (Sl.mk n0 0 (takeL (n0 * 1) (dropL 0 q1)))))]) (hp 1 [.dead]) (.freezeC 0 2 1 (an (Nat.ble (0 + n0 * 1) (len q1)) (allL closed1 (takeL (n0 * 1) (dropL 0 q1)))) (F1:=(Fr.puts (fr 39 [(2,sc 0 0 1 n0 c0)]) [(2,(Sl.v 1 (Sl.mk n0 0 (takeL (n0 * 1) (dropL 0 q1)))))])) (H1:=(hp 1 [.dead])) (by kernel_rfl) (by kernel_rfl) h1 (GhS.id _ _)) ?_
 refine .ret ?_
 exact fin_ret (Sl.v 1 (Sl.mk n0 0 (takeL (n0 * 1) (dropL 0 q1)))) (by kernel_rfl) (by kernel_rfl) hm
theorem r75 {call:CallF} (pu:PureF) (n:Nat) (hcall:call = callP tabs isP pu (inl pu)) {args:LV} {v:Value} (hm:m75 pu n args = some v) (_:∀ x ∈ args,closed2 x = true):args.length≤39∧Run tt call 0 c75_36 (Fr.made 39 args) (pureHeap tabs) (Fin tt 0 [.tmp 2] v):=by
 subst hcall
 unfold m75 at hm
 replace hm:=ll_uncons hm;obtain ⟨a0,args_0,rfl,hm⟩:=hm
 replace hm:=ll_end hm;obtain ⟨rfl,hm⟩:=hm
 replace hm:=inv_vAgg hm;obtain ⟨l0,rfl,hm⟩:=hm
 replace hm:=ll_uncons hm;obtain ⟨v0,l4847_0,rfl,hm⟩:=hm
 replace hm:=ll_uncons hm;obtain ⟨v1,l4847_1,rfl,hm⟩:=hm
 replace hm:=ll_end hm;obtain ⟨rfl,hm⟩:=hm
 replace hm:=inv_toI hm;obtain ⟨x0,rfl,hm⟩:=hm
 replace hm:=inv_toSl hm;obtain ⟨s0,rfl,hm⟩:=hm
 unfold m75_ at hm
 refine ⟨by simp,?_⟩
 refine .same (F':=(fr 39 [(0,(.agg ⟨[zI x0,Sl.v 1 s0]⟩))])) (H':=(hp 0 [])) (by kernel_rfl) (by kernel_rfl) ?_
 refine .then (.rK ?_)
 refine .ghs (fr 39 [(1,(pt 0 0))]) (hp 1 [(oC [zI x0,Sl.v 1 s0])]) (.k0 [] [.tmp 1 false] [1]) ?_
 refine .then (.rK ?_)
 refine .ghs (fr 39 [(1,(pt 0 0)),(3,(.slice none 0 0))]) (hp 1 [(oC [zI x0,Sl.v 1 s0])]) (.k0 [] [.tmp 1 false] [1,3]) ?_
 refine .join (v:=v) (fun y:Nat×Nat×LV=>((fr 39 [(3,(sc 0 0 1 y.1 y.2.1))]),(hp 1 [(oC y.2.2)]))) (fun y=>m75_0 pu n y.1 y.2.1 y.2.2) ?_ ?_
 ·rintro ⟨n0, c0, q1⟩ hm
  exact w75_0 pu n n0 c0 q1 hm
 ·refine .then (.rK ?_)
  refine .ghs (fr 39 [(1,(pt 0 0)),(3,(.slice none 0 0)),(4,(zI (1:Int)))]) (hp 1 [(oC [zI x0,Sl.v 1 s0])]) (.k0 [] [.tmp 1 false] [1,3,4]) ?_
  refine .block ?_
  refine .loopM (v:=v) (fun y:Nat×Nat×Int×Int×Sl×LV=>((fr 39 [(1,(pt 0 0)),(3,(sc 1 0 1 y.1 y.2.1)),(4,(zI y.2.2.1))]),(hp 2 [(oC [(zI y.2.2.2.1),(Sl.v 1 y.2.2.2.2.1)]),(oC y.2.2.2.2.2)]))) (fun w y=>l75_1 pu n w y.1 y.2.1 y.2.2.1 y.2.2.2.1 y.2.2.2.2.1 y.2.2.2.2.2) n ⟨(0,0,(1:Int),x0,s0,([]:LV)),hm,(.thaw 3 1 (by kernel_rfl) (.k0 [] [.tmp 1 false,.tmp 3 false] [1,3,4]))⟩ (fun _=>rfl) ?_
  rintro w0 ⟨n1,c1,z0,z1,s1,q2⟩ hm
  replace hm:b75_1 pu n (l75_1 pu n w0) n1 c1 z0 z1 s1 q2 = some v:=hm
  unfold b75_1 at hm
  refine .then ?_
  refine .then (.rK ?_)
  replace hm:=bb_inv hm;obtain ⟨h0,hm⟩:=hm
  refine .ghs (fr 39 [(1,(pt 0 0)),(3,sc 1 0 1 n1 c1),(4,zI z0),(10,(zB (ilt z0 z1)))]) (hp 2 [(oC [zI z1,Sl.v 1 s1]),oC q2]) (.k [1] [] [.tmp 1 false,.tmp 3 false] [1,3,4,10] ⟨trF h0,trivial⟩) ?_
  replace hm:=bb_cases hm;rcases hm with ⟨h1,hm⟩ | ⟨h1,hm⟩
  ·refine .ifT (ilt z0 z1) (by kernel_rfl) h1 ?_
   refine .skip ?_
   refine .ghs (fr 39 [(1,(pt 0 0)),(3,sc 1 0 1 n1 c1),(4,zI z0)]) (hp 2 [(oC [zI z1,Sl.v 1 s1]),oC q2]) (.k [1] [] [.tmp 1 false,.tmp 3 false] [1,3,4] ⟨trF h0,trivial⟩) ?_
   refine .join (v:=v) (fun y:Nat×Nat×Int×Int×Sl×LV=>((fr 39 [(1,(pt 0 0)),(3,(sc 1 0 1 y.1 y.2.1)),(4,(zI y.2.2.1))]),(hp 2 [(oC [(zI y.2.2.2.1),(Sl.v 1 y.2.2.2.2.1)]),(oC y.2.2.2.2.2)]))) (fun y=>m75_2 pu n (l75_1 pu n w0) y.1 y.2.1 y.2.2.1 y.2.2.2.1 y.2.2.2.2.1 y.2.2.2.2.2) ?_ ?_
   ·rintro ⟨n2, c2, z2, z3, s2, q3⟩ hm
    unfold m75_2 at hm
    refine .rK ?_
    replace hm:=bb_inv hm;obtain ⟨h2,hm⟩:=hm
    exact ⟨(n2,c2,(wrapF .i64 (Int.add z2 (1:Int))),z3,s2,q3),hm,(.k [1] [] [.tmp 1 false,.tmp 3 false] [1,3,4] ⟨trF h2,trivial⟩)⟩
   ·refine .block ?_
    refine .then (.rK ?_)
    refine .ghs (fr 39 [(1,(pt 0 0)),(3,sc 1 0 1 n1 c1),(4,zI z0),(5,(zI (0:Int)))]) (hp 2 [(oC [zI z1,Sl.v 1 s1]),oC q2]) (.k [1] [] [.tmp 1 false,.tmp 3 false] [1,3,4,5] ⟨trF h0,trivial⟩) ?_
    refine .join (v:=v) (fun y:Nat×Nat×Int×Int×Int×Sl×LV=>((fr 39 [(1,(pt 0 0)),(3,(sc 1 0 1 y.1 y.2.1)),(4,(zI y.2.2.1)),(5,(zI y.2.2.2.1))]),(hp 2 [(oC [(zI y.2.2.2.2.1),(Sl.v 1 y.2.2.2.2.2.1)]),(oC y.2.2.2.2.2.2)]))) (fun y=>m75_3 pu n (l75_1 pu n w0) y.1 y.2.1 y.2.2.1 y.2.2.2.1 y.2.2.2.2.1 y.2.2.2.2.2.1 y.2.2.2.2.2.2) ?_ ?_
    ·rintro ⟨n3, c3, z4, z5, z6, s3, q4⟩ hm
     unfold m75_3 at hm
     replace hm:=bb_inv hm;obtain ⟨h3,hm⟩:=hm
     refine .reg (eC 3 (growD 1 8 n3 c3 1 1 q4 [zI z5] [] (hp 3 [(oC [zI z6,Sl.v 1 s3]),oC q4,(oC [zI z5])])) (growD_eq h3) (eE)) ?_
     replace hm:=bb_inv hm;obtain ⟨h4,hm⟩:=hm
     exact ⟨((n3 + 1),(d2 (n3 + 1)),z4,z6,s3,(appL (dropL 0 q4) [zI z5])),hm,(.k [3] [] [.tmp 1 false,.tmp 3 false] [1,3,4] ⟨trF h4,trivial⟩)⟩
    ·refine .then (.rK ?_)
     refine .ghs (fr 39 [(1,(pt 0 0)),(3,sc 1 0 1 n1 c1),(4,zI z0),(5,(zI (0:Int))),(6,(zI (0:Int)))]) (hp 2 [(oC [zI z1,Sl.v 1 s1]),oC q2]) (.k [1] [] [.tmp 1 false,.tmp 3 false] [1,3,4,5,6] ⟨trF h0,trivial⟩) ?_
     refine .block ?_
     refine .loopM (v:=v) (fun y:Nat×Nat×Int×Int×Int×Int×Sl×LV=>((fr 39 [(1,(pt 0 0)),(3,(sc 1 0 1 y.1 y.2.1)),(4,(zI y.2.2.1)),(5,(zI y.2.2.2.1)),(6,(zI y.2.2.2.2.1))]),(hp 2 [(oC [(zI y.2.2.2.2.2.1),(Sl.v 1 y.2.2.2.2.2.2.1)]),(oC y.2.2.2.2.2.2.2)]))) (fun w y=>l75_4 pu n (l75_1 pu n w0) w y.1 y.2.1 y.2.2.1 y.2.2.2.1 y.2.2.2.2.1 y.2.2.2.2.2.1 y.2.2.2.2.2.2.1 y.2.2.2.2.2.2.2) n ⟨(n1,c1,z0,(0:Int),(0:Int),z1,s1,q2),hm,(.k [1] [] [.tmp 1 false,.tmp 3 false] [1,3,4,5,6] ⟨trF h0,trivial⟩)⟩ (fun _=>rfl) ?_
     rintro w1 ⟨n4,c4,z7,z8,z9,z10,s4,q5⟩ hm
     replace hm:b75_4 pu n (l75_1 pu n w0) (l75_4 pu n (l75_1 pu n w0) w1) n4 c4 z7 z8 z9 z10 s4 q5 = some v:=hm
     unfold b75_4 at hm
     refine .then ?_
     refine .then (.rK ?_)
     replace hm:=bb_inv hm;obtain ⟨h5,hm⟩:=hm
     refine .ghs (fr 39 [(1,(pt 0 0)),(3,sc 1 0 1 n4 c4),(4,zI z7),(5,zI z8),(6,zI z9),(17,(zB (ilt z9 (Int.ofNat (Sl.n s4)))))]) (hp 2 [(oC [zI z10,Sl.v 1 s4]),oC q5]) (.k [1] [] [.tmp 1 false,.tmp 3 false] [1,3,4,5,6,17] ⟨trF h5,trivial⟩) ?_
     replace hm:=bb_cases hm;rcases hm with ⟨h6,hm⟩ | ⟨h6,hm⟩
     ·refine .ifT (ilt z9 (Int.ofNat (Sl.n s4))) (by kernel_rfl) h6 ?_
      refine .skip ?_
      refine .ghs (fr 39 [(1,(pt 0 0)),(3,sc 1 0 1 n4 c4),(4,zI z7),(5,zI z8),(6,zI z9)]) (hp 2 [(oC [zI z10,Sl.v 1 s4]),oC q5]) (.k [1] [] [.tmp 1 false,.tmp 3 false] [1,3,4,5,6] ⟨trF h5,trivial⟩) ?_
      refine .join (v:=v) (fun y:Nat×Nat×Int×Int×Int×Int×Sl×LV=>((fr 39 [(1,(pt 0 0)),(3,(sc 1 0 1 y.1 y.2.1)),(4,(zI y.2.2.1)),(5,(zI y.2.2.2.1)),(6,(zI y.2.2.2.2.1))]),(hp 2 [(oC [(zI y.2.2.2.2.2.1),(Sl.v 1 y.2.2.2.2.2.2.1)]),(oC y.2.2.2.2.2.2.2)]))) (fun y=>m75_5 pu n (l75_1 pu n w0) (l75_4 pu n (l75_1 pu n w0) w1) y.1 y.2.1 y.2.2.1 y.2.2.2.1 y.2.2.2.2.1 y.2.2.2.2.2.1 y.2.2.2.2.2.2.1 y.2.2.2.2.2.2.2) ?_ ?_
      ·rintro ⟨n5, c5, z11, z12, z13, z14, s5, q6⟩ hm
       unfold m75_5 at hm
       refine .rK ?_
       replace hm:=bb_inv hm;obtain ⟨h7,hm⟩:=hm
       exact ⟨(n5,c5,z11,z12,(wrapF .i64 (Int.add z13 (1:Int))),z14,s5,q6),hm,(.k [1] [] [.tmp 1 false,.tmp 3 false] [1,3,4,5,6] ⟨trF h7,trivial⟩)⟩
      ·refine .block ?_
       refine .then ?_
       replace hm:=oo_inv hm;obtain ⟨k1,h8,hm⟩:=hm
       obtain rfl:=toN_some h8
       replace hm:=bb_inv hm;obtain ⟨h9,hm⟩:=hm
       replace hm:=oo_inv hm;obtain ⟨v2,h10,hm⟩:=hm
       replace hm:=inv_toI hm;obtain ⟨x1,rfl,hm⟩:=hm
       replace hm:=oo_inv hm;obtain ⟨v3,h11,hm⟩:=hm
       replace hm:=inv_toI hm;obtain ⟨x2,rfl,hm⟩:=hm
       replace hm:=oo_inv hm;obtain ⟨v4,h12,hm⟩:=hm
       replace hm:=inv_vBool hm;obtain ⟨b0,rfl,hm⟩:=hm
       refine .reg (eC 4 (keep (hp 2 [(oC [zI z10,Sl.v 1 s4]),oC q5]) (bb (an (Nat.blt k1 (Sl.n s4)) true) (some (fpV (k1 * 1) (Sl.cs s4))) none)) (keep_bb h9) (eD (keep (hp 2 [(oC [zI z10,Sl.v 1 s4]),oC q5]) (nthL (Sl.cs s4) (k1 * 1))) (keep_eq h10) (eC 4 ((oo (pu 64 [(zI (wrapF .i64 (Int.add x1 z7))),zI z10]) none fun v=>some (v,(hp 2 [(oC [zI z10,Sl.v 1 s4]),oC q5])))) (call_eq h11) (eD ((oo (pu 63 [(.agg ⟨[zI z10,Sl.v 1 s4]⟩),zI x2]) none fun v=>some (v,(hp 2 [(oC [zI z10,Sl.v 1 s4]),oC q5])))) (call_eq h12) (eE))))) ?_
       refine .ghs (fr 39 [(1,(pt 0 0)),(3,sc 1 0 1 n4 c4),(4,zI z7),(5,zI z8),(6,(zI (Int.ofNat k1))),(31,zB b0)]) (hp 2 [(oC [zI z10,Sl.v 1 s4]),oC q5]) (.k [1] [] [.tmp 1 false,.tmp 3 false] [1,3,4,5,6,31] ⟨trF h5,trivial⟩) ?_
       replace hm:=bb_cases hm;rcases hm with ⟨h13,hm⟩ | ⟨h13,hm⟩
       ·refine .ifT b0 (by kernel_rfl) h13 ?_
        refine .rK ?_
        exact ⟨(n4,c4,z7,(wrapF .i64 (Int.add z8 (1:Int))),(Int.ofNat k1),z10,s4,q5),hm,(.k [1] [] [.tmp 1 false,.tmp 3 false] [1,3,4,5,6] ⟨trF h5,trivial⟩)⟩
       ·refine .ifF b0 (by kernel_rfl) h13 ?_
        refine .skip ?_
        exact ⟨(n4,c4,z7,z8,(Int.ofNat k1),z10,s4,q5),hm,(.k [1] [] [.tmp 1 false,.tmp 3 false] [1,3,4,5,6] ⟨trF h5,trivial⟩)⟩
     ·refine .ifF (ilt z9 (Int.ofNat (Sl.n s4))) (by kernel_rfl) h6 ?_
      refine .exit ?_
      exact ⟨(n4,c4,z7,z8,z10,s4,q5),hm,(.k [1] [] [.tmp 1 false,.tmp 3 false] [1,3,4,5] ⟨trF h5,trivial⟩)⟩
  ·refine .ifF (ilt z0 z1) (by kernel_rfl) h1 ?_
   refine .exit ?_
   exact ⟨(n1,c1,q2),hm,(.k [1] [] [.tmp 3 false] [3] ⟨trF h0,trivial⟩)⟩
def m77_0 (pu:PureF) (n:Nat):OV:=
 (some (.int .i64 (0:Int)))
def b77_1 (pu:PureF) (n:Nat) (ih0:Sl→Int→OV) (s0:Sl) (z0:Int):OV:=
 (bb (ilt z0 (Int.ofNat (Sl.n s0))) (oo (toN z0) none fun k1=>(bb (an (Nat.blt k1 (Sl.n s0)) true) (oo (nthL (Sl.cs s0) (k1 * 1)) none fun v0=>(oo (toI .i64 v0) none fun x0=>(bb (ilt (1:Int) x0) (some (.int .i64 (wrapF .i64 (Int.add (Int.ofNat k1) (1:Int))))) (ih0 s0 (wrapF .i64 (Int.add (Int.ofNat k1) (1:Int))))))) none)) (m77_0 pu n))
def l77_1 (pu:PureF) (n w:Nat):Sl→Int→OV:=
 Nat.rec (motive:=fun _=>Sl→Int→OV) (fun _ _=>none) (fun _ ih0=>b77_1 pu n ih0) w
def m77_ (pu:PureF) (n:Nat) (x0:Int) (s0:Sl):OV:=
 (oo (pu 75 [(.agg ⟨[.int .i64 x0,Sl.v 1 s0]⟩)]) none fun v0=>(oo (toSl 1 v0) none fun s1=>(l77_1 pu n n s1 (0:Int))))
def m77 (pu:PureF) (n:Nat) (args:LV):OV:=
 (ll args none fun a0 args=>(ll args (oo (vAgg a0) none fun l0=>(ll l0 none fun v0 l0=>(ll l0 none fun v1 l0=>(ll l0 (oo (toI .i64 v0) none fun x0=>(oo (toSl 1 v1) none fun s0=>(m77_ pu n x0 s0))) fun _ _=>none)))) fun _ _=>none))
theorem w77_0 (pu:PureF) (n:Nat) {v:Value} (hm:m77_0 pu n = some v):Run tt (callP tabs isP pu (inl pu)) 0 c77_19 (fr 20 []) (hp 0 []) (Fin tt 0 [.tmp 2] v):=by
 unfold m77_0 at hm
 refine .then (.rK ?_)
 refine .ghs (fr 20 [(2,(zI (0:Int)))]) (hp 0 []) (.k0 [] [] [2]) ?_
 refine .ret ?_
 exact fin_ret (zI (0:Int)) (by kernel_rfl) (by kernel_rfl) hm
theorem r77 {call:CallF} (pu:PureF) (n:Nat) (hcall:call = callP tabs isP pu (inl pu)) {args:LV} {v:Value} (hm:m77 pu n args = some v) (_:∀ x ∈ args,closed2 x = true):args.length≤20∧Run tt call 0 c77_22 (Fr.made 20 args) (pureHeap tabs) (Fin tt 0 [.tmp 2] v):=by
 subst hcall
 unfold m77 at hm
 replace hm:=ll_uncons hm;obtain ⟨a0,args_0,rfl,hm⟩:=hm
 replace hm:=ll_end hm;obtain ⟨rfl,hm⟩:=hm
 replace hm:=inv_vAgg hm;obtain ⟨l0,rfl,hm⟩:=hm
 replace hm:=ll_uncons hm;obtain ⟨v0,l5578_0,rfl,hm⟩:=hm
 replace hm:=ll_uncons hm;obtain ⟨v1,l5578_1,rfl,hm⟩:=hm
 replace hm:=ll_end hm;obtain ⟨rfl,hm⟩:=hm
 replace hm:=inv_toI hm;obtain ⟨x0,rfl,hm⟩:=hm
 replace hm:=inv_toSl hm;obtain ⟨s0,rfl,hm⟩:=hm
 unfold m77_ at hm
 refine ⟨by simp,?_⟩
 refine .same (F':=(fr 20 [(0,(.agg ⟨[zI x0,Sl.v 1 s0]⟩))])) (H':=(hp 0 [])) (by kernel_rfl) (by kernel_rfl) ?_
 refine .then (.rK ?_)
 refine .ghs (fr 20 [(1,(pt 0 0))]) (hp 1 [(oC [zI x0,Sl.v 1 s0])]) (.k0 [] [.tmp 1 false] [1]) ?_
 refine .then ?_
 replace hm:=oo_inv hm;obtain ⟨v2,h0,hm⟩:=hm
 replace hm:=inv_toSl hm;obtain ⟨s1,rfl,hm⟩:=hm
 refine .reg (eC 1 ((oo (pu 75 [(.agg ⟨[zI x0,Sl.v 1 s0]⟩)]) none fun v=>some (v,(hp 1 [(oC [zI x0,Sl.v 1 s0])])))) (call_eq h0) (eE)) ?_
 refine .ghs (fr 20 [(3,Sl.v 1 s1)]) (hp 0 []) (.k0 [] [] [3]) ?_
 refine .join (v:=v) (fun y:Unit=>((fr 20 []),(hp 0 []))) (fun y=>m77_0 pu n) ?_ ?_
 ·rintro _ hm
  exact w77_0 pu n hm
 ·refine .then (.rK ?_)
  refine .ghs (fr 20 [(3,Sl.v 1 s1),(4,(zI (0:Int)))]) (hp 0 []) (.k0 [] [] [3,4]) ?_
  refine .block ?_
  refine .loopM (v:=v) (fun y:Sl×Int=>((fr 20 [(3,(Sl.v 1 y.1)),(4,(zI y.2))]),(hp 0 []))) (fun w y=>l77_1 pu n w y.1 y.2) n ⟨(s1,(0:Int)),hm,(.k0 [] [] [3,4])⟩ (fun _=>rfl) ?_
  rintro w0 ⟨s2,z0⟩ hm
  replace hm:b77_1 pu n (l77_1 pu n w0) s2 z0 = some v:=hm
  unfold b77_1 at hm
  refine .then ?_
  refine .then (.rK ?_)
  refine .ghs (fr 20 [(3,Sl.v 1 s2),(4,zI z0),(10,(zB (ilt z0 (Int.ofNat (Sl.n s2)))))]) (hp 0 []) (.k0 [] [] [3,4,10]) ?_
  replace hm:=bb_cases hm;rcases hm with ⟨h1,hm⟩ | ⟨h1,hm⟩
  ·refine .ifT (ilt z0 (Int.ofNat (Sl.n s2))) (by kernel_rfl) h1 ?_
   refine .skip ?_
   refine .ghs (fr 20 [(3,Sl.v 1 s2),(4,zI z0)]) (hp 0 []) (.k0 [] [] [3,4]) ?_
   refine .then ?_
   refine .block ?_
   refine .then ?_
   replace hm:=oo_inv hm;obtain ⟨k1,h2,hm⟩:=hm
   obtain rfl:=toN_some h2
   replace hm:=bb_inv hm;obtain ⟨h3,hm⟩:=hm
   replace hm:=oo_inv hm;obtain ⟨v3,h4,hm⟩:=hm
   replace hm:=inv_toI hm;obtain ⟨x1,rfl,hm⟩:=hm
   refine .reg (eC 2 (keep (hp 0 []) (bb (an (Nat.blt k1 (Sl.n s2)) true) (some (fpV (k1 * 1) (Sl.cs s2))) none)) (keep_bb h3) (eD (keep (hp 0 []) (nthL (Sl.cs s2) (k1 * 1))) (keep_eq h4) (eE))) ?_
   refine .ghs (fr 20 [(3,Sl.v 1 s2),(4,(zI (Int.ofNat k1))),(17,(zB (ilt (1:Int) x1)))]) (hp 0 []) (.k0 [] [] [3,4,17]) ?_
   replace hm:=bb_cases hm;rcases hm with ⟨h5,hm⟩ | ⟨h5,hm⟩
   ·refine .ifT (ilt (1 : Int) x1) (by kernel_rfl) h5 ?_
    refine .then (.rK ?_)
    refine .ghs (fr 20 [(2,(zI (wrapF .i64 (Int.add (Int.ofNat k1) (1:Int)))))]) (hp 0 []) (.k0 [] [] [2]) ?_
    refine .ret ?_
    exact fin_ret (zI (wrapF .i64 (Int.add (Int.ofNat k1) (1:Int)))) (by kernel_rfl) (by kernel_rfl) hm
   ·refine .ifF (ilt (1 : Int) x1) (by kernel_rfl) h5 ?_
    refine .skip ?_
    refine .ghs (fr 20 [(3,Sl.v 1 s2),(4,(zI (Int.ofNat k1)))]) (hp 0 []) (.k0 [] [] [3,4]) ?_
    refine .rK ?_
    exact ⟨(s2,(wrapF .i64 (Int.add (Int.ofNat k1) (1:Int)))),hm,(.k0 [] [] [3,4])⟩
  ·refine .ifF (ilt z0 (Int.ofNat (Sl.n s2))) (by kernel_rfl) h1 ?_
   refine .exit ?_
   exact ⟨(),hm,(.k0 [] [] [])⟩
def m89_0 (pu:PureF) (n:Nat):OV:=
 (some (.bool true))
def m89_2 (pu:PureF) (n:Nat) (ih0:Int→Int→Int→OV) (z0 z1 z2:Int) (b0:Bool):OV:=
 (bb b0 (some (.bool false)) (ih0 z0 z1 (wrapF .i64 (Int.add z2 (1:Int)))))
def b89_1 (pu:PureF) (n:Nat) (ih0:Int→Int→Int→OV) (z0 z1 z2:Int):OV:=
 (bb (nt (ilt (bb (ilt z1 z0) z1 z0) z2)) (bb (nt (ieq z2 (0:Int))) (bb (ieq (Int.tmod z0 z2) (0:Int)) (bb (nt (ieq z2 (0:Int))) (m89_2 pu n ih0 z0 z1 z2 (ieq (Int.tmod z1 z2) (0:Int))) none) (m89_2 pu n ih0 z0 z1 z2 false)) none) (m89_0 pu n))
def l89_1 (pu:PureF) (n w:Nat):Int→Int→Int→OV:=
 Nat.rec (motive:=fun _=>Int→Int→Int→OV) (fun _ _ _=>none) (fun _ ih0=>b89_1 pu n ih0) w
def m89_ (pu:PureF) (n:Nat) (x0 x1:Int):OV:=
 (l89_1 pu n n x0 x1 (2:Int))
def m89 (pu:PureF) (n:Nat) (args:LV):OV:=
 (ll args none fun a0 args=>(ll args none fun a1 args=>(ll args (oo (toI .i64 a0) none fun x0=>(oo (toI .i64 a1) none fun x1=>(m89_ pu n x0 x1))) fun _ _=>none)))
theorem w89_0 (pu:PureF) (n:Nat) {v:Value} (hm:m89_0 pu n = some v):Run tt (callP tabs isP pu (inl pu)) 0 c89_18 (fr 23 []) (hp 0 []) (Fin tt 0 [.tmp 4] v):=by
 unfold m89_0 at hm
 refine .then (.rK ?_)
 refine .ghs (fr 23 [(4,zB true)]) (hp 0 []) (.k0 [] [] [4]) ?_
 refine .ret ?_
 exact fin_ret (zB true) (by kernel_rfl) (by kernel_rfl) hm
theorem r89 {call:CallF} (pu:PureF) (n:Nat) (hcall:call = callP tabs isP pu (inl pu)) {args:LV} {v:Value} (hm:m89 pu n args = some v) (_:∀ x ∈ args,closed2 x = true):args.length≤23∧Run tt call 0 c89_20 (Fr.made 23 args) (pureHeap tabs) (Fin tt 0 [.tmp 4] v):=by
 subst hcall
 unfold m89 at hm
 replace hm:=ll_uncons hm;obtain ⟨a0,args_0,rfl,hm⟩:=hm
 replace hm:=ll_uncons hm;obtain ⟨a1,args_1,rfl,hm⟩:=hm
 replace hm:=ll_end hm;obtain ⟨rfl,hm⟩:=hm
 replace hm:=inv_toI hm;obtain ⟨x0,rfl,hm⟩:=hm
 replace hm:=inv_toI hm;obtain ⟨x1,rfl,hm⟩:=hm
 unfold m89_ at hm
 refine ⟨by simp,?_⟩
 refine .same (F':=(fr 23 [(0,zI x0),(1,zI x1)])) (H':=(hp 0 [])) (by kernel_rfl) (by kernel_rfl) ?_
 refine .then (.rK ?_)
 refine .ghs (fr 23 [(0,zI x0),(1,zI x1)]) (hp 0 []) (.k0 [] [] [0,1]) ?_
 refine .join (v:=v) (fun y:Unit=>((fr 23 []),(hp 0 []))) (fun y=>m89_0 pu n) ?_ ?_
 ·rintro _ hm
  exact w89_0 pu n hm
 ·refine .then (.rK ?_)
  refine .ghs (fr 23 [(0,zI x0),(1,zI x1),(5,(zI (2:Int)))]) (hp 0 []) (.k0 [] [] [0,1,5]) ?_
  refine .block ?_
  refine .loopM (v:=v) (fun y:Int×Int×Int=>((fr 23 [(0,(zI y.1)),(1,(zI y.2.1)),(5,(zI y.2.2))]),(hp 0 []))) (fun w y=>l89_1 pu n w y.1 y.2.1 y.2.2) n ⟨(x0,x1,(2:Int)),hm,(.k0 [] [] [0,1,5])⟩ (fun _=>rfl) ?_
  rintro w0 ⟨z0,z1,z2⟩ hm
  replace hm:b89_1 pu n (l89_1 pu n w0) z0 z1 z2 = some v:=hm
  unfold b89_1 at hm
  refine .then ?_
  refine .then (.rK ?_)
  refine .ghs (fr 23 [(0,zI z0),(1,zI z1),(5,zI z2),(10,(zB (nt (ilt (bb (ilt z1 z0) z1 z0) z2))))]) (hp 0 []) (.k0 [] [] [0,1,5,10]) ?_
  replace hm:=bb_cases hm;rcases hm with ⟨h0,hm⟩ | ⟨h0,hm⟩
  ·refine .ifT (nt (ilt (bb (ilt z1 z0) z1 z0) z2)) (by kernel_rfl) h0 ?_
   refine .skip ?_
   refine .ghs (fr 23 [(0,zI z0),(1,zI z1),(5,zI z2)]) (hp 0 []) (.k0 [] [] [0,1,5]) ?_
   refine .then ?_
   refine .block ?_
   refine .join (v:=v) (fun y:Int×Int×Int×Bool=>((fr 23 [(0,(zI y.1)),(1,(zI y.2.1)),(5,(zI y.2.2.1)),(22,(zB y.2.2.2))]),(hp 0 []))) (fun y=>m89_2 pu n (l89_1 pu n w0) y.1 y.2.1 y.2.2.1 y.2.2.2) ?_ ?_
   ·rintro ⟨z3, z4, z5, b0⟩ hm
    unfold m89_2 at hm
    replace hm:=bb_cases hm;rcases hm with ⟨h1,hm⟩ | ⟨h1,hm⟩
    ·refine .ifT b0 (by kernel_rfl) h1 ?_
     refine .then (.rK ?_)
     refine .ghs (fr 23 [(4,zB false)]) (hp 0 []) (.k0 [] [] [4]) ?_
     refine .ret ?_
     exact fin_ret (zB false) (by kernel_rfl) (by kernel_rfl) hm
    ·refine .ifF b0 (by kernel_rfl) h1 ?_
     refine .skip ?_
     refine .ghs (fr 23 [(0,zI z3),(1,zI z4),(5,zI z5)]) (hp 0 []) (.k0 [] [] [0,1,5]) ?_
     refine .rK ?_
     exact ⟨(z3,z4,(wrapF .i64 (Int.add z5 (1:Int)))),hm,(.k0 [] [] [0,1,5])⟩
   ·replace hm := bb_inv hm; obtain ⟨h2, hm⟩ := hm
    replace hm:=bb_cases hm;rcases hm with ⟨h3,hm⟩ | ⟨h3,hm⟩
    ·replace hm := bb_inv hm; obtain ⟨h4, hm⟩ := hm
     refine .reg (eC 2 (keep (hp 0 []) (bb (ieq z2 (0:Int)) none (some (zI (Int.tmod z0 z2))))) (keep_nb h2) (eD (some ((zB (ieq (Int.tmod z0 z2) (0:Int))),(hp 0 []))) (show _ = some ((zB true),_) from (by rw [h3])) (eC 3 (keep (hp 0 []) (bb (ieq z2 (0:Int)) none (some (zI (Int.tmod z1 z2))))) (keep_nb h4) (eE)))) ?_
     exact ⟨(z0,z1,z2,(ieq (Int.tmod z1 z2) (0:Int))),hm,(.k0 [] [] [0,1,5,22])⟩
    ·refine .reg (eC 2 (keep (hp 0 []) (bb (ieq z2 (0 : Int)) none (some (zI (Int.tmod z0 z2))))) (keep_nb h2) (eD (some ((zB (ieq (Int.tmod z0 z2) (0 : Int))), (hp 0 []))) (show _ = some ((zB false), _) from (by rw [h3])) (eE))) ?_
     exact ⟨(z0,z1,z2,false),hm,(.k0 [] [] [0,1,5,22])⟩
  ·refine .ifF (nt (ilt (bb (ilt z1 z0) z1 z0) z2)) (by kernel_rfl) h0 ?_
   refine .exit ?_
   exact ⟨(),hm,(.k0 [] [] [])⟩
def m90_0 (pu:PureF) (n:Nat) (z0:Int):OV:=
 (some (.int .i64 z0))
def b90_1 (pu:PureF) (n:Nat) (ih0:Int→Int→OV) (z0 z1:Int):OV:=
 (bb (ilt (0:Int) z1) (bb (nt (ieq z1 (0:Int))) (ih0 z1 (Int.tmod z0 z1)) none) (m90_0 pu n z0))
def l90_1 (pu:PureF) (n w:Nat):Int→Int→OV:=
 Nat.rec (motive:=fun _=>Int→Int→OV) (fun _ _=>none) (fun _ ih0=>b90_1 pu n ih0) w
def m90_ (pu:PureF) (n:Nat) (x0 x1:Int):OV:=
 (l90_1 pu n n x0 x1)
def m90 (pu:PureF) (n:Nat) (args:LV):OV:=
 (ll args none fun a0 args=>(ll args none fun a1 args=>(ll args (oo (toI .i64 a0) none fun x0=>(oo (toI .i64 a1) none fun x1=>(m90_ pu n x0 x1))) fun _ _=>none)))
theorem w90_0 (pu:PureF) (n:Nat) (z0:Int) {v:Value} (hm:m90_0 pu n z0 = some v):Run tt (callP tabs isP pu (inl pu)) 0 c90_10 (fr 12 [(0,zI z0)]) (hp 0 []) (Fin tt 0 [.tmp 4] v):=by
 unfold m90_0 at hm
 refine .then (.rK ?_)
 refine .ghs (fr 12 [(4,zI z0)]) (hp 0 []) (.k0 [] [] [4]) ?_
 refine .ret ?_
 exact fin_ret (zI z0) (by kernel_rfl) (by kernel_rfl) hm
theorem r90 {call:CallF} (pu:PureF) (n:Nat) (hcall:call = callP tabs isP pu (inl pu)) {args:LV} {v:Value} (hm:m90 pu n args = some v) (_:∀ x ∈ args,closed2 x = true):args.length≤12∧Run tt call 0 c90_12 (Fr.made 12 args) (pureHeap tabs) (Fin tt 0 [.tmp 4] v):=by
 subst hcall
 unfold m90 at hm
 replace hm:=ll_uncons hm;obtain ⟨a0,args_0,rfl,hm⟩:=hm
 replace hm:=ll_uncons hm;obtain ⟨a1,args_1,rfl,hm⟩:=hm
 replace hm:=ll_end hm;obtain ⟨rfl,hm⟩:=hm
 replace hm:=inv_toI hm;obtain ⟨x0,rfl,hm⟩:=hm
 replace hm:=inv_toI hm;obtain ⟨x1,rfl,hm⟩:=hm
 unfold m90_ at hm
 refine ⟨by simp,?_⟩
 refine .same (F':=(fr 12 [(0,zI x0),(1,zI x1)])) (H':=(hp 0 [])) (by kernel_rfl) (by kernel_rfl) ?_
 refine .then (.rK ?_)
 refine .ghs (fr 12 [(0,zI x0),(1,zI x1)]) (hp 0 []) (.k0 [] [] [0,1]) ?_
 refine .join (v:=v) (fun y:Int=>((fr 12 [(0,zI y)]),(hp 0 []))) (fun y=>m90_0 pu n y) ?_ ?_
 ·rintro z0 hm
  exact w90_0 pu n z0 hm
 ·refine .block ?_
  refine .loopM (v:=v) (fun y:Int×Int=>((fr 12 [(0,(zI y.1)),(1,(zI y.2))]),(hp 0 []))) (fun w y=>l90_1 pu n w y.1 y.2) n ⟨(x0,x1),hm,(.k0 [] [] [0,1])⟩ (fun _=>rfl) ?_
  rintro w0 ⟨z1,z2⟩ hm
  replace hm:b90_1 pu n (l90_1 pu n w0) z1 z2 = some v:=hm
  unfold b90_1 at hm
  refine .then ?_
  refine .then (.rK ?_)
  refine .ghs (fr 12 [(0,zI z1),(1,zI z2),(6,(zB (ilt (0:Int) z2)))]) (hp 0 []) (.k0 [] [] [0,1,6]) ?_
  replace hm:=bb_cases hm;rcases hm with ⟨h0,hm⟩ | ⟨h0,hm⟩
  ·refine .ifT (ilt (0 : Int) z2) (by kernel_rfl) h0 ?_
   refine .skip ?_
   refine .ghs (fr 12 [(0,zI z1),(1,zI z2)]) (hp 0 []) (.k0 [] [] [0,1]) ?_
   refine .block ?_
   replace hm:=bb_inv hm;obtain ⟨h1,hm⟩:=hm
   refine .reg (eC 3 (keep (hp 0 []) (bb (ieq z2 (0:Int)) none (some (zI (Int.tmod z1 z2))))) (keep_nb h1) (eE)) ?_
   exact ⟨(z2,(Int.tmod z1 z2)),hm,(.k0 [] [] [0,1])⟩
  ·refine .ifF (ilt (0 : Int) z2) (by kernel_rfl) h0 ?_
   refine .exit ?_
   exact ⟨z1,hm,(.k0 [] [] [0])⟩

def m92_ (pu:PureF) (n:Nat) (x0 x1:Int):OV:=
 (oo (pu 98 [.int .i64 x0]) none fun v0=>(oo (vBool v0) none fun b0=>(oo (pu 98 [.int .i64 x1]) none fun v1=>(oo (vBool v1) none fun b1=>(bb b0 (bb b1 (some (.int .i64 (0:Int))) (some (.int .i64 (-1:Int)))) (bb b1 (some (.int .i64 (1:Int))) (bb (ilt x0 x1) (some (.int .i64 (-1:Int))) (bb (ilt x1 x0) (some (.int .i64 (1:Int))) (some (.int .i64 (0:Int)))))))))))
def m92 (pu:PureF) (n:Nat) (args:LV):OV:=
 (ll args none fun a0 args=>(ll args none fun a1 args=>(ll args (oo (toI .i64 a0) none fun x0=>(oo (toI .i64 a1) none fun x1=>(m92_ pu n x0 x1))) fun _ _=>none)))
theorem r92 {call:CallF} (pu:PureF) (n:Nat) (hcall:call = callP tabs isP pu (inl pu)) {args:LV} {v:Value} (hm:m92 pu n args = some v) (_:∀ x ∈ args,closed2 x = true):args.length≤20∧Run tt call 0 c92_37 (Fr.made 20 args) (pureHeap tabs) (Fin tt 0 [.tmp 4] v):=by
 subst hcall
 unfold m92 at hm
 replace hm:=ll_uncons hm;obtain ⟨a0,args_0,rfl,hm⟩:=hm
 replace hm:=ll_uncons hm;obtain ⟨a1,args_1,rfl,hm⟩:=hm
 replace hm:=ll_end hm;obtain ⟨rfl,hm⟩:=hm
 replace hm:=inv_toI hm;obtain ⟨x0,rfl,hm⟩:=hm
 replace hm:=inv_toI hm;obtain ⟨x1,rfl,hm⟩:=hm
 unfold m92_ at hm
 refine ⟨by simp,?_⟩
 refine .same (F':=(fr 20 [(0,zI x0),(1,zI x1)])) (H':=(hp 0 [])) (by kernel_rfl) (by kernel_rfl) ?_
 refine .then (.rK ?_)
 refine .ghs (fr 20 [(0,zI x0),(1,zI x1)]) (hp 0 []) (.k0 [] [] [0,1]) ?_
 refine .then ?_
 replace hm:=oo_inv hm;obtain ⟨v0,h0,hm⟩:=hm
 replace hm:=inv_vBool hm;obtain ⟨b0,rfl,hm⟩:=hm
 refine .reg (eC 1 ((oo (pu 98 [zI x0]) none fun v=>some (v,(hp 0 [])))) (call_eq h0) (eE)) ?_
 refine .ghs (fr 20 [(0,zI x0),(1,zI x1),(5,zB b0)]) (hp 0 []) (.k0 [] [] [0,1,5]) ?_
 refine .then ?_
 replace hm:=oo_inv hm;obtain ⟨v1,h1,hm⟩:=hm
 replace hm:=inv_vBool hm;obtain ⟨b1,rfl,hm⟩:=hm
 refine .reg (eC 1 ((oo (pu 98 [zI x1]) none fun v=>some (v,(hp 0 [])))) (call_eq h1) (eE)) ?_
 refine .ghs (fr 20 [(0,zI x0),(1,zI x1),(5,zB b0),(6,zB b1)]) (hp 0 []) (.k0 [] [] [0,1,5,6]) ?_
 refine .then ?_
 refine .then (.rK ?_)
 refine .ghs (fr 20 [(0,zI x0),(1,zI x1),(6,zB b1),(11,zB b0)]) (hp 0 []) (.k0 [] [] [0,1,6,11]) ?_
 replace hm:=bb_cases hm;rcases hm with ⟨h2,hm⟩ | ⟨h2,hm⟩
 ·refine .ifT b0 (by kernel_rfl) h2 ?_
  refine .then ?_
  refine .then (.rK ?_)
  refine .ghs (fr 20 [(12,zB b1)]) (hp 0 []) (.k0 [] [] [12]) ?_
  replace hm:=bb_cases hm;rcases hm with ⟨h3,hm⟩ | ⟨h3,hm⟩
  ·refine .ifT b1 (by kernel_rfl) h3 ?_
   refine .then (.rK ?_)
   refine .ghs (fr 20 [(4,(zI (0:Int)))]) (hp 0 []) (.k0 [] [] [4]) ?_
   refine .ret ?_
   exact fin_ret (zI (0:Int)) (by kernel_rfl) (by kernel_rfl) hm
  ·refine .ifF b1 (by kernel_rfl) h3 ?_
   refine .skip ?_
   refine .ghs (fr 20 []) (hp 0 []) (.k0 [] [] []) ?_
   refine .then (.rK ?_)
   refine .ghs (fr 20 [(4,(zI (-1:Int)))]) (hp 0 []) (.k0 [] [] [4]) ?_
   refine .ret ?_
   exact fin_ret (zI (-1:Int)) (by kernel_rfl) (by kernel_rfl) hm
 ·refine .ifF b0 (by kernel_rfl) h2 ?_
  refine .skip ?_
  refine .ghs (fr 20 [(0,zI x0),(1,zI x1),(6,zB b1)]) (hp 0 []) (.k0 [] [] [0,1,6]) ?_
  refine .then ?_
  refine .then (.rK ?_)
  refine .ghs (fr 20 [(0,zI x0),(1,zI x1),(13,zB b1)]) (hp 0 []) (.k0 [] [] [0,1,13]) ?_
  replace hm:=bb_cases hm;rcases hm with ⟨h4,hm⟩ | ⟨h4,hm⟩
  ·refine .ifT b1 (by kernel_rfl) h4 ?_
   refine .then (.rK ?_)
   refine .ghs (fr 20 [(4,(zI (1:Int)))]) (hp 0 []) (.k0 [] [] [4]) ?_
   refine .ret ?_
   exact fin_ret (zI (1:Int)) (by kernel_rfl) (by kernel_rfl) hm
  ·refine .ifF b1 (by kernel_rfl) h4 ?_
   refine .skip ?_
   refine .ghs (fr 20 [(0,zI x0),(1,zI x1)]) (hp 0 []) (.k0 [] [] [0,1]) ?_
   refine .then ?_
   refine .then (.rK ?_)
   refine .ghs (fr 20 [(0,zI x0),(1,zI x1),(16,(zB (ilt x0 x1)))]) (hp 0 []) (.k0 [] [] [0,1,16]) ?_
   replace hm:=bb_cases hm;rcases hm with ⟨h5,hm⟩ | ⟨h5,hm⟩
   ·refine .ifT (ilt x0 x1) (by kernel_rfl) h5 ?_
    refine .then (.rK ?_)
    refine .ghs (fr 20 [(4,(zI (-1:Int)))]) (hp 0 []) (.k0 [] [] [4]) ?_
    refine .ret ?_
    exact fin_ret (zI (-1:Int)) (by kernel_rfl) (by kernel_rfl) hm
   ·refine .ifF (ilt x0 x1) (by kernel_rfl) h5 ?_
    refine .skip ?_
    refine .ghs (fr 20 [(0,zI x0),(1,zI x1)]) (hp 0 []) (.k0 [] [] [0,1]) ?_
    refine .then ?_
    refine .then (.rK ?_)
    refine .ghs (fr 20 [(19,(zB (ilt x1 x0)))]) (hp 0 []) (.k0 [] [] [19]) ?_
    replace hm:=bb_cases hm;rcases hm with ⟨h6,hm⟩ | ⟨h6,hm⟩
    ·refine .ifT (ilt x1 x0) (by kernel_rfl) h6 ?_
     refine .then (.rK ?_)
     refine .ghs (fr 20 [(4,(zI (1:Int)))]) (hp 0 []) (.k0 [] [] [4]) ?_
     refine .ret ?_
     exact fin_ret (zI (1:Int)) (by kernel_rfl) (by kernel_rfl) hm
    ·refine .ifF (ilt x1 x0) (by kernel_rfl) h6 ?_
     refine .skip ?_
     refine .ghs (fr 20 []) (hp 0 []) (.k0 [] [] []) ?_
     refine .then (.rK ?_)
     refine .ghs (fr 20 [(4,(zI (0:Int)))]) (hp 0 []) (.k0 [] [] [4]) ?_
     refine .ret ?_
     exact fin_ret (zI (0:Int)) (by kernel_rfl) (by kernel_rfl) hm
end
end Go.RgFM
