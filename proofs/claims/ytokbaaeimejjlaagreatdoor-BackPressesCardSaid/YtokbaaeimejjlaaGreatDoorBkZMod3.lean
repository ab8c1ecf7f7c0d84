/- Made from wip. -/
import Derived.Test.YtokbaaeimejjlaaGreatDoorBkZMod1x

set_option maxRecDepth 100000
set_option maxHeartbeats 20000000
set_option linter.unusedVariables false
namespace Go.BkZM
open Go.Sp Go.BkZ
noncomputable section
def m17_0 (pu:PureF) (n:Nat):OV:=
 (some (.bool true))
def b17_1 (pu:PureF) (n:Nat) (ih0:Sl→Sl→Int→OV) (s0 s1:Sl) (z0:Int):OV:=
 (bb (ilt z0 (Int.ofNat (Sl.n s0))) (oo (toN z0) none fun k1=>(bb (an (Nat.blt k1 (Sl.n s0)) true) (oo (nthL (Sl.cs s0) (k1 * 1)) none fun v0=>(oo (toI .i64 v0) none fun x0=>(bb (an (Nat.blt k1 (Sl.n s1)) true) (oo (nthL (Sl.cs s1) (k1 * 1)) none fun v1=>(oo (toI .i64 v1) none fun x1=>(bb (nt (ieq x0 x1)) (some (.bool false)) (ih0 s0 s1 (wrapF .i64 (Int.add (Int.ofNat k1) (1:Int))))))) none))) none)) (m17_0 pu n))
def l17_1 (pu:PureF) (n w:Nat):Sl→Sl→Int→OV:=
 Nat.rec (motive:=fun _=>Sl→Sl→Int→OV) (fun _ _ _=>none) (fun _ ih0=>b17_1 pu n ih0) w
def m17_ (pu:PureF) (n:Nat) (s0 s1:Sl):OV:=
 (bb (nt (ieq (Int.ofNat (Sl.n s0)) (Int.ofNat (Sl.n s1)))) (some (.bool false)) (l17_1 pu n n s0 s1 (0:Int)))
def m17 (pu:PureF) (n:Nat) (args:LV):OV:=
 (ll args none fun a0 args=>(ll args none fun a1 args=>(ll args (oo (toSl 1 a0) none fun s0=>(oo (toSl 1 a1) none fun s1=>(m17_ pu n s0 s1))) fun _ _=>none)))
theorem w17_0 (pu:PureF) (n:Nat) {v:Value} (hm:m17_0 pu n = some v):Run tt (callP tabs isP pu (inl pu)) 1 c17_23 (fr 26 []) (hp 1 [(oT tab0)]) (Fin tt 1 [.tmp 4] v):=by
 unfold m17_0 at hm
 refine .then (.rK ?_)
 refine .ghs (fr 26 [(4,zB true)]) (hp 1 [(oT tab0)]) (.k0 [false] [] [4]) ?_
 refine .ret ?_
 exact fin_ret (zB true) (by kernel_rfl) (by kernel_rfl) hm
theorem r17 {call:CallF} (pu:PureF) (n:Nat) (hcall:call = callP tabs isP pu (inl pu)) {args:LV} {v:Value} (hm:m17 pu n args = some v) (_:∀ x ∈ args,closed2 x = true):args.length≤26∧Run tt call 1 c17_26 (Fr.made 26 args) (pureHeap tabs) (Fin tt 1 [.tmp 4] v):=by
 subst hcall
 unfold m17 at hm
 replace hm:=ll_uncons hm;obtain ⟨a0,args_0,rfl,hm⟩:=hm
 replace hm:=ll_uncons hm;obtain ⟨a1,args_1,rfl,hm⟩:=hm
 replace hm:=ll_end hm;obtain ⟨rfl,hm⟩:=hm
 replace hm:=inv_toSl hm;obtain ⟨s0,rfl,hm⟩:=hm
 replace hm:=inv_toSl hm;obtain ⟨s1,rfl,hm⟩:=hm
 unfold m17_ at hm
 refine ⟨by simp,?_⟩
 refine .same (F':=(fr 26 [(0,Sl.v 1 s0),(1,Sl.v 1 s1)])) (H':=(hp 1 [(oT tab0)])) (by kernel_rfl) (by kernel_rfl) ?_
 refine .then (.rK ?_)
 refine .ghs (fr 26 [(0,Sl.v 1 s0),(1,Sl.v 1 s1)]) (hp 1 [(oT tab0)]) (.k0 [false] [] [0,1]) ?_
 refine .then ?_
 refine .then (.rK ?_)
 refine .ghs (fr 26 [(0,Sl.v 1 s0),(1,Sl.v 1 s1),(10,(zB (nt (ieq (Int.ofNat (Sl.n s0)) (Int.ofNat (Sl.n s1))))))]) (hp 1 [(oT tab0)]) (.k0 [false] [] [0,1,10]) ?_
 replace hm:=bb_cases hm;rcases hm with ⟨h0,hm⟩ | ⟨h0,hm⟩
 ·refine .ifT (nt (ieq (Int.ofNat (Sl.n s0)) (Int.ofNat (Sl.n s1)))) (by kernel_rfl) h0 ?_
  refine .then (.rK ?_)
  refine .ghs (fr 26 [(4,zB false)]) (hp 1 [(oT tab0)]) (.k0 [false] [] [4]) ?_
  refine .ret ?_
  exact fin_ret (zB false) (by kernel_rfl) (by kernel_rfl) hm
 ·refine .ifF (nt (ieq (Int.ofNat (Sl.n s0)) (Int.ofNat (Sl.n s1)))) (by kernel_rfl) h0 ?_
  refine .skip ?_
  refine .ghs (fr 26 [(0,Sl.v 1 s0),(1,Sl.v 1 s1)]) (hp 1 [(oT tab0)]) (.k0 [false] [] [0,1]) ?_
  refine .join (v:=v) (fun y:Unit=>((fr 26 []),(hp 1 [(oT tab0)]))) (fun y=>m17_0 pu n) ?_ ?_
  ·rintro _ hm
   exact w17_0 pu n hm
  ·refine .then (.rK ?_)
   refine .ghs (fr 26 [(0,Sl.v 1 s0),(1,Sl.v 1 s1),(5,(zI (0:Int)))]) (hp 1 [(oT tab0)]) (.k0 [false] [] [0,1,5]) ?_
   refine .block ?_
   refine .loopM (v:=v) (fun y:Sl×Sl×Int=>((fr 26 [(0,(Sl.v 1 y.1)),(1,(Sl.v 1 y.2.1)),(5,(zI y.2.2))]),(hp 1 [(oT tab0)]))) (fun w y=>l17_1 pu n w y.1 y.2.1 y.2.2) n ⟨(s0,s1,(0:Int)),hm,(.k0 [false] [] [0,1,5])⟩ (fun _=>rfl) ?_
   rintro w0 ⟨s2,s3,z0⟩ hm
   replace hm:b17_1 pu n (l17_1 pu n w0) s2 s3 z0 = some v:=hm
   unfold b17_1 at hm
   refine .then ?_
   refine .then (.rK ?_)
   refine .ghs (fr 26 [(0,Sl.v 1 s2),(1,Sl.v 1 s3),(5,zI z0),(14,(zB (ilt z0 (Int.ofNat (Sl.n s2)))))]) (hp 1 [(oT tab0)]) (.k0 [false] [] [0,1,5,14]) ?_
   replace hm:=bb_cases hm;rcases hm with ⟨h1,hm⟩ | ⟨h1,hm⟩
   ·refine .ifT (ilt z0 (Int.ofNat (Sl.n s2))) (by kernel_rfl) h1 ?_
    refine .skip ?_
    refine .ghs (fr 26 [(0,Sl.v 1 s2),(1,Sl.v 1 s3),(5,zI z0)]) (hp 1 [(oT tab0)]) (.k0 [false] [] [0,1,5]) ?_
    refine .then ?_
    refine .block ?_
    refine .then ?_
    replace hm:=oo_inv hm;obtain ⟨k1,h2,hm⟩:=hm
    obtain rfl:=toN_some h2
    replace hm:=bb_inv hm;obtain ⟨h3,hm⟩:=hm
    replace hm:=oo_inv hm;obtain ⟨v0,h4,hm⟩:=hm
    replace hm:=inv_toI hm;obtain ⟨x0,rfl,hm⟩:=hm
    replace hm:=bb_inv hm;obtain ⟨h5,hm⟩:=hm
    replace hm:=oo_inv hm;obtain ⟨v1,h6,hm⟩:=hm
    replace hm:=inv_toI hm;obtain ⟨x1,rfl,hm⟩:=hm
    refine .reg (eC 2 (keep (hp 1 [(oT tab0)]) (bb (an (Nat.blt k1 (Sl.n s2)) true) (some (fpV (k1 * 1) (Sl.cs s2))) none)) (keep_bb h3) (eD (keep (hp 1 [(oT tab0)]) (nthL (Sl.cs s2) (k1 * 1))) (keep_eq h4) (eC 2 (keep (hp 1 [(oT tab0)]) (bb (an (Nat.blt k1 (Sl.n s3)) true) (some (fpV (k1 * 1) (Sl.cs s3))) none)) (keep_bb h5) (eD (keep (hp 1 [(oT tab0)]) (nthL (Sl.cs s3) (k1 * 1))) (keep_eq h6) (eE))))) ?_
    refine .ghs (fr 26 [(0,Sl.v 1 s2),(1,Sl.v 1 s3),(5,(zI (Int.ofNat k1))),(25,(zB (nt (ieq x0 x1))))]) (hp 1 [(oT tab0)]) (.k0 [false] [] [0,1,5,25]) ?_
    replace hm:=bb_cases hm;rcases hm with ⟨h7,hm⟩ | ⟨h7,hm⟩
    ·refine .ifT (nt (ieq x0 x1)) (by kernel_rfl) h7 ?_
     refine .then (.rK ?_)
     refine .ghs (fr 26 [(4,zB false)]) (hp 1 [(oT tab0)]) (.k0 [false] [] [4]) ?_
     refine .ret ?_
     exact fin_ret (zB false) (by kernel_rfl) (by kernel_rfl) hm
    ·refine .ifF (nt (ieq x0 x1)) (by kernel_rfl) h7 ?_
     refine .skip ?_
     refine .ghs (fr 26 [(0,Sl.v 1 s2),(1,Sl.v 1 s3),(5,(zI (Int.ofNat k1)))]) (hp 1 [(oT tab0)]) (.k0 [false] [] [0,1,5]) ?_
     refine .rK ?_
     exact ⟨(s2,s3,(wrapF .i64 (Int.add (Int.ofNat k1) (1:Int)))),hm,(.k0 [false] [] [0,1,5])⟩
   ·refine .ifF (ilt z0 (Int.ofNat (Sl.n s2))) (by kernel_rfl) h1 ?_
    refine .exit ?_
    exact ⟨(),hm,(.k0 [false] [] [])⟩
def m33_0 (pu:PureF) (n:Nat) (z0 z1:Int) (b0:Bool):OV:=
 (bb b0 (some (.tuple ⟨[(.int .i64 (0:Int)),(.int .i64 (2:Int))]⟩)) (oo (pu 75 [.int .i64 z0]) none fun v0=>(oo (vAgg v0) none fun l0=>(ll l0 none fun v1 l0=>(ll l0 none fun v2 l0=>(ll l0 (oo (toI .i64 v1) none fun x0=>(oo (vBool v2) none fun b1=>(oo (pu 75 [.int .i64 z1]) none fun v3=>(oo (vAgg v3) none fun l1=>(ll l1 none fun v4 l1=>(ll l1 none fun v5 l1=>(ll l1 (oo (toI .i64 v4) none fun x1=>(oo (vBool v5) none fun b2=>(oo (pu 76 [(.agg ⟨[.int .i64 x0,(.bool b1)]⟩),(.agg ⟨[.int .i64 x1,(.bool b2)]⟩)]) none fun v6=>(oo (vAgg v6) none fun l2=>(ll l2 none fun v7 l2=>(ll l2 none fun v8 l2=>(ll l2 (oo (toI .i64 v7) none fun x2=>(oo (vBool v8) none fun b4=>(oo (pu 77 [(.agg ⟨[.int .i64 x2,(.bool b4)]⟩)]) none fun v9=>(oo (toI .i64 v9) none fun x3=>(some (.tuple ⟨[.int .i64 x3,(.int .i64 (0:Int))]⟩)))))) fun _ _=>none))))))) fun _ _=>none))))))) fun _ _=>none))))))
def m33_ (pu:PureF) (n:Nat) (x0 x1:Int):OV:=
 (oo (pu 59 [(.int .i64 (0:Int)),.int .i64 x0,(.int .i64 (7:Int))]) none fun v0=>(oo (vBool v0) none fun b0=>(bb (nt b0) (m33_0 pu n x0 x1 true) (oo (pu 59 [(.int .i64 (0:Int)),.int .i64 x1,(.int .i64 (7:Int))]) none fun v1=>(oo (vBool v1) none fun b1=>(m33_0 pu n x0 x1 (nt b1)))))))
def m33 (pu:PureF) (n:Nat) (args:LV):OV:=
 (ll args none fun a0 args=>(ll args none fun a1 args=>(ll args (oo (toI .i64 a0) none fun x0=>(oo (toI .i64 a1) none fun x1=>(m33_ pu n x0 x1))) fun _ _=>none)))
theorem r33 {call:CallF} (pu:PureF) (n:Nat) (hcall:call = callP tabs isP pu (inl pu)) {args:LV} {v:Value} (hm:m33 pu n args = some v) (_:∀ x ∈ args,closed2 x = true):args.length≤20∧Run tt call 1 c33_9 (Fr.made 20 args) (pureHeap tabs) (Fin tt 1 [.tmp 4,.tmp 5] v):=by
 subst hcall
 unfold m33 at hm
 replace hm:=ll_uncons hm;obtain ⟨a0,args_0,rfl,hm⟩:=hm
 replace hm:=ll_uncons hm;obtain ⟨a1,args_1,rfl,hm⟩:=hm
 replace hm:=ll_end hm;obtain ⟨rfl,hm⟩:=hm
 replace hm:=inv_toI hm;obtain ⟨x0,rfl,hm⟩:=hm
 replace hm:=inv_toI hm;obtain ⟨x1,rfl,hm⟩:=hm
 unfold m33_ at hm
 refine ⟨by simp,?_⟩
 refine .same (F':=(fr 20 [(0,zI x0),(1,zI x1)])) (H':=(hp 1 [(oT tab0)])) (by kernel_rfl) (by kernel_rfl) ?_
 refine .then (.rK ?_)
 refine .ghs (fr 20 [(0,zI x0),(1,zI x1)]) (hp 1 [(oT tab0)]) (.k0 [false] [] [0,1]) ?_
 refine .then ?_
 refine .join (v:=v) (fun y:Int×Int×Bool=>((fr 20 [(0,(zI y.1)),(1,(zI y.2.1)),(13,(zB y.2.2))]),(hp 1 [(oT tab0)]))) (fun y=>m33_0 pu n y.1 y.2.1 y.2.2) ?_ ?_
 ·rintro ⟨z0, z1, b0⟩ hm
  unfold m33_0 at hm
  replace hm:=bb_cases hm;rcases hm with ⟨h0,hm⟩ | ⟨h0,hm⟩
  ·refine .ifT b0 (by kernel_rfl) h0 ?_
   refine .then (.rK ?_)
   refine .ghs (fr 20 [(4,(zI (0:Int))),(5,(zI (2:Int)))]) (hp 1 [(oT tab0)]) (.k0 [false] [] [4,5]) ?_
   refine .ret ?_
   exact fin_ret (.tuple ⟨[(zI (0:Int)),(zI (2:Int))]⟩) (by kernel_rfl) (by kernel_rfl) hm
  ·refine .ifF b0 (by kernel_rfl) h0 ?_
   refine .skip ?_
   refine .ghs (fr 20 [(0,zI z0),(1,zI z1)]) (hp 1 [(oT tab0)]) (.k0 [false] [] [0,1]) ?_
   refine .then ?_
   replace hm:=oo_inv hm;obtain ⟨v0,h1,hm⟩:=hm
   replace hm:=inv_vAgg hm;obtain ⟨l0,rfl,hm⟩:=hm
   replace hm:=ll_uncons hm;obtain ⟨v1,l2508_0,rfl,hm⟩:=hm
   replace hm:=ll_uncons hm;obtain ⟨v2,l2508_1,rfl,hm⟩:=hm
   replace hm:=ll_end hm;obtain ⟨rfl,hm⟩:=hm
   replace hm:=inv_toI hm;obtain ⟨x2,rfl,hm⟩:=hm
   replace hm:=inv_vBool hm;obtain ⟨b1,rfl,hm⟩:=hm
   replace hm:=oo_inv hm;obtain ⟨v3,h2,hm⟩:=hm
   replace hm:=inv_vAgg hm;obtain ⟨l1,rfl,hm⟩:=hm
   replace hm:=ll_uncons hm;obtain ⟨v4,l2518_0,rfl,hm⟩:=hm
   replace hm:=ll_uncons hm;obtain ⟨v5,l2518_1,rfl,hm⟩:=hm
   replace hm:=ll_end hm;obtain ⟨rfl,hm⟩:=hm
   replace hm:=inv_toI hm;obtain ⟨x3,rfl,hm⟩:=hm
   replace hm:=inv_vBool hm;obtain ⟨b2,rfl,hm⟩:=hm
   replace hm:=oo_inv hm;obtain ⟨v6,h3,hm⟩:=hm
   replace hm:=inv_vAgg hm;obtain ⟨l2,rfl,hm⟩:=hm
   replace hm:=ll_uncons hm;obtain ⟨v7,l2528_0,rfl,hm⟩:=hm
   replace hm:=ll_uncons hm;obtain ⟨v8,l2528_1,rfl,hm⟩:=hm
   replace hm:=ll_end hm;obtain ⟨rfl,hm⟩:=hm
   replace hm:=inv_toI hm;obtain ⟨x4,rfl,hm⟩:=hm
   replace hm:=inv_vBool hm;obtain ⟨b4,rfl,hm⟩:=hm
   replace hm:=oo_inv hm;obtain ⟨v9,h4,hm⟩:=hm
   replace hm:=inv_toI hm;obtain ⟨x5,rfl,hm⟩:=hm
   refine .reg (eC 1 ((oo (pu 75 [zI z0]) none fun v=>some (v,(hp 1 [(oT tab0)])))) (call_eq h1) (eC 1 ((oo (pu 75 [zI z1]) none fun v=>some (v,(hp 1 [(oT tab0)])))) (call_eq h2) (eD ((oo (pu 76 [(.agg ⟨[zI x2,zB b1]⟩),(.agg ⟨[zI x3,zB b2]⟩)]) none fun v=>some (v,(hp 1 [(oT tab0)])))) (call_eq h3) (eD ((oo (pu 77 [(.agg ⟨[zI x4,zB b4]⟩)]) none fun v=>some (v,(hp 1 [(oT tab0)])))) (call_eq h4) (eE))))) ?_
   refine .ghs (fr 20 [(4,zI x5),(5,(zI (0:Int)))]) (hp 1 [(oT tab0)]) (.k0 [false] [] [4,5]) ?_
   refine .ret ?_
   exact fin_ret (.tuple ⟨[zI x5,(zI (0:Int))]⟩) (by kernel_rfl) (by kernel_rfl) hm
 ·replace hm := oo_inv hm; obtain ⟨v10, h5, hm⟩ := hm
  replace hm:=inv_vBool hm;obtain ⟨b5,rfl,hm⟩:=hm
  replace hm:=bb_cases hm;rcases hm with ⟨h6,hm⟩ | ⟨h6,hm⟩
  ·refine .reg (eC 1 ((oo (pu 59 [(zI (0 : Int)), zI x0, (zI (7 : Int))]) none fun v => some (v, (hp 1 [(oT tab0)])))) (call_eq h5) (eD (some ((zB (nt b5)), (hp 1 [(oT tab0)]))) (show _ = some ((zB true), _) from (by rw [show (nt b5) = true from h6])) (eE))) ?_
   exact ⟨(x0,x1,true),hm,(.k0 [false] [] [0,1,13])⟩
  ·replace hm := oo_inv hm; obtain ⟨v11, h7, hm⟩ := hm
   replace hm:=inv_vBool hm;obtain ⟨b6,rfl,hm⟩:=hm
   refine .reg (eC 1 ((oo (pu 59 [(zI (0:Int)),zI x0,(zI (7:Int))]) none fun v=>some (v,(hp 1 [(oT tab0)])))) (call_eq h5) (eD (some ((zB (nt b5)),(hp 1 [(oT tab0)]))) (show _ = some ((zB false),_) from (by rw [show (nt b5) = false from h6])) (eC 2 ((oo (pu 59 [(zI (0:Int)),zI x1,(zI (7:Int))]) none fun v=>some (v,(hp 1 [(oT tab0)])))) (call_eq h7) (eE)))) ?_
   exact ⟨(x0,x1,(nt b6)),hm,(.k0 [false] [] [0,1,13])⟩
def m34_1 (pu:PureF) (n:Nat) (z0:Int):OV:=
 (some (.tuple ⟨[.int .i64 z0,(.int .i64 (0:Int))]⟩))
def b34_2 (pu:PureF) (n:Nat) (ih0:Sl→Sl→Int→Int→Int→Int→OV) (s0 s1:Sl) (z0 z1 z2 z3:Int):OV:=
 (oo (pu 10480 [(.agg ⟨[.int .i64 z1,.int .i64 z2,.int .i64 z3,(Sl.v 1 (Sl.mk 0 2 []))]⟩),Sl.v 1 s0,.int .i64 z0]) none fun v0=>(oo (vTup v0) none fun l0=>(ll l0 none fun v1 l0=>(ll l0 (oo (toSl 1 v1) none fun s2=>(oo (pu 50 [Sl.v 1 s2,Sl.v 1 s1]) none fun v2=>(oo (vBool v2) none fun b0=>(bb (nt b0) (ih0 s0 s1 (wrapF .i64 (Int.add z0 (1:Int))) z1 z2 z3) (m34_1 pu n z0))))) fun _ _=>none))))
def l34_2 (pu:PureF) (n w:Nat):Sl→Sl→Int→Int→Int→Int→OV:=
 Nat.rec (motive:=fun _=>Sl→Sl→Int→Int→Int→Int→OV) (fun _ _ _ _ _ _=>none) (fun _ ih0=>b34_2 pu n ih0) w
def m34_0 (pu:PureF) (n:Nat) (z0 z1:Int) (b0:Bool):OV:=
 (bb b0 (some (.tuple ⟨[(.int .i64 (0:Int)),(.int .i64 (2:Int))]⟩)) (oo (pu 10481 [(.agg ⟨[(.int .i64 (2:Int)),(.int .i64 (2:Int)),(.int .i64 (0:Int)),(Sl.v 1 (Sl.mk 0 2 []))]⟩),(.slice (some ⟨1,0,some 1⟩) 4 9),.int .i64 z0,(.agg ⟨[(.int .i64 (0:Int)),(.int .i64 (1:Int)),(.int .i64 (2:Int)),(.int .i64 (3:Int))]⟩)]) none fun v0=>(oo (vTup v0) none fun l0=>(ll l0 none fun v1 l0=>(ll l0 none fun v2 l0=>(ll l0 (oo (toSl 1 v1) none fun s0=>(oo (vAgg v2) none fun q0=>(bb (allL closed1 q0) (oo (pu 10480 [(.agg ⟨[(.int .i64 (2:Int)),(.int .i64 (2:Int)),(.int .i64 (0:Int)),(Sl.v 1 (Sl.mk 0 2 []))]⟩),Sl.v 1 s0,.int .i64 z1]) none fun v3=>(oo (vTup v3) none fun l1=>(ll l1 none fun v4 l1=>(ll l1 (oo (toSl 1 v4) none fun s1=>(bb (allL closed1 q0) (bb (an (Nat.ble (0 + 4 * 1) (len q0)) (allL closed1 (takeL (4 * 1) (dropL 0 q0)))) (l34_2 pu n n (Sl.mk 4 0 (takeL (4 * 1) (dropL 0 q0))) s1 (0:Int) (2:Int) (2:Int) (0:Int)) none) none)) fun _ _=>none)))) none))) fun _ _=>none))))))
def m34_ (pu:PureF) (n:Nat) (x0 x1:Int):OV:=
 (oo (pu 62 [.int .i64 x0,(.int .i64 (0:Int)),(.int .i64 (7:Int))]) none fun v0=>(oo (vBool v0) none fun b0=>(bb (nt b0) (m34_0 pu n x0 x1 true) (oo (pu 62 [.int .i64 x1,(.int .i64 (0:Int)),(.int .i64 (7:Int))]) none fun v1=>(oo (vBool v1) none fun b1=>(m34_0 pu n x0 x1 (nt b1)))))))
def m34 (pu:PureF) (n:Nat) (args:LV):OV:=
 (ll args none fun a0 args=>(ll args none fun a1 args=>(ll args (oo (toI .i64 a0) none fun x0=>(oo (toI .i64 a1) none fun x1=>(m34_ pu n x0 x1))) fun _ _=>none)))
theorem w34_1 (pu:PureF) (n:Nat) (z0:Int) {v:Value} (hm:m34_1 pu n z0 = some v):Run tt (callP tabs isP pu (inl pu)) 1 c34_19 (fr 37 [(9,zI z0)]) (hp 1 [(oT tab0)]) (Fin tt 1 [.tmp 4,.tmp 5] v):=by
 unfold m34_1 at hm
 refine .then (.rK ?_)
 refine .ghs (fr 37 [(4,zI z0),(5,(zI (0:Int)))]) (hp 1 [(oT tab0)]) (.k0 [false] [] [4,5]) ?_
 refine .ret ?_
 exact fin_ret (.tuple ⟨[zI z0,(zI (0:Int))]⟩) (by kernel_rfl) (by kernel_rfl) hm
theorem r34 {call:CallF} (pu:PureF) (n:Nat) (hcall:call = callP tabs isP pu (inl pu)) {args:LV} {v:Value} (hm:m34 pu n args = some v) (_:∀ x ∈ args,closed2 x = true):args.length≤37∧Run tt call 1 c34_26 (Fr.made 37 args) (pureHeap tabs) (Fin tt 1 [.tmp 4,.tmp 5] v):=by
 subst hcall
 unfold m34 at hm
 replace hm:=ll_uncons hm;obtain ⟨a0,args_0,rfl,hm⟩:=hm
 replace hm:=ll_uncons hm;obtain ⟨a1,args_1,rfl,hm⟩:=hm
 replace hm:=ll_end hm;obtain ⟨rfl,hm⟩:=hm
 replace hm:=inv_toI hm;obtain ⟨x0,rfl,hm⟩:=hm
 replace hm:=inv_toI hm;obtain ⟨x1,rfl,hm⟩:=hm
 unfold m34_ at hm
 refine ⟨by simp,?_⟩
 refine .same (F':=(fr 37 [(0,zI x0),(1,zI x1)])) (H':=(hp 1 [(oT tab0)])) (by kernel_rfl) (by kernel_rfl) ?_
 refine .then (.rK ?_)
 refine .ghs (fr 37 [(0,zI x0),(1,zI x1)]) (hp 1 [(oT tab0)]) (.k0 [false] [] [0,1]) ?_
 refine .then ?_
 refine .join (v:=v) (fun y:Int×Int×Bool=>((fr 37 [(0,(zI y.1)),(1,(zI y.2.1)),(17,(zB y.2.2))]),(hp 1 [(oT tab0)]))) (fun y=>m34_0 pu n y.1 y.2.1 y.2.2) ?_ ?_
 ·rintro ⟨z0, z1, b0⟩ hm
  unfold m34_0 at hm
  replace hm:=bb_cases hm;rcases hm with ⟨h0,hm⟩ | ⟨h0,hm⟩
  ·refine .ifT b0 (by kernel_rfl) h0 ?_
   refine .then (.rK ?_)
   refine .ghs (fr 37 [(4,(zI (0:Int))),(5,(zI (2:Int)))]) (hp 1 [(oT tab0)]) (.k0 [false] [] [4,5]) ?_
   refine .ret ?_
   exact fin_ret (.tuple ⟨[(zI (0:Int)),(zI (2:Int))]⟩) (by kernel_rfl) (by kernel_rfl) hm
  ·refine .ifF b0 (by kernel_rfl) h0 ?_
   refine .skip ?_
   refine .ghs (fr 37 [(0,zI z0),(1,zI z1)]) (hp 1 [(oT tab0)]) (.k0 [false] [] [0,1]) ?_
   refine .then (.rK ?_)
   refine .ghs (fr 37 [(0,zI z0),(1,zI z1),(6,pt 1 0)]) (hT 2 [(oC [(zI (2:Int)),(zI (2:Int)),(zI (0:Int)),(.slice none 0 0)])]) (.k0 [false] [.tmp 6 false] [0,1,6]) ?_
   refine .then (.rK ?_)
   refine .ghs (fr 37 [(0,zI z0),(1,zI z1),(6,pt 1 0),(7,sc 2 0 1 4 9)]) (hT 3 [(oC [(zI (2:Int)),(zI (2:Int)),(zI (0:Int)),(.slice none 0 0)]),(oC [(zI (0:Int)),(zI (1:Int)),(zI (2:Int)),(zI (3:Int))])]) (.k0 [false] [.tmp 6 false,.tmp 7 false] [0,1,6,7]) ?_
   refine .then ?_
   replace hm:=oo_inv hm;obtain ⟨v0,h1,hm⟩:=hm
   replace hm:=inv_vTup hm;obtain ⟨l0,rfl,hm⟩:=hm
   replace hm:=ll_uncons hm;obtain ⟨v1,l2811_0,rfl,hm⟩:=hm
   replace hm:=ll_uncons hm;obtain ⟨v2,l2811_1,rfl,hm⟩:=hm
   replace hm:=ll_end hm;obtain ⟨rfl,hm⟩:=hm
   replace hm:=inv_toSl hm;obtain ⟨s0,rfl,hm⟩:=hm
   replace hm:=inv_vAgg hm;obtain ⟨q0,rfl,hm⟩:=hm
   replace hm:=bb_inv hm;obtain ⟨h2,hm⟩:=hm
   replace hm:=oo_inv hm;obtain ⟨v3,h3,hm⟩:=hm
   replace hm:=inv_vTup hm;obtain ⟨l1,rfl,hm⟩:=hm
   replace hm:=ll_uncons hm;obtain ⟨v4,l2828_0,rfl,hm⟩:=hm
   replace hm:=ll_end hm;obtain ⟨rfl,hm⟩:=hm
   replace hm:=inv_toSl hm;obtain ⟨s1,rfl,hm⟩:=hm
   refine .reg (eC 5 (objG tabs [[none,none,none,some 1],[none],[none]] 3 [.tmp 1 false] [false] (pu 10481) [(.agg ⟨[(zI (2:Int)),(zI (2:Int)),(zI (0:Int)),(.slice none 0 0)]⟩),sc 2 0 1 4 9,zI z0] (hT 3 [(oC [(zI (2:Int)),(zI (2:Int)),(zI (0:Int)),(.slice none 0 0)]),(oC [(zI (0:Int)),(zI (1:Int)),(zI (2:Int)),(zI (3:Int))])])) (objG_eq (as:=[(.agg ⟨[(zI (2:Int)),(zI (2:Int)),(zI (0:Int)),(Sl.v 1 (Sl.mk 0 2 []))]⟩),sc 2 0 1 4 9,zI z0]) (H1:=(hT 3 [(oC [(zI (2:Int)),(zI (2:Int)),(zI (0:Int)),(.slice none 0 0)]),(oC [(zI (0:Int)),(zI (1:Int)),(zI (2:Int)),(zI (3:Int))])])) (gvAL_c (gvA_a (gvL_c gv_n (gvL_c gv_n (gvL_c gv_n (gvL_c (gv_s (giveV_nil (z:=1) (H:=(hT 3 [(oC [(zI (2:Int)),(zI (2:Int)),(zI (0:Int)),(.slice none 0 0)]),(oC [(zI (0:Int)),(zI (1:Int)),(zI (2:Int)),(zI (3:Int))])])))) gvL_n))))) (gvAL_c (gvA_1 gv_n) (gvAL_c (gvA_1 gv_n) gvAL_n))) (objF_eq (H2:=(hT 3 [(oC [(zI (2:Int)),(zI (2:Int)),(zI (0:Int)),(.slice none 0 0)]),oC q0])) (v:=(Sl.v 1 s0)) (v':=(Sl.v 1 s0)) [some 0,some 2] [(false,some 2)] [(oC [(zI (0:Int)),(zI (1:Int)),(zI (2:Int)),(zI (3:Int))])] [(.agg ⟨[(zI (2:Int)),(zI (2:Int)),(zI (0:Int)),(Sl.v 1 (Sl.mk 0 2 []))]⟩),sc 1 0 1 4 9,zI z0] [(.agg ⟨q0⟩)] [oC q0] [some 0,none,some 1] [(false,oC q0)] [oC q0] (by kernel_rfl) (mapO_c (by kernel_rfl) mapO_n) (Eq.trans (by kernel_rfl) h1) (mapO_c rfl mapO_n) (mapO_c (bO_list h2) mapO_n))) (eD (objG tabs [[none,none,none,some 1],[some 1],[none]] 3 [] [] (pu 10480) [(.agg ⟨[(zI (2:Int)),(zI (2:Int)),(zI (0:Int)),(.slice none 0 0)]⟩),Sl.v 1 s0,zI z1] (hT 3 [(oC [(zI (2:Int)),(zI (2:Int)),(zI (0:Int)),(.slice none 0 0)]),oC q0])) (objG_eq (as:=[(.agg ⟨[(zI (2:Int)),(zI (2:Int)),(zI (0:Int)),(Sl.v 1 (Sl.mk 0 2 []))]⟩),Sl.v 1 s0,zI z1]) (H1:=(hT 3 [(oC [(zI (2:Int)),(zI (2:Int)),(zI (0:Int)),(.slice none 0 0)]),oC q0])) (gvAL_c (gvA_a (gvL_c gv_n (gvL_c gv_n (gvL_c gv_n (gvL_c (gv_s (giveV_nil (z:=1) (H:=(hT 3 [(oC [(zI (2:Int)),(zI (2:Int)),(zI (0:Int)),(.slice none 0 0)]),oC q0])))) gvL_n))))) (gvAL_c (gvA_1 (gv_s (giveV_cl (z:=1) (v:=(Sl.v 1 s0)) (H:=(hT 3 [(oC [(zI (2:Int)),(zI (2:Int)),(zI (0:Int)),(.slice none 0 0)]),oC q0])) (by kernel_rfl) (by kernel_rfl) (by kernel_rfl)))) (gvAL_c (gvA_1 gv_n) gvAL_n))) (objF_eq (H2:=(hT 3 [(oC [(zI (2:Int)),(zI (2:Int)),(zI (0:Int)),(.slice none 0 0)]),oC q0])) (v:=(Sl.v 1 s1)) (v':=(Sl.v 1 s1)) [some 0] [] [] [(.agg ⟨[(zI (2:Int)),(zI (2:Int)),(zI (0:Int)),(Sl.v 1 (Sl.mk 0 2 []))]⟩),Sl.v 1 s0,zI z1] [] [] [some 0,none,none] [] [] (by kernel_rfl) mapO_n (Eq.trans (by kernel_rfl) h3) mapO_n mapO_n)) (eE))) ?_
   replace hm:=bb_inv hm;obtain ⟨h4,hm⟩:=hm
   refine .ghs (fr 37 [(6,pt 1 0),(7,sc 2 0 1 4 9),(8,Sl.v 1 s1)]) (hT 3 [(oC [(zI (2:Int)),(zI (2:Int)),(zI (0:Int)),(.slice none 0 0)]),oC q0]) (.k [2] [false] [.tmp 6 false,.tmp 7 false] [6,7,8] ⟨trF h4,trivial⟩) ?_
   refine .then (.rK ?_)
   refine .ghs (fr 37 [(6,pt 1 0),(7,sc 2 0 1 4 9),(8,Sl.v 1 s1),(9,(zI (0:Int)))]) (hT 3 [(oC [(zI (2:Int)),(zI (2:Int)),(zI (0:Int)),(.slice none 0 0)]),oC q0]) (.k [2] [false] [.tmp 6 false,.tmp 7 false] [6,7,8,9] ⟨trF h4,trivial⟩) ?_
   refine .join (v:=v) (fun y:Int=>((fr 37 [(9,zI y)]),(hp 1 [(oT tab0)]))) (fun y=>m34_1 pu n y) ?_ ?_
   ·rintro z2 hm
    exact w34_1 pu n z2 hm
   ·refine .block ?_
    replace hm:=bb_inv hm;obtain ⟨h5,hm⟩:=hm
    refine .loopM (v:=v) (fun y:Sl×Sl×Int×Int×Int×Int=>((fr 37 [(6,pt 1 0),(7,(Sl.v 1 y.1)),(8,(Sl.v 1 y.2.1)),(9,(zI y.2.2.1))]),(hT 2 [(oC [(zI y.2.2.2.1),(zI y.2.2.2.2.1),(zI y.2.2.2.2.2),(.slice none 0 0)])]))) (fun w y=>l34_2 pu n w y.1 y.2.1 y.2.2.1 y.2.2.2.1 y.2.2.2.2.1 y.2.2.2.2.2) n ⟨((Sl.mk 4 0 (takeL (4 * 1) (dropL 0 q0))),s1,(0:Int),(2:Int),(2:Int),(0:Int)),hm,(.freezeC 1 7 1 (an (Nat.ble (0 + 4 * 1) (len q0)) (allL closed1 (takeL (4 * 1) (dropL 0 q0)))) (F1:=(Fr.puts (fr 37 [(6,pt 1 0),(7,sc 2 0 1 4 9),(8,Sl.v 1 s1),(9,(zI (0:Int)))]) [(7,(Sl.v 1 (Sl.mk 4 0 (takeL (4 * 1) (dropL 0 q0)))))])) (H1:=(hT 3 [(oC [(zI (2:Int)),(zI (2:Int)),(zI (0:Int)),(.slice none 0 0)]),.dead])) (by kernel_rfl) (by kernel_rfl) h5 (.k0 [false] [.tmp 6 false] [6,7,8,9]))⟩ (fun _=>rfl) ?_
    rintro w0 ⟨s2,s3,z3,z4,z5,z6⟩ hm
    replace hm:b34_2 pu n (l34_2 pu n w0) s2 s3 z3 z4 z5 z6 = some v:=hm
    unfold b34_2 at hm
    refine .then ?_
    refine .then ?_
    replace hm:=oo_inv hm;obtain ⟨v5,h6,hm⟩:=hm
    replace hm:=inv_vTup hm;obtain ⟨l2,rfl,hm⟩:=hm
    replace hm:=ll_uncons hm;obtain ⟨v6,l2951_0,rfl,hm⟩:=hm
    replace hm:=ll_end hm;obtain ⟨rfl,hm⟩:=hm
    replace hm:=inv_toSl hm;obtain ⟨s4,rfl,hm⟩:=hm
    replace hm:=oo_inv hm;obtain ⟨v7,h7,hm⟩:=hm
    replace hm:=inv_vBool hm;obtain ⟨b1,rfl,hm⟩:=hm
    refine .reg (eC 3 (objG tabs [[none,none,none,some 1],[some 1],[none]] 3 [] [] (pu 10480) [(.agg ⟨[zI z4,zI z5,zI z6,(.slice none 0 0)]⟩),Sl.v 1 s2,zI z3] (hT 2 [(oC [zI z4,zI z5,zI z6,(.slice none 0 0)])])) (objG_eq (as:=[(.agg ⟨[zI z4,zI z5,zI z6,(Sl.v 1 (Sl.mk 0 2 []))]⟩),Sl.v 1 s2,zI z3]) (H1:=(hT 2 [(oC [zI z4,zI z5,zI z6,(.slice none 0 0)])])) (gvAL_c (gvA_a (gvL_c gv_n (gvL_c gv_n (gvL_c gv_n (gvL_c (gv_s (giveV_nil (z:=1) (H:=(hT 2 [(oC [zI z4,zI z5,zI z6,(.slice none 0 0)])])))) gvL_n))))) (gvAL_c (gvA_1 (gv_s (giveV_cl (z:=1) (v:=(Sl.v 1 s2)) (H:=(hT 2 [(oC [zI z4,zI z5,zI z6,(.slice none 0 0)])])) (by kernel_rfl) (by kernel_rfl) (by kernel_rfl)))) (gvAL_c (gvA_1 gv_n) gvAL_n))) (objF_eq (H2:=(hT 2 [(oC [zI z4,zI z5,zI z6,(.slice none 0 0)])])) (v:=(Sl.v 1 s4)) (v':=(Sl.v 1 s4)) [some 0] [] [] [(.agg ⟨[zI z4,zI z5,zI z6,(Sl.v 1 (Sl.mk 0 2 []))]⟩),Sl.v 1 s2,zI z3] [] [] [some 0,none] [] [] (by kernel_rfl) mapO_n (Eq.trans (by kernel_rfl) h6) mapO_n mapO_n)) (eC 1 ((oo (pu 50 [Sl.v 1 s4,Sl.v 1 s3]) none fun v=>some (v,(hT 2 [(oC [zI z4,zI z5,zI z6,(.slice none 0 0)])])))) (call_eq h7) (eE))) ?_
    refine .ghs (fr 37 [(6,pt 1 0),(7,Sl.v 1 s2),(8,Sl.v 1 s3),(9,zI z3),(33,(zB (nt b1)))]) (hT 2 [(oC [zI z4,zI z5,zI z6,(.slice none 0 0)])]) (.k0 [false] [.tmp 6 false] [6,7,8,9,33]) ?_
    replace hm:=bb_cases hm;rcases hm with ⟨h8,hm⟩ | ⟨h8,hm⟩
    ·refine .ifT (nt b1) (by kernel_rfl) h8 ?_
     refine .skip ?_
     refine .ghs (fr 37 [(6,pt 1 0),(7,Sl.v 1 s2),(8,Sl.v 1 s3),(9,zI z3)]) (hT 2 [(oC [zI z4,zI z5,zI z6,(.slice none 0 0)])]) (.k0 [false] [.tmp 6 false] [6,7,8,9]) ?_
     refine .block ?_
     refine .rK ?_
     exact ⟨(s2,s3,(wrapF .i64 (Int.add z3 (1:Int))),z4,z5,z6),hm,(.k0 [false] [.tmp 6 false] [6,7,8,9])⟩
    ·refine .ifF (nt b1) (by kernel_rfl) h8 ?_
     refine .exit ?_
     exact ⟨z3,hm,(.k0 [false] [] [9])⟩
 ·replace hm := oo_inv hm; obtain ⟨v8, h9, hm⟩ := hm
  replace hm:=inv_vBool hm;obtain ⟨b2,rfl,hm⟩:=hm
  replace hm:=bb_cases hm;rcases hm with ⟨h10,hm⟩ | ⟨h10,hm⟩
  ·refine .reg (eC 1 ((oo (pu 62 [zI x0, (zI (0 : Int)), (zI (7 : Int))]) none fun v => some (v, (hp 1 [(oT tab0)])))) (call_eq h9) (eD (some ((zB (nt b2)), (hp 1 [(oT tab0)]))) (show _ = some ((zB true), _) from (by rw [show (nt b2) = true from h10])) (eE))) ?_
   exact ⟨(x0,x1,true),hm,(.k0 [false] [] [0,1,17])⟩
  ·replace hm := oo_inv hm; obtain ⟨v9, h11, hm⟩ := hm
   replace hm:=inv_vBool hm;obtain ⟨b4,rfl,hm⟩:=hm
   refine .reg (eC 1 ((oo (pu 62 [zI x0,(zI (0:Int)),(zI (7:Int))]) none fun v=>some (v,(hp 1 [(oT tab0)])))) (call_eq h9) (eD (some ((zB (nt b2)),(hp 1 [(oT tab0)]))) (show _ = some ((zB false),_) from (by rw [show (nt b2) = false from h10])) (eC 2 ((oo (pu 62 [zI x1,(zI (0:Int)),(zI (7:Int))]) none fun v=>some (v,(hp 1 [(oT tab0)])))) (call_eq h11) (eE)))) ?_
   exact ⟨(x0,x1,(nt b4)),hm,(.k0 [false] [] [0,1,17])⟩

def m35_ (pu:PureF) (n:Nat) (x0 x1 x2:Int) (s0:Sl):OV:=
 (oo (pu 55 [(.agg ⟨[.int .i64 x0,.int .i64 x1,.int .i64 x2,Sl.v 1 s0]⟩)]) none fun v0=>(oo (vTup v0) none fun l0=>(ll l0 none fun v1 l0=>(ll l0 none fun v2 l0=>(ll l0 (bb (isS (vFp v1)) (oo (vFp v1) none fun p0=>(oo (toI .i64 v2) none fun x3=>(some (.int .i64 x3)))) (bb (isP0 v1) (oo (toI .i64 v2) none fun x4=>(some (.int .i64 x4))) none)) fun _ _=>none)))))
def m35 (pu:PureF) (n:Nat) (args:LV):OV:=
 (ll args none fun a0 args=>(ll args (oo (vAgg a0) none fun l0=>(ll l0 none fun v0 l0=>(ll l0 none fun v1 l0=>(ll l0 none fun v2 l0=>(ll l0 none fun v3 l0=>(ll l0 (oo (toI .i64 v0) none fun x0=>(oo (toI .i64 v1) none fun x1=>(oo (toI .i64 v2) none fun x2=>(oo (toSl 1 v3) none fun s0=>(m35_ pu n x0 x1 x2 s0))))) fun _ _=>none)))))) fun _ _=>none))
theorem r35 {call:CallF} (pu:PureF) (n:Nat) (hcall:call = callP tabs isP pu (inl pu)) {args:LV} {v:Value} (hm:m35 pu n args = some v) (_:∀ x ∈ args,closed2 x = true):args.length≤11∧Run tt call 1 c35_5 (Fr.made 11 args) (pureHeap tabs) (Fin tt 1 [.tmp 2] v):=by
 subst hcall
 unfold m35 at hm
 replace hm:=ll_uncons hm;obtain ⟨a0,args_0,rfl,hm⟩:=hm
 replace hm:=ll_end hm;obtain ⟨rfl,hm⟩:=hm
 replace hm:=inv_vAgg hm;obtain ⟨l0,rfl,hm⟩:=hm
 replace hm:=ll_uncons hm;obtain ⟨v0,l2979_0,rfl,hm⟩:=hm
 replace hm:=ll_uncons hm;obtain ⟨v1,l2979_1,rfl,hm⟩:=hm
 replace hm:=ll_uncons hm;obtain ⟨v2,l2979_2,rfl,hm⟩:=hm
 replace hm:=ll_uncons hm;obtain ⟨v3,l2979_3,rfl,hm⟩:=hm
 replace hm:=ll_end hm;obtain ⟨rfl,hm⟩:=hm
 replace hm:=inv_toI hm;obtain ⟨x0,rfl,hm⟩:=hm
 replace hm:=inv_toI hm;obtain ⟨x1,rfl,hm⟩:=hm
 replace hm:=inv_toI hm;obtain ⟨x2,rfl,hm⟩:=hm
 replace hm:=inv_toSl hm;obtain ⟨s0,rfl,hm⟩:=hm
 unfold m35_ at hm
 refine ⟨by simp,?_⟩
 refine .same (F':=(fr 11 [(0,(.agg ⟨[zI x0,zI x1,zI x2,Sl.v 1 s0]⟩))])) (H':=(hp 1 [(oT tab0)])) (by kernel_rfl) (by kernel_rfl) ?_
 refine .then (.rK ?_)
 refine .ghs (fr 11 [(1,pt 1 0)]) (hT 2 [(oC [zI x0,zI x1,zI x2,Sl.v 1 s0])]) (.k0 [false] [.tmp 1 false] [1]) ?_
 refine .then ?_
 replace hm:=oo_inv hm;obtain ⟨v4,h0,hm⟩:=hm
 replace hm:=inv_vTup hm;obtain ⟨l1,rfl,hm⟩:=hm
 replace hm:=ll_uncons hm;obtain ⟨v5,l3006_0,rfl,hm⟩:=hm
 replace hm:=ll_uncons hm;obtain ⟨v6,l3006_1,rfl,hm⟩:=hm
 replace hm:=ll_end hm;obtain ⟨rfl,hm⟩:=hm
 replace hm:=bb_cases hm;rcases hm with ⟨h1,hm⟩ | ⟨h1,hm⟩
 ·replace hm := oo_inv hm; obtain ⟨p0, h2, hm⟩ := hm
  obtain rfl:=vFp_some h2
  replace hm:=inv_toI hm;obtain ⟨x3,rfl,hm⟩:=hm
  refine .reg (eC 1 ((oo (pu 55 [(.agg ⟨[zI x0,zI x1,zI x2,Sl.v 1 s0]⟩)]) none fun v=>some (v,(hT 2 [(oC [zI x0,zI x1,zI x2,Sl.v 1 s0])])))) (call_eq h0) (eE)) ?_
  refine .ghs (fr 11 [(4,zI x3)]) (hp 1 [(oT tab0)]) (.k0 [false] [] [4]) ?_
  refine .then (.rK ?_)
  refine .ghs (fr 11 [(2,zI x3)]) (hp 1 [(oT tab0)]) (.k0 [false] [] [2]) ?_
  refine .ret ?_
  exact fin_ret (zI x3) (by kernel_rfl) (by kernel_rfl) hm
 ·replace hm := bb_inv hm; obtain ⟨h3, hm⟩ := hm
  obtain rfl:=isP0_ok h3
  replace hm:=inv_toI hm;obtain ⟨x4,rfl,hm⟩:=hm
  refine .reg (eC 1 ((oo (pu 55 [(.agg ⟨[zI x0,zI x1,zI x2,Sl.v 1 s0]⟩)]) none fun v=>some (v,(hT 2 [(oC [zI x0,zI x1,zI x2,Sl.v 1 s0])])))) (call_eq h0) (eE)) ?_
  refine .ghs (fr 11 [(4,zI x4)]) (hp 1 [(oT tab0)]) (.k0 [false] [] [4]) ?_
  refine .then (.rK ?_)
  refine .ghs (fr 11 [(2,zI x4)]) (hp 1 [(oT tab0)]) (.k0 [false] [] [2]) ?_
  refine .ret ?_
  exact fin_ret (zI x4) (by kernel_rfl) (by kernel_rfl) hm
def m36_2 (pu:PureF) (n:Nat):OV:=
 (some (.int .i64 (0:Int)))
def m36_4 (pu:PureF) (n:Nat) (ih0:Int→Int→Int→Int→Sl→OV) (z0 z1 z2 z3:Int) (s0:Sl):OV:=
 (ih0 (wrapF .i64 (Int.add z0 (1:Int))) z1 z2 z3 s0)
def b36_5 (pu:PureF) (n:Nat) (ih0:Int→Int→Int→Int→Sl→OV) (ih1:Int→Int→Int→Int→Int→Sl→OV) (z0 z1 z2 z3 z4:Int) (s0:Sl):OV:=
 (bb (ilt z1 (Int.ofNat (Sl.n s0))) (oo (toN z0) none fun k1=>(bb (an (Nat.blt k1 (Sl.n s0)) true) (oo (nthL (Sl.cs s0) (k1 * 1)) none fun v0=>(oo (toI .i64 v0) none fun x0=>(oo (toN z1) none fun k2=>(bb (an (Nat.blt k2 (Sl.n s0)) true) (oo (nthL (Sl.cs s0) (k2 * 1)) none fun v1=>(oo (toI .i64 v1) none fun x1=>(oo (pu 34 [.int .i64 x0,.int .i64 x1]) none fun v2=>(oo (vTup v2) none fun l0=>(ll l0 none fun v3 l0=>(ll l0 none fun v4 l0=>(ll l0 (oo (toI .i64 v3) none fun x2=>(oo (toI .i64 v4) none fun x3=>(oo (pu 47 [Sl.v 1 s0,.int .i64 x2]) none fun v5=>(oo (vBool v5) none fun b0=>(bb (nt b0) (some (.int .i64 (21:Int))) (ih1 (Int.ofNat k1) (wrapF .i64 (Int.add (Int.ofNat k2) (1:Int))) z2 z3 z4 s0)))))) fun _ _=>none))))))) none)))) none)) (m36_4 pu n ih0 z0 z2 z3 z4 s0))
def l36_5 (pu:PureF) (n:Nat) (ih0:Int→Int→Int→Int→Sl→OV) (w:Nat):Int→Int→Int→Int→Int→Sl→OV:=
 Nat.rec (motive:=fun _=>Int→Int→Int→Int→Int→Sl→OV) (fun _ _ _ _ _ _=>none) (fun _ ih1=>b36_5 pu n ih0 ih1) w
def b36_3 (pu:PureF) (n:Nat) (ih0:Int→Int→Int→Int→Sl→OV) (z0 z1 z2 z3:Int) (s0:Sl):OV:=
 (bb (ilt z0 (Int.ofNat (Sl.n s0))) (l36_5 pu n ih0 n z0 (0:Int) z1 z2 z3 s0) (m36_2 pu n))
def l36_3 (pu:PureF) (n w:Nat):Int→Int→Int→Int→Sl→OV:=
 Nat.rec (motive:=fun _=>Int→Int→Int→Int→Sl→OV) (fun _ _ _ _ _=>none) (fun _ ih0=>b36_3 pu n ih0) w
def m36_1 (pu:PureF) (n:Nat) (z0 z1 z2:Int) (s0:Sl):OV:=
 (oo (pu 47 [Sl.v 1 s0,(.int .i64 (0:Int))]) none fun v0=>(oo (vBool v0) none fun b0=>(bb (nt b0) (some (.int .i64 (21:Int))) (l36_3 pu n n (0:Int) z0 z1 z2 s0))))
def m36_8 (pu:PureF) (n:Nat) (ih0:Int→Int→Int→Int→Sl→OV) (z0:Int) (b0:Bool) (z1 z2 z3:Int) (s0:Sl):OV:=
 (bb b0 (some (.int .i64 (7:Int))) (ih0 (wrapF .i64 (Int.add z0 (1:Int))) z1 z2 z3 s0))
def m36_7 (pu:PureF) (n:Nat) (ih0:Int→Int→Int→Int→Sl→OV) (z0 z1:Int) (b0:Bool) (z2 z3 z4:Int) (s0:Sl):OV:=
 (bb b0 (some (.int .i64 (8:Int))) (bb (ilt (0:Int) z0) (oo (toN (wrapF .i64 (Int.sub z0 (1:Int)))) none fun k1=>(bb (an (Nat.blt k1 (Sl.n s0)) true) (oo (nthL (Sl.cs s0) (k1 * 1)) none fun v0=>(oo (toI .i64 v0) none fun x0=>(m36_8 pu n ih0 z0 (nt (ilt x0 z1)) z2 z3 z4 s0))) none)) (m36_8 pu n ih0 z0 false z2 z3 z4 s0)))
def b36_6 (pu:PureF) (n:Nat) (ih0:Int→Int→Int→Int→Sl→OV) (z0 z1 z2 z3:Int) (s0:Sl):OV:=
 (bb (ilt z0 (Int.ofNat (Sl.n s0))) (oo (toN z0) none fun k1=>(bb (an (Nat.blt k1 (Sl.n s0)) true) (oo (nthL (Sl.cs s0) (k1 * 1)) none fun v0=>(oo (toI .i64 v0) none fun x0=>(oo (pu 62 [.int .i64 x0,(.int .i64 (0:Int)),(.int .i64 (7:Int))]) none fun v1=>(oo (vBool v1) none fun b0=>(bb (nt b0) (some (.int .i64 (2:Int))) (bb (nt (ieq z1 z2)) (bb (ieq x0 (1:Int)) (m36_7 pu n ih0 (Int.ofNat k1) x0 true z1 z2 z3 s0) (bb (ieq x0 (3:Int)) (m36_7 pu n ih0 (Int.ofNat k1) x0 true z1 z2 z3 s0) (m36_7 pu n ih0 (Int.ofNat k1) x0 (ilt (5:Int) x0) z1 z2 z3 s0))) (m36_7 pu n ih0 (Int.ofNat k1) x0 false z1 z2 z3 s0))))))) none)) (m36_1 pu n z1 z2 z3 s0))
def l36_6 (pu:PureF) (n w:Nat):Int→Int→Int→Int→Sl→OV:=
 Nat.rec (motive:=fun _=>Int→Int→Int→Int→Sl→OV) (fun _ _ _ _ _=>none) (fun _ ih0=>b36_6 pu n ih0) w
def m36_0 (pu:PureF) (n:Nat) (b0:Bool) (z0 z1 z2:Int) (s0:Sl):OV:=
 (bb b0 (some (.int .i64 (1:Int))) (l36_6 pu n n (0:Int) z0 z1 z2 s0))
def m36_ (pu:PureF) (n:Nat) (x0 x1 x2:Int) (s0:Sl):OV:=
 (oo (pu 62 [.int .i64 x0,(.int .i64 (1:Int)),(.int .i64 (4:Int))]) none fun v0=>(oo (vBool v0) none fun b0=>(bb (nt b0) (m36_0 pu n true x0 x1 x2 s0) (oo (pu 62 [.int .i64 x1,(.int .i64 (1:Int)),(.int .i64 (4:Int))]) none fun v1=>(oo (vBool v1) none fun b1=>(bb (nt b1) (m36_0 pu n true x0 x1 x2 s0) (oo (pu 62 [.int .i64 x2,(.int .i64 (1:Int)),(.int .i64 (4:Int))]) none fun v2=>(oo (vBool v2) none fun b2=>(m36_0 pu n (nt b2) x0 x1 x2 s0)))))))))
def m36 (pu:PureF) (n:Nat) (args:LV):OV:=
 (ll args none fun a0 args=>(ll args (oo (vAgg a0) none fun l0=>(ll l0 none fun v0 l0=>(ll l0 none fun v1 l0=>(ll l0 none fun v2 l0=>(ll l0 none fun v3 l0=>(ll l0 (oo (toI .i64 v0) none fun x0=>(oo (toI .i64 v1) none fun x1=>(oo (toI .i64 v2) none fun x2=>(oo (toSl 1 v3) none fun s0=>(m36_ pu n x0 x1 x2 s0))))) fun _ _=>none)))))) fun _ _=>none))
theorem w36_2 (pu:PureF) (n:Nat) {v:Value} (hm:m36_2 pu n = some v):Run tt (callP tabs isP pu (inl pu)) 1 c36_71 (fr 106 []) (hp 1 [(oT tab0)]) (Fin tt 1 [.tmp 2] v):=by
 unfold m36_2 at hm
 refine .then (.rK ?_)
 refine .ghs (fr 106 [(2,(zI (0:Int)))]) (hp 1 [(oT tab0)]) (.k0 [false] [] [2]) ?_
 refine .ret ?_
 exact fin_ret (zI (0:Int)) (by kernel_rfl) (by kernel_rfl) hm
theorem w36_1 (pu:PureF) (n:Nat) (z0 z1 z2:Int) (s0:Sl) {v:Value} (hm:m36_1 pu n z0 z1 z2 s0 = some v):Run tt (callP tabs isP pu (inl pu)) 1 c36_73 (fr 106 [(1,pt 1 0)]) (hT 2 [(oC [zI z0,zI z1,zI z2,Sl.v 1 s0])]) (Fin tt 1 [.tmp 2] v):=by
 unfold m36_1 at hm
 refine .then ?_
 refine .then ?_
 replace hm:=oo_inv hm;obtain ⟨v0,h0,hm⟩:=hm
 replace hm:=inv_vBool hm;obtain ⟨b0,rfl,hm⟩:=hm
 refine .reg (eC 2 ((oo (pu 47 [Sl.v 1 s0,(zI (0:Int))]) none fun v=>some (v,(hT 2 [(oC [zI z0,zI z1,zI z2,Sl.v 1 s0])])))) (call_eq h0) (eE)) ?_
 refine .ghs (fr 106 [(1,pt 1 0),(72,(zB (nt b0)))]) (hT 2 [(oC [zI z0,zI z1,zI z2,Sl.v 1 s0])]) (.k0 [false] [.tmp 1 false] [1,72]) ?_
 replace hm:=bb_cases hm;rcases hm with ⟨h1,hm⟩ | ⟨h1,hm⟩
 ·refine .ifT (nt b0) (by kernel_rfl) h1 ?_
  refine .then (.rK ?_)
  refine .ghs (fr 106 [(2,(zI (21:Int)))]) (hp 1 [(oT tab0)]) (.k0 [false] [] [2]) ?_
  refine .ret ?_
  exact fin_ret (zI (21:Int)) (by kernel_rfl) (by kernel_rfl) hm
 ·refine .ifF (nt b0) (by kernel_rfl) h1 ?_
  refine .skip ?_
  refine .ghs (fr 106 [(1,pt 1 0)]) (hT 2 [(oC [zI z0,zI z1,zI z2,Sl.v 1 s0])]) (.k0 [false] [.tmp 1 false] [1]) ?_
  refine .join (v:=v) (fun y:Unit=>((fr 106 []),(hp 1 [(oT tab0)]))) (fun y=>m36_2 pu n) ?_ ?_
  ·rintro _ hm
   exact w36_2 pu n hm
  ·refine .then (.rK ?_)
   refine .ghs (fr 106 [(1,pt 1 0),(5,(zI (0:Int)))]) (hT 2 [(oC [zI z0,zI z1,zI z2,Sl.v 1 s0])]) (.k0 [false] [.tmp 1 false] [1,5]) ?_
   refine .block ?_
   refine .loopM (v:=v) (fun y:Int×Int×Int×Int×Sl=>((fr 106 [(1,pt 1 0),(5,(zI y.1))]),(hT 2 [(oC [(zI y.2.1),(zI y.2.2.1),(zI y.2.2.2.1),(Sl.v 1 y.2.2.2.2)])]))) (fun w y=>l36_3 pu n w y.1 y.2.1 y.2.2.1 y.2.2.2.1 y.2.2.2.2) n ⟨((0:Int),z0,z1,z2,s0),hm,(.k0 [false] [.tmp 1 false] [1,5])⟩ (fun _=>rfl) ?_
   rintro w0 ⟨z3,z4,z5,z6,s1⟩ hm
   replace hm:b36_3 pu n (l36_3 pu n w0) z3 z4 z5 z6 s1 = some v:=hm
   unfold b36_3 at hm
   refine .then ?_
   refine .then (.rK ?_)
   refine .ghs (fr 106 [(1,pt 1 0),(5,zI z3),(77,(zB (ilt z3 (Int.ofNat (Sl.n s1)))))]) (hT 2 [(oC [zI z4,zI z5,zI z6,Sl.v 1 s1])]) (.k0 [false] [.tmp 1 false] [1,5,77]) ?_
   replace hm:=bb_cases hm;rcases hm with ⟨h2,hm⟩ | ⟨h2,hm⟩
   ·refine .ifT (ilt z3 (Int.ofNat (Sl.n s1))) (by kernel_rfl) h2 ?_
    refine .skip ?_
    refine .ghs (fr 106 [(1,pt 1 0),(5,zI z3)]) (hT 2 [(oC [zI z4,zI z5,zI z6,Sl.v 1 s1])]) (.k0 [false] [.tmp 1 false] [1,5]) ?_
    refine .join (v:=v) (fun y:Int×Int×Int×Int×Sl=>((fr 106 [(1,pt 1 0),(5,(zI y.1))]),(hT 2 [(oC [(zI y.2.1),(zI y.2.2.1),(zI y.2.2.2.1),(Sl.v 1 y.2.2.2.2)])]))) (fun y=>m36_4 pu n (l36_3 pu n w0) y.1 y.2.1 y.2.2.1 y.2.2.2.1 y.2.2.2.2) ?_ ?_
    ·rintro ⟨z7, z8, z9, z10, s2⟩ hm
     unfold m36_4 at hm
     refine .rK ?_
     exact ⟨((wrapF .i64 (Int.add z7 (1:Int))),z8,z9,z10,s2),hm,(.k0 [false] [.tmp 1 false] [1,5])⟩
    ·refine .block ?_
     refine .then (.rK ?_)
     refine .ghs (fr 106 [(1,pt 1 0),(5,zI z3),(6,(zI (0:Int)))]) (hT 2 [(oC [zI z4,zI z5,zI z6,Sl.v 1 s1])]) (.k0 [false] [.tmp 1 false] [1,5,6]) ?_
     refine .block ?_
     refine .loopM (v:=v) (fun y:Int×Int×Int×Int×Int×Sl=>((fr 106 [(1,pt 1 0),(5,(zI y.1)),(6,(zI y.2.1))]),(hT 2 [(oC [(zI y.2.2.1),(zI y.2.2.2.1),(zI y.2.2.2.2.1),(Sl.v 1 y.2.2.2.2.2)])]))) (fun w y=>l36_5 pu n (l36_3 pu n w0) w y.1 y.2.1 y.2.2.1 y.2.2.2.1 y.2.2.2.2.1 y.2.2.2.2.2) n ⟨(z3,(0:Int),z4,z5,z6,s1),hm,(.k0 [false] [.tmp 1 false] [1,5,6])⟩ (fun _=>rfl) ?_
     rintro w1 ⟨z11,z12,z13,z14,z15,s3⟩ hm
     replace hm:b36_5 pu n (l36_3 pu n w0) (l36_5 pu n (l36_3 pu n w0) w1) z11 z12 z13 z14 z15 s3 = some v:=hm
     unfold b36_5 at hm
     refine .then ?_
     refine .then (.rK ?_)
     refine .ghs (fr 106 [(1,pt 1 0),(5,zI z11),(6,zI z12),(84,(zB (ilt z12 (Int.ofNat (Sl.n s3)))))]) (hT 2 [(oC [zI z13,zI z14,zI z15,Sl.v 1 s3])]) (.k0 [false] [.tmp 1 false] [1,5,6,84]) ?_
     replace hm:=bb_cases hm;rcases hm with ⟨h3,hm⟩ | ⟨h3,hm⟩
     ·refine .ifT (ilt z12 (Int.ofNat (Sl.n s3))) (by kernel_rfl) h3 ?_
      refine .skip ?_
      refine .ghs (fr 106 [(1,pt 1 0),(5,zI z11),(6,zI z12)]) (hT 2 [(oC [zI z13,zI z14,zI z15,Sl.v 1 s3])]) (.k0 [false] [.tmp 1 false] [1,5,6]) ?_
      refine .then ?_
      refine .block ?_
      refine .then ?_
      replace hm:=oo_inv hm;obtain ⟨k1,h4,hm⟩:=hm
      obtain rfl:=toN_some h4
      replace hm:=bb_inv hm;obtain ⟨h5,hm⟩:=hm
      replace hm:=oo_inv hm;obtain ⟨v1,h6,hm⟩:=hm
      replace hm:=inv_toI hm;obtain ⟨x0,rfl,hm⟩:=hm
      replace hm:=oo_inv hm;obtain ⟨k2,h7,hm⟩:=hm
      obtain rfl:=toN_some h7
      replace hm:=bb_inv hm;obtain ⟨h8,hm⟩:=hm
      replace hm:=oo_inv hm;obtain ⟨v2,h9,hm⟩:=hm
      replace hm:=inv_toI hm;obtain ⟨x1,rfl,hm⟩:=hm
      replace hm:=oo_inv hm;obtain ⟨v3,h10,hm⟩:=hm
      replace hm:=inv_vTup hm;obtain ⟨l0,rfl,hm⟩:=hm
      replace hm:=ll_uncons hm;obtain ⟨v4,l3916_0,rfl,hm⟩:=hm
      replace hm:=ll_uncons hm;obtain ⟨v5,l3916_1,rfl,hm⟩:=hm
      replace hm:=ll_end hm;obtain ⟨rfl,hm⟩:=hm
      replace hm:=inv_toI hm;obtain ⟨x2,rfl,hm⟩:=hm
      replace hm:=inv_toI hm;obtain ⟨x3,rfl,hm⟩:=hm
      refine .reg (eC 3 (keep (hT 2 [(oC [zI z13,zI z14,zI z15,Sl.v 1 s3])]) (bb (an (Nat.blt k1 (Sl.n s3)) true) (some (fpV (k1 * 1) (Sl.cs s3))) none)) (keep_bb h5) (eD (keep (hT 2 [(oC [zI z13,zI z14,zI z15,Sl.v 1 s3])]) (nthL (Sl.cs s3) (k1 * 1))) (keep_eq h6) (eC 3 (keep (hT 2 [(oC [zI z13,zI z14,zI z15,Sl.v 1 s3])]) (bb (an (Nat.blt k2 (Sl.n s3)) true) (some (fpV (k2 * 1) (Sl.cs s3))) none)) (keep_bb h8) (eD (keep (hT 2 [(oC [zI z13,zI z14,zI z15,Sl.v 1 s3])]) (nthL (Sl.cs s3) (k2 * 1))) (keep_eq h9) (eD ((oo (pu 34 [zI x0,zI x1]) none fun v=>some (v,(hT 2 [(oC [zI z13,zI z14,zI z15,Sl.v 1 s3])])))) (call_eq h10) (eE)))))) ?_
      refine .ghs (fr 106 [(1,pt 1 0),(5,(zI (Int.ofNat k1))),(6,(zI (Int.ofNat k2))),(7,zI x2)]) (hT 2 [(oC [zI z13,zI z14,zI z15,Sl.v 1 s3])]) (.k0 [false] [.tmp 1 false] [1,5,6,7]) ?_
      refine .then ?_
      replace hm:=oo_inv hm;obtain ⟨v6,h11,hm⟩:=hm
      replace hm:=inv_vBool hm;obtain ⟨b1,rfl,hm⟩:=hm
      refine .reg (eC 3 ((oo (pu 47 [Sl.v 1 s3,zI x2]) none fun v=>some (v,(hT 2 [(oC [zI z13,zI z14,zI z15,Sl.v 1 s3])])))) (call_eq h11) (eE)) ?_
      refine .ghs (fr 106 [(1,pt 1 0),(5,(zI (Int.ofNat k1))),(6,(zI (Int.ofNat k2))),(105,(zB (nt b1)))]) (hT 2 [(oC [zI z13,zI z14,zI z15,Sl.v 1 s3])]) (.k0 [false] [.tmp 1 false] [1,5,6,105]) ?_
      replace hm:=bb_cases hm;rcases hm with ⟨h12,hm⟩ | ⟨h12,hm⟩
      ·refine .ifT (nt b1) (by kernel_rfl) h12 ?_
       refine .then (.rK ?_)
       refine .ghs (fr 106 [(2,(zI (21:Int)))]) (hp 1 [(oT tab0)]) (.k0 [false] [] [2]) ?_
       refine .ret ?_
       exact fin_ret (zI (21:Int)) (by kernel_rfl) (by kernel_rfl) hm
      ·refine .ifF (nt b1) (by kernel_rfl) h12 ?_
       refine .skip ?_
       refine .ghs (fr 106 [(1,pt 1 0),(5,(zI (Int.ofNat k1))),(6,(zI (Int.ofNat k2)))]) (hT 2 [(oC [zI z13,zI z14,zI z15,Sl.v 1 s3])]) (.k0 [false] [.tmp 1 false] [1,5,6]) ?_
       refine .rK ?_
       exact ⟨((Int.ofNat k1),(wrapF .i64 (Int.add (Int.ofNat k2) (1:Int))),z13,z14,z15,s3),hm,(.k0 [false] [.tmp 1 false] [1,5,6])⟩
     ·refine .ifF (ilt z12 (Int.ofNat (Sl.n s3))) (by kernel_rfl) h3 ?_
      refine .exit ?_
      exact ⟨(z11,z13,z14,z15,s3),hm,(.k0 [false] [.tmp 1 false] [1,5])⟩
   ·refine .ifF (ilt z3 (Int.ofNat (Sl.n s1))) (by kernel_rfl) h2 ?_
    refine .exit ?_
    exact ⟨(),hm,(.k0 [false] [] [])⟩
theorem r36 {call:CallF} (pu:PureF) (n:Nat) (hcall:call = callP tabs isP pu (inl pu)) {args:LV} {v:Value} (hm:m36 pu n args = some v) (_:∀ x ∈ args,closed2 x = true):args.length≤106∧Run tt call 1 c36_76 (Fr.made 106 args) (pureHeap tabs) (Fin tt 1 [.tmp 2] v):=by
 subst hcall
 unfold m36 at hm
 replace hm:=ll_uncons hm;obtain ⟨a0,args_0,rfl,hm⟩:=hm
 replace hm:=ll_end hm;obtain ⟨rfl,hm⟩:=hm
 replace hm:=inv_vAgg hm;obtain ⟨l0,rfl,hm⟩:=hm
 replace hm:=ll_uncons hm;obtain ⟨v0,l3015_0,rfl,hm⟩:=hm
 replace hm:=ll_uncons hm;obtain ⟨v1,l3015_1,rfl,hm⟩:=hm
 replace hm:=ll_uncons hm;obtain ⟨v2,l3015_2,rfl,hm⟩:=hm
 replace hm:=ll_uncons hm;obtain ⟨v3,l3015_3,rfl,hm⟩:=hm
 replace hm:=ll_end hm;obtain ⟨rfl,hm⟩:=hm
 replace hm:=inv_toI hm;obtain ⟨x0,rfl,hm⟩:=hm
 replace hm:=inv_toI hm;obtain ⟨x1,rfl,hm⟩:=hm
 replace hm:=inv_toI hm;obtain ⟨x2,rfl,hm⟩:=hm
 replace hm:=inv_toSl hm;obtain ⟨s0,rfl,hm⟩:=hm
 unfold m36_ at hm
 refine ⟨by simp,?_⟩
 refine .same (F':=(fr 106 [(0,(.agg ⟨[zI x0,zI x1,zI x2,Sl.v 1 s0]⟩))])) (H':=(hp 1 [(oT tab0)])) (by kernel_rfl) (by kernel_rfl) ?_
 refine .then (.rK ?_)
 refine .ghs (fr 106 [(1,pt 1 0)]) (hT 2 [(oC [zI x0,zI x1,zI x2,Sl.v 1 s0])]) (.k0 [false] [.tmp 1 false] [1]) ?_
 refine .then ?_
 refine .join (v:=v) (fun y:Bool×Int×Int×Int×Sl=>((fr 106 [(1,pt 1 0),(24,(zB y.1))]),(hT 2 [(oC [(zI y.2.1),(zI y.2.2.1),(zI y.2.2.2.1),(Sl.v 1 y.2.2.2.2)])]))) (fun y=>m36_0 pu n y.1 y.2.1 y.2.2.1 y.2.2.2.1 y.2.2.2.2) ?_ ?_
 ·rintro ⟨b0, z0, z1, z2, s1⟩ hm
  unfold m36_0 at hm
  replace hm:=bb_cases hm;rcases hm with ⟨h0,hm⟩ | ⟨h0,hm⟩
  ·refine .ifT b0 (by kernel_rfl) h0 ?_
   refine .then (.rK ?_)
   refine .ghs (fr 106 [(2,(zI (1:Int)))]) (hp 1 [(oT tab0)]) (.k0 [false] [] [2]) ?_
   refine .ret ?_
   exact fin_ret (zI (1:Int)) (by kernel_rfl) (by kernel_rfl) hm
  ·refine .ifF b0 (by kernel_rfl) h0 ?_
   refine .skip ?_
   refine .ghs (fr 106 [(1,pt 1 0)]) (hT 2 [(oC [zI z0,zI z1,zI z2,Sl.v 1 s1])]) (.k0 [false] [.tmp 1 false] [1]) ?_
   refine .join (v:=v) (fun y:Int×Int×Int×Sl=>((fr 106 [(1,pt 1 0)]),(hT 2 [(oC [(zI y.1),(zI y.2.1),(zI y.2.2.1),(Sl.v 1 y.2.2.2)])]))) (fun y=>m36_1 pu n y.1 y.2.1 y.2.2.1 y.2.2.2) ?_ ?_
   ·rintro ⟨z3, z4, z5, s2⟩ hm
    exact w36_1 pu n z3 z4 z5 s2 hm
   ·refine .then (.rK ?_)
    refine .ghs (fr 106 [(1,pt 1 0),(3,(zI (0:Int)))]) (hT 2 [(oC [zI z0,zI z1,zI z2,Sl.v 1 s1])]) (.k0 [false] [.tmp 1 false] [1,3]) ?_
    refine .block ?_
    refine .loopM (v:=v) (fun y:Int×Int×Int×Int×Sl=>((fr 106 [(1,pt 1 0),(3,(zI y.1))]),(hT 2 [(oC [(zI y.2.1),(zI y.2.2.1),(zI y.2.2.2.1),(Sl.v 1 y.2.2.2.2)])]))) (fun w y=>l36_6 pu n w y.1 y.2.1 y.2.2.1 y.2.2.2.1 y.2.2.2.2) n ⟨((0:Int),z0,z1,z2,s1),hm,(.k0 [false] [.tmp 1 false] [1,3])⟩ (fun _=>rfl) ?_
    rintro w0 ⟨z6,z7,z8,z9,s3⟩ hm
    replace hm:b36_6 pu n (l36_6 pu n w0) z6 z7 z8 z9 s3 = some v:=hm
    unfold b36_6 at hm
    refine .then ?_
    refine .then (.rK ?_)
    refine .ghs (fr 106 [(1,pt 1 0),(3,zI z6),(29,(zB (ilt z6 (Int.ofNat (Sl.n s3)))))]) (hT 2 [(oC [zI z7,zI z8,zI z9,Sl.v 1 s3])]) (.k0 [false] [.tmp 1 false] [1,3,29]) ?_
    replace hm:=bb_cases hm;rcases hm with ⟨h1,hm⟩ | ⟨h1,hm⟩
    ·refine .ifT (ilt z6 (Int.ofNat (Sl.n s3))) (by kernel_rfl) h1 ?_
     refine .skip ?_
     refine .ghs (fr 106 [(1,pt 1 0),(3,zI z6)]) (hT 2 [(oC [zI z7,zI z8,zI z9,Sl.v 1 s3])]) (.k0 [false] [.tmp 1 false] [1,3]) ?_
     refine .then ?_
     refine .block ?_
     refine .then ?_
     replace hm:=oo_inv hm;obtain ⟨k1,h2,hm⟩:=hm
     obtain rfl:=toN_some h2
     replace hm:=bb_inv hm;obtain ⟨h3,hm⟩:=hm
     replace hm:=oo_inv hm;obtain ⟨v4,h4,hm⟩:=hm
     replace hm:=inv_toI hm;obtain ⟨x3,rfl,hm⟩:=hm
     refine .reg (eC 3 (keep (hT 2 [(oC [zI z7,zI z8,zI z9,Sl.v 1 s3])]) (bb (an (Nat.blt k1 (Sl.n s3)) true) (some (fpV (k1 * 1) (Sl.cs s3))) none)) (keep_bb h3) (eD (keep (hT 2 [(oC [zI z7,zI z8,zI z9,Sl.v 1 s3])]) (nthL (Sl.cs s3) (k1 * 1))) (keep_eq h4) (eE))) ?_
     refine .ghs (fr 106 [(1,pt 1 0),(3,(zI (Int.ofNat k1))),(4,zI x3)]) (hT 2 [(oC [zI z7,zI z8,zI z9,Sl.v 1 s3])]) (.k0 [false] [.tmp 1 false] [1,3,4]) ?_
     refine .then ?_
     refine .then ?_
     replace hm:=oo_inv hm;obtain ⟨v5,h5,hm⟩:=hm
     replace hm:=inv_vBool hm;obtain ⟨b1,rfl,hm⟩:=hm
     refine .reg (eC 1 ((oo (pu 62 [zI x3,(zI (0:Int)),(zI (7:Int))]) none fun v=>some (v,(hT 2 [(oC [zI z7,zI z8,zI z9,Sl.v 1 s3])])))) (call_eq h5) (eE)) ?_
     refine .ghs (fr 106 [(1,pt 1 0),(3,(zI (Int.ofNat k1))),(4,zI x3),(39,(zB (nt b1)))]) (hT 2 [(oC [zI z7,zI z8,zI z9,Sl.v 1 s3])]) (.k0 [false] [.tmp 1 false] [1,3,4,39]) ?_
     replace hm:=bb_cases hm;rcases hm with ⟨h6,hm⟩ | ⟨h6,hm⟩
     ·refine .ifT (nt b1) (by kernel_rfl) h6 ?_
      refine .then (.rK ?_)
      refine .ghs (fr 106 [(2,(zI (2:Int)))]) (hp 1 [(oT tab0)]) (.k0 [false] [] [2]) ?_
      refine .ret ?_
      exact fin_ret (zI (2:Int)) (by kernel_rfl) (by kernel_rfl) hm
     ·refine .ifF (nt b1) (by kernel_rfl) h6 ?_
      refine .skip ?_
      refine .ghs (fr 106 [(1,pt 1 0),(3,(zI (Int.ofNat k1))),(4,zI x3)]) (hT 2 [(oC [zI z7,zI z8,zI z9,Sl.v 1 s3])]) (.k0 [false] [.tmp 1 false] [1,3,4]) ?_
      refine .then ?_
      refine .join (v:=v) (fun y:Int×Int×Bool×Int×Int×Int×Sl=>((fr 106 [(1,pt 1 0),(3,(zI y.1)),(4,(zI y.2.1)),(56,(zB y.2.2.1))]),(hT 2 [(oC [(zI y.2.2.2.1),(zI y.2.2.2.2.1),(zI y.2.2.2.2.2.1),(Sl.v 1 y.2.2.2.2.2.2)])]))) (fun y=>m36_7 pu n (l36_6 pu n w0) y.1 y.2.1 y.2.2.1 y.2.2.2.1 y.2.2.2.2.1 y.2.2.2.2.2.1 y.2.2.2.2.2.2) ?_ ?_
      ·rintro ⟨z10, z11, b2, z12, z13, z14, s4⟩ hm
       unfold m36_7 at hm
       replace hm:=bb_cases hm;rcases hm with ⟨h7,hm⟩ | ⟨h7,hm⟩
       ·refine .ifT b2 (by kernel_rfl) h7 ?_
        refine .then (.rK ?_)
        refine .ghs (fr 106 [(2,(zI (8:Int)))]) (hp 1 [(oT tab0)]) (.k0 [false] [] [2]) ?_
        refine .ret ?_
        exact fin_ret (zI (8:Int)) (by kernel_rfl) (by kernel_rfl) hm
       ·refine .ifF b2 (by kernel_rfl) h7 ?_
        refine .skip ?_
        refine .ghs (fr 106 [(1,pt 1 0),(3,zI z10),(4,zI z11)]) (hT 2 [(oC [zI z12,zI z13,zI z14,Sl.v 1 s4])]) (.k0 [false] [.tmp 1 false] [1,3,4]) ?_
        refine .join (v:=v) (fun y:Int×Bool×Int×Int×Int×Sl=>((fr 106 [(1,pt 1 0),(3,(zI y.1)),(68,(zB y.2.1))]),(hT 2 [(oC [(zI y.2.2.1),(zI y.2.2.2.1),(zI y.2.2.2.2.1),(Sl.v 1 y.2.2.2.2.2)])]))) (fun y=>m36_8 pu n (l36_6 pu n w0) y.1 y.2.1 y.2.2.1 y.2.2.2.1 y.2.2.2.2.1 y.2.2.2.2.2) ?_ ?_
        ·rintro ⟨z15, b4, z16, z17, z18, s5⟩ hm
         unfold m36_8 at hm
         replace hm:=bb_cases hm;rcases hm with ⟨h8,hm⟩ | ⟨h8,hm⟩
         ·refine .ifT b4 (by kernel_rfl) h8 ?_
          refine .then (.rK ?_)
          refine .ghs (fr 106 [(2,(zI (7:Int)))]) (hp 1 [(oT tab0)]) (.k0 [false] [] [2]) ?_
          refine .ret ?_
          exact fin_ret (zI (7:Int)) (by kernel_rfl) (by kernel_rfl) hm
         ·refine .ifF b4 (by kernel_rfl) h8 ?_
          refine .skip ?_
          refine .ghs (fr 106 [(1,pt 1 0),(3,zI z15)]) (hT 2 [(oC [zI z16,zI z17,zI z18,Sl.v 1 s5])]) (.k0 [false] [.tmp 1 false] [1,3]) ?_
          refine .rK ?_
          exact ⟨((wrapF .i64 (Int.add z15 (1:Int))),z16,z17,z18,s5),hm,(.k0 [false] [.tmp 1 false] [1,3])⟩
        ·replace hm := bb_cases hm; rcases hm with ⟨h9, hm⟩ | ⟨h9, hm⟩
         ·replace hm := oo_inv hm; obtain ⟨k2, h10, hm⟩ := hm
          replace hm:=bb_inv hm;obtain ⟨h11,hm⟩:=hm
          replace hm:=oo_inv hm;obtain ⟨v6,h12,hm⟩:=hm
          replace hm:=inv_toI hm;obtain ⟨x4,rfl,hm⟩:=hm
          refine .reg (eC 1 (some ((zB (ilt (0:Int) z10)),(hT 2 [(oC [zI z12,zI z13,zI z14,Sl.v 1 s4])]))) (show _ = some ((zB true),_) from (by rw [show (ilt (0:Int) z10) = true from h9])) (eC 5 (some ((zI (wrapF .i64 (Int.sub z10 (1:Int)))),(hT 2 [(oC [zI z12,zI z13,zI z14,Sl.v 1 s4])]))) (show _ = some ((zI (Int.ofNat k2)),_) from (by rw [toN_some h10])) (eD (keep (hT 2 [(oC [zI z12,zI z13,zI z14,Sl.v 1 s4])]) (bb (an (Nat.blt k2 (Sl.n s4)) true) (some (fpV (k2 * 1) (Sl.cs s4))) none)) (keep_bb h11) (eD (keep (hT 2 [(oC [zI z12,zI z13,zI z14,Sl.v 1 s4])]) (nthL (Sl.cs s4) (k2 * 1))) (keep_eq h12) (eE))))) ?_
          exact ⟨(z10,(nt (ilt x4 z11)),z12,z13,z14,s4),hm,(.k0 [false] [.tmp 1 false] [1,3,68])⟩
         ·refine .reg (eC 1 (some ((zB (ilt (0 : Int) z10)), (hT 2 [(oC [zI z12, zI z13, zI z14, Sl.v 1 s4])]))) (show _ = some ((zB false), _) from (by rw [show (ilt (0 : Int) z10) = false from h9])) (eE)) ?_
          exact ⟨(z10,false,z12,z13,z14,s4),hm,(.k0 [false] [.tmp 1 false] [1,3,68])⟩
      ·replace hm := bb_cases hm; rcases hm with ⟨h13, hm⟩ | ⟨h13, hm⟩
       ·replace hm := bb_cases hm; rcases hm with ⟨h14, hm⟩ | ⟨h14, hm⟩
        ·refine .reg (eC 4 (some ((zB (nt (ieq z7 z8))), (hT 2 [(oC [zI z7, zI z8, zI z9, Sl.v 1 s3])]))) (show _ = some ((zB true), _) from (by rw [show (nt (ieq z7 z8)) = true from h13])) (eC 2 (some ((zB (ieq x3 (1 : Int))), (hT 2 [(oC [zI z7, zI z8, zI z9, Sl.v 1 s3])]))) (show _ = some ((zB true), _) from (by rw [show (ieq x3 (1 : Int)) = true from h14])) (eE))) ?_
         exact ⟨((Int.ofNat k1),x3,true,z7,z8,z9,s3),hm,(.k0 [false] [.tmp 1 false] [1,3,4,56])⟩
        ·replace hm := bb_cases hm; rcases hm with ⟨h15, hm⟩ | ⟨h15, hm⟩
         ·refine .reg (eC 4 (some ((zB (nt (ieq z7 z8))), (hT 2 [(oC [zI z7, zI z8, zI z9, Sl.v 1 s3])]))) (show _ = some ((zB true), _) from (by rw [show (nt (ieq z7 z8)) = true from h13])) (eC 2 (some ((zB (ieq x3 (1 : Int))), (hT 2 [(oC [zI z7, zI z8, zI z9, Sl.v 1 s3])]))) (show _ = some ((zB false), _) from (by rw [show (ieq x3 (1 : Int)) = false from h14])) (eC 2 (some ((zB (ieq x3 (3 : Int))), (hT 2 [(oC [zI z7, zI z8, zI z9, Sl.v 1 s3])]))) (show _ = some ((zB true), _) from (by rw [show (ieq x3 (3 : Int)) = true from h15])) (eE)))) ?_
          exact ⟨((Int.ofNat k1),x3,true,z7,z8,z9,s3),hm,(.k0 [false] [.tmp 1 false] [1,3,4,56])⟩
         ·refine .reg (eC 4 (some ((zB (nt (ieq z7 z8))), (hT 2 [(oC [zI z7, zI z8, zI z9, Sl.v 1 s3])]))) (show _ = some ((zB true), _) from (by rw [show (nt (ieq z7 z8)) = true from h13])) (eC 2 (some ((zB (ieq x3 (1 : Int))), (hT 2 [(oC [zI z7, zI z8, zI z9, Sl.v 1 s3])]))) (show _ = some ((zB false), _) from (by rw [show (ieq x3 (1 : Int)) = false from h14])) (eC 2 (some ((zB (ieq x3 (3 : Int))), (hT 2 [(oC [zI z7, zI z8, zI z9, Sl.v 1 s3])]))) (show _ = some ((zB false), _) from (by rw [show (ieq x3 (3 : Int)) = false from h15])) (eE)))) ?_
          exact ⟨((Int.ofNat k1),x3,(ilt (5:Int) x3),z7,z8,z9,s3),hm,(.k0 [false] [.tmp 1 false] [1,3,4,56])⟩
       ·refine .reg (eC 4 (some ((zB (nt (ieq z7 z8))), (hT 2 [(oC [zI z7, zI z8, zI z9, Sl.v 1 s3])]))) (show _ = some ((zB false), _) from (by rw [show (nt (ieq z7 z8)) = false from h13])) (eE)) ?_
        exact ⟨((Int.ofNat k1),x3,false,z7,z8,z9,s3),hm,(.k0 [false] [.tmp 1 false] [1,3,4,56])⟩
    ·refine .ifF (ilt z6 (Int.ofNat (Sl.n s3))) (by kernel_rfl) h1 ?_
     refine .exit ?_
     exact ⟨(z7,z8,z9,s3),hm,(.k0 [false] [.tmp 1 false] [1])⟩
 ·replace hm := oo_inv hm; obtain ⟨v7, h16, hm⟩ := hm
  replace hm:=inv_vBool hm;obtain ⟨b5,rfl,hm⟩:=hm
  replace hm:=bb_cases hm;rcases hm with ⟨h17,hm⟩ | ⟨h17,hm⟩
  ·refine .reg (eC 2 ((oo (pu 62 [zI x0, (zI (1 : Int)), (zI (4 : Int))]) none fun v => some (v, (hT 2 [(oC [zI x0, zI x1, zI x2, Sl.v 1 s0])])))) (call_eq h16) (eD (some ((zB (nt b5)), (hT 2 [(oC [zI x0, zI x1, zI x2, Sl.v 1 s0])]))) (show _ = some ((zB true), _) from (by rw [show (nt b5) = true from h17])) (eE))) ?_
   exact ⟨(true,x0,x1,x2,s0),hm,(.k0 [false] [.tmp 1 false] [1,24])⟩
  ·replace hm := oo_inv hm; obtain ⟨v8, h18, hm⟩ := hm
   replace hm:=inv_vBool hm;obtain ⟨b6,rfl,hm⟩:=hm
   replace hm:=bb_cases hm;rcases hm with ⟨h19,hm⟩ | ⟨h19,hm⟩
   ·refine .reg (eC 2 ((oo (pu 62 [zI x0, (zI (1 : Int)), (zI (4 : Int))]) none fun v => some (v, (hT 2 [(oC [zI x0, zI x1, zI x2, Sl.v 1 s0])])))) (call_eq h16) (eD (some ((zB (nt b5)), (hT 2 [(oC [zI x0, zI x1, zI x2, Sl.v 1 s0])]))) (show _ = some ((zB false), _) from (by rw [show (nt b5) = false from h17])) (eC 3 ((oo (pu 62 [zI x1, (zI (1 : Int)), (zI (4 : Int))]) none fun v => some (v, (hT 2 [(oC [zI x0, zI x1, zI x2, Sl.v 1 s0])])))) (call_eq h18) (eD (some ((zB (nt b6)), (hT 2 [(oC [zI x0, zI x1, zI x2, Sl.v 1 s0])]))) (show _ = some ((zB true), _) from (by rw [show (nt b6) = true from h19])) (eE))))) ?_
    exact ⟨(true,x0,x1,x2,s0),hm,(.k0 [false] [.tmp 1 false] [1,24])⟩
   ·replace hm := oo_inv hm; obtain ⟨v9, h20, hm⟩ := hm
    replace hm:=inv_vBool hm;obtain ⟨b8,rfl,hm⟩:=hm
    refine .reg (eC 2 ((oo (pu 62 [zI x0,(zI (1:Int)),(zI (4:Int))]) none fun v=>some (v,(hT 2 [(oC [zI x0,zI x1,zI x2,Sl.v 1 s0])])))) (call_eq h16) (eD (some ((zB (nt b5)),(hT 2 [(oC [zI x0,zI x1,zI x2,Sl.v 1 s0])]))) (show _ = some ((zB false),_) from (by rw [show (nt b5) = false from h17])) (eC 3 ((oo (pu 62 [zI x1,(zI (1:Int)),(zI (4:Int))]) none fun v=>some (v,(hT 2 [(oC [zI x0,zI x1,zI x2,Sl.v 1 s0])])))) (call_eq h18) (eD (some ((zB (nt b6)),(hT 2 [(oC [zI x0,zI x1,zI x2,Sl.v 1 s0])]))) (show _ = some ((zB false),_) from (by rw [show (nt b6) = false from h19])) (eC 4 ((oo (pu 62 [zI x2,(zI (1:Int)),(zI (4:Int))]) none fun v=>some (v,(hT 2 [(oC [zI x0,zI x1,zI x2,Sl.v 1 s0])])))) (call_eq h20) (eE)))))) ?_
    exact ⟨((nt b8),x0,x1,x2,s0),hm,(.k0 [false] [.tmp 1 false] [1,24])⟩
end
end Go.BkZM
