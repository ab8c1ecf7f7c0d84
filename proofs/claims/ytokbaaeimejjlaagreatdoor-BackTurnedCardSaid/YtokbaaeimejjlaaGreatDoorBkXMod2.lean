/- Made from wip. -/
import Derived.Test.YtokbaaeimejjlaaGreatDoorBkXMod1x

set_option maxRecDepth 100000
set_option maxHeartbeats 20000000
set_option linter.unusedVariables false
namespace Go.BkXM
open Go.Sp Go.BkX
noncomputable section
def m14_1 (pu:PureF) (n:Nat):OV:=
 (some (.tuple ⟨[(.int .i64 (0:Int)),(.int .i64 (12:Int))]⟩))
def b14_2 (pu:PureF) (n:Nat) (ih0:Sl→Sl→Int→Int→Int→Int→Sl→OV) (s0 s1:Sl) (z0 z1 z2 z3:Int) (s2:Sl):OV:=
 (bb (ilt z0 (Int.ofNat (Sl.n s2))) (oo (toN z0) none fun k1=>(bb (an (Nat.blt k1 (Sl.n s2)) true) (oo (nthL (Sl.cs s2) (k1 * 1)) none fun v0=>(oo (toI .i64 v0) none fun x0=>(oo (pu 10480 [(.agg ⟨[.int .i64 z1,.int .i64 z2,.int .i64 z3,Sl.v 1 s2]⟩),Sl.v 1 s0,.int .i64 x0]) none fun v1=>(oo (vTup v1) none fun l0=>(ll l0 none fun v2 l0=>(ll l0 (oo (toSl 1 v2) none fun s3=>(oo (pu 50 [Sl.v 1 s3,Sl.v 1 s1]) none fun v3=>(oo (vBool v3) none fun b0=>(bb b0 (bb (an (Nat.blt k1 (Sl.n s2)) true) (oo (nthL (Sl.cs s2) (k1 * 1)) none fun v4=>(oo (toI .i64 v4) none fun x1=>(some (.tuple ⟨[.int .i64 x1,(.int .i64 (0:Int))]⟩)))) none) (ih0 s0 s1 (wrapF .i64 (Int.add (Int.ofNat k1) (1:Int))) z1 z2 z3 s2))))) fun _ _=>none)))))) none)) (m14_1 pu n))
def l14_2 (pu:PureF) (n w:Nat):Sl→Sl→Int→Int→Int→Int→Sl→OV:=
 Nat.rec (motive:=fun _=>Sl→Sl→Int→Int→Int→Int→Sl→OV) (fun _ _ _ _ _ _ _=>none) (fun _ ih0=>b14_2 pu n ih0) w
def m14_0 (pu:PureF) (n:Nat) (s0 s1:Sl) (z0 z1 z2 z3:Int) (s2:Sl):OV:=
 (bb (nt (ieq z0 (0:Int))) (some (.tuple ⟨[(.int .i64 (0:Int)),.int .i64 z0]⟩)) (l14_2 pu n n s0 s1 (0:Int) z1 z2 z3 s2))
def m14_ (pu:PureF) (n:Nat) (x0 x1 x2:Int) (s0 s1 s2:Sl):OV:=
 (oo (pu 46 [(.agg ⟨[.int .i64 x0,.int .i64 x1,.int .i64 x2,Sl.v 1 s0]⟩),Sl.v 1 s1]) none fun v0=>(oo (toI .i64 v0) none fun x3=>(bb (ieq x3 (0:Int)) (oo (pu 46 [(.agg ⟨[.int .i64 x0,.int .i64 x1,.int .i64 x2,Sl.v 1 s0]⟩),Sl.v 1 s2]) none fun v1=>(oo (toI .i64 v1) none fun x4=>(m14_0 pu n s1 s2 x4 x0 x1 x2 s0))) (m14_0 pu n s1 s2 x3 x0 x1 x2 s0))))
def m14 (pu:PureF) (n:Nat) (args:LV):OV:=
 (ll args none fun a0 args=>(ll args none fun a1 args=>(ll args none fun a2 args=>(ll args (oo (vAgg a0) none fun l0=>(ll l0 none fun v0 l0=>(ll l0 none fun v1 l0=>(ll l0 none fun v2 l0=>(ll l0 none fun v3 l0=>(ll l0 (oo (toI .i64 v0) none fun x0=>(oo (toI .i64 v1) none fun x1=>(oo (toI .i64 v2) none fun x2=>(oo (toSl 1 v3) none fun s0=>(oo (toSl 1 a1) none fun s1=>(oo (toSl 1 a2) none fun s2=>(m14_ pu n x0 x1 x2 s0 s1 s2))))))) fun _ _=>none)))))) fun _ _=>none))))
theorem w14_1 (pu:PureF) (n:Nat) {v:Value} (hm:m14_1 pu n = some v):Run tt (callP tabs isP pu (inl pu)) 1 c14_28 (fr 43 []) (hp 1 [(oT tab0)]) (Fin tt 1 [.tmp 6,.tmp 7] v):=by
 unfold m14_1 at hm
 refine .then (.rK ?_)
 refine .ghs (fr 43 [(6,(zI (0:Int))),(7,(zI (12:Int)))]) (hp 1 [(oT tab0)]) (.k0 [false] [] [6,7]) ?_
 refine .ret ?_
 exact fin_ret (.tuple ⟨[(zI (0:Int)),(zI (12:Int))]⟩) (by kernel_rfl) (by kernel_rfl) hm
theorem w14_0 (pu:PureF) (n:Nat) (s0 s1:Sl) (z0 z1 z2 z3:Int) (s2:Sl) {v:Value} (hm:m14_0 pu n s0 s1 z0 z1 z2 z3 s2 = some v):Run tt (callP tabs isP pu (inl pu)) 1 c14_30 (fr 43 [(1,Sl.v 1 s0),(2,Sl.v 1 s1),(3,pt 1 0),(8,zI z0)]) (hT 2 [(oC [zI z1,zI z2,zI z3,Sl.v 1 s2])]) (Fin tt 1 [.tmp 6,.tmp 7] v):=by
 unfold m14_0 at hm
 refine .then ?_
 refine .then (.rK ?_)
 refine .ghs (fr 43 [(1,Sl.v 1 s0),(2,Sl.v 1 s1),(3,pt 1 0),(8,zI z0),(19,(zB (nt (ieq z0 (0:Int)))))]) (hT 2 [(oC [zI z1,zI z2,zI z3,Sl.v 1 s2])]) (.k0 [false] [.tmp 3 false] [1,2,3,8,19]) ?_
 replace hm:=bb_cases hm;rcases hm with ⟨h0,hm⟩ | ⟨h0,hm⟩
 ·refine .ifT (nt (ieq z0 (0 : Int))) (by kernel_rfl) h0 ?_
  refine .then (.rK ?_)
  refine .ghs (fr 43 [(6,(zI (0:Int))),(7,zI z0)]) (hp 1 [(oT tab0)]) (.k0 [false] [] [6,7]) ?_
  refine .ret ?_
  exact fin_ret (.tuple ⟨[(zI (0:Int)),zI z0]⟩) (by kernel_rfl) (by kernel_rfl) hm
 ·refine .ifF (nt (ieq z0 (0 : Int))) (by kernel_rfl) h0 ?_
  refine .skip ?_
  refine .ghs (fr 43 [(1,Sl.v 1 s0),(2,Sl.v 1 s1),(3,pt 1 0)]) (hT 2 [(oC [zI z1,zI z2,zI z3,Sl.v 1 s2])]) (.k0 [false] [.tmp 3 false] [1,2,3]) ?_
  refine .join (v:=v) (fun y:Unit=>((fr 43 []),(hp 1 [(oT tab0)]))) (fun y=>m14_1 pu n) ?_ ?_
  ·rintro _ hm
   exact w14_1 pu n hm
  ·refine .then (.rK ?_)
   refine .ghs (fr 43 [(1,Sl.v 1 s0),(2,Sl.v 1 s1),(3,pt 1 0),(9,(zI (0:Int)))]) (hT 2 [(oC [zI z1,zI z2,zI z3,Sl.v 1 s2])]) (.k0 [false] [.tmp 3 false] [1,2,3,9]) ?_
   refine .block ?_
   refine .loopM (v:=v) (fun y:Sl×Sl×Int×Int×Int×Int×Sl=>((fr 43 [(1,(Sl.v 1 y.1)),(2,(Sl.v 1 y.2.1)),(3,pt 1 0),(9,(zI y.2.2.1))]),(hT 2 [(oC [(zI y.2.2.2.1),(zI y.2.2.2.2.1),(zI y.2.2.2.2.2.1),(Sl.v 1 y.2.2.2.2.2.2)])]))) (fun w y=>l14_2 pu n w y.1 y.2.1 y.2.2.1 y.2.2.2.1 y.2.2.2.2.1 y.2.2.2.2.2.1 y.2.2.2.2.2.2) n ⟨(s0,s1,(0:Int),z1,z2,z3,s2),hm,(.k0 [false] [.tmp 3 false] [1,2,3,9])⟩ (fun _=>rfl) ?_
   rintro w0 ⟨s3,s4,z4,z5,z6,z7,s5⟩ hm
   replace hm:b14_2 pu n (l14_2 pu n w0) s3 s4 z4 z5 z6 z7 s5 = some v:=hm
   unfold b14_2 at hm
   refine .then ?_
   refine .then (.rK ?_)
   refine .ghs (fr 43 [(1,Sl.v 1 s3),(2,Sl.v 1 s4),(3,pt 1 0),(9,zI z4),(25,(zB (ilt z4 (Int.ofNat (Sl.n s5)))))]) (hT 2 [(oC [zI z5,zI z6,zI z7,Sl.v 1 s5])]) (.k0 [false] [.tmp 3 false] [1,2,3,9,25]) ?_
   replace hm:=bb_cases hm;rcases hm with ⟨h1,hm⟩ | ⟨h1,hm⟩
   ·refine .ifT (ilt z4 (Int.ofNat (Sl.n s5))) (by kernel_rfl) h1 ?_
    refine .skip ?_
    refine .ghs (fr 43 [(1,Sl.v 1 s3),(2,Sl.v 1 s4),(3,pt 1 0),(9,zI z4)]) (hT 2 [(oC [zI z5,zI z6,zI z7,Sl.v 1 s5])]) (.k0 [false] [.tmp 3 false] [1,2,3,9]) ?_
    refine .then ?_
    refine .block ?_
    refine .then ?_
    replace hm:=oo_inv hm;obtain ⟨k1,h2,hm⟩:=hm
    obtain rfl:=toN_some h2
    replace hm:=bb_inv hm;obtain ⟨h3,hm⟩:=hm
    replace hm:=oo_inv hm;obtain ⟨v0,h4,hm⟩:=hm
    replace hm:=inv_toI hm;obtain ⟨x0,rfl,hm⟩:=hm
    replace hm:=oo_inv hm;obtain ⟨v1,h5,hm⟩:=hm
    replace hm:=inv_vTup hm;obtain ⟨l0,rfl,hm⟩:=hm
    replace hm:=ll_uncons hm;obtain ⟨v2,l1093_0,rfl,hm⟩:=hm
    replace hm:=ll_end hm;obtain ⟨rfl,hm⟩:=hm
    replace hm:=inv_toSl hm;obtain ⟨s6,rfl,hm⟩:=hm
    replace hm:=oo_inv hm;obtain ⟨v3,h6,hm⟩:=hm
    replace hm:=inv_vBool hm;obtain ⟨b0,rfl,hm⟩:=hm
    refine .reg (eC 5 (keep (hT 2 [(oC [zI z5,zI z6,zI z7,Sl.v 1 s5])]) (bb (an (Nat.blt k1 (Sl.n s5)) true) (some (fpV (k1 * 1) (Sl.cs s5))) none)) (keep_bb h3) (eD (keep (hT 2 [(oC [zI z5,zI z6,zI z7,Sl.v 1 s5])]) (nthL (Sl.cs s5) (k1 * 1))) (keep_eq h4) (eC 1 (objG tabs [[none,none,none,some 1],[some 1],[none]] 3 [] [] (pu 10480) [(.agg ⟨[zI z5,zI z6,zI z7,Sl.v 1 s5]⟩),Sl.v 1 s3,zI x0] (hT 2 [(oC [zI z5,zI z6,zI z7,Sl.v 1 s5])])) (objG_eq (as:=[(.agg ⟨[zI z5,zI z6,zI z7,Sl.v 1 s5]⟩),Sl.v 1 s3,zI x0]) (H1:=(hT 2 [(oC [zI z5,zI z6,zI z7,Sl.v 1 s5])])) (gvAL_c (gvA_a (gvL_c gv_n (gvL_c gv_n (gvL_c gv_n (gvL_c (gv_s (giveV_cl (z:=1) (v:=(Sl.v 1 s5)) (H:=(hT 2 [(oC [zI z5,zI z6,zI z7,Sl.v 1 s5])])) (by kernel_rfl) (by kernel_rfl) (by kernel_rfl))) gvL_n))))) (gvAL_c (gvA_1 (gv_s (giveV_cl (z:=1) (v:=(Sl.v 1 s3)) (H:=(hT 2 [(oC [zI z5,zI z6,zI z7,Sl.v 1 s5])])) (by kernel_rfl) (by kernel_rfl) (by kernel_rfl)))) (gvAL_c (gvA_1 gv_n) gvAL_n))) (objF_eq (H2:=(hT 2 [(oC [zI z5,zI z6,zI z7,Sl.v 1 s5])])) (v:=(Sl.v 1 s6)) (v':=(Sl.v 1 s6)) [some 0] [] [] [(.agg ⟨[zI z5,zI z6,zI z7,Sl.v 1 s5]⟩),Sl.v 1 s3,zI x0] [] [] [some 0,none] [] [] (by kernel_rfl) mapO_n (Eq.trans (by kernel_rfl) h5) mapO_n mapO_n)) (eD ((oo (pu 50 [Sl.v 1 s6,Sl.v 1 s4]) none fun v=>some (v,(hT 2 [(oC [zI z5,zI z6,zI z7,Sl.v 1 s5])])))) (call_eq h6) (eE))))) ?_
    refine .ghs (fr 43 [(1,Sl.v 1 s3),(2,Sl.v 1 s4),(3,pt 1 0),(9,(zI (Int.ofNat k1))),(37,zB b0)]) (hT 2 [(oC [zI z5,zI z6,zI z7,Sl.v 1 s5])]) (.k0 [false] [.tmp 3 false] [1,2,3,9,37]) ?_
    replace hm:=bb_cases hm;rcases hm with ⟨h7,hm⟩ | ⟨h7,hm⟩
    ·refine .ifT b0 (by kernel_rfl) h7 ?_
     refine .then ?_
     replace hm:=bb_inv hm;obtain ⟨h8,hm⟩:=hm
     replace hm:=oo_inv hm;obtain ⟨v4,h9,hm⟩:=hm
     replace hm:=inv_toI hm;obtain ⟨x1,rfl,hm⟩:=hm
     refine .reg (eC 3 (keep (hT 2 [(oC [zI z5,zI z6,zI z7,Sl.v 1 s5])]) (bb (an (Nat.blt k1 (Sl.n s5)) true) (some (fpV (k1 * 1) (Sl.cs s5))) none)) (keep_bb h8) (eD (keep (hT 2 [(oC [zI z5,zI z6,zI z7,Sl.v 1 s5])]) (nthL (Sl.cs s5) (k1 * 1))) (keep_eq h9) (eE))) ?_
     refine .ghs (fr 43 [(6,zI x1),(7,(zI (0:Int)))]) (hp 1 [(oT tab0)]) (.k0 [false] [] [6,7]) ?_
     refine .ret ?_
     exact fin_ret (.tuple ⟨[zI x1,(zI (0:Int))]⟩) (by kernel_rfl) (by kernel_rfl) hm
    ·refine .ifF b0 (by kernel_rfl) h7 ?_
     refine .skip ?_
     refine .ghs (fr 43 [(1,Sl.v 1 s3),(2,Sl.v 1 s4),(3,pt 1 0),(9,(zI (Int.ofNat k1)))]) (hT 2 [(oC [zI z5,zI z6,zI z7,Sl.v 1 s5])]) (.k0 [false] [.tmp 3 false] [1,2,3,9]) ?_
     refine .rK ?_
     exact ⟨(s3,s4,(wrapF .i64 (Int.add (Int.ofNat k1) (1:Int))),z5,z6,z7,s5),hm,(.k0 [false] [.tmp 3 false] [1,2,3,9])⟩
   ·refine .ifF (ilt z4 (Int.ofNat (Sl.n s5))) (by kernel_rfl) h1 ?_
    refine .exit ?_
    exact ⟨(),hm,(.k0 [false] [] [])⟩
theorem r14 {call:CallF} (pu:PureF) (n:Nat) (hcall:call = callP tabs isP pu (inl pu)) {args:LV} {v:Value} (hm:m14 pu n args = some v) (_:∀ x ∈ args,closed2 x = true):args.length≤43∧Run tt call 1 c14_33 (Fr.made 43 args) (pureHeap tabs) (Fin tt 1 [.tmp 6,.tmp 7] v):=by
 subst hcall
 unfold m14 at hm
 replace hm:=ll_uncons hm;obtain ⟨a0,args_0,rfl,hm⟩:=hm
 replace hm:=ll_uncons hm;obtain ⟨a1,args_1,rfl,hm⟩:=hm
 replace hm:=ll_uncons hm;obtain ⟨a2,args_2,rfl,hm⟩:=hm
 replace hm:=ll_end hm;obtain ⟨rfl,hm⟩:=hm
 replace hm:=inv_vAgg hm;obtain ⟨l0,rfl,hm⟩:=hm
 replace hm:=ll_uncons hm;obtain ⟨v0,l860_0,rfl,hm⟩:=hm
 replace hm:=ll_uncons hm;obtain ⟨v1,l860_1,rfl,hm⟩:=hm
 replace hm:=ll_uncons hm;obtain ⟨v2,l860_2,rfl,hm⟩:=hm
 replace hm:=ll_uncons hm;obtain ⟨v3,l860_3,rfl,hm⟩:=hm
 replace hm:=ll_end hm;obtain ⟨rfl,hm⟩:=hm
 replace hm:=inv_toI hm;obtain ⟨x0,rfl,hm⟩:=hm
 replace hm:=inv_toI hm;obtain ⟨x1,rfl,hm⟩:=hm
 replace hm:=inv_toI hm;obtain ⟨x2,rfl,hm⟩:=hm
 replace hm:=inv_toSl hm;obtain ⟨s0,rfl,hm⟩:=hm
 replace hm:=inv_toSl hm;obtain ⟨s1,rfl,hm⟩:=hm
 replace hm:=inv_toSl hm;obtain ⟨s2,rfl,hm⟩:=hm
 unfold m14_ at hm
 refine ⟨by simp,?_⟩
 refine .same (F':=(fr 43 [(0,(.agg ⟨[zI x0,zI x1,zI x2,Sl.v 1 s0]⟩)),(1,Sl.v 1 s1),(2,Sl.v 1 s2)])) (H':=(hp 1 [(oT tab0)])) (by kernel_rfl) (by kernel_rfl) ?_
 refine .then (.rK ?_)
 refine .ghs (fr 43 [(1,Sl.v 1 s1),(2,Sl.v 1 s2),(3,pt 1 0)]) (hT 2 [(oC [zI x0,zI x1,zI x2,Sl.v 1 s0])]) (.k0 [false] [.tmp 3 false] [1,2,3]) ?_
 refine .then ?_
 replace hm:=oo_inv hm;obtain ⟨v4,h0,hm⟩:=hm
 replace hm:=inv_toI hm;obtain ⟨x3,rfl,hm⟩:=hm
 refine .reg (eC 2 ((oo (pu 46 [(.agg ⟨[zI x0,zI x1,zI x2,Sl.v 1 s0]⟩),Sl.v 1 s1]) none fun v=>some (v,(hT 2 [(oC [zI x0,zI x1,zI x2,Sl.v 1 s0])])))) (call_eq h0) (eE)) ?_
 refine .ghs (fr 43 [(1,Sl.v 1 s1),(2,Sl.v 1 s2),(3,pt 1 0),(8,zI x3)]) (hT 2 [(oC [zI x0,zI x1,zI x2,Sl.v 1 s0])]) (.k0 [false] [.tmp 3 false] [1,2,3,8]) ?_
 refine .join (v:=v) (fun y:Sl×Sl×Int×Int×Int×Int×Sl=>((fr 43 [(1,(Sl.v 1 y.1)),(2,(Sl.v 1 y.2.1)),(3,pt 1 0),(8,(zI y.2.2.1))]),(hT 2 [(oC [(zI y.2.2.2.1),(zI y.2.2.2.2.1),(zI y.2.2.2.2.2.1),(Sl.v 1 y.2.2.2.2.2.2)])]))) (fun y=>m14_0 pu n y.1 y.2.1 y.2.2.1 y.2.2.2.1 y.2.2.2.2.1 y.2.2.2.2.2.1 y.2.2.2.2.2.2) ?_ ?_
 ·rintro ⟨s3, s4, z0, z1, z2, z3, s5⟩ hm
  exact w14_0 pu n s3 s4 z0 z1 z2 z3 s5 hm
 ·refine .then (.rK ?_)
  refine .ghs (fr 43 [(1,Sl.v 1 s1),(2,Sl.v 1 s2),(3,pt 1 0),(8,zI x3),(14,(zB (ieq x3 (0:Int))))]) (hT 2 [(oC [zI x0,zI x1,zI x2,Sl.v 1 s0])]) (.k0 [false] [.tmp 3 false] [1,2,3,8,14]) ?_
  replace hm:=bb_cases hm;rcases hm with ⟨h1,hm⟩ | ⟨h1,hm⟩
  ·refine .ifT (ieq x3 (0 : Int)) (by kernel_rfl) h1 ?_
   replace hm:=oo_inv hm;obtain ⟨v5,h2,hm⟩:=hm
   replace hm:=inv_toI hm;obtain ⟨x4,rfl,hm⟩:=hm
   refine .reg (eC 2 ((oo (pu 46 [(.agg ⟨[zI x0,zI x1,zI x2,Sl.v 1 s0]⟩),Sl.v 1 s2]) none fun v=>some (v,(hT 2 [(oC [zI x0,zI x1,zI x2,Sl.v 1 s0])])))) (call_eq h2) (eE)) ?_
   exact ⟨(s1,s2,x4,x0,x1,x2,s0),hm,(.k0 [false] [.tmp 3 false] [1,2,3,8])⟩
  ·refine .ifF (ieq x3 (0 : Int)) (by kernel_rfl) h1 ?_
   refine .skip ?_
   exact ⟨(s1,s2,x3,x0,x1,x2,s0),hm,(.k0 [false] [.tmp 3 false] [1,2,3,8])⟩
def m15_0 (pu:PureF) (n n0 c0:Nat) (q0:LV):OV:=
 (bb (allL closed1 q0) (bb (an (Nat.ble (0 + n0 * 1) (len q0)) (allL closed1 (takeL (n0 * 1) (dropL 0 q0)))) (some (.tuple ⟨[(Sl.v 1 (Sl.mk n0 0 (takeL (n0 * 1) (dropL 0 q0)))),(.int .i64 (0:Int))]⟩)) none) none)
def m15_2 (pu:PureF) (n:Nat) (ih0:Sl→Nat→LV→Nat→Nat→Sl→Int→Int→LV→OV) (s0:Sl) (n0:Nat) (q0:LV) (n1 c0:Nat) (s1:Sl) (z0 z1:Int) (q1:LV):OV:=
 (bb (allL closed1 q1) (ih0 s0 n0 q0 n1 c0 s1 z0 (wrapF .i64 (Int.add z1 (1:Int))) q1) none)
def b15_1 (pu:PureF) (n:Nat) (ih0:Sl→Nat→LV→Nat→Nat→Sl→Int→Int→LV→OV) (s0:Sl) (n0:Nat) (q0:LV) (n1 c0:Nat) (s1:Sl) (z0 z1:Int) (q1:LV):OV:=
 (bb (allL closed1 q1) (bb (ilt z1 z0) (oo (toN z1) none fun k1=>(bb (an (Nat.blt k1 (Sl.n s1)) true) (oo (nthL (Sl.cs s1) (k1 * 1)) none fun v0=>(oo (toI .i64 v0) none fun x0=>(oo (pu 51 [(fpV n0 q0),Sl.v 1 s0,(.int .i64 (Int.ofNat k1))]) none fun v1=>(oo (toI .u16 v1) none fun x1=>(bb (ieq x1 (0:Int)) (bb (growC 1 8 n1 c0 1 q1) (bb (allL closed1 (appL (dropL 0 q1) [.int .i64 x0])) (m15_2 pu n ih0 s0 n0 q0 (n1 + 1) (2 * (n1 + 1) + bb false 1 0) s1 z0 (Int.ofNat k1) (appL (dropL 0 q1) [.int .i64 x0])) none) none) (m15_2 pu n ih0 s0 n0 q0 n1 c0 s1 z0 (Int.ofNat k1) q1)))))) none)) (m15_0 pu n n1 c0 q1)) none)
def l15_1 (pu:PureF) (n w:Nat):Sl→Nat→LV→Nat→Nat→Sl→Int→Int→LV→OV:=
 Nat.rec (motive:=fun _=>Sl→Nat→LV→Nat→Nat→Sl→Int→Int→LV→OV) (fun _ _ _ _ _ _ _ _ _=>none) (fun _ ih0=>b15_1 pu n ih0) w
def m15_ (pu:PureF) (n:Nat) (x0 x1 x2:Int) (s0 s1:Sl):OV:=
 (oo (pu 43 [(.agg ⟨[.int .i64 x0,.int .i64 x1,.int .i64 x2,Sl.v 1 s0]⟩),(Sl.v 1 (Sl.mk 1 0 (takeL (1 * 1) (dropL 0 ([Sl.v 1 s1]:LV)))))]) none fun v0=>(oo (vTup v0) none fun l0=>(ll l0 none fun v1 l0=>(ll l0 none fun v2 l0=>(ll l0 (bb (isS (vFp v1)) (oo (vFp v1) none fun p0=>(oo (toI .i64 v2) none fun x3=>(bb (nt (ieq x3 (0:Int))) (some (.tuple ⟨[(Sl.v 1 (Sl.mk 0 2 [])),.int .i64 x3]⟩)) (oo (nthL (FpV.cs p0) (((FpV.off p0) + 0) + 3)) none fun v3=>(oo (toSl 1 v3) none fun s2=>(l15_1 pu n n s1 (FpV.off p0) (FpV.cs p0) 0 0 s2 (Int.ofNat (Sl.n s2)) (0:Int) ([]:LV))))))) (bb (isP0 v1) (oo (toI .i64 v2) none fun x4=>(bb (nt (ieq x4 (0:Int))) (some (.tuple ⟨[(Sl.v 1 (Sl.mk 0 2 [])),.int .i64 x4]⟩)) none)) none)) fun _ _=>none)))))
def m15 (pu:PureF) (n:Nat) (args:LV):OV:=
 (ll args none fun a0 args=>(ll args none fun a1 args=>(ll args (oo (vAgg a0) none fun l0=>(ll l0 none fun v0 l0=>(ll l0 none fun v1 l0=>(ll l0 none fun v2 l0=>(ll l0 none fun v3 l0=>(ll l0 (oo (toI .i64 v0) none fun x0=>(oo (toI .i64 v1) none fun x1=>(oo (toI .i64 v2) none fun x2=>(oo (toSl 1 v3) none fun s0=>(oo (toSl 1 a1) none fun s1=>(m15_ pu n x0 x1 x2 s0 s1)))))) fun _ _=>none)))))) fun _ _=>none)))
theorem w15_0 (pu:PureF) (n n0 c0:Nat) (q0:LV) {v:Value} (hm:m15_0 pu n n0 c0 q0 = some v):Run tt (callP tabs isP pu (inl pu)) 1 c15_26 (fr 43 [(8,sc 1 0 1 n0 c0)]) (hT 2 [oC q0]) (Fin tt 1 [.tmp 4,.tmp 5] v):=by
 unfold m15_0 at hm
 refine .then (.rK ?_)
 replace hm:=bb_inv hm;obtain ⟨h0,hm⟩:=hm
 refine .ghs (fr 43 [(4,sc 1 0 1 n0 c0),(5,(zI (0:Int)))]) (hT 2 [oC q0]) (.k [1] [false] [.tmp 4 false] [4,5] ⟨trF h0,trivial⟩) ?_
 replace hm:=bb_inv hm;obtain ⟨h1,hm⟩:=hm
 refine .ghs (Fr.puts (fr 43 [(4,sc 1 0 1 n0 c0),(5,(zI (0:Int)))]) [(4,(Sl.v 1 (Sl.mk n0 0 (takeL (n0 * 1) (dropL 0 q0)))))]) (hT 2 [.dead]) (.freezeC 1 4 1 (an (Nat.ble (0 + n0 * 1) (len q0)) (allL closed1 (takeL (n0 * 1) (dropL 0 q0)))) (F1:=(Fr.puts (fr 43 [(4,sc 1 0 1 n0 c0),(5,(zI (0:Int)))]) [(4,(Sl.v 1 (Sl.mk n0 0 (takeL (n0 * 1) (dropL 0 q0)))))])) (H1:=(hT 2 [.dead])) (by kernel_rfl) (by kernel_rfl) h1 (GhS.id _ _)) ?_
 refine .ret ?_
 exact fin_ret (.tuple ⟨[(Sl.v 1 (Sl.mk n0 0 (takeL (n0 * 1) (dropL 0 q0)))),(zI (0:Int))]⟩) (by kernel_rfl) (by kernel_rfl) hm
theorem r15 {call:CallF} (pu:PureF) (n:Nat) (hcall:call = callP tabs isP pu (inl pu)) {args:LV} {v:Value} (hm:m15 pu n args = some v) (_:∀ x ∈ args,closed2 x = true):args.length≤43∧Run tt call 1 c15_31 (Fr.made 43 args) (pureHeap tabs) (Fin tt 1 [.tmp 4,.tmp 5] v):=by
 subst hcall
 unfold m15 at hm
 replace hm:=ll_uncons hm;obtain ⟨a0,args_0,rfl,hm⟩:=hm
 replace hm:=ll_uncons hm;obtain ⟨a1,args_1,rfl,hm⟩:=hm
 replace hm:=ll_end hm;obtain ⟨rfl,hm⟩:=hm
 replace hm:=inv_vAgg hm;obtain ⟨l0,rfl,hm⟩:=hm
 replace hm:=ll_uncons hm;obtain ⟨v0,l1122_0,rfl,hm⟩:=hm
 replace hm:=ll_uncons hm;obtain ⟨v1,l1122_1,rfl,hm⟩:=hm
 replace hm:=ll_uncons hm;obtain ⟨v2,l1122_2,rfl,hm⟩:=hm
 replace hm:=ll_uncons hm;obtain ⟨v3,l1122_3,rfl,hm⟩:=hm
 replace hm:=ll_end hm;obtain ⟨rfl,hm⟩:=hm
 replace hm:=inv_toI hm;obtain ⟨x0,rfl,hm⟩:=hm
 replace hm:=inv_toI hm;obtain ⟨x1,rfl,hm⟩:=hm
 replace hm:=inv_toI hm;obtain ⟨x2,rfl,hm⟩:=hm
 replace hm:=inv_toSl hm;obtain ⟨s0,rfl,hm⟩:=hm
 replace hm:=inv_toSl hm;obtain ⟨s1,rfl,hm⟩:=hm
 unfold m15_ at hm
 refine ⟨by simp,?_⟩
 refine .same (F':=(fr 43 [(0,(.agg ⟨[zI x0,zI x1,zI x2,Sl.v 1 s0]⟩)),(1,Sl.v 1 s1)])) (H':=(hp 1 [(oT tab0)])) (by kernel_rfl) (by kernel_rfl) ?_
 refine .then (.rK ?_)
 refine .ghs (fr 43 [(1,Sl.v 1 s1),(2,pt 1 0)]) (hT 2 [(oC [zI x0,zI x1,zI x2,Sl.v 1 s0])]) (.k0 [false] [.tmp 2 false] [1,2]) ?_
 refine .then ?_
 replace hm:=oo_inv hm;obtain ⟨v4,h0,hm⟩:=hm
 replace hm:=inv_vTup hm;obtain ⟨l1,rfl,hm⟩:=hm
 replace hm:=ll_uncons hm;obtain ⟨v5,l1151_0,rfl,hm⟩:=hm
 replace hm:=ll_uncons hm;obtain ⟨v6,l1151_1,rfl,hm⟩:=hm
 replace hm:=ll_end hm;obtain ⟨rfl,hm⟩:=hm
 replace hm:=bb_cases hm;rcases hm with ⟨h1,hm⟩ | ⟨h1,hm⟩
 ·replace hm := oo_inv hm; obtain ⟨p0, h2, hm⟩ := hm
  obtain rfl:=vFp_some h2
  replace hm:=inv_toI hm;obtain ⟨x3,rfl,hm⟩:=hm
  refine .reg (eC 3 (giveF tabs 1 (pu 43) [(.agg ⟨[zI x0,zI x1,zI x2,Sl.v 1 s0]⟩),sc 2 0 1 1 3] (hT 3 [(oC [zI x0,zI x1,zI x2,Sl.v 1 s0]),(oC [Sl.v 1 s1])])) (giveF_eq (giveL_cons (giveV_cl (z:=1) (v:=(.agg ⟨[zI x0,zI x1,zI x2,Sl.v 1 s0]⟩)) (H:=(hT 3 [(oC [zI x0,zI x1,zI x2,Sl.v 1 s0]),(oC [Sl.v 1 s1])])) (by kernel_rfl) (by kernel_rfl) (by kernel_rfl)) (giveL_cons (show giveV 1 (sc 2 0 1 1 3) (hT 3 [(oC [zI x0,zI x1,zI x2,Sl.v 1 s0]),(oC [Sl.v 1 s1])]) = some ((Sl.v 1 (Sl.mk 1 0 (takeL (1 * 1) (dropL 0 ([Sl.v 1 s1]:LV))))),(hT 3 [(oC [zI x0,zI x1,zI x2,Sl.v 1 s0]),.dead])) from giveV_sl 2 0 1 1 3 ([Sl.v 1 s1]:LV) [] (by kernel_rfl) (by kernel_rfl) (by kernel_rfl)) giveL_nil)) (by kernel_rfl) h0) (eE)) ?_
  refine .ghs (fr 43 [(1,Sl.v 1 s1),(6,(fpV (FpV.off p0) (FpV.cs p0))),(7,zI x3)]) (hp 1 [(oT tab0)]) (.k0 [false] [] [1,6,7]) ?_
  refine .then ?_
  refine .then (.rK ?_)
  refine .ghs (fr 43 [(1,Sl.v 1 s1),(6,(fpV (FpV.off p0) (FpV.cs p0))),(7,zI x3),(19,(zB (nt (ieq x3 (0:Int)))))]) (hp 1 [(oT tab0)]) (.k0 [false] [] [1,6,7,19]) ?_
  replace hm:=bb_cases hm;rcases hm with ⟨h3,hm⟩ | ⟨h3,hm⟩
  ·refine .ifT (nt (ieq x3 (0 : Int))) (by kernel_rfl) h3 ?_
   refine .then (.rK ?_)
   refine .ghs (fr 43 [(4,(.slice none 0 0)),(5,zI x3)]) (hp 1 [(oT tab0)]) (.k0 [false] [] [4,5]) ?_
   refine .ghs (Fr.puts (fr 43 [(4,(.slice none 0 0)),(5,zI x3)]) [(4,(Sl.v 1 (Sl.mk 0 2 [])))]) (hp 1 [(oT tab0)]) (.freeze 1 4 1 (by kernel_rfl) (by kernel_rfl) (GhS.id _ _)) ?_
   refine .ret ?_
   exact fin_ret (.tuple ⟨[(Sl.v 1 (Sl.mk 0 2 [])),zI x3]⟩) (by kernel_rfl) (by kernel_rfl) hm
  ·refine .ifF (nt (ieq x3 (0 : Int))) (by kernel_rfl) h3 ?_
   refine .skip ?_
   refine .ghs (fr 43 [(1,Sl.v 1 s1),(6,(fpV (FpV.off p0) (FpV.cs p0)))]) (hp 1 [(oT tab0)]) (.k0 [false] [] [1,6]) ?_
   refine .then (.rK ?_)
   refine .ghs (fr 43 [(1,Sl.v 1 s1),(6,(fpV (FpV.off p0) (FpV.cs p0))),(8,(.slice none 0 0))]) (hp 1 [(oT tab0)]) (.k0 [false] [] [1,6,8]) ?_
   refine .join (v:=v) (fun y:Nat×Nat×LV=>((fr 43 [(8,(sc 1 0 1 y.1 y.2.1))]),(hT 2 [(oC y.2.2)]))) (fun y=>m15_0 pu n y.1 y.2.1 y.2.2) ?_ ?_
   ·rintro ⟨n0, c0, q0⟩ hm
    exact w15_0 pu n n0 c0 q0 hm
   ·refine .then ?_
    replace hm:=oo_inv hm;obtain ⟨v7,h4,hm⟩:=hm
    replace hm:=inv_toSl hm;obtain ⟨s2,rfl,hm⟩:=hm
    refine .reg (eC 4 (keep (hp 1 [(oT tab0)]) (nthL (FpV.cs p0) (((FpV.off p0) + 0) + 3))) (keep_eq h4) (eE)) ?_
    refine .ghs (fr 43 [(1,Sl.v 1 s1),(6,(fpV (FpV.off p0) (FpV.cs p0))),(8,(.slice none 0 0)),(25,Sl.v 1 s2),(26,(zI (Int.ofNat (Sl.n s2)))),(27,(zI (0:Int)))]) (hp 1 [(oT tab0)]) (.k0 [false] [] [1,6,8,25,26,27]) ?_
    refine .block ?_
    refine .loopM (v:=v) (fun y:Sl×Nat×LV×Nat×Nat×Sl×Int×Int×LV=>((fr 43 [(1,(Sl.v 1 y.1)),(6,(fpV y.2.1 y.2.2.1)),(8,(sc 1 0 1 y.2.2.2.1 y.2.2.2.2.1)),(25,(Sl.v 1 y.2.2.2.2.2.1)),(26,(zI y.2.2.2.2.2.2.1)),(27,(zI y.2.2.2.2.2.2.2.1))]),(hT 2 [(oC y.2.2.2.2.2.2.2.2)]))) (fun w y=>l15_1 pu n w y.1 y.2.1 y.2.2.1 y.2.2.2.1 y.2.2.2.2.1 y.2.2.2.2.2.1 y.2.2.2.2.2.2.1 y.2.2.2.2.2.2.2.1 y.2.2.2.2.2.2.2.2) n ⟨(s1,(FpV.off p0),(FpV.cs p0),0,0,s2,(Int.ofNat (Sl.n s2)),(0:Int),([]:LV)),hm,(.thaw 8 1 (by kernel_rfl) (.k0 [false] [.tmp 8 false] [1,6,8,25,26,27]))⟩ (fun _=>rfl) ?_
    rintro w0 ⟨s3,n1,q1,n2,c1,s4,z0,z1,q2⟩ hm
    replace hm:b15_1 pu n (l15_1 pu n w0) s3 n1 q1 n2 c1 s4 z0 z1 q2 = some v:=hm
    unfold b15_1 at hm
    refine .then (.rK ?_)
    replace hm:=bb_inv hm;obtain ⟨h5,hm⟩:=hm
    refine .ghs (fr 43 [(1,Sl.v 1 s3),(6,(fpV n1 q1)),(8,sc 1 0 1 n2 c1),(25,Sl.v 1 s4),(26,zI z0),(27,zI z1),(28,(zB (ilt z1 z0)))]) (hT 2 [oC q2]) (.k [1] [false] [.tmp 8 false] [1,6,8,25,26,27,28] ⟨trF h5,trivial⟩) ?_
    refine .then ?_
    replace hm:=bb_cases hm;rcases hm with ⟨h6,hm⟩ | ⟨h6,hm⟩
    ·refine .ifT (ilt z1 z0) (by kernel_rfl) h6 ?_
     refine .skip ?_
     refine .ghs (fr 43 [(1,Sl.v 1 s3),(6,(fpV n1 q1)),(8,sc 1 0 1 n2 c1),(25,Sl.v 1 s4),(26,zI z0),(27,zI z1)]) (hT 2 [oC q2]) (.k [1] [false] [.tmp 8 false] [1,6,8,25,26,27] ⟨trF h5,trivial⟩) ?_
     refine .join (v:=v) (fun y:Sl×Nat×LV×Nat×Nat×Sl×Int×Int×LV=>((fr 43 [(1,(Sl.v 1 y.1)),(6,(fpV y.2.1 y.2.2.1)),(8,(sc 1 0 1 y.2.2.2.1 y.2.2.2.2.1)),(25,(Sl.v 1 y.2.2.2.2.2.1)),(26,(zI y.2.2.2.2.2.2.1)),(27,(zI y.2.2.2.2.2.2.2.1))]),(hT 2 [(oC y.2.2.2.2.2.2.2.2)]))) (fun y=>m15_2 pu n (l15_1 pu n w0) y.1 y.2.1 y.2.2.1 y.2.2.2.1 y.2.2.2.2.1 y.2.2.2.2.2.1 y.2.2.2.2.2.2.1 y.2.2.2.2.2.2.2.1 y.2.2.2.2.2.2.2.2) ?_ ?_
     ·rintro ⟨s5, n3, q3, n4, c2, s6, z2, z3, q4⟩ hm
      unfold m15_2 at hm
      refine .rK ?_
      replace hm:=bb_inv hm;obtain ⟨h7,hm⟩:=hm
      exact ⟨(s5,n3,q3,n4,c2,s6,z2,(wrapF .i64 (Int.add z3 (1:Int))),q4),hm,(.k [1] [false] [.tmp 8 false] [1,6,8,25,26,27] ⟨trF h7,trivial⟩)⟩
     ·refine .block ?_
      refine .then ?_
      replace hm:=oo_inv hm;obtain ⟨k1,h8,hm⟩:=hm
      obtain rfl:=toN_some h8
      replace hm:=bb_inv hm;obtain ⟨h9,hm⟩:=hm
      replace hm:=oo_inv hm;obtain ⟨v8,h10,hm⟩:=hm
      replace hm:=inv_toI hm;obtain ⟨x4,rfl,hm⟩:=hm
      refine .reg (eC 1 (keep (hT 2 [oC q2]) (bb (an (Nat.blt k1 (Sl.n s4)) true) (some (fpV (k1 * 1) (Sl.cs s4))) none)) (keep_bb h9) (eD (keep (hT 2 [oC q2]) (nthL (Sl.cs s4) (k1 * 1))) (keep_eq h10) (eE))) ?_
      refine .ghs (fr 43 [(1,Sl.v 1 s3),(6,(fpV n1 q1)),(8,sc 1 0 1 n2 c1),(9,(zI (Int.ofNat k1))),(10,zI x4),(25,Sl.v 1 s4),(26,zI z0),(27,(zI (Int.ofNat k1)))]) (hT 2 [oC q2]) (.k [1] [false] [.tmp 8 false] [1,6,8,9,10,25,26,27] ⟨trF h5,trivial⟩) ?_
      refine .then ?_
      replace hm:=oo_inv hm;obtain ⟨v9,h11,hm⟩:=hm
      replace hm:=inv_toI hm;obtain ⟨x5,rfl,hm⟩:=hm
      refine .reg (eC 3 ((oo (pu 51 [(fpV n1 q1),Sl.v 1 s3,(zI (Int.ofNat k1))]) none fun v=>some (v,(hT 2 [oC q2])))) (call_eq h11) (eE)) ?_
      refine .ghs (fr 43 [(1,Sl.v 1 s3),(6,(fpV n1 q1)),(8,sc 1 0 1 n2 c1),(10,zI x4),(25,Sl.v 1 s4),(26,zI z0),(27,(zI (Int.ofNat k1))),(36,(zB (ieq x5 (0:Int))))]) (hT 2 [oC q2]) (.k [1] [false] [.tmp 8 false] [1,6,8,10,25,26,27,36] ⟨trF h5,trivial⟩) ?_
      replace hm:=bb_cases hm;rcases hm with ⟨h12,hm⟩ | ⟨h12,hm⟩
      ·refine .ifT (ieq x5 (0 : Int)) (by kernel_rfl) h12 ?_
       replace hm:=bb_inv hm;obtain ⟨h13,hm⟩:=hm
       refine .reg (eC 3 (growD 1 8 n2 c1 1 1 q2 [zI x4] [] (hT 3 [oC q2,(oC [zI x4])])) (growD_eq h13) (eE)) ?_
       replace hm:=bb_inv hm;obtain ⟨h14,hm⟩:=hm
       exact ⟨(s3,n1,q1,(n2 + 1),(d2 (n2 + 1)),s4,z0,(Int.ofNat k1),(appL (dropL 0 q2) [zI x4])),hm,(.k [3] [false] [.tmp 8 false] [1,6,8,25,26,27] ⟨trF h14,trivial⟩)⟩
      ·refine .ifF (ieq x5 (0 : Int)) (by kernel_rfl) h12 ?_
       refine .skip ?_
       exact ⟨(s3,n1,q1,n2,c1,s4,z0,(Int.ofNat k1),q2),hm,(.k [1] [false] [.tmp 8 false] [1,6,8,25,26,27] ⟨trF h5,trivial⟩)⟩
    ·refine .ifF (ilt z1 z0) (by kernel_rfl) h6 ?_
     refine .exit ?_
     exact ⟨(n2,c1,q2),hm,(.k [1] [false] [.tmp 8 false] [8] ⟨trF h5,trivial⟩)⟩
 ·replace hm := bb_inv hm; obtain ⟨h15, hm⟩ := hm
  obtain rfl:=isP0_ok h15
  replace hm:=inv_toI hm;obtain ⟨x6,rfl,hm⟩:=hm
  refine .reg (eC 3 (giveF tabs 1 (pu 43) [(.agg ⟨[zI x0,zI x1,zI x2,Sl.v 1 s0]⟩),sc 2 0 1 1 3] (hT 3 [(oC [zI x0,zI x1,zI x2,Sl.v 1 s0]),(oC [Sl.v 1 s1])])) (giveF_eq (giveL_cons (giveV_cl (z:=1) (v:=(.agg ⟨[zI x0,zI x1,zI x2,Sl.v 1 s0]⟩)) (H:=(hT 3 [(oC [zI x0,zI x1,zI x2,Sl.v 1 s0]),(oC [Sl.v 1 s1])])) (by kernel_rfl) (by kernel_rfl) (by kernel_rfl)) (giveL_cons (show giveV 1 (sc 2 0 1 1 3) (hT 3 [(oC [zI x0,zI x1,zI x2,Sl.v 1 s0]),(oC [Sl.v 1 s1])]) = some ((Sl.v 1 (Sl.mk 1 0 (takeL (1 * 1) (dropL 0 ([Sl.v 1 s1]:LV))))),(hT 3 [(oC [zI x0,zI x1,zI x2,Sl.v 1 s0]),.dead])) from giveV_sl 2 0 1 1 3 ([Sl.v 1 s1]:LV) [] (by kernel_rfl) (by kernel_rfl) (by kernel_rfl)) giveL_nil)) (by kernel_rfl) h0) (eE)) ?_
  refine .ghs (fr 43 [(1,Sl.v 1 s1),(6,(.pointer none)),(7,zI x6)]) (hp 1 [(oT tab0)]) (.k0 [false] [] [1,6,7]) ?_
  refine .then ?_
  refine .then (.rK ?_)
  refine .ghs (fr 43 [(1,Sl.v 1 s1),(6,(.pointer none)),(7,zI x6),(19,(zB (nt (ieq x6 (0:Int)))))]) (hp 1 [(oT tab0)]) (.k0 [false] [] [1,6,7,19]) ?_
  replace hm:=bb_cases hm;rcases hm with ⟨h16,hm⟩ | ⟨h16,hm⟩
  ·refine .ifT (nt (ieq x6 (0 : Int))) (by kernel_rfl) h16 ?_
   refine .then (.rK ?_)
   refine .ghs (fr 43 [(4,(.slice none 0 0)),(5,zI x6)]) (hp 1 [(oT tab0)]) (.k0 [false] [] [4,5]) ?_
   refine .ghs (Fr.puts (fr 43 [(4,(.slice none 0 0)),(5,zI x6)]) [(4,(Sl.v 1 (Sl.mk 0 2 [])))]) (hp 1 [(oT tab0)]) (.freeze 1 4 1 (by kernel_rfl) (by kernel_rfl) (GhS.id _ _)) ?_
   refine .ret ?_
   exact fin_ret (.tuple ⟨[(Sl.v 1 (Sl.mk 0 2 [])),zI x6]⟩) (by kernel_rfl) (by kernel_rfl) hm
  ·refine .ifF (nt (ieq x6 (0 : Int))) (by kernel_rfl) h16 ?_
   refine .skip ?_
   refine .ghs (fr 43 [(1,Sl.v 1 s1),(6,(.pointer none))]) (hp 1 [(oT tab0)]) (.k0 [false] [] [1,6]) ?_
   refine .then (.rK ?_)
   refine .ghs (fr 43 [(1,Sl.v 1 s1),(6,(.pointer none)),(8,(.slice none 0 0))]) (hp 1 [(oT tab0)]) (.k0 [false] [] [1,6,8]) ?_
   refine .then ?_
   refine .then ?_
   cases hm
def m16_0 (pu:PureF) (n n0 c0:Nat) (q0:LV):OV:=
 (bb (allL closed1 q0) (bb (an (Nat.ble (0 + n0 * 1) (len q0)) (allL closed1 (takeL (n0 * 1) (dropL 0 q0)))) (some (.tuple ⟨[(Sl.v 1 (Sl.mk n0 0 (takeL (n0 * 1) (dropL 0 q0)))),(.int .i64 (0:Int))]⟩)) none) none)
def m16_2 (pu:PureF) (n:Nat) (ih0:Sl→Nat→Nat→Int→Int→Int→Int→Sl→LV→OV) (s0:Sl) (n0 c0:Nat) (z0 z1 z2 z3:Int) (s1:Sl) (q0:LV):OV:=
 (bb (allL closed1 q0) (ih0 s0 n0 c0 (wrapF .i64 (Int.add z0 (1:Int))) z1 z2 z3 s1 q0) none)
def b16_1 (pu:PureF) (n:Nat) (ih0:Sl→Nat→Nat→Int→Int→Int→Int→Sl→LV→OV) (s0:Sl) (n0 c0:Nat) (z0 z1 z2 z3:Int) (s1:Sl) (q0:LV):OV:=
 (bb (allL closed1 q0) (bb (ilt z0 (Int.ofNat (Sl.n s1))) (oo (toN z0) none fun k1=>(bb (an (Nat.blt k1 (Sl.n s1)) true) (oo (nthL (Sl.cs s1) (k1 * 1)) none fun v0=>(oo (toI .i64 v0) none fun x0=>(oo (pu 10480 [(.agg ⟨[.int .i64 z1,.int .i64 z2,.int .i64 z3,Sl.v 1 s1]⟩),Sl.v 1 s0,.int .i64 x0]) none fun v1=>(oo (vTup v1) none fun l0=>(ll l0 none fun v2 l0=>(ll l0 (oo (toSl 1 v2) none fun s2=>(oo (pu 50 [Sl.v 1 s2,Sl.v 1 s0]) none fun v3=>(oo (vBool v3) none fun b0=>(bb b0 (bb (an (Nat.blt k1 (Sl.n s1)) true) (oo (nthL (Sl.cs s1) (k1 * 1)) none fun v4=>(oo (toI .i64 v4) none fun x1=>(bb (growC 1 8 n0 c0 1 q0) (bb (allL closed1 (appL (dropL 0 q0) [.int .i64 x1])) (m16_2 pu n ih0 s0 (n0 + 1) (2 * (n0 + 1) + bb false 1 0) (Int.ofNat k1) z1 z2 z3 s1 (appL (dropL 0 q0) [.int .i64 x1])) none) none))) none) (m16_2 pu n ih0 s0 n0 c0 (Int.ofNat k1) z1 z2 z3 s1 q0))))) fun _ _=>none)))))) none)) (m16_0 pu n n0 c0 q0)) none)
def l16_1 (pu:PureF) (n w:Nat):Sl→Nat→Nat→Int→Int→Int→Int→Sl→LV→OV:=
 Nat.rec (motive:=fun _=>Sl→Nat→Nat→Int→Int→Int→Int→Sl→LV→OV) (fun _ _ _ _ _ _ _ _ _=>none) (fun _ ih0=>b16_1 pu n ih0) w
def m16_ (pu:PureF) (n:Nat) (x0 x1 x2:Int) (s0 s1:Sl):OV:=
 (oo (pu 46 [(.agg ⟨[.int .i64 x0,.int .i64 x1,.int .i64 x2,Sl.v 1 s0]⟩),Sl.v 1 s1]) none fun v0=>(oo (toI .i64 v0) none fun x3=>(bb (nt (ieq x3 (0:Int))) (some (.tuple ⟨[(Sl.v 1 (Sl.mk 0 2 [])),.int .i64 x3]⟩)) (l16_1 pu n n s1 0 0 (0:Int) x0 x1 x2 s0 ([]:LV)))))
def m16 (pu:PureF) (n:Nat) (args:LV):OV:=
 (ll args none fun a0 args=>(ll args none fun a1 args=>(ll args (oo (vAgg a0) none fun l0=>(ll l0 none fun v0 l0=>(ll l0 none fun v1 l0=>(ll l0 none fun v2 l0=>(ll l0 none fun v3 l0=>(ll l0 (oo (toI .i64 v0) none fun x0=>(oo (toI .i64 v1) none fun x1=>(oo (toI .i64 v2) none fun x2=>(oo (toSl 1 v3) none fun s0=>(oo (toSl 1 a1) none fun s1=>(m16_ pu n x0 x1 x2 s0 s1)))))) fun _ _=>none)))))) fun _ _=>none)))
theorem w16_0 (pu:PureF) (n n0 c0:Nat) (q0:LV) {v:Value} (hm:m16_0 pu n n0 c0 q0 = some v):Run tt (callP tabs isP pu (inl pu)) 1 c16_24 (fr 41 [(7,sc 1 0 1 n0 c0)]) (hT 2 [oC q0]) (Fin tt 1 [.tmp 4,.tmp 5] v):=by
 unfold m16_0 at hm
 refine .then (.rK ?_)
 replace hm:=bb_inv hm;obtain ⟨h0,hm⟩:=hm
 refine .ghs (fr 41 [(4,sc 1 0 1 n0 c0),(5,(zI (0:Int)))]) (hT 2 [oC q0]) (.k [1] [false] [.tmp 4 false] [4,5] ⟨trF h0,trivial⟩) ?_
 replace hm:=bb_inv hm;obtain ⟨h1,hm⟩:=hm
 refine .ghs (Fr.puts (fr 41 [(4,sc 1 0 1 n0 c0),(5,(zI (0:Int)))]) [(4,(Sl.v 1 (Sl.mk n0 0 (takeL (n0 * 1) (dropL 0 q0)))))]) (hT 2 [.dead]) (.freezeC 1 4 1 (an (Nat.ble (0 + n0 * 1) (len q0)) (allL closed1 (takeL (n0 * 1) (dropL 0 q0)))) (F1:=(Fr.puts (fr 41 [(4,sc 1 0 1 n0 c0),(5,(zI (0:Int)))]) [(4,(Sl.v 1 (Sl.mk n0 0 (takeL (n0 * 1) (dropL 0 q0)))))])) (H1:=(hT 2 [.dead])) (by kernel_rfl) (by kernel_rfl) h1 (GhS.id _ _)) ?_
 refine .ret ?_
 exact fin_ret (.tuple ⟨[(Sl.v 1 (Sl.mk n0 0 (takeL (n0 * 1) (dropL 0 q0)))),(zI (0:Int))]⟩) (by kernel_rfl) (by kernel_rfl) hm
theorem r16 {call:CallF} (pu:PureF) (n:Nat) (hcall:call = callP tabs isP pu (inl pu)) {args:LV} {v:Value} (hm:m16 pu n args = some v) (_:∀ x ∈ args,closed2 x = true):args.length≤41∧Run tt call 1 c16_29 (Fr.made 41 args) (pureHeap tabs) (Fin tt 1 [.tmp 4,.tmp 5] v):=by
 subst hcall
 unfold m16 at hm
 replace hm:=ll_uncons hm;obtain ⟨a0,args_0,rfl,hm⟩:=hm
 replace hm:=ll_uncons hm;obtain ⟨a1,args_1,rfl,hm⟩:=hm
 replace hm:=ll_end hm;obtain ⟨rfl,hm⟩:=hm
 replace hm:=inv_vAgg hm;obtain ⟨l0,rfl,hm⟩:=hm
 replace hm:=ll_uncons hm;obtain ⟨v0,l1485_0,rfl,hm⟩:=hm
 replace hm:=ll_uncons hm;obtain ⟨v1,l1485_1,rfl,hm⟩:=hm
 replace hm:=ll_uncons hm;obtain ⟨v2,l1485_2,rfl,hm⟩:=hm
 replace hm:=ll_uncons hm;obtain ⟨v3,l1485_3,rfl,hm⟩:=hm
 replace hm:=ll_end hm;obtain ⟨rfl,hm⟩:=hm
 replace hm:=inv_toI hm;obtain ⟨x0,rfl,hm⟩:=hm
 replace hm:=inv_toI hm;obtain ⟨x1,rfl,hm⟩:=hm
 replace hm:=inv_toI hm;obtain ⟨x2,rfl,hm⟩:=hm
 replace hm:=inv_toSl hm;obtain ⟨s0,rfl,hm⟩:=hm
 replace hm:=inv_toSl hm;obtain ⟨s1,rfl,hm⟩:=hm
 unfold m16_ at hm
 refine ⟨by simp,?_⟩
 refine .same (F':=(fr 41 [(0,(.agg ⟨[zI x0,zI x1,zI x2,Sl.v 1 s0]⟩)),(1,Sl.v 1 s1)])) (H':=(hp 1 [(oT tab0)])) (by kernel_rfl) (by kernel_rfl) ?_
 refine .then (.rK ?_)
 refine .ghs (fr 41 [(1,Sl.v 1 s1),(2,pt 1 0)]) (hT 2 [(oC [zI x0,zI x1,zI x2,Sl.v 1 s0])]) (.k0 [false] [.tmp 2 false] [1,2]) ?_
 refine .then ?_
 replace hm:=oo_inv hm;obtain ⟨v4,h0,hm⟩:=hm
 replace hm:=inv_toI hm;obtain ⟨x3,rfl,hm⟩:=hm
 refine .reg (eC 2 ((oo (pu 46 [(.agg ⟨[zI x0,zI x1,zI x2,Sl.v 1 s0]⟩),Sl.v 1 s1]) none fun v=>some (v,(hT 2 [(oC [zI x0,zI x1,zI x2,Sl.v 1 s0])])))) (call_eq h0) (eE)) ?_
 refine .ghs (fr 41 [(1,Sl.v 1 s1),(2,pt 1 0),(6,zI x3)]) (hT 2 [(oC [zI x0,zI x1,zI x2,Sl.v 1 s0])]) (.k0 [false] [.tmp 2 false] [1,2,6]) ?_
 refine .then ?_
 refine .then (.rK ?_)
 refine .ghs (fr 41 [(1,Sl.v 1 s1),(2,pt 1 0),(6,zI x3),(13,(zB (nt (ieq x3 (0:Int)))))]) (hT 2 [(oC [zI x0,zI x1,zI x2,Sl.v 1 s0])]) (.k0 [false] [.tmp 2 false] [1,2,6,13]) ?_
 replace hm:=bb_cases hm;rcases hm with ⟨h1,hm⟩ | ⟨h1,hm⟩
 ·refine .ifT (nt (ieq x3 (0 : Int))) (by kernel_rfl) h1 ?_
  refine .then (.rK ?_)
  refine .ghs (fr 41 [(4,(.slice none 0 0)),(5,zI x3)]) (hp 1 [(oT tab0)]) (.k0 [false] [] [4,5]) ?_
  refine .ghs (Fr.puts (fr 41 [(4,(.slice none 0 0)),(5,zI x3)]) [(4,(Sl.v 1 (Sl.mk 0 2 [])))]) (hp 1 [(oT tab0)]) (.freeze 1 4 1 (by kernel_rfl) (by kernel_rfl) (GhS.id _ _)) ?_
  refine .ret ?_
  exact fin_ret (.tuple ⟨[(Sl.v 1 (Sl.mk 0 2 [])),zI x3]⟩) (by kernel_rfl) (by kernel_rfl) hm
 ·refine .ifF (nt (ieq x3 (0 : Int))) (by kernel_rfl) h1 ?_
  refine .skip ?_
  refine .ghs (fr 41 [(1,Sl.v 1 s1),(2,pt 1 0)]) (hT 2 [(oC [zI x0,zI x1,zI x2,Sl.v 1 s0])]) (.k0 [false] [.tmp 2 false] [1,2]) ?_
  refine .then (.rK ?_)
  refine .ghs (fr 41 [(1,Sl.v 1 s1),(2,pt 1 0),(7,(.slice none 0 0))]) (hT 2 [(oC [zI x0,zI x1,zI x2,Sl.v 1 s0])]) (.k0 [false] [.tmp 2 false] [1,2,7]) ?_
  refine .join (v:=v) (fun y:Nat×Nat×LV=>((fr 41 [(7,(sc 1 0 1 y.1 y.2.1))]),(hT 2 [(oC y.2.2)]))) (fun y=>m16_0 pu n y.1 y.2.1 y.2.2) ?_ ?_
  ·rintro ⟨n0, c0, q0⟩ hm
   exact w16_0 pu n n0 c0 q0 hm
  ·refine .then (.rK ?_)
   refine .ghs (fr 41 [(1,Sl.v 1 s1),(2,pt 1 0),(7,(.slice none 0 0)),(8,(zI (0:Int)))]) (hT 2 [(oC [zI x0,zI x1,zI x2,Sl.v 1 s0])]) (.k0 [false] [.tmp 2 false] [1,2,7,8]) ?_
   refine .block ?_
   refine .loopM (v:=v) (fun y:Sl×Nat×Nat×Int×Int×Int×Int×Sl×LV=>((fr 41 [(1,(Sl.v 1 y.1)),(2,pt 1 0),(7,(sc 2 0 1 y.2.1 y.2.2.1)),(8,(zI y.2.2.2.1))]),(hT 3 [(oC [(zI y.2.2.2.2.1),(zI y.2.2.2.2.2.1),(zI y.2.2.2.2.2.2.1),(Sl.v 1 y.2.2.2.2.2.2.2.1)]),(oC y.2.2.2.2.2.2.2.2)]))) (fun w y=>l16_1 pu n w y.1 y.2.1 y.2.2.1 y.2.2.2.1 y.2.2.2.2.1 y.2.2.2.2.2.1 y.2.2.2.2.2.2.1 y.2.2.2.2.2.2.2.1 y.2.2.2.2.2.2.2.2) n ⟨(s1,0,0,(0:Int),x0,x1,x2,s0,([]:LV)),hm,(.thaw 7 1 (by kernel_rfl) (.k0 [false] [.tmp 2 false,.tmp 7 false] [1,2,7,8]))⟩ (fun _=>rfl) ?_
   rintro w0 ⟨s2,n1,c1,z0,z1,z2,z3,s3,q1⟩ hm
   replace hm:b16_1 pu n (l16_1 pu n w0) s2 n1 c1 z0 z1 z2 z3 s3 q1 = some v:=hm
   unfold b16_1 at hm
   refine .then ?_
   refine .then (.rK ?_)
   replace hm:=bb_inv hm;obtain ⟨h2,hm⟩:=hm
   refine .ghs (fr 41 [(1,Sl.v 1 s2),(2,pt 1 0),(7,sc 2 0 1 n1 c1),(8,zI z0),(19,(zB (ilt z0 (Int.ofNat (Sl.n s3)))))]) (hT 3 [(oC [zI z1,zI z2,zI z3,Sl.v 1 s3]),oC q1]) (.k [2] [false] [.tmp 2 false,.tmp 7 false] [1,2,7,8,19] ⟨trF h2,trivial⟩) ?_
   replace hm:=bb_cases hm;rcases hm with ⟨h3,hm⟩ | ⟨h3,hm⟩
   ·refine .ifT (ilt z0 (Int.ofNat (Sl.n s3))) (by kernel_rfl) h3 ?_
    refine .skip ?_
    refine .ghs (fr 41 [(1,Sl.v 1 s2),(2,pt 1 0),(7,sc 2 0 1 n1 c1),(8,zI z0)]) (hT 3 [(oC [zI z1,zI z2,zI z3,Sl.v 1 s3]),oC q1]) (.k [2] [false] [.tmp 2 false,.tmp 7 false] [1,2,7,8] ⟨trF h2,trivial⟩) ?_
    refine .join (v:=v) (fun y:Sl×Nat×Nat×Int×Int×Int×Int×Sl×LV=>((fr 41 [(1,(Sl.v 1 y.1)),(2,pt 1 0),(7,(sc 2 0 1 y.2.1 y.2.2.1)),(8,(zI y.2.2.2.1))]),(hT 3 [(oC [(zI y.2.2.2.2.1),(zI y.2.2.2.2.2.1),(zI y.2.2.2.2.2.2.1),(Sl.v 1 y.2.2.2.2.2.2.2.1)]),(oC y.2.2.2.2.2.2.2.2)]))) (fun y=>m16_2 pu n (l16_1 pu n w0) y.1 y.2.1 y.2.2.1 y.2.2.2.1 y.2.2.2.2.1 y.2.2.2.2.2.1 y.2.2.2.2.2.2.1 y.2.2.2.2.2.2.2.1 y.2.2.2.2.2.2.2.2) ?_ ?_
    ·rintro ⟨s4, n2, c2, z4, z5, z6, z7, s5, q2⟩ hm
     unfold m16_2 at hm
     refine .rK ?_
     replace hm:=bb_inv hm;obtain ⟨h4,hm⟩:=hm
     exact ⟨(s4,n2,c2,(wrapF .i64 (Int.add z4 (1:Int))),z5,z6,z7,s5,q2),hm,(.k [2] [false] [.tmp 2 false,.tmp 7 false] [1,2,7,8] ⟨trF h4,trivial⟩)⟩
    ·refine .block ?_
     refine .then ?_
     replace hm:=oo_inv hm;obtain ⟨k1,h5,hm⟩:=hm
     obtain rfl:=toN_some h5
     replace hm:=bb_inv hm;obtain ⟨h6,hm⟩:=hm
     replace hm:=oo_inv hm;obtain ⟨v5,h7,hm⟩:=hm
     replace hm:=inv_toI hm;obtain ⟨x4,rfl,hm⟩:=hm
     replace hm:=oo_inv hm;obtain ⟨v6,h8,hm⟩:=hm
     replace hm:=inv_vTup hm;obtain ⟨l1,rfl,hm⟩:=hm
     replace hm:=ll_uncons hm;obtain ⟨v7,l2110_0,rfl,hm⟩:=hm
     replace hm:=ll_end hm;obtain ⟨rfl,hm⟩:=hm
     replace hm:=inv_toSl hm;obtain ⟨s6,rfl,hm⟩:=hm
     replace hm:=oo_inv hm;obtain ⟨v8,h9,hm⟩:=hm
     replace hm:=inv_vBool hm;obtain ⟨b0,rfl,hm⟩:=hm
     refine .reg (eC 5 (keep (hT 3 [(oC [zI z1,zI z2,zI z3,Sl.v 1 s3]),oC q1]) (bb (an (Nat.blt k1 (Sl.n s3)) true) (some (fpV (k1 * 1) (Sl.cs s3))) none)) (keep_bb h6) (eD (keep (hT 3 [(oC [zI z1,zI z2,zI z3,Sl.v 1 s3]),oC q1]) (nthL (Sl.cs s3) (k1 * 1))) (keep_eq h7) (eC 1 (objG tabs [[none,none,none,some 1],[some 1],[none]] 3 [] [] (pu 10480) [(.agg ⟨[zI z1,zI z2,zI z3,Sl.v 1 s3]⟩),Sl.v 1 s2,zI x4] (hT 3 [(oC [zI z1,zI z2,zI z3,Sl.v 1 s3]),oC q1])) (objG_eq (as:=[(.agg ⟨[zI z1,zI z2,zI z3,Sl.v 1 s3]⟩),Sl.v 1 s2,zI x4]) (H1:=(hT 3 [(oC [zI z1,zI z2,zI z3,Sl.v 1 s3]),oC q1])) (gvAL_c (gvA_a (gvL_c gv_n (gvL_c gv_n (gvL_c gv_n (gvL_c (gv_s (giveV_cl (z:=1) (v:=(Sl.v 1 s3)) (H:=(hT 3 [(oC [zI z1,zI z2,zI z3,Sl.v 1 s3]),oC q1])) (by kernel_rfl) (by kernel_rfl) (by kernel_rfl))) gvL_n))))) (gvAL_c (gvA_1 (gv_s (giveV_cl (z:=1) (v:=(Sl.v 1 s2)) (H:=(hT 3 [(oC [zI z1,zI z2,zI z3,Sl.v 1 s3]),oC q1])) (by kernel_rfl) (by kernel_rfl) (by kernel_rfl)))) (gvAL_c (gvA_1 gv_n) gvAL_n))) (objF_eq (H2:=(hT 3 [(oC [zI z1,zI z2,zI z3,Sl.v 1 s3]),oC q1])) (v:=(Sl.v 1 s6)) (v':=(Sl.v 1 s6)) [some 0] [] [] [(.agg ⟨[zI z1,zI z2,zI z3,Sl.v 1 s3]⟩),Sl.v 1 s2,zI x4] [] [] [some 0,none,none] [] [] (by kernel_rfl) mapO_n (Eq.trans (by kernel_rfl) h8) mapO_n mapO_n)) (eD ((oo (pu 50 [Sl.v 1 s6,Sl.v 1 s2]) none fun v=>some (v,(hT 3 [(oC [zI z1,zI z2,zI z3,Sl.v 1 s3]),oC q1])))) (call_eq h9) (eE))))) ?_
     refine .ghs (fr 41 [(1,Sl.v 1 s2),(2,pt 1 0),(7,sc 2 0 1 n1 c1),(8,(zI (Int.ofNat k1))),(31,zB b0)]) (hT 3 [(oC [zI z1,zI z2,zI z3,Sl.v 1 s3]),oC q1]) (.k [2] [false] [.tmp 2 false,.tmp 7 false] [1,2,7,8,31] ⟨trF h2,trivial⟩) ?_
     replace hm:=bb_cases hm;rcases hm with ⟨h10,hm⟩ | ⟨h10,hm⟩
     ·refine .ifT b0 (by kernel_rfl) h10 ?_
      replace hm:=bb_inv hm;obtain ⟨h11,hm⟩:=hm
      replace hm:=oo_inv hm;obtain ⟨v9,h12,hm⟩:=hm
      replace hm:=inv_toI hm;obtain ⟨x5,rfl,hm⟩:=hm
      replace hm:=bb_inv hm;obtain ⟨h13,hm⟩:=hm
      refine .reg (eC 4 (keep (hT 3 [(oC [zI z1,zI z2,zI z3,Sl.v 1 s3]),oC q1]) (bb (an (Nat.blt k1 (Sl.n s3)) true) (some (fpV (k1 * 1) (Sl.cs s3))) none)) (keep_bb h11) (eD (keep (hT 3 [(oC [zI z1,zI z2,zI z3,Sl.v 1 s3]),oC q1]) (nthL (Sl.cs s3) (k1 * 1))) (keep_eq h12) (eC 1 (growD 1 8 n1 c1 1 2 q1 [zI x5] [] (hT 4 [(oC [zI z1,zI z2,zI z3,Sl.v 1 s3]),oC q1,(oC [zI x5])])) (growD_eq h13) (eE)))) ?_
      replace hm:=bb_inv hm;obtain ⟨h14,hm⟩:=hm
      exact ⟨(s2,(n1 + 1),(d2 (n1 + 1)),(Int.ofNat k1),z1,z2,z3,s3,(appL (dropL 0 q1) [zI x5])),hm,(.k [4] [false] [.tmp 2 false,.tmp 7 false] [1,2,7,8] ⟨trF h14,trivial⟩)⟩
     ·refine .ifF b0 (by kernel_rfl) h10 ?_
      refine .skip ?_
      exact ⟨(s2,n1,c1,(Int.ofNat k1),z1,z2,z3,s3,q1),hm,(.k [2] [false] [.tmp 2 false,.tmp 7 false] [1,2,7,8] ⟨trF h2,trivial⟩)⟩
   ·refine .ifF (ilt z0 (Int.ofNat (Sl.n s3))) (by kernel_rfl) h3 ?_
    refine .exit ?_
    exact ⟨(n1,c1,q1),hm,(.k [2] [false] [.tmp 7 false] [7] ⟨trF h2,trivial⟩)⟩
def m17_0 (pu:PureF) (n:Nat):OV:=
 (some (.bool true))
def b17_1 (pu:PureF) (n:Nat) (ih0:Sl→Sl→Int→OV) (s0 s1:Sl) (z0:Int):OV:=
 (bb (ilt z0 (Int.ofNat (Sl.n s0))) (oo (toN z0) none fun k1=>(bb (an (Nat.blt k1 (Sl.n s0)) true) (oo (nthL (Sl.cs s0) (k1 * 1)) none fun v0=>(oo (toI .i64 v0) none fun x0=>(bb (an (Nat.blt k1 (Sl.n s1)) true) (oo (nthL (Sl.cs s1) (k1 * 1)) none fun v1=>(oo (toI .i64 v1) none fun x1=>(bb (nt (ieq x0 x1)) (some (.bool false)) (ih0 s0 s1 (wrapF .i64 (Int.add (Int.ofNat k1) (1:Int))))))) none))) none)) (m17_0 pu n))
def l17_1 (pu:PureF) (n w:Nat):Sl→Sl→Int→OV:=
 Nat.rec (motive:=fun _=>Sl→Sl→Int→OV) (fun _ _ _=>none) (fun _ ih0=>b17_1 pu n ih0) w
def m17_ (pu:PureF) (n:Nat) (s0 s1:Sl):OV:=
 (bb (nt (ieq (Int.ofNat (Sl.n s0)) (Int.ofNat (Sl.n s1)))) (some (.bool false)) (l17_1 pu n n s0 s1 (0:Int)))
def m17 (pu:PureF) (n:Nat) (args:LV):OV:=
 (ll args none fun a0 args=>(ll args none fun a1 args=>(ll args (oo (toSl 1 a0) none fun s0=>(oo (toSl 1 a1) none fun s1=>(m17_ pu n s0 s1))) fun _ _=>none)))
theorem w17_0 (pu:PureF) (n:Nat) {v:Value} (hm:m17_0 pu n = some v):Run tt (callP tabs isP pu (inl pu)) 1 c17_23 (fr 26 []) (hp 1 [(oT tab0)]) (Fin tt 1 [.tmp 4] v):=by
 unfold m17_0 at hm
 refine .then (.rK ?_)
 refine .ghs (fr 26 [(4,zB true)]) (hp 1 [(oT tab0)]) (.k0 [false] [] [4]) ?_
 refine .ret ?_
 exact fin_ret (zB true) (by kernel_rfl) (by kernel_rfl) hm
theorem r17 {call:CallF} (pu:PureF) (n:Nat) (hcall:call = callP tabs isP pu (inl pu)) {args:LV} {v:Value} (hm:m17 pu n args = some v) (_:∀ x ∈ args,closed2 x = true):args.length≤26∧Run tt call 1 c17_26 (Fr.made 26 args) (pureHeap tabs) (Fin tt 1 [.tmp 4] v):=by
 subst hcall
 unfold m17 at hm
 replace hm:=ll_uncons hm;obtain ⟨a0,args_0,rfl,hm⟩:=hm
 replace hm:=ll_uncons hm;obtain ⟨a1,args_1,rfl,hm⟩:=hm
 replace hm:=ll_end hm;obtain ⟨rfl,hm⟩:=hm
 replace hm:=inv_toSl hm;obtain ⟨s0,rfl,hm⟩:=hm
 replace hm:=inv_toSl hm;obtain ⟨s1,rfl,hm⟩:=hm
 unfold m17_ at hm
 refine ⟨by simp,?_⟩
 refine .same (F':=(fr 26 [(0,Sl.v 1 s0),(1,Sl.v 1 s1)])) (H':=(hp 1 [(oT tab0)])) (by kernel_rfl) (by kernel_rfl) ?_
 refine .then (.rK ?_)
 refine .ghs (fr 26 [(0,Sl.v 1 s0),(1,Sl.v 1 s1)]) (hp 1 [(oT tab0)]) (.k0 [false] [] [0,1]) ?_
 refine .then ?_
 refine .then (.rK ?_)
 refine .ghs (fr 26 [(0,Sl.v 1 s0),(1,Sl.v 1 s1),(10,(zB (nt (ieq (Int.ofNat (Sl.n s0)) (Int.ofNat (Sl.n s1))))))]) (hp 1 [(oT tab0)]) (.k0 [false] [] [0,1,10]) ?_
 replace hm:=bb_cases hm;rcases hm with ⟨h0,hm⟩ | ⟨h0,hm⟩
 ·refine .ifT (nt (ieq (Int.ofNat (Sl.n s0)) (Int.ofNat (Sl.n s1)))) (by kernel_rfl) h0 ?_
  refine .then (.rK ?_)
  refine .ghs (fr 26 [(4,zB false)]) (hp 1 [(oT tab0)]) (.k0 [false] [] [4]) ?_
  refine .ret ?_
  exact fin_ret (zB false) (by kernel_rfl) (by kernel_rfl) hm
 ·refine .ifF (nt (ieq (Int.ofNat (Sl.n s0)) (Int.ofNat (Sl.n s1)))) (by kernel_rfl) h0 ?_
  refine .skip ?_
  refine .ghs (fr 26 [(0,Sl.v 1 s0),(1,Sl.v 1 s1)]) (hp 1 [(oT tab0)]) (.k0 [false] [] [0,1]) ?_
  refine .join (v:=v) (fun y:Unit=>((fr 26 []),(hp 1 [(oT tab0)]))) (fun y=>m17_0 pu n) ?_ ?_
  ·rintro _ hm
   exact w17_0 pu n hm
  ·refine .then (.rK ?_)
   refine .ghs (fr 26 [(0,Sl.v 1 s0),(1,Sl.v 1 s1),(5,(zI (0:Int)))]) (hp 1 [(oT tab0)]) (.k0 [false] [] [0,1,5]) ?_
   refine .block ?_
   refine .loopM (v:=v) (fun y:Sl×Sl×Int=>((fr 26 [(0,(Sl.v 1 y.1)),(1,(Sl.v 1 y.2.1)),(5,(zI y.2.2))]),(hp 1 [(oT tab0)]))) (fun w y=>l17_1 pu n w y.1 y.2.1 y.2.2) n ⟨(s0,s1,(0:Int)),hm,(.k0 [false] [] [0,1,5])⟩ (fun _=>rfl) ?_
   rintro w0 ⟨s2,s3,z0⟩ hm
   replace hm:b17_1 pu n (l17_1 pu n w0) s2 s3 z0 = some v:=hm
   unfold b17_1 at hm
   refine .then ?_
   refine .then (.rK ?_)
   refine .ghs (fr 26 [(0,Sl.v 1 s2),(1,Sl.v 1 s3),(5,zI z0),(14,(zB (ilt z0 (Int.ofNat (Sl.n s2)))))]) (hp 1 [(oT tab0)]) (.k0 [false] [] [0,1,5,14]) ?_
   replace hm:=bb_cases hm;rcases hm with ⟨h1,hm⟩ | ⟨h1,hm⟩
   ·refine .ifT (ilt z0 (Int.ofNat (Sl.n s2))) (by kernel_rfl) h1 ?_
    refine .skip ?_
    refine .ghs (fr 26 [(0,Sl.v 1 s2),(1,Sl.v 1 s3),(5,zI z0)]) (hp 1 [(oT tab0)]) (.k0 [false] [] [0,1,5]) ?_
    refine .then ?_
    refine .block ?_
    refine .then ?_
    replace hm:=oo_inv hm;obtain ⟨k1,h2,hm⟩:=hm
    obtain rfl:=toN_some h2
    replace hm:=bb_inv hm;obtain ⟨h3,hm⟩:=hm
    replace hm:=oo_inv hm;obtain ⟨v0,h4,hm⟩:=hm
    replace hm:=inv_toI hm;obtain ⟨x0,rfl,hm⟩:=hm
    replace hm:=bb_inv hm;obtain ⟨h5,hm⟩:=hm
    replace hm:=oo_inv hm;obtain ⟨v1,h6,hm⟩:=hm
    replace hm:=inv_toI hm;obtain ⟨x1,rfl,hm⟩:=hm
    refine .reg (eC 2 (keep (hp 1 [(oT tab0)]) (bb (an (Nat.blt k1 (Sl.n s2)) true) (some (fpV (k1 * 1) (Sl.cs s2))) none)) (keep_bb h3) (eD (keep (hp 1 [(oT tab0)]) (nthL (Sl.cs s2) (k1 * 1))) (keep_eq h4) (eC 2 (keep (hp 1 [(oT tab0)]) (bb (an (Nat.blt k1 (Sl.n s3)) true) (some (fpV (k1 * 1) (Sl.cs s3))) none)) (keep_bb h5) (eD (keep (hp 1 [(oT tab0)]) (nthL (Sl.cs s3) (k1 * 1))) (keep_eq h6) (eE))))) ?_
    refine .ghs (fr 26 [(0,Sl.v 1 s2),(1,Sl.v 1 s3),(5,(zI (Int.ofNat k1))),(25,(zB (nt (ieq x0 x1))))]) (hp 1 [(oT tab0)]) (.k0 [false] [] [0,1,5,25]) ?_
    replace hm:=bb_cases hm;rcases hm with ⟨h7,hm⟩ | ⟨h7,hm⟩
    ·refine .ifT (nt (ieq x0 x1)) (by kernel_rfl) h7 ?_
     refine .then (.rK ?_)
     refine .ghs (fr 26 [(4,zB false)]) (hp 1 [(oT tab0)]) (.k0 [false] [] [4]) ?_
     refine .ret ?_
     exact fin_ret (zB false) (by kernel_rfl) (by kernel_rfl) hm
    ·refine .ifF (nt (ieq x0 x1)) (by kernel_rfl) h7 ?_
     refine .skip ?_
     refine .ghs (fr 26 [(0,Sl.v 1 s2),(1,Sl.v 1 s3),(5,(zI (Int.ofNat k1)))]) (hp 1 [(oT tab0)]) (.k0 [false] [] [0,1,5]) ?_
     refine .rK ?_
     exact ⟨(s2,s3,(wrapF .i64 (Int.add (Int.ofNat k1) (1:Int)))),hm,(.k0 [false] [] [0,1,5])⟩
   ·refine .ifF (ilt z0 (Int.ofNat (Sl.n s2))) (by kernel_rfl) h1 ?_
    refine .exit ?_
    exact ⟨(),hm,(.k0 [false] [] [])⟩
def m34_1 (pu:PureF) (n:Nat) (z0:Int):OV:=
 (some (.tuple ⟨[.int .i64 z0,(.int .i64 (0:Int))]⟩))
def b34_2 (pu:PureF) (n:Nat) (ih0:Sl→Sl→Int→Int→Int→Int→OV) (s0 s1:Sl) (z0 z1 z2 z3:Int):OV:=
 (oo (pu 10480 [(.agg ⟨[.int .i64 z1,.int .i64 z2,.int .i64 z3,(Sl.v 1 (Sl.mk 0 2 []))]⟩),Sl.v 1 s0,.int .i64 z0]) none fun v0=>(oo (vTup v0) none fun l0=>(ll l0 none fun v1 l0=>(ll l0 (oo (toSl 1 v1) none fun s2=>(oo (pu 50 [Sl.v 1 s2,Sl.v 1 s1]) none fun v2=>(oo (vBool v2) none fun b0=>(bb (nt b0) (ih0 s0 s1 (wrapF .i64 (Int.add z0 (1:Int))) z1 z2 z3) (m34_1 pu n z0))))) fun _ _=>none))))
def l34_2 (pu:PureF) (n w:Nat):Sl→Sl→Int→Int→Int→Int→OV:=
 Nat.rec (motive:=fun _=>Sl→Sl→Int→Int→Int→Int→OV) (fun _ _ _ _ _ _=>none) (fun _ ih0=>b34_2 pu n ih0) w
def m34_0 (pu:PureF) (n:Nat) (z0 z1:Int) (b0:Bool):OV:=
 (bb b0 (some (.tuple ⟨[(.int .i64 (0:Int)),(.int .i64 (2:Int))]⟩)) (oo (pu 10481 [(.agg ⟨[(.int .i64 (2:Int)),(.int .i64 (2:Int)),(.int .i64 (0:Int)),(Sl.v 1 (Sl.mk 0 2 []))]⟩),(.slice (some ⟨1,0,some 1⟩) 4 9),.int .i64 z0,(.agg ⟨[(.int .i64 (0:Int)),(.int .i64 (1:Int)),(.int .i64 (2:Int)),(.int .i64 (3:Int))]⟩)]) none fun v0=>(oo (vTup v0) none fun l0=>(ll l0 none fun v1 l0=>(ll l0 none fun v2 l0=>(ll l0 (oo (toSl 1 v1) none fun s0=>(oo (vAgg v2) none fun q0=>(bb (allL closed1 q0) (oo (pu 10480 [(.agg ⟨[(.int .i64 (2:Int)),(.int .i64 (2:Int)),(.int .i64 (0:Int)),(Sl.v 1 (Sl.mk 0 2 []))]⟩),Sl.v 1 s0,.int .i64 z1]) none fun v3=>(oo (vTup v3) none fun l1=>(ll l1 none fun v4 l1=>(ll l1 (oo (toSl 1 v4) none fun s1=>(bb (allL closed1 q0) (bb (an (Nat.ble (0 + 4 * 1) (len q0)) (allL closed1 (takeL (4 * 1) (dropL 0 q0)))) (l34_2 pu n n (Sl.mk 4 0 (takeL (4 * 1) (dropL 0 q0))) s1 (0:Int) (2:Int) (2:Int) (0:Int)) none) none)) fun _ _=>none)))) none))) fun _ _=>none))))))
def m34_ (pu:PureF) (n:Nat) (x0 x1:Int):OV:=
 (oo (pu 62 [.int .i64 x0,(.int .i64 (0:Int)),(.int .i64 (7:Int))]) none fun v0=>(oo (vBool v0) none fun b0=>(bb (nt b0) (m34_0 pu n x0 x1 true) (oo (pu 62 [.int .i64 x1,(.int .i64 (0:Int)),(.int .i64 (7:Int))]) none fun v1=>(oo (vBool v1) none fun b1=>(m34_0 pu n x0 x1 (nt b1)))))))
def m34 (pu:PureF) (n:Nat) (args:LV):OV:=
 (ll args none fun a0 args=>(ll args none fun a1 args=>(ll args (oo (toI .i64 a0) none fun x0=>(oo (toI .i64 a1) none fun x1=>(m34_ pu n x0 x1))) fun _ _=>none)))
theorem w34_1 (pu:PureF) (n:Nat) (z0:Int) {v:Value} (hm:m34_1 pu n z0 = some v):Run tt (callP tabs isP pu (inl pu)) 1 c34_19 (fr 37 [(9,zI z0)]) (hp 1 [(oT tab0)]) (Fin tt 1 [.tmp 4,.tmp 5] v):=by
 unfold m34_1 at hm
 refine .then (.rK ?_)
 refine .ghs (fr 37 [(4,zI z0),(5,(zI (0:Int)))]) (hp 1 [(oT tab0)]) (.k0 [false] [] [4,5]) ?_
 refine .ret ?_
 exact fin_ret (.tuple ⟨[zI z0,(zI (0:Int))]⟩) (by kernel_rfl) (by kernel_rfl) hm
theorem r34 {call:CallF} (pu:PureF) (n:Nat) (hcall:call = callP tabs isP pu (inl pu)) {args:LV} {v:Value} (hm:m34 pu n args = some v) (_:∀ x ∈ args,closed2 x = true):args.length≤37∧Run tt call 1 c34_26 (Fr.made 37 args) (pureHeap tabs) (Fin tt 1 [.tmp 4,.tmp 5] v):=by
 subst hcall
 unfold m34 at hm
 replace hm:=ll_uncons hm;obtain ⟨a0,args_0,rfl,hm⟩:=hm
 replace hm:=ll_uncons hm;obtain ⟨a1,args_1,rfl,hm⟩:=hm
 replace hm:=ll_end hm;obtain ⟨rfl,hm⟩:=hm
 replace hm:=inv_toI hm;obtain ⟨x0,rfl,hm⟩:=hm
 replace hm:=inv_toI hm;obtain ⟨x1,rfl,hm⟩:=hm
 unfold m34_ at hm
 refine ⟨by simp,?_⟩
 refine .same (F':=(fr 37 [(0,zI x0),(1,zI x1)])) (H':=(hp 1 [(oT tab0)])) (by kernel_rfl) (by kernel_rfl) ?_
 refine .then (.rK ?_)
 refine .ghs (fr 37 [(0,zI x0),(1,zI x1)]) (hp 1 [(oT tab0)]) (.k0 [false] [] [0,1]) ?_
 refine .then ?_
 refine .join (v:=v) (fun y:Int×Int×Bool=>((fr 37 [(0,(zI y.1)),(1,(zI y.2.1)),(17,(zB y.2.2))]),(hp 1 [(oT tab0)]))) (fun y=>m34_0 pu n y.1 y.2.1 y.2.2) ?_ ?_
 ·rintro ⟨z0, z1, b0⟩ hm
  unfold m34_0 at hm
  replace hm:=bb_cases hm;rcases hm with ⟨h0,hm⟩ | ⟨h0,hm⟩
  ·refine .ifT b0 (by kernel_rfl) h0 ?_
   refine .then (.rK ?_)
   refine .ghs (fr 37 [(4,(zI (0:Int))),(5,(zI (2:Int)))]) (hp 1 [(oT tab0)]) (.k0 [false] [] [4,5]) ?_
   refine .ret ?_
   exact fin_ret (.tuple ⟨[(zI (0:Int)),(zI (2:Int))]⟩) (by kernel_rfl) (by kernel_rfl) hm
  ·refine .ifF b0 (by kernel_rfl) h0 ?_
   refine .skip ?_
   refine .ghs (fr 37 [(0,zI z0),(1,zI z1)]) (hp 1 [(oT tab0)]) (.k0 [false] [] [0,1]) ?_
   refine .then (.rK ?_)
   refine .ghs (fr 37 [(0,zI z0),(1,zI z1),(6,pt 1 0)]) (hT 2 [(oC [(zI (2:Int)),(zI (2:Int)),(zI (0:Int)),(.slice none 0 0)])]) (.k0 [false] [.tmp 6 false] [0,1,6]) ?_
   refine .then (.rK ?_)
   refine .ghs (fr 37 [(0,zI z0),(1,zI z1),(6,pt 1 0),(7,sc 2 0 1 4 9)]) (hT 3 [(oC [(zI (2:Int)),(zI (2:Int)),(zI (0:Int)),(.slice none 0 0)]),(oC [(zI (0:Int)),(zI (1:Int)),(zI (2:Int)),(zI (3:Int))])]) (.k0 [false] [.tmp 6 false,.tmp 7 false] [0,1,6,7]) ?_
   refine .then ?_
   replace hm:=oo_inv hm;obtain ⟨v0,h1,hm⟩:=hm
   replace hm:=inv_vTup hm;obtain ⟨l0,rfl,hm⟩:=hm
   replace hm:=ll_uncons hm;obtain ⟨v1,l2478_0,rfl,hm⟩:=hm
   replace hm:=ll_uncons hm;obtain ⟨v2,l2478_1,rfl,hm⟩:=hm
   replace hm:=ll_end hm;obtain ⟨rfl,hm⟩:=hm
   replace hm:=inv_toSl hm;obtain ⟨s0,rfl,hm⟩:=hm
   replace hm:=inv_vAgg hm;obtain ⟨q0,rfl,hm⟩:=hm
   replace hm:=bb_inv hm;obtain ⟨h2,hm⟩:=hm
   replace hm:=oo_inv hm;obtain ⟨v3,h3,hm⟩:=hm
   replace hm:=inv_vTup hm;obtain ⟨l1,rfl,hm⟩:=hm
   replace hm:=ll_uncons hm;obtain ⟨v4,l2495_0,rfl,hm⟩:=hm
   replace hm:=ll_end hm;obtain ⟨rfl,hm⟩:=hm
   replace hm:=inv_toSl hm;obtain ⟨s1,rfl,hm⟩:=hm
   refine .reg (eC 5 (objG tabs [[none,none,none,some 1],[none],[none]] 3 [.tmp 1 false] [false] (pu 10481) [(.agg ⟨[(zI (2:Int)),(zI (2:Int)),(zI (0:Int)),(.slice none 0 0)]⟩),sc 2 0 1 4 9,zI z0] (hT 3 [(oC [(zI (2:Int)),(zI (2:Int)),(zI (0:Int)),(.slice none 0 0)]),(oC [(zI (0:Int)),(zI (1:Int)),(zI (2:Int)),(zI (3:Int))])])) (objG_eq (as:=[(.agg ⟨[(zI (2:Int)),(zI (2:Int)),(zI (0:Int)),(Sl.v 1 (Sl.mk 0 2 []))]⟩),sc 2 0 1 4 9,zI z0]) (H1:=(hT 3 [(oC [(zI (2:Int)),(zI (2:Int)),(zI (0:Int)),(.slice none 0 0)]),(oC [(zI (0:Int)),(zI (1:Int)),(zI (2:Int)),(zI (3:Int))])])) (gvAL_c (gvA_a (gvL_c gv_n (gvL_c gv_n (gvL_c gv_n (gvL_c (gv_s (giveV_nil (z:=1) (H:=(hT 3 [(oC [(zI (2:Int)),(zI (2:Int)),(zI (0:Int)),(.slice none 0 0)]),(oC [(zI (0:Int)),(zI (1:Int)),(zI (2:Int)),(zI (3:Int))])])))) gvL_n))))) (gvAL_c (gvA_1 gv_n) (gvAL_c (gvA_1 gv_n) gvAL_n))) (objF_eq (H2:=(hT 3 [(oC [(zI (2:Int)),(zI (2:Int)),(zI (0:Int)),(.slice none 0 0)]),oC q0])) (v:=(Sl.v 1 s0)) (v':=(Sl.v 1 s0)) [some 0,some 2] [(false,some 2)] [(oC [(zI (0:Int)),(zI (1:Int)),(zI (2:Int)),(zI (3:Int))])] [(.agg ⟨[(zI (2:Int)),(zI (2:Int)),(zI (0:Int)),(Sl.v 1 (Sl.mk 0 2 []))]⟩),sc 1 0 1 4 9,zI z0] [(.agg ⟨q0⟩)] [oC q0] [some 0,none,some 1] [(false,oC q0)] [oC q0] (by kernel_rfl) (mapO_c (by kernel_rfl) mapO_n) (Eq.trans (by kernel_rfl) h1) (mapO_c rfl mapO_n) (mapO_c (bO_list h2) mapO_n))) (eD (objG tabs [[none,none,none,some 1],[some 1],[none]] 3 [] [] (pu 10480) [(.agg ⟨[(zI (2:Int)),(zI (2:Int)),(zI (0:Int)),(.slice none 0 0)]⟩),Sl.v 1 s0,zI z1] (hT 3 [(oC [(zI (2:Int)),(zI (2:Int)),(zI (0:Int)),(.slice none 0 0)]),oC q0])) (objG_eq (as:=[(.agg ⟨[(zI (2:Int)),(zI (2:Int)),(zI (0:Int)),(Sl.v 1 (Sl.mk 0 2 []))]⟩),Sl.v 1 s0,zI z1]) (H1:=(hT 3 [(oC [(zI (2:Int)),(zI (2:Int)),(zI (0:Int)),(.slice none 0 0)]),oC q0])) (gvAL_c (gvA_a (gvL_c gv_n (gvL_c gv_n (gvL_c gv_n (gvL_c (gv_s (giveV_nil (z:=1) (H:=(hT 3 [(oC [(zI (2:Int)),(zI (2:Int)),(zI (0:Int)),(.slice none 0 0)]),oC q0])))) gvL_n))))) (gvAL_c (gvA_1 (gv_s (giveV_cl (z:=1) (v:=(Sl.v 1 s0)) (H:=(hT 3 [(oC [(zI (2:Int)),(zI (2:Int)),(zI (0:Int)),(.slice none 0 0)]),oC q0])) (by kernel_rfl) (by kernel_rfl) (by kernel_rfl)))) (gvAL_c (gvA_1 gv_n) gvAL_n))) (objF_eq (H2:=(hT 3 [(oC [(zI (2:Int)),(zI (2:Int)),(zI (0:Int)),(.slice none 0 0)]),oC q0])) (v:=(Sl.v 1 s1)) (v':=(Sl.v 1 s1)) [some 0] [] [] [(.agg ⟨[(zI (2:Int)),(zI (2:Int)),(zI (0:Int)),(Sl.v 1 (Sl.mk 0 2 []))]⟩),Sl.v 1 s0,zI z1] [] [] [some 0,none,none] [] [] (by kernel_rfl) mapO_n (Eq.trans (by kernel_rfl) h3) mapO_n mapO_n)) (eE))) ?_
   replace hm:=bb_inv hm;obtain ⟨h4,hm⟩:=hm
   refine .ghs (fr 37 [(6,pt 1 0),(7,sc 2 0 1 4 9),(8,Sl.v 1 s1)]) (hT 3 [(oC [(zI (2:Int)),(zI (2:Int)),(zI (0:Int)),(.slice none 0 0)]),oC q0]) (.k [2] [false] [.tmp 6 false,.tmp 7 false] [6,7,8] ⟨trF h4,trivial⟩) ?_
   refine .then (.rK ?_)
   refine .ghs (fr 37 [(6,pt 1 0),(7,sc 2 0 1 4 9),(8,Sl.v 1 s1),(9,(zI (0:Int)))]) (hT 3 [(oC [(zI (2:Int)),(zI (2:Int)),(zI (0:Int)),(.slice none 0 0)]),oC q0]) (.k [2] [false] [.tmp 6 false,.tmp 7 false] [6,7,8,9] ⟨trF h4,trivial⟩) ?_
   refine .join (v:=v) (fun y:Int=>((fr 37 [(9,zI y)]),(hp 1 [(oT tab0)]))) (fun y=>m34_1 pu n y) ?_ ?_
   ·rintro z2 hm
    exact w34_1 pu n z2 hm
   ·refine .block ?_
    replace hm:=bb_inv hm;obtain ⟨h5,hm⟩:=hm
    refine .loopM (v:=v) (fun y:Sl×Sl×Int×Int×Int×Int=>((fr 37 [(6,pt 1 0),(7,(Sl.v 1 y.1)),(8,(Sl.v 1 y.2.1)),(9,(zI y.2.2.1))]),(hT 2 [(oC [(zI y.2.2.2.1),(zI y.2.2.2.2.1),(zI y.2.2.2.2.2),(.slice none 0 0)])]))) (fun w y=>l34_2 pu n w y.1 y.2.1 y.2.2.1 y.2.2.2.1 y.2.2.2.2.1 y.2.2.2.2.2) n ⟨((Sl.mk 4 0 (takeL (4 * 1) (dropL 0 q0))),s1,(0:Int),(2:Int),(2:Int),(0:Int)),hm,(.freezeC 1 7 1 (an (Nat.ble (0 + 4 * 1) (len q0)) (allL closed1 (takeL (4 * 1) (dropL 0 q0)))) (F1:=(Fr.puts (fr 37 [(6,pt 1 0),(7,sc 2 0 1 4 9),(8,Sl.v 1 s1),(9,(zI (0:Int)))]) [(7,(Sl.v 1 (Sl.mk 4 0 (takeL (4 * 1) (dropL 0 q0)))))])) (H1:=(hT 3 [(oC [(zI (2:Int)),(zI (2:Int)),(zI (0:Int)),(.slice none 0 0)]),.dead])) (by kernel_rfl) (by kernel_rfl) h5 (.k0 [false] [.tmp 6 false] [6,7,8,9]))⟩ (fun _=>rfl) ?_
    rintro w0 ⟨s2,s3,z3,z4,z5,z6⟩ hm
    replace hm:b34_2 pu n (l34_2 pu n w0) s2 s3 z3 z4 z5 z6 = some v:=hm
    unfold b34_2 at hm
    refine .then ?_
    refine .then ?_
    replace hm:=oo_inv hm;obtain ⟨v5,h6,hm⟩:=hm
    replace hm:=inv_vTup hm;obtain ⟨l2,rfl,hm⟩:=hm
    replace hm:=ll_uncons hm;obtain ⟨v6,l2618_0,rfl,hm⟩:=hm
    replace hm:=ll_end hm;obtain ⟨rfl,hm⟩:=hm
    replace hm:=inv_toSl hm;obtain ⟨s4,rfl,hm⟩:=hm
    replace hm:=oo_inv hm;obtain ⟨v7,h7,hm⟩:=hm
    replace hm:=inv_vBool hm;obtain ⟨b1,rfl,hm⟩:=hm
    refine .reg (eC 3 (objG tabs [[none,none,none,some 1],[some 1],[none]] 3 [] [] (pu 10480) [(.agg ⟨[zI z4,zI z5,zI z6,(.slice none 0 0)]⟩),Sl.v 1 s2,zI z3] (hT 2 [(oC [zI z4,zI z5,zI z6,(.slice none 0 0)])])) (objG_eq (as:=[(.agg ⟨[zI z4,zI z5,zI z6,(Sl.v 1 (Sl.mk 0 2 []))]⟩),Sl.v 1 s2,zI z3]) (H1:=(hT 2 [(oC [zI z4,zI z5,zI z6,(.slice none 0 0)])])) (gvAL_c (gvA_a (gvL_c gv_n (gvL_c gv_n (gvL_c gv_n (gvL_c (gv_s (giveV_nil (z:=1) (H:=(hT 2 [(oC [zI z4,zI z5,zI z6,(.slice none 0 0)])])))) gvL_n))))) (gvAL_c (gvA_1 (gv_s (giveV_cl (z:=1) (v:=(Sl.v 1 s2)) (H:=(hT 2 [(oC [zI z4,zI z5,zI z6,(.slice none 0 0)])])) (by kernel_rfl) (by kernel_rfl) (by kernel_rfl)))) (gvAL_c (gvA_1 gv_n) gvAL_n))) (objF_eq (H2:=(hT 2 [(oC [zI z4,zI z5,zI z6,(.slice none 0 0)])])) (v:=(Sl.v 1 s4)) (v':=(Sl.v 1 s4)) [some 0] [] [] [(.agg ⟨[zI z4,zI z5,zI z6,(Sl.v 1 (Sl.mk 0 2 []))]⟩),Sl.v 1 s2,zI z3] [] [] [some 0,none] [] [] (by kernel_rfl) mapO_n (Eq.trans (by kernel_rfl) h6) mapO_n mapO_n)) (eC 1 ((oo (pu 50 [Sl.v 1 s4,Sl.v 1 s3]) none fun v=>some (v,(hT 2 [(oC [zI z4,zI z5,zI z6,(.slice none 0 0)])])))) (call_eq h7) (eE))) ?_
    refine .ghs (fr 37 [(6,pt 1 0),(7,Sl.v 1 s2),(8,Sl.v 1 s3),(9,zI z3),(33,(zB (nt b1)))]) (hT 2 [(oC [zI z4,zI z5,zI z6,(.slice none 0 0)])]) (.k0 [false] [.tmp 6 false] [6,7,8,9,33]) ?_
    replace hm:=bb_cases hm;rcases hm with ⟨h8,hm⟩ | ⟨h8,hm⟩
    ·refine .ifT (nt b1) (by kernel_rfl) h8 ?_
     refine .skip ?_
     refine .ghs (fr 37 [(6,pt 1 0),(7,Sl.v 1 s2),(8,Sl.v 1 s3),(9,zI z3)]) (hT 2 [(oC [zI z4,zI z5,zI z6,(.slice none 0 0)])]) (.k0 [false] [.tmp 6 false] [6,7,8,9]) ?_
     refine .block ?_
     refine .rK ?_
     exact ⟨(s2,s3,(wrapF .i64 (Int.add z3 (1:Int))),z4,z5,z6),hm,(.k0 [false] [.tmp 6 false] [6,7,8,9])⟩
    ·refine .ifF (nt b1) (by kernel_rfl) h8 ?_
     refine .exit ?_
     exact ⟨z3,hm,(.k0 [false] [] [9])⟩
 ·replace hm := oo_inv hm; obtain ⟨v8, h9, hm⟩ := hm
  replace hm:=inv_vBool hm;obtain ⟨b2,rfl,hm⟩:=hm
  replace hm:=bb_cases hm;rcases hm with ⟨h10,hm⟩ | ⟨h10,hm⟩
  ·refine .reg (eC 1 ((oo (pu 62 [zI x0, (zI (0 : Int)), (zI (7 : Int))]) none fun v => some (v, (hp 1 [(oT tab0)])))) (call_eq h9) (eD (some ((zB (nt b2)), (hp 1 [(oT tab0)]))) (show _ = some ((zB true), _) from (by rw [show (nt b2) = true from h10])) (eE))) ?_
   exact ⟨(x0,x1,true),hm,(.k0 [false] [] [0,1,17])⟩
  ·replace hm := oo_inv hm; obtain ⟨v9, h11, hm⟩ := hm
   replace hm:=inv_vBool hm;obtain ⟨b4,rfl,hm⟩:=hm
   refine .reg (eC 1 ((oo (pu 62 [zI x0,(zI (0:Int)),(zI (7:Int))]) none fun v=>some (v,(hp 1 [(oT tab0)])))) (call_eq h9) (eD (some ((zB (nt b2)),(hp 1 [(oT tab0)]))) (show _ = some ((zB false),_) from (by rw [show (nt b2) = false from h10])) (eC 2 ((oo (pu 62 [zI x1,(zI (0:Int)),(zI (7:Int))]) none fun v=>some (v,(hp 1 [(oT tab0)])))) (call_eq h11) (eE)))) ?_
   exact ⟨(x0,x1,(nt b4)),hm,(.k0 [false] [] [0,1,17])⟩
end
end Go.BkXM
