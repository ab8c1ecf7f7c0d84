/- Made from wip. -/
import Derived.Test.YtenlanbdolnhhaaRgJMod0x

set_option maxRecDepth 100000
set_option maxHeartbeats 20000000
set_option linter.unusedVariables false
namespace Go.RgJM
open Go.Sp Go.RgJ
noncomputable section

def m19_ (pu:PureF) (n:Nat) (x0:Int) (s0:Sl):OV:=
 (oo (pu 61 [(.agg ⟨[.int .i64 x0,Sl.v 1 s0]⟩)]) none fun v0=>(oo (vTup v0) none fun l0=>(ll l0 none fun v1 l0=>(ll l0 none fun v2 l0=>(ll l0 (oo (vAgg v1) none fun l1=>(ll l1 none fun v3 l1=>(ll l1 none fun v4 l1=>(ll l1 (oo (toI .i64 v3) none fun x1=>(oo (toI .u32 v4) none fun x2=>(oo (toI .i64 v2) none fun x3=>(bb (nt (ieq x3 (0:Int))) (some (.tuple ⟨[(.agg ⟨[(.int .i64 (0:Int)),(Sl.v 1 (Sl.mk 0 2 []))]⟩),.int .i64 x3]⟩)) (oo (pu 68 [(.agg ⟨[.int .i64 x1,.int .u32 x2]⟩)]) none fun v5=>(oo (vAgg v5) none fun l2=>(ll l2 none fun v6 l2=>(ll l2 none fun v7 l2=>(ll l2 (oo (toI .i64 v6) none fun x4=>(oo (toI .u32 v7) none fun x5=>(oo (pu 66 [(.agg ⟨[.int .i64 x4,.int .u32 x5]⟩)]) none fun v8=>(oo (vAgg v8) none fun l3=>(ll l3 none fun v9 l3=>(ll l3 none fun v10 l3=>(ll l3 (oo (toI .i64 v9) none fun x6=>(oo (toSl 1 v10) none fun s1=>(some (.tuple ⟨[(.agg ⟨[.int .i64 x6,Sl.v 1 s1]⟩),(.int .i64 (0:Int))]⟩)))) fun _ _=>none))))))) fun _ _=>none))))))))) fun _ _=>none)))) fun _ _=>none)))))
def m19 (pu:PureF) (n:Nat) (args:LV):OV:=
 (ll args none fun a0 args=>(ll args (oo (vAgg a0) none fun l0=>(ll l0 none fun v0 l0=>(ll l0 none fun v1 l0=>(ll l0 (oo (toI .i64 v0) none fun x0=>(oo (toSl 1 v1) none fun s0=>(m19_ pu n x0 s0))) fun _ _=>none)))) fun _ _=>none))
theorem r19 {call:CallF} (pu:PureF) (n:Nat) (hcall:call=callP tabs isP pu (inl pu)) {args:LV} {v:Value} (hm:m19 pu n args=some v) (_:∀ x∈args,closed2 x=true):args.length≤18∧Run tt call 0 c19_11 (Fr.made 18 args) (pureHeap tabs) (Fin tt 0 [.cell 2 24,.tmp 3] v):=by
 subst hcall
 unfold m19 at hm
 replace hm:=ll_uncons hm;obtain⟨a0,args_0,rfl,hm⟩:=hm
 replace hm:=ll_end hm;obtain⟨rfl,hm⟩:=hm
 replace hm:=inv_vAgg hm;obtain⟨l0,rfl,hm⟩:=hm
 replace hm:=ll_uncons hm;obtain⟨v0,l6465_0,rfl,hm⟩:=hm
 replace hm:=ll_uncons hm;obtain⟨v1,l6465_1,rfl,hm⟩:=hm
 replace hm:=ll_end hm;obtain⟨rfl,hm⟩:=hm
 replace hm:=inv_toI hm;obtain⟨x0,rfl,hm⟩:=hm
 replace hm:=inv_toSl hm;obtain⟨s0,rfl,hm⟩:=hm
 unfold m19_ at hm
 refine⟨by simp,?_⟩
 refine .same (F':=(fr 18 [(0,(.agg ⟨[zI x0,Sl.v 1 s0]⟩))])) (H':=(hp 0 [])) (by kernel_rfl) (by kernel_rfl) ?_
 refine .then (.rK (.ghs (fr 18 [(1,(pt 0 0)),(2,pt 1 0)]) (hp 2 [(oC [zI x0,Sl.v 1 s0]),(oC [(zI (0:Int)),(.slice none 0 0)])]) (.k0 [] [.tmp 1 false,.tmp 2 false] [1,2]) ?_))
 refine .then ?_
 replace hm:=oo_inv hm;obtain⟨v2,h0,hm⟩:=hm
 replace hm:=inv_vTup hm;obtain⟨l1,rfl,hm⟩:=hm
 replace hm:=ll_uncons hm;obtain⟨v3,l6491_0,rfl,hm⟩:=hm
 replace hm:=ll_uncons hm;obtain⟨v4,l6491_1,rfl,hm⟩:=hm
 replace hm:=ll_end hm;obtain⟨rfl,hm⟩:=hm
 replace hm:=inv_vAgg hm;obtain⟨l2,rfl,hm⟩:=hm
 replace hm:=ll_uncons hm;obtain⟨v5,l6495_0,rfl,hm⟩:=hm
 replace hm:=ll_uncons hm;obtain⟨v6,l6495_1,rfl,hm⟩:=hm
 replace hm:=ll_end hm;obtain⟨rfl,hm⟩:=hm
 replace hm:=inv_toI hm;obtain⟨x1,rfl,hm⟩:=hm
 replace hm:=inv_toI hm;obtain⟨x2,rfl,hm⟩:=hm
 replace hm:=inv_toI hm;obtain⟨x3,rfl,hm⟩:=hm
 refine .reg (eC 1 ((oo (pu 61 [(.agg ⟨[zI x0,Sl.v 1 s0]⟩)]) none fun v=>some (v,(hp 2 [(oC [zI x0,Sl.v 1 s0]),(oC [(zI (0:Int)),(.slice none 0 0)])])))) (call_eq h0) (eE)) ?_
 refine .ghs (fr 18 [(2,(pt 0 0)),(4,pt 1 0),(5,zI x3)]) (hp 2 [(oC [(zI (0:Int)),(.slice none 0 0)]),(oC [zI x1,.int .u32 x2])]) (.k0 [] [.tmp 2 false,.tmp 4 false] [2,4,5]) ?_
 refine .then (.then (.rK (.ghs (fr 18 [(2,(pt 0 0)),(4,pt 1 0),(5,zI x3),(12,(zB (nt (ieq x3 (0:Int)))))]) (hp 2 [(oC [(zI (0:Int)),(.slice none 0 0)]),(oC [zI x1,.int .u32 x2])]) (.k0 [] [.tmp 2 false,.tmp 4 false] [2,4,5,12]) ?_)))
 replace hm:=bb_cases hm;rcases hm with⟨h1,hm⟩ | ⟨h1,hm⟩
 ·refine ifTt (nt (ieq x3 (0:Int))) h1 ?_
  refine .then (.rK (.ghs (fr 18 [(2,(pt 0 0)),(3,zI x3)]) (hp 1 [(oC [(zI (0:Int)),(.slice none 0 0)])]) (.k0 [] [.tmp 2 false] [2,3]) ?_))
  refine .ret ?_
  exact finT_ret (.tuple ⟨[(.agg ⟨[(zI (0:Int)),(.slice none 0 0)]⟩),zI x3]⟩) (.tuple ⟨[(.agg ⟨[(zI (0:Int)),(Sl.v 1 (Sl.mk 0 2 []))]⟩),zI x3]⟩) (by kernel_rfl) (Tell.tup (.cons (Tell.agg (.cons (Tell.refl _ _ _) (.cons (.weak (Weak.nil 1 2)) (TellL.nil _)))) (.cons (Tell.refl _ _ _) (TellL.nil _)))) (by kernel_rfl) hm
 ·refine ifFt (nt (ieq x3 (0:Int))) h1 ?_
  refine .skip (.ghs (fr 18 [(2,(pt 0 0)),(4,pt 1 0)]) (hp 2 [(oC [(zI (0:Int)),(.slice none 0 0)]),(oC [zI x1,.int .u32 x2])]) (.k0 [] [.tmp 2 false,.tmp 4 false] [2,4]) ?_)
  refine .then ?_
  replace hm:=oo_inv hm;obtain⟨v7,h2,hm⟩:=hm
  replace hm:=inv_vAgg hm;obtain⟨l3,rfl,hm⟩:=hm
  replace hm:=ll_uncons hm;obtain⟨v8,l6528_0,rfl,hm⟩:=hm
  replace hm:=ll_uncons hm;obtain⟨v9,l6528_1,rfl,hm⟩:=hm
  replace hm:=ll_end hm;obtain⟨rfl,hm⟩:=hm
  replace hm:=inv_toI hm;obtain⟨x4,rfl,hm⟩:=hm
  replace hm:=inv_toI hm;obtain⟨x5,rfl,hm⟩:=hm
  replace hm:=oo_inv hm;obtain⟨v10,h3,hm⟩:=hm
  replace hm:=inv_vAgg hm;obtain⟨l4,rfl,hm⟩:=hm
  replace hm:=ll_uncons hm;obtain⟨v11,l6538_0,rfl,hm⟩:=hm
  replace hm:=ll_uncons hm;obtain⟨v12,l6538_1,rfl,hm⟩:=hm
  replace hm:=ll_end hm;obtain⟨rfl,hm⟩:=hm
  replace hm:=inv_toI hm;obtain⟨x6,rfl,hm⟩:=hm
  replace hm:=inv_toSl hm;obtain⟨s1,rfl,hm⟩:=hm
  refine .reg (eC 1 ((oo (pu 68 [(.agg ⟨[zI x1,.int .u32 x2]⟩)]) none fun v=>some (v,(hp 2 [(oC [(zI (0:Int)),(.slice none 0 0)]),(oC [zI x1,.int .u32 x2])])))) (call_eq h2) (eD ((oo (pu 66 [(.agg ⟨[zI x4,.int .u32 x5]⟩)]) none fun v=>some (v,(hp 2 [(oC [(zI (0:Int)),(.slice none 0 0)]),(oC [zI x1,.int .u32 x2])])))) (call_eq h3) (eE))) ?_
  refine .ghs (fr 18 [(2,(pt 0 0)),(3,(zI (0:Int)))]) (hp 1 [(oC [zI x6,Sl.v 1 s1])]) (.k0 [] [.tmp 2 false] [2,3]) ?_
  refine .ret ?_
  exact fin_rt (.tuple ⟨[(.agg ⟨[zI x6,Sl.v 1 s1]⟩),(zI (0:Int))]⟩) hm
def m23_0 (pu:PureF) (n:Nat):OV:=
 (some (.bool true))
def b23_1 (pu:PureF) (n:Nat) (ih0:Sl→Sl→Int→OV) (s0 s1:Sl) (z1:Int):OV:=
 (bb (ilt z1 (Int.ofNat (Sl.n s0))) (oo (toN z1) none fun k1=>(bb (an (Nat.blt k1 (Sl.n s0)) true) (oo (nthL (Sl.cs s0) (k1*1)) none fun v0=>(oo (toI .i64 v0) none fun x0=>(bb (an (Nat.blt k1 (Sl.n s1)) true) (oo (nthL (Sl.cs s1) (k1*1)) none fun v1=>(oo (toI .i64 v1) none fun x1=>(bb (nt (ieq x0 x1)) (some (.bool false)) (ih0 s0 s1 (wrapF .i64 (Int.add (Int.ofNat k1) (1:Int))))))) none))) none)) (m23_0 pu n))
def l23_1 (pu:PureF) (n w:Nat):Sl→Sl→Int→OV:=
 Nat.rec (motive:=fun _=>Sl→Sl→Int→OV) (fun _ _ _=>none) (fun _ ih0=>b23_1 pu n ih0) w
def m23_ (pu:PureF) (n:Nat) (s0 s1:Sl):OV:=
 (bb (nt (ieq (Int.ofNat (Sl.n s0)) (Int.ofNat (Sl.n s1)))) (some (.bool false)) (l23_1 pu n n s0 s1 (0:Int)))
def m23 (pu:PureF) (n:Nat) (args:LV):OV:=
 (ll args none fun a0 args=>(ll args none fun a1 args=>(ll args (oo (toSl 1 a0) none fun s0=>(oo (toSl 1 a1) none fun s1=>(m23_ pu n s0 s1))) fun _ _=>none)))
theorem w23_0 (pu:PureF) (n:Nat) {v:Value} (hm:m23_0 pu n=some v):Run tt (callP tabs isP pu (inl pu)) 0 c23_23 (fr 26 []) (hp 0 []) (Fin tt 0 [.tmp 4] v):=by
 unfold m23_0 at hm
 refine .then (.rK (.ghs (fr 26 [(4,zB true)]) (hp 0 []) (.k0 [] [] [4]) ?_))
 refine .ret ?_
 exact fin_rt (zB true) hm
theorem r23 {call:CallF} (pu:PureF) (n:Nat) (hcall:call=callP tabs isP pu (inl pu)) {args:LV} {v:Value} (hm:m23 pu n args=some v) (_:∀ x∈args,closed2 x=true):args.length≤26∧Run tt call 0 c23_26 (Fr.made 26 args) (pureHeap tabs) (Fin tt 0 [.tmp 4] v):=by
 subst hcall
 unfold m23 at hm
 replace hm:=ll_uncons hm;obtain⟨a0,args_0,rfl,hm⟩:=hm
 replace hm:=ll_uncons hm;obtain⟨a1,args_1,rfl,hm⟩:=hm
 replace hm:=ll_end hm;obtain⟨rfl,hm⟩:=hm
 replace hm:=inv_toSl hm;obtain⟨s0,rfl,hm⟩:=hm
 replace hm:=inv_toSl hm;obtain⟨s1,rfl,hm⟩:=hm
 unfold m23_ at hm
 refine⟨by simp,?_⟩
 refine .same (F':=(fr 26 [(0,Sl.v 1 s0),(1,Sl.v 1 s1)])) (H':=(hp 0 [])) (by kernel_rfl) (by kernel_rfl) ?_
 refine .then (.rK (.ghs (fr 26 [(0,Sl.v 1 s0),(1,Sl.v 1 s1)]) (hp 0 []) (.k0 [] [] [0,1]) ?_))
 refine .then (.then (.rK (.ghs (fr 26 [(0,Sl.v 1 s0),(1,Sl.v 1 s1),(10,(zB (nt (ieq (Int.ofNat (Sl.n s0)) (Int.ofNat (Sl.n s1))))))]) (hp 0 []) (.k0 [] [] [0,1,10]) ?_)))
 replace hm:=bb_cases hm;rcases hm with⟨h0,hm⟩ | ⟨h0,hm⟩
 ·refine ifTt (nt (ieq (Int.ofNat (Sl.n s0)) (Int.ofNat (Sl.n s1)))) h0 ?_
  refine .then (.rK (.ghs (fr 26 [(4,zB false)]) (hp 0 []) (.k0 [] [] [4]) ?_))
  refine .ret ?_
  exact fin_rt (zB false) hm
 ·refine ifFt (nt (ieq (Int.ofNat (Sl.n s0)) (Int.ofNat (Sl.n s1)))) h0 ?_
  refine .skip (.ghs (fr 26 [(0,Sl.v 1 s0),(1,Sl.v 1 s1)]) (hp 0 []) (.k0 [] [] [0,1]) ?_)
  refine .join (v:=v) (fun y:Unit=>((fr 26 []),(hp 0 []))) (fun y=>m23_0 pu n) ?_ ?_
  ·rintro _ hm
   exact w23_0 pu n hm
  ·refine .then (.rK (.ghs (fr 26 [(0,Sl.v 1 s0),(1,Sl.v 1 s1),(5,(zI (0:Int)))]) (hp 0 []) (.k0 [] [] [0,1,5]) ?_))
   refine .block (.loopM (v:=v) (fun y:Sl×Sl×Int=>((fr 26 [(0,(Sl.v 1 y.1)),(1,(Sl.v 1 y.2.1)),(5,(zI y.2.2))]),(hp 0 []))) (fun w y=>l23_1 pu n w y.1 y.2.1 y.2.2) n ⟨(s0,s1,(0:Int)),hm,(.k0 [] [] [0,1,5])⟩ (fun _=>rfl) ?_)
   rintro w0 ⟨s2,s3,z1⟩ hm
   replace hm:b23_1 pu n (l23_1 pu n w0) s2 s3 z1=some v:=hm
   unfold b23_1 at hm
   refine .then (.then (.rK (.ghs (fr 26 [(0,Sl.v 1 s2),(1,Sl.v 1 s3),(5,zI z1),(14,(zB (ilt z1 (Int.ofNat (Sl.n s2)))))]) (hp 0 []) (.k0 [] [] [0,1,5,14]) ?_)))
   replace hm:=bb_cases hm;rcases hm with⟨h1,hm⟩ | ⟨h1,hm⟩
   ·refine ifTt (ilt z1 (Int.ofNat (Sl.n s2))) h1 ?_
    refine .skip (.ghs (fr 26 [(0,Sl.v 1 s2),(1,Sl.v 1 s3),(5,zI z1)]) (hp 0 []) (.k0 [] [] [0,1,5]) ?_)
    refine .then (.block (.then ?_))
    replace hm:=oo_inv hm;obtain⟨k1,h2,hm⟩:=hm
    obtain rfl:=toN_some h2
    replace hm:=bb_inv hm;obtain⟨h3,hm⟩:=hm
    replace hm:=oQI hm;obtain⟨x0,h4,hm⟩:=hm
    replace hm:=bb_inv hm;obtain⟨h5,hm⟩:=hm
    replace hm:=oQI hm;obtain⟨x1,h6,hm⟩:=hm
    refine .reg (eC 2 (keep (hp 0 []) (bb (an (Nat.blt k1 (Sl.n s2)) true) (some (fpV (k1*1) (Sl.cs s2))) none)) (keep_bb h3) (eD (keep (hp 0 []) (nthL (Sl.cs s2) (k1*1))) (keep_eq h4) (eC 2 (keep (hp 0 []) (bb (an (Nat.blt k1 (Sl.n s3)) true) (some (fpV (k1*1) (Sl.cs s3))) none)) (keep_bb h5) (eD (keep (hp 0 []) (nthL (Sl.cs s3) (k1*1))) (keep_eq h6) (eE))))) ?_
    refine .ghs (fr 26 [(0,Sl.v 1 s2),(1,Sl.v 1 s3),(5,(zI (Int.ofNat k1))),(25,(zB (nt (ieq x0 x1))))]) (hp 0 []) (.k0 [] [] [0,1,5,25]) ?_
    replace hm:=bb_cases hm;rcases hm with⟨h7,hm⟩ | ⟨h7,hm⟩
    ·refine ifTt (nt (ieq x0 x1)) h7 ?_
     refine .then (.rK (.ghs (fr 26 [(4,zB false)]) (hp 0 []) (.k0 [] [] [4]) ?_))
     refine .ret ?_
     exact fin_rt (zB false) hm
    ·refine ifFt (nt (ieq x0 x1)) h7 ?_
     refine .skip (.ghs (fr 26 [(0,Sl.v 1 s2),(1,Sl.v 1 s3),(5,(zI (Int.ofNat k1)))]) (hp 0 []) (.k0 [] [] [0,1,5]) ?_)
     refine .rK ?_
     exact⟨(s2,s3,(wrapF .i64 (Int.add (Int.ofNat k1) (1:Int)))),hm,(.k0 [] [] [0,1,5])⟩
   ·refine ifFt (ilt z1 (Int.ofNat (Sl.n s2))) h1 ?_
    refine .exit ?_
    exact⟨(),hm,(.k0 [] [] [])⟩
def m25_1 (pu:PureF) (n:Nat):OV:=
 (some (.int .i64 (0:Int)))
def m25_3 (pu:PureF) (n:Nat) (ih0:Int→Sl→Int→Int→Int→Sl→OV) (z1 z2:Int) (s0:Sl) (z3 z4:Int) (b0:Bool) (z5:Int) (s1:Sl):OV:=
 (bb b0 (some (.int .i64 (2:Int))) (bb (nt (ilt z1 z2)) (some (.int .i64 (7:Int))) (ih0 z2 s0 z3 (wrapF .i64 (Int.add z4 (1:Int))) z5 s1)))
def b25_2 (pu:PureF) (n:Nat) (ih0:Int→Sl→Int→Int→Int→Sl→OV) (z1:Int) (s0:Sl) (z2 z3 z4:Int) (s1:Sl):OV:=
 (bb (ilt z3 z2) (oo (toN z3) none fun k1=>(bb (an (Nat.blt k1 (Sl.n s0)) true) (oo (nthL (Sl.cs s0) (k1*1)) none fun v0=>(oo (toI .i64 v0) none fun x0=>(bb (ilt x0 (0:Int)) (m25_3 pu n ih0 z1 x0 s0 z2 (Int.ofNat k1) true z4 s1) (m25_3 pu n ih0 z1 x0 s0 z2 (Int.ofNat k1) (nt (ilt x0 z4)) z4 s1)))) none)) (m25_1 pu n))
def l25_2 (pu:PureF) (n w:Nat):Int→Sl→Int→Int→Int→Sl→OV:=
 Nat.rec (motive:=fun _=>Int→Sl→Int→Int→Int→Sl→OV) (fun _ _ _ _ _ _=>none) (fun _ ih0=>b25_2 pu n ih0) w
def m25_0 (pu:PureF) (n:Nat) (b0:Bool) (z1:Int) (s0:Sl):OV:=
 (bb b0 (some (.int .i64 (1:Int))) (bb (ilt (6:Int) (Int.ofNat (Sl.n s0))) (some (.int .i64 (3:Int))) (l25_2 pu n n (-1:Int) s0 (Int.ofNat (Sl.n s0)) (0:Int) z1 s0)))
def m25_ (pu:PureF) (n:Nat) (x0:Int) (s0:Sl):OV:=
 (bb (ilt x0 (1:Int)) (m25_0 pu n true x0 s0) (m25_0 pu n (ilt (21:Int) x0) x0 s0))
def m25 (pu:PureF) (n:Nat) (args:LV):OV:=
 (ll args none fun a0 args=>(ll args (oo (vAgg a0) none fun l0=>(ll l0 none fun v0 l0=>(ll l0 none fun v1 l0=>(ll l0 (oo (toI .i64 v0) none fun x0=>(oo (toSl 1 v1) none fun s0=>(m25_ pu n x0 s0))) fun _ _=>none)))) fun _ _=>none))
theorem w25_1 (pu:PureF) (n:Nat) {v:Value} (hm:m25_1 pu n=some v):Run tt (callP tabs isP pu (inl pu)) 0 c25_40 (fr 42 []) (hp 0 []) (Fin tt 0 [.tmp 2] v):=by
 unfold m25_1 at hm
 refine .then (.rK (.ghs (fr 42 [(2,(zI (0:Int)))]) (hp 0 []) (.k0 [] [] [2]) ?_))
 refine .ret ?_
 exact fin_rt (zI (0:Int)) hm
theorem r25 {call:CallF} (pu:PureF) (n:Nat) (hcall:call=callP tabs isP pu (inl pu)) {args:LV} {v:Value} (hm:m25 pu n args=some v) (_:∀ x∈args,closed2 x=true):args.length≤42∧Run tt call 0 c25_44 (Fr.made 42 args) (pureHeap tabs) (Fin tt 0 [.tmp 2] v):=by
 subst hcall
 unfold m25 at hm
 replace hm:=ll_uncons hm;obtain⟨a0,args_0,rfl,hm⟩:=hm
 replace hm:=ll_end hm;obtain⟨rfl,hm⟩:=hm
 replace hm:=inv_vAgg hm;obtain⟨l0,rfl,hm⟩:=hm
 replace hm:=ll_uncons hm;obtain⟨v0,l6638_0,rfl,hm⟩:=hm
 replace hm:=ll_uncons hm;obtain⟨v1,l6638_1,rfl,hm⟩:=hm
 replace hm:=ll_end hm;obtain⟨rfl,hm⟩:=hm
 replace hm:=inv_toI hm;obtain⟨x0,rfl,hm⟩:=hm
 replace hm:=inv_toSl hm;obtain⟨s0,rfl,hm⟩:=hm
 unfold m25_ at hm
 refine⟨by simp,?_⟩
 refine .same (F':=(fr 42 [(0,(.agg ⟨[zI x0,Sl.v 1 s0]⟩))])) (H':=(hp 0 [])) (by kernel_rfl) (by kernel_rfl) ?_
 refine .then (.rK (.ghs (fr 42 [(1,(pt 0 0))]) (hp 1 [(oC [zI x0,Sl.v 1 s0])]) (.k0 [] [.tmp 1 false] [1]) ?_))
 refine .then (.block (.join (v:=v) (fun y:Bool×Int×Sl=>((fr 42 [(1,(pt 0 0)),(6,(zB y.1))]),(hp 1 [(oC [(zI y.2.1),(Sl.v 1 y.2.2)])]))) (fun y=>m25_0 pu n y.1 y.2.1 y.2.2) ?_ ?_))
 ·rintro⟨b0,z1,s1⟩ hm
  unfold m25_0 at hm
  replace hm:=bb_cases hm;rcases hm with⟨h0,hm⟩ | ⟨h0,hm⟩
  ·refine .ifT b0 (by kernel_rfl) h0 ?_
   refine .then (.rK (.ghs (fr 42 [(2,(zI (1:Int)))]) (hp 0 []) (.k0 [] [] [2]) ?_))
   refine .ret ?_
   exact fin_rt (zI (1:Int)) hm
  ·refine .ifF b0 (by kernel_rfl) h0 ?_
   refine .then (.rK (.ghs (fr 42 [(1,(pt 0 0)),(15,(zB (ilt (6:Int) (Int.ofNat (Sl.n s1)))))]) (hp 1 [(oC [zI z1,Sl.v 1 s1])]) (.k0 [] [.tmp 1 false] [1,15]) ?_))
   replace hm:=bb_cases hm;rcases hm with⟨h1,hm⟩ | ⟨h1,hm⟩
   ·refine ifTt (ilt (6:Int) (Int.ofNat (Sl.n s1))) h1 ?_
    refine .then (.rK (.ghs (fr 42 [(2,(zI (3:Int)))]) (hp 0 []) (.k0 [] [] [2]) ?_))
    refine .ret ?_
    exact fin_rt (zI (3:Int)) hm
   ·refine ifFt (ilt (6:Int) (Int.ofNat (Sl.n s1))) h1 ?_
    refine .skip (.ghs (fr 42 [(1,(pt 0 0))]) (hp 1 [(oC [zI z1,Sl.v 1 s1])]) (.k0 [] [.tmp 1 false] [1]) ?_)
    refine .then (.rK (.ghs (fr 42 [(1,(pt 0 0)),(3,(zI (-1:Int)))]) (hp 1 [(oC [zI z1,Sl.v 1 s1])]) (.k0 [] [.tmp 1 false] [1,3]) ?_))
    refine .join (v:=v) (fun y:Unit=>((fr 42 []),(hp 0 []))) (fun y=>m25_1 pu n) ?_ ?_
    ·rintro _ hm
     exact w25_1 pu n hm
    ·refine .then (.rK (.ghs (fr 42 [(1,(pt 0 0)),(3,(zI (-1:Int))),(21,Sl.v 1 s1),(22,(zI (Int.ofNat (Sl.n s1)))),(23,(zI (0:Int)))]) (hp 1 [(oC [zI z1,Sl.v 1 s1])]) (.k0 [] [.tmp 1 false] [1,3,21,22,23]) ?_))
     refine .block (.loopM (v:=v) (fun y:Int×Sl×Int×Int×Int×Sl=>((fr 42 [(1,(pt 0 0)),(3,(zI y.1)),(21,(Sl.v 1 y.2.1)),(22,(zI y.2.2.1)),(23,(zI y.2.2.2.1))]),(hp 1 [(oC [(zI y.2.2.2.2.1),(Sl.v 1 y.2.2.2.2.2)])]))) (fun w y=>l25_2 pu n w y.1 y.2.1 y.2.2.1 y.2.2.2.1 y.2.2.2.2.1 y.2.2.2.2.2) n ⟨((-1:Int),s1,(Int.ofNat (Sl.n s1)),(0:Int),z1,s1),hm,(.k0 [] [.tmp 1 false] [1,3,21,22,23])⟩ (fun _=>rfl) ?_)
     rintro w0 ⟨z2,s2,z3,z4,z5,s3⟩ hm
     replace hm:b25_2 pu n (l25_2 pu n w0) z2 s2 z3 z4 z5 s3=some v:=hm
     unfold b25_2 at hm
     refine .then (.rK (.ghs (fr 42 [(1,(pt 0 0)),(3,zI z2),(21,Sl.v 1 s2),(22,zI z3),(23,zI z4),(24,(zB (ilt z4 z3)))]) (hp 1 [(oC [zI z5,Sl.v 1 s3])]) (.k0 [] [.tmp 1 false] [1,3,21,22,23,24]) ?_))
     refine .then ?_
     replace hm:=bb_cases hm;rcases hm with⟨h2,hm⟩ | ⟨h2,hm⟩
     ·refine ifTt (ilt z4 z3) h2 ?_
      refine .skip (.ghs (fr 42 [(1,(pt 0 0)),(3,zI z2),(21,Sl.v 1 s2),(22,zI z3),(23,zI z4)]) (hp 1 [(oC [zI z5,Sl.v 1 s3])]) (.k0 [] [.tmp 1 false] [1,3,21,22,23]) ?_)
      refine .then (.block (.then ?_))
      replace hm:=oo_inv hm;obtain⟨k1,h3,hm⟩:=hm
      obtain rfl:=toN_some h3
      replace hm:=bb_inv hm;obtain⟨h4,hm⟩:=hm
      replace hm:=oQI hm;obtain⟨x1,h5,hm⟩:=hm
      refine .reg (eD (keep (hp 1 [(oC [zI z5,Sl.v 1 s3])]) (bb (an (Nat.blt k1 (Sl.n s2)) true) (some (fpV (k1*1) (Sl.cs s2))) none)) (keep_bb h4) (eD (keep (hp 1 [(oC [zI z5,Sl.v 1 s3])]) (nthL (Sl.cs s2) (k1*1))) (keep_eq h5) (eE))) ?_
      refine .ghs (fr 42 [(1,(pt 0 0)),(3,zI z2),(5,zI x1),(21,Sl.v 1 s2),(22,zI z3),(23,(zI (Int.ofNat k1)))]) (hp 1 [(oC [zI z5,Sl.v 1 s3])]) (.k0 [] [.tmp 1 false] [1,3,5,21,22,23]) ?_
      refine .then (.block (.join (v:=v) (fun y:Int×Int×Sl×Int×Int×Bool×Int×Sl=>((fr 42 [(1,(pt 0 0)),(3,(zI y.1)),(5,(zI y.2.1)),(21,(Sl.v 1 y.2.2.1)),(22,(zI y.2.2.2.1)),(23,(zI y.2.2.2.2.1)),(27,(zB y.2.2.2.2.2.1))]),(hp 1 [(oC [(zI y.2.2.2.2.2.2.1),(Sl.v 1 y.2.2.2.2.2.2.2)])]))) (fun y=>m25_3 pu n (l25_2 pu n w0) y.1 y.2.1 y.2.2.1 y.2.2.2.1 y.2.2.2.2.1 y.2.2.2.2.2.1 y.2.2.2.2.2.2.1 y.2.2.2.2.2.2.2) ?_ ?_))
      ·rintro⟨z6,z7,s4,z8,z9,b1,z10,s5⟩ hm
       unfold m25_3 at hm
       replace hm:=bb_cases hm;rcases hm with⟨h6,hm⟩ | ⟨h6,hm⟩
       ·refine .ifT b1 (by kernel_rfl) h6 ?_
        refine .then (.rK (.ghs (fr 42 [(2,(zI (2:Int)))]) (hp 0 []) (.k0 [] [] [2]) ?_))
        refine .ret ?_
        exact fin_rt (zI (2:Int)) hm
       ·refine .ifF b1 (by kernel_rfl) h6 ?_
        refine .then (.rK (.ghs (fr 42 [(1,(pt 0 0)),(5,zI z7),(21,Sl.v 1 s4),(22,zI z8),(23,zI z9),(36,(zB (nt (ilt z6 z7))))]) (hp 1 [(oC [zI z10,Sl.v 1 s5])]) (.k0 [] [.tmp 1 false] [1,5,21,22,23,36]) ?_))
        replace hm:=bb_cases hm;rcases hm with⟨h7,hm⟩ | ⟨h7,hm⟩
        ·refine ifTt (nt (ilt z6 z7)) h7 ?_
         refine .then (.rK (.ghs (fr 42 [(2,(zI (7:Int)))]) (hp 0 []) (.k0 [] [] [2]) ?_))
         refine .ret ?_
         exact fin_rt (zI (7:Int)) hm
        ·refine ifFt (nt (ilt z6 z7)) h7 ?_
         refine .skip (.ghs (fr 42 [(1,(pt 0 0)),(5,zI z7),(21,Sl.v 1 s4),(22,zI z8),(23,zI z9)]) (hp 1 [(oC [zI z10,Sl.v 1 s5])]) (.k0 [] [.tmp 1 false] [1,5,21,22,23]) ?_)
         refine .rK (.ghs (fr 42 [(1,(pt 0 0)),(3,zI z7),(21,Sl.v 1 s4),(22,zI z8),(23,zI z9)]) (hp 1 [(oC [zI z10,Sl.v 1 s5])]) (.k0 [] [.tmp 1 false] [1,3,21,22,23]) ?_)
         refine .rK ?_
         exact⟨(z7,s4,z8,(wrapF .i64 (Int.add z9 (1:Int))),z10,s5),hm,(.k0 [] [.tmp 1 false] [1,3,21,22,23])⟩
      ·replace hm:=bb_cases hm;rcases hm with⟨h8,hm⟩ | ⟨h8,hm⟩
       ·refine .reg (eC 1 (some ((zB (ilt x1 (0:Int))),(hp 1 [(oC [zI z5,Sl.v 1 s3])]))) (show _=some ((zB true),_) from (by rw[show (ilt x1 (0:Int))=true from h8])) (eE)) ?_
        exact⟨(z2,x1,s2,z3,(Int.ofNat k1),true,z5,s3),hm,(.k0 [] [.tmp 1 false] [1,3,5,21,22,23,27])⟩
       ·refine .reg (eC 1 (some ((zB (ilt x1 (0:Int))),(hp 1 [(oC [zI z5,Sl.v 1 s3])]))) (show _=some ((zB false),_) from (by rw[show (ilt x1 (0:Int))=false from h8])) (eE)) ?_
        exact⟨(z2,x1,s2,z3,(Int.ofNat k1),(nt (ilt x1 z5)),z5,s3),hm,(.k0 [] [.tmp 1 false] [1,3,5,21,22,23,27])⟩
     ·refine ifFt (ilt z4 z3) h2 ?_
      refine .exit ?_
      exact⟨(),hm,(.k0 [] [] [])⟩
 ·replace hm:=bb_cases hm;rcases hm with⟨h9,hm⟩ | ⟨h9,hm⟩
  ·refine .reg (eC 2 (some ((zB (ilt x0 (1:Int))),(hp 1 [(oC [zI x0,Sl.v 1 s0])]))) (show _=some ((zB true),_) from (by rw[show (ilt x0 (1:Int))=true from h9])) (eE)) ?_
   exact⟨(true,x0,s0),hm,(.k0 [] [.tmp 1 false] [1,6])⟩
  ·refine .reg (eC 2 (some ((zB (ilt x0 (1:Int))),(hp 1 [(oC [zI x0,Sl.v 1 s0])]))) (show _=some ((zB false),_) from (by rw[show (ilt x0 (1:Int))=false from h9])) (eE)) ?_
   exact⟨((ilt (21:Int) x0),x0,s0),hm,(.k0 [] [.tmp 1 false] [1,6])⟩
def m37_2 (pu:PureF) (n n0 c0:Nat) (q1:LV):OV:=
 (bb (allL closed1 q1) (bb (an (Nat.ble (0+n0*2) (len q1)) (allL closed1 (takeL (n0*2) (dropL 0 q1)))) (some (.tuple ⟨[(Sl.v 2 (Sl.mk n0 0 (takeL (n0*2) (dropL 0 q1)))),(.int .i64 (0:Int))]⟩)) none) none)
def m37_4 (pu:PureF) (n:Nat) (ih0:Int→Int→Int→Int→Sl→Nat→Nat→LV→OV) (z1 z2 z3 z4:Int) (s0:Sl) (n0 c0:Nat) (q1:LV):OV:=
 (bb (allL closed1 q1) (ih0 z1 z2 z3 (wrapF .i64 (Int.add z4 (1:Int))) s0 n0 c0 q1) none)
def b37_3 (pu:PureF) (n:Nat) (ih0:Int→Int→Int→Int→Sl→Nat→Nat→LV→OV) (z1 z2 z3 z4:Int) (s0:Sl) (n0 c0:Nat) (q1:LV):OV:=
 (bb (allL closed1 q1) (bb (ilt z4 z3) (bb (ieq (wrapF .i64 (Int.mul z4 (wrapF .i64 (Int.sub z4 (1:Int))))) z2) (bb (orr (Nat.ble 2 c0) (nilL q1)) (bb (allL closed1 q1) (oo (pu 10810 [(.agg ⟨[.int .i64 z1,(.int .u32 (0:Int))]⟩),(.int .i64 (0:Int)),.int .i64 z4,(.func (.func 85) ⟨[]⟩ ⟨[(.pointer (some ⟨0,0,none⟩))]⟩),(.func (.func 87) ⟨[]⟩ ⟨[(.pointer (some ⟨0,0,none⟩)),(.pointer (some ⟨1,0,none⟩))]⟩),(.agg ⟨[Sl.v 1 s0]⟩),(.agg ⟨[(.slice (some ⟨2,0,some 2⟩) n0 c0)]⟩),(.agg ⟨q1⟩)]) none fun v0=>(oo (vTup v0) none fun l0=>(ll l0 none fun v1 l0=>(ll l0 none fun v2 l0=>(ll l0 none fun v3 l0=>(ll l0 none fun v4 l0=>(ll l0 none fun v5 l0=>(ll l0 (oo (vBool v1) none fun b0=>(oo (vAgg v2) none fun l1=>(ll l1 none fun v6 l1=>(ll l1 (oo (toSl 1 v6) none fun s1=>(oo (vAgg v3) none fun l2=>(ll l2 none fun v7 l2=>(ll l2 (oo (toSc 3 0 2 v7) none fun y0=>(bb (isDead v4) (oo (vAgg v5) none fun q2=>(bb (allL closed1 q2) (bb (allL closed1 q2) (m37_4 pu n ih0 z1 z2 z3 z4 s1 (NC.n y0) (NC.c y0) q2) none) none)) none)) fun _ _=>none)))) fun _ _=>none)))) fun _ _=>none)))))))) none) none) (m37_4 pu n ih0 z1 z2 z3 z4 s0 n0 c0 q1)) (m37_2 pu n n0 c0 q1)) none)
def l37_3 (pu:PureF) (n w:Nat):Int→Int→Int→Int→Sl→Nat→Nat→LV→OV:=
 Nat.rec (motive:=fun _=>Int→Int→Int→Int→Sl→Nat→Nat→LV→OV) (fun _ _ _ _ _ _ _ _=>none) (fun _ ih0=>b37_3 pu n ih0) w
def m37_1 (pu:PureF) (n:Nat) (z1 z2:Int) (s0:Sl):OV:=
 (l37_3 pu n n z1 z2 (wrapF .i64 (Int.add (bb (ilt z1 (6:Int)) z1 (6:Int)) (1:Int))) (0:Int) s0 0 0 ([]:LV))
def m37_6 (pu:PureF) (n:Nat) (ih0:Int→Int→Sl→Int→Int→Sl→OV) (z1 z2 z3:Int) (s0:Sl) (z4 z5:Int) (b0:Bool) (s1:Sl):OV:=
 (bb b0 (some (.tuple ⟨[(Sl.v 2 (Sl.mk 0 2 [])),(.int .i64 (1:Int))]⟩)) (ih0 z1 (wrapF .i64 (Int.add z2 z3)) s0 z4 (wrapF .i64 (Int.add z5 (1:Int))) s1))
def b37_5 (pu:PureF) (n:Nat) (ih0:Int→Int→Sl→Int→Int→Sl→OV) (z1 z2:Int) (s0:Sl) (z3 z4:Int) (s1:Sl):OV:=
 (bb (ilt z4 z3) (oo (toN z4) none fun k1=>(bb (an (Nat.blt k1 (Sl.n s0)) true) (oo (nthL (Sl.cs s0) (k1*1)) none fun v0=>(oo (toI .i64 v0) none fun x0=>(bb (ilt x0 (0:Int)) (m37_6 pu n ih0 z1 z2 x0 s0 z3 (Int.ofNat k1) true s1) (m37_6 pu n ih0 z1 z2 x0 s0 z3 (Int.ofNat k1) (ilt (6:Int) x0) s1)))) none)) (m37_1 pu n z1 z2 s1))
def l37_5 (pu:PureF) (n w:Nat):Int→Int→Sl→Int→Int→Sl→OV:=
 Nat.rec (motive:=fun _=>Int→Int→Sl→Int→Int→Sl→OV) (fun _ _ _ _ _ _=>none) (fun _ ih0=>b37_5 pu n ih0) w
def m37_0 (pu:PureF) (n:Nat) (z1:Int) (b0:Bool) (s0:Sl):OV:=
 (bb b0 (some (.tuple ⟨[(Sl.v 2 (Sl.mk 0 2 [])),(.int .i64 (1:Int))]⟩)) (bb (nt (ieq (Int.ofNat (Sl.n s0)) (wrapF .i64 (Int.sub z1 (1:Int))))) (some (.tuple ⟨[(Sl.v 2 (Sl.mk 0 2 [])),(.int .i64 (5:Int))]⟩)) (l37_5 pu n n z1 (0:Int) s0 (Int.ofNat (Sl.n s0)) (0:Int) s0)))
def m37_ (pu:PureF) (n:Nat) (x0:Int) (s0:Sl):OV:=
 (bb (ilt x0 (1:Int)) (m37_0 pu n x0 true s0) (m37_0 pu n x0 (ilt (21:Int) x0) s0))
def m37 (pu:PureF) (n:Nat) (args:LV):OV:=
 (ll args none fun a0 args=>(ll args none fun a1 args=>(ll args (oo (toI .i64 a0) none fun x0=>(oo (toSl 1 a1) none fun s0=>(m37_ pu n x0 s0))) fun _ _=>none)))
theorem w37_2 (pu:PureF) (n n0 c0:Nat) (q1:LV) {v:Value} (hm:m37_2 pu n n0 c0 q1=some v):Run tt (callP tabs isP pu (inl pu)) 0 c37_53 (fr 62 [(10,(pt 0 0))]) (hp 2 [(oC [sc 1 0 2 n0 c0]),oC q1]) (Fin tt 0 [.tmp 4,.tmp 5] v):=by
 unfold m37_2 at hm
 refine .then (.rK ?_)
 replace hm:=bb_inv hm;obtain⟨h0,hm⟩:=hm
 refine .ghs (fr 62 [(4,sc 0 0 2 n0 c0),(5,(zI (0:Int)))]) (hp 1 [oC q1]) (.k [1] [] [.tmp 4 false] [4,5] ⟨trF h0,trivial⟩) ?_
 replace hm:=bb_inv hm;obtain⟨h1,hm⟩:=hm
 refine .ghs (Fr.puts (fr 62 [(4,sc 0 0 2 n0 c0),(5,(zI (0:Int)))]) [(4,(Sl.v 2 (Sl.mk n0 0 (takeL (n0*2) (dropL 0 q1)))))]) (hp 1 [.dead]) (.freezeC 0 4 2 (an (Nat.ble (0+n0*2) (len q1)) (allL closed1 (takeL (n0*2) (dropL 0 q1)))) (F1:=(Fr.puts (fr 62 [(4,sc 0 0 2 n0 c0),(5,(zI (0:Int)))]) [(4,(Sl.v 2 (Sl.mk n0 0 (takeL (n0*2) (dropL 0 q1)))))])) (H1:=(hp 1 [.dead])) (by kernel_rfl) (by kernel_rfl) h1 (GhS.id _ _)) ?_
 refine .ret ?_
 exact fin_rt (.tuple ⟨[(Sl.v 2 (Sl.mk n0 0 (takeL (n0*2) (dropL 0 q1)))),(zI (0:Int))]⟩) hm
theorem w37_1 (pu:PureF) (n:Nat) (z1 z2:Int) (s0:Sl) {v:Value} (hm:m37_1 pu n z1 z2 s0=some v):Run tt (callP tabs isP pu (inl pu)) 0 c37_56 (fr 62 [(0,zI z1),(3,(pt 0 0)),(6,zI z2)]) (hp 1 [(oC [Sl.v 1 s0])]) (Fin tt 0 [.tmp 4,.tmp 5] v):=by
 unfold m37_1 at hm
 refine .then (.rK (.ghs (fr 62 [(0,zI z1),(3,(pt 0 0)),(6,zI z2),(9,(.func (.func 85) ⟨[]⟩ ⟨[(pt 0 0)]⟩))]) (hp 1 [(oC [Sl.v 1 s0])]) (.k0 [] [.tmp 3 false] [0,3,6,9]) ?_))
 refine .then (.rK (.ghs (fr 62 [(0,zI z1),(3,(pt 0 0)),(6,zI z2),(9,(.func (.func 85) ⟨[]⟩ ⟨[(pt 0 0)]⟩)),(10,pt 1 0)]) (hp 2 [(oC [Sl.v 1 s0]),(oC [(.slice none 0 0)])]) (.k0 [] [.tmp 3 false,.tmp 10 false] [0,3,6,9,10]) ?_))
 refine .join (v:=v) (fun y:Nat×Nat×LV=>((fr 62 [(10,(pt 0 0))]),(hp 2 [(oC [(sc 1 0 2 y.1 y.2.1)]),(oC y.2.2)]))) (fun y=>m37_2 pu n y.1 y.2.1 y.2.2) ?_ ?_
 ·rintro⟨n0,c0,q1⟩ hm
  exact w37_2 pu n n0 c0 q1 hm
 ·refine .then (.rK (.ghs (fr 62 [(0,zI z1),(3,(pt 0 0)),(6,zI z2),(9,(.func (.func 85) ⟨[]⟩ ⟨[(pt 0 0)]⟩)),(10,pt 1 0),(44,(zI (wrapF .i64 (Int.add (bb (ilt z1 (6:Int)) z1 (6:Int)) (1:Int))))),(45,(zI (0:Int)))]) (hp 2 [(oC [Sl.v 1 s0]),(oC [(.slice none 0 0)])]) (.k0 [] [.tmp 3 false,.tmp 10 false] [0,3,6,9,10,44,45]) ?_))
  refine .block (.loopM (v:=v) (fun y:Int×Int×Int×Int×Sl×Nat×Nat×LV=>((fr 62 [(0,(zI y.1)),(3,(pt 0 0)),(6,(zI y.2.1)),(9,(.func (.func 85) ⟨[]⟩ ⟨[(pt 0 0)]⟩)),(10,pt 1 0),(44,(zI y.2.2.1)),(45,(zI y.2.2.2.1))]),(hp 3 [(oC [(Sl.v 1 y.2.2.2.2.1)]),(oC [(sc 2 0 2 y.2.2.2.2.2.1 y.2.2.2.2.2.2.1)]),(oC y.2.2.2.2.2.2.2)]))) (fun w y=>l37_3 pu n w y.1 y.2.1 y.2.2.1 y.2.2.2.1 y.2.2.2.2.1 y.2.2.2.2.2.1 y.2.2.2.2.2.2.1 y.2.2.2.2.2.2.2) n ⟨(z1,z2,(wrapF .i64 (Int.add (bb (ilt z1 (6:Int)) z1 (6:Int)) (1:Int))),(0:Int),s0,0,0,([]:LV)),hm,(.thawC 1 0 2 [(.slice none 0 0)] (imm:=false) (spent:=false) (anc:=[]) (by kernel_rfl) (by kernel_rfl) (by kernel_rfl) (by kernel_rfl) (.k0 [] [.tmp 3 false,.tmp 10 true,.cell 1 0 false] [0,3,6,9,10,44,45]))⟩ (fun _=>rfl) ?_)
  rintro w0 ⟨z3,z4,z5,z6,s1,n1,c1,q2⟩ hm
  replace hm:b37_3 pu n (l37_3 pu n w0) z3 z4 z5 z6 s1 n1 c1 q2=some v:=hm
  unfold b37_3 at hm
  refine .then (.rK ?_)
  replace hm:=bb_inv hm;obtain⟨h0,hm⟩:=hm
  refine .ghs (fr 62 [(0,zI z3),(3,(pt 0 0)),(6,zI z4),(9,(.func (.func 85) ⟨[]⟩ ⟨[(pt 0 0)]⟩)),(10,pt 1 0),(44,zI z5),(45,zI z6),(46,(zB (ilt z6 z5)))]) (hp 3 [(oC [Sl.v 1 s1]),(oC [sc 2 0 2 n1 c1]),oC q2]) (.k [2] [] [.tmp 3 false,.tmp 10 true,.cell 1 0 false] [0,3,6,9,10,44,45,46] ⟨trF h0,trivial⟩) ?_
  refine .then ?_
  replace hm:=bb_cases hm;rcases hm with⟨h1,hm⟩ | ⟨h1,hm⟩
  ·refine ifTt (ilt z6 z5) h1 ?_
   refine .skip (.ghs (fr 62 [(0,zI z3),(3,(pt 0 0)),(6,zI z4),(9,(.func (.func 85) ⟨[]⟩ ⟨[(pt 0 0)]⟩)),(10,pt 1 0),(44,zI z5),(45,zI z6)]) (hp 3 [(oC [Sl.v 1 s1]),(oC [sc 2 0 2 n1 c1]),oC q2]) (.k [2] [] [.tmp 3 false,.tmp 10 true,.cell 1 0 false] [0,3,6,9,10,44,45] ⟨trF h0,trivial⟩) ?_)
   refine .join (v:=v) (fun y:Int×Int×Int×Int×Sl×Nat×Nat×LV=>((fr 62 [(0,(zI y.1)),(3,(pt 0 0)),(6,(zI y.2.1)),(9,(.func (.func 85) ⟨[]⟩ ⟨[(pt 0 0)]⟩)),(10,pt 1 0),(44,(zI y.2.2.1)),(45,(zI y.2.2.2.1))]),(hp 3 [(oC [(Sl.v 1 y.2.2.2.2.1)]),(oC [(sc 2 0 2 y.2.2.2.2.2.1 y.2.2.2.2.2.2.1)]),(oC y.2.2.2.2.2.2.2)]))) (fun y=>m37_4 pu n (l37_3 pu n w0) y.1 y.2.1 y.2.2.1 y.2.2.2.1 y.2.2.2.2.1 y.2.2.2.2.2.1 y.2.2.2.2.2.2.1 y.2.2.2.2.2.2.2) ?_ ?_
   ·rintro⟨z7,z8,z9,z10,s2,n2,c2,q3⟩ hm
    unfold m37_4 at hm
    refine .rK ?_
    replace hm:=bb_inv hm;obtain⟨h2,hm⟩:=hm
    exact⟨(z7,z8,z9,(wrapF .i64 (Int.add z10 (1:Int))),s2,n2,c2,q3),hm,(.k [2] [] [.tmp 3 false,.tmp 10 true,.cell 1 0 false] [0,3,6,9,10,44,45] ⟨trF h2,trivial⟩)⟩
   ·refine .block (.then (.rK (.ghs (fr 62 [(0,zI z3),(3,(pt 0 0)),(6,zI z4),(9,(.func (.func 85) ⟨[]⟩ ⟨[(pt 0 0)]⟩)),(10,pt 1 0),(11,zI z6),(44,zI z5),(45,zI z6)]) (hp 3 [(oC [Sl.v 1 s1]),(oC [sc 2 0 2 n1 c1]),oC q2]) (.k [2] [] [.tmp 3 false,.tmp 10 true,.cell 1 0 false] [0,3,6,9,10,11,44,45] ⟨trF h0,trivial⟩) ?_)))
    refine .then (.rK (.ghs (fr 62 [(0,zI z3),(3,(pt 0 0)),(6,zI z4),(9,(.func (.func 85) ⟨[]⟩ ⟨[(pt 0 0)]⟩)),(10,pt 1 0),(11,zI z6),(44,zI z5),(45,zI z6),(53,(zB (ieq (wrapF .i64 (Int.mul z6 (wrapF .i64 (Int.sub z6 (1:Int))))) z4)))]) (hp 3 [(oC [Sl.v 1 s1]),(oC [sc 2 0 2 n1 c1]),oC q2]) (.k [2] [] [.tmp 3 false,.tmp 10 true,.cell 1 0 false] [0,3,6,9,10,11,44,45,53] ⟨trF h0,trivial⟩) ?_))
    replace hm:=bb_cases hm;rcases hm with⟨h3,hm⟩ | ⟨h3,hm⟩
    ·refine ifTt (ieq (wrapF .i64 (Int.mul z6 (wrapF .i64 (Int.sub z6 (1:Int))))) z4) h3 ?_
     replace hm:=bb_inv hm;obtain⟨h4,hm⟩:=hm
     replace hm:=bb_inv hm;obtain⟨h5,hm⟩:=hm
     replace hm:=oo_inv hm;obtain⟨v0,h6,hm⟩:=hm
     replace hm:=inv_vTup hm;obtain⟨l0,rfl,hm⟩:=hm
     replace hm:=ll_uncons hm;obtain⟨v1,l9624_0,rfl,hm⟩:=hm
     replace hm:=ll_uncons hm;obtain⟨v2,l9624_1,rfl,hm⟩:=hm
     replace hm:=ll_uncons hm;obtain⟨v3,l9624_2,rfl,hm⟩:=hm
     replace hm:=ll_uncons hm;obtain⟨v4,l9624_3,rfl,hm⟩:=hm
     replace hm:=ll_uncons hm;obtain⟨v5,l9624_4,rfl,hm⟩:=hm
     replace hm:=ll_end hm;obtain⟨rfl,hm⟩:=hm
     replace hm:=inv_vBool hm;obtain⟨b0,rfl,hm⟩:=hm
     replace hm:=inv_vAgg hm;obtain⟨l1,rfl,hm⟩:=hm
     replace hm:=ll_uncons hm;obtain⟨v6,l9633_0,rfl,hm⟩:=hm
     replace hm:=ll_end hm;obtain⟨rfl,hm⟩:=hm
     replace hm:=inv_toSl hm;obtain⟨s3,rfl,hm⟩:=hm
     replace hm:=inv_vAgg hm;obtain⟨l2,rfl,hm⟩:=hm
     replace hm:=ll_uncons hm;obtain⟨v7,l9638_0,rfl,hm⟩:=hm
     replace hm:=ll_end hm;obtain⟨rfl,hm⟩:=hm
     replace hm:=oo_inv hm;obtain⟨y0,h7,hm⟩:=hm
     obtain rfl:=toSc_some h7
     replace hm:=bb_inv hm;obtain⟨h8,hm⟩:=hm
     replace hm:=inv_vAgg hm;obtain⟨q4,rfl,hm⟩:=hm
     replace hm:=bb_inv hm;obtain⟨h9,hm⟩:=hm
     refine .reg (eC 5 (objG tabs [[none,none],[none],[none],[none],[none]] 5 [.cap 3 0 false,.cap 4 1 true,.cell 1 0 false] [false,true,false,false] (pu 10810) [(.agg ⟨[zI z3,(.int .u32 (0:Int))]⟩),(zI (0:Int)),zI z6,(.func (.func 85) ⟨[]⟩ ⟨[(pt 0 0)]⟩),(.func (.func 87) ⟨[]⟩ ⟨[(pt 0 0),pt 1 0]⟩)] (hp 3 [(oC [Sl.v 1 s1]),(oC [sc 2 0 2 n1 c1]),oC q2])) (objG_eq (as:=[(.agg ⟨[zI z3,(.int .u32 (0:Int))]⟩),(zI (0:Int)),zI z6,(.func (.func 85) ⟨[]⟩ ⟨[(pt 0 0)]⟩),(.func (.func 87) ⟨[]⟩ ⟨[(pt 0 0),pt 1 0]⟩)]) (H1:=(hp 3 [(oC [Sl.v 1 s1]),(oC [sc 2 0 2 n1 c1]),oC q2])) (gvAL_c (gvA_a (gvL_c gv_n (gvL_c gv_n gvL_n))) (gvAL_c (gvA_1 gv_n) (gvAL_c (gvA_1 gv_n) (gvAL_c (gvA_1 gv_n) (gvAL_c (gvA_1 gv_n) gvAL_n))))) (objF_eq (H2:=(hp 4 [(oC [Sl.v 1 s3]),(oC [(sc 3 0 2 (NC.n y0) (NC.c y0))]),.dead,oC q4])) (v:=(zB b0)) (v':=(zB b0)) [some 0,some 1,some 2] [(false,some 0),(true,some 1),(false,some 2)] [(oC [Sl.v 1 s1]),(oC [sc 2 0 2 n1 c1]),oC q2] [(.agg ⟨[zI z3,(.int .u32 (0:Int))]⟩),(zI (0:Int)),zI z6,(.func (.func 85) ⟨[]⟩ ⟨[(pt 0 0)]⟩),(.func (.func 87) ⟨[]⟩ ⟨[(pt 0 0),pt 1 0]⟩)] [(.agg ⟨[Sl.v 1 s3]⟩),(.agg ⟨[(sc 3 0 2 (NC.n y0) (NC.c y0))]⟩),v4,(.agg ⟨q4⟩)] [(oC [Sl.v 1 s3]),(oC [(sc 3 0 2 (NC.n y0) (NC.c y0))]),.dead,oC q4] [some 0,some 1,some 2,some 3] [(false,(oC [Sl.v 1 s3])),(true,(oC [(sc 3 0 2 (NC.n y0) (NC.c y0))])),(false,.dead),(false,oC q4)] [(oC [Sl.v 1 s3]),(oC [(sc 3 0 2 (NC.n y0) (NC.c y0))]),.dead,oC q4] (trE (by kernel_rfl) (rootL h4 rfl)) (mapO_c (by kernel_rfl) (mapO_c (by kernel_rfl) (mapO_c (nO_list (anc:=[]) h5) mapO_n))) (Eq.trans (by kernel_rfl) h6) (mapO_c rfl (mapO_c rfl (mapO_c (dead_dec h8) (mapO_c rfl mapO_n)))) (mapO_c (by kernel_rfl) (mapO_c (by kernel_rfl) (mapO_c (by kernel_rfl) (mapO_c (bO_list h9) mapO_n)))))) (eE)) ?_
     replace hm:=bb_inv hm;obtain⟨h10,hm⟩:=hm
     exact⟨(z3,z4,z5,z6,s3,(NC.n y0),(NC.c y0),q4),hm,(.k [3] [] [.tmp 3 false,.tmp 10 true,.cell 1 0 false] [0,3,6,9,10,44,45] ⟨trF h10,trivial⟩)⟩
    ·refine ifFt (ieq (wrapF .i64 (Int.mul z6 (wrapF .i64 (Int.sub z6 (1:Int))))) z4) h3 ?_
     refine .skip ?_
     exact⟨(z3,z4,z5,z6,s1,n1,c1,q2),hm,(.k [2] [] [.tmp 3 false,.tmp 10 true,.cell 1 0 false] [0,3,6,9,10,44,45] ⟨trF h0,trivial⟩)⟩
  ·refine ifFt (ilt z6 z5) h1 ?_
   refine .exit ?_
   exact⟨(n1,c1,q2),hm,(.k [2] [] [.tmp 10 true,.cell 0 0 false] [10] ⟨trF h0,trivial⟩)⟩
theorem r37 {call:CallF} (pu:PureF) (n:Nat) (hcall:call=callP tabs isP pu (inl pu)) {args:LV} {v:Value} (hm:m37 pu n args=some v) (_:∀ x∈args,closed2 x=true):args.length≤62∧Run tt call 0 c37_60 (Fr.made 62 args) (pureHeap tabs) (Fin tt 0 [.tmp 4,.tmp 5] v):=by
 subst hcall
 unfold m37 at hm
 replace hm:=ll_uncons hm;obtain⟨a0,args_0,rfl,hm⟩:=hm
 replace hm:=ll_uncons hm;obtain⟨a1,args_1,rfl,hm⟩:=hm
 replace hm:=ll_end hm;obtain⟨rfl,hm⟩:=hm
 replace hm:=inv_toI hm;obtain⟨x0,rfl,hm⟩:=hm
 replace hm:=inv_toSl hm;obtain⟨s0,rfl,hm⟩:=hm
 unfold m37_ at hm
 refine⟨by simp,?_⟩
 refine .same (F':=(fr 62 [(0,zI x0),(1,Sl.v 1 s0)])) (H':=(hp 0 [])) (by kernel_rfl) (by kernel_rfl) ?_
 refine .then (.rK (.ghs (fr 62 [(0,zI x0),(3,(pt 0 0))]) (hp 1 [(oC [Sl.v 1 s0])]) (.k0 [] [.tmp 3 false] [0,3]) ?_))
 refine .then (.block (.join (v:=v) (fun y:Int×Bool×Sl=>((fr 62 [(0,(zI y.1)),(3,(pt 0 0)),(12,(zB y.2.1))]),(hp 1 [(oC [(Sl.v 1 y.2.2)])]))) (fun y=>m37_0 pu n y.1 y.2.1 y.2.2) ?_ ?_))
 ·rintro⟨z1,b0,s1⟩ hm
  unfold m37_0 at hm
  replace hm:=bb_cases hm;rcases hm with⟨h0,hm⟩ | ⟨h0,hm⟩
  ·refine .ifT b0 (by kernel_rfl) h0 ?_
   refine .then (.rK (.ghs (fr 62 [(4,(.slice none 0 0)),(5,(zI (1:Int)))]) (hp 0 []) (.k0 [] [] [4,5]) ?_))
   refine .ghs (Fr.puts (fr 62 [(4,(.slice none 0 0)),(5,(zI (1:Int)))]) [(4,(Sl.v 2 (Sl.mk 0 2 [])))]) (hp 0 []) (.freeze 0 4 2 (by kernel_rfl) (by kernel_rfl) (GhS.id _ _)) ?_
   refine .ret ?_
   exact fin_rt (.tuple ⟨[(Sl.v 2 (Sl.mk 0 2 [])),(zI (1:Int))]⟩) hm
  ·refine .ifF b0 (by kernel_rfl) h0 ?_
   refine .then (.rK (.ghs (fr 62 [(0,zI z1),(3,(pt 0 0)),(19,(zB (nt (ieq (Int.ofNat (Sl.n s1)) (wrapF .i64 (Int.sub z1 (1:Int)))))))]) (hp 1 [(oC [Sl.v 1 s1])]) (.k0 [] [.tmp 3 false] [0,3,19]) ?_))
   replace hm:=bb_cases hm;rcases hm with⟨h1,hm⟩ | ⟨h1,hm⟩
   ·refine ifTt (nt (ieq (Int.ofNat (Sl.n s1)) (wrapF .i64 (Int.sub z1 (1:Int))))) h1 ?_
    refine .then (.rK (.ghs (fr 62 [(4,(.slice none 0 0)),(5,(zI (5:Int)))]) (hp 0 []) (.k0 [] [] [4,5]) ?_))
    refine .ghs (Fr.puts (fr 62 [(4,(.slice none 0 0)),(5,(zI (5:Int)))]) [(4,(Sl.v 2 (Sl.mk 0 2 [])))]) (hp 0 []) (.freeze 0 4 2 (by kernel_rfl) (by kernel_rfl) (GhS.id _ _)) ?_
    refine .ret ?_
    exact fin_rt (.tuple ⟨[(Sl.v 2 (Sl.mk 0 2 [])),(zI (5:Int))]⟩) hm
   ·refine ifFt (nt (ieq (Int.ofNat (Sl.n s1)) (wrapF .i64 (Int.sub z1 (1:Int))))) h1 ?_
    refine .skip (.ghs (fr 62 [(0,zI z1),(3,(pt 0 0))]) (hp 1 [(oC [Sl.v 1 s1])]) (.k0 [] [.tmp 3 false] [0,3]) ?_)
    refine .then (.rK (.ghs (fr 62 [(0,zI z1),(3,(pt 0 0)),(6,(zI (0:Int)))]) (hp 1 [(oC [Sl.v 1 s1])]) (.k0 [] [.tmp 3 false] [0,3,6]) ?_))
    refine .join (v:=v) (fun y:Int×Int×Sl=>((fr 62 [(0,(zI y.1)),(3,(pt 0 0)),(6,(zI y.2.1))]),(hp 1 [(oC [(Sl.v 1 y.2.2)])]))) (fun y=>m37_1 pu n y.1 y.2.1 y.2.2) ?_ ?_
    ·rintro⟨z2,z3,s2⟩ hm
     exact w37_1 pu n z2 z3 s2 hm
    ·refine .then (.rK (.ghs (fr 62 [(0,zI z1),(3,(pt 0 0)),(6,(zI (0:Int))),(25,Sl.v 1 s1),(26,(zI (Int.ofNat (Sl.n s1)))),(27,(zI (0:Int)))]) (hp 1 [(oC [Sl.v 1 s1])]) (.k0 [] [.tmp 3 false] [0,3,6,25,26,27]) ?_))
     refine .block (.loopM (v:=v) (fun y:Int×Int×Sl×Int×Int×Sl=>((fr 62 [(0,(zI y.1)),(3,(pt 0 0)),(6,(zI y.2.1)),(25,(Sl.v 1 y.2.2.1)),(26,(zI y.2.2.2.1)),(27,(zI y.2.2.2.2.1))]),(hp 1 [(oC [(Sl.v 1 y.2.2.2.2.2)])]))) (fun w y=>l37_5 pu n w y.1 y.2.1 y.2.2.1 y.2.2.2.1 y.2.2.2.2.1 y.2.2.2.2.2) n ⟨(z1,(0:Int),s1,(Int.ofNat (Sl.n s1)),(0:Int),s1),hm,(.k0 [] [.tmp 3 false] [0,3,6,25,26,27])⟩ (fun _=>rfl) ?_)
     rintro w0 ⟨z4,z5,s3,z6,z7,s4⟩ hm
     replace hm:b37_5 pu n (l37_5 pu n w0) z4 z5 s3 z6 z7 s4=some v:=hm
     unfold b37_5 at hm
     refine .then (.rK (.ghs (fr 62 [(0,zI z4),(3,(pt 0 0)),(6,zI z5),(25,Sl.v 1 s3),(26,zI z6),(27,zI z7),(28,(zB (ilt z7 z6)))]) (hp 1 [(oC [Sl.v 1 s4])]) (.k0 [] [.tmp 3 false] [0,3,6,25,26,27,28]) ?_))
     refine .then ?_
     replace hm:=bb_cases hm;rcases hm with⟨h2,hm⟩ | ⟨h2,hm⟩
     ·refine ifTt (ilt z7 z6) h2 ?_
      refine .skip (.ghs (fr 62 [(0,zI z4),(3,(pt 0 0)),(6,zI z5),(25,Sl.v 1 s3),(26,zI z6),(27,zI z7)]) (hp 1 [(oC [Sl.v 1 s4])]) (.k0 [] [.tmp 3 false] [0,3,6,25,26,27]) ?_)
      refine .then (.block (.then ?_))
      replace hm:=oo_inv hm;obtain⟨k1,h3,hm⟩:=hm
      obtain rfl:=toN_some h3
      replace hm:=bb_inv hm;obtain⟨h4,hm⟩:=hm
      replace hm:=oQI hm;obtain⟨x1,h5,hm⟩:=hm
      refine .reg (eD (keep (hp 1 [(oC [Sl.v 1 s4])]) (bb (an (Nat.blt k1 (Sl.n s3)) true) (some (fpV (k1*1) (Sl.cs s3))) none)) (keep_bb h4) (eD (keep (hp 1 [(oC [Sl.v 1 s4])]) (nthL (Sl.cs s3) (k1*1))) (keep_eq h5) (eE))) ?_
      refine .ghs (fr 62 [(0,zI z4),(3,(pt 0 0)),(6,zI z5),(8,zI x1),(25,Sl.v 1 s3),(26,zI z6),(27,(zI (Int.ofNat k1)))]) (hp 1 [(oC [Sl.v 1 s4])]) (.k0 [] [.tmp 3 false] [0,3,6,8,25,26,27]) ?_
      refine .then (.join (v:=v) (fun y:Int×Int×Int×Sl×Int×Int×Bool×Sl=>((fr 62 [(0,(zI y.1)),(3,(pt 0 0)),(6,(zI y.2.1)),(8,(zI y.2.2.1)),(25,(Sl.v 1 y.2.2.2.1)),(26,(zI y.2.2.2.2.1)),(27,(zI y.2.2.2.2.2.1)),(36,(zB y.2.2.2.2.2.2.1))]),(hp 1 [(oC [(Sl.v 1 y.2.2.2.2.2.2.2)])]))) (fun y=>m37_6 pu n (l37_5 pu n w0) y.1 y.2.1 y.2.2.1 y.2.2.2.1 y.2.2.2.2.1 y.2.2.2.2.2.1 y.2.2.2.2.2.2.1 y.2.2.2.2.2.2.2) ?_ ?_)
      ·rintro⟨z8,z9,z10,s5,z11,z12,b1,s6⟩ hm
       unfold m37_6 at hm
       replace hm:=bb_cases hm;rcases hm with⟨h6,hm⟩ | ⟨h6,hm⟩
       ·refine .ifT b1 (by kernel_rfl) h6 ?_
        refine .then (.rK (.ghs (fr 62 [(4,(.slice none 0 0)),(5,(zI (1:Int)))]) (hp 0 []) (.k0 [] [] [4,5]) ?_))
        refine .ghs (Fr.puts (fr 62 [(4,(.slice none 0 0)),(5,(zI (1:Int)))]) [(4,(Sl.v 2 (Sl.mk 0 2 [])))]) (hp 0 []) (.freeze 0 4 2 (by kernel_rfl) (by kernel_rfl) (GhS.id _ _)) ?_
        refine .ret ?_
        exact fin_rt (.tuple ⟨[(Sl.v 2 (Sl.mk 0 2 [])),(zI (1:Int))]⟩) hm
       ·refine .ifF b1 (by kernel_rfl) h6 ?_
        refine .skip (.ghs (fr 62 [(0,zI z8),(3,(pt 0 0)),(6,zI z9),(8,zI z10),(25,Sl.v 1 s5),(26,zI z11),(27,zI z12)]) (hp 1 [(oC [Sl.v 1 s6])]) (.k0 [] [.tmp 3 false] [0,3,6,8,25,26,27]) ?_)
        refine .rK (.ghs (fr 62 [(0,zI z8),(3,(pt 0 0)),(6,(zI (wrapF .i64 (Int.add z9 z10)))),(25,Sl.v 1 s5),(26,zI z11),(27,zI z12)]) (hp 1 [(oC [Sl.v 1 s6])]) (.k0 [] [.tmp 3 false] [0,3,6,25,26,27]) ?_)
        refine .rK ?_
        exact⟨(z8,(wrapF .i64 (Int.add z9 z10)),s5,z11,(wrapF .i64 (Int.add z12 (1:Int))),s6),hm,(.k0 [] [.tmp 3 false] [0,3,6,25,26,27])⟩
      ·replace hm:=bb_cases hm;rcases hm with⟨h7,hm⟩ | ⟨h7,hm⟩
       ·refine .reg (eC 1 (some ((zB (ilt x1 (0:Int))),(hp 1 [(oC [Sl.v 1 s4])]))) (show _=some ((zB true),_) from (by rw[show (ilt x1 (0:Int))=true from h7])) (eE)) ?_
        exact⟨(z4,z5,x1,s3,z6,(Int.ofNat k1),true,s4),hm,(.k0 [] [.tmp 3 false] [0,3,6,8,25,26,27,36])⟩
       ·refine .reg (eC 1 (some ((zB (ilt x1 (0:Int))),(hp 1 [(oC [Sl.v 1 s4])]))) (show _=some ((zB false),_) from (by rw[show (ilt x1 (0:Int))=false from h7])) (eE)) ?_
        exact⟨(z4,z5,x1,s3,z6,(Int.ofNat k1),(ilt (6:Int) x1),s4),hm,(.k0 [] [.tmp 3 false] [0,3,6,8,25,26,27,36])⟩
     ·refine ifFt (ilt z7 z6) h2 ?_
      refine .exit ?_
      exact⟨(z4,z5,s4),hm,(.k0 [] [.tmp 3 false] [0,3,6])⟩
 ·replace hm:=bb_cases hm;rcases hm with⟨h8,hm⟩ | ⟨h8,hm⟩
  ·refine .reg (eC 1 (some ((zB (ilt x0 (1:Int))),(hp 1 [(oC [Sl.v 1 s0])]))) (show _=some ((zB true),_) from (by rw[show (ilt x0 (1:Int))=true from h8])) (eE)) ?_
   exact⟨(x0,true,s0),hm,(.k0 [] [.tmp 3 false] [0,3,12])⟩
  ·refine .reg (eC 1 (some ((zB (ilt x0 (1:Int))),(hp 1 [(oC [Sl.v 1 s0])]))) (show _=some ((zB false),_) from (by rw[show (ilt x0 (1:Int))=false from h8])) (eE)) ?_
   exact⟨(x0,(ilt (21:Int) x0),s0),hm,(.k0 [] [.tmp 3 false] [0,3,12])⟩
def m46_0 (pu:PureF) (n:Nat) (z1 z2:Int):OV:=
 (some (.tuple ⟨[.int .i64 z1,.int .u32 z2]⟩))
def b46_1 (pu:PureF) (n:Nat) (ih0:Int→Int→OV) (z1 z2:Int):OV:=
 (oo (pu 50 [.int .u32 z2]) none fun v0=>(oo (toI .i64 v0) none fun x0=>(bb (ilt (6:Int) x0) (ih0 z1 (aand .u32 z2 (wrapF .u32 (Int.sub z2 (1:Int))))) (m46_0 pu n z1 z2))))
def l46_1 (pu:PureF) (n w:Nat):Int→Int→OV:=
 Nat.rec (motive:=fun _=>Int→Int→OV) (fun _ _=>none) (fun _ ih0=>b46_1 pu n ih0) w
def m46_ (pu:PureF) (n:Nat) (x0 x1 x2:Int):OV:=
 (bb (nt (ieq x2 (0:Int))) (oo (toN (wrapF .i64 (Int.add (1:Int) (Int.tmod (wrapF .i64 x0) x2)))) none fun k1=>(l46_1 pu n n (wrapF .i64 (Int.add (1:Int) (Int.tmod (wrapF .i64 x0) x2))) (aand .u32 x1 (wrapF .u32 (Int.sub (shlI .u32 (1:Int) k1) (1:Int)))))) none)
def m46 (pu:PureF) (n:Nat) (args:LV):OV:=
 (ll args none fun a0 args=>(ll args none fun a1 args=>(ll args (oo (vAgg a0) none fun l0=>(ll l0 none fun v0 l0=>(ll l0 none fun v1 l0=>(ll l0 (oo (toI .u8 v0) none fun x0=>(oo (toI .u32 v1) none fun x1=>(oo (toI .i64 a1) none fun x2=>(m46_ pu n x0 x1 x2)))) fun _ _=>none)))) fun _ _=>none)))
theorem w46_0 (pu:PureF) (n:Nat) (z1 z2:Int) {v:Value} (hm:m46_0 pu n z1 z2=some v):Run tt (callP tabs isP pu (inl pu)) 0 c46_12 (fr 29 [(6,zI z1),(7,.int .u32 z2)]) (hp 0 []) (Fin tt 0 [.tmp 4,.tmp 5] v):=by
 unfold m46_0 at hm
 refine .then (.rK (.ghs (fr 29 [(4,zI z1),(5,.int .u32 z2)]) (hp 0 []) (.k0 [] [] [4,5]) ?_))
 refine .ret ?_
 exact fin_rt (.tuple ⟨[zI z1,.int .u32 z2]⟩) hm
theorem r46 {call:CallF} (pu:PureF) (n:Nat) (hcall:call=callP tabs isP pu (inl pu)) {args:LV} {v:Value} (hm:m46 pu n args=some v) (_:∀ x∈args,closed2 x=true):args.length≤29∧Run tt call 0 c46_16 (Fr.made 29 args) (pureHeap tabs) (Fin tt 0 [.tmp 4,.tmp 5] v):=by
 subst hcall
 unfold m46 at hm
 replace hm:=ll_uncons hm;obtain⟨a0,args_0,rfl,hm⟩:=hm
 replace hm:=ll_uncons hm;obtain⟨a1,args_1,rfl,hm⟩:=hm
 replace hm:=ll_end hm;obtain⟨rfl,hm⟩:=hm
 replace hm:=inv_vAgg hm;obtain⟨l0,rfl,hm⟩:=hm
 replace hm:=ll_uncons hm;obtain⟨v0,l9686_0,rfl,hm⟩:=hm
 replace hm:=ll_uncons hm;obtain⟨v1,l9686_1,rfl,hm⟩:=hm
 replace hm:=ll_end hm;obtain⟨rfl,hm⟩:=hm
 replace hm:=inv_toI hm;obtain⟨x0,rfl,hm⟩:=hm
 replace hm:=inv_toI hm;obtain⟨x1,rfl,hm⟩:=hm
 replace hm:=inv_toI hm;obtain⟨x2,rfl,hm⟩:=hm
 unfold m46_ at hm
 refine⟨by simp,?_⟩
 refine .same (F':=(fr 29 [(0,(.agg ⟨[(zY x0),.int .u32 x1]⟩)),(1,zI x2)])) (H':=(hp 0 [])) (by kernel_rfl) (by kernel_rfl) ?_
 refine .then (.rK (.ghs (fr 29 [(1,zI x2),(2,(pt 0 0))]) (hp 1 [(oC [(zY x0),.int .u32 x1])]) (.k0 [] [.tmp 2 false] [1,2]) ?_))
 refine .then ?_
 replace hm:=bb_inv hm;obtain⟨h0,hm⟩:=hm
 refine .reg (eC 4 (keep (hp 1 [(oC [(zY x0),.int .u32 x1])]) (bb (ieq x2 (0:Int)) none (some (zI (Int.tmod (wrapF .i64 x0) x2))))) (keep_nb h0) (eE)) ?_
 refine .ghs (fr 29 [(2,(pt 0 0)),(6,(zI (wrapF .i64 (Int.add (1:Int) (Int.tmod (wrapF .i64 x0) x2)))))]) (hp 1 [(oC [(zY x0),.int .u32 x1])]) (.k0 [] [.tmp 2 false] [2,6]) ?_
 refine .then ?_
 replace hm:=oo_inv hm;obtain⟨k1,h1,hm⟩:=hm
 refine .reg (eC 2 (some ((zI (wrapF .i64 (Int.add (1:Int) (Int.tmod (wrapF .i64 x0) x2)))),(hp 1 [(oC [(zY x0),.int .u32 x1])]))) (show _=some ((zI (Int.ofNat k1)),_) from (by rw[toN_some h1])) (eE)) ?_
 refine .ghs (fr 29 [(6,(zI (wrapF .i64 (Int.add (1:Int) (Int.tmod (wrapF .i64 x0) x2))))),(7,(.int .u32 (aand .u32 x1 (wrapF .u32 (Int.sub (shlI .u32 (1:Int) k1) (1:Int))))))]) (hp 0 []) (.k0 [] [] [6,7]) ?_
 refine .join (v:=v) (fun y:Int×Int=>((fr 29 [(6,(zI y.1)),(7,(.int .u32 y.2))]),(hp 0 []))) (fun y=>m46_0 pu n y.1 y.2) ?_ ?_
 ·rintro⟨z1,z2⟩ hm
  exact w46_0 pu n z1 z2 hm
 ·refine .block (.loopM (v:=v) (fun y:Int×Int=>((fr 29 [(6,(zI y.1)),(7,(.int .u32 y.2))]),(hp 0 []))) (fun w y=>l46_1 pu n w y.1 y.2) n ⟨((wrapF .i64 (Int.add (1:Int) (Int.tmod (wrapF .i64 x0) x2))),(aand .u32 x1 (wrapF .u32 (Int.sub (shlI .u32 (1:Int) k1) (1:Int))))),hm,(.k0 [] [] [6,7])⟩ (fun _=>rfl) ?_)
  rintro w0 ⟨z3,z4⟩ hm
  replace hm:b46_1 pu n (l46_1 pu n w0) z3 z4=some v:=hm
  unfold b46_1 at hm
  refine .then (.then ?_)
  replace hm:=oQI hm;obtain⟨x3,h2,hm⟩:=hm
  refine .reg (eC 1 ((oo (pu 50 [.int .u32 z4]) none fun v=>some (v,(hp 0 [])))) (call_eq h2) (eE)) ?_
  refine .ghs (fr 29 [(6,zI z3),(7,.int .u32 z4),(22,(zB (ilt (6:Int) x3)))]) (hp 0 []) (.k0 [] [] [6,7,22]) ?_
  replace hm:=bb_cases hm;rcases hm with⟨h3,hm⟩ | ⟨h3,hm⟩
  ·refine ifTt (ilt (6:Int) x3) h3 ?_
   refine .skip (.ghs (fr 29 [(6,zI z3),(7,.int .u32 z4)]) (hp 0 []) (.k0 [] [] [6,7]) ?_)
   refine .block (.rK ?_)
   exact⟨(z3,(aand .u32 z4 (wrapF .u32 (Int.sub z4 (1:Int))))),hm,(.k0 [] [] [6,7])⟩
  ·refine ifFt (ilt (6:Int) x3) h3 ?_
   refine .exit ?_
   exact⟨(z3,z4),hm,(.k0 [] [] [6,7])⟩
end
end Go.RgJM
