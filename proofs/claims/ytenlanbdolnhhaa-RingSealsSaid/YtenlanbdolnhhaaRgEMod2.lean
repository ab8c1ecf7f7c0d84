/- Made from wip. -/
import Derived.Test.YtenlanbdolnhhaaRgEMod0x

set_option maxRecDepth 100000
set_option maxHeartbeats 20000000
set_option linter.unusedVariables false
namespace Go.RgEM
open Go.Sp Go.RgE
noncomputable section
def m23_0 (pu:PureF) (n:Nat):OV:=
 (some (.bool true))
def b23_1 (pu:PureF) (n:Nat) (ih0:Sl→Sl→Int→OV) (s0 s1:Sl) (z0:Int):OV:=
 (bb (ilt z0 (Int.ofNat (Sl.n s0))) (oo (toN z0) none fun k1=>(bb (an (Nat.blt k1 (Sl.n s0)) true) (oo (nthL (Sl.cs s0) (k1 * 1)) none fun v0=>(oo (toI .i64 v0) none fun x0=>(bb (an (Nat.blt k1 (Sl.n s1)) true) (oo (nthL (Sl.cs s1) (k1 * 1)) none fun v1=>(oo (toI .i64 v1) none fun x1=>(bb (nt (ieq x0 x1)) (some (.bool false)) (ih0 s0 s1 (wrapF .i64 (Int.add (Int.ofNat k1) (1:Int))))))) none))) none)) (m23_0 pu n))
def l23_1 (pu:PureF) (n w:Nat):Sl→Sl→Int→OV:=
 Nat.rec (motive:=fun _=>Sl→Sl→Int→OV) (fun _ _ _=>none) (fun _ ih0=>b23_1 pu n ih0) w
def m23_ (pu:PureF) (n:Nat) (s0 s1:Sl):OV:=
 (bb (nt (ieq (Int.ofNat (Sl.n s0)) (Int.ofNat (Sl.n s1)))) (some (.bool false)) (l23_1 pu n n s0 s1 (0:Int)))
def m23 (pu:PureF) (n:Nat) (args:LV):OV:=
 (ll args none fun a0 args=>(ll args none fun a1 args=>(ll args (oo (toSl 1 a0) none fun s0=>(oo (toSl 1 a1) none fun s1=>(m23_ pu n s0 s1))) fun _ _=>none)))
theorem w23_0 (pu:PureF) (n:Nat) {v:Value} (hm:m23_0 pu n = some v):Run tt (callP tabs isP pu (inl pu)) 0 c23_23 (fr 26 []) (hp 0 []) (Fin tt 0 [.tmp 4] v):=by
 unfold m23_0 at hm
 refine .then (.rK ?_)
 refine .ghs (fr 26 [(4,zB true)]) (hp 0 []) (.k0 [] [] [4]) ?_
 refine .ret ?_
 exact fin_ret (zB true) (by kernel_rfl) (by kernel_rfl) hm
theorem r23 {call:CallF} (pu:PureF) (n:Nat) (hcall:call = callP tabs isP pu (inl pu)) {args:LV} {v:Value} (hm:m23 pu n args = some v) (_:∀ x ∈ args,closed2 x = true):args.length≤26∧Run tt call 0 c23_26 (Fr.made 26 args) (pureHeap tabs) (Fin tt 0 [.tmp 4] v):=by
 subst hcall
 unfold m23 at hm
 replace hm:=ll_uncons hm;obtain ⟨a0,args_0,rfl,hm⟩:=hm
 replace hm:=ll_uncons hm;obtain ⟨a1,args_1,rfl,hm⟩:=hm
 replace hm:=ll_end hm;obtain ⟨rfl,hm⟩:=hm
 replace hm:=inv_toSl hm;obtain ⟨s0,rfl,hm⟩:=hm
 replace hm:=inv_toSl hm;obtain ⟨s1,rfl,hm⟩:=hm
 unfold m23_ at hm
 refine ⟨by simp,?_⟩
 refine .same (F':=(fr 26 [(0,Sl.v 1 s0),(1,Sl.v 1 s1)])) (H':=(hp 0 [])) (by kernel_rfl) (by kernel_rfl) ?_
 refine .then (.rK ?_)
 refine .ghs (fr 26 [(0,Sl.v 1 s0),(1,Sl.v 1 s1)]) (hp 0 []) (.k0 [] [] [0,1]) ?_
 refine .then ?_
 refine .then (.rK ?_)
 refine .ghs (fr 26 [(0,Sl.v 1 s0),(1,Sl.v 1 s1),(10,(zB (nt (ieq (Int.ofNat (Sl.n s0)) (Int.ofNat (Sl.n s1))))))]) (hp 0 []) (.k0 [] [] [0,1,10]) ?_
 replace hm:=bb_cases hm;rcases hm with ⟨h0,hm⟩ | ⟨h0,hm⟩
 ·refine .ifT (nt (ieq (Int.ofNat (Sl.n s0)) (Int.ofNat (Sl.n s1)))) (by kernel_rfl) h0 ?_
  refine .then (.rK ?_)
  refine .ghs (fr 26 [(4,zB false)]) (hp 0 []) (.k0 [] [] [4]) ?_
  refine .ret ?_
  exact fin_ret (zB false) (by kernel_rfl) (by kernel_rfl) hm
 ·refine .ifF (nt (ieq (Int.ofNat (Sl.n s0)) (Int.ofNat (Sl.n s1)))) (by kernel_rfl) h0 ?_
  refine .skip ?_
  refine .ghs (fr 26 [(0,Sl.v 1 s0),(1,Sl.v 1 s1)]) (hp 0 []) (.k0 [] [] [0,1]) ?_
  refine .join (v:=v) (fun y:Unit=>((fr 26 []),(hp 0 []))) (fun y=>m23_0 pu n) ?_ ?_
  ·rintro _ hm
   exact w23_0 pu n hm
  ·refine .then (.rK ?_)
   refine .ghs (fr 26 [(0,Sl.v 1 s0),(1,Sl.v 1 s1),(5,(zI (0:Int)))]) (hp 0 []) (.k0 [] [] [0,1,5]) ?_
   refine .block ?_
   refine .loopM (v:=v) (fun y:Sl×Sl×Int=>((fr 26 [(0,(Sl.v 1 y.1)),(1,(Sl.v 1 y.2.1)),(5,(zI y.2.2))]),(hp 0 []))) (fun w y=>l23_1 pu n w y.1 y.2.1 y.2.2) n ⟨(s0,s1,(0:Int)),hm,(.k0 [] [] [0,1,5])⟩ (fun _=>rfl) ?_
   rintro w0 ⟨s2,s3,z0⟩ hm
   replace hm:b23_1 pu n (l23_1 pu n w0) s2 s3 z0 = some v:=hm
   unfold b23_1 at hm
   refine .then ?_
   refine .then (.rK ?_)
   refine .ghs (fr 26 [(0,Sl.v 1 s2),(1,Sl.v 1 s3),(5,zI z0),(14,(zB (ilt z0 (Int.ofNat (Sl.n s2)))))]) (hp 0 []) (.k0 [] [] [0,1,5,14]) ?_
   replace hm:=bb_cases hm;rcases hm with ⟨h1,hm⟩ | ⟨h1,hm⟩
   ·refine .ifT (ilt z0 (Int.ofNat (Sl.n s2))) (by kernel_rfl) h1 ?_
    refine .skip ?_
    refine .ghs (fr 26 [(0,Sl.v 1 s2),(1,Sl.v 1 s3),(5,zI z0)]) (hp 0 []) (.k0 [] [] [0,1,5]) ?_
    refine .then ?_
    refine .block ?_
    refine .then ?_
    replace hm:=oo_inv hm;obtain ⟨k1,h2,hm⟩:=hm
    obtain rfl:=toN_some h2
    replace hm:=bb_inv hm;obtain ⟨h3,hm⟩:=hm
    replace hm:=oo_inv hm;obtain ⟨v0,h4,hm⟩:=hm
    replace hm:=inv_toI hm;obtain ⟨x0,rfl,hm⟩:=hm
    replace hm:=bb_inv hm;obtain ⟨h5,hm⟩:=hm
    replace hm:=oo_inv hm;obtain ⟨v1,h6,hm⟩:=hm
    replace hm:=inv_toI hm;obtain ⟨x1,rfl,hm⟩:=hm
    refine .reg (eC 2 (keep (hp 0 []) (bb (an (Nat.blt k1 (Sl.n s2)) true) (some (fpV (k1 * 1) (Sl.cs s2))) none)) (keep_bb h3) (eD (keep (hp 0 []) (nthL (Sl.cs s2) (k1 * 1))) (keep_eq h4) (eC 2 (keep (hp 0 []) (bb (an (Nat.blt k1 (Sl.n s3)) true) (some (fpV (k1 * 1) (Sl.cs s3))) none)) (keep_bb h5) (eD (keep (hp 0 []) (nthL (Sl.cs s3) (k1 * 1))) (keep_eq h6) (eE))))) ?_
    refine .ghs (fr 26 [(0,Sl.v 1 s2),(1,Sl.v 1 s3),(5,(zI (Int.ofNat k1))),(25,(zB (nt (ieq x0 x1))))]) (hp 0 []) (.k0 [] [] [0,1,5,25]) ?_
    replace hm:=bb_cases hm;rcases hm with ⟨h7,hm⟩ | ⟨h7,hm⟩
    ·refine .ifT (nt (ieq x0 x1)) (by kernel_rfl) h7 ?_
     refine .then (.rK ?_)
     refine .ghs (fr 26 [(4,zB false)]) (hp 0 []) (.k0 [] [] [4]) ?_
     refine .ret ?_
     exact fin_ret (zB false) (by kernel_rfl) (by kernel_rfl) hm
    ·refine .ifF (nt (ieq x0 x1)) (by kernel_rfl) h7 ?_
     refine .skip ?_
     refine .ghs (fr 26 [(0,Sl.v 1 s2),(1,Sl.v 1 s3),(5,(zI (Int.ofNat k1)))]) (hp 0 []) (.k0 [] [] [0,1,5]) ?_
     refine .rK ?_
     exact ⟨(s2,s3,(wrapF .i64 (Int.add (Int.ofNat k1) (1:Int)))),hm,(.k0 [] [] [0,1,5])⟩
   ·refine .ifF (ilt z0 (Int.ofNat (Sl.n s2))) (by kernel_rfl) h1 ?_
    refine .exit ?_
    exact ⟨(),hm,(.k0 [] [] [])⟩
def m24_0 (pu:PureF) (n:Nat) (b0:Bool):OV:=
 (some (.bool b0))
def m24_ (pu:PureF) (n:Nat) (x0:Int) (s0:Sl) (x1:Int) (s1:Sl):OV:=
 (bb (ieq x0 x1) (oo (pu 23 [Sl.v 1 s0,Sl.v 1 s1]) none fun v0=>(oo (vBool v0) none fun b0=>(m24_0 pu n b0))) (m24_0 pu n false))
def m24 (pu:PureF) (n:Nat) (args:LV):OV:=
 (ll args none fun a0 args=>(ll args none fun a1 args=>(ll args (oo (vAgg a0) none fun l0=>(ll l0 none fun v0 l0=>(ll l0 none fun v1 l0=>(ll l0 (oo (toI .i64 v0) none fun x0=>(oo (toSl 1 v1) none fun s0=>(oo (vAgg a1) none fun l1=>(ll l1 none fun v2 l1=>(ll l1 none fun v3 l1=>(ll l1 (oo (toI .i64 v2) none fun x1=>(oo (toSl 1 v3) none fun s1=>(m24_ pu n x0 s0 x1 s1))) fun _ _=>none)))))) fun _ _=>none)))) fun _ _=>none)))
theorem w24_0 (pu:PureF) (n:Nat) (b0:Bool) {v:Value} (hm:m24_0 pu n b0 = some v):Run tt (callP tabs isP pu (inl pu)) 0 .ret (fr 17 [(4,zB b0)]) (hp 0 []) (Fin tt 0 [.tmp 4] v):=by
 unfold m24_0 at hm
 refine .ret ?_
 exact fin_ret (zB b0) (by kernel_rfl) (by kernel_rfl) hm
theorem r24 {call:CallF} (pu:PureF) (n:Nat) (hcall:call = callP tabs isP pu (inl pu)) {args:LV} {v:Value} (hm:m24 pu n args = some v) (_:∀ x ∈ args,closed2 x = true):args.length≤17∧Run tt call 0 c24_3 (Fr.made 17 args) (pureHeap tabs) (Fin tt 0 [.tmp 4] v):=by
 subst hcall
 unfold m24 at hm
 replace hm:=ll_uncons hm;obtain ⟨a0,args_0,rfl,hm⟩:=hm
 replace hm:=ll_uncons hm;obtain ⟨a1,args_1,rfl,hm⟩:=hm
 replace hm:=ll_end hm;obtain ⟨rfl,hm⟩:=hm
 replace hm:=inv_vAgg hm;obtain ⟨l0,rfl,hm⟩:=hm
 replace hm:=ll_uncons hm;obtain ⟨v0,l1669_0,rfl,hm⟩:=hm
 replace hm:=ll_uncons hm;obtain ⟨v1,l1669_1,rfl,hm⟩:=hm
 replace hm:=ll_end hm;obtain ⟨rfl,hm⟩:=hm
 replace hm:=inv_toI hm;obtain ⟨x0,rfl,hm⟩:=hm
 replace hm:=inv_toSl hm;obtain ⟨s0,rfl,hm⟩:=hm
 replace hm:=inv_vAgg hm;obtain ⟨l1,rfl,hm⟩:=hm
 replace hm:=ll_uncons hm;obtain ⟨v2,l1677_0,rfl,hm⟩:=hm
 replace hm:=ll_uncons hm;obtain ⟨v3,l1677_1,rfl,hm⟩:=hm
 replace hm:=ll_end hm;obtain ⟨rfl,hm⟩:=hm
 replace hm:=inv_toI hm;obtain ⟨x1,rfl,hm⟩:=hm
 replace hm:=inv_toSl hm;obtain ⟨s1,rfl,hm⟩:=hm
 unfold m24_ at hm
 refine ⟨by simp,?_⟩
 refine .same (F':=(fr 17 [(0,(.agg ⟨[zI x0,Sl.v 1 s0]⟩)),(1,(.agg ⟨[zI x1,Sl.v 1 s1]⟩))])) (H':=(hp 0 [])) (by kernel_rfl) (by kernel_rfl) ?_
 refine .then (.rK ?_)
 refine .ghs (fr 17 [(2,(pt 0 0)),(3,pt 1 0)]) (hp 2 [(oC [zI x0,Sl.v 1 s0]),(oC [zI x1,Sl.v 1 s1])]) (.k0 [] [.tmp 2 false,.tmp 3 false] [2,3]) ?_
 refine .join (v:=v) (fun y:Bool=>((fr 17 [(4,zB y)]),(hp 0 []))) (fun y=>m24_0 pu n y) ?_ ?_
 ·rintro b0 hm
  exact w24_0 pu n b0 hm
 ·replace hm := bb_cases hm; rcases hm with ⟨h0, hm⟩ | ⟨h0, hm⟩
  ·replace hm := oo_inv hm; obtain ⟨v4, h1, hm⟩ := hm
   replace hm:=inv_vBool hm;obtain ⟨b1,rfl,hm⟩:=hm
   refine .reg (eC 4 (some ((zB (ieq x0 x1)),(hp 2 [(oC [zI x0,Sl.v 1 s0]),(oC [zI x1,Sl.v 1 s1])]))) (show _ = some ((zB true),_) from (by rw [h0])) (eC 5 ((oo (pu 23 [Sl.v 1 s0,Sl.v 1 s1]) none fun v=>some (v,(hp 2 [(oC [zI x0,Sl.v 1 s0]),(oC [zI x1,Sl.v 1 s1])])))) (call_eq h1) (eE))) ?_
   exact ⟨b1,hm,(.k0 [] [] [4])⟩
  ·refine .reg (eC 4 (some ((zB (ieq x0 x1)), (hp 2 [(oC [zI x0, Sl.v 1 s0]), (oC [zI x1, Sl.v 1 s1])]))) (show _ = some ((zB false), _) from (by rw [h0])) (eE)) ?_
   exact ⟨false,hm,(.k0 [] [] [4])⟩
def m25_1 (pu:PureF) (n:Nat):OV:=
 (some (.int .i64 (0:Int)))
def m25_3 (pu:PureF) (n:Nat) (ih0:Int→Sl→Int→Int→Int→Sl→OV) (z0 z1:Int) (s0:Sl) (z2 z3:Int) (b0:Bool) (z4:Int) (s1:Sl):OV:=
 (bb b0 (some (.int .i64 (2:Int))) (bb (nt (ilt z0 z1)) (some (.int .i64 (7:Int))) (ih0 z1 s0 z2 (wrapF .i64 (Int.add z3 (1:Int))) z4 s1)))
def b25_2 (pu:PureF) (n:Nat) (ih0:Int→Sl→Int→Int→Int→Sl→OV) (z0:Int) (s0:Sl) (z1 z2 z3:Int) (s1:Sl):OV:=
 (bb (ilt z2 z1) (oo (toN z2) none fun k1=>(bb (an (Nat.blt k1 (Sl.n s0)) true) (oo (nthL (Sl.cs s0) (k1 * 1)) none fun v0=>(oo (toI .i64 v0) none fun x0=>(bb (ilt x0 (0:Int)) (m25_3 pu n ih0 z0 x0 s0 z1 (Int.ofNat k1) true z3 s1) (m25_3 pu n ih0 z0 x0 s0 z1 (Int.ofNat k1) (nt (ilt x0 z3)) z3 s1)))) none)) (m25_1 pu n))
def l25_2 (pu:PureF) (n w:Nat):Int→Sl→Int→Int→Int→Sl→OV:=
 Nat.rec (motive:=fun _=>Int→Sl→Int→Int→Int→Sl→OV) (fun _ _ _ _ _ _=>none) (fun _ ih0=>b25_2 pu n ih0) w
def m25_0 (pu:PureF) (n:Nat) (b0:Bool) (z0:Int) (s0:Sl):OV:=
 (bb b0 (some (.int .i64 (1:Int))) (bb (ilt (6:Int) (Int.ofNat (Sl.n s0))) (some (.int .i64 (3:Int))) (l25_2 pu n n (-1:Int) s0 (Int.ofNat (Sl.n s0)) (0:Int) z0 s0)))
def m25_ (pu:PureF) (n:Nat) (x0:Int) (s0:Sl):OV:=
 (bb (ilt x0 (1:Int)) (m25_0 pu n true x0 s0) (m25_0 pu n (ilt (21:Int) x0) x0 s0))
def m25 (pu:PureF) (n:Nat) (args:LV):OV:=
 (ll args none fun a0 args=>(ll args (oo (vAgg a0) none fun l0=>(ll l0 none fun v0 l0=>(ll l0 none fun v1 l0=>(ll l0 (oo (toI .i64 v0) none fun x0=>(oo (toSl 1 v1) none fun s0=>(m25_ pu n x0 s0))) fun _ _=>none)))) fun _ _=>none))
theorem w25_1 (pu:PureF) (n:Nat) {v:Value} (hm:m25_1 pu n = some v):Run tt (callP tabs isP pu (inl pu)) 0 c25_40 (fr 42 []) (hp 0 []) (Fin tt 0 [.tmp 2] v):=by
 unfold m25_1 at hm
 refine .then (.rK ?_)
 refine .ghs (fr 42 [(2,(zI (0:Int)))]) (hp 0 []) (.k0 [] [] [2]) ?_
 refine .ret ?_
 exact fin_ret (zI (0:Int)) (by kernel_rfl) (by kernel_rfl) hm
theorem r25 {call:CallF} (pu:PureF) (n:Nat) (hcall:call = callP tabs isP pu (inl pu)) {args:LV} {v:Value} (hm:m25 pu n args = some v) (_:∀ x ∈ args,closed2 x = true):args.length≤42∧Run tt call 0 c25_44 (Fr.made 42 args) (pureHeap tabs) (Fin tt 0 [.tmp 2] v):=by
 subst hcall
 unfold m25 at hm
 replace hm:=ll_uncons hm;obtain ⟨a0,args_0,rfl,hm⟩:=hm
 replace hm:=ll_end hm;obtain ⟨rfl,hm⟩:=hm
 replace hm:=inv_vAgg hm;obtain ⟨l0,rfl,hm⟩:=hm
 replace hm:=ll_uncons hm;obtain ⟨v0,l1706_0,rfl,hm⟩:=hm
 replace hm:=ll_uncons hm;obtain ⟨v1,l1706_1,rfl,hm⟩:=hm
 replace hm:=ll_end hm;obtain ⟨rfl,hm⟩:=hm
 replace hm:=inv_toI hm;obtain ⟨x0,rfl,hm⟩:=hm
 replace hm:=inv_toSl hm;obtain ⟨s0,rfl,hm⟩:=hm
 unfold m25_ at hm
 refine ⟨by simp,?_⟩
 refine .same (F':=(fr 42 [(0,(.agg ⟨[zI x0,Sl.v 1 s0]⟩))])) (H':=(hp 0 [])) (by kernel_rfl) (by kernel_rfl) ?_
 refine .then (.rK ?_)
 refine .ghs (fr 42 [(1,(pt 0 0))]) (hp 1 [(oC [zI x0,Sl.v 1 s0])]) (.k0 [] [.tmp 1 false] [1]) ?_
 refine .then ?_
 refine .block ?_
 refine .join (v:=v) (fun y:Bool×Int×Sl=>((fr 42 [(1,(pt 0 0)),(6,(zB y.1))]),(hp 1 [(oC [(zI y.2.1),(Sl.v 1 y.2.2)])]))) (fun y=>m25_0 pu n y.1 y.2.1 y.2.2) ?_ ?_
 ·rintro ⟨b0, z0, s1⟩ hm
  unfold m25_0 at hm
  replace hm:=bb_cases hm;rcases hm with ⟨h0,hm⟩ | ⟨h0,hm⟩
  ·refine .ifT b0 (by kernel_rfl) h0 ?_
   refine .then (.rK ?_)
   refine .ghs (fr 42 [(2,(zI (1:Int)))]) (hp 0 []) (.k0 [] [] [2]) ?_
   refine .ret ?_
   exact fin_ret (zI (1:Int)) (by kernel_rfl) (by kernel_rfl) hm
  ·refine .ifF b0 (by kernel_rfl) h0 ?_
   refine .then (.rK ?_)
   refine .ghs (fr 42 [(1,(pt 0 0)),(15,(zB (ilt (6:Int) (Int.ofNat (Sl.n s1)))))]) (hp 1 [(oC [zI z0,Sl.v 1 s1])]) (.k0 [] [.tmp 1 false] [1,15]) ?_
   replace hm:=bb_cases hm;rcases hm with ⟨h1,hm⟩ | ⟨h1,hm⟩
   ·refine .ifT (ilt (6 : Int) (Int.ofNat (Sl.n s1))) (by kernel_rfl) h1 ?_
    refine .then (.rK ?_)
    refine .ghs (fr 42 [(2,(zI (3:Int)))]) (hp 0 []) (.k0 [] [] [2]) ?_
    refine .ret ?_
    exact fin_ret (zI (3:Int)) (by kernel_rfl) (by kernel_rfl) hm
   ·refine .ifF (ilt (6 : Int) (Int.ofNat (Sl.n s1))) (by kernel_rfl) h1 ?_
    refine .skip ?_
    refine .ghs (fr 42 [(1,(pt 0 0))]) (hp 1 [(oC [zI z0,Sl.v 1 s1])]) (.k0 [] [.tmp 1 false] [1]) ?_
    refine .then (.rK ?_)
    refine .ghs (fr 42 [(1,(pt 0 0)),(3,(zI (-1:Int)))]) (hp 1 [(oC [zI z0,Sl.v 1 s1])]) (.k0 [] [.tmp 1 false] [1,3]) ?_
    refine .join (v:=v) (fun y:Unit=>((fr 42 []),(hp 0 []))) (fun y=>m25_1 pu n) ?_ ?_
    ·rintro _ hm
     exact w25_1 pu n hm
    ·refine .then (.rK ?_)
     refine .ghs (fr 42 [(1,(pt 0 0)),(3,(zI (-1:Int))),(21,Sl.v 1 s1),(22,(zI (Int.ofNat (Sl.n s1)))),(23,(zI (0:Int)))]) (hp 1 [(oC [zI z0,Sl.v 1 s1])]) (.k0 [] [.tmp 1 false] [1,3,21,22,23]) ?_
     refine .block ?_
     refine .loopM (v:=v) (fun y:Int×Sl×Int×Int×Int×Sl=>((fr 42 [(1,(pt 0 0)),(3,(zI y.1)),(21,(Sl.v 1 y.2.1)),(22,(zI y.2.2.1)),(23,(zI y.2.2.2.1))]),(hp 1 [(oC [(zI y.2.2.2.2.1),(Sl.v 1 y.2.2.2.2.2)])]))) (fun w y=>l25_2 pu n w y.1 y.2.1 y.2.2.1 y.2.2.2.1 y.2.2.2.2.1 y.2.2.2.2.2) n ⟨((-1:Int),s1,(Int.ofNat (Sl.n s1)),(0:Int),z0,s1),hm,(.k0 [] [.tmp 1 false] [1,3,21,22,23])⟩ (fun _=>rfl) ?_
     rintro w0 ⟨z1,s2,z2,z3,z4,s3⟩ hm
     replace hm:b25_2 pu n (l25_2 pu n w0) z1 s2 z2 z3 z4 s3 = some v:=hm
     unfold b25_2 at hm
     refine .then (.rK ?_)
     refine .ghs (fr 42 [(1,(pt 0 0)),(3,zI z1),(21,Sl.v 1 s2),(22,zI z2),(23,zI z3),(24,(zB (ilt z3 z2)))]) (hp 1 [(oC [zI z4,Sl.v 1 s3])]) (.k0 [] [.tmp 1 false] [1,3,21,22,23,24]) ?_
     refine .then ?_
     replace hm:=bb_cases hm;rcases hm with ⟨h2,hm⟩ | ⟨h2,hm⟩
     ·refine .ifT (ilt z3 z2) (by kernel_rfl) h2 ?_
      refine .skip ?_
      refine .ghs (fr 42 [(1,(pt 0 0)),(3,zI z1),(21,Sl.v 1 s2),(22,zI z2),(23,zI z3)]) (hp 1 [(oC [zI z4,Sl.v 1 s3])]) (.k0 [] [.tmp 1 false] [1,3,21,22,23]) ?_
      refine .then ?_
      refine .block ?_
      refine .then ?_
      replace hm:=oo_inv hm;obtain ⟨k1,h3,hm⟩:=hm
      obtain rfl:=toN_some h3
      replace hm:=bb_inv hm;obtain ⟨h4,hm⟩:=hm
      replace hm:=oo_inv hm;obtain ⟨v2,h5,hm⟩:=hm
      replace hm:=inv_toI hm;obtain ⟨x1,rfl,hm⟩:=hm
      refine .reg (eD (keep (hp 1 [(oC [zI z4,Sl.v 1 s3])]) (bb (an (Nat.blt k1 (Sl.n s2)) true) (some (fpV (k1 * 1) (Sl.cs s2))) none)) (keep_bb h4) (eD (keep (hp 1 [(oC [zI z4,Sl.v 1 s3])]) (nthL (Sl.cs s2) (k1 * 1))) (keep_eq h5) (eE))) ?_
      refine .ghs (fr 42 [(1,(pt 0 0)),(3,zI z1),(5,zI x1),(21,Sl.v 1 s2),(22,zI z2),(23,(zI (Int.ofNat k1)))]) (hp 1 [(oC [zI z4,Sl.v 1 s3])]) (.k0 [] [.tmp 1 false] [1,3,5,21,22,23]) ?_
      refine .then ?_
      refine .block ?_
      refine .join (v:=v) (fun y:Int×Int×Sl×Int×Int×Bool×Int×Sl=>((fr 42 [(1,(pt 0 0)),(3,(zI y.1)),(5,(zI y.2.1)),(21,(Sl.v 1 y.2.2.1)),(22,(zI y.2.2.2.1)),(23,(zI y.2.2.2.2.1)),(27,(zB y.2.2.2.2.2.1))]),(hp 1 [(oC [(zI y.2.2.2.2.2.2.1),(Sl.v 1 y.2.2.2.2.2.2.2)])]))) (fun y=>m25_3 pu n (l25_2 pu n w0) y.1 y.2.1 y.2.2.1 y.2.2.2.1 y.2.2.2.2.1 y.2.2.2.2.2.1 y.2.2.2.2.2.2.1 y.2.2.2.2.2.2.2) ?_ ?_
      ·rintro ⟨z5, z6, s4, z7, z8, b1, z9, s5⟩ hm
       unfold m25_3 at hm
       replace hm:=bb_cases hm;rcases hm with ⟨h6,hm⟩ | ⟨h6,hm⟩
       ·refine .ifT b1 (by kernel_rfl) h6 ?_
        refine .then (.rK ?_)
        refine .ghs (fr 42 [(2,(zI (2:Int)))]) (hp 0 []) (.k0 [] [] [2]) ?_
        refine .ret ?_
        exact fin_ret (zI (2:Int)) (by kernel_rfl) (by kernel_rfl) hm
       ·refine .ifF b1 (by kernel_rfl) h6 ?_
        refine .then (.rK ?_)
        refine .ghs (fr 42 [(1,(pt 0 0)),(5,zI z6),(21,Sl.v 1 s4),(22,zI z7),(23,zI z8),(36,(zB (nt (ilt z5 z6))))]) (hp 1 [(oC [zI z9,Sl.v 1 s5])]) (.k0 [] [.tmp 1 false] [1,5,21,22,23,36]) ?_
        replace hm:=bb_cases hm;rcases hm with ⟨h7,hm⟩ | ⟨h7,hm⟩
        ·refine .ifT (nt (ilt z5 z6)) (by kernel_rfl) h7 ?_
         refine .then (.rK ?_)
         refine .ghs (fr 42 [(2,(zI (7:Int)))]) (hp 0 []) (.k0 [] [] [2]) ?_
         refine .ret ?_
         exact fin_ret (zI (7:Int)) (by kernel_rfl) (by kernel_rfl) hm
        ·refine .ifF (nt (ilt z5 z6)) (by kernel_rfl) h7 ?_
         refine .skip ?_
         refine .ghs (fr 42 [(1,(pt 0 0)),(5,zI z6),(21,Sl.v 1 s4),(22,zI z7),(23,zI z8)]) (hp 1 [(oC [zI z9,Sl.v 1 s5])]) (.k0 [] [.tmp 1 false] [1,5,21,22,23]) ?_
         refine .rK ?_
         refine .ghs (fr 42 [(1,(pt 0 0)),(3,zI z6),(21,Sl.v 1 s4),(22,zI z7),(23,zI z8)]) (hp 1 [(oC [zI z9,Sl.v 1 s5])]) (.k0 [] [.tmp 1 false] [1,3,21,22,23]) ?_
         refine .rK ?_
         exact ⟨(z6,s4,z7,(wrapF .i64 (Int.add z8 (1:Int))),z9,s5),hm,(.k0 [] [.tmp 1 false] [1,3,21,22,23])⟩
      ·replace hm := bb_cases hm; rcases hm with ⟨h8, hm⟩ | ⟨h8, hm⟩
       ·refine .reg (eC 1 (some ((zB (ilt x1 (0 : Int))), (hp 1 [(oC [zI z4, Sl.v 1 s3])]))) (show _ = some ((zB true), _) from (by rw [h8])) (eE)) ?_
        exact ⟨(z1,x1,s2,z2,(Int.ofNat k1),true,z4,s3),hm,(.k0 [] [.tmp 1 false] [1,3,5,21,22,23,27])⟩
       ·refine .reg (eC 1 (some ((zB (ilt x1 (0 : Int))), (hp 1 [(oC [zI z4, Sl.v 1 s3])]))) (show _ = some ((zB false), _) from (by rw [h8])) (eE)) ?_
        exact ⟨(z1,x1,s2,z2,(Int.ofNat k1),(nt (ilt x1 z4)),z4,s3),hm,(.k0 [] [.tmp 1 false] [1,3,5,21,22,23,27])⟩
     ·refine .ifF (ilt z3 z2) (by kernel_rfl) h2 ?_
      refine .exit ?_
      exact ⟨(),hm,(.k0 [] [] [])⟩
 ·replace hm := bb_cases hm; rcases hm with ⟨h9, hm⟩ | ⟨h9, hm⟩
  ·refine .reg (eC 2 (some ((zB (ilt x0 (1 : Int))), (hp 1 [(oC [zI x0, Sl.v 1 s0])]))) (show _ = some ((zB true), _) from (by rw [h9])) (eE)) ?_
   exact ⟨(true,x0,s0),hm,(.k0 [] [.tmp 1 false] [1,6])⟩
  ·refine .reg (eC 2 (some ((zB (ilt x0 (1 : Int))), (hp 1 [(oC [zI x0, Sl.v 1 s0])]))) (show _ = some ((zB false), _) from (by rw [h9])) (eE)) ?_
   exact ⟨((ilt (21:Int) x0),x0,s0),hm,(.k0 [] [.tmp 1 false] [1,6])⟩
def m15_0 (pu:PureF) (n n0 c0:Nat) (q1:LV):OV:=
 (bb (allL closed1 q1) (bb (an (Nat.ble (0 + n0 * 1) (len q1)) (allL closed1 (takeL (n0 * 1) (dropL 0 q1)))) (some (.tuple ⟨[(Sl.v 1 (Sl.mk n0 0 (takeL (n0 * 1) (dropL 0 q1)))),(.int .i64 (0:Int))]⟩)) none) none)
def b15_1 (pu:PureF) (n:Nat) (ih0:Nat→Nat→Sl→Int→Int→Int→Sl→Int→Int→LV→OV) (n0 c0:Nat) (s0:Sl) (z0 z1 z2:Int) (s1:Sl) (z3 z4:Int) (q1:LV):OV:=
 (bb (allL closed1 q1) (bb (ilt z1 z0) (oo (toN z1) none fun k1=>(bb (an (Nat.blt k1 (Sl.n s0)) true) (oo (nthL (Sl.cs s0) (k1 * 1)) none fun v0=>(oo (toI .i64 v0) none fun x0=>(bb (nt (ieq (Int.ofNat (Sl.n s1)) (0:Int))) (oo (toN (Int.tmod (wrapF .i64 (Int.add (Int.ofNat k1) (1:Int))) (Int.ofNat (Sl.n s1)))) none fun k2=>(bb (an (Nat.blt k2 (Sl.n s1)) true) (oo (nthL (Sl.cs s1) (k2 * 1)) none fun v1=>(oo (toI .i64 v1) none fun x1=>(oo (pu 62 [(.agg ⟨[.int .i64 z3,.int .u32 z4]⟩),(.int .i64 (wrapF .i64 (Int.sub (wrapF .i64 (Int.sub x1 x0)) (1:Int))))]) none fun v2=>(oo (toI .i64 v2) none fun x2=>(bb (growC 1 8 n0 c0 1 q1) (bb (allL closed1 (appL (dropL 0 q1) [(.int .i64 (wrapF .i64 (Int.add x2 (1:Int))))])) (ih0 (n0 + 1) (2 * (n0 + 1) + bb false 1 0) s0 z0 (wrapF .i64 (Int.add (Int.ofNat k1) (1:Int))) z2 s1 z3 z4 (appL (dropL 0 q1) [(.int .i64 (wrapF .i64 (Int.add x2 (1:Int))))])) none) none))))) none)) none))) none)) (m15_0 pu n n0 c0 q1)) none)
def l15_1 (pu:PureF) (n w:Nat):Nat→Nat→Sl→Int→Int→Int→Sl→Int→Int→LV→OV:=
 Nat.rec (motive:=fun _=>Nat→Nat→Sl→Int→Int→Int→Sl→Int→Int→LV→OV) (fun _ _ _ _ _ _ _ _ _ _=>none) (fun _ ih0=>b15_1 pu n ih0) w
def m15_ (pu:PureF) (n:Nat) (x0:Int) (s0:Sl):OV:=
 (oo (pu 61 [(.agg ⟨[.int .i64 x0,Sl.v 1 s0]⟩)]) none fun v0=>(oo (vTup v0) none fun l0=>(ll l0 none fun v1 l0=>(ll l0 none fun v2 l0=>(ll l0 (oo (vAgg v1) none fun l1=>(ll l1 none fun v3 l1=>(ll l1 none fun v4 l1=>(ll l1 (oo (toI .i64 v3) none fun x1=>(oo (toI .u32 v4) none fun x2=>(oo (toI .i64 v2) none fun x3=>(bb (nt (ieq x3 (0:Int))) (some (.tuple ⟨[(Sl.v 1 (Sl.mk 0 2 [])),.int .i64 x3]⟩)) (bb (ieq x2 (0:Int)) (some (.tuple ⟨[(Sl.v 1 (Sl.mk 0 2 [])),(.int .i64 (4:Int))]⟩)) (l15_1 pu n n 0 0 s0 (Int.ofNat (Sl.n s0)) (0:Int) x0 s0 x1 x2 ([]:LV))))))) fun _ _=>none)))) fun _ _=>none)))))
def m15 (pu:PureF) (n:Nat) (args:LV):OV:=
 (ll args none fun a0 args=>(ll args (oo (vAgg a0) none fun l0=>(ll l0 none fun v0 l0=>(ll l0 none fun v1 l0=>(ll l0 (oo (toI .i64 v0) none fun x0=>(oo (toSl 1 v1) none fun s0=>(m15_ pu n x0 s0))) fun _ _=>none)))) fun _ _=>none))
theorem w15_0 (pu:PureF) (n n0 c0:Nat) (q1:LV) {v:Value} (hm:m15_0 pu n n0 c0 q1 = some v):Run tt (callP tabs isP pu (inl pu)) 0 c15_31 (fr 53 [(6,sc 0 0 1 n0 c0)]) (hp 1 [oC q1]) (Fin tt 0 [.tmp 2,.tmp 3] v):=by
 unfold m15_0 at hm
 refine .then (.rK ?_)
 replace hm:=bb_inv hm;obtain ⟨h0,hm⟩:=hm
 refine .ghs (fr 53 [(2,sc 0 0 1 n0 c0),(3,(zI (0:Int)))]) (hp 1 [oC q1]) (.k [0] [] [.tmp 2 false] [2,3] ⟨trF h0,trivial⟩) ?_
 replace hm:=bb_inv hm;obtain ⟨h1,hm⟩:=hm
 refine .ghs (Fr.puts (fr 53 [(2,sc 0 0 1 n0 c0),(3,(zI (0:Int)))]) [(2,(Sl.v 1 (Sl.mk n0 0 (takeL (n0 * 1) (dropL 0 q1)))))]) (hp 1 [.dead]) (.freezeC 0 2 1 (an (Nat.ble (0 + n0 * 1) (len q1)) (allL closed1 (takeL (n0 * 1) (dropL 0 q1)))) (F1:=(Fr.puts (fr 53 [(2,sc 0 0 1 n0 c0),(3,(zI (0:Int)))]) [(2,(Sl.v 1 (Sl.mk n0 0 (takeL (n0 * 1) (dropL 0 q1)))))])) (H1:=(hp 1 [.dead])) (by kernel_rfl) (by kernel_rfl) h1 (GhS.id _ _)) ?_
 refine .ret ?_
 exact fin_ret (.tuple ⟨[(Sl.v 1 (Sl.mk n0 0 (takeL (n0 * 1) (dropL 0 q1)))),(zI (0:Int))]⟩) (by kernel_rfl) (by kernel_rfl) hm
theorem r15 {call:CallF} (pu:PureF) (n:Nat) (hcall:call = callP tabs isP pu (inl pu)) {args:LV} {v:Value} (hm:m15 pu n args = some v) (_:∀ x ∈ args,closed2 x = true):args.length≤53∧Run tt call 0 c15_36 (Fr.made 53 args) (pureHeap tabs) (Fin tt 0 [.tmp 2,.tmp 3] v):=by
 subst hcall
 unfold m15 at hm
 replace hm:=ll_uncons hm;obtain ⟨a0,args_0,rfl,hm⟩:=hm
 replace hm:=ll_end hm;obtain ⟨rfl,hm⟩:=hm
 replace hm:=inv_vAgg hm;obtain ⟨l0,rfl,hm⟩:=hm
 replace hm:=ll_uncons hm;obtain ⟨v0,l1793_0,rfl,hm⟩:=hm
 replace hm:=ll_uncons hm;obtain ⟨v1,l1793_1,rfl,hm⟩:=hm
 replace hm:=ll_end hm;obtain ⟨rfl,hm⟩:=hm
 replace hm:=inv_toI hm;obtain ⟨x0,rfl,hm⟩:=hm
 replace hm:=inv_toSl hm;obtain ⟨s0,rfl,hm⟩:=hm
 unfold m15_ at hm
 refine ⟨by simp,?_⟩
 refine .same (F':=(fr 53 [(0,(.agg ⟨[zI x0,Sl.v 1 s0]⟩))])) (H':=(hp 0 [])) (by kernel_rfl) (by kernel_rfl) ?_
 refine .then (.rK ?_)
 refine .ghs (fr 53 [(1,(pt 0 0))]) (hp 1 [(oC [zI x0,Sl.v 1 s0])]) (.k0 [] [.tmp 1 false] [1]) ?_
 refine .then ?_
 replace hm:=oo_inv hm;obtain ⟨v2,h0,hm⟩:=hm
 replace hm:=inv_vTup hm;obtain ⟨l1,rfl,hm⟩:=hm
 replace hm:=ll_uncons hm;obtain ⟨v3,l1819_0,rfl,hm⟩:=hm
 replace hm:=ll_uncons hm;obtain ⟨v4,l1819_1,rfl,hm⟩:=hm
 replace hm:=ll_end hm;obtain ⟨rfl,hm⟩:=hm
 replace hm:=inv_vAgg hm;obtain ⟨l2,rfl,hm⟩:=hm
 replace hm:=ll_uncons hm;obtain ⟨v5,l1823_0,rfl,hm⟩:=hm
 replace hm:=ll_uncons hm;obtain ⟨v6,l1823_1,rfl,hm⟩:=hm
 replace hm:=ll_end hm;obtain ⟨rfl,hm⟩:=hm
 replace hm:=inv_toI hm;obtain ⟨x1,rfl,hm⟩:=hm
 replace hm:=inv_toI hm;obtain ⟨x2,rfl,hm⟩:=hm
 replace hm:=inv_toI hm;obtain ⟨x3,rfl,hm⟩:=hm
 refine .reg (eC 1 ((oo (pu 61 [(.agg ⟨[zI x0,Sl.v 1 s0]⟩)]) none fun v=>some (v,(hp 1 [(oC [zI x0,Sl.v 1 s0])])))) (call_eq h0) (eE)) ?_
 refine .ghs (fr 53 [(1,(pt 0 0)),(4,pt 1 0),(5,zI x3)]) (hp 2 [(oC [zI x0,Sl.v 1 s0]),(oC [zI x1,.int .u32 x2])]) (.k0 [] [.tmp 1 false,.tmp 4 false] [1,4,5]) ?_
 refine .then ?_
 refine .block ?_
 refine .then (.rK ?_)
 refine .ghs (fr 53 [(1,(pt 0 0)),(4,pt 1 0),(5,zI x3),(15,(zB (nt (ieq x3 (0:Int)))))]) (hp 2 [(oC [zI x0,Sl.v 1 s0]),(oC [zI x1,.int .u32 x2])]) (.k0 [] [.tmp 1 false,.tmp 4 false] [1,4,5,15]) ?_
 replace hm:=bb_cases hm;rcases hm with ⟨h1,hm⟩ | ⟨h1,hm⟩
 ·refine .ifT (nt (ieq x3 (0 : Int))) (by kernel_rfl) h1 ?_
  refine .then (.rK ?_)
  refine .ghs (fr 53 [(2,(.slice none 0 0)),(3,zI x3)]) (hp 0 []) (.k0 [] [] [2,3]) ?_
  refine .ghs (Fr.puts (fr 53 [(2,(.slice none 0 0)),(3,zI x3)]) [(2,(Sl.v 1 (Sl.mk 0 2 [])))]) (hp 0 []) (.freeze 0 2 1 (by kernel_rfl) (by kernel_rfl) (GhS.id _ _)) ?_
  refine .ret ?_
  exact fin_ret (.tuple ⟨[(Sl.v 1 (Sl.mk 0 2 [])),zI x3]⟩) (by kernel_rfl) (by kernel_rfl) hm
 ·refine .ifF (nt (ieq x3 (0 : Int))) (by kernel_rfl) h1 ?_
  refine .then (.rK ?_)
  refine .ghs (fr 53 [(1,(pt 0 0)),(4,pt 1 0),(19,(zB (ieq x2 (0:Int))))]) (hp 2 [(oC [zI x0,Sl.v 1 s0]),(oC [zI x1,.int .u32 x2])]) (.k0 [] [.tmp 1 false,.tmp 4 false] [1,4,19]) ?_
  replace hm:=bb_cases hm;rcases hm with ⟨h2,hm⟩ | ⟨h2,hm⟩
  ·refine .ifT (ieq x2 (0 : Int)) (by kernel_rfl) h2 ?_
   refine .then (.rK ?_)
   refine .ghs (fr 53 [(2,(.slice none 0 0)),(3,(zI (4:Int)))]) (hp 0 []) (.k0 [] [] [2,3]) ?_
   refine .ghs (Fr.puts (fr 53 [(2,(.slice none 0 0)),(3,(zI (4:Int)))]) [(2,(Sl.v 1 (Sl.mk 0 2 [])))]) (hp 0 []) (.freeze 0 2 1 (by kernel_rfl) (by kernel_rfl) (GhS.id _ _)) ?_
   refine .ret ?_
   exact fin_ret (.tuple ⟨[(Sl.v 1 (Sl.mk 0 2 [])),(zI (4:Int))]⟩) (by kernel_rfl) (by kernel_rfl) hm
  ·refine .ifF (ieq x2 (0 : Int)) (by kernel_rfl) h2 ?_
   refine .skip ?_
   refine .ghs (fr 53 [(1,(pt 0 0)),(4,pt 1 0)]) (hp 2 [(oC [zI x0,Sl.v 1 s0]),(oC [zI x1,.int .u32 x2])]) (.k0 [] [.tmp 1 false,.tmp 4 false] [1,4]) ?_
   refine .then (.rK ?_)
   refine .ghs (fr 53 [(1,(pt 0 0)),(4,pt 1 0),(6,(.slice none 0 0))]) (hp 2 [(oC [zI x0,Sl.v 1 s0]),(oC [zI x1,.int .u32 x2])]) (.k0 [] [.tmp 1 false,.tmp 4 false] [1,4,6]) ?_
   refine .join (v:=v) (fun y:Nat×Nat×LV=>((fr 53 [(6,(sc 0 0 1 y.1 y.2.1))]),(hp 1 [(oC y.2.2)]))) (fun y=>m15_0 pu n y.1 y.2.1 y.2.2) ?_ ?_
   ·rintro ⟨n0, c0, q1⟩ hm
    exact w15_0 pu n n0 c0 q1 hm
   ·refine .then (.rK ?_)
    refine .ghs (fr 53 [(1,(pt 0 0)),(4,pt 1 0),(6,(.slice none 0 0)),(24,Sl.v 1 s0),(25,(zI (Int.ofNat (Sl.n s0)))),(26,(zI (0:Int)))]) (hp 2 [(oC [zI x0,Sl.v 1 s0]),(oC [zI x1,.int .u32 x2])]) (.k0 [] [.tmp 1 false,.tmp 4 false] [1,4,6,24,25,26]) ?_
    refine .block ?_
    refine .loopM (v:=v) (fun y:Nat×Nat×Sl×Int×Int×Int×Sl×Int×Int×LV=>((fr 53 [(1,(pt 0 0)),(4,pt 1 0),(6,(sc 2 0 1 y.1 y.2.1)),(24,(Sl.v 1 y.2.2.1)),(25,(zI y.2.2.2.1)),(26,(zI y.2.2.2.2.1))]),(hp 3 [(oC [(zI y.2.2.2.2.2.1),(Sl.v 1 y.2.2.2.2.2.2.1)]),(oC [(zI y.2.2.2.2.2.2.2.1),(.int .u32 y.2.2.2.2.2.2.2.2.1)]),(oC y.2.2.2.2.2.2.2.2.2)]))) (fun w y=>l15_1 pu n w y.1 y.2.1 y.2.2.1 y.2.2.2.1 y.2.2.2.2.1 y.2.2.2.2.2.1 y.2.2.2.2.2.2.1 y.2.2.2.2.2.2.2.1 y.2.2.2.2.2.2.2.2.1 y.2.2.2.2.2.2.2.2.2) n ⟨(0,0,s0,(Int.ofNat (Sl.n s0)),(0:Int),x0,s0,x1,x2,([]:LV)),hm,(.thaw 6 1 (by kernel_rfl) (.k0 [] [.tmp 1 false,.tmp 4 false,.tmp 6 false] [1,4,6,24,25,26]))⟩ (fun _=>rfl) ?_
    rintro w0 ⟨n1,c1,s1,z0,z1,z2,s2,z3,z4,q2⟩ hm
    replace hm:b15_1 pu n (l15_1 pu n w0) n1 c1 s1 z0 z1 z2 s2 z3 z4 q2 = some v:=hm
    unfold b15_1 at hm
    refine .then (.rK ?_)
    replace hm:=bb_inv hm;obtain ⟨h3,hm⟩:=hm
    refine .ghs (fr 53 [(1,(pt 0 0)),(4,pt 1 0),(6,sc 2 0 1 n1 c1),(24,Sl.v 1 s1),(25,zI z0),(26,zI z1),(27,(zB (ilt z1 z0)))]) (hp 3 [(oC [zI z2,Sl.v 1 s2]),(oC [zI z3,.int .u32 z4]),oC q2]) (.k [2] [] [.tmp 1 false,.tmp 4 false,.tmp 6 false] [1,4,6,24,25,26,27] ⟨trF h3,trivial⟩) ?_
    refine .then ?_
    replace hm:=bb_cases hm;rcases hm with ⟨h4,hm⟩ | ⟨h4,hm⟩
    ·refine .ifT (ilt z1 z0) (by kernel_rfl) h4 ?_
     refine .skip ?_
     refine .ghs (fr 53 [(1,(pt 0 0)),(4,pt 1 0),(6,sc 2 0 1 n1 c1),(24,Sl.v 1 s1),(25,zI z0),(26,zI z1)]) (hp 3 [(oC [zI z2,Sl.v 1 s2]),(oC [zI z3,.int .u32 z4]),oC q2]) (.k [2] [] [.tmp 1 false,.tmp 4 false,.tmp 6 false] [1,4,6,24,25,26] ⟨trF h3,trivial⟩) ?_
     refine .then ?_
     refine .block ?_
     refine .then ?_
     replace hm:=oo_inv hm;obtain ⟨k1,h5,hm⟩:=hm
     obtain rfl:=toN_some h5
     replace hm:=bb_inv hm;obtain ⟨h6,hm⟩:=hm
     replace hm:=oo_inv hm;obtain ⟨v7,h7,hm⟩:=hm
     replace hm:=inv_toI hm;obtain ⟨x4,rfl,hm⟩:=hm
     refine .reg (eC 1 (keep (hp 3 [(oC [zI z2,Sl.v 1 s2]),(oC [zI z3,.int .u32 z4]),oC q2]) (bb (an (Nat.blt k1 (Sl.n s1)) true) (some (fpV (k1 * 1) (Sl.cs s1))) none)) (keep_bb h6) (eD (keep (hp 3 [(oC [zI z2,Sl.v 1 s2]),(oC [zI z3,.int .u32 z4]),oC q2]) (nthL (Sl.cs s1) (k1 * 1))) (keep_eq h7) (eE))) ?_
     refine .ghs (fr 53 [(1,(pt 0 0)),(4,pt 1 0),(6,sc 2 0 1 n1 c1),(7,(zI (Int.ofNat k1))),(8,zI x4),(24,Sl.v 1 s1),(25,zI z0),(26,(zI (Int.ofNat k1)))]) (hp 3 [(oC [zI z2,Sl.v 1 s2]),(oC [zI z3,.int .u32 z4]),oC q2]) (.k [2] [] [.tmp 1 false,.tmp 4 false,.tmp 6 false] [1,4,6,7,8,24,25,26] ⟨trF h3,trivial⟩) ?_
     refine .then ?_
     replace hm:=bb_inv hm;obtain ⟨h8,hm⟩:=hm
     replace hm:=oo_inv hm;obtain ⟨k2,h9,hm⟩:=hm
     replace hm:=bb_inv hm;obtain ⟨h10,hm⟩:=hm
     replace hm:=oo_inv hm;obtain ⟨v8,h11,hm⟩:=hm
     replace hm:=inv_toI hm;obtain ⟨x5,rfl,hm⟩:=hm
     refine .reg (eC 7 (keep (hp 3 [(oC [zI z2,Sl.v 1 s2]),(oC [zI z3,.int .u32 z4]),oC q2]) (bb (ieq (Int.ofNat (Sl.n s2)) (0:Int)) none (some (zI (Int.tmod (wrapF .i64 (Int.add (Int.ofNat k1) (1:Int))) (Int.ofNat (Sl.n s2))))))) (show _ = some ((zI (Int.ofNat k2)),_) from (nat_eq (X:=(Int.tmod (wrapF .i64 (Int.add (Int.ofNat k1) (1:Int))) (Int.ofNat (Sl.n s2)))) (keep_nb h8) h9)) (eD (keep (hp 3 [(oC [zI z2,Sl.v 1 s2]),(oC [zI z3,.int .u32 z4]),oC q2]) (bb (an (Nat.blt k2 (Sl.n s2)) true) (some (fpV (k2 * 1) (Sl.cs s2))) none)) (keep_bb h10) (eD (keep (hp 3 [(oC [zI z2,Sl.v 1 s2]),(oC [zI z3,.int .u32 z4]),oC q2]) (nthL (Sl.cs s2) (k2 * 1))) (keep_eq h11) (eE)))) ?_
     refine .ghs (fr 53 [(1,(pt 0 0)),(4,pt 1 0),(6,sc 2 0 1 n1 c1),(8,zI x4),(9,zI x5),(24,Sl.v 1 s1),(25,zI z0),(26,(zI (Int.ofNat k1)))]) (hp 3 [(oC [zI z2,Sl.v 1 s2]),(oC [zI z3,.int .u32 z4]),oC q2]) (.k [2] [] [.tmp 1 false,.tmp 4 false,.tmp 6 false] [1,4,6,8,9,24,25,26] ⟨trF h3,trivial⟩) ?_
     replace hm:=oo_inv hm;obtain ⟨v9,h12,hm⟩:=hm
     replace hm:=inv_toI hm;obtain ⟨x6,rfl,hm⟩:=hm
     replace hm:=bb_inv hm;obtain ⟨h13,hm⟩:=hm
     refine .reg (eC 6 ((oo (pu 62 [(.agg ⟨[zI z3,.int .u32 z4]⟩),(zI (wrapF .i64 (Int.sub (wrapF .i64 (Int.sub x5 x4)) (1:Int))))]) none fun v=>some (v,(hp 3 [(oC [zI z2,Sl.v 1 s2]),(oC [zI z3,.int .u32 z4]),oC q2])))) (call_eq h12) (eC 2 (growD 1 8 n1 c1 1 2 q2 [(zI (wrapF .i64 (Int.add x6 (1:Int))))] [] (hp 4 [(oC [zI z2,Sl.v 1 s2]),(oC [zI z3,.int .u32 z4]),oC q2,(oC [(zI (wrapF .i64 (Int.add x6 (1:Int))))])])) (growD_eq h13) (eE))) ?_
     replace hm:=bb_inv hm;obtain ⟨h14,hm⟩:=hm
     refine .ghs (fr 53 [(1,(pt 0 0)),(4,pt 1 0),(6,(sc 2 0 1 (n1 + 1) (d2 (n1 + 1)))),(24,Sl.v 1 s1),(25,zI z0),(26,(zI (Int.ofNat k1)))]) (hp 3 [(oC [zI z2,Sl.v 1 s2]),(oC [zI z3,.int .u32 z4]),(oC (appL (dropL 0 q2) [(zI (wrapF .i64 (Int.add x6 (1:Int))))]))]) (.k [4] [] [.tmp 1 false,.tmp 4 false,.tmp 6 false] [1,4,6,24,25,26] ⟨trF h14,trivial⟩) ?_
     refine .rK ?_
     exact ⟨((n1 + 1),(d2 (n1 + 1)),s1,z0,(wrapF .i64 (Int.add (Int.ofNat k1) (1:Int))),z2,s2,z3,z4,(appL (dropL 0 q2) [(zI (wrapF .i64 (Int.add x6 (1:Int))))])),hm,(.k [2] [] [.tmp 1 false,.tmp 4 false,.tmp 6 false] [1,4,6,24,25,26] ⟨trF h14,trivial⟩)⟩
    ·refine .ifF (ilt z1 z0) (by kernel_rfl) h4 ?_
     refine .exit ?_
     exact ⟨(n1,c1,q2),hm,(.k [2] [] [.tmp 6 false] [6] ⟨trF h3,trivial⟩)⟩
def m16_1 (pu:PureF) (n n0 c0:Nat) (q1:LV):OV:=
 (bb (allL closed1 q1) (bb (an (Nat.ble (0 + n0 * 1) (len q1)) (allL closed1 (takeL (n0 * 1) (dropL 0 q1)))) (some (.tuple ⟨[(Sl.v 1 (Sl.mk n0 0 (takeL (n0 * 1) (dropL 0 q1)))),(.int .i64 (0:Int))]⟩)) none) none)
def m16_3 (pu:PureF) (n:Nat) (ih0:Nat→Nat→Int→Int→Sl→LV→OV) (n0 c0:Nat) (z0 z1:Int) (s0:Sl) (q1:LV):OV:=
 (bb (allL closed1 q1) (ih0 n0 c0 (wrapF .i64 (Int.add z0 (1:Int))) z1 s0 q1) none)
def m16_4 (pu:PureF) (n:Nat) (ih0:Nat→Nat→Int→Int→Sl→LV→OV) (n0 c0:Nat) (z0 z1 z2:Int) (s0:Sl) (q1:LV):OV:=
 (bb (growC 1 8 n0 c0 1 q1) (bb (allL closed1 (appL (dropL 0 q1) [.int .i64 z1])) (m16_3 pu n ih0 (n0 + 1) (2 * (n0 + 1) + bb false 1 0) z0 z2 s0 (appL (dropL 0 q1) [.int .i64 z1])) none) none)
def b16_5 (pu:PureF) (n:Nat) (ih0:Nat→Nat→Int→Int→Sl→LV→OV) (ih1:Nat→Nat→Int→Int→Int→Sl→LV→OV) (n0 c0:Nat) (z0 z1 z2:Int) (s0:Sl) (q1:LV):OV:=
 (oo (toN z0) none fun k1=>(bb (an (Nat.blt k1 (Sl.n s0)) true) (oo (nthL (Sl.cs s0) (k1 * 1)) none fun v0=>(oo (toI .i64 v0) none fun x0=>(oo (pu 64 [(.int .i64 (wrapF .i64 (Int.add x0 z1))),.int .i64 z2]) none fun v1=>(oo (toI .i64 v1) none fun x1=>(oo (pu 63 [(.agg ⟨[.int .i64 z2,Sl.v 1 s0]⟩),.int .i64 x1]) none fun v2=>(oo (vBool v2) none fun b0=>(bb (allL closed1 q1) (bb (nt b0) (ih1 n0 c0 (Int.ofNat k1) (wrapF .i64 (Int.add z1 (1:Int))) z2 s0 q1) (m16_4 pu n ih0 n0 c0 (Int.ofNat k1) z1 z2 s0 q1)) none))))))) none))
def l16_5 (pu:PureF) (n:Nat) (ih0:Nat→Nat→Int→Int→Sl→LV→OV) (w:Nat):Nat→Nat→Int→Int→Int→Sl→LV→OV:=
 Nat.rec (motive:=fun _=>Nat→Nat→Int→Int→Int→Sl→LV→OV) (fun _ _ _ _ _ _ _=>none) (fun _ ih1=>b16_5 pu n ih0 ih1) w
def b16_2 (pu:PureF) (n:Nat) (ih0:Nat→Nat→Int→Int→Sl→LV→OV) (n0 c0:Nat) (z0 z1:Int) (s0:Sl) (q1:LV):OV:=
 (bb (allL closed1 q1) (bb (ilt z0 (Int.ofNat (Sl.n s0))) (l16_5 pu n ih0 n n0 c0 z0 (1:Int) z1 s0 q1) (m16_1 pu n n0 c0 q1)) none)
def l16_2 (pu:PureF) (n w:Nat):Nat→Nat→Int→Int→Sl→LV→OV:=
 Nat.rec (motive:=fun _=>Nat→Nat→Int→Int→Sl→LV→OV) (fun _ _ _ _ _ _=>none) (fun _ ih0=>b16_2 pu n ih0) w
def m16_0 (pu:PureF) (n:Nat) (z0 z1:Int) (s0:Sl):OV:=
 (bb (nt (ieq z0 (0:Int))) (some (.tuple ⟨[(Sl.v 1 (Sl.mk 0 2 [])),.int .i64 z0]⟩)) (l16_2 pu n n 0 0 (0:Int) z1 s0 ([]:LV)))
def m16_6 (pu:PureF) (n:Nat) (z0:Int) (b0:Bool) (z1:Int) (s0:Sl):OV:=
 (bb b0 (m16_0 pu n (4:Int) z1 s0) (m16_0 pu n z0 z1 s0))
def m16_ (pu:PureF) (n:Nat) (x0:Int) (s0:Sl):OV:=
 (oo (pu 26 [(.agg ⟨[.int .i64 x0,Sl.v 1 s0]⟩)]) none fun v0=>(oo (toI .i64 v0) none fun x1=>(bb (ieq x1 (0:Int)) (m16_6 pu n x1 (ieq (Int.ofNat (Sl.n s0)) (0:Int)) x0 s0) (m16_6 pu n x1 false x0 s0))))
def m16 (pu:PureF) (n:Nat) (args:LV):OV:=
 (ll args none fun a0 args=>(ll args (oo (vAgg a0) none fun l0=>(ll l0 none fun v0 l0=>(ll l0 none fun v1 l0=>(ll l0 (oo (toI .i64 v0) none fun x0=>(oo (toSl 1 v1) none fun s0=>(m16_ pu n x0 s0))) fun _ _=>none)))) fun _ _=>none))
theorem w16_1 (pu:PureF) (n n0 c0:Nat) (q1:LV) {v:Value} (hm:m16_1 pu n n0 c0 q1 = some v):Run tt (callP tabs isP pu (inl pu)) 0 c16_36 (fr 48 [(5,sc 0 0 1 n0 c0)]) (hp 1 [oC q1]) (Fin tt 0 [.tmp 2,.tmp 3] v):=by
 unfold m16_1 at hm
 refine .then (.rK ?_)
 replace hm:=bb_inv hm;obtain ⟨h0,hm⟩:=hm
 refine .ghs (fr 48 [(2,sc 0 0 1 n0 c0),(3,(zI (0:Int)))]) (hp 1 [oC q1]) (.k [0] [] [.tmp 2 false] [2,3] ⟨trF h0,trivial⟩) ?_
 replace hm:=bb_inv hm;obtain ⟨h1,hm⟩:=hm
 refine .ghs (Fr.puts (fr 48 [(2,sc 0 0 1 n0 c0),(3,(zI (0:Int)))]) [(2,(Sl.v 1 (Sl.mk n0 0 (takeL (n0 * 1) (dropL 0 q1)))))]) (hp 1 [.dead]) (.freezeC 0 2 1 (an (Nat.ble (0 + n0 * 1) (len q1)) (allL closed1 (takeL (n0 * 1) (dropL 0 q1)))) (F1:=(Fr.puts (fr 48 [(2,sc 0 0 1 n0 c0),(3,(zI (0:Int)))]) [(2,(Sl.v 1 (Sl.mk n0 0 (takeL (n0 * 1) (dropL 0 q1)))))])) (H1:=(hp 1 [.dead])) (by kernel_rfl) (by kernel_rfl) h1 (GhS.id _ _)) ?_
 refine .ret ?_
 exact fin_ret (.tuple ⟨[(Sl.v 1 (Sl.mk n0 0 (takeL (n0 * 1) (dropL 0 q1)))),(zI (0:Int))]⟩) (by kernel_rfl) (by kernel_rfl) hm
theorem w16_0 (pu:PureF) (n:Nat) (z0 z1:Int) (s0:Sl) {v:Value} (hm:m16_0 pu n z0 z1 s0 = some v):Run tt (callP tabs isP pu (inl pu)) 0 c16_39 (fr 48 [(1,(pt 0 0)),(4,zI z0)]) (hp 1 [(oC [zI z1,Sl.v 1 s0])]) (Fin tt 0 [.tmp 2,.tmp 3] v):=by
 unfold m16_0 at hm
 refine .then ?_
 refine .then (.rK ?_)
 refine .ghs (fr 48 [(1,(pt 0 0)),(4,zI z0),(19,(zB (nt (ieq z0 (0:Int)))))]) (hp 1 [(oC [zI z1,Sl.v 1 s0])]) (.k0 [] [.tmp 1 false] [1,4,19]) ?_
 replace hm:=bb_cases hm;rcases hm with ⟨h0,hm⟩ | ⟨h0,hm⟩
 ·refine .ifT (nt (ieq z0 (0 : Int))) (by kernel_rfl) h0 ?_
  refine .then (.rK ?_)
  refine .ghs (fr 48 [(2,(.slice none 0 0)),(3,zI z0)]) (hp 0 []) (.k0 [] [] [2,3]) ?_
  refine .ghs (Fr.puts (fr 48 [(2,(.slice none 0 0)),(3,zI z0)]) [(2,(Sl.v 1 (Sl.mk 0 2 [])))]) (hp 0 []) (.freeze 0 2 1 (by kernel_rfl) (by kernel_rfl) (GhS.id _ _)) ?_
  refine .ret ?_
  exact fin_ret (.tuple ⟨[(Sl.v 1 (Sl.mk 0 2 [])),zI z0]⟩) (by kernel_rfl) (by kernel_rfl) hm
 ·refine .ifF (nt (ieq z0 (0 : Int))) (by kernel_rfl) h0 ?_
  refine .skip ?_
  refine .ghs (fr 48 [(1,(pt 0 0))]) (hp 1 [(oC [zI z1,Sl.v 1 s0])]) (.k0 [] [.tmp 1 false] [1]) ?_
  refine .then (.rK ?_)
  refine .ghs (fr 48 [(1,(pt 0 0)),(5,(.slice none 0 0))]) (hp 1 [(oC [zI z1,Sl.v 1 s0])]) (.k0 [] [.tmp 1 false] [1,5]) ?_
  refine .join (v:=v) (fun y:Nat×Nat×LV=>((fr 48 [(5,(sc 0 0 1 y.1 y.2.1))]),(hp 1 [(oC y.2.2)]))) (fun y=>m16_1 pu n y.1 y.2.1 y.2.2) ?_ ?_
  ·rintro ⟨n0, c0, q1⟩ hm
   exact w16_1 pu n n0 c0 q1 hm
  ·refine .then (.rK ?_)
   refine .ghs (fr 48 [(1,(pt 0 0)),(5,(.slice none 0 0)),(6,(zI (0:Int)))]) (hp 1 [(oC [zI z1,Sl.v 1 s0])]) (.k0 [] [.tmp 1 false] [1,5,6]) ?_
   refine .block ?_
   refine .loopM (v:=v) (fun y:Nat×Nat×Int×Int×Sl×LV=>((fr 48 [(1,(pt 0 0)),(5,(sc 1 0 1 y.1 y.2.1)),(6,(zI y.2.2.1))]),(hp 2 [(oC [(zI y.2.2.2.1),(Sl.v 1 y.2.2.2.2.1)]),(oC y.2.2.2.2.2)]))) (fun w y=>l16_2 pu n w y.1 y.2.1 y.2.2.1 y.2.2.2.1 y.2.2.2.2.1 y.2.2.2.2.2) n ⟨(0,0,(0:Int),z1,s0,([]:LV)),hm,(.thaw 5 1 (by kernel_rfl) (.k0 [] [.tmp 1 false,.tmp 5 false] [1,5,6]))⟩ (fun _=>rfl) ?_
   rintro w0 ⟨n1,c1,z2,z3,s1,q2⟩ hm
   replace hm:b16_2 pu n (l16_2 pu n w0) n1 c1 z2 z3 s1 q2 = some v:=hm
   unfold b16_2 at hm
   refine .then ?_
   refine .then (.rK ?_)
   replace hm:=bb_inv hm;obtain ⟨h1,hm⟩:=hm
   refine .ghs (fr 48 [(1,(pt 0 0)),(5,sc 1 0 1 n1 c1),(6,zI z2),(25,(zB (ilt z2 (Int.ofNat (Sl.n s1)))))]) (hp 2 [(oC [zI z3,Sl.v 1 s1]),oC q2]) (.k [1] [] [.tmp 1 false,.tmp 5 false] [1,5,6,25] ⟨trF h1,trivial⟩) ?_
   replace hm:=bb_cases hm;rcases hm with ⟨h2,hm⟩ | ⟨h2,hm⟩
   ·refine .ifT (ilt z2 (Int.ofNat (Sl.n s1))) (by kernel_rfl) h2 ?_
    refine .skip ?_
    refine .ghs (fr 48 [(1,(pt 0 0)),(5,sc 1 0 1 n1 c1),(6,zI z2)]) (hp 2 [(oC [zI z3,Sl.v 1 s1]),oC q2]) (.k [1] [] [.tmp 1 false,.tmp 5 false] [1,5,6] ⟨trF h1,trivial⟩) ?_
    refine .join (v:=v) (fun y:Nat×Nat×Int×Int×Sl×LV=>((fr 48 [(1,(pt 0 0)),(5,(sc 1 0 1 y.1 y.2.1)),(6,(zI y.2.2.1))]),(hp 2 [(oC [(zI y.2.2.2.1),(Sl.v 1 y.2.2.2.2.1)]),(oC y.2.2.2.2.2)]))) (fun y=>m16_3 pu n (l16_2 pu n w0) y.1 y.2.1 y.2.2.1 y.2.2.2.1 y.2.2.2.2.1 y.2.2.2.2.2) ?_ ?_
    ·rintro ⟨n2, c2, z4, z5, s2, q3⟩ hm
     unfold m16_3 at hm
     refine .rK ?_
     replace hm:=bb_inv hm;obtain ⟨h3,hm⟩:=hm
     exact ⟨(n2,c2,(wrapF .i64 (Int.add z4 (1:Int))),z5,s2,q3),hm,(.k [1] [] [.tmp 1 false,.tmp 5 false] [1,5,6] ⟨trF h3,trivial⟩)⟩
    ·refine .block ?_
     refine .then (.rK ?_)
     refine .ghs (fr 48 [(1,(pt 0 0)),(5,sc 1 0 1 n1 c1),(6,zI z2),(7,(zI (1:Int)))]) (hp 2 [(oC [zI z3,Sl.v 1 s1]),oC q2]) (.k [1] [] [.tmp 1 false,.tmp 5 false] [1,5,6,7] ⟨trF h1,trivial⟩) ?_
     refine .join (v:=v) (fun y:Nat×Nat×Int×Int×Int×Sl×LV=>((fr 48 [(1,(pt 0 0)),(5,(sc 1 0 1 y.1 y.2.1)),(6,(zI y.2.2.1)),(7,(zI y.2.2.2.1))]),(hp 2 [(oC [(zI y.2.2.2.2.1),(Sl.v 1 y.2.2.2.2.2.1)]),(oC y.2.2.2.2.2.2)]))) (fun y=>m16_4 pu n (l16_2 pu n w0) y.1 y.2.1 y.2.2.1 y.2.2.2.1 y.2.2.2.2.1 y.2.2.2.2.2.1 y.2.2.2.2.2.2) ?_ ?_
     ·rintro ⟨n3, c4, z6, z7, z8, s3, q4⟩ hm
      unfold m16_4 at hm
      replace hm:=bb_inv hm;obtain ⟨h4,hm⟩:=hm
      refine .reg (eC 3 (growD 1 8 n3 c4 1 1 q4 [zI z7] [] (hp 3 [(oC [zI z8,Sl.v 1 s3]),oC q4,(oC [zI z7])])) (growD_eq h4) (eE)) ?_
      replace hm:=bb_inv hm;obtain ⟨h5,hm⟩:=hm
      exact ⟨((n3 + 1),(d2 (n3 + 1)),z6,z8,s3,(appL (dropL 0 q4) [zI z7])),hm,(.k [3] [] [.tmp 1 false,.tmp 5 false] [1,5,6] ⟨trF h5,trivial⟩)⟩
     ·refine .block ?_
      refine .loopM (v:=v) (fun y:Nat×Nat×Int×Int×Int×Sl×LV=>((fr 48 [(1,(pt 0 0)),(5,(sc 1 0 1 y.1 y.2.1)),(6,(zI y.2.2.1)),(7,(zI y.2.2.2.1))]),(hp 2 [(oC [(zI y.2.2.2.2.1),(Sl.v 1 y.2.2.2.2.2.1)]),(oC y.2.2.2.2.2.2)]))) (fun w y=>l16_5 pu n (l16_2 pu n w0) w y.1 y.2.1 y.2.2.1 y.2.2.2.1 y.2.2.2.2.1 y.2.2.2.2.2.1 y.2.2.2.2.2.2) n ⟨(n1,c1,z2,(1:Int),z3,s1,q2),hm,(.k [1] [] [.tmp 1 false,.tmp 5 false] [1,5,6,7] ⟨trF h1,trivial⟩)⟩ (fun _=>rfl) ?_
      rintro w1 ⟨n4,c5,z9,z10,z11,s4,q5⟩ hm
      replace hm:b16_5 pu n (l16_2 pu n w0) (l16_5 pu n (l16_2 pu n w0) w1) n4 c5 z9 z10 z11 s4 q5 = some v:=hm
      unfold b16_5 at hm
      refine .then ?_
      refine .then ?_
      replace hm:=oo_inv hm;obtain ⟨k1,h6,hm⟩:=hm
      obtain rfl:=toN_some h6
      replace hm:=bb_inv hm;obtain ⟨h7,hm⟩:=hm
      replace hm:=oo_inv hm;obtain ⟨v0,h8,hm⟩:=hm
      replace hm:=inv_toI hm;obtain ⟨x0,rfl,hm⟩:=hm
      replace hm:=oo_inv hm;obtain ⟨v1,h9,hm⟩:=hm
      replace hm:=inv_toI hm;obtain ⟨x1,rfl,hm⟩:=hm
      replace hm:=oo_inv hm;obtain ⟨v2,h10,hm⟩:=hm
      replace hm:=inv_vBool hm;obtain ⟨b0,rfl,hm⟩:=hm
      refine .reg (eC 4 (keep (hp 2 [(oC [zI z11,Sl.v 1 s4]),oC q5]) (bb (an (Nat.blt k1 (Sl.n s4)) true) (some (fpV (k1 * 1) (Sl.cs s4))) none)) (keep_bb h7) (eD (keep (hp 2 [(oC [zI z11,Sl.v 1 s4]),oC q5]) (nthL (Sl.cs s4) (k1 * 1))) (keep_eq h8) (eC 4 ((oo (pu 64 [(zI (wrapF .i64 (Int.add x0 z10))),zI z11]) none fun v=>some (v,(hp 2 [(oC [zI z11,Sl.v 1 s4]),oC q5])))) (call_eq h9) (eD ((oo (pu 63 [(.agg ⟨[zI z11,Sl.v 1 s4]⟩),zI x1]) none fun v=>some (v,(hp 2 [(oC [zI z11,Sl.v 1 s4]),oC q5])))) (call_eq h10) (eE))))) ?_
      replace hm:=bb_inv hm;obtain ⟨h11,hm⟩:=hm
      refine .ghs (fr 48 [(1,(pt 0 0)),(5,sc 1 0 1 n4 c5),(6,(zI (Int.ofNat k1))),(7,zI z10),(40,(zB (nt b0)))]) (hp 2 [(oC [zI z11,Sl.v 1 s4]),oC q5]) (.k [1] [] [.tmp 1 false,.tmp 5 false] [1,5,6,7,40] ⟨trF h11,trivial⟩) ?_
      replace hm:=bb_cases hm;rcases hm with ⟨h12,hm⟩ | ⟨h12,hm⟩
      ·refine .ifT (nt b0) (by kernel_rfl) h12 ?_
       refine .skip ?_
       refine .ghs (fr 48 [(1,(pt 0 0)),(5,sc 1 0 1 n4 c5),(6,(zI (Int.ofNat k1))),(7,zI z10)]) (hp 2 [(oC [zI z11,Sl.v 1 s4]),oC q5]) (.k [1] [] [.tmp 1 false,.tmp 5 false] [1,5,6,7] ⟨trF h11,trivial⟩) ?_
       refine .block ?_
       refine .rK ?_
       exact ⟨(n4,c5,(Int.ofNat k1),(wrapF .i64 (Int.add z10 (1:Int))),z11,s4,q5),hm,(.k [1] [] [.tmp 1 false,.tmp 5 false] [1,5,6,7] ⟨trF h11,trivial⟩)⟩
      ·refine .ifF (nt b0) (by kernel_rfl) h12 ?_
       refine .exit ?_
       exact ⟨(n4,c5,(Int.ofNat k1),z10,z11,s4,q5),hm,(.k [1] [] [.tmp 1 false,.tmp 5 false] [1,5,6,7] ⟨trF h11,trivial⟩)⟩
   ·refine .ifF (ilt z2 (Int.ofNat (Sl.n s1))) (by kernel_rfl) h2 ?_
    refine .exit ?_
    exact ⟨(n1,c1,q2),hm,(.k [1] [] [.tmp 5 false] [5] ⟨trF h1,trivial⟩)⟩
theorem r16 {call:CallF} (pu:PureF) (n:Nat) (hcall:call = callP tabs isP pu (inl pu)) {args:LV} {v:Value} (hm:m16 pu n args = some v) (_:∀ x ∈ args,closed2 x = true):args.length≤48∧Run tt call 0 c16_42 (Fr.made 48 args) (pureHeap tabs) (Fin tt 0 [.tmp 2,.tmp 3] v):=by
 subst hcall
 unfold m16 at hm
 replace hm:=ll_uncons hm;obtain ⟨a0,args_0,rfl,hm⟩:=hm
 replace hm:=ll_end hm;obtain ⟨rfl,hm⟩:=hm
 replace hm:=inv_vAgg hm;obtain ⟨l0,rfl,hm⟩:=hm
 replace hm:=ll_uncons hm;obtain ⟨v0,l1946_0,rfl,hm⟩:=hm
 replace hm:=ll_uncons hm;obtain ⟨v1,l1946_1,rfl,hm⟩:=hm
 replace hm:=ll_end hm;obtain ⟨rfl,hm⟩:=hm
 replace hm:=inv_toI hm;obtain ⟨x0,rfl,hm⟩:=hm
 replace hm:=inv_toSl hm;obtain ⟨s0,rfl,hm⟩:=hm
 unfold m16_ at hm
 refine ⟨by simp,?_⟩
 refine .same (F':=(fr 48 [(0,(.agg ⟨[zI x0,Sl.v 1 s0]⟩))])) (H':=(hp 0 [])) (by kernel_rfl) (by kernel_rfl) ?_
 refine .then (.rK ?_)
 refine .ghs (fr 48 [(1,(pt 0 0))]) (hp 1 [(oC [zI x0,Sl.v 1 s0])]) (.k0 [] [.tmp 1 false] [1]) ?_
 refine .then ?_
 replace hm:=oo_inv hm;obtain ⟨v2,h0,hm⟩:=hm
 replace hm:=inv_toI hm;obtain ⟨x1,rfl,hm⟩:=hm
 refine .reg (eC 1 ((oo (pu 26 [(.agg ⟨[zI x0,Sl.v 1 s0]⟩)]) none fun v=>some (v,(hp 1 [(oC [zI x0,Sl.v 1 s0])])))) (call_eq h0) (eE)) ?_
 refine .ghs (fr 48 [(1,(pt 0 0)),(4,zI x1)]) (hp 1 [(oC [zI x0,Sl.v 1 s0])]) (.k0 [] [.tmp 1 false] [1,4]) ?_
 refine .join (v:=v) (fun y:Int×Int×Sl=>((fr 48 [(1,(pt 0 0)),(4,(zI y.1))]),(hp 1 [(oC [(zI y.2.1),(Sl.v 1 y.2.2)])]))) (fun y=>m16_0 pu n y.1 y.2.1 y.2.2) ?_ ?_
 ·rintro ⟨z0, z1, s1⟩ hm
  exact w16_0 pu n z0 z1 s1 hm
 ·refine .join (v := v) (fun y : Int × Bool × Int × Sl => ((fr 48 [(1, (pt 0 0)), (4, (zI y.1)), (17, (zB y.2.1))]), (hp 1 [(oC [(zI y.2.2.1), (Sl.v 1 y.2.2.2)])]))) (fun y => m16_6 pu n y.1 y.2.1 y.2.2.1 y.2.2.2) ?_ ?_
  ·rintro ⟨z2, b0, z3, s2⟩ hm
   unfold m16_6 at hm
   replace hm:=bb_cases hm;rcases hm with ⟨h1,hm⟩ | ⟨h1,hm⟩
   ·refine .ifT b0 (by kernel_rfl) h1 ?_
    refine .rK ?_
    exact ⟨((4:Int),z3,s2),hm,(.k0 [] [.tmp 1 false] [1,4])⟩
   ·refine .ifF b0 (by kernel_rfl) h1 ?_
    refine .skip ?_
    exact ⟨(z2,z3,s2),hm,(.k0 [] [.tmp 1 false] [1,4])⟩
  ·replace hm := bb_cases hm; rcases hm with ⟨h2, hm⟩ | ⟨h2, hm⟩
   ·refine .reg (eC 1 (some ((zB (ieq x1 (0 : Int))), (hp 1 [(oC [zI x0, Sl.v 1 s0])]))) (show _ = some ((zB true), _) from (by rw [h2])) (eE)) ?_
    exact ⟨(x1,(ieq (Int.ofNat (Sl.n s0)) (0:Int)),x0,s0),hm,(.k0 [] [.tmp 1 false] [1,4,17])⟩
   ·refine .reg (eC 1 (some ((zB (ieq x1 (0 : Int))), (hp 1 [(oC [zI x0, Sl.v 1 s0])]))) (show _ = some ((zB false), _) from (by rw [h2])) (eE)) ?_
    exact ⟨(x1,false,x0,s0),hm,(.k0 [] [.tmp 1 false] [1,4,17])⟩

def m17_ (pu:PureF) (n:Nat) (x0:Int) (s0:Sl) (x1:Int):OV:=
 (oo (pu 61 [(.agg ⟨[.int .i64 x0,Sl.v 1 s0]⟩)]) none fun v0=>(oo (vTup v0) none fun l0=>(ll l0 none fun v1 l0=>(ll l0 none fun v2 l0=>(ll l0 (oo (vAgg v1) none fun l1=>(ll l1 none fun v3 l1=>(ll l1 none fun v4 l1=>(ll l1 (oo (toI .i64 v3) none fun x2=>(oo (toI .u32 v4) none fun x3=>(oo (toI .i64 v2) none fun x4=>(bb (nt (ieq x4 (0:Int))) (some (.tuple ⟨[(.agg ⟨[(.int .i64 (0:Int)),(Sl.v 1 (Sl.mk 0 2 []))]⟩),.int .i64 x4]⟩)) (oo (pu 62 [(.agg ⟨[.int .i64 x2,.int .u32 x3]⟩),.int .i64 x1]) none fun v5=>(oo (toI .i64 v5) none fun x5=>(oo (pu 65 [(.agg ⟨[.int .i64 x2,.int .u32 x3]⟩),.int .i64 x5]) none fun v6=>(oo (vAgg v6) none fun l2=>(ll l2 none fun v7 l2=>(ll l2 none fun v8 l2=>(ll l2 (oo (toI .i64 v7) none fun x6=>(oo (toI .u32 v8) none fun x7=>(oo (pu 66 [(.agg ⟨[.int .i64 x6,.int .u32 x7]⟩)]) none fun v9=>(oo (vAgg v9) none fun l3=>(ll l3 none fun v10 l3=>(ll l3 none fun v11 l3=>(ll l3 (oo (toI .i64 v10) none fun x8=>(oo (toSl 1 v11) none fun s1=>(some (.tuple ⟨[(.agg ⟨[.int .i64 x8,Sl.v 1 s1]⟩),(.int .i64 (0:Int))]⟩)))) fun _ _=>none))))))) fun _ _=>none))))))))))) fun _ _=>none)))) fun _ _=>none)))))
def m17 (pu:PureF) (n:Nat) (args:LV):OV:=
 (ll args none fun a0 args=>(ll args none fun a1 args=>(ll args (oo (vAgg a0) none fun l0=>(ll l0 none fun v0 l0=>(ll l0 none fun v1 l0=>(ll l0 (oo (toI .i64 v0) none fun x0=>(oo (toSl 1 v1) none fun s0=>(oo (toI .i64 a1) none fun x1=>(m17_ pu n x0 s0 x1)))) fun _ _=>none)))) fun _ _=>none)))
theorem r17 {call:CallF} (pu:PureF) (n:Nat) (hcall:call = callP tabs isP pu (inl pu)) {args:LV} {v:Value} (hm:m17 pu n args = some v) (_:∀ x ∈ args,closed2 x = true):args.length≤23∧Run tt call 0 c17_11 (Fr.made 23 args) (pureHeap tabs) (Fin tt 0 [.cell 4 24,.tmp 5] v):=by
 subst hcall
 unfold m17 at hm
 replace hm:=ll_uncons hm;obtain ⟨a0,args_0,rfl,hm⟩:=hm
 replace hm:=ll_uncons hm;obtain ⟨a1,args_1,rfl,hm⟩:=hm
 replace hm:=ll_end hm;obtain ⟨rfl,hm⟩:=hm
 replace hm:=inv_vAgg hm;obtain ⟨l0,rfl,hm⟩:=hm
 replace hm:=ll_uncons hm;obtain ⟨v0,l2371_0,rfl,hm⟩:=hm
 replace hm:=ll_uncons hm;obtain ⟨v1,l2371_1,rfl,hm⟩:=hm
 replace hm:=ll_end hm;obtain ⟨rfl,hm⟩:=hm
 replace hm:=inv_toI hm;obtain ⟨x0,rfl,hm⟩:=hm
 replace hm:=inv_toSl hm;obtain ⟨s0,rfl,hm⟩:=hm
 replace hm:=inv_toI hm;obtain ⟨x1,rfl,hm⟩:=hm
 unfold m17_ at hm
 refine ⟨by simp,?_⟩
 refine .same (F':=(fr 23 [(0,(.agg ⟨[zI x0,Sl.v 1 s0]⟩)),(1,zI x1)])) (H':=(hp 0 [])) (by kernel_rfl) (by kernel_rfl) ?_
 refine .then (.rK ?_)
 refine .ghs (fr 23 [(1,zI x1),(2,(pt 0 0)),(4,pt 1 0)]) (hp 2 [(oC [zI x0,Sl.v 1 s0]),(oC [(zI (0:Int)),(.slice none 0 0)])]) (.k0 [] [.tmp 2 false,.tmp 4 false] [1,2,4]) ?_
 refine .then ?_
 replace hm:=oo_inv hm;obtain ⟨v2,h0,hm⟩:=hm
 replace hm:=inv_vTup hm;obtain ⟨l1,rfl,hm⟩:=hm
 replace hm:=ll_uncons hm;obtain ⟨v3,l2399_0,rfl,hm⟩:=hm
 replace hm:=ll_uncons hm;obtain ⟨v4,l2399_1,rfl,hm⟩:=hm
 replace hm:=ll_end hm;obtain ⟨rfl,hm⟩:=hm
 replace hm:=inv_vAgg hm;obtain ⟨l2,rfl,hm⟩:=hm
 replace hm:=ll_uncons hm;obtain ⟨v5,l2403_0,rfl,hm⟩:=hm
 replace hm:=ll_uncons hm;obtain ⟨v6,l2403_1,rfl,hm⟩:=hm
 replace hm:=ll_end hm;obtain ⟨rfl,hm⟩:=hm
 replace hm:=inv_toI hm;obtain ⟨x2,rfl,hm⟩:=hm
 replace hm:=inv_toI hm;obtain ⟨x3,rfl,hm⟩:=hm
 replace hm:=inv_toI hm;obtain ⟨x4,rfl,hm⟩:=hm
 refine .reg (eC 1 ((oo (pu 61 [(.agg ⟨[zI x0,Sl.v 1 s0]⟩)]) none fun v=>some (v,(hp 2 [(oC [zI x0,Sl.v 1 s0]),(oC [(zI (0:Int)),(.slice none 0 0)])])))) (call_eq h0) (eE)) ?_
 refine .ghs (fr 23 [(1,zI x1),(4,(pt 0 0)),(6,pt 1 0),(7,zI x4)]) (hp 2 [(oC [(zI (0:Int)),(.slice none 0 0)]),(oC [zI x2,.int .u32 x3])]) (.k0 [] [.tmp 4 false,.tmp 6 false] [1,4,6,7]) ?_
 refine .then ?_
 refine .then (.rK ?_)
 refine .ghs (fr 23 [(1,zI x1),(4,(pt 0 0)),(6,pt 1 0),(7,zI x4),(14,(zB (nt (ieq x4 (0:Int)))))]) (hp 2 [(oC [(zI (0:Int)),(.slice none 0 0)]),(oC [zI x2,.int .u32 x3])]) (.k0 [] [.tmp 4 false,.tmp 6 false] [1,4,6,7,14]) ?_
 replace hm:=bb_cases hm;rcases hm with ⟨h1,hm⟩ | ⟨h1,hm⟩
 ·refine .ifT (nt (ieq x4 (0 : Int))) (by kernel_rfl) h1 ?_
  refine .then (.rK ?_)
  refine .ghs (fr 23 [(4,(pt 0 0)),(5,zI x4)]) (hp 1 [(oC [(zI (0:Int)),(.slice none 0 0)])]) (.k0 [] [.tmp 4 false] [4,5]) ?_
  refine .ret ?_
  exact finT_ret (.tuple ⟨[(.agg ⟨[(zI (0:Int)),(.slice none 0 0)]⟩),zI x4]⟩) (.tuple ⟨[(.agg ⟨[(zI (0:Int)),(Sl.v 1 (Sl.mk 0 2 []))]⟩),zI x4]⟩) (by kernel_rfl) (Tell.tup (.cons (Tell.agg (.cons (Tell.refl _ _ _) (.cons (.weak (Weak.nil 1 2)) (TellL.nil _)))) (.cons (Tell.refl _ _ _) (TellL.nil _)))) (by kernel_rfl) hm
 ·refine .ifF (nt (ieq x4 (0 : Int))) (by kernel_rfl) h1 ?_
  refine .skip ?_
  refine .ghs (fr 23 [(1,zI x1),(4,(pt 0 0)),(6,pt 1 0)]) (hp 2 [(oC [(zI (0:Int)),(.slice none 0 0)]),(oC [zI x2,.int .u32 x3])]) (.k0 [] [.tmp 4 false,.tmp 6 false] [1,4,6]) ?_
  refine .then ?_
  replace hm:=oo_inv hm;obtain ⟨v7,h2,hm⟩:=hm
  replace hm:=inv_toI hm;obtain ⟨x5,rfl,hm⟩:=hm
  replace hm:=oo_inv hm;obtain ⟨v8,h3,hm⟩:=hm
  replace hm:=inv_vAgg hm;obtain ⟨l3,rfl,hm⟩:=hm
  replace hm:=ll_uncons hm;obtain ⟨v9,l2444_0,rfl,hm⟩:=hm
  replace hm:=ll_uncons hm;obtain ⟨v10,l2444_1,rfl,hm⟩:=hm
  replace hm:=ll_end hm;obtain ⟨rfl,hm⟩:=hm
  replace hm:=inv_toI hm;obtain ⟨x6,rfl,hm⟩:=hm
  replace hm:=inv_toI hm;obtain ⟨x7,rfl,hm⟩:=hm
  replace hm:=oo_inv hm;obtain ⟨v11,h4,hm⟩:=hm
  replace hm:=inv_vAgg hm;obtain ⟨l4,rfl,hm⟩:=hm
  replace hm:=ll_uncons hm;obtain ⟨v12,l2454_0,rfl,hm⟩:=hm
  replace hm:=ll_uncons hm;obtain ⟨v13,l2454_1,rfl,hm⟩:=hm
  replace hm:=ll_end hm;obtain ⟨rfl,hm⟩:=hm
  replace hm:=inv_toI hm;obtain ⟨x8,rfl,hm⟩:=hm
  replace hm:=inv_toSl hm;obtain ⟨s1,rfl,hm⟩:=hm
  refine .reg (eC 3 ((oo (pu 62 [(.agg ⟨[zI x2,.int .u32 x3]⟩),zI x1]) none fun v=>some (v,(hp 2 [(oC [(zI (0:Int)),(.slice none 0 0)]),(oC [zI x2,.int .u32 x3])])))) (call_eq h2) (eD ((oo (pu 65 [(.agg ⟨[zI x2,.int .u32 x3]⟩),zI x5]) none fun v=>some (v,(hp 2 [(oC [(zI (0:Int)),(.slice none 0 0)]),(oC [zI x2,.int .u32 x3])])))) (call_eq h3) (eD ((oo (pu 66 [(.agg ⟨[zI x6,.int .u32 x7]⟩)]) none fun v=>some (v,(hp 2 [(oC [(zI (0:Int)),(.slice none 0 0)]),(oC [zI x2,.int .u32 x3])])))) (call_eq h4) (eE)))) ?_
  refine .ghs (fr 23 [(4,(pt 0 0)),(5,(zI (0:Int)))]) (hp 1 [(oC [zI x8,Sl.v 1 s1])]) (.k0 [] [.tmp 4 false] [4,5]) ?_
  refine .ret ?_
  exact fin_ret (.tuple ⟨[(.agg ⟨[zI x8,Sl.v 1 s1]⟩),(zI (0:Int))]⟩) (by kernel_rfl) (by kernel_rfl) hm
end
end Go.RgEM
