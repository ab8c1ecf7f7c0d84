/- Made from wip. -/
import Derived.Test.YtenlanbdolnhhaaRgFMod0x

set_option maxRecDepth 100000
set_option maxHeartbeats 20000000
set_option linter.unusedVariables false
namespace Go.RgFM
open Go.Sp Go.RgF
noncomputable section
def m23_0 (pu:PureF) (n:Nat):OV:=
 (some (.bool true))
def b23_1 (pu:PureF) (n:Nat) (ih0:Sl→Sl→Int→OV) (s0 s1:Sl) (z0:Int):OV:=
 (bb (ilt z0 (Int.ofNat (Sl.n s0))) (oo (toN z0) none fun k1=>(bb (an (Nat.blt k1 (Sl.n s0)) true) (oo (nthL (Sl.cs s0) (k1 * 1)) none fun v0=>(oo (toI .i64 v0) none fun x0=>(bb (an (Nat.blt k1 (Sl.n s1)) true) (oo (nthL (Sl.cs s1) (k1 * 1)) none fun v1=>(oo (toI .i64 v1) none fun x1=>(bb (nt (ieq x0 x1)) (some (.bool false)) (ih0 s0 s1 (wrapF .i64 (Int.add (Int.ofNat k1) (1:Int))))))) none))) none)) (m23_0 pu n))
def l23_1 (pu:PureF) (n w:Nat):Sl→Sl→Int→OV:=
 Nat.rec (motive:=fun _=>Sl→Sl→Int→OV) (fun _ _ _=>none) (fun _ ih0=>b23_1 pu n ih0) w
def m23_ (pu:PureF) (n:Nat) (s0 s1:Sl):OV:=
 (bb (nt (ieq (Int.ofNat (Sl.n s0)) (Int.ofNat (Sl.n s1)))) (some (.bool false)) (l23_1 pu n n s0 s1 (0:Int)))
def m23 (pu:PureF) (n:Nat) (args:LV):OV:=
 (ll args none fun a0 args=>(ll args none fun a1 args=>(ll args (oo (toSl 1 a0) none fun s0=>(oo (toSl 1 a1) none fun s1=>(m23_ pu n s0 s1))) fun _ _=>none)))
theorem w23_0 (pu:PureF) (n:Nat) {v:Value} (hm:m23_0 pu n = some v):Run tt (callP tabs isP pu (inl pu)) 0 c23_23 (fr 26 []) (hp 0 []) (Fin tt 0 [.tmp 4] v):=by
 unfold m23_0 at hm
 refine .then (.rK ?_)
 refine .ghs (fr 26 [(4,zB true)]) (hp 0 []) (.k0 [] [] [4]) ?_
 refine .ret ?_
 exact fin_ret (zB true) (by kernel_rfl) (by kernel_rfl) hm
theorem r23 {call:CallF} (pu:PureF) (n:Nat) (hcall:call = callP tabs isP pu (inl pu)) {args:LV} {v:Value} (hm:m23 pu n args = some v) (_:∀ x ∈ args,closed2 x = true):args.length≤26∧Run tt call 0 c23_26 (Fr.made 26 args) (pureHeap tabs) (Fin tt 0 [.tmp 4] v):=by
 subst hcall
 unfold m23 at hm
 replace hm:=ll_uncons hm;obtain ⟨a0,args_0,rfl,hm⟩:=hm
 replace hm:=ll_uncons hm;obtain ⟨a1,args_1,rfl,hm⟩:=hm
 replace hm:=ll_end hm;obtain ⟨rfl,hm⟩:=hm
 replace hm:=inv_toSl hm;obtain ⟨s0,rfl,hm⟩:=hm
 replace hm:=inv_toSl hm;obtain ⟨s1,rfl,hm⟩:=hm
 unfold m23_ at hm
 refine ⟨by simp,?_⟩
 refine .same (F':=(fr 26 [(0,Sl.v 1 s0),(1,Sl.v 1 s1)])) (H':=(hp 0 [])) (by kernel_rfl) (by kernel_rfl) ?_
 refine .then (.rK ?_)
 refine .ghs (fr 26 [(0,Sl.v 1 s0),(1,Sl.v 1 s1)]) (hp 0 []) (.k0 [] [] [0,1]) ?_
 refine .then ?_
 refine .then (.rK ?_)
 refine .ghs (fr 26 [(0,Sl.v 1 s0),(1,Sl.v 1 s1),(10,(zB (nt (ieq (Int.ofNat (Sl.n s0)) (Int.ofNat (Sl.n s1))))))]) (hp 0 []) (.k0 [] [] [0,1,10]) ?_
 replace hm:=bb_cases hm;rcases hm with ⟨h0,hm⟩ | ⟨h0,hm⟩
 ·refine .ifT (nt (ieq (Int.ofNat (Sl.n s0)) (Int.ofNat (Sl.n s1)))) (by kernel_rfl) h0 ?_
  refine .then (.rK ?_)
  refine .ghs (fr 26 [(4,zB false)]) (hp 0 []) (.k0 [] [] [4]) ?_
  refine .ret ?_
  exact fin_ret (zB false) (by kernel_rfl) (by kernel_rfl) hm
 ·refine .ifF (nt (ieq (Int.ofNat (Sl.n s0)) (Int.ofNat (Sl.n s1)))) (by kernel_rfl) h0 ?_
  refine .skip ?_
  refine .ghs (fr 26 [(0,Sl.v 1 s0),(1,Sl.v 1 s1)]) (hp 0 []) (.k0 [] [] [0,1]) ?_
  refine .join (v:=v) (fun y:Unit=>((fr 26 []),(hp 0 []))) (fun y=>m23_0 pu n) ?_ ?_
  ·rintro _ hm
   exact w23_0 pu n hm
  ·refine .then (.rK ?_)
   refine .ghs (fr 26 [(0,Sl.v 1 s0),(1,Sl.v 1 s1),(5,(zI (0:Int)))]) (hp 0 []) (.k0 [] [] [0,1,5]) ?_
   refine .block ?_
   refine .loopM (v:=v) (fun y:Sl×Sl×Int=>((fr 26 [(0,(Sl.v 1 y.1)),(1,(Sl.v 1 y.2.1)),(5,(zI y.2.2))]),(hp 0 []))) (fun w y=>l23_1 pu n w y.1 y.2.1 y.2.2) n ⟨(s0,s1,(0:Int)),hm,(.k0 [] [] [0,1,5])⟩ (fun _=>rfl) ?_
   rintro w0 ⟨s2,s3,z0⟩ hm
   replace hm:b23_1 pu n (l23_1 pu n w0) s2 s3 z0 = some v:=hm
   unfold b23_1 at hm
   refine .then ?_
   refine .then (.rK ?_)
   refine .ghs (fr 26 [(0,Sl.v 1 s2),(1,Sl.v 1 s3),(5,zI z0),(14,(zB (ilt z0 (Int.ofNat (Sl.n s2)))))]) (hp 0 []) (.k0 [] [] [0,1,5,14]) ?_
   replace hm:=bb_cases hm;rcases hm with ⟨h1,hm⟩ | ⟨h1,hm⟩
   ·refine .ifT (ilt z0 (Int.ofNat (Sl.n s2))) (by kernel_rfl) h1 ?_
    refine .skip ?_
    refine .ghs (fr 26 [(0,Sl.v 1 s2),(1,Sl.v 1 s3),(5,zI z0)]) (hp 0 []) (.k0 [] [] [0,1,5]) ?_
    refine .then ?_
    refine .block ?_
    refine .then ?_
    replace hm:=oo_inv hm;obtain ⟨k1,h2,hm⟩:=hm
    obtain rfl:=toN_some h2
    replace hm:=bb_inv hm;obtain ⟨h3,hm⟩:=hm
    replace hm:=oo_inv hm;obtain ⟨v0,h4,hm⟩:=hm
    replace hm:=inv_toI hm;obtain ⟨x0,rfl,hm⟩:=hm
    replace hm:=bb_inv hm;obtain ⟨h5,hm⟩:=hm
    replace hm:=oo_inv hm;obtain ⟨v1,h6,hm⟩:=hm
    replace hm:=inv_toI hm;obtain ⟨x1,rfl,hm⟩:=hm
    refine .reg (eC 2 (keep (hp 0 []) (bb (an (Nat.blt k1 (Sl.n s2)) true) (some (fpV (k1 * 1) (Sl.cs s2))) none)) (keep_bb h3) (eD (keep (hp 0 []) (nthL (Sl.cs s2) (k1 * 1))) (keep_eq h4) (eC 2 (keep (hp 0 []) (bb (an (Nat.blt k1 (Sl.n s3)) true) (some (fpV (k1 * 1) (Sl.cs s3))) none)) (keep_bb h5) (eD (keep (hp 0 []) (nthL (Sl.cs s3) (k1 * 1))) (keep_eq h6) (eE))))) ?_
    refine .ghs (fr 26 [(0,Sl.v 1 s2),(1,Sl.v 1 s3),(5,(zI (Int.ofNat k1))),(25,(zB (nt (ieq x0 x1))))]) (hp 0 []) (.k0 [] [] [0,1,5,25]) ?_
    replace hm:=bb_cases hm;rcases hm with ⟨h7,hm⟩ | ⟨h7,hm⟩
    ·refine .ifT (nt (ieq x0 x1)) (by kernel_rfl) h7 ?_
     refine .then (.rK ?_)
     refine .ghs (fr 26 [(4,zB false)]) (hp 0 []) (.k0 [] [] [4]) ?_
     refine .ret ?_
     exact fin_ret (zB false) (by kernel_rfl) (by kernel_rfl) hm
    ·refine .ifF (nt (ieq x0 x1)) (by kernel_rfl) h7 ?_
     refine .skip ?_
     refine .ghs (fr 26 [(0,Sl.v 1 s2),(1,Sl.v 1 s3),(5,(zI (Int.ofNat k1)))]) (hp 0 []) (.k0 [] [] [0,1,5]) ?_
     refine .rK ?_
     exact ⟨(s2,s3,(wrapF .i64 (Int.add (Int.ofNat k1) (1:Int)))),hm,(.k0 [] [] [0,1,5])⟩
   ·refine .ifF (ilt z0 (Int.ofNat (Sl.n s2))) (by kernel_rfl) h1 ?_
    refine .exit ?_
    exact ⟨(),hm,(.k0 [] [] [])⟩
def m24_0 (pu:PureF) (n:Nat) (b0:Bool):OV:=
 (some (.bool b0))
def m24_ (pu:PureF) (n:Nat) (x0:Int) (s0:Sl) (x1:Int) (s1:Sl):OV:=
 (bb (ieq x0 x1) (oo (pu 23 [Sl.v 1 s0,Sl.v 1 s1]) none fun v0=>(oo (vBool v0) none fun b0=>(m24_0 pu n b0))) (m24_0 pu n false))
def m24 (pu:PureF) (n:Nat) (args:LV):OV:=
 (ll args none fun a0 args=>(ll args none fun a1 args=>(ll args (oo (vAgg a0) none fun l0=>(ll l0 none fun v0 l0=>(ll l0 none fun v1 l0=>(ll l0 (oo (toI .i64 v0) none fun x0=>(oo (toSl 1 v1) none fun s0=>(oo (vAgg a1) none fun l1=>(ll l1 none fun v2 l1=>(ll l1 none fun v3 l1=>(ll l1 (oo (toI .i64 v2) none fun x1=>(oo (toSl 1 v3) none fun s1=>(m24_ pu n x0 s0 x1 s1))) fun _ _=>none)))))) fun _ _=>none)))) fun _ _=>none)))
theorem w24_0 (pu:PureF) (n:Nat) (b0:Bool) {v:Value} (hm:m24_0 pu n b0 = some v):Run tt (callP tabs isP pu (inl pu)) 0 .ret (fr 17 [(4,zB b0)]) (hp 0 []) (Fin tt 0 [.tmp 4] v):=by
 unfold m24_0 at hm
 refine .ret ?_
 exact fin_ret (zB b0) (by kernel_rfl) (by kernel_rfl) hm
theorem r24 {call:CallF} (pu:PureF) (n:Nat) (hcall:call = callP tabs isP pu (inl pu)) {args:LV} {v:Value} (hm:m24 pu n args = some v) (_:∀ x ∈ args,closed2 x = true):args.length≤17∧Run tt call 0 c24_3 (Fr.made 17 args) (pureHeap tabs) (Fin tt 0 [.tmp 4] v):=by
 subst hcall
 unfold m24 at hm
 replace hm:=ll_uncons hm;obtain ⟨a0,args_0,rfl,hm⟩:=hm
 replace hm:=ll_uncons hm;obtain ⟨a1,args_1,rfl,hm⟩:=hm
 replace hm:=ll_end hm;obtain ⟨rfl,hm⟩:=hm
 replace hm:=inv_vAgg hm;obtain ⟨l0,rfl,hm⟩:=hm
 replace hm:=ll_uncons hm;obtain ⟨v0,l1355_0,rfl,hm⟩:=hm
 replace hm:=ll_uncons hm;obtain ⟨v1,l1355_1,rfl,hm⟩:=hm
 replace hm:=ll_end hm;obtain ⟨rfl,hm⟩:=hm
 replace hm:=inv_toI hm;obtain ⟨x0,rfl,hm⟩:=hm
 replace hm:=inv_toSl hm;obtain ⟨s0,rfl,hm⟩:=hm
 replace hm:=inv_vAgg hm;obtain ⟨l1,rfl,hm⟩:=hm
 replace hm:=ll_uncons hm;obtain ⟨v2,l1363_0,rfl,hm⟩:=hm
 replace hm:=ll_uncons hm;obtain ⟨v3,l1363_1,rfl,hm⟩:=hm
 replace hm:=ll_end hm;obtain ⟨rfl,hm⟩:=hm
 replace hm:=inv_toI hm;obtain ⟨x1,rfl,hm⟩:=hm
 replace hm:=inv_toSl hm;obtain ⟨s1,rfl,hm⟩:=hm
 unfold m24_ at hm
 refine ⟨by simp,?_⟩
 refine .same (F':=(fr 17 [(0,(.agg ⟨[zI x0,Sl.v 1 s0]⟩)),(1,(.agg ⟨[zI x1,Sl.v 1 s1]⟩))])) (H':=(hp 0 [])) (by kernel_rfl) (by kernel_rfl) ?_
 refine .then (.rK ?_)
 refine .ghs (fr 17 [(2,(pt 0 0)),(3,pt 1 0)]) (hp 2 [(oC [zI x0,Sl.v 1 s0]),(oC [zI x1,Sl.v 1 s1])]) (.k0 [] [.tmp 2 false,.tmp 3 false] [2,3]) ?_
 refine .join (v:=v) (fun y:Bool=>((fr 17 [(4,zB y)]),(hp 0 []))) (fun y=>m24_0 pu n y) ?_ ?_
 ·rintro b0 hm
  exact w24_0 pu n b0 hm
 ·replace hm := bb_cases hm; rcases hm with ⟨h0, hm⟩ | ⟨h0, hm⟩
  ·replace hm := oo_inv hm; obtain ⟨v4, h1, hm⟩ := hm
   replace hm:=inv_vBool hm;obtain ⟨b1,rfl,hm⟩:=hm
   refine .reg (eC 4 (some ((zB (ieq x0 x1)),(hp 2 [(oC [zI x0,Sl.v 1 s0]),(oC [zI x1,Sl.v 1 s1])]))) (show _ = some ((zB true),_) from (by rw [h0])) (eC 5 ((oo (pu 23 [Sl.v 1 s0,Sl.v 1 s1]) none fun v=>some (v,(hp 2 [(oC [zI x0,Sl.v 1 s0]),(oC [zI x1,Sl.v 1 s1])])))) (call_eq h1) (eE))) ?_
   exact ⟨b1,hm,(.k0 [] [] [4])⟩
  ·refine .reg (eC 4 (some ((zB (ieq x0 x1)), (hp 2 [(oC [zI x0, Sl.v 1 s0]), (oC [zI x1, Sl.v 1 s1])]))) (show _ = some ((zB false), _) from (by rw [h0])) (eE)) ?_
   exact ⟨false,hm,(.k0 [] [] [4])⟩
def m25_1 (pu:PureF) (n:Nat):OV:=
 (some (.int .i64 (0:Int)))
def m25_3 (pu:PureF) (n:Nat) (ih0:Int→Sl→Int→Int→Int→Sl→OV) (z0 z1:Int) (s0:Sl) (z2 z3:Int) (b0:Bool) (z4:Int) (s1:Sl):OV:=
 (bb b0 (some (.int .i64 (2:Int))) (bb (nt (ilt z0 z1)) (some (.int .i64 (7:Int))) (ih0 z1 s0 z2 (wrapF .i64 (Int.add z3 (1:Int))) z4 s1)))
def b25_2 (pu:PureF) (n:Nat) (ih0:Int→Sl→Int→Int→Int→Sl→OV) (z0:Int) (s0:Sl) (z1 z2 z3:Int) (s1:Sl):OV:=
 (bb (ilt z2 z1) (oo (toN z2) none fun k1=>(bb (an (Nat.blt k1 (Sl.n s0)) true) (oo (nthL (Sl.cs s0) (k1 * 1)) none fun v0=>(oo (toI .i64 v0) none fun x0=>(bb (ilt x0 (0:Int)) (m25_3 pu n ih0 z0 x0 s0 z1 (Int.ofNat k1) true z3 s1) (m25_3 pu n ih0 z0 x0 s0 z1 (Int.ofNat k1) (nt (ilt x0 z3)) z3 s1)))) none)) (m25_1 pu n))
def l25_2 (pu:PureF) (n w:Nat):Int→Sl→Int→Int→Int→Sl→OV:=
 Nat.rec (motive:=fun _=>Int→Sl→Int→Int→Int→Sl→OV) (fun _ _ _ _ _ _=>none) (fun _ ih0=>b25_2 pu n ih0) w
def m25_0 (pu:PureF) (n:Nat) (b0:Bool) (z0:Int) (s0:Sl):OV:=
 (bb b0 (some (.int .i64 (1:Int))) (bb (ilt (6:Int) (Int.ofNat (Sl.n s0))) (some (.int .i64 (3:Int))) (l25_2 pu n n (-1:Int) s0 (Int.ofNat (Sl.n s0)) (0:Int) z0 s0)))
def m25_ (pu:PureF) (n:Nat) (x0:Int) (s0:Sl):OV:=
 (bb (ilt x0 (1:Int)) (m25_0 pu n true x0 s0) (m25_0 pu n (ilt (21:Int) x0) x0 s0))
def m25 (pu:PureF) (n:Nat) (args:LV):OV:=
 (ll args none fun a0 args=>(ll args (oo (vAgg a0) none fun l0=>(ll l0 none fun v0 l0=>(ll l0 none fun v1 l0=>(ll l0 (oo (toI .i64 v0) none fun x0=>(oo (toSl 1 v1) none fun s0=>(m25_ pu n x0 s0))) fun _ _=>none)))) fun _ _=>none))
theorem w25_1 (pu:PureF) (n:Nat) {v:Value} (hm:m25_1 pu n = some v):Run tt (callP tabs isP pu (inl pu)) 0 c25_40 (fr 42 []) (hp 0 []) (Fin tt 0 [.tmp 2] v):=by
 unfold m25_1 at hm
 refine .then (.rK ?_)
 refine .ghs (fr 42 [(2,(zI (0:Int)))]) (hp 0 []) (.k0 [] [] [2]) ?_
 refine .ret ?_
 exact fin_ret (zI (0:Int)) (by kernel_rfl) (by kernel_rfl) hm
theorem r25 {call:CallF} (pu:PureF) (n:Nat) (hcall:call = callP tabs isP pu (inl pu)) {args:LV} {v:Value} (hm:m25 pu n args = some v) (_:∀ x ∈ args,closed2 x = true):args.length≤42∧Run tt call 0 c25_44 (Fr.made 42 args) (pureHeap tabs) (Fin tt 0 [.tmp 2] v):=by
 subst hcall
 unfold m25 at hm
 replace hm:=ll_uncons hm;obtain ⟨a0,args_0,rfl,hm⟩:=hm
 replace hm:=ll_end hm;obtain ⟨rfl,hm⟩:=hm
 replace hm:=inv_vAgg hm;obtain ⟨l0,rfl,hm⟩:=hm
 replace hm:=ll_uncons hm;obtain ⟨v0,l1392_0,rfl,hm⟩:=hm
 replace hm:=ll_uncons hm;obtain ⟨v1,l1392_1,rfl,hm⟩:=hm
 replace hm:=ll_end hm;obtain ⟨rfl,hm⟩:=hm
 replace hm:=inv_toI hm;obtain ⟨x0,rfl,hm⟩:=hm
 replace hm:=inv_toSl hm;obtain ⟨s0,rfl,hm⟩:=hm
 unfold m25_ at hm
 refine ⟨by simp,?_⟩
 refine .same (F':=(fr 42 [(0,(.agg ⟨[zI x0,Sl.v 1 s0]⟩))])) (H':=(hp 0 [])) (by kernel_rfl) (by kernel_rfl) ?_
 refine .then (.rK ?_)
 refine .ghs (fr 42 [(1,(pt 0 0))]) (hp 1 [(oC [zI x0,Sl.v 1 s0])]) (.k0 [] [.tmp 1 false] [1]) ?_
 refine .then ?_
 refine .block ?_
 refine .join (v:=v) (fun y:Bool×Int×Sl=>((fr 42 [(1,(pt 0 0)),(6,(zB y.1))]),(hp 1 [(oC [(zI y.2.1),(Sl.v 1 y.2.2)])]))) (fun y=>m25_0 pu n y.1 y.2.1 y.2.2) ?_ ?_
 ·rintro ⟨b0, z0, s1⟩ hm
  unfold m25_0 at hm
  replace hm:=bb_cases hm;rcases hm with ⟨h0,hm⟩ | ⟨h0,hm⟩
  ·refine .ifT b0 (by kernel_rfl) h0 ?_
   refine .then (.rK ?_)
   refine .ghs (fr 42 [(2,(zI (1:Int)))]) (hp 0 []) (.k0 [] [] [2]) ?_
   refine .ret ?_
   exact fin_ret (zI (1:Int)) (by kernel_rfl) (by kernel_rfl) hm
  ·refine .ifF b0 (by kernel_rfl) h0 ?_
   refine .then (.rK ?_)
   refine .ghs (fr 42 [(1,(pt 0 0)),(15,(zB (ilt (6:Int) (Int.ofNat (Sl.n s1)))))]) (hp 1 [(oC [zI z0,Sl.v 1 s1])]) (.k0 [] [.tmp 1 false] [1,15]) ?_
   replace hm:=bb_cases hm;rcases hm with ⟨h1,hm⟩ | ⟨h1,hm⟩
   ·refine .ifT (ilt (6 : Int) (Int.ofNat (Sl.n s1))) (by kernel_rfl) h1 ?_
    refine .then (.rK ?_)
    refine .ghs (fr 42 [(2,(zI (3:Int)))]) (hp 0 []) (.k0 [] [] [2]) ?_
    refine .ret ?_
    exact fin_ret (zI (3:Int)) (by kernel_rfl) (by kernel_rfl) hm
   ·refine .ifF (ilt (6 : Int) (Int.ofNat (Sl.n s1))) (by kernel_rfl) h1 ?_
    refine .skip ?_
    refine .ghs (fr 42 [(1,(pt 0 0))]) (hp 1 [(oC [zI z0,Sl.v 1 s1])]) (.k0 [] [.tmp 1 false] [1]) ?_
    refine .then (.rK ?_)
    refine .ghs (fr 42 [(1,(pt 0 0)),(3,(zI (-1:Int)))]) (hp 1 [(oC [zI z0,Sl.v 1 s1])]) (.k0 [] [.tmp 1 false] [1,3]) ?_
    refine .join (v:=v) (fun y:Unit=>((fr 42 []),(hp 0 []))) (fun y=>m25_1 pu n) ?_ ?_
    ·rintro _ hm
     exact w25_1 pu n hm
    ·refine .then (.rK ?_)
     refine .ghs (fr 42 [(1,(pt 0 0)),(3,(zI (-1:Int))),(21,Sl.v 1 s1),(22,(zI (Int.ofNat (Sl.n s1)))),(23,(zI (0:Int)))]) (hp 1 [(oC [zI z0,Sl.v 1 s1])]) (.k0 [] [.tmp 1 false] [1,3,21,22,23]) ?_
     refine .block ?_
     refine .loopM (v:=v) (fun y:Int×Sl×Int×Int×Int×Sl=>((fr 42 [(1,(pt 0 0)),(3,(zI y.1)),(21,(Sl.v 1 y.2.1)),(22,(zI y.2.2.1)),(23,(zI y.2.2.2.1))]),(hp 1 [(oC [(zI y.2.2.2.2.1),(Sl.v 1 y.2.2.2.2.2)])]))) (fun w y=>l25_2 pu n w y.1 y.2.1 y.2.2.1 y.2.2.2.1 y.2.2.2.2.1 y.2.2.2.2.2) n ⟨((-1:Int),s1,(Int.ofNat (Sl.n s1)),(0:Int),z0,s1),hm,(.k0 [] [.tmp 1 false] [1,3,21,22,23])⟩ (fun _=>rfl) ?_
     rintro w0 ⟨z1,s2,z2,z3,z4,s3⟩ hm
     replace hm:b25_2 pu n (l25_2 pu n w0) z1 s2 z2 z3 z4 s3 = some v:=hm
     unfold b25_2 at hm
     refine .then (.rK ?_)
     refine .ghs (fr 42 [(1,(pt 0 0)),(3,zI z1),(21,Sl.v 1 s2),(22,zI z2),(23,zI z3),(24,(zB (ilt z3 z2)))]) (hp 1 [(oC [zI z4,Sl.v 1 s3])]) (.k0 [] [.tmp 1 false] [1,3,21,22,23,24]) ?_
     refine .then ?_
     replace hm:=bb_cases hm;rcases hm with ⟨h2,hm⟩ | ⟨h2,hm⟩
     ·refine .ifT (ilt z3 z2) (by kernel_rfl) h2 ?_
      refine .skip ?_
      refine .ghs (fr 42 [(1,(pt 0 0)),(3,zI z1),(21,Sl.v 1 s2),(22,zI z2),(23,zI z3)]) (hp 1 [(oC [zI z4,Sl.v 1 s3])]) (.k0 [] [.tmp 1 false] [1,3,21,22,23]) ?_
      refine .then ?_
      refine .block ?_
      refine .then ?_
      replace hm:=oo_inv hm;obtain ⟨k1,h3,hm⟩:=hm
      obtain rfl:=toN_some h3
      replace hm:=bb_inv hm;obtain ⟨h4,hm⟩:=hm
      replace hm:=oo_inv hm;obtain ⟨v2,h5,hm⟩:=hm
      replace hm:=inv_toI hm;obtain ⟨x1,rfl,hm⟩:=hm
      refine .reg (eD (keep (hp 1 [(oC [zI z4,Sl.v 1 s3])]) (bb (an (Nat.blt k1 (Sl.n s2)) true) (some (fpV (k1 * 1) (Sl.cs s2))) none)) (keep_bb h4) (eD (keep (hp 1 [(oC [zI z4,Sl.v 1 s3])]) (nthL (Sl.cs s2) (k1 * 1))) (keep_eq h5) (eE))) ?_
      refine .ghs (fr 42 [(1,(pt 0 0)),(3,zI z1),(5,zI x1),(21,Sl.v 1 s2),(22,zI z2),(23,(zI (Int.ofNat k1)))]) (hp 1 [(oC [zI z4,Sl.v 1 s3])]) (.k0 [] [.tmp 1 false] [1,3,5,21,22,23]) ?_
      refine .then ?_
      refine .block ?_
      refine .join (v:=v) (fun y:Int×Int×Sl×Int×Int×Bool×Int×Sl=>((fr 42 [(1,(pt 0 0)),(3,(zI y.1)),(5,(zI y.2.1)),(21,(Sl.v 1 y.2.2.1)),(22,(zI y.2.2.2.1)),(23,(zI y.2.2.2.2.1)),(27,(zB y.2.2.2.2.2.1))]),(hp 1 [(oC [(zI y.2.2.2.2.2.2.1),(Sl.v 1 y.2.2.2.2.2.2.2)])]))) (fun y=>m25_3 pu n (l25_2 pu n w0) y.1 y.2.1 y.2.2.1 y.2.2.2.1 y.2.2.2.2.1 y.2.2.2.2.2.1 y.2.2.2.2.2.2.1 y.2.2.2.2.2.2.2) ?_ ?_
      ·rintro ⟨z5, z6, s4, z7, z8, b1, z9, s5⟩ hm
       unfold m25_3 at hm
       replace hm:=bb_cases hm;rcases hm with ⟨h6,hm⟩ | ⟨h6,hm⟩
       ·refine .ifT b1 (by kernel_rfl) h6 ?_
        refine .then (.rK ?_)
        refine .ghs (fr 42 [(2,(zI (2:Int)))]) (hp 0 []) (.k0 [] [] [2]) ?_
        refine .ret ?_
        exact fin_ret (zI (2:Int)) (by kernel_rfl) (by kernel_rfl) hm
       ·refine .ifF b1 (by kernel_rfl) h6 ?_
        refine .then (.rK ?_)
        refine .ghs (fr 42 [(1,(pt 0 0)),(5,zI z6),(21,Sl.v 1 s4),(22,zI z7),(23,zI z8),(36,(zB (nt (ilt z5 z6))))]) (hp 1 [(oC [zI z9,Sl.v 1 s5])]) (.k0 [] [.tmp 1 false] [1,5,21,22,23,36]) ?_
        replace hm:=bb_cases hm;rcases hm with ⟨h7,hm⟩ | ⟨h7,hm⟩
        ·refine .ifT (nt (ilt z5 z6)) (by kernel_rfl) h7 ?_
         refine .then (.rK ?_)
         refine .ghs (fr 42 [(2,(zI (7:Int)))]) (hp 0 []) (.k0 [] [] [2]) ?_
         refine .ret ?_
         exact fin_ret (zI (7:Int)) (by kernel_rfl) (by kernel_rfl) hm
        ·refine .ifF (nt (ilt z5 z6)) (by kernel_rfl) h7 ?_
         refine .skip ?_
         refine .ghs (fr 42 [(1,(pt 0 0)),(5,zI z6),(21,Sl.v 1 s4),(22,zI z7),(23,zI z8)]) (hp 1 [(oC [zI z9,Sl.v 1 s5])]) (.k0 [] [.tmp 1 false] [1,5,21,22,23]) ?_
         refine .rK ?_
         refine .ghs (fr 42 [(1,(pt 0 0)),(3,zI z6),(21,Sl.v 1 s4),(22,zI z7),(23,zI z8)]) (hp 1 [(oC [zI z9,Sl.v 1 s5])]) (.k0 [] [.tmp 1 false] [1,3,21,22,23]) ?_
         refine .rK ?_
         exact ⟨(z6,s4,z7,(wrapF .i64 (Int.add z8 (1:Int))),z9,s5),hm,(.k0 [] [.tmp 1 false] [1,3,21,22,23])⟩
      ·replace hm := bb_cases hm; rcases hm with ⟨h8, hm⟩ | ⟨h8, hm⟩
       ·refine .reg (eC 1 (some ((zB (ilt x1 (0 : Int))), (hp 1 [(oC [zI z4, Sl.v 1 s3])]))) (show _ = some ((zB true), _) from (by rw [h8])) (eE)) ?_
        exact ⟨(z1,x1,s2,z2,(Int.ofNat k1),true,z4,s3),hm,(.k0 [] [.tmp 1 false] [1,3,5,21,22,23,27])⟩
       ·refine .reg (eC 1 (some ((zB (ilt x1 (0 : Int))), (hp 1 [(oC [zI z4, Sl.v 1 s3])]))) (show _ = some ((zB false), _) from (by rw [h8])) (eE)) ?_
        exact ⟨(z1,x1,s2,z2,(Int.ofNat k1),(nt (ilt x1 z4)),z4,s3),hm,(.k0 [] [.tmp 1 false] [1,3,5,21,22,23,27])⟩
     ·refine .ifF (ilt z3 z2) (by kernel_rfl) h2 ?_
      refine .exit ?_
      exact ⟨(),hm,(.k0 [] [] [])⟩
 ·replace hm := bb_cases hm; rcases hm with ⟨h9, hm⟩ | ⟨h9, hm⟩
  ·refine .reg (eC 2 (some ((zB (ilt x0 (1 : Int))), (hp 1 [(oC [zI x0, Sl.v 1 s0])]))) (show _ = some ((zB true), _) from (by rw [h9])) (eE)) ?_
   exact ⟨(true,x0,s0),hm,(.k0 [] [.tmp 1 false] [1,6])⟩
  ·refine .reg (eC 2 (some ((zB (ilt x0 (1 : Int))), (hp 1 [(oC [zI x0, Sl.v 1 s0])]))) (show _ = some ((zB false), _) from (by rw [h9])) (eE)) ?_
   exact ⟨((ilt (21:Int) x0),x0,s0),hm,(.k0 [] [.tmp 1 false] [1,6])⟩
def m26_0 (pu:PureF) (n:Nat):OV:=
 (some (.int .i64 (0:Int)))
def m26_2 (pu:PureF) (n:Nat) (ih0:Int→Int→Sl→OV) (z0:Int) (b0:Bool) (z1:Int) (s0:Sl):OV:=
 (bb b0 (some (.int .i64 (7:Int))) (ih0 (wrapF .i64 (Int.add z0 (1:Int))) z1 s0))
def b26_1 (pu:PureF) (n:Nat) (ih0:Int→Int→Sl→OV) (z0 z1:Int) (s0:Sl):OV:=
 (bb (ilt z0 (Int.ofNat (Sl.n s0))) (oo (toN z0) none fun k1=>(bb (an (Nat.blt k1 (Sl.n s0)) true) (oo (nthL (Sl.cs s0) (k1 * 1)) none fun v0=>(oo (toI .i64 v0) none fun x0=>(oo (pu 73 [.int .i64 x0,(.int .i64 (0:Int)),(.int .i64 (wrapF .i64 (Int.sub z1 (1:Int))))]) none fun v1=>(oo (vBool v1) none fun b0=>(bb (nt b0) (some (.int .i64 (2:Int))) (bb (ilt (0:Int) (Int.ofNat k1)) (bb (an (Nat.blt k1 (Sl.n s0)) true) (oo (nthL (Sl.cs s0) (k1 * 1)) none fun v2=>(oo (toI .i64 v2) none fun x1=>(oo (toN (wrapF .i64 (Int.sub (Int.ofNat k1) (1:Int)))) none fun k2=>(bb (an (Nat.blt k2 (Sl.n s0)) true) (oo (nthL (Sl.cs s0) (k2 * 1)) none fun v3=>(oo (toI .i64 v3) none fun x2=>(m26_2 pu n ih0 (Int.ofNat k1) (nt (ilt x2 x1)) z1 s0))) none)))) none) (m26_2 pu n ih0 (Int.ofNat k1) false z1 s0))))))) none)) (m26_0 pu n))
def l26_1 (pu:PureF) (n w:Nat):Int→Int→Sl→OV:=
 Nat.rec (motive:=fun _=>Int→Int→Sl→OV) (fun _ _ _=>none) (fun _ ih0=>b26_1 pu n ih0) w
def m26_ (pu:PureF) (n:Nat) (x0:Int) (s0:Sl):OV:=
 (oo (pu 73 [.int .i64 x0,(.int .i64 (1:Int)),(.int .i64 (21:Int))]) none fun v0=>(oo (vBool v0) none fun b0=>(bb (nt b0) (some (.int .i64 (1:Int))) (bb (ilt (6:Int) (Int.ofNat (Sl.n s0))) (some (.int .i64 (3:Int))) (l26_1 pu n n (0:Int) x0 s0)))))
def m26 (pu:PureF) (n:Nat) (args:LV):OV:=
 (ll args none fun a0 args=>(ll args (oo (vAgg a0) none fun l0=>(ll l0 none fun v0 l0=>(ll l0 none fun v1 l0=>(ll l0 (oo (toI .i64 v0) none fun x0=>(oo (toSl 1 v1) none fun s0=>(m26_ pu n x0 s0))) fun _ _=>none)))) fun _ _=>none))
theorem w26_0 (pu:PureF) (n:Nat) {v:Value} (hm:m26_0 pu n = some v):Run tt (callP tabs isP pu (inl pu)) 0 c26_34 (fr 45 []) (hp 0 []) (Fin tt 0 [.tmp 2] v):=by
 unfold m26_0 at hm
 refine .then (.rK ?_)
 refine .ghs (fr 45 [(2,(zI (0:Int)))]) (hp 0 []) (.k0 [] [] [2]) ?_
 refine .ret ?_
 exact fin_ret (zI (0:Int)) (by kernel_rfl) (by kernel_rfl) hm
theorem r26 {call:CallF} (pu:PureF) (n:Nat) (hcall:call = callP tabs isP pu (inl pu)) {args:LV} {v:Value} (hm:m26 pu n args = some v) (_:∀ x ∈ args,closed2 x = true):args.length≤45∧Run tt call 0 c26_38 (Fr.made 45 args) (pureHeap tabs) (Fin tt 0 [.tmp 2] v):=by
 subst hcall
 unfold m26 at hm
 replace hm:=ll_uncons hm;obtain ⟨a0,args_0,rfl,hm⟩:=hm
 replace hm:=ll_end hm;obtain ⟨rfl,hm⟩:=hm
 replace hm:=inv_vAgg hm;obtain ⟨l0,rfl,hm⟩:=hm
 replace hm:=ll_uncons hm;obtain ⟨v0,l1479_0,rfl,hm⟩:=hm
 replace hm:=ll_uncons hm;obtain ⟨v1,l1479_1,rfl,hm⟩:=hm
 replace hm:=ll_end hm;obtain ⟨rfl,hm⟩:=hm
 replace hm:=inv_toI hm;obtain ⟨x0,rfl,hm⟩:=hm
 replace hm:=inv_toSl hm;obtain ⟨s0,rfl,hm⟩:=hm
 unfold m26_ at hm
 refine ⟨by simp,?_⟩
 refine .same (F':=(fr 45 [(0,(.agg ⟨[zI x0,Sl.v 1 s0]⟩))])) (H':=(hp 0 [])) (by kernel_rfl) (by kernel_rfl) ?_
 refine .then (.rK ?_)
 refine .ghs (fr 45 [(1,(pt 0 0))]) (hp 1 [(oC [zI x0,Sl.v 1 s0])]) (.k0 [] [.tmp 1 false] [1]) ?_
 refine .then ?_
 refine .then ?_
 replace hm:=oo_inv hm;obtain ⟨v2,h0,hm⟩:=hm
 replace hm:=inv_vBool hm;obtain ⟨b0,rfl,hm⟩:=hm
 refine .reg (eC 2 ((oo (pu 73 [zI x0,(zI (1:Int)),(zI (21:Int))]) none fun v=>some (v,(hp 1 [(oC [zI x0,Sl.v 1 s0])])))) (call_eq h0) (eE)) ?_
 refine .ghs (fr 45 [(1,(pt 0 0)),(7,(zB (nt b0)))]) (hp 1 [(oC [zI x0,Sl.v 1 s0])]) (.k0 [] [.tmp 1 false] [1,7]) ?_
 replace hm:=bb_cases hm;rcases hm with ⟨h1,hm⟩ | ⟨h1,hm⟩
 ·refine .ifT (nt b0) (by kernel_rfl) h1 ?_
  refine .then (.rK ?_)
  refine .ghs (fr 45 [(2,(zI (1:Int)))]) (hp 0 []) (.k0 [] [] [2]) ?_
  refine .ret ?_
  exact fin_ret (zI (1:Int)) (by kernel_rfl) (by kernel_rfl) hm
 ·refine .ifF (nt b0) (by kernel_rfl) h1 ?_
  refine .skip ?_
  refine .ghs (fr 45 [(1,(pt 0 0))]) (hp 1 [(oC [zI x0,Sl.v 1 s0])]) (.k0 [] [.tmp 1 false] [1]) ?_
  refine .then ?_
  refine .then (.rK ?_)
  refine .ghs (fr 45 [(1,(pt 0 0)),(11,(zB (ilt (6:Int) (Int.ofNat (Sl.n s0)))))]) (hp 1 [(oC [zI x0,Sl.v 1 s0])]) (.k0 [] [.tmp 1 false] [1,11]) ?_
  replace hm:=bb_cases hm;rcases hm with ⟨h2,hm⟩ | ⟨h2,hm⟩
  ·refine .ifT (ilt (6 : Int) (Int.ofNat (Sl.n s0))) (by kernel_rfl) h2 ?_
   refine .then (.rK ?_)
   refine .ghs (fr 45 [(2,(zI (3:Int)))]) (hp 0 []) (.k0 [] [] [2]) ?_
   refine .ret ?_
   exact fin_ret (zI (3:Int)) (by kernel_rfl) (by kernel_rfl) hm
  ·refine .ifF (ilt (6 : Int) (Int.ofNat (Sl.n s0))) (by kernel_rfl) h2 ?_
   refine .skip ?_
   refine .ghs (fr 45 [(1,(pt 0 0))]) (hp 1 [(oC [zI x0,Sl.v 1 s0])]) (.k0 [] [.tmp 1 false] [1]) ?_
   refine .join (v:=v) (fun y:Unit=>((fr 45 []),(hp 0 []))) (fun y=>m26_0 pu n) ?_ ?_
   ·rintro _ hm
    exact w26_0 pu n hm
   ·refine .then (.rK ?_)
    refine .ghs (fr 45 [(1,(pt 0 0)),(3,(zI (0:Int)))]) (hp 1 [(oC [zI x0,Sl.v 1 s0])]) (.k0 [] [.tmp 1 false] [1,3]) ?_
    refine .block ?_
    refine .loopM (v:=v) (fun y:Int×Int×Sl=>((fr 45 [(1,(pt 0 0)),(3,(zI y.1))]),(hp 1 [(oC [(zI y.2.1),(Sl.v 1 y.2.2)])]))) (fun w y=>l26_1 pu n w y.1 y.2.1 y.2.2) n ⟨((0:Int),x0,s0),hm,(.k0 [] [.tmp 1 false] [1,3])⟩ (fun _=>rfl) ?_
    rintro w0 ⟨z0,z1,s1⟩ hm
    replace hm:b26_1 pu n (l26_1 pu n w0) z0 z1 s1 = some v:=hm
    unfold b26_1 at hm
    refine .then ?_
    refine .then (.rK ?_)
    refine .ghs (fr 45 [(1,(pt 0 0)),(3,zI z0),(16,(zB (ilt z0 (Int.ofNat (Sl.n s1)))))]) (hp 1 [(oC [zI z1,Sl.v 1 s1])]) (.k0 [] [.tmp 1 false] [1,3,16]) ?_
    replace hm:=bb_cases hm;rcases hm with ⟨h3,hm⟩ | ⟨h3,hm⟩
    ·refine .ifT (ilt z0 (Int.ofNat (Sl.n s1))) (by kernel_rfl) h3 ?_
     refine .skip ?_
     refine .ghs (fr 45 [(1,(pt 0 0)),(3,zI z0)]) (hp 1 [(oC [zI z1,Sl.v 1 s1])]) (.k0 [] [.tmp 1 false] [1,3]) ?_
     refine .then ?_
     refine .block ?_
     refine .then ?_
     refine .then ?_
     replace hm:=oo_inv hm;obtain ⟨k1,h4,hm⟩:=hm
     obtain rfl:=toN_some h4
     replace hm:=bb_inv hm;obtain ⟨h5,hm⟩:=hm
     replace hm:=oo_inv hm;obtain ⟨v3,h6,hm⟩:=hm
     replace hm:=inv_toI hm;obtain ⟨x1,rfl,hm⟩:=hm
     replace hm:=oo_inv hm;obtain ⟨v4,h7,hm⟩:=hm
     replace hm:=inv_vBool hm;obtain ⟨b1,rfl,hm⟩:=hm
     refine .reg (eC 3 (keep (hp 1 [(oC [zI z1,Sl.v 1 s1])]) (bb (an (Nat.blt k1 (Sl.n s1)) true) (some (fpV (k1 * 1) (Sl.cs s1))) none)) (keep_bb h5) (eD (keep (hp 1 [(oC [zI z1,Sl.v 1 s1])]) (nthL (Sl.cs s1) (k1 * 1))) (keep_eq h6) (eC 3 ((oo (pu 73 [zI x1,(zI (0:Int)),(zI (wrapF .i64 (Int.sub z1 (1:Int))))]) none fun v=>some (v,(hp 1 [(oC [zI z1,Sl.v 1 s1])])))) (call_eq h7) (eE)))) ?_
     refine .ghs (fr 45 [(1,(pt 0 0)),(3,(zI (Int.ofNat k1))),(28,(zB (nt b1)))]) (hp 1 [(oC [zI z1,Sl.v 1 s1])]) (.k0 [] [.tmp 1 false] [1,3,28]) ?_
     replace hm:=bb_cases hm;rcases hm with ⟨h8,hm⟩ | ⟨h8,hm⟩
     ·refine .ifT (nt b1) (by kernel_rfl) h8 ?_
      refine .then (.rK ?_)
      refine .ghs (fr 45 [(2,(zI (2:Int)))]) (hp 0 []) (.k0 [] [] [2]) ?_
      refine .ret ?_
      exact fin_ret (zI (2:Int)) (by kernel_rfl) (by kernel_rfl) hm
     ·refine .ifF (nt b1) (by kernel_rfl) h8 ?_
      refine .skip ?_
      refine .ghs (fr 45 [(1,(pt 0 0)),(3,(zI (Int.ofNat k1)))]) (hp 1 [(oC [zI z1,Sl.v 1 s1])]) (.k0 [] [.tmp 1 false] [1,3]) ?_
      refine .join (v:=v) (fun y:Int×Bool×Int×Sl=>((fr 45 [(1,(pt 0 0)),(3,(zI y.1)),(44,(zB y.2.1))]),(hp 1 [(oC [(zI y.2.2.1),(Sl.v 1 y.2.2.2)])]))) (fun y=>m26_2 pu n (l26_1 pu n w0) y.1 y.2.1 y.2.2.1 y.2.2.2) ?_ ?_
      ·rintro ⟨z2, b2, z3, s2⟩ hm
       unfold m26_2 at hm
       replace hm:=bb_cases hm;rcases hm with ⟨h9,hm⟩ | ⟨h9,hm⟩
       ·refine .ifT b2 (by kernel_rfl) h9 ?_
        refine .then (.rK ?_)
        refine .ghs (fr 45 [(2,(zI (7:Int)))]) (hp 0 []) (.k0 [] [] [2]) ?_
        refine .ret ?_
        exact fin_ret (zI (7:Int)) (by kernel_rfl) (by kernel_rfl) hm
       ·refine .ifF b2 (by kernel_rfl) h9 ?_
        refine .skip ?_
        refine .ghs (fr 45 [(1,(pt 0 0)),(3,zI z2)]) (hp 1 [(oC [zI z3,Sl.v 1 s2])]) (.k0 [] [.tmp 1 false] [1,3]) ?_
        refine .rK ?_
        exact ⟨((wrapF .i64 (Int.add z2 (1:Int))),z3,s2),hm,(.k0 [] [.tmp 1 false] [1,3])⟩
      ·replace hm := bb_cases hm; rcases hm with ⟨h10, hm⟩ | ⟨h10, hm⟩
       ·replace hm := bb_inv hm; obtain ⟨h11, hm⟩ := hm
        replace hm:=oo_inv hm;obtain ⟨v5,h12,hm⟩:=hm
        replace hm:=inv_toI hm;obtain ⟨x2,rfl,hm⟩:=hm
        replace hm:=oo_inv hm;obtain ⟨k2,h13,hm⟩:=hm
        replace hm:=bb_inv hm;obtain ⟨h14,hm⟩:=hm
        replace hm:=oo_inv hm;obtain ⟨v6,h15,hm⟩:=hm
        replace hm:=inv_toI hm;obtain ⟨x3,rfl,hm⟩:=hm
        refine .reg (eN 8 (Fr.puts (fr 45 [(1,(pt 0 0)),(3,(zI (Int.ofNat k1)))]) [(29,(zI (Int.ofNat k1))),(30,zB true),(31,zB true),(32,(pt 0 1)),(33,Sl.v 1 s1),(34,(zI (Int.ofNat k1))),(35,(fpV (k1 * 1) (Sl.cs s1))),(36,zI x2)]) (hp 1 [(oC [zI z1,Sl.v 1 s1])]) (eC 1 (some ((zB (ilt (0:Int) (Int.ofNat k1))),(hp 1 [(oC [zI z1,Sl.v 1 s1])]))) (show _ = some ((zB true),_) from (by rw [h10])) (eC 4 (keep (hp 1 [(oC [zI z1,Sl.v 1 s1])]) (bb (an (Nat.blt k1 (Sl.n s1)) true) (some (fpV (k1 * 1) (Sl.cs s1))) none)) (keep_bb h11) (eD (keep (hp 1 [(oC [zI z1,Sl.v 1 s1])]) (nthL (Sl.cs s1) (k1 * 1))) (keep_eq h12) (by kernel_rfl)))) (eC 3 (some ((zI (wrapF .i64 (Int.sub (Int.ofNat k1) (1:Int)))),(hp 1 [(oC [zI z1,Sl.v 1 s1])]))) (show _ = some ((zI (Int.ofNat k2)),_) from (by rw [toN_some h13])) (eD (keep (hp 1 [(oC [zI z1,Sl.v 1 s1])]) (bb (an (Nat.blt k2 (Sl.n s1)) true) (some (fpV (k2 * 1) (Sl.cs s1))) none)) (keep_bb h14) (eD (keep (hp 1 [(oC [zI z1,Sl.v 1 s1])]) (nthL (Sl.cs s1) (k2 * 1))) (keep_eq h15) (eE))))) ?_
        exact ⟨((Int.ofNat k1),(nt (ilt x3 x2)),z1,s1),hm,(.k0 [] [.tmp 1 false] [1,3,44])⟩
       ·refine .reg (eC 1 (some ((zB (ilt (0 : Int) (Int.ofNat k1))), (hp 1 [(oC [zI z1, Sl.v 1 s1])]))) (show _ = some ((zB false), _) from (by rw [h10])) (eE)) ?_
        exact ⟨((Int.ofNat k1),false,z1,s1),hm,(.k0 [] [.tmp 1 false] [1,3,44])⟩
    ·refine .ifF (ilt z0 (Int.ofNat (Sl.n s1))) (by kernel_rfl) h3 ?_
     refine .exit ?_
     exact ⟨(),hm,(.k0 [] [] [])⟩
def m40_0 (pu:PureF) (n:Nat) (z0:Int) (b0:Bool) (z1:Int) (s0:Sl) (z2 z3 z4:Int):OV:=
 (bb b0 (some (.tuple ⟨[(.agg ⟨[(.int .i64 (0:Int)),(Sl.v 1 (Sl.mk 0 2 []))]⟩),(.int .i64 (1:Int))]⟩)) (oo (pu 89 [.int .i64 z0,.int .i64 z1]) none fun v0=>(oo (vBool v0) none fun b1=>(bb (nt b1) (some (.tuple ⟨[(.agg ⟨[(.int .i64 (0:Int)),(Sl.v 1 (Sl.mk 0 2 []))]⟩),(.int .i64 (13:Int))]⟩)) (oo (pu 71 [(.agg ⟨[.int .i64 z3,.int .u32 z4]⟩),.int .i64 z0]) none fun v1=>(oo (vAgg v1) none fun l0=>(ll l0 none fun v2 l0=>(ll l0 none fun v3 l0=>(ll l0 (oo (toI .i64 v2) none fun x0=>(oo (toI .u32 v3) none fun x1=>(oo (pu 66 [(.agg ⟨[.int .i64 x0,.int .u32 x1]⟩)]) none fun v4=>(oo (vAgg v4) none fun l1=>(ll l1 none fun v5 l1=>(ll l1 none fun v6 l1=>(ll l1 (oo (toI .i64 v5) none fun x2=>(oo (toSl 1 v6) none fun s1=>(some (.tuple ⟨[(.agg ⟨[.int .i64 x2,Sl.v 1 s1]⟩),(.int .i64 (0:Int))]⟩)))) fun _ _=>none))))))) fun _ _=>none)))))))))
def m40_ (pu:PureF) (n:Nat) (x0:Int) (s0:Sl) (x1:Int):OV:=
 (oo (pu 61 [(.agg ⟨[.int .i64 x0,Sl.v 1 s0]⟩)]) none fun v0=>(oo (vTup v0) none fun l0=>(ll l0 none fun v1 l0=>(ll l0 none fun v2 l0=>(ll l0 (oo (vAgg v1) none fun l1=>(ll l1 none fun v3 l1=>(ll l1 none fun v4 l1=>(ll l1 (oo (toI .i64 v3) none fun x2=>(oo (toI .u32 v4) none fun x3=>(oo (toI .i64 v2) none fun x4=>(bb (nt (ieq x4 (0:Int))) (some (.tuple ⟨[(.agg ⟨[(.int .i64 (0:Int)),(Sl.v 1 (Sl.mk 0 2 []))]⟩),.int .i64 x4]⟩)) (bb (ilt x1 (1:Int)) (m40_0 pu n x1 true x0 s0 (0:Int) x2 x3) (m40_0 pu n x1 (ilt x0 x1) x0 s0 (0:Int) x2 x3)))))) fun _ _=>none)))) fun _ _=>none)))))
def m40 (pu:PureF) (n:Nat) (args:LV):OV:=
 (ll args none fun a0 args=>(ll args none fun a1 args=>(ll args (oo (vAgg a0) none fun l0=>(ll l0 none fun v0 l0=>(ll l0 none fun v1 l0=>(ll l0 (oo (toI .i64 v0) none fun x0=>(oo (toSl 1 v1) none fun s0=>(oo (toI .i64 a1) none fun x1=>(m40_ pu n x0 s0 x1)))) fun _ _=>none)))) fun _ _=>none)))
theorem r40 {call:CallF} (pu:PureF) (n:Nat) (hcall:call = callP tabs isP pu (inl pu)) {args:LV} {v:Value} (hm:m40 pu n args = some v) (_:∀ x ∈ args,closed2 x = true):args.length≤39∧Run tt call 0 c40_22 (Fr.made 39 args) (pureHeap tabs) (Fin tt 0 [.cell 4 24,.tmp 5] v):=by
 subst hcall
 unfold m40 at hm
 replace hm:=ll_uncons hm;obtain ⟨a0,args_0,rfl,hm⟩:=hm
 replace hm:=ll_uncons hm;obtain ⟨a1,args_1,rfl,hm⟩:=hm
 replace hm:=ll_end hm;obtain ⟨rfl,hm⟩:=hm
 replace hm:=inv_vAgg hm;obtain ⟨l0,rfl,hm⟩:=hm
 replace hm:=ll_uncons hm;obtain ⟨v0,l1665_0,rfl,hm⟩:=hm
 replace hm:=ll_uncons hm;obtain ⟨v1,l1665_1,rfl,hm⟩:=hm
 replace hm:=ll_end hm;obtain ⟨rfl,hm⟩:=hm
 replace hm:=inv_toI hm;obtain ⟨x0,rfl,hm⟩:=hm
 replace hm:=inv_toSl hm;obtain ⟨s0,rfl,hm⟩:=hm
 replace hm:=inv_toI hm;obtain ⟨x1,rfl,hm⟩:=hm
 unfold m40_ at hm
 refine ⟨by simp,?_⟩
 refine .same (F':=(fr 39 [(0,(.agg ⟨[zI x0,Sl.v 1 s0]⟩)),(1,zI x1)])) (H':=(hp 0 [])) (by kernel_rfl) (by kernel_rfl) ?_
 refine .then (.rK ?_)
 refine .ghs (fr 39 [(1,zI x1),(2,(pt 0 0)),(4,pt 1 0)]) (hp 2 [(oC [zI x0,Sl.v 1 s0]),(oC [(zI (0:Int)),(.slice none 0 0)])]) (.k0 [] [.tmp 2 false,.tmp 4 false] [1,2,4]) ?_
 refine .then ?_
 replace hm:=oo_inv hm;obtain ⟨v2,h0,hm⟩:=hm
 replace hm:=inv_vTup hm;obtain ⟨l1,rfl,hm⟩:=hm
 replace hm:=ll_uncons hm;obtain ⟨v3,l1693_0,rfl,hm⟩:=hm
 replace hm:=ll_uncons hm;obtain ⟨v4,l1693_1,rfl,hm⟩:=hm
 replace hm:=ll_end hm;obtain ⟨rfl,hm⟩:=hm
 replace hm:=inv_vAgg hm;obtain ⟨l2,rfl,hm⟩:=hm
 replace hm:=ll_uncons hm;obtain ⟨v5,l1697_0,rfl,hm⟩:=hm
 replace hm:=ll_uncons hm;obtain ⟨v6,l1697_1,rfl,hm⟩:=hm
 replace hm:=ll_end hm;obtain ⟨rfl,hm⟩:=hm
 replace hm:=inv_toI hm;obtain ⟨x2,rfl,hm⟩:=hm
 replace hm:=inv_toI hm;obtain ⟨x3,rfl,hm⟩:=hm
 replace hm:=inv_toI hm;obtain ⟨x4,rfl,hm⟩:=hm
 refine .reg (eC 1 ((oo (pu 61 [(.agg ⟨[zI x0,Sl.v 1 s0]⟩)]) none fun v=>some (v,(hp 2 [(oC [zI x0,Sl.v 1 s0]),(oC [(zI (0:Int)),(.slice none 0 0)])])))) (call_eq h0) (eE)) ?_
 refine .ghs (fr 39 [(1,zI x1),(2,(pt 0 0)),(4,pt 1 0),(6,(pt 2 0)),(7,zI x4)]) (hp 3 [(oC [zI x0,Sl.v 1 s0]),(oC [(zI (0:Int)),(.slice none 0 0)]),(oC [zI x2,.int .u32 x3])]) (.k0 [] [.tmp 2 false,.tmp 4 false,.tmp 6 false] [1,2,4,6,7]) ?_
 refine .then ?_
 refine .block ?_
 refine .then (.rK ?_)
 refine .ghs (fr 39 [(1,zI x1),(2,(pt 0 0)),(4,pt 1 0),(6,(pt 2 0)),(7,zI x4),(13,(zB (nt (ieq x4 (0:Int)))))]) (hp 3 [(oC [zI x0,Sl.v 1 s0]),(oC [(zI (0:Int)),(.slice none 0 0)]),(oC [zI x2,.int .u32 x3])]) (.k0 [] [.tmp 2 false,.tmp 4 false,.tmp 6 false] [1,2,4,6,7,13]) ?_
 replace hm:=bb_cases hm;rcases hm with ⟨h1,hm⟩ | ⟨h1,hm⟩
 ·refine .ifT (nt (ieq x4 (0 : Int))) (by kernel_rfl) h1 ?_
  refine .then (.rK ?_)
  refine .ghs (fr 39 [(4,(pt 0 0)),(5,zI x4)]) (hp 1 [(oC [(zI (0:Int)),(.slice none 0 0)])]) (.k0 [] [.tmp 4 false] [4,5]) ?_
  refine .ret ?_
  exact finT_ret (.tuple ⟨[(.agg ⟨[(zI (0:Int)),(.slice none 0 0)]⟩),zI x4]⟩) (.tuple ⟨[(.agg ⟨[(zI (0:Int)),(Sl.v 1 (Sl.mk 0 2 []))]⟩),zI x4]⟩) (by kernel_rfl) (Tell.tup (.cons (Tell.agg (.cons (Tell.refl _ _ _) (.cons (.weak (Weak.nil 1 2)) (TellL.nil _)))) (.cons (Tell.refl _ _ _) (TellL.nil _)))) (by kernel_rfl) hm
 ·refine .ifF (nt (ieq x4 (0 : Int))) (by kernel_rfl) h1 ?_
  refine .join (v:=v) (fun y:Int×Bool×Int×Sl×Int×Int×Int=>((fr 39 [(1,(zI y.1)),(2,(pt 0 0)),(4,pt 1 0),(6,(pt 2 0)),(18,(zB y.2.1))]),(hp 3 [(oC [(zI y.2.2.1),(Sl.v 1 y.2.2.2.1)]),(oC [(zI y.2.2.2.2.1),(.slice none 0 0)]),(oC [(zI y.2.2.2.2.2.1),(.int .u32 y.2.2.2.2.2.2)])]))) (fun y=>m40_0 pu n y.1 y.2.1 y.2.2.1 y.2.2.2.1 y.2.2.2.2.1 y.2.2.2.2.2.1 y.2.2.2.2.2.2) ?_ ?_
  ·rintro ⟨z0, b0, z1, s1, z2, z3, z4⟩ hm
   unfold m40_0 at hm
   replace hm:=bb_cases hm;rcases hm with ⟨h2,hm⟩ | ⟨h2,hm⟩
   ·refine .ifT b0 (by kernel_rfl) h2 ?_
    refine .then (.rK ?_)
    refine .ghs (fr 39 [(4,(pt 0 0)),(5,(zI (1:Int)))]) (hp 1 [(oC [(zI (0:Int)),(.slice none 0 0)])]) (.k0 [] [.tmp 4 false] [4,5]) ?_
    refine .ret ?_
    exact finT_ret (.tuple ⟨[(.agg ⟨[(zI (0:Int)),(.slice none 0 0)]⟩),(zI (1:Int))]⟩) (.tuple ⟨[(.agg ⟨[(zI (0:Int)),(Sl.v 1 (Sl.mk 0 2 []))]⟩),(zI (1:Int))]⟩) (by kernel_rfl) (Tell.tup (.cons (Tell.agg (.cons (Tell.refl _ _ _) (.cons (.weak (Weak.nil 1 2)) (TellL.nil _)))) (.cons (Tell.refl _ _ _) (TellL.nil _)))) (by kernel_rfl) hm
   ·refine .ifF b0 (by kernel_rfl) h2 ?_
    refine .then ?_
    replace hm:=oo_inv hm;obtain ⟨v7,h3,hm⟩:=hm
    replace hm:=inv_vBool hm;obtain ⟨b1,rfl,hm⟩:=hm
    refine .reg (eC 3 ((oo (pu 89 [zI z0,zI z1]) none fun v=>some (v,(hp 3 [(oC [zI z1,Sl.v 1 s1]),(oC [zI z2,(.slice none 0 0)]),(oC [zI z3,.int .u32 z4])])))) (call_eq h3) (eE)) ?_
    refine .ghs (fr 39 [(1,zI z0),(4,(pt 0 0)),(6,pt 1 0),(28,(zB (nt b1)))]) (hp 2 [(oC [zI z2,(.slice none 0 0)]),(oC [zI z3,.int .u32 z4])]) (.k0 [] [.tmp 4 false,.tmp 6 false] [1,4,6,28]) ?_
    replace hm:=bb_cases hm;rcases hm with ⟨h4,hm⟩ | ⟨h4,hm⟩
    ·refine .ifT (nt b1) (by kernel_rfl) h4 ?_
     refine .then (.rK ?_)
     refine .ghs (fr 39 [(4,(pt 0 0)),(5,(zI (13:Int)))]) (hp 1 [(oC [(zI (0:Int)),(.slice none 0 0)])]) (.k0 [] [.tmp 4 false] [4,5]) ?_
     refine .ret ?_
     exact finT_ret (.tuple ⟨[(.agg ⟨[(zI (0:Int)),(.slice none 0 0)]⟩),(zI (13:Int))]⟩) (.tuple ⟨[(.agg ⟨[(zI (0:Int)),(Sl.v 1 (Sl.mk 0 2 []))]⟩),(zI (13:Int))]⟩) (by kernel_rfl) (Tell.tup (.cons (Tell.agg (.cons (Tell.refl _ _ _) (.cons (.weak (Weak.nil 1 2)) (TellL.nil _)))) (.cons (Tell.refl _ _ _) (TellL.nil _)))) (by kernel_rfl) hm
    ·refine .ifF (nt b1) (by kernel_rfl) h4 ?_
     refine .skip ?_
     refine .ghs (fr 39 [(1,zI z0),(4,(pt 0 0)),(6,pt 1 0)]) (hp 2 [(oC [zI z2,(.slice none 0 0)]),(oC [zI z3,.int .u32 z4])]) (.k0 [] [.tmp 4 false,.tmp 6 false] [1,4,6]) ?_
     refine .then ?_
     replace hm:=oo_inv hm;obtain ⟨v8,h5,hm⟩:=hm
     replace hm:=inv_vAgg hm;obtain ⟨l3,rfl,hm⟩:=hm
     replace hm:=ll_uncons hm;obtain ⟨v9,l1749_0,rfl,hm⟩:=hm
     replace hm:=ll_uncons hm;obtain ⟨v10,l1749_1,rfl,hm⟩:=hm
     replace hm:=ll_end hm;obtain ⟨rfl,hm⟩:=hm
     replace hm:=inv_toI hm;obtain ⟨x5,rfl,hm⟩:=hm
     replace hm:=inv_toI hm;obtain ⟨x6,rfl,hm⟩:=hm
     replace hm:=oo_inv hm;obtain ⟨v11,h6,hm⟩:=hm
     replace hm:=inv_vAgg hm;obtain ⟨l4,rfl,hm⟩:=hm
     replace hm:=ll_uncons hm;obtain ⟨v12,l1759_0,rfl,hm⟩:=hm
     replace hm:=ll_uncons hm;obtain ⟨v13,l1759_1,rfl,hm⟩:=hm
     replace hm:=ll_end hm;obtain ⟨rfl,hm⟩:=hm
     replace hm:=inv_toI hm;obtain ⟨x7,rfl,hm⟩:=hm
     replace hm:=inv_toSl hm;obtain ⟨s2,rfl,hm⟩:=hm
     refine .reg (eC 2 ((oo (pu 71 [(.agg ⟨[zI z3,.int .u32 z4]⟩),zI z0]) none fun v=>some (v,(hp 2 [(oC [zI z2,(.slice none 0 0)]),(oC [zI z3,.int .u32 z4])])))) (call_eq h5) (eD ((oo (pu 66 [(.agg ⟨[zI x5,.int .u32 x6]⟩)]) none fun v=>some (v,(hp 2 [(oC [zI z2,(.slice none 0 0)]),(oC [zI z3,.int .u32 z4])])))) (call_eq h6) (eE))) ?_
     refine .ghs (fr 39 [(4,(pt 0 0)),(5,(zI (0:Int)))]) (hp 1 [(oC [zI x7,Sl.v 1 s2])]) (.k0 [] [.tmp 4 false] [4,5]) ?_
     refine .ret ?_
     exact fin_ret (.tuple ⟨[(.agg ⟨[zI x7,Sl.v 1 s2]⟩),(zI (0:Int))]⟩) (by kernel_rfl) (by kernel_rfl) hm
  ·replace hm := bb_cases hm; rcases hm with ⟨h7, hm⟩ | ⟨h7, hm⟩
   ·refine .reg (eC 1 (some ((zB (ilt x1 (1 : Int))), (hp 3 [(oC [zI x0, Sl.v 1 s0]), (oC [(zI (0 : Int)), (.slice none 0 0)]), (oC [zI x2, .int .u32 x3])]))) (show _ = some ((zB true), _) from (by rw [h7])) (eE)) ?_
    exact ⟨(x1,true,x0,s0,(0:Int),x2,x3),hm,(.k0 [] [.tmp 2 false,.tmp 4 false,.tmp 6 false] [1,2,4,6,18])⟩
   ·refine .reg (eC 1 (some ((zB (ilt x1 (1 : Int))), (hp 3 [(oC [zI x0, Sl.v 1 s0]), (oC [(zI (0 : Int)), (.slice none 0 0)]), (oC [zI x2, .int .u32 x3])]))) (show _ = some ((zB false), _) from (by rw [h7])) (eE)) ?_
    exact ⟨(x1,(ilt x0 x1),x0,s0,(0:Int),x2,x3),hm,(.k0 [] [.tmp 2 false,.tmp 4 false,.tmp 6 false] [1,2,4,6,18])⟩
def m41_1 (pu:PureF) (n:Nat) (z0 z1 z2:Int) (s0:Sl) (z3:Int):OV:=
 (bb (nt (ieq z1 (0:Int))) (some (.tuple ⟨[(.agg ⟨[(.int .i64 (0:Int)),(Sl.v 1 (Sl.mk 0 2 []))]⟩),.int .i64 z1]⟩)) (oo (pu 67 [(.agg ⟨[.int .i64 z2,Sl.v 1 s0]⟩),.int .i64 z0,(.int .i64 (0:Int))]) none fun v0=>(oo (vAgg v0) none fun l0=>(ll l0 none fun v1 l0=>(ll l0 none fun v2 l0=>(ll l0 (oo (toI .i64 v1) none fun x0=>(oo (toSl 1 v2) none fun s1=>(some (.tuple ⟨[(.agg ⟨[.int .i64 x0,Sl.v 1 s1]⟩),(.int .i64 (0:Int))]⟩)))) fun _ _=>none))))))
def m41_2 (pu:PureF) (n:Nat) (z0 z1:Int) (b0:Bool) (z2:Int) (s0:Sl) (z3:Int):OV:=
 (bb b0 (m41_1 pu n z0 (13:Int) z2 s0 z3) (m41_1 pu n z0 z1 z2 s0 z3))
def m41_0 (pu:PureF) (n:Nat) (z0 z1 z2:Int) (s0:Sl) (z3:Int):OV:=
 (bb (ieq z1 (0:Int)) (oo (pu 90 [.int .i64 z0,.int .i64 z2]) none fun v0=>(oo (toI .i64 v0) none fun x0=>(m41_2 pu n z0 z1 (ilt (1:Int) x0) z2 s0 z3))) (m41_2 pu n z0 z1 false z2 s0 z3))
def m41_3 (pu:PureF) (n:Nat) (z0 z1:Int) (b0:Bool) (z2:Int) (s0:Sl) (z3:Int):OV:=
 (bb b0 (m41_0 pu n z0 (1:Int) z2 s0 z3) (m41_0 pu n z0 z1 z2 s0 z3))
def m41_ (pu:PureF) (n:Nat) (x0:Int) (s0:Sl) (x1:Int):OV:=
 (oo (pu 26 [(.agg ⟨[.int .i64 x0,Sl.v 1 s0]⟩)]) none fun v0=>(oo (toI .i64 v0) none fun x2=>(bb (ieq x2 (0:Int)) (oo (pu 73 [.int .i64 x1,(.int .i64 (1:Int)),.int .i64 x0]) none fun v1=>(oo (vBool v1) none fun b0=>(m41_3 pu n x1 x2 (nt b0) x0 s0 (0:Int)))) (m41_3 pu n x1 x2 false x0 s0 (0:Int)))))
def m41 (pu:PureF) (n:Nat) (args:LV):OV:=
 (ll args none fun a0 args=>(ll args none fun a1 args=>(ll args (oo (vAgg a0) none fun l0=>(ll l0 none fun v0 l0=>(ll l0 none fun v1 l0=>(ll l0 (oo (toI .i64 v0) none fun x0=>(oo (toSl 1 v1) none fun s0=>(oo (toI .i64 a1) none fun x1=>(m41_ pu n x0 s0 x1)))) fun _ _=>none)))) fun _ _=>none)))
theorem w41_1 (pu:PureF) (n:Nat) (z0 z1 z2:Int) (s0:Sl) (z3:Int) {v:Value} (hm:m41_1 pu n z0 z1 z2 s0 z3 = some v):Run tt (callP tabs isP pu (inl pu)) 0 c41_17 (fr 34 [(1,zI z0),(2,(pt 0 0)),(4,pt 1 0),(6,zI z1)]) (hp 2 [(oC [zI z2,Sl.v 1 s0]),(oC [zI z3,(.slice none 0 0)])]) (Fin tt 0 [.cell 4 26,.tmp 5] v):=by
 unfold m41_1 at hm
 refine .then ?_
 refine .then (.rK ?_)
 refine .ghs (fr 34 [(1,zI z0),(2,(pt 0 0)),(4,pt 1 0),(6,zI z1),(28,(zB (nt (ieq z1 (0:Int)))))]) (hp 2 [(oC [zI z2,Sl.v 1 s0]),(oC [zI z3,(.slice none 0 0)])]) (.k0 [] [.tmp 2 false,.tmp 4 false] [1,2,4,6,28]) ?_
 replace hm:=bb_cases hm;rcases hm with ⟨h0,hm⟩ | ⟨h0,hm⟩
 ·refine .ifT (nt (ieq z1 (0 : Int))) (by kernel_rfl) h0 ?_
  refine .then (.rK ?_)
  refine .ghs (fr 34 [(4,(pt 0 0)),(5,zI z1)]) (hp 1 [(oC [(zI (0:Int)),(.slice none 0 0)])]) (.k0 [] [.tmp 4 false] [4,5]) ?_
  refine .ret ?_
  exact finT_ret (.tuple ⟨[(.agg ⟨[(zI (0:Int)),(.slice none 0 0)]⟩),zI z1]⟩) (.tuple ⟨[(.agg ⟨[(zI (0:Int)),(Sl.v 1 (Sl.mk 0 2 []))]⟩),zI z1]⟩) (by kernel_rfl) (Tell.tup (.cons (Tell.agg (.cons (Tell.refl _ _ _) (.cons (.weak (Weak.nil 1 2)) (TellL.nil _)))) (.cons (Tell.refl _ _ _) (TellL.nil _)))) (by kernel_rfl) hm
 ·refine .ifF (nt (ieq z1 (0 : Int))) (by kernel_rfl) h0 ?_
  refine .skip ?_
  refine .ghs (fr 34 [(1,zI z0),(2,(pt 0 0)),(4,pt 1 0)]) (hp 2 [(oC [zI z2,Sl.v 1 s0]),(oC [zI z3,(.slice none 0 0)])]) (.k0 [] [.tmp 2 false,.tmp 4 false] [1,2,4]) ?_
  refine .then ?_
  replace hm:=oo_inv hm;obtain ⟨v0,h1,hm⟩:=hm
  replace hm:=inv_vAgg hm;obtain ⟨l0,rfl,hm⟩:=hm
  replace hm:=ll_uncons hm;obtain ⟨v1,l1864_0,rfl,hm⟩:=hm
  replace hm:=ll_uncons hm;obtain ⟨v2,l1864_1,rfl,hm⟩:=hm
  replace hm:=ll_end hm;obtain ⟨rfl,hm⟩:=hm
  replace hm:=inv_toI hm;obtain ⟨x0,rfl,hm⟩:=hm
  replace hm:=inv_toSl hm;obtain ⟨s1,rfl,hm⟩:=hm
  refine .reg (eC 2 ((oo (pu 67 [(.agg ⟨[zI z2,Sl.v 1 s0]⟩),zI z0,(zI (0:Int))]) none fun v=>some (v,(hp 2 [(oC [zI z2,Sl.v 1 s0]),(oC [zI z3,(.slice none 0 0)])])))) (call_eq h1) (eE)) ?_
  refine .ghs (fr 34 [(4,(pt 0 0)),(5,(zI (0:Int)))]) (hp 1 [(oC [zI x0,Sl.v 1 s1])]) (.k0 [] [.tmp 4 false] [4,5]) ?_
  refine .ret ?_
  exact fin_ret (.tuple ⟨[(.agg ⟨[zI x0,Sl.v 1 s1]⟩),(zI (0:Int))]⟩) (by kernel_rfl) (by kernel_rfl) hm
theorem w41_0 (pu:PureF) (n:Nat) (z0 z1 z2:Int) (s0:Sl) (z3:Int) {v:Value} (hm:m41_0 pu n z0 z1 z2 s0 z3 = some v):Run tt (callP tabs isP pu (inl pu)) 0 c41_18 (fr 34 [(1,zI z0),(2,(pt 0 0)),(4,pt 1 0),(6,zI z1)]) (hp 2 [(oC [zI z2,Sl.v 1 s0]),(oC [zI z3,(.slice none 0 0)])]) (Fin tt 0 [.cell 4 26,.tmp 5] v):=by
 unfold m41_0 at hm
 refine .join (v:=v) (fun y:Int×Int×Int×Sl×Int=>((fr 34 [(1,(zI y.1)),(2,(pt 0 0)),(4,pt 1 0),(6,(zI y.2.1))]),(hp 2 [(oC [(zI y.2.2.1),(Sl.v 1 y.2.2.2.1)]),(oC [(zI y.2.2.2.2),(.slice none 0 0)])]))) (fun y=>m41_1 pu n y.1 y.2.1 y.2.2.1 y.2.2.2.1 y.2.2.2.2) ?_ ?_
 ·rintro ⟨z4, z5, z6, s1, z7⟩ hm
  exact w41_1 pu n z4 z5 z6 s1 z7 hm
 ·refine .join (v := v) (fun y : Int × Int × Bool × Int × Sl × Int => ((fr 34 [(1, (zI y.1)), (2, (pt 0 0)), (4, pt 1 0), (6, (zI y.2.1)), (26, (zB y.2.2.1))]), (hp 2 [(oC [(zI y.2.2.2.1), (Sl.v 1 y.2.2.2.2.1)]), (oC [(zI y.2.2.2.2.2), (.slice none 0 0)])]))) (fun y => m41_2 pu n y.1 y.2.1 y.2.2.1 y.2.2.2.1 y.2.2.2.2.1 y.2.2.2.2.2) ?_ ?_
  ·rintro ⟨z8, z9, b0, z10, s2, z11⟩ hm
   unfold m41_2 at hm
   replace hm:=bb_cases hm;rcases hm with ⟨h0,hm⟩ | ⟨h0,hm⟩
   ·refine .ifT b0 (by kernel_rfl) h0 ?_
    refine .rK ?_
    exact ⟨(z8,(13:Int),z10,s2,z11),hm,(.k0 [] [.tmp 2 false,.tmp 4 false] [1,2,4,6])⟩
   ·refine .ifF b0 (by kernel_rfl) h0 ?_
    refine .skip ?_
    exact ⟨(z8,z9,z10,s2,z11),hm,(.k0 [] [.tmp 2 false,.tmp 4 false] [1,2,4,6])⟩
  ·replace hm := bb_cases hm; rcases hm with ⟨h1, hm⟩ | ⟨h1, hm⟩
   ·replace hm := oo_inv hm; obtain ⟨v0, h2, hm⟩ := hm
    replace hm:=inv_toI hm;obtain ⟨x0,rfl,hm⟩:=hm
    refine .reg (eC 1 (some ((zB (ieq z1 (0:Int))),(hp 2 [(oC [zI z2,Sl.v 1 s0]),(oC [zI z3,(.slice none 0 0)])]))) (show _ = some ((zB true),_) from (by rw [h1])) (eC 4 ((oo (pu 90 [zI z0,zI z2]) none fun v=>some (v,(hp 2 [(oC [zI z2,Sl.v 1 s0]),(oC [zI z3,(.slice none 0 0)])])))) (call_eq h2) (eE))) ?_
    exact ⟨(z0,z1,(ilt (1:Int) x0),z2,s0,z3),hm,(.k0 [] [.tmp 2 false,.tmp 4 false] [1,2,4,6,26])⟩
   ·refine .reg (eC 1 (some ((zB (ieq z1 (0 : Int))), (hp 2 [(oC [zI z2, Sl.v 1 s0]), (oC [zI z3, (.slice none 0 0)])]))) (show _ = some ((zB false), _) from (by rw [h1])) (eE)) ?_
    exact ⟨(z0,z1,false,z2,s0,z3),hm,(.k0 [] [.tmp 2 false,.tmp 4 false] [1,2,4,6,26])⟩
theorem r41 {call:CallF} (pu:PureF) (n:Nat) (hcall:call = callP tabs isP pu (inl pu)) {args:LV} {v:Value} (hm:m41 pu n args = some v) (_:∀ x ∈ args,closed2 x = true):args.length≤34∧Run tt call 0 c41_21 (Fr.made 34 args) (pureHeap tabs) (Fin tt 0 [.cell 4 26,.tmp 5] v):=by
 subst hcall
 unfold m41 at hm
 replace hm:=ll_uncons hm;obtain ⟨a0,args_0,rfl,hm⟩:=hm
 replace hm:=ll_uncons hm;obtain ⟨a1,args_1,rfl,hm⟩:=hm
 replace hm:=ll_end hm;obtain ⟨rfl,hm⟩:=hm
 replace hm:=inv_vAgg hm;obtain ⟨l0,rfl,hm⟩:=hm
 replace hm:=ll_uncons hm;obtain ⟨v0,l1769_0,rfl,hm⟩:=hm
 replace hm:=ll_uncons hm;obtain ⟨v1,l1769_1,rfl,hm⟩:=hm
 replace hm:=ll_end hm;obtain ⟨rfl,hm⟩:=hm
 replace hm:=inv_toI hm;obtain ⟨x0,rfl,hm⟩:=hm
 replace hm:=inv_toSl hm;obtain ⟨s0,rfl,hm⟩:=hm
 replace hm:=inv_toI hm;obtain ⟨x1,rfl,hm⟩:=hm
 unfold m41_ at hm
 refine ⟨by simp,?_⟩
 refine .same (F':=(fr 34 [(0,(.agg ⟨[zI x0,Sl.v 1 s0]⟩)),(1,zI x1)])) (H':=(hp 0 [])) (by kernel_rfl) (by kernel_rfl) ?_
 refine .then (.rK ?_)
 refine .ghs (fr 34 [(1,zI x1),(2,(pt 0 0)),(4,pt 1 0)]) (hp 2 [(oC [zI x0,Sl.v 1 s0]),(oC [(zI (0:Int)),(.slice none 0 0)])]) (.k0 [] [.tmp 2 false,.tmp 4 false] [1,2,4]) ?_
 refine .then ?_
 replace hm:=oo_inv hm;obtain ⟨v2,h0,hm⟩:=hm
 replace hm:=inv_toI hm;obtain ⟨x2,rfl,hm⟩:=hm
 refine .reg (eC 1 ((oo (pu 26 [(.agg ⟨[zI x0,Sl.v 1 s0]⟩)]) none fun v=>some (v,(hp 2 [(oC [zI x0,Sl.v 1 s0]),(oC [(zI (0:Int)),(.slice none 0 0)])])))) (call_eq h0) (eE)) ?_
 refine .ghs (fr 34 [(1,zI x1),(2,(pt 0 0)),(4,pt 1 0),(6,zI x2)]) (hp 2 [(oC [zI x0,Sl.v 1 s0]),(oC [(zI (0:Int)),(.slice none 0 0)])]) (.k0 [] [.tmp 2 false,.tmp 4 false] [1,2,4,6]) ?_
 refine .join (v:=v) (fun y:Int×Int×Int×Sl×Int=>((fr 34 [(1,(zI y.1)),(2,(pt 0 0)),(4,pt 1 0),(6,(zI y.2.1))]),(hp 2 [(oC [(zI y.2.2.1),(Sl.v 1 y.2.2.2.1)]),(oC [(zI y.2.2.2.2),(.slice none 0 0)])]))) (fun y=>m41_0 pu n y.1 y.2.1 y.2.2.1 y.2.2.2.1 y.2.2.2.2) ?_ ?_
 ·rintro ⟨z0, z1, z2, s1, z3⟩ hm
  exact w41_0 pu n z0 z1 z2 s1 z3 hm
 ·refine .join (v := v) (fun y : Int × Int × Bool × Int × Sl × Int => ((fr 34 [(1, (zI y.1)), (2, (pt 0 0)), (4, pt 1 0), (6, (zI y.2.1)), (17, (zB y.2.2.1))]), (hp 2 [(oC [(zI y.2.2.2.1), (Sl.v 1 y.2.2.2.2.1)]), (oC [(zI y.2.2.2.2.2), (.slice none 0 0)])]))) (fun y => m41_3 pu n y.1 y.2.1 y.2.2.1 y.2.2.2.1 y.2.2.2.2.1 y.2.2.2.2.2) ?_ ?_
  ·rintro ⟨z4, z5, b0, z6, s2, z7⟩ hm
   unfold m41_3 at hm
   replace hm:=bb_cases hm;rcases hm with ⟨h1,hm⟩ | ⟨h1,hm⟩
   ·refine .ifT b0 (by kernel_rfl) h1 ?_
    refine .rK ?_
    exact ⟨(z4,(1:Int),z6,s2,z7),hm,(.k0 [] [.tmp 2 false,.tmp 4 false] [1,2,4,6])⟩
   ·refine .ifF b0 (by kernel_rfl) h1 ?_
    refine .skip ?_
    exact ⟨(z4,z5,z6,s2,z7),hm,(.k0 [] [.tmp 2 false,.tmp 4 false] [1,2,4,6])⟩
  ·replace hm := bb_cases hm; rcases hm with ⟨h2, hm⟩ | ⟨h2, hm⟩
   ·replace hm := oo_inv hm; obtain ⟨v3, h3, hm⟩ := hm
    replace hm:=inv_vBool hm;obtain ⟨b1,rfl,hm⟩:=hm
    refine .reg (eC 1 (some ((zB (ieq x2 (0:Int))),(hp 2 [(oC [zI x0,Sl.v 1 s0]),(oC [(zI (0:Int)),(.slice none 0 0)])]))) (show _ = some ((zB true),_) from (by rw [h2])) (eC 4 ((oo (pu 73 [zI x1,(zI (1:Int)),zI x0]) none fun v=>some (v,(hp 2 [(oC [zI x0,Sl.v 1 s0]),(oC [(zI (0:Int)),(.slice none 0 0)])])))) (call_eq h3) (eE))) ?_
    exact ⟨(x1,x2,(nt b1),x0,s0,(0:Int)),hm,(.k0 [] [.tmp 2 false,.tmp 4 false] [1,2,4,6,17])⟩
   ·refine .reg (eC 1 (some ((zB (ieq x2 (0 : Int))), (hp 2 [(oC [zI x0, Sl.v 1 s0]), (oC [(zI (0 : Int)), (.slice none 0 0)])]))) (show _ = some ((zB false), _) from (by rw [h2])) (eE)) ?_
    exact ⟨(x1,x2,false,x0,s0,(0:Int)),hm,(.k0 [] [.tmp 2 false,.tmp 4 false] [1,2,4,6,17])⟩
end
end Go.RgFM
