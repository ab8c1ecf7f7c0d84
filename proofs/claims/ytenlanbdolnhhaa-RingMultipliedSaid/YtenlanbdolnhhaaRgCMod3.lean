/- Made from wip. -/
import Derived.Test.YtenlanbdolnhhaaRgCMod0x

set_option maxRecDepth 100000
set_option maxHeartbeats 20000000
set_option linter.unusedVariables false
namespace Go.RgCM
open Go.Sp Go.RgC
noncomputable section
def m52_0 (pu:PureF) (n:Nat) (s0 s1:Sl):OV:=
 (bb (ilt (Int.ofNat (Sl.n s0)) (Int.ofNat (Sl.n s1))) (some (.int .i64 (-1:Int))) (some (.int .i64 (0:Int))))
def b52_1 (pu:PureF) (n:Nat) (ih0:Sl→Sl→Sl→Int→Int→OV) (s0 s1 s2:Sl) (z0 z1:Int):OV:=
 (bb (ilt z1 z0) (oo (toN z1) none fun k1=>(bb (an (Nat.blt k1 (Sl.n s2)) true) (oo (nthL (Sl.cs s2) (k1 * 1)) none fun v0=>(oo (toI .i64 v0) none fun x0=>(bb (nt (ilt (Int.ofNat k1) (Int.ofNat (Sl.n s1)))) (some (.int .i64 (1:Int))) (bb (an (Nat.blt k1 (Sl.n s1)) true) (oo (nthL (Sl.cs s1) (k1 * 1)) none fun v1=>(oo (toI .i64 v1) none fun x1=>(oo (pu 92 [.int .i64 x0,.int .i64 x1]) none fun v2=>(oo (toI .i64 v2) none fun x2=>(bb (nt (ieq x2 (0:Int))) (some (.int .i64 x2)) (ih0 s0 s1 s2 z0 (wrapF .i64 (Int.add (Int.ofNat k1) (1:Int))))))))) none)))) none)) (m52_0 pu n s0 s1))
def l52_1 (pu:PureF) (n w:Nat):Sl→Sl→Sl→Int→Int→OV:=
 Nat.rec (motive:=fun _=>Sl→Sl→Sl→Int→Int→OV) (fun _ _ _ _ _=>none) (fun _ ih0=>b52_1 pu n ih0) w
def m52_ (pu:PureF) (n:Nat) (s0 s1:Sl):OV:=
 (l52_1 pu n n s0 s1 s0 (Int.ofNat (Sl.n s0)) (0:Int))
def m52 (pu:PureF) (n:Nat) (args:LV):OV:=
 (ll args none fun a0 args=>(ll args none fun a1 args=>(ll args (oo (toSl 1 a0) none fun s0=>(oo (toSl 1 a1) none fun s1=>(m52_ pu n s0 s1))) fun _ _=>none)))
theorem w52_0 (pu:PureF) (n:Nat) (s0 s1:Sl) {v:Value} (hm:m52_0 pu n s0 s1 = some v):Run tt (callP tabs isP pu (inl pu)) 0 c52_36 (fr 36 [(0,Sl.v 1 s0),(1,Sl.v 1 s1)]) (hp 0 []) (Fin tt 0 [.tmp 4] v):=by
 unfold m52_0 at hm
 refine .then ?_
 refine .then (.rK ?_)
 refine .ghs (fr 36 [(35,(zB (ilt (Int.ofNat (Sl.n s0)) (Int.ofNat (Sl.n s1)))))]) (hp 0 []) (.k0 [] [] [35]) ?_
 replace hm:=bb_cases hm;rcases hm with ⟨h0,hm⟩ | ⟨h0,hm⟩
 ·refine .ifT (ilt (Int.ofNat (Sl.n s0)) (Int.ofNat (Sl.n s1))) (by kernel_rfl) h0 ?_
  refine .then (.rK ?_)
  refine .ghs (fr 36 [(4,(zI (-1:Int)))]) (hp 0 []) (.k0 [] [] [4]) ?_
  refine .ret ?_
  exact fin_ret (zI (-1:Int)) (by kernel_rfl) (by kernel_rfl) hm
 ·refine .ifF (ilt (Int.ofNat (Sl.n s0)) (Int.ofNat (Sl.n s1))) (by kernel_rfl) h0 ?_
  refine .skip ?_
  refine .ghs (fr 36 []) (hp 0 []) (.k0 [] [] []) ?_
  refine .then (.rK ?_)
  refine .ghs (fr 36 [(4,(zI (0:Int)))]) (hp 0 []) (.k0 [] [] [4]) ?_
  refine .ret ?_
  exact fin_ret (zI (0:Int)) (by kernel_rfl) (by kernel_rfl) hm
theorem r52 {call:CallF} (pu:PureF) (n:Nat) (hcall:call = callP tabs isP pu (inl pu)) {args:LV} {v:Value} (hm:m52 pu n args = some v) (_:∀ x ∈ args,closed2 x = true):args.length≤36∧Run tt call 0 c52_38 (Fr.made 36 args) (pureHeap tabs) (Fin tt 0 [.tmp 4] v):=by
 subst hcall
 unfold m52 at hm
 replace hm:=ll_uncons hm;obtain ⟨a0,args_0,rfl,hm⟩:=hm
 replace hm:=ll_uncons hm;obtain ⟨a1,args_1,rfl,hm⟩:=hm
 replace hm:=ll_end hm;obtain ⟨rfl,hm⟩:=hm
 replace hm:=inv_toSl hm;obtain ⟨s0,rfl,hm⟩:=hm
 replace hm:=inv_toSl hm;obtain ⟨s1,rfl,hm⟩:=hm
 unfold m52_ at hm
 refine ⟨by simp,?_⟩
 refine .same (F':=(fr 36 [(0,Sl.v 1 s0),(1,Sl.v 1 s1)])) (H':=(hp 0 [])) (by kernel_rfl) (by kernel_rfl) ?_
 refine .then (.rK ?_)
 refine .ghs (fr 36 [(0,Sl.v 1 s0),(1,Sl.v 1 s1)]) (hp 0 []) (.k0 [] [] [0,1]) ?_
 refine .join (v:=v) (fun y:Sl×Sl=>((fr 36 [(0,(Sl.v 1 y.1)),(1,(Sl.v 1 y.2))]),(hp 0 []))) (fun y=>m52_0 pu n y.1 y.2) ?_ ?_
 ·rintro ⟨s2, s3⟩ hm
  exact w52_0 pu n s2 s3 hm
 ·refine .then (.rK ?_)
  refine .ghs (fr 36 [(0,Sl.v 1 s0),(1,Sl.v 1 s1),(9,Sl.v 1 s0),(10,(zI (Int.ofNat (Sl.n s0)))),(11,(zI (0:Int)))]) (hp 0 []) (.k0 [] [] [0,1,9,10,11]) ?_
  refine .block ?_
  refine .loopM (v:=v) (fun y:Sl×Sl×Sl×Int×Int=>((fr 36 [(0,(Sl.v 1 y.1)),(1,(Sl.v 1 y.2.1)),(9,(Sl.v 1 y.2.2.1)),(10,(zI y.2.2.2.1)),(11,(zI y.2.2.2.2))]),(hp 0 []))) (fun w y=>l52_1 pu n w y.1 y.2.1 y.2.2.1 y.2.2.2.1 y.2.2.2.2) n ⟨(s0,s1,s0,(Int.ofNat (Sl.n s0)),(0:Int)),hm,(.k0 [] [] [0,1,9,10,11])⟩ (fun _=>rfl) ?_
  rintro w0 ⟨s4,s5,s6,z0,z1⟩ hm
  replace hm:b52_1 pu n (l52_1 pu n w0) s4 s5 s6 z0 z1 = some v:=hm
  unfold b52_1 at hm
  refine .then (.rK ?_)
  refine .ghs (fr 36 [(0,Sl.v 1 s4),(1,Sl.v 1 s5),(9,Sl.v 1 s6),(10,zI z0),(11,zI z1),(12,(zB (ilt z1 z0)))]) (hp 0 []) (.k0 [] [] [0,1,9,10,11,12]) ?_
  refine .then ?_
  replace hm:=bb_cases hm;rcases hm with ⟨h0,hm⟩ | ⟨h0,hm⟩
  ·refine .ifT (ilt z1 z0) (by kernel_rfl) h0 ?_
   refine .skip ?_
   refine .ghs (fr 36 [(0,Sl.v 1 s4),(1,Sl.v 1 s5),(9,Sl.v 1 s6),(10,zI z0),(11,zI z1)]) (hp 0 []) (.k0 [] [] [0,1,9,10,11]) ?_
   refine .then ?_
   refine .block ?_
   refine .then ?_
   replace hm:=oo_inv hm;obtain ⟨k1,h1,hm⟩:=hm
   obtain rfl:=toN_some h1
   replace hm:=bb_inv hm;obtain ⟨h2,hm⟩:=hm
   replace hm:=oo_inv hm;obtain ⟨v0,h3,hm⟩:=hm
   replace hm:=inv_toI hm;obtain ⟨x0,rfl,hm⟩:=hm
   refine .reg (eC 1 (keep (hp 0 []) (bb (an (Nat.blt k1 (Sl.n s6)) true) (some (fpV (k1 * 1) (Sl.cs s6))) none)) (keep_bb h2) (eD (keep (hp 0 []) (nthL (Sl.cs s6) (k1 * 1))) (keep_eq h3) (eE))) ?_
   refine .ghs (fr 36 [(0,Sl.v 1 s4),(1,Sl.v 1 s5),(5,(zI (Int.ofNat k1))),(6,zI x0),(9,Sl.v 1 s6),(10,zI z0),(11,(zI (Int.ofNat k1)))]) (hp 0 []) (.k0 [] [] [0,1,5,6,9,10,11]) ?_
   refine .then ?_
   refine .then (.rK ?_)
   refine .ghs (fr 36 [(0,Sl.v 1 s4),(1,Sl.v 1 s5),(5,(zI (Int.ofNat k1))),(6,zI x0),(9,Sl.v 1 s6),(10,zI z0),(11,(zI (Int.ofNat k1))),(19,(zB (nt (ilt (Int.ofNat k1) (Int.ofNat (Sl.n s5))))))]) (hp 0 []) (.k0 [] [] [0,1,5,6,9,10,11,19]) ?_
   replace hm:=bb_cases hm;rcases hm with ⟨h4,hm⟩ | ⟨h4,hm⟩
   ·refine .ifT (nt (ilt (Int.ofNat k1) (Int.ofNat (Sl.n s5)))) (by kernel_rfl) h4 ?_
    refine .then (.rK ?_)
    refine .ghs (fr 36 [(4,(zI (1:Int)))]) (hp 0 []) (.k0 [] [] [4]) ?_
    refine .ret ?_
    exact fin_ret (zI (1:Int)) (by kernel_rfl) (by kernel_rfl) hm
   ·refine .ifF (nt (ilt (Int.ofNat k1) (Int.ofNat (Sl.n s5)))) (by kernel_rfl) h4 ?_
    refine .skip ?_
    refine .ghs (fr 36 [(0,Sl.v 1 s4),(1,Sl.v 1 s5),(5,(zI (Int.ofNat k1))),(6,zI x0),(9,Sl.v 1 s6),(10,zI z0),(11,(zI (Int.ofNat k1)))]) (hp 0 []) (.k0 [] [] [0,1,5,6,9,10,11]) ?_
    refine .then ?_
    replace hm:=bb_inv hm;obtain ⟨h5,hm⟩:=hm
    replace hm:=oo_inv hm;obtain ⟨v1,h6,hm⟩:=hm
    replace hm:=inv_toI hm;obtain ⟨x1,rfl,hm⟩:=hm
    refine .reg (eC 2 (keep (hp 0 []) (bb (an (Nat.blt k1 (Sl.n s5)) true) (some (fpV (k1 * 1) (Sl.cs s5))) none)) (keep_bb h5) (eD (keep (hp 0 []) (nthL (Sl.cs s5) (k1 * 1))) (keep_eq h6) (eE))) ?_
    refine .ghs (fr 36 [(0,Sl.v 1 s4),(1,Sl.v 1 s5),(6,zI x0),(7,zI x1),(9,Sl.v 1 s6),(10,zI z0),(11,(zI (Int.ofNat k1)))]) (hp 0 []) (.k0 [] [] [0,1,6,7,9,10,11]) ?_
    refine .then ?_
    replace hm:=oo_inv hm;obtain ⟨v2,h7,hm⟩:=hm
    replace hm:=inv_toI hm;obtain ⟨x2,rfl,hm⟩:=hm
    refine .reg (eC 2 ((oo (pu 92 [zI x0,zI x1]) none fun v=>some (v,(hp 0 [])))) (call_eq h7) (eE)) ?_
    refine .ghs (fr 36 [(0,Sl.v 1 s4),(1,Sl.v 1 s5),(8,zI x2),(9,Sl.v 1 s6),(10,zI z0),(11,(zI (Int.ofNat k1)))]) (hp 0 []) (.k0 [] [] [0,1,8,9,10,11]) ?_
    refine .then (.rK ?_)
    refine .ghs (fr 36 [(0,Sl.v 1 s4),(1,Sl.v 1 s5),(8,zI x2),(9,Sl.v 1 s6),(10,zI z0),(11,(zI (Int.ofNat k1))),(28,(zB (nt (ieq x2 (0:Int)))))]) (hp 0 []) (.k0 [] [] [0,1,8,9,10,11,28]) ?_
    replace hm:=bb_cases hm;rcases hm with ⟨h8,hm⟩ | ⟨h8,hm⟩
    ·refine .ifT (nt (ieq x2 (0 : Int))) (by kernel_rfl) h8 ?_
     refine .then (.rK ?_)
     refine .ghs (fr 36 [(4,zI x2)]) (hp 0 []) (.k0 [] [] [4]) ?_
     refine .ret ?_
     exact fin_ret (zI x2) (by kernel_rfl) (by kernel_rfl) hm
    ·refine .ifF (nt (ieq x2 (0 : Int))) (by kernel_rfl) h8 ?_
     refine .skip ?_
     refine .ghs (fr 36 [(0,Sl.v 1 s4),(1,Sl.v 1 s5),(9,Sl.v 1 s6),(10,zI z0),(11,(zI (Int.ofNat k1)))]) (hp 0 []) (.k0 [] [] [0,1,9,10,11]) ?_
     refine .rK ?_
     exact ⟨(s4,s5,s6,z0,(wrapF .i64 (Int.add (Int.ofNat k1) (1:Int)))),hm,(.k0 [] [] [0,1,9,10,11])⟩
  ·refine .ifF (ilt z1 z0) (by kernel_rfl) h0 ?_
   refine .exit ?_
   exact ⟨(s4,s5),hm,(.k0 [] [] [0,1])⟩
def m58_0 (pu:PureF) (n:Nat) (z0:Int):OV:=
 (some (.int .u32 z0))
def m58_2 (pu:PureF) (n:Nat) (ih0:Int→Int→Int→Int→Int→OV) (z0 z1 z2 z3 z4:Int):OV:=
 (ih0 z0 z1 z2 z3 (wrapF .i64 (Int.add z4 (1:Int))))
def b58_1 (pu:PureF) (n:Nat) (ih0:Int→Int→Int→Int→Int→OV) (z0 z1 z2 z3 z4:Int):OV:=
 (bb (ilt z4 z3) (oo (pu 49 [.int .i64 z0,.int .u32 z1,(.int .i64 (1:Int)),.int .i64 z4]) none fun v0=>(oo (toI .u32 v0) none fun x0=>(oo (pu 48 [.int .u32 x0]) none fun v1=>(oo (toSl 1 v1) none fun s0=>(oo (pu 48 [.int .u32 z2]) none fun v2=>(oo (toSl 1 v2) none fun s1=>(oo (pu 52 [Sl.v 1 s0,Sl.v 1 s1]) none fun v3=>(oo (toI .i64 v3) none fun x1=>(bb (ilt x1 (0:Int)) (m58_2 pu n ih0 z0 z1 x0 z3 z4) (m58_2 pu n ih0 z0 z1 z2 z3 z4)))))))))) (m58_0 pu n z2))
def l58_1 (pu:PureF) (n w:Nat):Int→Int→Int→Int→Int→OV:=
 Nat.rec (motive:=fun _=>Int→Int→Int→Int→Int→OV) (fun _ _ _ _ _=>none) (fun _ ih0=>b58_1 pu n ih0) w
def m58_ (pu:PureF) (n:Nat) (x0 x1:Int):OV:=
 (l58_1 pu n n x0 x1 x1 x0 (0:Int))
def m58 (pu:PureF) (n:Nat) (args:LV):OV:=
 (ll args none fun a0 args=>(ll args none fun a1 args=>(ll args (oo (toI .i64 a0) none fun x0=>(oo (toI .u32 a1) none fun x1=>(m58_ pu n x0 x1))) fun _ _=>none)))
theorem w58_0 (pu:PureF) (n:Nat) (z0:Int) {v:Value} (hm:m58_0 pu n z0 = some v):Run tt (callP tabs isP pu (inl pu)) 0 c58_22 (fr 26 [(5,.int .u32 z0)]) (hp 0 []) (Fin tt 0 [.tmp 4] v):=by
 unfold m58_0 at hm
 refine .then (.rK ?_)
 refine .ghs (fr 26 [(4,.int .u32 z0)]) (hp 0 []) (.k0 [] [] [4]) ?_
 refine .ret ?_
 exact fin_ret (.int .u32 z0) (by kernel_rfl) (by kernel_rfl) hm
theorem r58 {call:CallF} (pu:PureF) (n:Nat) (hcall:call = callP tabs isP pu (inl pu)) {args:LV} {v:Value} (hm:m58 pu n args = some v) (_:∀ x ∈ args,closed2 x = true):args.length≤26∧Run tt call 0 c58_25 (Fr.made 26 args) (pureHeap tabs) (Fin tt 0 [.tmp 4] v):=by
 subst hcall
 unfold m58 at hm
 replace hm:=ll_uncons hm;obtain ⟨a0,args_0,rfl,hm⟩:=hm
 replace hm:=ll_uncons hm;obtain ⟨a1,args_1,rfl,hm⟩:=hm
 replace hm:=ll_end hm;obtain ⟨rfl,hm⟩:=hm
 replace hm:=inv_toI hm;obtain ⟨x0,rfl,hm⟩:=hm
 replace hm:=inv_toI hm;obtain ⟨x1,rfl,hm⟩:=hm
 unfold m58_ at hm
 refine ⟨by simp,?_⟩
 refine .same (F':=(fr 26 [(0,zI x0),(1,.int .u32 x1)])) (H':=(hp 0 [])) (by kernel_rfl) (by kernel_rfl) ?_
 refine .then (.rK ?_)
 refine .ghs (fr 26 [(0,zI x0),(1,.int .u32 x1)]) (hp 0 []) (.k0 [] [] [0,1]) ?_
 refine .then (.rK ?_)
 refine .ghs (fr 26 [(0,zI x0),(1,.int .u32 x1),(5,.int .u32 x1)]) (hp 0 []) (.k0 [] [] [0,1,5]) ?_
 refine .join (v:=v) (fun y:Int=>((fr 26 [(5,.int .u32 y)]),(hp 0 []))) (fun y=>m58_0 pu n y) ?_ ?_
 ·rintro z0 hm
  exact w58_0 pu n z0 hm
 ·refine .then (.rK ?_)
  refine .ghs (fr 26 [(0,zI x0),(1,.int .u32 x1),(5,.int .u32 x1),(9,zI x0),(10,(zI (0:Int)))]) (hp 0 []) (.k0 [] [] [0,1,5,9,10]) ?_
  refine .block ?_
  refine .loopM (v:=v) (fun y:Int×Int×Int×Int×Int=>((fr 26 [(0,(zI y.1)),(1,(.int .u32 y.2.1)),(5,(.int .u32 y.2.2.1)),(9,(zI y.2.2.2.1)),(10,(zI y.2.2.2.2))]),(hp 0 []))) (fun w y=>l58_1 pu n w y.1 y.2.1 y.2.2.1 y.2.2.2.1 y.2.2.2.2) n ⟨(x0,x1,x1,x0,(0:Int)),hm,(.k0 [] [] [0,1,5,9,10])⟩ (fun _=>rfl) ?_
  rintro w0 ⟨z1,z2,z3,z4,z5⟩ hm
  replace hm:b58_1 pu n (l58_1 pu n w0) z1 z2 z3 z4 z5 = some v:=hm
  unfold b58_1 at hm
  refine .then (.rK ?_)
  refine .ghs (fr 26 [(0,zI z1),(1,.int .u32 z2),(5,.int .u32 z3),(9,zI z4),(10,zI z5),(11,(zB (ilt z5 z4)))]) (hp 0 []) (.k0 [] [] [0,1,5,9,10,11]) ?_
  refine .then ?_
  replace hm:=bb_cases hm;rcases hm with ⟨h0,hm⟩ | ⟨h0,hm⟩
  ·refine .ifT (ilt z5 z4) (by kernel_rfl) h0 ?_
   refine .skip ?_
   refine .ghs (fr 26 [(0,zI z1),(1,.int .u32 z2),(5,.int .u32 z3),(9,zI z4),(10,zI z5)]) (hp 0 []) (.k0 [] [] [0,1,5,9,10]) ?_
   refine .join (v:=v) (fun y:Int×Int×Int×Int×Int=>((fr 26 [(0,(zI y.1)),(1,(.int .u32 y.2.1)),(5,(.int .u32 y.2.2.1)),(9,(zI y.2.2.2.1)),(10,(zI y.2.2.2.2))]),(hp 0 []))) (fun y=>m58_2 pu n (l58_1 pu n w0) y.1 y.2.1 y.2.2.1 y.2.2.2.1 y.2.2.2.2) ?_ ?_
   ·rintro ⟨z6, z7, z8, z9, z10⟩ hm
    unfold m58_2 at hm
    refine .rK ?_
    exact ⟨(z6,z7,z8,z9,(wrapF .i64 (Int.add z10 (1:Int)))),hm,(.k0 [] [] [0,1,5,9,10])⟩
   ·refine .block ?_
    refine .then (.rK ?_)
    refine .ghs (fr 26 [(0,zI z1),(1,.int .u32 z2),(5,.int .u32 z3),(6,zI z5),(9,zI z4),(10,zI z5)]) (hp 0 []) (.k0 [] [] [0,1,5,6,9,10]) ?_
    refine .then ?_
    replace hm:=oo_inv hm;obtain ⟨v0,h1,hm⟩:=hm
    replace hm:=inv_toI hm;obtain ⟨x2,rfl,hm⟩:=hm
    refine .reg (eC 3 ((oo (pu 49 [zI z1,.int .u32 z2,(zI (1:Int)),zI z5]) none fun v=>some (v,(hp 0 [])))) (call_eq h1) (eE)) ?_
    refine .ghs (fr 26 [(0,zI z1),(1,.int .u32 z2),(5,.int .u32 z3),(7,.int .u32 x2),(9,zI z4),(10,zI z5)]) (hp 0 []) (.k0 [] [] [0,1,5,7,9,10]) ?_
    refine .then ?_
    replace hm:=oo_inv hm;obtain ⟨v1,h2,hm⟩:=hm
    replace hm:=inv_toSl hm;obtain ⟨s0,rfl,hm⟩:=hm
    replace hm:=oo_inv hm;obtain ⟨v2,h3,hm⟩:=hm
    replace hm:=inv_toSl hm;obtain ⟨s1,rfl,hm⟩:=hm
    replace hm:=oo_inv hm;obtain ⟨v3,h4,hm⟩:=hm
    replace hm:=inv_toI hm;obtain ⟨x3,rfl,hm⟩:=hm
    refine .reg (eC 1 ((oo (pu 48 [.int .u32 x2]) none fun v=>some (v,(hp 0 [])))) (call_eq h2) (eC 1 ((oo (pu 48 [.int .u32 z3]) none fun v=>some (v,(hp 0 [])))) (call_eq h3) (eD ((oo (pu 52 [Sl.v 1 s0,Sl.v 1 s1]) none fun v=>some (v,(hp 0 [])))) (call_eq h4) (eE)))) ?_
    refine .ghs (fr 26 [(0,zI z1),(1,.int .u32 z2),(5,.int .u32 z3),(7,.int .u32 x2),(9,zI z4),(10,zI z5),(22,(zB (ilt x3 (0:Int))))]) (hp 0 []) (.k0 [] [] [0,1,5,7,9,10,22]) ?_
    replace hm:=bb_cases hm;rcases hm with ⟨h5,hm⟩ | ⟨h5,hm⟩
    ·refine .ifT (ilt x3 (0 : Int)) (by kernel_rfl) h5 ?_
     refine .rK ?_
     exact ⟨(z1,z2,x2,z4,z5),hm,(.k0 [] [] [0,1,5,9,10])⟩
    ·refine .ifF (ilt x3 (0 : Int)) (by kernel_rfl) h5 ?_
     refine .skip ?_
     exact ⟨(z1,z2,z3,z4,z5),hm,(.k0 [] [] [0,1,5,9,10])⟩
  ·refine .ifF (ilt z5 z4) (by kernel_rfl) h0 ?_
   refine .exit ?_
   exact ⟨z3,hm,(.k0 [] [] [5])⟩

def m59_ (pu:PureF) (n:Nat) (s0:Sl) (x0:Int):OV:=
 (oo (pu 93 [Sl.v 1 s0,.int .i64 x0]) none fun v0=>(oo (toI .i64 v0) none fun x1=>(some (.bool (nt (ilt x1 (0:Int)))))))
def m59 (pu:PureF) (n:Nat) (args:LV):OV:=
 (ll args none fun a0 args=>(ll args none fun a1 args=>(ll args (oo (toSl 1 a0) none fun s0=>(oo (toI .i64 a1) none fun x0=>(m59_ pu n s0 x0))) fun _ _=>none)))
theorem r59 {call:CallF} (pu:PureF) (n:Nat) (hcall:call = callP tabs isP pu (inl pu)) {args:LV} {v:Value} (hm:m59 pu n args = some v) (_:∀ x ∈ args,closed2 x = true):args.length≤9∧Run tt call 0 c59_3 (Fr.made 9 args) (pureHeap tabs) (Fin tt 0 [.tmp 4] v):=by
 subst hcall
 unfold m59 at hm
 replace hm:=ll_uncons hm;obtain ⟨a0,args_0,rfl,hm⟩:=hm
 replace hm:=ll_uncons hm;obtain ⟨a1,args_1,rfl,hm⟩:=hm
 replace hm:=ll_end hm;obtain ⟨rfl,hm⟩:=hm
 replace hm:=inv_toSl hm;obtain ⟨s0,rfl,hm⟩:=hm
 replace hm:=inv_toI hm;obtain ⟨x0,rfl,hm⟩:=hm
 unfold m59_ at hm
 refine ⟨by simp,?_⟩
 refine .same (F':=(fr 9 [(0,Sl.v 1 s0),(1,zI x0)])) (H':=(hp 0 [])) (by kernel_rfl) (by kernel_rfl) ?_
 refine .then (.rK ?_)
 refine .ghs (fr 9 [(0,Sl.v 1 s0),(1,zI x0)]) (hp 0 []) (.k0 [] [] [0,1]) ?_
 refine .then ?_
 replace hm:=oo_inv hm;obtain ⟨v0,h0,hm⟩:=hm
 replace hm:=inv_toI hm;obtain ⟨x1,rfl,hm⟩:=hm
 refine .reg (eC 2 ((oo (pu 93 [Sl.v 1 s0,zI x0]) none fun v=>some (v,(hp 0 [])))) (call_eq h0) (eE)) ?_
 refine .ghs (fr 9 [(4,(zB (nt (ilt x1 (0:Int)))))]) (hp 0 []) (.k0 [] [] [4]) ?_
 refine .ret ?_
 exact fin_ret (zB (nt (ilt x1 (0:Int)))) (by kernel_rfl) (by kernel_rfl) hm

def m61_ (pu:PureF) (n:Nat) (x0:Int) (s0:Sl):OV:=
 (oo (pu 25 [(.agg ⟨[.int .i64 x0,Sl.v 1 s0]⟩)]) none fun v0=>(oo (toI .i64 v0) none fun x1=>(bb (nt (ieq x1 (0:Int))) (some (.tuple ⟨[(.agg ⟨[(.int .i64 (0:Int)),(.int .u32 (0:Int))]⟩),.int .i64 x1]⟩)) (oo (pu 96 [.int .i64 x0,Sl.v 1 s0]) none fun v1=>(oo (vAgg v1) none fun l0=>(ll l0 none fun v2 l0=>(ll l0 none fun v3 l0=>(ll l0 (oo (toI .i64 v2) none fun x2=>(oo (toI .u32 v3) none fun x3=>(some (.tuple ⟨[(.agg ⟨[.int .i64 x2,.int .u32 x3]⟩),(.int .i64 (0:Int))]⟩)))) fun _ _=>none))))))))
def m61 (pu:PureF) (n:Nat) (args:LV):OV:=
 (ll args none fun a0 args=>(ll args (oo (vAgg a0) none fun l0=>(ll l0 none fun v0 l0=>(ll l0 none fun v1 l0=>(ll l0 (oo (toI .i64 v0) none fun x0=>(oo (toSl 1 v1) none fun s0=>(m61_ pu n x0 s0))) fun _ _=>none)))) fun _ _=>none))
theorem r61 {call:CallF} (pu:PureF) (n:Nat) (hcall:call = callP tabs isP pu (inl pu)) {args:LV} {v:Value} (hm:m61 pu n args = some v) (_:∀ x ∈ args,closed2 x = true):args.length≤16∧Run tt call 0 c61_11 (Fr.made 16 args) (pureHeap tabs) (Fin tt 0 [.cell 2 92,.tmp 3] v):=by
 subst hcall
 unfold m61 at hm
 replace hm:=ll_uncons hm;obtain ⟨a0,args_0,rfl,hm⟩:=hm
 replace hm:=ll_end hm;obtain ⟨rfl,hm⟩:=hm
 replace hm:=inv_vAgg hm;obtain ⟨l0,rfl,hm⟩:=hm
 replace hm:=ll_uncons hm;obtain ⟨v0,l3674_0,rfl,hm⟩:=hm
 replace hm:=ll_uncons hm;obtain ⟨v1,l3674_1,rfl,hm⟩:=hm
 replace hm:=ll_end hm;obtain ⟨rfl,hm⟩:=hm
 replace hm:=inv_toI hm;obtain ⟨x0,rfl,hm⟩:=hm
 replace hm:=inv_toSl hm;obtain ⟨s0,rfl,hm⟩:=hm
 unfold m61_ at hm
 refine ⟨by simp,?_⟩
 refine .same (F':=(fr 16 [(0,(.agg ⟨[zI x0,Sl.v 1 s0]⟩))])) (H':=(hp 0 [])) (by kernel_rfl) (by kernel_rfl) ?_
 refine .then (.rK ?_)
 refine .ghs (fr 16 [(1,(pt 0 0)),(2,pt 1 0)]) (hp 2 [(oC [zI x0,Sl.v 1 s0]),(oC [(zI (0:Int)),(.int .u32 (0:Int))])]) (.k0 [] [.tmp 1 false,.tmp 2 false] [1,2]) ?_
 refine .then ?_
 refine .then ?_
 replace hm:=oo_inv hm;obtain ⟨v2,h0,hm⟩:=hm
 replace hm:=inv_toI hm;obtain ⟨x1,rfl,hm⟩:=hm
 refine .reg (eC 1 ((oo (pu 25 [(.agg ⟨[zI x0,Sl.v 1 s0]⟩)]) none fun v=>some (v,(hp 2 [(oC [zI x0,Sl.v 1 s0]),(oC [(zI (0:Int)),(.int .u32 (0:Int))])])))) (call_eq h0) (eE)) ?_
 refine .ghs (fr 16 [(1,(pt 0 0)),(2,pt 1 0),(4,zI x1)]) (hp 2 [(oC [zI x0,Sl.v 1 s0]),(oC [(zI (0:Int)),(.int .u32 (0:Int))])]) (.k0 [] [.tmp 1 false,.tmp 2 false] [1,2,4]) ?_
 refine .then (.rK ?_)
 refine .ghs (fr 16 [(1,(pt 0 0)),(2,pt 1 0),(4,zI x1),(8,(zB (nt (ieq x1 (0:Int)))))]) (hp 2 [(oC [zI x0,Sl.v 1 s0]),(oC [(zI (0:Int)),(.int .u32 (0:Int))])]) (.k0 [] [.tmp 1 false,.tmp 2 false] [1,2,4,8]) ?_
 replace hm:=bb_cases hm;rcases hm with ⟨h1,hm⟩ | ⟨h1,hm⟩
 ·refine .ifT (nt (ieq x1 (0 : Int))) (by kernel_rfl) h1 ?_
  refine .then (.rK ?_)
  refine .ghs (fr 16 [(2,(pt 0 0)),(3,zI x1)]) (hp 1 [(oC [(zI (0:Int)),(.int .u32 (0:Int))])]) (.k0 [] [.tmp 2 false] [2,3]) ?_
  refine .ret ?_
  exact fin_ret (.tuple ⟨[(.agg ⟨[(zI (0:Int)),(.int .u32 (0:Int))]⟩),zI x1]⟩) (by kernel_rfl) (by kernel_rfl) hm
 ·refine .ifF (nt (ieq x1 (0 : Int))) (by kernel_rfl) h1 ?_
  refine .skip ?_
  refine .ghs (fr 16 [(1,(pt 0 0)),(2,pt 1 0)]) (hp 2 [(oC [zI x0,Sl.v 1 s0]),(oC [(zI (0:Int)),(.int .u32 (0:Int))])]) (.k0 [] [.tmp 1 false,.tmp 2 false] [1,2]) ?_
  refine .then ?_
  replace hm:=oo_inv hm;obtain ⟨v3,h2,hm⟩:=hm
  replace hm:=inv_vAgg hm;obtain ⟨l1,rfl,hm⟩:=hm
  replace hm:=ll_uncons hm;obtain ⟨v4,l3703_0,rfl,hm⟩:=hm
  replace hm:=ll_uncons hm;obtain ⟨v5,l3703_1,rfl,hm⟩:=hm
  replace hm:=ll_end hm;obtain ⟨rfl,hm⟩:=hm
  replace hm:=inv_toI hm;obtain ⟨x2,rfl,hm⟩:=hm
  replace hm:=inv_toI hm;obtain ⟨x3,rfl,hm⟩:=hm
  refine .reg (eC 4 ((oo (pu 96 [zI x0,Sl.v 1 s0]) none fun v=>some (v,(hp 2 [(oC [zI x0,Sl.v 1 s0]),(oC [(zI (0:Int)),(.int .u32 (0:Int))])])))) (call_eq h2) (eE)) ?_
  refine .ghs (fr 16 [(2,(pt 0 0)),(3,(zI (0:Int)))]) (hp 1 [(oC [zI x2,.int .u32 x3])]) (.k0 [] [.tmp 2 false] [2,3]) ?_
  refine .ret ?_
  exact fin_ret (.tuple ⟨[(.agg ⟨[zI x2,.int .u32 x3]⟩),(zI (0:Int))]⟩) (by kernel_rfl) (by kernel_rfl) hm

def m65_ (pu:PureF) (n:Nat) (x0 x1 x2:Int):OV:=
 (oo (toN x0) none fun k1=>(oo (toN x2) none fun k2=>(oo (toN (wrapF .i64 (Int.sub (Int.ofNat k1) (Int.ofNat k2)))) none fun k3=>(some (.agg ⟨[(.int .i64 (Int.ofNat k1)),(.int .u32 (aand .u32 (aor .u32 (shlI .u32 x1 k2) (shrI .u32 x1 k3)) (wrapF .u32 (Int.sub (shlI .u32 (1:Int) k1) (1:Int)))))]⟩)))))
def m65 (pu:PureF) (n:Nat) (args:LV):OV:=
 (ll args none fun a0 args=>(ll args none fun a1 args=>(ll args (oo (vAgg a0) none fun l0=>(ll l0 none fun v0 l0=>(ll l0 none fun v1 l0=>(ll l0 (oo (toI .i64 v0) none fun x0=>(oo (toI .u32 v1) none fun x1=>(oo (toI .i64 a1) none fun x2=>(m65_ pu n x0 x1 x2)))) fun _ _=>none)))) fun _ _=>none)))
theorem r65 {call:CallF} (pu:PureF) (n:Nat) (hcall:call = callP tabs isP pu (inl pu)) {args:LV} {v:Value} (hm:m65 pu n args = some v) (_:∀ x ∈ args,closed2 x = true):args.length≤26∧Run tt call 0 c65_7 (Fr.made 26 args) (pureHeap tabs) (Fin tt 0 [.cell 4 92] v):=by
 subst hcall
 unfold m65 at hm
 replace hm:=ll_uncons hm;obtain ⟨a0,args_0,rfl,hm⟩:=hm
 replace hm:=ll_uncons hm;obtain ⟨a1,args_1,rfl,hm⟩:=hm
 replace hm:=ll_end hm;obtain ⟨rfl,hm⟩:=hm
 replace hm:=inv_vAgg hm;obtain ⟨l0,rfl,hm⟩:=hm
 replace hm:=ll_uncons hm;obtain ⟨v0,l3711_0,rfl,hm⟩:=hm
 replace hm:=ll_uncons hm;obtain ⟨v1,l3711_1,rfl,hm⟩:=hm
 replace hm:=ll_end hm;obtain ⟨rfl,hm⟩:=hm
 replace hm:=inv_toI hm;obtain ⟨x0,rfl,hm⟩:=hm
 replace hm:=inv_toI hm;obtain ⟨x1,rfl,hm⟩:=hm
 replace hm:=inv_toI hm;obtain ⟨x2,rfl,hm⟩:=hm
 unfold m65_ at hm
 refine ⟨by simp,?_⟩
 refine .same (F':=(fr 26 [(0,(.agg ⟨[zI x0,.int .u32 x1]⟩)),(1,zI x2)])) (H':=(hp 0 [])) (by kernel_rfl) (by kernel_rfl) ?_
 refine .then (.rK ?_)
 refine .ghs (fr 26 [(1,zI x2),(2,(pt 0 0)),(4,pt 1 0)]) (hp 2 [(oC [zI x0,.int .u32 x1]),(oC [(zI (0:Int)),(.int .u32 (0:Int))])]) (.k0 [] [.tmp 2 false,.tmp 4 false] [1,2,4]) ?_
 refine .then ?_
 replace hm:=oo_inv hm;obtain ⟨k1,h0,hm⟩:=hm
 obtain rfl:=toN_some h0
 refine .rK ?_
 refine .ghs (fr 26 [(1,zI x2),(2,(pt 0 0)),(4,pt 1 0),(5,(.int .u32 (wrapF .u32 (Int.sub (shlI .u32 (1:Int) k1) (1:Int)))))]) (hp 2 [(oC [(zI (Int.ofNat k1)),.int .u32 x1]),(oC [(zI (0:Int)),(.int .u32 (0:Int))])]) (.k0 [] [.tmp 2 false,.tmp 4 false] [1,2,4,5]) ?_
 refine .then ?_
 replace hm:=oo_inv hm;obtain ⟨k2,h1,hm⟩:=hm
 obtain rfl:=toN_some h1
 replace hm:=oo_inv hm;obtain ⟨k3,h2,hm⟩:=hm
 refine .reg (eC 9 (some ((zI (wrapF .i64 (Int.sub (Int.ofNat k1) (Int.ofNat k2)))),(hp 2 [(oC [(zI (Int.ofNat k1)),.int .u32 x1]),(oC [(zI (0:Int)),(.int .u32 (0:Int))])]))) (show _ = some ((zI (Int.ofNat k3)),_) from (by rw [toN_some h2])) (eE)) ?_
 refine .ghs (fr 26 [(2,(pt 0 0)),(4,pt 1 0)]) (hp 2 [(oC [(zI (Int.ofNat k1)),(.int .u32 (aand .u32 (aor .u32 (shlI .u32 x1 k2) (shrI .u32 x1 k3)) (wrapF .u32 (Int.sub (shlI .u32 (1:Int) k1) (1:Int)))))]),(oC [(zI (0:Int)),(.int .u32 (0:Int))])]) (.k0 [] [.tmp 2 false,.tmp 4 false] [2,4]) ?_
 refine .then (.rK ?_)
 refine .ghs (fr 26 [(4,(pt 0 0))]) (hp 1 [(oC [(zI (Int.ofNat k1)),(.int .u32 (aand .u32 (aor .u32 (shlI .u32 x1 k2) (shrI .u32 x1 k3)) (wrapF .u32 (Int.sub (shlI .u32 (1:Int) k1) (1:Int)))))])]) (.k0 [] [.tmp 4 false] [4]) ?_
 refine .ret ?_
 exact fin_ret (.agg ⟨[(zI (Int.ofNat k1)),(.int .u32 (aand .u32 (aor .u32 (shlI .u32 x1 k2) (shrI .u32 x1 k3)) (wrapF .u32 (Int.sub (shlI .u32 (1:Int) k1) (1:Int)))))]⟩) (by kernel_rfl) (by kernel_rfl) hm

def m66_ (pu:PureF) (n:Nat) (x0 x1:Int):OV:=
 (oo (pu 80 [(.agg ⟨[.int .i64 x0,.int .u32 x1]⟩)]) none fun v0=>(oo (toSl 1 v0) none fun s0=>(some (.agg ⟨[.int .i64 x0,Sl.v 1 s0]⟩))))
def m66 (pu:PureF) (n:Nat) (args:LV):OV:=
 (ll args none fun a0 args=>(ll args (oo (vAgg a0) none fun l0=>(ll l0 none fun v0 l0=>(ll l0 none fun v1 l0=>(ll l0 (oo (toI .i64 v0) none fun x0=>(oo (toI .u32 v1) none fun x1=>(m66_ pu n x0 x1))) fun _ _=>none)))) fun _ _=>none))
theorem r66 {call:CallF} (pu:PureF) (n:Nat) (hcall:call = callP tabs isP pu (inl pu)) {args:LV} {v:Value} (hm:m66 pu n args = some v) (_:∀ x ∈ args,closed2 x = true):args.length≤8∧Run tt call 0 c66_3 (Fr.made 8 args) (pureHeap tabs) (Fin tt 0 [.cell 2 24] v):=by
 subst hcall
 unfold m66 at hm
 replace hm:=ll_uncons hm;obtain ⟨a0,args_0,rfl,hm⟩:=hm
 replace hm:=ll_end hm;obtain ⟨rfl,hm⟩:=hm
 replace hm:=inv_vAgg hm;obtain ⟨l0,rfl,hm⟩:=hm
 replace hm:=ll_uncons hm;obtain ⟨v0,l3733_0,rfl,hm⟩:=hm
 replace hm:=ll_uncons hm;obtain ⟨v1,l3733_1,rfl,hm⟩:=hm
 replace hm:=ll_end hm;obtain ⟨rfl,hm⟩:=hm
 replace hm:=inv_toI hm;obtain ⟨x0,rfl,hm⟩:=hm
 replace hm:=inv_toI hm;obtain ⟨x1,rfl,hm⟩:=hm
 unfold m66_ at hm
 refine ⟨by simp,?_⟩
 refine .same (F':=(fr 8 [(0,(.agg ⟨[zI x0,.int .u32 x1]⟩))])) (H':=(hp 0 [])) (by kernel_rfl) (by kernel_rfl) ?_
 refine .then (.rK ?_)
 refine .ghs (fr 8 [(1,(pt 0 0)),(2,pt 1 0)]) (hp 2 [(oC [zI x0,.int .u32 x1]),(oC [(zI (0:Int)),(.slice none 0 0)])]) (.k0 [] [.tmp 1 false,.tmp 2 false] [1,2]) ?_
 refine .then ?_
 replace hm:=oo_inv hm;obtain ⟨v2,h0,hm⟩:=hm
 replace hm:=inv_toSl hm;obtain ⟨s0,rfl,hm⟩:=hm
 refine .reg (eC 3 ((oo (pu 80 [(.agg ⟨[zI x0,.int .u32 x1]⟩)]) none fun v=>some (v,(hp 2 [(oC [zI x0,.int .u32 x1]),(oC [(zI (0:Int)),(.slice none 0 0)])])))) (call_eq h0) (eE)) ?_
 refine .ghs (fr 8 [(2,(pt 0 0))]) (hp 1 [(oC [zI x0,Sl.v 1 s0])]) (.k0 [] [.tmp 2 false] [2]) ?_
 refine .ret ?_
 exact fin_ret (.agg ⟨[zI x0,Sl.v 1 s0]⟩) (by kernel_rfl) (by kernel_rfl) hm
def m70_0 (pu:PureF) (n:Nat):OV:=
 (some (.tuple ⟨[(.int .i64 (0:Int)),(.bool false)]⟩))
def b70_1 (pu:PureF) (n:Nat) (ih0:Int→Int→Int→Int→Int→Int→OV) (z0 z1 z2 z3 z4 z5:Int):OV:=
 (bb (ilt z1 z0) (oo (pu 65 [(.agg ⟨[.int .i64 z2,.int .u32 z3]⟩),.int .i64 z1]) none fun v0=>(oo (vAgg v0) none fun l0=>(ll l0 none fun v1 l0=>(ll l0 none fun v2 l0=>(ll l0 (oo (toI .i64 v1) none fun x0=>(oo (toI .u32 v2) none fun x1=>(bb (bq true (an (ieq x0 z4) (an (ieq x1 z5) true))) (some (.tuple ⟨[.int .i64 z1,(.bool true)]⟩)) (ih0 z0 (wrapF .i64 (Int.add z1 (1:Int))) z2 z3 z4 z5)))) fun _ _=>none))))) (m70_0 pu n))
def l70_1 (pu:PureF) (n w:Nat):Int→Int→Int→Int→Int→Int→OV:=
 Nat.rec (motive:=fun _=>Int→Int→Int→Int→Int→Int→OV) (fun _ _ _ _ _ _=>none) (fun _ ih0=>b70_1 pu n ih0) w
def m70_ (pu:PureF) (n:Nat) (x0 x1 x2 x3:Int):OV:=
 (l70_1 pu n n x0 (0:Int) x0 x1 x2 x3)
def m70 (pu:PureF) (n:Nat) (args:LV):OV:=
 (ll args none fun a0 args=>(ll args none fun a1 args=>(ll args (oo (vAgg a0) none fun l0=>(ll l0 none fun v0 l0=>(ll l0 none fun v1 l0=>(ll l0 (oo (toI .i64 v0) none fun x0=>(oo (toI .u32 v1) none fun x1=>(oo (vAgg a1) none fun l1=>(ll l1 none fun v2 l1=>(ll l1 none fun v3 l1=>(ll l1 (oo (toI .i64 v2) none fun x2=>(oo (toI .u32 v3) none fun x3=>(m70_ pu n x0 x1 x2 x3))) fun _ _=>none)))))) fun _ _=>none)))) fun _ _=>none)))
theorem w70_0 (pu:PureF) (n:Nat) {v:Value} (hm:m70_0 pu n = some v):Run tt (callP tabs isP pu (inl pu)) 0 c70_20 (fr 19 []) (hp 0 []) (Fin tt 0 [.tmp 4,.tmp 5] v):=by
 unfold m70_0 at hm
 refine .then (.rK ?_)
 refine .ghs (fr 19 [(4,(zI (0:Int))),(5,zB false)]) (hp 0 []) (.k0 [] [] [4,5]) ?_
 refine .ret ?_
 exact fin_ret (.tuple ⟨[(zI (0:Int)),zB false]⟩) (by kernel_rfl) (by kernel_rfl) hm
theorem r70 {call:CallF} (pu:PureF) (n:Nat) (hcall:call = callP tabs isP pu (inl pu)) {args:LV} {v:Value} (hm:m70 pu n args = some v) (_:∀ x ∈ args,closed2 x = true):args.length≤19∧Run tt call 0 c70_22 (Fr.made 19 args) (pureHeap tabs) (Fin tt 0 [.tmp 4,.tmp 5] v):=by
 subst hcall
 unfold m70 at hm
 replace hm:=ll_uncons hm;obtain ⟨a0,args_0,rfl,hm⟩:=hm
 replace hm:=ll_uncons hm;obtain ⟨a1,args_1,rfl,hm⟩:=hm
 replace hm:=ll_end hm;obtain ⟨rfl,hm⟩:=hm
 replace hm:=inv_vAgg hm;obtain ⟨l0,rfl,hm⟩:=hm
 replace hm:=ll_uncons hm;obtain ⟨v0,l3749_0,rfl,hm⟩:=hm
 replace hm:=ll_uncons hm;obtain ⟨v1,l3749_1,rfl,hm⟩:=hm
 replace hm:=ll_end hm;obtain ⟨rfl,hm⟩:=hm
 replace hm:=inv_toI hm;obtain ⟨x0,rfl,hm⟩:=hm
 replace hm:=inv_toI hm;obtain ⟨x1,rfl,hm⟩:=hm
 replace hm:=inv_vAgg hm;obtain ⟨l1,rfl,hm⟩:=hm
 replace hm:=ll_uncons hm;obtain ⟨v2,l3757_0,rfl,hm⟩:=hm
 replace hm:=ll_uncons hm;obtain ⟨v3,l3757_1,rfl,hm⟩:=hm
 replace hm:=ll_end hm;obtain ⟨rfl,hm⟩:=hm
 replace hm:=inv_toI hm;obtain ⟨x2,rfl,hm⟩:=hm
 replace hm:=inv_toI hm;obtain ⟨x3,rfl,hm⟩:=hm
 unfold m70_ at hm
 refine ⟨by simp,?_⟩
 refine .same (F':=(fr 19 [(0,(.agg ⟨[zI x0,.int .u32 x1]⟩)),(1,(.agg ⟨[zI x2,.int .u32 x3]⟩))])) (H':=(hp 0 [])) (by kernel_rfl) (by kernel_rfl) ?_
 refine .then (.rK ?_)
 refine .ghs (fr 19 [(2,(pt 0 0)),(3,pt 1 0)]) (hp 2 [(oC [zI x0,.int .u32 x1]),(oC [zI x2,.int .u32 x3])]) (.k0 [] [.tmp 2 false,.tmp 3 false] [2,3]) ?_
 refine .join (v:=v) (fun y:Unit=>((fr 19 []),(hp 0 []))) (fun y=>m70_0 pu n) ?_ ?_
 ·rintro _ hm
  exact w70_0 pu n hm
 ·refine .then (.rK ?_)
  refine .ghs (fr 19 [(2,(pt 0 0)),(3,pt 1 0),(8,zI x0),(9,(zI (0:Int)))]) (hp 2 [(oC [zI x0,.int .u32 x1]),(oC [zI x2,.int .u32 x3])]) (.k0 [] [.tmp 2 false,.tmp 3 false] [2,3,8,9]) ?_
  refine .block ?_
  refine .loopM (v:=v) (fun y:Int×Int×Int×Int×Int×Int=>((fr 19 [(2,(pt 0 0)),(3,pt 1 0),(8,(zI y.1)),(9,(zI y.2.1))]),(hp 2 [(oC [(zI y.2.2.1),(.int .u32 y.2.2.2.1)]),(oC [(zI y.2.2.2.2.1),(.int .u32 y.2.2.2.2.2)])]))) (fun w y=>l70_1 pu n w y.1 y.2.1 y.2.2.1 y.2.2.2.1 y.2.2.2.2.1 y.2.2.2.2.2) n ⟨(x0,(0:Int),x0,x1,x2,x3),hm,(.k0 [] [.tmp 2 false,.tmp 3 false] [2,3,8,9])⟩ (fun _=>rfl) ?_
  rintro w0 ⟨z0,z1,z2,z3,z4,z5⟩ hm
  replace hm:b70_1 pu n (l70_1 pu n w0) z0 z1 z2 z3 z4 z5 = some v:=hm
  unfold b70_1 at hm
  refine .then (.rK ?_)
  refine .ghs (fr 19 [(2,(pt 0 0)),(3,pt 1 0),(8,zI z0),(9,zI z1),(10,(zB (ilt z1 z0)))]) (hp 2 [(oC [zI z2,.int .u32 z3]),(oC [zI z4,.int .u32 z5])]) (.k0 [] [.tmp 2 false,.tmp 3 false] [2,3,8,9,10]) ?_
  refine .then ?_
  replace hm:=bb_cases hm;rcases hm with ⟨h0,hm⟩ | ⟨h0,hm⟩
  ·refine .ifT (ilt z1 z0) (by kernel_rfl) h0 ?_
   refine .skip ?_
   refine .ghs (fr 19 [(2,(pt 0 0)),(3,pt 1 0),(8,zI z0),(9,zI z1)]) (hp 2 [(oC [zI z2,.int .u32 z3]),(oC [zI z4,.int .u32 z5])]) (.k0 [] [.tmp 2 false,.tmp 3 false] [2,3,8,9]) ?_
   refine .then ?_
   refine .block ?_
   refine .then (.rK ?_)
   refine .ghs (fr 19 [(2,(pt 0 0)),(3,pt 1 0),(6,zI z1),(8,zI z0),(9,zI z1)]) (hp 2 [(oC [zI z2,.int .u32 z3]),(oC [zI z4,.int .u32 z5])]) (.k0 [] [.tmp 2 false,.tmp 3 false] [2,3,6,8,9]) ?_
   refine .then ?_
   replace hm:=oo_inv hm;obtain ⟨v4,h1,hm⟩:=hm
   replace hm:=inv_vAgg hm;obtain ⟨l2,rfl,hm⟩:=hm
   replace hm:=ll_uncons hm;obtain ⟨v5,l3812_0,rfl,hm⟩:=hm
   replace hm:=ll_uncons hm;obtain ⟨v6,l3812_1,rfl,hm⟩:=hm
   replace hm:=ll_end hm;obtain ⟨rfl,hm⟩:=hm
   replace hm:=inv_toI hm;obtain ⟨x4,rfl,hm⟩:=hm
   replace hm:=inv_toI hm;obtain ⟨x5,rfl,hm⟩:=hm
   refine .reg (eC 3 ((oo (pu 65 [(.agg ⟨[zI z2,.int .u32 z3]⟩),zI z1]) none fun v=>some (v,(hp 2 [(oC [zI z2,.int .u32 z3]),(oC [zI z4,.int .u32 z5])])))) (call_eq h1) (eE)) ?_
   refine .ghs (fr 19 [(2,(pt 0 0)),(3,pt 1 0),(6,zI z1),(8,zI z0),(9,zI z1),(16,(zB (bq true (an (ieq x4 z4) (an (ieq x5 z5) true)))))]) (hp 2 [(oC [zI z2,.int .u32 z3]),(oC [zI z4,.int .u32 z5])]) (.k0 [] [.tmp 2 false,.tmp 3 false] [2,3,6,8,9,16]) ?_
   replace hm:=bb_cases hm;rcases hm with ⟨h2,hm⟩ | ⟨h2,hm⟩
   ·refine .ifT (bq true (an (ieq x4 z4) (an (ieq x5 z5) true))) (by kernel_rfl) h2 ?_
    refine .then (.rK ?_)
    refine .ghs (fr 19 [(4,zI z1),(5,zB true)]) (hp 0 []) (.k0 [] [] [4,5]) ?_
    refine .ret ?_
    exact fin_ret (.tuple ⟨[zI z1,zB true]⟩) (by kernel_rfl) (by kernel_rfl) hm
   ·refine .ifF (bq true (an (ieq x4 z4) (an (ieq x5 z5) true))) (by kernel_rfl) h2 ?_
    refine .skip ?_
    refine .ghs (fr 19 [(2,(pt 0 0)),(3,pt 1 0),(8,zI z0),(9,zI z1)]) (hp 2 [(oC [zI z2,.int .u32 z3]),(oC [zI z4,.int .u32 z5])]) (.k0 [] [.tmp 2 false,.tmp 3 false] [2,3,8,9]) ?_
    refine .rK ?_
    exact ⟨(z0,(wrapF .i64 (Int.add z1 (1:Int))),z2,z3,z4,z5),hm,(.k0 [] [.tmp 2 false,.tmp 3 false] [2,3,8,9])⟩
  ·refine .ifF (ilt z1 z0) (by kernel_rfl) h0 ?_
   refine .exit ?_
   exact ⟨(),hm,(.k0 [] [] [])⟩
def m71_0 (pu:PureF) (n:Nat) (z0 z1 z2 z3:Int):OV:=
 (some (.agg ⟨[.int .i64 z2,.int .u32 z3]⟩))
def b71_1 (pu:PureF) (n:Nat) (ih0:Int→Sl→Int→Int→Int→Int→Int→Int→Int→Int→OV) (z0:Int) (s0:Sl) (z1 z2 z3 z4 z5 z6 z7 z8:Int):OV:=
 (bb (ilt z2 z1) (oo (toN z2) none fun k1=>(bb (an (Nat.blt k1 (Sl.n s0)) true) (oo (nthL (Sl.cs s0) (k1 * 1)) none fun v0=>(oo (toI .i64 v0) none fun x0=>(oo (pu 62 [(.agg ⟨[.int .i64 z3,.int .u32 z4]⟩),(.int .i64 (wrapF .i64 (Int.mul x0 z0)))]) none fun v1=>(oo (toI .i64 v1) none fun x1=>(oo (toN x1) none fun k2=>(ih0 z0 s0 z1 (wrapF .i64 (Int.add (Int.ofNat k1) (1:Int))) z3 z4 z5 z6 z7 (aor .u32 z8 (shlI .u32 (1:Int) k2)))))))) none)) (m71_0 pu n z5 z6 z7 z8))
def l71_1 (pu:PureF) (n w:Nat):Int→Sl→Int→Int→Int→Int→Int→Int→Int→Int→OV:=
 Nat.rec (motive:=fun _=>Int→Sl→Int→Int→Int→Int→Int→Int→Int→Int→OV) (fun _ _ _ _ _ _ _ _ _ _=>none) (fun _ ih0=>b71_1 pu n ih0) w
def m71_ (pu:PureF) (n:Nat) (x0 x1 x2:Int):OV:=
 (oo (pu 80 [(.agg ⟨[.int .i64 x0,.int .u32 x1]⟩)]) none fun v0=>(oo (toSl 1 v0) none fun s0=>(l71_1 pu n n x2 s0 (Int.ofNat (Sl.n s0)) (0:Int) x0 x1 (0:Int) (0:Int) x0 (0:Int))))
def m71 (pu:PureF) (n:Nat) (args:LV):OV:=
 (ll args none fun a0 args=>(ll args none fun a1 args=>(ll args (oo (vAgg a0) none fun l0=>(ll l0 none fun v0 l0=>(ll l0 none fun v1 l0=>(ll l0 (oo (toI .i64 v0) none fun x0=>(oo (toI .u32 v1) none fun x1=>(oo (toI .i64 a1) none fun x2=>(m71_ pu n x0 x1 x2)))) fun _ _=>none)))) fun _ _=>none)))
theorem w71_0 (pu:PureF) (n:Nat) (z0 z1 z2 z3:Int) {v:Value} (hm:m71_0 pu n z0 z1 z2 z3 = some v):Run tt (callP tabs isP pu (inl pu)) 0 c71_17 (fr 30 [(4,(pt 0 0)),(5,pt 1 0)]) (hp 2 [(oC [zI z0,.int .u32 z1]),(oC [zI z2,.int .u32 z3])]) (Fin tt 0 [.cell 4 92] v):=by
 unfold m71_0 at hm
 refine .then (.rK ?_)
 refine .ghs (fr 30 [(4,(pt 0 0))]) (hp 1 [(oC [zI z2,.int .u32 z3])]) (.k0 [] [.tmp 4 false] [4]) ?_
 refine .ret ?_
 exact fin_ret (.agg ⟨[zI z2,.int .u32 z3]⟩) (by kernel_rfl) (by kernel_rfl) hm
theorem r71 {call:CallF} (pu:PureF) (n:Nat) (hcall:call = callP tabs isP pu (inl pu)) {args:LV} {v:Value} (hm:m71 pu n args = some v) (_:∀ x ∈ args,closed2 x = true):args.length≤30∧Run tt call 0 c71_20 (Fr.made 30 args) (pureHeap tabs) (Fin tt 0 [.cell 4 92] v):=by
 subst hcall
 unfold m71 at hm
 replace hm:=ll_uncons hm;obtain ⟨a0,args_0,rfl,hm⟩:=hm
 replace hm:=ll_uncons hm;obtain ⟨a1,args_1,rfl,hm⟩:=hm
 replace hm:=ll_end hm;obtain ⟨rfl,hm⟩:=hm
 replace hm:=inv_vAgg hm;obtain ⟨l0,rfl,hm⟩:=hm
 replace hm:=ll_uncons hm;obtain ⟨v0,l3821_0,rfl,hm⟩:=hm
 replace hm:=ll_uncons hm;obtain ⟨v1,l3821_1,rfl,hm⟩:=hm
 replace hm:=ll_end hm;obtain ⟨rfl,hm⟩:=hm
 replace hm:=inv_toI hm;obtain ⟨x0,rfl,hm⟩:=hm
 replace hm:=inv_toI hm;obtain ⟨x1,rfl,hm⟩:=hm
 replace hm:=inv_toI hm;obtain ⟨x2,rfl,hm⟩:=hm
 unfold m71_ at hm
 refine ⟨by simp,?_⟩
 refine .same (F':=(fr 30 [(0,(.agg ⟨[zI x0,.int .u32 x1]⟩)),(1,zI x2)])) (H':=(hp 0 [])) (by kernel_rfl) (by kernel_rfl) ?_
 refine .then (.rK ?_)
 refine .ghs (fr 30 [(1,zI x2),(2,(pt 0 0)),(4,pt 1 0)]) (hp 2 [(oC [zI x0,.int .u32 x1]),(oC [(zI (0:Int)),(.int .u32 (0:Int))])]) (.k0 [] [.tmp 2 false,.tmp 4 false] [1,2,4]) ?_
 refine .then (.rK ?_)
 refine .ghs (fr 30 [(1,zI x2),(2,(pt 0 0)),(4,pt 1 0),(5,(pt 2 0))]) (hp 3 [(oC [zI x0,.int .u32 x1]),(oC [(zI (0:Int)),(.int .u32 (0:Int))]),(oC [zI x0,(.int .u32 (0:Int))])]) (.k0 [] [.tmp 2 false,.tmp 4 false,.tmp 5 false] [1,2,4,5]) ?_
 refine .join (v:=v) (fun y:Int×Int×Int×Int=>((fr 30 [(4,(pt 0 0)),(5,pt 1 0)]),(hp 2 [(oC [(zI y.1),(.int .u32 y.2.1)]),(oC [(zI y.2.2.1),(.int .u32 y.2.2.2)])]))) (fun y=>m71_0 pu n y.1 y.2.1 y.2.2.1 y.2.2.2) ?_ ?_
 ·rintro ⟨z0, z1, z2, z3⟩ hm
  exact w71_0 pu n z0 z1 z2 z3 hm
 ·refine .then ?_
  replace hm:=oo_inv hm;obtain ⟨v2,h0,hm⟩:=hm
  replace hm:=inv_toSl hm;obtain ⟨s0,rfl,hm⟩:=hm
  refine .reg (eC 1 ((oo (pu 80 [(.agg ⟨[zI x0,.int .u32 x1]⟩)]) none fun v=>some (v,(hp 3 [(oC [zI x0,.int .u32 x1]),(oC [(zI (0:Int)),(.int .u32 (0:Int))]),(oC [zI x0,(.int .u32 (0:Int))])])))) (call_eq h0) (eE)) ?_
  refine .ghs (fr 30 [(1,zI x2),(2,(pt 0 0)),(4,pt 1 0),(5,(pt 2 0)),(12,Sl.v 1 s0),(13,(zI (Int.ofNat (Sl.n s0)))),(14,(zI (0:Int)))]) (hp 3 [(oC [zI x0,.int .u32 x1]),(oC [(zI (0:Int)),(.int .u32 (0:Int))]),(oC [zI x0,(.int .u32 (0:Int))])]) (.k0 [] [.tmp 2 false,.tmp 4 false,.tmp 5 false] [1,2,4,5,12,13,14]) ?_
  refine .block ?_
  refine .loopM (v:=v) (fun y:Int×Sl×Int×Int×Int×Int×Int×Int×Int×Int=>((fr 30 [(1,(zI y.1)),(2,(pt 0 0)),(4,pt 1 0),(5,(pt 2 0)),(12,(Sl.v 1 y.2.1)),(13,(zI y.2.2.1)),(14,(zI y.2.2.2.1))]),(hp 3 [(oC [(zI y.2.2.2.2.1),(.int .u32 y.2.2.2.2.2.1)]),(oC [(zI y.2.2.2.2.2.2.1),(.int .u32 y.2.2.2.2.2.2.2.1)]),(oC [(zI y.2.2.2.2.2.2.2.2.1),(.int .u32 y.2.2.2.2.2.2.2.2.2)])]))) (fun w y=>l71_1 pu n w y.1 y.2.1 y.2.2.1 y.2.2.2.1 y.2.2.2.2.1 y.2.2.2.2.2.1 y.2.2.2.2.2.2.1 y.2.2.2.2.2.2.2.1 y.2.2.2.2.2.2.2.2.1 y.2.2.2.2.2.2.2.2.2) n ⟨(x2,s0,(Int.ofNat (Sl.n s0)),(0:Int),x0,x1,(0:Int),(0:Int),x0,(0:Int)),hm,(.k0 [] [.tmp 2 false,.tmp 4 false,.tmp 5 false] [1,2,4,5,12,13,14])⟩ (fun _=>rfl) ?_
  rintro w0 ⟨z4,s1,z5,z6,z7,z8,z9,z10,z11,z12⟩ hm
  replace hm:b71_1 pu n (l71_1 pu n w0) z4 s1 z5 z6 z7 z8 z9 z10 z11 z12 = some v:=hm
  unfold b71_1 at hm
  refine .then (.rK ?_)
  refine .ghs (fr 30 [(1,zI z4),(2,(pt 0 0)),(4,pt 1 0),(5,(pt 2 0)),(12,Sl.v 1 s1),(13,zI z5),(14,zI z6),(15,(zB (ilt z6 z5)))]) (hp 3 [(oC [zI z7,.int .u32 z8]),(oC [zI z9,.int .u32 z10]),(oC [zI z11,.int .u32 z12])]) (.k0 [] [.tmp 2 false,.tmp 4 false,.tmp 5 false] [1,2,4,5,12,13,14,15]) ?_
  refine .then ?_
  replace hm:=bb_cases hm;rcases hm with ⟨h1,hm⟩ | ⟨h1,hm⟩
  ·refine .ifT (ilt z6 z5) (by kernel_rfl) h1 ?_
   refine .skip ?_
   refine .ghs (fr 30 [(1,zI z4),(2,(pt 0 0)),(4,pt 1 0),(5,(pt 2 0)),(12,Sl.v 1 s1),(13,zI z5),(14,zI z6)]) (hp 3 [(oC [zI z7,.int .u32 z8]),(oC [zI z9,.int .u32 z10]),(oC [zI z11,.int .u32 z12])]) (.k0 [] [.tmp 2 false,.tmp 4 false,.tmp 5 false] [1,2,4,5,12,13,14]) ?_
   refine .then ?_
   refine .block ?_
   refine .then ?_
   replace hm:=oo_inv hm;obtain ⟨k1,h2,hm⟩:=hm
   obtain rfl:=toN_some h2
   replace hm:=bb_inv hm;obtain ⟨h3,hm⟩:=hm
   replace hm:=oo_inv hm;obtain ⟨v3,h4,hm⟩:=hm
   replace hm:=inv_toI hm;obtain ⟨x3,rfl,hm⟩:=hm
   refine .reg (eD (keep (hp 3 [(oC [zI z7,.int .u32 z8]),(oC [zI z9,.int .u32 z10]),(oC [zI z11,.int .u32 z12])]) (bb (an (Nat.blt k1 (Sl.n s1)) true) (some (fpV (k1 * 1) (Sl.cs s1))) none)) (keep_bb h3) (eD (keep (hp 3 [(oC [zI z7,.int .u32 z8]),(oC [zI z9,.int .u32 z10]),(oC [zI z11,.int .u32 z12])]) (nthL (Sl.cs s1) (k1 * 1))) (keep_eq h4) (eE))) ?_
   refine .ghs (fr 30 [(1,zI z4),(2,(pt 0 0)),(4,pt 1 0),(5,(pt 2 0)),(7,zI x3),(12,Sl.v 1 s1),(13,zI z5),(14,(zI (Int.ofNat k1)))]) (hp 3 [(oC [zI z7,.int .u32 z8]),(oC [zI z9,.int .u32 z10]),(oC [zI z11,.int .u32 z12])]) (.k0 [] [.tmp 2 false,.tmp 4 false,.tmp 5 false] [1,2,4,5,7,12,13,14]) ?_
   replace hm:=oo_inv hm;obtain ⟨v4,h5,hm⟩:=hm
   replace hm:=inv_toI hm;obtain ⟨x4,rfl,hm⟩:=hm
   replace hm:=oo_inv hm;obtain ⟨k2,h6,hm⟩:=hm
   obtain rfl:=toN_some h6
   refine .reg (eC 6 ((oo (pu 62 [(.agg ⟨[zI z7,.int .u32 z8]⟩),(zI (wrapF .i64 (Int.mul x3 z4)))]) none fun v=>some (v,(hp 3 [(oC [zI z7,.int .u32 z8]),(oC [zI z9,.int .u32 z10]),(oC [zI z11,.int .u32 z12])])))) (call_eq h5) (eE)) ?_
   refine .ghs (fr 30 [(1,zI z4),(2,(pt 0 0)),(4,pt 1 0),(5,(pt 2 0)),(12,Sl.v 1 s1),(13,zI z5),(14,(zI (Int.ofNat k1)))]) (hp 3 [(oC [zI z7,.int .u32 z8]),(oC [zI z9,.int .u32 z10]),(oC [zI z11,(.int .u32 (aor .u32 z12 (shlI .u32 (1:Int) k2)))])]) (.k0 [] [.tmp 2 false,.tmp 4 false,.tmp 5 false] [1,2,4,5,12,13,14]) ?_
   refine .rK ?_
   exact ⟨(z4,s1,z5,(wrapF .i64 (Int.add (Int.ofNat k1) (1:Int))),z7,z8,z9,z10,z11,(aor .u32 z12 (shlI .u32 (1:Int) k2))),hm,(.k0 [] [.tmp 2 false,.tmp 4 false,.tmp 5 false] [1,2,4,5,12,13,14])⟩
  ·refine .ifF (ilt z6 z5) (by kernel_rfl) h1 ?_
   refine .exit ?_
   exact ⟨(z9,z10,z11,z12),hm,(.k0 [] [.tmp 4 false,.tmp 5 false] [4,5])⟩
def m89_0 (pu:PureF) (n:Nat):OV:=
 (some (.bool true))
def m89_2 (pu:PureF) (n:Nat) (ih0:Int→Int→Int→OV) (z0 z1 z2:Int) (b0:Bool):OV:=
 (bb b0 (some (.bool false)) (ih0 z0 z1 (wrapF .i64 (Int.add z2 (1:Int)))))
def b89_1 (pu:PureF) (n:Nat) (ih0:Int→Int→Int→OV) (z0 z1 z2:Int):OV:=
 (bb (nt (ilt (bb (ilt z1 z0) z1 z0) z2)) (bb (nt (ieq z2 (0:Int))) (bb (ieq (Int.tmod z0 z2) (0:Int)) (bb (nt (ieq z2 (0:Int))) (m89_2 pu n ih0 z0 z1 z2 (ieq (Int.tmod z1 z2) (0:Int))) none) (m89_2 pu n ih0 z0 z1 z2 false)) none) (m89_0 pu n))
def l89_1 (pu:PureF) (n w:Nat):Int→Int→Int→OV:=
 Nat.rec (motive:=fun _=>Int→Int→Int→OV) (fun _ _ _=>none) (fun _ ih0=>b89_1 pu n ih0) w
def m89_ (pu:PureF) (n:Nat) (x0 x1:Int):OV:=
 (l89_1 pu n n x0 x1 (2:Int))
def m89 (pu:PureF) (n:Nat) (args:LV):OV:=
 (ll args none fun a0 args=>(ll args none fun a1 args=>(ll args (oo (toI .i64 a0) none fun x0=>(oo (toI .i64 a1) none fun x1=>(m89_ pu n x0 x1))) fun _ _=>none)))
theorem w89_0 (pu:PureF) (n:Nat) {v:Value} (hm:m89_0 pu n = some v):Run tt (callP tabs isP pu (inl pu)) 0 c89_18 (fr 23 []) (hp 0 []) (Fin tt 0 [.tmp 4] v):=by
 unfold m89_0 at hm
 refine .then (.rK ?_)
 refine .ghs (fr 23 [(4,zB true)]) (hp 0 []) (.k0 [] [] [4]) ?_
 refine .ret ?_
 exact fin_ret (zB true) (by kernel_rfl) (by kernel_rfl) hm
theorem r89 {call:CallF} (pu:PureF) (n:Nat) (hcall:call = callP tabs isP pu (inl pu)) {args:LV} {v:Value} (hm:m89 pu n args = some v) (_:∀ x ∈ args,closed2 x = true):args.length≤23∧Run tt call 0 c89_20 (Fr.made 23 args) (pureHeap tabs) (Fin tt 0 [.tmp 4] v):=by
 subst hcall
 unfold m89 at hm
 replace hm:=ll_uncons hm;obtain ⟨a0,args_0,rfl,hm⟩:=hm
 replace hm:=ll_uncons hm;obtain ⟨a1,args_1,rfl,hm⟩:=hm
 replace hm:=ll_end hm;obtain ⟨rfl,hm⟩:=hm
 replace hm:=inv_toI hm;obtain ⟨x0,rfl,hm⟩:=hm
 replace hm:=inv_toI hm;obtain ⟨x1,rfl,hm⟩:=hm
 unfold m89_ at hm
 refine ⟨by simp,?_⟩
 refine .same (F':=(fr 23 [(0,zI x0),(1,zI x1)])) (H':=(hp 0 [])) (by kernel_rfl) (by kernel_rfl) ?_
 refine .then (.rK ?_)
 refine .ghs (fr 23 [(0,zI x0),(1,zI x1)]) (hp 0 []) (.k0 [] [] [0,1]) ?_
 refine .join (v:=v) (fun y:Unit=>((fr 23 []),(hp 0 []))) (fun y=>m89_0 pu n) ?_ ?_
 ·rintro _ hm
  exact w89_0 pu n hm
 ·refine .then (.rK ?_)
  refine .ghs (fr 23 [(0,zI x0),(1,zI x1),(5,(zI (2:Int)))]) (hp 0 []) (.k0 [] [] [0,1,5]) ?_
  refine .block ?_
  refine .loopM (v:=v) (fun y:Int×Int×Int=>((fr 23 [(0,(zI y.1)),(1,(zI y.2.1)),(5,(zI y.2.2))]),(hp 0 []))) (fun w y=>l89_1 pu n w y.1 y.2.1 y.2.2) n ⟨(x0,x1,(2:Int)),hm,(.k0 [] [] [0,1,5])⟩ (fun _=>rfl) ?_
  rintro w0 ⟨z0,z1,z2⟩ hm
  replace hm:b89_1 pu n (l89_1 pu n w0) z0 z1 z2 = some v:=hm
  unfold b89_1 at hm
  refine .then ?_
  refine .then (.rK ?_)
  refine .ghs (fr 23 [(0,zI z0),(1,zI z1),(5,zI z2),(10,(zB (nt (ilt (bb (ilt z1 z0) z1 z0) z2))))]) (hp 0 []) (.k0 [] [] [0,1,5,10]) ?_
  replace hm:=bb_cases hm;rcases hm with ⟨h0,hm⟩ | ⟨h0,hm⟩
  ·refine .ifT (nt (ilt (bb (ilt z1 z0) z1 z0) z2)) (by kernel_rfl) h0 ?_
   refine .skip ?_
   refine .ghs (fr 23 [(0,zI z0),(1,zI z1),(5,zI z2)]) (hp 0 []) (.k0 [] [] [0,1,5]) ?_
   refine .then ?_
   refine .block ?_
   refine .join (v:=v) (fun y:Int×Int×Int×Bool=>((fr 23 [(0,(zI y.1)),(1,(zI y.2.1)),(5,(zI y.2.2.1)),(22,(zB y.2.2.2))]),(hp 0 []))) (fun y=>m89_2 pu n (l89_1 pu n w0) y.1 y.2.1 y.2.2.1 y.2.2.2) ?_ ?_
   ·rintro ⟨z3, z4, z5, b0⟩ hm
    unfold m89_2 at hm
    replace hm:=bb_cases hm;rcases hm with ⟨h1,hm⟩ | ⟨h1,hm⟩
    ·refine .ifT b0 (by kernel_rfl) h1 ?_
     refine .then (.rK ?_)
     refine .ghs (fr 23 [(4,zB false)]) (hp 0 []) (.k0 [] [] [4]) ?_
     refine .ret ?_
     exact fin_ret (zB false) (by kernel_rfl) (by kernel_rfl) hm
    ·refine .ifF b0 (by kernel_rfl) h1 ?_
     refine .skip ?_
     refine .ghs (fr 23 [(0,zI z3),(1,zI z4),(5,zI z5)]) (hp 0 []) (.k0 [] [] [0,1,5]) ?_
     refine .rK ?_
     exact ⟨(z3,z4,(wrapF .i64 (Int.add z5 (1:Int)))),hm,(.k0 [] [] [0,1,5])⟩
   ·replace hm := bb_inv hm; obtain ⟨h2, hm⟩ := hm
    replace hm:=bb_cases hm;rcases hm with ⟨h3,hm⟩ | ⟨h3,hm⟩
    ·replace hm := bb_inv hm; obtain ⟨h4, hm⟩ := hm
     refine .reg (eC 2 (keep (hp 0 []) (bb (ieq z2 (0:Int)) none (some (zI (Int.tmod z0 z2))))) (keep_nb h2) (eD (some ((zB (ieq (Int.tmod z0 z2) (0:Int))),(hp 0 []))) (show _ = some ((zB true),_) from (by rw [show (ieq (Int.tmod z0 z2) (0:Int)) = true from h3])) (eC 3 (keep (hp 0 []) (bb (ieq z2 (0:Int)) none (some (zI (Int.tmod z1 z2))))) (keep_nb h4) (eE)))) ?_
     exact ⟨(z0,z1,z2,(ieq (Int.tmod z1 z2) (0:Int))),hm,(.k0 [] [] [0,1,5,22])⟩
    ·refine .reg (eC 2 (keep (hp 0 []) (bb (ieq z2 (0 : Int)) none (some (zI (Int.tmod z0 z2))))) (keep_nb h2) (eD (some ((zB (ieq (Int.tmod z0 z2) (0 : Int))), (hp 0 []))) (show _ = some ((zB false), _) from (by rw [show (ieq (Int.tmod z0 z2) (0 : Int)) = false from h3])) (eE))) ?_
     exact ⟨(z0,z1,z2,false),hm,(.k0 [] [] [0,1,5,22])⟩
  ·refine .ifF (nt (ilt (bb (ilt z1 z0) z1 z0) z2)) (by kernel_rfl) h0 ?_
   refine .exit ?_
   exact ⟨(),hm,(.k0 [] [] [])⟩

def m92_ (pu:PureF) (n:Nat) (x0 x1:Int):OV:=
 (oo (pu 98 [.int .i64 x0]) none fun v0=>(oo (vBool v0) none fun b0=>(oo (pu 98 [.int .i64 x1]) none fun v1=>(oo (vBool v1) none fun b1=>(bb b0 (bb b1 (some (.int .i64 (0:Int))) (some (.int .i64 (-1:Int)))) (bb b1 (some (.int .i64 (1:Int))) (bb (ilt x0 x1) (some (.int .i64 (-1:Int))) (bb (ilt x1 x0) (some (.int .i64 (1:Int))) (some (.int .i64 (0:Int)))))))))))
def m92 (pu:PureF) (n:Nat) (args:LV):OV:=
 (ll args none fun a0 args=>(ll args none fun a1 args=>(ll args (oo (toI .i64 a0) none fun x0=>(oo (toI .i64 a1) none fun x1=>(m92_ pu n x0 x1))) fun _ _=>none)))
theorem r92 {call:CallF} (pu:PureF) (n:Nat) (hcall:call = callP tabs isP pu (inl pu)) {args:LV} {v:Value} (hm:m92 pu n args = some v) (_:∀ x ∈ args,closed2 x = true):args.length≤20∧Run tt call 0 c92_37 (Fr.made 20 args) (pureHeap tabs) (Fin tt 0 [.tmp 4] v):=by
 subst hcall
 unfold m92 at hm
 replace hm:=ll_uncons hm;obtain ⟨a0,args_0,rfl,hm⟩:=hm
 replace hm:=ll_uncons hm;obtain ⟨a1,args_1,rfl,hm⟩:=hm
 replace hm:=ll_end hm;obtain ⟨rfl,hm⟩:=hm
 replace hm:=inv_toI hm;obtain ⟨x0,rfl,hm⟩:=hm
 replace hm:=inv_toI hm;obtain ⟨x1,rfl,hm⟩:=hm
 unfold m92_ at hm
 refine ⟨by simp,?_⟩
 refine .same (F':=(fr 20 [(0,zI x0),(1,zI x1)])) (H':=(hp 0 [])) (by kernel_rfl) (by kernel_rfl) ?_
 refine .then (.rK ?_)
 refine .ghs (fr 20 [(0,zI x0),(1,zI x1)]) (hp 0 []) (.k0 [] [] [0,1]) ?_
 refine .then ?_
 replace hm:=oo_inv hm;obtain ⟨v0,h0,hm⟩:=hm
 replace hm:=inv_vBool hm;obtain ⟨b0,rfl,hm⟩:=hm
 refine .reg (eC 1 ((oo (pu 98 [zI x0]) none fun v=>some (v,(hp 0 [])))) (call_eq h0) (eE)) ?_
 refine .ghs (fr 20 [(0,zI x0),(1,zI x1),(5,zB b0)]) (hp 0 []) (.k0 [] [] [0,1,5]) ?_
 refine .then ?_
 replace hm:=oo_inv hm;obtain ⟨v1,h1,hm⟩:=hm
 replace hm:=inv_vBool hm;obtain ⟨b1,rfl,hm⟩:=hm
 refine .reg (eC 1 ((oo (pu 98 [zI x1]) none fun v=>some (v,(hp 0 [])))) (call_eq h1) (eE)) ?_
 refine .ghs (fr 20 [(0,zI x0),(1,zI x1),(5,zB b0),(6,zB b1)]) (hp 0 []) (.k0 [] [] [0,1,5,6]) ?_
 refine .then ?_
 refine .then (.rK ?_)
 refine .ghs (fr 20 [(0,zI x0),(1,zI x1),(6,zB b1),(11,zB b0)]) (hp 0 []) (.k0 [] [] [0,1,6,11]) ?_
 replace hm:=bb_cases hm;rcases hm with ⟨h2,hm⟩ | ⟨h2,hm⟩
 ·refine .ifT b0 (by kernel_rfl) h2 ?_
  refine .then ?_
  refine .then (.rK ?_)
  refine .ghs (fr 20 [(12,zB b1)]) (hp 0 []) (.k0 [] [] [12]) ?_
  replace hm:=bb_cases hm;rcases hm with ⟨h3,hm⟩ | ⟨h3,hm⟩
  ·refine .ifT b1 (by kernel_rfl) h3 ?_
   refine .then (.rK ?_)
   refine .ghs (fr 20 [(4,(zI (0:Int)))]) (hp 0 []) (.k0 [] [] [4]) ?_
   refine .ret ?_
   exact fin_ret (zI (0:Int)) (by kernel_rfl) (by kernel_rfl) hm
  ·refine .ifF b1 (by kernel_rfl) h3 ?_
   refine .skip ?_
   refine .ghs (fr 20 []) (hp 0 []) (.k0 [] [] []) ?_
   refine .then (.rK ?_)
   refine .ghs (fr 20 [(4,(zI (-1:Int)))]) (hp 0 []) (.k0 [] [] [4]) ?_
   refine .ret ?_
   exact fin_ret (zI (-1:Int)) (by kernel_rfl) (by kernel_rfl) hm
 ·refine .ifF b0 (by kernel_rfl) h2 ?_
  refine .skip ?_
  refine .ghs (fr 20 [(0,zI x0),(1,zI x1),(6,zB b1)]) (hp 0 []) (.k0 [] [] [0,1,6]) ?_
  refine .then ?_
  refine .then (.rK ?_)
  refine .ghs (fr 20 [(0,zI x0),(1,zI x1),(13,zB b1)]) (hp 0 []) (.k0 [] [] [0,1,13]) ?_
  replace hm:=bb_cases hm;rcases hm with ⟨h4,hm⟩ | ⟨h4,hm⟩
  ·refine .ifT b1 (by kernel_rfl) h4 ?_
   refine .then (.rK ?_)
   refine .ghs (fr 20 [(4,(zI (1:Int)))]) (hp 0 []) (.k0 [] [] [4]) ?_
   refine .ret ?_
   exact fin_ret (zI (1:Int)) (by kernel_rfl) (by kernel_rfl) hm
  ·refine .ifF b1 (by kernel_rfl) h4 ?_
   refine .skip ?_
   refine .ghs (fr 20 [(0,zI x0),(1,zI x1)]) (hp 0 []) (.k0 [] [] [0,1]) ?_
   refine .then ?_
   refine .then (.rK ?_)
   refine .ghs (fr 20 [(0,zI x0),(1,zI x1),(16,(zB (ilt x0 x1)))]) (hp 0 []) (.k0 [] [] [0,1,16]) ?_
   replace hm:=bb_cases hm;rcases hm with ⟨h5,hm⟩ | ⟨h5,hm⟩
   ·refine .ifT (ilt x0 x1) (by kernel_rfl) h5 ?_
    refine .then (.rK ?_)
    refine .ghs (fr 20 [(4,(zI (-1:Int)))]) (hp 0 []) (.k0 [] [] [4]) ?_
    refine .ret ?_
    exact fin_ret (zI (-1:Int)) (by kernel_rfl) (by kernel_rfl) hm
   ·refine .ifF (ilt x0 x1) (by kernel_rfl) h5 ?_
    refine .skip ?_
    refine .ghs (fr 20 [(0,zI x0),(1,zI x1)]) (hp 0 []) (.k0 [] [] [0,1]) ?_
    refine .then ?_
    refine .then (.rK ?_)
    refine .ghs (fr 20 [(19,(zB (ilt x1 x0)))]) (hp 0 []) (.k0 [] [] [19]) ?_
    replace hm:=bb_cases hm;rcases hm with ⟨h6,hm⟩ | ⟨h6,hm⟩
    ·refine .ifT (ilt x1 x0) (by kernel_rfl) h6 ?_
     refine .then (.rK ?_)
     refine .ghs (fr 20 [(4,(zI (1:Int)))]) (hp 0 []) (.k0 [] [] [4]) ?_
     refine .ret ?_
     exact fin_ret (zI (1:Int)) (by kernel_rfl) (by kernel_rfl) hm
    ·refine .ifF (ilt x1 x0) (by kernel_rfl) h6 ?_
     refine .skip ?_
     refine .ghs (fr 20 []) (hp 0 []) (.k0 [] [] []) ?_
     refine .then (.rK ?_)
     refine .ghs (fr 20 [(4,(zI (0:Int)))]) (hp 0 []) (.k0 [] [] [4]) ?_
     refine .ret ?_
     exact fin_ret (zI (0:Int)) (by kernel_rfl) (by kernel_rfl) hm
end
end Go.RgCM
