/- Made from wip. -/
import Derived.Test.YtommhepgkaddaaaGreatHpYMod1x

set_option maxRecDepth 100000
set_option maxHeartbeats 20000000
set_option linter.unusedVariables false
namespace Go.HpYM
open Go.Sp Go.HpY
noncomputable section
def m13_0 (pu:PureF) (n:Nat) (s0 s1:Sl):OV:=
 (bb (ilt (Int.ofNat (Sl.n s0)) (Int.ofNat (Sl.n s1))) (some (.int .i64 (-1:Int))) (some (.int .i64 (0:Int))))
def b13_1 (pu:PureF) (n:Nat) (ih0:Sl→Sl→Sl→Int→Int→OV) (s0 s1 s2:Sl) (z0 z1:Int):OV:=
 (bb (ilt z1 z0) (oo (toN z1) none fun k1=>(bb (an (Nat.blt k1 (Sl.n s2)) true) (oo (nthL (Sl.cs s2) (k1 * 1)) none fun v0=>(oo (toI .i64 v0) none fun x0=>(bb (nt (ilt (Int.ofNat k1) (Int.ofNat (Sl.n s1)))) (some (.int .i64 (1:Int))) (bb (an (Nat.blt k1 (Sl.n s1)) true) (oo (nthL (Sl.cs s1) (k1 * 1)) none fun v1=>(oo (toI .i64 v1) none fun x1=>(oo (pu 28 [.int .i64 x0,.int .i64 x1]) none fun v2=>(oo (toI .i64 v2) none fun x2=>(bb (nt (ieq x2 (0:Int))) (some (.int .i64 x2)) (ih0 s0 s1 s2 z0 (wrapF .i64 (Int.add (Int.ofNat k1) (1:Int))))))))) none)))) none)) (m13_0 pu n s0 s1))
def l13_1 (pu:PureF) (n w:Nat):Sl→Sl→Sl→Int→Int→OV:=
 Nat.rec (motive:=fun _=>Sl→Sl→Sl→Int→Int→OV) (fun _ _ _ _ _=>none) (fun _ ih0=>b13_1 pu n ih0) w
def m13_ (pu:PureF) (n:Nat) (s0 s1:Sl):OV:=
 (l13_1 pu n n s0 s1 s0 (Int.ofNat (Sl.n s0)) (0:Int))
def m13 (pu:PureF) (n:Nat) (args:LV):OV:=
 (ll args none fun a0 args=>(ll args none fun a1 args=>(ll args (oo (toSl 1 a0) none fun s0=>(oo (toSl 1 a1) none fun s1=>(m13_ pu n s0 s1))) fun _ _=>none)))
theorem w13_0 (pu:PureF) (n:Nat) (s0 s1:Sl) {v:Value} (hm:m13_0 pu n s0 s1 = some v):Run tt (callP tabs isP pu (inl pu)) 0 c13_36 (fr 36 [(0,Sl.v 1 s0),(1,Sl.v 1 s1)]) (hp 0 []) (Fin tt 0 [.tmp 4] v):=by
 unfold m13_0 at hm
 refine .then ?_
 refine .then (.rK ?_)
 refine .ghs (fr 36 [(35,(zB (ilt (Int.ofNat (Sl.n s0)) (Int.ofNat (Sl.n s1)))))]) (hp 0 []) (.k0 [] [] [35]) ?_
 replace hm:=bb_cases hm;rcases hm with ⟨h0,hm⟩ | ⟨h0,hm⟩
 ·refine .ifT (ilt (Int.ofNat (Sl.n s0)) (Int.ofNat (Sl.n s1))) (by kernel_rfl) h0 ?_
  refine .then (.rK ?_)
  refine .ghs (fr 36 [(4,(zI (-1:Int)))]) (hp 0 []) (.k0 [] [] [4]) ?_
  refine .ret ?_
  exact fin_ret (zI (-1:Int)) (by kernel_rfl) (by kernel_rfl) hm
 ·refine .ifF (ilt (Int.ofNat (Sl.n s0)) (Int.ofNat (Sl.n s1))) (by kernel_rfl) h0 ?_
  refine .skip ?_
  refine .ghs (fr 36 []) (hp 0 []) (.k0 [] [] []) ?_
  refine .then (.rK ?_)
  refine .ghs (fr 36 [(4,(zI (0:Int)))]) (hp 0 []) (.k0 [] [] [4]) ?_
  refine .ret ?_
  exact fin_ret (zI (0:Int)) (by kernel_rfl) (by kernel_rfl) hm
theorem r13 {call:CallF} (pu:PureF) (n:Nat) (hcall:call = callP tabs isP pu (inl pu)) {args:LV} {v:Value} (hm:m13 pu n args = some v) (_:∀ x ∈ args,closed2 x = true):args.length≤36∧Run tt call 0 c13_38 (Fr.made 36 args) (pureHeap tabs) (Fin tt 0 [.tmp 4] v):=by
 subst hcall
 unfold m13 at hm
 replace hm:=ll_uncons hm;obtain ⟨a0,args_0,rfl,hm⟩:=hm
 replace hm:=ll_uncons hm;obtain ⟨a1,args_1,rfl,hm⟩:=hm
 replace hm:=ll_end hm;obtain ⟨rfl,hm⟩:=hm
 replace hm:=inv_toSl hm;obtain ⟨s0,rfl,hm⟩:=hm
 replace hm:=inv_toSl hm;obtain ⟨s1,rfl,hm⟩:=hm
 unfold m13_ at hm
 refine ⟨by simp,?_⟩
 refine .same (F':=(fr 36 [(0,Sl.v 1 s0),(1,Sl.v 1 s1)])) (H':=(hp 0 [])) (by kernel_rfl) (by kernel_rfl) ?_
 refine .then (.rK ?_)
 refine .ghs (fr 36 [(0,Sl.v 1 s0),(1,Sl.v 1 s1)]) (hp 0 []) (.k0 [] [] [0,1]) ?_
 refine .join (v:=v) (fun y:Sl×Sl=>((fr 36 [(0,(Sl.v 1 y.1)),(1,(Sl.v 1 y.2))]),(hp 0 []))) (fun y=>m13_0 pu n y.1 y.2) ?_ ?_
 ·rintro ⟨s2, s3⟩ hm
  exact w13_0 pu n s2 s3 hm
 ·refine .then (.rK ?_)
  refine .ghs (fr 36 [(0,Sl.v 1 s0),(1,Sl.v 1 s1),(9,Sl.v 1 s0),(10,(zI (Int.ofNat (Sl.n s0)))),(11,(zI (0:Int)))]) (hp 0 []) (.k0 [] [] [0,1,9,10,11]) ?_
  refine .block ?_
  refine .loopM (v:=v) (fun y:Sl×Sl×Sl×Int×Int=>((fr 36 [(0,(Sl.v 1 y.1)),(1,(Sl.v 1 y.2.1)),(9,(Sl.v 1 y.2.2.1)),(10,(zI y.2.2.2.1)),(11,(zI y.2.2.2.2))]),(hp 0 []))) (fun w y=>l13_1 pu n w y.1 y.2.1 y.2.2.1 y.2.2.2.1 y.2.2.2.2) n ⟨(s0,s1,s0,(Int.ofNat (Sl.n s0)),(0:Int)),hm,(.k0 [] [] [0,1,9,10,11])⟩ (fun _=>rfl) ?_
  rintro w0 ⟨s4,s5,s6,z0,z1⟩ hm
  replace hm:b13_1 pu n (l13_1 pu n w0) s4 s5 s6 z0 z1 = some v:=hm
  unfold b13_1 at hm
  refine .then (.rK ?_)
  refine .ghs (fr 36 [(0,Sl.v 1 s4),(1,Sl.v 1 s5),(9,Sl.v 1 s6),(10,zI z0),(11,zI z1),(12,(zB (ilt z1 z0)))]) (hp 0 []) (.k0 [] [] [0,1,9,10,11,12]) ?_
  refine .then ?_
  replace hm:=bb_cases hm;rcases hm with ⟨h0,hm⟩ | ⟨h0,hm⟩
  ·refine .ifT (ilt z1 z0) (by kernel_rfl) h0 ?_
   refine .skip ?_
   refine .ghs (fr 36 [(0,Sl.v 1 s4),(1,Sl.v 1 s5),(9,Sl.v 1 s6),(10,zI z0),(11,zI z1)]) (hp 0 []) (.k0 [] [] [0,1,9,10,11]) ?_
   refine .then ?_
   refine .block ?_
   refine .then ?_
   replace hm:=oo_inv hm;obtain ⟨k1,h1,hm⟩:=hm
   obtain rfl:=toN_some h1
   replace hm:=bb_inv hm;obtain ⟨h2,hm⟩:=hm
   replace hm:=oo_inv hm;obtain ⟨v0,h3,hm⟩:=hm
   replace hm:=inv_toI hm;obtain ⟨x0,rfl,hm⟩:=hm
   refine .reg (eC 1 (keep (hp 0 []) (bb (an (Nat.blt k1 (Sl.n s6)) true) (some (fpV (k1 * 1) (Sl.cs s6))) none)) (keep_bb h2) (eD (keep (hp 0 []) (nthL (Sl.cs s6) (k1 * 1))) (keep_eq h3) (eE))) ?_
   refine .ghs (fr 36 [(0,Sl.v 1 s4),(1,Sl.v 1 s5),(5,(zI (Int.ofNat k1))),(6,zI x0),(9,Sl.v 1 s6),(10,zI z0),(11,(zI (Int.ofNat k1)))]) (hp 0 []) (.k0 [] [] [0,1,5,6,9,10,11]) ?_
   refine .then ?_
   refine .then (.rK ?_)
   refine .ghs (fr 36 [(0,Sl.v 1 s4),(1,Sl.v 1 s5),(5,(zI (Int.ofNat k1))),(6,zI x0),(9,Sl.v 1 s6),(10,zI z0),(11,(zI (Int.ofNat k1))),(19,(zB (nt (ilt (Int.ofNat k1) (Int.ofNat (Sl.n s5))))))]) (hp 0 []) (.k0 [] [] [0,1,5,6,9,10,11,19]) ?_
   replace hm:=bb_cases hm;rcases hm with ⟨h4,hm⟩ | ⟨h4,hm⟩
   ·refine .ifT (nt (ilt (Int.ofNat k1) (Int.ofNat (Sl.n s5)))) (by kernel_rfl) h4 ?_
    refine .then (.rK ?_)
    refine .ghs (fr 36 [(4,(zI (1:Int)))]) (hp 0 []) (.k0 [] [] [4]) ?_
    refine .ret ?_
    exact fin_ret (zI (1:Int)) (by kernel_rfl) (by kernel_rfl) hm
   ·refine .ifF (nt (ilt (Int.ofNat k1) (Int.ofNat (Sl.n s5)))) (by kernel_rfl) h4 ?_
    refine .skip ?_
    refine .ghs (fr 36 [(0,Sl.v 1 s4),(1,Sl.v 1 s5),(5,(zI (Int.ofNat k1))),(6,zI x0),(9,Sl.v 1 s6),(10,zI z0),(11,(zI (Int.ofNat k1)))]) (hp 0 []) (.k0 [] [] [0,1,5,6,9,10,11]) ?_
    refine .then ?_
    replace hm:=bb_inv hm;obtain ⟨h5,hm⟩:=hm
    replace hm:=oo_inv hm;obtain ⟨v1,h6,hm⟩:=hm
    replace hm:=inv_toI hm;obtain ⟨x1,rfl,hm⟩:=hm
    refine .reg (eC 2 (keep (hp 0 []) (bb (an (Nat.blt k1 (Sl.n s5)) true) (some (fpV (k1 * 1) (Sl.cs s5))) none)) (keep_bb h5) (eD (keep (hp 0 []) (nthL (Sl.cs s5) (k1 * 1))) (keep_eq h6) (eE))) ?_
    refine .ghs (fr 36 [(0,Sl.v 1 s4),(1,Sl.v 1 s5),(6,zI x0),(7,zI x1),(9,Sl.v 1 s6),(10,zI z0),(11,(zI (Int.ofNat k1)))]) (hp 0 []) (.k0 [] [] [0,1,6,7,9,10,11]) ?_
    refine .then ?_
    replace hm:=oo_inv hm;obtain ⟨v2,h7,hm⟩:=hm
    replace hm:=inv_toI hm;obtain ⟨x2,rfl,hm⟩:=hm
    refine .reg (eC 2 ((oo (pu 28 [zI x0,zI x1]) none fun v=>some (v,(hp 0 [])))) (call_eq h7) (eE)) ?_
    refine .ghs (fr 36 [(0,Sl.v 1 s4),(1,Sl.v 1 s5),(8,zI x2),(9,Sl.v 1 s6),(10,zI z0),(11,(zI (Int.ofNat k1)))]) (hp 0 []) (.k0 [] [] [0,1,8,9,10,11]) ?_
    refine .then (.rK ?_)
    refine .ghs (fr 36 [(0,Sl.v 1 s4),(1,Sl.v 1 s5),(8,zI x2),(9,Sl.v 1 s6),(10,zI z0),(11,(zI (Int.ofNat k1))),(28,(zB (nt (ieq x2 (0:Int)))))]) (hp 0 []) (.k0 [] [] [0,1,8,9,10,11,28]) ?_
    replace hm:=bb_cases hm;rcases hm with ⟨h8,hm⟩ | ⟨h8,hm⟩
    ·refine .ifT (nt (ieq x2 (0 : Int))) (by kernel_rfl) h8 ?_
     refine .then (.rK ?_)
     refine .ghs (fr 36 [(4,zI x2)]) (hp 0 []) (.k0 [] [] [4]) ?_
     refine .ret ?_
     exact fin_ret (zI x2) (by kernel_rfl) (by kernel_rfl) hm
    ·refine .ifF (nt (ieq x2 (0 : Int))) (by kernel_rfl) h8 ?_
     refine .skip ?_
     refine .ghs (fr 36 [(0,Sl.v 1 s4),(1,Sl.v 1 s5),(9,Sl.v 1 s6),(10,zI z0),(11,(zI (Int.ofNat k1)))]) (hp 0 []) (.k0 [] [] [0,1,9,10,11]) ?_
     refine .rK ?_
     exact ⟨(s4,s5,s6,z0,(wrapF .i64 (Int.add (Int.ofNat k1) (1:Int)))),hm,(.k0 [] [] [0,1,9,10,11])⟩
  ·refine .ifF (ilt z1 z0) (by kernel_rfl) h0 ?_
   refine .exit ?_
   exact ⟨(s4,s5),hm,(.k0 [] [] [0,1])⟩
def m18_0 (pu:PureF) (n:Nat) (z0:Int):OV:=
 (bb (ilt (21:Int) z0) (some (.int .i64 (3:Int))) (some (.int .i64 (0:Int))))
def b18_1 (pu:PureF) (n:Nat) (ih0:Int→Int→Sl→Int→Int→OV) (z0 z1:Int) (s0:Sl) (z2 z3:Int):OV:=
 (bb (ilt z3 z2) (oo (toN z3) none fun k1=>(bb (an (Nat.blt k1 (Sl.n s0)) true) (oo (nthL (Sl.cs s0) (k1 * 1)) none fun v0=>(oo (toI .i64 v0) none fun x0=>(oo (pu 22 [(.int .i64 (1:Int)),.int .i64 x0,(.int .i64 (21:Int))]) none fun v1=>(oo (vBool v1) none fun b0=>(bb (nt b0) (some (.int .i64 (1:Int))) (bb (ilt z1 x0) (some (.int .i64 (7:Int))) (ih0 (bb (ilt (22:Int) (wrapF .i64 (Int.add z0 x0))) (22:Int) (wrapF .i64 (Int.add z0 x0))) x0 s0 z2 (wrapF .i64 (Int.add (Int.ofNat k1) (1:Int)))))))))) none)) (m18_0 pu n z0))
def l18_1 (pu:PureF) (n w:Nat):Int→Int→Sl→Int→Int→OV:=
 Nat.rec (motive:=fun _=>Int→Int→Sl→Int→Int→OV) (fun _ _ _ _ _=>none) (fun _ ih0=>b18_1 pu n ih0) w
def m18_ (pu:PureF) (n:Nat) (s0:Sl):OV:=
 (bb (ieq (Int.ofNat (Sl.n s0)) (0:Int)) (some (.int .i64 (4:Int))) (l18_1 pu n n (0:Int) (21:Int) s0 (Int.ofNat (Sl.n s0)) (0:Int)))
def m18 (pu:PureF) (n:Nat) (args:LV):OV:=
 (ll args none fun a0 args=>(ll args (oo (toSl 1 a0) none fun s0=>(m18_ pu n s0)) fun _ _=>none))
theorem w18_0 (pu:PureF) (n:Nat) (z0:Int) {v:Value} (hm:m18_0 pu n z0 = some v):Run tt (callP tabs isP pu (inl pu)) 0 c18_42 (fr 32 [(3,zI z0)]) (hp 0 []) (Fin tt 0 [.tmp 2] v):=by
 unfold m18_0 at hm
 refine .then ?_
 refine .then (.rK ?_)
 refine .ghs (fr 32 [(31,(zB (ilt (21:Int) z0)))]) (hp 0 []) (.k0 [] [] [31]) ?_
 replace hm:=bb_cases hm;rcases hm with ⟨h0,hm⟩ | ⟨h0,hm⟩
 ·refine .ifT (ilt (21 : Int) z0) (by kernel_rfl) h0 ?_
  refine .then (.rK ?_)
  refine .ghs (fr 32 [(2,(zI (3:Int)))]) (hp 0 []) (.k0 [] [] [2]) ?_
  refine .ret ?_
  exact fin_ret (zI (3:Int)) (by kernel_rfl) (by kernel_rfl) hm
 ·refine .ifF (ilt (21 : Int) z0) (by kernel_rfl) h0 ?_
  refine .skip ?_
  refine .ghs (fr 32 []) (hp 0 []) (.k0 [] [] []) ?_
  refine .then (.rK ?_)
  refine .ghs (fr 32 [(2,(zI (0:Int)))]) (hp 0 []) (.k0 [] [] [2]) ?_
  refine .ret ?_
  exact fin_ret (zI (0:Int)) (by kernel_rfl) (by kernel_rfl) hm
theorem r18 {call:CallF} (pu:PureF) (n:Nat) (hcall:call = callP tabs isP pu (inl pu)) {args:LV} {v:Value} (hm:m18 pu n args = some v) (_:∀ x ∈ args,closed2 x = true):args.length≤32∧Run tt call 0 c18_46 (Fr.made 32 args) (pureHeap tabs) (Fin tt 0 [.tmp 2] v):=by
 subst hcall
 unfold m18 at hm
 replace hm:=ll_uncons hm;obtain ⟨a0,args_0,rfl,hm⟩:=hm
 replace hm:=ll_end hm;obtain ⟨rfl,hm⟩:=hm
 replace hm:=inv_toSl hm;obtain ⟨s0,rfl,hm⟩:=hm
 unfold m18_ at hm
 refine ⟨by simp,?_⟩
 refine .same (F':=(fr 32 [(0,Sl.v 1 s0)])) (H':=(hp 0 [])) (by kernel_rfl) (by kernel_rfl) ?_
 refine .then (.rK ?_)
 refine .ghs (fr 32 [(0,Sl.v 1 s0)]) (hp 0 []) (.k0 [] [] [0]) ?_
 refine .then ?_
 refine .then (.rK ?_)
 refine .ghs (fr 32 [(0,Sl.v 1 s0),(9,(zB (ieq (Int.ofNat (Sl.n s0)) (0:Int))))]) (hp 0 []) (.k0 [] [] [0,9]) ?_
 replace hm:=bb_cases hm;rcases hm with ⟨h0,hm⟩ | ⟨h0,hm⟩
 ·refine .ifT (ieq (Int.ofNat (Sl.n s0)) (0 : Int)) (by kernel_rfl) h0 ?_
  refine .then (.rK ?_)
  refine .ghs (fr 32 [(2,(zI (4:Int)))]) (hp 0 []) (.k0 [] [] [2]) ?_
  refine .ret ?_
  exact fin_ret (zI (4:Int)) (by kernel_rfl) (by kernel_rfl) hm
 ·refine .ifF (ieq (Int.ofNat (Sl.n s0)) (0 : Int)) (by kernel_rfl) h0 ?_
  refine .skip ?_
  refine .ghs (fr 32 [(0,Sl.v 1 s0)]) (hp 0 []) (.k0 [] [] [0]) ?_
  refine .then (.rK ?_)
  refine .ghs (fr 32 [(0,Sl.v 1 s0),(3,(zI (0:Int))),(4,(zI (21:Int)))]) (hp 0 []) (.k0 [] [] [0,3,4]) ?_
  refine .join (v:=v) (fun y:Int=>((fr 32 [(3,zI y)]),(hp 0 []))) (fun y=>m18_0 pu n y) ?_ ?_
  ·rintro z0 hm
   exact w18_0 pu n z0 hm
  ·refine .then (.rK ?_)
   refine .ghs (fr 32 [(3,(zI (0:Int))),(4,(zI (21:Int))),(10,Sl.v 1 s0),(11,(zI (Int.ofNat (Sl.n s0)))),(12,(zI (0:Int)))]) (hp 0 []) (.k0 [] [] [3,4,10,11,12]) ?_
   refine .block ?_
   refine .loopM (v:=v) (fun y:Int×Int×Sl×Int×Int=>((fr 32 [(3,(zI y.1)),(4,(zI y.2.1)),(10,(Sl.v 1 y.2.2.1)),(11,(zI y.2.2.2.1)),(12,(zI y.2.2.2.2))]),(hp 0 []))) (fun w y=>l18_1 pu n w y.1 y.2.1 y.2.2.1 y.2.2.2.1 y.2.2.2.2) n ⟨((0:Int),(21:Int),s0,(Int.ofNat (Sl.n s0)),(0:Int)),hm,(.k0 [] [] [3,4,10,11,12])⟩ (fun _=>rfl) ?_
   rintro w0 ⟨z1,z2,s1,z3,z4⟩ hm
   replace hm:b18_1 pu n (l18_1 pu n w0) z1 z2 s1 z3 z4 = some v:=hm
   unfold b18_1 at hm
   refine .then (.rK ?_)
   refine .ghs (fr 32 [(3,zI z1),(4,zI z2),(10,Sl.v 1 s1),(11,zI z3),(12,zI z4),(13,(zB (ilt z4 z3)))]) (hp 0 []) (.k0 [] [] [3,4,10,11,12,13]) ?_
   refine .then ?_
   replace hm:=bb_cases hm;rcases hm with ⟨h1,hm⟩ | ⟨h1,hm⟩
   ·refine .ifT (ilt z4 z3) (by kernel_rfl) h1 ?_
    refine .skip ?_
    refine .ghs (fr 32 [(3,zI z1),(4,zI z2),(10,Sl.v 1 s1),(11,zI z3),(12,zI z4)]) (hp 0 []) (.k0 [] [] [3,4,10,11,12]) ?_
    refine .then ?_
    refine .block ?_
    refine .then ?_
    replace hm:=oo_inv hm;obtain ⟨k1,h2,hm⟩:=hm
    obtain rfl:=toN_some h2
    replace hm:=bb_inv hm;obtain ⟨h3,hm⟩:=hm
    replace hm:=oo_inv hm;obtain ⟨v0,h4,hm⟩:=hm
    replace hm:=inv_toI hm;obtain ⟨x0,rfl,hm⟩:=hm
    refine .reg (eD (keep (hp 0 []) (bb (an (Nat.blt k1 (Sl.n s1)) true) (some (fpV (k1 * 1) (Sl.cs s1))) none)) (keep_bb h3) (eD (keep (hp 0 []) (nthL (Sl.cs s1) (k1 * 1))) (keep_eq h4) (eE))) ?_
    refine .ghs (fr 32 [(3,zI z1),(4,zI z2),(6,zI x0),(10,Sl.v 1 s1),(11,zI z3),(12,(zI (Int.ofNat k1)))]) (hp 0 []) (.k0 [] [] [3,4,6,10,11,12]) ?_
    refine .then ?_
    refine .block ?_
    refine .then ?_
    replace hm:=oo_inv hm;obtain ⟨v1,h5,hm⟩:=hm
    replace hm:=inv_vBool hm;obtain ⟨b0,rfl,hm⟩:=hm
    refine .reg (eC 1 ((oo (pu 22 [(zI (1:Int)),zI x0,(zI (21:Int))]) none fun v=>some (v,(hp 0 [])))) (call_eq h5) (eE)) ?_
    refine .ghs (fr 32 [(3,zI z1),(4,zI z2),(6,zI x0),(10,Sl.v 1 s1),(11,zI z3),(12,(zI (Int.ofNat k1))),(16,(zB (nt b0)))]) (hp 0 []) (.k0 [] [] [3,4,6,10,11,12,16]) ?_
    replace hm:=bb_cases hm;rcases hm with ⟨h6,hm⟩ | ⟨h6,hm⟩
    ·refine .ifT (nt b0) (by kernel_rfl) h6 ?_
     refine .then (.rK ?_)
     refine .ghs (fr 32 [(2,(zI (1:Int)))]) (hp 0 []) (.k0 [] [] [2]) ?_
     refine .ret ?_
     exact fin_ret (zI (1:Int)) (by kernel_rfl) (by kernel_rfl) hm
    ·refine .ifF (nt b0) (by kernel_rfl) h6 ?_
     refine .then (.rK ?_)
     refine .ghs (fr 32 [(3,zI z1),(6,zI x0),(10,Sl.v 1 s1),(11,zI z3),(12,(zI (Int.ofNat k1))),(20,(zB (ilt z2 x0)))]) (hp 0 []) (.k0 [] [] [3,6,10,11,12,20]) ?_
     replace hm:=bb_cases hm;rcases hm with ⟨h7,hm⟩ | ⟨h7,hm⟩
     ·refine .ifT (ilt z2 x0) (by kernel_rfl) h7 ?_
      refine .then (.rK ?_)
      refine .ghs (fr 32 [(2,(zI (7:Int)))]) (hp 0 []) (.k0 [] [] [2]) ?_
      refine .ret ?_
      exact fin_ret (zI (7:Int)) (by kernel_rfl) (by kernel_rfl) hm
     ·refine .ifF (ilt z2 x0) (by kernel_rfl) h7 ?_
      refine .skip ?_
      refine .ghs (fr 32 [(3,zI z1),(6,zI x0),(10,Sl.v 1 s1),(11,zI z3),(12,(zI (Int.ofNat k1)))]) (hp 0 []) (.k0 [] [] [3,6,10,11,12]) ?_
      refine .then (.rK ?_)
      refine .ghs (fr 32 [(3,zI z1),(4,zI x0),(6,zI x0),(10,Sl.v 1 s1),(11,zI z3),(12,(zI (Int.ofNat k1)))]) (hp 0 []) (.k0 [] [] [3,4,6,10,11,12]) ?_
      refine .rK ?_
      refine .ghs (fr 32 [(3,(zI (bb (ilt (22:Int) (wrapF .i64 (Int.add z1 x0))) (22:Int) (wrapF .i64 (Int.add z1 x0))))),(4,zI x0),(10,Sl.v 1 s1),(11,zI z3),(12,(zI (Int.ofNat k1)))]) (hp 0 []) (.k0 [] [] [3,4,10,11,12]) ?_
      refine .rK ?_
      exact ⟨((bb (ilt (22:Int) (wrapF .i64 (Int.add z1 x0))) (22:Int) (wrapF .i64 (Int.add z1 x0))),x0,s1,z3,(wrapF .i64 (Int.add (Int.ofNat k1) (1:Int)))),hm,(.k0 [] [] [3,4,10,11,12])⟩
   ·refine .ifF (ilt z4 z3) (by kernel_rfl) h1 ?_
    refine .exit ?_
    exact ⟨z1,hm,(.k0 [] [] [3])⟩
def m19_0 (pu:PureF) (n:Nat) (q0:LV) (q1:LV):OV:=
 (bb (Nat.ble (0 + 22) (len q1)) (bb (Nat.beq (len (takeL 22 (dropL 0 q1))) 22) (bb (an (Nat.ble (0 + len (takeL 22 (dropL 0 q1))) (len q0)) (allL scalarB (takeL 22 (dropL 0 q1)))) (bb (allL closed1 (setL (takeL 22 (dropL 0 q1)) 0 q0)) (bb (Nat.ble (0 + 22) (len (setL (takeL 22 (dropL 0 q1)) 0 q0))) (bb (closedV (.agg ⟨(takeL 22 (dropL 0 (setL (takeL 22 (dropL 0 q1)) 0 q0)))⟩)) (some (.agg ⟨(takeL 22 (dropL 0 (setL (takeL 22 (dropL 0 q1)) 0 q0)))⟩)) none) none) none) none) none) none)
def b19_1 (pu:PureF) (n:Nat) (ih0:Sl→Int→Int→LV→LV→OV) (s0:Sl) (z0 z1:Int) (q0:LV) (q1:LV):OV:=
 (bb (allL closed1 q0) (bb (allL closed1 q1) (bb (ilt z1 z0) (oo (toN z1) none fun k1=>(bb (an (Nat.blt k1 (Sl.n s0)) true) (oo (nthL (Sl.cs s0) (k1 * 1)) none fun v0=>(oo (toI .i64 v0) none fun x0=>(oo (toN x0) none fun k2=>(bb (Nat.blt k2 22) (oo (nthL q1 (0 + k2 * 1)) none fun v1=>(oo (toI .i64 v1) none fun x1=>(bb (Nat.blt k2 22) (bb (an (Nat.ble ((0 + k2 * 1) + 1) (len q1)) true) (bb (allL closed1 (setL ([(.int .i64 (wrapF .i64 (Int.add x1 (1:Int))))]:LV) (0 + k2 * 1) q1)) (ih0 s0 z0 (wrapF .i64 (Int.add (Int.ofNat k1) (1:Int))) q0 (setL ([(.int .i64 (wrapF .i64 (Int.add x1 (1:Int))))]:LV) (0 + k2 * 1) q1)) none) none) none))) none)))) none)) (m19_0 pu n q0 q1)) none) none)
def l19_1 (pu:PureF) (n w:Nat):Sl→Int→Int→LV→LV→OV:=
 Nat.rec (motive:=fun _=>Sl→Int→Int→LV→LV→OV) (fun _ _ _ _ _=>none) (fun _ ih0=>b19_1 pu n ih0) w
def m19_ (pu:PureF) (n:Nat) (s0:Sl):OV:=
 (bb (allL closed1 zA46) (l19_1 pu n n s0 (Int.ofNat (Sl.n s0)) (0:Int) zA46 zA46) none)
def m19 (pu:PureF) (n:Nat) (args:LV):OV:=
 (ll args none fun a0 args=>(ll args (oo (toSl 1 a0) none fun s0=>(m19_ pu n s0)) fun _ _=>none))
theorem w19_0 (pu:PureF) (n:Nat) (q0:LV) (q1:LV) {v:Value} (hm:m19_0 pu n q0 q1 = some v):Run tt (callP tabs isP pu (inl pu)) 0 c19_17 (fr 19 [(2,(pt 0 0)),(3,pt 1 0)]) (hp 2 [oC q0,oC q1]) (Fin tt 0 [.cell 2 46] v):=by
 unfold m19_0 at hm
 refine .then ?_
 replace hm:=bb_inv hm;obtain ⟨h0,hm⟩:=hm
 replace hm:=bb_inv hm;obtain ⟨h1,hm⟩:=hm
 replace hm:=bb_inv hm;obtain ⟨h2,hm⟩:=hm
 refine .reg (eD (keep (hp 2 [oC q0,oC q1]) (bb (Nat.ble (0 + 22) (len q1)) (some (.agg ⟨(takeL 22 (dropL 0 q1))⟩)) none)) (keep_bb h0) (eD (done (bb (Nat.beq (len (takeL 22 (dropL 0 q1))) 22) (bb (an (Nat.ble (0 + len (takeL 22 (dropL 0 q1))) (len q0)) (allL scalarB (takeL 22 (dropL 0 q1)))) (some (hp 2 [(oC (setL (takeL 22 (dropL 0 q1)) 0 q0)),oC q1])) none) none) undef) (done_bb2 h1 h2) (eE))) ?_
 replace hm:=bb_inv hm;obtain ⟨h3,hm⟩:=hm
 refine .ghs (fr 19 [(2,(pt 0 0))]) (hp 1 [(oC (setL (takeL 22 (dropL 0 q1)) 0 q0))]) (.k [0] [] [.tmp 2 false] [2] ⟨trF h3,trivial⟩) ?_
 refine .ret ?_
 replace hm:=bb_inv hm;obtain ⟨h4,hm⟩:=hm
 replace hm:=bb_inv hm;obtain ⟨h5,hm⟩:=hm
 exact fin_ret (.agg ⟨(takeL 22 (dropL 0 (setL (takeL 22 (dropL 0 q1)) 0 q0)))⟩) (aresults_of (aresultsL_cons (show aresult _ _ _ _ = some (.agg ⟨(takeL 22 (dropL 0 (setL (takeL 22 (dropL 0 q1)) 0 q0)))⟩) from (eq_bb (c:=(Nat.ble (0 + 22) (len (setL (takeL 22 (dropL 0 q1)) 0 q0)))) (by kernel_rfl) h4)) rfl) (by kernel_rfl)) h5 hm
theorem r19 {call:CallF} (pu:PureF) (n:Nat) (hcall:call = callP tabs isP pu (inl pu)) {args:LV} {v:Value} (hm:m19 pu n args = some v) (_:∀ x ∈ args,closed2 x = true):args.length≤19∧Run tt call 0 c19_20 (Fr.made 19 args) (pureHeap tabs) (Fin tt 0 [.cell 2 46] v):=by
 subst hcall
 unfold m19 at hm
 replace hm:=ll_uncons hm;obtain ⟨a0,args_0,rfl,hm⟩:=hm
 replace hm:=ll_end hm;obtain ⟨rfl,hm⟩:=hm
 replace hm:=inv_toSl hm;obtain ⟨s0,rfl,hm⟩:=hm
 unfold m19_ at hm
 refine ⟨by simp,?_⟩
 refine .same (F':=(fr 19 [(0,Sl.v 1 s0)])) (H':=(hp 0 [])) (by kernel_rfl) (by kernel_rfl) ?_
 refine .then (.rK ?_)
 replace hm:=bb_inv hm;obtain ⟨h0,hm⟩:=hm
 refine .ghs (fr 19 [(0,Sl.v 1 s0),(2,(pt 0 0))]) (hp 1 [oC zA46]) (.k [0] [] [.tmp 2 false] [0,2] ⟨trF h0,trivial⟩) ?_
 refine .then (.rK ?_)
 refine .ghs (fr 19 [(0,Sl.v 1 s0),(2,(pt 0 0)),(3,pt 1 0)]) (hp 2 [oC zA46,oC zA46]) (.k [0,1] [] [.tmp 2 false,.tmp 3 false] [0,2,3] ⟨trF h0,trF h0,trivial⟩) ?_
 refine .join (v:=v) (fun y:LV×LV=>((fr 19 [(2,(pt 0 0)),(3,pt 1 0)]),(hp 2 [(oC y.1),(oC y.2)]))) (fun y=>m19_0 pu n y.1 y.2) ?_ ?_
 ·rintro ⟨q0, q1⟩ hm
  exact w19_0 pu n q0 q1 hm
 ·refine .then (.rK ?_)
  refine .ghs (fr 19 [(2,(pt 0 0)),(3,pt 1 0),(6,Sl.v 1 s0),(7,(zI (Int.ofNat (Sl.n s0)))),(8,(zI (0:Int)))]) (hp 2 [oC zA46,oC zA46]) (.k [0,1] [] [.tmp 2 false,.tmp 3 false] [2,3,6,7,8] ⟨trF h0,trF h0,trivial⟩) ?_
  refine .block ?_
  refine .loopM (v:=v) (fun y:Sl×Int×Int×LV×LV=>((fr 19 [(2,(pt 0 0)),(3,pt 1 0),(6,(Sl.v 1 y.1)),(7,(zI y.2.1)),(8,(zI y.2.2.1))]),(hp 2 [(oC y.2.2.2.1),(oC y.2.2.2.2)]))) (fun w y=>l19_1 pu n w y.1 y.2.1 y.2.2.1 y.2.2.2.1 y.2.2.2.2) n ⟨(s0,(Int.ofNat (Sl.n s0)),(0:Int),zA46,zA46),hm,(.k [0,1] [] [.tmp 2 false,.tmp 3 false] [2,3,6,7,8] ⟨trF h0,trF h0,trivial⟩)⟩ (fun _=>rfl) ?_
  rintro w0 ⟨s1,z0,z1,q2,q3⟩ hm
  replace hm:b19_1 pu n (l19_1 pu n w0) s1 z0 z1 q2 q3 = some v:=hm
  unfold b19_1 at hm
  refine .then (.rK ?_)
  replace hm:=bb_inv hm;obtain ⟨h1,hm⟩:=hm
  replace hm:=bb_inv hm;obtain ⟨h2,hm⟩:=hm
  refine .ghs (fr 19 [(2,(pt 0 0)),(3,pt 1 0),(6,Sl.v 1 s1),(7,zI z0),(8,zI z1),(9,(zB (ilt z1 z0)))]) (hp 2 [oC q2,oC q3]) (.k [0,1] [] [.tmp 2 false,.tmp 3 false] [2,3,6,7,8,9] ⟨trF h1,trF h2,trivial⟩) ?_
  refine .then ?_
  replace hm:=bb_cases hm;rcases hm with ⟨h3,hm⟩ | ⟨h3,hm⟩
  ·refine .ifT (ilt z1 z0) (by kernel_rfl) h3 ?_
   refine .skip ?_
   refine .ghs (fr 19 [(2,(pt 0 0)),(3,pt 1 0),(6,Sl.v 1 s1),(7,zI z0),(8,zI z1)]) (hp 2 [oC q2,oC q3]) (.k [0,1] [] [.tmp 2 false,.tmp 3 false] [2,3,6,7,8] ⟨trF h1,trF h2,trivial⟩) ?_
   refine .then ?_
   refine .block ?_
   refine .then ?_
   replace hm:=oo_inv hm;obtain ⟨k1,h4,hm⟩:=hm
   obtain rfl:=toN_some h4
   replace hm:=bb_inv hm;obtain ⟨h5,hm⟩:=hm
   replace hm:=oo_inv hm;obtain ⟨v0,h6,hm⟩:=hm
   replace hm:=inv_toI hm;obtain ⟨x0,rfl,hm⟩:=hm
   refine .reg (eD (keep (hp 2 [oC q2,oC q3]) (bb (an (Nat.blt k1 (Sl.n s1)) true) (some (fpV (k1 * 1) (Sl.cs s1))) none)) (keep_bb h5) (eD (keep (hp 2 [oC q2,oC q3]) (nthL (Sl.cs s1) (k1 * 1))) (keep_eq h6) (eE))) ?_
   refine .ghs (fr 19 [(2,(pt 0 0)),(3,pt 1 0),(5,zI x0),(6,Sl.v 1 s1),(7,zI z0),(8,(zI (Int.ofNat k1)))]) (hp 2 [oC q2,oC q3]) (.k [0,1] [] [.tmp 2 false,.tmp 3 false] [2,3,5,6,7,8] ⟨trF h1,trF h2,trivial⟩) ?_
   replace hm:=oo_inv hm;obtain ⟨k2,h7,hm⟩:=hm
   obtain rfl:=toN_some h7
   replace hm:=bb_inv hm;obtain ⟨h8,hm⟩:=hm
   replace hm:=oo_inv hm;obtain ⟨v1,h9,hm⟩:=hm
   replace hm:=inv_toI hm;obtain ⟨x1,rfl,hm⟩:=hm
   replace hm:=bb_inv hm;obtain ⟨h10,hm⟩:=hm
   replace hm:=bb_inv hm;obtain ⟨h11,hm⟩:=hm
   refine .reg (eC 1 (keep (hp 2 [oC q2,oC q3]) (bb (Nat.blt k2 22) (some (.pointer (some ⟨1,(0 + k2 * 1),none⟩))) none)) (keep_bb h8) (eD (keep (hp 2 [oC q2,oC q3]) (nthL q3 (0 + k2 * 1))) (keep_eq h9) (eC 1 (keep (hp 2 [oC q2,oC q3]) (bb (Nat.blt k2 22) (some (.pointer (some ⟨1,(0 + k2 * 1),none⟩))) none)) (keep_bb h10) (eD (done (bb (an (Nat.ble ((0 + k2 * 1) + 1) (len q3)) true) (some (hp 2 [oC q2,(oC (setL ([(zI (wrapF .i64 (Int.add x1 (1:Int))))]:LV) (0 + k2 * 1) q3))])) none) undef) (done_bb h11) (eE))))) ?_
   replace hm:=bb_inv hm;obtain ⟨h12,hm⟩:=hm
   refine .ghs (fr 19 [(2,(pt 0 0)),(3,pt 1 0),(6,Sl.v 1 s1),(7,zI z0),(8,(zI (Int.ofNat k1)))]) (hp 2 [oC q2,(oC (setL ([(zI (wrapF .i64 (Int.add x1 (1:Int))))]:LV) (0 + k2 * 1) q3))]) (.k [0,1] [] [.tmp 2 false,.tmp 3 false] [2,3,6,7,8] ⟨trF h1,trF h12,trivial⟩) ?_
   refine .rK ?_
   exact ⟨(s1,z0,(wrapF .i64 (Int.add (Int.ofNat k1) (1:Int))),q2,(setL ([(zI (wrapF .i64 (Int.add x1 (1:Int))))]:LV) (0 + k2 * 1) q3)),hm,(.k [0,1] [] [.tmp 2 false,.tmp 3 false] [2,3,6,7,8] ⟨trF h1,trF h12,trivial⟩)⟩
  ·refine .ifF (ilt z1 z0) (by kernel_rfl) h3 ?_
   refine .exit ?_
   exact ⟨(q2,q3),hm,(.k [0,1] [] [.tmp 2 false,.tmp 3 false] [2,3] ⟨trF h1,trF h2,trivial⟩)⟩

def m20_ (pu:PureF) (n:Nat) (q0:LV):OV:=
 (bb (allL closed1 q0) (bb (allL closed1 zA46) (bb (Nat.ble (0 + 22 * 1) (len zA46)) (bb (Nat.ble (0 + 22 * 1) (len q0)) (bb (Nat.ble (1 + 21 * 1) (len q0)) (bb (an (Nat.ble (0 + len (takeL (21 * 1) (dropL 1 q0))) (len zA46)) (allL scalarB (takeL (21 * 1) (dropL 1 q0)))) (bb (allL closed1 (setL (takeL (21 * 1) (dropL 1 q0)) 0 zA46)) (bb (an (Nat.ble (0 + 1) (len (setL (takeL (21 * 1) (dropL 1 q0)) 0 zA46))) true) (bb (allL closed1 (setL ([(.int .i64 (0:Int))]:LV) 0 (setL (takeL (21 * 1) (dropL 1 q0)) 0 zA46))) (bb (Nat.ble (0 + 22) (len q0)) (oo (pu 40 [(.agg ⟨(takeL 22 (dropL 0 q0))⟩)]) none fun v0=>(oo (toI .i64 v0) none fun x0=>(bb (allL closed2 [(.agg ⟨(takeL 22 (dropL 0 q0))⟩)]) (oo (toN x0) none fun k1=>(bb (Nat.blt k1 22) (oo (nthL (setL ([(.int .i64 (0:Int))]:LV) 0 (setL (takeL (21 * 1) (dropL 1 q0)) 0 zA46)) (0 + k1 * 1)) none fun v1=>(oo (toI .i64 v1) none fun x1=>(bb (Nat.blt k1 22) (bb (an (Nat.ble ((0 + k1 * 1) + 1) (len (setL ([(.int .i64 (0:Int))]:LV) 0 (setL (takeL (21 * 1) (dropL 1 q0)) 0 zA46)))) true) (bb (allL closed1 (setL ([(.int .i64 (wrapF .i64 (Int.add x1 (1:Int))))]:LV) (0 + k1 * 1) (setL ([(.int .i64 (0:Int))]:LV) 0 (setL (takeL (21 * 1) (dropL 1 q0)) 0 zA46)))) (bb (Nat.ble (0 + 22) (len (setL ([(.int .i64 (wrapF .i64 (Int.add x1 (1:Int))))]:LV) (0 + k1 * 1) (setL ([(.int .i64 (0:Int))]:LV) 0 (setL (takeL (21 * 1) (dropL 1 q0)) 0 zA46))))) (bb (Nat.beq (len (takeL 22 (dropL 0 (setL ([(.int .i64 (wrapF .i64 (Int.add x1 (1:Int))))]:LV) (0 + k1 * 1) (setL ([(.int .i64 (0:Int))]:LV) 0 (setL (takeL (21 * 1) (dropL 1 q0)) 0 zA46)))))) 22) (bb (an (Nat.ble (0 + len (takeL 22 (dropL 0 (setL ([(.int .i64 (wrapF .i64 (Int.add x1 (1:Int))))]:LV) (0 + k1 * 1) (setL ([(.int .i64 (0:Int))]:LV) 0 (setL (takeL (21 * 1) (dropL 1 q0)) 0 zA46)))))) (len zA46)) (allL scalarB (takeL 22 (dropL 0 (setL ([(.int .i64 (wrapF .i64 (Int.add x1 (1:Int))))]:LV) (0 + k1 * 1) (setL ([(.int .i64 (0:Int))]:LV) 0 (setL (takeL (21 * 1) (dropL 1 q0)) 0 zA46))))))) (bb (allL closed1 (setL (takeL 22 (dropL 0 (setL ([(.int .i64 (wrapF .i64 (Int.add x1 (1:Int))))]:LV) (0 + k1 * 1) (setL ([(.int .i64 (0:Int))]:LV) 0 (setL (takeL (21 * 1) (dropL 1 q0)) 0 zA46))))) 0 zA46)) (bb (Nat.ble (0 + 22) (len (setL (takeL 22 (dropL 0 (setL ([(.int .i64 (wrapF .i64 (Int.add x1 (1:Int))))]:LV) (0 + k1 * 1) (setL ([(.int .i64 (0:Int))]:LV) 0 (setL (takeL (21 * 1) (dropL 1 q0)) 0 zA46))))) 0 zA46))) (bb (closedV (.agg ⟨(takeL 22 (dropL 0 (setL (takeL 22 (dropL 0 (setL ([(.int .i64 (wrapF .i64 (Int.add x1 (1:Int))))]:LV) (0 + k1 * 1) (setL ([(.int .i64 (0:Int))]:LV) 0 (setL (takeL (21 * 1) (dropL 1 q0)) 0 zA46))))) 0 zA46)))⟩)) (some (.agg ⟨(takeL 22 (dropL 0 (setL (takeL 22 (dropL 0 (setL ([(.int .i64 (wrapF .i64 (Int.add x1 (1:Int))))]:LV) (0 + k1 * 1) (setL ([(.int .i64 (0:Int))]:LV) 0 (setL (takeL (21 * 1) (dropL 1 q0)) 0 zA46))))) 0 zA46)))⟩)) none) none) none) none) none) none) none) none) none))) none)) none))) none) none) none) none) none) none) none) none) none) none)
def m20 (pu:PureF) (n:Nat) (args:LV):OV:=
 (ll args none fun a0 args=>(ll args (oo (vAgg a0) none fun q0=>(bb (an (Nat.beq (len q0) 22) (allL closed1 q0)) (m20_ pu n q0) none)) fun _ _=>none))
theorem r20 {call:CallF} (pu:PureF) (n:Nat) (hcall:call = callP tabs isP pu (inl pu)) {args:LV} {v:Value} (hm:m20 pu n args = some v) (_:∀ x ∈ args,closed2 x = true):args.length≤15∧Run tt call 0 c20_11 (Fr.made 15 args) (pureHeap tabs) (Fin tt 0 [.cell 2 46] v):=by
 subst hcall
 unfold m20 at hm
 replace hm:=ll_uncons hm;obtain ⟨a0,args_0,rfl,hm⟩:=hm
 replace hm:=ll_end hm;obtain ⟨rfl,hm⟩:=hm
 replace hm:=inv_vAgg hm;obtain ⟨q0,rfl,hm⟩:=hm
 replace hm:=bb_inv hm;obtain ⟨h0,hm⟩:=hm
 unfold m20_ at hm
 refine ⟨by simp,?_⟩
 refine .same (F':=(fr 15 [(0,(.agg ⟨q0⟩))])) (H':=(hp 0 [])) (by kernel_rfl) (by kernel_rfl) ?_
 refine .then (.rK ?_)
 replace hm:=bb_inv hm;obtain ⟨h1,hm⟩:=hm
 replace hm:=bb_inv hm;obtain ⟨h2,hm⟩:=hm
 refine .ghs (fr 15 [(1,(pt 0 0)),(2,pt 1 0)]) (hp 2 [oC q0,oC zA46]) (.k [0,1] [] [.tmp 1 false,.tmp 2 false] [1,2] ⟨trF h1,trF h2,trivial⟩) ?_
 refine .then (.rK ?_)
 refine .ghs (fr 15 [(1,(pt 0 0)),(2,pt 1 0),(3,(pt 2 0))]) (hp 3 [oC q0,oC zA46,oC zA46]) (.k [0,1,2] [] [.tmp 1 false,.tmp 2 false,.tmp 3 false] [1,2,3] ⟨trF h1,trF h2,trF h2,trivial⟩) ?_
 refine .then ?_
 replace hm:=bb_inv hm;obtain ⟨h3,hm⟩:=hm
 replace hm:=bb_inv hm;obtain ⟨h4,hm⟩:=hm
 replace hm:=bb_inv hm;obtain ⟨h5,hm⟩:=hm
 replace hm:=bb_inv hm;obtain ⟨h6,hm⟩:=hm
 refine .reg (eD (keep (hp 3 [oC q0,oC zA46,oC zA46]) (bb (Nat.ble (0 + 22 * 1) (len zA46)) (some (sc 2 0 1 22 45)) none)) (keep_bb h3) (eD (keep (hp 3 [oC q0,oC zA46,oC zA46]) (bb (Nat.ble (0 + 22 * 1) (len q0)) (some (sc 0 1 1 21 43)) none)) (keep_bb h4) (eD (oo (bb (Nat.ble (1 + 21 * 1) (len q0)) (some (takeL (21 * 1) (dropL 1 q0))) none) none fun new=>oo (bb (an (Nat.ble (0 + len new) (len zA46)) (allL scalarB new)) (some (hp 3 [oC q0,oC zA46,(oC (setL new 0 zA46))])) none) none fun H'=>some ((zI (21:Int)),H')) (copy_eq' (G:=fun new=>(hp 3 [oC q0,oC zA46,(oC (setL new 0 zA46))])) (E:=fun new=>(an (Nat.ble (0 + len new) (len zA46)) (allL scalarB new))) h5 rfl h6) (eE)))) ?_
 replace hm:=bb_inv hm;obtain ⟨h7,hm⟩:=hm
 refine .ghs (fr 15 [(1,(pt 0 0)),(2,pt 1 0),(3,(pt 2 0))]) (hp 3 [oC q0,oC zA46,(oC (setL (takeL (21 * 1) (dropL 1 q0)) 0 zA46))]) (.k [0,1,2] [] [.tmp 1 false,.tmp 2 false,.tmp 3 false] [1,2,3] ⟨trF h1,trF h2,trF h7,trivial⟩) ?_
 refine .then ?_
 replace hm:=bb_inv hm;obtain ⟨h8,hm⟩:=hm
 refine .reg (eC 1 (done (bb (an (Nat.ble (0 + 1) (len (setL (takeL (21 * 1) (dropL 1 q0)) 0 zA46))) true) (some (hp 3 [oC q0,oC zA46,(oC (setL ([(zI (0:Int))]:LV) 0 (setL (takeL (21 * 1) (dropL 1 q0)) 0 zA46)))])) none) undef) (done_bb h8) (eE)) ?_
 replace hm:=bb_inv hm;obtain ⟨h9,hm⟩:=hm
 refine .ghs (fr 15 [(1,(pt 0 0)),(2,pt 1 0),(3,(pt 2 0))]) (hp 3 [oC q0,oC zA46,(oC (setL ([(zI (0:Int))]:LV) 0 (setL (takeL (21 * 1) (dropL 1 q0)) 0 zA46)))]) (.k [0,1,2] [] [.tmp 1 false,.tmp 2 false,.tmp 3 false] [1,2,3] ⟨trF h1,trF h2,trF h9,trivial⟩) ?_
 refine .then ?_
 replace hm:=bb_inv hm;obtain ⟨h10,hm⟩:=hm
 replace hm:=oo_inv hm;obtain ⟨v0,h11,hm⟩:=hm
 replace hm:=inv_toI hm;obtain ⟨x0,rfl,hm⟩:=hm
 replace hm:=bb_inv hm;obtain ⟨h12,hm⟩:=hm
 replace hm:=oo_inv hm;obtain ⟨k1,h13,hm⟩:=hm
 obtain rfl:=toN_some h13
 replace hm:=bb_inv hm;obtain ⟨h14,hm⟩:=hm
 replace hm:=oo_inv hm;obtain ⟨v1,h15,hm⟩:=hm
 replace hm:=inv_toI hm;obtain ⟨x1,rfl,hm⟩:=hm
 replace hm:=bb_inv hm;obtain ⟨h16,hm⟩:=hm
 replace hm:=bb_inv hm;obtain ⟨h17,hm⟩:=hm
 refine .reg (eN 3 (Fr.puts (fr 15 [(1,(pt 0 0)),(2,pt 1 0),(3,(pt 2 0))]) [(8,(.agg ⟨(takeL 22 (dropL 0 q0))⟩)),(9,(zI (Int.ofNat k1))),(10,(.pointer (some ⟨2,(0 + k1 * 1),none⟩)))]) (hp 3 [oC q0,oC zA46,(oC (setL ([(zI (0:Int))]:LV) 0 (setL (takeL (21 * 1) (dropL 1 q0)) 0 zA46)))]) (eD (keep (hp 3 [oC q0,oC zA46,(oC (setL ([(zI (0:Int))]:LV) 0 (setL (takeL (21 * 1) (dropL 1 q0)) 0 zA46)))]) (bb (Nat.ble (0 + 22) (len q0)) (some (.agg ⟨(takeL 22 (dropL 0 q0))⟩)) none)) (keep_bb h10) (eD (bb (allL closed2 [(.agg ⟨(takeL 22 (dropL 0 q0))⟩)]) (oo (pu 40 [(.agg ⟨(takeL 22 (dropL 0 q0))⟩)]) none fun v=>some (v,(hp 3 [oC q0,oC zA46,(oC (setL ([(zI (0:Int))]:LV) 0 (setL (takeL (21 * 1) (dropL 1 q0)) 0 zA46)))]))) (oo (mapO (purify (hp 3 [oC q0,oC zA46,(oC (setL ([(zI (0:Int))]:LV) 0 (setL (takeL (21 * 1) (dropL 1 q0)) 0 zA46)))])) [(.agg ⟨(takeL 22 (dropL 0 q0))⟩)]) none fun l1=>oo (pu 40 l1) none fun v=>bb (plainT v) (some (v,(hp 3 [oC q0,oC zA46,(oC (setL ([(zI (0:Int))]:LV) 0 (setL (takeL (21 * 1) (dropL 1 q0)) 0 zA46)))]))) none)) (callc_eq h12 h11) (eD (keep (hp 3 [oC q0,oC zA46,(oC (setL ([(zI (0:Int))]:LV) 0 (setL (takeL (21 * 1) (dropL 1 q0)) 0 zA46)))]) (bb (Nat.blt k1 22) (some (.pointer (some ⟨2,(0 + k1 * 1),none⟩))) none)) (keep_bb h14) (by kernel_rfl)))) (eD (keep (hp 3 [oC q0,oC zA46,(oC (setL ([(zI (0:Int))]:LV) 0 (setL (takeL (21 * 1) (dropL 1 q0)) 0 zA46)))]) (nthL (setL ([(zI (0:Int))]:LV) 0 (setL (takeL (21 * 1) (dropL 1 q0)) 0 zA46)) (0 + k1 * 1))) (keep_eq h15) (eC 1 (keep (hp 3 [oC q0,oC zA46,(oC (setL ([(zI (0:Int))]:LV) 0 (setL (takeL (21 * 1) (dropL 1 q0)) 0 zA46)))]) (bb (Nat.blt k1 22) (some (.pointer (some ⟨2,(0 + k1 * 1),none⟩))) none)) (keep_bb h16) (eD (done (bb (an (Nat.ble ((0 + k1 * 1) + 1) (len (setL ([(zI (0:Int))]:LV) 0 (setL (takeL (21 * 1) (dropL 1 q0)) 0 zA46)))) true) (some (hp 3 [oC q0,oC zA46,(oC (setL ([(zI (wrapF .i64 (Int.add x1 (1:Int))))]:LV) (0 + k1 * 1) (setL ([(zI (0:Int))]:LV) 0 (setL (takeL (21 * 1) (dropL 1 q0)) 0 zA46))))])) none) undef) (done_bb h17) (eE))))) ?_
 replace hm:=bb_inv hm;obtain ⟨h18,hm⟩:=hm
 refine .ghs (fr 15 [(2,(pt 0 0)),(3,pt 1 0)]) (hp 2 [oC zA46,(oC (setL ([(zI (wrapF .i64 (Int.add x1 (1:Int))))]:LV) (0 + k1 * 1) (setL ([(zI (0:Int))]:LV) 0 (setL (takeL (21 * 1) (dropL 1 q0)) 0 zA46))))]) (.k [1,2] [] [.tmp 2 false,.tmp 3 false] [2,3] ⟨trF h2,trF h18,trivial⟩) ?_
 refine .then ?_
 replace hm:=bb_inv hm;obtain ⟨h19,hm⟩:=hm
 replace hm:=bb_inv hm;obtain ⟨h20,hm⟩:=hm
 replace hm:=bb_inv hm;obtain ⟨h21,hm⟩:=hm
 refine .reg (eD (keep (hp 2 [oC zA46,(oC (setL ([(zI (wrapF .i64 (Int.add x1 (1:Int))))]:LV) (0 + k1 * 1) (setL ([(zI (0:Int))]:LV) 0 (setL (takeL (21 * 1) (dropL 1 q0)) 0 zA46))))]) (bb (Nat.ble (0 + 22) (len (setL ([(zI (wrapF .i64 (Int.add x1 (1:Int))))]:LV) (0 + k1 * 1) (setL ([(zI (0:Int))]:LV) 0 (setL (takeL (21 * 1) (dropL 1 q0)) 0 zA46))))) (some (.agg ⟨(takeL 22 (dropL 0 (setL ([(zI (wrapF .i64 (Int.add x1 (1:Int))))]:LV) (0 + k1 * 1) (setL ([(zI (0:Int))]:LV) 0 (setL (takeL (21 * 1) (dropL 1 q0)) 0 zA46)))))⟩)) none)) (keep_bb h19) (eD (done (bb (Nat.beq (len (takeL 22 (dropL 0 (setL ([(zI (wrapF .i64 (Int.add x1 (1:Int))))]:LV) (0 + k1 * 1) (setL ([(zI (0:Int))]:LV) 0 (setL (takeL (21 * 1) (dropL 1 q0)) 0 zA46)))))) 22) (bb (an (Nat.ble (0 + len (takeL 22 (dropL 0 (setL ([(zI (wrapF .i64 (Int.add x1 (1:Int))))]:LV) (0 + k1 * 1) (setL ([(zI (0:Int))]:LV) 0 (setL (takeL (21 * 1) (dropL 1 q0)) 0 zA46)))))) (len zA46)) (allL scalarB (takeL 22 (dropL 0 (setL ([(zI (wrapF .i64 (Int.add x1 (1:Int))))]:LV) (0 + k1 * 1) (setL ([(zI (0:Int))]:LV) 0 (setL (takeL (21 * 1) (dropL 1 q0)) 0 zA46))))))) (some (hp 2 [(oC (setL (takeL 22 (dropL 0 (setL ([(zI (wrapF .i64 (Int.add x1 (1:Int))))]:LV) (0 + k1 * 1) (setL ([(zI (0:Int))]:LV) 0 (setL (takeL (21 * 1) (dropL 1 q0)) 0 zA46))))) 0 zA46)),(oC (setL ([(zI (wrapF .i64 (Int.add x1 (1:Int))))]:LV) (0 + k1 * 1) (setL ([(zI (0:Int))]:LV) 0 (setL (takeL (21 * 1) (dropL 1 q0)) 0 zA46))))])) none) none) undef) (done_bb2 h20 h21) (eE))) ?_
 replace hm:=bb_inv hm;obtain ⟨h22,hm⟩:=hm
 refine .ghs (fr 15 [(2,(pt 0 0))]) (hp 1 [(oC (setL (takeL 22 (dropL 0 (setL ([(zI (wrapF .i64 (Int.add x1 (1:Int))))]:LV) (0 + k1 * 1) (setL ([(zI (0:Int))]:LV) 0 (setL (takeL (21 * 1) (dropL 1 q0)) 0 zA46))))) 0 zA46))]) (.k [0] [] [.tmp 2 false] [2] ⟨trF h22,trivial⟩) ?_
 refine .ret ?_
 replace hm:=bb_inv hm;obtain ⟨h23,hm⟩:=hm
 replace hm:=bb_inv hm;obtain ⟨h24,hm⟩:=hm
 exact fin_ret (.agg ⟨(takeL 22 (dropL 0 (setL (takeL 22 (dropL 0 (setL ([(zI (wrapF .i64 (Int.add x1 (1:Int))))]:LV) (0 + k1 * 1) (setL ([(zI (0:Int))]:LV) 0 (setL (takeL (21 * 1) (dropL 1 q0)) 0 zA46))))) 0 zA46)))⟩) (aresults_of (aresultsL_cons (show aresult _ _ _ _ = some (.agg ⟨(takeL 22 (dropL 0 (setL (takeL 22 (dropL 0 (setL ([(zI (wrapF .i64 (Int.add x1 (1:Int))))]:LV) (0 + k1 * 1) (setL ([(zI (0:Int))]:LV) 0 (setL (takeL (21 * 1) (dropL 1 q0)) 0 zA46))))) 0 zA46)))⟩) from (eq_bb (c:=(Nat.ble (0 + 22) (len (setL (takeL 22 (dropL 0 (setL ([(zI (wrapF .i64 (Int.add x1 (1:Int))))]:LV) (0 + k1 * 1) (setL ([(zI (0:Int))]:LV) 0 (setL (takeL (21 * 1) (dropL 1 q0)) 0 zA46))))) 0 zA46)))) (by kernel_rfl) h23)) rfl) (by kernel_rfl)) h24 hm
def m21_0 (pu:PureF) (n n0 c0:Nat) (q0:LV):OV:=
 (bb (allL closed1 q0) (bb (an (Nat.ble (0 + n0 * 1) (len q0)) (allL closed1 (takeL (n0 * 1) (dropL 0 q0)))) (some (Sl.v 1 (Sl.mk n0 0 (takeL (n0 * 1) (dropL 0 q0))))) none) none)
def b21_1 (pu:PureF) (n:Nat) (ih0:Nat→Nat→Int→LV→LV→OV) (n0 c0:Nat) (z0:Int) (q0:LV) (q1:LV):OV:=
 (bb (allL closed1 q0) (bb (allL closed1 q1) (bb (ilt (0:Int) z0) (oo (toN z0) none fun k1=>(bb (Nat.blt k1 22) (oo (nthL q0 (0 + k1 * 1)) none fun v0=>(oo (toI .i64 v0) none fun x0=>(oo (pu 41 [(Sl.v 1 (Sl.mk 1 0 (takeL (1 * 1) (dropL 0 ([(.int .i64 (Int.ofNat k1))]:LV))))),.int .i64 x0]) none fun v1=>(oo (toSl 1 v1) none fun s0=>(bb (Nat.beq (Sl.n s0) 0) (ih0 n0 c0 (wrapF .i64 (Int.sub (Int.ofNat k1) (1:Int))) q0 q1) (bb (an (allL scalarB (takeL ((Sl.n s0) * 1) (Sl.cs s0))) (growC 1 8 n0 c0 (Sl.n s0) q1)) (bb (allL closed1 (appL (dropL 0 q1) (takeL ((Sl.n s0) * 1) (Sl.cs s0)))) (ih0 (n0 + (Sl.n s0)) (2 * (n0 + (Sl.n s0)) + bb false 1 0) (wrapF .i64 (Int.sub (Int.ofNat k1) (1:Int))) q0 (appL (dropL 0 q1) (takeL ((Sl.n s0) * 1) (Sl.cs s0)))) none) none)))))) none)) (m21_0 pu n n0 c0 q1)) none) none)
def l21_1 (pu:PureF) (n w:Nat):Nat→Nat→Int→LV→LV→OV:=
 Nat.rec (motive:=fun _=>Nat→Nat→Int→LV→LV→OV) (fun _ _ _ _ _=>none) (fun _ ih0=>b21_1 pu n ih0) w
def m21_ (pu:PureF) (n:Nat) (q0:LV):OV:=
 (bb (allL closed1 q0) (l21_1 pu n n 0 0 (21:Int) q0 ([]:LV)) none)
def m21 (pu:PureF) (n:Nat) (args:LV):OV:=
 (ll args none fun a0 args=>(ll args (oo (vAgg a0) none fun q0=>(bb (an (Nat.beq (len q0) 22) (allL closed1 q0)) (m21_ pu n q0) none)) fun _ _=>none))
theorem w21_0 (pu:PureF) (n n0 c0:Nat) (q0:LV) {v:Value} (hm:m21_0 pu n n0 c0 q0 = some v):Run tt (callP tabs isP pu (inl pu)) 0 c21_15 (fr 18 [(3,sc 0 0 1 n0 c0)]) (hp 1 [oC q0]) (FinL tt 0 1 [.tmp 2] v):=by
 unfold m21_0 at hm
 refine .then (.rK ?_)
 replace hm:=bb_inv hm;obtain ⟨h0,hm⟩:=hm
 refine .ghs (fr 18 [(2,sc 0 0 1 n0 c0)]) (hp 1 [oC q0]) (.k [0] [] [.tmp 2 false] [2] ⟨trF h0,trivial⟩) ?_
 refine .ret ?_
 replace hm:=bb_inv hm;obtain ⟨h1,hm⟩:=hm
 exact finL_ret 0 0 c0 n0 [] q0 (by kernel_rfl) (by kernel_rfl) (by kernel_rfl) h1 hm
theorem r21 {call:CallF} (pu:PureF) (n:Nat) (hcall:call = callP tabs isP pu (inl pu)) {args:LV} {v:Value} (hm:m21 pu n args = some v) (_:∀ x ∈ args,closed2 x = true):args.length≤18∧Run tt call 0 c21_18 (Fr.made 18 args) (pureHeap tabs) (FinL tt 0 1 [.tmp 2] v):=by
 subst hcall
 unfold m21 at hm
 replace hm:=ll_uncons hm;obtain ⟨a0,args_0,rfl,hm⟩:=hm
 replace hm:=ll_end hm;obtain ⟨rfl,hm⟩:=hm
 replace hm:=inv_vAgg hm;obtain ⟨q0,rfl,hm⟩:=hm
 replace hm:=bb_inv hm;obtain ⟨h0,hm⟩:=hm
 unfold m21_ at hm
 refine ⟨by simp,?_⟩
 refine .same (F':=(fr 18 [(0,(.agg ⟨q0⟩))])) (H':=(hp 0 [])) (by kernel_rfl) (by kernel_rfl) ?_
 refine .then (.rK ?_)
 replace hm:=bb_inv hm;obtain ⟨h1,hm⟩:=hm
 refine .ghs (fr 18 [(1,(pt 0 0))]) (hp 1 [oC q0]) (.k [0] [] [.tmp 1 false] [1] ⟨trF h1,trivial⟩) ?_
 refine .then (.rK ?_)
 refine .ghs (fr 18 [(1,(pt 0 0)),(3,(.slice none 0 0))]) (hp 1 [oC q0]) (.k [0] [] [.tmp 1 false] [1,3] ⟨trF h1,trivial⟩) ?_
 refine .join (v:=v) (fun y:Nat×Nat×LV=>((fr 18 [(3,(sc 0 0 1 y.1 y.2.1))]),(hp 1 [(oC y.2.2)]))) (fun y=>m21_0 pu n y.1 y.2.1 y.2.2) ?_ ?_
 ·rintro ⟨n0, c0, q1⟩ hm
  exact w21_0 pu n n0 c0 q1 hm
 ·refine .then (.rK ?_)
  refine .ghs (fr 18 [(1,(pt 0 0)),(3,(.slice none 0 0)),(4,(zI (21:Int)))]) (hp 1 [oC q0]) (.k [0] [] [.tmp 1 false] [1,3,4] ⟨trF h1,trivial⟩) ?_
  refine .block ?_
  refine .loopM (v:=v) (fun y:Nat×Nat×Int×LV×LV=>((fr 18 [(1,(pt 0 0)),(3,(sc 1 0 1 y.1 y.2.1)),(4,(zI y.2.2.1))]),(hp 2 [(oC y.2.2.2.1),(oC y.2.2.2.2)]))) (fun w y=>l21_1 pu n w y.1 y.2.1 y.2.2.1 y.2.2.2.1 y.2.2.2.2) n ⟨(0,0,(21:Int),q0,([]:LV)),hm,(.thaw 3 1 (by kernel_rfl) (.k [0] [] [.tmp 1 false,.tmp 3 false] [1,3,4] ⟨trF h1,trivial⟩))⟩ (fun _=>rfl) ?_
  rintro w0 ⟨n1,c1,z0,q2,q3⟩ hm
  replace hm:b21_1 pu n (l21_1 pu n w0) n1 c1 z0 q2 q3 = some v:=hm
  unfold b21_1 at hm
  refine .then ?_
  refine .then (.rK ?_)
  replace hm:=bb_inv hm;obtain ⟨h2,hm⟩:=hm
  replace hm:=bb_inv hm;obtain ⟨h3,hm⟩:=hm
  refine .ghs (fr 18 [(1,(pt 0 0)),(3,sc 1 0 1 n1 c1),(4,zI z0),(6,(zB (ilt (0:Int) z0)))]) (hp 2 [oC q2,oC q3]) (.k [0,1] [] [.tmp 1 false,.tmp 3 false] [1,3,4,6] ⟨trF h2,trF h3,trivial⟩) ?_
  replace hm:=bb_cases hm;rcases hm with ⟨h4,hm⟩ | ⟨h4,hm⟩
  ·refine .ifT (ilt (0 : Int) z0) (by kernel_rfl) h4 ?_
   refine .skip ?_
   refine .ghs (fr 18 [(1,(pt 0 0)),(3,sc 1 0 1 n1 c1),(4,zI z0)]) (hp 2 [oC q2,oC q3]) (.k [0,1] [] [.tmp 1 false,.tmp 3 false] [1,3,4] ⟨trF h2,trF h3,trivial⟩) ?_
   refine .then ?_
   refine .block ?_
   replace hm:=oo_inv hm;obtain ⟨k1,h5,hm⟩:=hm
   obtain rfl:=toN_some h5
   replace hm:=bb_inv hm;obtain ⟨h6,hm⟩:=hm
   replace hm:=oo_inv hm;obtain ⟨v0,h7,hm⟩:=hm
   replace hm:=inv_toI hm;obtain ⟨x0,rfl,hm⟩:=hm
   replace hm:=oo_inv hm;obtain ⟨v1,h8,hm⟩:=hm
   replace hm:=inv_toSl hm;obtain ⟨s0,rfl,hm⟩:=hm
   replace hm:=bb_cases hm;rcases hm with ⟨h9,hm⟩ | ⟨h9,hm⟩
   ·refine .reg (eC 4 (keep (hp 3 [oC q2, oC q3, (oC [(zI (Int.ofNat k1))])]) (bb (Nat.blt k1 22) (some (.pointer (some ⟨0, (0 + k1 * 1), none⟩))) none)) (keep_bb h6) (eD (keep (hp 3 [oC q2, oC q3, (oC [(zI (Int.ofNat k1))])]) (nthL q2 (0 + k1 * 1))) (keep_eq h7) (eD (giveF tabs 1 (pu 41) [sc 2 0 1 1 3, zI x0] (hp 3 [oC q2, oC q3, (oC [(zI (Int.ofNat k1))])])) (giveF_eq (giveL_cons (show giveV 1 (sc 2 0 1 1 3) (hp 3 [oC q2, oC q3, (oC [(zI (Int.ofNat k1))])]) = some ((Sl.v 1 (Sl.mk 1 0 (takeL (1 * 1) (dropL 0 ([(zI (Int.ofNat k1))] : LV))))), (hp 3 [oC q2, oC q3, .dead])) from giveV_sl 2 0 1 1 3 ([(zI (Int.ofNat k1))] : LV) [] (by kernel_rfl) (by kernel_rfl) (by kernel_rfl)) (giveL_cons (giveV_cl (z := 1) (v := (zI x0)) (H := (hp 3 [oC q2, oC q3, .dead])) (by kernel_rfl) (by kernel_rfl) (by kernel_rfl)) giveL_nil)) (by kernel_rfl) h8) (eD (appFs (hp 3 [oC q2, oC q3, .dead]) 1 8 (sc 1 0 1 n1 c1) s0) (appFs_sl0 h9) (eE))))) ?_
    refine .ghs (fr 18 [(1,(pt 0 0)),(3,sc 1 0 1 n1 c1),(4,(zI (Int.ofNat k1)))]) (hp 2 [oC q2,oC q3]) (.k [0,1] [] [.tmp 1 false,.tmp 3 false] [1,3,4] ⟨trF h2,trF h3,trivial⟩) ?_
    refine .rK ?_
    exact ⟨(n1,c1,(wrapF .i64 (Int.sub (Int.ofNat k1) (1:Int))),q2,q3),hm,(.k [0,1] [] [.tmp 1 false,.tmp 3 false] [1,3,4] ⟨trF h2,trF h3,trivial⟩)⟩
   ·replace hm := bb_inv hm; obtain ⟨h10, hm⟩ := hm
    refine .reg (eC 4 (keep (hp 3 [oC q2,oC q3,(oC [(zI (Int.ofNat k1))])]) (bb (Nat.blt k1 22) (some (.pointer (some ⟨0,(0 + k1 * 1),none⟩))) none)) (keep_bb h6) (eD (keep (hp 3 [oC q2,oC q3,(oC [(zI (Int.ofNat k1))])]) (nthL q2 (0 + k1 * 1))) (keep_eq h7) (eD (giveF tabs 1 (pu 41) [sc 2 0 1 1 3,zI x0] (hp 3 [oC q2,oC q3,(oC [(zI (Int.ofNat k1))])])) (giveF_eq (giveL_cons (show giveV 1 (sc 2 0 1 1 3) (hp 3 [oC q2,oC q3,(oC [(zI (Int.ofNat k1))])]) = some ((Sl.v 1 (Sl.mk 1 0 (takeL (1 * 1) (dropL 0 ([(zI (Int.ofNat k1))]:LV))))),(hp 3 [oC q2,oC q3,.dead])) from giveV_sl 2 0 1 1 3 ([(zI (Int.ofNat k1))]:LV) [] (by kernel_rfl) (by kernel_rfl) (by kernel_rfl)) (giveL_cons (giveV_cl (z:=1) (v:=(zI x0)) (H:=(hp 3 [oC q2,oC q3,.dead])) (by kernel_rfl) (by kernel_rfl) (by kernel_rfl)) giveL_nil)) (by kernel_rfl) h8) (eD (appFs (hp 3 [oC q2,oC q3,.dead]) 1 8 (sc 1 0 1 n1 c1) s0) (appFs_grow (H:=(hp 3 [oC q2,oC q3,.dead])) (id:=1) (n:=n1) (c2:=c1) (xs:=q3) (anc:=[]) h9 (by kernel_rfl) (by kernel_rfl) h10) (eE))))) ?_
    replace hm:=bb_inv hm;obtain ⟨h11,hm⟩:=hm
    refine .ghs (fr 18 [(1,(pt 0 0)),(3,(sc 1 0 1 (n1 + (Sl.n s0)) (d2 (n1 + (Sl.n s0))))),(4,(zI (Int.ofNat k1)))]) (hp 2 [oC q2,(oC (appL (dropL 0 q3) (takeL ((Sl.n s0) * 1) (Sl.cs s0))))]) (.k [0,3] [] [.tmp 1 false,.tmp 3 false] [1,3,4] ⟨trF h2,trF h11,trivial⟩) ?_
    refine .rK ?_
    exact ⟨((n1 + (Sl.n s0)),(d2 (n1 + (Sl.n s0))),(wrapF .i64 (Int.sub (Int.ofNat k1) (1:Int))),q2,(appL (dropL 0 q3) (takeL ((Sl.n s0) * 1) (Sl.cs s0)))),hm,(.k [0,1] [] [.tmp 1 false,.tmp 3 false] [1,3,4] ⟨trF h2,trF h11,trivial⟩)⟩
  ·refine .ifF (ilt (0 : Int) z0) (by kernel_rfl) h4 ?_
   refine .exit ?_
   exact ⟨(n1,c1,q3),hm,(.k [1] [] [.tmp 3 false] [3] ⟨trF h3,trivial⟩)⟩
def m22_0 (pu:PureF) (n:Nat) (b0:Bool):OV:=
 (some (.bool b0))
def m22_ (pu:PureF) (n:Nat) (x0 x1 x2:Int):OV:=
 (bb (nt (ilt x1 x0)) (m22_0 pu n (nt (ilt x2 x1))) (m22_0 pu n false))
def m22 (pu:PureF) (n:Nat) (args:LV):OV:=
 (ll args none fun a0 args=>(ll args none fun a1 args=>(ll args none fun a2 args=>(ll args (oo (toI .i64 a0) none fun x0=>(oo (toI .i64 a1) none fun x1=>(oo (toI .i64 a2) none fun x2=>(m22_ pu n x0 x1 x2)))) fun _ _=>none))))
theorem w22_0 (pu:PureF) (n:Nat) (b0:Bool) {v:Value} (hm:m22_0 pu n b0 = some v):Run tt (callP tabs isP pu (inl pu)) 0 .ret (fr 15 [(6,zB b0)]) (hp 0 []) (Fin tt 0 [.tmp 6] v):=by
 unfold m22_0 at hm
 refine .ret ?_
 exact fin_ret (zB b0) (by kernel_rfl) (by kernel_rfl) hm
theorem r22 {call:CallF} (pu:PureF) (n:Nat) (hcall:call = callP tabs isP pu (inl pu)) {args:LV} {v:Value} (hm:m22 pu n args = some v) (_:∀ x ∈ args,closed2 x = true):args.length≤15∧Run tt call 0 c22_3 (Fr.made 15 args) (pureHeap tabs) (Fin tt 0 [.tmp 6] v):=by
 subst hcall
 unfold m22 at hm
 replace hm:=ll_uncons hm;obtain ⟨a0,args_0,rfl,hm⟩:=hm
 replace hm:=ll_uncons hm;obtain ⟨a1,args_1,rfl,hm⟩:=hm
 replace hm:=ll_uncons hm;obtain ⟨a2,args_2,rfl,hm⟩:=hm
 replace hm:=ll_end hm;obtain ⟨rfl,hm⟩:=hm
 replace hm:=inv_toI hm;obtain ⟨x0,rfl,hm⟩:=hm
 replace hm:=inv_toI hm;obtain ⟨x1,rfl,hm⟩:=hm
 replace hm:=inv_toI hm;obtain ⟨x2,rfl,hm⟩:=hm
 unfold m22_ at hm
 refine ⟨by simp,?_⟩
 refine .same (F':=(fr 15 [(0,zI x0),(1,zI x1),(2,zI x2)])) (H':=(hp 0 [])) (by kernel_rfl) (by kernel_rfl) ?_
 refine .then (.rK ?_)
 refine .ghs (fr 15 [(0,zI x0),(1,zI x1),(2,zI x2)]) (hp 0 []) (.k0 [] [] [0,1,2]) ?_
 refine .join (v:=v) (fun y:Bool=>((fr 15 [(6,zB y)]),(hp 0 []))) (fun y=>m22_0 pu n y) ?_ ?_
 ·rintro b0 hm
  exact w22_0 pu n b0 hm
 ·replace hm := bb_cases hm; rcases hm with ⟨h0, hm⟩ | ⟨h0, hm⟩
  ·refine .reg (eC 2 (some ((zB (nt (ilt x1 x0))), (hp 0 []))) (show _ = some ((zB true), _) from (by rw [h0])) (eE)) ?_
   exact ⟨(nt (ilt x2 x1)),hm,(.k0 [] [] [6])⟩
  ·refine .reg (eC 2 (some ((zB (nt (ilt x1 x0))), (hp 0 []))) (show _ = some ((zB false), _) from (by rw [h0])) (eE)) ?_
   exact ⟨false,hm,(.k0 [] [] [6])⟩
def m23_0 (pu:PureF) (n:Nat):OV:=
 (some (.bool true))
def b23_1 (pu:PureF) (n:Nat) (ih0:Int→Nat→Nat→Int→Int→LV→OV) (z0:Int) (n0 c0:Nat) (z1 z2:Int) (q0:LV):OV:=
 (bb (allL closed1 q0) (bb (ilt z2 z1) (oo (toN z2) none fun k1=>(bb (an (Nat.blt k1 n0) true) (oo (nthL q0 (0 + k1 * 1)) none fun v0=>(oo (toI .i64 v0) none fun x0=>(oo (pu 22 [(.int .i64 (wrapF .i64 (Int.sub z0 (Int.ofNat k1)))),.int .i64 x0,(.int .i64 (wrapF .i64 (Int.sub (wrapF .i64 (Int.add z0 (1:Int))) (Int.ofNat k1))))]) none fun v1=>(oo (vBool v1) none fun b0=>(bb (nt b0) (some (.bool false)) (ih0 z0 n0 c0 z1 (wrapF .i64 (Int.add (Int.ofNat k1) (1:Int))) q0)))))) none)) (m23_0 pu n)) none)
def l23_1 (pu:PureF) (n w:Nat):Int→Nat→Nat→Int→Int→LV→OV:=
 Nat.rec (motive:=fun _=>Int→Nat→Nat→Int→Int→LV→OV) (fun _ _ _ _ _ _=>none) (fun _ ih0=>b23_1 pu n ih0) w
def b23_2 (pu:PureF) (n:Nat) (ih0:Int→Nat→Nat→Int→Int→LV→OV) (z0:Int) (n0 c0:Nat) (z1 z2:Int) (q0:LV):OV:=
 (bb (allL closed1 q0) (bb (ilt z2 z1) (oo (toN z2) none fun k1=>(bb (an (Nat.blt k1 n0) true) (oo (nthL q0 (0 + k1 * 1)) none fun v0=>(oo (toI .i64 v0) none fun x0=>(oo (pu 22 [(.int .i64 (wrapF .i64 (Int.sub z0 (Int.ofNat k1)))),.int .i64 x0,(.int .i64 (wrapF .i64 (Int.sub (wrapF .i64 (Int.add z0 (1:Int))) (Int.ofNat k1))))]) none fun v1=>(oo (vBool v1) none fun b0=>(bb (nt b0) (some (.bool false)) (ih0 z0 n0 c0 z1 (wrapF .i64 (Int.add (Int.ofNat k1) (1:Int))) q0)))))) none)) (m23_0 pu n)) none)
def l23_2 (pu:PureF) (n w:Nat):Int→Nat→Nat→Int→Int→LV→OV:=
 Nat.rec (motive:=fun _=>Int→Nat→Nat→Int→Int→LV→OV) (fun _ _ _ _ _ _=>none) (fun _ ih0=>b23_2 pu n ih0) w
def m23_ (pu:PureF) (n:Nat) (q0:LV):OV:=
 (bb (allL closed1 q0) (bb (Nat.ble (0 + 22) (len q0)) (oo (pu 21 [(.agg ⟨(takeL 22 (dropL 0 q0))⟩)]) none fun v0=>(oo (toSl 1 v0) none fun s0=>(bb (allL closed2 [(.agg ⟨(takeL 22 (dropL 0 q0))⟩)]) (bb (allL closed1 (Sl.cs s0)) (bb (Nat.ble (0 + 22) (len q0)) (oo (pu 25 [(.agg ⟨(takeL 22 (dropL 0 q0))⟩)]) none fun v1=>(oo (toI .i64 v1) none fun x0=>(bb (allL closed2 [(.agg ⟨(takeL 22 (dropL 0 q0))⟩)]) (oo (pu 24 [.int .i64 x0]) none fun v2=>(oo (vTup v2) none fun l0=>(ll l0 none fun v3 l0=>(ll l0 none fun v4 l0=>(ll l0 (oo (toI .i64 v3) none fun x1=>(oo (toI .i64 v4) none fun x2=>(bb (ilt (wrapF .i64 (Int.add x1 (1:Int))) (Int.ofNat (Sl.n s0))) (some (.bool false)) (oo (toN (wrapF .i64 (Int.sub (wrapF .i64 (Int.add x1 (1:Int))) (Int.ofNat (Sl.n s0))))) none fun k1=>(bb (Nat.beq k1 0) (bb (an (Nat.ble k1 1000000) (roomy k1 8)) (l23_1 pu n n x1 (Sl.n s0) (2 * (Sl.n s0) + bb false 1 0) (Int.ofNat (Sl.n s0)) (0:Int) (Sl.cs s0)) none) (bb (an (Nat.ble k1 1000000) (roomy k1 8)) (bb (an (allL scalarB (zeroRow ([(.int .i64 (0:Int))]:LV) k1)) (growC 1 8 (Sl.n s0) (2 * (Sl.n s0) + bb false 1 0) k1 (Sl.cs s0))) (bb (allL closed1 (appL (dropL 0 (Sl.cs s0)) (zeroRow ([(.int .i64 (0:Int))]:LV) k1))) (l23_2 pu n n x1 ((Sl.n s0) + k1) (2 * ((Sl.n s0) + k1) + bb false 1 0) (Int.ofNat ((Sl.n s0) + k1)) (0:Int) (appL (dropL 0 (Sl.cs s0)) (zeroRow ([(.int .i64 (0:Int))]:LV) k1))) none) none) none)))))) fun _ _=>none))))) none))) none) none) none))) none) none)
def m23 (pu:PureF) (n:Nat) (args:LV):OV:=
 (ll args none fun a0 args=>(ll args (oo (vAgg a0) none fun q0=>(bb (an (Nat.beq (len q0) 22) (allL closed1 q0)) (m23_ pu n q0) none)) fun _ _=>none))
theorem w23_0 (pu:PureF) (n:Nat) {v:Value} (hm:m23_0 pu n = some v):Run tt (callP tabs isP pu (inl pu)) 0 c23_27 (fr 45 []) (hp 0 []) (Fin tt 0 [.tmp 2] v):=by
 unfold m23_0 at hm
 refine .then (.rK ?_)
 refine .ghs (fr 45 [(2,zB true)]) (hp 0 []) (.k0 [] [] [2]) ?_
 refine .ret ?_
 exact fin_ret (zB true) (by kernel_rfl) (by kernel_rfl) hm
theorem r23 {call:CallF} (pu:PureF) (n:Nat) (hcall:call = callP tabs isP pu (inl pu)) {args:LV} {v:Value} (hm:m23 pu n args = some v) (_:∀ x ∈ args,closed2 x = true):args.length≤45∧Run tt call 0 c23_32 (Fr.made 45 args) (pureHeap tabs) (Fin tt 0 [.tmp 2] v):=by
 subst hcall
 unfold m23 at hm
 replace hm:=ll_uncons hm;obtain ⟨a0,args_0,rfl,hm⟩:=hm
 replace hm:=ll_end hm;obtain ⟨rfl,hm⟩:=hm
 replace hm:=inv_vAgg hm;obtain ⟨q0,rfl,hm⟩:=hm
 replace hm:=bb_inv hm;obtain ⟨h0,hm⟩:=hm
 unfold m23_ at hm
 refine ⟨by simp,?_⟩
 refine .same (F':=(fr 45 [(0,(.agg ⟨q0⟩))])) (H':=(hp 0 [])) (by kernel_rfl) (by kernel_rfl) ?_
 refine .then (.rK ?_)
 replace hm:=bb_inv hm;obtain ⟨h1,hm⟩:=hm
 refine .ghs (fr 45 [(1,(pt 0 0))]) (hp 1 [oC q0]) (.k [0] [] [.tmp 1 false] [1] ⟨trF h1,trivial⟩) ?_
 refine .then ?_
 replace hm:=bb_inv hm;obtain ⟨h2,hm⟩:=hm
 replace hm:=oo_inv hm;obtain ⟨v0,h3,hm⟩:=hm
 replace hm:=inv_toSl hm;obtain ⟨s0,rfl,hm⟩:=hm
 replace hm:=bb_inv hm;obtain ⟨h4,hm⟩:=hm
 refine .reg (eD (keep (hp 1 [oC q0]) (bb (Nat.ble (0 + 22) (len q0)) (some (.agg ⟨(takeL 22 (dropL 0 q0))⟩)) none)) (keep_bb h2) (eD (bb (allL closed2 [(.agg ⟨(takeL 22 (dropL 0 q0))⟩)]) (oo (pu 21 [(.agg ⟨(takeL 22 (dropL 0 q0))⟩)]) none fun v=>oo (toSl 1 v) none fun s=>some (((sc 1 0 1 (Sl.n s) (d2 (Sl.n s))),(hp 2 [oC q0,(oC (Sl.cs s))])):Value×AHeap)) none) ((bb_true' h4).trans (live_eq (sz:=1) (k:=fun s=>(((sc 1 0 1 (Sl.n s) (d2 (Sl.n s))),(hp 2 [oC q0,(oC (Sl.cs s))])):Value×AHeap)) h3)) (eE))) ?_
 replace hm:=bb_inv hm;obtain ⟨h5,hm⟩:=hm
 refine .ghs (fr 45 [(1,(pt 0 0)),(3,(sc 1 0 1 (Sl.n s0) (d2 (Sl.n s0))))]) (hp 2 [oC q0,(oC (Sl.cs s0))]) (.k [0,1] [] [.tmp 1 false,.tmp 3 false] [1,3] ⟨trF h1,trF h5,trivial⟩) ?_
 refine .then ?_
 replace hm:=bb_inv hm;obtain ⟨h6,hm⟩:=hm
 replace hm:=oo_inv hm;obtain ⟨v1,h7,hm⟩:=hm
 replace hm:=inv_toI hm;obtain ⟨x0,rfl,hm⟩:=hm
 replace hm:=bb_inv hm;obtain ⟨h8,hm⟩:=hm
 replace hm:=oo_inv hm;obtain ⟨v2,h9,hm⟩:=hm
 replace hm:=inv_vTup hm;obtain ⟨l0,rfl,hm⟩:=hm
 replace hm:=ll_uncons hm;obtain ⟨v3,l1952_0,rfl,hm⟩:=hm
 replace hm:=ll_uncons hm;obtain ⟨v4,l1952_1,rfl,hm⟩:=hm
 replace hm:=ll_end hm;obtain ⟨rfl,hm⟩:=hm
 replace hm:=inv_toI hm;obtain ⟨x1,rfl,hm⟩:=hm
 replace hm:=inv_toI hm;obtain ⟨x2,rfl,hm⟩:=hm
 refine .reg (eD (keep (hp 2 [oC q0,(oC (Sl.cs s0))]) (bb (Nat.ble (0 + 22) (len q0)) (some (.agg ⟨(takeL 22 (dropL 0 q0))⟩)) none)) (keep_bb h6) (eD (bb (allL closed2 [(.agg ⟨(takeL 22 (dropL 0 q0))⟩)]) (oo (pu 25 [(.agg ⟨(takeL 22 (dropL 0 q0))⟩)]) none fun v=>some (v,(hp 2 [oC q0,(oC (Sl.cs s0))]))) (oo (mapO (purify (hp 2 [oC q0,(oC (Sl.cs s0))])) [(.agg ⟨(takeL 22 (dropL 0 q0))⟩)]) none fun l1=>oo (pu 25 l1) none fun v=>bb (plainT v) (some (v,(hp 2 [oC q0,(oC (Sl.cs s0))]))) none)) (callc_eq h8 h7) (eD ((oo (pu 24 [zI x0]) none fun v=>some (v,(hp 2 [oC q0,(oC (Sl.cs s0))])))) (call_eq h9) (eE)))) ?_
 refine .ghs (fr 45 [(3,(sc 0 0 1 (Sl.n s0) (d2 (Sl.n s0)))),(4,zI x1)]) (hp 1 [(oC (Sl.cs s0))]) (.k [1] [] [.tmp 3 false] [3,4] ⟨trF h5,trivial⟩) ?_
 refine .then ?_
 refine .then (.rK ?_)
 refine .ghs (fr 45 [(3,(sc 0 0 1 (Sl.n s0) (d2 (Sl.n s0)))),(4,zI x1),(20,(zB (ilt (wrapF .i64 (Int.add x1 (1:Int))) (Int.ofNat (Sl.n s0)))))]) (hp 1 [(oC (Sl.cs s0))]) (.k [0] [] [.tmp 3 false] [3,4,20] ⟨trF h5,trivial⟩) ?_
 replace hm:=bb_cases hm;rcases hm with ⟨h10,hm⟩ | ⟨h10,hm⟩
 ·refine .ifT (ilt (wrapF .i64 (Int.add x1 (1 : Int))) (Int.ofNat (Sl.n s0))) (by kernel_rfl) h10 ?_
  refine .then (.rK ?_)
  refine .ghs (fr 45 [(2,zB false)]) (hp 0 []) (.k0 [] [] [2]) ?_
  refine .ret ?_
  exact fin_ret (zB false) (by kernel_rfl) (by kernel_rfl) hm
 ·refine .ifF (ilt (wrapF .i64 (Int.add x1 (1 : Int))) (Int.ofNat (Sl.n s0))) (by kernel_rfl) h10 ?_
  refine .skip ?_
  refine .ghs (fr 45 [(3,(sc 0 0 1 (Sl.n s0) (d2 (Sl.n s0)))),(4,zI x1)]) (hp 1 [(oC (Sl.cs s0))]) (.k [0] [] [.tmp 3 false] [3,4] ⟨trF h5,trivial⟩) ?_
  refine .join (v:=v) (fun y:Unit=>((fr 45 []),(hp 0 []))) (fun y=>m23_0 pu n) ?_ ?_
  ·rintro _ hm
   exact w23_0 pu n hm
  ·refine .then ?_
   replace hm:=oo_inv hm;obtain ⟨k1,h11,hm⟩:=hm
   replace hm:=bb_cases hm;rcases hm with ⟨h12,hm⟩ | ⟨h12,hm⟩
   ·replace hm := bb_inv hm; obtain ⟨h13, hm⟩ := hm
    refine .reg (eC 5 (some ((zI (wrapF .i64 (Int.sub (wrapF .i64 (Int.add x1 (1:Int))) (Int.ofNat (Sl.n s0))))),(hp 1 [(oC (Sl.cs s0))]))) (show _ = some ((zI (Int.ofNat k1)),_) from (by rw [toN_some h11])) (eD (appZ (hp 1 [(oC (Sl.cs s0))]) 1 8 ([(zI (0:Int))]:LV) (sc 0 0 1 (Sl.n s0) (d2 (Sl.n s0))) k1) (appZ_0 h13 h12) (eE))) ?_
    refine .ghs (fr 45 [(4,zI x1),(27,(sc 0 0 1 (Sl.n s0) (d2 (Sl.n s0)))),(28,(zI (Int.ofNat (Sl.n s0)))),(29,(zI (0:Int)))]) (hp 1 [(oC (Sl.cs s0))]) (.k [0] [] [.tmp 27 false] [4,27,28,29] ⟨trF h5,trivial⟩) ?_
    refine .block ?_
    refine .loopM (v:=v) (fun y:Int×Nat×Nat×Int×Int×LV=>((fr 45 [(4,(zI y.1)),(27,(sc 0 0 1 y.2.1 y.2.2.1)),(28,(zI y.2.2.2.1)),(29,(zI y.2.2.2.2.1))]),(hp 1 [(oC y.2.2.2.2.2)]))) (fun w y=>l23_1 pu n w y.1 y.2.1 y.2.2.1 y.2.2.2.1 y.2.2.2.2.1 y.2.2.2.2.2) n ⟨(x1,(Sl.n s0),(d2 (Sl.n s0)),(Int.ofNat (Sl.n s0)),(0:Int),(Sl.cs s0)),hm,(.k [0] [] [.tmp 27 false] [4,27,28,29] ⟨trF h5,trivial⟩)⟩ (fun _=>rfl) ?_
    rintro w0 ⟨z0,n0,c0,z1,z2,q1⟩ hm
    replace hm:b23_1 pu n (l23_1 pu n w0) z0 n0 c0 z1 z2 q1 = some v:=hm
    unfold b23_1 at hm
    refine .then (.rK ?_)
    replace hm:=bb_inv hm;obtain ⟨h14,hm⟩:=hm
    refine .ghs (fr 45 [(4,zI z0),(27,sc 0 0 1 n0 c0),(28,zI z1),(29,zI z2),(30,(zB (ilt z2 z1)))]) (hp 1 [oC q1]) (.k [0] [] [.tmp 27 false] [4,27,28,29,30] ⟨trF h14,trivial⟩) ?_
    refine .then ?_
    replace hm:=bb_cases hm;rcases hm with ⟨h15,hm⟩ | ⟨h15,hm⟩
    ·refine .ifT (ilt z2 z1) (by kernel_rfl) h15 ?_
     refine .skip ?_
     refine .ghs (fr 45 [(4,zI z0),(27,sc 0 0 1 n0 c0),(28,zI z1),(29,zI z2)]) (hp 1 [oC q1]) (.k [0] [] [.tmp 27 false] [4,27,28,29] ⟨trF h14,trivial⟩) ?_
     refine .then ?_
     refine .block ?_
     refine .then ?_
     replace hm:=oo_inv hm;obtain ⟨k2,h16,hm⟩:=hm
     obtain rfl:=toN_some h16
     replace hm:=bb_inv hm;obtain ⟨h17,hm⟩:=hm
     replace hm:=oo_inv hm;obtain ⟨v5,h18,hm⟩:=hm
     replace hm:=inv_toI hm;obtain ⟨x3,rfl,hm⟩:=hm
     refine .reg (eC 1 (keep (hp 1 [oC q1]) (bb (an (Nat.blt k2 n0) true) (some (.pointer (some ⟨0,(0 + k2 * 1),none⟩))) none)) (keep_bb h17) (eD (keep (hp 1 [oC q1]) (nthL q1 (0 + k2 * 1))) (keep_eq h18) (eE))) ?_
     refine .ghs (fr 45 [(4,zI z0),(6,(zI (Int.ofNat k2))),(7,zI x3),(27,sc 0 0 1 n0 c0),(28,zI z1),(29,(zI (Int.ofNat k2)))]) (hp 1 [oC q1]) (.k [0] [] [.tmp 27 false] [4,6,7,27,28,29] ⟨trF h14,trivial⟩) ?_
     refine .then ?_
     replace hm:=oo_inv hm;obtain ⟨v6,h19,hm⟩:=hm
     replace hm:=inv_vBool hm;obtain ⟨b0,rfl,hm⟩:=hm
     refine .reg (eC 8 ((oo (pu 22 [(zI (wrapF .i64 (Int.sub z0 (Int.ofNat k2)))),zI x3,(zI (wrapF .i64 (Int.sub (wrapF .i64 (Int.add z0 (1:Int))) (Int.ofNat k2))))]) none fun v=>some (v,(hp 1 [oC q1])))) (call_eq h19) (eE)) ?_
     refine .ghs (fr 45 [(4,zI z0),(27,sc 0 0 1 n0 c0),(28,zI z1),(29,(zI (Int.ofNat k2))),(43,(zB (nt b0)))]) (hp 1 [oC q1]) (.k [0] [] [.tmp 27 false] [4,27,28,29,43] ⟨trF h14,trivial⟩) ?_
     replace hm:=bb_cases hm;rcases hm with ⟨h20,hm⟩ | ⟨h20,hm⟩
     ·refine .ifT (nt b0) (by kernel_rfl) h20 ?_
      refine .then (.rK ?_)
      refine .ghs (fr 45 [(2,zB false)]) (hp 0 []) (.k0 [] [] [2]) ?_
      refine .ret ?_
      exact fin_ret (zB false) (by kernel_rfl) (by kernel_rfl) hm
     ·refine .ifF (nt b0) (by kernel_rfl) h20 ?_
      refine .skip ?_
      refine .ghs (fr 45 [(4,zI z0),(27,sc 0 0 1 n0 c0),(28,zI z1),(29,(zI (Int.ofNat k2)))]) (hp 1 [oC q1]) (.k [0] [] [.tmp 27 false] [4,27,28,29] ⟨trF h14,trivial⟩) ?_
      refine .rK ?_
      exact ⟨(z0,n0,c0,z1,(wrapF .i64 (Int.add (Int.ofNat k2) (1:Int))),q1),hm,(.k [0] [] [.tmp 27 false] [4,27,28,29] ⟨trF h14,trivial⟩)⟩
    ·refine .ifF (ilt z2 z1) (by kernel_rfl) h15 ?_
     refine .exit ?_
     exact ⟨(),hm,(.k0 [] [] [])⟩
   ·replace hm := bb_inv hm; obtain ⟨h13, hm⟩ := hm
    replace hm:=bb_inv hm;obtain ⟨h21,hm⟩:=hm
    refine .reg (eC 5 (some ((zI (wrapF .i64 (Int.sub (wrapF .i64 (Int.add x1 (1:Int))) (Int.ofNat (Sl.n s0))))),(hp 1 [(oC (Sl.cs s0))]))) (show _ = some ((zI (Int.ofNat k1)),_) from (by rw [toN_some h11])) (eD (appZ (hp 1 [(oC (Sl.cs s0))]) 1 8 ([(zI (0:Int))]:LV) (sc 0 0 1 (Sl.n s0) (d2 (Sl.n s0))) k1) (appZ_grow (H:=(hp 1 [(oC (Sl.cs s0))])) (id:=0) (n:=(Sl.n s0)) (c2:=(d2 (Sl.n s0))) (xs:=(Sl.cs s0)) (anc:=[]) h13 h12 (by kernel_rfl) (by kernel_rfl) h21) (eE))) ?_
    replace hm:=bb_inv hm;obtain ⟨h22,hm⟩:=hm
    refine .ghs (fr 45 [(4,zI x1),(27,(sc 0 0 1 ((Sl.n s0) + k1) (d2 ((Sl.n s0) + k1)))),(28,(zI (Int.ofNat ((Sl.n s0) + k1)))),(29,(zI (0:Int)))]) (hp 1 [(oC (appL (dropL 0 (Sl.cs s0)) (zeroRow ([(zI (0:Int))]:LV) k1)))]) (.k [1] [] [.tmp 27 false] [4,27,28,29] ⟨trF h22,trivial⟩) ?_
    refine .block ?_
    refine .loopM (v:=v) (fun y:Int×Nat×Nat×Int×Int×LV=>((fr 45 [(4,(zI y.1)),(27,(sc 0 0 1 y.2.1 y.2.2.1)),(28,(zI y.2.2.2.1)),(29,(zI y.2.2.2.2.1))]),(hp 1 [(oC y.2.2.2.2.2)]))) (fun w y=>l23_2 pu n w y.1 y.2.1 y.2.2.1 y.2.2.2.1 y.2.2.2.2.1 y.2.2.2.2.2) n ⟨(x1,((Sl.n s0) + k1),(d2 ((Sl.n s0) + k1)),(Int.ofNat ((Sl.n s0) + k1)),(0:Int),(appL (dropL 0 (Sl.cs s0)) (zeroRow ([(zI (0:Int))]:LV) k1))),hm,(.k [0] [] [.tmp 27 false] [4,27,28,29] ⟨trF h22,trivial⟩)⟩ (fun _=>rfl) ?_
    rintro w0 ⟨z3,n1,c1,z4,z5,q2⟩ hm
    replace hm:b23_2 pu n (l23_2 pu n w0) z3 n1 c1 z4 z5 q2 = some v:=hm
    unfold b23_2 at hm
    refine .then (.rK ?_)
    replace hm:=bb_inv hm;obtain ⟨h23,hm⟩:=hm
    refine .ghs (fr 45 [(4,zI z3),(27,sc 0 0 1 n1 c1),(28,zI z4),(29,zI z5),(30,(zB (ilt z5 z4)))]) (hp 1 [oC q2]) (.k [0] [] [.tmp 27 false] [4,27,28,29,30] ⟨trF h23,trivial⟩) ?_
    refine .then ?_
    replace hm:=bb_cases hm;rcases hm with ⟨h24,hm⟩ | ⟨h24,hm⟩
    ·refine .ifT (ilt z5 z4) (by kernel_rfl) h24 ?_
     refine .skip ?_
     refine .ghs (fr 45 [(4,zI z3),(27,sc 0 0 1 n1 c1),(28,zI z4),(29,zI z5)]) (hp 1 [oC q2]) (.k [0] [] [.tmp 27 false] [4,27,28,29] ⟨trF h23,trivial⟩) ?_
     refine .then ?_
     refine .block ?_
     refine .then ?_
     replace hm:=oo_inv hm;obtain ⟨k3,h25,hm⟩:=hm
     obtain rfl:=toN_some h25
     replace hm:=bb_inv hm;obtain ⟨h26,hm⟩:=hm
     replace hm:=oo_inv hm;obtain ⟨v7,h27,hm⟩:=hm
     replace hm:=inv_toI hm;obtain ⟨x4,rfl,hm⟩:=hm
     refine .reg (eC 1 (keep (hp 1 [oC q2]) (bb (an (Nat.blt k3 n1) true) (some (.pointer (some ⟨0,(0 + k3 * 1),none⟩))) none)) (keep_bb h26) (eD (keep (hp 1 [oC q2]) (nthL q2 (0 + k3 * 1))) (keep_eq h27) (eE))) ?_
     refine .ghs (fr 45 [(4,zI z3),(6,(zI (Int.ofNat k3))),(7,zI x4),(27,sc 0 0 1 n1 c1),(28,zI z4),(29,(zI (Int.ofNat k3)))]) (hp 1 [oC q2]) (.k [0] [] [.tmp 27 false] [4,6,7,27,28,29] ⟨trF h23,trivial⟩) ?_
     refine .then ?_
     replace hm:=oo_inv hm;obtain ⟨v8,h28,hm⟩:=hm
     replace hm:=inv_vBool hm;obtain ⟨b1,rfl,hm⟩:=hm
     refine .reg (eC 8 ((oo (pu 22 [(zI (wrapF .i64 (Int.sub z3 (Int.ofNat k3)))),zI x4,(zI (wrapF .i64 (Int.sub (wrapF .i64 (Int.add z3 (1:Int))) (Int.ofNat k3))))]) none fun v=>some (v,(hp 1 [oC q2])))) (call_eq h28) (eE)) ?_
     refine .ghs (fr 45 [(4,zI z3),(27,sc 0 0 1 n1 c1),(28,zI z4),(29,(zI (Int.ofNat k3))),(43,(zB (nt b1)))]) (hp 1 [oC q2]) (.k [0] [] [.tmp 27 false] [4,27,28,29,43] ⟨trF h23,trivial⟩) ?_
     replace hm:=bb_cases hm;rcases hm with ⟨h29,hm⟩ | ⟨h29,hm⟩
     ·refine .ifT (nt b1) (by kernel_rfl) h29 ?_
      refine .then (.rK ?_)
      refine .ghs (fr 45 [(2,zB false)]) (hp 0 []) (.k0 [] [] [2]) ?_
      refine .ret ?_
      exact fin_ret (zB false) (by kernel_rfl) (by kernel_rfl) hm
     ·refine .ifF (nt b1) (by kernel_rfl) h29 ?_
      refine .skip ?_
      refine .ghs (fr 45 [(4,zI z3),(27,sc 0 0 1 n1 c1),(28,zI z4),(29,(zI (Int.ofNat k3)))]) (hp 1 [oC q2]) (.k [0] [] [.tmp 27 false] [4,27,28,29] ⟨trF h23,trivial⟩) ?_
      refine .rK ?_
      exact ⟨(z3,n1,c1,z4,(wrapF .i64 (Int.add (Int.ofNat k3) (1:Int))),q2),hm,(.k [0] [] [.tmp 27 false] [4,27,28,29] ⟨trF h23,trivial⟩)⟩
    ·refine .ifF (ilt z5 z4) (by kernel_rfl) h24 ?_
     refine .exit ?_
     exact ⟨(),hm,(.k0 [] [] [])⟩
end
end Go.HpYM
