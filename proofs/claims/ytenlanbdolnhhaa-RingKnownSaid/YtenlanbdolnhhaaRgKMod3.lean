/- Made from wip. -/
import Derived.Test.YtenlanbdolnhhaaRgKMod0x

set_option maxRecDepth 100000
set_option maxHeartbeats 20000000
set_option linter.unusedVariables false
namespace Go.RgKM
open Go.Sp Go.RgK
noncomputable section

def m92_ (pu:PureF) (n:Nat) (x0 x1:Int):OV:=
 (oo (pu 98 [.int .i64 x0]) none fun v0=>(oo (vBool v0) none fun b0=>(oo (pu 98 [.int .i64 x1]) none fun v1=>(oo (vBool v1) none fun b1=>(bb b0 (bb b1 (some (.int .i64 (0:Int))) (some (.int .i64 (-1:Int)))) (bb b1 (some (.int .i64 (1:Int))) (bb (ilt x0 x1) (some (.int .i64 (-1:Int))) (bb (ilt x1 x0) (some (.int .i64 (1:Int))) (some (.int .i64 (0:Int)))))))))))
def m92 (pu:PureF) (n:Nat) (args:LV):OV:=
 (ll args none fun a0 args=>(ll args none fun a1 args=>(ll args (oo (toI .i64 a0) none fun x0=>(oo (toI .i64 a1) none fun x1=>(m92_ pu n x0 x1))) fun _ _=>none)))
theorem r92 {call:CallF} (pu:PureF) (n:Nat) (hcall:call = callP tabs isP pu (inl pu)) {args:LV} {v:Value} (hm:m92 pu n args = some v) (_:∀ x ∈ args,closed2 x = true):args.length≤20∧Run tt call 0 c92_37 (Fr.made 20 args) (pureHeap tabs) (Fin tt 0 [.tmp 4] v):=by
 subst hcall
 unfold m92 at hm
 replace hm:=ll_uncons hm;obtain ⟨a0,args_0,rfl,hm⟩:=hm
 replace hm:=ll_uncons hm;obtain ⟨a1,args_1,rfl,hm⟩:=hm
 replace hm:=ll_end hm;obtain ⟨rfl,hm⟩:=hm
 replace hm:=inv_toI hm;obtain ⟨x0,rfl,hm⟩:=hm
 replace hm:=inv_toI hm;obtain ⟨x1,rfl,hm⟩:=hm
 unfold m92_ at hm
 refine ⟨by simp,?_⟩
 refine .same (F':=(fr 20 [(0,zI x0),(1,zI x1)])) (H':=(hp 0 [])) (by kernel_rfl) (by kernel_rfl) ?_
 refine .then (.rK ?_)
 refine .ghs (fr 20 [(0,zI x0),(1,zI x1)]) (hp 0 []) (.k0 [] [] [0,1]) ?_
 refine .then ?_
 replace hm:=oo_inv hm;obtain ⟨v0,h0,hm⟩:=hm
 replace hm:=inv_vBool hm;obtain ⟨b0,rfl,hm⟩:=hm
 refine .reg (eC 1 ((oo (pu 98 [zI x0]) none fun v=>some (v,(hp 0 [])))) (call_eq h0) (eE)) ?_
 refine .ghs (fr 20 [(0,zI x0),(1,zI x1),(5,zB b0)]) (hp 0 []) (.k0 [] [] [0,1,5]) ?_
 refine .then ?_
 replace hm:=oo_inv hm;obtain ⟨v1,h1,hm⟩:=hm
 replace hm:=inv_vBool hm;obtain ⟨b1,rfl,hm⟩:=hm
 refine .reg (eC 1 ((oo (pu 98 [zI x1]) none fun v=>some (v,(hp 0 [])))) (call_eq h1) (eE)) ?_
 refine .ghs (fr 20 [(0,zI x0),(1,zI x1),(5,zB b0),(6,zB b1)]) (hp 0 []) (.k0 [] [] [0,1,5,6]) ?_
 refine .then ?_
 refine .then (.rK ?_)
 refine .ghs (fr 20 [(0,zI x0),(1,zI x1),(6,zB b1),(11,zB b0)]) (hp 0 []) (.k0 [] [] [0,1,6,11]) ?_
 replace hm:=bb_cases hm;rcases hm with ⟨h2,hm⟩ | ⟨h2,hm⟩
 ·refine .ifT b0 (by kernel_rfl) h2 ?_
  refine .then ?_
  refine .then (.rK ?_)
  refine .ghs (fr 20 [(12,zB b1)]) (hp 0 []) (.k0 [] [] [12]) ?_
  replace hm:=bb_cases hm;rcases hm with ⟨h3,hm⟩ | ⟨h3,hm⟩
  ·refine .ifT b1 (by kernel_rfl) h3 ?_
   refine .then (.rK ?_)
   refine .ghs (fr 20 [(4,(zI (0:Int)))]) (hp 0 []) (.k0 [] [] [4]) ?_
   refine .ret ?_
   exact fin_ret (zI (0:Int)) (by kernel_rfl) (by kernel_rfl) hm
  ·refine .ifF b1 (by kernel_rfl) h3 ?_
   refine .skip ?_
   refine .ghs (fr 20 []) (hp 0 []) (.k0 [] [] []) ?_
   refine .then (.rK ?_)
   refine .ghs (fr 20 [(4,(zI (-1:Int)))]) (hp 0 []) (.k0 [] [] [4]) ?_
   refine .ret ?_
   exact fin_ret (zI (-1:Int)) (by kernel_rfl) (by kernel_rfl) hm
 ·refine .ifF b0 (by kernel_rfl) h2 ?_
  refine .skip ?_
  refine .ghs (fr 20 [(0,zI x0),(1,zI x1),(6,zB b1)]) (hp 0 []) (.k0 [] [] [0,1,6]) ?_
  refine .then ?_
  refine .then (.rK ?_)
  refine .ghs (fr 20 [(0,zI x0),(1,zI x1),(13,zB b1)]) (hp 0 []) (.k0 [] [] [0,1,13]) ?_
  replace hm:=bb_cases hm;rcases hm with ⟨h4,hm⟩ | ⟨h4,hm⟩
  ·refine .ifT b1 (by kernel_rfl) h4 ?_
   refine .then (.rK ?_)
   refine .ghs (fr 20 [(4,(zI (1:Int)))]) (hp 0 []) (.k0 [] [] [4]) ?_
   refine .ret ?_
   exact fin_ret (zI (1:Int)) (by kernel_rfl) (by kernel_rfl) hm
  ·refine .ifF b1 (by kernel_rfl) h4 ?_
   refine .skip ?_
   refine .ghs (fr 20 [(0,zI x0),(1,zI x1)]) (hp 0 []) (.k0 [] [] [0,1]) ?_
   refine .then ?_
   refine .then (.rK ?_)
   refine .ghs (fr 20 [(0,zI x0),(1,zI x1),(16,(zB (ilt x0 x1)))]) (hp 0 []) (.k0 [] [] [0,1,16]) ?_
   replace hm:=bb_cases hm;rcases hm with ⟨h5,hm⟩ | ⟨h5,hm⟩
   ·refine .ifT (ilt x0 x1) (by kernel_rfl) h5 ?_
    refine .then (.rK ?_)
    refine .ghs (fr 20 [(4,(zI (-1:Int)))]) (hp 0 []) (.k0 [] [] [4]) ?_
    refine .ret ?_
    exact fin_ret (zI (-1:Int)) (by kernel_rfl) (by kernel_rfl) hm
   ·refine .ifF (ilt x0 x1) (by kernel_rfl) h5 ?_
    refine .skip ?_
    refine .ghs (fr 20 [(0,zI x0),(1,zI x1)]) (hp 0 []) (.k0 [] [] [0,1]) ?_
    refine .then ?_
    refine .then (.rK ?_)
    refine .ghs (fr 20 [(19,(zB (ilt x1 x0)))]) (hp 0 []) (.k0 [] [] [19]) ?_
    replace hm:=bb_cases hm;rcases hm with ⟨h6,hm⟩ | ⟨h6,hm⟩
    ·refine .ifT (ilt x1 x0) (by kernel_rfl) h6 ?_
     refine .then (.rK ?_)
     refine .ghs (fr 20 [(4,(zI (1:Int)))]) (hp 0 []) (.k0 [] [] [4]) ?_
     refine .ret ?_
     exact fin_ret (zI (1:Int)) (by kernel_rfl) (by kernel_rfl) hm
    ·refine .ifF (ilt x1 x0) (by kernel_rfl) h6 ?_
     refine .skip ?_
     refine .ghs (fr 20 []) (hp 0 []) (.k0 [] [] []) ?_
     refine .then (.rK ?_)
     refine .ghs (fr 20 [(4,(zI (0:Int)))]) (hp 0 []) (.k0 [] [] [4]) ?_
     refine .ret ?_
     exact fin_ret (zI (0:Int)) (by kernel_rfl) (by kernel_rfl) hm

def m98_ (pu:PureF) (n:Nat) (x0:Int):OV:=
 (some (.bool (nt (ieq x0 x0))))
def m98 (pu:PureF) (n:Nat) (args:LV):OV:=
 (ll args none fun a0 args=>(ll args (oo (toI .i64 a0) none fun x0=>(m98_ pu n x0)) fun _ _=>none))
theorem r98 {call:CallF} (pu:PureF) (n:Nat) (hcall:call = callP tabs isP pu (inl pu)) {args:LV} {v:Value} (hm:m98 pu n args = some v) (_:∀ x ∈ args,closed2 x = true):args.length≤6∧Run tt call 0 c98_3 (Fr.made 6 args) (pureHeap tabs) (Fin tt 0 [.tmp 2] v):=by
 subst hcall
 unfold m98 at hm
 replace hm:=ll_uncons hm;obtain ⟨a0,args_0,rfl,hm⟩:=hm
 replace hm:=ll_end hm;obtain ⟨rfl,hm⟩:=hm
 replace hm:=inv_toI hm;obtain ⟨x0,rfl,hm⟩:=hm
 unfold m98_ at hm
 refine ⟨by simp,?_⟩
 refine .same (F':=(fr 6 [(0,zI x0)])) (H':=(hp 0 [])) (by kernel_rfl) (by kernel_rfl) ?_
 refine .then (.rK ?_)
 refine .ghs (fr 6 [(0,zI x0)]) (hp 0 []) (.k0 [] [] [0]) ?_
 refine .then (.rK ?_)
 refine .ghs (fr 6 [(2,(zB (nt (ieq x0 x0))))]) (hp 0 []) (.k0 [] [] [2]) ?_
 refine .ret ?_
 exact fin_ret (zB (nt (ieq x0 x0))) (by kernel_rfl) (by kernel_rfl) hm
def m88_0 (pu:PureF) (n:Nat):OV:=
 (some (.bool true))
def b88_1 (pu:PureF) (n:Nat) (ih0:Sl→Sl→Int→Int→OV) (s0 s1:Sl) (z0 z1:Int):OV:=
 (bb (ilt z1 z0) (oo (toN z1) none fun k1=>(bb (an (Nat.blt k1 (Sl.n s0)) true) (oo (nthL (Sl.cs s0) (k1 * 1)) none fun v0=>(oo (toI .i64 v0) none fun x0=>(bb (an (Nat.blt k1 (Sl.n s1)) true) (oo (nthL (Sl.cs s1) (k1 * 1)) none fun v1=>(oo (toI .i64 v1) none fun x1=>(bb (nt (ieq x0 x1)) (some (.bool false)) (ih0 s0 s1 z0 (wrapF .i64 (Int.add (Int.ofNat k1) (1:Int))))))) none))) none)) (m88_0 pu n))
def l88_1 (pu:PureF) (n w:Nat):Sl→Sl→Int→Int→OV:=
 Nat.rec (motive:=fun _=>Sl→Sl→Int→Int→OV) (fun _ _ _ _=>none) (fun _ ih0=>b88_1 pu n ih0) w
def m88_ (pu:PureF) (n:Nat) (s0 s1:Sl):OV:=
 (bb (nt (ieq (Int.ofNat (Sl.n s0)) (Int.ofNat (Sl.n s1)))) (some (.bool false)) (l88_1 pu n n s0 s1 (Int.ofNat (Sl.n s0)) (0:Int)))
def m88 (pu:PureF) (n:Nat) (args:LV):OV:=
 (ll args none fun a0 args=>(ll args none fun a1 args=>(ll args (oo (toSl 1 a0) none fun s0=>(oo (toSl 1 a1) none fun s1=>(m88_ pu n s0 s1))) fun _ _=>none)))
theorem w88_0 (pu:PureF) (n:Nat) {v:Value} (hm:m88_0 pu n = some v):Run tt (callP tabs isP pu (inl pu)) 0 c88_25 (fr 26 []) (hp 0 []) (Fin tt 0 [.tmp 4] v):=by
 unfold m88_0 at hm
 refine .then (.rK ?_)
 refine .ghs (fr 26 [(4,zB true)]) (hp 0 []) (.k0 [] [] [4]) ?_
 refine .ret ?_
 exact fin_ret (zB true) (by kernel_rfl) (by kernel_rfl) hm
theorem r88 {call:CallF} (pu:PureF) (n:Nat) (hcall:call = callP tabs isP pu (inl pu)) {args:LV} {v:Value} (hm:m88 pu n args = some v) (_:∀ x ∈ args,closed2 x = true):args.length≤26∧Run tt call 0 c88_28 (Fr.made 26 args) (pureHeap tabs) (Fin tt 0 [.tmp 4] v):=by
 subst hcall
 unfold m88 at hm
 replace hm:=ll_uncons hm;obtain ⟨a0,args_0,rfl,hm⟩:=hm
 replace hm:=ll_uncons hm;obtain ⟨a1,args_1,rfl,hm⟩:=hm
 replace hm:=ll_end hm;obtain ⟨rfl,hm⟩:=hm
 replace hm:=inv_toSl hm;obtain ⟨s0,rfl,hm⟩:=hm
 replace hm:=inv_toSl hm;obtain ⟨s1,rfl,hm⟩:=hm
 unfold m88_ at hm
 refine ⟨by simp,?_⟩
 refine .same (F':=(fr 26 [(0,Sl.v 1 s0),(1,Sl.v 1 s1)])) (H':=(hp 0 [])) (by kernel_rfl) (by kernel_rfl) ?_
 refine .then (.rK ?_)
 refine .ghs (fr 26 [(0,Sl.v 1 s0),(1,Sl.v 1 s1)]) (hp 0 []) (.k0 [] [] [0,1]) ?_
 refine .then ?_
 refine .then (.rK ?_)
 refine .ghs (fr 26 [(0,Sl.v 1 s0),(1,Sl.v 1 s1),(10,(zB (nt (ieq (Int.ofNat (Sl.n s0)) (Int.ofNat (Sl.n s1))))))]) (hp 0 []) (.k0 [] [] [0,1,10]) ?_
 replace hm:=bb_cases hm;rcases hm with ⟨h0,hm⟩ | ⟨h0,hm⟩
 ·refine .ifT (nt (ieq (Int.ofNat (Sl.n s0)) (Int.ofNat (Sl.n s1)))) (by kernel_rfl) h0 ?_
  refine .then (.rK ?_)
  refine .ghs (fr 26 [(4,zB false)]) (hp 0 []) (.k0 [] [] [4]) ?_
  refine .ret ?_
  exact fin_ret (zB false) (by kernel_rfl) (by kernel_rfl) hm
 ·refine .ifF (nt (ieq (Int.ofNat (Sl.n s0)) (Int.ofNat (Sl.n s1)))) (by kernel_rfl) h0 ?_
  refine .skip ?_
  refine .ghs (fr 26 [(0,Sl.v 1 s0),(1,Sl.v 1 s1)]) (hp 0 []) (.k0 [] [] [0,1]) ?_
  refine .join (v:=v) (fun y:Unit=>((fr 26 []),(hp 0 []))) (fun y=>m88_0 pu n) ?_ ?_
  ·rintro _ hm
   exact w88_0 pu n hm
  ·refine .then (.rK ?_)
   refine .ghs (fr 26 [(0,Sl.v 1 s0),(1,Sl.v 1 s1),(12,(zI (Int.ofNat (Sl.n s0)))),(13,(zI (0:Int)))]) (hp 0 []) (.k0 [] [] [0,1,12,13]) ?_
   refine .block ?_
   refine .loopM (v:=v) (fun y:Sl×Sl×Int×Int=>((fr 26 [(0,(Sl.v 1 y.1)),(1,(Sl.v 1 y.2.1)),(12,(zI y.2.2.1)),(13,(zI y.2.2.2))]),(hp 0 []))) (fun w y=>l88_1 pu n w y.1 y.2.1 y.2.2.1 y.2.2.2) n ⟨(s0,s1,(Int.ofNat (Sl.n s0)),(0:Int)),hm,(.k0 [] [] [0,1,12,13])⟩ (fun _=>rfl) ?_
   rintro w0 ⟨s2,s3,z0,z1⟩ hm
   replace hm:b88_1 pu n (l88_1 pu n w0) s2 s3 z0 z1 = some v:=hm
   unfold b88_1 at hm
   refine .then (.rK ?_)
   refine .ghs (fr 26 [(0,Sl.v 1 s2),(1,Sl.v 1 s3),(12,zI z0),(13,zI z1),(14,(zB (ilt z1 z0)))]) (hp 0 []) (.k0 [] [] [0,1,12,13,14]) ?_
   refine .then ?_
   replace hm:=bb_cases hm;rcases hm with ⟨h1,hm⟩ | ⟨h1,hm⟩
   ·refine .ifT (ilt z1 z0) (by kernel_rfl) h1 ?_
    refine .skip ?_
    refine .ghs (fr 26 [(0,Sl.v 1 s2),(1,Sl.v 1 s3),(12,zI z0),(13,zI z1)]) (hp 0 []) (.k0 [] [] [0,1,12,13]) ?_
    refine .then ?_
    refine .block ?_
    refine .then (.rK ?_)
    refine .ghs (fr 26 [(0,Sl.v 1 s2),(1,Sl.v 1 s3),(5,zI z1),(12,zI z0),(13,zI z1)]) (hp 0 []) (.k0 [] [] [0,1,5,12,13]) ?_
    refine .then ?_
    replace hm:=oo_inv hm;obtain ⟨k1,h2,hm⟩:=hm
    obtain rfl:=toN_some h2
    replace hm:=bb_inv hm;obtain ⟨h3,hm⟩:=hm
    replace hm:=oo_inv hm;obtain ⟨v0,h4,hm⟩:=hm
    replace hm:=inv_toI hm;obtain ⟨x0,rfl,hm⟩:=hm
    replace hm:=bb_inv hm;obtain ⟨h5,hm⟩:=hm
    replace hm:=oo_inv hm;obtain ⟨v1,h6,hm⟩:=hm
    replace hm:=inv_toI hm;obtain ⟨x1,rfl,hm⟩:=hm
    refine .reg (eC 2 (keep (hp 0 []) (bb (an (Nat.blt k1 (Sl.n s2)) true) (some (fpV (k1 * 1) (Sl.cs s2))) none)) (keep_bb h3) (eD (keep (hp 0 []) (nthL (Sl.cs s2) (k1 * 1))) (keep_eq h4) (eC 2 (keep (hp 0 []) (bb (an (Nat.blt k1 (Sl.n s3)) true) (some (fpV (k1 * 1) (Sl.cs s3))) none)) (keep_bb h5) (eD (keep (hp 0 []) (nthL (Sl.cs s3) (k1 * 1))) (keep_eq h6) (eE))))) ?_
    refine .ghs (fr 26 [(0,Sl.v 1 s2),(1,Sl.v 1 s3),(12,zI z0),(13,(zI (Int.ofNat k1))),(24,(zB (nt (ieq x0 x1))))]) (hp 0 []) (.k0 [] [] [0,1,12,13,24]) ?_
    replace hm:=bb_cases hm;rcases hm with ⟨h7,hm⟩ | ⟨h7,hm⟩
    ·refine .ifT (nt (ieq x0 x1)) (by kernel_rfl) h7 ?_
     refine .then (.rK ?_)
     refine .ghs (fr 26 [(4,zB false)]) (hp 0 []) (.k0 [] [] [4]) ?_
     refine .ret ?_
     exact fin_ret (zB false) (by kernel_rfl) (by kernel_rfl) hm
    ·refine .ifF (nt (ieq x0 x1)) (by kernel_rfl) h7 ?_
     refine .skip ?_
     refine .ghs (fr 26 [(0,Sl.v 1 s2),(1,Sl.v 1 s3),(12,zI z0),(13,(zI (Int.ofNat k1)))]) (hp 0 []) (.k0 [] [] [0,1,12,13]) ?_
     refine .rK ?_
     exact ⟨(s2,s3,z0,(wrapF .i64 (Int.add (Int.ofNat k1) (1:Int)))),hm,(.k0 [] [] [0,1,12,13])⟩
   ·refine .ifF (ilt z1 z0) (by kernel_rfl) h1 ?_
    refine .exit ?_
    exact ⟨(),hm,(.k0 [] [] [])⟩
def m15_0 (pu:PureF) (n n0 c0:Nat) (q1:LV):OV:=
 (bb (allL closed1 q1) (bb (an (Nat.ble (0 + n0 * 1) (len q1)) (allL closed1 (takeL (n0 * 1) (dropL 0 q1)))) (some (.tuple ⟨[(Sl.v 1 (Sl.mk n0 0 (takeL (n0 * 1) (dropL 0 q1)))),(.int .i64 (0:Int))]⟩)) none) none)
def b15_1 (pu:PureF) (n:Nat) (ih0:Nat→Nat→Sl→Int→Int→Int→Sl→Int→Int→LV→OV) (n0 c0:Nat) (s0:Sl) (z0 z1 z2:Int) (s1:Sl) (z3 z4:Int) (q1:LV):OV:=
 (bb (allL closed1 q1) (bb (ilt z1 z0) (oo (toN z1) none fun k1=>(bb (an (Nat.blt k1 (Sl.n s0)) true) (oo (nthL (Sl.cs s0) (k1 * 1)) none fun v0=>(oo (toI .i64 v0) none fun x0=>(bb (nt (ieq (Int.ofNat (Sl.n s1)) (0:Int))) (oo (toN (Int.tmod (wrapF .i64 (Int.add (Int.ofNat k1) (1:Int))) (Int.ofNat (Sl.n s1)))) none fun k2=>(bb (an (Nat.blt k2 (Sl.n s1)) true) (oo (nthL (Sl.cs s1) (k2 * 1)) none fun v1=>(oo (toI .i64 v1) none fun x1=>(oo (pu 62 [(.agg ⟨[.int .i64 z3,.int .u32 z4]⟩),(.int .i64 (wrapF .i64 (Int.sub (wrapF .i64 (Int.sub x1 x0)) (1:Int))))]) none fun v2=>(oo (toI .i64 v2) none fun x2=>(bb (growC 1 8 n0 c0 1 q1) (bb (allL closed1 (appL (dropL 0 q1) [(.int .i64 (wrapF .i64 (Int.add x2 (1:Int))))])) (ih0 (n0 + 1) (2 * (n0 + 1) + bb false 1 0) s0 z0 (wrapF .i64 (Int.add (Int.ofNat k1) (1:Int))) z2 s1 z3 z4 (appL (dropL 0 q1) [(.int .i64 (wrapF .i64 (Int.add x2 (1:Int))))])) none) none))))) none)) none))) none)) (m15_0 pu n n0 c0 q1)) none)
def l15_1 (pu:PureF) (n w:Nat):Nat→Nat→Sl→Int→Int→Int→Sl→Int→Int→LV→OV:=
 Nat.rec (motive:=fun _=>Nat→Nat→Sl→Int→Int→Int→Sl→Int→Int→LV→OV) (fun _ _ _ _ _ _ _ _ _ _=>none) (fun _ ih0=>b15_1 pu n ih0) w
def m15_ (pu:PureF) (n:Nat) (x0:Int) (s0:Sl):OV:=
 (oo (pu 61 [(.agg ⟨[.int .i64 x0,Sl.v 1 s0]⟩)]) none fun v0=>(oo (vTup v0) none fun l0=>(ll l0 none fun v1 l0=>(ll l0 none fun v2 l0=>(ll l0 (oo (vAgg v1) none fun l1=>(ll l1 none fun v3 l1=>(ll l1 none fun v4 l1=>(ll l1 (oo (toI .i64 v3) none fun x1=>(oo (toI .u32 v4) none fun x2=>(oo (toI .i64 v2) none fun x3=>(bb (nt (ieq x3 (0:Int))) (some (.tuple ⟨[(Sl.v 1 (Sl.mk 0 2 [])),.int .i64 x3]⟩)) (bb (ieq x2 (0:Int)) (some (.tuple ⟨[(Sl.v 1 (Sl.mk 0 2 [])),(.int .i64 (4:Int))]⟩)) (l15_1 pu n n 0 0 s0 (Int.ofNat (Sl.n s0)) (0:Int) x0 s0 x1 x2 ([]:LV))))))) fun _ _=>none)))) fun _ _=>none)))))
def m15 (pu:PureF) (n:Nat) (args:LV):OV:=
 (ll args none fun a0 args=>(ll args (oo (vAgg a0) none fun l0=>(ll l0 none fun v0 l0=>(ll l0 none fun v1 l0=>(ll l0 (oo (toI .i64 v0) none fun x0=>(oo (toSl 1 v1) none fun s0=>(m15_ pu n x0 s0))) fun _ _=>none)))) fun _ _=>none))
theorem w15_0 (pu:PureF) (n n0 c0:Nat) (q1:LV) {v:Value} (hm:m15_0 pu n n0 c0 q1 = some v):Run tt (callP tabs isP pu (inl pu)) 0 c15_31 (fr 53 [(6,sc 0 0 1 n0 c0)]) (hp 1 [oC q1]) (Fin tt 0 [.tmp 2,.tmp 3] v):=by
 unfold m15_0 at hm
 refine .then (.rK ?_)
 replace hm:=bb_inv hm;obtain ⟨h0,hm⟩:=hm
 refine .ghs (fr 53 [(2,sc 0 0 1 n0 c0),(3,(zI (0:Int)))]) (hp 1 [oC q1]) (.k [0] [] [.tmp 2 false] [2,3] ⟨trF h0,trivial⟩) ?_
 replace hm:=bb_inv hm;obtain ⟨h1,hm⟩:=hm
 refine .ghs (Fr.puts (fr 53 [(2,sc 0 0 1 n0 c0),(3,(zI (0:Int)))]) [(2,(Sl.v 1 (Sl.mk n0 0 (takeL (n0 * 1) (dropL 0 q1)))))]) (hp 1 [.dead]) (.freezeC 0 2 1 (an (Nat.ble (0 + n0 * 1) (len q1)) (allL closed1 (takeL (n0 * 1) (dropL 0 q1)))) (F1:=(Fr.puts (fr 53 [(2,sc 0 0 1 n0 c0),(3,(zI (0:Int)))]) [(2,(Sl.v 1 (Sl.mk n0 0 (takeL (n0 * 1) (dropL 0 q1)))))])) (H1:=(hp 1 [.dead])) (by kernel_rfl) (by kernel_rfl) h1 (GhS.id _ _)) ?_
 refine .ret ?_
 exact fin_ret (.tuple ⟨[(Sl.v 1 (Sl.mk n0 0 (takeL (n0 * 1) (dropL 0 q1)))),(zI (0:Int))]⟩) (by kernel_rfl) (by kernel_rfl) hm
theorem r15 {call:CallF} (pu:PureF) (n:Nat) (hcall:call = callP tabs isP pu (inl pu)) {args:LV} {v:Value} (hm:m15 pu n args = some v) (_:∀ x ∈ args,closed2 x = true):args.length≤53∧Run tt call 0 c15_36 (Fr.made 53 args) (pureHeap tabs) (Fin tt 0 [.tmp 2,.tmp 3] v):=by
 subst hcall
 unfold m15 at hm
 replace hm:=ll_uncons hm;obtain ⟨a0,args_0,rfl,hm⟩:=hm
 replace hm:=ll_end hm;obtain ⟨rfl,hm⟩:=hm
 replace hm:=inv_vAgg hm;obtain ⟨l0,rfl,hm⟩:=hm
 replace hm:=ll_uncons hm;obtain ⟨v0,l2517_0,rfl,hm⟩:=hm
 replace hm:=ll_uncons hm;obtain ⟨v1,l2517_1,rfl,hm⟩:=hm
 replace hm:=ll_end hm;obtain ⟨rfl,hm⟩:=hm
 replace hm:=inv_toI hm;obtain ⟨x0,rfl,hm⟩:=hm
 replace hm:=inv_toSl hm;obtain ⟨s0,rfl,hm⟩:=hm
 unfold m15_ at hm
 refine ⟨by simp,?_⟩
 refine .same (F':=(fr 53 [(0,(.agg ⟨[zI x0,Sl.v 1 s0]⟩))])) (H':=(hp 0 [])) (by kernel_rfl) (by kernel_rfl) ?_
 refine .then (.rK ?_)
 refine .ghs (fr 53 [(1,(pt 0 0))]) (hp 1 [(oC [zI x0,Sl.v 1 s0])]) (.k0 [] [.tmp 1 false] [1]) ?_
 refine .then ?_
 replace hm:=oo_inv hm;obtain ⟨v2,h0,hm⟩:=hm
 replace hm:=inv_vTup hm;obtain ⟨l1,rfl,hm⟩:=hm
 replace hm:=ll_uncons hm;obtain ⟨v3,l2543_0,rfl,hm⟩:=hm
 replace hm:=ll_uncons hm;obtain ⟨v4,l2543_1,rfl,hm⟩:=hm
 replace hm:=ll_end hm;obtain ⟨rfl,hm⟩:=hm
 replace hm:=inv_vAgg hm;obtain ⟨l2,rfl,hm⟩:=hm
 replace hm:=ll_uncons hm;obtain ⟨v5,l2547_0,rfl,hm⟩:=hm
 replace hm:=ll_uncons hm;obtain ⟨v6,l2547_1,rfl,hm⟩:=hm
 replace hm:=ll_end hm;obtain ⟨rfl,hm⟩:=hm
 replace hm:=inv_toI hm;obtain ⟨x1,rfl,hm⟩:=hm
 replace hm:=inv_toI hm;obtain ⟨x2,rfl,hm⟩:=hm
 replace hm:=inv_toI hm;obtain ⟨x3,rfl,hm⟩:=hm
 refine .reg (eC 1 ((oo (pu 61 [(.agg ⟨[zI x0,Sl.v 1 s0]⟩)]) none fun v=>some (v,(hp 1 [(oC [zI x0,Sl.v 1 s0])])))) (call_eq h0) (eE)) ?_
 refine .ghs (fr 53 [(1,(pt 0 0)),(4,pt 1 0),(5,zI x3)]) (hp 2 [(oC [zI x0,Sl.v 1 s0]),(oC [zI x1,.int .u32 x2])]) (.k0 [] [.tmp 1 false,.tmp 4 false] [1,4,5]) ?_
 refine .then ?_
 refine .block ?_
 refine .then (.rK ?_)
 refine .ghs (fr 53 [(1,(pt 0 0)),(4,pt 1 0),(5,zI x3),(15,(zB (nt (ieq x3 (0:Int)))))]) (hp 2 [(oC [zI x0,Sl.v 1 s0]),(oC [zI x1,.int .u32 x2])]) (.k0 [] [.tmp 1 false,.tmp 4 false] [1,4,5,15]) ?_
 replace hm:=bb_cases hm;rcases hm with ⟨h1,hm⟩ | ⟨h1,hm⟩
 ·refine .ifT (nt (ieq x3 (0 : Int))) (by kernel_rfl) h1 ?_
  refine .then (.rK ?_)
  refine .ghs (fr 53 [(2,(.slice none 0 0)),(3,zI x3)]) (hp 0 []) (.k0 [] [] [2,3]) ?_
  refine .ghs (Fr.puts (fr 53 [(2,(.slice none 0 0)),(3,zI x3)]) [(2,(Sl.v 1 (Sl.mk 0 2 [])))]) (hp 0 []) (.freeze 0 2 1 (by kernel_rfl) (by kernel_rfl) (GhS.id _ _)) ?_
  refine .ret ?_
  exact fin_ret (.tuple ⟨[(Sl.v 1 (Sl.mk 0 2 [])),zI x3]⟩) (by kernel_rfl) (by kernel_rfl) hm
 ·refine .ifF (nt (ieq x3 (0 : Int))) (by kernel_rfl) h1 ?_
  refine .then (.rK ?_)
  refine .ghs (fr 53 [(1,(pt 0 0)),(4,pt 1 0),(19,(zB (ieq x2 (0:Int))))]) (hp 2 [(oC [zI x0,Sl.v 1 s0]),(oC [zI x1,.int .u32 x2])]) (.k0 [] [.tmp 1 false,.tmp 4 false] [1,4,19]) ?_
  replace hm:=bb_cases hm;rcases hm with ⟨h2,hm⟩ | ⟨h2,hm⟩
  ·refine .ifT (ieq x2 (0 : Int)) (by kernel_rfl) h2 ?_
   refine .then (.rK ?_)
   refine .ghs (fr 53 [(2,(.slice none 0 0)),(3,(zI (4:Int)))]) (hp 0 []) (.k0 [] [] [2,3]) ?_
   refine .ghs (Fr.puts (fr 53 [(2,(.slice none 0 0)),(3,(zI (4:Int)))]) [(2,(Sl.v 1 (Sl.mk 0 2 [])))]) (hp 0 []) (.freeze 0 2 1 (by kernel_rfl) (by kernel_rfl) (GhS.id _ _)) ?_
   refine .ret ?_
   exact fin_ret (.tuple ⟨[(Sl.v 1 (Sl.mk 0 2 [])),(zI (4:Int))]⟩) (by kernel_rfl) (by kernel_rfl) hm
  ·refine .ifF (ieq x2 (0 : Int)) (by kernel_rfl) h2 ?_
   refine .skip ?_
   refine .ghs (fr 53 [(1,(pt 0 0)),(4,pt 1 0)]) (hp 2 [(oC [zI x0,Sl.v 1 s0]),(oC [zI x1,.int .u32 x2])]) (.k0 [] [.tmp 1 false,.tmp 4 false] [1,4]) ?_
   refine .then (.rK ?_)
   refine .ghs (fr 53 [(1,(pt 0 0)),(4,pt 1 0),(6,(.slice none 0 0))]) (hp 2 [(oC [zI x0,Sl.v 1 s0]),(oC [zI x1,.int .u32 x2])]) (.k0 [] [.tmp 1 false,.tmp 4 false] [1,4,6]) ?_
   refine .join (v:=v) (fun y:Nat×Nat×LV=>((fr 53 [(6,(sc 0 0 1 y.1 y.2.1))]),(hp 1 [(oC y.2.2)]))) (fun y=>m15_0 pu n y.1 y.2.1 y.2.2) ?_ ?_
   ·rintro ⟨n0, c0, q1⟩ hm
    exact w15_0 pu n n0 c0 q1 hm
   ·refine .then (.rK ?_)
    refine .ghs (fr 53 [(1,(pt 0 0)),(4,pt 1 0),(6,(.slice none 0 0)),(24,Sl.v 1 s0),(25,(zI (Int.ofNat (Sl.n s0)))),(26,(zI (0:Int)))]) (hp 2 [(oC [zI x0,Sl.v 1 s0]),(oC [zI x1,.int .u32 x2])]) (.k0 [] [.tmp 1 false,.tmp 4 false] [1,4,6,24,25,26]) ?_
    refine .block ?_
    refine .loopM (v:=v) (fun y:Nat×Nat×Sl×Int×Int×Int×Sl×Int×Int×LV=>((fr 53 [(1,(pt 0 0)),(4,pt 1 0),(6,(sc 2 0 1 y.1 y.2.1)),(24,(Sl.v 1 y.2.2.1)),(25,(zI y.2.2.2.1)),(26,(zI y.2.2.2.2.1))]),(hp 3 [(oC [(zI y.2.2.2.2.2.1),(Sl.v 1 y.2.2.2.2.2.2.1)]),(oC [(zI y.2.2.2.2.2.2.2.1),(.int .u32 y.2.2.2.2.2.2.2.2.1)]),(oC y.2.2.2.2.2.2.2.2.2)]))) (fun w y=>l15_1 pu n w y.1 y.2.1 y.2.2.1 y.2.2.2.1 y.2.2.2.2.1 y.2.2.2.2.2.1 y.2.2.2.2.2.2.1 y.2.2.2.2.2.2.2.1 y.2.2.2.2.2.2.2.2.1 y.2.2.2.2.2.2.2.2.2) n ⟨(0,0,s0,(Int.ofNat (Sl.n s0)),(0:Int),x0,s0,x1,x2,([]:LV)),hm,(.thaw 6 1 (by kernel_rfl) (.k0 [] [.tmp 1 false,.tmp 4 false,.tmp 6 false] [1,4,6,24,25,26]))⟩ (fun _=>rfl) ?_
    rintro w0 ⟨n1,c1,s1,z0,z1,z2,s2,z3,z4,q2⟩ hm
    replace hm:b15_1 pu n (l15_1 pu n w0) n1 c1 s1 z0 z1 z2 s2 z3 z4 q2 = some v:=hm
    unfold b15_1 at hm
    refine .then (.rK ?_)
    replace hm:=bb_inv hm;obtain ⟨h3,hm⟩:=hm
    refine .ghs (fr 53 [(1,(pt 0 0)),(4,pt 1 0),(6,sc 2 0 1 n1 c1),(24,Sl.v 1 s1),(25,zI z0),(26,zI z1),(27,(zB (ilt z1 z0)))]) (hp 3 [(oC [zI z2,Sl.v 1 s2]),(oC [zI z3,.int .u32 z4]),oC q2]) (.k [2] [] [.tmp 1 false,.tmp 4 false,.tmp 6 false] [1,4,6,24,25,26,27] ⟨trF h3,trivial⟩) ?_
    refine .then ?_
    replace hm:=bb_cases hm;rcases hm with ⟨h4,hm⟩ | ⟨h4,hm⟩
    ·refine .ifT (ilt z1 z0) (by kernel_rfl) h4 ?_
     refine .skip ?_
     refine .ghs (fr 53 [(1,(pt 0 0)),(4,pt 1 0),(6,sc 2 0 1 n1 c1),(24,Sl.v 1 s1),(25,zI z0),(26,zI z1)]) (hp 3 [(oC [zI z2,Sl.v 1 s2]),(oC [zI z3,.int .u32 z4]),oC q2]) (.k [2] [] [.tmp 1 false,.tmp 4 false,.tmp 6 false] [1,4,6,24,25,26] ⟨trF h3,trivial⟩) ?_
     refine .then ?_
     refine .block ?_
     refine .then ?_
     replace hm:=oo_inv hm;obtain ⟨k1,h5,hm⟩:=hm
     obtain rfl:=toN_some h5
     replace hm:=bb_inv hm;obtain ⟨h6,hm⟩:=hm
     replace hm:=oo_inv hm;obtain ⟨v7,h7,hm⟩:=hm
     replace hm:=inv_toI hm;obtain ⟨x4,rfl,hm⟩:=hm
     refine .reg (eC 1 (keep (hp 3 [(oC [zI z2,Sl.v 1 s2]),(oC [zI z3,.int .u32 z4]),oC q2]) (bb (an (Nat.blt k1 (Sl.n s1)) true) (some (fpV (k1 * 1) (Sl.cs s1))) none)) (keep_bb h6) (eD (keep (hp 3 [(oC [zI z2,Sl.v 1 s2]),(oC [zI z3,.int .u32 z4]),oC q2]) (nthL (Sl.cs s1) (k1 * 1))) (keep_eq h7) (eE))) ?_
     refine .ghs (fr 53 [(1,(pt 0 0)),(4,pt 1 0),(6,sc 2 0 1 n1 c1),(7,(zI (Int.ofNat k1))),(8,zI x4),(24,Sl.v 1 s1),(25,zI z0),(26,(zI (Int.ofNat k1)))]) (hp 3 [(oC [zI z2,Sl.v 1 s2]),(oC [zI z3,.int .u32 z4]),oC q2]) (.k [2] [] [.tmp 1 false,.tmp 4 false,.tmp 6 false] [1,4,6,7,8,24,25,26] ⟨trF h3,trivial⟩) ?_
     refine .then ?_
     replace hm:=bb_inv hm;obtain ⟨h8,hm⟩:=hm
     replace hm:=oo_inv hm;obtain ⟨k2,h9,hm⟩:=hm
     replace hm:=bb_inv hm;obtain ⟨h10,hm⟩:=hm
     replace hm:=oo_inv hm;obtain ⟨v8,h11,hm⟩:=hm
     replace hm:=inv_toI hm;obtain ⟨x5,rfl,hm⟩:=hm
     refine .reg (eC 7 (keep (hp 3 [(oC [zI z2,Sl.v 1 s2]),(oC [zI z3,.int .u32 z4]),oC q2]) (bb (ieq (Int.ofNat (Sl.n s2)) (0:Int)) none (some (zI (Int.tmod (wrapF .i64 (Int.add (Int.ofNat k1) (1:Int))) (Int.ofNat (Sl.n s2))))))) (show _ = some ((zI (Int.ofNat k2)),_) from (nat_eq (X:=(Int.tmod (wrapF .i64 (Int.add (Int.ofNat k1) (1:Int))) (Int.ofNat (Sl.n s2)))) (keep_nb h8) h9)) (eD (keep (hp 3 [(oC [zI z2,Sl.v 1 s2]),(oC [zI z3,.int .u32 z4]),oC q2]) (bb (an (Nat.blt k2 (Sl.n s2)) true) (some (fpV (k2 * 1) (Sl.cs s2))) none)) (keep_bb h10) (eD (keep (hp 3 [(oC [zI z2,Sl.v 1 s2]),(oC [zI z3,.int .u32 z4]),oC q2]) (nthL (Sl.cs s2) (k2 * 1))) (keep_eq h11) (eE)))) ?_
     refine .ghs (fr 53 [(1,(pt 0 0)),(4,pt 1 0),(6,sc 2 0 1 n1 c1),(8,zI x4),(9,zI x5),(24,Sl.v 1 s1),(25,zI z0),(26,(zI (Int.ofNat k1)))]) (hp 3 [(oC [zI z2,Sl.v 1 s2]),(oC [zI z3,.int .u32 z4]),oC q2]) (.k [2] [] [.tmp 1 false,.tmp 4 false,.tmp 6 false] [1,4,6,8,9,24,25,26] ⟨trF h3,trivial⟩) ?_
     replace hm:=oo_inv hm;obtain ⟨v9,h12,hm⟩:=hm
     replace hm:=inv_toI hm;obtain ⟨x6,rfl,hm⟩:=hm
     replace hm:=bb_inv hm;obtain ⟨h13,hm⟩:=hm
     refine .reg (eC 6 ((oo (pu 62 [(.agg ⟨[zI z3,.int .u32 z4]⟩),(zI (wrapF .i64 (Int.sub (wrapF .i64 (Int.sub x5 x4)) (1:Int))))]) none fun v=>some (v,(hp 3 [(oC [zI z2,Sl.v 1 s2]),(oC [zI z3,.int .u32 z4]),oC q2])))) (call_eq h12) (eC 2 (growD 1 8 n1 c1 1 2 q2 [(zI (wrapF .i64 (Int.add x6 (1:Int))))] [] (hp 4 [(oC [zI z2,Sl.v 1 s2]),(oC [zI z3,.int .u32 z4]),oC q2,(oC [(zI (wrapF .i64 (Int.add x6 (1:Int))))])])) (growD_eq h13) (eE))) ?_
     replace hm:=bb_inv hm;obtain ⟨h14,hm⟩:=hm
     refine .ghs (fr 53 [(1,(pt 0 0)),(4,pt 1 0),(6,(sc 2 0 1 (n1 + 1) (d2 (n1 + 1)))),(24,Sl.v 1 s1),(25,zI z0),(26,(zI (Int.ofNat k1)))]) (hp 3 [(oC [zI z2,Sl.v 1 s2]),(oC [zI z3,.int .u32 z4]),(oC (appL (dropL 0 q2) [(zI (wrapF .i64 (Int.add x6 (1:Int))))]))]) (.k [4] [] [.tmp 1 false,.tmp 4 false,.tmp 6 false] [1,4,6,24,25,26] ⟨trF h14,trivial⟩) ?_
     refine .rK ?_
     exact ⟨((n1 + 1),(d2 (n1 + 1)),s1,z0,(wrapF .i64 (Int.add (Int.ofNat k1) (1:Int))),z2,s2,z3,z4,(appL (dropL 0 q2) [(zI (wrapF .i64 (Int.add x6 (1:Int))))])),hm,(.k [2] [] [.tmp 1 false,.tmp 4 false,.tmp 6 false] [1,4,6,24,25,26] ⟨trF h14,trivial⟩)⟩
    ·refine .ifF (ilt z1 z0) (by kernel_rfl) h4 ?_
     refine .exit ?_
     exact ⟨(n1,c1,q2),hm,(.k [2] [] [.tmp 6 false] [6] ⟨trF h3,trivial⟩)⟩

def m17_ (pu:PureF) (n:Nat) (x0:Int) (s0:Sl) (x1:Int):OV:=
 (oo (pu 61 [(.agg ⟨[.int .i64 x0,Sl.v 1 s0]⟩)]) none fun v0=>(oo (vTup v0) none fun l0=>(ll l0 none fun v1 l0=>(ll l0 none fun v2 l0=>(ll l0 (oo (vAgg v1) none fun l1=>(ll l1 none fun v3 l1=>(ll l1 none fun v4 l1=>(ll l1 (oo (toI .i64 v3) none fun x2=>(oo (toI .u32 v4) none fun x3=>(oo (toI .i64 v2) none fun x4=>(bb (nt (ieq x4 (0:Int))) (some (.tuple ⟨[(.agg ⟨[(.int .i64 (0:Int)),(Sl.v 1 (Sl.mk 0 2 []))]⟩),.int .i64 x4]⟩)) (oo (pu 62 [(.agg ⟨[.int .i64 x2,.int .u32 x3]⟩),.int .i64 x1]) none fun v5=>(oo (toI .i64 v5) none fun x5=>(oo (pu 65 [(.agg ⟨[.int .i64 x2,.int .u32 x3]⟩),.int .i64 x5]) none fun v6=>(oo (vAgg v6) none fun l2=>(ll l2 none fun v7 l2=>(ll l2 none fun v8 l2=>(ll l2 (oo (toI .i64 v7) none fun x6=>(oo (toI .u32 v8) none fun x7=>(oo (pu 66 [(.agg ⟨[.int .i64 x6,.int .u32 x7]⟩)]) none fun v9=>(oo (vAgg v9) none fun l3=>(ll l3 none fun v10 l3=>(ll l3 none fun v11 l3=>(ll l3 (oo (toI .i64 v10) none fun x8=>(oo (toSl 1 v11) none fun s1=>(some (.tuple ⟨[(.agg ⟨[.int .i64 x8,Sl.v 1 s1]⟩),(.int .i64 (0:Int))]⟩)))) fun _ _=>none))))))) fun _ _=>none))))))))))) fun _ _=>none)))) fun _ _=>none)))))
def m17 (pu:PureF) (n:Nat) (args:LV):OV:=
 (ll args none fun a0 args=>(ll args none fun a1 args=>(ll args (oo (vAgg a0) none fun l0=>(ll l0 none fun v0 l0=>(ll l0 none fun v1 l0=>(ll l0 (oo (toI .i64 v0) none fun x0=>(oo (toSl 1 v1) none fun s0=>(oo (toI .i64 a1) none fun x1=>(m17_ pu n x0 s0 x1)))) fun _ _=>none)))) fun _ _=>none)))
theorem r17 {call:CallF} (pu:PureF) (n:Nat) (hcall:call = callP tabs isP pu (inl pu)) {args:LV} {v:Value} (hm:m17 pu n args = some v) (_:∀ x ∈ args,closed2 x = true):args.length≤23∧Run tt call 0 c17_11 (Fr.made 23 args) (pureHeap tabs) (Fin tt 0 [.cell 4 24,.tmp 5] v):=by
 subst hcall
 unfold m17 at hm
 replace hm:=ll_uncons hm;obtain ⟨a0,args_0,rfl,hm⟩:=hm
 replace hm:=ll_uncons hm;obtain ⟨a1,args_1,rfl,hm⟩:=hm
 replace hm:=ll_end hm;obtain ⟨rfl,hm⟩:=hm
 replace hm:=inv_vAgg hm;obtain ⟨l0,rfl,hm⟩:=hm
 replace hm:=ll_uncons hm;obtain ⟨v0,l2670_0,rfl,hm⟩:=hm
 replace hm:=ll_uncons hm;obtain ⟨v1,l2670_1,rfl,hm⟩:=hm
 replace hm:=ll_end hm;obtain ⟨rfl,hm⟩:=hm
 replace hm:=inv_toI hm;obtain ⟨x0,rfl,hm⟩:=hm
 replace hm:=inv_toSl hm;obtain ⟨s0,rfl,hm⟩:=hm
 replace hm:=inv_toI hm;obtain ⟨x1,rfl,hm⟩:=hm
 unfold m17_ at hm
 refine ⟨by simp,?_⟩
 refine .same (F':=(fr 23 [(0,(.agg ⟨[zI x0,Sl.v 1 s0]⟩)),(1,zI x1)])) (H':=(hp 0 [])) (by kernel_rfl) (by kernel_rfl) ?_
 refine .then (.rK ?_)
 refine .ghs (fr 23 [(1,zI x1),(2,(pt 0 0)),(4,pt 1 0)]) (hp 2 [(oC [zI x0,Sl.v 1 s0]),(oC [(zI (0:Int)),(.slice none 0 0)])]) (.k0 [] [.tmp 2 false,.tmp 4 false] [1,2,4]) ?_
 refine .then ?_
 replace hm:=oo_inv hm;obtain ⟨v2,h0,hm⟩:=hm
 replace hm:=inv_vTup hm;obtain ⟨l1,rfl,hm⟩:=hm
 replace hm:=ll_uncons hm;obtain ⟨v3,l2698_0,rfl,hm⟩:=hm
 replace hm:=ll_uncons hm;obtain ⟨v4,l2698_1,rfl,hm⟩:=hm
 replace hm:=ll_end hm;obtain ⟨rfl,hm⟩:=hm
 replace hm:=inv_vAgg hm;obtain ⟨l2,rfl,hm⟩:=hm
 replace hm:=ll_uncons hm;obtain ⟨v5,l2702_0,rfl,hm⟩:=hm
 replace hm:=ll_uncons hm;obtain ⟨v6,l2702_1,rfl,hm⟩:=hm
 replace hm:=ll_end hm;obtain ⟨rfl,hm⟩:=hm
 replace hm:=inv_toI hm;obtain ⟨x2,rfl,hm⟩:=hm
 replace hm:=inv_toI hm;obtain ⟨x3,rfl,hm⟩:=hm
 replace hm:=inv_toI hm;obtain ⟨x4,rfl,hm⟩:=hm
 refine .reg (eC 1 ((oo (pu 61 [(.agg ⟨[zI x0,Sl.v 1 s0]⟩)]) none fun v=>some (v,(hp 2 [(oC [zI x0,Sl.v 1 s0]),(oC [(zI (0:Int)),(.slice none 0 0)])])))) (call_eq h0) (eE)) ?_
 refine .ghs (fr 23 [(1,zI x1),(4,(pt 0 0)),(6,pt 1 0),(7,zI x4)]) (hp 2 [(oC [(zI (0:Int)),(.slice none 0 0)]),(oC [zI x2,.int .u32 x3])]) (.k0 [] [.tmp 4 false,.tmp 6 false] [1,4,6,7]) ?_
 refine .then ?_
 refine .then (.rK ?_)
 refine .ghs (fr 23 [(1,zI x1),(4,(pt 0 0)),(6,pt 1 0),(7,zI x4),(14,(zB (nt (ieq x4 (0:Int)))))]) (hp 2 [(oC [(zI (0:Int)),(.slice none 0 0)]),(oC [zI x2,.int .u32 x3])]) (.k0 [] [.tmp 4 false,.tmp 6 false] [1,4,6,7,14]) ?_
 replace hm:=bb_cases hm;rcases hm with ⟨h1,hm⟩ | ⟨h1,hm⟩
 ·refine .ifT (nt (ieq x4 (0 : Int))) (by kernel_rfl) h1 ?_
  refine .then (.rK ?_)
  refine .ghs (fr 23 [(4,(pt 0 0)),(5,zI x4)]) (hp 1 [(oC [(zI (0:Int)),(.slice none 0 0)])]) (.k0 [] [.tmp 4 false] [4,5]) ?_
  refine .ret ?_
  exact finT_ret (.tuple ⟨[(.agg ⟨[(zI (0:Int)),(.slice none 0 0)]⟩),zI x4]⟩) (.tuple ⟨[(.agg ⟨[(zI (0:Int)),(Sl.v 1 (Sl.mk 0 2 []))]⟩),zI x4]⟩) (by kernel_rfl) (Tell.tup (.cons (Tell.agg (.cons (Tell.refl _ _ _) (.cons (.weak (Weak.nil 1 2)) (TellL.nil _)))) (.cons (Tell.refl _ _ _) (TellL.nil _)))) (by kernel_rfl) hm
 ·refine .ifF (nt (ieq x4 (0 : Int))) (by kernel_rfl) h1 ?_
  refine .skip ?_
  refine .ghs (fr 23 [(1,zI x1),(4,(pt 0 0)),(6,pt 1 0)]) (hp 2 [(oC [(zI (0:Int)),(.slice none 0 0)]),(oC [zI x2,.int .u32 x3])]) (.k0 [] [.tmp 4 false,.tmp 6 false] [1,4,6]) ?_
  refine .then ?_
  replace hm:=oo_inv hm;obtain ⟨v7,h2,hm⟩:=hm
  replace hm:=inv_toI hm;obtain ⟨x5,rfl,hm⟩:=hm
  replace hm:=oo_inv hm;obtain ⟨v8,h3,hm⟩:=hm
  replace hm:=inv_vAgg hm;obtain ⟨l3,rfl,hm⟩:=hm
  replace hm:=ll_uncons hm;obtain ⟨v9,l2743_0,rfl,hm⟩:=hm
  replace hm:=ll_uncons hm;obtain ⟨v10,l2743_1,rfl,hm⟩:=hm
  replace hm:=ll_end hm;obtain ⟨rfl,hm⟩:=hm
  replace hm:=inv_toI hm;obtain ⟨x6,rfl,hm⟩:=hm
  replace hm:=inv_toI hm;obtain ⟨x7,rfl,hm⟩:=hm
  replace hm:=oo_inv hm;obtain ⟨v11,h4,hm⟩:=hm
  replace hm:=inv_vAgg hm;obtain ⟨l4,rfl,hm⟩:=hm
  replace hm:=ll_uncons hm;obtain ⟨v12,l2753_0,rfl,hm⟩:=hm
  replace hm:=ll_uncons hm;obtain ⟨v13,l2753_1,rfl,hm⟩:=hm
  replace hm:=ll_end hm;obtain ⟨rfl,hm⟩:=hm
  replace hm:=inv_toI hm;obtain ⟨x8,rfl,hm⟩:=hm
  replace hm:=inv_toSl hm;obtain ⟨s1,rfl,hm⟩:=hm
  refine .reg (eC 3 ((oo (pu 62 [(.agg ⟨[zI x2,.int .u32 x3]⟩),zI x1]) none fun v=>some (v,(hp 2 [(oC [(zI (0:Int)),(.slice none 0 0)]),(oC [zI x2,.int .u32 x3])])))) (call_eq h2) (eD ((oo (pu 65 [(.agg ⟨[zI x2,.int .u32 x3]⟩),zI x5]) none fun v=>some (v,(hp 2 [(oC [(zI (0:Int)),(.slice none 0 0)]),(oC [zI x2,.int .u32 x3])])))) (call_eq h3) (eD ((oo (pu 66 [(.agg ⟨[zI x6,.int .u32 x7]⟩)]) none fun v=>some (v,(hp 2 [(oC [(zI (0:Int)),(.slice none 0 0)]),(oC [zI x2,.int .u32 x3])])))) (call_eq h4) (eE)))) ?_
  refine .ghs (fr 23 [(4,(pt 0 0)),(5,(zI (0:Int)))]) (hp 1 [(oC [zI x8,Sl.v 1 s1])]) (.k0 [] [.tmp 4 false] [4,5]) ?_
  refine .ret ?_
  exact fin_ret (.tuple ⟨[(.agg ⟨[zI x8,Sl.v 1 s1]⟩),(zI (0:Int))]⟩) (by kernel_rfl) (by kernel_rfl) hm

def m19_ (pu:PureF) (n:Nat) (x0:Int) (s0:Sl):OV:=
 (oo (pu 61 [(.agg ⟨[.int .i64 x0,Sl.v 1 s0]⟩)]) none fun v0=>(oo (vTup v0) none fun l0=>(ll l0 none fun v1 l0=>(ll l0 none fun v2 l0=>(ll l0 (oo (vAgg v1) none fun l1=>(ll l1 none fun v3 l1=>(ll l1 none fun v4 l1=>(ll l1 (oo (toI .i64 v3) none fun x1=>(oo (toI .u32 v4) none fun x2=>(oo (toI .i64 v2) none fun x3=>(bb (nt (ieq x3 (0:Int))) (some (.tuple ⟨[(.agg ⟨[(.int .i64 (0:Int)),(Sl.v 1 (Sl.mk 0 2 []))]⟩),.int .i64 x3]⟩)) (oo (pu 68 [(.agg ⟨[.int .i64 x1,.int .u32 x2]⟩)]) none fun v5=>(oo (vAgg v5) none fun l2=>(ll l2 none fun v6 l2=>(ll l2 none fun v7 l2=>(ll l2 (oo (toI .i64 v6) none fun x4=>(oo (toI .u32 v7) none fun x5=>(oo (pu 66 [(.agg ⟨[.int .i64 x4,.int .u32 x5]⟩)]) none fun v8=>(oo (vAgg v8) none fun l3=>(ll l3 none fun v9 l3=>(ll l3 none fun v10 l3=>(ll l3 (oo (toI .i64 v9) none fun x6=>(oo (toSl 1 v10) none fun s1=>(some (.tuple ⟨[(.agg ⟨[.int .i64 x6,Sl.v 1 s1]⟩),(.int .i64 (0:Int))]⟩)))) fun _ _=>none))))))) fun _ _=>none))))))))) fun _ _=>none)))) fun _ _=>none)))))
def m19 (pu:PureF) (n:Nat) (args:LV):OV:=
 (ll args none fun a0 args=>(ll args (oo (vAgg a0) none fun l0=>(ll l0 none fun v0 l0=>(ll l0 none fun v1 l0=>(ll l0 (oo (toI .i64 v0) none fun x0=>(oo (toSl 1 v1) none fun s0=>(m19_ pu n x0 s0))) fun _ _=>none)))) fun _ _=>none))
theorem r19 {call:CallF} (pu:PureF) (n:Nat) (hcall:call = callP tabs isP pu (inl pu)) {args:LV} {v:Value} (hm:m19 pu n args = some v) (_:∀ x ∈ args,closed2 x = true):args.length≤18∧Run tt call 0 c19_11 (Fr.made 18 args) (pureHeap tabs) (Fin tt 0 [.cell 2 24,.tmp 3] v):=by
 subst hcall
 unfold m19 at hm
 replace hm:=ll_uncons hm;obtain ⟨a0,args_0,rfl,hm⟩:=hm
 replace hm:=ll_end hm;obtain ⟨rfl,hm⟩:=hm
 replace hm:=inv_vAgg hm;obtain ⟨l0,rfl,hm⟩:=hm
 replace hm:=ll_uncons hm;obtain ⟨v0,l2761_0,rfl,hm⟩:=hm
 replace hm:=ll_uncons hm;obtain ⟨v1,l2761_1,rfl,hm⟩:=hm
 replace hm:=ll_end hm;obtain ⟨rfl,hm⟩:=hm
 replace hm:=inv_toI hm;obtain ⟨x0,rfl,hm⟩:=hm
 replace hm:=inv_toSl hm;obtain ⟨s0,rfl,hm⟩:=hm
 unfold m19_ at hm
 refine ⟨by simp,?_⟩
 refine .same (F':=(fr 18 [(0,(.agg ⟨[zI x0,Sl.v 1 s0]⟩))])) (H':=(hp 0 [])) (by kernel_rfl) (by kernel_rfl) ?_
 refine .then (.rK ?_)
 refine .ghs (fr 18 [(1,(pt 0 0)),(2,pt 1 0)]) (hp 2 [(oC [zI x0,Sl.v 1 s0]),(oC [(zI (0:Int)),(.slice none 0 0)])]) (.k0 [] [.tmp 1 false,.tmp 2 false] [1,2]) ?_
 refine .then ?_
 replace hm:=oo_inv hm;obtain ⟨v2,h0,hm⟩:=hm
 replace hm:=inv_vTup hm;obtain ⟨l1,rfl,hm⟩:=hm
 replace hm:=ll_uncons hm;obtain ⟨v3,l2787_0,rfl,hm⟩:=hm
 replace hm:=ll_uncons hm;obtain ⟨v4,l2787_1,rfl,hm⟩:=hm
 replace hm:=ll_end hm;obtain ⟨rfl,hm⟩:=hm
 replace hm:=inv_vAgg hm;obtain ⟨l2,rfl,hm⟩:=hm
 replace hm:=ll_uncons hm;obtain ⟨v5,l2791_0,rfl,hm⟩:=hm
 replace hm:=ll_uncons hm;obtain ⟨v6,l2791_1,rfl,hm⟩:=hm
 replace hm:=ll_end hm;obtain ⟨rfl,hm⟩:=hm
 replace hm:=inv_toI hm;obtain ⟨x1,rfl,hm⟩:=hm
 replace hm:=inv_toI hm;obtain ⟨x2,rfl,hm⟩:=hm
 replace hm:=inv_toI hm;obtain ⟨x3,rfl,hm⟩:=hm
 refine .reg (eC 1 ((oo (pu 61 [(.agg ⟨[zI x0,Sl.v 1 s0]⟩)]) none fun v=>some (v,(hp 2 [(oC [zI x0,Sl.v 1 s0]),(oC [(zI (0:Int)),(.slice none 0 0)])])))) (call_eq h0) (eE)) ?_
 refine .ghs (fr 18 [(2,(pt 0 0)),(4,pt 1 0),(5,zI x3)]) (hp 2 [(oC [(zI (0:Int)),(.slice none 0 0)]),(oC [zI x1,.int .u32 x2])]) (.k0 [] [.tmp 2 false,.tmp 4 false] [2,4,5]) ?_
 refine .then ?_
 refine .then (.rK ?_)
 refine .ghs (fr 18 [(2,(pt 0 0)),(4,pt 1 0),(5,zI x3),(12,(zB (nt (ieq x3 (0:Int)))))]) (hp 2 [(oC [(zI (0:Int)),(.slice none 0 0)]),(oC [zI x1,.int .u32 x2])]) (.k0 [] [.tmp 2 false,.tmp 4 false] [2,4,5,12]) ?_
 replace hm:=bb_cases hm;rcases hm with ⟨h1,hm⟩ | ⟨h1,hm⟩
 ·refine .ifT (nt (ieq x3 (0 : Int))) (by kernel_rfl) h1 ?_
  refine .then (.rK ?_)
  refine .ghs (fr 18 [(2,(pt 0 0)),(3,zI x3)]) (hp 1 [(oC [(zI (0:Int)),(.slice none 0 0)])]) (.k0 [] [.tmp 2 false] [2,3]) ?_
  refine .ret ?_
  exact finT_ret (.tuple ⟨[(.agg ⟨[(zI (0:Int)),(.slice none 0 0)]⟩),zI x3]⟩) (.tuple ⟨[(.agg ⟨[(zI (0:Int)),(Sl.v 1 (Sl.mk 0 2 []))]⟩),zI x3]⟩) (by kernel_rfl) (Tell.tup (.cons (Tell.agg (.cons (Tell.refl _ _ _) (.cons (.weak (Weak.nil 1 2)) (TellL.nil _)))) (.cons (Tell.refl _ _ _) (TellL.nil _)))) (by kernel_rfl) hm
 ·refine .ifF (nt (ieq x3 (0 : Int))) (by kernel_rfl) h1 ?_
  refine .skip ?_
  refine .ghs (fr 18 [(2,(pt 0 0)),(4,pt 1 0)]) (hp 2 [(oC [(zI (0:Int)),(.slice none 0 0)]),(oC [zI x1,.int .u32 x2])]) (.k0 [] [.tmp 2 false,.tmp 4 false] [2,4]) ?_
  refine .then ?_
  replace hm:=oo_inv hm;obtain ⟨v7,h2,hm⟩:=hm
  replace hm:=inv_vAgg hm;obtain ⟨l3,rfl,hm⟩:=hm
  replace hm:=ll_uncons hm;obtain ⟨v8,l2824_0,rfl,hm⟩:=hm
  replace hm:=ll_uncons hm;obtain ⟨v9,l2824_1,rfl,hm⟩:=hm
  replace hm:=ll_end hm;obtain ⟨rfl,hm⟩:=hm
  replace hm:=inv_toI hm;obtain ⟨x4,rfl,hm⟩:=hm
  replace hm:=inv_toI hm;obtain ⟨x5,rfl,hm⟩:=hm
  replace hm:=oo_inv hm;obtain ⟨v10,h3,hm⟩:=hm
  replace hm:=inv_vAgg hm;obtain ⟨l4,rfl,hm⟩:=hm
  replace hm:=ll_uncons hm;obtain ⟨v11,l2834_0,rfl,hm⟩:=hm
  replace hm:=ll_uncons hm;obtain ⟨v12,l2834_1,rfl,hm⟩:=hm
  replace hm:=ll_end hm;obtain ⟨rfl,hm⟩:=hm
  replace hm:=inv_toI hm;obtain ⟨x6,rfl,hm⟩:=hm
  replace hm:=inv_toSl hm;obtain ⟨s1,rfl,hm⟩:=hm
  refine .reg (eC 1 ((oo (pu 68 [(.agg ⟨[zI x1,.int .u32 x2]⟩)]) none fun v=>some (v,(hp 2 [(oC [(zI (0:Int)),(.slice none 0 0)]),(oC [zI x1,.int .u32 x2])])))) (call_eq h2) (eD ((oo (pu 66 [(.agg ⟨[zI x4,.int .u32 x5]⟩)]) none fun v=>some (v,(hp 2 [(oC [(zI (0:Int)),(.slice none 0 0)]),(oC [zI x1,.int .u32 x2])])))) (call_eq h3) (eE))) ?_
  refine .ghs (fr 18 [(2,(pt 0 0)),(3,(zI (0:Int)))]) (hp 1 [(oC [zI x6,Sl.v 1 s1])]) (.k0 [] [.tmp 2 false] [2,3]) ?_
  refine .ret ?_
  exact fin_ret (.tuple ⟨[(.agg ⟨[zI x6,Sl.v 1 s1]⟩),(zI (0:Int))]⟩) (by kernel_rfl) (by kernel_rfl) hm
def m21_0 (pu:PureF) (n:Nat) (b0:Bool) (z0 z1 z2 z3:Int):OV:=
 (bb b0 (some (.tuple ⟨[(.int .i64 (0:Int)),(.bool false),(.int .i64 (5:Int))]⟩)) (oo (pu 70 [(.agg ⟨[.int .i64 z0,.int .u32 z1]⟩),(.agg ⟨[.int .i64 z2,.int .u32 z3]⟩)]) none fun v0=>(oo (vTup v0) none fun l0=>(ll l0 none fun v1 l0=>(ll l0 none fun v2 l0=>(ll l0 (oo (toI .i64 v1) none fun x0=>(oo (vBool v2) none fun b1=>(bb b1 (some (.tuple ⟨[.int .i64 x0,(.bool false),(.int .i64 (0:Int))]⟩)) (oo (pu 71 [(.agg ⟨[.int .i64 z0,.int .u32 z1]⟩),(.int .i64 (-1:Int))]) none fun v3=>(oo (vAgg v3) none fun l1=>(ll l1 none fun v4 l1=>(ll l1 none fun v5 l1=>(ll l1 (oo (toI .i64 v4) none fun x1=>(oo (toI .u32 v5) none fun x2=>(oo (pu 70 [(.agg ⟨[.int .i64 x1,.int .u32 x2]⟩),(.agg ⟨[.int .i64 z2,.int .u32 z3]⟩)]) none fun v6=>(oo (vTup v6) none fun l2=>(ll l2 none fun v7 l2=>(ll l2 none fun v8 l2=>(ll l2 (oo (toI .i64 v7) none fun x3=>(oo (vBool v8) none fun b2=>(bb b2 (some (.tuple ⟨[.int .i64 x3,(.bool true),(.int .i64 (0:Int))]⟩)) (some (.tuple ⟨[(.int .i64 (0:Int)),(.bool false),(.int .i64 (12:Int))]⟩))))) fun _ _=>none))))))) fun _ _=>none)))))))) fun _ _=>none))))))
def m21_ (pu:PureF) (n:Nat) (x0:Int) (s0:Sl) (x1:Int) (s1:Sl):OV:=
 (oo (pu 61 [(.agg ⟨[.int .i64 x0,Sl.v 1 s0]⟩)]) none fun v0=>(oo (vTup v0) none fun l0=>(ll l0 none fun v1 l0=>(ll l0 none fun v2 l0=>(ll l0 (oo (vAgg v1) none fun l1=>(ll l1 none fun v3 l1=>(ll l1 none fun v4 l1=>(ll l1 (oo (toI .i64 v3) none fun x2=>(oo (toI .u32 v4) none fun x3=>(oo (toI .i64 v2) none fun x4=>(bb (nt (ieq x4 (0:Int))) (some (.tuple ⟨[(.int .i64 (0:Int)),(.bool false),.int .i64 x4]⟩)) (oo (pu 61 [(.agg ⟨[.int .i64 x1,Sl.v 1 s1]⟩)]) none fun v5=>(oo (vTup v5) none fun l2=>(ll l2 none fun v6 l2=>(ll l2 none fun v7 l2=>(ll l2 (oo (vAgg v6) none fun l3=>(ll l3 none fun v8 l3=>(ll l3 none fun v9 l3=>(ll l3 (oo (toI .i64 v8) none fun x5=>(oo (toI .u32 v9) none fun x6=>(oo (toI .i64 v7) none fun x7=>(bb (nt (ieq x7 (0:Int))) (some (.tuple ⟨[(.int .i64 (0:Int)),(.bool false),.int .i64 x7]⟩)) (bb (nt (ieq x2 x5)) (m21_0 pu n true x2 x3 x5 x6) (m21_0 pu n (nt (ieq (Int.ofNat (Sl.n s0)) (Int.ofNat (Sl.n s1)))) x2 x3 x5 x6)))))) fun _ _=>none)))) fun _ _=>none))))))))) fun _ _=>none)))) fun _ _=>none)))))
def m21 (pu:PureF) (n:Nat) (args:LV):OV:=
 (ll args none fun a0 args=>(ll args none fun a1 args=>(ll args (oo (vAgg a0) none fun l0=>(ll l0 none fun v0 l0=>(ll l0 none fun v1 l0=>(ll l0 (oo (toI .i64 v0) none fun x0=>(oo (toSl 1 v1) none fun s0=>(oo (vAgg a1) none fun l1=>(ll l1 none fun v2 l1=>(ll l1 none fun v3 l1=>(ll l1 (oo (toI .i64 v2) none fun x1=>(oo (toSl 1 v3) none fun s1=>(m21_ pu n x0 s0 x1 s1))) fun _ _=>none)))))) fun _ _=>none)))) fun _ _=>none)))
theorem r21 {call:CallF} (pu:PureF) (n:Nat) (hcall:call = callP tabs isP pu (inl pu)) {args:LV} {v:Value} (hm:m21 pu n args = some v) (_:∀ x ∈ args,closed2 x = true):args.length≤62∧Run tt call 0 c21_41 (Fr.made 62 args) (pureHeap tabs) (Fin tt 0 [.tmp 4,.tmp 5,.tmp 6] v):=by
 subst hcall
 unfold m21 at hm
 replace hm:=ll_uncons hm;obtain ⟨a0,args_0,rfl,hm⟩:=hm
 replace hm:=ll_uncons hm;obtain ⟨a1,args_1,rfl,hm⟩:=hm
 replace hm:=ll_end hm;obtain ⟨rfl,hm⟩:=hm
 replace hm:=inv_vAgg hm;obtain ⟨l0,rfl,hm⟩:=hm
 replace hm:=ll_uncons hm;obtain ⟨v0,l2842_0,rfl,hm⟩:=hm
 replace hm:=ll_uncons hm;obtain ⟨v1,l2842_1,rfl,hm⟩:=hm
 replace hm:=ll_end hm;obtain ⟨rfl,hm⟩:=hm
 replace hm:=inv_toI hm;obtain ⟨x0,rfl,hm⟩:=hm
 replace hm:=inv_toSl hm;obtain ⟨s0,rfl,hm⟩:=hm
 replace hm:=inv_vAgg hm;obtain ⟨l1,rfl,hm⟩:=hm
 replace hm:=ll_uncons hm;obtain ⟨v2,l2850_0,rfl,hm⟩:=hm
 replace hm:=ll_uncons hm;obtain ⟨v3,l2850_1,rfl,hm⟩:=hm
 replace hm:=ll_end hm;obtain ⟨rfl,hm⟩:=hm
 replace hm:=inv_toI hm;obtain ⟨x1,rfl,hm⟩:=hm
 replace hm:=inv_toSl hm;obtain ⟨s1,rfl,hm⟩:=hm
 unfold m21_ at hm
 refine ⟨by simp,?_⟩
 refine .same (F':=(fr 62 [(0,(.agg ⟨[zI x0,Sl.v 1 s0]⟩)),(1,(.agg ⟨[zI x1,Sl.v 1 s1]⟩))])) (H':=(hp 0 [])) (by kernel_rfl) (by kernel_rfl) ?_
 refine .then (.rK ?_)
 refine .ghs (fr 62 [(2,(pt 0 0)),(3,pt 1 0)]) (hp 2 [(oC [zI x0,Sl.v 1 s0]),(oC [zI x1,Sl.v 1 s1])]) (.k0 [] [.tmp 2 false,.tmp 3 false] [2,3]) ?_
 refine .then ?_
 replace hm:=oo_inv hm;obtain ⟨v4,h0,hm⟩:=hm
 replace hm:=inv_vTup hm;obtain ⟨l2,rfl,hm⟩:=hm
 replace hm:=ll_uncons hm;obtain ⟨v5,l2876_0,rfl,hm⟩:=hm
 replace hm:=ll_uncons hm;obtain ⟨v6,l2876_1,rfl,hm⟩:=hm
 replace hm:=ll_end hm;obtain ⟨rfl,hm⟩:=hm
 replace hm:=inv_vAgg hm;obtain ⟨l3,rfl,hm⟩:=hm
 replace hm:=ll_uncons hm;obtain ⟨v7,l2880_0,rfl,hm⟩:=hm
 replace hm:=ll_uncons hm;obtain ⟨v8,l2880_1,rfl,hm⟩:=hm
 replace hm:=ll_end hm;obtain ⟨rfl,hm⟩:=hm
 replace hm:=inv_toI hm;obtain ⟨x2,rfl,hm⟩:=hm
 replace hm:=inv_toI hm;obtain ⟨x3,rfl,hm⟩:=hm
 replace hm:=inv_toI hm;obtain ⟨x4,rfl,hm⟩:=hm
 refine .reg (eC 1 ((oo (pu 61 [(.agg ⟨[zI x0,Sl.v 1 s0]⟩)]) none fun v=>some (v,(hp 2 [(oC [zI x0,Sl.v 1 s0]),(oC [zI x1,Sl.v 1 s1])])))) (call_eq h0) (eE)) ?_
 refine .ghs (fr 62 [(2,(pt 0 0)),(3,pt 1 0),(6,zI x4),(7,(pt 2 0))]) (hp 3 [(oC [zI x0,Sl.v 1 s0]),(oC [zI x1,Sl.v 1 s1]),(oC [zI x2,.int .u32 x3])]) (.k0 [] [.tmp 2 false,.tmp 3 false,.tmp 7 false] [2,3,6,7]) ?_
 refine .then ?_
 refine .then (.rK ?_)
 refine .ghs (fr 62 [(2,(pt 0 0)),(3,pt 1 0),(6,zI x4),(7,(pt 2 0)),(19,(zB (nt (ieq x4 (0:Int)))))]) (hp 3 [(oC [zI x0,Sl.v 1 s0]),(oC [zI x1,Sl.v 1 s1]),(oC [zI x2,.int .u32 x3])]) (.k0 [] [.tmp 2 false,.tmp 3 false,.tmp 7 false] [2,3,6,7,19]) ?_
 replace hm:=bb_cases hm;rcases hm with ⟨h1,hm⟩ | ⟨h1,hm⟩
 ·refine .ifT (nt (ieq x4 (0 : Int))) (by kernel_rfl) h1 ?_
  refine .then (.rK ?_)
  refine .ghs (fr 62 [(4,(zI (0:Int))),(5,zB false),(6,zI x4)]) (hp 0 []) (.k0 [] [] [4,5,6]) ?_
  refine .ret ?_
  exact fin_ret (.tuple ⟨[(zI (0:Int)),zB false,zI x4]⟩) (by kernel_rfl) (by kernel_rfl) hm
 ·refine .ifF (nt (ieq x4 (0 : Int))) (by kernel_rfl) h1 ?_
  refine .skip ?_
  refine .ghs (fr 62 [(2,(pt 0 0)),(3,pt 1 0),(7,(pt 2 0))]) (hp 3 [(oC [zI x0,Sl.v 1 s0]),(oC [zI x1,Sl.v 1 s1]),(oC [zI x2,.int .u32 x3])]) (.k0 [] [.tmp 2 false,.tmp 3 false,.tmp 7 false] [2,3,7]) ?_
  refine .then ?_
  replace hm:=oo_inv hm;obtain ⟨v9,h2,hm⟩:=hm
  replace hm:=inv_vTup hm;obtain ⟨l4,rfl,hm⟩:=hm
  replace hm:=ll_uncons hm;obtain ⟨v10,l2909_0,rfl,hm⟩:=hm
  replace hm:=ll_uncons hm;obtain ⟨v11,l2909_1,rfl,hm⟩:=hm
  replace hm:=ll_end hm;obtain ⟨rfl,hm⟩:=hm
  replace hm:=inv_vAgg hm;obtain ⟨l5,rfl,hm⟩:=hm
  replace hm:=ll_uncons hm;obtain ⟨v12,l2913_0,rfl,hm⟩:=hm
  replace hm:=ll_uncons hm;obtain ⟨v13,l2913_1,rfl,hm⟩:=hm
  replace hm:=ll_end hm;obtain ⟨rfl,hm⟩:=hm
  replace hm:=inv_toI hm;obtain ⟨x5,rfl,hm⟩:=hm
  replace hm:=inv_toI hm;obtain ⟨x6,rfl,hm⟩:=hm
  replace hm:=inv_toI hm;obtain ⟨x7,rfl,hm⟩:=hm
  refine .reg (eC 1 ((oo (pu 61 [(.agg ⟨[zI x1,Sl.v 1 s1]⟩)]) none fun v=>some (v,(hp 3 [(oC [zI x0,Sl.v 1 s0]),(oC [zI x1,Sl.v 1 s1]),(oC [zI x2,.int .u32 x3])])))) (call_eq h2) (eE)) ?_
  refine .ghs (fr 62 [(2,(pt 0 0)),(3,pt 1 0),(6,zI x7),(7,(pt 2 0)),(8,(pt 3 0))]) (hp 4 [(oC [zI x0,Sl.v 1 s0]),(oC [zI x1,Sl.v 1 s1]),(oC [zI x2,.int .u32 x3]),(oC [zI x5,.int .u32 x6])]) (.k0 [] [.tmp 2 false,.tmp 3 false,.tmp 7 false,.tmp 8 false] [2,3,6,7,8]) ?_
  refine .then ?_
  refine .block ?_
  refine .then (.rK ?_)
  refine .ghs (fr 62 [(2,(pt 0 0)),(3,pt 1 0),(6,zI x7),(7,(pt 2 0)),(8,(pt 3 0)),(26,(zB (nt (ieq x7 (0:Int)))))]) (hp 4 [(oC [zI x0,Sl.v 1 s0]),(oC [zI x1,Sl.v 1 s1]),(oC [zI x2,.int .u32 x3]),(oC [zI x5,.int .u32 x6])]) (.k0 [] [.tmp 2 false,.tmp 3 false,.tmp 7 false,.tmp 8 false] [2,3,6,7,8,26]) ?_
  replace hm:=bb_cases hm;rcases hm with ⟨h3,hm⟩ | ⟨h3,hm⟩
  ·refine .ifT (nt (ieq x7 (0 : Int))) (by kernel_rfl) h3 ?_
   refine .then (.rK ?_)
   refine .ghs (fr 62 [(4,(zI (0:Int))),(5,zB false),(6,zI x7)]) (hp 0 []) (.k0 [] [] [4,5,6]) ?_
   refine .ret ?_
   exact fin_ret (.tuple ⟨[(zI (0:Int)),zB false,zI x7]⟩) (by kernel_rfl) (by kernel_rfl) hm
  ·refine .ifF (nt (ieq x7 (0 : Int))) (by kernel_rfl) h3 ?_
   refine .join (v:=v) (fun y:Bool×Int×Int×Int×Int=>((fr 62 [(7,(pt 0 0)),(8,pt 1 0),(30,(zB y.1))]),(hp 2 [(oC [(zI y.2.1),(.int .u32 y.2.2.1)]),(oC [(zI y.2.2.2.1),(.int .u32 y.2.2.2.2)])]))) (fun y=>m21_0 pu n y.1 y.2.1 y.2.2.1 y.2.2.2.1 y.2.2.2.2) ?_ ?_
   ·rintro ⟨b0, z0, z1, z2, z3⟩ hm
    unfold m21_0 at hm
    replace hm:=bb_cases hm;rcases hm with ⟨h4,hm⟩ | ⟨h4,hm⟩
    ·refine .ifT b0 (by kernel_rfl) h4 ?_
     refine .then (.rK ?_)
     refine .ghs (fr 62 [(4,(zI (0:Int))),(5,zB false),(6,(zI (5:Int)))]) (hp 0 []) (.k0 [] [] [4,5,6]) ?_
     refine .ret ?_
     exact fin_ret (.tuple ⟨[(zI (0:Int)),zB false,(zI (5:Int))]⟩) (by kernel_rfl) (by kernel_rfl) hm
    ·refine .ifF b0 (by kernel_rfl) h4 ?_
     refine .skip ?_
     refine .ghs (fr 62 [(7,(pt 0 0)),(8,pt 1 0)]) (hp 2 [(oC [zI z0,.int .u32 z1]),(oC [zI z2,.int .u32 z3])]) (.k0 [] [.tmp 7 false,.tmp 8 false] [7,8]) ?_
     refine .then ?_
     refine .then ?_
     replace hm:=oo_inv hm;obtain ⟨v14,h5,hm⟩:=hm
     replace hm:=inv_vTup hm;obtain ⟨l6,rfl,hm⟩:=hm
     replace hm:=ll_uncons hm;obtain ⟨v15,l2944_0,rfl,hm⟩:=hm
     replace hm:=ll_uncons hm;obtain ⟨v16,l2944_1,rfl,hm⟩:=hm
     replace hm:=ll_end hm;obtain ⟨rfl,hm⟩:=hm
     replace hm:=inv_toI hm;obtain ⟨x8,rfl,hm⟩:=hm
     replace hm:=inv_vBool hm;obtain ⟨b1,rfl,hm⟩:=hm
     refine .reg (eC 2 ((oo (pu 70 [(.agg ⟨[zI z0,.int .u32 z1]⟩),(.agg ⟨[zI z2,.int .u32 z3]⟩)]) none fun v=>some (v,(hp 2 [(oC [zI z0,.int .u32 z1]),(oC [zI z2,.int .u32 z3])])))) (call_eq h5) (eE)) ?_
     refine .ghs (fr 62 [(7,(pt 0 0)),(8,pt 1 0),(9,zI x8),(10,zB b1)]) (hp 2 [(oC [zI z0,.int .u32 z1]),(oC [zI z2,.int .u32 z3])]) (.k0 [] [.tmp 7 false,.tmp 8 false] [7,8,9,10]) ?_
     refine .then (.rK ?_)
     refine .ghs (fr 62 [(7,(pt 0 0)),(8,pt 1 0),(9,zI x8),(51,zB b1)]) (hp 2 [(oC [zI z0,.int .u32 z1]),(oC [zI z2,.int .u32 z3])]) (.k0 [] [.tmp 7 false,.tmp 8 false] [7,8,9,51]) ?_
     replace hm:=bb_cases hm;rcases hm with ⟨h6,hm⟩ | ⟨h6,hm⟩
     ·refine .ifT b1 (by kernel_rfl) h6 ?_
      refine .then (.rK ?_)
      refine .ghs (fr 62 [(4,zI x8),(5,zB false),(6,(zI (0:Int)))]) (hp 0 []) (.k0 [] [] [4,5,6]) ?_
      refine .ret ?_
      exact fin_ret (.tuple ⟨[zI x8,zB false,(zI (0:Int))]⟩) (by kernel_rfl) (by kernel_rfl) hm
     ·refine .ifF b1 (by kernel_rfl) h6 ?_
      refine .skip ?_
      refine .ghs (fr 62 [(7,(pt 0 0)),(8,pt 1 0)]) (hp 2 [(oC [zI z0,.int .u32 z1]),(oC [zI z2,.int .u32 z3])]) (.k0 [] [.tmp 7 false,.tmp 8 false] [7,8]) ?_
      refine .then ?_
      refine .then ?_
      replace hm:=oo_inv hm;obtain ⟨v17,h7,hm⟩:=hm
      replace hm:=inv_vAgg hm;obtain ⟨l7,rfl,hm⟩:=hm
      replace hm:=ll_uncons hm;obtain ⟨v18,l2975_0,rfl,hm⟩:=hm
      replace hm:=ll_uncons hm;obtain ⟨v19,l2975_1,rfl,hm⟩:=hm
      replace hm:=ll_end hm;obtain ⟨rfl,hm⟩:=hm
      replace hm:=inv_toI hm;obtain ⟨x9,rfl,hm⟩:=hm
      replace hm:=inv_toI hm;obtain ⟨x10,rfl,hm⟩:=hm
      replace hm:=oo_inv hm;obtain ⟨v20,h8,hm⟩:=hm
      replace hm:=inv_vTup hm;obtain ⟨l8,rfl,hm⟩:=hm
      replace hm:=ll_uncons hm;obtain ⟨v21,l2985_0,rfl,hm⟩:=hm
      replace hm:=ll_uncons hm;obtain ⟨v22,l2985_1,rfl,hm⟩:=hm
      replace hm:=ll_end hm;obtain ⟨rfl,hm⟩:=hm
      replace hm:=inv_toI hm;obtain ⟨x11,rfl,hm⟩:=hm
      replace hm:=inv_vBool hm;obtain ⟨b2,rfl,hm⟩:=hm
      refine .reg (eC 2 ((oo (pu 71 [(.agg ⟨[zI z0,.int .u32 z1]⟩),(zI (-1:Int))]) none fun v=>some (v,(hp 2 [(oC [zI z0,.int .u32 z1]),(oC [zI z2,.int .u32 z3])])))) (call_eq h7) (eD ((oo (pu 70 [(.agg ⟨[zI x9,.int .u32 x10]⟩),(.agg ⟨[zI z2,.int .u32 z3]⟩)]) none fun v=>some (v,(hp 2 [(oC [zI z0,.int .u32 z1]),(oC [zI z2,.int .u32 z3])])))) (call_eq h8) (eE))) ?_
      refine .ghs (fr 62 [(11,zI x11),(12,zB b2)]) (hp 0 []) (.k0 [] [] [11,12]) ?_
      refine .then (.rK ?_)
      refine .ghs (fr 62 [(11,zI x11),(60,zB b2)]) (hp 0 []) (.k0 [] [] [11,60]) ?_
      replace hm:=bb_cases hm;rcases hm with ⟨h9,hm⟩ | ⟨h9,hm⟩
      ·refine .ifT b2 (by kernel_rfl) h9 ?_
       refine .then (.rK ?_)
       refine .ghs (fr 62 [(4,zI x11),(5,zB true),(6,(zI (0:Int)))]) (hp 0 []) (.k0 [] [] [4,5,6]) ?_
       refine .ret ?_
       exact fin_ret (.tuple ⟨[zI x11,zB true,(zI (0:Int))]⟩) (by kernel_rfl) (by kernel_rfl) hm
      ·refine .ifF b2 (by kernel_rfl) h9 ?_
       refine .skip ?_
       refine .ghs (fr 62 []) (hp 0 []) (.k0 [] [] []) ?_
       refine .then (.rK ?_)
       refine .ghs (fr 62 [(4,(zI (0:Int))),(5,zB false),(6,(zI (12:Int)))]) (hp 0 []) (.k0 [] [] [4,5,6]) ?_
       refine .ret ?_
       exact fin_ret (.tuple ⟨[(zI (0:Int)),zB false,(zI (12:Int))]⟩) (by kernel_rfl) (by kernel_rfl) hm
   ·replace hm := bb_cases hm; rcases hm with ⟨h10, hm⟩ | ⟨h10, hm⟩
    ·refine .reg (eC 4 (some ((zB (nt (ieq x2 x5))), (hp 4 [(oC [zI x0, Sl.v 1 s0]), (oC [zI x1, Sl.v 1 s1]), (oC [zI x2, .int .u32 x3]), (oC [zI x5, .int .u32 x6])]))) (show _ = some ((zB true), _) from (by rw [h10])) (eE)) ?_
     exact ⟨(true,x2,x3,x5,x6),hm,(.k0 [] [.tmp 7 false,.tmp 8 false] [7,8,30])⟩
    ·refine .reg (eC 4 (some ((zB (nt (ieq x2 x5))), (hp 4 [(oC [zI x0, Sl.v 1 s0]), (oC [zI x1, Sl.v 1 s1]), (oC [zI x2, .int .u32 x3]), (oC [zI x5, .int .u32 x6])]))) (show _ = some ((zB false), _) from (by rw [h10])) (eE)) ?_
     exact ⟨((nt (ieq (Int.ofNat (Sl.n s0)) (Int.ofNat (Sl.n s1)))),x2,x3,x5,x6),hm,(.k0 [] [.tmp 7 false,.tmp 8 false] [7,8,30])⟩
end
end Go.RgKM
