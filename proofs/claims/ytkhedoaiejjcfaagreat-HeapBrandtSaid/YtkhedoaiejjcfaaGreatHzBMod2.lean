/- Made from wip. -/
import Derived.Test.YtkhedoaiejjcfaaGreatHzBMod1x

set_option maxRecDepth 100000
set_option maxHeartbeats 20000000
set_option linter.unusedVariables false
namespace Go.HzBM
open Go.Sp Go.HzB
noncomputable section
def m7_0 (pu:PureF) (n:Nat) (z0:Int):OV:=
 (some (.int .i64 z0))
def b7_1 (pu:PureF) (n:Nat) (ih0:Int→Int→OV) (z0 z1:Int):OV:=
 (bb (nt (ilt z0 (wrapF .i64 (Int.tdiv (wrapF .i64 (Int.mul (wrapF .i64 (Int.add z1 (1:Int))) (wrapF .i64 (Int.add z1 (2:Int))))) (2:Int))))) (ih0 z0 (wrapF .i64 (Int.add z1 (1:Int)))) (m7_0 pu n z1))
def l7_1 (pu:PureF) (n w:Nat):Int→Int→OV:=
 Nat.rec (motive:=fun _=>Int→Int→OV) (fun _ _=>none) (fun _ ih0=>b7_1 pu n ih0) w
def m7_ (pu:PureF) (n:Nat) (x0:Int):OV:=
 (l7_1 pu n n x0 (0:Int))
def m7 (pu:PureF) (n:Nat) (args:LV):OV:=
 (ll args none fun a0 args=>(ll args (oo (toI .i64 a0) none fun x0=>(m7_ pu n x0)) fun _ _=>none))
theorem w7_0 (pu:PureF) (n:Nat) (z0:Int) {v:Value} (hm:m7_0 pu n z0 = some v):Run tt (callP tabs isP pu (inl pu)) 0 c7_11 (fr 15 [(3,zI z0)]) (hp 0 []) (Fin tt 0 [.tmp 2] v):=by
 unfold m7_0 at hm
 refine .then (.rK ?_)
 refine .ghs (fr 15 [(2,zI z0)]) (hp 0 []) (.k0 [] [] [2]) ?_
 refine .ret ?_
 exact fin_ret (zI z0) (by kernel_rfl) (by kernel_rfl) hm
theorem r7 {call:CallF} (pu:PureF) (n:Nat) (hcall:call = callP tabs isP pu (inl pu)) {args:LV} {v:Value} (hm:m7 pu n args = some v) (_:∀ x ∈ args,closed2 x = true):args.length≤15∧Run tt call 0 c7_14 (Fr.made 15 args) (pureHeap tabs) (Fin tt 0 [.tmp 2] v):=by
 subst hcall
 unfold m7 at hm
 replace hm:=ll_uncons hm;obtain ⟨a0,args_0,rfl,hm⟩:=hm
 replace hm:=ll_end hm;obtain ⟨rfl,hm⟩:=hm
 replace hm:=inv_toI hm;obtain ⟨x0,rfl,hm⟩:=hm
 unfold m7_ at hm
 refine ⟨by simp,?_⟩
 refine .same (F':=(fr 15 [(0,zI x0)])) (H':=(hp 0 [])) (by kernel_rfl) (by kernel_rfl) ?_
 refine .then (.rK ?_)
 refine .ghs (fr 15 [(0,zI x0)]) (hp 0 []) (.k0 [] [] [0]) ?_
 refine .then (.rK ?_)
 refine .ghs (fr 15 [(0,zI x0),(3,(zI (0:Int)))]) (hp 0 []) (.k0 [] [] [0,3]) ?_
 refine .join (v:=v) (fun y:Int=>((fr 15 [(3,zI y)]),(hp 0 []))) (fun y=>m7_0 pu n y) ?_ ?_
 ·rintro z0 hm
  exact w7_0 pu n z0 hm
 ·refine .block ?_
  refine .loopM (v:=v) (fun y:Int×Int=>((fr 15 [(0,(zI y.1)),(3,(zI y.2))]),(hp 0 []))) (fun w y=>l7_1 pu n w y.1 y.2) n ⟨(x0,(0:Int)),hm,(.k0 [] [] [0,3])⟩ (fun _=>rfl) ?_
  rintro w0 ⟨z1,z2⟩ hm
  replace hm:b7_1 pu n (l7_1 pu n w0) z1 z2 = some v:=hm
  unfold b7_1 at hm
  refine .then ?_
  refine .then (.rK ?_)
  refine .ghs (fr 15 [(0,zI z1),(3,zI z2),(11,(zB (nt (ilt z1 (wrapF .i64 (Int.tdiv (wrapF .i64 (Int.mul (wrapF .i64 (Int.add z2 (1:Int))) (wrapF .i64 (Int.add z2 (2:Int))))) (2:Int)))))))]) (hp 0 []) (.k0 [] [] [0,3,11]) ?_
  replace hm:=bb_cases hm;rcases hm with ⟨h0,hm⟩ | ⟨h0,hm⟩
  ·refine .ifT (nt (ilt z1 (wrapF .i64 (Int.tdiv (wrapF .i64 (Int.mul (wrapF .i64 (Int.add z2 (1 : Int))) (wrapF .i64 (Int.add z2 (2 : Int))))) (2 : Int))))) (by kernel_rfl) h0 ?_
   refine .skip ?_
   refine .ghs (fr 15 [(0,zI z1),(3,zI z2)]) (hp 0 []) (.k0 [] [] [0,3]) ?_
   refine .block ?_
   refine .rK ?_
   exact ⟨(z1,(wrapF .i64 (Int.add z2 (1:Int)))),hm,(.k0 [] [] [0,3])⟩
  ·refine .ifF (nt (ilt z1 (wrapF .i64 (Int.tdiv (wrapF .i64 (Int.mul (wrapF .i64 (Int.add z2 (1 : Int))) (wrapF .i64 (Int.add z2 (2 : Int))))) (2 : Int))))) (by kernel_rfl) h0 ?_
   refine .exit ?_
   exact ⟨z2,hm,(.k0 [] [] [3])⟩

def m9_ (pu:PureF) (n:Nat) (s0:Sl):OV:=
 (oo (pu 27 [Sl.v 1 s0]) none fun v0=>(oo (toI .i64 v0) none fun x0=>(bb (nt (ieq x0 (0:Int))) (some (.tuple ⟨[(.bool false),.int .i64 x0]⟩)) (oo (pu 28 [Sl.v 1 s0]) none fun v1=>(oo (vAgg v1) none fun q1=>(bb (an (Nat.beq (len q1) 22) (allL closed1 q1)) (oo (pu 29 [(.agg ⟨q1⟩)]) none fun v2=>(oo (vBool v2) none fun b0=>(bb (allL closed2 [(.agg ⟨q1⟩)]) (some (.tuple ⟨[(.bool b0),(.int .i64 (0:Int))]⟩)) none))) none))))))
def m9 (pu:PureF) (n:Nat) (args:LV):OV:=
 (ll args none fun a0 args=>(ll args (oo (toSl 1 a0) none fun s0=>(m9_ pu n s0)) fun _ _=>none))
theorem r9 {call:CallF} (pu:PureF) (n:Nat) (hcall:call = callP tabs isP pu (inl pu)) {args:LV} {v:Value} (hm:m9 pu n args = some v) (_:∀ x ∈ args,closed2 x = true):args.length≤13∧Run tt call 0 c9_11 (Fr.made 13 args) (pureHeap tabs) (Fin tt 0 [.tmp 2,.tmp 3] v):=by
 subst hcall
 unfold m9 at hm
 replace hm:=ll_uncons hm;obtain ⟨a0,args_0,rfl,hm⟩:=hm
 replace hm:=ll_end hm;obtain ⟨rfl,hm⟩:=hm
 replace hm:=inv_toSl hm;obtain ⟨s0,rfl,hm⟩:=hm
 unfold m9_ at hm
 refine ⟨by simp,?_⟩
 refine .same (F':=(fr 13 [(0,Sl.v 1 s0)])) (H':=(hp 0 [])) (by kernel_rfl) (by kernel_rfl) ?_
 refine .then (.rK ?_)
 refine .ghs (fr 13 [(0,Sl.v 1 s0)]) (hp 0 []) (.k0 [] [] [0]) ?_
 refine .then ?_
 refine .then ?_
 replace hm:=oo_inv hm;obtain ⟨v0,h0,hm⟩:=hm
 replace hm:=inv_toI hm;obtain ⟨x0,rfl,hm⟩:=hm
 refine .reg (eC 1 ((oo (pu 27 [Sl.v 1 s0]) none fun v=>some (v,(hp 0 [])))) (call_eq h0) (eE)) ?_
 refine .ghs (fr 13 [(0,Sl.v 1 s0),(4,zI x0)]) (hp 0 []) (.k0 [] [] [0,4]) ?_
 refine .then (.rK ?_)
 refine .ghs (fr 13 [(0,Sl.v 1 s0),(4,zI x0),(8,(zB (nt (ieq x0 (0:Int)))))]) (hp 0 []) (.k0 [] [] [0,4,8]) ?_
 replace hm:=bb_cases hm;rcases hm with ⟨h1,hm⟩ | ⟨h1,hm⟩
 ·refine .ifT (nt (ieq x0 (0 : Int))) (by kernel_rfl) h1 ?_
  refine .then (.rK ?_)
  refine .ghs (fr 13 [(2,zB false),(3,zI x0)]) (hp 0 []) (.k0 [] [] [2,3]) ?_
  refine .ret ?_
  exact fin_ret (.tuple ⟨[zB false,zI x0]⟩) (by kernel_rfl) (by kernel_rfl) hm
 ·refine .ifF (nt (ieq x0 (0 : Int))) (by kernel_rfl) h1 ?_
  refine .skip ?_
  refine .ghs (fr 13 [(0,Sl.v 1 s0)]) (hp 0 []) (.k0 [] [] [0]) ?_
  refine .then ?_
  replace hm:=oo_inv hm;obtain ⟨v1,h2,hm⟩:=hm
  replace hm:=inv_vAgg hm;obtain ⟨q1,rfl,hm⟩:=hm
  replace hm:=bb_inv hm;obtain ⟨h3,hm⟩:=hm
  replace hm:=oo_inv hm;obtain ⟨v2,h4,hm⟩:=hm
  replace hm:=inv_vBool hm;obtain ⟨b0,rfl,hm⟩:=hm
  replace hm:=bb_inv hm;obtain ⟨h5,hm⟩:=hm
  refine .reg (eC 1 ((oo (pu 28 [Sl.v 1 s0]) none fun v=>some (v,(hp 0 [])))) (call_eq h2) (eD (bb (allL closed2 [(.agg ⟨q1⟩)]) (oo (pu 29 [(.agg ⟨q1⟩)]) none fun v=>some (v,(hp 0 []))) (oo (mapO (purify (hp 0 [])) [(.agg ⟨q1⟩)]) none fun l1=>oo (pu 29 l1) none fun v=>bb (plainT v) (some (v,(hp 0 []))) none)) (callc_eq h5 h4) (eE))) ?_
  refine .ghs (fr 13 [(2,zB b0),(3,(zI (0:Int)))]) (hp 0 []) (.k0 [] [] [2,3]) ?_
  refine .ret ?_
  exact fin_ret (.tuple ⟨[zB b0,(zI (0:Int))]⟩) (by kernel_rfl) (by kernel_rfl) hm
def m10_0 (pu:PureF) (n:Nat):OV:=
 (some (.bool false))
def b10_1 (pu:PureF) (n:Nat) (ih0:Sl→Sl→Int→OV) (s0 s1:Sl) (z0:Int):OV:=
 (bb (ilt z0 (200:Int)) (oo (pu 14 [Sl.v 1 s1,Sl.v 1 s0]) none fun v0=>(oo (vBool v0) none fun b0=>(bb b0 (some (.bool true)) (oo (pu 15 [Sl.v 1 s1]) none fun v1=>(oo (toSl 1 v1) none fun s2=>(ih0 s0 s2 (wrapF .i64 (Int.add z0 (1:Int))))))))) (m10_0 pu n))
def l10_1 (pu:PureF) (n w:Nat):Sl→Sl→Int→OV:=
 Nat.rec (motive:=fun _=>Sl→Sl→Int→OV) (fun _ _ _=>none) (fun _ ih0=>b10_1 pu n ih0) w
def m10_ (pu:PureF) (n:Nat) (s0:Sl):OV:=
 (oo (pu 15 [Sl.v 1 s0]) none fun v0=>(oo (toSl 1 v0) none fun s1=>(l10_1 pu n n s0 s1 (0:Int))))
def m10 (pu:PureF) (n:Nat) (args:LV):OV:=
 (ll args none fun a0 args=>(ll args (oo (toSl 1 a0) none fun s0=>(m10_ pu n s0)) fun _ _=>none))
theorem w10_0 (pu:PureF) (n:Nat) {v:Value} (hm:m10_0 pu n = some v):Run tt (callP tabs isP pu (inl pu)) 0 c10_21 (fr 14 []) (hp 0 []) (Fin tt 0 [.tmp 2] v):=by
 unfold m10_0 at hm
 refine .then (.rK ?_)
 refine .ghs (fr 14 [(2,zB false)]) (hp 0 []) (.k0 [] [] [2]) ?_
 refine .ret ?_
 exact fin_ret (zB false) (by kernel_rfl) (by kernel_rfl) hm
theorem r10 {call:CallF} (pu:PureF) (n:Nat) (hcall:call = callP tabs isP pu (inl pu)) {args:LV} {v:Value} (hm:m10 pu n args = some v) (_:∀ x ∈ args,closed2 x = true):args.length≤14∧Run tt call 0 c10_24 (Fr.made 14 args) (pureHeap tabs) (Fin tt 0 [.tmp 2] v):=by
 subst hcall
 unfold m10 at hm
 replace hm:=ll_uncons hm;obtain ⟨a0,args_0,rfl,hm⟩:=hm
 replace hm:=ll_end hm;obtain ⟨rfl,hm⟩:=hm
 replace hm:=inv_toSl hm;obtain ⟨s0,rfl,hm⟩:=hm
 unfold m10_ at hm
 refine ⟨by simp,?_⟩
 refine .same (F':=(fr 14 [(0,Sl.v 1 s0)])) (H':=(hp 0 [])) (by kernel_rfl) (by kernel_rfl) ?_
 refine .then (.rK ?_)
 refine .ghs (fr 14 [(0,Sl.v 1 s0)]) (hp 0 []) (.k0 [] [] [0]) ?_
 refine .then ?_
 replace hm:=oo_inv hm;obtain ⟨v0,h0,hm⟩:=hm
 replace hm:=inv_toSl hm;obtain ⟨s1,rfl,hm⟩:=hm
 refine .reg (eC 1 ((oo (pu 15 [Sl.v 1 s0]) none fun v=>some (v,(hp 0 [])))) (call_eq h0) (eE)) ?_
 refine .ghs (fr 14 [(0,Sl.v 1 s0),(3,Sl.v 1 s1)]) (hp 0 []) (.k0 [] [] [0,3]) ?_
 refine .join (v:=v) (fun y:Unit=>((fr 14 []),(hp 0 []))) (fun y=>m10_0 pu n) ?_ ?_
 ·rintro _ hm
  exact w10_0 pu n hm
 ·refine .then (.rK ?_)
  refine .ghs (fr 14 [(0,Sl.v 1 s0),(3,Sl.v 1 s1),(6,(zI (0:Int)))]) (hp 0 []) (.k0 [] [] [0,3,6]) ?_
  refine .block ?_
  refine .loopM (v:=v) (fun y:Sl×Sl×Int=>((fr 14 [(0,(Sl.v 1 y.1)),(3,(Sl.v 1 y.2.1)),(6,(zI y.2.2))]),(hp 0 []))) (fun w y=>l10_1 pu n w y.1 y.2.1 y.2.2) n ⟨(s0,s1,(0:Int)),hm,(.k0 [] [] [0,3,6])⟩ (fun _=>rfl) ?_
  rintro w0 ⟨s2,s3,z0⟩ hm
  replace hm:b10_1 pu n (l10_1 pu n w0) s2 s3 z0 = some v:=hm
  unfold b10_1 at hm
  refine .then (.rK ?_)
  refine .ghs (fr 14 [(0,Sl.v 1 s2),(3,Sl.v 1 s3),(6,zI z0),(7,(zB (ilt z0 (200:Int))))]) (hp 0 []) (.k0 [] [] [0,3,6,7]) ?_
  refine .then ?_
  replace hm:=bb_cases hm;rcases hm with ⟨h1,hm⟩ | ⟨h1,hm⟩
  ·refine .ifT (ilt z0 (200 : Int)) (by kernel_rfl) h1 ?_
   refine .skip ?_
   refine .ghs (fr 14 [(0,Sl.v 1 s2),(3,Sl.v 1 s3),(6,zI z0)]) (hp 0 []) (.k0 [] [] [0,3,6]) ?_
   refine .then ?_
   refine .block ?_
   refine .then ?_
   refine .then ?_
   replace hm:=oo_inv hm;obtain ⟨v1,h2,hm⟩:=hm
   replace hm:=inv_vBool hm;obtain ⟨b0,rfl,hm⟩:=hm
   refine .reg (eC 2 ((oo (pu 14 [Sl.v 1 s3,Sl.v 1 s2]) none fun v=>some (v,(hp 0 [])))) (call_eq h2) (eE)) ?_
   refine .ghs (fr 14 [(0,Sl.v 1 s2),(3,Sl.v 1 s3),(6,zI z0),(10,zB b0)]) (hp 0 []) (.k0 [] [] [0,3,6,10]) ?_
   replace hm:=bb_cases hm;rcases hm with ⟨h3,hm⟩ | ⟨h3,hm⟩
   ·refine .ifT b0 (by kernel_rfl) h3 ?_
    refine .then (.rK ?_)
    refine .ghs (fr 14 [(2,zB true)]) (hp 0 []) (.k0 [] [] [2]) ?_
    refine .ret ?_
    exact fin_ret (zB true) (by kernel_rfl) (by kernel_rfl) hm
   ·refine .ifF b0 (by kernel_rfl) h3 ?_
    refine .skip ?_
    refine .ghs (fr 14 [(0,Sl.v 1 s2),(3,Sl.v 1 s3),(6,zI z0)]) (hp 0 []) (.k0 [] [] [0,3,6]) ?_
    replace hm:=oo_inv hm;obtain ⟨v2,h4,hm⟩:=hm
    replace hm:=inv_toSl hm;obtain ⟨s4,rfl,hm⟩:=hm
    refine .reg (eC 1 ((oo (pu 15 [Sl.v 1 s3]) none fun v=>some (v,(hp 0 [])))) (call_eq h4) (eE)) ?_
    refine .ghs (fr 14 [(0,Sl.v 1 s2),(3,Sl.v 1 s4),(6,zI z0)]) (hp 0 []) (.k0 [] [] [0,3,6]) ?_
    refine .rK ?_
    exact ⟨(s2,s4,(wrapF .i64 (Int.add z0 (1:Int)))),hm,(.k0 [] [] [0,3,6])⟩
  ·refine .ifF (ilt z0 (200 : Int)) (by kernel_rfl) h1 ?_
   refine .exit ?_
   exact ⟨(),hm,(.k0 [] [] [])⟩
def m13_0 (pu:PureF) (n:Nat) (z0:Int):OV:=
 (some (.int .i64 z0))
def b13_1 (pu:PureF) (n:Nat) (ih0:Int→Sl→Int→Int→OV) (z0:Int) (s0:Sl) (z1 z2:Int):OV:=
 (bb (ilt z2 z1) (oo (toN z2) none fun k1=>(bb (an (Nat.blt k1 (Sl.n s0)) true) (oo (nthL (Sl.cs s0) (k1 * 1)) none fun v0=>(oo (toI .i64 v0) none fun x0=>(ih0 (wrapF .i64 (Int.add z0 x0)) s0 z1 (wrapF .i64 (Int.add (Int.ofNat k1) (1:Int)))))) none)) (m13_0 pu n z0))
def l13_1 (pu:PureF) (n w:Nat):Int→Sl→Int→Int→OV:=
 Nat.rec (motive:=fun _=>Int→Sl→Int→Int→OV) (fun _ _ _ _=>none) (fun _ ih0=>b13_1 pu n ih0) w
def m13_ (pu:PureF) (n:Nat) (s0:Sl):OV:=
 (l13_1 pu n n (0:Int) s0 (Int.ofNat (Sl.n s0)) (0:Int))
def m13 (pu:PureF) (n:Nat) (args:LV):OV:=
 (ll args none fun a0 args=>(ll args (oo (toSl 1 a0) none fun s0=>(m13_ pu n s0)) fun _ _=>none))
theorem w13_0 (pu:PureF) (n:Nat) (z0:Int) {v:Value} (hm:m13_0 pu n z0 = some v):Run tt (callP tabs isP pu (inl pu)) 0 c13_17 (fr 17 [(3,zI z0)]) (hp 0 []) (Fin tt 0 [.tmp 2] v):=by
 unfold m13_0 at hm
 refine .then (.rK ?_)
 refine .ghs (fr 17 [(2,zI z0)]) (hp 0 []) (.k0 [] [] [2]) ?_
 refine .ret ?_
 exact fin_ret (zI z0) (by kernel_rfl) (by kernel_rfl) hm
theorem r13 {call:CallF} (pu:PureF) (n:Nat) (hcall:call = callP tabs isP pu (inl pu)) {args:LV} {v:Value} (hm:m13 pu n args = some v) (_:∀ x ∈ args,closed2 x = true):args.length≤17∧Run tt call 0 c13_20 (Fr.made 17 args) (pureHeap tabs) (Fin tt 0 [.tmp 2] v):=by
 subst hcall
 unfold m13 at hm
 replace hm:=ll_uncons hm;obtain ⟨a0,args_0,rfl,hm⟩:=hm
 replace hm:=ll_end hm;obtain ⟨rfl,hm⟩:=hm
 replace hm:=inv_toSl hm;obtain ⟨s0,rfl,hm⟩:=hm
 unfold m13_ at hm
 refine ⟨by simp,?_⟩
 refine .same (F':=(fr 17 [(0,Sl.v 1 s0)])) (H':=(hp 0 [])) (by kernel_rfl) (by kernel_rfl) ?_
 refine .then (.rK ?_)
 refine .ghs (fr 17 [(0,Sl.v 1 s0)]) (hp 0 []) (.k0 [] [] [0]) ?_
 refine .then (.rK ?_)
 refine .ghs (fr 17 [(0,Sl.v 1 s0),(3,(zI (0:Int)))]) (hp 0 []) (.k0 [] [] [0,3]) ?_
 refine .join (v:=v) (fun y:Int=>((fr 17 [(3,zI y)]),(hp 0 []))) (fun y=>m13_0 pu n y) ?_ ?_
 ·rintro z0 hm
  exact w13_0 pu n z0 hm
 ·refine .then (.rK ?_)
  refine .ghs (fr 17 [(3,(zI (0:Int))),(6,Sl.v 1 s0),(7,(zI (Int.ofNat (Sl.n s0)))),(8,(zI (0:Int)))]) (hp 0 []) (.k0 [] [] [3,6,7,8]) ?_
  refine .block ?_
  refine .loopM (v:=v) (fun y:Int×Sl×Int×Int=>((fr 17 [(3,(zI y.1)),(6,(Sl.v 1 y.2.1)),(7,(zI y.2.2.1)),(8,(zI y.2.2.2))]),(hp 0 []))) (fun w y=>l13_1 pu n w y.1 y.2.1 y.2.2.1 y.2.2.2) n ⟨((0:Int),s0,(Int.ofNat (Sl.n s0)),(0:Int)),hm,(.k0 [] [] [3,6,7,8])⟩ (fun _=>rfl) ?_
  rintro w0 ⟨z1,s1,z2,z3⟩ hm
  replace hm:b13_1 pu n (l13_1 pu n w0) z1 s1 z2 z3 = some v:=hm
  unfold b13_1 at hm
  refine .then (.rK ?_)
  refine .ghs (fr 17 [(3,zI z1),(6,Sl.v 1 s1),(7,zI z2),(8,zI z3),(9,(zB (ilt z3 z2)))]) (hp 0 []) (.k0 [] [] [3,6,7,8,9]) ?_
  refine .then ?_
  replace hm:=bb_cases hm;rcases hm with ⟨h0,hm⟩ | ⟨h0,hm⟩
  ·refine .ifT (ilt z3 z2) (by kernel_rfl) h0 ?_
   refine .skip ?_
   refine .ghs (fr 17 [(3,zI z1),(6,Sl.v 1 s1),(7,zI z2),(8,zI z3)]) (hp 0 []) (.k0 [] [] [3,6,7,8]) ?_
   refine .then ?_
   refine .block ?_
   refine .then ?_
   replace hm:=oo_inv hm;obtain ⟨k1,h1,hm⟩:=hm
   obtain rfl:=toN_some h1
   replace hm:=bb_inv hm;obtain ⟨h2,hm⟩:=hm
   replace hm:=oo_inv hm;obtain ⟨v0,h3,hm⟩:=hm
   replace hm:=inv_toI hm;obtain ⟨x0,rfl,hm⟩:=hm
   refine .reg (eD (keep (hp 0 []) (bb (an (Nat.blt k1 (Sl.n s1)) true) (some (fpV (k1 * 1) (Sl.cs s1))) none)) (keep_bb h2) (eD (keep (hp 0 []) (nthL (Sl.cs s1) (k1 * 1))) (keep_eq h3) (eE))) ?_
   refine .ghs (fr 17 [(3,zI z1),(5,zI x0),(6,Sl.v 1 s1),(7,zI z2),(8,(zI (Int.ofNat k1)))]) (hp 0 []) (.k0 [] [] [3,5,6,7,8]) ?_
   refine .rK ?_
   refine .ghs (fr 17 [(3,(zI (wrapF .i64 (Int.add z1 x0)))),(6,Sl.v 1 s1),(7,zI z2),(8,(zI (Int.ofNat k1)))]) (hp 0 []) (.k0 [] [] [3,6,7,8]) ?_
   refine .rK ?_
   exact ⟨((wrapF .i64 (Int.add z1 x0)),s1,z2,(wrapF .i64 (Int.add (Int.ofNat k1) (1:Int)))),hm,(.k0 [] [] [3,6,7,8])⟩
  ·refine .ifF (ilt z3 z2) (by kernel_rfl) h0 ?_
   refine .exit ?_
   exact ⟨z1,hm,(.k0 [] [] [3])⟩
def m14_0 (pu:PureF) (n:Nat):OV:=
 (some (.bool true))
def b14_1 (pu:PureF) (n:Nat) (ih0:Sl→Sl→Int→OV) (s0 s1:Sl) (z0:Int):OV:=
 (bb (ilt z0 (Int.ofNat (Sl.n s0))) (oo (toN z0) none fun k1=>(bb (an (Nat.blt k1 (Sl.n s0)) true) (oo (nthL (Sl.cs s0) (k1 * 1)) none fun v0=>(oo (toI .i64 v0) none fun x0=>(bb (an (Nat.blt k1 (Sl.n s1)) true) (oo (nthL (Sl.cs s1) (k1 * 1)) none fun v1=>(oo (toI .i64 v1) none fun x1=>(bb (nt (ieq x0 x1)) (some (.bool false)) (ih0 s0 s1 (wrapF .i64 (Int.add (Int.ofNat k1) (1:Int))))))) none))) none)) (m14_0 pu n))
def l14_1 (pu:PureF) (n w:Nat):Sl→Sl→Int→OV:=
 Nat.rec (motive:=fun _=>Sl→Sl→Int→OV) (fun _ _ _=>none) (fun _ ih0=>b14_1 pu n ih0) w
def m14_ (pu:PureF) (n:Nat) (s0 s1:Sl):OV:=
 (bb (nt (ieq (Int.ofNat (Sl.n s0)) (Int.ofNat (Sl.n s1)))) (some (.bool false)) (l14_1 pu n n s0 s1 (0:Int)))
def m14 (pu:PureF) (n:Nat) (args:LV):OV:=
 (ll args none fun a0 args=>(ll args none fun a1 args=>(ll args (oo (toSl 1 a0) none fun s0=>(oo (toSl 1 a1) none fun s1=>(m14_ pu n s0 s1))) fun _ _=>none)))
theorem w14_0 (pu:PureF) (n:Nat) {v:Value} (hm:m14_0 pu n = some v):Run tt (callP tabs isP pu (inl pu)) 0 c14_23 (fr 26 []) (hp 0 []) (Fin tt 0 [.tmp 4] v):=by
 unfold m14_0 at hm
 refine .then (.rK ?_)
 refine .ghs (fr 26 [(4,zB true)]) (hp 0 []) (.k0 [] [] [4]) ?_
 refine .ret ?_
 exact fin_ret (zB true) (by kernel_rfl) (by kernel_rfl) hm
theorem r14 {call:CallF} (pu:PureF) (n:Nat) (hcall:call = callP tabs isP pu (inl pu)) {args:LV} {v:Value} (hm:m14 pu n args = some v) (_:∀ x ∈ args,closed2 x = true):args.length≤26∧Run tt call 0 c14_26 (Fr.made 26 args) (pureHeap tabs) (Fin tt 0 [.tmp 4] v):=by
 subst hcall
 unfold m14 at hm
 replace hm:=ll_uncons hm;obtain ⟨a0,args_0,rfl,hm⟩:=hm
 replace hm:=ll_uncons hm;obtain ⟨a1,args_1,rfl,hm⟩:=hm
 replace hm:=ll_end hm;obtain ⟨rfl,hm⟩:=hm
 replace hm:=inv_toSl hm;obtain ⟨s0,rfl,hm⟩:=hm
 replace hm:=inv_toSl hm;obtain ⟨s1,rfl,hm⟩:=hm
 unfold m14_ at hm
 refine ⟨by simp,?_⟩
 refine .same (F':=(fr 26 [(0,Sl.v 1 s0),(1,Sl.v 1 s1)])) (H':=(hp 0 [])) (by kernel_rfl) (by kernel_rfl) ?_
 refine .then (.rK ?_)
 refine .ghs (fr 26 [(0,Sl.v 1 s0),(1,Sl.v 1 s1)]) (hp 0 []) (.k0 [] [] [0,1]) ?_
 refine .then ?_
 refine .then (.rK ?_)
 refine .ghs (fr 26 [(0,Sl.v 1 s0),(1,Sl.v 1 s1),(10,(zB (nt (ieq (Int.ofNat (Sl.n s0)) (Int.ofNat (Sl.n s1))))))]) (hp 0 []) (.k0 [] [] [0,1,10]) ?_
 replace hm:=bb_cases hm;rcases hm with ⟨h0,hm⟩ | ⟨h0,hm⟩
 ·refine .ifT (nt (ieq (Int.ofNat (Sl.n s0)) (Int.ofNat (Sl.n s1)))) (by kernel_rfl) h0 ?_
  refine .then (.rK ?_)
  refine .ghs (fr 26 [(4,zB false)]) (hp 0 []) (.k0 [] [] [4]) ?_
  refine .ret ?_
  exact fin_ret (zB false) (by kernel_rfl) (by kernel_rfl) hm
 ·refine .ifF (nt (ieq (Int.ofNat (Sl.n s0)) (Int.ofNat (Sl.n s1)))) (by kernel_rfl) h0 ?_
  refine .skip ?_
  refine .ghs (fr 26 [(0,Sl.v 1 s0),(1,Sl.v 1 s1)]) (hp 0 []) (.k0 [] [] [0,1]) ?_
  refine .join (v:=v) (fun y:Unit=>((fr 26 []),(hp 0 []))) (fun y=>m14_0 pu n) ?_ ?_
  ·rintro _ hm
   exact w14_0 pu n hm
  ·refine .then (.rK ?_)
   refine .ghs (fr 26 [(0,Sl.v 1 s0),(1,Sl.v 1 s1),(5,(zI (0:Int)))]) (hp 0 []) (.k0 [] [] [0,1,5]) ?_
   refine .block ?_
   refine .loopM (v:=v) (fun y:Sl×Sl×Int=>((fr 26 [(0,(Sl.v 1 y.1)),(1,(Sl.v 1 y.2.1)),(5,(zI y.2.2))]),(hp 0 []))) (fun w y=>l14_1 pu n w y.1 y.2.1 y.2.2) n ⟨(s0,s1,(0:Int)),hm,(.k0 [] [] [0,1,5])⟩ (fun _=>rfl) ?_
   rintro w0 ⟨s2,s3,z0⟩ hm
   replace hm:b14_1 pu n (l14_1 pu n w0) s2 s3 z0 = some v:=hm
   unfold b14_1 at hm
   refine .then ?_
   refine .then (.rK ?_)
   refine .ghs (fr 26 [(0,Sl.v 1 s2),(1,Sl.v 1 s3),(5,zI z0),(14,(zB (ilt z0 (Int.ofNat (Sl.n s2)))))]) (hp 0 []) (.k0 [] [] [0,1,5,14]) ?_
   replace hm:=bb_cases hm;rcases hm with ⟨h1,hm⟩ | ⟨h1,hm⟩
   ·refine .ifT (ilt z0 (Int.ofNat (Sl.n s2))) (by kernel_rfl) h1 ?_
    refine .skip ?_
    refine .ghs (fr 26 [(0,Sl.v 1 s2),(1,Sl.v 1 s3),(5,zI z0)]) (hp 0 []) (.k0 [] [] [0,1,5]) ?_
    refine .then ?_
    refine .block ?_
    refine .then ?_
    replace hm:=oo_inv hm;obtain ⟨k1,h2,hm⟩:=hm
    obtain rfl:=toN_some h2
    replace hm:=bb_inv hm;obtain ⟨h3,hm⟩:=hm
    replace hm:=oo_inv hm;obtain ⟨v0,h4,hm⟩:=hm
    replace hm:=inv_toI hm;obtain ⟨x0,rfl,hm⟩:=hm
    replace hm:=bb_inv hm;obtain ⟨h5,hm⟩:=hm
    replace hm:=oo_inv hm;obtain ⟨v1,h6,hm⟩:=hm
    replace hm:=inv_toI hm;obtain ⟨x1,rfl,hm⟩:=hm
    refine .reg (eC 2 (keep (hp 0 []) (bb (an (Nat.blt k1 (Sl.n s2)) true) (some (fpV (k1 * 1) (Sl.cs s2))) none)) (keep_bb h3) (eD (keep (hp 0 []) (nthL (Sl.cs s2) (k1 * 1))) (keep_eq h4) (eC 2 (keep (hp 0 []) (bb (an (Nat.blt k1 (Sl.n s3)) true) (some (fpV (k1 * 1) (Sl.cs s3))) none)) (keep_bb h5) (eD (keep (hp 0 []) (nthL (Sl.cs s3) (k1 * 1))) (keep_eq h6) (eE))))) ?_
    refine .ghs (fr 26 [(0,Sl.v 1 s2),(1,Sl.v 1 s3),(5,(zI (Int.ofNat k1))),(25,(zB (nt (ieq x0 x1))))]) (hp 0 []) (.k0 [] [] [0,1,5,25]) ?_
    replace hm:=bb_cases hm;rcases hm with ⟨h7,hm⟩ | ⟨h7,hm⟩
    ·refine .ifT (nt (ieq x0 x1)) (by kernel_rfl) h7 ?_
     refine .then (.rK ?_)
     refine .ghs (fr 26 [(4,zB false)]) (hp 0 []) (.k0 [] [] [4]) ?_
     refine .ret ?_
     exact fin_ret (zB false) (by kernel_rfl) (by kernel_rfl) hm
    ·refine .ifF (nt (ieq x0 x1)) (by kernel_rfl) h7 ?_
     refine .skip ?_
     refine .ghs (fr 26 [(0,Sl.v 1 s2),(1,Sl.v 1 s3),(5,(zI (Int.ofNat k1)))]) (hp 0 []) (.k0 [] [] [0,1,5]) ?_
     refine .rK ?_
     exact ⟨(s2,s3,(wrapF .i64 (Int.add (Int.ofNat k1) (1:Int)))),hm,(.k0 [] [] [0,1,5])⟩
   ·refine .ifF (ilt z0 (Int.ofNat (Sl.n s2))) (by kernel_rfl) h1 ?_
    refine .exit ?_
    exact ⟨(),hm,(.k0 [] [] [])⟩
def m15_0 (pu:PureF) (n n0 c0:Nat) (q1:LV):OV:=
 (oo (mapO (toI .i64) q1) none fun z0=>(bb (wholeC 0 1 (len q1) n0) (bb (allL closed1 (mapL I64 (srtZ z0))) (bb (orr (Nat.ble 2 c0) (nilL (mapL I64 (srtZ z0)))) (bb (allL closed1 (mapL I64 (srtZ z0))) (oo (pu 10440 [(.slice (some ⟨0,0,some 1⟩) n0 c0),(.agg ⟨(mapL I64 (srtZ z0))⟩)]) none fun v0=>(oo (vTup v0) none fun l0=>(ll l0 none fun v1 l0=>(ll l0 none fun v2 l0=>(ll l0 (bb (isNoV v1) (oo (vAgg v2) none fun q2=>(bb (allL closed1 q2) (bb (allL closed1 q2) (bb (an (Nat.ble (0 + n0 * 1) (len q2)) (allL closed1 (takeL (n0 * 1) (dropL 0 q2)))) (some (Sl.v 1 (Sl.mk n0 0 (takeL (n0 * 1) (dropL 0 q2))))) none) none) none)) none) fun _ _=>none))))) none) none) none) none))
def m15_2 (pu:PureF) (n:Nat) (ih0:Nat→Nat→Sl→Int→Int→LV→OV) (n0 c0:Nat) (s0:Sl) (z0 z1:Int) (q1:LV):OV:=
 (bb (allL closed1 q1) (ih0 n0 c0 s0 z0 (wrapF .i64 (Int.add z1 (1:Int))) q1) none)
def b15_1 (pu:PureF) (n:Nat) (ih0:Nat→Nat→Sl→Int→Int→LV→OV) (n0 c0:Nat) (s0:Sl) (z0 z1:Int) (q1:LV):OV:=
 (bb (allL closed1 q1) (bb (ilt z1 z0) (oo (toN z1) none fun k1=>(bb (an (Nat.blt k1 (Sl.n s0)) true) (oo (nthL (Sl.cs s0) (k1 * 1)) none fun v0=>(oo (toI .i64 v0) none fun x0=>(bb (ilt (1:Int) x0) (bb (growC 1 8 n0 c0 1 q1) (bb (allL closed1 (appL (dropL 0 q1) [(.int .i64 (wrapF .i64 (Int.sub x0 (1:Int))))])) (m15_2 pu n ih0 (n0 + 1) (2 * (n0 + 1) + bb false 1 0) s0 z0 (Int.ofNat k1) (appL (dropL 0 q1) [(.int .i64 (wrapF .i64 (Int.sub x0 (1:Int))))])) none) none) (m15_2 pu n ih0 n0 c0 s0 z0 (Int.ofNat k1) q1)))) none)) (m15_0 pu n n0 c0 q1)) none)
def l15_1 (pu:PureF) (n w:Nat):Nat→Nat→Sl→Int→Int→LV→OV:=
 Nat.rec (motive:=fun _=>Nat→Nat→Sl→Int→Int→LV→OV) (fun _ _ _ _ _ _=>none) (fun _ ih0=>b15_1 pu n ih0) w
def m15_ (pu:PureF) (n:Nat) (s0:Sl):OV:=
 (l15_1 pu n n 1 2 s0 (Int.ofNat (Sl.n s0)) (0:Int) ([(.int .i64 (Int.ofNat (Sl.n s0)))]:LV))
def m15 (pu:PureF) (n:Nat) (args:LV):OV:=
 (ll args none fun a0 args=>(ll args (oo (toSl 1 a0) none fun s0=>(m15_ pu n s0)) fun _ _=>none))
theorem w15_0 (pu:PureF) (n n0 c0:Nat) (q1:LV) {v:Value} (hm:m15_0 pu n n0 c0 q1 = some v):Run tt (callP tabs isP pu (inl pu)) 0 c15_24 (fr 29 [(3,sc 0 0 1 n0 c0)]) (hp 1 [oC q1]) (Fin tt 0 [.tmp 2] v):=by
 unfold m15_0 at hm
 refine .then ?_
 replace hm:=oo_inv hm;obtain ⟨z0,h0,hm⟩:=hm
 replace hm:=bb_inv hm;obtain ⟨h1,hm⟩:=hm
 refine .reg (eC 1 (sortF [sc 0 0 1 n0 c0] (hp 1 [oC q1])) (sortF_eq (x:=(sc 0 0 1 n0 c0)) (H:=(hp 1 [oC q1])) (id:=0) (ln:=n0) (c2:=c0) (xs:=q1) (anc:=[]) (by kernel_rfl) (by kernel_rfl) h0 h1) (eE)) ?_
 replace hm:=bb_inv hm;obtain ⟨h2,hm⟩:=hm
 refine .ghs (fr 29 [(3,sc 0 0 1 n0 c0)]) (hp 1 [(oC (mapL I64 (srtZ z0)))]) (.k [0] [] [.tmp 3 false] [3] ⟨trF h2,trivial⟩) ?_
 refine .then ?_
 replace hm:=bb_inv hm;obtain ⟨h3,hm⟩:=hm
 replace hm:=bb_inv hm;obtain ⟨h4,hm⟩:=hm
 replace hm:=oo_inv hm;obtain ⟨v0,h5,hm⟩:=hm
 replace hm:=inv_vTup hm;obtain ⟨l0,rfl,hm⟩:=hm
 replace hm:=ll_uncons hm;obtain ⟨v1,l7489_0,rfl,hm⟩:=hm
 replace hm:=ll_uncons hm;obtain ⟨v2,l7489_1,rfl,hm⟩:=hm
 replace hm:=ll_end hm;obtain ⟨rfl,hm⟩:=hm
 replace hm:=bb_inv hm;obtain ⟨h6,hm⟩:=hm
 obtain rfl:=isNoV_ok h6
 replace hm:=inv_vAgg hm;obtain ⟨q2,rfl,hm⟩:=hm
 replace hm:=bb_inv hm;obtain ⟨h7,hm⟩:=hm
 refine .reg (eC 1 (objG tabs [[none]] 1 [.tmp 0 false] [false] (pu 10440) [sc 0 0 1 n0 c0] (hp 1 [(oC (mapL I64 (srtZ z0)))])) (objG_eq (as:=[sc 0 0 1 n0 c0]) (H1:=(hp 1 [(oC (mapL I64 (srtZ z0)))])) (gvAL_c (gvA_1 gv_n) gvAL_n) (objF_eq (H2:=(hp 1 [oC q2])) (v:=(.tuple ⟨[]⟩)) (v':=(.tuple ⟨[]⟩)) [some 0] [(false,some 0)] [(oC (mapL I64 (srtZ z0)))] [sc 0 0 1 n0 c0] [(.agg ⟨q2⟩)] [oC q2] [some 0] [(false,oC q2)] [oC q2] (trE (by kernel_rfl) (rootL h3 rfl)) (mapO_c (nO_list (anc:=[]) h4) mapO_n) (Eq.trans (by kernel_rfl) h5) (mapO_c rfl mapO_n) (mapO_c (bO_list h7) mapO_n))) (eE)) ?_
 replace hm:=bb_inv hm;obtain ⟨h8,hm⟩:=hm
 refine .ghs (fr 29 [(3,sc 0 0 1 n0 c0)]) (hp 1 [oC q2]) (.k [0] [] [.tmp 3 false] [3] ⟨trF h8,trivial⟩) ?_
 refine .then (.rK ?_)
 refine .ghs (fr 29 [(2,sc 0 0 1 n0 c0)]) (hp 1 [oC q2]) (.k [0] [] [.tmp 2 false] [2] ⟨trF h8,trivial⟩) ?_
 replace hm:=bb_inv hm;obtain ⟨h9,hm⟩:=hm
 refine .ghs (Fr.puts (fr 29 [(2,sc 0 0 1 n0 c0)]) [(2,(Sl.v 1 (Sl.mk n0 0 (takeL (n0 * 1) (dropL 0 q2)))))]) (hp 1 [.dead]) (.freezeC 0 2 1 (an (Nat.ble (0 + n0 * 1) (len q2)) (allL closed1 (takeL (n0 * 1) (dropL 0 q2)))) (F1:=(Fr.puts (fr 29 [(2,sc 0 0 1 n0 c0)]) [(2,(Sl.v 1 (Sl.mk n0 0 (takeL (n0 * 1) (dropL 0 q2)))))])) (H1:=(hp 1 [.dead])) (by kernel_rfl) (by kernel_rfl) h9 (GhS.id _ _)) ?_
 refine .ret ?_
 exact fin_ret (Sl.v 1 (Sl.mk n0 0 (takeL (n0 * 1) (dropL 0 q2)))) (by kernel_rfl) (by kernel_rfl) hm
theorem r15 {call:CallF} (pu:PureF) (n:Nat) (hcall:call = callP tabs isP pu (inl pu)) {args:LV} {v:Value} (hm:m15 pu n args = some v) (_:∀ x ∈ args,closed2 x = true):args.length≤29∧Run tt call 0 c15_27 (Fr.made 29 args) (pureHeap tabs) (Fin tt 0 [.tmp 2] v):=by
 subst hcall
 unfold m15 at hm
 replace hm:=ll_uncons hm;obtain ⟨a0,args_0,rfl,hm⟩:=hm
 replace hm:=ll_end hm;obtain ⟨rfl,hm⟩:=hm
 replace hm:=inv_toSl hm;obtain ⟨s0,rfl,hm⟩:=hm
 unfold m15_ at hm
 refine ⟨by simp,?_⟩
 refine .same (F':=(fr 29 [(0,Sl.v 1 s0)])) (H':=(hp 0 [])) (by kernel_rfl) (by kernel_rfl) ?_
 refine .then (.rK ?_)
 refine .ghs (fr 29 [(0,Sl.v 1 s0)]) (hp 0 []) (.k0 [] [] [0]) ?_
 refine .then ?_
 refine .reg (eC 3 (identF [sc 0 0 1 1 3] (hp 1 [(oC [(zI (Int.ofNat (Sl.n s0)))])])) rfl (eE)) ?_
 refine .ghs (fr 29 [(0,Sl.v 1 s0),(3,sc 0 0 1 1 3)]) (hp 1 [(oC [(zI (Int.ofNat (Sl.n s0)))])]) (.k0 [] [.tmp 3 false] [0,3]) ?_
 refine .join (v:=v) (fun y:Nat×Nat×LV=>((fr 29 [(3,(sc 0 0 1 y.1 y.2.1))]),(hp 1 [(oC y.2.2)]))) (fun y=>m15_0 pu n y.1 y.2.1 y.2.2) ?_ ?_
 ·rintro ⟨n0, c0, q1⟩ hm
  exact w15_0 pu n n0 c0 q1 hm
 ·refine .then (.rK ?_)
  refine .ghs (fr 29 [(3,sc 0 0 1 1 3),(10,Sl.v 1 s0),(11,(zI (Int.ofNat (Sl.n s0)))),(12,(zI (0:Int)))]) (hp 1 [(oC [(zI (Int.ofNat (Sl.n s0)))])]) (.k0 [] [.tmp 3 false] [3,10,11,12]) ?_
  refine .block ?_
  refine .loopM (v:=v) (fun y:Nat×Nat×Sl×Int×Int×LV=>((fr 29 [(3,(sc 0 0 1 y.1 y.2.1)),(10,(Sl.v 1 y.2.2.1)),(11,(zI y.2.2.2.1)),(12,(zI y.2.2.2.2.1))]),(hp 1 [(oC y.2.2.2.2.2)]))) (fun w y=>l15_1 pu n w y.1 y.2.1 y.2.2.1 y.2.2.2.1 y.2.2.2.2.1 y.2.2.2.2.2) n ⟨(1,2,s0,(Int.ofNat (Sl.n s0)),(0:Int),([(zI (Int.ofNat (Sl.n s0)))]:LV)),hm,(.weak 3 (sc 0 0 1 1 2) (v:=(sc 0 0 1 1 3)) (by kernel_rfl) (Weak.cap 0 0 1 1 1) (.k0 [] [.tmp 3 false] [3,10,11,12]))⟩ (fun _=>rfl) ?_
  rintro w0 ⟨n1,c1,s1,z0,z1,q2⟩ hm
  replace hm:b15_1 pu n (l15_1 pu n w0) n1 c1 s1 z0 z1 q2 = some v:=hm
  unfold b15_1 at hm
  refine .then (.rK ?_)
  replace hm:=bb_inv hm;obtain ⟨h0,hm⟩:=hm
  refine .ghs (fr 29 [(3,sc 0 0 1 n1 c1),(10,Sl.v 1 s1),(11,zI z0),(12,zI z1),(13,(zB (ilt z1 z0)))]) (hp 1 [oC q2]) (.k [0] [] [.tmp 3 false] [3,10,11,12,13] ⟨trF h0,trivial⟩) ?_
  refine .then ?_
  replace hm:=bb_cases hm;rcases hm with ⟨h1,hm⟩ | ⟨h1,hm⟩
  ·refine .ifT (ilt z1 z0) (by kernel_rfl) h1 ?_
   refine .skip ?_
   refine .ghs (fr 29 [(3,sc 0 0 1 n1 c1),(10,Sl.v 1 s1),(11,zI z0),(12,zI z1)]) (hp 1 [oC q2]) (.k [0] [] [.tmp 3 false] [3,10,11,12] ⟨trF h0,trivial⟩) ?_
   refine .join (v:=v) (fun y:Nat×Nat×Sl×Int×Int×LV=>((fr 29 [(3,(sc 0 0 1 y.1 y.2.1)),(10,(Sl.v 1 y.2.2.1)),(11,(zI y.2.2.2.1)),(12,(zI y.2.2.2.2.1))]),(hp 1 [(oC y.2.2.2.2.2)]))) (fun y=>m15_2 pu n (l15_1 pu n w0) y.1 y.2.1 y.2.2.1 y.2.2.2.1 y.2.2.2.2.1 y.2.2.2.2.2) ?_ ?_
   ·rintro ⟨n2, c2, s2, z2, z3, q3⟩ hm
    unfold m15_2 at hm
    refine .rK ?_
    replace hm:=bb_inv hm;obtain ⟨h2,hm⟩:=hm
    exact ⟨(n2,c2,s2,z2,(wrapF .i64 (Int.add z3 (1:Int))),q3),hm,(.k [0] [] [.tmp 3 false] [3,10,11,12] ⟨trF h2,trivial⟩)⟩
   ·refine .block ?_
    refine .then ?_
    replace hm:=oo_inv hm;obtain ⟨k1,h3,hm⟩:=hm
    obtain rfl:=toN_some h3
    replace hm:=bb_inv hm;obtain ⟨h4,hm⟩:=hm
    replace hm:=oo_inv hm;obtain ⟨v0,h5,hm⟩:=hm
    replace hm:=inv_toI hm;obtain ⟨x0,rfl,hm⟩:=hm
    refine .reg (eD (keep (hp 1 [oC q2]) (bb (an (Nat.blt k1 (Sl.n s1)) true) (some (fpV (k1 * 1) (Sl.cs s1))) none)) (keep_bb h4) (eD (keep (hp 1 [oC q2]) (nthL (Sl.cs s1) (k1 * 1))) (keep_eq h5) (eE))) ?_
    refine .ghs (fr 29 [(3,sc 0 0 1 n1 c1),(5,zI x0),(10,Sl.v 1 s1),(11,zI z0),(12,(zI (Int.ofNat k1)))]) (hp 1 [oC q2]) (.k [0] [] [.tmp 3 false] [3,5,10,11,12] ⟨trF h0,trivial⟩) ?_
    refine .then (.rK ?_)
    refine .ghs (fr 29 [(3,sc 0 0 1 n1 c1),(5,zI x0),(10,Sl.v 1 s1),(11,zI z0),(12,(zI (Int.ofNat k1))),(17,(zB (ilt (1:Int) x0)))]) (hp 1 [oC q2]) (.k [0] [] [.tmp 3 false] [3,5,10,11,12,17] ⟨trF h0,trivial⟩) ?_
    replace hm:=bb_cases hm;rcases hm with ⟨h6,hm⟩ | ⟨h6,hm⟩
    ·refine .ifT (ilt (1 : Int) x0) (by kernel_rfl) h6 ?_
     replace hm:=bb_inv hm;obtain ⟨h7,hm⟩:=hm
     refine .reg (eC 4 (growD 1 8 n1 c1 1 0 q2 [(zI (wrapF .i64 (Int.sub x0 (1:Int))))] [] (hp 2 [oC q2,(oC [(zI (wrapF .i64 (Int.sub x0 (1:Int))))])])) (growD_eq h7) (eE)) ?_
     replace hm:=bb_inv hm;obtain ⟨h8,hm⟩:=hm
     exact ⟨((n1 + 1),(d2 (n1 + 1)),s1,z0,(Int.ofNat k1),(appL (dropL 0 q2) [(zI (wrapF .i64 (Int.sub x0 (1:Int))))])),hm,(.k [2] [] [.tmp 3 false] [3,10,11,12] ⟨trF h8,trivial⟩)⟩
    ·refine .ifF (ilt (1 : Int) x0) (by kernel_rfl) h6 ?_
     refine .skip ?_
     exact ⟨(n1,c1,s1,z0,(Int.ofNat k1),q2),hm,(.k [0] [] [.tmp 3 false] [3,10,11,12] ⟨trF h0,trivial⟩)⟩
  ·refine .ifF (ilt z1 z0) (by kernel_rfl) h1 ?_
   refine .exit ?_
   exact ⟨(n1,c1,q2),hm,(.k [0] [] [.tmp 3 false] [3] ⟨trF h0,trivial⟩)⟩
def m28_0 (pu:PureF) (n:Nat) (q1:LV) (q2:LV):OV:=
 (bb (Nat.ble (0 + 22) (len q2)) (bb (Nat.beq (len (takeL 22 (dropL 0 q2))) 22) (bb (an (Nat.ble (0 + len (takeL 22 (dropL 0 q2))) (len q1)) (allL scalarB (takeL 22 (dropL 0 q2)))) (bb (allL closed1 (setL (takeL 22 (dropL 0 q2)) 0 q1)) (bb (Nat.ble (0 + 22) (len (setL (takeL 22 (dropL 0 q2)) 0 q1))) (bb (closedV (.agg ⟨(takeL 22 (dropL 0 (setL (takeL 22 (dropL 0 q2)) 0 q1)))⟩)) (some (.agg ⟨(takeL 22 (dropL 0 (setL (takeL 22 (dropL 0 q2)) 0 q1)))⟩)) none) none) none) none) none) none)
def b28_1 (pu:PureF) (n:Nat) (ih0:Sl→Int→Int→LV→LV→OV) (s0:Sl) (z0 z1:Int) (q1:LV) (q2:LV):OV:=
 (bb (allL closed1 q1) (bb (allL closed1 q2) (bb (ilt z1 z0) (oo (toN z1) none fun k1=>(bb (an (Nat.blt k1 (Sl.n s0)) true) (oo (nthL (Sl.cs s0) (k1 * 1)) none fun v0=>(oo (toI .i64 v0) none fun x0=>(oo (toN x0) none fun k2=>(bb (Nat.blt k2 22) (oo (nthL q2 (0 + k2 * 1)) none fun v1=>(oo (toI .i64 v1) none fun x1=>(bb (Nat.blt k2 22) (bb (an (Nat.ble ((0 + k2 * 1) + 1) (len q2)) true) (bb (allL closed1 (setL ([(.int .i64 (wrapF .i64 (Int.add x1 (1:Int))))]:LV) (0 + k2 * 1) q2)) (ih0 s0 z0 (wrapF .i64 (Int.add (Int.ofNat k1) (1:Int))) q1 (setL ([(.int .i64 (wrapF .i64 (Int.add x1 (1:Int))))]:LV) (0 + k2 * 1) q2)) none) none) none))) none)))) none)) (m28_0 pu n q1 q2)) none) none)
def l28_1 (pu:PureF) (n w:Nat):Sl→Int→Int→LV→LV→OV:=
 Nat.rec (motive:=fun _=>Sl→Int→Int→LV→LV→OV) (fun _ _ _ _ _=>none) (fun _ ih0=>b28_1 pu n ih0) w
def m28_ (pu:PureF) (n:Nat) (s0:Sl):OV:=
 (bb (allL closed1 zA54) (l28_1 pu n n s0 (Int.ofNat (Sl.n s0)) (0:Int) zA54 zA54) none)
def m28 (pu:PureF) (n:Nat) (args:LV):OV:=
 (ll args none fun a0 args=>(ll args (oo (toSl 1 a0) none fun s0=>(m28_ pu n s0)) fun _ _=>none))
theorem w28_0 (pu:PureF) (n:Nat) (q1:LV) (q2:LV) {v:Value} (hm:m28_0 pu n q1 q2 = some v):Run tt (callP tabs isP pu (inl pu)) 0 c28_17 (fr 19 [(2,(pt 0 0)),(3,pt 1 0)]) (hp 2 [oC q1,oC q2]) (Fin tt 0 [.cell 2 54] v):=by
 unfold m28_0 at hm
 refine .then ?_
 replace hm:=bb_inv hm;obtain ⟨h0,hm⟩:=hm
 replace hm:=bb_inv hm;obtain ⟨h1,hm⟩:=hm
 replace hm:=bb_inv hm;obtain ⟨h2,hm⟩:=hm
 refine .reg (eD (keep (hp 2 [oC q1,oC q2]) (bb (Nat.ble (0 + 22) (len q2)) (some (.agg ⟨(takeL 22 (dropL 0 q2))⟩)) none)) (keep_bb h0) (eD (done (bb (Nat.beq (len (takeL 22 (dropL 0 q2))) 22) (bb (an (Nat.ble (0 + len (takeL 22 (dropL 0 q2))) (len q1)) (allL scalarB (takeL 22 (dropL 0 q2)))) (some (hp 2 [(oC (setL (takeL 22 (dropL 0 q2)) 0 q1)),oC q2])) none) none) undef) (done_bb2 h1 h2) (eE))) ?_
 replace hm:=bb_inv hm;obtain ⟨h3,hm⟩:=hm
 refine .ghs (fr 19 [(2,(pt 0 0))]) (hp 1 [(oC (setL (takeL 22 (dropL 0 q2)) 0 q1))]) (.k [0] [] [.tmp 2 false] [2] ⟨trF h3,trivial⟩) ?_
 refine .ret ?_
 replace hm:=bb_inv hm;obtain ⟨h4,hm⟩:=hm
 replace hm:=bb_inv hm;obtain ⟨h5,hm⟩:=hm
 exact fin_ret (.agg ⟨(takeL 22 (dropL 0 (setL (takeL 22 (dropL 0 q2)) 0 q1)))⟩) (aresults_of (aresultsL_cons (show aresult _ _ _ _ = some (.agg ⟨(takeL 22 (dropL 0 (setL (takeL 22 (dropL 0 q2)) 0 q1)))⟩) from (eq_bb (c:=(Nat.ble (0 + 22) (len (setL (takeL 22 (dropL 0 q2)) 0 q1)))) (by kernel_rfl) h4)) rfl) (by kernel_rfl)) h5 hm
theorem r28 {call:CallF} (pu:PureF) (n:Nat) (hcall:call = callP tabs isP pu (inl pu)) {args:LV} {v:Value} (hm:m28 pu n args = some v) (_:∀ x ∈ args,closed2 x = true):args.length≤19∧Run tt call 0 c28_20 (Fr.made 19 args) (pureHeap tabs) (Fin tt 0 [.cell 2 54] v):=by
 subst hcall
 unfold m28 at hm
 replace hm:=ll_uncons hm;obtain ⟨a0,args_0,rfl,hm⟩:=hm
 replace hm:=ll_end hm;obtain ⟨rfl,hm⟩:=hm
 replace hm:=inv_toSl hm;obtain ⟨s0,rfl,hm⟩:=hm
 unfold m28_ at hm
 refine ⟨by simp,?_⟩
 refine .same (F':=(fr 19 [(0,Sl.v 1 s0)])) (H':=(hp 0 [])) (by kernel_rfl) (by kernel_rfl) ?_
 refine .then (.rK ?_)
 replace hm:=bb_inv hm;obtain ⟨h0,hm⟩:=hm
 refine .ghs (fr 19 [(0,Sl.v 1 s0),(2,(pt 0 0))]) (hp 1 [oC zA54]) (.k [0] [] [.tmp 2 false] [0,2] ⟨trF h0,trivial⟩) ?_
 refine .then (.rK ?_)
 refine .ghs (fr 19 [(0,Sl.v 1 s0),(2,(pt 0 0)),(3,pt 1 0)]) (hp 2 [oC zA54,oC zA54]) (.k [0,1] [] [.tmp 2 false,.tmp 3 false] [0,2,3] ⟨trF h0,trF h0,trivial⟩) ?_
 refine .join (v:=v) (fun y:LV×LV=>((fr 19 [(2,(pt 0 0)),(3,pt 1 0)]),(hp 2 [(oC y.1),(oC y.2)]))) (fun y=>m28_0 pu n y.1 y.2) ?_ ?_
 ·rintro ⟨q1, q2⟩ hm
  exact w28_0 pu n q1 q2 hm
 ·refine .then (.rK ?_)
  refine .ghs (fr 19 [(2,(pt 0 0)),(3,pt 1 0),(6,Sl.v 1 s0),(7,(zI (Int.ofNat (Sl.n s0)))),(8,(zI (0:Int)))]) (hp 2 [oC zA54,oC zA54]) (.k [0,1] [] [.tmp 2 false,.tmp 3 false] [2,3,6,7,8] ⟨trF h0,trF h0,trivial⟩) ?_
  refine .block ?_
  refine .loopM (v:=v) (fun y:Sl×Int×Int×LV×LV=>((fr 19 [(2,(pt 0 0)),(3,pt 1 0),(6,(Sl.v 1 y.1)),(7,(zI y.2.1)),(8,(zI y.2.2.1))]),(hp 2 [(oC y.2.2.2.1),(oC y.2.2.2.2)]))) (fun w y=>l28_1 pu n w y.1 y.2.1 y.2.2.1 y.2.2.2.1 y.2.2.2.2) n ⟨(s0,(Int.ofNat (Sl.n s0)),(0:Int),zA54,zA54),hm,(.k [0,1] [] [.tmp 2 false,.tmp 3 false] [2,3,6,7,8] ⟨trF h0,trF h0,trivial⟩)⟩ (fun _=>rfl) ?_
  rintro w0 ⟨s1,z0,z1,q3,q4⟩ hm
  replace hm:b28_1 pu n (l28_1 pu n w0) s1 z0 z1 q3 q4 = some v:=hm
  unfold b28_1 at hm
  refine .then (.rK ?_)
  replace hm:=bb_inv hm;obtain ⟨h1,hm⟩:=hm
  replace hm:=bb_inv hm;obtain ⟨h2,hm⟩:=hm
  refine .ghs (fr 19 [(2,(pt 0 0)),(3,pt 1 0),(6,Sl.v 1 s1),(7,zI z0),(8,zI z1),(9,(zB (ilt z1 z0)))]) (hp 2 [oC q3,oC q4]) (.k [0,1] [] [.tmp 2 false,.tmp 3 false] [2,3,6,7,8,9] ⟨trF h1,trF h2,trivial⟩) ?_
  refine .then ?_
  replace hm:=bb_cases hm;rcases hm with ⟨h3,hm⟩ | ⟨h3,hm⟩
  ·refine .ifT (ilt z1 z0) (by kernel_rfl) h3 ?_
   refine .skip ?_
   refine .ghs (fr 19 [(2,(pt 0 0)),(3,pt 1 0),(6,Sl.v 1 s1),(7,zI z0),(8,zI z1)]) (hp 2 [oC q3,oC q4]) (.k [0,1] [] [.tmp 2 false,.tmp 3 false] [2,3,6,7,8] ⟨trF h1,trF h2,trivial⟩) ?_
   refine .then ?_
   refine .block ?_
   refine .then ?_
   replace hm:=oo_inv hm;obtain ⟨k1,h4,hm⟩:=hm
   obtain rfl:=toN_some h4
   replace hm:=bb_inv hm;obtain ⟨h5,hm⟩:=hm
   replace hm:=oo_inv hm;obtain ⟨v0,h6,hm⟩:=hm
   replace hm:=inv_toI hm;obtain ⟨x0,rfl,hm⟩:=hm
   refine .reg (eD (keep (hp 2 [oC q3,oC q4]) (bb (an (Nat.blt k1 (Sl.n s1)) true) (some (fpV (k1 * 1) (Sl.cs s1))) none)) (keep_bb h5) (eD (keep (hp 2 [oC q3,oC q4]) (nthL (Sl.cs s1) (k1 * 1))) (keep_eq h6) (eE))) ?_
   refine .ghs (fr 19 [(2,(pt 0 0)),(3,pt 1 0),(5,zI x0),(6,Sl.v 1 s1),(7,zI z0),(8,(zI (Int.ofNat k1)))]) (hp 2 [oC q3,oC q4]) (.k [0,1] [] [.tmp 2 false,.tmp 3 false] [2,3,5,6,7,8] ⟨trF h1,trF h2,trivial⟩) ?_
   replace hm:=oo_inv hm;obtain ⟨k2,h7,hm⟩:=hm
   obtain rfl:=toN_some h7
   replace hm:=bb_inv hm;obtain ⟨h8,hm⟩:=hm
   replace hm:=oo_inv hm;obtain ⟨v1,h9,hm⟩:=hm
   replace hm:=inv_toI hm;obtain ⟨x1,rfl,hm⟩:=hm
   replace hm:=bb_inv hm;obtain ⟨h10,hm⟩:=hm
   replace hm:=bb_inv hm;obtain ⟨h11,hm⟩:=hm
   refine .reg (eC 1 (keep (hp 2 [oC q3,oC q4]) (bb (Nat.blt k2 22) (some (.pointer (some ⟨1,(0 + k2 * 1),none⟩))) none)) (keep_bb h8) (eD (keep (hp 2 [oC q3,oC q4]) (nthL q4 (0 + k2 * 1))) (keep_eq h9) (eC 1 (keep (hp 2 [oC q3,oC q4]) (bb (Nat.blt k2 22) (some (.pointer (some ⟨1,(0 + k2 * 1),none⟩))) none)) (keep_bb h10) (eD (done (bb (an (Nat.ble ((0 + k2 * 1) + 1) (len q4)) true) (some (hp 2 [oC q3,(oC (setL ([(zI (wrapF .i64 (Int.add x1 (1:Int))))]:LV) (0 + k2 * 1) q4))])) none) undef) (done_bb h11) (eE))))) ?_
   replace hm:=bb_inv hm;obtain ⟨h12,hm⟩:=hm
   refine .ghs (fr 19 [(2,(pt 0 0)),(3,pt 1 0),(6,Sl.v 1 s1),(7,zI z0),(8,(zI (Int.ofNat k1)))]) (hp 2 [oC q3,(oC (setL ([(zI (wrapF .i64 (Int.add x1 (1:Int))))]:LV) (0 + k2 * 1) q4))]) (.k [0,1] [] [.tmp 2 false,.tmp 3 false] [2,3,6,7,8] ⟨trF h1,trF h12,trivial⟩) ?_
   refine .rK ?_
   exact ⟨(s1,z0,(wrapF .i64 (Int.add (Int.ofNat k1) (1:Int))),q3,(setL ([(zI (wrapF .i64 (Int.add x1 (1:Int))))]:LV) (0 + k2 * 1) q4)),hm,(.k [0,1] [] [.tmp 2 false,.tmp 3 false] [2,3,6,7,8] ⟨trF h1,trF h12,trivial⟩)⟩
  ·refine .ifF (ilt z1 z0) (by kernel_rfl) h3 ?_
   refine .exit ?_
   exact ⟨(q3,q4),hm,(.k [0,1] [] [.tmp 2 false,.tmp 3 false] [2,3] ⟨trF h1,trF h2,trivial⟩)⟩
def m29_0 (pu:PureF) (n:Nat):OV:=
 (some (.bool true))
def b29_1 (pu:PureF) (n:Nat) (ih0:Int→Nat→Nat→Int→Int→LV→OV) (z0:Int) (n0 c0:Nat) (z1 z2:Int) (q1:LV):OV:=
 (bb (allL closed1 q1) (bb (ilt z2 z1) (oo (toN z2) none fun k1=>(bb (an (Nat.blt k1 n0) true) (oo (nthL q1 (0 + k1 * 1)) none fun v0=>(oo (toI .i64 v0) none fun x0=>(oo (pu 30 [(.int .i64 (wrapF .i64 (Int.sub z0 (Int.ofNat k1)))),.int .i64 x0,(.int .i64 (wrapF .i64 (Int.sub (wrapF .i64 (Int.add z0 (1:Int))) (Int.ofNat k1))))]) none fun v1=>(oo (vBool v1) none fun b0=>(bb (nt b0) (some (.bool false)) (ih0 z0 n0 c0 z1 (wrapF .i64 (Int.add (Int.ofNat k1) (1:Int))) q1)))))) none)) (m29_0 pu n)) none)
def l29_1 (pu:PureF) (n w:Nat):Int→Nat→Nat→Int→Int→LV→OV:=
 Nat.rec (motive:=fun _=>Int→Nat→Nat→Int→Int→LV→OV) (fun _ _ _ _ _ _=>none) (fun _ ih0=>b29_1 pu n ih0) w
def b29_2 (pu:PureF) (n:Nat) (ih0:Int→Nat→Nat→Int→Int→LV→OV) (z0:Int) (n0 c0:Nat) (z1 z2:Int) (q1:LV):OV:=
 (bb (allL closed1 q1) (bb (ilt z2 z1) (oo (toN z2) none fun k1=>(bb (an (Nat.blt k1 n0) true) (oo (nthL q1 (0 + k1 * 1)) none fun v0=>(oo (toI .i64 v0) none fun x0=>(oo (pu 30 [(.int .i64 (wrapF .i64 (Int.sub z0 (Int.ofNat k1)))),.int .i64 x0,(.int .i64 (wrapF .i64 (Int.sub (wrapF .i64 (Int.add z0 (1:Int))) (Int.ofNat k1))))]) none fun v1=>(oo (vBool v1) none fun b0=>(bb (nt b0) (some (.bool false)) (ih0 z0 n0 c0 z1 (wrapF .i64 (Int.add (Int.ofNat k1) (1:Int))) q1)))))) none)) (m29_0 pu n)) none)
def l29_2 (pu:PureF) (n w:Nat):Int→Nat→Nat→Int→Int→LV→OV:=
 Nat.rec (motive:=fun _=>Int→Nat→Nat→Int→Int→LV→OV) (fun _ _ _ _ _ _=>none) (fun _ ih0=>b29_2 pu n ih0) w
def m29_ (pu:PureF) (n:Nat) (q1:LV):OV:=
 (bb (allL closed1 q1) (bb (Nat.ble (0 + 22) (len q1)) (oo (pu 56 [(.agg ⟨(takeL 22 (dropL 0 q1))⟩)]) none fun v0=>(oo (toSl 1 v0) none fun s0=>(bb (allL closed2 [(.agg ⟨(takeL 22 (dropL 0 q1))⟩)]) (bb (allL closed1 (Sl.cs s0)) (bb (Nat.ble (0 + 22) (len q1)) (oo (pu 57 [(.agg ⟨(takeL 22 (dropL 0 q1))⟩)]) none fun v1=>(oo (toI .i64 v1) none fun x0=>(bb (allL closed2 [(.agg ⟨(takeL 22 (dropL 0 q1))⟩)]) (oo (pu 31 [.int .i64 x0]) none fun v2=>(oo (vTup v2) none fun l0=>(ll l0 none fun v3 l0=>(ll l0 none fun v4 l0=>(ll l0 (oo (toI .i64 v3) none fun x1=>(oo (toI .i64 v4) none fun x2=>(bb (ilt (wrapF .i64 (Int.add x1 (1:Int))) (Int.ofNat (Sl.n s0))) (some (.bool false)) (oo (toN (wrapF .i64 (Int.sub (wrapF .i64 (Int.add x1 (1:Int))) (Int.ofNat (Sl.n s0))))) none fun k1=>(bb (Nat.beq k1 0) (bb (an (Nat.ble k1 1000000) (roomy k1 8)) (l29_1 pu n n x1 (Sl.n s0) (2 * (Sl.n s0) + bb false 1 0) (Int.ofNat (Sl.n s0)) (0:Int) (Sl.cs s0)) none) (bb (an (Nat.ble k1 1000000) (roomy k1 8)) (bb (an (allL scalarB (zeroRow ([(.int .i64 (0:Int))]:LV) k1)) (growC 1 8 (Sl.n s0) (2 * (Sl.n s0) + bb false 1 0) k1 (Sl.cs s0))) (bb (allL closed1 (appL (dropL 0 (Sl.cs s0)) (zeroRow ([(.int .i64 (0:Int))]:LV) k1))) (l29_2 pu n n x1 ((Sl.n s0) + k1) (2 * ((Sl.n s0) + k1) + bb false 1 0) (Int.ofNat ((Sl.n s0) + k1)) (0:Int) (appL (dropL 0 (Sl.cs s0)) (zeroRow ([(.int .i64 (0:Int))]:LV) k1))) none) none) none)))))) fun _ _=>none))))) none))) none) none) none))) none) none)
def m29 (pu:PureF) (n:Nat) (args:LV):OV:=
 (ll args none fun a0 args=>(ll args (oo (vAgg a0) none fun q1=>(bb (an (Nat.beq (len q1) 22) (allL closed1 q1)) (m29_ pu n q1) none)) fun _ _=>none))
theorem w29_0 (pu:PureF) (n:Nat) {v:Value} (hm:m29_0 pu n = some v):Run tt (callP tabs isP pu (inl pu)) 0 c29_27 (fr 45 []) (hp 0 []) (Fin tt 0 [.tmp 2] v):=by
 unfold m29_0 at hm
 refine .then (.rK ?_)
 refine .ghs (fr 45 [(2,zB true)]) (hp 0 []) (.k0 [] [] [2]) ?_
 refine .ret ?_
 exact fin_ret (zB true) (by kernel_rfl) (by kernel_rfl) hm
theorem r29 {call:CallF} (pu:PureF) (n:Nat) (hcall:call = callP tabs isP pu (inl pu)) {args:LV} {v:Value} (hm:m29 pu n args = some v) (_:∀ x ∈ args,closed2 x = true):args.length≤45∧Run tt call 0 c29_32 (Fr.made 45 args) (pureHeap tabs) (Fin tt 0 [.tmp 2] v):=by
 subst hcall
 unfold m29 at hm
 replace hm:=ll_uncons hm;obtain ⟨a0,args_0,rfl,hm⟩:=hm
 replace hm:=ll_end hm;obtain ⟨rfl,hm⟩:=hm
 replace hm:=inv_vAgg hm;obtain ⟨q1,rfl,hm⟩:=hm
 replace hm:=bb_inv hm;obtain ⟨h0,hm⟩:=hm
 unfold m29_ at hm
 refine ⟨by simp,?_⟩
 refine .same (F':=(fr 45 [(0,(.agg ⟨q1⟩))])) (H':=(hp 0 [])) (by kernel_rfl) (by kernel_rfl) ?_
 refine .then (.rK ?_)
 replace hm:=bb_inv hm;obtain ⟨h1,hm⟩:=hm
 refine .ghs (fr 45 [(1,(pt 0 0))]) (hp 1 [oC q1]) (.k [0] [] [.tmp 1 false] [1] ⟨trF h1,trivial⟩) ?_
 refine .then ?_
 replace hm:=bb_inv hm;obtain ⟨h2,hm⟩:=hm
 replace hm:=oo_inv hm;obtain ⟨v0,h3,hm⟩:=hm
 replace hm:=inv_toSl hm;obtain ⟨s0,rfl,hm⟩:=hm
 replace hm:=bb_inv hm;obtain ⟨h4,hm⟩:=hm
 refine .reg (eD (keep (hp 1 [oC q1]) (bb (Nat.ble (0 + 22) (len q1)) (some (.agg ⟨(takeL 22 (dropL 0 q1))⟩)) none)) (keep_bb h2) (eD (bb (allL closed2 [(.agg ⟨(takeL 22 (dropL 0 q1))⟩)]) (oo (pu 56 [(.agg ⟨(takeL 22 (dropL 0 q1))⟩)]) none fun v=>oo (toSl 1 v) none fun s=>some (((sc 1 0 1 (Sl.n s) (d2 (Sl.n s))),(hp 2 [oC q1,(oC (Sl.cs s))])):Value×AHeap)) none) ((bb_true' h4).trans (live_eq (sz:=1) (k:=fun s=>(((sc 1 0 1 (Sl.n s) (d2 (Sl.n s))),(hp 2 [oC q1,(oC (Sl.cs s))])):Value×AHeap)) h3)) (eE))) ?_
 replace hm:=bb_inv hm;obtain ⟨h5,hm⟩:=hm
 refine .ghs (fr 45 [(1,(pt 0 0)),(3,(sc 1 0 1 (Sl.n s0) (d2 (Sl.n s0))))]) (hp 2 [oC q1,(oC (Sl.cs s0))]) (.k [0,1] [] [.tmp 1 false,.tmp 3 false] [1,3] ⟨trF h1,trF h5,trivial⟩) ?_
 refine .then ?_
 replace hm:=bb_inv hm;obtain ⟨h6,hm⟩:=hm
 replace hm:=oo_inv hm;obtain ⟨v1,h7,hm⟩:=hm
 replace hm:=inv_toI hm;obtain ⟨x0,rfl,hm⟩:=hm
 replace hm:=bb_inv hm;obtain ⟨h8,hm⟩:=hm
 replace hm:=oo_inv hm;obtain ⟨v2,h9,hm⟩:=hm
 replace hm:=inv_vTup hm;obtain ⟨l0,rfl,hm⟩:=hm
 replace hm:=ll_uncons hm;obtain ⟨v3,l7687_0,rfl,hm⟩:=hm
 replace hm:=ll_uncons hm;obtain ⟨v4,l7687_1,rfl,hm⟩:=hm
 replace hm:=ll_end hm;obtain ⟨rfl,hm⟩:=hm
 replace hm:=inv_toI hm;obtain ⟨x1,rfl,hm⟩:=hm
 replace hm:=inv_toI hm;obtain ⟨x2,rfl,hm⟩:=hm
 refine .reg (eD (keep (hp 2 [oC q1,(oC (Sl.cs s0))]) (bb (Nat.ble (0 + 22) (len q1)) (some (.agg ⟨(takeL 22 (dropL 0 q1))⟩)) none)) (keep_bb h6) (eD (bb (allL closed2 [(.agg ⟨(takeL 22 (dropL 0 q1))⟩)]) (oo (pu 57 [(.agg ⟨(takeL 22 (dropL 0 q1))⟩)]) none fun v=>some (v,(hp 2 [oC q1,(oC (Sl.cs s0))]))) (oo (mapO (purify (hp 2 [oC q1,(oC (Sl.cs s0))])) [(.agg ⟨(takeL 22 (dropL 0 q1))⟩)]) none fun l1=>oo (pu 57 l1) none fun v=>bb (plainT v) (some (v,(hp 2 [oC q1,(oC (Sl.cs s0))]))) none)) (callc_eq h8 h7) (eD ((oo (pu 31 [zI x0]) none fun v=>some (v,(hp 2 [oC q1,(oC (Sl.cs s0))])))) (call_eq h9) (eE)))) ?_
 refine .ghs (fr 45 [(3,(sc 0 0 1 (Sl.n s0) (d2 (Sl.n s0)))),(4,zI x1)]) (hp 1 [(oC (Sl.cs s0))]) (.k [1] [] [.tmp 3 false] [3,4] ⟨trF h5,trivial⟩) ?_
 refine .then ?_
 refine .then (.rK ?_)
 refine .ghs (fr 45 [(3,(sc 0 0 1 (Sl.n s0) (d2 (Sl.n s0)))),(4,zI x1),(20,(zB (ilt (wrapF .i64 (Int.add x1 (1:Int))) (Int.ofNat (Sl.n s0)))))]) (hp 1 [(oC (Sl.cs s0))]) (.k [0] [] [.tmp 3 false] [3,4,20] ⟨trF h5,trivial⟩) ?_
 replace hm:=bb_cases hm;rcases hm with ⟨h10,hm⟩ | ⟨h10,hm⟩
 ·refine .ifT (ilt (wrapF .i64 (Int.add x1 (1 : Int))) (Int.ofNat (Sl.n s0))) (by kernel_rfl) h10 ?_
  refine .then (.rK ?_)
  refine .ghs (fr 45 [(2,zB false)]) (hp 0 []) (.k0 [] [] [2]) ?_
  refine .ret ?_
  exact fin_ret (zB false) (by kernel_rfl) (by kernel_rfl) hm
 ·refine .ifF (ilt (wrapF .i64 (Int.add x1 (1 : Int))) (Int.ofNat (Sl.n s0))) (by kernel_rfl) h10 ?_
  refine .skip ?_
  refine .ghs (fr 45 [(3,(sc 0 0 1 (Sl.n s0) (d2 (Sl.n s0)))),(4,zI x1)]) (hp 1 [(oC (Sl.cs s0))]) (.k [0] [] [.tmp 3 false] [3,4] ⟨trF h5,trivial⟩) ?_
  refine .join (v:=v) (fun y:Unit=>((fr 45 []),(hp 0 []))) (fun y=>m29_0 pu n) ?_ ?_
  ·rintro _ hm
   exact w29_0 pu n hm
  ·refine .then ?_
   replace hm:=oo_inv hm;obtain ⟨k1,h11,hm⟩:=hm
   replace hm:=bb_cases hm;rcases hm with ⟨h12,hm⟩ | ⟨h12,hm⟩
   ·replace hm := bb_inv hm; obtain ⟨h13, hm⟩ := hm
    refine .reg (eC 5 (some ((zI (wrapF .i64 (Int.sub (wrapF .i64 (Int.add x1 (1:Int))) (Int.ofNat (Sl.n s0))))),(hp 1 [(oC (Sl.cs s0))]))) (show _ = some ((zI (Int.ofNat k1)),_) from (by rw [toN_some h11])) (eD (appZ (hp 1 [(oC (Sl.cs s0))]) 1 8 ([(zI (0:Int))]:LV) (sc 0 0 1 (Sl.n s0) (d2 (Sl.n s0))) k1) (appZ_0 h13 h12) (eE))) ?_
    refine .ghs (fr 45 [(4,zI x1),(27,(sc 0 0 1 (Sl.n s0) (d2 (Sl.n s0)))),(28,(zI (Int.ofNat (Sl.n s0)))),(29,(zI (0:Int)))]) (hp 1 [(oC (Sl.cs s0))]) (.k [0] [] [.tmp 27 false] [4,27,28,29] ⟨trF h5,trivial⟩) ?_
    refine .block ?_
    refine .loopM (v:=v) (fun y:Int×Nat×Nat×Int×Int×LV=>((fr 45 [(4,(zI y.1)),(27,(sc 0 0 1 y.2.1 y.2.2.1)),(28,(zI y.2.2.2.1)),(29,(zI y.2.2.2.2.1))]),(hp 1 [(oC y.2.2.2.2.2)]))) (fun w y=>l29_1 pu n w y.1 y.2.1 y.2.2.1 y.2.2.2.1 y.2.2.2.2.1 y.2.2.2.2.2) n ⟨(x1,(Sl.n s0),(d2 (Sl.n s0)),(Int.ofNat (Sl.n s0)),(0:Int),(Sl.cs s0)),hm,(.k [0] [] [.tmp 27 false] [4,27,28,29] ⟨trF h5,trivial⟩)⟩ (fun _=>rfl) ?_
    rintro w0 ⟨z0,n0,c0,z1,z2,q2⟩ hm
    replace hm:b29_1 pu n (l29_1 pu n w0) z0 n0 c0 z1 z2 q2 = some v:=hm
    unfold b29_1 at hm
    refine .then (.rK ?_)
    replace hm:=bb_inv hm;obtain ⟨h14,hm⟩:=hm
    refine .ghs (fr 45 [(4,zI z0),(27,sc 0 0 1 n0 c0),(28,zI z1),(29,zI z2),(30,(zB (ilt z2 z1)))]) (hp 1 [oC q2]) (.k [0] [] [.tmp 27 false] [4,27,28,29,30] ⟨trF h14,trivial⟩) ?_
    refine .then ?_
    replace hm:=bb_cases hm;rcases hm with ⟨h15,hm⟩ | ⟨h15,hm⟩
    ·refine .ifT (ilt z2 z1) (by kernel_rfl) h15 ?_
     refine .skip ?_
     refine .ghs (fr 45 [(4,zI z0),(27,sc 0 0 1 n0 c0),(28,zI z1),(29,zI z2)]) (hp 1 [oC q2]) (.k [0] [] [.tmp 27 false] [4,27,28,29] ⟨trF h14,trivial⟩) ?_
     refine .then ?_
     refine .block ?_
     refine .then ?_
     replace hm:=oo_inv hm;obtain ⟨k2,h16,hm⟩:=hm
     obtain rfl:=toN_some h16
     replace hm:=bb_inv hm;obtain ⟨h17,hm⟩:=hm
     replace hm:=oo_inv hm;obtain ⟨v5,h18,hm⟩:=hm
     replace hm:=inv_toI hm;obtain ⟨x3,rfl,hm⟩:=hm
     refine .reg (eC 1 (keep (hp 1 [oC q2]) (bb (an (Nat.blt k2 n0) true) (some (.pointer (some ⟨0,(0 + k2 * 1),none⟩))) none)) (keep_bb h17) (eD (keep (hp 1 [oC q2]) (nthL q2 (0 + k2 * 1))) (keep_eq h18) (eE))) ?_
     refine .ghs (fr 45 [(4,zI z0),(6,(zI (Int.ofNat k2))),(7,zI x3),(27,sc 0 0 1 n0 c0),(28,zI z1),(29,(zI (Int.ofNat k2)))]) (hp 1 [oC q2]) (.k [0] [] [.tmp 27 false] [4,6,7,27,28,29] ⟨trF h14,trivial⟩) ?_
     refine .then ?_
     replace hm:=oo_inv hm;obtain ⟨v6,h19,hm⟩:=hm
     replace hm:=inv_vBool hm;obtain ⟨b0,rfl,hm⟩:=hm
     refine .reg (eC 8 ((oo (pu 30 [(zI (wrapF .i64 (Int.sub z0 (Int.ofNat k2)))),zI x3,(zI (wrapF .i64 (Int.sub (wrapF .i64 (Int.add z0 (1:Int))) (Int.ofNat k2))))]) none fun v=>some (v,(hp 1 [oC q2])))) (call_eq h19) (eE)) ?_
     refine .ghs (fr 45 [(4,zI z0),(27,sc 0 0 1 n0 c0),(28,zI z1),(29,(zI (Int.ofNat k2))),(43,(zB (nt b0)))]) (hp 1 [oC q2]) (.k [0] [] [.tmp 27 false] [4,27,28,29,43] ⟨trF h14,trivial⟩) ?_
     replace hm:=bb_cases hm;rcases hm with ⟨h20,hm⟩ | ⟨h20,hm⟩
     ·refine .ifT (nt b0) (by kernel_rfl) h20 ?_
      refine .then (.rK ?_)
      refine .ghs (fr 45 [(2,zB false)]) (hp 0 []) (.k0 [] [] [2]) ?_
      refine .ret ?_
      exact fin_ret (zB false) (by kernel_rfl) (by kernel_rfl) hm
     ·refine .ifF (nt b0) (by kernel_rfl) h20 ?_
      refine .skip ?_
      refine .ghs (fr 45 [(4,zI z0),(27,sc 0 0 1 n0 c0),(28,zI z1),(29,(zI (Int.ofNat k2)))]) (hp 1 [oC q2]) (.k [0] [] [.tmp 27 false] [4,27,28,29] ⟨trF h14,trivial⟩) ?_
      refine .rK ?_
      exact ⟨(z0,n0,c0,z1,(wrapF .i64 (Int.add (Int.ofNat k2) (1:Int))),q2),hm,(.k [0] [] [.tmp 27 false] [4,27,28,29] ⟨trF h14,trivial⟩)⟩
    ·refine .ifF (ilt z2 z1) (by kernel_rfl) h15 ?_
     refine .exit ?_
     exact ⟨(),hm,(.k0 [] [] [])⟩
   ·replace hm := bb_inv hm; obtain ⟨h13, hm⟩ := hm
    replace hm:=bb_inv hm;obtain ⟨h21,hm⟩:=hm
    refine .reg (eC 5 (some ((zI (wrapF .i64 (Int.sub (wrapF .i64 (Int.add x1 (1:Int))) (Int.ofNat (Sl.n s0))))),(hp 1 [(oC (Sl.cs s0))]))) (show _ = some ((zI (Int.ofNat k1)),_) from (by rw [toN_some h11])) (eD (appZ (hp 1 [(oC (Sl.cs s0))]) 1 8 ([(zI (0:Int))]:LV) (sc 0 0 1 (Sl.n s0) (d2 (Sl.n s0))) k1) (appZ_grow (H:=(hp 1 [(oC (Sl.cs s0))])) (id:=0) (n:=(Sl.n s0)) (c2:=(d2 (Sl.n s0))) (xs:=(Sl.cs s0)) (anc:=[]) h13 h12 (by kernel_rfl) (by kernel_rfl) h21) (eE))) ?_
    replace hm:=bb_inv hm;obtain ⟨h22,hm⟩:=hm
    refine .ghs (fr 45 [(4,zI x1),(27,(sc 0 0 1 ((Sl.n s0) + k1) (d2 ((Sl.n s0) + k1)))),(28,(zI (Int.ofNat ((Sl.n s0) + k1)))),(29,(zI (0:Int)))]) (hp 1 [(oC (appL (dropL 0 (Sl.cs s0)) (zeroRow ([(zI (0:Int))]:LV) k1)))]) (.k [1] [] [.tmp 27 false] [4,27,28,29] ⟨trF h22,trivial⟩) ?_
    refine .block ?_
    refine .loopM (v:=v) (fun y:Int×Nat×Nat×Int×Int×LV=>((fr 45 [(4,(zI y.1)),(27,(sc 0 0 1 y.2.1 y.2.2.1)),(28,(zI y.2.2.2.1)),(29,(zI y.2.2.2.2.1))]),(hp 1 [(oC y.2.2.2.2.2)]))) (fun w y=>l29_2 pu n w y.1 y.2.1 y.2.2.1 y.2.2.2.1 y.2.2.2.2.1 y.2.2.2.2.2) n ⟨(x1,((Sl.n s0) + k1),(d2 ((Sl.n s0) + k1)),(Int.ofNat ((Sl.n s0) + k1)),(0:Int),(appL (dropL 0 (Sl.cs s0)) (zeroRow ([(zI (0:Int))]:LV) k1))),hm,(.k [0] [] [.tmp 27 false] [4,27,28,29] ⟨trF h22,trivial⟩)⟩ (fun _=>rfl) ?_
    rintro w0 ⟨z3,n1,c1,z4,z5,q3⟩ hm
    replace hm:b29_2 pu n (l29_2 pu n w0) z3 n1 c1 z4 z5 q3 = some v:=hm
    unfold b29_2 at hm
    refine .then (.rK ?_)
    replace hm:=bb_inv hm;obtain ⟨h23,hm⟩:=hm
    refine .ghs (fr 45 [(4,zI z3),(27,sc 0 0 1 n1 c1),(28,zI z4),(29,zI z5),(30,(zB (ilt z5 z4)))]) (hp 1 [oC q3]) (.k [0] [] [.tmp 27 false] [4,27,28,29,30] ⟨trF h23,trivial⟩) ?_
    refine .then ?_
    replace hm:=bb_cases hm;rcases hm with ⟨h24,hm⟩ | ⟨h24,hm⟩
    ·refine .ifT (ilt z5 z4) (by kernel_rfl) h24 ?_
     refine .skip ?_
     refine .ghs (fr 45 [(4,zI z3),(27,sc 0 0 1 n1 c1),(28,zI z4),(29,zI z5)]) (hp 1 [oC q3]) (.k [0] [] [.tmp 27 false] [4,27,28,29] ⟨trF h23,trivial⟩) ?_
     refine .then ?_
     refine .block ?_
     refine .then ?_
     replace hm:=oo_inv hm;obtain ⟨k3,h25,hm⟩:=hm
     obtain rfl:=toN_some h25
     replace hm:=bb_inv hm;obtain ⟨h26,hm⟩:=hm
     replace hm:=oo_inv hm;obtain ⟨v7,h27,hm⟩:=hm
     replace hm:=inv_toI hm;obtain ⟨x4,rfl,hm⟩:=hm
     refine .reg (eC 1 (keep (hp 1 [oC q3]) (bb (an (Nat.blt k3 n1) true) (some (.pointer (some ⟨0,(0 + k3 * 1),none⟩))) none)) (keep_bb h26) (eD (keep (hp 1 [oC q3]) (nthL q3 (0 + k3 * 1))) (keep_eq h27) (eE))) ?_
     refine .ghs (fr 45 [(4,zI z3),(6,(zI (Int.ofNat k3))),(7,zI x4),(27,sc 0 0 1 n1 c1),(28,zI z4),(29,(zI (Int.ofNat k3)))]) (hp 1 [oC q3]) (.k [0] [] [.tmp 27 false] [4,6,7,27,28,29] ⟨trF h23,trivial⟩) ?_
     refine .then ?_
     replace hm:=oo_inv hm;obtain ⟨v8,h28,hm⟩:=hm
     replace hm:=inv_vBool hm;obtain ⟨b1,rfl,hm⟩:=hm
     refine .reg (eC 8 ((oo (pu 30 [(zI (wrapF .i64 (Int.sub z3 (Int.ofNat k3)))),zI x4,(zI (wrapF .i64 (Int.sub (wrapF .i64 (Int.add z3 (1:Int))) (Int.ofNat k3))))]) none fun v=>some (v,(hp 1 [oC q3])))) (call_eq h28) (eE)) ?_
     refine .ghs (fr 45 [(4,zI z3),(27,sc 0 0 1 n1 c1),(28,zI z4),(29,(zI (Int.ofNat k3))),(43,(zB (nt b1)))]) (hp 1 [oC q3]) (.k [0] [] [.tmp 27 false] [4,27,28,29,43] ⟨trF h23,trivial⟩) ?_
     replace hm:=bb_cases hm;rcases hm with ⟨h29,hm⟩ | ⟨h29,hm⟩
     ·refine .ifT (nt b1) (by kernel_rfl) h29 ?_
      refine .then (.rK ?_)
      refine .ghs (fr 45 [(2,zB false)]) (hp 0 []) (.k0 [] [] [2]) ?_
      refine .ret ?_
      exact fin_ret (zB false) (by kernel_rfl) (by kernel_rfl) hm
     ·refine .ifF (nt b1) (by kernel_rfl) h29 ?_
      refine .skip ?_
      refine .ghs (fr 45 [(4,zI z3),(27,sc 0 0 1 n1 c1),(28,zI z4),(29,(zI (Int.ofNat k3)))]) (hp 1 [oC q3]) (.k [0] [] [.tmp 27 false] [4,27,28,29] ⟨trF h23,trivial⟩) ?_
      refine .rK ?_
      exact ⟨(z3,n1,c1,z4,(wrapF .i64 (Int.add (Int.ofNat k3) (1:Int))),q3),hm,(.k [0] [] [.tmp 27 false] [4,27,28,29] ⟨trF h23,trivial⟩)⟩
    ·refine .ifF (ilt z5 z4) (by kernel_rfl) h24 ?_
     refine .exit ?_
     exact ⟨(),hm,(.k0 [] [] [])⟩
end
end Go.HzBM
