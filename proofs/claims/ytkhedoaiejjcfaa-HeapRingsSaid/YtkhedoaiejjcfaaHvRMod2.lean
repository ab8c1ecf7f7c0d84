/- Made from wip. -/
import Derived.Test.YtkhedoaiejjcfaaHvRMod1x

set_option maxRecDepth 100000
set_option maxHeartbeats 20000000
set_option linter.unusedVariables false
namespace Go.HvRM
open Go.Sp Go.HvR
noncomputable section
def m7_0 (pu:PureF) (n:Nat) (z0:Int):OV:=
 (some (.tuple ⟨[.int .i64 z0,(.int .i64 (0:Int))]⟩))
def m7_2 (pu:PureF) (n:Nat) (ih0:Int→Sl→Sl→Int→OV) (z0:Int) (s0 s1:Sl) (z1:Int):OV:=
 (ih0 z0 s0 s1 (wrapF .i64 (Int.add z1 (1:Int))))
def b7_1 (pu:PureF) (n:Nat) (ih0:Int→Sl→Sl→Int→OV) (z0:Int) (s0 s1:Sl) (z1:Int):OV:=
 (bb (ilt z1 (Int.ofNat (Sl.n s1))) (oo (toN z1) none fun k1=>(bb (an (Nat.blt k1 (Sl.n s1)) true) (oo (nthL (Sl.cs s1) (k1 * 1)) none fun v0=>(oo (toSl 1 v0) none fun s2=>(oo (pu 28 [Sl.v 1 s2]) none fun v1=>(oo (toSl 1 v1) none fun s3=>(bb (an (Nat.blt 0 (Sl.n s3)) true) (oo (nthL (Sl.cs s3) (0 * 1)) none fun v2=>(oo (toSl 1 v2) none fun s4=>(oo (pu 31 [Sl.v 1 s4,Sl.v 1 s0]) none fun v3=>(oo (vBool v3) none fun b0=>(bb b0 (m7_2 pu n ih0 (wrapF .i64 (Int.add z0 (1:Int))) s0 s1 (Int.ofNat k1)) (m7_2 pu n ih0 z0 s0 s1 (Int.ofNat k1))))))) none))))) none)) (m7_0 pu n z0))
def l7_1 (pu:PureF) (n w:Nat):Int→Sl→Sl→Int→OV:=
 Nat.rec (motive:=fun _=>Int→Sl→Sl→Int→OV) (fun _ _ _ _=>none) (fun _ ih0=>b7_1 pu n ih0) w
def m7_ (pu:PureF) (n:Nat) (s0:Sl):OV:=
 (oo (pu 27 [Sl.v 1 s0]) none fun v0=>(oo (toI .i64 v0) none fun x0=>(bb (nt (ieq x0 (0:Int))) (some (.tuple ⟨[(.int .i64 (0:Int)),.int .i64 x0]⟩)) (oo (pu 28 [Sl.v 1 s0]) none fun v1=>(oo (toSl 1 v1) none fun s1=>(bb (an (Nat.blt 0 (Sl.n s1)) true) (oo (nthL (Sl.cs s1) (0 * 1)) none fun v2=>(oo (toSl 1 v2) none fun s2=>(oo (pu 30 [Sl.v 1 s0]) none fun v3=>(oo (toI .i64 v3) none fun x1=>(oo (pu 29 [.int .i64 x1,(.int .i64 (21:Int))]) none fun v4=>(oo (toSl 1 v4) none fun s3=>(l7_1 pu n n (0:Int) s2 s3 (0:Int)))))))) none))))))
def m7 (pu:PureF) (n:Nat) (args:LV):OV:=
 (ll args none fun a0 args=>(ll args (oo (toSl 1 a0) none fun s0=>(m7_ pu n s0)) fun _ _=>none))
theorem w7_0 (pu:PureF) (n:Nat) (z0:Int) {v:Value} (hm:m7_0 pu n z0 = some v):Run tt (callP tabs isP pu (inl pu)) 0 c7_26 (fr 39 [(5,zI z0)]) (hp 0 []) (Fin tt 0 [.tmp 2,.tmp 3] v):=by
 unfold m7_0 at hm
 refine .then (.rK ?_)
 refine .ghs (fr 39 [(2,zI z0),(3,(zI (0:Int)))]) (hp 0 []) (.k0 [] [] [2,3]) ?_
 refine .ret ?_
 exact fin_ret (.tuple ⟨[zI z0,(zI (0:Int))]⟩) (by kernel_rfl) (by kernel_rfl) hm
theorem r7 {call:CallF} (pu:PureF) (n:Nat) (hcall:call = callP tabs isP pu (inl pu)) {args:LV} {v:Value} (hm:m7 pu n args = some v) (_:∀ x ∈ args,closed2 x = true):args.length≤39∧Run tt call 0 c7_33 (Fr.made 39 args) (pureHeap tabs) (Fin tt 0 [.tmp 2,.tmp 3] v):=by
 subst hcall
 unfold m7 at hm
 replace hm:=ll_uncons hm;obtain ⟨a0,args_0,rfl,hm⟩:=hm
 replace hm:=ll_end hm;obtain ⟨rfl,hm⟩:=hm
 replace hm:=inv_toSl hm;obtain ⟨s0,rfl,hm⟩:=hm
 unfold m7_ at hm
 refine ⟨by simp,?_⟩
 refine .same (F':=(fr 39 [(0,Sl.v 1 s0)])) (H':=(hp 0 [])) (by kernel_rfl) (by kernel_rfl) ?_
 refine .then (.rK ?_)
 refine .ghs (fr 39 [(0,Sl.v 1 s0)]) (hp 0 []) (.k0 [] [] [0]) ?_
 refine .then ?_
 replace hm:=oo_inv hm;obtain ⟨v0,h0,hm⟩:=hm
 replace hm:=inv_toI hm;obtain ⟨x0,rfl,hm⟩:=hm
 refine .reg (eC 1 ((oo (pu 27 [Sl.v 1 s0]) none fun v=>some (v,(hp 0 [])))) (call_eq h0) (eE)) ?_
 refine .ghs (fr 39 [(0,Sl.v 1 s0),(4,zI x0)]) (hp 0 []) (.k0 [] [] [0,4]) ?_
 refine .then ?_
 refine .then (.rK ?_)
 refine .ghs (fr 39 [(0,Sl.v 1 s0),(4,zI x0),(12,(zB (nt (ieq x0 (0:Int)))))]) (hp 0 []) (.k0 [] [] [0,4,12]) ?_
 replace hm:=bb_cases hm;rcases hm with ⟨h1,hm⟩ | ⟨h1,hm⟩
 ·refine .ifT (nt (ieq x0 (0 : Int))) (by kernel_rfl) h1 ?_
  refine .then (.rK ?_)
  refine .ghs (fr 39 [(2,(zI (0:Int))),(3,zI x0)]) (hp 0 []) (.k0 [] [] [2,3]) ?_
  refine .ret ?_
  exact fin_ret (.tuple ⟨[(zI (0:Int)),zI x0]⟩) (by kernel_rfl) (by kernel_rfl) hm
 ·refine .ifF (nt (ieq x0 (0 : Int))) (by kernel_rfl) h1 ?_
  refine .skip ?_
  refine .ghs (fr 39 [(0,Sl.v 1 s0)]) (hp 0 []) (.k0 [] [] [0]) ?_
  refine .then (.rK ?_)
  refine .ghs (fr 39 [(0,Sl.v 1 s0),(5,(zI (0:Int)))]) (hp 0 []) (.k0 [] [] [0,5]) ?_
  refine .then ?_
  replace hm:=oo_inv hm;obtain ⟨v1,h2,hm⟩:=hm
  replace hm:=inv_toSl hm;obtain ⟨s1,rfl,hm⟩:=hm
  replace hm:=bb_inv hm;obtain ⟨h3,hm⟩:=hm
  replace hm:=oo_inv hm;obtain ⟨v2,h4,hm⟩:=hm
  replace hm:=inv_toSl hm;obtain ⟨s2,rfl,hm⟩:=hm
  refine .reg (eC 1 ((oo (pu 28 [Sl.v 1 s0]) none fun v=>some (v,(hp 0 [])))) (call_eq h2) (eD (keep (hp 0 []) (bb (an (Nat.blt 0 (Sl.n s1)) true) (some (fpV (0 * 1) (Sl.cs s1))) none)) (keep_bb h3) (eD (keep (hp 0 []) (nthL (Sl.cs s1) (0 * 1))) (keep_eq h4) (eE)))) ?_
  refine .ghs (fr 39 [(0,Sl.v 1 s0),(5,(zI (0:Int))),(6,Sl.v 1 s2)]) (hp 0 []) (.k0 [] [] [0,5,6]) ?_
  refine .then ?_
  replace hm:=oo_inv hm;obtain ⟨v3,h5,hm⟩:=hm
  replace hm:=inv_toI hm;obtain ⟨x1,rfl,hm⟩:=hm
  replace hm:=oo_inv hm;obtain ⟨v4,h6,hm⟩:=hm
  replace hm:=inv_toSl hm;obtain ⟨s3,rfl,hm⟩:=hm
  refine .reg (eC 1 ((oo (pu 30 [Sl.v 1 s0]) none fun v=>some (v,(hp 0 [])))) (call_eq h5) (eD ((oo (pu 29 [zI x1,(zI (21:Int))]) none fun v=>some (v,(hp 0 [])))) (call_eq h6) (eE))) ?_
  refine .ghs (fr 39 [(5,(zI (0:Int))),(6,Sl.v 1 s2),(7,Sl.v 1 s3)]) (hp 0 []) (.k0 [] [] [5,6,7]) ?_
  refine .join (v:=v) (fun y:Int=>((fr 39 [(5,zI y)]),(hp 0 []))) (fun y=>m7_0 pu n y) ?_ ?_
  ·rintro z0 hm
   exact w7_0 pu n z0 hm
  ·refine .then (.rK ?_)
   refine .ghs (fr 39 [(5,(zI (0:Int))),(6,Sl.v 1 s2),(7,Sl.v 1 s3),(8,(zI (0:Int)))]) (hp 0 []) (.k0 [] [] [5,6,7,8]) ?_
   refine .block ?_
   refine .loopM (v:=v) (fun y:Int×Sl×Sl×Int=>((fr 39 [(5,(zI y.1)),(6,(Sl.v 1 y.2.1)),(7,(Sl.v 1 y.2.2.1)),(8,(zI y.2.2.2))]),(hp 0 []))) (fun w y=>l7_1 pu n w y.1 y.2.1 y.2.2.1 y.2.2.2) n ⟨((0:Int),s2,s3,(0:Int)),hm,(.k0 [] [] [5,6,7,8])⟩ (fun _=>rfl) ?_
   rintro w0 ⟨z1,s4,s5,z2⟩ hm
   replace hm:b7_1 pu n (l7_1 pu n w0) z1 s4 s5 z2 = some v:=hm
   unfold b7_1 at hm
   refine .then ?_
   refine .then (.rK ?_)
   refine .ghs (fr 39 [(5,zI z1),(6,Sl.v 1 s4),(7,Sl.v 1 s5),(8,zI z2),(24,(zB (ilt z2 (Int.ofNat (Sl.n s5)))))]) (hp 0 []) (.k0 [] [] [5,6,7,8,24]) ?_
   replace hm:=bb_cases hm;rcases hm with ⟨h7,hm⟩ | ⟨h7,hm⟩
   ·refine .ifT (ilt z2 (Int.ofNat (Sl.n s5))) (by kernel_rfl) h7 ?_
    refine .skip ?_
    refine .ghs (fr 39 [(5,zI z1),(6,Sl.v 1 s4),(7,Sl.v 1 s5),(8,zI z2)]) (hp 0 []) (.k0 [] [] [5,6,7,8]) ?_
    refine .join (v:=v) (fun y:Int×Sl×Sl×Int=>((fr 39 [(5,(zI y.1)),(6,(Sl.v 1 y.2.1)),(7,(Sl.v 1 y.2.2.1)),(8,(zI y.2.2.2))]),(hp 0 []))) (fun y=>m7_2 pu n (l7_1 pu n w0) y.1 y.2.1 y.2.2.1 y.2.2.2) ?_ ?_
    ·rintro ⟨z3, s6, s7, z4⟩ hm
     unfold m7_2 at hm
     refine .rK ?_
     exact ⟨(z3,s6,s7,(wrapF .i64 (Int.add z4 (1:Int)))),hm,(.k0 [] [] [5,6,7,8])⟩
    ·refine .block ?_
     refine .then ?_
     replace hm:=oo_inv hm;obtain ⟨k1,h8,hm⟩:=hm
     obtain rfl:=toN_some h8
     replace hm:=bb_inv hm;obtain ⟨h9,hm⟩:=hm
     replace hm:=oo_inv hm;obtain ⟨v5,h10,hm⟩:=hm
     replace hm:=inv_toSl hm;obtain ⟨s8,rfl,hm⟩:=hm
     replace hm:=oo_inv hm;obtain ⟨v6,h11,hm⟩:=hm
     replace hm:=inv_toSl hm;obtain ⟨s9,rfl,hm⟩:=hm
     replace hm:=bb_inv hm;obtain ⟨h12,hm⟩:=hm
     replace hm:=oo_inv hm;obtain ⟨v7,h13,hm⟩:=hm
     replace hm:=inv_toSl hm;obtain ⟨s10,rfl,hm⟩:=hm
     replace hm:=oo_inv hm;obtain ⟨v8,h14,hm⟩:=hm
     replace hm:=inv_vBool hm;obtain ⟨b0,rfl,hm⟩:=hm
     refine .reg (eN 5 (Fr.puts (fr 39 [(5,zI z1),(6,Sl.v 1 s4),(7,Sl.v 1 s5),(8,(zI (Int.ofNat k1)))]) [(27,Sl.v 1 s5),(28,(zI (Int.ofNat k1))),(29,(fpV (k1 * 1) (Sl.cs s5))),(30,Sl.v 1 s8),(31,Sl.v 1 s9)]) (hp 0 []) (eC 2 (keep (hp 0 []) (bb (an (Nat.blt k1 (Sl.n s5)) true) (some (fpV (k1 * 1) (Sl.cs s5))) none)) (keep_bb h9) (eD (keep (hp 0 []) (nthL (Sl.cs s5) (k1 * 1))) (keep_eq h10) (eD ((oo (pu 28 [Sl.v 1 s8]) none fun v=>some (v,(hp 0 [])))) (call_eq h11) (by kernel_rfl)))) (eD (keep (hp 0 []) (bb (an (Nat.blt 0 (Sl.n s9)) true) (some (fpV (0 * 1) (Sl.cs s9))) none)) (keep_bb h12) (eD (keep (hp 0 []) (nthL (Sl.cs s9) (0 * 1))) (keep_eq h13) (eC 1 ((oo (pu 31 [Sl.v 1 s10,Sl.v 1 s4]) none fun v=>some (v,(hp 0 [])))) (call_eq h14) (eE))))) ?_
     refine .ghs (fr 39 [(5,zI z1),(6,Sl.v 1 s4),(7,Sl.v 1 s5),(8,(zI (Int.ofNat k1))),(35,zB b0)]) (hp 0 []) (.k0 [] [] [5,6,7,8,35]) ?_
     replace hm:=bb_cases hm;rcases hm with ⟨h15,hm⟩ | ⟨h15,hm⟩
     ·refine .ifT b0 (by kernel_rfl) h15 ?_
      refine .rK ?_
      exact ⟨((wrapF .i64 (Int.add z1 (1:Int))),s4,s5,(Int.ofNat k1)),hm,(.k0 [] [] [5,6,7,8])⟩
     ·refine .ifF b0 (by kernel_rfl) h15 ?_
      refine .skip ?_
      exact ⟨(z1,s4,s5,(Int.ofNat k1)),hm,(.k0 [] [] [5,6,7,8])⟩
   ·refine .ifF (ilt z2 (Int.ofNat (Sl.n s5))) (by kernel_rfl) h7 ?_
    refine .exit ?_
    exact ⟨z1,hm,(.k0 [] [] [5])⟩
def m9_0 (pu:PureF) (n n0 c0:Nat) (q1:LV):OV:=
 (bb (allL closed1 q1) (bb (an (Nat.ble (0 + n0 * 1) (len q1)) (allL closed1 (takeL (n0 * 1) (dropL 0 q1)))) (some (.tuple ⟨[(Sl.v 1 (Sl.mk n0 0 (takeL (n0 * 1) (dropL 0 q1)))),(.int .i64 (0:Int))]⟩)) none) none)
def m9_2 (pu:PureF) (n:Nat) (ih0:Nat→Nat→Sl→Int→LV→OV) (n0 c0:Nat) (s0:Sl) (z0:Int) (q1:LV):OV:=
 (bb (allL closed1 q1) (ih0 n0 c0 s0 (wrapF .i64 (Int.add z0 (1:Int))) q1) none)
def m9_3 (pu:PureF) (n:Nat) (ih0:Nat→Nat→Sl→Int→LV→OV) (n0 c0:Nat) (s0:Sl) (z0:Int) (b0:Bool) (q1:LV):OV:=
 (bb b0 (oo (toN z0) none fun k1=>(bb (an (Nat.blt k1 (Sl.n s0)) true) (oo (nthL (Sl.cs s0) (k1 * 1)) none fun v0=>(oo (toSl 1 v0) none fun s1=>(oo (pu 28 [Sl.v 1 s1]) none fun v1=>(oo (toSl 1 v1) none fun s2=>(bb (growC 1 24 n0 c0 1 q1) (bb (allL closed1 (appL (dropL 0 q1) [Sl.v 1 s2])) (m9_2 pu n ih0 (n0 + 1) (2 * (n0 + 1) + bb false 1 0) s0 (Int.ofNat k1) (appL (dropL 0 q1) [Sl.v 1 s2])) none) none))))) none)) (bb (allL closed1 q1) (m9_2 pu n ih0 n0 c0 s0 z0 q1) none))
def b9_1 (pu:PureF) (n:Nat) (ih0:Nat→Nat→Sl→Int→LV→OV) (n0 c0:Nat) (s0:Sl) (z0:Int) (q1:LV):OV:=
 (bb (allL closed1 q1) (bb (ilt z0 (Int.ofNat (Sl.n s0))) (oo (toN z0) none fun k1=>(bb (an (Nat.blt k1 (Sl.n s0)) true) (oo (nthL (Sl.cs s0) (k1 * 1)) none fun v0=>(oo (toSl 1 v0) none fun s1=>(oo (pu 44 [Sl.v 1 s1]) none fun v1=>(oo (vBool v1) none fun b0=>(bb b0 (bb (an (Nat.blt k1 (Sl.n s0)) true) (oo (nthL (Sl.cs s0) (k1 * 1)) none fun v2=>(oo (toSl 1 v2) none fun s2=>(bb (an (Nat.blt k1 (Sl.n s0)) true) (oo (nthL (Sl.cs s0) (k1 * 1)) none fun v3=>(oo (toSl 1 v3) none fun s3=>(oo (pu 28 [Sl.v 1 s2]) none fun v4=>(oo (toSl 1 v4) none fun s4=>(bb (an (Nat.blt 0 (Sl.n s4)) true) (oo (nthL (Sl.cs s4) (0 * 1)) none fun v5=>(oo (toSl 1 v5) none fun s5=>(oo (pu 31 [Sl.v 1 s5,Sl.v 1 s3]) none fun v6=>(oo (vBool v6) none fun b1=>(m9_3 pu n ih0 n0 c0 s0 (Int.ofNat k1) b1 q1))))) none))))) none))) none) (m9_3 pu n ih0 n0 c0 s0 (Int.ofNat k1) false q1)))))) none)) (m9_0 pu n n0 c0 q1)) none)
def l9_1 (pu:PureF) (n w:Nat):Nat→Nat→Sl→Int→LV→OV:=
 Nat.rec (motive:=fun _=>Nat→Nat→Sl→Int→LV→OV) (fun _ _ _ _ _=>none) (fun _ ih0=>b9_1 pu n ih0) w
def m9_ (pu:PureF) (n:Nat) (x0:Int):OV:=
 (oo (pu 43 [.int .i64 x0,(.int .i64 (1:Int)),(.int .i64 (21:Int))]) none fun v0=>(oo (vBool v0) none fun b0=>(bb (nt b0) (some (.tuple ⟨[(Sl.v 1 (Sl.mk 0 2 [])),(.int .i64 (1:Int))]⟩)) (oo (pu 29 [.int .i64 x0,(.int .i64 (21:Int))]) none fun v1=>(oo (toSl 1 v1) none fun s0=>(l9_1 pu n n 0 0 s0 (0:Int) ([]:LV)))))))
def m9 (pu:PureF) (n:Nat) (args:LV):OV:=
 (ll args none fun a0 args=>(ll args (oo (toI .i64 a0) none fun x0=>(m9_ pu n x0)) fun _ _=>none))
theorem w9_0 (pu:PureF) (n n0 c0:Nat) (q1:LV) {v:Value} (hm:m9_0 pu n n0 c0 q1 = some v):Run tt (callP tabs isP pu (inl pu)) 0 c9_24 (fr 46 [(4,sc 0 0 1 n0 c0)]) (hp 1 [oC q1]) (Fin tt 0 [.tmp 2,.tmp 3] v):=by
 unfold m9_0 at hm
 refine .then (.rK ?_)
 replace hm:=bb_inv hm;obtain ⟨h0,hm⟩:=hm
 refine .ghs (fr 46 [(2,sc 0 0 1 n0 c0),(3,(zI (0:Int)))]) (hp 1 [oC q1]) (.k [0] [] [.tmp 2 false] [2,3] ⟨trF h0,trivial⟩) ?_
 replace hm:=bb_inv hm;obtain ⟨h1,hm⟩:=hm
 refine .ghs (Fr.puts (fr 46 [(2,sc 0 0 1 n0 c0),(3,(zI (0:Int)))]) [(2,(Sl.v 1 (Sl.mk n0 0 (takeL (n0 * 1) (dropL 0 q1)))))]) (hp 1 [.dead]) (.freezeC 0 2 1 (an (Nat.ble (0 + n0 * 1) (len q1)) (allL closed1 (takeL (n0 * 1) (dropL 0 q1)))) (F1:=(Fr.puts (fr 46 [(2,sc 0 0 1 n0 c0),(3,(zI (0:Int)))]) [(2,(Sl.v 1 (Sl.mk n0 0 (takeL (n0 * 1) (dropL 0 q1)))))])) (H1:=(hp 1 [.dead])) (by kernel_rfl) (by kernel_rfl) h1 (GhS.id _ _)) ?_
 refine .ret ?_
 exact fin_ret (.tuple ⟨[(Sl.v 1 (Sl.mk n0 0 (takeL (n0 * 1) (dropL 0 q1)))),(zI (0:Int))]⟩) (by kernel_rfl) (by kernel_rfl) hm
theorem r9 {call:CallF} (pu:PureF) (n:Nat) (hcall:call = callP tabs isP pu (inl pu)) {args:LV} {v:Value} (hm:m9 pu n args = some v) (_:∀ x ∈ args,closed2 x = true):args.length≤46∧Run tt call 0 c9_29 (Fr.made 46 args) (pureHeap tabs) (Fin tt 0 [.tmp 2,.tmp 3] v):=by
 subst hcall
 unfold m9 at hm
 replace hm:=ll_uncons hm;obtain ⟨a0,args_0,rfl,hm⟩:=hm
 replace hm:=ll_end hm;obtain ⟨rfl,hm⟩:=hm
 replace hm:=inv_toI hm;obtain ⟨x0,rfl,hm⟩:=hm
 unfold m9_ at hm
 refine ⟨by simp,?_⟩
 refine .same (F':=(fr 46 [(0,zI x0)])) (H':=(hp 0 [])) (by kernel_rfl) (by kernel_rfl) ?_
 refine .then (.rK ?_)
 refine .ghs (fr 46 [(0,zI x0)]) (hp 0 []) (.k0 [] [] [0]) ?_
 refine .then ?_
 refine .then ?_
 replace hm:=oo_inv hm;obtain ⟨v0,h0,hm⟩:=hm
 replace hm:=inv_vBool hm;obtain ⟨b0,rfl,hm⟩:=hm
 refine .reg (eC 1 ((oo (pu 43 [zI x0,(zI (1:Int)),(zI (21:Int))]) none fun v=>some (v,(hp 0 [])))) (call_eq h0) (eE)) ?_
 refine .ghs (fr 46 [(0,zI x0),(9,(zB (nt b0)))]) (hp 0 []) (.k0 [] [] [0,9]) ?_
 replace hm:=bb_cases hm;rcases hm with ⟨h1,hm⟩ | ⟨h1,hm⟩
 ·refine .ifT (nt b0) (by kernel_rfl) h1 ?_
  refine .then (.rK ?_)
  refine .ghs (fr 46 [(2,(.slice none 0 0)),(3,(zI (1:Int)))]) (hp 0 []) (.k0 [] [] [2,3]) ?_
  refine .ghs (Fr.puts (fr 46 [(2,(.slice none 0 0)),(3,(zI (1:Int)))]) [(2,(Sl.v 1 (Sl.mk 0 2 [])))]) (hp 0 []) (.freeze 0 2 1 (by kernel_rfl) (by kernel_rfl) (GhS.id _ _)) ?_
  refine .ret ?_
  exact fin_ret (.tuple ⟨[(Sl.v 1 (Sl.mk 0 2 [])),(zI (1:Int))]⟩) (by kernel_rfl) (by kernel_rfl) hm
 ·refine .ifF (nt b0) (by kernel_rfl) h1 ?_
  refine .skip ?_
  refine .ghs (fr 46 [(0,zI x0)]) (hp 0 []) (.k0 [] [] [0]) ?_
  refine .then (.rK ?_)
  refine .ghs (fr 46 [(0,zI x0),(4,(.slice none 0 0))]) (hp 0 []) (.k0 [] [] [0,4]) ?_
  refine .then ?_
  replace hm:=oo_inv hm;obtain ⟨v1,h2,hm⟩:=hm
  replace hm:=inv_toSl hm;obtain ⟨s0,rfl,hm⟩:=hm
  refine .reg (eC 1 ((oo (pu 29 [zI x0,(zI (21:Int))]) none fun v=>some (v,(hp 0 [])))) (call_eq h2) (eE)) ?_
  refine .ghs (fr 46 [(4,(.slice none 0 0)),(5,Sl.v 1 s0)]) (hp 0 []) (.k0 [] [] [4,5]) ?_
  refine .join (v:=v) (fun y:Nat×Nat×LV=>((fr 46 [(4,(sc 0 0 1 y.1 y.2.1))]),(hp 1 [(oC y.2.2)]))) (fun y=>m9_0 pu n y.1 y.2.1 y.2.2) ?_ ?_
  ·rintro ⟨n0, c0, q1⟩ hm
   exact w9_0 pu n n0 c0 q1 hm
  ·refine .then (.rK ?_)
   refine .ghs (fr 46 [(4,(.slice none 0 0)),(5,Sl.v 1 s0),(6,(zI (0:Int)))]) (hp 0 []) (.k0 [] [] [4,5,6]) ?_
   refine .block ?_
   refine .loopM (v:=v) (fun y:Nat×Nat×Sl×Int×LV=>((fr 46 [(4,(sc 0 0 1 y.1 y.2.1)),(5,(Sl.v 1 y.2.2.1)),(6,(zI y.2.2.2.1))]),(hp 1 [(oC y.2.2.2.2)]))) (fun w y=>l9_1 pu n w y.1 y.2.1 y.2.2.1 y.2.2.2.1 y.2.2.2.2) n ⟨(0,0,s0,(0:Int),([]:LV)),hm,(.thaw 4 1 (by kernel_rfl) (.k0 [] [.tmp 4 false] [4,5,6]))⟩ (fun _=>rfl) ?_
   rintro w0 ⟨n1,c1,s1,z0,q2⟩ hm
   replace hm:b9_1 pu n (l9_1 pu n w0) n1 c1 s1 z0 q2 = some v:=hm
   unfold b9_1 at hm
   refine .then ?_
   refine .then (.rK ?_)
   replace hm:=bb_inv hm;obtain ⟨h3,hm⟩:=hm
   refine .ghs (fr 46 [(4,sc 0 0 1 n1 c1),(5,Sl.v 1 s1),(6,zI z0),(15,(zB (ilt z0 (Int.ofNat (Sl.n s1)))))]) (hp 1 [oC q2]) (.k [0] [] [.tmp 4 false] [4,5,6,15] ⟨trF h3,trivial⟩) ?_
   replace hm:=bb_cases hm;rcases hm with ⟨h4,hm⟩ | ⟨h4,hm⟩
   ·refine .ifT (ilt z0 (Int.ofNat (Sl.n s1))) (by kernel_rfl) h4 ?_
    refine .skip ?_
    refine .ghs (fr 46 [(4,sc 0 0 1 n1 c1),(5,Sl.v 1 s1),(6,zI z0)]) (hp 1 [oC q2]) (.k [0] [] [.tmp 4 false] [4,5,6] ⟨trF h3,trivial⟩) ?_
    refine .join (v:=v) (fun y:Nat×Nat×Sl×Int×LV=>((fr 46 [(4,(sc 0 0 1 y.1 y.2.1)),(5,(Sl.v 1 y.2.2.1)),(6,(zI y.2.2.2.1))]),(hp 1 [(oC y.2.2.2.2)]))) (fun y=>m9_2 pu n (l9_1 pu n w0) y.1 y.2.1 y.2.2.1 y.2.2.2.1 y.2.2.2.2) ?_ ?_
    ·rintro ⟨n2, c2, s2, z1, q3⟩ hm
     unfold m9_2 at hm
     refine .rK ?_
     replace hm:=bb_inv hm;obtain ⟨h5,hm⟩:=hm
     exact ⟨(n2,c2,s2,(wrapF .i64 (Int.add z1 (1:Int))),q3),hm,(.k [0] [] [.tmp 4 false] [4,5,6] ⟨trF h5,trivial⟩)⟩
    ·refine .block ?_
     refine .join (v:=v) (fun y:Nat×Nat×Sl×Int×Bool×LV=>((fr 46 [(4,(sc 0 0 1 y.1 y.2.1)),(5,(Sl.v 1 y.2.2.1)),(6,(zI y.2.2.2.1)),(36,(zB y.2.2.2.2.1))]),(hp 1 [(oC y.2.2.2.2.2)]))) (fun y=>m9_3 pu n (l9_1 pu n w0) y.1 y.2.1 y.2.2.1 y.2.2.2.1 y.2.2.2.2.1 y.2.2.2.2.2) ?_ ?_
     ·rintro ⟨n3, c99, s3, z2, b1, q4⟩ hm
      unfold m9_3 at hm
      replace hm:=bb_cases hm;rcases hm with ⟨h6,hm⟩ | ⟨h6,hm⟩
      ·refine .ifT b1 (by kernel_rfl) h6 ?_
       replace hm:=oo_inv hm;obtain ⟨k1,h7,hm⟩:=hm
       obtain rfl:=toN_some h7
       replace hm:=bb_inv hm;obtain ⟨h8,hm⟩:=hm
       replace hm:=oo_inv hm;obtain ⟨v2,h9,hm⟩:=hm
       replace hm:=inv_toSl hm;obtain ⟨s4,rfl,hm⟩:=hm
       replace hm:=oo_inv hm;obtain ⟨v3,h10,hm⟩:=hm
       replace hm:=inv_toSl hm;obtain ⟨s5,rfl,hm⟩:=hm
       replace hm:=bb_inv hm;obtain ⟨h11,hm⟩:=hm
       refine .reg (eC 3 (keep (hp 1 [oC q4]) (bb (an (Nat.blt k1 (Sl.n s3)) true) (some (fpV (k1 * 1) (Sl.cs s3))) none)) (keep_bb h8) (eD (keep (hp 1 [oC q4]) (nthL (Sl.cs s3) (k1 * 1))) (keep_eq h9) (eD ((oo (pu 28 [Sl.v 1 s4]) none fun v=>some (v,(hp 1 [oC q4])))) (call_eq h10) (eC 1 (growD 1 24 n3 c99 1 0 q4 [Sl.v 1 s5] [] (hp 2 [oC q4,(oC [Sl.v 1 s5])])) (growD_eq h11) (eE))))) ?_
       replace hm:=bb_inv hm;obtain ⟨h12,hm⟩:=hm
       exact ⟨((n3 + 1),(d2 (n3 + 1)),s3,(Int.ofNat k1),(appL (dropL 0 q4) [Sl.v 1 s5])),hm,(.k [2] [] [.tmp 4 false] [4,5,6] ⟨trF h12,trivial⟩)⟩
      ·refine .ifF b1 (by kernel_rfl) h6 ?_
       refine .skip ?_
       replace hm:=bb_inv hm;obtain ⟨h13,hm⟩:=hm
       exact ⟨(n3,c99,s3,z2,q4),hm,(.k [0] [] [.tmp 4 false] [4,5,6] ⟨trF h13,trivial⟩)⟩
     ·replace hm := oo_inv hm; obtain ⟨k2, h14, hm⟩ := hm
      obtain rfl:=toN_some h14
      replace hm:=bb_inv hm;obtain ⟨h15,hm⟩:=hm
      replace hm:=oo_inv hm;obtain ⟨v4,h16,hm⟩:=hm
      replace hm:=inv_toSl hm;obtain ⟨s6,rfl,hm⟩:=hm
      replace hm:=oo_inv hm;obtain ⟨v5,h17,hm⟩:=hm
      replace hm:=inv_vBool hm;obtain ⟨b2,rfl,hm⟩:=hm
      replace hm:=bb_cases hm;rcases hm with ⟨h18,hm⟩ | ⟨h18,hm⟩
      ·replace hm := bb_inv hm; obtain ⟨h19, hm⟩ := hm
       replace hm:=oo_inv hm;obtain ⟨v6,h20,hm⟩:=hm
       replace hm:=inv_toSl hm;obtain ⟨s7,rfl,hm⟩:=hm
       replace hm:=bb_inv hm;obtain ⟨h21,hm⟩:=hm
       replace hm:=oo_inv hm;obtain ⟨v7,h22,hm⟩:=hm
       replace hm:=inv_toSl hm;obtain ⟨s8,rfl,hm⟩:=hm
       replace hm:=oo_inv hm;obtain ⟨v8,h23,hm⟩:=hm
       replace hm:=inv_toSl hm;obtain ⟨s9,rfl,hm⟩:=hm
       replace hm:=bb_inv hm;obtain ⟨h24,hm⟩:=hm
       replace hm:=oo_inv hm;obtain ⟨v9,h25,hm⟩:=hm
       replace hm:=inv_toSl hm;obtain ⟨s10,rfl,hm⟩:=hm
       replace hm:=oo_inv hm;obtain ⟨v10,h26,hm⟩:=hm
       replace hm:=inv_vBool hm;obtain ⟨b99,rfl,hm⟩:=hm
       refine .reg (eN 5 (Fr.puts (fr 46 [(4,sc 0 0 1 n1 c1),(5,Sl.v 1 s1),(6,(zI (Int.ofNat k2)))]) [(18,Sl.v 1 s1),(19,(zI (Int.ofNat k2))),(20,(fpV (k2 * 1) (Sl.cs s1))),(21,Sl.v 1 s6),(22,zB true)]) (hp 1 [oC q2]) (eC 2 (keep (hp 1 [oC q2]) (bb (an (Nat.blt k2 (Sl.n s1)) true) (some (fpV (k2 * 1) (Sl.cs s1))) none)) (keep_bb h15) (eD (keep (hp 1 [oC q2]) (nthL (Sl.cs s1) (k2 * 1))) (keep_eq h16) (eD ((oo (pu 44 [Sl.v 1 s6]) none fun v=>some (v,(hp 1 [oC q2])))) (show _ = some ((zB true),_) from (by have hz:(oo (pu 44 [Sl.v 1 s6]) none fun v=>some (v,(hp 1 [oC q2]))) = some ((zB b2),(hp 1 [oC q2])):=(call_eq h17);rw [h18] at hz;exact hz)) (by kernel_rfl)))) (eN 8 (Fr.puts (fr 46 [(4,sc 0 0 1 n1 c1),(5,Sl.v 1 s1),(6,(zI (Int.ofNat k2)))]) [(18,Sl.v 1 s1),(19,(zI (Int.ofNat k2))),(20,(fpV (k2 * 1) (Sl.cs s1))),(21,Sl.v 1 s6),(22,zB true),(23,zB true),(24,Sl.v 1 s1),(25,(zI (Int.ofNat k2))),(26,(fpV (k2 * 1) (Sl.cs s1))),(27,Sl.v 1 s7),(31,Sl.v 1 s1),(32,(zI (Int.ofNat k2))),(33,(fpV (k2 * 1) (Sl.cs s1)))]) (hp 1 [oC q2]) (eC 3 (keep (hp 1 [oC q2]) (bb (an (Nat.blt k2 (Sl.n s1)) true) (some (fpV (k2 * 1) (Sl.cs s1))) none)) (keep_bb h19) (eD (keep (hp 1 [oC q2]) (nthL (Sl.cs s1) (k2 * 1))) (keep_eq h20) (eC 2 (keep (hp 1 [oC q2]) (bb (an (Nat.blt k2 (Sl.n s1)) true) (some (fpV (k2 * 1) (Sl.cs s1))) none)) (keep_bb h21) (by kernel_rfl)))) (eD (keep (hp 1 [oC q2]) (nthL (Sl.cs s1) (k2 * 1))) (keep_eq h22) (eD ((oo (pu 28 [Sl.v 1 s7]) none fun v=>some (v,(hp 1 [oC q2])))) (call_eq h23) (eD (keep (hp 1 [oC q2]) (bb (an (Nat.blt 0 (Sl.n s9)) true) (some (fpV (0 * 1) (Sl.cs s9))) none)) (keep_bb h24) (eD (keep (hp 1 [oC q2]) (nthL (Sl.cs s9) (0 * 1))) (keep_eq h25) (eD ((oo (pu 31 [Sl.v 1 s10,Sl.v 1 s8]) none fun v=>some (v,(hp 1 [oC q2])))) (call_eq h26) (eE)))))))) ?_
       exact ⟨(n1,c1,s1,(Int.ofNat k2),b99,q2),hm,(.k [0] [] [.tmp 4 false] [4,5,6,36] ⟨trF h3,trivial⟩)⟩
      ·refine .reg (eC 2 (keep (hp 1 [oC q2]) (bb (an (Nat.blt k2 (Sl.n s1)) true) (some (fpV (k2 * 1) (Sl.cs s1))) none)) (keep_bb h15) (eD (keep (hp 1 [oC q2]) (nthL (Sl.cs s1) (k2 * 1))) (keep_eq h16) (eD ((oo (pu 44 [Sl.v 1 s6]) none fun v => some (v, (hp 1 [oC q2])))) (show _ = some ((zB false), _) from (by have hz : (oo (pu 44 [Sl.v 1 s6]) none fun v => some (v, (hp 1 [oC q2]))) = some ((zB b2), (hp 1 [oC q2])) := (call_eq h17); rw [h18] at hz; exact hz)) (eE)))) ?_
       exact ⟨(n1,c1,s1,(Int.ofNat k2),false,q2),hm,(.k [0] [] [.tmp 4 false] [4,5,6,36] ⟨trF h3,trivial⟩)⟩
   ·refine .ifF (ilt z0 (Int.ofNat (Sl.n s1))) (by kernel_rfl) h4 ?_
    refine .exit ?_
    exact ⟨(n1,c1,q2),hm,(.k [0] [] [.tmp 4 false] [4] ⟨trF h3,trivial⟩)⟩
def m10_0 (pu:PureF) (n:Nat):OV:=
 (some (.bool true))
def b10_1 (pu:PureF) (n:Nat) (ih0:Sl→Sl→Int→OV) (s0 s1:Sl) (z0:Int):OV:=
 (bb (ilt z0 (Int.ofNat (Sl.n s0))) (oo (toN z0) none fun k1=>(bb (an (Nat.blt k1 (Sl.n s0)) true) (oo (nthL (Sl.cs s0) (k1 * 1)) none fun v0=>(oo (toSl 1 v0) none fun s2=>(bb (an (Nat.blt k1 (Sl.n s1)) true) (oo (nthL (Sl.cs s1) (k1 * 1)) none fun v1=>(oo (toSl 1 v1) none fun s3=>(oo (pu 21 [Sl.v 1 s2,Sl.v 1 s3]) none fun v2=>(oo (vBool v2) none fun b0=>(bb (nt b0) (some (.bool false)) (ih0 s0 s1 (wrapF .i64 (Int.add (Int.ofNat k1) (1:Int))))))))) none))) none)) (m10_0 pu n))
def l10_1 (pu:PureF) (n w:Nat):Sl→Sl→Int→OV:=
 Nat.rec (motive:=fun _=>Sl→Sl→Int→OV) (fun _ _ _=>none) (fun _ ih0=>b10_1 pu n ih0) w
def m10_ (pu:PureF) (n:Nat) (s0 s1:Sl):OV:=
 (bb (nt (ieq (Int.ofNat (Sl.n s0)) (Int.ofNat (Sl.n s1)))) (some (.bool false)) (l10_1 pu n n s0 s1 (0:Int)))
def m10 (pu:PureF) (n:Nat) (args:LV):OV:=
 (ll args none fun a0 args=>(ll args none fun a1 args=>(ll args (oo (toSl 1 a0) none fun s0=>(oo (toSl 1 a1) none fun s1=>(m10_ pu n s0 s1))) fun _ _=>none)))
theorem w10_0 (pu:PureF) (n:Nat) {v:Value} (hm:m10_0 pu n = some v):Run tt (callP tabs isP pu (inl pu)) 0 c10_23 (fr 27 []) (hp 0 []) (Fin tt 0 [.tmp 4] v):=by
 unfold m10_0 at hm
 refine .then (.rK ?_)
 refine .ghs (fr 27 [(4,zB true)]) (hp 0 []) (.k0 [] [] [4]) ?_
 refine .ret ?_
 exact fin_ret (zB true) (by kernel_rfl) (by kernel_rfl) hm
theorem r10 {call:CallF} (pu:PureF) (n:Nat) (hcall:call = callP tabs isP pu (inl pu)) {args:LV} {v:Value} (hm:m10 pu n args = some v) (_:∀ x ∈ args,closed2 x = true):args.length≤27∧Run tt call 0 c10_26 (Fr.made 27 args) (pureHeap tabs) (Fin tt 0 [.tmp 4] v):=by
 subst hcall
 unfold m10 at hm
 replace hm:=ll_uncons hm;obtain ⟨a0,args_0,rfl,hm⟩:=hm
 replace hm:=ll_uncons hm;obtain ⟨a1,args_1,rfl,hm⟩:=hm
 replace hm:=ll_end hm;obtain ⟨rfl,hm⟩:=hm
 replace hm:=inv_toSl hm;obtain ⟨s0,rfl,hm⟩:=hm
 replace hm:=inv_toSl hm;obtain ⟨s1,rfl,hm⟩:=hm
 unfold m10_ at hm
 refine ⟨by simp,?_⟩
 refine .same (F':=(fr 27 [(0,Sl.v 1 s0),(1,Sl.v 1 s1)])) (H':=(hp 0 [])) (by kernel_rfl) (by kernel_rfl) ?_
 refine .then (.rK ?_)
 refine .ghs (fr 27 [(0,Sl.v 1 s0),(1,Sl.v 1 s1)]) (hp 0 []) (.k0 [] [] [0,1]) ?_
 refine .then ?_
 refine .then (.rK ?_)
 refine .ghs (fr 27 [(0,Sl.v 1 s0),(1,Sl.v 1 s1),(10,(zB (nt (ieq (Int.ofNat (Sl.n s0)) (Int.ofNat (Sl.n s1))))))]) (hp 0 []) (.k0 [] [] [0,1,10]) ?_
 replace hm:=bb_cases hm;rcases hm with ⟨h0,hm⟩ | ⟨h0,hm⟩
 ·refine .ifT (nt (ieq (Int.ofNat (Sl.n s0)) (Int.ofNat (Sl.n s1)))) (by kernel_rfl) h0 ?_
  refine .then (.rK ?_)
  refine .ghs (fr 27 [(4,zB false)]) (hp 0 []) (.k0 [] [] [4]) ?_
  refine .ret ?_
  exact fin_ret (zB false) (by kernel_rfl) (by kernel_rfl) hm
 ·refine .ifF (nt (ieq (Int.ofNat (Sl.n s0)) (Int.ofNat (Sl.n s1)))) (by kernel_rfl) h0 ?_
  refine .skip ?_
  refine .ghs (fr 27 [(0,Sl.v 1 s0),(1,Sl.v 1 s1)]) (hp 0 []) (.k0 [] [] [0,1]) ?_
  refine .join (v:=v) (fun y:Unit=>((fr 27 []),(hp 0 []))) (fun y=>m10_0 pu n) ?_ ?_
  ·rintro _ hm
   exact w10_0 pu n hm
  ·refine .then (.rK ?_)
   refine .ghs (fr 27 [(0,Sl.v 1 s0),(1,Sl.v 1 s1),(5,(zI (0:Int)))]) (hp 0 []) (.k0 [] [] [0,1,5]) ?_
   refine .block ?_
   refine .loopM (v:=v) (fun y:Sl×Sl×Int=>((fr 27 [(0,(Sl.v 1 y.1)),(1,(Sl.v 1 y.2.1)),(5,(zI y.2.2))]),(hp 0 []))) (fun w y=>l10_1 pu n w y.1 y.2.1 y.2.2) n ⟨(s0,s1,(0:Int)),hm,(.k0 [] [] [0,1,5])⟩ (fun _=>rfl) ?_
   rintro w0 ⟨s2,s3,z0⟩ hm
   replace hm:b10_1 pu n (l10_1 pu n w0) s2 s3 z0 = some v:=hm
   unfold b10_1 at hm
   refine .then ?_
   refine .then (.rK ?_)
   refine .ghs (fr 27 [(0,Sl.v 1 s2),(1,Sl.v 1 s3),(5,zI z0),(14,(zB (ilt z0 (Int.ofNat (Sl.n s2)))))]) (hp 0 []) (.k0 [] [] [0,1,5,14]) ?_
   replace hm:=bb_cases hm;rcases hm with ⟨h1,hm⟩ | ⟨h1,hm⟩
   ·refine .ifT (ilt z0 (Int.ofNat (Sl.n s2))) (by kernel_rfl) h1 ?_
    refine .skip ?_
    refine .ghs (fr 27 [(0,Sl.v 1 s2),(1,Sl.v 1 s3),(5,zI z0)]) (hp 0 []) (.k0 [] [] [0,1,5]) ?_
    refine .then ?_
    refine .block ?_
    refine .then ?_
    replace hm:=oo_inv hm;obtain ⟨k1,h2,hm⟩:=hm
    obtain rfl:=toN_some h2
    replace hm:=bb_inv hm;obtain ⟨h3,hm⟩:=hm
    replace hm:=oo_inv hm;obtain ⟨v0,h4,hm⟩:=hm
    replace hm:=inv_toSl hm;obtain ⟨s4,rfl,hm⟩:=hm
    replace hm:=bb_inv hm;obtain ⟨h5,hm⟩:=hm
    replace hm:=oo_inv hm;obtain ⟨v1,h6,hm⟩:=hm
    replace hm:=inv_toSl hm;obtain ⟨s5,rfl,hm⟩:=hm
    replace hm:=oo_inv hm;obtain ⟨v2,h7,hm⟩:=hm
    replace hm:=inv_vBool hm;obtain ⟨b0,rfl,hm⟩:=hm
    refine .reg (eC 2 (keep (hp 0 []) (bb (an (Nat.blt k1 (Sl.n s2)) true) (some (fpV (k1 * 1) (Sl.cs s2))) none)) (keep_bb h3) (eD (keep (hp 0 []) (nthL (Sl.cs s2) (k1 * 1))) (keep_eq h4) (eC 2 (keep (hp 0 []) (bb (an (Nat.blt k1 (Sl.n s3)) true) (some (fpV (k1 * 1) (Sl.cs s3))) none)) (keep_bb h5) (eD (keep (hp 0 []) (nthL (Sl.cs s3) (k1 * 1))) (keep_eq h6) (eD ((oo (pu 21 [Sl.v 1 s4,Sl.v 1 s5]) none fun v=>some (v,(hp 0 [])))) (call_eq h7) (eE)))))) ?_
    refine .ghs (fr 27 [(0,Sl.v 1 s2),(1,Sl.v 1 s3),(5,(zI (Int.ofNat k1))),(26,(zB (nt b0)))]) (hp 0 []) (.k0 [] [] [0,1,5,26]) ?_
    replace hm:=bb_cases hm;rcases hm with ⟨h8,hm⟩ | ⟨h8,hm⟩
    ·refine .ifT (nt b0) (by kernel_rfl) h8 ?_
     refine .then (.rK ?_)
     refine .ghs (fr 27 [(4,zB false)]) (hp 0 []) (.k0 [] [] [4]) ?_
     refine .ret ?_
     exact fin_ret (zB false) (by kernel_rfl) (by kernel_rfl) hm
    ·refine .ifF (nt b0) (by kernel_rfl) h8 ?_
     refine .skip ?_
     refine .ghs (fr 27 [(0,Sl.v 1 s2),(1,Sl.v 1 s3),(5,(zI (Int.ofNat k1)))]) (hp 0 []) (.k0 [] [] [0,1,5]) ?_
     refine .rK ?_
     exact ⟨(s2,s3,(wrapF .i64 (Int.add (Int.ofNat k1) (1:Int)))),hm,(.k0 [] [] [0,1,5])⟩
   ·refine .ifF (ilt z0 (Int.ofNat (Sl.n s2))) (by kernel_rfl) h1 ?_
    refine .exit ?_
    exact ⟨(),hm,(.k0 [] [] [])⟩
def m21_0 (pu:PureF) (n:Nat):OV:=
 (some (.bool true))
def b21_1 (pu:PureF) (n:Nat) (ih0:Sl→Sl→Int→OV) (s0 s1:Sl) (z0:Int):OV:=
 (bb (ilt z0 (Int.ofNat (Sl.n s0))) (oo (toN z0) none fun k1=>(bb (an (Nat.blt k1 (Sl.n s0)) true) (oo (nthL (Sl.cs s0) (k1 * 1)) none fun v0=>(oo (toI .i64 v0) none fun x0=>(bb (an (Nat.blt k1 (Sl.n s1)) true) (oo (nthL (Sl.cs s1) (k1 * 1)) none fun v1=>(oo (toI .i64 v1) none fun x1=>(bb (nt (ieq x0 x1)) (some (.bool false)) (ih0 s0 s1 (wrapF .i64 (Int.add (Int.ofNat k1) (1:Int))))))) none))) none)) (m21_0 pu n))
def l21_1 (pu:PureF) (n w:Nat):Sl→Sl→Int→OV:=
 Nat.rec (motive:=fun _=>Sl→Sl→Int→OV) (fun _ _ _=>none) (fun _ ih0=>b21_1 pu n ih0) w
def m21_ (pu:PureF) (n:Nat) (s0 s1:Sl):OV:=
 (bb (nt (ieq (Int.ofNat (Sl.n s0)) (Int.ofNat (Sl.n s1)))) (some (.bool false)) (l21_1 pu n n s0 s1 (0:Int)))
def m21 (pu:PureF) (n:Nat) (args:LV):OV:=
 (ll args none fun a0 args=>(ll args none fun a1 args=>(ll args (oo (toSl 1 a0) none fun s0=>(oo (toSl 1 a1) none fun s1=>(m21_ pu n s0 s1))) fun _ _=>none)))
theorem w21_0 (pu:PureF) (n:Nat) {v:Value} (hm:m21_0 pu n = some v):Run tt (callP tabs isP pu (inl pu)) 0 c21_23 (fr 26 []) (hp 0 []) (Fin tt 0 [.tmp 4] v):=by
 unfold m21_0 at hm
 refine .then (.rK ?_)
 refine .ghs (fr 26 [(4,zB true)]) (hp 0 []) (.k0 [] [] [4]) ?_
 refine .ret ?_
 exact fin_ret (zB true) (by kernel_rfl) (by kernel_rfl) hm
theorem r21 {call:CallF} (pu:PureF) (n:Nat) (hcall:call = callP tabs isP pu (inl pu)) {args:LV} {v:Value} (hm:m21 pu n args = some v) (_:∀ x ∈ args,closed2 x = true):args.length≤26∧Run tt call 0 c21_26 (Fr.made 26 args) (pureHeap tabs) (Fin tt 0 [.tmp 4] v):=by
 subst hcall
 unfold m21 at hm
 replace hm:=ll_uncons hm;obtain ⟨a0,args_0,rfl,hm⟩:=hm
 replace hm:=ll_uncons hm;obtain ⟨a1,args_1,rfl,hm⟩:=hm
 replace hm:=ll_end hm;obtain ⟨rfl,hm⟩:=hm
 replace hm:=inv_toSl hm;obtain ⟨s0,rfl,hm⟩:=hm
 replace hm:=inv_toSl hm;obtain ⟨s1,rfl,hm⟩:=hm
 unfold m21_ at hm
 refine ⟨by simp,?_⟩
 refine .same (F':=(fr 26 [(0,Sl.v 1 s0),(1,Sl.v 1 s1)])) (H':=(hp 0 [])) (by kernel_rfl) (by kernel_rfl) ?_
 refine .then (.rK ?_)
 refine .ghs (fr 26 [(0,Sl.v 1 s0),(1,Sl.v 1 s1)]) (hp 0 []) (.k0 [] [] [0,1]) ?_
 refine .then ?_
 refine .then (.rK ?_)
 refine .ghs (fr 26 [(0,Sl.v 1 s0),(1,Sl.v 1 s1),(10,(zB (nt (ieq (Int.ofNat (Sl.n s0)) (Int.ofNat (Sl.n s1))))))]) (hp 0 []) (.k0 [] [] [0,1,10]) ?_
 replace hm:=bb_cases hm;rcases hm with ⟨h0,hm⟩ | ⟨h0,hm⟩
 ·refine .ifT (nt (ieq (Int.ofNat (Sl.n s0)) (Int.ofNat (Sl.n s1)))) (by kernel_rfl) h0 ?_
  refine .then (.rK ?_)
  refine .ghs (fr 26 [(4,zB false)]) (hp 0 []) (.k0 [] [] [4]) ?_
  refine .ret ?_
  exact fin_ret (zB false) (by kernel_rfl) (by kernel_rfl) hm
 ·refine .ifF (nt (ieq (Int.ofNat (Sl.n s0)) (Int.ofNat (Sl.n s1)))) (by kernel_rfl) h0 ?_
  refine .skip ?_
  refine .ghs (fr 26 [(0,Sl.v 1 s0),(1,Sl.v 1 s1)]) (hp 0 []) (.k0 [] [] [0,1]) ?_
  refine .join (v:=v) (fun y:Unit=>((fr 26 []),(hp 0 []))) (fun y=>m21_0 pu n) ?_ ?_
  ·rintro _ hm
   exact w21_0 pu n hm
  ·refine .then (.rK ?_)
   refine .ghs (fr 26 [(0,Sl.v 1 s0),(1,Sl.v 1 s1),(5,(zI (0:Int)))]) (hp 0 []) (.k0 [] [] [0,1,5]) ?_
   refine .block ?_
   refine .loopM (v:=v) (fun y:Sl×Sl×Int=>((fr 26 [(0,(Sl.v 1 y.1)),(1,(Sl.v 1 y.2.1)),(5,(zI y.2.2))]),(hp 0 []))) (fun w y=>l21_1 pu n w y.1 y.2.1 y.2.2) n ⟨(s0,s1,(0:Int)),hm,(.k0 [] [] [0,1,5])⟩ (fun _=>rfl) ?_
   rintro w0 ⟨s2,s3,z0⟩ hm
   replace hm:b21_1 pu n (l21_1 pu n w0) s2 s3 z0 = some v:=hm
   unfold b21_1 at hm
   refine .then ?_
   refine .then (.rK ?_)
   refine .ghs (fr 26 [(0,Sl.v 1 s2),(1,Sl.v 1 s3),(5,zI z0),(14,(zB (ilt z0 (Int.ofNat (Sl.n s2)))))]) (hp 0 []) (.k0 [] [] [0,1,5,14]) ?_
   replace hm:=bb_cases hm;rcases hm with ⟨h1,hm⟩ | ⟨h1,hm⟩
   ·refine .ifT (ilt z0 (Int.ofNat (Sl.n s2))) (by kernel_rfl) h1 ?_
    refine .skip ?_
    refine .ghs (fr 26 [(0,Sl.v 1 s2),(1,Sl.v 1 s3),(5,zI z0)]) (hp 0 []) (.k0 [] [] [0,1,5]) ?_
    refine .then ?_
    refine .block ?_
    refine .then ?_
    replace hm:=oo_inv hm;obtain ⟨k1,h2,hm⟩:=hm
    obtain rfl:=toN_some h2
    replace hm:=bb_inv hm;obtain ⟨h3,hm⟩:=hm
    replace hm:=oo_inv hm;obtain ⟨v0,h4,hm⟩:=hm
    replace hm:=inv_toI hm;obtain ⟨x0,rfl,hm⟩:=hm
    replace hm:=bb_inv hm;obtain ⟨h5,hm⟩:=hm
    replace hm:=oo_inv hm;obtain ⟨v1,h6,hm⟩:=hm
    replace hm:=inv_toI hm;obtain ⟨x1,rfl,hm⟩:=hm
    refine .reg (eC 2 (keep (hp 0 []) (bb (an (Nat.blt k1 (Sl.n s2)) true) (some (fpV (k1 * 1) (Sl.cs s2))) none)) (keep_bb h3) (eD (keep (hp 0 []) (nthL (Sl.cs s2) (k1 * 1))) (keep_eq h4) (eC 2 (keep (hp 0 []) (bb (an (Nat.blt k1 (Sl.n s3)) true) (some (fpV (k1 * 1) (Sl.cs s3))) none)) (keep_bb h5) (eD (keep (hp 0 []) (nthL (Sl.cs s3) (k1 * 1))) (keep_eq h6) (eE))))) ?_
    refine .ghs (fr 26 [(0,Sl.v 1 s2),(1,Sl.v 1 s3),(5,(zI (Int.ofNat k1))),(25,(zB (nt (ieq x0 x1))))]) (hp 0 []) (.k0 [] [] [0,1,5,25]) ?_
    replace hm:=bb_cases hm;rcases hm with ⟨h7,hm⟩ | ⟨h7,hm⟩
    ·refine .ifT (nt (ieq x0 x1)) (by kernel_rfl) h7 ?_
     refine .then (.rK ?_)
     refine .ghs (fr 26 [(4,zB false)]) (hp 0 []) (.k0 [] [] [4]) ?_
     refine .ret ?_
     exact fin_ret (zB false) (by kernel_rfl) (by kernel_rfl) hm
    ·refine .ifF (nt (ieq x0 x1)) (by kernel_rfl) h7 ?_
     refine .skip ?_
     refine .ghs (fr 26 [(0,Sl.v 1 s2),(1,Sl.v 1 s3),(5,(zI (Int.ofNat k1)))]) (hp 0 []) (.k0 [] [] [0,1,5]) ?_
     refine .rK ?_
     exact ⟨(s2,s3,(wrapF .i64 (Int.add (Int.ofNat k1) (1:Int)))),hm,(.k0 [] [] [0,1,5])⟩
   ·refine .ifF (ilt z0 (Int.ofNat (Sl.n s2))) (by kernel_rfl) h1 ?_
    refine .exit ?_
    exact ⟨(),hm,(.k0 [] [] [])⟩
def m23_0 (pu:PureF) (n:Nat) (z0:Int):OV:=
 (bb (ilt (21:Int) z0) (some (.int .i64 (3:Int))) (some (.int .i64 (0:Int))))
def b23_1 (pu:PureF) (n:Nat) (ih0:Int→Int→Sl→Int→Int→OV) (z0 z1:Int) (s0:Sl) (z2 z3:Int):OV:=
 (bb (ilt z3 z2) (oo (toN z3) none fun k1=>(bb (an (Nat.blt k1 (Sl.n s0)) true) (oo (nthL (Sl.cs s0) (k1 * 1)) none fun v0=>(oo (toI .i64 v0) none fun x0=>(oo (pu 32 [(.int .i64 (1:Int)),.int .i64 x0,(.int .i64 (21:Int))]) none fun v1=>(oo (vBool v1) none fun b0=>(bb (nt b0) (some (.int .i64 (1:Int))) (bb (ilt z1 x0) (some (.int .i64 (7:Int))) (ih0 (bb (ilt (22:Int) (wrapF .i64 (Int.add z0 x0))) (22:Int) (wrapF .i64 (Int.add z0 x0))) x0 s0 z2 (wrapF .i64 (Int.add (Int.ofNat k1) (1:Int)))))))))) none)) (m23_0 pu n z0))
def l23_1 (pu:PureF) (n w:Nat):Int→Int→Sl→Int→Int→OV:=
 Nat.rec (motive:=fun _=>Int→Int→Sl→Int→Int→OV) (fun _ _ _ _ _=>none) (fun _ ih0=>b23_1 pu n ih0) w
def m23_ (pu:PureF) (n:Nat) (s0:Sl):OV:=
 (bb (ieq (Int.ofNat (Sl.n s0)) (0:Int)) (some (.int .i64 (4:Int))) (l23_1 pu n n (0:Int) (21:Int) s0 (Int.ofNat (Sl.n s0)) (0:Int)))
def m23 (pu:PureF) (n:Nat) (args:LV):OV:=
 (ll args none fun a0 args=>(ll args (oo (toSl 1 a0) none fun s0=>(m23_ pu n s0)) fun _ _=>none))
theorem w23_0 (pu:PureF) (n:Nat) (z0:Int) {v:Value} (hm:m23_0 pu n z0 = some v):Run tt (callP tabs isP pu (inl pu)) 0 c23_42 (fr 32 [(3,zI z0)]) (hp 0 []) (Fin tt 0 [.tmp 2] v):=by
 unfold m23_0 at hm
 refine .then ?_
 refine .then (.rK ?_)
 refine .ghs (fr 32 [(31,(zB (ilt (21:Int) z0)))]) (hp 0 []) (.k0 [] [] [31]) ?_
 replace hm:=bb_cases hm;rcases hm with ⟨h0,hm⟩ | ⟨h0,hm⟩
 ·refine .ifT (ilt (21 : Int) z0) (by kernel_rfl) h0 ?_
  refine .then (.rK ?_)
  refine .ghs (fr 32 [(2,(zI (3:Int)))]) (hp 0 []) (.k0 [] [] [2]) ?_
  refine .ret ?_
  exact fin_ret (zI (3:Int)) (by kernel_rfl) (by kernel_rfl) hm
 ·refine .ifF (ilt (21 : Int) z0) (by kernel_rfl) h0 ?_
  refine .skip ?_
  refine .ghs (fr 32 []) (hp 0 []) (.k0 [] [] []) ?_
  refine .then (.rK ?_)
  refine .ghs (fr 32 [(2,(zI (0:Int)))]) (hp 0 []) (.k0 [] [] [2]) ?_
  refine .ret ?_
  exact fin_ret (zI (0:Int)) (by kernel_rfl) (by kernel_rfl) hm
theorem r23 {call:CallF} (pu:PureF) (n:Nat) (hcall:call = callP tabs isP pu (inl pu)) {args:LV} {v:Value} (hm:m23 pu n args = some v) (_:∀ x ∈ args,closed2 x = true):args.length≤32∧Run tt call 0 c23_46 (Fr.made 32 args) (pureHeap tabs) (Fin tt 0 [.tmp 2] v):=by
 subst hcall
 unfold m23 at hm
 replace hm:=ll_uncons hm;obtain ⟨a0,args_0,rfl,hm⟩:=hm
 replace hm:=ll_end hm;obtain ⟨rfl,hm⟩:=hm
 replace hm:=inv_toSl hm;obtain ⟨s0,rfl,hm⟩:=hm
 unfold m23_ at hm
 refine ⟨by simp,?_⟩
 refine .same (F':=(fr 32 [(0,Sl.v 1 s0)])) (H':=(hp 0 [])) (by kernel_rfl) (by kernel_rfl) ?_
 refine .then (.rK ?_)
 refine .ghs (fr 32 [(0,Sl.v 1 s0)]) (hp 0 []) (.k0 [] [] [0]) ?_
 refine .then ?_
 refine .then (.rK ?_)
 refine .ghs (fr 32 [(0,Sl.v 1 s0),(9,(zB (ieq (Int.ofNat (Sl.n s0)) (0:Int))))]) (hp 0 []) (.k0 [] [] [0,9]) ?_
 replace hm:=bb_cases hm;rcases hm with ⟨h0,hm⟩ | ⟨h0,hm⟩
 ·refine .ifT (ieq (Int.ofNat (Sl.n s0)) (0 : Int)) (by kernel_rfl) h0 ?_
  refine .then (.rK ?_)
  refine .ghs (fr 32 [(2,(zI (4:Int)))]) (hp 0 []) (.k0 [] [] [2]) ?_
  refine .ret ?_
  exact fin_ret (zI (4:Int)) (by kernel_rfl) (by kernel_rfl) hm
 ·refine .ifF (ieq (Int.ofNat (Sl.n s0)) (0 : Int)) (by kernel_rfl) h0 ?_
  refine .skip ?_
  refine .ghs (fr 32 [(0,Sl.v 1 s0)]) (hp 0 []) (.k0 [] [] [0]) ?_
  refine .then (.rK ?_)
  refine .ghs (fr 32 [(0,Sl.v 1 s0),(3,(zI (0:Int))),(4,(zI (21:Int)))]) (hp 0 []) (.k0 [] [] [0,3,4]) ?_
  refine .join (v:=v) (fun y:Int=>((fr 32 [(3,zI y)]),(hp 0 []))) (fun y=>m23_0 pu n y) ?_ ?_
  ·rintro z0 hm
   exact w23_0 pu n z0 hm
  ·refine .then (.rK ?_)
   refine .ghs (fr 32 [(3,(zI (0:Int))),(4,(zI (21:Int))),(10,Sl.v 1 s0),(11,(zI (Int.ofNat (Sl.n s0)))),(12,(zI (0:Int)))]) (hp 0 []) (.k0 [] [] [3,4,10,11,12]) ?_
   refine .block ?_
   refine .loopM (v:=v) (fun y:Int×Int×Sl×Int×Int=>((fr 32 [(3,(zI y.1)),(4,(zI y.2.1)),(10,(Sl.v 1 y.2.2.1)),(11,(zI y.2.2.2.1)),(12,(zI y.2.2.2.2))]),(hp 0 []))) (fun w y=>l23_1 pu n w y.1 y.2.1 y.2.2.1 y.2.2.2.1 y.2.2.2.2) n ⟨((0:Int),(21:Int),s0,(Int.ofNat (Sl.n s0)),(0:Int)),hm,(.k0 [] [] [3,4,10,11,12])⟩ (fun _=>rfl) ?_
   rintro w0 ⟨z1,z2,s1,z3,z4⟩ hm
   replace hm:b23_1 pu n (l23_1 pu n w0) z1 z2 s1 z3 z4 = some v:=hm
   unfold b23_1 at hm
   refine .then (.rK ?_)
   refine .ghs (fr 32 [(3,zI z1),(4,zI z2),(10,Sl.v 1 s1),(11,zI z3),(12,zI z4),(13,(zB (ilt z4 z3)))]) (hp 0 []) (.k0 [] [] [3,4,10,11,12,13]) ?_
   refine .then ?_
   replace hm:=bb_cases hm;rcases hm with ⟨h1,hm⟩ | ⟨h1,hm⟩
   ·refine .ifT (ilt z4 z3) (by kernel_rfl) h1 ?_
    refine .skip ?_
    refine .ghs (fr 32 [(3,zI z1),(4,zI z2),(10,Sl.v 1 s1),(11,zI z3),(12,zI z4)]) (hp 0 []) (.k0 [] [] [3,4,10,11,12]) ?_
    refine .then ?_
    refine .block ?_
    refine .then ?_
    replace hm:=oo_inv hm;obtain ⟨k1,h2,hm⟩:=hm
    obtain rfl:=toN_some h2
    replace hm:=bb_inv hm;obtain ⟨h3,hm⟩:=hm
    replace hm:=oo_inv hm;obtain ⟨v0,h4,hm⟩:=hm
    replace hm:=inv_toI hm;obtain ⟨x0,rfl,hm⟩:=hm
    refine .reg (eD (keep (hp 0 []) (bb (an (Nat.blt k1 (Sl.n s1)) true) (some (fpV (k1 * 1) (Sl.cs s1))) none)) (keep_bb h3) (eD (keep (hp 0 []) (nthL (Sl.cs s1) (k1 * 1))) (keep_eq h4) (eE))) ?_
    refine .ghs (fr 32 [(3,zI z1),(4,zI z2),(6,zI x0),(10,Sl.v 1 s1),(11,zI z3),(12,(zI (Int.ofNat k1)))]) (hp 0 []) (.k0 [] [] [3,4,6,10,11,12]) ?_
    refine .then ?_
    refine .block ?_
    refine .then ?_
    replace hm:=oo_inv hm;obtain ⟨v1,h5,hm⟩:=hm
    replace hm:=inv_vBool hm;obtain ⟨b0,rfl,hm⟩:=hm
    refine .reg (eC 1 ((oo (pu 32 [(zI (1:Int)),zI x0,(zI (21:Int))]) none fun v=>some (v,(hp 0 [])))) (call_eq h5) (eE)) ?_
    refine .ghs (fr 32 [(3,zI z1),(4,zI z2),(6,zI x0),(10,Sl.v 1 s1),(11,zI z3),(12,(zI (Int.ofNat k1))),(16,(zB (nt b0)))]) (hp 0 []) (.k0 [] [] [3,4,6,10,11,12,16]) ?_
    replace hm:=bb_cases hm;rcases hm with ⟨h6,hm⟩ | ⟨h6,hm⟩
    ·refine .ifT (nt b0) (by kernel_rfl) h6 ?_
     refine .then (.rK ?_)
     refine .ghs (fr 32 [(2,(zI (1:Int)))]) (hp 0 []) (.k0 [] [] [2]) ?_
     refine .ret ?_
     exact fin_ret (zI (1:Int)) (by kernel_rfl) (by kernel_rfl) hm
    ·refine .ifF (nt b0) (by kernel_rfl) h6 ?_
     refine .then (.rK ?_)
     refine .ghs (fr 32 [(3,zI z1),(6,zI x0),(10,Sl.v 1 s1),(11,zI z3),(12,(zI (Int.ofNat k1))),(20,(zB (ilt z2 x0)))]) (hp 0 []) (.k0 [] [] [3,6,10,11,12,20]) ?_
     replace hm:=bb_cases hm;rcases hm with ⟨h7,hm⟩ | ⟨h7,hm⟩
     ·refine .ifT (ilt z2 x0) (by kernel_rfl) h7 ?_
      refine .then (.rK ?_)
      refine .ghs (fr 32 [(2,(zI (7:Int)))]) (hp 0 []) (.k0 [] [] [2]) ?_
      refine .ret ?_
      exact fin_ret (zI (7:Int)) (by kernel_rfl) (by kernel_rfl) hm
     ·refine .ifF (ilt z2 x0) (by kernel_rfl) h7 ?_
      refine .skip ?_
      refine .ghs (fr 32 [(3,zI z1),(6,zI x0),(10,Sl.v 1 s1),(11,zI z3),(12,(zI (Int.ofNat k1)))]) (hp 0 []) (.k0 [] [] [3,6,10,11,12]) ?_
      refine .then (.rK ?_)
      refine .ghs (fr 32 [(3,zI z1),(4,zI x0),(6,zI x0),(10,Sl.v 1 s1),(11,zI z3),(12,(zI (Int.ofNat k1)))]) (hp 0 []) (.k0 [] [] [3,4,6,10,11,12]) ?_
      refine .rK ?_
      refine .ghs (fr 32 [(3,(zI (bb (ilt (22:Int) (wrapF .i64 (Int.add z1 x0))) (22:Int) (wrapF .i64 (Int.add z1 x0))))),(4,zI x0),(10,Sl.v 1 s1),(11,zI z3),(12,(zI (Int.ofNat k1)))]) (hp 0 []) (.k0 [] [] [3,4,10,11,12]) ?_
      refine .rK ?_
      exact ⟨((bb (ilt (22:Int) (wrapF .i64 (Int.add z1 x0))) (22:Int) (wrapF .i64 (Int.add z1 x0))),x0,s1,z3,(wrapF .i64 (Int.add (Int.ofNat k1) (1:Int)))),hm,(.k0 [] [] [3,4,10,11,12])⟩
   ·refine .ifF (ilt z4 z3) (by kernel_rfl) h1 ?_
    refine .exit ?_
    exact ⟨z1,hm,(.k0 [] [] [3])⟩
def m24_0 (pu:PureF) (n:Nat) (q1:LV) (q2:LV):OV:=
 (bb (Nat.ble (0 + 22) (len q2)) (bb (Nat.beq (len (takeL 22 (dropL 0 q2))) 22) (bb (an (Nat.ble (0 + len (takeL 22 (dropL 0 q2))) (len q1)) (allL scalarB (takeL 22 (dropL 0 q2)))) (bb (allL closed1 (setL (takeL 22 (dropL 0 q2)) 0 q1)) (bb (Nat.ble (0 + 22) (len (setL (takeL 22 (dropL 0 q2)) 0 q1))) (bb (closedV (.agg ⟨(takeL 22 (dropL 0 (setL (takeL 22 (dropL 0 q2)) 0 q1)))⟩)) (some (.agg ⟨(takeL 22 (dropL 0 (setL (takeL 22 (dropL 0 q2)) 0 q1)))⟩)) none) none) none) none) none) none)
def b24_1 (pu:PureF) (n:Nat) (ih0:Sl→Int→Int→LV→LV→OV) (s0:Sl) (z0 z1:Int) (q1:LV) (q2:LV):OV:=
 (bb (allL closed1 q1) (bb (allL closed1 q2) (bb (ilt z1 z0) (oo (toN z1) none fun k1=>(bb (an (Nat.blt k1 (Sl.n s0)) true) (oo (nthL (Sl.cs s0) (k1 * 1)) none fun v0=>(oo (toI .i64 v0) none fun x0=>(oo (toN x0) none fun k2=>(bb (Nat.blt k2 22) (oo (nthL q2 (0 + k2 * 1)) none fun v1=>(oo (toI .i64 v1) none fun x1=>(bb (Nat.blt k2 22) (bb (an (Nat.ble ((0 + k2 * 1) + 1) (len q2)) true) (bb (allL closed1 (setL ([(.int .i64 (wrapF .i64 (Int.add x1 (1:Int))))]:LV) (0 + k2 * 1) q2)) (ih0 s0 z0 (wrapF .i64 (Int.add (Int.ofNat k1) (1:Int))) q1 (setL ([(.int .i64 (wrapF .i64 (Int.add x1 (1:Int))))]:LV) (0 + k2 * 1) q2)) none) none) none))) none)))) none)) (m24_0 pu n q1 q2)) none) none)
def l24_1 (pu:PureF) (n w:Nat):Sl→Int→Int→LV→LV→OV:=
 Nat.rec (motive:=fun _=>Sl→Int→Int→LV→LV→OV) (fun _ _ _ _ _=>none) (fun _ ih0=>b24_1 pu n ih0) w
def m24_ (pu:PureF) (n:Nat) (s0:Sl):OV:=
 (bb (allL closed1 zA51) (l24_1 pu n n s0 (Int.ofNat (Sl.n s0)) (0:Int) zA51 zA51) none)
def m24 (pu:PureF) (n:Nat) (args:LV):OV:=
 (ll args none fun a0 args=>(ll args (oo (toSl 1 a0) none fun s0=>(m24_ pu n s0)) fun _ _=>none))
theorem w24_0 (pu:PureF) (n:Nat) (q1:LV) (q2:LV) {v:Value} (hm:m24_0 pu n q1 q2 = some v):Run tt (callP tabs isP pu (inl pu)) 0 c24_17 (fr 19 [(2,(pt 0 0)),(3,pt 1 0)]) (hp 2 [oC q1,oC q2]) (Fin tt 0 [.cell 2 51] v):=by
 unfold m24_0 at hm
 refine .then ?_
 replace hm:=bb_inv hm;obtain ⟨h0,hm⟩:=hm
 replace hm:=bb_inv hm;obtain ⟨h1,hm⟩:=hm
 replace hm:=bb_inv hm;obtain ⟨h2,hm⟩:=hm
 refine .reg (eD (keep (hp 2 [oC q1,oC q2]) (bb (Nat.ble (0 + 22) (len q2)) (some (.agg ⟨(takeL 22 (dropL 0 q2))⟩)) none)) (keep_bb h0) (eD (done (bb (Nat.beq (len (takeL 22 (dropL 0 q2))) 22) (bb (an (Nat.ble (0 + len (takeL 22 (dropL 0 q2))) (len q1)) (allL scalarB (takeL 22 (dropL 0 q2)))) (some (hp 2 [(oC (setL (takeL 22 (dropL 0 q2)) 0 q1)),oC q2])) none) none) undef) (done_bb2 h1 h2) (eE))) ?_
 replace hm:=bb_inv hm;obtain ⟨h3,hm⟩:=hm
 refine .ghs (fr 19 [(2,(pt 0 0))]) (hp 1 [(oC (setL (takeL 22 (dropL 0 q2)) 0 q1))]) (.k [0] [] [.tmp 2 false] [2] ⟨trF h3,trivial⟩) ?_
 refine .ret ?_
 replace hm:=bb_inv hm;obtain ⟨h4,hm⟩:=hm
 replace hm:=bb_inv hm;obtain ⟨h5,hm⟩:=hm
 exact fin_ret (.agg ⟨(takeL 22 (dropL 0 (setL (takeL 22 (dropL 0 q2)) 0 q1)))⟩) (aresults_of (aresultsL_cons (show aresult _ _ _ _ = some (.agg ⟨(takeL 22 (dropL 0 (setL (takeL 22 (dropL 0 q2)) 0 q1)))⟩) from (eq_bb (c:=(Nat.ble (0 + 22) (len (setL (takeL 22 (dropL 0 q2)) 0 q1)))) (by kernel_rfl) h4)) rfl) (by kernel_rfl)) h5 hm
theorem r24 {call:CallF} (pu:PureF) (n:Nat) (hcall:call = callP tabs isP pu (inl pu)) {args:LV} {v:Value} (hm:m24 pu n args = some v) (_:∀ x ∈ args,closed2 x = true):args.length≤19∧Run tt call 0 c24_20 (Fr.made 19 args) (pureHeap tabs) (Fin tt 0 [.cell 2 51] v):=by
 subst hcall
 unfold m24 at hm
 replace hm:=ll_uncons hm;obtain ⟨a0,args_0,rfl,hm⟩:=hm
 replace hm:=ll_end hm;obtain ⟨rfl,hm⟩:=hm
 replace hm:=inv_toSl hm;obtain ⟨s0,rfl,hm⟩:=hm
 unfold m24_ at hm
 refine ⟨by simp,?_⟩
 refine .same (F':=(fr 19 [(0,Sl.v 1 s0)])) (H':=(hp 0 [])) (by kernel_rfl) (by kernel_rfl) ?_
 refine .then (.rK ?_)
 replace hm:=bb_inv hm;obtain ⟨h0,hm⟩:=hm
 refine .ghs (fr 19 [(0,Sl.v 1 s0),(2,(pt 0 0))]) (hp 1 [oC zA51]) (.k [0] [] [.tmp 2 false] [0,2] ⟨trF h0,trivial⟩) ?_
 refine .then (.rK ?_)
 refine .ghs (fr 19 [(0,Sl.v 1 s0),(2,(pt 0 0)),(3,pt 1 0)]) (hp 2 [oC zA51,oC zA51]) (.k [0,1] [] [.tmp 2 false,.tmp 3 false] [0,2,3] ⟨trF h0,trF h0,trivial⟩) ?_
 refine .join (v:=v) (fun y:LV×LV=>((fr 19 [(2,(pt 0 0)),(3,pt 1 0)]),(hp 2 [(oC y.1),(oC y.2)]))) (fun y=>m24_0 pu n y.1 y.2) ?_ ?_
 ·rintro ⟨q1, q2⟩ hm
  exact w24_0 pu n q1 q2 hm
 ·refine .then (.rK ?_)
  refine .ghs (fr 19 [(2,(pt 0 0)),(3,pt 1 0),(6,Sl.v 1 s0),(7,(zI (Int.ofNat (Sl.n s0)))),(8,(zI (0:Int)))]) (hp 2 [oC zA51,oC zA51]) (.k [0,1] [] [.tmp 2 false,.tmp 3 false] [2,3,6,7,8] ⟨trF h0,trF h0,trivial⟩) ?_
  refine .block ?_
  refine .loopM (v:=v) (fun y:Sl×Int×Int×LV×LV=>((fr 19 [(2,(pt 0 0)),(3,pt 1 0),(6,(Sl.v 1 y.1)),(7,(zI y.2.1)),(8,(zI y.2.2.1))]),(hp 2 [(oC y.2.2.2.1),(oC y.2.2.2.2)]))) (fun w y=>l24_1 pu n w y.1 y.2.1 y.2.2.1 y.2.2.2.1 y.2.2.2.2) n ⟨(s0,(Int.ofNat (Sl.n s0)),(0:Int),zA51,zA51),hm,(.k [0,1] [] [.tmp 2 false,.tmp 3 false] [2,3,6,7,8] ⟨trF h0,trF h0,trivial⟩)⟩ (fun _=>rfl) ?_
  rintro w0 ⟨s1,z0,z1,q3,q4⟩ hm
  replace hm:b24_1 pu n (l24_1 pu n w0) s1 z0 z1 q3 q4 = some v:=hm
  unfold b24_1 at hm
  refine .then (.rK ?_)
  replace hm:=bb_inv hm;obtain ⟨h1,hm⟩:=hm
  replace hm:=bb_inv hm;obtain ⟨h2,hm⟩:=hm
  refine .ghs (fr 19 [(2,(pt 0 0)),(3,pt 1 0),(6,Sl.v 1 s1),(7,zI z0),(8,zI z1),(9,(zB (ilt z1 z0)))]) (hp 2 [oC q3,oC q4]) (.k [0,1] [] [.tmp 2 false,.tmp 3 false] [2,3,6,7,8,9] ⟨trF h1,trF h2,trivial⟩) ?_
  refine .then ?_
  replace hm:=bb_cases hm;rcases hm with ⟨h3,hm⟩ | ⟨h3,hm⟩
  ·refine .ifT (ilt z1 z0) (by kernel_rfl) h3 ?_
   refine .skip ?_
   refine .ghs (fr 19 [(2,(pt 0 0)),(3,pt 1 0),(6,Sl.v 1 s1),(7,zI z0),(8,zI z1)]) (hp 2 [oC q3,oC q4]) (.k [0,1] [] [.tmp 2 false,.tmp 3 false] [2,3,6,7,8] ⟨trF h1,trF h2,trivial⟩) ?_
   refine .then ?_
   refine .block ?_
   refine .then ?_
   replace hm:=oo_inv hm;obtain ⟨k1,h4,hm⟩:=hm
   obtain rfl:=toN_some h4
   replace hm:=bb_inv hm;obtain ⟨h5,hm⟩:=hm
   replace hm:=oo_inv hm;obtain ⟨v0,h6,hm⟩:=hm
   replace hm:=inv_toI hm;obtain ⟨x0,rfl,hm⟩:=hm
   refine .reg (eD (keep (hp 2 [oC q3,oC q4]) (bb (an (Nat.blt k1 (Sl.n s1)) true) (some (fpV (k1 * 1) (Sl.cs s1))) none)) (keep_bb h5) (eD (keep (hp 2 [oC q3,oC q4]) (nthL (Sl.cs s1) (k1 * 1))) (keep_eq h6) (eE))) ?_
   refine .ghs (fr 19 [(2,(pt 0 0)),(3,pt 1 0),(5,zI x0),(6,Sl.v 1 s1),(7,zI z0),(8,(zI (Int.ofNat k1)))]) (hp 2 [oC q3,oC q4]) (.k [0,1] [] [.tmp 2 false,.tmp 3 false] [2,3,5,6,7,8] ⟨trF h1,trF h2,trivial⟩) ?_
   replace hm:=oo_inv hm;obtain ⟨k2,h7,hm⟩:=hm
   obtain rfl:=toN_some h7
   replace hm:=bb_inv hm;obtain ⟨h8,hm⟩:=hm
   replace hm:=oo_inv hm;obtain ⟨v1,h9,hm⟩:=hm
   replace hm:=inv_toI hm;obtain ⟨x1,rfl,hm⟩:=hm
   replace hm:=bb_inv hm;obtain ⟨h10,hm⟩:=hm
   replace hm:=bb_inv hm;obtain ⟨h11,hm⟩:=hm
   refine .reg (eC 1 (keep (hp 2 [oC q3,oC q4]) (bb (Nat.blt k2 22) (some (.pointer (some ⟨1,(0 + k2 * 1),none⟩))) none)) (keep_bb h8) (eD (keep (hp 2 [oC q3,oC q4]) (nthL q4 (0 + k2 * 1))) (keep_eq h9) (eC 1 (keep (hp 2 [oC q3,oC q4]) (bb (Nat.blt k2 22) (some (.pointer (some ⟨1,(0 + k2 * 1),none⟩))) none)) (keep_bb h10) (eD (done (bb (an (Nat.ble ((0 + k2 * 1) + 1) (len q4)) true) (some (hp 2 [oC q3,(oC (setL ([(zI (wrapF .i64 (Int.add x1 (1:Int))))]:LV) (0 + k2 * 1) q4))])) none) undef) (done_bb h11) (eE))))) ?_
   replace hm:=bb_inv hm;obtain ⟨h12,hm⟩:=hm
   refine .ghs (fr 19 [(2,(pt 0 0)),(3,pt 1 0),(6,Sl.v 1 s1),(7,zI z0),(8,(zI (Int.ofNat k1)))]) (hp 2 [oC q3,(oC (setL ([(zI (wrapF .i64 (Int.add x1 (1:Int))))]:LV) (0 + k2 * 1) q4))]) (.k [0,1] [] [.tmp 2 false,.tmp 3 false] [2,3,6,7,8] ⟨trF h1,trF h12,trivial⟩) ?_
   refine .rK ?_
   exact ⟨(s1,z0,(wrapF .i64 (Int.add (Int.ofNat k1) (1:Int))),q3,(setL ([(zI (wrapF .i64 (Int.add x1 (1:Int))))]:LV) (0 + k2 * 1) q4)),hm,(.k [0,1] [] [.tmp 2 false,.tmp 3 false] [2,3,6,7,8] ⟨trF h1,trF h12,trivial⟩)⟩
  ·refine .ifF (ilt z1 z0) (by kernel_rfl) h3 ?_
   refine .exit ?_
   exact ⟨(q3,q4),hm,(.k [0,1] [] [.tmp 2 false,.tmp 3 false] [2,3] ⟨trF h1,trF h2,trivial⟩)⟩
end
end Go.HvRM
