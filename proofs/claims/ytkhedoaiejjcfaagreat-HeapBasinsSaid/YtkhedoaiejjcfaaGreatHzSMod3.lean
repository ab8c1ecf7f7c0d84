/- Made from wip. -/
import Derived.Test.YtkhedoaiejjcfaaGreatHzSMod1x

set_option maxRecDepth 100000
set_option maxHeartbeats 20000000
set_option linter.unusedVariables false
namespace Go.HzSM
open Go.Sp Go.HzS
noncomputable section
def m28_0 (pu:PureF) (n:Nat) (q1:LV) (q2:LV):OV:=
 (bb (Nat.ble (0 + 22) (len q2)) (bb (Nat.beq (len (takeL 22 (dropL 0 q2))) 22) (bb (an (Nat.ble (0 + len (takeL 22 (dropL 0 q2))) (len q1)) (allL scalarB (takeL 22 (dropL 0 q2)))) (bb (allL closed1 (setL (takeL 22 (dropL 0 q2)) 0 q1)) (bb (Nat.ble (0 + 22) (len (setL (takeL 22 (dropL 0 q2)) 0 q1))) (bb (closedV (.agg ⟨(takeL 22 (dropL 0 (setL (takeL 22 (dropL 0 q2)) 0 q1)))⟩)) (some (.agg ⟨(takeL 22 (dropL 0 (setL (takeL 22 (dropL 0 q2)) 0 q1)))⟩)) none) none) none) none) none) none)
def b28_1 (pu:PureF) (n:Nat) (ih0:Sl→Int→Int→LV→LV→OV) (s0:Sl) (z0 z1:Int) (q1:LV) (q2:LV):OV:=
 (bb (allL closed1 q1) (bb (allL closed1 q2) (bb (ilt z1 z0) (oo (toN z1) none fun k1=>(bb (an (Nat.blt k1 (Sl.n s0)) true) (oo (nthL (Sl.cs s0) (k1 * 1)) none fun v0=>(oo (toI .i64 v0) none fun x0=>(oo (toN x0) none fun k2=>(bb (Nat.blt k2 22) (oo (nthL q2 (0 + k2 * 1)) none fun v1=>(oo (toI .i64 v1) none fun x1=>(bb (Nat.blt k2 22) (bb (an (Nat.ble ((0 + k2 * 1) + 1) (len q2)) true) (bb (allL closed1 (setL ([(.int .i64 (wrapF .i64 (Int.add x1 (1:Int))))]:LV) (0 + k2 * 1) q2)) (ih0 s0 z0 (wrapF .i64 (Int.add (Int.ofNat k1) (1:Int))) q1 (setL ([(.int .i64 (wrapF .i64 (Int.add x1 (1:Int))))]:LV) (0 + k2 * 1) q2)) none) none) none))) none)))) none)) (m28_0 pu n q1 q2)) none) none)
def l28_1 (pu:PureF) (n w:Nat):Sl→Int→Int→LV→LV→OV:=
 Nat.rec (motive:=fun _=>Sl→Int→Int→LV→LV→OV) (fun _ _ _ _ _=>none) (fun _ ih0=>b28_1 pu n ih0) w
def m28_ (pu:PureF) (n:Nat) (s0:Sl):OV:=
 (bb (allL closed1 zA54) (l28_1 pu n n s0 (Int.ofNat (Sl.n s0)) (0:Int) zA54 zA54) none)
def m28 (pu:PureF) (n:Nat) (args:LV):OV:=
 (ll args none fun a0 args=>(ll args (oo (toSl 1 a0) none fun s0=>(m28_ pu n s0)) fun _ _=>none))
theorem w28_0 (pu:PureF) (n:Nat) (q1:LV) (q2:LV) {v:Value} (hm:m28_0 pu n q1 q2 = some v):Run tt (callP tabs isP pu (inl pu)) 0 c28_17 (fr 19 [(2,(pt 0 0)),(3,pt 1 0)]) (hp 2 [oC q1,oC q2]) (Fin tt 0 [.cell 2 54] v):=by
 unfold m28_0 at hm
 refine .then ?_
 replace hm:=bb_inv hm;obtain ⟨h0,hm⟩:=hm
 replace hm:=bb_inv hm;obtain ⟨h1,hm⟩:=hm
 replace hm:=bb_inv hm;obtain ⟨h2,hm⟩:=hm
 refine .reg (eD (keep (hp 2 [oC q1,oC q2]) (bb (Nat.ble (0 + 22) (len q2)) (some (.agg ⟨(takeL 22 (dropL 0 q2))⟩)) none)) (keep_bb h0) (eD (done (bb (Nat.beq (len (takeL 22 (dropL 0 q2))) 22) (bb (an (Nat.ble (0 + len (takeL 22 (dropL 0 q2))) (len q1)) (allL scalarB (takeL 22 (dropL 0 q2)))) (some (hp 2 [(oC (setL (takeL 22 (dropL 0 q2)) 0 q1)),oC q2])) none) none) undef) (done_bb2 h1 h2) (eE))) ?_
 replace hm:=bb_inv hm;obtain ⟨h3,hm⟩:=hm
 refine .ghs (fr 19 [(2,(pt 0 0))]) (hp 1 [(oC (setL (takeL 22 (dropL 0 q2)) 0 q1))]) (.k [0] [] [.tmp 2 false] [2] ⟨trF h3,trivial⟩) ?_
 refine .ret ?_
 replace hm:=bb_inv hm;obtain ⟨h4,hm⟩:=hm
 replace hm:=bb_inv hm;obtain ⟨h5,hm⟩:=hm
 exact fin_ret (.agg ⟨(takeL 22 (dropL 0 (setL (takeL 22 (dropL 0 q2)) 0 q1)))⟩) (aresults_of (aresultsL_cons (show aresult _ _ _ _ = some (.agg ⟨(takeL 22 (dropL 0 (setL (takeL 22 (dropL 0 q2)) 0 q1)))⟩) from (eq_bb (c:=(Nat.ble (0 + 22) (len (setL (takeL 22 (dropL 0 q2)) 0 q1)))) (by kernel_rfl) h4)) rfl) (by kernel_rfl)) h5 hm
theorem r28 {call:CallF} (pu:PureF) (n:Nat) (hcall:call = callP tabs isP pu (inl pu)) {args:LV} {v:Value} (hm:m28 pu n args = some v) (_:∀ x ∈ args,closed2 x = true):args.length≤19∧Run tt call 0 c28_20 (Fr.made 19 args) (pureHeap tabs) (Fin tt 0 [.cell 2 54] v):=by
 subst hcall
 unfold m28 at hm
 replace hm:=ll_uncons hm;obtain ⟨a0,args_0,rfl,hm⟩:=hm
 replace hm:=ll_end hm;obtain ⟨rfl,hm⟩:=hm
 replace hm:=inv_toSl hm;obtain ⟨s0,rfl,hm⟩:=hm
 unfold m28_ at hm
 refine ⟨by simp,?_⟩
 refine .same (F':=(fr 19 [(0,Sl.v 1 s0)])) (H':=(hp 0 [])) (by kernel_rfl) (by kernel_rfl) ?_
 refine .then (.rK ?_)
 replace hm:=bb_inv hm;obtain ⟨h0,hm⟩:=hm
 refine .ghs (fr 19 [(0,Sl.v 1 s0),(2,(pt 0 0))]) (hp 1 [oC zA54]) (.k [0] [] [.tmp 2 false] [0,2] ⟨trF h0,trivial⟩) ?_
 refine .then (.rK ?_)
 refine .ghs (fr 19 [(0,Sl.v 1 s0),(2,(pt 0 0)),(3,pt 1 0)]) (hp 2 [oC zA54,oC zA54]) (.k [0,1] [] [.tmp 2 false,.tmp 3 false] [0,2,3] ⟨trF h0,trF h0,trivial⟩) ?_
 refine .join (v:=v) (fun y:LV×LV=>((fr 19 [(2,(pt 0 0)),(3,pt 1 0)]),(hp 2 [(oC y.1),(oC y.2)]))) (fun y=>m28_0 pu n y.1 y.2) ?_ ?_
 ·rintro ⟨q1, q2⟩ hm
  exact w28_0 pu n q1 q2 hm
 ·refine .then (.rK ?_)
  refine .ghs (fr 19 [(2,(pt 0 0)),(3,pt 1 0),(6,Sl.v 1 s0),(7,(zI (Int.ofNat (Sl.n s0)))),(8,(zI (0:Int)))]) (hp 2 [oC zA54,oC zA54]) (.k [0,1] [] [.tmp 2 false,.tmp 3 false] [2,3,6,7,8] ⟨trF h0,trF h0,trivial⟩) ?_
  refine .block ?_
  refine .loopM (v:=v) (fun y:Sl×Int×Int×LV×LV=>((fr 19 [(2,(pt 0 0)),(3,pt 1 0),(6,(Sl.v 1 y.1)),(7,(zI y.2.1)),(8,(zI y.2.2.1))]),(hp 2 [(oC y.2.2.2.1),(oC y.2.2.2.2)]))) (fun w y=>l28_1 pu n w y.1 y.2.1 y.2.2.1 y.2.2.2.1 y.2.2.2.2) n ⟨(s0,(Int.ofNat (Sl.n s0)),(0:Int),zA54,zA54),hm,(.k [0,1] [] [.tmp 2 false,.tmp 3 false] [2,3,6,7,8] ⟨trF h0,trF h0,trivial⟩)⟩ (fun _=>rfl) ?_
  rintro w0 ⟨s1,z0,z1,q3,q4⟩ hm
  replace hm:b28_1 pu n (l28_1 pu n w0) s1 z0 z1 q3 q4 = some v:=hm
  unfold b28_1 at hm
  refine .then (.rK ?_)
  replace hm:=bb_inv hm;obtain ⟨h1,hm⟩:=hm
  replace hm:=bb_inv hm;obtain ⟨h2,hm⟩:=hm
  refine .ghs (fr 19 [(2,(pt 0 0)),(3,pt 1 0),(6,Sl.v 1 s1),(7,zI z0),(8,zI z1),(9,(zB (ilt z1 z0)))]) (hp 2 [oC q3,oC q4]) (.k [0,1] [] [.tmp 2 false,.tmp 3 false] [2,3,6,7,8,9] ⟨trF h1,trF h2,trivial⟩) ?_
  refine .then ?_
  replace hm:=bb_cases hm;rcases hm with ⟨h3,hm⟩ | ⟨h3,hm⟩
  ·refine .ifT (ilt z1 z0) (by kernel_rfl) h3 ?_
   refine .skip ?_
   refine .ghs (fr 19 [(2,(pt 0 0)),(3,pt 1 0),(6,Sl.v 1 s1),(7,zI z0),(8,zI z1)]) (hp 2 [oC q3,oC q4]) (.k [0,1] [] [.tmp 2 false,.tmp 3 false] [2,3,6,7,8] ⟨trF h1,trF h2,trivial⟩) ?_
   refine .then ?_
   refine .block ?_
   refine .then ?_
   replace hm:=oo_inv hm;obtain ⟨k1,h4,hm⟩:=hm
   obtain rfl:=toN_some h4
   replace hm:=bb_inv hm;obtain ⟨h5,hm⟩:=hm
   replace hm:=oo_inv hm;obtain ⟨v0,h6,hm⟩:=hm
   replace hm:=inv_toI hm;obtain ⟨x0,rfl,hm⟩:=hm
   refine .reg (eD (keep (hp 2 [oC q3,oC q4]) (bb (an (Nat.blt k1 (Sl.n s1)) true) (some (fpV (k1 * 1) (Sl.cs s1))) none)) (keep_bb h5) (eD (keep (hp 2 [oC q3,oC q4]) (nthL (Sl.cs s1) (k1 * 1))) (keep_eq h6) (eE))) ?_
   refine .ghs (fr 19 [(2,(pt 0 0)),(3,pt 1 0),(5,zI x0),(6,Sl.v 1 s1),(7,zI z0),(8,(zI (Int.ofNat k1)))]) (hp 2 [oC q3,oC q4]) (.k [0,1] [] [.tmp 2 false,.tmp 3 false] [2,3,5,6,7,8] ⟨trF h1,trF h2,trivial⟩) ?_
   replace hm:=oo_inv hm;obtain ⟨k2,h7,hm⟩:=hm
   obtain rfl:=toN_some h7
   replace hm:=bb_inv hm;obtain ⟨h8,hm⟩:=hm
   replace hm:=oo_inv hm;obtain ⟨v1,h9,hm⟩:=hm
   replace hm:=inv_toI hm;obtain ⟨x1,rfl,hm⟩:=hm
   replace hm:=bb_inv hm;obtain ⟨h10,hm⟩:=hm
   replace hm:=bb_inv hm;obtain ⟨h11,hm⟩:=hm
   refine .reg (eC 1 (keep (hp 2 [oC q3,oC q4]) (bb (Nat.blt k2 22) (some (.pointer (some ⟨1,(0 + k2 * 1),none⟩))) none)) (keep_bb h8) (eD (keep (hp 2 [oC q3,oC q4]) (nthL q4 (0 + k2 * 1))) (keep_eq h9) (eC 1 (keep (hp 2 [oC q3,oC q4]) (bb (Nat.blt k2 22) (some (.pointer (some ⟨1,(0 + k2 * 1),none⟩))) none)) (keep_bb h10) (eD (done (bb (an (Nat.ble ((0 + k2 * 1) + 1) (len q4)) true) (some (hp 2 [oC q3,(oC (setL ([(zI (wrapF .i64 (Int.add x1 (1:Int))))]:LV) (0 + k2 * 1) q4))])) none) undef) (done_bb h11) (eE))))) ?_
   replace hm:=bb_inv hm;obtain ⟨h12,hm⟩:=hm
   refine .ghs (fr 19 [(2,(pt 0 0)),(3,pt 1 0),(6,Sl.v 1 s1),(7,zI z0),(8,(zI (Int.ofNat k1)))]) (hp 2 [oC q3,(oC (setL ([(zI (wrapF .i64 (Int.add x1 (1:Int))))]:LV) (0 + k2 * 1) q4))]) (.k [0,1] [] [.tmp 2 false,.tmp 3 false] [2,3,6,7,8] ⟨trF h1,trF h12,trivial⟩) ?_
   refine .rK ?_
   exact ⟨(s1,z0,(wrapF .i64 (Int.add (Int.ofNat k1) (1:Int))),q3,(setL ([(zI (wrapF .i64 (Int.add x1 (1:Int))))]:LV) (0 + k2 * 1) q4)),hm,(.k [0,1] [] [.tmp 2 false,.tmp 3 false] [2,3,6,7,8] ⟨trF h1,trF h12,trivial⟩)⟩
  ·refine .ifF (ilt z1 z0) (by kernel_rfl) h3 ?_
   refine .exit ?_
   exact ⟨(q3,q4),hm,(.k [0,1] [] [.tmp 2 false,.tmp 3 false] [2,3] ⟨trF h1,trF h2,trivial⟩)⟩
def m29_0 (pu:PureF) (n:Nat):OV:=
 (some (.bool true))
def b29_1 (pu:PureF) (n:Nat) (ih0:Int→Nat→Nat→Int→Int→LV→OV) (z0:Int) (n0 c0:Nat) (z1 z2:Int) (q1:LV):OV:=
 (bb (allL closed1 q1) (bb (ilt z2 z1) (oo (toN z2) none fun k1=>(bb (an (Nat.blt k1 n0) true) (oo (nthL q1 (0 + k1 * 1)) none fun v0=>(oo (toI .i64 v0) none fun x0=>(oo (pu 30 [(.int .i64 (wrapF .i64 (Int.sub z0 (Int.ofNat k1)))),.int .i64 x0,(.int .i64 (wrapF .i64 (Int.sub (wrapF .i64 (Int.add z0 (1:Int))) (Int.ofNat k1))))]) none fun v1=>(oo (vBool v1) none fun b0=>(bb (nt b0) (some (.bool false)) (ih0 z0 n0 c0 z1 (wrapF .i64 (Int.add (Int.ofNat k1) (1:Int))) q1)))))) none)) (m29_0 pu n)) none)
def l29_1 (pu:PureF) (n w:Nat):Int→Nat→Nat→Int→Int→LV→OV:=
 Nat.rec (motive:=fun _=>Int→Nat→Nat→Int→Int→LV→OV) (fun _ _ _ _ _ _=>none) (fun _ ih0=>b29_1 pu n ih0) w
def b29_2 (pu:PureF) (n:Nat) (ih0:Int→Nat→Nat→Int→Int→LV→OV) (z0:Int) (n0 c0:Nat) (z1 z2:Int) (q1:LV):OV:=
 (bb (allL closed1 q1) (bb (ilt z2 z1) (oo (toN z2) none fun k1=>(bb (an (Nat.blt k1 n0) true) (oo (nthL q1 (0 + k1 * 1)) none fun v0=>(oo (toI .i64 v0) none fun x0=>(oo (pu 30 [(.int .i64 (wrapF .i64 (Int.sub z0 (Int.ofNat k1)))),.int .i64 x0,(.int .i64 (wrapF .i64 (Int.sub (wrapF .i64 (Int.add z0 (1:Int))) (Int.ofNat k1))))]) none fun v1=>(oo (vBool v1) none fun b0=>(bb (nt b0) (some (.bool false)) (ih0 z0 n0 c0 z1 (wrapF .i64 (Int.add (Int.ofNat k1) (1:Int))) q1)))))) none)) (m29_0 pu n)) none)
def l29_2 (pu:PureF) (n w:Nat):Int→Nat→Nat→Int→Int→LV→OV:=
 Nat.rec (motive:=fun _=>Int→Nat→Nat→Int→Int→LV→OV) (fun _ _ _ _ _ _=>none) (fun _ ih0=>b29_2 pu n ih0) w
def m29_ (pu:PureF) (n:Nat) (q1:LV):OV:=
 (bb (allL closed1 q1) (bb (Nat.ble (0 + 22) (len q1)) (oo (pu 56 [(.agg ⟨(takeL 22 (dropL 0 q1))⟩)]) none fun v0=>(oo (toSl 1 v0) none fun s0=>(bb (allL closed2 [(.agg ⟨(takeL 22 (dropL 0 q1))⟩)]) (bb (allL closed1 (Sl.cs s0)) (bb (Nat.ble (0 + 22) (len q1)) (oo (pu 57 [(.agg ⟨(takeL 22 (dropL 0 q1))⟩)]) none fun v1=>(oo (toI .i64 v1) none fun x0=>(bb (allL closed2 [(.agg ⟨(takeL 22 (dropL 0 q1))⟩)]) (oo (pu 31 [.int .i64 x0]) none fun v2=>(oo (vTup v2) none fun l0=>(ll l0 none fun v3 l0=>(ll l0 none fun v4 l0=>(ll l0 (oo (toI .i64 v3) none fun x1=>(oo (toI .i64 v4) none fun x2=>(bb (ilt (wrapF .i64 (Int.add x1 (1:Int))) (Int.ofNat (Sl.n s0))) (some (.bool false)) (oo (toN (wrapF .i64 (Int.sub (wrapF .i64 (Int.add x1 (1:Int))) (Int.ofNat (Sl.n s0))))) none fun k1=>(bb (Nat.beq k1 0) (bb (an (Nat.ble k1 1000000) (roomy k1 8)) (l29_1 pu n n x1 (Sl.n s0) (2 * (Sl.n s0) + bb false 1 0) (Int.ofNat (Sl.n s0)) (0:Int) (Sl.cs s0)) none) (bb (an (Nat.ble k1 1000000) (roomy k1 8)) (bb (an (allL scalarB (zeroRow ([(.int .i64 (0:Int))]:LV) k1)) (growC 1 8 (Sl.n s0) (2 * (Sl.n s0) + bb false 1 0) k1 (Sl.cs s0))) (bb (allL closed1 (appL (dropL 0 (Sl.cs s0)) (zeroRow ([(.int .i64 (0:Int))]:LV) k1))) (l29_2 pu n n x1 ((Sl.n s0) + k1) (2 * ((Sl.n s0) + k1) + bb false 1 0) (Int.ofNat ((Sl.n s0) + k1)) (0:Int) (appL (dropL 0 (Sl.cs s0)) (zeroRow ([(.int .i64 (0:Int))]:LV) k1))) none) none) none)))))) fun _ _=>none))))) none))) none) none) none))) none) none)
def m29 (pu:PureF) (n:Nat) (args:LV):OV:=
 (ll args none fun a0 args=>(ll args (oo (vAgg a0) none fun q1=>(bb (an (Nat.beq (len q1) 22) (allL closed1 q1)) (m29_ pu n q1) none)) fun _ _=>none))
theorem w29_0 (pu:PureF) (n:Nat) {v:Value} (hm:m29_0 pu n = some v):Run tt (callP tabs isP pu (inl pu)) 0 c29_27 (fr 45 []) (hp 0 []) (Fin tt 0 [.tmp 2] v):=by
 unfold m29_0 at hm
 refine .then (.rK ?_)
 refine .ghs (fr 45 [(2,zB true)]) (hp 0 []) (.k0 [] [] [2]) ?_
 refine .ret ?_
 exact fin_ret (zB true) (by kernel_rfl) (by kernel_rfl) hm
theorem r29 {call:CallF} (pu:PureF) (n:Nat) (hcall:call = callP tabs isP pu (inl pu)) {args:LV} {v:Value} (hm:m29 pu n args = some v) (_:∀ x ∈ args,closed2 x = true):args.length≤45∧Run tt call 0 c29_32 (Fr.made 45 args) (pureHeap tabs) (Fin tt 0 [.tmp 2] v):=by
 subst hcall
 unfold m29 at hm
 replace hm:=ll_uncons hm;obtain ⟨a0,args_0,rfl,hm⟩:=hm
 replace hm:=ll_end hm;obtain ⟨rfl,hm⟩:=hm
 replace hm:=inv_vAgg hm;obtain ⟨q1,rfl,hm⟩:=hm
 replace hm:=bb_inv hm;obtain ⟨h0,hm⟩:=hm
 unfold m29_ at hm
 refine ⟨by simp,?_⟩
 refine .same (F':=(fr 45 [(0,(.agg ⟨q1⟩))])) (H':=(hp 0 [])) (by kernel_rfl) (by kernel_rfl) ?_
 refine .then (.rK ?_)
 replace hm:=bb_inv hm;obtain ⟨h1,hm⟩:=hm
 refine .ghs (fr 45 [(1,(pt 0 0))]) (hp 1 [oC q1]) (.k [0] [] [.tmp 1 false] [1] ⟨trF h1,trivial⟩) ?_
 refine .then ?_
 replace hm:=bb_inv hm;obtain ⟨h2,hm⟩:=hm
 replace hm:=oo_inv hm;obtain ⟨v0,h3,hm⟩:=hm
 replace hm:=inv_toSl hm;obtain ⟨s0,rfl,hm⟩:=hm
 replace hm:=bb_inv hm;obtain ⟨h4,hm⟩:=hm
 refine .reg (eD (keep (hp 1 [oC q1]) (bb (Nat.ble (0 + 22) (len q1)) (some (.agg ⟨(takeL 22 (dropL 0 q1))⟩)) none)) (keep_bb h2) (eD (bb (allL closed2 [(.agg ⟨(takeL 22 (dropL 0 q1))⟩)]) (oo (pu 56 [(.agg ⟨(takeL 22 (dropL 0 q1))⟩)]) none fun v=>oo (toSl 1 v) none fun s=>some (((sc 1 0 1 (Sl.n s) (d2 (Sl.n s))),(hp 2 [oC q1,(oC (Sl.cs s))])):Value×AHeap)) none) ((bb_true' h4).trans (live_eq (sz:=1) (k:=fun s=>(((sc 1 0 1 (Sl.n s) (d2 (Sl.n s))),(hp 2 [oC q1,(oC (Sl.cs s))])):Value×AHeap)) h3)) (eE))) ?_
 replace hm:=bb_inv hm;obtain ⟨h5,hm⟩:=hm
 refine .ghs (fr 45 [(1,(pt 0 0)),(3,(sc 1 0 1 (Sl.n s0) (d2 (Sl.n s0))))]) (hp 2 [oC q1,(oC (Sl.cs s0))]) (.k [0,1] [] [.tmp 1 false,.tmp 3 false] [1,3] ⟨trF h1,trF h5,trivial⟩) ?_
 refine .then ?_
 replace hm:=bb_inv hm;obtain ⟨h6,hm⟩:=hm
 replace hm:=oo_inv hm;obtain ⟨v1,h7,hm⟩:=hm
 replace hm:=inv_toI hm;obtain ⟨x0,rfl,hm⟩:=hm
 replace hm:=bb_inv hm;obtain ⟨h8,hm⟩:=hm
 replace hm:=oo_inv hm;obtain ⟨v2,h9,hm⟩:=hm
 replace hm:=inv_vTup hm;obtain ⟨l0,rfl,hm⟩:=hm
 replace hm:=ll_uncons hm;obtain ⟨v3,l6515_0,rfl,hm⟩:=hm
 replace hm:=ll_uncons hm;obtain ⟨v4,l6515_1,rfl,hm⟩:=hm
 replace hm:=ll_end hm;obtain ⟨rfl,hm⟩:=hm
 replace hm:=inv_toI hm;obtain ⟨x1,rfl,hm⟩:=hm
 replace hm:=inv_toI hm;obtain ⟨x2,rfl,hm⟩:=hm
 refine .reg (eD (keep (hp 2 [oC q1,(oC (Sl.cs s0))]) (bb (Nat.ble (0 + 22) (len q1)) (some (.agg ⟨(takeL 22 (dropL 0 q1))⟩)) none)) (keep_bb h6) (eD (bb (allL closed2 [(.agg ⟨(takeL 22 (dropL 0 q1))⟩)]) (oo (pu 57 [(.agg ⟨(takeL 22 (dropL 0 q1))⟩)]) none fun v=>some (v,(hp 2 [oC q1,(oC (Sl.cs s0))]))) (oo (mapO (purify (hp 2 [oC q1,(oC (Sl.cs s0))])) [(.agg ⟨(takeL 22 (dropL 0 q1))⟩)]) none fun l1=>oo (pu 57 l1) none fun v=>bb (plainT v) (some (v,(hp 2 [oC q1,(oC (Sl.cs s0))]))) none)) (callc_eq h8 h7) (eD ((oo (pu 31 [zI x0]) none fun v=>some (v,(hp 2 [oC q1,(oC (Sl.cs s0))])))) (call_eq h9) (eE)))) ?_
 refine .ghs (fr 45 [(3,(sc 0 0 1 (Sl.n s0) (d2 (Sl.n s0)))),(4,zI x1)]) (hp 1 [(oC (Sl.cs s0))]) (.k [1] [] [.tmp 3 false] [3,4] ⟨trF h5,trivial⟩) ?_
 refine .then ?_
 refine .then (.rK ?_)
 refine .ghs (fr 45 [(3,(sc 0 0 1 (Sl.n s0) (d2 (Sl.n s0)))),(4,zI x1),(20,(zB (ilt (wrapF .i64 (Int.add x1 (1:Int))) (Int.ofNat (Sl.n s0)))))]) (hp 1 [(oC (Sl.cs s0))]) (.k [0] [] [.tmp 3 false] [3,4,20] ⟨trF h5,trivial⟩) ?_
 replace hm:=bb_cases hm;rcases hm with ⟨h10,hm⟩ | ⟨h10,hm⟩
 ·refine .ifT (ilt (wrapF .i64 (Int.add x1 (1 : Int))) (Int.ofNat (Sl.n s0))) (by kernel_rfl) h10 ?_
  refine .then (.rK ?_)
  refine .ghs (fr 45 [(2,zB false)]) (hp 0 []) (.k0 [] [] [2]) ?_
  refine .ret ?_
  exact fin_ret (zB false) (by kernel_rfl) (by kernel_rfl) hm
 ·refine .ifF (ilt (wrapF .i64 (Int.add x1 (1 : Int))) (Int.ofNat (Sl.n s0))) (by kernel_rfl) h10 ?_
  refine .skip ?_
  refine .ghs (fr 45 [(3,(sc 0 0 1 (Sl.n s0) (d2 (Sl.n s0)))),(4,zI x1)]) (hp 1 [(oC (Sl.cs s0))]) (.k [0] [] [.tmp 3 false] [3,4] ⟨trF h5,trivial⟩) ?_
  refine .join (v:=v) (fun y:Unit=>((fr 45 []),(hp 0 []))) (fun y=>m29_0 pu n) ?_ ?_
  ·rintro _ hm
   exact w29_0 pu n hm
  ·refine .then ?_
   replace hm:=oo_inv hm;obtain ⟨k1,h11,hm⟩:=hm
   replace hm:=bb_cases hm;rcases hm with ⟨h12,hm⟩ | ⟨h12,hm⟩
   ·replace hm := bb_inv hm; obtain ⟨h13, hm⟩ := hm
    refine .reg (eC 5 (some ((zI (wrapF .i64 (Int.sub (wrapF .i64 (Int.add x1 (1:Int))) (Int.ofNat (Sl.n s0))))),(hp 1 [(oC (Sl.cs s0))]))) (show _ = some ((zI (Int.ofNat k1)),_) from (by rw [toN_some h11])) (eD (appZ (hp 1 [(oC (Sl.cs s0))]) 1 8 ([(zI (0:Int))]:LV) (sc 0 0 1 (Sl.n s0) (d2 (Sl.n s0))) k1) (appZ_0 h13 h12) (eE))) ?_
    refine .ghs (fr 45 [(4,zI x1),(27,(sc 0 0 1 (Sl.n s0) (d2 (Sl.n s0)))),(28,(zI (Int.ofNat (Sl.n s0)))),(29,(zI (0:Int)))]) (hp 1 [(oC (Sl.cs s0))]) (.k [0] [] [.tmp 27 false] [4,27,28,29] ⟨trF h5,trivial⟩) ?_
    refine .block ?_
    refine .loopM (v:=v) (fun y:Int×Nat×Nat×Int×Int×LV=>((fr 45 [(4,(zI y.1)),(27,(sc 0 0 1 y.2.1 y.2.2.1)),(28,(zI y.2.2.2.1)),(29,(zI y.2.2.2.2.1))]),(hp 1 [(oC y.2.2.2.2.2)]))) (fun w y=>l29_1 pu n w y.1 y.2.1 y.2.2.1 y.2.2.2.1 y.2.2.2.2.1 y.2.2.2.2.2) n ⟨(x1,(Sl.n s0),(d2 (Sl.n s0)),(Int.ofNat (Sl.n s0)),(0:Int),(Sl.cs s0)),hm,(.k [0] [] [.tmp 27 false] [4,27,28,29] ⟨trF h5,trivial⟩)⟩ (fun _=>rfl) ?_
    rintro w0 ⟨z0,n0,c0,z1,z2,q2⟩ hm
    replace hm:b29_1 pu n (l29_1 pu n w0) z0 n0 c0 z1 z2 q2 = some v:=hm
    unfold b29_1 at hm
    refine .then (.rK ?_)
    replace hm:=bb_inv hm;obtain ⟨h14,hm⟩:=hm
    refine .ghs (fr 45 [(4,zI z0),(27,sc 0 0 1 n0 c0),(28,zI z1),(29,zI z2),(30,(zB (ilt z2 z1)))]) (hp 1 [oC q2]) (.k [0] [] [.tmp 27 false] [4,27,28,29,30] ⟨trF h14,trivial⟩) ?_
    refine .then ?_
    replace hm:=bb_cases hm;rcases hm with ⟨h15,hm⟩ | ⟨h15,hm⟩
    ·refine .ifT (ilt z2 z1) (by kernel_rfl) h15 ?_
     refine .skip ?_
     refine .ghs (fr 45 [(4,zI z0),(27,sc 0 0 1 n0 c0),(28,zI z1),(29,zI z2)]) (hp 1 [oC q2]) (.k [0] [] [.tmp 27 false] [4,27,28,29] ⟨trF h14,trivial⟩) ?_
     refine .then ?_
     refine .block ?_
     refine .then ?_
     replace hm:=oo_inv hm;obtain ⟨k2,h16,hm⟩:=hm
     obtain rfl:=toN_some h16
     replace hm:=bb_inv hm;obtain ⟨h17,hm⟩:=hm
     replace hm:=oo_inv hm;obtain ⟨v5,h18,hm⟩:=hm
     replace hm:=inv_toI hm;obtain ⟨x3,rfl,hm⟩:=hm
     refine .reg (eC 1 (keep (hp 1 [oC q2]) (bb (an (Nat.blt k2 n0) true) (some (.pointer (some ⟨0,(0 + k2 * 1),none⟩))) none)) (keep_bb h17) (eD (keep (hp 1 [oC q2]) (nthL q2 (0 + k2 * 1))) (keep_eq h18) (eE))) ?_
     refine .ghs (fr 45 [(4,zI z0),(6,(zI (Int.ofNat k2))),(7,zI x3),(27,sc 0 0 1 n0 c0),(28,zI z1),(29,(zI (Int.ofNat k2)))]) (hp 1 [oC q2]) (.k [0] [] [.tmp 27 false] [4,6,7,27,28,29] ⟨trF h14,trivial⟩) ?_
     refine .then ?_
     replace hm:=oo_inv hm;obtain ⟨v6,h19,hm⟩:=hm
     replace hm:=inv_vBool hm;obtain ⟨b0,rfl,hm⟩:=hm
     refine .reg (eC 8 ((oo (pu 30 [(zI (wrapF .i64 (Int.sub z0 (Int.ofNat k2)))),zI x3,(zI (wrapF .i64 (Int.sub (wrapF .i64 (Int.add z0 (1:Int))) (Int.ofNat k2))))]) none fun v=>some (v,(hp 1 [oC q2])))) (call_eq h19) (eE)) ?_
     refine .ghs (fr 45 [(4,zI z0),(27,sc 0 0 1 n0 c0),(28,zI z1),(29,(zI (Int.ofNat k2))),(43,(zB (nt b0)))]) (hp 1 [oC q2]) (.k [0] [] [.tmp 27 false] [4,27,28,29,43] ⟨trF h14,trivial⟩) ?_
     replace hm:=bb_cases hm;rcases hm with ⟨h20,hm⟩ | ⟨h20,hm⟩
     ·refine .ifT (nt b0) (by kernel_rfl) h20 ?_
      refine .then (.rK ?_)
      refine .ghs (fr 45 [(2,zB false)]) (hp 0 []) (.k0 [] [] [2]) ?_
      refine .ret ?_
      exact fin_ret (zB false) (by kernel_rfl) (by kernel_rfl) hm
     ·refine .ifF (nt b0) (by kernel_rfl) h20 ?_
      refine .skip ?_
      refine .ghs (fr 45 [(4,zI z0),(27,sc 0 0 1 n0 c0),(28,zI z1),(29,(zI (Int.ofNat k2)))]) (hp 1 [oC q2]) (.k [0] [] [.tmp 27 false] [4,27,28,29] ⟨trF h14,trivial⟩) ?_
      refine .rK ?_
      exact ⟨(z0,n0,c0,z1,(wrapF .i64 (Int.add (Int.ofNat k2) (1:Int))),q2),hm,(.k [0] [] [.tmp 27 false] [4,27,28,29] ⟨trF h14,trivial⟩)⟩
    ·refine .ifF (ilt z2 z1) (by kernel_rfl) h15 ?_
     refine .exit ?_
     exact ⟨(),hm,(.k0 [] [] [])⟩
   ·replace hm := bb_inv hm; obtain ⟨h13, hm⟩ := hm
    replace hm:=bb_inv hm;obtain ⟨h21,hm⟩:=hm
    refine .reg (eC 5 (some ((zI (wrapF .i64 (Int.sub (wrapF .i64 (Int.add x1 (1:Int))) (Int.ofNat (Sl.n s0))))),(hp 1 [(oC (Sl.cs s0))]))) (show _ = some ((zI (Int.ofNat k1)),_) from (by rw [toN_some h11])) (eD (appZ (hp 1 [(oC (Sl.cs s0))]) 1 8 ([(zI (0:Int))]:LV) (sc 0 0 1 (Sl.n s0) (d2 (Sl.n s0))) k1) (appZ_grow (H:=(hp 1 [(oC (Sl.cs s0))])) (id:=0) (n:=(Sl.n s0)) (c2:=(d2 (Sl.n s0))) (xs:=(Sl.cs s0)) (anc:=[]) h13 h12 (by kernel_rfl) (by kernel_rfl) h21) (eE))) ?_
    replace hm:=bb_inv hm;obtain ⟨h22,hm⟩:=hm
    refine .ghs (fr 45 [(4,zI x1),(27,(sc 0 0 1 ((Sl.n s0) + k1) (d2 ((Sl.n s0) + k1)))),(28,(zI (Int.ofNat ((Sl.n s0) + k1)))),(29,(zI (0:Int)))]) (hp 1 [(oC (appL (dropL 0 (Sl.cs s0)) (zeroRow ([(zI (0:Int))]:LV) k1)))]) (.k [1] [] [.tmp 27 false] [4,27,28,29] ⟨trF h22,trivial⟩) ?_
    refine .block ?_
    refine .loopM (v:=v) (fun y:Int×Nat×Nat×Int×Int×LV=>((fr 45 [(4,(zI y.1)),(27,(sc 0 0 1 y.2.1 y.2.2.1)),(28,(zI y.2.2.2.1)),(29,(zI y.2.2.2.2.1))]),(hp 1 [(oC y.2.2.2.2.2)]))) (fun w y=>l29_2 pu n w y.1 y.2.1 y.2.2.1 y.2.2.2.1 y.2.2.2.2.1 y.2.2.2.2.2) n ⟨(x1,((Sl.n s0) + k1),(d2 ((Sl.n s0) + k1)),(Int.ofNat ((Sl.n s0) + k1)),(0:Int),(appL (dropL 0 (Sl.cs s0)) (zeroRow ([(zI (0:Int))]:LV) k1))),hm,(.k [0] [] [.tmp 27 false] [4,27,28,29] ⟨trF h22,trivial⟩)⟩ (fun _=>rfl) ?_
    rintro w0 ⟨z3,n1,c1,z4,z5,q3⟩ hm
    replace hm:b29_2 pu n (l29_2 pu n w0) z3 n1 c1 z4 z5 q3 = some v:=hm
    unfold b29_2 at hm
    refine .then (.rK ?_)
    replace hm:=bb_inv hm;obtain ⟨h23,hm⟩:=hm
    refine .ghs (fr 45 [(4,zI z3),(27,sc 0 0 1 n1 c1),(28,zI z4),(29,zI z5),(30,(zB (ilt z5 z4)))]) (hp 1 [oC q3]) (.k [0] [] [.tmp 27 false] [4,27,28,29,30] ⟨trF h23,trivial⟩) ?_
    refine .then ?_
    replace hm:=bb_cases hm;rcases hm with ⟨h24,hm⟩ | ⟨h24,hm⟩
    ·refine .ifT (ilt z5 z4) (by kernel_rfl) h24 ?_
     refine .skip ?_
     refine .ghs (fr 45 [(4,zI z3),(27,sc 0 0 1 n1 c1),(28,zI z4),(29,zI z5)]) (hp 1 [oC q3]) (.k [0] [] [.tmp 27 false] [4,27,28,29] ⟨trF h23,trivial⟩) ?_
     refine .then ?_
     refine .block ?_
     refine .then ?_
     replace hm:=oo_inv hm;obtain ⟨k3,h25,hm⟩:=hm
     obtain rfl:=toN_some h25
     replace hm:=bb_inv hm;obtain ⟨h26,hm⟩:=hm
     replace hm:=oo_inv hm;obtain ⟨v7,h27,hm⟩:=hm
     replace hm:=inv_toI hm;obtain ⟨x4,rfl,hm⟩:=hm
     refine .reg (eC 1 (keep (hp 1 [oC q3]) (bb (an (Nat.blt k3 n1) true) (some (.pointer (some ⟨0,(0 + k3 * 1),none⟩))) none)) (keep_bb h26) (eD (keep (hp 1 [oC q3]) (nthL q3 (0 + k3 * 1))) (keep_eq h27) (eE))) ?_
     refine .ghs (fr 45 [(4,zI z3),(6,(zI (Int.ofNat k3))),(7,zI x4),(27,sc 0 0 1 n1 c1),(28,zI z4),(29,(zI (Int.ofNat k3)))]) (hp 1 [oC q3]) (.k [0] [] [.tmp 27 false] [4,6,7,27,28,29] ⟨trF h23,trivial⟩) ?_
     refine .then ?_
     replace hm:=oo_inv hm;obtain ⟨v8,h28,hm⟩:=hm
     replace hm:=inv_vBool hm;obtain ⟨b1,rfl,hm⟩:=hm
     refine .reg (eC 8 ((oo (pu 30 [(zI (wrapF .i64 (Int.sub z3 (Int.ofNat k3)))),zI x4,(zI (wrapF .i64 (Int.sub (wrapF .i64 (Int.add z3 (1:Int))) (Int.ofNat k3))))]) none fun v=>some (v,(hp 1 [oC q3])))) (call_eq h28) (eE)) ?_
     refine .ghs (fr 45 [(4,zI z3),(27,sc 0 0 1 n1 c1),(28,zI z4),(29,(zI (Int.ofNat k3))),(43,(zB (nt b1)))]) (hp 1 [oC q3]) (.k [0] [] [.tmp 27 false] [4,27,28,29,43] ⟨trF h23,trivial⟩) ?_
     replace hm:=bb_cases hm;rcases hm with ⟨h29,hm⟩ | ⟨h29,hm⟩
     ·refine .ifT (nt b1) (by kernel_rfl) h29 ?_
      refine .then (.rK ?_)
      refine .ghs (fr 45 [(2,zB false)]) (hp 0 []) (.k0 [] [] [2]) ?_
      refine .ret ?_
      exact fin_ret (zB false) (by kernel_rfl) (by kernel_rfl) hm
     ·refine .ifF (nt b1) (by kernel_rfl) h29 ?_
      refine .skip ?_
      refine .ghs (fr 45 [(4,zI z3),(27,sc 0 0 1 n1 c1),(28,zI z4),(29,(zI (Int.ofNat k3)))]) (hp 1 [oC q3]) (.k [0] [] [.tmp 27 false] [4,27,28,29] ⟨trF h23,trivial⟩) ?_
      refine .rK ?_
      exact ⟨(z3,n1,c1,z4,(wrapF .i64 (Int.add (Int.ofNat k3) (1:Int))),q3),hm,(.k [0] [] [.tmp 27 false] [4,27,28,29] ⟨trF h23,trivial⟩)⟩
    ·refine .ifF (ilt z5 z4) (by kernel_rfl) h24 ?_
     refine .exit ?_
     exact ⟨(),hm,(.k0 [] [] [])⟩
def m30_0 (pu:PureF) (n:Nat) (b0:Bool):OV:=
 (some (.bool b0))
def m30_ (pu:PureF) (n:Nat) (x0 x1 x2:Int):OV:=
 (bb (nt (ilt x1 x0)) (m30_0 pu n (nt (ilt x2 x1))) (m30_0 pu n false))
def m30 (pu:PureF) (n:Nat) (args:LV):OV:=
 (ll args none fun a0 args=>(ll args none fun a1 args=>(ll args none fun a2 args=>(ll args (oo (toI .i64 a0) none fun x0=>(oo (toI .i64 a1) none fun x1=>(oo (toI .i64 a2) none fun x2=>(m30_ pu n x0 x1 x2)))) fun _ _=>none))))
theorem w30_0 (pu:PureF) (n:Nat) (b0:Bool) {v:Value} (hm:m30_0 pu n b0 = some v):Run tt (callP tabs isP pu (inl pu)) 0 .ret (fr 15 [(6,zB b0)]) (hp 0 []) (Fin tt 0 [.tmp 6] v):=by
 unfold m30_0 at hm
 refine .ret ?_
 exact fin_ret (zB b0) (by kernel_rfl) (by kernel_rfl) hm
theorem r30 {call:CallF} (pu:PureF) (n:Nat) (hcall:call = callP tabs isP pu (inl pu)) {args:LV} {v:Value} (hm:m30 pu n args = some v) (_:∀ x ∈ args,closed2 x = true):args.length≤15∧Run tt call 0 c30_3 (Fr.made 15 args) (pureHeap tabs) (Fin tt 0 [.tmp 6] v):=by
 subst hcall
 unfold m30 at hm
 replace hm:=ll_uncons hm;obtain ⟨a0,args_0,rfl,hm⟩:=hm
 replace hm:=ll_uncons hm;obtain ⟨a1,args_1,rfl,hm⟩:=hm
 replace hm:=ll_uncons hm;obtain ⟨a2,args_2,rfl,hm⟩:=hm
 replace hm:=ll_end hm;obtain ⟨rfl,hm⟩:=hm
 replace hm:=inv_toI hm;obtain ⟨x0,rfl,hm⟩:=hm
 replace hm:=inv_toI hm;obtain ⟨x1,rfl,hm⟩:=hm
 replace hm:=inv_toI hm;obtain ⟨x2,rfl,hm⟩:=hm
 unfold m30_ at hm
 refine ⟨by simp,?_⟩
 refine .same (F':=(fr 15 [(0,zI x0),(1,zI x1),(2,zI x2)])) (H':=(hp 0 [])) (by kernel_rfl) (by kernel_rfl) ?_
 refine .then (.rK ?_)
 refine .ghs (fr 15 [(0,zI x0),(1,zI x1),(2,zI x2)]) (hp 0 []) (.k0 [] [] [0,1,2]) ?_
 refine .join (v:=v) (fun y:Bool=>((fr 15 [(6,zB y)]),(hp 0 []))) (fun y=>m30_0 pu n y) ?_ ?_
 ·rintro b0 hm
  exact w30_0 pu n b0 hm
 ·replace hm := bb_cases hm; rcases hm with ⟨h0, hm⟩ | ⟨h0, hm⟩
  ·refine .reg (eC 2 (some ((zB (nt (ilt x1 x0))), (hp 0 []))) (show _ = some ((zB true), _) from (by rw [h0])) (eE)) ?_
   exact ⟨(nt (ilt x2 x1)),hm,(.k0 [] [] [6])⟩
  ·refine .reg (eC 2 (some ((zB (nt (ilt x1 x0))), (hp 0 []))) (show _ = some ((zB false), _) from (by rw [h0])) (eE)) ?_
   exact ⟨false,hm,(.k0 [] [] [6])⟩
def m31_0 (pu:PureF) (n:Nat) (z0 z1:Int):OV:=
 (some (.tuple ⟨[.int .i64 z0,.int .i64 z1]⟩))
def b31_1 (pu:PureF) (n:Nat) (ih0:Int→Int→OV) (z0 z1:Int):OV:=
 (bb (ilt z0 z1) (ih0 (wrapF .i64 (Int.add z0 (1:Int))) (wrapF .i64 (Int.sub z1 (wrapF .i64 (Int.add z0 (1:Int)))))) (m31_0 pu n z0 z1))
def l31_1 (pu:PureF) (n w:Nat):Int→Int→OV:=
 Nat.rec (motive:=fun _=>Int→Int→OV) (fun _ _=>none) (fun _ ih0=>b31_1 pu n ih0) w
def m31_ (pu:PureF) (n:Nat) (x0:Int):OV:=
 (l31_1 pu n n (0:Int) x0)
def m31 (pu:PureF) (n:Nat) (args:LV):OV:=
 (ll args none fun a0 args=>(ll args (oo (toI .i64 a0) none fun x0=>(m31_ pu n x0)) fun _ _=>none))
theorem w31_0 (pu:PureF) (n:Nat) (z0 z1:Int) {v:Value} (hm:m31_0 pu n z0 z1 = some v):Run tt (callP tabs isP pu (inl pu)) 0 c31_14 (fr 15 [(2,zI z0),(3,zI z1)]) (hp 0 []) (Fin tt 0 [.tmp 2,.tmp 3] v):=by
 unfold m31_0 at hm
 refine .then (.rK ?_)
 refine .ghs (fr 15 [(2,zI z0),(3,zI z1)]) (hp 0 []) (.k0 [] [] [2,3]) ?_
 refine .ret ?_
 exact fin_ret (.tuple ⟨[zI z0,zI z1]⟩) (by kernel_rfl) (by kernel_rfl) hm
theorem r31 {call:CallF} (pu:PureF) (n:Nat) (hcall:call = callP tabs isP pu (inl pu)) {args:LV} {v:Value} (hm:m31 pu n args = some v) (_:∀ x ∈ args,closed2 x = true):args.length≤15∧Run tt call 0 c31_16 (Fr.made 15 args) (pureHeap tabs) (Fin tt 0 [.tmp 2,.tmp 3] v):=by
 subst hcall
 unfold m31 at hm
 replace hm:=ll_uncons hm;obtain ⟨a0,args_0,rfl,hm⟩:=hm
 replace hm:=ll_end hm;obtain ⟨rfl,hm⟩:=hm
 replace hm:=inv_toI hm;obtain ⟨x0,rfl,hm⟩:=hm
 unfold m31_ at hm
 refine ⟨by simp,?_⟩
 refine .same (F':=(fr 15 [(0,zI x0)])) (H':=(hp 0 [])) (by kernel_rfl) (by kernel_rfl) ?_
 refine .then (.rK ?_)
 refine .ghs (fr 15 [(0,zI x0),(2,(zI (0:Int)))]) (hp 0 []) (.k0 [] [] [0,2]) ?_
 refine .join (v:=v) (fun y:Int×Int=>((fr 15 [(2,(zI y.1)),(3,(zI y.2))]),(hp 0 []))) (fun y=>m31_0 pu n y.1 y.2) ?_ ?_
 ·rintro ⟨z0, z1⟩ hm
  exact w31_0 pu n z0 z1 hm
 ·refine .then (.rK ?_)
  refine .ghs (fr 15 [(2,(zI (0:Int))),(3,zI x0)]) (hp 0 []) (.k0 [] [] [2,3]) ?_
  refine .block ?_
  refine .loopM (v:=v) (fun y:Int×Int=>((fr 15 [(2,(zI y.1)),(3,(zI y.2))]),(hp 0 []))) (fun w y=>l31_1 pu n w y.1 y.2) n ⟨((0:Int),x0),hm,(.k0 [] [] [2,3])⟩ (fun _=>rfl) ?_
  rintro w0 ⟨z2,z3⟩ hm
  replace hm:b31_1 pu n (l31_1 pu n w0) z2 z3 = some v:=hm
  unfold b31_1 at hm
  refine .then ?_
  refine .then (.rK ?_)
  refine .ghs (fr 15 [(2,zI z2),(3,zI z3),(7,(zB (ilt z2 z3)))]) (hp 0 []) (.k0 [] [] [2,3,7]) ?_
  replace hm:=bb_cases hm;rcases hm with ⟨h0,hm⟩ | ⟨h0,hm⟩
  ·refine .ifT (ilt z2 z3) (by kernel_rfl) h0 ?_
   refine .skip ?_
   refine .ghs (fr 15 [(2,zI z2),(3,zI z3)]) (hp 0 []) (.k0 [] [] [2,3]) ?_
   refine .block ?_
   refine .then (.rK ?_)
   refine .ghs (fr 15 [(2,(zI (wrapF .i64 (Int.add z2 (1:Int))))),(3,zI z3)]) (hp 0 []) (.k0 [] [] [2,3]) ?_
   refine .rK ?_
   exact ⟨((wrapF .i64 (Int.add z2 (1:Int))),(wrapF .i64 (Int.sub z3 (wrapF .i64 (Int.add z2 (1:Int)))))),hm,(.k0 [] [] [2,3])⟩
  ·refine .ifF (ilt z2 z3) (by kernel_rfl) h0 ?_
   refine .exit ?_
   exact ⟨(z2,z3),hm,(.k0 [] [] [2,3])⟩
def m36_0 (pu:PureF) (n n0 c0:Nat) (z0:Int) (q1:LV):OV:=
 (bb (an (Nat.ble (0 + n0 * 1) (len q1)) (allL closed1 (takeL (n0 * 1) (dropL 0 q1)))) (bb (nt (Nat.beq (Sl.fl (Sl.mk n0 0 (takeL (n0 * 1) (dropL 0 q1)))) 2)) (oo (toN z0) none fun k1=>(bb (Nat.ble k1 (Sl.n (Sl.mk n0 0 (takeL (n0 * 1) (dropL 0 q1))))) (bb (nt (Nat.beq (Sl.fl (Sl.mk n0 0 (takeL (n0 * 1) (dropL 0 q1)))) 2)) (bb (Nat.ble k1 (Sl.n (Sl.mk n0 0 (takeL (n0 * 1) (dropL 0 q1))))) (oo (pu 60 [(Sl.v 1 (Sl.mk 2 0 (takeL (2 * 1) (dropL 0 ([(Sl.v 1 (Sl.mk ((Sl.n (Sl.mk n0 0 (takeL (n0 * 1) (dropL 0 q1)))) - k1) (bb (an (Nat.beq (Sl.n (Sl.mk n0 0 (takeL (n0 * 1) (dropL 0 q1)))) (Sl.n (Sl.mk n0 0 (takeL (n0 * 1) (dropL 0 q1))))) (orr false (Nat.beq (Sl.fl (Sl.mk n0 0 (takeL (n0 * 1) (dropL 0 q1)))) 1))) 1 0) (takeL (((Sl.n (Sl.mk n0 0 (takeL (n0 * 1) (dropL 0 q1)))) - k1) * 1) (dropL (k1 * 1) (Sl.cs (Sl.mk n0 0 (takeL (n0 * 1) (dropL 0 q1)))))))),(Sl.v 1 (Sl.mk (k1 - 0) (bb (an (Nat.beq k1 (Sl.n (Sl.mk n0 0 (takeL (n0 * 1) (dropL 0 q1))))) (orr false (Nat.beq (Sl.fl (Sl.mk n0 0 (takeL (n0 * 1) (dropL 0 q1)))) 1))) 1 0) (takeL ((k1 - 0) * 1) (dropL (0 * 1) (Sl.cs (Sl.mk n0 0 (takeL (n0 * 1) (dropL 0 q1))))))))]:LV)))))]) none fun v0=>(oo (toSl 1 v0) none fun s0=>(some (Sl.v 1 s0)))) none) none) none)) none) none)
def m36_3 (pu:PureF) (n:Nat) (ih0:Nat→Nat→Int→Int→LV→LV→LV→OV) (n0 c0:Nat) (z0 z1:Int) (q1:LV) (q2:LV) (q3:LV):OV:=
 (bb (Nat.ble (0 + 22) (len q3)) (bb (Nat.beq (len (takeL 22 (dropL 0 q3))) 22) (bb (an (Nat.ble (0 + len (takeL 22 (dropL 0 q3))) (len zA54)) (allL scalarB (takeL 22 (dropL 0 q3)))) (bb (allL closed1 q1) (bb (allL closed1 q2) (bb (allL closed1 (setL (takeL 22 (dropL 0 q3)) 0 zA54)) (bb (Nat.ble (0 + 22) (len (setL (takeL 22 (dropL 0 q3)) 0 zA54))) (oo (pu 59 [(.agg ⟨(takeL 22 (dropL 0 (setL (takeL 22 (dropL 0 q3)) 0 zA54)))⟩)]) none fun v0=>(oo (vAgg v0) none fun q4=>(bb (an (Nat.beq (len q4) 22) (allL closed1 q4)) (bb (allL closed2 [(.agg ⟨(takeL 22 (dropL 0 (setL (takeL 22 (dropL 0 q3)) 0 zA54)))⟩)]) (bb (Nat.beq (len q4) 22) (bb (an (Nat.ble (0 + len q4) (len (setL (takeL 22 (dropL 0 q3)) 0 zA54))) (allL scalarB q4)) (bb (allL closed1 (setL q4 0 (setL (takeL 22 (dropL 0 q3)) 0 zA54))) (ih0 n0 c0 z0 (wrapF .i64 (Int.add z1 (1:Int))) q1 q2 (setL q4 0 (setL (takeL 22 (dropL 0 q3)) 0 zA54))) none) none) none) none) none))) none) none) none) none) none) none) none)
def m36_2 (pu:PureF) (n:Nat) (ih0:Nat→Nat→Int→Int→LV→LV→LV→OV) (n0 c0:Nat) (z0 z1:Int) (b0:Bool) (q1:LV) (q2:LV) (q3:LV):OV:=
 (bb b0 (bb (allL closed1 q1) (bb (allL closed1 q2) (bb (allL closed1 q3) (bb (Nat.ble (0 + 22) (len q3)) (oo (pu 56 [(.agg ⟨(takeL 22 (dropL 0 q3))⟩)]) none fun v0=>(oo (toSl 1 v0) none fun s0=>(bb (allL closed2 [(.agg ⟨(takeL 22 (dropL 0 q3))⟩)]) (bb (an (Nat.ble (0 + (Sl.n s0) * 1) (len (Sl.cs s0))) (allL closed1 (takeL ((Sl.n s0) * 1) (dropL 0 (Sl.cs s0))))) (bb (growC 1 24 n0 c0 1 q2) (bb (allL closed1 (appL (dropL 0 q2) [(Sl.v 1 (Sl.mk (Sl.n s0) 0 (takeL ((Sl.n s0) * 1) (dropL 0 (Sl.cs s0)))))])) (oo (toN z1) none fun k1=>(bb (an (Nat.blt k1 (n0 + 1)) true) (oo (nthL (appL (dropL 0 q2) [(Sl.v 1 (Sl.mk (Sl.n s0) 0 (takeL ((Sl.n s0) * 1) (dropL 0 (Sl.cs s0)))))]) (0 + k1 * 1)) none fun v1=>(oo (toSl 1 v1) none fun s1=>(oo (toN z0) none fun k2=>(bb (an (Nat.blt k2 (n0 + 1)) true) (oo (nthL (appL (dropL 0 q2) [(Sl.v 1 (Sl.mk (Sl.n s0) 0 (takeL ((Sl.n s0) * 1) (dropL 0 (Sl.cs s0)))))]) (0 + k2 * 1)) none fun v2=>(oo (toSl 1 v2) none fun s2=>(oo (pu 12 [Sl.v 1 s1,Sl.v 1 s2]) none fun v3=>(oo (toI .i64 v3) none fun x0=>(bb (ilt x0 (0:Int)) (m36_3 pu n ih0 (n0 + 1) (2 * (n0 + 1) + bb false 1 0) (Int.ofNat k1) (Int.ofNat k1) q1 (appL (dropL 0 q2) [(Sl.v 1 (Sl.mk (Sl.n s0) 0 (takeL ((Sl.n s0) * 1) (dropL 0 (Sl.cs s0)))))]) q3) (m36_3 pu n ih0 (n0 + 1) (2 * (n0 + 1) + bb false 1 0) (Int.ofNat k2) (Int.ofNat k1) q1 (appL (dropL 0 q2) [(Sl.v 1 (Sl.mk (Sl.n s0) 0 (takeL ((Sl.n s0) * 1) (dropL 0 (Sl.cs s0)))))]) q3)))))) none)))) none)) none) none) none) none))) none) none) none) none) (bb (allL closed1 q2) (m36_0 pu n n0 c0 z0 q2) none))
def b36_1 (pu:PureF) (n:Nat) (ih0:Nat→Nat→Int→Int→LV→LV→LV→OV) (n0 c0:Nat) (z0 z1:Int) (q1:LV) (q2:LV) (q3:LV):OV:=
 (bb (ieq z1 (0:Int)) (bb (allL closed1 q1) (bb (allL closed1 q2) (bb (allL closed1 q3) (m36_2 pu n ih0 n0 c0 z0 z1 true q1 q2 q3) none) none) none) (bb (Nat.ble (0 + 22) (len q3)) (bb (Nat.ble (0 + 22) (len q1)) (bb (flatLike ti54 (takeL 22 (dropL 0 q3))) (oo (cellsEq (takeL 22 (dropL 0 q3)) (takeL 22 (dropL 0 q1))) none fun b0=>(bb (allL closed1 q1) (bb (allL closed1 q2) (bb (allL closed1 q3) (m36_2 pu n ih0 n0 c0 z0 z1 (bq false b0) q1 q2 q3) none) none) none)) none) none) none))
def l36_1 (pu:PureF) (n w:Nat):Nat→Nat→Int→Int→LV→LV→LV→OV:=
 Nat.rec (motive:=fun _=>Nat→Nat→Int→Int→LV→LV→LV→OV) (fun _ _ _ _ _ _ _=>none) (fun _ ih0=>b36_1 pu n ih0) w
def m36_ (pu:PureF) (n:Nat) (q1:LV):OV:=
 (bb (allL closed1 q1) (bb (Nat.ble (0 + 22) (len q1)) (oo (pu 55 [(.agg ⟨(takeL 22 (dropL 0 q1))⟩)]) none fun v0=>(oo (vTup v0) none fun l0=>(ll l0 none fun v1 l0=>(ll l0 none fun v2 l0=>(ll l0 (oo (toI .i64 v1) none fun x0=>(oo (vAgg v2) none fun q2=>(bb (an (Nat.beq (len q2) 22) (allL closed1 q2)) (bb (allL closed2 [(.agg ⟨(takeL 22 (dropL 0 q1))⟩)]) (bb (Nat.beq (len q2) 22) (bb (an (Nat.ble (0 + len q2) (len zA54)) (allL scalarB q2)) (bb (allL closed1 (setL q2 0 zA54)) (bb (Nat.ble (0 + 22) (len (setL q2 0 zA54))) (bb (Nat.beq (len (takeL 22 (dropL 0 (setL q2 0 zA54)))) 22) (bb (an (Nat.ble (0 + len (takeL 22 (dropL 0 (setL q2 0 zA54)))) (len zA54)) (allL scalarB (takeL 22 (dropL 0 (setL q2 0 zA54))))) (bb (allL closed1 (setL (takeL 22 (dropL 0 (setL q2 0 zA54))) 0 zA54)) (l36_1 pu n n 0 0 (0:Int) (0:Int) (setL q2 0 zA54) ([]:LV) (setL (takeL 22 (dropL 0 (setL q2 0 zA54))) 0 zA54)) none) none) none) none) none) none) none) none) none))) fun _ _=>none))))) none) none)
def m36 (pu:PureF) (n:Nat) (args:LV):OV:=
 (ll args none fun a0 args=>(ll args (oo (vAgg a0) none fun q1=>(bb (an (Nat.beq (len q1) 22) (allL closed1 q1)) (m36_ pu n q1) none)) fun _ _=>none))
theorem w36_0 (pu:PureF) (n n0 c0:Nat) (z0:Int) (q1:LV) {v:Value} (hm:m36_0 pu n n0 c0 z0 q1 = some v):Run tt (callP tabs isP pu (inl pu)) 0 c36_26 (fr 51 [(5,sc 0 0 1 n0 c0),(6,zI z0)]) (hp 1 [oC q1]) (Fin tt 0 [.tmp 2] v):=by
 unfold m36_0 at hm
 refine .then ?_
 replace hm:=bb_inv hm;obtain ⟨h0,hm⟩:=hm
 refine .ghs (Fr.puts (fr 51 [(5,sc 0 0 1 n0 c0),(6,zI z0)]) [(5,(Sl.v 1 (Sl.mk n0 0 (takeL (n0 * 1) (dropL 0 q1)))))]) (hp 1 [.dead]) (.freezeC 0 5 1 (an (Nat.ble (0 + n0 * 1) (len q1)) (allL closed1 (takeL (n0 * 1) (dropL 0 q1)))) (F1:=(Fr.puts (fr 51 [(5,sc 0 0 1 n0 c0),(6,zI z0)]) [(5,(Sl.v 1 (Sl.mk n0 0 (takeL (n0 * 1) (dropL 0 q1)))))])) (H1:=(hp 1 [.dead])) (by kernel_rfl) (by kernel_rfl) h0 (GhS.id _ _)) ?_
 replace hm:=bb_inv hm;obtain ⟨h1,hm⟩:=hm
 replace hm:=oo_inv hm;obtain ⟨k1,h2,hm⟩:=hm
 obtain rfl:=toN_some h2
 replace hm:=bb_inv hm;obtain ⟨h3,hm⟩:=hm
 replace hm:=bb_inv hm;obtain ⟨h4,hm⟩:=hm
 replace hm:=bb_inv hm;obtain ⟨h5,hm⟩:=hm
 replace hm:=oo_inv hm;obtain ⟨v0,h6,hm⟩:=hm
 replace hm:=inv_toSl hm;obtain ⟨s0,rfl,hm⟩:=hm
 refine .reg (eC 2 (keep (hp 1 [.dead]) (asliceFs ti25 ⟨1,(Sl.n (Sl.mk n0 0 (takeL (n0 * 1) (dropL 0 q1)))),(Sl.fl (Sl.mk n0 0 (takeL (n0 * 1) (dropL 0 q1)))),(Sl.cs (Sl.mk n0 0 (takeL (n0 * 1) (dropL 0 q1))))⟩ (some (zI (Int.ofNat k1))) none none)) (asliceFs_eq (c1:=true) (c2:=(Nat.ble k1 (Sl.n (Sl.mk n0 0 (takeL (n0 * 1) (dropL 0 q1)))))) (l:=k1) (h:=(Sl.n (Sl.mk n0 0 (takeL (n0 * 1) (dropL 0 q1))))) h1 (by kernel_rfl) (by kernel_rfl) rfl (by kernel_rfl) h3) (eC 2 (keep (hp 1 [.dead]) (asliceFs ti25 ⟨1,(Sl.n (Sl.mk n0 0 (takeL (n0 * 1) (dropL 0 q1)))),(Sl.fl (Sl.mk n0 0 (takeL (n0 * 1) (dropL 0 q1)))),(Sl.cs (Sl.mk n0 0 (takeL (n0 * 1) (dropL 0 q1))))⟩ none (some (zI (Int.ofNat k1))) none)) (asliceFs_eq (c1:=(Nat.ble k1 (Sl.n (Sl.mk n0 0 (takeL (n0 * 1) (dropL 0 q1)))))) (c2:=true) (l:=0) (h:=k1) h4 (by kernel_rfl) (by kernel_rfl) h5 (by kernel_rfl) rfl) (eC 1 (giveF tabs 1 (pu 60) [sc 1 0 1 2 5] (hp 2 [.dead,(oC [(Sl.v 1 (Sl.mk ((Sl.n (Sl.mk n0 0 (takeL (n0 * 1) (dropL 0 q1)))) - k1) (bb (an (Nat.beq (Sl.n (Sl.mk n0 0 (takeL (n0 * 1) (dropL 0 q1)))) (Sl.n (Sl.mk n0 0 (takeL (n0 * 1) (dropL 0 q1))))) (orr false (Nat.beq (Sl.fl (Sl.mk n0 0 (takeL (n0 * 1) (dropL 0 q1)))) 1))) 1 0) (takeL (((Sl.n (Sl.mk n0 0 (takeL (n0 * 1) (dropL 0 q1)))) - k1) * 1) (dropL (k1 * 1) (Sl.cs (Sl.mk n0 0 (takeL (n0 * 1) (dropL 0 q1)))))))),(Sl.v 1 (Sl.mk (k1 - 0) (bb (an (Nat.beq k1 (Sl.n (Sl.mk n0 0 (takeL (n0 * 1) (dropL 0 q1))))) (orr false (Nat.beq (Sl.fl (Sl.mk n0 0 (takeL (n0 * 1) (dropL 0 q1)))) 1))) 1 0) (takeL ((k1 - 0) * 1) (dropL (0 * 1) (Sl.cs (Sl.mk n0 0 (takeL (n0 * 1) (dropL 0 q1))))))))])])) (giveF_eq (giveL_cons (show giveV 1 (sc 1 0 1 2 5) (hp 2 [.dead,(oC [(Sl.v 1 (Sl.mk ((Sl.n (Sl.mk n0 0 (takeL (n0 * 1) (dropL 0 q1)))) - k1) (bb (an (Nat.beq (Sl.n (Sl.mk n0 0 (takeL (n0 * 1) (dropL 0 q1)))) (Sl.n (Sl.mk n0 0 (takeL (n0 * 1) (dropL 0 q1))))) (orr false (Nat.beq (Sl.fl (Sl.mk n0 0 (takeL (n0 * 1) (dropL 0 q1)))) 1))) 1 0) (takeL (((Sl.n (Sl.mk n0 0 (takeL (n0 * 1) (dropL 0 q1)))) - k1) * 1) (dropL (k1 * 1) (Sl.cs (Sl.mk n0 0 (takeL (n0 * 1) (dropL 0 q1)))))))),(Sl.v 1 (Sl.mk (k1 - 0) (bb (an (Nat.beq k1 (Sl.n (Sl.mk n0 0 (takeL (n0 * 1) (dropL 0 q1))))) (orr false (Nat.beq (Sl.fl (Sl.mk n0 0 (takeL (n0 * 1) (dropL 0 q1)))) 1))) 1 0) (takeL ((k1 - 0) * 1) (dropL (0 * 1) (Sl.cs (Sl.mk n0 0 (takeL (n0 * 1) (dropL 0 q1))))))))])]) = some ((Sl.v 1 (Sl.mk 2 0 (takeL (2 * 1) (dropL 0 ([(Sl.v 1 (Sl.mk ((Sl.n (Sl.mk n0 0 (takeL (n0 * 1) (dropL 0 q1)))) - k1) (bb (an (Nat.beq (Sl.n (Sl.mk n0 0 (takeL (n0 * 1) (dropL 0 q1)))) (Sl.n (Sl.mk n0 0 (takeL (n0 * 1) (dropL 0 q1))))) (orr false (Nat.beq (Sl.fl (Sl.mk n0 0 (takeL (n0 * 1) (dropL 0 q1)))) 1))) 1 0) (takeL (((Sl.n (Sl.mk n0 0 (takeL (n0 * 1) (dropL 0 q1)))) - k1) * 1) (dropL (k1 * 1) (Sl.cs (Sl.mk n0 0 (takeL (n0 * 1) (dropL 0 q1)))))))),(Sl.v 1 (Sl.mk (k1 - 0) (bb (an (Nat.beq k1 (Sl.n (Sl.mk n0 0 (takeL (n0 * 1) (dropL 0 q1))))) (orr false (Nat.beq (Sl.fl (Sl.mk n0 0 (takeL (n0 * 1) (dropL 0 q1)))) 1))) 1 0) (takeL ((k1 - 0) * 1) (dropL (0 * 1) (Sl.cs (Sl.mk n0 0 (takeL (n0 * 1) (dropL 0 q1))))))))]:LV))))),(hp 2 [.dead,.dead])) from giveV_sl 1 0 1 2 5 ([(Sl.v 1 (Sl.mk ((Sl.n (Sl.mk n0 0 (takeL (n0 * 1) (dropL 0 q1)))) - k1) (bb (an (Nat.beq (Sl.n (Sl.mk n0 0 (takeL (n0 * 1) (dropL 0 q1)))) (Sl.n (Sl.mk n0 0 (takeL (n0 * 1) (dropL 0 q1))))) (orr false (Nat.beq (Sl.fl (Sl.mk n0 0 (takeL (n0 * 1) (dropL 0 q1)))) 1))) 1 0) (takeL (((Sl.n (Sl.mk n0 0 (takeL (n0 * 1) (dropL 0 q1)))) - k1) * 1) (dropL (k1 * 1) (Sl.cs (Sl.mk n0 0 (takeL (n0 * 1) (dropL 0 q1)))))))),(Sl.v 1 (Sl.mk (k1 - 0) (bb (an (Nat.beq k1 (Sl.n (Sl.mk n0 0 (takeL (n0 * 1) (dropL 0 q1))))) (orr false (Nat.beq (Sl.fl (Sl.mk n0 0 (takeL (n0 * 1) (dropL 0 q1)))) 1))) 1 0) (takeL ((k1 - 0) * 1) (dropL (0 * 1) (Sl.cs (Sl.mk n0 0 (takeL (n0 * 1) (dropL 0 q1))))))))]:LV) [] (by kernel_rfl) (by kernel_rfl) (by kernel_rfl)) giveL_nil) (by kernel_rfl) h6) (eE)))) ?_
 refine .ghs (fr 51 [(2,Sl.v 1 s0)]) (hp 0 []) (.k0 [] [] [2]) ?_
 refine .ret ?_
 exact fin_ret (Sl.v 1 s0) (by kernel_rfl) (by kernel_rfl) hm
theorem r36 {call:CallF} (pu:PureF) (n:Nat) (hcall:call = callP tabs isP pu (inl pu)) {args:LV} {v:Value} (hm:m36 pu n args = some v) (_:∀ x ∈ args,closed2 x = true):args.length≤51∧Run tt call 0 c36_31 (Fr.made 51 args) (pureHeap tabs) (Fin tt 0 [.tmp 2] v):=by
 subst hcall
 unfold m36 at hm
 replace hm:=ll_uncons hm;obtain ⟨a0,args_0,rfl,hm⟩:=hm
 replace hm:=ll_end hm;obtain ⟨rfl,hm⟩:=hm
 replace hm:=inv_vAgg hm;obtain ⟨q1,rfl,hm⟩:=hm
 replace hm:=bb_inv hm;obtain ⟨h0,hm⟩:=hm
 unfold m36_ at hm
 refine ⟨by simp,?_⟩
 refine .same (F':=(fr 51 [(0,(.agg ⟨q1⟩))])) (H':=(hp 0 [])) (by kernel_rfl) (by kernel_rfl) ?_
 refine .then (.rK ?_)
 replace hm:=bb_inv hm;obtain ⟨h1,hm⟩:=hm
 refine .ghs (fr 51 [(1,(pt 0 0))]) (hp 1 [oC q1]) (.k [0] [] [.tmp 1 false] [1] ⟨trF h1,trivial⟩) ?_
 refine .then ?_
 replace hm:=bb_inv hm;obtain ⟨h2,hm⟩:=hm
 replace hm:=oo_inv hm;obtain ⟨v0,h3,hm⟩:=hm
 replace hm:=inv_vTup hm;obtain ⟨l0,rfl,hm⟩:=hm
 replace hm:=ll_uncons hm;obtain ⟨v1,l6713_0,rfl,hm⟩:=hm
 replace hm:=ll_uncons hm;obtain ⟨v2,l6713_1,rfl,hm⟩:=hm
 replace hm:=ll_end hm;obtain ⟨rfl,hm⟩:=hm
 replace hm:=inv_toI hm;obtain ⟨x0,rfl,hm⟩:=hm
 replace hm:=inv_vAgg hm;obtain ⟨q2,rfl,hm⟩:=hm
 replace hm:=bb_inv hm;obtain ⟨h4,hm⟩:=hm
 replace hm:=bb_inv hm;obtain ⟨h5,hm⟩:=hm
 replace hm:=bb_inv hm;obtain ⟨h6,hm⟩:=hm
 replace hm:=bb_inv hm;obtain ⟨h7,hm⟩:=hm
 refine .reg (eD (keep (hp 1 [oC q1]) (bb (Nat.ble (0 + 22) (len q1)) (some (.agg ⟨(takeL 22 (dropL 0 q1))⟩)) none)) (keep_bb h2) (eD (bb (allL closed2 [(.agg ⟨(takeL 22 (dropL 0 q1))⟩)]) (oo (pu 55 [(.agg ⟨(takeL 22 (dropL 0 q1))⟩)]) none fun v=>some (v,(hp 1 [oC q1]))) (oo (mapO (purify (hp 1 [oC q1])) [(.agg ⟨(takeL 22 (dropL 0 q1))⟩)]) none fun l1=>oo (pu 55 l1) none fun v=>bb (plainT v) (some (v,(hp 1 [oC q1]))) none)) (callc_eq h5 h3) (eC 5 (done (bb (Nat.beq (len q2) 22) (bb (an (Nat.ble (0 + len q2) (len zA54)) (allL scalarB q2)) (some (hp 2 [oC q1,(oC (setL q2 0 zA54))])) none) none) undef) (done_bb2 h6 h7) (eE)))) ?_
 replace hm:=bb_inv hm;obtain ⟨h8,hm⟩:=hm
 refine .ghs (fr 51 [(4,(pt 0 0))]) (hp 1 [(oC (setL q2 0 zA54))]) (.k [1] [] [.tmp 4 false] [4] ⟨trF h8,trivial⟩) ?_
 refine .then (.rK ?_)
 refine .ghs (fr 51 [(4,(pt 0 0)),(5,(.slice none 0 0))]) (hp 1 [(oC (setL q2 0 zA54))]) (.k [0] [] [.tmp 4 false] [4,5] ⟨trF h8,trivial⟩) ?_
 refine .then (.rK ?_)
 refine .ghs (fr 51 [(4,(pt 0 0)),(5,(.slice none 0 0)),(6,(zI (0:Int)))]) (hp 1 [(oC (setL q2 0 zA54))]) (.k [0] [] [.tmp 4 false] [4,5,6] ⟨trF h8,trivial⟩) ?_
 refine .join (v:=v) (fun y:Nat×Nat×Int×LV=>((fr 51 [(5,(sc 0 0 1 y.1 y.2.1)),(6,(zI y.2.2.1))]),(hp 1 [(oC y.2.2.2)]))) (fun y=>m36_0 pu n y.1 y.2.1 y.2.2.1 y.2.2.2) ?_ ?_
 ·rintro ⟨n0, c0, z0, q3⟩ hm
  exact w36_0 pu n n0 c0 z0 q3 hm
 ·refine .then ?_
  replace hm:=bb_inv hm;obtain ⟨h9,hm⟩:=hm
  replace hm:=bb_inv hm;obtain ⟨h10,hm⟩:=hm
  replace hm:=bb_inv hm;obtain ⟨h11,hm⟩:=hm
  refine .reg (eD (keep (hp 1 [(oC (setL q2 0 zA54))]) (bb (Nat.ble (0 + 22) (len (setL q2 0 zA54))) (some (.agg ⟨(takeL 22 (dropL 0 (setL q2 0 zA54)))⟩)) none)) (keep_bb h9) (eC 1 (done (bb (Nat.beq (len (takeL 22 (dropL 0 (setL q2 0 zA54)))) 22) (bb (an (Nat.ble (0 + len (takeL 22 (dropL 0 (setL q2 0 zA54)))) (len zA54)) (allL scalarB (takeL 22 (dropL 0 (setL q2 0 zA54))))) (some (hp 2 [(oC (setL q2 0 zA54)),(oC (setL (takeL 22 (dropL 0 (setL q2 0 zA54))) 0 zA54))])) none) none) undef) (done_bb2 h10 h11) (eE))) ?_
  replace hm:=bb_inv hm;obtain ⟨h12,hm⟩:=hm
  refine .ghs (fr 51 [(4,(pt 0 0)),(5,(.slice none 0 0)),(6,(zI (0:Int))),(7,pt 1 0),(8,(zI (0:Int)))]) (hp 2 [(oC (setL q2 0 zA54)),(oC (setL (takeL 22 (dropL 0 (setL q2 0 zA54))) 0 zA54))]) (.k [0,1] [] [.tmp 4 false,.tmp 7 false] [4,5,6,7,8] ⟨trF h8,trF h12,trivial⟩) ?_
  refine .block ?_
  refine .loopM (v:=v) (fun y:Nat×Nat×Int×Int×LV×LV×LV=>((fr 51 [(4,(pt 0 0)),(5,(sc 1 0 1 y.1 y.2.1)),(6,(zI y.2.2.1)),(7,(pt 2 0)),(8,(zI y.2.2.2.1))]),(hp 3 [(oC y.2.2.2.2.1),(oC y.2.2.2.2.2.1),(oC y.2.2.2.2.2.2)]))) (fun w y=>l36_1 pu n w y.1 y.2.1 y.2.2.1 y.2.2.2.1 y.2.2.2.2.1 y.2.2.2.2.2.1 y.2.2.2.2.2.2) n ⟨(0,0,(0:Int),(0:Int),(setL q2 0 zA54),([]:LV),(setL (takeL 22 (dropL 0 (setL q2 0 zA54))) 0 zA54)),hm,(.thaw 5 1 (by kernel_rfl) (.k [0,1] [] [.tmp 4 false,.tmp 5 false,.tmp 7 false] [4,5,6,7,8] ⟨trF h8,trF h12,trivial⟩))⟩ (fun _=>rfl) ?_
  rintro w0 ⟨n1,c1,z1,z2,q4,q5,q6⟩ hm
  replace hm:b36_1 pu n (l36_1 pu n w0) n1 c1 z1 z2 q4 q5 q6 = some v:=hm
  unfold b36_1 at hm
  refine .then ?_
  refine .join (v:=v) (fun y:Nat×Nat×Int×Int×Bool×LV×LV×LV=>((fr 51 [(4,(pt 0 0)),(5,(sc 1 0 1 y.1 y.2.1)),(6,(zI y.2.2.1)),(7,(pt 2 0)),(8,(zI y.2.2.2.1)),(21,(zB y.2.2.2.2.1))]),(hp 3 [(oC y.2.2.2.2.2.1),(oC y.2.2.2.2.2.2.1),(oC y.2.2.2.2.2.2.2)]))) (fun y=>m36_2 pu n (l36_1 pu n w0) y.1 y.2.1 y.2.2.1 y.2.2.2.1 y.2.2.2.2.1 y.2.2.2.2.2.1 y.2.2.2.2.2.2.1 y.2.2.2.2.2.2.2) ?_ ?_
  ·rintro ⟨n2, c2, z3, z4, b0, q7, q8, q9⟩ hm
   unfold m36_2 at hm
   replace hm:=bb_cases hm;rcases hm with ⟨h13,hm⟩ | ⟨h13,hm⟩
   ·refine .ifT b0 (by kernel_rfl) h13 ?_
    refine .skip ?_
    replace hm:=bb_inv hm;obtain ⟨h14,hm⟩:=hm
    replace hm:=bb_inv hm;obtain ⟨h15,hm⟩:=hm
    replace hm:=bb_inv hm;obtain ⟨h16,hm⟩:=hm
    refine .ghs (fr 51 [(4,(pt 0 0)),(5,sc 1 0 1 n2 c2),(6,zI z3),(7,(pt 2 0)),(8,zI z4)]) (hp 3 [oC q7,oC q8,oC q9]) (.k [0,1,2] [] [.tmp 4 false,.tmp 5 false,.tmp 7 false] [4,5,6,7,8] ⟨trF h14,trF h15,trF h16,trivial⟩) ?_
    refine .join (v:=v) (fun y:Nat×Nat×Int×Int×LV×LV×LV=>((fr 51 [(4,(pt 0 0)),(5,(sc 1 0 1 y.1 y.2.1)),(6,(zI y.2.2.1)),(7,(pt 2 0)),(8,(zI y.2.2.2.1))]),(hp 3 [(oC y.2.2.2.2.1),(oC y.2.2.2.2.2.1),(oC y.2.2.2.2.2.2)]))) (fun y=>m36_3 pu n (l36_1 pu n w0) y.1 y.2.1 y.2.2.1 y.2.2.2.1 y.2.2.2.2.1 y.2.2.2.2.2.1 y.2.2.2.2.2.2) ?_ ?_
    ·rintro ⟨n3, c3, z5, z6, q10, q11, q12⟩ hm
     unfold m36_3 at hm
     refine .then ?_
     refine .then ?_
     replace hm:=bb_inv hm;obtain ⟨h17,hm⟩:=hm
     refine .reg (eD (keep (hp 3 [oC q10,oC q11,oC q12]) (bb (Nat.ble (0 + 22) (len q12)) (some (.agg ⟨(takeL 22 (dropL 0 q12))⟩)) none)) (keep_bb h17) (eE)) ?_
     replace hm:=bb_inv hm;obtain ⟨h18,hm⟩:=hm
     replace hm:=bb_inv hm;obtain ⟨h19,hm⟩:=hm
     refine .reg (eC 1 (done (bb (Nat.beq (len (takeL 22 (dropL 0 q12))) 22) (bb (an (Nat.ble (0 + len (takeL 22 (dropL 0 q12))) (len zA54)) (allL scalarB (takeL 22 (dropL 0 q12)))) (some (hp 4 [oC q10,oC q11,oC q12,(oC (setL (takeL 22 (dropL 0 q12)) 0 zA54))])) none) none) undef) (done_bb2 h18 h19) (eE)) ?_
     replace hm:=bb_inv hm;obtain ⟨h20,hm⟩:=hm
     replace hm:=bb_inv hm;obtain ⟨h21,hm⟩:=hm
     replace hm:=bb_inv hm;obtain ⟨h22,hm⟩:=hm
     refine .ghs (fr 51 [(4,(pt 0 0)),(5,sc 1 0 1 n3 c3),(6,zI z5),(7,(pt 2 0)),(8,zI z6)]) (hp 3 [oC q10,oC q11,(oC (setL (takeL 22 (dropL 0 q12)) 0 zA54))]) (.k [0,1,3] [] [.tmp 4 false,.tmp 5 false,.tmp 7 false] [4,5,6,7,8] ⟨trF h20,trF h21,trF h22,trivial⟩) ?_
     replace hm:=bb_inv hm;obtain ⟨h23,hm⟩:=hm
     replace hm:=oo_inv hm;obtain ⟨v3,h24,hm⟩:=hm
     replace hm:=inv_vAgg hm;obtain ⟨q13,rfl,hm⟩:=hm
     replace hm:=bb_inv hm;obtain ⟨h25,hm⟩:=hm
     replace hm:=bb_inv hm;obtain ⟨h26,hm⟩:=hm
     replace hm:=bb_inv hm;obtain ⟨h27,hm⟩:=hm
     replace hm:=bb_inv hm;obtain ⟨h28,hm⟩:=hm
     refine .reg (eD (keep (hp 3 [oC q10,oC q11,(oC (setL (takeL 22 (dropL 0 q12)) 0 zA54))]) (bb (Nat.ble (0 + 22) (len (setL (takeL 22 (dropL 0 q12)) 0 zA54))) (some (.agg ⟨(takeL 22 (dropL 0 (setL (takeL 22 (dropL 0 q12)) 0 zA54)))⟩)) none)) (keep_bb h23) (eD (bb (allL closed2 [(.agg ⟨(takeL 22 (dropL 0 (setL (takeL 22 (dropL 0 q12)) 0 zA54)))⟩)]) (oo (pu 59 [(.agg ⟨(takeL 22 (dropL 0 (setL (takeL 22 (dropL 0 q12)) 0 zA54)))⟩)]) none fun v=>some (v,(hp 3 [oC q10,oC q11,(oC (setL (takeL 22 (dropL 0 q12)) 0 zA54))]))) (oo (mapO (purify (hp 3 [oC q10,oC q11,(oC (setL (takeL 22 (dropL 0 q12)) 0 zA54))])) [(.agg ⟨(takeL 22 (dropL 0 (setL (takeL 22 (dropL 0 q12)) 0 zA54)))⟩)]) none fun l1=>oo (pu 59 l1) none fun v=>bb (plainT v) (some (v,(hp 3 [oC q10,oC q11,(oC (setL (takeL 22 (dropL 0 q12)) 0 zA54))]))) none)) (callc_eq h26 h24) (eC 2 (done (bb (Nat.beq (len q13) 22) (bb (an (Nat.ble (0 + len q13) (len (setL (takeL 22 (dropL 0 q12)) 0 zA54))) (allL scalarB q13)) (some (hp 3 [oC q10,oC q11,(oC (setL q13 0 (setL (takeL 22 (dropL 0 q12)) 0 zA54)))])) none) none) undef) (done_bb2 h27 h28) (eE)))) ?_
     replace hm:=bb_inv hm;obtain ⟨h29,hm⟩:=hm
     exact ⟨(n3,c3,z5,(wrapF .i64 (Int.add z6 (1:Int))),q10,q11,(setL q13 0 (setL (takeL 22 (dropL 0 q12)) 0 zA54))),hm,(.k [0,1,2] [] [.tmp 4 false,.tmp 5 false,.tmp 7 false] [4,5,6,7,8] ⟨trF h20,trF h21,trF h29,trivial⟩)⟩
    ·refine .block ?_
     refine .then ?_
     replace hm:=bb_inv hm;obtain ⟨h30,hm⟩:=hm
     replace hm:=oo_inv hm;obtain ⟨v4,h31,hm⟩:=hm
     replace hm:=inv_toSl hm;obtain ⟨s0,rfl,hm⟩:=hm
     replace hm:=bb_inv hm;obtain ⟨h32,hm⟩:=hm
     replace hm:=bb_inv hm;obtain ⟨h33,hm⟩:=hm
     replace hm:=bb_inv hm;obtain ⟨h34,hm⟩:=hm
     refine .rG (OpsG.seg 3 (Fr.puts (fr 51 [(4,(pt 0 0)),(5,sc 1 0 1 n2 c2),(6,zI z3),(7,(pt 2 0)),(8,zI z4)]) [(26,sc 1 0 1 n2 c2),(27,(.agg ⟨(takeL 22 (dropL 0 q9))⟩)),(28,(sc 3 0 1 (Sl.n s0) (d2 (Sl.n s0))))]) (hp 4 [oC q7,oC q8,oC q9,(oC (Sl.cs s0))]) (eC 1 (keep (hp 3 [oC q7,oC q8,oC q9]) (bb (Nat.ble (0 + 22) (len q9)) (some (.agg ⟨(takeL 22 (dropL 0 q9))⟩)) none)) (keep_bb h30) (eD (bb (allL closed2 [(.agg ⟨(takeL 22 (dropL 0 q9))⟩)]) (oo (pu 56 [(.agg ⟨(takeL 22 (dropL 0 q9))⟩)]) none fun v=>oo (toSl 1 v) none fun s=>some (((sc 3 0 1 (Sl.n s) (d2 (Sl.n s))),(hp 4 [oC q7,oC q8,oC q9,(oC (Sl.cs s))])):Value×AHeap)) none) ((bb_true' h32).trans (live_eq (sz:=1) (k:=fun s=>(((sc 3 0 1 (Sl.n s) (d2 (Sl.n s))),(hp 4 [oC q7,oC q8,oC q9,(oC (Sl.cs s))])):Value×AHeap)) h31)) (by kernel_rfl))) (OpsG.ghs (Fr.puts (fr 51 [(4,(pt 0 0)),(5,sc 1 0 1 n2 c2),(6,zI z3),(7,(pt 2 0)),(8,zI z4)]) [(26,sc 1 0 1 n2 c2),(27,(.agg ⟨(takeL 22 (dropL 0 q9))⟩)),(28,(Sl.v 1 (Sl.mk (Sl.n s0) 0 (takeL ((Sl.n s0) * 1) (dropL 0 (Sl.cs s0))))))]) (hp 4 [oC q7,oC q8,oC q9,.dead]) (.freezeC 0 28 1 (an (Nat.ble (0 + (Sl.n s0) * 1) (len (Sl.cs s0))) (allL closed1 (takeL ((Sl.n s0) * 1) (dropL 0 (Sl.cs s0))))) (F1:=(Fr.puts (fr 51 [(4,(pt 0 0)),(5,sc 1 0 1 n2 c2),(6,zI z3),(7,(pt 2 0)),(8,zI z4)]) [(26,sc 1 0 1 n2 c2),(27,(.agg ⟨(takeL 22 (dropL 0 q9))⟩)),(28,(Sl.v 1 (Sl.mk (Sl.n s0) 0 (takeL ((Sl.n s0) * 1) (dropL 0 (Sl.cs s0))))))])) (H1:=(hp 4 [oC q7,oC q8,oC q9,.dead])) (by kernel_rfl) (by kernel_rfl) h33 (GhS.id _ _)) (OpsG.fin (eC 1 (growD 1 24 n2 c2 1 1 q8 [(Sl.v 1 (Sl.mk (Sl.n s0) 0 (takeL ((Sl.n s0) * 1) (dropL 0 (Sl.cs s0)))))] [] (hp 5 [oC q7,oC q8,oC q9,.dead,(oC [(Sl.v 1 (Sl.mk (Sl.n s0) 0 (takeL ((Sl.n s0) * 1) (dropL 0 (Sl.cs s0)))))])])) (growD_eq h34) (eE))))) ?_
     replace hm:=bb_inv hm;obtain ⟨h35,hm⟩:=hm
     refine .ghs (fr 51 [(4,(pt 0 0)),(5,(sc 1 0 1 (n2 + 1) (d2 (n2 + 1)))),(6,zI z3),(7,(pt 2 0)),(8,zI z4)]) (hp 3 [oC q7,(oC (appL (dropL 0 q8) [(Sl.v 1 (Sl.mk (Sl.n s0) 0 (takeL ((Sl.n s0) * 1) (dropL 0 (Sl.cs s0)))))])),oC q9]) (.k [0,5,2] [] [.tmp 4 false,.tmp 5 false,.tmp 7 false] [4,5,6,7,8] ⟨trF h14,trF h35,trF h16,trivial⟩) ?_
     refine .then ?_
     replace hm:=oo_inv hm;obtain ⟨k1,h36,hm⟩:=hm
     obtain rfl:=toN_some h36
     replace hm:=bb_inv hm;obtain ⟨h37,hm⟩:=hm
     replace hm:=oo_inv hm;obtain ⟨v5,h38,hm⟩:=hm
     replace hm:=inv_toSl hm;obtain ⟨s1,rfl,hm⟩:=hm
     replace hm:=oo_inv hm;obtain ⟨k2,h39,hm⟩:=hm
     obtain rfl:=toN_some h39
     replace hm:=bb_inv hm;obtain ⟨h40,hm⟩:=hm
     replace hm:=oo_inv hm;obtain ⟨v6,h41,hm⟩:=hm
     replace hm:=inv_toSl hm;obtain ⟨s2,rfl,hm⟩:=hm
     replace hm:=oo_inv hm;obtain ⟨v7,h42,hm⟩:=hm
     replace hm:=inv_toI hm;obtain ⟨x1,rfl,hm⟩:=hm
     refine .reg (eC 2 (keep (hp 3 [oC q7,(oC (appL (dropL 0 q8) [(Sl.v 1 (Sl.mk (Sl.n s0) 0 (takeL ((Sl.n s0) * 1) (dropL 0 (Sl.cs s0)))))])),oC q9]) (bb (an (Nat.blt k1 (n2 + 1)) true) (some (.pointer (some ⟨1,(0 + k1 * 1),none⟩))) none)) (keep_bb h37) (eD (keep (hp 3 [oC q7,(oC (appL (dropL 0 q8) [(Sl.v 1 (Sl.mk (Sl.n s0) 0 (takeL ((Sl.n s0) * 1) (dropL 0 (Sl.cs s0)))))])),oC q9]) (nthL (appL (dropL 0 q8) [(Sl.v 1 (Sl.mk (Sl.n s0) 0 (takeL ((Sl.n s0) * 1) (dropL 0 (Sl.cs s0)))))]) (0 + k1 * 1))) (keep_eq h38) (eC 2 (keep (hp 3 [oC q7,(oC (appL (dropL 0 q8) [(Sl.v 1 (Sl.mk (Sl.n s0) 0 (takeL ((Sl.n s0) * 1) (dropL 0 (Sl.cs s0)))))])),oC q9]) (bb (an (Nat.blt k2 (n2 + 1)) true) (some (.pointer (some ⟨1,(0 + k2 * 1),none⟩))) none)) (keep_bb h40) (eD (keep (hp 3 [oC q7,(oC (appL (dropL 0 q8) [(Sl.v 1 (Sl.mk (Sl.n s0) 0 (takeL ((Sl.n s0) * 1) (dropL 0 (Sl.cs s0)))))])),oC q9]) (nthL (appL (dropL 0 q8) [(Sl.v 1 (Sl.mk (Sl.n s0) 0 (takeL ((Sl.n s0) * 1) (dropL 0 (Sl.cs s0)))))]) (0 + k2 * 1))) (keep_eq h41) (eD ((oo (pu 12 [Sl.v 1 s1,Sl.v 1 s2]) none fun v=>some (v,(hp 3 [oC q7,(oC (appL (dropL 0 q8) [(Sl.v 1 (Sl.mk (Sl.n s0) 0 (takeL ((Sl.n s0) * 1) (dropL 0 (Sl.cs s0)))))])),oC q9])))) (call_eq h42) (eE)))))) ?_
     refine .ghs (fr 51 [(4,(pt 0 0)),(5,(sc 1 0 1 (n2 + 1) (d2 (n2 + 1)))),(6,(zI (Int.ofNat k2))),(7,(pt 2 0)),(8,(zI (Int.ofNat k1))),(40,(zB (ilt x1 (0:Int))))]) (hp 3 [oC q7,(oC (appL (dropL 0 q8) [(Sl.v 1 (Sl.mk (Sl.n s0) 0 (takeL ((Sl.n s0) * 1) (dropL 0 (Sl.cs s0)))))])),oC q9]) (.k [0,1,2] [] [.tmp 4 false,.tmp 5 false,.tmp 7 false] [4,5,6,7,8,40] ⟨trF h14,trF h35,trF h16,trivial⟩) ?_
     replace hm:=bb_cases hm;rcases hm with ⟨h43,hm⟩ | ⟨h43,hm⟩
     ·refine .ifT (ilt x1 (0 : Int)) (by kernel_rfl) h43 ?_
      refine .rK ?_
      exact ⟨((n2 + 1),(d2 (n2 + 1)),(Int.ofNat k1),(Int.ofNat k1),q7,(appL (dropL 0 q8) [(Sl.v 1 (Sl.mk (Sl.n s0) 0 (takeL ((Sl.n s0) * 1) (dropL 0 (Sl.cs s0)))))]),q9),hm,(.k [0,1,2] [] [.tmp 4 false,.tmp 5 false,.tmp 7 false] [4,5,6,7,8] ⟨trF h14,trF h35,trF h16,trivial⟩)⟩
     ·refine .ifF (ilt x1 (0 : Int)) (by kernel_rfl) h43 ?_
      refine .skip ?_
      exact ⟨((n2 + 1),(d2 (n2 + 1)),(Int.ofNat k2),(Int.ofNat k1),q7,(appL (dropL 0 q8) [(Sl.v 1 (Sl.mk (Sl.n s0) 0 (takeL ((Sl.n s0) * 1) (dropL 0 (Sl.cs s0)))))]),q9),hm,(.k [0,1,2] [] [.tmp 4 false,.tmp 5 false,.tmp 7 false] [4,5,6,7,8] ⟨trF h14,trF h35,trF h16,trivial⟩)⟩
   ·refine .ifF b0 (by kernel_rfl) h13 ?_
    refine .exit ?_
    replace hm:=bb_inv hm;obtain ⟨h44,hm⟩:=hm
    exact ⟨(n2,c2,z3,q8),hm,(.k [1] [] [.tmp 5 false] [5,6] ⟨trF h44,trivial⟩)⟩
  ·replace hm := bb_cases hm; rcases hm with ⟨h45, hm⟩ | ⟨h45, hm⟩
   ·refine .reg (eC 1 (some ((zB (ieq z2 (0 : Int))), (hp 3 [oC q4, oC q5, oC q6]))) (show _ = some ((zB true), _) from (by rw [h45])) (eE)) ?_
    replace hm:=bb_inv hm;obtain ⟨h46,hm⟩:=hm
    replace hm:=bb_inv hm;obtain ⟨h47,hm⟩:=hm
    replace hm:=bb_inv hm;obtain ⟨h48,hm⟩:=hm
    exact ⟨(n1,c1,z1,z2,true,q4,q5,q6),hm,(.k [0,1,2] [] [.tmp 4 false,.tmp 5 false,.tmp 7 false] [4,5,6,7,8,21] ⟨trF h46,trF h47,trF h48,trivial⟩)⟩
   ·replace hm := bb_inv hm; obtain ⟨h49, hm⟩ := hm
    replace hm:=bb_inv hm;obtain ⟨h50,hm⟩:=hm
    replace hm:=bb_inv hm;obtain ⟨h51,hm⟩:=hm
    replace hm:=oo_inv hm;obtain ⟨b1,h52,hm⟩:=hm
    refine .reg (eC 1 (some ((zB (ieq z2 (0:Int))),(hp 3 [oC q4,oC q5,oC q6]))) (show _ = some ((zB false),_) from (by rw [h45])) (eC 1 (keep (hp 3 [oC q4,oC q5,oC q6]) (bb (Nat.ble (0 + 22) (len q6)) (some (.agg ⟨(takeL 22 (dropL 0 q6))⟩)) none)) (keep_bb h49) (eD (keep (hp 3 [oC q4,oC q5,oC q6]) (bb (Nat.ble (0 + 22) (len q4)) (some (.agg ⟨(takeL 22 (dropL 0 q4))⟩)) none)) (keep_bb h50) (eD (keep (hp 3 [oC q4,oC q5,oC q6]) (oo (bb (flatLike ti54 (takeL 22 (dropL 0 q6))) (cellsEq (takeL 22 (dropL 0 q6)) (takeL 22 (dropL 0 q4))) none) none fun b=>bv (bq false b))) (arrEq_eq h51 h52) (eE))))) ?_
    replace hm:=bb_inv hm;obtain ⟨h53,hm⟩:=hm
    replace hm:=bb_inv hm;obtain ⟨h54,hm⟩:=hm
    replace hm:=bb_inv hm;obtain ⟨h55,hm⟩:=hm
    exact ⟨(n1,c1,z1,z2,(bq false b1),q4,q5,q6),hm,(.k [0,1,2] [] [.tmp 4 false,.tmp 5 false,.tmp 7 false] [4,5,6,7,8,21] ⟨trF h53,trF h54,trF h55,trivial⟩)⟩
end
end Go.HzSM
