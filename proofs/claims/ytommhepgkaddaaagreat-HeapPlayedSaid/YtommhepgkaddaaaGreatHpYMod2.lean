/- Made from wip. -/
import Derived.Test.YtommhepgkaddaaaGreatHpYMod1x

set_option maxRecDepth 100000
set_option maxHeartbeats 20000000
set_option linter.unusedVariables false
namespace Go.HpYM
open Go.Sp Go.HpY
noncomputable section

def m5_ (pu:PureF) (n:Nat) (s0:Sl):OV:=
 (oo (pu 18 [Sl.v 1 s0]) none fun v0=>(oo (toI .i64 v0) none fun x0=>(bb (nt (ieq x0 (0:Int))) (some (.tuple ⟨[(Sl.v 1 (Sl.mk 0 2 [])),.int .i64 x0]⟩)) (oo (pu 19 [Sl.v 1 s0]) none fun v1=>(oo (vAgg v1) none fun q0=>(bb (an (Nat.beq (len q0) 22) (allL closed1 q0)) (oo (pu 20 [(.agg ⟨q0⟩)]) none fun v2=>(oo (vAgg v2) none fun q1=>(bb (an (Nat.beq (len q1) 22) (allL closed1 q1)) (bb (allL closed2 [(.agg ⟨q0⟩)]) (oo (pu 21 [(.agg ⟨q1⟩)]) none fun v3=>(oo (toSl 1 v3) none fun s1=>(bb (allL closed2 [(.agg ⟨q1⟩)]) (bb (allL closed1 (Sl.cs s1)) (bb (an (Nat.ble (0 + (Sl.n s1) * 1) (len (Sl.cs s1))) (allL closed1 (takeL ((Sl.n s1) * 1) (dropL 0 (Sl.cs s1))))) (some (.tuple ⟨[(Sl.v 1 (Sl.mk (Sl.n s1) 0 (takeL ((Sl.n s1) * 1) (dropL 0 (Sl.cs s1))))),(.int .i64 (0:Int))]⟩)) none) none) none))) none) none))) none))))))
def m5 (pu:PureF) (n:Nat) (args:LV):OV:=
 (ll args none fun a0 args=>(ll args (oo (toSl 1 a0) none fun s0=>(m5_ pu n s0)) fun _ _=>none))
theorem r5 {call:CallF} (pu:PureF) (n:Nat) (hcall:call = callP tabs isP pu (inl pu)) {args:LV} {v:Value} (hm:m5 pu n args = some v) (_:∀ x ∈ args,closed2 x = true):args.length≤14∧Run tt call 0 c5_11 (Fr.made 14 args) (pureHeap tabs) (Fin tt 0 [.tmp 2,.tmp 3] v):=by
 subst hcall
 unfold m5 at hm
 replace hm:=ll_uncons hm;obtain ⟨a0,args_0,rfl,hm⟩:=hm
 replace hm:=ll_end hm;obtain ⟨rfl,hm⟩:=hm
 replace hm:=inv_toSl hm;obtain ⟨s0,rfl,hm⟩:=hm
 unfold m5_ at hm
 refine ⟨by simp,?_⟩
 refine .same (F':=(fr 14 [(0,Sl.v 1 s0)])) (H':=(hp 0 [])) (by kernel_rfl) (by kernel_rfl) ?_
 refine .then (.rK ?_)
 refine .ghs (fr 14 [(0,Sl.v 1 s0)]) (hp 0 []) (.k0 [] [] [0]) ?_
 refine .then ?_
 refine .then ?_
 replace hm:=oo_inv hm;obtain ⟨v0,h0,hm⟩:=hm
 replace hm:=inv_toI hm;obtain ⟨x0,rfl,hm⟩:=hm
 refine .reg (eC 1 ((oo (pu 18 [Sl.v 1 s0]) none fun v=>some (v,(hp 0 [])))) (call_eq h0) (eE)) ?_
 refine .ghs (fr 14 [(0,Sl.v 1 s0),(4,zI x0)]) (hp 0 []) (.k0 [] [] [0,4]) ?_
 refine .then (.rK ?_)
 refine .ghs (fr 14 [(0,Sl.v 1 s0),(4,zI x0),(8,(zB (nt (ieq x0 (0:Int)))))]) (hp 0 []) (.k0 [] [] [0,4,8]) ?_
 replace hm:=bb_cases hm;rcases hm with ⟨h1,hm⟩ | ⟨h1,hm⟩
 ·refine .ifT (nt (ieq x0 (0 : Int))) (by kernel_rfl) h1 ?_
  refine .then (.rK ?_)
  refine .ghs (fr 14 [(2,(.slice none 0 0)),(3,zI x0)]) (hp 0 []) (.k0 [] [] [2,3]) ?_
  refine .ghs (Fr.puts (fr 14 [(2,(.slice none 0 0)),(3,zI x0)]) [(2,(Sl.v 1 (Sl.mk 0 2 [])))]) (hp 0 []) (.freeze 0 2 1 (by kernel_rfl) (by kernel_rfl) (GhS.id _ _)) ?_
  refine .ret ?_
  exact fin_ret (.tuple ⟨[(Sl.v 1 (Sl.mk 0 2 [])),zI x0]⟩) (by kernel_rfl) (by kernel_rfl) hm
 ·refine .ifF (nt (ieq x0 (0 : Int))) (by kernel_rfl) h1 ?_
  refine .skip ?_
  refine .ghs (fr 14 [(0,Sl.v 1 s0)]) (hp 0 []) (.k0 [] [] [0]) ?_
  refine .then ?_
  replace hm:=oo_inv hm;obtain ⟨v1,h2,hm⟩:=hm
  replace hm:=inv_vAgg hm;obtain ⟨q0,rfl,hm⟩:=hm
  replace hm:=bb_inv hm;obtain ⟨h3,hm⟩:=hm
  replace hm:=oo_inv hm;obtain ⟨v2,h4,hm⟩:=hm
  replace hm:=inv_vAgg hm;obtain ⟨q1,rfl,hm⟩:=hm
  replace hm:=bb_inv hm;obtain ⟨h5,hm⟩:=hm
  replace hm:=bb_inv hm;obtain ⟨h6,hm⟩:=hm
  replace hm:=oo_inv hm;obtain ⟨v3,h7,hm⟩:=hm
  replace hm:=inv_toSl hm;obtain ⟨s1,rfl,hm⟩:=hm
  replace hm:=bb_inv hm;obtain ⟨h8,hm⟩:=hm
  refine .reg (eC 1 ((oo (pu 19 [Sl.v 1 s0]) none fun v=>some (v,(hp 0 [])))) (call_eq h2) (eD (bb (allL closed2 [(.agg ⟨q0⟩)]) (oo (pu 20 [(.agg ⟨q0⟩)]) none fun v=>some (v,(hp 0 []))) (oo (mapO (purify (hp 0 [])) [(.agg ⟨q0⟩)]) none fun l1=>oo (pu 20 l1) none fun v=>bb (plainT v) (some (v,(hp 0 []))) none)) (callc_eq h6 h4) (eD (bb (allL closed2 [(.agg ⟨q1⟩)]) (oo (pu 21 [(.agg ⟨q1⟩)]) none fun v=>oo (toSl 1 v) none fun s=>some (((sc 0 0 1 (Sl.n s) (d2 (Sl.n s))),(hp 1 [(oC (Sl.cs s))])):Value×AHeap)) none) ((bb_true' h8).trans (live_eq (sz:=1) (k:=fun s=>(((sc 0 0 1 (Sl.n s) (d2 (Sl.n s))),(hp 1 [(oC (Sl.cs s))])):Value×AHeap)) h7)) (eE)))) ?_
  replace hm:=bb_inv hm;obtain ⟨h9,hm⟩:=hm
  refine .ghs (fr 14 [(2,(sc 0 0 1 (Sl.n s1) (d2 (Sl.n s1)))),(3,(zI (0:Int)))]) (hp 1 [(oC (Sl.cs s1))]) (.k [0] [] [.tmp 2 false] [2,3] ⟨trF h9,trivial⟩) ?_
  replace hm:=bb_inv hm;obtain ⟨h10,hm⟩:=hm
  refine .ghs (Fr.puts (fr 14 [(2,(sc 0 0 1 (Sl.n s1) (d2 (Sl.n s1)))),(3,(zI (0:Int)))]) [(2,(Sl.v 1 (Sl.mk (Sl.n s1) 0 (takeL ((Sl.n s1) * 1) (dropL 0 (Sl.cs s1))))))]) (hp 1 [.dead]) (.freezeC 0 2 1 (an (Nat.ble (0 + (Sl.n s1) * 1) (len (Sl.cs s1))) (allL closed1 (takeL ((Sl.n s1) * 1) (dropL 0 (Sl.cs s1))))) (F1:=(Fr.puts (fr 14 [(2,(sc 0 0 1 (Sl.n s1) (d2 (Sl.n s1)))),(3,(zI (0:Int)))]) [(2,(Sl.v 1 (Sl.mk (Sl.n s1) 0 (takeL ((Sl.n s1) * 1) (dropL 0 (Sl.cs s1))))))])) (H1:=(hp 1 [.dead])) (by kernel_rfl) (by kernel_rfl) h10 (GhS.id _ _)) ?_
  refine .ret ?_
  exact fin_ret (.tuple ⟨[(Sl.v 1 (Sl.mk (Sl.n s1) 0 (takeL ((Sl.n s1) * 1) (dropL 0 (Sl.cs s1))))),(zI (0:Int))]⟩) (by kernel_rfl) (by kernel_rfl) hm
def m6_0 (pu:PureF) (n:Nat):OV:=
 (some (.bool true))
def b6_1 (pu:PureF) (n:Nat) (ih0:Sl→Sl→Int→OV) (s0 s1:Sl) (z0:Int):OV:=
 (bb (ilt z0 (Int.ofNat (Sl.n s0))) (oo (toN z0) none fun k1=>(bb (an (Nat.blt k1 (Sl.n s0)) true) (oo (nthL (Sl.cs s0) (k1 * 1)) none fun v0=>(oo (toI .i64 v0) none fun x0=>(bb (an (Nat.blt k1 (Sl.n s1)) true) (oo (nthL (Sl.cs s1) (k1 * 1)) none fun v1=>(oo (toI .i64 v1) none fun x1=>(bb (nt (ieq x0 x1)) (some (.bool false)) (ih0 s0 s1 (wrapF .i64 (Int.add (Int.ofNat k1) (1:Int))))))) none))) none)) (m6_0 pu n))
def l6_1 (pu:PureF) (n w:Nat):Sl→Sl→Int→OV:=
 Nat.rec (motive:=fun _=>Sl→Sl→Int→OV) (fun _ _ _=>none) (fun _ ih0=>b6_1 pu n ih0) w
def m6_ (pu:PureF) (n:Nat) (s0 s1:Sl):OV:=
 (bb (nt (ieq (Int.ofNat (Sl.n s0)) (Int.ofNat (Sl.n s1)))) (some (.bool false)) (l6_1 pu n n s0 s1 (0:Int)))
def m6 (pu:PureF) (n:Nat) (args:LV):OV:=
 (ll args none fun a0 args=>(ll args none fun a1 args=>(ll args (oo (toSl 1 a0) none fun s0=>(oo (toSl 1 a1) none fun s1=>(m6_ pu n s0 s1))) fun _ _=>none)))
theorem w6_0 (pu:PureF) (n:Nat) {v:Value} (hm:m6_0 pu n = some v):Run tt (callP tabs isP pu (inl pu)) 0 c6_23 (fr 26 []) (hp 0 []) (Fin tt 0 [.tmp 4] v):=by
 unfold m6_0 at hm
 refine .then (.rK ?_)
 refine .ghs (fr 26 [(4,zB true)]) (hp 0 []) (.k0 [] [] [4]) ?_
 refine .ret ?_
 exact fin_ret (zB true) (by kernel_rfl) (by kernel_rfl) hm
theorem r6 {call:CallF} (pu:PureF) (n:Nat) (hcall:call = callP tabs isP pu (inl pu)) {args:LV} {v:Value} (hm:m6 pu n args = some v) (_:∀ x ∈ args,closed2 x = true):args.length≤26∧Run tt call 0 c6_26 (Fr.made 26 args) (pureHeap tabs) (Fin tt 0 [.tmp 4] v):=by
 subst hcall
 unfold m6 at hm
 replace hm:=ll_uncons hm;obtain ⟨a0,args_0,rfl,hm⟩:=hm
 replace hm:=ll_uncons hm;obtain ⟨a1,args_1,rfl,hm⟩:=hm
 replace hm:=ll_end hm;obtain ⟨rfl,hm⟩:=hm
 replace hm:=inv_toSl hm;obtain ⟨s0,rfl,hm⟩:=hm
 replace hm:=inv_toSl hm;obtain ⟨s1,rfl,hm⟩:=hm
 unfold m6_ at hm
 refine ⟨by simp,?_⟩
 refine .same (F':=(fr 26 [(0,Sl.v 1 s0),(1,Sl.v 1 s1)])) (H':=(hp 0 [])) (by kernel_rfl) (by kernel_rfl) ?_
 refine .then (.rK ?_)
 refine .ghs (fr 26 [(0,Sl.v 1 s0),(1,Sl.v 1 s1)]) (hp 0 []) (.k0 [] [] [0,1]) ?_
 refine .then ?_
 refine .then (.rK ?_)
 refine .ghs (fr 26 [(0,Sl.v 1 s0),(1,Sl.v 1 s1),(10,(zB (nt (ieq (Int.ofNat (Sl.n s0)) (Int.ofNat (Sl.n s1))))))]) (hp 0 []) (.k0 [] [] [0,1,10]) ?_
 replace hm:=bb_cases hm;rcases hm with ⟨h0,hm⟩ | ⟨h0,hm⟩
 ·refine .ifT (nt (ieq (Int.ofNat (Sl.n s0)) (Int.ofNat (Sl.n s1)))) (by kernel_rfl) h0 ?_
  refine .then (.rK ?_)
  refine .ghs (fr 26 [(4,zB false)]) (hp 0 []) (.k0 [] [] [4]) ?_
  refine .ret ?_
  exact fin_ret (zB false) (by kernel_rfl) (by kernel_rfl) hm
 ·refine .ifF (nt (ieq (Int.ofNat (Sl.n s0)) (Int.ofNat (Sl.n s1)))) (by kernel_rfl) h0 ?_
  refine .skip ?_
  refine .ghs (fr 26 [(0,Sl.v 1 s0),(1,Sl.v 1 s1)]) (hp 0 []) (.k0 [] [] [0,1]) ?_
  refine .join (v:=v) (fun y:Unit=>((fr 26 []),(hp 0 []))) (fun y=>m6_0 pu n) ?_ ?_
  ·rintro _ hm
   exact w6_0 pu n hm
  ·refine .then (.rK ?_)
   refine .ghs (fr 26 [(0,Sl.v 1 s0),(1,Sl.v 1 s1),(5,(zI (0:Int)))]) (hp 0 []) (.k0 [] [] [0,1,5]) ?_
   refine .block ?_
   refine .loopM (v:=v) (fun y:Sl×Sl×Int=>((fr 26 [(0,(Sl.v 1 y.1)),(1,(Sl.v 1 y.2.1)),(5,(zI y.2.2))]),(hp 0 []))) (fun w y=>l6_1 pu n w y.1 y.2.1 y.2.2) n ⟨(s0,s1,(0:Int)),hm,(.k0 [] [] [0,1,5])⟩ (fun _=>rfl) ?_
   rintro w0 ⟨s2,s3,z0⟩ hm
   replace hm:b6_1 pu n (l6_1 pu n w0) s2 s3 z0 = some v:=hm
   unfold b6_1 at hm
   refine .then ?_
   refine .then (.rK ?_)
   refine .ghs (fr 26 [(0,Sl.v 1 s2),(1,Sl.v 1 s3),(5,zI z0),(14,(zB (ilt z0 (Int.ofNat (Sl.n s2)))))]) (hp 0 []) (.k0 [] [] [0,1,5,14]) ?_
   replace hm:=bb_cases hm;rcases hm with ⟨h1,hm⟩ | ⟨h1,hm⟩
   ·refine .ifT (ilt z0 (Int.ofNat (Sl.n s2))) (by kernel_rfl) h1 ?_
    refine .skip ?_
    refine .ghs (fr 26 [(0,Sl.v 1 s2),(1,Sl.v 1 s3),(5,zI z0)]) (hp 0 []) (.k0 [] [] [0,1,5]) ?_
    refine .then ?_
    refine .block ?_
    refine .then ?_
    replace hm:=oo_inv hm;obtain ⟨k1,h2,hm⟩:=hm
    obtain rfl:=toN_some h2
    replace hm:=bb_inv hm;obtain ⟨h3,hm⟩:=hm
    replace hm:=oo_inv hm;obtain ⟨v0,h4,hm⟩:=hm
    replace hm:=inv_toI hm;obtain ⟨x0,rfl,hm⟩:=hm
    replace hm:=bb_inv hm;obtain ⟨h5,hm⟩:=hm
    replace hm:=oo_inv hm;obtain ⟨v1,h6,hm⟩:=hm
    replace hm:=inv_toI hm;obtain ⟨x1,rfl,hm⟩:=hm
    refine .reg (eC 2 (keep (hp 0 []) (bb (an (Nat.blt k1 (Sl.n s2)) true) (some (fpV (k1 * 1) (Sl.cs s2))) none)) (keep_bb h3) (eD (keep (hp 0 []) (nthL (Sl.cs s2) (k1 * 1))) (keep_eq h4) (eC 2 (keep (hp 0 []) (bb (an (Nat.blt k1 (Sl.n s3)) true) (some (fpV (k1 * 1) (Sl.cs s3))) none)) (keep_bb h5) (eD (keep (hp 0 []) (nthL (Sl.cs s3) (k1 * 1))) (keep_eq h6) (eE))))) ?_
    refine .ghs (fr 26 [(0,Sl.v 1 s2),(1,Sl.v 1 s3),(5,(zI (Int.ofNat k1))),(25,(zB (nt (ieq x0 x1))))]) (hp 0 []) (.k0 [] [] [0,1,5,25]) ?_
    replace hm:=bb_cases hm;rcases hm with ⟨h7,hm⟩ | ⟨h7,hm⟩
    ·refine .ifT (nt (ieq x0 x1)) (by kernel_rfl) h7 ?_
     refine .then (.rK ?_)
     refine .ghs (fr 26 [(4,zB false)]) (hp 0 []) (.k0 [] [] [4]) ?_
     refine .ret ?_
     exact fin_ret (zB false) (by kernel_rfl) (by kernel_rfl) hm
    ·refine .ifF (nt (ieq x0 x1)) (by kernel_rfl) h7 ?_
     refine .skip ?_
     refine .ghs (fr 26 [(0,Sl.v 1 s2),(1,Sl.v 1 s3),(5,(zI (Int.ofNat k1)))]) (hp 0 []) (.k0 [] [] [0,1,5]) ?_
     refine .rK ?_
     exact ⟨(s2,s3,(wrapF .i64 (Int.add (Int.ofNat k1) (1:Int)))),hm,(.k0 [] [] [0,1,5])⟩
   ·refine .ifF (ilt z0 (Int.ofNat (Sl.n s2))) (by kernel_rfl) h1 ?_
    refine .exit ?_
    exact ⟨(),hm,(.k0 [] [] [])⟩
def m7_0 (pu:PureF) (n n0 c0:Nat) (q0:LV):OV:=
 (oo (mapO (toI .i64) q0) none fun z0=>(bb (wholeC 0 1 (len q0) n0) (bb (allL closed1 (mapL I64 (srtZ z0))) (bb (orr (Nat.ble 2 c0) (nilL (mapL I64 (srtZ z0)))) (bb (allL closed1 (mapL I64 (srtZ z0))) (oo (pu 10170 [(.slice (some ⟨0,0,some 1⟩) n0 c0),(.agg ⟨(mapL I64 (srtZ z0))⟩)]) none fun v0=>(oo (vTup v0) none fun l0=>(ll l0 none fun v1 l0=>(ll l0 none fun v2 l0=>(ll l0 (bb (isNoV v1) (oo (vAgg v2) none fun q1=>(bb (allL closed1 q1) (bb (allL closed1 q1) (bb (an (Nat.ble (0 + n0 * 1) (len q1)) (allL closed1 (takeL (n0 * 1) (dropL 0 q1)))) (some (Sl.v 1 (Sl.mk n0 0 (takeL (n0 * 1) (dropL 0 q1))))) none) none) none)) none) fun _ _=>none))))) none) none) none) none))
def m7_2 (pu:PureF) (n:Nat) (ih0:Nat→Nat→Sl→Int→Int→LV→OV) (n0 c0:Nat) (s0:Sl) (z0 z1:Int) (q0:LV):OV:=
 (bb (allL closed1 q0) (ih0 n0 c0 s0 z0 (wrapF .i64 (Int.add z1 (1:Int))) q0) none)
def b7_1 (pu:PureF) (n:Nat) (ih0:Nat→Nat→Sl→Int→Int→LV→OV) (n0 c0:Nat) (s0:Sl) (z0 z1:Int) (q0:LV):OV:=
 (bb (allL closed1 q0) (bb (ilt z1 z0) (oo (toN z1) none fun k1=>(bb (an (Nat.blt k1 (Sl.n s0)) true) (oo (nthL (Sl.cs s0) (k1 * 1)) none fun v0=>(oo (toI .i64 v0) none fun x0=>(bb (ilt (1:Int) x0) (bb (growC 1 8 n0 c0 1 q0) (bb (allL closed1 (appL (dropL 0 q0) [(.int .i64 (wrapF .i64 (Int.sub x0 (1:Int))))])) (m7_2 pu n ih0 (n0 + 1) (2 * (n0 + 1) + bb false 1 0) s0 z0 (Int.ofNat k1) (appL (dropL 0 q0) [(.int .i64 (wrapF .i64 (Int.sub x0 (1:Int))))])) none) none) (m7_2 pu n ih0 n0 c0 s0 z0 (Int.ofNat k1) q0)))) none)) (m7_0 pu n n0 c0 q0)) none)
def l7_1 (pu:PureF) (n w:Nat):Nat→Nat→Sl→Int→Int→LV→OV:=
 Nat.rec (motive:=fun _=>Nat→Nat→Sl→Int→Int→LV→OV) (fun _ _ _ _ _ _=>none) (fun _ ih0=>b7_1 pu n ih0) w
def m7_ (pu:PureF) (n:Nat) (s0:Sl):OV:=
 (l7_1 pu n n 1 2 s0 (Int.ofNat (Sl.n s0)) (0:Int) ([(.int .i64 (Int.ofNat (Sl.n s0)))]:LV))
def m7 (pu:PureF) (n:Nat) (args:LV):OV:=
 (ll args none fun a0 args=>(ll args (oo (toSl 1 a0) none fun s0=>(m7_ pu n s0)) fun _ _=>none))
theorem w7_0 (pu:PureF) (n n0 c0:Nat) (q0:LV) {v:Value} (hm:m7_0 pu n n0 c0 q0 = some v):Run tt (callP tabs isP pu (inl pu)) 0 c7_24 (fr 29 [(3,sc 0 0 1 n0 c0)]) (hp 1 [oC q0]) (Fin tt 0 [.tmp 2] v):=by
 unfold m7_0 at hm
 refine .then ?_
 replace hm:=oo_inv hm;obtain ⟨z0,h0,hm⟩:=hm
 replace hm:=bb_inv hm;obtain ⟨h1,hm⟩:=hm
 refine .reg (eC 1 (sortF [sc 0 0 1 n0 c0] (hp 1 [oC q0])) (sortF_eq (x:=(sc 0 0 1 n0 c0)) (H:=(hp 1 [oC q0])) (id:=0) (ln:=n0) (c2:=c0) (xs:=q0) (anc:=[]) (by kernel_rfl) (by kernel_rfl) h0 h1) (eE)) ?_
 replace hm:=bb_inv hm;obtain ⟨h2,hm⟩:=hm
 refine .ghs (fr 29 [(3,sc 0 0 1 n0 c0)]) (hp 1 [(oC (mapL I64 (srtZ z0)))]) (.k [0] [] [.tmp 3 false] [3] ⟨trF h2,trivial⟩) ?_
 refine .then ?_
 replace hm:=bb_inv hm;obtain ⟨h3,hm⟩:=hm
 replace hm:=bb_inv hm;obtain ⟨h4,hm⟩:=hm
 replace hm:=oo_inv hm;obtain ⟨v0,h5,hm⟩:=hm
 replace hm:=inv_vTup hm;obtain ⟨l0,rfl,hm⟩:=hm
 replace hm:=ll_uncons hm;obtain ⟨v1,l992_0,rfl,hm⟩:=hm
 replace hm:=ll_uncons hm;obtain ⟨v2,l992_1,rfl,hm⟩:=hm
 replace hm:=ll_end hm;obtain ⟨rfl,hm⟩:=hm
 replace hm:=bb_inv hm;obtain ⟨h6,hm⟩:=hm
 obtain rfl:=isNoV_ok h6
 replace hm:=inv_vAgg hm;obtain ⟨q1,rfl,hm⟩:=hm
 replace hm:=bb_inv hm;obtain ⟨h7,hm⟩:=hm
 refine .reg (eC 1 (objG tabs [[none]] 1 [.tmp 0 false] [false] (pu 10170) [sc 0 0 1 n0 c0] (hp 1 [(oC (mapL I64 (srtZ z0)))])) (objG_eq (as:=[sc 0 0 1 n0 c0]) (H1:=(hp 1 [(oC (mapL I64 (srtZ z0)))])) (gvAL_c (gvA_1 gv_n) gvAL_n) (objF_eq (H2:=(hp 1 [oC q1])) (v:=(.tuple ⟨[]⟩)) (v':=(.tuple ⟨[]⟩)) [some 0] [(false,some 0)] [(oC (mapL I64 (srtZ z0)))] [sc 0 0 1 n0 c0] [(.agg ⟨q1⟩)] [oC q1] [some 0] [(false,oC q1)] [oC q1] (trE (by kernel_rfl) (rootL h3 rfl)) (mapO_c (nO_list (anc:=[]) h4) mapO_n) (Eq.trans (by kernel_rfl) h5) (mapO_c rfl mapO_n) (mapO_c (bO_list h7) mapO_n))) (eE)) ?_
 replace hm:=bb_inv hm;obtain ⟨h8,hm⟩:=hm
 refine .ghs (fr 29 [(3,sc 0 0 1 n0 c0)]) (hp 1 [oC q1]) (.k [0] [] [.tmp 3 false] [3] ⟨trF h8,trivial⟩) ?_
 refine .then (.rK ?_)
 refine .ghs (fr 29 [(2,sc 0 0 1 n0 c0)]) (hp 1 [oC q1]) (.k [0] [] [.tmp 2 false] [2] ⟨trF h8,trivial⟩) ?_
 replace hm:=bb_inv hm;obtain ⟨h9,hm⟩:=hm
 refine .ghs (Fr.puts (fr 29 [(2,sc 0 0 1 n0 c0)]) [(2,(Sl.v 1 (Sl.mk n0 0 (takeL (n0 * 1) (dropL 0 q1)))))]) (hp 1 [.dead]) (.freezeC 0 2 1 (an (Nat.ble (0 + n0 * 1) (len q1)) (allL closed1 (takeL (n0 * 1) (dropL 0 q1)))) (F1:=(Fr.puts (fr 29 [(2,sc 0 0 1 n0 c0)]) [(2,(Sl.v 1 (Sl.mk n0 0 (takeL (n0 * 1) (dropL 0 q1)))))])) (H1:=(hp 1 [.dead])) (by kernel_rfl) (by kernel_rfl) h9 (GhS.id _ _)) ?_
 refine .ret ?_
 exact fin_ret (Sl.v 1 (Sl.mk n0 0 (takeL (n0 * 1) (dropL 0 q1)))) (by kernel_rfl) (by kernel_rfl) hm
theorem r7 {call:CallF} (pu:PureF) (n:Nat) (hcall:call = callP tabs isP pu (inl pu)) {args:LV} {v:Value} (hm:m7 pu n args = some v) (_:∀ x ∈ args,closed2 x = true):args.length≤29∧Run tt call 0 c7_27 (Fr.made 29 args) (pureHeap tabs) (Fin tt 0 [.tmp 2] v):=by
 subst hcall
 unfold m7 at hm
 replace hm:=ll_uncons hm;obtain ⟨a0,args_0,rfl,hm⟩:=hm
 replace hm:=ll_end hm;obtain ⟨rfl,hm⟩:=hm
 replace hm:=inv_toSl hm;obtain ⟨s0,rfl,hm⟩:=hm
 unfold m7_ at hm
 refine ⟨by simp,?_⟩
 refine .same (F':=(fr 29 [(0,Sl.v 1 s0)])) (H':=(hp 0 [])) (by kernel_rfl) (by kernel_rfl) ?_
 refine .then (.rK ?_)
 refine .ghs (fr 29 [(0,Sl.v 1 s0)]) (hp 0 []) (.k0 [] [] [0]) ?_
 refine .then ?_
 refine .reg (eC 3 (identF [sc 0 0 1 1 3] (hp 1 [(oC [(zI (Int.ofNat (Sl.n s0)))])])) rfl (eE)) ?_
 refine .ghs (fr 29 [(0,Sl.v 1 s0),(3,sc 0 0 1 1 3)]) (hp 1 [(oC [(zI (Int.ofNat (Sl.n s0)))])]) (.k0 [] [.tmp 3 false] [0,3]) ?_
 refine .join (v:=v) (fun y:Nat×Nat×LV=>((fr 29 [(3,(sc 0 0 1 y.1 y.2.1))]),(hp 1 [(oC y.2.2)]))) (fun y=>m7_0 pu n y.1 y.2.1 y.2.2) ?_ ?_
 ·rintro ⟨n0, c0, q0⟩ hm
  exact w7_0 pu n n0 c0 q0 hm
 ·refine .then (.rK ?_)
  refine .ghs (fr 29 [(3,sc 0 0 1 1 3),(10,Sl.v 1 s0),(11,(zI (Int.ofNat (Sl.n s0)))),(12,(zI (0:Int)))]) (hp 1 [(oC [(zI (Int.ofNat (Sl.n s0)))])]) (.k0 [] [.tmp 3 false] [3,10,11,12]) ?_
  refine .block ?_
  refine .loopM (v:=v) (fun y:Nat×Nat×Sl×Int×Int×LV=>((fr 29 [(3,(sc 0 0 1 y.1 y.2.1)),(10,(Sl.v 1 y.2.2.1)),(11,(zI y.2.2.2.1)),(12,(zI y.2.2.2.2.1))]),(hp 1 [(oC y.2.2.2.2.2)]))) (fun w y=>l7_1 pu n w y.1 y.2.1 y.2.2.1 y.2.2.2.1 y.2.2.2.2.1 y.2.2.2.2.2) n ⟨(1,2,s0,(Int.ofNat (Sl.n s0)),(0:Int),([(zI (Int.ofNat (Sl.n s0)))]:LV)),hm,(.weak 3 (sc 0 0 1 1 2) (v:=(sc 0 0 1 1 3)) (by kernel_rfl) (Weak.cap 0 0 1 1 1) (.k0 [] [.tmp 3 false] [3,10,11,12]))⟩ (fun _=>rfl) ?_
  rintro w0 ⟨n1,c1,s1,z0,z1,q1⟩ hm
  replace hm:b7_1 pu n (l7_1 pu n w0) n1 c1 s1 z0 z1 q1 = some v:=hm
  unfold b7_1 at hm
  refine .then (.rK ?_)
  replace hm:=bb_inv hm;obtain ⟨h0,hm⟩:=hm
  refine .ghs (fr 29 [(3,sc 0 0 1 n1 c1),(10,Sl.v 1 s1),(11,zI z0),(12,zI z1),(13,(zB (ilt z1 z0)))]) (hp 1 [oC q1]) (.k [0] [] [.tmp 3 false] [3,10,11,12,13] ⟨trF h0,trivial⟩) ?_
  refine .then ?_
  replace hm:=bb_cases hm;rcases hm with ⟨h1,hm⟩ | ⟨h1,hm⟩
  ·refine .ifT (ilt z1 z0) (by kernel_rfl) h1 ?_
   refine .skip ?_
   refine .ghs (fr 29 [(3,sc 0 0 1 n1 c1),(10,Sl.v 1 s1),(11,zI z0),(12,zI z1)]) (hp 1 [oC q1]) (.k [0] [] [.tmp 3 false] [3,10,11,12] ⟨trF h0,trivial⟩) ?_
   refine .join (v:=v) (fun y:Nat×Nat×Sl×Int×Int×LV=>((fr 29 [(3,(sc 0 0 1 y.1 y.2.1)),(10,(Sl.v 1 y.2.2.1)),(11,(zI y.2.2.2.1)),(12,(zI y.2.2.2.2.1))]),(hp 1 [(oC y.2.2.2.2.2)]))) (fun y=>m7_2 pu n (l7_1 pu n w0) y.1 y.2.1 y.2.2.1 y.2.2.2.1 y.2.2.2.2.1 y.2.2.2.2.2) ?_ ?_
   ·rintro ⟨n2, c2, s2, z2, z3, q2⟩ hm
    unfold m7_2 at hm
    refine .rK ?_
    replace hm:=bb_inv hm;obtain ⟨h2,hm⟩:=hm
    exact ⟨(n2,c2,s2,z2,(wrapF .i64 (Int.add z3 (1:Int))),q2),hm,(.k [0] [] [.tmp 3 false] [3,10,11,12] ⟨trF h2,trivial⟩)⟩
   ·refine .block ?_
    refine .then ?_
    replace hm:=oo_inv hm;obtain ⟨k1,h3,hm⟩:=hm
    obtain rfl:=toN_some h3
    replace hm:=bb_inv hm;obtain ⟨h4,hm⟩:=hm
    replace hm:=oo_inv hm;obtain ⟨v0,h5,hm⟩:=hm
    replace hm:=inv_toI hm;obtain ⟨x0,rfl,hm⟩:=hm
    refine .reg (eD (keep (hp 1 [oC q1]) (bb (an (Nat.blt k1 (Sl.n s1)) true) (some (fpV (k1 * 1) (Sl.cs s1))) none)) (keep_bb h4) (eD (keep (hp 1 [oC q1]) (nthL (Sl.cs s1) (k1 * 1))) (keep_eq h5) (eE))) ?_
    refine .ghs (fr 29 [(3,sc 0 0 1 n1 c1),(5,zI x0),(10,Sl.v 1 s1),(11,zI z0),(12,(zI (Int.ofNat k1)))]) (hp 1 [oC q1]) (.k [0] [] [.tmp 3 false] [3,5,10,11,12] ⟨trF h0,trivial⟩) ?_
    refine .then (.rK ?_)
    refine .ghs (fr 29 [(3,sc 0 0 1 n1 c1),(5,zI x0),(10,Sl.v 1 s1),(11,zI z0),(12,(zI (Int.ofNat k1))),(17,(zB (ilt (1:Int) x0)))]) (hp 1 [oC q1]) (.k [0] [] [.tmp 3 false] [3,5,10,11,12,17] ⟨trF h0,trivial⟩) ?_
    replace hm:=bb_cases hm;rcases hm with ⟨h6,hm⟩ | ⟨h6,hm⟩
    ·refine .ifT (ilt (1 : Int) x0) (by kernel_rfl) h6 ?_
     replace hm:=bb_inv hm;obtain ⟨h7,hm⟩:=hm
     refine .reg (eC 4 (growD 1 8 n1 c1 1 0 q1 [(zI (wrapF .i64 (Int.sub x0 (1:Int))))] [] (hp 2 [oC q1,(oC [(zI (wrapF .i64 (Int.sub x0 (1:Int))))])])) (growD_eq h7) (eE)) ?_
     replace hm:=bb_inv hm;obtain ⟨h8,hm⟩:=hm
     exact ⟨((n1 + 1),(d2 (n1 + 1)),s1,z0,(Int.ofNat k1),(appL (dropL 0 q1) [(zI (wrapF .i64 (Int.sub x0 (1:Int))))])),hm,(.k [2] [] [.tmp 3 false] [3,10,11,12] ⟨trF h8,trivial⟩)⟩
    ·refine .ifF (ilt (1 : Int) x0) (by kernel_rfl) h6 ?_
     refine .skip ?_
     exact ⟨(n1,c1,s1,z0,(Int.ofNat k1),q1),hm,(.k [0] [] [.tmp 3 false] [3,10,11,12] ⟨trF h0,trivial⟩)⟩
  ·refine .ifF (ilt z1 z0) (by kernel_rfl) h1 ?_
   refine .exit ?_
   exact ⟨(n1,c1,q1),hm,(.k [0] [] [.tmp 3 false] [3] ⟨trF h0,trivial⟩)⟩
def m8_0 (pu:PureF) (n:Nat) (z0:Int):OV:=
 (some (.int .i64 z0))
def b8_1 (pu:PureF) (n:Nat) (ih0:Int→Sl→Int→Int→OV) (z0:Int) (s0:Sl) (z1 z2:Int):OV:=
 (bb (ilt z2 z1) (oo (toN z2) none fun k1=>(bb (an (Nat.blt k1 (Sl.n s0)) true) (oo (nthL (Sl.cs s0) (k1 * 1)) none fun v0=>(oo (toI .i64 v0) none fun x0=>(ih0 (wrapF .i64 (Int.add z0 x0)) s0 z1 (wrapF .i64 (Int.add (Int.ofNat k1) (1:Int)))))) none)) (m8_0 pu n z0))
def l8_1 (pu:PureF) (n w:Nat):Int→Sl→Int→Int→OV:=
 Nat.rec (motive:=fun _=>Int→Sl→Int→Int→OV) (fun _ _ _ _=>none) (fun _ ih0=>b8_1 pu n ih0) w
def m8_ (pu:PureF) (n:Nat) (s0:Sl):OV:=
 (l8_1 pu n n (0:Int) s0 (Int.ofNat (Sl.n s0)) (0:Int))
def m8 (pu:PureF) (n:Nat) (args:LV):OV:=
 (ll args none fun a0 args=>(ll args (oo (toSl 1 a0) none fun s0=>(m8_ pu n s0)) fun _ _=>none))
theorem w8_0 (pu:PureF) (n:Nat) (z0:Int) {v:Value} (hm:m8_0 pu n z0 = some v):Run tt (callP tabs isP pu (inl pu)) 0 c8_17 (fr 17 [(3,zI z0)]) (hp 0 []) (Fin tt 0 [.tmp 2] v):=by
 unfold m8_0 at hm
 refine .then (.rK ?_)
 refine .ghs (fr 17 [(2,zI z0)]) (hp 0 []) (.k0 [] [] [2]) ?_
 refine .ret ?_
 exact fin_ret (zI z0) (by kernel_rfl) (by kernel_rfl) hm
theorem r8 {call:CallF} (pu:PureF) (n:Nat) (hcall:call = callP tabs isP pu (inl pu)) {args:LV} {v:Value} (hm:m8 pu n args = some v) (_:∀ x ∈ args,closed2 x = true):args.length≤17∧Run tt call 0 c8_20 (Fr.made 17 args) (pureHeap tabs) (Fin tt 0 [.tmp 2] v):=by
 subst hcall
 unfold m8 at hm
 replace hm:=ll_uncons hm;obtain ⟨a0,args_0,rfl,hm⟩:=hm
 replace hm:=ll_end hm;obtain ⟨rfl,hm⟩:=hm
 replace hm:=inv_toSl hm;obtain ⟨s0,rfl,hm⟩:=hm
 unfold m8_ at hm
 refine ⟨by simp,?_⟩
 refine .same (F':=(fr 17 [(0,Sl.v 1 s0)])) (H':=(hp 0 [])) (by kernel_rfl) (by kernel_rfl) ?_
 refine .then (.rK ?_)
 refine .ghs (fr 17 [(0,Sl.v 1 s0)]) (hp 0 []) (.k0 [] [] [0]) ?_
 refine .then (.rK ?_)
 refine .ghs (fr 17 [(0,Sl.v 1 s0),(3,(zI (0:Int)))]) (hp 0 []) (.k0 [] [] [0,3]) ?_
 refine .join (v:=v) (fun y:Int=>((fr 17 [(3,zI y)]),(hp 0 []))) (fun y=>m8_0 pu n y) ?_ ?_
 ·rintro z0 hm
  exact w8_0 pu n z0 hm
 ·refine .then (.rK ?_)
  refine .ghs (fr 17 [(3,(zI (0:Int))),(6,Sl.v 1 s0),(7,(zI (Int.ofNat (Sl.n s0)))),(8,(zI (0:Int)))]) (hp 0 []) (.k0 [] [] [3,6,7,8]) ?_
  refine .block ?_
  refine .loopM (v:=v) (fun y:Int×Sl×Int×Int=>((fr 17 [(3,(zI y.1)),(6,(Sl.v 1 y.2.1)),(7,(zI y.2.2.1)),(8,(zI y.2.2.2))]),(hp 0 []))) (fun w y=>l8_1 pu n w y.1 y.2.1 y.2.2.1 y.2.2.2) n ⟨((0:Int),s0,(Int.ofNat (Sl.n s0)),(0:Int)),hm,(.k0 [] [] [3,6,7,8])⟩ (fun _=>rfl) ?_
  rintro w0 ⟨z1,s1,z2,z3⟩ hm
  replace hm:b8_1 pu n (l8_1 pu n w0) z1 s1 z2 z3 = some v:=hm
  unfold b8_1 at hm
  refine .then (.rK ?_)
  refine .ghs (fr 17 [(3,zI z1),(6,Sl.v 1 s1),(7,zI z2),(8,zI z3),(9,(zB (ilt z3 z2)))]) (hp 0 []) (.k0 [] [] [3,6,7,8,9]) ?_
  refine .then ?_
  replace hm:=bb_cases hm;rcases hm with ⟨h0,hm⟩ | ⟨h0,hm⟩
  ·refine .ifT (ilt z3 z2) (by kernel_rfl) h0 ?_
   refine .skip ?_
   refine .ghs (fr 17 [(3,zI z1),(6,Sl.v 1 s1),(7,zI z2),(8,zI z3)]) (hp 0 []) (.k0 [] [] [3,6,7,8]) ?_
   refine .then ?_
   refine .block ?_
   refine .then ?_
   replace hm:=oo_inv hm;obtain ⟨k1,h1,hm⟩:=hm
   obtain rfl:=toN_some h1
   replace hm:=bb_inv hm;obtain ⟨h2,hm⟩:=hm
   replace hm:=oo_inv hm;obtain ⟨v0,h3,hm⟩:=hm
   replace hm:=inv_toI hm;obtain ⟨x0,rfl,hm⟩:=hm
   refine .reg (eD (keep (hp 0 []) (bb (an (Nat.blt k1 (Sl.n s1)) true) (some (fpV (k1 * 1) (Sl.cs s1))) none)) (keep_bb h2) (eD (keep (hp 0 []) (nthL (Sl.cs s1) (k1 * 1))) (keep_eq h3) (eE))) ?_
   refine .ghs (fr 17 [(3,zI z1),(5,zI x0),(6,Sl.v 1 s1),(7,zI z2),(8,(zI (Int.ofNat k1)))]) (hp 0 []) (.k0 [] [] [3,5,6,7,8]) ?_
   refine .rK ?_
   refine .ghs (fr 17 [(3,(zI (wrapF .i64 (Int.add z1 x0)))),(6,Sl.v 1 s1),(7,zI z2),(8,(zI (Int.ofNat k1)))]) (hp 0 []) (.k0 [] [] [3,6,7,8]) ?_
   refine .rK ?_
   exact ⟨((wrapF .i64 (Int.add z1 x0)),s1,z2,(wrapF .i64 (Int.add (Int.ofNat k1) (1:Int)))),hm,(.k0 [] [] [3,6,7,8])⟩
  ·refine .ifF (ilt z3 z2) (by kernel_rfl) h0 ?_
   refine .exit ?_
   exact ⟨z1,hm,(.k0 [] [] [3])⟩
def m9_0 (pu:PureF) (n:Nat) (q0:LV):OV:=
 (bb (Nat.ble (0 + 22) (len q0)) (oo (pu 21 [(.agg ⟨(takeL 22 (dropL 0 q0))⟩)]) none fun v0=>(oo (toSl 1 v0) none fun s0=>(bb (allL closed2 [(.agg ⟨(takeL 22 (dropL 0 q0))⟩)]) (bb (allL closed1 (Sl.cs s0)) (bb (an (Nat.ble (0 + (Sl.n s0) * 1) (len (Sl.cs s0))) (allL closed1 (takeL ((Sl.n s0) * 1) (dropL 0 (Sl.cs s0))))) (some (.tuple ⟨[(Sl.v 1 (Sl.mk (Sl.n s0) 0 (takeL ((Sl.n s0) * 1) (dropL 0 (Sl.cs s0))))),(.int .i64 (0:Int))]⟩)) none) none) none))) none)
def m9_2 (pu:PureF) (n:Nat) (ih0:Int→LV→OV) (z0:Int) (q0:LV):OV:=
 (bb (Nat.ble (0 + 22) (len q0)) (oo (pu 20 [(.agg ⟨(takeL 22 (dropL 0 q0))⟩)]) none fun v0=>(oo (vAgg v0) none fun q1=>(bb (an (Nat.beq (len q1) 22) (allL closed1 q1)) (bb (allL closed2 [(.agg ⟨(takeL 22 (dropL 0 q0))⟩)]) (bb (Nat.beq (len q1) 22) (bb (an (Nat.ble (0 + len q1) (len q0)) (allL scalarB q1)) (bb (allL closed1 (setL q1 0 q0)) (ih0 (wrapF .i64 (Int.sub z0 (1:Int))) (setL q1 0 q0)) none) none) none) none) none))) none)
def b9_1 (pu:PureF) (n:Nat) (ih0:Int→LV→OV) (z0:Int) (q0:LV):OV:=
 (bb (allL closed1 q0) (bb (ilt (0:Int) z0) (bb (Nat.ble (0 + 22) (len q0)) (oo (pu 23 [(.agg ⟨(takeL 22 (dropL 0 q0))⟩)]) none fun v0=>(oo (vBool v0) none fun b0=>(bb (allL closed2 [(.agg ⟨(takeL 22 (dropL 0 q0))⟩)]) (bb b0 (bb (Nat.ble (0 + 22) (len q0)) (oo (pu 25 [(.agg ⟨(takeL 22 (dropL 0 q0))⟩)]) none fun v1=>(oo (toI .i64 v1) none fun x0=>(bb (allL closed2 [(.agg ⟨(takeL 22 (dropL 0 q0))⟩)]) (oo (pu 24 [.int .i64 x0]) none fun v2=>(oo (vTup v2) none fun l0=>(ll l0 none fun v3 l0=>(ll l0 none fun v4 l0=>(ll l0 (oo (toI .i64 v3) none fun x1=>(oo (toI .i64 v4) none fun x2=>(bb (nt (ieq (wrapF .i64 (Int.add x1 (1:Int))) (0:Int))) (m9_2 pu n ih0 (wrapF .i64 (Int.add (Int.tmod (wrapF .i64 (Int.sub z0 (1:Int))) (wrapF .i64 (Int.add x1 (1:Int)))) (1:Int))) q0) none))) fun _ _=>none))))) none))) none) (m9_2 pu n ih0 z0 q0)) none))) none) (m9_0 pu n q0)) none)
def l9_1 (pu:PureF) (n w:Nat):Int→LV→OV:=
 Nat.rec (motive:=fun _=>Int→LV→OV) (fun _ _=>none) (fun _ ih0=>b9_1 pu n ih0) w
def m9_ (pu:PureF) (n:Nat) (s0:Sl) (x0:Int):OV:=
 (oo (pu 18 [Sl.v 1 s0]) none fun v0=>(oo (toI .i64 v0) none fun x1=>(bb (nt (ieq x1 (0:Int))) (some (.tuple ⟨[(Sl.v 1 (Sl.mk 0 2 [])),.int .i64 x1]⟩)) (oo (pu 22 [(.int .i64 (0:Int)),.int .i64 x0,(.int .i64 (1000000000:Int))]) none fun v1=>(oo (vBool v1) none fun b0=>(bb (nt b0) (some (.tuple ⟨[(Sl.v 1 (Sl.mk 0 2 [])),(.int .i64 (1:Int))]⟩)) (oo (pu 19 [Sl.v 1 s0]) none fun v2=>(oo (vAgg v2) none fun q0=>(bb (an (Nat.beq (len q0) 22) (allL closed1 q0)) (bb (Nat.beq (len q0) 22) (bb (an (Nat.ble (0 + len q0) (len zA46)) (allL scalarB q0)) (bb (allL closed1 (setL q0 0 zA46)) (l9_1 pu n n x0 (setL q0 0 zA46)) none) none) none) none)))))))))
def m9 (pu:PureF) (n:Nat) (args:LV):OV:=
 (ll args none fun a0 args=>(ll args none fun a1 args=>(ll args (oo (toSl 1 a0) none fun s0=>(oo (toI .i64 a1) none fun x0=>(m9_ pu n s0 x0))) fun _ _=>none)))
theorem w9_0 (pu:PureF) (n:Nat) (q0:LV) {v:Value} (hm:m9_0 pu n q0 = some v):Run tt (callP tabs isP pu (inl pu)) 0 c9_32 (fr 44 [(7,(pt 0 0))]) (hp 1 [oC q0]) (Fin tt 0 [.tmp 4,.tmp 5] v):=by
 unfold m9_0 at hm
 refine .then ?_
 replace hm:=bb_inv hm;obtain ⟨h0,hm⟩:=hm
 replace hm:=oo_inv hm;obtain ⟨v0,h1,hm⟩:=hm
 replace hm:=inv_toSl hm;obtain ⟨s0,rfl,hm⟩:=hm
 replace hm:=bb_inv hm;obtain ⟨h2,hm⟩:=hm
 refine .reg (eD (keep (hp 1 [oC q0]) (bb (Nat.ble (0 + 22) (len q0)) (some (.agg ⟨(takeL 22 (dropL 0 q0))⟩)) none)) (keep_bb h0) (eD (bb (allL closed2 [(.agg ⟨(takeL 22 (dropL 0 q0))⟩)]) (oo (pu 21 [(.agg ⟨(takeL 22 (dropL 0 q0))⟩)]) none fun v=>oo (toSl 1 v) none fun s=>some (((sc 1 0 1 (Sl.n s) (d2 (Sl.n s))),(hp 2 [oC q0,(oC (Sl.cs s))])):Value×AHeap)) none) ((bb_true' h2).trans (live_eq (sz:=1) (k:=fun s=>(((sc 1 0 1 (Sl.n s) (d2 (Sl.n s))),(hp 2 [oC q0,(oC (Sl.cs s))])):Value×AHeap)) h1)) (eE))) ?_
 replace hm:=bb_inv hm;obtain ⟨h3,hm⟩:=hm
 refine .ghs (fr 44 [(4,(sc 0 0 1 (Sl.n s0) (d2 (Sl.n s0)))),(5,(zI (0:Int)))]) (hp 1 [(oC (Sl.cs s0))]) (.k [1] [] [.tmp 4 false] [4,5] ⟨trF h3,trivial⟩) ?_
 replace hm:=bb_inv hm;obtain ⟨h4,hm⟩:=hm
 refine .ghs (Fr.puts (fr 44 [(4,(sc 0 0 1 (Sl.n s0) (d2 (Sl.n s0)))),(5,(zI (0:Int)))]) [(4,(Sl.v 1 (Sl.mk (Sl.n s0) 0 (takeL ((Sl.n s0) * 1) (dropL 0 (Sl.cs s0))))))]) (hp 1 [.dead]) (.freezeC 0 4 1 (an (Nat.ble (0 + (Sl.n s0) * 1) (len (Sl.cs s0))) (allL closed1 (takeL ((Sl.n s0) * 1) (dropL 0 (Sl.cs s0))))) (F1:=(Fr.puts (fr 44 [(4,(sc 0 0 1 (Sl.n s0) (d2 (Sl.n s0)))),(5,(zI (0:Int)))]) [(4,(Sl.v 1 (Sl.mk (Sl.n s0) 0 (takeL ((Sl.n s0) * 1) (dropL 0 (Sl.cs s0))))))])) (H1:=(hp 1 [.dead])) (by kernel_rfl) (by kernel_rfl) h4 (GhS.id _ _)) ?_
 refine .ret ?_
 exact fin_ret (.tuple ⟨[(Sl.v 1 (Sl.mk (Sl.n s0) 0 (takeL ((Sl.n s0) * 1) (dropL 0 (Sl.cs s0))))),(zI (0:Int))]⟩) (by kernel_rfl) (by kernel_rfl) hm
theorem r9 {call:CallF} (pu:PureF) (n:Nat) (hcall:call = callP tabs isP pu (inl pu)) {args:LV} {v:Value} (hm:m9 pu n args = some v) (_:∀ x ∈ args,closed2 x = true):args.length≤44∧Run tt call 0 c9_37 (Fr.made 44 args) (pureHeap tabs) (Fin tt 0 [.tmp 4,.tmp 5] v):=by
 subst hcall
 unfold m9 at hm
 replace hm:=ll_uncons hm;obtain ⟨a0,args_0,rfl,hm⟩:=hm
 replace hm:=ll_uncons hm;obtain ⟨a1,args_1,rfl,hm⟩:=hm
 replace hm:=ll_end hm;obtain ⟨rfl,hm⟩:=hm
 replace hm:=inv_toSl hm;obtain ⟨s0,rfl,hm⟩:=hm
 replace hm:=inv_toI hm;obtain ⟨x0,rfl,hm⟩:=hm
 unfold m9_ at hm
 refine ⟨by simp,?_⟩
 refine .same (F':=(fr 44 [(0,Sl.v 1 s0),(1,zI x0)])) (H':=(hp 0 [])) (by kernel_rfl) (by kernel_rfl) ?_
 refine .then (.rK ?_)
 refine .ghs (fr 44 [(0,Sl.v 1 s0),(1,zI x0)]) (hp 0 []) (.k0 [] [] [0,1]) ?_
 refine .then ?_
 replace hm:=oo_inv hm;obtain ⟨v0,h0,hm⟩:=hm
 replace hm:=inv_toI hm;obtain ⟨x1,rfl,hm⟩:=hm
 refine .reg (eC 1 ((oo (pu 18 [Sl.v 1 s0]) none fun v=>some (v,(hp 0 [])))) (call_eq h0) (eE)) ?_
 refine .ghs (fr 44 [(0,Sl.v 1 s0),(1,zI x0),(6,zI x1)]) (hp 0 []) (.k0 [] [] [0,1,6]) ?_
 refine .then ?_
 refine .block ?_
 refine .then (.rK ?_)
 refine .ghs (fr 44 [(0,Sl.v 1 s0),(1,zI x0),(6,zI x1),(12,(zB (nt (ieq x1 (0:Int)))))]) (hp 0 []) (.k0 [] [] [0,1,6,12]) ?_
 replace hm:=bb_cases hm;rcases hm with ⟨h1,hm⟩ | ⟨h1,hm⟩
 ·refine .ifT (nt (ieq x1 (0 : Int))) (by kernel_rfl) h1 ?_
  refine .then (.rK ?_)
  refine .ghs (fr 44 [(4,(.slice none 0 0)),(5,zI x1)]) (hp 0 []) (.k0 [] [] [4,5]) ?_
  refine .ghs (Fr.puts (fr 44 [(4,(.slice none 0 0)),(5,zI x1)]) [(4,(Sl.v 1 (Sl.mk 0 2 [])))]) (hp 0 []) (.freeze 0 4 1 (by kernel_rfl) (by kernel_rfl) (GhS.id _ _)) ?_
  refine .ret ?_
  exact fin_ret (.tuple ⟨[(Sl.v 1 (Sl.mk 0 2 [])),zI x1]⟩) (by kernel_rfl) (by kernel_rfl) hm
 ·refine .ifF (nt (ieq x1 (0 : Int))) (by kernel_rfl) h1 ?_
  refine .then ?_
  replace hm:=oo_inv hm;obtain ⟨v1,h2,hm⟩:=hm
  replace hm:=inv_vBool hm;obtain ⟨b0,rfl,hm⟩:=hm
  refine .reg (eC 1 ((oo (pu 22 [(zI (0:Int)),zI x0,(zI (1000000000:Int))]) none fun v=>some (v,(hp 0 [])))) (call_eq h2) (eE)) ?_
  refine .ghs (fr 44 [(0,Sl.v 1 s0),(1,zI x0),(16,(zB (nt b0)))]) (hp 0 []) (.k0 [] [] [0,1,16]) ?_
  replace hm:=bb_cases hm;rcases hm with ⟨h3,hm⟩ | ⟨h3,hm⟩
  ·refine .ifT (nt b0) (by kernel_rfl) h3 ?_
   refine .then (.rK ?_)
   refine .ghs (fr 44 [(4,(.slice none 0 0)),(5,(zI (1:Int)))]) (hp 0 []) (.k0 [] [] [4,5]) ?_
   refine .ghs (Fr.puts (fr 44 [(4,(.slice none 0 0)),(5,(zI (1:Int)))]) [(4,(Sl.v 1 (Sl.mk 0 2 [])))]) (hp 0 []) (.freeze 0 4 1 (by kernel_rfl) (by kernel_rfl) (GhS.id _ _)) ?_
   refine .ret ?_
   exact fin_ret (.tuple ⟨[(Sl.v 1 (Sl.mk 0 2 [])),(zI (1:Int))]⟩) (by kernel_rfl) (by kernel_rfl) hm
  ·refine .ifF (nt b0) (by kernel_rfl) h3 ?_
   refine .skip ?_
   refine .ghs (fr 44 [(0,Sl.v 1 s0),(1,zI x0)]) (hp 0 []) (.k0 [] [] [0,1]) ?_
   refine .then ?_
   replace hm:=oo_inv hm;obtain ⟨v2,h4,hm⟩:=hm
   replace hm:=inv_vAgg hm;obtain ⟨q0,rfl,hm⟩:=hm
   replace hm:=bb_inv hm;obtain ⟨h5,hm⟩:=hm
   replace hm:=bb_inv hm;obtain ⟨h6,hm⟩:=hm
   replace hm:=bb_inv hm;obtain ⟨h7,hm⟩:=hm
   refine .reg (eC 1 ((oo (pu 19 [Sl.v 1 s0]) none fun v=>some (v,(hp 0 [])))) (call_eq h4) (eC 1 (done (bb (Nat.beq (len q0) 22) (bb (an (Nat.ble (0 + len q0) (len zA46)) (allL scalarB q0)) (some (hp 1 [(oC (setL q0 0 zA46))])) none) none) undef) (done_bb2 h6 h7) (eE))) ?_
   replace hm:=bb_inv hm;obtain ⟨h8,hm⟩:=hm
   refine .ghs (fr 44 [(1,zI x0),(7,(pt 0 0))]) (hp 1 [(oC (setL q0 0 zA46))]) (.k [0] [] [.tmp 7 false] [1,7] ⟨trF h8,trivial⟩) ?_
   refine .join (v:=v) (fun y:LV=>((fr 44 [(7,(pt 0 0))]),(hp 1 [oC y]))) (fun y=>m9_0 pu n y) ?_ ?_
   ·rintro q1 hm
    exact w9_0 pu n q1 hm
   ·refine .block ?_
    refine .loopM (v:=v) (fun y:Int×LV=>((fr 44 [(1,(zI y.1)),(7,(pt 0 0))]),(hp 1 [(oC y.2)]))) (fun w y=>l9_1 pu n w y.1 y.2) n ⟨(x0,(setL q0 0 zA46)),hm,(.k [0] [] [.tmp 7 false] [1,7] ⟨trF h8,trivial⟩)⟩ (fun _=>rfl) ?_
    rintro w0 ⟨z0,q2⟩ hm
    replace hm:b9_1 pu n (l9_1 pu n w0) z0 q2 = some v:=hm
    unfold b9_1 at hm
    refine .then ?_
    refine .then (.rK ?_)
    replace hm:=bb_inv hm;obtain ⟨h9,hm⟩:=hm
    refine .ghs (fr 44 [(1,zI z0),(7,(pt 0 0)),(23,(zB (ilt (0:Int) z0)))]) (hp 1 [oC q2]) (.k [0] [] [.tmp 7 false] [1,7,23] ⟨trF h9,trivial⟩) ?_
    replace hm:=bb_cases hm;rcases hm with ⟨h10,hm⟩ | ⟨h10,hm⟩
    ·refine .ifT (ilt (0 : Int) z0) (by kernel_rfl) h10 ?_
     refine .skip ?_
     refine .ghs (fr 44 [(1,zI z0),(7,(pt 0 0))]) (hp 1 [oC q2]) (.k [0] [] [.tmp 7 false] [1,7] ⟨trF h9,trivial⟩) ?_
     refine .then ?_
     refine .block ?_
     refine .join (v:=v) (fun y:Int×LV=>((fr 44 [(1,(zI y.1)),(7,(pt 0 0))]),(hp 1 [(oC y.2)]))) (fun y=>m9_2 pu n (l9_1 pu n w0) y.1 y.2) ?_ ?_
     ·rintro ⟨z1, q3⟩ hm
      unfold m9_2 at hm
      replace hm:=bb_inv hm;obtain ⟨h11,hm⟩:=hm
      replace hm:=oo_inv hm;obtain ⟨v3,h12,hm⟩:=hm
      replace hm:=inv_vAgg hm;obtain ⟨q4,rfl,hm⟩:=hm
      replace hm:=bb_inv hm;obtain ⟨h13,hm⟩:=hm
      replace hm:=bb_inv hm;obtain ⟨h14,hm⟩:=hm
      replace hm:=bb_inv hm;obtain ⟨h15,hm⟩:=hm
      replace hm:=bb_inv hm;obtain ⟨h16,hm⟩:=hm
      refine .reg (eD (keep (hp 1 [oC q3]) (bb (Nat.ble (0 + 22) (len q3)) (some (.agg ⟨(takeL 22 (dropL 0 q3))⟩)) none)) (keep_bb h11) (eD (bb (allL closed2 [(.agg ⟨(takeL 22 (dropL 0 q3))⟩)]) (oo (pu 20 [(.agg ⟨(takeL 22 (dropL 0 q3))⟩)]) none fun v=>some (v,(hp 1 [oC q3]))) (oo (mapO (purify (hp 1 [oC q3])) [(.agg ⟨(takeL 22 (dropL 0 q3))⟩)]) none fun l1=>oo (pu 20 l1) none fun v=>bb (plainT v) (some (v,(hp 1 [oC q3]))) none)) (callc_eq h14 h12) (eD (done (bb (Nat.beq (len q4) 22) (bb (an (Nat.ble (0 + len q4) (len q3)) (allL scalarB q4)) (some (hp 1 [(oC (setL q4 0 q3))])) none) none) undef) (done_bb2 h15 h16) (eE)))) ?_
      replace hm:=bb_inv hm;obtain ⟨h17,hm⟩:=hm
      refine .ghs (fr 44 [(1,zI z1),(7,(pt 0 0))]) (hp 1 [(oC (setL q4 0 q3))]) (.k [0] [] [.tmp 7 false] [1,7] ⟨trF h17,trivial⟩) ?_
      refine .rK ?_
      exact ⟨((wrapF .i64 (Int.sub z1 (1:Int))),(setL q4 0 q3)),hm,(.k [0] [] [.tmp 7 false] [1,7] ⟨trF h17,trivial⟩)⟩
     ·refine .then ?_
      replace hm:=bb_inv hm;obtain ⟨h18,hm⟩:=hm
      replace hm:=oo_inv hm;obtain ⟨v4,h19,hm⟩:=hm
      replace hm:=inv_vBool hm;obtain ⟨b1,rfl,hm⟩:=hm
      replace hm:=bb_inv hm;obtain ⟨h20,hm⟩:=hm
      refine .reg (eD (keep (hp 1 [oC q2]) (bb (Nat.ble (0 + 22) (len q2)) (some (.agg ⟨(takeL 22 (dropL 0 q2))⟩)) none)) (keep_bb h18) (eD (bb (allL closed2 [(.agg ⟨(takeL 22 (dropL 0 q2))⟩)]) (oo (pu 23 [(.agg ⟨(takeL 22 (dropL 0 q2))⟩)]) none fun v=>some (v,(hp 1 [oC q2]))) (oo (mapO (purify (hp 1 [oC q2])) [(.agg ⟨(takeL 22 (dropL 0 q2))⟩)]) none fun l1=>oo (pu 23 l1) none fun v=>bb (plainT v) (some (v,(hp 1 [oC q2]))) none)) (callc_eq h20 h19) (eE))) ?_
      refine .ghs (fr 44 [(1,zI z0),(7,(pt 0 0)),(27,zB b1)]) (hp 1 [oC q2]) (.k [0] [] [.tmp 7 false] [1,7,27] ⟨trF h9,trivial⟩) ?_
      replace hm:=bb_cases hm;rcases hm with ⟨h21,hm⟩ | ⟨h21,hm⟩
      ·refine .ifT b1 (by kernel_rfl) h21 ?_
       refine .then ?_
       replace hm:=bb_inv hm;obtain ⟨h22,hm⟩:=hm
       replace hm:=oo_inv hm;obtain ⟨v5,h23,hm⟩:=hm
       replace hm:=inv_toI hm;obtain ⟨x2,rfl,hm⟩:=hm
       replace hm:=bb_inv hm;obtain ⟨h24,hm⟩:=hm
       replace hm:=oo_inv hm;obtain ⟨v6,h25,hm⟩:=hm
       replace hm:=inv_vTup hm;obtain ⟨l0,rfl,hm⟩:=hm
       replace hm:=ll_uncons hm;obtain ⟨v7,l1374_0,rfl,hm⟩:=hm
       replace hm:=ll_uncons hm;obtain ⟨v8,l1374_1,rfl,hm⟩:=hm
       replace hm:=ll_end hm;obtain ⟨rfl,hm⟩:=hm
       replace hm:=inv_toI hm;obtain ⟨x3,rfl,hm⟩:=hm
       replace hm:=inv_toI hm;obtain ⟨x4,rfl,hm⟩:=hm
       refine .reg (eD (keep (hp 1 [oC q2]) (bb (Nat.ble (0 + 22) (len q2)) (some (.agg ⟨(takeL 22 (dropL 0 q2))⟩)) none)) (keep_bb h22) (eD (bb (allL closed2 [(.agg ⟨(takeL 22 (dropL 0 q2))⟩)]) (oo (pu 25 [(.agg ⟨(takeL 22 (dropL 0 q2))⟩)]) none fun v=>some (v,(hp 1 [oC q2]))) (oo (mapO (purify (hp 1 [oC q2])) [(.agg ⟨(takeL 22 (dropL 0 q2))⟩)]) none fun l1=>oo (pu 25 l1) none fun v=>bb (plainT v) (some (v,(hp 1 [oC q2]))) none)) (callc_eq h24 h23) (eD ((oo (pu 24 [zI x2]) none fun v=>some (v,(hp 1 [oC q2])))) (call_eq h25) (eE)))) ?_
       refine .ghs (fr 44 [(1,zI z0),(7,(pt 0 0)),(8,zI x3)]) (hp 1 [oC q2]) (.k [0] [] [.tmp 7 false] [1,7,8] ⟨trF h9,trivial⟩) ?_
       replace hm:=bb_inv hm;obtain ⟨h26,hm⟩:=hm
       refine .reg (eC 4 (keep (hp 1 [oC q2]) (bb (ieq (wrapF .i64 (Int.add x3 (1:Int))) (0:Int)) none (some (zI (Int.tmod (wrapF .i64 (Int.sub z0 (1:Int))) (wrapF .i64 (Int.add x3 (1:Int)))))))) (keep_nb h26) (eE)) ?_
       exact ⟨((wrapF .i64 (Int.add (Int.tmod (wrapF .i64 (Int.sub z0 (1:Int))) (wrapF .i64 (Int.add x3 (1:Int)))) (1:Int))),q2),hm,(.k [0] [] [.tmp 7 false] [1,7] ⟨trF h9,trivial⟩)⟩
      ·refine .ifF b1 (by kernel_rfl) h21 ?_
       refine .skip ?_
       exact ⟨(z0,q2),hm,(.k [0] [] [.tmp 7 false] [1,7] ⟨trF h9,trivial⟩)⟩
    ·refine .ifF (ilt (0 : Int) z0) (by kernel_rfl) h10 ?_
     refine .exit ?_
     exact ⟨q2,hm,(.k [0] [] [.tmp 7 false] [7] ⟨trF h9,trivial⟩)⟩

def m10_ (pu:PureF) (n:Nat) (s0:Sl):OV:=
 (oo (pu 18 [Sl.v 1 s0]) none fun v0=>(oo (toI .i64 v0) none fun x0=>(bb (nt (ieq x0 (0:Int))) (some (.tuple ⟨[(.int .i64 (0:Int)),.int .i64 x0]⟩)) (oo (pu 19 [Sl.v 1 s0]) none fun v1=>(oo (vAgg v1) none fun q0=>(bb (an (Nat.beq (len q0) 22) (allL closed1 q0)) (oo (pu 26 [(.agg ⟨q0⟩)]) none fun v2=>(oo (vTup v2) none fun l0=>(ll l0 none fun v3 l0=>(ll l0 none fun v4 l0=>(ll l0 (oo (toI .i64 v3) none fun x1=>(oo (vAgg v4) none fun q1=>(bb (an (Nat.beq (len q1) 22) (allL closed1 q1)) (bb (allL closed2 [(.agg ⟨q0⟩)]) (bb (Nat.beq (len q1) 22) (bb (an (Nat.ble (0 + len q1) (len zA46)) (allL scalarB q1)) (some (.tuple ⟨[.int .i64 x1,(.int .i64 (0:Int))]⟩)) none) none) none) none))) fun _ _=>none))))) none))))))
def m10 (pu:PureF) (n:Nat) (args:LV):OV:=
 (ll args none fun a0 args=>(ll args (oo (toSl 1 a0) none fun s0=>(m10_ pu n s0)) fun _ _=>none))
theorem r10 {call:CallF} (pu:PureF) (n:Nat) (hcall:call = callP tabs isP pu (inl pu)) {args:LV} {v:Value} (hm:m10 pu n args = some v) (_:∀ x ∈ args,closed2 x = true):args.length≤19∧Run tt call 0 c10_13 (Fr.made 19 args) (pureHeap tabs) (Fin tt 0 [.tmp 2,.tmp 3] v):=by
 subst hcall
 unfold m10 at hm
 replace hm:=ll_uncons hm;obtain ⟨a0,args_0,rfl,hm⟩:=hm
 replace hm:=ll_end hm;obtain ⟨rfl,hm⟩:=hm
 replace hm:=inv_toSl hm;obtain ⟨s0,rfl,hm⟩:=hm
 unfold m10_ at hm
 refine ⟨by simp,?_⟩
 refine .same (F':=(fr 19 [(0,Sl.v 1 s0)])) (H':=(hp 0 [])) (by kernel_rfl) (by kernel_rfl) ?_
 refine .then (.rK ?_)
 refine .ghs (fr 19 [(0,Sl.v 1 s0)]) (hp 0 []) (.k0 [] [] [0]) ?_
 refine .then ?_
 refine .then ?_
 replace hm:=oo_inv hm;obtain ⟨v0,h0,hm⟩:=hm
 replace hm:=inv_toI hm;obtain ⟨x0,rfl,hm⟩:=hm
 refine .reg (eC 1 ((oo (pu 18 [Sl.v 1 s0]) none fun v=>some (v,(hp 0 [])))) (call_eq h0) (eE)) ?_
 refine .ghs (fr 19 [(0,Sl.v 1 s0),(4,zI x0)]) (hp 0 []) (.k0 [] [] [0,4]) ?_
 refine .then (.rK ?_)
 refine .ghs (fr 19 [(0,Sl.v 1 s0),(4,zI x0),(10,(zB (nt (ieq x0 (0:Int)))))]) (hp 0 []) (.k0 [] [] [0,4,10]) ?_
 replace hm:=bb_cases hm;rcases hm with ⟨h1,hm⟩ | ⟨h1,hm⟩
 ·refine .ifT (nt (ieq x0 (0 : Int))) (by kernel_rfl) h1 ?_
  refine .then (.rK ?_)
  refine .ghs (fr 19 [(2,(zI (0:Int))),(3,zI x0)]) (hp 0 []) (.k0 [] [] [2,3]) ?_
  refine .ret ?_
  exact fin_ret (.tuple ⟨[(zI (0:Int)),zI x0]⟩) (by kernel_rfl) (by kernel_rfl) hm
 ·refine .ifF (nt (ieq x0 (0 : Int))) (by kernel_rfl) h1 ?_
  refine .skip ?_
  refine .ghs (fr 19 [(0,Sl.v 1 s0)]) (hp 0 []) (.k0 [] [] [0]) ?_
  refine .then ?_
  replace hm:=oo_inv hm;obtain ⟨v1,h2,hm⟩:=hm
  replace hm:=inv_vAgg hm;obtain ⟨q0,rfl,hm⟩:=hm
  replace hm:=bb_inv hm;obtain ⟨h3,hm⟩:=hm
  replace hm:=oo_inv hm;obtain ⟨v2,h4,hm⟩:=hm
  replace hm:=inv_vTup hm;obtain ⟨l0,rfl,hm⟩:=hm
  replace hm:=ll_uncons hm;obtain ⟨v3,l1421_0,rfl,hm⟩:=hm
  replace hm:=ll_uncons hm;obtain ⟨v4,l1421_1,rfl,hm⟩:=hm
  replace hm:=ll_end hm;obtain ⟨rfl,hm⟩:=hm
  replace hm:=inv_toI hm;obtain ⟨x1,rfl,hm⟩:=hm
  replace hm:=inv_vAgg hm;obtain ⟨q1,rfl,hm⟩:=hm
  replace hm:=bb_inv hm;obtain ⟨h5,hm⟩:=hm
  replace hm:=bb_inv hm;obtain ⟨h6,hm⟩:=hm
  replace hm:=bb_inv hm;obtain ⟨h7,hm⟩:=hm
  replace hm:=bb_inv hm;obtain ⟨h8,hm⟩:=hm
  refine .reg (eC 1 ((oo (pu 19 [Sl.v 1 s0]) none fun v=>some (v,(hp 0 [])))) (call_eq h2) (eD (bb (allL closed2 [(.agg ⟨q0⟩)]) (oo (pu 26 [(.agg ⟨q0⟩)]) none fun v=>some (v,(hp 0 []))) (oo (mapO (purify (hp 0 [])) [(.agg ⟨q0⟩)]) none fun l1=>oo (pu 26 l1) none fun v=>bb (plainT v) (some (v,(hp 0 []))) none)) (callc_eq h6 h4) (eC 5 (done (bb (Nat.beq (len q1) 22) (bb (an (Nat.ble (0 + len q1) (len zA46)) (allL scalarB q1)) (some (hp 1 [(oC (setL q1 0 zA46))])) none) none) undef) (done_bb2 h7 h8) (eE)))) ?_
  refine .ghs (fr 19 [(5,zI x1)]) (hp 0 []) (.k0 [] [] [5]) ?_
  refine .then (.rK ?_)
  refine .ghs (fr 19 [(2,zI x1),(3,(zI (0:Int)))]) (hp 0 []) (.k0 [] [] [2,3]) ?_
  refine .ret ?_
  exact fin_ret (.tuple ⟨[zI x1,(zI (0:Int))]⟩) (by kernel_rfl) (by kernel_rfl) hm

def m11_ (pu:PureF) (n:Nat) (s0:Sl):OV:=
 (oo (pu 18 [Sl.v 1 s0]) none fun v0=>(oo (toI .i64 v0) none fun x0=>(bb (nt (ieq x0 (0:Int))) (some (.tuple ⟨[(Sl.v 1 (Sl.mk 0 2 [])),.int .i64 x0]⟩)) (oo (pu 19 [Sl.v 1 s0]) none fun v1=>(oo (vAgg v1) none fun q0=>(bb (an (Nat.beq (len q0) 22) (allL closed1 q0)) (oo (pu 27 [(.agg ⟨q0⟩)]) none fun v2=>(oo (toSl 1 v2) none fun s1=>(bb (allL closed2 [(.agg ⟨q0⟩)]) (some (.tuple ⟨[Sl.v 1 s1,(.int .i64 (0:Int))]⟩)) none))) none))))))
def m11 (pu:PureF) (n:Nat) (args:LV):OV:=
 (ll args none fun a0 args=>(ll args (oo (toSl 1 a0) none fun s0=>(m11_ pu n s0)) fun _ _=>none))
theorem r11 {call:CallF} (pu:PureF) (n:Nat) (hcall:call = callP tabs isP pu (inl pu)) {args:LV} {v:Value} (hm:m11 pu n args = some v) (_:∀ x ∈ args,closed2 x = true):args.length≤13∧Run tt call 0 c11_11 (Fr.made 13 args) (pureHeap tabs) (Fin tt 0 [.tmp 2,.tmp 3] v):=by
 subst hcall
 unfold m11 at hm
 replace hm:=ll_uncons hm;obtain ⟨a0,args_0,rfl,hm⟩:=hm
 replace hm:=ll_end hm;obtain ⟨rfl,hm⟩:=hm
 replace hm:=inv_toSl hm;obtain ⟨s0,rfl,hm⟩:=hm
 unfold m11_ at hm
 refine ⟨by simp,?_⟩
 refine .same (F':=(fr 13 [(0,Sl.v 1 s0)])) (H':=(hp 0 [])) (by kernel_rfl) (by kernel_rfl) ?_
 refine .then (.rK ?_)
 refine .ghs (fr 13 [(0,Sl.v 1 s0)]) (hp 0 []) (.k0 [] [] [0]) ?_
 refine .then ?_
 refine .then ?_
 replace hm:=oo_inv hm;obtain ⟨v0,h0,hm⟩:=hm
 replace hm:=inv_toI hm;obtain ⟨x0,rfl,hm⟩:=hm
 refine .reg (eC 1 ((oo (pu 18 [Sl.v 1 s0]) none fun v=>some (v,(hp 0 [])))) (call_eq h0) (eE)) ?_
 refine .ghs (fr 13 [(0,Sl.v 1 s0),(4,zI x0)]) (hp 0 []) (.k0 [] [] [0,4]) ?_
 refine .then (.rK ?_)
 refine .ghs (fr 13 [(0,Sl.v 1 s0),(4,zI x0),(8,(zB (nt (ieq x0 (0:Int)))))]) (hp 0 []) (.k0 [] [] [0,4,8]) ?_
 replace hm:=bb_cases hm;rcases hm with ⟨h1,hm⟩ | ⟨h1,hm⟩
 ·refine .ifT (nt (ieq x0 (0 : Int))) (by kernel_rfl) h1 ?_
  refine .then (.rK ?_)
  refine .ghs (fr 13 [(2,(.slice none 0 0)),(3,zI x0)]) (hp 0 []) (.k0 [] [] [2,3]) ?_
  refine .ghs (Fr.puts (fr 13 [(2,(.slice none 0 0)),(3,zI x0)]) [(2,(Sl.v 1 (Sl.mk 0 2 [])))]) (hp 0 []) (.freeze 0 2 1 (by kernel_rfl) (by kernel_rfl) (GhS.id _ _)) ?_
  refine .ret ?_
  exact fin_ret (.tuple ⟨[(Sl.v 1 (Sl.mk 0 2 [])),zI x0]⟩) (by kernel_rfl) (by kernel_rfl) hm
 ·refine .ifF (nt (ieq x0 (0 : Int))) (by kernel_rfl) h1 ?_
  refine .skip ?_
  refine .ghs (fr 13 [(0,Sl.v 1 s0)]) (hp 0 []) (.k0 [] [] [0]) ?_
  refine .then ?_
  replace hm:=oo_inv hm;obtain ⟨v1,h2,hm⟩:=hm
  replace hm:=inv_vAgg hm;obtain ⟨q0,rfl,hm⟩:=hm
  replace hm:=bb_inv hm;obtain ⟨h3,hm⟩:=hm
  replace hm:=oo_inv hm;obtain ⟨v2,h4,hm⟩:=hm
  replace hm:=inv_toSl hm;obtain ⟨s1,rfl,hm⟩:=hm
  replace hm:=bb_inv hm;obtain ⟨h5,hm⟩:=hm
  refine .reg (eC 1 ((oo (pu 19 [Sl.v 1 s0]) none fun v=>some (v,(hp 0 [])))) (call_eq h2) (eD (bb (allL closed2 [(.agg ⟨q0⟩)]) (oo (pu 27 [(.agg ⟨q0⟩)]) none fun v=>some (v,(hp 0 []))) (oo (mapO (purify (hp 0 [])) [(.agg ⟨q0⟩)]) none fun l1=>oo (pu 27 l1) none fun v=>bb (plainT v) (some (v,(hp 0 []))) none)) (callc_eq h5 h4) (eE))) ?_
  refine .ghs (fr 13 [(2,Sl.v 1 s1),(3,(zI (0:Int)))]) (hp 0 []) (.k0 [] [] [2,3]) ?_
  refine .ret ?_
  exact fin_ret (.tuple ⟨[Sl.v 1 s1,(zI (0:Int))]⟩) (by kernel_rfl) (by kernel_rfl) hm
def m12_0 (pu:PureF) (n:Nat):OV:=
 (some (.bool false))
def b12_1 (pu:PureF) (n:Nat) (ih0:Sl→Sl→Int→OV) (s0 s1:Sl) (z0:Int):OV:=
 (bb (ilt z0 (200:Int)) (oo (pu 6 [Sl.v 1 s1,Sl.v 1 s0]) none fun v0=>(oo (vBool v0) none fun b0=>(bb b0 (some (.bool true)) (oo (pu 7 [Sl.v 1 s1]) none fun v1=>(oo (toSl 1 v1) none fun s2=>(ih0 s0 s2 (wrapF .i64 (Int.add z0 (1:Int))))))))) (m12_0 pu n))
def l12_1 (pu:PureF) (n w:Nat):Sl→Sl→Int→OV:=
 Nat.rec (motive:=fun _=>Sl→Sl→Int→OV) (fun _ _ _=>none) (fun _ ih0=>b12_1 pu n ih0) w
def m12_ (pu:PureF) (n:Nat) (s0:Sl):OV:=
 (oo (pu 7 [Sl.v 1 s0]) none fun v0=>(oo (toSl 1 v0) none fun s1=>(l12_1 pu n n s0 s1 (0:Int))))
def m12 (pu:PureF) (n:Nat) (args:LV):OV:=
 (ll args none fun a0 args=>(ll args (oo (toSl 1 a0) none fun s0=>(m12_ pu n s0)) fun _ _=>none))
theorem w12_0 (pu:PureF) (n:Nat) {v:Value} (hm:m12_0 pu n = some v):Run tt (callP tabs isP pu (inl pu)) 0 c12_21 (fr 14 []) (hp 0 []) (Fin tt 0 [.tmp 2] v):=by
 unfold m12_0 at hm
 refine .then (.rK ?_)
 refine .ghs (fr 14 [(2,zB false)]) (hp 0 []) (.k0 [] [] [2]) ?_
 refine .ret ?_
 exact fin_ret (zB false) (by kernel_rfl) (by kernel_rfl) hm
theorem r12 {call:CallF} (pu:PureF) (n:Nat) (hcall:call = callP tabs isP pu (inl pu)) {args:LV} {v:Value} (hm:m12 pu n args = some v) (_:∀ x ∈ args,closed2 x = true):args.length≤14∧Run tt call 0 c12_24 (Fr.made 14 args) (pureHeap tabs) (Fin tt 0 [.tmp 2] v):=by
 subst hcall
 unfold m12 at hm
 replace hm:=ll_uncons hm;obtain ⟨a0,args_0,rfl,hm⟩:=hm
 replace hm:=ll_end hm;obtain ⟨rfl,hm⟩:=hm
 replace hm:=inv_toSl hm;obtain ⟨s0,rfl,hm⟩:=hm
 unfold m12_ at hm
 refine ⟨by simp,?_⟩
 refine .same (F':=(fr 14 [(0,Sl.v 1 s0)])) (H':=(hp 0 [])) (by kernel_rfl) (by kernel_rfl) ?_
 refine .then (.rK ?_)
 refine .ghs (fr 14 [(0,Sl.v 1 s0)]) (hp 0 []) (.k0 [] [] [0]) ?_
 refine .then ?_
 replace hm:=oo_inv hm;obtain ⟨v0,h0,hm⟩:=hm
 replace hm:=inv_toSl hm;obtain ⟨s1,rfl,hm⟩:=hm
 refine .reg (eC 1 ((oo (pu 7 [Sl.v 1 s0]) none fun v=>some (v,(hp 0 [])))) (call_eq h0) (eE)) ?_
 refine .ghs (fr 14 [(0,Sl.v 1 s0),(3,Sl.v 1 s1)]) (hp 0 []) (.k0 [] [] [0,3]) ?_
 refine .join (v:=v) (fun y:Unit=>((fr 14 []),(hp 0 []))) (fun y=>m12_0 pu n) ?_ ?_
 ·rintro _ hm
  exact w12_0 pu n hm
 ·refine .then (.rK ?_)
  refine .ghs (fr 14 [(0,Sl.v 1 s0),(3,Sl.v 1 s1),(6,(zI (0:Int)))]) (hp 0 []) (.k0 [] [] [0,3,6]) ?_
  refine .block ?_
  refine .loopM (v:=v) (fun y:Sl×Sl×Int=>((fr 14 [(0,(Sl.v 1 y.1)),(3,(Sl.v 1 y.2.1)),(6,(zI y.2.2))]),(hp 0 []))) (fun w y=>l12_1 pu n w y.1 y.2.1 y.2.2) n ⟨(s0,s1,(0:Int)),hm,(.k0 [] [] [0,3,6])⟩ (fun _=>rfl) ?_
  rintro w0 ⟨s2,s3,z0⟩ hm
  replace hm:b12_1 pu n (l12_1 pu n w0) s2 s3 z0 = some v:=hm
  unfold b12_1 at hm
  refine .then (.rK ?_)
  refine .ghs (fr 14 [(0,Sl.v 1 s2),(3,Sl.v 1 s3),(6,zI z0),(7,(zB (ilt z0 (200:Int))))]) (hp 0 []) (.k0 [] [] [0,3,6,7]) ?_
  refine .then ?_
  replace hm:=bb_cases hm;rcases hm with ⟨h1,hm⟩ | ⟨h1,hm⟩
  ·refine .ifT (ilt z0 (200 : Int)) (by kernel_rfl) h1 ?_
   refine .skip ?_
   refine .ghs (fr 14 [(0,Sl.v 1 s2),(3,Sl.v 1 s3),(6,zI z0)]) (hp 0 []) (.k0 [] [] [0,3,6]) ?_
   refine .then ?_
   refine .block ?_
   refine .then ?_
   refine .then ?_
   replace hm:=oo_inv hm;obtain ⟨v1,h2,hm⟩:=hm
   replace hm:=inv_vBool hm;obtain ⟨b0,rfl,hm⟩:=hm
   refine .reg (eC 2 ((oo (pu 6 [Sl.v 1 s3,Sl.v 1 s2]) none fun v=>some (v,(hp 0 [])))) (call_eq h2) (eE)) ?_
   refine .ghs (fr 14 [(0,Sl.v 1 s2),(3,Sl.v 1 s3),(6,zI z0),(10,zB b0)]) (hp 0 []) (.k0 [] [] [0,3,6,10]) ?_
   replace hm:=bb_cases hm;rcases hm with ⟨h3,hm⟩ | ⟨h3,hm⟩
   ·refine .ifT b0 (by kernel_rfl) h3 ?_
    refine .then (.rK ?_)
    refine .ghs (fr 14 [(2,zB true)]) (hp 0 []) (.k0 [] [] [2]) ?_
    refine .ret ?_
    exact fin_ret (zB true) (by kernel_rfl) (by kernel_rfl) hm
   ·refine .ifF b0 (by kernel_rfl) h3 ?_
    refine .skip ?_
    refine .ghs (fr 14 [(0,Sl.v 1 s2),(3,Sl.v 1 s3),(6,zI z0)]) (hp 0 []) (.k0 [] [] [0,3,6]) ?_
    replace hm:=oo_inv hm;obtain ⟨v2,h4,hm⟩:=hm
    replace hm:=inv_toSl hm;obtain ⟨s4,rfl,hm⟩:=hm
    refine .reg (eC 1 ((oo (pu 7 [Sl.v 1 s3]) none fun v=>some (v,(hp 0 [])))) (call_eq h4) (eE)) ?_
    refine .ghs (fr 14 [(0,Sl.v 1 s2),(3,Sl.v 1 s4),(6,zI z0)]) (hp 0 []) (.k0 [] [] [0,3,6]) ?_
    refine .rK ?_
    exact ⟨(s2,s4,(wrapF .i64 (Int.add z0 (1:Int)))),hm,(.k0 [] [] [0,3,6])⟩
  ·refine .ifF (ilt z0 (200 : Int)) (by kernel_rfl) h1 ?_
   refine .exit ?_
   exact ⟨(),hm,(.k0 [] [] [])⟩
end
end Go.HpYM
