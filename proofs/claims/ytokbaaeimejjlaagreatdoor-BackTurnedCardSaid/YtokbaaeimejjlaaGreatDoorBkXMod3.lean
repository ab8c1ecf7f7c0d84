/- Made from wip. -/
import Derived.Test.YtokbaaeimejjlaaGreatDoorBkXMod1x

set_option maxRecDepth 100000
set_option maxHeartbeats 20000000
set_option linter.unusedVariables false
namespace Go.BkXM
open Go.Sp Go.BkX
noncomputable section
def m36_2 (pu:PureF) (n:Nat):OV:=
 (some (.int .i64 (0:Int)))
def m36_4 (pu:PureF) (n:Nat) (ih0:Int→Int→Int→Int→Sl→OV) (z0 z1 z2 z3:Int) (s0:Sl):OV:=
 (ih0 (wrapF .i64 (Int.add z0 (1:Int))) z1 z2 z3 s0)
def b36_5 (pu:PureF) (n:Nat) (ih0:Int→Int→Int→Int→Sl→OV) (ih1:Int→Int→Int→Int→Int→Sl→OV) (z0 z1 z2 z3 z4:Int) (s0:Sl):OV:=
 (bb (ilt z1 (Int.ofNat (Sl.n s0))) (oo (toN z0) none fun k1=>(bb (an (Nat.blt k1 (Sl.n s0)) true) (oo (nthL (Sl.cs s0) (k1 * 1)) none fun v0=>(oo (toI .i64 v0) none fun x0=>(oo (toN z1) none fun k2=>(bb (an (Nat.blt k2 (Sl.n s0)) true) (oo (nthL (Sl.cs s0) (k2 * 1)) none fun v1=>(oo (toI .i64 v1) none fun x1=>(oo (pu 34 [.int .i64 x0,.int .i64 x1]) none fun v2=>(oo (vTup v2) none fun l0=>(ll l0 none fun v3 l0=>(ll l0 none fun v4 l0=>(ll l0 (oo (toI .i64 v3) none fun x2=>(oo (toI .i64 v4) none fun x3=>(oo (pu 47 [Sl.v 1 s0,.int .i64 x2]) none fun v5=>(oo (vBool v5) none fun b0=>(bb (nt b0) (some (.int .i64 (21:Int))) (ih1 (Int.ofNat k1) (wrapF .i64 (Int.add (Int.ofNat k2) (1:Int))) z2 z3 z4 s0)))))) fun _ _=>none))))))) none)))) none)) (m36_4 pu n ih0 z0 z2 z3 z4 s0))
def l36_5 (pu:PureF) (n:Nat) (ih0:Int→Int→Int→Int→Sl→OV) (w:Nat):Int→Int→Int→Int→Int→Sl→OV:=
 Nat.rec (motive:=fun _=>Int→Int→Int→Int→Int→Sl→OV) (fun _ _ _ _ _ _=>none) (fun _ ih1=>b36_5 pu n ih0 ih1) w
def b36_3 (pu:PureF) (n:Nat) (ih0:Int→Int→Int→Int→Sl→OV) (z0 z1 z2 z3:Int) (s0:Sl):OV:=
 (bb (ilt z0 (Int.ofNat (Sl.n s0))) (l36_5 pu n ih0 n z0 (0:Int) z1 z2 z3 s0) (m36_2 pu n))
def l36_3 (pu:PureF) (n w:Nat):Int→Int→Int→Int→Sl→OV:=
 Nat.rec (motive:=fun _=>Int→Int→Int→Int→Sl→OV) (fun _ _ _ _ _=>none) (fun _ ih0=>b36_3 pu n ih0) w
def m36_1 (pu:PureF) (n:Nat) (z0 z1 z2:Int) (s0:Sl):OV:=
 (oo (pu 47 [Sl.v 1 s0,(.int .i64 (0:Int))]) none fun v0=>(oo (vBool v0) none fun b0=>(bb (nt b0) (some (.int .i64 (21:Int))) (l36_3 pu n n (0:Int) z0 z1 z2 s0))))
def m36_8 (pu:PureF) (n:Nat) (ih0:Int→Int→Int→Int→Sl→OV) (z0:Int) (b0:Bool) (z1 z2 z3:Int) (s0:Sl):OV:=
 (bb b0 (some (.int .i64 (7:Int))) (ih0 (wrapF .i64 (Int.add z0 (1:Int))) z1 z2 z3 s0))
def m36_7 (pu:PureF) (n:Nat) (ih0:Int→Int→Int→Int→Sl→OV) (z0 z1:Int) (b0:Bool) (z2 z3 z4:Int) (s0:Sl):OV:=
 (bb b0 (some (.int .i64 (8:Int))) (bb (ilt (0:Int) z0) (oo (toN (wrapF .i64 (Int.sub z0 (1:Int)))) none fun k1=>(bb (an (Nat.blt k1 (Sl.n s0)) true) (oo (nthL (Sl.cs s0) (k1 * 1)) none fun v0=>(oo (toI .i64 v0) none fun x0=>(m36_8 pu n ih0 z0 (nt (ilt x0 z1)) z2 z3 z4 s0))) none)) (m36_8 pu n ih0 z0 false z2 z3 z4 s0)))
def b36_6 (pu:PureF) (n:Nat) (ih0:Int→Int→Int→Int→Sl→OV) (z0 z1 z2 z3:Int) (s0:Sl):OV:=
 (bb (ilt z0 (Int.ofNat (Sl.n s0))) (oo (toN z0) none fun k1=>(bb (an (Nat.blt k1 (Sl.n s0)) true) (oo (nthL (Sl.cs s0) (k1 * 1)) none fun v0=>(oo (toI .i64 v0) none fun x0=>(oo (pu 62 [.int .i64 x0,(.int .i64 (0:Int)),(.int .i64 (7:Int))]) none fun v1=>(oo (vBool v1) none fun b0=>(bb (nt b0) (some (.int .i64 (2:Int))) (bb (nt (ieq z1 z2)) (bb (ieq x0 (1:Int)) (m36_7 pu n ih0 (Int.ofNat k1) x0 true z1 z2 z3 s0) (bb (ieq x0 (3:Int)) (m36_7 pu n ih0 (Int.ofNat k1) x0 true z1 z2 z3 s0) (m36_7 pu n ih0 (Int.ofNat k1) x0 (ilt (5:Int) x0) z1 z2 z3 s0))) (m36_7 pu n ih0 (Int.ofNat k1) x0 false z1 z2 z3 s0))))))) none)) (m36_1 pu n z1 z2 z3 s0))
def l36_6 (pu:PureF) (n w:Nat):Int→Int→Int→Int→Sl→OV:=
 Nat.rec (motive:=fun _=>Int→Int→Int→Int→Sl→OV) (fun _ _ _ _ _=>none) (fun _ ih0=>b36_6 pu n ih0) w
def m36_0 (pu:PureF) (n:Nat) (b0:Bool) (z0 z1 z2:Int) (s0:Sl):OV:=
 (bb b0 (some (.int .i64 (1:Int))) (l36_6 pu n n (0:Int) z0 z1 z2 s0))
def m36_ (pu:PureF) (n:Nat) (x0 x1 x2:Int) (s0:Sl):OV:=
 (oo (pu 62 [.int .i64 x0,(.int .i64 (1:Int)),(.int .i64 (4:Int))]) none fun v0=>(oo (vBool v0) none fun b0=>(bb (nt b0) (m36_0 pu n true x0 x1 x2 s0) (oo (pu 62 [.int .i64 x1,(.int .i64 (1:Int)),(.int .i64 (4:Int))]) none fun v1=>(oo (vBool v1) none fun b1=>(bb (nt b1) (m36_0 pu n true x0 x1 x2 s0) (oo (pu 62 [.int .i64 x2,(.int .i64 (1:Int)),(.int .i64 (4:Int))]) none fun v2=>(oo (vBool v2) none fun b2=>(m36_0 pu n (nt b2) x0 x1 x2 s0)))))))))
def m36 (pu:PureF) (n:Nat) (args:LV):OV:=
 (ll args none fun a0 args=>(ll args (oo (vAgg a0) none fun l0=>(ll l0 none fun v0 l0=>(ll l0 none fun v1 l0=>(ll l0 none fun v2 l0=>(ll l0 none fun v3 l0=>(ll l0 (oo (toI .i64 v0) none fun x0=>(oo (toI .i64 v1) none fun x1=>(oo (toI .i64 v2) none fun x2=>(oo (toSl 1 v3) none fun s0=>(m36_ pu n x0 x1 x2 s0))))) fun _ _=>none)))))) fun _ _=>none))
theorem w36_2 (pu:PureF) (n:Nat) {v:Value} (hm:m36_2 pu n = some v):Run tt (callP tabs isP pu (inl pu)) 1 c36_71 (fr 106 []) (hp 1 [(oT tab0)]) (Fin tt 1 [.tmp 2] v):=by
 unfold m36_2 at hm
 refine .then (.rK ?_)
 refine .ghs (fr 106 [(2,(zI (0:Int)))]) (hp 1 [(oT tab0)]) (.k0 [false] [] [2]) ?_
 refine .ret ?_
 exact fin_ret (zI (0:Int)) (by kernel_rfl) (by kernel_rfl) hm
theorem w36_1 (pu:PureF) (n:Nat) (z0 z1 z2:Int) (s0:Sl) {v:Value} (hm:m36_1 pu n z0 z1 z2 s0 = some v):Run tt (callP tabs isP pu (inl pu)) 1 c36_73 (fr 106 [(1,pt 1 0)]) (hT 2 [(oC [zI z0,zI z1,zI z2,Sl.v 1 s0])]) (Fin tt 1 [.tmp 2] v):=by
 unfold m36_1 at hm
 refine .then ?_
 refine .then ?_
 replace hm:=oo_inv hm;obtain ⟨v0,h0,hm⟩:=hm
 replace hm:=inv_vBool hm;obtain ⟨b0,rfl,hm⟩:=hm
 refine .reg (eC 2 ((oo (pu 47 [Sl.v 1 s0,(zI (0:Int))]) none fun v=>some (v,(hT 2 [(oC [zI z0,zI z1,zI z2,Sl.v 1 s0])])))) (call_eq h0) (eE)) ?_
 refine .ghs (fr 106 [(1,pt 1 0),(72,(zB (nt b0)))]) (hT 2 [(oC [zI z0,zI z1,zI z2,Sl.v 1 s0])]) (.k0 [false] [.tmp 1 false] [1,72]) ?_
 replace hm:=bb_cases hm;rcases hm with ⟨h1,hm⟩ | ⟨h1,hm⟩
 ·refine .ifT (nt b0) (by kernel_rfl) h1 ?_
  refine .then (.rK ?_)
  refine .ghs (fr 106 [(2,(zI (21:Int)))]) (hp 1 [(oT tab0)]) (.k0 [false] [] [2]) ?_
  refine .ret ?_
  exact fin_ret (zI (21:Int)) (by kernel_rfl) (by kernel_rfl) hm
 ·refine .ifF (nt b0) (by kernel_rfl) h1 ?_
  refine .skip ?_
  refine .ghs (fr 106 [(1,pt 1 0)]) (hT 2 [(oC [zI z0,zI z1,zI z2,Sl.v 1 s0])]) (.k0 [false] [.tmp 1 false] [1]) ?_
  refine .join (v:=v) (fun y:Unit=>((fr 106 []),(hp 1 [(oT tab0)]))) (fun y=>m36_2 pu n) ?_ ?_
  ·rintro _ hm
   exact w36_2 pu n hm
  ·refine .then (.rK ?_)
   refine .ghs (fr 106 [(1,pt 1 0),(5,(zI (0:Int)))]) (hT 2 [(oC [zI z0,zI z1,zI z2,Sl.v 1 s0])]) (.k0 [false] [.tmp 1 false] [1,5]) ?_
   refine .block ?_
   refine .loopM (v:=v) (fun y:Int×Int×Int×Int×Sl=>((fr 106 [(1,pt 1 0),(5,(zI y.1))]),(hT 2 [(oC [(zI y.2.1),(zI y.2.2.1),(zI y.2.2.2.1),(Sl.v 1 y.2.2.2.2)])]))) (fun w y=>l36_3 pu n w y.1 y.2.1 y.2.2.1 y.2.2.2.1 y.2.2.2.2) n ⟨((0:Int),z0,z1,z2,s0),hm,(.k0 [false] [.tmp 1 false] [1,5])⟩ (fun _=>rfl) ?_
   rintro w0 ⟨z3,z4,z5,z6,s1⟩ hm
   replace hm:b36_3 pu n (l36_3 pu n w0) z3 z4 z5 z6 s1 = some v:=hm
   unfold b36_3 at hm
   refine .then ?_
   refine .then (.rK ?_)
   refine .ghs (fr 106 [(1,pt 1 0),(5,zI z3),(77,(zB (ilt z3 (Int.ofNat (Sl.n s1)))))]) (hT 2 [(oC [zI z4,zI z5,zI z6,Sl.v 1 s1])]) (.k0 [false] [.tmp 1 false] [1,5,77]) ?_
   replace hm:=bb_cases hm;rcases hm with ⟨h2,hm⟩ | ⟨h2,hm⟩
   ·refine .ifT (ilt z3 (Int.ofNat (Sl.n s1))) (by kernel_rfl) h2 ?_
    refine .skip ?_
    refine .ghs (fr 106 [(1,pt 1 0),(5,zI z3)]) (hT 2 [(oC [zI z4,zI z5,zI z6,Sl.v 1 s1])]) (.k0 [false] [.tmp 1 false] [1,5]) ?_
    refine .join (v:=v) (fun y:Int×Int×Int×Int×Sl=>((fr 106 [(1,pt 1 0),(5,(zI y.1))]),(hT 2 [(oC [(zI y.2.1),(zI y.2.2.1),(zI y.2.2.2.1),(Sl.v 1 y.2.2.2.2)])]))) (fun y=>m36_4 pu n (l36_3 pu n w0) y.1 y.2.1 y.2.2.1 y.2.2.2.1 y.2.2.2.2) ?_ ?_
    ·rintro ⟨z7, z8, z9, z10, s2⟩ hm
     unfold m36_4 at hm
     refine .rK ?_
     exact ⟨((wrapF .i64 (Int.add z7 (1:Int))),z8,z9,z10,s2),hm,(.k0 [false] [.tmp 1 false] [1,5])⟩
    ·refine .block ?_
     refine .then (.rK ?_)
     refine .ghs (fr 106 [(1,pt 1 0),(5,zI z3),(6,(zI (0:Int)))]) (hT 2 [(oC [zI z4,zI z5,zI z6,Sl.v 1 s1])]) (.k0 [false] [.tmp 1 false] [1,5,6]) ?_
     refine .block ?_
     refine .loopM (v:=v) (fun y:Int×Int×Int×Int×Int×Sl=>((fr 106 [(1,pt 1 0),(5,(zI y.1)),(6,(zI y.2.1))]),(hT 2 [(oC [(zI y.2.2.1),(zI y.2.2.2.1),(zI y.2.2.2.2.1),(Sl.v 1 y.2.2.2.2.2)])]))) (fun w y=>l36_5 pu n (l36_3 pu n w0) w y.1 y.2.1 y.2.2.1 y.2.2.2.1 y.2.2.2.2.1 y.2.2.2.2.2) n ⟨(z3,(0:Int),z4,z5,z6,s1),hm,(.k0 [false] [.tmp 1 false] [1,5,6])⟩ (fun _=>rfl) ?_
     rintro w1 ⟨z11,z12,z13,z14,z15,s3⟩ hm
     replace hm:b36_5 pu n (l36_3 pu n w0) (l36_5 pu n (l36_3 pu n w0) w1) z11 z12 z13 z14 z15 s3 = some v:=hm
     unfold b36_5 at hm
     refine .then ?_
     refine .then (.rK ?_)
     refine .ghs (fr 106 [(1,pt 1 0),(5,zI z11),(6,zI z12),(84,(zB (ilt z12 (Int.ofNat (Sl.n s3)))))]) (hT 2 [(oC [zI z13,zI z14,zI z15,Sl.v 1 s3])]) (.k0 [false] [.tmp 1 false] [1,5,6,84]) ?_
     replace hm:=bb_cases hm;rcases hm with ⟨h3,hm⟩ | ⟨h3,hm⟩
     ·refine .ifT (ilt z12 (Int.ofNat (Sl.n s3))) (by kernel_rfl) h3 ?_
      refine .skip ?_
      refine .ghs (fr 106 [(1,pt 1 0),(5,zI z11),(6,zI z12)]) (hT 2 [(oC [zI z13,zI z14,zI z15,Sl.v 1 s3])]) (.k0 [false] [.tmp 1 false] [1,5,6]) ?_
      refine .then ?_
      refine .block ?_
      refine .then ?_
      replace hm:=oo_inv hm;obtain ⟨k1,h4,hm⟩:=hm
      obtain rfl:=toN_some h4
      replace hm:=bb_inv hm;obtain ⟨h5,hm⟩:=hm
      replace hm:=oo_inv hm;obtain ⟨v1,h6,hm⟩:=hm
      replace hm:=inv_toI hm;obtain ⟨x0,rfl,hm⟩:=hm
      replace hm:=oo_inv hm;obtain ⟨k2,h7,hm⟩:=hm
      obtain rfl:=toN_some h7
      replace hm:=bb_inv hm;obtain ⟨h8,hm⟩:=hm
      replace hm:=oo_inv hm;obtain ⟨v2,h9,hm⟩:=hm
      replace hm:=inv_toI hm;obtain ⟨x1,rfl,hm⟩:=hm
      replace hm:=oo_inv hm;obtain ⟨v3,h10,hm⟩:=hm
      replace hm:=inv_vTup hm;obtain ⟨l0,rfl,hm⟩:=hm
      replace hm:=ll_uncons hm;obtain ⟨v4,l3547_0,rfl,hm⟩:=hm
      replace hm:=ll_uncons hm;obtain ⟨v5,l3547_1,rfl,hm⟩:=hm
      replace hm:=ll_end hm;obtain ⟨rfl,hm⟩:=hm
      replace hm:=inv_toI hm;obtain ⟨x2,rfl,hm⟩:=hm
      replace hm:=inv_toI hm;obtain ⟨x3,rfl,hm⟩:=hm
      refine .reg (eC 3 (keep (hT 2 [(oC [zI z13,zI z14,zI z15,Sl.v 1 s3])]) (bb (an (Nat.blt k1 (Sl.n s3)) true) (some (fpV (k1 * 1) (Sl.cs s3))) none)) (keep_bb h5) (eD (keep (hT 2 [(oC [zI z13,zI z14,zI z15,Sl.v 1 s3])]) (nthL (Sl.cs s3) (k1 * 1))) (keep_eq h6) (eC 3 (keep (hT 2 [(oC [zI z13,zI z14,zI z15,Sl.v 1 s3])]) (bb (an (Nat.blt k2 (Sl.n s3)) true) (some (fpV (k2 * 1) (Sl.cs s3))) none)) (keep_bb h8) (eD (keep (hT 2 [(oC [zI z13,zI z14,zI z15,Sl.v 1 s3])]) (nthL (Sl.cs s3) (k2 * 1))) (keep_eq h9) (eD ((oo (pu 34 [zI x0,zI x1]) none fun v=>some (v,(hT 2 [(oC [zI z13,zI z14,zI z15,Sl.v 1 s3])])))) (call_eq h10) (eE)))))) ?_
      refine .ghs (fr 106 [(1,pt 1 0),(5,(zI (Int.ofNat k1))),(6,(zI (Int.ofNat k2))),(7,zI x2)]) (hT 2 [(oC [zI z13,zI z14,zI z15,Sl.v 1 s3])]) (.k0 [false] [.tmp 1 false] [1,5,6,7]) ?_
      refine .then ?_
      replace hm:=oo_inv hm;obtain ⟨v6,h11,hm⟩:=hm
      replace hm:=inv_vBool hm;obtain ⟨b1,rfl,hm⟩:=hm
      refine .reg (eC 3 ((oo (pu 47 [Sl.v 1 s3,zI x2]) none fun v=>some (v,(hT 2 [(oC [zI z13,zI z14,zI z15,Sl.v 1 s3])])))) (call_eq h11) (eE)) ?_
      refine .ghs (fr 106 [(1,pt 1 0),(5,(zI (Int.ofNat k1))),(6,(zI (Int.ofNat k2))),(105,(zB (nt b1)))]) (hT 2 [(oC [zI z13,zI z14,zI z15,Sl.v 1 s3])]) (.k0 [false] [.tmp 1 false] [1,5,6,105]) ?_
      replace hm:=bb_cases hm;rcases hm with ⟨h12,hm⟩ | ⟨h12,hm⟩
      ·refine .ifT (nt b1) (by kernel_rfl) h12 ?_
       refine .then (.rK ?_)
       refine .ghs (fr 106 [(2,(zI (21:Int)))]) (hp 1 [(oT tab0)]) (.k0 [false] [] [2]) ?_
       refine .ret ?_
       exact fin_ret (zI (21:Int)) (by kernel_rfl) (by kernel_rfl) hm
      ·refine .ifF (nt b1) (by kernel_rfl) h12 ?_
       refine .skip ?_
       refine .ghs (fr 106 [(1,pt 1 0),(5,(zI (Int.ofNat k1))),(6,(zI (Int.ofNat k2)))]) (hT 2 [(oC [zI z13,zI z14,zI z15,Sl.v 1 s3])]) (.k0 [false] [.tmp 1 false] [1,5,6]) ?_
       refine .rK ?_
       exact ⟨((Int.ofNat k1),(wrapF .i64 (Int.add (Int.ofNat k2) (1:Int))),z13,z14,z15,s3),hm,(.k0 [false] [.tmp 1 false] [1,5,6])⟩
     ·refine .ifF (ilt z12 (Int.ofNat (Sl.n s3))) (by kernel_rfl) h3 ?_
      refine .exit ?_
      exact ⟨(z11,z13,z14,z15,s3),hm,(.k0 [false] [.tmp 1 false] [1,5])⟩
   ·refine .ifF (ilt z3 (Int.ofNat (Sl.n s1))) (by kernel_rfl) h2 ?_
    refine .exit ?_
    exact ⟨(),hm,(.k0 [false] [] [])⟩
theorem r36 {call:CallF} (pu:PureF) (n:Nat) (hcall:call = callP tabs isP pu (inl pu)) {args:LV} {v:Value} (hm:m36 pu n args = some v) (_:∀ x ∈ args,closed2 x = true):args.length≤106∧Run tt call 1 c36_76 (Fr.made 106 args) (pureHeap tabs) (Fin tt 1 [.tmp 2] v):=by
 subst hcall
 unfold m36 at hm
 replace hm:=ll_uncons hm;obtain ⟨a0,args_0,rfl,hm⟩:=hm
 replace hm:=ll_end hm;obtain ⟨rfl,hm⟩:=hm
 replace hm:=inv_vAgg hm;obtain ⟨l0,rfl,hm⟩:=hm
 replace hm:=ll_uncons hm;obtain ⟨v0,l2646_0,rfl,hm⟩:=hm
 replace hm:=ll_uncons hm;obtain ⟨v1,l2646_1,rfl,hm⟩:=hm
 replace hm:=ll_uncons hm;obtain ⟨v2,l2646_2,rfl,hm⟩:=hm
 replace hm:=ll_uncons hm;obtain ⟨v3,l2646_3,rfl,hm⟩:=hm
 replace hm:=ll_end hm;obtain ⟨rfl,hm⟩:=hm
 replace hm:=inv_toI hm;obtain ⟨x0,rfl,hm⟩:=hm
 replace hm:=inv_toI hm;obtain ⟨x1,rfl,hm⟩:=hm
 replace hm:=inv_toI hm;obtain ⟨x2,rfl,hm⟩:=hm
 replace hm:=inv_toSl hm;obtain ⟨s0,rfl,hm⟩:=hm
 unfold m36_ at hm
 refine ⟨by simp,?_⟩
 refine .same (F':=(fr 106 [(0,(.agg ⟨[zI x0,zI x1,zI x2,Sl.v 1 s0]⟩))])) (H':=(hp 1 [(oT tab0)])) (by kernel_rfl) (by kernel_rfl) ?_
 refine .then (.rK ?_)
 refine .ghs (fr 106 [(1,pt 1 0)]) (hT 2 [(oC [zI x0,zI x1,zI x2,Sl.v 1 s0])]) (.k0 [false] [.tmp 1 false] [1]) ?_
 refine .then ?_
 refine .join (v:=v) (fun y:Bool×Int×Int×Int×Sl=>((fr 106 [(1,pt 1 0),(24,(zB y.1))]),(hT 2 [(oC [(zI y.2.1),(zI y.2.2.1),(zI y.2.2.2.1),(Sl.v 1 y.2.2.2.2)])]))) (fun y=>m36_0 pu n y.1 y.2.1 y.2.2.1 y.2.2.2.1 y.2.2.2.2) ?_ ?_
 ·rintro ⟨b0, z0, z1, z2, s1⟩ hm
  unfold m36_0 at hm
  replace hm:=bb_cases hm;rcases hm with ⟨h0,hm⟩ | ⟨h0,hm⟩
  ·refine .ifT b0 (by kernel_rfl) h0 ?_
   refine .then (.rK ?_)
   refine .ghs (fr 106 [(2,(zI (1:Int)))]) (hp 1 [(oT tab0)]) (.k0 [false] [] [2]) ?_
   refine .ret ?_
   exact fin_ret (zI (1:Int)) (by kernel_rfl) (by kernel_rfl) hm
  ·refine .ifF b0 (by kernel_rfl) h0 ?_
   refine .skip ?_
   refine .ghs (fr 106 [(1,pt 1 0)]) (hT 2 [(oC [zI z0,zI z1,zI z2,Sl.v 1 s1])]) (.k0 [false] [.tmp 1 false] [1]) ?_
   refine .join (v:=v) (fun y:Int×Int×Int×Sl=>((fr 106 [(1,pt 1 0)]),(hT 2 [(oC [(zI y.1),(zI y.2.1),(zI y.2.2.1),(Sl.v 1 y.2.2.2)])]))) (fun y=>m36_1 pu n y.1 y.2.1 y.2.2.1 y.2.2.2) ?_ ?_
   ·rintro ⟨z3, z4, z5, s2⟩ hm
    exact w36_1 pu n z3 z4 z5 s2 hm
   ·refine .then (.rK ?_)
    refine .ghs (fr 106 [(1,pt 1 0),(3,(zI (0:Int)))]) (hT 2 [(oC [zI z0,zI z1,zI z2,Sl.v 1 s1])]) (.k0 [false] [.tmp 1 false] [1,3]) ?_
    refine .block ?_
    refine .loopM (v:=v) (fun y:Int×Int×Int×Int×Sl=>((fr 106 [(1,pt 1 0),(3,(zI y.1))]),(hT 2 [(oC [(zI y.2.1),(zI y.2.2.1),(zI y.2.2.2.1),(Sl.v 1 y.2.2.2.2)])]))) (fun w y=>l36_6 pu n w y.1 y.2.1 y.2.2.1 y.2.2.2.1 y.2.2.2.2) n ⟨((0:Int),z0,z1,z2,s1),hm,(.k0 [false] [.tmp 1 false] [1,3])⟩ (fun _=>rfl) ?_
    rintro w0 ⟨z6,z7,z8,z9,s3⟩ hm
    replace hm:b36_6 pu n (l36_6 pu n w0) z6 z7 z8 z9 s3 = some v:=hm
    unfold b36_6 at hm
    refine .then ?_
    refine .then (.rK ?_)
    refine .ghs (fr 106 [(1,pt 1 0),(3,zI z6),(29,(zB (ilt z6 (Int.ofNat (Sl.n s3)))))]) (hT 2 [(oC [zI z7,zI z8,zI z9,Sl.v 1 s3])]) (.k0 [false] [.tmp 1 false] [1,3,29]) ?_
    replace hm:=bb_cases hm;rcases hm with ⟨h1,hm⟩ | ⟨h1,hm⟩
    ·refine .ifT (ilt z6 (Int.ofNat (Sl.n s3))) (by kernel_rfl) h1 ?_
     refine .skip ?_
     refine .ghs (fr 106 [(1,pt 1 0),(3,zI z6)]) (hT 2 [(oC [zI z7,zI z8,zI z9,Sl.v 1 s3])]) (.k0 [false] [.tmp 1 false] [1,3]) ?_
     refine .then ?_
     refine .block ?_
     refine .then ?_
     replace hm:=oo_inv hm;obtain ⟨k1,h2,hm⟩:=hm
     obtain rfl:=toN_some h2
     replace hm:=bb_inv hm;obtain ⟨h3,hm⟩:=hm
     replace hm:=oo_inv hm;obtain ⟨v4,h4,hm⟩:=hm
     replace hm:=inv_toI hm;obtain ⟨x3,rfl,hm⟩:=hm
     refine .reg (eC 3 (keep (hT 2 [(oC [zI z7,zI z8,zI z9,Sl.v 1 s3])]) (bb (an (Nat.blt k1 (Sl.n s3)) true) (some (fpV (k1 * 1) (Sl.cs s3))) none)) (keep_bb h3) (eD (keep (hT 2 [(oC [zI z7,zI z8,zI z9,Sl.v 1 s3])]) (nthL (Sl.cs s3) (k1 * 1))) (keep_eq h4) (eE))) ?_
     refine .ghs (fr 106 [(1,pt 1 0),(3,(zI (Int.ofNat k1))),(4,zI x3)]) (hT 2 [(oC [zI z7,zI z8,zI z9,Sl.v 1 s3])]) (.k0 [false] [.tmp 1 false] [1,3,4]) ?_
     refine .then ?_
     refine .then ?_
     replace hm:=oo_inv hm;obtain ⟨v5,h5,hm⟩:=hm
     replace hm:=inv_vBool hm;obtain ⟨b1,rfl,hm⟩:=hm
     refine .reg (eC 1 ((oo (pu 62 [zI x3,(zI (0:Int)),(zI (7:Int))]) none fun v=>some (v,(hT 2 [(oC [zI z7,zI z8,zI z9,Sl.v 1 s3])])))) (call_eq h5) (eE)) ?_
     refine .ghs (fr 106 [(1,pt 1 0),(3,(zI (Int.ofNat k1))),(4,zI x3),(39,(zB (nt b1)))]) (hT 2 [(oC [zI z7,zI z8,zI z9,Sl.v 1 s3])]) (.k0 [false] [.tmp 1 false] [1,3,4,39]) ?_
     replace hm:=bb_cases hm;rcases hm with ⟨h6,hm⟩ | ⟨h6,hm⟩
     ·refine .ifT (nt b1) (by kernel_rfl) h6 ?_
      refine .then (.rK ?_)
      refine .ghs (fr 106 [(2,(zI (2:Int)))]) (hp 1 [(oT tab0)]) (.k0 [false] [] [2]) ?_
      refine .ret ?_
      exact fin_ret (zI (2:Int)) (by kernel_rfl) (by kernel_rfl) hm
     ·refine .ifF (nt b1) (by kernel_rfl) h6 ?_
      refine .skip ?_
      refine .ghs (fr 106 [(1,pt 1 0),(3,(zI (Int.ofNat k1))),(4,zI x3)]) (hT 2 [(oC [zI z7,zI z8,zI z9,Sl.v 1 s3])]) (.k0 [false] [.tmp 1 false] [1,3,4]) ?_
      refine .then ?_
      refine .join (v:=v) (fun y:Int×Int×Bool×Int×Int×Int×Sl=>((fr 106 [(1,pt 1 0),(3,(zI y.1)),(4,(zI y.2.1)),(56,(zB y.2.2.1))]),(hT 2 [(oC [(zI y.2.2.2.1),(zI y.2.2.2.2.1),(zI y.2.2.2.2.2.1),(Sl.v 1 y.2.2.2.2.2.2)])]))) (fun y=>m36_7 pu n (l36_6 pu n w0) y.1 y.2.1 y.2.2.1 y.2.2.2.1 y.2.2.2.2.1 y.2.2.2.2.2.1 y.2.2.2.2.2.2) ?_ ?_
      ·rintro ⟨z10, z11, b2, z12, z13, z14, s4⟩ hm
       unfold m36_7 at hm
       replace hm:=bb_cases hm;rcases hm with ⟨h7,hm⟩ | ⟨h7,hm⟩
       ·refine .ifT b2 (by kernel_rfl) h7 ?_
        refine .then (.rK ?_)
        refine .ghs (fr 106 [(2,(zI (8:Int)))]) (hp 1 [(oT tab0)]) (.k0 [false] [] [2]) ?_
        refine .ret ?_
        exact fin_ret (zI (8:Int)) (by kernel_rfl) (by kernel_rfl) hm
       ·refine .ifF b2 (by kernel_rfl) h7 ?_
        refine .skip ?_
        refine .ghs (fr 106 [(1,pt 1 0),(3,zI z10),(4,zI z11)]) (hT 2 [(oC [zI z12,zI z13,zI z14,Sl.v 1 s4])]) (.k0 [false] [.tmp 1 false] [1,3,4]) ?_
        refine .join (v:=v) (fun y:Int×Bool×Int×Int×Int×Sl=>((fr 106 [(1,pt 1 0),(3,(zI y.1)),(68,(zB y.2.1))]),(hT 2 [(oC [(zI y.2.2.1),(zI y.2.2.2.1),(zI y.2.2.2.2.1),(Sl.v 1 y.2.2.2.2.2)])]))) (fun y=>m36_8 pu n (l36_6 pu n w0) y.1 y.2.1 y.2.2.1 y.2.2.2.1 y.2.2.2.2.1 y.2.2.2.2.2) ?_ ?_
        ·rintro ⟨z15, b4, z16, z17, z18, s5⟩ hm
         unfold m36_8 at hm
         replace hm:=bb_cases hm;rcases hm with ⟨h8,hm⟩ | ⟨h8,hm⟩
         ·refine .ifT b4 (by kernel_rfl) h8 ?_
          refine .then (.rK ?_)
          refine .ghs (fr 106 [(2,(zI (7:Int)))]) (hp 1 [(oT tab0)]) (.k0 [false] [] [2]) ?_
          refine .ret ?_
          exact fin_ret (zI (7:Int)) (by kernel_rfl) (by kernel_rfl) hm
         ·refine .ifF b4 (by kernel_rfl) h8 ?_
          refine .skip ?_
          refine .ghs (fr 106 [(1,pt 1 0),(3,zI z15)]) (hT 2 [(oC [zI z16,zI z17,zI z18,Sl.v 1 s5])]) (.k0 [false] [.tmp 1 false] [1,3]) ?_
          refine .rK ?_
          exact ⟨((wrapF .i64 (Int.add z15 (1:Int))),z16,z17,z18,s5),hm,(.k0 [false] [.tmp 1 false] [1,3])⟩
        ·replace hm := bb_cases hm; rcases hm with ⟨h9, hm⟩ | ⟨h9, hm⟩
         ·replace hm := oo_inv hm; obtain ⟨k2, h10, hm⟩ := hm
          replace hm:=bb_inv hm;obtain ⟨h11,hm⟩:=hm
          replace hm:=oo_inv hm;obtain ⟨v6,h12,hm⟩:=hm
          replace hm:=inv_toI hm;obtain ⟨x4,rfl,hm⟩:=hm
          refine .reg (eC 1 (some ((zB (ilt (0:Int) z10)),(hT 2 [(oC [zI z12,zI z13,zI z14,Sl.v 1 s4])]))) (show _ = some ((zB true),_) from (by rw [show (ilt (0:Int) z10) = true from h9])) (eC 5 (some ((zI (wrapF .i64 (Int.sub z10 (1:Int)))),(hT 2 [(oC [zI z12,zI z13,zI z14,Sl.v 1 s4])]))) (show _ = some ((zI (Int.ofNat k2)),_) from (by rw [toN_some h10])) (eD (keep (hT 2 [(oC [zI z12,zI z13,zI z14,Sl.v 1 s4])]) (bb (an (Nat.blt k2 (Sl.n s4)) true) (some (fpV (k2 * 1) (Sl.cs s4))) none)) (keep_bb h11) (eD (keep (hT 2 [(oC [zI z12,zI z13,zI z14,Sl.v 1 s4])]) (nthL (Sl.cs s4) (k2 * 1))) (keep_eq h12) (eE))))) ?_
          exact ⟨(z10,(nt (ilt x4 z11)),z12,z13,z14,s4),hm,(.k0 [false] [.tmp 1 false] [1,3,68])⟩
         ·refine .reg (eC 1 (some ((zB (ilt (0 : Int) z10)), (hT 2 [(oC [zI z12, zI z13, zI z14, Sl.v 1 s4])]))) (show _ = some ((zB false), _) from (by rw [show (ilt (0 : Int) z10) = false from h9])) (eE)) ?_
          exact ⟨(z10,false,z12,z13,z14,s4),hm,(.k0 [false] [.tmp 1 false] [1,3,68])⟩
      ·replace hm := bb_cases hm; rcases hm with ⟨h13, hm⟩ | ⟨h13, hm⟩
       ·replace hm := bb_cases hm; rcases hm with ⟨h14, hm⟩ | ⟨h14, hm⟩
        ·refine .reg (eC 4 (some ((zB (nt (ieq z7 z8))), (hT 2 [(oC [zI z7, zI z8, zI z9, Sl.v 1 s3])]))) (show _ = some ((zB true), _) from (by rw [show (nt (ieq z7 z8)) = true from h13])) (eC 2 (some ((zB (ieq x3 (1 : Int))), (hT 2 [(oC [zI z7, zI z8, zI z9, Sl.v 1 s3])]))) (show _ = some ((zB true), _) from (by rw [show (ieq x3 (1 : Int)) = true from h14])) (eE))) ?_
         exact ⟨((Int.ofNat k1),x3,true,z7,z8,z9,s3),hm,(.k0 [false] [.tmp 1 false] [1,3,4,56])⟩
        ·replace hm := bb_cases hm; rcases hm with ⟨h15, hm⟩ | ⟨h15, hm⟩
         ·refine .reg (eC 4 (some ((zB (nt (ieq z7 z8))), (hT 2 [(oC [zI z7, zI z8, zI z9, Sl.v 1 s3])]))) (show _ = some ((zB true), _) from (by rw [show (nt (ieq z7 z8)) = true from h13])) (eC 2 (some ((zB (ieq x3 (1 : Int))), (hT 2 [(oC [zI z7, zI z8, zI z9, Sl.v 1 s3])]))) (show _ = some ((zB false), _) from (by rw [show (ieq x3 (1 : Int)) = false from h14])) (eC 2 (some ((zB (ieq x3 (3 : Int))), (hT 2 [(oC [zI z7, zI z8, zI z9, Sl.v 1 s3])]))) (show _ = some ((zB true), _) from (by rw [show (ieq x3 (3 : Int)) = true from h15])) (eE)))) ?_
          exact ⟨((Int.ofNat k1),x3,true,z7,z8,z9,s3),hm,(.k0 [false] [.tmp 1 false] [1,3,4,56])⟩
         ·refine .reg (eC 4 (some ((zB (nt (ieq z7 z8))), (hT 2 [(oC [zI z7, zI z8, zI z9, Sl.v 1 s3])]))) (show _ = some ((zB true), _) from (by rw [show (nt (ieq z7 z8)) = true from h13])) (eC 2 (some ((zB (ieq x3 (1 : Int))), (hT 2 [(oC [zI z7, zI z8, zI z9, Sl.v 1 s3])]))) (show _ = some ((zB false), _) from (by rw [show (ieq x3 (1 : Int)) = false from h14])) (eC 2 (some ((zB (ieq x3 (3 : Int))), (hT 2 [(oC [zI z7, zI z8, zI z9, Sl.v 1 s3])]))) (show _ = some ((zB false), _) from (by rw [show (ieq x3 (3 : Int)) = false from h15])) (eE)))) ?_
          exact ⟨((Int.ofNat k1),x3,(ilt (5:Int) x3),z7,z8,z9,s3),hm,(.k0 [false] [.tmp 1 false] [1,3,4,56])⟩
       ·refine .reg (eC 4 (some ((zB (nt (ieq z7 z8))), (hT 2 [(oC [zI z7, zI z8, zI z9, Sl.v 1 s3])]))) (show _ = some ((zB false), _) from (by rw [show (nt (ieq z7 z8)) = false from h13])) (eE)) ?_
        exact ⟨((Int.ofNat k1),x3,false,z7,z8,z9,s3),hm,(.k0 [false] [.tmp 1 false] [1,3,4,56])⟩
    ·refine .ifF (ilt z6 (Int.ofNat (Sl.n s3))) (by kernel_rfl) h1 ?_
     refine .exit ?_
     exact ⟨(z7,z8,z9,s3),hm,(.k0 [false] [.tmp 1 false] [1])⟩
 ·replace hm := oo_inv hm; obtain ⟨v7, h16, hm⟩ := hm
  replace hm:=inv_vBool hm;obtain ⟨b5,rfl,hm⟩:=hm
  replace hm:=bb_cases hm;rcases hm with ⟨h17,hm⟩ | ⟨h17,hm⟩
  ·refine .reg (eC 2 ((oo (pu 62 [zI x0, (zI (1 : Int)), (zI (4 : Int))]) none fun v => some (v, (hT 2 [(oC [zI x0, zI x1, zI x2, Sl.v 1 s0])])))) (call_eq h16) (eD (some ((zB (nt b5)), (hT 2 [(oC [zI x0, zI x1, zI x2, Sl.v 1 s0])]))) (show _ = some ((zB true), _) from (by rw [show (nt b5) = true from h17])) (eE))) ?_
   exact ⟨(true,x0,x1,x2,s0),hm,(.k0 [false] [.tmp 1 false] [1,24])⟩
  ·replace hm := oo_inv hm; obtain ⟨v8, h18, hm⟩ := hm
   replace hm:=inv_vBool hm;obtain ⟨b6,rfl,hm⟩:=hm
   replace hm:=bb_cases hm;rcases hm with ⟨h19,hm⟩ | ⟨h19,hm⟩
   ·refine .reg (eC 2 ((oo (pu 62 [zI x0, (zI (1 : Int)), (zI (4 : Int))]) none fun v => some (v, (hT 2 [(oC [zI x0, zI x1, zI x2, Sl.v 1 s0])])))) (call_eq h16) (eD (some ((zB (nt b5)), (hT 2 [(oC [zI x0, zI x1, zI x2, Sl.v 1 s0])]))) (show _ = some ((zB false), _) from (by rw [show (nt b5) = false from h17])) (eC 3 ((oo (pu 62 [zI x1, (zI (1 : Int)), (zI (4 : Int))]) none fun v => some (v, (hT 2 [(oC [zI x0, zI x1, zI x2, Sl.v 1 s0])])))) (call_eq h18) (eD (some ((zB (nt b6)), (hT 2 [(oC [zI x0, zI x1, zI x2, Sl.v 1 s0])]))) (show _ = some ((zB true), _) from (by rw [show (nt b6) = true from h19])) (eE))))) ?_
    exact ⟨(true,x0,x1,x2,s0),hm,(.k0 [false] [.tmp 1 false] [1,24])⟩
   ·replace hm := oo_inv hm; obtain ⟨v9, h20, hm⟩ := hm
    replace hm:=inv_vBool hm;obtain ⟨b7,rfl,hm⟩:=hm
    refine .reg (eC 2 ((oo (pu 62 [zI x0,(zI (1:Int)),(zI (4:Int))]) none fun v=>some (v,(hT 2 [(oC [zI x0,zI x1,zI x2,Sl.v 1 s0])])))) (call_eq h16) (eD (some ((zB (nt b5)),(hT 2 [(oC [zI x0,zI x1,zI x2,Sl.v 1 s0])]))) (show _ = some ((zB false),_) from (by rw [show (nt b5) = false from h17])) (eC 3 ((oo (pu 62 [zI x1,(zI (1:Int)),(zI (4:Int))]) none fun v=>some (v,(hT 2 [(oC [zI x0,zI x1,zI x2,Sl.v 1 s0])])))) (call_eq h18) (eD (some ((zB (nt b6)),(hT 2 [(oC [zI x0,zI x1,zI x2,Sl.v 1 s0])]))) (show _ = some ((zB false),_) from (by rw [show (nt b6) = false from h19])) (eC 4 ((oo (pu 62 [zI x2,(zI (1:Int)),(zI (4:Int))]) none fun v=>some (v,(hT 2 [(oC [zI x0,zI x1,zI x2,Sl.v 1 s0])])))) (call_eq h20) (eE)))))) ?_
    exact ⟨((nt b7),x0,x1,x2,s0),hm,(.k0 [false] [.tmp 1 false] [1,24])⟩
def m43_0 (pu:PureF) (n n0:Nat) (q0:LV):OV:=
 (some (.tuple ⟨[(fpV n0 q0),(.int .i64 (0:Int))]⟩))
def b43_1 (pu:PureF) (n:Nat) (ih0:Nat→LV→Sl→Int→Int→OV) (n0:Nat) (q0:LV) (s0:Sl) (z0 z1:Int):OV:=
 (bb (ilt z1 z0) (oo (toN z1) none fun k1=>(bb (an (Nat.blt k1 (Sl.n s0)) true) (oo (nthL (Sl.cs s0) (k1 * 1)) none fun v0=>(oo (toSl 1 v0) none fun s1=>(oo (pu 80 [(fpV n0 q0),Sl.v 1 s1]) none fun v1=>(oo (toI .i64 v1) none fun x0=>(bb (nt (ieq x0 (0:Int))) (some (.tuple ⟨[(.pointer none),.int .i64 x0]⟩)) (ih0 n0 q0 s0 z0 (wrapF .i64 (Int.add (Int.ofNat k1) (1:Int))))))))) none)) (m43_0 pu n n0 q0))
def l43_1 (pu:PureF) (n w:Nat):Nat→LV→Sl→Int→Int→OV:=
 Nat.rec (motive:=fun _=>Nat→LV→Sl→Int→Int→OV) (fun _ _ _ _ _=>none) (fun _ ih0=>b43_1 pu n ih0) w
def m43_2 (pu:PureF) (n:Nat):OV:=
 (some (.tuple ⟨[(.pointer none),(.int .i64 (0:Int))]⟩))
def b43_3 (pu:PureF) (n:Nat) (ih0:Sl→Int→Int→OV) (s0:Sl) (z0 z1:Int):OV:=
 (bb (ilt z1 z0) (oo (toN z1) none fun k1=>(bb (an (Nat.blt k1 (Sl.n s0)) true) (oo (nthL (Sl.cs s0) (k1 * 1)) none fun v0=>(oo (toSl 1 v0) none fun s1=>(oo (pu 80 [(.pointer none),Sl.v 1 s1]) none fun v1=>(oo (toI .i64 v1) none fun x0=>(bb (nt (ieq x0 (0:Int))) (some (.tuple ⟨[(.pointer none),.int .i64 x0]⟩)) (ih0 s0 z0 (wrapF .i64 (Int.add (Int.ofNat k1) (1:Int))))))))) none)) (m43_2 pu n))
def l43_3 (pu:PureF) (n w:Nat):Sl→Int→Int→OV:=
 Nat.rec (motive:=fun _=>Sl→Int→Int→OV) (fun _ _ _=>none) (fun _ ih0=>b43_3 pu n ih0) w
def m43_ (pu:PureF) (n:Nat) (x0 x1 x2:Int) (s0 s1:Sl):OV:=
 (oo (pu 55 [(.agg ⟨[.int .i64 x0,.int .i64 x1,.int .i64 x2,Sl.v 1 s0]⟩)]) none fun v0=>(oo (vTup v0) none fun l0=>(ll l0 none fun v1 l0=>(ll l0 none fun v2 l0=>(ll l0 (bb (isS (vFp v1)) (oo (vFp v1) none fun p0=>(oo (toI .i64 v2) none fun x3=>(bb (nt (ieq x3 (0:Int))) (some (.tuple ⟨[(.pointer none),.int .i64 x3]⟩)) (l43_1 pu n n (FpV.off p0) (FpV.cs p0) s1 (Int.ofNat (Sl.n s1)) (0:Int))))) (bb (isP0 v1) (oo (toI .i64 v2) none fun x4=>(bb (nt (ieq x4 (0:Int))) (some (.tuple ⟨[(.pointer none),.int .i64 x4]⟩)) (l43_3 pu n n s1 (Int.ofNat (Sl.n s1)) (0:Int)))) none)) fun _ _=>none)))))
def m43 (pu:PureF) (n:Nat) (args:LV):OV:=
 (ll args none fun a0 args=>(ll args none fun a1 args=>(ll args (oo (vAgg a0) none fun l0=>(ll l0 none fun v0 l0=>(ll l0 none fun v1 l0=>(ll l0 none fun v2 l0=>(ll l0 none fun v3 l0=>(ll l0 (oo (toI .i64 v0) none fun x0=>(oo (toI .i64 v1) none fun x1=>(oo (toI .i64 v2) none fun x2=>(oo (toSl 1 v3) none fun s0=>(oo (toSl 1 a1) none fun s1=>(m43_ pu n x0 x1 x2 s0 s1)))))) fun _ _=>none)))))) fun _ _=>none)))
theorem w43_0 (pu:PureF) (n n0:Nat) (q0:LV) {v:Value} (hm:m43_0 pu n n0 q0 = some v):Run tt (callP tabs isP pu (inl pu)) 1 c43_28 (fr 33 [(6,(fpV n0 q0))]) (hp 1 [(oT tab0)]) (Fin tt 1 [.tmp 4,.tmp 5] v):=by
 unfold m43_0 at hm
 refine .then (.rK ?_)
 refine .ghs (fr 33 [(4,(fpV n0 q0)),(5,(zI (0:Int)))]) (hp 1 [(oT tab0)]) (.k0 [false] [] [4,5]) ?_
 refine .ret ?_
 exact fin_ret (.tuple ⟨[(fpV n0 q0),(zI (0:Int))]⟩) (by kernel_rfl) (by kernel_rfl) hm
theorem w43_2 (pu:PureF) (n:Nat) {v:Value} (hm:m43_2 pu n = some v):Run tt (callP tabs isP pu (inl pu)) 1 c43_28 (fr 33 [(6,(.pointer none))]) (hp 1 [(oT tab0)]) (Fin tt 1 [.tmp 4,.tmp 5] v):=by
 unfold m43_2 at hm
 refine .then (.rK ?_)
 refine .ghs (fr 33 [(4,(.pointer none)),(5,(zI (0:Int)))]) (hp 1 [(oT tab0)]) (.k0 [false] [] [4,5]) ?_
 refine .ret ?_
 exact fin_ret (.tuple ⟨[(.pointer none),(zI (0:Int))]⟩) (by kernel_rfl) (by kernel_rfl) hm
theorem r43 {call:CallF} (pu:PureF) (n:Nat) (hcall:call = callP tabs isP pu (inl pu)) {args:LV} {v:Value} (hm:m43 pu n args = some v) (_:∀ x ∈ args,closed2 x = true):args.length≤33∧Run tt call 1 c43_32 (Fr.made 33 args) (pureHeap tabs) (Fin tt 1 [.tmp 4,.tmp 5] v):=by
 subst hcall
 unfold m43 at hm
 replace hm:=ll_uncons hm;obtain ⟨a0,args_0,rfl,hm⟩:=hm
 replace hm:=ll_uncons hm;obtain ⟨a1,args_1,rfl,hm⟩:=hm
 replace hm:=ll_end hm;obtain ⟨rfl,hm⟩:=hm
 replace hm:=inv_vAgg hm;obtain ⟨l0,rfl,hm⟩:=hm
 replace hm:=ll_uncons hm;obtain ⟨v0,l3702_0,rfl,hm⟩:=hm
 replace hm:=ll_uncons hm;obtain ⟨v1,l3702_1,rfl,hm⟩:=hm
 replace hm:=ll_uncons hm;obtain ⟨v2,l3702_2,rfl,hm⟩:=hm
 replace hm:=ll_uncons hm;obtain ⟨v3,l3702_3,rfl,hm⟩:=hm
 replace hm:=ll_end hm;obtain ⟨rfl,hm⟩:=hm
 replace hm:=inv_toI hm;obtain ⟨x0,rfl,hm⟩:=hm
 replace hm:=inv_toI hm;obtain ⟨x1,rfl,hm⟩:=hm
 replace hm:=inv_toI hm;obtain ⟨x2,rfl,hm⟩:=hm
 replace hm:=inv_toSl hm;obtain ⟨s0,rfl,hm⟩:=hm
 replace hm:=inv_toSl hm;obtain ⟨s1,rfl,hm⟩:=hm
 unfold m43_ at hm
 refine ⟨by simp,?_⟩
 refine .same (F':=(fr 33 [(0,(.agg ⟨[zI x0,zI x1,zI x2,Sl.v 1 s0]⟩)),(1,Sl.v 1 s1)])) (H':=(hp 1 [(oT tab0)])) (by kernel_rfl) (by kernel_rfl) ?_
 refine .then (.rK ?_)
 refine .ghs (fr 33 [(1,Sl.v 1 s1),(2,pt 1 0)]) (hT 2 [(oC [zI x0,zI x1,zI x2,Sl.v 1 s0])]) (.k0 [false] [.tmp 2 false] [1,2]) ?_
 refine .then ?_
 replace hm:=oo_inv hm;obtain ⟨v4,h0,hm⟩:=hm
 replace hm:=inv_vTup hm;obtain ⟨l1,rfl,hm⟩:=hm
 replace hm:=ll_uncons hm;obtain ⟨v5,l3731_0,rfl,hm⟩:=hm
 replace hm:=ll_uncons hm;obtain ⟨v6,l3731_1,rfl,hm⟩:=hm
 replace hm:=ll_end hm;obtain ⟨rfl,hm⟩:=hm
 replace hm:=bb_cases hm;rcases hm with ⟨h1,hm⟩ | ⟨h1,hm⟩
 ·replace hm := oo_inv hm; obtain ⟨p0, h2, hm⟩ := hm
  obtain rfl:=vFp_some h2
  replace hm:=inv_toI hm;obtain ⟨x3,rfl,hm⟩:=hm
  refine .reg (eC 1 ((oo (pu 55 [(.agg ⟨[zI x0,zI x1,zI x2,Sl.v 1 s0]⟩)]) none fun v=>some (v,(hT 2 [(oC [zI x0,zI x1,zI x2,Sl.v 1 s0])])))) (call_eq h0) (eE)) ?_
  refine .ghs (fr 33 [(1,Sl.v 1 s1),(6,(fpV (FpV.off p0) (FpV.cs p0))),(7,zI x3)]) (hp 1 [(oT tab0)]) (.k0 [false] [] [1,6,7]) ?_
  refine .then ?_
  refine .then (.rK ?_)
  refine .ghs (fr 33 [(1,Sl.v 1 s1),(6,(fpV (FpV.off p0) (FpV.cs p0))),(7,zI x3),(17,(zB (nt (ieq x3 (0:Int)))))]) (hp 1 [(oT tab0)]) (.k0 [false] [] [1,6,7,17]) ?_
  replace hm:=bb_cases hm;rcases hm with ⟨h3,hm⟩ | ⟨h3,hm⟩
  ·refine .ifT (nt (ieq x3 (0 : Int))) (by kernel_rfl) h3 ?_
   refine .then (.rK ?_)
   refine .ghs (fr 33 [(4,(.pointer none)),(5,zI x3)]) (hp 1 [(oT tab0)]) (.k0 [false] [] [4,5]) ?_
   refine .ret ?_
   exact fin_ret (.tuple ⟨[(.pointer none),zI x3]⟩) (by kernel_rfl) (by kernel_rfl) hm
  ·refine .ifF (nt (ieq x3 (0 : Int))) (by kernel_rfl) h3 ?_
   refine .skip ?_
   refine .ghs (fr 33 [(1,Sl.v 1 s1),(6,(fpV (FpV.off p0) (FpV.cs p0)))]) (hp 1 [(oT tab0)]) (.k0 [false] [] [1,6]) ?_
   refine .join (v:=v) (fun y:Nat×LV=>((fr 33 [(6,(fpV y.1 y.2))]),(hp 1 [(oT tab0)]))) (fun y=>m43_0 pu n y.1 y.2) ?_ ?_
   ·rintro ⟨n0, q0⟩ hm
    exact w43_0 pu n n0 q0 hm
   ·refine .then (.rK ?_)
    refine .ghs (fr 33 [(6,(fpV (FpV.off p0) (FpV.cs p0))),(19,Sl.v 1 s1),(20,(zI (Int.ofNat (Sl.n s1)))),(21,(zI (0:Int)))]) (hp 1 [(oT tab0)]) (.k0 [false] [] [6,19,20,21]) ?_
    refine .block ?_
    refine .loopM (v:=v) (fun y:Nat×LV×Sl×Int×Int=>((fr 33 [(6,(fpV y.1 y.2.1)),(19,(Sl.v 1 y.2.2.1)),(20,(zI y.2.2.2.1)),(21,(zI y.2.2.2.2))]),(hp 1 [(oT tab0)]))) (fun w y=>l43_1 pu n w y.1 y.2.1 y.2.2.1 y.2.2.2.1 y.2.2.2.2) n ⟨((FpV.off p0),(FpV.cs p0),s1,(Int.ofNat (Sl.n s1)),(0:Int)),hm,(.k0 [false] [] [6,19,20,21])⟩ (fun _=>rfl) ?_
    rintro w0 ⟨n1,q1,s2,z0,z1⟩ hm
    replace hm:b43_1 pu n (l43_1 pu n w0) n1 q1 s2 z0 z1 = some v:=hm
    unfold b43_1 at hm
    refine .then (.rK ?_)
    refine .ghs (fr 33 [(6,(fpV n1 q1)),(19,Sl.v 1 s2),(20,zI z0),(21,zI z1),(22,(zB (ilt z1 z0)))]) (hp 1 [(oT tab0)]) (.k0 [false] [] [6,19,20,21,22]) ?_
    refine .then ?_
    replace hm:=bb_cases hm;rcases hm with ⟨h4,hm⟩ | ⟨h4,hm⟩
    ·refine .ifT (ilt z1 z0) (by kernel_rfl) h4 ?_
     refine .skip ?_
     refine .ghs (fr 33 [(6,(fpV n1 q1)),(19,Sl.v 1 s2),(20,zI z0),(21,zI z1)]) (hp 1 [(oT tab0)]) (.k0 [false] [] [6,19,20,21]) ?_
     refine .then ?_
     refine .block ?_
     refine .then ?_
     replace hm:=oo_inv hm;obtain ⟨k1,h5,hm⟩:=hm
     obtain rfl:=toN_some h5
     replace hm:=bb_inv hm;obtain ⟨h6,hm⟩:=hm
     replace hm:=oo_inv hm;obtain ⟨v7,h7,hm⟩:=hm
     replace hm:=inv_toSl hm;obtain ⟨s3,rfl,hm⟩:=hm
     refine .reg (eD (keep (hp 1 [(oT tab0)]) (bb (an (Nat.blt k1 (Sl.n s2)) true) (some (fpV (k1 * 1) (Sl.cs s2))) none)) (keep_bb h6) (eD (keep (hp 1 [(oT tab0)]) (nthL (Sl.cs s2) (k1 * 1))) (keep_eq h7) (eE))) ?_
     refine .ghs (fr 33 [(6,(fpV n1 q1)),(9,Sl.v 1 s3),(19,Sl.v 1 s2),(20,zI z0),(21,(zI (Int.ofNat k1)))]) (hp 1 [(oT tab0)]) (.k0 [false] [] [6,9,19,20,21]) ?_
     refine .then ?_
     replace hm:=oo_inv hm;obtain ⟨v8,h8,hm⟩:=hm
     replace hm:=inv_toI hm;obtain ⟨x4,rfl,hm⟩:=hm
     refine .reg (eC 2 ((oo (pu 80 [(fpV n1 q1),Sl.v 1 s3]) none fun v=>some (v,(hp 1 [(oT tab0)])))) (call_eq h8) (eE)) ?_
     refine .ghs (fr 33 [(6,(fpV n1 q1)),(10,zI x4),(19,Sl.v 1 s2),(20,zI z0),(21,(zI (Int.ofNat k1)))]) (hp 1 [(oT tab0)]) (.k0 [false] [] [6,10,19,20,21]) ?_
     refine .then (.rK ?_)
     refine .ghs (fr 33 [(6,(fpV n1 q1)),(10,zI x4),(19,Sl.v 1 s2),(20,zI z0),(21,(zI (Int.ofNat k1))),(29,(zB (nt (ieq x4 (0:Int)))))]) (hp 1 [(oT tab0)]) (.k0 [false] [] [6,10,19,20,21,29]) ?_
     replace hm:=bb_cases hm;rcases hm with ⟨h9,hm⟩ | ⟨h9,hm⟩
     ·refine .ifT (nt (ieq x4 (0 : Int))) (by kernel_rfl) h9 ?_
      refine .then (.rK ?_)
      refine .ghs (fr 33 [(4,(.pointer none)),(5,zI x4)]) (hp 1 [(oT tab0)]) (.k0 [false] [] [4,5]) ?_
      refine .ret ?_
      exact fin_ret (.tuple ⟨[(.pointer none),zI x4]⟩) (by kernel_rfl) (by kernel_rfl) hm
     ·refine .ifF (nt (ieq x4 (0 : Int))) (by kernel_rfl) h9 ?_
      refine .skip ?_
      refine .ghs (fr 33 [(6,(fpV n1 q1)),(19,Sl.v 1 s2),(20,zI z0),(21,(zI (Int.ofNat k1)))]) (hp 1 [(oT tab0)]) (.k0 [false] [] [6,19,20,21]) ?_
      refine .rK ?_
      exact ⟨(n1,q1,s2,z0,(wrapF .i64 (Int.add (Int.ofNat k1) (1:Int)))),hm,(.k0 [false] [] [6,19,20,21])⟩
    ·refine .ifF (ilt z1 z0) (by kernel_rfl) h4 ?_
     refine .exit ?_
     exact ⟨(n1,q1),hm,(.k0 [false] [] [6])⟩
 ·replace hm := bb_inv hm; obtain ⟨h10, hm⟩ := hm
  obtain rfl:=isP0_ok h10
  replace hm:=inv_toI hm;obtain ⟨x5,rfl,hm⟩:=hm
  refine .reg (eC 1 ((oo (pu 55 [(.agg ⟨[zI x0,zI x1,zI x2,Sl.v 1 s0]⟩)]) none fun v=>some (v,(hT 2 [(oC [zI x0,zI x1,zI x2,Sl.v 1 s0])])))) (call_eq h0) (eE)) ?_
  refine .ghs (fr 33 [(1,Sl.v 1 s1),(6,(.pointer none)),(7,zI x5)]) (hp 1 [(oT tab0)]) (.k0 [false] [] [1,6,7]) ?_
  refine .then ?_
  refine .then (.rK ?_)
  refine .ghs (fr 33 [(1,Sl.v 1 s1),(6,(.pointer none)),(7,zI x5),(17,(zB (nt (ieq x5 (0:Int)))))]) (hp 1 [(oT tab0)]) (.k0 [false] [] [1,6,7,17]) ?_
  replace hm:=bb_cases hm;rcases hm with ⟨h11,hm⟩ | ⟨h11,hm⟩
  ·refine .ifT (nt (ieq x5 (0 : Int))) (by kernel_rfl) h11 ?_
   refine .then (.rK ?_)
   refine .ghs (fr 33 [(4,(.pointer none)),(5,zI x5)]) (hp 1 [(oT tab0)]) (.k0 [false] [] [4,5]) ?_
   refine .ret ?_
   exact fin_ret (.tuple ⟨[(.pointer none),zI x5]⟩) (by kernel_rfl) (by kernel_rfl) hm
  ·refine .ifF (nt (ieq x5 (0 : Int))) (by kernel_rfl) h11 ?_
   refine .skip ?_
   refine .ghs (fr 33 [(1,Sl.v 1 s1),(6,(.pointer none))]) (hp 1 [(oT tab0)]) (.k0 [false] [] [1,6]) ?_
   refine .join (v:=v) (fun y:Unit=>((fr 33 [(6,(.pointer none))]),(hp 1 [(oT tab0)]))) (fun y=>m43_2 pu n) ?_ ?_
   ·rintro _ hm
    exact w43_2 pu n hm
   ·refine .then (.rK ?_)
    refine .ghs (fr 33 [(6,(.pointer none)),(19,Sl.v 1 s1),(20,(zI (Int.ofNat (Sl.n s1)))),(21,(zI (0:Int)))]) (hp 1 [(oT tab0)]) (.k0 [false] [] [6,19,20,21]) ?_
    refine .block ?_
    refine .loopM (v:=v) (fun y:Sl×Int×Int=>((fr 33 [(6,(.pointer none)),(19,(Sl.v 1 y.1)),(20,(zI y.2.1)),(21,(zI y.2.2))]),(hp 1 [(oT tab0)]))) (fun w y=>l43_3 pu n w y.1 y.2.1 y.2.2) n ⟨(s1,(Int.ofNat (Sl.n s1)),(0:Int)),hm,(.k0 [false] [] [6,19,20,21])⟩ (fun _=>rfl) ?_
    rintro w0 ⟨s4,z2,z3⟩ hm
    replace hm:b43_3 pu n (l43_3 pu n w0) s4 z2 z3 = some v:=hm
    unfold b43_3 at hm
    refine .then (.rK ?_)
    refine .ghs (fr 33 [(6,(.pointer none)),(19,Sl.v 1 s4),(20,zI z2),(21,zI z3),(22,(zB (ilt z3 z2)))]) (hp 1 [(oT tab0)]) (.k0 [false] [] [6,19,20,21,22]) ?_
    refine .then ?_
    replace hm:=bb_cases hm;rcases hm with ⟨h12,hm⟩ | ⟨h12,hm⟩
    ·refine .ifT (ilt z3 z2) (by kernel_rfl) h12 ?_
     refine .skip ?_
     refine .ghs (fr 33 [(6,(.pointer none)),(19,Sl.v 1 s4),(20,zI z2),(21,zI z3)]) (hp 1 [(oT tab0)]) (.k0 [false] [] [6,19,20,21]) ?_
     refine .then ?_
     refine .block ?_
     refine .then ?_
     replace hm:=oo_inv hm;obtain ⟨k2,h13,hm⟩:=hm
     obtain rfl:=toN_some h13
     replace hm:=bb_inv hm;obtain ⟨h14,hm⟩:=hm
     replace hm:=oo_inv hm;obtain ⟨v9,h15,hm⟩:=hm
     replace hm:=inv_toSl hm;obtain ⟨s5,rfl,hm⟩:=hm
     refine .reg (eD (keep (hp 1 [(oT tab0)]) (bb (an (Nat.blt k2 (Sl.n s4)) true) (some (fpV (k2 * 1) (Sl.cs s4))) none)) (keep_bb h14) (eD (keep (hp 1 [(oT tab0)]) (nthL (Sl.cs s4) (k2 * 1))) (keep_eq h15) (eE))) ?_
     refine .ghs (fr 33 [(6,(.pointer none)),(9,Sl.v 1 s5),(19,Sl.v 1 s4),(20,zI z2),(21,(zI (Int.ofNat k2)))]) (hp 1 [(oT tab0)]) (.k0 [false] [] [6,9,19,20,21]) ?_
     refine .then ?_
     replace hm:=oo_inv hm;obtain ⟨v10,h16,hm⟩:=hm
     replace hm:=inv_toI hm;obtain ⟨x6,rfl,hm⟩:=hm
     refine .reg (eC 2 ((oo (pu 80 [(.pointer none),Sl.v 1 s5]) none fun v=>some (v,(hp 1 [(oT tab0)])))) (call_eq h16) (eE)) ?_
     refine .ghs (fr 33 [(6,(.pointer none)),(10,zI x6),(19,Sl.v 1 s4),(20,zI z2),(21,(zI (Int.ofNat k2)))]) (hp 1 [(oT tab0)]) (.k0 [false] [] [6,10,19,20,21]) ?_
     refine .then (.rK ?_)
     refine .ghs (fr 33 [(6,(.pointer none)),(10,zI x6),(19,Sl.v 1 s4),(20,zI z2),(21,(zI (Int.ofNat k2))),(29,(zB (nt (ieq x6 (0:Int)))))]) (hp 1 [(oT tab0)]) (.k0 [false] [] [6,10,19,20,21,29]) ?_
     replace hm:=bb_cases hm;rcases hm with ⟨h17,hm⟩ | ⟨h17,hm⟩
     ·refine .ifT (nt (ieq x6 (0 : Int))) (by kernel_rfl) h17 ?_
      refine .then (.rK ?_)
      refine .ghs (fr 33 [(4,(.pointer none)),(5,zI x6)]) (hp 1 [(oT tab0)]) (.k0 [false] [] [4,5]) ?_
      refine .ret ?_
      exact fin_ret (.tuple ⟨[(.pointer none),zI x6]⟩) (by kernel_rfl) (by kernel_rfl) hm
     ·refine .ifF (nt (ieq x6 (0 : Int))) (by kernel_rfl) h17 ?_
      refine .skip ?_
      refine .ghs (fr 33 [(6,(.pointer none)),(19,Sl.v 1 s4),(20,zI z2),(21,(zI (Int.ofNat k2)))]) (hp 1 [(oT tab0)]) (.k0 [false] [] [6,19,20,21]) ?_
      refine .rK ?_
      exact ⟨(s4,z2,(wrapF .i64 (Int.add (Int.ofNat k2) (1:Int)))),hm,(.k0 [false] [] [6,19,20,21])⟩
    ·refine .ifF (ilt z3 z2) (by kernel_rfl) h12 ?_
     refine .exit ?_
     exact ⟨(),hm,(.k0 [false] [] [6])⟩
def m44_0 (pu:PureF) (n:Nat):OV:=
 (some (.int .i64 (-1:Int)))
def b44_1 (pu:PureF) (n:Nat) (ih0:Sl→Int→Int→Int→OV) (s0:Sl) (z0 z1 z2:Int):OV:=
 (bb (ilt z2 z1) (oo (toN z2) none fun k1=>(bb (an (Nat.blt k1 (Sl.n s0)) true) (oo (nthL (Sl.cs s0) (k1 * 1)) none fun v0=>(oo (toI .i64 v0) none fun x0=>(bb (ieq z0 x0) (some (.int .i64 (Int.ofNat k1))) (ih0 s0 z0 z1 (wrapF .i64 (Int.add (Int.ofNat k1) (1:Int))))))) none)) (m44_0 pu n))
def l44_1 (pu:PureF) (n w:Nat):Sl→Int→Int→Int→OV:=
 Nat.rec (motive:=fun _=>Sl→Int→Int→Int→OV) (fun _ _ _ _=>none) (fun _ ih0=>b44_1 pu n ih0) w
def m44_ (pu:PureF) (n:Nat) (s0:Sl) (x0:Int):OV:=
 (l44_1 pu n n s0 x0 (Int.ofNat (Sl.n s0)) (0:Int))
def m44 (pu:PureF) (n:Nat) (args:LV):OV:=
 (ll args none fun a0 args=>(ll args none fun a1 args=>(ll args (oo (toSl 1 a0) none fun s0=>(oo (toI .i64 a1) none fun x0=>(m44_ pu n s0 x0))) fun _ _=>none)))
theorem w44_0 (pu:PureF) (n:Nat) {v:Value} (hm:m44_0 pu n = some v):Run tt (callP tabs isP pu (inl pu)) 1 c44_20 (fr 19 []) (hp 1 [(oT tab0)]) (Fin tt 1 [.tmp 4] v):=by
 unfold m44_0 at hm
 refine .then (.rK ?_)
 refine .ghs (fr 19 [(4,(zI (-1:Int)))]) (hp 1 [(oT tab0)]) (.k0 [false] [] [4]) ?_
 refine .ret ?_
 exact fin_ret (zI (-1:Int)) (by kernel_rfl) (by kernel_rfl) hm
theorem r44 {call:CallF} (pu:PureF) (n:Nat) (hcall:call = callP tabs isP pu (inl pu)) {args:LV} {v:Value} (hm:m44 pu n args = some v) (_:∀ x ∈ args,closed2 x = true):args.length≤19∧Run tt call 1 c44_22 (Fr.made 19 args) (pureHeap tabs) (Fin tt 1 [.tmp 4] v):=by
 subst hcall
 unfold m44 at hm
 replace hm:=ll_uncons hm;obtain ⟨a0,args_0,rfl,hm⟩:=hm
 replace hm:=ll_uncons hm;obtain ⟨a1,args_1,rfl,hm⟩:=hm
 replace hm:=ll_end hm;obtain ⟨rfl,hm⟩:=hm
 replace hm:=inv_toSl hm;obtain ⟨s0,rfl,hm⟩:=hm
 replace hm:=inv_toI hm;obtain ⟨x0,rfl,hm⟩:=hm
 unfold m44_ at hm
 refine ⟨by simp,?_⟩
 refine .same (F':=(fr 19 [(0,Sl.v 1 s0),(1,zI x0)])) (H':=(hp 1 [(oT tab0)])) (by kernel_rfl) (by kernel_rfl) ?_
 refine .then (.rK ?_)
 refine .ghs (fr 19 [(0,Sl.v 1 s0),(1,zI x0)]) (hp 1 [(oT tab0)]) (.k0 [false] [] [0,1]) ?_
 refine .join (v:=v) (fun y:Unit=>((fr 19 []),(hp 1 [(oT tab0)]))) (fun y=>m44_0 pu n) ?_ ?_
 ·rintro _ hm
  exact w44_0 pu n hm
 ·refine .then (.rK ?_)
  refine .ghs (fr 19 [(0,Sl.v 1 s0),(1,zI x0),(7,(zI (Int.ofNat (Sl.n s0)))),(8,(zI (0:Int)))]) (hp 1 [(oT tab0)]) (.k0 [false] [] [0,1,7,8]) ?_
  refine .block ?_
  refine .loopM (v:=v) (fun y:Sl×Int×Int×Int=>((fr 19 [(0,(Sl.v 1 y.1)),(1,(zI y.2.1)),(7,(zI y.2.2.1)),(8,(zI y.2.2.2))]),(hp 1 [(oT tab0)]))) (fun w y=>l44_1 pu n w y.1 y.2.1 y.2.2.1 y.2.2.2) n ⟨(s0,x0,(Int.ofNat (Sl.n s0)),(0:Int)),hm,(.k0 [false] [] [0,1,7,8])⟩ (fun _=>rfl) ?_
  rintro w0 ⟨s1,z0,z1,z2⟩ hm
  replace hm:b44_1 pu n (l44_1 pu n w0) s1 z0 z1 z2 = some v:=hm
  unfold b44_1 at hm
  refine .then (.rK ?_)
  refine .ghs (fr 19 [(0,Sl.v 1 s1),(1,zI z0),(7,zI z1),(8,zI z2),(9,(zB (ilt z2 z1)))]) (hp 1 [(oT tab0)]) (.k0 [false] [] [0,1,7,8,9]) ?_
  refine .then ?_
  replace hm:=bb_cases hm;rcases hm with ⟨h0,hm⟩ | ⟨h0,hm⟩
  ·refine .ifT (ilt z2 z1) (by kernel_rfl) h0 ?_
   refine .skip ?_
   refine .ghs (fr 19 [(0,Sl.v 1 s1),(1,zI z0),(7,zI z1),(8,zI z2)]) (hp 1 [(oT tab0)]) (.k0 [false] [] [0,1,7,8]) ?_
   refine .then ?_
   refine .block ?_
   refine .then (.rK ?_)
   refine .ghs (fr 19 [(0,Sl.v 1 s1),(1,zI z0),(5,zI z2),(7,zI z1),(8,zI z2)]) (hp 1 [(oT tab0)]) (.k0 [false] [] [0,1,5,7,8]) ?_
   refine .then ?_
   replace hm:=oo_inv hm;obtain ⟨k1,h1,hm⟩:=hm
   obtain rfl:=toN_some h1
   replace hm:=bb_inv hm;obtain ⟨h2,hm⟩:=hm
   replace hm:=oo_inv hm;obtain ⟨v0,h3,hm⟩:=hm
   replace hm:=inv_toI hm;obtain ⟨x1,rfl,hm⟩:=hm
   refine .reg (eC 3 (keep (hp 1 [(oT tab0)]) (bb (an (Nat.blt k1 (Sl.n s1)) true) (some (fpV (k1 * 1) (Sl.cs s1))) none)) (keep_bb h2) (eD (keep (hp 1 [(oT tab0)]) (nthL (Sl.cs s1) (k1 * 1))) (keep_eq h3) (eE))) ?_
   refine .ghs (fr 19 [(0,Sl.v 1 s1),(1,zI z0),(5,(zI (Int.ofNat k1))),(7,zI z1),(8,(zI (Int.ofNat k1))),(16,(zB (ieq z0 x1)))]) (hp 1 [(oT tab0)]) (.k0 [false] [] [0,1,5,7,8,16]) ?_
   replace hm:=bb_cases hm;rcases hm with ⟨h4,hm⟩ | ⟨h4,hm⟩
   ·refine .ifT (ieq z0 x1) (by kernel_rfl) h4 ?_
    refine .then (.rK ?_)
    refine .ghs (fr 19 [(4,(zI (Int.ofNat k1)))]) (hp 1 [(oT tab0)]) (.k0 [false] [] [4]) ?_
    refine .ret ?_
    exact fin_ret (zI (Int.ofNat k1)) (by kernel_rfl) (by kernel_rfl) hm
   ·refine .ifF (ieq z0 x1) (by kernel_rfl) h4 ?_
    refine .skip ?_
    refine .ghs (fr 19 [(0,Sl.v 1 s1),(1,zI z0),(7,zI z1),(8,(zI (Int.ofNat k1)))]) (hp 1 [(oT tab0)]) (.k0 [false] [] [0,1,7,8]) ?_
    refine .rK ?_
    exact ⟨(s1,z0,z1,(wrapF .i64 (Int.add (Int.ofNat k1) (1:Int)))),hm,(.k0 [false] [] [0,1,7,8])⟩
  ·refine .ifF (ilt z2 z1) (by kernel_rfl) h0 ?_
   refine .exit ?_
   exact ⟨(),hm,(.k0 [false] [] [])⟩
def m45_0 (pu:PureF) (n n0 c0:Nat) (q0:LV):OV:=
 (bb (allL closed1 q0) (bb (an (Nat.ble (0 + n0 * 1) (len q0)) (allL closed1 (takeL (n0 * 1) (dropL 0 q0)))) (some (Sl.v 1 (Sl.mk n0 0 (takeL (n0 * 1) (dropL 0 q0))))) none) none)
def b45_1 (pu:PureF) (n:Nat) (ih0:Sl→Nat→Nat→Sl→Int→Int→LV→OV) (s0:Sl) (n0 c0:Nat) (s1:Sl) (z0 z1:Int) (q0:LV):OV:=
 (bb (allL closed1 q0) (bb (ilt z1 z0) (oo (toN z1) none fun k1=>(bb (an (Nat.blt k1 (Sl.n s1)) true) (oo (nthL (Sl.cs s1) (k1 * 1)) none fun v0=>(oo (toI .i64 v0) none fun x0=>(oo (toN x0) none fun k2=>(bb (an (Nat.blt k2 (Sl.n s0)) true) (oo (nthL (Sl.cs s0) (k2 * 1)) none fun v1=>(oo (toI .i64 v1) none fun x1=>(bb (an (Nat.blt k1 n0) true) (bb (an (Nat.ble ((0 + k1 * 1) + 1) (len q0)) true) (bb (allL closed1 (setL ([.int .i64 x1]:LV) (0 + k1 * 1) q0)) (ih0 s0 n0 c0 s1 z0 (wrapF .i64 (Int.add (Int.ofNat k1) (1:Int))) (setL ([.int .i64 x1]:LV) (0 + k1 * 1) q0)) none) none) none))) none)))) none)) (m45_0 pu n n0 c0 q0)) none)
def l45_1 (pu:PureF) (n w:Nat):Sl→Nat→Nat→Sl→Int→Int→LV→OV:=
 Nat.rec (motive:=fun _=>Sl→Nat→Nat→Sl→Int→Int→LV→OV) (fun _ _ _ _ _ _ _=>none) (fun _ ih0=>b45_1 pu n ih0) w
def m45_ (pu:PureF) (n:Nat) (p0:FpV) (s0:Sl) (x0:Int):OV:=
 (bb (an (Nat.ble (Sl.n s0) (Sl.n s0)) (an (Nat.ble ((Sl.n s0) * 8) 1099511627776) (an (Nat.ble (Sl.n s0) 1099511627776) true))) (bb (allL closed1 (zeroRow ([(.int .i64 (0:Int))]:LV) (Sl.n s0))) (oo (nthL (FpV.cs p0) ((FpV.off p0) + 4)) none fun v0=>(oo (toSl 1 v0) none fun s1=>(oo (toN x0) none fun k1=>(bb (an (Nat.blt k1 (Sl.n s1)) true) (oo (nthL (Sl.cs s1) (k1 * 1)) none fun v1=>(oo (toSl 1 v1) none fun s2=>(l45_1 pu n n s0 (Sl.n s0) (2 * (Sl.n s0) + bb true 1 0) s2 (Int.ofNat (Sl.n s2)) (0:Int) (zeroRow ([(.int .i64 (0:Int))]:LV) (Sl.n s0))))) none)))) none) none)
def m45 (pu:PureF) (n:Nat) (args:LV):OV:=
 (ll args none fun a0 args=>(ll args none fun a1 args=>(ll args none fun a2 args=>(ll args (oo (vFp a0) none fun p0=>(oo (toSl 1 a1) none fun s0=>(oo (toI .i64 a2) none fun x0=>(m45_ pu n p0 s0 x0)))) fun _ _=>none))))
theorem w45_0 (pu:PureF) (n n0 c0:Nat) (q0:LV) {v:Value} (hm:m45_0 pu n n0 c0 q0 = some v):Run tt (callP tabs isP pu (inl pu)) 1 c45_17 (fr 35 [(7,sc 1 0 1 n0 c0)]) (hT 2 [oC q0]) (Fin tt 1 [.tmp 6] v):=by
 unfold m45_0 at hm
 refine .then (.rK ?_)
 replace hm:=bb_inv hm;obtain ⟨h0,hm⟩:=hm
 refine .ghs (fr 35 [(6,sc 1 0 1 n0 c0)]) (hT 2 [oC q0]) (.k [1] [false] [.tmp 6 false] [6] ⟨trF h0,trivial⟩) ?_
 replace hm:=bb_inv hm;obtain ⟨h1,hm⟩:=hm
 refine .ghs (Fr.puts (fr 35 [(6,sc 1 0 1 n0 c0)]) [(6,(Sl.v 1 (Sl.mk n0 0 (takeL (n0 * 1) (dropL 0 q0)))))]) (hT 2 [.dead]) (.freezeC 1 6 1 (an (Nat.ble (0 + n0 * 1) (len q0)) (allL closed1 (takeL (n0 * 1) (dropL 0 q0)))) (F1:=(Fr.puts (fr 35 [(6,sc 1 0 1 n0 c0)]) [(6,(Sl.v 1 (Sl.mk n0 0 (takeL (n0 * 1) (dropL 0 q0)))))])) (H1:=(hT 2 [.dead])) (by kernel_rfl) (by kernel_rfl) h1 (GhS.id _ _)) ?_
 refine .ret ?_
 exact fin_ret (Sl.v 1 (Sl.mk n0 0 (takeL (n0 * 1) (dropL 0 q0)))) (by kernel_rfl) (by kernel_rfl) hm
theorem r45 {call:CallF} (pu:PureF) (n:Nat) (hcall:call = callP tabs isP pu (inl pu)) {args:LV} {v:Value} (hm:m45 pu n args = some v) (_:∀ x ∈ args,closed2 x = true):args.length≤35∧Run tt call 1 c45_20 (Fr.made 35 args) (pureHeap tabs) (Fin tt 1 [.tmp 6] v):=by
 subst hcall
 unfold m45 at hm
 replace hm:=ll_uncons hm;obtain ⟨a0,args_0,rfl,hm⟩:=hm
 replace hm:=ll_uncons hm;obtain ⟨a1,args_1,rfl,hm⟩:=hm
 replace hm:=ll_uncons hm;obtain ⟨a2,args_2,rfl,hm⟩:=hm
 replace hm:=ll_end hm;obtain ⟨rfl,hm⟩:=hm
 replace hm:=oo_inv hm;obtain ⟨p0,h0,hm⟩:=hm
 obtain rfl:=vFp_some h0
 replace hm:=inv_toSl hm;obtain ⟨s0,rfl,hm⟩:=hm
 replace hm:=inv_toI hm;obtain ⟨x0,rfl,hm⟩:=hm
 unfold m45_ at hm
 refine ⟨by simp,?_⟩
 refine .same (F':=(fr 35 [(0,(fpV (FpV.off p0) (FpV.cs p0))),(1,Sl.v 1 s0),(2,zI x0)])) (H':=(hp 1 [(oT tab0)])) (by kernel_rfl) (by kernel_rfl) ?_
 refine .then (.rK ?_)
 refine .ghs (fr 35 [(0,(fpV (FpV.off p0) (FpV.cs p0))),(1,Sl.v 1 s0),(2,zI x0)]) (hp 1 [(oT tab0)]) (.k0 [false] [] [0,1,2]) ?_
 refine .then ?_
 replace hm:=bb_inv hm;obtain ⟨h1,hm⟩:=hm
 refine .reg (eC 2 (bb (an (Nat.ble (Sl.n s0) (Sl.n s0)) (an (Nat.ble ((Sl.n s0) * 8) 1099511627776) (an (Nat.ble (Sl.n s0) 1099511627776) true))) (some ((sc 1 0 1 (Sl.n s0) (2 * (Sl.n s0) + bb true 1 0)),(hT 2 [(oC (zeroRow ([(zI (0:Int))]:LV) (Sl.n s0)))]))) none) (bb_some h1) (eE)) ?_
 replace hm:=bb_inv hm;obtain ⟨h2,hm⟩:=hm
 refine .ghs (fr 35 [(0,(fpV (FpV.off p0) (FpV.cs p0))),(1,Sl.v 1 s0),(2,zI x0),(7,(sc 1 0 1 (Sl.n s0) (2 * (Sl.n s0) + bb true 1 0)))]) (hT 2 [(oC (zeroRow ([(zI (0:Int))]:LV) (Sl.n s0)))]) (.k [1] [false] [.tmp 7 false] [0,1,2,7] ⟨trF h2,trivial⟩) ?_
 refine .join (v:=v) (fun y:Nat×Nat×LV=>((fr 35 [(7,(sc 1 0 1 y.1 y.2.1))]),(hT 2 [(oC y.2.2)]))) (fun y=>m45_0 pu n y.1 y.2.1 y.2.2) ?_ ?_
 ·rintro ⟨n0, c0, q0⟩ hm
  exact w45_0 pu n n0 c0 q0 hm
 ·refine .then ?_
  replace hm:=oo_inv hm;obtain ⟨v0,h3,hm⟩:=hm
  replace hm:=inv_toSl hm;obtain ⟨s1,rfl,hm⟩:=hm
  replace hm:=oo_inv hm;obtain ⟨k1,h4,hm⟩:=hm
  obtain rfl:=toN_some h4
  replace hm:=bb_inv hm;obtain ⟨h5,hm⟩:=hm
  replace hm:=oo_inv hm;obtain ⟨v1,h6,hm⟩:=hm
  replace hm:=inv_toSl hm;obtain ⟨s2,rfl,hm⟩:=hm
  refine .reg (eC 3 (keep (hT 2 [(oC (zeroRow ([(zI (0:Int))]:LV) (Sl.n s0)))]) (nthL (FpV.cs p0) ((FpV.off p0) + 4))) (keep_eq h3) (eC 1 (keep (hT 2 [(oC (zeroRow ([(zI (0:Int))]:LV) (Sl.n s0)))]) (bb (an (Nat.blt k1 (Sl.n s1)) true) (some (fpV (k1 * 1) (Sl.cs s1))) none)) (keep_bb h5) (eD (keep (hT 2 [(oC (zeroRow ([(zI (0:Int))]:LV) (Sl.n s0)))]) (nthL (Sl.cs s1) (k1 * 1))) (keep_eq h6) (eE)))) ?_
  refine .ghs (fr 35 [(1,Sl.v 1 s0),(7,(sc 1 0 1 (Sl.n s0) (2 * (Sl.n s0) + bb true 1 0))),(19,Sl.v 1 s2),(20,(zI (Int.ofNat (Sl.n s2)))),(21,(zI (0:Int)))]) (hT 2 [(oC (zeroRow ([(zI (0:Int))]:LV) (Sl.n s0)))]) (.k [1] [false] [.tmp 7 false] [1,7,19,20,21] ⟨trF h2,trivial⟩) ?_
  refine .block ?_
  refine .loopM (v:=v) (fun y:Sl×Nat×Nat×Sl×Int×Int×LV=>((fr 35 [(1,(Sl.v 1 y.1)),(7,(sc 1 0 1 y.2.1 y.2.2.1)),(19,(Sl.v 1 y.2.2.2.1)),(20,(zI y.2.2.2.2.1)),(21,(zI y.2.2.2.2.2.1))]),(hT 2 [(oC y.2.2.2.2.2.2)]))) (fun w y=>l45_1 pu n w y.1 y.2.1 y.2.2.1 y.2.2.2.1 y.2.2.2.2.1 y.2.2.2.2.2.1 y.2.2.2.2.2.2) n ⟨(s0,(Sl.n s0),(2 * (Sl.n s0) + bb true 1 0),s2,(Int.ofNat (Sl.n s2)),(0:Int),(zeroRow ([(zI (0:Int))]:LV) (Sl.n s0))),hm,(.k [1] [false] [.tmp 7 false] [1,7,19,20,21] ⟨trF h2,trivial⟩)⟩ (fun _=>rfl) ?_
  rintro w0 ⟨s3,n1,c1,s4,z0,z1,q1⟩ hm
  replace hm:b45_1 pu n (l45_1 pu n w0) s3 n1 c1 s4 z0 z1 q1 = some v:=hm
  unfold b45_1 at hm
  refine .then (.rK ?_)
  replace hm:=bb_inv hm;obtain ⟨h7,hm⟩:=hm
  refine .ghs (fr 35 [(1,Sl.v 1 s3),(7,sc 1 0 1 n1 c1),(19,Sl.v 1 s4),(20,zI z0),(21,zI z1),(22,(zB (ilt z1 z0)))]) (hT 2 [oC q1]) (.k [1] [false] [.tmp 7 false] [1,7,19,20,21,22] ⟨trF h7,trivial⟩) ?_
  refine .then ?_
  replace hm:=bb_cases hm;rcases hm with ⟨h8,hm⟩ | ⟨h8,hm⟩
  ·refine .ifT (ilt z1 z0) (by kernel_rfl) h8 ?_
   refine .skip ?_
   refine .ghs (fr 35 [(1,Sl.v 1 s3),(7,sc 1 0 1 n1 c1),(19,Sl.v 1 s4),(20,zI z0),(21,zI z1)]) (hT 2 [oC q1]) (.k [1] [false] [.tmp 7 false] [1,7,19,20,21] ⟨trF h7,trivial⟩) ?_
   refine .then ?_
   refine .block ?_
   refine .then ?_
   replace hm:=oo_inv hm;obtain ⟨k2,h9,hm⟩:=hm
   obtain rfl:=toN_some h9
   replace hm:=bb_inv hm;obtain ⟨h10,hm⟩:=hm
   replace hm:=oo_inv hm;obtain ⟨v2,h11,hm⟩:=hm
   replace hm:=inv_toI hm;obtain ⟨x1,rfl,hm⟩:=hm
   refine .reg (eC 1 (keep (hT 2 [oC q1]) (bb (an (Nat.blt k2 (Sl.n s4)) true) (some (fpV (k2 * 1) (Sl.cs s4))) none)) (keep_bb h10) (eD (keep (hT 2 [oC q1]) (nthL (Sl.cs s4) (k2 * 1))) (keep_eq h11) (eE))) ?_
   refine .ghs (fr 35 [(1,Sl.v 1 s3),(7,sc 1 0 1 n1 c1),(8,(zI (Int.ofNat k2))),(9,zI x1),(19,Sl.v 1 s4),(20,zI z0),(21,(zI (Int.ofNat k2)))]) (hT 2 [oC q1]) (.k [1] [false] [.tmp 7 false] [1,7,8,9,19,20,21] ⟨trF h7,trivial⟩) ?_
   replace hm:=oo_inv hm;obtain ⟨k3,h12,hm⟩:=hm
   obtain rfl:=toN_some h12
   replace hm:=bb_inv hm;obtain ⟨h13,hm⟩:=hm
   replace hm:=oo_inv hm;obtain ⟨v3,h14,hm⟩:=hm
   replace hm:=inv_toI hm;obtain ⟨x2,rfl,hm⟩:=hm
   replace hm:=bb_inv hm;obtain ⟨h15,hm⟩:=hm
   replace hm:=bb_inv hm;obtain ⟨h16,hm⟩:=hm
   refine .reg (eC 4 (keep (hT 2 [oC q1]) (bb (an (Nat.blt k3 (Sl.n s3)) true) (some (fpV (k3 * 1) (Sl.cs s3))) none)) (keep_bb h13) (eD (keep (hT 2 [oC q1]) (nthL (Sl.cs s3) (k3 * 1))) (keep_eq h14) (eD (keep (hT 2 [oC q1]) (bb (an (Nat.blt k2 n1) true) (some (.pointer (some ⟨1,(0 + k2 * 1),none⟩))) none)) (keep_bb h15) (eD (done (bb (an (Nat.ble ((0 + k2 * 1) + 1) (len q1)) true) (some (hT 2 [(oC (setL ([zI x2]:LV) (0 + k2 * 1) q1))])) none) undef) (done_bb h16) (eE))))) ?_
   replace hm:=bb_inv hm;obtain ⟨h17,hm⟩:=hm
   refine .ghs (fr 35 [(1,Sl.v 1 s3),(7,sc 1 0 1 n1 c1),(19,Sl.v 1 s4),(20,zI z0),(21,(zI (Int.ofNat k2)))]) (hT 2 [(oC (setL ([zI x2]:LV) (0 + k2 * 1) q1))]) (.k [1] [false] [.tmp 7 false] [1,7,19,20,21] ⟨trF h17,trivial⟩) ?_
   refine .rK ?_
   exact ⟨(s3,n1,c1,s4,z0,(wrapF .i64 (Int.add (Int.ofNat k2) (1:Int))),(setL ([zI x2]:LV) (0 + k2 * 1) q1)),hm,(.k [1] [false] [.tmp 7 false] [1,7,19,20,21] ⟨trF h17,trivial⟩)⟩
  ·refine .ifF (ilt z1 z0) (by kernel_rfl) h8 ?_
   refine .exit ?_
   exact ⟨(n1,c1,q1),hm,(.k [1] [false] [.tmp 7 false] [7] ⟨trF h7,trivial⟩)⟩
end
end Go.BkXM
