/- Made from wip. -/
import Derived.Test.YtokbaaeimejjlaaGreatDoorBkXMod1x

set_option maxRecDepth 100000
set_option maxHeartbeats 20000000
set_option linter.unusedVariables false
namespace Go.BkXM
open Go.Sp Go.BkX
noncomputable section
def m46_1 (pu:PureF) (n:Nat) (z0:Int):OV:=
 (some (.int .i64 z0))
def m46_4 (pu:PureF) (n:Nat) (ih0:Sl→Int→Int→Int→Int→Int→Sl→OV) (s0:Sl) (z0 z1 z2 z3 z4:Int) (s1:Sl):OV:=
 (ih0 s0 z0 (wrapF .i64 (Int.add z1 (1:Int))) z2 z3 z4 s1)
def m46_3 (pu:PureF) (n:Nat) (ih0:Sl→Int→Int→Int→Int→Int→Sl→OV) (s0:Sl) (z0 z1:Int) (b0:Bool) (z2 z3 z4:Int) (s1:Sl):OV:=
 (bb b0 (oo (toN z1) none fun k1=>(bb (an (Nat.blt k1 (Sl.n s0)) true) (oo (nthL (Sl.cs s0) (k1 * 1)) none fun v0=>(oo (toI .i64 v0) none fun x0=>(oo (pu 62 [.int .i64 x0,(.int .i64 (0:Int)),(.int .i64 (wrapF .i64 (Int.sub z4 (1:Int))))]) none fun v1=>(oo (vBool v1) none fun b1=>(bb (nt b1) (m46_4 pu n ih0 s0 (1:Int) (Int.ofNat k1) z2 z3 z4 s1) (m46_4 pu n ih0 s0 z0 (Int.ofNat k1) z2 z3 z4 s1)))))) none)) (m46_1 pu n z0))
def b46_2 (pu:PureF) (n:Nat) (ih0:Sl→Int→Int→Int→Int→Int→Sl→OV) (s0:Sl) (z0 z1 z2 z3 z4:Int) (s1:Sl):OV:=
 (bb (ilt z1 (Int.ofNat (Sl.n s0))) (m46_3 pu n ih0 s0 z0 z1 (ieq z0 (0:Int)) z2 z3 z4 s1) (m46_3 pu n ih0 s0 z0 z1 false z2 z3 z4 s1))
def l46_2 (pu:PureF) (n w:Nat):Sl→Int→Int→Int→Int→Int→Sl→OV:=
 Nat.rec (motive:=fun _=>Sl→Int→Int→Int→Int→Int→Sl→OV) (fun _ _ _ _ _ _ _=>none) (fun _ ih0=>b46_2 pu n ih0) w
def m46_0 (pu:PureF) (n:Nat) (s0:Sl) (z0 z1 z2 z3:Int) (s1:Sl):OV:=
 (l46_2 pu n n s0 z0 (0:Int) z1 z2 z3 s1)
def m46_5 (pu:PureF) (n:Nat) (s0:Sl) (z0:Int) (b0:Bool) (z1 z2 z3:Int) (s1:Sl):OV:=
 (bb b0 (m46_0 pu n s0 (5:Int) z1 z2 z3 s1) (m46_0 pu n s0 z0 z1 z2 z3 s1))
def m46_ (pu:PureF) (n:Nat) (x0 x1 x2:Int) (s0 s1:Sl):OV:=
 (oo (pu 36 [(.agg ⟨[.int .i64 x0,.int .i64 x1,.int .i64 x2,Sl.v 1 s0]⟩)]) none fun v0=>(oo (toI .i64 v0) none fun x3=>(bb (ieq x3 (0:Int)) (m46_5 pu n s1 x3 (nt (ieq (Int.ofNat (Sl.n s1)) (wrapF .i64 (Int.mul x0 x1)))) x0 x1 x2 s0) (m46_5 pu n s1 x3 false x0 x1 x2 s0))))
def m46 (pu:PureF) (n:Nat) (args:LV):OV:=
 (ll args none fun a0 args=>(ll args none fun a1 args=>(ll args (oo (vAgg a0) none fun l0=>(ll l0 none fun v0 l0=>(ll l0 none fun v1 l0=>(ll l0 none fun v2 l0=>(ll l0 none fun v3 l0=>(ll l0 (oo (toI .i64 v0) none fun x0=>(oo (toI .i64 v1) none fun x1=>(oo (toI .i64 v2) none fun x2=>(oo (toSl 1 v3) none fun s0=>(oo (toSl 1 a1) none fun s1=>(m46_ pu n x0 x1 x2 s0 s1)))))) fun _ _=>none)))))) fun _ _=>none)))
theorem w46_1 (pu:PureF) (n:Nat) (z0:Int) {v:Value} (hm:m46_1 pu n z0 = some v):Run tt (callP tabs isP pu (inl pu)) 1 c46_22 (fr 41 [(5,zI z0)]) (hp 1 [(oT tab0)]) (Fin tt 1 [.tmp 4] v):=by
 unfold m46_1 at hm
 refine .then (.rK ?_)
 refine .ghs (fr 41 [(4,zI z0)]) (hp 1 [(oT tab0)]) (.k0 [false] [] [4]) ?_
 refine .ret ?_
 exact fin_ret (zI z0) (by kernel_rfl) (by kernel_rfl) hm
theorem w46_0 (pu:PureF) (n:Nat) (s0:Sl) (z0 z1 z2 z3:Int) (s1:Sl) {v:Value} (hm:m46_0 pu n s0 z0 z1 z2 z3 s1 = some v):Run tt (callP tabs isP pu (inl pu)) 1 c46_23 (fr 41 [(1,Sl.v 1 s0),(2,pt 1 0),(5,zI z0)]) (hT 2 [(oC [zI z1,zI z2,zI z3,Sl.v 1 s1])]) (Fin tt 1 [.tmp 4] v):=by
 unfold m46_0 at hm
 refine .join (v:=v) (fun y:Int=>((fr 41 [(5,zI y)]),(hp 1 [(oT tab0)]))) (fun y=>m46_1 pu n y) ?_ ?_
 ·rintro z4 hm
  exact w46_1 pu n z4 hm
 ·refine .then (.rK ?_)
  refine .ghs (fr 41 [(1,Sl.v 1 s0),(2,pt 1 0),(5,zI z0),(6,(zI (0:Int)))]) (hT 2 [(oC [zI z1,zI z2,zI z3,Sl.v 1 s1])]) (.k0 [false] [.tmp 2 false] [1,2,5,6]) ?_
  refine .block ?_
  refine .loopM (v:=v) (fun y:Sl×Int×Int×Int×Int×Int×Sl=>((fr 41 [(1,(Sl.v 1 y.1)),(2,pt 1 0),(5,(zI y.2.1)),(6,(zI y.2.2.1))]),(hT 2 [(oC [(zI y.2.2.2.1),(zI y.2.2.2.2.1),(zI y.2.2.2.2.2.1),(Sl.v 1 y.2.2.2.2.2.2)])]))) (fun w y=>l46_2 pu n w y.1 y.2.1 y.2.2.1 y.2.2.2.1 y.2.2.2.2.1 y.2.2.2.2.2.1 y.2.2.2.2.2.2) n ⟨(s0,z0,(0:Int),z1,z2,z3,s1),hm,(.k0 [false] [.tmp 2 false] [1,2,5,6])⟩ (fun _=>rfl) ?_
  rintro w0 ⟨s2,z5,z6,z7,z8,z9,s3⟩ hm
  replace hm:b46_2 pu n (l46_2 pu n w0) s2 z5 z6 z7 z8 z9 s3 = some v:=hm
  unfold b46_2 at hm
  refine .then ?_
  refine .join (v:=v) (fun y:Sl×Int×Int×Bool×Int×Int×Int×Sl=>((fr 41 [(1,(Sl.v 1 y.1)),(2,pt 1 0),(5,(zI y.2.1)),(6,(zI y.2.2.1)),(28,(zB y.2.2.2.1))]),(hT 2 [(oC [(zI y.2.2.2.2.1),(zI y.2.2.2.2.2.1),(zI y.2.2.2.2.2.2.1),(Sl.v 1 y.2.2.2.2.2.2.2)])]))) (fun y=>m46_3 pu n (l46_2 pu n w0) y.1 y.2.1 y.2.2.1 y.2.2.2.1 y.2.2.2.2.1 y.2.2.2.2.2.1 y.2.2.2.2.2.2.1 y.2.2.2.2.2.2.2) ?_ ?_
  ·rintro ⟨s4, z10, z11, b0, z12, z13, z14, s5⟩ hm
   unfold m46_3 at hm
   replace hm:=bb_cases hm;rcases hm with ⟨h0,hm⟩ | ⟨h0,hm⟩
   ·refine .ifT b0 (by kernel_rfl) h0 ?_
    refine .skip ?_
    refine .ghs (fr 41 [(1,Sl.v 1 s4),(2,pt 1 0),(5,zI z10),(6,zI z11)]) (hT 2 [(oC [zI z12,zI z13,zI z14,Sl.v 1 s5])]) (.k0 [false] [.tmp 2 false] [1,2,5,6]) ?_
    refine .join (v:=v) (fun y:Sl×Int×Int×Int×Int×Int×Sl=>((fr 41 [(1,(Sl.v 1 y.1)),(2,pt 1 0),(5,(zI y.2.1)),(6,(zI y.2.2.1))]),(hT 2 [(oC [(zI y.2.2.2.1),(zI y.2.2.2.2.1),(zI y.2.2.2.2.2.1),(Sl.v 1 y.2.2.2.2.2.2)])]))) (fun y=>m46_4 pu n (l46_2 pu n w0) y.1 y.2.1 y.2.2.1 y.2.2.2.1 y.2.2.2.2.1 y.2.2.2.2.2.1 y.2.2.2.2.2.2) ?_ ?_
    ·rintro ⟨s6, z15, z16, z17, z18, z19, s7⟩ hm
     unfold m46_4 at hm
     refine .rK ?_
     exact ⟨(s6,z15,(wrapF .i64 (Int.add z16 (1:Int))),z17,z18,z19,s7),hm,(.k0 [false] [.tmp 2 false] [1,2,5,6])⟩
    ·refine .block ?_
     refine .then ?_
     replace hm:=oo_inv hm;obtain ⟨k1,h1,hm⟩:=hm
     obtain rfl:=toN_some h1
     replace hm:=bb_inv hm;obtain ⟨h2,hm⟩:=hm
     replace hm:=oo_inv hm;obtain ⟨v0,h3,hm⟩:=hm
     replace hm:=inv_toI hm;obtain ⟨x0,rfl,hm⟩:=hm
     replace hm:=oo_inv hm;obtain ⟨v1,h4,hm⟩:=hm
     replace hm:=inv_vBool hm;obtain ⟨b1,rfl,hm⟩:=hm
     refine .reg (eC 2 (keep (hT 2 [(oC [zI z12,zI z13,zI z14,Sl.v 1 s5])]) (bb (an (Nat.blt k1 (Sl.n s4)) true) (some (fpV (k1 * 1) (Sl.cs s4))) none)) (keep_bb h2) (eD (keep (hT 2 [(oC [zI z12,zI z13,zI z14,Sl.v 1 s5])]) (nthL (Sl.cs s4) (k1 * 1))) (keep_eq h3) (eC 3 ((oo (pu 62 [zI x0,(zI (0:Int)),(zI (wrapF .i64 (Int.sub z14 (1:Int))))]) none fun v=>some (v,(hT 2 [(oC [zI z12,zI z13,zI z14,Sl.v 1 s5])])))) (call_eq h4) (eE)))) ?_
     refine .ghs (fr 41 [(1,Sl.v 1 s4),(2,pt 1 0),(5,zI z10),(6,(zI (Int.ofNat k1))),(39,(zB (nt b1)))]) (hT 2 [(oC [zI z12,zI z13,zI z14,Sl.v 1 s5])]) (.k0 [false] [.tmp 2 false] [1,2,5,6,39]) ?_
     replace hm:=bb_cases hm;rcases hm with ⟨h5,hm⟩ | ⟨h5,hm⟩
     ·refine .ifT (nt b1) (by kernel_rfl) h5 ?_
      refine .rK ?_
      exact ⟨(s4,(1:Int),(Int.ofNat k1),z12,z13,z14,s5),hm,(.k0 [false] [.tmp 2 false] [1,2,5,6])⟩
     ·refine .ifF (nt b1) (by kernel_rfl) h5 ?_
      refine .skip ?_
      exact ⟨(s4,z10,(Int.ofNat k1),z12,z13,z14,s5),hm,(.k0 [false] [.tmp 2 false] [1,2,5,6])⟩
   ·refine .ifF b0 (by kernel_rfl) h0 ?_
    refine .exit ?_
    exact ⟨z10,hm,(.k0 [false] [] [5])⟩
  ·replace hm := bb_cases hm; rcases hm with ⟨h6, hm⟩ | ⟨h6, hm⟩
   ·refine .reg (eC 3 (some ((zB (ilt z6 (Int.ofNat (Sl.n s2)))), (hT 2 [(oC [zI z7, zI z8, zI z9, Sl.v 1 s3])]))) (show _ = some ((zB true), _) from (by rw [show (ilt z6 (Int.ofNat (Sl.n s2))) = true from h6])) (eE)) ?_
    exact ⟨(s2,z5,z6,(ieq z5 (0:Int)),z7,z8,z9,s3),hm,(.k0 [false] [.tmp 2 false] [1,2,5,6,28])⟩
   ·refine .reg (eC 3 (some ((zB (ilt z6 (Int.ofNat (Sl.n s2)))), (hT 2 [(oC [zI z7, zI z8, zI z9, Sl.v 1 s3])]))) (show _ = some ((zB false), _) from (by rw [show (ilt z6 (Int.ofNat (Sl.n s2))) = false from h6])) (eE)) ?_
    exact ⟨(s2,z5,z6,false,z7,z8,z9,s3),hm,(.k0 [false] [.tmp 2 false] [1,2,5,6,28])⟩
theorem r46 {call:CallF} (pu:PureF) (n:Nat) (hcall:call = callP tabs isP pu (inl pu)) {args:LV} {v:Value} (hm:m46 pu n args = some v) (_:∀ x ∈ args,closed2 x = true):args.length≤41∧Run tt call 1 c46_26 (Fr.made 41 args) (pureHeap tabs) (Fin tt 1 [.tmp 4] v):=by
 subst hcall
 unfold m46 at hm
 replace hm:=ll_uncons hm;obtain ⟨a0,args_0,rfl,hm⟩:=hm
 replace hm:=ll_uncons hm;obtain ⟨a1,args_1,rfl,hm⟩:=hm
 replace hm:=ll_end hm;obtain ⟨rfl,hm⟩:=hm
 replace hm:=inv_vAgg hm;obtain ⟨l0,rfl,hm⟩:=hm
 replace hm:=ll_uncons hm;obtain ⟨v0,l4182_0,rfl,hm⟩:=hm
 replace hm:=ll_uncons hm;obtain ⟨v1,l4182_1,rfl,hm⟩:=hm
 replace hm:=ll_uncons hm;obtain ⟨v2,l4182_2,rfl,hm⟩:=hm
 replace hm:=ll_uncons hm;obtain ⟨v3,l4182_3,rfl,hm⟩:=hm
 replace hm:=ll_end hm;obtain ⟨rfl,hm⟩:=hm
 replace hm:=inv_toI hm;obtain ⟨x0,rfl,hm⟩:=hm
 replace hm:=inv_toI hm;obtain ⟨x1,rfl,hm⟩:=hm
 replace hm:=inv_toI hm;obtain ⟨x2,rfl,hm⟩:=hm
 replace hm:=inv_toSl hm;obtain ⟨s0,rfl,hm⟩:=hm
 replace hm:=inv_toSl hm;obtain ⟨s1,rfl,hm⟩:=hm
 unfold m46_ at hm
 refine ⟨by simp,?_⟩
 refine .same (F':=(fr 41 [(0,(.agg ⟨[zI x0,zI x1,zI x2,Sl.v 1 s0]⟩)),(1,Sl.v 1 s1)])) (H':=(hp 1 [(oT tab0)])) (by kernel_rfl) (by kernel_rfl) ?_
 refine .then (.rK ?_)
 refine .ghs (fr 41 [(1,Sl.v 1 s1),(2,pt 1 0)]) (hT 2 [(oC [zI x0,zI x1,zI x2,Sl.v 1 s0])]) (.k0 [false] [.tmp 2 false] [1,2]) ?_
 refine .then ?_
 replace hm:=oo_inv hm;obtain ⟨v4,h0,hm⟩:=hm
 replace hm:=inv_toI hm;obtain ⟨x3,rfl,hm⟩:=hm
 refine .reg (eC 1 ((oo (pu 36 [(.agg ⟨[zI x0,zI x1,zI x2,Sl.v 1 s0]⟩)]) none fun v=>some (v,(hT 2 [(oC [zI x0,zI x1,zI x2,Sl.v 1 s0])])))) (call_eq h0) (eE)) ?_
 refine .ghs (fr 41 [(1,Sl.v 1 s1),(2,pt 1 0),(5,zI x3)]) (hT 2 [(oC [zI x0,zI x1,zI x2,Sl.v 1 s0])]) (.k0 [false] [.tmp 2 false] [1,2,5]) ?_
 refine .join (v:=v) (fun y:Sl×Int×Int×Int×Int×Sl=>((fr 41 [(1,(Sl.v 1 y.1)),(2,pt 1 0),(5,(zI y.2.1))]),(hT 2 [(oC [(zI y.2.2.1),(zI y.2.2.2.1),(zI y.2.2.2.2.1),(Sl.v 1 y.2.2.2.2.2)])]))) (fun y=>m46_0 pu n y.1 y.2.1 y.2.2.1 y.2.2.2.1 y.2.2.2.2.1 y.2.2.2.2.2) ?_ ?_
 ·rintro ⟨s2, z0, z1, z2, z3, s3⟩ hm
  exact w46_0 pu n s2 z0 z1 z2 z3 s3 hm
 ·refine .join (v := v) (fun y : Sl × Int × Bool × Int × Int × Int × Sl => ((fr 41 [(1, (Sl.v 1 y.1)), (2, pt 1 0), (5, (zI y.2.1)), (20, (zB y.2.2.1))]), (hT 2 [(oC [(zI y.2.2.2.1), (zI y.2.2.2.2.1), (zI y.2.2.2.2.2.1), (Sl.v 1 y.2.2.2.2.2.2)])]))) (fun y => m46_5 pu n y.1 y.2.1 y.2.2.1 y.2.2.2.1 y.2.2.2.2.1 y.2.2.2.2.2.1 y.2.2.2.2.2.2) ?_ ?_
  ·rintro ⟨s4, z4, b0, z5, z6, z7, s5⟩ hm
   unfold m46_5 at hm
   replace hm:=bb_cases hm;rcases hm with ⟨h1,hm⟩ | ⟨h1,hm⟩
   ·refine .ifT b0 (by kernel_rfl) h1 ?_
    refine .rK ?_
    exact ⟨(s4,(5:Int),z5,z6,z7,s5),hm,(.k0 [false] [.tmp 2 false] [1,2,5])⟩
   ·refine .ifF b0 (by kernel_rfl) h1 ?_
    refine .skip ?_
    exact ⟨(s4,z4,z5,z6,z7,s5),hm,(.k0 [false] [.tmp 2 false] [1,2,5])⟩
  ·replace hm := bb_cases hm; rcases hm with ⟨h2, hm⟩ | ⟨h2, hm⟩
   ·refine .reg (eC 1 (some ((zB (ieq x3 (0 : Int))), (hT 2 [(oC [zI x0, zI x1, zI x2, Sl.v 1 s0])]))) (show _ = some ((zB true), _) from (by rw [show (ieq x3 (0 : Int)) = true from h2])) (eE)) ?_
    exact ⟨(s1,x3,(nt (ieq (Int.ofNat (Sl.n s1)) (wrapF .i64 (Int.mul x0 x1)))),x0,x1,x2,s0),hm,(.k0 [false] [.tmp 2 false] [1,2,5,20])⟩
   ·refine .reg (eC 1 (some ((zB (ieq x3 (0 : Int))), (hT 2 [(oC [zI x0, zI x1, zI x2, Sl.v 1 s0])]))) (show _ = some ((zB false), _) from (by rw [show (ieq x3 (0 : Int)) = false from h2])) (eE)) ?_
    exact ⟨(s1,x3,false,x0,x1,x2,s0),hm,(.k0 [false] [.tmp 2 false] [1,2,5,20])⟩
def m47_0 (pu:PureF) (n:Nat):OV:=
 (some (.bool false))
def b47_1 (pu:PureF) (n:Nat) (ih0:Sl→Int→Int→OV) (s0:Sl) (z0 z1:Int):OV:=
 (bb (ilt z1 (Int.ofNat (Sl.n s0))) (oo (toN z1) none fun k1=>(bb (an (Nat.blt k1 (Sl.n s0)) true) (oo (nthL (Sl.cs s0) (k1 * 1)) none fun v0=>(oo (toI .i64 v0) none fun x0=>(bb (ieq x0 z0) (some (.bool true)) (ih0 s0 z0 (wrapF .i64 (Int.add (Int.ofNat k1) (1:Int))))))) none)) (m47_0 pu n))
def l47_1 (pu:PureF) (n w:Nat):Sl→Int→Int→OV:=
 Nat.rec (motive:=fun _=>Sl→Int→Int→OV) (fun _ _ _=>none) (fun _ ih0=>b47_1 pu n ih0) w
def m47_ (pu:PureF) (n:Nat) (s0:Sl) (x0:Int):OV:=
 (l47_1 pu n n s0 x0 (0:Int))
def m47 (pu:PureF) (n:Nat) (args:LV):OV:=
 (ll args none fun a0 args=>(ll args none fun a1 args=>(ll args (oo (toSl 1 a0) none fun s0=>(oo (toI .i64 a1) none fun x0=>(m47_ pu n s0 x0))) fun _ _=>none)))
theorem w47_0 (pu:PureF) (n:Nat) {v:Value} (hm:m47_0 pu n = some v):Run tt (callP tabs isP pu (inl pu)) 1 c47_18 (fr 18 []) (hp 1 [(oT tab0)]) (Fin tt 1 [.tmp 4] v):=by
 unfold m47_0 at hm
 refine .then (.rK ?_)
 refine .ghs (fr 18 [(4,zB false)]) (hp 1 [(oT tab0)]) (.k0 [false] [] [4]) ?_
 refine .ret ?_
 exact fin_ret (zB false) (by kernel_rfl) (by kernel_rfl) hm
theorem r47 {call:CallF} (pu:PureF) (n:Nat) (hcall:call = callP tabs isP pu (inl pu)) {args:LV} {v:Value} (hm:m47 pu n args = some v) (_:∀ x ∈ args,closed2 x = true):args.length≤18∧Run tt call 1 c47_20 (Fr.made 18 args) (pureHeap tabs) (Fin tt 1 [.tmp 4] v):=by
 subst hcall
 unfold m47 at hm
 replace hm:=ll_uncons hm;obtain ⟨a0,args_0,rfl,hm⟩:=hm
 replace hm:=ll_uncons hm;obtain ⟨a1,args_1,rfl,hm⟩:=hm
 replace hm:=ll_end hm;obtain ⟨rfl,hm⟩:=hm
 replace hm:=inv_toSl hm;obtain ⟨s0,rfl,hm⟩:=hm
 replace hm:=inv_toI hm;obtain ⟨x0,rfl,hm⟩:=hm
 unfold m47_ at hm
 refine ⟨by simp,?_⟩
 refine .same (F':=(fr 18 [(0,Sl.v 1 s0),(1,zI x0)])) (H':=(hp 1 [(oT tab0)])) (by kernel_rfl) (by kernel_rfl) ?_
 refine .then (.rK ?_)
 refine .ghs (fr 18 [(0,Sl.v 1 s0),(1,zI x0)]) (hp 1 [(oT tab0)]) (.k0 [false] [] [0,1]) ?_
 refine .join (v:=v) (fun y:Unit=>((fr 18 []),(hp 1 [(oT tab0)]))) (fun y=>m47_0 pu n) ?_ ?_
 ·rintro _ hm
  exact w47_0 pu n hm
 ·refine .then (.rK ?_)
  refine .ghs (fr 18 [(0,Sl.v 1 s0),(1,zI x0),(5,(zI (0:Int)))]) (hp 1 [(oT tab0)]) (.k0 [false] [] [0,1,5]) ?_
  refine .block ?_
  refine .loopM (v:=v) (fun y:Sl×Int×Int=>((fr 18 [(0,(Sl.v 1 y.1)),(1,(zI y.2.1)),(5,(zI y.2.2))]),(hp 1 [(oT tab0)]))) (fun w y=>l47_1 pu n w y.1 y.2.1 y.2.2) n ⟨(s0,x0,(0:Int)),hm,(.k0 [false] [] [0,1,5])⟩ (fun _=>rfl) ?_
  rintro w0 ⟨s1,z0,z1⟩ hm
  replace hm:b47_1 pu n (l47_1 pu n w0) s1 z0 z1 = some v:=hm
  unfold b47_1 at hm
  refine .then ?_
  refine .then (.rK ?_)
  refine .ghs (fr 18 [(0,Sl.v 1 s1),(1,zI z0),(5,zI z1),(9,(zB (ilt z1 (Int.ofNat (Sl.n s1)))))]) (hp 1 [(oT tab0)]) (.k0 [false] [] [0,1,5,9]) ?_
  replace hm:=bb_cases hm;rcases hm with ⟨h0,hm⟩ | ⟨h0,hm⟩
  ·refine .ifT (ilt z1 (Int.ofNat (Sl.n s1))) (by kernel_rfl) h0 ?_
   refine .skip ?_
   refine .ghs (fr 18 [(0,Sl.v 1 s1),(1,zI z0),(5,zI z1)]) (hp 1 [(oT tab0)]) (.k0 [false] [] [0,1,5]) ?_
   refine .then ?_
   refine .block ?_
   refine .then ?_
   replace hm:=oo_inv hm;obtain ⟨k1,h1,hm⟩:=hm
   obtain rfl:=toN_some h1
   replace hm:=bb_inv hm;obtain ⟨h2,hm⟩:=hm
   replace hm:=oo_inv hm;obtain ⟨v0,h3,hm⟩:=hm
   replace hm:=inv_toI hm;obtain ⟨x1,rfl,hm⟩:=hm
   refine .reg (eC 2 (keep (hp 1 [(oT tab0)]) (bb (an (Nat.blt k1 (Sl.n s1)) true) (some (fpV (k1 * 1) (Sl.cs s1))) none)) (keep_bb h2) (eD (keep (hp 1 [(oT tab0)]) (nthL (Sl.cs s1) (k1 * 1))) (keep_eq h3) (eE))) ?_
   refine .ghs (fr 18 [(0,Sl.v 1 s1),(1,zI z0),(5,(zI (Int.ofNat k1))),(17,(zB (ieq x1 z0)))]) (hp 1 [(oT tab0)]) (.k0 [false] [] [0,1,5,17]) ?_
   replace hm:=bb_cases hm;rcases hm with ⟨h4,hm⟩ | ⟨h4,hm⟩
   ·refine .ifT (ieq x1 z0) (by kernel_rfl) h4 ?_
    refine .then (.rK ?_)
    refine .ghs (fr 18 [(4,zB true)]) (hp 1 [(oT tab0)]) (.k0 [false] [] [4]) ?_
    refine .ret ?_
    exact fin_ret (zB true) (by kernel_rfl) (by kernel_rfl) hm
   ·refine .ifF (ieq x1 z0) (by kernel_rfl) h4 ?_
    refine .skip ?_
    refine .ghs (fr 18 [(0,Sl.v 1 s1),(1,zI z0),(5,(zI (Int.ofNat k1)))]) (hp 1 [(oT tab0)]) (.k0 [false] [] [0,1,5]) ?_
    refine .rK ?_
    exact ⟨(s1,z0,(wrapF .i64 (Int.add (Int.ofNat k1) (1:Int)))),hm,(.k0 [false] [] [0,1,5])⟩
  ·refine .ifF (ilt z1 (Int.ofNat (Sl.n s1))) (by kernel_rfl) h0 ?_
   refine .exit ?_
   exact ⟨(),hm,(.k0 [false] [] [])⟩
def m49_0 (pu:PureF) (n:Nat):OV:=
 (some (.bool true))
def b49_1 (pu:PureF) (n:Nat) (ih0:Sl→Sl→Int→Int→OV) (s0 s1:Sl) (z0 z1:Int):OV:=
 (bb (ilt z1 z0) (oo (toN z1) none fun k1=>(bb (an (Nat.blt k1 (Sl.n s0)) true) (oo (nthL (Sl.cs s0) (k1 * 1)) none fun v0=>(oo (toI .i64 v0) none fun x0=>(bb (an (Nat.blt k1 (Sl.n s1)) true) (oo (nthL (Sl.cs s1) (k1 * 1)) none fun v1=>(oo (toI .i64 v1) none fun x1=>(bb (nt (ieq x0 x1)) (some (.bool false)) (ih0 s0 s1 z0 (wrapF .i64 (Int.add (Int.ofNat k1) (1:Int))))))) none))) none)) (m49_0 pu n))
def l49_1 (pu:PureF) (n w:Nat):Sl→Sl→Int→Int→OV:=
 Nat.rec (motive:=fun _=>Sl→Sl→Int→Int→OV) (fun _ _ _ _=>none) (fun _ ih0=>b49_1 pu n ih0) w
def m49_ (pu:PureF) (n:Nat) (s0 s1:Sl):OV:=
 (bb (nt (ieq (Int.ofNat (Sl.n s0)) (Int.ofNat (Sl.n s1)))) (some (.bool false)) (l49_1 pu n n s0 s1 (Int.ofNat (Sl.n s0)) (0:Int)))
def m49 (pu:PureF) (n:Nat) (args:LV):OV:=
 (ll args none fun a0 args=>(ll args none fun a1 args=>(ll args (oo (toSl 1 a0) none fun s0=>(oo (toSl 1 a1) none fun s1=>(m49_ pu n s0 s1))) fun _ _=>none)))
theorem w49_0 (pu:PureF) (n:Nat) {v:Value} (hm:m49_0 pu n = some v):Run tt (callP tabs isP pu (inl pu)) 1 c49_25 (fr 26 []) (hp 1 [(oT tab0)]) (Fin tt 1 [.tmp 4] v):=by
 unfold m49_0 at hm
 refine .then (.rK ?_)
 refine .ghs (fr 26 [(4,zB true)]) (hp 1 [(oT tab0)]) (.k0 [false] [] [4]) ?_
 refine .ret ?_
 exact fin_ret (zB true) (by kernel_rfl) (by kernel_rfl) hm
theorem r49 {call:CallF} (pu:PureF) (n:Nat) (hcall:call = callP tabs isP pu (inl pu)) {args:LV} {v:Value} (hm:m49 pu n args = some v) (_:∀ x ∈ args,closed2 x = true):args.length≤26∧Run tt call 1 c49_28 (Fr.made 26 args) (pureHeap tabs) (Fin tt 1 [.tmp 4] v):=by
 subst hcall
 unfold m49 at hm
 replace hm:=ll_uncons hm;obtain ⟨a0,args_0,rfl,hm⟩:=hm
 replace hm:=ll_uncons hm;obtain ⟨a1,args_1,rfl,hm⟩:=hm
 replace hm:=ll_end hm;obtain ⟨rfl,hm⟩:=hm
 replace hm:=inv_toSl hm;obtain ⟨s0,rfl,hm⟩:=hm
 replace hm:=inv_toSl hm;obtain ⟨s1,rfl,hm⟩:=hm
 unfold m49_ at hm
 refine ⟨by simp,?_⟩
 refine .same (F':=(fr 26 [(0,Sl.v 1 s0),(1,Sl.v 1 s1)])) (H':=(hp 1 [(oT tab0)])) (by kernel_rfl) (by kernel_rfl) ?_
 refine .then (.rK ?_)
 refine .ghs (fr 26 [(0,Sl.v 1 s0),(1,Sl.v 1 s1)]) (hp 1 [(oT tab0)]) (.k0 [false] [] [0,1]) ?_
 refine .then ?_
 refine .then (.rK ?_)
 refine .ghs (fr 26 [(0,Sl.v 1 s0),(1,Sl.v 1 s1),(10,(zB (nt (ieq (Int.ofNat (Sl.n s0)) (Int.ofNat (Sl.n s1))))))]) (hp 1 [(oT tab0)]) (.k0 [false] [] [0,1,10]) ?_
 replace hm:=bb_cases hm;rcases hm with ⟨h0,hm⟩ | ⟨h0,hm⟩
 ·refine .ifT (nt (ieq (Int.ofNat (Sl.n s0)) (Int.ofNat (Sl.n s1)))) (by kernel_rfl) h0 ?_
  refine .then (.rK ?_)
  refine .ghs (fr 26 [(4,zB false)]) (hp 1 [(oT tab0)]) (.k0 [false] [] [4]) ?_
  refine .ret ?_
  exact fin_ret (zB false) (by kernel_rfl) (by kernel_rfl) hm
 ·refine .ifF (nt (ieq (Int.ofNat (Sl.n s0)) (Int.ofNat (Sl.n s1)))) (by kernel_rfl) h0 ?_
  refine .skip ?_
  refine .ghs (fr 26 [(0,Sl.v 1 s0),(1,Sl.v 1 s1)]) (hp 1 [(oT tab0)]) (.k0 [false] [] [0,1]) ?_
  refine .join (v:=v) (fun y:Unit=>((fr 26 []),(hp 1 [(oT tab0)]))) (fun y=>m49_0 pu n) ?_ ?_
  ·rintro _ hm
   exact w49_0 pu n hm
  ·refine .then (.rK ?_)
   refine .ghs (fr 26 [(0,Sl.v 1 s0),(1,Sl.v 1 s1),(12,(zI (Int.ofNat (Sl.n s0)))),(13,(zI (0:Int)))]) (hp 1 [(oT tab0)]) (.k0 [false] [] [0,1,12,13]) ?_
   refine .block ?_
   refine .loopM (v:=v) (fun y:Sl×Sl×Int×Int=>((fr 26 [(0,(Sl.v 1 y.1)),(1,(Sl.v 1 y.2.1)),(12,(zI y.2.2.1)),(13,(zI y.2.2.2))]),(hp 1 [(oT tab0)]))) (fun w y=>l49_1 pu n w y.1 y.2.1 y.2.2.1 y.2.2.2) n ⟨(s0,s1,(Int.ofNat (Sl.n s0)),(0:Int)),hm,(.k0 [false] [] [0,1,12,13])⟩ (fun _=>rfl) ?_
   rintro w0 ⟨s2,s3,z0,z1⟩ hm
   replace hm:b49_1 pu n (l49_1 pu n w0) s2 s3 z0 z1 = some v:=hm
   unfold b49_1 at hm
   refine .then (.rK ?_)
   refine .ghs (fr 26 [(0,Sl.v 1 s2),(1,Sl.v 1 s3),(12,zI z0),(13,zI z1),(14,(zB (ilt z1 z0)))]) (hp 1 [(oT tab0)]) (.k0 [false] [] [0,1,12,13,14]) ?_
   refine .then ?_
   replace hm:=bb_cases hm;rcases hm with ⟨h1,hm⟩ | ⟨h1,hm⟩
   ·refine .ifT (ilt z1 z0) (by kernel_rfl) h1 ?_
    refine .skip ?_
    refine .ghs (fr 26 [(0,Sl.v 1 s2),(1,Sl.v 1 s3),(12,zI z0),(13,zI z1)]) (hp 1 [(oT tab0)]) (.k0 [false] [] [0,1,12,13]) ?_
    refine .then ?_
    refine .block ?_
    refine .then (.rK ?_)
    refine .ghs (fr 26 [(0,Sl.v 1 s2),(1,Sl.v 1 s3),(5,zI z1),(12,zI z0),(13,zI z1)]) (hp 1 [(oT tab0)]) (.k0 [false] [] [0,1,5,12,13]) ?_
    refine .then ?_
    replace hm:=oo_inv hm;obtain ⟨k1,h2,hm⟩:=hm
    obtain rfl:=toN_some h2
    replace hm:=bb_inv hm;obtain ⟨h3,hm⟩:=hm
    replace hm:=oo_inv hm;obtain ⟨v0,h4,hm⟩:=hm
    replace hm:=inv_toI hm;obtain ⟨x0,rfl,hm⟩:=hm
    replace hm:=bb_inv hm;obtain ⟨h5,hm⟩:=hm
    replace hm:=oo_inv hm;obtain ⟨v1,h6,hm⟩:=hm
    replace hm:=inv_toI hm;obtain ⟨x1,rfl,hm⟩:=hm
    refine .reg (eC 2 (keep (hp 1 [(oT tab0)]) (bb (an (Nat.blt k1 (Sl.n s2)) true) (some (fpV (k1 * 1) (Sl.cs s2))) none)) (keep_bb h3) (eD (keep (hp 1 [(oT tab0)]) (nthL (Sl.cs s2) (k1 * 1))) (keep_eq h4) (eC 2 (keep (hp 1 [(oT tab0)]) (bb (an (Nat.blt k1 (Sl.n s3)) true) (some (fpV (k1 * 1) (Sl.cs s3))) none)) (keep_bb h5) (eD (keep (hp 1 [(oT tab0)]) (nthL (Sl.cs s3) (k1 * 1))) (keep_eq h6) (eE))))) ?_
    refine .ghs (fr 26 [(0,Sl.v 1 s2),(1,Sl.v 1 s3),(12,zI z0),(13,(zI (Int.ofNat k1))),(24,(zB (nt (ieq x0 x1))))]) (hp 1 [(oT tab0)]) (.k0 [false] [] [0,1,12,13,24]) ?_
    replace hm:=bb_cases hm;rcases hm with ⟨h7,hm⟩ | ⟨h7,hm⟩
    ·refine .ifT (nt (ieq x0 x1)) (by kernel_rfl) h7 ?_
     refine .then (.rK ?_)
     refine .ghs (fr 26 [(4,zB false)]) (hp 1 [(oT tab0)]) (.k0 [false] [] [4]) ?_
     refine .ret ?_
     exact fin_ret (zB false) (by kernel_rfl) (by kernel_rfl) hm
    ·refine .ifF (nt (ieq x0 x1)) (by kernel_rfl) h7 ?_
     refine .skip ?_
     refine .ghs (fr 26 [(0,Sl.v 1 s2),(1,Sl.v 1 s3),(12,zI z0),(13,(zI (Int.ofNat k1)))]) (hp 1 [(oT tab0)]) (.k0 [false] [] [0,1,12,13]) ?_
     refine .rK ?_
     exact ⟨(s2,s3,z0,(wrapF .i64 (Int.add (Int.ofNat k1) (1:Int)))),hm,(.k0 [false] [] [0,1,12,13])⟩
   ·refine .ifF (ilt z1 z0) (by kernel_rfl) h1 ?_
    refine .exit ?_
    exact ⟨(),hm,(.k0 [false] [] [])⟩
def m50_0 (pu:PureF) (n:Nat):OV:=
 (some (.bool true))
def b50_1 (pu:PureF) (n:Nat) (ih0:Sl→Sl→Int→OV) (s0 s1:Sl) (z0:Int):OV:=
 (bb (ilt z0 (Int.ofNat (Sl.n s0))) (oo (toN z0) none fun k1=>(bb (an (Nat.blt k1 (Sl.n s0)) true) (oo (nthL (Sl.cs s0) (k1 * 1)) none fun v0=>(oo (toI .i64 v0) none fun x0=>(bb (an (Nat.blt k1 (Sl.n s1)) true) (oo (nthL (Sl.cs s1) (k1 * 1)) none fun v1=>(oo (toI .i64 v1) none fun x1=>(bb (nt (ieq x0 x1)) (some (.bool false)) (ih0 s0 s1 (wrapF .i64 (Int.add (Int.ofNat k1) (1:Int))))))) none))) none)) (m50_0 pu n))
def l50_1 (pu:PureF) (n w:Nat):Sl→Sl→Int→OV:=
 Nat.rec (motive:=fun _=>Sl→Sl→Int→OV) (fun _ _ _=>none) (fun _ ih0=>b50_1 pu n ih0) w
def m50_ (pu:PureF) (n:Nat) (s0 s1:Sl):OV:=
 (l50_1 pu n n s0 s1 (0:Int))
def m50 (pu:PureF) (n:Nat) (args:LV):OV:=
 (ll args none fun a0 args=>(ll args none fun a1 args=>(ll args (oo (toSl 1 a0) none fun s0=>(oo (toSl 1 a1) none fun s1=>(m50_ pu n s0 s1))) fun _ _=>none)))
theorem w50_0 (pu:PureF) (n:Nat) {v:Value} (hm:m50_0 pu n = some v):Run tt (callP tabs isP pu (inl pu)) 1 c50_18 (fr 21 []) (hp 1 [(oT tab0)]) (Fin tt 1 [.tmp 4] v):=by
 unfold m50_0 at hm
 refine .then (.rK ?_)
 refine .ghs (fr 21 [(4,zB true)]) (hp 1 [(oT tab0)]) (.k0 [false] [] [4]) ?_
 refine .ret ?_
 exact fin_ret (zB true) (by kernel_rfl) (by kernel_rfl) hm
theorem r50 {call:CallF} (pu:PureF) (n:Nat) (hcall:call = callP tabs isP pu (inl pu)) {args:LV} {v:Value} (hm:m50 pu n args = some v) (_:∀ x ∈ args,closed2 x = true):args.length≤21∧Run tt call 1 c50_20 (Fr.made 21 args) (pureHeap tabs) (Fin tt 1 [.tmp 4] v):=by
 subst hcall
 unfold m50 at hm
 replace hm:=ll_uncons hm;obtain ⟨a0,args_0,rfl,hm⟩:=hm
 replace hm:=ll_uncons hm;obtain ⟨a1,args_1,rfl,hm⟩:=hm
 replace hm:=ll_end hm;obtain ⟨rfl,hm⟩:=hm
 replace hm:=inv_toSl hm;obtain ⟨s0,rfl,hm⟩:=hm
 replace hm:=inv_toSl hm;obtain ⟨s1,rfl,hm⟩:=hm
 unfold m50_ at hm
 refine ⟨by simp,?_⟩
 refine .same (F':=(fr 21 [(0,Sl.v 1 s0),(1,Sl.v 1 s1)])) (H':=(hp 1 [(oT tab0)])) (by kernel_rfl) (by kernel_rfl) ?_
 refine .then (.rK ?_)
 refine .ghs (fr 21 [(0,Sl.v 1 s0),(1,Sl.v 1 s1)]) (hp 1 [(oT tab0)]) (.k0 [false] [] [0,1]) ?_
 refine .join (v:=v) (fun y:Unit=>((fr 21 []),(hp 1 [(oT tab0)]))) (fun y=>m50_0 pu n) ?_ ?_
 ·rintro _ hm
  exact w50_0 pu n hm
 ·refine .then (.rK ?_)
  refine .ghs (fr 21 [(0,Sl.v 1 s0),(1,Sl.v 1 s1),(5,(zI (0:Int)))]) (hp 1 [(oT tab0)]) (.k0 [false] [] [0,1,5]) ?_
  refine .block ?_
  refine .loopM (v:=v) (fun y:Sl×Sl×Int=>((fr 21 [(0,(Sl.v 1 y.1)),(1,(Sl.v 1 y.2.1)),(5,(zI y.2.2))]),(hp 1 [(oT tab0)]))) (fun w y=>l50_1 pu n w y.1 y.2.1 y.2.2) n ⟨(s0,s1,(0:Int)),hm,(.k0 [false] [] [0,1,5])⟩ (fun _=>rfl) ?_
  rintro w0 ⟨s2,s3,z0⟩ hm
  replace hm:b50_1 pu n (l50_1 pu n w0) s2 s3 z0 = some v:=hm
  unfold b50_1 at hm
  refine .then ?_
  refine .then (.rK ?_)
  refine .ghs (fr 21 [(0,Sl.v 1 s2),(1,Sl.v 1 s3),(5,zI z0),(9,(zB (ilt z0 (Int.ofNat (Sl.n s2)))))]) (hp 1 [(oT tab0)]) (.k0 [false] [] [0,1,5,9]) ?_
  replace hm:=bb_cases hm;rcases hm with ⟨h0,hm⟩ | ⟨h0,hm⟩
  ·refine .ifT (ilt z0 (Int.ofNat (Sl.n s2))) (by kernel_rfl) h0 ?_
   refine .skip ?_
   refine .ghs (fr 21 [(0,Sl.v 1 s2),(1,Sl.v 1 s3),(5,zI z0)]) (hp 1 [(oT tab0)]) (.k0 [false] [] [0,1,5]) ?_
   refine .then ?_
   refine .block ?_
   refine .then ?_
   replace hm:=oo_inv hm;obtain ⟨k1,h1,hm⟩:=hm
   obtain rfl:=toN_some h1
   replace hm:=bb_inv hm;obtain ⟨h2,hm⟩:=hm
   replace hm:=oo_inv hm;obtain ⟨v0,h3,hm⟩:=hm
   replace hm:=inv_toI hm;obtain ⟨x0,rfl,hm⟩:=hm
   replace hm:=bb_inv hm;obtain ⟨h4,hm⟩:=hm
   replace hm:=oo_inv hm;obtain ⟨v1,h5,hm⟩:=hm
   replace hm:=inv_toI hm;obtain ⟨x1,rfl,hm⟩:=hm
   refine .reg (eC 2 (keep (hp 1 [(oT tab0)]) (bb (an (Nat.blt k1 (Sl.n s2)) true) (some (fpV (k1 * 1) (Sl.cs s2))) none)) (keep_bb h2) (eD (keep (hp 1 [(oT tab0)]) (nthL (Sl.cs s2) (k1 * 1))) (keep_eq h3) (eC 2 (keep (hp 1 [(oT tab0)]) (bb (an (Nat.blt k1 (Sl.n s3)) true) (some (fpV (k1 * 1) (Sl.cs s3))) none)) (keep_bb h4) (eD (keep (hp 1 [(oT tab0)]) (nthL (Sl.cs s3) (k1 * 1))) (keep_eq h5) (eE))))) ?_
   refine .ghs (fr 21 [(0,Sl.v 1 s2),(1,Sl.v 1 s3),(5,(zI (Int.ofNat k1))),(20,(zB (nt (ieq x0 x1))))]) (hp 1 [(oT tab0)]) (.k0 [false] [] [0,1,5,20]) ?_
   replace hm:=bb_cases hm;rcases hm with ⟨h6,hm⟩ | ⟨h6,hm⟩
   ·refine .ifT (nt (ieq x0 x1)) (by kernel_rfl) h6 ?_
    refine .then (.rK ?_)
    refine .ghs (fr 21 [(4,zB false)]) (hp 1 [(oT tab0)]) (.k0 [false] [] [4]) ?_
    refine .ret ?_
    exact fin_ret (zB false) (by kernel_rfl) (by kernel_rfl) hm
   ·refine .ifF (nt (ieq x0 x1)) (by kernel_rfl) h6 ?_
    refine .skip ?_
    refine .ghs (fr 21 [(0,Sl.v 1 s2),(1,Sl.v 1 s3),(5,(zI (Int.ofNat k1)))]) (hp 1 [(oT tab0)]) (.k0 [false] [] [0,1,5]) ?_
    refine .rK ?_
    exact ⟨(s2,s3,(wrapF .i64 (Int.add (Int.ofNat k1) (1:Int)))),hm,(.k0 [false] [] [0,1,5])⟩
  ·refine .ifF (ilt z0 (Int.ofNat (Sl.n s2))) (by kernel_rfl) h0 ?_
   refine .exit ?_
   exact ⟨(),hm,(.k0 [false] [] [])⟩
def m51_0 (pu:PureF) (n:Nat) (z0:Int):OV:=
 (some (.int .u16 z0))
def m51_2 (pu:PureF) (n:Nat) (ih0:Sl→Int→Sl→Int→Int→OV) (s0:Sl) (z0:Int) (s1:Sl) (z1 z2:Int):OV:=
 (ih0 s0 z0 s1 z1 (wrapF .i64 (Int.add z2 (1:Int))))
def b51_1 (pu:PureF) (n:Nat) (ih0:Sl→Int→Sl→Int→Int→OV) (s0:Sl) (z0:Int) (s1:Sl) (z1 z2:Int):OV:=
 (bb (ilt z2 z1) (oo (toN z2) none fun k1=>(bb (an (Nat.blt k1 (Sl.n s1)) true) (oo (nthL (Sl.cs s1) (k1 * 1)) none fun v0=>(oo (toI .i64 v0) none fun x0=>(oo (toN x0) none fun k2=>(bb (an (Nat.blt k2 (Sl.n s0)) true) (oo (nthL (Sl.cs s0) (k2 * 1)) none fun v1=>(oo (toI .i64 v1) none fun x1=>(bb (an (Nat.blt k1 (Sl.n s0)) true) (oo (nthL (Sl.cs s0) (k1 * 1)) none fun v2=>(oo (toI .i64 v2) none fun x2=>(bb (nt (ieq x1 x2)) (m51_2 pu n ih0 s0 (aor .u16 z0 (shlI .u16 (1:Int) k1)) s1 z1 (Int.ofNat k1)) (m51_2 pu n ih0 s0 z0 s1 z1 (Int.ofNat k1))))) none))) none)))) none)) (m51_0 pu n z0))
def l51_1 (pu:PureF) (n w:Nat):Sl→Int→Sl→Int→Int→OV:=
 Nat.rec (motive:=fun _=>Sl→Int→Sl→Int→Int→OV) (fun _ _ _ _ _=>none) (fun _ ih0=>b51_1 pu n ih0) w
def m51_ (pu:PureF) (n:Nat) (p0:FpV) (s0:Sl) (x0:Int):OV:=
 (oo (nthL (FpV.cs p0) ((FpV.off p0) + 4)) none fun v0=>(oo (toSl 1 v0) none fun s1=>(oo (toN x0) none fun k1=>(bb (an (Nat.blt k1 (Sl.n s1)) true) (oo (nthL (Sl.cs s1) (k1 * 1)) none fun v1=>(oo (toSl 1 v1) none fun s2=>(l51_1 pu n n s0 (0:Int) s2 (Int.ofNat (Sl.n s2)) (0:Int)))) none))))
def m51 (pu:PureF) (n:Nat) (args:LV):OV:=
 (ll args none fun a0 args=>(ll args none fun a1 args=>(ll args none fun a2 args=>(ll args (oo (vFp a0) none fun p0=>(oo (toSl 1 a1) none fun s0=>(oo (toI .i64 a2) none fun x0=>(m51_ pu n p0 s0 x0)))) fun _ _=>none))))
theorem w51_0 (pu:PureF) (n:Nat) (z0:Int) {v:Value} (hm:m51_0 pu n z0 = some v):Run tt (callP tabs isP pu (inl pu)) 1 c51_20 (fr 38 [(7,.int .u16 z0)]) (hp 1 [(oT tab0)]) (Fin tt 1 [.tmp 6] v):=by
 unfold m51_0 at hm
 refine .then (.rK ?_)
 refine .ghs (fr 38 [(6,.int .u16 z0)]) (hp 1 [(oT tab0)]) (.k0 [false] [] [6]) ?_
 refine .ret ?_
 exact fin_ret (.int .u16 z0) (by kernel_rfl) (by kernel_rfl) hm
theorem r51 {call:CallF} (pu:PureF) (n:Nat) (hcall:call = callP tabs isP pu (inl pu)) {args:LV} {v:Value} (hm:m51 pu n args = some v) (_:∀ x ∈ args,closed2 x = true):args.length≤38∧Run tt call 1 c51_23 (Fr.made 38 args) (pureHeap tabs) (Fin tt 1 [.tmp 6] v):=by
 subst hcall
 unfold m51 at hm
 replace hm:=ll_uncons hm;obtain ⟨a0,args_0,rfl,hm⟩:=hm
 replace hm:=ll_uncons hm;obtain ⟨a1,args_1,rfl,hm⟩:=hm
 replace hm:=ll_uncons hm;obtain ⟨a2,args_2,rfl,hm⟩:=hm
 replace hm:=ll_end hm;obtain ⟨rfl,hm⟩:=hm
 replace hm:=oo_inv hm;obtain ⟨p0,h0,hm⟩:=hm
 obtain rfl:=vFp_some h0
 replace hm:=inv_toSl hm;obtain ⟨s0,rfl,hm⟩:=hm
 replace hm:=inv_toI hm;obtain ⟨x0,rfl,hm⟩:=hm
 unfold m51_ at hm
 refine ⟨by simp,?_⟩
 refine .same (F':=(fr 38 [(0,(fpV (FpV.off p0) (FpV.cs p0))),(1,Sl.v 1 s0),(2,zI x0)])) (H':=(hp 1 [(oT tab0)])) (by kernel_rfl) (by kernel_rfl) ?_
 refine .then (.rK ?_)
 refine .ghs (fr 38 [(0,(fpV (FpV.off p0) (FpV.cs p0))),(1,Sl.v 1 s0),(2,zI x0)]) (hp 1 [(oT tab0)]) (.k0 [false] [] [0,1,2]) ?_
 refine .then (.rK ?_)
 refine .ghs (fr 38 [(0,(fpV (FpV.off p0) (FpV.cs p0))),(1,Sl.v 1 s0),(2,zI x0),(7,(.int .u16 (0:Int)))]) (hp 1 [(oT tab0)]) (.k0 [false] [] [0,1,2,7]) ?_
 refine .join (v:=v) (fun y:Int=>((fr 38 [(7,.int .u16 y)]),(hp 1 [(oT tab0)]))) (fun y=>m51_0 pu n y) ?_ ?_
 ·rintro z0 hm
  exact w51_0 pu n z0 hm
 ·refine .then ?_
  replace hm:=oo_inv hm;obtain ⟨v0,h1,hm⟩:=hm
  replace hm:=inv_toSl hm;obtain ⟨s1,rfl,hm⟩:=hm
  replace hm:=oo_inv hm;obtain ⟨k1,h2,hm⟩:=hm
  obtain rfl:=toN_some h2
  replace hm:=bb_inv hm;obtain ⟨h3,hm⟩:=hm
  replace hm:=oo_inv hm;obtain ⟨v1,h4,hm⟩:=hm
  replace hm:=inv_toSl hm;obtain ⟨s2,rfl,hm⟩:=hm
  refine .reg (eC 3 (keep (hp 1 [(oT tab0)]) (nthL (FpV.cs p0) ((FpV.off p0) + 4))) (keep_eq h1) (eC 1 (keep (hp 1 [(oT tab0)]) (bb (an (Nat.blt k1 (Sl.n s1)) true) (some (fpV (k1 * 1) (Sl.cs s1))) none)) (keep_bb h3) (eD (keep (hp 1 [(oT tab0)]) (nthL (Sl.cs s1) (k1 * 1))) (keep_eq h4) (eE)))) ?_
  refine .ghs (fr 38 [(1,Sl.v 1 s0),(7,(.int .u16 (0:Int))),(16,Sl.v 1 s2),(17,(zI (Int.ofNat (Sl.n s2)))),(18,(zI (0:Int)))]) (hp 1 [(oT tab0)]) (.k0 [false] [] [1,7,16,17,18]) ?_
  refine .block ?_
  refine .loopM (v:=v) (fun y:Sl×Int×Sl×Int×Int=>((fr 38 [(1,(Sl.v 1 y.1)),(7,(.int .u16 y.2.1)),(16,(Sl.v 1 y.2.2.1)),(17,(zI y.2.2.2.1)),(18,(zI y.2.2.2.2))]),(hp 1 [(oT tab0)]))) (fun w y=>l51_1 pu n w y.1 y.2.1 y.2.2.1 y.2.2.2.1 y.2.2.2.2) n ⟨(s0,(0:Int),s2,(Int.ofNat (Sl.n s2)),(0:Int)),hm,(.k0 [false] [] [1,7,16,17,18])⟩ (fun _=>rfl) ?_
  rintro w0 ⟨s3,z1,s4,z2,z3⟩ hm
  replace hm:b51_1 pu n (l51_1 pu n w0) s3 z1 s4 z2 z3 = some v:=hm
  unfold b51_1 at hm
  refine .then (.rK ?_)
  refine .ghs (fr 38 [(1,Sl.v 1 s3),(7,.int .u16 z1),(16,Sl.v 1 s4),(17,zI z2),(18,zI z3),(19,(zB (ilt z3 z2)))]) (hp 1 [(oT tab0)]) (.k0 [false] [] [1,7,16,17,18,19]) ?_
  refine .then ?_
  replace hm:=bb_cases hm;rcases hm with ⟨h5,hm⟩ | ⟨h5,hm⟩
  ·refine .ifT (ilt z3 z2) (by kernel_rfl) h5 ?_
   refine .skip ?_
   refine .ghs (fr 38 [(1,Sl.v 1 s3),(7,.int .u16 z1),(16,Sl.v 1 s4),(17,zI z2),(18,zI z3)]) (hp 1 [(oT tab0)]) (.k0 [false] [] [1,7,16,17,18]) ?_
   refine .join (v:=v) (fun y:Sl×Int×Sl×Int×Int=>((fr 38 [(1,(Sl.v 1 y.1)),(7,(.int .u16 y.2.1)),(16,(Sl.v 1 y.2.2.1)),(17,(zI y.2.2.2.1)),(18,(zI y.2.2.2.2))]),(hp 1 [(oT tab0)]))) (fun y=>m51_2 pu n (l51_1 pu n w0) y.1 y.2.1 y.2.2.1 y.2.2.2.1 y.2.2.2.2) ?_ ?_
   ·rintro ⟨s5, z4, s6, z5, z6⟩ hm
    unfold m51_2 at hm
    refine .rK ?_
    exact ⟨(s5,z4,s6,z5,(wrapF .i64 (Int.add z6 (1:Int)))),hm,(.k0 [false] [] [1,7,16,17,18])⟩
   ·refine .block ?_
    refine .then ?_
    replace hm:=oo_inv hm;obtain ⟨k2,h6,hm⟩:=hm
    obtain rfl:=toN_some h6
    replace hm:=bb_inv hm;obtain ⟨h7,hm⟩:=hm
    replace hm:=oo_inv hm;obtain ⟨v2,h8,hm⟩:=hm
    replace hm:=inv_toI hm;obtain ⟨x1,rfl,hm⟩:=hm
    refine .reg (eC 1 (keep (hp 1 [(oT tab0)]) (bb (an (Nat.blt k2 (Sl.n s4)) true) (some (fpV (k2 * 1) (Sl.cs s4))) none)) (keep_bb h7) (eD (keep (hp 1 [(oT tab0)]) (nthL (Sl.cs s4) (k2 * 1))) (keep_eq h8) (eE))) ?_
    refine .ghs (fr 38 [(1,Sl.v 1 s3),(7,.int .u16 z1),(8,(zI (Int.ofNat k2))),(9,zI x1),(16,Sl.v 1 s4),(17,zI z2),(18,(zI (Int.ofNat k2)))]) (hp 1 [(oT tab0)]) (.k0 [false] [] [1,7,8,9,16,17,18]) ?_
    refine .then ?_
    replace hm:=oo_inv hm;obtain ⟨k3,h9,hm⟩:=hm
    obtain rfl:=toN_some h9
    replace hm:=bb_inv hm;obtain ⟨h10,hm⟩:=hm
    replace hm:=oo_inv hm;obtain ⟨v3,h11,hm⟩:=hm
    replace hm:=inv_toI hm;obtain ⟨x2,rfl,hm⟩:=hm
    replace hm:=bb_inv hm;obtain ⟨h12,hm⟩:=hm
    replace hm:=oo_inv hm;obtain ⟨v4,h13,hm⟩:=hm
    replace hm:=inv_toI hm;obtain ⟨x3,rfl,hm⟩:=hm
    refine .reg (eC 2 (keep (hp 1 [(oT tab0)]) (bb (an (Nat.blt k3 (Sl.n s3)) true) (some (fpV (k3 * 1) (Sl.cs s3))) none)) (keep_bb h10) (eD (keep (hp 1 [(oT tab0)]) (nthL (Sl.cs s3) (k3 * 1))) (keep_eq h11) (eC 2 (keep (hp 1 [(oT tab0)]) (bb (an (Nat.blt k2 (Sl.n s3)) true) (some (fpV (k2 * 1) (Sl.cs s3))) none)) (keep_bb h12) (eD (keep (hp 1 [(oT tab0)]) (nthL (Sl.cs s3) (k2 * 1))) (keep_eq h13) (eE))))) ?_
    refine .ghs (fr 38 [(1,Sl.v 1 s3),(7,.int .u16 z1),(8,(zI (Int.ofNat k2))),(16,Sl.v 1 s4),(17,zI z2),(18,(zI (Int.ofNat k2))),(31,(zB (nt (ieq x2 x3))))]) (hp 1 [(oT tab0)]) (.k0 [false] [] [1,7,8,16,17,18,31]) ?_
    replace hm:=bb_cases hm;rcases hm with ⟨h14,hm⟩ | ⟨h14,hm⟩
    ·refine .ifT (nt (ieq x2 x3)) (by kernel_rfl) h14 ?_
     refine .rK ?_
     exact ⟨(s3,(aor .u16 z1 (shlI .u16 (1:Int) k2)),s4,z2,(Int.ofNat k2)),hm,(.k0 [false] [] [1,7,16,17,18])⟩
    ·refine .ifF (nt (ieq x2 x3)) (by kernel_rfl) h14 ?_
     refine .skip ?_
     exact ⟨(s3,z1,s4,z2,(Int.ofNat k2)),hm,(.k0 [false] [] [1,7,16,17,18])⟩
  ·refine .ifF (ilt z3 z2) (by kernel_rfl) h5 ?_
   refine .exit ?_
   exact ⟨z1,hm,(.k0 [false] [] [7])⟩
def m55_2 (pu:PureF) (n:Nat) (z0 z1 z2:Int) (s0:Sl) (n0 c0:Nat) (q0:LV):OV:=
 (bb (allL closed1 q0) (bb (an (Nat.ble (0 + n0 * 1) (len q0)) (allL closed1 (takeL (n0 * 1) (dropL 0 q0)))) (some (.tuple ⟨[(fpV 0 ([.int .i64 z0,.int .i64 z1,.int .i64 z2,Sl.v 1 s0,(Sl.v 1 (Sl.mk n0 0 (takeL (n0 * 1) (dropL 0 q0))))]:LV)),(.int .i64 (0:Int))]⟩)) none) none)
def m55_4 (pu:PureF) (n:Nat) (ih0:Int→Sl→Int→Int→Int→Int→Int→Sl→Int→Int→Int→Sl→Nat→Nat→LV→OV) (z0:Int) (s0:Sl) (z1 z2 z3 z4 z5:Int) (s1:Sl) (z6 z7 z8:Int) (s2:Sl) (n0 c0:Nat) (q0:LV):OV:=
 (bb (allL closed1 q0) (ih0 z0 s0 z1 (wrapF .i64 (Int.add z2 (1:Int))) z3 z4 z5 s1 z6 z7 z8 s2 n0 c0 q0) none)
def b55_5 (pu:PureF) (n:Nat) (ih0:Int→Sl→Int→Int→Int→Int→Int→Sl→Int→Int→Int→Sl→Nat→Nat→LV→OV) (ih1:Int→Int→Sl→Int→Int→Sl→Int→Int→Int→Int→Int→Sl→Int→Int→Int→Sl→Nat→Nat→LV→OV) (z0 z1:Int) (s0:Sl) (z2 z3:Int) (s1:Sl) (z4 z5 z6 z7 z8:Int) (s2:Sl) (z9 z10 z11:Int) (s3:Sl) (n0 c0:Nat) (q0:LV):OV:=
 (bb (allL closed1 q0) (bb (ilt z5 z4) (oo (toN z5) none fun k1=>(bb (an (Nat.blt k1 (Sl.n s1)) true) (oo (nthL (Sl.cs s1) (k1 * 1)) none fun v0=>(oo (toI .i64 v0) none fun x0=>(oo (pu 75 [.int .i64 z1]) none fun v1=>(oo (vAgg v1) none fun l0=>(ll l0 none fun v2 l0=>(ll l0 none fun v3 l0=>(ll l0 (oo (toI .i64 v2) none fun x1=>(oo (vBool v3) none fun b0=>(oo (pu 75 [.int .i64 x0]) none fun v4=>(oo (vAgg v4) none fun l1=>(ll l1 none fun v5 l1=>(ll l1 none fun v6 l1=>(ll l1 (oo (toI .i64 v5) none fun x2=>(oo (vBool v6) none fun b1=>(oo (pu 76 [(.agg ⟨[.int .i64 x1,(.bool b0)]⟩),(.agg ⟨[.int .i64 x2,(.bool b1)]⟩)]) none fun v7=>(oo (vAgg v7) none fun l2=>(ll l2 none fun v8 l2=>(ll l2 none fun v9 l2=>(ll l2 (oo (toI .i64 v8) none fun x3=>(oo (vBool v9) none fun b2=>(oo (pu 77 [(.agg ⟨[.int .i64 x3,(.bool b2)]⟩)]) none fun v10=>(oo (toI .i64 v10) none fun x4=>(oo (toN x4) none fun k2=>(bb (ieq (aand .u8 (shrI .u8 z0 k2) (1:Int)) (0:Int)) (some (.tuple ⟨[(.pointer none),(.int .i64 (21:Int))]⟩)) (ih1 z0 z1 s0 z2 z3 s1 z4 (wrapF .i64 (Int.add (Int.ofNat k1) (1:Int))) z6 z7 z8 s2 z9 z10 z11 s3 n0 c0 q0))))))) fun _ _=>none))))))) fun _ _=>none))))))) fun _ _=>none))))))) none)) (m55_4 pu n ih0 z0 s0 z2 z3 z6 z7 z8 s2 z9 z10 z11 s3 n0 c0 q0)) none)
def l55_5 (pu:PureF) (n:Nat) (ih0:Int→Sl→Int→Int→Int→Int→Int→Sl→Int→Int→Int→Sl→Nat→Nat→LV→OV) (w:Nat):Int→Int→Sl→Int→Int→Sl→Int→Int→Int→Int→Int→Sl→Int→Int→Int→Sl→Nat→Nat→LV→OV:=
 Nat.rec (motive:=fun _=>Int→Int→Sl→Int→Int→Sl→Int→Int→Int→Int→Int→Sl→Int→Int→Int→Sl→Nat→Nat→LV→OV) (fun _ _ _ _ _ _ _ _ _ _ _ _ _ _ _ _ _ _ _=>none) (fun _ ih1=>b55_5 pu n ih0 ih1) w
def b55_3 (pu:PureF) (n:Nat) (ih0:Int→Sl→Int→Int→Int→Int→Int→Sl→Int→Int→Int→Sl→Nat→Nat→LV→OV) (z0:Int) (s0:Sl) (z1 z2 z3 z4 z5:Int) (s1:Sl) (z6 z7 z8:Int) (s2:Sl) (n0 c0:Nat) (q0:LV):OV:=
 (bb (allL closed1 q0) (bb (ilt z2 z1) (oo (toN z2) none fun k1=>(bb (an (Nat.blt k1 (Sl.n s0)) true) (oo (nthL (Sl.cs s0) (k1 * 1)) none fun v0=>(oo (toI .i64 v0) none fun x0=>(l55_5 pu n ih0 n z0 x0 s0 z1 (Int.ofNat k1) s1 (Int.ofNat (Sl.n s1)) (0:Int) z3 z4 z5 s1 z6 z7 z8 s2 n0 c0 q0))) none)) (m55_2 pu n z6 z7 z8 s2 n0 c0 q0)) none)
def l55_3 (pu:PureF) (n w:Nat):Int→Sl→Int→Int→Int→Int→Int→Sl→Int→Int→Int→Sl→Nat→Nat→LV→OV:=
 Nat.rec (motive:=fun _=>Int→Sl→Int→Int→Int→Int→Int→Sl→Int→Int→Int→Sl→Nat→Nat→LV→OV) (fun _ _ _ _ _ _ _ _ _ _ _ _ _ _ _=>none) (fun _ ih0=>b55_3 pu n ih0) w
def m55_1 (pu:PureF) (n:Nat) (z0 z1 z2 z3:Int) (s0:Sl) (z4 z5 z6:Int) (s1:Sl) (n0 c0:Nat) (q0:LV):OV:=
 (bb (allL closed1 q0) (bb (ieq (aand .u8 z0 (1:Int)) (0:Int)) (some (.tuple ⟨[(.pointer none),(.int .i64 (21:Int))]⟩)) (l55_3 pu n n z0 s0 (Int.ofNat (Sl.n s0)) (0:Int) z1 z2 z3 s0 z4 z5 z6 s1 n0 c0 q0)) none)
def m55_7 (pu:PureF) (n:Nat) (ih0:Int→Int→Sl→Int→Int→Int→Int→Int→Sl→Int→Int→Int→Sl→Nat→Nat→LV→OV) (z0 z1 z2:Int) (s0:Sl) (z3 z4:Int) (b0:Bool) (z5 z6 z7:Int) (s1:Sl) (z8 z9 z10:Int) (s2:Sl) (n0 c0:Nat) (q0:LV):OV:=
 (bb b0 (some (.tuple ⟨[(.pointer none),(.int .i64 (8:Int))]⟩)) (bb (allL closed1 q0) (bb (nt (ilt z0 z2)) (some (.tuple ⟨[(.pointer none),(.int .i64 (7:Int))]⟩)) (oo (toN z2) none fun k1=>(oo (pu 84 [(.agg ⟨[.int .i64 z5,.int .i64 z6,.int .i64 z7,Sl.v 1 s1]⟩),(.int .i64 (Int.ofNat k1))]) none fun v0=>(oo (toSl 1 v0) none fun s3=>(bb (growC 1 24 n0 c0 1 q0) (bb (allL closed1 (appL (dropL 0 q0) [Sl.v 1 s3])) (ih0 (Int.ofNat k1) (aor .u8 z1 (shlI .u8 (1:Int) k1)) s0 z3 (wrapF .i64 (Int.add z4 (1:Int))) z5 z6 z7 s1 z8 z9 z10 s2 (n0 + 1) (2 * (n0 + 1) + bb false 1 0) (appL (dropL 0 q0) [Sl.v 1 s3])) none) none))))) none))
def b55_6 (pu:PureF) (n:Nat) (ih0:Int→Int→Sl→Int→Int→Int→Int→Int→Sl→Int→Int→Int→Sl→Nat→Nat→LV→OV) (z0 z1:Int) (s0:Sl) (z2 z3 z4 z5 z6:Int) (s1:Sl) (z7 z8 z9:Int) (s2:Sl) (n0 c0:Nat) (q0:LV):OV:=
 (bb (allL closed1 q0) (bb (ilt z3 z2) (oo (toN z3) none fun k1=>(bb (an (Nat.blt k1 (Sl.n s0)) true) (oo (nthL (Sl.cs s0) (k1 * 1)) none fun v0=>(oo (toI .i64 v0) none fun x0=>(oo (pu 59 [(.int .i64 (0:Int)),.int .i64 x0,(.int .i64 (7:Int))]) none fun v1=>(oo (vBool v1) none fun b0=>(bb (nt b0) (some (.tuple ⟨[(.pointer none),(.int .i64 (2:Int))]⟩)) (bb (nt (ieq z4 z5)) (oo (pu 75 [.int .i64 x0]) none fun v2=>(oo (vAgg v2) none fun l0=>(ll l0 none fun v3 l0=>(ll l0 none fun v4 l0=>(ll l0 (oo (toI .i64 v3) none fun x1=>(oo (vBool v4) none fun b1=>(m55_7 pu n ih0 z0 z1 x0 s0 z2 (Int.ofNat k1) (ieq (Int.tmod x1 (2:Int)) (1:Int)) z4 z5 z6 s1 z7 z8 z9 s2 n0 c0 q0))) fun _ _=>none))))) (m55_7 pu n ih0 z0 z1 x0 s0 z2 (Int.ofNat k1) false z4 z5 z6 s1 z7 z8 z9 s2 n0 c0 q0))))))) none)) (m55_1 pu n z1 z4 z5 z6 s1 z7 z8 z9 s2 n0 c0 q0)) none)
def l55_6 (pu:PureF) (n w:Nat):Int→Int→Sl→Int→Int→Int→Int→Int→Sl→Int→Int→Int→Sl→Nat→Nat→LV→OV:=
 Nat.rec (motive:=fun _=>Int→Int→Sl→Int→Int→Int→Int→Int→Sl→Int→Int→Int→Sl→Nat→Nat→LV→OV) (fun _ _ _ _ _ _ _ _ _ _ _ _ _ _ _ _=>none) (fun _ ih0=>b55_6 pu n ih0) w
def m55_0 (pu:PureF) (n:Nat) (b0:Bool) (z0 z1 z2:Int) (s0:Sl):OV:=
 (bb b0 (some (.tuple ⟨[(.pointer none),(.int .i64 (1:Int))]⟩)) (l55_6 pu n n (-1:Int) (0:Int) s0 (Int.ofNat (Sl.n s0)) (0:Int) z0 z1 z2 s0 z0 z1 z2 s0 0 0 ([]:LV)))
def m55_ (pu:PureF) (n:Nat) (x0 x1 x2:Int) (s0:Sl):OV:=
 (oo (pu 59 [(.int .i64 (1:Int)),.int .i64 x0,(.int .i64 (4:Int))]) none fun v0=>(oo (vBool v0) none fun b0=>(bb (nt b0) (m55_0 pu n true x0 x1 x2 s0) (oo (pu 59 [(.int .i64 (1:Int)),.int .i64 x1,(.int .i64 (4:Int))]) none fun v1=>(oo (vBool v1) none fun b1=>(bb (nt b1) (m55_0 pu n true x0 x1 x2 s0) (oo (pu 59 [(.int .i64 (1:Int)),.int .i64 x2,(.int .i64 (4:Int))]) none fun v2=>(oo (vBool v2) none fun b2=>(m55_0 pu n (nt b2) x0 x1 x2 s0)))))))))
def m55 (pu:PureF) (n:Nat) (args:LV):OV:=
 (ll args none fun a0 args=>(ll args (oo (vAgg a0) none fun l0=>(ll l0 none fun v0 l0=>(ll l0 none fun v1 l0=>(ll l0 none fun v2 l0=>(ll l0 none fun v3 l0=>(ll l0 (oo (toI .i64 v0) none fun x0=>(oo (toI .i64 v1) none fun x1=>(oo (toI .i64 v2) none fun x2=>(oo (toSl 1 v3) none fun s0=>(m55_ pu n x0 x1 x2 s0))))) fun _ _=>none)))))) fun _ _=>none))
theorem w55_2 (pu:PureF) (n:Nat) (z0 z1 z2:Int) (s0:Sl) (n0 c0:Nat) (q0:LV) {v:Value} (hm:m55_2 pu n z0 z1 z2 s0 n0 c0 q0 = some v):Run tt (callP tabs isP pu (inl pu)) 1 c55_83 (fr 110 [(4,pt 1 0)]) (hT 3 [(oC [zI z0,zI z1,zI z2,Sl.v 1 s0,sc 2 0 1 n0 c0]),oC q0]) (Fin tt 1 [.tmp 2,.tmp 3] v):=by
 unfold m55_2 at hm
 refine .then (.rK ?_)
 replace hm:=bb_inv hm;obtain ⟨h0,hm⟩:=hm
 refine .ghs (fr 110 [(2,pt 1 0),(3,(zI (0:Int)))]) (hT 3 [(oC [zI z0,zI z1,zI z2,Sl.v 1 s0,sc 2 0 1 n0 c0]),oC q0]) (.k [2] [false] [.tmp 2 true,.cell 1 4 false] [2,3] ⟨trF h0,trivial⟩) ?_
 replace hm:=bb_inv hm;obtain ⟨h1,hm⟩:=hm
 refine .ghs (Fr.puts (fr 110 [(2,pt 1 0),(3,(zI (0:Int)))]) [(2,(fpV 0 ([zI z0,zI z1,zI z2,Sl.v 1 s0,(Sl.v 1 (Sl.mk n0 0 (takeL (n0 * 1) (dropL 0 q0))))]:LV)))]) (hT 3 [.dead,.dead]) (.frzC 1 1 4 [zI z0,zI z1,zI z2,Sl.v 1 s0,sc 2 0 1 n0 c0] (an (Nat.ble (0 + n0 * 1) (len q0)) (allL closed1 (takeL (n0 * 1) (dropL 0 q0)))) (v:=(sc 2 0 1 n0 c0)) (v':=(Sl.v 1 (Sl.mk n0 0 (takeL (n0 * 1) (dropL 0 q0))))) (H1:=(hT 3 [(oC [zI z0,zI z1,zI z2,Sl.v 1 s0,sc 2 0 1 n0 c0]),.dead])) (imm:=false) (spent:=false) (anc:=[]) h1 (.frzP 1 2 1 0 ([zI z0,zI z1,zI z2,Sl.v 1 s0,(Sl.v 1 (Sl.mk n0 0 (takeL (n0 * 1) (dropL 0 q0))))]:LV) true (anc:=[]) (by kernel_rfl) rfl (GhS.id _ _))) ?_
 refine .ret ?_
 exact fin_ret (.tuple ⟨[(fpV 0 ([zI z0,zI z1,zI z2,Sl.v 1 s0,(Sl.v 1 (Sl.mk n0 0 (takeL (n0 * 1) (dropL 0 q0))))]:LV)),(zI (0:Int))]⟩) (by kernel_rfl) (by kernel_rfl) hm
theorem w55_1 (pu:PureF) (n:Nat) (z0 z1 z2 z3:Int) (s0:Sl) (z4 z5 z6:Int) (s1:Sl) (n0 c0:Nat) (q0:LV) {v:Value} (hm:m55_1 pu n z0 z1 z2 z3 s0 z4 z5 z6 s1 n0 c0 q0 = some v):Run tt (callP tabs isP pu (inl pu)) 1 c55_85 (fr 110 [(1,pt 1 0),(4,(pt 2 0)),(6,(zY z0))]) (hT 4 [(oC [zI z1,zI z2,zI z3,Sl.v 1 s0]),(oC [zI z4,zI z5,zI z6,Sl.v 1 s1,sc 3 0 1 n0 c0]),oC q0]) (Fin tt 1 [.tmp 2,.tmp 3] v):=by
 unfold m55_1 at hm
 refine .then ?_
 refine .then (.rK ?_)
 replace hm:=bb_inv hm;obtain ⟨h0,hm⟩:=hm
 refine .ghs (fr 110 [(1,pt 1 0),(4,(pt 2 0)),(6,(zY z0)),(81,(zB (ieq (aand .u8 z0 (1:Int)) (0:Int))))]) (hT 4 [(oC [zI z1,zI z2,zI z3,Sl.v 1 s0]),(oC [zI z4,zI z5,zI z6,Sl.v 1 s1,sc 3 0 1 n0 c0]),oC q0]) (.k [3] [false] [.tmp 1 false,.tmp 4 true,.cell 2 4 false] [1,4,6,81] ⟨trF h0,trivial⟩) ?_
 replace hm:=bb_cases hm;rcases hm with ⟨h1,hm⟩ | ⟨h1,hm⟩
 ·refine .ifT (ieq (aand .u8 z0 (1 : Int)) (0 : Int)) (by kernel_rfl) h1 ?_
  refine .then (.rK ?_)
  refine .ghs (fr 110 [(2,(.pointer none)),(3,(zI (21:Int)))]) (hp 1 [(oT tab0)]) (.k0 [false] [] [2,3]) ?_
  refine .ret ?_
  exact fin_ret (.tuple ⟨[(.pointer none),(zI (21:Int))]⟩) (by kernel_rfl) (by kernel_rfl) hm
 ·refine .ifF (ieq (aand .u8 z0 (1 : Int)) (0 : Int)) (by kernel_rfl) h1 ?_
  refine .skip ?_
  refine .ghs (fr 110 [(1,pt 1 0),(4,(pt 2 0)),(6,(zY z0))]) (hT 4 [(oC [zI z1,zI z2,zI z3,Sl.v 1 s0]),(oC [zI z4,zI z5,zI z6,Sl.v 1 s1,sc 3 0 1 n0 c0]),oC q0]) (.k [3] [false] [.tmp 1 false,.tmp 4 true,.cell 2 4 false] [1,4,6] ⟨trF h0,trivial⟩) ?_
  refine .join (v:=v) (fun y:Int×Int×Int×Sl×Nat×Nat×LV=>((fr 110 [(4,pt 1 0)]),(hT 3 [(oC [(zI y.1),(zI y.2.1),(zI y.2.2.1),(Sl.v 1 y.2.2.2.1),(sc 2 0 1 y.2.2.2.2.1 y.2.2.2.2.2.1)]),(oC y.2.2.2.2.2.2)]))) (fun y=>m55_2 pu n y.1 y.2.1 y.2.2.1 y.2.2.2.1 y.2.2.2.2.1 y.2.2.2.2.2.1 y.2.2.2.2.2.2) ?_ ?_
  ·rintro ⟨z7, z8, z9, s2, n1, c1, q1⟩ hm
   exact w55_2 pu n z7 z8 z9 s2 n1 c1 q1 hm
  ·refine .then (.rK ?_)
   refine .ghs (fr 110 [(1,pt 1 0),(4,(pt 2 0)),(6,(zY z0)),(83,Sl.v 1 s0),(84,(zI (Int.ofNat (Sl.n s0)))),(85,(zI (0:Int)))]) (hT 4 [(oC [zI z1,zI z2,zI z3,Sl.v 1 s0]),(oC [zI z4,zI z5,zI z6,Sl.v 1 s1,sc 3 0 1 n0 c0]),oC q0]) (.k [3] [false] [.tmp 1 false,.tmp 4 true,.cell 2 4 false] [1,4,6,83,84,85] ⟨trF h0,trivial⟩) ?_
   refine .block ?_
   refine .loopM (v:=v) (fun y:Int×Sl×Int×Int×Int×Int×Int×Sl×Int×Int×Int×Sl×Nat×Nat×LV=>((fr 110 [(1,pt 1 0),(4,(pt 2 0)),(6,(zY y.1)),(83,(Sl.v 1 y.2.1)),(84,(zI y.2.2.1)),(85,(zI y.2.2.2.1))]),(hT 4 [(oC [(zI y.2.2.2.2.1),(zI y.2.2.2.2.2.1),(zI y.2.2.2.2.2.2.1),(Sl.v 1 y.2.2.2.2.2.2.2.1)]),(oC [(zI y.2.2.2.2.2.2.2.2.1),(zI y.2.2.2.2.2.2.2.2.2.1),(zI y.2.2.2.2.2.2.2.2.2.2.1),(Sl.v 1 y.2.2.2.2.2.2.2.2.2.2.2.1),(sc 3 0 1 y.2.2.2.2.2.2.2.2.2.2.2.2.1 y.2.2.2.2.2.2.2.2.2.2.2.2.2.1)]),(oC y.2.2.2.2.2.2.2.2.2.2.2.2.2.2)]))) (fun w y=>l55_3 pu n w y.1 y.2.1 y.2.2.1 y.2.2.2.1 y.2.2.2.2.1 y.2.2.2.2.2.1 y.2.2.2.2.2.2.1 y.2.2.2.2.2.2.2.1 y.2.2.2.2.2.2.2.2.1 y.2.2.2.2.2.2.2.2.2.1 y.2.2.2.2.2.2.2.2.2.2.1 y.2.2.2.2.2.2.2.2.2.2.2.1 y.2.2.2.2.2.2.2.2.2.2.2.2.1 y.2.2.2.2.2.2.2.2.2.2.2.2.2.1 y.2.2.2.2.2.2.2.2.2.2.2.2.2.2) n ⟨(z0,s0,(Int.ofNat (Sl.n s0)),(0:Int),z1,z2,z3,s0,z4,z5,z6,s1,n0,c0,q0),hm,(.k [3] [false] [.tmp 1 false,.tmp 4 true,.cell 2 4 false] [1,4,6,83,84,85] ⟨trF h0,trivial⟩)⟩ (fun _=>rfl) ?_
   rintro w0 ⟨z10,s3,z11,z12,z13,z14,z15,s4,z16,z17,z18,s5,n2,c2,q2⟩ hm
   replace hm:b55_3 pu n (l55_3 pu n w0) z10 s3 z11 z12 z13 z14 z15 s4 z16 z17 z18 s5 n2 c2 q2 = some v:=hm
   unfold b55_3 at hm
   refine .then (.rK ?_)
   replace hm:=bb_inv hm;obtain ⟨h2,hm⟩:=hm
   refine .ghs (fr 110 [(1,pt 1 0),(4,(pt 2 0)),(6,(zY z10)),(83,Sl.v 1 s3),(84,zI z11),(85,zI z12),(86,(zB (ilt z12 z11)))]) (hT 4 [(oC [zI z13,zI z14,zI z15,Sl.v 1 s4]),(oC [zI z16,zI z17,zI z18,Sl.v 1 s5,sc 3 0 1 n2 c2]),oC q2]) (.k [3] [false] [.tmp 1 false,.tmp 4 true,.cell 2 4 false] [1,4,6,83,84,85,86] ⟨trF h2,trivial⟩) ?_
   refine .then ?_
   replace hm:=bb_cases hm;rcases hm with ⟨h3,hm⟩ | ⟨h3,hm⟩
   ·refine .ifT (ilt z12 z11) (by kernel_rfl) h3 ?_
    refine .skip ?_
    refine .ghs (fr 110 [(1,pt 1 0),(4,(pt 2 0)),(6,(zY z10)),(83,Sl.v 1 s3),(84,zI z11),(85,zI z12)]) (hT 4 [(oC [zI z13,zI z14,zI z15,Sl.v 1 s4]),(oC [zI z16,zI z17,zI z18,Sl.v 1 s5,sc 3 0 1 n2 c2]),oC q2]) (.k [3] [false] [.tmp 1 false,.tmp 4 true,.cell 2 4 false] [1,4,6,83,84,85] ⟨trF h2,trivial⟩) ?_
    refine .join (v:=v) (fun y:Int×Sl×Int×Int×Int×Int×Int×Sl×Int×Int×Int×Sl×Nat×Nat×LV=>((fr 110 [(1,pt 1 0),(4,(pt 2 0)),(6,(zY y.1)),(83,(Sl.v 1 y.2.1)),(84,(zI y.2.2.1)),(85,(zI y.2.2.2.1))]),(hT 4 [(oC [(zI y.2.2.2.2.1),(zI y.2.2.2.2.2.1),(zI y.2.2.2.2.2.2.1),(Sl.v 1 y.2.2.2.2.2.2.2.1)]),(oC [(zI y.2.2.2.2.2.2.2.2.1),(zI y.2.2.2.2.2.2.2.2.2.1),(zI y.2.2.2.2.2.2.2.2.2.2.1),(Sl.v 1 y.2.2.2.2.2.2.2.2.2.2.2.1),(sc 3 0 1 y.2.2.2.2.2.2.2.2.2.2.2.2.1 y.2.2.2.2.2.2.2.2.2.2.2.2.2.1)]),(oC y.2.2.2.2.2.2.2.2.2.2.2.2.2.2)]))) (fun y=>m55_4 pu n (l55_3 pu n w0) y.1 y.2.1 y.2.2.1 y.2.2.2.1 y.2.2.2.2.1 y.2.2.2.2.2.1 y.2.2.2.2.2.2.1 y.2.2.2.2.2.2.2.1 y.2.2.2.2.2.2.2.2.1 y.2.2.2.2.2.2.2.2.2.1 y.2.2.2.2.2.2.2.2.2.2.1 y.2.2.2.2.2.2.2.2.2.2.2.1 y.2.2.2.2.2.2.2.2.2.2.2.2.1 y.2.2.2.2.2.2.2.2.2.2.2.2.2.1 y.2.2.2.2.2.2.2.2.2.2.2.2.2.2) ?_ ?_
    ·rintro ⟨z19, s6, z20, z21, z22, z23, z24, s7, z25, z26, z27, s8, n3, c4, q3⟩ hm
     unfold m55_4 at hm
     refine .rK ?_
     replace hm:=bb_inv hm;obtain ⟨h4,hm⟩:=hm
     exact ⟨(z19,s6,z20,(wrapF .i64 (Int.add z21 (1:Int))),z22,z23,z24,s7,z25,z26,z27,s8,n3,c4,q3),hm,(.k [3] [false] [.tmp 1 false,.tmp 4 true,.cell 2 4 false] [1,4,6,83,84,85] ⟨trF h4,trivial⟩)⟩
    ·refine .block ?_
     refine .then ?_
     replace hm:=oo_inv hm;obtain ⟨k1,h5,hm⟩:=hm
     obtain rfl:=toN_some h5
     replace hm:=bb_inv hm;obtain ⟨h6,hm⟩:=hm
     replace hm:=oo_inv hm;obtain ⟨v0,h7,hm⟩:=hm
     replace hm:=inv_toI hm;obtain ⟨x0,rfl,hm⟩:=hm
     refine .reg (eD (keep (hT 4 [(oC [zI z13,zI z14,zI z15,Sl.v 1 s4]),(oC [zI z16,zI z17,zI z18,Sl.v 1 s5,sc 3 0 1 n2 c2]),oC q2]) (bb (an (Nat.blt k1 (Sl.n s3)) true) (some (fpV (k1 * 1) (Sl.cs s3))) none)) (keep_bb h6) (eD (keep (hT 4 [(oC [zI z13,zI z14,zI z15,Sl.v 1 s4]),(oC [zI z16,zI z17,zI z18,Sl.v 1 s5,sc 3 0 1 n2 c2]),oC q2]) (nthL (Sl.cs s3) (k1 * 1))) (keep_eq h7) (eE))) ?_
     refine .ghs (fr 110 [(1,pt 1 0),(4,(pt 2 0)),(6,(zY z10)),(10,zI x0),(83,Sl.v 1 s3),(84,zI z11),(85,(zI (Int.ofNat k1)))]) (hT 4 [(oC [zI z13,zI z14,zI z15,Sl.v 1 s4]),(oC [zI z16,zI z17,zI z18,Sl.v 1 s5,sc 3 0 1 n2 c2]),oC q2]) (.k [3] [false] [.tmp 1 false,.tmp 4 true,.cell 2 4 false] [1,4,6,10,83,84,85] ⟨trF h2,trivial⟩) ?_
     refine .then (.rK ?_)
     refine .ghs (fr 110 [(1,pt 1 0),(4,(pt 2 0)),(6,(zY z10)),(10,zI x0),(83,Sl.v 1 s3),(84,zI z11),(85,(zI (Int.ofNat k1))),(90,Sl.v 1 s4),(91,(zI (Int.ofNat (Sl.n s4)))),(92,(zI (0:Int)))]) (hT 4 [(oC [zI z13,zI z14,zI z15,Sl.v 1 s4]),(oC [zI z16,zI z17,zI z18,Sl.v 1 s5,sc 3 0 1 n2 c2]),oC q2]) (.k [3] [false] [.tmp 1 false,.tmp 4 true,.cell 2 4 false] [1,4,6,10,83,84,85,90,91,92] ⟨trF h2,trivial⟩) ?_
     refine .block ?_
     refine .loopM (v:=v) (fun y:Int×Int×Sl×Int×Int×Sl×Int×Int×Int×Int×Int×Sl×Int×Int×Int×Sl×Nat×Nat×LV=>((fr 110 [(1,pt 1 0),(4,(pt 2 0)),(6,(zY y.1)),(10,(zI y.2.1)),(83,(Sl.v 1 y.2.2.1)),(84,(zI y.2.2.2.1)),(85,(zI y.2.2.2.2.1)),(90,(Sl.v 1 y.2.2.2.2.2.1)),(91,(zI y.2.2.2.2.2.2.1)),(92,(zI y.2.2.2.2.2.2.2.1))]),(hT 4 [(oC [(zI y.2.2.2.2.2.2.2.2.1),(zI y.2.2.2.2.2.2.2.2.2.1),(zI y.2.2.2.2.2.2.2.2.2.2.1),(Sl.v 1 y.2.2.2.2.2.2.2.2.2.2.2.1)]),(oC [(zI y.2.2.2.2.2.2.2.2.2.2.2.2.1),(zI y.2.2.2.2.2.2.2.2.2.2.2.2.2.1),(zI y.2.2.2.2.2.2.2.2.2.2.2.2.2.2.1),(Sl.v 1 y.2.2.2.2.2.2.2.2.2.2.2.2.2.2.2.1),(sc 3 0 1 y.2.2.2.2.2.2.2.2.2.2.2.2.2.2.2.2.1 y.2.2.2.2.2.2.2.2.2.2.2.2.2.2.2.2.2.1)]),(oC y.2.2.2.2.2.2.2.2.2.2.2.2.2.2.2.2.2.2)]))) (fun w y=>l55_5 pu n (l55_3 pu n w0) w y.1 y.2.1 y.2.2.1 y.2.2.2.1 y.2.2.2.2.1 y.2.2.2.2.2.1 y.2.2.2.2.2.2.1 y.2.2.2.2.2.2.2.1 y.2.2.2.2.2.2.2.2.1 y.2.2.2.2.2.2.2.2.2.1 y.2.2.2.2.2.2.2.2.2.2.1 y.2.2.2.2.2.2.2.2.2.2.2.1 y.2.2.2.2.2.2.2.2.2.2.2.2.1 y.2.2.2.2.2.2.2.2.2.2.2.2.2.1 y.2.2.2.2.2.2.2.2.2.2.2.2.2.2.1 y.2.2.2.2.2.2.2.2.2.2.2.2.2.2.2.1 y.2.2.2.2.2.2.2.2.2.2.2.2.2.2.2.2.1 y.2.2.2.2.2.2.2.2.2.2.2.2.2.2.2.2.2.1 y.2.2.2.2.2.2.2.2.2.2.2.2.2.2.2.2.2.2) n ⟨(z10,x0,s3,z11,(Int.ofNat k1),s4,(Int.ofNat (Sl.n s4)),(0:Int),z13,z14,z15,s4,z16,z17,z18,s5,n2,c2,q2),hm,(.k [3] [false] [.tmp 1 false,.tmp 4 true,.cell 2 4 false] [1,4,6,10,83,84,85,90,91,92] ⟨trF h2,trivial⟩)⟩ (fun _=>rfl) ?_
     rintro w1 ⟨z28,z29,s9,z30,z31,s10,z32,z33,z34,z35,z36,s11,z37,z38,z39,s12,n4,c5,q4⟩ hm
     replace hm:b55_5 pu n (l55_3 pu n w0) (l55_5 pu n (l55_3 pu n w0) w1) z28 z29 s9 z30 z31 s10 z32 z33 z34 z35 z36 s11 z37 z38 z39 s12 n4 c5 q4 = some v:=hm
     unfold b55_5 at hm
     refine .then (.rK ?_)
     replace hm:=bb_inv hm;obtain ⟨h8,hm⟩:=hm
     refine .ghs (fr 110 [(1,pt 1 0),(4,(pt 2 0)),(6,(zY z28)),(10,zI z29),(83,Sl.v 1 s9),(84,zI z30),(85,zI z31),(90,Sl.v 1 s10),(91,zI z32),(92,zI z33),(93,(zB (ilt z33 z32)))]) (hT 4 [(oC [zI z34,zI z35,zI z36,Sl.v 1 s11]),(oC [zI z37,zI z38,zI z39,Sl.v 1 s12,sc 3 0 1 n4 c5]),oC q4]) (.k [3] [false] [.tmp 1 false,.tmp 4 true,.cell 2 4 false] [1,4,6,10,83,84,85,90,91,92,93] ⟨trF h8,trivial⟩) ?_
     refine .then ?_
     replace hm:=bb_cases hm;rcases hm with ⟨h9,hm⟩ | ⟨h9,hm⟩
     ·refine .ifT (ilt z33 z32) (by kernel_rfl) h9 ?_
      refine .skip ?_
      refine .ghs (fr 110 [(1,pt 1 0),(4,(pt 2 0)),(6,(zY z28)),(10,zI z29),(83,Sl.v 1 s9),(84,zI z30),(85,zI z31),(90,Sl.v 1 s10),(91,zI z32),(92,zI z33)]) (hT 4 [(oC [zI z34,zI z35,zI z36,Sl.v 1 s11]),(oC [zI z37,zI z38,zI z39,Sl.v 1 s12,sc 3 0 1 n4 c5]),oC q4]) (.k [3] [false] [.tmp 1 false,.tmp 4 true,.cell 2 4 false] [1,4,6,10,83,84,85,90,91,92] ⟨trF h8,trivial⟩) ?_
      refine .then ?_
      refine .block ?_
      refine .then ?_
      replace hm:=oo_inv hm;obtain ⟨k2,h10,hm⟩:=hm
      obtain rfl:=toN_some h10
      replace hm:=bb_inv hm;obtain ⟨h11,hm⟩:=hm
      replace hm:=oo_inv hm;obtain ⟨v1,h12,hm⟩:=hm
      replace hm:=inv_toI hm;obtain ⟨x1,rfl,hm⟩:=hm
      refine .reg (eD (keep (hT 4 [(oC [zI z34,zI z35,zI z36,Sl.v 1 s11]),(oC [zI z37,zI z38,zI z39,Sl.v 1 s12,sc 3 0 1 n4 c5]),oC q4]) (bb (an (Nat.blt k2 (Sl.n s10)) true) (some (fpV (k2 * 1) (Sl.cs s10))) none)) (keep_bb h11) (eD (keep (hT 4 [(oC [zI z34,zI z35,zI z36,Sl.v 1 s11]),(oC [zI z37,zI z38,zI z39,Sl.v 1 s12,sc 3 0 1 n4 c5]),oC q4]) (nthL (Sl.cs s10) (k2 * 1))) (keep_eq h12) (eE))) ?_
      refine .ghs (fr 110 [(1,pt 1 0),(4,(pt 2 0)),(6,(zY z28)),(10,zI z29),(12,zI x1),(83,Sl.v 1 s9),(84,zI z30),(85,zI z31),(90,Sl.v 1 s10),(91,zI z32),(92,(zI (Int.ofNat k2)))]) (hT 4 [(oC [zI z34,zI z35,zI z36,Sl.v 1 s11]),(oC [zI z37,zI z38,zI z39,Sl.v 1 s12,sc 3 0 1 n4 c5]),oC q4]) (.k [3] [false] [.tmp 1 false,.tmp 4 true,.cell 2 4 false] [1,4,6,10,12,83,84,85,90,91,92] ⟨trF h8,trivial⟩) ?_
      refine .then ?_
      replace hm:=oo_inv hm;obtain ⟨v2,h13,hm⟩:=hm
      replace hm:=inv_vAgg hm;obtain ⟨l0,rfl,hm⟩:=hm
      replace hm:=ll_uncons hm;obtain ⟨v3,l7018_0,rfl,hm⟩:=hm
      replace hm:=ll_uncons hm;obtain ⟨v4,l7018_1,rfl,hm⟩:=hm
      replace hm:=ll_end hm;obtain ⟨rfl,hm⟩:=hm
      replace hm:=inv_toI hm;obtain ⟨x2,rfl,hm⟩:=hm
      replace hm:=inv_vBool hm;obtain ⟨b0,rfl,hm⟩:=hm
      replace hm:=oo_inv hm;obtain ⟨v5,h14,hm⟩:=hm
      replace hm:=inv_vAgg hm;obtain ⟨l1,rfl,hm⟩:=hm
      replace hm:=ll_uncons hm;obtain ⟨v6,l7028_0,rfl,hm⟩:=hm
      replace hm:=ll_uncons hm;obtain ⟨v7,l7028_1,rfl,hm⟩:=hm
      replace hm:=ll_end hm;obtain ⟨rfl,hm⟩:=hm
      replace hm:=inv_toI hm;obtain ⟨x3,rfl,hm⟩:=hm
      replace hm:=inv_vBool hm;obtain ⟨b1,rfl,hm⟩:=hm
      replace hm:=oo_inv hm;obtain ⟨v8,h15,hm⟩:=hm
      replace hm:=inv_vAgg hm;obtain ⟨l2,rfl,hm⟩:=hm
      replace hm:=ll_uncons hm;obtain ⟨v9,l7038_0,rfl,hm⟩:=hm
      replace hm:=ll_uncons hm;obtain ⟨v10,l7038_1,rfl,hm⟩:=hm
      replace hm:=ll_end hm;obtain ⟨rfl,hm⟩:=hm
      replace hm:=inv_toI hm;obtain ⟨x4,rfl,hm⟩:=hm
      replace hm:=inv_vBool hm;obtain ⟨b2,rfl,hm⟩:=hm
      replace hm:=oo_inv hm;obtain ⟨v11,h16,hm⟩:=hm
      replace hm:=inv_toI hm;obtain ⟨x5,rfl,hm⟩:=hm
      refine .reg (eC 1 ((oo (pu 75 [zI z29]) none fun v=>some (v,(hT 4 [(oC [zI z34,zI z35,zI z36,Sl.v 1 s11]),(oC [zI z37,zI z38,zI z39,Sl.v 1 s12,sc 3 0 1 n4 c5]),oC q4])))) (call_eq h13) (eC 1 ((oo (pu 75 [zI x1]) none fun v=>some (v,(hT 4 [(oC [zI z34,zI z35,zI z36,Sl.v 1 s11]),(oC [zI z37,zI z38,zI z39,Sl.v 1 s12,sc 3 0 1 n4 c5]),oC q4])))) (call_eq h14) (eD ((oo (pu 76 [(.agg ⟨[zI x2,zB b0]⟩),(.agg ⟨[zI x3,zB b1]⟩)]) none fun v=>some (v,(hT 4 [(oC [zI z34,zI z35,zI z36,Sl.v 1 s11]),(oC [zI z37,zI z38,zI z39,Sl.v 1 s12,sc 3 0 1 n4 c5]),oC q4])))) (call_eq h15) (eD ((oo (pu 77 [(.agg ⟨[zI x4,zB b2]⟩)]) none fun v=>some (v,(hT 4 [(oC [zI z34,zI z35,zI z36,Sl.v 1 s11]),(oC [zI z37,zI z38,zI z39,Sl.v 1 s12,sc 3 0 1 n4 c5]),oC q4])))) (call_eq h16) (eE))))) ?_
      refine .ghs (fr 110 [(1,pt 1 0),(4,(pt 2 0)),(6,(zY z28)),(10,zI z29),(13,zI x5),(83,Sl.v 1 s9),(84,zI z30),(85,zI z31),(90,Sl.v 1 s10),(91,zI z32),(92,(zI (Int.ofNat k2)))]) (hT 4 [(oC [zI z34,zI z35,zI z36,Sl.v 1 s11]),(oC [zI z37,zI z38,zI z39,Sl.v 1 s12,sc 3 0 1 n4 c5]),oC q4]) (.k [3] [false] [.tmp 1 false,.tmp 4 true,.cell 2 4 false] [1,4,6,10,13,83,84,85,90,91,92] ⟨trF h8,trivial⟩) ?_
      refine .then ?_
      replace hm:=oo_inv hm;obtain ⟨k3,h17,hm⟩:=hm
      obtain rfl:=toN_some h17
      refine .rK ?_
      refine .ghs (fr 110 [(1,pt 1 0),(4,(pt 2 0)),(6,(zY z28)),(10,zI z29),(83,Sl.v 1 s9),(84,zI z30),(85,zI z31),(90,Sl.v 1 s10),(91,zI z32),(92,(zI (Int.ofNat k2))),(106,(zB (ieq (aand .u8 (shrI .u8 z28 k3) (1:Int)) (0:Int))))]) (hT 4 [(oC [zI z34,zI z35,zI z36,Sl.v 1 s11]),(oC [zI z37,zI z38,zI z39,Sl.v 1 s12,sc 3 0 1 n4 c5]),oC q4]) (.k [3] [false] [.tmp 1 false,.tmp 4 true,.cell 2 4 false] [1,4,6,10,83,84,85,90,91,92,106] ⟨trF h8,trivial⟩) ?_
      replace hm:=bb_cases hm;rcases hm with ⟨h18,hm⟩ | ⟨h18,hm⟩
      ·refine .ifT (ieq (aand .u8 (shrI .u8 z28 k3) (1 : Int)) (0 : Int)) (by kernel_rfl) h18 ?_
       refine .then (.rK ?_)
       refine .ghs (fr 110 [(2,(.pointer none)),(3,(zI (21:Int)))]) (hp 1 [(oT tab0)]) (.k0 [false] [] [2,3]) ?_
       refine .ret ?_
       exact fin_ret (.tuple ⟨[(.pointer none),(zI (21:Int))]⟩) (by kernel_rfl) (by kernel_rfl) hm
      ·refine .ifF (ieq (aand .u8 (shrI .u8 z28 k3) (1 : Int)) (0 : Int)) (by kernel_rfl) h18 ?_
       refine .skip ?_
       refine .ghs (fr 110 [(1,pt 1 0),(4,(pt 2 0)),(6,(zY z28)),(10,zI z29),(83,Sl.v 1 s9),(84,zI z30),(85,zI z31),(90,Sl.v 1 s10),(91,zI z32),(92,(zI (Int.ofNat k2)))]) (hT 4 [(oC [zI z34,zI z35,zI z36,Sl.v 1 s11]),(oC [zI z37,zI z38,zI z39,Sl.v 1 s12,sc 3 0 1 n4 c5]),oC q4]) (.k [3] [false] [.tmp 1 false,.tmp 4 true,.cell 2 4 false] [1,4,6,10,83,84,85,90,91,92] ⟨trF h8,trivial⟩) ?_
       refine .rK ?_
       exact ⟨(z28,z29,s9,z30,z31,s10,z32,(wrapF .i64 (Int.add (Int.ofNat k2) (1:Int))),z34,z35,z36,s11,z37,z38,z39,s12,n4,c5,q4),hm,(.k [3] [false] [.tmp 1 false,.tmp 4 true,.cell 2 4 false] [1,4,6,10,83,84,85,90,91,92] ⟨trF h8,trivial⟩)⟩
     ·refine .ifF (ilt z33 z32) (by kernel_rfl) h9 ?_
      refine .exit ?_
      exact ⟨(z28,s9,z30,z31,z34,z35,z36,s11,z37,z38,z39,s12,n4,c5,q4),hm,(.k [3] [false] [.tmp 1 false,.tmp 4 true,.cell 2 4 false] [1,4,6,83,84,85] ⟨trF h8,trivial⟩)⟩
   ·refine .ifF (ilt z12 z11) (by kernel_rfl) h3 ?_
    refine .exit ?_
    exact ⟨(z16,z17,z18,s5,n2,c2,q2),hm,(.k [3] [false] [.tmp 4 true,.cell 1 4 false] [4] ⟨trF h2,trivial⟩)⟩
theorem r55 {call:CallF} (pu:PureF) (n:Nat) (hcall:call = callP tabs isP pu (inl pu)) {args:LV} {v:Value} (hm:m55 pu n args = some v) (_:∀ x ∈ args,closed2 x = true):args.length≤110∧Run tt call 1 c55_91 (Fr.made 110 args) (pureHeap tabs) (Fin tt 1 [.tmp 2,.tmp 3] v):=by
 subst hcall
 unfold m55 at hm
 replace hm:=ll_uncons hm;obtain ⟨a0,args_0,rfl,hm⟩:=hm
 replace hm:=ll_end hm;obtain ⟨rfl,hm⟩:=hm
 replace hm:=inv_vAgg hm;obtain ⟨l0,rfl,hm⟩:=hm
 replace hm:=ll_uncons hm;obtain ⟨v0,l5253_0,rfl,hm⟩:=hm
 replace hm:=ll_uncons hm;obtain ⟨v1,l5253_1,rfl,hm⟩:=hm
 replace hm:=ll_uncons hm;obtain ⟨v2,l5253_2,rfl,hm⟩:=hm
 replace hm:=ll_uncons hm;obtain ⟨v3,l5253_3,rfl,hm⟩:=hm
 replace hm:=ll_end hm;obtain ⟨rfl,hm⟩:=hm
 replace hm:=inv_toI hm;obtain ⟨x0,rfl,hm⟩:=hm
 replace hm:=inv_toI hm;obtain ⟨x1,rfl,hm⟩:=hm
 replace hm:=inv_toI hm;obtain ⟨x2,rfl,hm⟩:=hm
 replace hm:=inv_toSl hm;obtain ⟨s0,rfl,hm⟩:=hm
 unfold m55_ at hm
 refine ⟨by simp,?_⟩
 refine .same (F':=(fr 110 [(0,(.agg ⟨[zI x0,zI x1,zI x2,Sl.v 1 s0]⟩))])) (H':=(hp 1 [(oT tab0)])) (by kernel_rfl) (by kernel_rfl) ?_
 refine .then (.rK ?_)
 refine .ghs (fr 110 [(1,pt 1 0)]) (hT 2 [(oC [zI x0,zI x1,zI x2,Sl.v 1 s0])]) (.k0 [false] [.tmp 1 false] [1]) ?_
 refine .then ?_
 refine .join (v:=v) (fun y:Bool×Int×Int×Int×Sl=>((fr 110 [(1,pt 1 0),(29,(zB y.1))]),(hT 2 [(oC [(zI y.2.1),(zI y.2.2.1),(zI y.2.2.2.1),(Sl.v 1 y.2.2.2.2)])]))) (fun y=>m55_0 pu n y.1 y.2.1 y.2.2.1 y.2.2.2.1 y.2.2.2.2) ?_ ?_
 ·rintro ⟨b0, z0, z1, z2, s1⟩ hm
  unfold m55_0 at hm
  replace hm:=bb_cases hm;rcases hm with ⟨h0,hm⟩ | ⟨h0,hm⟩
  ·refine .ifT b0 (by kernel_rfl) h0 ?_
   refine .then (.rK ?_)
   refine .ghs (fr 110 [(2,(.pointer none)),(3,(zI (1:Int)))]) (hp 1 [(oT tab0)]) (.k0 [false] [] [2,3]) ?_
   refine .ret ?_
   exact fin_ret (.tuple ⟨[(.pointer none),(zI (1:Int))]⟩) (by kernel_rfl) (by kernel_rfl) hm
  ·refine .ifF b0 (by kernel_rfl) h0 ?_
   refine .skip ?_
   refine .ghs (fr 110 [(1,pt 1 0)]) (hT 2 [(oC [zI z0,zI z1,zI z2,Sl.v 1 s1])]) (.k0 [false] [.tmp 1 false] [1]) ?_
   refine .then (.rK ?_)
   refine .ghs (fr 110 [(1,pt 1 0),(4,(pt 2 0))]) (hT 3 [(oC [zI z0,zI z1,zI z2,Sl.v 1 s1]),(oC [zI z0,zI z1,zI z2,Sl.v 1 s1,(.slice none 0 0)])]) (.k0 [false] [.tmp 1 false,.tmp 4 false] [1,4]) ?_
   refine .then (.rK ?_)
   refine .ghs (fr 110 [(1,pt 1 0),(4,(pt 2 0)),(5,(zI (-1:Int)))]) (hT 3 [(oC [zI z0,zI z1,zI z2,Sl.v 1 s1]),(oC [zI z0,zI z1,zI z2,Sl.v 1 s1,(.slice none 0 0)])]) (.k0 [false] [.tmp 1 false,.tmp 4 false] [1,4,5]) ?_
   refine .then (.rK ?_)
   refine .ghs (fr 110 [(1,pt 1 0),(4,(pt 2 0)),(5,(zI (-1:Int))),(6,(zY (0:Int)))]) (hT 3 [(oC [zI z0,zI z1,zI z2,Sl.v 1 s1]),(oC [zI z0,zI z1,zI z2,Sl.v 1 s1,(.slice none 0 0)])]) (.k0 [false] [.tmp 1 false,.tmp 4 false] [1,4,5,6]) ?_
   refine .join (v:=v) (fun y:Int×Int×Int×Int×Sl×Int×Int×Int×Sl×Nat×Nat×LV=>((fr 110 [(1,pt 1 0),(4,(pt 2 0)),(6,(zY y.1))]),(hT 4 [(oC [(zI y.2.1),(zI y.2.2.1),(zI y.2.2.2.1),(Sl.v 1 y.2.2.2.2.1)]),(oC [(zI y.2.2.2.2.2.1),(zI y.2.2.2.2.2.2.1),(zI y.2.2.2.2.2.2.2.1),(Sl.v 1 y.2.2.2.2.2.2.2.2.1),(sc 3 0 1 y.2.2.2.2.2.2.2.2.2.1 y.2.2.2.2.2.2.2.2.2.2.1)]),(oC y.2.2.2.2.2.2.2.2.2.2.2)]))) (fun y=>m55_1 pu n y.1 y.2.1 y.2.2.1 y.2.2.2.1 y.2.2.2.2.1 y.2.2.2.2.2.1 y.2.2.2.2.2.2.1 y.2.2.2.2.2.2.2.1 y.2.2.2.2.2.2.2.2.1 y.2.2.2.2.2.2.2.2.2.1 y.2.2.2.2.2.2.2.2.2.2.1 y.2.2.2.2.2.2.2.2.2.2.2) ?_ ?_
   ·rintro ⟨z3, z4, z5, z6, s2, z7, z8, z9, s3, n0, c0, q0⟩ hm
    exact w55_1 pu n z3 z4 z5 z6 s2 z7 z8 z9 s3 n0 c0 q0 hm
   ·refine .then (.rK ?_)
    refine .ghs (fr 110 [(1,pt 1 0),(4,(pt 2 0)),(5,(zI (-1:Int))),(6,(zY (0:Int))),(34,Sl.v 1 s1),(35,(zI (Int.ofNat (Sl.n s1)))),(36,(zI (0:Int)))]) (hT 3 [(oC [zI z0,zI z1,zI z2,Sl.v 1 s1]),(oC [zI z0,zI z1,zI z2,Sl.v 1 s1,(.slice none 0 0)])]) (.k0 [false] [.tmp 1 false,.tmp 4 false] [1,4,5,6,34,35,36]) ?_
    refine .block ?_
    refine .loopM (v:=v) (fun y:Int×Int×Sl×Int×Int×Int×Int×Int×Sl×Int×Int×Int×Sl×Nat×Nat×LV=>((fr 110 [(1,pt 1 0),(4,(pt 2 0)),(5,(zI y.1)),(6,(zY y.2.1)),(34,(Sl.v 1 y.2.2.1)),(35,(zI y.2.2.2.1)),(36,(zI y.2.2.2.2.1))]),(hT 4 [(oC [(zI y.2.2.2.2.2.1),(zI y.2.2.2.2.2.2.1),(zI y.2.2.2.2.2.2.2.1),(Sl.v 1 y.2.2.2.2.2.2.2.2.1)]),(oC [(zI y.2.2.2.2.2.2.2.2.2.1),(zI y.2.2.2.2.2.2.2.2.2.2.1),(zI y.2.2.2.2.2.2.2.2.2.2.2.1),(Sl.v 1 y.2.2.2.2.2.2.2.2.2.2.2.2.1),(sc 3 0 1 y.2.2.2.2.2.2.2.2.2.2.2.2.2.1 y.2.2.2.2.2.2.2.2.2.2.2.2.2.2.1)]),(oC y.2.2.2.2.2.2.2.2.2.2.2.2.2.2.2)]))) (fun w y=>l55_6 pu n w y.1 y.2.1 y.2.2.1 y.2.2.2.1 y.2.2.2.2.1 y.2.2.2.2.2.1 y.2.2.2.2.2.2.1 y.2.2.2.2.2.2.2.1 y.2.2.2.2.2.2.2.2.1 y.2.2.2.2.2.2.2.2.2.1 y.2.2.2.2.2.2.2.2.2.2.1 y.2.2.2.2.2.2.2.2.2.2.2.1 y.2.2.2.2.2.2.2.2.2.2.2.2.1 y.2.2.2.2.2.2.2.2.2.2.2.2.2.1 y.2.2.2.2.2.2.2.2.2.2.2.2.2.2.1 y.2.2.2.2.2.2.2.2.2.2.2.2.2.2.2) n ⟨((-1:Int),(0:Int),s1,(Int.ofNat (Sl.n s1)),(0:Int),z0,z1,z2,s1,z0,z1,z2,s1,0,0,([]:LV)),hm,(.thawC 2 4 1 [zI z0,zI z1,zI z2,Sl.v 1 s1,(.slice none 0 0)] (imm:=false) (spent:=false) (anc:=[]) (by kernel_rfl) (by kernel_rfl) (by kernel_rfl) (by kernel_rfl) (.k0 [false] [.tmp 1 false,.tmp 4 true,.cell 2 4 false] [1,4,5,6,34,35,36]))⟩ (fun _=>rfl) ?_
    rintro w0 ⟨z10,z11,s4,z12,z13,z14,z15,z16,s5,z17,z18,z19,s6,n1,c1,q1⟩ hm
    replace hm:b55_6 pu n (l55_6 pu n w0) z10 z11 s4 z12 z13 z14 z15 z16 s5 z17 z18 z19 s6 n1 c1 q1 = some v:=hm
    unfold b55_6 at hm
    refine .then (.rK ?_)
    replace hm:=bb_inv hm;obtain ⟨h1,hm⟩:=hm
    refine .ghs (fr 110 [(1,pt 1 0),(4,(pt 2 0)),(5,zI z10),(6,(zY z11)),(34,Sl.v 1 s4),(35,zI z12),(36,zI z13),(37,(zB (ilt z13 z12)))]) (hT 4 [(oC [zI z14,zI z15,zI z16,Sl.v 1 s5]),(oC [zI z17,zI z18,zI z19,Sl.v 1 s6,sc 3 0 1 n1 c1]),oC q1]) (.k [3] [false] [.tmp 1 false,.tmp 4 true,.cell 2 4 false] [1,4,5,6,34,35,36,37] ⟨trF h1,trivial⟩) ?_
    refine .then ?_
    replace hm:=bb_cases hm;rcases hm with ⟨h2,hm⟩ | ⟨h2,hm⟩
    ·refine .ifT (ilt z13 z12) (by kernel_rfl) h2 ?_
     refine .skip ?_
     refine .ghs (fr 110 [(1,pt 1 0),(4,(pt 2 0)),(5,zI z10),(6,(zY z11)),(34,Sl.v 1 s4),(35,zI z12),(36,zI z13)]) (hT 4 [(oC [zI z14,zI z15,zI z16,Sl.v 1 s5]),(oC [zI z17,zI z18,zI z19,Sl.v 1 s6,sc 3 0 1 n1 c1]),oC q1]) (.k [3] [false] [.tmp 1 false,.tmp 4 true,.cell 2 4 false] [1,4,5,6,34,35,36] ⟨trF h1,trivial⟩) ?_
     refine .then ?_
     refine .block ?_
     refine .then ?_
     replace hm:=oo_inv hm;obtain ⟨k1,h3,hm⟩:=hm
     obtain rfl:=toN_some h3
     replace hm:=bb_inv hm;obtain ⟨h4,hm⟩:=hm
     replace hm:=oo_inv hm;obtain ⟨v4,h5,hm⟩:=hm
     replace hm:=inv_toI hm;obtain ⟨x3,rfl,hm⟩:=hm
     refine .reg (eD (keep (hT 4 [(oC [zI z14,zI z15,zI z16,Sl.v 1 s5]),(oC [zI z17,zI z18,zI z19,Sl.v 1 s6,sc 3 0 1 n1 c1]),oC q1]) (bb (an (Nat.blt k1 (Sl.n s4)) true) (some (fpV (k1 * 1) (Sl.cs s4))) none)) (keep_bb h4) (eD (keep (hT 4 [(oC [zI z14,zI z15,zI z16,Sl.v 1 s5]),(oC [zI z17,zI z18,zI z19,Sl.v 1 s6,sc 3 0 1 n1 c1]),oC q1]) (nthL (Sl.cs s4) (k1 * 1))) (keep_eq h5) (eE))) ?_
     refine .ghs (fr 110 [(1,pt 1 0),(4,(pt 2 0)),(5,zI z10),(6,(zY z11)),(8,zI x3),(34,Sl.v 1 s4),(35,zI z12),(36,(zI (Int.ofNat k1)))]) (hT 4 [(oC [zI z14,zI z15,zI z16,Sl.v 1 s5]),(oC [zI z17,zI z18,zI z19,Sl.v 1 s6,sc 3 0 1 n1 c1]),oC q1]) (.k [3] [false] [.tmp 1 false,.tmp 4 true,.cell 2 4 false] [1,4,5,6,8,34,35,36] ⟨trF h1,trivial⟩) ?_
     refine .then ?_
     refine .block ?_
     refine .then ?_
     replace hm:=oo_inv hm;obtain ⟨v5,h6,hm⟩:=hm
     replace hm:=inv_vBool hm;obtain ⟨b1,rfl,hm⟩:=hm
     refine .reg (eC 1 ((oo (pu 59 [(zI (0:Int)),zI x3,(zI (7:Int))]) none fun v=>some (v,(hT 4 [(oC [zI z14,zI z15,zI z16,Sl.v 1 s5]),(oC [zI z17,zI z18,zI z19,Sl.v 1 s6,sc 3 0 1 n1 c1]),oC q1])))) (call_eq h6) (eE)) ?_
     refine .ghs (fr 110 [(1,pt 1 0),(4,(pt 2 0)),(5,zI z10),(6,(zY z11)),(8,zI x3),(34,Sl.v 1 s4),(35,zI z12),(36,(zI (Int.ofNat k1))),(40,(zB (nt b1)))]) (hT 4 [(oC [zI z14,zI z15,zI z16,Sl.v 1 s5]),(oC [zI z17,zI z18,zI z19,Sl.v 1 s6,sc 3 0 1 n1 c1]),oC q1]) (.k [3] [false] [.tmp 1 false,.tmp 4 true,.cell 2 4 false] [1,4,5,6,8,34,35,36,40] ⟨trF h1,trivial⟩) ?_
     replace hm:=bb_cases hm;rcases hm with ⟨h7,hm⟩ | ⟨h7,hm⟩
     ·refine .ifT (nt b1) (by kernel_rfl) h7 ?_
      refine .then (.rK ?_)
      refine .ghs (fr 110 [(2,(.pointer none)),(3,(zI (2:Int)))]) (hp 1 [(oT tab0)]) (.k0 [false] [] [2,3]) ?_
      refine .ret ?_
      exact fin_ret (.tuple ⟨[(.pointer none),(zI (2:Int))]⟩) (by kernel_rfl) (by kernel_rfl) hm
     ·refine .ifF (nt b1) (by kernel_rfl) h7 ?_
      refine .join (v:=v) (fun y:Int×Int×Int×Sl×Int×Int×Bool×Int×Int×Int×Sl×Int×Int×Int×Sl×Nat×Nat×LV=>((fr 110 [(1,pt 1 0),(4,(pt 2 0)),(5,(zI y.1)),(6,(zY y.2.1)),(8,(zI y.2.2.1)),(34,(Sl.v 1 y.2.2.2.1)),(35,(zI y.2.2.2.2.1)),(36,(zI y.2.2.2.2.2.1)),(44,(zB y.2.2.2.2.2.2.1))]),(hT 4 [(oC [(zI y.2.2.2.2.2.2.2.1),(zI y.2.2.2.2.2.2.2.2.1),(zI y.2.2.2.2.2.2.2.2.2.1),(Sl.v 1 y.2.2.2.2.2.2.2.2.2.2.1)]),(oC [(zI y.2.2.2.2.2.2.2.2.2.2.2.1),(zI y.2.2.2.2.2.2.2.2.2.2.2.2.1),(zI y.2.2.2.2.2.2.2.2.2.2.2.2.2.1),(Sl.v 1 y.2.2.2.2.2.2.2.2.2.2.2.2.2.2.1),(sc 3 0 1 y.2.2.2.2.2.2.2.2.2.2.2.2.2.2.2.1 y.2.2.2.2.2.2.2.2.2.2.2.2.2.2.2.2.1)]),(oC y.2.2.2.2.2.2.2.2.2.2.2.2.2.2.2.2.2)]))) (fun y=>m55_7 pu n (l55_6 pu n w0) y.1 y.2.1 y.2.2.1 y.2.2.2.1 y.2.2.2.2.1 y.2.2.2.2.2.1 y.2.2.2.2.2.2.1 y.2.2.2.2.2.2.2.1 y.2.2.2.2.2.2.2.2.1 y.2.2.2.2.2.2.2.2.2.1 y.2.2.2.2.2.2.2.2.2.2.1 y.2.2.2.2.2.2.2.2.2.2.2.1 y.2.2.2.2.2.2.2.2.2.2.2.2.1 y.2.2.2.2.2.2.2.2.2.2.2.2.2.1 y.2.2.2.2.2.2.2.2.2.2.2.2.2.2.1 y.2.2.2.2.2.2.2.2.2.2.2.2.2.2.2.1 y.2.2.2.2.2.2.2.2.2.2.2.2.2.2.2.2.1 y.2.2.2.2.2.2.2.2.2.2.2.2.2.2.2.2.2) ?_ ?_
      ·rintro ⟨z20, z21, z22, s7, z23, z24, b2, z25, z26, z27, s8, z28, z29, z30, s9, n2, c2, q2⟩ hm
       unfold m55_7 at hm
       replace hm:=bb_cases hm;rcases hm with ⟨h8,hm⟩ | ⟨h8,hm⟩
       ·refine .ifT b2 (by kernel_rfl) h8 ?_
        refine .then (.rK ?_)
        refine .ghs (fr 110 [(2,(.pointer none)),(3,(zI (8:Int)))]) (hp 1 [(oT tab0)]) (.k0 [false] [] [2,3]) ?_
        refine .ret ?_
        exact fin_ret (.tuple ⟨[(.pointer none),(zI (8:Int))]⟩) (by kernel_rfl) (by kernel_rfl) hm
       ·refine .ifF b2 (by kernel_rfl) h8 ?_
        refine .then (.rK ?_)
        replace hm:=bb_inv hm;obtain ⟨h9,hm⟩:=hm
        refine .ghs (fr 110 [(1,pt 1 0),(4,(pt 2 0)),(6,(zY z21)),(8,zI z22),(34,Sl.v 1 s7),(35,zI z23),(36,zI z24),(57,(zB (nt (ilt z20 z22))))]) (hT 4 [(oC [zI z25,zI z26,zI z27,Sl.v 1 s8]),(oC [zI z28,zI z29,zI z30,Sl.v 1 s9,sc 3 0 1 n2 c2]),oC q2]) (.k [3] [false] [.tmp 1 false,.tmp 4 true,.cell 2 4 false] [1,4,6,8,34,35,36,57] ⟨trF h9,trivial⟩) ?_
        replace hm:=bb_cases hm;rcases hm with ⟨h10,hm⟩ | ⟨h10,hm⟩
        ·refine .ifT (nt (ilt z20 z22)) (by kernel_rfl) h10 ?_
         refine .then (.rK ?_)
         refine .ghs (fr 110 [(2,(.pointer none)),(3,(zI (7:Int)))]) (hp 1 [(oT tab0)]) (.k0 [false] [] [2,3]) ?_
         refine .ret ?_
         exact fin_ret (.tuple ⟨[(.pointer none),(zI (7:Int))]⟩) (by kernel_rfl) (by kernel_rfl) hm
        ·refine .ifF (nt (ilt z20 z22)) (by kernel_rfl) h10 ?_
         refine .skip ?_
         refine .ghs (fr 110 [(1,pt 1 0),(4,(pt 2 0)),(6,(zY z21)),(8,zI z22),(34,Sl.v 1 s7),(35,zI z23),(36,zI z24)]) (hT 4 [(oC [zI z25,zI z26,zI z27,Sl.v 1 s8]),(oC [zI z28,zI z29,zI z30,Sl.v 1 s9,sc 3 0 1 n2 c2]),oC q2]) (.k [3] [false] [.tmp 1 false,.tmp 4 true,.cell 2 4 false] [1,4,6,8,34,35,36] ⟨trF h9,trivial⟩) ?_
         refine .then (.rK ?_)
         refine .ghs (fr 110 [(1,pt 1 0),(4,(pt 2 0)),(5,zI z22),(6,(zY z21)),(8,zI z22),(34,Sl.v 1 s7),(35,zI z23),(36,zI z24)]) (hT 4 [(oC [zI z25,zI z26,zI z27,Sl.v 1 s8]),(oC [zI z28,zI z29,zI z30,Sl.v 1 s9,sc 3 0 1 n2 c2]),oC q2]) (.k [3] [false] [.tmp 1 false,.tmp 4 true,.cell 2 4 false] [1,4,5,6,8,34,35,36] ⟨trF h9,trivial⟩) ?_
         refine .then ?_
         replace hm:=oo_inv hm;obtain ⟨k2,h11,hm⟩:=hm
         obtain rfl:=toN_some h11
         refine .rK ?_
         refine .ghs (fr 110 [(1,pt 1 0),(4,(pt 2 0)),(5,(zI (Int.ofNat k2))),(6,(zY (aor .u8 z21 (shlI .u8 (1:Int) k2)))),(8,(zI (Int.ofNat k2))),(34,Sl.v 1 s7),(35,zI z23),(36,zI z24)]) (hT 4 [(oC [zI z25,zI z26,zI z27,Sl.v 1 s8]),(oC [zI z28,zI z29,zI z30,Sl.v 1 s9,sc 3 0 1 n2 c2]),oC q2]) (.k [3] [false] [.tmp 1 false,.tmp 4 true,.cell 2 4 false] [1,4,5,6,8,34,35,36] ⟨trF h9,trivial⟩) ?_
         replace hm:=oo_inv hm;obtain ⟨v6,h12,hm⟩:=hm
         replace hm:=inv_toSl hm;obtain ⟨s10,rfl,hm⟩:=hm
         replace hm:=bb_inv hm;obtain ⟨h13,hm⟩:=hm
         refine .reg (eC 7 ((oo (pu 84 [(.agg ⟨[zI z25,zI z26,zI z27,Sl.v 1 s8]⟩),(zI (Int.ofNat k2))]) none fun v=>some (v,(hT 4 [(oC [zI z25,zI z26,zI z27,Sl.v 1 s8]),(oC [zI z28,zI z29,zI z30,Sl.v 1 s9,sc 3 0 1 n2 c2]),oC q2])))) (call_eq h12) (eC 1 (growD 1 24 n2 c2 1 3 q2 [Sl.v 1 s10] [] (hT 5 [(oC [zI z25,zI z26,zI z27,Sl.v 1 s8]),(oC [zI z28,zI z29,zI z30,Sl.v 1 s9,sc 3 0 1 n2 c2]),oC q2,(oC [Sl.v 1 s10])])) (growD_eq h13) (eE))) ?_
         replace hm:=bb_inv hm;obtain ⟨h14,hm⟩:=hm
         refine .ghs (fr 110 [(1,pt 1 0),(4,(pt 2 0)),(5,(zI (Int.ofNat k2))),(6,(zY (aor .u8 z21 (shlI .u8 (1:Int) k2)))),(34,Sl.v 1 s7),(35,zI z23),(36,zI z24)]) (hT 4 [(oC [zI z25,zI z26,zI z27,Sl.v 1 s8]),(oC [zI z28,zI z29,zI z30,Sl.v 1 s9,(sc 3 0 1 (n2 + 1) (d2 (n2 + 1)))]),(oC (appL (dropL 0 q2) [Sl.v 1 s10]))]) (.k [5] [false] [.tmp 1 false,.tmp 4 true,.cell 2 4 false] [1,4,5,6,34,35,36] ⟨trF h14,trivial⟩) ?_
         refine .rK ?_
         exact ⟨((Int.ofNat k2),(aor .u8 z21 (shlI .u8 (1:Int) k2)),s7,z23,(wrapF .i64 (Int.add z24 (1:Int))),z25,z26,z27,s8,z28,z29,z30,s9,(n2 + 1),(d2 (n2 + 1)),(appL (dropL 0 q2) [Sl.v 1 s10])),hm,(.k [3] [false] [.tmp 1 false,.tmp 4 true,.cell 2 4 false] [1,4,5,6,34,35,36] ⟨trF h14,trivial⟩)⟩
      ·replace hm := bb_cases hm; rcases hm with ⟨h15, hm⟩ | ⟨h15, hm⟩
       ·replace hm := oo_inv hm; obtain ⟨v7, h16, hm⟩ := hm
        replace hm:=inv_vAgg hm;obtain ⟨l1,rfl,hm⟩:=hm
        replace hm:=ll_uncons hm;obtain ⟨v8,l7300_0,rfl,hm⟩:=hm
        replace hm:=ll_uncons hm;obtain ⟨v9,l7300_1,rfl,hm⟩:=hm
        replace hm:=ll_end hm;obtain ⟨rfl,hm⟩:=hm
        replace hm:=inv_toI hm;obtain ⟨x4,rfl,hm⟩:=hm
        replace hm:=inv_vBool hm;obtain ⟨b4,rfl,hm⟩:=hm
        refine .reg (eC 4 (some ((zB (nt (ieq z14 z15))),(hT 4 [(oC [zI z14,zI z15,zI z16,Sl.v 1 s5]),(oC [zI z17,zI z18,zI z19,Sl.v 1 s6,sc 3 0 1 n1 c1]),oC q1]))) (show _ = some ((zB true),_) from (by rw [show (nt (ieq z14 z15)) = true from h15])) (eC 2 ((oo (pu 75 [zI x3]) none fun v=>some (v,(hT 4 [(oC [zI z14,zI z15,zI z16,Sl.v 1 s5]),(oC [zI z17,zI z18,zI z19,Sl.v 1 s6,sc 3 0 1 n1 c1]),oC q1])))) (call_eq h16) (eE))) ?_
        exact ⟨(z10,z11,x3,s4,z12,(Int.ofNat k1),(ieq (Int.tmod x4 (2:Int)) (1:Int)),z14,z15,z16,s5,z17,z18,z19,s6,n1,c1,q1),hm,(.k [3] [false] [.tmp 1 false,.tmp 4 true,.cell 2 4 false] [1,4,5,6,8,34,35,36,44] ⟨trF h1,trivial⟩)⟩
       ·refine .reg (eC 4 (some ((zB (nt (ieq z14 z15))), (hT 4 [(oC [zI z14, zI z15, zI z16, Sl.v 1 s5]), (oC [zI z17, zI z18, zI z19, Sl.v 1 s6, sc 3 0 1 n1 c1]), oC q1]))) (show _ = some ((zB false), _) from (by rw [show (nt (ieq z14 z15)) = false from h15])) (eE)) ?_
        exact ⟨(z10,z11,x3,s4,z12,(Int.ofNat k1),false,z14,z15,z16,s5,z17,z18,z19,s6,n1,c1,q1),hm,(.k [3] [false] [.tmp 1 false,.tmp 4 true,.cell 2 4 false] [1,4,5,6,8,34,35,36,44] ⟨trF h1,trivial⟩)⟩
    ·refine .ifF (ilt z13 z12) (by kernel_rfl) h2 ?_
     refine .exit ?_
     exact ⟨(z11,z14,z15,z16,s5,z17,z18,z19,s6,n1,c1,q1),hm,(.k [3] [false] [.tmp 1 false,.tmp 4 true,.cell 2 4 false] [1,4,6] ⟨trF h1,trivial⟩)⟩
 ·replace hm := oo_inv hm; obtain ⟨v10, h17, hm⟩ := hm
  replace hm:=inv_vBool hm;obtain ⟨b5,rfl,hm⟩:=hm
  replace hm:=bb_cases hm;rcases hm with ⟨h18,hm⟩ | ⟨h18,hm⟩
  ·refine .reg (eC 2 ((oo (pu 59 [(zI (1 : Int)), zI x0, (zI (4 : Int))]) none fun v => some (v, (hT 2 [(oC [zI x0, zI x1, zI x2, Sl.v 1 s0])])))) (call_eq h17) (eD (some ((zB (nt b5)), (hT 2 [(oC [zI x0, zI x1, zI x2, Sl.v 1 s0])]))) (show _ = some ((zB true), _) from (by rw [show (nt b5) = true from h18])) (eE))) ?_
   exact ⟨(true,x0,x1,x2,s0),hm,(.k0 [false] [.tmp 1 false] [1,29])⟩
  ·replace hm := oo_inv hm; obtain ⟨v11, h19, hm⟩ := hm
   replace hm:=inv_vBool hm;obtain ⟨b6,rfl,hm⟩:=hm
   replace hm:=bb_cases hm;rcases hm with ⟨h20,hm⟩ | ⟨h20,hm⟩
   ·refine .reg (eC 2 ((oo (pu 59 [(zI (1 : Int)), zI x0, (zI (4 : Int))]) none fun v => some (v, (hT 2 [(oC [zI x0, zI x1, zI x2, Sl.v 1 s0])])))) (call_eq h17) (eD (some ((zB (nt b5)), (hT 2 [(oC [zI x0, zI x1, zI x2, Sl.v 1 s0])]))) (show _ = some ((zB false), _) from (by rw [show (nt b5) = false from h18])) (eC 3 ((oo (pu 59 [(zI (1 : Int)), zI x1, (zI (4 : Int))]) none fun v => some (v, (hT 2 [(oC [zI x0, zI x1, zI x2, Sl.v 1 s0])])))) (call_eq h19) (eD (some ((zB (nt b6)), (hT 2 [(oC [zI x0, zI x1, zI x2, Sl.v 1 s0])]))) (show _ = some ((zB true), _) from (by rw [show (nt b6) = true from h20])) (eE))))) ?_
    exact ⟨(true,x0,x1,x2,s0),hm,(.k0 [false] [.tmp 1 false] [1,29])⟩
   ·replace hm := oo_inv hm; obtain ⟨v12, h21, hm⟩ := hm
    replace hm:=inv_vBool hm;obtain ⟨b7,rfl,hm⟩:=hm
    refine .reg (eC 2 ((oo (pu 59 [(zI (1:Int)),zI x0,(zI (4:Int))]) none fun v=>some (v,(hT 2 [(oC [zI x0,zI x1,zI x2,Sl.v 1 s0])])))) (call_eq h17) (eD (some ((zB (nt b5)),(hT 2 [(oC [zI x0,zI x1,zI x2,Sl.v 1 s0])]))) (show _ = some ((zB false),_) from (by rw [show (nt b5) = false from h18])) (eC 3 ((oo (pu 59 [(zI (1:Int)),zI x1,(zI (4:Int))]) none fun v=>some (v,(hT 2 [(oC [zI x0,zI x1,zI x2,Sl.v 1 s0])])))) (call_eq h19) (eD (some ((zB (nt b6)),(hT 2 [(oC [zI x0,zI x1,zI x2,Sl.v 1 s0])]))) (show _ = some ((zB false),_) from (by rw [show (nt b6) = false from h20])) (eC 4 ((oo (pu 59 [(zI (1:Int)),zI x2,(zI (4:Int))]) none fun v=>some (v,(hT 2 [(oC [zI x0,zI x1,zI x2,Sl.v 1 s0])])))) (call_eq h21) (eE)))))) ?_
    exact ⟨((nt b7),x0,x1,x2,s0),hm,(.k0 [false] [.tmp 1 false] [1,29])⟩
end
end Go.BkXM
