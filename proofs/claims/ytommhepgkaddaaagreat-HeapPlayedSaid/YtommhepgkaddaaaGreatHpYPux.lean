/- Made from wip. -/
import Derived.Test.YtommhepgkaddaaaGreatHpYMod1x
import Derived.Test.YtommhepgkaddaaaGreatHpYMod2
import Derived.Test.YtommhepgkaddaaaGreatHpYMod3

set_option maxRecDepth 100000
set_option maxHeartbeats 20000000
set_option linter.unusedVariables false
namespace Go.HpYM
open Go.Sp Go.HpY
noncomputable section
def m24_0 (pu:PureF) (n:Nat) (z0 z1:Int):OV:=
 (some (.tuple ⟨[.int .i64 z0,.int .i64 z1]⟩))
def b24_1 (pu:PureF) (n:Nat) (ih0:Int→Int→OV) (z0 z1:Int):OV:=
 (bb (ilt z0 z1) (ih0 (wrapF .i64 (Int.add z0 (1:Int))) (wrapF .i64 (Int.sub z1 (wrapF .i64 (Int.add z0 (1:Int)))))) (m24_0 pu n z0 z1))
def l24_1 (pu:PureF) (n w:Nat):Int→Int→OV:=
 Nat.rec (motive:=fun _=>Int→Int→OV) (fun _ _=>none) (fun _ ih0=>b24_1 pu n ih0) w
def m24_ (pu:PureF) (n:Nat) (x0:Int):OV:=
 (l24_1 pu n n (0:Int) x0)
def m24 (pu:PureF) (n:Nat) (args:LV):OV:=
 (ll args none fun a0 args=>(ll args (oo (toI .i64 a0) none fun x0=>(m24_ pu n x0)) fun _ _=>none))
theorem w24_0 (pu:PureF) (n:Nat) (z0 z1:Int) {v:Value} (hm:m24_0 pu n z0 z1 = some v):Run tt (callP tabs isP pu (inl pu)) 0 c24_14 (fr 15 [(2,zI z0),(3,zI z1)]) (hp 0 []) (Fin tt 0 [.tmp 2,.tmp 3] v):=by
 unfold m24_0 at hm
 refine .then (.rK ?_)
 refine .ghs (fr 15 [(2,zI z0),(3,zI z1)]) (hp 0 []) (.k0 [] [] [2,3]) ?_
 refine .ret ?_
 exact fin_ret (.tuple ⟨[zI z0,zI z1]⟩) (by kernel_rfl) (by kernel_rfl) hm
theorem r24 {call:CallF} (pu:PureF) (n:Nat) (hcall:call = callP tabs isP pu (inl pu)) {args:LV} {v:Value} (hm:m24 pu n args = some v) (_:∀ x ∈ args,closed2 x = true):args.length≤15∧Run tt call 0 c24_16 (Fr.made 15 args) (pureHeap tabs) (Fin tt 0 [.tmp 2,.tmp 3] v):=by
 subst hcall
 unfold m24 at hm
 replace hm:=ll_uncons hm;obtain ⟨a0,args_0,rfl,hm⟩:=hm
 replace hm:=ll_end hm;obtain ⟨rfl,hm⟩:=hm
 replace hm:=inv_toI hm;obtain ⟨x0,rfl,hm⟩:=hm
 unfold m24_ at hm
 refine ⟨by simp,?_⟩
 refine .same (F':=(fr 15 [(0,zI x0)])) (H':=(hp 0 [])) (by kernel_rfl) (by kernel_rfl) ?_
 refine .then (.rK ?_)
 refine .ghs (fr 15 [(0,zI x0),(2,(zI (0:Int)))]) (hp 0 []) (.k0 [] [] [0,2]) ?_
 refine .join (v:=v) (fun y:Int×Int=>((fr 15 [(2,(zI y.1)),(3,(zI y.2))]),(hp 0 []))) (fun y=>m24_0 pu n y.1 y.2) ?_ ?_
 ·rintro ⟨z0, z1⟩ hm
  exact w24_0 pu n z0 z1 hm
 ·refine .then (.rK ?_)
  refine .ghs (fr 15 [(2,(zI (0:Int))),(3,zI x0)]) (hp 0 []) (.k0 [] [] [2,3]) ?_
  refine .block ?_
  refine .loopM (v:=v) (fun y:Int×Int=>((fr 15 [(2,(zI y.1)),(3,(zI y.2))]),(hp 0 []))) (fun w y=>l24_1 pu n w y.1 y.2) n ⟨((0:Int),x0),hm,(.k0 [] [] [2,3])⟩ (fun _=>rfl) ?_
  rintro w0 ⟨z2,z3⟩ hm
  replace hm:b24_1 pu n (l24_1 pu n w0) z2 z3 = some v:=hm
  unfold b24_1 at hm
  refine .then ?_
  refine .then (.rK ?_)
  refine .ghs (fr 15 [(2,zI z2),(3,zI z3),(7,(zB (ilt z2 z3)))]) (hp 0 []) (.k0 [] [] [2,3,7]) ?_
  replace hm:=bb_cases hm;rcases hm with ⟨h0,hm⟩ | ⟨h0,hm⟩
  ·refine .ifT (ilt z2 z3) (by kernel_rfl) h0 ?_
   refine .skip ?_
   refine .ghs (fr 15 [(2,zI z2),(3,zI z3)]) (hp 0 []) (.k0 [] [] [2,3]) ?_
   refine .block ?_
   refine .then (.rK ?_)
   refine .ghs (fr 15 [(2,(zI (wrapF .i64 (Int.add z2 (1:Int))))),(3,zI z3)]) (hp 0 []) (.k0 [] [] [2,3]) ?_
   refine .rK ?_
   exact ⟨((wrapF .i64 (Int.add z2 (1:Int))),(wrapF .i64 (Int.sub z3 (wrapF .i64 (Int.add z2 (1:Int)))))),hm,(.k0 [] [] [2,3])⟩
  ·refine .ifF (ilt z2 z3) (by kernel_rfl) h0 ?_
   refine .exit ?_
   exact ⟨(z2,z3),hm,(.k0 [] [] [2,3])⟩
def m25_0 (pu:PureF) (n:Nat) (z0:Int):OV:=
 (some (.int .i64 z0))
def b25_1 (pu:PureF) (n:Nat) (ih0:Int→Int→Int→Int→Int→Int→Int→Int→Int→Int→Int→Int→Int→Int→Int→Int→Int→Int→Int→Int→Int→Int→Int→Int→OV) (z0 z1 z2 z3 z4 z5 z6 z7 z8 z9 z10 z11 z12 z13 z14 z15 z16 z17 z18 z19 z20 z21 z22 z23:Int):OV:=
 (bb (ilt z23 (22:Int)) (oo (toN z23) none fun k1=>(bb (Nat.blt k1 22) (oo (nthL ([.int .i64 z1,.int .i64 z2,.int .i64 z3,.int .i64 z4,.int .i64 z5,.int .i64 z6,.int .i64 z7,.int .i64 z8,.int .i64 z9,.int .i64 z10,.int .i64 z11,.int .i64 z12,.int .i64 z13,.int .i64 z14,.int .i64 z15,.int .i64 z16,.int .i64 z17,.int .i64 z18,.int .i64 z19,.int .i64 z20,.int .i64 z21,.int .i64 z22]:LV) (k1 * 1)) none fun v0=>(oo (toI .i64 v0) none fun x0=>(ih0 (wrapF .i64 (Int.add z0 (wrapF .i64 (Int.mul (Int.ofNat k1) x0)))) z1 z2 z3 z4 z5 z6 z7 z8 z9 z10 z11 z12 z13 z14 z15 z16 z17 z18 z19 z20 z21 z22 (wrapF .i64 (Int.add (Int.ofNat k1) (1:Int)))))) none)) (m25_0 pu n z0))
def l25_1 (pu:PureF) (n w:Nat):Int→Int→Int→Int→Int→Int→Int→Int→Int→Int→Int→Int→Int→Int→Int→Int→Int→Int→Int→Int→Int→Int→Int→Int→OV:=
 Nat.rec (motive:=fun _=>Int→Int→Int→Int→Int→Int→Int→Int→Int→Int→Int→Int→Int→Int→Int→Int→Int→Int→Int→Int→Int→Int→Int→Int→OV) (fun _ _ _ _ _ _ _ _ _ _ _ _ _ _ _ _ _ _ _ _ _ _ _ _=>none) (fun _ ih0=>b25_1 pu n ih0) w
def m25_ (pu:PureF) (n:Nat) (x0 x1 x2 x3 x4 x5 x6 x7 x8 x9 x10 x11 x12 x13 x14 x15 x16 x17 x18 x19 x20 x21:Int):OV:=
 (l25_1 pu n n (0:Int) x0 x1 x2 x3 x4 x5 x6 x7 x8 x9 x10 x11 x12 x13 x14 x15 x16 x17 x18 x19 x20 x21 (0:Int))
def m25 (pu:PureF) (n:Nat) (args:LV):OV:=
 (ll args none fun a0 args=>(ll args (oo (vAgg a0) none fun l0=>(ll l0 none fun v0 l0=>(ll l0 none fun v1 l0=>(ll l0 none fun v2 l0=>(ll l0 none fun v3 l0=>(ll l0 none fun v4 l0=>(ll l0 none fun v5 l0=>(ll l0 none fun v6 l0=>(ll l0 none fun v7 l0=>(ll l0 none fun v8 l0=>(ll l0 none fun v9 l0=>(ll l0 none fun v10 l0=>(ll l0 none fun v11 l0=>(ll l0 none fun v12 l0=>(ll l0 none fun v13 l0=>(ll l0 none fun v14 l0=>(ll l0 none fun v15 l0=>(ll l0 none fun v16 l0=>(ll l0 none fun v17 l0=>(ll l0 none fun v18 l0=>(ll l0 none fun v19 l0=>(ll l0 none fun v20 l0=>(ll l0 none fun v21 l0=>(ll l0 (oo (toI .i64 v0) none fun x0=>(oo (toI .i64 v1) none fun x1=>(oo (toI .i64 v2) none fun x2=>(oo (toI .i64 v3) none fun x3=>(oo (toI .i64 v4) none fun x4=>(oo (toI .i64 v5) none fun x5=>(oo (toI .i64 v6) none fun x6=>(oo (toI .i64 v7) none fun x7=>(oo (toI .i64 v8) none fun x8=>(oo (toI .i64 v9) none fun x9=>(oo (toI .i64 v10) none fun x10=>(oo (toI .i64 v11) none fun x11=>(oo (toI .i64 v12) none fun x12=>(oo (toI .i64 v13) none fun x13=>(oo (toI .i64 v14) none fun x14=>(oo (toI .i64 v15) none fun x15=>(oo (toI .i64 v16) none fun x16=>(oo (toI .i64 v17) none fun x17=>(oo (toI .i64 v18) none fun x18=>(oo (toI .i64 v19) none fun x19=>(oo (toI .i64 v20) none fun x20=>(oo (toI .i64 v21) none fun x21=>(m25_ pu n x0 x1 x2 x3 x4 x5 x6 x7 x8 x9 x10 x11 x12 x13 x14 x15 x16 x17 x18 x19 x20 x21))))))))))))))))))))))) fun _ _=>none)))))))))))))))))))))))) fun _ _=>none))
theorem w25_0 (pu:PureF) (n:Nat) (z0:Int) {v:Value} (hm:m25_0 pu n z0 = some v):Run tt (callP tabs isP pu (inl pu)) 0 c25_17 (fr 18 [(3,zI z0)]) (hp 0 []) (Fin tt 0 [.tmp 2] v):=by
 unfold m25_0 at hm
 refine .then (.rK ?_)
 refine .ghs (fr 18 [(2,zI z0)]) (hp 0 []) (.k0 [] [] [2]) ?_
 refine .ret ?_
 exact fin_ret (zI z0) (by kernel_rfl) (by kernel_rfl) hm
theorem r25 {call:CallF} (pu:PureF) (n:Nat) (hcall:call = callP tabs isP pu (inl pu)) {args:LV} {v:Value} (hm:m25 pu n args = some v) (_:∀ x ∈ args,closed2 x = true):args.length≤18∧Run tt call 0 c25_20 (Fr.made 18 args) (pureHeap tabs) (Fin tt 0 [.tmp 2] v):=by
 subst hcall
 unfold m25 at hm
 replace hm:=ll_uncons hm;obtain ⟨a0,args_0,rfl,hm⟩:=hm
 replace hm:=ll_end hm;obtain ⟨rfl,hm⟩:=hm
 replace hm:=inv_vAgg hm;obtain ⟨l0,rfl,hm⟩:=hm
 replace hm:=ll_uncons hm;obtain ⟨v0,l2117_0,rfl,hm⟩:=hm
 replace hm:=ll_uncons hm;obtain ⟨v1,l2117_1,rfl,hm⟩:=hm
 replace hm:=ll_uncons hm;obtain ⟨v2,l2117_2,rfl,hm⟩:=hm
 replace hm:=ll_uncons hm;obtain ⟨v3,l2117_3,rfl,hm⟩:=hm
 replace hm:=ll_uncons hm;obtain ⟨v4,l2117_4,rfl,hm⟩:=hm
 replace hm:=ll_uncons hm;obtain ⟨v5,l2117_5,rfl,hm⟩:=hm
 replace hm:=ll_uncons hm;obtain ⟨v6,l2117_6,rfl,hm⟩:=hm
 replace hm:=ll_uncons hm;obtain ⟨v7,l2117_7,rfl,hm⟩:=hm
 replace hm:=ll_uncons hm;obtain ⟨v8,l2117_8,rfl,hm⟩:=hm
 replace hm:=ll_uncons hm;obtain ⟨v9,l2117_9,rfl,hm⟩:=hm
 replace hm:=ll_uncons hm;obtain ⟨v10,l2117_10,rfl,hm⟩:=hm
 replace hm:=ll_uncons hm;obtain ⟨v11,l2117_11,rfl,hm⟩:=hm
 replace hm:=ll_uncons hm;obtain ⟨v12,l2117_12,rfl,hm⟩:=hm
 replace hm:=ll_uncons hm;obtain ⟨v13,l2117_13,rfl,hm⟩:=hm
 replace hm:=ll_uncons hm;obtain ⟨v14,l2117_14,rfl,hm⟩:=hm
 replace hm:=ll_uncons hm;obtain ⟨v15,l2117_15,rfl,hm⟩:=hm
 replace hm:=ll_uncons hm;obtain ⟨v16,l2117_16,rfl,hm⟩:=hm
 replace hm:=ll_uncons hm;obtain ⟨v17,l2117_17,rfl,hm⟩:=hm
 replace hm:=ll_uncons hm;obtain ⟨v18,l2117_18,rfl,hm⟩:=hm
 replace hm:=ll_uncons hm;obtain ⟨v19,l2117_19,rfl,hm⟩:=hm
 replace hm:=ll_uncons hm;obtain ⟨v20,l2117_20,rfl,hm⟩:=hm
 replace hm:=ll_uncons hm;obtain ⟨v21,l2117_21,rfl,hm⟩:=hm
 replace hm:=ll_end hm;obtain ⟨rfl,hm⟩:=hm
 replace hm:=inv_toI hm;obtain ⟨x0,rfl,hm⟩:=hm
 replace hm:=inv_toI hm;obtain ⟨x1,rfl,hm⟩:=hm
 replace hm:=inv_toI hm;obtain ⟨x2,rfl,hm⟩:=hm
 replace hm:=inv_toI hm;obtain ⟨x3,rfl,hm⟩:=hm
 replace hm:=inv_toI hm;obtain ⟨x4,rfl,hm⟩:=hm
 replace hm:=inv_toI hm;obtain ⟨x5,rfl,hm⟩:=hm
 replace hm:=inv_toI hm;obtain ⟨x6,rfl,hm⟩:=hm
 replace hm:=inv_toI hm;obtain ⟨x7,rfl,hm⟩:=hm
 replace hm:=inv_toI hm;obtain ⟨x8,rfl,hm⟩:=hm
 replace hm:=inv_toI hm;obtain ⟨x9,rfl,hm⟩:=hm
 replace hm:=inv_toI hm;obtain ⟨x10,rfl,hm⟩:=hm
 replace hm:=inv_toI hm;obtain ⟨x11,rfl,hm⟩:=hm
 replace hm:=inv_toI hm;obtain ⟨x12,rfl,hm⟩:=hm
 replace hm:=inv_toI hm;obtain ⟨x13,rfl,hm⟩:=hm
 replace hm:=inv_toI hm;obtain ⟨x14,rfl,hm⟩:=hm
 replace hm:=inv_toI hm;obtain ⟨x15,rfl,hm⟩:=hm
 replace hm:=inv_toI hm;obtain ⟨x16,rfl,hm⟩:=hm
 replace hm:=inv_toI hm;obtain ⟨x17,rfl,hm⟩:=hm
 replace hm:=inv_toI hm;obtain ⟨x18,rfl,hm⟩:=hm
 replace hm:=inv_toI hm;obtain ⟨x19,rfl,hm⟩:=hm
 replace hm:=inv_toI hm;obtain ⟨x20,rfl,hm⟩:=hm
 replace hm:=inv_toI hm;obtain ⟨x21,rfl,hm⟩:=hm
 unfold m25_ at hm
 refine ⟨by simp,?_⟩
 refine .same (F':=(fr 18 [(0,(.agg ⟨[zI x0,zI x1,zI x2,zI x3,zI x4,zI x5,zI x6,zI x7,zI x8,zI x9,zI x10,zI x11,zI x12,zI x13,zI x14,zI x15,zI x16,zI x17,zI x18,zI x19,zI x20,zI x21]⟩))])) (H':=(hp 0 [])) (by kernel_rfl) (by kernel_rfl) ?_
 refine .then (.rK ?_)
 refine .ghs (fr 18 [(1,(pt 0 0))]) (hp 1 [(oC [zI x0,zI x1,zI x2,zI x3,zI x4,zI x5,zI x6,zI x7,zI x8,zI x9,zI x10,zI x11,zI x12,zI x13,zI x14,zI x15,zI x16,zI x17,zI x18,zI x19,zI x20,zI x21])]) (.k0 [] [.tmp 1 false] [1]) ?_
 refine .then (.rK ?_)
 refine .ghs (fr 18 [(1,(pt 0 0)),(3,(zI (0:Int)))]) (hp 1 [(oC [zI x0,zI x1,zI x2,zI x3,zI x4,zI x5,zI x6,zI x7,zI x8,zI x9,zI x10,zI x11,zI x12,zI x13,zI x14,zI x15,zI x16,zI x17,zI x18,zI x19,zI x20,zI x21])]) (.k0 [] [.tmp 1 false] [1,3]) ?_
 refine .join (v:=v) (fun y:Int=>((fr 18 [(3,zI y)]),(hp 0 []))) (fun y=>m25_0 pu n y) ?_ ?_
 ·rintro z0 hm
  exact w25_0 pu n z0 hm
 ·refine .then (.rK ?_)
  refine .ghs (fr 18 [(3,(zI (0:Int))),(6,(.agg ⟨[zI x0,zI x1,zI x2,zI x3,zI x4,zI x5,zI x6,zI x7,zI x8,zI x9,zI x10,zI x11,zI x12,zI x13,zI x14,zI x15,zI x16,zI x17,zI x18,zI x19,zI x20,zI x21]⟩)),(7,(zI (0:Int)))]) (hp 0 []) (.k0 [] [] [3,6,7]) ?_
  refine .block ?_
  refine .loopM (v:=v) (fun y:Int×Int×Int×Int×Int×Int×Int×Int×Int×Int×Int×Int×Int×Int×Int×Int×Int×Int×Int×Int×Int×Int×Int×Int=>((fr 18 [(3,(zI y.1)),(6,(.agg ⟨[(zI y.2.1),(zI y.2.2.1),(zI y.2.2.2.1),(zI y.2.2.2.2.1),(zI y.2.2.2.2.2.1),(zI y.2.2.2.2.2.2.1),(zI y.2.2.2.2.2.2.2.1),(zI y.2.2.2.2.2.2.2.2.1),(zI y.2.2.2.2.2.2.2.2.2.1),(zI y.2.2.2.2.2.2.2.2.2.2.1),(zI y.2.2.2.2.2.2.2.2.2.2.2.1),(zI y.2.2.2.2.2.2.2.2.2.2.2.2.1),(zI y.2.2.2.2.2.2.2.2.2.2.2.2.2.1),(zI y.2.2.2.2.2.2.2.2.2.2.2.2.2.2.1),(zI y.2.2.2.2.2.2.2.2.2.2.2.2.2.2.2.1),(zI y.2.2.2.2.2.2.2.2.2.2.2.2.2.2.2.2.1),(zI y.2.2.2.2.2.2.2.2.2.2.2.2.2.2.2.2.2.1),(zI y.2.2.2.2.2.2.2.2.2.2.2.2.2.2.2.2.2.2.1),(zI y.2.2.2.2.2.2.2.2.2.2.2.2.2.2.2.2.2.2.2.1),(zI y.2.2.2.2.2.2.2.2.2.2.2.2.2.2.2.2.2.2.2.2.1),(zI y.2.2.2.2.2.2.2.2.2.2.2.2.2.2.2.2.2.2.2.2.2.1),(zI y.2.2.2.2.2.2.2.2.2.2.2.2.2.2.2.2.2.2.2.2.2.2.1)]⟩)),(7,(zI y.2.2.2.2.2.2.2.2.2.2.2.2.2.2.2.2.2.2.2.2.2.2.2))]),(hp 0 []))) (fun w y=>l25_1 pu n w y.1 y.2.1 y.2.2.1 y.2.2.2.1 y.2.2.2.2.1 y.2.2.2.2.2.1 y.2.2.2.2.2.2.1 y.2.2.2.2.2.2.2.1 y.2.2.2.2.2.2.2.2.1 y.2.2.2.2.2.2.2.2.2.1 y.2.2.2.2.2.2.2.2.2.2.1 y.2.2.2.2.2.2.2.2.2.2.2.1 y.2.2.2.2.2.2.2.2.2.2.2.2.1 y.2.2.2.2.2.2.2.2.2.2.2.2.2.1 y.2.2.2.2.2.2.2.2.2.2.2.2.2.2.1 y.2.2.2.2.2.2.2.2.2.2.2.2.2.2.2.1 y.2.2.2.2.2.2.2.2.2.2.2.2.2.2.2.2.1 y.2.2.2.2.2.2.2.2.2.2.2.2.2.2.2.2.2.1 y.2.2.2.2.2.2.2.2.2.2.2.2.2.2.2.2.2.2.1 y.2.2.2.2.2.2.2.2.2.2.2.2.2.2.2.2.2.2.2.1 y.2.2.2.2.2.2.2.2.2.2.2.2.2.2.2.2.2.2.2.2.1 y.2.2.2.2.2.2.2.2.2.2.2.2.2.2.2.2.2.2.2.2.2.1 y.2.2.2.2.2.2.2.2.2.2.2.2.2.2.2.2.2.2.2.2.2.2.1 y.2.2.2.2.2.2.2.2.2.2.2.2.2.2.2.2.2.2.2.2.2.2.2) n ⟨((0:Int),x0,x1,x2,x3,x4,x5,x6,x7,x8,x9,x10,x11,x12,x13,x14,x15,x16,x17,x18,x19,x20,x21,(0:Int)),hm,(.k0 [] [] [3,6,7])⟩ (fun _=>rfl) ?_
  rintro w0 ⟨z1,z2,z3,z4,z5,z6,z7,z8,z9,z10,z11,z12,z13,z14,z15,z16,z17,z18,z19,z20,z21,z22,z23,z24⟩ hm
  replace hm:b25_1 pu n (l25_1 pu n w0) z1 z2 z3 z4 z5 z6 z7 z8 z9 z10 z11 z12 z13 z14 z15 z16 z17 z18 z19 z20 z21 z22 z23 z24 = some v:=hm
  unfold b25_1 at hm
  refine .then (.rK ?_)
  refine .ghs (fr 18 [(3,zI z1),(6,(.agg ⟨[zI z2,zI z3,zI z4,zI z5,zI z6,zI z7,zI z8,zI z9,zI z10,zI z11,zI z12,zI z13,zI z14,zI z15,zI z16,zI z17,zI z18,zI z19,zI z20,zI z21,zI z22,zI z23]⟩)),(7,zI z24),(8,(zB (ilt z24 (22:Int))))]) (hp 0 []) (.k0 [] [] [3,6,7,8]) ?_
  refine .then ?_
  replace hm:=bb_cases hm;rcases hm with ⟨h0,hm⟩ | ⟨h0,hm⟩
  ·refine .ifT (ilt z24 (22 : Int)) (by kernel_rfl) h0 ?_
   refine .skip ?_
   refine .ghs (fr 18 [(3,zI z1),(6,(.agg ⟨[zI z2,zI z3,zI z4,zI z5,zI z6,zI z7,zI z8,zI z9,zI z10,zI z11,zI z12,zI z13,zI z14,zI z15,zI z16,zI z17,zI z18,zI z19,zI z20,zI z21,zI z22,zI z23]⟩)),(7,zI z24)]) (hp 0 []) (.k0 [] [] [3,6,7]) ?_
   refine .then ?_
   refine .block ?_
   refine .then ?_
   replace hm:=oo_inv hm;obtain ⟨k1,h1,hm⟩:=hm
   obtain rfl:=toN_some h1
   replace hm:=bb_inv hm;obtain ⟨h2,hm⟩:=hm
   replace hm:=oo_inv hm;obtain ⟨v22,h3,hm⟩:=hm
   replace hm:=inv_toI hm;obtain ⟨x22,rfl,hm⟩:=hm
   refine .reg (eC 1 (keep (hp 0 []) (bb (Nat.blt k1 22) (nthL ([zI z2,zI z3,zI z4,zI z5,zI z6,zI z7,zI z8,zI z9,zI z10,zI z11,zI z12,zI z13,zI z14,zI z15,zI z16,zI z17,zI z18,zI z19,zI z20,zI z21,zI z22,zI z23]:LV) (k1 * 1)) none)) (keep_bbo h2 h3) (eE)) ?_
   refine .ghs (fr 18 [(3,zI z1),(4,(zI (Int.ofNat k1))),(5,zI x22),(6,(.agg ⟨[zI z2,zI z3,zI z4,zI z5,zI z6,zI z7,zI z8,zI z9,zI z10,zI z11,zI z12,zI z13,zI z14,zI z15,zI z16,zI z17,zI z18,zI z19,zI z20,zI z21,zI z22,zI z23]⟩)),(7,(zI (Int.ofNat k1)))]) (hp 0 []) (.k0 [] [] [3,4,5,6,7]) ?_
   refine .rK ?_
   refine .ghs (fr 18 [(3,(zI (wrapF .i64 (Int.add z1 (wrapF .i64 (Int.mul (Int.ofNat k1) x22)))))),(6,(.agg ⟨[zI z2,zI z3,zI z4,zI z5,zI z6,zI z7,zI z8,zI z9,zI z10,zI z11,zI z12,zI z13,zI z14,zI z15,zI z16,zI z17,zI z18,zI z19,zI z20,zI z21,zI z22,zI z23]⟩)),(7,(zI (Int.ofNat k1)))]) (hp 0 []) (.k0 [] [] [3,6,7]) ?_
   refine .rK ?_
   exact ⟨((wrapF .i64 (Int.add z1 (wrapF .i64 (Int.mul (Int.ofNat k1) x22)))),z2,z3,z4,z5,z6,z7,z8,z9,z10,z11,z12,z13,z14,z15,z16,z17,z18,z19,z20,z21,z22,z23,(wrapF .i64 (Int.add (Int.ofNat k1) (1:Int)))),hm,(.k0 [] [] [3,6,7])⟩
  ·refine .ifF (ilt z24 (22 : Int)) (by kernel_rfl) h0 ?_
   refine .exit ?_
   exact ⟨z1,hm,(.k0 [] [] [3])⟩
def b26_0 (pu:PureF) (n:Nat) (ih0:Int→LV→LV→OV) (z0:Int) (q0:LV) (q1:LV):OV:=
 (bb (allL closed1 q0) (bb (allL closed1 q1) (bb (Nat.ble (0 + 22) (len q0)) (oo (pu 23 [(.agg ⟨(takeL 22 (dropL 0 q0))⟩)]) none fun v0=>(oo (vBool v0) none fun b0=>(bb (allL closed2 [(.agg ⟨(takeL 22 (dropL 0 q0))⟩)]) (bb (nt b0) (bb (Nat.ble (0 + 22) (len q0)) (oo (pu 20 [(.agg ⟨(takeL 22 (dropL 0 q0))⟩)]) none fun v1=>(oo (vAgg v1) none fun q2=>(bb (an (Nat.beq (len q2) 22) (allL closed1 q2)) (bb (allL closed2 [(.agg ⟨(takeL 22 (dropL 0 q0))⟩)]) (bb (Nat.beq (len q2) 22) (bb (an (Nat.ble (0 + len q2) (len q0)) (allL scalarB q2)) (bb (allL closed1 (setL q2 0 q0)) (ih0 (wrapF .i64 (Int.add z0 (1:Int))) (setL q2 0 q0) q1) none) none) none) none) none))) none) (bb (Nat.ble (0 + 22) (len q0)) (bb (Nat.beq (len (takeL 22 (dropL 0 q0))) 22) (bb (an (Nat.ble (0 + len (takeL 22 (dropL 0 q0))) (len q1)) (allL scalarB (takeL 22 (dropL 0 q0)))) (bb (allL closed1 (setL (takeL 22 (dropL 0 q0)) 0 q1)) (bb (Nat.ble (0 + 22) (len (setL (takeL 22 (dropL 0 q0)) 0 q1))) (bb (closedV (.tuple ⟨[.int .i64 z0,(.agg ⟨(takeL 22 (dropL 0 (setL (takeL 22 (dropL 0 q0)) 0 q1)))⟩)]⟩)) (some (.tuple ⟨[.int .i64 z0,(.agg ⟨(takeL 22 (dropL 0 (setL (takeL 22 (dropL 0 q0)) 0 q1)))⟩)]⟩)) none) none) none) none) none) none)) none))) none) none) none)
def l26_0 (pu:PureF) (n w:Nat):Int→LV→LV→OV:=
 Nat.rec (motive:=fun _=>Int→LV→LV→OV) (fun _ _ _=>none) (fun _ ih0=>b26_0 pu n ih0) w
def m26_ (pu:PureF) (n:Nat) (q0:LV):OV:=
 (bb (allL closed1 q0) (bb (allL closed1 zA46) (bb (Nat.ble (0 + 22) (len q0)) (oo (pu 23 [(.agg ⟨(takeL 22 (dropL 0 q0))⟩)]) none fun v0=>(oo (vBool v0) none fun b0=>(bb (allL closed2 [(.agg ⟨(takeL 22 (dropL 0 q0))⟩)]) (bb (nt b0) (bb (Nat.ble (0 + 22) (len q0)) (oo (pu 20 [(.agg ⟨(takeL 22 (dropL 0 q0))⟩)]) none fun v1=>(oo (vAgg v1) none fun q1=>(bb (an (Nat.beq (len q1) 22) (allL closed1 q1)) (bb (allL closed2 [(.agg ⟨(takeL 22 (dropL 0 q0))⟩)]) (bb (Nat.beq (len q1) 22) (bb (an (Nat.ble (0 + len q1) (len q0)) (allL scalarB q1)) (bb (allL closed1 (setL q1 0 q0)) (l26_0 pu n n (1:Int) (setL q1 0 q0) zA46) none) none) none) none) none))) none) (bb (Nat.ble (0 + 22) (len q0)) (bb (Nat.beq (len (takeL 22 (dropL 0 q0))) 22) (bb (an (Nat.ble (0 + len (takeL 22 (dropL 0 q0))) (len zA46)) (allL scalarB (takeL 22 (dropL 0 q0)))) (bb (allL closed1 (setL (takeL 22 (dropL 0 q0)) 0 zA46)) (bb (Nat.ble (0 + 22) (len (setL (takeL 22 (dropL 0 q0)) 0 zA46))) (bb (closedV (.tuple ⟨[(.int .i64 (0:Int)),(.agg ⟨(takeL 22 (dropL 0 (setL (takeL 22 (dropL 0 q0)) 0 zA46)))⟩)]⟩)) (some (.tuple ⟨[(.int .i64 (0:Int)),(.agg ⟨(takeL 22 (dropL 0 (setL (takeL 22 (dropL 0 q0)) 0 zA46)))⟩)]⟩)) none) none) none) none) none) none)) none))) none) none) none)
def m26 (pu:PureF) (n:Nat) (args:LV):OV:=
 (ll args none fun a0 args=>(ll args (oo (vAgg a0) none fun q0=>(bb (an (Nat.beq (len q0) 22) (allL closed1 q0)) (m26_ pu n q0) none)) fun _ _=>none))
theorem r26 {call:CallF} (pu:PureF) (n:Nat) (hcall:call = callP tabs isP pu (inl pu)) {args:LV} {v:Value} (hm:m26 pu n args = some v) (_:∀ x ∈ args,closed2 x = true):args.length≤14∧Run tt call 0 c26_26 (Fr.made 14 args) (pureHeap tabs) (Fin tt 0 [.tmp 2,.cell 3 46] v):=by
 subst hcall
 unfold m26 at hm
 replace hm:=ll_uncons hm;obtain ⟨a0,args_0,rfl,hm⟩:=hm
 replace hm:=ll_end hm;obtain ⟨rfl,hm⟩:=hm
 replace hm:=inv_vAgg hm;obtain ⟨q0,rfl,hm⟩:=hm
 replace hm:=bb_inv hm;obtain ⟨h0,hm⟩:=hm
 unfold m26_ at hm
 refine ⟨by simp,?_⟩
 refine .same (F':=(fr 14 [(0,(.agg ⟨q0⟩))])) (H':=(hp 0 [])) (by kernel_rfl) (by kernel_rfl) ?_
 refine .then (.rK ?_)
 replace hm:=bb_inv hm;obtain ⟨h1,hm⟩:=hm
 replace hm:=bb_inv hm;obtain ⟨h2,hm⟩:=hm
 refine .ghs (fr 14 [(1,(pt 0 0)),(3,pt 1 0)]) (hp 2 [oC q0,oC zA46]) (.k [0,1] [] [.tmp 1 false,.tmp 3 false] [1,3] ⟨trF h1,trF h2,trivial⟩) ?_
 refine .scopeM (v:=v) (fun y:Int×LV×LV=>((fr 14 [(1,(pt 0 0)),(3,pt 1 0),(4,(zI y.1))]),(hp 2 [(oC y.2.1),(oC y.2.2)]))) (fun w y=>l26_0 pu n w y.1 y.2.1 y.2.2) n (fun _=>rfl) ?_ ?_
 ·refine .then (.rK ?_)
  refine .ghs (fr 14 [(1,(pt 0 0)),(3,pt 1 0),(4,(zI (0:Int)))]) (hp 2 [oC q0,oC zA46]) (.k [0,1] [] [.tmp 1 false,.tmp 3 false] [1,3,4] ⟨trF h1,trF h2,trivial⟩) ?_
  refine .then ?_
  refine .label ?_
  refine .ghs (fr 14 [(1,(pt 0 0)),(3,pt 1 0),(4,(zI (0:Int)))]) (hp 2 [oC q0,oC zA46]) (.k [0,1] [] [.tmp 1 false,.tmp 3 false] [1,3,4] ⟨trF h1,trF h2,trivial⟩) ?_
  refine .then ?_
  refine .then ?_
  replace hm:=bb_inv hm;obtain ⟨h3,hm⟩:=hm
  replace hm:=oo_inv hm;obtain ⟨v0,h4,hm⟩:=hm
  replace hm:=inv_vBool hm;obtain ⟨b0,rfl,hm⟩:=hm
  replace hm:=bb_inv hm;obtain ⟨h5,hm⟩:=hm
  refine .reg (eD (keep (hp 2 [oC q0,oC zA46]) (bb (Nat.ble (0 + 22) (len q0)) (some (.agg ⟨(takeL 22 (dropL 0 q0))⟩)) none)) (keep_bb h3) (eD (bb (allL closed2 [(.agg ⟨(takeL 22 (dropL 0 q0))⟩)]) (oo (pu 23 [(.agg ⟨(takeL 22 (dropL 0 q0))⟩)]) none fun v=>some (v,(hp 2 [oC q0,oC zA46]))) (oo (mapO (purify (hp 2 [oC q0,oC zA46])) [(.agg ⟨(takeL 22 (dropL 0 q0))⟩)]) none fun l1=>oo (pu 23 l1) none fun v=>bb (plainT v) (some (v,(hp 2 [oC q0,oC zA46]))) none)) (callc_eq h5 h4) (eE))) ?_
  refine .ghs (fr 14 [(1,(pt 0 0)),(3,pt 1 0),(4,(zI (0:Int))),(7,(zB (nt b0)))]) (hp 2 [oC q0,oC zA46]) (.k [0,1] [] [.tmp 1 false,.tmp 3 false] [1,3,4,7] ⟨trF h1,trF h2,trivial⟩) ?_
  replace hm:=bb_cases hm;rcases hm with ⟨h6,hm⟩ | ⟨h6,hm⟩
  ·refine .ifT (nt b0) (by kernel_rfl) h6 ?_
   refine .then ?_
   replace hm:=bb_inv hm;obtain ⟨h7,hm⟩:=hm
   replace hm:=oo_inv hm;obtain ⟨v1,h8,hm⟩:=hm
   replace hm:=inv_vAgg hm;obtain ⟨q1,rfl,hm⟩:=hm
   replace hm:=bb_inv hm;obtain ⟨h9,hm⟩:=hm
   replace hm:=bb_inv hm;obtain ⟨h10,hm⟩:=hm
   replace hm:=bb_inv hm;obtain ⟨h11,hm⟩:=hm
   replace hm:=bb_inv hm;obtain ⟨h12,hm⟩:=hm
   refine .reg (eD (keep (hp 2 [oC q0,oC zA46]) (bb (Nat.ble (0 + 22) (len q0)) (some (.agg ⟨(takeL 22 (dropL 0 q0))⟩)) none)) (keep_bb h7) (eD (bb (allL closed2 [(.agg ⟨(takeL 22 (dropL 0 q0))⟩)]) (oo (pu 20 [(.agg ⟨(takeL 22 (dropL 0 q0))⟩)]) none fun v=>some (v,(hp 2 [oC q0,oC zA46]))) (oo (mapO (purify (hp 2 [oC q0,oC zA46])) [(.agg ⟨(takeL 22 (dropL 0 q0))⟩)]) none fun l1=>oo (pu 20 l1) none fun v=>bb (plainT v) (some (v,(hp 2 [oC q0,oC zA46]))) none)) (callc_eq h10 h8) (eD (done (bb (Nat.beq (len q1) 22) (bb (an (Nat.ble (0 + len q1) (len q0)) (allL scalarB q1)) (some (hp 2 [(oC (setL q1 0 q0)),oC zA46])) none) none) undef) (done_bb2 h11 h12) (eE)))) ?_
   replace hm:=bb_inv hm;obtain ⟨h13,hm⟩:=hm
   refine .ghs (fr 14 [(1,(pt 0 0)),(3,pt 1 0),(4,(zI (0:Int)))]) (hp 2 [(oC (setL q1 0 q0)),oC zA46]) (.k [0,1] [] [.tmp 1 false,.tmp 3 false] [1,3,4] ⟨trF h13,trF h2,trivial⟩) ?_
   refine .then (.rK ?_)
   refine .ghs (fr 14 [(1,(pt 0 0)),(3,pt 1 0),(4,(zI (1:Int)))]) (hp 2 [(oC (setL q1 0 q0)),oC zA46]) (.k [0,1] [] [.tmp 1 false,.tmp 3 false] [1,3,4] ⟨trF h13,trF h2,trivial⟩) ?_
   refine .goto ?_
   exact ⟨rfl,((1:Int),(setL q1 0 q0),zA46),hm,(.k [0,1] [] [.tmp 1 false,.tmp 3 false] [1,3,4] ⟨trF h13,trF h2,trivial⟩)⟩
  ·refine .ifF (nt b0) (by kernel_rfl) h6 ?_
   refine .skip ?_
   refine .ghs (fr 14 [(1,(pt 0 0)),(3,pt 1 0),(4,(zI (0:Int)))]) (hp 2 [oC q0,oC zA46]) (.k [0,1] [] [.tmp 1 false,.tmp 3 false] [1,3,4] ⟨trF h1,trF h2,trivial⟩) ?_
   refine .then ?_
   replace hm:=bb_inv hm;obtain ⟨h14,hm⟩:=hm
   replace hm:=bb_inv hm;obtain ⟨h15,hm⟩:=hm
   replace hm:=bb_inv hm;obtain ⟨h16,hm⟩:=hm
   refine .reg (eC 1 (keep (hp 2 [oC q0,oC zA46]) (bb (Nat.ble (0 + 22) (len q0)) (some (.agg ⟨(takeL 22 (dropL 0 q0))⟩)) none)) (keep_bb h14) (eC 1 (done (bb (Nat.beq (len (takeL 22 (dropL 0 q0))) 22) (bb (an (Nat.ble (0 + len (takeL 22 (dropL 0 q0))) (len zA46)) (allL scalarB (takeL 22 (dropL 0 q0)))) (some (hp 2 [oC q0,(oC (setL (takeL 22 (dropL 0 q0)) 0 zA46))])) none) none) undef) (done_bb2 h15 h16) (eE))) ?_
   replace hm:=bb_inv hm;obtain ⟨h17,hm⟩:=hm
   refine .ghs (fr 14 [(2,(zI (0:Int))),(3,(pt 0 0))]) (hp 1 [(oC (setL (takeL 22 (dropL 0 q0)) 0 zA46))]) (.k [1] [] [.tmp 3 false] [2,3] ⟨trF h17,trivial⟩) ?_
   refine .ret ?_
   replace hm:=bb_inv hm;obtain ⟨h18,hm⟩:=hm
   replace hm:=bb_inv hm;obtain ⟨h19,hm⟩:=hm
   exact fin_ret (.tuple ⟨[(zI (0:Int)),(.agg ⟨(takeL 22 (dropL 0 (setL (takeL 22 (dropL 0 q0)) 0 zA46)))⟩)]⟩) (aresults_of (aresultsL_cons (show aresult _ _ _ _ = some (zI (0:Int)) from (by kernel_rfl)) (aresultsL_cons (show aresult _ _ _ _ = some (.agg ⟨(takeL 22 (dropL 0 (setL (takeL 22 (dropL 0 q0)) 0 zA46)))⟩) from (eq_bb (c:=(Nat.ble (0 + 22) (len (setL (takeL 22 (dropL 0 q0)) 0 zA46)))) (by kernel_rfl) h18)) rfl)) (by kernel_rfl)) h19 hm
 ·rintro w0 ⟨z0, q2, q3⟩ hm
  replace hm:b26_0 pu n (l26_0 pu n w0) z0 q2 q3 = some v:=hm
  unfold b26_0 at hm
  refine .then ?_
  refine .skip ?_
  replace hm:=bb_inv hm;obtain ⟨h20,hm⟩:=hm
  replace hm:=bb_inv hm;obtain ⟨h21,hm⟩:=hm
  refine .ghs (fr 14 [(1,(pt 0 0)),(3,pt 1 0),(4,zI z0)]) (hp 2 [oC q2,oC q3]) (.k [0,1] [] [.tmp 1 false,.tmp 3 false] [1,3,4] ⟨trF h20,trF h21,trivial⟩) ?_
  refine .then ?_
  refine .then ?_
  replace hm:=bb_inv hm;obtain ⟨h22,hm⟩:=hm
  replace hm:=oo_inv hm;obtain ⟨v2,h23,hm⟩:=hm
  replace hm:=inv_vBool hm;obtain ⟨b1,rfl,hm⟩:=hm
  replace hm:=bb_inv hm;obtain ⟨h24,hm⟩:=hm
  refine .reg (eD (keep (hp 2 [oC q2,oC q3]) (bb (Nat.ble (0 + 22) (len q2)) (some (.agg ⟨(takeL 22 (dropL 0 q2))⟩)) none)) (keep_bb h22) (eD (bb (allL closed2 [(.agg ⟨(takeL 22 (dropL 0 q2))⟩)]) (oo (pu 23 [(.agg ⟨(takeL 22 (dropL 0 q2))⟩)]) none fun v=>some (v,(hp 2 [oC q2,oC q3]))) (oo (mapO (purify (hp 2 [oC q2,oC q3])) [(.agg ⟨(takeL 22 (dropL 0 q2))⟩)]) none fun l1=>oo (pu 23 l1) none fun v=>bb (plainT v) (some (v,(hp 2 [oC q2,oC q3]))) none)) (callc_eq h24 h23) (eE))) ?_
  refine .ghs (fr 14 [(1,(pt 0 0)),(3,pt 1 0),(4,zI z0),(7,(zB (nt b1)))]) (hp 2 [oC q2,oC q3]) (.k [0,1] [] [.tmp 1 false,.tmp 3 false] [1,3,4,7] ⟨trF h20,trF h21,trivial⟩) ?_
  replace hm:=bb_cases hm;rcases hm with ⟨h25,hm⟩ | ⟨h25,hm⟩
  ·refine .ifT (nt b1) (by kernel_rfl) h25 ?_
   refine .then ?_
   replace hm:=bb_inv hm;obtain ⟨h26,hm⟩:=hm
   replace hm:=oo_inv hm;obtain ⟨v3,h27,hm⟩:=hm
   replace hm:=inv_vAgg hm;obtain ⟨q4,rfl,hm⟩:=hm
   replace hm:=bb_inv hm;obtain ⟨h28,hm⟩:=hm
   replace hm:=bb_inv hm;obtain ⟨h29,hm⟩:=hm
   replace hm:=bb_inv hm;obtain ⟨h30,hm⟩:=hm
   replace hm:=bb_inv hm;obtain ⟨h31,hm⟩:=hm
   refine .reg (eD (keep (hp 2 [oC q2,oC q3]) (bb (Nat.ble (0 + 22) (len q2)) (some (.agg ⟨(takeL 22 (dropL 0 q2))⟩)) none)) (keep_bb h26) (eD (bb (allL closed2 [(.agg ⟨(takeL 22 (dropL 0 q2))⟩)]) (oo (pu 20 [(.agg ⟨(takeL 22 (dropL 0 q2))⟩)]) none fun v=>some (v,(hp 2 [oC q2,oC q3]))) (oo (mapO (purify (hp 2 [oC q2,oC q3])) [(.agg ⟨(takeL 22 (dropL 0 q2))⟩)]) none fun l1=>oo (pu 20 l1) none fun v=>bb (plainT v) (some (v,(hp 2 [oC q2,oC q3]))) none)) (callc_eq h29 h27) (eD (done (bb (Nat.beq (len q4) 22) (bb (an (Nat.ble (0 + len q4) (len q2)) (allL scalarB q4)) (some (hp 2 [(oC (setL q4 0 q2)),oC q3])) none) none) undef) (done_bb2 h30 h31) (eE)))) ?_
   replace hm:=bb_inv hm;obtain ⟨h32,hm⟩:=hm
   refine .ghs (fr 14 [(1,(pt 0 0)),(3,pt 1 0),(4,zI z0)]) (hp 2 [(oC (setL q4 0 q2)),oC q3]) (.k [0,1] [] [.tmp 1 false,.tmp 3 false] [1,3,4] ⟨trF h32,trF h21,trivial⟩) ?_
   refine .then (.rK ?_)
   refine .ghs (fr 14 [(1,(pt 0 0)),(3,pt 1 0),(4,(zI (wrapF .i64 (Int.add z0 (1:Int)))))]) (hp 2 [(oC (setL q4 0 q2)),oC q3]) (.k [0,1] [] [.tmp 1 false,.tmp 3 false] [1,3,4] ⟨trF h32,trF h21,trivial⟩) ?_
   refine .goto ?_
   exact ⟨rfl,((wrapF .i64 (Int.add z0 (1:Int))),(setL q4 0 q2),q3),hm,(.k [0,1] [] [.tmp 1 false,.tmp 3 false] [1,3,4] ⟨trF h32,trF h21,trivial⟩)⟩
  ·refine .ifF (nt b1) (by kernel_rfl) h25 ?_
   refine .skip ?_
   refine .ghs (fr 14 [(1,(pt 0 0)),(3,pt 1 0),(4,zI z0)]) (hp 2 [oC q2,oC q3]) (.k [0,1] [] [.tmp 1 false,.tmp 3 false] [1,3,4] ⟨trF h20,trF h21,trivial⟩) ?_
   refine .then ?_
   replace hm:=bb_inv hm;obtain ⟨h33,hm⟩:=hm
   replace hm:=bb_inv hm;obtain ⟨h34,hm⟩:=hm
   replace hm:=bb_inv hm;obtain ⟨h35,hm⟩:=hm
   refine .reg (eC 1 (keep (hp 2 [oC q2,oC q3]) (bb (Nat.ble (0 + 22) (len q2)) (some (.agg ⟨(takeL 22 (dropL 0 q2))⟩)) none)) (keep_bb h33) (eC 1 (done (bb (Nat.beq (len (takeL 22 (dropL 0 q2))) 22) (bb (an (Nat.ble (0 + len (takeL 22 (dropL 0 q2))) (len q3)) (allL scalarB (takeL 22 (dropL 0 q2)))) (some (hp 2 [oC q2,(oC (setL (takeL 22 (dropL 0 q2)) 0 q3))])) none) none) undef) (done_bb2 h34 h35) (eE))) ?_
   replace hm:=bb_inv hm;obtain ⟨h36,hm⟩:=hm
   refine .ghs (fr 14 [(2,zI z0),(3,(pt 0 0))]) (hp 1 [(oC (setL (takeL 22 (dropL 0 q2)) 0 q3))]) (.k [1] [] [.tmp 3 false] [2,3] ⟨trF h36,trivial⟩) ?_
   refine .ret ?_
   replace hm:=bb_inv hm;obtain ⟨h37,hm⟩:=hm
   replace hm:=bb_inv hm;obtain ⟨h38,hm⟩:=hm
   exact fin_ret (.tuple ⟨[zI z0,(.agg ⟨(takeL 22 (dropL 0 (setL (takeL 22 (dropL 0 q2)) 0 q3)))⟩)]⟩) (aresults_of (aresultsL_cons (show aresult _ _ _ _ = some (zI z0) from (by kernel_rfl)) (aresultsL_cons (show aresult _ _ _ _ = some (.agg ⟨(takeL 22 (dropL 0 (setL (takeL 22 (dropL 0 q2)) 0 q3)))⟩) from (eq_bb (c:=(Nat.ble (0 + 22) (len (setL (takeL 22 (dropL 0 q2)) 0 q3)))) (by kernel_rfl) h37)) rfl)) (by kernel_rfl)) h38 hm
def m27_0 (pu:PureF) (n n0 c0:Nat) (z0:Int) (q0:LV):OV:=
 (bb (an (Nat.ble (0 + n0 * 1) (len q0)) (allL closed1 (takeL (n0 * 1) (dropL 0 q0)))) (bb (nt (Nat.beq (Sl.fl (Sl.mk n0 0 (takeL (n0 * 1) (dropL 0 q0)))) 2)) (oo (toN z0) none fun k1=>(bb (Nat.ble k1 (Sl.n (Sl.mk n0 0 (takeL (n0 * 1) (dropL 0 q0))))) (bb (nt (Nat.beq (Sl.fl (Sl.mk n0 0 (takeL (n0 * 1) (dropL 0 q0)))) 2)) (bb (Nat.ble k1 (Sl.n (Sl.mk n0 0 (takeL (n0 * 1) (dropL 0 q0))))) (oo (pu 42 [(Sl.v 1 (Sl.mk 2 0 (takeL (2 * 1) (dropL 0 ([(Sl.v 1 (Sl.mk ((Sl.n (Sl.mk n0 0 (takeL (n0 * 1) (dropL 0 q0)))) - k1) (bb (an (Nat.beq (Sl.n (Sl.mk n0 0 (takeL (n0 * 1) (dropL 0 q0)))) (Sl.n (Sl.mk n0 0 (takeL (n0 * 1) (dropL 0 q0))))) (orr false (Nat.beq (Sl.fl (Sl.mk n0 0 (takeL (n0 * 1) (dropL 0 q0)))) 1))) 1 0) (takeL (((Sl.n (Sl.mk n0 0 (takeL (n0 * 1) (dropL 0 q0)))) - k1) * 1) (dropL (k1 * 1) (Sl.cs (Sl.mk n0 0 (takeL (n0 * 1) (dropL 0 q0)))))))),(Sl.v 1 (Sl.mk (k1 - 0) (bb (an (Nat.beq k1 (Sl.n (Sl.mk n0 0 (takeL (n0 * 1) (dropL 0 q0))))) (orr false (Nat.beq (Sl.fl (Sl.mk n0 0 (takeL (n0 * 1) (dropL 0 q0)))) 1))) 1 0) (takeL ((k1 - 0) * 1) (dropL (0 * 1) (Sl.cs (Sl.mk n0 0 (takeL (n0 * 1) (dropL 0 q0))))))))]:LV)))))]) none fun v0=>(oo (toSl 1 v0) none fun s0=>(some (Sl.v 1 s0)))) none) none) none)) none) none)
def m27_3 (pu:PureF) (n:Nat) (ih0:Nat→Nat→Int→Int→LV→LV→LV→OV) (n0 c0:Nat) (z0 z1:Int) (q0:LV) (q1:LV) (q2:LV):OV:=
 (bb (Nat.ble (0 + 22) (len q2)) (bb (Nat.beq (len (takeL 22 (dropL 0 q2))) 22) (bb (an (Nat.ble (0 + len (takeL 22 (dropL 0 q2))) (len zA46)) (allL scalarB (takeL 22 (dropL 0 q2)))) (bb (allL closed1 q0) (bb (allL closed1 q1) (bb (allL closed1 (setL (takeL 22 (dropL 0 q2)) 0 zA46)) (bb (Nat.ble (0 + 22) (len (setL (takeL 22 (dropL 0 q2)) 0 zA46))) (oo (pu 20 [(.agg ⟨(takeL 22 (dropL 0 (setL (takeL 22 (dropL 0 q2)) 0 zA46)))⟩)]) none fun v0=>(oo (vAgg v0) none fun q3=>(bb (an (Nat.beq (len q3) 22) (allL closed1 q3)) (bb (allL closed2 [(.agg ⟨(takeL 22 (dropL 0 (setL (takeL 22 (dropL 0 q2)) 0 zA46)))⟩)]) (bb (Nat.beq (len q3) 22) (bb (an (Nat.ble (0 + len q3) (len (setL (takeL 22 (dropL 0 q2)) 0 zA46))) (allL scalarB q3)) (bb (allL closed1 (setL q3 0 (setL (takeL 22 (dropL 0 q2)) 0 zA46))) (ih0 n0 c0 z0 (wrapF .i64 (Int.add z1 (1:Int))) q0 q1 (setL q3 0 (setL (takeL 22 (dropL 0 q2)) 0 zA46))) none) none) none) none) none))) none) none) none) none) none) none) none)
def m27_2 (pu:PureF) (n:Nat) (ih0:Nat→Nat→Int→Int→LV→LV→LV→OV) (n0 c0:Nat) (z0 z1:Int) (b0:Bool) (q0:LV) (q1:LV) (q2:LV):OV:=
 (bb b0 (bb (allL closed1 q0) (bb (allL closed1 q1) (bb (allL closed1 q2) (bb (Nat.ble (0 + 22) (len q2)) (oo (pu 21 [(.agg ⟨(takeL 22 (dropL 0 q2))⟩)]) none fun v0=>(oo (toSl 1 v0) none fun s0=>(bb (allL closed2 [(.agg ⟨(takeL 22 (dropL 0 q2))⟩)]) (bb (an (Nat.ble (0 + (Sl.n s0) * 1) (len (Sl.cs s0))) (allL closed1 (takeL ((Sl.n s0) * 1) (dropL 0 (Sl.cs s0))))) (bb (growC 1 24 n0 c0 1 q1) (bb (allL closed1 (appL (dropL 0 q1) [(Sl.v 1 (Sl.mk (Sl.n s0) 0 (takeL ((Sl.n s0) * 1) (dropL 0 (Sl.cs s0)))))])) (oo (toN z1) none fun k1=>(bb (an (Nat.blt k1 (n0 + 1)) true) (oo (nthL (appL (dropL 0 q1) [(Sl.v 1 (Sl.mk (Sl.n s0) 0 (takeL ((Sl.n s0) * 1) (dropL 0 (Sl.cs s0)))))]) (0 + k1 * 1)) none fun v1=>(oo (toSl 1 v1) none fun s1=>(oo (toN z0) none fun k2=>(bb (an (Nat.blt k2 (n0 + 1)) true) (oo (nthL (appL (dropL 0 q1) [(Sl.v 1 (Sl.mk (Sl.n s0) 0 (takeL ((Sl.n s0) * 1) (dropL 0 (Sl.cs s0)))))]) (0 + k2 * 1)) none fun v2=>(oo (toSl 1 v2) none fun s2=>(oo (pu 13 [Sl.v 1 s1,Sl.v 1 s2]) none fun v3=>(oo (toI .i64 v3) none fun x0=>(bb (ilt x0 (0:Int)) (m27_3 pu n ih0 (n0 + 1) (2 * (n0 + 1) + bb false 1 0) (Int.ofNat k1) (Int.ofNat k1) q0 (appL (dropL 0 q1) [(Sl.v 1 (Sl.mk (Sl.n s0) 0 (takeL ((Sl.n s0) * 1) (dropL 0 (Sl.cs s0)))))]) q2) (m27_3 pu n ih0 (n0 + 1) (2 * (n0 + 1) + bb false 1 0) (Int.ofNat k2) (Int.ofNat k1) q0 (appL (dropL 0 q1) [(Sl.v 1 (Sl.mk (Sl.n s0) 0 (takeL ((Sl.n s0) * 1) (dropL 0 (Sl.cs s0)))))]) q2)))))) none)))) none)) none) none) none) none))) none) none) none) none) (bb (allL closed1 q1) (m27_0 pu n n0 c0 z0 q1) none))
def b27_1 (pu:PureF) (n:Nat) (ih0:Nat→Nat→Int→Int→LV→LV→LV→OV) (n0 c0:Nat) (z0 z1:Int) (q0:LV) (q1:LV) (q2:LV):OV:=
 (bb (ieq z1 (0:Int)) (bb (allL closed1 q0) (bb (allL closed1 q1) (bb (allL closed1 q2) (m27_2 pu n ih0 n0 c0 z0 z1 true q0 q1 q2) none) none) none) (bb (Nat.ble (0 + 22) (len q2)) (bb (Nat.ble (0 + 22) (len q0)) (bb (flatLike ti46 (takeL 22 (dropL 0 q2))) (oo (cellsEq (takeL 22 (dropL 0 q2)) (takeL 22 (dropL 0 q0))) none fun b0=>(bb (allL closed1 q0) (bb (allL closed1 q1) (bb (allL closed1 q2) (m27_2 pu n ih0 n0 c0 z0 z1 (bq false b0) q0 q1 q2) none) none) none)) none) none) none))
def l27_1 (pu:PureF) (n w:Nat):Nat→Nat→Int→Int→LV→LV→LV→OV:=
 Nat.rec (motive:=fun _=>Nat→Nat→Int→Int→LV→LV→LV→OV) (fun _ _ _ _ _ _ _=>none) (fun _ ih0=>b27_1 pu n ih0) w
def m27_ (pu:PureF) (n:Nat) (q0:LV):OV:=
 (bb (allL closed1 q0) (bb (Nat.ble (0 + 22) (len q0)) (oo (pu 26 [(.agg ⟨(takeL 22 (dropL 0 q0))⟩)]) none fun v0=>(oo (vTup v0) none fun l0=>(ll l0 none fun v1 l0=>(ll l0 none fun v2 l0=>(ll l0 (oo (toI .i64 v1) none fun x0=>(oo (vAgg v2) none fun q1=>(bb (an (Nat.beq (len q1) 22) (allL closed1 q1)) (bb (allL closed2 [(.agg ⟨(takeL 22 (dropL 0 q0))⟩)]) (bb (Nat.beq (len q1) 22) (bb (an (Nat.ble (0 + len q1) (len zA46)) (allL scalarB q1)) (bb (allL closed1 (setL q1 0 zA46)) (bb (Nat.ble (0 + 22) (len (setL q1 0 zA46))) (bb (Nat.beq (len (takeL 22 (dropL 0 (setL q1 0 zA46)))) 22) (bb (an (Nat.ble (0 + len (takeL 22 (dropL 0 (setL q1 0 zA46)))) (len zA46)) (allL scalarB (takeL 22 (dropL 0 (setL q1 0 zA46))))) (bb (allL closed1 (setL (takeL 22 (dropL 0 (setL q1 0 zA46))) 0 zA46)) (l27_1 pu n n 0 0 (0:Int) (0:Int) (setL q1 0 zA46) ([]:LV) (setL (takeL 22 (dropL 0 (setL q1 0 zA46))) 0 zA46)) none) none) none) none) none) none) none) none) none))) fun _ _=>none))))) none) none)
def m27 (pu:PureF) (n:Nat) (args:LV):OV:=
 (ll args none fun a0 args=>(ll args (oo (vAgg a0) none fun q0=>(bb (an (Nat.beq (len q0) 22) (allL closed1 q0)) (m27_ pu n q0) none)) fun _ _=>none))
theorem w27_0 (pu:PureF) (n n0 c0:Nat) (z0:Int) (q0:LV) {v:Value} (hm:m27_0 pu n n0 c0 z0 q0 = some v):Run tt (callP tabs isP pu (inl pu)) 0 c27_26 (fr 51 [(5,sc 0 0 1 n0 c0),(6,zI z0)]) (hp 1 [oC q0]) (Fin tt 0 [.tmp 2] v):=by
 unfold m27_0 at hm
 refine .then ?_
 replace hm:=bb_inv hm;obtain ⟨h0,hm⟩:=hm
 refine .ghs (Fr.puts (fr 51 [(5,sc 0 0 1 n0 c0),(6,zI z0)]) [(5,(Sl.v 1 (Sl.mk n0 0 (takeL (n0 * 1) (dropL 0 q0)))))]) (hp 1 [.dead]) (.freezeC 0 5 1 (an (Nat.ble (0 + n0 * 1) (len q0)) (allL closed1 (takeL (n0 * 1) (dropL 0 q0)))) (F1:=(Fr.puts (fr 51 [(5,sc 0 0 1 n0 c0),(6,zI z0)]) [(5,(Sl.v 1 (Sl.mk n0 0 (takeL (n0 * 1) (dropL 0 q0)))))])) (H1:=(hp 1 [.dead])) (by kernel_rfl) (by kernel_rfl) h0 (GhS.id _ _)) ?_
 replace hm:=bb_inv hm;obtain ⟨h1,hm⟩:=hm
 replace hm:=oo_inv hm;obtain ⟨k1,h2,hm⟩:=hm
 obtain rfl:=toN_some h2
 replace hm:=bb_inv hm;obtain ⟨h3,hm⟩:=hm
 replace hm:=bb_inv hm;obtain ⟨h4,hm⟩:=hm
 replace hm:=bb_inv hm;obtain ⟨h5,hm⟩:=hm
 replace hm:=oo_inv hm;obtain ⟨v0,h6,hm⟩:=hm
 replace hm:=inv_toSl hm;obtain ⟨s0,rfl,hm⟩:=hm
 refine .reg (eC 2 (keep (hp 1 [.dead]) (asliceFs ti24 ⟨1,(Sl.n (Sl.mk n0 0 (takeL (n0 * 1) (dropL 0 q0)))),(Sl.fl (Sl.mk n0 0 (takeL (n0 * 1) (dropL 0 q0)))),(Sl.cs (Sl.mk n0 0 (takeL (n0 * 1) (dropL 0 q0))))⟩ (some (zI (Int.ofNat k1))) none none)) (asliceFs_eq (c1:=true) (c2:=(Nat.ble k1 (Sl.n (Sl.mk n0 0 (takeL (n0 * 1) (dropL 0 q0)))))) (l:=k1) (h:=(Sl.n (Sl.mk n0 0 (takeL (n0 * 1) (dropL 0 q0))))) h1 (by kernel_rfl) (by kernel_rfl) rfl (by kernel_rfl) h3) (eC 2 (keep (hp 1 [.dead]) (asliceFs ti24 ⟨1,(Sl.n (Sl.mk n0 0 (takeL (n0 * 1) (dropL 0 q0)))),(Sl.fl (Sl.mk n0 0 (takeL (n0 * 1) (dropL 0 q0)))),(Sl.cs (Sl.mk n0 0 (takeL (n0 * 1) (dropL 0 q0))))⟩ none (some (zI (Int.ofNat k1))) none)) (asliceFs_eq (c1:=(Nat.ble k1 (Sl.n (Sl.mk n0 0 (takeL (n0 * 1) (dropL 0 q0)))))) (c2:=true) (l:=0) (h:=k1) h4 (by kernel_rfl) (by kernel_rfl) h5 (by kernel_rfl) rfl) (eC 1 (giveF tabs 1 (pu 42) [sc 1 0 1 2 5] (hp 2 [.dead,(oC [(Sl.v 1 (Sl.mk ((Sl.n (Sl.mk n0 0 (takeL (n0 * 1) (dropL 0 q0)))) - k1) (bb (an (Nat.beq (Sl.n (Sl.mk n0 0 (takeL (n0 * 1) (dropL 0 q0)))) (Sl.n (Sl.mk n0 0 (takeL (n0 * 1) (dropL 0 q0))))) (orr false (Nat.beq (Sl.fl (Sl.mk n0 0 (takeL (n0 * 1) (dropL 0 q0)))) 1))) 1 0) (takeL (((Sl.n (Sl.mk n0 0 (takeL (n0 * 1) (dropL 0 q0)))) - k1) * 1) (dropL (k1 * 1) (Sl.cs (Sl.mk n0 0 (takeL (n0 * 1) (dropL 0 q0)))))))),(Sl.v 1 (Sl.mk (k1 - 0) (bb (an (Nat.beq k1 (Sl.n (Sl.mk n0 0 (takeL (n0 * 1) (dropL 0 q0))))) (orr false (Nat.beq (Sl.fl (Sl.mk n0 0 (takeL (n0 * 1) (dropL 0 q0)))) 1))) 1 0) (takeL ((k1 - 0) * 1) (dropL (0 * 1) (Sl.cs (Sl.mk n0 0 (takeL (n0 * 1) (dropL 0 q0))))))))])])) (giveF_eq (giveL_cons (show giveV 1 (sc 1 0 1 2 5) (hp 2 [.dead,(oC [(Sl.v 1 (Sl.mk ((Sl.n (Sl.mk n0 0 (takeL (n0 * 1) (dropL 0 q0)))) - k1) (bb (an (Nat.beq (Sl.n (Sl.mk n0 0 (takeL (n0 * 1) (dropL 0 q0)))) (Sl.n (Sl.mk n0 0 (takeL (n0 * 1) (dropL 0 q0))))) (orr false (Nat.beq (Sl.fl (Sl.mk n0 0 (takeL (n0 * 1) (dropL 0 q0)))) 1))) 1 0) (takeL (((Sl.n (Sl.mk n0 0 (takeL (n0 * 1) (dropL 0 q0)))) - k1) * 1) (dropL (k1 * 1) (Sl.cs (Sl.mk n0 0 (takeL (n0 * 1) (dropL 0 q0)))))))),(Sl.v 1 (Sl.mk (k1 - 0) (bb (an (Nat.beq k1 (Sl.n (Sl.mk n0 0 (takeL (n0 * 1) (dropL 0 q0))))) (orr false (Nat.beq (Sl.fl (Sl.mk n0 0 (takeL (n0 * 1) (dropL 0 q0)))) 1))) 1 0) (takeL ((k1 - 0) * 1) (dropL (0 * 1) (Sl.cs (Sl.mk n0 0 (takeL (n0 * 1) (dropL 0 q0))))))))])]) = some ((Sl.v 1 (Sl.mk 2 0 (takeL (2 * 1) (dropL 0 ([(Sl.v 1 (Sl.mk ((Sl.n (Sl.mk n0 0 (takeL (n0 * 1) (dropL 0 q0)))) - k1) (bb (an (Nat.beq (Sl.n (Sl.mk n0 0 (takeL (n0 * 1) (dropL 0 q0)))) (Sl.n (Sl.mk n0 0 (takeL (n0 * 1) (dropL 0 q0))))) (orr false (Nat.beq (Sl.fl (Sl.mk n0 0 (takeL (n0 * 1) (dropL 0 q0)))) 1))) 1 0) (takeL (((Sl.n (Sl.mk n0 0 (takeL (n0 * 1) (dropL 0 q0)))) - k1) * 1) (dropL (k1 * 1) (Sl.cs (Sl.mk n0 0 (takeL (n0 * 1) (dropL 0 q0)))))))),(Sl.v 1 (Sl.mk (k1 - 0) (bb (an (Nat.beq k1 (Sl.n (Sl.mk n0 0 (takeL (n0 * 1) (dropL 0 q0))))) (orr false (Nat.beq (Sl.fl (Sl.mk n0 0 (takeL (n0 * 1) (dropL 0 q0)))) 1))) 1 0) (takeL ((k1 - 0) * 1) (dropL (0 * 1) (Sl.cs (Sl.mk n0 0 (takeL (n0 * 1) (dropL 0 q0))))))))]:LV))))),(hp 2 [.dead,.dead])) from giveV_sl 1 0 1 2 5 ([(Sl.v 1 (Sl.mk ((Sl.n (Sl.mk n0 0 (takeL (n0 * 1) (dropL 0 q0)))) - k1) (bb (an (Nat.beq (Sl.n (Sl.mk n0 0 (takeL (n0 * 1) (dropL 0 q0)))) (Sl.n (Sl.mk n0 0 (takeL (n0 * 1) (dropL 0 q0))))) (orr false (Nat.beq (Sl.fl (Sl.mk n0 0 (takeL (n0 * 1) (dropL 0 q0)))) 1))) 1 0) (takeL (((Sl.n (Sl.mk n0 0 (takeL (n0 * 1) (dropL 0 q0)))) - k1) * 1) (dropL (k1 * 1) (Sl.cs (Sl.mk n0 0 (takeL (n0 * 1) (dropL 0 q0)))))))),(Sl.v 1 (Sl.mk (k1 - 0) (bb (an (Nat.beq k1 (Sl.n (Sl.mk n0 0 (takeL (n0 * 1) (dropL 0 q0))))) (orr false (Nat.beq (Sl.fl (Sl.mk n0 0 (takeL (n0 * 1) (dropL 0 q0)))) 1))) 1 0) (takeL ((k1 - 0) * 1) (dropL (0 * 1) (Sl.cs (Sl.mk n0 0 (takeL (n0 * 1) (dropL 0 q0))))))))]:LV) [] (by kernel_rfl) (by kernel_rfl) (by kernel_rfl)) giveL_nil) (by kernel_rfl) h6) (eE)))) ?_
 refine .ghs (fr 51 [(2,Sl.v 1 s0)]) (hp 0 []) (.k0 [] [] [2]) ?_
 refine .ret ?_
 exact fin_ret (Sl.v 1 s0) (by kernel_rfl) (by kernel_rfl) hm
theorem r27 {call:CallF} (pu:PureF) (n:Nat) (hcall:call = callP tabs isP pu (inl pu)) {args:LV} {v:Value} (hm:m27 pu n args = some v) (_:∀ x ∈ args,closed2 x = true):args.length≤51∧Run tt call 0 c27_31 (Fr.made 51 args) (pureHeap tabs) (Fin tt 0 [.tmp 2] v):=by
 subst hcall
 unfold m27 at hm
 replace hm:=ll_uncons hm;obtain ⟨a0,args_0,rfl,hm⟩:=hm
 replace hm:=ll_end hm;obtain ⟨rfl,hm⟩:=hm
 replace hm:=inv_vAgg hm;obtain ⟨q0,rfl,hm⟩:=hm
 replace hm:=bb_inv hm;obtain ⟨h0,hm⟩:=hm
 unfold m27_ at hm
 refine ⟨by simp,?_⟩
 refine .same (F':=(fr 51 [(0,(.agg ⟨q0⟩))])) (H':=(hp 0 [])) (by kernel_rfl) (by kernel_rfl) ?_
 refine .then (.rK ?_)
 replace hm:=bb_inv hm;obtain ⟨h1,hm⟩:=hm
 refine .ghs (fr 51 [(1,(pt 0 0))]) (hp 1 [oC q0]) (.k [0] [] [.tmp 1 false] [1] ⟨trF h1,trivial⟩) ?_
 refine .then ?_
 replace hm:=bb_inv hm;obtain ⟨h2,hm⟩:=hm
 replace hm:=oo_inv hm;obtain ⟨v0,h3,hm⟩:=hm
 replace hm:=inv_vTup hm;obtain ⟨l0,rfl,hm⟩:=hm
 replace hm:=ll_uncons hm;obtain ⟨v1,l2417_0,rfl,hm⟩:=hm
 replace hm:=ll_uncons hm;obtain ⟨v2,l2417_1,rfl,hm⟩:=hm
 replace hm:=ll_end hm;obtain ⟨rfl,hm⟩:=hm
 replace hm:=inv_toI hm;obtain ⟨x0,rfl,hm⟩:=hm
 replace hm:=inv_vAgg hm;obtain ⟨q1,rfl,hm⟩:=hm
 replace hm:=bb_inv hm;obtain ⟨h4,hm⟩:=hm
 replace hm:=bb_inv hm;obtain ⟨h5,hm⟩:=hm
 replace hm:=bb_inv hm;obtain ⟨h6,hm⟩:=hm
 replace hm:=bb_inv hm;obtain ⟨h7,hm⟩:=hm
 refine .reg (eD (keep (hp 1 [oC q0]) (bb (Nat.ble (0 + 22) (len q0)) (some (.agg ⟨(takeL 22 (dropL 0 q0))⟩)) none)) (keep_bb h2) (eD (bb (allL closed2 [(.agg ⟨(takeL 22 (dropL 0 q0))⟩)]) (oo (pu 26 [(.agg ⟨(takeL 22 (dropL 0 q0))⟩)]) none fun v=>some (v,(hp 1 [oC q0]))) (oo (mapO (purify (hp 1 [oC q0])) [(.agg ⟨(takeL 22 (dropL 0 q0))⟩)]) none fun l1=>oo (pu 26 l1) none fun v=>bb (plainT v) (some (v,(hp 1 [oC q0]))) none)) (callc_eq h5 h3) (eC 5 (done (bb (Nat.beq (len q1) 22) (bb (an (Nat.ble (0 + len q1) (len zA46)) (allL scalarB q1)) (some (hp 2 [oC q0,(oC (setL q1 0 zA46))])) none) none) undef) (done_bb2 h6 h7) (eE)))) ?_
 replace hm:=bb_inv hm;obtain ⟨h8,hm⟩:=hm
 refine .ghs (fr 51 [(4,(pt 0 0))]) (hp 1 [(oC (setL q1 0 zA46))]) (.k [1] [] [.tmp 4 false] [4] ⟨trF h8,trivial⟩) ?_
 refine .then (.rK ?_)
 refine .ghs (fr 51 [(4,(pt 0 0)),(5,(.slice none 0 0))]) (hp 1 [(oC (setL q1 0 zA46))]) (.k [0] [] [.tmp 4 false] [4,5] ⟨trF h8,trivial⟩) ?_
 refine .then (.rK ?_)
 refine .ghs (fr 51 [(4,(pt 0 0)),(5,(.slice none 0 0)),(6,(zI (0:Int)))]) (hp 1 [(oC (setL q1 0 zA46))]) (.k [0] [] [.tmp 4 false] [4,5,6] ⟨trF h8,trivial⟩) ?_
 refine .join (v:=v) (fun y:Nat×Nat×Int×LV=>((fr 51 [(5,(sc 0 0 1 y.1 y.2.1)),(6,(zI y.2.2.1))]),(hp 1 [(oC y.2.2.2)]))) (fun y=>m27_0 pu n y.1 y.2.1 y.2.2.1 y.2.2.2) ?_ ?_
 ·rintro ⟨n0, c0, z0, q2⟩ hm
  exact w27_0 pu n n0 c0 z0 q2 hm
 ·refine .then ?_
  replace hm:=bb_inv hm;obtain ⟨h9,hm⟩:=hm
  replace hm:=bb_inv hm;obtain ⟨h10,hm⟩:=hm
  replace hm:=bb_inv hm;obtain ⟨h11,hm⟩:=hm
  refine .reg (eD (keep (hp 1 [(oC (setL q1 0 zA46))]) (bb (Nat.ble (0 + 22) (len (setL q1 0 zA46))) (some (.agg ⟨(takeL 22 (dropL 0 (setL q1 0 zA46)))⟩)) none)) (keep_bb h9) (eC 1 (done (bb (Nat.beq (len (takeL 22 (dropL 0 (setL q1 0 zA46)))) 22) (bb (an (Nat.ble (0 + len (takeL 22 (dropL 0 (setL q1 0 zA46)))) (len zA46)) (allL scalarB (takeL 22 (dropL 0 (setL q1 0 zA46))))) (some (hp 2 [(oC (setL q1 0 zA46)),(oC (setL (takeL 22 (dropL 0 (setL q1 0 zA46))) 0 zA46))])) none) none) undef) (done_bb2 h10 h11) (eE))) ?_
  replace hm:=bb_inv hm;obtain ⟨h12,hm⟩:=hm
  refine .ghs (fr 51 [(4,(pt 0 0)),(5,(.slice none 0 0)),(6,(zI (0:Int))),(7,pt 1 0),(8,(zI (0:Int)))]) (hp 2 [(oC (setL q1 0 zA46)),(oC (setL (takeL 22 (dropL 0 (setL q1 0 zA46))) 0 zA46))]) (.k [0,1] [] [.tmp 4 false,.tmp 7 false] [4,5,6,7,8] ⟨trF h8,trF h12,trivial⟩) ?_
  refine .block ?_
  refine .loopM (v:=v) (fun y:Nat×Nat×Int×Int×LV×LV×LV=>((fr 51 [(4,(pt 0 0)),(5,(sc 1 0 1 y.1 y.2.1)),(6,(zI y.2.2.1)),(7,(pt 2 0)),(8,(zI y.2.2.2.1))]),(hp 3 [(oC y.2.2.2.2.1),(oC y.2.2.2.2.2.1),(oC y.2.2.2.2.2.2)]))) (fun w y=>l27_1 pu n w y.1 y.2.1 y.2.2.1 y.2.2.2.1 y.2.2.2.2.1 y.2.2.2.2.2.1 y.2.2.2.2.2.2) n ⟨(0,0,(0:Int),(0:Int),(setL q1 0 zA46),([]:LV),(setL (takeL 22 (dropL 0 (setL q1 0 zA46))) 0 zA46)),hm,(.thaw 5 1 (by kernel_rfl) (.k [0,1] [] [.tmp 4 false,.tmp 5 false,.tmp 7 false] [4,5,6,7,8] ⟨trF h8,trF h12,trivial⟩))⟩ (fun _=>rfl) ?_
  rintro w0 ⟨n1,c1,z1,z2,q3,q4,q5⟩ hm
  replace hm:b27_1 pu n (l27_1 pu n w0) n1 c1 z1 z2 q3 q4 q5 = some v:=hm
  unfold b27_1 at hm
  refine .then ?_
  refine .join (v:=v) (fun y:Nat×Nat×Int×Int×Bool×LV×LV×LV=>((fr 51 [(4,(pt 0 0)),(5,(sc 1 0 1 y.1 y.2.1)),(6,(zI y.2.2.1)),(7,(pt 2 0)),(8,(zI y.2.2.2.1)),(21,(zB y.2.2.2.2.1))]),(hp 3 [(oC y.2.2.2.2.2.1),(oC y.2.2.2.2.2.2.1),(oC y.2.2.2.2.2.2.2)]))) (fun y=>m27_2 pu n (l27_1 pu n w0) y.1 y.2.1 y.2.2.1 y.2.2.2.1 y.2.2.2.2.1 y.2.2.2.2.2.1 y.2.2.2.2.2.2.1 y.2.2.2.2.2.2.2) ?_ ?_
  ·rintro ⟨n2, c2, z3, z4, b0, q6, q7, q8⟩ hm
   unfold m27_2 at hm
   replace hm:=bb_cases hm;rcases hm with ⟨h13,hm⟩ | ⟨h13,hm⟩
   ·refine .ifT b0 (by kernel_rfl) h13 ?_
    refine .skip ?_
    replace hm:=bb_inv hm;obtain ⟨h14,hm⟩:=hm
    replace hm:=bb_inv hm;obtain ⟨h15,hm⟩:=hm
    replace hm:=bb_inv hm;obtain ⟨h16,hm⟩:=hm
    refine .ghs (fr 51 [(4,(pt 0 0)),(5,sc 1 0 1 n2 c2),(6,zI z3),(7,(pt 2 0)),(8,zI z4)]) (hp 3 [oC q6,oC q7,oC q8]) (.k [0,1,2] [] [.tmp 4 false,.tmp 5 false,.tmp 7 false] [4,5,6,7,8] ⟨trF h14,trF h15,trF h16,trivial⟩) ?_
    refine .join (v:=v) (fun y:Nat×Nat×Int×Int×LV×LV×LV=>((fr 51 [(4,(pt 0 0)),(5,(sc 1 0 1 y.1 y.2.1)),(6,(zI y.2.2.1)),(7,(pt 2 0)),(8,(zI y.2.2.2.1))]),(hp 3 [(oC y.2.2.2.2.1),(oC y.2.2.2.2.2.1),(oC y.2.2.2.2.2.2)]))) (fun y=>m27_3 pu n (l27_1 pu n w0) y.1 y.2.1 y.2.2.1 y.2.2.2.1 y.2.2.2.2.1 y.2.2.2.2.2.1 y.2.2.2.2.2.2) ?_ ?_
    ·rintro ⟨n3, c106, z5, z6, q9, q10, q11⟩ hm
     unfold m27_3 at hm
     refine .then ?_
     refine .then ?_
     replace hm:=bb_inv hm;obtain ⟨h17,hm⟩:=hm
     refine .reg (eD (keep (hp 3 [oC q9,oC q10,oC q11]) (bb (Nat.ble (0 + 22) (len q11)) (some (.agg ⟨(takeL 22 (dropL 0 q11))⟩)) none)) (keep_bb h17) (eE)) ?_
     replace hm:=bb_inv hm;obtain ⟨h18,hm⟩:=hm
     replace hm:=bb_inv hm;obtain ⟨h19,hm⟩:=hm
     refine .reg (eC 1 (done (bb (Nat.beq (len (takeL 22 (dropL 0 q11))) 22) (bb (an (Nat.ble (0 + len (takeL 22 (dropL 0 q11))) (len zA46)) (allL scalarB (takeL 22 (dropL 0 q11)))) (some (hp 4 [oC q9,oC q10,oC q11,(oC (setL (takeL 22 (dropL 0 q11)) 0 zA46))])) none) none) undef) (done_bb2 h18 h19) (eE)) ?_
     replace hm:=bb_inv hm;obtain ⟨h20,hm⟩:=hm
     replace hm:=bb_inv hm;obtain ⟨h21,hm⟩:=hm
     replace hm:=bb_inv hm;obtain ⟨h22,hm⟩:=hm
     refine .ghs (fr 51 [(4,(pt 0 0)),(5,sc 1 0 1 n3 c106),(6,zI z5),(7,(pt 2 0)),(8,zI z6)]) (hp 3 [oC q9,oC q10,(oC (setL (takeL 22 (dropL 0 q11)) 0 zA46))]) (.k [0,1,3] [] [.tmp 4 false,.tmp 5 false,.tmp 7 false] [4,5,6,7,8] ⟨trF h20,trF h21,trF h22,trivial⟩) ?_
     replace hm:=bb_inv hm;obtain ⟨h23,hm⟩:=hm
     replace hm:=oo_inv hm;obtain ⟨v3,h24,hm⟩:=hm
     replace hm:=inv_vAgg hm;obtain ⟨q12,rfl,hm⟩:=hm
     replace hm:=bb_inv hm;obtain ⟨h25,hm⟩:=hm
     replace hm:=bb_inv hm;obtain ⟨h26,hm⟩:=hm
     replace hm:=bb_inv hm;obtain ⟨h27,hm⟩:=hm
     replace hm:=bb_inv hm;obtain ⟨h28,hm⟩:=hm
     refine .reg (eD (keep (hp 3 [oC q9,oC q10,(oC (setL (takeL 22 (dropL 0 q11)) 0 zA46))]) (bb (Nat.ble (0 + 22) (len (setL (takeL 22 (dropL 0 q11)) 0 zA46))) (some (.agg ⟨(takeL 22 (dropL 0 (setL (takeL 22 (dropL 0 q11)) 0 zA46)))⟩)) none)) (keep_bb h23) (eD (bb (allL closed2 [(.agg ⟨(takeL 22 (dropL 0 (setL (takeL 22 (dropL 0 q11)) 0 zA46)))⟩)]) (oo (pu 20 [(.agg ⟨(takeL 22 (dropL 0 (setL (takeL 22 (dropL 0 q11)) 0 zA46)))⟩)]) none fun v=>some (v,(hp 3 [oC q9,oC q10,(oC (setL (takeL 22 (dropL 0 q11)) 0 zA46))]))) (oo (mapO (purify (hp 3 [oC q9,oC q10,(oC (setL (takeL 22 (dropL 0 q11)) 0 zA46))])) [(.agg ⟨(takeL 22 (dropL 0 (setL (takeL 22 (dropL 0 q11)) 0 zA46)))⟩)]) none fun l1=>oo (pu 20 l1) none fun v=>bb (plainT v) (some (v,(hp 3 [oC q9,oC q10,(oC (setL (takeL 22 (dropL 0 q11)) 0 zA46))]))) none)) (callc_eq h26 h24) (eC 2 (done (bb (Nat.beq (len q12) 22) (bb (an (Nat.ble (0 + len q12) (len (setL (takeL 22 (dropL 0 q11)) 0 zA46))) (allL scalarB q12)) (some (hp 3 [oC q9,oC q10,(oC (setL q12 0 (setL (takeL 22 (dropL 0 q11)) 0 zA46)))])) none) none) undef) (done_bb2 h27 h28) (eE)))) ?_
     replace hm:=bb_inv hm;obtain ⟨h29,hm⟩:=hm
     exact ⟨(n3,c106,z5,(wrapF .i64 (Int.add z6 (1:Int))),q9,q10,(setL q12 0 (setL (takeL 22 (dropL 0 q11)) 0 zA46))),hm,(.k [0,1,2] [] [.tmp 4 false,.tmp 5 false,.tmp 7 false] [4,5,6,7,8] ⟨trF h20,trF h21,trF h29,trivial⟩)⟩
    ·refine .block ?_
     refine .then ?_
     replace hm:=bb_inv hm;obtain ⟨h30,hm⟩:=hm
     replace hm:=oo_inv hm;obtain ⟨v4,h31,hm⟩:=hm
     replace hm:=inv_toSl hm;obtain ⟨s0,rfl,hm⟩:=hm
     replace hm:=bb_inv hm;obtain ⟨h32,hm⟩:=hm
     replace hm:=bb_inv hm;obtain ⟨h33,hm⟩:=hm
     replace hm:=bb_inv hm;obtain ⟨h34,hm⟩:=hm
     refine .rG (OpsG.seg 3 (Fr.puts (fr 51 [(4,(pt 0 0)),(5,sc 1 0 1 n2 c2),(6,zI z3),(7,(pt 2 0)),(8,zI z4)]) [(26,sc 1 0 1 n2 c2),(27,(.agg ⟨(takeL 22 (dropL 0 q8))⟩)),(28,(sc 3 0 1 (Sl.n s0) (d2 (Sl.n s0))))]) (hp 4 [oC q6,oC q7,oC q8,(oC (Sl.cs s0))]) (eC 1 (keep (hp 3 [oC q6,oC q7,oC q8]) (bb (Nat.ble (0 + 22) (len q8)) (some (.agg ⟨(takeL 22 (dropL 0 q8))⟩)) none)) (keep_bb h30) (eD (bb (allL closed2 [(.agg ⟨(takeL 22 (dropL 0 q8))⟩)]) (oo (pu 21 [(.agg ⟨(takeL 22 (dropL 0 q8))⟩)]) none fun v=>oo (toSl 1 v) none fun s=>some (((sc 3 0 1 (Sl.n s) (d2 (Sl.n s))),(hp 4 [oC q6,oC q7,oC q8,(oC (Sl.cs s))])):Value×AHeap)) none) ((bb_true' h32).trans (live_eq (sz:=1) (k:=fun s=>(((sc 3 0 1 (Sl.n s) (d2 (Sl.n s))),(hp 4 [oC q6,oC q7,oC q8,(oC (Sl.cs s))])):Value×AHeap)) h31)) (by kernel_rfl))) (OpsG.ghs (Fr.puts (fr 51 [(4,(pt 0 0)),(5,sc 1 0 1 n2 c2),(6,zI z3),(7,(pt 2 0)),(8,zI z4)]) [(26,sc 1 0 1 n2 c2),(27,(.agg ⟨(takeL 22 (dropL 0 q8))⟩)),(28,(Sl.v 1 (Sl.mk (Sl.n s0) 0 (takeL ((Sl.n s0) * 1) (dropL 0 (Sl.cs s0))))))]) (hp 4 [oC q6,oC q7,oC q8,.dead]) (.freezeC 0 28 1 (an (Nat.ble (0 + (Sl.n s0) * 1) (len (Sl.cs s0))) (allL closed1 (takeL ((Sl.n s0) * 1) (dropL 0 (Sl.cs s0))))) (F1:=(Fr.puts (fr 51 [(4,(pt 0 0)),(5,sc 1 0 1 n2 c2),(6,zI z3),(7,(pt 2 0)),(8,zI z4)]) [(26,sc 1 0 1 n2 c2),(27,(.agg ⟨(takeL 22 (dropL 0 q8))⟩)),(28,(Sl.v 1 (Sl.mk (Sl.n s0) 0 (takeL ((Sl.n s0) * 1) (dropL 0 (Sl.cs s0))))))])) (H1:=(hp 4 [oC q6,oC q7,oC q8,.dead])) (by kernel_rfl) (by kernel_rfl) h33 (GhS.id _ _)) (OpsG.fin (eC 1 (growD 1 24 n2 c2 1 1 q7 [(Sl.v 1 (Sl.mk (Sl.n s0) 0 (takeL ((Sl.n s0) * 1) (dropL 0 (Sl.cs s0)))))] [] (hp 5 [oC q6,oC q7,oC q8,.dead,(oC [(Sl.v 1 (Sl.mk (Sl.n s0) 0 (takeL ((Sl.n s0) * 1) (dropL 0 (Sl.cs s0)))))])])) (growD_eq h34) (eE))))) ?_
     replace hm:=bb_inv hm;obtain ⟨h35,hm⟩:=hm
     refine .ghs (fr 51 [(4,(pt 0 0)),(5,(sc 1 0 1 (n2 + 1) (d2 (n2 + 1)))),(6,zI z3),(7,(pt 2 0)),(8,zI z4)]) (hp 3 [oC q6,(oC (appL (dropL 0 q7) [(Sl.v 1 (Sl.mk (Sl.n s0) 0 (takeL ((Sl.n s0) * 1) (dropL 0 (Sl.cs s0)))))])),oC q8]) (.k [0,5,2] [] [.tmp 4 false,.tmp 5 false,.tmp 7 false] [4,5,6,7,8] ⟨trF h14,trF h35,trF h16,trivial⟩) ?_
     refine .then ?_
     replace hm:=oo_inv hm;obtain ⟨k1,h36,hm⟩:=hm
     obtain rfl:=toN_some h36
     replace hm:=bb_inv hm;obtain ⟨h37,hm⟩:=hm
     replace hm:=oo_inv hm;obtain ⟨v5,h38,hm⟩:=hm
     replace hm:=inv_toSl hm;obtain ⟨s1,rfl,hm⟩:=hm
     replace hm:=oo_inv hm;obtain ⟨k2,h39,hm⟩:=hm
     obtain rfl:=toN_some h39
     replace hm:=bb_inv hm;obtain ⟨h40,hm⟩:=hm
     replace hm:=oo_inv hm;obtain ⟨v6,h41,hm⟩:=hm
     replace hm:=inv_toSl hm;obtain ⟨s2,rfl,hm⟩:=hm
     replace hm:=oo_inv hm;obtain ⟨v7,h42,hm⟩:=hm
     replace hm:=inv_toI hm;obtain ⟨x1,rfl,hm⟩:=hm
     refine .reg (eC 2 (keep (hp 3 [oC q6,(oC (appL (dropL 0 q7) [(Sl.v 1 (Sl.mk (Sl.n s0) 0 (takeL ((Sl.n s0) * 1) (dropL 0 (Sl.cs s0)))))])),oC q8]) (bb (an (Nat.blt k1 (n2 + 1)) true) (some (.pointer (some ⟨1,(0 + k1 * 1),none⟩))) none)) (keep_bb h37) (eD (keep (hp 3 [oC q6,(oC (appL (dropL 0 q7) [(Sl.v 1 (Sl.mk (Sl.n s0) 0 (takeL ((Sl.n s0) * 1) (dropL 0 (Sl.cs s0)))))])),oC q8]) (nthL (appL (dropL 0 q7) [(Sl.v 1 (Sl.mk (Sl.n s0) 0 (takeL ((Sl.n s0) * 1) (dropL 0 (Sl.cs s0)))))]) (0 + k1 * 1))) (keep_eq h38) (eC 2 (keep (hp 3 [oC q6,(oC (appL (dropL 0 q7) [(Sl.v 1 (Sl.mk (Sl.n s0) 0 (takeL ((Sl.n s0) * 1) (dropL 0 (Sl.cs s0)))))])),oC q8]) (bb (an (Nat.blt k2 (n2 + 1)) true) (some (.pointer (some ⟨1,(0 + k2 * 1),none⟩))) none)) (keep_bb h40) (eD (keep (hp 3 [oC q6,(oC (appL (dropL 0 q7) [(Sl.v 1 (Sl.mk (Sl.n s0) 0 (takeL ((Sl.n s0) * 1) (dropL 0 (Sl.cs s0)))))])),oC q8]) (nthL (appL (dropL 0 q7) [(Sl.v 1 (Sl.mk (Sl.n s0) 0 (takeL ((Sl.n s0) * 1) (dropL 0 (Sl.cs s0)))))]) (0 + k2 * 1))) (keep_eq h41) (eD ((oo (pu 13 [Sl.v 1 s1,Sl.v 1 s2]) none fun v=>some (v,(hp 3 [oC q6,(oC (appL (dropL 0 q7) [(Sl.v 1 (Sl.mk (Sl.n s0) 0 (takeL ((Sl.n s0) * 1) (dropL 0 (Sl.cs s0)))))])),oC q8])))) (call_eq h42) (eE)))))) ?_
     refine .ghs (fr 51 [(4,(pt 0 0)),(5,(sc 1 0 1 (n2 + 1) (d2 (n2 + 1)))),(6,(zI (Int.ofNat k2))),(7,(pt 2 0)),(8,(zI (Int.ofNat k1))),(40,(zB (ilt x1 (0:Int))))]) (hp 3 [oC q6,(oC (appL (dropL 0 q7) [(Sl.v 1 (Sl.mk (Sl.n s0) 0 (takeL ((Sl.n s0) * 1) (dropL 0 (Sl.cs s0)))))])),oC q8]) (.k [0,1,2] [] [.tmp 4 false,.tmp 5 false,.tmp 7 false] [4,5,6,7,8,40] ⟨trF h14,trF h35,trF h16,trivial⟩) ?_
     replace hm:=bb_cases hm;rcases hm with ⟨h43,hm⟩ | ⟨h43,hm⟩
     ·refine .ifT (ilt x1 (0 : Int)) (by kernel_rfl) h43 ?_
      refine .rK ?_
      exact ⟨((n2 + 1),(d2 (n2 + 1)),(Int.ofNat k1),(Int.ofNat k1),q6,(appL (dropL 0 q7) [(Sl.v 1 (Sl.mk (Sl.n s0) 0 (takeL ((Sl.n s0) * 1) (dropL 0 (Sl.cs s0)))))]),q8),hm,(.k [0,1,2] [] [.tmp 4 false,.tmp 5 false,.tmp 7 false] [4,5,6,7,8] ⟨trF h14,trF h35,trF h16,trivial⟩)⟩
     ·refine .ifF (ilt x1 (0 : Int)) (by kernel_rfl) h43 ?_
      refine .skip ?_
      exact ⟨((n2 + 1),(d2 (n2 + 1)),(Int.ofNat k2),(Int.ofNat k1),q6,(appL (dropL 0 q7) [(Sl.v 1 (Sl.mk (Sl.n s0) 0 (takeL ((Sl.n s0) * 1) (dropL 0 (Sl.cs s0)))))]),q8),hm,(.k [0,1,2] [] [.tmp 4 false,.tmp 5 false,.tmp 7 false] [4,5,6,7,8] ⟨trF h14,trF h35,trF h16,trivial⟩)⟩
   ·refine .ifF b0 (by kernel_rfl) h13 ?_
    refine .exit ?_
    replace hm:=bb_inv hm;obtain ⟨h44,hm⟩:=hm
    exact ⟨(n2,c2,z3,q7),hm,(.k [1] [] [.tmp 5 false] [5,6] ⟨trF h44,trivial⟩)⟩
  ·replace hm := bb_cases hm; rcases hm with ⟨h45, hm⟩ | ⟨h45, hm⟩
   ·refine .reg (eC 1 (some ((zB (ieq z2 (0 : Int))), (hp 3 [oC q3, oC q4, oC q5]))) (show _ = some ((zB true), _) from (by rw [h45])) (eE)) ?_
    replace hm:=bb_inv hm;obtain ⟨h46,hm⟩:=hm
    replace hm:=bb_inv hm;obtain ⟨h47,hm⟩:=hm
    replace hm:=bb_inv hm;obtain ⟨h48,hm⟩:=hm
    exact ⟨(n1,c1,z1,z2,true,q3,q4,q5),hm,(.k [0,1,2] [] [.tmp 4 false,.tmp 5 false,.tmp 7 false] [4,5,6,7,8,21] ⟨trF h46,trF h47,trF h48,trivial⟩)⟩
   ·replace hm := bb_inv hm; obtain ⟨h49, hm⟩ := hm
    replace hm:=bb_inv hm;obtain ⟨h50,hm⟩:=hm
    replace hm:=bb_inv hm;obtain ⟨h51,hm⟩:=hm
    replace hm:=oo_inv hm;obtain ⟨b1,h52,hm⟩:=hm
    refine .reg (eC 1 (some ((zB (ieq z2 (0:Int))),(hp 3 [oC q3,oC q4,oC q5]))) (show _ = some ((zB false),_) from (by rw [h45])) (eC 1 (keep (hp 3 [oC q3,oC q4,oC q5]) (bb (Nat.ble (0 + 22) (len q5)) (some (.agg ⟨(takeL 22 (dropL 0 q5))⟩)) none)) (keep_bb h49) (eD (keep (hp 3 [oC q3,oC q4,oC q5]) (bb (Nat.ble (0 + 22) (len q3)) (some (.agg ⟨(takeL 22 (dropL 0 q3))⟩)) none)) (keep_bb h50) (eD (keep (hp 3 [oC q3,oC q4,oC q5]) (oo (bb (flatLike ti46 (takeL 22 (dropL 0 q5))) (cellsEq (takeL 22 (dropL 0 q5)) (takeL 22 (dropL 0 q3))) none) none fun b=>bv (bq false b))) (arrEq_eq h51 h52) (eE))))) ?_
    replace hm:=bb_inv hm;obtain ⟨h53,hm⟩:=hm
    replace hm:=bb_inv hm;obtain ⟨h54,hm⟩:=hm
    replace hm:=bb_inv hm;obtain ⟨h55,hm⟩:=hm
    exact ⟨(n1,c1,z1,z2,(bq false b1),q3,q4,q5),hm,(.k [0,1,2] [] [.tmp 4 false,.tmp 5 false,.tmp 7 false] [4,5,6,7,8,21] ⟨trF h53,trF h54,trF h55,trivial⟩)⟩
end
end Go.HpYM
set_option maxRecDepth 100000
set_option maxHeartbeats 20000000
set_option linter.unusedVariables false
namespace Go.HpYM
open Go.Sp Go.HpY
noncomputable section

def m28_ (pu:PureF) (n:Nat) (x0 x1:Int):OV:=
 (oo (pu 43 [.int .i64 x0]) none fun v0=>(oo (vBool v0) none fun b0=>(oo (pu 43 [.int .i64 x1]) none fun v1=>(oo (vBool v1) none fun b1=>(bb b0 (bb b1 (some (.int .i64 (0:Int))) (some (.int .i64 (-1:Int)))) (bb b1 (some (.int .i64 (1:Int))) (bb (ilt x0 x1) (some (.int .i64 (-1:Int))) (bb (ilt x1 x0) (some (.int .i64 (1:Int))) (some (.int .i64 (0:Int)))))))))))
def m28 (pu:PureF) (n:Nat) (args:LV):OV:=
 (ll args none fun a0 args=>(ll args none fun a1 args=>(ll args (oo (toI .i64 a0) none fun x0=>(oo (toI .i64 a1) none fun x1=>(m28_ pu n x0 x1))) fun _ _=>none)))
theorem r28 {call:CallF} (pu:PureF) (n:Nat) (hcall:call = callP tabs isP pu (inl pu)) {args:LV} {v:Value} (hm:m28 pu n args = some v) (_:∀ x ∈ args,closed2 x = true):args.length≤20∧Run tt call 0 c28_37 (Fr.made 20 args) (pureHeap tabs) (Fin tt 0 [.tmp 4] v):=by
 subst hcall
 unfold m28 at hm
 replace hm:=ll_uncons hm;obtain ⟨a0,args_0,rfl,hm⟩:=hm
 replace hm:=ll_uncons hm;obtain ⟨a1,args_1,rfl,hm⟩:=hm
 replace hm:=ll_end hm;obtain ⟨rfl,hm⟩:=hm
 replace hm:=inv_toI hm;obtain ⟨x0,rfl,hm⟩:=hm
 replace hm:=inv_toI hm;obtain ⟨x1,rfl,hm⟩:=hm
 unfold m28_ at hm
 refine ⟨by simp,?_⟩
 refine .same (F':=(fr 20 [(0,zI x0),(1,zI x1)])) (H':=(hp 0 [])) (by kernel_rfl) (by kernel_rfl) ?_
 refine .then (.rK ?_)
 refine .ghs (fr 20 [(0,zI x0),(1,zI x1)]) (hp 0 []) (.k0 [] [] [0,1]) ?_
 refine .then ?_
 replace hm:=oo_inv hm;obtain ⟨v0,h0,hm⟩:=hm
 replace hm:=inv_vBool hm;obtain ⟨b0,rfl,hm⟩:=hm
 refine .reg (eC 1 ((oo (pu 43 [zI x0]) none fun v=>some (v,(hp 0 [])))) (call_eq h0) (eE)) ?_
 refine .ghs (fr 20 [(0,zI x0),(1,zI x1),(5,zB b0)]) (hp 0 []) (.k0 [] [] [0,1,5]) ?_
 refine .then ?_
 replace hm:=oo_inv hm;obtain ⟨v1,h1,hm⟩:=hm
 replace hm:=inv_vBool hm;obtain ⟨b1,rfl,hm⟩:=hm
 refine .reg (eC 1 ((oo (pu 43 [zI x1]) none fun v=>some (v,(hp 0 [])))) (call_eq h1) (eE)) ?_
 refine .ghs (fr 20 [(0,zI x0),(1,zI x1),(5,zB b0),(6,zB b1)]) (hp 0 []) (.k0 [] [] [0,1,5,6]) ?_
 refine .then ?_
 refine .then (.rK ?_)
 refine .ghs (fr 20 [(0,zI x0),(1,zI x1),(6,zB b1),(11,zB b0)]) (hp 0 []) (.k0 [] [] [0,1,6,11]) ?_
 replace hm:=bb_cases hm;rcases hm with ⟨h2,hm⟩ | ⟨h2,hm⟩
 ·refine .ifT b0 (by kernel_rfl) h2 ?_
  refine .then ?_
  refine .then (.rK ?_)
  refine .ghs (fr 20 [(12,zB b1)]) (hp 0 []) (.k0 [] [] [12]) ?_
  replace hm:=bb_cases hm;rcases hm with ⟨h3,hm⟩ | ⟨h3,hm⟩
  ·refine .ifT b1 (by kernel_rfl) h3 ?_
   refine .then (.rK ?_)
   refine .ghs (fr 20 [(4,(zI (0:Int)))]) (hp 0 []) (.k0 [] [] [4]) ?_
   refine .ret ?_
   exact fin_ret (zI (0:Int)) (by kernel_rfl) (by kernel_rfl) hm
  ·refine .ifF b1 (by kernel_rfl) h3 ?_
   refine .skip ?_
   refine .ghs (fr 20 []) (hp 0 []) (.k0 [] [] []) ?_
   refine .then (.rK ?_)
   refine .ghs (fr 20 [(4,(zI (-1:Int)))]) (hp 0 []) (.k0 [] [] [4]) ?_
   refine .ret ?_
   exact fin_ret (zI (-1:Int)) (by kernel_rfl) (by kernel_rfl) hm
 ·refine .ifF b0 (by kernel_rfl) h2 ?_
  refine .skip ?_
  refine .ghs (fr 20 [(0,zI x0),(1,zI x1),(6,zB b1)]) (hp 0 []) (.k0 [] [] [0,1,6]) ?_
  refine .then ?_
  refine .then (.rK ?_)
  refine .ghs (fr 20 [(0,zI x0),(1,zI x1),(13,zB b1)]) (hp 0 []) (.k0 [] [] [0,1,13]) ?_
  replace hm:=bb_cases hm;rcases hm with ⟨h4,hm⟩ | ⟨h4,hm⟩
  ·refine .ifT b1 (by kernel_rfl) h4 ?_
   refine .then (.rK ?_)
   refine .ghs (fr 20 [(4,(zI (1:Int)))]) (hp 0 []) (.k0 [] [] [4]) ?_
   refine .ret ?_
   exact fin_ret (zI (1:Int)) (by kernel_rfl) (by kernel_rfl) hm
  ·refine .ifF b1 (by kernel_rfl) h4 ?_
   refine .skip ?_
   refine .ghs (fr 20 [(0,zI x0),(1,zI x1)]) (hp 0 []) (.k0 [] [] [0,1]) ?_
   refine .then ?_
   refine .then (.rK ?_)
   refine .ghs (fr 20 [(0,zI x0),(1,zI x1),(16,(zB (ilt x0 x1)))]) (hp 0 []) (.k0 [] [] [0,1,16]) ?_
   replace hm:=bb_cases hm;rcases hm with ⟨h5,hm⟩ | ⟨h5,hm⟩
   ·refine .ifT (ilt x0 x1) (by kernel_rfl) h5 ?_
    refine .then (.rK ?_)
    refine .ghs (fr 20 [(4,(zI (-1:Int)))]) (hp 0 []) (.k0 [] [] [4]) ?_
    refine .ret ?_
    exact fin_ret (zI (-1:Int)) (by kernel_rfl) (by kernel_rfl) hm
   ·refine .ifF (ilt x0 x1) (by kernel_rfl) h5 ?_
    refine .skip ?_
    refine .ghs (fr 20 [(0,zI x0),(1,zI x1)]) (hp 0 []) (.k0 [] [] [0,1]) ?_
    refine .then ?_
    refine .then (.rK ?_)
    refine .ghs (fr 20 [(19,(zB (ilt x1 x0)))]) (hp 0 []) (.k0 [] [] [19]) ?_
    replace hm:=bb_cases hm;rcases hm with ⟨h6,hm⟩ | ⟨h6,hm⟩
    ·refine .ifT (ilt x1 x0) (by kernel_rfl) h6 ?_
     refine .then (.rK ?_)
     refine .ghs (fr 20 [(4,(zI (1:Int)))]) (hp 0 []) (.k0 [] [] [4]) ?_
     refine .ret ?_
     exact fin_ret (zI (1:Int)) (by kernel_rfl) (by kernel_rfl) hm
    ·refine .ifF (ilt x1 x0) (by kernel_rfl) h6 ?_
     refine .skip ?_
     refine .ghs (fr 20 []) (hp 0 []) (.k0 [] [] []) ?_
     refine .then (.rK ?_)
     refine .ghs (fr 20 [(4,(zI (0:Int)))]) (hp 0 []) (.k0 [] [] [4]) ?_
     refine .ret ?_
     exact fin_ret (zI (0:Int)) (by kernel_rfl) (by kernel_rfl) hm
def m40_0 (pu:PureF) (n:Nat) (z0:Int):OV:=
 (some (.int .i64 z0))
def b40_1 (pu:PureF) (n:Nat) (ih0:Int→Nat→Nat→Int→Int→LV→OV) (z0:Int) (n0 c0:Nat) (z1 z2:Int) (q0:LV):OV:=
 (bb (allL closed1 q0) (bb (ilt z2 z1) (oo (toN z2) none fun k1=>(bb (an (Nat.blt k1 n0) true) (oo (nthL q0 (1 + k1 * 1)) none fun v0=>(oo (toI .i64 v0) none fun x0=>(ih0 (wrapF .i64 (Int.add z0 x0)) n0 c0 z1 (wrapF .i64 (Int.add (Int.ofNat k1) (1:Int))) q0))) none)) (m40_0 pu n z0)) none)
def l40_1 (pu:PureF) (n w:Nat):Int→Nat→Nat→Int→Int→LV→OV:=
 Nat.rec (motive:=fun _=>Int→Nat→Nat→Int→Int→LV→OV) (fun _ _ _ _ _ _=>none) (fun _ ih0=>b40_1 pu n ih0) w
def m40_ (pu:PureF) (n:Nat) (q0:LV):OV:=
 (bb (allL closed1 q0) (bb (Nat.ble (0 + 22 * 1) (len q0)) (l40_1 pu n n (0:Int) 21 43 (21:Int) (0:Int) q0) none) none)
def m40 (pu:PureF) (n:Nat) (args:LV):OV:=
 (ll args none fun a0 args=>(ll args (oo (vAgg a0) none fun q0=>(bb (an (Nat.beq (len q0) 22) (allL closed1 q0)) (m40_ pu n q0) none)) fun _ _=>none))
theorem w40_0 (pu:PureF) (n:Nat) (z0:Int) {v:Value} (hm:m40_0 pu n z0 = some v):Run tt (callP tabs isP pu (inl pu)) 0 c40_17 (fr 17 [(3,zI z0)]) (hp 0 []) (Fin tt 0 [.tmp 2] v):=by
 unfold m40_0 at hm
 refine .then (.rK ?_)
 refine .ghs (fr 17 [(2,zI z0)]) (hp 0 []) (.k0 [] [] [2]) ?_
 refine .ret ?_
 exact fin_ret (zI z0) (by kernel_rfl) (by kernel_rfl) hm
theorem r40 {call:CallF} (pu:PureF) (n:Nat) (hcall:call = callP tabs isP pu (inl pu)) {args:LV} {v:Value} (hm:m40 pu n args = some v) (_:∀ x ∈ args,closed2 x = true):args.length≤17∧Run tt call 0 c40_20 (Fr.made 17 args) (pureHeap tabs) (Fin tt 0 [.tmp 2] v):=by
 subst hcall
 unfold m40 at hm
 replace hm:=ll_uncons hm;obtain ⟨a0,args_0,rfl,hm⟩:=hm
 replace hm:=ll_end hm;obtain ⟨rfl,hm⟩:=hm
 replace hm:=inv_vAgg hm;obtain ⟨q0,rfl,hm⟩:=hm
 replace hm:=bb_inv hm;obtain ⟨h0,hm⟩:=hm
 unfold m40_ at hm
 refine ⟨by simp,?_⟩
 refine .same (F':=(fr 17 [(0,(.agg ⟨q0⟩))])) (H':=(hp 0 [])) (by kernel_rfl) (by kernel_rfl) ?_
 refine .then (.rK ?_)
 replace hm:=bb_inv hm;obtain ⟨h1,hm⟩:=hm
 refine .ghs (fr 17 [(1,(pt 0 0))]) (hp 1 [oC q0]) (.k [0] [] [.tmp 1 false] [1] ⟨trF h1,trivial⟩) ?_
 refine .then (.rK ?_)
 refine .ghs (fr 17 [(1,(pt 0 0)),(3,(zI (0:Int)))]) (hp 1 [oC q0]) (.k [0] [] [.tmp 1 false] [1,3] ⟨trF h1,trivial⟩) ?_
 refine .join (v:=v) (fun y:Int=>((fr 17 [(3,zI y)]),(hp 0 []))) (fun y=>m40_0 pu n y) ?_ ?_
 ·rintro z0 hm
  exact w40_0 pu n z0 hm
 ·refine .then ?_
  replace hm:=bb_inv hm;obtain ⟨h2,hm⟩:=hm
  refine .reg (eD (keep (hp 1 [oC q0]) (bb (Nat.ble (0 + 22 * 1) (len q0)) (some (sc 0 1 1 21 43)) none)) (keep_bb h2) (eE)) ?_
  refine .ghs (fr 17 [(3,(zI (0:Int))),(6,sc 0 1 1 21 43),(7,(zI (21:Int))),(8,(zI (0:Int)))]) (hp 1 [oC q0]) (.k [0] [] [.tmp 6 false] [3,6,7,8] ⟨trF h1,trivial⟩) ?_
  refine .block ?_
  refine .loopM (v:=v) (fun y:Int×Nat×Nat×Int×Int×LV=>((fr 17 [(3,(zI y.1)),(6,(sc 0 1 1 y.2.1 y.2.2.1)),(7,(zI y.2.2.2.1)),(8,(zI y.2.2.2.2.1))]),(hp 1 [(oC y.2.2.2.2.2)]))) (fun w y=>l40_1 pu n w y.1 y.2.1 y.2.2.1 y.2.2.2.1 y.2.2.2.2.1 y.2.2.2.2.2) n ⟨((0:Int),21,43,(21:Int),(0:Int),q0),hm,(.k [0] [] [.tmp 6 false] [3,6,7,8] ⟨trF h1,trivial⟩)⟩ (fun _=>rfl) ?_
  rintro w0 ⟨z1,n0,c0,z2,z3,q1⟩ hm
  replace hm:b40_1 pu n (l40_1 pu n w0) z1 n0 c0 z2 z3 q1 = some v:=hm
  unfold b40_1 at hm
  refine .then (.rK ?_)
  replace hm:=bb_inv hm;obtain ⟨h3,hm⟩:=hm
  refine .ghs (fr 17 [(3,zI z1),(6,sc 0 1 1 n0 c0),(7,zI z2),(8,zI z3),(9,(zB (ilt z3 z2)))]) (hp 1 [oC q1]) (.k [0] [] [.tmp 6 false] [3,6,7,8,9] ⟨trF h3,trivial⟩) ?_
  refine .then ?_
  replace hm:=bb_cases hm;rcases hm with ⟨h4,hm⟩ | ⟨h4,hm⟩
  ·refine .ifT (ilt z3 z2) (by kernel_rfl) h4 ?_
   refine .skip ?_
   refine .ghs (fr 17 [(3,zI z1),(6,sc 0 1 1 n0 c0),(7,zI z2),(8,zI z3)]) (hp 1 [oC q1]) (.k [0] [] [.tmp 6 false] [3,6,7,8] ⟨trF h3,trivial⟩) ?_
   refine .then ?_
   refine .block ?_
   refine .then ?_
   replace hm:=oo_inv hm;obtain ⟨k1,h5,hm⟩:=hm
   obtain rfl:=toN_some h5
   replace hm:=bb_inv hm;obtain ⟨h6,hm⟩:=hm
   replace hm:=oo_inv hm;obtain ⟨v0,h7,hm⟩:=hm
   replace hm:=inv_toI hm;obtain ⟨x0,rfl,hm⟩:=hm
   refine .reg (eD (keep (hp 1 [oC q1]) (bb (an (Nat.blt k1 n0) true) (some (.pointer (some ⟨0,(1 + k1 * 1),none⟩))) none)) (keep_bb h6) (eD (keep (hp 1 [oC q1]) (nthL q1 (1 + k1 * 1))) (keep_eq h7) (eE))) ?_
   refine .ghs (fr 17 [(3,zI z1),(5,zI x0),(6,sc 0 1 1 n0 c0),(7,zI z2),(8,(zI (Int.ofNat k1)))]) (hp 1 [oC q1]) (.k [0] [] [.tmp 6 false] [3,5,6,7,8] ⟨trF h3,trivial⟩) ?_
   refine .rK ?_
   refine .ghs (fr 17 [(3,(zI (wrapF .i64 (Int.add z1 x0)))),(6,sc 0 1 1 n0 c0),(7,zI z2),(8,(zI (Int.ofNat k1)))]) (hp 1 [oC q1]) (.k [0] [] [.tmp 6 false] [3,6,7,8] ⟨trF h3,trivial⟩) ?_
   refine .rK ?_
   exact ⟨((wrapF .i64 (Int.add z1 x0)),n0,c0,z2,(wrapF .i64 (Int.add (Int.ofNat k1) (1:Int))),q1),hm,(.k [0] [] [.tmp 6 false] [3,6,7,8] ⟨trF h3,trivial⟩)⟩
  ·refine .ifF (ilt z3 z2) (by kernel_rfl) h4 ?_
   refine .exit ?_
   exact ⟨z1,hm,(.k0 [] [] [3])⟩

def m43_ (pu:PureF) (n:Nat) (x0:Int):OV:=
 (some (.bool (nt (ieq x0 x0))))
def m43 (pu:PureF) (n:Nat) (args:LV):OV:=
 (ll args none fun a0 args=>(ll args (oo (toI .i64 a0) none fun x0=>(m43_ pu n x0)) fun _ _=>none))
theorem r43 {call:CallF} (pu:PureF) (n:Nat) (hcall:call = callP tabs isP pu (inl pu)) {args:LV} {v:Value} (hm:m43 pu n args = some v) (_:∀ x ∈ args,closed2 x = true):args.length≤6∧Run tt call 0 c43_3 (Fr.made 6 args) (pureHeap tabs) (Fin tt 0 [.tmp 2] v):=by
 subst hcall
 unfold m43 at hm
 replace hm:=ll_uncons hm;obtain ⟨a0,args_0,rfl,hm⟩:=hm
 replace hm:=ll_end hm;obtain ⟨rfl,hm⟩:=hm
 replace hm:=inv_toI hm;obtain ⟨x0,rfl,hm⟩:=hm
 unfold m43_ at hm
 refine ⟨by simp,?_⟩
 refine .same (F':=(fr 6 [(0,zI x0)])) (H':=(hp 0 [])) (by kernel_rfl) (by kernel_rfl) ?_
 refine .then (.rK ?_)
 refine .ghs (fr 6 [(0,zI x0)]) (hp 0 []) (.k0 [] [] [0]) ?_
 refine .then (.rK ?_)
 refine .ghs (fr 6 [(2,(zB (nt (ieq x0 x0))))]) (hp 0 []) (.k0 [] [] [2]) ?_
 refine .ret ?_
 exact fin_ret (zB (nt (ieq x0 x0))) (by kernel_rfl) (by kernel_rfl) hm
def b10170_0 (pu:PureF) (n:Nat) (ih0:Nat→Nat→Int→Int→LV→OV) (n0 c0:Nat) (z0 z1:Int) (q0:LV):OV:=
 (bb (allL closed1 q0) (bb (ilt z0 z1) (oo (toN z1) none fun k1=>(bb (an (Nat.blt k1 n0) true) (oo (nthL q0 (0 + k1 * 1)) none fun v0=>(oo (toI .i64 v0) none fun x0=>(oo (toN z0) none fun k2=>(bb (an (Nat.blt k2 n0) true) (oo (nthL q0 (0 + k2 * 1)) none fun v1=>(oo (toI .i64 v1) none fun x1=>(bb (an (Nat.blt k2 n0) true) (bb (an (Nat.ble ((0 + k2 * 1) + 1) (len q0)) true) (bb (an (Nat.blt k1 n0) true) (bb (an (Nat.ble ((0 + k1 * 1) + 1) (len (setL ([.int .i64 x0]:LV) (0 + k2 * 1) q0))) true) (bb (allL closed1 (setL ([.int .i64 x1]:LV) (0 + k1 * 1) (setL ([.int .i64 x0]:LV) (0 + k2 * 1) q0))) (ih0 n0 c0 (wrapF .i64 (Int.add (Int.ofNat k2) (1:Int))) (wrapF .i64 (Int.sub (Int.ofNat k1) (1:Int))) (setL ([.int .i64 x1]:LV) (0 + k1 * 1) (setL ([.int .i64 x0]:LV) (0 + k2 * 1) q0))) none) none) none) none) none))) none)))) none)) (some (.tuple ⟨[(.tuple ⟨[]⟩),(.agg ⟨q0⟩)]⟩))) none)
def l10170_0 (pu:PureF) (n w:Nat):Nat→Nat→Int→Int→LV→OV:=
 Nat.rec (motive:=fun _=>Nat→Nat→Int→Int→LV→OV) (fun _ _ _ _ _=>none) (fun _ ih0=>b10170_0 pu n ih0) w
def m10170_ (pu:PureF) (n n0 c0:Nat) (q0:LV):OV:=
 (bb (allL closed1 q0) (l10170_0 pu n n n0 c0 (0:Int) (wrapF .i64 (Int.sub (Int.ofNat n0) (1:Int))) q0) none)
def m10170 (pu:PureF) (n:Nat) (args:LV):OV:=
 (ll args none fun a0 args=>(ll args none fun o0 args=>(ll args (oo (toSc 0 0 1 a0) none fun y0=>(oo (vAgg o0) none fun q0=>(m10170_ pu n (NC.n y0) (NC.c y0) q0))) fun _ _=>none)))
theorem q10170 (pu:PureF) (n n0 c0:Nat) (q0:LV) {v:Value} (hm:m10170_ pu n n0 c0 q0 = some v):Run tt (callP tabs isP pu (inl pu)) 1 c17_11 (fr 28 [(0,sc 0 0 1 n0 c0)]) (hp 1 [oC q0]) (FinO tt 0 1 [] v):=by
 unfold m10170_ at hm
 refine .then (.rK ?_)
 replace hm:=bb_inv hm;obtain ⟨h0,hm⟩:=hm
 refine .ghs (fr 28 [(0,sc 0 0 1 n0 c0),(2,(zI (0:Int))),(3,(zI (wrapF .i64 (Int.sub (Int.ofNat n0) (1:Int)))))]) (hp 1 [oC q0]) (.k [0] [false] [] [0,2,3] ⟨trF h0,trivial⟩) ?_
 refine .block ?_
 refine .loopM (v:=v) (fun y:Nat×Nat×Int×Int×LV=>((fr 28 [(0,(sc 0 0 1 y.1 y.2.1)),(2,(zI y.2.2.1)),(3,(zI y.2.2.2.1))]),(hp 1 [(oC y.2.2.2.2)]))) (fun w y=>l10170_0 pu n w y.1 y.2.1 y.2.2.1 y.2.2.2.1 y.2.2.2.2) n ⟨(n0,c0,(0:Int),(wrapF .i64 (Int.sub (Int.ofNat n0) (1:Int))),q0),hm,(.k [0] [false] [] [0,2,3] ⟨trF h0,trivial⟩)⟩ (fun _=>rfl) ?_
 rintro w0 ⟨n1,c1,z0,z1,q1⟩ hm
 replace hm:b10170_0 pu n (l10170_0 pu n w0) n1 c1 z0 z1 q1 = some v:=hm
 unfold b10170_0 at hm
 refine .then ?_
 refine .then (.rK ?_)
 replace hm:=bb_inv hm;obtain ⟨h1,hm⟩:=hm
 refine .ghs (fr 28 [(0,sc 0 0 1 n1 c1),(2,zI z0),(3,zI z1),(9,(zB (ilt z0 z1)))]) (hp 1 [oC q1]) (.k [0] [false] [] [0,2,3,9] ⟨trF h1,trivial⟩) ?_
 replace hm:=bb_cases hm;rcases hm with ⟨h2,hm⟩ | ⟨h2,hm⟩
 ·refine .ifT (ilt z0 z1) (by kernel_rfl) h2 ?_
  refine .skip ?_
  refine .ghs (fr 28 [(0,sc 0 0 1 n1 c1),(2,zI z0),(3,zI z1)]) (hp 1 [oC q1]) (.k [0] [false] [] [0,2,3] ⟨trF h1,trivial⟩) ?_
  refine .then ?_
  refine .block ?_
  replace hm:=oo_inv hm;obtain ⟨k1,h3,hm⟩:=hm
  obtain rfl:=toN_some h3
  replace hm:=bb_inv hm;obtain ⟨h4,hm⟩:=hm
  replace hm:=oo_inv hm;obtain ⟨v0,h5,hm⟩:=hm
  replace hm:=inv_toI hm;obtain ⟨x0,rfl,hm⟩:=hm
  replace hm:=oo_inv hm;obtain ⟨k2,h6,hm⟩:=hm
  obtain rfl:=toN_some h6
  replace hm:=bb_inv hm;obtain ⟨h7,hm⟩:=hm
  replace hm:=oo_inv hm;obtain ⟨v1,h8,hm⟩:=hm
  replace hm:=inv_toI hm;obtain ⟨x1,rfl,hm⟩:=hm
  replace hm:=bb_inv hm;obtain ⟨h9,hm⟩:=hm
  replace hm:=bb_inv hm;obtain ⟨h10,hm⟩:=hm
  replace hm:=bb_inv hm;obtain ⟨h11,hm⟩:=hm
  replace hm:=bb_inv hm;obtain ⟨h12,hm⟩:=hm
  refine .reg (eN 11 (Fr.puts (fr 28 [(0,sc 0 0 1 n1 c1),(2,(zI (Int.ofNat k2))),(3,(zI (Int.ofNat k1)))]) [(14,sc 0 0 1 n1 c1),(15,(zI (Int.ofNat k2))),(16,sc 0 0 1 n1 c1),(17,(zI (Int.ofNat k1))),(18,sc 0 0 1 n1 c1),(19,(zI (Int.ofNat k1))),(20,(.pointer (some ⟨0,(0 + k1 * 1),none⟩))),(21,zI x0),(22,sc 0 0 1 n1 c1),(23,(zI (Int.ofNat k2))),(24,(.pointer (some ⟨0,(0 + k2 * 1),none⟩)))]) (hp 1 [oC q1]) (eC 6 (keep (hp 1 [oC q1]) (bb (an (Nat.blt k1 n1) true) (some (.pointer (some ⟨0,(0 + k1 * 1),none⟩))) none)) (keep_bb h4) (eD (keep (hp 1 [oC q1]) (nthL q1 (0 + k1 * 1))) (keep_eq h5) (eC 2 (keep (hp 1 [oC q1]) (bb (an (Nat.blt k2 n1) true) (some (.pointer (some ⟨0,(0 + k2 * 1),none⟩))) none)) (keep_bb h7) (by kernel_rfl)))) (eD (keep (hp 1 [oC q1]) (nthL q1 (0 + k2 * 1))) (keep_eq h8) (eD (keep (hp 1 [oC q1]) (bb (an (Nat.blt k2 n1) true) (some (.pointer (some ⟨0,(0 + k2 * 1),none⟩))) none)) (keep_bb h9) (eD (done (bb (an (Nat.ble ((0 + k2 * 1) + 1) (len q1)) true) (some (hp 1 [(oC (setL ([zI x0]:LV) (0 + k2 * 1) q1))])) none) undef) (done_bb h10) (eD (keep (hp 1 [(oC (setL ([zI x0]:LV) (0 + k2 * 1) q1))]) (bb (an (Nat.blt k1 n1) true) (some (.pointer (some ⟨0,(0 + k1 * 1),none⟩))) none)) (keep_bb h11) (eD (done (bb (an (Nat.ble ((0 + k1 * 1) + 1) (len (setL ([zI x0]:LV) (0 + k2 * 1) q1))) true) (some (hp 1 [(oC (setL ([zI x1]:LV) (0 + k1 * 1) (setL ([zI x0]:LV) (0 + k2 * 1) q1)))])) none) undef) (done_bb h12) (eE))))))) ?_
  replace hm:=bb_inv hm;obtain ⟨h13,hm⟩:=hm
  refine .ghs (fr 28 [(0,sc 0 0 1 n1 c1),(2,(zI (Int.ofNat k2))),(3,(zI (Int.ofNat k1)))]) (hp 1 [(oC (setL ([zI x1]:LV) (0 + k1 * 1) (setL ([zI x0]:LV) (0 + k2 * 1) q1)))]) (.k [0] [false] [] [0,2,3] ⟨trF h13,trivial⟩) ?_
  refine .rK ?_
  exact ⟨(n1,c1,(wrapF .i64 (Int.add (Int.ofNat k2) (1:Int))),(wrapF .i64 (Int.sub (Int.ofNat k1) (1:Int))),(setL ([zI x1]:LV) (0 + k1 * 1) (setL ([zI x0]:LV) (0 + k2 * 1) q1))),hm,(.k [0] [false] [] [0,2,3] ⟨trF h13,trivial⟩)⟩
 ·refine .ifF (ilt z0 z1) (by kernel_rfl) h2 ?_
  refine .exit ?_
  refine .ghs (fr 28 []) (hp 1 [oC q1]) (.k [0] [false] [] [] ⟨trF h1,trivial⟩) ?_
  exact finO_end (.tuple ⟨[]⟩) [oC q1] (by kernel_rfl) hm (Nat.le_of_ble_eq_true rfl) (ooAt_cons (pO_c _) ooAt_nil)
theorem r10170 {call:CallF} (pu:PureF) (n:Nat) (hcall:call = callP tabs isP pu (inl pu)) {args:LV} {os:List AObj} {z:Value} (ha:args.length = 1) (hk:os.length = 1) (hpl:∀ o ∈ os,plainO o) (hm:m10170 pu n (args ++ os.map encO) = some z):args.length≤28∧Run tt call (tabs.length + 1) c17_11 (Fr.made 28 args) (subHeap tabs os) (FinO tt tabs.length 1 [] z):=by
 subst hcall
 have hq:=len_cons ha;clear ha;obtain ⟨a0,args,rfl,ha⟩:=hq
 obtain rfl:=len_nil ha
 have hq:=len_cons hk;clear hk;obtain ⟨b0,os,rfl,hk⟩:=hq
 have hp0:plainO b0:=hpl b0 (by simp)
 obtain rfl:=len_nil hk
 replace hm:m10170 pu n [a0,encO b0] = some z:=hm
 unfold m10170 at hm
 replace hm:(oo (toSc 0 0 1 a0) none fun y0=>(oo (vAgg (encO b0)) none fun q0=>(m10170_ pu n (NC.n y0) (NC.c y0) q0))) = some z:=hm
 replace hm:=oo_inv hm;obtain ⟨y0,h0,hm⟩:=hm
 obtain rfl:=toSc_some h0
 replace hm:=oo_inv hm;obtain ⟨q0,h1,hm⟩:=hm
 obtain rfl:=vAgg_enc hp0 h1
 refine ⟨by simp,?_⟩
 exact .same (F':=(fr 28 [(0,(sc 0 0 1 (NC.n y0) (NC.c y0)))])) (H':=(hp 1 [oC q0])) (by kernel_rfl) (by kernel_rfl) (q10170 pu n (NC.n y0) (NC.c y0) q0 hm)
end
end Go.HpYM
set_option maxRecDepth 100000
namespace Go.HpYM
open Go.Sp Go.HpY
noncomputable section
def L:Nat:=1000000
def disp (pu:PureF):PureF:=fun g args=>
 bb (Nat.beq g 3) (m3 pu L args) (bb (Nat.beq g 4) (m4 pu L args) (bb (Nat.beq g 5) (m5 pu L args) (bb (Nat.beq g 6) (m6 pu L args) (bb (Nat.beq g 7) (m7 pu L args) (bb (Nat.beq g 8) (m8 pu L args) (bb (Nat.beq g 9) (m9 pu L args) (bb (Nat.beq g 10) (m10 pu L args) (bb (Nat.beq g 11) (m11 pu L args) (bb (Nat.beq g 12) (m12 pu L args) (bb (Nat.beq g 13) (m13 pu L args) (bb (Nat.beq g 18) (m18 pu L args) (bb (Nat.beq g 19) (m19 pu L args) (bb (Nat.beq g 20) (m20 pu L args) (bb (Nat.beq g 21) (m21 pu L args) (bb (Nat.beq g 22) (m22 pu L args) (bb (Nat.beq g 23) (m23 pu L args) (bb (Nat.beq g 24) (m24 pu L args) (bb (Nat.beq g 25) (m25 pu L args) (bb (Nat.beq g 26) (m26 pu L args) (bb (Nat.beq g 27) (m27 pu L args) (bb (Nat.beq g 28) (m28 pu L args) (bb (Nat.beq g 40) (m40 pu L args) (bb (Nat.beq g 43) (m43 pu L args) (bb (Nat.beq g 10170) (m10170 pu L args) (bb (Nat.beq g 14) (orc14 args) (bb (Nat.beq g 41) (orc41 args) (bb (Nat.beq g 42) (orc42 args) (none))))))))))))))))))))))))))))
def puN:Nat→PureF:=fun n=>Nat.rec (motive:=fun _=>PureF) (fun _ _=>none) (fun _ ih=>disp ih) n
end
end Go.HpYM
