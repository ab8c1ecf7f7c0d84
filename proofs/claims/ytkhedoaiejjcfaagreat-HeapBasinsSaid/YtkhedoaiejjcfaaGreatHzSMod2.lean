/- Made from wip. -/
import Derived.Test.YtkhedoaiejjcfaaGreatHzSMod1x

set_option maxRecDepth 100000
set_option maxHeartbeats 20000000
set_option linter.unusedVariables false
namespace Go.HzSM
open Go.Sp Go.HzS
noncomputable section
def m22_1 (pu:PureF) (n:Nat) (s0:Sl):OV:=
 (some (Sl.v 1 s0))
def m22_3 (pu:PureF) (n:Nat) (ih0:Sl→Sl→Int→OV) (s0 s1:Sl) (z0:Int):OV:=
 (ih0 s0 s1 (wrapF .i64 (Int.add z0 (1:Int))))
def b22_2 (pu:PureF) (n:Nat) (ih0:Sl→Sl→Int→OV) (s0 s1:Sl) (z0:Int):OV:=
 (bb (ilt z0 (8:Int)) (oo (pu 15 [Sl.v 1 s0]) none fun v0=>(oo (toSl 1 v0) none fun s2=>(oo (pu 12 [Sl.v 1 s2,Sl.v 1 s1]) none fun v1=>(oo (toI .i64 v1) none fun x0=>(bb (ilt x0 (0:Int)) (m22_3 pu n ih0 s2 s2 z0) (m22_3 pu n ih0 s2 s1 z0)))))) (m22_1 pu n s1))
def l22_2 (pu:PureF) (n w:Nat):Sl→Sl→Int→OV:=
 Nat.rec (motive:=fun _=>Sl→Sl→Int→OV) (fun _ _ _=>none) (fun _ ih0=>b22_2 pu n ih0) w
def m22_0 (pu:PureF) (n:Nat) (s0:Sl):OV:=
 (l22_2 pu n n s0 s0 (0:Int))
def b22_4 (pu:PureF) (n:Nat) (ih0:Sl→Int→OV) (s0:Sl) (z0:Int):OV:=
 (bb (ilt z0 (200:Int)) (oo (pu 15 [Sl.v 1 s0]) none fun v0=>(oo (toSl 1 v0) none fun s1=>(ih0 s1 (wrapF .i64 (Int.add z0 (1:Int)))))) (m22_0 pu n s0))
def l22_4 (pu:PureF) (n w:Nat):Sl→Int→OV:=
 Nat.rec (motive:=fun _=>Sl→Int→OV) (fun _ _=>none) (fun _ ih0=>b22_4 pu n ih0) w
def m22_ (pu:PureF) (n:Nat) (s0:Sl):OV:=
 (l22_4 pu n n s0 (0:Int))
def m22 (pu:PureF) (n:Nat) (args:LV):OV:=
 (ll args none fun a0 args=>(ll args (oo (toSl 1 a0) none fun s0=>(m22_ pu n s0)) fun _ _=>none))
theorem w22_1 (pu:PureF) (n:Nat) (s0:Sl) {v:Value} (hm:m22_1 pu n s0 = some v):Run tt (callP tabs isP pu (inl pu)) 0 c22_32 (fr 21 [(3,Sl.v 1 s0)]) (hp 0 []) (Fin tt 0 [.tmp 2] v):=by
 unfold m22_1 at hm
 refine .then (.rK ?_)
 refine .ghs (fr 21 [(2,Sl.v 1 s0)]) (hp 0 []) (.k0 [] [] [2]) ?_
 refine .ret ?_
 exact fin_ret (Sl.v 1 s0) (by kernel_rfl) (by kernel_rfl) hm
theorem w22_0 (pu:PureF) (n:Nat) (s0:Sl) {v:Value} (hm:m22_0 pu n s0 = some v):Run tt (callP tabs isP pu (inl pu)) 0 c22_34 (fr 21 [(0,Sl.v 1 s0)]) (hp 0 []) (Fin tt 0 [.tmp 2] v):=by
 unfold m22_0 at hm
 refine .then (.rK ?_)
 refine .ghs (fr 21 [(0,Sl.v 1 s0),(3,Sl.v 1 s0)]) (hp 0 []) (.k0 [] [] [0,3]) ?_
 refine .join (v:=v) (fun y:Sl=>((fr 21 [(3,Sl.v 1 y)]),(hp 0 []))) (fun y=>m22_1 pu n y) ?_ ?_
 ·rintro s1 hm
  exact w22_1 pu n s1 hm
 ·refine .then (.rK ?_)
  refine .ghs (fr 21 [(0,Sl.v 1 s0),(3,Sl.v 1 s0),(10,(zI (0:Int)))]) (hp 0 []) (.k0 [] [] [0,3,10]) ?_
  refine .block ?_
  refine .loopM (v:=v) (fun y:Sl×Sl×Int=>((fr 21 [(0,(Sl.v 1 y.1)),(3,(Sl.v 1 y.2.1)),(10,(zI y.2.2))]),(hp 0 []))) (fun w y=>l22_2 pu n w y.1 y.2.1 y.2.2) n ⟨(s0,s0,(0:Int)),hm,(.k0 [] [] [0,3,10])⟩ (fun _=>rfl) ?_
  rintro w0 ⟨s2,s3,z0⟩ hm
  replace hm:b22_2 pu n (l22_2 pu n w0) s2 s3 z0 = some v:=hm
  unfold b22_2 at hm
  refine .then (.rK ?_)
  refine .ghs (fr 21 [(0,Sl.v 1 s2),(3,Sl.v 1 s3),(10,zI z0),(11,(zB (ilt z0 (8:Int))))]) (hp 0 []) (.k0 [] [] [0,3,10,11]) ?_
  refine .then ?_
  replace hm:=bb_cases hm;rcases hm with ⟨h0,hm⟩ | ⟨h0,hm⟩
  ·refine .ifT (ilt z0 (8 : Int)) (by kernel_rfl) h0 ?_
   refine .skip ?_
   refine .ghs (fr 21 [(0,Sl.v 1 s2),(3,Sl.v 1 s3),(10,zI z0)]) (hp 0 []) (.k0 [] [] [0,3,10]) ?_
   refine .join (v:=v) (fun y:Sl×Sl×Int=>((fr 21 [(0,(Sl.v 1 y.1)),(3,(Sl.v 1 y.2.1)),(10,(zI y.2.2))]),(hp 0 []))) (fun y=>m22_3 pu n (l22_2 pu n w0) y.1 y.2.1 y.2.2) ?_ ?_
   ·rintro ⟨s4, s5, z1⟩ hm
    unfold m22_3 at hm
    refine .rK ?_
    exact ⟨(s4,s5,(wrapF .i64 (Int.add z1 (1:Int)))),hm,(.k0 [] [] [0,3,10])⟩
   ·refine .block ?_
    refine .then ?_
    replace hm:=oo_inv hm;obtain ⟨v0,h1,hm⟩:=hm
    replace hm:=inv_toSl hm;obtain ⟨s6,rfl,hm⟩:=hm
    refine .reg (eC 1 ((oo (pu 15 [Sl.v 1 s2]) none fun v=>some (v,(hp 0 [])))) (call_eq h1) (eE)) ?_
    refine .ghs (fr 21 [(0,Sl.v 1 s6),(3,Sl.v 1 s3),(10,zI z0)]) (hp 0 []) (.k0 [] [] [0,3,10]) ?_
    refine .then ?_
    replace hm:=oo_inv hm;obtain ⟨v1,h2,hm⟩:=hm
    replace hm:=inv_toI hm;obtain ⟨x0,rfl,hm⟩:=hm
    refine .reg (eC 2 ((oo (pu 12 [Sl.v 1 s6,Sl.v 1 s3]) none fun v=>some (v,(hp 0 [])))) (call_eq h2) (eE)) ?_
    refine .ghs (fr 21 [(0,Sl.v 1 s6),(3,Sl.v 1 s3),(10,zI z0),(17,(zB (ilt x0 (0:Int))))]) (hp 0 []) (.k0 [] [] [0,3,10,17]) ?_
    replace hm:=bb_cases hm;rcases hm with ⟨h3,hm⟩ | ⟨h3,hm⟩
    ·refine .ifT (ilt x0 (0 : Int)) (by kernel_rfl) h3 ?_
     refine .rK ?_
     exact ⟨(s6,s6,z0),hm,(.k0 [] [] [0,3,10])⟩
    ·refine .ifF (ilt x0 (0 : Int)) (by kernel_rfl) h3 ?_
     refine .skip ?_
     exact ⟨(s6,s3,z0),hm,(.k0 [] [] [0,3,10])⟩
  ·refine .ifF (ilt z0 (8 : Int)) (by kernel_rfl) h0 ?_
   refine .exit ?_
   exact ⟨s3,hm,(.k0 [] [] [3])⟩
theorem r22 {call:CallF} (pu:PureF) (n:Nat) (hcall:call = callP tabs isP pu (inl pu)) {args:LV} {v:Value} (hm:m22 pu n args = some v) (_:∀ x ∈ args,closed2 x = true):args.length≤21∧Run tt call 0 c22_36 (Fr.made 21 args) (pureHeap tabs) (Fin tt 0 [.tmp 2] v):=by
 subst hcall
 unfold m22 at hm
 replace hm:=ll_uncons hm;obtain ⟨a0,args_0,rfl,hm⟩:=hm
 replace hm:=ll_end hm;obtain ⟨rfl,hm⟩:=hm
 replace hm:=inv_toSl hm;obtain ⟨s0,rfl,hm⟩:=hm
 unfold m22_ at hm
 refine ⟨by simp,?_⟩
 refine .same (F':=(fr 21 [(0,Sl.v 1 s0)])) (H':=(hp 0 [])) (by kernel_rfl) (by kernel_rfl) ?_
 refine .then (.rK ?_)
 refine .ghs (fr 21 [(0,Sl.v 1 s0)]) (hp 0 []) (.k0 [] [] [0]) ?_
 refine .join (v:=v) (fun y:Sl=>((fr 21 [(0,Sl.v 1 y)]),(hp 0 []))) (fun y=>m22_0 pu n y) ?_ ?_
 ·rintro s1 hm
  exact w22_0 pu n s1 hm
 ·refine .then (.rK ?_)
  refine .ghs (fr 21 [(0,Sl.v 1 s0),(4,(zI (0:Int)))]) (hp 0 []) (.k0 [] [] [0,4]) ?_
  refine .block ?_
  refine .loopM (v:=v) (fun y:Sl×Int=>((fr 21 [(0,(Sl.v 1 y.1)),(4,(zI y.2))]),(hp 0 []))) (fun w y=>l22_4 pu n w y.1 y.2) n ⟨(s0,(0:Int)),hm,(.k0 [] [] [0,4])⟩ (fun _=>rfl) ?_
  rintro w0 ⟨s2,z0⟩ hm
  replace hm:b22_4 pu n (l22_4 pu n w0) s2 z0 = some v:=hm
  unfold b22_4 at hm
  refine .then (.rK ?_)
  refine .ghs (fr 21 [(0,Sl.v 1 s2),(4,zI z0),(5,(zB (ilt z0 (200:Int))))]) (hp 0 []) (.k0 [] [] [0,4,5]) ?_
  refine .then ?_
  replace hm:=bb_cases hm;rcases hm with ⟨h0,hm⟩ | ⟨h0,hm⟩
  ·refine .ifT (ilt z0 (200 : Int)) (by kernel_rfl) h0 ?_
   refine .skip ?_
   refine .ghs (fr 21 [(0,Sl.v 1 s2),(4,zI z0)]) (hp 0 []) (.k0 [] [] [0,4]) ?_
   refine .then ?_
   refine .block ?_
   replace hm:=oo_inv hm;obtain ⟨v0,h1,hm⟩:=hm
   replace hm:=inv_toSl hm;obtain ⟨s3,rfl,hm⟩:=hm
   refine .reg (eC 1 ((oo (pu 15 [Sl.v 1 s2]) none fun v=>some (v,(hp 0 [])))) (call_eq h1) (eE)) ?_
   refine .ghs (fr 21 [(0,Sl.v 1 s3),(4,zI z0)]) (hp 0 []) (.k0 [] [] [0,4]) ?_
   refine .rK ?_
   exact ⟨(s3,(wrapF .i64 (Int.add z0 (1:Int)))),hm,(.k0 [] [] [0,4])⟩
  ·refine .ifF (ilt z0 (200 : Int)) (by kernel_rfl) h0 ?_
   refine .exit ?_
   exact ⟨s2,hm,(.k0 [] [] [0])⟩
def m23_1 (pu:PureF) (n:Nat) (e0:List Ent) (k1:Nat):OV:=
 (some (.tuple ⟨[(.int .i64 (Int.ofNat (len e0))),(.int .i64 (0:Int))]⟩))
def m23_3 (pu:PureF) (n:Nat) (ih0:Nat→Nat→Nat→List Ent→Nat→LV→OV) (n0 n1 c0:Nat) (e0:List Ent) (k1:Nat) (q1:LV):OV:=
 (bb (Nat.ble 1 n1) (bb (allL entClosed e0) (bb (allL closed1 q1) (ih0 (n0 + 1 * 22) (n1 - 1) (2 * (c0 / 2 - 1) + bb (orr false (Nat.beq (c0 % 2) 1)) 1 0) e0 k1 q1) none) none) none)
def m23_5 (pu:PureF) (n:Nat) (ih0:Nat→Nat→Nat→List Ent→Nat→LV→OV) (ih1:Nat→Nat→Nat→Sl→Int→Int→List Ent→Nat→LV→OV) (n0 n1 c0:Nat) (s0:Sl) (z0 z1:Int) (e0:List Ent) (k1:Nat) (q1:LV):OV:=
 (bb (allL entClosed e0) (bb (allL closed1 q1) (ih1 n0 n1 c0 s0 z0 (wrapF .i64 (Int.add z1 (1:Int))) e0 k1 q1) none) none)
def b23_4 (pu:PureF) (n:Nat) (ih0:Nat→Nat→Nat→List Ent→Nat→LV→OV) (ih1:Nat→Nat→Nat→Sl→Int→Int→List Ent→Nat→LV→OV) (n0 n1 c0:Nat) (s0:Sl) (z0 z1:Int) (e0:List Ent) (k1:Nat) (q1:LV):OV:=
 (bb (allL entClosed e0) (bb (allL closed1 q1) (bb (ilt z1 z0) (oo (toN z1) none fun k2=>(bb (an (Nat.blt k2 (Sl.n s0)) true) (oo (nthL (Sl.cs s0) (k2 * 1)) none fun v0=>(oo (toSl 1 v0) none fun s1=>(oo (pu 28 [Sl.v 1 s1]) none fun v1=>(oo (vAgg v1) none fun l0=>(ll l0 none fun v2 l0=>(ll l0 none fun v3 l0=>(ll l0 none fun v4 l0=>(ll l0 none fun v5 l0=>(ll l0 none fun v6 l0=>(ll l0 none fun v7 l0=>(ll l0 none fun v8 l0=>(ll l0 none fun v9 l0=>(ll l0 none fun v10 l0=>(ll l0 none fun v11 l0=>(ll l0 none fun v12 l0=>(ll l0 none fun v13 l0=>(ll l0 none fun v14 l0=>(ll l0 none fun v15 l0=>(ll l0 none fun v16 l0=>(ll l0 none fun v17 l0=>(ll l0 none fun v18 l0=>(ll l0 none fun v19 l0=>(ll l0 none fun v20 l0=>(ll l0 none fun v21 l0=>(ll l0 none fun v22 l0=>(ll l0 none fun v23 l0=>(ll l0 (oo (toI .i64 v2) none fun x0=>(oo (toI .i64 v3) none fun x1=>(oo (toI .i64 v4) none fun x2=>(oo (toI .i64 v5) none fun x3=>(oo (toI .i64 v6) none fun x4=>(oo (toI .i64 v7) none fun x5=>(oo (toI .i64 v8) none fun x6=>(oo (toI .i64 v9) none fun x7=>(oo (toI .i64 v10) none fun x8=>(oo (toI .i64 v11) none fun x9=>(oo (toI .i64 v12) none fun x10=>(oo (toI .i64 v13) none fun x11=>(oo (toI .i64 v14) none fun x12=>(oo (toI .i64 v15) none fun x13=>(oo (toI .i64 v16) none fun x14=>(oo (toI .i64 v17) none fun x15=>(oo (toI .i64 v18) none fun x16=>(oo (toI .i64 v19) none fun x17=>(oo (toI .i64 v20) none fun x18=>(oo (toI .i64 v21) none fun x19=>(oo (toI .i64 v22) none fun x20=>(oo (toI .i64 v23) none fun x21=>(oo (findE (.agg ⟨[.int .i64 x0,.int .i64 x1,.int .i64 x2,.int .i64 x3,.int .i64 x4,.int .i64 x5,.int .i64 x6,.int .i64 x7,.int .i64 x8,.int .i64 x9,.int .i64 x10,.int .i64 x11,.int .i64 x12,.int .i64 x13,.int .i64 x14,.int .i64 x15,.int .i64 x16,.int .i64 x17,.int .i64 x18,.int .i64 x19,.int .i64 x20,.int .i64 x21]⟩) e0 0) none fun r0=>(oo (vBool (getE r0 (.bool false))) none fun b0=>(bb (nt b0) (oo (findE (.agg ⟨[.int .i64 x0,.int .i64 x1,.int .i64 x2,.int .i64 x3,.int .i64 x4,.int .i64 x5,.int .i64 x6,.int .i64 x7,.int .i64 x8,.int .i64 x9,.int .i64 x10,.int .i64 x11,.int .i64 x12,.int .i64 x13,.int .i64 x14,.int .i64 x15,.int .i64 x16,.int .i64 x17,.int .i64 x18,.int .i64 x19,.int .i64 x20,.int .i64 x21]⟩) e0 0) none fun r1=>(bb (allL entClosed (updE (.agg ⟨[.int .i64 x0,.int .i64 x1,.int .i64 x2,.int .i64 x3,.int .i64 x4,.int .i64 x5,.int .i64 x6,.int .i64 x7,.int .i64 x8,.int .i64 x9,.int .i64 x10,.int .i64 x11,.int .i64 x12,.int .i64 x13,.int .i64 x14,.int .i64 x15,.int .i64 x16,.int .i64 x17,.int .i64 x18,.int .i64 x19,.int .i64 x20,.int .i64 x21]⟩) (.bool true) k1 e0 r1)) (bb (growC2 22 176 n0 n1 c0 1 q1) (bb (allL closed1 (appL (dropL n0 q1) [.int .i64 x0,.int .i64 x1,.int .i64 x2,.int .i64 x3,.int .i64 x4,.int .i64 x5,.int .i64 x6,.int .i64 x7,.int .i64 x8,.int .i64 x9,.int .i64 x10,.int .i64 x11,.int .i64 x12,.int .i64 x13,.int .i64 x14,.int .i64 x15,.int .i64 x16,.int .i64 x17,.int .i64 x18,.int .i64 x19,.int .i64 x20,.int .i64 x21])) (m23_5 pu n ih0 ih1 0 (n1 + 1) (2 * (n1 + 1) + bb false 1 0) s0 z0 (Int.ofNat k2) (updE (.agg ⟨[.int .i64 x0,.int .i64 x1,.int .i64 x2,.int .i64 x3,.int .i64 x4,.int .i64 x5,.int .i64 x6,.int .i64 x7,.int .i64 x8,.int .i64 x9,.int .i64 x10,.int .i64 x11,.int .i64 x12,.int .i64 x13,.int .i64 x14,.int .i64 x15,.int .i64 x16,.int .i64 x17,.int .i64 x18,.int .i64 x19,.int .i64 x20,.int .i64 x21]⟩) (.bool true) k1 e0 r1) (updC k1 r1) (appL (dropL n0 q1) [.int .i64 x0,.int .i64 x1,.int .i64 x2,.int .i64 x3,.int .i64 x4,.int .i64 x5,.int .i64 x6,.int .i64 x7,.int .i64 x8,.int .i64 x9,.int .i64 x10,.int .i64 x11,.int .i64 x12,.int .i64 x13,.int .i64 x14,.int .i64 x15,.int .i64 x16,.int .i64 x17,.int .i64 x18,.int .i64 x19,.int .i64 x20,.int .i64 x21])) none) none) none)) (m23_5 pu n ih0 ih1 n0 n1 c0 s0 z0 (Int.ofNat k2) e0 k1 q1)))))))))))))))))))))))))) fun _ _=>none))))))))))))))))))))))))))) none)) (m23_3 pu n ih0 n0 n1 c0 e0 k1 q1)) none) none)
def l23_4 (pu:PureF) (n:Nat) (ih0:Nat→Nat→Nat→List Ent→Nat→LV→OV) (w:Nat):Nat→Nat→Nat→Sl→Int→Int→List Ent→Nat→LV→OV:=
 Nat.rec (motive:=fun _=>Nat→Nat→Nat→Sl→Int→Int→List Ent→Nat→LV→OV) (fun _ _ _ _ _ _ _ _ _=>none) (fun _ ih1=>b23_4 pu n ih0 ih1) w
def b23_2 (pu:PureF) (n:Nat) (ih0:Nat→Nat→Nat→List Ent→Nat→LV→OV) (n0 n1 c0:Nat) (e0:List Ent) (k1:Nat) (q1:LV):OV:=
 (bb (allL entClosed e0) (bb (allL closed1 q1) (bb (ilt (0:Int) (Int.ofNat n1)) (bb (an (Nat.blt 0 n1) true) (bb (Nat.ble ((n0 + 0 * 22) + 22) (len q1)) (oo (nthL q1 (n0 + 0 * 22)) none fun v0=>(oo (toI .i64 v0) none fun x0=>(oo (nthL q1 ((n0 + 0 * 22) + 1)) none fun v1=>(oo (toI .i64 v1) none fun x1=>(oo (nthL q1 (((n0 + 0 * 22) + 1) + 1)) none fun v2=>(oo (toI .i64 v2) none fun x2=>(oo (nthL q1 ((((n0 + 0 * 22) + 1) + 1) + 1)) none fun v3=>(oo (toI .i64 v3) none fun x3=>(oo (nthL q1 (((((n0 + 0 * 22) + 1) + 1) + 1) + 1)) none fun v4=>(oo (toI .i64 v4) none fun x4=>(oo (nthL q1 ((((((n0 + 0 * 22) + 1) + 1) + 1) + 1) + 1)) none fun v5=>(oo (toI .i64 v5) none fun x5=>(oo (nthL q1 (((((((n0 + 0 * 22) + 1) + 1) + 1) + 1) + 1) + 1)) none fun v6=>(oo (toI .i64 v6) none fun x6=>(oo (nthL q1 ((((((((n0 + 0 * 22) + 1) + 1) + 1) + 1) + 1) + 1) + 1)) none fun v7=>(oo (toI .i64 v7) none fun x7=>(oo (nthL q1 (((((((((n0 + 0 * 22) + 1) + 1) + 1) + 1) + 1) + 1) + 1) + 1)) none fun v8=>(oo (toI .i64 v8) none fun x8=>(oo (nthL q1 ((((((((((n0 + 0 * 22) + 1) + 1) + 1) + 1) + 1) + 1) + 1) + 1) + 1)) none fun v9=>(oo (toI .i64 v9) none fun x9=>(oo (nthL q1 (((((((((((n0 + 0 * 22) + 1) + 1) + 1) + 1) + 1) + 1) + 1) + 1) + 1) + 1)) none fun v10=>(oo (toI .i64 v10) none fun x10=>(oo (nthL q1 ((((((((((((n0 + 0 * 22) + 1) + 1) + 1) + 1) + 1) + 1) + 1) + 1) + 1) + 1) + 1)) none fun v11=>(oo (toI .i64 v11) none fun x11=>(oo (nthL q1 (((((((((((((n0 + 0 * 22) + 1) + 1) + 1) + 1) + 1) + 1) + 1) + 1) + 1) + 1) + 1) + 1)) none fun v12=>(oo (toI .i64 v12) none fun x12=>(oo (nthL q1 ((((((((((((((n0 + 0 * 22) + 1) + 1) + 1) + 1) + 1) + 1) + 1) + 1) + 1) + 1) + 1) + 1) + 1)) none fun v13=>(oo (toI .i64 v13) none fun x13=>(oo (nthL q1 (((((((((((((((n0 + 0 * 22) + 1) + 1) + 1) + 1) + 1) + 1) + 1) + 1) + 1) + 1) + 1) + 1) + 1) + 1)) none fun v14=>(oo (toI .i64 v14) none fun x14=>(oo (nthL q1 ((((((((((((((((n0 + 0 * 22) + 1) + 1) + 1) + 1) + 1) + 1) + 1) + 1) + 1) + 1) + 1) + 1) + 1) + 1) + 1)) none fun v15=>(oo (toI .i64 v15) none fun x15=>(oo (nthL q1 (((((((((((((((((n0 + 0 * 22) + 1) + 1) + 1) + 1) + 1) + 1) + 1) + 1) + 1) + 1) + 1) + 1) + 1) + 1) + 1) + 1)) none fun v16=>(oo (toI .i64 v16) none fun x16=>(oo (nthL q1 ((((((((((((((((((n0 + 0 * 22) + 1) + 1) + 1) + 1) + 1) + 1) + 1) + 1) + 1) + 1) + 1) + 1) + 1) + 1) + 1) + 1) + 1)) none fun v17=>(oo (toI .i64 v17) none fun x17=>(oo (nthL q1 (((((((((((((((((((n0 + 0 * 22) + 1) + 1) + 1) + 1) + 1) + 1) + 1) + 1) + 1) + 1) + 1) + 1) + 1) + 1) + 1) + 1) + 1) + 1)) none fun v18=>(oo (toI .i64 v18) none fun x18=>(oo (nthL q1 ((((((((((((((((((((n0 + 0 * 22) + 1) + 1) + 1) + 1) + 1) + 1) + 1) + 1) + 1) + 1) + 1) + 1) + 1) + 1) + 1) + 1) + 1) + 1) + 1)) none fun v19=>(oo (toI .i64 v19) none fun x19=>(oo (nthL q1 (((((((((((((((((((((n0 + 0 * 22) + 1) + 1) + 1) + 1) + 1) + 1) + 1) + 1) + 1) + 1) + 1) + 1) + 1) + 1) + 1) + 1) + 1) + 1) + 1) + 1)) none fun v20=>(oo (toI .i64 v20) none fun x20=>(oo (nthL q1 ((((((((((((((((((((((n0 + 0 * 22) + 1) + 1) + 1) + 1) + 1) + 1) + 1) + 1) + 1) + 1) + 1) + 1) + 1) + 1) + 1) + 1) + 1) + 1) + 1) + 1) + 1)) none fun v21=>(oo (toI .i64 v21) none fun x21=>(oo (pu 51 [(.agg ⟨[.int .i64 x0,.int .i64 x1,.int .i64 x2,.int .i64 x3,.int .i64 x4,.int .i64 x5,.int .i64 x6,.int .i64 x7,.int .i64 x8,.int .i64 x9,.int .i64 x10,.int .i64 x11,.int .i64 x12,.int .i64 x13,.int .i64 x14,.int .i64 x15,.int .i64 x16,.int .i64 x17,.int .i64 x18,.int .i64 x19,.int .i64 x20,.int .i64 x21]⟩)]) none fun v22=>(oo (toSl 1 v22) none fun s0=>(l23_4 pu n ih0 n n0 n1 c0 s0 (Int.ofNat (Sl.n s0)) (0:Int) e0 k1 q1))))))))))))))))))))))))))))))))))))))))))))))) none) none) (m23_1 pu n e0 k1)) none) none)
def l23_2 (pu:PureF) (n w:Nat):Nat→Nat→Nat→List Ent→Nat→LV→OV:=
 Nat.rec (motive:=fun _=>Nat→Nat→Nat→List Ent→Nat→LV→OV) (fun _ _ _ _ _ _=>none) (fun _ ih0=>b23_2 pu n ih0) w
def m23_0 (pu:PureF) (n n0 c0:Nat) (e0:List Ent) (k1:Nat) (q1:LV):OV:=
 (bb (allL entClosed e0) (bb (allL closed1 q1) (l23_2 pu n n 0 n0 c0 e0 k1 q1) none) none)
def b23_6 (pu:PureF) (n:Nat) (ih0:Nat→Nat→Sl→Int→Int→List Ent→Nat→LV→OV) (n0 c0:Nat) (s0:Sl) (z0 z1:Int) (e0:List Ent) (k1:Nat) (q1:LV):OV:=
 (bb (allL entClosed e0) (bb (allL closed1 q1) (bb (ilt z1 z0) (oo (toN z1) none fun k2=>(bb (an (Nat.blt k2 (Sl.n s0)) true) (oo (nthL (Sl.cs s0) (k2 * 1)) none fun v0=>(oo (toSl 1 v0) none fun s1=>(oo (pu 28 [Sl.v 1 s1]) none fun v1=>(oo (vAgg v1) none fun l0=>(ll l0 none fun v2 l0=>(ll l0 none fun v3 l0=>(ll l0 none fun v4 l0=>(ll l0 none fun v5 l0=>(ll l0 none fun v6 l0=>(ll l0 none fun v7 l0=>(ll l0 none fun v8 l0=>(ll l0 none fun v9 l0=>(ll l0 none fun v10 l0=>(ll l0 none fun v11 l0=>(ll l0 none fun v12 l0=>(ll l0 none fun v13 l0=>(ll l0 none fun v14 l0=>(ll l0 none fun v15 l0=>(ll l0 none fun v16 l0=>(ll l0 none fun v17 l0=>(ll l0 none fun v18 l0=>(ll l0 none fun v19 l0=>(ll l0 none fun v20 l0=>(ll l0 none fun v21 l0=>(ll l0 none fun v22 l0=>(ll l0 none fun v23 l0=>(ll l0 (oo (toI .i64 v2) none fun x0=>(oo (toI .i64 v3) none fun x1=>(oo (toI .i64 v4) none fun x2=>(oo (toI .i64 v5) none fun x3=>(oo (toI .i64 v6) none fun x4=>(oo (toI .i64 v7) none fun x5=>(oo (toI .i64 v8) none fun x6=>(oo (toI .i64 v9) none fun x7=>(oo (toI .i64 v10) none fun x8=>(oo (toI .i64 v11) none fun x9=>(oo (toI .i64 v12) none fun x10=>(oo (toI .i64 v13) none fun x11=>(oo (toI .i64 v14) none fun x12=>(oo (toI .i64 v15) none fun x13=>(oo (toI .i64 v16) none fun x14=>(oo (toI .i64 v17) none fun x15=>(oo (toI .i64 v18) none fun x16=>(oo (toI .i64 v19) none fun x17=>(oo (toI .i64 v20) none fun x18=>(oo (toI .i64 v21) none fun x19=>(oo (toI .i64 v22) none fun x20=>(oo (toI .i64 v23) none fun x21=>(oo (findE (.agg ⟨[.int .i64 x0,.int .i64 x1,.int .i64 x2,.int .i64 x3,.int .i64 x4,.int .i64 x5,.int .i64 x6,.int .i64 x7,.int .i64 x8,.int .i64 x9,.int .i64 x10,.int .i64 x11,.int .i64 x12,.int .i64 x13,.int .i64 x14,.int .i64 x15,.int .i64 x16,.int .i64 x17,.int .i64 x18,.int .i64 x19,.int .i64 x20,.int .i64 x21]⟩) e0 0) none fun r0=>(bb (allL entClosed (updE (.agg ⟨[.int .i64 x0,.int .i64 x1,.int .i64 x2,.int .i64 x3,.int .i64 x4,.int .i64 x5,.int .i64 x6,.int .i64 x7,.int .i64 x8,.int .i64 x9,.int .i64 x10,.int .i64 x11,.int .i64 x12,.int .i64 x13,.int .i64 x14,.int .i64 x15,.int .i64 x16,.int .i64 x17,.int .i64 x18,.int .i64 x19,.int .i64 x20,.int .i64 x21]⟩) (.bool true) k1 e0 r0)) (bb (growC 22 176 n0 c0 1 q1) (bb (allL closed1 (appL (dropL 0 q1) [.int .i64 x0,.int .i64 x1,.int .i64 x2,.int .i64 x3,.int .i64 x4,.int .i64 x5,.int .i64 x6,.int .i64 x7,.int .i64 x8,.int .i64 x9,.int .i64 x10,.int .i64 x11,.int .i64 x12,.int .i64 x13,.int .i64 x14,.int .i64 x15,.int .i64 x16,.int .i64 x17,.int .i64 x18,.int .i64 x19,.int .i64 x20,.int .i64 x21])) (ih0 (n0 + 1) (2 * (n0 + 1) + bb false 1 0) s0 z0 (wrapF .i64 (Int.add (Int.ofNat k2) (1:Int))) (updE (.agg ⟨[.int .i64 x0,.int .i64 x1,.int .i64 x2,.int .i64 x3,.int .i64 x4,.int .i64 x5,.int .i64 x6,.int .i64 x7,.int .i64 x8,.int .i64 x9,.int .i64 x10,.int .i64 x11,.int .i64 x12,.int .i64 x13,.int .i64 x14,.int .i64 x15,.int .i64 x16,.int .i64 x17,.int .i64 x18,.int .i64 x19,.int .i64 x20,.int .i64 x21]⟩) (.bool true) k1 e0 r0) (updC k1 r0) (appL (dropL 0 q1) [.int .i64 x0,.int .i64 x1,.int .i64 x2,.int .i64 x3,.int .i64 x4,.int .i64 x5,.int .i64 x6,.int .i64 x7,.int .i64 x8,.int .i64 x9,.int .i64 x10,.int .i64 x11,.int .i64 x12,.int .i64 x13,.int .i64 x14,.int .i64 x15,.int .i64 x16,.int .i64 x17,.int .i64 x18,.int .i64 x19,.int .i64 x20,.int .i64 x21])) none) none) none)))))))))))))))))))))))) fun _ _=>none))))))))))))))))))))))))))) none)) (m23_0 pu n n0 c0 e0 k1 q1)) none) none)
def l23_6 (pu:PureF) (n w:Nat):Nat→Nat→Sl→Int→Int→List Ent→Nat→LV→OV:=
 Nat.rec (motive:=fun _=>Nat→Nat→Sl→Int→Int→List Ent→Nat→LV→OV) (fun _ _ _ _ _ _ _ _=>none) (fun _ ih0=>b23_6 pu n ih0) w
def m23_ (pu:PureF) (n:Nat) (s0:Sl):OV:=
 (oo (pu 27 [Sl.v 1 s0]) none fun v0=>(oo (toI .i64 v0) none fun x0=>(bb (nt (ieq x0 (0:Int))) (some (.tuple ⟨[(.int .i64 (0:Int)),.int .i64 x0]⟩)) (bb (allL entClosed ([]:List Ent)) (oo (pu 28 [Sl.v 1 s0]) none fun v1=>(oo (vAgg v1) none fun l0=>(ll l0 none fun v2 l0=>(ll l0 none fun v3 l0=>(ll l0 none fun v4 l0=>(ll l0 none fun v5 l0=>(ll l0 none fun v6 l0=>(ll l0 none fun v7 l0=>(ll l0 none fun v8 l0=>(ll l0 none fun v9 l0=>(ll l0 none fun v10 l0=>(ll l0 none fun v11 l0=>(ll l0 none fun v12 l0=>(ll l0 none fun v13 l0=>(ll l0 none fun v14 l0=>(ll l0 none fun v15 l0=>(ll l0 none fun v16 l0=>(ll l0 none fun v17 l0=>(ll l0 none fun v18 l0=>(ll l0 none fun v19 l0=>(ll l0 none fun v20 l0=>(ll l0 none fun v21 l0=>(ll l0 none fun v22 l0=>(ll l0 none fun v23 l0=>(ll l0 (oo (toI .i64 v2) none fun x1=>(oo (toI .i64 v3) none fun x2=>(oo (toI .i64 v4) none fun x3=>(oo (toI .i64 v5) none fun x4=>(oo (toI .i64 v6) none fun x5=>(oo (toI .i64 v7) none fun x6=>(oo (toI .i64 v8) none fun x7=>(oo (toI .i64 v9) none fun x8=>(oo (toI .i64 v10) none fun x9=>(oo (toI .i64 v11) none fun x10=>(oo (toI .i64 v12) none fun x11=>(oo (toI .i64 v13) none fun x12=>(oo (toI .i64 v14) none fun x13=>(oo (toI .i64 v15) none fun x14=>(oo (toI .i64 v16) none fun x15=>(oo (toI .i64 v17) none fun x16=>(oo (toI .i64 v18) none fun x17=>(oo (toI .i64 v19) none fun x18=>(oo (toI .i64 v20) none fun x19=>(oo (toI .i64 v21) none fun x20=>(oo (toI .i64 v22) none fun x21=>(oo (toI .i64 v23) none fun x22=>(oo (pu 36 [(.agg ⟨[.int .i64 x1,.int .i64 x2,.int .i64 x3,.int .i64 x4,.int .i64 x5,.int .i64 x6,.int .i64 x7,.int .i64 x8,.int .i64 x9,.int .i64 x10,.int .i64 x11,.int .i64 x12,.int .i64 x13,.int .i64 x14,.int .i64 x15,.int .i64 x16,.int .i64 x17,.int .i64 x18,.int .i64 x19,.int .i64 x20,.int .i64 x21,.int .i64 x22]⟩)]) none fun v24=>(oo (toSl 1 v24) none fun s1=>(l23_6 pu n n 0 0 s1 (Int.ofNat (Sl.n s1)) (0:Int) ([]:List Ent) 0 ([]:LV)))))))))))))))))))))))))) fun _ _=>none))))))))))))))))))))))))) none))))
def m23 (pu:PureF) (n:Nat) (args:LV):OV:=
 (ll args none fun a0 args=>(ll args (oo (toSl 1 a0) none fun s0=>(m23_ pu n s0)) fun _ _=>none))
theorem w23_1 (pu:PureF) (n:Nat) (e0:List Ent) (k1:Nat) {v:Value} (hm:m23_1 pu n e0 k1 = some v):Run tt (callP tabs isP pu (inl pu)) 0 c23_59 (fr 65 [(5,(.map (some 0)))]) (hp 1 [(.map e0 k1)]) (Fin tt 0 [.tmp 2,.tmp 3] v):=by
 unfold m23_1 at hm
 refine .then (.rK ?_)
 refine .ghs (fr 65 [(2,(zI (Int.ofNat (len e0)))),(3,(zI (0:Int)))]) (hp 0 []) (.k0 [] [] [2,3]) ?_
 refine .ret ?_
 exact fin_ret (.tuple ⟨[(zI (Int.ofNat (len e0))),(zI (0:Int))]⟩) (by kernel_rfl) (by kernel_rfl) hm
theorem w23_0 (pu:PureF) (n n0 c0:Nat) (e0:List Ent) (k1:Nat) (q1:LV) {v:Value} (hm:m23_0 pu n n0 c0 e0 k1 q1 = some v):Run tt (callP tabs isP pu (inl pu)) 0 c23_60 (fr 65 [(5,(.map (some 0))),(6,sc 1 0 22 n0 c0)]) (hp 2 [(.map e0 k1),oC q1]) (Fin tt 0 [.tmp 2,.tmp 3] v):=by
 unfold m23_0 at hm
 refine .join (v:=v) (fun y:List Ent×Nat=>((fr 65 [(5,(.map (some 0)))]),(hp 1 [(.map y.1 y.2)]))) (fun y=>m23_1 pu n y.1 y.2) ?_ ?_
 ·rintro ⟨e1, k2⟩ hm
  exact w23_1 pu n e1 k2 hm
 ·refine .block ?_
  replace hm:=bb_inv hm;obtain ⟨h0,hm⟩:=hm
  replace hm:=bb_inv hm;obtain ⟨h1,hm⟩:=hm
  refine .loopM (v:=v) (fun y:Nat×Nat×Nat×List Ent×Nat×LV=>((fr 65 [(5,(.map (some 0))),(6,(.slice (some ⟨1,y.1,some 22⟩) y.2.1 y.2.2.1))]),(hp 2 [(.map y.2.2.2.1 y.2.2.2.2.1),(oC y.2.2.2.2.2)]))) (fun w y=>l23_2 pu n w y.1 y.2.1 y.2.2.1 y.2.2.2.1 y.2.2.2.2.1 y.2.2.2.2.2) n ⟨(0,n0,c0,e0,k1,q1),hm,(.k [0,1] [] [.tmp 5 false,.tmp 6 false] [5,6] ⟨trF h0,trF h1,trivial⟩)⟩ (fun _=>rfl) ?_
  rintro w0 ⟨n1,n2,c1,e2,k3,q2⟩ hm
  replace hm:b23_2 pu n (l23_2 pu n w0) n1 n2 c1 e2 k3 q2 = some v:=hm
  unfold b23_2 at hm
  refine .then ?_
  refine .then (.rK ?_)
  replace hm:=bb_inv hm;obtain ⟨h2,hm⟩:=hm
  replace hm:=bb_inv hm;obtain ⟨h3,hm⟩:=hm
  refine .ghs (fr 65 [(5,(.map (some 0))),(6,(.slice (some ⟨1,n1,some 22⟩) n2 c1)),(38,(zB (ilt (0:Int) (Int.ofNat n2))))]) (hp 2 [(.map e2 k3),oC q2]) (.k [0,1] [] [.tmp 5 false,.tmp 6 false] [5,6,38] ⟨trF h2,trF h3,trivial⟩) ?_
  replace hm:=bb_cases hm;rcases hm with ⟨h4,hm⟩ | ⟨h4,hm⟩
  ·refine .ifT (ilt (0 : Int) (Int.ofNat n2)) (by kernel_rfl) h4 ?_
   refine .skip ?_
   refine .ghs (fr 65 [(5,(.map (some 0))),(6,(.slice (some ⟨1,n1,some 22⟩) n2 c1))]) (hp 2 [(.map e2 k3),oC q2]) (.k [0,1] [] [.tmp 5 false,.tmp 6 false] [5,6] ⟨trF h2,trF h3,trivial⟩) ?_
   refine .join (v:=v) (fun y:Nat×Nat×Nat×List Ent×Nat×LV=>((fr 65 [(5,(.map (some 0))),(6,(.slice (some ⟨1,y.1,some 22⟩) y.2.1 y.2.2.1))]),(hp 2 [(.map y.2.2.2.1 y.2.2.2.2.1),(oC y.2.2.2.2.2)]))) (fun y=>m23_3 pu n (l23_2 pu n w0) y.1 y.2.1 y.2.2.1 y.2.2.2.1 y.2.2.2.2.1 y.2.2.2.2.2) ?_ ?_
   ·rintro ⟨n3, n4, c2, e3, k4, q3⟩ hm
    unfold m23_3 at hm
    replace hm:=bb_inv hm;obtain ⟨h5,hm⟩:=hm
    refine .reg (eC 1 (keep (hp 2 [(.map e3 k4),oC q3]) (oo (bb (Nat.ble 1 n4) (some 1) none) none fun l=>some (sliceAt 1 (n3 + l * 22) 22 (n4 - l) (c2 / 2 - l) (orr false (Nat.beq (c2 % 2) 1))))) (show _ = some ((.slice (some ⟨1,(n3 + 1 * 22),some 22⟩) (n4 - 1) (2 * (c2 / 2 - 1) + bb (orr false (Nat.beq (c2 % 2) 1)) 1 0)),(hp 2 [(.map e3 k4),oC q3])) from (keep_sl h5).trans (by kernel_rfl)) (eE)) ?_
    replace hm:=bb_inv hm;obtain ⟨h6,hm⟩:=hm
    replace hm:=bb_inv hm;obtain ⟨h7,hm⟩:=hm
    exact ⟨((n3 + 1 * 22),(n4 - 1),(2 * (c2 / 2 - 1) + bb (orr false (Nat.beq (c2 % 2) 1)) 1 0),e3,k4,q3),hm,(.k [0,1] [] [.tmp 5 false,.tmp 6 false] [5,6] ⟨trF h6,trF h7,trivial⟩)⟩
   ·refine .block ?_
    refine .then ?_
    replace hm:=bb_inv hm;obtain ⟨h8,hm⟩:=hm
    replace hm:=bb_inv hm;obtain ⟨h9,hm⟩:=hm
    replace hm:=oo_inv hm;obtain ⟨v0,h10,hm⟩:=hm
    replace hm:=inv_toI hm;obtain ⟨x0,rfl,hm⟩:=hm
    replace hm:=oo_inv hm;obtain ⟨v1,h11,hm⟩:=hm
    replace hm:=inv_toI hm;obtain ⟨x1,rfl,hm⟩:=hm
    replace hm:=oo_inv hm;obtain ⟨v2,h12,hm⟩:=hm
    replace hm:=inv_toI hm;obtain ⟨x2,rfl,hm⟩:=hm
    replace hm:=oo_inv hm;obtain ⟨v3,h13,hm⟩:=hm
    replace hm:=inv_toI hm;obtain ⟨x3,rfl,hm⟩:=hm
    replace hm:=oo_inv hm;obtain ⟨v4,h14,hm⟩:=hm
    replace hm:=inv_toI hm;obtain ⟨x4,rfl,hm⟩:=hm
    replace hm:=oo_inv hm;obtain ⟨v5,h15,hm⟩:=hm
    replace hm:=inv_toI hm;obtain ⟨x5,rfl,hm⟩:=hm
    replace hm:=oo_inv hm;obtain ⟨v6,h16,hm⟩:=hm
    replace hm:=inv_toI hm;obtain ⟨x6,rfl,hm⟩:=hm
    replace hm:=oo_inv hm;obtain ⟨v7,h17,hm⟩:=hm
    replace hm:=inv_toI hm;obtain ⟨x7,rfl,hm⟩:=hm
    replace hm:=oo_inv hm;obtain ⟨v8,h18,hm⟩:=hm
    replace hm:=inv_toI hm;obtain ⟨x8,rfl,hm⟩:=hm
    replace hm:=oo_inv hm;obtain ⟨v9,h19,hm⟩:=hm
    replace hm:=inv_toI hm;obtain ⟨x9,rfl,hm⟩:=hm
    replace hm:=oo_inv hm;obtain ⟨v10,h20,hm⟩:=hm
    replace hm:=inv_toI hm;obtain ⟨x10,rfl,hm⟩:=hm
    replace hm:=oo_inv hm;obtain ⟨v11,h21,hm⟩:=hm
    replace hm:=inv_toI hm;obtain ⟨x11,rfl,hm⟩:=hm
    replace hm:=oo_inv hm;obtain ⟨v12,h22,hm⟩:=hm
    replace hm:=inv_toI hm;obtain ⟨x12,rfl,hm⟩:=hm
    replace hm:=oo_inv hm;obtain ⟨v13,h23,hm⟩:=hm
    replace hm:=inv_toI hm;obtain ⟨x13,rfl,hm⟩:=hm
    replace hm:=oo_inv hm;obtain ⟨v14,h24,hm⟩:=hm
    replace hm:=inv_toI hm;obtain ⟨x14,rfl,hm⟩:=hm
    replace hm:=oo_inv hm;obtain ⟨v15,h25,hm⟩:=hm
    replace hm:=inv_toI hm;obtain ⟨x15,rfl,hm⟩:=hm
    replace hm:=oo_inv hm;obtain ⟨v16,h26,hm⟩:=hm
    replace hm:=inv_toI hm;obtain ⟨x16,rfl,hm⟩:=hm
    replace hm:=oo_inv hm;obtain ⟨v17,h27,hm⟩:=hm
    replace hm:=inv_toI hm;obtain ⟨x17,rfl,hm⟩:=hm
    replace hm:=oo_inv hm;obtain ⟨v18,h28,hm⟩:=hm
    replace hm:=inv_toI hm;obtain ⟨x18,rfl,hm⟩:=hm
    replace hm:=oo_inv hm;obtain ⟨v19,h29,hm⟩:=hm
    replace hm:=inv_toI hm;obtain ⟨x19,rfl,hm⟩:=hm
    replace hm:=oo_inv hm;obtain ⟨v20,h30,hm⟩:=hm
    replace hm:=inv_toI hm;obtain ⟨x20,rfl,hm⟩:=hm
    replace hm:=oo_inv hm;obtain ⟨v21,h31,hm⟩:=hm
    replace hm:=inv_toI hm;obtain ⟨x21,rfl,hm⟩:=hm
    replace hm:=oo_inv hm;obtain ⟨v22,h32,hm⟩:=hm
    replace hm:=inv_toSl hm;obtain ⟨s0,rfl,hm⟩:=hm
    refine .reg (eC 1 (keep (hp 2 [(.map e2 k3),oC q2]) (bb (an (Nat.blt 0 n2) true) (some (.pointer (some ⟨1,(n1 + 0 * 22),none⟩))) none)) (keep_bb h8) (eD (keep (hp 2 [(.map e2 k3),oC q2]) (bb (Nat.ble ((n1 + 0 * 22) + 22) (len q2)) (some (.agg ⟨takeL 22 (dropL (n1 + 0 * 22) q2)⟩)) none)) (keep_agg h9 (takeL_cons h10 (takeL_cons h11 (takeL_cons h12 (takeL_cons h13 (takeL_cons h14 (takeL_cons h15 (takeL_cons h16 (takeL_cons h17 (takeL_cons h18 (takeL_cons h19 (takeL_cons h20 (takeL_cons h21 (takeL_cons h22 (takeL_cons h23 (takeL_cons h24 (takeL_cons h25 (takeL_cons h26 (takeL_cons h27 (takeL_cons h28 (takeL_cons h29 (takeL_cons h30 (takeL_cons h31 rfl))))))))))))))))))))))) (eD ((oo (pu 51 [(.agg ⟨[zI x0,zI x1,zI x2,zI x3,zI x4,zI x5,zI x6,zI x7,zI x8,zI x9,zI x10,zI x11,zI x12,zI x13,zI x14,zI x15,zI x16,zI x17,zI x18,zI x19,zI x20,zI x21]⟩)]) none fun v=>some (v,(hp 2 [(.map e2 k3),oC q2])))) (call_eq h32) (eE)))) ?_
    refine .ghs (fr 65 [(5,(.map (some 0))),(6,(.slice (some ⟨1,n1,some 22⟩) n2 c1)),(44,Sl.v 1 s0),(45,(zI (Int.ofNat (Sl.n s0)))),(46,(zI (0:Int)))]) (hp 2 [(.map e2 k3),oC q2]) (.k [0,1] [] [.tmp 5 false,.tmp 6 false] [5,6,44,45,46] ⟨trF h2,trF h3,trivial⟩) ?_
    refine .block ?_
    refine .loopM (v:=v) (fun y:Nat×Nat×Nat×Sl×Int×Int×List Ent×Nat×LV=>((fr 65 [(5,(.map (some 0))),(6,(.slice (some ⟨1,y.1,some 22⟩) y.2.1 y.2.2.1)),(44,(Sl.v 1 y.2.2.2.1)),(45,(zI y.2.2.2.2.1)),(46,(zI y.2.2.2.2.2.1))]),(hp 2 [(.map y.2.2.2.2.2.2.1 y.2.2.2.2.2.2.2.1),(oC y.2.2.2.2.2.2.2.2)]))) (fun w y=>l23_4 pu n (l23_2 pu n w0) w y.1 y.2.1 y.2.2.1 y.2.2.2.1 y.2.2.2.2.1 y.2.2.2.2.2.1 y.2.2.2.2.2.2.1 y.2.2.2.2.2.2.2.1 y.2.2.2.2.2.2.2.2) n ⟨(n1,n2,c1,s0,(Int.ofNat (Sl.n s0)),(0:Int),e2,k3,q2),hm,(.k [0,1] [] [.tmp 5 false,.tmp 6 false] [5,6,44,45,46] ⟨trF h2,trF h3,trivial⟩)⟩ (fun _=>rfl) ?_
    rintro w1 ⟨n5,n6,c3,s1,z0,z1,e4,k5,q4⟩ hm
    replace hm:b23_4 pu n (l23_2 pu n w0) (l23_4 pu n (l23_2 pu n w0) w1) n5 n6 c3 s1 z0 z1 e4 k5 q4 = some v:=hm
    unfold b23_4 at hm
    refine .then (.rK ?_)
    replace hm:=bb_inv hm;obtain ⟨h33,hm⟩:=hm
    replace hm:=bb_inv hm;obtain ⟨h34,hm⟩:=hm
    refine .ghs (fr 65 [(5,(.map (some 0))),(6,(.slice (some ⟨1,n5,some 22⟩) n6 c3)),(44,Sl.v 1 s1),(45,zI z0),(46,zI z1),(47,(zB (ilt z1 z0)))]) (hp 2 [(.map e4 k5),oC q4]) (.k [0,1] [] [.tmp 5 false,.tmp 6 false] [5,6,44,45,46,47] ⟨trF h33,trF h34,trivial⟩) ?_
    refine .then ?_
    replace hm:=bb_cases hm;rcases hm with ⟨h35,hm⟩ | ⟨h35,hm⟩
    ·refine .ifT (ilt z1 z0) (by kernel_rfl) h35 ?_
     refine .skip ?_
     refine .ghs (fr 65 [(5,(.map (some 0))),(6,(.slice (some ⟨1,n5,some 22⟩) n6 c3)),(44,Sl.v 1 s1),(45,zI z0),(46,zI z1)]) (hp 2 [(.map e4 k5),oC q4]) (.k [0,1] [] [.tmp 5 false,.tmp 6 false] [5,6,44,45,46] ⟨trF h33,trF h34,trivial⟩) ?_
     refine .join (v:=v) (fun y:Nat×Nat×Nat×Sl×Int×Int×List Ent×Nat×LV=>((fr 65 [(5,(.map (some 0))),(6,(.slice (some ⟨1,y.1,some 22⟩) y.2.1 y.2.2.1)),(44,(Sl.v 1 y.2.2.2.1)),(45,(zI y.2.2.2.2.1)),(46,(zI y.2.2.2.2.2.1))]),(hp 2 [(.map y.2.2.2.2.2.2.1 y.2.2.2.2.2.2.2.1),(oC y.2.2.2.2.2.2.2.2)]))) (fun y=>m23_5 pu n (l23_2 pu n w0) (l23_4 pu n (l23_2 pu n w0) w1) y.1 y.2.1 y.2.2.1 y.2.2.2.1 y.2.2.2.2.1 y.2.2.2.2.2.1 y.2.2.2.2.2.2.1 y.2.2.2.2.2.2.2.1 y.2.2.2.2.2.2.2.2) ?_ ?_
     ·rintro ⟨n7, n8, c4, s2, z2, z3, e5, k6, q5⟩ hm
      unfold m23_5 at hm
      refine .rK ?_
      replace hm:=bb_inv hm;obtain ⟨h36,hm⟩:=hm
      replace hm:=bb_inv hm;obtain ⟨h37,hm⟩:=hm
      exact ⟨(n7,n8,c4,s2,z2,(wrapF .i64 (Int.add z3 (1:Int))),e5,k6,q5),hm,(.k [0,1] [] [.tmp 5 false,.tmp 6 false] [5,6,44,45,46] ⟨trF h36,trF h37,trivial⟩)⟩
     ·refine .block ?_
      refine .then ?_
      replace hm:=oo_inv hm;obtain ⟨k7,h38,hm⟩:=hm
      obtain rfl:=toN_some h38
      replace hm:=bb_inv hm;obtain ⟨h39,hm⟩:=hm
      replace hm:=oo_inv hm;obtain ⟨v23,h40,hm⟩:=hm
      replace hm:=inv_toSl hm;obtain ⟨s3,rfl,hm⟩:=hm
      refine .reg (eD (keep (hp 2 [(.map e4 k5),oC q4]) (bb (an (Nat.blt k7 (Sl.n s1)) true) (some (fpV (k7 * 1) (Sl.cs s1))) none)) (keep_bb h39) (eD (keep (hp 2 [(.map e4 k5),oC q4]) (nthL (Sl.cs s1) (k7 * 1))) (keep_eq h40) (eE))) ?_
      refine .ghs (fr 65 [(5,(.map (some 0))),(6,(.slice (some ⟨1,n5,some 22⟩) n6 c3)),(11,Sl.v 1 s3),(44,Sl.v 1 s1),(45,zI z0),(46,(zI (Int.ofNat k7)))]) (hp 2 [(.map e4 k5),oC q4]) (.k [0,1] [] [.tmp 5 false,.tmp 6 false] [5,6,11,44,45,46] ⟨trF h33,trF h34,trivial⟩) ?_
      refine .then ?_
      replace hm:=oo_inv hm;obtain ⟨v24,h41,hm⟩:=hm
      replace hm:=inv_vAgg hm;obtain ⟨l0,rfl,hm⟩:=hm
      replace hm:=ll_uncons hm;obtain ⟨v25,l5972_0,rfl,hm⟩:=hm
      replace hm:=ll_uncons hm;obtain ⟨v26,l5972_1,rfl,hm⟩:=hm
      replace hm:=ll_uncons hm;obtain ⟨v27,l5972_2,rfl,hm⟩:=hm
      replace hm:=ll_uncons hm;obtain ⟨v28,l5972_3,rfl,hm⟩:=hm
      replace hm:=ll_uncons hm;obtain ⟨v29,l5972_4,rfl,hm⟩:=hm
      replace hm:=ll_uncons hm;obtain ⟨v30,l5972_5,rfl,hm⟩:=hm
      replace hm:=ll_uncons hm;obtain ⟨v31,l5972_6,rfl,hm⟩:=hm
      replace hm:=ll_uncons hm;obtain ⟨v32,l5972_7,rfl,hm⟩:=hm
      replace hm:=ll_uncons hm;obtain ⟨v33,l5972_8,rfl,hm⟩:=hm
      replace hm:=ll_uncons hm;obtain ⟨v34,l5972_9,rfl,hm⟩:=hm
      replace hm:=ll_uncons hm;obtain ⟨v35,l5972_10,rfl,hm⟩:=hm
      replace hm:=ll_uncons hm;obtain ⟨v36,l5972_11,rfl,hm⟩:=hm
      replace hm:=ll_uncons hm;obtain ⟨v37,l5972_12,rfl,hm⟩:=hm
      replace hm:=ll_uncons hm;obtain ⟨v38,l5972_13,rfl,hm⟩:=hm
      replace hm:=ll_uncons hm;obtain ⟨v39,l5972_14,rfl,hm⟩:=hm
      replace hm:=ll_uncons hm;obtain ⟨v40,l5972_15,rfl,hm⟩:=hm
      replace hm:=ll_uncons hm;obtain ⟨v41,l5972_16,rfl,hm⟩:=hm
      replace hm:=ll_uncons hm;obtain ⟨v42,l5972_17,rfl,hm⟩:=hm
      replace hm:=ll_uncons hm;obtain ⟨v43,l5972_18,rfl,hm⟩:=hm
      replace hm:=ll_uncons hm;obtain ⟨v44,l5972_19,rfl,hm⟩:=hm
      replace hm:=ll_uncons hm;obtain ⟨v45,l5972_20,rfl,hm⟩:=hm
      replace hm:=ll_uncons hm;obtain ⟨v46,l5972_21,rfl,hm⟩:=hm
      replace hm:=ll_end hm;obtain ⟨rfl,hm⟩:=hm
      replace hm:=inv_toI hm;obtain ⟨x22,rfl,hm⟩:=hm
      replace hm:=inv_toI hm;obtain ⟨x23,rfl,hm⟩:=hm
      replace hm:=inv_toI hm;obtain ⟨x24,rfl,hm⟩:=hm
      replace hm:=inv_toI hm;obtain ⟨x25,rfl,hm⟩:=hm
      replace hm:=inv_toI hm;obtain ⟨x26,rfl,hm⟩:=hm
      replace hm:=inv_toI hm;obtain ⟨x27,rfl,hm⟩:=hm
      replace hm:=inv_toI hm;obtain ⟨x28,rfl,hm⟩:=hm
      replace hm:=inv_toI hm;obtain ⟨x29,rfl,hm⟩:=hm
      replace hm:=inv_toI hm;obtain ⟨x30,rfl,hm⟩:=hm
      replace hm:=inv_toI hm;obtain ⟨x31,rfl,hm⟩:=hm
      replace hm:=inv_toI hm;obtain ⟨x32,rfl,hm⟩:=hm
      replace hm:=inv_toI hm;obtain ⟨x33,rfl,hm⟩:=hm
      replace hm:=inv_toI hm;obtain ⟨x34,rfl,hm⟩:=hm
      replace hm:=inv_toI hm;obtain ⟨x35,rfl,hm⟩:=hm
      replace hm:=inv_toI hm;obtain ⟨x36,rfl,hm⟩:=hm
      replace hm:=inv_toI hm;obtain ⟨x37,rfl,hm⟩:=hm
      replace hm:=inv_toI hm;obtain ⟨x38,rfl,hm⟩:=hm
      replace hm:=inv_toI hm;obtain ⟨x39,rfl,hm⟩:=hm
      replace hm:=inv_toI hm;obtain ⟨x40,rfl,hm⟩:=hm
      replace hm:=inv_toI hm;obtain ⟨x41,rfl,hm⟩:=hm
      replace hm:=inv_toI hm;obtain ⟨x42,rfl,hm⟩:=hm
      replace hm:=inv_toI hm;obtain ⟨x43,rfl,hm⟩:=hm
      refine .reg (eC 1 ((oo (pu 28 [Sl.v 1 s3]) none fun v=>some (v,(hp 2 [(.map e4 k5),oC q4])))) (call_eq h41) (eE)) ?_
      refine .ghs (fr 65 [(5,(.map (some 0))),(6,(.slice (some ⟨1,n5,some 22⟩) n6 c3)),(12,(pt 2 0)),(44,Sl.v 1 s1),(45,zI z0),(46,(zI (Int.ofNat k7)))]) (hp 3 [(.map e4 k5),oC q4,(oC [zI x22,zI x23,zI x24,zI x25,zI x26,zI x27,zI x28,zI x29,zI x30,zI x31,zI x32,zI x33,zI x34,zI x35,zI x36,zI x37,zI x38,zI x39,zI x40,zI x41,zI x42,zI x43])]) (.k [0,1] [] [.tmp 5 false,.tmp 6 false,.tmp 12 false] [5,6,12,44,45,46] ⟨trF h33,trF h34,trivial⟩) ?_
      refine .then ?_
      replace hm:=oo_inv hm;obtain ⟨r0,h42,hm⟩:=hm
      replace hm:=oo_inv hm;obtain ⟨b0,h43,hm⟩:=hm
      refine .reg (eC 2 (keep (hp 3 [(.map e4 k5),oC q4,(oC [zI x22,zI x23,zI x24,zI x25,zI x26,zI x27,zI x28,zI x29,zI x30,zI x31,zI x32,zI x33,zI x34,zI x35,zI x36,zI x37,zI x38,zI x39,zI x40,zI x41,zI x42,zI x43])]) (oo (findE (.agg ⟨[zI x22,zI x23,zI x24,zI x25,zI x26,zI x27,zI x28,zI x29,zI x30,zI x31,zI x32,zI x33,zI x34,zI x35,zI x36,zI x37,zI x38,zI x39,zI x40,zI x41,zI x42,zI x43]⟩) e4 0) none fun r=>oo r (okV false (zB false) false) fun p=>pp p fun _ v=>okV false v true)) (look_vv h42 (vBool_some h43)) (eE)) ?_
      refine .ghs (fr 65 [(5,(.map (some 0))),(6,(.slice (some ⟨1,n5,some 22⟩) n6 c3)),(12,(pt 2 0)),(44,Sl.v 1 s1),(45,zI z0),(46,(zI (Int.ofNat k7))),(55,(zB (nt b0)))]) (hp 3 [(.map e4 k5),oC q4,(oC [zI x22,zI x23,zI x24,zI x25,zI x26,zI x27,zI x28,zI x29,zI x30,zI x31,zI x32,zI x33,zI x34,zI x35,zI x36,zI x37,zI x38,zI x39,zI x40,zI x41,zI x42,zI x43])]) (.k [0,1] [] [.tmp 5 false,.tmp 6 false,.tmp 12 false] [5,6,12,44,45,46,55] ⟨trF h33,trF h34,trivial⟩) ?_
      replace hm:=bb_cases hm;rcases hm with ⟨h44,hm⟩ | ⟨h44,hm⟩
      ·refine .ifT (nt b0) (by kernel_rfl) h44 ?_
       refine .then ?_
       replace hm:=oo_inv hm;obtain ⟨r1,h45,hm⟩:=hm
       refine .reg (eC 2 (done (oo (findE (.agg ⟨[zI x22,zI x23,zI x24,zI x25,zI x26,zI x27,zI x28,zI x29,zI x30,zI x31,zI x32,zI x33,zI x34,zI x35,zI x36,zI x37,zI x38,zI x39,zI x40,zI x41,zI x42,zI x43]⟩) e4 0) none fun r=>oo r (some (AHeap.set (hp 3 [(.map e4 k5),oC q4,(oC [zI x22,zI x23,zI x24,zI x25,zI x26,zI x27,zI x28,zI x29,zI x30,zI x31,zI x32,zI x33,zI x34,zI x35,zI x36,zI x37,zI x38,zI x39,zI x40,zI x41,zI x42,zI x43])]) 0 (.map (appL e4 [⟨(.agg ⟨[zI x22,zI x23,zI x24,zI x25,zI x26,zI x27,zI x28,zI x29,zI x30,zI x31,zI x32,zI x33,zI x34,zI x35,zI x36,zI x37,zI x38,zI x39,zI x40,zI x41,zI x42,zI x43]⟩),zB true,k5⟩]) (k5 + 1)))) fun p=>pp p fun j _=>some (AHeap.set (hp 3 [(.map e4 k5),oC q4,(oC [zI x22,zI x23,zI x24,zI x25,zI x26,zI x27,zI x28,zI x29,zI x30,zI x31,zI x32,zI x33,zI x34,zI x35,zI x36,zI x37,zI x38,zI x39,zI x40,zI x41,zI x42,zI x43])]) 0 (.map (modL (fun e=>⟨(.agg ⟨[zI x22,zI x23,zI x24,zI x25,zI x26,zI x27,zI x28,zI x29,zI x30,zI x31,zI x32,zI x33,zI x34,zI x35,zI x36,zI x37,zI x38,zI x39,zI x40,zI x41,zI x42,zI x43]⟩),zB true,e.born⟩) j e4) k5))) undef) (upd_eq (H2:=(hp 3 [(.map (updE (.agg ⟨[zI x22,zI x23,zI x24,zI x25,zI x26,zI x27,zI x28,zI x29,zI x30,zI x31,zI x32,zI x33,zI x34,zI x35,zI x36,zI x37,zI x38,zI x39,zI x40,zI x41,zI x42,zI x43]⟩) (zB true) k5 e4 r1) (updC k5 r1)),oC q4,(oC [zI x22,zI x23,zI x24,zI x25,zI x26,zI x27,zI x28,zI x29,zI x30,zI x31,zI x32,zI x33,zI x34,zI x35,zI x36,zI x37,zI x38,zI x39,zI x40,zI x41,zI x42,zI x43])])) h45) (eE)) ?_
       replace hm:=bb_inv hm;obtain ⟨h46,hm⟩:=hm
       refine .ghs (fr 65 [(5,(.map (some 0))),(6,(.slice (some ⟨1,n5,some 22⟩) n6 c3)),(12,(pt 2 0)),(44,Sl.v 1 s1),(45,zI z0),(46,(zI (Int.ofNat k7)))]) (hp 3 [(.map (updE (.agg ⟨[zI x22,zI x23,zI x24,zI x25,zI x26,zI x27,zI x28,zI x29,zI x30,zI x31,zI x32,zI x33,zI x34,zI x35,zI x36,zI x37,zI x38,zI x39,zI x40,zI x41,zI x42,zI x43]⟩) (zB true) k5 e4 r1) (updC k5 r1)),oC q4,(oC [zI x22,zI x23,zI x24,zI x25,zI x26,zI x27,zI x28,zI x29,zI x30,zI x31,zI x32,zI x33,zI x34,zI x35,zI x36,zI x37,zI x38,zI x39,zI x40,zI x41,zI x42,zI x43])]) (.k [0,1] [] [.tmp 5 false,.tmp 6 false,.tmp 12 false] [5,6,12,44,45,46] ⟨trF h46,trF h34,trivial⟩) ?_
       replace hm:=bb_inv hm;obtain ⟨h47,hm⟩:=hm
       refine .reg (eC 3 (growD2 22 176 n5 n6 c3 1 1 q4 [zI x22,zI x23,zI x24,zI x25,zI x26,zI x27,zI x28,zI x29,zI x30,zI x31,zI x32,zI x33,zI x34,zI x35,zI x36,zI x37,zI x38,zI x39,zI x40,zI x41,zI x42,zI x43] [] (hp 4 [(.map (updE (.agg ⟨[zI x22,zI x23,zI x24,zI x25,zI x26,zI x27,zI x28,zI x29,zI x30,zI x31,zI x32,zI x33,zI x34,zI x35,zI x36,zI x37,zI x38,zI x39,zI x40,zI x41,zI x42,zI x43]⟩) (zB true) k5 e4 r1) (updC k5 r1)),oC q4,(oC [zI x22,zI x23,zI x24,zI x25,zI x26,zI x27,zI x28,zI x29,zI x30,zI x31,zI x32,zI x33,zI x34,zI x35,zI x36,zI x37,zI x38,zI x39,zI x40,zI x41,zI x42,zI x43]),(oC [zI x22,zI x23,zI x24,zI x25,zI x26,zI x27,zI x28,zI x29,zI x30,zI x31,zI x32,zI x33,zI x34,zI x35,zI x36,zI x37,zI x38,zI x39,zI x40,zI x41,zI x42,zI x43])])) (growD2_eq h47) (eE)) ?_
       replace hm:=bb_inv hm;obtain ⟨h48,hm⟩:=hm
       exact ⟨(0,(n6 + 1),(d2 (n6 + 1)),s1,z0,(Int.ofNat k7),(updE (.agg ⟨[zI x22,zI x23,zI x24,zI x25,zI x26,zI x27,zI x28,zI x29,zI x30,zI x31,zI x32,zI x33,zI x34,zI x35,zI x36,zI x37,zI x38,zI x39,zI x40,zI x41,zI x42,zI x43]⟩) (zB true) k5 e4 r1),(updC k5 r1),(appL (dropL n5 q4) [zI x22,zI x23,zI x24,zI x25,zI x26,zI x27,zI x28,zI x29,zI x30,zI x31,zI x32,zI x33,zI x34,zI x35,zI x36,zI x37,zI x38,zI x39,zI x40,zI x41,zI x42,zI x43])),hm,(.k [0,4] [] [.tmp 5 false,.tmp 6 false] [5,6,44,45,46] ⟨trF h46,trF h48,trivial⟩)⟩
      ·refine .ifF (nt b0) (by kernel_rfl) h44 ?_
       refine .skip ?_
       exact ⟨(n5,n6,c3,s1,z0,(Int.ofNat k7),e4,k5,q4),hm,(.k [0,1] [] [.tmp 5 false,.tmp 6 false] [5,6,44,45,46] ⟨trF h33,trF h34,trivial⟩)⟩
    ·refine .ifF (ilt z1 z0) (by kernel_rfl) h35 ?_
     refine .exit ?_
     exact ⟨(n5,n6,c3,e4,k5,q4),hm,(.k [0,1] [] [.tmp 5 false,.tmp 6 false] [5,6] ⟨trF h33,trF h34,trivial⟩)⟩
  ·refine .ifF (ilt (0 : Int) (Int.ofNat n2)) (by kernel_rfl) h4 ?_
   refine .exit ?_
   exact ⟨(e2,k3),hm,(.k [0] [] [.tmp 5 false] [5] ⟨trF h2,trivial⟩)⟩
theorem r23 {call:CallF} (pu:PureF) (n:Nat) (hcall:call = callP tabs isP pu (inl pu)) {args:LV} {v:Value} (hm:m23 pu n args = some v) (_:∀ x ∈ args,closed2 x = true):args.length≤65∧Run tt call 0 c23_65 (Fr.made 65 args) (pureHeap tabs) (Fin tt 0 [.tmp 2,.tmp 3] v):=by
 subst hcall
 unfold m23 at hm
 replace hm:=ll_uncons hm;obtain ⟨a0,args_0,rfl,hm⟩:=hm
 replace hm:=ll_end hm;obtain ⟨rfl,hm⟩:=hm
 replace hm:=inv_toSl hm;obtain ⟨s0,rfl,hm⟩:=hm
 unfold m23_ at hm
 refine ⟨by simp,?_⟩
 refine .same (F':=(fr 65 [(0,Sl.v 1 s0)])) (H':=(hp 0 [])) (by kernel_rfl) (by kernel_rfl) ?_
 refine .then (.rK ?_)
 refine .ghs (fr 65 [(0,Sl.v 1 s0)]) (hp 0 []) (.k0 [] [] [0]) ?_
 refine .then ?_
 refine .then ?_
 replace hm:=oo_inv hm;obtain ⟨v0,h0,hm⟩:=hm
 replace hm:=inv_toI hm;obtain ⟨x0,rfl,hm⟩:=hm
 refine .reg (eC 1 ((oo (pu 27 [Sl.v 1 s0]) none fun v=>some (v,(hp 0 [])))) (call_eq h0) (eE)) ?_
 refine .ghs (fr 65 [(0,Sl.v 1 s0),(4,zI x0)]) (hp 0 []) (.k0 [] [] [0,4]) ?_
 refine .then (.rK ?_)
 refine .ghs (fr 65 [(0,Sl.v 1 s0),(4,zI x0),(16,(zB (nt (ieq x0 (0:Int)))))]) (hp 0 []) (.k0 [] [] [0,4,16]) ?_
 replace hm:=bb_cases hm;rcases hm with ⟨h1,hm⟩ | ⟨h1,hm⟩
 ·refine .ifT (nt (ieq x0 (0 : Int))) (by kernel_rfl) h1 ?_
  refine .then (.rK ?_)
  refine .ghs (fr 65 [(2,(zI (0:Int))),(3,zI x0)]) (hp 0 []) (.k0 [] [] [2,3]) ?_
  refine .ret ?_
  exact fin_ret (.tuple ⟨[(zI (0:Int)),zI x0]⟩) (by kernel_rfl) (by kernel_rfl) hm
 ·refine .ifF (nt (ieq x0 (0 : Int))) (by kernel_rfl) h1 ?_
  refine .skip ?_
  refine .ghs (fr 65 [(0,Sl.v 1 s0)]) (hp 0 []) (.k0 [] [] [0]) ?_
  refine .then (.rK ?_)
  replace hm:=bb_inv hm;obtain ⟨h2,hm⟩:=hm
  refine .ghs (fr 65 [(0,Sl.v 1 s0),(5,(.map (some 0)))]) (hp 1 [(.map ([]:List Ent) 0)]) (.k [0] [] [.tmp 5 false] [0,5] ⟨trF h2,trivial⟩) ?_
  refine .then (.rK ?_)
  refine .ghs (fr 65 [(0,Sl.v 1 s0),(5,(.map (some 0))),(6,(.slice none 0 0))]) (hp 1 [(.map ([]:List Ent) 0)]) (.k [0] [] [.tmp 5 false] [0,5,6] ⟨trF h2,trivial⟩) ?_
  refine .join (v:=v) (fun y:Nat×Nat×List Ent×Nat×LV=>((fr 65 [(5,(.map (some 0))),(6,(sc 1 0 22 y.1 y.2.1))]),(hp 2 [(.map y.2.2.1 y.2.2.2.1),(oC y.2.2.2.2)]))) (fun y=>m23_0 pu n y.1 y.2.1 y.2.2.1 y.2.2.2.1 y.2.2.2.2) ?_ ?_
  ·rintro ⟨n0, c0, e0, k1, q1⟩ hm
   exact w23_0 pu n n0 c0 e0 k1 q1 hm
  ·refine .then ?_
   replace hm:=oo_inv hm;obtain ⟨v1,h3,hm⟩:=hm
   replace hm:=inv_vAgg hm;obtain ⟨l0,rfl,hm⟩:=hm
   replace hm:=ll_uncons hm;obtain ⟨v2,l6133_0,rfl,hm⟩:=hm
   replace hm:=ll_uncons hm;obtain ⟨v3,l6133_1,rfl,hm⟩:=hm
   replace hm:=ll_uncons hm;obtain ⟨v4,l6133_2,rfl,hm⟩:=hm
   replace hm:=ll_uncons hm;obtain ⟨v5,l6133_3,rfl,hm⟩:=hm
   replace hm:=ll_uncons hm;obtain ⟨v6,l6133_4,rfl,hm⟩:=hm
   replace hm:=ll_uncons hm;obtain ⟨v7,l6133_5,rfl,hm⟩:=hm
   replace hm:=ll_uncons hm;obtain ⟨v8,l6133_6,rfl,hm⟩:=hm
   replace hm:=ll_uncons hm;obtain ⟨v9,l6133_7,rfl,hm⟩:=hm
   replace hm:=ll_uncons hm;obtain ⟨v10,l6133_8,rfl,hm⟩:=hm
   replace hm:=ll_uncons hm;obtain ⟨v11,l6133_9,rfl,hm⟩:=hm
   replace hm:=ll_uncons hm;obtain ⟨v12,l6133_10,rfl,hm⟩:=hm
   replace hm:=ll_uncons hm;obtain ⟨v13,l6133_11,rfl,hm⟩:=hm
   replace hm:=ll_uncons hm;obtain ⟨v14,l6133_12,rfl,hm⟩:=hm
   replace hm:=ll_uncons hm;obtain ⟨v15,l6133_13,rfl,hm⟩:=hm
   replace hm:=ll_uncons hm;obtain ⟨v16,l6133_14,rfl,hm⟩:=hm
   replace hm:=ll_uncons hm;obtain ⟨v17,l6133_15,rfl,hm⟩:=hm
   replace hm:=ll_uncons hm;obtain ⟨v18,l6133_16,rfl,hm⟩:=hm
   replace hm:=ll_uncons hm;obtain ⟨v19,l6133_17,rfl,hm⟩:=hm
   replace hm:=ll_uncons hm;obtain ⟨v20,l6133_18,rfl,hm⟩:=hm
   replace hm:=ll_uncons hm;obtain ⟨v21,l6133_19,rfl,hm⟩:=hm
   replace hm:=ll_uncons hm;obtain ⟨v22,l6133_20,rfl,hm⟩:=hm
   replace hm:=ll_uncons hm;obtain ⟨v23,l6133_21,rfl,hm⟩:=hm
   replace hm:=ll_end hm;obtain ⟨rfl,hm⟩:=hm
   replace hm:=inv_toI hm;obtain ⟨x1,rfl,hm⟩:=hm
   replace hm:=inv_toI hm;obtain ⟨x2,rfl,hm⟩:=hm
   replace hm:=inv_toI hm;obtain ⟨x3,rfl,hm⟩:=hm
   replace hm:=inv_toI hm;obtain ⟨x4,rfl,hm⟩:=hm
   replace hm:=inv_toI hm;obtain ⟨x5,rfl,hm⟩:=hm
   replace hm:=inv_toI hm;obtain ⟨x6,rfl,hm⟩:=hm
   replace hm:=inv_toI hm;obtain ⟨x7,rfl,hm⟩:=hm
   replace hm:=inv_toI hm;obtain ⟨x8,rfl,hm⟩:=hm
   replace hm:=inv_toI hm;obtain ⟨x9,rfl,hm⟩:=hm
   replace hm:=inv_toI hm;obtain ⟨x10,rfl,hm⟩:=hm
   replace hm:=inv_toI hm;obtain ⟨x11,rfl,hm⟩:=hm
   replace hm:=inv_toI hm;obtain ⟨x12,rfl,hm⟩:=hm
   replace hm:=inv_toI hm;obtain ⟨x13,rfl,hm⟩:=hm
   replace hm:=inv_toI hm;obtain ⟨x14,rfl,hm⟩:=hm
   replace hm:=inv_toI hm;obtain ⟨x15,rfl,hm⟩:=hm
   replace hm:=inv_toI hm;obtain ⟨x16,rfl,hm⟩:=hm
   replace hm:=inv_toI hm;obtain ⟨x17,rfl,hm⟩:=hm
   replace hm:=inv_toI hm;obtain ⟨x18,rfl,hm⟩:=hm
   replace hm:=inv_toI hm;obtain ⟨x19,rfl,hm⟩:=hm
   replace hm:=inv_toI hm;obtain ⟨x20,rfl,hm⟩:=hm
   replace hm:=inv_toI hm;obtain ⟨x21,rfl,hm⟩:=hm
   replace hm:=inv_toI hm;obtain ⟨x22,rfl,hm⟩:=hm
   replace hm:=oo_inv hm;obtain ⟨v24,h4,hm⟩:=hm
   replace hm:=inv_toSl hm;obtain ⟨s1,rfl,hm⟩:=hm
   refine .reg (eC 1 ((oo (pu 28 [Sl.v 1 s0]) none fun v=>some (v,(hp 1 [(.map ([]:List Ent) 0)])))) (call_eq h3) (eD ((oo (pu 36 [(.agg ⟨[zI x1,zI x2,zI x3,zI x4,zI x5,zI x6,zI x7,zI x8,zI x9,zI x10,zI x11,zI x12,zI x13,zI x14,zI x15,zI x16,zI x17,zI x18,zI x19,zI x20,zI x21,zI x22]⟩)]) none fun v=>some (v,(hp 1 [(.map ([]:List Ent) 0)])))) (call_eq h4) (eE))) ?_
   refine .ghs (fr 65 [(5,(.map (some 0))),(6,(.slice none 0 0)),(21,Sl.v 1 s1),(22,(zI (Int.ofNat (Sl.n s1)))),(23,(zI (0:Int)))]) (hp 1 [(.map ([]:List Ent) 0)]) (.k [0] [] [.tmp 5 false] [5,6,21,22,23] ⟨trF h2,trivial⟩) ?_
   refine .block ?_
   refine .loopM (v:=v) (fun y:Nat×Nat×Sl×Int×Int×List Ent×Nat×LV=>((fr 65 [(5,(.map (some 0))),(6,(sc 1 0 22 y.1 y.2.1)),(21,(Sl.v 1 y.2.2.1)),(22,(zI y.2.2.2.1)),(23,(zI y.2.2.2.2.1))]),(hp 2 [(.map y.2.2.2.2.2.1 y.2.2.2.2.2.2.1),(oC y.2.2.2.2.2.2.2)]))) (fun w y=>l23_6 pu n w y.1 y.2.1 y.2.2.1 y.2.2.2.1 y.2.2.2.2.1 y.2.2.2.2.2.1 y.2.2.2.2.2.2.1 y.2.2.2.2.2.2.2) n ⟨(0,0,s1,(Int.ofNat (Sl.n s1)),(0:Int),([]:List Ent),0,([]:LV)),hm,(.thaw 6 22 (by kernel_rfl) (.k [0] [] [.tmp 5 false,.tmp 6 false] [5,6,21,22,23] ⟨trF h2,trivial⟩))⟩ (fun _=>rfl) ?_
   rintro w0 ⟨n1,c1,s2,z0,z1,e1,k2,q2⟩ hm
   replace hm:b23_6 pu n (l23_6 pu n w0) n1 c1 s2 z0 z1 e1 k2 q2 = some v:=hm
   unfold b23_6 at hm
   refine .then (.rK ?_)
   replace hm:=bb_inv hm;obtain ⟨h5,hm⟩:=hm
   replace hm:=bb_inv hm;obtain ⟨h6,hm⟩:=hm
   refine .ghs (fr 65 [(5,(.map (some 0))),(6,sc 1 0 22 n1 c1),(21,Sl.v 1 s2),(22,zI z0),(23,zI z1),(24,(zB (ilt z1 z0)))]) (hp 2 [(.map e1 k2),oC q2]) (.k [0,1] [] [.tmp 5 false,.tmp 6 false] [5,6,21,22,23,24] ⟨trF h5,trF h6,trivial⟩) ?_
   refine .then ?_
   replace hm:=bb_cases hm;rcases hm with ⟨h7,hm⟩ | ⟨h7,hm⟩
   ·refine .ifT (ilt z1 z0) (by kernel_rfl) h7 ?_
    refine .skip ?_
    refine .ghs (fr 65 [(5,(.map (some 0))),(6,sc 1 0 22 n1 c1),(21,Sl.v 1 s2),(22,zI z0),(23,zI z1)]) (hp 2 [(.map e1 k2),oC q2]) (.k [0,1] [] [.tmp 5 false,.tmp 6 false] [5,6,21,22,23] ⟨trF h5,trF h6,trivial⟩) ?_
    refine .then ?_
    refine .block ?_
    refine .then ?_
    replace hm:=oo_inv hm;obtain ⟨k3,h8,hm⟩:=hm
    obtain rfl:=toN_some h8
    replace hm:=bb_inv hm;obtain ⟨h9,hm⟩:=hm
    replace hm:=oo_inv hm;obtain ⟨v25,h10,hm⟩:=hm
    replace hm:=inv_toSl hm;obtain ⟨s3,rfl,hm⟩:=hm
    refine .reg (eD (keep (hp 2 [(.map e1 k2),oC q2]) (bb (an (Nat.blt k3 (Sl.n s2)) true) (some (fpV (k3 * 1) (Sl.cs s2))) none)) (keep_bb h9) (eD (keep (hp 2 [(.map e1 k2),oC q2]) (nthL (Sl.cs s2) (k3 * 1))) (keep_eq h10) (eE))) ?_
    refine .ghs (fr 65 [(5,(.map (some 0))),(6,sc 1 0 22 n1 c1),(8,Sl.v 1 s3),(21,Sl.v 1 s2),(22,zI z0),(23,(zI (Int.ofNat k3)))]) (hp 2 [(.map e1 k2),oC q2]) (.k [0,1] [] [.tmp 5 false,.tmp 6 false] [5,6,8,21,22,23] ⟨trF h5,trF h6,trivial⟩) ?_
    refine .then ?_
    replace hm:=oo_inv hm;obtain ⟨v26,h11,hm⟩:=hm
    replace hm:=inv_vAgg hm;obtain ⟨l1,rfl,hm⟩:=hm
    replace hm:=ll_uncons hm;obtain ⟨v27,l6302_0,rfl,hm⟩:=hm
    replace hm:=ll_uncons hm;obtain ⟨v28,l6302_1,rfl,hm⟩:=hm
    replace hm:=ll_uncons hm;obtain ⟨v29,l6302_2,rfl,hm⟩:=hm
    replace hm:=ll_uncons hm;obtain ⟨v30,l6302_3,rfl,hm⟩:=hm
    replace hm:=ll_uncons hm;obtain ⟨v31,l6302_4,rfl,hm⟩:=hm
    replace hm:=ll_uncons hm;obtain ⟨v32,l6302_5,rfl,hm⟩:=hm
    replace hm:=ll_uncons hm;obtain ⟨v33,l6302_6,rfl,hm⟩:=hm
    replace hm:=ll_uncons hm;obtain ⟨v34,l6302_7,rfl,hm⟩:=hm
    replace hm:=ll_uncons hm;obtain ⟨v35,l6302_8,rfl,hm⟩:=hm
    replace hm:=ll_uncons hm;obtain ⟨v36,l6302_9,rfl,hm⟩:=hm
    replace hm:=ll_uncons hm;obtain ⟨v37,l6302_10,rfl,hm⟩:=hm
    replace hm:=ll_uncons hm;obtain ⟨v38,l6302_11,rfl,hm⟩:=hm
    replace hm:=ll_uncons hm;obtain ⟨v39,l6302_12,rfl,hm⟩:=hm
    replace hm:=ll_uncons hm;obtain ⟨v40,l6302_13,rfl,hm⟩:=hm
    replace hm:=ll_uncons hm;obtain ⟨v41,l6302_14,rfl,hm⟩:=hm
    replace hm:=ll_uncons hm;obtain ⟨v42,l6302_15,rfl,hm⟩:=hm
    replace hm:=ll_uncons hm;obtain ⟨v43,l6302_16,rfl,hm⟩:=hm
    replace hm:=ll_uncons hm;obtain ⟨v44,l6302_17,rfl,hm⟩:=hm
    replace hm:=ll_uncons hm;obtain ⟨v45,l6302_18,rfl,hm⟩:=hm
    replace hm:=ll_uncons hm;obtain ⟨v46,l6302_19,rfl,hm⟩:=hm
    replace hm:=ll_uncons hm;obtain ⟨v47,l6302_20,rfl,hm⟩:=hm
    replace hm:=ll_uncons hm;obtain ⟨v48,l6302_21,rfl,hm⟩:=hm
    replace hm:=ll_end hm;obtain ⟨rfl,hm⟩:=hm
    replace hm:=inv_toI hm;obtain ⟨x23,rfl,hm⟩:=hm
    replace hm:=inv_toI hm;obtain ⟨x24,rfl,hm⟩:=hm
    replace hm:=inv_toI hm;obtain ⟨x25,rfl,hm⟩:=hm
    replace hm:=inv_toI hm;obtain ⟨x26,rfl,hm⟩:=hm
    replace hm:=inv_toI hm;obtain ⟨x27,rfl,hm⟩:=hm
    replace hm:=inv_toI hm;obtain ⟨x28,rfl,hm⟩:=hm
    replace hm:=inv_toI hm;obtain ⟨x29,rfl,hm⟩:=hm
    replace hm:=inv_toI hm;obtain ⟨x30,rfl,hm⟩:=hm
    replace hm:=inv_toI hm;obtain ⟨x31,rfl,hm⟩:=hm
    replace hm:=inv_toI hm;obtain ⟨x32,rfl,hm⟩:=hm
    replace hm:=inv_toI hm;obtain ⟨x33,rfl,hm⟩:=hm
    replace hm:=inv_toI hm;obtain ⟨x34,rfl,hm⟩:=hm
    replace hm:=inv_toI hm;obtain ⟨x35,rfl,hm⟩:=hm
    replace hm:=inv_toI hm;obtain ⟨x36,rfl,hm⟩:=hm
    replace hm:=inv_toI hm;obtain ⟨x37,rfl,hm⟩:=hm
    replace hm:=inv_toI hm;obtain ⟨x38,rfl,hm⟩:=hm
    replace hm:=inv_toI hm;obtain ⟨x39,rfl,hm⟩:=hm
    replace hm:=inv_toI hm;obtain ⟨x40,rfl,hm⟩:=hm
    replace hm:=inv_toI hm;obtain ⟨x41,rfl,hm⟩:=hm
    replace hm:=inv_toI hm;obtain ⟨x42,rfl,hm⟩:=hm
    replace hm:=inv_toI hm;obtain ⟨x43,rfl,hm⟩:=hm
    replace hm:=inv_toI hm;obtain ⟨x44,rfl,hm⟩:=hm
    refine .reg (eC 1 ((oo (pu 28 [Sl.v 1 s3]) none fun v=>some (v,(hp 2 [(.map e1 k2),oC q2])))) (call_eq h11) (eE)) ?_
    refine .ghs (fr 65 [(5,(.map (some 0))),(6,sc 1 0 22 n1 c1),(9,(pt 2 0)),(21,Sl.v 1 s2),(22,zI z0),(23,(zI (Int.ofNat k3)))]) (hp 3 [(.map e1 k2),oC q2,(oC [zI x23,zI x24,zI x25,zI x26,zI x27,zI x28,zI x29,zI x30,zI x31,zI x32,zI x33,zI x34,zI x35,zI x36,zI x37,zI x38,zI x39,zI x40,zI x41,zI x42,zI x43,zI x44])]) (.k [0,1] [] [.tmp 5 false,.tmp 6 false,.tmp 9 false] [5,6,9,21,22,23] ⟨trF h5,trF h6,trivial⟩) ?_
    refine .then ?_
    replace hm:=oo_inv hm;obtain ⟨r0,h12,hm⟩:=hm
    refine .reg (eC 2 (done (oo (findE (.agg ⟨[zI x23,zI x24,zI x25,zI x26,zI x27,zI x28,zI x29,zI x30,zI x31,zI x32,zI x33,zI x34,zI x35,zI x36,zI x37,zI x38,zI x39,zI x40,zI x41,zI x42,zI x43,zI x44]⟩) e1 0) none fun r=>oo r (some (AHeap.set (hp 3 [(.map e1 k2),oC q2,(oC [zI x23,zI x24,zI x25,zI x26,zI x27,zI x28,zI x29,zI x30,zI x31,zI x32,zI x33,zI x34,zI x35,zI x36,zI x37,zI x38,zI x39,zI x40,zI x41,zI x42,zI x43,zI x44])]) 0 (.map (appL e1 [⟨(.agg ⟨[zI x23,zI x24,zI x25,zI x26,zI x27,zI x28,zI x29,zI x30,zI x31,zI x32,zI x33,zI x34,zI x35,zI x36,zI x37,zI x38,zI x39,zI x40,zI x41,zI x42,zI x43,zI x44]⟩),zB true,k2⟩]) (k2 + 1)))) fun p=>pp p fun j _=>some (AHeap.set (hp 3 [(.map e1 k2),oC q2,(oC [zI x23,zI x24,zI x25,zI x26,zI x27,zI x28,zI x29,zI x30,zI x31,zI x32,zI x33,zI x34,zI x35,zI x36,zI x37,zI x38,zI x39,zI x40,zI x41,zI x42,zI x43,zI x44])]) 0 (.map (modL (fun e=>⟨(.agg ⟨[zI x23,zI x24,zI x25,zI x26,zI x27,zI x28,zI x29,zI x30,zI x31,zI x32,zI x33,zI x34,zI x35,zI x36,zI x37,zI x38,zI x39,zI x40,zI x41,zI x42,zI x43,zI x44]⟩),zB true,e.born⟩) j e1) k2))) undef) (upd_eq (H2:=(hp 3 [(.map (updE (.agg ⟨[zI x23,zI x24,zI x25,zI x26,zI x27,zI x28,zI x29,zI x30,zI x31,zI x32,zI x33,zI x34,zI x35,zI x36,zI x37,zI x38,zI x39,zI x40,zI x41,zI x42,zI x43,zI x44]⟩) (zB true) k2 e1 r0) (updC k2 r0)),oC q2,(oC [zI x23,zI x24,zI x25,zI x26,zI x27,zI x28,zI x29,zI x30,zI x31,zI x32,zI x33,zI x34,zI x35,zI x36,zI x37,zI x38,zI x39,zI x40,zI x41,zI x42,zI x43,zI x44])])) h12) (eE)) ?_
    replace hm:=bb_inv hm;obtain ⟨h13,hm⟩:=hm
    refine .ghs (fr 65 [(5,(.map (some 0))),(6,sc 1 0 22 n1 c1),(9,(pt 2 0)),(21,Sl.v 1 s2),(22,zI z0),(23,(zI (Int.ofNat k3)))]) (hp 3 [(.map (updE (.agg ⟨[zI x23,zI x24,zI x25,zI x26,zI x27,zI x28,zI x29,zI x30,zI x31,zI x32,zI x33,zI x34,zI x35,zI x36,zI x37,zI x38,zI x39,zI x40,zI x41,zI x42,zI x43,zI x44]⟩) (zB true) k2 e1 r0) (updC k2 r0)),oC q2,(oC [zI x23,zI x24,zI x25,zI x26,zI x27,zI x28,zI x29,zI x30,zI x31,zI x32,zI x33,zI x34,zI x35,zI x36,zI x37,zI x38,zI x39,zI x40,zI x41,zI x42,zI x43,zI x44])]) (.k [0,1] [] [.tmp 5 false,.tmp 6 false,.tmp 9 false] [5,6,9,21,22,23] ⟨trF h13,trF h6,trivial⟩) ?_
    replace hm:=bb_inv hm;obtain ⟨h14,hm⟩:=hm
    refine .reg (eC 3 (growD 22 176 n1 c1 1 1 q2 [zI x23,zI x24,zI x25,zI x26,zI x27,zI x28,zI x29,zI x30,zI x31,zI x32,zI x33,zI x34,zI x35,zI x36,zI x37,zI x38,zI x39,zI x40,zI x41,zI x42,zI x43,zI x44] [] (hp 4 [(.map (updE (.agg ⟨[zI x23,zI x24,zI x25,zI x26,zI x27,zI x28,zI x29,zI x30,zI x31,zI x32,zI x33,zI x34,zI x35,zI x36,zI x37,zI x38,zI x39,zI x40,zI x41,zI x42,zI x43,zI x44]⟩) (zB true) k2 e1 r0) (updC k2 r0)),oC q2,(oC [zI x23,zI x24,zI x25,zI x26,zI x27,zI x28,zI x29,zI x30,zI x31,zI x32,zI x33,zI x34,zI x35,zI x36,zI x37,zI x38,zI x39,zI x40,zI x41,zI x42,zI x43,zI x44]),(oC [zI x23,zI x24,zI x25,zI x26,zI x27,zI x28,zI x29,zI x30,zI x31,zI x32,zI x33,zI x34,zI x35,zI x36,zI x37,zI x38,zI x39,zI x40,zI x41,zI x42,zI x43,zI x44])])) (growD_eq h14) (eE)) ?_
    replace hm:=bb_inv hm;obtain ⟨h15,hm⟩:=hm
    refine .ghs (fr 65 [(5,(.map (some 0))),(6,(sc 1 0 22 (n1 + 1) (d2 (n1 + 1)))),(21,Sl.v 1 s2),(22,zI z0),(23,(zI (Int.ofNat k3)))]) (hp 2 [(.map (updE (.agg ⟨[zI x23,zI x24,zI x25,zI x26,zI x27,zI x28,zI x29,zI x30,zI x31,zI x32,zI x33,zI x34,zI x35,zI x36,zI x37,zI x38,zI x39,zI x40,zI x41,zI x42,zI x43,zI x44]⟩) (zB true) k2 e1 r0) (updC k2 r0)),(oC (appL (dropL 0 q2) [zI x23,zI x24,zI x25,zI x26,zI x27,zI x28,zI x29,zI x30,zI x31,zI x32,zI x33,zI x34,zI x35,zI x36,zI x37,zI x38,zI x39,zI x40,zI x41,zI x42,zI x43,zI x44]))]) (.k [0,4] [] [.tmp 5 false,.tmp 6 false] [5,6,21,22,23] ⟨trF h13,trF h15,trivial⟩) ?_
    refine .rK ?_
    exact ⟨((n1 + 1),(d2 (n1 + 1)),s2,z0,(wrapF .i64 (Int.add (Int.ofNat k3) (1:Int))),(updE (.agg ⟨[zI x23,zI x24,zI x25,zI x26,zI x27,zI x28,zI x29,zI x30,zI x31,zI x32,zI x33,zI x34,zI x35,zI x36,zI x37,zI x38,zI x39,zI x40,zI x41,zI x42,zI x43,zI x44]⟩) (zB true) k2 e1 r0),(updC k2 r0),(appL (dropL 0 q2) [zI x23,zI x24,zI x25,zI x26,zI x27,zI x28,zI x29,zI x30,zI x31,zI x32,zI x33,zI x34,zI x35,zI x36,zI x37,zI x38,zI x39,zI x40,zI x41,zI x42,zI x43,zI x44])),hm,(.k [0,1] [] [.tmp 5 false,.tmp 6 false] [5,6,21,22,23] ⟨trF h13,trF h15,trivial⟩)⟩
   ·refine .ifF (ilt z1 z0) (by kernel_rfl) h7 ?_
    refine .exit ?_
    exact ⟨(n1,c1,e1,k2,q2),hm,(.k [0,1] [] [.tmp 5 false,.tmp 6 false] [5,6] ⟨trF h5,trF h6,trivial⟩)⟩
end
end Go.HzSM
