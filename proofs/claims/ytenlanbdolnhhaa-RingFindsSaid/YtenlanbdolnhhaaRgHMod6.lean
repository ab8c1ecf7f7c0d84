/- Made from wip. -/
import Derived.Test.YtenlanbdolnhhaaRgHMod0x

set_option maxRecDepth 100000
set_option maxHeartbeats 20000000
set_option linter.unusedVariables false
namespace Go.RgHM
open Go.Sp Go.RgH
noncomputable section

def m98_ (pu:PureF) (n:Nat) (x0:Int):OV:=
 (some (.bool (nt (ieq x0 x0))))
def m98 (pu:PureF) (n:Nat) (args:LV):OV:=
 (ll args none fun a0 args=>(ll args (oo (toI .i64 a0) none fun x0=>(m98_ pu n x0)) fun _ _=>none))
theorem r98 {call:CallF} (pu:PureF) (n:Nat) (hcall:call=callP tabs isP pu (inl pu)) {args:LV} {v:Value} (hm:m98 pu n args=some v) (_:∀ x∈args,closed2 x=true):args.length≤6∧Run tt call 0 c98_3 (Fr.made 6 args) (pureHeap tabs) (Fin tt 0 [.tmp 2] v):=by
 subst hcall
 unfold m98 at hm
 replace hm:=ll_uncons hm;obtain⟨a0,args_0,rfl,hm⟩:=hm
 replace hm:=ll_end hm;obtain⟨rfl,hm⟩:=hm
 replace hm:=inv_toI hm;obtain⟨x0,rfl,hm⟩:=hm
 unfold m98_ at hm
 refine⟨by simp,?_⟩
 refine .same (F':=(fr 6 [(0,zI x0)])) (H':=(hp 0 [])) (by kernel_rfl) (by kernel_rfl) ?_
 refine .then (.rK (.ghs (fr 6 [(0,zI x0)]) (hp 0 []) (.k0 [] [] [0]) ?_))
 refine .then (.rK (.ghs (fr 6 [(2,(zB (nt (ieq x0 x0))))]) (hp 0 []) (.k0 [] [] [2]) ?_))
 refine .ret ?_
 exact fin_rt (zB (nt (ieq x0 x0))) hm
def m10860_0 (pu:PureF) (n:Nat) (e0:List Ent) (k1:Nat):OV:=
 (bb (allL entClosed e0) (some (.tuple ⟨[(.map (some 0)),(encO (.map e0 k1))]⟩)) none)
def m10860_2 (pu:PureF) (n:Nat) (ih0:Sl→Sl→Int→Int→Int→Int→List Ent→Nat→OV) (s0 s1:Sl) (z1 z2 z3 z4:Int) (e0:List Ent) (k1:Nat):OV:=
 (bb (allL entClosed e0) (ih0 s0 s1 z1 (wrapF .i64 (Int.add z2 (1:Int))) z3 z4 e0 k1) none)
def m10860_4 (pu:PureF) (n:Nat) (ih0:Sl→Sl→Int→Int→Int→Int→List Ent→Nat→OV) (ih1:Sl→Int→Sl→Int→Int→Sl→Int→Int→Int→Int→List Ent→Nat→OV) (s0:Sl) (z1:Int) (s1:Sl) (z2 z3:Int) (s2:Sl) (z4 z5 z6 z7:Int) (e0:List Ent) (k1:Nat):OV:=
 (bb (allL entClosed e0) (ih1 s0 z1 s1 z2 z3 s2 z4 (wrapF .i64 (Int.add z5 (1:Int))) z6 z7 e0 k1) none)
def b10860_3 (pu:PureF) (n:Nat) (ih0:Sl→Sl→Int→Int→Int→Int→List Ent→Nat→OV) (ih1:Sl→Int→Sl→Int→Int→Sl→Int→Int→Int→Int→List Ent→Nat→OV) (s0:Sl) (z1:Int) (s1:Sl) (z2 z3:Int) (s2:Sl) (z4 z5 z6 z7:Int) (e0:List Ent) (k1:Nat):OV:=
 (bb (allL entClosed e0) (bb (ilt z5 z4) (oo (toN z5) none fun k2=>(bb (an (Nat.blt k2 (Sl.n s2)) true) (oo (nthL (Sl.cs s2) (k2*1)) none fun v0=>(oo (toI .i64 v0) none fun x0=>(bb (nt (ieq z1 x0)) (oo (pu 62 [(.agg ⟨[.int .i64 z6,.int .u32 z7]⟩),(.int .i64 (wrapF .i64 (Int.sub x0 z1)))]) none fun v1=>(oo (toI .i64 v1) none fun x1=>(oo (findE (.int .i64 x1) e0 0) none fun r0=>(oo (toI .i64 (getE r0 (.int .i64 (0:Int)))) none fun x2=>(oo (findE (.int .i64 x1) e0 0) none fun r1=>(bb (allL entClosed (updE (.int .i64 x1) (.int .i64 (wrapF .i64 (Int.add x2 (1:Int)))) k1 e0 r1)) (m10860_4 pu n ih0 ih1 s0 z1 s1 z2 z3 s2 z4 (Int.ofNat k2) z6 z7 (updE (.int .i64 x1) (.int .i64 (wrapF .i64 (Int.add x2 (1:Int)))) k1 e0 r1) (updC k1 r1)) none)))))) (m10860_4 pu n ih0 ih1 s0 z1 s1 z2 z3 s2 z4 (Int.ofNat k2) z6 z7 e0 k1)))) none)) (m10860_2 pu n ih0 s0 s1 z2 z3 z6 z7 e0 k1)) none)
def l10860_3 (pu:PureF) (n:Nat) (ih0:Sl→Sl→Int→Int→Int→Int→List Ent→Nat→OV) (w:Nat):Sl→Int→Sl→Int→Int→Sl→Int→Int→Int→Int→List Ent→Nat→OV:=
 Nat.rec (motive:=fun _=>Sl→Int→Sl→Int→Int→Sl→Int→Int→Int→Int→List Ent→Nat→OV) (fun _ _ _ _ _ _ _ _ _ _ _ _=>none) (fun _ ih1=>b10860_3 pu n ih0 ih1) w
def b10860_1 (pu:PureF) (n:Nat) (ih0:Sl→Sl→Int→Int→Int→Int→List Ent→Nat→OV) (s0 s1:Sl) (z1 z2 z3 z4:Int) (e0:List Ent) (k1:Nat):OV:=
 (bb (allL entClosed e0) (bb (ilt z2 z1) (oo (toN z2) none fun k2=>(bb (an (Nat.blt k2 (Sl.n s1)) true) (oo (nthL (Sl.cs s1) (k2*1)) none fun v0=>(oo (toI .i64 v0) none fun x0=>(l10860_3 pu n ih0 n s0 x0 s1 z1 (Int.ofNat k2) s0 (Int.ofNat (Sl.n s0)) (0:Int) z3 z4 e0 k1))) none)) (m10860_0 pu n e0 k1)) none)
def l10860_1 (pu:PureF) (n w:Nat):Sl→Sl→Int→Int→Int→Int→List Ent→Nat→OV:=
 Nat.rec (motive:=fun _=>Sl→Sl→Int→Int→Int→Int→List Ent→Nat→OV) (fun _ _ _ _ _ _ _ _=>none) (fun _ ih0=>b10860_1 pu n ih0) w
def m10860_ (pu:PureF) (n:Nat) (z1 z2:Int):OV:=
 (bb (allL entClosed ([]:List Ent)) (oo (pu 80 [(.agg ⟨[.int .i64 z1,.int .u32 z2]⟩)]) none fun v0=>(oo (toSl 1 v0) none fun s0=>(l10860_1 pu n n s0 s0 (Int.ofNat (Sl.n s0)) (0:Int) z1 z2 ([]:List Ent) 0))) none)
def m10860 (pu:PureF) (n:Nat) (args:LV):OV:=
 (ll args none fun a0 args=>(ll args (oo (vAgg a0) none fun l0=>(ll l0 none fun v0 l0=>(ll l0 none fun v1 l0=>(ll l0 (oo (toI .i64 v0) none fun x0=>(oo (toI .u32 v1) none fun x1=>(m10860_ pu n x0 x1))) fun _ _=>none)))) fun _ _=>none))
theorem w10860_0 (pu:PureF) (n:Nat) (e0:List Ent) (k1:Nat) {v:Value} (hm:m10860_0 pu n e0 k1=some v):Run tt (callP tabs isP pu (inl pu)) 0 c86_34 (fr 38 [(3,(.map (some 0)))]) (hp 1 [(.map e0 k1)]) (FinO tt 0 0 [.tmp 2] v):=by
 unfold m10860_0 at hm
 refine .then (.rK ?_)
 replace hm:=bb_inv hm;obtain⟨h0,hm⟩:=hm
 refine .ghs (fr 38 [(2,(.map (some 0)))]) (hp 1 [(.map e0 k1)]) (.k [0] [] [.tmp 2 false] [2] ⟨trF h0,trivial⟩) ?_
 refine .ghs (fr 38 [(2,(.map (some 0)))]) (hp 1 [(.map e0 k1)]) (.k [0] [] [.tmp 2 false] [2] ⟨trF h0,trivial⟩) ?_
 refine .ret ?_
 exact finO_ret (.map (some 0)) [(.map e0 k1)] (by kernel_rfl) hm (Nat.le_of_ble_eq_true rfl) (ooAt_cons (pO_m _ _) ooAt_nil)
theorem q10860 (pu:PureF) (n:Nat) (z1 z2:Int) {v:Value} (hm:m10860_ pu n z1 z2=some v):Run tt (callP tabs isP pu (inl pu)) 0 c86_38 (fr 38 [(0,(.agg ⟨[zI z1,.int .u32 z2]⟩))]) (hp 0 []) (FinO tt 0 0 [.tmp 2] v):=by
 unfold m10860_ at hm
 refine .then (.rK (.ghs (fr 38 [(1,(pt 0 0))]) (hp 1 [(oC [zI z1,.int .u32 z2])]) (.k0 [] [.tmp 1 false] [1]) ?_))
 refine .then (.rK ?_)
 replace hm:=bb_inv hm;obtain⟨h0,hm⟩:=hm
 refine .ghs (fr 38 [(1,(pt 0 0)),(3,(.map (some 1)))]) (hp 2 [(oC [zI z1,.int .u32 z2]),(.map ([]:List Ent) 0)]) (.k [1] [] [.tmp 1 false,.tmp 3 false] [1,3] ⟨trF h0,trivial⟩) ?_
 refine .then ?_
 replace hm:=oQS hm;obtain⟨s0,h1,hm⟩:=hm
 refine .reg (eC 1 ((oo (pu 80 [(.agg ⟨[zI z1,.int .u32 z2]⟩)]) none fun v=>some (v,(hp 2 [(oC [zI z1,.int .u32 z2]),(.map ([]:List Ent) 0)])))) (call_eq h1) (eE)) ?_
 refine .ghs (fr 38 [(1,(pt 0 0)),(3,(.map (some 1))),(4,Sl.v 1 s0)]) (hp 2 [(oC [zI z1,.int .u32 z2]),(.map ([]:List Ent) 0)]) (.k [1] [] [.tmp 1 false,.tmp 3 false] [1,3,4] ⟨trF h0,trivial⟩) ?_
 refine .join (v:=v) (fun y:List Ent×Nat=>((fr 38 [(3,(.map (some 0)))]),(hp 1 [(.map y.1 y.2)]))) (fun y=>m10860_0 pu n y.1 y.2) ?_ ?_
 ·rintro⟨e0,k1⟩ hm
  exact w10860_0 pu n e0 k1 hm
 ·refine .then (.rK (.ghs (fr 38 [(1,(pt 0 0)),(3,(.map (some 1))),(4,Sl.v 1 s0),(12,Sl.v 1 s0),(13,(zI (Int.ofNat (Sl.n s0)))),(14,(zI (0:Int)))]) (hp 2 [(oC [zI z1,.int .u32 z2]),(.map ([]:List Ent) 0)]) (.k [1] [] [.tmp 1 false,.tmp 3 false] [1,3,4,12,13,14] ⟨trF h0,trivial⟩) ?_))
  refine .block (.loopM (v:=v) (fun y:Sl×Sl×Int×Int×Int×Int×List Ent×Nat=>((fr 38 [(1,(pt 0 0)),(3,(.map (some 1))),(4,(Sl.v 1 y.1)),(12,(Sl.v 1 y.2.1)),(13,(zI y.2.2.1)),(14,(zI y.2.2.2.1))]),(hp 2 [(oC [(zI y.2.2.2.2.1),(.int .u32 y.2.2.2.2.2.1)]),(.map y.2.2.2.2.2.2.1 y.2.2.2.2.2.2.2)]))) (fun w y=>l10860_1 pu n w y.1 y.2.1 y.2.2.1 y.2.2.2.1 y.2.2.2.2.1 y.2.2.2.2.2.1 y.2.2.2.2.2.2.1 y.2.2.2.2.2.2.2) n ⟨(s0,s0,(Int.ofNat (Sl.n s0)),(0:Int),z1,z2,([]:List Ent),0),hm,(.k [1] [] [.tmp 1 false,.tmp 3 false] [1,3,4,12,13,14] ⟨trF h0,trivial⟩)⟩ (fun _=>rfl) ?_)
  rintro w0 ⟨s1,s2,z3,z4,z5,z6,e1,k2⟩ hm
  replace hm:b10860_1 pu n (l10860_1 pu n w0) s1 s2 z3 z4 z5 z6 e1 k2=some v:=hm
  unfold b10860_1 at hm
  refine .then (.rK ?_)
  replace hm:=bb_inv hm;obtain⟨h2,hm⟩:=hm
  refine .ghs (fr 38 [(1,(pt 0 0)),(3,(.map (some 1))),(4,Sl.v 1 s1),(12,Sl.v 1 s2),(13,zI z3),(14,zI z4),(15,(zB (ilt z4 z3)))]) (hp 2 [(oC [zI z5,.int .u32 z6]),(.map e1 k2)]) (.k [1] [] [.tmp 1 false,.tmp 3 false] [1,3,4,12,13,14,15] ⟨trF h2,trivial⟩) ?_
  refine .then ?_
  replace hm:=bb_cases hm;rcases hm with⟨h3,hm⟩ | ⟨h3,hm⟩
  ·refine ifTt (ilt z4 z3) h3 ?_
   refine .skip (.ghs (fr 38 [(1,(pt 0 0)),(3,(.map (some 1))),(4,Sl.v 1 s1),(12,Sl.v 1 s2),(13,zI z3),(14,zI z4)]) (hp 2 [(oC [zI z5,.int .u32 z6]),(.map e1 k2)]) (.k [1] [] [.tmp 1 false,.tmp 3 false] [1,3,4,12,13,14] ⟨trF h2,trivial⟩) ?_)
   refine .join (v:=v) (fun y:Sl×Sl×Int×Int×Int×Int×List Ent×Nat=>((fr 38 [(1,(pt 0 0)),(3,(.map (some 1))),(4,(Sl.v 1 y.1)),(12,(Sl.v 1 y.2.1)),(13,(zI y.2.2.1)),(14,(zI y.2.2.2.1))]),(hp 2 [(oC [(zI y.2.2.2.2.1),(.int .u32 y.2.2.2.2.2.1)]),(.map y.2.2.2.2.2.2.1 y.2.2.2.2.2.2.2)]))) (fun y=>m10860_2 pu n (l10860_1 pu n w0) y.1 y.2.1 y.2.2.1 y.2.2.2.1 y.2.2.2.2.1 y.2.2.2.2.2.1 y.2.2.2.2.2.2.1 y.2.2.2.2.2.2.2) ?_ ?_
   ·rintro⟨s3,s4,z7,z8,z9,z10,e2,k3⟩ hm
    unfold m10860_2 at hm
    refine .rK ?_
    replace hm:=bb_inv hm;obtain⟨h4,hm⟩:=hm
    exact⟨(s3,s4,z7,(wrapF .i64 (Int.add z8 (1:Int))),z9,z10,e2,k3),hm,(.k [1] [] [.tmp 1 false,.tmp 3 false] [1,3,4,12,13,14] ⟨trF h4,trivial⟩)⟩
   ·refine .block (.then ?_)
    replace hm:=oo_inv hm;obtain⟨k4,h5,hm⟩:=hm
    obtain rfl:=toN_some h5
    replace hm:=bb_inv hm;obtain⟨h6,hm⟩:=hm
    replace hm:=oQI hm;obtain⟨x0,h7,hm⟩:=hm
    refine .reg (eD (keep (hp 2 [(oC [zI z5,.int .u32 z6]),(.map e1 k2)]) (bb (an (Nat.blt k4 (Sl.n s2)) true) (some (fpV (k4*1) (Sl.cs s2))) none)) (keep_bb h6) (eD (keep (hp 2 [(oC [zI z5,.int .u32 z6]),(.map e1 k2)]) (nthL (Sl.cs s2) (k4*1))) (keep_eq h7) (eE))) ?_
    refine .ghs (fr 38 [(1,(pt 0 0)),(3,(.map (some 1))),(4,Sl.v 1 s1),(6,zI x0),(12,Sl.v 1 s2),(13,zI z3),(14,(zI (Int.ofNat k4)))]) (hp 2 [(oC [zI z5,.int .u32 z6]),(.map e1 k2)]) (.k [1] [] [.tmp 1 false,.tmp 3 false] [1,3,4,6,12,13,14] ⟨trF h2,trivial⟩) ?_
    refine .then (.rK (.ghs (fr 38 [(1,(pt 0 0)),(3,(.map (some 1))),(4,Sl.v 1 s1),(6,zI x0),(12,Sl.v 1 s2),(13,zI z3),(14,(zI (Int.ofNat k4))),(18,Sl.v 1 s1),(19,(zI (Int.ofNat (Sl.n s1)))),(20,(zI (0:Int)))]) (hp 2 [(oC [zI z5,.int .u32 z6]),(.map e1 k2)]) (.k [1] [] [.tmp 1 false,.tmp 3 false] [1,3,4,6,12,13,14,18,19,20] ⟨trF h2,trivial⟩) ?_))
    refine .block (.loopM (v:=v) (fun y:Sl×Int×Sl×Int×Int×Sl×Int×Int×Int×Int×List Ent×Nat=>((fr 38 [(1,(pt 0 0)),(3,(.map (some 1))),(4,(Sl.v 1 y.1)),(6,(zI y.2.1)),(12,(Sl.v 1 y.2.2.1)),(13,(zI y.2.2.2.1)),(14,(zI y.2.2.2.2.1)),(18,(Sl.v 1 y.2.2.2.2.2.1)),(19,(zI y.2.2.2.2.2.2.1)),(20,(zI y.2.2.2.2.2.2.2.1))]),(hp 2 [(oC [(zI y.2.2.2.2.2.2.2.2.1),(.int .u32 y.2.2.2.2.2.2.2.2.2.1)]),(.map y.2.2.2.2.2.2.2.2.2.2.1 y.2.2.2.2.2.2.2.2.2.2.2)]))) (fun w y=>l10860_3 pu n (l10860_1 pu n w0) w y.1 y.2.1 y.2.2.1 y.2.2.2.1 y.2.2.2.2.1 y.2.2.2.2.2.1 y.2.2.2.2.2.2.1 y.2.2.2.2.2.2.2.1 y.2.2.2.2.2.2.2.2.1 y.2.2.2.2.2.2.2.2.2.1 y.2.2.2.2.2.2.2.2.2.2.1 y.2.2.2.2.2.2.2.2.2.2.2) n ⟨(s1,x0,s2,z3,(Int.ofNat k4),s1,(Int.ofNat (Sl.n s1)),(0:Int),z5,z6,e1,k2),hm,(.k [1] [] [.tmp 1 false,.tmp 3 false] [1,3,4,6,12,13,14,18,19,20] ⟨trF h2,trivial⟩)⟩ (fun _=>rfl) ?_)
    rintro w1 ⟨s5,z11,s6,z12,z13,s7,z14,z15,z16,z17,e3,k5⟩ hm
    replace hm:b10860_3 pu n (l10860_1 pu n w0) (l10860_3 pu n (l10860_1 pu n w0) w1) s5 z11 s6 z12 z13 s7 z14 z15 z16 z17 e3 k5=some v:=hm
    unfold b10860_3 at hm
    refine .then (.rK ?_)
    replace hm:=bb_inv hm;obtain⟨h8,hm⟩:=hm
    refine .ghs (fr 38 [(1,(pt 0 0)),(3,(.map (some 1))),(4,Sl.v 1 s5),(6,zI z11),(12,Sl.v 1 s6),(13,zI z12),(14,zI z13),(18,Sl.v 1 s7),(19,zI z14),(20,zI z15),(21,(zB (ilt z15 z14)))]) (hp 2 [(oC [zI z16,.int .u32 z17]),(.map e3 k5)]) (.k [1] [] [.tmp 1 false,.tmp 3 false] [1,3,4,6,12,13,14,18,19,20,21] ⟨trF h8,trivial⟩) ?_
    refine .then ?_
    replace hm:=bb_cases hm;rcases hm with⟨h9,hm⟩ | ⟨h9,hm⟩
    ·refine ifTt (ilt z15 z14) h9 ?_
     refine .skip (.ghs (fr 38 [(1,(pt 0 0)),(3,(.map (some 1))),(4,Sl.v 1 s5),(6,zI z11),(12,Sl.v 1 s6),(13,zI z12),(14,zI z13),(18,Sl.v 1 s7),(19,zI z14),(20,zI z15)]) (hp 2 [(oC [zI z16,.int .u32 z17]),(.map e3 k5)]) (.k [1] [] [.tmp 1 false,.tmp 3 false] [1,3,4,6,12,13,14,18,19,20] ⟨trF h8,trivial⟩) ?_)
     refine .join (v:=v) (fun y:Sl×Int×Sl×Int×Int×Sl×Int×Int×Int×Int×List Ent×Nat=>((fr 38 [(1,(pt 0 0)),(3,(.map (some 1))),(4,(Sl.v 1 y.1)),(6,(zI y.2.1)),(12,(Sl.v 1 y.2.2.1)),(13,(zI y.2.2.2.1)),(14,(zI y.2.2.2.2.1)),(18,(Sl.v 1 y.2.2.2.2.2.1)),(19,(zI y.2.2.2.2.2.2.1)),(20,(zI y.2.2.2.2.2.2.2.1))]),(hp 2 [(oC [(zI y.2.2.2.2.2.2.2.2.1),(.int .u32 y.2.2.2.2.2.2.2.2.2.1)]),(.map y.2.2.2.2.2.2.2.2.2.2.1 y.2.2.2.2.2.2.2.2.2.2.2)]))) (fun y=>m10860_4 pu n (l10860_1 pu n w0) (l10860_3 pu n (l10860_1 pu n w0) w1) y.1 y.2.1 y.2.2.1 y.2.2.2.1 y.2.2.2.2.1 y.2.2.2.2.2.1 y.2.2.2.2.2.2.1 y.2.2.2.2.2.2.2.1 y.2.2.2.2.2.2.2.2.1 y.2.2.2.2.2.2.2.2.2.1 y.2.2.2.2.2.2.2.2.2.2.1 y.2.2.2.2.2.2.2.2.2.2.2) ?_ ?_
     ·rintro⟨s8,z18,s9,z19,z20,s10,z21,z22,z23,z24,e4,k6⟩ hm
      unfold m10860_4 at hm
      refine .rK ?_
      replace hm:=bb_inv hm;obtain⟨h10,hm⟩:=hm
      exact⟨(s8,z18,s9,z19,z20,s10,z21,(wrapF .i64 (Int.add z22 (1:Int))),z23,z24,e4,k6),hm,(.k [1] [] [.tmp 1 false,.tmp 3 false] [1,3,4,6,12,13,14,18,19,20] ⟨trF h10,trivial⟩)⟩
     ·refine .block (.then ?_)
      replace hm:=oo_inv hm;obtain⟨k7,h11,hm⟩:=hm
      obtain rfl:=toN_some h11
      replace hm:=bb_inv hm;obtain⟨h12,hm⟩:=hm
      replace hm:=oQI hm;obtain⟨x1,h13,hm⟩:=hm
      refine .reg (eD (keep (hp 2 [(oC [zI z16,.int .u32 z17]),(.map e3 k5)]) (bb (an (Nat.blt k7 (Sl.n s7)) true) (some (fpV (k7*1) (Sl.cs s7))) none)) (keep_bb h12) (eD (keep (hp 2 [(oC [zI z16,.int .u32 z17]),(.map e3 k5)]) (nthL (Sl.cs s7) (k7*1))) (keep_eq h13) (eE))) ?_
      refine .ghs (fr 38 [(1,(pt 0 0)),(3,(.map (some 1))),(4,Sl.v 1 s5),(6,zI z11),(8,zI x1),(12,Sl.v 1 s6),(13,zI z12),(14,zI z13),(18,Sl.v 1 s7),(19,zI z14),(20,(zI (Int.ofNat k7)))]) (hp 2 [(oC [zI z16,.int .u32 z17]),(.map e3 k5)]) (.k [1] [] [.tmp 1 false,.tmp 3 false] [1,3,4,6,8,12,13,14,18,19,20] ⟨trF h8,trivial⟩) ?_
      refine .then (.rK (.ghs (fr 38 [(1,(pt 0 0)),(3,(.map (some 1))),(4,Sl.v 1 s5),(6,zI z11),(8,zI x1),(12,Sl.v 1 s6),(13,zI z12),(14,zI z13),(18,Sl.v 1 s7),(19,zI z14),(20,(zI (Int.ofNat k7))),(26,(zB (nt (ieq z11 x1))))]) (hp 2 [(oC [zI z16,.int .u32 z17]),(.map e3 k5)]) (.k [1] [] [.tmp 1 false,.tmp 3 false] [1,3,4,6,8,12,13,14,18,19,20,26] ⟨trF h8,trivial⟩) ?_))
      replace hm:=bb_cases hm;rcases hm with⟨h14,hm⟩ | ⟨h14,hm⟩
      ·refine ifTt (nt (ieq z11 x1)) h14 ?_
       replace hm:=oQI hm;obtain⟨x2,h15,hm⟩:=hm
       replace hm:=oo_inv hm;obtain⟨r0,h16,hm⟩:=hm
       replace hm:=oo_inv hm;obtain⟨x3,h17,hm⟩:=hm
       replace hm:=oo_inv hm;obtain⟨r1,h18,hm⟩:=hm
       refine .reg (eC 5 ((oo (pu 62 [(.agg ⟨[zI z16,.int .u32 z17]⟩),(zI (wrapF .i64 (Int.sub x1 z11)))]) none fun v=>some (v,(hp 2 [(oC [zI z16,.int .u32 z17]),(.map e3 k5)])))) (call_eq h15) (eD (keep (hp 2 [(oC [zI z16,.int .u32 z17]),(.map e3 k5)]) (oo (findE (zI x2) e3 0) none fun r=>oo r (okV false (zI (0:Int)) false) fun p=>pp p fun _ v=>okV false v true)) (look_vv h16 (toI_some h17)) (eC 1 (done (oo (findE (zI x2) e3 0) none fun r=>oo r (some (AHeap.set (hp 2 [(oC [zI z16,.int .u32 z17]),(.map e3 k5)]) 1 (.map (appL e3 [⟨zI x2,(zI (wrapF .i64 (Int.add x3 (1:Int)))),k5⟩]) (k5+1)))) fun p=>pp p fun j _=>some (AHeap.set (hp 2 [(oC [zI z16,.int .u32 z17]),(.map e3 k5)]) 1 (.map (modL (fun e=>⟨zI x2,(zI (wrapF .i64 (Int.add x3 (1:Int)))),e.born⟩) j e3) k5))) undef) (upd_eq (H2:=(hp 2 [(oC [zI z16,.int .u32 z17]),(.map (updE (zI x2) (zI (wrapF .i64 (Int.add x3 (1:Int)))) k5 e3 r1) (updC k5 r1))])) h18) (eE)))) ?_
       replace hm:=bb_inv hm;obtain⟨h19,hm⟩:=hm
       exact⟨(s5,z11,s6,z12,z13,s7,z14,(Int.ofNat k7),z16,z17,(updE (zI x2) (zI (wrapF .i64 (Int.add x3 (1:Int)))) k5 e3 r1),(updC k5 r1)),hm,(.k [1] [] [.tmp 1 false,.tmp 3 false] [1,3,4,6,12,13,14,18,19,20] ⟨trF h19,trivial⟩)⟩
      ·refine ifFt (nt (ieq z11 x1)) h14 ?_
       refine .skip ?_
       exact⟨(s5,z11,s6,z12,z13,s7,z14,(Int.ofNat k7),z16,z17,e3,k5),hm,(.k [1] [] [.tmp 1 false,.tmp 3 false] [1,3,4,6,12,13,14,18,19,20] ⟨trF h8,trivial⟩)⟩
    ·refine ifFt (ilt z15 z14) h9 ?_
     refine .exit ?_
     exact⟨(s5,s6,z12,z13,z16,z17,e3,k5),hm,(.k [1] [] [.tmp 1 false,.tmp 3 false] [1,3,4,12,13,14] ⟨trF h8,trivial⟩)⟩
  ·refine ifFt (ilt z4 z3) h3 ?_
   refine .exit ?_
   exact⟨(e1,k2),hm,(.k [1] [] [.tmp 3 false] [3] ⟨trF h2,trivial⟩)⟩
theorem r10860 {call:CallF} (pu:PureF) (n:Nat) (hcall:call=callP tabs isP pu (inl pu)) {args:LV} {os:List AObj} {z:Value} (ha:args.length=1) (hk:os.length=0) (hpl:∀ o∈os,plainO o) (hm:m10860 pu n (args++os.map encO)=some z):args.length≤38∧Run tt call (tabs.length+0) c86_38 (Fr.made 38 args) (subHeap tabs os) (FinO tt tabs.length 0 [.tmp 2] z):=by
 subst hcall
 have hq:=len_cons ha;clear ha;obtain⟨a0,args,rfl,ha⟩:=hq
 obtain rfl:=len_nil ha
 obtain rfl:=len_nil hk
 replace hm:m10860 pu n [a0]=some z:=hm
 unfold m10860 at hm
 replace hm:(oo (vAgg a0) none fun l0=>(ll l0 none fun v0 l0=>(ll l0 none fun v1 l0=>(ll l0 (oo (toI .i64 v0) none fun x0=>(oo (toI .u32 v1) none fun x1=>(m10860_ pu n x0 x1))) fun _ _=>none))))=some z:=hm
 replace hm:=inv_vAgg hm;obtain⟨l0,rfl,hm⟩:=hm
 replace hm:=ll_uncons hm;obtain⟨v0,l1618_0,rfl,hm⟩:=hm
 replace hm:=ll_uncons hm;obtain⟨v1,l1618_1,rfl,hm⟩:=hm
 replace hm:=ll_end hm;obtain⟨rfl,hm⟩:=hm
 replace hm:=inv_toI hm;obtain⟨x0,rfl,hm⟩:=hm
 replace hm:=inv_toI hm;obtain⟨x1,rfl,hm⟩:=hm
 refine⟨by simp,?_⟩
 exact .same (F':=(fr 38 [(0,(.agg ⟨[zI x0,.int .u32 x1]⟩))])) (H':=(hp 0 [])) (by kernel_rfl) (by kernel_rfl) (q10860 pu n x0 x1 hm)
def m10810_0 (pu:PureF) (n:Nat) (z1:Int) (s0:Sl) (z2:Int):OV:=
 (some (.tuple ⟨[(.bool true),(.agg ⟨[.int .i64 z1,Sl.v 1 s0]⟩),(.agg ⟨[.int .i64 z2]⟩)]⟩))
def m10810_2 (pu:PureF) (n:Nat) (ih0:Int→Int→Int→Sl→Int→Int→Int→OV) (z1 z2:Int) (b0:Bool) (z3:Int) (s0:Sl) (z4 z5 z6:Int):OV:=
 (bb b0 (some (.tuple ⟨[(.bool false),(.agg ⟨[.int .i64 z3,Sl.v 1 s0]⟩),(.agg ⟨[.int .i64 z4]⟩)]⟩)) (ih0 z1 (wrapF .i64 (Int.add z2 (1:Int))) z3 s0 z4 z5 z6))
def b10810_1 (pu:PureF) (n:Nat) (ih0:Int→Int→Int→Sl→Int→Int→Int→OV) (z1 z2 z3:Int) (s0:Sl) (z4 z5 z6:Int):OV:=
 (bb (nt (ilt z5 (wrapF .i64 (Int.add z2 z1)))) (oo (toN z2) none fun k1=>(oo (pu 82 [(.agg ⟨[.int .i64 z5,(.int .u32 (aor .u32 z6 (shlI .u32 (1:Int) k1)))]⟩)]) none fun v0=>(oo (vBool v0) none fun b0=>(bb b0 (oo (pu 10810 [(.agg ⟨[.int .i64 z5,(.int .u32 (aor .u32 z6 (shlI .u32 (1:Int) k1)))]⟩),(.int .i64 (wrapF .i64 (Int.add (Int.ofNat k1) (1:Int)))),(.int .i64 (wrapF .i64 (Int.sub z1 (1:Int)))),(.func (.func 82) ⟨[]⟩ ⟨[]⟩),(.func (.func 83) ⟨[]⟩ ⟨[(.pointer (some ⟨0,0,none⟩)),(.pointer (some ⟨1,0,none⟩))]⟩),(.agg ⟨[.int .i64 z3,Sl.v 1 s0]⟩),(.agg ⟨[.int .i64 z4]⟩)]) none fun v1=>(oo (vTup v1) none fun l0=>(ll l0 none fun v2 l0=>(ll l0 none fun v3 l0=>(ll l0 none fun v4 l0=>(ll l0 (oo (vBool v2) none fun b1=>(oo (vAgg v3) none fun l1=>(ll l1 none fun v5 l1=>(ll l1 none fun v6 l1=>(ll l1 (oo (toI .i64 v5) none fun x0=>(oo (toSl 1 v6) none fun s1=>(oo (vAgg v4) none fun l2=>(ll l2 none fun v7 l2=>(ll l2 (oo (toI .i64 v7) none fun x1=>(m10810_2 pu n ih0 z1 (Int.ofNat k1) (nt b1) x0 s1 x1 z5 z6)) fun _ _=>none))))) fun _ _=>none))))) fun _ _=>none)))))) (m10810_2 pu n ih0 z1 (Int.ofNat k1) false z3 s0 z4 z5 z6))))) (m10810_0 pu n z3 s0 z4))
def l10810_1 (pu:PureF) (n w:Nat):Int→Int→Int→Sl→Int→Int→Int→OV:=
 Nat.rec (motive:=fun _=>Int→Int→Int→Sl→Int→Int→Int→OV) (fun _ _ _ _ _ _ _=>none) (fun _ ih0=>b10810_1 pu n ih0) w
def m10810_ (pu:PureF) (n:Nat) (z1 z2 z3 z4 z5:Int) (s0:Sl) (z6:Int):OV:=
 (bb (ieq z4 (0:Int)) (oo (pu 10830 [(.agg ⟨[.int .i64 z1,.int .u32 z2]⟩),(.pointer (some ⟨0,0,none⟩)),(.pointer (some ⟨1,0,none⟩)),(.agg ⟨[.int .i64 z5,Sl.v 1 s0]⟩),(.agg ⟨[.int .i64 z6]⟩)]) none fun v0=>(oo (vTup v0) none fun l0=>(ll l0 none fun v1 l0=>(ll l0 none fun v2 l0=>(ll l0 none fun v3 l0=>(ll l0 (oo (vBool v1) none fun b0=>(oo (vAgg v2) none fun l1=>(ll l1 none fun v4 l1=>(ll l1 none fun v5 l1=>(ll l1 (oo (toI .i64 v4) none fun x0=>(oo (toSl 1 v5) none fun s1=>(oo (vAgg v3) none fun l2=>(ll l2 none fun v6 l2=>(ll l2 (oo (toI .i64 v6) none fun x1=>(some (.tuple ⟨[(.bool b0),(.agg ⟨[.int .i64 x0,Sl.v 1 s1]⟩),(.agg ⟨[.int .i64 x1]⟩)]⟩))) fun _ _=>none))))) fun _ _=>none))))) fun _ _=>none)))))) (l10810_1 pu n n z4 z3 z5 s0 z6 z1 z2))
def m10810 (pu:PureF) (n:Nat) (args:LV):OV:=
 (ll args none fun a0 args=>(ll args none fun a1 args=>(ll args none fun a2 args=>(ll args none fun a3 args=>(ll args none fun a4 args=>(ll args none fun o0 args=>(ll args none fun o1 args=>(ll args (oo (vAgg a0) none fun l0=>(ll l0 none fun v0 l0=>(ll l0 none fun v1 l0=>(ll l0 (oo (toI .i64 v0) none fun x0=>(oo (toI .u32 v1) none fun x1=>(oo (toI .i64 a1) none fun x2=>(oo (toI .i64 a2) none fun x3=>(oo (toFn 82 0 a3) none fun l1=>(ll l1 (oo (toFn 83 0 a4) none fun l2=>(ll l2 none fun v2 l2=>(ll l2 none fun v3 l2=>(ll l2 (bb (isPt v2 0 0) (bb (isPt v3 1 0) (oo (vAgg o0) none fun l3=>(ll l3 none fun v4 l3=>(ll l3 none fun v5 l3=>(ll l3 (oo (toI .i64 v4) none fun x4=>(oo (toSl 1 v5) none fun s0=>(oo (vAgg o1) none fun l4=>(ll l4 none fun v6 l4=>(ll l4 (oo (toI .i64 v6) none fun x5=>(m10810_ pu n x0 x1 x2 x3 x4 s0 x5)) fun _ _=>none))))) fun _ _=>none)))) none) none) fun _ _=>none)))) fun _ _=>none)))))) fun _ _=>none)))) fun _ _=>none))))))))
theorem w10810_0 (pu:PureF) (n:Nat) (z1:Int) (s0:Sl) (z2:Int) {v:Value} (hm:m10810_0 pu n z1 s0 z2=some v):Run tt (callP tabs isP pu (inl pu)) 2 c81_27 (fr 48 []) (hp 2 [(oC [zI z1,Sl.v 1 s0]),(oC [zI z2])]) (FinO tt 0 2 [.tmp 10] v):=by
 unfold m10810_0 at hm
 refine .then (.rK (.ghs (fr 48 [(10,zB true)]) (hp 2 [(oC [zI z1,Sl.v 1 s0]),(oC [zI z2])]) (.k0 [false,false] [] [10]) ?_))
 refine .ghs (fr 48 [(10,zB true)]) (hp 2 [(oC [zI z1,Sl.v 1 s0]),(oC [zI z2])]) (.k0 [false,false] [] [10]) ?_
 refine .ret ?_
 exact finO_ret (zB true) [(oC [zI z1,Sl.v 1 s0]),(oC [zI z2])] (by kernel_rfl) hm (Nat.le_of_ble_eq_true rfl) (ooAt_cons (pO_c _) (ooAt_cons (pO_c _) ooAt_nil))
theorem q10810 (pu:PureF) (n:Nat) (z1 z2 z3 z4 z5:Int) (s0:Sl) (z6:Int) {v:Value} (hm:m10810_ pu n z1 z2 z3 z4 z5 s0 z6=some v):Run tt (callP tabs isP pu (inl pu)) 2 c81_30 (fr 48 [(0,(.agg ⟨[zI z1,.int .u32 z2]⟩)),(1,zI z3),(2,zI z4),(3,(.func (.func 82) ⟨[]⟩ ⟨[]⟩)),(4,(.func (.func 83) ⟨[]⟩ ⟨[(pt 0 0),pt 1 0]⟩))]) (hp 2 [(oC [zI z5,Sl.v 1 s0]),(oC [zI z6])]) (FinO tt 0 2 [.tmp 10] v):=by
 unfold m10810_ at hm
 refine .then (.rK (.ghs (fr 48 [(1,zI z3),(2,zI z4),(3,(.func (.func 82) ⟨[]⟩ ⟨[]⟩)),(4,(.func (.func 83) ⟨[]⟩ ⟨[(pt 0 0),pt 1 0]⟩)),(5,(pt 2 0))]) (hp 3 [(oC [zI z5,Sl.v 1 s0]),(oC [zI z6]),(oC [zI z1,.int .u32 z2])]) (.k0 [false,false] [.tmp 5 false] [1,2,3,4,5]) ?_))
 refine .then (.then (.rK (.ghs (fr 48 [(1,zI z3),(2,zI z4),(3,(.func (.func 82) ⟨[]⟩ ⟨[]⟩)),(4,(.func (.func 83) ⟨[]⟩ ⟨[(pt 0 0),pt 1 0]⟩)),(5,(pt 2 0)),(14,(zB (ieq z4 (0:Int))))]) (hp 3 [(oC [zI z5,Sl.v 1 s0]),(oC [zI z6]),(oC [zI z1,.int .u32 z2])]) (.k0 [false,false] [.tmp 5 false] [1,2,3,4,5,14]) ?_)))
 replace hm:=bb_cases hm;rcases hm with⟨h0,hm⟩ | ⟨h0,hm⟩
 ·refine ifTt (ieq z4 (0:Int)) h0 ?_
  refine .then ?_
  replace hm:=oo_inv hm;obtain⟨v0,h1,hm⟩:=hm
  replace hm:=inv_vTup hm;obtain⟨l0,rfl,hm⟩:=hm
  replace hm:=ll_uncons hm;obtain⟨v1,l2873_0,rfl,hm⟩:=hm
  replace hm:=ll_uncons hm;obtain⟨v2,l2873_1,rfl,hm⟩:=hm
  replace hm:=ll_uncons hm;obtain⟨v3,l2873_2,rfl,hm⟩:=hm
  replace hm:=ll_end hm;obtain⟨rfl,hm⟩:=hm
  replace hm:=inv_vBool hm;obtain⟨b0,rfl,hm⟩:=hm
  replace hm:=inv_vAgg hm;obtain⟨l1,rfl,hm⟩:=hm
  replace hm:=ll_uncons hm;obtain⟨v4,l2880_0,rfl,hm⟩:=hm
  replace hm:=ll_uncons hm;obtain⟨v5,l2880_1,rfl,hm⟩:=hm
  replace hm:=ll_end hm;obtain⟨rfl,hm⟩:=hm
  replace hm:=inv_toI hm;obtain⟨x0,rfl,hm⟩:=hm
  replace hm:=inv_toSl hm;obtain⟨s1,rfl,hm⟩:=hm
  replace hm:=inv_vAgg hm;obtain⟨l2,rfl,hm⟩:=hm
  replace hm:=ll_uncons hm;obtain⟨v6,l2888_0,rfl,hm⟩:=hm
  replace hm:=ll_end hm;obtain⟨rfl,hm⟩:=hm
  replace hm:=inv_toI hm;obtain⟨x1,rfl,hm⟩:=hm
  refine .reg (eC 2 (objG tabs [[none,none],[none],[none]] 3 [.tmp 1 false,.tmp 2 false] [false,false] (pu 10830) [(.agg ⟨[zI z1,.int .u32 z2]⟩),(pt 0 0),pt 1 0] (hp 3 [(oC [zI z5,Sl.v 1 s0]),(oC [zI z6]),(oC [zI z1,.int .u32 z2])])) (objG_eq (as:=[(.agg ⟨[zI z1,.int .u32 z2]⟩),(pt 0 0),pt 1 0]) (H1:=(hp 3 [(oC [zI z5,Sl.v 1 s0]),(oC [zI z6]),(oC [zI z1,.int .u32 z2])])) (gvAL_c (gvA_a (gvL_c gv_n (gvL_c gv_n gvL_n))) (gvAL_c (gvA_1 gv_n) (gvAL_c (gvA_1 gv_n) gvAL_n))) (objF_eq (H2:=(hp 3 [(oC [zI x0,Sl.v 1 s1]),(oC [zI x1]),(oC [zI z1,.int .u32 z2])])) (v:=(zB b0)) (v':=(zB b0)) [some 0,some 1] [(false,some 0),(false,some 1)] [(oC [zI z5,Sl.v 1 s0]),(oC [zI z6])] [(.agg ⟨[zI z1,.int .u32 z2]⟩),(pt 0 0),pt 1 0] [(.agg ⟨[zI x0,Sl.v 1 s1]⟩),(.agg ⟨[zI x1]⟩)] [(oC [zI x0,Sl.v 1 s1]),(oC [zI x1])] [some 0,some 1,none] [(false,(oC [zI x0,Sl.v 1 s1])),(false,(oC [zI x1]))] [(oC [zI x0,Sl.v 1 s1]),(oC [zI x1])] (by kernel_rfl) (mapO_c (by kernel_rfl) (mapO_c (by kernel_rfl) mapO_n)) (Eq.trans (by kernel_rfl) h1) (mapO_c rfl (mapO_c rfl mapO_n)) (mapO_c (by kernel_rfl) (mapO_c (by kernel_rfl) mapO_n)))) (eE)) ?_
  refine .ghs (fr 48 [(10,zB b0)]) (hp 2 [(oC [zI x0,Sl.v 1 s1]),(oC [zI x1])]) (.k0 [false,false] [] [10]) ?_
  refine .ghs (fr 48 [(10,zB b0)]) (hp 2 [(oC [zI x0,Sl.v 1 s1]),(oC [zI x1])]) (.k0 [false,false] [] [10]) ?_
  refine .ret ?_
  exact finO_ret (zB b0) [(oC [zI x0,Sl.v 1 s1]),(oC [zI x1])] (by kernel_rfl) hm (Nat.le_of_ble_eq_true rfl) (ooAt_cons (pO_c _) (ooAt_cons (pO_c _) ooAt_nil))
 ·refine ifFt (ieq z4 (0:Int)) h0 ?_
  refine .skip (.ghs (fr 48 [(1,zI z3),(2,zI z4),(3,(.func (.func 82) ⟨[]⟩ ⟨[]⟩)),(4,(.func (.func 83) ⟨[]⟩ ⟨[(pt 0 0),pt 1 0]⟩)),(5,(pt 2 0))]) (hp 3 [(oC [zI z5,Sl.v 1 s0]),(oC [zI z6]),(oC [zI z1,.int .u32 z2])]) (.k0 [false,false] [.tmp 5 false] [1,2,3,4,5]) ?_)
  refine .join (v:=v) (fun y:Int×Sl×Int=>((fr 48 []),(hp 2 [(oC [(zI y.1),(Sl.v 1 y.2.1)]),(oC [(zI y.2.2)])]))) (fun y=>m10810_0 pu n y.1 y.2.1 y.2.2) ?_ ?_
  ·rintro⟨z7,s2,z8⟩ hm
   exact w10810_0 pu n z7 s2 z8 hm
  ·refine .then (.rK (.ghs (fr 48 [(2,zI z4),(3,(.func (.func 82) ⟨[]⟩ ⟨[]⟩)),(4,(.func (.func 83) ⟨[]⟩ ⟨[(pt 0 0),pt 1 0]⟩)),(5,(pt 2 0)),(11,zI z3)]) (hp 3 [(oC [zI z5,Sl.v 1 s0]),(oC [zI z6]),(oC [zI z1,.int .u32 z2])]) (.k0 [false,false] [.tmp 5 false] [2,3,4,5,11]) ?_))
   refine .block (.loopM (v:=v) (fun y:Int×Int×Int×Sl×Int×Int×Int=>((fr 48 [(2,(zI y.1)),(3,(.func (.func 82) ⟨[]⟩ ⟨[]⟩)),(4,(.func (.func 83) ⟨[]⟩ ⟨[(pt 0 0),pt 1 0]⟩)),(5,(pt 2 0)),(11,(zI y.2.1))]),(hp 3 [(oC [(zI y.2.2.1),(Sl.v 1 y.2.2.2.1)]),(oC [(zI y.2.2.2.2.1)]),(oC [(zI y.2.2.2.2.2.1),(.int .u32 y.2.2.2.2.2.2)])]))) (fun w y=>l10810_1 pu n w y.1 y.2.1 y.2.2.1 y.2.2.2.1 y.2.2.2.2.1 y.2.2.2.2.2.1 y.2.2.2.2.2.2) n ⟨(z4,z3,z5,s0,z6,z1,z2),hm,(.k0 [false,false] [.tmp 5 false] [2,3,4,5,11])⟩ (fun _=>rfl) ?_)
   rintro w0 ⟨z9,z10,z11,s3,z12,z13,z14⟩ hm
   replace hm:b10810_1 pu n (l10810_1 pu n w0) z9 z10 z11 s3 z12 z13 z14=some v:=hm
   unfold b10810_1 at hm
   refine .then (.then (.rK (.ghs (fr 48 [(2,zI z9),(3,(.func (.func 82) ⟨[]⟩ ⟨[]⟩)),(4,(.func (.func 83) ⟨[]⟩ ⟨[(pt 0 0),pt 1 0]⟩)),(5,(pt 2 0)),(11,zI z10),(24,(zB (nt (ilt z13 (wrapF .i64 (Int.add z10 z9))))))]) (hp 3 [(oC [zI z11,Sl.v 1 s3]),(oC [zI z12]),(oC [zI z13,.int .u32 z14])]) (.k0 [false,false] [.tmp 5 false] [2,3,4,5,11,24]) ?_)))
   replace hm:=bb_cases hm;rcases hm with⟨h2,hm⟩ | ⟨h2,hm⟩
   ·refine ifTt (nt (ilt z13 (wrapF .i64 (Int.add z10 z9)))) h2 ?_
    refine .skip (.ghs (fr 48 [(2,zI z9),(3,(.func (.func 82) ⟨[]⟩ ⟨[]⟩)),(4,(.func (.func 83) ⟨[]⟩ ⟨[(pt 0 0),pt 1 0]⟩)),(5,(pt 2 0)),(11,zI z10)]) (hp 3 [(oC [zI z11,Sl.v 1 s3]),(oC [zI z12]),(oC [zI z13,.int .u32 z14])]) (.k0 [false,false] [.tmp 5 false] [2,3,4,5,11]) ?_)
    refine .then (.block (.then (.rK (.ghs (fr 48 [(2,zI z9),(3,(.func (.func 82) ⟨[]⟩ ⟨[]⟩)),(4,(.func (.func 83) ⟨[]⟩ ⟨[(pt 0 0),pt 1 0]⟩)),(5,(pt 2 0)),(11,zI z10),(12,(pt 3 0))]) (hp 4 [(oC [zI z11,Sl.v 1 s3]),(oC [zI z12]),(oC [zI z13,.int .u32 z14]),(oC [zI z13,.int .u32 z14])]) (.k0 [false,false] [.tmp 5 false,.tmp 12 false] [2,3,4,5,11,12]) ?_))))
    refine .then ?_
    replace hm:=oo_inv hm;obtain⟨k1,h3,hm⟩:=hm
    obtain rfl:=toN_some h3
    refine .rK (.ghs (fr 48 [(2,zI z9),(3,(.func (.func 82) ⟨[]⟩ ⟨[]⟩)),(4,(.func (.func 83) ⟨[]⟩ ⟨[(pt 0 0),pt 1 0]⟩)),(5,(pt 2 0)),(11,(zI (Int.ofNat k1))),(12,(pt 3 0))]) (hp 4 [(oC [zI z11,Sl.v 1 s3]),(oC [zI z12]),(oC [zI z13,.int .u32 z14]),(oC [zI z13,(.int .u32 (aor .u32 z14 (shlI .u32 (1:Int) k1)))])]) (.k0 [false,false] [.tmp 5 false,.tmp 12 false] [2,3,4,5,11,12]) ?_)
    refine .join (v:=v) (fun y:Int×Int×Bool×Int×Sl×Int×Int×Int=>((fr 48 [(2,(zI y.1)),(3,(.func (.func 82) ⟨[]⟩ ⟨[]⟩)),(4,(.func (.func 83) ⟨[]⟩ ⟨[(pt 0 0),pt 1 0]⟩)),(5,(pt 2 0)),(11,(zI y.2.1)),(47,(zB y.2.2.1))]),(hp 3 [(oC [(zI y.2.2.2.1),(Sl.v 1 y.2.2.2.2.1)]),(oC [(zI y.2.2.2.2.2.1)]),(oC [(zI y.2.2.2.2.2.2.1),(.int .u32 y.2.2.2.2.2.2.2)])]))) (fun y=>m10810_2 pu n (l10810_1 pu n w0) y.1 y.2.1 y.2.2.1 y.2.2.2.1 y.2.2.2.2.1 y.2.2.2.2.2.1 y.2.2.2.2.2.2.1 y.2.2.2.2.2.2.2) ?_ ?_
    ·rintro⟨z15,z16,b1,z17,s4,z18,z19,z20⟩ hm
     unfold m10810_2 at hm
     replace hm:=bb_cases hm;rcases hm with⟨h4,hm⟩ | ⟨h4,hm⟩
     ·refine .ifT b1 (by kernel_rfl) h4 ?_
      refine .then (.rK (.ghs (fr 48 [(10,zB false)]) (hp 2 [(oC [zI z17,Sl.v 1 s4]),(oC [zI z18])]) (.k0 [false,false] [] [10]) ?_))
      refine .ghs (fr 48 [(10,zB false)]) (hp 2 [(oC [zI z17,Sl.v 1 s4]),(oC [zI z18])]) (.k0 [false,false] [] [10]) ?_
      refine .ret ?_
      exact finO_ret (zB false) [(oC [zI z17,Sl.v 1 s4]),(oC [zI z18])] (by kernel_rfl) hm (Nat.le_of_ble_eq_true rfl) (ooAt_cons (pO_c _) (ooAt_cons (pO_c _) ooAt_nil))
     ·refine .ifF b1 (by kernel_rfl) h4 ?_
      refine .skip (.ghs (fr 48 [(2,zI z15),(3,(.func (.func 82) ⟨[]⟩ ⟨[]⟩)),(4,(.func (.func 83) ⟨[]⟩ ⟨[(pt 0 0),pt 1 0]⟩)),(5,(pt 2 0)),(11,zI z16)]) (hp 3 [(oC [zI z17,Sl.v 1 s4]),(oC [zI z18]),(oC [zI z19,.int .u32 z20])]) (.k0 [false,false] [.tmp 5 false] [2,3,4,5,11]) ?_)
      refine .rK ?_
      exact⟨(z15,(wrapF .i64 (Int.add z16 (1:Int))),z17,s4,z18,z19,z20),hm,(.k0 [false,false] [.tmp 5 false] [2,3,4,5,11])⟩
    ·replace hm:=oQB hm;obtain⟨b2,h5,hm⟩:=hm
     replace hm:=bb_cases hm;rcases hm with⟨h6,hm⟩ | ⟨h6,hm⟩
     ·replace hm:=oo_inv hm;obtain⟨v7,h7,hm⟩:=hm
      replace hm:=inv_vTup hm;obtain⟨l3,rfl,hm⟩:=hm
      replace hm:=ll_uncons hm;obtain⟨v8,l3563_0,rfl,hm⟩:=hm
      replace hm:=ll_uncons hm;obtain⟨v9,l3563_1,rfl,hm⟩:=hm
      replace hm:=ll_uncons hm;obtain⟨v10,l3563_2,rfl,hm⟩:=hm
      replace hm:=ll_end hm;obtain⟨rfl,hm⟩:=hm
      replace hm:=inv_vBool hm;obtain⟨b3,rfl,hm⟩:=hm
      replace hm:=inv_vAgg hm;obtain⟨l4,rfl,hm⟩:=hm
      replace hm:=ll_uncons hm;obtain⟨v11,l3570_0,rfl,hm⟩:=hm
      replace hm:=ll_uncons hm;obtain⟨v12,l3570_1,rfl,hm⟩:=hm
      replace hm:=ll_end hm;obtain⟨rfl,hm⟩:=hm
      replace hm:=inv_toI hm;obtain⟨x2,rfl,hm⟩:=hm
      replace hm:=inv_toSl hm;obtain⟨s5,rfl,hm⟩:=hm
      replace hm:=inv_vAgg hm;obtain⟨l5,rfl,hm⟩:=hm
      replace hm:=ll_uncons hm;obtain⟨v13,l3578_0,rfl,hm⟩:=hm
      replace hm:=ll_end hm;obtain⟨rfl,hm⟩:=hm
      replace hm:=inv_toI hm;obtain⟨x3,rfl,hm⟩:=hm
      refine .reg (eC 2 ((oo (pu 82 [(.agg ⟨[zI z13,(.int .u32 (aor .u32 z14 (shlI .u32 (1:Int) k1)))]⟩)]) none fun v=>some (v,(hp 4 [(oC [zI z11,Sl.v 1 s3]),(oC [zI z12]),(oC [zI z13,.int .u32 z14]),(oC [zI z13,(.int .u32 (aor .u32 z14 (shlI .u32 (1:Int) k1)))])])))) (show _=some ((zB true),_) from (by have hz:(oo (pu 82 [(.agg ⟨[zI z13,(.int .u32 (aor .u32 z14 (shlI .u32 (1:Int) k1)))]⟩)]) none fun v=>some (v,(hp 4 [(oC [zI z11,Sl.v 1 s3]),(oC [zI z12]),(oC [zI z13,.int .u32 z14]),(oC [zI z13,(.int .u32 (aor .u32 z14 (shlI .u32 (1:Int) k1)))])])))=some ((zB b2),(hp 4 [(oC [zI z11,Sl.v 1 s3]),(oC [zI z12]),(oC [zI z13,.int .u32 z14]),(oC [zI z13,(.int .u32 (aor .u32 z14 (shlI .u32 (1:Int) k1)))])])):=(call_eq h5);rw[h6] at hz;exact hz)) (eC 8 (objG tabs [[none,none],[none],[none],[none],[none]] 5 [.cap 4 0 false,.cap 4 1 false] [false,false] (pu 10810) [(.agg ⟨[zI z13,(.int .u32 (aor .u32 z14 (shlI .u32 (1:Int) k1)))]⟩),(zI (wrapF .i64 (Int.add (Int.ofNat k1) (1:Int)))),(zI (wrapF .i64 (Int.sub z9 (1:Int)))),(.func (.func 82) ⟨[]⟩ ⟨[]⟩),(.func (.func 83) ⟨[]⟩ ⟨[(pt 0 0),pt 1 0]⟩)] (hp 4 [(oC [zI z11,Sl.v 1 s3]),(oC [zI z12]),(oC [zI z13,.int .u32 z14]),(oC [zI z13,(.int .u32 (aor .u32 z14 (shlI .u32 (1:Int) k1)))])])) (objG_eq (as:=[(.agg ⟨[zI z13,(.int .u32 (aor .u32 z14 (shlI .u32 (1:Int) k1)))]⟩),(zI (wrapF .i64 (Int.add (Int.ofNat k1) (1:Int)))),(zI (wrapF .i64 (Int.sub z9 (1:Int)))),(.func (.func 82) ⟨[]⟩ ⟨[]⟩),(.func (.func 83) ⟨[]⟩ ⟨[(pt 0 0),pt 1 0]⟩)]) (H1:=(hp 4 [(oC [zI z11,Sl.v 1 s3]),(oC [zI z12]),(oC [zI z13,.int .u32 z14]),(oC [zI z13,(.int .u32 (aor .u32 z14 (shlI .u32 (1:Int) k1)))])])) (gvAL_c (gvA_a (gvL_c gv_n (gvL_c gv_n gvL_n))) (gvAL_c (gvA_1 gv_n) (gvAL_c (gvA_1 gv_n) (gvAL_c (gvA_1 gv_n) (gvAL_c (gvA_1 gv_n) gvAL_n))))) (objF_eq (H2:=(hp 4 [(oC [zI x2,Sl.v 1 s5]),(oC [zI x3]),(oC [zI z13,.int .u32 z14]),(oC [zI z13,(.int .u32 (aor .u32 z14 (shlI .u32 (1:Int) k1)))])])) (v:=(zB b3)) (v':=(zB b3)) [some 0,some 1] [(false,some 0),(false,some 1)] [(oC [zI z11,Sl.v 1 s3]),(oC [zI z12])] [(.agg ⟨[zI z13,(.int .u32 (aor .u32 z14 (shlI .u32 (1:Int) k1)))]⟩),(zI (wrapF .i64 (Int.add (Int.ofNat k1) (1:Int)))),(zI (wrapF .i64 (Int.sub z9 (1:Int)))),(.func (.func 82) ⟨[]⟩ ⟨[]⟩),(.func (.func 83) ⟨[]⟩ ⟨[(pt 0 0),pt 1 0]⟩)] [(.agg ⟨[zI x2,Sl.v 1 s5]⟩),(.agg ⟨[zI x3]⟩)] [(oC [zI x2,Sl.v 1 s5]),(oC [zI x3])] [some 0,some 1,none,none] [(false,(oC [zI x2,Sl.v 1 s5])),(false,(oC [zI x3]))] [(oC [zI x2,Sl.v 1 s5]),(oC [zI x3])] (by kernel_rfl) (mapO_c (by kernel_rfl) (mapO_c (by kernel_rfl) mapO_n)) (Eq.trans (by kernel_rfl) h7) (mapO_c rfl (mapO_c rfl mapO_n)) (mapO_c (by kernel_rfl) (mapO_c (by kernel_rfl) mapO_n)))) (eE))) ?_
      exact⟨(z9,(Int.ofNat k1),(nt b3),x2,s5,x3,z13,z14),hm,(.k0 [false,false] [.tmp 5 false] [2,3,4,5,11,47])⟩
     ·refine .reg (eC 2 ((oo (pu 82 [(.agg ⟨[zI z13,(.int .u32 (aor .u32 z14 (shlI .u32 (1:Int) k1)))]⟩)]) none fun v=>some (v,(hp 4 [(oC [zI z11,Sl.v 1 s3]),(oC [zI z12]),(oC [zI z13,.int .u32 z14]),(oC [zI z13,(.int .u32 (aor .u32 z14 (shlI .u32 (1:Int) k1)))])])))) (show _=some ((zB false),_) from (by have hz:(oo (pu 82 [(.agg ⟨[zI z13,(.int .u32 (aor .u32 z14 (shlI .u32 (1:Int) k1)))]⟩)]) none fun v=>some (v,(hp 4 [(oC [zI z11,Sl.v 1 s3]),(oC [zI z12]),(oC [zI z13,.int .u32 z14]),(oC [zI z13,(.int .u32 (aor .u32 z14 (shlI .u32 (1:Int) k1)))])])))=some ((zB b2),(hp 4 [(oC [zI z11,Sl.v 1 s3]),(oC [zI z12]),(oC [zI z13,.int .u32 z14]),(oC [zI z13,(.int .u32 (aor .u32 z14 (shlI .u32 (1:Int) k1)))])])):=(call_eq h5);rw[h6] at hz;exact hz)) (eE)) ?_
      exact⟨(z9,(Int.ofNat k1),false,z11,s3,z12,z13,z14),hm,(.k0 [false,false] [.tmp 5 false] [2,3,4,5,11,47])⟩
   ·refine ifFt (nt (ilt z13 (wrapF .i64 (Int.add z10 z9)))) h2 ?_
    refine .exit ?_
    exact⟨(z11,s3,z12),hm,(.k0 [false,false] [] [])⟩
theorem r10810 {call:CallF} (pu:PureF) (n:Nat) (hcall:call=callP tabs isP pu (inl pu)) {args:LV} {os:List AObj} {z:Value} (ha:args.length=5) (hk:os.length=2) (hpl:∀ o∈os,plainO o) (hm:m10810 pu n (args++os.map encO)=some z):args.length≤48∧Run tt call (tabs.length+2) c81_30 (Fr.made 48 args) (subHeap tabs os) (FinO tt tabs.length 2 [.tmp 10] z):=by
 subst hcall
 have hq:=len_cons ha;clear ha;obtain⟨a0,args,rfl,ha⟩:=hq
 have hq:=len_cons ha;clear ha;obtain⟨a1,args,rfl,ha⟩:=hq
 have hq:=len_cons ha;clear ha;obtain⟨a2,args,rfl,ha⟩:=hq
 have hq:=len_cons ha;clear ha;obtain⟨a3,args,rfl,ha⟩:=hq
 have hq:=len_cons ha;clear ha;obtain⟨a4,args,rfl,ha⟩:=hq
 obtain rfl:=len_nil ha
 have hq:=len_cons hk;clear hk;obtain⟨b0,os,rfl,hk⟩:=hq
 have hp0:plainO b0:=hpl b0 (by simp)
 have hq:=len_cons hk;clear hk;obtain⟨b1,os,rfl,hk⟩:=hq
 have hp1:plainO b1:=hpl b1 (by simp)
 obtain rfl:=len_nil hk
 replace hm:m10810 pu n [a0,a1,a2,a3,a4,encO b0,encO b1]=some z:=hm
 unfold m10810 at hm
 replace hm:(oo (vAgg a0) none fun l0=>(ll l0 none fun v0 l0=>(ll l0 none fun v1 l0=>(ll l0 (oo (toI .i64 v0) none fun x0=>(oo (toI .u32 v1) none fun x1=>(oo (toI .i64 a1) none fun x2=>(oo (toI .i64 a2) none fun x3=>(oo (toFn 82 0 a3) none fun l1=>(ll l1 (oo (toFn 83 0 a4) none fun l2=>(ll l2 none fun v2 l2=>(ll l2 none fun v3 l2=>(ll l2 (bb (isPt v2 0 0) (bb (isPt v3 1 0) (oo (vAgg (encO b0)) none fun l3=>(ll l3 none fun v4 l3=>(ll l3 none fun v5 l3=>(ll l3 (oo (toI .i64 v4) none fun x4=>(oo (toSl 1 v5) none fun s0=>(oo (vAgg (encO b1)) none fun l4=>(ll l4 none fun v6 l4=>(ll l4 (oo (toI .i64 v6) none fun x5=>(m10810_ pu n x0 x1 x2 x3 x4 s0 x5)) fun _ _=>none))))) fun _ _=>none)))) none) none) fun _ _=>none)))) fun _ _=>none)))))) fun _ _=>none))))=some z:=hm
 replace hm:=inv_vAgg hm;obtain⟨l0,rfl,hm⟩:=hm
 replace hm:=ll_uncons hm;obtain⟨v0,l3583_0,rfl,hm⟩:=hm
 replace hm:=ll_uncons hm;obtain⟨v1,l3583_1,rfl,hm⟩:=hm
 replace hm:=ll_end hm;obtain⟨rfl,hm⟩:=hm
 replace hm:=inv_toI hm;obtain⟨x0,rfl,hm⟩:=hm
 replace hm:=inv_toI hm;obtain⟨x1,rfl,hm⟩:=hm
 replace hm:=inv_toI hm;obtain⟨x2,rfl,hm⟩:=hm
 replace hm:=inv_toI hm;obtain⟨x3,rfl,hm⟩:=hm
 replace hm:=oo_inv hm;obtain⟨l1,h0,hm⟩:=hm
 obtain rfl:=toFn_some h0
 replace hm:=ll_end hm;obtain⟨rfl,hm⟩:=hm
 replace hm:=oo_inv hm;obtain⟨l2,h1,hm⟩:=hm
 obtain rfl:=toFn_some h1
 replace hm:=ll_uncons hm;obtain⟨v2,l3597_0,rfl,hm⟩:=hm
 replace hm:=ll_uncons hm;obtain⟨v3,l3597_1,rfl,hm⟩:=hm
 replace hm:=ll_end hm;obtain⟨rfl,hm⟩:=hm
 replace hm:=bb_inv hm;obtain⟨h2,hm⟩:=hm
 obtain rfl:=isPt_ok h2
 replace hm:=bb_inv hm;obtain⟨h3,hm⟩:=hm
 obtain rfl:=isPt_ok h3
 replace hm:=oo_inv hm;obtain⟨l3,h4,hm⟩:=hm
 obtain rfl:=vAgg_enc hp0 h4
 replace hm:=ll_uncons hm;obtain⟨v4,l3603_0,rfl,hm⟩:=hm
 replace hm:=ll_uncons hm;obtain⟨v5,l3603_1,rfl,hm⟩:=hm
 replace hm:=ll_end hm;obtain⟨rfl,hm⟩:=hm
 replace hm:=inv_toI hm;obtain⟨x4,rfl,hm⟩:=hm
 replace hm:=inv_toSl hm;obtain⟨s0,rfl,hm⟩:=hm
 replace hm:=oo_inv hm;obtain⟨l4,h5,hm⟩:=hm
 obtain rfl:=vAgg_enc hp1 h5
 replace hm:=ll_uncons hm;obtain⟨v6,l3611_0,rfl,hm⟩:=hm
 replace hm:=ll_end hm;obtain⟨rfl,hm⟩:=hm
 replace hm:=inv_toI hm;obtain⟨x5,rfl,hm⟩:=hm
 refine⟨by simp,?_⟩
 exact .same (F':=(fr 48 [(0,(.agg ⟨[zI x0,.int .u32 x1]⟩)),(1,zI x2),(2,zI x3),(3,(.func (.func 82) ⟨[]⟩ ⟨[]⟩)),(4,(.func (.func 83) ⟨[]⟩ ⟨[(pt 0 0),pt 1 0]⟩))])) (H':=(hp 2 [(oC [zI x4,Sl.v 1 s0]),(oC [zI x5])])) (by kernel_rfl) (by kernel_rfl) (q10810 pu n x0 x1 x2 x3 x4 s0 x5 hm)
def m10830_0 (pu:PureF) (n:Nat) (z1:Int) (s0:Sl) (z2:Int):OV:=
 (some (.tuple ⟨[(.bool (nt (ieq z2 (0:Int)))),(.agg ⟨[.int .i64 z1,Sl.v 1 s0]⟩),(.agg ⟨[.int .i64 z2]⟩)]⟩))
def m10830_ (pu:PureF) (n:Nat) (z1 z2 z3:Int) (s0:Sl) (z4:Int):OV:=
 (oo (pu 78 [(.agg ⟨[.int .i64 z1,.int .u32 z2]⟩)]) none fun v0=>(oo (vBool v0) none fun b0=>(bb b0 (oo (pu 66 [(.agg ⟨[.int .i64 z1,.int .u32 z2]⟩)]) none fun v1=>(oo (vAgg v1) none fun l0=>(ll l0 none fun v2 l0=>(ll l0 none fun v3 l0=>(ll l0 (oo (toI .i64 v2) none fun x0=>(oo (toSl 1 v3) none fun s1=>(m10830_0 pu n x0 s1 (0:Int)))) fun _ _=>none))))) (m10830_0 pu n z3 s0 z4))))
def m10830 (pu:PureF) (n:Nat) (args:LV):OV:=
 (ll args none fun a0 args=>(ll args none fun a1 args=>(ll args none fun a2 args=>(ll args none fun o0 args=>(ll args none fun o1 args=>(ll args (oo (vAgg a0) none fun l0=>(ll l0 none fun v0 l0=>(ll l0 none fun v1 l0=>(ll l0 (oo (toI .i64 v0) none fun x0=>(oo (toI .u32 v1) none fun x1=>(bb (isPt a1 0 0) (bb (isPt a2 1 0) (oo (vAgg o0) none fun l1=>(ll l1 none fun v2 l1=>(ll l1 none fun v3 l1=>(ll l1 (oo (toI .i64 v2) none fun x2=>(oo (toSl 1 v3) none fun s0=>(oo (vAgg o1) none fun l2=>(ll l2 none fun v4 l2=>(ll l2 (oo (toI .i64 v4) none fun x3=>(m10830_ pu n x0 x1 x2 s0 x3)) fun _ _=>none))))) fun _ _=>none)))) none) none))) fun _ _=>none)))) fun _ _=>none))))))
theorem w10830_0 (pu:PureF) (n:Nat) (z1:Int) (s0:Sl) (z2:Int) {v:Value} (hm:m10830_0 pu n z1 s0 z2=some v):Run tt (callP tabs isP pu (inl pu)) 2 c83_6 (fr 11 [(2,pt 1 0)]) (hp 2 [(oC [zI z1,Sl.v 1 s0]),(oC [zI z2])]) (FinO tt 0 2 [.tmp 4] v):=by
 unfold m10830_0 at hm
 refine .then (.rK (.ghs (fr 11 [(4,(zB (nt (ieq z2 (0:Int)))))]) (hp 2 [(oC [zI z1,Sl.v 1 s0]),(oC [zI z2])]) (.k0 [false,false] [] [4]) ?_))
 refine .ghs (fr 11 [(4,(zB (nt (ieq z2 (0:Int)))))]) (hp 2 [(oC [zI z1,Sl.v 1 s0]),(oC [zI z2])]) (.k0 [false,false] [] [4]) ?_
 refine .ret ?_
 exact finO_ret (zB (nt (ieq z2 (0:Int)))) [(oC [zI z1,Sl.v 1 s0]),(oC [zI z2])] (by kernel_rfl) hm (Nat.le_of_ble_eq_true rfl) (ooAt_cons (pO_c _) (ooAt_cons (pO_c _) ooAt_nil))
theorem q10830 (pu:PureF) (n:Nat) (z1 z2 z3:Int) (s0:Sl) (z4:Int) {v:Value} (hm:m10830_ pu n z1 z2 z3 s0 z4=some v):Run tt (callP tabs isP pu (inl pu)) 2 c83_8 (fr 11 [(0,(.agg ⟨[zI z1,.int .u32 z2]⟩)),(1,(pt 0 0)),(2,pt 1 0)]) (hp 2 [(oC [zI z3,Sl.v 1 s0]),(oC [zI z4])]) (FinO tt 0 2 [.tmp 4] v):=by
 unfold m10830_ at hm
 refine .then (.rK (.ghs (fr 11 [(1,(pt 0 0)),(2,pt 1 0),(3,(pt 2 0))]) (hp 3 [(oC [zI z3,Sl.v 1 s0]),(oC [zI z4]),(oC [zI z1,.int .u32 z2])]) (.k0 [false,false] [.tmp 3 false] [1,2,3]) ?_))
 refine .join (v:=v) (fun y:Int×Sl×Int=>((fr 11 [(2,pt 1 0)]),(hp 2 [(oC [(zI y.1),(Sl.v 1 y.2.1)]),(oC [(zI y.2.2)])]))) (fun y=>m10830_0 pu n y.1 y.2.1 y.2.2) ?_ ?_
 ·rintro⟨z5,s1,z6⟩ hm
  exact w10830_0 pu n z5 s1 z6 hm
 ·refine .then ?_
  replace hm:=oQB hm;obtain⟨b0,h0,hm⟩:=hm
  refine .reg (eC 1 ((oo (pu 78 [(.agg ⟨[zI z1,.int .u32 z2]⟩)]) none fun v=>some (v,(hp 3 [(oC [zI z3,Sl.v 1 s0]),(oC [zI z4]),(oC [zI z1,.int .u32 z2])])))) (call_eq h0) (eE)) ?_
  refine .ghs (fr 11 [(1,(pt 0 0)),(2,pt 1 0),(3,(pt 2 0)),(6,zB b0)]) (hp 3 [(oC [zI z3,Sl.v 1 s0]),(oC [zI z4]),(oC [zI z1,.int .u32 z2])]) (.k0 [false,false] [.tmp 3 false] [1,2,3,6]) ?_
  replace hm:=bb_cases hm;rcases hm with⟨h1,hm⟩ | ⟨h1,hm⟩
  ·refine .ifT b0 (by kernel_rfl) h1 ?_
   replace hm:=oo_inv hm;obtain⟨v0,h2,hm⟩:=hm
   replace hm:=inv_vAgg hm;obtain⟨l0,rfl,hm⟩:=hm
   replace hm:=ll_uncons hm;obtain⟨v1,l2813_0,rfl,hm⟩:=hm
   replace hm:=ll_uncons hm;obtain⟨v2,l2813_1,rfl,hm⟩:=hm
   replace hm:=ll_end hm;obtain⟨rfl,hm⟩:=hm
   replace hm:=inv_toI hm;obtain⟨x0,rfl,hm⟩:=hm
   replace hm:=inv_toSl hm;obtain⟨s2,rfl,hm⟩:=hm
   refine .reg (eC 1 ((oo (pu 66 [(.agg ⟨[zI z1,.int .u32 z2]⟩)]) none fun v=>some (v,(hp 3 [(oC [zI z3,Sl.v 1 s0]),(oC [zI z4]),(oC [zI z1,.int .u32 z2])])))) (call_eq h2) (eE)) ?_
   exact⟨(x0,s2,(0:Int)),hm,(.k0 [false,false] [] [2])⟩
  ·refine .ifF b0 (by kernel_rfl) h1 ?_
   refine .skip ?_
   exact⟨(z3,s0,z4),hm,(.k0 [false,false] [] [2])⟩
theorem r10830 {call:CallF} (pu:PureF) (n:Nat) (hcall:call=callP tabs isP pu (inl pu)) {args:LV} {os:List AObj} {z:Value} (ha:args.length=3) (hk:os.length=2) (hpl:∀ o∈os,plainO o) (hm:m10830 pu n (args++os.map encO)=some z):args.length≤11∧Run tt call (tabs.length+2) c83_8 (Fr.made 11 args) (subHeap tabs os) (FinO tt tabs.length 2 [.tmp 4] z):=by
 subst hcall
 have hq:=len_cons ha;clear ha;obtain⟨a0,args,rfl,ha⟩:=hq
 have hq:=len_cons ha;clear ha;obtain⟨a1,args,rfl,ha⟩:=hq
 have hq:=len_cons ha;clear ha;obtain⟨a2,args,rfl,ha⟩:=hq
 obtain rfl:=len_nil ha
 have hq:=len_cons hk;clear hk;obtain⟨b0,os,rfl,hk⟩:=hq
 have hp0:plainO b0:=hpl b0 (by simp)
 have hq:=len_cons hk;clear hk;obtain⟨b1,os,rfl,hk⟩:=hq
 have hp1:plainO b1:=hpl b1 (by simp)
 obtain rfl:=len_nil hk
 replace hm:m10830 pu n [a0,a1,a2,encO b0,encO b1]=some z:=hm
 unfold m10830 at hm
 replace hm:(oo (vAgg a0) none fun l0=>(ll l0 none fun v0 l0=>(ll l0 none fun v1 l0=>(ll l0 (oo (toI .i64 v0) none fun x0=>(oo (toI .u32 v1) none fun x1=>(bb (isPt a1 0 0) (bb (isPt a2 1 0) (oo (vAgg (encO b0)) none fun l1=>(ll l1 none fun v2 l1=>(ll l1 none fun v3 l1=>(ll l1 (oo (toI .i64 v2) none fun x2=>(oo (toSl 1 v3) none fun s0=>(oo (vAgg (encO b1)) none fun l2=>(ll l2 none fun v4 l2=>(ll l2 (oo (toI .i64 v4) none fun x3=>(m10830_ pu n x0 x1 x2 s0 x3)) fun _ _=>none))))) fun _ _=>none)))) none) none))) fun _ _=>none))))=some z:=hm
 replace hm:=inv_vAgg hm;obtain⟨l0,rfl,hm⟩:=hm
 replace hm:=ll_uncons hm;obtain⟨v0,l2821_0,rfl,hm⟩:=hm
 replace hm:=ll_uncons hm;obtain⟨v1,l2821_1,rfl,hm⟩:=hm
 replace hm:=ll_end hm;obtain⟨rfl,hm⟩:=hm
 replace hm:=inv_toI hm;obtain⟨x0,rfl,hm⟩:=hm
 replace hm:=inv_toI hm;obtain⟨x1,rfl,hm⟩:=hm
 replace hm:=bb_inv hm;obtain⟨h0,hm⟩:=hm
 obtain rfl:=isPt_ok h0
 replace hm:=bb_inv hm;obtain⟨h1,hm⟩:=hm
 obtain rfl:=isPt_ok h1
 replace hm:=oo_inv hm;obtain⟨l1,h2,hm⟩:=hm
 obtain rfl:=vAgg_enc hp0 h2
 replace hm:=ll_uncons hm;obtain⟨v2,l2831_0,rfl,hm⟩:=hm
 replace hm:=ll_uncons hm;obtain⟨v3,l2831_1,rfl,hm⟩:=hm
 replace hm:=ll_end hm;obtain⟨rfl,hm⟩:=hm
 replace hm:=inv_toI hm;obtain⟨x2,rfl,hm⟩:=hm
 replace hm:=inv_toSl hm;obtain⟨s0,rfl,hm⟩:=hm
 replace hm:=oo_inv hm;obtain⟨l2,h3,hm⟩:=hm
 obtain rfl:=vAgg_enc hp1 h3
 replace hm:=ll_uncons hm;obtain⟨v4,l2839_0,rfl,hm⟩:=hm
 replace hm:=ll_end hm;obtain⟨rfl,hm⟩:=hm
 replace hm:=inv_toI hm;obtain⟨x3,rfl,hm⟩:=hm
 refine⟨by simp,?_⟩
 exact .same (F':=(fr 11 [(0,(.agg ⟨[zI x0,.int .u32 x1]⟩)),(1,(pt 0 0)),(2,pt 1 0)])) (H':=(hp 2 [(oC [zI x2,Sl.v 1 s0]),(oC [zI x3])])) (by kernel_rfl) (by kernel_rfl) (q10830 pu n x0 x1 x2 s0 x3 hm)
def m10840_1 (pu:PureF) (n n0 c0:Nat) (q1:LV):OV:=
 (bb (allL closed1 q1) (bb (an (Nat.ble (0+n0*2) (len q1)) (allL closed1 (takeL (n0*2) (dropL 0 q1)))) (some (.tuple ⟨[(Sl.v 2 (Sl.mk n0 0 (takeL (n0*2) (dropL 0 q1))))]⟩)) none) none)
def m10840_3 (pu:PureF) (n:Nat) (ih0:Int→Nat→Nat→Int→Int→Sl→LV→OV) (z1:Int) (n0 c0:Nat) (z2:Int) (b0:Bool) (z3:Int) (s0:Sl) (q1:LV):OV:=
 (bb b0 (bb (allL closed1 q1) (m10840_1 pu n n0 c0 q1) none) (bb (allL closed1 q1) (bb (Nat.beq (Sl.n s0) 0) (oo (pu 10840 [(.agg ⟨[.int .i64 z3,(Sl.v 1 (Sl.mk 1 0 (takeL (1*1) (dropL 0 ([.int .i64 z2]:LV)))))]⟩),(.int .i64 (wrapF .i64 (Int.sub z1 (1:Int))))]) none fun v0=>(oo (vTup v0) none fun l0=>(ll l0 none fun v1 l0=>(ll l0 (oo (toSl 2 v1) none fun s1=>(bb (Nat.beq (Sl.n s1) 0) (ih0 z1 n0 c0 (wrapF .i64 (Int.add z2 (1:Int))) z3 s0 q1) (bb (an (allL scalarB (takeL ((Sl.n s1)*2) (Sl.cs s1))) (growC 2 32 n0 c0 (Sl.n s1) q1)) (bb (allL closed1 (appL (dropL 0 q1) (takeL ((Sl.n s1)*2) (Sl.cs s1)))) (ih0 z1 (n0+(Sl.n s1)) (2*(n0+(Sl.n s1))+bb false 1 0) (wrapF .i64 (Int.add z2 (1:Int))) z3 s0 (appL (dropL 0 q1) (takeL ((Sl.n s1)*2) (Sl.cs s1)))) none) none))) fun _ _=>none)))) (bb (roomy (0+(Sl.n s0)) 8) (bb (growC 1 8 (0+(Sl.n s0)) (2*(0+(Sl.n s0))+bb false 1 0) 1 (takeL ((Sl.n s0)*1) (Sl.cs s0))) (bb (an (Nat.ble (0+((0+(Sl.n s0))+1)*1) (len (appL (dropL 0 (takeL ((Sl.n s0)*1) (Sl.cs s0))) [.int .i64 z2]))) (allL closed1 (takeL (((0+(Sl.n s0))+1)*1) (dropL 0 (appL (dropL 0 (takeL ((Sl.n s0)*1) (Sl.cs s0))) [.int .i64 z2]))))) (oo (pu 10840 [(.agg ⟨[.int .i64 z3,(Sl.v 1 (Sl.mk ((0+(Sl.n s0))+1) 0 (takeL (((0+(Sl.n s0))+1)*1) (dropL 0 (appL (dropL 0 (takeL ((Sl.n s0)*1) (Sl.cs s0))) [.int .i64 z2])))))]⟩),(.int .i64 (wrapF .i64 (Int.sub z1 (1:Int))))]) none fun v2=>(oo (vTup v2) none fun l1=>(ll l1 none fun v3 l1=>(ll l1 (oo (toSl 2 v3) none fun s2=>(bb (Nat.beq (Sl.n s2) 0) (ih0 z1 n0 c0 (wrapF .i64 (Int.add z2 (1:Int))) z3 s0 q1) (bb (an (allL scalarB (takeL ((Sl.n s2)*2) (Sl.cs s2))) (growC 2 32 n0 c0 (Sl.n s2) q1)) (bb (allL closed1 (appL (dropL 0 q1) (takeL ((Sl.n s2)*2) (Sl.cs s2)))) (ih0 z1 (n0+(Sl.n s2)) (2*(n0+(Sl.n s2))+bb false 1 0) (wrapF .i64 (Int.add z2 (1:Int))) z3 s0 (appL (dropL 0 q1) (takeL ((Sl.n s2)*2) (Sl.cs s2)))) none) none))) fun _ _=>none)))) none) none) none)) none))
def b10840_2 (pu:PureF) (n:Nat) (ih0:Int→Nat→Nat→Int→Int→Sl→LV→OV) (z1:Int) (n0 c0:Nat) (z2 z3:Int) (s0:Sl) (q1:LV):OV:=
 (bb (allL closed1 q1) (bb (nt (ilt z3 (wrapF .i64 (Int.add z2 z1)))) (bb (ieq (Int.ofNat (Sl.n s0)) (0:Int)) (m10840_3 pu n ih0 z1 n0 c0 z2 (ilt (0:Int) z2) z3 s0 q1) (m10840_3 pu n ih0 z1 n0 c0 z2 false z3 s0 q1)) (m10840_1 pu n n0 c0 q1)) none)
def l10840_2 (pu:PureF) (n w:Nat):Int→Nat→Nat→Int→Int→Sl→LV→OV:=
 Nat.rec (motive:=fun _=>Int→Nat→Nat→Int→Int→Sl→LV→OV) (fun _ _ _ _ _ _ _=>none) (fun _ ih0=>b10840_2 pu n ih0) w
def m10840_0 (pu:PureF) (n:Nat) (z1 z2 z3:Int) (s0:Sl):OV:=
 (l10840_2 pu n n z1 0 0 z2 z3 s0 ([]:LV))
def m10840_ (pu:PureF) (n:Nat) (z1:Int) (s0:Sl) (z2:Int):OV:=
 (bb (ieq z2 (0:Int)) (some (.tuple ⟨[(Sl.v 2 (Sl.mk 1 0 (takeL (1*2) (dropL 0 ([.int .i64 z1,Sl.v 1 s0]:LV)))))]⟩)) (bb (ilt (0:Int) (Int.ofNat (Sl.n s0))) (oo (toN (wrapF .i64 (Int.sub (Int.ofNat (Sl.n s0)) (1:Int)))) none fun k1=>(bb (an (Nat.blt k1 (Sl.n s0)) true) (oo (nthL (Sl.cs s0) (k1*1)) none fun v0=>(oo (toI .i64 v0) none fun x0=>(m10840_0 pu n z2 (wrapF .i64 (Int.add x0 (1:Int))) z1 s0))) none)) (m10840_0 pu n z2 (0:Int) z1 s0)))
def m10840 (pu:PureF) (n:Nat) (args:LV):OV:=
 (ll args none fun a0 args=>(ll args none fun a1 args=>(ll args (oo (vAgg a0) none fun l0=>(ll l0 none fun v0 l0=>(ll l0 none fun v1 l0=>(ll l0 (oo (toI .i64 v0) none fun x0=>(oo (toSl 1 v1) none fun s0=>(oo (toI .i64 a1) none fun x1=>(m10840_ pu n x0 s0 x1)))) fun _ _=>none)))) fun _ _=>none)))
theorem w10840_1 (pu:PureF) (n n0 c0:Nat) (q1:LV) {v:Value} (hm:m10840_1 pu n n0 c0 q1=some v):Run tt (callP tabs isP pu (inl pu)) 0 c84_29 (fr 58 [(6,sc 0 0 2 n0 c0)]) (hp 1 [oC q1]) (FinO tt 0 0 [.tmp 4] v):=by
 unfold m10840_1 at hm
 refine .then (.rK ?_)
 replace hm:=bb_inv hm;obtain⟨h0,hm⟩:=hm
 refine .ghs (fr 58 [(4,sc 0 0 2 n0 c0)]) (hp 1 [oC q1]) (.k [0] [] [.tmp 4 false] [4] ⟨trF h0,trivial⟩) ?_
 replace hm:=bb_inv hm;obtain⟨h1,hm⟩:=hm
 refine .ghs (fr 58 [(4,(Sl.v 2 (Sl.mk n0 0 (takeL (n0*2) (dropL 0 q1)))))]) (hp 0 []) (.freezeC 0 4 2 (an (Nat.ble (0+n0*2) (len q1)) (allL closed1 (takeL (n0*2) (dropL 0 q1)))) (F1:=(Fr.puts (fr 58 [(4,sc 0 0 2 n0 c0)]) [(4,(Sl.v 2 (Sl.mk n0 0 (takeL (n0*2) (dropL 0 q1)))))])) (H1:=(hp 1 [.dead])) (by kernel_rfl) (by kernel_rfl) h1 (.k0 [] [] [4])) ?_
 refine .ret ?_
 exact finO_ret (Sl.v 2 (Sl.mk n0 0 (takeL (n0*2) (dropL 0 q1)))) [] (by kernel_rfl) hm (Nat.le_of_ble_eq_true rfl) ooAt_nil
theorem w10840_0 (pu:PureF) (n:Nat) (z1 z2 z3:Int) (s0:Sl) {v:Value} (hm:m10840_0 pu n z1 z2 z3 s0=some v):Run tt (callP tabs isP pu (inl pu)) 0 c84_31 (fr 58 [(1,zI z1),(2,(pt 0 0)),(5,zI z2)]) (hp 1 [(oC [zI z3,Sl.v 1 s0])]) (FinO tt 0 0 [.tmp 4] v):=by
 unfold m10840_0 at hm
 refine .then (.rK (.ghs (fr 58 [(1,zI z1),(2,(pt 0 0)),(5,zI z2),(6,(.slice none 0 0))]) (hp 1 [(oC [zI z3,Sl.v 1 s0])]) (.k0 [] [.tmp 2 false] [1,2,5,6]) ?_))
 refine .join (v:=v) (fun y:Nat×Nat×LV=>((fr 58 [(6,(sc 0 0 2 y.1 y.2.1))]),(hp 1 [(oC y.2.2)]))) (fun y=>m10840_1 pu n y.1 y.2.1 y.2.2) ?_ ?_
 ·rintro⟨n0,c0,q1⟩ hm
  exact w10840_1 pu n n0 c0 q1 hm
 ·refine .then (.rK (.ghs (fr 58 [(1,zI z1),(2,(pt 0 0)),(6,(.slice none 0 0)),(7,zI z2)]) (hp 1 [(oC [zI z3,Sl.v 1 s0])]) (.k0 [] [.tmp 2 false] [1,2,6,7]) ?_))
  refine .block (.loopM (v:=v) (fun y:Int×Nat×Nat×Int×Int×Sl×LV=>((fr 58 [(1,(zI y.1)),(2,(pt 0 0)),(6,(sc 1 0 2 y.2.1 y.2.2.1)),(7,(zI y.2.2.2.1))]),(hp 2 [(oC [(zI y.2.2.2.2.1),(Sl.v 1 y.2.2.2.2.2.1)]),(oC y.2.2.2.2.2.2)]))) (fun w y=>l10840_2 pu n w y.1 y.2.1 y.2.2.1 y.2.2.2.1 y.2.2.2.2.1 y.2.2.2.2.2.1 y.2.2.2.2.2.2) n ⟨(z1,0,0,z2,z3,s0,([]:LV)),hm,(.thaw 6 2 (by kernel_rfl) (.k0 [] [.tmp 2 false,.tmp 6 false] [1,2,6,7]))⟩ (fun _=>rfl) ?_)
  rintro w0 ⟨z4,n1,c1,z5,z6,s1,q2⟩ hm
  replace hm:b10840_2 pu n (l10840_2 pu n w0) z4 n1 c1 z5 z6 s1 q2=some v:=hm
  unfold b10840_2 at hm
  refine .then (.then (.rK ?_))
  replace hm:=bb_inv hm;obtain⟨h0,hm⟩:=hm
  refine .ghs (fr 58 [(1,zI z4),(2,(pt 0 0)),(6,sc 1 0 2 n1 c1),(7,zI z5),(31,(zB (nt (ilt z6 (wrapF .i64 (Int.add z5 z4))))))]) (hp 2 [(oC [zI z6,Sl.v 1 s1]),oC q2]) (.k [1] [] [.tmp 2 false,.tmp 6 false] [1,2,6,7,31] ⟨trF h0,trivial⟩) ?_
  replace hm:=bb_cases hm;rcases hm with⟨h1,hm⟩ | ⟨h1,hm⟩
  ·refine ifTt (nt (ilt z6 (wrapF .i64 (Int.add z5 z4)))) h1 ?_
   refine .skip (.ghs (fr 58 [(1,zI z4),(2,(pt 0 0)),(6,sc 1 0 2 n1 c1),(7,zI z5)]) (hp 2 [(oC [zI z6,Sl.v 1 s1]),oC q2]) (.k [1] [] [.tmp 2 false,.tmp 6 false] [1,2,6,7] ⟨trF h0,trivial⟩) ?_)
   refine .then (.block (.then (.join (v:=v) (fun y:Int×Nat×Nat×Int×Bool×Int×Sl×LV=>((fr 58 [(1,(zI y.1)),(2,(pt 0 0)),(6,(sc 1 0 2 y.2.1 y.2.2.1)),(7,(zI y.2.2.2.1)),(41,(zB y.2.2.2.2.1))]),(hp 2 [(oC [(zI y.2.2.2.2.2.1),(Sl.v 1 y.2.2.2.2.2.2.1)]),(oC y.2.2.2.2.2.2.2)]))) (fun y=>m10840_3 pu n (l10840_2 pu n w0) y.1 y.2.1 y.2.2.1 y.2.2.2.1 y.2.2.2.2.1 y.2.2.2.2.2.1 y.2.2.2.2.2.2.1 y.2.2.2.2.2.2.2) ?_ ?_)))
   ·rintro⟨z7,n2,c3,z8,b0,z9,s2,q3⟩ hm
    unfold m10840_3 at hm
    replace hm:=bb_cases hm;rcases hm with⟨h2,hm⟩ | ⟨h2,hm⟩
    ·refine .ifT b0 (by kernel_rfl) h2 ?_
     refine .exit ?_
     replace hm:=bb_inv hm;obtain⟨h3,hm⟩:=hm
     exact⟨(n2,c3,q3),hm,(.k [1] [] [.tmp 6 false] [6] ⟨trF h3,trivial⟩)⟩
    ·refine .ifF b0 (by kernel_rfl) h2 ?_
     refine .skip ?_
     replace hm:=bb_inv hm;obtain⟨h4,hm⟩:=hm
     refine .ghs (fr 58 [(1,zI z7),(2,(pt 0 0)),(6,sc 1 0 2 n2 c3),(7,zI z8)]) (hp 2 [(oC [zI z9,Sl.v 1 s2]),oC q3]) (.k [1] [] [.tmp 2 false,.tmp 6 false] [1,2,6,7] ⟨trF h4,trivial⟩) ?_
     replace hm:=bb_cases hm;rcases hm with⟨h5,hm⟩ | ⟨h5,hm⟩
     ·replace hm:=oo_inv hm;obtain⟨v0,h6,hm⟩:=hm
      replace hm:=inv_vTup hm;obtain⟨l0,rfl,hm⟩:=hm
      replace hm:=ll_uncons hm;obtain⟨v1,l3929_0,rfl,hm⟩:=hm
      replace hm:=ll_end hm;obtain⟨rfl,hm⟩:=hm
      replace hm:=oo_inv hm;obtain⟨s3,h7,hm⟩:=hm
      obtain rfl:=toSl_some h7
      replace hm:=bb_cases hm;rcases hm with⟨h8,hm⟩ | ⟨h8,hm⟩
      ·refine .reg (eC 10 (appFs (hp 4 [(oC [zI z9,Sl.v 1 s2]),oC q3,(oC []),(oC [zI z8])]) 1 8 (sc 2 0 1 0 1) s2) (appFs_sl0 h5) (eD (some ((sc 4 0 1 1 (d2 1)),(hp 5 [(oC [zI z9,Sl.v 1 s2]),oC q3,(oC []),(oC [zI z8]),(oC [zI z8])]))) rfl (eC 1 (objG tabs [[none,some 1],[none]] 2 [] [] (pu 10840) [(.agg ⟨[zI z9,(sc 4 0 1 1 (d2 1))]⟩),(zI (wrapF .i64 (Int.sub z7 (1:Int))))] (hp 5 [(oC [zI z9,Sl.v 1 s2]),oC q3,(oC []),(oC [zI z8]),(oC [zI z8])])) (objG_eq (as:=[(.agg ⟨[zI z9,(Sl.v 1 (Sl.mk 1 0 (takeL (1*1) (dropL 0 ([zI z8]:LV)))))]⟩),(zI (wrapF .i64 (Int.sub z7 (1:Int))))]) (H1:=(hp 5 [(oC [zI z9,Sl.v 1 s2]),oC q3,(oC []),(oC [zI z8]),.dead])) (gvAL_c (gvA_a (gvL_c gv_n (gvL_c (gv_s (show giveV 1 (sc 4 0 1 1 (d2 1)) (hp 5 [(oC [zI z9,Sl.v 1 s2]),oC q3,(oC []),(oC [zI z8]),(oC [zI z8])])=some ((Sl.v 1 (Sl.mk 1 0 (takeL (1*1) (dropL 0 ([zI z8]:LV))))),(hp 5 [(oC [zI z9,Sl.v 1 s2]),oC q3,(oC []),(oC [zI z8]),.dead])) from giveV_sl 4 0 1 1 (d2 1) ([zI z8]:LV) [] (by kernel_rfl) (by kernel_rfl) (by kernel_rfl))) gvL_n))) (gvAL_c (gvA_1 gv_n) gvAL_n)) (objF_eq (H2:=(hp 5 [(oC [zI z9,Sl.v 1 s2]),oC q3,(oC []),(oC [zI z8]),.dead])) (v:=(Sl.v 2 s3)) (v':=(Sl.v 2 s3)) [] [] [] [(.agg ⟨[zI z9,(Sl.v 1 (Sl.mk 1 0 (takeL (1*1) (dropL 0 ([zI z8]:LV)))))]⟩),(zI (wrapF .i64 (Int.sub z7 (1:Int))))] [] [] [none,none,none,none,none] [] [] (by kernel_rfl) mapO_n (Eq.trans (by kernel_rfl) h6) mapO_n mapO_n)) (eD (appFs (hp 5 [(oC [zI z9,Sl.v 1 s2]),oC q3,(oC []),(oC [zI z8]),.dead]) 2 32 (sc 1 0 2 n2 c3) s3) (appFs_sl0 h8) (eE))))) ?_
       refine .ghs (fr 58 [(1,zI z7),(2,(pt 0 0)),(6,sc 1 0 2 n2 c3),(7,zI z8)]) (hp 2 [(oC [zI z9,Sl.v 1 s2]),oC q3]) (.k [1] [] [.tmp 2 false,.tmp 6 false] [1,2,6,7] ⟨trF h4,trivial⟩) ?_
       refine .rK ?_
       exact⟨(z7,n2,c3,(wrapF .i64 (Int.add z8 (1:Int))),z9,s2,q3),hm,(.k [1] [] [.tmp 2 false,.tmp 6 false] [1,2,6,7] ⟨trF h4,trivial⟩)⟩
      ·replace hm:=bb_inv hm;obtain⟨h9,hm⟩:=hm
       refine .reg (eC 10 (appFs (hp 4 [(oC [zI z9,Sl.v 1 s2]),oC q3,(oC []),(oC [zI z8])]) 1 8 (sc 2 0 1 0 1) s2) (appFs_sl0 h5) (eD (some ((sc 4 0 1 1 (d2 1)),(hp 5 [(oC [zI z9,Sl.v 1 s2]),oC q3,(oC []),(oC [zI z8]),(oC [zI z8])]))) rfl (eC 1 (objG tabs [[none,some 1],[none]] 2 [] [] (pu 10840) [(.agg ⟨[zI z9,(sc 4 0 1 1 (d2 1))]⟩),(zI (wrapF .i64 (Int.sub z7 (1:Int))))] (hp 5 [(oC [zI z9,Sl.v 1 s2]),oC q3,(oC []),(oC [zI z8]),(oC [zI z8])])) (objG_eq (as:=[(.agg ⟨[zI z9,(Sl.v 1 (Sl.mk 1 0 (takeL (1*1) (dropL 0 ([zI z8]:LV)))))]⟩),(zI (wrapF .i64 (Int.sub z7 (1:Int))))]) (H1:=(hp 5 [(oC [zI z9,Sl.v 1 s2]),oC q3,(oC []),(oC [zI z8]),.dead])) (gvAL_c (gvA_a (gvL_c gv_n (gvL_c (gv_s (show giveV 1 (sc 4 0 1 1 (d2 1)) (hp 5 [(oC [zI z9,Sl.v 1 s2]),oC q3,(oC []),(oC [zI z8]),(oC [zI z8])])=some ((Sl.v 1 (Sl.mk 1 0 (takeL (1*1) (dropL 0 ([zI z8]:LV))))),(hp 5 [(oC [zI z9,Sl.v 1 s2]),oC q3,(oC []),(oC [zI z8]),.dead])) from giveV_sl 4 0 1 1 (d2 1) ([zI z8]:LV) [] (by kernel_rfl) (by kernel_rfl) (by kernel_rfl))) gvL_n))) (gvAL_c (gvA_1 gv_n) gvAL_n)) (objF_eq (H2:=(hp 5 [(oC [zI z9,Sl.v 1 s2]),oC q3,(oC []),(oC [zI z8]),.dead])) (v:=(Sl.v 2 s3)) (v':=(Sl.v 2 s3)) [] [] [] [(.agg ⟨[zI z9,(Sl.v 1 (Sl.mk 1 0 (takeL (1*1) (dropL 0 ([zI z8]:LV)))))]⟩),(zI (wrapF .i64 (Int.sub z7 (1:Int))))] [] [] [none,none,none,none,none] [] [] (by kernel_rfl) mapO_n (Eq.trans (by kernel_rfl) h6) mapO_n mapO_n)) (eD (appFs (hp 5 [(oC [zI z9,Sl.v 1 s2]),oC q3,(oC []),(oC [zI z8]),.dead]) 2 32 (sc 1 0 2 n2 c3) s3) (appFs_grow (H:=(hp 5 [(oC [zI z9,Sl.v 1 s2]),oC q3,(oC []),(oC [zI z8]),.dead])) (id:=1) (n:=n2) (c2:=c3) (xs:=q3) (anc:=[]) h8 (by kernel_rfl) (by kernel_rfl) h9) (eE))))) ?_
       replace hm:=bb_inv hm;obtain⟨h10,hm⟩:=hm
       refine .ghs (fr 58 [(1,zI z7),(2,(pt 0 0)),(6,(sc 1 0 2 (n2+(Sl.n s3)) (d2 (n2+(Sl.n s3))))),(7,zI z8)]) (hp 2 [(oC [zI z9,Sl.v 1 s2]),(oC (appL (dropL 0 q3) (takeL ((Sl.n s3)*2) (Sl.cs s3))))]) (.k [5] [] [.tmp 2 false,.tmp 6 false] [1,2,6,7] ⟨trF h10,trivial⟩) ?_
       refine .rK ?_
       exact⟨(z7,(n2+(Sl.n s3)),(d2 (n2+(Sl.n s3))),(wrapF .i64 (Int.add z8 (1:Int))),z9,s2,(appL (dropL 0 q3) (takeL ((Sl.n s3)*2) (Sl.cs s3)))),hm,(.k [1] [] [.tmp 2 false,.tmp 6 false] [1,2,6,7] ⟨trF h10,trivial⟩)⟩
     ·replace hm:=bb_inv hm;obtain⟨h11,hm⟩:=hm
      replace hm:=bb_inv hm;obtain⟨h12,hm⟩:=hm
      replace hm:=bb_inv hm;obtain⟨h13,hm⟩:=hm
      replace hm:=oo_inv hm;obtain⟨v2,h14,hm⟩:=hm
      replace hm:=inv_vTup hm;obtain⟨l1,rfl,hm⟩:=hm
      replace hm:=ll_uncons hm;obtain⟨v3,l3932_0,rfl,hm⟩:=hm
      replace hm:=ll_end hm;obtain⟨rfl,hm⟩:=hm
      replace hm:=inv_toSl hm;obtain⟨s4,rfl,hm⟩:=hm
      replace hm:=bb_cases hm;rcases hm with⟨h15,hm⟩ | ⟨h15,hm⟩
      ·refine .reg (eC 10 (appFs (hp 4 [(oC [zI z9,Sl.v 1 s2]),oC q3,(oC []),(oC [zI z8])]) 1 8 (sc 2 0 1 0 1) s2) (appFs_new h5 h11 (by kernel_rfl)) (eD (growD 1 8 (0+(Sl.n s2)) (d2 (0+(Sl.n s2))) 1 4 (takeL ((Sl.n s2)*1) (Sl.cs s2)) [zI z8] [] (hp 5 [(oC [zI z9,Sl.v 1 s2]),oC q3,(oC []),(oC [zI z8]),(oC (takeL ((Sl.n s2)*1) (Sl.cs s2)))])) (growD_eq h12) (eC 1 (objG tabs [[none,some 1],[none]] 2 [] [] (pu 10840) [(.agg ⟨[zI z9,(sc 5 0 1 ((0+(Sl.n s2))+1) (d2 ((0+(Sl.n s2))+1)))]⟩),(zI (wrapF .i64 (Int.sub z7 (1:Int))))] (hp 6 [(oC [zI z9,Sl.v 1 s2]),oC q3,(oC []),(oC [zI z8]),(oS (takeL ((Sl.n s2)*1) (Sl.cs s2))),(.cells (appL (dropL 0 (takeL ((Sl.n s2)*1) (Sl.cs s2))) [zI z8]) false false [4])])) (objG_eq (as:=[(.agg ⟨[zI z9,(Sl.v 1 (Sl.mk ((0+(Sl.n s2))+1) 0 (takeL (((0+(Sl.n s2))+1)*1) (dropL 0 (appL (dropL 0 (takeL ((Sl.n s2)*1) (Sl.cs s2))) [zI z8])))))]⟩),(zI (wrapF .i64 (Int.sub z7 (1:Int))))]) (H1:=(hp 6 [(oC [zI z9,Sl.v 1 s2]),oC q3,(oC []),(oC [zI z8]),(oS (takeL ((Sl.n s2)*1) (Sl.cs s2))),.dead])) (gvAL_c (gvA_a (gvL_c gv_n (gvL_c (gv_s (show giveV 1 (sc 5 0 1 ((0+(Sl.n s2))+1) (d2 ((0+(Sl.n s2))+1))) (hp 6 [(oC [zI z9,Sl.v 1 s2]),oC q3,(oC []),(oC [zI z8]),(oS (takeL ((Sl.n s2)*1) (Sl.cs s2))),(.cells (appL (dropL 0 (takeL ((Sl.n s2)*1) (Sl.cs s2))) [zI z8]) false false [4])])=some ((Sl.v 1 (Sl.mk ((0+(Sl.n s2))+1) 0 (takeL (((0+(Sl.n s2))+1)*1) (dropL 0 (appL (dropL 0 (takeL ((Sl.n s2)*1) (Sl.cs s2))) [zI z8]))))),(hp 6 [(oC [zI z9,Sl.v 1 s2]),oC q3,(oC []),(oC [zI z8]),(oS (takeL ((Sl.n s2)*1) (Sl.cs s2))),.dead])) from giveV_sl 5 0 1 ((0+(Sl.n s2))+1) (d2 ((0+(Sl.n s2))+1)) (appL (dropL 0 (takeL ((Sl.n s2)*1) (Sl.cs s2))) [zI z8]) [4] (by kernel_rfl) (by kernel_rfl) h13)) gvL_n))) (gvAL_c (gvA_1 gv_n) gvAL_n)) (objF_eq (H2:=(hp 6 [(oC [zI z9,Sl.v 1 s2]),oC q3,(oC []),(oC [zI z8]),(oS (takeL ((Sl.n s2)*1) (Sl.cs s2))),.dead])) (v:=(Sl.v 2 s4)) (v':=(Sl.v 2 s4)) [] [] [] [(.agg ⟨[zI z9,(Sl.v 1 (Sl.mk ((0+(Sl.n s2))+1) 0 (takeL (((0+(Sl.n s2))+1)*1) (dropL 0 (appL (dropL 0 (takeL ((Sl.n s2)*1) (Sl.cs s2))) [zI z8])))))]⟩),(zI (wrapF .i64 (Int.sub z7 (1:Int))))] [] [] [none,none,none,none,none,none] [] [] (by kernel_rfl) mapO_n (Eq.trans (by kernel_rfl) h14) mapO_n mapO_n)) (eD (appFs (hp 6 [(oC [zI z9,Sl.v 1 s2]),oC q3,(oC []),(oC [zI z8]),(oS (takeL ((Sl.n s2)*1) (Sl.cs s2))),.dead]) 2 32 (sc 1 0 2 n2 c3) s4) (appFs_sl0 h15) (eE))))) ?_
       refine .ghs (fr 58 [(1,zI z7),(2,(pt 0 0)),(6,sc 1 0 2 n2 c3),(7,zI z8)]) (hp 2 [(oC [zI z9,Sl.v 1 s2]),oC q3]) (.k [1] [] [.tmp 2 false,.tmp 6 false] [1,2,6,7] ⟨trF h4,trivial⟩) ?_
       refine .rK ?_
       exact⟨(z7,n2,c3,(wrapF .i64 (Int.add z8 (1:Int))),z9,s2,q3),hm,(.k [1] [] [.tmp 2 false,.tmp 6 false] [1,2,6,7] ⟨trF h4,trivial⟩)⟩
      ·replace hm:=bb_inv hm;obtain⟨h16,hm⟩:=hm
       refine .reg (eC 10 (appFs (hp 4 [(oC [zI z9,Sl.v 1 s2]),oC q3,(oC []),(oC [zI z8])]) 1 8 (sc 2 0 1 0 1) s2) (appFs_new h5 h11 (by kernel_rfl)) (eD (growD 1 8 (0+(Sl.n s2)) (d2 (0+(Sl.n s2))) 1 4 (takeL ((Sl.n s2)*1) (Sl.cs s2)) [zI z8] [] (hp 5 [(oC [zI z9,Sl.v 1 s2]),oC q3,(oC []),(oC [zI z8]),(oC (takeL ((Sl.n s2)*1) (Sl.cs s2)))])) (growD_eq h12) (eC 1 (objG tabs [[none,some 1],[none]] 2 [] [] (pu 10840) [(.agg ⟨[zI z9,(sc 5 0 1 ((0+(Sl.n s2))+1) (d2 ((0+(Sl.n s2))+1)))]⟩),(zI (wrapF .i64 (Int.sub z7 (1:Int))))] (hp 6 [(oC [zI z9,Sl.v 1 s2]),oC q3,(oC []),(oC [zI z8]),(oS (takeL ((Sl.n s2)*1) (Sl.cs s2))),(.cells (appL (dropL 0 (takeL ((Sl.n s2)*1) (Sl.cs s2))) [zI z8]) false false [4])])) (objG_eq (as:=[(.agg ⟨[zI z9,(Sl.v 1 (Sl.mk ((0+(Sl.n s2))+1) 0 (takeL (((0+(Sl.n s2))+1)*1) (dropL 0 (appL (dropL 0 (takeL ((Sl.n s2)*1) (Sl.cs s2))) [zI z8])))))]⟩),(zI (wrapF .i64 (Int.sub z7 (1:Int))))]) (H1:=(hp 6 [(oC [zI z9,Sl.v 1 s2]),oC q3,(oC []),(oC [zI z8]),(oS (takeL ((Sl.n s2)*1) (Sl.cs s2))),.dead])) (gvAL_c (gvA_a (gvL_c gv_n (gvL_c (gv_s (show giveV 1 (sc 5 0 1 ((0+(Sl.n s2))+1) (d2 ((0+(Sl.n s2))+1))) (hp 6 [(oC [zI z9,Sl.v 1 s2]),oC q3,(oC []),(oC [zI z8]),(oS (takeL ((Sl.n s2)*1) (Sl.cs s2))),(.cells (appL (dropL 0 (takeL ((Sl.n s2)*1) (Sl.cs s2))) [zI z8]) false false [4])])=some ((Sl.v 1 (Sl.mk ((0+(Sl.n s2))+1) 0 (takeL (((0+(Sl.n s2))+1)*1) (dropL 0 (appL (dropL 0 (takeL ((Sl.n s2)*1) (Sl.cs s2))) [zI z8]))))),(hp 6 [(oC [zI z9,Sl.v 1 s2]),oC q3,(oC []),(oC [zI z8]),(oS (takeL ((Sl.n s2)*1) (Sl.cs s2))),.dead])) from giveV_sl 5 0 1 ((0+(Sl.n s2))+1) (d2 ((0+(Sl.n s2))+1)) (appL (dropL 0 (takeL ((Sl.n s2)*1) (Sl.cs s2))) [zI z8]) [4] (by kernel_rfl) (by kernel_rfl) h13)) gvL_n))) (gvAL_c (gvA_1 gv_n) gvAL_n)) (objF_eq (H2:=(hp 6 [(oC [zI z9,Sl.v 1 s2]),oC q3,(oC []),(oC [zI z8]),(oS (takeL ((Sl.n s2)*1) (Sl.cs s2))),.dead])) (v:=(Sl.v 2 s4)) (v':=(Sl.v 2 s4)) [] [] [] [(.agg ⟨[zI z9,(Sl.v 1 (Sl.mk ((0+(Sl.n s2))+1) 0 (takeL (((0+(Sl.n s2))+1)*1) (dropL 0 (appL (dropL 0 (takeL ((Sl.n s2)*1) (Sl.cs s2))) [zI z8])))))]⟩),(zI (wrapF .i64 (Int.sub z7 (1:Int))))] [] [] [none,none,none,none,none,none] [] [] (by kernel_rfl) mapO_n (Eq.trans (by kernel_rfl) h14) mapO_n mapO_n)) (eD (appFs (hp 6 [(oC [zI z9,Sl.v 1 s2]),oC q3,(oC []),(oC [zI z8]),(oS (takeL ((Sl.n s2)*1) (Sl.cs s2))),.dead]) 2 32 (sc 1 0 2 n2 c3) s4) (appFs_grow (H:=(hp 6 [(oC [zI z9,Sl.v 1 s2]),oC q3,(oC []),(oC [zI z8]),(oS (takeL ((Sl.n s2)*1) (Sl.cs s2))),.dead])) (id:=1) (n:=n2) (c2:=c3) (xs:=q3) (anc:=[]) h15 (by kernel_rfl) (by kernel_rfl) h16) (eE))))) ?_
       replace hm:=bb_inv hm;obtain⟨h17,hm⟩:=hm
       refine .ghs (fr 58 [(1,zI z7),(2,(pt 0 0)),(6,(sc 1 0 2 (n2+(Sl.n s4)) (d2 (n2+(Sl.n s4))))),(7,zI z8)]) (hp 2 [(oC [zI z9,Sl.v 1 s2]),(oC (appL (dropL 0 q3) (takeL ((Sl.n s4)*2) (Sl.cs s4))))]) (.k [6] [] [.tmp 2 false,.tmp 6 false] [1,2,6,7] ⟨trF h17,trivial⟩) ?_
       refine .rK ?_
       exact⟨(z7,(n2+(Sl.n s4)),(d2 (n2+(Sl.n s4))),(wrapF .i64 (Int.add z8 (1:Int))),z9,s2,(appL (dropL 0 q3) (takeL ((Sl.n s4)*2) (Sl.cs s4)))),hm,(.k [1] [] [.tmp 2 false,.tmp 6 false] [1,2,6,7] ⟨trF h17,trivial⟩)⟩
   ·replace hm:=bb_cases hm;rcases hm with⟨h18,hm⟩ | ⟨h18,hm⟩
    ·refine .reg (eC 3 (some ((zB (ieq (Int.ofNat (Sl.n s1)) (0:Int))),(hp 2 [(oC [zI z6,Sl.v 1 s1]),oC q2]))) (show _=some ((zB true),_) from (by rw[show (ieq (Int.ofNat (Sl.n s1)) (0:Int))=true from h18])) (eE)) ?_
     exact⟨(z4,n1,c1,z5,(ilt (0:Int) z5),z6,s1,q2),hm,(.k [1] [] [.tmp 2 false,.tmp 6 false] [1,2,6,7,41] ⟨trF h0,trivial⟩)⟩
    ·refine .reg (eC 3 (some ((zB (ieq (Int.ofNat (Sl.n s1)) (0:Int))),(hp 2 [(oC [zI z6,Sl.v 1 s1]),oC q2]))) (show _=some ((zB false),_) from (by rw[show (ieq (Int.ofNat (Sl.n s1)) (0:Int))=false from h18])) (eE)) ?_
     exact⟨(z4,n1,c1,z5,false,z6,s1,q2),hm,(.k [1] [] [.tmp 2 false,.tmp 6 false] [1,2,6,7,41] ⟨trF h0,trivial⟩)⟩
  ·refine ifFt (nt (ilt z6 (wrapF .i64 (Int.add z5 z4)))) h1 ?_
   refine .exit ?_
   exact⟨(n1,c1,q2),hm,(.k [1] [] [.tmp 6 false] [6] ⟨trF h0,trivial⟩)⟩
theorem q10840 (pu:PureF) (n:Nat) (z1:Int) (s0:Sl) (z2:Int) {v:Value} (hm:m10840_ pu n z1 s0 z2=some v):Run tt (callP tabs isP pu (inl pu)) 0 c84_35 (fr 58 [(0,(.agg ⟨[zI z1,Sl.v 1 s0]⟩)),(1,zI z2)]) (hp 0 []) (FinO tt 0 0 [.tmp 4] v):=by
 unfold m10840_ at hm
 refine .then (.rK (.ghs (fr 58 [(1,zI z2),(2,(pt 0 0))]) (hp 1 [(oC [zI z1,Sl.v 1 s0])]) (.k0 [] [.tmp 2 false] [1,2]) ?_))
 refine .then (.then (.rK (.ghs (fr 58 [(1,zI z2),(2,(pt 0 0)),(9,(zB (ieq z2 (0:Int))))]) (hp 1 [(oC [zI z1,Sl.v 1 s0])]) (.k0 [] [.tmp 2 false] [1,2,9]) ?_)))
 replace hm:=bb_cases hm;rcases hm with⟨h0,hm⟩ | ⟨h0,hm⟩
 ·refine ifTt (ieq z2 (0:Int)) h0 ?_
  refine .then (.rK (.ghs (fr 58 [(4,sc 0 0 2 1 3)]) (hp 1 [(oC [zI z1,Sl.v 1 s0])]) (.k0 [] [.tmp 4 false] [4]) ?_))
  refine .ghs (fr 58 [(4,(Sl.v 2 (Sl.mk 1 0 (takeL (1*2) (dropL 0 ([zI z1,Sl.v 1 s0]:LV))))))]) (hp 0 []) (.freeze 0 4 2 (by kernel_rfl) (by kernel_rfl) (.k0 [] [] [4])) ?_
  refine .ret ?_
  exact finO_ret (Sl.v 2 (Sl.mk 1 0 (takeL (1*2) (dropL 0 ([zI z1,Sl.v 1 s0]:LV))))) [] (by kernel_rfl) hm (Nat.le_of_ble_eq_true rfl) ooAt_nil
 ·refine ifFt (ieq z2 (0:Int)) h0 ?_
  refine .skip (.ghs (fr 58 [(1,zI z2),(2,(pt 0 0))]) (hp 1 [(oC [zI z1,Sl.v 1 s0])]) (.k0 [] [.tmp 2 false] [1,2]) ?_)
  refine .then (.rK (.ghs (fr 58 [(1,zI z2),(2,(pt 0 0)),(5,(zI (0:Int)))]) (hp 1 [(oC [zI z1,Sl.v 1 s0])]) (.k0 [] [.tmp 2 false] [1,2,5]) ?_))
  refine .join (v:=v) (fun y:Int×Int×Int×Sl=>((fr 58 [(1,(zI y.1)),(2,(pt 0 0)),(5,(zI y.2.1))]),(hp 1 [(oC [(zI y.2.2.1),(Sl.v 1 y.2.2.2)])]))) (fun y=>m10840_0 pu n y.1 y.2.1 y.2.2.1 y.2.2.2) ?_ ?_
  ·rintro⟨z3,z4,z5,s1⟩ hm
   exact w10840_0 pu n z3 z4 z5 s1 hm
  ·refine .then (.rK (.ghs (fr 58 [(1,zI z2),(2,(pt 0 0)),(5,(zI (0:Int))),(15,(zB (ilt (0:Int) (Int.ofNat (Sl.n s0)))))]) (hp 1 [(oC [zI z1,Sl.v 1 s0])]) (.k0 [] [.tmp 2 false] [1,2,5,15]) ?_))
   replace hm:=bb_cases hm;rcases hm with⟨h1,hm⟩ | ⟨h1,hm⟩
   ·refine ifTt (ilt (0:Int) (Int.ofNat (Sl.n s0))) h1 ?_
    replace hm:=oo_inv hm;obtain⟨k1,h2,hm⟩:=hm
    replace hm:=bb_inv hm;obtain⟨h3,hm⟩:=hm
    replace hm:=oQI hm;obtain⟨x0,h4,hm⟩:=hm
    refine .reg (eC 5 (some ((zI (wrapF .i64 (Int.sub (Int.ofNat (Sl.n s0)) (1:Int)))),(hp 1 [(oC [zI z1,Sl.v 1 s0])]))) (show _=some ((zI (Int.ofNat k1)),_) from (by rw[toN_some h2])) (eD (keep (hp 1 [(oC [zI z1,Sl.v 1 s0])]) (bb (an (Nat.blt k1 (Sl.n s0)) true) (some (fpV (k1*1) (Sl.cs s0))) none)) (keep_bb h3) (eD (keep (hp 1 [(oC [zI z1,Sl.v 1 s0])]) (nthL (Sl.cs s0) (k1*1))) (keep_eq h4) (eE)))) ?_
    exact⟨(z2,(wrapF .i64 (Int.add x0 (1:Int))),z1,s0),hm,(.k0 [] [.tmp 2 false] [1,2,5])⟩
   ·refine ifFt (ilt (0:Int) (Int.ofNat (Sl.n s0))) h1 ?_
    refine .skip ?_
    exact⟨(z2,(0:Int),z1,s0),hm,(.k0 [] [.tmp 2 false] [1,2,5])⟩
theorem r10840 {call:CallF} (pu:PureF) (n:Nat) (hcall:call=callP tabs isP pu (inl pu)) {args:LV} {os:List AObj} {z:Value} (ha:args.length=2) (hk:os.length=0) (hpl:∀ o∈os,plainO o) (hm:m10840 pu n (args++os.map encO)=some z):args.length≤58∧Run tt call (tabs.length+0) c84_35 (Fr.made 58 args) (subHeap tabs os) (FinO tt tabs.length 0 [.tmp 4] z):=by
 subst hcall
 have hq:=len_cons ha;clear ha;obtain⟨a0,args,rfl,ha⟩:=hq
 have hq:=len_cons ha;clear ha;obtain⟨a1,args,rfl,ha⟩:=hq
 obtain rfl:=len_nil ha
 obtain rfl:=len_nil hk
 replace hm:m10840 pu n [a0,a1]=some z:=hm
 unfold m10840 at hm
 replace hm:(oo (vAgg a0) none fun l0=>(ll l0 none fun v0 l0=>(ll l0 none fun v1 l0=>(ll l0 (oo (toI .i64 v0) none fun x0=>(oo (toSl 1 v1) none fun s0=>(oo (toI .i64 a1) none fun x1=>(m10840_ pu n x0 s0 x1)))) fun _ _=>none))))=some z:=hm
 replace hm:=inv_vAgg hm;obtain⟨l0,rfl,hm⟩:=hm
 replace hm:=ll_uncons hm;obtain⟨v0,l3958_0,rfl,hm⟩:=hm
 replace hm:=ll_uncons hm;obtain⟨v1,l3958_1,rfl,hm⟩:=hm
 replace hm:=ll_end hm;obtain⟨rfl,hm⟩:=hm
 replace hm:=inv_toI hm;obtain⟨x0,rfl,hm⟩:=hm
 replace hm:=inv_toSl hm;obtain⟨s0,rfl,hm⟩:=hm
 replace hm:=inv_toI hm;obtain⟨x1,rfl,hm⟩:=hm
 refine⟨by simp,?_⟩
 exact .same (F':=(fr 58 [(0,(.agg ⟨[zI x0,Sl.v 1 s0]⟩)),(1,zI x1)])) (H':=(hp 0 [])) (by kernel_rfl) (by kernel_rfl) (q10840 pu n x0 s0 x1 hm)
end
end Go.RgHM
