/- Made from wip. -/
import Derived.Test.YtenlanbdolnhhaaRgHMod0x
import Derived.Test.YtenlanbdolnhhaaRgHMod1
import Derived.Test.YtenlanbdolnhhaaRgHMod2
import Derived.Test.YtenlanbdolnhhaaRgHMod3
import Derived.Test.YtenlanbdolnhhaaRgHMod4
import Derived.Test.YtenlanbdolnhhaaRgHMod5
import Derived.Test.YtenlanbdolnhhaaRgHMod6

set_option maxRecDepth 100000
set_option maxHeartbeats 20000000
set_option linter.unusedVariables false
namespace Go.RgHM
open Go.Sp Go.RgH
noncomputable section
def m10811_0 (pu:PureF) (n:Nat) (s0:Sl) (n0 c0:Nat) (q1:LV):OV:=
 (bb (allL closed1 q1) (some (.tuple ⟨[(.bool true),(.agg ⟨[Sl.v 1 s0]⟩),(.agg ⟨[(.slice (some ⟨3,0,some 2⟩) n0 c0)]⟩),deadV,(.agg ⟨q1⟩)]⟩)) none)
def m10811_2 (pu:PureF) (n:Nat) (ih0:Int→Int→Sl→Nat→Nat→Int→Int→LV→OV) (z1 z2:Int) (b0:Bool) (s0:Sl) (n0 c0:Nat) (z3 z4:Int) (q1:LV):OV:=
 (bb b0 (bb (allL closed1 q1) (some (.tuple ⟨[(.bool false),(.agg ⟨[Sl.v 1 s0]⟩),(.agg ⟨[(.slice (some ⟨3,0,some 2⟩) n0 c0)]⟩),deadV,(.agg ⟨q1⟩)]⟩)) none) (bb (allL closed1 q1) (ih0 z1 (wrapF .i64 (Int.add z2 (1:Int))) s0 n0 c0 z3 z4 q1) none))
def b10811_1 (pu:PureF) (n:Nat) (ih0:Int→Int→Sl→Nat→Nat→Int→Int→LV→OV) (z1 z2:Int) (s0:Sl) (n0 c0:Nat) (z3 z4:Int) (q1:LV):OV:=
 (bb (allL closed1 q1) (bb (nt (ilt z3 (wrapF .i64 (Int.add z2 z1)))) (oo (toN z2) none fun k1=>(oo (pu 10850 [(.agg ⟨[.int .i64 z3,(.int .u32 (aor .u32 z4 (shlI .u32 (1:Int) k1)))]⟩),(.pointer (some ⟨0,0,none⟩)),(.agg ⟨[Sl.v 1 s0]⟩)]) none fun v0=>(oo (vTup v0) none fun l0=>(ll l0 none fun v1 l0=>(ll l0 none fun v2 l0=>(ll l0 (oo (vBool v1) none fun b0=>(oo (vAgg v2) none fun l1=>(ll l1 none fun v3 l1=>(ll l1 (oo (toSl 1 v3) none fun s1=>(bb b0 (bb (orr (Nat.ble 2 c0) (nilL q1)) (bb (allL closed1 q1) (oo (pu 10811 [(.agg ⟨[.int .i64 z3,(.int .u32 (aor .u32 z4 (shlI .u32 (1:Int) k1)))]⟩),(.int .i64 (wrapF .i64 (Int.add (Int.ofNat k1) (1:Int)))),(.int .i64 (wrapF .i64 (Int.sub z1 (1:Int)))),(.func (.func 85) ⟨[]⟩ ⟨[(.pointer (some ⟨0,0,none⟩))]⟩),(.func (.func 87) ⟨[]⟩ ⟨[(.pointer (some ⟨0,0,none⟩)),(.pointer (some ⟨1,0,none⟩))]⟩),(.agg ⟨[Sl.v 1 s1]⟩),(.agg ⟨[(.slice (some ⟨2,0,some 2⟩) n0 c0)]⟩),(.agg ⟨q1⟩)]) none fun v4=>(oo (vTup v4) none fun l2=>(ll l2 none fun v5 l2=>(ll l2 none fun v6 l2=>(ll l2 none fun v7 l2=>(ll l2 none fun v8 l2=>(ll l2 none fun v9 l2=>(ll l2 (oo (vBool v5) none fun b1=>(oo (vAgg v6) none fun l3=>(ll l3 none fun v10 l3=>(ll l3 (oo (toSl 1 v10) none fun s2=>(oo (vAgg v7) none fun l4=>(ll l4 none fun v11 l4=>(ll l4 (oo (toSc 3 0 2 v11) none fun y0=>(bb (isDead v8) (oo (vAgg v9) none fun q2=>(bb (allL closed1 q2) (bb (allL closed1 q2) (m10811_2 pu n ih0 z1 (Int.ofNat k1) (nt b1) s2 (NC.n y0) (NC.c y0) z3 z4 q2) none) none)) none)) fun _ _=>none)))) fun _ _=>none)))) fun _ _=>none)))))))) none) none) (m10811_2 pu n ih0 z1 (Int.ofNat k1) false s1 n0 c0 z3 z4 q1))) fun _ _=>none)))) fun _ _=>none)))))) (m10811_0 pu n s0 n0 c0 q1)) none)
def l10811_1 (pu:PureF) (n w:Nat):Int→Int→Sl→Nat→Nat→Int→Int→LV→OV:=
 Nat.rec (motive:=fun _=>Int→Int→Sl→Nat→Nat→Int→Int→LV→OV) (fun _ _ _ _ _ _ _ _=>none) (fun _ ih0=>b10811_1 pu n ih0) w
def m10811_ (pu:PureF) (n:Nat) (z1 z2 z3 z4:Int) (s0:Sl) (n0 c0:Nat) (q1:LV):OV:=
 (bb (allL closed1 q1) (bb (ieq z4 (0:Int)) (bb (orr (Nat.ble 2 c0) (nilL q1)) (bb (allL closed1 q1) (oo (pu 10870 [(.agg ⟨[.int .i64 z1,.int .u32 z2]⟩),(.pointer (some ⟨0,0,none⟩)),(.pointer (some ⟨1,0,none⟩)),(.agg ⟨[Sl.v 1 s0]⟩),(.agg ⟨[(.slice (some ⟨2,0,some 2⟩) n0 c0)]⟩),(.agg ⟨q1⟩)]) none fun v0=>(oo (vTup v0) none fun l0=>(ll l0 none fun v1 l0=>(ll l0 none fun v2 l0=>(ll l0 none fun v3 l0=>(ll l0 none fun v4 l0=>(ll l0 none fun v5 l0=>(ll l0 (oo (vBool v1) none fun b0=>(oo (vAgg v2) none fun l1=>(ll l1 none fun v6 l1=>(ll l1 (oo (toSl 1 v6) none fun s1=>(oo (vAgg v3) none fun l2=>(ll l2 none fun v7 l2=>(ll l2 (oo (toSc 3 0 2 v7) none fun y0=>(bb (isDead v4) (oo (vAgg v5) none fun q2=>(bb (allL closed1 q2) (bb (allL closed1 q2) (some (.tuple ⟨[(.bool b0),(.agg ⟨[Sl.v 1 s1]⟩),(.agg ⟨[(.slice (some ⟨3,0,some 2⟩) (NC.n y0) (NC.c y0))]⟩),deadV,(.agg ⟨q2⟩)]⟩)) none) none)) none)) fun _ _=>none)))) fun _ _=>none)))) fun _ _=>none)))))))) none) none) (l10811_1 pu n n z4 z3 s0 n0 c0 z1 z2 q1)) none)
def m10811 (pu:PureF) (n:Nat) (args:LV):OV:=
 (ll args none fun a0 args=>(ll args none fun a1 args=>(ll args none fun a2 args=>(ll args none fun a3 args=>(ll args none fun a4 args=>(ll args none fun o0 args=>(ll args none fun o1 args=>(ll args none fun o2 args=>(ll args (oo (vAgg a0) none fun l0=>(ll l0 none fun v0 l0=>(ll l0 none fun v1 l0=>(ll l0 (oo (toI .i64 v0) none fun x0=>(oo (toI .u32 v1) none fun x1=>(oo (toI .i64 a1) none fun x2=>(oo (toI .i64 a2) none fun x3=>(oo (toFn 85 0 a3) none fun l1=>(ll l1 none fun v2 l1=>(ll l1 (bb (isPt v2 0 0) (oo (toFn 87 0 a4) none fun l2=>(ll l2 none fun v3 l2=>(ll l2 none fun v4 l2=>(ll l2 (bb (isPt v3 0 0) (bb (isPt v4 1 0) (oo (vAgg o0) none fun l3=>(ll l3 none fun v5 l3=>(ll l3 (oo (toSl 1 v5) none fun s0=>(oo (vAgg o1) none fun l4=>(ll l4 none fun v6 l4=>(ll l4 (oo (toSc 2 0 2 v6) none fun y0=>(oo (vAgg o2) none fun q1=>(m10811_ pu n x0 x1 x2 x3 s0 (NC.n y0) (NC.c y0) q1))) fun _ _=>none)))) fun _ _=>none))) none) none) fun _ _=>none)))) none) fun _ _=>none))))))) fun _ _=>none)))) fun _ _=>none)))))))))
theorem w10811_0 (pu:PureF) (n:Nat) (s0:Sl) (n0 c0:Nat) (q1:LV) {v:Value} (hm:m10811_0 pu n s0 n0 c0 q1=some v):Run tt (callP tabs isP pu (inl pu)) 3 c81_27 (fr 48 []) (hp 4 [(oC [Sl.v 1 s0]),(oC [sc 3 0 2 n0 c0]),.dead,oC q1]) (FinO tt 0 3 [.tmp 10] v):=by
 unfold m10811_0 at hm
 refine .then (.rK ?_)
 replace hm:=bb_inv hm;obtain⟨h0,hm⟩:=hm
 refine .ghs (fr 48 [(10,zB true)]) (hp 4 [(oC [Sl.v 1 s0]),(oC [sc 3 0 2 n0 c0]),.dead,oC q1]) (.k [3] [false,true,false] [.cell 1 0 false] [10] ⟨trF h0,trivial⟩) ?_
 refine .ghs (fr 48 [(10,zB true)]) (hp 4 [(oC [Sl.v 1 s0]),(oC [sc 3 0 2 n0 c0]),.dead,oC q1]) (.k [3] [false,true,false] [.cell 1 0 false] [10] ⟨trF h0,trivial⟩) ?_
 refine .ret ?_
 exact finO_ret (zB true) [(oC [Sl.v 1 s0]),(oC [sc 3 0 2 n0 c0]),.dead,oC q1] (by kernel_rfl) hm (Nat.le_of_ble_eq_true rfl) (ooAt_cons (pO_c _) (ooAt_cons (pO_c _) (ooAt_cons pO_d (ooAt_cons (pO_c _) ooAt_nil))))
theorem q10811 (pu:PureF) (n:Nat) (z1 z2 z3 z4:Int) (s0:Sl) (n0 c0:Nat) (q1:LV) {v:Value} (hm:m10811_ pu n z1 z2 z3 z4 s0 n0 c0 q1=some v):Run tt (callP tabs isP pu (inl pu)) 3 c81_30 (fr 48 [(0,(.agg ⟨[zI z1,.int .u32 z2]⟩)),(1,zI z3),(2,zI z4),(3,(.func (.func 85) ⟨[]⟩ ⟨[(pt 0 0)]⟩)),(4,(.func (.func 87) ⟨[]⟩ ⟨[(pt 0 0),pt 1 0]⟩))]) (hp 3 [(oC [Sl.v 1 s0]),(oC [sc 2 0 2 n0 c0]),oC q1]) (FinO tt 0 3 [.tmp 10] v):=by
 unfold m10811_ at hm
 refine .ghs (fr 48 [(0,(.agg ⟨[zI z1,.int .u32 z2]⟩)),(1,zI z3),(2,zI z4),(3,(.func (.func 85) ⟨[]⟩ ⟨[(pt 0 0)]⟩)),(4,(.func (.func 87) ⟨[]⟩ ⟨[(pt 0 0),pt 1 0]⟩))]) (hp 4 [(oC [Sl.v 1 s0]),(oC [sc 3 0 2 n0 c0]),.dead,oC q1]) (.mv 4 1 0 2 0 2 n0 c0 [sc 2 0 2 n0 c0] q1 (spA:=false) (ancA:=[]) (ancB:=[]) (v:=(.func (.func 87) ⟨[]⟩ ⟨[(pt 0 0),pt 1 0]⟩)) (by kernel_rfl) (leads_fn 1 (by kernel_rfl) (leads_ptr (off:=0))) (GhS.id _ _)) ?_
 refine .then (.rK ?_)
 replace hm:=bb_inv hm;obtain⟨h0,hm⟩:=hm
 refine .ghs (fr 48 [(1,zI z3),(2,zI z4),(3,(.func (.func 85) ⟨[]⟩ ⟨[(pt 0 0)]⟩)),(4,(.func (.func 87) ⟨[]⟩ ⟨[(pt 0 0),pt 1 0]⟩)),(5,(pt 3 0))]) (hp 5 [(oC [Sl.v 1 s0]),(oC [sc 4 0 2 n0 c0]),.dead,(oC [zI z1,.int .u32 z2]),oC q1]) (.k [3] [false,true,false] [.tmp 5 false,.cell 1 0 false] [1,2,3,4,5] ⟨trF h0,trivial⟩) ?_
 refine .then (.then (.rK (.ghs (fr 48 [(1,zI z3),(2,zI z4),(3,(.func (.func 85) ⟨[]⟩ ⟨[(pt 0 0)]⟩)),(4,(.func (.func 87) ⟨[]⟩ ⟨[(pt 0 0),pt 1 0]⟩)),(5,(pt 3 0)),(14,(zB (ieq z4 (0:Int))))]) (hp 5 [(oC [Sl.v 1 s0]),(oC [sc 4 0 2 n0 c0]),.dead,(oC [zI z1,.int .u32 z2]),oC q1]) (.k [4] [false,true,false] [.tmp 5 false,.cell 1 0 false] [1,2,3,4,5,14] ⟨trF h0,trivial⟩) ?_)))
 replace hm:=bb_cases hm;rcases hm with⟨h1,hm⟩ | ⟨h1,hm⟩
 ·refine ifTt (ieq z4 (0:Int)) h1 ?_
  refine .then ?_
  replace hm:=bb_inv hm;obtain⟨h2,hm⟩:=hm
  replace hm:=bb_inv hm;obtain⟨h3,hm⟩:=hm
  replace hm:=oo_inv hm;obtain⟨v0,h4,hm⟩:=hm
  replace hm:=inv_vTup hm;obtain⟨l0,rfl,hm⟩:=hm
  replace hm:=ll_uncons hm;obtain⟨v1,l4791_0,rfl,hm⟩:=hm
  replace hm:=ll_uncons hm;obtain⟨v2,l4791_1,rfl,hm⟩:=hm
  replace hm:=ll_uncons hm;obtain⟨v3,l4791_2,rfl,hm⟩:=hm
  replace hm:=ll_uncons hm;obtain⟨v4,l4791_3,rfl,hm⟩:=hm
  replace hm:=ll_uncons hm;obtain⟨v5,l4791_4,rfl,hm⟩:=hm
  replace hm:=ll_end hm;obtain⟨rfl,hm⟩:=hm
  replace hm:=inv_vBool hm;obtain⟨b0,rfl,hm⟩:=hm
  replace hm:=inv_vAgg hm;obtain⟨l1,rfl,hm⟩:=hm
  replace hm:=ll_uncons hm;obtain⟨v6,l4800_0,rfl,hm⟩:=hm
  replace hm:=ll_end hm;obtain⟨rfl,hm⟩:=hm
  replace hm:=inv_toSl hm;obtain⟨s1,rfl,hm⟩:=hm
  replace hm:=inv_vAgg hm;obtain⟨l2,rfl,hm⟩:=hm
  replace hm:=ll_uncons hm;obtain⟨v7,l4805_0,rfl,hm⟩:=hm
  replace hm:=ll_end hm;obtain⟨rfl,hm⟩:=hm
  replace hm:=oo_inv hm;obtain⟨y0,h5,hm⟩:=hm
  obtain rfl:=toSc_some h5
  replace hm:=bb_inv hm;obtain⟨h6,hm⟩:=hm
  replace hm:=inv_vAgg hm;obtain⟨q2,rfl,hm⟩:=hm
  replace hm:=bb_inv hm;obtain⟨h7,hm⟩:=hm
  refine .reg (eC 2 (objG tabs [[none,none],[none],[none]] 3 [.tmp 1 false,.tmp 2 true,.cell 1 0 false] [false,true,false,false] (pu 10870) [(.agg ⟨[zI z1,.int .u32 z2]⟩),(pt 0 0),pt 1 0] (hp 5 [(oC [Sl.v 1 s0]),(oC [sc 4 0 2 n0 c0]),.dead,(oC [zI z1,.int .u32 z2]),oC q1])) (objG_eq (as:=[(.agg ⟨[zI z1,.int .u32 z2]⟩),(pt 0 0),pt 1 0]) (H1:=(hp 5 [(oC [Sl.v 1 s0]),(oC [sc 4 0 2 n0 c0]),.dead,(oC [zI z1,.int .u32 z2]),oC q1])) (gvAL_c (gvA_a (gvL_c gv_n (gvL_c gv_n gvL_n))) (gvAL_c (gvA_1 gv_n) (gvAL_c (gvA_1 gv_n) gvAL_n))) (objF_eq (H2:=(hp 6 [(oC [Sl.v 1 s1]),(oC [(sc 5 0 2 (NC.n y0) (NC.c y0))]),.dead,(oC [zI z1,.int .u32 z2]),.dead,oC q2])) (v:=(zB b0)) (v':=(zB b0)) [some 0,some 1,some 4] [(false,some 0),(true,some 1),(false,some 4)] [(oC [Sl.v 1 s0]),(oC [sc 2 0 2 n0 c0]),oC q1] [(.agg ⟨[zI z1,.int .u32 z2]⟩),(pt 0 0),pt 1 0] [(.agg ⟨[Sl.v 1 s1]⟩),(.agg ⟨[(sc 3 0 2 (NC.n y0) (NC.c y0))]⟩),v4,(.agg ⟨q2⟩)] [(oC [Sl.v 1 s1]),(oC [(sc 3 0 2 (NC.n y0) (NC.c y0))]),.dead,oC q2] [some 0,some 1,none,none,some 2,some 3] [(false,(oC [Sl.v 1 s1])),(true,(oC [(sc 3 0 2 (NC.n y0) (NC.c y0))])),(false,.dead),(false,oC q2)] [(oC [Sl.v 1 s1]),(oC [(sc 5 0 2 (NC.n y0) (NC.c y0))]),.dead,oC q2] (trE (by kernel_rfl) (rootL h2 rfl)) (mapO_c (by kernel_rfl) (mapO_c (by kernel_rfl) (mapO_c (nO_list (anc:=[]) h3) mapO_n))) (Eq.trans (by kernel_rfl) h4) (mapO_c rfl (mapO_c rfl (mapO_c (dead_dec h6) (mapO_c rfl mapO_n)))) (mapO_c (by kernel_rfl) (mapO_c (by kernel_rfl) (mapO_c (by kernel_rfl) (mapO_c (bO_list h7) mapO_n)))))) (eE)) ?_
  replace hm:=bb_inv hm;obtain⟨h8,hm⟩:=hm
  refine .ghs (fr 48 [(10,zB b0)]) (hp 4 [(oC [Sl.v 1 s1]),(oC [(sc 3 0 2 (NC.n y0) (NC.c y0))]),.dead,oC q2]) (.k [5] [false,true,false] [.cell 1 0 false] [10] ⟨trF h8,trivial⟩) ?_
  refine .ghs (fr 48 [(10,zB b0)]) (hp 4 [(oC [Sl.v 1 s1]),(oC [(sc 3 0 2 (NC.n y0) (NC.c y0))]),.dead,oC q2]) (.k [3] [false,true,false] [.cell 1 0 false] [10] ⟨trF h8,trivial⟩) ?_
  refine .ret ?_
  exact finO_ret (zB b0) [(oC [Sl.v 1 s1]),(oC [(sc 3 0 2 (NC.n y0) (NC.c y0))]),.dead,oC q2] (by kernel_rfl) hm (Nat.le_of_ble_eq_true rfl) (ooAt_cons (pO_c _) (ooAt_cons (pO_c _) (ooAt_cons pO_d (ooAt_cons (pO_c _) ooAt_nil))))
 ·refine ifFt (ieq z4 (0:Int)) h1 ?_
  refine .skip (.ghs (fr 48 [(1,zI z3),(2,zI z4),(3,(.func (.func 85) ⟨[]⟩ ⟨[(pt 0 0)]⟩)),(4,(.func (.func 87) ⟨[]⟩ ⟨[(pt 0 0),pt 1 0]⟩)),(5,(pt 3 0))]) (hp 5 [(oC [Sl.v 1 s0]),(oC [sc 4 0 2 n0 c0]),.dead,(oC [zI z1,.int .u32 z2]),oC q1]) (.k [4] [false,true,false] [.tmp 5 false,.cell 1 0 false] [1,2,3,4,5] ⟨trF h0,trivial⟩) ?_)
  refine .join (v:=v) (fun y:Sl×Nat×Nat×LV=>((fr 48 []),(hp 4 [(oC [(Sl.v 1 y.1)]),(oC [(sc 3 0 2 y.2.1 y.2.2.1)]),.dead,(oC y.2.2.2)]))) (fun y=>m10811_0 pu n y.1 y.2.1 y.2.2.1 y.2.2.2) ?_ ?_
  ·rintro⟨s2,n1,c1,q3⟩ hm
   exact w10811_0 pu n s2 n1 c1 q3 hm
  ·refine .then (.rK (.ghs (fr 48 [(2,zI z4),(3,(.func (.func 85) ⟨[]⟩ ⟨[(pt 0 0)]⟩)),(4,(.func (.func 87) ⟨[]⟩ ⟨[(pt 0 0),pt 1 0]⟩)),(5,(pt 3 0)),(11,zI z3)]) (hp 5 [(oC [Sl.v 1 s0]),(oC [sc 4 0 2 n0 c0]),.dead,(oC [zI z1,.int .u32 z2]),oC q1]) (.k [4] [false,true,false] [.tmp 5 false,.cell 1 0 false] [2,3,4,5,11] ⟨trF h0,trivial⟩) ?_))
   refine .block (.loopM (v:=v) (fun y:Int×Int×Sl×Nat×Nat×Int×Int×LV=>((fr 48 [(2,(zI y.1)),(3,(.func (.func 85) ⟨[]⟩ ⟨[(pt 0 0)]⟩)),(4,(.func (.func 87) ⟨[]⟩ ⟨[(pt 0 0),pt 1 0]⟩)),(5,(pt 3 0)),(11,(zI y.2.1))]),(hp 5 [(oC [(Sl.v 1 y.2.2.1)]),(oC [(sc 4 0 2 y.2.2.2.1 y.2.2.2.2.1)]),.dead,(oC [(zI y.2.2.2.2.2.1),(.int .u32 y.2.2.2.2.2.2.1)]),(oC y.2.2.2.2.2.2.2)]))) (fun w y=>l10811_1 pu n w y.1 y.2.1 y.2.2.1 y.2.2.2.1 y.2.2.2.2.1 y.2.2.2.2.2.1 y.2.2.2.2.2.2.1 y.2.2.2.2.2.2.2) n ⟨(z4,z3,s0,n0,c0,z1,z2,q1),hm,(.k [4] [false,true,false] [.tmp 5 false,.cell 1 0 false] [2,3,4,5,11] ⟨trF h0,trivial⟩)⟩ (fun _=>rfl) ?_)
   rintro w0 ⟨z5,z6,s3,n2,c2,z7,z8,q4⟩ hm
   replace hm:b10811_1 pu n (l10811_1 pu n w0) z5 z6 s3 n2 c2 z7 z8 q4=some v:=hm
   unfold b10811_1 at hm
   refine .then (.then (.rK ?_))
   replace hm:=bb_inv hm;obtain⟨h9,hm⟩:=hm
   refine .ghs (fr 48 [(2,zI z5),(3,(.func (.func 85) ⟨[]⟩ ⟨[(pt 0 0)]⟩)),(4,(.func (.func 87) ⟨[]⟩ ⟨[(pt 0 0),pt 1 0]⟩)),(5,(pt 3 0)),(11,zI z6),(24,(zB (nt (ilt z7 (wrapF .i64 (Int.add z6 z5))))))]) (hp 5 [(oC [Sl.v 1 s3]),(oC [sc 4 0 2 n2 c2]),.dead,(oC [zI z7,.int .u32 z8]),oC q4]) (.k [4] [false,true,false] [.tmp 5 false,.cell 1 0 false] [2,3,4,5,11,24] ⟨trF h9,trivial⟩) ?_
   replace hm:=bb_cases hm;rcases hm with⟨h10,hm⟩ | ⟨h10,hm⟩
   ·refine ifTt (nt (ilt z7 (wrapF .i64 (Int.add z6 z5)))) h10 ?_
    refine .skip (.ghs (fr 48 [(2,zI z5),(3,(.func (.func 85) ⟨[]⟩ ⟨[(pt 0 0)]⟩)),(4,(.func (.func 87) ⟨[]⟩ ⟨[(pt 0 0),pt 1 0]⟩)),(5,(pt 3 0)),(11,zI z6)]) (hp 5 [(oC [Sl.v 1 s3]),(oC [sc 4 0 2 n2 c2]),.dead,(oC [zI z7,.int .u32 z8]),oC q4]) (.k [4] [false,true,false] [.tmp 5 false,.cell 1 0 false] [2,3,4,5,11] ⟨trF h9,trivial⟩) ?_)
    refine .then (.block (.then (.rK (.ghs (fr 48 [(2,zI z5),(3,(.func (.func 85) ⟨[]⟩ ⟨[(pt 0 0)]⟩)),(4,(.func (.func 87) ⟨[]⟩ ⟨[(pt 0 0),pt 1 0]⟩)),(5,(pt 3 0)),(11,zI z6),(12,(pt 4 0))]) (hp 6 [(oC [Sl.v 1 s3]),(oC [sc 5 0 2 n2 c2]),.dead,(oC [zI z7,.int .u32 z8]),(oC [zI z7,.int .u32 z8]),oC q4]) (.k [4] [false,true,false] [.tmp 5 false,.tmp 12 false,.cell 1 0 false] [2,3,4,5,11,12] ⟨trF h9,trivial⟩) ?_))))
    refine .then ?_
    replace hm:=oo_inv hm;obtain⟨k1,h11,hm⟩:=hm
    obtain rfl:=toN_some h11
    refine .rK (.ghs (fr 48 [(2,zI z5),(3,(.func (.func 85) ⟨[]⟩ ⟨[(pt 0 0)]⟩)),(4,(.func (.func 87) ⟨[]⟩ ⟨[(pt 0 0),pt 1 0]⟩)),(5,(pt 3 0)),(11,(zI (Int.ofNat k1))),(12,(pt 4 0))]) (hp 6 [(oC [Sl.v 1 s3]),(oC [sc 5 0 2 n2 c2]),.dead,(oC [zI z7,.int .u32 z8]),(oC [zI z7,(.int .u32 (aor .u32 z8 (shlI .u32 (1:Int) k1)))]),oC q4]) (.k [5] [false,true,false] [.tmp 5 false,.tmp 12 false,.cell 1 0 false] [2,3,4,5,11,12] ⟨trF h9,trivial⟩) ?_)
    refine .join (v:=v) (fun y:Int×Int×Bool×Sl×Nat×Nat×Int×Int×LV=>((fr 48 [(2,(zI y.1)),(3,(.func (.func 85) ⟨[]⟩ ⟨[(pt 0 0)]⟩)),(4,(.func (.func 87) ⟨[]⟩ ⟨[(pt 0 0),pt 1 0]⟩)),(5,(pt 3 0)),(11,(zI y.2.1)),(47,(zB y.2.2.1))]),(hp 5 [(oC [(Sl.v 1 y.2.2.2.1)]),(oC [(sc 4 0 2 y.2.2.2.2.1 y.2.2.2.2.2.1)]),.dead,(oC [(zI y.2.2.2.2.2.2.1),(.int .u32 y.2.2.2.2.2.2.2.1)]),(oC y.2.2.2.2.2.2.2.2)]))) (fun y=>m10811_2 pu n (l10811_1 pu n w0) y.1 y.2.1 y.2.2.1 y.2.2.2.1 y.2.2.2.2.1 y.2.2.2.2.2.1 y.2.2.2.2.2.2.1 y.2.2.2.2.2.2.2.1 y.2.2.2.2.2.2.2.2) ?_ ?_
    ·rintro⟨z9,z10,b1,s4,n3,c3,z11,z12,q5⟩ hm
     unfold m10811_2 at hm
     replace hm:=bb_cases hm;rcases hm with⟨h12,hm⟩ | ⟨h12,hm⟩
     ·refine .ifT b1 (by kernel_rfl) h12 ?_
      refine .then (.rK ?_)
      replace hm:=bb_inv hm;obtain⟨h13,hm⟩:=hm
      refine .ghs (fr 48 [(10,zB false)]) (hp 4 [(oC [Sl.v 1 s4]),(oC [sc 3 0 2 n3 c3]),.dead,oC q5]) (.k [4] [false,true,false] [.cell 1 0 false] [10] ⟨trF h13,trivial⟩) ?_
      refine .ghs (fr 48 [(10,zB false)]) (hp 4 [(oC [Sl.v 1 s4]),(oC [sc 3 0 2 n3 c3]),.dead,oC q5]) (.k [3] [false,true,false] [.cell 1 0 false] [10] ⟨trF h13,trivial⟩) ?_
      refine .ret ?_
      exact finO_ret (zB false) [(oC [Sl.v 1 s4]),(oC [sc 3 0 2 n3 c3]),.dead,oC q5] (by kernel_rfl) hm (Nat.le_of_ble_eq_true rfl) (ooAt_cons (pO_c _) (ooAt_cons (pO_c _) (ooAt_cons pO_d (ooAt_cons (pO_c _) ooAt_nil))))
     ·refine .ifF b1 (by kernel_rfl) h12 ?_
      refine .skip ?_
      replace hm:=bb_inv hm;obtain⟨h14,hm⟩:=hm
      refine .ghs (fr 48 [(2,zI z9),(3,(.func (.func 85) ⟨[]⟩ ⟨[(pt 0 0)]⟩)),(4,(.func (.func 87) ⟨[]⟩ ⟨[(pt 0 0),pt 1 0]⟩)),(5,(pt 3 0)),(11,zI z10)]) (hp 5 [(oC [Sl.v 1 s4]),(oC [sc 4 0 2 n3 c3]),.dead,(oC [zI z11,.int .u32 z12]),oC q5]) (.k [4] [false,true,false] [.tmp 5 false,.cell 1 0 false] [2,3,4,5,11] ⟨trF h14,trivial⟩) ?_
      refine .rK ?_
      exact⟨(z9,(wrapF .i64 (Int.add z10 (1:Int))),s4,n3,c3,z11,z12,q5),hm,(.k [4] [false,true,false] [.tmp 5 false,.cell 1 0 false] [2,3,4,5,11] ⟨trF h14,trivial⟩)⟩
    ·replace hm:=oo_inv hm;obtain⟨v8,h15,hm⟩:=hm
     replace hm:=inv_vTup hm;obtain⟨l3,rfl,hm⟩:=hm
     replace hm:=ll_uncons hm;obtain⟨v9,l5807_0,rfl,hm⟩:=hm
     replace hm:=ll_uncons hm;obtain⟨v10,l5807_1,rfl,hm⟩:=hm
     replace hm:=ll_end hm;obtain⟨rfl,hm⟩:=hm
     replace hm:=inv_vBool hm;obtain⟨b2,rfl,hm⟩:=hm
     replace hm:=inv_vAgg hm;obtain⟨l4,rfl,hm⟩:=hm
     replace hm:=ll_uncons hm;obtain⟨v11,l5813_0,rfl,hm⟩:=hm
     replace hm:=ll_end hm;obtain⟨rfl,hm⟩:=hm
     replace hm:=inv_toSl hm;obtain⟨s5,rfl,hm⟩:=hm
     replace hm:=bb_cases hm;rcases hm with⟨h16,hm⟩ | ⟨h16,hm⟩
     ·replace hm:=bb_inv hm;obtain⟨h17,hm⟩:=hm
      replace hm:=bb_inv hm;obtain⟨h18,hm⟩:=hm
      replace hm:=oo_inv hm;obtain⟨v12,h19,hm⟩:=hm
      replace hm:=inv_vTup hm;obtain⟨l5,rfl,hm⟩:=hm
      replace hm:=ll_uncons hm;obtain⟨v13,l5831_0,rfl,hm⟩:=hm
      replace hm:=ll_uncons hm;obtain⟨v14,l5831_1,rfl,hm⟩:=hm
      replace hm:=ll_uncons hm;obtain⟨v15,l5831_2,rfl,hm⟩:=hm
      replace hm:=ll_uncons hm;obtain⟨v16,l5831_3,rfl,hm⟩:=hm
      replace hm:=ll_uncons hm;obtain⟨v17,l5831_4,rfl,hm⟩:=hm
      replace hm:=ll_end hm;obtain⟨rfl,hm⟩:=hm
      replace hm:=inv_vBool hm;obtain⟨b3,rfl,hm⟩:=hm
      replace hm:=inv_vAgg hm;obtain⟨l6,rfl,hm⟩:=hm
      replace hm:=ll_uncons hm;obtain⟨v18,l5840_0,rfl,hm⟩:=hm
      replace hm:=ll_end hm;obtain⟨rfl,hm⟩:=hm
      replace hm:=inv_toSl hm;obtain⟨s6,rfl,hm⟩:=hm
      replace hm:=inv_vAgg hm;obtain⟨l7,rfl,hm⟩:=hm
      replace hm:=ll_uncons hm;obtain⟨v19,l5845_0,rfl,hm⟩:=hm
      replace hm:=ll_end hm;obtain⟨rfl,hm⟩:=hm
      replace hm:=oo_inv hm;obtain⟨y1,h20,hm⟩:=hm
      obtain rfl:=toSc_some h20
      replace hm:=bb_inv hm;obtain⟨h21,hm⟩:=hm
      replace hm:=inv_vAgg hm;obtain⟨q6,rfl,hm⟩:=hm
      replace hm:=bb_inv hm;obtain⟨h22,hm⟩:=hm
      refine .reg (eC 2 (objG tabs [[none,none],[none]] 2 [.tmp 1 false] [false] (pu 10850) [(.agg ⟨[zI z7,(.int .u32 (aor .u32 z8 (shlI .u32 (1:Int) k1)))]⟩),(pt 0 0)] (hp 6 [(oC [Sl.v 1 s3]),(oC [sc 5 0 2 n2 c2]),.dead,(oC [zI z7,.int .u32 z8]),(oC [zI z7,(.int .u32 (aor .u32 z8 (shlI .u32 (1:Int) k1)))]),oC q4])) (show _=some ((zB true),_) from (by have hz:objG tabs [[none,none],[none]] 2 [.tmp 1 false] [false] (pu 10850) [(.agg ⟨[zI z7,(.int .u32 (aor .u32 z8 (shlI .u32 (1:Int) k1)))]⟩),(pt 0 0)] (hp 6 [(oC [Sl.v 1 s3]),(oC [sc 5 0 2 n2 c2]),.dead,(oC [zI z7,.int .u32 z8]),(oC [zI z7,(.int .u32 (aor .u32 z8 (shlI .u32 (1:Int) k1)))]),oC q4])=some ((zB b2),(hp 6 [(oC [Sl.v 1 s5]),(oC [sc 5 0 2 n2 c2]),.dead,(oC [zI z7,.int .u32 z8]),(oC [zI z7,(.int .u32 (aor .u32 z8 (shlI .u32 (1:Int) k1)))]),oC q4])):=(objG_eq (as:=[(.agg ⟨[zI z7,(.int .u32 (aor .u32 z8 (shlI .u32 (1:Int) k1)))]⟩),(pt 0 0)]) (H1:=(hp 6 [(oC [Sl.v 1 s3]),(oC [sc 5 0 2 n2 c2]),.dead,(oC [zI z7,.int .u32 z8]),(oC [zI z7,(.int .u32 (aor .u32 z8 (shlI .u32 (1:Int) k1)))]),oC q4])) (gvAL_c (gvA_a (gvL_c gv_n (gvL_c gv_n gvL_n))) (gvAL_c (gvA_1 gv_n) gvAL_n)) (objF_eq (H2:=(hp 6 [(oC [Sl.v 1 s5]),(oC [sc 5 0 2 n2 c2]),.dead,(oC [zI z7,.int .u32 z8]),(oC [zI z7,(.int .u32 (aor .u32 z8 (shlI .u32 (1:Int) k1)))]),oC q4])) (v:=(zB b2)) (v':=(zB b2)) [some 0] [(false,some 0)] [(oC [Sl.v 1 s3])] [(.agg ⟨[zI z7,(.int .u32 (aor .u32 z8 (shlI .u32 (1:Int) k1)))]⟩),(pt 0 0)] [(.agg ⟨[Sl.v 1 s5]⟩)] [(oC [Sl.v 1 s5])] [some 0,none,none,none,none,none] [(false,(oC [Sl.v 1 s5]))] [(oC [Sl.v 1 s5])] (by kernel_rfl) (mapO_c (by kernel_rfl) mapO_n) (Eq.trans (by kernel_rfl) h15) (mapO_c rfl mapO_n) (mapO_c (by kernel_rfl) mapO_n)));rw[h16] at hz;exact hz)) (eC 8 (objG tabs [[none,none],[none],[none],[none],[none]] 5 [.cap 3 0 false,.cap 4 1 true,.cell 1 0 false] [false,true,false,false] (pu 10811) [(.agg ⟨[zI z7,(.int .u32 (aor .u32 z8 (shlI .u32 (1:Int) k1)))]⟩),(zI (wrapF .i64 (Int.add (Int.ofNat k1) (1:Int)))),(zI (wrapF .i64 (Int.sub z5 (1:Int)))),(.func (.func 85) ⟨[]⟩ ⟨[(pt 0 0)]⟩),(.func (.func 87) ⟨[]⟩ ⟨[(pt 0 0),pt 1 0]⟩)] (hp 6 [(oC [Sl.v 1 s5]),(oC [sc 5 0 2 n2 c2]),.dead,(oC [zI z7,.int .u32 z8]),(oC [zI z7,(.int .u32 (aor .u32 z8 (shlI .u32 (1:Int) k1)))]),oC q4])) (objG_eq (as:=[(.agg ⟨[zI z7,(.int .u32 (aor .u32 z8 (shlI .u32 (1:Int) k1)))]⟩),(zI (wrapF .i64 (Int.add (Int.ofNat k1) (1:Int)))),(zI (wrapF .i64 (Int.sub z5 (1:Int)))),(.func (.func 85) ⟨[]⟩ ⟨[(pt 0 0)]⟩),(.func (.func 87) ⟨[]⟩ ⟨[(pt 0 0),pt 1 0]⟩)]) (H1:=(hp 6 [(oC [Sl.v 1 s5]),(oC [sc 5 0 2 n2 c2]),.dead,(oC [zI z7,.int .u32 z8]),(oC [zI z7,(.int .u32 (aor .u32 z8 (shlI .u32 (1:Int) k1)))]),oC q4])) (gvAL_c (gvA_a (gvL_c gv_n (gvL_c gv_n gvL_n))) (gvAL_c (gvA_1 gv_n) (gvAL_c (gvA_1 gv_n) (gvAL_c (gvA_1 gv_n) (gvAL_c (gvA_1 gv_n) gvAL_n))))) (objF_eq (H2:=(hp 7 [(oC [Sl.v 1 s6]),(oC [(sc 6 0 2 (NC.n y1) (NC.c y1))]),.dead,(oC [zI z7,.int .u32 z8]),(oC [zI z7,(.int .u32 (aor .u32 z8 (shlI .u32 (1:Int) k1)))]),.dead,oC q6])) (v:=(zB b3)) (v':=(zB b3)) [some 0,some 1,some 5] [(false,some 0),(true,some 1),(false,some 5)] [(oC [Sl.v 1 s5]),(oC [sc 2 0 2 n2 c2]),oC q4] [(.agg ⟨[zI z7,(.int .u32 (aor .u32 z8 (shlI .u32 (1:Int) k1)))]⟩),(zI (wrapF .i64 (Int.add (Int.ofNat k1) (1:Int)))),(zI (wrapF .i64 (Int.sub z5 (1:Int)))),(.func (.func 85) ⟨[]⟩ ⟨[(pt 0 0)]⟩),(.func (.func 87) ⟨[]⟩ ⟨[(pt 0 0),pt 1 0]⟩)] [(.agg ⟨[Sl.v 1 s6]⟩),(.agg ⟨[(sc 3 0 2 (NC.n y1) (NC.c y1))]⟩),v16,(.agg ⟨q6⟩)] [(oC [Sl.v 1 s6]),(oC [(sc 3 0 2 (NC.n y1) (NC.c y1))]),.dead,oC q6] [some 0,some 1,none,none,none,some 2,some 3] [(false,(oC [Sl.v 1 s6])),(true,(oC [(sc 3 0 2 (NC.n y1) (NC.c y1))])),(false,.dead),(false,oC q6)] [(oC [Sl.v 1 s6]),(oC [(sc 6 0 2 (NC.n y1) (NC.c y1))]),.dead,oC q6] (trE (by kernel_rfl) (rootL h17 rfl)) (mapO_c (by kernel_rfl) (mapO_c (by kernel_rfl) (mapO_c (nO_list (anc:=[]) h18) mapO_n))) (Eq.trans (by kernel_rfl) h19) (mapO_c rfl (mapO_c rfl (mapO_c (dead_dec h21) (mapO_c rfl mapO_n)))) (mapO_c (by kernel_rfl) (mapO_c (by kernel_rfl) (mapO_c (by kernel_rfl) (mapO_c (bO_list h22) mapO_n)))))) (eE))) ?_
      replace hm:=bb_inv hm;obtain⟨h23,hm⟩:=hm
      exact⟨(z5,(Int.ofNat k1),(nt b3),s6,(NC.n y1),(NC.c y1),z7,z8,q6),hm,(.k [6] [false,true,false] [.tmp 5 false,.cell 1 0 false] [2,3,4,5,11,47] ⟨trF h23,trivial⟩)⟩
     ·refine .reg (eC 2 (objG tabs [[none,none],[none]] 2 [.tmp 1 false] [false] (pu 10850) [(.agg ⟨[zI z7,(.int .u32 (aor .u32 z8 (shlI .u32 (1:Int) k1)))]⟩),(pt 0 0)] (hp 6 [(oC [Sl.v 1 s3]),(oC [sc 5 0 2 n2 c2]),.dead,(oC [zI z7,.int .u32 z8]),(oC [zI z7,(.int .u32 (aor .u32 z8 (shlI .u32 (1:Int) k1)))]),oC q4])) (show _=some ((zB false),_) from (by have hz:objG tabs [[none,none],[none]] 2 [.tmp 1 false] [false] (pu 10850) [(.agg ⟨[zI z7,(.int .u32 (aor .u32 z8 (shlI .u32 (1:Int) k1)))]⟩),(pt 0 0)] (hp 6 [(oC [Sl.v 1 s3]),(oC [sc 5 0 2 n2 c2]),.dead,(oC [zI z7,.int .u32 z8]),(oC [zI z7,(.int .u32 (aor .u32 z8 (shlI .u32 (1:Int) k1)))]),oC q4])=some ((zB b2),(hp 6 [(oC [Sl.v 1 s5]),(oC [sc 5 0 2 n2 c2]),.dead,(oC [zI z7,.int .u32 z8]),(oC [zI z7,(.int .u32 (aor .u32 z8 (shlI .u32 (1:Int) k1)))]),oC q4])):=(objG_eq (as:=[(.agg ⟨[zI z7,(.int .u32 (aor .u32 z8 (shlI .u32 (1:Int) k1)))]⟩),(pt 0 0)]) (H1:=(hp 6 [(oC [Sl.v 1 s3]),(oC [sc 5 0 2 n2 c2]),.dead,(oC [zI z7,.int .u32 z8]),(oC [zI z7,(.int .u32 (aor .u32 z8 (shlI .u32 (1:Int) k1)))]),oC q4])) (gvAL_c (gvA_a (gvL_c gv_n (gvL_c gv_n gvL_n))) (gvAL_c (gvA_1 gv_n) gvAL_n)) (objF_eq (H2:=(hp 6 [(oC [Sl.v 1 s5]),(oC [sc 5 0 2 n2 c2]),.dead,(oC [zI z7,.int .u32 z8]),(oC [zI z7,(.int .u32 (aor .u32 z8 (shlI .u32 (1:Int) k1)))]),oC q4])) (v:=(zB b2)) (v':=(zB b2)) [some 0] [(false,some 0)] [(oC [Sl.v 1 s3])] [(.agg ⟨[zI z7,(.int .u32 (aor .u32 z8 (shlI .u32 (1:Int) k1)))]⟩),(pt 0 0)] [(.agg ⟨[Sl.v 1 s5]⟩)] [(oC [Sl.v 1 s5])] [some 0,none,none,none,none,none] [(false,(oC [Sl.v 1 s5]))] [(oC [Sl.v 1 s5])] (by kernel_rfl) (mapO_c (by kernel_rfl) mapO_n) (Eq.trans (by kernel_rfl) h15) (mapO_c rfl mapO_n) (mapO_c (by kernel_rfl) mapO_n)));rw[h16] at hz;exact hz)) (eE)) ?_
      exact⟨(z5,(Int.ofNat k1),false,s5,n2,c2,z7,z8,q4),hm,(.k [5] [false,true,false] [.tmp 5 false,.cell 1 0 false] [2,3,4,5,11,47] ⟨trF h9,trivial⟩)⟩
   ·refine ifFt (nt (ilt z7 (wrapF .i64 (Int.add z6 z5)))) h10 ?_
    refine .exit ?_
    exact⟨(s3,n2,c2,q4),hm,(.k [4] [false,true,false] [.cell 1 0 false] [] ⟨trF h9,trivial⟩)⟩
theorem r10811 {call:CallF} (pu:PureF) (n:Nat) (hcall:call=callP tabs isP pu (inl pu)) {args:LV} {os:List AObj} {z:Value} (ha:args.length=5) (hk:os.length=3) (hpl:∀ o∈os,plainO o) (hm:m10811 pu n (args++os.map encO)=some z):args.length≤48∧Run tt call (tabs.length+3) c81_30 (Fr.made 48 args) (subHeap tabs os) (FinO tt tabs.length 3 [.tmp 10] z):=by
 subst hcall
 have hq:=len_cons ha;clear ha;obtain⟨a0,args,rfl,ha⟩:=hq
 have hq:=len_cons ha;clear ha;obtain⟨a1,args,rfl,ha⟩:=hq
 have hq:=len_cons ha;clear ha;obtain⟨a2,args,rfl,ha⟩:=hq
 have hq:=len_cons ha;clear ha;obtain⟨a3,args,rfl,ha⟩:=hq
 have hq:=len_cons ha;clear ha;obtain⟨a4,args,rfl,ha⟩:=hq
 obtain rfl:=len_nil ha
 have hq:=len_cons hk;clear hk;obtain⟨b0,os,rfl,hk⟩:=hq
 have hp0:plainO b0:=hpl b0 (by simp)
 have hq:=len_cons hk;clear hk;obtain⟨b1,os,rfl,hk⟩:=hq
 have hp1:plainO b1:=hpl b1 (by simp)
 have hq:=len_cons hk;clear hk;obtain⟨b2,os,rfl,hk⟩:=hq
 have hp2:plainO b2:=hpl b2 (by simp)
 obtain rfl:=len_nil hk
 replace hm:m10811 pu n [a0,a1,a2,a3,a4,encO b0,encO b1,encO b2]=some z:=hm
 unfold m10811 at hm
 replace hm:(oo (vAgg a0) none fun l0=>(ll l0 none fun v0 l0=>(ll l0 none fun v1 l0=>(ll l0 (oo (toI .i64 v0) none fun x0=>(oo (toI .u32 v1) none fun x1=>(oo (toI .i64 a1) none fun x2=>(oo (toI .i64 a2) none fun x3=>(oo (toFn 85 0 a3) none fun l1=>(ll l1 none fun v2 l1=>(ll l1 (bb (isPt v2 0 0) (oo (toFn 87 0 a4) none fun l2=>(ll l2 none fun v3 l2=>(ll l2 none fun v4 l2=>(ll l2 (bb (isPt v3 0 0) (bb (isPt v4 1 0) (oo (vAgg (encO b0)) none fun l3=>(ll l3 none fun v5 l3=>(ll l3 (oo (toSl 1 v5) none fun s0=>(oo (vAgg (encO b1)) none fun l4=>(ll l4 none fun v6 l4=>(ll l4 (oo (toSc 2 0 2 v6) none fun y0=>(oo (vAgg (encO b2)) none fun q1=>(m10811_ pu n x0 x1 x2 x3 s0 (NC.n y0) (NC.c y0) q1))) fun _ _=>none)))) fun _ _=>none))) none) none) fun _ _=>none)))) none) fun _ _=>none))))))) fun _ _=>none))))=some z:=hm
 replace hm:=inv_vAgg hm;obtain⟨l0,rfl,hm⟩:=hm
 replace hm:=ll_uncons hm;obtain⟨v0,l5855_0,rfl,hm⟩:=hm
 replace hm:=ll_uncons hm;obtain⟨v1,l5855_1,rfl,hm⟩:=hm
 replace hm:=ll_end hm;obtain⟨rfl,hm⟩:=hm
 replace hm:=inv_toI hm;obtain⟨x0,rfl,hm⟩:=hm
 replace hm:=inv_toI hm;obtain⟨x1,rfl,hm⟩:=hm
 replace hm:=inv_toI hm;obtain⟨x2,rfl,hm⟩:=hm
 replace hm:=inv_toI hm;obtain⟨x3,rfl,hm⟩:=hm
 replace hm:=oo_inv hm;obtain⟨l1,h0,hm⟩:=hm
 obtain rfl:=toFn_some h0
 replace hm:=ll_uncons hm;obtain⟨v2,l5867_0,rfl,hm⟩:=hm
 replace hm:=ll_end hm;obtain⟨rfl,hm⟩:=hm
 replace hm:=bb_inv hm;obtain⟨h1,hm⟩:=hm
 obtain rfl:=isPt_ok h1
 replace hm:=oo_inv hm;obtain⟨l2,h2,hm⟩:=hm
 obtain rfl:=toFn_some h2
 replace hm:=ll_uncons hm;obtain⟨v3,l5871_0,rfl,hm⟩:=hm
 replace hm:=ll_uncons hm;obtain⟨v4,l5871_1,rfl,hm⟩:=hm
 replace hm:=ll_end hm;obtain⟨rfl,hm⟩:=hm
 replace hm:=bb_inv hm;obtain⟨h3,hm⟩:=hm
 obtain rfl:=isPt_ok h3
 replace hm:=bb_inv hm;obtain⟨h4,hm⟩:=hm
 obtain rfl:=isPt_ok h4
 replace hm:=oo_inv hm;obtain⟨l3,h5,hm⟩:=hm
 obtain rfl:=vAgg_enc hp0 h5
 replace hm:=ll_uncons hm;obtain⟨v5,l5877_0,rfl,hm⟩:=hm
 replace hm:=ll_end hm;obtain⟨rfl,hm⟩:=hm
 replace hm:=inv_toSl hm;obtain⟨s0,rfl,hm⟩:=hm
 replace hm:=oo_inv hm;obtain⟨l4,h6,hm⟩:=hm
 obtain rfl:=vAgg_enc hp1 h6
 replace hm:=ll_uncons hm;obtain⟨v6,l5882_0,rfl,hm⟩:=hm
 replace hm:=ll_end hm;obtain⟨rfl,hm⟩:=hm
 replace hm:=oo_inv hm;obtain⟨y0,h7,hm⟩:=hm
 obtain rfl:=toSc_some h7
 replace hm:=oo_inv hm;obtain⟨q1,h8,hm⟩:=hm
 obtain rfl:=vAgg_enc hp2 h8
 refine⟨by simp,?_⟩
 exact .same (F':=(fr 48 [(0,(.agg ⟨[zI x0,.int .u32 x1]⟩)),(1,zI x2),(2,zI x3),(3,(.func (.func 85) ⟨[]⟩ ⟨[(pt 0 0)]⟩)),(4,(.func (.func 87) ⟨[]⟩ ⟨[(pt 0 0),pt 1 0]⟩))])) (H':=(hp 3 [(oC [Sl.v 1 s0]),(oC [(sc 2 0 2 (NC.n y0) (NC.c y0))]),oC q1])) (by kernel_rfl) (by kernel_rfl) (q10811 pu n x0 x1 x2 x3 s0 (NC.n y0) (NC.c y0) q1 hm)
def m10870_0 (pu:PureF) (n:Nat) (s0:Sl) (n0 c0:Nat) (q1:LV):OV:=
 (bb (allL closed1 q1) (some (.tuple ⟨[(.bool true),(.agg ⟨[Sl.v 1 s0]⟩),(.agg ⟨[(.slice (some ⟨3,0,some 2⟩) n0 c0)]⟩),deadV,(.agg ⟨q1⟩)]⟩)) none)
def m10870_1 (pu:PureF) (n:Nat) (b0:Bool) (s0:Sl) (n0 c0:Nat) (z1 z2:Int) (q1:LV):OV:=
 (bb b0 (oo (pu 66 [(.agg ⟨[.int .i64 z1,.int .u32 z2]⟩)]) none fun v0=>(oo (vAgg v0) none fun l0=>(ll l0 none fun v1 l0=>(ll l0 none fun v2 l0=>(ll l0 (oo (toI .i64 v1) none fun x0=>(oo (toSl 1 v2) none fun s1=>(bb (growC 2 32 n0 c0 1 q1) (bb (allL closed1 (appL (dropL 0 q1) [.int .i64 x0,Sl.v 1 s1])) (m10870_0 pu n s0 (n0+1) (2*(n0+1)+bb false 1 0) (appL (dropL 0 q1) [.int .i64 x0,Sl.v 1 s1])) none) none))) fun _ _=>none))))) (bb (allL closed1 q1) (m10870_0 pu n s0 n0 c0 q1) none))
def m10870_ (pu:PureF) (n:Nat) (z1 z2:Int) (s0:Sl) (n0 c0:Nat) (q1:LV):OV:=
 (bb (allL closed1 q1) (oo (pu 68 [(.agg ⟨[.int .i64 z1,.int .u32 z2]⟩)]) none fun v0=>(oo (vAgg v0) none fun l0=>(ll l0 none fun v1 l0=>(ll l0 none fun v2 l0=>(ll l0 (oo (toI .i64 v1) none fun x0=>(oo (toI .u32 v2) none fun x1=>(bb (bq true (an (ieq x0 z1) (an (ieq x1 z2) true))) (oo (pu 74 [(.agg ⟨[.int .i64 z1,.int .u32 z2]⟩)]) none fun v3=>(oo (toSl 1 v3) none fun s1=>(oo (pu 88 [Sl.v 1 s1,Sl.v 1 s0]) none fun v4=>(oo (vBool v4) none fun b0=>(m10870_1 pu n b0 s0 n0 c0 z1 z2 q1))))) (m10870_1 pu n false s0 n0 c0 z1 z2 q1)))) fun _ _=>none))))) none)
def m10870 (pu:PureF) (n:Nat) (args:LV):OV:=
 (ll args none fun a0 args=>(ll args none fun a1 args=>(ll args none fun a2 args=>(ll args none fun o0 args=>(ll args none fun o1 args=>(ll args none fun o2 args=>(ll args (oo (vAgg a0) none fun l0=>(ll l0 none fun v0 l0=>(ll l0 none fun v1 l0=>(ll l0 (oo (toI .i64 v0) none fun x0=>(oo (toI .u32 v1) none fun x1=>(bb (isPt a1 0 0) (bb (isPt a2 1 0) (oo (vAgg o0) none fun l1=>(ll l1 none fun v2 l1=>(ll l1 (oo (toSl 1 v2) none fun s0=>(oo (vAgg o1) none fun l2=>(ll l2 none fun v3 l2=>(ll l2 (oo (toSc 2 0 2 v3) none fun y0=>(oo (vAgg o2) none fun q1=>(m10870_ pu n x0 x1 s0 (NC.n y0) (NC.c y0) q1))) fun _ _=>none)))) fun _ _=>none))) none) none))) fun _ _=>none)))) fun _ _=>none)))))))
theorem w10870_0 (pu:PureF) (n:Nat) (s0:Sl) (n0 c0:Nat) (q1:LV) {v:Value} (hm:m10870_0 pu n s0 n0 c0 q1=some v):Run tt (callP tabs isP pu (inl pu)) 3 c87_6 (fr 20 []) (hp 4 [(oC [Sl.v 1 s0]),(oC [sc 3 0 2 n0 c0]),.dead,oC q1]) (FinO tt 0 3 [.tmp 4] v):=by
 unfold m10870_0 at hm
 refine .then (.rK ?_)
 replace hm:=bb_inv hm;obtain⟨h0,hm⟩:=hm
 refine .ghs (fr 20 [(4,zB true)]) (hp 4 [(oC [Sl.v 1 s0]),(oC [sc 3 0 2 n0 c0]),.dead,oC q1]) (.k [3] [false,true,false] [.cell 1 0 false] [4] ⟨trF h0,trivial⟩) ?_
 refine .ghs (fr 20 [(4,zB true)]) (hp 4 [(oC [Sl.v 1 s0]),(oC [sc 3 0 2 n0 c0]),.dead,oC q1]) (.k [3] [false,true,false] [.cell 1 0 false] [4] ⟨trF h0,trivial⟩) ?_
 refine .ret ?_
 exact finO_ret (zB true) [(oC [Sl.v 1 s0]),(oC [sc 3 0 2 n0 c0]),.dead,oC q1] (by kernel_rfl) hm (Nat.le_of_ble_eq_true rfl) (ooAt_cons (pO_c _) (ooAt_cons (pO_c _) (ooAt_cons pO_d (ooAt_cons (pO_c _) ooAt_nil))))
theorem q10870 (pu:PureF) (n:Nat) (z1 z2:Int) (s0:Sl) (n0 c0:Nat) (q1:LV) {v:Value} (hm:m10870_ pu n z1 z2 s0 n0 c0 q1=some v):Run tt (callP tabs isP pu (inl pu)) 3 c87_8 (fr 20 [(0,(.agg ⟨[zI z1,.int .u32 z2]⟩)),(1,(pt 0 0)),(2,pt 1 0)]) (hp 3 [(oC [Sl.v 1 s0]),(oC [sc 2 0 2 n0 c0]),oC q1]) (FinO tt 0 3 [.tmp 4] v):=by
 unfold m10870_ at hm
 refine .ghs (fr 20 [(0,(.agg ⟨[zI z1,.int .u32 z2]⟩)),(1,(pt 0 0)),(2,pt 1 0)]) (hp 4 [(oC [Sl.v 1 s0]),(oC [sc 3 0 2 n0 c0]),.dead,oC q1]) (.mv 2 1 0 2 0 2 n0 c0 [sc 2 0 2 n0 c0] q1 (spA:=false) (ancA:=[]) (ancB:=[]) (v:=(pt 1 0)) (by kernel_rfl) (leads_ptr (off:=0)) (GhS.id _ _)) ?_
 refine .then (.rK ?_)
 replace hm:=bb_inv hm;obtain⟨h0,hm⟩:=hm
 refine .ghs (fr 20 [(1,(pt 0 0)),(2,pt 1 0),(3,(pt 3 0))]) (hp 5 [(oC [Sl.v 1 s0]),(oC [sc 4 0 2 n0 c0]),.dead,(oC [zI z1,.int .u32 z2]),oC q1]) (.k [3] [false,true,false] [.tmp 3 false,.cell 1 0 false] [1,2,3] ⟨trF h0,trivial⟩) ?_
 refine .join (v:=v) (fun y:Sl×Nat×Nat×LV=>((fr 20 []),(hp 4 [(oC [(Sl.v 1 y.1)]),(oC [(sc 3 0 2 y.2.1 y.2.2.1)]),.dead,(oC y.2.2.2)]))) (fun y=>m10870_0 pu n y.1 y.2.1 y.2.2.1 y.2.2.2) ?_ ?_
 ·rintro⟨s1,n1,c1,q2⟩ hm
  exact w10870_0 pu n s1 n1 c1 q2 hm
 ·refine .join (v:=v) (fun y:Bool×Sl×Nat×Nat×Int×Int×LV=>((fr 20 [(2,pt 1 0),(3,(pt 3 0)),(14,(zB y.1))]),(hp 5 [(oC [(Sl.v 1 y.2.1)]),(oC [(sc 4 0 2 y.2.2.1 y.2.2.2.1)]),.dead,(oC [(zI y.2.2.2.2.1),(.int .u32 y.2.2.2.2.2.1)]),(oC y.2.2.2.2.2.2)]))) (fun y=>m10870_1 pu n y.1 y.2.1 y.2.2.1 y.2.2.2.1 y.2.2.2.2.1 y.2.2.2.2.2.1 y.2.2.2.2.2.2) ?_ ?_
  ·rintro⟨b0,s2,n2,c2,z3,z4,q3⟩ hm
   unfold m10870_1 at hm
   replace hm:=bb_cases hm;rcases hm with⟨h1,hm⟩ | ⟨h1,hm⟩
   ·refine .ifT b0 (by kernel_rfl) h1 ?_
    replace hm:=oo_inv hm;obtain⟨v0,h2,hm⟩:=hm
    replace hm:=inv_vAgg hm;obtain⟨l0,rfl,hm⟩:=hm
    replace hm:=ll_uncons hm;obtain⟨v1,l4683_0,rfl,hm⟩:=hm
    replace hm:=ll_uncons hm;obtain⟨v2,l4683_1,rfl,hm⟩:=hm
    replace hm:=ll_end hm;obtain⟨rfl,hm⟩:=hm
    replace hm:=inv_toI hm;obtain⟨x0,rfl,hm⟩:=hm
    replace hm:=inv_toSl hm;obtain⟨s3,rfl,hm⟩:=hm
    replace hm:=bb_inv hm;obtain⟨h3,hm⟩:=hm
    refine .reg (eC 2 ((oo (pu 66 [(.agg ⟨[zI z3,.int .u32 z4]⟩)]) none fun v=>some (v,(hp 5 [(oC [Sl.v 1 s2]),(oC [sc 4 0 2 n2 c2]),.dead,(oC [zI z3,.int .u32 z4]),oC q3])))) (call_eq h2) (eC 1 (growD 2 32 n2 c2 1 4 q3 [zI x0,Sl.v 1 s3] [] (hp 6 [(oC [Sl.v 1 s2]),(oC [sc 4 0 2 n2 c2]),.dead,(oC [zI z3,.int .u32 z4]),oC q3,(oC [zI x0,Sl.v 1 s3])])) (growD_eq h3) (eE))) ?_
    replace hm:=bb_inv hm;obtain⟨h4,hm⟩:=hm
    exact⟨(s2,(n2+1),(d2 (n2+1)),(appL (dropL 0 q3) [zI x0,Sl.v 1 s3])),hm,(.k [6] [false,true,false] [.cell 1 0 false] [] ⟨trF h4,trivial⟩)⟩
   ·refine .ifF b0 (by kernel_rfl) h1 ?_
    refine .skip ?_
    replace hm:=bb_inv hm;obtain⟨h5,hm⟩:=hm
    exact⟨(s2,n2,c2,q3),hm,(.k [4] [false,true,false] [.cell 1 0 false] [] ⟨trF h5,trivial⟩)⟩
  ·replace hm:=oo_inv hm;obtain⟨v3,h6,hm⟩:=hm
   replace hm:=inv_vAgg hm;obtain⟨l1,rfl,hm⟩:=hm
   replace hm:=ll_uncons hm;obtain⟨v4,l4715_0,rfl,hm⟩:=hm
   replace hm:=ll_uncons hm;obtain⟨v5,l4715_1,rfl,hm⟩:=hm
   replace hm:=ll_end hm;obtain⟨rfl,hm⟩:=hm
   replace hm:=inv_toI hm;obtain⟨x1,rfl,hm⟩:=hm
   replace hm:=inv_toI hm;obtain⟨x2,rfl,hm⟩:=hm
   replace hm:=bb_cases hm;rcases hm with⟨h7,hm⟩ | ⟨h7,hm⟩
   ·replace hm:=oQS hm;obtain⟨s4,h8,hm⟩:=hm
    replace hm:=oQB hm;obtain⟨b1,h9,hm⟩:=hm
    refine .reg (eC 2 ((oo (pu 68 [(.agg ⟨[zI z1,.int .u32 z2]⟩)]) none fun v=>some (v,(hp 5 [(oC [Sl.v 1 s0]),(oC [sc 4 0 2 n0 c0]),.dead,(oC [zI z1,.int .u32 z2]),oC q1])))) (call_eq h6) (eD (some ((zB (bq true (an (ieq x1 z1) (an (ieq x2 z2) true)))),(hp 5 [(oC [Sl.v 1 s0]),(oC [sc 4 0 2 n0 c0]),.dead,(oC [zI z1,.int .u32 z2]),oC q1]))) (show _=some ((zB true),_) from (by rw[show (bq true (an (ieq x1 z1) (an (ieq x2 z2) true)))=true from h7])) (eC 3 ((oo (pu 74 [(.agg ⟨[zI z1,.int .u32 z2]⟩)]) none fun v=>some (v,(hp 5 [(oC [Sl.v 1 s0]),(oC [sc 4 0 2 n0 c0]),.dead,(oC [zI z1,.int .u32 z2]),oC q1])))) (call_eq h8) (eD ((oo (pu 88 [Sl.v 1 s4,Sl.v 1 s0]) none fun v=>some (v,(hp 5 [(oC [Sl.v 1 s0]),(oC [sc 4 0 2 n0 c0]),.dead,(oC [zI z1,.int .u32 z2]),oC q1])))) (call_eq h9) (eE))))) ?_
    exact⟨(b1,s0,n0,c0,z1,z2,q1),hm,(.k [4] [false,true,false] [.tmp 3 false,.cell 1 0 false] [2,3,14] ⟨trF h0,trivial⟩)⟩
   ·refine .reg (eC 2 ((oo (pu 68 [(.agg ⟨[zI z1,.int .u32 z2]⟩)]) none fun v=>some (v,(hp 5 [(oC [Sl.v 1 s0]),(oC [sc 4 0 2 n0 c0]),.dead,(oC [zI z1,.int .u32 z2]),oC q1])))) (call_eq h6) (eD (some ((zB (bq true (an (ieq x1 z1) (an (ieq x2 z2) true)))),(hp 5 [(oC [Sl.v 1 s0]),(oC [sc 4 0 2 n0 c0]),.dead,(oC [zI z1,.int .u32 z2]),oC q1]))) (show _=some ((zB false),_) from (by rw[show (bq true (an (ieq x1 z1) (an (ieq x2 z2) true)))=false from h7])) (eE))) ?_
    exact⟨(false,s0,n0,c0,z1,z2,q1),hm,(.k [4] [false,true,false] [.tmp 3 false,.cell 1 0 false] [2,3,14] ⟨trF h0,trivial⟩)⟩
theorem r10870 {call:CallF} (pu:PureF) (n:Nat) (hcall:call=callP tabs isP pu (inl pu)) {args:LV} {os:List AObj} {z:Value} (ha:args.length=3) (hk:os.length=3) (hpl:∀ o∈os,plainO o) (hm:m10870 pu n (args++os.map encO)=some z):args.length≤20∧Run tt call (tabs.length+3) c87_8 (Fr.made 20 args) (subHeap tabs os) (FinO tt tabs.length 3 [.tmp 4] z):=by
 subst hcall
 have hq:=len_cons ha;clear ha;obtain⟨a0,args,rfl,ha⟩:=hq
 have hq:=len_cons ha;clear ha;obtain⟨a1,args,rfl,ha⟩:=hq
 have hq:=len_cons ha;clear ha;obtain⟨a2,args,rfl,ha⟩:=hq
 obtain rfl:=len_nil ha
 have hq:=len_cons hk;clear hk;obtain⟨b0,os,rfl,hk⟩:=hq
 have hp0:plainO b0:=hpl b0 (by simp)
 have hq:=len_cons hk;clear hk;obtain⟨b1,os,rfl,hk⟩:=hq
 have hp1:plainO b1:=hpl b1 (by simp)
 have hq:=len_cons hk;clear hk;obtain⟨b2,os,rfl,hk⟩:=hq
 have hp2:plainO b2:=hpl b2 (by simp)
 obtain rfl:=len_nil hk
 replace hm:m10870 pu n [a0,a1,a2,encO b0,encO b1,encO b2]=some z:=hm
 unfold m10870 at hm
 replace hm:(oo (vAgg a0) none fun l0=>(ll l0 none fun v0 l0=>(ll l0 none fun v1 l0=>(ll l0 (oo (toI .i64 v0) none fun x0=>(oo (toI .u32 v1) none fun x1=>(bb (isPt a1 0 0) (bb (isPt a2 1 0) (oo (vAgg (encO b0)) none fun l1=>(ll l1 none fun v2 l1=>(ll l1 (oo (toSl 1 v2) none fun s0=>(oo (vAgg (encO b1)) none fun l2=>(ll l2 none fun v3 l2=>(ll l2 (oo (toSc 2 0 2 v3) none fun y0=>(oo (vAgg (encO b2)) none fun q1=>(m10870_ pu n x0 x1 s0 (NC.n y0) (NC.c y0) q1))) fun _ _=>none)))) fun _ _=>none))) none) none))) fun _ _=>none))))=some z:=hm
 replace hm:=inv_vAgg hm;obtain⟨l0,rfl,hm⟩:=hm
 replace hm:=ll_uncons hm;obtain⟨v0,l4732_0,rfl,hm⟩:=hm
 replace hm:=ll_uncons hm;obtain⟨v1,l4732_1,rfl,hm⟩:=hm
 replace hm:=ll_end hm;obtain⟨rfl,hm⟩:=hm
 replace hm:=inv_toI hm;obtain⟨x0,rfl,hm⟩:=hm
 replace hm:=inv_toI hm;obtain⟨x1,rfl,hm⟩:=hm
 replace hm:=bb_inv hm;obtain⟨h0,hm⟩:=hm
 obtain rfl:=isPt_ok h0
 replace hm:=bb_inv hm;obtain⟨h1,hm⟩:=hm
 obtain rfl:=isPt_ok h1
 replace hm:=oo_inv hm;obtain⟨l1,h2,hm⟩:=hm
 obtain rfl:=vAgg_enc hp0 h2
 replace hm:=ll_uncons hm;obtain⟨v2,l4742_0,rfl,hm⟩:=hm
 replace hm:=ll_end hm;obtain⟨rfl,hm⟩:=hm
 replace hm:=inv_toSl hm;obtain⟨s0,rfl,hm⟩:=hm
 replace hm:=oo_inv hm;obtain⟨l2,h3,hm⟩:=hm
 obtain rfl:=vAgg_enc hp1 h3
 replace hm:=ll_uncons hm;obtain⟨v3,l4747_0,rfl,hm⟩:=hm
 replace hm:=ll_end hm;obtain⟨rfl,hm⟩:=hm
 replace hm:=oo_inv hm;obtain⟨y0,h4,hm⟩:=hm
 obtain rfl:=toSc_some h4
 replace hm:=oo_inv hm;obtain⟨q1,h5,hm⟩:=hm
 obtain rfl:=vAgg_enc hp2 h5
 refine⟨by simp,?_⟩
 exact .same (F':=(fr 20 [(0,(.agg ⟨[zI x0,.int .u32 x1]⟩)),(1,(pt 0 0)),(2,pt 1 0)])) (H':=(hp 3 [(oC [Sl.v 1 s0]),(oC [(sc 2 0 2 (NC.n y0) (NC.c y0))]),oC q1])) (by kernel_rfl) (by kernel_rfl) (q10870 pu n x0 x1 s0 (NC.n y0) (NC.c y0) q1 hm)
def m10850_0 (pu:PureF) (n:Nat) (s0:Sl) (z1 z2:Int):OV:=
 (some (.tuple ⟨[(.bool (ieq (aand .u32 z2 (1:Int)) (1:Int))),(.agg ⟨[Sl.v 1 s0]⟩)]⟩))
def b10850_1 (pu:PureF) (n:Nat) (ih0:Sl→Int→Int→Nat→List Nat→Nat→List Ent→Nat→OV) (s0:Sl) (z1 z2:Int) (k1:Nat) (l0:List Nat) (k2:Nat) (e0:List Ent) (k3:Nat):OV:=
 (bb (allL (fun e=>Nat.blt (Ent.born e) k1) e0) (bb (Nat.ble k1 k2) (nxt e0 l0 (bb (allL entClosed e0) (m10850_0 pu n s0 z1 z2) none) (fun e1:Ent=>(bb (allL entClosed e0) (oo (entT e0 k3 (appL l0 [(Ent.born e1)]) k3) none fun v0=>(oo (vTup v0) none fun l1=>(ll l1 none fun v1 l1=>(ll l1 none fun v2 l1=>(ll l1 (oo (toI .i64 v1) none fun x0=>(oo (toI .i64 v2) none fun x1=>(oo (toN (wrapF .i64 (Int.sub x0 (1:Int)))) none fun k4=>(bb (an (Nat.blt k4 (Sl.n s0)) true) (oo (nthL (Sl.cs s0) (k4*1)) none fun v3=>(oo (toI .i64 v3) none fun x2=>(bb (ilt x2 x1) (some (.tuple ⟨[(.bool false),(.agg ⟨[Sl.v 1 s0]⟩)]⟩)) (ih0 s0 z1 z2 k1 (appL l0 [(Ent.born e1)]) k3 e0 k3)))) none)))) fun _ _=>none))))) none))) none) none)
def l10850_1 (pu:PureF) (n w:Nat):Sl→Int→Int→Nat→List Nat→Nat→List Ent→Nat→OV:=
 Nat.rec (motive:=fun _=>Sl→Int→Int→Nat→List Nat→Nat→List Ent→Nat→OV) (fun _ _ _ _ _ _ _ _=>none) (fun _ ih0=>b10850_1 pu n ih0) w
def m10850_ (pu:PureF) (n:Nat) (z1 z2:Int) (s0:Sl):OV:=
 (oo (pu 10860 [(.agg ⟨[.int .i64 z1,.int .u32 z2]⟩)]) none fun v0=>(oo (vTup v0) none fun l0=>(ll l0 none fun v1 l0=>(ll l0 none fun v2 l0=>(ll l0 (bb (isMp v1 0) (oo (vMapO v2) none fun y0=>(bb (allL entClosed (MapV.es y0)) (bb (allL entClosed (MapV.es y0)) (l10850_1 pu n n s0 z1 z2 (MapV.clock y0) ([]:List Nat) (MapV.clock y0) (MapV.es y0) (MapV.clock y0)) none) none)) none) fun _ _=>none)))))
def m10850 (pu:PureF) (n:Nat) (args:LV):OV:=
 (ll args none fun a0 args=>(ll args none fun a1 args=>(ll args none fun o0 args=>(ll args (oo (vAgg a0) none fun l0=>(ll l0 none fun v0 l0=>(ll l0 none fun v1 l0=>(ll l0 (oo (toI .i64 v0) none fun x0=>(oo (toI .u32 v1) none fun x1=>(bb (isPt a1 0 0) (oo (vAgg o0) none fun l1=>(ll l1 none fun v2 l1=>(ll l1 (oo (toSl 1 v2) none fun s0=>(m10850_ pu n x0 x1 s0)) fun _ _=>none))) none))) fun _ _=>none)))) fun _ _=>none))))
theorem w10850_0 (pu:PureF) (n:Nat) (s0:Sl) (z1 z2:Int) {v:Value} (hm:m10850_0 pu n s0 z1 z2=some v):Run tt (callP tabs isP pu (inl pu)) 1 c85_18 (fr 25 [(2,pt 1 0)]) (hp 2 [(oC [Sl.v 1 s0]),(oC [zI z1,.int .u32 z2])]) (FinO tt 0 1 [.tmp 3] v):=by
 unfold m10850_0 at hm
 refine .then (.rK (.ghs (fr 25 [(3,(zB (ieq (aand .u32 z2 (1:Int)) (1:Int))))]) (hp 1 [(oC [Sl.v 1 s0])]) (.k0 [false] [] [3]) ?_))
 refine .ghs (fr 25 [(3,(zB (ieq (aand .u32 z2 (1:Int)) (1:Int))))]) (hp 1 [(oC [Sl.v 1 s0])]) (.k0 [false] [] [3]) ?_
 refine .ret ?_
 exact finO_ret (zB (ieq (aand .u32 z2 (1:Int)) (1:Int))) [(oC [Sl.v 1 s0])] (by kernel_rfl) hm (Nat.le_of_ble_eq_true rfl) (ooAt_cons (pO_c _) ooAt_nil)
theorem q10850 (pu:PureF) (n:Nat) (z1 z2:Int) (s0:Sl) {v:Value} (hm:m10850_ pu n z1 z2 s0=some v):Run tt (callP tabs isP pu (inl pu)) 1 c85_20 (fr 25 [(0,(.agg ⟨[zI z1,.int .u32 z2]⟩)),(1,(pt 0 0))]) (hp 1 [(oC [Sl.v 1 s0])]) (FinO tt 0 1 [.tmp 3] v):=by
 unfold m10850_ at hm
 refine .then (.rK (.ghs (fr 25 [(1,(pt 0 0)),(2,pt 1 0)]) (hp 2 [(oC [Sl.v 1 s0]),(oC [zI z1,.int .u32 z2])]) (.k0 [false] [.tmp 2 false] [1,2]) ?_))
 refine .join (v:=v) (fun y:Sl×Int×Int=>((fr 25 [(2,pt 1 0)]),(hp 2 [(oC [(Sl.v 1 y.1)]),(oC [(zI y.2.1),(.int .u32 y.2.2)])]))) (fun y=>m10850_0 pu n y.1 y.2.1 y.2.2) ?_ ?_
 ·rintro⟨s1,z3,z4⟩ hm
  exact w10850_0 pu n s1 z3 z4 hm
 ·refine .then ?_
  replace hm:=oo_inv hm;obtain⟨v0,h0,hm⟩:=hm
  replace hm:=inv_vTup hm;obtain⟨l0,rfl,hm⟩:=hm
  replace hm:=ll_uncons hm;obtain⟨v1,l5008_0,rfl,hm⟩:=hm
  replace hm:=ll_uncons hm;obtain⟨v2,l5008_1,rfl,hm⟩:=hm
  replace hm:=ll_end hm;obtain⟨rfl,hm⟩:=hm
  replace hm:=bb_inv hm;obtain⟨h1,hm⟩:=hm
  obtain rfl:=isMp_ok h1
  replace hm:=oo_inv hm;obtain⟨y0,h2,hm⟩:=hm
  replace hm:=bb_inv hm;obtain⟨h3,hm⟩:=hm
  refine .reg (eC 1 (objG tabs [[none,none]] 1 [] [false] (pu 10860) [(.agg ⟨[zI z1,.int .u32 z2]⟩)] (hp 2 [(oC [Sl.v 1 s0]),(oC [zI z1,.int .u32 z2])])) (objG_eq (as:=[(.agg ⟨[zI z1,.int .u32 z2]⟩)]) (H1:=(hp 2 [(oC [Sl.v 1 s0]),(oC [zI z1,.int .u32 z2])])) (gvAL_c (gvA_a (gvL_c gv_n (gvL_c gv_n gvL_n))) gvAL_n) (objF_eq (H2:=(hp 3 [(oC [Sl.v 1 s0]),(oC [zI z1,.int .u32 z2]),(.map (MapV.es y0) (MapV.clock y0))])) (v:=(.map (some 0))) (v':=(.map (some 2))) [] [] [] [(.agg ⟨[zI z1,.int .u32 z2]⟩)] [v2] [(.map (MapV.es y0) (MapV.clock y0))] [none,none,some 0] [(false,(.map (MapV.es y0) (MapV.clock y0)))] [(.map (MapV.es y0) (MapV.clock y0))] (by kernel_rfl) mapO_n (Eq.trans (by kernel_rfl) h0) (mapO_c (vMapO_some h2) mapO_n) (mapO_c (bO_map h3) mapO_n))) (eE)) ?_
  replace hm:=bb_inv hm;obtain⟨h4,hm⟩:=hm
  refine .ghs (fr 25 [(1,(pt 0 0)),(2,pt 1 0),(8,(pt 2 0))]) (hp 4 [(oC [Sl.v 1 s0]),(oC [zI z1,.int .u32 z2]),(.iter (some 3) (MapV.clock y0) ([]:List Nat) (MapV.clock y0)),(.map (MapV.es y0) (MapV.clock y0))]) (.k [2] [false] [.tmp 2 false,.tmp 8 false,.itm 2 false] [1,2,8] ⟨trF h4,trivial⟩) ?_
  refine .block (.loopM (v:=v) (fun y:Sl×Int×Int×Nat×List Nat×Nat×List Ent×Nat=>((fr 25 [(1,(pt 0 0)),(2,pt 1 0),(8,(pt 2 0))]),(hp 4 [(oC [(Sl.v 1 y.1)]),(oC [(zI y.2.1),(.int .u32 y.2.2.1)]),(.iter (some 3) y.2.2.2.1 y.2.2.2.2.1 y.2.2.2.2.2.1),(.map y.2.2.2.2.2.2.1 y.2.2.2.2.2.2.2)]))) (fun w y=>l10850_1 pu n w y.1 y.2.1 y.2.2.1 y.2.2.2.1 y.2.2.2.2.1 y.2.2.2.2.2.1 y.2.2.2.2.2.2.1 y.2.2.2.2.2.2.2) n ⟨(s0,z1,z2,(MapV.clock y0),([]:List Nat),(MapV.clock y0),(MapV.es y0),(MapV.clock y0)),hm,(.k [3] [false] [.tmp 2 false,.tmp 8 false,.itm 2 false] [1,2,8] ⟨trF h4,trivial⟩)⟩ (fun _=>rfl) ?_)
  rintro w0 ⟨s2,z5,z6,k1,l1,k2,e0,k3⟩ hm
  replace hm:b10850_1 pu n (l10850_1 pu n w0) s2 z5 z6 k1 l1 k2 e0 k3=some v:=hm
  unfold b10850_1 at hm
  refine .then ?_
  replace hm:=bb_inv hm;obtain⟨h5,hm⟩:=hm
  replace hm:=bb_inv hm;obtain⟨h6,hm⟩:=hm
  refine .nextK (id:=2) (mid:=3) (since:=k1) (st:=k2) (clock:=k3) (seen:=l1) (es:=e0) (d:=some 9) (x:=(tp 8)) (ty:=0) (os:=[rqX 10 9 0 4]) (by kernel_rfl) (by kernel_rfl) (by kernel_rfl) (by kernel_rfl) h5 h6 (by kernel_rfl) (fun _=>by kernel_rfl) (fun h7=>?_) (fun e1 h8=>?_)
  ·replace hm:=nxt_0 hm h7
   replace hm:=bb_inv hm;obtain⟨h9,hm⟩:=hm
   refine .ghs (fr 25 [(1,(pt 0 0)),(2,pt 1 0),(8,(pt 2 0)),(10,zB false)]) (hp 4 [(oC [Sl.v 1 s2]),(oC [zI z5,.int .u32 z6]),(.iter (some 3) k1 l1 k2),(.map e0 k3)]) (.k [3] [false] [.tmp 2 false,.tmp 8 false,.itm 2 false] [1,2,8,10] ⟨trF h9,trivial⟩) ?_
   refine .then (.condF (by kernel_rfl) ?_)
   refine .exit ?_
   exact⟨(s2,z5,z6),hm,(.k0 [false] [.tmp 2 false] [2])⟩
  ·replace hm:=nxt_1 hm h8
   replace hm:=bb_inv hm;obtain⟨h10,hm⟩:=hm
   refine .ghs (fr 25 [(1,(pt 0 0)),(2,pt 1 0),(8,(pt 2 0)),(10,zB true)]) (hp 4 [(oC [Sl.v 1 s2]),(oC [zI z5,.int .u32 z6]),(.iter (some 3) k1 (appL l1 [(Ent.born e1)]) k3),(.map e0 k3)]) (.k [3] [false] [.tmp 2 false,.tmp 8 false,.itm 2 false] [1,2,8,10] ⟨trF h10,trivial⟩) ?_
   refine .then (.condT (by kernel_rfl) ?_)
   refine .skip (.ghs (fr 25 [(1,(pt 0 0)),(2,pt 1 0),(8,(pt 2 0))]) (hp 4 [(oC [Sl.v 1 s2]),(oC [zI z5,.int .u32 z6]),(.iter (some 3) k1 (appL l1 [(Ent.born e1)]) k3),(.map e0 k3)]) (.k [3] [false] [.tmp 2 false,.tmp 8 false,.itm 2 false] [1,2,8] ⟨trF h10,trivial⟩) ?_)
   refine .block (.then ?_)
   replace hm:=oo_inv hm;obtain⟨v3,h11,hm⟩:=hm
   replace hm:=inv_vTup hm;obtain⟨l2,rfl,hm⟩:=hm
   replace hm:=ll_uncons hm;obtain⟨v4,l5044_0,rfl,hm⟩:=hm
   replace hm:=ll_uncons hm;obtain⟨v5,l5044_1,rfl,hm⟩:=hm
   replace hm:=ll_end hm;obtain⟨rfl,hm⟩:=hm
   replace hm:=inv_toI hm;obtain⟨x0,rfl,hm⟩:=hm
   replace hm:=inv_toI hm;obtain⟨x1,rfl,hm⟩:=hm
   refine .reg (eD (keep (hp 4 [(oC [Sl.v 1 s2]),(oC [zI z5,.int .u32 z6]),(.iter (some 3) k1 (appL l1 [(Ent.born e1)]) k3),(.map e0 k3)]) (entT e0 k3 (appL l1 [(Ent.born e1)]) k3)) (keep_eq h11) (eE)) ?_
   refine .ghs (fr 25 [(1,(pt 0 0)),(2,pt 1 0),(4,zI x0),(5,zI x1),(8,(pt 2 0))]) (hp 4 [(oC [Sl.v 1 s2]),(oC [zI z5,.int .u32 z6]),(.iter (some 3) k1 (appL l1 [(Ent.born e1)]) k3),(.map e0 k3)]) (.k [3] [false] [.tmp 2 false,.tmp 8 false,.itm 2 false] [1,2,4,5,8] ⟨trF h10,trivial⟩) ?_
   refine .then ?_
   replace hm:=oo_inv hm;obtain⟨k4,h12,hm⟩:=hm
   replace hm:=bb_inv hm;obtain⟨h13,hm⟩:=hm
   replace hm:=oQI hm;obtain⟨x2,h14,hm⟩:=hm
   refine .reg (eC 3 (some ((zI (wrapF .i64 (Int.sub x0 (1:Int)))),(hp 4 [(oC [Sl.v 1 s2]),(oC [zI z5,.int .u32 z6]),(.iter (some 3) k1 (appL l1 [(Ent.born e1)]) k3),(.map e0 k3)]))) (show _=some ((zI (Int.ofNat k4)),_) from (by rw[toN_some h12])) (eD (keep (hp 4 [(oC [Sl.v 1 s2]),(oC [zI z5,.int .u32 z6]),(.iter (some 3) k1 (appL l1 [(Ent.born e1)]) k3),(.map e0 k3)]) (bb (an (Nat.blt k4 (Sl.n s2)) true) (some (fpV (k4*1) (Sl.cs s2))) none)) (keep_bb h13) (eD (keep (hp 4 [(oC [Sl.v 1 s2]),(oC [zI z5,.int .u32 z6]),(.iter (some 3) k1 (appL l1 [(Ent.born e1)]) k3),(.map e0 k3)]) (nthL (Sl.cs s2) (k4*1))) (keep_eq h14) (eE)))) ?_
   refine .ghs (fr 25 [(1,(pt 0 0)),(2,pt 1 0),(8,(pt 2 0)),(20,(zB (ilt x2 x1)))]) (hp 4 [(oC [Sl.v 1 s2]),(oC [zI z5,.int .u32 z6]),(.iter (some 3) k1 (appL l1 [(Ent.born e1)]) k3),(.map e0 k3)]) (.k [3] [false] [.tmp 2 false,.tmp 8 false,.itm 2 false] [1,2,8,20] ⟨trF h10,trivial⟩) ?_
   replace hm:=bb_cases hm;rcases hm with⟨h15,hm⟩ | ⟨h15,hm⟩
   ·refine ifTt (ilt x2 x1) h15 ?_
    refine .then (.rK (.ghs (fr 25 [(3,zB false)]) (hp 1 [(oC [Sl.v 1 s2])]) (.k0 [false] [] [3]) ?_))
    refine .ghs (fr 25 [(3,zB false)]) (hp 1 [(oC [Sl.v 1 s2])]) (.k0 [false] [] [3]) ?_
    refine .ret ?_
    exact finO_ret (zB false) [(oC [Sl.v 1 s2])] (by kernel_rfl) hm (Nat.le_of_ble_eq_true rfl) (ooAt_cons (pO_c _) ooAt_nil)
   ·refine ifFt (ilt x2 x1) h15 ?_
    refine .skip ?_
    exact⟨(s2,z5,z6,k1,(appL l1 [(Ent.born e1)]),k3,e0,k3),hm,(.k [3] [false] [.tmp 2 false,.tmp 8 false,.itm 2 false] [1,2,8] ⟨trF h10,trivial⟩)⟩
theorem r10850 {call:CallF} (pu:PureF) (n:Nat) (hcall:call=callP tabs isP pu (inl pu)) {args:LV} {os:List AObj} {z:Value} (ha:args.length=2) (hk:os.length=1) (hpl:∀ o∈os,plainO o) (hm:m10850 pu n (args++os.map encO)=some z):args.length≤25∧Run tt call (tabs.length+1) c85_20 (Fr.made 25 args) (subHeap tabs os) (FinO tt tabs.length 1 [.tmp 3] z):=by
 subst hcall
 have hq:=len_cons ha;clear ha;obtain⟨a0,args,rfl,ha⟩:=hq
 have hq:=len_cons ha;clear ha;obtain⟨a1,args,rfl,ha⟩:=hq
 obtain rfl:=len_nil ha
 have hq:=len_cons hk;clear hk;obtain⟨b0,os,rfl,hk⟩:=hq
 have hp0:plainO b0:=hpl b0 (by simp)
 obtain rfl:=len_nil hk
 replace hm:m10850 pu n [a0,a1,encO b0]=some z:=hm
 unfold m10850 at hm
 replace hm:(oo (vAgg a0) none fun l0=>(ll l0 none fun v0 l0=>(ll l0 none fun v1 l0=>(ll l0 (oo (toI .i64 v0) none fun x0=>(oo (toI .u32 v1) none fun x1=>(bb (isPt a1 0 0) (oo (vAgg (encO b0)) none fun l1=>(ll l1 none fun v2 l1=>(ll l1 (oo (toSl 1 v2) none fun s0=>(m10850_ pu n x0 x1 s0)) fun _ _=>none))) none))) fun _ _=>none))))=some z:=hm
 replace hm:=inv_vAgg hm;obtain⟨l0,rfl,hm⟩:=hm
 replace hm:=ll_uncons hm;obtain⟨v0,l5069_0,rfl,hm⟩:=hm
 replace hm:=ll_uncons hm;obtain⟨v1,l5069_1,rfl,hm⟩:=hm
 replace hm:=ll_end hm;obtain⟨rfl,hm⟩:=hm
 replace hm:=inv_toI hm;obtain⟨x0,rfl,hm⟩:=hm
 replace hm:=inv_toI hm;obtain⟨x1,rfl,hm⟩:=hm
 replace hm:=bb_inv hm;obtain⟨h0,hm⟩:=hm
 obtain rfl:=isPt_ok h0
 replace hm:=oo_inv hm;obtain⟨l1,h1,hm⟩:=hm
 obtain rfl:=vAgg_enc hp0 h1
 replace hm:=ll_uncons hm;obtain⟨v2,l5078_0,rfl,hm⟩:=hm
 replace hm:=ll_end hm;obtain⟨rfl,hm⟩:=hm
 replace hm:=inv_toSl hm;obtain⟨s0,rfl,hm⟩:=hm
 refine⟨by simp,?_⟩
 exact .same (F':=(fr 25 [(0,(.agg ⟨[zI x0,.int .u32 x1]⟩)),(1,(pt 0 0))])) (H':=(hp 1 [(oC [Sl.v 1 s0])])) (by kernel_rfl) (by kernel_rfl) (q10850 pu n x0 x1 s0 hm)
end
end Go.RgHM
set_option maxRecDepth 100000
namespace Go.RgHM
open Go.Sp Go.RgH
noncomputable section
def L:Nat:=1000000
def disp (pu:PureF):PureF:=fun g args=>
 bb (Nat.beq g 62) (m62 pu L args) (bb (Nat.beq g 91) (m91 pu L args) (bb (Nat.beq g 80) (m80 pu L args) (bb (Nat.beq g 74) (m74 pu L args) (bb (Nat.beq g 76) (m76 pu L args) (bb (Nat.beq g 78) (m78 pu L args) (bb (Nat.beq g 55) (m55 pu L args) (bb (Nat.beq g 5) (m5 pu L args) (bb (Nat.beq g 23) (m23 pu L args) (bb (Nat.beq g 24) (m24 pu L args) (bb (Nat.beq g 25) (m25 pu L args) (bb (Nat.beq g 35) (m35 pu L args) (bb (Nat.beq g 36) (m36 pu L args) (bb (Nat.beq g 37) (m37 pu L args) (bb (Nat.beq g 38) (m38 pu L args) (bb (Nat.beq g 39) (m39 pu L args) (bb (Nat.beq g 52) (m52 pu L args) (bb (Nat.beq g 61) (m61 pu L args) (bb (Nat.beq g 63) (m63 pu L args) (bb (Nat.beq g 64) (m64 pu L args) (bb (Nat.beq g 65) (m65 pu L args) (bb (Nat.beq g 66) (m66 pu L args) (bb (Nat.beq g 67) (m67 pu L args) (bb (Nat.beq g 68) (m68 pu L args) (bb (Nat.beq g 69) (m69 pu L args) (bb (Nat.beq g 72) (m72 pu L args) (bb (Nat.beq g 73) (m73 pu L args) (bb (Nat.beq g 75) (m75 pu L args) (bb (Nat.beq g 79) (m79 pu L args) (bb (Nat.beq g 82) (m82 pu L args) (bb (Nat.beq g 88) (m88 pu L args) (bb (Nat.beq g 92) (m92 pu L args) (bb (Nat.beq g 96) (m96 pu L args) (bb (Nat.beq g 97) (m97 pu L args) (bb (Nat.beq g 98) (m98 pu L args) (bb (Nat.beq g 10860) (m10860 pu L args) (bb (Nat.beq g 10810) (m10810 pu L args) (bb (Nat.beq g 10830) (m10830 pu L args) (bb (Nat.beq g 10840) (m10840 pu L args) (bb (Nat.beq g 10811) (m10811 pu L args) (bb (Nat.beq g 10870) (m10870 pu L args) (bb (Nat.beq g 10850) (m10850 pu L args) (bb (Nat.beq g 14) (orc14 args) (none)))))))))))))))))))))))))))))))))))))))))))
def puN:Nat→PureF:=fun n=>Nat.rec (motive:=fun _=>PureF) (fun _ _=>none) (fun _ ih=>disp ih) n
end
end Go.RgHM
