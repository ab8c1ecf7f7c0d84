/- Made from wip. -/
import Derived.Test.YtenlanbdolnhhaaRgJMod0x

set_option maxRecDepth 100000
set_option maxHeartbeats 20000000
set_option linter.unusedVariables false
namespace Go.RgJM
open Go.Sp Go.RgJ
noncomputable section

def m10600_ (pu:PureF) (n n0 c0:Nat) (q1:LV):OV:=
 (bb (allL closed1 q1) (oo (pu 95 [(.int .u64 (wrapF .u64 (Int.ofNat n0)))]) none fun v0=>(oo (toI .i64 v0) none fun x0=>(bb (orr (Nat.ble 2 c0) (nilL q1)) (bb (allL closed1 q1) (oo (pu 10940 [(.slice (some ⟨0,0,some 1⟩) n0 c0),(.int .i64 (0:Int)),(.int .i64 (Int.ofNat n0)),.int .i64 x0,(.func (.func 52) ⟨[]⟩ ⟨[]⟩),(.agg ⟨q1⟩)]) none fun v1=>(oo (vTup v1) none fun l0=>(ll l0 none fun v2 l0=>(ll l0 none fun v3 l0=>(ll l0 (bb (isNoV v2) (oo (vAgg v3) none fun q2=>(bb (allL closed1 q2) (bb (allL closed1 q2) (some (.tuple ⟨[(.tuple ⟨[]⟩),(.agg ⟨q2⟩)]⟩)) none) none)) none) fun _ _=>none))))) none) none))) none)
def m10600 (pu:PureF) (n:Nat) (args:LV):OV:=
 (ll args none fun a0 args=>(ll args none fun a1 args=>(ll args none fun o0 args=>(ll args (oo (toSc 0 0 1 a0) none fun y0=>(oo (toFn 52 0 a1) none fun l0=>(ll l0 (oo (vAgg o0) none fun q1=>(m10600_ pu n (NC.n y0) (NC.c y0) q1)) fun _ _=>none))) fun _ _=>none))))
theorem q10600 (pu:PureF) (n n0 c0:Nat) (q1:LV) {v:Value} (hm:m10600_ pu n n0 c0 q1=some v):Run tt (callP tabs isP pu (inl pu)) 1 c60_2 (fr 14 [(0,sc 0 0 1 n0 c0),(1,(.func (.func 52) ⟨[]⟩ ⟨[]⟩))]) (hp 1 [oC q1]) (FinO tt 0 1 [] v):=by
 unfold m10600_ at hm
 refine .then (.rK ?_)
 replace hm:=bb_inv hm;obtain⟨h0,hm⟩:=hm
 refine .ghs (fr 14 [(0,sc 0 0 1 n0 c0),(1,(.func (.func 52) ⟨[]⟩ ⟨[]⟩)),(4,(zI (Int.ofNat n0)))]) (hp 1 [oC q1]) (.k [0] [false] [] [0,1,4] ⟨trF h0,trivial⟩) ?_
 replace hm:=oQI hm;obtain⟨x0,h1,hm⟩:=hm
 replace hm:=bb_inv hm;obtain⟨h2,hm⟩:=hm
 replace hm:=bb_inv hm;obtain⟨h3,hm⟩:=hm
 replace hm:=oo_inv hm;obtain⟨v0,h4,hm⟩:=hm
 replace hm:=inv_vTup hm;obtain⟨l0,rfl,hm⟩:=hm
 replace hm:=ll_uncons hm;obtain⟨v1,l3741_0,rfl,hm⟩:=hm
 replace hm:=ll_uncons hm;obtain⟨v2,l3741_1,rfl,hm⟩:=hm
 replace hm:=ll_end hm;obtain⟨rfl,hm⟩:=hm
 replace hm:=bb_inv hm;obtain⟨h5,hm⟩:=hm
 obtain rfl:=isNoV_ok h5
 replace hm:=inv_vAgg hm;obtain⟨q2,rfl,hm⟩:=hm
 replace hm:=bb_inv hm;obtain⟨h6,hm⟩:=hm
 refine .reg (eC 4 ((oo (pu 95 [(zU (wrapF .u64 (Int.ofNat n0)))]) none fun v=>some (v,(hp 1 [oC q1])))) (call_eq h1) (eC 1 (objG tabs [[none],[none],[none],[none],[none]] 5 [.tmp 0 false] [false] (pu 10940) [sc 0 0 1 n0 c0,(zI (0:Int)),(zI (Int.ofNat n0)),zI x0,(.func (.func 52) ⟨[]⟩ ⟨[]⟩)] (hp 1 [oC q1])) (objG_eq (as:=[sc 0 0 1 n0 c0,(zI (0:Int)),(zI (Int.ofNat n0)),zI x0,(.func (.func 52) ⟨[]⟩ ⟨[]⟩)]) (H1:=(hp 1 [oC q1])) (gvAL_c (gvA_1 gv_n) (gvAL_c (gvA_1 gv_n) (gvAL_c (gvA_1 gv_n) (gvAL_c (gvA_1 gv_n) (gvAL_c (gvA_1 gv_n) gvAL_n))))) (objF_eq (H2:=(hp 1 [oC q2])) (v:=(.tuple ⟨[]⟩)) (v':=(.tuple ⟨[]⟩)) [some 0] [(false,some 0)] [oC q1] [sc 0 0 1 n0 c0,(zI (0:Int)),(zI (Int.ofNat n0)),zI x0,(.func (.func 52) ⟨[]⟩ ⟨[]⟩)] [(.agg ⟨q2⟩)] [oC q2] [some 0] [(false,oC q2)] [oC q2] (trE (by kernel_rfl) (rootL h2 rfl)) (mapO_c (nO_list (anc:=[]) h3) mapO_n) (Eq.trans (by kernel_rfl) h4) (mapO_c rfl mapO_n) (mapO_c (bO_list h6) mapO_n))) (eE))) ?_
 replace hm:=bb_inv hm;obtain⟨h7,hm⟩:=hm
 refine .ghs (fr 14 []) (hp 1 [oC q2]) (.k [0] [false] [] [] ⟨trF h7,trivial⟩) ?_
 exact finO_end (.tuple ⟨[]⟩) [oC q2] (by kernel_rfl) hm (Nat.le_of_ble_eq_true rfl) (ooAt_cons (pO_c _) ooAt_nil)
theorem r10600 {call:CallF} (pu:PureF) (n:Nat) (hcall:call=callP tabs isP pu (inl pu)) {args:LV} {os:List AObj} {z:Value} (ha:args.length=2) (hk:os.length=1) (hpl:∀ o∈os,plainO o) (hm:m10600 pu n (args++os.map encO)=some z):args.length≤14∧Run tt call (tabs.length+1) c60_2 (Fr.made 14 args) (subHeap tabs os) (FinO tt tabs.length 1 [] z):=by
 subst hcall
 have hq:=len_cons ha;clear ha;obtain⟨a0,args,rfl,ha⟩:=hq
 have hq:=len_cons ha;clear ha;obtain⟨a1,args,rfl,ha⟩:=hq
 obtain rfl:=len_nil ha
 have hq:=len_cons hk;clear hk;obtain⟨b0,os,rfl,hk⟩:=hq
 have hp0:plainO b0:=hpl b0 (by simp)
 obtain rfl:=len_nil hk
 replace hm:m10600 pu n [a0,a1,encO b0]=some z:=hm
 unfold m10600 at hm
 replace hm:(oo (toSc 0 0 1 a0) none fun y0=>(oo (toFn 52 0 a1) none fun l0=>(ll l0 (oo (vAgg (encO b0)) none fun q1=>(m10600_ pu n (NC.n y0) (NC.c y0) q1)) fun _ _=>none)))=some z:=hm
 replace hm:=oo_inv hm;obtain⟨y0,h0,hm⟩:=hm
 obtain rfl:=toSc_some h0
 replace hm:=oo_inv hm;obtain⟨l0,h1,hm⟩:=hm
 obtain rfl:=toFn_some h1
 replace hm:=ll_end hm;obtain⟨rfl,hm⟩:=hm
 replace hm:=oo_inv hm;obtain⟨q1,h2,hm⟩:=hm
 obtain rfl:=vAgg_enc hp0 h2
 refine⟨by simp,?_⟩
 exact .same (F':=(fr 14 [(0,(sc 0 0 1 (NC.n y0) (NC.c y0))),(1,(.func (.func 52) ⟨[]⟩ ⟨[]⟩))])) (H':=(hp 1 [oC q1])) (by kernel_rfl) (by kernel_rfl) (q10600 pu n (NC.n y0) (NC.c y0) q1 hm)
def m10940_1 (pu:PureF) (n:Nat) (ih0:Nat→Nat→Int→Int→Int→Bool→Bool→LV→OV) (n0 c0:Nat) (z1 z2 z3:Int) (b0 b1:Bool) (z4:Int) (q1:LV):OV:=
 none
def b10940_0 (pu:PureF) (n:Nat) (ih0:Nat→Nat→Int→Int→Int→Bool→Bool→LV→OV) (n0 c0:Nat) (z1 z2 z3:Int) (b0 b1:Bool) (q1:LV):OV:=
 (bb (allL closed1 q1) (bb (nt (ilt (12:Int) (wrapF .i64 (Int.sub z2 z1)))) (bb (orr (Nat.ble 2 c0) (nilL q1)) (bb (allL closed1 q1) (oo (pu 10990 [(.slice (some ⟨0,0,some 1⟩) n0 c0),.int .i64 z1,.int .i64 z2,(.func (.func 52) ⟨[]⟩ ⟨[]⟩),(.agg ⟨q1⟩)]) none fun v0=>(oo (vTup v0) none fun l0=>(ll l0 none fun v1 l0=>(ll l0 none fun v2 l0=>(ll l0 (bb (isNoV v1) (oo (vAgg v2) none fun q2=>(bb (allL closed1 q2) (bb (allL closed1 q2) (some (.tuple ⟨[(.tuple ⟨[]⟩),(.agg ⟨q2⟩)]⟩)) none) none)) none) fun _ _=>none))))) none) none) (bb (ieq z3 (0:Int)) none (bb (nt b0) none (m10940_1 pu n ih0 n0 c0 z1 z2 z3 b0 b1 (wrapF .i64 (Int.sub z2 z1)) q1)))) none)
def l10940_0 (pu:PureF) (n w:Nat):Nat→Nat→Int→Int→Int→Bool→Bool→LV→OV:=
 Nat.rec (motive:=fun _=>Nat→Nat→Int→Int→Int→Bool→Bool→LV→OV) (fun _ _ _ _ _ _ _ _=>none) (fun _ ih0=>b10940_0 pu n ih0) w
def m10940_ (pu:PureF) (n n0 c0:Nat) (z1 z2 z3:Int) (q1:LV):OV:=
 (bb (allL closed1 q1) (l10940_0 pu n n n0 c0 z1 z2 z3 true true q1) none)
def m10940 (pu:PureF) (n:Nat) (args:LV):OV:=
 (ll args none fun a0 args=>(ll args none fun a1 args=>(ll args none fun a2 args=>(ll args none fun a3 args=>(ll args none fun a4 args=>(ll args none fun o0 args=>(ll args (oo (toSc 0 0 1 a0) none fun y0=>(oo (toI .i64 a1) none fun x0=>(oo (toI .i64 a2) none fun x1=>(oo (toI .i64 a3) none fun x2=>(oo (toFn 52 0 a4) none fun l0=>(ll l0 (oo (vAgg o0) none fun q1=>(m10940_ pu n (NC.n y0) (NC.c y0) x0 x1 x2 q1)) fun _ _=>none)))))) fun _ _=>none)))))))
theorem q10940 (pu:PureF) (n n0 c0:Nat) (z1 z2 z3:Int) (q1:LV) {v:Value} (hm:m10940_ pu n n0 c0 z1 z2 z3 q1=some v):Run tt (callP tabs isP pu (inl pu)) 1 c94_74 (fr 148 [(0,sc 0 0 1 n0 c0),(1,zI z1),(2,zI z2),(3,zI z3),(4,(.func (.func 52) ⟨[]⟩ ⟨[]⟩))]) (hp 1 [oC q1]) (FinO tt 0 1 [] v):=by
 unfold m10940_ at hm
 refine .then (.rK ?_)
 replace hm:=bb_inv hm;obtain⟨h0,hm⟩:=hm
 refine .ghs (fr 148 [(0,sc 0 0 1 n0 c0),(1,zI z1),(2,zI z2),(3,zI z3),(4,(.func (.func 52) ⟨[]⟩ ⟨[]⟩)),(10,zB true)]) (hp 1 [oC q1]) (.k [0] [false] [] [0,1,2,3,4,10] ⟨trF h0,trivial⟩) ?_
 refine .then (.rK (.ghs (fr 148 [(0,sc 0 0 1 n0 c0),(1,zI z1),(2,zI z2),(3,zI z3),(4,(.func (.func 52) ⟨[]⟩ ⟨[]⟩)),(10,zB true),(11,zB true)]) (hp 1 [oC q1]) (.k [0] [false] [] [0,1,2,3,4,10,11] ⟨trF h0,trivial⟩) ?_))
 refine .block (.loopM (v:=v) (fun y:Nat×Nat×Int×Int×Int×Bool×Bool×LV=>((fr 148 [(0,(sc 0 0 1 y.1 y.2.1)),(1,(zI y.2.2.1)),(2,(zI y.2.2.2.1)),(3,(zI y.2.2.2.2.1)),(4,(.func (.func 52) ⟨[]⟩ ⟨[]⟩)),(10,(zB y.2.2.2.2.2.1)),(11,(zB y.2.2.2.2.2.2.1))]),(hp 1 [(oC y.2.2.2.2.2.2.2)]))) (fun w y=>l10940_0 pu n w y.1 y.2.1 y.2.2.1 y.2.2.2.1 y.2.2.2.2.1 y.2.2.2.2.2.1 y.2.2.2.2.2.2.1 y.2.2.2.2.2.2.2) n ⟨(n0,c0,z1,z2,z3,true,true,q1),hm,(.k [0] [false] [] [0,1,2,3,4,10,11] ⟨trF h0,trivial⟩)⟩ (fun _=>rfl) ?_)
 rintro w0 ⟨n1,c1,z4,z5,z6,b0,b1,q2⟩ hm
 replace hm:b10940_0 pu n (l10940_0 pu n w0) n1 c1 z4 z5 z6 b0 b1 q2=some v:=hm
 unfold b10940_0 at hm
 refine .block (.then (.rK ?_))
 replace hm:=bb_inv hm;obtain⟨h1,hm⟩:=hm
 refine .ghs (fr 148 [(0,sc 0 0 1 n1 c1),(1,zI z4),(2,zI z5),(3,zI z6),(4,(.func (.func 52) ⟨[]⟩ ⟨[]⟩)),(10,zB b0),(11,zB b1),(12,(zI (wrapF .i64 (Int.sub z5 z4))))]) (hp 1 [oC q2]) (.k [0] [false] [] [0,1,2,3,4,10,11,12] ⟨trF h1,trivial⟩) ?_
 refine .then (.then (.rK (.ghs (fr 148 [(0,sc 0 0 1 n1 c1),(1,zI z4),(2,zI z5),(3,zI z6),(4,(.func (.func 52) ⟨[]⟩ ⟨[]⟩)),(10,zB b0),(11,zB b1),(12,(zI (wrapF .i64 (Int.sub z5 z4)))),(25,(zB (nt (ilt (12:Int) (wrapF .i64 (Int.sub z5 z4))))))]) (hp 1 [oC q2]) (.k [0] [false] [] [0,1,2,3,4,10,11,12,25] ⟨trF h1,trivial⟩) ?_)))
 replace hm:=bb_cases hm;rcases hm with⟨h2,hm⟩ | ⟨h2,hm⟩
 ·refine ifTt (nt (ilt (12:Int) (wrapF .i64 (Int.sub z5 z4)))) h2 ?_
  refine .then ?_
  replace hm:=bb_inv hm;obtain⟨h3,hm⟩:=hm
  replace hm:=bb_inv hm;obtain⟨h4,hm⟩:=hm
  replace hm:=oo_inv hm;obtain⟨v0,h5,hm⟩:=hm
  replace hm:=inv_vTup hm;obtain⟨l0,rfl,hm⟩:=hm
  replace hm:=ll_uncons hm;obtain⟨v1,l3680_0,rfl,hm⟩:=hm
  replace hm:=ll_uncons hm;obtain⟨v2,l3680_1,rfl,hm⟩:=hm
  replace hm:=ll_end hm;obtain⟨rfl,hm⟩:=hm
  replace hm:=bb_inv hm;obtain⟨h6,hm⟩:=hm
  obtain rfl:=isNoV_ok h6
  replace hm:=inv_vAgg hm;obtain⟨q3,rfl,hm⟩:=hm
  replace hm:=bb_inv hm;obtain⟨h7,hm⟩:=hm
  refine .reg (eC 4 (objG tabs [[none],[none],[none],[none]] 4 [.tmp 0 false] [false] (pu 10990) [sc 0 0 1 n1 c1,zI z4,zI z5,(.func (.func 52) ⟨[]⟩ ⟨[]⟩)] (hp 1 [oC q2])) (objG_eq (as:=[sc 0 0 1 n1 c1,zI z4,zI z5,(.func (.func 52) ⟨[]⟩ ⟨[]⟩)]) (H1:=(hp 1 [oC q2])) (gvAL_c (gvA_1 gv_n) (gvAL_c (gvA_1 gv_n) (gvAL_c (gvA_1 gv_n) (gvAL_c (gvA_1 gv_n) gvAL_n)))) (objF_eq (H2:=(hp 1 [oC q3])) (v:=(.tuple ⟨[]⟩)) (v':=(.tuple ⟨[]⟩)) [some 0] [(false,some 0)] [oC q2] [sc 0 0 1 n1 c1,zI z4,zI z5,(.func (.func 52) ⟨[]⟩ ⟨[]⟩)] [(.agg ⟨q3⟩)] [oC q3] [some 0] [(false,oC q3)] [oC q3] (trE (by kernel_rfl) (rootL h3 rfl)) (mapO_c (nO_list (anc:=[]) h4) mapO_n) (Eq.trans (by kernel_rfl) h5) (mapO_c rfl mapO_n) (mapO_c (bO_list h7) mapO_n))) (eE)) ?_
  replace hm:=bb_inv hm;obtain⟨h8,hm⟩:=hm
  refine .ghs (fr 148 []) (hp 1 [oC q3]) (.k [0] [false] [] [] ⟨trF h8,trivial⟩) ?_
  refine .ghs (fr 148 []) (hp 1 [oC q3]) (.k [0] [false] [] [] ⟨trF h8,trivial⟩) ?_
  refine .ret ?_
  exact finO_ret (.tuple ⟨[]⟩) [oC q3] (by kernel_rfl) hm (Nat.le_of_ble_eq_true rfl) (ooAt_cons (pO_c _) ooAt_nil)
 ·refine ifFt (nt (ilt (12:Int) (wrapF .i64 (Int.sub z5 z4)))) h2 ?_
  refine .skip (.ghs (fr 148 [(0,sc 0 0 1 n1 c1),(1,zI z4),(2,zI z5),(3,zI z6),(4,(.func (.func 52) ⟨[]⟩ ⟨[]⟩)),(10,zB b0),(11,zB b1),(12,(zI (wrapF .i64 (Int.sub z5 z4))))]) (hp 1 [oC q2]) (.k [0] [false] [] [0,1,2,3,4,10,11,12] ⟨trF h1,trivial⟩) ?_)
  refine .then (.then (.rK (.ghs (fr 148 [(0,sc 0 0 1 n1 c1),(1,zI z4),(2,zI z5),(3,zI z6),(4,(.func (.func 52) ⟨[]⟩ ⟨[]⟩)),(10,zB b0),(11,zB b1),(12,(zI (wrapF .i64 (Int.sub z5 z4)))),(32,(zB (ieq z6 (0:Int))))]) (hp 1 [oC q2]) (.k [0] [false] [] [0,1,2,3,4,10,11,12,32] ⟨trF h1,trivial⟩) ?_)))
  replace hm:=bb_cases hm;rcases hm with⟨h9,hm⟩ | ⟨h9,hm⟩
  ·refine ifTt (ieq z6 (0:Int)) h9 ?_
   refine .then ?_
   cases hm
  ·refine ifFt (ieq z6 (0:Int)) h9 ?_
   refine .skip (.ghs (fr 148 [(0,sc 0 0 1 n1 c1),(1,zI z4),(2,zI z5),(3,zI z6),(4,(.func (.func 52) ⟨[]⟩ ⟨[]⟩)),(10,zB b0),(11,zB b1),(12,(zI (wrapF .i64 (Int.sub z5 z4))))]) (hp 1 [oC q2]) (.k [0] [false] [] [0,1,2,3,4,10,11,12] ⟨trF h1,trivial⟩) ?_)
   refine .join (v:=v) (fun y:Nat×Nat×Int×Int×Int×Bool×Bool×Int×LV=>((fr 148 [(0,(sc 0 0 1 y.1 y.2.1)),(1,(zI y.2.2.1)),(2,(zI y.2.2.2.1)),(3,(zI y.2.2.2.2.1)),(4,(.func (.func 52) ⟨[]⟩ ⟨[]⟩)),(10,(zB y.2.2.2.2.2.1)),(11,(zB y.2.2.2.2.2.2.1)),(12,(zI y.2.2.2.2.2.2.2.1))]),(hp 1 [(oC y.2.2.2.2.2.2.2.2)]))) (fun y=>m10940_1 pu n (l10940_0 pu n w0) y.1 y.2.1 y.2.2.1 y.2.2.2.1 y.2.2.2.2.1 y.2.2.2.2.2.1 y.2.2.2.2.2.2.1 y.2.2.2.2.2.2.2.1 y.2.2.2.2.2.2.2.2) ?_ ?_
   ·rintro⟨n2,c2,z7,z8,z9,b2,b3,z10,q4⟩ hm
    unfold m10940_1 at hm
    refine .then ?_
    cases hm
   ·refine .then (.rK (.ghs (fr 148 [(0,sc 0 0 1 n1 c1),(1,zI z4),(2,zI z5),(3,zI z6),(4,(.func (.func 52) ⟨[]⟩ ⟨[]⟩)),(10,zB b0),(11,zB b1),(12,(zI (wrapF .i64 (Int.sub z5 z4)))),(39,(zB (nt b0)))]) (hp 1 [oC q2]) (.k [0] [false] [] [0,1,2,3,4,10,11,12,39] ⟨trF h1,trivial⟩) ?_))
    replace hm:=bb_cases hm;rcases hm with⟨h10,hm⟩ | ⟨h10,hm⟩
    ·refine ifTt (nt b0) h10 ?_
     refine .then ?_
     cases hm
    ·refine ifFt (nt b0) h10 ?_
     refine .skip ?_
     exact⟨(n1,c1,z4,z5,z6,b0,b1,(wrapF .i64 (Int.sub z5 z4)),q2),hm,(.k [0] [false] [] [0,1,2,3,4,10,11,12] ⟨trF h1,trivial⟩)⟩
theorem r10940 {call:CallF} (pu:PureF) (n:Nat) (hcall:call=callP tabs isP pu (inl pu)) {args:LV} {os:List AObj} {z:Value} (ha:args.length=5) (hk:os.length=1) (hpl:∀ o∈os,plainO o) (hm:m10940 pu n (args++os.map encO)=some z):args.length≤148∧Run tt call (tabs.length+1) c94_74 (Fr.made 148 args) (subHeap tabs os) (FinO tt tabs.length 1 [] z):=by
 subst hcall
 have hq:=len_cons ha;clear ha;obtain⟨a0,args,rfl,ha⟩:=hq
 have hq:=len_cons ha;clear ha;obtain⟨a1,args,rfl,ha⟩:=hq
 have hq:=len_cons ha;clear ha;obtain⟨a2,args,rfl,ha⟩:=hq
 have hq:=len_cons ha;clear ha;obtain⟨a3,args,rfl,ha⟩:=hq
 have hq:=len_cons ha;clear ha;obtain⟨a4,args,rfl,ha⟩:=hq
 obtain rfl:=len_nil ha
 have hq:=len_cons hk;clear hk;obtain⟨b0,os,rfl,hk⟩:=hq
 have hp0:plainO b0:=hpl b0 (by simp)
 obtain rfl:=len_nil hk
 replace hm:m10940 pu n [a0,a1,a2,a3,a4,encO b0]=some z:=hm
 unfold m10940 at hm
 replace hm:(oo (toSc 0 0 1 a0) none fun y0=>(oo (toI .i64 a1) none fun x0=>(oo (toI .i64 a2) none fun x1=>(oo (toI .i64 a3) none fun x2=>(oo (toFn 52 0 a4) none fun l0=>(ll l0 (oo (vAgg (encO b0)) none fun q1=>(m10940_ pu n (NC.n y0) (NC.c y0) x0 x1 x2 q1)) fun _ _=>none))))))=some z:=hm
 replace hm:=oo_inv hm;obtain⟨y0,h0,hm⟩:=hm
 obtain rfl:=toSc_some h0
 replace hm:=inv_toI hm;obtain⟨x0,rfl,hm⟩:=hm
 replace hm:=inv_toI hm;obtain⟨x1,rfl,hm⟩:=hm
 replace hm:=inv_toI hm;obtain⟨x2,rfl,hm⟩:=hm
 replace hm:=oo_inv hm;obtain⟨l0,h1,hm⟩:=hm
 obtain rfl:=toFn_some h1
 replace hm:=ll_end hm;obtain⟨rfl,hm⟩:=hm
 replace hm:=oo_inv hm;obtain⟨q1,h2,hm⟩:=hm
 obtain rfl:=vAgg_enc hp0 h2
 refine⟨by simp,?_⟩
 exact .same (F':=(fr 148 [(0,(sc 0 0 1 (NC.n y0) (NC.c y0))),(1,zI x0),(2,zI x1),(3,zI x2),(4,(.func (.func 52) ⟨[]⟩ ⟨[]⟩))])) (H':=(hp 1 [oC q1])) (by kernel_rfl) (by kernel_rfl) (q10940 pu n (NC.n y0) (NC.c y0) x0 x1 x2 q1 hm)
def m10990_1 (pu:PureF) (n:Nat) (ih0:Nat→Nat→Int→Int→Int→LV→OV) (n0 c0:Nat) (z1 z2 z3:Int) (q1:LV):OV:=
 (bb (allL closed1 q1) (ih0 n0 c0 z1 z2 (wrapF .i64 (Int.add z3 (1:Int))) q1) none)
def m10990_3 (pu:PureF) (n:Nat) (ih0:Nat→Nat→Int→Int→Int→LV→OV) (ih1:Nat→Nat→Int→Int→Int→Int→LV→OV) (n0 c0:Nat) (z1 z2 z3 z4:Int) (b0:Bool) (q1:LV):OV:=
 (bb b0 (bb (allL closed1 q1) (oo (toN (wrapF .i64 (Int.sub z4 (1:Int)))) none fun k1=>(oo (toN (wrapF .i64 (Int.sub z4 (1:Int)))) none fun k2=>(bb (an (Nat.blt k2 n0) true) (oo (nthL q1 (0+k2*1)) none fun v0=>(oo (toSl 1 v0) none fun s0=>(oo (toN z4) none fun k3=>(bb (an (Nat.blt k3 n0) true) (oo (nthL q1 (0+k3*1)) none fun v1=>(oo (toSl 1 v1) none fun s1=>(bb (an (Nat.blt k3 n0) true) (bb (an (Nat.ble ((0+k3*1)+1) (len q1)) true) (bb (an (Nat.blt k1 n0) true) (bb (an (Nat.ble ((0+k1*1)+1) (len (setL ([Sl.v 1 s0]:LV) (0+k3*1) q1))) true) (bb (allL closed1 (setL ([Sl.v 1 s1]:LV) (0+k1*1) (setL ([Sl.v 1 s0]:LV) (0+k3*1) q1))) (ih1 n0 c0 z1 z2 z3 (wrapF .i64 (Int.sub (Int.ofNat k3) (1:Int))) (setL ([Sl.v 1 s1]:LV) (0+k1*1) (setL ([Sl.v 1 s0]:LV) (0+k3*1) q1))) none) none) none) none) none))) none)))) none))) none) (bb (allL closed1 q1) (m10990_1 pu n ih0 n0 c0 z1 z2 z3 q1) none))
def b10990_2 (pu:PureF) (n:Nat) (ih0:Nat→Nat→Int→Int→Int→LV→OV) (ih1:Nat→Nat→Int→Int→Int→Int→LV→OV) (n0 c0:Nat) (z1 z2 z3 z4:Int) (q1:LV):OV:=
 (bb (ilt z1 z4) (oo (toN z4) none fun k1=>(bb (an (Nat.blt k1 n0) true) (oo (nthL q1 (0+k1*1)) none fun v0=>(oo (toSl 1 v0) none fun s0=>(oo (toN (wrapF .i64 (Int.sub (Int.ofNat k1) (1:Int)))) none fun k2=>(bb (an (Nat.blt k2 n0) true) (oo (nthL q1 (0+k2*1)) none fun v1=>(oo (toSl 1 v1) none fun s1=>(oo (pu 52 [Sl.v 1 s0,Sl.v 1 s1]) none fun v2=>(oo (toI .i64 v2) none fun x0=>(bb (allL closed1 q1) (m10990_3 pu n ih0 ih1 n0 c0 z1 z2 z3 (Int.ofNat k1) (ilt x0 (0:Int)) q1) none))))) none)))) none)) (bb (allL closed1 q1) (m10990_3 pu n ih0 ih1 n0 c0 z1 z2 z3 z4 false q1) none))
def l10990_2 (pu:PureF) (n:Nat) (ih0:Nat→Nat→Int→Int→Int→LV→OV) (w:Nat):Nat→Nat→Int→Int→Int→Int→LV→OV:=
 Nat.rec (motive:=fun _=>Nat→Nat→Int→Int→Int→Int→LV→OV) (fun _ _ _ _ _ _ _=>none) (fun _ ih1=>b10990_2 pu n ih0 ih1) w
def b10990_0 (pu:PureF) (n:Nat) (ih0:Nat→Nat→Int→Int→Int→LV→OV) (n0 c0:Nat) (z1 z2 z3:Int) (q1:LV):OV:=
 (bb (allL closed1 q1) (bb (ilt z3 z2) (l10990_2 pu n ih0 n n0 c0 z1 z2 z3 z3 q1) (some (.tuple ⟨[(.tuple ⟨[]⟩),(.agg ⟨q1⟩)]⟩))) none)
def l10990_0 (pu:PureF) (n w:Nat):Nat→Nat→Int→Int→Int→LV→OV:=
 Nat.rec (motive:=fun _=>Nat→Nat→Int→Int→Int→LV→OV) (fun _ _ _ _ _ _=>none) (fun _ ih0=>b10990_0 pu n ih0) w
def m10990_ (pu:PureF) (n n0 c0:Nat) (z1 z2:Int) (q1:LV):OV:=
 (bb (allL closed1 q1) (l10990_0 pu n n n0 c0 z1 z2 (wrapF .i64 (Int.add z1 (1:Int))) q1) none)
def m10990 (pu:PureF) (n:Nat) (args:LV):OV:=
 (ll args none fun a0 args=>(ll args none fun a1 args=>(ll args none fun a2 args=>(ll args none fun a3 args=>(ll args none fun o0 args=>(ll args (oo (toSc 0 0 1 a0) none fun y0=>(oo (toI .i64 a1) none fun x0=>(oo (toI .i64 a2) none fun x1=>(oo (toFn 52 0 a3) none fun l0=>(ll l0 (oo (vAgg o0) none fun q1=>(m10990_ pu n (NC.n y0) (NC.c y0) x0 x1 q1)) fun _ _=>none))))) fun _ _=>none))))))
theorem q10990 (pu:PureF) (n n0 c0:Nat) (z1 z2:Int) (q1:LV) {v:Value} (hm:m10990_ pu n n0 c0 z1 z2 q1=some v):Run tt (callP tabs isP pu (inl pu)) 1 c99_22 (fr 53 [(0,sc 0 0 1 n0 c0),(1,zI z1),(2,zI z2),(3,(.func (.func 52) ⟨[]⟩ ⟨[]⟩))]) (hp 1 [oC q1]) (FinO tt 0 1 [] v):=by
 unfold m10990_ at hm
 refine .then (.rK ?_)
 replace hm:=bb_inv hm;obtain⟨h0,hm⟩:=hm
 refine .ghs (fr 53 [(0,sc 0 0 1 n0 c0),(1,zI z1),(2,zI z2),(3,(.func (.func 52) ⟨[]⟩ ⟨[]⟩)),(8,(zI (wrapF .i64 (Int.add z1 (1:Int)))))]) (hp 1 [oC q1]) (.k [0] [false] [] [0,1,2,3,8] ⟨trF h0,trivial⟩) ?_
 refine .block (.loopM (v:=v) (fun y:Nat×Nat×Int×Int×Int×LV=>((fr 53 [(0,(sc 0 0 1 y.1 y.2.1)),(1,(zI y.2.2.1)),(2,(zI y.2.2.2.1)),(3,(.func (.func 52) ⟨[]⟩ ⟨[]⟩)),(8,(zI y.2.2.2.2.1))]),(hp 1 [(oC y.2.2.2.2.2)]))) (fun w y=>l10990_0 pu n w y.1 y.2.1 y.2.2.1 y.2.2.2.1 y.2.2.2.2.1 y.2.2.2.2.2) n ⟨(n0,c0,z1,z2,(wrapF .i64 (Int.add z1 (1:Int))),q1),hm,(.k [0] [false] [] [0,1,2,3,8] ⟨trF h0,trivial⟩)⟩ (fun _=>rfl) ?_)
 rintro w0 ⟨n1,c1,z3,z4,z5,q2⟩ hm
 replace hm:b10990_0 pu n (l10990_0 pu n w0) n1 c1 z3 z4 z5 q2=some v:=hm
 unfold b10990_0 at hm
 refine .then (.then (.rK ?_))
 replace hm:=bb_inv hm;obtain⟨h1,hm⟩:=hm
 refine .ghs (fr 53 [(0,sc 0 0 1 n1 c1),(1,zI z3),(2,zI z4),(3,(.func (.func 52) ⟨[]⟩ ⟨[]⟩)),(8,zI z5),(14,(zB (ilt z5 z4)))]) (hp 1 [oC q2]) (.k [0] [false] [] [0,1,2,3,8,14] ⟨trF h1,trivial⟩) ?_
 replace hm:=bb_cases hm;rcases hm with⟨h2,hm⟩ | ⟨h2,hm⟩
 ·refine ifTt (ilt z5 z4) h2 ?_
  refine .skip (.ghs (fr 53 [(0,sc 0 0 1 n1 c1),(1,zI z3),(2,zI z4),(3,(.func (.func 52) ⟨[]⟩ ⟨[]⟩)),(8,zI z5)]) (hp 1 [oC q2]) (.k [0] [false] [] [0,1,2,3,8] ⟨trF h1,trivial⟩) ?_)
  refine .join (v:=v) (fun y:Nat×Nat×Int×Int×Int×LV=>((fr 53 [(0,(sc 0 0 1 y.1 y.2.1)),(1,(zI y.2.2.1)),(2,(zI y.2.2.2.1)),(3,(.func (.func 52) ⟨[]⟩ ⟨[]⟩)),(8,(zI y.2.2.2.2.1))]),(hp 1 [(oC y.2.2.2.2.2)]))) (fun y=>m10990_1 pu n (l10990_0 pu n w0) y.1 y.2.1 y.2.2.1 y.2.2.2.1 y.2.2.2.2.1 y.2.2.2.2.2) ?_ ?_
  ·rintro⟨n2,c2,z6,z7,z8,q3⟩ hm
   unfold m10990_1 at hm
   refine .rK ?_
   replace hm:=bb_inv hm;obtain⟨h3,hm⟩:=hm
   exact⟨(n2,c2,z6,z7,(wrapF .i64 (Int.add z8 (1:Int))),q3),hm,(.k [0] [false] [] [0,1,2,3,8] ⟨trF h3,trivial⟩)⟩
  ·refine .block (.then (.rK (.ghs (fr 53 [(0,sc 0 0 1 n1 c1),(1,zI z3),(2,zI z4),(3,(.func (.func 52) ⟨[]⟩ ⟨[]⟩)),(8,zI z5),(9,zI z5)]) (hp 1 [oC q2]) (.k [0] [false] [] [0,1,2,3,8,9] ⟨trF h1,trivial⟩) ?_)))
   refine .block (.loopM (v:=v) (fun y:Nat×Nat×Int×Int×Int×Int×LV=>((fr 53 [(0,(sc 0 0 1 y.1 y.2.1)),(1,(zI y.2.2.1)),(2,(zI y.2.2.2.1)),(3,(.func (.func 52) ⟨[]⟩ ⟨[]⟩)),(8,(zI y.2.2.2.2.1)),(9,(zI y.2.2.2.2.2.1))]),(hp 1 [(oC y.2.2.2.2.2.2)]))) (fun w y=>l10990_2 pu n (l10990_0 pu n w0) w y.1 y.2.1 y.2.2.1 y.2.2.2.1 y.2.2.2.2.1 y.2.2.2.2.2.1 y.2.2.2.2.2.2) n ⟨(n1,c1,z3,z4,z5,z5,q2),hm,(.k [0] [false] [] [0,1,2,3,8,9] ⟨trF h1,trivial⟩)⟩ (fun _=>rfl) ?_)
   rintro w1 ⟨n3,c3,z9,z10,z11,z12,q4⟩ hm
   replace hm:b10990_2 pu n (l10990_0 pu n w0) (l10990_2 pu n (l10990_0 pu n w0) w1) n3 c3 z9 z10 z11 z12 q4=some v:=hm
   unfold b10990_2 at hm
   refine .then (.join (v:=v) (fun y:Nat×Nat×Int×Int×Int×Int×Bool×LV=>((fr 53 [(0,(sc 0 0 1 y.1 y.2.1)),(1,(zI y.2.2.1)),(2,(zI y.2.2.2.1)),(3,(.func (.func 52) ⟨[]⟩ ⟨[]⟩)),(8,(zI y.2.2.2.2.1)),(9,(zI y.2.2.2.2.2.1)),(34,(zB y.2.2.2.2.2.2.1))]),(hp 1 [(oC y.2.2.2.2.2.2.2)]))) (fun y=>m10990_3 pu n (l10990_0 pu n w0) (l10990_2 pu n (l10990_0 pu n w0) w1) y.1 y.2.1 y.2.2.1 y.2.2.2.1 y.2.2.2.2.1 y.2.2.2.2.2.1 y.2.2.2.2.2.2.1 y.2.2.2.2.2.2.2) ?_ ?_)
   ·rintro⟨n4,c4,z13,z14,z15,z16,b0,q5⟩ hm
    unfold m10990_3 at hm
    replace hm:=bb_cases hm;rcases hm with⟨h4,hm⟩ | ⟨h4,hm⟩
    ·refine .ifT b0 (by kernel_rfl) h4 ?_
     refine .skip ?_
     replace hm:=bb_inv hm;obtain⟨h5,hm⟩:=hm
     refine .ghs (fr 53 [(0,sc 0 0 1 n4 c4),(1,zI z13),(2,zI z14),(3,(.func (.func 52) ⟨[]⟩ ⟨[]⟩)),(8,zI z15),(9,zI z16)]) (hp 1 [oC q5]) (.k [0] [false] [] [0,1,2,3,8,9] ⟨trF h5,trivial⟩) ?_
     refine .then (.block ?_)
     replace hm:=oo_inv hm;obtain⟨k1,h6,hm⟩:=hm
     replace hm:=oo_inv hm;obtain⟨k2,h7,hm⟩:=hm
     replace hm:=bb_inv hm;obtain⟨h8,hm⟩:=hm
     replace hm:=oQS hm;obtain⟨s0,h9,hm⟩:=hm
     replace hm:=oo_inv hm;obtain⟨k3,h10,hm⟩:=hm
     obtain rfl:=toN_some h10
     replace hm:=bb_inv hm;obtain⟨h11,hm⟩:=hm
     replace hm:=oQS hm;obtain⟨s1,h12,hm⟩:=hm
     replace hm:=bb_inv hm;obtain⟨h13,hm⟩:=hm
     replace hm:=bb_inv hm;obtain⟨h14,hm⟩:=hm
     replace hm:=bb_inv hm;obtain⟨h15,hm⟩:=hm
     replace hm:=bb_inv hm;obtain⟨h16,hm⟩:=hm
     refine .reg (eN 9 (Fr.puts (fr 53 [(0,sc 0 0 1 n4 c4),(1,zI z13),(2,zI z14),(3,(.func (.func 52) ⟨[]⟩ ⟨[]⟩)),(8,zI z15),(9,(zI (Int.ofNat k3)))]) [(37,sc 0 0 1 n4 c4),(38,(zI (Int.ofNat k3))),(39,sc 0 0 1 n4 c4),(40,(zI (Int.ofNat k3))),(41,(zI (Int.ofNat k1))),(42,sc 0 0 1 n4 c4),(43,(zI (Int.ofNat k3))),(44,(zI (Int.ofNat k2))),(45,(.pointer (some ⟨0,(0+k2*1),none⟩)))]) (hp 1 [oC q5]) (eC 4 (some ((zI (wrapF .i64 (Int.sub (Int.ofNat k3) (1:Int)))),(hp 1 [oC q5]))) (show _=some ((zI (Int.ofNat k1)),_) from (by rw[toN_some h6])) (eC 2 (some ((zI (wrapF .i64 (Int.sub (Int.ofNat k3) (1:Int)))),(hp 1 [oC q5]))) (show _=some ((zI (Int.ofNat k2)),_) from (by rw[toN_some h7])) (eD (keep (hp 1 [oC q5]) (bb (an (Nat.blt k2 n4) true) (some (.pointer (some ⟨0,(0+k2*1),none⟩))) none)) (keep_bb h8) (by kernel_rfl)))) (eN 5 (Fr.puts (fr 53 [(0,sc 0 0 1 n4 c4),(1,zI z13),(2,zI z14),(3,(.func (.func 52) ⟨[]⟩ ⟨[]⟩)),(8,zI z15),(9,(zI (Int.ofNat k3)))]) [(37,sc 0 0 1 n4 c4),(38,(zI (Int.ofNat k3))),(39,sc 0 0 1 n4 c4),(40,(zI (Int.ofNat k3))),(41,(zI (Int.ofNat k1))),(42,sc 0 0 1 n4 c4),(43,(zI (Int.ofNat k3))),(44,(zI (Int.ofNat k2))),(45,(.pointer (some ⟨0,(0+k2*1),none⟩))),(46,Sl.v 1 s0),(47,sc 0 0 1 n4 c4),(48,(zI (Int.ofNat k3))),(49,(.pointer (some ⟨0,(0+k3*1),none⟩))),(50,Sl.v 1 s1)]) (hp 1 [oC q5]) (eD (keep (hp 1 [oC q5]) (nthL q5 (0+k2*1))) (keep_eq h9) (eC 2 (keep (hp 1 [oC q5]) (bb (an (Nat.blt k3 n4) true) (some (.pointer (some ⟨0,(0+k3*1),none⟩))) none)) (keep_bb h11) (eD (keep (hp 1 [oC q5]) (nthL q5 (0+k3*1))) (keep_eq h12) (by kernel_rfl)))) (eD (keep (hp 1 [oC q5]) (bb (an (Nat.blt k3 n4) true) (some (.pointer (some ⟨0,(0+k3*1),none⟩))) none)) (keep_bb h13) (eD (done (bb (an (Nat.ble ((0+k3*1)+1) (len q5)) true) (some (hp 1 [(oC (setL ([Sl.v 1 s0]:LV) (0+k3*1) q5))])) none) undef) (done_bb h14) (eD (keep (hp 1 [(oC (setL ([Sl.v 1 s0]:LV) (0+k3*1) q5))]) (bb (an (Nat.blt k1 n4) true) (some (.pointer (some ⟨0,(0+k1*1),none⟩))) none)) (keep_bb h15) (eD (done (bb (an (Nat.ble ((0+k1*1)+1) (len (setL ([Sl.v 1 s0]:LV) (0+k3*1) q5))) true) (some (hp 1 [(oC (setL ([Sl.v 1 s1]:LV) (0+k1*1) (setL ([Sl.v 1 s0]:LV) (0+k3*1) q5)))])) none) undef) (done_bb h16) (eE))))))) ?_
     replace hm:=bb_inv hm;obtain⟨h17,hm⟩:=hm
     refine .ghs (fr 53 [(0,sc 0 0 1 n4 c4),(1,zI z13),(2,zI z14),(3,(.func (.func 52) ⟨[]⟩ ⟨[]⟩)),(8,zI z15),(9,(zI (Int.ofNat k3)))]) (hp 1 [(oC (setL ([Sl.v 1 s1]:LV) (0+k1*1) (setL ([Sl.v 1 s0]:LV) (0+k3*1) q5)))]) (.k [0] [false] [] [0,1,2,3,8,9] ⟨trF h17,trivial⟩) ?_
     refine .rK ?_
     exact⟨(n4,c4,z13,z14,z15,(wrapF .i64 (Int.sub (Int.ofNat k3) (1:Int))),(setL ([Sl.v 1 s1]:LV) (0+k1*1) (setL ([Sl.v 1 s0]:LV) (0+k3*1) q5))),hm,(.k [0] [false] [] [0,1,2,3,8,9] ⟨trF h17,trivial⟩)⟩
    ·refine .ifF b0 (by kernel_rfl) h4 ?_
     refine .exit ?_
     replace hm:=bb_inv hm;obtain⟨h18,hm⟩:=hm
     exact⟨(n4,c4,z13,z14,z15,q5),hm,(.k [0] [false] [] [0,1,2,3,8] ⟨trF h18,trivial⟩)⟩
   ·replace hm:=bb_cases hm;rcases hm with⟨h19,hm⟩ | ⟨h19,hm⟩
    ·replace hm:=oo_inv hm;obtain⟨k4,h20,hm⟩:=hm
     obtain rfl:=toN_some h20
     replace hm:=bb_inv hm;obtain⟨h21,hm⟩:=hm
     replace hm:=oQS hm;obtain⟨s2,h22,hm⟩:=hm
     replace hm:=oo_inv hm;obtain⟨k5,h23,hm⟩:=hm
     replace hm:=bb_inv hm;obtain⟨h24,hm⟩:=hm
     replace hm:=oQS hm;obtain⟨s3,h25,hm⟩:=hm
     replace hm:=oQI hm;obtain⟨x0,h26,hm⟩:=hm
     refine .reg (eN 9 (Fr.puts (fr 53 [(0,sc 0 0 1 n3 c3),(1,zI z9),(2,zI z10),(3,(.func (.func 52) ⟨[]⟩ ⟨[]⟩)),(8,zI z11),(9,(zI (Int.ofNat k4)))]) [(18,(zI (Int.ofNat k4))),(19,zI z9),(20,zB true),(21,zB true),(22,(.func (.func 52) ⟨[]⟩ ⟨[]⟩)),(23,sc 0 0 1 n3 c3),(24,(zI (Int.ofNat k4))),(25,(.pointer (some ⟨0,(0+k4*1),none⟩))),(26,Sl.v 1 s2)]) (hp 1 [oC q4]) (eC 2 (some ((zB (ilt z9 (Int.ofNat k4))),(hp 1 [oC q4]))) (show _=some ((zB true),_) from (by rw[show (ilt z9 (Int.ofNat k4))=true from h19])) (eC 4 (keep (hp 1 [oC q4]) (bb (an (Nat.blt k4 n3) true) (some (.pointer (some ⟨0,(0+k4*1),none⟩))) none)) (keep_bb h21) (eD (keep (hp 1 [oC q4]) (nthL q4 (0+k4*1))) (keep_eq h22) (by kernel_rfl)))) (eC 2 (some ((zI (wrapF .i64 (Int.sub (Int.ofNat k4) (1:Int)))),(hp 1 [oC q4]))) (show _=some ((zI (Int.ofNat k5)),_) from (by rw[toN_some h23])) (eD (keep (hp 1 [oC q4]) (bb (an (Nat.blt k5 n3) true) (some (.pointer (some ⟨0,(0+k5*1),none⟩))) none)) (keep_bb h24) (eD (keep (hp 1 [oC q4]) (nthL q4 (0+k5*1))) (keep_eq h25) (eD ((oo (pu 52 [Sl.v 1 s2,Sl.v 1 s3]) none fun v=>some (v,(hp 1 [oC q4])))) (call_eq h26) (eE)))))) ?_
     replace hm:=bb_inv hm;obtain⟨h27,hm⟩:=hm
     exact⟨(n3,c3,z9,z10,z11,(Int.ofNat k4),(ilt x0 (0:Int)),q4),hm,(.k [0] [false] [] [0,1,2,3,8,9,34] ⟨trF h27,trivial⟩)⟩
    ·refine .reg (eC 2 (some ((zB (ilt z9 z12)),(hp 1 [oC q4]))) (show _=some ((zB false),_) from (by rw[show (ilt z9 z12)=false from h19])) (eE)) ?_
     replace hm:=bb_inv hm;obtain⟨h28,hm⟩:=hm
     exact⟨(n3,c3,z9,z10,z11,z12,false,q4),hm,(.k [0] [false] [] [0,1,2,3,8,9,34] ⟨trF h28,trivial⟩)⟩
 ·refine ifFt (ilt z5 z4) h2 ?_
  refine .exit ?_
  refine .ghs (fr 53 []) (hp 1 [oC q2]) (.k [0] [false] [] [] ⟨trF h1,trivial⟩) ?_
  exact finO_end (.tuple ⟨[]⟩) [oC q2] (by kernel_rfl) hm (Nat.le_of_ble_eq_true rfl) (ooAt_cons (pO_c _) ooAt_nil)
theorem r10990 {call:CallF} (pu:PureF) (n:Nat) (hcall:call=callP tabs isP pu (inl pu)) {args:LV} {os:List AObj} {z:Value} (ha:args.length=4) (hk:os.length=1) (hpl:∀ o∈os,plainO o) (hm:m10990 pu n (args++os.map encO)=some z):args.length≤53∧Run tt call (tabs.length+1) c99_22 (Fr.made 53 args) (subHeap tabs os) (FinO tt tabs.length 1 [] z):=by
 subst hcall
 have hq:=len_cons ha;clear ha;obtain⟨a0,args,rfl,ha⟩:=hq
 have hq:=len_cons ha;clear ha;obtain⟨a1,args,rfl,ha⟩:=hq
 have hq:=len_cons ha;clear ha;obtain⟨a2,args,rfl,ha⟩:=hq
 have hq:=len_cons ha;clear ha;obtain⟨a3,args,rfl,ha⟩:=hq
 obtain rfl:=len_nil ha
 have hq:=len_cons hk;clear hk;obtain⟨b0,os,rfl,hk⟩:=hq
 have hp0:plainO b0:=hpl b0 (by simp)
 obtain rfl:=len_nil hk
 replace hm:m10990 pu n [a0,a1,a2,a3,encO b0]=some z:=hm
 unfold m10990 at hm
 replace hm:(oo (toSc 0 0 1 a0) none fun y0=>(oo (toI .i64 a1) none fun x0=>(oo (toI .i64 a2) none fun x1=>(oo (toFn 52 0 a3) none fun l0=>(ll l0 (oo (vAgg (encO b0)) none fun q1=>(m10990_ pu n (NC.n y0) (NC.c y0) x0 x1 q1)) fun _ _=>none)))))=some z:=hm
 replace hm:=oo_inv hm;obtain⟨y0,h0,hm⟩:=hm
 obtain rfl:=toSc_some h0
 replace hm:=inv_toI hm;obtain⟨x0,rfl,hm⟩:=hm
 replace hm:=inv_toI hm;obtain⟨x1,rfl,hm⟩:=hm
 replace hm:=oo_inv hm;obtain⟨l0,h1,hm⟩:=hm
 obtain rfl:=toFn_some h1
 replace hm:=ll_end hm;obtain⟨rfl,hm⟩:=hm
 replace hm:=oo_inv hm;obtain⟨q1,h2,hm⟩:=hm
 obtain rfl:=vAgg_enc hp0 h2
 refine⟨by simp,?_⟩
 exact .same (F':=(fr 53 [(0,(sc 0 0 1 (NC.n y0) (NC.c y0))),(1,zI x0),(2,zI x1),(3,(.func (.func 52) ⟨[]⟩ ⟨[]⟩))])) (H':=(hp 1 [oC q1])) (by kernel_rfl) (by kernel_rfl) (q10990 pu n (NC.n y0) (NC.c y0) x0 x1 q1 hm)
def m10810_0 (pu:PureF) (n:Nat) (s0:Sl) (n0 c0:Nat) (q1:LV):OV:=
 (bb (allL closed1 q1) (some (.tuple ⟨[(.bool true),(.agg ⟨[Sl.v 1 s0]⟩),(.agg ⟨[(.slice (some ⟨3,0,some 2⟩) n0 c0)]⟩),deadV,(.agg ⟨q1⟩)]⟩)) none)
def m10810_2 (pu:PureF) (n:Nat) (ih0:Int→Int→Sl→Nat→Nat→Int→Int→LV→OV) (z1 z2:Int) (b0:Bool) (s0:Sl) (n0 c0:Nat) (z3 z4:Int) (q1:LV):OV:=
 (bb b0 (bb (allL closed1 q1) (some (.tuple ⟨[(.bool false),(.agg ⟨[Sl.v 1 s0]⟩),(.agg ⟨[(.slice (some ⟨3,0,some 2⟩) n0 c0)]⟩),deadV,(.agg ⟨q1⟩)]⟩)) none) (bb (allL closed1 q1) (ih0 z1 (wrapF .i64 (Int.add z2 (1:Int))) s0 n0 c0 z3 z4 q1) none))
def b10810_1 (pu:PureF) (n:Nat) (ih0:Int→Int→Sl→Nat→Nat→Int→Int→LV→OV) (z1 z2:Int) (s0:Sl) (n0 c0:Nat) (z3 z4:Int) (q1:LV):OV:=
 (bb (allL closed1 q1) (bb (nt (ilt z3 (wrapF .i64 (Int.add z2 z1)))) (oo (toN z2) none fun k1=>(oo (pu 10850 [(.agg ⟨[.int .i64 z3,(.int .u32 (aor .u32 z4 (shlI .u32 (1:Int) k1)))]⟩),(.pointer (some ⟨0,0,none⟩)),(.agg ⟨[Sl.v 1 s0]⟩)]) none fun v0=>(oo (vTup v0) none fun l0=>(ll l0 none fun v1 l0=>(ll l0 none fun v2 l0=>(ll l0 (oo (vBool v1) none fun b0=>(oo (vAgg v2) none fun l1=>(ll l1 none fun v3 l1=>(ll l1 (oo (toSl 1 v3) none fun s1=>(bb b0 (bb (orr (Nat.ble 2 c0) (nilL q1)) (bb (allL closed1 q1) (oo (pu 10810 [(.agg ⟨[.int .i64 z3,(.int .u32 (aor .u32 z4 (shlI .u32 (1:Int) k1)))]⟩),(.int .i64 (wrapF .i64 (Int.add (Int.ofNat k1) (1:Int)))),(.int .i64 (wrapF .i64 (Int.sub z1 (1:Int)))),(.func (.func 85) ⟨[]⟩ ⟨[(.pointer (some ⟨0,0,none⟩))]⟩),(.func (.func 87) ⟨[]⟩ ⟨[(.pointer (some ⟨0,0,none⟩)),(.pointer (some ⟨1,0,none⟩))]⟩),(.agg ⟨[Sl.v 1 s1]⟩),(.agg ⟨[(.slice (some ⟨2,0,some 2⟩) n0 c0)]⟩),(.agg ⟨q1⟩)]) none fun v4=>(oo (vTup v4) none fun l2=>(ll l2 none fun v5 l2=>(ll l2 none fun v6 l2=>(ll l2 none fun v7 l2=>(ll l2 none fun v8 l2=>(ll l2 none fun v9 l2=>(ll l2 (oo (vBool v5) none fun b1=>(oo (vAgg v6) none fun l3=>(ll l3 none fun v10 l3=>(ll l3 (oo (toSl 1 v10) none fun s2=>(oo (vAgg v7) none fun l4=>(ll l4 none fun v11 l4=>(ll l4 (oo (toSc 3 0 2 v11) none fun y0=>(bb (isDead v8) (oo (vAgg v9) none fun q2=>(bb (allL closed1 q2) (bb (allL closed1 q2) (m10810_2 pu n ih0 z1 (Int.ofNat k1) (nt b1) s2 (NC.n y0) (NC.c y0) z3 z4 q2) none) none)) none)) fun _ _=>none)))) fun _ _=>none)))) fun _ _=>none)))))))) none) none) (m10810_2 pu n ih0 z1 (Int.ofNat k1) false s1 n0 c0 z3 z4 q1))) fun _ _=>none)))) fun _ _=>none)))))) (m10810_0 pu n s0 n0 c0 q1)) none)
def l10810_1 (pu:PureF) (n w:Nat):Int→Int→Sl→Nat→Nat→Int→Int→LV→OV:=
 Nat.rec (motive:=fun _=>Int→Int→Sl→Nat→Nat→Int→Int→LV→OV) (fun _ _ _ _ _ _ _ _=>none) (fun _ ih0=>b10810_1 pu n ih0) w
def m10810_ (pu:PureF) (n:Nat) (z1 z2 z3 z4:Int) (s0:Sl) (n0 c0:Nat) (q1:LV):OV:=
 (bb (allL closed1 q1) (bb (ieq z4 (0:Int)) (bb (orr (Nat.ble 2 c0) (nilL q1)) (bb (allL closed1 q1) (oo (pu 10870 [(.agg ⟨[.int .i64 z1,.int .u32 z2]⟩),(.pointer (some ⟨0,0,none⟩)),(.pointer (some ⟨1,0,none⟩)),(.agg ⟨[Sl.v 1 s0]⟩),(.agg ⟨[(.slice (some ⟨2,0,some 2⟩) n0 c0)]⟩),(.agg ⟨q1⟩)]) none fun v0=>(oo (vTup v0) none fun l0=>(ll l0 none fun v1 l0=>(ll l0 none fun v2 l0=>(ll l0 none fun v3 l0=>(ll l0 none fun v4 l0=>(ll l0 none fun v5 l0=>(ll l0 (oo (vBool v1) none fun b0=>(oo (vAgg v2) none fun l1=>(ll l1 none fun v6 l1=>(ll l1 (oo (toSl 1 v6) none fun s1=>(oo (vAgg v3) none fun l2=>(ll l2 none fun v7 l2=>(ll l2 (oo (toSc 3 0 2 v7) none fun y0=>(bb (isDead v4) (oo (vAgg v5) none fun q2=>(bb (allL closed1 q2) (bb (allL closed1 q2) (some (.tuple ⟨[(.bool b0),(.agg ⟨[Sl.v 1 s1]⟩),(.agg ⟨[(.slice (some ⟨3,0,some 2⟩) (NC.n y0) (NC.c y0))]⟩),deadV,(.agg ⟨q2⟩)]⟩)) none) none)) none)) fun _ _=>none)))) fun _ _=>none)))) fun _ _=>none)))))))) none) none) (l10810_1 pu n n z4 z3 s0 n0 c0 z1 z2 q1)) none)
def m10810 (pu:PureF) (n:Nat) (args:LV):OV:=
 (ll args none fun a0 args=>(ll args none fun a1 args=>(ll args none fun a2 args=>(ll args none fun a3 args=>(ll args none fun a4 args=>(ll args none fun o0 args=>(ll args none fun o1 args=>(ll args none fun o2 args=>(ll args (oo (vAgg a0) none fun l0=>(ll l0 none fun v0 l0=>(ll l0 none fun v1 l0=>(ll l0 (oo (toI .i64 v0) none fun x0=>(oo (toI .u32 v1) none fun x1=>(oo (toI .i64 a1) none fun x2=>(oo (toI .i64 a2) none fun x3=>(oo (toFn 85 0 a3) none fun l1=>(ll l1 none fun v2 l1=>(ll l1 (bb (isPt v2 0 0) (oo (toFn 87 0 a4) none fun l2=>(ll l2 none fun v3 l2=>(ll l2 none fun v4 l2=>(ll l2 (bb (isPt v3 0 0) (bb (isPt v4 1 0) (oo (vAgg o0) none fun l3=>(ll l3 none fun v5 l3=>(ll l3 (oo (toSl 1 v5) none fun s0=>(oo (vAgg o1) none fun l4=>(ll l4 none fun v6 l4=>(ll l4 (oo (toSc 2 0 2 v6) none fun y0=>(oo (vAgg o2) none fun q1=>(m10810_ pu n x0 x1 x2 x3 s0 (NC.n y0) (NC.c y0) q1))) fun _ _=>none)))) fun _ _=>none))) none) none) fun _ _=>none)))) none) fun _ _=>none))))))) fun _ _=>none)))) fun _ _=>none)))))))))
theorem w10810_0 (pu:PureF) (n:Nat) (s0:Sl) (n0 c0:Nat) (q1:LV) {v:Value} (hm:m10810_0 pu n s0 n0 c0 q1=some v):Run tt (callP tabs isP pu (inl pu)) 3 c81_27 (fr 48 []) (hp 4 [(oC [Sl.v 1 s0]),(oC [sc 3 0 2 n0 c0]),.dead,oC q1]) (FinO tt 0 3 [.tmp 10] v):=by
 unfold m10810_0 at hm
 refine .then (.rK ?_)
 replace hm:=bb_inv hm;obtain⟨h0,hm⟩:=hm
 refine .ghs (fr 48 [(10,zB true)]) (hp 4 [(oC [Sl.v 1 s0]),(oC [sc 3 0 2 n0 c0]),.dead,oC q1]) (.k [3] [false,true,false] [.cell 1 0 false] [10] ⟨trF h0,trivial⟩) ?_
 refine .ghs (fr 48 [(10,zB true)]) (hp 4 [(oC [Sl.v 1 s0]),(oC [sc 3 0 2 n0 c0]),.dead,oC q1]) (.k [3] [false,true,false] [.cell 1 0 false] [10] ⟨trF h0,trivial⟩) ?_
 refine .ret ?_
 exact finO_ret (zB true) [(oC [Sl.v 1 s0]),(oC [sc 3 0 2 n0 c0]),.dead,oC q1] (by kernel_rfl) hm (Nat.le_of_ble_eq_true rfl) (ooAt_cons (pO_c _) (ooAt_cons (pO_c _) (ooAt_cons pO_d (ooAt_cons (pO_c _) ooAt_nil))))
theorem q10810 (pu:PureF) (n:Nat) (z1 z2 z3 z4:Int) (s0:Sl) (n0 c0:Nat) (q1:LV) {v:Value} (hm:m10810_ pu n z1 z2 z3 z4 s0 n0 c0 q1=some v):Run tt (callP tabs isP pu (inl pu)) 3 c81_30 (fr 48 [(0,(.agg ⟨[zI z1,.int .u32 z2]⟩)),(1,zI z3),(2,zI z4),(3,(.func (.func 85) ⟨[]⟩ ⟨[(pt 0 0)]⟩)),(4,(.func (.func 87) ⟨[]⟩ ⟨[(pt 0 0),pt 1 0]⟩))]) (hp 3 [(oC [Sl.v 1 s0]),(oC [sc 2 0 2 n0 c0]),oC q1]) (FinO tt 0 3 [.tmp 10] v):=by
 unfold m10810_ at hm
 refine .ghs (fr 48 [(0,(.agg ⟨[zI z1,.int .u32 z2]⟩)),(1,zI z3),(2,zI z4),(3,(.func (.func 85) ⟨[]⟩ ⟨[(pt 0 0)]⟩)),(4,(.func (.func 87) ⟨[]⟩ ⟨[(pt 0 0),pt 1 0]⟩))]) (hp 4 [(oC [Sl.v 1 s0]),(oC [sc 3 0 2 n0 c0]),.dead,oC q1]) (.mv 4 1 0 2 0 2 n0 c0 [sc 2 0 2 n0 c0] q1 (spA:=false) (ancA:=[]) (ancB:=[]) (v:=(.func (.func 87) ⟨[]⟩ ⟨[(pt 0 0),pt 1 0]⟩)) (by kernel_rfl) (leads_fn 1 (by kernel_rfl) (leads_ptr (off:=0))) (GhS.id _ _)) ?_
 refine .then (.rK ?_)
 replace hm:=bb_inv hm;obtain⟨h0,hm⟩:=hm
 refine .ghs (fr 48 [(1,zI z3),(2,zI z4),(3,(.func (.func 85) ⟨[]⟩ ⟨[(pt 0 0)]⟩)),(4,(.func (.func 87) ⟨[]⟩ ⟨[(pt 0 0),pt 1 0]⟩)),(5,(pt 3 0))]) (hp 5 [(oC [Sl.v 1 s0]),(oC [sc 4 0 2 n0 c0]),.dead,(oC [zI z1,.int .u32 z2]),oC q1]) (.k [3] [false,true,false] [.tmp 5 false,.cell 1 0 false] [1,2,3,4,5] ⟨trF h0,trivial⟩) ?_
 refine .then (.then (.rK (.ghs (fr 48 [(1,zI z3),(2,zI z4),(3,(.func (.func 85) ⟨[]⟩ ⟨[(pt 0 0)]⟩)),(4,(.func (.func 87) ⟨[]⟩ ⟨[(pt 0 0),pt 1 0]⟩)),(5,(pt 3 0)),(14,(zB (ieq z4 (0:Int))))]) (hp 5 [(oC [Sl.v 1 s0]),(oC [sc 4 0 2 n0 c0]),.dead,(oC [zI z1,.int .u32 z2]),oC q1]) (.k [4] [false,true,false] [.tmp 5 false,.cell 1 0 false] [1,2,3,4,5,14] ⟨trF h0,trivial⟩) ?_)))
 replace hm:=bb_cases hm;rcases hm with⟨h1,hm⟩ | ⟨h1,hm⟩
 ·refine ifTt (ieq z4 (0:Int)) h1 ?_
  refine .then ?_
  replace hm:=bb_inv hm;obtain⟨h2,hm⟩:=hm
  replace hm:=bb_inv hm;obtain⟨h3,hm⟩:=hm
  replace hm:=oo_inv hm;obtain⟨v0,h4,hm⟩:=hm
  replace hm:=inv_vTup hm;obtain⟨l0,rfl,hm⟩:=hm
  replace hm:=ll_uncons hm;obtain⟨v1,l7384_0,rfl,hm⟩:=hm
  replace hm:=ll_uncons hm;obtain⟨v2,l7384_1,rfl,hm⟩:=hm
  replace hm:=ll_uncons hm;obtain⟨v3,l7384_2,rfl,hm⟩:=hm
  replace hm:=ll_uncons hm;obtain⟨v4,l7384_3,rfl,hm⟩:=hm
  replace hm:=ll_uncons hm;obtain⟨v5,l7384_4,rfl,hm⟩:=hm
  replace hm:=ll_end hm;obtain⟨rfl,hm⟩:=hm
  replace hm:=inv_vBool hm;obtain⟨b0,rfl,hm⟩:=hm
  replace hm:=inv_vAgg hm;obtain⟨l1,rfl,hm⟩:=hm
  replace hm:=ll_uncons hm;obtain⟨v6,l7393_0,rfl,hm⟩:=hm
  replace hm:=ll_end hm;obtain⟨rfl,hm⟩:=hm
  replace hm:=inv_toSl hm;obtain⟨s1,rfl,hm⟩:=hm
  replace hm:=inv_vAgg hm;obtain⟨l2,rfl,hm⟩:=hm
  replace hm:=ll_uncons hm;obtain⟨v7,l7398_0,rfl,hm⟩:=hm
  replace hm:=ll_end hm;obtain⟨rfl,hm⟩:=hm
  replace hm:=oo_inv hm;obtain⟨y0,h5,hm⟩:=hm
  obtain rfl:=toSc_some h5
  replace hm:=bb_inv hm;obtain⟨h6,hm⟩:=hm
  replace hm:=inv_vAgg hm;obtain⟨q2,rfl,hm⟩:=hm
  replace hm:=bb_inv hm;obtain⟨h7,hm⟩:=hm
  refine .reg (eC 2 (objG tabs [[none,none],[none],[none]] 3 [.tmp 1 false,.tmp 2 true,.cell 1 0 false] [false,true,false,false] (pu 10870) [(.agg ⟨[zI z1,.int .u32 z2]⟩),(pt 0 0),pt 1 0] (hp 5 [(oC [Sl.v 1 s0]),(oC [sc 4 0 2 n0 c0]),.dead,(oC [zI z1,.int .u32 z2]),oC q1])) (objG_eq (as:=[(.agg ⟨[zI z1,.int .u32 z2]⟩),(pt 0 0),pt 1 0]) (H1:=(hp 5 [(oC [Sl.v 1 s0]),(oC [sc 4 0 2 n0 c0]),.dead,(oC [zI z1,.int .u32 z2]),oC q1])) (gvAL_c (gvA_a (gvL_c gv_n (gvL_c gv_n gvL_n))) (gvAL_c (gvA_1 gv_n) (gvAL_c (gvA_1 gv_n) gvAL_n))) (objF_eq (H2:=(hp 6 [(oC [Sl.v 1 s1]),(oC [(sc 5 0 2 (NC.n y0) (NC.c y0))]),.dead,(oC [zI z1,.int .u32 z2]),.dead,oC q2])) (v:=(zB b0)) (v':=(zB b0)) [some 0,some 1,some 4] [(false,some 0),(true,some 1),(false,some 4)] [(oC [Sl.v 1 s0]),(oC [sc 2 0 2 n0 c0]),oC q1] [(.agg ⟨[zI z1,.int .u32 z2]⟩),(pt 0 0),pt 1 0] [(.agg ⟨[Sl.v 1 s1]⟩),(.agg ⟨[(sc 3 0 2 (NC.n y0) (NC.c y0))]⟩),v4,(.agg ⟨q2⟩)] [(oC [Sl.v 1 s1]),(oC [(sc 3 0 2 (NC.n y0) (NC.c y0))]),.dead,oC q2] [some 0,some 1,none,none,some 2,some 3] [(false,(oC [Sl.v 1 s1])),(true,(oC [(sc 3 0 2 (NC.n y0) (NC.c y0))])),(false,.dead),(false,oC q2)] [(oC [Sl.v 1 s1]),(oC [(sc 5 0 2 (NC.n y0) (NC.c y0))]),.dead,oC q2] (trE (by kernel_rfl) (rootL h2 rfl)) (mapO_c (by kernel_rfl) (mapO_c (by kernel_rfl) (mapO_c (nO_list (anc:=[]) h3) mapO_n))) (Eq.trans (by kernel_rfl) h4) (mapO_c rfl (mapO_c rfl (mapO_c (dead_dec h6) (mapO_c rfl mapO_n)))) (mapO_c (by kernel_rfl) (mapO_c (by kernel_rfl) (mapO_c (by kernel_rfl) (mapO_c (bO_list h7) mapO_n)))))) (eE)) ?_
  replace hm:=bb_inv hm;obtain⟨h8,hm⟩:=hm
  refine .ghs (fr 48 [(10,zB b0)]) (hp 4 [(oC [Sl.v 1 s1]),(oC [(sc 3 0 2 (NC.n y0) (NC.c y0))]),.dead,oC q2]) (.k [5] [false,true,false] [.cell 1 0 false] [10] ⟨trF h8,trivial⟩) ?_
  refine .ghs (fr 48 [(10,zB b0)]) (hp 4 [(oC [Sl.v 1 s1]),(oC [(sc 3 0 2 (NC.n y0) (NC.c y0))]),.dead,oC q2]) (.k [3] [false,true,false] [.cell 1 0 false] [10] ⟨trF h8,trivial⟩) ?_
  refine .ret ?_
  exact finO_ret (zB b0) [(oC [Sl.v 1 s1]),(oC [(sc 3 0 2 (NC.n y0) (NC.c y0))]),.dead,oC q2] (by kernel_rfl) hm (Nat.le_of_ble_eq_true rfl) (ooAt_cons (pO_c _) (ooAt_cons (pO_c _) (ooAt_cons pO_d (ooAt_cons (pO_c _) ooAt_nil))))
 ·refine ifFt (ieq z4 (0:Int)) h1 ?_
  refine .skip (.ghs (fr 48 [(1,zI z3),(2,zI z4),(3,(.func (.func 85) ⟨[]⟩ ⟨[(pt 0 0)]⟩)),(4,(.func (.func 87) ⟨[]⟩ ⟨[(pt 0 0),pt 1 0]⟩)),(5,(pt 3 0))]) (hp 5 [(oC [Sl.v 1 s0]),(oC [sc 4 0 2 n0 c0]),.dead,(oC [zI z1,.int .u32 z2]),oC q1]) (.k [4] [false,true,false] [.tmp 5 false,.cell 1 0 false] [1,2,3,4,5] ⟨trF h0,trivial⟩) ?_)
  refine .join (v:=v) (fun y:Sl×Nat×Nat×LV=>((fr 48 []),(hp 4 [(oC [(Sl.v 1 y.1)]),(oC [(sc 3 0 2 y.2.1 y.2.2.1)]),.dead,(oC y.2.2.2)]))) (fun y=>m10810_0 pu n y.1 y.2.1 y.2.2.1 y.2.2.2) ?_ ?_
  ·rintro⟨s2,n1,c1,q3⟩ hm
   exact w10810_0 pu n s2 n1 c1 q3 hm
  ·refine .then (.rK (.ghs (fr 48 [(2,zI z4),(3,(.func (.func 85) ⟨[]⟩ ⟨[(pt 0 0)]⟩)),(4,(.func (.func 87) ⟨[]⟩ ⟨[(pt 0 0),pt 1 0]⟩)),(5,(pt 3 0)),(11,zI z3)]) (hp 5 [(oC [Sl.v 1 s0]),(oC [sc 4 0 2 n0 c0]),.dead,(oC [zI z1,.int .u32 z2]),oC q1]) (.k [4] [false,true,false] [.tmp 5 false,.cell 1 0 false] [2,3,4,5,11] ⟨trF h0,trivial⟩) ?_))
   refine .block (.loopM (v:=v) (fun y:Int×Int×Sl×Nat×Nat×Int×Int×LV=>((fr 48 [(2,(zI y.1)),(3,(.func (.func 85) ⟨[]⟩ ⟨[(pt 0 0)]⟩)),(4,(.func (.func 87) ⟨[]⟩ ⟨[(pt 0 0),pt 1 0]⟩)),(5,(pt 3 0)),(11,(zI y.2.1))]),(hp 5 [(oC [(Sl.v 1 y.2.2.1)]),(oC [(sc 4 0 2 y.2.2.2.1 y.2.2.2.2.1)]),.dead,(oC [(zI y.2.2.2.2.2.1),(.int .u32 y.2.2.2.2.2.2.1)]),(oC y.2.2.2.2.2.2.2)]))) (fun w y=>l10810_1 pu n w y.1 y.2.1 y.2.2.1 y.2.2.2.1 y.2.2.2.2.1 y.2.2.2.2.2.1 y.2.2.2.2.2.2.1 y.2.2.2.2.2.2.2) n ⟨(z4,z3,s0,n0,c0,z1,z2,q1),hm,(.k [4] [false,true,false] [.tmp 5 false,.cell 1 0 false] [2,3,4,5,11] ⟨trF h0,trivial⟩)⟩ (fun _=>rfl) ?_)
   rintro w0 ⟨z5,z6,s3,n2,c2,z7,z8,q4⟩ hm
   replace hm:b10810_1 pu n (l10810_1 pu n w0) z5 z6 s3 n2 c2 z7 z8 q4=some v:=hm
   unfold b10810_1 at hm
   refine .then (.then (.rK ?_))
   replace hm:=bb_inv hm;obtain⟨h9,hm⟩:=hm
   refine .ghs (fr 48 [(2,zI z5),(3,(.func (.func 85) ⟨[]⟩ ⟨[(pt 0 0)]⟩)),(4,(.func (.func 87) ⟨[]⟩ ⟨[(pt 0 0),pt 1 0]⟩)),(5,(pt 3 0)),(11,zI z6),(24,(zB (nt (ilt z7 (wrapF .i64 (Int.add z6 z5))))))]) (hp 5 [(oC [Sl.v 1 s3]),(oC [sc 4 0 2 n2 c2]),.dead,(oC [zI z7,.int .u32 z8]),oC q4]) (.k [4] [false,true,false] [.tmp 5 false,.cell 1 0 false] [2,3,4,5,11,24] ⟨trF h9,trivial⟩) ?_
   replace hm:=bb_cases hm;rcases hm with⟨h10,hm⟩ | ⟨h10,hm⟩
   ·refine ifTt (nt (ilt z7 (wrapF .i64 (Int.add z6 z5)))) h10 ?_
    refine .skip (.ghs (fr 48 [(2,zI z5),(3,(.func (.func 85) ⟨[]⟩ ⟨[(pt 0 0)]⟩)),(4,(.func (.func 87) ⟨[]⟩ ⟨[(pt 0 0),pt 1 0]⟩)),(5,(pt 3 0)),(11,zI z6)]) (hp 5 [(oC [Sl.v 1 s3]),(oC [sc 4 0 2 n2 c2]),.dead,(oC [zI z7,.int .u32 z8]),oC q4]) (.k [4] [false,true,false] [.tmp 5 false,.cell 1 0 false] [2,3,4,5,11] ⟨trF h9,trivial⟩) ?_)
    refine .then (.block (.then (.rK (.ghs (fr 48 [(2,zI z5),(3,(.func (.func 85) ⟨[]⟩ ⟨[(pt 0 0)]⟩)),(4,(.func (.func 87) ⟨[]⟩ ⟨[(pt 0 0),pt 1 0]⟩)),(5,(pt 3 0)),(11,zI z6),(12,(pt 4 0))]) (hp 6 [(oC [Sl.v 1 s3]),(oC [sc 5 0 2 n2 c2]),.dead,(oC [zI z7,.int .u32 z8]),(oC [zI z7,.int .u32 z8]),oC q4]) (.k [4] [false,true,false] [.tmp 5 false,.tmp 12 false,.cell 1 0 false] [2,3,4,5,11,12] ⟨trF h9,trivial⟩) ?_))))
    refine .then ?_
    replace hm:=oo_inv hm;obtain⟨k1,h11,hm⟩:=hm
    obtain rfl:=toN_some h11
    refine .rK (.ghs (fr 48 [(2,zI z5),(3,(.func (.func 85) ⟨[]⟩ ⟨[(pt 0 0)]⟩)),(4,(.func (.func 87) ⟨[]⟩ ⟨[(pt 0 0),pt 1 0]⟩)),(5,(pt 3 0)),(11,(zI (Int.ofNat k1))),(12,(pt 4 0))]) (hp 6 [(oC [Sl.v 1 s3]),(oC [sc 5 0 2 n2 c2]),.dead,(oC [zI z7,.int .u32 z8]),(oC [zI z7,(.int .u32 (aor .u32 z8 (shlI .u32 (1:Int) k1)))]),oC q4]) (.k [5] [false,true,false] [.tmp 5 false,.tmp 12 false,.cell 1 0 false] [2,3,4,5,11,12] ⟨trF h9,trivial⟩) ?_)
    refine .join (v:=v) (fun y:Int×Int×Bool×Sl×Nat×Nat×Int×Int×LV=>((fr 48 [(2,(zI y.1)),(3,(.func (.func 85) ⟨[]⟩ ⟨[(pt 0 0)]⟩)),(4,(.func (.func 87) ⟨[]⟩ ⟨[(pt 0 0),pt 1 0]⟩)),(5,(pt 3 0)),(11,(zI y.2.1)),(47,(zB y.2.2.1))]),(hp 5 [(oC [(Sl.v 1 y.2.2.2.1)]),(oC [(sc 4 0 2 y.2.2.2.2.1 y.2.2.2.2.2.1)]),.dead,(oC [(zI y.2.2.2.2.2.2.1),(.int .u32 y.2.2.2.2.2.2.2.1)]),(oC y.2.2.2.2.2.2.2.2)]))) (fun y=>m10810_2 pu n (l10810_1 pu n w0) y.1 y.2.1 y.2.2.1 y.2.2.2.1 y.2.2.2.2.1 y.2.2.2.2.2.1 y.2.2.2.2.2.2.1 y.2.2.2.2.2.2.2.1 y.2.2.2.2.2.2.2.2) ?_ ?_
    ·rintro⟨z9,z10,b1,s4,n3,c3,z11,z12,q5⟩ hm
     unfold m10810_2 at hm
     replace hm:=bb_cases hm;rcases hm with⟨h12,hm⟩ | ⟨h12,hm⟩
     ·refine .ifT b1 (by kernel_rfl) h12 ?_
      refine .then (.rK ?_)
      replace hm:=bb_inv hm;obtain⟨h13,hm⟩:=hm
      refine .ghs (fr 48 [(10,zB false)]) (hp 4 [(oC [Sl.v 1 s4]),(oC [sc 3 0 2 n3 c3]),.dead,oC q5]) (.k [4] [false,true,false] [.cell 1 0 false] [10] ⟨trF h13,trivial⟩) ?_
      refine .ghs (fr 48 [(10,zB false)]) (hp 4 [(oC [Sl.v 1 s4]),(oC [sc 3 0 2 n3 c3]),.dead,oC q5]) (.k [3] [false,true,false] [.cell 1 0 false] [10] ⟨trF h13,trivial⟩) ?_
      refine .ret ?_
      exact finO_ret (zB false) [(oC [Sl.v 1 s4]),(oC [sc 3 0 2 n3 c3]),.dead,oC q5] (by kernel_rfl) hm (Nat.le_of_ble_eq_true rfl) (ooAt_cons (pO_c _) (ooAt_cons (pO_c _) (ooAt_cons pO_d (ooAt_cons (pO_c _) ooAt_nil))))
     ·refine .ifF b1 (by kernel_rfl) h12 ?_
      refine .skip ?_
      replace hm:=bb_inv hm;obtain⟨h14,hm⟩:=hm
      refine .ghs (fr 48 [(2,zI z9),(3,(.func (.func 85) ⟨[]⟩ ⟨[(pt 0 0)]⟩)),(4,(.func (.func 87) ⟨[]⟩ ⟨[(pt 0 0),pt 1 0]⟩)),(5,(pt 3 0)),(11,zI z10)]) (hp 5 [(oC [Sl.v 1 s4]),(oC [sc 4 0 2 n3 c3]),.dead,(oC [zI z11,.int .u32 z12]),oC q5]) (.k [4] [false,true,false] [.tmp 5 false,.cell 1 0 false] [2,3,4,5,11] ⟨trF h14,trivial⟩) ?_
      refine .rK ?_
      exact⟨(z9,(wrapF .i64 (Int.add z10 (1:Int))),s4,n3,c3,z11,z12,q5),hm,(.k [4] [false,true,false] [.tmp 5 false,.cell 1 0 false] [2,3,4,5,11] ⟨trF h14,trivial⟩)⟩
    ·replace hm:=oo_inv hm;obtain⟨v8,h15,hm⟩:=hm
     replace hm:=inv_vTup hm;obtain⟨l3,rfl,hm⟩:=hm
     replace hm:=ll_uncons hm;obtain⟨v9,l8400_0,rfl,hm⟩:=hm
     replace hm:=ll_uncons hm;obtain⟨v10,l8400_1,rfl,hm⟩:=hm
     replace hm:=ll_end hm;obtain⟨rfl,hm⟩:=hm
     replace hm:=inv_vBool hm;obtain⟨b2,rfl,hm⟩:=hm
     replace hm:=inv_vAgg hm;obtain⟨l4,rfl,hm⟩:=hm
     replace hm:=ll_uncons hm;obtain⟨v11,l8406_0,rfl,hm⟩:=hm
     replace hm:=ll_end hm;obtain⟨rfl,hm⟩:=hm
     replace hm:=inv_toSl hm;obtain⟨s5,rfl,hm⟩:=hm
     replace hm:=bb_cases hm;rcases hm with⟨h16,hm⟩ | ⟨h16,hm⟩
     ·replace hm:=bb_inv hm;obtain⟨h17,hm⟩:=hm
      replace hm:=bb_inv hm;obtain⟨h18,hm⟩:=hm
      replace hm:=oo_inv hm;obtain⟨v12,h19,hm⟩:=hm
      replace hm:=inv_vTup hm;obtain⟨l5,rfl,hm⟩:=hm
      replace hm:=ll_uncons hm;obtain⟨v13,l8424_0,rfl,hm⟩:=hm
      replace hm:=ll_uncons hm;obtain⟨v14,l8424_1,rfl,hm⟩:=hm
      replace hm:=ll_uncons hm;obtain⟨v15,l8424_2,rfl,hm⟩:=hm
      replace hm:=ll_uncons hm;obtain⟨v16,l8424_3,rfl,hm⟩:=hm
      replace hm:=ll_uncons hm;obtain⟨v17,l8424_4,rfl,hm⟩:=hm
      replace hm:=ll_end hm;obtain⟨rfl,hm⟩:=hm
      replace hm:=inv_vBool hm;obtain⟨b3,rfl,hm⟩:=hm
      replace hm:=inv_vAgg hm;obtain⟨l6,rfl,hm⟩:=hm
      replace hm:=ll_uncons hm;obtain⟨v18,l8433_0,rfl,hm⟩:=hm
      replace hm:=ll_end hm;obtain⟨rfl,hm⟩:=hm
      replace hm:=inv_toSl hm;obtain⟨s6,rfl,hm⟩:=hm
      replace hm:=inv_vAgg hm;obtain⟨l7,rfl,hm⟩:=hm
      replace hm:=ll_uncons hm;obtain⟨v19,l8438_0,rfl,hm⟩:=hm
      replace hm:=ll_end hm;obtain⟨rfl,hm⟩:=hm
      replace hm:=oo_inv hm;obtain⟨y1,h20,hm⟩:=hm
      obtain rfl:=toSc_some h20
      replace hm:=bb_inv hm;obtain⟨h21,hm⟩:=hm
      replace hm:=inv_vAgg hm;obtain⟨q6,rfl,hm⟩:=hm
      replace hm:=bb_inv hm;obtain⟨h22,hm⟩:=hm
      refine .reg (eC 2 (objG tabs [[none,none],[none]] 2 [.tmp 1 false] [false] (pu 10850) [(.agg ⟨[zI z7,(.int .u32 (aor .u32 z8 (shlI .u32 (1:Int) k1)))]⟩),(pt 0 0)] (hp 6 [(oC [Sl.v 1 s3]),(oC [sc 5 0 2 n2 c2]),.dead,(oC [zI z7,.int .u32 z8]),(oC [zI z7,(.int .u32 (aor .u32 z8 (shlI .u32 (1:Int) k1)))]),oC q4])) (show _=some ((zB true),_) from (by have hz:objG tabs [[none,none],[none]] 2 [.tmp 1 false] [false] (pu 10850) [(.agg ⟨[zI z7,(.int .u32 (aor .u32 z8 (shlI .u32 (1:Int) k1)))]⟩),(pt 0 0)] (hp 6 [(oC [Sl.v 1 s3]),(oC [sc 5 0 2 n2 c2]),.dead,(oC [zI z7,.int .u32 z8]),(oC [zI z7,(.int .u32 (aor .u32 z8 (shlI .u32 (1:Int) k1)))]),oC q4])=some ((zB b2),(hp 6 [(oC [Sl.v 1 s5]),(oC [sc 5 0 2 n2 c2]),.dead,(oC [zI z7,.int .u32 z8]),(oC [zI z7,(.int .u32 (aor .u32 z8 (shlI .u32 (1:Int) k1)))]),oC q4])):=(objG_eq (as:=[(.agg ⟨[zI z7,(.int .u32 (aor .u32 z8 (shlI .u32 (1:Int) k1)))]⟩),(pt 0 0)]) (H1:=(hp 6 [(oC [Sl.v 1 s3]),(oC [sc 5 0 2 n2 c2]),.dead,(oC [zI z7,.int .u32 z8]),(oC [zI z7,(.int .u32 (aor .u32 z8 (shlI .u32 (1:Int) k1)))]),oC q4])) (gvAL_c (gvA_a (gvL_c gv_n (gvL_c gv_n gvL_n))) (gvAL_c (gvA_1 gv_n) gvAL_n)) (objF_eq (H2:=(hp 6 [(oC [Sl.v 1 s5]),(oC [sc 5 0 2 n2 c2]),.dead,(oC [zI z7,.int .u32 z8]),(oC [zI z7,(.int .u32 (aor .u32 z8 (shlI .u32 (1:Int) k1)))]),oC q4])) (v:=(zB b2)) (v':=(zB b2)) [some 0] [(false,some 0)] [(oC [Sl.v 1 s3])] [(.agg ⟨[zI z7,(.int .u32 (aor .u32 z8 (shlI .u32 (1:Int) k1)))]⟩),(pt 0 0)] [(.agg ⟨[Sl.v 1 s5]⟩)] [(oC [Sl.v 1 s5])] [some 0,none,none,none,none,none] [(false,(oC [Sl.v 1 s5]))] [(oC [Sl.v 1 s5])] (by kernel_rfl) (mapO_c (by kernel_rfl) mapO_n) (Eq.trans (by kernel_rfl) h15) (mapO_c rfl mapO_n) (mapO_c (by kernel_rfl) mapO_n)));rw[h16] at hz;exact hz)) (eC 8 (objG tabs [[none,none],[none],[none],[none],[none]] 5 [.cap 3 0 false,.cap 4 1 true,.cell 1 0 false] [false,true,false,false] (pu 10810) [(.agg ⟨[zI z7,(.int .u32 (aor .u32 z8 (shlI .u32 (1:Int) k1)))]⟩),(zI (wrapF .i64 (Int.add (Int.ofNat k1) (1:Int)))),(zI (wrapF .i64 (Int.sub z5 (1:Int)))),(.func (.func 85) ⟨[]⟩ ⟨[(pt 0 0)]⟩),(.func (.func 87) ⟨[]⟩ ⟨[(pt 0 0),pt 1 0]⟩)] (hp 6 [(oC [Sl.v 1 s5]),(oC [sc 5 0 2 n2 c2]),.dead,(oC [zI z7,.int .u32 z8]),(oC [zI z7,(.int .u32 (aor .u32 z8 (shlI .u32 (1:Int) k1)))]),oC q4])) (objG_eq (as:=[(.agg ⟨[zI z7,(.int .u32 (aor .u32 z8 (shlI .u32 (1:Int) k1)))]⟩),(zI (wrapF .i64 (Int.add (Int.ofNat k1) (1:Int)))),(zI (wrapF .i64 (Int.sub z5 (1:Int)))),(.func (.func 85) ⟨[]⟩ ⟨[(pt 0 0)]⟩),(.func (.func 87) ⟨[]⟩ ⟨[(pt 0 0),pt 1 0]⟩)]) (H1:=(hp 6 [(oC [Sl.v 1 s5]),(oC [sc 5 0 2 n2 c2]),.dead,(oC [zI z7,.int .u32 z8]),(oC [zI z7,(.int .u32 (aor .u32 z8 (shlI .u32 (1:Int) k1)))]),oC q4])) (gvAL_c (gvA_a (gvL_c gv_n (gvL_c gv_n gvL_n))) (gvAL_c (gvA_1 gv_n) (gvAL_c (gvA_1 gv_n) (gvAL_c (gvA_1 gv_n) (gvAL_c (gvA_1 gv_n) gvAL_n))))) (objF_eq (H2:=(hp 7 [(oC [Sl.v 1 s6]),(oC [(sc 6 0 2 (NC.n y1) (NC.c y1))]),.dead,(oC [zI z7,.int .u32 z8]),(oC [zI z7,(.int .u32 (aor .u32 z8 (shlI .u32 (1:Int) k1)))]),.dead,oC q6])) (v:=(zB b3)) (v':=(zB b3)) [some 0,some 1,some 5] [(false,some 0),(true,some 1),(false,some 5)] [(oC [Sl.v 1 s5]),(oC [sc 2 0 2 n2 c2]),oC q4] [(.agg ⟨[zI z7,(.int .u32 (aor .u32 z8 (shlI .u32 (1:Int) k1)))]⟩),(zI (wrapF .i64 (Int.add (Int.ofNat k1) (1:Int)))),(zI (wrapF .i64 (Int.sub z5 (1:Int)))),(.func (.func 85) ⟨[]⟩ ⟨[(pt 0 0)]⟩),(.func (.func 87) ⟨[]⟩ ⟨[(pt 0 0),pt 1 0]⟩)] [(.agg ⟨[Sl.v 1 s6]⟩),(.agg ⟨[(sc 3 0 2 (NC.n y1) (NC.c y1))]⟩),v16,(.agg ⟨q6⟩)] [(oC [Sl.v 1 s6]),(oC [(sc 3 0 2 (NC.n y1) (NC.c y1))]),.dead,oC q6] [some 0,some 1,none,none,none,some 2,some 3] [(false,(oC [Sl.v 1 s6])),(true,(oC [(sc 3 0 2 (NC.n y1) (NC.c y1))])),(false,.dead),(false,oC q6)] [(oC [Sl.v 1 s6]),(oC [(sc 6 0 2 (NC.n y1) (NC.c y1))]),.dead,oC q6] (trE (by kernel_rfl) (rootL h17 rfl)) (mapO_c (by kernel_rfl) (mapO_c (by kernel_rfl) (mapO_c (nO_list (anc:=[]) h18) mapO_n))) (Eq.trans (by kernel_rfl) h19) (mapO_c rfl (mapO_c rfl (mapO_c (dead_dec h21) (mapO_c rfl mapO_n)))) (mapO_c (by kernel_rfl) (mapO_c (by kernel_rfl) (mapO_c (by kernel_rfl) (mapO_c (bO_list h22) mapO_n)))))) (eE))) ?_
      replace hm:=bb_inv hm;obtain⟨h23,hm⟩:=hm
      exact⟨(z5,(Int.ofNat k1),(nt b3),s6,(NC.n y1),(NC.c y1),z7,z8,q6),hm,(.k [6] [false,true,false] [.tmp 5 false,.cell 1 0 false] [2,3,4,5,11,47] ⟨trF h23,trivial⟩)⟩
     ·refine .reg (eC 2 (objG tabs [[none,none],[none]] 2 [.tmp 1 false] [false] (pu 10850) [(.agg ⟨[zI z7,(.int .u32 (aor .u32 z8 (shlI .u32 (1:Int) k1)))]⟩),(pt 0 0)] (hp 6 [(oC [Sl.v 1 s3]),(oC [sc 5 0 2 n2 c2]),.dead,(oC [zI z7,.int .u32 z8]),(oC [zI z7,(.int .u32 (aor .u32 z8 (shlI .u32 (1:Int) k1)))]),oC q4])) (show _=some ((zB false),_) from (by have hz:objG tabs [[none,none],[none]] 2 [.tmp 1 false] [false] (pu 10850) [(.agg ⟨[zI z7,(.int .u32 (aor .u32 z8 (shlI .u32 (1:Int) k1)))]⟩),(pt 0 0)] (hp 6 [(oC [Sl.v 1 s3]),(oC [sc 5 0 2 n2 c2]),.dead,(oC [zI z7,.int .u32 z8]),(oC [zI z7,(.int .u32 (aor .u32 z8 (shlI .u32 (1:Int) k1)))]),oC q4])=some ((zB b2),(hp 6 [(oC [Sl.v 1 s5]),(oC [sc 5 0 2 n2 c2]),.dead,(oC [zI z7,.int .u32 z8]),(oC [zI z7,(.int .u32 (aor .u32 z8 (shlI .u32 (1:Int) k1)))]),oC q4])):=(objG_eq (as:=[(.agg ⟨[zI z7,(.int .u32 (aor .u32 z8 (shlI .u32 (1:Int) k1)))]⟩),(pt 0 0)]) (H1:=(hp 6 [(oC [Sl.v 1 s3]),(oC [sc 5 0 2 n2 c2]),.dead,(oC [zI z7,.int .u32 z8]),(oC [zI z7,(.int .u32 (aor .u32 z8 (shlI .u32 (1:Int) k1)))]),oC q4])) (gvAL_c (gvA_a (gvL_c gv_n (gvL_c gv_n gvL_n))) (gvAL_c (gvA_1 gv_n) gvAL_n)) (objF_eq (H2:=(hp 6 [(oC [Sl.v 1 s5]),(oC [sc 5 0 2 n2 c2]),.dead,(oC [zI z7,.int .u32 z8]),(oC [zI z7,(.int .u32 (aor .u32 z8 (shlI .u32 (1:Int) k1)))]),oC q4])) (v:=(zB b2)) (v':=(zB b2)) [some 0] [(false,some 0)] [(oC [Sl.v 1 s3])] [(.agg ⟨[zI z7,(.int .u32 (aor .u32 z8 (shlI .u32 (1:Int) k1)))]⟩),(pt 0 0)] [(.agg ⟨[Sl.v 1 s5]⟩)] [(oC [Sl.v 1 s5])] [some 0,none,none,none,none,none] [(false,(oC [Sl.v 1 s5]))] [(oC [Sl.v 1 s5])] (by kernel_rfl) (mapO_c (by kernel_rfl) mapO_n) (Eq.trans (by kernel_rfl) h15) (mapO_c rfl mapO_n) (mapO_c (by kernel_rfl) mapO_n)));rw[h16] at hz;exact hz)) (eE)) ?_
      exact⟨(z5,(Int.ofNat k1),false,s5,n2,c2,z7,z8,q4),hm,(.k [5] [false,true,false] [.tmp 5 false,.cell 1 0 false] [2,3,4,5,11,47] ⟨trF h9,trivial⟩)⟩
   ·refine ifFt (nt (ilt z7 (wrapF .i64 (Int.add z6 z5)))) h10 ?_
    refine .exit ?_
    exact⟨(s3,n2,c2,q4),hm,(.k [4] [false,true,false] [.cell 1 0 false] [] ⟨trF h9,trivial⟩)⟩
theorem r10810 {call:CallF} (pu:PureF) (n:Nat) (hcall:call=callP tabs isP pu (inl pu)) {args:LV} {os:List AObj} {z:Value} (ha:args.length=5) (hk:os.length=3) (hpl:∀ o∈os,plainO o) (hm:m10810 pu n (args++os.map encO)=some z):args.length≤48∧Run tt call (tabs.length+3) c81_30 (Fr.made 48 args) (subHeap tabs os) (FinO tt tabs.length 3 [.tmp 10] z):=by
 subst hcall
 have hq:=len_cons ha;clear ha;obtain⟨a0,args,rfl,ha⟩:=hq
 have hq:=len_cons ha;clear ha;obtain⟨a1,args,rfl,ha⟩:=hq
 have hq:=len_cons ha;clear ha;obtain⟨a2,args,rfl,ha⟩:=hq
 have hq:=len_cons ha;clear ha;obtain⟨a3,args,rfl,ha⟩:=hq
 have hq:=len_cons ha;clear ha;obtain⟨a4,args,rfl,ha⟩:=hq
 obtain rfl:=len_nil ha
 have hq:=len_cons hk;clear hk;obtain⟨b0,os,rfl,hk⟩:=hq
 have hp0:plainO b0:=hpl b0 (by simp)
 have hq:=len_cons hk;clear hk;obtain⟨b1,os,rfl,hk⟩:=hq
 have hp1:plainO b1:=hpl b1 (by simp)
 have hq:=len_cons hk;clear hk;obtain⟨b2,os,rfl,hk⟩:=hq
 have hp2:plainO b2:=hpl b2 (by simp)
 obtain rfl:=len_nil hk
 replace hm:m10810 pu n [a0,a1,a2,a3,a4,encO b0,encO b1,encO b2]=some z:=hm
 unfold m10810 at hm
 replace hm:(oo (vAgg a0) none fun l0=>(ll l0 none fun v0 l0=>(ll l0 none fun v1 l0=>(ll l0 (oo (toI .i64 v0) none fun x0=>(oo (toI .u32 v1) none fun x1=>(oo (toI .i64 a1) none fun x2=>(oo (toI .i64 a2) none fun x3=>(oo (toFn 85 0 a3) none fun l1=>(ll l1 none fun v2 l1=>(ll l1 (bb (isPt v2 0 0) (oo (toFn 87 0 a4) none fun l2=>(ll l2 none fun v3 l2=>(ll l2 none fun v4 l2=>(ll l2 (bb (isPt v3 0 0) (bb (isPt v4 1 0) (oo (vAgg (encO b0)) none fun l3=>(ll l3 none fun v5 l3=>(ll l3 (oo (toSl 1 v5) none fun s0=>(oo (vAgg (encO b1)) none fun l4=>(ll l4 none fun v6 l4=>(ll l4 (oo (toSc 2 0 2 v6) none fun y0=>(oo (vAgg (encO b2)) none fun q1=>(m10810_ pu n x0 x1 x2 x3 s0 (NC.n y0) (NC.c y0) q1))) fun _ _=>none)))) fun _ _=>none))) none) none) fun _ _=>none)))) none) fun _ _=>none))))))) fun _ _=>none))))=some z:=hm
 replace hm:=inv_vAgg hm;obtain⟨l0,rfl,hm⟩:=hm
 replace hm:=ll_uncons hm;obtain⟨v0,l8448_0,rfl,hm⟩:=hm
 replace hm:=ll_uncons hm;obtain⟨v1,l8448_1,rfl,hm⟩:=hm
 replace hm:=ll_end hm;obtain⟨rfl,hm⟩:=hm
 replace hm:=inv_toI hm;obtain⟨x0,rfl,hm⟩:=hm
 replace hm:=inv_toI hm;obtain⟨x1,rfl,hm⟩:=hm
 replace hm:=inv_toI hm;obtain⟨x2,rfl,hm⟩:=hm
 replace hm:=inv_toI hm;obtain⟨x3,rfl,hm⟩:=hm
 replace hm:=oo_inv hm;obtain⟨l1,h0,hm⟩:=hm
 obtain rfl:=toFn_some h0
 replace hm:=ll_uncons hm;obtain⟨v2,l8460_0,rfl,hm⟩:=hm
 replace hm:=ll_end hm;obtain⟨rfl,hm⟩:=hm
 replace hm:=bb_inv hm;obtain⟨h1,hm⟩:=hm
 obtain rfl:=isPt_ok h1
 replace hm:=oo_inv hm;obtain⟨l2,h2,hm⟩:=hm
 obtain rfl:=toFn_some h2
 replace hm:=ll_uncons hm;obtain⟨v3,l8464_0,rfl,hm⟩:=hm
 replace hm:=ll_uncons hm;obtain⟨v4,l8464_1,rfl,hm⟩:=hm
 replace hm:=ll_end hm;obtain⟨rfl,hm⟩:=hm
 replace hm:=bb_inv hm;obtain⟨h3,hm⟩:=hm
 obtain rfl:=isPt_ok h3
 replace hm:=bb_inv hm;obtain⟨h4,hm⟩:=hm
 obtain rfl:=isPt_ok h4
 replace hm:=oo_inv hm;obtain⟨l3,h5,hm⟩:=hm
 obtain rfl:=vAgg_enc hp0 h5
 replace hm:=ll_uncons hm;obtain⟨v5,l8470_0,rfl,hm⟩:=hm
 replace hm:=ll_end hm;obtain⟨rfl,hm⟩:=hm
 replace hm:=inv_toSl hm;obtain⟨s0,rfl,hm⟩:=hm
 replace hm:=oo_inv hm;obtain⟨l4,h6,hm⟩:=hm
 obtain rfl:=vAgg_enc hp1 h6
 replace hm:=ll_uncons hm;obtain⟨v6,l8475_0,rfl,hm⟩:=hm
 replace hm:=ll_end hm;obtain⟨rfl,hm⟩:=hm
 replace hm:=oo_inv hm;obtain⟨y0,h7,hm⟩:=hm
 obtain rfl:=toSc_some h7
 replace hm:=oo_inv hm;obtain⟨q1,h8,hm⟩:=hm
 obtain rfl:=vAgg_enc hp2 h8
 refine⟨by simp,?_⟩
 exact .same (F':=(fr 48 [(0,(.agg ⟨[zI x0,.int .u32 x1]⟩)),(1,zI x2),(2,zI x3),(3,(.func (.func 85) ⟨[]⟩ ⟨[(pt 0 0)]⟩)),(4,(.func (.func 87) ⟨[]⟩ ⟨[(pt 0 0),pt 1 0]⟩))])) (H':=(hp 3 [(oC [Sl.v 1 s0]),(oC [(sc 2 0 2 (NC.n y0) (NC.c y0))]),oC q1])) (by kernel_rfl) (by kernel_rfl) (q10810 pu n x0 x1 x2 x3 s0 (NC.n y0) (NC.c y0) q1 hm)
end
end Go.RgJM
