/- Made from wip. -/
import Derived.Test.YtenlanbdolnhhaaRgJMod0x
import Derived.Test.YtenlanbdolnhhaaRgJMod1
import Derived.Test.YtenlanbdolnhhaaRgJMod2
import Derived.Test.YtenlanbdolnhhaaRgJMod3
import Derived.Test.YtenlanbdolnhhaaRgJMod4
import Derived.Test.YtenlanbdolnhhaaRgJMod5

set_option maxRecDepth 100000
set_option maxHeartbeats 20000000
set_option linter.unusedVariables false
namespace Go.RgJM
open Go.Sp Go.RgJ
noncomputable section
def m10870_0 (pu:PureF) (n:Nat) (s0:Sl) (n0 c0:Nat) (q1:LV):OV:=
 (bb (allL closed1 q1) (some (.tuple ⟨[(.bool true),(.agg ⟨[Sl.v 1 s0]⟩),(.agg ⟨[(.slice (some ⟨3,0,some 2⟩) n0 c0)]⟩),deadV,(.agg ⟨q1⟩)]⟩)) none)
def m10870_1 (pu:PureF) (n:Nat) (b0:Bool) (s0:Sl) (n0 c0:Nat) (z1 z2:Int) (q1:LV):OV:=
 (bb b0 (oo (pu 66 [(.agg ⟨[.int .i64 z1,.int .u32 z2]⟩)]) none fun v0=>(oo (vAgg v0) none fun l0=>(ll l0 none fun v1 l0=>(ll l0 none fun v2 l0=>(ll l0 (oo (toI .i64 v1) none fun x0=>(oo (toSl 1 v2) none fun s1=>(bb (growC 2 32 n0 c0 1 q1) (bb (allL closed1 (appL (dropL 0 q1) [.int .i64 x0,Sl.v 1 s1])) (m10870_0 pu n s0 (n0+1) (2*(n0+1)+bb false 1 0) (appL (dropL 0 q1) [.int .i64 x0,Sl.v 1 s1])) none) none))) fun _ _=>none))))) (bb (allL closed1 q1) (m10870_0 pu n s0 n0 c0 q1) none))
def m10870_ (pu:PureF) (n:Nat) (z1 z2:Int) (s0:Sl) (n0 c0:Nat) (q1:LV):OV:=
 (bb (allL closed1 q1) (oo (pu 68 [(.agg ⟨[.int .i64 z1,.int .u32 z2]⟩)]) none fun v0=>(oo (vAgg v0) none fun l0=>(ll l0 none fun v1 l0=>(ll l0 none fun v2 l0=>(ll l0 (oo (toI .i64 v1) none fun x0=>(oo (toI .u32 v2) none fun x1=>(bb (bq true (an (ieq x0 z1) (an (ieq x1 z2) true))) (oo (pu 74 [(.agg ⟨[.int .i64 z1,.int .u32 z2]⟩)]) none fun v3=>(oo (toSl 1 v3) none fun s1=>(oo (pu 88 [Sl.v 1 s1,Sl.v 1 s0]) none fun v4=>(oo (vBool v4) none fun b0=>(m10870_1 pu n b0 s0 n0 c0 z1 z2 q1))))) (m10870_1 pu n false s0 n0 c0 z1 z2 q1)))) fun _ _=>none))))) none)
def m10870 (pu:PureF) (n:Nat) (args:LV):OV:=
 (ll args none fun a0 args=>(ll args none fun a1 args=>(ll args none fun a2 args=>(ll args none fun o0 args=>(ll args none fun o1 args=>(ll args none fun o2 args=>(ll args (oo (vAgg a0) none fun l0=>(ll l0 none fun v0 l0=>(ll l0 none fun v1 l0=>(ll l0 (oo (toI .i64 v0) none fun x0=>(oo (toI .u32 v1) none fun x1=>(bb (isPt a1 0 0) (bb (isPt a2 1 0) (oo (vAgg o0) none fun l1=>(ll l1 none fun v2 l1=>(ll l1 (oo (toSl 1 v2) none fun s0=>(oo (vAgg o1) none fun l2=>(ll l2 none fun v3 l2=>(ll l2 (oo (toSc 2 0 2 v3) none fun y0=>(oo (vAgg o2) none fun q1=>(m10870_ pu n x0 x1 s0 (NC.n y0) (NC.c y0) q1))) fun _ _=>none)))) fun _ _=>none))) none) none))) fun _ _=>none)))) fun _ _=>none)))))))
theorem w10870_0 (pu:PureF) (n:Nat) (s0:Sl) (n0 c0:Nat) (q1:LV) {v:Value} (hm:m10870_0 pu n s0 n0 c0 q1=some v):Run tt (callP tabs isP pu (inl pu)) 3 c87_6 (fr 20 []) (hp 4 [(oC [Sl.v 1 s0]),(oC [sc 3 0 2 n0 c0]),.dead,oC q1]) (FinO tt 0 3 [.tmp 4] v):=by
 unfold m10870_0 at hm
 refine .then (.rK ?_)
 replace hm:=bb_inv hm;obtain⟨h0,hm⟩:=hm
 refine .ghs (fr 20 [(4,zB true)]) (hp 4 [(oC [Sl.v 1 s0]),(oC [sc 3 0 2 n0 c0]),.dead,oC q1]) (.k [3] [false,true,false] [.cell 1 0 false] [4] ⟨trF h0,trivial⟩) ?_
 refine .ghs (fr 20 [(4,zB true)]) (hp 4 [(oC [Sl.v 1 s0]),(oC [sc 3 0 2 n0 c0]),.dead,oC q1]) (.k [3] [false,true,false] [.cell 1 0 false] [4] ⟨trF h0,trivial⟩) ?_
 refine .ret ?_
 exact finO_ret (zB true) [(oC [Sl.v 1 s0]),(oC [sc 3 0 2 n0 c0]),.dead,oC q1] (by kernel_rfl) hm (Nat.le_of_ble_eq_true rfl) (ooAt_cons (pO_c _) (ooAt_cons (pO_c _) (ooAt_cons pO_d (ooAt_cons (pO_c _) ooAt_nil))))
theorem q10870 (pu:PureF) (n:Nat) (z1 z2:Int) (s0:Sl) (n0 c0:Nat) (q1:LV) {v:Value} (hm:m10870_ pu n z1 z2 s0 n0 c0 q1=some v):Run tt (callP tabs isP pu (inl pu)) 3 c87_8 (fr 20 [(0,(.agg ⟨[zI z1,.int .u32 z2]⟩)),(1,(pt 0 0)),(2,pt 1 0)]) (hp 3 [(oC [Sl.v 1 s0]),(oC [sc 2 0 2 n0 c0]),oC q1]) (FinO tt 0 3 [.tmp 4] v):=by
 unfold m10870_ at hm
 refine .ghs (fr 20 [(0,(.agg ⟨[zI z1,.int .u32 z2]⟩)),(1,(pt 0 0)),(2,pt 1 0)]) (hp 4 [(oC [Sl.v 1 s0]),(oC [sc 3 0 2 n0 c0]),.dead,oC q1]) (.mv 2 1 0 2 0 2 n0 c0 [sc 2 0 2 n0 c0] q1 (spA:=false) (ancA:=[]) (ancB:=[]) (v:=(pt 1 0)) (by kernel_rfl) (leads_ptr (off:=0)) (GhS.id _ _)) ?_
 refine .then (.rK ?_)
 replace hm:=bb_inv hm;obtain⟨h0,hm⟩:=hm
 refine .ghs (fr 20 [(1,(pt 0 0)),(2,pt 1 0),(3,(pt 3 0))]) (hp 5 [(oC [Sl.v 1 s0]),(oC [sc 4 0 2 n0 c0]),.dead,(oC [zI z1,.int .u32 z2]),oC q1]) (.k [3] [false,true,false] [.tmp 3 false,.cell 1 0 false] [1,2,3] ⟨trF h0,trivial⟩) ?_
 refine .join (v:=v) (fun y:Sl×Nat×Nat×LV=>((fr 20 []),(hp 4 [(oC [(Sl.v 1 y.1)]),(oC [(sc 3 0 2 y.2.1 y.2.2.1)]),.dead,(oC y.2.2.2)]))) (fun y=>m10870_0 pu n y.1 y.2.1 y.2.2.1 y.2.2.2) ?_ ?_
 ·rintro⟨s1,n1,c1,q2⟩ hm
  exact w10870_0 pu n s1 n1 c1 q2 hm
 ·refine .join (v:=v) (fun y:Bool×Sl×Nat×Nat×Int×Int×LV=>((fr 20 [(2,pt 1 0),(3,(pt 3 0)),(14,(zB y.1))]),(hp 5 [(oC [(Sl.v 1 y.2.1)]),(oC [(sc 4 0 2 y.2.2.1 y.2.2.2.1)]),.dead,(oC [(zI y.2.2.2.2.1),(.int .u32 y.2.2.2.2.2.1)]),(oC y.2.2.2.2.2.2)]))) (fun y=>m10870_1 pu n y.1 y.2.1 y.2.2.1 y.2.2.2.1 y.2.2.2.2.1 y.2.2.2.2.2.1 y.2.2.2.2.2.2) ?_ ?_
  ·rintro⟨b0,s2,n2,c2,z3,z4,q3⟩ hm
   unfold m10870_1 at hm
   replace hm:=bb_cases hm;rcases hm with⟨h1,hm⟩ | ⟨h1,hm⟩
   ·refine .ifT b0 (by kernel_rfl) h1 ?_
    replace hm:=oo_inv hm;obtain⟨v0,h2,hm⟩:=hm
    replace hm:=inv_vAgg hm;obtain⟨l0,rfl,hm⟩:=hm
    replace hm:=ll_uncons hm;obtain⟨v1,l7276_0,rfl,hm⟩:=hm
    replace hm:=ll_uncons hm;obtain⟨v2,l7276_1,rfl,hm⟩:=hm
    replace hm:=ll_end hm;obtain⟨rfl,hm⟩:=hm
    replace hm:=inv_toI hm;obtain⟨x0,rfl,hm⟩:=hm
    replace hm:=inv_toSl hm;obtain⟨s3,rfl,hm⟩:=hm
    replace hm:=bb_inv hm;obtain⟨h3,hm⟩:=hm
    refine .reg (eC 2 ((oo (pu 66 [(.agg ⟨[zI z3,.int .u32 z4]⟩)]) none fun v=>some (v,(hp 5 [(oC [Sl.v 1 s2]),(oC [sc 4 0 2 n2 c2]),.dead,(oC [zI z3,.int .u32 z4]),oC q3])))) (call_eq h2) (eC 1 (growD 2 32 n2 c2 1 4 q3 [zI x0,Sl.v 1 s3] [] (hp 6 [(oC [Sl.v 1 s2]),(oC [sc 4 0 2 n2 c2]),.dead,(oC [zI z3,.int .u32 z4]),oC q3,(oC [zI x0,Sl.v 1 s3])])) (growD_eq h3) (eE))) ?_
    replace hm:=bb_inv hm;obtain⟨h4,hm⟩:=hm
    exact⟨(s2,(n2+1),(d2 (n2+1)),(appL (dropL 0 q3) [zI x0,Sl.v 1 s3])),hm,(.k [6] [false,true,false] [.cell 1 0 false] [] ⟨trF h4,trivial⟩)⟩
   ·refine .ifF b0 (by kernel_rfl) h1 ?_
    refine .skip ?_
    replace hm:=bb_inv hm;obtain⟨h5,hm⟩:=hm
    exact⟨(s2,n2,c2,q3),hm,(.k [4] [false,true,false] [.cell 1 0 false] [] ⟨trF h5,trivial⟩)⟩
  ·replace hm:=oo_inv hm;obtain⟨v3,h6,hm⟩:=hm
   replace hm:=inv_vAgg hm;obtain⟨l1,rfl,hm⟩:=hm
   replace hm:=ll_uncons hm;obtain⟨v4,l7308_0,rfl,hm⟩:=hm
   replace hm:=ll_uncons hm;obtain⟨v5,l7308_1,rfl,hm⟩:=hm
   replace hm:=ll_end hm;obtain⟨rfl,hm⟩:=hm
   replace hm:=inv_toI hm;obtain⟨x1,rfl,hm⟩:=hm
   replace hm:=inv_toI hm;obtain⟨x2,rfl,hm⟩:=hm
   replace hm:=bb_cases hm;rcases hm with⟨h7,hm⟩ | ⟨h7,hm⟩
   ·replace hm:=oQS hm;obtain⟨s4,h8,hm⟩:=hm
    replace hm:=oQB hm;obtain⟨b1,h9,hm⟩:=hm
    refine .reg (eC 2 ((oo (pu 68 [(.agg ⟨[zI z1,.int .u32 z2]⟩)]) none fun v=>some (v,(hp 5 [(oC [Sl.v 1 s0]),(oC [sc 4 0 2 n0 c0]),.dead,(oC [zI z1,.int .u32 z2]),oC q1])))) (call_eq h6) (eD (some ((zB (bq true (an (ieq x1 z1) (an (ieq x2 z2) true)))),(hp 5 [(oC [Sl.v 1 s0]),(oC [sc 4 0 2 n0 c0]),.dead,(oC [zI z1,.int .u32 z2]),oC q1]))) (show _=some ((zB true),_) from (by rw[show (bq true (an (ieq x1 z1) (an (ieq x2 z2) true)))=true from h7])) (eC 3 ((oo (pu 74 [(.agg ⟨[zI z1,.int .u32 z2]⟩)]) none fun v=>some (v,(hp 5 [(oC [Sl.v 1 s0]),(oC [sc 4 0 2 n0 c0]),.dead,(oC [zI z1,.int .u32 z2]),oC q1])))) (call_eq h8) (eD ((oo (pu 88 [Sl.v 1 s4,Sl.v 1 s0]) none fun v=>some (v,(hp 5 [(oC [Sl.v 1 s0]),(oC [sc 4 0 2 n0 c0]),.dead,(oC [zI z1,.int .u32 z2]),oC q1])))) (call_eq h9) (eE))))) ?_
    exact⟨(b1,s0,n0,c0,z1,z2,q1),hm,(.k [4] [false,true,false] [.tmp 3 false,.cell 1 0 false] [2,3,14] ⟨trF h0,trivial⟩)⟩
   ·refine .reg (eC 2 ((oo (pu 68 [(.agg ⟨[zI z1,.int .u32 z2]⟩)]) none fun v=>some (v,(hp 5 [(oC [Sl.v 1 s0]),(oC [sc 4 0 2 n0 c0]),.dead,(oC [zI z1,.int .u32 z2]),oC q1])))) (call_eq h6) (eD (some ((zB (bq true (an (ieq x1 z1) (an (ieq x2 z2) true)))),(hp 5 [(oC [Sl.v 1 s0]),(oC [sc 4 0 2 n0 c0]),.dead,(oC [zI z1,.int .u32 z2]),oC q1]))) (show _=some ((zB false),_) from (by rw[show (bq true (an (ieq x1 z1) (an (ieq x2 z2) true)))=false from h7])) (eE))) ?_
    exact⟨(false,s0,n0,c0,z1,z2,q1),hm,(.k [4] [false,true,false] [.tmp 3 false,.cell 1 0 false] [2,3,14] ⟨trF h0,trivial⟩)⟩
theorem r10870 {call:CallF} (pu:PureF) (n:Nat) (hcall:call=callP tabs isP pu (inl pu)) {args:LV} {os:List AObj} {z:Value} (ha:args.length=3) (hk:os.length=3) (hpl:∀ o∈os,plainO o) (hm:m10870 pu n (args++os.map encO)=some z):args.length≤20∧Run tt call (tabs.length+3) c87_8 (Fr.made 20 args) (subHeap tabs os) (FinO tt tabs.length 3 [.tmp 4] z):=by
 subst hcall
 have hq:=len_cons ha;clear ha;obtain⟨a0,args,rfl,ha⟩:=hq
 have hq:=len_cons ha;clear ha;obtain⟨a1,args,rfl,ha⟩:=hq
 have hq:=len_cons ha;clear ha;obtain⟨a2,args,rfl,ha⟩:=hq
 obtain rfl:=len_nil ha
 have hq:=len_cons hk;clear hk;obtain⟨b0,os,rfl,hk⟩:=hq
 have hp0:plainO b0:=hpl b0 (by simp)
 have hq:=len_cons hk;clear hk;obtain⟨b1,os,rfl,hk⟩:=hq
 have hp1:plainO b1:=hpl b1 (by simp)
 have hq:=len_cons hk;clear hk;obtain⟨b2,os,rfl,hk⟩:=hq
 have hp2:plainO b2:=hpl b2 (by simp)
 obtain rfl:=len_nil hk
 replace hm:m10870 pu n [a0,a1,a2,encO b0,encO b1,encO b2]=some z:=hm
 unfold m10870 at hm
 replace hm:(oo (vAgg a0) none fun l0=>(ll l0 none fun v0 l0=>(ll l0 none fun v1 l0=>(ll l0 (oo (toI .i64 v0) none fun x0=>(oo (toI .u32 v1) none fun x1=>(bb (isPt a1 0 0) (bb (isPt a2 1 0) (oo (vAgg (encO b0)) none fun l1=>(ll l1 none fun v2 l1=>(ll l1 (oo (toSl 1 v2) none fun s0=>(oo (vAgg (encO b1)) none fun l2=>(ll l2 none fun v3 l2=>(ll l2 (oo (toSc 2 0 2 v3) none fun y0=>(oo (vAgg (encO b2)) none fun q1=>(m10870_ pu n x0 x1 s0 (NC.n y0) (NC.c y0) q1))) fun _ _=>none)))) fun _ _=>none))) none) none))) fun _ _=>none))))=some z:=hm
 replace hm:=inv_vAgg hm;obtain⟨l0,rfl,hm⟩:=hm
 replace hm:=ll_uncons hm;obtain⟨v0,l7325_0,rfl,hm⟩:=hm
 replace hm:=ll_uncons hm;obtain⟨v1,l7325_1,rfl,hm⟩:=hm
 replace hm:=ll_end hm;obtain⟨rfl,hm⟩:=hm
 replace hm:=inv_toI hm;obtain⟨x0,rfl,hm⟩:=hm
 replace hm:=inv_toI hm;obtain⟨x1,rfl,hm⟩:=hm
 replace hm:=bb_inv hm;obtain⟨h0,hm⟩:=hm
 obtain rfl:=isPt_ok h0
 replace hm:=bb_inv hm;obtain⟨h1,hm⟩:=hm
 obtain rfl:=isPt_ok h1
 replace hm:=oo_inv hm;obtain⟨l1,h2,hm⟩:=hm
 obtain rfl:=vAgg_enc hp0 h2
 replace hm:=ll_uncons hm;obtain⟨v2,l7335_0,rfl,hm⟩:=hm
 replace hm:=ll_end hm;obtain⟨rfl,hm⟩:=hm
 replace hm:=inv_toSl hm;obtain⟨s0,rfl,hm⟩:=hm
 replace hm:=oo_inv hm;obtain⟨l2,h3,hm⟩:=hm
 obtain rfl:=vAgg_enc hp1 h3
 replace hm:=ll_uncons hm;obtain⟨v3,l7340_0,rfl,hm⟩:=hm
 replace hm:=ll_end hm;obtain⟨rfl,hm⟩:=hm
 replace hm:=oo_inv hm;obtain⟨y0,h4,hm⟩:=hm
 obtain rfl:=toSc_some h4
 replace hm:=oo_inv hm;obtain⟨q1,h5,hm⟩:=hm
 obtain rfl:=vAgg_enc hp2 h5
 refine⟨by simp,?_⟩
 exact .same (F':=(fr 20 [(0,(.agg ⟨[zI x0,.int .u32 x1]⟩)),(1,(pt 0 0)),(2,pt 1 0)])) (H':=(hp 3 [(oC [Sl.v 1 s0]),(oC [(sc 2 0 2 (NC.n y0) (NC.c y0))]),oC q1])) (by kernel_rfl) (by kernel_rfl) (q10870 pu n x0 x1 s0 (NC.n y0) (NC.c y0) q1 hm)
def m10850_0 (pu:PureF) (n:Nat) (s0:Sl) (z1 z2:Int):OV:=
 (some (.tuple ⟨[(.bool (ieq (aand .u32 z2 (1:Int)) (1:Int))),(.agg ⟨[Sl.v 1 s0]⟩)]⟩))
def b10850_1 (pu:PureF) (n:Nat) (ih0:Sl→Int→Int→Nat→List Nat→Nat→List Ent→Nat→OV) (s0:Sl) (z1 z2:Int) (k1:Nat) (l0:List Nat) (k2:Nat) (e0:List Ent) (k3:Nat):OV:=
 (bb (allL (fun e=>Nat.blt (Ent.born e) k1) e0) (bb (Nat.ble k1 k2) (nxt e0 l0 (bb (allL entClosed e0) (m10850_0 pu n s0 z1 z2) none) (fun e1:Ent=>(bb (allL entClosed e0) (oo (entT e0 k3 (appL l0 [(Ent.born e1)]) k3) none fun v0=>(oo (vTup v0) none fun l1=>(ll l1 none fun v1 l1=>(ll l1 none fun v2 l1=>(ll l1 (oo (toI .i64 v1) none fun x0=>(oo (toI .i64 v2) none fun x1=>(oo (toN (wrapF .i64 (Int.sub x0 (1:Int)))) none fun k4=>(bb (an (Nat.blt k4 (Sl.n s0)) true) (oo (nthL (Sl.cs s0) (k4*1)) none fun v3=>(oo (toI .i64 v3) none fun x2=>(bb (ilt x2 x1) (some (.tuple ⟨[(.bool false),(.agg ⟨[Sl.v 1 s0]⟩)]⟩)) (ih0 s0 z1 z2 k1 (appL l0 [(Ent.born e1)]) k3 e0 k3)))) none)))) fun _ _=>none))))) none))) none) none)
def l10850_1 (pu:PureF) (n w:Nat):Sl→Int→Int→Nat→List Nat→Nat→List Ent→Nat→OV:=
 Nat.rec (motive:=fun _=>Sl→Int→Int→Nat→List Nat→Nat→List Ent→Nat→OV) (fun _ _ _ _ _ _ _ _=>none) (fun _ ih0=>b10850_1 pu n ih0) w
def m10850_ (pu:PureF) (n:Nat) (z1 z2:Int) (s0:Sl):OV:=
 (oo (pu 10860 [(.agg ⟨[.int .i64 z1,.int .u32 z2]⟩)]) none fun v0=>(oo (vTup v0) none fun l0=>(ll l0 none fun v1 l0=>(ll l0 none fun v2 l0=>(ll l0 (bb (isMp v1 0) (oo (vMapO v2) none fun y0=>(bb (allL entClosed (MapV.es y0)) (bb (allL entClosed (MapV.es y0)) (l10850_1 pu n n s0 z1 z2 (MapV.clock y0) ([]:List Nat) (MapV.clock y0) (MapV.es y0) (MapV.clock y0)) none) none)) none) fun _ _=>none)))))
def m10850 (pu:PureF) (n:Nat) (args:LV):OV:=
 (ll args none fun a0 args=>(ll args none fun a1 args=>(ll args none fun o0 args=>(ll args (oo (vAgg a0) none fun l0=>(ll l0 none fun v0 l0=>(ll l0 none fun v1 l0=>(ll l0 (oo (toI .i64 v0) none fun x0=>(oo (toI .u32 v1) none fun x1=>(bb (isPt a1 0 0) (oo (vAgg o0) none fun l1=>(ll l1 none fun v2 l1=>(ll l1 (oo (toSl 1 v2) none fun s0=>(m10850_ pu n x0 x1 s0)) fun _ _=>none))) none))) fun _ _=>none)))) fun _ _=>none))))
theorem w10850_0 (pu:PureF) (n:Nat) (s0:Sl) (z1 z2:Int) {v:Value} (hm:m10850_0 pu n s0 z1 z2=some v):Run tt (callP tabs isP pu (inl pu)) 1 c85_18 (fr 25 [(2,pt 1 0)]) (hp 2 [(oC [Sl.v 1 s0]),(oC [zI z1,.int .u32 z2])]) (FinO tt 0 1 [.tmp 3] v):=by
 unfold m10850_0 at hm
 refine .then (.rK (.ghs (fr 25 [(3,(zB (ieq (aand .u32 z2 (1:Int)) (1:Int))))]) (hp 1 [(oC [Sl.v 1 s0])]) (.k0 [false] [] [3]) ?_))
 refine .ghs (fr 25 [(3,(zB (ieq (aand .u32 z2 (1:Int)) (1:Int))))]) (hp 1 [(oC [Sl.v 1 s0])]) (.k0 [false] [] [3]) ?_
 refine .ret ?_
 exact finO_ret (zB (ieq (aand .u32 z2 (1:Int)) (1:Int))) [(oC [Sl.v 1 s0])] (by kernel_rfl) hm (Nat.le_of_ble_eq_true rfl) (ooAt_cons (pO_c _) ooAt_nil)
theorem q10850 (pu:PureF) (n:Nat) (z1 z2:Int) (s0:Sl) {v:Value} (hm:m10850_ pu n z1 z2 s0=some v):Run tt (callP tabs isP pu (inl pu)) 1 c85_20 (fr 25 [(0,(.agg ⟨[zI z1,.int .u32 z2]⟩)),(1,(pt 0 0))]) (hp 1 [(oC [Sl.v 1 s0])]) (FinO tt 0 1 [.tmp 3] v):=by
 unfold m10850_ at hm
 refine .then (.rK (.ghs (fr 25 [(1,(pt 0 0)),(2,pt 1 0)]) (hp 2 [(oC [Sl.v 1 s0]),(oC [zI z1,.int .u32 z2])]) (.k0 [false] [.tmp 2 false] [1,2]) ?_))
 refine .join (v:=v) (fun y:Sl×Int×Int=>((fr 25 [(2,pt 1 0)]),(hp 2 [(oC [(Sl.v 1 y.1)]),(oC [(zI y.2.1),(.int .u32 y.2.2)])]))) (fun y=>m10850_0 pu n y.1 y.2.1 y.2.2) ?_ ?_
 ·rintro⟨s1,z3,z4⟩ hm
  exact w10850_0 pu n s1 z3 z4 hm
 ·refine .then ?_
  replace hm:=oo_inv hm;obtain⟨v0,h0,hm⟩:=hm
  replace hm:=inv_vTup hm;obtain⟨l0,rfl,hm⟩:=hm
  replace hm:=ll_uncons hm;obtain⟨v1,l7601_0,rfl,hm⟩:=hm
  replace hm:=ll_uncons hm;obtain⟨v2,l7601_1,rfl,hm⟩:=hm
  replace hm:=ll_end hm;obtain⟨rfl,hm⟩:=hm
  replace hm:=bb_inv hm;obtain⟨h1,hm⟩:=hm
  obtain rfl:=isMp_ok h1
  replace hm:=oo_inv hm;obtain⟨y0,h2,hm⟩:=hm
  replace hm:=bb_inv hm;obtain⟨h3,hm⟩:=hm
  refine .reg (eC 1 (objG tabs [[none,none]] 1 [] [false] (pu 10860) [(.agg ⟨[zI z1,.int .u32 z2]⟩)] (hp 2 [(oC [Sl.v 1 s0]),(oC [zI z1,.int .u32 z2])])) (objG_eq (as:=[(.agg ⟨[zI z1,.int .u32 z2]⟩)]) (H1:=(hp 2 [(oC [Sl.v 1 s0]),(oC [zI z1,.int .u32 z2])])) (gvAL_c (gvA_a (gvL_c gv_n (gvL_c gv_n gvL_n))) gvAL_n) (objF_eq (H2:=(hp 3 [(oC [Sl.v 1 s0]),(oC [zI z1,.int .u32 z2]),(.map (MapV.es y0) (MapV.clock y0))])) (v:=(.map (some 0))) (v':=(.map (some 2))) [] [] [] [(.agg ⟨[zI z1,.int .u32 z2]⟩)] [v2] [(.map (MapV.es y0) (MapV.clock y0))] [none,none,some 0] [(false,(.map (MapV.es y0) (MapV.clock y0)))] [(.map (MapV.es y0) (MapV.clock y0))] (by kernel_rfl) mapO_n (Eq.trans (by kernel_rfl) h0) (mapO_c (vMapO_some h2) mapO_n) (mapO_c (bO_map h3) mapO_n))) (eE)) ?_
  replace hm:=bb_inv hm;obtain⟨h4,hm⟩:=hm
  refine .ghs (fr 25 [(1,(pt 0 0)),(2,pt 1 0),(8,(pt 2 0))]) (hp 4 [(oC [Sl.v 1 s0]),(oC [zI z1,.int .u32 z2]),(.iter (some 3) (MapV.clock y0) ([]:List Nat) (MapV.clock y0)),(.map (MapV.es y0) (MapV.clock y0))]) (.k [2] [false] [.tmp 2 false,.tmp 8 false,.itm 2 false] [1,2,8] ⟨trF h4,trivial⟩) ?_
  refine .block (.loopM (v:=v) (fun y:Sl×Int×Int×Nat×List Nat×Nat×List Ent×Nat=>((fr 25 [(1,(pt 0 0)),(2,pt 1 0),(8,(pt 2 0))]),(hp 4 [(oC [(Sl.v 1 y.1)]),(oC [(zI y.2.1),(.int .u32 y.2.2.1)]),(.iter (some 3) y.2.2.2.1 y.2.2.2.2.1 y.2.2.2.2.2.1),(.map y.2.2.2.2.2.2.1 y.2.2.2.2.2.2.2)]))) (fun w y=>l10850_1 pu n w y.1 y.2.1 y.2.2.1 y.2.2.2.1 y.2.2.2.2.1 y.2.2.2.2.2.1 y.2.2.2.2.2.2.1 y.2.2.2.2.2.2.2) n ⟨(s0,z1,z2,(MapV.clock y0),([]:List Nat),(MapV.clock y0),(MapV.es y0),(MapV.clock y0)),hm,(.k [3] [false] [.tmp 2 false,.tmp 8 false,.itm 2 false] [1,2,8] ⟨trF h4,trivial⟩)⟩ (fun _=>rfl) ?_)
  rintro w0 ⟨s2,z5,z6,k1,l1,k2,e0,k3⟩ hm
  replace hm:b10850_1 pu n (l10850_1 pu n w0) s2 z5 z6 k1 l1 k2 e0 k3=some v:=hm
  unfold b10850_1 at hm
  refine .then ?_
  replace hm:=bb_inv hm;obtain⟨h5,hm⟩:=hm
  replace hm:=bb_inv hm;obtain⟨h6,hm⟩:=hm
  refine .nextK (id:=2) (mid:=3) (since:=k1) (st:=k2) (clock:=k3) (seen:=l1) (es:=e0) (d:=some 9) (x:=(tp 8)) (ty:=0) (os:=[rqX 10 9 0 4]) (by kernel_rfl) (by kernel_rfl) (by kernel_rfl) (by kernel_rfl) h5 h6 (by kernel_rfl) (fun _=>by kernel_rfl) (fun h7=>?_) (fun e1 h8=>?_)
  ·replace hm:=nxt_0 hm h7
   replace hm:=bb_inv hm;obtain⟨h9,hm⟩:=hm
   refine .ghs (fr 25 [(1,(pt 0 0)),(2,pt 1 0),(8,(pt 2 0)),(10,zB false)]) (hp 4 [(oC [Sl.v 1 s2]),(oC [zI z5,.int .u32 z6]),(.iter (some 3) k1 l1 k2),(.map e0 k3)]) (.k [3] [false] [.tmp 2 false,.tmp 8 false,.itm 2 false] [1,2,8,10] ⟨trF h9,trivial⟩) ?_
   refine .then (.condF (by kernel_rfl) ?_)
   refine .exit ?_
   exact⟨(s2,z5,z6),hm,(.k0 [false] [.tmp 2 false] [2])⟩
  ·replace hm:=nxt_1 hm h8
   replace hm:=bb_inv hm;obtain⟨h10,hm⟩:=hm
   refine .ghs (fr 25 [(1,(pt 0 0)),(2,pt 1 0),(8,(pt 2 0)),(10,zB true)]) (hp 4 [(oC [Sl.v 1 s2]),(oC [zI z5,.int .u32 z6]),(.iter (some 3) k1 (appL l1 [(Ent.born e1)]) k3),(.map e0 k3)]) (.k [3] [false] [.tmp 2 false,.tmp 8 false,.itm 2 false] [1,2,8,10] ⟨trF h10,trivial⟩) ?_
   refine .then (.condT (by kernel_rfl) ?_)
   refine .skip (.ghs (fr 25 [(1,(pt 0 0)),(2,pt 1 0),(8,(pt 2 0))]) (hp 4 [(oC [Sl.v 1 s2]),(oC [zI z5,.int .u32 z6]),(.iter (some 3) k1 (appL l1 [(Ent.born e1)]) k3),(.map e0 k3)]) (.k [3] [false] [.tmp 2 false,.tmp 8 false,.itm 2 false] [1,2,8] ⟨trF h10,trivial⟩) ?_)
   refine .block (.then ?_)
   replace hm:=oo_inv hm;obtain⟨v3,h11,hm⟩:=hm
   replace hm:=inv_vTup hm;obtain⟨l2,rfl,hm⟩:=hm
   replace hm:=ll_uncons hm;obtain⟨v4,l7637_0,rfl,hm⟩:=hm
   replace hm:=ll_uncons hm;obtain⟨v5,l7637_1,rfl,hm⟩:=hm
   replace hm:=ll_end hm;obtain⟨rfl,hm⟩:=hm
   replace hm:=inv_toI hm;obtain⟨x0,rfl,hm⟩:=hm
   replace hm:=inv_toI hm;obtain⟨x1,rfl,hm⟩:=hm
   refine .reg (eD (keep (hp 4 [(oC [Sl.v 1 s2]),(oC [zI z5,.int .u32 z6]),(.iter (some 3) k1 (appL l1 [(Ent.born e1)]) k3),(.map e0 k3)]) (entT e0 k3 (appL l1 [(Ent.born e1)]) k3)) (keep_eq h11) (eE)) ?_
   refine .ghs (fr 25 [(1,(pt 0 0)),(2,pt 1 0),(4,zI x0),(5,zI x1),(8,(pt 2 0))]) (hp 4 [(oC [Sl.v 1 s2]),(oC [zI z5,.int .u32 z6]),(.iter (some 3) k1 (appL l1 [(Ent.born e1)]) k3),(.map e0 k3)]) (.k [3] [false] [.tmp 2 false,.tmp 8 false,.itm 2 false] [1,2,4,5,8] ⟨trF h10,trivial⟩) ?_
   refine .then ?_
   replace hm:=oo_inv hm;obtain⟨k4,h12,hm⟩:=hm
   replace hm:=bb_inv hm;obtain⟨h13,hm⟩:=hm
   replace hm:=oQI hm;obtain⟨x2,h14,hm⟩:=hm
   refine .reg (eC 3 (some ((zI (wrapF .i64 (Int.sub x0 (1:Int)))),(hp 4 [(oC [Sl.v 1 s2]),(oC [zI z5,.int .u32 z6]),(.iter (some 3) k1 (appL l1 [(Ent.born e1)]) k3),(.map e0 k3)]))) (show _=some ((zI (Int.ofNat k4)),_) from (by rw[toN_some h12])) (eD (keep (hp 4 [(oC [Sl.v 1 s2]),(oC [zI z5,.int .u32 z6]),(.iter (some 3) k1 (appL l1 [(Ent.born e1)]) k3),(.map e0 k3)]) (bb (an (Nat.blt k4 (Sl.n s2)) true) (some (fpV (k4*1) (Sl.cs s2))) none)) (keep_bb h13) (eD (keep (hp 4 [(oC [Sl.v 1 s2]),(oC [zI z5,.int .u32 z6]),(.iter (some 3) k1 (appL l1 [(Ent.born e1)]) k3),(.map e0 k3)]) (nthL (Sl.cs s2) (k4*1))) (keep_eq h14) (eE)))) ?_
   refine .ghs (fr 25 [(1,(pt 0 0)),(2,pt 1 0),(8,(pt 2 0)),(20,(zB (ilt x2 x1)))]) (hp 4 [(oC [Sl.v 1 s2]),(oC [zI z5,.int .u32 z6]),(.iter (some 3) k1 (appL l1 [(Ent.born e1)]) k3),(.map e0 k3)]) (.k [3] [false] [.tmp 2 false,.tmp 8 false,.itm 2 false] [1,2,8,20] ⟨trF h10,trivial⟩) ?_
   replace hm:=bb_cases hm;rcases hm with⟨h15,hm⟩ | ⟨h15,hm⟩
   ·refine ifTt (ilt x2 x1) h15 ?_
    refine .then (.rK (.ghs (fr 25 [(3,zB false)]) (hp 1 [(oC [Sl.v 1 s2])]) (.k0 [false] [] [3]) ?_))
    refine .ghs (fr 25 [(3,zB false)]) (hp 1 [(oC [Sl.v 1 s2])]) (.k0 [false] [] [3]) ?_
    refine .ret ?_
    exact finO_ret (zB false) [(oC [Sl.v 1 s2])] (by kernel_rfl) hm (Nat.le_of_ble_eq_true rfl) (ooAt_cons (pO_c _) ooAt_nil)
   ·refine ifFt (ilt x2 x1) h15 ?_
    refine .skip ?_
    exact⟨(s2,z5,z6,k1,(appL l1 [(Ent.born e1)]),k3,e0,k3),hm,(.k [3] [false] [.tmp 2 false,.tmp 8 false,.itm 2 false] [1,2,8] ⟨trF h10,trivial⟩)⟩
theorem r10850 {call:CallF} (pu:PureF) (n:Nat) (hcall:call=callP tabs isP pu (inl pu)) {args:LV} {os:List AObj} {z:Value} (ha:args.length=2) (hk:os.length=1) (hpl:∀ o∈os,plainO o) (hm:m10850 pu n (args++os.map encO)=some z):args.length≤25∧Run tt call (tabs.length+1) c85_20 (Fr.made 25 args) (subHeap tabs os) (FinO tt tabs.length 1 [.tmp 3] z):=by
 subst hcall
 have hq:=len_cons ha;clear ha;obtain⟨a0,args,rfl,ha⟩:=hq
 have hq:=len_cons ha;clear ha;obtain⟨a1,args,rfl,ha⟩:=hq
 obtain rfl:=len_nil ha
 have hq:=len_cons hk;clear hk;obtain⟨b0,os,rfl,hk⟩:=hq
 have hp0:plainO b0:=hpl b0 (by simp)
 obtain rfl:=len_nil hk
 replace hm:m10850 pu n [a0,a1,encO b0]=some z:=hm
 unfold m10850 at hm
 replace hm:(oo (vAgg a0) none fun l0=>(ll l0 none fun v0 l0=>(ll l0 none fun v1 l0=>(ll l0 (oo (toI .i64 v0) none fun x0=>(oo (toI .u32 v1) none fun x1=>(bb (isPt a1 0 0) (oo (vAgg (encO b0)) none fun l1=>(ll l1 none fun v2 l1=>(ll l1 (oo (toSl 1 v2) none fun s0=>(m10850_ pu n x0 x1 s0)) fun _ _=>none))) none))) fun _ _=>none))))=some z:=hm
 replace hm:=inv_vAgg hm;obtain⟨l0,rfl,hm⟩:=hm
 replace hm:=ll_uncons hm;obtain⟨v0,l7662_0,rfl,hm⟩:=hm
 replace hm:=ll_uncons hm;obtain⟨v1,l7662_1,rfl,hm⟩:=hm
 replace hm:=ll_end hm;obtain⟨rfl,hm⟩:=hm
 replace hm:=inv_toI hm;obtain⟨x0,rfl,hm⟩:=hm
 replace hm:=inv_toI hm;obtain⟨x1,rfl,hm⟩:=hm
 replace hm:=bb_inv hm;obtain⟨h0,hm⟩:=hm
 obtain rfl:=isPt_ok h0
 replace hm:=oo_inv hm;obtain⟨l1,h1,hm⟩:=hm
 obtain rfl:=vAgg_enc hp0 h1
 replace hm:=ll_uncons hm;obtain⟨v2,l7671_0,rfl,hm⟩:=hm
 replace hm:=ll_end hm;obtain⟨rfl,hm⟩:=hm
 replace hm:=inv_toSl hm;obtain⟨s0,rfl,hm⟩:=hm
 refine⟨by simp,?_⟩
 exact .same (F':=(fr 25 [(0,(.agg ⟨[zI x0,.int .u32 x1]⟩)),(1,(pt 0 0))])) (H':=(hp 1 [(oC [Sl.v 1 s0])])) (by kernel_rfl) (by kernel_rfl) (q10850 pu n x0 x1 s0 hm)
end
end Go.RgJM
set_option maxRecDepth 100000
namespace Go.RgJM
open Go.Sp Go.RgJ
noncomputable section
def L:Nat:=1000000
def disp (pu:PureF):PureF:=fun g args=>
 bb (Nat.beq g 62) (m62 pu L args) (bb (Nat.beq g 91) (m91 pu L args) (bb (Nat.beq g 80) (m80 pu L args) (bb (Nat.beq g 74) (m74 pu L args) (bb (Nat.beq g 76) (m76 pu L args) (bb (Nat.beq g 78) (m78 pu L args) (bb (Nat.beq g 55) (m55 pu L args) (bb (Nat.beq g 13) (m13 pu L args) (bb (Nat.beq g 19) (m19 pu L args) (bb (Nat.beq g 23) (m23 pu L args) (bb (Nat.beq g 25) (m25 pu L args) (bb (Nat.beq g 37) (m37 pu L args) (bb (Nat.beq g 46) (m46 pu L args) (bb (Nat.beq g 47) (m47 pu L args) (bb (Nat.beq g 48) (m48 pu L args) (bb (Nat.beq g 49) (m49 pu L args) (bb (Nat.beq g 50) (m50 pu L args) (bb (Nat.beq g 51) (m51 pu L args) (bb (Nat.beq g 52) (m52 pu L args) (bb (Nat.beq g 58) (m58 pu L args) (bb (Nat.beq g 61) (m61 pu L args) (bb (Nat.beq g 65) (m65 pu L args) (bb (Nat.beq g 66) (m66 pu L args) (bb (Nat.beq g 68) (m68 pu L args) (bb (Nat.beq g 82) (m82 pu L args) (bb (Nat.beq g 88) (m88 pu L args) (bb (Nat.beq g 92) (m92 pu L args) (bb (Nat.beq g 95) (m95 pu L args) (bb (Nat.beq g 96) (m96 pu L args) (bb (Nat.beq g 98) (m98 pu L args) (bb (Nat.beq g 108) (m108 pu L args) (bb (Nat.beq g 10860) (m10860 pu L args) (bb (Nat.beq g 10600) (m10600 pu L args) (bb (Nat.beq g 10940) (m10940 pu L args) (bb (Nat.beq g 10990) (m10990 pu L args) (bb (Nat.beq g 10810) (m10810 pu L args) (bb (Nat.beq g 10870) (m10870 pu L args) (bb (Nat.beq g 10850) (m10850 pu L args) (bb (Nat.beq g 14) (orc14 args) (none)))))))))))))))))))))))))))))))))))))))
def puN:Nat→PureF:=fun n=>Nat.rec (motive:=fun _=>PureF) (fun _ _=>none) (fun _ ih=>disp ih) n
end
end Go.RgJM
