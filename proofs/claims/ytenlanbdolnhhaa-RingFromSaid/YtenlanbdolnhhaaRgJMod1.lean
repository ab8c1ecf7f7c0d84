/- Made from wip. -/
import Derived.Test.YtenlanbdolnhhaaRgJMod0x

set_option maxRecDepth 100000
set_option maxHeartbeats 20000000
set_option linter.unusedVariables false
namespace Go.RgJM
open Go.Sp Go.RgJ
noncomputable section

def m62_ (pu:PureF) (n:Nat) (x5 x7 x9:Int):OV:=
 (bb (nt (ieq x5 (0:Int))) (bb (nt (ieq x5 (0:Int))) (some (.int .i64 (Int.tmod (wrapF .i64 (Int.add (Int.tmod x9 x5) x5)) x5))) none) none)
def m62 (pu:PureF) (n:Nat) (args:LV):OV:=
 (ll args none fun a0 args=>(ll args none fun a1 args=>(ll args (oo (vAgg a0) none fun l1=>(ll l1 none fun v3 l1=>(ll l1 none fun v4 l1=>(ll l1 (oo (toI .i64 v3) none fun x5=>(oo (toI .u32 v4) none fun x7=>(oo (toI .i64 a1) none fun x9=>(m62_ pu n x5 x7 x9)))) fun _ _=>none)))) fun _ _=>none)))
theorem r62 {call:CallF} (pu:PureF) (n:Nat) (hcall:call=callP tabs isP pu (inl pu)) {args:LV} {v:Value} (hm:m62 pu n args=some v) (_:∀ x∈args,closed2 x=true):args.length≤15∧Run tt call 0 c62_3 (Fr.made 15 args) (pureHeap tabs) (Fin tt 0 [.tmp 4] v):=by
 subst hcall
 unfold m62 at hm
 replace hm:=ll_uncons hm;obtain⟨a0,args_0,rfl,hm⟩:=hm
 replace hm:=ll_uncons hm;obtain⟨a1,args_1,rfl,hm⟩:=hm
 replace hm:=ll_end hm;obtain⟨rfl,hm⟩:=hm
 replace hm:=inv_vAgg hm;obtain⟨l1,rfl,hm⟩:=hm
 replace hm:=ll_uncons hm;obtain⟨v3,l1_0,rfl,hm⟩:=hm
 replace hm:=ll_uncons hm;obtain⟨v4,l1_1,rfl,hm⟩:=hm
 replace hm:=ll_end hm;obtain⟨rfl,hm⟩:=hm
 replace hm:=inv_toI hm;obtain⟨x5,rfl,hm⟩:=hm
 replace hm:=inv_toI hm;obtain⟨x7,rfl,hm⟩:=hm
 replace hm:=inv_toI hm;obtain⟨x9,rfl,hm⟩:=hm
 unfold m62_ at hm
 refine⟨by simp,?_⟩
 refine .same (F':=(fr 15 [(0,(.agg ⟨[zI x5,.int .u32 x7]⟩)),(1,zI x9)])) (H':=(hp 0 [])) (by kernel_rfl) (by kernel_rfl) ?_
 refine .then (.rK (.ghs (fr 15 [(1,zI x9),(2,(pt 0 0))]) (hp 1 [(oC [zI x5,.int .u32 x7])]) (.k0 [] [.tmp 2 false] [1,2]) ?_))
 refine .then ?_
 replace hm:=bb_inv hm;obtain⟨h13,hm⟩:=hm
 replace hm:=bb_inv hm;obtain⟨h14,hm⟩:=hm
 refine .reg (eC 3 (keep (hp 1 [(oC [zI x5,.int .u32 x7])]) (bb (ieq x5 (0:Int)) none (some (zI (Int.tmod x9 x5))))) (keep_nb h13) (eC 5 (keep (hp 1 [(oC [zI x5,.int .u32 x7])]) (bb (ieq x5 (0:Int)) none (some (zI (Int.tmod (wrapF .i64 (Int.add (Int.tmod x9 x5) x5)) x5))))) (keep_nb h14) (eE))) ?_
 refine .ghs (fr 15 [(4,(zI (Int.tmod (wrapF .i64 (Int.add (Int.tmod x9 x5) x5)) x5)))]) (hp 0 []) (.k0 [] [] [4]) ?_
 refine .ret ?_
 exact fin_rt (zI (Int.tmod (wrapF .i64 (Int.add (Int.tmod x9 x5) x5)) x5)) hm

def m91_ (pu:PureF) (n:Nat) (x19 x21 x23:Int):OV:=
 (oo (toN x23) none fun k27=>(some (.bool (ieq (aand .u32 (shrI .u32 x21 k27) (1:Int)) (1:Int)))))
def m91 (pu:PureF) (n:Nat) (args:LV):OV:=
 (ll args none fun a0 args=>(ll args none fun a1 args=>(ll args (oo (vAgg a0) none fun l15=>(ll l15 none fun v17 l15=>(ll l15 none fun v18 l15=>(ll l15 (oo (toI .i64 v17) none fun x19=>(oo (toI .u32 v18) none fun x21=>(oo (toI .i64 a1) none fun x23=>(m91_ pu n x19 x21 x23)))) fun _ _=>none)))) fun _ _=>none)))
theorem r91 {call:CallF} (pu:PureF) (n:Nat) (hcall:call=callP tabs isP pu (inl pu)) {args:LV} {v:Value} (hm:m91 pu n args=some v) (_:∀ x∈args,closed2 x=true):args.length≤11∧Run tt call 0 c91_3 (Fr.made 11 args) (pureHeap tabs) (Fin tt 0 [.tmp 4] v):=by
 subst hcall
 unfold m91 at hm
 replace hm:=ll_uncons hm;obtain⟨a0,args_0,rfl,hm⟩:=hm
 replace hm:=ll_uncons hm;obtain⟨a1,args_1,rfl,hm⟩:=hm
 replace hm:=ll_end hm;obtain⟨rfl,hm⟩:=hm
 replace hm:=inv_vAgg hm;obtain⟨l15,rfl,hm⟩:=hm
 replace hm:=ll_uncons hm;obtain⟨v17,l15_0,rfl,hm⟩:=hm
 replace hm:=ll_uncons hm;obtain⟨v18,l15_1,rfl,hm⟩:=hm
 replace hm:=ll_end hm;obtain⟨rfl,hm⟩:=hm
 replace hm:=inv_toI hm;obtain⟨x19,rfl,hm⟩:=hm
 replace hm:=inv_toI hm;obtain⟨x21,rfl,hm⟩:=hm
 replace hm:=inv_toI hm;obtain⟨x23,rfl,hm⟩:=hm
 unfold m91_ at hm
 refine⟨by simp,?_⟩
 refine .same (F':=(fr 11 [(0,(.agg ⟨[zI x19,.int .u32 x21]⟩)),(1,zI x23)])) (H':=(hp 0 [])) (by kernel_rfl) (by kernel_rfl) ?_
 refine .then (.rK (.ghs (fr 11 [(1,zI x23),(2,(pt 0 0))]) (hp 1 [(oC [zI x19,.int .u32 x21])]) (.k0 [] [.tmp 2 false] [1,2]) ?_))
 refine .then ?_
 replace hm:=oo_inv hm;obtain⟨k27,h28,hm⟩:=hm
 obtain rfl:=toN_some h28
 refine .rK (.ghs (fr 11 [(4,(zB (ieq (aand .u32 (shrI .u32 x21 k27) (1:Int)) (1:Int))))]) (hp 0 []) (.k0 [] [] [4]) ?_)
 refine .ret ?_
 exact fin_rt (zB (ieq (aand .u32 (shrI .u32 x21 k27) (1:Int)) (1:Int))) hm
def m80_0 (pu:PureF) (n n0 c0:Nat) (q1:LV):OV:=
 (bb (allL closed1 q1) (bb (an (Nat.ble (0+n0*1) (len q1)) (allL closed1 (takeL (n0*1) (dropL 0 q1)))) (some (Sl.v 1 (Sl.mk n0 0 (takeL (n0*1) (dropL 0 q1))))) none) none)
def m80_2 (pu:PureF) (n:Nat) (ih0:Nat→Nat→Int→Int→Int→Int→LV→OV) (n0 c0:Nat) (z1 z2 z3 z4:Int) (q1:LV):OV:=
 (bb (allL closed1 q1) (ih0 n0 c0 z1 (wrapF .i64 (Int.add z2 (1:Int))) z3 z4 q1) none)
def b80_1 (pu:PureF) (n:Nat) (ih0:Nat→Nat→Int→Int→Int→Int→LV→OV) (n0 c0:Nat) (z1 z2 z3 z4:Int) (q1:LV):OV:=
 (bb (allL closed1 q1) (bb (ilt z2 z1) (oo (pu 91 [(.agg ⟨[.int .i64 z3,.int .u32 z4]⟩),.int .i64 z2]) none fun v0=>(oo (vBool v0) none fun b0=>(bb b0 (bb (growC 1 8 n0 c0 1 q1) (bb (allL closed1 (appL (dropL 0 q1) [.int .i64 z2])) (m80_2 pu n ih0 (n0+1) (2*(n0+1)+bb false 1 0) z1 z2 z3 z4 (appL (dropL 0 q1) [.int .i64 z2])) none) none) (m80_2 pu n ih0 n0 c0 z1 z2 z3 z4 q1)))) (m80_0 pu n n0 c0 q1)) none)
def l80_1 (pu:PureF) (n w:Nat):Nat→Nat→Int→Int→Int→Int→LV→OV:=
 Nat.rec (motive:=fun _=>Nat→Nat→Int→Int→Int→Int→LV→OV) (fun _ _ _ _ _ _ _=>none) (fun _ ih0=>b80_1 pu n ih0) w
def m80_ (pu:PureF) (n:Nat) (x33 x35:Int):OV:=
 (l80_1 pu n n 0 0 x33 (0:Int) x33 x35 ([]:LV))
def m80 (pu:PureF) (n:Nat) (args:LV):OV:=
 (ll args none fun a0 args=>(ll args (oo (vAgg a0) none fun l29=>(ll l29 none fun v31 l29=>(ll l29 none fun v32 l29=>(ll l29 (oo (toI .i64 v31) none fun x33=>(oo (toI .u32 v32) none fun x35=>(m80_ pu n x33 x35))) fun _ _=>none)))) fun _ _=>none))
theorem w80_0 (pu:PureF) (n n0 c0:Nat) (q1:LV) {v:Value} (hm:m80_0 pu n n0 c0 q1=some v):Run tt (callP tabs isP pu (inl pu)) 0 c80_20 (fr 19 [(3,sc 0 0 1 n0 c0)]) (hp 1 [oC q1]) (Fin tt 0 [.tmp 2] v):=by
 unfold m80_0 at hm
 refine .then (.rK ?_)
 replace hm:=bb_inv hm;obtain⟨h0,hm⟩:=hm
 refine .ghs (fr 19 [(2,sc 0 0 1 n0 c0)]) (hp 1 [oC q1]) (.k [0] [] [.tmp 2 false] [2] ⟨trF h0,trivial⟩) ?_
 replace hm:=bb_inv hm;obtain⟨h1,hm⟩:=hm
 refine .ghs (Fr.puts (fr 19 [(2,sc 0 0 1 n0 c0)]) [(2,(Sl.v 1 (Sl.mk n0 0 (takeL (n0*1) (dropL 0 q1)))))]) (hp 1 [.dead]) (.freezeC 0 2 1 (an (Nat.ble (0+n0*1) (len q1)) (allL closed1 (takeL (n0*1) (dropL 0 q1)))) (F1:=(Fr.puts (fr 19 [(2,sc 0 0 1 n0 c0)]) [(2,(Sl.v 1 (Sl.mk n0 0 (takeL (n0*1) (dropL 0 q1)))))])) (H1:=(hp 1 [.dead])) (by kernel_rfl) (by kernel_rfl) h1 (GhS.id _ _)) ?_
 refine .ret ?_
 exact fin_rt (Sl.v 1 (Sl.mk n0 0 (takeL (n0*1) (dropL 0 q1)))) hm
theorem r80 {call:CallF} (pu:PureF) (n:Nat) (hcall:call=callP tabs isP pu (inl pu)) {args:LV} {v:Value} (hm:m80 pu n args=some v) (_:∀ x∈args,closed2 x=true):args.length≤19∧Run tt call 0 c80_23 (Fr.made 19 args) (pureHeap tabs) (Fin tt 0 [.tmp 2] v):=by
 subst hcall
 unfold m80 at hm
 replace hm:=ll_uncons hm;obtain⟨a0,args_0,rfl,hm⟩:=hm
 replace hm:=ll_end hm;obtain⟨rfl,hm⟩:=hm
 replace hm:=inv_vAgg hm;obtain⟨l29,rfl,hm⟩:=hm
 replace hm:=ll_uncons hm;obtain⟨v31,l29_0,rfl,hm⟩:=hm
 replace hm:=ll_uncons hm;obtain⟨v32,l29_1,rfl,hm⟩:=hm
 replace hm:=ll_end hm;obtain⟨rfl,hm⟩:=hm
 replace hm:=inv_toI hm;obtain⟨x33,rfl,hm⟩:=hm
 replace hm:=inv_toI hm;obtain⟨x35,rfl,hm⟩:=hm
 unfold m80_ at hm
 refine⟨by simp,?_⟩
 refine .same (F':=(fr 19 [(0,(.agg ⟨[zI x33,.int .u32 x35]⟩))])) (H':=(hp 0 [])) (by kernel_rfl) (by kernel_rfl) ?_
 refine .then (.rK (.ghs (fr 19 [(1,(pt 0 0))]) (hp 1 [(oC [zI x33,.int .u32 x35])]) (.k0 [] [.tmp 1 false] [1]) ?_))
 refine .then (.rK (.ghs (fr 19 [(1,(pt 0 0)),(3,(.slice none 0 0))]) (hp 1 [(oC [zI x33,.int .u32 x35])]) (.k0 [] [.tmp 1 false] [1,3]) ?_))
 refine .join (v:=v) (fun y:Nat×Nat×LV=>((fr 19 [(3,(sc 0 0 1 y.1 y.2.1))]),(hp 1 [(oC y.2.2)]))) (fun y=>m80_0 pu n y.1 y.2.1 y.2.2) ?_ ?_
 ·rintro⟨n0,c0,q1⟩ hm
  exact w80_0 pu n n0 c0 q1 hm
 ·refine .then (.rK (.ghs (fr 19 [(1,(pt 0 0)),(3,(.slice none 0 0)),(6,zI x33),(7,(zI (0:Int)))]) (hp 1 [(oC [zI x33,.int .u32 x35])]) (.k0 [] [.tmp 1 false] [1,3,6,7]) ?_))
  refine .block (.loopM (v:=v) (fun y:Nat×Nat×Int×Int×Int×Int×LV=>((fr 19 [(1,(pt 0 0)),(3,(sc 1 0 1 y.1 y.2.1)),(6,(zI y.2.2.1)),(7,(zI y.2.2.2.1))]),(hp 2 [(oC [(zI y.2.2.2.2.1),(.int .u32 y.2.2.2.2.2.1)]),(oC y.2.2.2.2.2.2)]))) (fun w y=>l80_1 pu n w y.1 y.2.1 y.2.2.1 y.2.2.2.1 y.2.2.2.2.1 y.2.2.2.2.2.1 y.2.2.2.2.2.2) n ⟨(0,0,x33,(0:Int),x33,x35,([]:LV)),hm,(.thaw 3 1 (by kernel_rfl) (.k0 [] [.tmp 1 false,.tmp 3 false] [1,3,6,7]))⟩ (fun _=>rfl) ?_)
  rintro w0 ⟨n1,c1,z1,z2,z3,z4,q2⟩ hm
  replace hm:b80_1 pu n (l80_1 pu n w0) n1 c1 z1 z2 z3 z4 q2=some v:=hm
  unfold b80_1 at hm
  refine .then (.rK ?_)
  replace hm:=bb_inv hm;obtain⟨h0,hm⟩:=hm
  refine .ghs (fr 19 [(1,(pt 0 0)),(3,sc 1 0 1 n1 c1),(6,zI z1),(7,zI z2),(8,(zB (ilt z2 z1)))]) (hp 2 [(oC [zI z3,.int .u32 z4]),oC q2]) (.k [1] [] [.tmp 1 false,.tmp 3 false] [1,3,6,7,8] ⟨trF h0,trivial⟩) ?_
  refine .then ?_
  replace hm:=bb_cases hm;rcases hm with⟨h1,hm⟩ | ⟨h1,hm⟩
  ·refine ifTt (ilt z2 z1) h1 ?_
   refine .skip (.ghs (fr 19 [(1,(pt 0 0)),(3,sc 1 0 1 n1 c1),(6,zI z1),(7,zI z2)]) (hp 2 [(oC [zI z3,.int .u32 z4]),oC q2]) (.k [1] [] [.tmp 1 false,.tmp 3 false] [1,3,6,7] ⟨trF h0,trivial⟩) ?_)
   refine .join (v:=v) (fun y:Nat×Nat×Int×Int×Int×Int×LV=>((fr 19 [(1,(pt 0 0)),(3,(sc 1 0 1 y.1 y.2.1)),(6,(zI y.2.2.1)),(7,(zI y.2.2.2.1))]),(hp 2 [(oC [(zI y.2.2.2.2.1),(.int .u32 y.2.2.2.2.2.1)]),(oC y.2.2.2.2.2.2)]))) (fun y=>m80_2 pu n (l80_1 pu n w0) y.1 y.2.1 y.2.2.1 y.2.2.2.1 y.2.2.2.2.1 y.2.2.2.2.2.1 y.2.2.2.2.2.2) ?_ ?_
   ·rintro⟨n2,c2,z5,z6,z7,z8,q3⟩ hm
    unfold m80_2 at hm
    refine .rK ?_
    replace hm:=bb_inv hm;obtain⟨h2,hm⟩:=hm
    exact⟨(n2,c2,z5,(wrapF .i64 (Int.add z6 (1:Int))),z7,z8,q3),hm,(.k [1] [] [.tmp 1 false,.tmp 3 false] [1,3,6,7] ⟨trF h2,trivial⟩)⟩
   ·refine .block (.then (.rK (.ghs (fr 19 [(1,(pt 0 0)),(3,sc 1 0 1 n1 c1),(4,zI z2),(6,zI z1),(7,zI z2)]) (hp 2 [(oC [zI z3,.int .u32 z4]),oC q2]) (.k [1] [] [.tmp 1 false,.tmp 3 false] [1,3,4,6,7] ⟨trF h0,trivial⟩) ?_)))
    refine .then ?_
    replace hm:=oQB hm;obtain⟨b0,h3,hm⟩:=hm
    refine .reg (eC 2 ((oo (pu 91 [(.agg ⟨[zI z3,.int .u32 z4]⟩),zI z2]) none fun v=>some (v,(hp 2 [(oC [zI z3,.int .u32 z4]),oC q2])))) (call_eq h3) (eE)) ?_
    refine .ghs (fr 19 [(1,(pt 0 0)),(3,sc 1 0 1 n1 c1),(4,zI z2),(6,zI z1),(7,zI z2),(12,zB b0)]) (hp 2 [(oC [zI z3,.int .u32 z4]),oC q2]) (.k [1] [] [.tmp 1 false,.tmp 3 false] [1,3,4,6,7,12] ⟨trF h0,trivial⟩) ?_
    replace hm:=bb_cases hm;rcases hm with⟨h4,hm⟩ | ⟨h4,hm⟩
    ·refine .ifT b0 (by kernel_rfl) h4 ?_
     replace hm:=bb_inv hm;obtain⟨h5,hm⟩:=hm
     refine .reg (eC 3 (growD 1 8 n1 c1 1 1 q2 [zI z2] [] (hp 3 [(oC [zI z3,.int .u32 z4]),oC q2,(oC [zI z2])])) (growD_eq h5) (eE)) ?_
     replace hm:=bb_inv hm;obtain⟨h6,hm⟩:=hm
     exact⟨((n1+1),(d2 (n1+1)),z1,z2,z3,z4,(appL (dropL 0 q2) [zI z2])),hm,(.k [3] [] [.tmp 1 false,.tmp 3 false] [1,3,6,7] ⟨trF h6,trivial⟩)⟩
    ·refine .ifF b0 (by kernel_rfl) h4 ?_
     refine .skip ?_
     exact⟨(n1,c1,z1,z2,z3,z4,q2),hm,(.k [1] [] [.tmp 1 false,.tmp 3 false] [1,3,6,7] ⟨trF h0,trivial⟩)⟩
  ·refine ifFt (ilt z2 z1) h1 ?_
   refine .exit ?_
   exact⟨(n1,c1,q2),hm,(.k [1] [] [.tmp 3 false] [3] ⟨trF h0,trivial⟩)⟩
def m74_0 (pu:PureF) (n n0 c0:Nat) (q1:LV):OV:=
 (bb (allL closed1 q1) (bb (an (Nat.ble (0+n0*1) (len q1)) (allL closed1 (takeL (n0*1) (dropL 0 q1)))) (some (Sl.v 1 (Sl.mk n0 0 (takeL (n0*1) (dropL 0 q1))))) none) none)
def b74_1 (pu:PureF) (n:Nat) (ih0:Nat→Nat→LV→Nat→List Nat→Nat→List Ent→Nat→OV) (n0 c0:Nat) (q1:LV) (k1:Nat) (l0:List Nat) (k2:Nat) (e0:List Ent) (k3:Nat):OV:=
 (bb (allL (fun e=>Nat.blt (Ent.born e) k1) e0) (bb (Nat.ble k1 k2) (nxt e0 l0 (bb (allL closed1 q1) (bb (allL entClosed e0) (m74_0 pu n n0 c0 q1) none) none) (fun e1:Ent=>(bb (allL closed1 q1) (bb (allL entClosed e0) (oo (entT e0 k3 (appL l0 [(Ent.born e1)]) k3) none fun v0=>(oo (vTup v0) none fun l1=>(ll l1 none fun v1 l1=>(ll l1 none fun v2 l1=>(ll l1 (oo (toI .i64 v1) none fun x0=>(oo (toI .i64 v2) none fun x1=>(oo (toN (wrapF .i64 (Int.sub x0 (1:Int)))) none fun k4=>(bb (an (Nat.blt k4 n0) true) (bb (an (Nat.ble ((0+k4*1)+1) (len q1)) true) (bb (allL closed1 (setL ([.int .i64 x1]:LV) (0+k4*1) q1)) (ih0 n0 c0 (setL ([.int .i64 x1]:LV) (0+k4*1) q1) k1 (appL l0 [(Ent.born e1)]) k3 e0 k3) none) none) none)))) fun _ _=>none))))) none) none))) none) none)
def l74_1 (pu:PureF) (n w:Nat):Nat→Nat→LV→Nat→List Nat→Nat→List Ent→Nat→OV:=
 Nat.rec (motive:=fun _=>Nat→Nat→LV→Nat→List Nat→Nat→List Ent→Nat→OV) (fun _ _ _ _ _ _ _ _=>none) (fun _ ih0=>b74_1 pu n ih0) w
def m74_ (pu:PureF) (n:Nat) (x0 x1:Int):OV:=
 (oo (toN (wrapF .i64 (Int.sub x0 (1:Int)))) none fun k1=>(bb (an (Nat.ble k1 k1) (an (Nat.ble (k1*8) 1099511627776) (an (Nat.ble k1 1099511627776) true))) (bb (allL closed1 (zeroRow ([(.int .i64 (0:Int))]:LV) k1)) (oo (pu 10860 [(.agg ⟨[.int .i64 x0,.int .u32 x1]⟩)]) none fun v0=>(oo (vTup v0) none fun l0=>(ll l0 none fun v1 l0=>(ll l0 none fun v2 l0=>(ll l0 (bb (isMp v1 0) (oo (vMapO v2) none fun y0=>(bb (allL entClosed (MapV.es y0)) (bb (allL entClosed (MapV.es y0)) (l74_1 pu n n k1 (2*k1+bb true 1 0) (zeroRow ([(.int .i64 (0:Int))]:LV) k1) (MapV.clock y0) ([]:List Nat) (MapV.clock y0) (MapV.es y0) (MapV.clock y0)) none) none)) none) fun _ _=>none))))) none) none))
def m74 (pu:PureF) (n:Nat) (args:LV):OV:=
 (ll args none fun a0 args=>(ll args (oo (vAgg a0) none fun l0=>(ll l0 none fun v0 l0=>(ll l0 none fun v1 l0=>(ll l0 (oo (toI .i64 v0) none fun x0=>(oo (toI .u32 v1) none fun x1=>(m74_ pu n x0 x1))) fun _ _=>none)))) fun _ _=>none))
theorem w74_0 (pu:PureF) (n n0 c0:Nat) (q1:LV) {v:Value} (hm:m74_0 pu n n0 c0 q1=some v):Run tt (callP tabs isP pu (inl pu)) 0 c74_15 (fr 24 [(3,sc 0 0 1 n0 c0)]) (hp 1 [oC q1]) (Fin tt 0 [.tmp 2] v):=by
 unfold m74_0 at hm
 refine .then (.rK ?_)
 replace hm:=bb_inv hm;obtain⟨h0,hm⟩:=hm
 refine .ghs (fr 24 [(2,sc 0 0 1 n0 c0)]) (hp 1 [oC q1]) (.k [0] [] [.tmp 2 false] [2] ⟨trF h0,trivial⟩) ?_
 replace hm:=bb_inv hm;obtain⟨h1,hm⟩:=hm
 refine .ghs (Fr.puts (fr 24 [(2,sc 0 0 1 n0 c0)]) [(2,(Sl.v 1 (Sl.mk n0 0 (takeL (n0*1) (dropL 0 q1)))))]) (hp 1 [.dead]) (.freezeC 0 2 1 (an (Nat.ble (0+n0*1) (len q1)) (allL closed1 (takeL (n0*1) (dropL 0 q1)))) (F1:=(Fr.puts (fr 24 [(2,sc 0 0 1 n0 c0)]) [(2,(Sl.v 1 (Sl.mk n0 0 (takeL (n0*1) (dropL 0 q1)))))])) (H1:=(hp 1 [.dead])) (by kernel_rfl) (by kernel_rfl) h1 (GhS.id _ _)) ?_
 refine .ret ?_
 exact fin_rt (Sl.v 1 (Sl.mk n0 0 (takeL (n0*1) (dropL 0 q1)))) hm
theorem r74 {call:CallF} (pu:PureF) (n:Nat) (hcall:call=callP tabs isP pu (inl pu)) {args:LV} {v:Value} (hm:m74 pu n args=some v) (_:∀ x∈args,closed2 x=true):args.length≤24∧Run tt call 0 c74_18 (Fr.made 24 args) (pureHeap tabs) (Fin tt 0 [.tmp 2] v):=by
 subst hcall
 unfold m74 at hm
 replace hm:=ll_uncons hm;obtain⟨a0,args_0,rfl,hm⟩:=hm
 replace hm:=ll_end hm;obtain⟨rfl,hm⟩:=hm
 replace hm:=inv_vAgg hm;obtain⟨l0,rfl,hm⟩:=hm
 replace hm:=ll_uncons hm;obtain⟨v0,l198_0,rfl,hm⟩:=hm
 replace hm:=ll_uncons hm;obtain⟨v1,l198_1,rfl,hm⟩:=hm
 replace hm:=ll_end hm;obtain⟨rfl,hm⟩:=hm
 replace hm:=inv_toI hm;obtain⟨x0,rfl,hm⟩:=hm
 replace hm:=inv_toI hm;obtain⟨x1,rfl,hm⟩:=hm
 unfold m74_ at hm
 refine⟨by simp,?_⟩
 refine .same (F':=(fr 24 [(0,(.agg ⟨[zI x0,.int .u32 x1]⟩))])) (H':=(hp 0 [])) (by kernel_rfl) (by kernel_rfl) ?_
 refine .then (.rK (.ghs (fr 24 [(1,(pt 0 0))]) (hp 1 [(oC [zI x0,.int .u32 x1])]) (.k0 [] [.tmp 1 false] [1]) ?_))
 refine .then ?_
 replace hm:=oo_inv hm;obtain⟨k1,h0,hm⟩:=hm
 replace hm:=bb_inv hm;obtain⟨h1,hm⟩:=hm
 refine .reg (eC 2 (some ((zI (wrapF .i64 (Int.sub x0 (1:Int)))),(hp 1 [(oC [zI x0,.int .u32 x1])]))) (show _=some ((zI (Int.ofNat k1)),_) from (by rw[toN_some h0])) (eD (bb (an (Nat.ble k1 k1) (an (Nat.ble (k1*8) 1099511627776) (an (Nat.ble k1 1099511627776) true))) (some ((sc 1 0 1 k1 (2*k1+bb true 1 0)),(hp 2 [(oC [zI x0,.int .u32 x1]),(oC (zeroRow ([(zI (0:Int))]:LV) k1))]))) none) (bb_some h1) (eE))) ?_
 replace hm:=bb_inv hm;obtain⟨h2,hm⟩:=hm
 refine .ghs (fr 24 [(1,(pt 0 0)),(3,(sc 1 0 1 k1 (2*k1+bb true 1 0)))]) (hp 2 [(oC [zI x0,.int .u32 x1]),(oC (zeroRow ([(zI (0:Int))]:LV) k1))]) (.k [1] [] [.tmp 1 false,.tmp 3 false] [1,3] ⟨trF h2,trivial⟩) ?_
 refine .join (v:=v) (fun y:Nat×Nat×LV=>((fr 24 [(3,(sc 0 0 1 y.1 y.2.1))]),(hp 1 [(oC y.2.2)]))) (fun y=>m74_0 pu n y.1 y.2.1 y.2.2) ?_ ?_
 ·rintro⟨n0,c0,q1⟩ hm
  exact w74_0 pu n n0 c0 q1 hm
 ·refine .then ?_
  replace hm:=oo_inv hm;obtain⟨v2,h3,hm⟩:=hm
  replace hm:=inv_vTup hm;obtain⟨l1,rfl,hm⟩:=hm
  replace hm:=ll_uncons hm;obtain⟨v3,l1787_0,rfl,hm⟩:=hm
  replace hm:=ll_uncons hm;obtain⟨v4,l1787_1,rfl,hm⟩:=hm
  replace hm:=ll_end hm;obtain⟨rfl,hm⟩:=hm
  replace hm:=bb_inv hm;obtain⟨h4,hm⟩:=hm
  obtain rfl:=isMp_ok h4
  replace hm:=oo_inv hm;obtain⟨y0,h5,hm⟩:=hm
  replace hm:=bb_inv hm;obtain⟨h6,hm⟩:=hm
  refine .reg (eC 1 (objG tabs [[none,none]] 1 [] [false] (pu 10860) [(.agg ⟨[zI x0,.int .u32 x1]⟩)] (hp 2 [(oC [zI x0,.int .u32 x1]),(oC (zeroRow ([(zI (0:Int))]:LV) k1))])) (objG_eq (as:=[(.agg ⟨[zI x0,.int .u32 x1]⟩)]) (H1:=(hp 2 [(oC [zI x0,.int .u32 x1]),(oC (zeroRow ([(zI (0:Int))]:LV) k1))])) (gvAL_c (gvA_a (gvL_c gv_n (gvL_c gv_n gvL_n))) gvAL_n) (objF_eq (H2:=(hp 3 [(oC [zI x0,.int .u32 x1]),(oC (zeroRow ([(zI (0:Int))]:LV) k1)),(.map (MapV.es y0) (MapV.clock y0))])) (v:=(.map (some 0))) (v':=(.map (some 2))) [] [] [] [(.agg ⟨[zI x0,.int .u32 x1]⟩)] [v4] [(.map (MapV.es y0) (MapV.clock y0))] [none,none,some 0] [(false,(.map (MapV.es y0) (MapV.clock y0)))] [(.map (MapV.es y0) (MapV.clock y0))] (by kernel_rfl) mapO_n (Eq.trans (by kernel_rfl) h3) (mapO_c (vMapO_some h5) mapO_n) (mapO_c (bO_map h6) mapO_n))) (eE)) ?_
  replace hm:=bb_inv hm;obtain⟨h7,hm⟩:=hm
  refine .ghs (fr 24 [(3,(sc 0 0 1 k1 (2*k1+bb true 1 0))),(12,pt 1 0)]) (hp 3 [(oC (zeroRow ([(zI (0:Int))]:LV) k1)),(.iter (some 2) (MapV.clock y0) ([]:List Nat) (MapV.clock y0)),(.map (MapV.es y0) (MapV.clock y0))]) (.k [1,2] [] [.tmp 3 false,.tmp 12 false,.itm 1 false] [3,12] ⟨trF h2,trF h7,trivial⟩) ?_
  refine .block (.loopM (v:=v) (fun y:Nat×Nat×LV×Nat×List Nat×Nat×List Ent×Nat=>((fr 24 [(3,(sc 0 0 1 y.1 y.2.1)),(12,pt 1 0)]),(hp 3 [(oC y.2.2.1),(.iter (some 2) y.2.2.2.1 y.2.2.2.2.1 y.2.2.2.2.2.1),(.map y.2.2.2.2.2.2.1 y.2.2.2.2.2.2.2)]))) (fun w y=>l74_1 pu n w y.1 y.2.1 y.2.2.1 y.2.2.2.1 y.2.2.2.2.1 y.2.2.2.2.2.1 y.2.2.2.2.2.2.1 y.2.2.2.2.2.2.2) n ⟨(k1,(2*k1+bb true 1 0),(zeroRow ([(zI (0:Int))]:LV) k1),(MapV.clock y0),([]:List Nat),(MapV.clock y0),(MapV.es y0),(MapV.clock y0)),hm,(.k [0,2] [] [.tmp 3 false,.tmp 12 false,.itm 1 false] [3,12] ⟨trF h2,trF h7,trivial⟩)⟩ (fun _=>rfl) ?_)
  rintro w0 ⟨n1,c1,q2,k2,l2,k3,e0,k4⟩ hm
  replace hm:b74_1 pu n (l74_1 pu n w0) n1 c1 q2 k2 l2 k3 e0 k4=some v:=hm
  unfold b74_1 at hm
  refine .then ?_
  replace hm:=bb_inv hm;obtain⟨h8,hm⟩:=hm
  replace hm:=bb_inv hm;obtain⟨h9,hm⟩:=hm
  refine .nextK (id:=1) (mid:=2) (since:=k2) (st:=k3) (clock:=k4) (seen:=l2) (es:=e0) (d:=some 13) (x:=(tp 12)) (ty:=0) (os:=[rqX 14 13 0 4]) (by kernel_rfl) (by kernel_rfl) (by kernel_rfl) (by kernel_rfl) h8 h9 (by kernel_rfl) (fun _=>by kernel_rfl) (fun h10=>?_) (fun e1 h11=>?_)
  ·replace hm:=nxt_0 hm h10
   replace hm:=bb_inv hm;obtain⟨h12,hm⟩:=hm
   replace hm:=bb_inv hm;obtain⟨h13,hm⟩:=hm
   refine .ghs (fr 24 [(3,sc 0 0 1 n1 c1),(12,pt 1 0),(14,zB false)]) (hp 3 [oC q2,(.iter (some 2) k2 l2 k3),(.map e0 k4)]) (.k [0,2] [] [.tmp 3 false,.tmp 12 false,.itm 1 false] [3,12,14] ⟨trF h12,trF h13,trivial⟩) ?_
   refine .then (.condF (by kernel_rfl) ?_)
   refine .exit ?_
   exact⟨(n1,c1,q2),hm,(.k [0] [] [.tmp 3 false] [3] ⟨trF h12,trivial⟩)⟩
  ·replace hm:=nxt_1 hm h11
   replace hm:=bb_inv hm;obtain⟨h14,hm⟩:=hm
   replace hm:=bb_inv hm;obtain⟨h15,hm⟩:=hm
   refine .ghs (fr 24 [(3,sc 0 0 1 n1 c1),(12,pt 1 0),(14,zB true)]) (hp 3 [oC q2,(.iter (some 2) k2 (appL l2 [(Ent.born e1)]) k4),(.map e0 k4)]) (.k [0,2] [] [.tmp 3 false,.tmp 12 false,.itm 1 false] [3,12,14] ⟨trF h14,trF h15,trivial⟩) ?_
   refine .then (.condT (by kernel_rfl) ?_)
   refine .skip (.ghs (fr 24 [(3,sc 0 0 1 n1 c1),(12,pt 1 0)]) (hp 3 [oC q2,(.iter (some 2) k2 (appL l2 [(Ent.born e1)]) k4),(.map e0 k4)]) (.k [0,2] [] [.tmp 3 false,.tmp 12 false,.itm 1 false] [3,12] ⟨trF h14,trF h15,trivial⟩) ?_)
   refine .block (.then ?_)
   replace hm:=oo_inv hm;obtain⟨v5,h16,hm⟩:=hm
   replace hm:=inv_vTup hm;obtain⟨l3,rfl,hm⟩:=hm
   replace hm:=ll_uncons hm;obtain⟨v6,l1825_0,rfl,hm⟩:=hm
   replace hm:=ll_uncons hm;obtain⟨v7,l1825_1,rfl,hm⟩:=hm
   replace hm:=ll_end hm;obtain⟨rfl,hm⟩:=hm
   replace hm:=inv_toI hm;obtain⟨x2,rfl,hm⟩:=hm
   replace hm:=inv_toI hm;obtain⟨x3,rfl,hm⟩:=hm
   refine .reg (eD (keep (hp 3 [oC q2,(.iter (some 2) k2 (appL l2 [(Ent.born e1)]) k4),(.map e0 k4)]) (entT e0 k4 (appL l2 [(Ent.born e1)]) k4)) (keep_eq h16) (eE)) ?_
   refine .ghs (fr 24 [(3,sc 0 0 1 n1 c1),(4,zI x2),(5,zI x3),(12,pt 1 0)]) (hp 3 [oC q2,(.iter (some 2) k2 (appL l2 [(Ent.born e1)]) k4),(.map e0 k4)]) (.k [0,2] [] [.tmp 3 false,.tmp 12 false,.itm 1 false] [3,4,5,12] ⟨trF h14,trF h15,trivial⟩) ?_
   replace hm:=oo_inv hm;obtain⟨k5,h17,hm⟩:=hm
   replace hm:=bb_inv hm;obtain⟨h18,hm⟩:=hm
   replace hm:=bb_inv hm;obtain⟨h19,hm⟩:=hm
   refine .reg (eC 2 (some ((zI (wrapF .i64 (Int.sub x2 (1:Int)))),(hp 3 [oC q2,(.iter (some 2) k2 (appL l2 [(Ent.born e1)]) k4),(.map e0 k4)]))) (show _=some ((zI (Int.ofNat k5)),_) from (by rw[toN_some h17])) (eC 1 (keep (hp 3 [oC q2,(.iter (some 2) k2 (appL l2 [(Ent.born e1)]) k4),(.map e0 k4)]) (bb (an (Nat.blt k5 n1) true) (some (.pointer (some ⟨0,(0+k5*1),none⟩))) none)) (keep_bb h18) (eD (done (bb (an (Nat.ble ((0+k5*1)+1) (len q2)) true) (some (hp 3 [(oC (setL ([zI x3]:LV) (0+k5*1) q2)),(.iter (some 2) k2 (appL l2 [(Ent.born e1)]) k4),(.map e0 k4)])) none) undef) (done_bb h19) (eE)))) ?_
   replace hm:=bb_inv hm;obtain⟨h20,hm⟩:=hm
   exact⟨(n1,c1,(setL ([zI x3]:LV) (0+k5*1) q2),k2,(appL l2 [(Ent.born e1)]),k4,e0,k4),hm,(.k [0,2] [] [.tmp 3 false,.tmp 12 false,.itm 1 false] [3,12] ⟨trF h20,trF h15,trivial⟩)⟩
def m76_0 (pu:PureF) (n:Nat) (z1:Int):OV:=
 (some (.int .i64 z1))
def m76_2 (pu:PureF) (n:Nat) (ih0:Int→Nat→List Nat→Nat→List Ent→Nat→OV) (z1 z2:Int) (b0:Bool) (k1:Nat) (l0:List Nat) (k2:Nat) (e0:List Ent) (k3:Nat):OV:=
 (bb b0 (bb (allL entClosed e0) (ih0 z2 k1 l0 k2 e0 k3) none) (bb (allL entClosed e0) (ih0 z1 k1 l0 k2 e0 k3) none))
def b76_1 (pu:PureF) (n:Nat) (ih0:Int→Nat→List Nat→Nat→List Ent→Nat→OV) (z1:Int) (k1:Nat) (l0:List Nat) (k2:Nat) (e0:List Ent) (k3:Nat):OV:=
 (bb (allL (fun e=>Nat.blt (Ent.born e) k1) e0) (bb (Nat.ble k1 k2) (nxt e0 l0 (bb (allL entClosed e0) (m76_0 pu n z1) none) (fun e1:Ent=>(bb (allL entClosed e0) (oo (entT e0 k3 (appL l0 [(Ent.born e1)]) k3) none fun v0=>(oo (vTup v0) none fun l1=>(ll l1 none fun v1 l1=>(ll l1 none fun v2 l1=>(ll l1 (oo (toI .i64 v1) none fun x0=>(oo (toI .i64 v2) none fun x1=>(bb (ilt (1:Int) x1) (bb (ieq z1 (0:Int)) (m76_2 pu n ih0 z1 x0 true k1 (appL l0 [(Ent.born e1)]) k3 e0 k3) (m76_2 pu n ih0 z1 x0 (ilt x0 z1) k1 (appL l0 [(Ent.born e1)]) k3 e0 k3)) (m76_2 pu n ih0 z1 x0 false k1 (appL l0 [(Ent.born e1)]) k3 e0 k3)))) fun _ _=>none))))) none))) none) none)
def l76_1 (pu:PureF) (n w:Nat):Int→Nat→List Nat→Nat→List Ent→Nat→OV:=
 Nat.rec (motive:=fun _=>Int→Nat→List Nat→Nat→List Ent→Nat→OV) (fun _ _ _ _ _ _=>none) (fun _ ih0=>b76_1 pu n ih0) w
def m76_ (pu:PureF) (n:Nat) (x0 x1:Int):OV:=
 (oo (pu 10860 [(.agg ⟨[.int .i64 x0,.int .u32 x1]⟩)]) none fun v0=>(oo (vTup v0) none fun l0=>(ll l0 none fun v1 l0=>(ll l0 none fun v2 l0=>(ll l0 (bb (isMp v1 0) (oo (vMapO v2) none fun y0=>(bb (allL entClosed (MapV.es y0)) (bb (allL entClosed (MapV.es y0)) (l76_1 pu n n (0:Int) (MapV.clock y0) ([]:List Nat) (MapV.clock y0) (MapV.es y0) (MapV.clock y0)) none) none)) none) fun _ _=>none)))))
def m76 (pu:PureF) (n:Nat) (args:LV):OV:=
 (ll args none fun a0 args=>(ll args (oo (vAgg a0) none fun l0=>(ll l0 none fun v0 l0=>(ll l0 none fun v1 l0=>(ll l0 (oo (toI .i64 v0) none fun x0=>(oo (toI .u32 v1) none fun x1=>(m76_ pu n x0 x1))) fun _ _=>none)))) fun _ _=>none))
theorem w76_0 (pu:PureF) (n:Nat) (z1:Int) {v:Value} (hm:m76_0 pu n z1=some v):Run tt (callP tabs isP pu (inl pu)) 0 c76_18 (fr 27 [(3,zI z1)]) (hp 0 []) (Fin tt 0 [.tmp 2] v):=by
 unfold m76_0 at hm
 refine .then (.rK (.ghs (fr 27 [(2,zI z1)]) (hp 0 []) (.k0 [] [] [2]) ?_))
 refine .ret ?_
 exact fin_rt (zI z1) hm
theorem r76 {call:CallF} (pu:PureF) (n:Nat) (hcall:call=callP tabs isP pu (inl pu)) {args:LV} {v:Value} (hm:m76 pu n args=some v) (_:∀ x∈args,closed2 x=true):args.length≤27∧Run tt call 0 c76_21 (Fr.made 27 args) (pureHeap tabs) (Fin tt 0 [.tmp 2] v):=by
 subst hcall
 unfold m76 at hm
 replace hm:=ll_uncons hm;obtain⟨a0,args_0,rfl,hm⟩:=hm
 replace hm:=ll_end hm;obtain⟨rfl,hm⟩:=hm
 replace hm:=inv_vAgg hm;obtain⟨l0,rfl,hm⟩:=hm
 replace hm:=ll_uncons hm;obtain⟨v0,l1842_0,rfl,hm⟩:=hm
 replace hm:=ll_uncons hm;obtain⟨v1,l1842_1,rfl,hm⟩:=hm
 replace hm:=ll_end hm;obtain⟨rfl,hm⟩:=hm
 replace hm:=inv_toI hm;obtain⟨x0,rfl,hm⟩:=hm
 replace hm:=inv_toI hm;obtain⟨x1,rfl,hm⟩:=hm
 unfold m76_ at hm
 refine⟨by simp,?_⟩
 refine .same (F':=(fr 27 [(0,(.agg ⟨[zI x0,.int .u32 x1]⟩))])) (H':=(hp 0 [])) (by kernel_rfl) (by kernel_rfl) ?_
 refine .then (.rK (.ghs (fr 27 [(1,(pt 0 0))]) (hp 1 [(oC [zI x0,.int .u32 x1])]) (.k0 [] [.tmp 1 false] [1]) ?_))
 refine .then (.rK (.ghs (fr 27 [(1,(pt 0 0)),(3,(zI (0:Int)))]) (hp 1 [(oC [zI x0,.int .u32 x1])]) (.k0 [] [.tmp 1 false] [1,3]) ?_))
 refine .join (v:=v) (fun y:Int=>((fr 27 [(3,zI y)]),(hp 0 []))) (fun y=>m76_0 pu n y) ?_ ?_
 ·rintro z1 hm
  exact w76_0 pu n z1 hm
 ·refine .then ?_
  replace hm:=oo_inv hm;obtain⟨v2,h0,hm⟩:=hm
  replace hm:=inv_vTup hm;obtain⟨l1,rfl,hm⟩:=hm
  replace hm:=ll_uncons hm;obtain⟨v3,l2029_0,rfl,hm⟩:=hm
  replace hm:=ll_uncons hm;obtain⟨v4,l2029_1,rfl,hm⟩:=hm
  replace hm:=ll_end hm;obtain⟨rfl,hm⟩:=hm
  replace hm:=bb_inv hm;obtain⟨h1,hm⟩:=hm
  obtain rfl:=isMp_ok h1
  replace hm:=oo_inv hm;obtain⟨y0,h2,hm⟩:=hm
  replace hm:=bb_inv hm;obtain⟨h3,hm⟩:=hm
  refine .reg (eC 1 (objG tabs [[none,none]] 1 [] [false] (pu 10860) [(.agg ⟨[zI x0,.int .u32 x1]⟩)] (hp 1 [(oC [zI x0,.int .u32 x1])])) (objG_eq (as:=[(.agg ⟨[zI x0,.int .u32 x1]⟩)]) (H1:=(hp 1 [(oC [zI x0,.int .u32 x1])])) (gvAL_c (gvA_a (gvL_c gv_n (gvL_c gv_n gvL_n))) gvAL_n) (objF_eq (H2:=(hp 2 [(oC [zI x0,.int .u32 x1]),(.map (MapV.es y0) (MapV.clock y0))])) (v:=(.map (some 0))) (v':=(.map (some 1))) [] [] [] [(.agg ⟨[zI x0,.int .u32 x1]⟩)] [v4] [(.map (MapV.es y0) (MapV.clock y0))] [none,some 0] [(false,(.map (MapV.es y0) (MapV.clock y0)))] [(.map (MapV.es y0) (MapV.clock y0))] (by kernel_rfl) mapO_n (Eq.trans (by kernel_rfl) h0) (mapO_c (vMapO_some h2) mapO_n) (mapO_c (bO_map h3) mapO_n))) (eE)) ?_
  replace hm:=bb_inv hm;obtain⟨h4,hm⟩:=hm
  refine .ghs (fr 27 [(3,(zI (0:Int))),(8,(pt 0 0))]) (hp 2 [(.iter (some 1) (MapV.clock y0) ([]:List Nat) (MapV.clock y0)),(.map (MapV.es y0) (MapV.clock y0))]) (.k [1] [] [.tmp 8 false,.itm 0 false] [3,8] ⟨trF h4,trivial⟩) ?_
  refine .block (.loopM (v:=v) (fun y:Int×Nat×List Nat×Nat×List Ent×Nat=>((fr 27 [(3,(zI y.1)),(8,(pt 0 0))]),(hp 2 [(.iter (some 1) y.2.1 y.2.2.1 y.2.2.2.1),(.map y.2.2.2.2.1 y.2.2.2.2.2)]))) (fun w y=>l76_1 pu n w y.1 y.2.1 y.2.2.1 y.2.2.2.1 y.2.2.2.2.1 y.2.2.2.2.2) n ⟨((0:Int),(MapV.clock y0),([]:List Nat),(MapV.clock y0),(MapV.es y0),(MapV.clock y0)),hm,(.k [1] [] [.tmp 8 false,.itm 0 false] [3,8] ⟨trF h4,trivial⟩)⟩ (fun _=>rfl) ?_)
  rintro w0 ⟨z2,k1,l2,k2,e0,k3⟩ hm
  replace hm:b76_1 pu n (l76_1 pu n w0) z2 k1 l2 k2 e0 k3=some v:=hm
  unfold b76_1 at hm
  refine .then ?_
  replace hm:=bb_inv hm;obtain⟨h5,hm⟩:=hm
  replace hm:=bb_inv hm;obtain⟨h6,hm⟩:=hm
  refine .nextK (id:=0) (mid:=1) (since:=k1) (st:=k2) (clock:=k3) (seen:=l2) (es:=e0) (d:=some 9) (x:=(tp 8)) (ty:=0) (os:=[rqX 10 9 0 4]) (by kernel_rfl) (by kernel_rfl) (by kernel_rfl) (by kernel_rfl) h5 h6 (by kernel_rfl) (fun _=>by kernel_rfl) (fun h7=>?_) (fun e1 h8=>?_)
  ·replace hm:=nxt_0 hm h7
   replace hm:=bb_inv hm;obtain⟨h9,hm⟩:=hm
   refine .ghs (fr 27 [(3,zI z2),(8,(pt 0 0)),(10,zB false)]) (hp 2 [(.iter (some 1) k1 l2 k2),(.map e0 k3)]) (.k [1] [] [.tmp 8 false,.itm 0 false] [3,8,10] ⟨trF h9,trivial⟩) ?_
   refine .then (.condF (by kernel_rfl) ?_)
   refine .exit ?_
   exact⟨z2,hm,(.k0 [] [] [3])⟩
  ·replace hm:=nxt_1 hm h8
   replace hm:=bb_inv hm;obtain⟨h10,hm⟩:=hm
   refine .ghs (fr 27 [(3,zI z2),(8,(pt 0 0)),(10,zB true)]) (hp 2 [(.iter (some 1) k1 (appL l2 [(Ent.born e1)]) k3),(.map e0 k3)]) (.k [1] [] [.tmp 8 false,.itm 0 false] [3,8,10] ⟨trF h10,trivial⟩) ?_
   refine .then (.condT (by kernel_rfl) ?_)
   refine .skip (.ghs (fr 27 [(3,zI z2),(8,(pt 0 0))]) (hp 2 [(.iter (some 1) k1 (appL l2 [(Ent.born e1)]) k3),(.map e0 k3)]) (.k [1] [] [.tmp 8 false,.itm 0 false] [3,8] ⟨trF h10,trivial⟩) ?_)
   refine .block (.then ?_)
   replace hm:=oo_inv hm;obtain⟨v5,h11,hm⟩:=hm
   replace hm:=inv_vTup hm;obtain⟨l3,rfl,hm⟩:=hm
   replace hm:=ll_uncons hm;obtain⟨v6,l2063_0,rfl,hm⟩:=hm
   replace hm:=ll_uncons hm;obtain⟨v7,l2063_1,rfl,hm⟩:=hm
   replace hm:=ll_end hm;obtain⟨rfl,hm⟩:=hm
   replace hm:=inv_toI hm;obtain⟨x2,rfl,hm⟩:=hm
   replace hm:=inv_toI hm;obtain⟨x3,rfl,hm⟩:=hm
   refine .reg (eD (keep (hp 2 [(.iter (some 1) k1 (appL l2 [(Ent.born e1)]) k3),(.map e0 k3)]) (entT e0 k3 (appL l2 [(Ent.born e1)]) k3)) (keep_eq h11) (eE)) ?_
   refine .ghs (fr 27 [(3,zI z2),(4,zI x2),(5,zI x3),(8,(pt 0 0))]) (hp 2 [(.iter (some 1) k1 (appL l2 [(Ent.born e1)]) k3),(.map e0 k3)]) (.k [1] [] [.tmp 8 false,.itm 0 false] [3,4,5,8] ⟨trF h10,trivial⟩) ?_
   refine .join (v:=v) (fun y:Int×Int×Bool×Nat×List Nat×Nat×List Ent×Nat=>((fr 27 [(3,(zI y.1)),(4,(zI y.2.1)),(8,(pt 0 0)),(24,(zB y.2.2.1))]),(hp 2 [(.iter (some 1) y.2.2.2.1 y.2.2.2.2.1 y.2.2.2.2.2.1),(.map y.2.2.2.2.2.2.1 y.2.2.2.2.2.2.2)]))) (fun y=>m76_2 pu n (l76_1 pu n w0) y.1 y.2.1 y.2.2.1 y.2.2.2.1 y.2.2.2.2.1 y.2.2.2.2.2.1 y.2.2.2.2.2.2.1 y.2.2.2.2.2.2.2) ?_ ?_
   ·rintro⟨z3,z4,b0,k4,l4,k5,e2,k6⟩ hm
    unfold m76_2 at hm
    replace hm:=bb_cases hm;rcases hm with⟨h12,hm⟩ | ⟨h12,hm⟩
    ·refine .ifT b0 (by kernel_rfl) h12 ?_
     refine .rK ?_
     replace hm:=bb_inv hm;obtain⟨h13,hm⟩:=hm
     exact⟨(z4,k4,l4,k5,e2,k6),hm,(.k [1] [] [.tmp 8 false,.itm 0 false] [3,8] ⟨trF h13,trivial⟩)⟩
    ·refine .ifF b0 (by kernel_rfl) h12 ?_
     refine .skip ?_
     replace hm:=bb_inv hm;obtain⟨h14,hm⟩:=hm
     exact⟨(z3,k4,l4,k5,e2,k6),hm,(.k [1] [] [.tmp 8 false,.itm 0 false] [3,8] ⟨trF h14,trivial⟩)⟩
   ·replace hm:=bb_cases hm;rcases hm with⟨h15,hm⟩ | ⟨h15,hm⟩
    ·replace hm:=bb_cases hm;rcases hm with⟨h16,hm⟩ | ⟨h16,hm⟩
     ·refine .reg (eC 1 (some ((zB (ilt (1:Int) x3)),(hp 2 [(.iter (some 1) k1 (appL l2 [(Ent.born e1)]) k3),(.map e0 k3)]))) (show _=some ((zB true),_) from (by rw[show (ilt (1:Int) x3)=true from h15])) (eC 2 (some ((zB (ieq z2 (0:Int))),(hp 2 [(.iter (some 1) k1 (appL l2 [(Ent.born e1)]) k3),(.map e0 k3)]))) (show _=some ((zB true),_) from (by rw[show (ieq z2 (0:Int))=true from h16])) (eE))) ?_
      exact⟨(z2,x2,true,k1,(appL l2 [(Ent.born e1)]),k3,e0,k3),hm,(.k [1] [] [.tmp 8 false,.itm 0 false] [3,4,8,24] ⟨trF h10,trivial⟩)⟩
     ·refine .reg (eC 1 (some ((zB (ilt (1:Int) x3)),(hp 2 [(.iter (some 1) k1 (appL l2 [(Ent.born e1)]) k3),(.map e0 k3)]))) (show _=some ((zB true),_) from (by rw[show (ilt (1:Int) x3)=true from h15])) (eC 2 (some ((zB (ieq z2 (0:Int))),(hp 2 [(.iter (some 1) k1 (appL l2 [(Ent.born e1)]) k3),(.map e0 k3)]))) (show _=some ((zB false),_) from (by rw[show (ieq z2 (0:Int))=false from h16])) (eE))) ?_
      exact⟨(z2,x2,(ilt x2 z2),k1,(appL l2 [(Ent.born e1)]),k3,e0,k3),hm,(.k [1] [] [.tmp 8 false,.itm 0 false] [3,4,8,24] ⟨trF h10,trivial⟩)⟩
    ·refine .reg (eC 1 (some ((zB (ilt (1:Int) x3)),(hp 2 [(.iter (some 1) k1 (appL l2 [(Ent.born e1)]) k3),(.map e0 k3)]))) (show _=some ((zB false),_) from (by rw[show (ilt (1:Int) x3)=false from h15])) (eE)) ?_
     exact⟨(z2,x2,false,k1,(appL l2 [(Ent.born e1)]),k3,e0,k3),hm,(.k [1] [] [.tmp 8 false,.itm 0 false] [3,4,8,24] ⟨trF h10,trivial⟩)⟩
def m78_0 (pu:PureF) (n:Nat) (b0:Bool):OV:=
 (some (.bool b0))
def m78_ (pu:PureF) (n:Nat) (x0 x1:Int):OV:=
 (oo (pu 76 [(.agg ⟨[.int .i64 x0,.int .u32 x1]⟩)]) none fun v0=>(oo (toI .i64 v0) none fun x2=>(bb (ieq x2 (0:Int)) (oo (pu 10860 [(.agg ⟨[.int .i64 x0,.int .u32 x1]⟩)]) none fun v1=>(oo (vTup v1) none fun l0=>(ll l0 none fun v2 l0=>(ll l0 none fun v3 l0=>(ll l0 (bb (isMp v2 0) (oo (vMapO v3) none fun y0=>(bb (allL entClosed (MapV.es y0)) (m78_0 pu n (ieq (Int.ofNat (len (MapV.es y0))) (wrapF .i64 (Int.sub x0 (1:Int))))) none)) none) fun _ _=>none))))) (m78_0 pu n false))))
def m78 (pu:PureF) (n:Nat) (args:LV):OV:=
 (ll args none fun a0 args=>(ll args (oo (vAgg a0) none fun l0=>(ll l0 none fun v0 l0=>(ll l0 none fun v1 l0=>(ll l0 (oo (toI .i64 v0) none fun x0=>(oo (toI .u32 v1) none fun x1=>(m78_ pu n x0 x1))) fun _ _=>none)))) fun _ _=>none))
theorem w78_0 (pu:PureF) (n:Nat) (b0:Bool) {v:Value} (hm:m78_0 pu n b0=some v):Run tt (callP tabs isP pu (inl pu)) 0 .ret (fr 15 [(2,zB b0)]) (hp 0 []) (Fin tt 0 [.tmp 2] v):=by
 unfold m78_0 at hm
 refine .ret ?_
 exact fin_rt (zB b0) hm
theorem r78 {call:CallF} (pu:PureF) (n:Nat) (hcall:call=callP tabs isP pu (inl pu)) {args:LV} {v:Value} (hm:m78 pu n args=some v) (_:∀ x∈args,closed2 x=true):args.length≤15∧Run tt call 0 c78_3 (Fr.made 15 args) (pureHeap tabs) (Fin tt 0 [.tmp 2] v):=by
 subst hcall
 unfold m78 at hm
 replace hm:=ll_uncons hm;obtain⟨a0,args_0,rfl,hm⟩:=hm
 replace hm:=ll_end hm;obtain⟨rfl,hm⟩:=hm
 replace hm:=inv_vAgg hm;obtain⟨l0,rfl,hm⟩:=hm
 replace hm:=ll_uncons hm;obtain⟨v0,l2094_0,rfl,hm⟩:=hm
 replace hm:=ll_uncons hm;obtain⟨v1,l2094_1,rfl,hm⟩:=hm
 replace hm:=ll_end hm;obtain⟨rfl,hm⟩:=hm
 replace hm:=inv_toI hm;obtain⟨x0,rfl,hm⟩:=hm
 replace hm:=inv_toI hm;obtain⟨x1,rfl,hm⟩:=hm
 unfold m78_ at hm
 refine⟨by simp,?_⟩
 refine .same (F':=(fr 15 [(0,(.agg ⟨[zI x0,.int .u32 x1]⟩))])) (H':=(hp 0 [])) (by kernel_rfl) (by kernel_rfl) ?_
 refine .then (.rK (.ghs (fr 15 [(1,(pt 0 0))]) (hp 1 [(oC [zI x0,.int .u32 x1])]) (.k0 [] [.tmp 1 false] [1]) ?_))
 refine .join (v:=v) (fun y:Bool=>((fr 15 [(2,zB y)]),(hp 0 []))) (fun y=>m78_0 pu n y) ?_ ?_
 ·rintro b0 hm
  exact w78_0 pu n b0 hm
 ·replace hm:=oQI hm;obtain⟨x2,h0,hm⟩:=hm
  replace hm:=bb_cases hm;rcases hm with⟨h1,hm⟩ | ⟨h1,hm⟩
  ·replace hm:=oo_inv hm;obtain⟨v2,h2,hm⟩:=hm
   replace hm:=inv_vTup hm;obtain⟨l1,rfl,hm⟩:=hm
   replace hm:=ll_uncons hm;obtain⟨v3,l2197_0,rfl,hm⟩:=hm
   replace hm:=ll_uncons hm;obtain⟨v4,l2197_1,rfl,hm⟩:=hm
   replace hm:=ll_end hm;obtain⟨rfl,hm⟩:=hm
   replace hm:=bb_inv hm;obtain⟨h3,hm⟩:=hm
   obtain rfl:=isMp_ok h3
   replace hm:=oo_inv hm;obtain⟨y0,h4,hm⟩:=hm
   replace hm:=bb_inv hm;obtain⟨h5,hm⟩:=hm
   refine .reg (eC 1 ((oo (pu 76 [(.agg ⟨[zI x0,.int .u32 x1]⟩)]) none fun v=>some (v,(hp 1 [(oC [zI x0,.int .u32 x1])])))) (call_eq h0) (eD (some ((zB (ieq x2 (0:Int))),(hp 1 [(oC [zI x0,.int .u32 x1])]))) (show _=some ((zB true),_) from (by rw[show (ieq x2 (0:Int))=true from h1])) (eC 5 (objG tabs [[none,none]] 1 [] [false] (pu 10860) [(.agg ⟨[zI x0,.int .u32 x1]⟩)] (hp 1 [(oC [zI x0,.int .u32 x1])])) (objG_eq (as:=[(.agg ⟨[zI x0,.int .u32 x1]⟩)]) (H1:=(hp 1 [(oC [zI x0,.int .u32 x1])])) (gvAL_c (gvA_a (gvL_c gv_n (gvL_c gv_n gvL_n))) gvAL_n) (objF_eq (H2:=(hp 2 [(oC [zI x0,.int .u32 x1]),(.map (MapV.es y0) (MapV.clock y0))])) (v:=(.map (some 0))) (v':=(.map (some 1))) [] [] [] [(.agg ⟨[zI x0,.int .u32 x1]⟩)] [v4] [(.map (MapV.es y0) (MapV.clock y0))] [none,some 0] [(false,(.map (MapV.es y0) (MapV.clock y0)))] [(.map (MapV.es y0) (MapV.clock y0))] (by kernel_rfl) mapO_n (Eq.trans (by kernel_rfl) h2) (mapO_c (vMapO_some h4) mapO_n) (mapO_c (bO_map h5) mapO_n))) (eE)))) ?_
   exact⟨(ieq (Int.ofNat (len (MapV.es y0))) (wrapF .i64 (Int.sub x0 (1:Int)))),hm,(.k0 [] [] [2])⟩
  ·refine .reg (eC 1 ((oo (pu 76 [(.agg ⟨[zI x0,.int .u32 x1]⟩)]) none fun v=>some (v,(hp 1 [(oC [zI x0,.int .u32 x1])])))) (call_eq h0) (eD (some ((zB (ieq x2 (0:Int))),(hp 1 [(oC [zI x0,.int .u32 x1])]))) (show _=some ((zB false),_) from (by rw[show (ieq x2 (0:Int))=false from h1])) (eE))) ?_
   exact⟨false,hm,(.k0 [] [] [2])⟩

def m55_ (pu:PureF) (n:Nat) (s0:Sl):OV:=
 (some (Sl.v 1 s0))
def m55 (pu:PureF) (n:Nat) (args:LV):OV:=
 (ll args none fun a0 args=>(ll args (oo (toSl 1 a0) none fun s0=>(m55_ pu n s0)) fun _ _=>none))
theorem r55 {call:CallF} (pu:PureF) (n:Nat) (hcall:call=callP tabs isP pu (inl pu)) {args:LV} {v:Value} (hm:m55 pu n args=some v) (_:∀ x∈args,closed2 x=true):args.length≤4∧Run tt call 0 c55_3 (Fr.made 4 args) (pureHeap tabs) (Fin tt 0 [.tmp 2] v):=by
 subst hcall
 unfold m55 at hm
 replace hm:=ll_uncons hm;obtain⟨a0,args_0,rfl,hm⟩:=hm
 replace hm:=ll_end hm;obtain⟨rfl,hm⟩:=hm
 replace hm:=inv_toSl hm;obtain⟨s0,rfl,hm⟩:=hm
 unfold m55_ at hm
 refine⟨by simp,?_⟩
 refine .same (F':=(fr 4 [(0,Sl.v 1 s0)])) (H':=(hp 0 [])) (by kernel_rfl) (by kernel_rfl) ?_
 refine .then (.rK (.ghs (fr 4 [(0,Sl.v 1 s0)]) (hp 0 []) (.k0 [] [] [0]) ?_))
 refine .then (.rK (.ghs (fr 4 [(2,Sl.v 1 s0)]) (hp 0 []) (.k0 [] [] [2]) ?_))
 refine .ret ?_
 exact fin_rt (Sl.v 1 s0) hm
def m13_3 (pu:PureF) (n:Nat) (b0:Bool):OV:=
 (some (.bool b0))
def m13_2 (pu:PureF) (n:Nat) (z1 z2 z3 z4:Int):OV:=
 (oo (pu 47 [.int .i64 z1,.int .u32 z2]) none fun v0=>(oo (vAgg v0) none fun l0=>(ll l0 none fun v1 l0=>(ll l0 none fun v2 l0=>(ll l0 (oo (toI .i64 v1) none fun x0=>(oo (toSl 1 v2) none fun s0=>(oo (pu 19 [(.agg ⟨[.int .i64 x0,Sl.v 1 s0]⟩)]) none fun v3=>(oo (vTup v3) none fun l1=>(ll l1 none fun v4 l1=>(ll l1 none fun v5 l1=>(ll l1 (oo (vAgg v4) none fun l2=>(ll l2 none fun v6 l2=>(ll l2 none fun v7 l2=>(ll l2 (oo (toI .i64 v6) none fun x1=>(oo (toSl 1 v7) none fun s1=>(oo (toI .i64 v5) none fun x2=>(bb (ieq z3 (1:Int)) (bb (ieq z4 (1:Int)) (bb (ieq x2 (0:Int)) (bb (ieq x1 z1) (oo (pu 58 [.int .i64 z1,.int .u32 z2]) none fun v8=>(oo (toI .u32 v8) none fun x3=>(oo (pu 48 [.int .u32 x3]) none fun v9=>(oo (toSl 1 v9) none fun s2=>(oo (pu 23 [Sl.v 1 s1,Sl.v 1 s2]) none fun v10=>(oo (vBool v10) none fun b0=>(bb b0 (oo (pu 14 []) none fun v11=>(oo (vBool v11) none fun b1=>(m13_3 pu n b1))) (m13_3 pu n false)))))))) (m13_3 pu n false)) (m13_3 pu n false)) (m13_3 pu n false)) (m13_3 pu n false))))) fun _ _=>none)))) fun _ _=>none))))))) fun _ _=>none)))))
def m13_5 (pu:PureF) (n:Nat) (ih0:Int→Int→Nat→Nat→Int→Int→Sl→Int→Int→LV→OV) (z1 z2:Int) (n0 c0:Nat) (z3 z4:Int) (s0:Sl) (z5 z6:Int) (q1:LV):OV:=
 (bb (allL closed1 q1) (ih0 z1 z2 n0 c0 z3 z4 s0 z5 (wrapF .i64 (Int.add z6 (1:Int))) q1) none)
def m13_7 (pu:PureF) (n:Nat) (ih0:Int→Int→Nat→Nat→Int→Int→Sl→Int→Int→LV→OV) (z1 z2:Int) (n0 c0:Nat) (z3 z4:Int) (s0:Sl) (z5 z6:Int) (q1:LV) (z7:Int) (s1:Sl):OV:=
 (oo (pu 49 [.int .i64 z1,.int .u32 z2,(.int .i64 (-1:Int)),(.int .i64 (0:Int))]) none fun v0=>(oo (toI .u32 v0) none fun x0=>(oo (pu 58 [.int .i64 z1,.int .u32 x0]) none fun v1=>(oo (toI .u32 v1) none fun x1=>(oo (pu 48 [.int .u32 x1]) none fun v2=>(oo (toSl 1 v2) none fun s2=>(oo (pu 23 [Sl.v 1 s1,Sl.v 1 s2]) none fun v3=>(oo (vBool v3) none fun b0=>(bb (allL closed1 q1) (bb b0 (m13_5 pu n ih0 z1 z2 n0 c0 z3 (wrapF .i64 (Int.add z4 (1:Int))) s0 z5 z6 q1) (m13_5 pu n ih0 z1 z2 n0 c0 z3 z4 s0 z5 z6 q1)) none)))))))))
def m13_6 (pu:PureF) (n:Nat) (ih0:Int→Int→Nat→Nat→Int→Int→Sl→Int→Int→LV→OV) (z1 z2:Int) (n0 c0:Nat) (z3 z4:Int) (s0:Sl) (z5 z6:Int) (b0:Bool) (q1:LV) (z7:Int) (s1:Sl):OV:=
 (bb b0 (some (.bool false)) (bb (allL closed1 q1) (oo (pu 58 [.int .i64 z1,.int .u32 z2]) none fun v0=>(oo (toI .u32 v0) none fun x0=>(oo (pu 48 [.int .u32 x0]) none fun v1=>(oo (toSl 1 v1) none fun s2=>(oo (pu 23 [Sl.v 1 s1,Sl.v 1 s2]) none fun v2=>(oo (vBool v2) none fun b1=>(bb b1 (m13_7 pu n ih0 z1 z2 n0 c0 (wrapF .i64 (Int.add z3 (1:Int))) z4 s0 z5 z6 q1 z7 s1) (m13_7 pu n ih0 z1 z2 n0 c0 z3 z4 s0 z5 z6 q1 z7 s1)))))))) none))
def b13_4 (pu:PureF) (n:Nat) (ih0:Int→Int→Nat→Nat→Int→Int→Sl→Int→Int→LV→OV) (z1 z2:Int) (n0 c0:Nat) (z3 z4:Int) (s0:Sl) (z5 z6:Int) (q1:LV):OV:=
 (bb (allL closed1 q1) (bb (ilt z6 z5) (oo (toN z6) none fun k1=>(bb (an (Nat.blt k1 (Sl.n s0)) true) (bb (Nat.ble ((k1*2)+2) (len (Sl.cs s0))) (oo (nthL (Sl.cs s0) (k1*2)) none fun v0=>(oo (toI .i64 v0) none fun x0=>(oo (nthL (Sl.cs s0) ((k1*2)+1)) none fun v1=>(oo (toSl 1 v1) none fun s1=>(bb (nt (ieq x0 z1)) (m13_6 pu n ih0 z1 z2 n0 c0 z3 z4 s0 z5 (Int.ofNat k1) true q1 x0 s1) (bb (an (Nat.blt k1 n0) true) (oo (nthL q1 (0+k1*1)) none fun v2=>(oo (toSl 1 v2) none fun s2=>(oo (pu 23 [Sl.v 1 s1,Sl.v 1 s2]) none fun v3=>(oo (vBool v3) none fun b0=>(m13_6 pu n ih0 z1 z2 n0 c0 z3 z4 s0 z5 (Int.ofNat k1) (nt b0) q1 x0 s1))))) none)))))) none) none)) (m13_2 pu n z1 z2 z3 z4)) none)
def l13_4 (pu:PureF) (n w:Nat):Int→Int→Nat→Nat→Int→Int→Sl→Int→Int→LV→OV:=
 Nat.rec (motive:=fun _=>Int→Int→Nat→Nat→Int→Int→Sl→Int→Int→LV→OV) (fun _ _ _ _ _ _ _ _ _ _=>none) (fun _ ih0=>b13_4 pu n ih0) w
def m13_1 (pu:PureF) (n:Nat) (z1 z2:Int) (n0 c0:Nat) (s0:Sl) (b0:Bool) (q1:LV):OV:=
 (bb b0 (some (.bool false)) (bb (allL closed1 q1) (l13_4 pu n n z1 z2 n0 c0 (0:Int) (0:Int) s0 (Int.ofNat (Sl.n s0)) (0:Int) q1) none))
def m13_0 (pu:PureF) (n:Nat) (z1 z2:Int) (s0:Sl) (n0 c0:Nat) (q1:LV):OV:=
 (bb (orr (Nat.ble 2 c0) (nilL q1)) (bb (allL closed1 q1) (oo (pu 10600 [(.slice (some ⟨0,0,some 1⟩) n0 c0),(.func (.func 52) ⟨[]⟩ ⟨[]⟩),(.agg ⟨q1⟩)]) none fun v0=>(oo (vTup v0) none fun l0=>(ll l0 none fun v1 l0=>(ll l0 none fun v2 l0=>(ll l0 (bb (isNoV v1) (oo (vAgg v2) none fun q2=>(bb (allL closed1 q2) (bb (allL closed1 q2) (oo (pu 37 [.int .i64 z1,Sl.v 1 s0]) none fun v3=>(oo (vTup v3) none fun l1=>(ll l1 none fun v4 l1=>(ll l1 none fun v5 l1=>(ll l1 (oo (toSl 2 v4) none fun s1=>(oo (toI .i64 v5) none fun x0=>(bb (nt (ieq x0 (0:Int))) (m13_1 pu n z1 z2 n0 c0 s1 true q2) (m13_1 pu n z1 z2 n0 c0 s1 (nt (ieq (Int.ofNat (Sl.n s1)) (Int.ofNat n0))) q2)))) fun _ _=>none))))) none) none)) none) fun _ _=>none))))) none) none)
def m13_9 (pu:PureF) (n:Nat) (ih0:Int→Int→Sl→Nat→Nat→Int→Int→LV→OV) (z1 z2:Int) (s0:Sl) (n0 c0:Nat) (z3 z4:Int) (q1:LV):OV:=
 (bb (allL closed1 q1) (ih0 z1 z2 s0 n0 c0 z3 (wrapF .u32 (Int.add z4 (1:Int))) q1) none)
def m13_10 (pu:PureF) (n:Nat) (ih0:Int→Int→Sl→Nat→Nat→Int→Int→LV→OV) (z1 z2:Int) (s0:Sl) (n0 c0:Nat) (z3 z4 z5:Int) (b0:Bool) (q1:LV):OV:=
 (bb b0 (oo (pu 48 [.int .u32 z3]) none fun v0=>(oo (toSl 1 v0) none fun s1=>(bb (growC 1 24 n0 c0 1 q1) (bb (allL closed1 (appL (dropL 0 q1) [Sl.v 1 s1])) (m13_9 pu n ih0 z1 z2 s0 (n0+1) (2*(n0+1)+bb false 1 0) z4 z5 (appL (dropL 0 q1) [Sl.v 1 s1])) none) none))) (bb (allL closed1 q1) (m13_9 pu n ih0 z1 z2 s0 n0 c0 z4 z5 q1) none))
def b13_8 (pu:PureF) (n:Nat) (ih0:Int→Int→Sl→Nat→Nat→Int→Int→LV→OV) (z1 z2:Int) (s0:Sl) (n0 c0:Nat) (z3 z4:Int) (q1:LV):OV:=
 (bb (allL closed1 q1) (bb (ilt z4 z3) (oo (pu 50 [.int .u32 z4]) none fun v0=>(oo (toI .i64 v0) none fun x0=>(bb (nt (ilt (6:Int) x0)) (oo (pu 58 [.int .i64 z1,.int .u32 z4]) none fun v1=>(oo (toI .u32 v1) none fun x1=>(bb (ieq x1 z4) (oo (pu 51 [.int .i64 z1,.int .u32 z4]) none fun v2=>(oo (toSl 1 v2) none fun s1=>(oo (pu 23 [Sl.v 1 s1,Sl.v 1 s0]) none fun v3=>(oo (vBool v3) none fun b0=>(m13_10 pu n ih0 z1 z2 s0 n0 c0 z4 z3 z4 b0 q1))))) (m13_10 pu n ih0 z1 z2 s0 n0 c0 z4 z3 z4 false q1)))) (m13_10 pu n ih0 z1 z2 s0 n0 c0 z4 z3 z4 false q1)))) (m13_0 pu n z1 z2 s0 n0 c0 q1)) none)
def l13_8 (pu:PureF) (n w:Nat):Int→Int→Sl→Nat→Nat→Int→Int→LV→OV:=
 Nat.rec (motive:=fun _=>Int→Int→Sl→Nat→Nat→Int→Int→LV→OV) (fun _ _ _ _ _ _ _ _=>none) (fun _ ih0=>b13_8 pu n ih0) w
def m13_ (pu:PureF) (n:Nat) (x0 x1:Int):OV:=
 (oo (pu 46 [(.agg ⟨[.int .u8 x0,.int .u32 x1]⟩),(.int .i64 (11:Int))]) none fun v0=>(oo (vTup v0) none fun l0=>(ll l0 none fun v1 l0=>(ll l0 none fun v2 l0=>(ll l0 (oo (toI .i64 v1) none fun x2=>(oo (toI .u32 v2) none fun x3=>(oo (pu 51 [.int .i64 x2,.int .u32 x3]) none fun v3=>(oo (toSl 1 v3) none fun s0=>(oo (toN x2) none fun k1=>(l13_8 pu n n (Int.ofNat k1) x3 s0 0 0 (shlI .u32 (1:Int) k1) (0:Int) ([]:LV))))))) fun _ _=>none)))))
def m13 (pu:PureF) (n:Nat) (args:LV):OV:=
 (ll args none fun a0 args=>(ll args (oo (vAgg a0) none fun l0=>(ll l0 none fun v0 l0=>(ll l0 none fun v1 l0=>(ll l0 (oo (toI .u8 v0) none fun x0=>(oo (toI .u32 v1) none fun x1=>(m13_ pu n x0 x1))) fun _ _=>none)))) fun _ _=>none))
theorem w13_3 (pu:PureF) (n:Nat) (b0:Bool) {v:Value} (hm:m13_3 pu n b0=some v):Run tt (callP tabs isP pu (inl pu)) 0 .ret (fr 146 [(2,zB b0)]) (hp 0 []) (Fin tt 0 [.tmp 2] v):=by
 unfold m13_3 at hm
 refine .ret ?_
 exact fin_rt (zB b0) hm
theorem w13_2 (pu:PureF) (n:Nat) (z1 z2 z3 z4:Int) {v:Value} (hm:m13_2 pu n z1 z2 z3 z4=some v):Run tt (callP tabs isP pu (inl pu)) 0 c13_60 (fr 146 [(3,zI z1),(4,.int .u32 z2),(10,zI z3),(11,zI z4)]) (hp 0 []) (Fin tt 0 [.tmp 2] v):=by
 unfold m13_2 at hm
 refine .then ?_
 replace hm:=oo_inv hm;obtain⟨v0,h0,hm⟩:=hm
 replace hm:=inv_vAgg hm;obtain⟨l0,rfl,hm⟩:=hm
 replace hm:=ll_uncons hm;obtain⟨v1,l5216_0,rfl,hm⟩:=hm
 replace hm:=ll_uncons hm;obtain⟨v2,l5216_1,rfl,hm⟩:=hm
 replace hm:=ll_end hm;obtain⟨rfl,hm⟩:=hm
 replace hm:=inv_toI hm;obtain⟨x0,rfl,hm⟩:=hm
 replace hm:=inv_toSl hm;obtain⟨s0,rfl,hm⟩:=hm
 replace hm:=oo_inv hm;obtain⟨v3,h1,hm⟩:=hm
 replace hm:=inv_vTup hm;obtain⟨l1,rfl,hm⟩:=hm
 replace hm:=ll_uncons hm;obtain⟨v4,l5226_0,rfl,hm⟩:=hm
 replace hm:=ll_uncons hm;obtain⟨v5,l5226_1,rfl,hm⟩:=hm
 replace hm:=ll_end hm;obtain⟨rfl,hm⟩:=hm
 replace hm:=inv_vAgg hm;obtain⟨l2,rfl,hm⟩:=hm
 replace hm:=ll_uncons hm;obtain⟨v6,l5230_0,rfl,hm⟩:=hm
 replace hm:=ll_uncons hm;obtain⟨v7,l5230_1,rfl,hm⟩:=hm
 replace hm:=ll_end hm;obtain⟨rfl,hm⟩:=hm
 replace hm:=inv_toI hm;obtain⟨x1,rfl,hm⟩:=hm
 replace hm:=inv_toSl hm;obtain⟨s1,rfl,hm⟩:=hm
 replace hm:=inv_toI hm;obtain⟨x2,rfl,hm⟩:=hm
 refine .reg (eC 2 ((oo (pu 47 [zI z1,.int .u32 z2]) none fun v=>some (v,(hp 0 [])))) (call_eq h0) (eD ((oo (pu 19 [(.agg ⟨[zI x0,Sl.v 1 s0]⟩)]) none fun v=>some (v,(hp 0 [])))) (call_eq h1) (eE))) ?_
 refine .ghs (fr 146 [(3,zI z1),(4,.int .u32 z2),(10,zI z3),(11,zI z4),(14,(pt 0 0)),(15,zI x2)]) (hp 1 [(oC [zI x1,Sl.v 1 s1])]) (.k0 [] [.tmp 14 false] [3,4,10,11,14,15]) ?_
 refine .join (v:=v) (fun y:Bool=>((fr 146 [(2,zB y)]),(hp 0 []))) (fun y=>m13_3 pu n y) ?_ ?_
 ·rintro b0 hm
  exact w13_3 pu n b0 hm
 ·replace hm:=bb_cases hm;rcases hm with⟨h2,hm⟩ | ⟨h2,hm⟩
  ·replace hm:=bb_cases hm;rcases hm with⟨h3,hm⟩ | ⟨h3,hm⟩
   ·replace hm:=bb_cases hm;rcases hm with⟨h4,hm⟩ | ⟨h4,hm⟩
    ·replace hm:=bb_cases hm;rcases hm with⟨h5,hm⟩ | ⟨h5,hm⟩
     ·replace hm:=oQI hm;obtain⟨x3,h6,hm⟩:=hm
      replace hm:=oQS hm;obtain⟨s2,h7,hm⟩:=hm
      replace hm:=oQB hm;obtain⟨b1,h8,hm⟩:=hm
      replace hm:=bb_cases hm;rcases hm with⟨h9,hm⟩ | ⟨h9,hm⟩
      ·replace hm:=oQB hm;obtain⟨b2,h10,hm⟩:=hm
       refine .reg (eN 9 (Fr.puts (fr 146 [(3,zI z1),(4,.int .u32 z2),(10,zI z3),(11,zI z4),(14,(pt 0 0)),(15,zI x2)]) [(118,zI z3),(119,zB true),(120,zB true),(121,zI z4),(122,zB true),(123,zB true),(124,zB true),(125,zI x2),(126,zB true)]) (hp 1 [(oC [zI x1,Sl.v 1 s1])]) (eC 1 (some ((zB (ieq z3 (1:Int))),(hp 1 [(oC [zI x1,Sl.v 1 s1])]))) (show _=some ((zB true),_) from (by rw[show (ieq z3 (1:Int))=true from h2])) (eC 2 (some ((zB (ieq z4 (1:Int))),(hp 1 [(oC [zI x1,Sl.v 1 s1])]))) (show _=some ((zB true),_) from (by rw[show (ieq z4 (1:Int))=true from h3])) (eC 3 (some ((zB (ieq x2 (0:Int))),(hp 1 [(oC [zI x1,Sl.v 1 s1])]))) (show _=some ((zB true),_) from (by rw[show (ieq x2 (0:Int))=true from h4])) (by kernel_rfl)))) (eC 5 (some ((zB (ieq x1 z1)),(hp 1 [(oC [zI x1,Sl.v 1 s1])]))) (show _=some ((zB true),_) from (by rw[show (ieq x1 z1)=true from h5])) (eC 6 ((oo (pu 58 [zI z1,.int .u32 z2]) none fun v=>some (v,(hp 1 [(oC [zI x1,Sl.v 1 s1])])))) (call_eq h6) (eD ((oo (pu 48 [.int .u32 x3]) none fun v=>some (v,(hp 1 [(oC [zI x1,Sl.v 1 s1])])))) (call_eq h7) (eD ((oo (pu 23 [Sl.v 1 s1,Sl.v 1 s2]) none fun v=>some (v,(hp 1 [(oC [zI x1,Sl.v 1 s1])])))) (show _=some ((zB true),_) from (by have hz:(oo (pu 23 [Sl.v 1 s1,Sl.v 1 s2]) none fun v=>some (v,(hp 1 [(oC [zI x1,Sl.v 1 s1])])))=some ((zB b1),(hp 1 [(oC [zI x1,Sl.v 1 s1])])):=(call_eq h8);rw[h9] at hz;exact hz)) (eC 2 ((oo (pu 14 []) none fun v=>some (v,(hp 1 [(oC [zI x1,Sl.v 1 s1])])))) (call_eq h10) (eE))))))) ?_
       exact⟨b2,hm,(.k0 [] [] [2])⟩
      ·refine .reg (eN 9 (Fr.puts (fr 146 [(3,zI z1),(4,.int .u32 z2),(10,zI z3),(11,zI z4),(14,(pt 0 0)),(15,zI x2)]) [(118,zI z3),(119,zB true),(120,zB true),(121,zI z4),(122,zB true),(123,zB true),(124,zB true),(125,zI x2),(126,zB true)]) (hp 1 [(oC [zI x1,Sl.v 1 s1])]) (eC 1 (some ((zB (ieq z3 (1:Int))),(hp 1 [(oC [zI x1,Sl.v 1 s1])]))) (show _=some ((zB true),_) from (by rw[show (ieq z3 (1:Int))=true from h2])) (eC 2 (some ((zB (ieq z4 (1:Int))),(hp 1 [(oC [zI x1,Sl.v 1 s1])]))) (show _=some ((zB true),_) from (by rw[show (ieq z4 (1:Int))=true from h3])) (eC 3 (some ((zB (ieq x2 (0:Int))),(hp 1 [(oC [zI x1,Sl.v 1 s1])]))) (show _=some ((zB true),_) from (by rw[show (ieq x2 (0:Int))=true from h4])) (by kernel_rfl)))) (eC 5 (some ((zB (ieq x1 z1)),(hp 1 [(oC [zI x1,Sl.v 1 s1])]))) (show _=some ((zB true),_) from (by rw[show (ieq x1 z1)=true from h5])) (eC 6 ((oo (pu 58 [zI z1,.int .u32 z2]) none fun v=>some (v,(hp 1 [(oC [zI x1,Sl.v 1 s1])])))) (call_eq h6) (eD ((oo (pu 48 [.int .u32 x3]) none fun v=>some (v,(hp 1 [(oC [zI x1,Sl.v 1 s1])])))) (call_eq h7) (eD ((oo (pu 23 [Sl.v 1 s1,Sl.v 1 s2]) none fun v=>some (v,(hp 1 [(oC [zI x1,Sl.v 1 s1])])))) (show _=some ((zB false),_) from (by have hz:(oo (pu 23 [Sl.v 1 s1,Sl.v 1 s2]) none fun v=>some (v,(hp 1 [(oC [zI x1,Sl.v 1 s1])])))=some ((zB b1),(hp 1 [(oC [zI x1,Sl.v 1 s1])])):=(call_eq h8);rw[h9] at hz;exact hz)) (eE)))))) ?_
       exact⟨false,hm,(.k0 [] [] [2])⟩
     ·refine .reg (eC 1 (some ((zB (ieq z3 (1:Int))),(hp 1 [(oC [zI x1,Sl.v 1 s1])]))) (show _=some ((zB true),_) from (by rw[show (ieq z3 (1:Int))=true from h2])) (eC 2 (some ((zB (ieq z4 (1:Int))),(hp 1 [(oC [zI x1,Sl.v 1 s1])]))) (show _=some ((zB true),_) from (by rw[show (ieq z4 (1:Int))=true from h3])) (eC 3 (some ((zB (ieq x2 (0:Int))),(hp 1 [(oC [zI x1,Sl.v 1 s1])]))) (show _=some ((zB true),_) from (by rw[show (ieq x2 (0:Int))=true from h4])) (eC 5 (some ((zB (ieq x1 z1)),(hp 1 [(oC [zI x1,Sl.v 1 s1])]))) (show _=some ((zB false),_) from (by rw[show (ieq x1 z1)=false from h5])) (eE))))) ?_
      exact⟨false,hm,(.k0 [] [] [2])⟩
    ·refine .reg (eC 1 (some ((zB (ieq z3 (1:Int))),(hp 1 [(oC [zI x1,Sl.v 1 s1])]))) (show _=some ((zB true),_) from (by rw[show (ieq z3 (1:Int))=true from h2])) (eC 2 (some ((zB (ieq z4 (1:Int))),(hp 1 [(oC [zI x1,Sl.v 1 s1])]))) (show _=some ((zB true),_) from (by rw[show (ieq z4 (1:Int))=true from h3])) (eC 3 (some ((zB (ieq x2 (0:Int))),(hp 1 [(oC [zI x1,Sl.v 1 s1])]))) (show _=some ((zB false),_) from (by rw[show (ieq x2 (0:Int))=false from h4])) (eE)))) ?_
     exact⟨false,hm,(.k0 [] [] [2])⟩
   ·refine .reg (eC 1 (some ((zB (ieq z3 (1:Int))),(hp 1 [(oC [zI x1,Sl.v 1 s1])]))) (show _=some ((zB true),_) from (by rw[show (ieq z3 (1:Int))=true from h2])) (eC 2 (some ((zB (ieq z4 (1:Int))),(hp 1 [(oC [zI x1,Sl.v 1 s1])]))) (show _=some ((zB false),_) from (by rw[show (ieq z4 (1:Int))=false from h3])) (eE))) ?_
    exact⟨false,hm,(.k0 [] [] [2])⟩
  ·refine .reg (eC 1 (some ((zB (ieq z3 (1:Int))),(hp 1 [(oC [zI x1,Sl.v 1 s1])]))) (show _=some ((zB false),_) from (by rw[show (ieq z3 (1:Int))=false from h2])) (eE)) ?_
   exact⟨false,hm,(.k0 [] [] [2])⟩
theorem w13_0 (pu:PureF) (n:Nat) (z1 z2:Int) (s0:Sl) (n0 c0:Nat) (q1:LV) {v:Value} (hm:m13_0 pu n z1 z2 s0 n0 c0 q1=some v):Run tt (callP tabs isP pu (inl pu)) 0 c13_65 (fr 146 [(3,zI z1),(4,.int .u32 z2),(5,Sl.v 1 s0),(6,sc 0 0 1 n0 c0)]) (hp 1 [oC q1]) (Fin tt 0 [.tmp 2] v):=by
 unfold m13_0 at hm
 refine .then ?_
 replace hm:=bb_inv hm;obtain⟨h0,hm⟩:=hm
 replace hm:=bb_inv hm;obtain⟨h1,hm⟩:=hm
 replace hm:=oo_inv hm;obtain⟨v0,h2,hm⟩:=hm
 replace hm:=inv_vTup hm;obtain⟨l0,rfl,hm⟩:=hm
 replace hm:=ll_uncons hm;obtain⟨v1,l3776_0,rfl,hm⟩:=hm
 replace hm:=ll_uncons hm;obtain⟨v2,l3776_1,rfl,hm⟩:=hm
 replace hm:=ll_end hm;obtain⟨rfl,hm⟩:=hm
 replace hm:=bb_inv hm;obtain⟨h3,hm⟩:=hm
 obtain rfl:=isNoV_ok h3
 replace hm:=inv_vAgg hm;obtain⟨q2,rfl,hm⟩:=hm
 replace hm:=bb_inv hm;obtain⟨h4,hm⟩:=hm
 refine .reg (eC 1 (objG tabs [[none],[none]] 2 [.tmp 0 false] [false] (pu 10600) [sc 0 0 1 n0 c0,(.func (.func 52) ⟨[]⟩ ⟨[]⟩)] (hp 1 [oC q1])) (objG_eq (as:=[sc 0 0 1 n0 c0,(.func (.func 52) ⟨[]⟩ ⟨[]⟩)]) (H1:=(hp 1 [oC q1])) (gvAL_c (gvA_1 gv_n) (gvAL_c (gvA_1 gv_n) gvAL_n)) (objF_eq (H2:=(hp 1 [oC q2])) (v:=(.tuple ⟨[]⟩)) (v':=(.tuple ⟨[]⟩)) [some 0] [(false,some 0)] [oC q1] [sc 0 0 1 n0 c0,(.func (.func 52) ⟨[]⟩ ⟨[]⟩)] [(.agg ⟨q2⟩)] [oC q2] [some 0] [(false,oC q2)] [oC q2] (trE (by kernel_rfl) (rootL h0 rfl)) (mapO_c (nO_list (anc:=[]) h1) mapO_n) (Eq.trans (by kernel_rfl) h2) (mapO_c rfl mapO_n) (mapO_c (bO_list h4) mapO_n))) (eE)) ?_
 replace hm:=bb_inv hm;obtain⟨h5,hm⟩:=hm
 refine .ghs (fr 146 [(3,zI z1),(4,.int .u32 z2),(5,Sl.v 1 s0),(6,sc 0 0 1 n0 c0)]) (hp 1 [oC q2]) (.k [0] [] [.tmp 6 false] [3,4,5,6] ⟨trF h5,trivial⟩) ?_
 refine .then ?_
 replace hm:=oo_inv hm;obtain⟨v3,h6,hm⟩:=hm
 replace hm:=inv_vTup hm;obtain⟨l1,rfl,hm⟩:=hm
 replace hm:=ll_uncons hm;obtain⟨v4,l3797_0,rfl,hm⟩:=hm
 replace hm:=ll_uncons hm;obtain⟨v5,l3797_1,rfl,hm⟩:=hm
 replace hm:=ll_end hm;obtain⟨rfl,hm⟩:=hm
 replace hm:=inv_toSl hm;obtain⟨s1,rfl,hm⟩:=hm
 replace hm:=inv_toI hm;obtain⟨x0,rfl,hm⟩:=hm
 refine .reg (eC 2 ((oo (pu 37 [zI z1,Sl.v 1 s0]) none fun v=>some (v,(hp 1 [oC q2])))) (call_eq h6) (eE)) ?_
 refine .ghs (fr 146 [(3,zI z1),(4,.int .u32 z2),(6,sc 0 0 1 n0 c0),(8,(Sl.v 2 s1)),(9,zI x0)]) (hp 1 [oC q2]) (.k [0] [] [.tmp 6 false] [3,4,6,8,9] ⟨trF h5,trivial⟩) ?_
 refine .then (.join (v:=v) (fun y:Int×Int×Nat×Nat×Sl×Bool×LV=>((fr 146 [(3,(zI y.1)),(4,(.int .u32 y.2.1)),(6,(sc 0 0 1 y.2.2.1 y.2.2.2.1)),(8,(Sl.v 2 y.2.2.2.2.1)),(68,(zB y.2.2.2.2.2.1))]),(hp 1 [(oC y.2.2.2.2.2.2)]))) (fun y=>m13_1 pu n y.1 y.2.1 y.2.2.1 y.2.2.2.1 y.2.2.2.2.1 y.2.2.2.2.2.1 y.2.2.2.2.2.2) ?_ ?_)
 ·rintro⟨z3,z4,n1,c1,s2,b0,q3⟩ hm
  unfold m13_1 at hm
  replace hm:=bb_cases hm;rcases hm with⟨h7,hm⟩ | ⟨h7,hm⟩
  ·refine .ifT b0 (by kernel_rfl) h7 ?_
   refine .then (.rK (.ghs (fr 146 [(2,zB false)]) (hp 0 []) (.k0 [] [] [2]) ?_))
   refine .ret ?_
   exact fin_rt (zB false) hm
  ·refine .ifF b0 (by kernel_rfl) h7 ?_
   refine .skip ?_
   replace hm:=bb_inv hm;obtain⟨h8,hm⟩:=hm
   refine .ghs (fr 146 [(3,zI z3),(4,.int .u32 z4),(6,sc 0 0 1 n1 c1),(8,(Sl.v 2 s2))]) (hp 1 [oC q3]) (.k [0] [] [.tmp 6 false] [3,4,6,8] ⟨trF h8,trivial⟩) ?_
   refine .then (.rK (.ghs (fr 146 [(3,zI z3),(4,.int .u32 z4),(6,sc 0 0 1 n1 c1),(8,(Sl.v 2 s2)),(10,(zI (0:Int))),(11,(zI (0:Int)))]) (hp 1 [oC q3]) (.k [0] [] [.tmp 6 false] [3,4,6,8,10,11] ⟨trF h8,trivial⟩) ?_))
   refine .join (v:=v) (fun y:Int×Int×Int×Int=>((fr 146 [(3,(zI y.1)),(4,(.int .u32 y.2.1)),(10,(zI y.2.2.1)),(11,(zI y.2.2.2))]),(hp 0 []))) (fun y=>m13_2 pu n y.1 y.2.1 y.2.2.1 y.2.2.2) ?_ ?_
   ·rintro⟨z5,z6,z7,z8⟩ hm
    exact w13_2 pu n z5 z6 z7 z8 hm
   ·refine .then (.rK (.ghs (fr 146 [(3,zI z3),(4,.int .u32 z4),(6,sc 0 0 1 n1 c1),(10,(zI (0:Int))),(11,(zI (0:Int))),(69,(Sl.v 2 s2)),(70,(zI (Int.ofNat (Sl.n s2)))),(71,(zI (0:Int)))]) (hp 1 [oC q3]) (.k [0] [] [.tmp 6 false] [3,4,6,10,11,69,70,71] ⟨trF h8,trivial⟩) ?_))
    refine .block (.loopM (v:=v) (fun y:Int×Int×Nat×Nat×Int×Int×Sl×Int×Int×LV=>((fr 146 [(3,(zI y.1)),(4,(.int .u32 y.2.1)),(6,(sc 0 0 1 y.2.2.1 y.2.2.2.1)),(10,(zI y.2.2.2.2.1)),(11,(zI y.2.2.2.2.2.1)),(69,(Sl.v 2 y.2.2.2.2.2.2.1)),(70,(zI y.2.2.2.2.2.2.2.1)),(71,(zI y.2.2.2.2.2.2.2.2.1))]),(hp 1 [(oC y.2.2.2.2.2.2.2.2.2)]))) (fun w y=>l13_4 pu n w y.1 y.2.1 y.2.2.1 y.2.2.2.1 y.2.2.2.2.1 y.2.2.2.2.2.1 y.2.2.2.2.2.2.1 y.2.2.2.2.2.2.2.1 y.2.2.2.2.2.2.2.2.1 y.2.2.2.2.2.2.2.2.2) n ⟨(z3,z4,n1,c1,(0:Int),(0:Int),s2,(Int.ofNat (Sl.n s2)),(0:Int),q3),hm,(.k [0] [] [.tmp 6 false] [3,4,6,10,11,69,70,71] ⟨trF h8,trivial⟩)⟩ (fun _=>rfl) ?_)
    rintro w0 ⟨z9,z10,n2,c2,z11,z12,s3,z13,z14,q4⟩ hm
    replace hm:b13_4 pu n (l13_4 pu n w0) z9 z10 n2 c2 z11 z12 s3 z13 z14 q4=some v:=hm
    unfold b13_4 at hm
    refine .then (.rK ?_)
    replace hm:=bb_inv hm;obtain⟨h9,hm⟩:=hm
    refine .ghs (fr 146 [(3,zI z9),(4,.int .u32 z10),(6,sc 0 0 1 n2 c2),(10,zI z11),(11,zI z12),(69,(Sl.v 2 s3)),(70,zI z13),(71,zI z14),(72,(zB (ilt z14 z13)))]) (hp 1 [oC q4]) (.k [0] [] [.tmp 6 false] [3,4,6,10,11,69,70,71,72] ⟨trF h9,trivial⟩) ?_
    refine .then ?_
    replace hm:=bb_cases hm;rcases hm with⟨h10,hm⟩ | ⟨h10,hm⟩
    ·refine ifTt (ilt z14 z13) h10 ?_
     refine .skip (.ghs (fr 146 [(3,zI z9),(4,.int .u32 z10),(6,sc 0 0 1 n2 c2),(10,zI z11),(11,zI z12),(69,(Sl.v 2 s3)),(70,zI z13),(71,zI z14)]) (hp 1 [oC q4]) (.k [0] [] [.tmp 6 false] [3,4,6,10,11,69,70,71] ⟨trF h9,trivial⟩) ?_)
     refine .join (v:=v) (fun y:Int×Int×Nat×Nat×Int×Int×Sl×Int×Int×LV=>((fr 146 [(3,(zI y.1)),(4,(.int .u32 y.2.1)),(6,(sc 0 0 1 y.2.2.1 y.2.2.2.1)),(10,(zI y.2.2.2.2.1)),(11,(zI y.2.2.2.2.2.1)),(69,(Sl.v 2 y.2.2.2.2.2.2.1)),(70,(zI y.2.2.2.2.2.2.2.1)),(71,(zI y.2.2.2.2.2.2.2.2.1))]),(hp 1 [(oC y.2.2.2.2.2.2.2.2.2)]))) (fun y=>m13_5 pu n (l13_4 pu n w0) y.1 y.2.1 y.2.2.1 y.2.2.2.1 y.2.2.2.2.1 y.2.2.2.2.2.1 y.2.2.2.2.2.2.1 y.2.2.2.2.2.2.2.1 y.2.2.2.2.2.2.2.2.1 y.2.2.2.2.2.2.2.2.2) ?_ ?_
     ·rintro⟨z15,z16,n3,c3,z17,z18,s4,z19,z20,q5⟩ hm
      unfold m13_5 at hm
      refine .rK ?_
      replace hm:=bb_inv hm;obtain⟨h11,hm⟩:=hm
      exact⟨(z15,z16,n3,c3,z17,z18,s4,z19,(wrapF .i64 (Int.add z20 (1:Int))),q5),hm,(.k [0] [] [.tmp 6 false] [3,4,6,10,11,69,70,71] ⟨trF h11,trivial⟩)⟩
     ·refine .block (.then ?_)
      replace hm:=oo_inv hm;obtain⟨k1,h12,hm⟩:=hm
      obtain rfl:=toN_some h12
      replace hm:=bb_inv hm;obtain⟨h13,hm⟩:=hm
      replace hm:=bb_inv hm;obtain⟨h14,hm⟩:=hm
      replace hm:=oQI hm;obtain⟨x1,h15,hm⟩:=hm
      replace hm:=oQS hm;obtain⟨s5,h16,hm⟩:=hm
      refine .reg (eC 1 (keep (hp 1 [oC q4]) (bb (an (Nat.blt k1 (Sl.n s3)) true) (some (fpV (k1*2) (Sl.cs s3))) none)) (keep_bb h13) (eD (keep (hp 1 [oC q4]) (bb (Nat.ble ((k1*2)+2) (len (Sl.cs s3))) (some (.agg ⟨takeL 2 (dropL (k1*2) (Sl.cs s3))⟩)) none)) (keep_agg h14 (takeL_cons h15 (takeL_cons h16 rfl))) (eE))) ?_
      refine .ghs (fr 146 [(3,zI z9),(4,.int .u32 z10),(6,sc 0 0 1 n2 c2),(10,zI z11),(11,zI z12),(12,(zI (Int.ofNat k1))),(13,pt 1 0),(69,(Sl.v 2 s3)),(70,zI z13),(71,(zI (Int.ofNat k1)))]) (hp 2 [oC q4,(oC [zI x1,Sl.v 1 s5])]) (.k [0] [] [.tmp 6 false,.tmp 13 false] [3,4,6,10,11,12,13,69,70,71] ⟨trF h9,trivial⟩) ?_
      refine .then (.join (v:=v) (fun y:Int×Int×Nat×Nat×Int×Int×Sl×Int×Int×Bool×LV×Int×Sl=>((fr 146 [(3,(zI y.1)),(4,(.int .u32 y.2.1)),(6,(sc 0 0 1 y.2.2.1 y.2.2.2.1)),(10,(zI y.2.2.2.2.1)),(11,(zI y.2.2.2.2.2.1)),(13,pt 1 0),(69,(Sl.v 2 y.2.2.2.2.2.2.1)),(70,(zI y.2.2.2.2.2.2.2.1)),(71,(zI y.2.2.2.2.2.2.2.2.1)),(89,(zB y.2.2.2.2.2.2.2.2.2.1))]),(hp 2 [(oC y.2.2.2.2.2.2.2.2.2.2.1),(oC [(zI y.2.2.2.2.2.2.2.2.2.2.2.1),(Sl.v 1 y.2.2.2.2.2.2.2.2.2.2.2.2)])]))) (fun y=>m13_6 pu n (l13_4 pu n w0) y.1 y.2.1 y.2.2.1 y.2.2.2.1 y.2.2.2.2.1 y.2.2.2.2.2.1 y.2.2.2.2.2.2.1 y.2.2.2.2.2.2.2.1 y.2.2.2.2.2.2.2.2.1 y.2.2.2.2.2.2.2.2.2.1 y.2.2.2.2.2.2.2.2.2.2.1 y.2.2.2.2.2.2.2.2.2.2.2.1 y.2.2.2.2.2.2.2.2.2.2.2.2) ?_ ?_)
      ·rintro⟨z21,z22,n4,c4,z23,z24,s6,z25,z26,b1,q6,z27,s7⟩ hm
       unfold m13_6 at hm
       replace hm:=bb_cases hm;rcases hm with⟨h17,hm⟩ | ⟨h17,hm⟩
       ·refine .ifT b1 (by kernel_rfl) h17 ?_
        refine .then (.rK (.ghs (fr 146 [(2,zB false)]) (hp 0 []) (.k0 [] [] [2]) ?_))
        refine .ret ?_
        exact fin_rt (zB false) hm
       ·refine .ifF b1 (by kernel_rfl) h17 ?_
        refine .skip ?_
        replace hm:=bb_inv hm;obtain⟨h18,hm⟩:=hm
        refine .ghs (fr 146 [(3,zI z21),(4,.int .u32 z22),(6,sc 0 0 1 n4 c4),(10,zI z23),(11,zI z24),(13,pt 1 0),(69,(Sl.v 2 s6)),(70,zI z25),(71,zI z26)]) (hp 2 [oC q6,(oC [zI z27,Sl.v 1 s7])]) (.k [0] [] [.tmp 6 false,.tmp 13 false] [3,4,6,10,11,13,69,70,71] ⟨trF h18,trivial⟩) ?_
        refine .join (v:=v) (fun y:Int×Int×Nat×Nat×Int×Int×Sl×Int×Int×LV×Int×Sl=>((fr 146 [(3,(zI y.1)),(4,(.int .u32 y.2.1)),(6,(sc 0 0 1 y.2.2.1 y.2.2.2.1)),(10,(zI y.2.2.2.2.1)),(11,(zI y.2.2.2.2.2.1)),(13,pt 1 0),(69,(Sl.v 2 y.2.2.2.2.2.2.1)),(70,(zI y.2.2.2.2.2.2.2.1)),(71,(zI y.2.2.2.2.2.2.2.2.1))]),(hp 2 [(oC y.2.2.2.2.2.2.2.2.2.1),(oC [(zI y.2.2.2.2.2.2.2.2.2.2.1),(Sl.v 1 y.2.2.2.2.2.2.2.2.2.2.2)])]))) (fun y=>m13_7 pu n (l13_4 pu n w0) y.1 y.2.1 y.2.2.1 y.2.2.2.1 y.2.2.2.2.1 y.2.2.2.2.2.1 y.2.2.2.2.2.2.1 y.2.2.2.2.2.2.2.1 y.2.2.2.2.2.2.2.2.1 y.2.2.2.2.2.2.2.2.2.1 y.2.2.2.2.2.2.2.2.2.2.1 y.2.2.2.2.2.2.2.2.2.2.2) ?_ ?_
        ·rintro⟨z28,z29,n5,c5,z30,z31,s8,z32,z33,q7,z34,s9⟩ hm
         unfold m13_7 at hm
         refine .then ?_
         replace hm:=oQI hm;obtain⟨x2,h19,hm⟩:=hm
         replace hm:=oQI hm;obtain⟨x3,h20,hm⟩:=hm
         replace hm:=oQS hm;obtain⟨s10,h21,hm⟩:=hm
         replace hm:=oQB hm;obtain⟨b2,h22,hm⟩:=hm
         refine .reg (eC 5 ((oo (pu 49 [zI z28,.int .u32 z29,(zI (-1:Int)),(zI (0:Int))]) none fun v=>some (v,(hp 2 [oC q7,(oC [zI z34,Sl.v 1 s9])])))) (call_eq h19) (eD ((oo (pu 58 [zI z28,.int .u32 x2]) none fun v=>some (v,(hp 2 [oC q7,(oC [zI z34,Sl.v 1 s9])])))) (call_eq h20) (eD ((oo (pu 48 [.int .u32 x3]) none fun v=>some (v,(hp 2 [oC q7,(oC [zI z34,Sl.v 1 s9])])))) (call_eq h21) (eD ((oo (pu 23 [Sl.v 1 s9,Sl.v 1 s10]) none fun v=>some (v,(hp 2 [oC q7,(oC [zI z34,Sl.v 1 s9])])))) (call_eq h22) (eE))))) ?_
         replace hm:=bb_inv hm;obtain⟨h23,hm⟩:=hm
         refine .ghs (fr 146 [(3,zI z28),(4,.int .u32 z29),(6,sc 0 0 1 n5 c5),(10,zI z30),(11,zI z31),(69,(Sl.v 2 s8)),(70,zI z32),(71,zI z33),(107,zB b2)]) (hp 1 [oC q7]) (.k [0] [] [.tmp 6 false] [3,4,6,10,11,69,70,71,107] ⟨trF h23,trivial⟩) ?_
         replace hm:=bb_cases hm;rcases hm with⟨h24,hm⟩ | ⟨h24,hm⟩
         ·refine .ifT b2 (by kernel_rfl) h24 ?_
          refine .rK ?_
          exact⟨(z28,z29,n5,c5,z30,(wrapF .i64 (Int.add z31 (1:Int))),s8,z32,z33,q7),hm,(.k [0] [] [.tmp 6 false] [3,4,6,10,11,69,70,71] ⟨trF h23,trivial⟩)⟩
         ·refine .ifF b2 (by kernel_rfl) h24 ?_
          refine .skip ?_
          exact⟨(z28,z29,n5,c5,z30,z31,s8,z32,z33,q7),hm,(.k [0] [] [.tmp 6 false] [3,4,6,10,11,69,70,71] ⟨trF h23,trivial⟩)⟩
        ·refine .then ?_
         replace hm:=oQI hm;obtain⟨x4,h25,hm⟩:=hm
         replace hm:=oQS hm;obtain⟨s11,h26,hm⟩:=hm
         replace hm:=oQB hm;obtain⟨b3,h27,hm⟩:=hm
         refine .reg (eC 4 ((oo (pu 58 [zI z21,.int .u32 z22]) none fun v=>some (v,(hp 2 [oC q6,(oC [zI z27,Sl.v 1 s7])])))) (call_eq h25) (eD ((oo (pu 48 [.int .u32 x4]) none fun v=>some (v,(hp 2 [oC q6,(oC [zI z27,Sl.v 1 s7])])))) (call_eq h26) (eD ((oo (pu 23 [Sl.v 1 s7,Sl.v 1 s11]) none fun v=>some (v,(hp 2 [oC q6,(oC [zI z27,Sl.v 1 s7])])))) (call_eq h27) (eE)))) ?_
         refine .ghs (fr 146 [(3,zI z21),(4,.int .u32 z22),(6,sc 0 0 1 n4 c4),(10,zI z23),(11,zI z24),(13,pt 1 0),(69,(Sl.v 2 s6)),(70,zI z25),(71,zI z26),(96,zB b3)]) (hp 2 [oC q6,(oC [zI z27,Sl.v 1 s7])]) (.k [0] [] [.tmp 6 false,.tmp 13 false] [3,4,6,10,11,13,69,70,71,96] ⟨trF h18,trivial⟩) ?_
         replace hm:=bb_cases hm;rcases hm with⟨h28,hm⟩ | ⟨h28,hm⟩
         ·refine .ifT b3 (by kernel_rfl) h28 ?_
          refine .rK ?_
          exact⟨(z21,z22,n4,c4,(wrapF .i64 (Int.add z23 (1:Int))),z24,s6,z25,z26,q6,z27,s7),hm,(.k [0] [] [.tmp 6 false,.tmp 13 false] [3,4,6,10,11,13,69,70,71] ⟨trF h18,trivial⟩)⟩
         ·refine .ifF b3 (by kernel_rfl) h28 ?_
          refine .skip ?_
          exact⟨(z21,z22,n4,c4,z23,z24,s6,z25,z26,q6,z27,s7),hm,(.k [0] [] [.tmp 6 false,.tmp 13 false] [3,4,6,10,11,13,69,70,71] ⟨trF h18,trivial⟩)⟩
      ·replace hm:=bb_cases hm;rcases hm with⟨h29,hm⟩ | ⟨h29,hm⟩
       ·refine .reg (eC 3 (some ((zB (nt (ieq x1 z9))),(hp 2 [oC q4,(oC [zI x1,Sl.v 1 s5])]))) (show _=some ((zB true),_) from (by rw[show (nt (ieq x1 z9))=true from h29])) (eE)) ?_
        exact⟨(z9,z10,n2,c2,z11,z12,s3,z13,(Int.ofNat k1),true,q4,x1,s5),hm,(.k [0] [] [.tmp 6 false,.tmp 13 false] [3,4,6,10,11,13,69,70,71,89] ⟨trF h9,trivial⟩)⟩
       ·replace hm:=bb_inv hm;obtain⟨h30,hm⟩:=hm
        replace hm:=oQS hm;obtain⟨s12,h31,hm⟩:=hm
        replace hm:=oQB hm;obtain⟨b4,h32,hm⟩:=hm
        refine .reg (eC 3 (some ((zB (nt (ieq x1 z9))),(hp 2 [oC q4,(oC [zI x1,Sl.v 1 s5])]))) (show _=some ((zB false),_) from (by rw[show (nt (ieq x1 z9))=false from h29])) (eC 5 (keep (hp 2 [oC q4,(oC [zI x1,Sl.v 1 s5])]) (bb (an (Nat.blt k1 n2) true) (some (.pointer (some ⟨0,(0+k1*1),none⟩))) none)) (keep_bb h30) (eD (keep (hp 2 [oC q4,(oC [zI x1,Sl.v 1 s5])]) (nthL q4 (0+k1*1))) (keep_eq h31) (eD ((oo (pu 23 [Sl.v 1 s5,Sl.v 1 s12]) none fun v=>some (v,(hp 2 [oC q4,(oC [zI x1,Sl.v 1 s5])])))) (call_eq h32) (eE))))) ?_
        exact⟨(z9,z10,n2,c2,z11,z12,s3,z13,(Int.ofNat k1),(nt b4),q4,x1,s5),hm,(.k [0] [] [.tmp 6 false,.tmp 13 false] [3,4,6,10,11,13,69,70,71,89] ⟨trF h9,trivial⟩)⟩
    ·refine ifFt (ilt z14 z13) h10 ?_
     refine .exit ?_
     exact⟨(z9,z10,z11,z12),hm,(.k0 [] [] [3,4,10,11])⟩
 ·replace hm:=bb_cases hm;rcases hm with⟨h33,hm⟩ | ⟨h33,hm⟩
  ·refine .reg (eC 1 (some ((zB (nt (ieq x0 (0:Int)))),(hp 1 [oC q2]))) (show _=some ((zB true),_) from (by rw[show (nt (ieq x0 (0:Int)))=true from h33])) (eE)) ?_
   exact⟨(z1,z2,n0,c0,s1,true,q2),hm,(.k [0] [] [.tmp 6 false] [3,4,6,8,68] ⟨trF h5,trivial⟩)⟩
  ·refine .reg (eC 1 (some ((zB (nt (ieq x0 (0:Int)))),(hp 1 [oC q2]))) (show _=some ((zB false),_) from (by rw[show (nt (ieq x0 (0:Int)))=false from h33])) (eE)) ?_
   exact⟨(z1,z2,n0,c0,s1,(nt (ieq (Int.ofNat (Sl.n s1)) (Int.ofNat n0))),q2),hm,(.k [0] [] [.tmp 6 false] [3,4,6,8,68] ⟨trF h5,trivial⟩)⟩
theorem r13 {call:CallF} (pu:PureF) (n:Nat) (hcall:call=callP tabs isP pu (inl pu)) {args:LV} {v:Value} (hm:m13 pu n args=some v) (_:∀ x∈args,closed2 x=true):args.length≤146∧Run tt call 0 c13_70 (Fr.made 146 args) (pureHeap tabs) (Fin tt 0 [.tmp 2] v):=by
 subst hcall
 unfold m13 at hm
 replace hm:=ll_uncons hm;obtain⟨a0,args_0,rfl,hm⟩:=hm
 replace hm:=ll_end hm;obtain⟨rfl,hm⟩:=hm
 replace hm:=inv_vAgg hm;obtain⟨l0,rfl,hm⟩:=hm
 replace hm:=ll_uncons hm;obtain⟨v0,l2207_0,rfl,hm⟩:=hm
 replace hm:=ll_uncons hm;obtain⟨v1,l2207_1,rfl,hm⟩:=hm
 replace hm:=ll_end hm;obtain⟨rfl,hm⟩:=hm
 replace hm:=inv_toI hm;obtain⟨x0,rfl,hm⟩:=hm
 replace hm:=inv_toI hm;obtain⟨x1,rfl,hm⟩:=hm
 unfold m13_ at hm
 refine⟨by simp,?_⟩
 refine .same (F':=(fr 146 [(0,(.agg ⟨[(zY x0),.int .u32 x1]⟩))])) (H':=(hp 0 [])) (by kernel_rfl) (by kernel_rfl) ?_
 refine .then (.rK (.ghs (fr 146 [(1,(pt 0 0))]) (hp 1 [(oC [(zY x0),.int .u32 x1])]) (.k0 [] [.tmp 1 false] [1]) ?_))
 refine .then ?_
 replace hm:=oo_inv hm;obtain⟨v2,h0,hm⟩:=hm
 replace hm:=inv_vTup hm;obtain⟨l1,rfl,hm⟩:=hm
 replace hm:=ll_uncons hm;obtain⟨v3,l2227_0,rfl,hm⟩:=hm
 replace hm:=ll_uncons hm;obtain⟨v4,l2227_1,rfl,hm⟩:=hm
 replace hm:=ll_end hm;obtain⟨rfl,hm⟩:=hm
 replace hm:=inv_toI hm;obtain⟨x2,rfl,hm⟩:=hm
 replace hm:=inv_toI hm;obtain⟨x3,rfl,hm⟩:=hm
 refine .reg (eC 1 ((oo (pu 46 [(.agg ⟨[(zY x0),.int .u32 x1]⟩),(zI (11:Int))]) none fun v=>some (v,(hp 1 [(oC [(zY x0),.int .u32 x1])])))) (call_eq h0) (eE)) ?_
 refine .ghs (fr 146 [(3,zI x2),(4,.int .u32 x3)]) (hp 0 []) (.k0 [] [] [3,4]) ?_
 refine .then ?_
 replace hm:=oQS hm;obtain⟨s0,h1,hm⟩:=hm
 refine .reg (eC 2 ((oo (pu 51 [zI x2,.int .u32 x3]) none fun v=>some (v,(hp 0 [])))) (call_eq h1) (eE)) ?_
 refine .ghs (fr 146 [(3,zI x2),(4,.int .u32 x3),(5,Sl.v 1 s0)]) (hp 0 []) (.k0 [] [] [3,4,5]) ?_
 refine .then (.rK (.ghs (fr 146 [(3,zI x2),(4,.int .u32 x3),(5,Sl.v 1 s0),(6,(.slice none 0 0))]) (hp 0 []) (.k0 [] [] [3,4,5,6]) ?_))
 refine .join (v:=v) (fun y:Int×Int×Sl×Nat×Nat×LV=>((fr 146 [(3,(zI y.1)),(4,(.int .u32 y.2.1)),(5,(Sl.v 1 y.2.2.1)),(6,(sc 0 0 1 y.2.2.2.1 y.2.2.2.2.1))]),(hp 1 [(oC y.2.2.2.2.2)]))) (fun y=>m13_0 pu n y.1 y.2.1 y.2.2.1 y.2.2.2.1 y.2.2.2.2.1 y.2.2.2.2.2) ?_ ?_
 ·rintro⟨z1,z2,s1,n0,c0,q1⟩ hm
  exact w13_0 pu n z1 z2 s1 n0 c0 q1 hm
 ·refine .then ?_
  replace hm:=oo_inv hm;obtain⟨k1,h2,hm⟩:=hm
  obtain rfl:=toN_some h2
  refine .rK (.ghs (fr 146 [(3,(zI (Int.ofNat k1))),(4,.int .u32 x3),(5,Sl.v 1 s0),(6,(.slice none 0 0)),(25,(.int .u32 (shlI .u32 (1:Int) k1))),(26,(.int .u32 (0:Int)))]) (hp 0 []) (.k0 [] [] [3,4,5,6,25,26]) ?_)
  refine .block (.loopM (v:=v) (fun y:Int×Int×Sl×Nat×Nat×Int×Int×LV=>((fr 146 [(3,(zI y.1)),(4,(.int .u32 y.2.1)),(5,(Sl.v 1 y.2.2.1)),(6,(sc 0 0 1 y.2.2.2.1 y.2.2.2.2.1)),(25,(.int .u32 y.2.2.2.2.2.1)),(26,(.int .u32 y.2.2.2.2.2.2.1))]),(hp 1 [(oC y.2.2.2.2.2.2.2)]))) (fun w y=>l13_8 pu n w y.1 y.2.1 y.2.2.1 y.2.2.2.1 y.2.2.2.2.1 y.2.2.2.2.2.1 y.2.2.2.2.2.2.1 y.2.2.2.2.2.2.2) n ⟨((Int.ofNat k1),x3,s0,0,0,(shlI .u32 (1:Int) k1),(0:Int),([]:LV)),hm,(.thaw 6 1 (by kernel_rfl) (.k0 [] [.tmp 6 false] [3,4,5,6,25,26]))⟩ (fun _=>rfl) ?_)
  rintro w0 ⟨z3,z4,s2,n1,c1,z5,z6,q2⟩ hm
  replace hm:b13_8 pu n (l13_8 pu n w0) z3 z4 s2 n1 c1 z5 z6 q2=some v:=hm
  unfold b13_8 at hm
  refine .then (.rK ?_)
  replace hm:=bb_inv hm;obtain⟨h3,hm⟩:=hm
  refine .ghs (fr 146 [(3,zI z3),(4,.int .u32 z4),(5,Sl.v 1 s2),(6,sc 0 0 1 n1 c1),(25,.int .u32 z5),(26,.int .u32 z6),(27,(zB (ilt z6 z5)))]) (hp 1 [oC q2]) (.k [0] [] [.tmp 6 false] [3,4,5,6,25,26,27] ⟨trF h3,trivial⟩) ?_
  refine .then ?_
  replace hm:=bb_cases hm;rcases hm with⟨h4,hm⟩ | ⟨h4,hm⟩
  ·refine ifTt (ilt z6 z5) h4 ?_
   refine .skip (.ghs (fr 146 [(3,zI z3),(4,.int .u32 z4),(5,Sl.v 1 s2),(6,sc 0 0 1 n1 c1),(25,.int .u32 z5),(26,.int .u32 z6)]) (hp 1 [oC q2]) (.k [0] [] [.tmp 6 false] [3,4,5,6,25,26] ⟨trF h3,trivial⟩) ?_)
   refine .join (v:=v) (fun y:Int×Int×Sl×Nat×Nat×Int×Int×LV=>((fr 146 [(3,(zI y.1)),(4,(.int .u32 y.2.1)),(5,(Sl.v 1 y.2.2.1)),(6,(sc 0 0 1 y.2.2.2.1 y.2.2.2.2.1)),(25,(.int .u32 y.2.2.2.2.2.1)),(26,(.int .u32 y.2.2.2.2.2.2.1))]),(hp 1 [(oC y.2.2.2.2.2.2.2)]))) (fun y=>m13_9 pu n (l13_8 pu n w0) y.1 y.2.1 y.2.2.1 y.2.2.2.1 y.2.2.2.2.1 y.2.2.2.2.2.1 y.2.2.2.2.2.2.1 y.2.2.2.2.2.2.2) ?_ ?_
   ·rintro⟨z7,z8,s3,n2,c2,z9,z10,q3⟩ hm
    unfold m13_9 at hm
    refine .rK ?_
    replace hm:=bb_inv hm;obtain⟨h5,hm⟩:=hm
    exact⟨(z7,z8,s3,n2,c2,z9,(wrapF .u32 (Int.add z10 (1:Int))),q3),hm,(.k [0] [] [.tmp 6 false] [3,4,5,6,25,26] ⟨trF h5,trivial⟩)⟩
   ·refine .block (.then (.rK (.ghs (fr 146 [(3,zI z3),(4,.int .u32 z4),(5,Sl.v 1 s2),(6,sc 0 0 1 n1 c1),(7,.int .u32 z6),(25,.int .u32 z5),(26,.int .u32 z6)]) (hp 1 [oC q2]) (.k [0] [] [.tmp 6 false] [3,4,5,6,7,25,26] ⟨trF h3,trivial⟩) ?_)))
    refine .join (v:=v) (fun y:Int×Int×Sl×Nat×Nat×Int×Int×Int×Bool×LV=>((fr 146 [(3,(zI y.1)),(4,(.int .u32 y.2.1)),(5,(Sl.v 1 y.2.2.1)),(6,(sc 0 0 1 y.2.2.2.1 y.2.2.2.2.1)),(7,(.int .u32 y.2.2.2.2.2.1)),(25,(.int .u32 y.2.2.2.2.2.2.1)),(26,(.int .u32 y.2.2.2.2.2.2.2.1)),(45,(zB y.2.2.2.2.2.2.2.2.1))]),(hp 1 [(oC y.2.2.2.2.2.2.2.2.2)]))) (fun y=>m13_10 pu n (l13_8 pu n w0) y.1 y.2.1 y.2.2.1 y.2.2.2.1 y.2.2.2.2.1 y.2.2.2.2.2.1 y.2.2.2.2.2.2.1 y.2.2.2.2.2.2.2.1 y.2.2.2.2.2.2.2.2.1 y.2.2.2.2.2.2.2.2.2) ?_ ?_
    ·rintro⟨z11,z12,s4,n3,c3,z13,z14,z15,b0,q4⟩ hm
     unfold m13_10 at hm
     replace hm:=bb_cases hm;rcases hm with⟨h6,hm⟩ | ⟨h6,hm⟩
     ·refine .ifT b0 (by kernel_rfl) h6 ?_
      replace hm:=oQS hm;obtain⟨s5,h7,hm⟩:=hm
      replace hm:=bb_inv hm;obtain⟨h8,hm⟩:=hm
      refine .reg (eC 2 ((oo (pu 48 [.int .u32 z13]) none fun v=>some (v,(hp 1 [oC q4])))) (call_eq h7) (eC 1 (growD 1 24 n3 c3 1 0 q4 [Sl.v 1 s5] [] (hp 2 [oC q4,(oC [Sl.v 1 s5])])) (growD_eq h8) (eE))) ?_
      replace hm:=bb_inv hm;obtain⟨h9,hm⟩:=hm
      exact⟨(z11,z12,s4,(n3+1),(d2 (n3+1)),z14,z15,(appL (dropL 0 q4) [Sl.v 1 s5])),hm,(.k [2] [] [.tmp 6 false] [3,4,5,6,25,26] ⟨trF h9,trivial⟩)⟩
     ·refine .ifF b0 (by kernel_rfl) h6 ?_
      refine .skip ?_
      replace hm:=bb_inv hm;obtain⟨h10,hm⟩:=hm
      exact⟨(z11,z12,s4,n3,c3,z14,z15,q4),hm,(.k [0] [] [.tmp 6 false] [3,4,5,6,25,26] ⟨trF h10,trivial⟩)⟩
    ·replace hm:=oQI hm;obtain⟨x4,h11,hm⟩:=hm
     replace hm:=bb_cases hm;rcases hm with⟨h12,hm⟩ | ⟨h12,hm⟩
     ·replace hm:=oQI hm;obtain⟨x5,h13,hm⟩:=hm
      replace hm:=bb_cases hm;rcases hm with⟨h14,hm⟩ | ⟨h14,hm⟩
      ·replace hm:=oQS hm;obtain⟨s6,h15,hm⟩:=hm
       replace hm:=oQB hm;obtain⟨b1,h16,hm⟩:=hm
       refine .reg (eN 7 (Fr.puts (fr 146 [(3,zI z3),(4,.int .u32 z4),(5,Sl.v 1 s2),(6,sc 0 0 1 n1 c1),(7,.int .u32 z6),(25,.int .u32 z5),(26,.int .u32 z6)]) [(29,.int .u32 z6),(30,zI x4),(31,zB true),(32,zB true),(33,zI z3),(34,.int .u32 z6),(35,.int .u32 x5)]) (hp 1 [oC q2]) (eC 1 ((oo (pu 50 [.int .u32 z6]) none fun v=>some (v,(hp 1 [oC q2])))) (call_eq h11) (eD (some ((zB (nt (ilt (6:Int) x4))),(hp 1 [oC q2]))) (show _=some ((zB true),_) from (by rw[show (nt (ilt (6:Int) x4))=true from h12])) (eC 3 ((oo (pu 58 [zI z3,.int .u32 z6]) none fun v=>some (v,(hp 1 [oC q2])))) (call_eq h13) (by kernel_rfl)))) (eC 1 (some ((zB (ieq x5 z6)),(hp 1 [oC q2]))) (show _=some ((zB true),_) from (by rw[show (ieq x5 z6)=true from h14])) (eC 4 ((oo (pu 51 [zI z3,.int .u32 z6]) none fun v=>some (v,(hp 1 [oC q2])))) (call_eq h15) (eC 1 ((oo (pu 23 [Sl.v 1 s6,Sl.v 1 s2]) none fun v=>some (v,(hp 1 [oC q2])))) (call_eq h16) (eE))))) ?_
       exact⟨(z3,z4,s2,n1,c1,z6,z5,z6,b1,q2),hm,(.k [0] [] [.tmp 6 false] [3,4,5,6,7,25,26,45] ⟨trF h3,trivial⟩)⟩
      ·refine .reg (eC 1 ((oo (pu 50 [.int .u32 z6]) none fun v=>some (v,(hp 1 [oC q2])))) (call_eq h11) (eD (some ((zB (nt (ilt (6:Int) x4))),(hp 1 [oC q2]))) (show _=some ((zB true),_) from (by rw[show (nt (ilt (6:Int) x4))=true from h12])) (eC 3 ((oo (pu 58 [zI z3,.int .u32 z6]) none fun v=>some (v,(hp 1 [oC q2])))) (call_eq h13) (eC 1 (some ((zB (ieq x5 z6)),(hp 1 [oC q2]))) (show _=some ((zB false),_) from (by rw[show (ieq x5 z6)=false from h14])) (eE))))) ?_
       exact⟨(z3,z4,s2,n1,c1,z6,z5,z6,false,q2),hm,(.k [0] [] [.tmp 6 false] [3,4,5,6,7,25,26,45] ⟨trF h3,trivial⟩)⟩
     ·refine .reg (eC 1 ((oo (pu 50 [.int .u32 z6]) none fun v=>some (v,(hp 1 [oC q2])))) (call_eq h11) (eD (some ((zB (nt (ilt (6:Int) x4))),(hp 1 [oC q2]))) (show _=some ((zB false),_) from (by rw[show (nt (ilt (6:Int) x4))=false from h12])) (eE))) ?_
      exact⟨(z3,z4,s2,n1,c1,z6,z5,z6,false,q2),hm,(.k [0] [] [.tmp 6 false] [3,4,5,6,7,25,26,45] ⟨trF h3,trivial⟩)⟩
  ·refine ifFt (ilt z6 z5) h4 ?_
   refine .exit ?_
   exact⟨(z3,z4,s2,n1,c1,q2),hm,(.k [0] [] [.tmp 6 false] [3,4,5,6] ⟨trF h3,trivial⟩)⟩
end
end Go.RgJM
