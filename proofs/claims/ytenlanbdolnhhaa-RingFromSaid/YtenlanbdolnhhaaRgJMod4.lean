/- Made from wip. -/
import Derived.Test.YtenlanbdolnhhaaRgJMod0x

set_option maxRecDepth 100000
set_option maxHeartbeats 20000000
set_option linter.unusedVariables false
namespace Go.RgJM
open Go.Sp Go.RgJ
noncomputable section
def m68_0 (pu:PureF) (n:Nat) (z1 z2 z3 z4:Int):OV:=
 (some (.agg ⟨[.int .i64 z3,.int .u32 z4]⟩))
def m68_2 (pu:PureF) (n:Nat) (ih0:Sl→Int→Int→Int→Int→Int→Int→Int→Int→OV) (s0:Sl) (z1 z2 z3 z4 z5 z6 z7 z8:Int):OV:=
 (ih0 s0 z1 (wrapF .i64 (Int.add z2 (1:Int))) z3 z4 z5 z6 z7 z8)
def m68_3 (pu:PureF) (n:Nat) (ih0:Sl→Int→Int→Int→Int→Int→Int→Int→Int→OV) (s0:Sl) (z1 z2:Int) (b0:Bool) (z3 z4 z5 z6 z7 z8 z9 z10:Int):OV:=
 (bb b0 (m68_2 pu n ih0 s0 z1 z2 z3 z4 z5 z6 z9 z10) (m68_2 pu n ih0 s0 z1 z2 z3 z4 z5 z6 z7 z8))
def b68_1 (pu:PureF) (n:Nat) (ih0:Sl→Int→Int→Int→Int→Int→Int→Int→Int→OV) (s0:Sl) (z1 z2 z3 z4 z5 z6 z7 z8:Int):OV:=
 (bb (ilt z2 z1) (oo (toN z2) none fun k1=>(bb (an (Nat.blt k1 (Sl.n s0)) true) (oo (nthL (Sl.cs s0) (k1*1)) none fun v0=>(oo (toI .i64 v0) none fun x0=>(oo (pu 62 [(.agg ⟨[.int .i64 z3,.int .u32 z4]⟩),(.int .i64 (wrapF .i64 (Int.sub (.ofNat 0) x0)))]) none fun v1=>(oo (toI .i64 v1) none fun x1=>(oo (pu 65 [(.agg ⟨[.int .i64 z3,.int .u32 z4]⟩),.int .i64 x1]) none fun v2=>(oo (vAgg v2) none fun l0=>(ll l0 none fun v3 l0=>(ll l0 none fun v4 l0=>(ll l0 (oo (toI .i64 v3) none fun x2=>(oo (toI .u32 v4) none fun x3=>(bb (ieq (aand .u32 z8 (1:Int)) (0:Int)) (m68_3 pu n ih0 s0 z1 (Int.ofNat k1) true z3 z4 z5 z6 z7 z8 x2 x3) (oo (pu 80 [(.agg ⟨[.int .i64 x2,.int .u32 x3]⟩)]) none fun v5=>(oo (toSl 1 v5) none fun s1=>(oo (pu 80 [(.agg ⟨[.int .i64 z7,.int .u32 z8]⟩)]) none fun v6=>(oo (toSl 1 v6) none fun s2=>(oo (pu 52 [Sl.v 1 s1,Sl.v 1 s2]) none fun v7=>(oo (toI .i64 v7) none fun x4=>(m68_3 pu n ih0 s0 z1 (Int.ofNat k1) (ilt x4 (0:Int)) z3 z4 z5 z6 z7 z8 x2 x3)))))))))) fun _ _=>none))))))))) none)) (m68_0 pu n z5 z6 z7 z8))
def l68_1 (pu:PureF) (n w:Nat):Sl→Int→Int→Int→Int→Int→Int→Int→Int→OV:=
 Nat.rec (motive:=fun _=>Sl→Int→Int→Int→Int→Int→Int→Int→Int→OV) (fun _ _ _ _ _ _ _ _ _=>none) (fun _ ih0=>b68_1 pu n ih0) w
def m68_ (pu:PureF) (n:Nat) (x0 x1:Int):OV:=
 (oo (pu 80 [(.agg ⟨[.int .i64 x0,.int .u32 x1]⟩)]) none fun v0=>(oo (toSl 1 v0) none fun s0=>(l68_1 pu n n s0 (Int.ofNat (Sl.n s0)) (0:Int) x0 x1 (0:Int) (0:Int) x0 x1)))
def m68 (pu:PureF) (n:Nat) (args:LV):OV:=
 (ll args none fun a0 args=>(ll args (oo (vAgg a0) none fun l0=>(ll l0 none fun v0 l0=>(ll l0 none fun v1 l0=>(ll l0 (oo (toI .i64 v0) none fun x0=>(oo (toI .u32 v1) none fun x1=>(m68_ pu n x0 x1))) fun _ _=>none)))) fun _ _=>none))
theorem w68_0 (pu:PureF) (n:Nat) (z1 z2 z3 z4:Int) {v:Value} (hm:m68_0 pu n z1 z2 z3 z4=some v):Run tt (callP tabs isP pu (inl pu)) 0 c68_22 (fr 36 [(2,(pt 0 0)),(3,pt 1 0)]) (hp 2 [(oC [zI z1,.int .u32 z2]),(oC [zI z3,.int .u32 z4])]) (Fin tt 0 [.cell 2 92] v):=by
 unfold m68_0 at hm
 refine .then (.rK (.ghs (fr 36 [(2,(pt 0 0))]) (hp 1 [(oC [zI z3,.int .u32 z4])]) (.k0 [] [.tmp 2 false] [2]) ?_))
 refine .ret ?_
 exact fin_rt (.agg ⟨[zI z3,.int .u32 z4]⟩) hm
theorem r68 {call:CallF} (pu:PureF) (n:Nat) (hcall:call=callP tabs isP pu (inl pu)) {args:LV} {v:Value} (hm:m68 pu n args=some v) (_:∀ x∈args,closed2 x=true):args.length≤36∧Run tt call 0 c68_25 (Fr.made 36 args) (pureHeap tabs) (Fin tt 0 [.cell 2 92] v):=by
 subst hcall
 unfold m68 at hm
 replace hm:=ll_uncons hm;obtain⟨a0,args_0,rfl,hm⟩:=hm
 replace hm:=ll_end hm;obtain⟨rfl,hm⟩:=hm
 replace hm:=inv_vAgg hm;obtain⟨l0,rfl,hm⟩:=hm
 replace hm:=ll_uncons hm;obtain⟨v0,l10648_0,rfl,hm⟩:=hm
 replace hm:=ll_uncons hm;obtain⟨v1,l10648_1,rfl,hm⟩:=hm
 replace hm:=ll_end hm;obtain⟨rfl,hm⟩:=hm
 replace hm:=inv_toI hm;obtain⟨x0,rfl,hm⟩:=hm
 replace hm:=inv_toI hm;obtain⟨x1,rfl,hm⟩:=hm
 unfold m68_ at hm
 refine⟨by simp,?_⟩
 refine .same (F':=(fr 36 [(0,(.agg ⟨[zI x0,.int .u32 x1]⟩))])) (H':=(hp 0 [])) (by kernel_rfl) (by kernel_rfl) ?_
 refine .then (.rK (.ghs (fr 36 [(1,(pt 0 0)),(2,pt 1 0)]) (hp 2 [(oC [zI x0,.int .u32 x1]),(oC [(zI (0:Int)),(.int .u32 (0:Int))])]) (.k0 [] [.tmp 1 false,.tmp 2 false] [1,2]) ?_))
 refine .then (.rK (.ghs (fr 36 [(1,(pt 0 0)),(2,pt 1 0),(3,(pt 2 0))]) (hp 3 [(oC [zI x0,.int .u32 x1]),(oC [(zI (0:Int)),(.int .u32 (0:Int))]),(oC [zI x0,.int .u32 x1])]) (.k0 [] [.tmp 1 false,.tmp 2 false,.tmp 3 false] [1,2,3]) ?_))
 refine .join (v:=v) (fun y:Int×Int×Int×Int=>((fr 36 [(2,(pt 0 0)),(3,pt 1 0)]),(hp 2 [(oC [(zI y.1),(.int .u32 y.2.1)]),(oC [(zI y.2.2.1),(.int .u32 y.2.2.2)])]))) (fun y=>m68_0 pu n y.1 y.2.1 y.2.2.1 y.2.2.2) ?_ ?_
 ·rintro⟨z1,z2,z3,z4⟩ hm
  exact w68_0 pu n z1 z2 z3 z4 hm
 ·refine .then ?_
  replace hm:=oQS hm;obtain⟨s0,h0,hm⟩:=hm
  refine .reg (eC 1 ((oo (pu 80 [(.agg ⟨[zI x0,.int .u32 x1]⟩)]) none fun v=>some (v,(hp 3 [(oC [zI x0,.int .u32 x1]),(oC [(zI (0:Int)),(.int .u32 (0:Int))]),(oC [zI x0,.int .u32 x1])])))) (call_eq h0) (eE)) ?_
  refine .ghs (fr 36 [(1,(pt 0 0)),(2,pt 1 0),(3,(pt 2 0)),(9,Sl.v 1 s0),(10,(zI (Int.ofNat (Sl.n s0)))),(11,(zI (0:Int)))]) (hp 3 [(oC [zI x0,.int .u32 x1]),(oC [(zI (0:Int)),(.int .u32 (0:Int))]),(oC [zI x0,.int .u32 x1])]) (.k0 [] [.tmp 1 false,.tmp 2 false,.tmp 3 false] [1,2,3,9,10,11]) ?_
  refine .block (.loopM (v:=v) (fun y:Sl×Int×Int×Int×Int×Int×Int×Int×Int=>((fr 36 [(1,(pt 0 0)),(2,pt 1 0),(3,(pt 2 0)),(9,(Sl.v 1 y.1)),(10,(zI y.2.1)),(11,(zI y.2.2.1))]),(hp 3 [(oC [(zI y.2.2.2.1),(.int .u32 y.2.2.2.2.1)]),(oC [(zI y.2.2.2.2.2.1),(.int .u32 y.2.2.2.2.2.2.1)]),(oC [(zI y.2.2.2.2.2.2.2.1),(.int .u32 y.2.2.2.2.2.2.2.2)])]))) (fun w y=>l68_1 pu n w y.1 y.2.1 y.2.2.1 y.2.2.2.1 y.2.2.2.2.1 y.2.2.2.2.2.1 y.2.2.2.2.2.2.1 y.2.2.2.2.2.2.2.1 y.2.2.2.2.2.2.2.2) n ⟨(s0,(Int.ofNat (Sl.n s0)),(0:Int),x0,x1,(0:Int),(0:Int),x0,x1),hm,(.k0 [] [.tmp 1 false,.tmp 2 false,.tmp 3 false] [1,2,3,9,10,11])⟩ (fun _=>rfl) ?_)
  rintro w0 ⟨s1,z5,z6,z7,z8,z9,z10,z11,z12⟩ hm
  replace hm:b68_1 pu n (l68_1 pu n w0) s1 z5 z6 z7 z8 z9 z10 z11 z12=some v:=hm
  unfold b68_1 at hm
  refine .then (.rK (.ghs (fr 36 [(1,(pt 0 0)),(2,pt 1 0),(3,(pt 2 0)),(9,Sl.v 1 s1),(10,zI z5),(11,zI z6),(12,(zB (ilt z6 z5)))]) (hp 3 [(oC [zI z7,.int .u32 z8]),(oC [zI z9,.int .u32 z10]),(oC [zI z11,.int .u32 z12])]) (.k0 [] [.tmp 1 false,.tmp 2 false,.tmp 3 false] [1,2,3,9,10,11,12]) ?_))
  refine .then ?_
  replace hm:=bb_cases hm;rcases hm with⟨h1,hm⟩ | ⟨h1,hm⟩
  ·refine ifTt (ilt z6 z5) h1 ?_
   refine .skip (.ghs (fr 36 [(1,(pt 0 0)),(2,pt 1 0),(3,(pt 2 0)),(9,Sl.v 1 s1),(10,zI z5),(11,zI z6)]) (hp 3 [(oC [zI z7,.int .u32 z8]),(oC [zI z9,.int .u32 z10]),(oC [zI z11,.int .u32 z12])]) (.k0 [] [.tmp 1 false,.tmp 2 false,.tmp 3 false] [1,2,3,9,10,11]) ?_)
   refine .join (v:=v) (fun y:Sl×Int×Int×Int×Int×Int×Int×Int×Int=>((fr 36 [(1,(pt 0 0)),(2,pt 1 0),(3,(pt 2 0)),(9,(Sl.v 1 y.1)),(10,(zI y.2.1)),(11,(zI y.2.2.1))]),(hp 3 [(oC [(zI y.2.2.2.1),(.int .u32 y.2.2.2.2.1)]),(oC [(zI y.2.2.2.2.2.1),(.int .u32 y.2.2.2.2.2.2.1)]),(oC [(zI y.2.2.2.2.2.2.2.1),(.int .u32 y.2.2.2.2.2.2.2.2)])]))) (fun y=>m68_2 pu n (l68_1 pu n w0) y.1 y.2.1 y.2.2.1 y.2.2.2.1 y.2.2.2.2.1 y.2.2.2.2.2.1 y.2.2.2.2.2.2.1 y.2.2.2.2.2.2.2.1 y.2.2.2.2.2.2.2.2) ?_ ?_
   ·rintro⟨s2,z13,z14,z15,z16,z17,z18,z19,z20⟩ hm
    unfold m68_2 at hm
    refine .rK ?_
    exact⟨(s2,z13,(wrapF .i64 (Int.add z14 (1:Int))),z15,z16,z17,z18,z19,z20),hm,(.k0 [] [.tmp 1 false,.tmp 2 false,.tmp 3 false] [1,2,3,9,10,11])⟩
   ·refine .block (.then ?_)
    replace hm:=oo_inv hm;obtain⟨k1,h2,hm⟩:=hm
    obtain rfl:=toN_some h2
    replace hm:=bb_inv hm;obtain⟨h3,hm⟩:=hm
    replace hm:=oQI hm;obtain⟨x2,h4,hm⟩:=hm
    refine .reg (eD (keep (hp 3 [(oC [zI z7,.int .u32 z8]),(oC [zI z9,.int .u32 z10]),(oC [zI z11,.int .u32 z12])]) (bb (an (Nat.blt k1 (Sl.n s1)) true) (some (fpV (k1*1) (Sl.cs s1))) none)) (keep_bb h3) (eD (keep (hp 3 [(oC [zI z7,.int .u32 z8]),(oC [zI z9,.int .u32 z10]),(oC [zI z11,.int .u32 z12])]) (nthL (Sl.cs s1) (k1*1))) (keep_eq h4) (eE))) ?_
    refine .ghs (fr 36 [(1,(pt 0 0)),(2,pt 1 0),(3,(pt 2 0)),(5,zI x2),(9,Sl.v 1 s1),(10,zI z5),(11,(zI (Int.ofNat k1)))]) (hp 3 [(oC [zI z7,.int .u32 z8]),(oC [zI z9,.int .u32 z10]),(oC [zI z11,.int .u32 z12])]) (.k0 [] [.tmp 1 false,.tmp 2 false,.tmp 3 false] [1,2,3,5,9,10,11]) ?_
    refine .then ?_
    replace hm:=oQI hm;obtain⟨x3,h5,hm⟩:=hm
    replace hm:=oo_inv hm;obtain⟨v2,h6,hm⟩:=hm
    replace hm:=inv_vAgg hm;obtain⟨l1,rfl,hm⟩:=hm
    replace hm:=ll_uncons hm;obtain⟨v3,l11839_0,rfl,hm⟩:=hm
    replace hm:=ll_uncons hm;obtain⟨v4,l11839_1,rfl,hm⟩:=hm
    replace hm:=ll_end hm;obtain⟨rfl,hm⟩:=hm
    replace hm:=inv_toI hm;obtain⟨x4,rfl,hm⟩:=hm
    replace hm:=inv_toI hm;obtain⟨x5,rfl,hm⟩:=hm
    refine .reg (eC 5 ((oo (pu 62 [(.agg ⟨[zI z7,.int .u32 z8]⟩),(zI (wrapF .i64 (Int.sub (.ofNat 0) x2)))]) none fun v=>some (v,(hp 4 [(oC [zI z7,.int .u32 z8]),(oC [zI z9,.int .u32 z10]),(oC [zI z11,.int .u32 z12]),(oC [(zI (0:Int)),(.int .u32 (0:Int))])])))) (call_eq h5) (eD ((oo (pu 65 [(.agg ⟨[zI z7,.int .u32 z8]⟩),zI x3]) none fun v=>some (v,(hp 4 [(oC [zI z7,.int .u32 z8]),(oC [zI z9,.int .u32 z10]),(oC [zI z11,.int .u32 z12]),(oC [(zI (0:Int)),(.int .u32 (0:Int))])])))) (call_eq h6) (eE))) ?_
    refine .ghs (fr 36 [(1,(pt 0 0)),(2,pt 1 0),(3,(pt 2 0)),(6,(pt 3 0)),(9,Sl.v 1 s1),(10,zI z5),(11,(zI (Int.ofNat k1)))]) (hp 4 [(oC [zI z7,.int .u32 z8]),(oC [zI z9,.int .u32 z10]),(oC [zI z11,.int .u32 z12]),(oC [zI x4,.int .u32 x5])]) (.k0 [] [.tmp 1 false,.tmp 2 false,.tmp 3 false,.tmp 6 false] [1,2,3,6,9,10,11]) ?_
    refine .join (v:=v) (fun y:Sl×Int×Int×Bool×Int×Int×Int×Int×Int×Int×Int×Int=>((fr 36 [(1,(pt 0 0)),(2,pt 1 0),(3,(pt 2 0)),(6,(pt 3 0)),(9,(Sl.v 1 y.1)),(10,(zI y.2.1)),(11,(zI y.2.2.1)),(32,(zB y.2.2.2.1))]),(hp 4 [(oC [(zI y.2.2.2.2.1),(.int .u32 y.2.2.2.2.2.1)]),(oC [(zI y.2.2.2.2.2.2.1),(.int .u32 y.2.2.2.2.2.2.2.1)]),(oC [(zI y.2.2.2.2.2.2.2.2.1),(.int .u32 y.2.2.2.2.2.2.2.2.2.1)]),(oC [(zI y.2.2.2.2.2.2.2.2.2.2.1),(.int .u32 y.2.2.2.2.2.2.2.2.2.2.2)])]))) (fun y=>m68_3 pu n (l68_1 pu n w0) y.1 y.2.1 y.2.2.1 y.2.2.2.1 y.2.2.2.2.1 y.2.2.2.2.2.1 y.2.2.2.2.2.2.1 y.2.2.2.2.2.2.2.1 y.2.2.2.2.2.2.2.2.1 y.2.2.2.2.2.2.2.2.2.1 y.2.2.2.2.2.2.2.2.2.2.1 y.2.2.2.2.2.2.2.2.2.2.2) ?_ ?_
    ·rintro⟨s3,z21,z22,b0,z23,z24,z25,z26,z27,z28,z29,z30⟩ hm
     unfold m68_3 at hm
     replace hm:=bb_cases hm;rcases hm with⟨h7,hm⟩ | ⟨h7,hm⟩
     ·refine .ifT b0 (by kernel_rfl) h7 ?_
      refine .rK ?_
      exact⟨(s3,z21,z22,z23,z24,z25,z26,z29,z30),hm,(.k0 [] [.tmp 1 false,.tmp 2 false,.tmp 3 false] [1,2,3,9,10,11])⟩
     ·refine .ifF b0 (by kernel_rfl) h7 ?_
      refine .skip ?_
      exact⟨(s3,z21,z22,z23,z24,z25,z26,z27,z28),hm,(.k0 [] [.tmp 1 false,.tmp 2 false,.tmp 3 false] [1,2,3,9,10,11])⟩
    ·replace hm:=bb_cases hm;rcases hm with⟨h8,hm⟩ | ⟨h8,hm⟩
     ·refine .reg (eC 3 (some ((zB (ieq (aand .u32 z12 (1:Int)) (0:Int))),(hp 4 [(oC [zI z7,.int .u32 z8]),(oC [zI z9,.int .u32 z10]),(oC [zI z11,.int .u32 z12]),(oC [zI x4,.int .u32 x5])]))) (show _=some ((zB true),_) from (by rw[show (ieq (aand .u32 z12 (1:Int)) (0:Int))=true from h8])) (eE)) ?_
      exact⟨(s1,z5,(Int.ofNat k1),true,z7,z8,z9,z10,z11,z12,x4,x5),hm,(.k0 [] [.tmp 1 false,.tmp 2 false,.tmp 3 false,.tmp 6 false] [1,2,3,6,9,10,11,32])⟩
     ·replace hm:=oQS hm;obtain⟨s4,h9,hm⟩:=hm
      replace hm:=oQS hm;obtain⟨s5,h10,hm⟩:=hm
      replace hm:=oQI hm;obtain⟨x6,h11,hm⟩:=hm
      refine .reg (eC 3 (some ((zB (ieq (aand .u32 z12 (1:Int)) (0:Int))),(hp 4 [(oC [zI z7,.int .u32 z8]),(oC [zI z9,.int .u32 z10]),(oC [zI z11,.int .u32 z12]),(oC [zI x4,.int .u32 x5])]))) (show _=some ((zB false),_) from (by rw[show (ieq (aand .u32 z12 (1:Int)) (0:Int))=false from h8])) (eC 3 ((oo (pu 80 [(.agg ⟨[zI x4,.int .u32 x5]⟩)]) none fun v=>some (v,(hp 4 [(oC [zI z7,.int .u32 z8]),(oC [zI z9,.int .u32 z10]),(oC [zI z11,.int .u32 z12]),(oC [zI x4,.int .u32 x5])])))) (call_eq h9) (eD ((oo (pu 80 [(.agg ⟨[zI z11,.int .u32 z12]⟩)]) none fun v=>some (v,(hp 4 [(oC [zI z7,.int .u32 z8]),(oC [zI z9,.int .u32 z10]),(oC [zI z11,.int .u32 z12]),(oC [zI x4,.int .u32 x5])])))) (call_eq h10) (eD ((oo (pu 52 [Sl.v 1 s4,Sl.v 1 s5]) none fun v=>some (v,(hp 4 [(oC [zI z7,.int .u32 z8]),(oC [zI z9,.int .u32 z10]),(oC [zI z11,.int .u32 z12]),(oC [zI x4,.int .u32 x5])])))) (call_eq h11) (eE))))) ?_
      exact⟨(s1,z5,(Int.ofNat k1),(ilt x6 (0:Int)),z7,z8,z9,z10,z11,z12,x4,x5),hm,(.k0 [] [.tmp 1 false,.tmp 2 false,.tmp 3 false,.tmp 6 false] [1,2,3,6,9,10,11,32])⟩
  ·refine ifFt (ilt z6 z5) h1 ?_
   refine .exit ?_
   exact⟨(z9,z10,z11,z12),hm,(.k0 [] [.tmp 2 false,.tmp 3 false] [2,3])⟩

def m82_ (pu:PureF) (n:Nat) (x0 x1:Int):OV:=
 (oo (pu 76 [(.agg ⟨[.int .i64 x0,.int .u32 x1]⟩)]) none fun v0=>(oo (toI .i64 v0) none fun x2=>(some (.bool (ieq x2 (0:Int))))))
def m82 (pu:PureF) (n:Nat) (args:LV):OV:=
 (ll args none fun a0 args=>(ll args (oo (vAgg a0) none fun l0=>(ll l0 none fun v0 l0=>(ll l0 none fun v1 l0=>(ll l0 (oo (toI .i64 v0) none fun x0=>(oo (toI .u32 v1) none fun x1=>(m82_ pu n x0 x1))) fun _ _=>none)))) fun _ _=>none))
theorem r82 {call:CallF} (pu:PureF) (n:Nat) (hcall:call=callP tabs isP pu (inl pu)) {args:LV} {v:Value} (hm:m82 pu n args=some v) (_:∀ x∈args,closed2 x=true):args.length≤6∧Run tt call 0 c82_3 (Fr.made 6 args) (pureHeap tabs) (Fin tt 0 [.tmp 2] v):=by
 subst hcall
 unfold m82 at hm
 replace hm:=ll_uncons hm;obtain⟨a0,args_0,rfl,hm⟩:=hm
 replace hm:=ll_end hm;obtain⟨rfl,hm⟩:=hm
 replace hm:=inv_vAgg hm;obtain⟨l0,rfl,hm⟩:=hm
 replace hm:=ll_uncons hm;obtain⟨v0,l11938_0,rfl,hm⟩:=hm
 replace hm:=ll_uncons hm;obtain⟨v1,l11938_1,rfl,hm⟩:=hm
 replace hm:=ll_end hm;obtain⟨rfl,hm⟩:=hm
 replace hm:=inv_toI hm;obtain⟨x0,rfl,hm⟩:=hm
 replace hm:=inv_toI hm;obtain⟨x1,rfl,hm⟩:=hm
 unfold m82_ at hm
 refine⟨by simp,?_⟩
 refine .same (F':=(fr 6 [(0,(.agg ⟨[zI x0,.int .u32 x1]⟩))])) (H':=(hp 0 [])) (by kernel_rfl) (by kernel_rfl) ?_
 refine .then (.rK (.ghs (fr 6 [(1,(pt 0 0))]) (hp 1 [(oC [zI x0,.int .u32 x1])]) (.k0 [] [.tmp 1 false] [1]) ?_))
 refine .then ?_
 replace hm:=oQI hm;obtain⟨x2,h0,hm⟩:=hm
 refine .reg (eC 1 ((oo (pu 76 [(.agg ⟨[zI x0,.int .u32 x1]⟩)]) none fun v=>some (v,(hp 1 [(oC [zI x0,.int .u32 x1])])))) (call_eq h0) (eE)) ?_
 refine .ghs (fr 6 [(2,(zB (ieq x2 (0:Int))))]) (hp 0 []) (.k0 [] [] [2]) ?_
 refine .ret ?_
 exact fin_rt (zB (ieq x2 (0:Int))) hm
def m88_0 (pu:PureF) (n:Nat):OV:=
 (some (.bool true))
def b88_1 (pu:PureF) (n:Nat) (ih0:Sl→Sl→Int→Int→OV) (s0 s1:Sl) (z1 z2:Int):OV:=
 (bb (ilt z2 z1) (oo (toN z2) none fun k1=>(bb (an (Nat.blt k1 (Sl.n s0)) true) (oo (nthL (Sl.cs s0) (k1*1)) none fun v0=>(oo (toI .i64 v0) none fun x0=>(bb (an (Nat.blt k1 (Sl.n s1)) true) (oo (nthL (Sl.cs s1) (k1*1)) none fun v1=>(oo (toI .i64 v1) none fun x1=>(bb (nt (ieq x0 x1)) (some (.bool false)) (ih0 s0 s1 z1 (wrapF .i64 (Int.add (Int.ofNat k1) (1:Int))))))) none))) none)) (m88_0 pu n))
def l88_1 (pu:PureF) (n w:Nat):Sl→Sl→Int→Int→OV:=
 Nat.rec (motive:=fun _=>Sl→Sl→Int→Int→OV) (fun _ _ _ _=>none) (fun _ ih0=>b88_1 pu n ih0) w
def m88_ (pu:PureF) (n:Nat) (s0 s1:Sl):OV:=
 (bb (nt (ieq (Int.ofNat (Sl.n s0)) (Int.ofNat (Sl.n s1)))) (some (.bool false)) (l88_1 pu n n s0 s1 (Int.ofNat (Sl.n s0)) (0:Int)))
def m88 (pu:PureF) (n:Nat) (args:LV):OV:=
 (ll args none fun a0 args=>(ll args none fun a1 args=>(ll args (oo (toSl 1 a0) none fun s0=>(oo (toSl 1 a1) none fun s1=>(m88_ pu n s0 s1))) fun _ _=>none)))
theorem w88_0 (pu:PureF) (n:Nat) {v:Value} (hm:m88_0 pu n=some v):Run tt (callP tabs isP pu (inl pu)) 0 c88_25 (fr 26 []) (hp 0 []) (Fin tt 0 [.tmp 4] v):=by
 unfold m88_0 at hm
 refine .then (.rK (.ghs (fr 26 [(4,zB true)]) (hp 0 []) (.k0 [] [] [4]) ?_))
 refine .ret ?_
 exact fin_rt (zB true) hm
theorem r88 {call:CallF} (pu:PureF) (n:Nat) (hcall:call=callP tabs isP pu (inl pu)) {args:LV} {v:Value} (hm:m88 pu n args=some v) (_:∀ x∈args,closed2 x=true):args.length≤26∧Run tt call 0 c88_28 (Fr.made 26 args) (pureHeap tabs) (Fin tt 0 [.tmp 4] v):=by
 subst hcall
 unfold m88 at hm
 replace hm:=ll_uncons hm;obtain⟨a0,args_0,rfl,hm⟩:=hm
 replace hm:=ll_uncons hm;obtain⟨a1,args_1,rfl,hm⟩:=hm
 replace hm:=ll_end hm;obtain⟨rfl,hm⟩:=hm
 replace hm:=inv_toSl hm;obtain⟨s0,rfl,hm⟩:=hm
 replace hm:=inv_toSl hm;obtain⟨s1,rfl,hm⟩:=hm
 unfold m88_ at hm
 refine⟨by simp,?_⟩
 refine .same (F':=(fr 26 [(0,Sl.v 1 s0),(1,Sl.v 1 s1)])) (H':=(hp 0 [])) (by kernel_rfl) (by kernel_rfl) ?_
 refine .then (.rK (.ghs (fr 26 [(0,Sl.v 1 s0),(1,Sl.v 1 s1)]) (hp 0 []) (.k0 [] [] [0,1]) ?_))
 refine .then (.then (.rK (.ghs (fr 26 [(0,Sl.v 1 s0),(1,Sl.v 1 s1),(10,(zB (nt (ieq (Int.ofNat (Sl.n s0)) (Int.ofNat (Sl.n s1))))))]) (hp 0 []) (.k0 [] [] [0,1,10]) ?_)))
 replace hm:=bb_cases hm;rcases hm with⟨h0,hm⟩ | ⟨h0,hm⟩
 ·refine ifTt (nt (ieq (Int.ofNat (Sl.n s0)) (Int.ofNat (Sl.n s1)))) h0 ?_
  refine .then (.rK (.ghs (fr 26 [(4,zB false)]) (hp 0 []) (.k0 [] [] [4]) ?_))
  refine .ret ?_
  exact fin_rt (zB false) hm
 ·refine ifFt (nt (ieq (Int.ofNat (Sl.n s0)) (Int.ofNat (Sl.n s1)))) h0 ?_
  refine .skip (.ghs (fr 26 [(0,Sl.v 1 s0),(1,Sl.v 1 s1)]) (hp 0 []) (.k0 [] [] [0,1]) ?_)
  refine .join (v:=v) (fun y:Unit=>((fr 26 []),(hp 0 []))) (fun y=>m88_0 pu n) ?_ ?_
  ·rintro _ hm
   exact w88_0 pu n hm
  ·refine .then (.rK (.ghs (fr 26 [(0,Sl.v 1 s0),(1,Sl.v 1 s1),(12,(zI (Int.ofNat (Sl.n s0)))),(13,(zI (0:Int)))]) (hp 0 []) (.k0 [] [] [0,1,12,13]) ?_))
   refine .block (.loopM (v:=v) (fun y:Sl×Sl×Int×Int=>((fr 26 [(0,(Sl.v 1 y.1)),(1,(Sl.v 1 y.2.1)),(12,(zI y.2.2.1)),(13,(zI y.2.2.2))]),(hp 0 []))) (fun w y=>l88_1 pu n w y.1 y.2.1 y.2.2.1 y.2.2.2) n ⟨(s0,s1,(Int.ofNat (Sl.n s0)),(0:Int)),hm,(.k0 [] [] [0,1,12,13])⟩ (fun _=>rfl) ?_)
   rintro w0 ⟨s2,s3,z1,z2⟩ hm
   replace hm:b88_1 pu n (l88_1 pu n w0) s2 s3 z1 z2=some v:=hm
   unfold b88_1 at hm
   refine .then (.rK (.ghs (fr 26 [(0,Sl.v 1 s2),(1,Sl.v 1 s3),(12,zI z1),(13,zI z2),(14,(zB (ilt z2 z1)))]) (hp 0 []) (.k0 [] [] [0,1,12,13,14]) ?_))
   refine .then ?_
   replace hm:=bb_cases hm;rcases hm with⟨h1,hm⟩ | ⟨h1,hm⟩
   ·refine ifTt (ilt z2 z1) h1 ?_
    refine .skip (.ghs (fr 26 [(0,Sl.v 1 s2),(1,Sl.v 1 s3),(12,zI z1),(13,zI z2)]) (hp 0 []) (.k0 [] [] [0,1,12,13]) ?_)
    refine .then (.block (.then (.rK (.ghs (fr 26 [(0,Sl.v 1 s2),(1,Sl.v 1 s3),(5,zI z2),(12,zI z1),(13,zI z2)]) (hp 0 []) (.k0 [] [] [0,1,5,12,13]) ?_))))
    refine .then ?_
    replace hm:=oo_inv hm;obtain⟨k1,h2,hm⟩:=hm
    obtain rfl:=toN_some h2
    replace hm:=bb_inv hm;obtain⟨h3,hm⟩:=hm
    replace hm:=oQI hm;obtain⟨x0,h4,hm⟩:=hm
    replace hm:=bb_inv hm;obtain⟨h5,hm⟩:=hm
    replace hm:=oQI hm;obtain⟨x1,h6,hm⟩:=hm
    refine .reg (eC 2 (keep (hp 0 []) (bb (an (Nat.blt k1 (Sl.n s2)) true) (some (fpV (k1*1) (Sl.cs s2))) none)) (keep_bb h3) (eD (keep (hp 0 []) (nthL (Sl.cs s2) (k1*1))) (keep_eq h4) (eC 2 (keep (hp 0 []) (bb (an (Nat.blt k1 (Sl.n s3)) true) (some (fpV (k1*1) (Sl.cs s3))) none)) (keep_bb h5) (eD (keep (hp 0 []) (nthL (Sl.cs s3) (k1*1))) (keep_eq h6) (eE))))) ?_
    refine .ghs (fr 26 [(0,Sl.v 1 s2),(1,Sl.v 1 s3),(12,zI z1),(13,(zI (Int.ofNat k1))),(24,(zB (nt (ieq x0 x1))))]) (hp 0 []) (.k0 [] [] [0,1,12,13,24]) ?_
    replace hm:=bb_cases hm;rcases hm with⟨h7,hm⟩ | ⟨h7,hm⟩
    ·refine ifTt (nt (ieq x0 x1)) h7 ?_
     refine .then (.rK (.ghs (fr 26 [(4,zB false)]) (hp 0 []) (.k0 [] [] [4]) ?_))
     refine .ret ?_
     exact fin_rt (zB false) hm
    ·refine ifFt (nt (ieq x0 x1)) h7 ?_
     refine .skip (.ghs (fr 26 [(0,Sl.v 1 s2),(1,Sl.v 1 s3),(12,zI z1),(13,(zI (Int.ofNat k1)))]) (hp 0 []) (.k0 [] [] [0,1,12,13]) ?_)
     refine .rK ?_
     exact⟨(s2,s3,z1,(wrapF .i64 (Int.add (Int.ofNat k1) (1:Int)))),hm,(.k0 [] [] [0,1,12,13])⟩
   ·refine ifFt (ilt z2 z1) h1 ?_
    refine .exit ?_
    exact⟨(),hm,(.k0 [] [] [])⟩

def m92_ (pu:PureF) (n:Nat) (x0 x1:Int):OV:=
 (oo (pu 98 [.int .i64 x0]) none fun v0=>(oo (vBool v0) none fun b0=>(oo (pu 98 [.int .i64 x1]) none fun v1=>(oo (vBool v1) none fun b1=>(bb b0 (bb b1 (some (.int .i64 (0:Int))) (some (.int .i64 (-1:Int)))) (bb b1 (some (.int .i64 (1:Int))) (bb (ilt x0 x1) (some (.int .i64 (-1:Int))) (bb (ilt x1 x0) (some (.int .i64 (1:Int))) (some (.int .i64 (0:Int)))))))))))
def m92 (pu:PureF) (n:Nat) (args:LV):OV:=
 (ll args none fun a0 args=>(ll args none fun a1 args=>(ll args (oo (toI .i64 a0) none fun x0=>(oo (toI .i64 a1) none fun x1=>(m92_ pu n x0 x1))) fun _ _=>none)))
theorem r92 {call:CallF} (pu:PureF) (n:Nat) (hcall:call=callP tabs isP pu (inl pu)) {args:LV} {v:Value} (hm:m92 pu n args=some v) (_:∀ x∈args,closed2 x=true):args.length≤20∧Run tt call 0 c92_37 (Fr.made 20 args) (pureHeap tabs) (Fin tt 0 [.tmp 4] v):=by
 subst hcall
 unfold m92 at hm
 replace hm:=ll_uncons hm;obtain⟨a0,args_0,rfl,hm⟩:=hm
 replace hm:=ll_uncons hm;obtain⟨a1,args_1,rfl,hm⟩:=hm
 replace hm:=ll_end hm;obtain⟨rfl,hm⟩:=hm
 replace hm:=inv_toI hm;obtain⟨x0,rfl,hm⟩:=hm
 replace hm:=inv_toI hm;obtain⟨x1,rfl,hm⟩:=hm
 unfold m92_ at hm
 refine⟨by simp,?_⟩
 refine .same (F':=(fr 20 [(0,zI x0),(1,zI x1)])) (H':=(hp 0 [])) (by kernel_rfl) (by kernel_rfl) ?_
 refine .then (.rK (.ghs (fr 20 [(0,zI x0),(1,zI x1)]) (hp 0 []) (.k0 [] [] [0,1]) ?_))
 refine .then ?_
 replace hm:=oQB hm;obtain⟨b0,h0,hm⟩:=hm
 refine .reg (eC 1 ((oo (pu 98 [zI x0]) none fun v=>some (v,(hp 0 [])))) (call_eq h0) (eE)) ?_
 refine .ghs (fr 20 [(0,zI x0),(1,zI x1),(5,zB b0)]) (hp 0 []) (.k0 [] [] [0,1,5]) ?_
 refine .then ?_
 replace hm:=oQB hm;obtain⟨b1,h1,hm⟩:=hm
 refine .reg (eC 1 ((oo (pu 98 [zI x1]) none fun v=>some (v,(hp 0 [])))) (call_eq h1) (eE)) ?_
 refine .ghs (fr 20 [(0,zI x0),(1,zI x1),(5,zB b0),(6,zB b1)]) (hp 0 []) (.k0 [] [] [0,1,5,6]) ?_
 refine .then (.then (.rK (.ghs (fr 20 [(0,zI x0),(1,zI x1),(6,zB b1),(11,zB b0)]) (hp 0 []) (.k0 [] [] [0,1,6,11]) ?_)))
 replace hm:=bb_cases hm;rcases hm with⟨h2,hm⟩ | ⟨h2,hm⟩
 ·refine .ifT b0 (by kernel_rfl) h2 ?_
  refine .then (.then (.rK (.ghs (fr 20 [(12,zB b1)]) (hp 0 []) (.k0 [] [] [12]) ?_)))
  replace hm:=bb_cases hm;rcases hm with⟨h3,hm⟩ | ⟨h3,hm⟩
  ·refine .ifT b1 (by kernel_rfl) h3 ?_
   refine .then (.rK (.ghs (fr 20 [(4,(zI (0:Int)))]) (hp 0 []) (.k0 [] [] [4]) ?_))
   refine .ret ?_
   exact fin_rt (zI (0:Int)) hm
  ·refine .ifF b1 (by kernel_rfl) h3 ?_
   refine .skip (.ghs (fr 20 []) (hp 0 []) (.k0 [] [] []) ?_)
   refine .then (.rK (.ghs (fr 20 [(4,(zI (-1:Int)))]) (hp 0 []) (.k0 [] [] [4]) ?_))
   refine .ret ?_
   exact fin_rt (zI (-1:Int)) hm
 ·refine .ifF b0 (by kernel_rfl) h2 ?_
  refine .skip (.ghs (fr 20 [(0,zI x0),(1,zI x1),(6,zB b1)]) (hp 0 []) (.k0 [] [] [0,1,6]) ?_)
  refine .then (.then (.rK (.ghs (fr 20 [(0,zI x0),(1,zI x1),(13,zB b1)]) (hp 0 []) (.k0 [] [] [0,1,13]) ?_)))
  replace hm:=bb_cases hm;rcases hm with⟨h4,hm⟩ | ⟨h4,hm⟩
  ·refine .ifT b1 (by kernel_rfl) h4 ?_
   refine .then (.rK (.ghs (fr 20 [(4,(zI (1:Int)))]) (hp 0 []) (.k0 [] [] [4]) ?_))
   refine .ret ?_
   exact fin_rt (zI (1:Int)) hm
  ·refine .ifF b1 (by kernel_rfl) h4 ?_
   refine .skip (.ghs (fr 20 [(0,zI x0),(1,zI x1)]) (hp 0 []) (.k0 [] [] [0,1]) ?_)
   refine .then (.then (.rK (.ghs (fr 20 [(0,zI x0),(1,zI x1),(16,(zB (ilt x0 x1)))]) (hp 0 []) (.k0 [] [] [0,1,16]) ?_)))
   replace hm:=bb_cases hm;rcases hm with⟨h5,hm⟩ | ⟨h5,hm⟩
   ·refine ifTt (ilt x0 x1) h5 ?_
    refine .then (.rK (.ghs (fr 20 [(4,(zI (-1:Int)))]) (hp 0 []) (.k0 [] [] [4]) ?_))
    refine .ret ?_
    exact fin_rt (zI (-1:Int)) hm
   ·refine ifFt (ilt x0 x1) h5 ?_
    refine .skip (.ghs (fr 20 [(0,zI x0),(1,zI x1)]) (hp 0 []) (.k0 [] [] [0,1]) ?_)
    refine .then (.then (.rK (.ghs (fr 20 [(19,(zB (ilt x1 x0)))]) (hp 0 []) (.k0 [] [] [19]) ?_)))
    replace hm:=bb_cases hm;rcases hm with⟨h6,hm⟩ | ⟨h6,hm⟩
    ·refine ifTt (ilt x1 x0) h6 ?_
     refine .then (.rK (.ghs (fr 20 [(4,(zI (1:Int)))]) (hp 0 []) (.k0 [] [] [4]) ?_))
     refine .ret ?_
     exact fin_rt (zI (1:Int)) hm
    ·refine ifFt (ilt x1 x0) h6 ?_
     refine .skip (.ghs (fr 20 []) (hp 0 []) (.k0 [] [] []) ?_)
     refine .then (.rK (.ghs (fr 20 [(4,(zI (0:Int)))]) (hp 0 []) (.k0 [] [] [4]) ?_))
     refine .ret ?_
     exact fin_rt (zI (0:Int)) hm

def m95_ (pu:PureF) (n:Nat) (x0:Int):OV:=
 (oo (pu 108 [.int .u64 x0]) none fun v0=>(oo (toI .i64 v0) none fun x1=>(some (.int .i64 x1))))
def m95 (pu:PureF) (n:Nat) (args:LV):OV:=
 (ll args none fun a0 args=>(ll args (oo (toI .u64 a0) none fun x0=>(m95_ pu n x0)) fun _ _=>none))
theorem r95 {call:CallF} (pu:PureF) (n:Nat) (hcall:call=callP tabs isP pu (inl pu)) {args:LV} {v:Value} (hm:m95 pu n args=some v) (_:∀ x∈args,closed2 x=true):args.length≤8∧Run tt call 0 c95_7 (Fr.made 8 args) (pureHeap tabs) (Fin tt 0 [.tmp 2] v):=by
 subst hcall
 unfold m95 at hm
 replace hm:=ll_uncons hm;obtain⟨a0,args_0,rfl,hm⟩:=hm
 replace hm:=ll_end hm;obtain⟨rfl,hm⟩:=hm
 replace hm:=inv_toI hm;obtain⟨x0,rfl,hm⟩:=hm
 unfold m95_ at hm
 refine⟨by simp,?_⟩
 refine .same (F':=(fr 8 [(0,(zU x0))])) (H':=(hp 0 [])) (by kernel_rfl) (by kernel_rfl) ?_
 refine .then (.rK (.ghs (fr 8 [(0,(zU x0))]) (hp 0 []) (.k0 [] [] [0]) ?_))
 refine .then (.condF (by kernel_rfl) ?_)
 refine .skip (.ghs (fr 8 [(0,(zU x0))]) (hp 0 []) (.k0 [] [] [0]) ?_)
 refine .then ?_
 replace hm:=oQI hm;obtain⟨x1,h0,hm⟩:=hm
 refine .reg (eC 1 ((oo (pu 108 [(zU x0)]) none fun v=>some (v,(hp 0 [])))) (call_eq h0) (eE)) ?_
 refine .ghs (fr 8 [(2,zI x1)]) (hp 0 []) (.k0 [] [] [2]) ?_
 refine .ret ?_
 exact fin_rt (zI x1) hm
def m96_0 (pu:PureF) (n:Nat) (z1 z2 z3 z4:Int):OV:=
 (some (.agg ⟨[.int .i64 z3,.int .u32 z4]⟩))
def b96_1 (pu:PureF) (n:Nat) (ih0:Sl→Int→Int→Int→Int→Int→Int→OV) (s0:Sl) (z1 z2 z3 z4 z5 z6:Int):OV:=
 (bb (ilt z2 z1) (oo (toN z2) none fun k1=>(bb (an (Nat.blt k1 (Sl.n s0)) true) (oo (nthL (Sl.cs s0) (k1*1)) none fun v0=>(oo (toI .i64 v0) none fun x0=>(oo (toN x0) none fun k2=>(ih0 s0 z1 (wrapF .i64 (Int.add (Int.ofNat k1) (1:Int))) z3 z4 z5 (aor .u32 z6 (shlI .u32 (1:Int) k2)))))) none)) (m96_0 pu n z3 z4 z5 z6))
def l96_1 (pu:PureF) (n w:Nat):Sl→Int→Int→Int→Int→Int→Int→OV:=
 Nat.rec (motive:=fun _=>Sl→Int→Int→Int→Int→Int→Int→OV) (fun _ _ _ _ _ _ _=>none) (fun _ ih0=>b96_1 pu n ih0) w
def m96_ (pu:PureF) (n:Nat) (x0:Int) (s0:Sl):OV:=
 (l96_1 pu n n s0 (Int.ofNat (Sl.n s0)) (0:Int) (0:Int) (0:Int) x0 (0:Int))
def m96 (pu:PureF) (n:Nat) (args:LV):OV:=
 (ll args none fun a0 args=>(ll args none fun a1 args=>(ll args (oo (toI .i64 a0) none fun x0=>(oo (toSl 1 a1) none fun s0=>(m96_ pu n x0 s0))) fun _ _=>none)))
theorem w96_0 (pu:PureF) (n:Nat) (z1 z2 z3 z4:Int) {v:Value} (hm:m96_0 pu n z1 z2 z3 z4=some v):Run tt (callP tabs isP pu (inl pu)) 0 c96_17 (fr 24 [(4,(pt 0 0)),(5,pt 1 0)]) (hp 2 [(oC [zI z1,.int .u32 z2]),(oC [zI z3,.int .u32 z4])]) (Fin tt 0 [.cell 4 92] v):=by
 unfold m96_0 at hm
 refine .then (.rK (.ghs (fr 24 [(4,(pt 0 0))]) (hp 1 [(oC [zI z3,.int .u32 z4])]) (.k0 [] [.tmp 4 false] [4]) ?_))
 refine .ret ?_
 exact fin_rt (.agg ⟨[zI z3,.int .u32 z4]⟩) hm
theorem r96 {call:CallF} (pu:PureF) (n:Nat) (hcall:call=callP tabs isP pu (inl pu)) {args:LV} {v:Value} (hm:m96 pu n args=some v) (_:∀ x∈args,closed2 x=true):args.length≤24∧Run tt call 0 c96_20 (Fr.made 24 args) (pureHeap tabs) (Fin tt 0 [.cell 4 92] v):=by
 subst hcall
 unfold m96 at hm
 replace hm:=ll_uncons hm;obtain⟨a0,args_0,rfl,hm⟩:=hm
 replace hm:=ll_uncons hm;obtain⟨a1,args_1,rfl,hm⟩:=hm
 replace hm:=ll_end hm;obtain⟨rfl,hm⟩:=hm
 replace hm:=inv_toI hm;obtain⟨x0,rfl,hm⟩:=hm
 replace hm:=inv_toSl hm;obtain⟨s0,rfl,hm⟩:=hm
 unfold m96_ at hm
 refine⟨by simp,?_⟩
 refine .same (F':=(fr 24 [(0,zI x0),(1,Sl.v 1 s0)])) (H':=(hp 0 [])) (by kernel_rfl) (by kernel_rfl) ?_
 refine .then (.rK (.ghs (fr 24 [(0,zI x0),(1,Sl.v 1 s0),(4,(pt 0 0))]) (hp 1 [(oC [(zI (0:Int)),(.int .u32 (0:Int))])]) (.k0 [] [.tmp 4 false] [0,1,4]) ?_))
 refine .then (.rK (.ghs (fr 24 [(1,Sl.v 1 s0),(4,(pt 0 0)),(5,pt 1 0)]) (hp 2 [(oC [(zI (0:Int)),(.int .u32 (0:Int))]),(oC [zI x0,(.int .u32 (0:Int))])]) (.k0 [] [.tmp 4 false,.tmp 5 false] [1,4,5]) ?_))
 refine .join (v:=v) (fun y:Int×Int×Int×Int=>((fr 24 [(4,(pt 0 0)),(5,pt 1 0)]),(hp 2 [(oC [(zI y.1),(.int .u32 y.2.1)]),(oC [(zI y.2.2.1),(.int .u32 y.2.2.2)])]))) (fun y=>m96_0 pu n y.1 y.2.1 y.2.2.1 y.2.2.2) ?_ ?_
 ·rintro⟨z1,z2,z3,z4⟩ hm
  exact w96_0 pu n z1 z2 z3 z4 hm
 ·refine .then (.rK (.ghs (fr 24 [(4,(pt 0 0)),(5,pt 1 0),(10,Sl.v 1 s0),(11,(zI (Int.ofNat (Sl.n s0)))),(12,(zI (0:Int)))]) (hp 2 [(oC [(zI (0:Int)),(.int .u32 (0:Int))]),(oC [zI x0,(.int .u32 (0:Int))])]) (.k0 [] [.tmp 4 false,.tmp 5 false] [4,5,10,11,12]) ?_))
  refine .block (.loopM (v:=v) (fun y:Sl×Int×Int×Int×Int×Int×Int=>((fr 24 [(4,(pt 0 0)),(5,pt 1 0),(10,(Sl.v 1 y.1)),(11,(zI y.2.1)),(12,(zI y.2.2.1))]),(hp 2 [(oC [(zI y.2.2.2.1),(.int .u32 y.2.2.2.2.1)]),(oC [(zI y.2.2.2.2.2.1),(.int .u32 y.2.2.2.2.2.2)])]))) (fun w y=>l96_1 pu n w y.1 y.2.1 y.2.2.1 y.2.2.2.1 y.2.2.2.2.1 y.2.2.2.2.2.1 y.2.2.2.2.2.2) n ⟨(s0,(Int.ofNat (Sl.n s0)),(0:Int),(0:Int),(0:Int),x0,(0:Int)),hm,(.k0 [] [.tmp 4 false,.tmp 5 false] [4,5,10,11,12])⟩ (fun _=>rfl) ?_)
  rintro w0 ⟨s1,z5,z6,z7,z8,z9,z10⟩ hm
  replace hm:b96_1 pu n (l96_1 pu n w0) s1 z5 z6 z7 z8 z9 z10=some v:=hm
  unfold b96_1 at hm
  refine .then (.rK (.ghs (fr 24 [(4,(pt 0 0)),(5,pt 1 0),(10,Sl.v 1 s1),(11,zI z5),(12,zI z6),(13,(zB (ilt z6 z5)))]) (hp 2 [(oC [zI z7,.int .u32 z8]),(oC [zI z9,.int .u32 z10])]) (.k0 [] [.tmp 4 false,.tmp 5 false] [4,5,10,11,12,13]) ?_))
  refine .then ?_
  replace hm:=bb_cases hm;rcases hm with⟨h0,hm⟩ | ⟨h0,hm⟩
  ·refine ifTt (ilt z6 z5) h0 ?_
   refine .skip (.ghs (fr 24 [(4,(pt 0 0)),(5,pt 1 0),(10,Sl.v 1 s1),(11,zI z5),(12,zI z6)]) (hp 2 [(oC [zI z7,.int .u32 z8]),(oC [zI z9,.int .u32 z10])]) (.k0 [] [.tmp 4 false,.tmp 5 false] [4,5,10,11,12]) ?_)
   refine .then (.block (.then ?_))
   replace hm:=oo_inv hm;obtain⟨k1,h1,hm⟩:=hm
   obtain rfl:=toN_some h1
   replace hm:=bb_inv hm;obtain⟨h2,hm⟩:=hm
   replace hm:=oQI hm;obtain⟨x1,h3,hm⟩:=hm
   refine .reg (eD (keep (hp 2 [(oC [zI z7,.int .u32 z8]),(oC [zI z9,.int .u32 z10])]) (bb (an (Nat.blt k1 (Sl.n s1)) true) (some (fpV (k1*1) (Sl.cs s1))) none)) (keep_bb h2) (eD (keep (hp 2 [(oC [zI z7,.int .u32 z8]),(oC [zI z9,.int .u32 z10])]) (nthL (Sl.cs s1) (k1*1))) (keep_eq h3) (eE))) ?_
   refine .ghs (fr 24 [(4,(pt 0 0)),(5,pt 1 0),(7,zI x1),(10,Sl.v 1 s1),(11,zI z5),(12,(zI (Int.ofNat k1)))]) (hp 2 [(oC [zI z7,.int .u32 z8]),(oC [zI z9,.int .u32 z10])]) (.k0 [] [.tmp 4 false,.tmp 5 false] [4,5,7,10,11,12]) ?_
   replace hm:=oo_inv hm;obtain⟨k2,h4,hm⟩:=hm
   obtain rfl:=toN_some h4
   refine .rK (.ghs (fr 24 [(4,(pt 0 0)),(5,pt 1 0),(10,Sl.v 1 s1),(11,zI z5),(12,(zI (Int.ofNat k1)))]) (hp 2 [(oC [zI z7,.int .u32 z8]),(oC [zI z9,(.int .u32 (aor .u32 z10 (shlI .u32 (1:Int) k2)))])]) (.k0 [] [.tmp 4 false,.tmp 5 false] [4,5,10,11,12]) ?_)
   refine .rK ?_
   exact⟨(s1,z5,(wrapF .i64 (Int.add (Int.ofNat k1) (1:Int))),z7,z8,z9,(aor .u32 z10 (shlI .u32 (1:Int) k2))),hm,(.k0 [] [.tmp 4 false,.tmp 5 false] [4,5,10,11,12])⟩
  ·refine ifFt (ilt z6 z5) h0 ?_
   refine .exit ?_
   exact⟨(z7,z8,z9,z10),hm,(.k0 [] [.tmp 4 false,.tmp 5 false] [4,5])⟩

def m98_ (pu:PureF) (n:Nat) (x0:Int):OV:=
 (some (.bool (nt (ieq x0 x0))))
def m98 (pu:PureF) (n:Nat) (args:LV):OV:=
 (ll args none fun a0 args=>(ll args (oo (toI .i64 a0) none fun x0=>(m98_ pu n x0)) fun _ _=>none))
theorem r98 {call:CallF} (pu:PureF) (n:Nat) (hcall:call=callP tabs isP pu (inl pu)) {args:LV} {v:Value} (hm:m98 pu n args=some v) (_:∀ x∈args,closed2 x=true):args.length≤6∧Run tt call 0 c98_3 (Fr.made 6 args) (pureHeap tabs) (Fin tt 0 [.tmp 2] v):=by
 subst hcall
 unfold m98 at hm
 replace hm:=ll_uncons hm;obtain⟨a0,args_0,rfl,hm⟩:=hm
 replace hm:=ll_end hm;obtain⟨rfl,hm⟩:=hm
 replace hm:=inv_toI hm;obtain⟨x0,rfl,hm⟩:=hm
 unfold m98_ at hm
 refine⟨by simp,?_⟩
 refine .same (F':=(fr 6 [(0,zI x0)])) (H':=(hp 0 [])) (by kernel_rfl) (by kernel_rfl) ?_
 refine .then (.rK (.ghs (fr 6 [(0,zI x0)]) (hp 0 []) (.k0 [] [] [0]) ?_))
 refine .then (.rK (.ghs (fr 6 [(2,(zB (nt (ieq x0 x0))))]) (hp 0 []) (.k0 [] [] [2]) ?_))
 refine .ret ?_
 exact fin_rt (zB (nt (ieq x0 x0))) hm
def m108_2 (pu:PureF) (n:Nat) (z1 z2:Int):OV:=
 (oo (toN (wrapF .u8 z1)) none fun k1=>(oo (str1[k1]?) none fun c0=>(some (.int .i64 (wrapF .i64 (Int.add z2 (wrapF .i64 (Int.ofNat (UInt8.toNat c0)))))))))
def m108_1 (pu:PureF) (n:Nat) (z1 z2:Int):OV:=
 (bb (nt (ilt z1 (256:Int))) (m108_2 pu n (shrI .u64 z1 8) (wrapF .i64 (Int.add z2 (8:Int)))) (m108_2 pu n z1 z2))
def m108_0 (pu:PureF) (n:Nat) (z1 z2:Int):OV:=
 (bb (nt (ilt z1 (65536:Int))) (m108_1 pu n (shrI .u64 z1 16) (wrapF .i64 (Int.add z2 (16:Int)))) (m108_1 pu n z1 z2))
def m108_ (pu:PureF) (n:Nat) (x0:Int):OV:=
 (bb (nt (ilt x0 (4294967296:Int))) (m108_0 pu n (shrI .u64 x0 32) (32:Int)) (m108_0 pu n x0 (0:Int)))
def m108 (pu:PureF) (n:Nat) (args:LV):OV:=
 (ll args none fun a0 args=>(ll args (oo (toI .u64 a0) none fun x0=>(m108_ pu n x0)) fun _ _=>none))
theorem w108_2 (pu:PureF) (n:Nat) (z1 z2:Int) {v:Value} (hm:m108_2 pu n z1 z2=some v):Run tt (callP tabs isP pu (inl pu)) 0 c108_20 (fr 25 [(0,(zU z1)),(2,zI z2)]) (hp 0 []) (Fin tt 0 [.tmp 2] v):=by
 unfold m108_2 at hm
 refine .then ?_
 replace hm:=oo_inv hm;obtain⟨k1,h0,hm⟩:=hm
 replace hm:=oo_inv hm;obtain⟨c0,h1,hm⟩:=hm
 refine .reg (eC 2 (some ((zY (wrapF .u8 z1)),(hp 0 []))) (show _=some ((zY (Int.ofNat k1)),_) from (by rw[toN_some h0])) (eD (keep (hp 0 []) (oo (str1[k1]?) none fun b=>iv .u8 (.ofNat b.toNat))) (ix_eq h1) (eE))) ?_
 refine .ghs (fr 25 [(2,(zI (wrapF .i64 (Int.add z2 (wrapF .i64 (Int.ofNat (UInt8.toNat c0)))))))]) (hp 0 []) (.k0 [] [] [2]) ?_
 refine .ret ?_
 exact fin_rt (zI (wrapF .i64 (Int.add z2 (wrapF .i64 (Int.ofNat (UInt8.toNat c0)))))) hm
theorem w108_1 (pu:PureF) (n:Nat) (z1 z2:Int) {v:Value} (hm:m108_1 pu n z1 z2=some v):Run tt (callP tabs isP pu (inl pu)) 0 c108_21 (fr 25 [(0,(zU z1)),(2,zI z2)]) (hp 0 []) (Fin tt 0 [.tmp 2] v):=by
 unfold m108_1 at hm
 refine .join (v:=v) (fun y:Int×Int=>((fr 25 [(0,(zU y.1)),(2,(zI y.2))]),(hp 0 []))) (fun y=>m108_2 pu n y.1 y.2) ?_ ?_
 ·rintro⟨z3,z4⟩ hm
  exact w108_2 pu n z3 z4 hm
 ·refine .then (.rK (.ghs (fr 25 [(0,(zU z1)),(2,zI z2),(14,(zB (nt (ilt z1 (256:Int)))))]) (hp 0 []) (.k0 [] [] [0,2,14]) ?_))
  replace hm:=bb_cases hm;rcases hm with⟨h0,hm⟩ | ⟨h0,hm⟩
  ·refine ifTt (nt (ilt z1 (256:Int))) h0 ?_
   refine .then (.rK (.ghs (fr 25 [(0,(zU (shrI .u64 z1 8))),(2,zI z2)]) (hp 0 []) (.k0 [] [] [0,2]) ?_))
   refine .rK ?_
   exact⟨((shrI .u64 z1 8),(wrapF .i64 (Int.add z2 (8:Int)))),hm,(.k0 [] [] [0,2])⟩
  ·refine ifFt (nt (ilt z1 (256:Int))) h0 ?_
   refine .skip ?_
   exact⟨(z1,z2),hm,(.k0 [] [] [0,2])⟩
theorem w108_0 (pu:PureF) (n:Nat) (z1 z2:Int) {v:Value} (hm:m108_0 pu n z1 z2=some v):Run tt (callP tabs isP pu (inl pu)) 0 c108_22 (fr 25 [(0,(zU z1)),(2,zI z2)]) (hp 0 []) (Fin tt 0 [.tmp 2] v):=by
 unfold m108_0 at hm
 refine .join (v:=v) (fun y:Int×Int=>((fr 25 [(0,(zU y.1)),(2,(zI y.2))]),(hp 0 []))) (fun y=>m108_1 pu n y.1 y.2) ?_ ?_
 ·rintro⟨z3,z4⟩ hm
  exact w108_1 pu n z3 z4 hm
 ·refine .then (.rK (.ghs (fr 25 [(0,(zU z1)),(2,zI z2),(8,(zB (nt (ilt z1 (65536:Int)))))]) (hp 0 []) (.k0 [] [] [0,2,8]) ?_))
  replace hm:=bb_cases hm;rcases hm with⟨h0,hm⟩ | ⟨h0,hm⟩
  ·refine ifTt (nt (ilt z1 (65536:Int))) h0 ?_
   refine .then (.rK (.ghs (fr 25 [(0,(zU (shrI .u64 z1 16))),(2,zI z2)]) (hp 0 []) (.k0 [] [] [0,2]) ?_))
   refine .rK ?_
   exact⟨((shrI .u64 z1 16),(wrapF .i64 (Int.add z2 (16:Int)))),hm,(.k0 [] [] [0,2])⟩
  ·refine ifFt (nt (ilt z1 (65536:Int))) h0 ?_
   refine .skip ?_
   exact⟨(z1,z2),hm,(.k0 [] [] [0,2])⟩
theorem r108 {call:CallF} (pu:PureF) (n:Nat) (hcall:call=callP tabs isP pu (inl pu)) {args:LV} {v:Value} (hm:m108 pu n args=some v) (_:∀ x∈args,closed2 x=true):args.length≤25∧Run tt call 0 c108_24 (Fr.made 25 args) (pureHeap tabs) (Fin tt 0 [.tmp 2] v):=by
 subst hcall
 unfold m108 at hm
 replace hm:=ll_uncons hm;obtain⟨a0,args_0,rfl,hm⟩:=hm
 replace hm:=ll_end hm;obtain⟨rfl,hm⟩:=hm
 replace hm:=inv_toI hm;obtain⟨x0,rfl,hm⟩:=hm
 unfold m108_ at hm
 refine⟨by simp,?_⟩
 refine .same (F':=(fr 25 [(0,(zU x0))])) (H':=(hp 0 [])) (by kernel_rfl) (by kernel_rfl) ?_
 refine .then (.rK (.ghs (fr 25 [(0,(zU x0)),(2,(zI (0:Int)))]) (hp 0 []) (.k0 [] [] [0,2]) ?_))
 refine .join (v:=v) (fun y:Int×Int=>((fr 25 [(0,(zU y.1)),(2,(zI y.2))]),(hp 0 []))) (fun y=>m108_0 pu n y.1 y.2) ?_ ?_
 ·rintro⟨z1,z2⟩ hm
  exact w108_0 pu n z1 z2 hm
 ·refine .then (.rK (.ghs (fr 25 [(0,(zU x0)),(2,(zI (0:Int))),(4,(zB (nt (ilt x0 (4294967296:Int)))))]) (hp 0 []) (.k0 [] [] [0,2,4]) ?_))
  replace hm:=bb_cases hm;rcases hm with⟨h0,hm⟩ | ⟨h0,hm⟩
  ·refine ifTt (nt (ilt x0 (4294967296:Int))) h0 ?_
   refine .then (.rK (.ghs (fr 25 [(0,(zU (shrI .u64 x0 32)))]) (hp 0 []) (.k0 [] [] [0]) ?_))
   refine .rK ?_
   exact⟨((shrI .u64 x0 32),(32:Int)),hm,(.k0 [] [] [0,2])⟩
  ·refine ifFt (nt (ilt x0 (4294967296:Int))) h0 ?_
   refine .skip ?_
   exact⟨(x0,(0:Int)),hm,(.k0 [] [] [0,2])⟩
def m10860_0 (pu:PureF) (n:Nat) (e0:List Ent) (k1:Nat):OV:=
 (bb (allL entClosed e0) (some (.tuple ⟨[(.map (some 0)),(encO (.map e0 k1))]⟩)) none)
def m10860_2 (pu:PureF) (n:Nat) (ih0:Sl→Sl→Int→Int→Int→Int→List Ent→Nat→OV) (s0 s1:Sl) (z1 z2 z3 z4:Int) (e0:List Ent) (k1:Nat):OV:=
 (bb (allL entClosed e0) (ih0 s0 s1 z1 (wrapF .i64 (Int.add z2 (1:Int))) z3 z4 e0 k1) none)
def m10860_4 (pu:PureF) (n:Nat) (ih0:Sl→Sl→Int→Int→Int→Int→List Ent→Nat→OV) (ih1:Sl→Int→Sl→Int→Int→Sl→Int→Int→Int→Int→List Ent→Nat→OV) (s0:Sl) (z1:Int) (s1:Sl) (z2 z3:Int) (s2:Sl) (z4 z5 z6 z7:Int) (e0:List Ent) (k1:Nat):OV:=
 (bb (allL entClosed e0) (ih1 s0 z1 s1 z2 z3 s2 z4 (wrapF .i64 (Int.add z5 (1:Int))) z6 z7 e0 k1) none)
def b10860_3 (pu:PureF) (n:Nat) (ih0:Sl→Sl→Int→Int→Int→Int→List Ent→Nat→OV) (ih1:Sl→Int→Sl→Int→Int→Sl→Int→Int→Int→Int→List Ent→Nat→OV) (s0:Sl) (z1:Int) (s1:Sl) (z2 z3:Int) (s2:Sl) (z4 z5 z6 z7:Int) (e0:List Ent) (k1:Nat):OV:=
 (bb (allL entClosed e0) (bb (ilt z5 z4) (oo (toN z5) none fun k2=>(bb (an (Nat.blt k2 (Sl.n s2)) true) (oo (nthL (Sl.cs s2) (k2*1)) none fun v0=>(oo (toI .i64 v0) none fun x0=>(bb (nt (ieq z1 x0)) (oo (pu 62 [(.agg ⟨[.int .i64 z6,.int .u32 z7]⟩),(.int .i64 (wrapF .i64 (Int.sub x0 z1)))]) none fun v1=>(oo (toI .i64 v1) none fun x1=>(oo (findE (.int .i64 x1) e0 0) none fun r0=>(oo (toI .i64 (getE r0 (.int .i64 (0:Int)))) none fun x2=>(oo (findE (.int .i64 x1) e0 0) none fun r1=>(bb (allL entClosed (updE (.int .i64 x1) (.int .i64 (wrapF .i64 (Int.add x2 (1:Int)))) k1 e0 r1)) (m10860_4 pu n ih0 ih1 s0 z1 s1 z2 z3 s2 z4 (Int.ofNat k2) z6 z7 (updE (.int .i64 x1) (.int .i64 (wrapF .i64 (Int.add x2 (1:Int)))) k1 e0 r1) (updC k1 r1)) none)))))) (m10860_4 pu n ih0 ih1 s0 z1 s1 z2 z3 s2 z4 (Int.ofNat k2) z6 z7 e0 k1)))) none)) (m10860_2 pu n ih0 s0 s1 z2 z3 z6 z7 e0 k1)) none)
def l10860_3 (pu:PureF) (n:Nat) (ih0:Sl→Sl→Int→Int→Int→Int→List Ent→Nat→OV) (w:Nat):Sl→Int→Sl→Int→Int→Sl→Int→Int→Int→Int→List Ent→Nat→OV:=
 Nat.rec (motive:=fun _=>Sl→Int→Sl→Int→Int→Sl→Int→Int→Int→Int→List Ent→Nat→OV) (fun _ _ _ _ _ _ _ _ _ _ _ _=>none) (fun _ ih1=>b10860_3 pu n ih0 ih1) w
def b10860_1 (pu:PureF) (n:Nat) (ih0:Sl→Sl→Int→Int→Int→Int→List Ent→Nat→OV) (s0 s1:Sl) (z1 z2 z3 z4:Int) (e0:List Ent) (k1:Nat):OV:=
 (bb (allL entClosed e0) (bb (ilt z2 z1) (oo (toN z2) none fun k2=>(bb (an (Nat.blt k2 (Sl.n s1)) true) (oo (nthL (Sl.cs s1) (k2*1)) none fun v0=>(oo (toI .i64 v0) none fun x0=>(l10860_3 pu n ih0 n s0 x0 s1 z1 (Int.ofNat k2) s0 (Int.ofNat (Sl.n s0)) (0:Int) z3 z4 e0 k1))) none)) (m10860_0 pu n e0 k1)) none)
def l10860_1 (pu:PureF) (n w:Nat):Sl→Sl→Int→Int→Int→Int→List Ent→Nat→OV:=
 Nat.rec (motive:=fun _=>Sl→Sl→Int→Int→Int→Int→List Ent→Nat→OV) (fun _ _ _ _ _ _ _ _=>none) (fun _ ih0=>b10860_1 pu n ih0) w
def m10860_ (pu:PureF) (n:Nat) (z1 z2:Int):OV:=
 (bb (allL entClosed ([]:List Ent)) (oo (pu 80 [(.agg ⟨[.int .i64 z1,.int .u32 z2]⟩)]) none fun v0=>(oo (toSl 1 v0) none fun s0=>(l10860_1 pu n n s0 s0 (Int.ofNat (Sl.n s0)) (0:Int) z1 z2 ([]:List Ent) 0))) none)
def m10860 (pu:PureF) (n:Nat) (args:LV):OV:=
 (ll args none fun a0 args=>(ll args (oo (vAgg a0) none fun l0=>(ll l0 none fun v0 l0=>(ll l0 none fun v1 l0=>(ll l0 (oo (toI .i64 v0) none fun x0=>(oo (toI .u32 v1) none fun x1=>(m10860_ pu n x0 x1))) fun _ _=>none)))) fun _ _=>none))
theorem w10860_0 (pu:PureF) (n:Nat) (e0:List Ent) (k1:Nat) {v:Value} (hm:m10860_0 pu n e0 k1=some v):Run tt (callP tabs isP pu (inl pu)) 0 c86_34 (fr 38 [(3,(.map (some 0)))]) (hp 1 [(.map e0 k1)]) (FinO tt 0 0 [.tmp 2] v):=by
 unfold m10860_0 at hm
 refine .then (.rK ?_)
 replace hm:=bb_inv hm;obtain⟨h0,hm⟩:=hm
 refine .ghs (fr 38 [(2,(.map (some 0)))]) (hp 1 [(.map e0 k1)]) (.k [0] [] [.tmp 2 false] [2] ⟨trF h0,trivial⟩) ?_
 refine .ghs (fr 38 [(2,(.map (some 0)))]) (hp 1 [(.map e0 k1)]) (.k [0] [] [.tmp 2 false] [2] ⟨trF h0,trivial⟩) ?_
 refine .ret ?_
 exact finO_ret (.map (some 0)) [(.map e0 k1)] (by kernel_rfl) hm (Nat.le_of_ble_eq_true rfl) (ooAt_cons (pO_m _ _) ooAt_nil)
theorem q10860 (pu:PureF) (n:Nat) (z1 z2:Int) {v:Value} (hm:m10860_ pu n z1 z2=some v):Run tt (callP tabs isP pu (inl pu)) 0 c86_38 (fr 38 [(0,(.agg ⟨[zI z1,.int .u32 z2]⟩))]) (hp 0 []) (FinO tt 0 0 [.tmp 2] v):=by
 unfold m10860_ at hm
 refine .then (.rK (.ghs (fr 38 [(1,(pt 0 0))]) (hp 1 [(oC [zI z1,.int .u32 z2])]) (.k0 [] [.tmp 1 false] [1]) ?_))
 refine .then (.rK ?_)
 replace hm:=bb_inv hm;obtain⟨h0,hm⟩:=hm
 refine .ghs (fr 38 [(1,(pt 0 0)),(3,(.map (some 1)))]) (hp 2 [(oC [zI z1,.int .u32 z2]),(.map ([]:List Ent) 0)]) (.k [1] [] [.tmp 1 false,.tmp 3 false] [1,3] ⟨trF h0,trivial⟩) ?_
 refine .then ?_
 replace hm:=oQS hm;obtain⟨s0,h1,hm⟩:=hm
 refine .reg (eC 1 ((oo (pu 80 [(.agg ⟨[zI z1,.int .u32 z2]⟩)]) none fun v=>some (v,(hp 2 [(oC [zI z1,.int .u32 z2]),(.map ([]:List Ent) 0)])))) (call_eq h1) (eE)) ?_
 refine .ghs (fr 38 [(1,(pt 0 0)),(3,(.map (some 1))),(4,Sl.v 1 s0)]) (hp 2 [(oC [zI z1,.int .u32 z2]),(.map ([]:List Ent) 0)]) (.k [1] [] [.tmp 1 false,.tmp 3 false] [1,3,4] ⟨trF h0,trivial⟩) ?_
 refine .join (v:=v) (fun y:List Ent×Nat=>((fr 38 [(3,(.map (some 0)))]),(hp 1 [(.map y.1 y.2)]))) (fun y=>m10860_0 pu n y.1 y.2) ?_ ?_
 ·rintro⟨e0,k1⟩ hm
  exact w10860_0 pu n e0 k1 hm
 ·refine .then (.rK (.ghs (fr 38 [(1,(pt 0 0)),(3,(.map (some 1))),(4,Sl.v 1 s0),(12,Sl.v 1 s0),(13,(zI (Int.ofNat (Sl.n s0)))),(14,(zI (0:Int)))]) (hp 2 [(oC [zI z1,.int .u32 z2]),(.map ([]:List Ent) 0)]) (.k [1] [] [.tmp 1 false,.tmp 3 false] [1,3,4,12,13,14] ⟨trF h0,trivial⟩) ?_))
  refine .block (.loopM (v:=v) (fun y:Sl×Sl×Int×Int×Int×Int×List Ent×Nat=>((fr 38 [(1,(pt 0 0)),(3,(.map (some 1))),(4,(Sl.v 1 y.1)),(12,(Sl.v 1 y.2.1)),(13,(zI y.2.2.1)),(14,(zI y.2.2.2.1))]),(hp 2 [(oC [(zI y.2.2.2.2.1),(.int .u32 y.2.2.2.2.2.1)]),(.map y.2.2.2.2.2.2.1 y.2.2.2.2.2.2.2)]))) (fun w y=>l10860_1 pu n w y.1 y.2.1 y.2.2.1 y.2.2.2.1 y.2.2.2.2.1 y.2.2.2.2.2.1 y.2.2.2.2.2.2.1 y.2.2.2.2.2.2.2) n ⟨(s0,s0,(Int.ofNat (Sl.n s0)),(0:Int),z1,z2,([]:List Ent),0),hm,(.k [1] [] [.tmp 1 false,.tmp 3 false] [1,3,4,12,13,14] ⟨trF h0,trivial⟩)⟩ (fun _=>rfl) ?_)
  rintro w0 ⟨s1,s2,z3,z4,z5,z6,e1,k2⟩ hm
  replace hm:b10860_1 pu n (l10860_1 pu n w0) s1 s2 z3 z4 z5 z6 e1 k2=some v:=hm
  unfold b10860_1 at hm
  refine .then (.rK ?_)
  replace hm:=bb_inv hm;obtain⟨h2,hm⟩:=hm
  refine .ghs (fr 38 [(1,(pt 0 0)),(3,(.map (some 1))),(4,Sl.v 1 s1),(12,Sl.v 1 s2),(13,zI z3),(14,zI z4),(15,(zB (ilt z4 z3)))]) (hp 2 [(oC [zI z5,.int .u32 z6]),(.map e1 k2)]) (.k [1] [] [.tmp 1 false,.tmp 3 false] [1,3,4,12,13,14,15] ⟨trF h2,trivial⟩) ?_
  refine .then ?_
  replace hm:=bb_cases hm;rcases hm with⟨h3,hm⟩ | ⟨h3,hm⟩
  ·refine ifTt (ilt z4 z3) h3 ?_
   refine .skip (.ghs (fr 38 [(1,(pt 0 0)),(3,(.map (some 1))),(4,Sl.v 1 s1),(12,Sl.v 1 s2),(13,zI z3),(14,zI z4)]) (hp 2 [(oC [zI z5,.int .u32 z6]),(.map e1 k2)]) (.k [1] [] [.tmp 1 false,.tmp 3 false] [1,3,4,12,13,14] ⟨trF h2,trivial⟩) ?_)
   refine .join (v:=v) (fun y:Sl×Sl×Int×Int×Int×Int×List Ent×Nat=>((fr 38 [(1,(pt 0 0)),(3,(.map (some 1))),(4,(Sl.v 1 y.1)),(12,(Sl.v 1 y.2.1)),(13,(zI y.2.2.1)),(14,(zI y.2.2.2.1))]),(hp 2 [(oC [(zI y.2.2.2.2.1),(.int .u32 y.2.2.2.2.2.1)]),(.map y.2.2.2.2.2.2.1 y.2.2.2.2.2.2.2)]))) (fun y=>m10860_2 pu n (l10860_1 pu n w0) y.1 y.2.1 y.2.2.1 y.2.2.2.1 y.2.2.2.2.1 y.2.2.2.2.2.1 y.2.2.2.2.2.2.1 y.2.2.2.2.2.2.2) ?_ ?_
   ·rintro⟨s3,s4,z7,z8,z9,z10,e2,k3⟩ hm
    unfold m10860_2 at hm
    refine .rK ?_
    replace hm:=bb_inv hm;obtain⟨h4,hm⟩:=hm
    exact⟨(s3,s4,z7,(wrapF .i64 (Int.add z8 (1:Int))),z9,z10,e2,k3),hm,(.k [1] [] [.tmp 1 false,.tmp 3 false] [1,3,4,12,13,14] ⟨trF h4,trivial⟩)⟩
   ·refine .block (.then ?_)
    replace hm:=oo_inv hm;obtain⟨k4,h5,hm⟩:=hm
    obtain rfl:=toN_some h5
    replace hm:=bb_inv hm;obtain⟨h6,hm⟩:=hm
    replace hm:=oQI hm;obtain⟨x0,h7,hm⟩:=hm
    refine .reg (eD (keep (hp 2 [(oC [zI z5,.int .u32 z6]),(.map e1 k2)]) (bb (an (Nat.blt k4 (Sl.n s2)) true) (some (fpV (k4*1) (Sl.cs s2))) none)) (keep_bb h6) (eD (keep (hp 2 [(oC [zI z5,.int .u32 z6]),(.map e1 k2)]) (nthL (Sl.cs s2) (k4*1))) (keep_eq h7) (eE))) ?_
    refine .ghs (fr 38 [(1,(pt 0 0)),(3,(.map (some 1))),(4,Sl.v 1 s1),(6,zI x0),(12,Sl.v 1 s2),(13,zI z3),(14,(zI (Int.ofNat k4)))]) (hp 2 [(oC [zI z5,.int .u32 z6]),(.map e1 k2)]) (.k [1] [] [.tmp 1 false,.tmp 3 false] [1,3,4,6,12,13,14] ⟨trF h2,trivial⟩) ?_
    refine .then (.rK (.ghs (fr 38 [(1,(pt 0 0)),(3,(.map (some 1))),(4,Sl.v 1 s1),(6,zI x0),(12,Sl.v 1 s2),(13,zI z3),(14,(zI (Int.ofNat k4))),(18,Sl.v 1 s1),(19,(zI (Int.ofNat (Sl.n s1)))),(20,(zI (0:Int)))]) (hp 2 [(oC [zI z5,.int .u32 z6]),(.map e1 k2)]) (.k [1] [] [.tmp 1 false,.tmp 3 false] [1,3,4,6,12,13,14,18,19,20] ⟨trF h2,trivial⟩) ?_))
    refine .block (.loopM (v:=v) (fun y:Sl×Int×Sl×Int×Int×Sl×Int×Int×Int×Int×List Ent×Nat=>((fr 38 [(1,(pt 0 0)),(3,(.map (some 1))),(4,(Sl.v 1 y.1)),(6,(zI y.2.1)),(12,(Sl.v 1 y.2.2.1)),(13,(zI y.2.2.2.1)),(14,(zI y.2.2.2.2.1)),(18,(Sl.v 1 y.2.2.2.2.2.1)),(19,(zI y.2.2.2.2.2.2.1)),(20,(zI y.2.2.2.2.2.2.2.1))]),(hp 2 [(oC [(zI y.2.2.2.2.2.2.2.2.1),(.int .u32 y.2.2.2.2.2.2.2.2.2.1)]),(.map y.2.2.2.2.2.2.2.2.2.2.1 y.2.2.2.2.2.2.2.2.2.2.2)]))) (fun w y=>l10860_3 pu n (l10860_1 pu n w0) w y.1 y.2.1 y.2.2.1 y.2.2.2.1 y.2.2.2.2.1 y.2.2.2.2.2.1 y.2.2.2.2.2.2.1 y.2.2.2.2.2.2.2.1 y.2.2.2.2.2.2.2.2.1 y.2.2.2.2.2.2.2.2.2.1 y.2.2.2.2.2.2.2.2.2.2.1 y.2.2.2.2.2.2.2.2.2.2.2) n ⟨(s1,x0,s2,z3,(Int.ofNat k4),s1,(Int.ofNat (Sl.n s1)),(0:Int),z5,z6,e1,k2),hm,(.k [1] [] [.tmp 1 false,.tmp 3 false] [1,3,4,6,12,13,14,18,19,20] ⟨trF h2,trivial⟩)⟩ (fun _=>rfl) ?_)
    rintro w1 ⟨s5,z11,s6,z12,z13,s7,z14,z15,z16,z17,e3,k5⟩ hm
    replace hm:b10860_3 pu n (l10860_1 pu n w0) (l10860_3 pu n (l10860_1 pu n w0) w1) s5 z11 s6 z12 z13 s7 z14 z15 z16 z17 e3 k5=some v:=hm
    unfold b10860_3 at hm
    refine .then (.rK ?_)
    replace hm:=bb_inv hm;obtain⟨h8,hm⟩:=hm
    refine .ghs (fr 38 [(1,(pt 0 0)),(3,(.map (some 1))),(4,Sl.v 1 s5),(6,zI z11),(12,Sl.v 1 s6),(13,zI z12),(14,zI z13),(18,Sl.v 1 s7),(19,zI z14),(20,zI z15),(21,(zB (ilt z15 z14)))]) (hp 2 [(oC [zI z16,.int .u32 z17]),(.map e3 k5)]) (.k [1] [] [.tmp 1 false,.tmp 3 false] [1,3,4,6,12,13,14,18,19,20,21] ⟨trF h8,trivial⟩) ?_
    refine .then ?_
    replace hm:=bb_cases hm;rcases hm with⟨h9,hm⟩ | ⟨h9,hm⟩
    ·refine ifTt (ilt z15 z14) h9 ?_
     refine .skip (.ghs (fr 38 [(1,(pt 0 0)),(3,(.map (some 1))),(4,Sl.v 1 s5),(6,zI z11),(12,Sl.v 1 s6),(13,zI z12),(14,zI z13),(18,Sl.v 1 s7),(19,zI z14),(20,zI z15)]) (hp 2 [(oC [zI z16,.int .u32 z17]),(.map e3 k5)]) (.k [1] [] [.tmp 1 false,.tmp 3 false] [1,3,4,6,12,13,14,18,19,20] ⟨trF h8,trivial⟩) ?_)
     refine .join (v:=v) (fun y:Sl×Int×Sl×Int×Int×Sl×Int×Int×Int×Int×List Ent×Nat=>((fr 38 [(1,(pt 0 0)),(3,(.map (some 1))),(4,(Sl.v 1 y.1)),(6,(zI y.2.1)),(12,(Sl.v 1 y.2.2.1)),(13,(zI y.2.2.2.1)),(14,(zI y.2.2.2.2.1)),(18,(Sl.v 1 y.2.2.2.2.2.1)),(19,(zI y.2.2.2.2.2.2.1)),(20,(zI y.2.2.2.2.2.2.2.1))]),(hp 2 [(oC [(zI y.2.2.2.2.2.2.2.2.1),(.int .u32 y.2.2.2.2.2.2.2.2.2.1)]),(.map y.2.2.2.2.2.2.2.2.2.2.1 y.2.2.2.2.2.2.2.2.2.2.2)]))) (fun y=>m10860_4 pu n (l10860_1 pu n w0) (l10860_3 pu n (l10860_1 pu n w0) w1) y.1 y.2.1 y.2.2.1 y.2.2.2.1 y.2.2.2.2.1 y.2.2.2.2.2.1 y.2.2.2.2.2.2.1 y.2.2.2.2.2.2.2.1 y.2.2.2.2.2.2.2.2.1 y.2.2.2.2.2.2.2.2.2.1 y.2.2.2.2.2.2.2.2.2.2.1 y.2.2.2.2.2.2.2.2.2.2.2) ?_ ?_
     ·rintro⟨s8,z18,s9,z19,z20,s10,z21,z22,z23,z24,e4,k6⟩ hm
      unfold m10860_4 at hm
      refine .rK ?_
      replace hm:=bb_inv hm;obtain⟨h10,hm⟩:=hm
      exact⟨(s8,z18,s9,z19,z20,s10,z21,(wrapF .i64 (Int.add z22 (1:Int))),z23,z24,e4,k6),hm,(.k [1] [] [.tmp 1 false,.tmp 3 false] [1,3,4,6,12,13,14,18,19,20] ⟨trF h10,trivial⟩)⟩
     ·refine .block (.then ?_)
      replace hm:=oo_inv hm;obtain⟨k7,h11,hm⟩:=hm
      obtain rfl:=toN_some h11
      replace hm:=bb_inv hm;obtain⟨h12,hm⟩:=hm
      replace hm:=oQI hm;obtain⟨x1,h13,hm⟩:=hm
      refine .reg (eD (keep (hp 2 [(oC [zI z16,.int .u32 z17]),(.map e3 k5)]) (bb (an (Nat.blt k7 (Sl.n s7)) true) (some (fpV (k7*1) (Sl.cs s7))) none)) (keep_bb h12) (eD (keep (hp 2 [(oC [zI z16,.int .u32 z17]),(.map e3 k5)]) (nthL (Sl.cs s7) (k7*1))) (keep_eq h13) (eE))) ?_
      refine .ghs (fr 38 [(1,(pt 0 0)),(3,(.map (some 1))),(4,Sl.v 1 s5),(6,zI z11),(8,zI x1),(12,Sl.v 1 s6),(13,zI z12),(14,zI z13),(18,Sl.v 1 s7),(19,zI z14),(20,(zI (Int.ofNat k7)))]) (hp 2 [(oC [zI z16,.int .u32 z17]),(.map e3 k5)]) (.k [1] [] [.tmp 1 false,.tmp 3 false] [1,3,4,6,8,12,13,14,18,19,20] ⟨trF h8,trivial⟩) ?_
      refine .then (.rK (.ghs (fr 38 [(1,(pt 0 0)),(3,(.map (some 1))),(4,Sl.v 1 s5),(6,zI z11),(8,zI x1),(12,Sl.v 1 s6),(13,zI z12),(14,zI z13),(18,Sl.v 1 s7),(19,zI z14),(20,(zI (Int.ofNat k7))),(26,(zB (nt (ieq z11 x1))))]) (hp 2 [(oC [zI z16,.int .u32 z17]),(.map e3 k5)]) (.k [1] [] [.tmp 1 false,.tmp 3 false] [1,3,4,6,8,12,13,14,18,19,20,26] ⟨trF h8,trivial⟩) ?_))
      replace hm:=bb_cases hm;rcases hm with⟨h14,hm⟩ | ⟨h14,hm⟩
      ·refine ifTt (nt (ieq z11 x1)) h14 ?_
       replace hm:=oQI hm;obtain⟨x2,h15,hm⟩:=hm
       replace hm:=oo_inv hm;obtain⟨r0,h16,hm⟩:=hm
       replace hm:=oo_inv hm;obtain⟨x3,h17,hm⟩:=hm
       replace hm:=oo_inv hm;obtain⟨r1,h18,hm⟩:=hm
       refine .reg (eC 5 ((oo (pu 62 [(.agg ⟨[zI z16,.int .u32 z17]⟩),(zI (wrapF .i64 (Int.sub x1 z11)))]) none fun v=>some (v,(hp 2 [(oC [zI z16,.int .u32 z17]),(.map e3 k5)])))) (call_eq h15) (eD (keep (hp 2 [(oC [zI z16,.int .u32 z17]),(.map e3 k5)]) (oo (findE (zI x2) e3 0) none fun r=>oo r (okV false (zI (0:Int)) false) fun p=>pp p fun _ v=>okV false v true)) (look_vv h16 (toI_some h17)) (eC 1 (done (oo (findE (zI x2) e3 0) none fun r=>oo r (some (AHeap.set (hp 2 [(oC [zI z16,.int .u32 z17]),(.map e3 k5)]) 1 (.map (appL e3 [⟨zI x2,(zI (wrapF .i64 (Int.add x3 (1:Int)))),k5⟩]) (k5+1)))) fun p=>pp p fun j _=>some (AHeap.set (hp 2 [(oC [zI z16,.int .u32 z17]),(.map e3 k5)]) 1 (.map (modL (fun e=>⟨zI x2,(zI (wrapF .i64 (Int.add x3 (1:Int)))),e.born⟩) j e3) k5))) undef) (upd_eq (H2:=(hp 2 [(oC [zI z16,.int .u32 z17]),(.map (updE (zI x2) (zI (wrapF .i64 (Int.add x3 (1:Int)))) k5 e3 r1) (updC k5 r1))])) h18) (eE)))) ?_
       replace hm:=bb_inv hm;obtain⟨h19,hm⟩:=hm
       exact⟨(s5,z11,s6,z12,z13,s7,z14,(Int.ofNat k7),z16,z17,(updE (zI x2) (zI (wrapF .i64 (Int.add x3 (1:Int)))) k5 e3 r1),(updC k5 r1)),hm,(.k [1] [] [.tmp 1 false,.tmp 3 false] [1,3,4,6,12,13,14,18,19,20] ⟨trF h19,trivial⟩)⟩
      ·refine ifFt (nt (ieq z11 x1)) h14 ?_
       refine .skip ?_
       exact⟨(s5,z11,s6,z12,z13,s7,z14,(Int.ofNat k7),z16,z17,e3,k5),hm,(.k [1] [] [.tmp 1 false,.tmp 3 false] [1,3,4,6,12,13,14,18,19,20] ⟨trF h8,trivial⟩)⟩
    ·refine ifFt (ilt z15 z14) h9 ?_
     refine .exit ?_
     exact⟨(s5,s6,z12,z13,z16,z17,e3,k5),hm,(.k [1] [] [.tmp 1 false,.tmp 3 false] [1,3,4,12,13,14] ⟨trF h8,trivial⟩)⟩
  ·refine ifFt (ilt z4 z3) h3 ?_
   refine .exit ?_
   exact⟨(e1,k2),hm,(.k [1] [] [.tmp 3 false] [3] ⟨trF h2,trivial⟩)⟩
theorem r10860 {call:CallF} (pu:PureF) (n:Nat) (hcall:call=callP tabs isP pu (inl pu)) {args:LV} {os:List AObj} {z:Value} (ha:args.length=1) (hk:os.length=0) (hpl:∀ o∈os,plainO o) (hm:m10860 pu n (args++os.map encO)=some z):args.length≤38∧Run tt call (tabs.length+0) c86_38 (Fr.made 38 args) (subHeap tabs os) (FinO tt tabs.length 0 [.tmp 2] z):=by
 subst hcall
 have hq:=len_cons ha;clear ha;obtain⟨a0,args,rfl,ha⟩:=hq
 obtain rfl:=len_nil ha
 obtain rfl:=len_nil hk
 replace hm:m10860 pu n [a0]=some z:=hm
 unfold m10860 at hm
 replace hm:(oo (vAgg a0) none fun l0=>(ll l0 none fun v0 l0=>(ll l0 none fun v1 l0=>(ll l0 (oo (toI .i64 v0) none fun x0=>(oo (toI .u32 v1) none fun x1=>(m10860_ pu n x0 x1))) fun _ _=>none))))=some z:=hm
 replace hm:=inv_vAgg hm;obtain⟨l0,rfl,hm⟩:=hm
 replace hm:=ll_uncons hm;obtain⟨v0,l1618_0,rfl,hm⟩:=hm
 replace hm:=ll_uncons hm;obtain⟨v1,l1618_1,rfl,hm⟩:=hm
 replace hm:=ll_end hm;obtain⟨rfl,hm⟩:=hm
 replace hm:=inv_toI hm;obtain⟨x0,rfl,hm⟩:=hm
 replace hm:=inv_toI hm;obtain⟨x1,rfl,hm⟩:=hm
 refine⟨by simp,?_⟩
 exact .same (F':=(fr 38 [(0,(.agg ⟨[zI x0,.int .u32 x1]⟩))])) (H':=(hp 0 [])) (by kernel_rfl) (by kernel_rfl) (q10860 pu n x0 x1 hm)
end
end Go.RgJM
