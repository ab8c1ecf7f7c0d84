/- Made from wip. -/
import Derived.Test.YtenlanbdolnhhaaRgJMod0x

set_option maxRecDepth 100000
set_option maxHeartbeats 20000000
set_option linter.unusedVariables false
namespace Go.RgJM
open Go.Sp Go.RgJ
noncomputable section

def m47_ (pu:PureF) (n:Nat) (x0 x1:Int):OV:=
 (oo (pu 48 [.int .u32 x1]) none fun v0=>(oo (toSl 1 v0) none fun s0=>(some (.agg ⟨[.int .i64 x0,Sl.v 1 s0]⟩))))
def m47 (pu:PureF) (n:Nat) (args:LV):OV:=
 (ll args none fun a0 args=>(ll args none fun a1 args=>(ll args (oo (toI .i64 a0) none fun x0=>(oo (toI .u32 a1) none fun x1=>(m47_ pu n x0 x1))) fun _ _=>none)))
theorem r47 {call:CallF} (pu:PureF) (n:Nat) (hcall:call=callP tabs isP pu (inl pu)) {args:LV} {v:Value} (hm:m47 pu n args=some v) (_:∀ x∈args,closed2 x=true):args.length≤9∧Run tt call 0 c47_3 (Fr.made 9 args) (pureHeap tabs) (Fin tt 0 [.cell 4 24] v):=by
 subst hcall
 unfold m47 at hm
 replace hm:=ll_uncons hm;obtain⟨a0,args_0,rfl,hm⟩:=hm
 replace hm:=ll_uncons hm;obtain⟨a1,args_1,rfl,hm⟩:=hm
 replace hm:=ll_end hm;obtain⟨rfl,hm⟩:=hm
 replace hm:=inv_toI hm;obtain⟨x0,rfl,hm⟩:=hm
 replace hm:=inv_toI hm;obtain⟨x1,rfl,hm⟩:=hm
 unfold m47_ at hm
 refine⟨by simp,?_⟩
 refine .same (F':=(fr 9 [(0,zI x0),(1,.int .u32 x1)])) (H':=(hp 0 [])) (by kernel_rfl) (by kernel_rfl) ?_
 refine .then (.rK (.ghs (fr 9 [(0,zI x0),(1,.int .u32 x1),(4,(pt 0 0))]) (hp 1 [(oC [(zI (0:Int)),(.slice none 0 0)])]) (.k0 [] [.tmp 4 false] [0,1,4]) ?_))
 refine .then ?_
 replace hm:=oQS hm;obtain⟨s0,h0,hm⟩:=hm
 refine .reg (eC 2 ((oo (pu 48 [.int .u32 x1]) none fun v=>some (v,(hp 1 [(oC [(zI (0:Int)),(.slice none 0 0)])])))) (call_eq h0) (eE)) ?_
 refine .ghs (fr 9 [(4,(pt 0 0))]) (hp 1 [(oC [zI x0,Sl.v 1 s0])]) (.k0 [] [.tmp 4 false] [4]) ?_
 refine .ret ?_
 exact fin_rt (.agg ⟨[zI x0,Sl.v 1 s0]⟩) hm
def m48_0 (pu:PureF) (n n0 c0:Nat) (q1:LV):OV:=
 (bb (allL closed1 q1) (bb (an (Nat.ble (0+n0*1) (len q1)) (allL closed1 (takeL (n0*1) (dropL 0 q1)))) (some (Sl.v 1 (Sl.mk n0 0 (takeL (n0*1) (dropL 0 q1))))) none) none)
def m48_2 (pu:PureF) (n:Nat) (ih0:Int→Nat→Nat→Int→LV→OV) (z1:Int) (n0 c0:Nat) (z2:Int) (q1:LV):OV:=
 (bb (allL closed1 q1) (ih0 z1 n0 c0 (wrapF .i64 (Int.add z2 (1:Int))) q1) none)
def b48_1 (pu:PureF) (n:Nat) (ih0:Int→Nat→Nat→Int→LV→OV) (z1:Int) (n0 c0:Nat) (z2:Int) (q1:LV):OV:=
 (bb (allL closed1 q1) (bb (ilt z2 (21:Int)) (oo (toN z2) none fun k1=>(bb (ieq (aand .u32 (shrI .u32 z1 k1) (1:Int)) (1:Int)) (bb (growC 1 8 n0 c0 1 q1) (bb (allL closed1 (appL (dropL 0 q1) [(.int .i64 (Int.ofNat k1))])) (m48_2 pu n ih0 z1 (n0+1) (2*(n0+1)+bb false 1 0) (Int.ofNat k1) (appL (dropL 0 q1) [(.int .i64 (Int.ofNat k1))])) none) none) (m48_2 pu n ih0 z1 n0 c0 (Int.ofNat k1) q1))) (m48_0 pu n n0 c0 q1)) none)
def l48_1 (pu:PureF) (n w:Nat):Int→Nat→Nat→Int→LV→OV:=
 Nat.rec (motive:=fun _=>Int→Nat→Nat→Int→LV→OV) (fun _ _ _ _ _=>none) (fun _ ih0=>b48_1 pu n ih0) w
def m48_ (pu:PureF) (n:Nat) (x0:Int):OV:=
 (l48_1 pu n n x0 0 0 (0:Int) ([]:LV))
def m48 (pu:PureF) (n:Nat) (args:LV):OV:=
 (ll args none fun a0 args=>(ll args (oo (toI .u32 a0) none fun x0=>(m48_ pu n x0)) fun _ _=>none))
theorem w48_0 (pu:PureF) (n n0 c0:Nat) (q1:LV) {v:Value} (hm:m48_0 pu n n0 c0 q1=some v):Run tt (callP tabs isP pu (inl pu)) 0 c48_20 (fr 19 [(3,sc 0 0 1 n0 c0)]) (hp 1 [oC q1]) (Fin tt 0 [.tmp 2] v):=by
 unfold m48_0 at hm
 refine .then (.rK ?_)
 replace hm:=bb_inv hm;obtain⟨h0,hm⟩:=hm
 refine .ghs (fr 19 [(2,sc 0 0 1 n0 c0)]) (hp 1 [oC q1]) (.k [0] [] [.tmp 2 false] [2] ⟨trF h0,trivial⟩) ?_
 replace hm:=bb_inv hm;obtain⟨h1,hm⟩:=hm
 refine .ghs (Fr.puts (fr 19 [(2,sc 0 0 1 n0 c0)]) [(2,(Sl.v 1 (Sl.mk n0 0 (takeL (n0*1) (dropL 0 q1)))))]) (hp 1 [.dead]) (.freezeC 0 2 1 (an (Nat.ble (0+n0*1) (len q1)) (allL closed1 (takeL (n0*1) (dropL 0 q1)))) (F1:=(Fr.puts (fr 19 [(2,sc 0 0 1 n0 c0)]) [(2,(Sl.v 1 (Sl.mk n0 0 (takeL (n0*1) (dropL 0 q1)))))])) (H1:=(hp 1 [.dead])) (by kernel_rfl) (by kernel_rfl) h1 (GhS.id _ _)) ?_
 refine .ret ?_
 exact fin_rt (Sl.v 1 (Sl.mk n0 0 (takeL (n0*1) (dropL 0 q1)))) hm
theorem r48 {call:CallF} (pu:PureF) (n:Nat) (hcall:call=callP tabs isP pu (inl pu)) {args:LV} {v:Value} (hm:m48 pu n args=some v) (_:∀ x∈args,closed2 x=true):args.length≤19∧Run tt call 0 c48_23 (Fr.made 19 args) (pureHeap tabs) (Fin tt 0 [.tmp 2] v):=by
 subst hcall
 unfold m48 at hm
 replace hm:=ll_uncons hm;obtain⟨a0,args_0,rfl,hm⟩:=hm
 replace hm:=ll_end hm;obtain⟨rfl,hm⟩:=hm
 replace hm:=inv_toI hm;obtain⟨x0,rfl,hm⟩:=hm
 unfold m48_ at hm
 refine⟨by simp,?_⟩
 refine .same (F':=(fr 19 [(0,.int .u32 x0)])) (H':=(hp 0 [])) (by kernel_rfl) (by kernel_rfl) ?_
 refine .then (.rK (.ghs (fr 19 [(0,.int .u32 x0)]) (hp 0 []) (.k0 [] [] [0]) ?_))
 refine .then (.rK (.ghs (fr 19 [(0,.int .u32 x0),(3,(.slice none 0 0))]) (hp 0 []) (.k0 [] [] [0,3]) ?_))
 refine .join (v:=v) (fun y:Nat×Nat×LV=>((fr 19 [(3,(sc 0 0 1 y.1 y.2.1))]),(hp 1 [(oC y.2.2)]))) (fun y=>m48_0 pu n y.1 y.2.1 y.2.2) ?_ ?_
 ·rintro⟨n0,c0,q1⟩ hm
  exact w48_0 pu n n0 c0 q1 hm
 ·refine .then (.rK (.ghs (fr 19 [(0,.int .u32 x0),(3,(.slice none 0 0)),(5,(zI (0:Int)))]) (hp 0 []) (.k0 [] [] [0,3,5]) ?_))
  refine .block (.loopM (v:=v) (fun y:Int×Nat×Nat×Int×LV=>((fr 19 [(0,(.int .u32 y.1)),(3,(sc 0 0 1 y.2.1 y.2.2.1)),(5,(zI y.2.2.2.1))]),(hp 1 [(oC y.2.2.2.2)]))) (fun w y=>l48_1 pu n w y.1 y.2.1 y.2.2.1 y.2.2.2.1 y.2.2.2.2) n ⟨(x0,0,0,(0:Int),([]:LV)),hm,(.thaw 3 1 (by kernel_rfl) (.k0 [] [.tmp 3 false] [0,3,5]))⟩ (fun _=>rfl) ?_)
  rintro w0 ⟨z1,n1,c1,z2,q2⟩ hm
  replace hm:b48_1 pu n (l48_1 pu n w0) z1 n1 c1 z2 q2=some v:=hm
  unfold b48_1 at hm
  refine .then (.rK ?_)
  replace hm:=bb_inv hm;obtain⟨h0,hm⟩:=hm
  refine .ghs (fr 19 [(0,.int .u32 z1),(3,sc 0 0 1 n1 c1),(5,zI z2),(6,(zB (ilt z2 (21:Int))))]) (hp 1 [oC q2]) (.k [0] [] [.tmp 3 false] [0,3,5,6] ⟨trF h0,trivial⟩) ?_
  refine .then ?_
  replace hm:=bb_cases hm;rcases hm with⟨h1,hm⟩ | ⟨h1,hm⟩
  ·refine ifTt (ilt z2 (21:Int)) h1 ?_
   refine .skip (.ghs (fr 19 [(0,.int .u32 z1),(3,sc 0 0 1 n1 c1),(5,zI z2)]) (hp 1 [oC q2]) (.k [0] [] [.tmp 3 false] [0,3,5] ⟨trF h0,trivial⟩) ?_)
   refine .join (v:=v) (fun y:Int×Nat×Nat×Int×LV=>((fr 19 [(0,(.int .u32 y.1)),(3,(sc 0 0 1 y.2.1 y.2.2.1)),(5,(zI y.2.2.2.1))]),(hp 1 [(oC y.2.2.2.2)]))) (fun y=>m48_2 pu n (l48_1 pu n w0) y.1 y.2.1 y.2.2.1 y.2.2.2.1 y.2.2.2.2) ?_ ?_
   ·rintro⟨z3,n2,c2,z4,q3⟩ hm
    unfold m48_2 at hm
    refine .rK ?_
    replace hm:=bb_inv hm;obtain⟨h2,hm⟩:=hm
    exact⟨(z3,n2,c2,(wrapF .i64 (Int.add z4 (1:Int))),q3),hm,(.k [0] [] [.tmp 3 false] [0,3,5] ⟨trF h2,trivial⟩)⟩
   ·refine .block (.then (.rK (.ghs (fr 19 [(0,.int .u32 z1),(3,sc 0 0 1 n1 c1),(4,zI z2),(5,zI z2)]) (hp 1 [oC q2]) (.k [0] [] [.tmp 3 false] [0,3,4,5] ⟨trF h0,trivial⟩) ?_)))
    refine .then ?_
    replace hm:=oo_inv hm;obtain⟨k1,h3,hm⟩:=hm
    obtain rfl:=toN_some h3
    refine .rK (.ghs (fr 19 [(0,.int .u32 z1),(3,sc 0 0 1 n1 c1),(4,(zI (Int.ofNat k1))),(5,(zI (Int.ofNat k1))),(12,(zB (ieq (aand .u32 (shrI .u32 z1 k1) (1:Int)) (1:Int))))]) (hp 1 [oC q2]) (.k [0] [] [.tmp 3 false] [0,3,4,5,12] ⟨trF h0,trivial⟩) ?_)
    replace hm:=bb_cases hm;rcases hm with⟨h4,hm⟩ | ⟨h4,hm⟩
    ·refine ifTt (ieq (aand .u32 (shrI .u32 z1 k1) (1:Int)) (1:Int)) h4 ?_
     replace hm:=bb_inv hm;obtain⟨h5,hm⟩:=hm
     refine .reg (eC 3 (growD 1 8 n1 c1 1 0 q2 [(zI (Int.ofNat k1))] [] (hp 2 [oC q2,(oC [(zI (Int.ofNat k1))])])) (growD_eq h5) (eE)) ?_
     replace hm:=bb_inv hm;obtain⟨h6,hm⟩:=hm
     exact⟨(z1,(n1+1),(d2 (n1+1)),(Int.ofNat k1),(appL (dropL 0 q2) [(zI (Int.ofNat k1))])),hm,(.k [2] [] [.tmp 3 false] [0,3,5] ⟨trF h6,trivial⟩)⟩
    ·refine ifFt (ieq (aand .u32 (shrI .u32 z1 k1) (1:Int)) (1:Int)) h4 ?_
     refine .skip ?_
     exact⟨(z1,n1,c1,(Int.ofNat k1),q2),hm,(.k [0] [] [.tmp 3 false] [0,3,5] ⟨trF h0,trivial⟩)⟩
  ·refine ifFt (ilt z2 (21:Int)) h1 ?_
   refine .exit ?_
   exact⟨(n1,c1,q2),hm,(.k [0] [] [.tmp 3 false] [3] ⟨trF h0,trivial⟩)⟩
def m49_0 (pu:PureF) (n:Nat) (z1:Int):OV:=
 (some (.int .u32 z1))
def b49_1 (pu:PureF) (n:Nat) (ih0:Int→Int→Int→Int→Sl→Int→Int→OV) (z1 z2 z3 z4:Int) (s0:Sl) (z5 z6:Int):OV:=
 (bb (ilt z6 z5) (oo (toN z6) none fun k1=>(bb (an (Nat.blt k1 (Sl.n s0)) true) (oo (nthL (Sl.cs s0) (k1*1)) none fun v0=>(oo (toI .i64 v0) none fun x0=>(bb (nt (ieq z1 (0:Int))) (bb (nt (ieq z1 (0:Int))) (oo (toN (Int.tmod (wrapF .i64 (Int.add (Int.tmod (wrapF .i64 (Int.add (wrapF .i64 (Int.mul x0 z2)) z3)) z1) z1)) z1)) none fun k2=>(ih0 z1 z2 z3 (aor .u32 z4 (shlI .u32 (1:Int) k2)) s0 z5 (wrapF .i64 (Int.add (Int.ofNat k1) (1:Int))))) none) none))) none)) (m49_0 pu n z4))
def l49_1 (pu:PureF) (n w:Nat):Int→Int→Int→Int→Sl→Int→Int→OV:=
 Nat.rec (motive:=fun _=>Int→Int→Int→Int→Sl→Int→Int→OV) (fun _ _ _ _ _ _ _=>none) (fun _ ih0=>b49_1 pu n ih0) w
def m49_ (pu:PureF) (n:Nat) (x0 x1 x2 x3:Int):OV:=
 (oo (pu 48 [.int .u32 x1]) none fun v0=>(oo (toSl 1 v0) none fun s0=>(l49_1 pu n n x0 x2 x3 (0:Int) s0 (Int.ofNat (Sl.n s0)) (0:Int))))
def m49 (pu:PureF) (n:Nat) (args:LV):OV:=
 (ll args none fun a0 args=>(ll args none fun a1 args=>(ll args none fun a2 args=>(ll args none fun a3 args=>(ll args (oo (toI .i64 a0) none fun x0=>(oo (toI .u32 a1) none fun x1=>(oo (toI .i64 a2) none fun x2=>(oo (toI .i64 a3) none fun x3=>(m49_ pu n x0 x1 x2 x3))))) fun _ _=>none)))))
theorem w49_0 (pu:PureF) (n:Nat) (z1:Int) {v:Value} (hm:m49_0 pu n z1=some v):Run tt (callP tabs isP pu (inl pu)) 0 c49_17 (fr 35 [(9,.int .u32 z1)]) (hp 0 []) (Fin tt 0 [.tmp 8] v):=by
 unfold m49_0 at hm
 refine .then (.rK (.ghs (fr 35 [(8,.int .u32 z1)]) (hp 0 []) (.k0 [] [] [8]) ?_))
 refine .ret ?_
 exact fin_rt (.int .u32 z1) hm
theorem r49 {call:CallF} (pu:PureF) (n:Nat) (hcall:call=callP tabs isP pu (inl pu)) {args:LV} {v:Value} (hm:m49 pu n args=some v) (_:∀ x∈args,closed2 x=true):args.length≤35∧Run tt call 0 c49_20 (Fr.made 35 args) (pureHeap tabs) (Fin tt 0 [.tmp 8] v):=by
 subst hcall
 unfold m49 at hm
 replace hm:=ll_uncons hm;obtain⟨a0,args_0,rfl,hm⟩:=hm
 replace hm:=ll_uncons hm;obtain⟨a1,args_1,rfl,hm⟩:=hm
 replace hm:=ll_uncons hm;obtain⟨a2,args_2,rfl,hm⟩:=hm
 replace hm:=ll_uncons hm;obtain⟨a3,args_3,rfl,hm⟩:=hm
 replace hm:=ll_end hm;obtain⟨rfl,hm⟩:=hm
 replace hm:=inv_toI hm;obtain⟨x0,rfl,hm⟩:=hm
 replace hm:=inv_toI hm;obtain⟨x1,rfl,hm⟩:=hm
 replace hm:=inv_toI hm;obtain⟨x2,rfl,hm⟩:=hm
 replace hm:=inv_toI hm;obtain⟨x3,rfl,hm⟩:=hm
 unfold m49_ at hm
 refine⟨by simp,?_⟩
 refine .same (F':=(fr 35 [(0,zI x0),(1,.int .u32 x1),(2,zI x2),(3,zI x3)])) (H':=(hp 0 [])) (by kernel_rfl) (by kernel_rfl) ?_
 refine .then (.rK (.ghs (fr 35 [(0,zI x0),(1,.int .u32 x1),(2,zI x2),(3,zI x3)]) (hp 0 []) (.k0 [] [] [0,1,2,3]) ?_))
 refine .then (.rK (.ghs (fr 35 [(0,zI x0),(1,.int .u32 x1),(2,zI x2),(3,zI x3),(9,(.int .u32 (0:Int)))]) (hp 0 []) (.k0 [] [] [0,1,2,3,9]) ?_))
 refine .join (v:=v) (fun y:Int=>((fr 35 [(9,.int .u32 y)]),(hp 0 []))) (fun y=>m49_0 pu n y) ?_ ?_
 ·rintro z1 hm
  exact w49_0 pu n z1 hm
 ·refine .then ?_
  replace hm:=oQS hm;obtain⟨s0,h0,hm⟩:=hm
  refine .reg (eC 1 ((oo (pu 48 [.int .u32 x1]) none fun v=>some (v,(hp 0 [])))) (call_eq h0) (eE)) ?_
  refine .ghs (fr 35 [(0,zI x0),(2,zI x2),(3,zI x3),(9,(.int .u32 (0:Int))),(13,Sl.v 1 s0),(14,(zI (Int.ofNat (Sl.n s0)))),(15,(zI (0:Int)))]) (hp 0 []) (.k0 [] [] [0,2,3,9,13,14,15]) ?_
  refine .block (.loopM (v:=v) (fun y:Int×Int×Int×Int×Sl×Int×Int=>((fr 35 [(0,(zI y.1)),(2,(zI y.2.1)),(3,(zI y.2.2.1)),(9,(.int .u32 y.2.2.2.1)),(13,(Sl.v 1 y.2.2.2.2.1)),(14,(zI y.2.2.2.2.2.1)),(15,(zI y.2.2.2.2.2.2))]),(hp 0 []))) (fun w y=>l49_1 pu n w y.1 y.2.1 y.2.2.1 y.2.2.2.1 y.2.2.2.2.1 y.2.2.2.2.2.1 y.2.2.2.2.2.2) n ⟨(x0,x2,x3,(0:Int),s0,(Int.ofNat (Sl.n s0)),(0:Int)),hm,(.k0 [] [] [0,2,3,9,13,14,15])⟩ (fun _=>rfl) ?_)
  rintro w0 ⟨z2,z3,z4,z5,s1,z6,z7⟩ hm
  replace hm:b49_1 pu n (l49_1 pu n w0) z2 z3 z4 z5 s1 z6 z7=some v:=hm
  unfold b49_1 at hm
  refine .then (.rK (.ghs (fr 35 [(0,zI z2),(2,zI z3),(3,zI z4),(9,.int .u32 z5),(13,Sl.v 1 s1),(14,zI z6),(15,zI z7),(16,(zB (ilt z7 z6)))]) (hp 0 []) (.k0 [] [] [0,2,3,9,13,14,15,16]) ?_))
  refine .then ?_
  replace hm:=bb_cases hm;rcases hm with⟨h1,hm⟩ | ⟨h1,hm⟩
  ·refine ifTt (ilt z7 z6) h1 ?_
   refine .skip (.ghs (fr 35 [(0,zI z2),(2,zI z3),(3,zI z4),(9,.int .u32 z5),(13,Sl.v 1 s1),(14,zI z6),(15,zI z7)]) (hp 0 []) (.k0 [] [] [0,2,3,9,13,14,15]) ?_)
   refine .then (.block (.then ?_))
   replace hm:=oo_inv hm;obtain⟨k1,h2,hm⟩:=hm
   obtain rfl:=toN_some h2
   replace hm:=bb_inv hm;obtain⟨h3,hm⟩:=hm
   replace hm:=oQI hm;obtain⟨x4,h4,hm⟩:=hm
   refine .reg (eD (keep (hp 0 []) (bb (an (Nat.blt k1 (Sl.n s1)) true) (some (fpV (k1*1) (Sl.cs s1))) none)) (keep_bb h3) (eD (keep (hp 0 []) (nthL (Sl.cs s1) (k1*1))) (keep_eq h4) (eE))) ?_
   refine .ghs (fr 35 [(0,zI z2),(2,zI z3),(3,zI z4),(9,.int .u32 z5),(11,zI x4),(13,Sl.v 1 s1),(14,zI z6),(15,(zI (Int.ofNat k1)))]) (hp 0 []) (.k0 [] [] [0,2,3,9,11,13,14,15]) ?_
   replace hm:=bb_inv hm;obtain⟨h5,hm⟩:=hm
   replace hm:=bb_inv hm;obtain⟨h6,hm⟩:=hm
   replace hm:=oo_inv hm;obtain⟨k2,h7,hm⟩:=hm
   refine .reg (eC 7 (keep (hp 0 []) (bb (ieq z2 (0:Int)) none (some (zI (Int.tmod (wrapF .i64 (Int.add (wrapF .i64 (Int.mul x4 z3)) z4)) z2))))) (keep_nb h5) (eC 3 (keep (hp 0 []) (bb (ieq z2 (0:Int)) none (some (zI (Int.tmod (wrapF .i64 (Int.add (Int.tmod (wrapF .i64 (Int.add (wrapF .i64 (Int.mul x4 z3)) z4)) z2) z2)) z2))))) (show _=some ((zI (Int.ofNat k2)),_) from (nat_eq (X:=(Int.tmod (wrapF .i64 (Int.add (Int.tmod (wrapF .i64 (Int.add (wrapF .i64 (Int.mul x4 z3)) z4)) z2) z2)) z2)) (keep_nb h6) h7)) (eE))) ?_
   refine .ghs (fr 35 [(0,zI z2),(2,zI z3),(3,zI z4),(9,(.int .u32 (aor .u32 z5 (shlI .u32 (1:Int) k2)))),(13,Sl.v 1 s1),(14,zI z6),(15,(zI (Int.ofNat k1)))]) (hp 0 []) (.k0 [] [] [0,2,3,9,13,14,15]) ?_
   refine .rK ?_
   exact⟨(z2,z3,z4,(aor .u32 z5 (shlI .u32 (1:Int) k2)),s1,z6,(wrapF .i64 (Int.add (Int.ofNat k1) (1:Int)))),hm,(.k0 [] [] [0,2,3,9,13,14,15])⟩
  ·refine ifFt (ilt z7 z6) h1 ?_
   refine .exit ?_
   exact⟨z5,hm,(.k0 [] [] [9])⟩

def m50_ (pu:PureF) (n:Nat) (x0:Int):OV:=
 (oo (toN (shrI .u32 x0 24)) none fun k1=>(oo (str0[k1]?) none fun c0=>(oo (toN (aand .u32 (shrI .u32 x0 16) (255:Int))) none fun k2=>(oo (str0[k2]?) none fun c1=>(oo (toN (aand .u32 (shrI .u32 x0 8) (255:Int))) none fun k3=>(oo (str0[k3]?) none fun c2=>(oo (toN (aand .u32 x0 (255:Int))) none fun k4=>(oo (str0[k4]?) none fun c3=>(some (.int .i64 (wrapF .i64 (wrapF .u8 (Int.add (wrapF .u8 (Int.add (wrapF .u8 (Int.add (Int.ofNat (UInt8.toNat c0)) (Int.ofNat (UInt8.toNat c1)))) (Int.ofNat (UInt8.toNat c2)))) (Int.ofNat (UInt8.toNat c3)))))))))))))))
def m50 (pu:PureF) (n:Nat) (args:LV):OV:=
 (ll args none fun a0 args=>(ll args (oo (toI .u32 a0) none fun x0=>(m50_ pu n x0)) fun _ _=>none))
theorem r50 {call:CallF} (pu:PureF) (n:Nat) (hcall:call=callP tabs isP pu (inl pu)) {args:LV} {v:Value} (hm:m50 pu n args=some v) (_:∀ x∈args,closed2 x=true):args.length≤21∧Run tt call 0 c50_3 (Fr.made 21 args) (pureHeap tabs) (Fin tt 0 [.tmp 2] v):=by
 subst hcall
 unfold m50 at hm
 replace hm:=ll_uncons hm;obtain⟨a0,args_0,rfl,hm⟩:=hm
 replace hm:=ll_end hm;obtain⟨rfl,hm⟩:=hm
 replace hm:=inv_toI hm;obtain⟨x0,rfl,hm⟩:=hm
 unfold m50_ at hm
 refine⟨by simp,?_⟩
 refine .same (F':=(fr 21 [(0,.int .u32 x0)])) (H':=(hp 0 [])) (by kernel_rfl) (by kernel_rfl) ?_
 refine .then (.rK (.ghs (fr 21 [(0,.int .u32 x0)]) (hp 0 []) (.k0 [] [] [0]) ?_))
 refine .then ?_
 replace hm:=oo_inv hm;obtain⟨k1,h0,hm⟩:=hm
 replace hm:=oo_inv hm;obtain⟨c0,h1,hm⟩:=hm
 replace hm:=oo_inv hm;obtain⟨k2,h2,hm⟩:=hm
 replace hm:=oo_inv hm;obtain⟨c1,h3,hm⟩:=hm
 replace hm:=oo_inv hm;obtain⟨k3,h4,hm⟩:=hm
 replace hm:=oo_inv hm;obtain⟨c2,h5,hm⟩:=hm
 replace hm:=oo_inv hm;obtain⟨k4,h6,hm⟩:=hm
 replace hm:=oo_inv hm;obtain⟨c3,h7,hm⟩:=hm
 refine .reg (eN 6 (Fr.puts (fr 21 [(0,.int .u32 x0)]) [(3,.int .u32 x0),(4,(.int .u32 (Int.ofNat k1))),(5,(zY (Int.ofNat (UInt8.toNat c0)))),(6,.int .u32 x0),(7,(.int .u32 (shrI .u32 x0 16))),(8,(.int .u32 (Int.ofNat k2)))]) (hp 0 []) (eC 1 (some ((.int .u32 (shrI .u32 x0 24)),(hp 0 []))) (show _=some ((.int .u32 (Int.ofNat k1)),_) from (by rw[toN_some h0])) (eD (keep (hp 0 []) (oo (str0[k1]?) none fun b=>iv .u8 (.ofNat b.toNat))) (ix_eq h1) (eC 2 (some ((.int .u32 (aand .u32 (shrI .u32 x0 16) (255:Int))),(hp 0 []))) (show _=some ((.int .u32 (Int.ofNat k2)),_) from (by rw[toN_some h2])) (by kernel_rfl)))) (eD (keep (hp 0 []) (oo (str0[k2]?) none fun b=>iv .u8 (.ofNat b.toNat))) (ix_eq h3) (eC 3 (some ((.int .u32 (aand .u32 (shrI .u32 x0 8) (255:Int))),(hp 0 []))) (show _=some ((.int .u32 (Int.ofNat k3)),_) from (by rw[toN_some h4])) (eD (keep (hp 0 []) (oo (str0[k3]?) none fun b=>iv .u8 (.ofNat b.toNat))) (ix_eq h5) (eC 2 (some ((.int .u32 (aand .u32 x0 (255:Int))),(hp 0 []))) (show _=some ((.int .u32 (Int.ofNat k4)),_) from (by rw[toN_some h6])) (eD (keep (hp 0 []) (oo (str0[k4]?) none fun b=>iv .u8 (.ofNat b.toNat))) (ix_eq h7) (eE))))))) ?_
 refine .ghs (fr 21 [(2,(zI (wrapF .i64 (wrapF .u8 (Int.add (wrapF .u8 (Int.add (wrapF .u8 (Int.add (Int.ofNat (UInt8.toNat c0)) (Int.ofNat (UInt8.toNat c1)))) (Int.ofNat (UInt8.toNat c2)))) (Int.ofNat (UInt8.toNat c3)))))))]) (hp 0 []) (.k0 [] [] [2]) ?_
 refine .ret ?_
 exact fin_rt (zI (wrapF .i64 (wrapF .u8 (Int.add (wrapF .u8 (Int.add (wrapF .u8 (Int.add (Int.ofNat (UInt8.toNat c0)) (Int.ofNat (UInt8.toNat c1)))) (Int.ofNat (UInt8.toNat c2)))) (Int.ofNat (UInt8.toNat c3)))))) hm
def m51_0 (pu:PureF) (n n0 c0:Nat) (q1:LV):OV:=
 (bb (allL closed1 q1) (bb (an (Nat.ble (0+n0*1) (len q1)) (allL closed1 (takeL (n0*1) (dropL 0 q1)))) (some (Sl.v 1 (Sl.mk n0 0 (takeL (n0*1) (dropL 0 q1))))) none) none)
def b51_1 (pu:PureF) (n:Nat) (ih0:Int→Int→Nat→Nat→Int→LV→OV) (z1 z2:Int) (n0 c0:Nat) (z3:Int) (q1:LV):OV:=
 (bb (allL closed1 q1) (bb (ilt z3 z1) (oo (pu 49 [.int .i64 z1,.int .u32 z2,(.int .i64 (1:Int)),.int .i64 z3]) none fun v0=>(oo (toI .u32 v0) none fun x0=>(oo (pu 50 [(.int .u32 (aand .u32 z2 x0))]) none fun v1=>(oo (toI .i64 v1) none fun x1=>(bb (growC 1 8 n0 c0 1 q1) (bb (allL closed1 (appL (dropL 0 q1) [.int .i64 x1])) (ih0 z1 z2 (n0+1) (2*(n0+1)+bb false 1 0) (wrapF .i64 (Int.add z3 (1:Int))) (appL (dropL 0 q1) [.int .i64 x1])) none) none))))) (m51_0 pu n n0 c0 q1)) none)
def l51_1 (pu:PureF) (n w:Nat):Int→Int→Nat→Nat→Int→LV→OV:=
 Nat.rec (motive:=fun _=>Int→Int→Nat→Nat→Int→LV→OV) (fun _ _ _ _ _ _=>none) (fun _ ih0=>b51_1 pu n ih0) w
def m51_ (pu:PureF) (n:Nat) (x0 x1:Int):OV:=
 (l51_1 pu n n x0 x1 0 0 (1:Int) ([]:LV))
def m51 (pu:PureF) (n:Nat) (args:LV):OV:=
 (ll args none fun a0 args=>(ll args none fun a1 args=>(ll args (oo (toI .i64 a0) none fun x0=>(oo (toI .u32 a1) none fun x1=>(m51_ pu n x0 x1))) fun _ _=>none)))
theorem w51_0 (pu:PureF) (n n0 c0:Nat) (q1:LV) {v:Value} (hm:m51_0 pu n n0 c0 q1=some v):Run tt (callP tabs isP pu (inl pu)) 0 c51_15 (fr 23 [(5,sc 0 0 1 n0 c0)]) (hp 1 [oC q1]) (Fin tt 0 [.tmp 4] v):=by
 unfold m51_0 at hm
 refine .then (.rK ?_)
 replace hm:=bb_inv hm;obtain⟨h0,hm⟩:=hm
 refine .ghs (fr 23 [(4,sc 0 0 1 n0 c0)]) (hp 1 [oC q1]) (.k [0] [] [.tmp 4 false] [4] ⟨trF h0,trivial⟩) ?_
 replace hm:=bb_inv hm;obtain⟨h1,hm⟩:=hm
 refine .ghs (Fr.puts (fr 23 [(4,sc 0 0 1 n0 c0)]) [(4,(Sl.v 1 (Sl.mk n0 0 (takeL (n0*1) (dropL 0 q1)))))]) (hp 1 [.dead]) (.freezeC 0 4 1 (an (Nat.ble (0+n0*1) (len q1)) (allL closed1 (takeL (n0*1) (dropL 0 q1)))) (F1:=(Fr.puts (fr 23 [(4,sc 0 0 1 n0 c0)]) [(4,(Sl.v 1 (Sl.mk n0 0 (takeL (n0*1) (dropL 0 q1)))))])) (H1:=(hp 1 [.dead])) (by kernel_rfl) (by kernel_rfl) h1 (GhS.id _ _)) ?_
 refine .ret ?_
 exact fin_rt (Sl.v 1 (Sl.mk n0 0 (takeL (n0*1) (dropL 0 q1)))) hm
theorem r51 {call:CallF} (pu:PureF) (n:Nat) (hcall:call=callP tabs isP pu (inl pu)) {args:LV} {v:Value} (hm:m51 pu n args=some v) (_:∀ x∈args,closed2 x=true):args.length≤23∧Run tt call 0 c51_18 (Fr.made 23 args) (pureHeap tabs) (Fin tt 0 [.tmp 4] v):=by
 subst hcall
 unfold m51 at hm
 replace hm:=ll_uncons hm;obtain⟨a0,args_0,rfl,hm⟩:=hm
 replace hm:=ll_uncons hm;obtain⟨a1,args_1,rfl,hm⟩:=hm
 replace hm:=ll_end hm;obtain⟨rfl,hm⟩:=hm
 replace hm:=inv_toI hm;obtain⟨x0,rfl,hm⟩:=hm
 replace hm:=inv_toI hm;obtain⟨x1,rfl,hm⟩:=hm
 unfold m51_ at hm
 refine⟨by simp,?_⟩
 refine .same (F':=(fr 23 [(0,zI x0),(1,.int .u32 x1)])) (H':=(hp 0 [])) (by kernel_rfl) (by kernel_rfl) ?_
 refine .then (.rK (.ghs (fr 23 [(0,zI x0),(1,.int .u32 x1)]) (hp 0 []) (.k0 [] [] [0,1]) ?_))
 refine .then (.rK (.ghs (fr 23 [(0,zI x0),(1,.int .u32 x1),(5,(.slice none 0 0))]) (hp 0 []) (.k0 [] [] [0,1,5]) ?_))
 refine .join (v:=v) (fun y:Nat×Nat×LV=>((fr 23 [(5,(sc 0 0 1 y.1 y.2.1))]),(hp 1 [(oC y.2.2)]))) (fun y=>m51_0 pu n y.1 y.2.1 y.2.2) ?_ ?_
 ·rintro⟨n0,c0,q1⟩ hm
  exact w51_0 pu n n0 c0 q1 hm
 ·refine .then (.rK (.ghs (fr 23 [(0,zI x0),(1,.int .u32 x1),(5,(.slice none 0 0)),(6,(zI (1:Int)))]) (hp 0 []) (.k0 [] [] [0,1,5,6]) ?_))
  refine .block (.loopM (v:=v) (fun y:Int×Int×Nat×Nat×Int×LV=>((fr 23 [(0,(zI y.1)),(1,(.int .u32 y.2.1)),(5,(sc 0 0 1 y.2.2.1 y.2.2.2.1)),(6,(zI y.2.2.2.2.1))]),(hp 1 [(oC y.2.2.2.2.2)]))) (fun w y=>l51_1 pu n w y.1 y.2.1 y.2.2.1 y.2.2.2.1 y.2.2.2.2.1 y.2.2.2.2.2) n ⟨(x0,x1,0,0,(1:Int),([]:LV)),hm,(.thaw 5 1 (by kernel_rfl) (.k0 [] [.tmp 5 false] [0,1,5,6]))⟩ (fun _=>rfl) ?_)
  rintro w0 ⟨z1,z2,n1,c1,z3,q2⟩ hm
  replace hm:b51_1 pu n (l51_1 pu n w0) z1 z2 n1 c1 z3 q2=some v:=hm
  unfold b51_1 at hm
  refine .then (.then (.rK ?_))
  replace hm:=bb_inv hm;obtain⟨h0,hm⟩:=hm
  refine .ghs (fr 23 [(0,zI z1),(1,.int .u32 z2),(5,sc 0 0 1 n1 c1),(6,zI z3),(9,(zB (ilt z3 z1)))]) (hp 1 [oC q2]) (.k [0] [] [.tmp 5 false] [0,1,5,6,9] ⟨trF h0,trivial⟩) ?_
  replace hm:=bb_cases hm;rcases hm with⟨h1,hm⟩ | ⟨h1,hm⟩
  ·refine ifTt (ilt z3 z1) h1 ?_
   refine .skip (.ghs (fr 23 [(0,zI z1),(1,.int .u32 z2),(5,sc 0 0 1 n1 c1),(6,zI z3)]) (hp 1 [oC q2]) (.k [0] [] [.tmp 5 false] [0,1,5,6] ⟨trF h0,trivial⟩) ?_)
   refine .then (.block ?_)
   replace hm:=oQI hm;obtain⟨x2,h2,hm⟩:=hm
   replace hm:=oQI hm;obtain⟨x3,h3,hm⟩:=hm
   replace hm:=bb_inv hm;obtain⟨h4,hm⟩:=hm
   refine .reg (eC 5 ((oo (pu 49 [zI z1,.int .u32 z2,(zI (1:Int)),zI z3]) none fun v=>some (v,(hp 1 [oC q2])))) (call_eq h2) (eC 1 ((oo (pu 50 [(.int .u32 (aand .u32 z2 x2))]) none fun v=>some (v,(hp 1 [oC q2])))) (call_eq h3) (eC 1 (growD 1 8 n1 c1 1 0 q2 [zI x3] [] (hp 2 [oC q2,(oC [zI x3])])) (growD_eq h4) (eE)))) ?_
   replace hm:=bb_inv hm;obtain⟨h5,hm⟩:=hm
   refine .ghs (fr 23 [(0,zI z1),(1,.int .u32 z2),(5,(sc 0 0 1 (n1+1) (d2 (n1+1)))),(6,zI z3)]) (hp 1 [(oC (appL (dropL 0 q2) [zI x3]))]) (.k [2] [] [.tmp 5 false] [0,1,5,6] ⟨trF h5,trivial⟩) ?_
   refine .rK ?_
   exact⟨(z1,z2,(n1+1),(d2 (n1+1)),(wrapF .i64 (Int.add z3 (1:Int))),(appL (dropL 0 q2) [zI x3])),hm,(.k [0] [] [.tmp 5 false] [0,1,5,6] ⟨trF h5,trivial⟩)⟩
  ·refine ifFt (ilt z3 z1) h1 ?_
   refine .exit ?_
   exact⟨(n1,c1,q2),hm,(.k [0] [] [.tmp 5 false] [5] ⟨trF h0,trivial⟩)⟩
def m52_0 (pu:PureF) (n:Nat) (s0 s1:Sl):OV:=
 (bb (ilt (Int.ofNat (Sl.n s0)) (Int.ofNat (Sl.n s1))) (some (.int .i64 (-1:Int))) (some (.int .i64 (0:Int))))
def b52_1 (pu:PureF) (n:Nat) (ih0:Sl→Sl→Sl→Int→Int→OV) (s0 s1 s2:Sl) (z1 z2:Int):OV:=
 (bb (ilt z2 z1) (oo (toN z2) none fun k1=>(bb (an (Nat.blt k1 (Sl.n s2)) true) (oo (nthL (Sl.cs s2) (k1*1)) none fun v0=>(oo (toI .i64 v0) none fun x0=>(bb (nt (ilt (Int.ofNat k1) (Int.ofNat (Sl.n s1)))) (some (.int .i64 (1:Int))) (bb (an (Nat.blt k1 (Sl.n s1)) true) (oo (nthL (Sl.cs s1) (k1*1)) none fun v1=>(oo (toI .i64 v1) none fun x1=>(oo (pu 92 [.int .i64 x0,.int .i64 x1]) none fun v2=>(oo (toI .i64 v2) none fun x2=>(bb (nt (ieq x2 (0:Int))) (some (.int .i64 x2)) (ih0 s0 s1 s2 z1 (wrapF .i64 (Int.add (Int.ofNat k1) (1:Int))))))))) none)))) none)) (m52_0 pu n s0 s1))
def l52_1 (pu:PureF) (n w:Nat):Sl→Sl→Sl→Int→Int→OV:=
 Nat.rec (motive:=fun _=>Sl→Sl→Sl→Int→Int→OV) (fun _ _ _ _ _=>none) (fun _ ih0=>b52_1 pu n ih0) w
def m52_ (pu:PureF) (n:Nat) (s0 s1:Sl):OV:=
 (l52_1 pu n n s0 s1 s0 (Int.ofNat (Sl.n s0)) (0:Int))
def m52 (pu:PureF) (n:Nat) (args:LV):OV:=
 (ll args none fun a0 args=>(ll args none fun a1 args=>(ll args (oo (toSl 1 a0) none fun s0=>(oo (toSl 1 a1) none fun s1=>(m52_ pu n s0 s1))) fun _ _=>none)))
theorem w52_0 (pu:PureF) (n:Nat) (s0 s1:Sl) {v:Value} (hm:m52_0 pu n s0 s1=some v):Run tt (callP tabs isP pu (inl pu)) 0 c52_36 (fr 36 [(0,Sl.v 1 s0),(1,Sl.v 1 s1)]) (hp 0 []) (Fin tt 0 [.tmp 4] v):=by
 unfold m52_0 at hm
 refine .then (.then (.rK (.ghs (fr 36 [(35,(zB (ilt (Int.ofNat (Sl.n s0)) (Int.ofNat (Sl.n s1)))))]) (hp 0 []) (.k0 [] [] [35]) ?_)))
 replace hm:=bb_cases hm;rcases hm with⟨h0,hm⟩ | ⟨h0,hm⟩
 ·refine ifTt (ilt (Int.ofNat (Sl.n s0)) (Int.ofNat (Sl.n s1))) h0 ?_
  refine .then (.rK (.ghs (fr 36 [(4,(zI (-1:Int)))]) (hp 0 []) (.k0 [] [] [4]) ?_))
  refine .ret ?_
  exact fin_rt (zI (-1:Int)) hm
 ·refine ifFt (ilt (Int.ofNat (Sl.n s0)) (Int.ofNat (Sl.n s1))) h0 ?_
  refine .skip (.ghs (fr 36 []) (hp 0 []) (.k0 [] [] []) ?_)
  refine .then (.rK (.ghs (fr 36 [(4,(zI (0:Int)))]) (hp 0 []) (.k0 [] [] [4]) ?_))
  refine .ret ?_
  exact fin_rt (zI (0:Int)) hm
theorem r52 {call:CallF} (pu:PureF) (n:Nat) (hcall:call=callP tabs isP pu (inl pu)) {args:LV} {v:Value} (hm:m52 pu n args=some v) (_:∀ x∈args,closed2 x=true):args.length≤36∧Run tt call 0 c52_38 (Fr.made 36 args) (pureHeap tabs) (Fin tt 0 [.tmp 4] v):=by
 subst hcall
 unfold m52 at hm
 replace hm:=ll_uncons hm;obtain⟨a0,args_0,rfl,hm⟩:=hm
 replace hm:=ll_uncons hm;obtain⟨a1,args_1,rfl,hm⟩:=hm
 replace hm:=ll_end hm;obtain⟨rfl,hm⟩:=hm
 replace hm:=inv_toSl hm;obtain⟨s0,rfl,hm⟩:=hm
 replace hm:=inv_toSl hm;obtain⟨s1,rfl,hm⟩:=hm
 unfold m52_ at hm
 refine⟨by simp,?_⟩
 refine .same (F':=(fr 36 [(0,Sl.v 1 s0),(1,Sl.v 1 s1)])) (H':=(hp 0 [])) (by kernel_rfl) (by kernel_rfl) ?_
 refine .then (.rK (.ghs (fr 36 [(0,Sl.v 1 s0),(1,Sl.v 1 s1)]) (hp 0 []) (.k0 [] [] [0,1]) ?_))
 refine .join (v:=v) (fun y:Sl×Sl=>((fr 36 [(0,(Sl.v 1 y.1)),(1,(Sl.v 1 y.2))]),(hp 0 []))) (fun y=>m52_0 pu n y.1 y.2) ?_ ?_
 ·rintro⟨s2,s3⟩ hm
  exact w52_0 pu n s2 s3 hm
 ·refine .then (.rK (.ghs (fr 36 [(0,Sl.v 1 s0),(1,Sl.v 1 s1),(9,Sl.v 1 s0),(10,(zI (Int.ofNat (Sl.n s0)))),(11,(zI (0:Int)))]) (hp 0 []) (.k0 [] [] [0,1,9,10,11]) ?_))
  refine .block (.loopM (v:=v) (fun y:Sl×Sl×Sl×Int×Int=>((fr 36 [(0,(Sl.v 1 y.1)),(1,(Sl.v 1 y.2.1)),(9,(Sl.v 1 y.2.2.1)),(10,(zI y.2.2.2.1)),(11,(zI y.2.2.2.2))]),(hp 0 []))) (fun w y=>l52_1 pu n w y.1 y.2.1 y.2.2.1 y.2.2.2.1 y.2.2.2.2) n ⟨(s0,s1,s0,(Int.ofNat (Sl.n s0)),(0:Int)),hm,(.k0 [] [] [0,1,9,10,11])⟩ (fun _=>rfl) ?_)
  rintro w0 ⟨s4,s5,s6,z1,z2⟩ hm
  replace hm:b52_1 pu n (l52_1 pu n w0) s4 s5 s6 z1 z2=some v:=hm
  unfold b52_1 at hm
  refine .then (.rK (.ghs (fr 36 [(0,Sl.v 1 s4),(1,Sl.v 1 s5),(9,Sl.v 1 s6),(10,zI z1),(11,zI z2),(12,(zB (ilt z2 z1)))]) (hp 0 []) (.k0 [] [] [0,1,9,10,11,12]) ?_))
  refine .then ?_
  replace hm:=bb_cases hm;rcases hm with⟨h0,hm⟩ | ⟨h0,hm⟩
  ·refine ifTt (ilt z2 z1) h0 ?_
   refine .skip (.ghs (fr 36 [(0,Sl.v 1 s4),(1,Sl.v 1 s5),(9,Sl.v 1 s6),(10,zI z1),(11,zI z2)]) (hp 0 []) (.k0 [] [] [0,1,9,10,11]) ?_)
   refine .then (.block (.then ?_))
   replace hm:=oo_inv hm;obtain⟨k1,h1,hm⟩:=hm
   obtain rfl:=toN_some h1
   replace hm:=bb_inv hm;obtain⟨h2,hm⟩:=hm
   replace hm:=oQI hm;obtain⟨x0,h3,hm⟩:=hm
   refine .reg (eC 1 (keep (hp 0 []) (bb (an (Nat.blt k1 (Sl.n s6)) true) (some (fpV (k1*1) (Sl.cs s6))) none)) (keep_bb h2) (eD (keep (hp 0 []) (nthL (Sl.cs s6) (k1*1))) (keep_eq h3) (eE))) ?_
   refine .ghs (fr 36 [(0,Sl.v 1 s4),(1,Sl.v 1 s5),(5,(zI (Int.ofNat k1))),(6,zI x0),(9,Sl.v 1 s6),(10,zI z1),(11,(zI (Int.ofNat k1)))]) (hp 0 []) (.k0 [] [] [0,1,5,6,9,10,11]) ?_
   refine .then (.then (.rK (.ghs (fr 36 [(0,Sl.v 1 s4),(1,Sl.v 1 s5),(5,(zI (Int.ofNat k1))),(6,zI x0),(9,Sl.v 1 s6),(10,zI z1),(11,(zI (Int.ofNat k1))),(19,(zB (nt (ilt (Int.ofNat k1) (Int.ofNat (Sl.n s5))))))]) (hp 0 []) (.k0 [] [] [0,1,5,6,9,10,11,19]) ?_)))
   replace hm:=bb_cases hm;rcases hm with⟨h4,hm⟩ | ⟨h4,hm⟩
   ·refine ifTt (nt (ilt (Int.ofNat k1) (Int.ofNat (Sl.n s5)))) h4 ?_
    refine .then (.rK (.ghs (fr 36 [(4,(zI (1:Int)))]) (hp 0 []) (.k0 [] [] [4]) ?_))
    refine .ret ?_
    exact fin_rt (zI (1:Int)) hm
   ·refine ifFt (nt (ilt (Int.ofNat k1) (Int.ofNat (Sl.n s5)))) h4 ?_
    refine .skip (.ghs (fr 36 [(0,Sl.v 1 s4),(1,Sl.v 1 s5),(5,(zI (Int.ofNat k1))),(6,zI x0),(9,Sl.v 1 s6),(10,zI z1),(11,(zI (Int.ofNat k1)))]) (hp 0 []) (.k0 [] [] [0,1,5,6,9,10,11]) ?_)
    refine .then ?_
    replace hm:=bb_inv hm;obtain⟨h5,hm⟩:=hm
    replace hm:=oQI hm;obtain⟨x1,h6,hm⟩:=hm
    refine .reg (eC 2 (keep (hp 0 []) (bb (an (Nat.blt k1 (Sl.n s5)) true) (some (fpV (k1*1) (Sl.cs s5))) none)) (keep_bb h5) (eD (keep (hp 0 []) (nthL (Sl.cs s5) (k1*1))) (keep_eq h6) (eE))) ?_
    refine .ghs (fr 36 [(0,Sl.v 1 s4),(1,Sl.v 1 s5),(6,zI x0),(7,zI x1),(9,Sl.v 1 s6),(10,zI z1),(11,(zI (Int.ofNat k1)))]) (hp 0 []) (.k0 [] [] [0,1,6,7,9,10,11]) ?_
    refine .then ?_
    replace hm:=oQI hm;obtain⟨x2,h7,hm⟩:=hm
    refine .reg (eC 2 ((oo (pu 92 [zI x0,zI x1]) none fun v=>some (v,(hp 0 [])))) (call_eq h7) (eE)) ?_
    refine .ghs (fr 36 [(0,Sl.v 1 s4),(1,Sl.v 1 s5),(8,zI x2),(9,Sl.v 1 s6),(10,zI z1),(11,(zI (Int.ofNat k1)))]) (hp 0 []) (.k0 [] [] [0,1,8,9,10,11]) ?_
    refine .then (.rK (.ghs (fr 36 [(0,Sl.v 1 s4),(1,Sl.v 1 s5),(8,zI x2),(9,Sl.v 1 s6),(10,zI z1),(11,(zI (Int.ofNat k1))),(28,(zB (nt (ieq x2 (0:Int)))))]) (hp 0 []) (.k0 [] [] [0,1,8,9,10,11,28]) ?_))
    replace hm:=bb_cases hm;rcases hm with⟨h8,hm⟩ | ⟨h8,hm⟩
    ·refine ifTt (nt (ieq x2 (0:Int))) h8 ?_
     refine .then (.rK (.ghs (fr 36 [(4,zI x2)]) (hp 0 []) (.k0 [] [] [4]) ?_))
     refine .ret ?_
     exact fin_rt (zI x2) hm
    ·refine ifFt (nt (ieq x2 (0:Int))) h8 ?_
     refine .skip (.ghs (fr 36 [(0,Sl.v 1 s4),(1,Sl.v 1 s5),(9,Sl.v 1 s6),(10,zI z1),(11,(zI (Int.ofNat k1)))]) (hp 0 []) (.k0 [] [] [0,1,9,10,11]) ?_)
     refine .rK ?_
     exact⟨(s4,s5,s6,z1,(wrapF .i64 (Int.add (Int.ofNat k1) (1:Int)))),hm,(.k0 [] [] [0,1,9,10,11])⟩
  ·refine ifFt (ilt z2 z1) h0 ?_
   refine .exit ?_
   exact⟨(s4,s5),hm,(.k0 [] [] [0,1])⟩
def m58_0 (pu:PureF) (n:Nat) (z1:Int):OV:=
 (some (.int .u32 z1))
def m58_2 (pu:PureF) (n:Nat) (ih0:Int→Int→Int→Int→Int→OV) (z1 z2 z3 z4 z5:Int):OV:=
 (ih0 z1 z2 z3 z4 (wrapF .i64 (Int.add z5 (1:Int))))
def b58_1 (pu:PureF) (n:Nat) (ih0:Int→Int→Int→Int→Int→OV) (z1 z2 z3 z4 z5:Int):OV:=
 (bb (ilt z5 z4) (oo (pu 49 [.int .i64 z1,.int .u32 z2,(.int .i64 (1:Int)),.int .i64 z5]) none fun v0=>(oo (toI .u32 v0) none fun x0=>(oo (pu 48 [.int .u32 x0]) none fun v1=>(oo (toSl 1 v1) none fun s0=>(oo (pu 48 [.int .u32 z3]) none fun v2=>(oo (toSl 1 v2) none fun s1=>(oo (pu 52 [Sl.v 1 s0,Sl.v 1 s1]) none fun v3=>(oo (toI .i64 v3) none fun x1=>(bb (ilt x1 (0:Int)) (m58_2 pu n ih0 z1 z2 x0 z4 z5) (m58_2 pu n ih0 z1 z2 z3 z4 z5)))))))))) (m58_0 pu n z3))
def l58_1 (pu:PureF) (n w:Nat):Int→Int→Int→Int→Int→OV:=
 Nat.rec (motive:=fun _=>Int→Int→Int→Int→Int→OV) (fun _ _ _ _ _=>none) (fun _ ih0=>b58_1 pu n ih0) w
def m58_ (pu:PureF) (n:Nat) (x0 x1:Int):OV:=
 (l58_1 pu n n x0 x1 x1 x0 (0:Int))
def m58 (pu:PureF) (n:Nat) (args:LV):OV:=
 (ll args none fun a0 args=>(ll args none fun a1 args=>(ll args (oo (toI .i64 a0) none fun x0=>(oo (toI .u32 a1) none fun x1=>(m58_ pu n x0 x1))) fun _ _=>none)))
theorem w58_0 (pu:PureF) (n:Nat) (z1:Int) {v:Value} (hm:m58_0 pu n z1=some v):Run tt (callP tabs isP pu (inl pu)) 0 c58_22 (fr 26 [(5,.int .u32 z1)]) (hp 0 []) (Fin tt 0 [.tmp 4] v):=by
 unfold m58_0 at hm
 refine .then (.rK (.ghs (fr 26 [(4,.int .u32 z1)]) (hp 0 []) (.k0 [] [] [4]) ?_))
 refine .ret ?_
 exact fin_rt (.int .u32 z1) hm
theorem r58 {call:CallF} (pu:PureF) (n:Nat) (hcall:call=callP tabs isP pu (inl pu)) {args:LV} {v:Value} (hm:m58 pu n args=some v) (_:∀ x∈args,closed2 x=true):args.length≤26∧Run tt call 0 c58_25 (Fr.made 26 args) (pureHeap tabs) (Fin tt 0 [.tmp 4] v):=by
 subst hcall
 unfold m58 at hm
 replace hm:=ll_uncons hm;obtain⟨a0,args_0,rfl,hm⟩:=hm
 replace hm:=ll_uncons hm;obtain⟨a1,args_1,rfl,hm⟩:=hm
 replace hm:=ll_end hm;obtain⟨rfl,hm⟩:=hm
 replace hm:=inv_toI hm;obtain⟨x0,rfl,hm⟩:=hm
 replace hm:=inv_toI hm;obtain⟨x1,rfl,hm⟩:=hm
 unfold m58_ at hm
 refine⟨by simp,?_⟩
 refine .same (F':=(fr 26 [(0,zI x0),(1,.int .u32 x1)])) (H':=(hp 0 [])) (by kernel_rfl) (by kernel_rfl) ?_
 refine .then (.rK (.ghs (fr 26 [(0,zI x0),(1,.int .u32 x1)]) (hp 0 []) (.k0 [] [] [0,1]) ?_))
 refine .then (.rK (.ghs (fr 26 [(0,zI x0),(1,.int .u32 x1),(5,.int .u32 x1)]) (hp 0 []) (.k0 [] [] [0,1,5]) ?_))
 refine .join (v:=v) (fun y:Int=>((fr 26 [(5,.int .u32 y)]),(hp 0 []))) (fun y=>m58_0 pu n y) ?_ ?_
 ·rintro z1 hm
  exact w58_0 pu n z1 hm
 ·refine .then (.rK (.ghs (fr 26 [(0,zI x0),(1,.int .u32 x1),(5,.int .u32 x1),(9,zI x0),(10,(zI (0:Int)))]) (hp 0 []) (.k0 [] [] [0,1,5,9,10]) ?_))
  refine .block (.loopM (v:=v) (fun y:Int×Int×Int×Int×Int=>((fr 26 [(0,(zI y.1)),(1,(.int .u32 y.2.1)),(5,(.int .u32 y.2.2.1)),(9,(zI y.2.2.2.1)),(10,(zI y.2.2.2.2))]),(hp 0 []))) (fun w y=>l58_1 pu n w y.1 y.2.1 y.2.2.1 y.2.2.2.1 y.2.2.2.2) n ⟨(x0,x1,x1,x0,(0:Int)),hm,(.k0 [] [] [0,1,5,9,10])⟩ (fun _=>rfl) ?_)
  rintro w0 ⟨z2,z3,z4,z5,z6⟩ hm
  replace hm:b58_1 pu n (l58_1 pu n w0) z2 z3 z4 z5 z6=some v:=hm
  unfold b58_1 at hm
  refine .then (.rK (.ghs (fr 26 [(0,zI z2),(1,.int .u32 z3),(5,.int .u32 z4),(9,zI z5),(10,zI z6),(11,(zB (ilt z6 z5)))]) (hp 0 []) (.k0 [] [] [0,1,5,9,10,11]) ?_))
  refine .then ?_
  replace hm:=bb_cases hm;rcases hm with⟨h0,hm⟩ | ⟨h0,hm⟩
  ·refine ifTt (ilt z6 z5) h0 ?_
   refine .skip (.ghs (fr 26 [(0,zI z2),(1,.int .u32 z3),(5,.int .u32 z4),(9,zI z5),(10,zI z6)]) (hp 0 []) (.k0 [] [] [0,1,5,9,10]) ?_)
   refine .join (v:=v) (fun y:Int×Int×Int×Int×Int=>((fr 26 [(0,(zI y.1)),(1,(.int .u32 y.2.1)),(5,(.int .u32 y.2.2.1)),(9,(zI y.2.2.2.1)),(10,(zI y.2.2.2.2))]),(hp 0 []))) (fun y=>m58_2 pu n (l58_1 pu n w0) y.1 y.2.1 y.2.2.1 y.2.2.2.1 y.2.2.2.2) ?_ ?_
   ·rintro⟨z7,z8,z9,z10,z11⟩ hm
    unfold m58_2 at hm
    refine .rK ?_
    exact⟨(z7,z8,z9,z10,(wrapF .i64 (Int.add z11 (1:Int)))),hm,(.k0 [] [] [0,1,5,9,10])⟩
   ·refine .block (.then (.rK (.ghs (fr 26 [(0,zI z2),(1,.int .u32 z3),(5,.int .u32 z4),(6,zI z6),(9,zI z5),(10,zI z6)]) (hp 0 []) (.k0 [] [] [0,1,5,6,9,10]) ?_)))
    refine .then ?_
    replace hm:=oQI hm;obtain⟨x2,h1,hm⟩:=hm
    refine .reg (eC 3 ((oo (pu 49 [zI z2,.int .u32 z3,(zI (1:Int)),zI z6]) none fun v=>some (v,(hp 0 [])))) (call_eq h1) (eE)) ?_
    refine .ghs (fr 26 [(0,zI z2),(1,.int .u32 z3),(5,.int .u32 z4),(7,.int .u32 x2),(9,zI z5),(10,zI z6)]) (hp 0 []) (.k0 [] [] [0,1,5,7,9,10]) ?_
    refine .then ?_
    replace hm:=oQS hm;obtain⟨s0,h2,hm⟩:=hm
    replace hm:=oQS hm;obtain⟨s1,h3,hm⟩:=hm
    replace hm:=oQI hm;obtain⟨x3,h4,hm⟩:=hm
    refine .reg (eC 1 ((oo (pu 48 [.int .u32 x2]) none fun v=>some (v,(hp 0 [])))) (call_eq h2) (eC 1 ((oo (pu 48 [.int .u32 z4]) none fun v=>some (v,(hp 0 [])))) (call_eq h3) (eD ((oo (pu 52 [Sl.v 1 s0,Sl.v 1 s1]) none fun v=>some (v,(hp 0 [])))) (call_eq h4) (eE)))) ?_
    refine .ghs (fr 26 [(0,zI z2),(1,.int .u32 z3),(5,.int .u32 z4),(7,.int .u32 x2),(9,zI z5),(10,zI z6),(22,(zB (ilt x3 (0:Int))))]) (hp 0 []) (.k0 [] [] [0,1,5,7,9,10,22]) ?_
    replace hm:=bb_cases hm;rcases hm with⟨h5,hm⟩ | ⟨h5,hm⟩
    ·refine ifTt (ilt x3 (0:Int)) h5 ?_
     refine .rK ?_
     exact⟨(z2,z3,x2,z5,z6),hm,(.k0 [] [] [0,1,5,9,10])⟩
    ·refine ifFt (ilt x3 (0:Int)) h5 ?_
     refine .skip ?_
     exact⟨(z2,z3,z4,z5,z6),hm,(.k0 [] [] [0,1,5,9,10])⟩
  ·refine ifFt (ilt z6 z5) h0 ?_
   refine .exit ?_
   exact⟨z4,hm,(.k0 [] [] [5])⟩

def m61_ (pu:PureF) (n:Nat) (x0:Int) (s0:Sl):OV:=
 (oo (pu 25 [(.agg ⟨[.int .i64 x0,Sl.v 1 s0]⟩)]) none fun v0=>(oo (toI .i64 v0) none fun x1=>(bb (nt (ieq x1 (0:Int))) (some (.tuple ⟨[(.agg ⟨[(.int .i64 (0:Int)),(.int .u32 (0:Int))]⟩),.int .i64 x1]⟩)) (oo (pu 96 [.int .i64 x0,Sl.v 1 s0]) none fun v1=>(oo (vAgg v1) none fun l0=>(ll l0 none fun v2 l0=>(ll l0 none fun v3 l0=>(ll l0 (oo (toI .i64 v2) none fun x2=>(oo (toI .u32 v3) none fun x3=>(some (.tuple ⟨[(.agg ⟨[.int .i64 x2,.int .u32 x3]⟩),(.int .i64 (0:Int))]⟩)))) fun _ _=>none))))))))
def m61 (pu:PureF) (n:Nat) (args:LV):OV:=
 (ll args none fun a0 args=>(ll args (oo (vAgg a0) none fun l0=>(ll l0 none fun v0 l0=>(ll l0 none fun v1 l0=>(ll l0 (oo (toI .i64 v0) none fun x0=>(oo (toSl 1 v1) none fun s0=>(m61_ pu n x0 s0))) fun _ _=>none)))) fun _ _=>none))
theorem r61 {call:CallF} (pu:PureF) (n:Nat) (hcall:call=callP tabs isP pu (inl pu)) {args:LV} {v:Value} (hm:m61 pu n args=some v) (_:∀ x∈args,closed2 x=true):args.length≤16∧Run tt call 0 c61_11 (Fr.made 16 args) (pureHeap tabs) (Fin tt 0 [.cell 2 92,.tmp 3] v):=by
 subst hcall
 unfold m61 at hm
 replace hm:=ll_uncons hm;obtain⟨a0,args_0,rfl,hm⟩:=hm
 replace hm:=ll_end hm;obtain⟨rfl,hm⟩:=hm
 replace hm:=inv_vAgg hm;obtain⟨l0,rfl,hm⟩:=hm
 replace hm:=ll_uncons hm;obtain⟨v0,l10573_0,rfl,hm⟩:=hm
 replace hm:=ll_uncons hm;obtain⟨v1,l10573_1,rfl,hm⟩:=hm
 replace hm:=ll_end hm;obtain⟨rfl,hm⟩:=hm
 replace hm:=inv_toI hm;obtain⟨x0,rfl,hm⟩:=hm
 replace hm:=inv_toSl hm;obtain⟨s0,rfl,hm⟩:=hm
 unfold m61_ at hm
 refine⟨by simp,?_⟩
 refine .same (F':=(fr 16 [(0,(.agg ⟨[zI x0,Sl.v 1 s0]⟩))])) (H':=(hp 0 [])) (by kernel_rfl) (by kernel_rfl) ?_
 refine .then (.rK (.ghs (fr 16 [(1,(pt 0 0)),(2,pt 1 0)]) (hp 2 [(oC [zI x0,Sl.v 1 s0]),(oC [(zI (0:Int)),(.int .u32 (0:Int))])]) (.k0 [] [.tmp 1 false,.tmp 2 false] [1,2]) ?_))
 refine .then (.then ?_)
 replace hm:=oQI hm;obtain⟨x1,h0,hm⟩:=hm
 refine .reg (eC 1 ((oo (pu 25 [(.agg ⟨[zI x0,Sl.v 1 s0]⟩)]) none fun v=>some (v,(hp 2 [(oC [zI x0,Sl.v 1 s0]),(oC [(zI (0:Int)),(.int .u32 (0:Int))])])))) (call_eq h0) (eE)) ?_
 refine .ghs (fr 16 [(1,(pt 0 0)),(2,pt 1 0),(4,zI x1)]) (hp 2 [(oC [zI x0,Sl.v 1 s0]),(oC [(zI (0:Int)),(.int .u32 (0:Int))])]) (.k0 [] [.tmp 1 false,.tmp 2 false] [1,2,4]) ?_
 refine .then (.rK (.ghs (fr 16 [(1,(pt 0 0)),(2,pt 1 0),(4,zI x1),(8,(zB (nt (ieq x1 (0:Int)))))]) (hp 2 [(oC [zI x0,Sl.v 1 s0]),(oC [(zI (0:Int)),(.int .u32 (0:Int))])]) (.k0 [] [.tmp 1 false,.tmp 2 false] [1,2,4,8]) ?_))
 replace hm:=bb_cases hm;rcases hm with⟨h1,hm⟩ | ⟨h1,hm⟩
 ·refine ifTt (nt (ieq x1 (0:Int))) h1 ?_
  refine .then (.rK (.ghs (fr 16 [(2,(pt 0 0)),(3,zI x1)]) (hp 1 [(oC [(zI (0:Int)),(.int .u32 (0:Int))])]) (.k0 [] [.tmp 2 false] [2,3]) ?_))
  refine .ret ?_
  exact fin_rt (.tuple ⟨[(.agg ⟨[(zI (0:Int)),(.int .u32 (0:Int))]⟩),zI x1]⟩) hm
 ·refine ifFt (nt (ieq x1 (0:Int))) h1 ?_
  refine .skip (.ghs (fr 16 [(1,(pt 0 0)),(2,pt 1 0)]) (hp 2 [(oC [zI x0,Sl.v 1 s0]),(oC [(zI (0:Int)),(.int .u32 (0:Int))])]) (.k0 [] [.tmp 1 false,.tmp 2 false] [1,2]) ?_)
  refine .then ?_
  replace hm:=oo_inv hm;obtain⟨v2,h2,hm⟩:=hm
  replace hm:=inv_vAgg hm;obtain⟨l1,rfl,hm⟩:=hm
  replace hm:=ll_uncons hm;obtain⟨v3,l10602_0,rfl,hm⟩:=hm
  replace hm:=ll_uncons hm;obtain⟨v4,l10602_1,rfl,hm⟩:=hm
  replace hm:=ll_end hm;obtain⟨rfl,hm⟩:=hm
  replace hm:=inv_toI hm;obtain⟨x2,rfl,hm⟩:=hm
  replace hm:=inv_toI hm;obtain⟨x3,rfl,hm⟩:=hm
  refine .reg (eC 4 ((oo (pu 96 [zI x0,Sl.v 1 s0]) none fun v=>some (v,(hp 2 [(oC [zI x0,Sl.v 1 s0]),(oC [(zI (0:Int)),(.int .u32 (0:Int))])])))) (call_eq h2) (eE)) ?_
  refine .ghs (fr 16 [(2,(pt 0 0)),(3,(zI (0:Int)))]) (hp 1 [(oC [zI x2,.int .u32 x3])]) (.k0 [] [.tmp 2 false] [2,3]) ?_
  refine .ret ?_
  exact fin_rt (.tuple ⟨[(.agg ⟨[zI x2,.int .u32 x3]⟩),(zI (0:Int))]⟩) hm

def m65_ (pu:PureF) (n:Nat) (x0 x1 x2:Int):OV:=
 (oo (toN x0) none fun k1=>(oo (toN x2) none fun k2=>(oo (toN (wrapF .i64 (Int.sub (Int.ofNat k1) (Int.ofNat k2)))) none fun k3=>(some (.agg ⟨[(.int .i64 (Int.ofNat k1)),(.int .u32 (aand .u32 (aor .u32 (shlI .u32 x1 k2) (shrI .u32 x1 k3)) (wrapF .u32 (Int.sub (shlI .u32 (1:Int) k1) (1:Int)))))]⟩)))))
def m65 (pu:PureF) (n:Nat) (args:LV):OV:=
 (ll args none fun a0 args=>(ll args none fun a1 args=>(ll args (oo (vAgg a0) none fun l0=>(ll l0 none fun v0 l0=>(ll l0 none fun v1 l0=>(ll l0 (oo (toI .i64 v0) none fun x0=>(oo (toI .u32 v1) none fun x1=>(oo (toI .i64 a1) none fun x2=>(m65_ pu n x0 x1 x2)))) fun _ _=>none)))) fun _ _=>none)))
theorem r65 {call:CallF} (pu:PureF) (n:Nat) (hcall:call=callP tabs isP pu (inl pu)) {args:LV} {v:Value} (hm:m65 pu n args=some v) (_:∀ x∈args,closed2 x=true):args.length≤26∧Run tt call 0 c65_7 (Fr.made 26 args) (pureHeap tabs) (Fin tt 0 [.cell 4 92] v):=by
 subst hcall
 unfold m65 at hm
 replace hm:=ll_uncons hm;obtain⟨a0,args_0,rfl,hm⟩:=hm
 replace hm:=ll_uncons hm;obtain⟨a1,args_1,rfl,hm⟩:=hm
 replace hm:=ll_end hm;obtain⟨rfl,hm⟩:=hm
 replace hm:=inv_vAgg hm;obtain⟨l0,rfl,hm⟩:=hm
 replace hm:=ll_uncons hm;obtain⟨v0,l10610_0,rfl,hm⟩:=hm
 replace hm:=ll_uncons hm;obtain⟨v1,l10610_1,rfl,hm⟩:=hm
 replace hm:=ll_end hm;obtain⟨rfl,hm⟩:=hm
 replace hm:=inv_toI hm;obtain⟨x0,rfl,hm⟩:=hm
 replace hm:=inv_toI hm;obtain⟨x1,rfl,hm⟩:=hm
 replace hm:=inv_toI hm;obtain⟨x2,rfl,hm⟩:=hm
 unfold m65_ at hm
 refine⟨by simp,?_⟩
 refine .same (F':=(fr 26 [(0,(.agg ⟨[zI x0,.int .u32 x1]⟩)),(1,zI x2)])) (H':=(hp 0 [])) (by kernel_rfl) (by kernel_rfl) ?_
 refine .then (.rK (.ghs (fr 26 [(1,zI x2),(2,(pt 0 0)),(4,pt 1 0)]) (hp 2 [(oC [zI x0,.int .u32 x1]),(oC [(zI (0:Int)),(.int .u32 (0:Int))])]) (.k0 [] [.tmp 2 false,.tmp 4 false] [1,2,4]) ?_))
 refine .then ?_
 replace hm:=oo_inv hm;obtain⟨k1,h0,hm⟩:=hm
 obtain rfl:=toN_some h0
 refine .rK (.ghs (fr 26 [(1,zI x2),(2,(pt 0 0)),(4,pt 1 0),(5,(.int .u32 (wrapF .u32 (Int.sub (shlI .u32 (1:Int) k1) (1:Int)))))]) (hp 2 [(oC [(zI (Int.ofNat k1)),.int .u32 x1]),(oC [(zI (0:Int)),(.int .u32 (0:Int))])]) (.k0 [] [.tmp 2 false,.tmp 4 false] [1,2,4,5]) ?_)
 refine .then ?_
 replace hm:=oo_inv hm;obtain⟨k2,h1,hm⟩:=hm
 obtain rfl:=toN_some h1
 replace hm:=oo_inv hm;obtain⟨k3,h2,hm⟩:=hm
 refine .reg (eC 9 (some ((zI (wrapF .i64 (Int.sub (Int.ofNat k1) (Int.ofNat k2)))),(hp 2 [(oC [(zI (Int.ofNat k1)),.int .u32 x1]),(oC [(zI (0:Int)),(.int .u32 (0:Int))])]))) (show _=some ((zI (Int.ofNat k3)),_) from (by rw[toN_some h2])) (eE)) ?_
 refine .ghs (fr 26 [(2,(pt 0 0)),(4,pt 1 0)]) (hp 2 [(oC [(zI (Int.ofNat k1)),(.int .u32 (aand .u32 (aor .u32 (shlI .u32 x1 k2) (shrI .u32 x1 k3)) (wrapF .u32 (Int.sub (shlI .u32 (1:Int) k1) (1:Int)))))]),(oC [(zI (0:Int)),(.int .u32 (0:Int))])]) (.k0 [] [.tmp 2 false,.tmp 4 false] [2,4]) ?_
 refine .then (.rK (.ghs (fr 26 [(4,(pt 0 0))]) (hp 1 [(oC [(zI (Int.ofNat k1)),(.int .u32 (aand .u32 (aor .u32 (shlI .u32 x1 k2) (shrI .u32 x1 k3)) (wrapF .u32 (Int.sub (shlI .u32 (1:Int) k1) (1:Int)))))])]) (.k0 [] [.tmp 4 false] [4]) ?_))
 refine .ret ?_
 exact fin_rt (.agg ⟨[(zI (Int.ofNat k1)),(.int .u32 (aand .u32 (aor .u32 (shlI .u32 x1 k2) (shrI .u32 x1 k3)) (wrapF .u32 (Int.sub (shlI .u32 (1:Int) k1) (1:Int)))))]⟩) hm

def m66_ (pu:PureF) (n:Nat) (x0 x1:Int):OV:=
 (oo (pu 80 [(.agg ⟨[.int .i64 x0,.int .u32 x1]⟩)]) none fun v0=>(oo (toSl 1 v0) none fun s0=>(some (.agg ⟨[.int .i64 x0,Sl.v 1 s0]⟩))))
def m66 (pu:PureF) (n:Nat) (args:LV):OV:=
 (ll args none fun a0 args=>(ll args (oo (vAgg a0) none fun l0=>(ll l0 none fun v0 l0=>(ll l0 none fun v1 l0=>(ll l0 (oo (toI .i64 v0) none fun x0=>(oo (toI .u32 v1) none fun x1=>(m66_ pu n x0 x1))) fun _ _=>none)))) fun _ _=>none))
theorem r66 {call:CallF} (pu:PureF) (n:Nat) (hcall:call=callP tabs isP pu (inl pu)) {args:LV} {v:Value} (hm:m66 pu n args=some v) (_:∀ x∈args,closed2 x=true):args.length≤8∧Run tt call 0 c66_3 (Fr.made 8 args) (pureHeap tabs) (Fin tt 0 [.cell 2 24] v):=by
 subst hcall
 unfold m66 at hm
 replace hm:=ll_uncons hm;obtain⟨a0,args_0,rfl,hm⟩:=hm
 replace hm:=ll_end hm;obtain⟨rfl,hm⟩:=hm
 replace hm:=inv_vAgg hm;obtain⟨l0,rfl,hm⟩:=hm
 replace hm:=ll_uncons hm;obtain⟨v0,l10632_0,rfl,hm⟩:=hm
 replace hm:=ll_uncons hm;obtain⟨v1,l10632_1,rfl,hm⟩:=hm
 replace hm:=ll_end hm;obtain⟨rfl,hm⟩:=hm
 replace hm:=inv_toI hm;obtain⟨x0,rfl,hm⟩:=hm
 replace hm:=inv_toI hm;obtain⟨x1,rfl,hm⟩:=hm
 unfold m66_ at hm
 refine⟨by simp,?_⟩
 refine .same (F':=(fr 8 [(0,(.agg ⟨[zI x0,.int .u32 x1]⟩))])) (H':=(hp 0 [])) (by kernel_rfl) (by kernel_rfl) ?_
 refine .then (.rK (.ghs (fr 8 [(1,(pt 0 0)),(2,pt 1 0)]) (hp 2 [(oC [zI x0,.int .u32 x1]),(oC [(zI (0:Int)),(.slice none 0 0)])]) (.k0 [] [.tmp 1 false,.tmp 2 false] [1,2]) ?_))
 refine .then ?_
 replace hm:=oQS hm;obtain⟨s0,h0,hm⟩:=hm
 refine .reg (eC 3 ((oo (pu 80 [(.agg ⟨[zI x0,.int .u32 x1]⟩)]) none fun v=>some (v,(hp 2 [(oC [zI x0,.int .u32 x1]),(oC [(zI (0:Int)),(.slice none 0 0)])])))) (call_eq h0) (eE)) ?_
 refine .ghs (fr 8 [(2,(pt 0 0))]) (hp 1 [(oC [zI x0,Sl.v 1 s0])]) (.k0 [] [.tmp 2 false] [2]) ?_
 refine .ret ?_
 exact fin_rt (.agg ⟨[zI x0,Sl.v 1 s0]⟩) hm
end
end Go.RgJM
