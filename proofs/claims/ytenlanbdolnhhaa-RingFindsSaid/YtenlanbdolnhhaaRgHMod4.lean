/- Made from wip. -/
import Derived.Test.YtenlanbdolnhhaaRgHMod0x

set_option maxRecDepth 100000
set_option maxHeartbeats 20000000
set_option linter.unusedVariables false
namespace Go.RgHM
open Go.Sp Go.RgH
noncomputable section
def m63_0 (pu:PureF) (n:Nat):OV:=
 (some (.bool false))
def b63_1 (pu:PureF) (n:Nat) (ih0:Int→Int→Int→Sl→OV) (z1 z2 z3:Int) (s0:Sl):OV:=
 (bb (ilt z2 (Int.ofNat (Sl.n s0))) (oo (toN z2) none fun k1=>(bb (an (Nat.blt k1 (Sl.n s0)) true) (oo (nthL (Sl.cs s0) (k1*1)) none fun v0=>(oo (toI .i64 v0) none fun x0=>(bb (ieq x0 z1) (some (.bool true)) (ih0 z1 (wrapF .i64 (Int.add (Int.ofNat k1) (1:Int))) z3 s0)))) none)) (m63_0 pu n))
def l63_1 (pu:PureF) (n w:Nat):Int→Int→Int→Sl→OV:=
 Nat.rec (motive:=fun _=>Int→Int→Int→Sl→OV) (fun _ _ _ _=>none) (fun _ ih0=>b63_1 pu n ih0) w
def m63_ (pu:PureF) (n:Nat) (x0:Int) (s0:Sl) (x1:Int):OV:=
 (l63_1 pu n n x1 (0:Int) x0 s0)
def m63 (pu:PureF) (n:Nat) (args:LV):OV:=
 (ll args none fun a0 args=>(ll args none fun a1 args=>(ll args (oo (vAgg a0) none fun l0=>(ll l0 none fun v0 l0=>(ll l0 none fun v1 l0=>(ll l0 (oo (toI .i64 v0) none fun x0=>(oo (toSl 1 v1) none fun s0=>(oo (toI .i64 a1) none fun x1=>(m63_ pu n x0 s0 x1)))) fun _ _=>none)))) fun _ _=>none)))
theorem w63_0 (pu:PureF) (n:Nat) {v:Value} (hm:m63_0 pu n=some v):Run tt (callP tabs isP pu (inl pu)) 0 c63_18 (fr 20 []) (hp 0 []) (Fin tt 0 [.tmp 4] v):=by
 unfold m63_0 at hm
 refine .then (.rK (.ghs (fr 20 [(4,zB false)]) (hp 0 []) (.k0 [] [] [4]) ?_))
 refine .ret ?_
 exact fin_rt (zB false) hm
theorem r63 {call:CallF} (pu:PureF) (n:Nat) (hcall:call=callP tabs isP pu (inl pu)) {args:LV} {v:Value} (hm:m63 pu n args=some v) (_:∀ x∈args,closed2 x=true):args.length≤20∧Run tt call 0 c63_20 (Fr.made 20 args) (pureHeap tabs) (Fin tt 0 [.tmp 4] v):=by
 subst hcall
 unfold m63 at hm
 replace hm:=ll_uncons hm;obtain⟨a0,args_0,rfl,hm⟩:=hm
 replace hm:=ll_uncons hm;obtain⟨a1,args_1,rfl,hm⟩:=hm
 replace hm:=ll_end hm;obtain⟨rfl,hm⟩:=hm
 replace hm:=inv_vAgg hm;obtain⟨l0,rfl,hm⟩:=hm
 replace hm:=ll_uncons hm;obtain⟨v0,l17177_0,rfl,hm⟩:=hm
 replace hm:=ll_uncons hm;obtain⟨v1,l17177_1,rfl,hm⟩:=hm
 replace hm:=ll_end hm;obtain⟨rfl,hm⟩:=hm
 replace hm:=inv_toI hm;obtain⟨x0,rfl,hm⟩:=hm
 replace hm:=inv_toSl hm;obtain⟨s0,rfl,hm⟩:=hm
 replace hm:=inv_toI hm;obtain⟨x1,rfl,hm⟩:=hm
 unfold m63_ at hm
 refine⟨by simp,?_⟩
 refine .same (F':=(fr 20 [(0,(.agg ⟨[zI x0,Sl.v 1 s0]⟩)),(1,zI x1)])) (H':=(hp 0 [])) (by kernel_rfl) (by kernel_rfl) ?_
 refine .then (.rK (.ghs (fr 20 [(1,zI x1),(2,(pt 0 0))]) (hp 1 [(oC [zI x0,Sl.v 1 s0])]) (.k0 [] [.tmp 2 false] [1,2]) ?_))
 refine .join (v:=v) (fun y:Unit=>((fr 20 []),(hp 0 []))) (fun y=>m63_0 pu n) ?_ ?_
 ·rintro _ hm
  exact w63_0 pu n hm
 ·refine .then (.rK (.ghs (fr 20 [(1,zI x1),(2,(pt 0 0)),(5,(zI (0:Int)))]) (hp 1 [(oC [zI x0,Sl.v 1 s0])]) (.k0 [] [.tmp 2 false] [1,2,5]) ?_))
  refine .block (.loopM (v:=v) (fun y:Int×Int×Int×Sl=>((fr 20 [(1,(zI y.1)),(2,(pt 0 0)),(5,(zI y.2.1))]),(hp 1 [(oC [(zI y.2.2.1),(Sl.v 1 y.2.2.2)])]))) (fun w y=>l63_1 pu n w y.1 y.2.1 y.2.2.1 y.2.2.2) n ⟨(x1,(0:Int),x0,s0),hm,(.k0 [] [.tmp 2 false] [1,2,5])⟩ (fun _=>rfl) ?_)
  rintro w0 ⟨z1,z2,z3,s1⟩ hm
  replace hm:b63_1 pu n (l63_1 pu n w0) z1 z2 z3 s1=some v:=hm
  unfold b63_1 at hm
  refine .then (.then (.rK (.ghs (fr 20 [(1,zI z1),(2,(pt 0 0)),(5,zI z2),(10,(zB (ilt z2 (Int.ofNat (Sl.n s1)))))]) (hp 1 [(oC [zI z3,Sl.v 1 s1])]) (.k0 [] [.tmp 2 false] [1,2,5,10]) ?_)))
  replace hm:=bb_cases hm;rcases hm with⟨h0,hm⟩ | ⟨h0,hm⟩
  ·refine ifTt (ilt z2 (Int.ofNat (Sl.n s1))) h0 ?_
   refine .skip (.ghs (fr 20 [(1,zI z1),(2,(pt 0 0)),(5,zI z2)]) (hp 1 [(oC [zI z3,Sl.v 1 s1])]) (.k0 [] [.tmp 2 false] [1,2,5]) ?_)
   refine .then (.block (.then ?_))
   replace hm:=oo_inv hm;obtain⟨k1,h1,hm⟩:=hm
   obtain rfl:=toN_some h1
   replace hm:=bb_inv hm;obtain⟨h2,hm⟩:=hm
   replace hm:=oQI hm;obtain⟨x2,h3,hm⟩:=hm
   refine .reg (eC 3 (keep (hp 1 [(oC [zI z3,Sl.v 1 s1])]) (bb (an (Nat.blt k1 (Sl.n s1)) true) (some (fpV (k1*1) (Sl.cs s1))) none)) (keep_bb h2) (eD (keep (hp 1 [(oC [zI z3,Sl.v 1 s1])]) (nthL (Sl.cs s1) (k1*1))) (keep_eq h3) (eE))) ?_
   refine .ghs (fr 20 [(1,zI z1),(2,(pt 0 0)),(5,(zI (Int.ofNat k1))),(19,(zB (ieq x2 z1)))]) (hp 1 [(oC [zI z3,Sl.v 1 s1])]) (.k0 [] [.tmp 2 false] [1,2,5,19]) ?_
   replace hm:=bb_cases hm;rcases hm with⟨h4,hm⟩ | ⟨h4,hm⟩
   ·refine ifTt (ieq x2 z1) h4 ?_
    refine .then (.rK (.ghs (fr 20 [(4,zB true)]) (hp 0 []) (.k0 [] [] [4]) ?_))
    refine .ret ?_
    exact fin_rt (zB true) hm
   ·refine ifFt (ieq x2 z1) h4 ?_
    refine .skip (.ghs (fr 20 [(1,zI z1),(2,(pt 0 0)),(5,(zI (Int.ofNat k1)))]) (hp 1 [(oC [zI z3,Sl.v 1 s1])]) (.k0 [] [.tmp 2 false] [1,2,5]) ?_)
    refine .rK ?_
    exact⟨(z1,(wrapF .i64 (Int.add (Int.ofNat k1) (1:Int))),z3,s1),hm,(.k0 [] [.tmp 2 false] [1,2,5])⟩
  ·refine ifFt (ilt z2 (Int.ofNat (Sl.n s1))) h0 ?_
   refine .exit ?_
   exact⟨(),hm,(.k0 [] [] [])⟩
def m64_0 (pu:PureF) (n:Nat) (z1:Int):OV:=
 (some (.int .i64 z1))
def m64_ (pu:PureF) (n:Nat) (x0 x1:Int):OV:=
 (bb (nt (ieq x1 (0:Int))) (bb (ilt (Int.tmod x0 x1) (0:Int)) (m64_0 pu n (wrapF .i64 (Int.add (Int.tmod x0 x1) x1))) (m64_0 pu n (Int.tmod x0 x1))) none)
def m64 (pu:PureF) (n:Nat) (args:LV):OV:=
 (ll args none fun a0 args=>(ll args none fun a1 args=>(ll args (oo (toI .i64 a0) none fun x0=>(oo (toI .i64 a1) none fun x1=>(m64_ pu n x0 x1))) fun _ _=>none)))
theorem w64_0 (pu:PureF) (n:Nat) (z1:Int) {v:Value} (hm:m64_0 pu n z1=some v):Run tt (callP tabs isP pu (inl pu)) 0 c64_7 (fr 14 [(0,zI z1)]) (hp 0 []) (Fin tt 0 [.tmp 4] v):=by
 unfold m64_0 at hm
 refine .then (.rK (.ghs (fr 14 [(4,zI z1)]) (hp 0 []) (.k0 [] [] [4]) ?_))
 refine .ret ?_
 exact fin_rt (zI z1) hm
theorem r64 {call:CallF} (pu:PureF) (n:Nat) (hcall:call=callP tabs isP pu (inl pu)) {args:LV} {v:Value} (hm:m64 pu n args=some v) (_:∀ x∈args,closed2 x=true):args.length≤14∧Run tt call 0 c64_10 (Fr.made 14 args) (pureHeap tabs) (Fin tt 0 [.tmp 4] v):=by
 subst hcall
 unfold m64 at hm
 replace hm:=ll_uncons hm;obtain⟨a0,args_0,rfl,hm⟩:=hm
 replace hm:=ll_uncons hm;obtain⟨a1,args_1,rfl,hm⟩:=hm
 replace hm:=ll_end hm;obtain⟨rfl,hm⟩:=hm
 replace hm:=inv_toI hm;obtain⟨x0,rfl,hm⟩:=hm
 replace hm:=inv_toI hm;obtain⟨x1,rfl,hm⟩:=hm
 unfold m64_ at hm
 refine⟨by simp,?_⟩
 refine .same (F':=(fr 14 [(0,zI x0),(1,zI x1)])) (H':=(hp 0 [])) (by kernel_rfl) (by kernel_rfl) ?_
 refine .then (.rK (.ghs (fr 14 [(0,zI x0),(1,zI x1)]) (hp 0 []) (.k0 [] [] [0,1]) ?_))
 refine .then ?_
 replace hm:=bb_inv hm;obtain⟨h0,hm⟩:=hm
 refine .reg (eC 2 (keep (hp 0 []) (bb (ieq x1 (0:Int)) none (some (zI (Int.tmod x0 x1))))) (keep_nb h0) (eE)) ?_
 refine .ghs (fr 14 [(0,(zI (Int.tmod x0 x1))),(1,zI x1)]) (hp 0 []) (.k0 [] [] [0,1]) ?_
 refine .join (v:=v) (fun y:Int=>((fr 14 [(0,zI y)]),(hp 0 []))) (fun y=>m64_0 pu n y) ?_ ?_
 ·rintro z1 hm
  exact w64_0 pu n z1 hm
 ·refine .then (.rK (.ghs (fr 14 [(0,(zI (Int.tmod x0 x1))),(1,zI x1),(9,(zB (ilt (Int.tmod x0 x1) (0:Int))))]) (hp 0 []) (.k0 [] [] [0,1,9]) ?_))
  replace hm:=bb_cases hm;rcases hm with⟨h1,hm⟩ | ⟨h1,hm⟩
  ·refine ifTt (ilt (Int.tmod x0 x1) (0:Int)) h1 ?_
   refine .rK ?_
   exact⟨(wrapF .i64 (Int.add (Int.tmod x0 x1) x1)),hm,(.k0 [] [] [0])⟩
  ·refine ifFt (ilt (Int.tmod x0 x1) (0:Int)) h1 ?_
   refine .skip ?_
   exact⟨(Int.tmod x0 x1),hm,(.k0 [] [] [0])⟩

def m65_ (pu:PureF) (n:Nat) (x0 x1 x2:Int):OV:=
 (oo (toN x0) none fun k1=>(oo (toN x2) none fun k2=>(oo (toN (wrapF .i64 (Int.sub (Int.ofNat k1) (Int.ofNat k2)))) none fun k3=>(some (.agg ⟨[(.int .i64 (Int.ofNat k1)),(.int .u32 (aand .u32 (aor .u32 (shlI .u32 x1 k2) (shrI .u32 x1 k3)) (wrapF .u32 (Int.sub (shlI .u32 (1:Int) k1) (1:Int)))))]⟩)))))
def m65 (pu:PureF) (n:Nat) (args:LV):OV:=
 (ll args none fun a0 args=>(ll args none fun a1 args=>(ll args (oo (vAgg a0) none fun l0=>(ll l0 none fun v0 l0=>(ll l0 none fun v1 l0=>(ll l0 (oo (toI .i64 v0) none fun x0=>(oo (toI .u32 v1) none fun x1=>(oo (toI .i64 a1) none fun x2=>(m65_ pu n x0 x1 x2)))) fun _ _=>none)))) fun _ _=>none)))
theorem r65 {call:CallF} (pu:PureF) (n:Nat) (hcall:call=callP tabs isP pu (inl pu)) {args:LV} {v:Value} (hm:m65 pu n args=some v) (_:∀ x∈args,closed2 x=true):args.length≤26∧Run tt call 0 c65_7 (Fr.made 26 args) (pureHeap tabs) (Fin tt 0 [.cell 4 92] v):=by
 subst hcall
 unfold m65 at hm
 replace hm:=ll_uncons hm;obtain⟨a0,args_0,rfl,hm⟩:=hm
 replace hm:=ll_uncons hm;obtain⟨a1,args_1,rfl,hm⟩:=hm
 replace hm:=ll_end hm;obtain⟨rfl,hm⟩:=hm
 replace hm:=inv_vAgg hm;obtain⟨l0,rfl,hm⟩:=hm
 replace hm:=ll_uncons hm;obtain⟨v0,l17257_0,rfl,hm⟩:=hm
 replace hm:=ll_uncons hm;obtain⟨v1,l17257_1,rfl,hm⟩:=hm
 replace hm:=ll_end hm;obtain⟨rfl,hm⟩:=hm
 replace hm:=inv_toI hm;obtain⟨x0,rfl,hm⟩:=hm
 replace hm:=inv_toI hm;obtain⟨x1,rfl,hm⟩:=hm
 replace hm:=inv_toI hm;obtain⟨x2,rfl,hm⟩:=hm
 unfold m65_ at hm
 refine⟨by simp,?_⟩
 refine .same (F':=(fr 26 [(0,(.agg ⟨[zI x0,.int .u32 x1]⟩)),(1,zI x2)])) (H':=(hp 0 [])) (by kernel_rfl) (by kernel_rfl) ?_
 refine .then (.rK (.ghs (fr 26 [(1,zI x2),(2,(pt 0 0)),(4,pt 1 0)]) (hp 2 [(oC [zI x0,.int .u32 x1]),(oC [(zI (0:Int)),(.int .u32 (0:Int))])]) (.k0 [] [.tmp 2 false,.tmp 4 false] [1,2,4]) ?_))
 refine .then ?_
 replace hm:=oo_inv hm;obtain⟨k1,h0,hm⟩:=hm
 obtain rfl:=toN_some h0
 refine .rK (.ghs (fr 26 [(1,zI x2),(2,(pt 0 0)),(4,pt 1 0),(5,(.int .u32 (wrapF .u32 (Int.sub (shlI .u32 (1:Int) k1) (1:Int)))))]) (hp 2 [(oC [(zI (Int.ofNat k1)),.int .u32 x1]),(oC [(zI (0:Int)),(.int .u32 (0:Int))])]) (.k0 [] [.tmp 2 false,.tmp 4 false] [1,2,4,5]) ?_)
 refine .then ?_
 replace hm:=oo_inv hm;obtain⟨k2,h1,hm⟩:=hm
 obtain rfl:=toN_some h1
 replace hm:=oo_inv hm;obtain⟨k3,h2,hm⟩:=hm
 refine .reg (eC 9 (some ((zI (wrapF .i64 (Int.sub (Int.ofNat k1) (Int.ofNat k2)))),(hp 2 [(oC [(zI (Int.ofNat k1)),.int .u32 x1]),(oC [(zI (0:Int)),(.int .u32 (0:Int))])]))) (show _=some ((zI (Int.ofNat k3)),_) from (by rw[toN_some h2])) (eE)) ?_
 refine .ghs (fr 26 [(2,(pt 0 0)),(4,pt 1 0)]) (hp 2 [(oC [(zI (Int.ofNat k1)),(.int .u32 (aand .u32 (aor .u32 (shlI .u32 x1 k2) (shrI .u32 x1 k3)) (wrapF .u32 (Int.sub (shlI .u32 (1:Int) k1) (1:Int)))))]),(oC [(zI (0:Int)),(.int .u32 (0:Int))])]) (.k0 [] [.tmp 2 false,.tmp 4 false] [2,4]) ?_
 refine .then (.rK (.ghs (fr 26 [(4,(pt 0 0))]) (hp 1 [(oC [(zI (Int.ofNat k1)),(.int .u32 (aand .u32 (aor .u32 (shlI .u32 x1 k2) (shrI .u32 x1 k3)) (wrapF .u32 (Int.sub (shlI .u32 (1:Int) k1) (1:Int)))))])]) (.k0 [] [.tmp 4 false] [4]) ?_))
 refine .ret ?_
 exact fin_rt (.agg ⟨[(zI (Int.ofNat k1)),(.int .u32 (aand .u32 (aor .u32 (shlI .u32 x1 k2) (shrI .u32 x1 k3)) (wrapF .u32 (Int.sub (shlI .u32 (1:Int) k1) (1:Int)))))]⟩) hm

def m66_ (pu:PureF) (n:Nat) (x0 x1:Int):OV:=
 (oo (pu 80 [(.agg ⟨[.int .i64 x0,.int .u32 x1]⟩)]) none fun v0=>(oo (toSl 1 v0) none fun s0=>(some (.agg ⟨[.int .i64 x0,Sl.v 1 s0]⟩))))
def m66 (pu:PureF) (n:Nat) (args:LV):OV:=
 (ll args none fun a0 args=>(ll args (oo (vAgg a0) none fun l0=>(ll l0 none fun v0 l0=>(ll l0 none fun v1 l0=>(ll l0 (oo (toI .i64 v0) none fun x0=>(oo (toI .u32 v1) none fun x1=>(m66_ pu n x0 x1))) fun _ _=>none)))) fun _ _=>none))
theorem r66 {call:CallF} (pu:PureF) (n:Nat) (hcall:call=callP tabs isP pu (inl pu)) {args:LV} {v:Value} (hm:m66 pu n args=some v) (_:∀ x∈args,closed2 x=true):args.length≤8∧Run tt call 0 c66_3 (Fr.made 8 args) (pureHeap tabs) (Fin tt 0 [.cell 2 24] v):=by
 subst hcall
 unfold m66 at hm
 replace hm:=ll_uncons hm;obtain⟨a0,args_0,rfl,hm⟩:=hm
 replace hm:=ll_end hm;obtain⟨rfl,hm⟩:=hm
 replace hm:=inv_vAgg hm;obtain⟨l0,rfl,hm⟩:=hm
 replace hm:=ll_uncons hm;obtain⟨v0,l17279_0,rfl,hm⟩:=hm
 replace hm:=ll_uncons hm;obtain⟨v1,l17279_1,rfl,hm⟩:=hm
 replace hm:=ll_end hm;obtain⟨rfl,hm⟩:=hm
 replace hm:=inv_toI hm;obtain⟨x0,rfl,hm⟩:=hm
 replace hm:=inv_toI hm;obtain⟨x1,rfl,hm⟩:=hm
 unfold m66_ at hm
 refine⟨by simp,?_⟩
 refine .same (F':=(fr 8 [(0,(.agg ⟨[zI x0,.int .u32 x1]⟩))])) (H':=(hp 0 [])) (by kernel_rfl) (by kernel_rfl) ?_
 refine .then (.rK (.ghs (fr 8 [(1,(pt 0 0)),(2,pt 1 0)]) (hp 2 [(oC [zI x0,.int .u32 x1]),(oC [(zI (0:Int)),(.slice none 0 0)])]) (.k0 [] [.tmp 1 false,.tmp 2 false] [1,2]) ?_))
 refine .then ?_
 replace hm:=oQS hm;obtain⟨s0,h0,hm⟩:=hm
 refine .reg (eC 3 ((oo (pu 80 [(.agg ⟨[zI x0,.int .u32 x1]⟩)]) none fun v=>some (v,(hp 2 [(oC [zI x0,.int .u32 x1]),(oC [(zI (0:Int)),(.slice none 0 0)])])))) (call_eq h0) (eE)) ?_
 refine .ghs (fr 8 [(2,(pt 0 0))]) (hp 1 [(oC [zI x0,Sl.v 1 s0])]) (.k0 [] [.tmp 2 false] [2]) ?_
 refine .ret ?_
 exact fin_rt (.agg ⟨[zI x0,Sl.v 1 s0]⟩) hm
def m67_0 (pu:PureF) (n:Nat) (z1 z2:Int) (n0 c0:Nat) (q1:LV):OV:=
 (bb (allL closed1 q1) (bb (an (Nat.ble (0+n0*1) (len q1)) (allL closed1 (takeL (n0*1) (dropL 0 q1)))) (some (.agg ⟨[.int .i64 z2,(Sl.v 1 (Sl.mk n0 0 (takeL (n0*1) (dropL 0 q1))))]⟩)) none) none)
def m67_2 (pu:PureF) (n:Nat) (ih0:Int→Int→Int→Int→Sl→Int→Int→Nat→Nat→LV→OV) (z1 z2 z3 z4:Int) (s0:Sl) (z5 z6:Int) (n0 c0:Nat) (q1:LV):OV:=
 (bb (allL closed1 q1) (ih0 z1 z2 (wrapF .i64 (Int.add z3 (1:Int))) z4 s0 z5 z6 n0 c0 q1) none)
def m67_4 (pu:PureF) (n:Nat) (ih0:Int→Int→Int→Int→Sl→Int→Int→Nat→Nat→LV→OV) (ih1:Int→Int→Int→Int→Int→Sl→Int→Int→Nat→Nat→LV→OV) (z1 z2 z3 z4 z5:Int) (s0:Sl) (z6 z7:Int) (n0 c0:Nat) (q1:LV):OV:=
 (bb (allL closed1 q1) (ih1 z1 z2 z3 (wrapF .i64 (Int.add z4 (1:Int))) z5 s0 z6 z7 n0 c0 q1) none)
def b67_3 (pu:PureF) (n:Nat) (ih0:Int→Int→Int→Int→Sl→Int→Int→Nat→Nat→LV→OV) (ih1:Int→Int→Int→Int→Int→Sl→Int→Int→Nat→Nat→LV→OV) (z1 z2 z3 z4 z5:Int) (s0:Sl) (z6 z7:Int) (n0 c0:Nat) (q1:LV):OV:=
 (bb (allL closed1 q1) (bb (ilt z4 (Int.ofNat (Sl.n s0))) (oo (toN z4) none fun k1=>(bb (an (Nat.blt k1 (Sl.n s0)) true) (oo (nthL (Sl.cs s0) (k1*1)) none fun v0=>(oo (toI .i64 v0) none fun x0=>(oo (pu 64 [(.int .i64 (wrapF .i64 (Int.add (wrapF .i64 (Int.mul x0 z1)) z2))),.int .i64 z5]) none fun v1=>(oo (toI .i64 v1) none fun x1=>(bb (ieq x1 z3) (bb (growC 1 8 n0 c0 1 q1) (bb (allL closed1 (appL (dropL 0 q1) [.int .i64 z3])) (m67_4 pu n ih0 ih1 z1 z2 z3 (Int.ofNat k1) z5 s0 z6 z7 (n0+1) (2*(n0+1)+bb false 1 0) (appL (dropL 0 q1) [.int .i64 z3])) none) none) (m67_4 pu n ih0 ih1 z1 z2 z3 (Int.ofNat k1) z5 s0 z6 z7 n0 c0 q1)))))) none)) (m67_2 pu n ih0 z1 z2 z3 z5 s0 z6 z7 n0 c0 q1)) none)
def l67_3 (pu:PureF) (n:Nat) (ih0:Int→Int→Int→Int→Sl→Int→Int→Nat→Nat→LV→OV) (w:Nat):Int→Int→Int→Int→Int→Sl→Int→Int→Nat→Nat→LV→OV:=
 Nat.rec (motive:=fun _=>Int→Int→Int→Int→Int→Sl→Int→Int→Nat→Nat→LV→OV) (fun _ _ _ _ _ _ _ _ _ _ _=>none) (fun _ ih1=>b67_3 pu n ih0 ih1) w
def b67_1 (pu:PureF) (n:Nat) (ih0:Int→Int→Int→Int→Sl→Int→Int→Nat→Nat→LV→OV) (z1 z2 z3 z4:Int) (s0:Sl) (z5 z6:Int) (n0 c0:Nat) (q1:LV):OV:=
 (bb (allL closed1 q1) (bb (ilt z3 z4) (l67_3 pu n ih0 n z1 z2 z3 (0:Int) z4 s0 z5 z6 n0 c0 q1) (m67_0 pu n z5 z6 n0 c0 q1)) none)
def l67_1 (pu:PureF) (n w:Nat):Int→Int→Int→Int→Sl→Int→Int→Nat→Nat→LV→OV:=
 Nat.rec (motive:=fun _=>Int→Int→Int→Int→Sl→Int→Int→Nat→Nat→LV→OV) (fun _ _ _ _ _ _ _ _ _ _=>none) (fun _ ih0=>b67_1 pu n ih0) w
def m67_ (pu:PureF) (n:Nat) (x0:Int) (s0:Sl) (x1 x2:Int):OV:=
 (l67_1 pu n n x1 x2 (0:Int) x0 s0 (0:Int) x0 0 0 ([]:LV))
def m67 (pu:PureF) (n:Nat) (args:LV):OV:=
 (ll args none fun a0 args=>(ll args none fun a1 args=>(ll args none fun a2 args=>(ll args (oo (vAgg a0) none fun l0=>(ll l0 none fun v0 l0=>(ll l0 none fun v1 l0=>(ll l0 (oo (toI .i64 v0) none fun x0=>(oo (toSl 1 v1) none fun s0=>(oo (toI .i64 a1) none fun x1=>(oo (toI .i64 a2) none fun x2=>(m67_ pu n x0 s0 x1 x2))))) fun _ _=>none)))) fun _ _=>none))))
theorem w67_0 (pu:PureF) (n:Nat) (z1 z2:Int) (n0 c0:Nat) (q1:LV) {v:Value} (hm:m67_0 pu n z1 z2 n0 c0 q1=some v):Run tt (callP tabs isP pu (inl pu)) 0 c67_29 (fr 47 [(6,(pt 0 0)),(7,pt 1 0)]) (hp 3 [(oC [zI z1,(.slice none 0 0)]),(oC [zI z2,sc 2 0 1 n0 c0]),oC q1]) (Fin tt 0 [.cell 6 26] v):=by
 unfold m67_0 at hm
 refine .then (.rK ?_)
 replace hm:=bb_inv hm;obtain⟨h0,hm⟩:=hm
 refine .ghs (fr 47 [(6,(pt 0 0))]) (hp 2 [(oC [zI z2,sc 1 0 1 n0 c0]),oC q1]) (.k [2] [] [.tmp 6 true,.cell 0 1 false] [6] ⟨trF h0,trivial⟩) ?_
 refine .ret ?_
 replace hm:=bb_inv hm;obtain⟨h1,hm⟩:=hm
 exact finT_ret (.agg ⟨[zI z2,sc 1 0 1 n0 c0]⟩) (.agg ⟨[zI z2,(Sl.v 1 (Sl.mk n0 0 (takeL (n0*1) (dropL 0 q1))))]⟩) (by kernel_rfl) (Tell.agg (.cons (Tell.refl _ _ _) (.cons (Tell.frz (v':=(Sl.v 1 (Sl.mk n0 0 (takeL (n0*1) (dropL 0 q1))))) (H1:=(hp 2 [(oC [zI z2,sc 1 0 1 n0 c0]),.dead])) 0 false (an (Nat.ble (0+n0*1) (len q1)) (allL closed1 (takeL (n0*1) (dropL 0 q1)))) (by kernel_rfl) (by kernel_rfl) h1) (TellL.nil _)))) (by kernel_rfl) hm
theorem r67 {call:CallF} (pu:PureF) (n:Nat) (hcall:call=callP tabs isP pu (inl pu)) {args:LV} {v:Value} (hm:m67 pu n args=some v) (_:∀ x∈args,closed2 x=true):args.length≤47∧Run tt call 0 c67_32 (Fr.made 47 args) (pureHeap tabs) (Fin tt 0 [.cell 6 26] v):=by
 subst hcall
 unfold m67 at hm
 replace hm:=ll_uncons hm;obtain⟨a0,args_0,rfl,hm⟩:=hm
 replace hm:=ll_uncons hm;obtain⟨a1,args_1,rfl,hm⟩:=hm
 replace hm:=ll_uncons hm;obtain⟨a2,args_2,rfl,hm⟩:=hm
 replace hm:=ll_end hm;obtain⟨rfl,hm⟩:=hm
 replace hm:=inv_vAgg hm;obtain⟨l0,rfl,hm⟩:=hm
 replace hm:=ll_uncons hm;obtain⟨v0,l17295_0,rfl,hm⟩:=hm
 replace hm:=ll_uncons hm;obtain⟨v1,l17295_1,rfl,hm⟩:=hm
 replace hm:=ll_end hm;obtain⟨rfl,hm⟩:=hm
 replace hm:=inv_toI hm;obtain⟨x0,rfl,hm⟩:=hm
 replace hm:=inv_toSl hm;obtain⟨s0,rfl,hm⟩:=hm
 replace hm:=inv_toI hm;obtain⟨x1,rfl,hm⟩:=hm
 replace hm:=inv_toI hm;obtain⟨x2,rfl,hm⟩:=hm
 unfold m67_ at hm
 refine⟨by simp,?_⟩
 refine .same (F':=(fr 47 [(0,(.agg ⟨[zI x0,Sl.v 1 s0]⟩)),(1,zI x1),(2,zI x2)])) (H':=(hp 0 [])) (by kernel_rfl) (by kernel_rfl) ?_
 refine .then (.rK (.ghs (fr 47 [(1,zI x1),(2,zI x2),(3,(pt 0 0)),(6,pt 1 0)]) (hp 2 [(oC [zI x0,Sl.v 1 s0]),(oC [(zI (0:Int)),(.slice none 0 0)])]) (.k0 [] [.tmp 3 false,.tmp 6 false] [1,2,3,6]) ?_))
 refine .then (.rK (.ghs (fr 47 [(1,zI x1),(2,zI x2),(3,(pt 0 0)),(6,pt 1 0),(7,(pt 2 0))]) (hp 3 [(oC [zI x0,Sl.v 1 s0]),(oC [(zI (0:Int)),(.slice none 0 0)]),(oC [zI x0,(.slice none 0 0)])]) (.k0 [] [.tmp 3 false,.tmp 6 false,.tmp 7 false] [1,2,3,6,7]) ?_))
 refine .join (v:=v) (fun y:Int×Int×Nat×Nat×LV=>((fr 47 [(6,(pt 0 0)),(7,pt 1 0)]),(hp 3 [(oC [(zI y.1),(.slice none 0 0)]),(oC [(zI y.2.1),(sc 2 0 1 y.2.2.1 y.2.2.2.1)]),(oC y.2.2.2.2)]))) (fun y=>m67_0 pu n y.1 y.2.1 y.2.2.1 y.2.2.2.1 y.2.2.2.2) ?_ ?_
 ·rintro⟨z1,z2,n0,c0,q1⟩ hm
  exact w67_0 pu n z1 z2 n0 c0 q1 hm
 ·refine .then (.rK (.ghs (fr 47 [(1,zI x1),(2,zI x2),(3,(pt 0 0)),(6,pt 1 0),(7,(pt 2 0)),(8,(zI (0:Int)))]) (hp 3 [(oC [zI x0,Sl.v 1 s0]),(oC [(zI (0:Int)),(.slice none 0 0)]),(oC [zI x0,(.slice none 0 0)])]) (.k0 [] [.tmp 3 false,.tmp 6 false,.tmp 7 false] [1,2,3,6,7,8]) ?_))
  refine .block (.loopM (v:=v) (fun y:Int×Int×Int×Int×Sl×Int×Int×Nat×Nat×LV=>((fr 47 [(1,(zI y.1)),(2,(zI y.2.1)),(3,(pt 0 0)),(6,pt 1 0),(7,(pt 2 0)),(8,(zI y.2.2.1))]),(hp 4 [(oC [(zI y.2.2.2.1),(Sl.v 1 y.2.2.2.2.1)]),(oC [(zI y.2.2.2.2.2.1),(.slice none 0 0)]),(oC [(zI y.2.2.2.2.2.2.1),(sc 3 0 1 y.2.2.2.2.2.2.2.1 y.2.2.2.2.2.2.2.2.1)]),(oC y.2.2.2.2.2.2.2.2.2)]))) (fun w y=>l67_1 pu n w y.1 y.2.1 y.2.2.1 y.2.2.2.1 y.2.2.2.2.1 y.2.2.2.2.2.1 y.2.2.2.2.2.2.1 y.2.2.2.2.2.2.2.1 y.2.2.2.2.2.2.2.2.1 y.2.2.2.2.2.2.2.2.2) n ⟨(x1,x2,(0:Int),x0,s0,(0:Int),x0,0,0,([]:LV)),hm,(.thawC 2 1 1 [zI x0,(.slice none 0 0)] (imm:=false) (spent:=false) (anc:=[]) (by kernel_rfl) (by kernel_rfl) (by kernel_rfl) (by kernel_rfl) (.k0 [] [.tmp 3 false,.tmp 6 false,.tmp 7 true,.cell 2 1 false] [1,2,3,6,7,8]))⟩ (fun _=>rfl) ?_)
  rintro w0 ⟨z3,z4,z5,z6,s1,z7,z8,n1,c1,q2⟩ hm
  replace hm:b67_1 pu n (l67_1 pu n w0) z3 z4 z5 z6 s1 z7 z8 n1 c1 q2=some v:=hm
  unfold b67_1 at hm
  refine .then (.then (.rK ?_))
  replace hm:=bb_inv hm;obtain⟨h0,hm⟩:=hm
  refine .ghs (fr 47 [(1,zI z3),(2,zI z4),(3,(pt 0 0)),(6,pt 1 0),(7,(pt 2 0)),(8,zI z5),(16,(zB (ilt z5 z6)))]) (hp 4 [(oC [zI z6,Sl.v 1 s1]),(oC [zI z7,(.slice none 0 0)]),(oC [zI z8,sc 3 0 1 n1 c1]),oC q2]) (.k [3] [] [.tmp 3 false,.tmp 6 false,.tmp 7 true,.cell 2 1 false] [1,2,3,6,7,8,16] ⟨trF h0,trivial⟩) ?_
  replace hm:=bb_cases hm;rcases hm with⟨h1,hm⟩ | ⟨h1,hm⟩
  ·refine ifTt (ilt z5 z6) h1 ?_
   refine .skip (.ghs (fr 47 [(1,zI z3),(2,zI z4),(3,(pt 0 0)),(6,pt 1 0),(7,(pt 2 0)),(8,zI z5)]) (hp 4 [(oC [zI z6,Sl.v 1 s1]),(oC [zI z7,(.slice none 0 0)]),(oC [zI z8,sc 3 0 1 n1 c1]),oC q2]) (.k [3] [] [.tmp 3 false,.tmp 6 false,.tmp 7 true,.cell 2 1 false] [1,2,3,6,7,8] ⟨trF h0,trivial⟩) ?_)
   refine .join (v:=v) (fun y:Int×Int×Int×Int×Sl×Int×Int×Nat×Nat×LV=>((fr 47 [(1,(zI y.1)),(2,(zI y.2.1)),(3,(pt 0 0)),(6,pt 1 0),(7,(pt 2 0)),(8,(zI y.2.2.1))]),(hp 4 [(oC [(zI y.2.2.2.1),(Sl.v 1 y.2.2.2.2.1)]),(oC [(zI y.2.2.2.2.2.1),(.slice none 0 0)]),(oC [(zI y.2.2.2.2.2.2.1),(sc 3 0 1 y.2.2.2.2.2.2.2.1 y.2.2.2.2.2.2.2.2.1)]),(oC y.2.2.2.2.2.2.2.2.2)]))) (fun y=>m67_2 pu n (l67_1 pu n w0) y.1 y.2.1 y.2.2.1 y.2.2.2.1 y.2.2.2.2.1 y.2.2.2.2.2.1 y.2.2.2.2.2.2.1 y.2.2.2.2.2.2.2.1 y.2.2.2.2.2.2.2.2.1 y.2.2.2.2.2.2.2.2.2) ?_ ?_
   ·rintro⟨z9,z10,z11,z12,s2,z13,z14,n2,c2,q3⟩ hm
    unfold m67_2 at hm
    refine .rK ?_
    replace hm:=bb_inv hm;obtain⟨h2,hm⟩:=hm
    exact⟨(z9,z10,(wrapF .i64 (Int.add z11 (1:Int))),z12,s2,z13,z14,n2,c2,q3),hm,(.k [3] [] [.tmp 3 false,.tmp 6 false,.tmp 7 true,.cell 2 1 false] [1,2,3,6,7,8] ⟨trF h2,trivial⟩)⟩
   ·refine .block (.then (.rK (.ghs (fr 47 [(1,zI z3),(2,zI z4),(3,(pt 0 0)),(6,pt 1 0),(7,(pt 2 0)),(8,zI z5),(9,(zI (0:Int)))]) (hp 4 [(oC [zI z6,Sl.v 1 s1]),(oC [zI z7,(.slice none 0 0)]),(oC [zI z8,sc 3 0 1 n1 c1]),oC q2]) (.k [3] [] [.tmp 3 false,.tmp 6 false,.tmp 7 true,.cell 2 1 false] [1,2,3,6,7,8,9] ⟨trF h0,trivial⟩) ?_)))
    refine .block (.loopM (v:=v) (fun y:Int×Int×Int×Int×Int×Sl×Int×Int×Nat×Nat×LV=>((fr 47 [(1,(zI y.1)),(2,(zI y.2.1)),(3,(pt 0 0)),(6,pt 1 0),(7,(pt 2 0)),(8,(zI y.2.2.1)),(9,(zI y.2.2.2.1))]),(hp 4 [(oC [(zI y.2.2.2.2.1),(Sl.v 1 y.2.2.2.2.2.1)]),(oC [(zI y.2.2.2.2.2.2.1),(.slice none 0 0)]),(oC [(zI y.2.2.2.2.2.2.2.1),(sc 3 0 1 y.2.2.2.2.2.2.2.2.1 y.2.2.2.2.2.2.2.2.2.1)]),(oC y.2.2.2.2.2.2.2.2.2.2)]))) (fun w y=>l67_3 pu n (l67_1 pu n w0) w y.1 y.2.1 y.2.2.1 y.2.2.2.1 y.2.2.2.2.1 y.2.2.2.2.2.1 y.2.2.2.2.2.2.1 y.2.2.2.2.2.2.2.1 y.2.2.2.2.2.2.2.2.1 y.2.2.2.2.2.2.2.2.2.1 y.2.2.2.2.2.2.2.2.2.2) n ⟨(z3,z4,z5,(0:Int),z6,s1,z7,z8,n1,c1,q2),hm,(.k [3] [] [.tmp 3 false,.tmp 6 false,.tmp 7 true,.cell 2 1 false] [1,2,3,6,7,8,9] ⟨trF h0,trivial⟩)⟩ (fun _=>rfl) ?_)
    rintro w1 ⟨z15,z16,z17,z18,z19,s3,z20,z21,n3,c3,q4⟩ hm
    replace hm:b67_3 pu n (l67_1 pu n w0) (l67_3 pu n (l67_1 pu n w0) w1) z15 z16 z17 z18 z19 s3 z20 z21 n3 c3 q4=some v:=hm
    unfold b67_3 at hm
    refine .then (.then (.rK ?_))
    replace hm:=bb_inv hm;obtain⟨h3,hm⟩:=hm
    refine .ghs (fr 47 [(1,zI z15),(2,zI z16),(3,(pt 0 0)),(6,pt 1 0),(7,(pt 2 0)),(8,zI z17),(9,zI z18),(23,(zB (ilt z18 (Int.ofNat (Sl.n s3)))))]) (hp 4 [(oC [zI z19,Sl.v 1 s3]),(oC [zI z20,(.slice none 0 0)]),(oC [zI z21,sc 3 0 1 n3 c3]),oC q4]) (.k [3] [] [.tmp 3 false,.tmp 6 false,.tmp 7 true,.cell 2 1 false] [1,2,3,6,7,8,9,23] ⟨trF h3,trivial⟩) ?_
    replace hm:=bb_cases hm;rcases hm with⟨h4,hm⟩ | ⟨h4,hm⟩
    ·refine ifTt (ilt z18 (Int.ofNat (Sl.n s3))) h4 ?_
     refine .skip (.ghs (fr 47 [(1,zI z15),(2,zI z16),(3,(pt 0 0)),(6,pt 1 0),(7,(pt 2 0)),(8,zI z17),(9,zI z18)]) (hp 4 [(oC [zI z19,Sl.v 1 s3]),(oC [zI z20,(.slice none 0 0)]),(oC [zI z21,sc 3 0 1 n3 c3]),oC q4]) (.k [3] [] [.tmp 3 false,.tmp 6 false,.tmp 7 true,.cell 2 1 false] [1,2,3,6,7,8,9] ⟨trF h3,trivial⟩) ?_)
     refine .join (v:=v) (fun y:Int×Int×Int×Int×Int×Sl×Int×Int×Nat×Nat×LV=>((fr 47 [(1,(zI y.1)),(2,(zI y.2.1)),(3,(pt 0 0)),(6,pt 1 0),(7,(pt 2 0)),(8,(zI y.2.2.1)),(9,(zI y.2.2.2.1))]),(hp 4 [(oC [(zI y.2.2.2.2.1),(Sl.v 1 y.2.2.2.2.2.1)]),(oC [(zI y.2.2.2.2.2.2.1),(.slice none 0 0)]),(oC [(zI y.2.2.2.2.2.2.2.1),(sc 3 0 1 y.2.2.2.2.2.2.2.2.1 y.2.2.2.2.2.2.2.2.2.1)]),(oC y.2.2.2.2.2.2.2.2.2.2)]))) (fun y=>m67_4 pu n (l67_1 pu n w0) (l67_3 pu n (l67_1 pu n w0) w1) y.1 y.2.1 y.2.2.1 y.2.2.2.1 y.2.2.2.2.1 y.2.2.2.2.2.1 y.2.2.2.2.2.2.1 y.2.2.2.2.2.2.2.1 y.2.2.2.2.2.2.2.2.1 y.2.2.2.2.2.2.2.2.2.1 y.2.2.2.2.2.2.2.2.2.2) ?_ ?_
     ·rintro⟨z22,z23,z24,z25,z26,s4,z27,z28,n4,c4,q5⟩ hm
      unfold m67_4 at hm
      refine .rK ?_
      replace hm:=bb_inv hm;obtain⟨h5,hm⟩:=hm
      exact⟨(z22,z23,z24,(wrapF .i64 (Int.add z25 (1:Int))),z26,s4,z27,z28,n4,c4,q5),hm,(.k [3] [] [.tmp 3 false,.tmp 6 false,.tmp 7 true,.cell 2 1 false] [1,2,3,6,7,8,9] ⟨trF h5,trivial⟩)⟩
     ·refine .block (.then ?_)
      replace hm:=oo_inv hm;obtain⟨k1,h6,hm⟩:=hm
      obtain rfl:=toN_some h6
      replace hm:=bb_inv hm;obtain⟨h7,hm⟩:=hm
      replace hm:=oQI hm;obtain⟨x3,h8,hm⟩:=hm
      replace hm:=oQI hm;obtain⟨x4,h9,hm⟩:=hm
      refine .reg (eC 3 (keep (hp 4 [(oC [zI z19,Sl.v 1 s3]),(oC [zI z20,(.slice none 0 0)]),(oC [zI z21,sc 3 0 1 n3 c3]),oC q4]) (bb (an (Nat.blt k1 (Sl.n s3)) true) (some (fpV (k1*1) (Sl.cs s3))) none)) (keep_bb h7) (eD (keep (hp 4 [(oC [zI z19,Sl.v 1 s3]),(oC [zI z20,(.slice none 0 0)]),(oC [zI z21,sc 3 0 1 n3 c3]),oC q4]) (nthL (Sl.cs s3) (k1*1))) (keep_eq h8) (eC 7 ((oo (pu 64 [(zI (wrapF .i64 (Int.add (wrapF .i64 (Int.mul x3 z15)) z16))),zI z19]) none fun v=>some (v,(hp 4 [(oC [zI z19,Sl.v 1 s3]),(oC [zI z20,(.slice none 0 0)]),(oC [zI z21,sc 3 0 1 n3 c3]),oC q4])))) (call_eq h9) (eE)))) ?_
      refine .ghs (fr 47 [(1,zI z15),(2,zI z16),(3,(pt 0 0)),(6,pt 1 0),(7,(pt 2 0)),(8,zI z17),(9,(zI (Int.ofNat k1))),(39,(zB (ieq x4 z17)))]) (hp 4 [(oC [zI z19,Sl.v 1 s3]),(oC [zI z20,(.slice none 0 0)]),(oC [zI z21,sc 3 0 1 n3 c3]),oC q4]) (.k [3] [] [.tmp 3 false,.tmp 6 false,.tmp 7 true,.cell 2 1 false] [1,2,3,6,7,8,9,39] ⟨trF h3,trivial⟩) ?_
      replace hm:=bb_cases hm;rcases hm with⟨h10,hm⟩ | ⟨h10,hm⟩
      ·refine ifTt (ieq x4 z17) h10 ?_
       replace hm:=bb_inv hm;obtain⟨h11,hm⟩:=hm
       refine .reg (eC 4 (growD 1 8 n3 c3 1 3 q4 [zI z17] [] (hp 5 [(oC [zI z19,Sl.v 1 s3]),(oC [zI z20,(.slice none 0 0)]),(oC [zI z21,sc 3 0 1 n3 c3]),oC q4,(oC [zI z17])])) (growD_eq h11) (eE)) ?_
       replace hm:=bb_inv hm;obtain⟨h12,hm⟩:=hm
       exact⟨(z15,z16,z17,(Int.ofNat k1),z19,s3,z20,z21,(n3+1),(d2 (n3+1)),(appL (dropL 0 q4) [zI z17])),hm,(.k [5] [] [.tmp 3 false,.tmp 6 false,.tmp 7 true,.cell 2 1 false] [1,2,3,6,7,8,9] ⟨trF h12,trivial⟩)⟩
      ·refine ifFt (ieq x4 z17) h10 ?_
       refine .skip ?_
       exact⟨(z15,z16,z17,(Int.ofNat k1),z19,s3,z20,z21,n3,c3,q4),hm,(.k [3] [] [.tmp 3 false,.tmp 6 false,.tmp 7 true,.cell 2 1 false] [1,2,3,6,7,8,9] ⟨trF h3,trivial⟩)⟩
    ·refine ifFt (ilt z18 (Int.ofNat (Sl.n s3))) h4 ?_
     refine .exit ?_
     exact⟨(z15,z16,z17,z19,s3,z20,z21,n3,c3,q4),hm,(.k [3] [] [.tmp 3 false,.tmp 6 false,.tmp 7 true,.cell 2 1 false] [1,2,3,6,7,8] ⟨trF h3,trivial⟩)⟩
  ·refine ifFt (ilt z5 z6) h1 ?_
   refine .exit ?_
   exact⟨(z7,z8,n1,c1,q2),hm,(.k [3] [] [.tmp 6 false,.tmp 7 true,.cell 1 1 false] [6,7] ⟨trF h0,trivial⟩)⟩
def m68_0 (pu:PureF) (n:Nat) (z1 z2 z3 z4:Int):OV:=
 (some (.agg ⟨[.int .i64 z3,.int .u32 z4]⟩))
def m68_2 (pu:PureF) (n:Nat) (ih0:Sl→Int→Int→Int→Int→Int→Int→Int→Int→OV) (s0:Sl) (z1 z2 z3 z4 z5 z6 z7 z8:Int):OV:=
 (ih0 s0 z1 (wrapF .i64 (Int.add z2 (1:Int))) z3 z4 z5 z6 z7 z8)
def m68_3 (pu:PureF) (n:Nat) (ih0:Sl→Int→Int→Int→Int→Int→Int→Int→Int→OV) (s0:Sl) (z1 z2:Int) (b0:Bool) (z3 z4 z5 z6 z7 z8 z9 z10:Int):OV:=
 (bb b0 (m68_2 pu n ih0 s0 z1 z2 z3 z4 z5 z6 z9 z10) (m68_2 pu n ih0 s0 z1 z2 z3 z4 z5 z6 z7 z8))
def b68_1 (pu:PureF) (n:Nat) (ih0:Sl→Int→Int→Int→Int→Int→Int→Int→Int→OV) (s0:Sl) (z1 z2 z3 z4 z5 z6 z7 z8:Int):OV:=
 (bb (ilt z2 z1) (oo (toN z2) none fun k1=>(bb (an (Nat.blt k1 (Sl.n s0)) true) (oo (nthL (Sl.cs s0) (k1*1)) none fun v0=>(oo (toI .i64 v0) none fun x0=>(oo (pu 62 [(.agg ⟨[.int .i64 z3,.int .u32 z4]⟩),(.int .i64 (wrapF .i64 (Int.sub (.ofNat 0) x0)))]) none fun v1=>(oo (toI .i64 v1) none fun x1=>(oo (pu 65 [(.agg ⟨[.int .i64 z3,.int .u32 z4]⟩),.int .i64 x1]) none fun v2=>(oo (vAgg v2) none fun l0=>(ll l0 none fun v3 l0=>(ll l0 none fun v4 l0=>(ll l0 (oo (toI .i64 v3) none fun x2=>(oo (toI .u32 v4) none fun x3=>(bb (ieq (aand .u32 z8 (1:Int)) (0:Int)) (m68_3 pu n ih0 s0 z1 (Int.ofNat k1) true z3 z4 z5 z6 z7 z8 x2 x3) (oo (pu 80 [(.agg ⟨[.int .i64 x2,.int .u32 x3]⟩)]) none fun v5=>(oo (toSl 1 v5) none fun s1=>(oo (pu 80 [(.agg ⟨[.int .i64 z7,.int .u32 z8]⟩)]) none fun v6=>(oo (toSl 1 v6) none fun s2=>(oo (pu 52 [Sl.v 1 s1,Sl.v 1 s2]) none fun v7=>(oo (toI .i64 v7) none fun x4=>(m68_3 pu n ih0 s0 z1 (Int.ofNat k1) (ilt x4 (0:Int)) z3 z4 z5 z6 z7 z8 x2 x3)))))))))) fun _ _=>none))))))))) none)) (m68_0 pu n z5 z6 z7 z8))
def l68_1 (pu:PureF) (n w:Nat):Sl→Int→Int→Int→Int→Int→Int→Int→Int→OV:=
 Nat.rec (motive:=fun _=>Sl→Int→Int→Int→Int→Int→Int→Int→Int→OV) (fun _ _ _ _ _ _ _ _ _=>none) (fun _ ih0=>b68_1 pu n ih0) w
def m68_ (pu:PureF) (n:Nat) (x0 x1:Int):OV:=
 (oo (pu 80 [(.agg ⟨[.int .i64 x0,.int .u32 x1]⟩)]) none fun v0=>(oo (toSl 1 v0) none fun s0=>(l68_1 pu n n s0 (Int.ofNat (Sl.n s0)) (0:Int) x0 x1 (0:Int) (0:Int) x0 x1)))
def m68 (pu:PureF) (n:Nat) (args:LV):OV:=
 (ll args none fun a0 args=>(ll args (oo (vAgg a0) none fun l0=>(ll l0 none fun v0 l0=>(ll l0 none fun v1 l0=>(ll l0 (oo (toI .i64 v0) none fun x0=>(oo (toI .u32 v1) none fun x1=>(m68_ pu n x0 x1))) fun _ _=>none)))) fun _ _=>none))
theorem w68_0 (pu:PureF) (n:Nat) (z1 z2 z3 z4:Int) {v:Value} (hm:m68_0 pu n z1 z2 z3 z4=some v):Run tt (callP tabs isP pu (inl pu)) 0 c68_22 (fr 36 [(2,(pt 0 0)),(3,pt 1 0)]) (hp 2 [(oC [zI z1,.int .u32 z2]),(oC [zI z3,.int .u32 z4])]) (Fin tt 0 [.cell 2 92] v):=by
 unfold m68_0 at hm
 refine .then (.rK (.ghs (fr 36 [(2,(pt 0 0))]) (hp 1 [(oC [zI z3,.int .u32 z4])]) (.k0 [] [.tmp 2 false] [2]) ?_))
 refine .ret ?_
 exact fin_rt (.agg ⟨[zI z3,.int .u32 z4]⟩) hm
theorem r68 {call:CallF} (pu:PureF) (n:Nat) (hcall:call=callP tabs isP pu (inl pu)) {args:LV} {v:Value} (hm:m68 pu n args=some v) (_:∀ x∈args,closed2 x=true):args.length≤36∧Run tt call 0 c68_25 (Fr.made 36 args) (pureHeap tabs) (Fin tt 0 [.cell 2 92] v):=by
 subst hcall
 unfold m68 at hm
 replace hm:=ll_uncons hm;obtain⟨a0,args_0,rfl,hm⟩:=hm
 replace hm:=ll_end hm;obtain⟨rfl,hm⟩:=hm
 replace hm:=inv_vAgg hm;obtain⟨l0,rfl,hm⟩:=hm
 replace hm:=ll_uncons hm;obtain⟨v0,l19372_0,rfl,hm⟩:=hm
 replace hm:=ll_uncons hm;obtain⟨v1,l19372_1,rfl,hm⟩:=hm
 replace hm:=ll_end hm;obtain⟨rfl,hm⟩:=hm
 replace hm:=inv_toI hm;obtain⟨x0,rfl,hm⟩:=hm
 replace hm:=inv_toI hm;obtain⟨x1,rfl,hm⟩:=hm
 unfold m68_ at hm
 refine⟨by simp,?_⟩
 refine .same (F':=(fr 36 [(0,(.agg ⟨[zI x0,.int .u32 x1]⟩))])) (H':=(hp 0 [])) (by kernel_rfl) (by kernel_rfl) ?_
 refine .then (.rK (.ghs (fr 36 [(1,(pt 0 0)),(2,pt 1 0)]) (hp 2 [(oC [zI x0,.int .u32 x1]),(oC [(zI (0:Int)),(.int .u32 (0:Int))])]) (.k0 [] [.tmp 1 false,.tmp 2 false] [1,2]) ?_))
 refine .then (.rK (.ghs (fr 36 [(1,(pt 0 0)),(2,pt 1 0),(3,(pt 2 0))]) (hp 3 [(oC [zI x0,.int .u32 x1]),(oC [(zI (0:Int)),(.int .u32 (0:Int))]),(oC [zI x0,.int .u32 x1])]) (.k0 [] [.tmp 1 false,.tmp 2 false,.tmp 3 false] [1,2,3]) ?_))
 refine .join (v:=v) (fun y:Int×Int×Int×Int=>((fr 36 [(2,(pt 0 0)),(3,pt 1 0)]),(hp 2 [(oC [(zI y.1),(.int .u32 y.2.1)]),(oC [(zI y.2.2.1),(.int .u32 y.2.2.2)])]))) (fun y=>m68_0 pu n y.1 y.2.1 y.2.2.1 y.2.2.2) ?_ ?_
 ·rintro⟨z1,z2,z3,z4⟩ hm
  exact w68_0 pu n z1 z2 z3 z4 hm
 ·refine .then ?_
  replace hm:=oQS hm;obtain⟨s0,h0,hm⟩:=hm
  refine .reg (eC 1 ((oo (pu 80 [(.agg ⟨[zI x0,.int .u32 x1]⟩)]) none fun v=>some (v,(hp 3 [(oC [zI x0,.int .u32 x1]),(oC [(zI (0:Int)),(.int .u32 (0:Int))]),(oC [zI x0,.int .u32 x1])])))) (call_eq h0) (eE)) ?_
  refine .ghs (fr 36 [(1,(pt 0 0)),(2,pt 1 0),(3,(pt 2 0)),(9,Sl.v 1 s0),(10,(zI (Int.ofNat (Sl.n s0)))),(11,(zI (0:Int)))]) (hp 3 [(oC [zI x0,.int .u32 x1]),(oC [(zI (0:Int)),(.int .u32 (0:Int))]),(oC [zI x0,.int .u32 x1])]) (.k0 [] [.tmp 1 false,.tmp 2 false,.tmp 3 false] [1,2,3,9,10,11]) ?_
  refine .block (.loopM (v:=v) (fun y:Sl×Int×Int×Int×Int×Int×Int×Int×Int=>((fr 36 [(1,(pt 0 0)),(2,pt 1 0),(3,(pt 2 0)),(9,(Sl.v 1 y.1)),(10,(zI y.2.1)),(11,(zI y.2.2.1))]),(hp 3 [(oC [(zI y.2.2.2.1),(.int .u32 y.2.2.2.2.1)]),(oC [(zI y.2.2.2.2.2.1),(.int .u32 y.2.2.2.2.2.2.1)]),(oC [(zI y.2.2.2.2.2.2.2.1),(.int .u32 y.2.2.2.2.2.2.2.2)])]))) (fun w y=>l68_1 pu n w y.1 y.2.1 y.2.2.1 y.2.2.2.1 y.2.2.2.2.1 y.2.2.2.2.2.1 y.2.2.2.2.2.2.1 y.2.2.2.2.2.2.2.1 y.2.2.2.2.2.2.2.2) n ⟨(s0,(Int.ofNat (Sl.n s0)),(0:Int),x0,x1,(0:Int),(0:Int),x0,x1),hm,(.k0 [] [.tmp 1 false,.tmp 2 false,.tmp 3 false] [1,2,3,9,10,11])⟩ (fun _=>rfl) ?_)
  rintro w0 ⟨s1,z5,z6,z7,z8,z9,z10,z11,z12⟩ hm
  replace hm:b68_1 pu n (l68_1 pu n w0) s1 z5 z6 z7 z8 z9 z10 z11 z12=some v:=hm
  unfold b68_1 at hm
  refine .then (.rK (.ghs (fr 36 [(1,(pt 0 0)),(2,pt 1 0),(3,(pt 2 0)),(9,Sl.v 1 s1),(10,zI z5),(11,zI z6),(12,(zB (ilt z6 z5)))]) (hp 3 [(oC [zI z7,.int .u32 z8]),(oC [zI z9,.int .u32 z10]),(oC [zI z11,.int .u32 z12])]) (.k0 [] [.tmp 1 false,.tmp 2 false,.tmp 3 false] [1,2,3,9,10,11,12]) ?_))
  refine .then ?_
  replace hm:=bb_cases hm;rcases hm with⟨h1,hm⟩ | ⟨h1,hm⟩
  ·refine ifTt (ilt z6 z5) h1 ?_
   refine .skip (.ghs (fr 36 [(1,(pt 0 0)),(2,pt 1 0),(3,(pt 2 0)),(9,Sl.v 1 s1),(10,zI z5),(11,zI z6)]) (hp 3 [(oC [zI z7,.int .u32 z8]),(oC [zI z9,.int .u32 z10]),(oC [zI z11,.int .u32 z12])]) (.k0 [] [.tmp 1 false,.tmp 2 false,.tmp 3 false] [1,2,3,9,10,11]) ?_)
   refine .join (v:=v) (fun y:Sl×Int×Int×Int×Int×Int×Int×Int×Int=>((fr 36 [(1,(pt 0 0)),(2,pt 1 0),(3,(pt 2 0)),(9,(Sl.v 1 y.1)),(10,(zI y.2.1)),(11,(zI y.2.2.1))]),(hp 3 [(oC [(zI y.2.2.2.1),(.int .u32 y.2.2.2.2.1)]),(oC [(zI y.2.2.2.2.2.1),(.int .u32 y.2.2.2.2.2.2.1)]),(oC [(zI y.2.2.2.2.2.2.2.1),(.int .u32 y.2.2.2.2.2.2.2.2)])]))) (fun y=>m68_2 pu n (l68_1 pu n w0) y.1 y.2.1 y.2.2.1 y.2.2.2.1 y.2.2.2.2.1 y.2.2.2.2.2.1 y.2.2.2.2.2.2.1 y.2.2.2.2.2.2.2.1 y.2.2.2.2.2.2.2.2) ?_ ?_
   ·rintro⟨s2,z13,z14,z15,z16,z17,z18,z19,z20⟩ hm
    unfold m68_2 at hm
    refine .rK ?_
    exact⟨(s2,z13,(wrapF .i64 (Int.add z14 (1:Int))),z15,z16,z17,z18,z19,z20),hm,(.k0 [] [.tmp 1 false,.tmp 2 false,.tmp 3 false] [1,2,3,9,10,11])⟩
   ·refine .block (.then ?_)
    replace hm:=oo_inv hm;obtain⟨k1,h2,hm⟩:=hm
    obtain rfl:=toN_some h2
    replace hm:=bb_inv hm;obtain⟨h3,hm⟩:=hm
    replace hm:=oQI hm;obtain⟨x2,h4,hm⟩:=hm
    refine .reg (eD (keep (hp 3 [(oC [zI z7,.int .u32 z8]),(oC [zI z9,.int .u32 z10]),(oC [zI z11,.int .u32 z12])]) (bb (an (Nat.blt k1 (Sl.n s1)) true) (some (fpV (k1*1) (Sl.cs s1))) none)) (keep_bb h3) (eD (keep (hp 3 [(oC [zI z7,.int .u32 z8]),(oC [zI z9,.int .u32 z10]),(oC [zI z11,.int .u32 z12])]) (nthL (Sl.cs s1) (k1*1))) (keep_eq h4) (eE))) ?_
    refine .ghs (fr 36 [(1,(pt 0 0)),(2,pt 1 0),(3,(pt 2 0)),(5,zI x2),(9,Sl.v 1 s1),(10,zI z5),(11,(zI (Int.ofNat k1)))]) (hp 3 [(oC [zI z7,.int .u32 z8]),(oC [zI z9,.int .u32 z10]),(oC [zI z11,.int .u32 z12])]) (.k0 [] [.tmp 1 false,.tmp 2 false,.tmp 3 false] [1,2,3,5,9,10,11]) ?_
    refine .then ?_
    replace hm:=oQI hm;obtain⟨x3,h5,hm⟩:=hm
    replace hm:=oo_inv hm;obtain⟨v2,h6,hm⟩:=hm
    replace hm:=inv_vAgg hm;obtain⟨l1,rfl,hm⟩:=hm
    replace hm:=ll_uncons hm;obtain⟨v3,l20563_0,rfl,hm⟩:=hm
    replace hm:=ll_uncons hm;obtain⟨v4,l20563_1,rfl,hm⟩:=hm
    replace hm:=ll_end hm;obtain⟨rfl,hm⟩:=hm
    replace hm:=inv_toI hm;obtain⟨x4,rfl,hm⟩:=hm
    replace hm:=inv_toI hm;obtain⟨x5,rfl,hm⟩:=hm
    refine .reg (eC 5 ((oo (pu 62 [(.agg ⟨[zI z7,.int .u32 z8]⟩),(zI (wrapF .i64 (Int.sub (.ofNat 0) x2)))]) none fun v=>some (v,(hp 4 [(oC [zI z7,.int .u32 z8]),(oC [zI z9,.int .u32 z10]),(oC [zI z11,.int .u32 z12]),(oC [(zI (0:Int)),(.int .u32 (0:Int))])])))) (call_eq h5) (eD ((oo (pu 65 [(.agg ⟨[zI z7,.int .u32 z8]⟩),zI x3]) none fun v=>some (v,(hp 4 [(oC [zI z7,.int .u32 z8]),(oC [zI z9,.int .u32 z10]),(oC [zI z11,.int .u32 z12]),(oC [(zI (0:Int)),(.int .u32 (0:Int))])])))) (call_eq h6) (eE))) ?_
    refine .ghs (fr 36 [(1,(pt 0 0)),(2,pt 1 0),(3,(pt 2 0)),(6,(pt 3 0)),(9,Sl.v 1 s1),(10,zI z5),(11,(zI (Int.ofNat k1)))]) (hp 4 [(oC [zI z7,.int .u32 z8]),(oC [zI z9,.int .u32 z10]),(oC [zI z11,.int .u32 z12]),(oC [zI x4,.int .u32 x5])]) (.k0 [] [.tmp 1 false,.tmp 2 false,.tmp 3 false,.tmp 6 false] [1,2,3,6,9,10,11]) ?_
    refine .join (v:=v) (fun y:Sl×Int×Int×Bool×Int×Int×Int×Int×Int×Int×Int×Int=>((fr 36 [(1,(pt 0 0)),(2,pt 1 0),(3,(pt 2 0)),(6,(pt 3 0)),(9,(Sl.v 1 y.1)),(10,(zI y.2.1)),(11,(zI y.2.2.1)),(32,(zB y.2.2.2.1))]),(hp 4 [(oC [(zI y.2.2.2.2.1),(.int .u32 y.2.2.2.2.2.1)]),(oC [(zI y.2.2.2.2.2.2.1),(.int .u32 y.2.2.2.2.2.2.2.1)]),(oC [(zI y.2.2.2.2.2.2.2.2.1),(.int .u32 y.2.2.2.2.2.2.2.2.2.1)]),(oC [(zI y.2.2.2.2.2.2.2.2.2.2.1),(.int .u32 y.2.2.2.2.2.2.2.2.2.2.2)])]))) (fun y=>m68_3 pu n (l68_1 pu n w0) y.1 y.2.1 y.2.2.1 y.2.2.2.1 y.2.2.2.2.1 y.2.2.2.2.2.1 y.2.2.2.2.2.2.1 y.2.2.2.2.2.2.2.1 y.2.2.2.2.2.2.2.2.1 y.2.2.2.2.2.2.2.2.2.1 y.2.2.2.2.2.2.2.2.2.2.1 y.2.2.2.2.2.2.2.2.2.2.2) ?_ ?_
    ·rintro⟨s3,z21,z22,b0,z23,z24,z25,z26,z27,z28,z29,z30⟩ hm
     unfold m68_3 at hm
     replace hm:=bb_cases hm;rcases hm with⟨h7,hm⟩ | ⟨h7,hm⟩
     ·refine .ifT b0 (by kernel_rfl) h7 ?_
      refine .rK ?_
      exact⟨(s3,z21,z22,z23,z24,z25,z26,z29,z30),hm,(.k0 [] [.tmp 1 false,.tmp 2 false,.tmp 3 false] [1,2,3,9,10,11])⟩
     ·refine .ifF b0 (by kernel_rfl) h7 ?_
      refine .skip ?_
      exact⟨(s3,z21,z22,z23,z24,z25,z26,z27,z28),hm,(.k0 [] [.tmp 1 false,.tmp 2 false,.tmp 3 false] [1,2,3,9,10,11])⟩
    ·replace hm:=bb_cases hm;rcases hm with⟨h8,hm⟩ | ⟨h8,hm⟩
     ·refine .reg (eC 3 (some ((zB (ieq (aand .u32 z12 (1:Int)) (0:Int))),(hp 4 [(oC [zI z7,.int .u32 z8]),(oC [zI z9,.int .u32 z10]),(oC [zI z11,.int .u32 z12]),(oC [zI x4,.int .u32 x5])]))) (show _=some ((zB true),_) from (by rw[show (ieq (aand .u32 z12 (1:Int)) (0:Int))=true from h8])) (eE)) ?_
      exact⟨(s1,z5,(Int.ofNat k1),true,z7,z8,z9,z10,z11,z12,x4,x5),hm,(.k0 [] [.tmp 1 false,.tmp 2 false,.tmp 3 false,.tmp 6 false] [1,2,3,6,9,10,11,32])⟩
     ·replace hm:=oQS hm;obtain⟨s4,h9,hm⟩:=hm
      replace hm:=oQS hm;obtain⟨s5,h10,hm⟩:=hm
      replace hm:=oQI hm;obtain⟨x6,h11,hm⟩:=hm
      refine .reg (eC 3 (some ((zB (ieq (aand .u32 z12 (1:Int)) (0:Int))),(hp 4 [(oC [zI z7,.int .u32 z8]),(oC [zI z9,.int .u32 z10]),(oC [zI z11,.int .u32 z12]),(oC [zI x4,.int .u32 x5])]))) (show _=some ((zB false),_) from (by rw[show (ieq (aand .u32 z12 (1:Int)) (0:Int))=false from h8])) (eC 3 ((oo (pu 80 [(.agg ⟨[zI x4,.int .u32 x5]⟩)]) none fun v=>some (v,(hp 4 [(oC [zI z7,.int .u32 z8]),(oC [zI z9,.int .u32 z10]),(oC [zI z11,.int .u32 z12]),(oC [zI x4,.int .u32 x5])])))) (call_eq h9) (eD ((oo (pu 80 [(.agg ⟨[zI z11,.int .u32 z12]⟩)]) none fun v=>some (v,(hp 4 [(oC [zI z7,.int .u32 z8]),(oC [zI z9,.int .u32 z10]),(oC [zI z11,.int .u32 z12]),(oC [zI x4,.int .u32 x5])])))) (call_eq h10) (eD ((oo (pu 52 [Sl.v 1 s4,Sl.v 1 s5]) none fun v=>some (v,(hp 4 [(oC [zI z7,.int .u32 z8]),(oC [zI z9,.int .u32 z10]),(oC [zI z11,.int .u32 z12]),(oC [zI x4,.int .u32 x5])])))) (call_eq h11) (eE))))) ?_
      exact⟨(s1,z5,(Int.ofNat k1),(ilt x6 (0:Int)),z7,z8,z9,z10,z11,z12,x4,x5),hm,(.k0 [] [.tmp 1 false,.tmp 2 false,.tmp 3 false,.tmp 6 false] [1,2,3,6,9,10,11,32])⟩
  ·refine ifFt (ilt z6 z5) h1 ?_
   refine .exit ?_
   exact⟨(z9,z10,z11,z12),hm,(.k0 [] [.tmp 2 false,.tmp 3 false] [2,3])⟩
def m69_0 (pu:PureF) (n:Nat) (z1 z2:Int) (s0:Sl):OV:=
 (some (.agg ⟨[.int .i64 z2,Sl.v 1 s0]⟩))
def m69_2 (pu:PureF) (n:Nat) (ih0:Int→Int→Sl→Int→Int→Sl→OV) (z1 z2:Int) (s0:Sl) (z3 z4:Int) (s1:Sl):OV:=
 (ih0 (wrapF .i64 (Int.add z1 (1:Int))) z2 s0 z3 z4 s1)
def b69_1 (pu:PureF) (n:Nat) (ih0:Int→Int→Sl→Int→Int→Sl→OV) (z1 z2:Int) (s0:Sl) (z3 z4:Int) (s1:Sl):OV:=
 (bb (ilt z1 z2) (oo (pu 67 [(.agg ⟨[.int .i64 z2,Sl.v 1 s0]⟩),(.int .i64 (1:Int)),.int .i64 z1]) none fun v0=>(oo (vAgg v0) none fun l0=>(ll l0 none fun v1 l0=>(ll l0 none fun v2 l0=>(ll l0 (oo (toI .i64 v1) none fun x0=>(oo (toSl 1 v2) none fun s2=>(oo (pu 97 [Sl.v 1 s2,Sl.v 1 s1]) none fun v3=>(oo (vBool v3) none fun b0=>(bb b0 (m69_2 pu n ih0 z1 z2 s0 z3 x0 s2) (m69_2 pu n ih0 z1 z2 s0 z3 z4 s1)))))) fun _ _=>none))))) (m69_0 pu n z3 z4 s1))
def l69_1 (pu:PureF) (n w:Nat):Int→Int→Sl→Int→Int→Sl→OV:=
 Nat.rec (motive:=fun _=>Int→Int→Sl→Int→Int→Sl→OV) (fun _ _ _ _ _ _=>none) (fun _ ih0=>b69_1 pu n ih0) w
def m69_ (pu:PureF) (n:Nat) (x0:Int) (s0:Sl):OV:=
 (oo (pu 67 [(.agg ⟨[.int .i64 x0,Sl.v 1 s0]⟩),(.int .i64 (1:Int)),(.int .i64 (0:Int))]) none fun v0=>(oo (vAgg v0) none fun l0=>(ll l0 none fun v1 l0=>(ll l0 none fun v2 l0=>(ll l0 (oo (toI .i64 v1) none fun x1=>(oo (toSl 1 v2) none fun s1=>(l69_1 pu n n (1:Int) x0 s0 (0:Int) x1 s1))) fun _ _=>none)))))
def m69 (pu:PureF) (n:Nat) (args:LV):OV:=
 (ll args none fun a0 args=>(ll args (oo (vAgg a0) none fun l0=>(ll l0 none fun v0 l0=>(ll l0 none fun v1 l0=>(ll l0 (oo (toI .i64 v0) none fun x0=>(oo (toSl 1 v1) none fun s0=>(m69_ pu n x0 s0))) fun _ _=>none)))) fun _ _=>none))
theorem w69_0 (pu:PureF) (n:Nat) (z1 z2:Int) (s0:Sl) {v:Value} (hm:m69_0 pu n z1 z2 s0=some v):Run tt (callP tabs isP pu (inl pu)) 0 c69_20 (fr 24 [(2,(pt 0 0)),(3,pt 1 0)]) (hp 2 [(oC [zI z1,(.slice none 0 0)]),(oC [zI z2,Sl.v 1 s0])]) (Fin tt 0 [.cell 2 26] v):=by
 unfold m69_0 at hm
 refine .then (.rK (.ghs (fr 24 [(2,(pt 0 0))]) (hp 1 [(oC [zI z2,Sl.v 1 s0])]) (.k0 [] [.tmp 2 false] [2]) ?_))
 refine .ret ?_
 exact fin_rt (.agg ⟨[zI z2,Sl.v 1 s0]⟩) hm
theorem r69 {call:CallF} (pu:PureF) (n:Nat) (hcall:call=callP tabs isP pu (inl pu)) {args:LV} {v:Value} (hm:m69 pu n args=some v) (_:∀ x∈args,closed2 x=true):args.length≤24∧Run tt call 0 c69_23 (Fr.made 24 args) (pureHeap tabs) (Fin tt 0 [.cell 2 26] v):=by
 subst hcall
 unfold m69 at hm
 replace hm:=ll_uncons hm;obtain⟨a0,args_0,rfl,hm⟩:=hm
 replace hm:=ll_end hm;obtain⟨rfl,hm⟩:=hm
 replace hm:=inv_vAgg hm;obtain⟨l0,rfl,hm⟩:=hm
 replace hm:=ll_uncons hm;obtain⟨v0,l20662_0,rfl,hm⟩:=hm
 replace hm:=ll_uncons hm;obtain⟨v1,l20662_1,rfl,hm⟩:=hm
 replace hm:=ll_end hm;obtain⟨rfl,hm⟩:=hm
 replace hm:=inv_toI hm;obtain⟨x0,rfl,hm⟩:=hm
 replace hm:=inv_toSl hm;obtain⟨s0,rfl,hm⟩:=hm
 unfold m69_ at hm
 refine⟨by simp,?_⟩
 refine .same (F':=(fr 24 [(0,(.agg ⟨[zI x0,Sl.v 1 s0]⟩))])) (H':=(hp 0 [])) (by kernel_rfl) (by kernel_rfl) ?_
 refine .then (.rK (.ghs (fr 24 [(1,(pt 0 0)),(2,pt 1 0)]) (hp 2 [(oC [zI x0,Sl.v 1 s0]),(oC [(zI (0:Int)),(.slice none 0 0)])]) (.k0 [] [.tmp 1 false,.tmp 2 false] [1,2]) ?_))
 refine .then ?_
 replace hm:=oo_inv hm;obtain⟨v2,h0,hm⟩:=hm
 replace hm:=inv_vAgg hm;obtain⟨l1,rfl,hm⟩:=hm
 replace hm:=ll_uncons hm;obtain⟨v3,l20682_0,rfl,hm⟩:=hm
 replace hm:=ll_uncons hm;obtain⟨v4,l20682_1,rfl,hm⟩:=hm
 replace hm:=ll_end hm;obtain⟨rfl,hm⟩:=hm
 replace hm:=inv_toI hm;obtain⟨x1,rfl,hm⟩:=hm
 replace hm:=inv_toSl hm;obtain⟨s1,rfl,hm⟩:=hm
 refine .reg (eC 1 ((oo (pu 67 [(.agg ⟨[zI x0,Sl.v 1 s0]⟩),(zI (1:Int)),(zI (0:Int))]) none fun v=>some (v,(hp 2 [(oC [zI x0,Sl.v 1 s0]),(oC [(zI (0:Int)),(.slice none 0 0)])])))) (call_eq h0) (eE)) ?_
 refine .ghs (fr 24 [(1,(pt 0 0)),(2,pt 1 0),(3,(pt 2 0))]) (hp 3 [(oC [zI x0,Sl.v 1 s0]),(oC [(zI (0:Int)),(.slice none 0 0)]),(oC [zI x1,Sl.v 1 s1])]) (.k0 [] [.tmp 1 false,.tmp 2 false,.tmp 3 false] [1,2,3]) ?_
 refine .join (v:=v) (fun y:Int×Int×Sl=>((fr 24 [(2,(pt 0 0)),(3,pt 1 0)]),(hp 2 [(oC [(zI y.1),(.slice none 0 0)]),(oC [(zI y.2.1),(Sl.v 1 y.2.2)])]))) (fun y=>m69_0 pu n y.1 y.2.1 y.2.2) ?_ ?_
 ·rintro⟨z1,z2,s2⟩ hm
  exact w69_0 pu n z1 z2 s2 hm
 ·refine .then (.rK (.ghs (fr 24 [(1,(pt 0 0)),(2,pt 1 0),(3,(pt 2 0)),(4,(zI (1:Int)))]) (hp 3 [(oC [zI x0,Sl.v 1 s0]),(oC [(zI (0:Int)),(.slice none 0 0)]),(oC [zI x1,Sl.v 1 s1])]) (.k0 [] [.tmp 1 false,.tmp 2 false,.tmp 3 false] [1,2,3,4]) ?_))
  refine .block (.loopM (v:=v) (fun y:Int×Int×Sl×Int×Int×Sl=>((fr 24 [(1,(pt 0 0)),(2,pt 1 0),(3,(pt 2 0)),(4,(zI y.1))]),(hp 3 [(oC [(zI y.2.1),(Sl.v 1 y.2.2.1)]),(oC [(zI y.2.2.2.1),(.slice none 0 0)]),(oC [(zI y.2.2.2.2.1),(Sl.v 1 y.2.2.2.2.2)])]))) (fun w y=>l69_1 pu n w y.1 y.2.1 y.2.2.1 y.2.2.2.1 y.2.2.2.2.1 y.2.2.2.2.2) n ⟨((1:Int),x0,s0,(0:Int),x1,s1),hm,(.k0 [] [.tmp 1 false,.tmp 2 false,.tmp 3 false] [1,2,3,4])⟩ (fun _=>rfl) ?_)
  rintro w0 ⟨z3,z4,s3,z5,z6,s4⟩ hm
  replace hm:b69_1 pu n (l69_1 pu n w0) z3 z4 s3 z5 z6 s4=some v:=hm
  unfold b69_1 at hm
  refine .then (.then (.rK (.ghs (fr 24 [(1,(pt 0 0)),(2,pt 1 0),(3,(pt 2 0)),(4,zI z3),(11,(zB (ilt z3 z4)))]) (hp 3 [(oC [zI z4,Sl.v 1 s3]),(oC [zI z5,(.slice none 0 0)]),(oC [zI z6,Sl.v 1 s4])]) (.k0 [] [.tmp 1 false,.tmp 2 false,.tmp 3 false] [1,2,3,4,11]) ?_)))
  replace hm:=bb_cases hm;rcases hm with⟨h1,hm⟩ | ⟨h1,hm⟩
  ·refine ifTt (ilt z3 z4) h1 ?_
   refine .skip (.ghs (fr 24 [(1,(pt 0 0)),(2,pt 1 0),(3,(pt 2 0)),(4,zI z3)]) (hp 3 [(oC [zI z4,Sl.v 1 s3]),(oC [zI z5,(.slice none 0 0)]),(oC [zI z6,Sl.v 1 s4])]) (.k0 [] [.tmp 1 false,.tmp 2 false,.tmp 3 false] [1,2,3,4]) ?_)
   refine .join (v:=v) (fun y:Int×Int×Sl×Int×Int×Sl=>((fr 24 [(1,(pt 0 0)),(2,pt 1 0),(3,(pt 2 0)),(4,(zI y.1))]),(hp 3 [(oC [(zI y.2.1),(Sl.v 1 y.2.2.1)]),(oC [(zI y.2.2.2.1),(.slice none 0 0)]),(oC [(zI y.2.2.2.2.1),(Sl.v 1 y.2.2.2.2.2)])]))) (fun y=>m69_2 pu n (l69_1 pu n w0) y.1 y.2.1 y.2.2.1 y.2.2.2.1 y.2.2.2.2.1 y.2.2.2.2.2) ?_ ?_
   ·rintro⟨z7,z8,s5,z9,z10,s6⟩ hm
    unfold m69_2 at hm
    refine .rK ?_
    exact⟨((wrapF .i64 (Int.add z7 (1:Int))),z8,s5,z9,z10,s6),hm,(.k0 [] [.tmp 1 false,.tmp 2 false,.tmp 3 false] [1,2,3,4])⟩
   ·refine .block (.then ?_)
    replace hm:=oo_inv hm;obtain⟨v5,h2,hm⟩:=hm
    replace hm:=inv_vAgg hm;obtain⟨l2,rfl,hm⟩:=hm
    replace hm:=ll_uncons hm;obtain⟨v6,l20976_0,rfl,hm⟩:=hm
    replace hm:=ll_uncons hm;obtain⟨v7,l20976_1,rfl,hm⟩:=hm
    replace hm:=ll_end hm;obtain⟨rfl,hm⟩:=hm
    replace hm:=inv_toI hm;obtain⟨x2,rfl,hm⟩:=hm
    replace hm:=inv_toSl hm;obtain⟨s7,rfl,hm⟩:=hm
    refine .reg (eC 2 ((oo (pu 67 [(.agg ⟨[zI z4,Sl.v 1 s3]⟩),(zI (1:Int)),zI z3]) none fun v=>some (v,(hp 3 [(oC [zI z4,Sl.v 1 s3]),(oC [zI z5,(.slice none 0 0)]),(oC [zI z6,Sl.v 1 s4])])))) (call_eq h2) (eE)) ?_
    refine .ghs (fr 24 [(1,(pt 0 0)),(2,pt 1 0),(3,(pt 2 0)),(4,zI z3),(5,(pt 3 0))]) (hp 4 [(oC [zI z4,Sl.v 1 s3]),(oC [zI z5,(.slice none 0 0)]),(oC [zI z6,Sl.v 1 s4]),(oC [zI x2,Sl.v 1 s7])]) (.k0 [] [.tmp 1 false,.tmp 2 false,.tmp 3 false,.tmp 5 false] [1,2,3,4,5]) ?_
    refine .then ?_
    replace hm:=oQB hm;obtain⟨b0,h3,hm⟩:=hm
    refine .reg (eC 4 ((oo (pu 97 [Sl.v 1 s7,Sl.v 1 s4]) none fun v=>some (v,(hp 4 [(oC [zI z4,Sl.v 1 s3]),(oC [zI z5,(.slice none 0 0)]),(oC [zI z6,Sl.v 1 s4]),(oC [zI x2,Sl.v 1 s7])])))) (call_eq h3) (eE)) ?_
    refine .ghs (fr 24 [(1,(pt 0 0)),(2,pt 1 0),(3,(pt 2 0)),(4,zI z3),(5,(pt 3 0)),(21,zB b0)]) (hp 4 [(oC [zI z4,Sl.v 1 s3]),(oC [zI z5,(.slice none 0 0)]),(oC [zI z6,Sl.v 1 s4]),(oC [zI x2,Sl.v 1 s7])]) (.k0 [] [.tmp 1 false,.tmp 2 false,.tmp 3 false,.tmp 5 false] [1,2,3,4,5,21]) ?_
    replace hm:=bb_cases hm;rcases hm with⟨h4,hm⟩ | ⟨h4,hm⟩
    ·refine .ifT b0 (by kernel_rfl) h4 ?_
     refine .rK ?_
     exact⟨(z3,z4,s3,z5,x2,s7),hm,(.k0 [] [.tmp 1 false,.tmp 2 false,.tmp 3 false] [1,2,3,4])⟩
    ·refine .ifF b0 (by kernel_rfl) h4 ?_
     refine .skip ?_
     exact⟨(z3,z4,s3,z5,z6,s4),hm,(.k0 [] [.tmp 1 false,.tmp 2 false,.tmp 3 false] [1,2,3,4])⟩
  ·refine ifFt (ilt z3 z4) h1 ?_
   refine .exit ?_
   exact⟨(z5,z6,s4),hm,(.k0 [] [.tmp 2 false,.tmp 3 false] [2,3])⟩
end
end Go.RgHM
