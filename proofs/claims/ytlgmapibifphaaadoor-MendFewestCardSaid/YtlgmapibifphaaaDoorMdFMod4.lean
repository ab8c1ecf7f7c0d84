/- Made from wip. -/
import Derived.Test.YtlgmapibifphaaaDoorMdFMod0x

set_option maxRecDepth 100000
set_option maxHeartbeats 20000000
set_option linter.unusedVariables false
namespace Go.MdFM
open Go.Sp Go.MdF
noncomputable section

def m50_ (pu:PureF) (n:Nat) (x0:Int) (s0 s1:Sl):OV:=
 (oo (pu 56 [(.agg ⟨[.int .i64 x0,Sl.v 1 s0,Sl.v 1 s1]⟩)]) none fun v0=>(oo (toSl 1 v0) none fun s2=>(oo (pu 10700 [(.agg ⟨[.int .i64 x0,Sl.v 1 s0,Sl.v 1 s1]⟩),Sl.v 1 s2,(Sl.v 1 (Sl.mk 0 2 [])),(Sl.v 1 (Sl.mk 0 2 []))]) none fun v1=>(oo (vTup v1) none fun l0=>(ll l0 none fun v2 l0=>(ll l0 (oo (toSl 1 v2) none fun s3=>(some (Sl.v 1 s3))) fun _ _=>none))))))
def m50 (pu:PureF) (n:Nat) (args:LV):OV:=
 (ll args none fun a0 args=>(ll args (oo (vAgg a0) none fun l0=>(ll l0 none fun v0 l0=>(ll l0 none fun v1 l0=>(ll l0 none fun v2 l0=>(ll l0 (oo (toI .i64 v0) none fun x0=>(oo (toSl 1 v1) none fun s0=>(oo (toSl 1 v2) none fun s1=>(m50_ pu n x0 s0 s1)))) fun _ _=>none))))) fun _ _=>none))
theorem r50 {call:CallF} (pu:PureF) (n:Nat) (hcall:call = callP tabs isP pu (inl pu)) {args:LV} {v:Value} (hm:m50 pu n args = some v) (_:∀ x ∈ args,closed2 x = true):args.length≤7∧Run tt call 1 c50_3 (Fr.made 7 args) (pureHeap tabs) (Fin tt 1 [.tmp 2] v):=by
 subst hcall
 unfold m50 at hm
 replace hm:=ll_uncons hm;obtain ⟨a0,args_0,rfl,hm⟩:=hm
 replace hm:=ll_end hm;obtain ⟨rfl,hm⟩:=hm
 replace hm:=inv_vAgg hm;obtain ⟨l0,rfl,hm⟩:=hm
 replace hm:=ll_uncons hm;obtain ⟨v0,l4910_0,rfl,hm⟩:=hm
 replace hm:=ll_uncons hm;obtain ⟨v1,l4910_1,rfl,hm⟩:=hm
 replace hm:=ll_uncons hm;obtain ⟨v2,l4910_2,rfl,hm⟩:=hm
 replace hm:=ll_end hm;obtain ⟨rfl,hm⟩:=hm
 replace hm:=inv_toI hm;obtain ⟨x0,rfl,hm⟩:=hm
 replace hm:=inv_toSl hm;obtain ⟨s0,rfl,hm⟩:=hm
 replace hm:=inv_toSl hm;obtain ⟨s1,rfl,hm⟩:=hm
 unfold m50_ at hm
 refine ⟨by simp,?_⟩
 refine .same (F':=(fr 7 [(0,(.agg ⟨[zI x0,Sl.v 1 s0,Sl.v 1 s1]⟩))])) (H':=(hp 1 [(oT tab0)])) (by kernel_rfl) (by kernel_rfl) ?_
 refine .then (.rK ?_)
 refine .ghs (fr 7 [(1,pt 1 0)]) (hT 2 [(oC [zI x0,Sl.v 1 s0,Sl.v 1 s1])]) (.k0 [false] [.tmp 1 false] [1]) ?_
 refine .then ?_
 replace hm:=oo_inv hm;obtain ⟨v3,h0,hm⟩:=hm
 replace hm:=inv_toSl hm;obtain ⟨s2,rfl,hm⟩:=hm
 replace hm:=oo_inv hm;obtain ⟨v4,h1,hm⟩:=hm
 replace hm:=inv_vTup hm;obtain ⟨l1,rfl,hm⟩:=hm
 replace hm:=ll_uncons hm;obtain ⟨v5,l19233_0,rfl,hm⟩:=hm
 replace hm:=ll_end hm;obtain ⟨rfl,hm⟩:=hm
 replace hm:=inv_toSl hm;obtain ⟨s3,rfl,hm⟩:=hm
 refine .reg (eC 2 ((oo (pu 56 [(.agg ⟨[zI x0,Sl.v 1 s0,Sl.v 1 s1]⟩)]) none fun v=>some (v,(hT 2 [(oC [zI x0,Sl.v 1 s0,Sl.v 1 s1])])))) (call_eq h0) (eD (objG tabs [[none,some 1,some 1],[some 1],[some 1],[some 1]] 4 [] [] (pu 10700) [(.agg ⟨[zI x0,Sl.v 1 s0,Sl.v 1 s1]⟩),Sl.v 1 s2,(.slice none 0 0),(.slice none 0 0)] (hT 2 [(oC [zI x0,Sl.v 1 s0,Sl.v 1 s1])])) (objG_eq (as:=[(.agg ⟨[zI x0,Sl.v 1 s0,Sl.v 1 s1]⟩),Sl.v 1 s2,(Sl.v 1 (Sl.mk 0 2 [])),(Sl.v 1 (Sl.mk 0 2 []))]) (H1:=(hT 2 [(oC [zI x0,Sl.v 1 s0,Sl.v 1 s1])])) (gvAL_c (gvA_a (gvL_c gv_n (gvL_c (gv_s (giveV_cl (z:=1) (v:=(Sl.v 1 s0)) (H:=(hT 2 [(oC [zI x0,Sl.v 1 s0,Sl.v 1 s1])])) (by kernel_rfl) (by kernel_rfl) (by kernel_rfl))) (gvL_c (gv_s (giveV_cl (z:=1) (v:=(Sl.v 1 s1)) (H:=(hT 2 [(oC [zI x0,Sl.v 1 s0,Sl.v 1 s1])])) (by kernel_rfl) (by kernel_rfl) (by kernel_rfl))) gvL_n)))) (gvAL_c (gvA_1 (gv_s (giveV_cl (z:=1) (v:=(Sl.v 1 s2)) (H:=(hT 2 [(oC [zI x0,Sl.v 1 s0,Sl.v 1 s1])])) (by kernel_rfl) (by kernel_rfl) (by kernel_rfl)))) (gvAL_c (gvA_1 (gv_s (giveV_nil (z:=1) (H:=(hT 2 [(oC [zI x0,Sl.v 1 s0,Sl.v 1 s1])]))))) (gvAL_c (gvA_1 (gv_s (giveV_nil (z:=1) (H:=(hT 2 [(oC [zI x0,Sl.v 1 s0,Sl.v 1 s1])]))))) gvAL_n)))) (objF_eq (H2:=(hT 2 [(oC [zI x0,Sl.v 1 s0,Sl.v 1 s1])])) (v:=(Sl.v 1 s3)) (v':=(Sl.v 1 s3)) [some 0] [] [] [(.agg ⟨[zI x0,Sl.v 1 s0,Sl.v 1 s1]⟩),Sl.v 1 s2,(Sl.v 1 (Sl.mk 0 2 [])),(Sl.v 1 (Sl.mk 0 2 []))] [] [] [some 0,none] [] [] (by kernel_rfl) mapO_n (Eq.trans (by kernel_rfl) h1) mapO_n mapO_n)) (eE))) ?_
 refine .ghs (fr 7 [(2,Sl.v 1 s3)]) (hp 1 [(oT tab0)]) (.k0 [false] [] [2]) ?_
 refine .ret ?_
 exact fin_ret (Sl.v 1 s3) (by kernel_rfl) (by kernel_rfl) hm
def m51_0 (pu:PureF) (n:Nat) (z0:Int):OV:=
 (some (.int .u16 z0))
def m51_2 (pu:PureF) (n:Nat) (ih0:Int→Sl→Int→Int→Int→Sl→Sl→OV) (z0:Int) (s0:Sl) (z1 z2 z3:Int) (s1 s2:Sl):OV:=
 (ih0 z0 s0 z1 (wrapF .i64 (Int.add z2 (1:Int))) z3 s1 s2)
def b51_1 (pu:PureF) (n:Nat) (ih0:Int→Sl→Int→Int→Int→Sl→Sl→OV) (z0:Int) (s0:Sl) (z1 z2 z3:Int) (s1 s2:Sl):OV:=
 (bb (ilt z2 z1) (oo (toN z2) none fun k1=>(bb (an (Nat.blt k1 (Sl.n s0)) true) (oo (nthL (Sl.cs s0) (k1 * 1)) none fun v0=>(oo (toI .i64 v0) none fun x0=>(bb (an (Nat.blt k1 (Sl.n s2)) true) (oo (nthL (Sl.cs s2) (k1 * 1)) none fun v1=>(oo (toI .i64 v1) none fun x1=>(bb (nt (ieq x0 x1)) (m51_2 pu n ih0 (aor .u16 z0 (shlI .u16 (1:Int) k1)) s0 z1 (Int.ofNat k1) z3 s1 s2) (m51_2 pu n ih0 z0 s0 z1 (Int.ofNat k1) z3 s1 s2)))) none))) none)) (m51_0 pu n z0))
def l51_1 (pu:PureF) (n w:Nat):Int→Sl→Int→Int→Int→Sl→Sl→OV:=
 Nat.rec (motive:=fun _=>Int→Sl→Int→Int→Int→Sl→Sl→OV) (fun _ _ _ _ _ _ _=>none) (fun _ ih0=>b51_1 pu n ih0) w
def m51_ (pu:PureF) (n:Nat) (x0:Int) (s0 s1:Sl):OV:=
 (l51_1 pu n n (0:Int) s0 (Int.ofNat (Sl.n s0)) (0:Int) x0 s0 s1)
def m51 (pu:PureF) (n:Nat) (args:LV):OV:=
 (ll args none fun a0 args=>(ll args (oo (vAgg a0) none fun l0=>(ll l0 none fun v0 l0=>(ll l0 none fun v1 l0=>(ll l0 none fun v2 l0=>(ll l0 (oo (toI .i64 v0) none fun x0=>(oo (toSl 1 v1) none fun s0=>(oo (toSl 1 v2) none fun s1=>(m51_ pu n x0 s0 s1)))) fun _ _=>none))))) fun _ _=>none))
theorem w51_0 (pu:PureF) (n:Nat) (z0:Int) {v:Value} (hm:m51_0 pu n z0 = some v):Run tt (callP tabs isP pu (inl pu)) 1 c51_20 (fr 27 [(3,.int .u16 z0)]) (hp 1 [(oT tab0)]) (Fin tt 1 [.tmp 2] v):=by
 unfold m51_0 at hm
 refine .then (.rK ?_)
 refine .ghs (fr 27 [(2,.int .u16 z0)]) (hp 1 [(oT tab0)]) (.k0 [false] [] [2]) ?_
 refine .ret ?_
 exact fin_ret (.int .u16 z0) (by kernel_rfl) (by kernel_rfl) hm
theorem r51 {call:CallF} (pu:PureF) (n:Nat) (hcall:call = callP tabs isP pu (inl pu)) {args:LV} {v:Value} (hm:m51 pu n args = some v) (_:∀ x ∈ args,closed2 x = true):args.length≤27∧Run tt call 1 c51_23 (Fr.made 27 args) (pureHeap tabs) (Fin tt 1 [.tmp 2] v):=by
 subst hcall
 unfold m51 at hm
 replace hm:=ll_uncons hm;obtain ⟨a0,args_0,rfl,hm⟩:=hm
 replace hm:=ll_end hm;obtain ⟨rfl,hm⟩:=hm
 replace hm:=inv_vAgg hm;obtain ⟨l0,rfl,hm⟩:=hm
 replace hm:=ll_uncons hm;obtain ⟨v0,l19238_0,rfl,hm⟩:=hm
 replace hm:=ll_uncons hm;obtain ⟨v1,l19238_1,rfl,hm⟩:=hm
 replace hm:=ll_uncons hm;obtain ⟨v2,l19238_2,rfl,hm⟩:=hm
 replace hm:=ll_end hm;obtain ⟨rfl,hm⟩:=hm
 replace hm:=inv_toI hm;obtain ⟨x0,rfl,hm⟩:=hm
 replace hm:=inv_toSl hm;obtain ⟨s0,rfl,hm⟩:=hm
 replace hm:=inv_toSl hm;obtain ⟨s1,rfl,hm⟩:=hm
 unfold m51_ at hm
 refine ⟨by simp,?_⟩
 refine .same (F':=(fr 27 [(0,(.agg ⟨[zI x0,Sl.v 1 s0,Sl.v 1 s1]⟩))])) (H':=(hp 1 [(oT tab0)])) (by kernel_rfl) (by kernel_rfl) ?_
 refine .then (.rK ?_)
 refine .ghs (fr 27 [(1,pt 1 0)]) (hT 2 [(oC [zI x0,Sl.v 1 s0,Sl.v 1 s1])]) (.k0 [false] [.tmp 1 false] [1]) ?_
 refine .then (.rK ?_)
 refine .ghs (fr 27 [(1,pt 1 0),(3,(.int .u16 (0:Int)))]) (hT 2 [(oC [zI x0,Sl.v 1 s0,Sl.v 1 s1])]) (.k0 [false] [.tmp 1 false] [1,3]) ?_
 refine .join (v:=v) (fun y:Int=>((fr 27 [(3,.int .u16 y)]),(hp 1 [(oT tab0)]))) (fun y=>m51_0 pu n y) ?_ ?_
 ·rintro z0 hm
  exact w51_0 pu n z0 hm
 ·refine .then (.rK ?_)
  refine .ghs (fr 27 [(1,pt 1 0),(3,(.int .u16 (0:Int))),(7,Sl.v 1 s0),(8,(zI (Int.ofNat (Sl.n s0)))),(9,(zI (0:Int)))]) (hT 2 [(oC [zI x0,Sl.v 1 s0,Sl.v 1 s1])]) (.k0 [false] [.tmp 1 false] [1,3,7,8,9]) ?_
  refine .block ?_
  refine .loopM (v:=v) (fun y:Int×Sl×Int×Int×Int×Sl×Sl=>((fr 27 [(1,pt 1 0),(3,(.int .u16 y.1)),(7,(Sl.v 1 y.2.1)),(8,(zI y.2.2.1)),(9,(zI y.2.2.2.1))]),(hT 2 [(oC [(zI y.2.2.2.2.1),(Sl.v 1 y.2.2.2.2.2.1),(Sl.v 1 y.2.2.2.2.2.2)])]))) (fun w y=>l51_1 pu n w y.1 y.2.1 y.2.2.1 y.2.2.2.1 y.2.2.2.2.1 y.2.2.2.2.2.1 y.2.2.2.2.2.2) n ⟨((0:Int),s0,(Int.ofNat (Sl.n s0)),(0:Int),x0,s0,s1),hm,(.k0 [false] [.tmp 1 false] [1,3,7,8,9])⟩ (fun _=>rfl) ?_
  rintro w0 ⟨z1,s2,z2,z3,z4,s3,s4⟩ hm
  replace hm:b51_1 pu n (l51_1 pu n w0) z1 s2 z2 z3 z4 s3 s4 = some v:=hm
  unfold b51_1 at hm
  refine .then (.rK ?_)
  refine .ghs (fr 27 [(1,pt 1 0),(3,.int .u16 z1),(7,Sl.v 1 s2),(8,zI z2),(9,zI z3),(10,(zB (ilt z3 z2)))]) (hT 2 [(oC [zI z4,Sl.v 1 s3,Sl.v 1 s4])]) (.k0 [false] [.tmp 1 false] [1,3,7,8,9,10]) ?_
  refine .then ?_
  replace hm:=bb_cases hm;rcases hm with ⟨h0,hm⟩ | ⟨h0,hm⟩
  ·refine .ifT (ilt z3 z2) (by kernel_rfl) h0 ?_
   refine .skip ?_
   refine .ghs (fr 27 [(1,pt 1 0),(3,.int .u16 z1),(7,Sl.v 1 s2),(8,zI z2),(9,zI z3)]) (hT 2 [(oC [zI z4,Sl.v 1 s3,Sl.v 1 s4])]) (.k0 [false] [.tmp 1 false] [1,3,7,8,9]) ?_
   refine .join (v:=v) (fun y:Int×Sl×Int×Int×Int×Sl×Sl=>((fr 27 [(1,pt 1 0),(3,(.int .u16 y.1)),(7,(Sl.v 1 y.2.1)),(8,(zI y.2.2.1)),(9,(zI y.2.2.2.1))]),(hT 2 [(oC [(zI y.2.2.2.2.1),(Sl.v 1 y.2.2.2.2.2.1),(Sl.v 1 y.2.2.2.2.2.2)])]))) (fun y=>m51_2 pu n (l51_1 pu n w0) y.1 y.2.1 y.2.2.1 y.2.2.2.1 y.2.2.2.2.1 y.2.2.2.2.2.1 y.2.2.2.2.2.2) ?_ ?_
   ·rintro ⟨z5, s5, z6, z7, z8, s6, s7⟩ hm
    unfold m51_2 at hm
    refine .rK ?_
    exact ⟨(z5,s5,z6,(wrapF .i64 (Int.add z7 (1:Int))),z8,s6,s7),hm,(.k0 [false] [.tmp 1 false] [1,3,7,8,9])⟩
   ·refine .block ?_
    refine .then ?_
    replace hm:=oo_inv hm;obtain ⟨k1,h1,hm⟩:=hm
    obtain rfl:=toN_some h1
    replace hm:=bb_inv hm;obtain ⟨h2,hm⟩:=hm
    replace hm:=oo_inv hm;obtain ⟨v3,h3,hm⟩:=hm
    replace hm:=inv_toI hm;obtain ⟨x1,rfl,hm⟩:=hm
    refine .reg (eC 1 (keep (hT 2 [(oC [zI z4,Sl.v 1 s3,Sl.v 1 s4])]) (bb (an (Nat.blt k1 (Sl.n s2)) true) (some (fpV (k1 * 1) (Sl.cs s2))) none)) (keep_bb h2) (eD (keep (hT 2 [(oC [zI z4,Sl.v 1 s3,Sl.v 1 s4])]) (nthL (Sl.cs s2) (k1 * 1))) (keep_eq h3) (eE))) ?_
    refine .ghs (fr 27 [(1,pt 1 0),(3,.int .u16 z1),(4,(zI (Int.ofNat k1))),(5,zI x1),(7,Sl.v 1 s2),(8,zI z2),(9,(zI (Int.ofNat k1)))]) (hT 2 [(oC [zI z4,Sl.v 1 s3,Sl.v 1 s4])]) (.k0 [false] [.tmp 1 false] [1,3,4,5,7,8,9]) ?_
    refine .then ?_
    replace hm:=bb_inv hm;obtain ⟨h4,hm⟩:=hm
    replace hm:=oo_inv hm;obtain ⟨v4,h5,hm⟩:=hm
    replace hm:=inv_toI hm;obtain ⟨x2,rfl,hm⟩:=hm
    refine .reg (eC 4 (keep (hT 2 [(oC [zI z4,Sl.v 1 s3,Sl.v 1 s4])]) (bb (an (Nat.blt k1 (Sl.n s4)) true) (some (fpV (k1 * 1) (Sl.cs s4))) none)) (keep_bb h4) (eD (keep (hT 2 [(oC [zI z4,Sl.v 1 s3,Sl.v 1 s4])]) (nthL (Sl.cs s4) (k1 * 1))) (keep_eq h5) (eE))) ?_
    refine .ghs (fr 27 [(1,pt 1 0),(3,.int .u16 z1),(4,(zI (Int.ofNat k1))),(7,Sl.v 1 s2),(8,zI z2),(9,(zI (Int.ofNat k1))),(20,(zB (nt (ieq x1 x2))))]) (hT 2 [(oC [zI z4,Sl.v 1 s3,Sl.v 1 s4])]) (.k0 [false] [.tmp 1 false] [1,3,4,7,8,9,20]) ?_
    replace hm:=bb_cases hm;rcases hm with ⟨h6,hm⟩ | ⟨h6,hm⟩
    ·refine .ifT (nt (ieq x1 x2)) (by kernel_rfl) h6 ?_
     refine .rK ?_
     exact ⟨((aor .u16 z1 (shlI .u16 (1:Int) k1)),s2,z2,(Int.ofNat k1),z4,s3,s4),hm,(.k0 [false] [.tmp 1 false] [1,3,7,8,9])⟩
    ·refine .ifF (nt (ieq x1 x2)) (by kernel_rfl) h6 ?_
     refine .skip ?_
     exact ⟨(z1,s2,z2,(Int.ofNat k1),z4,s3,s4),hm,(.k0 [false] [.tmp 1 false] [1,3,7,8,9])⟩
  ·refine .ifF (ilt z3 z2) (by kernel_rfl) h0 ?_
   refine .exit ?_
   exact ⟨z1,hm,(.k0 [false] [] [3])⟩
def m52_0 (pu:PureF) (n:Nat) (b0:Bool):OV:=
 (some (.bool b0))
def m52_ (pu:PureF) (n:Nat) (x0 x1 x2:Int):OV:=
 (bb (nt (ilt x1 x0)) (m52_0 pu n (nt (ilt x2 x1))) (m52_0 pu n false))
def m52 (pu:PureF) (n:Nat) (args:LV):OV:=
 (ll args none fun a0 args=>(ll args none fun a1 args=>(ll args none fun a2 args=>(ll args (oo (toI .i64 a0) none fun x0=>(oo (toI .i64 a1) none fun x1=>(oo (toI .i64 a2) none fun x2=>(m52_ pu n x0 x1 x2)))) fun _ _=>none))))
theorem w52_0 (pu:PureF) (n:Nat) (b0:Bool) {v:Value} (hm:m52_0 pu n b0 = some v):Run tt (callP tabs isP pu (inl pu)) 1 .ret (fr 15 [(6,zB b0)]) (hp 1 [(oT tab0)]) (Fin tt 1 [.tmp 6] v):=by
 unfold m52_0 at hm
 refine .ret ?_
 exact fin_ret (zB b0) (by kernel_rfl) (by kernel_rfl) hm
theorem r52 {call:CallF} (pu:PureF) (n:Nat) (hcall:call = callP tabs isP pu (inl pu)) {args:LV} {v:Value} (hm:m52 pu n args = some v) (_:∀ x ∈ args,closed2 x = true):args.length≤15∧Run tt call 1 c52_3 (Fr.made 15 args) (pureHeap tabs) (Fin tt 1 [.tmp 6] v):=by
 subst hcall
 unfold m52 at hm
 replace hm:=ll_uncons hm;obtain ⟨a0,args_0,rfl,hm⟩:=hm
 replace hm:=ll_uncons hm;obtain ⟨a1,args_1,rfl,hm⟩:=hm
 replace hm:=ll_uncons hm;obtain ⟨a2,args_2,rfl,hm⟩:=hm
 replace hm:=ll_end hm;obtain ⟨rfl,hm⟩:=hm
 replace hm:=inv_toI hm;obtain ⟨x0,rfl,hm⟩:=hm
 replace hm:=inv_toI hm;obtain ⟨x1,rfl,hm⟩:=hm
 replace hm:=inv_toI hm;obtain ⟨x2,rfl,hm⟩:=hm
 unfold m52_ at hm
 refine ⟨by simp,?_⟩
 refine .same (F':=(fr 15 [(0,zI x0),(1,zI x1),(2,zI x2)])) (H':=(hp 1 [(oT tab0)])) (by kernel_rfl) (by kernel_rfl) ?_
 refine .then (.rK ?_)
 refine .ghs (fr 15 [(0,zI x0),(1,zI x1),(2,zI x2)]) (hp 1 [(oT tab0)]) (.k0 [false] [] [0,1,2]) ?_
 refine .join (v:=v) (fun y:Bool=>((fr 15 [(6,zB y)]),(hp 1 [(oT tab0)]))) (fun y=>m52_0 pu n y) ?_ ?_
 ·rintro b0 hm
  exact w52_0 pu n b0 hm
 ·replace hm := bb_cases hm; rcases hm with ⟨h0, hm⟩ | ⟨h0, hm⟩
  ·refine .reg (eC 2 (some ((zB (nt (ilt x1 x0))), (hp 1 [(oT tab0)]))) (show _ = some ((zB true), _) from (by rw [h0])) (eE)) ?_
   exact ⟨(nt (ilt x2 x1)),hm,(.k0 [false] [] [6])⟩
  ·refine .reg (eC 2 (some ((zB (nt (ilt x1 x0))), (hp 1 [(oT tab0)]))) (show _ = some ((zB false), _) from (by rw [h0])) (eE)) ?_
   exact ⟨false,hm,(.k0 [false] [] [6])⟩

def m53_ (pu:PureF) (n:Nat) (x0 x1:Int):OV:=
 (oo (toN x1) none fun k1=>(some (.bool (ieq (aand .u16 (shrI .u16 x0 k1) (1:Int)) (1:Int)))))
def m53 (pu:PureF) (n:Nat) (args:LV):OV:=
 (ll args none fun a0 args=>(ll args none fun a1 args=>(ll args (oo (toI .u16 a0) none fun x0=>(oo (toI .i64 a1) none fun x1=>(m53_ pu n x0 x1))) fun _ _=>none)))
theorem r53 {call:CallF} (pu:PureF) (n:Nat) (hcall:call = callP tabs isP pu (inl pu)) {args:LV} {v:Value} (hm:m53 pu n args = some v) (_:∀ x ∈ args,closed2 x = true):args.length≤10∧Run tt call 1 c53_3 (Fr.made 10 args) (pureHeap tabs) (Fin tt 1 [.tmp 4] v):=by
 subst hcall
 unfold m53 at hm
 replace hm:=ll_uncons hm;obtain ⟨a0,args_0,rfl,hm⟩:=hm
 replace hm:=ll_uncons hm;obtain ⟨a1,args_1,rfl,hm⟩:=hm
 replace hm:=ll_end hm;obtain ⟨rfl,hm⟩:=hm
 replace hm:=inv_toI hm;obtain ⟨x0,rfl,hm⟩:=hm
 replace hm:=inv_toI hm;obtain ⟨x1,rfl,hm⟩:=hm
 unfold m53_ at hm
 refine ⟨by simp,?_⟩
 refine .same (F':=(fr 10 [(0,.int .u16 x0),(1,zI x1)])) (H':=(hp 1 [(oT tab0)])) (by kernel_rfl) (by kernel_rfl) ?_
 refine .then (.rK ?_)
 refine .ghs (fr 10 [(0,.int .u16 x0),(1,zI x1)]) (hp 1 [(oT tab0)]) (.k0 [false] [] [0,1]) ?_
 refine .then ?_
 replace hm:=oo_inv hm;obtain ⟨k1,h0,hm⟩:=hm
 obtain rfl:=toN_some h0
 refine .rK ?_
 refine .ghs (fr 10 [(4,(zB (ieq (aand .u16 (shrI .u16 x0 k1) (1:Int)) (1:Int))))]) (hp 1 [(oT tab0)]) (.k0 [false] [] [4]) ?_
 refine .ret ?_
 exact fin_ret (zB (ieq (aand .u16 (shrI .u16 x0 k1) (1:Int)) (1:Int))) (by kernel_rfl) (by kernel_rfl) hm
def m54_0 (pu:PureF) (n:Nat) (b0:Bool):OV:=
 (some (.bool b0))
def m54_ (pu:PureF) (n:Nat) (x0 x1 x2:Int):OV:=
 (bb (nt (ilt x0 x1)) (m54_0 pu n (nt (ilt x2 x0))) (m54_0 pu n false))
def m54 (pu:PureF) (n:Nat) (args:LV):OV:=
 (ll args none fun a0 args=>(ll args none fun a1 args=>(ll args none fun a2 args=>(ll args (oo (toI .i64 a0) none fun x0=>(oo (toI .i64 a1) none fun x1=>(oo (toI .i64 a2) none fun x2=>(m54_ pu n x0 x1 x2)))) fun _ _=>none))))
theorem w54_0 (pu:PureF) (n:Nat) (b0:Bool) {v:Value} (hm:m54_0 pu n b0 = some v):Run tt (callP tabs isP pu (inl pu)) 1 .ret (fr 15 [(6,zB b0)]) (hp 1 [(oT tab0)]) (Fin tt 1 [.tmp 6] v):=by
 unfold m54_0 at hm
 refine .ret ?_
 exact fin_ret (zB b0) (by kernel_rfl) (by kernel_rfl) hm
theorem r54 {call:CallF} (pu:PureF) (n:Nat) (hcall:call = callP tabs isP pu (inl pu)) {args:LV} {v:Value} (hm:m54 pu n args = some v) (_:∀ x ∈ args,closed2 x = true):args.length≤15∧Run tt call 1 c54_3 (Fr.made 15 args) (pureHeap tabs) (Fin tt 1 [.tmp 6] v):=by
 subst hcall
 unfold m54 at hm
 replace hm:=ll_uncons hm;obtain ⟨a0,args_0,rfl,hm⟩:=hm
 replace hm:=ll_uncons hm;obtain ⟨a1,args_1,rfl,hm⟩:=hm
 replace hm:=ll_uncons hm;obtain ⟨a2,args_2,rfl,hm⟩:=hm
 replace hm:=ll_end hm;obtain ⟨rfl,hm⟩:=hm
 replace hm:=inv_toI hm;obtain ⟨x0,rfl,hm⟩:=hm
 replace hm:=inv_toI hm;obtain ⟨x1,rfl,hm⟩:=hm
 replace hm:=inv_toI hm;obtain ⟨x2,rfl,hm⟩:=hm
 unfold m54_ at hm
 refine ⟨by simp,?_⟩
 refine .same (F':=(fr 15 [(0,zI x0),(1,zI x1),(2,zI x2)])) (H':=(hp 1 [(oT tab0)])) (by kernel_rfl) (by kernel_rfl) ?_
 refine .then (.rK ?_)
 refine .ghs (fr 15 [(0,zI x0),(1,zI x1),(2,zI x2)]) (hp 1 [(oT tab0)]) (.k0 [false] [] [0,1,2]) ?_
 refine .join (v:=v) (fun y:Bool=>((fr 15 [(6,zB y)]),(hp 1 [(oT tab0)]))) (fun y=>m54_0 pu n y) ?_ ?_
 ·rintro b0 hm
  exact w54_0 pu n b0 hm
 ·replace hm := bb_cases hm; rcases hm with ⟨h0, hm⟩ | ⟨h0, hm⟩
  ·refine .reg (eC 2 (some ((zB (nt (ilt x0 x1))), (hp 1 [(oT tab0)]))) (show _ = some ((zB true), _) from (by rw [h0])) (eE)) ?_
   exact ⟨(nt (ilt x2 x0)),hm,(.k0 [false] [] [6])⟩
  ·refine .reg (eC 2 (some ((zB (nt (ilt x0 x1))), (hp 1 [(oT tab0)]))) (show _ = some ((zB false), _) from (by rw [h0])) (eE)) ?_
   exact ⟨false,hm,(.k0 [false] [] [6])⟩
def m56_0 (pu:PureF) (n n0 c0:Nat) (q0:LV):OV:=
 (bb (allL closed1 q0) (bb (an (Nat.ble (0 + n0 * 1) (len q0)) (allL closed1 (takeL (n0 * 1) (dropL 0 q0)))) (some (Sl.v 1 (Sl.mk n0 0 (takeL (n0 * 1) (dropL 0 q0))))) none) none)
def m56_2 (pu:PureF) (n:Nat) (ih0:Nat→Nat→Int→Int→Sl→Sl→LV→OV) (n0 c0:Nat) (z0 z1:Int) (s0 s1:Sl) (q0:LV):OV:=
 (bb (allL closed1 q0) (ih0 n0 c0 (wrapF .i64 (Int.add z0 (1:Int))) z1 s0 s1 q0) none)
def b56_1 (pu:PureF) (n:Nat) (ih0:Nat→Nat→Int→Int→Sl→Sl→LV→OV) (n0 c0:Nat) (z0 z1:Int) (s0 s1:Sl) (q0:LV):OV:=
 (bb (allL closed1 q0) (bb (ilt z0 (Int.ofNat (Sl.n s0))) (oo (toN z0) none fun k1=>(bb (an (Nat.blt k1 (Sl.n s0)) true) (oo (nthL (Sl.cs s0) (k1 * 1)) none fun v0=>(oo (toI .i64 v0) none fun x0=>(bb (an (Nat.blt k1 (Sl.n s1)) true) (oo (nthL (Sl.cs s1) (k1 * 1)) none fun v1=>(oo (toI .i64 v1) none fun x1=>(bb (nt (ieq x0 x1)) (bb (growC 1 8 n0 c0 1 q0) (bb (allL closed1 (appL (dropL 0 q0) [(.int .i64 (Int.ofNat k1))])) (m56_2 pu n ih0 (n0 + 1) (2 * (n0 + 1) + bb false 1 0) (Int.ofNat k1) z1 s0 s1 (appL (dropL 0 q0) [(.int .i64 (Int.ofNat k1))])) none) none) (m56_2 pu n ih0 n0 c0 (Int.ofNat k1) z1 s0 s1 q0)))) none))) none)) (m56_0 pu n n0 c0 q0)) none)
def l56_1 (pu:PureF) (n w:Nat):Nat→Nat→Int→Int→Sl→Sl→LV→OV:=
 Nat.rec (motive:=fun _=>Nat→Nat→Int→Int→Sl→Sl→LV→OV) (fun _ _ _ _ _ _ _=>none) (fun _ ih0=>b56_1 pu n ih0) w
def m56_ (pu:PureF) (n:Nat) (x0:Int) (s0 s1:Sl):OV:=
 (l56_1 pu n n 0 0 (0:Int) x0 s0 s1 ([]:LV))
def m56 (pu:PureF) (n:Nat) (args:LV):OV:=
 (ll args none fun a0 args=>(ll args (oo (vAgg a0) none fun l0=>(ll l0 none fun v0 l0=>(ll l0 none fun v1 l0=>(ll l0 none fun v2 l0=>(ll l0 (oo (toI .i64 v0) none fun x0=>(oo (toSl 1 v1) none fun s0=>(oo (toSl 1 v2) none fun s1=>(m56_ pu n x0 s0 s1)))) fun _ _=>none))))) fun _ _=>none))
theorem w56_0 (pu:PureF) (n n0 c0:Nat) (q0:LV) {v:Value} (hm:m56_0 pu n n0 c0 q0 = some v):Run tt (callP tabs isP pu (inl pu)) 1 c56_18 (fr 28 [(3,sc 1 0 1 n0 c0)]) (hT 2 [oC q0]) (Fin tt 1 [.tmp 2] v):=by
 unfold m56_0 at hm
 refine .then (.rK ?_)
 replace hm:=bb_inv hm;obtain ⟨h0,hm⟩:=hm
 refine .ghs (fr 28 [(2,sc 1 0 1 n0 c0)]) (hT 2 [oC q0]) (.k [1] [false] [.tmp 2 false] [2] ⟨trF h0,trivial⟩) ?_
 replace hm:=bb_inv hm;obtain ⟨h1,hm⟩:=hm
 refine .ghs (Fr.puts (fr 28 [(2,sc 1 0 1 n0 c0)]) [(2,(Sl.v 1 (Sl.mk n0 0 (takeL (n0 * 1) (dropL 0 q0)))))]) (hT 2 [.dead]) (.freezeC 1 2 1 (an (Nat.ble (0 + n0 * 1) (len q0)) (allL closed1 (takeL (n0 * 1) (dropL 0 q0)))) (F1:=(Fr.puts (fr 28 [(2,sc 1 0 1 n0 c0)]) [(2,(Sl.v 1 (Sl.mk n0 0 (takeL (n0 * 1) (dropL 0 q0)))))])) (H1:=(hT 2 [.dead])) (by kernel_rfl) (by kernel_rfl) h1 (GhS.id _ _)) ?_
 refine .ret ?_
 exact fin_ret (Sl.v 1 (Sl.mk n0 0 (takeL (n0 * 1) (dropL 0 q0)))) (by kernel_rfl) (by kernel_rfl) hm
theorem r56 {call:CallF} (pu:PureF) (n:Nat) (hcall:call = callP tabs isP pu (inl pu)) {args:LV} {v:Value} (hm:m56 pu n args = some v) (_:∀ x ∈ args,closed2 x = true):args.length≤28∧Run tt call 1 c56_21 (Fr.made 28 args) (pureHeap tabs) (Fin tt 1 [.tmp 2] v):=by
 subst hcall
 unfold m56 at hm
 replace hm:=ll_uncons hm;obtain ⟨a0,args_0,rfl,hm⟩:=hm
 replace hm:=ll_end hm;obtain ⟨rfl,hm⟩:=hm
 replace hm:=inv_vAgg hm;obtain ⟨l0,rfl,hm⟩:=hm
 replace hm:=ll_uncons hm;obtain ⟨v0,l19410_0,rfl,hm⟩:=hm
 replace hm:=ll_uncons hm;obtain ⟨v1,l19410_1,rfl,hm⟩:=hm
 replace hm:=ll_uncons hm;obtain ⟨v2,l19410_2,rfl,hm⟩:=hm
 replace hm:=ll_end hm;obtain ⟨rfl,hm⟩:=hm
 replace hm:=inv_toI hm;obtain ⟨x0,rfl,hm⟩:=hm
 replace hm:=inv_toSl hm;obtain ⟨s0,rfl,hm⟩:=hm
 replace hm:=inv_toSl hm;obtain ⟨s1,rfl,hm⟩:=hm
 unfold m56_ at hm
 refine ⟨by simp,?_⟩
 refine .same (F':=(fr 28 [(0,(.agg ⟨[zI x0,Sl.v 1 s0,Sl.v 1 s1]⟩))])) (H':=(hp 1 [(oT tab0)])) (by kernel_rfl) (by kernel_rfl) ?_
 refine .then (.rK ?_)
 refine .ghs (fr 28 [(1,pt 1 0)]) (hT 2 [(oC [zI x0,Sl.v 1 s0,Sl.v 1 s1])]) (.k0 [false] [.tmp 1 false] [1]) ?_
 refine .then (.rK ?_)
 refine .ghs (fr 28 [(1,pt 1 0),(3,(.slice none 0 0))]) (hT 2 [(oC [zI x0,Sl.v 1 s0,Sl.v 1 s1])]) (.k0 [false] [.tmp 1 false] [1,3]) ?_
 refine .join (v:=v) (fun y:Nat×Nat×LV=>((fr 28 [(3,(sc 1 0 1 y.1 y.2.1))]),(hT 2 [(oC y.2.2)]))) (fun y=>m56_0 pu n y.1 y.2.1 y.2.2) ?_ ?_
 ·rintro ⟨n0, c0, q0⟩ hm
  exact w56_0 pu n n0 c0 q0 hm
 ·refine .then (.rK ?_)
  refine .ghs (fr 28 [(1,pt 1 0),(3,(.slice none 0 0)),(4,(zI (0:Int)))]) (hT 2 [(oC [zI x0,Sl.v 1 s0,Sl.v 1 s1])]) (.k0 [false] [.tmp 1 false] [1,3,4]) ?_
  refine .block ?_
  refine .loopM (v:=v) (fun y:Nat×Nat×Int×Int×Sl×Sl×LV=>((fr 28 [(1,pt 1 0),(3,(sc 2 0 1 y.1 y.2.1)),(4,(zI y.2.2.1))]),(hT 3 [(oC [(zI y.2.2.2.1),(Sl.v 1 y.2.2.2.2.1),(Sl.v 1 y.2.2.2.2.2.1)]),(oC y.2.2.2.2.2.2)]))) (fun w y=>l56_1 pu n w y.1 y.2.1 y.2.2.1 y.2.2.2.1 y.2.2.2.2.1 y.2.2.2.2.2.1 y.2.2.2.2.2.2) n ⟨(0,0,(0:Int),x0,s0,s1,([]:LV)),hm,(.thaw 3 1 (by kernel_rfl) (.k0 [false] [.tmp 1 false,.tmp 3 false] [1,3,4]))⟩ (fun _=>rfl) ?_
  rintro w0 ⟨n1,c1,z0,z1,s2,s3,q1⟩ hm
  replace hm:b56_1 pu n (l56_1 pu n w0) n1 c1 z0 z1 s2 s3 q1 = some v:=hm
  unfold b56_1 at hm
  refine .then ?_
  refine .then (.rK ?_)
  replace hm:=bb_inv hm;obtain ⟨h0,hm⟩:=hm
  refine .ghs (fr 28 [(1,pt 1 0),(3,sc 2 0 1 n1 c1),(4,zI z0),(9,(zB (ilt z0 (Int.ofNat (Sl.n s2)))))]) (hT 3 [(oC [zI z1,Sl.v 1 s2,Sl.v 1 s3]),oC q1]) (.k [2] [false] [.tmp 1 false,.tmp 3 false] [1,3,4,9] ⟨trF h0,trivial⟩) ?_
  replace hm:=bb_cases hm;rcases hm with ⟨h1,hm⟩ | ⟨h1,hm⟩
  ·refine .ifT (ilt z0 (Int.ofNat (Sl.n s2))) (by kernel_rfl) h1 ?_
   refine .skip ?_
   refine .ghs (fr 28 [(1,pt 1 0),(3,sc 2 0 1 n1 c1),(4,zI z0)]) (hT 3 [(oC [zI z1,Sl.v 1 s2,Sl.v 1 s3]),oC q1]) (.k [2] [false] [.tmp 1 false,.tmp 3 false] [1,3,4] ⟨trF h0,trivial⟩) ?_
   refine .join (v:=v) (fun y:Nat×Nat×Int×Int×Sl×Sl×LV=>((fr 28 [(1,pt 1 0),(3,(sc 2 0 1 y.1 y.2.1)),(4,(zI y.2.2.1))]),(hT 3 [(oC [(zI y.2.2.2.1),(Sl.v 1 y.2.2.2.2.1),(Sl.v 1 y.2.2.2.2.2.1)]),(oC y.2.2.2.2.2.2)]))) (fun y=>m56_2 pu n (l56_1 pu n w0) y.1 y.2.1 y.2.2.1 y.2.2.2.1 y.2.2.2.2.1 y.2.2.2.2.2.1 y.2.2.2.2.2.2) ?_ ?_
   ·rintro ⟨n2, c2, z2, z3, s4, s5, q2⟩ hm
    unfold m56_2 at hm
    refine .rK ?_
    replace hm:=bb_inv hm;obtain ⟨h2,hm⟩:=hm
    exact ⟨(n2,c2,(wrapF .i64 (Int.add z2 (1:Int))),z3,s4,s5,q2),hm,(.k [2] [false] [.tmp 1 false,.tmp 3 false] [1,3,4] ⟨trF h2,trivial⟩)⟩
   ·refine .block ?_
    refine .then ?_
    replace hm:=oo_inv hm;obtain ⟨k1,h3,hm⟩:=hm
    obtain rfl:=toN_some h3
    replace hm:=bb_inv hm;obtain ⟨h4,hm⟩:=hm
    replace hm:=oo_inv hm;obtain ⟨v3,h5,hm⟩:=hm
    replace hm:=inv_toI hm;obtain ⟨x1,rfl,hm⟩:=hm
    replace hm:=bb_inv hm;obtain ⟨h6,hm⟩:=hm
    replace hm:=oo_inv hm;obtain ⟨v4,h7,hm⟩:=hm
    replace hm:=inv_toI hm;obtain ⟨x2,rfl,hm⟩:=hm
    refine .reg (eC 3 (keep (hT 3 [(oC [zI z1,Sl.v 1 s2,Sl.v 1 s3]),oC q1]) (bb (an (Nat.blt k1 (Sl.n s2)) true) (some (fpV (k1 * 1) (Sl.cs s2))) none)) (keep_bb h4) (eD (keep (hT 3 [(oC [zI z1,Sl.v 1 s2,Sl.v 1 s3]),oC q1]) (nthL (Sl.cs s2) (k1 * 1))) (keep_eq h5) (eC 3 (keep (hT 3 [(oC [zI z1,Sl.v 1 s2,Sl.v 1 s3]),oC q1]) (bb (an (Nat.blt k1 (Sl.n s3)) true) (some (fpV (k1 * 1) (Sl.cs s3))) none)) (keep_bb h6) (eD (keep (hT 3 [(oC [zI z1,Sl.v 1 s2,Sl.v 1 s3]),oC q1]) (nthL (Sl.cs s3) (k1 * 1))) (keep_eq h7) (eE))))) ?_
    refine .ghs (fr 28 [(1,pt 1 0),(3,sc 2 0 1 n1 c1),(4,(zI (Int.ofNat k1))),(22,(zB (nt (ieq x1 x2))))]) (hT 3 [(oC [zI z1,Sl.v 1 s2,Sl.v 1 s3]),oC q1]) (.k [2] [false] [.tmp 1 false,.tmp 3 false] [1,3,4,22] ⟨trF h0,trivial⟩) ?_
    replace hm:=bb_cases hm;rcases hm with ⟨h8,hm⟩ | ⟨h8,hm⟩
    ·refine .ifT (nt (ieq x1 x2)) (by kernel_rfl) h8 ?_
     replace hm:=bb_inv hm;obtain ⟨h9,hm⟩:=hm
     refine .reg (eC 3 (growD 1 8 n1 c1 1 2 q1 [(zI (Int.ofNat k1))] [] (hT 4 [(oC [zI z1,Sl.v 1 s2,Sl.v 1 s3]),oC q1,(oC [(zI (Int.ofNat k1))])])) (growD_eq h9) (eE)) ?_
     replace hm:=bb_inv hm;obtain ⟨h10,hm⟩:=hm
     exact ⟨((n1 + 1),(d2 (n1 + 1)),(Int.ofNat k1),z1,s2,s3,(appL (dropL 0 q1) [(zI (Int.ofNat k1))])),hm,(.k [4] [false] [.tmp 1 false,.tmp 3 false] [1,3,4] ⟨trF h10,trivial⟩)⟩
    ·refine .ifF (nt (ieq x1 x2)) (by kernel_rfl) h8 ?_
     refine .skip ?_
     exact ⟨(n1,c1,(Int.ofNat k1),z1,s2,s3,q1),hm,(.k [2] [false] [.tmp 1 false,.tmp 3 false] [1,3,4] ⟨trF h0,trivial⟩)⟩
  ·refine .ifF (ilt z0 (Int.ofNat (Sl.n s2))) (by kernel_rfl) h1 ?_
   refine .exit ?_
   exact ⟨(n1,c1,q1),hm,(.k [2] [false] [.tmp 3 false] [3] ⟨trF h0,trivial⟩)⟩
def m57_0 (pu:PureF) (n:Nat) (z0 z1:Int) (b0:Bool):OV:=
 (bb b0 (some (.int .i64 (2:Int))) (bb (nt (ilt z0 z1)) (some (.int .i64 (7:Int))) (some (.int .i64 (0:Int)))))
def m57_ (pu:PureF) (n:Nat) (x0:Int) (s0 s1:Sl) (x1 x2:Int):OV:=
 (bb (ilt (bb (ilt x2 x1) x2 x1) (0:Int)) (m57_0 pu n x1 x2 true) (m57_0 pu n x1 x2 (nt (ilt (bb (ilt x1 x2) x2 x1) (Int.ofNat (Sl.n s0))))))
def m57 (pu:PureF) (n:Nat) (args:LV):OV:=
 (ll args none fun a0 args=>(ll args none fun a1 args=>(ll args none fun a2 args=>(ll args (oo (vAgg a0) none fun l0=>(ll l0 none fun v0 l0=>(ll l0 none fun v1 l0=>(ll l0 none fun v2 l0=>(ll l0 (oo (toI .i64 v0) none fun x0=>(oo (toSl 1 v1) none fun s0=>(oo (toSl 1 v2) none fun s1=>(oo (toI .i64 a1) none fun x1=>(oo (toI .i64 a2) none fun x2=>(m57_ pu n x0 s0 s1 x1 x2)))))) fun _ _=>none))))) fun _ _=>none))))
theorem r57 {call:CallF} (pu:PureF) (n:Nat) (hcall:call = callP tabs isP pu (inl pu)) {args:LV} {v:Value} (hm:m57 pu n args = some v) (_:∀ x ∈ args,closed2 x = true):args.length≤25∧Run tt call 1 c57_15 (Fr.made 25 args) (pureHeap tabs) (Fin tt 1 [.tmp 6] v):=by
 subst hcall
 unfold m57 at hm
 replace hm:=ll_uncons hm;obtain ⟨a0,args_0,rfl,hm⟩:=hm
 replace hm:=ll_uncons hm;obtain ⟨a1,args_1,rfl,hm⟩:=hm
 replace hm:=ll_uncons hm;obtain ⟨a2,args_2,rfl,hm⟩:=hm
 replace hm:=ll_end hm;obtain ⟨rfl,hm⟩:=hm
 replace hm:=inv_vAgg hm;obtain ⟨l0,rfl,hm⟩:=hm
 replace hm:=ll_uncons hm;obtain ⟨v0,l19572_0,rfl,hm⟩:=hm
 replace hm:=ll_uncons hm;obtain ⟨v1,l19572_1,rfl,hm⟩:=hm
 replace hm:=ll_uncons hm;obtain ⟨v2,l19572_2,rfl,hm⟩:=hm
 replace hm:=ll_end hm;obtain ⟨rfl,hm⟩:=hm
 replace hm:=inv_toI hm;obtain ⟨x0,rfl,hm⟩:=hm
 replace hm:=inv_toSl hm;obtain ⟨s0,rfl,hm⟩:=hm
 replace hm:=inv_toSl hm;obtain ⟨s1,rfl,hm⟩:=hm
 replace hm:=inv_toI hm;obtain ⟨x1,rfl,hm⟩:=hm
 replace hm:=inv_toI hm;obtain ⟨x2,rfl,hm⟩:=hm
 unfold m57_ at hm
 refine ⟨by simp,?_⟩
 refine .same (F':=(fr 25 [(0,(.agg ⟨[zI x0,Sl.v 1 s0,Sl.v 1 s1]⟩)),(1,zI x1),(2,zI x2)])) (H':=(hp 1 [(oT tab0)])) (by kernel_rfl) (by kernel_rfl) ?_
 refine .then (.rK ?_)
 refine .ghs (fr 25 [(1,zI x1),(2,zI x2),(3,pt 1 0)]) (hT 2 [(oC [zI x0,Sl.v 1 s0,Sl.v 1 s1])]) (.k0 [false] [.tmp 3 false] [1,2,3]) ?_
 refine .then ?_
 refine .block ?_
 refine .join (v:=v) (fun y:Int×Int×Bool=>((fr 25 [(1,(zI y.1)),(2,(zI y.2.1)),(7,(zB y.2.2))]),(hp 1 [(oT tab0)]))) (fun y=>m57_0 pu n y.1 y.2.1 y.2.2) ?_ ?_
 ·rintro ⟨z0, z1, b0⟩ hm
  unfold m57_0 at hm
  replace hm:=bb_cases hm;rcases hm with ⟨h0,hm⟩ | ⟨h0,hm⟩
  ·refine .ifT b0 (by kernel_rfl) h0 ?_
   refine .then (.rK ?_)
   refine .ghs (fr 25 [(6,(zI (2:Int)))]) (hp 1 [(oT tab0)]) (.k0 [false] [] [6]) ?_
   refine .ret ?_
   exact fin_ret (zI (2:Int)) (by kernel_rfl) (by kernel_rfl) hm
  ·refine .ifF b0 (by kernel_rfl) h0 ?_
   refine .then (.rK ?_)
   refine .ghs (fr 25 [(21,(zB (nt (ilt z0 z1))))]) (hp 1 [(oT tab0)]) (.k0 [false] [] [21]) ?_
   replace hm:=bb_cases hm;rcases hm with ⟨h1,hm⟩ | ⟨h1,hm⟩
   ·refine .ifT (nt (ilt z0 z1)) (by kernel_rfl) h1 ?_
    refine .then (.rK ?_)
    refine .ghs (fr 25 [(6,(zI (7:Int)))]) (hp 1 [(oT tab0)]) (.k0 [false] [] [6]) ?_
    refine .ret ?_
    exact fin_ret (zI (7:Int)) (by kernel_rfl) (by kernel_rfl) hm
   ·refine .ifF (nt (ilt z0 z1)) (by kernel_rfl) h1 ?_
    refine .skip ?_
    refine .ghs (fr 25 []) (hp 1 [(oT tab0)]) (.k0 [false] [] []) ?_
    refine .then (.rK ?_)
    refine .ghs (fr 25 [(6,(zI (0:Int)))]) (hp 1 [(oT tab0)]) (.k0 [false] [] [6]) ?_
    refine .ret ?_
    exact fin_ret (zI (0:Int)) (by kernel_rfl) (by kernel_rfl) hm
 ·replace hm := bb_cases hm; rcases hm with ⟨h2, hm⟩ | ⟨h2, hm⟩
  ·refine .reg (eC 3 (some ((zB (ilt (bb (ilt x2 x1) x2 x1) (0 : Int))), (hT 2 [(oC [zI x0, Sl.v 1 s0, Sl.v 1 s1])]))) (show _ = some ((zB true), _) from (by rw [h2])) (eE)) ?_
   exact ⟨(x1,x2,true),hm,(.k0 [false] [] [1,2,7])⟩
  ·refine .reg (eC 3 (some ((zB (ilt (bb (ilt x2 x1) x2 x1) (0 : Int))), (hT 2 [(oC [zI x0, Sl.v 1 s0, Sl.v 1 s1])]))) (show _ = some ((zB false), _) from (by rw [h2])) (eE)) ?_
   exact ⟨(x1,x2,(nt (ilt (bb (ilt x1 x2) x2 x1) (Int.ofNat (Sl.n s0))))),hm,(.k0 [false] [] [1,2,7])⟩
def m59_0 (pu:PureF) (n:Nat) (z0 z1:Int) (b0:Bool):OV:=
 (bb b0 (some (.int .i64 (2:Int))) (bb (nt (ilt z0 z1)) (some (.int .i64 (7:Int))) (some (.int .i64 (0:Int)))))
def m59_ (pu:PureF) (n:Nat) (x0:Int) (s0 s1:Sl) (x1 x2:Int):OV:=
 (oo (pu 54 [.int .i64 x1,(.int .i64 (0:Int)),(.int .i64 (wrapF .i64 (Int.sub (Int.ofNat (Sl.n s0)) (1:Int))))]) none fun v0=>(oo (vBool v0) none fun b0=>(bb (nt b0) (m59_0 pu n x1 x2 true) (oo (pu 54 [.int .i64 x2,(.int .i64 (0:Int)),(.int .i64 (wrapF .i64 (Int.sub (Int.ofNat (Sl.n s0)) (1:Int))))]) none fun v1=>(oo (vBool v1) none fun b1=>(m59_0 pu n x1 x2 (nt b1)))))))
def m59 (pu:PureF) (n:Nat) (args:LV):OV:=
 (ll args none fun a0 args=>(ll args none fun a1 args=>(ll args none fun a2 args=>(ll args (oo (vAgg a0) none fun l0=>(ll l0 none fun v0 l0=>(ll l0 none fun v1 l0=>(ll l0 none fun v2 l0=>(ll l0 (oo (toI .i64 v0) none fun x0=>(oo (toSl 1 v1) none fun s0=>(oo (toSl 1 v2) none fun s1=>(oo (toI .i64 a1) none fun x1=>(oo (toI .i64 a2) none fun x2=>(m59_ pu n x0 s0 s1 x1 x2)))))) fun _ _=>none))))) fun _ _=>none))))
theorem r59 {call:CallF} (pu:PureF) (n:Nat) (hcall:call = callP tabs isP pu (inl pu)) {args:LV} {v:Value} (hm:m59 pu n args = some v) (_:∀ x ∈ args,closed2 x = true):args.length≤26∧Run tt call 1 c59_15 (Fr.made 26 args) (pureHeap tabs) (Fin tt 1 [.tmp 6] v):=by
 subst hcall
 unfold m59 at hm
 replace hm:=ll_uncons hm;obtain ⟨a0,args_0,rfl,hm⟩:=hm
 replace hm:=ll_uncons hm;obtain ⟨a1,args_1,rfl,hm⟩:=hm
 replace hm:=ll_uncons hm;obtain ⟨a2,args_2,rfl,hm⟩:=hm
 replace hm:=ll_end hm;obtain ⟨rfl,hm⟩:=hm
 replace hm:=inv_vAgg hm;obtain ⟨l0,rfl,hm⟩:=hm
 replace hm:=ll_uncons hm;obtain ⟨v0,l19596_0,rfl,hm⟩:=hm
 replace hm:=ll_uncons hm;obtain ⟨v1,l19596_1,rfl,hm⟩:=hm
 replace hm:=ll_uncons hm;obtain ⟨v2,l19596_2,rfl,hm⟩:=hm
 replace hm:=ll_end hm;obtain ⟨rfl,hm⟩:=hm
 replace hm:=inv_toI hm;obtain ⟨x0,rfl,hm⟩:=hm
 replace hm:=inv_toSl hm;obtain ⟨s0,rfl,hm⟩:=hm
 replace hm:=inv_toSl hm;obtain ⟨s1,rfl,hm⟩:=hm
 replace hm:=inv_toI hm;obtain ⟨x1,rfl,hm⟩:=hm
 replace hm:=inv_toI hm;obtain ⟨x2,rfl,hm⟩:=hm
 unfold m59_ at hm
 refine ⟨by simp,?_⟩
 refine .same (F':=(fr 26 [(0,(.agg ⟨[zI x0,Sl.v 1 s0,Sl.v 1 s1]⟩)),(1,zI x1),(2,zI x2)])) (H':=(hp 1 [(oT tab0)])) (by kernel_rfl) (by kernel_rfl) ?_
 refine .then (.rK ?_)
 refine .ghs (fr 26 [(1,zI x1),(2,zI x2),(3,pt 1 0)]) (hT 2 [(oC [zI x0,Sl.v 1 s0,Sl.v 1 s1])]) (.k0 [false] [.tmp 3 false] [1,2,3]) ?_
 refine .then ?_
 refine .join (v:=v) (fun y:Int×Int×Bool=>((fr 26 [(1,(zI y.1)),(2,(zI y.2.1)),(22,(zB y.2.2))]),(hp 1 [(oT tab0)]))) (fun y=>m59_0 pu n y.1 y.2.1 y.2.2) ?_ ?_
 ·rintro ⟨z0, z1, b0⟩ hm
  unfold m59_0 at hm
  replace hm:=bb_cases hm;rcases hm with ⟨h0,hm⟩ | ⟨h0,hm⟩
  ·refine .ifT b0 (by kernel_rfl) h0 ?_
   refine .then (.rK ?_)
   refine .ghs (fr 26 [(6,(zI (2:Int)))]) (hp 1 [(oT tab0)]) (.k0 [false] [] [6]) ?_
   refine .ret ?_
   exact fin_ret (zI (2:Int)) (by kernel_rfl) (by kernel_rfl) hm
  ·refine .ifF b0 (by kernel_rfl) h0 ?_
   refine .skip ?_
   refine .ghs (fr 26 [(1,zI z0),(2,zI z1)]) (hp 1 [(oT tab0)]) (.k0 [false] [] [1,2]) ?_
   refine .then ?_
   refine .then (.rK ?_)
   refine .ghs (fr 26 [(25,(zB (nt (ilt z0 z1))))]) (hp 1 [(oT tab0)]) (.k0 [false] [] [25]) ?_
   replace hm:=bb_cases hm;rcases hm with ⟨h1,hm⟩ | ⟨h1,hm⟩
   ·refine .ifT (nt (ilt z0 z1)) (by kernel_rfl) h1 ?_
    refine .then (.rK ?_)
    refine .ghs (fr 26 [(6,(zI (7:Int)))]) (hp 1 [(oT tab0)]) (.k0 [false] [] [6]) ?_
    refine .ret ?_
    exact fin_ret (zI (7:Int)) (by kernel_rfl) (by kernel_rfl) hm
   ·refine .ifF (nt (ilt z0 z1)) (by kernel_rfl) h1 ?_
    refine .skip ?_
    refine .ghs (fr 26 []) (hp 1 [(oT tab0)]) (.k0 [false] [] []) ?_
    refine .then (.rK ?_)
    refine .ghs (fr 26 [(6,(zI (0:Int)))]) (hp 1 [(oT tab0)]) (.k0 [false] [] [6]) ?_
    refine .ret ?_
    exact fin_ret (zI (0:Int)) (by kernel_rfl) (by kernel_rfl) hm
 ·replace hm := oo_inv hm; obtain ⟨v3, h2, hm⟩ := hm
  replace hm:=inv_vBool hm;obtain ⟨b1,rfl,hm⟩:=hm
  replace hm:=bb_cases hm;rcases hm with ⟨h3,hm⟩ | ⟨h3,hm⟩
  ·refine .reg (eC 5 ((oo (pu 54 [zI x1, (zI (0 : Int)), (zI (wrapF .i64 (Int.sub (Int.ofNat (Sl.n s0)) (1 : Int))))]) none fun v => some (v, (hT 2 [(oC [zI x0, Sl.v 1 s0, Sl.v 1 s1])])))) (call_eq h2) (eD (some ((zB (nt b1)), (hT 2 [(oC [zI x0, Sl.v 1 s0, Sl.v 1 s1])]))) (show _ = some ((zB true), _) from (by rw [h3])) (eE))) ?_
   exact ⟨(x1,x2,true),hm,(.k0 [false] [] [1,2,22])⟩
  ·replace hm := oo_inv hm; obtain ⟨v4, h4, hm⟩ := hm
   replace hm:=inv_vBool hm;obtain ⟨b2,rfl,hm⟩:=hm
   refine .reg (eC 5 ((oo (pu 54 [zI x1,(zI (0:Int)),(zI (wrapF .i64 (Int.sub (Int.ofNat (Sl.n s0)) (1:Int))))]) none fun v=>some (v,(hT 2 [(oC [zI x0,Sl.v 1 s0,Sl.v 1 s1])])))) (call_eq h2) (eD (some ((zB (nt b1)),(hT 2 [(oC [zI x0,Sl.v 1 s0,Sl.v 1 s1])]))) (show _ = some ((zB false),_) from (by rw [h3])) (eC 6 ((oo (pu 54 [zI x2,(zI (0:Int)),(zI (wrapF .i64 (Int.sub (Int.ofNat (Sl.n s0)) (1:Int))))]) none fun v=>some (v,(hT 2 [(oC [zI x0,Sl.v 1 s0,Sl.v 1 s1])])))) (call_eq h4) (eE)))) ?_
   exact ⟨(x1,x2,(nt b2)),hm,(.k0 [false] [] [1,2,22])⟩
def m62_0 (pu:PureF) (n n0 c0:Nat) (q0:LV):OV:=
 (bb (allL closed1 q0) (bb (an (Nat.ble (0 + n0 * 1) (len q0)) (allL closed1 (takeL (n0 * 1) (dropL 0 q0)))) (some (Sl.v 1 (Sl.mk n0 0 (takeL (n0 * 1) (dropL 0 q0))))) none) none)
def b62_1 (pu:PureF) (n:Nat) (ih0:Int→Nat→Nat→LV→OV) (z0:Int) (n0 c0:Nat) (q0:LV):OV:=
 (bb (allL closed1 q0) (bb (nt (ieq z0 (0:Int))) (oo (pu 67 [.int .u16 z0]) none fun v0=>(oo (toI .i64 v0) none fun x0=>(bb (growC 1 8 n0 c0 1 q0) (bb (allL closed1 (appL (dropL 0 q0) [.int .i64 x0])) (ih0 (aand .u16 z0 (wrapF .u16 (Int.sub z0 (1:Int)))) (n0 + 1) (2 * (n0 + 1) + bb false 1 0) (appL (dropL 0 q0) [.int .i64 x0])) none) none))) (m62_0 pu n n0 c0 q0)) none)
def l62_1 (pu:PureF) (n w:Nat):Int→Nat→Nat→LV→OV:=
 Nat.rec (motive:=fun _=>Int→Nat→Nat→LV→OV) (fun _ _ _ _=>none) (fun _ ih0=>b62_1 pu n ih0) w
def m62_ (pu:PureF) (n:Nat) (x0:Int):OV:=
 (l62_1 pu n n x0 0 0 ([]:LV))
def m62 (pu:PureF) (n:Nat) (args:LV):OV:=
 (ll args none fun a0 args=>(ll args (oo (toI .u16 a0) none fun x0=>(m62_ pu n x0)) fun _ _=>none))
theorem w62_0 (pu:PureF) (n n0 c0:Nat) (q0:LV) {v:Value} (hm:m62_0 pu n n0 c0 q0 = some v):Run tt (callP tabs isP pu (inl pu)) 1 c62_13 (fr 16 [(3,sc 1 0 1 n0 c0)]) (hT 2 [oC q0]) (Fin tt 1 [.tmp 2] v):=by
 unfold m62_0 at hm
 refine .then (.rK ?_)
 replace hm:=bb_inv hm;obtain ⟨h0,hm⟩:=hm
 refine .ghs (fr 16 [(2,sc 1 0 1 n0 c0)]) (hT 2 [oC q0]) (.k [1] [false] [.tmp 2 false] [2] ⟨trF h0,trivial⟩) ?_
 replace hm:=bb_inv hm;obtain ⟨h1,hm⟩:=hm
 refine .ghs (Fr.puts (fr 16 [(2,sc 1 0 1 n0 c0)]) [(2,(Sl.v 1 (Sl.mk n0 0 (takeL (n0 * 1) (dropL 0 q0)))))]) (hT 2 [.dead]) (.freezeC 1 2 1 (an (Nat.ble (0 + n0 * 1) (len q0)) (allL closed1 (takeL (n0 * 1) (dropL 0 q0)))) (F1:=(Fr.puts (fr 16 [(2,sc 1 0 1 n0 c0)]) [(2,(Sl.v 1 (Sl.mk n0 0 (takeL (n0 * 1) (dropL 0 q0)))))])) (H1:=(hT 2 [.dead])) (by kernel_rfl) (by kernel_rfl) h1 (GhS.id _ _)) ?_
 refine .ret ?_
 exact fin_ret (Sl.v 1 (Sl.mk n0 0 (takeL (n0 * 1) (dropL 0 q0)))) (by kernel_rfl) (by kernel_rfl) hm
theorem r62 {call:CallF} (pu:PureF) (n:Nat) (hcall:call = callP tabs isP pu (inl pu)) {args:LV} {v:Value} (hm:m62 pu n args = some v) (_:∀ x ∈ args,closed2 x = true):args.length≤16∧Run tt call 1 c62_16 (Fr.made 16 args) (pureHeap tabs) (Fin tt 1 [.tmp 2] v):=by
 subst hcall
 unfold m62 at hm
 replace hm:=ll_uncons hm;obtain ⟨a0,args_0,rfl,hm⟩:=hm
 replace hm:=ll_end hm;obtain ⟨rfl,hm⟩:=hm
 replace hm:=inv_toI hm;obtain ⟨x0,rfl,hm⟩:=hm
 unfold m62_ at hm
 refine ⟨by simp,?_⟩
 refine .same (F':=(fr 16 [(0,.int .u16 x0)])) (H':=(hp 1 [(oT tab0)])) (by kernel_rfl) (by kernel_rfl) ?_
 refine .then (.rK ?_)
 refine .ghs (fr 16 [(0,.int .u16 x0)]) (hp 1 [(oT tab0)]) (.k0 [false] [] [0]) ?_
 refine .then (.rK ?_)
 refine .ghs (fr 16 [(0,.int .u16 x0),(3,(.slice none 0 0))]) (hp 1 [(oT tab0)]) (.k0 [false] [] [0,3]) ?_
 refine .join (v:=v) (fun y:Nat×Nat×LV=>((fr 16 [(3,(sc 1 0 1 y.1 y.2.1))]),(hT 2 [(oC y.2.2)]))) (fun y=>m62_0 pu n y.1 y.2.1 y.2.2) ?_ ?_
 ·rintro ⟨n0, c0, q0⟩ hm
  exact w62_0 pu n n0 c0 q0 hm
 ·refine .block ?_
  refine .loopM (v:=v) (fun y:Int×Nat×Nat×LV=>((fr 16 [(0,(.int .u16 y.1)),(3,(sc 1 0 1 y.2.1 y.2.2.1))]),(hT 2 [(oC y.2.2.2)]))) (fun w y=>l62_1 pu n w y.1 y.2.1 y.2.2.1 y.2.2.2) n ⟨(x0,0,0,([]:LV)),hm,(.thaw 3 1 (by kernel_rfl) (.k0 [false] [.tmp 3 false] [0,3]))⟩ (fun _=>rfl) ?_
  rintro w0 ⟨z0,n1,c1,q1⟩ hm
  replace hm:b62_1 pu n (l62_1 pu n w0) z0 n1 c1 q1 = some v:=hm
  unfold b62_1 at hm
  refine .then ?_
  refine .then (.rK ?_)
  replace hm:=bb_inv hm;obtain ⟨h0,hm⟩:=hm
  refine .ghs (fr 16 [(0,.int .u16 z0),(3,sc 1 0 1 n1 c1),(5,(zB (nt (ieq z0 (0:Int)))))]) (hT 2 [oC q1]) (.k [1] [false] [.tmp 3 false] [0,3,5] ⟨trF h0,trivial⟩) ?_
  replace hm:=bb_cases hm;rcases hm with ⟨h1,hm⟩ | ⟨h1,hm⟩
  ·refine .ifT (nt (ieq z0 (0 : Int))) (by kernel_rfl) h1 ?_
   refine .skip ?_
   refine .ghs (fr 16 [(0,.int .u16 z0),(3,sc 1 0 1 n1 c1)]) (hT 2 [oC q1]) (.k [1] [false] [.tmp 3 false] [0,3] ⟨trF h0,trivial⟩) ?_
   refine .then ?_
   refine .block ?_
   replace hm:=oo_inv hm;obtain ⟨v0,h2,hm⟩:=hm
   replace hm:=inv_toI hm;obtain ⟨x1,rfl,hm⟩:=hm
   replace hm:=bb_inv hm;obtain ⟨h3,hm⟩:=hm
   refine .reg (eC 2 ((oo (pu 67 [.int .u16 z0]) none fun v=>some (v,(hT 2 [oC q1])))) (call_eq h2) (eC 1 (growD 1 8 n1 c1 1 1 q1 [zI x1] [] (hT 3 [oC q1,(oC [zI x1])])) (growD_eq h3) (eE))) ?_
   replace hm:=bb_inv hm;obtain ⟨h4,hm⟩:=hm
   refine .ghs (fr 16 [(0,.int .u16 z0),(3,(sc 1 0 1 (n1 + 1) (d2 (n1 + 1))))]) (hT 2 [(oC (appL (dropL 0 q1) [zI x1]))]) (.k [3] [false] [.tmp 3 false] [0,3] ⟨trF h4,trivial⟩) ?_
   refine .rK ?_
   exact ⟨((aand .u16 z0 (wrapF .u16 (Int.sub z0 (1:Int)))),(n1 + 1),(d2 (n1 + 1)),(appL (dropL 0 q1) [zI x1])),hm,(.k [1] [false] [.tmp 3 false] [0,3] ⟨trF h4,trivial⟩)⟩
  ·refine .ifF (nt (ieq z0 (0 : Int))) (by kernel_rfl) h1 ?_
   refine .exit ?_
   exact ⟨(n1,c1,q1),hm,(.k [1] [false] [.tmp 3 false] [3] ⟨trF h0,trivial⟩)⟩

def m64_ (pu:PureF) (n:Nat) (x0:Int):OV:=
 (oo (toN (shrI .u16 x0 8)) none fun k1=>(oo (str0[k1]?) none fun c0=>(oo (toN (aand .u16 x0 (255:Int))) none fun k2=>(oo (str0[k2]?) none fun c1=>(some (.int .i64 (wrapF .i64 (wrapF .u8 (Int.add (Int.ofNat (UInt8.toNat c0)) (Int.ofNat (UInt8.toNat c1)))))))))))
def m64 (pu:PureF) (n:Nat) (args:LV):OV:=
 (ll args none fun a0 args=>(ll args (oo (toI .u16 a0) none fun x0=>(m64_ pu n x0)) fun _ _=>none))
theorem r64 {call:CallF} (pu:PureF) (n:Nat) (hcall:call = callP tabs isP pu (inl pu)) {args:LV} {v:Value} (hm:m64 pu n args = some v) (_:∀ x ∈ args,closed2 x = true):args.length≤11∧Run tt call 1 c64_3 (Fr.made 11 args) (pureHeap tabs) (Fin tt 1 [.tmp 2] v):=by
 subst hcall
 unfold m64 at hm
 replace hm:=ll_uncons hm;obtain ⟨a0,args_0,rfl,hm⟩:=hm
 replace hm:=ll_end hm;obtain ⟨rfl,hm⟩:=hm
 replace hm:=inv_toI hm;obtain ⟨x0,rfl,hm⟩:=hm
 unfold m64_ at hm
 refine ⟨by simp,?_⟩
 refine .same (F':=(fr 11 [(0,.int .u16 x0)])) (H':=(hp 1 [(oT tab0)])) (by kernel_rfl) (by kernel_rfl) ?_
 refine .then (.rK ?_)
 refine .ghs (fr 11 [(0,.int .u16 x0)]) (hp 1 [(oT tab0)]) (.k0 [false] [] [0]) ?_
 refine .then ?_
 replace hm:=oo_inv hm;obtain ⟨k1,h0,hm⟩:=hm
 replace hm:=oo_inv hm;obtain ⟨c0,h1,hm⟩:=hm
 replace hm:=oo_inv hm;obtain ⟨k2,h2,hm⟩:=hm
 replace hm:=oo_inv hm;obtain ⟨c1,h3,hm⟩:=hm
 refine .reg (eC 1 (some ((.int .u16 (shrI .u16 x0 8)),(hp 1 [(oT tab0)]))) (show _ = some ((.int .u16 (Int.ofNat k1)),_) from (by rw [toN_some h0])) (eD (keep (hp 1 [(oT tab0)]) (oo (str0[k1]?) none fun b=>iv .u8 (.ofNat b.toNat))) (ix_eq h1) (eC 1 (some ((.int .u16 (aand .u16 x0 (255:Int))),(hp 1 [(oT tab0)]))) (show _ = some ((.int .u16 (Int.ofNat k2)),_) from (by rw [toN_some h2])) (eD (keep (hp 1 [(oT tab0)]) (oo (str0[k2]?) none fun b=>iv .u8 (.ofNat b.toNat))) (ix_eq h3) (eE))))) ?_
 refine .ghs (fr 11 [(2,(zI (wrapF .i64 (wrapF .u8 (Int.add (Int.ofNat (UInt8.toNat c0)) (Int.ofNat (UInt8.toNat c1)))))))]) (hp 1 [(oT tab0)]) (.k0 [false] [] [2]) ?_
 refine .ret ?_
 exact fin_ret (zI (wrapF .i64 (wrapF .u8 (Int.add (Int.ofNat (UInt8.toNat c0)) (Int.ofNat (UInt8.toNat c1)))))) (by kernel_rfl) (by kernel_rfl) hm

def m67_ (pu:PureF) (n:Nat) (x0:Int):OV:=
 (bb (ieq x0 (0:Int)) (some (.int .i64 (16:Int))) (oo (toN (shrI .u32 (wrapF .u32 (Int.mul (wrapF .u32 (aand .u16 x0 (wrapF .u16 (Int.sub (.ofNat 0) x0)))) (125613361:Int))) 27)) none fun k1=>(bb (Nat.blt k1 32) (oo (nthL tab0 (0 + k1 * 1)) none fun v0=>(oo (toI .u8 v0) none fun x1=>(some (.int .i64 (wrapF .i64 x1))))) none)))
def m67 (pu:PureF) (n:Nat) (args:LV):OV:=
 (ll args none fun a0 args=>(ll args (oo (toI .u16 a0) none fun x0=>(m67_ pu n x0)) fun _ _=>none))
theorem r67 {call:CallF} (pu:PureF) (n:Nat) (hcall:call = callP tabs isP pu (inl pu)) {args:LV} {v:Value} (hm:m67 pu n args = some v) (_:∀ x ∈ args,closed2 x = true):args.length≤15∧Run tt call 1 c67_9 (Fr.made 15 args) (pureHeap tabs) (Fin tt 1 [.tmp 2] v):=by
 subst hcall
 unfold m67 at hm
 replace hm:=ll_uncons hm;obtain ⟨a0,args_0,rfl,hm⟩:=hm
 replace hm:=ll_end hm;obtain ⟨rfl,hm⟩:=hm
 replace hm:=inv_toI hm;obtain ⟨x0,rfl,hm⟩:=hm
 unfold m67_ at hm
 refine ⟨by simp,?_⟩
 refine .same (F':=(fr 15 [(0,.int .u16 x0)])) (H':=(hp 1 [(oT tab0)])) (by kernel_rfl) (by kernel_rfl) ?_
 refine .then (.rK ?_)
 refine .ghs (fr 15 [(0,.int .u16 x0)]) (hp 1 [(oT tab0)]) (.k0 [false] [] [0]) ?_
 refine .then ?_
 refine .then (.rK ?_)
 refine .ghs (fr 15 [(0,.int .u16 x0),(4,(zB (ieq x0 (0:Int))))]) (hp 1 [(oT tab0)]) (.k0 [false] [] [0,4]) ?_
 replace hm:=bb_cases hm;rcases hm with ⟨h0,hm⟩ | ⟨h0,hm⟩
 ·refine .ifT (ieq x0 (0 : Int)) (by kernel_rfl) h0 ?_
  refine .then (.rK ?_)
  refine .ghs (fr 15 [(2,(zI (16:Int)))]) (hp 1 [(oT tab0)]) (.k0 [false] [] [2]) ?_
  refine .ret ?_
  exact fin_ret (zI (16:Int)) (by kernel_rfl) (by kernel_rfl) hm
 ·refine .ifF (ieq x0 (0 : Int)) (by kernel_rfl) h0 ?_
  refine .skip ?_
  refine .ghs (fr 15 [(0,.int .u16 x0)]) (hp 1 [(oT tab0)]) (.k0 [false] [] [0]) ?_
  refine .then ?_
  replace hm:=oo_inv hm;obtain ⟨k1,h1,hm⟩:=hm
  replace hm:=bb_inv hm;obtain ⟨h2,hm⟩:=hm
  replace hm:=oo_inv hm;obtain ⟨v0,h3,hm⟩:=hm
  replace hm:=inv_toI hm;obtain ⟨x1,rfl,hm⟩:=hm
  refine .reg (eC 6 (some ((.int .u32 (shrI .u32 (wrapF .u32 (Int.mul (wrapF .u32 (aand .u16 x0 (wrapF .u16 (Int.sub (.ofNat 0) x0)))) (125613361:Int))) 27)),(hp 1 [(oT tab0)]))) (show _ = some ((.int .u32 (Int.ofNat k1)),_) from (by rw [toN_some h1])) (eD (keep (hp 1 [(oT tab0)]) (bb (Nat.blt k1 32) (some (.pointer (some ⟨0,(0 + k1 * 1),none⟩))) none)) (keep_bb h2) (eD (keep (hp 1 [(oT tab0)]) (nthL tab0 (0 + k1 * 1))) (keep_eq h3) (eE)))) ?_
  refine .ghs (fr 15 [(2,(zI (wrapF .i64 x1)))]) (hp 1 [(oT tab0)]) (.k0 [false] [] [2]) ?_
  refine .ret ?_
  exact fin_ret (zI (wrapF .i64 x1)) (by kernel_rfl) (by kernel_rfl) hm
def m71_0 (pu:PureF) (n:Nat) (q0:LV):OV:=
 (bb (Nat.ble (0 + 5) (len q0)) (oo (nthL q0 0) none fun v0=>(oo (toI .i64 v0) none fun x0=>(oo (nthL q0 (0 + 1)) none fun v1=>(oo (toI .i64 v1) none fun x1=>(oo (nthL q0 ((0 + 1) + 1)) none fun v2=>(oo (toI .i64 v2) none fun x2=>(oo (nthL q0 (((0 + 1) + 1) + 1)) none fun v3=>(oo (toI .i64 v3) none fun x3=>(oo (nthL q0 ((((0 + 1) + 1) + 1) + 1)) none fun v4=>(oo (toI .i64 v4) none fun x4=>(some (.bool (bq true (an (ieq x0 (0:Int)) (an (ieq x1 (0:Int)) (an (ieq x2 (0:Int)) (an (ieq x3 (0:Int)) (an (ieq x4 (0:Int)) true)))))))))))))))))) none)
def m71_2 (pu:PureF) (n:Nat) (ih0:Int→Int→Int→Int→Sl→Sl→LV→OV) (z0 z1 z2 z3:Int) (s0 s1:Sl) (q0:LV):OV:=
 (bb (allL closed1 q0) (ih0 z0 z1 (wrapF .i64 (Int.add z2 (1:Int))) z3 s0 s1 q0) none)
def b71_1 (pu:PureF) (n:Nat) (ih0:Int→Int→Int→Int→Sl→Sl→LV→OV) (z0 z1 z2 z3:Int) (s0 s1:Sl) (q0:LV):OV:=
 (bb (allL closed1 q0) (bb (ilt z2 z1) (oo (pu 53 [.int .u16 z0,.int .i64 z2]) none fun v0=>(oo (vBool v0) none fun b0=>(bb b0 (oo (toN z2) none fun k1=>(bb (an (Nat.blt k1 (Sl.n s0)) true) (oo (nthL (Sl.cs s0) (k1 * 1)) none fun v1=>(oo (toI .i64 v1) none fun x0=>(oo (toN x0) none fun k2=>(bb (Nat.blt k2 5) (oo (nthL q0 (0 + k2 * 1)) none fun v2=>(oo (toI .i64 v2) none fun x1=>(bb (Nat.blt k2 5) (bb (an (Nat.ble ((0 + k2 * 1) + 1) (len q0)) true) (bb (allL closed1 (setL ([(.int .i64 (wrapF .i64 (Int.add x1 (1:Int))))]:LV) (0 + k2 * 1) q0)) (bb (an (Nat.blt k1 (Sl.n s1)) true) (oo (nthL (Sl.cs s1) (k1 * 1)) none fun v3=>(oo (toI .i64 v3) none fun x2=>(oo (toN x2) none fun k3=>(bb (Nat.blt k3 5) (oo (nthL (setL ([(.int .i64 (wrapF .i64 (Int.add x1 (1:Int))))]:LV) (0 + k2 * 1) q0) (0 + k3 * 1)) none fun v4=>(oo (toI .i64 v4) none fun x3=>(bb (Nat.blt k3 5) (bb (an (Nat.ble ((0 + k3 * 1) + 1) (len (setL ([(.int .i64 (wrapF .i64 (Int.add x1 (1:Int))))]:LV) (0 + k2 * 1) q0))) true) (bb (allL closed1 (setL ([(.int .i64 (wrapF .i64 (Int.sub x3 (1:Int))))]:LV) (0 + k3 * 1) (setL ([(.int .i64 (wrapF .i64 (Int.add x1 (1:Int))))]:LV) (0 + k2 * 1) q0))) (m71_2 pu n ih0 z0 z1 (Int.ofNat k1) z3 s0 s1 (setL ([(.int .i64 (wrapF .i64 (Int.sub x3 (1:Int))))]:LV) (0 + k3 * 1) (setL ([(.int .i64 (wrapF .i64 (Int.add x1 (1:Int))))]:LV) (0 + k2 * 1) q0))) none) none) none))) none)))) none) none) none) none))) none)))) none)) (m71_2 pu n ih0 z0 z1 z2 z3 s0 s1 q0)))) (m71_0 pu n q0)) none)
def l71_1 (pu:PureF) (n w:Nat):Int→Int→Int→Int→Sl→Sl→LV→OV:=
 Nat.rec (motive:=fun _=>Int→Int→Int→Int→Sl→Sl→LV→OV) (fun _ _ _ _ _ _ _=>none) (fun _ ih0=>b71_1 pu n ih0) w
def m71_ (pu:PureF) (n:Nat) (x0:Int) (s0 s1:Sl) (x1:Int):OV:=
 (l71_1 pu n n x1 (Int.ofNat (Sl.n s0)) (0:Int) x0 s0 s1 ([(.int .i64 (0:Int)),(.int .i64 (0:Int)),(.int .i64 (0:Int)),(.int .i64 (0:Int)),(.int .i64 (0:Int))]:LV))
def m71 (pu:PureF) (n:Nat) (args:LV):OV:=
 (ll args none fun a0 args=>(ll args none fun a1 args=>(ll args (oo (vAgg a0) none fun l0=>(ll l0 none fun v0 l0=>(ll l0 none fun v1 l0=>(ll l0 none fun v2 l0=>(ll l0 (oo (toI .i64 v0) none fun x0=>(oo (toSl 1 v1) none fun s0=>(oo (toSl 1 v2) none fun s1=>(oo (toI .u16 a1) none fun x1=>(m71_ pu n x0 s0 s1 x1))))) fun _ _=>none))))) fun _ _=>none)))
theorem w71_0 (pu:PureF) (n:Nat) (q0:LV) {v:Value} (hm:m71_0 pu n q0 = some v):Run tt (callP tabs isP pu (inl pu)) 1 c71_22 (fr 38 [(5,pt 1 0)]) (hT 2 [oC q0]) (Fin tt 1 [.tmp 4] v):=by
 unfold m71_0 at hm
 refine .then ?_
 replace hm:=bb_inv hm;obtain ⟨h0,hm⟩:=hm
 replace hm:=oo_inv hm;obtain ⟨v0,h1,hm⟩:=hm
 replace hm:=inv_toI hm;obtain ⟨x0,rfl,hm⟩:=hm
 replace hm:=oo_inv hm;obtain ⟨v1,h2,hm⟩:=hm
 replace hm:=inv_toI hm;obtain ⟨x1,rfl,hm⟩:=hm
 replace hm:=oo_inv hm;obtain ⟨v2,h3,hm⟩:=hm
 replace hm:=inv_toI hm;obtain ⟨x2,rfl,hm⟩:=hm
 replace hm:=oo_inv hm;obtain ⟨v3,h4,hm⟩:=hm
 replace hm:=inv_toI hm;obtain ⟨x3,rfl,hm⟩:=hm
 replace hm:=oo_inv hm;obtain ⟨v4,h5,hm⟩:=hm
 replace hm:=inv_toI hm;obtain ⟨x4,rfl,hm⟩:=hm
 refine .reg (eD (keep (hT 2 [oC q0]) (bb (Nat.ble (0 + 5) (len q0)) (some (.agg ⟨takeL 5 (dropL 0 q0)⟩)) none)) (keep_agg h0 (takeL_cons h1 (takeL_cons h2 (takeL_cons h3 (takeL_cons h4 (takeL_cons h5 rfl)))))) (eE)) ?_
 refine .ghs (fr 38 [(4,(zB (bq true (an (ieq x0 (0:Int)) (an (ieq x1 (0:Int)) (an (ieq x2 (0:Int)) (an (ieq x3 (0:Int)) (an (ieq x4 (0:Int)) true))))))))]) (hp 1 [(oT tab0)]) (.k0 [false] [] [4]) ?_
 refine .ret ?_
 exact fin_ret (zB (bq true (an (ieq x0 (0:Int)) (an (ieq x1 (0:Int)) (an (ieq x2 (0:Int)) (an (ieq x3 (0:Int)) (an (ieq x4 (0:Int)) true))))))) (by kernel_rfl) (by kernel_rfl) hm
theorem r71 {call:CallF} (pu:PureF) (n:Nat) (hcall:call = callP tabs isP pu (inl pu)) {args:LV} {v:Value} (hm:m71 pu n args = some v) (_:∀ x ∈ args,closed2 x = true):args.length≤38∧Run tt call 1 c71_25 (Fr.made 38 args) (pureHeap tabs) (Fin tt 1 [.tmp 4] v):=by
 subst hcall
 unfold m71 at hm
 replace hm:=ll_uncons hm;obtain ⟨a0,args_0,rfl,hm⟩:=hm
 replace hm:=ll_uncons hm;obtain ⟨a1,args_1,rfl,hm⟩:=hm
 replace hm:=ll_end hm;obtain ⟨rfl,hm⟩:=hm
 replace hm:=inv_vAgg hm;obtain ⟨l0,rfl,hm⟩:=hm
 replace hm:=ll_uncons hm;obtain ⟨v0,l19728_0,rfl,hm⟩:=hm
 replace hm:=ll_uncons hm;obtain ⟨v1,l19728_1,rfl,hm⟩:=hm
 replace hm:=ll_uncons hm;obtain ⟨v2,l19728_2,rfl,hm⟩:=hm
 replace hm:=ll_end hm;obtain ⟨rfl,hm⟩:=hm
 replace hm:=inv_toI hm;obtain ⟨x0,rfl,hm⟩:=hm
 replace hm:=inv_toSl hm;obtain ⟨s0,rfl,hm⟩:=hm
 replace hm:=inv_toSl hm;obtain ⟨s1,rfl,hm⟩:=hm
 replace hm:=inv_toI hm;obtain ⟨x1,rfl,hm⟩:=hm
 unfold m71_ at hm
 refine ⟨by simp,?_⟩
 refine .same (F':=(fr 38 [(0,(.agg ⟨[zI x0,Sl.v 1 s0,Sl.v 1 s1]⟩)),(1,.int .u16 x1)])) (H':=(hp 1 [(oT tab0)])) (by kernel_rfl) (by kernel_rfl) ?_
 refine .then (.rK ?_)
 refine .ghs (fr 38 [(1,.int .u16 x1),(2,pt 1 0)]) (hT 2 [(oC [zI x0,Sl.v 1 s0,Sl.v 1 s1])]) (.k0 [false] [.tmp 2 false] [1,2]) ?_
 refine .then (.rK ?_)
 refine .ghs (fr 38 [(1,.int .u16 x1),(2,pt 1 0),(5,(pt 2 0))]) (hT 3 [(oC [zI x0,Sl.v 1 s0,Sl.v 1 s1]),(oC [(zI (0:Int)),(zI (0:Int)),(zI (0:Int)),(zI (0:Int)),(zI (0:Int))])]) (.k0 [false] [.tmp 2 false,.tmp 5 false] [1,2,5]) ?_
 refine .join (v:=v) (fun y:LV=>((fr 38 [(5,pt 1 0)]),(hT 2 [oC y]))) (fun y=>m71_0 pu n y) ?_ ?_
 ·rintro q0 hm
  exact w71_0 pu n q0 hm
 ·refine .then (.rK ?_)
  refine .ghs (fr 38 [(1,.int .u16 x1),(2,pt 1 0),(5,(pt 2 0)),(9,(zI (Int.ofNat (Sl.n s0)))),(10,(zI (0:Int)))]) (hT 3 [(oC [zI x0,Sl.v 1 s0,Sl.v 1 s1]),(oC [(zI (0:Int)),(zI (0:Int)),(zI (0:Int)),(zI (0:Int)),(zI (0:Int))])]) (.k0 [false] [.tmp 2 false,.tmp 5 false] [1,2,5,9,10]) ?_
  refine .block ?_
  refine .loopM (v:=v) (fun y:Int×Int×Int×Int×Sl×Sl×LV=>((fr 38 [(1,(.int .u16 y.1)),(2,pt 1 0),(5,(pt 2 0)),(9,(zI y.2.1)),(10,(zI y.2.2.1))]),(hT 3 [(oC [(zI y.2.2.2.1),(Sl.v 1 y.2.2.2.2.1),(Sl.v 1 y.2.2.2.2.2.1)]),(oC y.2.2.2.2.2.2)]))) (fun w y=>l71_1 pu n w y.1 y.2.1 y.2.2.1 y.2.2.2.1 y.2.2.2.2.1 y.2.2.2.2.2.1 y.2.2.2.2.2.2) n ⟨(x1,(Int.ofNat (Sl.n s0)),(0:Int),x0,s0,s1,([(zI (0:Int)),(zI (0:Int)),(zI (0:Int)),(zI (0:Int)),(zI (0:Int))]:LV)),hm,(.k0 [false] [.tmp 2 false,.tmp 5 false] [1,2,5,9,10])⟩ (fun _=>rfl) ?_
  rintro w0 ⟨z0,z1,z2,z3,s2,s3,q1⟩ hm
  replace hm:b71_1 pu n (l71_1 pu n w0) z0 z1 z2 z3 s2 s3 q1 = some v:=hm
  unfold b71_1 at hm
  refine .then (.rK ?_)
  replace hm:=bb_inv hm;obtain ⟨h0,hm⟩:=hm
  refine .ghs (fr 38 [(1,.int .u16 z0),(2,pt 1 0),(5,(pt 2 0)),(9,zI z1),(10,zI z2),(11,(zB (ilt z2 z1)))]) (hT 3 [(oC [zI z3,Sl.v 1 s2,Sl.v 1 s3]),oC q1]) (.k [2] [false] [.tmp 2 false,.tmp 5 false] [1,2,5,9,10,11] ⟨trF h0,trivial⟩) ?_
  refine .then ?_
  replace hm:=bb_cases hm;rcases hm with ⟨h1,hm⟩ | ⟨h1,hm⟩
  ·refine .ifT (ilt z2 z1) (by kernel_rfl) h1 ?_
   refine .skip ?_
   refine .ghs (fr 38 [(1,.int .u16 z0),(2,pt 1 0),(5,(pt 2 0)),(9,zI z1),(10,zI z2)]) (hT 3 [(oC [zI z3,Sl.v 1 s2,Sl.v 1 s3]),oC q1]) (.k [2] [false] [.tmp 2 false,.tmp 5 false] [1,2,5,9,10] ⟨trF h0,trivial⟩) ?_
   refine .join (v:=v) (fun y:Int×Int×Int×Int×Sl×Sl×LV=>((fr 38 [(1,(.int .u16 y.1)),(2,pt 1 0),(5,(pt 2 0)),(9,(zI y.2.1)),(10,(zI y.2.2.1))]),(hT 3 [(oC [(zI y.2.2.2.1),(Sl.v 1 y.2.2.2.2.1),(Sl.v 1 y.2.2.2.2.2.1)]),(oC y.2.2.2.2.2.2)]))) (fun y=>m71_2 pu n (l71_1 pu n w0) y.1 y.2.1 y.2.2.1 y.2.2.2.1 y.2.2.2.2.1 y.2.2.2.2.2.1 y.2.2.2.2.2.2) ?_ ?_
   ·rintro ⟨z4, z5, z6, z7, s4, s5, q2⟩ hm
    unfold m71_2 at hm
    refine .rK ?_
    replace hm:=bb_inv hm;obtain ⟨h2,hm⟩:=hm
    exact ⟨(z4,z5,(wrapF .i64 (Int.add z6 (1:Int))),z7,s4,s5,q2),hm,(.k [2] [false] [.tmp 2 false,.tmp 5 false] [1,2,5,9,10] ⟨trF h2,trivial⟩)⟩
   ·refine .block ?_
    refine .then (.rK ?_)
    refine .ghs (fr 38 [(1,.int .u16 z0),(2,pt 1 0),(5,(pt 2 0)),(6,zI z2),(9,zI z1),(10,zI z2)]) (hT 3 [(oC [zI z3,Sl.v 1 s2,Sl.v 1 s3]),oC q1]) (.k [2] [false] [.tmp 2 false,.tmp 5 false] [1,2,5,6,9,10] ⟨trF h0,trivial⟩) ?_
    refine .then ?_
    replace hm:=oo_inv hm;obtain ⟨v3,h3,hm⟩:=hm
    replace hm:=inv_vBool hm;obtain ⟨b0,rfl,hm⟩:=hm
    refine .reg (eC 2 ((oo (pu 53 [.int .u16 z0,zI z2]) none fun v=>some (v,(hT 3 [(oC [zI z3,Sl.v 1 s2,Sl.v 1 s3]),oC q1])))) (call_eq h3) (eE)) ?_
    refine .ghs (fr 38 [(1,.int .u16 z0),(2,pt 1 0),(5,(pt 2 0)),(6,zI z2),(9,zI z1),(10,zI z2),(15,zB b0)]) (hT 3 [(oC [zI z3,Sl.v 1 s2,Sl.v 1 s3]),oC q1]) (.k [2] [false] [.tmp 2 false,.tmp 5 false] [1,2,5,6,9,10,15] ⟨trF h0,trivial⟩) ?_
    replace hm:=bb_cases hm;rcases hm with ⟨h4,hm⟩ | ⟨h4,hm⟩
    ·refine .ifT b0 (by kernel_rfl) h4 ?_
     refine .then ?_
     replace hm:=oo_inv hm;obtain ⟨k1,h5,hm⟩:=hm
     obtain rfl:=toN_some h5
     replace hm:=bb_inv hm;obtain ⟨h6,hm⟩:=hm
     replace hm:=oo_inv hm;obtain ⟨v4,h7,hm⟩:=hm
     replace hm:=inv_toI hm;obtain ⟨x2,rfl,hm⟩:=hm
     replace hm:=oo_inv hm;obtain ⟨k2,h8,hm⟩:=hm
     obtain rfl:=toN_some h8
     replace hm:=bb_inv hm;obtain ⟨h9,hm⟩:=hm
     replace hm:=oo_inv hm;obtain ⟨v5,h10,hm⟩:=hm
     replace hm:=inv_toI hm;obtain ⟨x3,rfl,hm⟩:=hm
     replace hm:=bb_inv hm;obtain ⟨h11,hm⟩:=hm
     replace hm:=bb_inv hm;obtain ⟨h12,hm⟩:=hm
     refine .reg (eN 6 (Fr.puts (fr 38 [(1,.int .u16 z0),(2,pt 1 0),(5,(pt 2 0)),(6,(zI (Int.ofNat k1))),(9,zI z1),(10,(zI (Int.ofNat k1))),(15,zB b0)]) [(16,pt 1 1),(17,Sl.v 1 s2),(18,(zI (Int.ofNat k1))),(19,(fpV (k1 * 1) (Sl.cs s2))),(20,(zI (Int.ofNat k2))),(21,(.pointer (some ⟨2,(0 + k2 * 1),none⟩)))]) (hT 3 [(oC [zI z3,Sl.v 1 s2,Sl.v 1 s3]),oC q1]) (eC 3 (keep (hT 3 [(oC [zI z3,Sl.v 1 s2,Sl.v 1 s3]),oC q1]) (bb (an (Nat.blt k1 (Sl.n s2)) true) (some (fpV (k1 * 1) (Sl.cs s2))) none)) (keep_bb h6) (eD (keep (hT 3 [(oC [zI z3,Sl.v 1 s2,Sl.v 1 s3]),oC q1]) (nthL (Sl.cs s2) (k1 * 1))) (keep_eq h7) (eD (keep (hT 3 [(oC [zI z3,Sl.v 1 s2,Sl.v 1 s3]),oC q1]) (bb (Nat.blt k2 5) (some (.pointer (some ⟨2,(0 + k2 * 1),none⟩))) none)) (keep_bb h9) (by kernel_rfl)))) (eD (keep (hT 3 [(oC [zI z3,Sl.v 1 s2,Sl.v 1 s3]),oC q1]) (nthL q1 (0 + k2 * 1))) (keep_eq h10) (eC 1 (keep (hT 3 [(oC [zI z3,Sl.v 1 s2,Sl.v 1 s3]),oC q1]) (bb (Nat.blt k2 5) (some (.pointer (some ⟨2,(0 + k2 * 1),none⟩))) none)) (keep_bb h11) (eD (done (bb (an (Nat.ble ((0 + k2 * 1) + 1) (len q1)) true) (some (hT 3 [(oC [zI z3,Sl.v 1 s2,Sl.v 1 s3]),(oC (setL ([(zI (wrapF .i64 (Int.add x3 (1:Int))))]:LV) (0 + k2 * 1) q1))])) none) undef) (done_bb h12) (eE))))) ?_
     replace hm:=bb_inv hm;obtain ⟨h13,hm⟩:=hm
     refine .ghs (fr 38 [(1,.int .u16 z0),(2,pt 1 0),(5,(pt 2 0)),(6,(zI (Int.ofNat k1))),(9,zI z1),(10,(zI (Int.ofNat k1)))]) (hT 3 [(oC [zI z3,Sl.v 1 s2,Sl.v 1 s3]),(oC (setL ([(zI (wrapF .i64 (Int.add x3 (1:Int))))]:LV) (0 + k2 * 1) q1))]) (.k [2] [false] [.tmp 2 false,.tmp 5 false] [1,2,5,6,9,10] ⟨trF h13,trivial⟩) ?_
     replace hm:=bb_inv hm;obtain ⟨h14,hm⟩:=hm
     replace hm:=oo_inv hm;obtain ⟨v6,h15,hm⟩:=hm
     replace hm:=inv_toI hm;obtain ⟨x4,rfl,hm⟩:=hm
     replace hm:=oo_inv hm;obtain ⟨k3,h16,hm⟩:=hm
     obtain rfl:=toN_some h16
     replace hm:=bb_inv hm;obtain ⟨h17,hm⟩:=hm
     replace hm:=oo_inv hm;obtain ⟨v7,h18,hm⟩:=hm
     replace hm:=inv_toI hm;obtain ⟨x5,rfl,hm⟩:=hm
     replace hm:=bb_inv hm;obtain ⟨h19,hm⟩:=hm
     replace hm:=bb_inv hm;obtain ⟨h20,hm⟩:=hm
     refine .reg (eN 6 (Fr.puts (fr 38 [(1,.int .u16 z0),(2,pt 1 0),(5,(pt 2 0)),(6,(zI (Int.ofNat k1))),(9,zI z1),(10,(zI (Int.ofNat k1)))]) [(25,pt 1 2),(26,Sl.v 1 s3),(27,(zI (Int.ofNat k1))),(28,(fpV (k1 * 1) (Sl.cs s3))),(29,(zI (Int.ofNat k3))),(30,(.pointer (some ⟨2,(0 + k3 * 1),none⟩)))]) (hT 3 [(oC [zI z3,Sl.v 1 s2,Sl.v 1 s3]),(oC (setL ([(zI (wrapF .i64 (Int.add x3 (1:Int))))]:LV) (0 + k2 * 1) q1))]) (eC 3 (keep (hT 3 [(oC [zI z3,Sl.v 1 s2,Sl.v 1 s3]),(oC (setL ([(zI (wrapF .i64 (Int.add x3 (1:Int))))]:LV) (0 + k2 * 1) q1))]) (bb (an (Nat.blt k1 (Sl.n s3)) true) (some (fpV (k1 * 1) (Sl.cs s3))) none)) (keep_bb h14) (eD (keep (hT 3 [(oC [zI z3,Sl.v 1 s2,Sl.v 1 s3]),(oC (setL ([(zI (wrapF .i64 (Int.add x3 (1:Int))))]:LV) (0 + k2 * 1) q1))]) (nthL (Sl.cs s3) (k1 * 1))) (keep_eq h15) (eD (keep (hT 3 [(oC [zI z3,Sl.v 1 s2,Sl.v 1 s3]),(oC (setL ([(zI (wrapF .i64 (Int.add x3 (1:Int))))]:LV) (0 + k2 * 1) q1))]) (bb (Nat.blt k3 5) (some (.pointer (some ⟨2,(0 + k3 * 1),none⟩))) none)) (keep_bb h17) (by kernel_rfl)))) (eD (keep (hT 3 [(oC [zI z3,Sl.v 1 s2,Sl.v 1 s3]),(oC (setL ([(zI (wrapF .i64 (Int.add x3 (1:Int))))]:LV) (0 + k2 * 1) q1))]) (nthL (setL ([(zI (wrapF .i64 (Int.add x3 (1:Int))))]:LV) (0 + k2 * 1) q1) (0 + k3 * 1))) (keep_eq h18) (eC 1 (keep (hT 3 [(oC [zI z3,Sl.v 1 s2,Sl.v 1 s3]),(oC (setL ([(zI (wrapF .i64 (Int.add x3 (1:Int))))]:LV) (0 + k2 * 1) q1))]) (bb (Nat.blt k3 5) (some (.pointer (some ⟨2,(0 + k3 * 1),none⟩))) none)) (keep_bb h19) (eD (done (bb (an (Nat.ble ((0 + k3 * 1) + 1) (len (setL ([(zI (wrapF .i64 (Int.add x3 (1:Int))))]:LV) (0 + k2 * 1) q1))) true) (some (hT 3 [(oC [zI z3,Sl.v 1 s2,Sl.v 1 s3]),(oC (setL ([(zI (wrapF .i64 (Int.sub x5 (1:Int))))]:LV) (0 + k3 * 1) (setL ([(zI (wrapF .i64 (Int.add x3 (1:Int))))]:LV) (0 + k2 * 1) q1)))])) none) undef) (done_bb h20) (eE))))) ?_
     replace hm:=bb_inv hm;obtain ⟨h21,hm⟩:=hm
     exact ⟨(z0,z1,(Int.ofNat k1),z3,s2,s3,(setL ([(zI (wrapF .i64 (Int.sub x5 (1:Int))))]:LV) (0 + k3 * 1) (setL ([(zI (wrapF .i64 (Int.add x3 (1:Int))))]:LV) (0 + k2 * 1) q1))),hm,(.k [2] [false] [.tmp 2 false,.tmp 5 false] [1,2,5,9,10] ⟨trF h21,trivial⟩)⟩
    ·refine .ifF b0 (by kernel_rfl) h4 ?_
     refine .skip ?_
     exact ⟨(z0,z1,z2,z3,s2,s3,q1),hm,(.k [2] [false] [.tmp 2 false,.tmp 5 false] [1,2,5,9,10] ⟨trF h0,trivial⟩)⟩
  ·refine .ifF (ilt z2 z1) (by kernel_rfl) h1 ?_
   refine .exit ?_
   exact ⟨q1,hm,(.k [2] [false] [.tmp 5 false] [5] ⟨trF h0,trivial⟩)⟩
end
end Go.MdFM
