/- Made from wip. -/
import Derived.Test.YtlgmapibifphaaaDoorMdFMod0x
import Derived.Test.YtlgmapibifphaaaDoorMdFMod1
import Derived.Test.YtlgmapibifphaaaDoorMdFMod2
import Derived.Test.YtlgmapibifphaaaDoorMdFMod3
import Derived.Test.YtlgmapibifphaaaDoorMdFMod4
import Derived.Test.YtlgmapibifphaaaDoorMdFMod5
import Derived.Test.YtlgmapibifphaaaDoorMdFMod6

set_option maxRecDepth 100000
set_option maxHeartbeats 20000000
set_option linter.unusedVariables false
namespace Go.MdFM
open Go.Sp Go.MdF
noncomputable section
def m10690_0 (pu:PureF) (n:Nat) (z0:Int):OV:=
 (some (.tuple ⟨[.int .i64 z0]⟩))
def m10690_2 (pu:PureF) (n:Nat) (ih0:Sl→Int→Int→Int→OV) (s0:Sl) (z0 z1 z2:Int):OV:=
 (ih0 s0 z0 z1 (wrapF .i64 (Int.add z2 (1:Int))))
def b10690_1 (pu:PureF) (n:Nat) (ih0:Sl→Int→Int→Int→OV) (s0:Sl) (z0 z1 z2:Int):OV:=
 (bb (ilt z2 (Int.ofNat (Sl.n s0))) (oo (toN z2) none fun k1=>(bb (an (Nat.blt k1 (Sl.n s0)) true) (oo (nthL (Sl.cs s0) (k1 * 1)) none fun v0=>(oo (toI .i64 v0) none fun x0=>(bb (ieq x0 z0) (m10690_2 pu n ih0 s0 z0 (wrapF .i64 (Int.add z1 (1:Int))) (Int.ofNat k1)) (m10690_2 pu n ih0 s0 z0 z1 (Int.ofNat k1))))) none)) (m10690_0 pu n z1))
def l10690_1 (pu:PureF) (n w:Nat):Sl→Int→Int→Int→OV:=
 Nat.rec (motive:=fun _=>Sl→Int→Int→Int→OV) (fun _ _ _ _=>none) (fun _ ih0=>b10690_1 pu n ih0) w
def m10690_ (pu:PureF) (n:Nat) (s0:Sl) (z0:Int):OV:=
 (l10690_1 pu n n s0 z0 (0:Int) (0:Int))
def m10690 (pu:PureF) (n:Nat) (args:LV):OV:=
 (ll args none fun a0 args=>(ll args none fun a1 args=>(ll args (oo (toSl 1 a0) none fun s0=>(oo (toI .i64 a1) none fun x0=>(m10690_ pu n s0 x0))) fun _ _=>none)))
theorem w10690_0 (pu:PureF) (n:Nat) (z0:Int) {v:Value} (hm:m10690_0 pu n z0 = some v):Run tt (callP tabs isP pu (inl pu)) 1 c69_18 (fr 22 [(5,zI z0)]) (hp 1 [(oT tab0)]) (FinO tt 1 0 [.tmp 4] v):=by
 unfold m10690_0 at hm
 refine .then (.rK ?_)
 refine .ghs (fr 22 [(4,zI z0)]) (hp 1 [(oT tab0)]) (.k0 [false] [] [4]) ?_
 refine .ghs (fr 22 [(4,zI z0)]) (hp 1 [(oT tab0)]) (.k0 [false] [] [4]) ?_
 refine .ret ?_
 exact finO_ret (zI z0) [] (by kernel_rfl) hm (Nat.le_of_ble_eq_true rfl) ooAt_nil
theorem q10690 (pu:PureF) (n:Nat) (s0:Sl) (z0:Int) {v:Value} (hm:m10690_ pu n s0 z0 = some v):Run tt (callP tabs isP pu (inl pu)) 1 c69_21 (fr 22 [(0,Sl.v 1 s0),(1,zI z0)]) (hp 1 [(oT tab0)]) (FinO tt 1 0 [.tmp 4] v):=by
 unfold m10690_ at hm
 refine .then (.rK ?_)
 refine .ghs (fr 22 [(0,Sl.v 1 s0),(1,zI z0)]) (hp 1 [(oT tab0)]) (.k0 [false] [] [0,1]) ?_
 refine .then (.rK ?_)
 refine .ghs (fr 22 [(0,Sl.v 1 s0),(1,zI z0),(5,(zI (0:Int)))]) (hp 1 [(oT tab0)]) (.k0 [false] [] [0,1,5]) ?_
 refine .join (v:=v) (fun y:Int=>((fr 22 [(5,zI y)]),(hp 1 [(oT tab0)]))) (fun y=>m10690_0 pu n y) ?_ ?_
 ·rintro z1 hm
  exact w10690_0 pu n z1 hm
 ·refine .then (.rK ?_)
  refine .ghs (fr 22 [(0,Sl.v 1 s0),(1,zI z0),(5,(zI (0:Int))),(6,(zI (0:Int)))]) (hp 1 [(oT tab0)]) (.k0 [false] [] [0,1,5,6]) ?_
  refine .block ?_
  refine .loopM (v:=v) (fun y:Sl×Int×Int×Int=>((fr 22 [(0,(Sl.v 1 y.1)),(1,(zI y.2.1)),(5,(zI y.2.2.1)),(6,(zI y.2.2.2))]),(hp 1 [(oT tab0)]))) (fun w y=>l10690_1 pu n w y.1 y.2.1 y.2.2.1 y.2.2.2) n ⟨(s0,z0,(0:Int),(0:Int)),hm,(.k0 [false] [] [0,1,5,6])⟩ (fun _=>rfl) ?_
  rintro w0 ⟨s1,z2,z3,z4⟩ hm
  replace hm:b10690_1 pu n (l10690_1 pu n w0) s1 z2 z3 z4 = some v:=hm
  unfold b10690_1 at hm
  refine .then ?_
  refine .then (.rK ?_)
  refine .ghs (fr 22 [(0,Sl.v 1 s1),(1,zI z2),(5,zI z3),(6,zI z4),(10,(zB (ilt z4 (Int.ofNat (Sl.n s1)))))]) (hp 1 [(oT tab0)]) (.k0 [false] [] [0,1,5,6,10]) ?_
  replace hm:=bb_cases hm;rcases hm with ⟨h0,hm⟩ | ⟨h0,hm⟩
  ·refine .ifT (ilt z4 (Int.ofNat (Sl.n s1))) (by kernel_rfl) h0 ?_
   refine .skip ?_
   refine .ghs (fr 22 [(0,Sl.v 1 s1),(1,zI z2),(5,zI z3),(6,zI z4)]) (hp 1 [(oT tab0)]) (.k0 [false] [] [0,1,5,6]) ?_
   refine .join (v:=v) (fun y:Sl×Int×Int×Int=>((fr 22 [(0,(Sl.v 1 y.1)),(1,(zI y.2.1)),(5,(zI y.2.2.1)),(6,(zI y.2.2.2))]),(hp 1 [(oT tab0)]))) (fun y=>m10690_2 pu n (l10690_1 pu n w0) y.1 y.2.1 y.2.2.1 y.2.2.2) ?_ ?_
   ·rintro ⟨s2, z5, z6, z7⟩ hm
    unfold m10690_2 at hm
    refine .rK ?_
    exact ⟨(s2,z5,z6,(wrapF .i64 (Int.add z7 (1:Int)))),hm,(.k0 [false] [] [0,1,5,6])⟩
   ·refine .block ?_
    refine .then ?_
    replace hm:=oo_inv hm;obtain ⟨k1,h1,hm⟩:=hm
    obtain rfl:=toN_some h1
    replace hm:=bb_inv hm;obtain ⟨h2,hm⟩:=hm
    replace hm:=oo_inv hm;obtain ⟨v0,h3,hm⟩:=hm
    replace hm:=inv_toI hm;obtain ⟨x0,rfl,hm⟩:=hm
    refine .reg (eC 2 (keep (hp 1 [(oT tab0)]) (bb (an (Nat.blt k1 (Sl.n s1)) true) (some (fpV (k1 * 1) (Sl.cs s1))) none)) (keep_bb h2) (eD (keep (hp 1 [(oT tab0)]) (nthL (Sl.cs s1) (k1 * 1))) (keep_eq h3) (eE))) ?_
    refine .ghs (fr 22 [(0,Sl.v 1 s1),(1,zI z2),(5,zI z3),(6,(zI (Int.ofNat k1))),(18,(zB (ieq x0 z2)))]) (hp 1 [(oT tab0)]) (.k0 [false] [] [0,1,5,6,18]) ?_
    replace hm:=bb_cases hm;rcases hm with ⟨h4,hm⟩ | ⟨h4,hm⟩
    ·refine .ifT (ieq x0 z2) (by kernel_rfl) h4 ?_
     refine .rK ?_
     exact ⟨(s1,z2,(wrapF .i64 (Int.add z3 (1:Int))),(Int.ofNat k1)),hm,(.k0 [false] [] [0,1,5,6])⟩
    ·refine .ifF (ieq x0 z2) (by kernel_rfl) h4 ?_
     refine .skip ?_
     exact ⟨(s1,z2,z3,(Int.ofNat k1)),hm,(.k0 [false] [] [0,1,5,6])⟩
  ·refine .ifF (ilt z4 (Int.ofNat (Sl.n s1))) (by kernel_rfl) h0 ?_
   refine .exit ?_
   exact ⟨z3,hm,(.k0 [false] [] [5])⟩
theorem r10690 {call:CallF} (pu:PureF) (n:Nat) (hcall:call = callP tabs isP pu (inl pu)) {args:LV} {os:List AObj} {z:Value} (ha:args.length = 2) (hk:os.length = 0) (hpl:∀ o ∈ os,plainO o) (hm:m10690 pu n (args ++ os.map encO) = some z):args.length≤22∧Run tt call (tabs.length + 0) c69_21 (Fr.made 22 args) (subHeap tabs os) (FinO tt tabs.length 0 [.tmp 4] z):=by
 subst hcall
 have hq:=len_cons ha;clear ha;obtain ⟨a0,args,rfl,ha⟩:=hq
 have hq:=len_cons ha;clear ha;obtain ⟨a1,args,rfl,ha⟩:=hq
 obtain rfl:=len_nil ha
 obtain rfl:=len_nil hk
 replace hm:m10690 pu n [a0,a1] = some z:=hm
 unfold m10690 at hm
 replace hm:(oo (toSl 1 a0) none fun s0=>(oo (toI .i64 a1) none fun x0=>(m10690_ pu n s0 x0))) = some z:=hm
 replace hm:=inv_toSl hm;obtain ⟨s0,rfl,hm⟩:=hm
 replace hm:=inv_toI hm;obtain ⟨x0,rfl,hm⟩:=hm
 refine ⟨by simp,?_⟩
 exact .same (F':=(fr 22 [(0,Sl.v 1 s0),(1,zI x0)])) (H':=(hp 1 [(oT tab0)])) (by kernel_rfl) (by kernel_rfl) (q10690 pu n s0 x0 hm)
def m10700_0 (pu:PureF) (n:Nat) (s0 s1:Sl) (b0:Bool):OV:=
 (bb b0 (some (.tuple ⟨[Sl.v 1 s1]⟩)) (some (.tuple ⟨[Sl.v 1 s0]⟩)))
def m10700_1 (pu:PureF) (n:Nat) (s0:Sl):OV:=
 (some (.tuple ⟨[Sl.v 1 s0]⟩))
def m10700_3 (pu:PureF) (n:Nat) (ih0:Sl→Sl→Sl→Int→Int→Sl→Sl→OV) (s0 s1 s2:Sl) (z0 z1:Int) (s3 s4:Sl):OV:=
 (ih0 s0 s1 s2 (wrapF .i64 (Int.add z0 (1:Int))) z1 s3 s4)
def m10700_4 (pu:PureF) (n:Nat) (ih0:Sl→Sl→Sl→Int→Int→Sl→Sl→OV) (s0 s1 s2:Sl) (z0 z1:Int) (b0:Bool) (z2:Int) (s3 s4:Sl):OV:=
 (bb b0 (bb (Nat.beq (Sl.n s1) 0) (oo (pu 10700 [(.agg ⟨[.int .i64 z2,Sl.v 1 s3,Sl.v 1 s4]⟩),Sl.v 1 s0,(Sl.v 1 (Sl.mk 1 0 (takeL (1 * 1) (dropL 0 ([.int .i64 z1]:LV))))),Sl.v 1 s2]) none fun v0=>(oo (vTup v0) none fun l0=>(ll l0 none fun v1 l0=>(ll l0 (oo (toSl 1 v1) none fun s5=>(m10700_3 pu n ih0 s0 s1 s5 z0 z2 s3 s4)) fun _ _=>none)))) (bb (roomy (0 + (Sl.n s1)) 8) (bb (growC 1 8 (0 + (Sl.n s1)) (2 * (0 + (Sl.n s1)) + bb false 1 0) 1 (takeL ((Sl.n s1) * 1) (Sl.cs s1))) (bb (an (Nat.ble (0 + ((0 + (Sl.n s1)) + 1) * 1) (len (appL (dropL 0 (takeL ((Sl.n s1) * 1) (Sl.cs s1))) [.int .i64 z1]))) (allL closed1 (takeL (((0 + (Sl.n s1)) + 1) * 1) (dropL 0 (appL (dropL 0 (takeL ((Sl.n s1) * 1) (Sl.cs s1))) [.int .i64 z1]))))) (oo (pu 10700 [(.agg ⟨[.int .i64 z2,Sl.v 1 s3,Sl.v 1 s4]⟩),Sl.v 1 s0,(Sl.v 1 (Sl.mk ((0 + (Sl.n s1)) + 1) 0 (takeL (((0 + (Sl.n s1)) + 1) * 1) (dropL 0 (appL (dropL 0 (takeL ((Sl.n s1) * 1) (Sl.cs s1))) [.int .i64 z1]))))),Sl.v 1 s2]) none fun v2=>(oo (vTup v2) none fun l1=>(ll l1 none fun v3 l1=>(ll l1 (oo (toSl 1 v3) none fun s6=>(m10700_3 pu n ih0 s0 s1 s6 z0 z2 s3 s4)) fun _ _=>none)))) none) none) none)) (m10700_3 pu n ih0 s0 s1 s2 z0 z2 s3 s4))
def b10700_2 (pu:PureF) (n:Nat) (ih0:Sl→Sl→Sl→Int→Int→Sl→Sl→OV) (s0 s1 s2:Sl) (z0 z1:Int) (s3 s4:Sl):OV:=
 (bb (ilt z0 (Int.ofNat (Sl.n s0))) (oo (toN z0) none fun k1=>(bb (an (Nat.blt k1 (Sl.n s0)) true) (oo (nthL (Sl.cs s0) (k1 * 1)) none fun v0=>(oo (toI .i64 v0) none fun x0=>(oo (toN x0) none fun k2=>(bb (an (Nat.blt k2 (Sl.n s3)) true) (oo (nthL (Sl.cs s3) (k2 * 1)) none fun v1=>(oo (toI .i64 v1) none fun x1=>(bb (an (Nat.blt (Sl.n s1) (Sl.n s0)) true) (oo (nthL (Sl.cs s0) ((Sl.n s1) * 1)) none fun v2=>(oo (toI .i64 v2) none fun x2=>(oo (toN x2) none fun k3=>(bb (an (Nat.blt k3 (Sl.n s4)) true) (oo (nthL (Sl.cs s4) (k3 * 1)) none fun v3=>(oo (toI .i64 v3) none fun x3=>(bb (ieq x1 x3) (oo (pu 10550 [Sl.v 1 s1,(.int .i64 (Int.ofNat k2))]) none fun v4=>(oo (vTup v4) none fun l0=>(ll l0 none fun v5 l0=>(ll l0 (oo (vBool v5) none fun b0=>(m10700_4 pu n ih0 s0 s1 s2 (Int.ofNat k1) (Int.ofNat k2) (nt b0) z1 s3 s4)) fun _ _=>none)))) (m10700_4 pu n ih0 s0 s1 s2 (Int.ofNat k1) (Int.ofNat k2) false z1 s3 s4)))) none)))) none))) none)))) none)) (m10700_1 pu n s2))
def l10700_2 (pu:PureF) (n w:Nat):Sl→Sl→Sl→Int→Int→Sl→Sl→OV:=
 Nat.rec (motive:=fun _=>Sl→Sl→Sl→Int→Int→Sl→Sl→OV) (fun _ _ _ _ _ _ _=>none) (fun _ ih0=>b10700_2 pu n ih0) w
def m10700_ (pu:PureF) (n:Nat) (z0:Int) (s0 s1 s2 s3 s4:Sl):OV:=
 (bb (ieq (Int.ofNat (Sl.n s3)) (Int.ofNat (Sl.n s2))) (oo (pu 73 [Sl.v 1 s2,Sl.v 1 s3]) none fun v0=>(oo (toSl 1 v0) none fun s5=>(bb (orr (Nat.beq (Sl.fl s4) 2) (orr (Nat.beq (Sl.fl s4) 3) (Nat.ble 1 (Sl.n s4)))) (bb (bq true (Nat.beq (Sl.fl s4) 2)) (m10700_0 pu n s4 s5 true) (bb (ilt (Int.ofNat (Sl.n s4)) (Int.ofNat (Sl.n s5))) (m10700_0 pu n s4 s5 true) (bb (ieq (Int.ofNat (Sl.n s5)) (Int.ofNat (Sl.n s4))) (oo (pu 74 [Sl.v 1 s5,Sl.v 1 s4]) none fun v1=>(oo (vBool v1) none fun b0=>(m10700_0 pu n s4 s5 b0))) (m10700_0 pu n s4 s5 false)))) none))) (l10700_2 pu n n s2 s3 s4 (0:Int) z0 s0 s1))
def m10700 (pu:PureF) (n:Nat) (args:LV):OV:=
 (ll args none fun a0 args=>(ll args none fun a1 args=>(ll args none fun a2 args=>(ll args none fun a3 args=>(ll args (oo (vAgg a0) none fun l0=>(ll l0 none fun v0 l0=>(ll l0 none fun v1 l0=>(ll l0 none fun v2 l0=>(ll l0 (oo (toI .i64 v0) none fun x0=>(oo (toSl 1 v1) none fun s0=>(oo (toSl 1 v2) none fun s1=>(oo (toSl 1 a1) none fun s2=>(oo (toSl 1 a2) none fun s3=>(oo (toSl 1 a3) none fun s4=>(m10700_ pu n x0 s0 s1 s2 s3 s4))))))) fun _ _=>none))))) fun _ _=>none)))))
theorem w10700_1 (pu:PureF) (n:Nat) (s0:Sl) {v:Value} (hm:m10700_1 pu n s0 = some v):Run tt (callP tabs isP pu (inl pu)) 1 c70_32 (fr 85 [(3,Sl.v 1 s0)]) (hp 1 [(oT tab0)]) (FinO tt 1 0 [.tmp 8] v):=by
 unfold m10700_1 at hm
 refine .then (.rK ?_)
 refine .ghs (fr 85 [(8,Sl.v 1 s0)]) (hp 1 [(oT tab0)]) (.k0 [false] [] [8]) ?_
 refine .ghs (fr 85 [(8,Sl.v 1 s0)]) (hp 1 [(oT tab0)]) (.k0 [false] [] [8]) ?_
 refine .ret ?_
 exact finO_ret (Sl.v 1 s0) [] (by kernel_rfl) hm (Nat.le_of_ble_eq_true rfl) ooAt_nil
theorem q10700 (pu:PureF) (n:Nat) (z0:Int) (s0 s1 s2 s3 s4:Sl) {v:Value} (hm:m10700_ pu n z0 s0 s1 s2 s3 s4 = some v):Run tt (callP tabs isP pu (inl pu)) 1 c70_35 (fr 85 [(0,(.agg ⟨[zI z0,Sl.v 1 s0,Sl.v 1 s1]⟩)),(1,Sl.v 1 s2),(2,Sl.v 1 s3),(3,Sl.v 1 s4)]) (hp 1 [(oT tab0)]) (FinO tt 1 0 [.tmp 8] v):=by
 unfold m10700_ at hm
 refine .then (.rK ?_)
 refine .ghs (fr 85 [(1,Sl.v 1 s2),(2,Sl.v 1 s3),(3,Sl.v 1 s4),(4,pt 1 0)]) (hT 2 [(oC [zI z0,Sl.v 1 s0,Sl.v 1 s1])]) (.k0 [false] [.tmp 4 false] [1,2,3,4]) ?_
 refine .then ?_
 refine .then (.rK ?_)
 refine .ghs (fr 85 [(1,Sl.v 1 s2),(2,Sl.v 1 s3),(3,Sl.v 1 s4),(4,pt 1 0),(16,(zB (ieq (Int.ofNat (Sl.n s3)) (Int.ofNat (Sl.n s2)))))]) (hT 2 [(oC [zI z0,Sl.v 1 s0,Sl.v 1 s1])]) (.k0 [false] [.tmp 4 false] [1,2,3,4,16]) ?_
 replace hm:=bb_cases hm;rcases hm with ⟨h0,hm⟩ | ⟨h0,hm⟩
 ·refine .ifT (ieq (Int.ofNat (Sl.n s3)) (Int.ofNat (Sl.n s2))) (by kernel_rfl) h0 ?_
  refine .then ?_
  replace hm:=oo_inv hm;obtain ⟨v0,h1,hm⟩:=hm
  replace hm:=inv_toSl hm;obtain ⟨s5,rfl,hm⟩:=hm
  refine .reg (eC 2 ((oo (pu 73 [Sl.v 1 s2,Sl.v 1 s3]) none fun v=>some (v,(hT 2 [(oC [zI z0,Sl.v 1 s0,Sl.v 1 s1])])))) (call_eq h1) (eE)) ?_
  refine .ghs (fr 85 [(3,Sl.v 1 s4),(9,Sl.v 1 s5)]) (hp 1 [(oT tab0)]) (.k0 [false] [] [3,9]) ?_
  refine .then ?_
  refine .join (v:=v) (fun y:Sl×Sl×Bool=>((fr 85 [(3,(Sl.v 1 y.1)),(9,(Sl.v 1 y.2.1)),(40,(zB y.2.2))]),(hp 1 [(oT tab0)]))) (fun y=>m10700_0 pu n y.1 y.2.1 y.2.2) ?_ ?_
  ·rintro ⟨s6, s7, b0⟩ hm
   unfold m10700_0 at hm
   replace hm:=bb_cases hm;rcases hm with ⟨h2,hm⟩ | ⟨h2,hm⟩
   ·refine .ifT b0 (by kernel_rfl) h2 ?_
    refine .then (.rK ?_)
    refine .ghs (fr 85 [(8,Sl.v 1 s7)]) (hp 1 [(oT tab0)]) (.k0 [false] [] [8]) ?_
    refine .ghs (fr 85 [(8,Sl.v 1 s7)]) (hp 1 [(oT tab0)]) (.k0 [false] [] [8]) ?_
    refine .ret ?_
    exact finO_ret (Sl.v 1 s7) [] (by kernel_rfl) hm (Nat.le_of_ble_eq_true rfl) ooAt_nil
   ·refine .ifF b0 (by kernel_rfl) h2 ?_
    refine .skip ?_
    refine .ghs (fr 85 [(3,Sl.v 1 s6)]) (hp 1 [(oT tab0)]) (.k0 [false] [] [3]) ?_
    refine .then (.rK ?_)
    refine .ghs (fr 85 [(8,Sl.v 1 s6)]) (hp 1 [(oT tab0)]) (.k0 [false] [] [8]) ?_
    refine .ghs (fr 85 [(8,Sl.v 1 s6)]) (hp 1 [(oT tab0)]) (.k0 [false] [] [8]) ?_
    refine .ret ?_
    exact finO_ret (Sl.v 1 s6) [] (by kernel_rfl) hm (Nat.le_of_ble_eq_true rfl) ooAt_nil
  ·replace hm := bb_inv hm; obtain ⟨h3, hm⟩ := hm
   replace hm:=bb_cases hm;rcases hm with ⟨h4,hm⟩ | ⟨h4,hm⟩
   ·refine .reg (eC 1 (keep (hp 1 [(oT tab0)]) (nilS true 1 s4)) (show _ = some ((zB true), _) from (by have hz : keep (hp 1 [(oT tab0)]) (nilS true 1 s4) = some ((zB (bq true (Nat.beq (Sl.fl s4) 2))), (hp 1 [(oT tab0)])) := (nilS_eq h3); rw [h4] at hz; exact hz)) (eE)) ?_
    exact ⟨(s4,s5,true),hm,(.k0 [false] [] [3,9,40])⟩
   ·replace hm := bb_cases hm; rcases hm with ⟨h5, hm⟩ | ⟨h5, hm⟩
    ·refine .reg (eC 1 (keep (hp 1 [(oT tab0)]) (nilS true 1 s4)) (show _ = some ((zB false), _) from (by have hz : keep (hp 1 [(oT tab0)]) (nilS true 1 s4) = some ((zB (bq true (Nat.beq (Sl.fl s4) 2))), (hp 1 [(oT tab0)])) := (nilS_eq h3); rw [h4] at hz; exact hz)) (eC 5 (some ((zB (ilt (Int.ofNat (Sl.n s4)) (Int.ofNat (Sl.n s5)))), (hp 1 [(oT tab0)]))) (show _ = some ((zB true), _) from (by rw [h5])) (eE))) ?_
     exact ⟨(s4,s5,true),hm,(.k0 [false] [] [3,9,40])⟩
    ·replace hm := bb_cases hm; rcases hm with ⟨h6, hm⟩ | ⟨h6, hm⟩
     ·replace hm := oo_inv hm; obtain ⟨v1, h7, hm⟩ := hm
      replace hm:=inv_vBool hm;obtain ⟨b1,rfl,hm⟩:=hm
      refine .reg (eC 1 (keep (hp 1 [(oT tab0)]) (nilS true 1 s4)) (show _ = some ((zB false),_) from (by have hz:keep (hp 1 [(oT tab0)]) (nilS true 1 s4) = some ((zB (bq true (Nat.beq (Sl.fl s4) 2))),(hp 1 [(oT tab0)])):=(nilS_eq h3);rw [h4] at hz;exact hz)) (eC 5 (some ((zB (ilt (Int.ofNat (Sl.n s4)) (Int.ofNat (Sl.n s5)))),(hp 1 [(oT tab0)]))) (show _ = some ((zB false),_) from (by rw [h5])) (eC 6 (some ((zB (ieq (Int.ofNat (Sl.n s5)) (Int.ofNat (Sl.n s4)))),(hp 1 [(oT tab0)]))) (show _ = some ((zB true),_) from (by rw [h6])) (eC 3 ((oo (pu 74 [Sl.v 1 s5,Sl.v 1 s4]) none fun v=>some (v,(hp 1 [(oT tab0)])))) (call_eq h7) (eE))))) ?_
      exact ⟨(s4,s5,b1),hm,(.k0 [false] [] [3,9,40])⟩
     ·refine .reg (eC 1 (keep (hp 1 [(oT tab0)]) (nilS true 1 s4)) (show _ = some ((zB false), _) from (by have hz : keep (hp 1 [(oT tab0)]) (nilS true 1 s4) = some ((zB (bq true (Nat.beq (Sl.fl s4) 2))), (hp 1 [(oT tab0)])) := (nilS_eq h3); rw [h4] at hz; exact hz)) (eC 5 (some ((zB (ilt (Int.ofNat (Sl.n s4)) (Int.ofNat (Sl.n s5)))), (hp 1 [(oT tab0)]))) (show _ = some ((zB false), _) from (by rw [h5])) (eC 6 (some ((zB (ieq (Int.ofNat (Sl.n s5)) (Int.ofNat (Sl.n s4)))), (hp 1 [(oT tab0)]))) (show _ = some ((zB false), _) from (by rw [h6])) (eE)))) ?_
      exact ⟨(s4,s5,false),hm,(.k0 [false] [] [3,9,40])⟩
 ·refine .ifF (ieq (Int.ofNat (Sl.n s3)) (Int.ofNat (Sl.n s2))) (by kernel_rfl) h0 ?_
  refine .skip ?_
  refine .ghs (fr 85 [(1,Sl.v 1 s2),(2,Sl.v 1 s3),(3,Sl.v 1 s4),(4,pt 1 0)]) (hT 2 [(oC [zI z0,Sl.v 1 s0,Sl.v 1 s1])]) (.k0 [false] [.tmp 4 false] [1,2,3,4]) ?_
  refine .join (v:=v) (fun y:Sl=>((fr 85 [(3,Sl.v 1 y)]),(hp 1 [(oT tab0)]))) (fun y=>m10700_1 pu n y) ?_ ?_
  ·rintro s8 hm
   exact w10700_1 pu n s8 hm
  ·refine .then (.rK ?_)
   refine .ghs (fr 85 [(1,Sl.v 1 s2),(2,Sl.v 1 s3),(3,Sl.v 1 s4),(4,pt 1 0),(10,(zI (0:Int)))]) (hT 2 [(oC [zI z0,Sl.v 1 s0,Sl.v 1 s1])]) (.k0 [false] [.tmp 4 false] [1,2,3,4,10]) ?_
   refine .block ?_
   refine .loopM (v:=v) (fun y:Sl×Sl×Sl×Int×Int×Sl×Sl=>((fr 85 [(1,(Sl.v 1 y.1)),(2,(Sl.v 1 y.2.1)),(3,(Sl.v 1 y.2.2.1)),(4,pt 1 0),(10,(zI y.2.2.2.1))]),(hT 2 [(oC [(zI y.2.2.2.2.1),(Sl.v 1 y.2.2.2.2.2.1),(Sl.v 1 y.2.2.2.2.2.2)])]))) (fun w y=>l10700_2 pu n w y.1 y.2.1 y.2.2.1 y.2.2.2.1 y.2.2.2.2.1 y.2.2.2.2.2.1 y.2.2.2.2.2.2) n ⟨(s2,s3,s4,(0:Int),z0,s0,s1),hm,(.k0 [false] [.tmp 4 false] [1,2,3,4,10])⟩ (fun _=>rfl) ?_
   rintro w0 ⟨s9,s10,s11,z1,z2,s12,s13⟩ hm
   replace hm:b10700_2 pu n (l10700_2 pu n w0) s9 s10 s11 z1 z2 s12 s13 = some v:=hm
   unfold b10700_2 at hm
   refine .then ?_
   refine .then (.rK ?_)
   refine .ghs (fr 85 [(1,Sl.v 1 s9),(2,Sl.v 1 s10),(3,Sl.v 1 s11),(4,pt 1 0),(10,zI z1),(46,(zB (ilt z1 (Int.ofNat (Sl.n s9)))))]) (hT 2 [(oC [zI z2,Sl.v 1 s12,Sl.v 1 s13])]) (.k0 [false] [.tmp 4 false] [1,2,3,4,10,46]) ?_
   replace hm:=bb_cases hm;rcases hm with ⟨h8,hm⟩ | ⟨h8,hm⟩
   ·refine .ifT (ilt z1 (Int.ofNat (Sl.n s9))) (by kernel_rfl) h8 ?_
    refine .skip ?_
    refine .ghs (fr 85 [(1,Sl.v 1 s9),(2,Sl.v 1 s10),(3,Sl.v 1 s11),(4,pt 1 0),(10,zI z1)]) (hT 2 [(oC [zI z2,Sl.v 1 s12,Sl.v 1 s13])]) (.k0 [false] [.tmp 4 false] [1,2,3,4,10]) ?_
    refine .join (v:=v) (fun y:Sl×Sl×Sl×Int×Int×Sl×Sl=>((fr 85 [(1,(Sl.v 1 y.1)),(2,(Sl.v 1 y.2.1)),(3,(Sl.v 1 y.2.2.1)),(4,pt 1 0),(10,(zI y.2.2.2.1))]),(hT 2 [(oC [(zI y.2.2.2.2.1),(Sl.v 1 y.2.2.2.2.2.1),(Sl.v 1 y.2.2.2.2.2.2)])]))) (fun y=>m10700_3 pu n (l10700_2 pu n w0) y.1 y.2.1 y.2.2.1 y.2.2.2.1 y.2.2.2.2.1 y.2.2.2.2.2.1 y.2.2.2.2.2.2) ?_ ?_
    ·rintro ⟨s14, s15, s16, z3, z4, s17, s18⟩ hm
     unfold m10700_3 at hm
     refine .rK ?_
     exact ⟨(s14,s15,s16,(wrapF .i64 (Int.add z3 (1:Int))),z4,s17,s18),hm,(.k0 [false] [.tmp 4 false] [1,2,3,4,10])⟩
    ·refine .block ?_
     refine .then ?_
     replace hm:=oo_inv hm;obtain ⟨k1,h9,hm⟩:=hm
     obtain rfl:=toN_some h9
     replace hm:=bb_inv hm;obtain ⟨h10,hm⟩:=hm
     replace hm:=oo_inv hm;obtain ⟨v2,h11,hm⟩:=hm
     replace hm:=inv_toI hm;obtain ⟨x0,rfl,hm⟩:=hm
     refine .reg (eC 2 (keep (hT 2 [(oC [zI z2,Sl.v 1 s12,Sl.v 1 s13])]) (bb (an (Nat.blt k1 (Sl.n s9)) true) (some (fpV (k1 * 1) (Sl.cs s9))) none)) (keep_bb h10) (eD (keep (hT 2 [(oC [zI z2,Sl.v 1 s12,Sl.v 1 s13])]) (nthL (Sl.cs s9) (k1 * 1))) (keep_eq h11) (eE))) ?_
     refine .ghs (fr 85 [(1,Sl.v 1 s9),(2,Sl.v 1 s10),(3,Sl.v 1 s11),(4,pt 1 0),(10,(zI (Int.ofNat k1))),(11,zI x0)]) (hT 2 [(oC [zI z2,Sl.v 1 s12,Sl.v 1 s13])]) (.k0 [false] [.tmp 4 false] [1,2,3,4,10,11]) ?_
     refine .join (v:=v) (fun y:Sl×Sl×Sl×Int×Int×Bool×Int×Sl×Sl=>((fr 85 [(1,(Sl.v 1 y.1)),(2,(Sl.v 1 y.2.1)),(3,(Sl.v 1 y.2.2.1)),(4,pt 1 0),(10,(zI y.2.2.2.1)),(11,(zI y.2.2.2.2.1)),(73,(zB y.2.2.2.2.2.1))]),(hT 2 [(oC [(zI y.2.2.2.2.2.2.1),(Sl.v 1 y.2.2.2.2.2.2.2.1),(Sl.v 1 y.2.2.2.2.2.2.2.2)])]))) (fun y=>m10700_4 pu n (l10700_2 pu n w0) y.1 y.2.1 y.2.2.1 y.2.2.2.1 y.2.2.2.2.1 y.2.2.2.2.2.1 y.2.2.2.2.2.2.1 y.2.2.2.2.2.2.2.1 y.2.2.2.2.2.2.2.2) ?_ ?_
     ·rintro ⟨s19, s20, s21, z5, z6, b2, z7, s22, s23⟩ hm
      unfold m10700_4 at hm
      replace hm:=bb_cases hm;rcases hm with ⟨h12,hm⟩ | ⟨h12,hm⟩
      ·refine .ifT b2 (by kernel_rfl) h12 ?_
       replace hm:=bb_cases hm;rcases hm with ⟨h13,hm⟩ | ⟨h13,hm⟩
       ·replace hm := oo_inv hm; obtain ⟨v3, h14, hm⟩ := hm
        replace hm:=inv_vTup hm;obtain ⟨l0,rfl,hm⟩:=hm
        replace hm:=ll_uncons hm;obtain ⟨v4,l19131_0,rfl,hm⟩:=hm
        replace hm:=ll_end hm;obtain ⟨rfl,hm⟩:=hm
        replace hm:=oo_inv hm;obtain ⟨s24,h15,hm⟩:=hm
        obtain rfl:=toSl_some h15
        refine .reg (eC 7 (appFs (hT 4 [(oC [zI z7,Sl.v 1 s22,Sl.v 1 s23]),(oC []),(oC [zI z6])]) 1 8 (sc 2 0 1 0 1) s20) (appFs_sl0 h13) (eD (some ((sc 4 0 1 1 (d2 1)),(hT 5 [(oC [zI z7,Sl.v 1 s22,Sl.v 1 s23]),(oC []),(oC [zI z6]),(oC [zI z6])]))) rfl (eD (objG tabs [[none,some 1,some 1],[some 1],[some 1],[some 1]] 4 [] [] (pu 10700) [(.agg ⟨[zI z7,Sl.v 1 s22,Sl.v 1 s23]⟩),Sl.v 1 s19,(sc 4 0 1 1 (d2 1)),Sl.v 1 s21] (hT 5 [(oC [zI z7,Sl.v 1 s22,Sl.v 1 s23]),(oC []),(oC [zI z6]),(oC [zI z6])])) (objG_eq (as:=[(.agg ⟨[zI z7,Sl.v 1 s22,Sl.v 1 s23]⟩),Sl.v 1 s19,(Sl.v 1 (Sl.mk 1 0 (takeL (1 * 1) (dropL 0 ([zI z6]:LV))))),Sl.v 1 s21]) (H1:=(hT 5 [(oC [zI z7,Sl.v 1 s22,Sl.v 1 s23]),(oC []),(oC [zI z6]),.dead])) (gvAL_c (gvA_a (gvL_c gv_n (gvL_c (gv_s (giveV_cl (z:=1) (v:=(Sl.v 1 s22)) (H:=(hT 5 [(oC [zI z7,Sl.v 1 s22,Sl.v 1 s23]),(oC []),(oC [zI z6]),(oC [zI z6])])) (by kernel_rfl) (by kernel_rfl) (by kernel_rfl))) (gvL_c (gv_s (giveV_cl (z:=1) (v:=(Sl.v 1 s23)) (H:=(hT 5 [(oC [zI z7,Sl.v 1 s22,Sl.v 1 s23]),(oC []),(oC [zI z6]),(oC [zI z6])])) (by kernel_rfl) (by kernel_rfl) (by kernel_rfl))) gvL_n)))) (gvAL_c (gvA_1 (gv_s (giveV_cl (z:=1) (v:=(Sl.v 1 s19)) (H:=(hT 5 [(oC [zI z7,Sl.v 1 s22,Sl.v 1 s23]),(oC []),(oC [zI z6]),(oC [zI z6])])) (by kernel_rfl) (by kernel_rfl) (by kernel_rfl)))) (gvAL_c (gvA_1 (gv_s (show giveV 1 (sc 4 0 1 1 (d2 1)) (hT 5 [(oC [zI z7,Sl.v 1 s22,Sl.v 1 s23]),(oC []),(oC [zI z6]),(oC [zI z6])]) = some ((Sl.v 1 (Sl.mk 1 0 (takeL (1 * 1) (dropL 0 ([zI z6]:LV))))),(hT 5 [(oC [zI z7,Sl.v 1 s22,Sl.v 1 s23]),(oC []),(oC [zI z6]),.dead])) from giveV_sl 4 0 1 1 (d2 1) ([zI z6]:LV) [] (by kernel_rfl) (by kernel_rfl) (by kernel_rfl)))) (gvAL_c (gvA_1 (gv_s (giveV_cl (z:=1) (v:=(Sl.v 1 s21)) (H:=(hT 5 [(oC [zI z7,Sl.v 1 s22,Sl.v 1 s23]),(oC []),(oC [zI z6]),.dead])) (by kernel_rfl) (by kernel_rfl) (by kernel_rfl)))) gvAL_n)))) (objF_eq (H2:=(hT 5 [(oC [zI z7,Sl.v 1 s22,Sl.v 1 s23]),(oC []),(oC [zI z6]),.dead])) (v:=(Sl.v 1 s24)) (v':=(Sl.v 1 s24)) [some 0] [] [] [(.agg ⟨[zI z7,Sl.v 1 s22,Sl.v 1 s23]⟩),Sl.v 1 s19,(Sl.v 1 (Sl.mk 1 0 (takeL (1 * 1) (dropL 0 ([zI z6]:LV))))),Sl.v 1 s21] [] [] [some 0,none,none,none,none] [] [] (by kernel_rfl) mapO_n (Eq.trans (by kernel_rfl) h14) mapO_n mapO_n)) (eE)))) ?_
        exact ⟨(s19,s20,s24,z5,z7,s22,s23),hm,(.k0 [false] [.tmp 4 false] [1,2,3,4,10])⟩
       ·replace hm := bb_inv hm; obtain ⟨h16, hm⟩ := hm
        replace hm:=bb_inv hm;obtain ⟨h17,hm⟩:=hm
        replace hm:=bb_inv hm;obtain ⟨h18,hm⟩:=hm
        replace hm:=oo_inv hm;obtain ⟨v5,h19,hm⟩:=hm
        replace hm:=inv_vTup hm;obtain ⟨l1,rfl,hm⟩:=hm
        replace hm:=ll_uncons hm;obtain ⟨v6,l19134_0,rfl,hm⟩:=hm
        replace hm:=ll_end hm;obtain ⟨rfl,hm⟩:=hm
        replace hm:=inv_toSl hm;obtain ⟨s25,rfl,hm⟩:=hm
        refine .reg (eC 7 (appFs (hT 4 [(oC [zI z7,Sl.v 1 s22,Sl.v 1 s23]),(oC []),(oC [zI z6])]) 1 8 (sc 2 0 1 0 1) s20) (appFs_new h13 h16 (by kernel_rfl)) (eD (growD 1 8 (0 + (Sl.n s20)) (d2 (0 + (Sl.n s20))) 1 4 (takeL ((Sl.n s20) * 1) (Sl.cs s20)) [zI z6] [] (hT 5 [(oC [zI z7,Sl.v 1 s22,Sl.v 1 s23]),(oC []),(oC [zI z6]),(oC (takeL ((Sl.n s20) * 1) (Sl.cs s20)))])) (growD_eq h17) (eD (objG tabs [[none,some 1,some 1],[some 1],[some 1],[some 1]] 4 [] [] (pu 10700) [(.agg ⟨[zI z7,Sl.v 1 s22,Sl.v 1 s23]⟩),Sl.v 1 s19,(sc 5 0 1 ((0 + (Sl.n s20)) + 1) (d2 ((0 + (Sl.n s20)) + 1))),Sl.v 1 s21] (hT 6 [(oC [zI z7,Sl.v 1 s22,Sl.v 1 s23]),(oC []),(oC [zI z6]),(oS (takeL ((Sl.n s20) * 1) (Sl.cs s20))),(.cells (appL (dropL 0 (takeL ((Sl.n s20) * 1) (Sl.cs s20))) [zI z6]) false false [4])])) (objG_eq (as:=[(.agg ⟨[zI z7,Sl.v 1 s22,Sl.v 1 s23]⟩),Sl.v 1 s19,(Sl.v 1 (Sl.mk ((0 + (Sl.n s20)) + 1) 0 (takeL (((0 + (Sl.n s20)) + 1) * 1) (dropL 0 (appL (dropL 0 (takeL ((Sl.n s20) * 1) (Sl.cs s20))) [zI z6]))))),Sl.v 1 s21]) (H1:=(hT 6 [(oC [zI z7,Sl.v 1 s22,Sl.v 1 s23]),(oC []),(oC [zI z6]),(oS (takeL ((Sl.n s20) * 1) (Sl.cs s20))),.dead])) (gvAL_c (gvA_a (gvL_c gv_n (gvL_c (gv_s (giveV_cl (z:=1) (v:=(Sl.v 1 s22)) (H:=(hT 6 [(oC [zI z7,Sl.v 1 s22,Sl.v 1 s23]),(oC []),(oC [zI z6]),(oS (takeL ((Sl.n s20) * 1) (Sl.cs s20))),(.cells (appL (dropL 0 (takeL ((Sl.n s20) * 1) (Sl.cs s20))) [zI z6]) false false [4])])) (by kernel_rfl) (by kernel_rfl) (by kernel_rfl))) (gvL_c (gv_s (giveV_cl (z:=1) (v:=(Sl.v 1 s23)) (H:=(hT 6 [(oC [zI z7,Sl.v 1 s22,Sl.v 1 s23]),(oC []),(oC [zI z6]),(oS (takeL ((Sl.n s20) * 1) (Sl.cs s20))),(.cells (appL (dropL 0 (takeL ((Sl.n s20) * 1) (Sl.cs s20))) [zI z6]) false false [4])])) (by kernel_rfl) (by kernel_rfl) (by kernel_rfl))) gvL_n)))) (gvAL_c (gvA_1 (gv_s (giveV_cl (z:=1) (v:=(Sl.v 1 s19)) (H:=(hT 6 [(oC [zI z7,Sl.v 1 s22,Sl.v 1 s23]),(oC []),(oC [zI z6]),(oS (takeL ((Sl.n s20) * 1) (Sl.cs s20))),(.cells (appL (dropL 0 (takeL ((Sl.n s20) * 1) (Sl.cs s20))) [zI z6]) false false [4])])) (by kernel_rfl) (by kernel_rfl) (by kernel_rfl)))) (gvAL_c (gvA_1 (gv_s (show giveV 1 (sc 5 0 1 ((0 + (Sl.n s20)) + 1) (d2 ((0 + (Sl.n s20)) + 1))) (hT 6 [(oC [zI z7,Sl.v 1 s22,Sl.v 1 s23]),(oC []),(oC [zI z6]),(oS (takeL ((Sl.n s20) * 1) (Sl.cs s20))),(.cells (appL (dropL 0 (takeL ((Sl.n s20) * 1) (Sl.cs s20))) [zI z6]) false false [4])]) = some ((Sl.v 1 (Sl.mk ((0 + (Sl.n s20)) + 1) 0 (takeL (((0 + (Sl.n s20)) + 1) * 1) (dropL 0 (appL (dropL 0 (takeL ((Sl.n s20) * 1) (Sl.cs s20))) [zI z6]))))),(hT 6 [(oC [zI z7,Sl.v 1 s22,Sl.v 1 s23]),(oC []),(oC [zI z6]),(oS (takeL ((Sl.n s20) * 1) (Sl.cs s20))),.dead])) from giveV_sl 5 0 1 ((0 + (Sl.n s20)) + 1) (d2 ((0 + (Sl.n s20)) + 1)) (appL (dropL 0 (takeL ((Sl.n s20) * 1) (Sl.cs s20))) [zI z6]) [4] (by kernel_rfl) (by kernel_rfl) h18))) (gvAL_c (gvA_1 (gv_s (giveV_cl (z:=1) (v:=(Sl.v 1 s21)) (H:=(hT 6 [(oC [zI z7,Sl.v 1 s22,Sl.v 1 s23]),(oC []),(oC [zI z6]),(oS (takeL ((Sl.n s20) * 1) (Sl.cs s20))),.dead])) (by kernel_rfl) (by kernel_rfl) (by kernel_rfl)))) gvAL_n)))) (objF_eq (H2:=(hT 6 [(oC [zI z7,Sl.v 1 s22,Sl.v 1 s23]),(oC []),(oC [zI z6]),(oS (takeL ((Sl.n s20) * 1) (Sl.cs s20))),.dead])) (v:=(Sl.v 1 s25)) (v':=(Sl.v 1 s25)) [some 0] [] [] [(.agg ⟨[zI z7,Sl.v 1 s22,Sl.v 1 s23]⟩),Sl.v 1 s19,(Sl.v 1 (Sl.mk ((0 + (Sl.n s20)) + 1) 0 (takeL (((0 + (Sl.n s20)) + 1) * 1) (dropL 0 (appL (dropL 0 (takeL ((Sl.n s20) * 1) (Sl.cs s20))) [zI z6]))))),Sl.v 1 s21] [] [] [some 0,none,none,none,none,none] [] [] (by kernel_rfl) mapO_n (Eq.trans (by kernel_rfl) h19) mapO_n mapO_n)) (eE)))) ?_
        exact ⟨(s19,s20,s25,z5,z7,s22,s23),hm,(.k0 [false] [.tmp 4 false] [1,2,3,4,10])⟩
      ·refine .ifF b2 (by kernel_rfl) h12 ?_
       refine .skip ?_
       exact ⟨(s19,s20,s21,z5,z7,s22,s23),hm,(.k0 [false] [.tmp 4 false] [1,2,3,4,10])⟩
     ·replace hm := oo_inv hm; obtain ⟨k2, h20, hm⟩ := hm
      obtain rfl:=toN_some h20
      replace hm:=bb_inv hm;obtain ⟨h21,hm⟩:=hm
      replace hm:=oo_inv hm;obtain ⟨v7,h22,hm⟩:=hm
      replace hm:=inv_toI hm;obtain ⟨x1,rfl,hm⟩:=hm
      replace hm:=bb_inv hm;obtain ⟨h23,hm⟩:=hm
      replace hm:=oo_inv hm;obtain ⟨v8,h24,hm⟩:=hm
      replace hm:=inv_toI hm;obtain ⟨x2,rfl,hm⟩:=hm
      replace hm:=oo_inv hm;obtain ⟨k3,h25,hm⟩:=hm
      obtain rfl:=toN_some h25
      replace hm:=bb_inv hm;obtain ⟨h26,hm⟩:=hm
      replace hm:=oo_inv hm;obtain ⟨v9,h27,hm⟩:=hm
      replace hm:=inv_toI hm;obtain ⟨x3,rfl,hm⟩:=hm
      replace hm:=bb_cases hm;rcases hm with ⟨h28,hm⟩ | ⟨h28,hm⟩
      ·replace hm := oo_inv hm; obtain ⟨v10, h29, hm⟩ := hm
       replace hm:=inv_vTup hm;obtain ⟨l2,rfl,hm⟩:=hm
       replace hm:=ll_uncons hm;obtain ⟨v11,l19192_0,rfl,hm⟩:=hm
       replace hm:=ll_end hm;obtain ⟨rfl,hm⟩:=hm
       replace hm:=inv_vBool hm;obtain ⟨b3,rfl,hm⟩:=hm
       refine .reg (eN 11 (Fr.puts (fr 85 [(1,Sl.v 1 s9),(2,Sl.v 1 s10),(3,Sl.v 1 s11),(4,pt 1 0),(10,(zI (Int.ofNat k1))),(11,(zI (Int.ofNat k2)))]) [(53,pt 1 1),(54,Sl.v 1 s12),(55,(zI (Int.ofNat k2))),(56,(fpV (k2 * 1) (Sl.cs s12))),(57,zI x1),(58,pt 1 2),(59,Sl.v 1 s13),(60,Sl.v 1 s9),(61,Sl.v 1 s10),(62,(zI (Int.ofNat (Sl.n s10)))),(63,(fpV ((Sl.n s10) * 1) (Sl.cs s9)))]) (hT 2 [(oC [zI z2,Sl.v 1 s12,Sl.v 1 s13])]) (eC 3 (keep (hT 2 [(oC [zI z2,Sl.v 1 s12,Sl.v 1 s13])]) (bb (an (Nat.blt k2 (Sl.n s12)) true) (some (fpV (k2 * 1) (Sl.cs s12))) none)) (keep_bb h21) (eD (keep (hT 2 [(oC [zI z2,Sl.v 1 s12,Sl.v 1 s13])]) (nthL (Sl.cs s12) (k2 * 1))) (keep_eq h22) (eC 5 (keep (hT 2 [(oC [zI z2,Sl.v 1 s12,Sl.v 1 s13])]) (bb (an (Nat.blt (Sl.n s10) (Sl.n s9)) true) (some (fpV ((Sl.n s10) * 1) (Sl.cs s9))) none)) (keep_bb h23) (by kernel_rfl)))) (eD (keep (hT 2 [(oC [zI z2,Sl.v 1 s12,Sl.v 1 s13])]) (nthL (Sl.cs s9) ((Sl.n s10) * 1))) (keep_eq h24) (eD (keep (hT 2 [(oC [zI z2,Sl.v 1 s12,Sl.v 1 s13])]) (bb (an (Nat.blt k3 (Sl.n s13)) true) (some (fpV (k3 * 1) (Sl.cs s13))) none)) (keep_bb h26) (eD (keep (hT 2 [(oC [zI z2,Sl.v 1 s12,Sl.v 1 s13])]) (nthL (Sl.cs s13) (k3 * 1))) (keep_eq h27) (eD (some ((zB (ieq x1 x3)),(hT 2 [(oC [zI z2,Sl.v 1 s12,Sl.v 1 s13])]))) (show _ = some ((zB true),_) from (by rw [h28])) (eC 3 (objG tabs [[some 1],[none]] 2 [] [] (pu 10550) [Sl.v 1 s10,(zI (Int.ofNat k2))] (hT 2 [(oC [zI z2,Sl.v 1 s12,Sl.v 1 s13])])) (objG_eq (as:=[Sl.v 1 s10,(zI (Int.ofNat k2))]) (H1:=(hT 2 [(oC [zI z2,Sl.v 1 s12,Sl.v 1 s13])])) (gvAL_c (gvA_1 (gv_s (giveV_cl (z:=1) (v:=(Sl.v 1 s10)) (H:=(hT 2 [(oC [zI z2,Sl.v 1 s12,Sl.v 1 s13])])) (by kernel_rfl) (by kernel_rfl) (by kernel_rfl)))) (gvAL_c (gvA_1 gv_n) gvAL_n)) (objF_eq (H2:=(hT 2 [(oC [zI z2,Sl.v 1 s12,Sl.v 1 s13])])) (v:=(zB b3)) (v':=(zB b3)) [some 0] [] [] [Sl.v 1 s10,(zI (Int.ofNat k2))] [] [] [some 0,none] [] [] (by kernel_rfl) mapO_n (Eq.trans (by kernel_rfl) h29) mapO_n mapO_n)) (eE))))))) ?_
       exact ⟨(s9,s10,s11,(Int.ofNat k1),(Int.ofNat k2),(nt b3),z2,s12,s13),hm,(.k0 [false] [.tmp 4 false] [1,2,3,4,10,11,73])⟩
      ·refine .reg (eN 11 (Fr.puts (fr 85 [(1, Sl.v 1 s9), (2, Sl.v 1 s10), (3, Sl.v 1 s11), (4, pt 1 0), (10, (zI (Int.ofNat k1))), (11, (zI (Int.ofNat k2)))]) [(53, pt 1 1), (54, Sl.v 1 s12), (55, (zI (Int.ofNat k2))), (56, (fpV (k2 * 1) (Sl.cs s12))), (57, zI x1), (58, pt 1 2), (59, Sl.v 1 s13), (60, Sl.v 1 s9), (61, Sl.v 1 s10), (62, (zI (Int.ofNat (Sl.n s10)))), (63, (fpV ((Sl.n s10) * 1) (Sl.cs s9)))]) (hT 2 [(oC [zI z2, Sl.v 1 s12, Sl.v 1 s13])]) (eC 3 (keep (hT 2 [(oC [zI z2, Sl.v 1 s12, Sl.v 1 s13])]) (bb (an (Nat.blt k2 (Sl.n s12)) true) (some (fpV (k2 * 1) (Sl.cs s12))) none)) (keep_bb h21) (eD (keep (hT 2 [(oC [zI z2, Sl.v 1 s12, Sl.v 1 s13])]) (nthL (Sl.cs s12) (k2 * 1))) (keep_eq h22) (eC 5 (keep (hT 2 [(oC [zI z2, Sl.v 1 s12, Sl.v 1 s13])]) (bb (an (Nat.blt (Sl.n s10) (Sl.n s9)) true) (some (fpV ((Sl.n s10) * 1) (Sl.cs s9))) none)) (keep_bb h23) (by kernel_rfl)))) (eD (keep (hT 2 [(oC [zI z2, Sl.v 1 s12, Sl.v 1 s13])]) (nthL (Sl.cs s9) ((Sl.n s10) * 1))) (keep_eq h24) (eD (keep (hT 2 [(oC [zI z2, Sl.v 1 s12, Sl.v 1 s13])]) (bb (an (Nat.blt k3 (Sl.n s13)) true) (some (fpV (k3 * 1) (Sl.cs s13))) none)) (keep_bb h26) (eD (keep (hT 2 [(oC [zI z2, Sl.v 1 s12, Sl.v 1 s13])]) (nthL (Sl.cs s13) (k3 * 1))) (keep_eq h27) (eD (some ((zB (ieq x1 x3)), (hT 2 [(oC [zI z2, Sl.v 1 s12, Sl.v 1 s13])]))) (show _ = some ((zB false), _) from (by rw [h28])) (eE)))))) ?_
       exact ⟨(s9,s10,s11,(Int.ofNat k1),(Int.ofNat k2),false,z2,s12,s13),hm,(.k0 [false] [.tmp 4 false] [1,2,3,4,10,11,73])⟩
   ·refine .ifF (ilt z1 (Int.ofNat (Sl.n s9))) (by kernel_rfl) h8 ?_
    refine .exit ?_
    exact ⟨s11,hm,(.k0 [false] [] [3])⟩
theorem r10700 {call:CallF} (pu:PureF) (n:Nat) (hcall:call = callP tabs isP pu (inl pu)) {args:LV} {os:List AObj} {z:Value} (ha:args.length = 4) (hk:os.length = 0) (hpl:∀ o ∈ os,plainO o) (hm:m10700 pu n (args ++ os.map encO) = some z):args.length≤85∧Run tt call (tabs.length + 0) c70_35 (Fr.made 85 args) (subHeap tabs os) (FinO tt tabs.length 0 [.tmp 8] z):=by
 subst hcall
 have hq:=len_cons ha;clear ha;obtain ⟨a0,args,rfl,ha⟩:=hq
 have hq:=len_cons ha;clear ha;obtain ⟨a1,args,rfl,ha⟩:=hq
 have hq:=len_cons ha;clear ha;obtain ⟨a2,args,rfl,ha⟩:=hq
 have hq:=len_cons ha;clear ha;obtain ⟨a3,args,rfl,ha⟩:=hq
 obtain rfl:=len_nil ha
 obtain rfl:=len_nil hk
 replace hm:m10700 pu n [a0,a1,a2,a3] = some z:=hm
 unfold m10700 at hm
 replace hm:(oo (vAgg a0) none fun l0=>(ll l0 none fun v0 l0=>(ll l0 none fun v1 l0=>(ll l0 none fun v2 l0=>(ll l0 (oo (toI .i64 v0) none fun x0=>(oo (toSl 1 v1) none fun s0=>(oo (toSl 1 v2) none fun s1=>(oo (toSl 1 a1) none fun s2=>(oo (toSl 1 a2) none fun s3=>(oo (toSl 1 a3) none fun s4=>(m10700_ pu n x0 s0 s1 s2 s3 s4))))))) fun _ _=>none))))) = some z:=hm
 replace hm:=inv_vAgg hm;obtain ⟨l0,rfl,hm⟩:=hm
 replace hm:=ll_uncons hm;obtain ⟨v0,l19197_0,rfl,hm⟩:=hm
 replace hm:=ll_uncons hm;obtain ⟨v1,l19197_1,rfl,hm⟩:=hm
 replace hm:=ll_uncons hm;obtain ⟨v2,l19197_2,rfl,hm⟩:=hm
 replace hm:=ll_end hm;obtain ⟨rfl,hm⟩:=hm
 replace hm:=inv_toI hm;obtain ⟨x0,rfl,hm⟩:=hm
 replace hm:=inv_toSl hm;obtain ⟨s0,rfl,hm⟩:=hm
 replace hm:=inv_toSl hm;obtain ⟨s1,rfl,hm⟩:=hm
 replace hm:=inv_toSl hm;obtain ⟨s2,rfl,hm⟩:=hm
 replace hm:=inv_toSl hm;obtain ⟨s3,rfl,hm⟩:=hm
 replace hm:=inv_toSl hm;obtain ⟨s4,rfl,hm⟩:=hm
 refine ⟨by simp,?_⟩
 exact .same (F':=(fr 85 [(0,(.agg ⟨[zI x0,Sl.v 1 s0,Sl.v 1 s1]⟩)),(1,Sl.v 1 s2),(2,Sl.v 1 s3),(3,Sl.v 1 s4)])) (H':=(hp 1 [(oT tab0)])) (by kernel_rfl) (by kernel_rfl) (q10700 pu n x0 s0 s1 s2 s3 s4 hm)

def m10550_ (pu:PureF) (n:Nat) (s0:Sl) (z0:Int):OV:=
 (oo (pu 10690 [Sl.v 1 s0,.int .i64 z0]) none fun v0=>(oo (vTup v0) none fun l0=>(ll l0 none fun v1 l0=>(ll l0 (oo (toI .i64 v1) none fun x0=>(some (.tuple ⟨[(.bool (ilt (0:Int) x0))]⟩))) fun _ _=>none))))
def m10550 (pu:PureF) (n:Nat) (args:LV):OV:=
 (ll args none fun a0 args=>(ll args none fun a1 args=>(ll args (oo (toSl 1 a0) none fun s0=>(oo (toI .i64 a1) none fun x0=>(m10550_ pu n s0 x0))) fun _ _=>none)))
theorem q10550 (pu:PureF) (n:Nat) (s0:Sl) (z0:Int) {v:Value} (hm:m10550_ pu n s0 z0 = some v):Run tt (callP tabs isP pu (inl pu)) 1 c55_3 (fr 9 [(0,Sl.v 1 s0),(1,zI z0)]) (hp 1 [(oT tab0)]) (FinO tt 1 0 [.tmp 4] v):=by
 unfold m10550_ at hm
 refine .then (.rK ?_)
 refine .ghs (fr 9 [(0,Sl.v 1 s0),(1,zI z0)]) (hp 1 [(oT tab0)]) (.k0 [false] [] [0,1]) ?_
 refine .then ?_
 replace hm:=oo_inv hm;obtain ⟨v0,h0,hm⟩:=hm
 replace hm:=inv_vTup hm;obtain ⟨l0,rfl,hm⟩:=hm
 replace hm:=ll_uncons hm;obtain ⟨v1,l5035_0,rfl,hm⟩:=hm
 replace hm:=ll_end hm;obtain ⟨rfl,hm⟩:=hm
 replace hm:=inv_toI hm;obtain ⟨x0,rfl,hm⟩:=hm
 refine .reg (eC 2 (objG tabs [[some 1],[none]] 2 [] [] (pu 10690) [Sl.v 1 s0,zI z0] (hp 1 [(oT tab0)])) (objG_eq (as:=[Sl.v 1 s0,zI z0]) (H1:=(hp 1 [(oT tab0)])) (gvAL_c (gvA_1 (gv_s (giveV_cl (z:=1) (v:=(Sl.v 1 s0)) (H:=(hp 1 [(oT tab0)])) (by kernel_rfl) (by kernel_rfl) (by kernel_rfl)))) (gvAL_c (gvA_1 gv_n) gvAL_n)) (objF_eq (H2:=(hp 1 [(oT tab0)])) (v:=(zI x0)) (v':=(zI x0)) [some 0] [] [] [Sl.v 1 s0,zI z0] [] [] [some 0] [] [] (by kernel_rfl) mapO_n (Eq.trans (by kernel_rfl) h0) mapO_n mapO_n)) (eE)) ?_
 refine .ghs (fr 9 [(4,(zB (ilt (0:Int) x0)))]) (hp 1 [(oT tab0)]) (.k0 [false] [] [4]) ?_
 refine .ghs (fr 9 [(4,(zB (ilt (0:Int) x0)))]) (hp 1 [(oT tab0)]) (.k0 [false] [] [4]) ?_
 refine .ret ?_
 exact finO_ret (zB (ilt (0:Int) x0)) [] (by kernel_rfl) hm (Nat.le_of_ble_eq_true rfl) ooAt_nil
theorem r10550 {call:CallF} (pu:PureF) (n:Nat) (hcall:call = callP tabs isP pu (inl pu)) {args:LV} {os:List AObj} {z:Value} (ha:args.length = 2) (hk:os.length = 0) (hpl:∀ o ∈ os,plainO o) (hm:m10550 pu n (args ++ os.map encO) = some z):args.length≤9∧Run tt call (tabs.length + 0) c55_3 (Fr.made 9 args) (subHeap tabs os) (FinO tt tabs.length 0 [.tmp 4] z):=by
 subst hcall
 have hq:=len_cons ha;clear ha;obtain ⟨a0,args,rfl,ha⟩:=hq
 have hq:=len_cons ha;clear ha;obtain ⟨a1,args,rfl,ha⟩:=hq
 obtain rfl:=len_nil ha
 obtain rfl:=len_nil hk
 replace hm:m10550 pu n [a0,a1] = some z:=hm
 unfold m10550 at hm
 replace hm:(oo (toSl 1 a0) none fun s0=>(oo (toI .i64 a1) none fun x0=>(m10550_ pu n s0 x0))) = some z:=hm
 replace hm:=inv_toSl hm;obtain ⟨s0,rfl,hm⟩:=hm
 replace hm:=inv_toI hm;obtain ⟨x0,rfl,hm⟩:=hm
 refine ⟨by simp,?_⟩
 exact .same (F':=(fr 9 [(0,Sl.v 1 s0),(1,zI x0)])) (H':=(hp 1 [(oT tab0)])) (by kernel_rfl) (by kernel_rfl) (q10550 pu n s0 x0 hm)

def m10551_ (pu:PureF) (n n0 c0:Nat) (z0:Int) (q0:LV):OV:=
 (bb (allL closed1 q0) (bb (orr (Nat.ble 2 c0) (nilL q0)) (bb (allL closed1 q0) (oo (pu 10691 [(.slice (some ⟨1,0,some 1⟩) n0 c0),.int .i64 z0,(.agg ⟨q0⟩)]) none fun v0=>(oo (vTup v0) none fun l0=>(ll l0 none fun v1 l0=>(ll l0 none fun v2 l0=>(ll l0 (oo (toI .i64 v1) none fun x0=>(oo (vAgg v2) none fun q1=>(bb (allL closed1 q1) (bb (allL closed1 q1) (some (.tuple ⟨[(.bool (ilt (0:Int) x0)),(.agg ⟨q1⟩)]⟩)) none) none))) fun _ _=>none))))) none) none) none)
def m10551 (pu:PureF) (n:Nat) (args:LV):OV:=
 (ll args none fun a0 args=>(ll args none fun a1 args=>(ll args none fun o0 args=>(ll args (oo (toSc 1 0 1 a0) none fun y0=>(oo (toI .i64 a1) none fun x0=>(oo (vAgg o0) none fun q0=>(m10551_ pu n (NC.n y0) (NC.c y0) x0 q0)))) fun _ _=>none))))
theorem q10551 (pu:PureF) (n n0 c0:Nat) (z0:Int) (q0:LV) {v:Value} (hm:m10551_ pu n n0 c0 z0 q0 = some v):Run tt (callP tabs isP pu (inl pu)) 2 c55_3 (fr 9 [(0,sc 1 0 1 n0 c0),(1,zI z0)]) (hT 2 [oC q0]) (FinO tt 1 1 [.tmp 4] v):=by
 unfold m10551_ at hm
 refine .then (.rK ?_)
 replace hm:=bb_inv hm;obtain ⟨h0,hm⟩:=hm
 refine .ghs (fr 9 [(0,sc 1 0 1 n0 c0),(1,zI z0)]) (hT 2 [oC q0]) (.k [1] [false,false] [] [0,1] ⟨trF h0,trivial⟩) ?_
 refine .then ?_
 replace hm:=bb_inv hm;obtain ⟨h1,hm⟩:=hm
 replace hm:=bb_inv hm;obtain ⟨h2,hm⟩:=hm
 replace hm:=oo_inv hm;obtain ⟨v0,h3,hm⟩:=hm
 replace hm:=inv_vTup hm;obtain ⟨l0,rfl,hm⟩:=hm
 replace hm:=ll_uncons hm;obtain ⟨v1,l20443_0,rfl,hm⟩:=hm
 replace hm:=ll_uncons hm;obtain ⟨v2,l20443_1,rfl,hm⟩:=hm
 replace hm:=ll_end hm;obtain ⟨rfl,hm⟩:=hm
 replace hm:=inv_toI hm;obtain ⟨x0,rfl,hm⟩:=hm
 replace hm:=inv_vAgg hm;obtain ⟨q1,rfl,hm⟩:=hm
 replace hm:=bb_inv hm;obtain ⟨h4,hm⟩:=hm
 refine .reg (eC 2 (objG tabs [[none],[none]] 2 [.tmp 0 false] [false] (pu 10691) [sc 1 0 1 n0 c0,zI z0] (hT 2 [oC q0])) (objG_eq (as:=[sc 1 0 1 n0 c0,zI z0]) (H1:=(hT 2 [oC q0])) (gvAL_c (gvA_1 gv_n) (gvAL_c (gvA_1 gv_n) gvAL_n)) (objF_eq (H2:=(hT 2 [oC q1])) (v:=(zI x0)) (v':=(zI x0)) [some 0,some 1] [(false,some 1)] [oC q0] [sc 1 0 1 n0 c0,zI z0] [(.agg ⟨q1⟩)] [oC q1] [some 0,some 1] [(false,oC q1)] [oC q1] (trE (by kernel_rfl) (rootL h1 rfl)) (mapO_c (nO_list (anc:=[]) h2) mapO_n) (Eq.trans (by kernel_rfl) h3) (mapO_c rfl mapO_n) (mapO_c (bO_list h4) mapO_n))) (eE)) ?_
 replace hm:=bb_inv hm;obtain ⟨h5,hm⟩:=hm
 refine .ghs (fr 9 [(4,(zB (ilt (0:Int) x0)))]) (hT 2 [oC q1]) (.k [1] [false,false] [] [4] ⟨trF h5,trivial⟩) ?_
 refine .ghs (fr 9 [(4,(zB (ilt (0:Int) x0)))]) (hT 2 [oC q1]) (.k [1] [false,false] [] [4] ⟨trF h5,trivial⟩) ?_
 refine .ret ?_
 exact finO_ret (zB (ilt (0:Int) x0)) [oC q1] (by kernel_rfl) hm (Nat.le_of_ble_eq_true rfl) (ooAt_cons (pO_c _) ooAt_nil)
theorem r10551 {call:CallF} (pu:PureF) (n:Nat) (hcall:call = callP tabs isP pu (inl pu)) {args:LV} {os:List AObj} {z:Value} (ha:args.length = 2) (hk:os.length = 1) (hpl:∀ o ∈ os,plainO o) (hm:m10551 pu n (args ++ os.map encO) = some z):args.length≤9∧Run tt call (tabs.length + 1) c55_3 (Fr.made 9 args) (subHeap tabs os) (FinO tt tabs.length 1 [.tmp 4] z):=by
 subst hcall
 have hq:=len_cons ha;clear ha;obtain ⟨a0,args,rfl,ha⟩:=hq
 have hq:=len_cons ha;clear ha;obtain ⟨a1,args,rfl,ha⟩:=hq
 obtain rfl:=len_nil ha
 have hq:=len_cons hk;clear hk;obtain ⟨b0,os,rfl,hk⟩:=hq
 have hp0:plainO b0:=hpl b0 (by simp)
 obtain rfl:=len_nil hk
 replace hm:m10551 pu n [a0,a1,encO b0] = some z:=hm
 unfold m10551 at hm
 replace hm:(oo (toSc 1 0 1 a0) none fun y0=>(oo (toI .i64 a1) none fun x0=>(oo (vAgg (encO b0)) none fun q0=>(m10551_ pu n (NC.n y0) (NC.c y0) x0 q0)))) = some z:=hm
 replace hm:=oo_inv hm;obtain ⟨y0,h0,hm⟩:=hm
 obtain rfl:=toSc_some h0
 replace hm:=inv_toI hm;obtain ⟨x0,rfl,hm⟩:=hm
 replace hm:=oo_inv hm;obtain ⟨q0,h1,hm⟩:=hm
 obtain rfl:=vAgg_enc hp0 h1
 refine ⟨by simp,?_⟩
 exact .same (F':=(fr 9 [(0,(sc 1 0 1 (NC.n y0) (NC.c y0))),(1,zI x0)])) (H':=(hT 2 [oC q0])) (by kernel_rfl) (by kernel_rfl) (q10551 pu n (NC.n y0) (NC.c y0) x0 q0 hm)
def m10691_0 (pu:PureF) (n:Nat) (z0:Int) (q0:LV):OV:=
 (bb (allL closed1 q0) (some (.tuple ⟨[.int .i64 z0,(.agg ⟨q0⟩)]⟩)) none)
def m10691_2 (pu:PureF) (n:Nat) (ih0:Nat→Nat→Int→Int→Int→LV→OV) (n0 c0:Nat) (z0 z1 z2:Int) (q0:LV):OV:=
 (bb (allL closed1 q0) (ih0 n0 c0 z0 z1 (wrapF .i64 (Int.add z2 (1:Int))) q0) none)
def b10691_1 (pu:PureF) (n:Nat) (ih0:Nat→Nat→Int→Int→Int→LV→OV) (n0 c0:Nat) (z0 z1 z2:Int) (q0:LV):OV:=
 (bb (allL closed1 q0) (bb (ilt z2 (Int.ofNat n0)) (oo (toN z2) none fun k1=>(bb (an (Nat.blt k1 n0) true) (oo (nthL q0 (0 + k1 * 1)) none fun v0=>(oo (toI .i64 v0) none fun x0=>(bb (ieq x0 z0) (m10691_2 pu n ih0 n0 c0 z0 (wrapF .i64 (Int.add z1 (1:Int))) (Int.ofNat k1) q0) (m10691_2 pu n ih0 n0 c0 z0 z1 (Int.ofNat k1) q0)))) none)) (m10691_0 pu n z1 q0)) none)
def l10691_1 (pu:PureF) (n w:Nat):Nat→Nat→Int→Int→Int→LV→OV:=
 Nat.rec (motive:=fun _=>Nat→Nat→Int→Int→Int→LV→OV) (fun _ _ _ _ _ _=>none) (fun _ ih0=>b10691_1 pu n ih0) w
def m10691_ (pu:PureF) (n n0 c0:Nat) (z0:Int) (q0:LV):OV:=
 (bb (allL closed1 q0) (l10691_1 pu n n n0 c0 z0 (0:Int) (0:Int) q0) none)
def m10691 (pu:PureF) (n:Nat) (args:LV):OV:=
 (ll args none fun a0 args=>(ll args none fun a1 args=>(ll args none fun o0 args=>(ll args (oo (toSc 1 0 1 a0) none fun y0=>(oo (toI .i64 a1) none fun x0=>(oo (vAgg o0) none fun q0=>(m10691_ pu n (NC.n y0) (NC.c y0) x0 q0)))) fun _ _=>none))))
theorem w10691_0 (pu:PureF) (n:Nat) (z0:Int) (q0:LV) {v:Value} (hm:m10691_0 pu n z0 q0 = some v):Run tt (callP tabs isP pu (inl pu)) 2 c69_18 (fr 22 [(5,zI z0)]) (hT 2 [oC q0]) (FinO tt 1 1 [.tmp 4] v):=by
 unfold m10691_0 at hm
 refine .then (.rK ?_)
 replace hm:=bb_inv hm;obtain ⟨h0,hm⟩:=hm
 refine .ghs (fr 22 [(4,zI z0)]) (hT 2 [oC q0]) (.k [1] [false,false] [] [4] ⟨trF h0,trivial⟩) ?_
 refine .ghs (fr 22 [(4,zI z0)]) (hT 2 [oC q0]) (.k [1] [false,false] [] [4] ⟨trF h0,trivial⟩) ?_
 refine .ret ?_
 exact finO_ret (zI z0) [oC q0] (by kernel_rfl) hm (Nat.le_of_ble_eq_true rfl) (ooAt_cons (pO_c _) ooAt_nil)
theorem q10691 (pu:PureF) (n n0 c0:Nat) (z0:Int) (q0:LV) {v:Value} (hm:m10691_ pu n n0 c0 z0 q0 = some v):Run tt (callP tabs isP pu (inl pu)) 2 c69_21 (fr 22 [(0,sc 1 0 1 n0 c0),(1,zI z0)]) (hT 2 [oC q0]) (FinO tt 1 1 [.tmp 4] v):=by
 unfold m10691_ at hm
 refine .then (.rK ?_)
 replace hm:=bb_inv hm;obtain ⟨h0,hm⟩:=hm
 refine .ghs (fr 22 [(0,sc 1 0 1 n0 c0),(1,zI z0)]) (hT 2 [oC q0]) (.k [1] [false,false] [] [0,1] ⟨trF h0,trivial⟩) ?_
 refine .then (.rK ?_)
 refine .ghs (fr 22 [(0,sc 1 0 1 n0 c0),(1,zI z0),(5,(zI (0:Int)))]) (hT 2 [oC q0]) (.k [1] [false,false] [] [0,1,5] ⟨trF h0,trivial⟩) ?_
 refine .join (v:=v) (fun y:Int×LV=>((fr 22 [(5,(zI y.1))]),(hT 2 [(oC y.2)]))) (fun y=>m10691_0 pu n y.1 y.2) ?_ ?_
 ·rintro ⟨z1, q1⟩ hm
  exact w10691_0 pu n z1 q1 hm
 ·refine .then (.rK ?_)
  refine .ghs (fr 22 [(0,sc 1 0 1 n0 c0),(1,zI z0),(5,(zI (0:Int))),(6,(zI (0:Int)))]) (hT 2 [oC q0]) (.k [1] [false,false] [] [0,1,5,6] ⟨trF h0,trivial⟩) ?_
  refine .block ?_
  refine .loopM (v:=v) (fun y:Nat×Nat×Int×Int×Int×LV=>((fr 22 [(0,(sc 1 0 1 y.1 y.2.1)),(1,(zI y.2.2.1)),(5,(zI y.2.2.2.1)),(6,(zI y.2.2.2.2.1))]),(hT 2 [(oC y.2.2.2.2.2)]))) (fun w y=>l10691_1 pu n w y.1 y.2.1 y.2.2.1 y.2.2.2.1 y.2.2.2.2.1 y.2.2.2.2.2) n ⟨(n0,c0,z0,(0:Int),(0:Int),q0),hm,(.k [1] [false,false] [] [0,1,5,6] ⟨trF h0,trivial⟩)⟩ (fun _=>rfl) ?_
  rintro w0 ⟨n1,c1,z2,z3,z4,q2⟩ hm
  replace hm:b10691_1 pu n (l10691_1 pu n w0) n1 c1 z2 z3 z4 q2 = some v:=hm
  unfold b10691_1 at hm
  refine .then ?_
  refine .then (.rK ?_)
  replace hm:=bb_inv hm;obtain ⟨h1,hm⟩:=hm
  refine .ghs (fr 22 [(0,sc 1 0 1 n1 c1),(1,zI z2),(5,zI z3),(6,zI z4),(10,(zB (ilt z4 (Int.ofNat n1))))]) (hT 2 [oC q2]) (.k [1] [false,false] [] [0,1,5,6,10] ⟨trF h1,trivial⟩) ?_
  replace hm:=bb_cases hm;rcases hm with ⟨h2,hm⟩ | ⟨h2,hm⟩
  ·refine .ifT (ilt z4 (Int.ofNat n1)) (by kernel_rfl) h2 ?_
   refine .skip ?_
   refine .ghs (fr 22 [(0,sc 1 0 1 n1 c1),(1,zI z2),(5,zI z3),(6,zI z4)]) (hT 2 [oC q2]) (.k [1] [false,false] [] [0,1,5,6] ⟨trF h1,trivial⟩) ?_
   refine .join (v:=v) (fun y:Nat×Nat×Int×Int×Int×LV=>((fr 22 [(0,(sc 1 0 1 y.1 y.2.1)),(1,(zI y.2.2.1)),(5,(zI y.2.2.2.1)),(6,(zI y.2.2.2.2.1))]),(hT 2 [(oC y.2.2.2.2.2)]))) (fun y=>m10691_2 pu n (l10691_1 pu n w0) y.1 y.2.1 y.2.2.1 y.2.2.2.1 y.2.2.2.2.1 y.2.2.2.2.2) ?_ ?_
   ·rintro ⟨n2, c2, z5, z6, z7, q3⟩ hm
    unfold m10691_2 at hm
    refine .rK ?_
    replace hm:=bb_inv hm;obtain ⟨h3,hm⟩:=hm
    exact ⟨(n2,c2,z5,z6,(wrapF .i64 (Int.add z7 (1:Int))),q3),hm,(.k [1] [false,false] [] [0,1,5,6] ⟨trF h3,trivial⟩)⟩
   ·refine .block ?_
    refine .then ?_
    replace hm:=oo_inv hm;obtain ⟨k1,h4,hm⟩:=hm
    obtain rfl:=toN_some h4
    replace hm:=bb_inv hm;obtain ⟨h5,hm⟩:=hm
    replace hm:=oo_inv hm;obtain ⟨v0,h6,hm⟩:=hm
    replace hm:=inv_toI hm;obtain ⟨x0,rfl,hm⟩:=hm
    refine .reg (eC 2 (keep (hT 2 [oC q2]) (bb (an (Nat.blt k1 n1) true) (some (.pointer (some ⟨1,(0 + k1 * 1),none⟩))) none)) (keep_bb h5) (eD (keep (hT 2 [oC q2]) (nthL q2 (0 + k1 * 1))) (keep_eq h6) (eE))) ?_
    refine .ghs (fr 22 [(0,sc 1 0 1 n1 c1),(1,zI z2),(5,zI z3),(6,(zI (Int.ofNat k1))),(18,(zB (ieq x0 z2)))]) (hT 2 [oC q2]) (.k [1] [false,false] [] [0,1,5,6,18] ⟨trF h1,trivial⟩) ?_
    replace hm:=bb_cases hm;rcases hm with ⟨h7,hm⟩ | ⟨h7,hm⟩
    ·refine .ifT (ieq x0 z2) (by kernel_rfl) h7 ?_
     refine .rK ?_
     exact ⟨(n1,c1,z2,(wrapF .i64 (Int.add z3 (1:Int))),(Int.ofNat k1),q2),hm,(.k [1] [false,false] [] [0,1,5,6] ⟨trF h1,trivial⟩)⟩
    ·refine .ifF (ieq x0 z2) (by kernel_rfl) h7 ?_
     refine .skip ?_
     exact ⟨(n1,c1,z2,z3,(Int.ofNat k1),q2),hm,(.k [1] [false,false] [] [0,1,5,6] ⟨trF h1,trivial⟩)⟩
  ·refine .ifF (ilt z4 (Int.ofNat n1)) (by kernel_rfl) h2 ?_
   refine .exit ?_
   exact ⟨(z3,q2),hm,(.k [1] [false,false] [] [5] ⟨trF h1,trivial⟩)⟩
theorem r10691 {call:CallF} (pu:PureF) (n:Nat) (hcall:call = callP tabs isP pu (inl pu)) {args:LV} {os:List AObj} {z:Value} (ha:args.length = 2) (hk:os.length = 1) (hpl:∀ o ∈ os,plainO o) (hm:m10691 pu n (args ++ os.map encO) = some z):args.length≤22∧Run tt call (tabs.length + 1) c69_21 (Fr.made 22 args) (subHeap tabs os) (FinO tt tabs.length 1 [.tmp 4] z):=by
 subst hcall
 have hq:=len_cons ha;clear ha;obtain ⟨a0,args,rfl,ha⟩:=hq
 have hq:=len_cons ha;clear ha;obtain ⟨a1,args,rfl,ha⟩:=hq
 obtain rfl:=len_nil ha
 have hq:=len_cons hk;clear hk;obtain ⟨b0,os,rfl,hk⟩:=hq
 have hp0:plainO b0:=hpl b0 (by simp)
 obtain rfl:=len_nil hk
 replace hm:m10691 pu n [a0,a1,encO b0] = some z:=hm
 unfold m10691 at hm
 replace hm:(oo (toSc 1 0 1 a0) none fun y0=>(oo (toI .i64 a1) none fun x0=>(oo (vAgg (encO b0)) none fun q0=>(m10691_ pu n (NC.n y0) (NC.c y0) x0 q0)))) = some z:=hm
 replace hm:=oo_inv hm;obtain ⟨y0,h0,hm⟩:=hm
 obtain rfl:=toSc_some h0
 replace hm:=inv_toI hm;obtain ⟨x0,rfl,hm⟩:=hm
 replace hm:=oo_inv hm;obtain ⟨q0,h1,hm⟩:=hm
 obtain rfl:=vAgg_enc hp0 h1
 refine ⟨by simp,?_⟩
 exact .same (F':=(fr 22 [(0,(sc 1 0 1 (NC.n y0) (NC.c y0))),(1,zI x0)])) (H':=(hT 2 [oC q0])) (by kernel_rfl) (by kernel_rfl) (q10691 pu n (NC.n y0) (NC.c y0) x0 q0 hm)
end
end Go.MdFM
set_option maxRecDepth 100000
namespace Go.MdFM
open Go.Sp Go.MdF
noncomputable section
def L:Nat:=1000000
def disp (pu:PureF):PureF:=fun g args=>
 bb (Nat.beq g 9) (m9 pu L args) (bb (Nat.beq g 11) (m11 pu L args) (bb (Nat.beq g 29) (m29 pu L args) (bb (Nat.beq g 32) (m32 pu L args) (bb (Nat.beq g 33) (m33 pu L args) (bb (Nat.beq g 34) (m34 pu L args) (bb (Nat.beq g 35) (m35 pu L args) (bb (Nat.beq g 43) (m43 pu L args) (bb (Nat.beq g 44) (m44 pu L args) (bb (Nat.beq g 45) (m45 pu L args) (bb (Nat.beq g 46) (m46 pu L args) (bb (Nat.beq g 47) (m47 pu L args) (bb (Nat.beq g 48) (m48 pu L args) (bb (Nat.beq g 49) (m49 pu L args) (bb (Nat.beq g 50) (m50 pu L args) (bb (Nat.beq g 51) (m51 pu L args) (bb (Nat.beq g 52) (m52 pu L args) (bb (Nat.beq g 53) (m53 pu L args) (bb (Nat.beq g 54) (m54 pu L args) (bb (Nat.beq g 56) (m56 pu L args) (bb (Nat.beq g 57) (m57 pu L args) (bb (Nat.beq g 59) (m59 pu L args) (bb (Nat.beq g 62) (m62 pu L args) (bb (Nat.beq g 64) (m64 pu L args) (bb (Nat.beq g 67) (m67 pu L args) (bb (Nat.beq g 71) (m71 pu L args) (bb (Nat.beq g 72) (m72 pu L args) (bb (Nat.beq g 73) (m73 pu L args) (bb (Nat.beq g 74) (m74 pu L args) (bb (Nat.beq g 10650) (m10650 pu L args) (bb (Nat.beq g 10660) (m10660 pu L args) (bb (Nat.beq g 10680) (m10680 pu L args) (bb (Nat.beq g 10690) (m10690 pu L args) (bb (Nat.beq g 10700) (m10700 pu L args) (bb (Nat.beq g 10550) (m10550 pu L args) (bb (Nat.beq g 10551) (m10551 pu L args) (bb (Nat.beq g 10691) (m10691 pu L args) (bb (Nat.beq g 12) (ll args (some (.bool true)) fun _ _=>none) (none))))))))))))))))))))))))))))))))))))))
def puN:Nat→PureF:=fun n=>Nat.rec (motive:=fun _=>PureF) (fun _ _=>none) (fun _ ih=>disp ih) n
end
end Go.MdFM
