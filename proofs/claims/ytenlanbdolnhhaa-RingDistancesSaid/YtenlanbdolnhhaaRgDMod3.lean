/- Made from wip. -/
import Derived.Test.YtenlanbdolnhhaaRgDMod0x

set_option maxRecDepth 100000
set_option maxHeartbeats 20000000
set_option linter.unusedVariables false
namespace Go.RgDM
open Go.Sp Go.RgD
noncomputable section
def m33_0 (pu:PureF) (n:Nat) (z0 z1:Int):OV:=
 (oo (pu 80 [(.agg ⟨[.int .i64 z0,.int .u32 z1]⟩)]) none fun v0=>(oo (toSl 1 v0) none fun s0=>(some (.tuple ⟨[Sl.v 1 s0,(.int .i64 (0:Int))]⟩))))
def b33_1 (pu:PureF) (n:Nat) (ih0:Sl→Int→Int→Int→Int→Int→Int→OV) (s0:Sl) (z0 z1 z2 z3 z4 z5:Int):OV:=
 (bb (ilt z1 z0) (oo (toN z1) none fun k1=>(bb (an (Nat.blt k1 (Sl.n s0)) true) (oo (nthL (Sl.cs s0) (k1 * 1)) none fun v0=>(oo (toI .i64 v0) none fun x0=>(oo (pu 62 [(.agg ⟨[.int .i64 z2,.int .u32 z3]⟩),.int .i64 x0]) none fun v1=>(oo (toI .i64 v1) none fun x1=>(oo (pu 65 [(.agg ⟨[.int .i64 z2,.int .u32 z3]⟩),.int .i64 x1]) none fun v2=>(oo (vAgg v2) none fun l0=>(ll l0 none fun v3 l0=>(ll l0 none fun v4 l0=>(ll l0 (oo (toI .i64 v3) none fun x2=>(oo (toI .u32 v4) none fun x3=>(ih0 s0 z0 (wrapF .i64 (Int.add (Int.ofNat k1) (1:Int))) z2 z3 z4 (aand .u32 z5 x3)))) fun _ _=>none))))))))) none)) (m33_0 pu n z4 z5))
def l33_1 (pu:PureF) (n w:Nat):Sl→Int→Int→Int→Int→Int→Int→OV:=
 Nat.rec (motive:=fun _=>Sl→Int→Int→Int→Int→Int→Int→OV) (fun _ _ _ _ _ _ _=>none) (fun _ ih0=>b33_1 pu n ih0) w
def m33_ (pu:PureF) (n:Nat) (x0:Int) (s0 s1:Sl):OV:=
 (oo (pu 61 [(.agg ⟨[.int .i64 x0,Sl.v 1 s0]⟩)]) none fun v0=>(oo (vTup v0) none fun l0=>(ll l0 none fun v1 l0=>(ll l0 none fun v2 l0=>(ll l0 (oo (vAgg v1) none fun l1=>(ll l1 none fun v3 l1=>(ll l1 none fun v4 l1=>(ll l1 (oo (toI .i64 v3) none fun x1=>(oo (toI .u32 v4) none fun x2=>(oo (toI .i64 v2) none fun x3=>(bb (nt (ieq x3 (0:Int))) (some (.tuple ⟨[(Sl.v 1 (Sl.mk 0 2 [])),.int .i64 x3]⟩)) (l33_1 pu n n s1 (Int.ofNat (Sl.n s1)) (0:Int) x1 x2 x1 x2))))) fun _ _=>none)))) fun _ _=>none)))))
def m33 (pu:PureF) (n:Nat) (args:LV):OV:=
 (ll args none fun a0 args=>(ll args none fun a1 args=>(ll args (oo (vAgg a0) none fun l0=>(ll l0 none fun v0 l0=>(ll l0 none fun v1 l0=>(ll l0 (oo (toI .i64 v0) none fun x0=>(oo (toSl 1 v1) none fun s0=>(oo (toSl 1 a1) none fun s1=>(m33_ pu n x0 s0 s1)))) fun _ _=>none)))) fun _ _=>none)))
theorem w33_0 (pu:PureF) (n:Nat) (z0 z1:Int) {v:Value} (hm:m33_0 pu n z0 z1 = some v):Run tt (callP tabs isP pu (inl pu)) 0 c33_23 (fr 39 [(8,(pt 0 0))]) (hp 1 [(oC [zI z0,.int .u32 z1])]) (Fin tt 0 [.tmp 4,.tmp 5] v):=by
 unfold m33_0 at hm
 refine .then ?_
 replace hm:=oo_inv hm;obtain ⟨v0,h0,hm⟩:=hm
 replace hm:=inv_toSl hm;obtain ⟨s0,rfl,hm⟩:=hm
 refine .reg (eC 1 ((oo (pu 80 [(.agg ⟨[zI z0,.int .u32 z1]⟩)]) none fun v=>some (v,(hp 1 [(oC [zI z0,.int .u32 z1])])))) (call_eq h0) (eE)) ?_
 refine .ghs (fr 39 [(4,Sl.v 1 s0),(5,(zI (0:Int)))]) (hp 0 []) (.k0 [] [] [4,5]) ?_
 refine .ret ?_
 exact fin_ret (.tuple ⟨[Sl.v 1 s0,(zI (0:Int))]⟩) (by kernel_rfl) (by kernel_rfl) hm
theorem r33 {call:CallF} (pu:PureF) (n:Nat) (hcall:call = callP tabs isP pu (inl pu)) {args:LV} {v:Value} (hm:m33 pu n args = some v) (_:∀ x ∈ args,closed2 x = true):args.length≤39∧Run tt call 0 c33_28 (Fr.made 39 args) (pureHeap tabs) (Fin tt 0 [.tmp 4,.tmp 5] v):=by
 subst hcall
 unfold m33 at hm
 replace hm:=ll_uncons hm;obtain ⟨a0,args_0,rfl,hm⟩:=hm
 replace hm:=ll_uncons hm;obtain ⟨a1,args_1,rfl,hm⟩:=hm
 replace hm:=ll_end hm;obtain ⟨rfl,hm⟩:=hm
 replace hm:=inv_vAgg hm;obtain ⟨l0,rfl,hm⟩:=hm
 replace hm:=ll_uncons hm;obtain ⟨v0,l3580_0,rfl,hm⟩:=hm
 replace hm:=ll_uncons hm;obtain ⟨v1,l3580_1,rfl,hm⟩:=hm
 replace hm:=ll_end hm;obtain ⟨rfl,hm⟩:=hm
 replace hm:=inv_toI hm;obtain ⟨x0,rfl,hm⟩:=hm
 replace hm:=inv_toSl hm;obtain ⟨s0,rfl,hm⟩:=hm
 replace hm:=inv_toSl hm;obtain ⟨s1,rfl,hm⟩:=hm
 unfold m33_ at hm
 refine ⟨by simp,?_⟩
 refine .same (F':=(fr 39 [(0,(.agg ⟨[zI x0,Sl.v 1 s0]⟩)),(1,Sl.v 1 s1)])) (H':=(hp 0 [])) (by kernel_rfl) (by kernel_rfl) ?_
 refine .then (.rK ?_)
 refine .ghs (fr 39 [(1,Sl.v 1 s1),(2,(pt 0 0))]) (hp 1 [(oC [zI x0,Sl.v 1 s0])]) (.k0 [] [.tmp 2 false] [1,2]) ?_
 refine .then ?_
 replace hm:=oo_inv hm;obtain ⟨v2,h0,hm⟩:=hm
 replace hm:=inv_vTup hm;obtain ⟨l1,rfl,hm⟩:=hm
 replace hm:=ll_uncons hm;obtain ⟨v3,l3608_0,rfl,hm⟩:=hm
 replace hm:=ll_uncons hm;obtain ⟨v4,l3608_1,rfl,hm⟩:=hm
 replace hm:=ll_end hm;obtain ⟨rfl,hm⟩:=hm
 replace hm:=inv_vAgg hm;obtain ⟨l2,rfl,hm⟩:=hm
 replace hm:=ll_uncons hm;obtain ⟨v5,l3612_0,rfl,hm⟩:=hm
 replace hm:=ll_uncons hm;obtain ⟨v6,l3612_1,rfl,hm⟩:=hm
 replace hm:=ll_end hm;obtain ⟨rfl,hm⟩:=hm
 replace hm:=inv_toI hm;obtain ⟨x1,rfl,hm⟩:=hm
 replace hm:=inv_toI hm;obtain ⟨x2,rfl,hm⟩:=hm
 replace hm:=inv_toI hm;obtain ⟨x3,rfl,hm⟩:=hm
 refine .reg (eC 1 ((oo (pu 61 [(.agg ⟨[zI x0,Sl.v 1 s0]⟩)]) none fun v=>some (v,(hp 1 [(oC [zI x0,Sl.v 1 s0])])))) (call_eq h0) (eE)) ?_
 refine .ghs (fr 39 [(1,Sl.v 1 s1),(6,(pt 0 0)),(7,zI x3)]) (hp 1 [(oC [zI x1,.int .u32 x2])]) (.k0 [] [.tmp 6 false] [1,6,7]) ?_
 refine .then ?_
 refine .then (.rK ?_)
 refine .ghs (fr 39 [(1,Sl.v 1 s1),(6,(pt 0 0)),(7,zI x3),(17,(zB (nt (ieq x3 (0:Int)))))]) (hp 1 [(oC [zI x1,.int .u32 x2])]) (.k0 [] [.tmp 6 false] [1,6,7,17]) ?_
 replace hm:=bb_cases hm;rcases hm with ⟨h1,hm⟩ | ⟨h1,hm⟩
 ·refine .ifT (nt (ieq x3 (0 : Int))) (by kernel_rfl) h1 ?_
  refine .then (.rK ?_)
  refine .ghs (fr 39 [(4,(.slice none 0 0)),(5,zI x3)]) (hp 0 []) (.k0 [] [] [4,5]) ?_
  refine .ghs (Fr.puts (fr 39 [(4,(.slice none 0 0)),(5,zI x3)]) [(4,(Sl.v 1 (Sl.mk 0 2 [])))]) (hp 0 []) (.freeze 0 4 1 (by kernel_rfl) (by kernel_rfl) (GhS.id _ _)) ?_
  refine .ret ?_
  exact fin_ret (.tuple ⟨[(Sl.v 1 (Sl.mk 0 2 [])),zI x3]⟩) (by kernel_rfl) (by kernel_rfl) hm
 ·refine .ifF (nt (ieq x3 (0 : Int))) (by kernel_rfl) h1 ?_
  refine .skip ?_
  refine .ghs (fr 39 [(1,Sl.v 1 s1),(6,(pt 0 0))]) (hp 1 [(oC [zI x1,.int .u32 x2])]) (.k0 [] [.tmp 6 false] [1,6]) ?_
  refine .then (.rK ?_)
  refine .ghs (fr 39 [(1,Sl.v 1 s1),(6,(pt 0 0)),(8,pt 1 0)]) (hp 2 [(oC [zI x1,.int .u32 x2]),(oC [zI x1,.int .u32 x2])]) (.k0 [] [.tmp 6 false,.tmp 8 false] [1,6,8]) ?_
  refine .join (v:=v) (fun y:Int×Int=>((fr 39 [(8,(pt 0 0))]),(hp 1 [(oC [(zI y.1),(.int .u32 y.2)])]))) (fun y=>m33_0 pu n y.1 y.2) ?_ ?_
  ·rintro ⟨z0, z1⟩ hm
   exact w33_0 pu n z0 z1 hm
  ·refine .then (.rK ?_)
   refine .ghs (fr 39 [(6,(pt 0 0)),(8,pt 1 0),(20,Sl.v 1 s1),(21,(zI (Int.ofNat (Sl.n s1)))),(22,(zI (0:Int)))]) (hp 2 [(oC [zI x1,.int .u32 x2]),(oC [zI x1,.int .u32 x2])]) (.k0 [] [.tmp 6 false,.tmp 8 false] [6,8,20,21,22]) ?_
   refine .block ?_
   refine .loopM (v:=v) (fun y:Sl×Int×Int×Int×Int×Int×Int=>((fr 39 [(6,(pt 0 0)),(8,pt 1 0),(20,(Sl.v 1 y.1)),(21,(zI y.2.1)),(22,(zI y.2.2.1))]),(hp 2 [(oC [(zI y.2.2.2.1),(.int .u32 y.2.2.2.2.1)]),(oC [(zI y.2.2.2.2.2.1),(.int .u32 y.2.2.2.2.2.2)])]))) (fun w y=>l33_1 pu n w y.1 y.2.1 y.2.2.1 y.2.2.2.1 y.2.2.2.2.1 y.2.2.2.2.2.1 y.2.2.2.2.2.2) n ⟨(s1,(Int.ofNat (Sl.n s1)),(0:Int),x1,x2,x1,x2),hm,(.k0 [] [.tmp 6 false,.tmp 8 false] [6,8,20,21,22])⟩ (fun _=>rfl) ?_
   rintro w0 ⟨s2,z2,z3,z4,z5,z6,z7⟩ hm
   replace hm:b33_1 pu n (l33_1 pu n w0) s2 z2 z3 z4 z5 z6 z7 = some v:=hm
   unfold b33_1 at hm
   refine .then (.rK ?_)
   refine .ghs (fr 39 [(6,(pt 0 0)),(8,pt 1 0),(20,Sl.v 1 s2),(21,zI z2),(22,zI z3),(23,(zB (ilt z3 z2)))]) (hp 2 [(oC [zI z4,.int .u32 z5]),(oC [zI z6,.int .u32 z7])]) (.k0 [] [.tmp 6 false,.tmp 8 false] [6,8,20,21,22,23]) ?_
   refine .then ?_
   replace hm:=bb_cases hm;rcases hm with ⟨h2,hm⟩ | ⟨h2,hm⟩
   ·refine .ifT (ilt z3 z2) (by kernel_rfl) h2 ?_
    refine .skip ?_
    refine .ghs (fr 39 [(6,(pt 0 0)),(8,pt 1 0),(20,Sl.v 1 s2),(21,zI z2),(22,zI z3)]) (hp 2 [(oC [zI z4,.int .u32 z5]),(oC [zI z6,.int .u32 z7])]) (.k0 [] [.tmp 6 false,.tmp 8 false] [6,8,20,21,22]) ?_
    refine .then ?_
    refine .block ?_
    refine .then ?_
    replace hm:=oo_inv hm;obtain ⟨k1,h3,hm⟩:=hm
    obtain rfl:=toN_some h3
    replace hm:=bb_inv hm;obtain ⟨h4,hm⟩:=hm
    replace hm:=oo_inv hm;obtain ⟨v7,h5,hm⟩:=hm
    replace hm:=inv_toI hm;obtain ⟨x4,rfl,hm⟩:=hm
    refine .reg (eD (keep (hp 2 [(oC [zI z4,.int .u32 z5]),(oC [zI z6,.int .u32 z7])]) (bb (an (Nat.blt k1 (Sl.n s2)) true) (some (fpV (k1 * 1) (Sl.cs s2))) none)) (keep_bb h4) (eD (keep (hp 2 [(oC [zI z4,.int .u32 z5]),(oC [zI z6,.int .u32 z7])]) (nthL (Sl.cs s2) (k1 * 1))) (keep_eq h5) (eE))) ?_
    refine .ghs (fr 39 [(6,(pt 0 0)),(8,pt 1 0),(10,zI x4),(20,Sl.v 1 s2),(21,zI z2),(22,(zI (Int.ofNat k1)))]) (hp 2 [(oC [zI z4,.int .u32 z5]),(oC [zI z6,.int .u32 z7])]) (.k0 [] [.tmp 6 false,.tmp 8 false] [6,8,10,20,21,22]) ?_
    replace hm:=oo_inv hm;obtain ⟨v8,h6,hm⟩:=hm
    replace hm:=inv_toI hm;obtain ⟨x5,rfl,hm⟩:=hm
    replace hm:=oo_inv hm;obtain ⟨v9,h7,hm⟩:=hm
    replace hm:=inv_vAgg hm;obtain ⟨l3,rfl,hm⟩:=hm
    replace hm:=ll_uncons hm;obtain ⟨v10,l3725_0,rfl,hm⟩:=hm
    replace hm:=ll_uncons hm;obtain ⟨v11,l3725_1,rfl,hm⟩:=hm
    replace hm:=ll_end hm;obtain ⟨rfl,hm⟩:=hm
    replace hm:=inv_toI hm;obtain ⟨x6,rfl,hm⟩:=hm
    replace hm:=inv_toI hm;obtain ⟨x7,rfl,hm⟩:=hm
    refine .reg (eC 5 ((oo (pu 62 [(.agg ⟨[zI z4,.int .u32 z5]⟩),zI x4]) none fun v=>some (v,(hp 2 [(oC [zI z4,.int .u32 z5]),(oC [zI z6,.int .u32 z7])])))) (call_eq h6) (eD ((oo (pu 65 [(.agg ⟨[zI z4,.int .u32 z5]⟩),zI x5]) none fun v=>some (v,(hp 2 [(oC [zI z4,.int .u32 z5]),(oC [zI z6,.int .u32 z7])])))) (call_eq h7) (eE))) ?_
    refine .ghs (fr 39 [(6,(pt 0 0)),(8,pt 1 0),(20,Sl.v 1 s2),(21,zI z2),(22,(zI (Int.ofNat k1)))]) (hp 2 [(oC [zI z4,.int .u32 z5]),(oC [zI z6,(.int .u32 (aand .u32 z7 x7))])]) (.k0 [] [.tmp 6 false,.tmp 8 false] [6,8,20,21,22]) ?_
    refine .rK ?_
    exact ⟨(s2,z2,(wrapF .i64 (Int.add (Int.ofNat k1) (1:Int))),z4,z5,z6,(aand .u32 z7 x7)),hm,(.k0 [] [.tmp 6 false,.tmp 8 false] [6,8,20,21,22])⟩
   ·refine .ifF (ilt z3 z2) (by kernel_rfl) h2 ?_
    refine .exit ?_
    exact ⟨(z6,z7),hm,(.k0 [] [.tmp 8 false] [8])⟩
def m34_0 (pu:PureF) (n n0 c0:Nat) (q1:LV):OV:=
 (bb (allL closed1 q1) (bb (an (Nat.ble (0 + n0 * 1) (len q1)) (allL closed1 (takeL (n0 * 1) (dropL 0 q1)))) (some (.tuple ⟨[(Sl.v 1 (Sl.mk n0 0 (takeL (n0 * 1) (dropL 0 q1)))),(.int .i64 (0:Int))]⟩)) none) none)
def m34_2 (pu:PureF) (n:Nat) (ih0:Sl→Nat→Nat→Int→Int→Sl→LV→OV) (s0:Sl) (n0 c0:Nat) (z0 z1:Int) (s1:Sl) (q1:LV):OV:=
 (bb (allL closed1 q1) (ih0 s0 n0 c0 (wrapF .i64 (Int.add z0 (1:Int))) z1 s1 q1) none)
def m34_3 (pu:PureF) (n:Nat) (ih0:Sl→Nat→Nat→Int→Int→Sl→LV→OV) (s0:Sl) (n0 c0:Nat) (z0:Int) (b0:Bool) (z1:Int) (s1:Sl) (q1:LV):OV:=
 (bb (allL closed1 q1) (bb b0 (bb (growC 1 8 n0 c0 1 q1) (bb (allL closed1 (appL (dropL 0 q1) [.int .i64 z0])) (m34_2 pu n ih0 s0 (n0 + 1) (2 * (n0 + 1) + bb false 1 0) z0 z1 s1 (appL (dropL 0 q1) [.int .i64 z0])) none) none) (m34_2 pu n ih0 s0 n0 c0 z0 z1 s1 q1)) none)
def b34_4 (pu:PureF) (n:Nat) (ih0:Sl→Nat→Nat→Int→Int→Sl→LV→OV) (ih1:Sl→Nat→Nat→Int→Bool→Int→Int→Sl→LV→OV) (s0:Sl) (n0 c0:Nat) (z0:Int) (b0:Bool) (z1 z2:Int) (s1:Sl) (q1:LV):OV:=
 (bb (allL closed1 q1) (bb (ilt z1 (Int.ofNat (Sl.n s0))) (bb b0 (oo (toN z1) none fun k1=>(bb (an (Nat.blt k1 (Sl.n s0)) true) (oo (nthL (Sl.cs s0) (k1 * 1)) none fun v0=>(oo (toI .i64 v0) none fun x0=>(oo (pu 64 [.int .i64 x0,.int .i64 z2]) none fun v1=>(oo (toI .i64 v1) none fun x1=>(oo (pu 64 [(.int .i64 (wrapF .i64 (Int.sub z0 x1))),.int .i64 z2]) none fun v2=>(oo (toI .i64 v2) none fun x2=>(oo (pu 63 [(.agg ⟨[.int .i64 z2,Sl.v 1 s1]⟩),.int .i64 x2]) none fun v3=>(oo (vBool v3) none fun b1=>(ih1 s0 n0 c0 z0 b1 (wrapF .i64 (Int.add (Int.ofNat k1) (1:Int))) z2 s1 q1))))))))) none)) (ih1 s0 n0 c0 z0 false (wrapF .i64 (Int.add z1 (1:Int))) z2 s1 q1)) (m34_3 pu n ih0 s0 n0 c0 z0 b0 z2 s1 q1)) none)
def l34_4 (pu:PureF) (n:Nat) (ih0:Sl→Nat→Nat→Int→Int→Sl→LV→OV) (w:Nat):Sl→Nat→Nat→Int→Bool→Int→Int→Sl→LV→OV:=
 Nat.rec (motive:=fun _=>Sl→Nat→Nat→Int→Bool→Int→Int→Sl→LV→OV) (fun _ _ _ _ _ _ _ _ _=>none) (fun _ ih1=>b34_4 pu n ih0 ih1) w
def b34_1 (pu:PureF) (n:Nat) (ih0:Sl→Nat→Nat→Int→Int→Sl→LV→OV) (s0:Sl) (n0 c0:Nat) (z0 z1:Int) (s1:Sl) (q1:LV):OV:=
 (bb (allL closed1 q1) (bb (ilt z0 z1) (oo (pu 63 [(.agg ⟨[.int .i64 z1,Sl.v 1 s1]⟩),.int .i64 z0]) none fun v0=>(oo (vBool v0) none fun b0=>(l34_4 pu n ih0 n s0 n0 c0 z0 b0 (0:Int) z1 s1 q1))) (m34_0 pu n n0 c0 q1)) none)
def l34_1 (pu:PureF) (n w:Nat):Sl→Nat→Nat→Int→Int→Sl→LV→OV:=
 Nat.rec (motive:=fun _=>Sl→Nat→Nat→Int→Int→Sl→LV→OV) (fun _ _ _ _ _ _ _=>none) (fun _ ih0=>b34_1 pu n ih0) w
def m34_ (pu:PureF) (n:Nat) (x0:Int) (s0 s1:Sl):OV:=
 (oo (pu 26 [(.agg ⟨[.int .i64 x0,Sl.v 1 s0]⟩)]) none fun v0=>(oo (toI .i64 v0) none fun x1=>(bb (nt (ieq x1 (0:Int))) (some (.tuple ⟨[(Sl.v 1 (Sl.mk 0 2 [])),.int .i64 x1]⟩)) (l34_1 pu n n s1 0 0 (0:Int) x0 s0 ([]:LV)))))
def m34 (pu:PureF) (n:Nat) (args:LV):OV:=
 (ll args none fun a0 args=>(ll args none fun a1 args=>(ll args (oo (vAgg a0) none fun l0=>(ll l0 none fun v0 l0=>(ll l0 none fun v1 l0=>(ll l0 (oo (toI .i64 v0) none fun x0=>(oo (toSl 1 v1) none fun s0=>(oo (toSl 1 a1) none fun s1=>(m34_ pu n x0 s0 s1)))) fun _ _=>none)))) fun _ _=>none)))
theorem w34_0 (pu:PureF) (n n0 c0:Nat) (q1:LV) {v:Value} (hm:m34_0 pu n n0 c0 q1 = some v):Run tt (callP tabs isP pu (inl pu)) 0 c34_39 (fr 54 [(7,sc 0 0 1 n0 c0)]) (hp 1 [oC q1]) (Fin tt 0 [.tmp 4,.tmp 5] v):=by
 unfold m34_0 at hm
 refine .then (.rK ?_)
 replace hm:=bb_inv hm;obtain ⟨h0,hm⟩:=hm
 refine .ghs (fr 54 [(4,sc 0 0 1 n0 c0),(5,(zI (0:Int)))]) (hp 1 [oC q1]) (.k [0] [] [.tmp 4 false] [4,5] ⟨trF h0,trivial⟩) ?_
 replace hm:=bb_inv hm;obtain ⟨h1,hm⟩:=hm
 refine .ghs (Fr.puts (fr 54 [(4,sc 0 0 1 n0 c0),(5,(zI (0:Int)))]) [(4,(Sl.v 1 (Sl.mk n0 0 (takeL (n0 * 1) (dropL 0 q1)))))]) (hp 1 [.dead]) (.freezeC 0 4 1 (an (Nat.ble (0 + n0 * 1) (len q1)) (allL closed1 (takeL (n0 * 1) (dropL 0 q1)))) (F1:=(Fr.puts (fr 54 [(4,sc 0 0 1 n0 c0),(5,(zI (0:Int)))]) [(4,(Sl.v 1 (Sl.mk n0 0 (takeL (n0 * 1) (dropL 0 q1)))))])) (H1:=(hp 1 [.dead])) (by kernel_rfl) (by kernel_rfl) h1 (GhS.id _ _)) ?_
 refine .ret ?_
 exact fin_ret (.tuple ⟨[(Sl.v 1 (Sl.mk n0 0 (takeL (n0 * 1) (dropL 0 q1)))),(zI (0:Int))]⟩) (by kernel_rfl) (by kernel_rfl) hm
theorem r34 {call:CallF} (pu:PureF) (n:Nat) (hcall:call = callP tabs isP pu (inl pu)) {args:LV} {v:Value} (hm:m34 pu n args = some v) (_:∀ x ∈ args,closed2 x = true):args.length≤54∧Run tt call 0 c34_44 (Fr.made 54 args) (pureHeap tabs) (Fin tt 0 [.tmp 4,.tmp 5] v):=by
 subst hcall
 unfold m34 at hm
 replace hm:=ll_uncons hm;obtain ⟨a0,args_0,rfl,hm⟩:=hm
 replace hm:=ll_uncons hm;obtain ⟨a1,args_1,rfl,hm⟩:=hm
 replace hm:=ll_end hm;obtain ⟨rfl,hm⟩:=hm
 replace hm:=inv_vAgg hm;obtain ⟨l0,rfl,hm⟩:=hm
 replace hm:=ll_uncons hm;obtain ⟨v0,l3733_0,rfl,hm⟩:=hm
 replace hm:=ll_uncons hm;obtain ⟨v1,l3733_1,rfl,hm⟩:=hm
 replace hm:=ll_end hm;obtain ⟨rfl,hm⟩:=hm
 replace hm:=inv_toI hm;obtain ⟨x0,rfl,hm⟩:=hm
 replace hm:=inv_toSl hm;obtain ⟨s0,rfl,hm⟩:=hm
 replace hm:=inv_toSl hm;obtain ⟨s1,rfl,hm⟩:=hm
 unfold m34_ at hm
 refine ⟨by simp,?_⟩
 refine .same (F':=(fr 54 [(0,(.agg ⟨[zI x0,Sl.v 1 s0]⟩)),(1,Sl.v 1 s1)])) (H':=(hp 0 [])) (by kernel_rfl) (by kernel_rfl) ?_
 refine .then (.rK ?_)
 refine .ghs (fr 54 [(1,Sl.v 1 s1),(2,(pt 0 0))]) (hp 1 [(oC [zI x0,Sl.v 1 s0])]) (.k0 [] [.tmp 2 false] [1,2]) ?_
 refine .then ?_
 replace hm:=oo_inv hm;obtain ⟨v2,h0,hm⟩:=hm
 replace hm:=inv_toI hm;obtain ⟨x1,rfl,hm⟩:=hm
 refine .reg (eC 1 ((oo (pu 26 [(.agg ⟨[zI x0,Sl.v 1 s0]⟩)]) none fun v=>some (v,(hp 1 [(oC [zI x0,Sl.v 1 s0])])))) (call_eq h0) (eE)) ?_
 refine .ghs (fr 54 [(1,Sl.v 1 s1),(2,(pt 0 0)),(6,zI x1)]) (hp 1 [(oC [zI x0,Sl.v 1 s0])]) (.k0 [] [.tmp 2 false] [1,2,6]) ?_
 refine .then ?_
 refine .then (.rK ?_)
 refine .ghs (fr 54 [(1,Sl.v 1 s1),(2,(pt 0 0)),(6,zI x1),(14,(zB (nt (ieq x1 (0:Int)))))]) (hp 1 [(oC [zI x0,Sl.v 1 s0])]) (.k0 [] [.tmp 2 false] [1,2,6,14]) ?_
 replace hm:=bb_cases hm;rcases hm with ⟨h1,hm⟩ | ⟨h1,hm⟩
 ·refine .ifT (nt (ieq x1 (0 : Int))) (by kernel_rfl) h1 ?_
  refine .then (.rK ?_)
  refine .ghs (fr 54 [(4,(.slice none 0 0)),(5,zI x1)]) (hp 0 []) (.k0 [] [] [4,5]) ?_
  refine .ghs (Fr.puts (fr 54 [(4,(.slice none 0 0)),(5,zI x1)]) [(4,(Sl.v 1 (Sl.mk 0 2 [])))]) (hp 0 []) (.freeze 0 4 1 (by kernel_rfl) (by kernel_rfl) (GhS.id _ _)) ?_
  refine .ret ?_
  exact fin_ret (.tuple ⟨[(Sl.v 1 (Sl.mk 0 2 [])),zI x1]⟩) (by kernel_rfl) (by kernel_rfl) hm
 ·refine .ifF (nt (ieq x1 (0 : Int))) (by kernel_rfl) h1 ?_
  refine .skip ?_
  refine .ghs (fr 54 [(1,Sl.v 1 s1),(2,(pt 0 0))]) (hp 1 [(oC [zI x0,Sl.v 1 s0])]) (.k0 [] [.tmp 2 false] [1,2]) ?_
  refine .then (.rK ?_)
  refine .ghs (fr 54 [(1,Sl.v 1 s1),(2,(pt 0 0)),(7,(.slice none 0 0))]) (hp 1 [(oC [zI x0,Sl.v 1 s0])]) (.k0 [] [.tmp 2 false] [1,2,7]) ?_
  refine .join (v:=v) (fun y:Nat×Nat×LV=>((fr 54 [(7,(sc 0 0 1 y.1 y.2.1))]),(hp 1 [(oC y.2.2)]))) (fun y=>m34_0 pu n y.1 y.2.1 y.2.2) ?_ ?_
  ·rintro ⟨n0, c0, q1⟩ hm
   exact w34_0 pu n n0 c0 q1 hm
  ·refine .then (.rK ?_)
   refine .ghs (fr 54 [(1,Sl.v 1 s1),(2,(pt 0 0)),(7,(.slice none 0 0)),(8,(zI (0:Int)))]) (hp 1 [(oC [zI x0,Sl.v 1 s0])]) (.k0 [] [.tmp 2 false] [1,2,7,8]) ?_
   refine .block ?_
   refine .loopM (v:=v) (fun y:Sl×Nat×Nat×Int×Int×Sl×LV=>((fr 54 [(1,(Sl.v 1 y.1)),(2,(pt 0 0)),(7,(sc 1 0 1 y.2.1 y.2.2.1)),(8,(zI y.2.2.2.1))]),(hp 2 [(oC [(zI y.2.2.2.2.1),(Sl.v 1 y.2.2.2.2.2.1)]),(oC y.2.2.2.2.2.2)]))) (fun w y=>l34_1 pu n w y.1 y.2.1 y.2.2.1 y.2.2.2.1 y.2.2.2.2.1 y.2.2.2.2.2.1 y.2.2.2.2.2.2) n ⟨(s1,0,0,(0:Int),x0,s0,([]:LV)),hm,(.thaw 7 1 (by kernel_rfl) (.k0 [] [.tmp 2 false,.tmp 7 false] [1,2,7,8]))⟩ (fun _=>rfl) ?_
   rintro w0 ⟨s2,n1,c1,z0,z1,s3,q2⟩ hm
   replace hm:b34_1 pu n (l34_1 pu n w0) s2 n1 c1 z0 z1 s3 q2 = some v:=hm
   unfold b34_1 at hm
   refine .then ?_
   refine .then (.rK ?_)
   replace hm:=bb_inv hm;obtain ⟨h2,hm⟩:=hm
   refine .ghs (fr 54 [(1,Sl.v 1 s2),(2,(pt 0 0)),(7,sc 1 0 1 n1 c1),(8,zI z0),(19,(zB (ilt z0 z1)))]) (hp 2 [(oC [zI z1,Sl.v 1 s3]),oC q2]) (.k [1] [] [.tmp 2 false,.tmp 7 false] [1,2,7,8,19] ⟨trF h2,trivial⟩) ?_
   replace hm:=bb_cases hm;rcases hm with ⟨h3,hm⟩ | ⟨h3,hm⟩
   ·refine .ifT (ilt z0 z1) (by kernel_rfl) h3 ?_
    refine .skip ?_
    refine .ghs (fr 54 [(1,Sl.v 1 s2),(2,(pt 0 0)),(7,sc 1 0 1 n1 c1),(8,zI z0)]) (hp 2 [(oC [zI z1,Sl.v 1 s3]),oC q2]) (.k [1] [] [.tmp 2 false,.tmp 7 false] [1,2,7,8] ⟨trF h2,trivial⟩) ?_
    refine .join (v:=v) (fun y:Sl×Nat×Nat×Int×Int×Sl×LV=>((fr 54 [(1,(Sl.v 1 y.1)),(2,(pt 0 0)),(7,(sc 1 0 1 y.2.1 y.2.2.1)),(8,(zI y.2.2.2.1))]),(hp 2 [(oC [(zI y.2.2.2.2.1),(Sl.v 1 y.2.2.2.2.2.1)]),(oC y.2.2.2.2.2.2)]))) (fun y=>m34_2 pu n (l34_1 pu n w0) y.1 y.2.1 y.2.2.1 y.2.2.2.1 y.2.2.2.2.1 y.2.2.2.2.2.1 y.2.2.2.2.2.2) ?_ ?_
    ·rintro ⟨s4, n2, c2, z2, z3, s5, q3⟩ hm
     unfold m34_2 at hm
     refine .rK ?_
     replace hm:=bb_inv hm;obtain ⟨h4,hm⟩:=hm
     exact ⟨(s4,n2,c2,(wrapF .i64 (Int.add z2 (1:Int))),z3,s5,q3),hm,(.k [1] [] [.tmp 2 false,.tmp 7 false] [1,2,7,8] ⟨trF h4,trivial⟩)⟩
    ·refine .block ?_
     refine .then ?_
     replace hm:=oo_inv hm;obtain ⟨v3,h5,hm⟩:=hm
     replace hm:=inv_vBool hm;obtain ⟨b0,rfl,hm⟩:=hm
     refine .reg (eC 2 ((oo (pu 63 [(.agg ⟨[zI z1,Sl.v 1 s3]⟩),zI z0]) none fun v=>some (v,(hp 2 [(oC [zI z1,Sl.v 1 s3]),oC q2])))) (call_eq h5) (eE)) ?_
     refine .ghs (fr 54 [(1,Sl.v 1 s2),(2,(pt 0 0)),(7,sc 1 0 1 n1 c1),(8,zI z0),(9,zB b0)]) (hp 2 [(oC [zI z1,Sl.v 1 s3]),oC q2]) (.k [1] [] [.tmp 2 false,.tmp 7 false] [1,2,7,8,9] ⟨trF h2,trivial⟩) ?_
     refine .join (v:=v) (fun y:Sl×Nat×Nat×Int×Bool×Int×Sl×LV=>((fr 54 [(1,(Sl.v 1 y.1)),(2,(pt 0 0)),(7,(sc 1 0 1 y.2.1 y.2.2.1)),(8,(zI y.2.2.2.1)),(9,(zB y.2.2.2.2.1))]),(hp 2 [(oC [(zI y.2.2.2.2.2.1),(Sl.v 1 y.2.2.2.2.2.2.1)]),(oC y.2.2.2.2.2.2.2)]))) (fun y=>m34_3 pu n (l34_1 pu n w0) y.1 y.2.1 y.2.2.1 y.2.2.2.1 y.2.2.2.2.1 y.2.2.2.2.2.1 y.2.2.2.2.2.2.1 y.2.2.2.2.2.2.2) ?_ ?_
     ·rintro ⟨s6, n3, c3, z4, b1, z5, s7, q4⟩ hm
      unfold m34_3 at hm
      refine .then (.rK ?_)
      replace hm:=bb_inv hm;obtain ⟨h6,hm⟩:=hm
      refine .ghs (fr 54 [(1,Sl.v 1 s6),(2,(pt 0 0)),(7,sc 1 0 1 n3 c3),(8,zI z4),(48,zB b1)]) (hp 2 [(oC [zI z5,Sl.v 1 s7]),oC q4]) (.k [1] [] [.tmp 2 false,.tmp 7 false] [1,2,7,8,48] ⟨trF h6,trivial⟩) ?_
      replace hm:=bb_cases hm;rcases hm with ⟨h7,hm⟩ | ⟨h7,hm⟩
      ·refine .ifT b1 (by kernel_rfl) h7 ?_
       replace hm:=bb_inv hm;obtain ⟨h8,hm⟩:=hm
       refine .reg (eC 3 (growD 1 8 n3 c3 1 1 q4 [zI z4] [] (hp 3 [(oC [zI z5,Sl.v 1 s7]),oC q4,(oC [zI z4])])) (growD_eq h8) (eE)) ?_
       replace hm:=bb_inv hm;obtain ⟨h9,hm⟩:=hm
       exact ⟨(s6,(n3 + 1),(d2 (n3 + 1)),z4,z5,s7,(appL (dropL 0 q4) [zI z4])),hm,(.k [3] [] [.tmp 2 false,.tmp 7 false] [1,2,7,8] ⟨trF h9,trivial⟩)⟩
      ·refine .ifF b1 (by kernel_rfl) h7 ?_
       refine .skip ?_
       exact ⟨(s6,n3,c3,z4,z5,s7,q4),hm,(.k [1] [] [.tmp 2 false,.tmp 7 false] [1,2,7,8] ⟨trF h6,trivial⟩)⟩
     ·refine .then (.rK ?_)
      refine .ghs (fr 54 [(1,Sl.v 1 s2),(2,(pt 0 0)),(7,sc 1 0 1 n1 c1),(8,zI z0),(9,zB b0),(10,(zI (0:Int)))]) (hp 2 [(oC [zI z1,Sl.v 1 s3]),oC q2]) (.k [1] [] [.tmp 2 false,.tmp 7 false] [1,2,7,8,9,10] ⟨trF h2,trivial⟩) ?_
      refine .block ?_
      refine .loopM (v:=v) (fun y:Sl×Nat×Nat×Int×Bool×Int×Int×Sl×LV=>((fr 54 [(1,(Sl.v 1 y.1)),(2,(pt 0 0)),(7,(sc 1 0 1 y.2.1 y.2.2.1)),(8,(zI y.2.2.2.1)),(9,(zB y.2.2.2.2.1)),(10,(zI y.2.2.2.2.2.1))]),(hp 2 [(oC [(zI y.2.2.2.2.2.2.1),(Sl.v 1 y.2.2.2.2.2.2.2.1)]),(oC y.2.2.2.2.2.2.2.2)]))) (fun w y=>l34_4 pu n (l34_1 pu n w0) w y.1 y.2.1 y.2.2.1 y.2.2.2.1 y.2.2.2.2.1 y.2.2.2.2.2.1 y.2.2.2.2.2.2.1 y.2.2.2.2.2.2.2.1 y.2.2.2.2.2.2.2.2) n ⟨(s2,n1,c1,z0,b0,(0:Int),z1,s3,q2),hm,(.k [1] [] [.tmp 2 false,.tmp 7 false] [1,2,7,8,9,10] ⟨trF h2,trivial⟩)⟩ (fun _=>rfl) ?_
      rintro w1 ⟨s8,n4,c5,z6,b2,z7,z8,s9,q5⟩ hm
      replace hm:b34_4 pu n (l34_1 pu n w0) (l34_4 pu n (l34_1 pu n w0) w1) s8 n4 c5 z6 b2 z7 z8 s9 q5 = some v:=hm
      unfold b34_4 at hm
      refine .then ?_
      refine .then (.rK ?_)
      replace hm:=bb_inv hm;obtain ⟨h10,hm⟩:=hm
      refine .ghs (fr 54 [(1,Sl.v 1 s8),(2,(pt 0 0)),(7,sc 1 0 1 n4 c5),(8,zI z6),(9,zB b2),(10,zI z7),(28,(zB (ilt z7 (Int.ofNat (Sl.n s8)))))]) (hp 2 [(oC [zI z8,Sl.v 1 s9]),oC q5]) (.k [1] [] [.tmp 2 false,.tmp 7 false] [1,2,7,8,9,10,28] ⟨trF h10,trivial⟩) ?_
      replace hm:=bb_cases hm;rcases hm with ⟨h11,hm⟩ | ⟨h11,hm⟩
      ·refine .ifT (ilt z7 (Int.ofNat (Sl.n s8))) (by kernel_rfl) h11 ?_
       refine .skip ?_
       refine .ghs (fr 54 [(1,Sl.v 1 s8),(2,(pt 0 0)),(7,sc 1 0 1 n4 c5),(8,zI z6),(9,zB b2),(10,zI z7)]) (hp 2 [(oC [zI z8,Sl.v 1 s9]),oC q5]) (.k [1] [] [.tmp 2 false,.tmp 7 false] [1,2,7,8,9,10] ⟨trF h10,trivial⟩) ?_
       refine .then ?_
       refine .block ?_
       replace hm:=bb_cases hm;rcases hm with ⟨h12,hm⟩ | ⟨h12,hm⟩
       ·replace hm := oo_inv hm; obtain ⟨k1, h13, hm⟩ := hm
        obtain rfl:=toN_some h13
        replace hm:=bb_inv hm;obtain ⟨h14,hm⟩:=hm
        replace hm:=oo_inv hm;obtain ⟨v4,h15,hm⟩:=hm
        replace hm:=inv_toI hm;obtain ⟨x2,rfl,hm⟩:=hm
        replace hm:=oo_inv hm;obtain ⟨v5,h16,hm⟩:=hm
        replace hm:=inv_toI hm;obtain ⟨x3,rfl,hm⟩:=hm
        replace hm:=oo_inv hm;obtain ⟨v6,h17,hm⟩:=hm
        replace hm:=inv_toI hm;obtain ⟨x4,rfl,hm⟩:=hm
        replace hm:=oo_inv hm;obtain ⟨v7,h18,hm⟩:=hm
        replace hm:=inv_vBool hm;obtain ⟨b3,rfl,hm⟩:=hm
        refine .reg (eN 8 (Fr.puts (fr 54 [(1,Sl.v 1 s8),(2,(pt 0 0)),(7,sc 1 0 1 n4 c5),(8,zI z6),(9,zB b2),(10,(zI (Int.ofNat k1)))]) [(31,zB true),(32,zB true),(33,(.agg ⟨[zI z8,Sl.v 1 s9]⟩)),(34,zI z6),(35,Sl.v 1 s8),(36,(zI (Int.ofNat k1))),(37,(fpV (k1 * 1) (Sl.cs s8))),(38,zI x2)]) (hp 2 [(oC [zI z8,Sl.v 1 s9]),oC q5]) (eD (some ((zB b2),(hp 2 [(oC [zI z8,Sl.v 1 s9]),oC q5]))) (show _ = some ((zB true),_) from (by rw [h12])) (eC 5 (keep (hp 2 [(oC [zI z8,Sl.v 1 s9]),oC q5]) (bb (an (Nat.blt k1 (Sl.n s8)) true) (some (fpV (k1 * 1) (Sl.cs s8))) none)) (keep_bb h14) (eD (keep (hp 2 [(oC [zI z8,Sl.v 1 s9]),oC q5]) (nthL (Sl.cs s8) (k1 * 1))) (keep_eq h15) (by kernel_rfl)))) (eC 4 ((oo (pu 64 [zI x2,zI z8]) none fun v=>some (v,(hp 2 [(oC [zI z8,Sl.v 1 s9]),oC q5])))) (call_eq h16) (eC 1 ((oo (pu 64 [(zI (wrapF .i64 (Int.sub z6 x3))),zI z8]) none fun v=>some (v,(hp 2 [(oC [zI z8,Sl.v 1 s9]),oC q5])))) (call_eq h17) (eD ((oo (pu 63 [(.agg ⟨[zI z8,Sl.v 1 s9]⟩),zI x4]) none fun v=>some (v,(hp 2 [(oC [zI z8,Sl.v 1 s9]),oC q5])))) (call_eq h18) (eE))))) ?_
        refine .ghs (fr 54 [(1,Sl.v 1 s8),(2,(pt 0 0)),(7,sc 1 0 1 n4 c5),(8,zI z6),(9,zB b3),(10,(zI (Int.ofNat k1))),(33,(.agg ⟨[zI z8,Sl.v 1 s9]⟩)),(34,zI z6),(35,Sl.v 1 s8),(36,(zI (Int.ofNat k1))),(37,(fpV (k1 * 1) (Sl.cs s8))),(38,zI x2),(39,(pt 0 0)),(40,zI z8),(41,zI x3),(42,(zI (wrapF .i64 (Int.sub z6 x3)))),(43,(pt 0 0)),(44,zI z8),(45,zI x4),(46,zB b3)]) (hp 2 [(oC [zI z8,Sl.v 1 s9]),oC q5]) (.k [1] [] [.tmp 2 false,.tmp 7 false] [1,2,7,8,9,10,33,34,35,36,37,38,39,40,41,42,43,44,45,46] ⟨trF h10,trivial⟩) ?_
        refine .rK ?_
        exact ⟨(s8,n4,c5,z6,b3,(wrapF .i64 (Int.add (Int.ofNat k1) (1:Int))),z8,s9,q5),hm,(.k [1] [] [.tmp 2 false,.tmp 7 false] [1,2,7,8,9,10] ⟨trF h10,trivial⟩)⟩
       ·refine .reg (eD (some ((zB b2), (hp 2 [(oC [zI z8, Sl.v 1 s9]), oC q5]))) (show _ = some ((zB false), _) from (by rw [h12])) (eE)) ?_
        refine .ghs (fr 54 [(1,Sl.v 1 s8),(2,(pt 0 0)),(7,sc 1 0 1 n4 c5),(8,zI z6),(9,zB false),(10,zI z7)]) (hp 2 [(oC [zI z8,Sl.v 1 s9]),oC q5]) (.k [1] [] [.tmp 2 false,.tmp 7 false] [1,2,7,8,9,10] ⟨trF h10,trivial⟩) ?_
        refine .rK ?_
        exact ⟨(s8,n4,c5,z6,false,(wrapF .i64 (Int.add z7 (1:Int))),z8,s9,q5),hm,(.k [1] [] [.tmp 2 false,.tmp 7 false] [1,2,7,8,9,10] ⟨trF h10,trivial⟩)⟩
      ·refine .ifF (ilt z7 (Int.ofNat (Sl.n s8))) (by kernel_rfl) h11 ?_
       refine .exit ?_
       exact ⟨(s8,n4,c5,z6,b2,z8,s9,q5),hm,(.k [1] [] [.tmp 2 false,.tmp 7 false] [1,2,7,8,9] ⟨trF h10,trivial⟩)⟩
   ·refine .ifF (ilt z0 z1) (by kernel_rfl) h3 ?_
    refine .exit ?_
    exact ⟨(n1,c1,q2),hm,(.k [1] [] [.tmp 7 false] [7] ⟨trF h2,trivial⟩)⟩

def m61_ (pu:PureF) (n:Nat) (x0:Int) (s0:Sl):OV:=
 (oo (pu 25 [(.agg ⟨[.int .i64 x0,Sl.v 1 s0]⟩)]) none fun v0=>(oo (toI .i64 v0) none fun x1=>(bb (nt (ieq x1 (0:Int))) (some (.tuple ⟨[(.agg ⟨[(.int .i64 (0:Int)),(.int .u32 (0:Int))]⟩),.int .i64 x1]⟩)) (oo (pu 96 [.int .i64 x0,Sl.v 1 s0]) none fun v1=>(oo (vAgg v1) none fun l0=>(ll l0 none fun v2 l0=>(ll l0 none fun v3 l0=>(ll l0 (oo (toI .i64 v2) none fun x2=>(oo (toI .u32 v3) none fun x3=>(some (.tuple ⟨[(.agg ⟨[.int .i64 x2,.int .u32 x3]⟩),(.int .i64 (0:Int))]⟩)))) fun _ _=>none))))))))
def m61 (pu:PureF) (n:Nat) (args:LV):OV:=
 (ll args none fun a0 args=>(ll args (oo (vAgg a0) none fun l0=>(ll l0 none fun v0 l0=>(ll l0 none fun v1 l0=>(ll l0 (oo (toI .i64 v0) none fun x0=>(oo (toSl 1 v1) none fun s0=>(m61_ pu n x0 s0))) fun _ _=>none)))) fun _ _=>none))
theorem r61 {call:CallF} (pu:PureF) (n:Nat) (hcall:call = callP tabs isP pu (inl pu)) {args:LV} {v:Value} (hm:m61 pu n args = some v) (_:∀ x ∈ args,closed2 x = true):args.length≤16∧Run tt call 0 c61_11 (Fr.made 16 args) (pureHeap tabs) (Fin tt 0 [.cell 2 92,.tmp 3] v):=by
 subst hcall
 unfold m61 at hm
 replace hm:=ll_uncons hm;obtain ⟨a0,args_0,rfl,hm⟩:=hm
 replace hm:=ll_end hm;obtain ⟨rfl,hm⟩:=hm
 replace hm:=inv_vAgg hm;obtain ⟨l0,rfl,hm⟩:=hm
 replace hm:=ll_uncons hm;obtain ⟨v0,l4283_0,rfl,hm⟩:=hm
 replace hm:=ll_uncons hm;obtain ⟨v1,l4283_1,rfl,hm⟩:=hm
 replace hm:=ll_end hm;obtain ⟨rfl,hm⟩:=hm
 replace hm:=inv_toI hm;obtain ⟨x0,rfl,hm⟩:=hm
 replace hm:=inv_toSl hm;obtain ⟨s0,rfl,hm⟩:=hm
 unfold m61_ at hm
 refine ⟨by simp,?_⟩
 refine .same (F':=(fr 16 [(0,(.agg ⟨[zI x0,Sl.v 1 s0]⟩))])) (H':=(hp 0 [])) (by kernel_rfl) (by kernel_rfl) ?_
 refine .then (.rK ?_)
 refine .ghs (fr 16 [(1,(pt 0 0)),(2,pt 1 0)]) (hp 2 [(oC [zI x0,Sl.v 1 s0]),(oC [(zI (0:Int)),(.int .u32 (0:Int))])]) (.k0 [] [.tmp 1 false,.tmp 2 false] [1,2]) ?_
 refine .then ?_
 refine .then ?_
 replace hm:=oo_inv hm;obtain ⟨v2,h0,hm⟩:=hm
 replace hm:=inv_toI hm;obtain ⟨x1,rfl,hm⟩:=hm
 refine .reg (eC 1 ((oo (pu 25 [(.agg ⟨[zI x0,Sl.v 1 s0]⟩)]) none fun v=>some (v,(hp 2 [(oC [zI x0,Sl.v 1 s0]),(oC [(zI (0:Int)),(.int .u32 (0:Int))])])))) (call_eq h0) (eE)) ?_
 refine .ghs (fr 16 [(1,(pt 0 0)),(2,pt 1 0),(4,zI x1)]) (hp 2 [(oC [zI x0,Sl.v 1 s0]),(oC [(zI (0:Int)),(.int .u32 (0:Int))])]) (.k0 [] [.tmp 1 false,.tmp 2 false] [1,2,4]) ?_
 refine .then (.rK ?_)
 refine .ghs (fr 16 [(1,(pt 0 0)),(2,pt 1 0),(4,zI x1),(8,(zB (nt (ieq x1 (0:Int)))))]) (hp 2 [(oC [zI x0,Sl.v 1 s0]),(oC [(zI (0:Int)),(.int .u32 (0:Int))])]) (.k0 [] [.tmp 1 false,.tmp 2 false] [1,2,4,8]) ?_
 replace hm:=bb_cases hm;rcases hm with ⟨h1,hm⟩ | ⟨h1,hm⟩
 ·refine .ifT (nt (ieq x1 (0 : Int))) (by kernel_rfl) h1 ?_
  refine .then (.rK ?_)
  refine .ghs (fr 16 [(2,(pt 0 0)),(3,zI x1)]) (hp 1 [(oC [(zI (0:Int)),(.int .u32 (0:Int))])]) (.k0 [] [.tmp 2 false] [2,3]) ?_
  refine .ret ?_
  exact fin_ret (.tuple ⟨[(.agg ⟨[(zI (0:Int)),(.int .u32 (0:Int))]⟩),zI x1]⟩) (by kernel_rfl) (by kernel_rfl) hm
 ·refine .ifF (nt (ieq x1 (0 : Int))) (by kernel_rfl) h1 ?_
  refine .skip ?_
  refine .ghs (fr 16 [(1,(pt 0 0)),(2,pt 1 0)]) (hp 2 [(oC [zI x0,Sl.v 1 s0]),(oC [(zI (0:Int)),(.int .u32 (0:Int))])]) (.k0 [] [.tmp 1 false,.tmp 2 false] [1,2]) ?_
  refine .then ?_
  replace hm:=oo_inv hm;obtain ⟨v3,h2,hm⟩:=hm
  replace hm:=inv_vAgg hm;obtain ⟨l1,rfl,hm⟩:=hm
  replace hm:=ll_uncons hm;obtain ⟨v4,l4312_0,rfl,hm⟩:=hm
  replace hm:=ll_uncons hm;obtain ⟨v5,l4312_1,rfl,hm⟩:=hm
  replace hm:=ll_end hm;obtain ⟨rfl,hm⟩:=hm
  replace hm:=inv_toI hm;obtain ⟨x2,rfl,hm⟩:=hm
  replace hm:=inv_toI hm;obtain ⟨x3,rfl,hm⟩:=hm
  refine .reg (eC 4 ((oo (pu 96 [zI x0,Sl.v 1 s0]) none fun v=>some (v,(hp 2 [(oC [zI x0,Sl.v 1 s0]),(oC [(zI (0:Int)),(.int .u32 (0:Int))])])))) (call_eq h2) (eE)) ?_
  refine .ghs (fr 16 [(2,(pt 0 0)),(3,(zI (0:Int)))]) (hp 1 [(oC [zI x2,.int .u32 x3])]) (.k0 [] [.tmp 2 false] [2,3]) ?_
  refine .ret ?_
  exact fin_ret (.tuple ⟨[(.agg ⟨[zI x2,.int .u32 x3]⟩),(zI (0:Int))]⟩) (by kernel_rfl) (by kernel_rfl) hm
def m63_0 (pu:PureF) (n:Nat):OV:=
 (some (.bool false))
def b63_1 (pu:PureF) (n:Nat) (ih0:Int→Int→Int→Sl→OV) (z0 z1 z2:Int) (s0:Sl):OV:=
 (bb (ilt z1 (Int.ofNat (Sl.n s0))) (oo (toN z1) none fun k1=>(bb (an (Nat.blt k1 (Sl.n s0)) true) (oo (nthL (Sl.cs s0) (k1 * 1)) none fun v0=>(oo (toI .i64 v0) none fun x0=>(bb (ieq x0 z0) (some (.bool true)) (ih0 z0 (wrapF .i64 (Int.add (Int.ofNat k1) (1:Int))) z2 s0)))) none)) (m63_0 pu n))
def l63_1 (pu:PureF) (n w:Nat):Int→Int→Int→Sl→OV:=
 Nat.rec (motive:=fun _=>Int→Int→Int→Sl→OV) (fun _ _ _ _=>none) (fun _ ih0=>b63_1 pu n ih0) w
def m63_ (pu:PureF) (n:Nat) (x0:Int) (s0:Sl) (x1:Int):OV:=
 (l63_1 pu n n x1 (0:Int) x0 s0)
def m63 (pu:PureF) (n:Nat) (args:LV):OV:=
 (ll args none fun a0 args=>(ll args none fun a1 args=>(ll args (oo (vAgg a0) none fun l0=>(ll l0 none fun v0 l0=>(ll l0 none fun v1 l0=>(ll l0 (oo (toI .i64 v0) none fun x0=>(oo (toSl 1 v1) none fun s0=>(oo (toI .i64 a1) none fun x1=>(m63_ pu n x0 s0 x1)))) fun _ _=>none)))) fun _ _=>none)))
theorem w63_0 (pu:PureF) (n:Nat) {v:Value} (hm:m63_0 pu n = some v):Run tt (callP tabs isP pu (inl pu)) 0 c63_18 (fr 20 []) (hp 0 []) (Fin tt 0 [.tmp 4] v):=by
 unfold m63_0 at hm
 refine .then (.rK ?_)
 refine .ghs (fr 20 [(4,zB false)]) (hp 0 []) (.k0 [] [] [4]) ?_
 refine .ret ?_
 exact fin_ret (zB false) (by kernel_rfl) (by kernel_rfl) hm
theorem r63 {call:CallF} (pu:PureF) (n:Nat) (hcall:call = callP tabs isP pu (inl pu)) {args:LV} {v:Value} (hm:m63 pu n args = some v) (_:∀ x ∈ args,closed2 x = true):args.length≤20∧Run tt call 0 c63_20 (Fr.made 20 args) (pureHeap tabs) (Fin tt 0 [.tmp 4] v):=by
 subst hcall
 unfold m63 at hm
 replace hm:=ll_uncons hm;obtain ⟨a0,args_0,rfl,hm⟩:=hm
 replace hm:=ll_uncons hm;obtain ⟨a1,args_1,rfl,hm⟩:=hm
 replace hm:=ll_end hm;obtain ⟨rfl,hm⟩:=hm
 replace hm:=inv_vAgg hm;obtain ⟨l0,rfl,hm⟩:=hm
 replace hm:=ll_uncons hm;obtain ⟨v0,l4320_0,rfl,hm⟩:=hm
 replace hm:=ll_uncons hm;obtain ⟨v1,l4320_1,rfl,hm⟩:=hm
 replace hm:=ll_end hm;obtain ⟨rfl,hm⟩:=hm
 replace hm:=inv_toI hm;obtain ⟨x0,rfl,hm⟩:=hm
 replace hm:=inv_toSl hm;obtain ⟨s0,rfl,hm⟩:=hm
 replace hm:=inv_toI hm;obtain ⟨x1,rfl,hm⟩:=hm
 unfold m63_ at hm
 refine ⟨by simp,?_⟩
 refine .same (F':=(fr 20 [(0,(.agg ⟨[zI x0,Sl.v 1 s0]⟩)),(1,zI x1)])) (H':=(hp 0 [])) (by kernel_rfl) (by kernel_rfl) ?_
 refine .then (.rK ?_)
 refine .ghs (fr 20 [(1,zI x1),(2,(pt 0 0))]) (hp 1 [(oC [zI x0,Sl.v 1 s0])]) (.k0 [] [.tmp 2 false] [1,2]) ?_
 refine .join (v:=v) (fun y:Unit=>((fr 20 []),(hp 0 []))) (fun y=>m63_0 pu n) ?_ ?_
 ·rintro _ hm
  exact w63_0 pu n hm
 ·refine .then (.rK ?_)
  refine .ghs (fr 20 [(1,zI x1),(2,(pt 0 0)),(5,(zI (0:Int)))]) (hp 1 [(oC [zI x0,Sl.v 1 s0])]) (.k0 [] [.tmp 2 false] [1,2,5]) ?_
  refine .block ?_
  refine .loopM (v:=v) (fun y:Int×Int×Int×Sl=>((fr 20 [(1,(zI y.1)),(2,(pt 0 0)),(5,(zI y.2.1))]),(hp 1 [(oC [(zI y.2.2.1),(Sl.v 1 y.2.2.2)])]))) (fun w y=>l63_1 pu n w y.1 y.2.1 y.2.2.1 y.2.2.2) n ⟨(x1,(0:Int),x0,s0),hm,(.k0 [] [.tmp 2 false] [1,2,5])⟩ (fun _=>rfl) ?_
  rintro w0 ⟨z0,z1,z2,s1⟩ hm
  replace hm:b63_1 pu n (l63_1 pu n w0) z0 z1 z2 s1 = some v:=hm
  unfold b63_1 at hm
  refine .then ?_
  refine .then (.rK ?_)
  refine .ghs (fr 20 [(1,zI z0),(2,(pt 0 0)),(5,zI z1),(10,(zB (ilt z1 (Int.ofNat (Sl.n s1)))))]) (hp 1 [(oC [zI z2,Sl.v 1 s1])]) (.k0 [] [.tmp 2 false] [1,2,5,10]) ?_
  replace hm:=bb_cases hm;rcases hm with ⟨h0,hm⟩ | ⟨h0,hm⟩
  ·refine .ifT (ilt z1 (Int.ofNat (Sl.n s1))) (by kernel_rfl) h0 ?_
   refine .skip ?_
   refine .ghs (fr 20 [(1,zI z0),(2,(pt 0 0)),(5,zI z1)]) (hp 1 [(oC [zI z2,Sl.v 1 s1])]) (.k0 [] [.tmp 2 false] [1,2,5]) ?_
   refine .then ?_
   refine .block ?_
   refine .then ?_
   replace hm:=oo_inv hm;obtain ⟨k1,h1,hm⟩:=hm
   obtain rfl:=toN_some h1
   replace hm:=bb_inv hm;obtain ⟨h2,hm⟩:=hm
   replace hm:=oo_inv hm;obtain ⟨v2,h3,hm⟩:=hm
   replace hm:=inv_toI hm;obtain ⟨x2,rfl,hm⟩:=hm
   refine .reg (eC 3 (keep (hp 1 [(oC [zI z2,Sl.v 1 s1])]) (bb (an (Nat.blt k1 (Sl.n s1)) true) (some (fpV (k1 * 1) (Sl.cs s1))) none)) (keep_bb h2) (eD (keep (hp 1 [(oC [zI z2,Sl.v 1 s1])]) (nthL (Sl.cs s1) (k1 * 1))) (keep_eq h3) (eE))) ?_
   refine .ghs (fr 20 [(1,zI z0),(2,(pt 0 0)),(5,(zI (Int.ofNat k1))),(19,(zB (ieq x2 z0)))]) (hp 1 [(oC [zI z2,Sl.v 1 s1])]) (.k0 [] [.tmp 2 false] [1,2,5,19]) ?_
   replace hm:=bb_cases hm;rcases hm with ⟨h4,hm⟩ | ⟨h4,hm⟩
   ·refine .ifT (ieq x2 z0) (by kernel_rfl) h4 ?_
    refine .then (.rK ?_)
    refine .ghs (fr 20 [(4,zB true)]) (hp 0 []) (.k0 [] [] [4]) ?_
    refine .ret ?_
    exact fin_ret (zB true) (by kernel_rfl) (by kernel_rfl) hm
   ·refine .ifF (ieq x2 z0) (by kernel_rfl) h4 ?_
    refine .skip ?_
    refine .ghs (fr 20 [(1,zI z0),(2,(pt 0 0)),(5,(zI (Int.ofNat k1)))]) (hp 1 [(oC [zI z2,Sl.v 1 s1])]) (.k0 [] [.tmp 2 false] [1,2,5]) ?_
    refine .rK ?_
    exact ⟨(z0,(wrapF .i64 (Int.add (Int.ofNat k1) (1:Int))),z2,s1),hm,(.k0 [] [.tmp 2 false] [1,2,5])⟩
  ·refine .ifF (ilt z1 (Int.ofNat (Sl.n s1))) (by kernel_rfl) h0 ?_
   refine .exit ?_
   exact ⟨(),hm,(.k0 [] [] [])⟩
def m64_0 (pu:PureF) (n:Nat) (z0:Int):OV:=
 (some (.int .i64 z0))
def m64_ (pu:PureF) (n:Nat) (x0 x1:Int):OV:=
 (bb (nt (ieq x1 (0:Int))) (bb (ilt (Int.tmod x0 x1) (0:Int)) (m64_0 pu n (wrapF .i64 (Int.add (Int.tmod x0 x1) x1))) (m64_0 pu n (Int.tmod x0 x1))) none)
def m64 (pu:PureF) (n:Nat) (args:LV):OV:=
 (ll args none fun a0 args=>(ll args none fun a1 args=>(ll args (oo (toI .i64 a0) none fun x0=>(oo (toI .i64 a1) none fun x1=>(m64_ pu n x0 x1))) fun _ _=>none)))
theorem w64_0 (pu:PureF) (n:Nat) (z0:Int) {v:Value} (hm:m64_0 pu n z0 = some v):Run tt (callP tabs isP pu (inl pu)) 0 c64_7 (fr 14 [(0,zI z0)]) (hp 0 []) (Fin tt 0 [.tmp 4] v):=by
 unfold m64_0 at hm
 refine .then (.rK ?_)
 refine .ghs (fr 14 [(4,zI z0)]) (hp 0 []) (.k0 [] [] [4]) ?_
 refine .ret ?_
 exact fin_ret (zI z0) (by kernel_rfl) (by kernel_rfl) hm
theorem r64 {call:CallF} (pu:PureF) (n:Nat) (hcall:call = callP tabs isP pu (inl pu)) {args:LV} {v:Value} (hm:m64 pu n args = some v) (_:∀ x ∈ args,closed2 x = true):args.length≤14∧Run tt call 0 c64_10 (Fr.made 14 args) (pureHeap tabs) (Fin tt 0 [.tmp 4] v):=by
 subst hcall
 unfold m64 at hm
 replace hm:=ll_uncons hm;obtain ⟨a0,args_0,rfl,hm⟩:=hm
 replace hm:=ll_uncons hm;obtain ⟨a1,args_1,rfl,hm⟩:=hm
 replace hm:=ll_end hm;obtain ⟨rfl,hm⟩:=hm
 replace hm:=inv_toI hm;obtain ⟨x0,rfl,hm⟩:=hm
 replace hm:=inv_toI hm;obtain ⟨x1,rfl,hm⟩:=hm
 unfold m64_ at hm
 refine ⟨by simp,?_⟩
 refine .same (F':=(fr 14 [(0,zI x0),(1,zI x1)])) (H':=(hp 0 [])) (by kernel_rfl) (by kernel_rfl) ?_
 refine .then (.rK ?_)
 refine .ghs (fr 14 [(0,zI x0),(1,zI x1)]) (hp 0 []) (.k0 [] [] [0,1]) ?_
 refine .then ?_
 replace hm:=bb_inv hm;obtain ⟨h0,hm⟩:=hm
 refine .reg (eC 2 (keep (hp 0 []) (bb (ieq x1 (0:Int)) none (some (zI (Int.tmod x0 x1))))) (keep_nb h0) (eE)) ?_
 refine .ghs (fr 14 [(0,(zI (Int.tmod x0 x1))),(1,zI x1)]) (hp 0 []) (.k0 [] [] [0,1]) ?_
 refine .join (v:=v) (fun y:Int=>((fr 14 [(0,zI y)]),(hp 0 []))) (fun y=>m64_0 pu n y) ?_ ?_
 ·rintro z0 hm
  exact w64_0 pu n z0 hm
 ·refine .then (.rK ?_)
  refine .ghs (fr 14 [(0,(zI (Int.tmod x0 x1))),(1,zI x1),(9,(zB (ilt (Int.tmod x0 x1) (0:Int))))]) (hp 0 []) (.k0 [] [] [0,1,9]) ?_
  replace hm:=bb_cases hm;rcases hm with ⟨h1,hm⟩ | ⟨h1,hm⟩
  ·refine .ifT (ilt (Int.tmod x0 x1) (0 : Int)) (by kernel_rfl) h1 ?_
   refine .rK ?_
   exact ⟨(wrapF .i64 (Int.add (Int.tmod x0 x1) x1)),hm,(.k0 [] [] [0])⟩
  ·refine .ifF (ilt (Int.tmod x0 x1) (0 : Int)) (by kernel_rfl) h1 ?_
   refine .skip ?_
   exact ⟨(Int.tmod x0 x1),hm,(.k0 [] [] [0])⟩

def m65_ (pu:PureF) (n:Nat) (x0 x1 x2:Int):OV:=
 (oo (toN x0) none fun k1=>(oo (toN x2) none fun k2=>(oo (toN (wrapF .i64 (Int.sub (Int.ofNat k1) (Int.ofNat k2)))) none fun k3=>(some (.agg ⟨[(.int .i64 (Int.ofNat k1)),(.int .u32 (aand .u32 (aor .u32 (shlI .u32 x1 k2) (shrI .u32 x1 k3)) (wrapF .u32 (Int.sub (shlI .u32 (1:Int) k1) (1:Int)))))]⟩)))))
def m65 (pu:PureF) (n:Nat) (args:LV):OV:=
 (ll args none fun a0 args=>(ll args none fun a1 args=>(ll args (oo (vAgg a0) none fun l0=>(ll l0 none fun v0 l0=>(ll l0 none fun v1 l0=>(ll l0 (oo (toI .i64 v0) none fun x0=>(oo (toI .u32 v1) none fun x1=>(oo (toI .i64 a1) none fun x2=>(m65_ pu n x0 x1 x2)))) fun _ _=>none)))) fun _ _=>none)))
theorem r65 {call:CallF} (pu:PureF) (n:Nat) (hcall:call = callP tabs isP pu (inl pu)) {args:LV} {v:Value} (hm:m65 pu n args = some v) (_:∀ x ∈ args,closed2 x = true):args.length≤26∧Run tt call 0 c65_7 (Fr.made 26 args) (pureHeap tabs) (Fin tt 0 [.cell 4 92] v):=by
 subst hcall
 unfold m65 at hm
 replace hm:=ll_uncons hm;obtain ⟨a0,args_0,rfl,hm⟩:=hm
 replace hm:=ll_uncons hm;obtain ⟨a1,args_1,rfl,hm⟩:=hm
 replace hm:=ll_end hm;obtain ⟨rfl,hm⟩:=hm
 replace hm:=inv_vAgg hm;obtain ⟨l0,rfl,hm⟩:=hm
 replace hm:=ll_uncons hm;obtain ⟨v0,l4379_0,rfl,hm⟩:=hm
 replace hm:=ll_uncons hm;obtain ⟨v1,l4379_1,rfl,hm⟩:=hm
 replace hm:=ll_end hm;obtain ⟨rfl,hm⟩:=hm
 replace hm:=inv_toI hm;obtain ⟨x0,rfl,hm⟩:=hm
 replace hm:=inv_toI hm;obtain ⟨x1,rfl,hm⟩:=hm
 replace hm:=inv_toI hm;obtain ⟨x2,rfl,hm⟩:=hm
 unfold m65_ at hm
 refine ⟨by simp,?_⟩
 refine .same (F':=(fr 26 [(0,(.agg ⟨[zI x0,.int .u32 x1]⟩)),(1,zI x2)])) (H':=(hp 0 [])) (by kernel_rfl) (by kernel_rfl) ?_
 refine .then (.rK ?_)
 refine .ghs (fr 26 [(1,zI x2),(2,(pt 0 0)),(4,pt 1 0)]) (hp 2 [(oC [zI x0,.int .u32 x1]),(oC [(zI (0:Int)),(.int .u32 (0:Int))])]) (.k0 [] [.tmp 2 false,.tmp 4 false] [1,2,4]) ?_
 refine .then ?_
 replace hm:=oo_inv hm;obtain ⟨k1,h0,hm⟩:=hm
 obtain rfl:=toN_some h0
 refine .rK ?_
 refine .ghs (fr 26 [(1,zI x2),(2,(pt 0 0)),(4,pt 1 0),(5,(.int .u32 (wrapF .u32 (Int.sub (shlI .u32 (1:Int) k1) (1:Int)))))]) (hp 2 [(oC [(zI (Int.ofNat k1)),.int .u32 x1]),(oC [(zI (0:Int)),(.int .u32 (0:Int))])]) (.k0 [] [.tmp 2 false,.tmp 4 false] [1,2,4,5]) ?_
 refine .then ?_
 replace hm:=oo_inv hm;obtain ⟨k2,h1,hm⟩:=hm
 obtain rfl:=toN_some h1
 replace hm:=oo_inv hm;obtain ⟨k3,h2,hm⟩:=hm
 refine .reg (eC 9 (some ((zI (wrapF .i64 (Int.sub (Int.ofNat k1) (Int.ofNat k2)))),(hp 2 [(oC [(zI (Int.ofNat k1)),.int .u32 x1]),(oC [(zI (0:Int)),(.int .u32 (0:Int))])]))) (show _ = some ((zI (Int.ofNat k3)),_) from (by rw [toN_some h2])) (eE)) ?_
 refine .ghs (fr 26 [(2,(pt 0 0)),(4,pt 1 0)]) (hp 2 [(oC [(zI (Int.ofNat k1)),(.int .u32 (aand .u32 (aor .u32 (shlI .u32 x1 k2) (shrI .u32 x1 k3)) (wrapF .u32 (Int.sub (shlI .u32 (1:Int) k1) (1:Int)))))]),(oC [(zI (0:Int)),(.int .u32 (0:Int))])]) (.k0 [] [.tmp 2 false,.tmp 4 false] [2,4]) ?_
 refine .then (.rK ?_)
 refine .ghs (fr 26 [(4,(pt 0 0))]) (hp 1 [(oC [(zI (Int.ofNat k1)),(.int .u32 (aand .u32 (aor .u32 (shlI .u32 x1 k2) (shrI .u32 x1 k3)) (wrapF .u32 (Int.sub (shlI .u32 (1:Int) k1) (1:Int)))))])]) (.k0 [] [.tmp 4 false] [4]) ?_
 refine .ret ?_
 exact fin_ret (.agg ⟨[(zI (Int.ofNat k1)),(.int .u32 (aand .u32 (aor .u32 (shlI .u32 x1 k2) (shrI .u32 x1 k3)) (wrapF .u32 (Int.sub (shlI .u32 (1:Int) k1) (1:Int)))))]⟩) (by kernel_rfl) (by kernel_rfl) hm
def m73_0 (pu:PureF) (n:Nat) (b0:Bool):OV:=
 (some (.bool b0))
def m73_ (pu:PureF) (n:Nat) (x0 x1 x2:Int):OV:=
 (bb (nt (ilt x0 x1)) (m73_0 pu n (nt (ilt x2 x0))) (m73_0 pu n false))
def m73 (pu:PureF) (n:Nat) (args:LV):OV:=
 (ll args none fun a0 args=>(ll args none fun a1 args=>(ll args none fun a2 args=>(ll args (oo (toI .i64 a0) none fun x0=>(oo (toI .i64 a1) none fun x1=>(oo (toI .i64 a2) none fun x2=>(m73_ pu n x0 x1 x2)))) fun _ _=>none))))
theorem w73_0 (pu:PureF) (n:Nat) (b0:Bool) {v:Value} (hm:m73_0 pu n b0 = some v):Run tt (callP tabs isP pu (inl pu)) 0 .ret (fr 15 [(6,zB b0)]) (hp 0 []) (Fin tt 0 [.tmp 6] v):=by
 unfold m73_0 at hm
 refine .ret ?_
 exact fin_ret (zB b0) (by kernel_rfl) (by kernel_rfl) hm
theorem r73 {call:CallF} (pu:PureF) (n:Nat) (hcall:call = callP tabs isP pu (inl pu)) {args:LV} {v:Value} (hm:m73 pu n args = some v) (_:∀ x ∈ args,closed2 x = true):args.length≤15∧Run tt call 0 c73_3 (Fr.made 15 args) (pureHeap tabs) (Fin tt 0 [.tmp 6] v):=by
 subst hcall
 unfold m73 at hm
 replace hm:=ll_uncons hm;obtain ⟨a0,args_0,rfl,hm⟩:=hm
 replace hm:=ll_uncons hm;obtain ⟨a1,args_1,rfl,hm⟩:=hm
 replace hm:=ll_uncons hm;obtain ⟨a2,args_2,rfl,hm⟩:=hm
 replace hm:=ll_end hm;obtain ⟨rfl,hm⟩:=hm
 replace hm:=inv_toI hm;obtain ⟨x0,rfl,hm⟩:=hm
 replace hm:=inv_toI hm;obtain ⟨x1,rfl,hm⟩:=hm
 replace hm:=inv_toI hm;obtain ⟨x2,rfl,hm⟩:=hm
 unfold m73_ at hm
 refine ⟨by simp,?_⟩
 refine .same (F':=(fr 15 [(0,zI x0),(1,zI x1),(2,zI x2)])) (H':=(hp 0 [])) (by kernel_rfl) (by kernel_rfl) ?_
 refine .then (.rK ?_)
 refine .ghs (fr 15 [(0,zI x0),(1,zI x1),(2,zI x2)]) (hp 0 []) (.k0 [] [] [0,1,2]) ?_
 refine .join (v:=v) (fun y:Bool=>((fr 15 [(6,zB y)]),(hp 0 []))) (fun y=>m73_0 pu n y) ?_ ?_
 ·rintro b0 hm
  exact w73_0 pu n b0 hm
 ·replace hm := bb_cases hm; rcases hm with ⟨h0, hm⟩ | ⟨h0, hm⟩
  ·refine .reg (eC 2 (some ((zB (nt (ilt x0 x1))), (hp 0 []))) (show _ = some ((zB true), _) from (by rw [h0])) (eE)) ?_
   exact ⟨(nt (ilt x2 x0)),hm,(.k0 [] [] [6])⟩
  ·refine .reg (eC 2 (some ((zB (nt (ilt x0 x1))), (hp 0 []))) (show _ = some ((zB false), _) from (by rw [h0])) (eE)) ?_
   exact ⟨false,hm,(.k0 [] [] [6])⟩
def m75_0 (pu:PureF) (n n0 c0:Nat) (q1:LV):OV:=
 (bb (allL closed1 q1) (bb (an (Nat.ble (0 + n0 * 1) (len q1)) (allL closed1 (takeL (n0 * 1) (dropL 0 q1)))) (some (Sl.v 1 (Sl.mk n0 0 (takeL (n0 * 1) (dropL 0 q1))))) none) none)
def m75_2 (pu:PureF) (n:Nat) (ih0:Nat→Nat→Int→Int→Sl→LV→OV) (n0 c0:Nat) (z0 z1:Int) (s0:Sl) (q1:LV):OV:=
 (bb (allL closed1 q1) (ih0 n0 c0 (wrapF .i64 (Int.add z0 (1:Int))) z1 s0 q1) none)
def m75_3 (pu:PureF) (n:Nat) (ih0:Nat→Nat→Int→Int→Sl→LV→OV) (n0 c0:Nat) (z0 z1 z2:Int) (s0:Sl) (q1:LV):OV:=
 (bb (growC 1 8 n0 c0 1 q1) (bb (allL closed1 (appL (dropL 0 q1) [.int .i64 z1])) (m75_2 pu n ih0 (n0 + 1) (2 * (n0 + 1) + bb false 1 0) z0 z2 s0 (appL (dropL 0 q1) [.int .i64 z1])) none) none)
def m75_5 (pu:PureF) (n:Nat) (ih0:Nat→Nat→Int→Int→Sl→LV→OV) (ih1:Nat→Nat→Int→Int→Int→Int→Sl→LV→OV) (n0 c0:Nat) (z0 z1 z2 z3:Int) (s0:Sl) (q1:LV):OV:=
 (bb (allL closed1 q1) (ih1 n0 c0 z0 z1 (wrapF .i64 (Int.add z2 (1:Int))) z3 s0 q1) none)
def b75_4 (pu:PureF) (n:Nat) (ih0:Nat→Nat→Int→Int→Sl→LV→OV) (ih1:Nat→Nat→Int→Int→Int→Int→Sl→LV→OV) (n0 c0:Nat) (z0 z1 z2 z3:Int) (s0:Sl) (q1:LV):OV:=
 (bb (allL closed1 q1) (bb (ilt z2 (Int.ofNat (Sl.n s0))) (oo (toN z2) none fun k1=>(bb (an (Nat.blt k1 (Sl.n s0)) true) (oo (nthL (Sl.cs s0) (k1 * 1)) none fun v0=>(oo (toI .i64 v0) none fun x0=>(oo (pu 64 [(.int .i64 (wrapF .i64 (Int.add x0 z0))),.int .i64 z3]) none fun v1=>(oo (toI .i64 v1) none fun x1=>(oo (pu 63 [(.agg ⟨[.int .i64 z3,Sl.v 1 s0]⟩),.int .i64 x1]) none fun v2=>(oo (vBool v2) none fun b0=>(bb b0 (m75_5 pu n ih0 ih1 n0 c0 z0 (wrapF .i64 (Int.add z1 (1:Int))) (Int.ofNat k1) z3 s0 q1) (m75_5 pu n ih0 ih1 n0 c0 z0 z1 (Int.ofNat k1) z3 s0 q1)))))))) none)) (m75_3 pu n ih0 n0 c0 z0 z1 z3 s0 q1)) none)
def l75_4 (pu:PureF) (n:Nat) (ih0:Nat→Nat→Int→Int→Sl→LV→OV) (w:Nat):Nat→Nat→Int→Int→Int→Int→Sl→LV→OV:=
 Nat.rec (motive:=fun _=>Nat→Nat→Int→Int→Int→Int→Sl→LV→OV) (fun _ _ _ _ _ _ _ _=>none) (fun _ ih1=>b75_4 pu n ih0 ih1) w
def b75_1 (pu:PureF) (n:Nat) (ih0:Nat→Nat→Int→Int→Sl→LV→OV) (n0 c0:Nat) (z0 z1:Int) (s0:Sl) (q1:LV):OV:=
 (bb (allL closed1 q1) (bb (ilt z0 z1) (l75_4 pu n ih0 n n0 c0 z0 (0:Int) (0:Int) z1 s0 q1) (m75_0 pu n n0 c0 q1)) none)
def l75_1 (pu:PureF) (n w:Nat):Nat→Nat→Int→Int→Sl→LV→OV:=
 Nat.rec (motive:=fun _=>Nat→Nat→Int→Int→Sl→LV→OV) (fun _ _ _ _ _ _=>none) (fun _ ih0=>b75_1 pu n ih0) w
def m75_ (pu:PureF) (n:Nat) (x0:Int) (s0:Sl):OV:=
 (l75_1 pu n n 0 0 (1:Int) x0 s0 ([]:LV))
def m75 (pu:PureF) (n:Nat) (args:LV):OV:=
 (ll args none fun a0 args=>(ll args (oo (vAgg a0) none fun l0=>(ll l0 none fun v0 l0=>(ll l0 none fun v1 l0=>(ll l0 (oo (toI .i64 v0) none fun x0=>(oo (toSl 1 v1) none fun s0=>(m75_ pu n x0 s0))) fun _ _=>none)))) fun _ _=>none))
theorem w75_0 (pu:PureF) (n n0 c0:Nat) (q1:LV) {v:Value} (hm:m75_0 pu n n0 c0 q1 = some v):Run tt (callP tabs isP pu (inl pu)) 0 c75_33 (fr 39 [(3,sc 0 0 1 n0 c0)]) (hp 1 [oC q1]) (Fin tt 0 [.tmp 2] v):=by
 unfold m75_0 at hm
 refine .then (.rK ?_)
 replace hm:=bb_inv hm;obtain ⟨h0,hm⟩:=hm
 refine .ghs (fr 39 [(2,sc 0 0 1 n0 c0)]) (hp 1 [oC q1]) (.k [0] [] [.tmp 2 false] [2] ⟨trF h0,trivial⟩) ?_
 replace hm:=bb_inv hm;obtain ⟨h1,hm⟩:=hm
 refine .ghs (Fr.puts (fr 39 [(2,sc 0 0 1 n0 c0)]) [(2,(Sl.v 1 (Sl.mk n0 0 (takeL (n0 * 1) (dropL 0 q1)))))]) (hp 1 [.dead]) (.freezeC 0 2 1 (an (Nat.ble (0 + n0 * 1) (len q1)) (allL closed1 (takeL (n0 * 1) (dropL 0 q1)))) (F1:=(Fr.puts (fr 39 [(2,sc 0 0 1 n0 c0)]) [(2,(Sl.v 1 (Sl.mk n0 0 (takeL (n0 * 1) (dropL 0 q1)))))])) (H1:=(hp 1 [.dead])) (by kernel_rfl) (by kernel_rfl) h1 (GhS.id _ _)) ?_
 refine .ret ?_
 exact fin_ret (Sl.v 1 (Sl.mk n0 0 (takeL (n0 * 1) (dropL 0 q1)))) (by kernel_rfl) (by kernel_rfl) hm
theorem r75 {call:CallF} (pu:PureF) (n:Nat) (hcall:call = callP tabs isP pu (inl pu)) {args:LV} {v:Value} (hm:m75 pu n args = some v) (_:∀ x ∈ args,closed2 x = true):args.length≤39∧Run tt call 0 c75_36 (Fr.made 39 args) (pureHeap tabs) (Fin tt 0 [.tmp 2] v):=by
 subst hcall
 unfold m75 at hm
 replace hm:=ll_uncons hm;obtain ⟨a0,args_0,rfl,hm⟩:=hm
 replace hm:=ll_end hm;obtain ⟨rfl,hm⟩:=hm
 replace hm:=inv_vAgg hm;obtain ⟨l0,rfl,hm⟩:=hm
 replace hm:=ll_uncons hm;obtain ⟨v0,l4412_0,rfl,hm⟩:=hm
 replace hm:=ll_uncons hm;obtain ⟨v1,l4412_1,rfl,hm⟩:=hm
 replace hm:=ll_end hm;obtain ⟨rfl,hm⟩:=hm
 replace hm:=inv_toI hm;obtain ⟨x0,rfl,hm⟩:=hm
 replace hm:=inv_toSl hm;obtain ⟨s0,rfl,hm⟩:=hm
 unfold m75_ at hm
 refine ⟨by simp,?_⟩
 refine .same (F':=(fr 39 [(0,(.agg ⟨[zI x0,Sl.v 1 s0]⟩))])) (H':=(hp 0 [])) (by kernel_rfl) (by kernel_rfl) ?_
 refine .then (.rK ?_)
 refine .ghs (fr 39 [(1,(pt 0 0))]) (hp 1 [(oC [zI x0,Sl.v 1 s0])]) (.k0 [] [.tmp 1 false] [1]) ?_
 refine .then (.rK ?_)
 refine .ghs (fr 39 [(1,(pt 0 0)),(3,(.slice none 0 0))]) (hp 1 [(oC [zI x0,Sl.v 1 s0])]) (.k0 [] [.tmp 1 false] [1,3]) ?_
 refine .join (v:=v) (fun y:Nat×Nat×LV=>((fr 39 [(3,(sc 0 0 1 y.1 y.2.1))]),(hp 1 [(oC y.2.2)]))) (fun y=>m75_0 pu n y.1 y.2.1 y.2.2) ?_ ?_
 ·rintro ⟨n0, c0, q1⟩ hm
  exact w75_0 pu n n0 c0 q1 hm
 ·refine .then (.rK ?_)
  refine .ghs (fr 39 [(1,(pt 0 0)),(3,(.slice none 0 0)),(4,(zI (1:Int)))]) (hp 1 [(oC [zI x0,Sl.v 1 s0])]) (.k0 [] [.tmp 1 false] [1,3,4]) ?_
  refine .block ?_
  refine .loopM (v:=v) (fun y:Nat×Nat×Int×Int×Sl×LV=>((fr 39 [(1,(pt 0 0)),(3,(sc 1 0 1 y.1 y.2.1)),(4,(zI y.2.2.1))]),(hp 2 [(oC [(zI y.2.2.2.1),(Sl.v 1 y.2.2.2.2.1)]),(oC y.2.2.2.2.2)]))) (fun w y=>l75_1 pu n w y.1 y.2.1 y.2.2.1 y.2.2.2.1 y.2.2.2.2.1 y.2.2.2.2.2) n ⟨(0,0,(1:Int),x0,s0,([]:LV)),hm,(.thaw 3 1 (by kernel_rfl) (.k0 [] [.tmp 1 false,.tmp 3 false] [1,3,4]))⟩ (fun _=>rfl) ?_
  rintro w0 ⟨n1,c1,z0,z1,s1,q2⟩ hm
  replace hm:b75_1 pu n (l75_1 pu n w0) n1 c1 z0 z1 s1 q2 = some v:=hm
  unfold b75_1 at hm
  refine .then ?_
  refine .then (.rK ?_)
  replace hm:=bb_inv hm;obtain ⟨h0,hm⟩:=hm
  refine .ghs (fr 39 [(1,(pt 0 0)),(3,sc 1 0 1 n1 c1),(4,zI z0),(10,(zB (ilt z0 z1)))]) (hp 2 [(oC [zI z1,Sl.v 1 s1]),oC q2]) (.k [1] [] [.tmp 1 false,.tmp 3 false] [1,3,4,10] ⟨trF h0,trivial⟩) ?_
  replace hm:=bb_cases hm;rcases hm with ⟨h1,hm⟩ | ⟨h1,hm⟩
  ·refine .ifT (ilt z0 z1) (by kernel_rfl) h1 ?_
   refine .skip ?_
   refine .ghs (fr 39 [(1,(pt 0 0)),(3,sc 1 0 1 n1 c1),(4,zI z0)]) (hp 2 [(oC [zI z1,Sl.v 1 s1]),oC q2]) (.k [1] [] [.tmp 1 false,.tmp 3 false] [1,3,4] ⟨trF h0,trivial⟩) ?_
   refine .join (v:=v) (fun y:Nat×Nat×Int×Int×Sl×LV=>((fr 39 [(1,(pt 0 0)),(3,(sc 1 0 1 y.1 y.2.1)),(4,(zI y.2.2.1))]),(hp 2 [(oC [(zI y.2.2.2.1),(Sl.v 1 y.2.2.2.2.1)]),(oC y.2.2.2.2.2)]))) (fun y=>m75_2 pu n (l75_1 pu n w0) y.1 y.2.1 y.2.2.1 y.2.2.2.1 y.2.2.2.2.1 y.2.2.2.2.2) ?_ ?_
   ·rintro ⟨n2, c2, z2, z3, s2, q3⟩ hm
    unfold m75_2 at hm
    refine .rK ?_
    replace hm:=bb_inv hm;obtain ⟨h2,hm⟩:=hm
    exact ⟨(n2,c2,(wrapF .i64 (Int.add z2 (1:Int))),z3,s2,q3),hm,(.k [1] [] [.tmp 1 false,.tmp 3 false] [1,3,4] ⟨trF h2,trivial⟩)⟩
   ·refine .block ?_
    refine .then (.rK ?_)
    refine .ghs (fr 39 [(1,(pt 0 0)),(3,sc 1 0 1 n1 c1),(4,zI z0),(5,(zI (0:Int)))]) (hp 2 [(oC [zI z1,Sl.v 1 s1]),oC q2]) (.k [1] [] [.tmp 1 false,.tmp 3 false] [1,3,4,5] ⟨trF h0,trivial⟩) ?_
    refine .join (v:=v) (fun y:Nat×Nat×Int×Int×Int×Sl×LV=>((fr 39 [(1,(pt 0 0)),(3,(sc 1 0 1 y.1 y.2.1)),(4,(zI y.2.2.1)),(5,(zI y.2.2.2.1))]),(hp 2 [(oC [(zI y.2.2.2.2.1),(Sl.v 1 y.2.2.2.2.2.1)]),(oC y.2.2.2.2.2.2)]))) (fun y=>m75_3 pu n (l75_1 pu n w0) y.1 y.2.1 y.2.2.1 y.2.2.2.1 y.2.2.2.2.1 y.2.2.2.2.2.1 y.2.2.2.2.2.2) ?_ ?_
    ·rintro ⟨n3, c3, z4, z5, z6, s3, q4⟩ hm
     unfold m75_3 at hm
     replace hm:=bb_inv hm;obtain ⟨h3,hm⟩:=hm
     refine .reg (eC 3 (growD 1 8 n3 c3 1 1 q4 [zI z5] [] (hp 3 [(oC [zI z6,Sl.v 1 s3]),oC q4,(oC [zI z5])])) (growD_eq h3) (eE)) ?_
     replace hm:=bb_inv hm;obtain ⟨h4,hm⟩:=hm
     exact ⟨((n3 + 1),(d2 (n3 + 1)),z4,z6,s3,(appL (dropL 0 q4) [zI z5])),hm,(.k [3] [] [.tmp 1 false,.tmp 3 false] [1,3,4] ⟨trF h4,trivial⟩)⟩
    ·refine .then (.rK ?_)
     refine .ghs (fr 39 [(1,(pt 0 0)),(3,sc 1 0 1 n1 c1),(4,zI z0),(5,(zI (0:Int))),(6,(zI (0:Int)))]) (hp 2 [(oC [zI z1,Sl.v 1 s1]),oC q2]) (.k [1] [] [.tmp 1 false,.tmp 3 false] [1,3,4,5,6] ⟨trF h0,trivial⟩) ?_
     refine .block ?_
     refine .loopM (v:=v) (fun y:Nat×Nat×Int×Int×Int×Int×Sl×LV=>((fr 39 [(1,(pt 0 0)),(3,(sc 1 0 1 y.1 y.2.1)),(4,(zI y.2.2.1)),(5,(zI y.2.2.2.1)),(6,(zI y.2.2.2.2.1))]),(hp 2 [(oC [(zI y.2.2.2.2.2.1),(Sl.v 1 y.2.2.2.2.2.2.1)]),(oC y.2.2.2.2.2.2.2)]))) (fun w y=>l75_4 pu n (l75_1 pu n w0) w y.1 y.2.1 y.2.2.1 y.2.2.2.1 y.2.2.2.2.1 y.2.2.2.2.2.1 y.2.2.2.2.2.2.1 y.2.2.2.2.2.2.2) n ⟨(n1,c1,z0,(0:Int),(0:Int),z1,s1,q2),hm,(.k [1] [] [.tmp 1 false,.tmp 3 false] [1,3,4,5,6] ⟨trF h0,trivial⟩)⟩ (fun _=>rfl) ?_
     rintro w1 ⟨n4,c5,z7,z8,z9,z10,s4,q5⟩ hm
     replace hm:b75_4 pu n (l75_1 pu n w0) (l75_4 pu n (l75_1 pu n w0) w1) n4 c5 z7 z8 z9 z10 s4 q5 = some v:=hm
     unfold b75_4 at hm
     refine .then ?_
     refine .then (.rK ?_)
     replace hm:=bb_inv hm;obtain ⟨h5,hm⟩:=hm
     refine .ghs (fr 39 [(1,(pt 0 0)),(3,sc 1 0 1 n4 c5),(4,zI z7),(5,zI z8),(6,zI z9),(17,(zB (ilt z9 (Int.ofNat (Sl.n s4)))))]) (hp 2 [(oC [zI z10,Sl.v 1 s4]),oC q5]) (.k [1] [] [.tmp 1 false,.tmp 3 false] [1,3,4,5,6,17] ⟨trF h5,trivial⟩) ?_
     replace hm:=bb_cases hm;rcases hm with ⟨h6,hm⟩ | ⟨h6,hm⟩
     ·refine .ifT (ilt z9 (Int.ofNat (Sl.n s4))) (by kernel_rfl) h6 ?_
      refine .skip ?_
      refine .ghs (fr 39 [(1,(pt 0 0)),(3,sc 1 0 1 n4 c5),(4,zI z7),(5,zI z8),(6,zI z9)]) (hp 2 [(oC [zI z10,Sl.v 1 s4]),oC q5]) (.k [1] [] [.tmp 1 false,.tmp 3 false] [1,3,4,5,6] ⟨trF h5,trivial⟩) ?_
      refine .join (v:=v) (fun y:Nat×Nat×Int×Int×Int×Int×Sl×LV=>((fr 39 [(1,(pt 0 0)),(3,(sc 1 0 1 y.1 y.2.1)),(4,(zI y.2.2.1)),(5,(zI y.2.2.2.1)),(6,(zI y.2.2.2.2.1))]),(hp 2 [(oC [(zI y.2.2.2.2.2.1),(Sl.v 1 y.2.2.2.2.2.2.1)]),(oC y.2.2.2.2.2.2.2)]))) (fun y=>m75_5 pu n (l75_1 pu n w0) (l75_4 pu n (l75_1 pu n w0) w1) y.1 y.2.1 y.2.2.1 y.2.2.2.1 y.2.2.2.2.1 y.2.2.2.2.2.1 y.2.2.2.2.2.2.1 y.2.2.2.2.2.2.2) ?_ ?_
      ·rintro ⟨n5, c6, z11, z12, z13, z14, s5, q6⟩ hm
       unfold m75_5 at hm
       refine .rK ?_
       replace hm:=bb_inv hm;obtain ⟨h7,hm⟩:=hm
       exact ⟨(n5,c6,z11,z12,(wrapF .i64 (Int.add z13 (1:Int))),z14,s5,q6),hm,(.k [1] [] [.tmp 1 false,.tmp 3 false] [1,3,4,5,6] ⟨trF h7,trivial⟩)⟩
      ·refine .block ?_
       refine .then ?_
       replace hm:=oo_inv hm;obtain ⟨k1,h8,hm⟩:=hm
       obtain rfl:=toN_some h8
       replace hm:=bb_inv hm;obtain ⟨h9,hm⟩:=hm
       replace hm:=oo_inv hm;obtain ⟨v2,h10,hm⟩:=hm
       replace hm:=inv_toI hm;obtain ⟨x1,rfl,hm⟩:=hm
       replace hm:=oo_inv hm;obtain ⟨v3,h11,hm⟩:=hm
       replace hm:=inv_toI hm;obtain ⟨x2,rfl,hm⟩:=hm
       replace hm:=oo_inv hm;obtain ⟨v4,h12,hm⟩:=hm
       replace hm:=inv_vBool hm;obtain ⟨b0,rfl,hm⟩:=hm
       refine .reg (eC 4 (keep (hp 2 [(oC [zI z10,Sl.v 1 s4]),oC q5]) (bb (an (Nat.blt k1 (Sl.n s4)) true) (some (fpV (k1 * 1) (Sl.cs s4))) none)) (keep_bb h9) (eD (keep (hp 2 [(oC [zI z10,Sl.v 1 s4]),oC q5]) (nthL (Sl.cs s4) (k1 * 1))) (keep_eq h10) (eC 4 ((oo (pu 64 [(zI (wrapF .i64 (Int.add x1 z7))),zI z10]) none fun v=>some (v,(hp 2 [(oC [zI z10,Sl.v 1 s4]),oC q5])))) (call_eq h11) (eD ((oo (pu 63 [(.agg ⟨[zI z10,Sl.v 1 s4]⟩),zI x2]) none fun v=>some (v,(hp 2 [(oC [zI z10,Sl.v 1 s4]),oC q5])))) (call_eq h12) (eE))))) ?_
       refine .ghs (fr 39 [(1,(pt 0 0)),(3,sc 1 0 1 n4 c5),(4,zI z7),(5,zI z8),(6,(zI (Int.ofNat k1))),(31,zB b0)]) (hp 2 [(oC [zI z10,Sl.v 1 s4]),oC q5]) (.k [1] [] [.tmp 1 false,.tmp 3 false] [1,3,4,5,6,31] ⟨trF h5,trivial⟩) ?_
       replace hm:=bb_cases hm;rcases hm with ⟨h13,hm⟩ | ⟨h13,hm⟩
       ·refine .ifT b0 (by kernel_rfl) h13 ?_
        refine .rK ?_
        exact ⟨(n4,c5,z7,(wrapF .i64 (Int.add z8 (1:Int))),(Int.ofNat k1),z10,s4,q5),hm,(.k [1] [] [.tmp 1 false,.tmp 3 false] [1,3,4,5,6] ⟨trF h5,trivial⟩)⟩
       ·refine .ifF b0 (by kernel_rfl) h13 ?_
        refine .skip ?_
        exact ⟨(n4,c5,z7,z8,(Int.ofNat k1),z10,s4,q5),hm,(.k [1] [] [.tmp 1 false,.tmp 3 false] [1,3,4,5,6] ⟨trF h5,trivial⟩)⟩
     ·refine .ifF (ilt z9 (Int.ofNat (Sl.n s4))) (by kernel_rfl) h6 ?_
      refine .exit ?_
      exact ⟨(n4,c5,z7,z8,z10,s4,q5),hm,(.k [1] [] [.tmp 1 false,.tmp 3 false] [1,3,4,5] ⟨trF h5,trivial⟩)⟩
  ·refine .ifF (ilt z0 z1) (by kernel_rfl) h1 ?_
   refine .exit ?_
   exact ⟨(n1,c1,q2),hm,(.k [1] [] [.tmp 3 false] [3] ⟨trF h0,trivial⟩)⟩
end
end Go.RgDM
