/- Made from wip. -/
import Derived.Test.YtlgmapibifphaaaDoorMdFMod0x

set_option maxRecDepth 100000
set_option maxHeartbeats 20000000
set_option linter.unusedVariables false
namespace Go.MdFM
open Go.Sp Go.MdF
noncomputable section
def m35_1 (pu:PureF) (n:Nat) (z0:Int):OV:=
 (some (.int .i64 z0))
def m35_2 (pu:PureF) (n:Nat) (z0:Int) (b0:Bool):OV:=
 (bb b0 (m35_1 pu n (14:Int)) (m35_1 pu n z0))
def m35_0 (pu:PureF) (n:Nat) (z0 z1:Int) (s0 s1:Sl):OV:=
 (bb (ieq z0 (0:Int)) (oo (pu 56 [(.agg ⟨[.int .i64 z1,Sl.v 1 s0,Sl.v 1 s1]⟩)]) none fun v0=>(oo (toSl 1 v0) none fun s2=>(m35_2 pu n z0 (ilt (0:Int) (Int.ofNat (Sl.n s2)))))) (m35_2 pu n z0 false))
def m35_5 (pu:PureF) (n:Nat) (ih0:Sl→Int→Int→Int→Sl→Sl→OV) (s0:Sl) (z0 z1 z2:Int) (s1 s2:Sl):OV:=
 (ih0 s0 z0 (wrapF .i64 (Int.add z1 (1:Int))) z2 s1 s2)
def m35_4 (pu:PureF) (n:Nat) (ih0:Sl→Int→Int→Int→Sl→Sl→OV) (s0:Sl) (z0 z1:Int) (b0:Bool) (z2:Int) (s1 s2:Sl):OV:=
 (bb b0 (oo (toN z1) none fun k1=>(bb (an (Nat.blt k1 (Sl.n s0)) true) (oo (nthL (Sl.cs s0) ((k1 * 2) + 0)) none fun v0=>(oo (toI .i64 v0) none fun x0=>(bb (an (Nat.blt k1 (Sl.n s0)) true) (oo (nthL (Sl.cs s0) ((k1 * 2) + 1)) none fun v1=>(oo (toI .i64 v1) none fun x1=>(oo (pu 59 [(.agg ⟨[.int .i64 z2,Sl.v 1 s1,Sl.v 1 s2]⟩),.int .i64 x0,.int .i64 x1]) none fun v2=>(oo (toI .i64 v2) none fun x2=>(bb (ieq x2 (0:Int)) (bb (an (Nat.blt k1 (Sl.n s0)) true) (oo (nthL (Sl.cs s0) ((k1 * 2) + 0)) none fun v3=>(oo (toI .i64 v3) none fun x3=>(bb (an (Nat.blt k1 (Sl.n s0)) true) (oo (nthL (Sl.cs s0) ((k1 * 2) + 1)) none fun v4=>(oo (toI .i64 v4) none fun x4=>(oo (pu 46 [(.agg ⟨[.int .i64 z2,Sl.v 1 s1,Sl.v 1 s2]⟩),.int .i64 x3,.int .i64 x4]) none fun v5=>(oo (vAgg v5) none fun l0=>(ll l0 none fun v6 l0=>(ll l0 none fun v7 l0=>(ll l0 none fun v8 l0=>(ll l0 (oo (toI .i64 v6) none fun x5=>(oo (toSl 1 v7) none fun s3=>(oo (toSl 1 v8) none fun s4=>(m35_5 pu n ih0 s0 x2 (Int.ofNat k1) x5 s3 s4)))) fun _ _=>none)))))))) none))) none) (m35_5 pu n ih0 s0 x2 (Int.ofNat k1) z2 s1 s2)))))) none))) none)) (m35_0 pu n z0 z2 s1 s2))
def b35_3 (pu:PureF) (n:Nat) (ih0:Sl→Int→Int→Int→Sl→Sl→OV) (s0:Sl) (z0 z1 z2:Int) (s1 s2:Sl):OV:=
 (bb (ilt z1 (Int.ofNat (Sl.n s0))) (m35_4 pu n ih0 s0 z0 z1 (ieq z0 (0:Int)) z2 s1 s2) (m35_4 pu n ih0 s0 z0 z1 false z2 s1 s2))
def l35_3 (pu:PureF) (n w:Nat):Sl→Int→Int→Int→Sl→Sl→OV:=
 Nat.rec (motive:=fun _=>Sl→Int→Int→Int→Sl→Sl→OV) (fun _ _ _ _ _ _=>none) (fun _ ih0=>b35_3 pu n ih0) w
def m35_ (pu:PureF) (n:Nat) (x0:Int) (s0 s1 s2:Sl):OV:=
 (oo (pu 49 [(.agg ⟨[.int .i64 x0,Sl.v 1 s0,Sl.v 1 s1]⟩)]) none fun v0=>(oo (toI .i64 v0) none fun x1=>(l35_3 pu n n s2 x1 (0:Int) x0 s0 s1)))
def m35 (pu:PureF) (n:Nat) (args:LV):OV:=
 (ll args none fun a0 args=>(ll args none fun a1 args=>(ll args (oo (vAgg a0) none fun l0=>(ll l0 none fun v0 l0=>(ll l0 none fun v1 l0=>(ll l0 none fun v2 l0=>(ll l0 (oo (toI .i64 v0) none fun x0=>(oo (toSl 1 v1) none fun s0=>(oo (toSl 1 v2) none fun s1=>(oo (toSl 2 a1) none fun s2=>(m35_ pu n x0 s0 s1 s2))))) fun _ _=>none))))) fun _ _=>none)))
theorem w35_1 (pu:PureF) (n:Nat) (z0:Int) {v:Value} (hm:m35_1 pu n z0 = some v):Run tt (callP tabs isP pu (inl pu)) 1 c35_24 (fr 54 [(5,zI z0)]) (hp 1 [(oT tab0)]) (Fin tt 1 [.tmp 4] v):=by
 unfold m35_1 at hm
 refine .then (.rK ?_)
 refine .ghs (fr 54 [(4,zI z0)]) (hp 1 [(oT tab0)]) (.k0 [false] [] [4]) ?_
 refine .ret ?_
 exact fin_ret (zI z0) (by kernel_rfl) (by kernel_rfl) hm
theorem w35_0 (pu:PureF) (n:Nat) (z0 z1:Int) (s0 s1:Sl) {v:Value} (hm:m35_0 pu n z0 z1 s0 s1 = some v):Run tt (callP tabs isP pu (inl pu)) 1 c35_25 (fr 54 [(2,pt 1 0),(5,zI z0)]) (hT 2 [(oC [zI z1,Sl.v 1 s0,Sl.v 1 s1])]) (Fin tt 1 [.tmp 4] v):=by
 unfold m35_0 at hm
 refine .join (v:=v) (fun y:Int=>((fr 54 [(5,zI y)]),(hp 1 [(oT tab0)]))) (fun y=>m35_1 pu n y) ?_ ?_
 ·rintro z2 hm
  exact w35_1 pu n z2 hm
 ·refine .join (v := v) (fun y : Int × Bool => ((fr 54 [(5, (zI y.1)), (52, (zB y.2))]), (hp 1 [(oT tab0)]))) (fun y => m35_2 pu n y.1 y.2) ?_ ?_
  ·rintro ⟨z3, b0⟩ hm
   unfold m35_2 at hm
   replace hm:=bb_cases hm;rcases hm with ⟨h0,hm⟩ | ⟨h0,hm⟩
   ·refine .ifT b0 (by kernel_rfl) h0 ?_
    refine .rK ?_
    exact ⟨(14:Int),hm,(.k0 [false] [] [5])⟩
   ·refine .ifF b0 (by kernel_rfl) h0 ?_
    refine .skip ?_
    exact ⟨z3,hm,(.k0 [false] [] [5])⟩
  ·replace hm := bb_cases hm; rcases hm with ⟨h1, hm⟩ | ⟨h1, hm⟩
   ·replace hm := oo_inv hm; obtain ⟨v0, h2, hm⟩ := hm
    replace hm:=inv_toSl hm;obtain ⟨s2,rfl,hm⟩:=hm
    refine .reg (eC 1 (some ((zB (ieq z0 (0:Int))),(hT 2 [(oC [zI z1,Sl.v 1 s0,Sl.v 1 s1])]))) (show _ = some ((zB true),_) from (by rw [h1])) (eC 2 ((oo (pu 56 [(.agg ⟨[zI z1,Sl.v 1 s0,Sl.v 1 s1]⟩)]) none fun v=>some (v,(hT 2 [(oC [zI z1,Sl.v 1 s0,Sl.v 1 s1])])))) (call_eq h2) (eE))) ?_
    exact ⟨(z0,(ilt (0:Int) (Int.ofNat (Sl.n s2)))),hm,(.k0 [false] [] [5,52])⟩
   ·refine .reg (eC 1 (some ((zB (ieq z0 (0 : Int))), (hT 2 [(oC [zI z1, Sl.v 1 s0, Sl.v 1 s1])]))) (show _ = some ((zB false), _) from (by rw [h1])) (eE)) ?_
    exact ⟨(z0,false),hm,(.k0 [false] [] [5,52])⟩
theorem r35 {call:CallF} (pu:PureF) (n:Nat) (hcall:call = callP tabs isP pu (inl pu)) {args:LV} {v:Value} (hm:m35 pu n args = some v) (_:∀ x ∈ args,closed2 x = true):args.length≤54∧Run tt call 1 c35_28 (Fr.made 54 args) (pureHeap tabs) (Fin tt 1 [.tmp 4] v):=by
 subst hcall
 unfold m35 at hm
 replace hm:=ll_uncons hm;obtain ⟨a0,args_0,rfl,hm⟩:=hm
 replace hm:=ll_uncons hm;obtain ⟨a1,args_1,rfl,hm⟩:=hm
 replace hm:=ll_end hm;obtain ⟨rfl,hm⟩:=hm
 replace hm:=inv_vAgg hm;obtain ⟨l0,rfl,hm⟩:=hm
 replace hm:=ll_uncons hm;obtain ⟨v0,l829_0,rfl,hm⟩:=hm
 replace hm:=ll_uncons hm;obtain ⟨v1,l829_1,rfl,hm⟩:=hm
 replace hm:=ll_uncons hm;obtain ⟨v2,l829_2,rfl,hm⟩:=hm
 replace hm:=ll_end hm;obtain ⟨rfl,hm⟩:=hm
 replace hm:=inv_toI hm;obtain ⟨x0,rfl,hm⟩:=hm
 replace hm:=inv_toSl hm;obtain ⟨s0,rfl,hm⟩:=hm
 replace hm:=inv_toSl hm;obtain ⟨s1,rfl,hm⟩:=hm
 replace hm:=inv_toSl hm;obtain ⟨s2,rfl,hm⟩:=hm
 unfold m35_ at hm
 refine ⟨by simp,?_⟩
 refine .same (F':=(fr 54 [(0,(.agg ⟨[zI x0,Sl.v 1 s0,Sl.v 1 s1]⟩)),(1,(Sl.v 2 s2))])) (H':=(hp 1 [(oT tab0)])) (by kernel_rfl) (by kernel_rfl) ?_
 refine .then (.rK ?_)
 refine .ghs (fr 54 [(1,(Sl.v 2 s2)),(2,pt 1 0)]) (hT 2 [(oC [zI x0,Sl.v 1 s0,Sl.v 1 s1])]) (.k0 [false] [.tmp 2 false] [1,2]) ?_
 refine .then ?_
 replace hm:=oo_inv hm;obtain ⟨v3,h0,hm⟩:=hm
 replace hm:=inv_toI hm;obtain ⟨x1,rfl,hm⟩:=hm
 refine .reg (eC 1 ((oo (pu 49 [(.agg ⟨[zI x0,Sl.v 1 s0,Sl.v 1 s1]⟩)]) none fun v=>some (v,(hT 2 [(oC [zI x0,Sl.v 1 s0,Sl.v 1 s1])])))) (call_eq h0) (eE)) ?_
 refine .ghs (fr 54 [(1,(Sl.v 2 s2)),(2,pt 1 0),(5,zI x1)]) (hT 2 [(oC [zI x0,Sl.v 1 s0,Sl.v 1 s1])]) (.k0 [false] [.tmp 2 false] [1,2,5]) ?_
 refine .join (v:=v) (fun y:Int×Int×Sl×Sl=>((fr 54 [(2,pt 1 0),(5,(zI y.1))]),(hT 2 [(oC [(zI y.2.1),(Sl.v 1 y.2.2.1),(Sl.v 1 y.2.2.2)])]))) (fun y=>m35_0 pu n y.1 y.2.1 y.2.2.1 y.2.2.2) ?_ ?_
 ·rintro ⟨z0, z1, s3, s4⟩ hm
  exact w35_0 pu n z0 z1 s3 s4 hm
 ·refine .then (.rK ?_)
  refine .ghs (fr 54 [(1,(Sl.v 2 s2)),(2,pt 1 0),(5,zI x1),(6,(zI (0:Int)))]) (hT 2 [(oC [zI x0,Sl.v 1 s0,Sl.v 1 s1])]) (.k0 [false] [.tmp 2 false] [1,2,5,6]) ?_
  refine .block ?_
  refine .loopM (v:=v) (fun y:Sl×Int×Int×Int×Sl×Sl=>((fr 54 [(1,(Sl.v 2 y.1)),(2,pt 1 0),(5,(zI y.2.1)),(6,(zI y.2.2.1))]),(hT 2 [(oC [(zI y.2.2.2.1),(Sl.v 1 y.2.2.2.2.1),(Sl.v 1 y.2.2.2.2.2)])]))) (fun w y=>l35_3 pu n w y.1 y.2.1 y.2.2.1 y.2.2.2.1 y.2.2.2.2.1 y.2.2.2.2.2) n ⟨(s2,x1,(0:Int),x0,s0,s1),hm,(.k0 [false] [.tmp 2 false] [1,2,5,6])⟩ (fun _=>rfl) ?_
  rintro w0 ⟨s5,z2,z3,z4,s6,s7⟩ hm
  replace hm:b35_3 pu n (l35_3 pu n w0) s5 z2 z3 z4 s6 s7 = some v:=hm
  unfold b35_3 at hm
  refine .then ?_
  refine .join (v:=v) (fun y:Sl×Int×Int×Bool×Int×Sl×Sl=>((fr 54 [(1,(Sl.v 2 y.1)),(2,pt 1 0),(5,(zI y.2.1)),(6,(zI y.2.2.1)),(16,(zB y.2.2.2.1))]),(hT 2 [(oC [(zI y.2.2.2.2.1),(Sl.v 1 y.2.2.2.2.2.1),(Sl.v 1 y.2.2.2.2.2.2)])]))) (fun y=>m35_4 pu n (l35_3 pu n w0) y.1 y.2.1 y.2.2.1 y.2.2.2.1 y.2.2.2.2.1 y.2.2.2.2.2.1 y.2.2.2.2.2.2) ?_ ?_
  ·rintro ⟨s8, z5, z6, b0, z7, s9, s10⟩ hm
   unfold m35_4 at hm
   replace hm:=bb_cases hm;rcases hm with ⟨h1,hm⟩ | ⟨h1,hm⟩
   ·refine .ifT b0 (by kernel_rfl) h1 ?_
    refine .skip ?_
    refine .ghs (fr 54 [(1,(Sl.v 2 s8)),(2,pt 1 0),(6,zI z6)]) (hT 2 [(oC [zI z7,Sl.v 1 s9,Sl.v 1 s10])]) (.k0 [false] [.tmp 2 false] [1,2,6]) ?_
    refine .join (v:=v) (fun y:Sl×Int×Int×Int×Sl×Sl=>((fr 54 [(1,(Sl.v 2 y.1)),(2,pt 1 0),(5,(zI y.2.1)),(6,(zI y.2.2.1))]),(hT 2 [(oC [(zI y.2.2.2.1),(Sl.v 1 y.2.2.2.2.1),(Sl.v 1 y.2.2.2.2.2)])]))) (fun y=>m35_5 pu n (l35_3 pu n w0) y.1 y.2.1 y.2.2.1 y.2.2.2.1 y.2.2.2.2.1 y.2.2.2.2.2) ?_ ?_
    ·rintro ⟨s11, z8, z9, z10, s12, s13⟩ hm
     unfold m35_5 at hm
     refine .rK ?_
     exact ⟨(s11,z8,(wrapF .i64 (Int.add z9 (1:Int))),z10,s12,s13),hm,(.k0 [false] [.tmp 2 false] [1,2,5,6])⟩
    ·refine .block ?_
     refine .then ?_
     replace hm:=oo_inv hm;obtain ⟨k1,h2,hm⟩:=hm
     obtain rfl:=toN_some h2
     replace hm:=bb_inv hm;obtain ⟨h3,hm⟩:=hm
     replace hm:=oo_inv hm;obtain ⟨v4,h4,hm⟩:=hm
     replace hm:=inv_toI hm;obtain ⟨x2,rfl,hm⟩:=hm
     replace hm:=bb_inv hm;obtain ⟨h5,hm⟩:=hm
     replace hm:=oo_inv hm;obtain ⟨v5,h6,hm⟩:=hm
     replace hm:=inv_toI hm;obtain ⟨x3,rfl,hm⟩:=hm
     replace hm:=oo_inv hm;obtain ⟨v6,h7,hm⟩:=hm
     replace hm:=inv_toI hm;obtain ⟨x4,rfl,hm⟩:=hm
     refine .reg (eC 3 (keep (hT 2 [(oC [zI z7,Sl.v 1 s9,Sl.v 1 s10])]) (bb (an (Nat.blt k1 (Sl.n s8)) true) (some (fpV (k1 * 2) (Sl.cs s8))) none)) (keep_bb h3) (eC 1 (keep (hT 2 [(oC [zI z7,Sl.v 1 s9,Sl.v 1 s10])]) (nthL (Sl.cs s8) ((k1 * 2) + 0))) (keep_eq h4) (eC 2 (keep (hT 2 [(oC [zI z7,Sl.v 1 s9,Sl.v 1 s10])]) (bb (an (Nat.blt k1 (Sl.n s8)) true) (some (fpV (k1 * 2) (Sl.cs s8))) none)) (keep_bb h5) (eC 1 (keep (hT 2 [(oC [zI z7,Sl.v 1 s9,Sl.v 1 s10])]) (nthL (Sl.cs s8) ((k1 * 2) + 1))) (keep_eq h6) (eD ((oo (pu 59 [(.agg ⟨[zI z7,Sl.v 1 s9,Sl.v 1 s10]⟩),zI x2,zI x3]) none fun v=>some (v,(hT 2 [(oC [zI z7,Sl.v 1 s9,Sl.v 1 s10])])))) (call_eq h7) (eE)))))) ?_
     refine .ghs (fr 54 [(1,(Sl.v 2 s8)),(2,pt 1 0),(5,zI x4),(6,(zI (Int.ofNat k1)))]) (hT 2 [(oC [zI z7,Sl.v 1 s9,Sl.v 1 s10])]) (.k0 [false] [.tmp 2 false] [1,2,5,6]) ?_
     refine .then (.rK ?_)
     refine .ghs (fr 54 [(1,(Sl.v 2 s8)),(2,pt 1 0),(5,zI x4),(6,(zI (Int.ofNat k1))),(32,(zB (ieq x4 (0:Int))))]) (hT 2 [(oC [zI z7,Sl.v 1 s9,Sl.v 1 s10])]) (.k0 [false] [.tmp 2 false] [1,2,5,6,32]) ?_
     replace hm:=bb_cases hm;rcases hm with ⟨h8,hm⟩ | ⟨h8,hm⟩
     ·refine .ifT (ieq x4 (0 : Int)) (by kernel_rfl) h8 ?_
      replace hm:=bb_inv hm;obtain ⟨h9,hm⟩:=hm
      replace hm:=oo_inv hm;obtain ⟨v7,h10,hm⟩:=hm
      replace hm:=inv_toI hm;obtain ⟨x5,rfl,hm⟩:=hm
      replace hm:=bb_inv hm;obtain ⟨h11,hm⟩:=hm
      replace hm:=oo_inv hm;obtain ⟨v8,h12,hm⟩:=hm
      replace hm:=inv_toI hm;obtain ⟨x6,rfl,hm⟩:=hm
      replace hm:=oo_inv hm;obtain ⟨v9,h13,hm⟩:=hm
      replace hm:=inv_vAgg hm;obtain ⟨l1,rfl,hm⟩:=hm
      replace hm:=ll_uncons hm;obtain ⟨v10,l1968_0,rfl,hm⟩:=hm
      replace hm:=ll_uncons hm;obtain ⟨v11,l1968_1,rfl,hm⟩:=hm
      replace hm:=ll_uncons hm;obtain ⟨v12,l1968_2,rfl,hm⟩:=hm
      replace hm:=ll_end hm;obtain ⟨rfl,hm⟩:=hm
      replace hm:=inv_toI hm;obtain ⟨x7,rfl,hm⟩:=hm
      replace hm:=inv_toSl hm;obtain ⟨s14,rfl,hm⟩:=hm
      replace hm:=inv_toSl hm;obtain ⟨s15,rfl,hm⟩:=hm
      refine .reg (eC 3 (keep (hT 2 [(oC [zI z7,Sl.v 1 s9,Sl.v 1 s10])]) (bb (an (Nat.blt k1 (Sl.n s8)) true) (some (fpV (k1 * 2) (Sl.cs s8))) none)) (keep_bb h9) (eC 1 (keep (hT 2 [(oC [zI z7,Sl.v 1 s9,Sl.v 1 s10])]) (nthL (Sl.cs s8) ((k1 * 2) + 0))) (keep_eq h10) (eC 2 (keep (hT 2 [(oC [zI z7,Sl.v 1 s9,Sl.v 1 s10])]) (bb (an (Nat.blt k1 (Sl.n s8)) true) (some (fpV (k1 * 2) (Sl.cs s8))) none)) (keep_bb h11) (eC 1 (keep (hT 2 [(oC [zI z7,Sl.v 1 s9,Sl.v 1 s10])]) (nthL (Sl.cs s8) ((k1 * 2) + 1))) (keep_eq h12) (eD ((oo (pu 46 [(.agg ⟨[zI z7,Sl.v 1 s9,Sl.v 1 s10]⟩),zI x5,zI x6]) none fun v=>some (v,(hT 2 [(oC [zI z7,Sl.v 1 s9,Sl.v 1 s10])])))) (call_eq h13) (eE)))))) ?_
      exact ⟨(s8,x4,(Int.ofNat k1),x7,s14,s15),hm,(.k0 [false] [.tmp 2 false] [1,2,5,6])⟩
     ·refine .ifF (ieq x4 (0 : Int)) (by kernel_rfl) h8 ?_
      refine .skip ?_
      exact ⟨(s8,x4,(Int.ofNat k1),z7,s9,s10),hm,(.k0 [false] [.tmp 2 false] [1,2,5,6])⟩
   ·refine .ifF b0 (by kernel_rfl) h1 ?_
    refine .exit ?_
    exact ⟨(z5,z7,s9,s10),hm,(.k0 [false] [.tmp 2 false] [2,5])⟩
  ·replace hm := bb_cases hm; rcases hm with ⟨h14, hm⟩ | ⟨h14, hm⟩
   ·refine .reg (eC 3 (some ((zB (ilt z3 (Int.ofNat (Sl.n s5)))), (hT 2 [(oC [zI z4, Sl.v 1 s6, Sl.v 1 s7])]))) (show _ = some ((zB true), _) from (by rw [h14])) (eE)) ?_
    exact ⟨(s5,z2,z3,(ieq z2 (0:Int)),z4,s6,s7),hm,(.k0 [false] [.tmp 2 false] [1,2,5,6,16])⟩
   ·refine .reg (eC 3 (some ((zB (ilt z3 (Int.ofNat (Sl.n s5)))), (hT 2 [(oC [zI z4, Sl.v 1 s6, Sl.v 1 s7])]))) (show _ = some ((zB false), _) from (by rw [h14])) (eE)) ?_
    exact ⟨(s5,z2,z3,false,z4,s6,s7),hm,(.k0 [false] [.tmp 2 false] [1,2,5,6,16])⟩

def m43_ (pu:PureF) (n:Nat) (x0:Int) (s0 s1:Sl) (x1 x2:Int):OV:=
 (bb (roomy (0 + (Sl.n s0)) 8) (bb (roomy (0 + (Sl.n s1)) 8) (bb (allL closed1 (takeL ((Sl.n s0) * 1) (Sl.cs s0))) (bb (allL closed1 (takeL ((Sl.n s1) * 1) (Sl.cs s1))) (oo (toN x2) none fun k1=>(bb (an (Nat.blt k1 (Sl.n s0)) true) (oo (nthL (takeL ((Sl.n s0) * 1) (Sl.cs s0)) (0 + k1 * 1)) none fun v0=>(oo (toI .i64 v0) none fun x3=>(oo (toN x1) none fun k2=>(bb (an (Nat.blt k2 (Sl.n s0)) true) (oo (nthL (takeL ((Sl.n s0) * 1) (Sl.cs s0)) (0 + k2 * 1)) none fun v1=>(oo (toI .i64 v1) none fun x4=>(bb (an (Nat.blt k2 (Sl.n s0)) true) (bb (an (Nat.ble ((0 + k2 * 1) + 1) (len (takeL ((Sl.n s0) * 1) (Sl.cs s0)))) true) (bb (an (Nat.blt k1 (Sl.n s0)) true) (bb (an (Nat.ble ((0 + k1 * 1) + 1) (len (setL ([.int .i64 x3]:LV) (0 + k2 * 1) (takeL ((Sl.n s0) * 1) (Sl.cs s0))))) true) (bb (allL closed1 (setL ([.int .i64 x4]:LV) (0 + k1 * 1) (setL ([.int .i64 x3]:LV) (0 + k2 * 1) (takeL ((Sl.n s0) * 1) (Sl.cs s0))))) (bb (an (Nat.ble (0 + (Sl.n s0) * 1) (len (setL ([.int .i64 x4]:LV) (0 + k1 * 1) (setL ([.int .i64 x3]:LV) (0 + k2 * 1) (takeL ((Sl.n s0) * 1) (Sl.cs s0)))))) (allL closed1 (takeL ((Sl.n s0) * 1) (dropL 0 (setL ([.int .i64 x4]:LV) (0 + k1 * 1) (setL ([.int .i64 x3]:LV) (0 + k2 * 1) (takeL ((Sl.n s0) * 1) (Sl.cs s0)))))))) (bb (an (Nat.ble (0 + (Sl.n s1) * 1) (len (takeL ((Sl.n s1) * 1) (Sl.cs s1)))) (allL closed1 (takeL ((Sl.n s1) * 1) (dropL 0 (takeL ((Sl.n s1) * 1) (Sl.cs s1)))))) (some (.agg ⟨[.int .i64 x0,(Sl.v 1 (Sl.mk (Sl.n s0) 0 (takeL ((Sl.n s0) * 1) (dropL 0 (setL ([.int .i64 x4]:LV) (0 + k1 * 1) (setL ([.int .i64 x3]:LV) (0 + k2 * 1) (takeL ((Sl.n s0) * 1) (Sl.cs s0)))))))),(Sl.v 1 (Sl.mk (Sl.n s1) 0 (takeL ((Sl.n s1) * 1) (dropL 0 (takeL ((Sl.n s1) * 1) (Sl.cs s1))))))]⟩)) none) none) none) none) none) none) none))) none)))) none)) none) none) none) none)
def m43 (pu:PureF) (n:Nat) (args:LV):OV:=
 (ll args none fun a0 args=>(ll args none fun a1 args=>(ll args none fun a2 args=>(ll args (oo (vAgg a0) none fun l0=>(ll l0 none fun v0 l0=>(ll l0 none fun v1 l0=>(ll l0 none fun v2 l0=>(ll l0 (oo (toI .i64 v0) none fun x0=>(oo (toSl 1 v1) none fun s0=>(oo (toSl 1 v2) none fun s1=>(oo (toI .i64 a1) none fun x1=>(oo (toI .i64 a2) none fun x2=>(m43_ pu n x0 s0 s1 x1 x2)))))) fun _ _=>none))))) fun _ _=>none))))
theorem r43 {call:CallF} (pu:PureF) (n:Nat) (hcall:call = callP tabs isP pu (inl pu)) {args:LV} {v:Value} (hm:m43 pu n args = some v) (_:∀ x ∈ args,closed2 x = true):args.length≤36∧Run tt call 1 c43_7 (Fr.made 36 args) (pureHeap tabs) (Fin tt 1 [.cell 6 24] v):=by
 subst hcall
 unfold m43 at hm
 replace hm:=ll_uncons hm;obtain ⟨a0,args_0,rfl,hm⟩:=hm
 replace hm:=ll_uncons hm;obtain ⟨a1,args_1,rfl,hm⟩:=hm
 replace hm:=ll_uncons hm;obtain ⟨a2,args_2,rfl,hm⟩:=hm
 replace hm:=ll_end hm;obtain ⟨rfl,hm⟩:=hm
 replace hm:=inv_vAgg hm;obtain ⟨l0,rfl,hm⟩:=hm
 replace hm:=ll_uncons hm;obtain ⟨v0,l1981_0,rfl,hm⟩:=hm
 replace hm:=ll_uncons hm;obtain ⟨v1,l1981_1,rfl,hm⟩:=hm
 replace hm:=ll_uncons hm;obtain ⟨v2,l1981_2,rfl,hm⟩:=hm
 replace hm:=ll_end hm;obtain ⟨rfl,hm⟩:=hm
 replace hm:=inv_toI hm;obtain ⟨x0,rfl,hm⟩:=hm
 replace hm:=inv_toSl hm;obtain ⟨s0,rfl,hm⟩:=hm
 replace hm:=inv_toSl hm;obtain ⟨s1,rfl,hm⟩:=hm
 replace hm:=inv_toI hm;obtain ⟨x1,rfl,hm⟩:=hm
 replace hm:=inv_toI hm;obtain ⟨x2,rfl,hm⟩:=hm
 unfold m43_ at hm
 refine ⟨by simp,?_⟩
 refine .same (F':=(fr 36 [(0,(.agg ⟨[zI x0,Sl.v 1 s0,Sl.v 1 s1]⟩)),(1,zI x1),(2,zI x2)])) (H':=(hp 1 [(oT tab0)])) (by kernel_rfl) (by kernel_rfl) ?_
 refine .then (.rK ?_)
 refine .ghs (fr 36 [(1,zI x1),(2,zI x2),(3,pt 1 0),(6,(pt 2 0))]) (hT 3 [(oC [zI x0,Sl.v 1 s0,Sl.v 1 s1]),(oC [(zI (0:Int)),(.slice none 0 0),(.slice none 0 0)])]) (.k0 [false] [.tmp 3 false,.tmp 6 false] [1,2,3,6]) ?_
 refine .then ?_
 replace hm:=bb_inv hm;obtain ⟨h0,hm⟩:=hm
 replace hm:=bb_inv hm;obtain ⟨h1,hm⟩:=hm
 refine .reg (eC 7 (bb (roomy (0 + (Sl.n s0)) 8) (some ((sc 5 0 1 (Sl.n s0) (d2 (Sl.n s0))),(hT 6 [(oC [zI x0,Sl.v 1 s0,Sl.v 1 s1]),(oC [(zI (0:Int)),(.slice none 0 0),(.slice none 0 0)]),(oC [(zI (0:Int)),(.slice none 0 0),(.slice none 0 0)]),(oC []),(oC (takeL ((Sl.n s0) * 1) (Sl.cs s0)))]))) none) (bb_some h0) (eD (bb (roomy (0 + (Sl.n s1)) 8) (some ((sc 7 0 1 (Sl.n s1) (d2 (Sl.n s1))),(hT 8 [(oC [zI x0,Sl.v 1 s0,Sl.v 1 s1]),(oC [(zI (0:Int)),(.slice none 0 0),(.slice none 0 0)]),(oC [(zI (0:Int)),(.slice none 0 0),(.slice none 0 0)]),(oC []),(oC (takeL ((Sl.n s0) * 1) (Sl.cs s0))),(oC []),(oC (takeL ((Sl.n s1) * 1) (Sl.cs s1)))]))) none) (bb_some h1) (eE))) ?_
 replace hm:=bb_inv hm;obtain ⟨h2,hm⟩:=hm
 replace hm:=bb_inv hm;obtain ⟨h3,hm⟩:=hm
 refine .ghs (fr 36 [(1,zI x1),(2,zI x2),(6,pt 1 0),(7,(pt 2 0))]) (hT 5 [(oC [(zI (0:Int)),(.slice none 0 0),(.slice none 0 0)]),(oC [zI x0,(sc 3 0 1 (Sl.n s0) (d2 (Sl.n s0))),(sc 4 0 1 (Sl.n s1) (d2 (Sl.n s1)))]),(oC (takeL ((Sl.n s0) * 1) (Sl.cs s0))),(oC (takeL ((Sl.n s1) * 1) (Sl.cs s1)))]) (.k [5,7] [false] [.tmp 6 false,.tmp 7 true,.cell 2 1 false,.cell 2 2 false] [1,2,6,7] ⟨trF h2,trF h3,trivial⟩) ?_
 refine .then ?_
 replace hm:=oo_inv hm;obtain ⟨k1,h4,hm⟩:=hm
 obtain rfl:=toN_some h4
 replace hm:=bb_inv hm;obtain ⟨h5,hm⟩:=hm
 replace hm:=oo_inv hm;obtain ⟨v3,h6,hm⟩:=hm
 replace hm:=inv_toI hm;obtain ⟨x3,rfl,hm⟩:=hm
 replace hm:=oo_inv hm;obtain ⟨k2,h7,hm⟩:=hm
 obtain rfl:=toN_some h7
 replace hm:=bb_inv hm;obtain ⟨h8,hm⟩:=hm
 replace hm:=oo_inv hm;obtain ⟨v4,h9,hm⟩:=hm
 replace hm:=inv_toI hm;obtain ⟨x4,rfl,hm⟩:=hm
 replace hm:=bb_inv hm;obtain ⟨h10,hm⟩:=hm
 replace hm:=bb_inv hm;obtain ⟨h11,hm⟩:=hm
 replace hm:=bb_inv hm;obtain ⟨h12,hm⟩:=hm
 replace hm:=bb_inv hm;obtain ⟨h13,hm⟩:=hm
 refine .reg (eN 15 (Fr.puts (fr 36 [(1,(zI (Int.ofNat k2))),(2,(zI (Int.ofNat k1))),(6,pt 1 0),(7,(pt 2 0))]) [(17,(pt 2 1)),(18,(sc 3 0 1 (Sl.n s0) (d2 (Sl.n s0)))),(19,(zI (Int.ofNat k2))),(20,(pt 2 1)),(21,(sc 3 0 1 (Sl.n s0) (d2 (Sl.n s0)))),(22,(zI (Int.ofNat k1))),(23,(pt 2 1)),(24,(sc 3 0 1 (Sl.n s0) (d2 (Sl.n s0)))),(25,(zI (Int.ofNat k1))),(26,(.pointer (some ⟨3,(0 + k1 * 1),none⟩))),(27,zI x3),(28,(pt 2 1)),(29,(sc 3 0 1 (Sl.n s0) (d2 (Sl.n s0)))),(30,(zI (Int.ofNat k2))),(31,(.pointer (some ⟨3,(0 + k2 * 1),none⟩)))]) (hT 5 [(oC [(zI (0:Int)),(.slice none 0 0),(.slice none 0 0)]),(oC [zI x0,(sc 3 0 1 (Sl.n s0) (d2 (Sl.n s0))),(sc 4 0 1 (Sl.n s1) (d2 (Sl.n s1)))]),(oC (takeL ((Sl.n s0) * 1) (Sl.cs s0))),(oC (takeL ((Sl.n s1) * 1) (Sl.cs s1)))]) (eC 9 (keep (hT 5 [(oC [(zI (0:Int)),(.slice none 0 0),(.slice none 0 0)]),(oC [zI x0,(sc 3 0 1 (Sl.n s0) (d2 (Sl.n s0))),(sc 4 0 1 (Sl.n s1) (d2 (Sl.n s1)))]),(oC (takeL ((Sl.n s0) * 1) (Sl.cs s0))),(oC (takeL ((Sl.n s1) * 1) (Sl.cs s1)))]) (bb (an (Nat.blt k1 (Sl.n s0)) true) (some (.pointer (some ⟨3,(0 + k1 * 1),none⟩))) none)) (keep_bb h5) (eD (keep (hT 5 [(oC [(zI (0:Int)),(.slice none 0 0),(.slice none 0 0)]),(oC [zI x0,(sc 3 0 1 (Sl.n s0) (d2 (Sl.n s0))),(sc 4 0 1 (Sl.n s1) (d2 (Sl.n s1)))]),(oC (takeL ((Sl.n s0) * 1) (Sl.cs s0))),(oC (takeL ((Sl.n s1) * 1) (Sl.cs s1)))]) (nthL (takeL ((Sl.n s0) * 1) (Sl.cs s0)) (0 + k1 * 1))) (keep_eq h6) (eC 3 (keep (hT 5 [(oC [(zI (0:Int)),(.slice none 0 0),(.slice none 0 0)]),(oC [zI x0,(sc 3 0 1 (Sl.n s0) (d2 (Sl.n s0))),(sc 4 0 1 (Sl.n s1) (d2 (Sl.n s1)))]),(oC (takeL ((Sl.n s0) * 1) (Sl.cs s0))),(oC (takeL ((Sl.n s1) * 1) (Sl.cs s1)))]) (bb (an (Nat.blt k2 (Sl.n s0)) true) (some (.pointer (some ⟨3,(0 + k2 * 1),none⟩))) none)) (keep_bb h8) (by kernel_rfl)))) (eD (keep (hT 5 [(oC [(zI (0:Int)),(.slice none 0 0),(.slice none 0 0)]),(oC [zI x0,(sc 3 0 1 (Sl.n s0) (d2 (Sl.n s0))),(sc 4 0 1 (Sl.n s1) (d2 (Sl.n s1)))]),(oC (takeL ((Sl.n s0) * 1) (Sl.cs s0))),(oC (takeL ((Sl.n s1) * 1) (Sl.cs s1)))]) (nthL (takeL ((Sl.n s0) * 1) (Sl.cs s0)) (0 + k2 * 1))) (keep_eq h9) (eD (keep (hT 5 [(oC [(zI (0:Int)),(.slice none 0 0),(.slice none 0 0)]),(oC [zI x0,(sc 3 0 1 (Sl.n s0) (d2 (Sl.n s0))),(sc 4 0 1 (Sl.n s1) (d2 (Sl.n s1)))]),(oC (takeL ((Sl.n s0) * 1) (Sl.cs s0))),(oC (takeL ((Sl.n s1) * 1) (Sl.cs s1)))]) (bb (an (Nat.blt k2 (Sl.n s0)) true) (some (.pointer (some ⟨3,(0 + k2 * 1),none⟩))) none)) (keep_bb h10) (eD (done (bb (an (Nat.ble ((0 + k2 * 1) + 1) (len (takeL ((Sl.n s0) * 1) (Sl.cs s0)))) true) (some (hT 5 [(oC [(zI (0:Int)),(.slice none 0 0),(.slice none 0 0)]),(oC [zI x0,(sc 3 0 1 (Sl.n s0) (d2 (Sl.n s0))),(sc 4 0 1 (Sl.n s1) (d2 (Sl.n s1)))]),(oC (setL ([zI x3]:LV) (0 + k2 * 1) (takeL ((Sl.n s0) * 1) (Sl.cs s0)))),(oC (takeL ((Sl.n s1) * 1) (Sl.cs s1)))])) none) undef) (done_bb h11) (eD (keep (hT 5 [(oC [(zI (0:Int)),(.slice none 0 0),(.slice none 0 0)]),(oC [zI x0,(sc 3 0 1 (Sl.n s0) (d2 (Sl.n s0))),(sc 4 0 1 (Sl.n s1) (d2 (Sl.n s1)))]),(oC (setL ([zI x3]:LV) (0 + k2 * 1) (takeL ((Sl.n s0) * 1) (Sl.cs s0)))),(oC (takeL ((Sl.n s1) * 1) (Sl.cs s1)))]) (bb (an (Nat.blt k1 (Sl.n s0)) true) (some (.pointer (some ⟨3,(0 + k1 * 1),none⟩))) none)) (keep_bb h12) (eD (done (bb (an (Nat.ble ((0 + k1 * 1) + 1) (len (setL ([zI x3]:LV) (0 + k2 * 1) (takeL ((Sl.n s0) * 1) (Sl.cs s0))))) true) (some (hT 5 [(oC [(zI (0:Int)),(.slice none 0 0),(.slice none 0 0)]),(oC [zI x0,(sc 3 0 1 (Sl.n s0) (d2 (Sl.n s0))),(sc 4 0 1 (Sl.n s1) (d2 (Sl.n s1)))]),(oC (setL ([zI x4]:LV) (0 + k1 * 1) (setL ([zI x3]:LV) (0 + k2 * 1) (takeL ((Sl.n s0) * 1) (Sl.cs s0))))),(oC (takeL ((Sl.n s1) * 1) (Sl.cs s1)))])) none) undef) (done_bb h13) (eE))))))) ?_
 replace hm:=bb_inv hm;obtain ⟨h14,hm⟩:=hm
 refine .ghs (fr 36 [(6,pt 1 0),(7,(pt 2 0))]) (hT 5 [(oC [(zI (0:Int)),(.slice none 0 0),(.slice none 0 0)]),(oC [zI x0,(sc 3 0 1 (Sl.n s0) (d2 (Sl.n s0))),(sc 4 0 1 (Sl.n s1) (d2 (Sl.n s1)))]),(oC (setL ([zI x4]:LV) (0 + k1 * 1) (setL ([zI x3]:LV) (0 + k2 * 1) (takeL ((Sl.n s0) * 1) (Sl.cs s0))))),(oC (takeL ((Sl.n s1) * 1) (Sl.cs s1)))]) (.k [3,4] [false] [.tmp 6 false,.tmp 7 true,.cell 2 1 false,.cell 2 2 false] [6,7] ⟨trF h14,trF h3,trivial⟩) ?_
 refine .then (.rK ?_)
 refine .ghs (fr 36 [(6,pt 1 0)]) (hT 4 [(oC [zI x0,(sc 2 0 1 (Sl.n s0) (d2 (Sl.n s0))),(sc 3 0 1 (Sl.n s1) (d2 (Sl.n s1)))]),(oC (setL ([zI x4]:LV) (0 + k1 * 1) (setL ([zI x3]:LV) (0 + k2 * 1) (takeL ((Sl.n s0) * 1) (Sl.cs s0))))),(oC (takeL ((Sl.n s1) * 1) (Sl.cs s1)))]) (.k [3,4] [false] [.tmp 6 true,.cell 1 1 false,.cell 1 2 false] [6] ⟨trF h14,trF h3,trivial⟩) ?_
 refine .ret ?_
 replace hm:=bb_inv hm;obtain ⟨h15,hm⟩:=hm
 replace hm:=bb_inv hm;obtain ⟨h16,hm⟩:=hm
 exact finT_ret (.agg ⟨[zI x0,(sc 2 0 1 (Sl.n s0) (d2 (Sl.n s0))),(sc 3 0 1 (Sl.n s1) (d2 (Sl.n s1)))]⟩) (.agg ⟨[zI x0,(Sl.v 1 (Sl.mk (Sl.n s0) 0 (takeL ((Sl.n s0) * 1) (dropL 0 (setL ([zI x4]:LV) (0 + k1 * 1) (setL ([zI x3]:LV) (0 + k2 * 1) (takeL ((Sl.n s0) * 1) (Sl.cs s0)))))))),(Sl.v 1 (Sl.mk (Sl.n s1) 0 (takeL ((Sl.n s1) * 1) (dropL 0 (takeL ((Sl.n s1) * 1) (Sl.cs s1))))))]⟩) (by kernel_rfl) (Tell.agg (.cons (Tell.refl _ _ _) (.cons (Tell.frz (v':=(Sl.v 1 (Sl.mk (Sl.n s0) 0 (takeL ((Sl.n s0) * 1) (dropL 0 (setL ([zI x4]:LV) (0 + k1 * 1) (setL ([zI x3]:LV) (0 + k2 * 1) (takeL ((Sl.n s0) * 1) (Sl.cs s0))))))))) (H1:=(hT 4 [(oC [zI x0,(sc 2 0 1 (Sl.n s0) (d2 (Sl.n s0))),(sc 3 0 1 (Sl.n s1) (d2 (Sl.n s1)))]),.dead,(oC (takeL ((Sl.n s1) * 1) (Sl.cs s1)))])) 1 false (an (Nat.ble (0 + (Sl.n s0) * 1) (len (setL ([zI x4]:LV) (0 + k1 * 1) (setL ([zI x3]:LV) (0 + k2 * 1) (takeL ((Sl.n s0) * 1) (Sl.cs s0)))))) (allL closed1 (takeL ((Sl.n s0) * 1) (dropL 0 (setL ([zI x4]:LV) (0 + k1 * 1) (setL ([zI x3]:LV) (0 + k2 * 1) (takeL ((Sl.n s0) * 1) (Sl.cs s0)))))))) (by kernel_rfl) (by kernel_rfl) h15) (.cons (Tell.frz (v':=(Sl.v 1 (Sl.mk (Sl.n s1) 0 (takeL ((Sl.n s1) * 1) (dropL 0 (takeL ((Sl.n s1) * 1) (Sl.cs s1))))))) (H1:=(hT 4 [(oC [zI x0,(sc 2 0 1 (Sl.n s0) (d2 (Sl.n s0))),(sc 3 0 1 (Sl.n s1) (d2 (Sl.n s1)))]),.dead,.dead])) 1 false (an (Nat.ble (0 + (Sl.n s1) * 1) (len (takeL ((Sl.n s1) * 1) (Sl.cs s1)))) (allL closed1 (takeL ((Sl.n s1) * 1) (dropL 0 (takeL ((Sl.n s1) * 1) (Sl.cs s1)))))) (by kernel_rfl) (by kernel_rfl) h16) (TellL.nil _))))) (by kernel_rfl) hm

def m44_ (pu:PureF) (n:Nat) (x0:Int) (s0 s1:Sl):OV:=
 (oo (pu 51 [(.agg ⟨[.int .i64 x0,Sl.v 1 s0,Sl.v 1 s1]⟩)]) none fun v0=>(oo (toI .u16 v0) none fun x1=>(oo (pu 64 [.int .u16 x1]) none fun v1=>(oo (toI .i64 v1) none fun x2=>(oo (pu 10650 [(.agg ⟨[.int .i64 x0,Sl.v 1 s0,Sl.v 1 s1]⟩)]) none fun v2=>(oo (vTup v2) none fun l0=>(ll l0 none fun v3 l0=>(ll l0 none fun v4 l0=>(ll l0 none fun v5 l0=>(ll l0 (bb (isPt v3 1 0) (oo (vAgg v4) none fun l1=>(ll l1 none fun v6 l1=>(ll l1 none fun v7 l1=>(ll l1 none fun v8 l1=>(ll l1 none fun v9 l1=>(ll l1 (oo (toI .i64 v6) none fun x3=>(oo (toSl 1 v7) none fun s2=>(oo (toSl 1 v8) none fun s3=>(bb (isMp v9 2) (oo (vMapO v5) none fun y0=>(bb (allL entClosed (MapV.es y0)) (bb (allL entClosed (MapV.es y0)) (oo (pu 10660 [(.pointer (some ⟨1,0,none⟩)),.int .u16 x1,(.agg ⟨[.int .i64 x3,Sl.v 1 s2,Sl.v 1 s3,(.map (some 2))]⟩),(encO (.map (MapV.es y0) (MapV.clock y0)))]) none fun v10=>(oo (vTup v10) none fun l2=>(ll l2 none fun v11 l2=>(ll l2 none fun v12 l2=>(ll l2 none fun v13 l2=>(ll l2 (oo (toI .i64 v11) none fun x4=>(oo (vAgg v12) none fun l3=>(ll l3 none fun v14 l3=>(ll l3 none fun v15 l3=>(ll l3 none fun v16 l3=>(ll l3 none fun v17 l3=>(ll l3 (oo (toI .i64 v14) none fun x5=>(oo (toSl 1 v15) none fun s4=>(oo (toSl 1 v16) none fun s5=>(bb (isMp v17 2) (oo (vMapO v13) none fun y1=>(bb (allL entClosed (MapV.es y1)) (some (.int .i64 (wrapF .i64 (Int.sub x2 x4)))) none)) none)))) fun _ _=>none))))))) fun _ _=>none)))))) none) none)) none)))) fun _ _=>none)))))) none) fun _ _=>none))))))))))
def m44 (pu:PureF) (n:Nat) (args:LV):OV:=
 (ll args none fun a0 args=>(ll args (oo (vAgg a0) none fun l0=>(ll l0 none fun v0 l0=>(ll l0 none fun v1 l0=>(ll l0 none fun v2 l0=>(ll l0 (oo (toI .i64 v0) none fun x0=>(oo (toSl 1 v1) none fun s0=>(oo (toSl 1 v2) none fun s1=>(m44_ pu n x0 s0 s1)))) fun _ _=>none))))) fun _ _=>none))
theorem r44 {call:CallF} (pu:PureF) (n:Nat) (hcall:call = callP tabs isP pu (inl pu)) {args:LV} {v:Value} (hm:m44 pu n args = some v) (_:∀ x ∈ args,closed2 x = true):args.length≤13∧Run tt call 1 c44_5 (Fr.made 13 args) (pureHeap tabs) (Fin tt 1 [.tmp 2] v):=by
 subst hcall
 unfold m44 at hm
 replace hm:=ll_uncons hm;obtain ⟨a0,args_0,rfl,hm⟩:=hm
 replace hm:=ll_end hm;obtain ⟨rfl,hm⟩:=hm
 replace hm:=inv_vAgg hm;obtain ⟨l0,rfl,hm⟩:=hm
 replace hm:=ll_uncons hm;obtain ⟨v0,l2041_0,rfl,hm⟩:=hm
 replace hm:=ll_uncons hm;obtain ⟨v1,l2041_1,rfl,hm⟩:=hm
 replace hm:=ll_uncons hm;obtain ⟨v2,l2041_2,rfl,hm⟩:=hm
 replace hm:=ll_end hm;obtain ⟨rfl,hm⟩:=hm
 replace hm:=inv_toI hm;obtain ⟨x0,rfl,hm⟩:=hm
 replace hm:=inv_toSl hm;obtain ⟨s0,rfl,hm⟩:=hm
 replace hm:=inv_toSl hm;obtain ⟨s1,rfl,hm⟩:=hm
 unfold m44_ at hm
 refine ⟨by simp,?_⟩
 refine .same (F':=(fr 13 [(0,(.agg ⟨[zI x0,Sl.v 1 s0,Sl.v 1 s1]⟩))])) (H':=(hp 1 [(oT tab0)])) (by kernel_rfl) (by kernel_rfl) ?_
 refine .then (.rK ?_)
 refine .ghs (fr 13 [(1,pt 1 0)]) (hT 2 [(oC [zI x0,Sl.v 1 s0,Sl.v 1 s1])]) (.k0 [false] [.tmp 1 false] [1]) ?_
 refine .then ?_
 replace hm:=oo_inv hm;obtain ⟨v3,h0,hm⟩:=hm
 replace hm:=inv_toI hm;obtain ⟨x1,rfl,hm⟩:=hm
 refine .reg (eC 1 ((oo (pu 51 [(.agg ⟨[zI x0,Sl.v 1 s0,Sl.v 1 s1]⟩)]) none fun v=>some (v,(hT 2 [(oC [zI x0,Sl.v 1 s0,Sl.v 1 s1])])))) (call_eq h0) (eE)) ?_
 refine .ghs (fr 13 [(1,pt 1 0),(3,.int .u16 x1)]) (hT 2 [(oC [zI x0,Sl.v 1 s0,Sl.v 1 s1])]) (.k0 [false] [.tmp 1 false] [1,3]) ?_
 refine .then ?_
 replace hm:=oo_inv hm;obtain ⟨v4,h1,hm⟩:=hm
 replace hm:=inv_toI hm;obtain ⟨x2,rfl,hm⟩:=hm
 replace hm:=oo_inv hm;obtain ⟨v5,h2,hm⟩:=hm
 replace hm:=inv_vTup hm;obtain ⟨l1,rfl,hm⟩:=hm
 replace hm:=ll_uncons hm;obtain ⟨v6,l2438_0,rfl,hm⟩:=hm
 replace hm:=ll_uncons hm;obtain ⟨v7,l2438_1,rfl,hm⟩:=hm
 replace hm:=ll_uncons hm;obtain ⟨v8,l2438_2,rfl,hm⟩:=hm
 replace hm:=ll_end hm;obtain ⟨rfl,hm⟩:=hm
 replace hm:=bb_inv hm;obtain ⟨h3,hm⟩:=hm
 obtain rfl:=isPt_ok h3
 replace hm:=inv_vAgg hm;obtain ⟨l2,rfl,hm⟩:=hm
 replace hm:=ll_uncons hm;obtain ⟨v9,l2444_0,rfl,hm⟩:=hm
 replace hm:=ll_uncons hm;obtain ⟨v10,l2444_1,rfl,hm⟩:=hm
 replace hm:=ll_uncons hm;obtain ⟨v11,l2444_2,rfl,hm⟩:=hm
 replace hm:=ll_uncons hm;obtain ⟨v12,l2444_3,rfl,hm⟩:=hm
 replace hm:=ll_end hm;obtain ⟨rfl,hm⟩:=hm
 replace hm:=inv_toI hm;obtain ⟨x3,rfl,hm⟩:=hm
 replace hm:=inv_toSl hm;obtain ⟨s2,rfl,hm⟩:=hm
 replace hm:=inv_toSl hm;obtain ⟨s3,rfl,hm⟩:=hm
 replace hm:=bb_inv hm;obtain ⟨h4,hm⟩:=hm
 obtain rfl:=isMp_ok h4
 replace hm:=oo_inv hm;obtain ⟨y0,h5,hm⟩:=hm
 replace hm:=bb_inv hm;obtain ⟨h6,hm⟩:=hm
 replace hm:=bb_inv hm;obtain ⟨h7,hm⟩:=hm
 replace hm:=oo_inv hm;obtain ⟨v13,h8,hm⟩:=hm
 replace hm:=inv_vTup hm;obtain ⟨l3,rfl,hm⟩:=hm
 replace hm:=ll_uncons hm;obtain ⟨v14,l2469_0,rfl,hm⟩:=hm
 replace hm:=ll_uncons hm;obtain ⟨v15,l2469_1,rfl,hm⟩:=hm
 replace hm:=ll_uncons hm;obtain ⟨v16,l2469_2,rfl,hm⟩:=hm
 replace hm:=ll_end hm;obtain ⟨rfl,hm⟩:=hm
 replace hm:=inv_toI hm;obtain ⟨x4,rfl,hm⟩:=hm
 replace hm:=inv_vAgg hm;obtain ⟨l4,rfl,hm⟩:=hm
 replace hm:=ll_uncons hm;obtain ⟨v17,l2476_0,rfl,hm⟩:=hm
 replace hm:=ll_uncons hm;obtain ⟨v18,l2476_1,rfl,hm⟩:=hm
 replace hm:=ll_uncons hm;obtain ⟨v19,l2476_2,rfl,hm⟩:=hm
 replace hm:=ll_uncons hm;obtain ⟨v20,l2476_3,rfl,hm⟩:=hm
 replace hm:=ll_end hm;obtain ⟨rfl,hm⟩:=hm
 replace hm:=inv_toI hm;obtain ⟨x5,rfl,hm⟩:=hm
 replace hm:=inv_toSl hm;obtain ⟨s4,rfl,hm⟩:=hm
 replace hm:=inv_toSl hm;obtain ⟨s5,rfl,hm⟩:=hm
 replace hm:=bb_inv hm;obtain ⟨h9,hm⟩:=hm
 obtain rfl:=isMp_ok h9
 replace hm:=oo_inv hm;obtain ⟨y1,h10,hm⟩:=hm
 replace hm:=bb_inv hm;obtain ⟨h11,hm⟩:=hm
 refine .reg (eC 3 ((oo (pu 64 [.int .u16 x1]) none fun v=>some (v,(hT 2 [(oC [zI x0,Sl.v 1 s0,Sl.v 1 s1])])))) (call_eq h1) (eD (objG tabs [[none,some 1,some 1]] 1 [] [true,false] (pu 10650) [(.agg ⟨[zI x0,Sl.v 1 s0,Sl.v 1 s1]⟩)] (hT 2 [(oC [zI x0,Sl.v 1 s0,Sl.v 1 s1])])) (objG_eq (as:=[(.agg ⟨[zI x0,Sl.v 1 s0,Sl.v 1 s1]⟩)]) (H1:=(hT 2 [(oC [zI x0,Sl.v 1 s0,Sl.v 1 s1])])) (gvAL_c (gvA_a (gvL_c gv_n (gvL_c (gv_s (giveV_cl (z:=1) (v:=(Sl.v 1 s0)) (H:=(hT 2 [(oC [zI x0,Sl.v 1 s0,Sl.v 1 s1])])) (by kernel_rfl) (by kernel_rfl) (by kernel_rfl))) (gvL_c (gv_s (giveV_cl (z:=1) (v:=(Sl.v 1 s1)) (H:=(hT 2 [(oC [zI x0,Sl.v 1 s0,Sl.v 1 s1])])) (by kernel_rfl) (by kernel_rfl) (by kernel_rfl))) gvL_n)))) gvAL_n) (objF_eq (H2:=(hT 4 [(oC [zI x0,Sl.v 1 s0,Sl.v 1 s1]),(oC [zI x3,Sl.v 1 s2,Sl.v 1 s3,(.map (some 3))]),(.map (MapV.es y0) (MapV.clock y0))])) (v:=(pt 1 0)) (v':=(pt 2 0)) [some 0] [] [] [(.agg ⟨[zI x0,Sl.v 1 s0,Sl.v 1 s1]⟩)] [(.agg ⟨[zI x3,Sl.v 1 s2,Sl.v 1 s3,(.map (some 2))]⟩),v8] [(oC [zI x3,Sl.v 1 s2,Sl.v 1 s3,(.map (some 2))]),(.map (MapV.es y0) (MapV.clock y0))] [some 0,none,some 1,some 2] [(true,(oC [zI x3,Sl.v 1 s2,Sl.v 1 s3,(.map (some 2))])),(false,(.map (MapV.es y0) (MapV.clock y0)))] [(oC [zI x3,Sl.v 1 s2,Sl.v 1 s3,(.map (some 3))]),(.map (MapV.es y0) (MapV.clock y0))] (by kernel_rfl) mapO_n (Eq.trans (by kernel_rfl) h2) (mapO_c rfl (mapO_c (vMapO_some h5) mapO_n)) (mapO_c (by kernel_rfl) (mapO_c (bO_map h6) mapO_n)))) (eD (objG tabs [[none],[none]] 2 [.tmp 0 true,.cell 1 3 false] [true,false] (pu 10660) [(pt 2 0),.int .u16 x1] (hT 4 [(oC [zI x0,Sl.v 1 s0,Sl.v 1 s1]),(oC [zI x3,Sl.v 1 s2,Sl.v 1 s3,(.map (some 3))]),(.map (MapV.es y0) (MapV.clock y0))])) (objG_eq (as:=[(pt 2 0),.int .u16 x1]) (H1:=(hT 4 [(oC [zI x0,Sl.v 1 s0,Sl.v 1 s1]),(oC [zI x3,Sl.v 1 s2,Sl.v 1 s3,(.map (some 3))]),(.map (MapV.es y0) (MapV.clock y0))])) (gvAL_c (gvA_1 gv_n) (gvAL_c (gvA_1 gv_n) gvAL_n)) (objF_eq (H2:=(hT 4 [(oC [zI x0,Sl.v 1 s0,Sl.v 1 s1]),(oC [zI x5,Sl.v 1 s4,Sl.v 1 s5,(.map (some 3))]),(.map (MapV.es y1) (MapV.clock y1))])) (v:=(zI x4)) (v':=(zI x4)) [some 0,some 2,some 3] [(true,some 2),(false,some 3)] [(oC [zI x3,Sl.v 1 s2,Sl.v 1 s3,(.map (some 2))]),(.map (MapV.es y0) (MapV.clock y0))] [pt 1 0,.int .u16 x1] [(.agg ⟨[zI x5,Sl.v 1 s4,Sl.v 1 s5,(.map (some 2))]⟩),v16] [(oC [zI x5,Sl.v 1 s4,Sl.v 1 s5,(.map (some 2))]),(.map (MapV.es y1) (MapV.clock y1))] [some 0,none,some 1,some 2] [(true,(oC [zI x5,Sl.v 1 s4,Sl.v 1 s5,(.map (some 2))])),(false,(.map (MapV.es y1) (MapV.clock y1)))] [(oC [zI x5,Sl.v 1 s4,Sl.v 1 s5,(.map (some 3))]),(.map (MapV.es y1) (MapV.clock y1))] (by kernel_rfl) (mapO_c (by kernel_rfl) (mapO_c (nO_map h7) mapO_n)) (Eq.trans (by kernel_rfl) h8) (mapO_c rfl (mapO_c (vMapO_some h10) mapO_n)) (mapO_c (by kernel_rfl) (mapO_c (bO_map h11) mapO_n)))) (eE)))) ?_
 refine .ghs (fr 13 [(2,(zI (wrapF .i64 (Int.sub x2 x4))))]) (hp 1 [(oT tab0)]) (.k0 [false] [] [2]) ?_
 refine .ret ?_
 exact fin_ret (zI (wrapF .i64 (Int.sub x2 x4))) (by kernel_rfl) (by kernel_rfl) hm

def m45_ (pu:PureF) (n:Nat) (x0:Int) (s0 s1:Sl):OV:=
 (oo (pu 56 [(.agg ⟨[.int .i64 x0,Sl.v 1 s0,Sl.v 1 s1]⟩)]) none fun v0=>(oo (toSl 1 v0) none fun s2=>(oo (pu 50 [(.agg ⟨[.int .i64 x0,Sl.v 1 s0,Sl.v 1 s1]⟩)]) none fun v1=>(oo (toSl 1 v1) none fun s3=>(some (.int .i64 (wrapF .i64 (Int.sub (Int.ofNat (Sl.n s2)) (Int.ofNat (Sl.n s3))))))))))
def m45 (pu:PureF) (n:Nat) (args:LV):OV:=
 (ll args none fun a0 args=>(ll args (oo (vAgg a0) none fun l0=>(ll l0 none fun v0 l0=>(ll l0 none fun v1 l0=>(ll l0 none fun v2 l0=>(ll l0 (oo (toI .i64 v0) none fun x0=>(oo (toSl 1 v1) none fun s0=>(oo (toSl 1 v2) none fun s1=>(m45_ pu n x0 s0 s1)))) fun _ _=>none))))) fun _ _=>none))
theorem r45 {call:CallF} (pu:PureF) (n:Nat) (hcall:call = callP tabs isP pu (inl pu)) {args:LV} {v:Value} (hm:m45 pu n args = some v) (_:∀ x ∈ args,closed2 x = true):args.length≤10∧Run tt call 1 c45_3 (Fr.made 10 args) (pureHeap tabs) (Fin tt 1 [.tmp 2] v):=by
 subst hcall
 unfold m45 at hm
 replace hm:=ll_uncons hm;obtain ⟨a0,args_0,rfl,hm⟩:=hm
 replace hm:=ll_end hm;obtain ⟨rfl,hm⟩:=hm
 replace hm:=inv_vAgg hm;obtain ⟨l0,rfl,hm⟩:=hm
 replace hm:=ll_uncons hm;obtain ⟨v0,l2492_0,rfl,hm⟩:=hm
 replace hm:=ll_uncons hm;obtain ⟨v1,l2492_1,rfl,hm⟩:=hm
 replace hm:=ll_uncons hm;obtain ⟨v2,l2492_2,rfl,hm⟩:=hm
 replace hm:=ll_end hm;obtain ⟨rfl,hm⟩:=hm
 replace hm:=inv_toI hm;obtain ⟨x0,rfl,hm⟩:=hm
 replace hm:=inv_toSl hm;obtain ⟨s0,rfl,hm⟩:=hm
 replace hm:=inv_toSl hm;obtain ⟨s1,rfl,hm⟩:=hm
 unfold m45_ at hm
 refine ⟨by simp,?_⟩
 refine .same (F':=(fr 10 [(0,(.agg ⟨[zI x0,Sl.v 1 s0,Sl.v 1 s1]⟩))])) (H':=(hp 1 [(oT tab0)])) (by kernel_rfl) (by kernel_rfl) ?_
 refine .then (.rK ?_)
 refine .ghs (fr 10 [(1,pt 1 0)]) (hT 2 [(oC [zI x0,Sl.v 1 s0,Sl.v 1 s1])]) (.k0 [false] [.tmp 1 false] [1]) ?_
 refine .then ?_
 replace hm:=oo_inv hm;obtain ⟨v3,h0,hm⟩:=hm
 replace hm:=inv_toSl hm;obtain ⟨s2,rfl,hm⟩:=hm
 replace hm:=oo_inv hm;obtain ⟨v4,h1,hm⟩:=hm
 replace hm:=inv_toSl hm;obtain ⟨s3,rfl,hm⟩:=hm
 refine .reg (eC 2 ((oo (pu 56 [(.agg ⟨[zI x0,Sl.v 1 s0,Sl.v 1 s1]⟩)]) none fun v=>some (v,(hT 2 [(oC [zI x0,Sl.v 1 s0,Sl.v 1 s1])])))) (call_eq h0) (eC 1 ((oo (pu 50 [(.agg ⟨[zI x0,Sl.v 1 s0,Sl.v 1 s1]⟩)]) none fun v=>some (v,(hT 2 [(oC [zI x0,Sl.v 1 s0,Sl.v 1 s1])])))) (call_eq h1) (eE))) ?_
 refine .ghs (fr 10 [(2,(zI (wrapF .i64 (Int.sub (Int.ofNat (Sl.n s2)) (Int.ofNat (Sl.n s3))))))]) (hp 1 [(oT tab0)]) (.k0 [false] [] [2]) ?_
 refine .ret ?_
 exact fin_ret (zI (wrapF .i64 (Int.sub (Int.ofNat (Sl.n s2)) (Int.ofNat (Sl.n s3))))) (by kernel_rfl) (by kernel_rfl) hm

def m46_ (pu:PureF) (n:Nat) (x0:Int) (s0 s1:Sl) (x1 x2:Int):OV:=
 (bb (Nat.beq (Sl.n s0) 0) (bb (Nat.beq (Sl.n s1) 0) (oo (toN x2) none fun k1=>(bb (an (Nat.blt k1 0) true) (oo (nthL ([]:LV) (0 + k1 * 1)) none fun v0=>(oo (toI .i64 v0) none fun x3=>(oo (toN x1) none fun k2=>(bb (an (Nat.blt k2 0) true) (oo (nthL ([]:LV) (0 + k2 * 1)) none fun v1=>(oo (toI .i64 v1) none fun x4=>(bb (an (Nat.blt k2 0) true) (bb (an (Nat.ble ((0 + k2 * 1) + 1) (len ([]:LV))) true) (bb (an (Nat.blt k1 0) true) (bb (an (Nat.ble ((0 + k1 * 1) + 1) (len (setL ([.int .i64 x3]:LV) (0 + k2 * 1) ([]:LV)))) true) (bb (allL closed1 (setL ([.int .i64 x4]:LV) (0 + k1 * 1) (setL ([.int .i64 x3]:LV) (0 + k2 * 1) ([]:LV)))) (bb (an (Nat.ble (0 + 0 * 1) (len (setL ([.int .i64 x4]:LV) (0 + k1 * 1) (setL ([.int .i64 x3]:LV) (0 + k2 * 1) ([]:LV))))) (allL closed1 (takeL (0 * 1) (dropL 0 (setL ([.int .i64 x4]:LV) (0 + k1 * 1) (setL ([.int .i64 x3]:LV) (0 + k2 * 1) ([]:LV))))))) (some (.agg ⟨[.int .i64 x0,(Sl.v 1 (Sl.mk 0 0 (takeL (0 * 1) (dropL 0 (setL ([.int .i64 x4]:LV) (0 + k1 * 1) (setL ([.int .i64 x3]:LV) (0 + k2 * 1) ([]:LV))))))),(Sl.v 1 (Sl.mk 0 0 (takeL (0 * 1) (dropL 0 ([]:LV)))))]⟩)) none) none) none) none) none) none))) none)))) none)) (bb (roomy (0 + (Sl.n s1)) 8) (bb (allL closed1 (takeL ((Sl.n s1) * 1) (Sl.cs s1))) (oo (toN x2) none fun k3=>(bb (an (Nat.blt k3 0) true) (oo (nthL ([]:LV) (0 + k3 * 1)) none fun v2=>(oo (toI .i64 v2) none fun x5=>(oo (toN x1) none fun k4=>(bb (an (Nat.blt k4 0) true) (oo (nthL ([]:LV) (0 + k4 * 1)) none fun v3=>(oo (toI .i64 v3) none fun x6=>(bb (an (Nat.blt k4 0) true) (bb (an (Nat.ble ((0 + k4 * 1) + 1) (len ([]:LV))) true) (bb (an (Nat.blt k3 0) true) (bb (an (Nat.ble ((0 + k3 * 1) + 1) (len (setL ([.int .i64 x5]:LV) (0 + k4 * 1) ([]:LV)))) true) (bb (allL closed1 (setL ([.int .i64 x6]:LV) (0 + k3 * 1) (setL ([.int .i64 x5]:LV) (0 + k4 * 1) ([]:LV)))) (bb (an (Nat.ble (0 + 0 * 1) (len (setL ([.int .i64 x6]:LV) (0 + k3 * 1) (setL ([.int .i64 x5]:LV) (0 + k4 * 1) ([]:LV))))) (allL closed1 (takeL (0 * 1) (dropL 0 (setL ([.int .i64 x6]:LV) (0 + k3 * 1) (setL ([.int .i64 x5]:LV) (0 + k4 * 1) ([]:LV))))))) (bb (an (Nat.ble (0 + (0 + (Sl.n s1)) * 1) (len (takeL ((Sl.n s1) * 1) (Sl.cs s1)))) (allL closed1 (takeL ((0 + (Sl.n s1)) * 1) (dropL 0 (takeL ((Sl.n s1) * 1) (Sl.cs s1)))))) (some (.agg ⟨[.int .i64 x0,(Sl.v 1 (Sl.mk 0 0 (takeL (0 * 1) (dropL 0 (setL ([.int .i64 x6]:LV) (0 + k3 * 1) (setL ([.int .i64 x5]:LV) (0 + k4 * 1) ([]:LV))))))),(Sl.v 1 (Sl.mk (0 + (Sl.n s1)) 0 (takeL ((0 + (Sl.n s1)) * 1) (dropL 0 (takeL ((Sl.n s1) * 1) (Sl.cs s1))))))]⟩)) none) none) none) none) none) none) none))) none)))) none)) none) none)) (bb (roomy (0 + (Sl.n s0)) 8) (bb (Nat.beq (Sl.n s1) 0) (bb (allL closed1 (takeL ((Sl.n s0) * 1) (Sl.cs s0))) (oo (toN x2) none fun k5=>(bb (an (Nat.blt k5 (0 + (Sl.n s0))) true) (oo (nthL (takeL ((Sl.n s0) * 1) (Sl.cs s0)) (0 + k5 * 1)) none fun v4=>(oo (toI .i64 v4) none fun x7=>(oo (toN x1) none fun k6=>(bb (an (Nat.blt k6 (0 + (Sl.n s0))) true) (oo (nthL (takeL ((Sl.n s0) * 1) (Sl.cs s0)) (0 + k6 * 1)) none fun v5=>(oo (toI .i64 v5) none fun x8=>(bb (an (Nat.blt k6 (0 + (Sl.n s0))) true) (bb (an (Nat.ble ((0 + k6 * 1) + 1) (len (takeL ((Sl.n s0) * 1) (Sl.cs s0)))) true) (bb (an (Nat.blt k5 (0 + (Sl.n s0))) true) (bb (an (Nat.ble ((0 + k5 * 1) + 1) (len (setL ([.int .i64 x7]:LV) (0 + k6 * 1) (takeL ((Sl.n s0) * 1) (Sl.cs s0))))) true) (bb (allL closed1 (setL ([.int .i64 x8]:LV) (0 + k5 * 1) (setL ([.int .i64 x7]:LV) (0 + k6 * 1) (takeL ((Sl.n s0) * 1) (Sl.cs s0))))) (bb (an (Nat.ble (0 + (0 + (Sl.n s0)) * 1) (len (setL ([.int .i64 x8]:LV) (0 + k5 * 1) (setL ([.int .i64 x7]:LV) (0 + k6 * 1) (takeL ((Sl.n s0) * 1) (Sl.cs s0)))))) (allL closed1 (takeL ((0 + (Sl.n s0)) * 1) (dropL 0 (setL ([.int .i64 x8]:LV) (0 + k5 * 1) (setL ([.int .i64 x7]:LV) (0 + k6 * 1) (takeL ((Sl.n s0) * 1) (Sl.cs s0)))))))) (some (.agg ⟨[.int .i64 x0,(Sl.v 1 (Sl.mk (0 + (Sl.n s0)) 0 (takeL ((0 + (Sl.n s0)) * 1) (dropL 0 (setL ([.int .i64 x8]:LV) (0 + k5 * 1) (setL ([.int .i64 x7]:LV) (0 + k6 * 1) (takeL ((Sl.n s0) * 1) (Sl.cs s0)))))))),(Sl.v 1 (Sl.mk 0 0 (takeL (0 * 1) (dropL 0 ([]:LV)))))]⟩)) none) none) none) none) none) none))) none)))) none)) none) (bb (roomy (0 + (Sl.n s1)) 8) (bb (allL closed1 (takeL ((Sl.n s0) * 1) (Sl.cs s0))) (bb (allL closed1 (takeL ((Sl.n s1) * 1) (Sl.cs s1))) (oo (toN x2) none fun k7=>(bb (an (Nat.blt k7 (0 + (Sl.n s0))) true) (oo (nthL (takeL ((Sl.n s0) * 1) (Sl.cs s0)) (0 + k7 * 1)) none fun v6=>(oo (toI .i64 v6) none fun x9=>(oo (toN x1) none fun k8=>(bb (an (Nat.blt k8 (0 + (Sl.n s0))) true) (oo (nthL (takeL ((Sl.n s0) * 1) (Sl.cs s0)) (0 + k8 * 1)) none fun v7=>(oo (toI .i64 v7) none fun x10=>(bb (an (Nat.blt k8 (0 + (Sl.n s0))) true) (bb (an (Nat.ble ((0 + k8 * 1) + 1) (len (takeL ((Sl.n s0) * 1) (Sl.cs s0)))) true) (bb (an (Nat.blt k7 (0 + (Sl.n s0))) true) (bb (an (Nat.ble ((0 + k7 * 1) + 1) (len (setL ([.int .i64 x9]:LV) (0 + k8 * 1) (takeL ((Sl.n s0) * 1) (Sl.cs s0))))) true) (bb (allL closed1 (setL ([.int .i64 x10]:LV) (0 + k7 * 1) (setL ([.int .i64 x9]:LV) (0 + k8 * 1) (takeL ((Sl.n s0) * 1) (Sl.cs s0))))) (bb (an (Nat.ble (0 + (0 + (Sl.n s0)) * 1) (len (setL ([.int .i64 x10]:LV) (0 + k7 * 1) (setL ([.int .i64 x9]:LV) (0 + k8 * 1) (takeL ((Sl.n s0) * 1) (Sl.cs s0)))))) (allL closed1 (takeL ((0 + (Sl.n s0)) * 1) (dropL 0 (setL ([.int .i64 x10]:LV) (0 + k7 * 1) (setL ([.int .i64 x9]:LV) (0 + k8 * 1) (takeL ((Sl.n s0) * 1) (Sl.cs s0)))))))) (bb (an (Nat.ble (0 + (0 + (Sl.n s1)) * 1) (len (takeL ((Sl.n s1) * 1) (Sl.cs s1)))) (allL closed1 (takeL ((0 + (Sl.n s1)) * 1) (dropL 0 (takeL ((Sl.n s1) * 1) (Sl.cs s1)))))) (some (.agg ⟨[.int .i64 x0,(Sl.v 1 (Sl.mk (0 + (Sl.n s0)) 0 (takeL ((0 + (Sl.n s0)) * 1) (dropL 0 (setL ([.int .i64 x10]:LV) (0 + k7 * 1) (setL ([.int .i64 x9]:LV) (0 + k8 * 1) (takeL ((Sl.n s0) * 1) (Sl.cs s0)))))))),(Sl.v 1 (Sl.mk (0 + (Sl.n s1)) 0 (takeL ((0 + (Sl.n s1)) * 1) (dropL 0 (takeL ((Sl.n s1) * 1) (Sl.cs s1))))))]⟩)) none) none) none) none) none) none) none))) none)))) none)) none) none) none)) none))
def m46 (pu:PureF) (n:Nat) (args:LV):OV:=
 (ll args none fun a0 args=>(ll args none fun a1 args=>(ll args none fun a2 args=>(ll args (oo (vAgg a0) none fun l0=>(ll l0 none fun v0 l0=>(ll l0 none fun v1 l0=>(ll l0 none fun v2 l0=>(ll l0 (oo (toI .i64 v0) none fun x0=>(oo (toSl 1 v1) none fun s0=>(oo (toSl 1 v2) none fun s1=>(oo (toI .i64 a1) none fun x1=>(oo (toI .i64 a2) none fun x2=>(m46_ pu n x0 s0 s1 x1 x2)))))) fun _ _=>none))))) fun _ _=>none))))
theorem r46 {call:CallF} (pu:PureF) (n:Nat) (hcall:call = callP tabs isP pu (inl pu)) {args:LV} {v:Value} (hm:m46 pu n args = some v) (_:∀ x ∈ args,closed2 x = true):args.length≤38∧Run tt call 1 c46_7 (Fr.made 38 args) (pureHeap tabs) (Fin tt 1 [.cell 6 32] v):=by
 subst hcall
 unfold m46 at hm
 replace hm:=ll_uncons hm;obtain ⟨a0,args_0,rfl,hm⟩:=hm
 replace hm:=ll_uncons hm;obtain ⟨a1,args_1,rfl,hm⟩:=hm
 replace hm:=ll_uncons hm;obtain ⟨a2,args_2,rfl,hm⟩:=hm
 replace hm:=ll_end hm;obtain ⟨rfl,hm⟩:=hm
 replace hm:=inv_vAgg hm;obtain ⟨l0,rfl,hm⟩:=hm
 replace hm:=ll_uncons hm;obtain ⟨v0,l2519_0,rfl,hm⟩:=hm
 replace hm:=ll_uncons hm;obtain ⟨v1,l2519_1,rfl,hm⟩:=hm
 replace hm:=ll_uncons hm;obtain ⟨v2,l2519_2,rfl,hm⟩:=hm
 replace hm:=ll_end hm;obtain ⟨rfl,hm⟩:=hm
 replace hm:=inv_toI hm;obtain ⟨x0,rfl,hm⟩:=hm
 replace hm:=inv_toSl hm;obtain ⟨s0,rfl,hm⟩:=hm
 replace hm:=inv_toSl hm;obtain ⟨s1,rfl,hm⟩:=hm
 replace hm:=inv_toI hm;obtain ⟨x1,rfl,hm⟩:=hm
 replace hm:=inv_toI hm;obtain ⟨x2,rfl,hm⟩:=hm
 unfold m46_ at hm
 refine ⟨by simp,?_⟩
 refine .same (F':=(fr 38 [(0,(.agg ⟨[zI x0,Sl.v 1 s0,Sl.v 1 s1]⟩)),(1,zI x1),(2,zI x2)])) (H':=(hp 1 [(oT tab0)])) (by kernel_rfl) (by kernel_rfl) ?_
 refine .then (.rK ?_)
 refine .ghs (fr 38 [(1,zI x1),(2,zI x2),(3,pt 1 0),(6,(pt 2 0))]) (hT 3 [(oC [zI x0,Sl.v 1 s0,Sl.v 1 s1]),(oC [(zI (0:Int)),(.slice none 0 0),(.slice none 0 0)])]) (.k0 [false] [.tmp 3 false,.tmp 6 false] [1,2,3,6]) ?_
 refine .then ?_
 replace hm:=bb_cases hm;rcases hm with ⟨h0,hm⟩ | ⟨h0,hm⟩
 ·replace hm := bb_cases hm; rcases hm with ⟨h1, hm⟩ | ⟨h1, hm⟩
  ·refine .reg (eC 9 (appFs (hT 6 [(oC [zI x0, Sl.v 1 s0, Sl.v 1 s1]), (oC [(zI (0 : Int)), (.slice none 0 0), (.slice none 0 0)]), (oC []), (oC []), (oC [(zI (0 : Int)), (.slice none 0 0), (.slice none 0 0)])]) 1 8 (sc 3 0 1 0 1) s0) (appFs_sl0 h0) (eD (appFs (hT 6 [(oC [zI x0, Sl.v 1 s0, Sl.v 1 s1]), (oC [(zI (0 : Int)), (.slice none 0 0), (.slice none 0 0)]), (oC []), (oC []), (oC [(zI (0 : Int)), (.slice none 0 0), (.slice none 0 0)])]) 1 8 (sc 4 0 1 0 1) s1) (appFs_sl0 h1) (eE))) ?_
   refine .ghs (fr 38 [(1,zI x1),(2,zI x2),(6,pt 1 0),(7,(pt 2 0))]) (hT 5 [(oC [(zI (0:Int)),(.slice none 0 0),(.slice none 0 0)]),(oC [zI x0,sc 3 0 1 0 1,sc 4 0 1 0 1]),(oC []),(oC [])]) (.k0 [false] [.tmp 6 false,.tmp 7 true,.cell 2 1 false,.cell 2 2 false] [1,2,6,7]) ?_
   refine .then ?_
   replace hm:=oo_inv hm;obtain ⟨k1,h2,hm⟩:=hm
   obtain rfl:=toN_some h2
   replace hm:=bb_inv hm;obtain ⟨h3,hm⟩:=hm
   replace hm:=oo_inv hm;obtain ⟨v3,h4,hm⟩:=hm
   replace hm:=inv_toI hm;obtain ⟨x3,rfl,hm⟩:=hm
   replace hm:=oo_inv hm;obtain ⟨k2,h5,hm⟩:=hm
   obtain rfl:=toN_some h5
   replace hm:=bb_inv hm;obtain ⟨h6,hm⟩:=hm
   replace hm:=oo_inv hm;obtain ⟨v4,h7,hm⟩:=hm
   replace hm:=inv_toI hm;obtain ⟨x4,rfl,hm⟩:=hm
   replace hm:=bb_inv hm;obtain ⟨h8,hm⟩:=hm
   replace hm:=bb_inv hm;obtain ⟨h9,hm⟩:=hm
   replace hm:=bb_inv hm;obtain ⟨h10,hm⟩:=hm
   replace hm:=bb_inv hm;obtain ⟨h11,hm⟩:=hm
   refine .reg (eN 15 (Fr.puts (fr 38 [(1,(zI (Int.ofNat k2))),(2,(zI (Int.ofNat k1))),(6,pt 1 0),(7,(pt 2 0))]) [(19,(pt 2 1)),(20,sc 3 0 1 0 1),(21,(zI (Int.ofNat k2))),(22,(pt 2 1)),(23,sc 3 0 1 0 1),(24,(zI (Int.ofNat k1))),(25,(pt 2 1)),(26,sc 3 0 1 0 1),(27,(zI (Int.ofNat k1))),(28,(.pointer (some ⟨3,(0 + k1 * 1),none⟩))),(29,zI x3),(30,(pt 2 1)),(31,sc 3 0 1 0 1),(32,(zI (Int.ofNat k2))),(33,(.pointer (some ⟨3,(0 + k2 * 1),none⟩)))]) (hT 5 [(oC [(zI (0:Int)),(.slice none 0 0),(.slice none 0 0)]),(oC [zI x0,sc 3 0 1 0 1,sc 4 0 1 0 1]),(oC []),(oC [])]) (eC 9 (keep (hT 5 [(oC [(zI (0:Int)),(.slice none 0 0),(.slice none 0 0)]),(oC [zI x0,sc 3 0 1 0 1,sc 4 0 1 0 1]),(oC []),(oC [])]) (bb (an (Nat.blt k1 0) true) (some (.pointer (some ⟨3,(0 + k1 * 1),none⟩))) none)) (keep_bb h3) (eD (keep (hT 5 [(oC [(zI (0:Int)),(.slice none 0 0),(.slice none 0 0)]),(oC [zI x0,sc 3 0 1 0 1,sc 4 0 1 0 1]),(oC []),(oC [])]) (nthL ([]:LV) (0 + k1 * 1))) (keep_eq h4) (eC 3 (keep (hT 5 [(oC [(zI (0:Int)),(.slice none 0 0),(.slice none 0 0)]),(oC [zI x0,sc 3 0 1 0 1,sc 4 0 1 0 1]),(oC []),(oC [])]) (bb (an (Nat.blt k2 0) true) (some (.pointer (some ⟨3,(0 + k2 * 1),none⟩))) none)) (keep_bb h6) (by kernel_rfl)))) (eD (keep (hT 5 [(oC [(zI (0:Int)),(.slice none 0 0),(.slice none 0 0)]),(oC [zI x0,sc 3 0 1 0 1,sc 4 0 1 0 1]),(oC []),(oC [])]) (nthL ([]:LV) (0 + k2 * 1))) (keep_eq h7) (eD (keep (hT 5 [(oC [(zI (0:Int)),(.slice none 0 0),(.slice none 0 0)]),(oC [zI x0,sc 3 0 1 0 1,sc 4 0 1 0 1]),(oC []),(oC [])]) (bb (an (Nat.blt k2 0) true) (some (.pointer (some ⟨3,(0 + k2 * 1),none⟩))) none)) (keep_bb h8) (eD (done (bb (an (Nat.ble ((0 + k2 * 1) + 1) (len ([]:LV))) true) (some (hT 5 [(oC [(zI (0:Int)),(.slice none 0 0),(.slice none 0 0)]),(oC [zI x0,sc 3 0 1 0 1,sc 4 0 1 0 1]),(oC (setL ([zI x3]:LV) (0 + k2 * 1) ([]:LV))),(oC [])])) none) undef) (done_bb h9) (eD (keep (hT 5 [(oC [(zI (0:Int)),(.slice none 0 0),(.slice none 0 0)]),(oC [zI x0,sc 3 0 1 0 1,sc 4 0 1 0 1]),(oC (setL ([zI x3]:LV) (0 + k2 * 1) ([]:LV))),(oC [])]) (bb (an (Nat.blt k1 0) true) (some (.pointer (some ⟨3,(0 + k1 * 1),none⟩))) none)) (keep_bb h10) (eD (done (bb (an (Nat.ble ((0 + k1 * 1) + 1) (len (setL ([zI x3]:LV) (0 + k2 * 1) ([]:LV)))) true) (some (hT 5 [(oC [(zI (0:Int)),(.slice none 0 0),(.slice none 0 0)]),(oC [zI x0,sc 3 0 1 0 1,sc 4 0 1 0 1]),(oC (setL ([zI x4]:LV) (0 + k1 * 1) (setL ([zI x3]:LV) (0 + k2 * 1) ([]:LV)))),(oC [])])) none) undef) (done_bb h11) (eE))))))) ?_
   replace hm:=bb_inv hm;obtain ⟨h12,hm⟩:=hm
   refine .ghs (fr 38 [(6,pt 1 0),(7,(pt 2 0))]) (hT 5 [(oC [(zI (0:Int)),(.slice none 0 0),(.slice none 0 0)]),(oC [zI x0,sc 3 0 1 0 1,sc 4 0 1 0 1]),(oC (setL ([zI x4]:LV) (0 + k1 * 1) (setL ([zI x3]:LV) (0 + k2 * 1) ([]:LV)))),(oC [])]) (.k [3] [false] [.tmp 6 false,.tmp 7 true,.cell 2 1 false,.cell 2 2 false] [6,7] ⟨trF h12,trivial⟩) ?_
   refine .then (.rK ?_)
   refine .ghs (fr 38 [(6,pt 1 0)]) (hT 4 [(oC [zI x0,sc 2 0 1 0 1,sc 3 0 1 0 1]),(oC (setL ([zI x4]:LV) (0 + k1 * 1) (setL ([zI x3]:LV) (0 + k2 * 1) ([]:LV)))),(oC [])]) (.k [3] [false] [.tmp 6 true,.cell 1 1 false,.cell 1 2 false] [6] ⟨trF h12,trivial⟩) ?_
   refine .ret ?_
   replace hm:=bb_inv hm;obtain ⟨h13,hm⟩:=hm
   exact finT_ret (.agg ⟨[zI x0,sc 2 0 1 0 1,sc 3 0 1 0 1]⟩) (.agg ⟨[zI x0,(Sl.v 1 (Sl.mk 0 0 (takeL (0 * 1) (dropL 0 (setL ([zI x4]:LV) (0 + k1 * 1) (setL ([zI x3]:LV) (0 + k2 * 1) ([]:LV))))))),(Sl.v 1 (Sl.mk 0 0 (takeL (0 * 1) (dropL 0 ([]:LV)))))]⟩) (by kernel_rfl) (Tell.agg (.cons (Tell.refl _ _ _) (.cons (Tell.frz (v':=(Sl.v 1 (Sl.mk 0 0 (takeL (0 * 1) (dropL 0 (setL ([zI x4]:LV) (0 + k1 * 1) (setL ([zI x3]:LV) (0 + k2 * 1) ([]:LV)))))))) (H1:=(hT 4 [(oC [zI x0,sc 2 0 1 0 1,sc 3 0 1 0 1]),.dead,(oC [])])) 1 false (an (Nat.ble (0 + 0 * 1) (len (setL ([zI x4]:LV) (0 + k1 * 1) (setL ([zI x3]:LV) (0 + k2 * 1) ([]:LV))))) (allL closed1 (takeL (0 * 1) (dropL 0 (setL ([zI x4]:LV) (0 + k1 * 1) (setL ([zI x3]:LV) (0 + k2 * 1) ([]:LV))))))) (by kernel_rfl) (by kernel_rfl) h13) (.cons (Tell.frz (v':=(Sl.v 1 (Sl.mk 0 0 (takeL (0 * 1) (dropL 0 ([]:LV)))))) (H1:=(hT 4 [(oC [zI x0,sc 2 0 1 0 1,sc 3 0 1 0 1]),.dead,.dead])) 1 false true (by kernel_rfl) (by kernel_rfl) rfl) (TellL.nil _))))) (by kernel_rfl) hm
  ·replace hm := bb_inv hm; obtain ⟨h14, hm⟩ := hm
   refine .reg (eC 9 (appFs (hT 6 [(oC [zI x0,Sl.v 1 s0,Sl.v 1 s1]),(oC [(zI (0:Int)),(.slice none 0 0),(.slice none 0 0)]),(oC []),(oC []),(oC [(zI (0:Int)),(.slice none 0 0),(.slice none 0 0)])]) 1 8 (sc 3 0 1 0 1) s0) (appFs_sl0 h0) (eD (appFs (hT 6 [(oC [zI x0,Sl.v 1 s0,Sl.v 1 s1]),(oC [(zI (0:Int)),(.slice none 0 0),(.slice none 0 0)]),(oC []),(oC []),(oC [(zI (0:Int)),(.slice none 0 0),(.slice none 0 0)])]) 1 8 (sc 4 0 1 0 1) s1) (appFs_new h1 h14 (by kernel_rfl)) (eE))) ?_
   replace hm:=bb_inv hm;obtain ⟨h15,hm⟩:=hm
   refine .ghs (fr 38 [(1,zI x1),(2,zI x2),(6,pt 1 0),(7,(pt 2 0))]) (hT 5 [(oC [(zI (0:Int)),(.slice none 0 0),(.slice none 0 0)]),(oC [zI x0,sc 3 0 1 0 1,(sc 4 0 1 (0 + (Sl.n s1)) (d2 (0 + (Sl.n s1))))]),(oC []),(oC (takeL ((Sl.n s1) * 1) (Sl.cs s1)))]) (.k [6] [false] [.tmp 6 false,.tmp 7 true,.cell 2 1 false,.cell 2 2 false] [1,2,6,7] ⟨trF h15,trivial⟩) ?_
   refine .then ?_
   replace hm:=oo_inv hm;obtain ⟨k3,h16,hm⟩:=hm
   obtain rfl:=toN_some h16
   replace hm:=bb_inv hm;obtain ⟨h17,hm⟩:=hm
   replace hm:=oo_inv hm;obtain ⟨v5,h18,hm⟩:=hm
   replace hm:=inv_toI hm;obtain ⟨x5,rfl,hm⟩:=hm
   replace hm:=oo_inv hm;obtain ⟨k4,h19,hm⟩:=hm
   obtain rfl:=toN_some h19
   replace hm:=bb_inv hm;obtain ⟨h20,hm⟩:=hm
   replace hm:=oo_inv hm;obtain ⟨v6,h21,hm⟩:=hm
   replace hm:=inv_toI hm;obtain ⟨x6,rfl,hm⟩:=hm
   replace hm:=bb_inv hm;obtain ⟨h22,hm⟩:=hm
   replace hm:=bb_inv hm;obtain ⟨h23,hm⟩:=hm
   replace hm:=bb_inv hm;obtain ⟨h24,hm⟩:=hm
   replace hm:=bb_inv hm;obtain ⟨h25,hm⟩:=hm
   refine .reg (eN 15 (Fr.puts (fr 38 [(1,(zI (Int.ofNat k4))),(2,(zI (Int.ofNat k3))),(6,pt 1 0),(7,(pt 2 0))]) [(19,(pt 2 1)),(20,sc 3 0 1 0 1),(21,(zI (Int.ofNat k4))),(22,(pt 2 1)),(23,sc 3 0 1 0 1),(24,(zI (Int.ofNat k3))),(25,(pt 2 1)),(26,sc 3 0 1 0 1),(27,(zI (Int.ofNat k3))),(28,(.pointer (some ⟨3,(0 + k3 * 1),none⟩))),(29,zI x5),(30,(pt 2 1)),(31,sc 3 0 1 0 1),(32,(zI (Int.ofNat k4))),(33,(.pointer (some ⟨3,(0 + k4 * 1),none⟩)))]) (hT 5 [(oC [(zI (0:Int)),(.slice none 0 0),(.slice none 0 0)]),(oC [zI x0,sc 3 0 1 0 1,(sc 4 0 1 (0 + (Sl.n s1)) (d2 (0 + (Sl.n s1))))]),(oC []),(oC (takeL ((Sl.n s1) * 1) (Sl.cs s1)))]) (eC 9 (keep (hT 5 [(oC [(zI (0:Int)),(.slice none 0 0),(.slice none 0 0)]),(oC [zI x0,sc 3 0 1 0 1,(sc 4 0 1 (0 + (Sl.n s1)) (d2 (0 + (Sl.n s1))))]),(oC []),(oC (takeL ((Sl.n s1) * 1) (Sl.cs s1)))]) (bb (an (Nat.blt k3 0) true) (some (.pointer (some ⟨3,(0 + k3 * 1),none⟩))) none)) (keep_bb h17) (eD (keep (hT 5 [(oC [(zI (0:Int)),(.slice none 0 0),(.slice none 0 0)]),(oC [zI x0,sc 3 0 1 0 1,(sc 4 0 1 (0 + (Sl.n s1)) (d2 (0 + (Sl.n s1))))]),(oC []),(oC (takeL ((Sl.n s1) * 1) (Sl.cs s1)))]) (nthL ([]:LV) (0 + k3 * 1))) (keep_eq h18) (eC 3 (keep (hT 5 [(oC [(zI (0:Int)),(.slice none 0 0),(.slice none 0 0)]),(oC [zI x0,sc 3 0 1 0 1,(sc 4 0 1 (0 + (Sl.n s1)) (d2 (0 + (Sl.n s1))))]),(oC []),(oC (takeL ((Sl.n s1) * 1) (Sl.cs s1)))]) (bb (an (Nat.blt k4 0) true) (some (.pointer (some ⟨3,(0 + k4 * 1),none⟩))) none)) (keep_bb h20) (by kernel_rfl)))) (eD (keep (hT 5 [(oC [(zI (0:Int)),(.slice none 0 0),(.slice none 0 0)]),(oC [zI x0,sc 3 0 1 0 1,(sc 4 0 1 (0 + (Sl.n s1)) (d2 (0 + (Sl.n s1))))]),(oC []),(oC (takeL ((Sl.n s1) * 1) (Sl.cs s1)))]) (nthL ([]:LV) (0 + k4 * 1))) (keep_eq h21) (eD (keep (hT 5 [(oC [(zI (0:Int)),(.slice none 0 0),(.slice none 0 0)]),(oC [zI x0,sc 3 0 1 0 1,(sc 4 0 1 (0 + (Sl.n s1)) (d2 (0 + (Sl.n s1))))]),(oC []),(oC (takeL ((Sl.n s1) * 1) (Sl.cs s1)))]) (bb (an (Nat.blt k4 0) true) (some (.pointer (some ⟨3,(0 + k4 * 1),none⟩))) none)) (keep_bb h22) (eD (done (bb (an (Nat.ble ((0 + k4 * 1) + 1) (len ([]:LV))) true) (some (hT 5 [(oC [(zI (0:Int)),(.slice none 0 0),(.slice none 0 0)]),(oC [zI x0,sc 3 0 1 0 1,(sc 4 0 1 (0 + (Sl.n s1)) (d2 (0 + (Sl.n s1))))]),(oC (setL ([zI x5]:LV) (0 + k4 * 1) ([]:LV))),(oC (takeL ((Sl.n s1) * 1) (Sl.cs s1)))])) none) undef) (done_bb h23) (eD (keep (hT 5 [(oC [(zI (0:Int)),(.slice none 0 0),(.slice none 0 0)]),(oC [zI x0,sc 3 0 1 0 1,(sc 4 0 1 (0 + (Sl.n s1)) (d2 (0 + (Sl.n s1))))]),(oC (setL ([zI x5]:LV) (0 + k4 * 1) ([]:LV))),(oC (takeL ((Sl.n s1) * 1) (Sl.cs s1)))]) (bb (an (Nat.blt k3 0) true) (some (.pointer (some ⟨3,(0 + k3 * 1),none⟩))) none)) (keep_bb h24) (eD (done (bb (an (Nat.ble ((0 + k3 * 1) + 1) (len (setL ([zI x5]:LV) (0 + k4 * 1) ([]:LV)))) true) (some (hT 5 [(oC [(zI (0:Int)),(.slice none 0 0),(.slice none 0 0)]),(oC [zI x0,sc 3 0 1 0 1,(sc 4 0 1 (0 + (Sl.n s1)) (d2 (0 + (Sl.n s1))))]),(oC (setL ([zI x6]:LV) (0 + k3 * 1) (setL ([zI x5]:LV) (0 + k4 * 1) ([]:LV)))),(oC (takeL ((Sl.n s1) * 1) (Sl.cs s1)))])) none) undef) (done_bb h25) (eE))))))) ?_
   replace hm:=bb_inv hm;obtain ⟨h26,hm⟩:=hm
   refine .ghs (fr 38 [(6,pt 1 0),(7,(pt 2 0))]) (hT 5 [(oC [(zI (0:Int)),(.slice none 0 0),(.slice none 0 0)]),(oC [zI x0,sc 3 0 1 0 1,(sc 4 0 1 (0 + (Sl.n s1)) (d2 (0 + (Sl.n s1))))]),(oC (setL ([zI x6]:LV) (0 + k3 * 1) (setL ([zI x5]:LV) (0 + k4 * 1) ([]:LV)))),(oC (takeL ((Sl.n s1) * 1) (Sl.cs s1)))]) (.k [3,4] [false] [.tmp 6 false,.tmp 7 true,.cell 2 1 false,.cell 2 2 false] [6,7] ⟨trF h26,trF h15,trivial⟩) ?_
   refine .then (.rK ?_)
   refine .ghs (fr 38 [(6,pt 1 0)]) (hT 4 [(oC [zI x0,sc 2 0 1 0 1,(sc 3 0 1 (0 + (Sl.n s1)) (d2 (0 + (Sl.n s1))))]),(oC (setL ([zI x6]:LV) (0 + k3 * 1) (setL ([zI x5]:LV) (0 + k4 * 1) ([]:LV)))),(oC (takeL ((Sl.n s1) * 1) (Sl.cs s1)))]) (.k [3,4] [false] [.tmp 6 true,.cell 1 1 false,.cell 1 2 false] [6] ⟨trF h26,trF h15,trivial⟩) ?_
   refine .ret ?_
   replace hm:=bb_inv hm;obtain ⟨h27,hm⟩:=hm
   replace hm:=bb_inv hm;obtain ⟨h28,hm⟩:=hm
   exact finT_ret (.agg ⟨[zI x0,sc 2 0 1 0 1,(sc 3 0 1 (0 + (Sl.n s1)) (d2 (0 + (Sl.n s1))))]⟩) (.agg ⟨[zI x0,(Sl.v 1 (Sl.mk 0 0 (takeL (0 * 1) (dropL 0 (setL ([zI x6]:LV) (0 + k3 * 1) (setL ([zI x5]:LV) (0 + k4 * 1) ([]:LV))))))),(Sl.v 1 (Sl.mk (0 + (Sl.n s1)) 0 (takeL ((0 + (Sl.n s1)) * 1) (dropL 0 (takeL ((Sl.n s1) * 1) (Sl.cs s1))))))]⟩) (by kernel_rfl) (Tell.agg (.cons (Tell.refl _ _ _) (.cons (Tell.frz (v':=(Sl.v 1 (Sl.mk 0 0 (takeL (0 * 1) (dropL 0 (setL ([zI x6]:LV) (0 + k3 * 1) (setL ([zI x5]:LV) (0 + k4 * 1) ([]:LV)))))))) (H1:=(hT 4 [(oC [zI x0,sc 2 0 1 0 1,(sc 3 0 1 (0 + (Sl.n s1)) (d2 (0 + (Sl.n s1))))]),.dead,(oC (takeL ((Sl.n s1) * 1) (Sl.cs s1)))])) 1 false (an (Nat.ble (0 + 0 * 1) (len (setL ([zI x6]:LV) (0 + k3 * 1) (setL ([zI x5]:LV) (0 + k4 * 1) ([]:LV))))) (allL closed1 (takeL (0 * 1) (dropL 0 (setL ([zI x6]:LV) (0 + k3 * 1) (setL ([zI x5]:LV) (0 + k4 * 1) ([]:LV))))))) (by kernel_rfl) (by kernel_rfl) h27) (.cons (Tell.frz (v':=(Sl.v 1 (Sl.mk (0 + (Sl.n s1)) 0 (takeL ((0 + (Sl.n s1)) * 1) (dropL 0 (takeL ((Sl.n s1) * 1) (Sl.cs s1))))))) (H1:=(hT 4 [(oC [zI x0,sc 2 0 1 0 1,(sc 3 0 1 (0 + (Sl.n s1)) (d2 (0 + (Sl.n s1))))]),.dead,.dead])) 1 false (an (Nat.ble (0 + (0 + (Sl.n s1)) * 1) (len (takeL ((Sl.n s1) * 1) (Sl.cs s1)))) (allL closed1 (takeL ((0 + (Sl.n s1)) * 1) (dropL 0 (takeL ((Sl.n s1) * 1) (Sl.cs s1)))))) (by kernel_rfl) (by kernel_rfl) h28) (TellL.nil _))))) (by kernel_rfl) hm
 ·replace hm := bb_inv hm; obtain ⟨h1, hm⟩ := hm
  replace hm:=bb_cases hm;rcases hm with ⟨h14,hm⟩ | ⟨h14,hm⟩
  ·refine .reg (eC 9 (appFs (hT 6 [(oC [zI x0, Sl.v 1 s0, Sl.v 1 s1]), (oC [(zI (0 : Int)), (.slice none 0 0), (.slice none 0 0)]), (oC []), (oC []), (oC [(zI (0 : Int)), (.slice none 0 0), (.slice none 0 0)])]) 1 8 (sc 3 0 1 0 1) s0) (appFs_new h0 h1 (by kernel_rfl)) (eD (appFs (hT 7 [(oC [zI x0, Sl.v 1 s0, Sl.v 1 s1]), (oC [(zI (0 : Int)), (.slice none 0 0), (.slice none 0 0)]), (oC []), (oC []), (oC [(zI (0 : Int)), (.slice none 0 0), (.slice none 0 0)]), (oC (takeL ((Sl.n s0) * 1) (Sl.cs s0)))]) 1 8 (sc 4 0 1 0 1) s1) (appFs_sl0 h14) (eE))) ?_
   replace hm:=bb_inv hm;obtain ⟨h29,hm⟩:=hm
   refine .ghs (fr 38 [(1,zI x1),(2,zI x2),(6,pt 1 0),(7,(pt 2 0))]) (hT 5 [(oC [(zI (0:Int)),(.slice none 0 0),(.slice none 0 0)]),(oC [zI x0,(sc 3 0 1 (0 + (Sl.n s0)) (d2 (0 + (Sl.n s0)))),sc 4 0 1 0 1]),(oC (takeL ((Sl.n s0) * 1) (Sl.cs s0))),(oC [])]) (.k [6] [false] [.tmp 6 false,.tmp 7 true,.cell 2 1 false,.cell 2 2 false] [1,2,6,7] ⟨trF h29,trivial⟩) ?_
   refine .then ?_
   replace hm:=oo_inv hm;obtain ⟨k5,h30,hm⟩:=hm
   obtain rfl:=toN_some h30
   replace hm:=bb_inv hm;obtain ⟨h31,hm⟩:=hm
   replace hm:=oo_inv hm;obtain ⟨v7,h32,hm⟩:=hm
   replace hm:=inv_toI hm;obtain ⟨x7,rfl,hm⟩:=hm
   replace hm:=oo_inv hm;obtain ⟨k6,h33,hm⟩:=hm
   obtain rfl:=toN_some h33
   replace hm:=bb_inv hm;obtain ⟨h34,hm⟩:=hm
   replace hm:=oo_inv hm;obtain ⟨v8,h35,hm⟩:=hm
   replace hm:=inv_toI hm;obtain ⟨x8,rfl,hm⟩:=hm
   replace hm:=bb_inv hm;obtain ⟨h36,hm⟩:=hm
   replace hm:=bb_inv hm;obtain ⟨h37,hm⟩:=hm
   replace hm:=bb_inv hm;obtain ⟨h38,hm⟩:=hm
   replace hm:=bb_inv hm;obtain ⟨h39,hm⟩:=hm
   refine .reg (eN 15 (Fr.puts (fr 38 [(1,(zI (Int.ofNat k6))),(2,(zI (Int.ofNat k5))),(6,pt 1 0),(7,(pt 2 0))]) [(19,(pt 2 1)),(20,(sc 3 0 1 (0 + (Sl.n s0)) (d2 (0 + (Sl.n s0))))),(21,(zI (Int.ofNat k6))),(22,(pt 2 1)),(23,(sc 3 0 1 (0 + (Sl.n s0)) (d2 (0 + (Sl.n s0))))),(24,(zI (Int.ofNat k5))),(25,(pt 2 1)),(26,(sc 3 0 1 (0 + (Sl.n s0)) (d2 (0 + (Sl.n s0))))),(27,(zI (Int.ofNat k5))),(28,(.pointer (some ⟨3,(0 + k5 * 1),none⟩))),(29,zI x7),(30,(pt 2 1)),(31,(sc 3 0 1 (0 + (Sl.n s0)) (d2 (0 + (Sl.n s0))))),(32,(zI (Int.ofNat k6))),(33,(.pointer (some ⟨3,(0 + k6 * 1),none⟩)))]) (hT 5 [(oC [(zI (0:Int)),(.slice none 0 0),(.slice none 0 0)]),(oC [zI x0,(sc 3 0 1 (0 + (Sl.n s0)) (d2 (0 + (Sl.n s0)))),sc 4 0 1 0 1]),(oC (takeL ((Sl.n s0) * 1) (Sl.cs s0))),(oC [])]) (eC 9 (keep (hT 5 [(oC [(zI (0:Int)),(.slice none 0 0),(.slice none 0 0)]),(oC [zI x0,(sc 3 0 1 (0 + (Sl.n s0)) (d2 (0 + (Sl.n s0)))),sc 4 0 1 0 1]),(oC (takeL ((Sl.n s0) * 1) (Sl.cs s0))),(oC [])]) (bb (an (Nat.blt k5 (0 + (Sl.n s0))) true) (some (.pointer (some ⟨3,(0 + k5 * 1),none⟩))) none)) (keep_bb h31) (eD (keep (hT 5 [(oC [(zI (0:Int)),(.slice none 0 0),(.slice none 0 0)]),(oC [zI x0,(sc 3 0 1 (0 + (Sl.n s0)) (d2 (0 + (Sl.n s0)))),sc 4 0 1 0 1]),(oC (takeL ((Sl.n s0) * 1) (Sl.cs s0))),(oC [])]) (nthL (takeL ((Sl.n s0) * 1) (Sl.cs s0)) (0 + k5 * 1))) (keep_eq h32) (eC 3 (keep (hT 5 [(oC [(zI (0:Int)),(.slice none 0 0),(.slice none 0 0)]),(oC [zI x0,(sc 3 0 1 (0 + (Sl.n s0)) (d2 (0 + (Sl.n s0)))),sc 4 0 1 0 1]),(oC (takeL ((Sl.n s0) * 1) (Sl.cs s0))),(oC [])]) (bb (an (Nat.blt k6 (0 + (Sl.n s0))) true) (some (.pointer (some ⟨3,(0 + k6 * 1),none⟩))) none)) (keep_bb h34) (by kernel_rfl)))) (eD (keep (hT 5 [(oC [(zI (0:Int)),(.slice none 0 0),(.slice none 0 0)]),(oC [zI x0,(sc 3 0 1 (0 + (Sl.n s0)) (d2 (0 + (Sl.n s0)))),sc 4 0 1 0 1]),(oC (takeL ((Sl.n s0) * 1) (Sl.cs s0))),(oC [])]) (nthL (takeL ((Sl.n s0) * 1) (Sl.cs s0)) (0 + k6 * 1))) (keep_eq h35) (eD (keep (hT 5 [(oC [(zI (0:Int)),(.slice none 0 0),(.slice none 0 0)]),(oC [zI x0,(sc 3 0 1 (0 + (Sl.n s0)) (d2 (0 + (Sl.n s0)))),sc 4 0 1 0 1]),(oC (takeL ((Sl.n s0) * 1) (Sl.cs s0))),(oC [])]) (bb (an (Nat.blt k6 (0 + (Sl.n s0))) true) (some (.pointer (some ⟨3,(0 + k6 * 1),none⟩))) none)) (keep_bb h36) (eD (done (bb (an (Nat.ble ((0 + k6 * 1) + 1) (len (takeL ((Sl.n s0) * 1) (Sl.cs s0)))) true) (some (hT 5 [(oC [(zI (0:Int)),(.slice none 0 0),(.slice none 0 0)]),(oC [zI x0,(sc 3 0 1 (0 + (Sl.n s0)) (d2 (0 + (Sl.n s0)))),sc 4 0 1 0 1]),(oC (setL ([zI x7]:LV) (0 + k6 * 1) (takeL ((Sl.n s0) * 1) (Sl.cs s0)))),(oC [])])) none) undef) (done_bb h37) (eD (keep (hT 5 [(oC [(zI (0:Int)),(.slice none 0 0),(.slice none 0 0)]),(oC [zI x0,(sc 3 0 1 (0 + (Sl.n s0)) (d2 (0 + (Sl.n s0)))),sc 4 0 1 0 1]),(oC (setL ([zI x7]:LV) (0 + k6 * 1) (takeL ((Sl.n s0) * 1) (Sl.cs s0)))),(oC [])]) (bb (an (Nat.blt k5 (0 + (Sl.n s0))) true) (some (.pointer (some ⟨3,(0 + k5 * 1),none⟩))) none)) (keep_bb h38) (eD (done (bb (an (Nat.ble ((0 + k5 * 1) + 1) (len (setL ([zI x7]:LV) (0 + k6 * 1) (takeL ((Sl.n s0) * 1) (Sl.cs s0))))) true) (some (hT 5 [(oC [(zI (0:Int)),(.slice none 0 0),(.slice none 0 0)]),(oC [zI x0,(sc 3 0 1 (0 + (Sl.n s0)) (d2 (0 + (Sl.n s0)))),sc 4 0 1 0 1]),(oC (setL ([zI x8]:LV) (0 + k5 * 1) (setL ([zI x7]:LV) (0 + k6 * 1) (takeL ((Sl.n s0) * 1) (Sl.cs s0))))),(oC [])])) none) undef) (done_bb h39) (eE))))))) ?_
   replace hm:=bb_inv hm;obtain ⟨h40,hm⟩:=hm
   refine .ghs (fr 38 [(6,pt 1 0),(7,(pt 2 0))]) (hT 5 [(oC [(zI (0:Int)),(.slice none 0 0),(.slice none 0 0)]),(oC [zI x0,(sc 3 0 1 (0 + (Sl.n s0)) (d2 (0 + (Sl.n s0)))),sc 4 0 1 0 1]),(oC (setL ([zI x8]:LV) (0 + k5 * 1) (setL ([zI x7]:LV) (0 + k6 * 1) (takeL ((Sl.n s0) * 1) (Sl.cs s0))))),(oC [])]) (.k [3] [false] [.tmp 6 false,.tmp 7 true,.cell 2 1 false,.cell 2 2 false] [6,7] ⟨trF h40,trivial⟩) ?_
   refine .then (.rK ?_)
   refine .ghs (fr 38 [(6,pt 1 0)]) (hT 4 [(oC [zI x0,(sc 2 0 1 (0 + (Sl.n s0)) (d2 (0 + (Sl.n s0)))),sc 3 0 1 0 1]),(oC (setL ([zI x8]:LV) (0 + k5 * 1) (setL ([zI x7]:LV) (0 + k6 * 1) (takeL ((Sl.n s0) * 1) (Sl.cs s0))))),(oC [])]) (.k [3] [false] [.tmp 6 true,.cell 1 1 false,.cell 1 2 false] [6] ⟨trF h40,trivial⟩) ?_
   refine .ret ?_
   replace hm:=bb_inv hm;obtain ⟨h41,hm⟩:=hm
   exact finT_ret (.agg ⟨[zI x0,(sc 2 0 1 (0 + (Sl.n s0)) (d2 (0 + (Sl.n s0)))),sc 3 0 1 0 1]⟩) (.agg ⟨[zI x0,(Sl.v 1 (Sl.mk (0 + (Sl.n s0)) 0 (takeL ((0 + (Sl.n s0)) * 1) (dropL 0 (setL ([zI x8]:LV) (0 + k5 * 1) (setL ([zI x7]:LV) (0 + k6 * 1) (takeL ((Sl.n s0) * 1) (Sl.cs s0)))))))),(Sl.v 1 (Sl.mk 0 0 (takeL (0 * 1) (dropL 0 ([]:LV)))))]⟩) (by kernel_rfl) (Tell.agg (.cons (Tell.refl _ _ _) (.cons (Tell.frz (v':=(Sl.v 1 (Sl.mk (0 + (Sl.n s0)) 0 (takeL ((0 + (Sl.n s0)) * 1) (dropL 0 (setL ([zI x8]:LV) (0 + k5 * 1) (setL ([zI x7]:LV) (0 + k6 * 1) (takeL ((Sl.n s0) * 1) (Sl.cs s0))))))))) (H1:=(hT 4 [(oC [zI x0,(sc 2 0 1 (0 + (Sl.n s0)) (d2 (0 + (Sl.n s0)))),sc 3 0 1 0 1]),.dead,(oC [])])) 1 false (an (Nat.ble (0 + (0 + (Sl.n s0)) * 1) (len (setL ([zI x8]:LV) (0 + k5 * 1) (setL ([zI x7]:LV) (0 + k6 * 1) (takeL ((Sl.n s0) * 1) (Sl.cs s0)))))) (allL closed1 (takeL ((0 + (Sl.n s0)) * 1) (dropL 0 (setL ([zI x8]:LV) (0 + k5 * 1) (setL ([zI x7]:LV) (0 + k6 * 1) (takeL ((Sl.n s0) * 1) (Sl.cs s0)))))))) (by kernel_rfl) (by kernel_rfl) h41) (.cons (Tell.frz (v':=(Sl.v 1 (Sl.mk 0 0 (takeL (0 * 1) (dropL 0 ([]:LV)))))) (H1:=(hT 4 [(oC [zI x0,(sc 2 0 1 (0 + (Sl.n s0)) (d2 (0 + (Sl.n s0)))),sc 3 0 1 0 1]),.dead,.dead])) 1 false true (by kernel_rfl) (by kernel_rfl) rfl) (TellL.nil _))))) (by kernel_rfl) hm
  ·replace hm := bb_inv hm; obtain ⟨h42, hm⟩ := hm
   refine .reg (eC 9 (appFs (hT 6 [(oC [zI x0,Sl.v 1 s0,Sl.v 1 s1]),(oC [(zI (0:Int)),(.slice none 0 0),(.slice none 0 0)]),(oC []),(oC []),(oC [(zI (0:Int)),(.slice none 0 0),(.slice none 0 0)])]) 1 8 (sc 3 0 1 0 1) s0) (appFs_new h0 h1 (by kernel_rfl)) (eD (appFs (hT 7 [(oC [zI x0,Sl.v 1 s0,Sl.v 1 s1]),(oC [(zI (0:Int)),(.slice none 0 0),(.slice none 0 0)]),(oC []),(oC []),(oC [(zI (0:Int)),(.slice none 0 0),(.slice none 0 0)]),(oC (takeL ((Sl.n s0) * 1) (Sl.cs s0)))]) 1 8 (sc 4 0 1 0 1) s1) (appFs_new h14 h42 (by kernel_rfl)) (eE))) ?_
   replace hm:=bb_inv hm;obtain ⟨h43,hm⟩:=hm
   replace hm:=bb_inv hm;obtain ⟨h44,hm⟩:=hm
   refine .ghs (fr 38 [(1,zI x1),(2,zI x2),(6,pt 1 0),(7,(pt 2 0))]) (hT 5 [(oC [(zI (0:Int)),(.slice none 0 0),(.slice none 0 0)]),(oC [zI x0,(sc 3 0 1 (0 + (Sl.n s0)) (d2 (0 + (Sl.n s0)))),(sc 4 0 1 (0 + (Sl.n s1)) (d2 (0 + (Sl.n s1))))]),(oC (takeL ((Sl.n s0) * 1) (Sl.cs s0))),(oC (takeL ((Sl.n s1) * 1) (Sl.cs s1)))]) (.k [6,7] [false] [.tmp 6 false,.tmp 7 true,.cell 2 1 false,.cell 2 2 false] [1,2,6,7] ⟨trF h43,trF h44,trivial⟩) ?_
   refine .then ?_
   replace hm:=oo_inv hm;obtain ⟨k7,h45,hm⟩:=hm
   obtain rfl:=toN_some h45
   replace hm:=bb_inv hm;obtain ⟨h46,hm⟩:=hm
   replace hm:=oo_inv hm;obtain ⟨v9,h47,hm⟩:=hm
   replace hm:=inv_toI hm;obtain ⟨x9,rfl,hm⟩:=hm
   replace hm:=oo_inv hm;obtain ⟨k8,h48,hm⟩:=hm
   obtain rfl:=toN_some h48
   replace hm:=bb_inv hm;obtain ⟨h49,hm⟩:=hm
   replace hm:=oo_inv hm;obtain ⟨v10,h50,hm⟩:=hm
   replace hm:=inv_toI hm;obtain ⟨x10,rfl,hm⟩:=hm
   replace hm:=bb_inv hm;obtain ⟨h51,hm⟩:=hm
   replace hm:=bb_inv hm;obtain ⟨h52,hm⟩:=hm
   replace hm:=bb_inv hm;obtain ⟨h53,hm⟩:=hm
   replace hm:=bb_inv hm;obtain ⟨h54,hm⟩:=hm
   refine .reg (eN 15 (Fr.puts (fr 38 [(1,(zI (Int.ofNat k8))),(2,(zI (Int.ofNat k7))),(6,pt 1 0),(7,(pt 2 0))]) [(19,(pt 2 1)),(20,(sc 3 0 1 (0 + (Sl.n s0)) (d2 (0 + (Sl.n s0))))),(21,(zI (Int.ofNat k8))),(22,(pt 2 1)),(23,(sc 3 0 1 (0 + (Sl.n s0)) (d2 (0 + (Sl.n s0))))),(24,(zI (Int.ofNat k7))),(25,(pt 2 1)),(26,(sc 3 0 1 (0 + (Sl.n s0)) (d2 (0 + (Sl.n s0))))),(27,(zI (Int.ofNat k7))),(28,(.pointer (some ⟨3,(0 + k7 * 1),none⟩))),(29,zI x9),(30,(pt 2 1)),(31,(sc 3 0 1 (0 + (Sl.n s0)) (d2 (0 + (Sl.n s0))))),(32,(zI (Int.ofNat k8))),(33,(.pointer (some ⟨3,(0 + k8 * 1),none⟩)))]) (hT 5 [(oC [(zI (0:Int)),(.slice none 0 0),(.slice none 0 0)]),(oC [zI x0,(sc 3 0 1 (0 + (Sl.n s0)) (d2 (0 + (Sl.n s0)))),(sc 4 0 1 (0 + (Sl.n s1)) (d2 (0 + (Sl.n s1))))]),(oC (takeL ((Sl.n s0) * 1) (Sl.cs s0))),(oC (takeL ((Sl.n s1) * 1) (Sl.cs s1)))]) (eC 9 (keep (hT 5 [(oC [(zI (0:Int)),(.slice none 0 0),(.slice none 0 0)]),(oC [zI x0,(sc 3 0 1 (0 + (Sl.n s0)) (d2 (0 + (Sl.n s0)))),(sc 4 0 1 (0 + (Sl.n s1)) (d2 (0 + (Sl.n s1))))]),(oC (takeL ((Sl.n s0) * 1) (Sl.cs s0))),(oC (takeL ((Sl.n s1) * 1) (Sl.cs s1)))]) (bb (an (Nat.blt k7 (0 + (Sl.n s0))) true) (some (.pointer (some ⟨3,(0 + k7 * 1),none⟩))) none)) (keep_bb h46) (eD (keep (hT 5 [(oC [(zI (0:Int)),(.slice none 0 0),(.slice none 0 0)]),(oC [zI x0,(sc 3 0 1 (0 + (Sl.n s0)) (d2 (0 + (Sl.n s0)))),(sc 4 0 1 (0 + (Sl.n s1)) (d2 (0 + (Sl.n s1))))]),(oC (takeL ((Sl.n s0) * 1) (Sl.cs s0))),(oC (takeL ((Sl.n s1) * 1) (Sl.cs s1)))]) (nthL (takeL ((Sl.n s0) * 1) (Sl.cs s0)) (0 + k7 * 1))) (keep_eq h47) (eC 3 (keep (hT 5 [(oC [(zI (0:Int)),(.slice none 0 0),(.slice none 0 0)]),(oC [zI x0,(sc 3 0 1 (0 + (Sl.n s0)) (d2 (0 + (Sl.n s0)))),(sc 4 0 1 (0 + (Sl.n s1)) (d2 (0 + (Sl.n s1))))]),(oC (takeL ((Sl.n s0) * 1) (Sl.cs s0))),(oC (takeL ((Sl.n s1) * 1) (Sl.cs s1)))]) (bb (an (Nat.blt k8 (0 + (Sl.n s0))) true) (some (.pointer (some ⟨3,(0 + k8 * 1),none⟩))) none)) (keep_bb h49) (by kernel_rfl)))) (eD (keep (hT 5 [(oC [(zI (0:Int)),(.slice none 0 0),(.slice none 0 0)]),(oC [zI x0,(sc 3 0 1 (0 + (Sl.n s0)) (d2 (0 + (Sl.n s0)))),(sc 4 0 1 (0 + (Sl.n s1)) (d2 (0 + (Sl.n s1))))]),(oC (takeL ((Sl.n s0) * 1) (Sl.cs s0))),(oC (takeL ((Sl.n s1) * 1) (Sl.cs s1)))]) (nthL (takeL ((Sl.n s0) * 1) (Sl.cs s0)) (0 + k8 * 1))) (keep_eq h50) (eD (keep (hT 5 [(oC [(zI (0:Int)),(.slice none 0 0),(.slice none 0 0)]),(oC [zI x0,(sc 3 0 1 (0 + (Sl.n s0)) (d2 (0 + (Sl.n s0)))),(sc 4 0 1 (0 + (Sl.n s1)) (d2 (0 + (Sl.n s1))))]),(oC (takeL ((Sl.n s0) * 1) (Sl.cs s0))),(oC (takeL ((Sl.n s1) * 1) (Sl.cs s1)))]) (bb (an (Nat.blt k8 (0 + (Sl.n s0))) true) (some (.pointer (some ⟨3,(0 + k8 * 1),none⟩))) none)) (keep_bb h51) (eD (done (bb (an (Nat.ble ((0 + k8 * 1) + 1) (len (takeL ((Sl.n s0) * 1) (Sl.cs s0)))) true) (some (hT 5 [(oC [(zI (0:Int)),(.slice none 0 0),(.slice none 0 0)]),(oC [zI x0,(sc 3 0 1 (0 + (Sl.n s0)) (d2 (0 + (Sl.n s0)))),(sc 4 0 1 (0 + (Sl.n s1)) (d2 (0 + (Sl.n s1))))]),(oC (setL ([zI x9]:LV) (0 + k8 * 1) (takeL ((Sl.n s0) * 1) (Sl.cs s0)))),(oC (takeL ((Sl.n s1) * 1) (Sl.cs s1)))])) none) undef) (done_bb h52) (eD (keep (hT 5 [(oC [(zI (0:Int)),(.slice none 0 0),(.slice none 0 0)]),(oC [zI x0,(sc 3 0 1 (0 + (Sl.n s0)) (d2 (0 + (Sl.n s0)))),(sc 4 0 1 (0 + (Sl.n s1)) (d2 (0 + (Sl.n s1))))]),(oC (setL ([zI x9]:LV) (0 + k8 * 1) (takeL ((Sl.n s0) * 1) (Sl.cs s0)))),(oC (takeL ((Sl.n s1) * 1) (Sl.cs s1)))]) (bb (an (Nat.blt k7 (0 + (Sl.n s0))) true) (some (.pointer (some ⟨3,(0 + k7 * 1),none⟩))) none)) (keep_bb h53) (eD (done (bb (an (Nat.ble ((0 + k7 * 1) + 1) (len (setL ([zI x9]:LV) (0 + k8 * 1) (takeL ((Sl.n s0) * 1) (Sl.cs s0))))) true) (some (hT 5 [(oC [(zI (0:Int)),(.slice none 0 0),(.slice none 0 0)]),(oC [zI x0,(sc 3 0 1 (0 + (Sl.n s0)) (d2 (0 + (Sl.n s0)))),(sc 4 0 1 (0 + (Sl.n s1)) (d2 (0 + (Sl.n s1))))]),(oC (setL ([zI x10]:LV) (0 + k7 * 1) (setL ([zI x9]:LV) (0 + k8 * 1) (takeL ((Sl.n s0) * 1) (Sl.cs s0))))),(oC (takeL ((Sl.n s1) * 1) (Sl.cs s1)))])) none) undef) (done_bb h54) (eE))))))) ?_
   replace hm:=bb_inv hm;obtain ⟨h55,hm⟩:=hm
   refine .ghs (fr 38 [(6,pt 1 0),(7,(pt 2 0))]) (hT 5 [(oC [(zI (0:Int)),(.slice none 0 0),(.slice none 0 0)]),(oC [zI x0,(sc 3 0 1 (0 + (Sl.n s0)) (d2 (0 + (Sl.n s0)))),(sc 4 0 1 (0 + (Sl.n s1)) (d2 (0 + (Sl.n s1))))]),(oC (setL ([zI x10]:LV) (0 + k7 * 1) (setL ([zI x9]:LV) (0 + k8 * 1) (takeL ((Sl.n s0) * 1) (Sl.cs s0))))),(oC (takeL ((Sl.n s1) * 1) (Sl.cs s1)))]) (.k [3,4] [false] [.tmp 6 false,.tmp 7 true,.cell 2 1 false,.cell 2 2 false] [6,7] ⟨trF h55,trF h44,trivial⟩) ?_
   refine .then (.rK ?_)
   refine .ghs (fr 38 [(6,pt 1 0)]) (hT 4 [(oC [zI x0,(sc 2 0 1 (0 + (Sl.n s0)) (d2 (0 + (Sl.n s0)))),(sc 3 0 1 (0 + (Sl.n s1)) (d2 (0 + (Sl.n s1))))]),(oC (setL ([zI x10]:LV) (0 + k7 * 1) (setL ([zI x9]:LV) (0 + k8 * 1) (takeL ((Sl.n s0) * 1) (Sl.cs s0))))),(oC (takeL ((Sl.n s1) * 1) (Sl.cs s1)))]) (.k [3,4] [false] [.tmp 6 true,.cell 1 1 false,.cell 1 2 false] [6] ⟨trF h55,trF h44,trivial⟩) ?_
   refine .ret ?_
   replace hm:=bb_inv hm;obtain ⟨h56,hm⟩:=hm
   replace hm:=bb_inv hm;obtain ⟨h57,hm⟩:=hm
   exact finT_ret (.agg ⟨[zI x0,(sc 2 0 1 (0 + (Sl.n s0)) (d2 (0 + (Sl.n s0)))),(sc 3 0 1 (0 + (Sl.n s1)) (d2 (0 + (Sl.n s1))))]⟩) (.agg ⟨[zI x0,(Sl.v 1 (Sl.mk (0 + (Sl.n s0)) 0 (takeL ((0 + (Sl.n s0)) * 1) (dropL 0 (setL ([zI x10]:LV) (0 + k7 * 1) (setL ([zI x9]:LV) (0 + k8 * 1) (takeL ((Sl.n s0) * 1) (Sl.cs s0)))))))),(Sl.v 1 (Sl.mk (0 + (Sl.n s1)) 0 (takeL ((0 + (Sl.n s1)) * 1) (dropL 0 (takeL ((Sl.n s1) * 1) (Sl.cs s1))))))]⟩) (by kernel_rfl) (Tell.agg (.cons (Tell.refl _ _ _) (.cons (Tell.frz (v':=(Sl.v 1 (Sl.mk (0 + (Sl.n s0)) 0 (takeL ((0 + (Sl.n s0)) * 1) (dropL 0 (setL ([zI x10]:LV) (0 + k7 * 1) (setL ([zI x9]:LV) (0 + k8 * 1) (takeL ((Sl.n s0) * 1) (Sl.cs s0))))))))) (H1:=(hT 4 [(oC [zI x0,(sc 2 0 1 (0 + (Sl.n s0)) (d2 (0 + (Sl.n s0)))),(sc 3 0 1 (0 + (Sl.n s1)) (d2 (0 + (Sl.n s1))))]),.dead,(oC (takeL ((Sl.n s1) * 1) (Sl.cs s1)))])) 1 false (an (Nat.ble (0 + (0 + (Sl.n s0)) * 1) (len (setL ([zI x10]:LV) (0 + k7 * 1) (setL ([zI x9]:LV) (0 + k8 * 1) (takeL ((Sl.n s0) * 1) (Sl.cs s0)))))) (allL closed1 (takeL ((0 + (Sl.n s0)) * 1) (dropL 0 (setL ([zI x10]:LV) (0 + k7 * 1) (setL ([zI x9]:LV) (0 + k8 * 1) (takeL ((Sl.n s0) * 1) (Sl.cs s0)))))))) (by kernel_rfl) (by kernel_rfl) h56) (.cons (Tell.frz (v':=(Sl.v 1 (Sl.mk (0 + (Sl.n s1)) 0 (takeL ((0 + (Sl.n s1)) * 1) (dropL 0 (takeL ((Sl.n s1) * 1) (Sl.cs s1))))))) (H1:=(hT 4 [(oC [zI x0,(sc 2 0 1 (0 + (Sl.n s0)) (d2 (0 + (Sl.n s0)))),(sc 3 0 1 (0 + (Sl.n s1)) (d2 (0 + (Sl.n s1))))]),.dead,.dead])) 1 false (an (Nat.ble (0 + (0 + (Sl.n s1)) * 1) (len (takeL ((Sl.n s1) * 1) (Sl.cs s1)))) (allL closed1 (takeL ((0 + (Sl.n s1)) * 1) (dropL 0 (takeL ((Sl.n s1) * 1) (Sl.cs s1)))))) (by kernel_rfl) (by kernel_rfl) h57) (TellL.nil _))))) (by kernel_rfl) hm
end
end Go.MdFM
