/- Made from wip. -/
import Derived.Test.YtlgmapibifphaaaDoorMdFMod0x

set_option maxRecDepth 100000
set_option maxHeartbeats 20000000
set_option linter.unusedVariables false
namespace Go.MdFM
open Go.Sp Go.MdF
noncomputable section
def m47_0 (pu:PureF) (n:Nat) (q0:LV):OV:=
 (bb (Nat.ble (0 + 5) (len q0)) (oo (nthL q0 0) none fun v0=>(oo (toI .i64 v0) none fun x0=>(oo (nthL q0 (0 + 1)) none fun v1=>(oo (toI .i64 v1) none fun x1=>(oo (nthL q0 ((0 + 1) + 1)) none fun v2=>(oo (toI .i64 v2) none fun x2=>(oo (nthL q0 (((0 + 1) + 1) + 1)) none fun v3=>(oo (toI .i64 v3) none fun x3=>(oo (nthL q0 ((((0 + 1) + 1) + 1) + 1)) none fun v4=>(oo (toI .i64 v4) none fun x4=>(bb (bq false (an (ieq x0 (0:Int)) (an (ieq x1 (0:Int)) (an (ieq x2 (0:Int)) (an (ieq x3 (0:Int)) (an (ieq x4 (0:Int)) true)))))) (some (.int .i64 (17:Int))) (some (.int .i64 (0:Int)))))))))))))) none)
def m47_2 (pu:PureF) (n:Nat) (ih0:Sl→Int→Int→Int→Sl→Sl→LV→OV) (z0 z1:Int) (s0:Sl) (z2 z3:Int) (b0:Bool) (z4:Int) (s1 s2:Sl) (q0:LV):OV:=
 (bb b0 (some (.int .i64 (2:Int))) (bb (allL closed1 q0) (oo (toN z0) none fun k1=>(bb (Nat.blt k1 5) (oo (nthL q0 (0 + k1 * 1)) none fun v0=>(oo (toI .i64 v0) none fun x0=>(bb (Nat.blt k1 5) (bb (an (Nat.ble ((0 + k1 * 1) + 1) (len q0)) true) (bb (allL closed1 (setL ([(.int .i64 (wrapF .i64 (Int.add x0 (1:Int))))]:LV) (0 + k1 * 1) q0)) (oo (toN z1) none fun k2=>(bb (Nat.blt k2 5) (oo (nthL (setL ([(.int .i64 (wrapF .i64 (Int.add x0 (1:Int))))]:LV) (0 + k1 * 1) q0) (0 + k2 * 1)) none fun v1=>(oo (toI .i64 v1) none fun x1=>(bb (Nat.blt k2 5) (bb (an (Nat.ble ((0 + k2 * 1) + 1) (len (setL ([(.int .i64 (wrapF .i64 (Int.add x0 (1:Int))))]:LV) (0 + k1 * 1) q0))) true) (bb (allL closed1 (setL ([(.int .i64 (wrapF .i64 (Int.sub x1 (1:Int))))]:LV) (0 + k2 * 1) (setL ([(.int .i64 (wrapF .i64 (Int.add x0 (1:Int))))]:LV) (0 + k1 * 1) q0))) (ih0 s0 z2 (wrapF .i64 (Int.add z3 (1:Int))) z4 s1 s2 (setL ([(.int .i64 (wrapF .i64 (Int.sub x1 (1:Int))))]:LV) (0 + k2 * 1) (setL ([(.int .i64 (wrapF .i64 (Int.add x0 (1:Int))))]:LV) (0 + k1 * 1) q0))) none) none) none))) none)) none) none) none))) none)) none))
def b47_1 (pu:PureF) (n:Nat) (ih0:Sl→Int→Int→Int→Sl→Sl→LV→OV) (s0:Sl) (z0 z1 z2:Int) (s1 s2:Sl) (q0:LV):OV:=
 (bb (allL closed1 q0) (bb (ilt z1 z0) (oo (toN z1) none fun k1=>(bb (an (Nat.blt k1 (Sl.n s0)) true) (oo (nthL (Sl.cs s0) (k1 * 1)) none fun v0=>(oo (toI .i64 v0) none fun x0=>(bb (an (Nat.blt k1 (Sl.n s2)) true) (oo (nthL (Sl.cs s2) (k1 * 1)) none fun v1=>(oo (toI .i64 v1) none fun x1=>(oo (pu 52 [(.int .i64 (0:Int)),(.int .i64 (bb (ilt x1 x0) x1 x0)),(.int .i64 (wrapF .i64 (Int.sub z2 (1:Int))))]) none fun v2=>(oo (vBool v2) none fun b0=>(bb (nt b0) (m47_2 pu n ih0 x0 x1 s0 z0 (Int.ofNat k1) true z2 s1 s2 q0) (m47_2 pu n ih0 x0 x1 s0 z0 (Int.ofNat k1) (nt (ilt (bb (ilt x0 x1) x1 x0) z2)) z2 s1 s2 q0)))))) none))) none)) (m47_0 pu n q0)) none)
def l47_1 (pu:PureF) (n w:Nat):Sl→Int→Int→Int→Sl→Sl→LV→OV:=
 Nat.rec (motive:=fun _=>Sl→Int→Int→Int→Sl→Sl→LV→OV) (fun _ _ _ _ _ _ _=>none) (fun _ ih0=>b47_1 pu n ih0) w
def m47_ (pu:PureF) (n:Nat) (x0:Int) (s0 s1:Sl):OV:=
 (oo (pu 52 [(.int .i64 (1:Int)),.int .i64 x0,(.int .i64 (5:Int))]) none fun v0=>(oo (vBool v0) none fun b0=>(bb (nt b0) (some (.int .i64 (1:Int))) (bb (ieq (Int.ofNat (Sl.n s0)) (0:Int)) (some (.int .i64 (4:Int))) (bb (ilt (10:Int) (Int.ofNat (Sl.n s0))) (some (.int .i64 (3:Int))) (bb (nt (ieq (Int.ofNat (Sl.n s1)) (Int.ofNat (Sl.n s0)))) (some (.int .i64 (5:Int))) (l47_1 pu n n s0 (Int.ofNat (Sl.n s0)) (0:Int) x0 s0 s1 ([(.int .i64 (0:Int)),(.int .i64 (0:Int)),(.int .i64 (0:Int)),(.int .i64 (0:Int)),(.int .i64 (0:Int))]:LV))))))))
def m47 (pu:PureF) (n:Nat) (args:LV):OV:=
 (ll args none fun a0 args=>(ll args (oo (vAgg a0) none fun l0=>(ll l0 none fun v0 l0=>(ll l0 none fun v1 l0=>(ll l0 none fun v2 l0=>(ll l0 (oo (toI .i64 v0) none fun x0=>(oo (toSl 1 v1) none fun s0=>(oo (toSl 1 v2) none fun s1=>(m47_ pu n x0 s0 s1)))) fun _ _=>none))))) fun _ _=>none))
theorem w47_0 (pu:PureF) (n:Nat) (q0:LV) {v:Value} (hm:m47_0 pu n q0 = some v):Run tt (callP tabs isP pu (inl pu)) 1 c47_54 (fr 73 [(3,pt 1 0)]) (hT 2 [oC q0]) (Fin tt 1 [.tmp 2] v):=by
 unfold m47_0 at hm
 refine .then ?_
 refine .then ?_
 replace hm:=bb_inv hm;obtain ⟨h0,hm⟩:=hm
 replace hm:=oo_inv hm;obtain ⟨v0,h1,hm⟩:=hm
 replace hm:=inv_toI hm;obtain ⟨x0,rfl,hm⟩:=hm
 replace hm:=oo_inv hm;obtain ⟨v1,h2,hm⟩:=hm
 replace hm:=inv_toI hm;obtain ⟨x1,rfl,hm⟩:=hm
 replace hm:=oo_inv hm;obtain ⟨v2,h3,hm⟩:=hm
 replace hm:=inv_toI hm;obtain ⟨x2,rfl,hm⟩:=hm
 replace hm:=oo_inv hm;obtain ⟨v3,h4,hm⟩:=hm
 replace hm:=inv_toI hm;obtain ⟨x3,rfl,hm⟩:=hm
 replace hm:=oo_inv hm;obtain ⟨v4,h5,hm⟩:=hm
 replace hm:=inv_toI hm;obtain ⟨x4,rfl,hm⟩:=hm
 refine .reg (eD (keep (hT 2 [oC q0]) (bb (Nat.ble (0 + 5) (len q0)) (some (.agg ⟨takeL 5 (dropL 0 q0)⟩)) none)) (keep_agg h0 (takeL_cons h1 (takeL_cons h2 (takeL_cons h3 (takeL_cons h4 (takeL_cons h5 rfl)))))) (eE)) ?_
 refine .ghs (fr 73 [(72,(zB (bq false (an (ieq x0 (0:Int)) (an (ieq x1 (0:Int)) (an (ieq x2 (0:Int)) (an (ieq x3 (0:Int)) (an (ieq x4 (0:Int)) true))))))))]) (hp 1 [(oT tab0)]) (.k0 [false] [] [72]) ?_
 replace hm:=bb_cases hm;rcases hm with ⟨h6,hm⟩ | ⟨h6,hm⟩
 ·refine .ifT (bq false (an (ieq x0 (0 : Int)) (an (ieq x1 (0 : Int)) (an (ieq x2 (0 : Int)) (an (ieq x3 (0 : Int)) (an (ieq x4 (0 : Int)) true)))))) (by kernel_rfl) h6 ?_
  refine .then (.rK ?_)
  refine .ghs (fr 73 [(2,(zI (17:Int)))]) (hp 1 [(oT tab0)]) (.k0 [false] [] [2]) ?_
  refine .ret ?_
  exact fin_ret (zI (17:Int)) (by kernel_rfl) (by kernel_rfl) hm
 ·refine .ifF (bq false (an (ieq x0 (0 : Int)) (an (ieq x1 (0 : Int)) (an (ieq x2 (0 : Int)) (an (ieq x3 (0 : Int)) (an (ieq x4 (0 : Int)) true)))))) (by kernel_rfl) h6 ?_
  refine .skip ?_
  refine .ghs (fr 73 []) (hp 1 [(oT tab0)]) (.k0 [false] [] []) ?_
  refine .then (.rK ?_)
  refine .ghs (fr 73 [(2,(zI (0:Int)))]) (hp 1 [(oT tab0)]) (.k0 [false] [] [2]) ?_
  refine .ret ?_
  exact fin_ret (zI (0:Int)) (by kernel_rfl) (by kernel_rfl) hm
theorem r47 {call:CallF} (pu:PureF) (n:Nat) (hcall:call = callP tabs isP pu (inl pu)) {args:LV} {v:Value} (hm:m47 pu n args = some v) (_:∀ x ∈ args,closed2 x = true):args.length≤73∧Run tt call 1 c47_58 (Fr.made 73 args) (pureHeap tabs) (Fin tt 1 [.tmp 2] v):=by
 subst hcall
 unfold m47 at hm
 replace hm:=ll_uncons hm;obtain ⟨a0,args_0,rfl,hm⟩:=hm
 replace hm:=ll_end hm;obtain ⟨rfl,hm⟩:=hm
 replace hm:=inv_vAgg hm;obtain ⟨l0,rfl,hm⟩:=hm
 replace hm:=ll_uncons hm;obtain ⟨v0,l2700_0,rfl,hm⟩:=hm
 replace hm:=ll_uncons hm;obtain ⟨v1,l2700_1,rfl,hm⟩:=hm
 replace hm:=ll_uncons hm;obtain ⟨v2,l2700_2,rfl,hm⟩:=hm
 replace hm:=ll_end hm;obtain ⟨rfl,hm⟩:=hm
 replace hm:=inv_toI hm;obtain ⟨x0,rfl,hm⟩:=hm
 replace hm:=inv_toSl hm;obtain ⟨s0,rfl,hm⟩:=hm
 replace hm:=inv_toSl hm;obtain ⟨s1,rfl,hm⟩:=hm
 unfold m47_ at hm
 refine ⟨by simp,?_⟩
 refine .same (F':=(fr 73 [(0,(.agg ⟨[zI x0,Sl.v 1 s0,Sl.v 1 s1]⟩))])) (H':=(hp 1 [(oT tab0)])) (by kernel_rfl) (by kernel_rfl) ?_
 refine .then (.rK ?_)
 refine .ghs (fr 73 [(1,pt 1 0)]) (hT 2 [(oC [zI x0,Sl.v 1 s0,Sl.v 1 s1])]) (.k0 [false] [.tmp 1 false] [1]) ?_
 refine .then ?_
 refine .block ?_
 refine .then ?_
 replace hm:=oo_inv hm;obtain ⟨v3,h0,hm⟩:=hm
 replace hm:=inv_vBool hm;obtain ⟨b0,rfl,hm⟩:=hm
 refine .reg (eC 2 ((oo (pu 52 [(zI (1:Int)),zI x0,(zI (5:Int))]) none fun v=>some (v,(hT 2 [(oC [zI x0,Sl.v 1 s0,Sl.v 1 s1])])))) (call_eq h0) (eE)) ?_
 refine .ghs (fr 73 [(1,pt 1 0),(7,(zB (nt b0)))]) (hT 2 [(oC [zI x0,Sl.v 1 s0,Sl.v 1 s1])]) (.k0 [false] [.tmp 1 false] [1,7]) ?_
 replace hm:=bb_cases hm;rcases hm with ⟨h1,hm⟩ | ⟨h1,hm⟩
 ·refine .ifT (nt b0) (by kernel_rfl) h1 ?_
  refine .then (.rK ?_)
  refine .ghs (fr 73 [(2,(zI (1:Int)))]) (hp 1 [(oT tab0)]) (.k0 [false] [] [2]) ?_
  refine .ret ?_
  exact fin_ret (zI (1:Int)) (by kernel_rfl) (by kernel_rfl) hm
 ·refine .ifF (nt b0) (by kernel_rfl) h1 ?_
  refine .then (.rK ?_)
  refine .ghs (fr 73 [(1,pt 1 0),(12,(zB (ieq (Int.ofNat (Sl.n s0)) (0:Int))))]) (hT 2 [(oC [zI x0,Sl.v 1 s0,Sl.v 1 s1])]) (.k0 [false] [.tmp 1 false] [1,12]) ?_
  replace hm:=bb_cases hm;rcases hm with ⟨h2,hm⟩ | ⟨h2,hm⟩
  ·refine .ifT (ieq (Int.ofNat (Sl.n s0)) (0 : Int)) (by kernel_rfl) h2 ?_
   refine .then (.rK ?_)
   refine .ghs (fr 73 [(2,(zI (4:Int)))]) (hp 1 [(oT tab0)]) (.k0 [false] [] [2]) ?_
   refine .ret ?_
   exact fin_ret (zI (4:Int)) (by kernel_rfl) (by kernel_rfl) hm
  ·refine .ifF (ieq (Int.ofNat (Sl.n s0)) (0 : Int)) (by kernel_rfl) h2 ?_
   refine .then (.rK ?_)
   refine .ghs (fr 73 [(1,pt 1 0),(17,(zB (ilt (10:Int) (Int.ofNat (Sl.n s0)))))]) (hT 2 [(oC [zI x0,Sl.v 1 s0,Sl.v 1 s1])]) (.k0 [false] [.tmp 1 false] [1,17]) ?_
   replace hm:=bb_cases hm;rcases hm with ⟨h3,hm⟩ | ⟨h3,hm⟩
   ·refine .ifT (ilt (10 : Int) (Int.ofNat (Sl.n s0))) (by kernel_rfl) h3 ?_
    refine .then (.rK ?_)
    refine .ghs (fr 73 [(2,(zI (3:Int)))]) (hp 1 [(oT tab0)]) (.k0 [false] [] [2]) ?_
    refine .ret ?_
    exact fin_ret (zI (3:Int)) (by kernel_rfl) (by kernel_rfl) hm
   ·refine .ifF (ilt (10 : Int) (Int.ofNat (Sl.n s0))) (by kernel_rfl) h3 ?_
    refine .then (.rK ?_)
    refine .ghs (fr 73 [(1,pt 1 0),(22,(zB (nt (ieq (Int.ofNat (Sl.n s1)) (Int.ofNat (Sl.n s0))))))]) (hT 2 [(oC [zI x0,Sl.v 1 s0,Sl.v 1 s1])]) (.k0 [false] [.tmp 1 false] [1,22]) ?_
    replace hm:=bb_cases hm;rcases hm with ⟨h4,hm⟩ | ⟨h4,hm⟩
    ·refine .ifT (nt (ieq (Int.ofNat (Sl.n s1)) (Int.ofNat (Sl.n s0)))) (by kernel_rfl) h4 ?_
     refine .then (.rK ?_)
     refine .ghs (fr 73 [(2,(zI (5:Int)))]) (hp 1 [(oT tab0)]) (.k0 [false] [] [2]) ?_
     refine .ret ?_
     exact fin_ret (zI (5:Int)) (by kernel_rfl) (by kernel_rfl) hm
    ·refine .ifF (nt (ieq (Int.ofNat (Sl.n s1)) (Int.ofNat (Sl.n s0)))) (by kernel_rfl) h4 ?_
     refine .skip ?_
     refine .ghs (fr 73 [(1,pt 1 0)]) (hT 2 [(oC [zI x0,Sl.v 1 s0,Sl.v 1 s1])]) (.k0 [false] [.tmp 1 false] [1]) ?_
     refine .then (.rK ?_)
     refine .ghs (fr 73 [(1,pt 1 0),(3,(pt 2 0))]) (hT 3 [(oC [zI x0,Sl.v 1 s0,Sl.v 1 s1]),(oC [(zI (0:Int)),(zI (0:Int)),(zI (0:Int)),(zI (0:Int)),(zI (0:Int))])]) (.k0 [false] [.tmp 1 false,.tmp 3 false] [1,3]) ?_
     refine .join (v:=v) (fun y:LV=>((fr 73 [(3,pt 1 0)]),(hT 2 [oC y]))) (fun y=>m47_0 pu n y) ?_ ?_
     ·rintro q0 hm
      exact w47_0 pu n q0 hm
     ·refine .then (.rK ?_)
      refine .ghs (fr 73 [(1,pt 1 0),(3,(pt 2 0)),(31,Sl.v 1 s0),(32,(zI (Int.ofNat (Sl.n s0)))),(33,(zI (0:Int)))]) (hT 3 [(oC [zI x0,Sl.v 1 s0,Sl.v 1 s1]),(oC [(zI (0:Int)),(zI (0:Int)),(zI (0:Int)),(zI (0:Int)),(zI (0:Int))])]) (.k0 [false] [.tmp 1 false,.tmp 3 false] [1,3,31,32,33]) ?_
      refine .block ?_
      refine .loopM (v:=v) (fun y:Sl×Int×Int×Int×Sl×Sl×LV=>((fr 73 [(1,pt 1 0),(3,(pt 2 0)),(31,(Sl.v 1 y.1)),(32,(zI y.2.1)),(33,(zI y.2.2.1))]),(hT 3 [(oC [(zI y.2.2.2.1),(Sl.v 1 y.2.2.2.2.1),(Sl.v 1 y.2.2.2.2.2.1)]),(oC y.2.2.2.2.2.2)]))) (fun w y=>l47_1 pu n w y.1 y.2.1 y.2.2.1 y.2.2.2.1 y.2.2.2.2.1 y.2.2.2.2.2.1 y.2.2.2.2.2.2) n ⟨(s0,(Int.ofNat (Sl.n s0)),(0:Int),x0,s0,s1,([(zI (0:Int)),(zI (0:Int)),(zI (0:Int)),(zI (0:Int)),(zI (0:Int))]:LV)),hm,(.k0 [false] [.tmp 1 false,.tmp 3 false] [1,3,31,32,33])⟩ (fun _=>rfl) ?_
      rintro w0 ⟨s2,z0,z1,z2,s3,s4,q1⟩ hm
      replace hm:b47_1 pu n (l47_1 pu n w0) s2 z0 z1 z2 s3 s4 q1 = some v:=hm
      unfold b47_1 at hm
      refine .then (.rK ?_)
      replace hm:=bb_inv hm;obtain ⟨h5,hm⟩:=hm
      refine .ghs (fr 73 [(1,pt 1 0),(3,(pt 2 0)),(31,Sl.v 1 s2),(32,zI z0),(33,zI z1),(34,(zB (ilt z1 z0)))]) (hT 3 [(oC [zI z2,Sl.v 1 s3,Sl.v 1 s4]),oC q1]) (.k [2] [false] [.tmp 1 false,.tmp 3 false] [1,3,31,32,33,34] ⟨trF h5,trivial⟩) ?_
      refine .then ?_
      replace hm:=bb_cases hm;rcases hm with ⟨h6,hm⟩ | ⟨h6,hm⟩
      ·refine .ifT (ilt z1 z0) (by kernel_rfl) h6 ?_
       refine .skip ?_
       refine .ghs (fr 73 [(1,pt 1 0),(3,(pt 2 0)),(31,Sl.v 1 s2),(32,zI z0),(33,zI z1)]) (hT 3 [(oC [zI z2,Sl.v 1 s3,Sl.v 1 s4]),oC q1]) (.k [2] [false] [.tmp 1 false,.tmp 3 false] [1,3,31,32,33] ⟨trF h5,trivial⟩) ?_
       refine .then ?_
       refine .block ?_
       refine .then ?_
       replace hm:=oo_inv hm;obtain ⟨k1,h7,hm⟩:=hm
       obtain rfl:=toN_some h7
       replace hm:=bb_inv hm;obtain ⟨h8,hm⟩:=hm
       replace hm:=oo_inv hm;obtain ⟨v4,h9,hm⟩:=hm
       replace hm:=inv_toI hm;obtain ⟨x1,rfl,hm⟩:=hm
       refine .reg (eC 1 (keep (hT 3 [(oC [zI z2,Sl.v 1 s3,Sl.v 1 s4]),oC q1]) (bb (an (Nat.blt k1 (Sl.n s2)) true) (some (fpV (k1 * 1) (Sl.cs s2))) none)) (keep_bb h8) (eD (keep (hT 3 [(oC [zI z2,Sl.v 1 s3,Sl.v 1 s4]),oC q1]) (nthL (Sl.cs s2) (k1 * 1))) (keep_eq h9) (eE))) ?_
       refine .ghs (fr 73 [(1,pt 1 0),(3,(pt 2 0)),(4,(zI (Int.ofNat k1))),(5,zI x1),(31,Sl.v 1 s2),(32,zI z0),(33,(zI (Int.ofNat k1)))]) (hT 3 [(oC [zI z2,Sl.v 1 s3,Sl.v 1 s4]),oC q1]) (.k [2] [false] [.tmp 1 false,.tmp 3 false] [1,3,4,5,31,32,33] ⟨trF h5,trivial⟩) ?_
       refine .then ?_
       replace hm:=bb_inv hm;obtain ⟨h10,hm⟩:=hm
       replace hm:=oo_inv hm;obtain ⟨v5,h11,hm⟩:=hm
       replace hm:=inv_toI hm;obtain ⟨x2,rfl,hm⟩:=hm
       refine .reg (eC 3 (keep (hT 3 [(oC [zI z2,Sl.v 1 s3,Sl.v 1 s4]),oC q1]) (bb (an (Nat.blt k1 (Sl.n s4)) true) (some (fpV (k1 * 1) (Sl.cs s4))) none)) (keep_bb h10) (eD (keep (hT 3 [(oC [zI z2,Sl.v 1 s3,Sl.v 1 s4]),oC q1]) (nthL (Sl.cs s4) (k1 * 1))) (keep_eq h11) (eE))) ?_
       refine .ghs (fr 73 [(1,pt 1 0),(3,(pt 2 0)),(5,zI x1),(6,zI x2),(31,Sl.v 1 s2),(32,zI z0),(33,(zI (Int.ofNat k1)))]) (hT 3 [(oC [zI z2,Sl.v 1 s3,Sl.v 1 s4]),oC q1]) (.k [2] [false] [.tmp 1 false,.tmp 3 false] [1,3,5,6,31,32,33] ⟨trF h5,trivial⟩) ?_
       refine .then ?_
       refine .join (v:=v) (fun y:Int×Int×Sl×Int×Int×Bool×Int×Sl×Sl×LV=>((fr 73 [(1,pt 1 0),(3,(pt 2 0)),(5,(zI y.1)),(6,(zI y.2.1)),(31,(Sl.v 1 y.2.2.1)),(32,(zI y.2.2.2.1)),(33,(zI y.2.2.2.2.1)),(58,(zB y.2.2.2.2.2.1))]),(hT 3 [(oC [(zI y.2.2.2.2.2.2.1),(Sl.v 1 y.2.2.2.2.2.2.2.1),(Sl.v 1 y.2.2.2.2.2.2.2.2.1)]),(oC y.2.2.2.2.2.2.2.2.2)]))) (fun y=>m47_2 pu n (l47_1 pu n w0) y.1 y.2.1 y.2.2.1 y.2.2.2.1 y.2.2.2.2.1 y.2.2.2.2.2.1 y.2.2.2.2.2.2.1 y.2.2.2.2.2.2.2.1 y.2.2.2.2.2.2.2.2.1 y.2.2.2.2.2.2.2.2.2) ?_ ?_
       ·rintro ⟨z3, z4, s5, z5, z6, b1, z7, s6, s7, q2⟩ hm
        unfold m47_2 at hm
        replace hm:=bb_cases hm;rcases hm with ⟨h12,hm⟩ | ⟨h12,hm⟩
        ·refine .ifT b1 (by kernel_rfl) h12 ?_
         refine .then (.rK ?_)
         refine .ghs (fr 73 [(2,(zI (2:Int)))]) (hp 1 [(oT tab0)]) (.k0 [false] [] [2]) ?_
         refine .ret ?_
         exact fin_ret (zI (2:Int)) (by kernel_rfl) (by kernel_rfl) hm
        ·refine .ifF b1 (by kernel_rfl) h12 ?_
         refine .skip ?_
         replace hm:=bb_inv hm;obtain ⟨h13,hm⟩:=hm
         refine .ghs (fr 73 [(1,pt 1 0),(3,(pt 2 0)),(5,zI z3),(6,zI z4),(31,Sl.v 1 s5),(32,zI z5),(33,zI z6)]) (hT 3 [(oC [zI z7,Sl.v 1 s6,Sl.v 1 s7]),oC q2]) (.k [2] [false] [.tmp 1 false,.tmp 3 false] [1,3,5,6,31,32,33] ⟨trF h13,trivial⟩) ?_
         refine .then ?_
         replace hm:=oo_inv hm;obtain ⟨k2,h14,hm⟩:=hm
         obtain rfl:=toN_some h14
         replace hm:=bb_inv hm;obtain ⟨h15,hm⟩:=hm
         replace hm:=oo_inv hm;obtain ⟨v6,h16,hm⟩:=hm
         replace hm:=inv_toI hm;obtain ⟨x3,rfl,hm⟩:=hm
         replace hm:=bb_inv hm;obtain ⟨h17,hm⟩:=hm
         replace hm:=bb_inv hm;obtain ⟨h18,hm⟩:=hm
         refine .reg (eC 1 (keep (hT 3 [(oC [zI z7,Sl.v 1 s6,Sl.v 1 s7]),oC q2]) (bb (Nat.blt k2 5) (some (.pointer (some ⟨2,(0 + k2 * 1),none⟩))) none)) (keep_bb h15) (eD (keep (hT 3 [(oC [zI z7,Sl.v 1 s6,Sl.v 1 s7]),oC q2]) (nthL q2 (0 + k2 * 1))) (keep_eq h16) (eC 1 (keep (hT 3 [(oC [zI z7,Sl.v 1 s6,Sl.v 1 s7]),oC q2]) (bb (Nat.blt k2 5) (some (.pointer (some ⟨2,(0 + k2 * 1),none⟩))) none)) (keep_bb h17) (eD (done (bb (an (Nat.ble ((0 + k2 * 1) + 1) (len q2)) true) (some (hT 3 [(oC [zI z7,Sl.v 1 s6,Sl.v 1 s7]),(oC (setL ([(zI (wrapF .i64 (Int.add x3 (1:Int))))]:LV) (0 + k2 * 1) q2))])) none) undef) (done_bb h18) (eE))))) ?_
         replace hm:=bb_inv hm;obtain ⟨h19,hm⟩:=hm
         refine .ghs (fr 73 [(1,pt 1 0),(3,(pt 2 0)),(6,zI z4),(31,Sl.v 1 s5),(32,zI z5),(33,zI z6)]) (hT 3 [(oC [zI z7,Sl.v 1 s6,Sl.v 1 s7]),(oC (setL ([(zI (wrapF .i64 (Int.add x3 (1:Int))))]:LV) (0 + k2 * 1) q2))]) (.k [2] [false] [.tmp 1 false,.tmp 3 false] [1,3,6,31,32,33] ⟨trF h19,trivial⟩) ?_
         replace hm:=oo_inv hm;obtain ⟨k3,h20,hm⟩:=hm
         obtain rfl:=toN_some h20
         replace hm:=bb_inv hm;obtain ⟨h21,hm⟩:=hm
         replace hm:=oo_inv hm;obtain ⟨v7,h22,hm⟩:=hm
         replace hm:=inv_toI hm;obtain ⟨x4,rfl,hm⟩:=hm
         replace hm:=bb_inv hm;obtain ⟨h23,hm⟩:=hm
         replace hm:=bb_inv hm;obtain ⟨h24,hm⟩:=hm
         refine .reg (eC 1 (keep (hT 3 [(oC [zI z7,Sl.v 1 s6,Sl.v 1 s7]),(oC (setL ([(zI (wrapF .i64 (Int.add x3 (1:Int))))]:LV) (0 + k2 * 1) q2))]) (bb (Nat.blt k3 5) (some (.pointer (some ⟨2,(0 + k3 * 1),none⟩))) none)) (keep_bb h21) (eD (keep (hT 3 [(oC [zI z7,Sl.v 1 s6,Sl.v 1 s7]),(oC (setL ([(zI (wrapF .i64 (Int.add x3 (1:Int))))]:LV) (0 + k2 * 1) q2))]) (nthL (setL ([(zI (wrapF .i64 (Int.add x3 (1:Int))))]:LV) (0 + k2 * 1) q2) (0 + k3 * 1))) (keep_eq h22) (eC 1 (keep (hT 3 [(oC [zI z7,Sl.v 1 s6,Sl.v 1 s7]),(oC (setL ([(zI (wrapF .i64 (Int.add x3 (1:Int))))]:LV) (0 + k2 * 1) q2))]) (bb (Nat.blt k3 5) (some (.pointer (some ⟨2,(0 + k3 * 1),none⟩))) none)) (keep_bb h23) (eD (done (bb (an (Nat.ble ((0 + k3 * 1) + 1) (len (setL ([(zI (wrapF .i64 (Int.add x3 (1:Int))))]:LV) (0 + k2 * 1) q2))) true) (some (hT 3 [(oC [zI z7,Sl.v 1 s6,Sl.v 1 s7]),(oC (setL ([(zI (wrapF .i64 (Int.sub x4 (1:Int))))]:LV) (0 + k3 * 1) (setL ([(zI (wrapF .i64 (Int.add x3 (1:Int))))]:LV) (0 + k2 * 1) q2)))])) none) undef) (done_bb h24) (eE))))) ?_
         replace hm:=bb_inv hm;obtain ⟨h25,hm⟩:=hm
         refine .ghs (fr 73 [(1,pt 1 0),(3,(pt 2 0)),(31,Sl.v 1 s5),(32,zI z5),(33,zI z6)]) (hT 3 [(oC [zI z7,Sl.v 1 s6,Sl.v 1 s7]),(oC (setL ([(zI (wrapF .i64 (Int.sub x4 (1:Int))))]:LV) (0 + k3 * 1) (setL ([(zI (wrapF .i64 (Int.add x3 (1:Int))))]:LV) (0 + k2 * 1) q2)))]) (.k [2] [false] [.tmp 1 false,.tmp 3 false] [1,3,31,32,33] ⟨trF h25,trivial⟩) ?_
         refine .rK ?_
         exact ⟨(s5,z5,(wrapF .i64 (Int.add z6 (1:Int))),z7,s6,s7,(setL ([(zI (wrapF .i64 (Int.sub x4 (1:Int))))]:LV) (0 + k3 * 1) (setL ([(zI (wrapF .i64 (Int.add x3 (1:Int))))]:LV) (0 + k2 * 1) q2))),hm,(.k [2] [false] [.tmp 1 false,.tmp 3 false] [1,3,31,32,33] ⟨trF h25,trivial⟩)⟩
       ·replace hm := oo_inv hm; obtain ⟨v8, h26, hm⟩ := hm
        replace hm:=inv_vBool hm;obtain ⟨b2,rfl,hm⟩:=hm
        replace hm:=bb_cases hm;rcases hm with ⟨h27,hm⟩ | ⟨h27,hm⟩
        ·refine .reg (eC 6 ((oo (pu 52 [(zI (0 : Int)), (zI (bb (ilt x2 x1) x2 x1)), (zI (wrapF .i64 (Int.sub z2 (1 : Int))))]) none fun v => some (v, (hT 3 [(oC [zI z2, Sl.v 1 s3, Sl.v 1 s4]), oC q1])))) (call_eq h26) (eD (some ((zB (nt b2)), (hT 3 [(oC [zI z2, Sl.v 1 s3, Sl.v 1 s4]), oC q1]))) (show _ = some ((zB true), _) from (by rw [h27])) (eE))) ?_
         exact ⟨(x1,x2,s2,z0,(Int.ofNat k1),true,z2,s3,s4,q1),hm,(.k [2] [false] [.tmp 1 false,.tmp 3 false] [1,3,5,6,31,32,33,58] ⟨trF h5,trivial⟩)⟩
        ·refine .reg (eC 6 ((oo (pu 52 [(zI (0 : Int)), (zI (bb (ilt x2 x1) x2 x1)), (zI (wrapF .i64 (Int.sub z2 (1 : Int))))]) none fun v => some (v, (hT 3 [(oC [zI z2, Sl.v 1 s3, Sl.v 1 s4]), oC q1])))) (call_eq h26) (eD (some ((zB (nt b2)), (hT 3 [(oC [zI z2, Sl.v 1 s3, Sl.v 1 s4]), oC q1]))) (show _ = some ((zB false), _) from (by rw [h27])) (eE))) ?_
         exact ⟨(x1,x2,s2,z0,(Int.ofNat k1),(nt (ilt (bb (ilt x1 x2) x2 x1) z2)),z2,s3,s4,q1),hm,(.k [2] [false] [.tmp 1 false,.tmp 3 false] [1,3,5,6,31,32,33,58] ⟨trF h5,trivial⟩)⟩
      ·refine .ifF (ilt z1 z0) (by kernel_rfl) h6 ?_
       refine .exit ?_
       exact ⟨q1,hm,(.k [2] [false] [.tmp 3 false] [3] ⟨trF h5,trivial⟩)⟩
def m48_0 (pu:PureF) (n n0 c0:Nat) (q0:LV):OV:=
 (bb (allL closed1 q0) (bb (an (Nat.ble (0 + n0 * 1) (len q0)) (allL closed1 (takeL (n0 * 1) (dropL 0 q0)))) (some (Sl.v 1 (Sl.mk n0 0 (takeL (n0 * 1) (dropL 0 q0))))) none) none)
def b48_2 (pu:PureF) (n:Nat) (ih0:Nat→Nat→Int→Int→Sl→Sl→LV→List Ent→Nat→OV) (ih1:Nat→Nat→Int→Sl→Int→Int→Int→Sl→Sl→LV→List Ent→Nat→OV) (n0 c0:Nat) (z0:Int) (s0:Sl) (z1 z2 z3:Int) (s1 s2:Sl) (q0:LV) (e0:List Ent) (k1:Nat):OV:=
 (bb (allL closed1 q0) (bb (allL entClosed e0) (bb (ilt z2 z1) (oo (toN z2) none fun k2=>(bb (an (Nat.blt k2 (Sl.n s0)) true) (oo (nthL (Sl.cs s0) (k2 * 1)) none fun v0=>(oo (toI .i64 v0) none fun x0=>(oo (toN x0) none fun k3=>(ih1 n0 c0 (aandNot .u16 z0 (shlI .u16 (1:Int) k3)) s0 z1 (wrapF .i64 (Int.add (Int.ofNat k2) (1:Int))) z3 s1 s2 q0 e0 k1)))) none)) (ih0 n0 c0 z0 z3 s1 s2 q0 e0 k1)) none) none)
def l48_2 (pu:PureF) (n:Nat) (ih0:Nat→Nat→Int→Int→Sl→Sl→LV→List Ent→Nat→OV) (w:Nat):Nat→Nat→Int→Sl→Int→Int→Int→Sl→Sl→LV→List Ent→Nat→OV:=
 Nat.rec (motive:=fun _=>Nat→Nat→Int→Sl→Int→Int→Int→Sl→Sl→LV→List Ent→Nat→OV) (fun _ _ _ _ _ _ _ _ _ _ _ _=>none) (fun _ ih1=>b48_2 pu n ih0 ih1) w
def b48_1 (pu:PureF) (n:Nat) (ih0:Nat→Nat→Int→Int→Sl→Sl→LV→List Ent→Nat→OV) (n0 c0:Nat) (z0 z1:Int) (s0 s1:Sl) (q0:LV) (e0:List Ent) (k1:Nat):OV:=
 (bb (allL closed1 q0) (bb (allL entClosed e0) (bb (nt (ieq z0 (0:Int))) (oo (pu 67 [.int .u16 z0]) none fun v0=>(oo (toI .i64 v0) none fun x0=>(oo (toN x0) none fun k2=>(bb (allL entClosed e0) (oo (pu 10660 [(.pointer (some ⟨1,0,none⟩)),.int .u16 z0,(.agg ⟨[.int .i64 z1,Sl.v 1 s0,Sl.v 1 s1,(.map (some 2))]⟩),(encO (.map e0 k1))]) none fun v1=>(oo (vTup v1) none fun l0=>(ll l0 none fun v2 l0=>(ll l0 none fun v3 l0=>(ll l0 none fun v4 l0=>(ll l0 (oo (toI .i64 v2) none fun x1=>(oo (vAgg v3) none fun l1=>(ll l1 none fun v5 l1=>(ll l1 none fun v6 l1=>(ll l1 none fun v7 l1=>(ll l1 none fun v8 l1=>(ll l1 (oo (toI .i64 v5) none fun x2=>(oo (toSl 1 v6) none fun s2=>(oo (toSl 1 v7) none fun s3=>(bb (isMp v8 2) (oo (vMapO v4) none fun y0=>(bb (allL entClosed (MapV.es y0)) (bb (allL entClosed (MapV.es y0)) (oo (pu 10680 [(.pointer (some ⟨1,0,none⟩)),(Sl.v 1 (Sl.mk 1 0 (takeL (1 * 1) (dropL 0 ([(.int .i64 (Int.ofNat k2))]:LV))))),(.int .u16 (aandNot .u16 z0 (shlI .u16 (1:Int) k2))),(.int .i64 (wrapF .i64 (Int.sub x1 (1:Int)))),(.agg ⟨[.int .i64 x2,Sl.v 1 s2,Sl.v 1 s3,(.map (some 2))]⟩),(encO (.map (MapV.es y0) (MapV.clock y0)))]) none fun v9=>(oo (vTup v9) none fun l2=>(ll l2 none fun v10 l2=>(ll l2 none fun v11 l2=>(ll l2 none fun v12 l2=>(ll l2 (oo (toSl 1 v10) none fun s4=>(oo (vAgg v11) none fun l3=>(ll l3 none fun v13 l3=>(ll l3 none fun v14 l3=>(ll l3 none fun v15 l3=>(ll l3 none fun v16 l3=>(ll l3 (oo (toI .i64 v13) none fun x3=>(oo (toSl 1 v14) none fun s5=>(oo (toSl 1 v15) none fun s6=>(bb (isMp v16 2) (oo (vMapO v12) none fun y1=>(bb (allL entClosed (MapV.es y1)) (bb (allL entClosed (MapV.es y1)) (bb (growC 1 24 n0 c0 1 q0) (bb (allL closed1 (appL (dropL 0 q0) [Sl.v 1 s4])) (l48_2 pu n ih0 n (n0 + 1) (2 * (n0 + 1) + bb false 1 0) z0 s4 (Int.ofNat (Sl.n s4)) (0:Int) x3 s5 s6 (appL (dropL 0 q0) [Sl.v 1 s4]) (MapV.es y1) (MapV.clock y1)) none) none) none) none)) none)))) fun _ _=>none))))))) fun _ _=>none)))))) none) none)) none)))) fun _ _=>none))))))) fun _ _=>none)))))) none)))) (m48_0 pu n n0 c0 q0)) none) none)
def l48_1 (pu:PureF) (n w:Nat):Nat→Nat→Int→Int→Sl→Sl→LV→List Ent→Nat→OV:=
 Nat.rec (motive:=fun _=>Nat→Nat→Int→Int→Sl→Sl→LV→List Ent→Nat→OV) (fun _ _ _ _ _ _ _ _ _=>none) (fun _ ih0=>b48_1 pu n ih0) w
def m48_ (pu:PureF) (n:Nat) (x0:Int) (s0 s1:Sl):OV:=
 (oo (pu 10650 [(.agg ⟨[.int .i64 x0,Sl.v 1 s0,Sl.v 1 s1]⟩)]) none fun v0=>(oo (vTup v0) none fun l0=>(ll l0 none fun v1 l0=>(ll l0 none fun v2 l0=>(ll l0 none fun v3 l0=>(ll l0 (bb (isPt v1 1 0) (oo (vAgg v2) none fun l1=>(ll l1 none fun v4 l1=>(ll l1 none fun v5 l1=>(ll l1 none fun v6 l1=>(ll l1 none fun v7 l1=>(ll l1 (oo (toI .i64 v4) none fun x1=>(oo (toSl 1 v5) none fun s2=>(oo (toSl 1 v6) none fun s3=>(bb (isMp v7 2) (oo (vMapO v3) none fun y0=>(bb (allL entClosed (MapV.es y0)) (bb (allL entClosed (MapV.es y0)) (oo (pu 51 [(.agg ⟨[.int .i64 x0,Sl.v 1 s0,Sl.v 1 s1]⟩)]) none fun v8=>(oo (toI .u16 v8) none fun x2=>(l48_1 pu n n 0 0 x2 x1 s2 s3 ([]:LV) (MapV.es y0) (MapV.clock y0)))) none) none)) none)))) fun _ _=>none)))))) none) fun _ _=>none))))))
def m48 (pu:PureF) (n:Nat) (args:LV):OV:=
 (ll args none fun a0 args=>(ll args (oo (vAgg a0) none fun l0=>(ll l0 none fun v0 l0=>(ll l0 none fun v1 l0=>(ll l0 none fun v2 l0=>(ll l0 (oo (toI .i64 v0) none fun x0=>(oo (toSl 1 v1) none fun s0=>(oo (toSl 1 v2) none fun s1=>(m48_ pu n x0 s0 s1)))) fun _ _=>none))))) fun _ _=>none))
theorem w48_0 (pu:PureF) (n n0 c0:Nat) (q0:LV) {v:Value} (hm:m48_0 pu n n0 c0 q0 = some v):Run tt (callP tabs isP pu (inl pu)) 1 c48_33 (fr 46 [(4,sc 1 0 1 n0 c0)]) (hT 2 [oC q0]) (Fin tt 1 [.tmp 2] v):=by
 unfold m48_0 at hm
 refine .then (.rK ?_)
 replace hm:=bb_inv hm;obtain ⟨h0,hm⟩:=hm
 refine .ghs (fr 46 [(2,sc 1 0 1 n0 c0)]) (hT 2 [oC q0]) (.k [1] [false] [.tmp 2 false] [2] ⟨trF h0,trivial⟩) ?_
 replace hm:=bb_inv hm;obtain ⟨h1,hm⟩:=hm
 refine .ghs (Fr.puts (fr 46 [(2,sc 1 0 1 n0 c0)]) [(2,(Sl.v 1 (Sl.mk n0 0 (takeL (n0 * 1) (dropL 0 q0)))))]) (hT 2 [.dead]) (.freezeC 1 2 1 (an (Nat.ble (0 + n0 * 1) (len q0)) (allL closed1 (takeL (n0 * 1) (dropL 0 q0)))) (F1:=(Fr.puts (fr 46 [(2,sc 1 0 1 n0 c0)]) [(2,(Sl.v 1 (Sl.mk n0 0 (takeL (n0 * 1) (dropL 0 q0)))))])) (H1:=(hT 2 [.dead])) (by kernel_rfl) (by kernel_rfl) h1 (GhS.id _ _)) ?_
 refine .ret ?_
 exact fin_ret (Sl.v 1 (Sl.mk n0 0 (takeL (n0 * 1) (dropL 0 q0)))) (by kernel_rfl) (by kernel_rfl) hm
theorem r48 {call:CallF} (pu:PureF) (n:Nat) (hcall:call = callP tabs isP pu (inl pu)) {args:LV} {v:Value} (hm:m48 pu n args = some v) (_:∀ x ∈ args,closed2 x = true):args.length≤46∧Run tt call 1 c48_37 (Fr.made 46 args) (pureHeap tabs) (Fin tt 1 [.tmp 2] v):=by
 subst hcall
 unfold m48 at hm
 replace hm:=ll_uncons hm;obtain ⟨a0,args_0,rfl,hm⟩:=hm
 replace hm:=ll_end hm;obtain ⟨rfl,hm⟩:=hm
 replace hm:=inv_vAgg hm;obtain ⟨l0,rfl,hm⟩:=hm
 replace hm:=ll_uncons hm;obtain ⟨v0,l3171_0,rfl,hm⟩:=hm
 replace hm:=ll_uncons hm;obtain ⟨v1,l3171_1,rfl,hm⟩:=hm
 replace hm:=ll_uncons hm;obtain ⟨v2,l3171_2,rfl,hm⟩:=hm
 replace hm:=ll_end hm;obtain ⟨rfl,hm⟩:=hm
 replace hm:=inv_toI hm;obtain ⟨x0,rfl,hm⟩:=hm
 replace hm:=inv_toSl hm;obtain ⟨s0,rfl,hm⟩:=hm
 replace hm:=inv_toSl hm;obtain ⟨s1,rfl,hm⟩:=hm
 unfold m48_ at hm
 refine ⟨by simp,?_⟩
 refine .same (F':=(fr 46 [(0,(.agg ⟨[zI x0,Sl.v 1 s0,Sl.v 1 s1]⟩))])) (H':=(hp 1 [(oT tab0)])) (by kernel_rfl) (by kernel_rfl) ?_
 refine .then (.rK ?_)
 refine .ghs (fr 46 [(1,pt 1 0)]) (hT 2 [(oC [zI x0,Sl.v 1 s0,Sl.v 1 s1])]) (.k0 [false] [.tmp 1 false] [1]) ?_
 refine .then ?_
 replace hm:=oo_inv hm;obtain ⟨v3,h0,hm⟩:=hm
 replace hm:=inv_vTup hm;obtain ⟨l1,rfl,hm⟩:=hm
 replace hm:=ll_uncons hm;obtain ⟨v4,l3214_0,rfl,hm⟩:=hm
 replace hm:=ll_uncons hm;obtain ⟨v5,l3214_1,rfl,hm⟩:=hm
 replace hm:=ll_uncons hm;obtain ⟨v6,l3214_2,rfl,hm⟩:=hm
 replace hm:=ll_end hm;obtain ⟨rfl,hm⟩:=hm
 replace hm:=bb_inv hm;obtain ⟨h1,hm⟩:=hm
 obtain rfl:=isPt_ok h1
 replace hm:=inv_vAgg hm;obtain ⟨l2,rfl,hm⟩:=hm
 replace hm:=ll_uncons hm;obtain ⟨v7,l3220_0,rfl,hm⟩:=hm
 replace hm:=ll_uncons hm;obtain ⟨v8,l3220_1,rfl,hm⟩:=hm
 replace hm:=ll_uncons hm;obtain ⟨v9,l3220_2,rfl,hm⟩:=hm
 replace hm:=ll_uncons hm;obtain ⟨v10,l3220_3,rfl,hm⟩:=hm
 replace hm:=ll_end hm;obtain ⟨rfl,hm⟩:=hm
 replace hm:=inv_toI hm;obtain ⟨x1,rfl,hm⟩:=hm
 replace hm:=inv_toSl hm;obtain ⟨s2,rfl,hm⟩:=hm
 replace hm:=inv_toSl hm;obtain ⟨s3,rfl,hm⟩:=hm
 replace hm:=bb_inv hm;obtain ⟨h2,hm⟩:=hm
 obtain rfl:=isMp_ok h2
 replace hm:=oo_inv hm;obtain ⟨y0,h3,hm⟩:=hm
 replace hm:=bb_inv hm;obtain ⟨h4,hm⟩:=hm
 refine .reg (eC 1 (objG tabs [[none,some 1,some 1]] 1 [] [true,false] (pu 10650) [(.agg ⟨[zI x0,Sl.v 1 s0,Sl.v 1 s1]⟩)] (hT 2 [(oC [zI x0,Sl.v 1 s0,Sl.v 1 s1])])) (objG_eq (as:=[(.agg ⟨[zI x0,Sl.v 1 s0,Sl.v 1 s1]⟩)]) (H1:=(hT 2 [(oC [zI x0,Sl.v 1 s0,Sl.v 1 s1])])) (gvAL_c (gvA_a (gvL_c gv_n (gvL_c (gv_s (giveV_cl (z:=1) (v:=(Sl.v 1 s0)) (H:=(hT 2 [(oC [zI x0,Sl.v 1 s0,Sl.v 1 s1])])) (by kernel_rfl) (by kernel_rfl) (by kernel_rfl))) (gvL_c (gv_s (giveV_cl (z:=1) (v:=(Sl.v 1 s1)) (H:=(hT 2 [(oC [zI x0,Sl.v 1 s0,Sl.v 1 s1])])) (by kernel_rfl) (by kernel_rfl) (by kernel_rfl))) gvL_n)))) gvAL_n) (objF_eq (H2:=(hT 4 [(oC [zI x0,Sl.v 1 s0,Sl.v 1 s1]),(oC [zI x1,Sl.v 1 s2,Sl.v 1 s3,(.map (some 3))]),(.map (MapV.es y0) (MapV.clock y0))])) (v:=(pt 1 0)) (v':=(pt 2 0)) [some 0] [] [] [(.agg ⟨[zI x0,Sl.v 1 s0,Sl.v 1 s1]⟩)] [(.agg ⟨[zI x1,Sl.v 1 s2,Sl.v 1 s3,(.map (some 2))]⟩),v6] [(oC [zI x1,Sl.v 1 s2,Sl.v 1 s3,(.map (some 2))]),(.map (MapV.es y0) (MapV.clock y0))] [some 0,none,some 1,some 2] [(true,(oC [zI x1,Sl.v 1 s2,Sl.v 1 s3,(.map (some 2))])),(false,(.map (MapV.es y0) (MapV.clock y0)))] [(oC [zI x1,Sl.v 1 s2,Sl.v 1 s3,(.map (some 3))]),(.map (MapV.es y0) (MapV.clock y0))] (by kernel_rfl) mapO_n (Eq.trans (by kernel_rfl) h0) (mapO_c rfl (mapO_c (vMapO_some h3) mapO_n)) (mapO_c (by kernel_rfl) (mapO_c (bO_map h4) mapO_n)))) (eE)) ?_
 replace hm:=bb_inv hm;obtain ⟨h5,hm⟩:=hm
 refine .ghs (fr 46 [(1,pt 1 0),(3,(pt 2 0))]) (hT 4 [(oC [zI x0,Sl.v 1 s0,Sl.v 1 s1]),(oC [zI x1,Sl.v 1 s2,Sl.v 1 s3,(.map (some 3))]),(.map (MapV.es y0) (MapV.clock y0))]) (.k [3] [false] [.tmp 1 false,.tmp 3 true,.cell 2 3 false] [1,3] ⟨trF h5,trivial⟩) ?_
 refine .then (.rK ?_)
 refine .ghs (fr 46 [(1,pt 1 0),(3,(pt 2 0)),(4,(.slice none 0 0))]) (hT 4 [(oC [zI x0,Sl.v 1 s0,Sl.v 1 s1]),(oC [zI x1,Sl.v 1 s2,Sl.v 1 s3,(.map (some 3))]),(.map (MapV.es y0) (MapV.clock y0))]) (.k [3] [false] [.tmp 1 false,.tmp 3 true,.cell 2 3 false] [1,3,4] ⟨trF h5,trivial⟩) ?_
 refine .join (v:=v) (fun y:Nat×Nat×LV=>((fr 46 [(4,(sc 1 0 1 y.1 y.2.1))]),(hT 2 [(oC y.2.2)]))) (fun y=>m48_0 pu n y.1 y.2.1 y.2.2) ?_ ?_
 ·rintro ⟨n0, c0, q0⟩ hm
  exact w48_0 pu n n0 c0 q0 hm
 ·refine .then ?_
  replace hm:=oo_inv hm;obtain ⟨v11,h6,hm⟩:=hm
  replace hm:=inv_toI hm;obtain ⟨x2,rfl,hm⟩:=hm
  refine .reg (eC 1 ((oo (pu 51 [(.agg ⟨[zI x0,Sl.v 1 s0,Sl.v 1 s1]⟩)]) none fun v=>some (v,(hT 4 [(oC [zI x0,Sl.v 1 s0,Sl.v 1 s1]),(oC [zI x1,Sl.v 1 s2,Sl.v 1 s3,(.map (some 3))]),(.map (MapV.es y0) (MapV.clock y0))])))) (call_eq h6) (eE)) ?_
  refine .ghs (fr 46 [(3,pt 1 0),(4,(.slice none 0 0)),(5,.int .u16 x2)]) (hT 3 [(oC [zI x1,Sl.v 1 s2,Sl.v 1 s3,(.map (some 2))]),(.map (MapV.es y0) (MapV.clock y0))]) (.k [3] [false] [.tmp 3 true,.cell 1 3 false] [3,4,5] ⟨trF h5,trivial⟩) ?_
  refine .block ?_
  refine .loopM (v:=v) (fun y:Nat×Nat×Int×Int×Sl×Sl×LV×List Ent×Nat=>((fr 46 [(3,pt 1 0),(4,(sc 2 0 1 y.1 y.2.1)),(5,(.int .u16 y.2.2.1))]),(hT 4 [(oC [(zI y.2.2.2.1),(Sl.v 1 y.2.2.2.2.1),(Sl.v 1 y.2.2.2.2.2.1),(.map (some 3))]),(oC y.2.2.2.2.2.2.1),(.map y.2.2.2.2.2.2.2.1 y.2.2.2.2.2.2.2.2)]))) (fun w y=>l48_1 pu n w y.1 y.2.1 y.2.2.1 y.2.2.2.1 y.2.2.2.2.1 y.2.2.2.2.2.1 y.2.2.2.2.2.2.1 y.2.2.2.2.2.2.2.1 y.2.2.2.2.2.2.2.2) n ⟨(0,0,x2,x1,s2,s3,([]:LV),(MapV.es y0),(MapV.clock y0)),hm,(.thaw 4 1 (by kernel_rfl) (.k [2] [false] [.tmp 3 true,.tmp 4 false,.cell 1 3 false] [3,4,5] ⟨trF h5,trivial⟩))⟩ (fun _=>rfl) ?_
  rintro w0 ⟨n1,c1,z0,z1,s4,s5,q1,e0,k1⟩ hm
  replace hm:b48_1 pu n (l48_1 pu n w0) n1 c1 z0 z1 s4 s5 q1 e0 k1 = some v:=hm
  unfold b48_1 at hm
  refine .then ?_
  refine .then (.rK ?_)
  replace hm:=bb_inv hm;obtain ⟨h7,hm⟩:=hm
  replace hm:=bb_inv hm;obtain ⟨h8,hm⟩:=hm
  refine .ghs (fr 46 [(3,pt 1 0),(4,sc 2 0 1 n1 c1),(5,.int .u16 z0),(15,(zB (nt (ieq z0 (0:Int)))))]) (hT 4 [(oC [zI z1,Sl.v 1 s4,Sl.v 1 s5,(.map (some 3))]),oC q1,(.map e0 k1)]) (.k [2,3] [false] [.tmp 3 true,.tmp 4 false,.cell 1 3 false] [3,4,5,15] ⟨trF h7,trF h8,trivial⟩) ?_
  replace hm:=bb_cases hm;rcases hm with ⟨h9,hm⟩ | ⟨h9,hm⟩
  ·refine .ifT (nt (ieq z0 (0 : Int))) (by kernel_rfl) h9 ?_
   refine .skip ?_
   refine .ghs (fr 46 [(3,pt 1 0),(4,sc 2 0 1 n1 c1),(5,.int .u16 z0)]) (hT 4 [(oC [zI z1,Sl.v 1 s4,Sl.v 1 s5,(.map (some 3))]),oC q1,(.map e0 k1)]) (.k [2,3] [false] [.tmp 3 true,.tmp 4 false,.cell 1 3 false] [3,4,5] ⟨trF h7,trF h8,trivial⟩) ?_
   refine .block ?_
   refine .then ?_
   replace hm:=oo_inv hm;obtain ⟨v12,h10,hm⟩:=hm
   replace hm:=inv_toI hm;obtain ⟨x3,rfl,hm⟩:=hm
   refine .reg (eC 1 ((oo (pu 67 [.int .u16 z0]) none fun v=>some (v,(hT 4 [(oC [zI z1,Sl.v 1 s4,Sl.v 1 s5,(.map (some 3))]),oC q1,(.map e0 k1)])))) (call_eq h10) (eE)) ?_
   refine .ghs (fr 46 [(3,pt 1 0),(4,sc 2 0 1 n1 c1),(5,.int .u16 z0),(6,zI x3)]) (hT 4 [(oC [zI z1,Sl.v 1 s4,Sl.v 1 s5,(.map (some 3))]),oC q1,(.map e0 k1)]) (.k [2,3] [false] [.tmp 3 true,.tmp 4 false,.cell 1 3 false] [3,4,5,6] ⟨trF h7,trF h8,trivial⟩) ?_
   refine .then ?_
   replace hm:=oo_inv hm;obtain ⟨k2,h11,hm⟩:=hm
   obtain rfl:=toN_some h11
   replace hm:=bb_inv hm;obtain ⟨h12,hm⟩:=hm
   replace hm:=oo_inv hm;obtain ⟨v13,h13,hm⟩:=hm
   replace hm:=inv_vTup hm;obtain ⟨l3,rfl,hm⟩:=hm
   replace hm:=ll_uncons hm;obtain ⟨v14,l4432_0,rfl,hm⟩:=hm
   replace hm:=ll_uncons hm;obtain ⟨v15,l4432_1,rfl,hm⟩:=hm
   replace hm:=ll_uncons hm;obtain ⟨v16,l4432_2,rfl,hm⟩:=hm
   replace hm:=ll_end hm;obtain ⟨rfl,hm⟩:=hm
   replace hm:=inv_toI hm;obtain ⟨x4,rfl,hm⟩:=hm
   replace hm:=inv_vAgg hm;obtain ⟨l4,rfl,hm⟩:=hm
   replace hm:=ll_uncons hm;obtain ⟨v17,l4439_0,rfl,hm⟩:=hm
   replace hm:=ll_uncons hm;obtain ⟨v18,l4439_1,rfl,hm⟩:=hm
   replace hm:=ll_uncons hm;obtain ⟨v19,l4439_2,rfl,hm⟩:=hm
   replace hm:=ll_uncons hm;obtain ⟨v20,l4439_3,rfl,hm⟩:=hm
   replace hm:=ll_end hm;obtain ⟨rfl,hm⟩:=hm
   replace hm:=inv_toI hm;obtain ⟨x5,rfl,hm⟩:=hm
   replace hm:=inv_toSl hm;obtain ⟨s6,rfl,hm⟩:=hm
   replace hm:=inv_toSl hm;obtain ⟨s7,rfl,hm⟩:=hm
   replace hm:=bb_inv hm;obtain ⟨h14,hm⟩:=hm
   obtain rfl:=isMp_ok h14
   replace hm:=oo_inv hm;obtain ⟨y1,h15,hm⟩:=hm
   replace hm:=bb_inv hm;obtain ⟨h16,hm⟩:=hm
   replace hm:=bb_inv hm;obtain ⟨h17,hm⟩:=hm
   replace hm:=oo_inv hm;obtain ⟨v21,h18,hm⟩:=hm
   replace hm:=inv_vTup hm;obtain ⟨l5,rfl,hm⟩:=hm
   replace hm:=ll_uncons hm;obtain ⟨v22,l4466_0,rfl,hm⟩:=hm
   replace hm:=ll_uncons hm;obtain ⟨v23,l4466_1,rfl,hm⟩:=hm
   replace hm:=ll_uncons hm;obtain ⟨v24,l4466_2,rfl,hm⟩:=hm
   replace hm:=ll_end hm;obtain ⟨rfl,hm⟩:=hm
   replace hm:=inv_toSl hm;obtain ⟨s8,rfl,hm⟩:=hm
   replace hm:=inv_vAgg hm;obtain ⟨l6,rfl,hm⟩:=hm
   replace hm:=ll_uncons hm;obtain ⟨v25,l4473_0,rfl,hm⟩:=hm
   replace hm:=ll_uncons hm;obtain ⟨v26,l4473_1,rfl,hm⟩:=hm
   replace hm:=ll_uncons hm;obtain ⟨v27,l4473_2,rfl,hm⟩:=hm
   replace hm:=ll_uncons hm;obtain ⟨v28,l4473_3,rfl,hm⟩:=hm
   replace hm:=ll_end hm;obtain ⟨rfl,hm⟩:=hm
   replace hm:=inv_toI hm;obtain ⟨x6,rfl,hm⟩:=hm
   replace hm:=inv_toSl hm;obtain ⟨s9,rfl,hm⟩:=hm
   replace hm:=inv_toSl hm;obtain ⟨s10,rfl,hm⟩:=hm
   replace hm:=bb_inv hm;obtain ⟨h19,hm⟩:=hm
   obtain rfl:=isMp_ok h19
   replace hm:=oo_inv hm;obtain ⟨y2,h20,hm⟩:=hm
   replace hm:=bb_inv hm;obtain ⟨h21,hm⟩:=hm
   refine .reg (eC 9 (objG tabs [[none],[none]] 2 [.tmp 0 true,.cell 1 3 false] [true,false] (pu 10660) [pt 1 0,.int .u16 z0] (hT 5 [(oC [zI z1,Sl.v 1 s4,Sl.v 1 s5,(.map (some 3))]),oC q1,(.map e0 k1),(oC [(zI (Int.ofNat k2))])])) (objG_eq (as:=[pt 1 0,.int .u16 z0]) (H1:=(hT 5 [(oC [zI z1,Sl.v 1 s4,Sl.v 1 s5,(.map (some 3))]),oC q1,(.map e0 k1),(oC [(zI (Int.ofNat k2))])])) (gvAL_c (gvA_1 gv_n) (gvAL_c (gvA_1 gv_n) gvAL_n)) (objF_eq (H2:=(hT 5 [(oC [zI x5,Sl.v 1 s6,Sl.v 1 s7,(.map (some 3))]),oC q1,(.map (MapV.es y1) (MapV.clock y1)),(oC [(zI (Int.ofNat k2))])])) (v:=(zI x4)) (v':=(zI x4)) [some 0,some 1,some 3] [(true,some 1),(false,some 3)] [(oC [zI z1,Sl.v 1 s4,Sl.v 1 s5,(.map (some 2))]),(.map e0 k1)] [pt 1 0,.int .u16 z0] [(.agg ⟨[zI x5,Sl.v 1 s6,Sl.v 1 s7,(.map (some 2))]⟩),v16] [(oC [zI x5,Sl.v 1 s6,Sl.v 1 s7,(.map (some 2))]),(.map (MapV.es y1) (MapV.clock y1))] [some 0,some 1,none,some 2,none] [(true,(oC [zI x5,Sl.v 1 s6,Sl.v 1 s7,(.map (some 2))])),(false,(.map (MapV.es y1) (MapV.clock y1)))] [(oC [zI x5,Sl.v 1 s6,Sl.v 1 s7,(.map (some 3))]),(.map (MapV.es y1) (MapV.clock y1))] (by kernel_rfl) (mapO_c (by kernel_rfl) (mapO_c (nO_map h12) mapO_n)) (Eq.trans (by kernel_rfl) h13) (mapO_c rfl (mapO_c (vMapO_some h15) mapO_n)) (mapO_c (by kernel_rfl) (mapO_c (bO_map h16) mapO_n)))) (eC 1 (objG tabs [[none],[some 1],[none],[none]] 4 [.tmp 0 true,.cell 1 3 false] [true,false] (pu 10680) [pt 1 0,sc 4 0 1 1 3,(.int .u16 (aandNot .u16 z0 (shlI .u16 (1:Int) k2))),(zI (wrapF .i64 (Int.sub x4 (1:Int))))] (hT 5 [(oC [zI x5,Sl.v 1 s6,Sl.v 1 s7,(.map (some 3))]),oC q1,(.map (MapV.es y1) (MapV.clock y1)),(oC [(zI (Int.ofNat k2))])])) (objG_eq (as:=[pt 1 0,(Sl.v 1 (Sl.mk 1 0 (takeL (1 * 1) (dropL 0 ([(zI (Int.ofNat k2))]:LV))))),(.int .u16 (aandNot .u16 z0 (shlI .u16 (1:Int) k2))),(zI (wrapF .i64 (Int.sub x4 (1:Int))))]) (H1:=(hT 5 [(oC [zI x5,Sl.v 1 s6,Sl.v 1 s7,(.map (some 3))]),oC q1,(.map (MapV.es y1) (MapV.clock y1)),.dead])) (gvAL_c (gvA_1 gv_n) (gvAL_c (gvA_1 (gv_s (show giveV 1 (sc 4 0 1 1 3) (hT 5 [(oC [zI x5,Sl.v 1 s6,Sl.v 1 s7,(.map (some 3))]),oC q1,(.map (MapV.es y1) (MapV.clock y1)),(oC [(zI (Int.ofNat k2))])]) = some ((Sl.v 1 (Sl.mk 1 0 (takeL (1 * 1) (dropL 0 ([(zI (Int.ofNat k2))]:LV))))),(hT 5 [(oC [zI x5,Sl.v 1 s6,Sl.v 1 s7,(.map (some 3))]),oC q1,(.map (MapV.es y1) (MapV.clock y1)),.dead])) from giveV_sl 4 0 1 1 3 ([(zI (Int.ofNat k2))]:LV) [] (by kernel_rfl) (by kernel_rfl) (by kernel_rfl)))) (gvAL_c (gvA_1 gv_n) (gvAL_c (gvA_1 gv_n) gvAL_n)))) (objF_eq (H2:=(hT 5 [(oC [zI x6,Sl.v 1 s9,Sl.v 1 s10,(.map (some 3))]),oC q1,(.map (MapV.es y2) (MapV.clock y2)),.dead])) (v:=(Sl.v 1 s8)) (v':=(Sl.v 1 s8)) [some 0,some 1,some 3] [(true,some 1),(false,some 3)] [(oC [zI x5,Sl.v 1 s6,Sl.v 1 s7,(.map (some 2))]),(.map (MapV.es y1) (MapV.clock y1))] [pt 1 0,(Sl.v 1 (Sl.mk 1 0 (takeL (1 * 1) (dropL 0 ([(zI (Int.ofNat k2))]:LV))))),(.int .u16 (aandNot .u16 z0 (shlI .u16 (1:Int) k2))),(zI (wrapF .i64 (Int.sub x4 (1:Int))))] [(.agg ⟨[zI x6,Sl.v 1 s9,Sl.v 1 s10,(.map (some 2))]⟩),v24] [(oC [zI x6,Sl.v 1 s9,Sl.v 1 s10,(.map (some 2))]),(.map (MapV.es y2) (MapV.clock y2))] [some 0,some 1,none,some 2,none] [(true,(oC [zI x6,Sl.v 1 s9,Sl.v 1 s10,(.map (some 2))])),(false,(.map (MapV.es y2) (MapV.clock y2)))] [(oC [zI x6,Sl.v 1 s9,Sl.v 1 s10,(.map (some 3))]),(.map (MapV.es y2) (MapV.clock y2))] (by kernel_rfl) (mapO_c (by kernel_rfl) (mapO_c (nO_map h17) mapO_n)) (Eq.trans (by kernel_rfl) h18) (mapO_c rfl (mapO_c (vMapO_some h20) mapO_n)) (mapO_c (by kernel_rfl) (mapO_c (bO_map h21) mapO_n)))) (eE))) ?_
   replace hm:=bb_inv hm;obtain ⟨h22,hm⟩:=hm
   refine .ghs (fr 46 [(3,pt 1 0),(4,sc 2 0 1 n1 c1),(5,.int .u16 z0),(7,Sl.v 1 s8)]) (hT 4 [(oC [zI x6,Sl.v 1 s9,Sl.v 1 s10,(.map (some 3))]),oC q1,(.map (MapV.es y2) (MapV.clock y2))]) (.k [2,3] [false] [.tmp 3 true,.tmp 4 false,.cell 1 3 false] [3,4,5,7] ⟨trF h7,trF h22,trivial⟩) ?_
   refine .then ?_
   replace hm:=bb_inv hm;obtain ⟨h23,hm⟩:=hm
   refine .reg (eC 3 (growD 1 24 n1 c1 1 2 q1 [Sl.v 1 s8] [] (hT 5 [(oC [zI x6,Sl.v 1 s9,Sl.v 1 s10,(.map (some 3))]),oC q1,(.map (MapV.es y2) (MapV.clock y2)),(oC [Sl.v 1 s8])])) (growD_eq h23) (eE)) ?_
   replace hm:=bb_inv hm;obtain ⟨h24,hm⟩:=hm
   refine .ghs (fr 46 [(3,pt 1 0),(4,(sc 2 0 1 (n1 + 1) (d2 (n1 + 1)))),(5,.int .u16 z0),(7,Sl.v 1 s8)]) (hT 4 [(oC [zI x6,Sl.v 1 s9,Sl.v 1 s10,(.map (some 3))]),(oC (appL (dropL 0 q1) [Sl.v 1 s8])),(.map (MapV.es y2) (MapV.clock y2))]) (.k [5,3] [false] [.tmp 3 true,.tmp 4 false,.cell 1 3 false] [3,4,5,7] ⟨trF h24,trF h22,trivial⟩) ?_
   refine .then (.rK ?_)
   refine .ghs (fr 46 [(3,pt 1 0),(4,(sc 2 0 1 (n1 + 1) (d2 (n1 + 1)))),(5,.int .u16 z0),(34,Sl.v 1 s8),(35,(zI (Int.ofNat (Sl.n s8)))),(36,(zI (0:Int)))]) (hT 4 [(oC [zI x6,Sl.v 1 s9,Sl.v 1 s10,(.map (some 3))]),(oC (appL (dropL 0 q1) [Sl.v 1 s8])),(.map (MapV.es y2) (MapV.clock y2))]) (.k [2,3] [false] [.tmp 3 true,.tmp 4 false,.cell 1 3 false] [3,4,5,34,35,36] ⟨trF h24,trF h22,trivial⟩) ?_
   refine .block ?_
   refine .loopM (v:=v) (fun y:Nat×Nat×Int×Sl×Int×Int×Int×Sl×Sl×LV×List Ent×Nat=>((fr 46 [(3,pt 1 0),(4,(sc 2 0 1 y.1 y.2.1)),(5,(.int .u16 y.2.2.1)),(34,(Sl.v 1 y.2.2.2.1)),(35,(zI y.2.2.2.2.1)),(36,(zI y.2.2.2.2.2.1))]),(hT 4 [(oC [(zI y.2.2.2.2.2.2.1),(Sl.v 1 y.2.2.2.2.2.2.2.1),(Sl.v 1 y.2.2.2.2.2.2.2.2.1),(.map (some 3))]),(oC y.2.2.2.2.2.2.2.2.2.1),(.map y.2.2.2.2.2.2.2.2.2.2.1 y.2.2.2.2.2.2.2.2.2.2.2)]))) (fun w y=>l48_2 pu n (l48_1 pu n w0) w y.1 y.2.1 y.2.2.1 y.2.2.2.1 y.2.2.2.2.1 y.2.2.2.2.2.1 y.2.2.2.2.2.2.1 y.2.2.2.2.2.2.2.1 y.2.2.2.2.2.2.2.2.1 y.2.2.2.2.2.2.2.2.2.1 y.2.2.2.2.2.2.2.2.2.2.1 y.2.2.2.2.2.2.2.2.2.2.2) n ⟨((n1 + 1),(d2 (n1 + 1)),z0,s8,(Int.ofNat (Sl.n s8)),(0:Int),x6,s9,s10,(appL (dropL 0 q1) [Sl.v 1 s8]),(MapV.es y2),(MapV.clock y2)),hm,(.k [2,3] [false] [.tmp 3 true,.tmp 4 false,.cell 1 3 false] [3,4,5,34,35,36] ⟨trF h24,trF h22,trivial⟩)⟩ (fun _=>rfl) ?_
   rintro w1 ⟨n2,c2,z2,s11,z3,z4,z5,s12,s13,q2,e1,k3⟩ hm
   replace hm:b48_2 pu n (l48_1 pu n w0) (l48_2 pu n (l48_1 pu n w0) w1) n2 c2 z2 s11 z3 z4 z5 s12 s13 q2 e1 k3 = some v:=hm
   unfold b48_2 at hm
   refine .then (.rK ?_)
   replace hm:=bb_inv hm;obtain ⟨h25,hm⟩:=hm
   replace hm:=bb_inv hm;obtain ⟨h26,hm⟩:=hm
   refine .ghs (fr 46 [(3,pt 1 0),(4,sc 2 0 1 n2 c2),(5,.int .u16 z2),(34,Sl.v 1 s11),(35,zI z3),(36,zI z4),(37,(zB (ilt z4 z3)))]) (hT 4 [(oC [zI z5,Sl.v 1 s12,Sl.v 1 s13,(.map (some 3))]),oC q2,(.map e1 k3)]) (.k [2,3] [false] [.tmp 3 true,.tmp 4 false,.cell 1 3 false] [3,4,5,34,35,36,37] ⟨trF h25,trF h26,trivial⟩) ?_
   refine .then ?_
   replace hm:=bb_cases hm;rcases hm with ⟨h27,hm⟩ | ⟨h27,hm⟩
   ·refine .ifT (ilt z4 z3) (by kernel_rfl) h27 ?_
    refine .skip ?_
    refine .ghs (fr 46 [(3,pt 1 0),(4,sc 2 0 1 n2 c2),(5,.int .u16 z2),(34,Sl.v 1 s11),(35,zI z3),(36,zI z4)]) (hT 4 [(oC [zI z5,Sl.v 1 s12,Sl.v 1 s13,(.map (some 3))]),oC q2,(.map e1 k3)]) (.k [2,3] [false] [.tmp 3 true,.tmp 4 false,.cell 1 3 false] [3,4,5,34,35,36] ⟨trF h25,trF h26,trivial⟩) ?_
    refine .then ?_
    refine .block ?_
    refine .then ?_
    replace hm:=oo_inv hm;obtain ⟨k4,h28,hm⟩:=hm
    obtain rfl:=toN_some h28
    replace hm:=bb_inv hm;obtain ⟨h29,hm⟩:=hm
    replace hm:=oo_inv hm;obtain ⟨v29,h30,hm⟩:=hm
    replace hm:=inv_toI hm;obtain ⟨x7,rfl,hm⟩:=hm
    refine .reg (eD (keep (hT 4 [(oC [zI z5,Sl.v 1 s12,Sl.v 1 s13,(.map (some 3))]),oC q2,(.map e1 k3)]) (bb (an (Nat.blt k4 (Sl.n s11)) true) (some (fpV (k4 * 1) (Sl.cs s11))) none)) (keep_bb h29) (eD (keep (hT 4 [(oC [zI z5,Sl.v 1 s12,Sl.v 1 s13,(.map (some 3))]),oC q2,(.map e1 k3)]) (nthL (Sl.cs s11) (k4 * 1))) (keep_eq h30) (eE))) ?_
    refine .ghs (fr 46 [(3,pt 1 0),(4,sc 2 0 1 n2 c2),(5,.int .u16 z2),(9,zI x7),(34,Sl.v 1 s11),(35,zI z3),(36,(zI (Int.ofNat k4)))]) (hT 4 [(oC [zI z5,Sl.v 1 s12,Sl.v 1 s13,(.map (some 3))]),oC q2,(.map e1 k3)]) (.k [2,3] [false] [.tmp 3 true,.tmp 4 false,.cell 1 3 false] [3,4,5,9,34,35,36] ⟨trF h25,trF h26,trivial⟩) ?_
    replace hm:=oo_inv hm;obtain ⟨k5,h31,hm⟩:=hm
    obtain rfl:=toN_some h31
    refine .rK ?_
    refine .ghs (fr 46 [(3,pt 1 0),(4,sc 2 0 1 n2 c2),(5,(.int .u16 (aandNot .u16 z2 (shlI .u16 (1:Int) k5)))),(34,Sl.v 1 s11),(35,zI z3),(36,(zI (Int.ofNat k4)))]) (hT 4 [(oC [zI z5,Sl.v 1 s12,Sl.v 1 s13,(.map (some 3))]),oC q2,(.map e1 k3)]) (.k [2,3] [false] [.tmp 3 true,.tmp 4 false,.cell 1 3 false] [3,4,5,34,35,36] ⟨trF h25,trF h26,trivial⟩) ?_
    refine .rK ?_
    exact ⟨(n2,c2,(aandNot .u16 z2 (shlI .u16 (1:Int) k5)),s11,z3,(wrapF .i64 (Int.add (Int.ofNat k4) (1:Int))),z5,s12,s13,q2,e1,k3),hm,(.k [2,3] [false] [.tmp 3 true,.tmp 4 false,.cell 1 3 false] [3,4,5,34,35,36] ⟨trF h25,trF h26,trivial⟩)⟩
   ·refine .ifF (ilt z4 z3) (by kernel_rfl) h27 ?_
    refine .exit ?_
    exact ⟨(n2,c2,z2,z5,s12,s13,q2,e1,k3),hm,(.k [2,3] [false] [.tmp 3 true,.tmp 4 false,.cell 1 3 false] [3,4,5] ⟨trF h25,trF h26,trivial⟩)⟩
  ·refine .ifF (nt (ieq z0 (0 : Int))) (by kernel_rfl) h9 ?_
   refine .exit ?_
   exact ⟨(n1,c1,q1),hm,(.k [2] [false] [.tmp 4 false] [4] ⟨trF h7,trivial⟩)⟩
def m49_1 (pu:PureF) (n:Nat):OV:=
 (some (.int .i64 (0:Int)))
def b49_2 (pu:PureF) (n:Nat) (ih0:Int→Int→Sl→Sl→OV) (z0 z1:Int) (s0 s1:Sl):OV:=
 (bb (ilt z0 z1) (oo (pu 10690 [Sl.v 1 s0,.int .i64 z0]) none fun v0=>(oo (vTup v0) none fun l0=>(ll l0 none fun v1 l0=>(ll l0 (oo (toI .i64 v1) none fun x0=>(oo (pu 10690 [Sl.v 1 s1,.int .i64 z0]) none fun v2=>(oo (vTup v2) none fun l1=>(ll l1 none fun v3 l1=>(ll l1 (oo (toI .i64 v3) none fun x1=>(bb (nt (ieq x0 x1)) (some (.int .i64 (17:Int))) (ih0 (wrapF .i64 (Int.add z0 (1:Int))) z1 s0 s1))) fun _ _=>none))))) fun _ _=>none)))) (m49_1 pu n))
def l49_2 (pu:PureF) (n w:Nat):Int→Int→Sl→Sl→OV:=
 Nat.rec (motive:=fun _=>Int→Int→Sl→Sl→OV) (fun _ _ _ _=>none) (fun _ ih0=>b49_2 pu n ih0) w
def m49_0 (pu:PureF) (n:Nat) (z0:Int) (s0 s1:Sl):OV:=
 (l49_2 pu n n (0:Int) z0 s0 s1)
def m49_4 (pu:PureF) (n:Nat) (ih0:Int→Int→Sl→Sl→OV) (z0:Int) (b0:Bool) (z1:Int) (s0 s1:Sl):OV:=
 (bb b0 (some (.int .i64 (2:Int))) (ih0 (wrapF .i64 (Int.add z0 (1:Int))) z1 s0 s1))
def b49_3 (pu:PureF) (n:Nat) (ih0:Int→Int→Sl→Sl→OV) (z0 z1:Int) (s0 s1:Sl):OV:=
 (bb (ilt z0 (Int.ofNat (Sl.n s0))) (oo (toN z0) none fun k1=>(bb (an (Nat.blt k1 (Sl.n s0)) true) (oo (nthL (Sl.cs s0) (k1 * 1)) none fun v0=>(oo (toI .i64 v0) none fun x0=>(oo (pu 54 [.int .i64 x0,(.int .i64 (0:Int)),(.int .i64 (wrapF .i64 (Int.sub z1 (1:Int))))]) none fun v1=>(oo (vBool v1) none fun b0=>(bb (nt b0) (m49_4 pu n ih0 (Int.ofNat k1) true z1 s0 s1) (bb (an (Nat.blt k1 (Sl.n s1)) true) (oo (nthL (Sl.cs s1) (k1 * 1)) none fun v2=>(oo (toI .i64 v2) none fun x1=>(oo (pu 54 [.int .i64 x1,(.int .i64 (0:Int)),(.int .i64 (wrapF .i64 (Int.sub z1 (1:Int))))]) none fun v3=>(oo (vBool v3) none fun b1=>(m49_4 pu n ih0 (Int.ofNat k1) (nt b1) z1 s0 s1))))) none)))))) none)) (m49_0 pu n z1 s0 s1))
def l49_3 (pu:PureF) (n w:Nat):Int→Int→Sl→Sl→OV:=
 Nat.rec (motive:=fun _=>Int→Int→Sl→Sl→OV) (fun _ _ _ _=>none) (fun _ ih0=>b49_3 pu n ih0) w
def m49_ (pu:PureF) (n:Nat) (x0:Int) (s0 s1:Sl):OV:=
 (oo (pu 54 [.int .i64 x0,(.int .i64 (1:Int)),(.int .i64 (5:Int))]) none fun v0=>(oo (vBool v0) none fun b0=>(bb (nt b0) (some (.int .i64 (1:Int))) (bb (ieq (Int.ofNat (Sl.n s0)) (0:Int)) (some (.int .i64 (4:Int))) (bb (ilt (10:Int) (Int.ofNat (Sl.n s0))) (some (.int .i64 (3:Int))) (bb (nt (ieq (Int.ofNat (Sl.n s1)) (Int.ofNat (Sl.n s0)))) (some (.int .i64 (5:Int))) (l49_3 pu n n (0:Int) x0 s0 s1)))))))
def m49 (pu:PureF) (n:Nat) (args:LV):OV:=
 (ll args none fun a0 args=>(ll args (oo (vAgg a0) none fun l0=>(ll l0 none fun v0 l0=>(ll l0 none fun v1 l0=>(ll l0 none fun v2 l0=>(ll l0 (oo (toI .i64 v0) none fun x0=>(oo (toSl 1 v1) none fun s0=>(oo (toSl 1 v2) none fun s1=>(m49_ pu n x0 s0 s1)))) fun _ _=>none))))) fun _ _=>none))
theorem w49_1 (pu:PureF) (n:Nat) {v:Value} (hm:m49_1 pu n = some v):Run tt (callP tabs isP pu (inl pu)) 1 c49_54 (fr 68 []) (hp 1 [(oT tab0)]) (Fin tt 1 [.tmp 2] v):=by
 unfold m49_1 at hm
 refine .then (.rK ?_)
 refine .ghs (fr 68 [(2,(zI (0:Int)))]) (hp 1 [(oT tab0)]) (.k0 [false] [] [2]) ?_
 refine .ret ?_
 exact fin_ret (zI (0:Int)) (by kernel_rfl) (by kernel_rfl) hm
theorem w49_0 (pu:PureF) (n:Nat) (z0:Int) (s0 s1:Sl) {v:Value} (hm:m49_0 pu n z0 s0 s1 = some v):Run tt (callP tabs isP pu (inl pu)) 1 c49_55 (fr 68 [(1,pt 1 0)]) (hT 2 [(oC [zI z0,Sl.v 1 s0,Sl.v 1 s1])]) (Fin tt 1 [.tmp 2] v):=by
 unfold m49_0 at hm
 refine .join (v:=v) (fun y:Unit=>((fr 68 []),(hp 1 [(oT tab0)]))) (fun y=>m49_1 pu n) ?_ ?_
 ·rintro _ hm
  exact w49_1 pu n hm
 ·refine .then (.rK ?_)
  refine .ghs (fr 68 [(1,pt 1 0),(4,(zI (0:Int)))]) (hT 2 [(oC [zI z0,Sl.v 1 s0,Sl.v 1 s1])]) (.k0 [false] [.tmp 1 false] [1,4]) ?_
  refine .block ?_
  refine .loopM (v:=v) (fun y:Int×Int×Sl×Sl=>((fr 68 [(1,pt 1 0),(4,(zI y.1))]),(hT 2 [(oC [(zI y.2.1),(Sl.v 1 y.2.2.1),(Sl.v 1 y.2.2.2)])]))) (fun w y=>l49_2 pu n w y.1 y.2.1 y.2.2.1 y.2.2.2) n ⟨((0:Int),z0,s0,s1),hm,(.k0 [false] [.tmp 1 false] [1,4])⟩ (fun _=>rfl) ?_
  rintro w0 ⟨z1,z2,s2,s3⟩ hm
  replace hm:b49_2 pu n (l49_2 pu n w0) z1 z2 s2 s3 = some v:=hm
  unfold b49_2 at hm
  refine .then ?_
  refine .then (.rK ?_)
  refine .ghs (fr 68 [(1,pt 1 0),(4,zI z1),(56,(zB (ilt z1 z2)))]) (hT 2 [(oC [zI z2,Sl.v 1 s2,Sl.v 1 s3])]) (.k0 [false] [.tmp 1 false] [1,4,56]) ?_
  replace hm:=bb_cases hm;rcases hm with ⟨h0,hm⟩ | ⟨h0,hm⟩
  ·refine .ifT (ilt z1 z2) (by kernel_rfl) h0 ?_
   refine .skip ?_
   refine .ghs (fr 68 [(1,pt 1 0),(4,zI z1)]) (hT 2 [(oC [zI z2,Sl.v 1 s2,Sl.v 1 s3])]) (.k0 [false] [.tmp 1 false] [1,4]) ?_
   refine .then ?_
   refine .block ?_
   refine .then ?_
   replace hm:=oo_inv hm;obtain ⟨v0,h1,hm⟩:=hm
   replace hm:=inv_vTup hm;obtain ⟨l0,rfl,hm⟩:=hm
   replace hm:=ll_uncons hm;obtain ⟨v1,l4800_0,rfl,hm⟩:=hm
   replace hm:=ll_end hm;obtain ⟨rfl,hm⟩:=hm
   replace hm:=inv_toI hm;obtain ⟨x0,rfl,hm⟩:=hm
   replace hm:=oo_inv hm;obtain ⟨v2,h2,hm⟩:=hm
   replace hm:=inv_vTup hm;obtain ⟨l1,rfl,hm⟩:=hm
   replace hm:=ll_uncons hm;obtain ⟨v3,l4809_0,rfl,hm⟩:=hm
   replace hm:=ll_end hm;obtain ⟨rfl,hm⟩:=hm
   replace hm:=inv_toI hm;obtain ⟨x1,rfl,hm⟩:=hm
   refine .reg (eC 6 (objG tabs [[some 1],[none]] 2 [] [] (pu 10690) [Sl.v 1 s2,zI z1] (hT 2 [(oC [zI z2,Sl.v 1 s2,Sl.v 1 s3])])) (objG_eq (as:=[Sl.v 1 s2,zI z1]) (H1:=(hT 2 [(oC [zI z2,Sl.v 1 s2,Sl.v 1 s3])])) (gvAL_c (gvA_1 (gv_s (giveV_cl (z:=1) (v:=(Sl.v 1 s2)) (H:=(hT 2 [(oC [zI z2,Sl.v 1 s2,Sl.v 1 s3])])) (by kernel_rfl) (by kernel_rfl) (by kernel_rfl)))) (gvAL_c (gvA_1 gv_n) gvAL_n)) (objF_eq (H2:=(hT 2 [(oC [zI z2,Sl.v 1 s2,Sl.v 1 s3])])) (v:=(zI x0)) (v':=(zI x0)) [some 0] [] [] [Sl.v 1 s2,zI z1] [] [] [some 0,none] [] [] (by kernel_rfl) mapO_n (Eq.trans (by kernel_rfl) h1) mapO_n mapO_n)) (eD (objG tabs [[some 1],[none]] 2 [] [] (pu 10690) [Sl.v 1 s3,zI z1] (hT 2 [(oC [zI z2,Sl.v 1 s2,Sl.v 1 s3])])) (objG_eq (as:=[Sl.v 1 s3,zI z1]) (H1:=(hT 2 [(oC [zI z2,Sl.v 1 s2,Sl.v 1 s3])])) (gvAL_c (gvA_1 (gv_s (giveV_cl (z:=1) (v:=(Sl.v 1 s3)) (H:=(hT 2 [(oC [zI z2,Sl.v 1 s2,Sl.v 1 s3])])) (by kernel_rfl) (by kernel_rfl) (by kernel_rfl)))) (gvAL_c (gvA_1 gv_n) gvAL_n)) (objF_eq (H2:=(hT 2 [(oC [zI z2,Sl.v 1 s2,Sl.v 1 s3])])) (v:=(zI x1)) (v':=(zI x1)) [some 0] [] [] [Sl.v 1 s3,zI z1] [] [] [some 0,none] [] [] (by kernel_rfl) mapO_n (Eq.trans (by kernel_rfl) h2) mapO_n mapO_n)) (eE))) ?_
   refine .ghs (fr 68 [(1,pt 1 0),(4,zI z1),(67,(zB (nt (ieq x0 x1))))]) (hT 2 [(oC [zI z2,Sl.v 1 s2,Sl.v 1 s3])]) (.k0 [false] [.tmp 1 false] [1,4,67]) ?_
   replace hm:=bb_cases hm;rcases hm with ⟨h3,hm⟩ | ⟨h3,hm⟩
   ·refine .ifT (nt (ieq x0 x1)) (by kernel_rfl) h3 ?_
    refine .then (.rK ?_)
    refine .ghs (fr 68 [(2,(zI (17:Int)))]) (hp 1 [(oT tab0)]) (.k0 [false] [] [2]) ?_
    refine .ret ?_
    exact fin_ret (zI (17:Int)) (by kernel_rfl) (by kernel_rfl) hm
   ·refine .ifF (nt (ieq x0 x1)) (by kernel_rfl) h3 ?_
    refine .skip ?_
    refine .ghs (fr 68 [(1,pt 1 0),(4,zI z1)]) (hT 2 [(oC [zI z2,Sl.v 1 s2,Sl.v 1 s3])]) (.k0 [false] [.tmp 1 false] [1,4]) ?_
    refine .rK ?_
    exact ⟨((wrapF .i64 (Int.add z1 (1:Int))),z2,s2,s3),hm,(.k0 [false] [.tmp 1 false] [1,4])⟩
  ·refine .ifF (ilt z1 z2) (by kernel_rfl) h0 ?_
   refine .exit ?_
   exact ⟨(),hm,(.k0 [false] [] [])⟩
theorem r49 {call:CallF} (pu:PureF) (n:Nat) (hcall:call = callP tabs isP pu (inl pu)) {args:LV} {v:Value} (hm:m49 pu n args = some v) (_:∀ x ∈ args,closed2 x = true):args.length≤68∧Run tt call 1 c49_61 (Fr.made 68 args) (pureHeap tabs) (Fin tt 1 [.tmp 2] v):=by
 subst hcall
 unfold m49 at hm
 replace hm:=ll_uncons hm;obtain ⟨a0,args_0,rfl,hm⟩:=hm
 replace hm:=ll_end hm;obtain ⟨rfl,hm⟩:=hm
 replace hm:=inv_vAgg hm;obtain ⟨l0,rfl,hm⟩:=hm
 replace hm:=ll_uncons hm;obtain ⟨v0,l4526_0,rfl,hm⟩:=hm
 replace hm:=ll_uncons hm;obtain ⟨v1,l4526_1,rfl,hm⟩:=hm
 replace hm:=ll_uncons hm;obtain ⟨v2,l4526_2,rfl,hm⟩:=hm
 replace hm:=ll_end hm;obtain ⟨rfl,hm⟩:=hm
 replace hm:=inv_toI hm;obtain ⟨x0,rfl,hm⟩:=hm
 replace hm:=inv_toSl hm;obtain ⟨s0,rfl,hm⟩:=hm
 replace hm:=inv_toSl hm;obtain ⟨s1,rfl,hm⟩:=hm
 unfold m49_ at hm
 refine ⟨by simp,?_⟩
 refine .same (F':=(fr 68 [(0,(.agg ⟨[zI x0,Sl.v 1 s0,Sl.v 1 s1]⟩))])) (H':=(hp 1 [(oT tab0)])) (by kernel_rfl) (by kernel_rfl) ?_
 refine .then (.rK ?_)
 refine .ghs (fr 68 [(1,pt 1 0)]) (hT 2 [(oC [zI x0,Sl.v 1 s0,Sl.v 1 s1])]) (.k0 [false] [.tmp 1 false] [1]) ?_
 refine .then ?_
 refine .then ?_
 replace hm:=oo_inv hm;obtain ⟨v3,h0,hm⟩:=hm
 replace hm:=inv_vBool hm;obtain ⟨b0,rfl,hm⟩:=hm
 refine .reg (eC 2 ((oo (pu 54 [zI x0,(zI (1:Int)),(zI (5:Int))]) none fun v=>some (v,(hT 2 [(oC [zI x0,Sl.v 1 s0,Sl.v 1 s1])])))) (call_eq h0) (eE)) ?_
 refine .ghs (fr 68 [(1,pt 1 0),(8,(zB (nt b0)))]) (hT 2 [(oC [zI x0,Sl.v 1 s0,Sl.v 1 s1])]) (.k0 [false] [.tmp 1 false] [1,8]) ?_
 replace hm:=bb_cases hm;rcases hm with ⟨h1,hm⟩ | ⟨h1,hm⟩
 ·refine .ifT (nt b0) (by kernel_rfl) h1 ?_
  refine .then (.rK ?_)
  refine .ghs (fr 68 [(2,(zI (1:Int)))]) (hp 1 [(oT tab0)]) (.k0 [false] [] [2]) ?_
  refine .ret ?_
  exact fin_ret (zI (1:Int)) (by kernel_rfl) (by kernel_rfl) hm
 ·refine .ifF (nt b0) (by kernel_rfl) h1 ?_
  refine .skip ?_
  refine .ghs (fr 68 [(1,pt 1 0)]) (hT 2 [(oC [zI x0,Sl.v 1 s0,Sl.v 1 s1])]) (.k0 [false] [.tmp 1 false] [1]) ?_
  refine .then ?_
  refine .then (.rK ?_)
  refine .ghs (fr 68 [(1,pt 1 0),(12,(zB (ieq (Int.ofNat (Sl.n s0)) (0:Int))))]) (hT 2 [(oC [zI x0,Sl.v 1 s0,Sl.v 1 s1])]) (.k0 [false] [.tmp 1 false] [1,12]) ?_
  replace hm:=bb_cases hm;rcases hm with ⟨h2,hm⟩ | ⟨h2,hm⟩
  ·refine .ifT (ieq (Int.ofNat (Sl.n s0)) (0 : Int)) (by kernel_rfl) h2 ?_
   refine .then (.rK ?_)
   refine .ghs (fr 68 [(2,(zI (4:Int)))]) (hp 1 [(oT tab0)]) (.k0 [false] [] [2]) ?_
   refine .ret ?_
   exact fin_ret (zI (4:Int)) (by kernel_rfl) (by kernel_rfl) hm
  ·refine .ifF (ieq (Int.ofNat (Sl.n s0)) (0 : Int)) (by kernel_rfl) h2 ?_
   refine .skip ?_
   refine .ghs (fr 68 [(1,pt 1 0)]) (hT 2 [(oC [zI x0,Sl.v 1 s0,Sl.v 1 s1])]) (.k0 [false] [.tmp 1 false] [1]) ?_
   refine .then ?_
   refine .then (.rK ?_)
   refine .ghs (fr 68 [(1,pt 1 0),(16,(zB (ilt (10:Int) (Int.ofNat (Sl.n s0)))))]) (hT 2 [(oC [zI x0,Sl.v 1 s0,Sl.v 1 s1])]) (.k0 [false] [.tmp 1 false] [1,16]) ?_
   replace hm:=bb_cases hm;rcases hm with ⟨h3,hm⟩ | ⟨h3,hm⟩
   ·refine .ifT (ilt (10 : Int) (Int.ofNat (Sl.n s0))) (by kernel_rfl) h3 ?_
    refine .then (.rK ?_)
    refine .ghs (fr 68 [(2,(zI (3:Int)))]) (hp 1 [(oT tab0)]) (.k0 [false] [] [2]) ?_
    refine .ret ?_
    exact fin_ret (zI (3:Int)) (by kernel_rfl) (by kernel_rfl) hm
   ·refine .ifF (ilt (10 : Int) (Int.ofNat (Sl.n s0))) (by kernel_rfl) h3 ?_
    refine .skip ?_
    refine .ghs (fr 68 [(1,pt 1 0)]) (hT 2 [(oC [zI x0,Sl.v 1 s0,Sl.v 1 s1])]) (.k0 [false] [.tmp 1 false] [1]) ?_
    refine .then ?_
    refine .then (.rK ?_)
    refine .ghs (fr 68 [(1,pt 1 0),(23,(zB (nt (ieq (Int.ofNat (Sl.n s1)) (Int.ofNat (Sl.n s0))))))]) (hT 2 [(oC [zI x0,Sl.v 1 s0,Sl.v 1 s1])]) (.k0 [false] [.tmp 1 false] [1,23]) ?_
    replace hm:=bb_cases hm;rcases hm with ⟨h4,hm⟩ | ⟨h4,hm⟩
    ·refine .ifT (nt (ieq (Int.ofNat (Sl.n s1)) (Int.ofNat (Sl.n s0)))) (by kernel_rfl) h4 ?_
     refine .then (.rK ?_)
     refine .ghs (fr 68 [(2,(zI (5:Int)))]) (hp 1 [(oT tab0)]) (.k0 [false] [] [2]) ?_
     refine .ret ?_
     exact fin_ret (zI (5:Int)) (by kernel_rfl) (by kernel_rfl) hm
    ·refine .ifF (nt (ieq (Int.ofNat (Sl.n s1)) (Int.ofNat (Sl.n s0)))) (by kernel_rfl) h4 ?_
     refine .skip ?_
     refine .ghs (fr 68 [(1,pt 1 0)]) (hT 2 [(oC [zI x0,Sl.v 1 s0,Sl.v 1 s1])]) (.k0 [false] [.tmp 1 false] [1]) ?_
     refine .join (v:=v) (fun y:Int×Sl×Sl=>((fr 68 [(1,pt 1 0)]),(hT 2 [(oC [(zI y.1),(Sl.v 1 y.2.1),(Sl.v 1 y.2.2)])]))) (fun y=>m49_0 pu n y.1 y.2.1 y.2.2) ?_ ?_
     ·rintro ⟨z0, s2, s3⟩ hm
      exact w49_0 pu n z0 s2 s3 hm
     ·refine .then (.rK ?_)
      refine .ghs (fr 68 [(1,pt 1 0),(3,(zI (0:Int)))]) (hT 2 [(oC [zI x0,Sl.v 1 s0,Sl.v 1 s1])]) (.k0 [false] [.tmp 1 false] [1,3]) ?_
      refine .block ?_
      refine .loopM (v:=v) (fun y:Int×Int×Sl×Sl=>((fr 68 [(1,pt 1 0),(3,(zI y.1))]),(hT 2 [(oC [(zI y.2.1),(Sl.v 1 y.2.2.1),(Sl.v 1 y.2.2.2)])]))) (fun w y=>l49_3 pu n w y.1 y.2.1 y.2.2.1 y.2.2.2) n ⟨((0:Int),x0,s0,s1),hm,(.k0 [false] [.tmp 1 false] [1,3])⟩ (fun _=>rfl) ?_
      rintro w0 ⟨z1,z2,s4,s5⟩ hm
      replace hm:b49_3 pu n (l49_3 pu n w0) z1 z2 s4 s5 = some v:=hm
      unfold b49_3 at hm
      refine .then ?_
      refine .then (.rK ?_)
      refine .ghs (fr 68 [(1,pt 1 0),(3,zI z1),(28,(zB (ilt z1 (Int.ofNat (Sl.n s4)))))]) (hT 2 [(oC [zI z2,Sl.v 1 s4,Sl.v 1 s5])]) (.k0 [false] [.tmp 1 false] [1,3,28]) ?_
      replace hm:=bb_cases hm;rcases hm with ⟨h5,hm⟩ | ⟨h5,hm⟩
      ·refine .ifT (ilt z1 (Int.ofNat (Sl.n s4))) (by kernel_rfl) h5 ?_
       refine .skip ?_
       refine .ghs (fr 68 [(1,pt 1 0),(3,zI z1)]) (hT 2 [(oC [zI z2,Sl.v 1 s4,Sl.v 1 s5])]) (.k0 [false] [.tmp 1 false] [1,3]) ?_
       refine .then ?_
       refine .block ?_
       refine .join (v:=v) (fun y:Int×Bool×Int×Sl×Sl=>((fr 68 [(1,pt 1 0),(3,(zI y.1)),(52,(zB y.2.1))]),(hT 2 [(oC [(zI y.2.2.1),(Sl.v 1 y.2.2.2.1),(Sl.v 1 y.2.2.2.2)])]))) (fun y=>m49_4 pu n (l49_3 pu n w0) y.1 y.2.1 y.2.2.1 y.2.2.2.1 y.2.2.2.2) ?_ ?_
       ·rintro ⟨z3, b1, z4, s6, s7⟩ hm
        unfold m49_4 at hm
        replace hm:=bb_cases hm;rcases hm with ⟨h6,hm⟩ | ⟨h6,hm⟩
        ·refine .ifT b1 (by kernel_rfl) h6 ?_
         refine .then (.rK ?_)
         refine .ghs (fr 68 [(2,(zI (2:Int)))]) (hp 1 [(oT tab0)]) (.k0 [false] [] [2]) ?_
         refine .ret ?_
         exact fin_ret (zI (2:Int)) (by kernel_rfl) (by kernel_rfl) hm
        ·refine .ifF b1 (by kernel_rfl) h6 ?_
         refine .skip ?_
         refine .ghs (fr 68 [(1,pt 1 0),(3,zI z3)]) (hT 2 [(oC [zI z4,Sl.v 1 s6,Sl.v 1 s7])]) (.k0 [false] [.tmp 1 false] [1,3]) ?_
         refine .rK ?_
         exact ⟨((wrapF .i64 (Int.add z3 (1:Int))),z4,s6,s7),hm,(.k0 [false] [.tmp 1 false] [1,3])⟩
       ·replace hm := oo_inv hm; obtain ⟨k1, h7, hm⟩ := hm
        obtain rfl:=toN_some h7
        replace hm:=bb_inv hm;obtain ⟨h8,hm⟩:=hm
        replace hm:=oo_inv hm;obtain ⟨v4,h9,hm⟩:=hm
        replace hm:=inv_toI hm;obtain ⟨x1,rfl,hm⟩:=hm
        replace hm:=oo_inv hm;obtain ⟨v5,h10,hm⟩:=hm
        replace hm:=inv_vBool hm;obtain ⟨b2,rfl,hm⟩:=hm
        replace hm:=bb_cases hm;rcases hm with ⟨h11,hm⟩ | ⟨h11,hm⟩
        ·refine .reg (eC 3 (keep (hT 2 [(oC [zI z2, Sl.v 1 s4, Sl.v 1 s5])]) (bb (an (Nat.blt k1 (Sl.n s4)) true) (some (fpV (k1 * 1) (Sl.cs s4))) none)) (keep_bb h8) (eD (keep (hT 2 [(oC [zI z2, Sl.v 1 s4, Sl.v 1 s5])]) (nthL (Sl.cs s4) (k1 * 1))) (keep_eq h9) (eC 3 ((oo (pu 54 [zI x1, (zI (0 : Int)), (zI (wrapF .i64 (Int.sub z2 (1 : Int))))]) none fun v => some (v, (hT 2 [(oC [zI z2, Sl.v 1 s4, Sl.v 1 s5])])))) (call_eq h10) (eD (some ((zB (nt b2)), (hT 2 [(oC [zI z2, Sl.v 1 s4, Sl.v 1 s5])]))) (show _ = some ((zB true), _) from (by rw [h11])) (eE))))) ?_
         exact ⟨((Int.ofNat k1),true,z2,s4,s5),hm,(.k0 [false] [.tmp 1 false] [1,3,52])⟩
        ·replace hm := bb_inv hm; obtain ⟨h12, hm⟩ := hm
         replace hm:=oo_inv hm;obtain ⟨v6,h13,hm⟩:=hm
         replace hm:=inv_toI hm;obtain ⟨x2,rfl,hm⟩:=hm
         replace hm:=oo_inv hm;obtain ⟨v7,h14,hm⟩:=hm
         replace hm:=inv_vBool hm;obtain ⟨b3,rfl,hm⟩:=hm
         refine .reg (eN 9 (Fr.puts (fr 68 [(1,pt 1 0),(3,(zI (Int.ofNat k1)))]) [(31,pt 1 1),(32,Sl.v 1 s4),(33,(zI (Int.ofNat k1))),(34,(fpV (k1 * 1) (Sl.cs s4))),(35,zI x1),(36,pt 1 0),(37,zI z2),(38,(zI (wrapF .i64 (Int.sub z2 (1:Int))))),(39,zB b2)]) (hT 2 [(oC [zI z2,Sl.v 1 s4,Sl.v 1 s5])]) (eC 3 (keep (hT 2 [(oC [zI z2,Sl.v 1 s4,Sl.v 1 s5])]) (bb (an (Nat.blt k1 (Sl.n s4)) true) (some (fpV (k1 * 1) (Sl.cs s4))) none)) (keep_bb h8) (eD (keep (hT 2 [(oC [zI z2,Sl.v 1 s4,Sl.v 1 s5])]) (nthL (Sl.cs s4) (k1 * 1))) (keep_eq h9) (eC 3 ((oo (pu 54 [zI x1,(zI (0:Int)),(zI (wrapF .i64 (Int.sub z2 (1:Int))))]) none fun v=>some (v,(hT 2 [(oC [zI z2,Sl.v 1 s4,Sl.v 1 s5])])))) (call_eq h10) (by kernel_rfl)))) (eD (some ((zB (nt b2)),(hT 2 [(oC [zI z2,Sl.v 1 s4,Sl.v 1 s5])]))) (show _ = some ((zB false),_) from (by rw [h11])) (eC 4 (keep (hT 2 [(oC [zI z2,Sl.v 1 s4,Sl.v 1 s5])]) (bb (an (Nat.blt k1 (Sl.n s5)) true) (some (fpV (k1 * 1) (Sl.cs s5))) none)) (keep_bb h12) (eD (keep (hT 2 [(oC [zI z2,Sl.v 1 s4,Sl.v 1 s5])]) (nthL (Sl.cs s5) (k1 * 1))) (keep_eq h13) (eC 3 ((oo (pu 54 [zI x2,(zI (0:Int)),(zI (wrapF .i64 (Int.sub z2 (1:Int))))]) none fun v=>some (v,(hT 2 [(oC [zI z2,Sl.v 1 s4,Sl.v 1 s5])])))) (call_eq h14) (eE)))))) ?_
         exact ⟨((Int.ofNat k1),(nt b3),z2,s4,s5),hm,(.k0 [false] [.tmp 1 false] [1,3,52])⟩
      ·refine .ifF (ilt z1 (Int.ofNat (Sl.n s4))) (by kernel_rfl) h5 ?_
       refine .exit ?_
       exact ⟨(z2,s4,s5),hm,(.k0 [false] [.tmp 1 false] [1])⟩
end
end Go.MdFM
