/- Made from wip. -/
import Derived.Test.YtenlanbdolnhhaaRgFMod0x

set_option maxRecDepth 100000
set_option maxHeartbeats 20000000
set_option linter.unusedVariables false
namespace Go.RgFM
open Go.Sp Go.RgF
noncomputable section
def m42_0 (pu:PureF) (n n0 c0:Nat) (q1:LV):OV:=
 (bb (allL closed1 q1) (bb (an (Nat.ble (0 + n0 * 1) (len q1)) (allL closed1 (takeL (n0 * 1) (dropL 0 q1)))) (some (.tuple ⟨[(Sl.v 1 (Sl.mk n0 0 (takeL (n0 * 1) (dropL 0 q1)))),(.int .i64 (0:Int))]⟩)) none) none)
def m42_2 (pu:PureF) (n:Nat) (ih0:Nat→Nat→Int→Int→Sl→Int→Int→LV→OV) (n0 c0:Nat) (z0 z1:Int) (s0:Sl) (z2 z3:Int) (q1:LV):OV:=
 (bb (allL closed1 q1) (ih0 n0 c0 (wrapF .i64 (Int.add z0 (1:Int))) z1 s0 z2 z3 q1) none)
def b42_1 (pu:PureF) (n:Nat) (ih0:Nat→Nat→Int→Int→Sl→Int→Int→LV→OV) (n0 c0:Nat) (z0 z1:Int) (s0:Sl) (z2 z3:Int) (q1:LV):OV:=
 (bb (allL closed1 q1) (bb (nt (ilt z1 z0)) (oo (pu 89 [.int .i64 z0,.int .i64 z1]) none fun v0=>(oo (vBool v0) none fun b0=>(bb (nt b0) (m42_2 pu n ih0 n0 c0 z0 z1 s0 z2 z3 q1) (oo (pu 71 [(.agg ⟨[.int .i64 z2,.int .u32 z3]⟩),.int .i64 z0]) none fun v1=>(oo (vAgg v1) none fun l0=>(ll l0 none fun v2 l0=>(ll l0 none fun v3 l0=>(ll l0 (oo (toI .i64 v2) none fun x0=>(oo (toI .u32 v3) none fun x1=>(oo (pu 70 [(.agg ⟨[.int .i64 x0,.int .u32 x1]⟩),(.agg ⟨[.int .i64 z2,.int .u32 z3]⟩)]) none fun v4=>(oo (vTup v4) none fun l1=>(ll l1 none fun v5 l1=>(ll l1 none fun v6 l1=>(ll l1 (oo (toI .i64 v5) none fun x2=>(oo (vBool v6) none fun b1=>(bb b1 (bb (growC 1 8 n0 c0 1 q1) (bb (allL closed1 (appL (dropL 0 q1) [.int .i64 z0])) (m42_2 pu n ih0 (n0 + 1) (2 * (n0 + 1) + bb false 1 0) z0 z1 s0 z2 z3 (appL (dropL 0 q1) [.int .i64 z0])) none) none) (m42_2 pu n ih0 n0 c0 z0 z1 s0 z2 z3 q1)))) fun _ _=>none))))))) fun _ _=>none)))))))) (m42_0 pu n n0 c0 q1)) none)
def l42_1 (pu:PureF) (n w:Nat):Nat→Nat→Int→Int→Sl→Int→Int→LV→OV:=
 Nat.rec (motive:=fun _=>Nat→Nat→Int→Int→Sl→Int→Int→LV→OV) (fun _ _ _ _ _ _ _ _=>none) (fun _ ih0=>b42_1 pu n ih0) w
def m42_ (pu:PureF) (n:Nat) (x0:Int) (s0:Sl):OV:=
 (oo (pu 61 [(.agg ⟨[.int .i64 x0,Sl.v 1 s0]⟩)]) none fun v0=>(oo (vTup v0) none fun l0=>(ll l0 none fun v1 l0=>(ll l0 none fun v2 l0=>(ll l0 (oo (vAgg v1) none fun l1=>(ll l1 none fun v3 l1=>(ll l1 none fun v4 l1=>(ll l1 (oo (toI .i64 v3) none fun x1=>(oo (toI .u32 v4) none fun x2=>(oo (toI .i64 v2) none fun x3=>(bb (nt (ieq x3 (0:Int))) (some (.tuple ⟨[(Sl.v 1 (Sl.mk 0 2 [])),.int .i64 x3]⟩)) (l42_1 pu n n 0 0 (1:Int) x0 s0 x1 x2 ([]:LV)))))) fun _ _=>none)))) fun _ _=>none)))))
def m42 (pu:PureF) (n:Nat) (args:LV):OV:=
 (ll args none fun a0 args=>(ll args (oo (vAgg a0) none fun l0=>(ll l0 none fun v0 l0=>(ll l0 none fun v1 l0=>(ll l0 (oo (toI .i64 v0) none fun x0=>(oo (toSl 1 v1) none fun s0=>(m42_ pu n x0 s0))) fun _ _=>none)))) fun _ _=>none))
theorem w42_0 (pu:PureF) (n n0 c0:Nat) (q1:LV) {v:Value} (hm:m42_0 pu n n0 c0 q1 = some v):Run tt (callP tabs isP pu (inl pu)) 0 c42_30 (fr 43 [(6,sc 0 0 1 n0 c0)]) (hp 1 [oC q1]) (Fin tt 0 [.tmp 2,.tmp 3] v):=by
 unfold m42_0 at hm
 refine .then (.rK ?_)
 replace hm:=bb_inv hm;obtain ⟨h0,hm⟩:=hm
 refine .ghs (fr 43 [(2,sc 0 0 1 n0 c0),(3,(zI (0:Int)))]) (hp 1 [oC q1]) (.k [0] [] [.tmp 2 false] [2,3] ⟨trF h0,trivial⟩) ?_
 replace hm:=bb_inv hm;obtain ⟨h1,hm⟩:=hm
 refine .ghs (Fr.puts (fr 43 [(2,sc 0 0 1 n0 c0),(3,(zI (0:Int)))]) [(2,(Sl.v 1 (Sl.mk n0 0 (takeL (n0 * 1) (dropL 0 q1)))))]) (hp 1 [.dead]) (.freezeC 0 2 1 (an (Nat.ble (0 + n0 * 1) (len q1)) (allL closed1 (takeL (n0 * 1) (dropL 0 q1)))) (F1:=(Fr.puts (fr 43 [(2,sc 0 0 1 n0 c0),(3,(zI (0:Int)))]) [(2,(Sl.v 1 (Sl.mk n0 0 (takeL (n0 * 1) (dropL 0 q1)))))])) (H1:=(hp 1 [.dead])) (by kernel_rfl) (by kernel_rfl) h1 (GhS.id _ _)) ?_
 refine .ret ?_
 exact fin_ret (.tuple ⟨[(Sl.v 1 (Sl.mk n0 0 (takeL (n0 * 1) (dropL 0 q1)))),(zI (0:Int))]⟩) (by kernel_rfl) (by kernel_rfl) hm
theorem r42 {call:CallF} (pu:PureF) (n:Nat) (hcall:call = callP tabs isP pu (inl pu)) {args:LV} {v:Value} (hm:m42 pu n args = some v) (_:∀ x ∈ args,closed2 x = true):args.length≤43∧Run tt call 0 c42_35 (Fr.made 43 args) (pureHeap tabs) (Fin tt 0 [.tmp 2,.tmp 3] v):=by
 subst hcall
 unfold m42 at hm
 replace hm:=ll_uncons hm;obtain ⟨a0,args_0,rfl,hm⟩:=hm
 replace hm:=ll_end hm;obtain ⟨rfl,hm⟩:=hm
 replace hm:=inv_vAgg hm;obtain ⟨l0,rfl,hm⟩:=hm
 replace hm:=ll_uncons hm;obtain ⟨v0,l1926_0,rfl,hm⟩:=hm
 replace hm:=ll_uncons hm;obtain ⟨v1,l1926_1,rfl,hm⟩:=hm
 replace hm:=ll_end hm;obtain ⟨rfl,hm⟩:=hm
 replace hm:=inv_toI hm;obtain ⟨x0,rfl,hm⟩:=hm
 replace hm:=inv_toSl hm;obtain ⟨s0,rfl,hm⟩:=hm
 unfold m42_ at hm
 refine ⟨by simp,?_⟩
 refine .same (F':=(fr 43 [(0,(.agg ⟨[zI x0,Sl.v 1 s0]⟩))])) (H':=(hp 0 [])) (by kernel_rfl) (by kernel_rfl) ?_
 refine .then (.rK ?_)
 refine .ghs (fr 43 [(1,(pt 0 0))]) (hp 1 [(oC [zI x0,Sl.v 1 s0])]) (.k0 [] [.tmp 1 false] [1]) ?_
 refine .then ?_
 replace hm:=oo_inv hm;obtain ⟨v2,h0,hm⟩:=hm
 replace hm:=inv_vTup hm;obtain ⟨l1,rfl,hm⟩:=hm
 replace hm:=ll_uncons hm;obtain ⟨v3,l1952_0,rfl,hm⟩:=hm
 replace hm:=ll_uncons hm;obtain ⟨v4,l1952_1,rfl,hm⟩:=hm
 replace hm:=ll_end hm;obtain ⟨rfl,hm⟩:=hm
 replace hm:=inv_vAgg hm;obtain ⟨l2,rfl,hm⟩:=hm
 replace hm:=ll_uncons hm;obtain ⟨v5,l1956_0,rfl,hm⟩:=hm
 replace hm:=ll_uncons hm;obtain ⟨v6,l1956_1,rfl,hm⟩:=hm
 replace hm:=ll_end hm;obtain ⟨rfl,hm⟩:=hm
 replace hm:=inv_toI hm;obtain ⟨x1,rfl,hm⟩:=hm
 replace hm:=inv_toI hm;obtain ⟨x2,rfl,hm⟩:=hm
 replace hm:=inv_toI hm;obtain ⟨x3,rfl,hm⟩:=hm
 refine .reg (eC 1 ((oo (pu 61 [(.agg ⟨[zI x0,Sl.v 1 s0]⟩)]) none fun v=>some (v,(hp 1 [(oC [zI x0,Sl.v 1 s0])])))) (call_eq h0) (eE)) ?_
 refine .ghs (fr 43 [(1,(pt 0 0)),(4,pt 1 0),(5,zI x3)]) (hp 2 [(oC [zI x0,Sl.v 1 s0]),(oC [zI x1,.int .u32 x2])]) (.k0 [] [.tmp 1 false,.tmp 4 false] [1,4,5]) ?_
 refine .then ?_
 refine .then (.rK ?_)
 refine .ghs (fr 43 [(1,(pt 0 0)),(4,pt 1 0),(5,zI x3),(16,(zB (nt (ieq x3 (0:Int)))))]) (hp 2 [(oC [zI x0,Sl.v 1 s0]),(oC [zI x1,.int .u32 x2])]) (.k0 [] [.tmp 1 false,.tmp 4 false] [1,4,5,16]) ?_
 replace hm:=bb_cases hm;rcases hm with ⟨h1,hm⟩ | ⟨h1,hm⟩
 ·refine .ifT (nt (ieq x3 (0 : Int))) (by kernel_rfl) h1 ?_
  refine .then (.rK ?_)
  refine .ghs (fr 43 [(2,(.slice none 0 0)),(3,zI x3)]) (hp 0 []) (.k0 [] [] [2,3]) ?_
  refine .ghs (Fr.puts (fr 43 [(2,(.slice none 0 0)),(3,zI x3)]) [(2,(Sl.v 1 (Sl.mk 0 2 [])))]) (hp 0 []) (.freeze 0 2 1 (by kernel_rfl) (by kernel_rfl) (GhS.id _ _)) ?_
  refine .ret ?_
  exact fin_ret (.tuple ⟨[(Sl.v 1 (Sl.mk 0 2 [])),zI x3]⟩) (by kernel_rfl) (by kernel_rfl) hm
 ·refine .ifF (nt (ieq x3 (0 : Int))) (by kernel_rfl) h1 ?_
  refine .skip ?_
  refine .ghs (fr 43 [(1,(pt 0 0)),(4,pt 1 0)]) (hp 2 [(oC [zI x0,Sl.v 1 s0]),(oC [zI x1,.int .u32 x2])]) (.k0 [] [.tmp 1 false,.tmp 4 false] [1,4]) ?_
  refine .then (.rK ?_)
  refine .ghs (fr 43 [(1,(pt 0 0)),(4,pt 1 0),(6,(.slice none 0 0))]) (hp 2 [(oC [zI x0,Sl.v 1 s0]),(oC [zI x1,.int .u32 x2])]) (.k0 [] [.tmp 1 false,.tmp 4 false] [1,4,6]) ?_
  refine .join (v:=v) (fun y:Nat×Nat×LV=>((fr 43 [(6,(sc 0 0 1 y.1 y.2.1))]),(hp 1 [(oC y.2.2)]))) (fun y=>m42_0 pu n y.1 y.2.1 y.2.2) ?_ ?_
  ·rintro ⟨n0, c0, q1⟩ hm
   exact w42_0 pu n n0 c0 q1 hm
  ·refine .then (.rK ?_)
   refine .ghs (fr 43 [(1,(pt 0 0)),(4,pt 1 0),(6,(.slice none 0 0)),(7,(zI (1:Int)))]) (hp 2 [(oC [zI x0,Sl.v 1 s0]),(oC [zI x1,.int .u32 x2])]) (.k0 [] [.tmp 1 false,.tmp 4 false] [1,4,6,7]) ?_
   refine .block ?_
   refine .loopM (v:=v) (fun y:Nat×Nat×Int×Int×Sl×Int×Int×LV=>((fr 43 [(1,(pt 0 0)),(4,pt 1 0),(6,(sc 2 0 1 y.1 y.2.1)),(7,(zI y.2.2.1))]),(hp 3 [(oC [(zI y.2.2.2.1),(Sl.v 1 y.2.2.2.2.1)]),(oC [(zI y.2.2.2.2.2.1),(.int .u32 y.2.2.2.2.2.2.1)]),(oC y.2.2.2.2.2.2.2)]))) (fun w y=>l42_1 pu n w y.1 y.2.1 y.2.2.1 y.2.2.2.1 y.2.2.2.2.1 y.2.2.2.2.2.1 y.2.2.2.2.2.2.1 y.2.2.2.2.2.2.2) n ⟨(0,0,(1:Int),x0,s0,x1,x2,([]:LV)),hm,(.thaw 6 1 (by kernel_rfl) (.k0 [] [.tmp 1 false,.tmp 4 false,.tmp 6 false] [1,4,6,7]))⟩ (fun _=>rfl) ?_
   rintro w0 ⟨n1,c1,z0,z1,s1,z2,z3,q2⟩ hm
   replace hm:b42_1 pu n (l42_1 pu n w0) n1 c1 z0 z1 s1 z2 z3 q2 = some v:=hm
   unfold b42_1 at hm
   refine .then ?_
   refine .then (.rK ?_)
   replace hm:=bb_inv hm;obtain ⟨h2,hm⟩:=hm
   refine .ghs (fr 43 [(1,(pt 0 0)),(4,pt 1 0),(6,sc 2 0 1 n1 c1),(7,zI z0),(21,(zB (nt (ilt z1 z0))))]) (hp 3 [(oC [zI z1,Sl.v 1 s1]),(oC [zI z2,.int .u32 z3]),oC q2]) (.k [2] [] [.tmp 1 false,.tmp 4 false,.tmp 6 false] [1,4,6,7,21] ⟨trF h2,trivial⟩) ?_
   replace hm:=bb_cases hm;rcases hm with ⟨h3,hm⟩ | ⟨h3,hm⟩
   ·refine .ifT (nt (ilt z1 z0)) (by kernel_rfl) h3 ?_
    refine .skip ?_
    refine .ghs (fr 43 [(1,(pt 0 0)),(4,pt 1 0),(6,sc 2 0 1 n1 c1),(7,zI z0)]) (hp 3 [(oC [zI z1,Sl.v 1 s1]),(oC [zI z2,.int .u32 z3]),oC q2]) (.k [2] [] [.tmp 1 false,.tmp 4 false,.tmp 6 false] [1,4,6,7] ⟨trF h2,trivial⟩) ?_
    refine .join (v:=v) (fun y:Nat×Nat×Int×Int×Sl×Int×Int×LV=>((fr 43 [(1,(pt 0 0)),(4,pt 1 0),(6,(sc 2 0 1 y.1 y.2.1)),(7,(zI y.2.2.1))]),(hp 3 [(oC [(zI y.2.2.2.1),(Sl.v 1 y.2.2.2.2.1)]),(oC [(zI y.2.2.2.2.2.1),(.int .u32 y.2.2.2.2.2.2.1)]),(oC y.2.2.2.2.2.2.2)]))) (fun y=>m42_2 pu n (l42_1 pu n w0) y.1 y.2.1 y.2.2.1 y.2.2.2.1 y.2.2.2.2.1 y.2.2.2.2.2.1 y.2.2.2.2.2.2.1 y.2.2.2.2.2.2.2) ?_ ?_
    ·rintro ⟨n2, c2, z4, z5, s2, z6, z7, q3⟩ hm
     unfold m42_2 at hm
     refine .rK ?_
     replace hm:=bb_inv hm;obtain ⟨h4,hm⟩:=hm
     exact ⟨(n2,c2,(wrapF .i64 (Int.add z4 (1:Int))),z5,s2,z6,z7,q3),hm,(.k [2] [] [.tmp 1 false,.tmp 4 false,.tmp 6 false] [1,4,6,7] ⟨trF h4,trivial⟩)⟩
    ·refine .block ?_
     refine .then ?_
     refine .then ?_
     replace hm:=oo_inv hm;obtain ⟨v7,h5,hm⟩:=hm
     replace hm:=inv_vBool hm;obtain ⟨b0,rfl,hm⟩:=hm
     refine .reg (eC 3 ((oo (pu 89 [zI z0,zI z1]) none fun v=>some (v,(hp 3 [(oC [zI z1,Sl.v 1 s1]),(oC [zI z2,.int .u32 z3]),oC q2])))) (call_eq h5) (eE)) ?_
     refine .ghs (fr 43 [(1,(pt 0 0)),(4,pt 1 0),(6,sc 2 0 1 n1 c1),(7,zI z0),(28,(zB (nt b0)))]) (hp 3 [(oC [zI z1,Sl.v 1 s1]),(oC [zI z2,.int .u32 z3]),oC q2]) (.k [2] [] [.tmp 1 false,.tmp 4 false,.tmp 6 false] [1,4,6,7,28] ⟨trF h2,trivial⟩) ?_
     replace hm:=bb_cases hm;rcases hm with ⟨h6,hm⟩ | ⟨h6,hm⟩
     ·refine .ifT (nt b0) (by kernel_rfl) h6 ?_
      refine .exit ?_
      exact ⟨(n1,c1,z0,z1,s1,z2,z3,q2),hm,(.k [2] [] [.tmp 1 false,.tmp 4 false,.tmp 6 false] [1,4,6,7] ⟨trF h2,trivial⟩)⟩
     ·refine .ifF (nt b0) (by kernel_rfl) h6 ?_
      refine .skip ?_
      refine .ghs (fr 43 [(1,(pt 0 0)),(4,pt 1 0),(6,sc 2 0 1 n1 c1),(7,zI z0)]) (hp 3 [(oC [zI z1,Sl.v 1 s1]),(oC [zI z2,.int .u32 z3]),oC q2]) (.k [2] [] [.tmp 1 false,.tmp 4 false,.tmp 6 false] [1,4,6,7] ⟨trF h2,trivial⟩) ?_
      refine .then ?_
      replace hm:=oo_inv hm;obtain ⟨v8,h7,hm⟩:=hm
      replace hm:=inv_vAgg hm;obtain ⟨l3,rfl,hm⟩:=hm
      replace hm:=ll_uncons hm;obtain ⟨v9,l2198_0,rfl,hm⟩:=hm
      replace hm:=ll_uncons hm;obtain ⟨v10,l2198_1,rfl,hm⟩:=hm
      replace hm:=ll_end hm;obtain ⟨rfl,hm⟩:=hm
      replace hm:=inv_toI hm;obtain ⟨x4,rfl,hm⟩:=hm
      replace hm:=inv_toI hm;obtain ⟨x5,rfl,hm⟩:=hm
      replace hm:=oo_inv hm;obtain ⟨v11,h8,hm⟩:=hm
      replace hm:=inv_vTup hm;obtain ⟨l4,rfl,hm⟩:=hm
      replace hm:=ll_uncons hm;obtain ⟨v12,l2208_0,rfl,hm⟩:=hm
      replace hm:=ll_uncons hm;obtain ⟨v13,l2208_1,rfl,hm⟩:=hm
      replace hm:=ll_end hm;obtain ⟨rfl,hm⟩:=hm
      replace hm:=inv_toI hm;obtain ⟨x6,rfl,hm⟩:=hm
      replace hm:=inv_vBool hm;obtain ⟨b1,rfl,hm⟩:=hm
      refine .reg (eC 3 ((oo (pu 71 [(.agg ⟨[zI z2,.int .u32 z3]⟩),zI z0]) none fun v=>some (v,(hp 3 [(oC [zI z1,Sl.v 1 s1]),(oC [zI z2,.int .u32 z3]),oC q2])))) (call_eq h7) (eD ((oo (pu 70 [(.agg ⟨[zI x4,.int .u32 x5]⟩),(.agg ⟨[zI z2,.int .u32 z3]⟩)]) none fun v=>some (v,(hp 3 [(oC [zI z1,Sl.v 1 s1]),(oC [zI z2,.int .u32 z3]),oC q2])))) (call_eq h8) (eE))) ?_
      refine .ghs (fr 43 [(1,(pt 0 0)),(4,pt 1 0),(6,sc 2 0 1 n1 c1),(7,zI z0),(9,zB b1)]) (hp 3 [(oC [zI z1,Sl.v 1 s1]),(oC [zI z2,.int .u32 z3]),oC q2]) (.k [2] [] [.tmp 1 false,.tmp 4 false,.tmp 6 false] [1,4,6,7,9] ⟨trF h2,trivial⟩) ?_
      refine .then (.rK ?_)
      refine .ghs (fr 43 [(1,(pt 0 0)),(4,pt 1 0),(6,sc 2 0 1 n1 c1),(7,zI z0),(37,zB b1)]) (hp 3 [(oC [zI z1,Sl.v 1 s1]),(oC [zI z2,.int .u32 z3]),oC q2]) (.k [2] [] [.tmp 1 false,.tmp 4 false,.tmp 6 false] [1,4,6,7,37] ⟨trF h2,trivial⟩) ?_
      replace hm:=bb_cases hm;rcases hm with ⟨h9,hm⟩ | ⟨h9,hm⟩
      ·refine .ifT b1 (by kernel_rfl) h9 ?_
       replace hm:=bb_inv hm;obtain ⟨h10,hm⟩:=hm
       refine .reg (eC 3 (growD 1 8 n1 c1 1 2 q2 [zI z0] [] (hp 4 [(oC [zI z1,Sl.v 1 s1]),(oC [zI z2,.int .u32 z3]),oC q2,(oC [zI z0])])) (growD_eq h10) (eE)) ?_
       replace hm:=bb_inv hm;obtain ⟨h11,hm⟩:=hm
       exact ⟨((n1 + 1),(d2 (n1 + 1)),z0,z1,s1,z2,z3,(appL (dropL 0 q2) [zI z0])),hm,(.k [4] [] [.tmp 1 false,.tmp 4 false,.tmp 6 false] [1,4,6,7] ⟨trF h11,trivial⟩)⟩
      ·refine .ifF b1 (by kernel_rfl) h9 ?_
       refine .skip ?_
       exact ⟨(n1,c1,z0,z1,s1,z2,z3,q2),hm,(.k [2] [] [.tmp 1 false,.tmp 4 false,.tmp 6 false] [1,4,6,7] ⟨trF h2,trivial⟩)⟩
   ·refine .ifF (nt (ilt z1 z0)) (by kernel_rfl) h3 ?_
    refine .exit ?_
    exact ⟨(n1,c1,q2),hm,(.k [2] [] [.tmp 6 false] [6] ⟨trF h2,trivial⟩)⟩
def m43_0 (pu:PureF) (n n0 c0:Nat) (q1:LV):OV:=
 (bb (allL closed1 q1) (bb (an (Nat.ble (0 + n0 * 1) (len q1)) (allL closed1 (takeL (n0 * 1) (dropL 0 q1)))) (some (.tuple ⟨[(Sl.v 1 (Sl.mk n0 0 (takeL (n0 * 1) (dropL 0 q1)))),(.int .i64 (0:Int))]⟩)) none) none)
def m43_2 (pu:PureF) (n:Nat) (ih0:Nat→Nat→Int→Int→Sl→LV→OV) (n0 c0:Nat) (z0 z1:Int) (s0:Sl) (q1:LV):OV:=
 (bb (allL closed1 q1) (ih0 n0 c0 (wrapF .i64 (Int.add z0 (1:Int))) z1 s0 q1) none)
def m43_3 (pu:PureF) (n:Nat) (ih0:Nat→Nat→Int→Int→Sl→LV→OV) (n0 c0:Nat) (z0:Int) (b0:Bool) (z1:Int) (s0:Sl) (q1:LV):OV:=
 (bb b0 (bb (growC 1 8 n0 c0 1 q1) (bb (allL closed1 (appL (dropL 0 q1) [.int .i64 z0])) (m43_2 pu n ih0 (n0 + 1) (2 * (n0 + 1) + bb false 1 0) z0 z1 s0 (appL (dropL 0 q1) [.int .i64 z0])) none) none) (bb (allL closed1 q1) (m43_2 pu n ih0 n0 c0 z0 z1 s0 q1) none))
def b43_1 (pu:PureF) (n:Nat) (ih0:Nat→Nat→Int→Int→Sl→LV→OV) (n0 c0:Nat) (z0 z1:Int) (s0:Sl) (q1:LV):OV:=
 (bb (allL closed1 q1) (bb (nt (ilt z1 z0)) (oo (pu 41 [(.agg ⟨[.int .i64 z1,Sl.v 1 s0]⟩),.int .i64 z0]) none fun v0=>(oo (vTup v0) none fun l0=>(ll l0 none fun v1 l0=>(ll l0 none fun v2 l0=>(ll l0 (oo (vAgg v1) none fun l1=>(ll l1 none fun v3 l1=>(ll l1 none fun v4 l1=>(ll l1 (oo (toI .i64 v3) none fun x0=>(oo (toSl 1 v4) none fun s1=>(oo (toI .i64 v2) none fun x1=>(bb (ieq x1 (0:Int)) (oo (pu 69 [(.agg ⟨[.int .i64 x0,Sl.v 1 s1]⟩)]) none fun v5=>(oo (vAgg v5) none fun l2=>(ll l2 none fun v6 l2=>(ll l2 none fun v7 l2=>(ll l2 (oo (toI .i64 v6) none fun x2=>(oo (toSl 1 v7) none fun s2=>(oo (pu 69 [(.agg ⟨[.int .i64 z1,Sl.v 1 s0]⟩)]) none fun v8=>(oo (vAgg v8) none fun l3=>(ll l3 none fun v9 l3=>(ll l3 none fun v10 l3=>(ll l3 (oo (toI .i64 v9) none fun x3=>(oo (toSl 1 v10) none fun s3=>(oo (pu 72 [Sl.v 1 s2,Sl.v 1 s3]) none fun v11=>(oo (vBool v11) none fun b0=>(m43_3 pu n ih0 n0 c0 z0 b0 z1 s0 q1))))) fun _ _=>none))))))) fun _ _=>none))))) (m43_3 pu n ih0 n0 c0 z0 false z1 s0 q1))))) fun _ _=>none)))) fun _ _=>none))))) (m43_0 pu n n0 c0 q1)) none)
def l43_1 (pu:PureF) (n w:Nat):Nat→Nat→Int→Int→Sl→LV→OV:=
 Nat.rec (motive:=fun _=>Nat→Nat→Int→Int→Sl→LV→OV) (fun _ _ _ _ _ _=>none) (fun _ ih0=>b43_1 pu n ih0) w
def m43_ (pu:PureF) (n:Nat) (x0:Int) (s0:Sl):OV:=
 (oo (pu 26 [(.agg ⟨[.int .i64 x0,Sl.v 1 s0]⟩)]) none fun v0=>(oo (toI .i64 v0) none fun x1=>(bb (nt (ieq x1 (0:Int))) (some (.tuple ⟨[(Sl.v 1 (Sl.mk 0 2 [])),.int .i64 x1]⟩)) (l43_1 pu n n 0 0 (1:Int) x0 s0 ([]:LV)))))
def m43 (pu:PureF) (n:Nat) (args:LV):OV:=
 (ll args none fun a0 args=>(ll args (oo (vAgg a0) none fun l0=>(ll l0 none fun v0 l0=>(ll l0 none fun v1 l0=>(ll l0 (oo (toI .i64 v0) none fun x0=>(oo (toSl 1 v1) none fun s0=>(m43_ pu n x0 s0))) fun _ _=>none)))) fun _ _=>none))
theorem w43_0 (pu:PureF) (n n0 c0:Nat) (q1:LV) {v:Value} (hm:m43_0 pu n n0 c0 q1 = some v):Run tt (callP tabs isP pu (inl pu)) 0 c43_26 (fr 42 [(5,sc 0 0 1 n0 c0)]) (hp 1 [oC q1]) (Fin tt 0 [.tmp 2,.tmp 3] v):=by
 unfold m43_0 at hm
 refine .then (.rK ?_)
 replace hm:=bb_inv hm;obtain ⟨h0,hm⟩:=hm
 refine .ghs (fr 42 [(2,sc 0 0 1 n0 c0),(3,(zI (0:Int)))]) (hp 1 [oC q1]) (.k [0] [] [.tmp 2 false] [2,3] ⟨trF h0,trivial⟩) ?_
 replace hm:=bb_inv hm;obtain ⟨h1,hm⟩:=hm
 refine .ghs (Fr.puts (fr 42 [(2,sc 0 0 1 n0 c0),(3,(zI (0:Int)))]) [(2,(Sl.v 1 (Sl.mk n0 0 (takeL (n0 * 1) (dropL 0 q1)))))]) (hp 1 [.dead]) (.freezeC 0 2 1 (an (Nat.ble (0 + n0 * 1) (len q1)) (allL closed1 (takeL (n0 * 1) (dropL 0 q1)))) (F1:=(Fr.puts (fr 42 [(2,sc 0 0 1 n0 c0),(3,(zI (0:Int)))]) [(2,(Sl.v 1 (Sl.mk n0 0 (takeL (n0 * 1) (dropL 0 q1)))))])) (H1:=(hp 1 [.dead])) (by kernel_rfl) (by kernel_rfl) h1 (GhS.id _ _)) ?_
 refine .ret ?_
 exact fin_ret (.tuple ⟨[(Sl.v 1 (Sl.mk n0 0 (takeL (n0 * 1) (dropL 0 q1)))),(zI (0:Int))]⟩) (by kernel_rfl) (by kernel_rfl) hm
theorem r43 {call:CallF} (pu:PureF) (n:Nat) (hcall:call = callP tabs isP pu (inl pu)) {args:LV} {v:Value} (hm:m43 pu n args = some v) (_:∀ x ∈ args,closed2 x = true):args.length≤42∧Run tt call 0 c43_31 (Fr.made 42 args) (pureHeap tabs) (Fin tt 0 [.tmp 2,.tmp 3] v):=by
 subst hcall
 unfold m43 at hm
 replace hm:=ll_uncons hm;obtain ⟨a0,args_0,rfl,hm⟩:=hm
 replace hm:=ll_end hm;obtain ⟨rfl,hm⟩:=hm
 replace hm:=inv_vAgg hm;obtain ⟨l0,rfl,hm⟩:=hm
 replace hm:=ll_uncons hm;obtain ⟨v0,l2220_0,rfl,hm⟩:=hm
 replace hm:=ll_uncons hm;obtain ⟨v1,l2220_1,rfl,hm⟩:=hm
 replace hm:=ll_end hm;obtain ⟨rfl,hm⟩:=hm
 replace hm:=inv_toI hm;obtain ⟨x0,rfl,hm⟩:=hm
 replace hm:=inv_toSl hm;obtain ⟨s0,rfl,hm⟩:=hm
 unfold m43_ at hm
 refine ⟨by simp,?_⟩
 refine .same (F':=(fr 42 [(0,(.agg ⟨[zI x0,Sl.v 1 s0]⟩))])) (H':=(hp 0 [])) (by kernel_rfl) (by kernel_rfl) ?_
 refine .then (.rK ?_)
 refine .ghs (fr 42 [(1,(pt 0 0))]) (hp 1 [(oC [zI x0,Sl.v 1 s0])]) (.k0 [] [.tmp 1 false] [1]) ?_
 refine .then ?_
 replace hm:=oo_inv hm;obtain ⟨v2,h0,hm⟩:=hm
 replace hm:=inv_toI hm;obtain ⟨x1,rfl,hm⟩:=hm
 refine .reg (eC 1 ((oo (pu 26 [(.agg ⟨[zI x0,Sl.v 1 s0]⟩)]) none fun v=>some (v,(hp 1 [(oC [zI x0,Sl.v 1 s0])])))) (call_eq h0) (eE)) ?_
 refine .ghs (fr 42 [(1,(pt 0 0)),(4,zI x1)]) (hp 1 [(oC [zI x0,Sl.v 1 s0])]) (.k0 [] [.tmp 1 false] [1,4]) ?_
 refine .then ?_
 refine .then (.rK ?_)
 refine .ghs (fr 42 [(1,(pt 0 0)),(4,zI x1),(12,(zB (nt (ieq x1 (0:Int)))))]) (hp 1 [(oC [zI x0,Sl.v 1 s0])]) (.k0 [] [.tmp 1 false] [1,4,12]) ?_
 replace hm:=bb_cases hm;rcases hm with ⟨h1,hm⟩ | ⟨h1,hm⟩
 ·refine .ifT (nt (ieq x1 (0 : Int))) (by kernel_rfl) h1 ?_
  refine .then (.rK ?_)
  refine .ghs (fr 42 [(2,(.slice none 0 0)),(3,zI x1)]) (hp 0 []) (.k0 [] [] [2,3]) ?_
  refine .ghs (Fr.puts (fr 42 [(2,(.slice none 0 0)),(3,zI x1)]) [(2,(Sl.v 1 (Sl.mk 0 2 [])))]) (hp 0 []) (.freeze 0 2 1 (by kernel_rfl) (by kernel_rfl) (GhS.id _ _)) ?_
  refine .ret ?_
  exact fin_ret (.tuple ⟨[(Sl.v 1 (Sl.mk 0 2 [])),zI x1]⟩) (by kernel_rfl) (by kernel_rfl) hm
 ·refine .ifF (nt (ieq x1 (0 : Int))) (by kernel_rfl) h1 ?_
  refine .skip ?_
  refine .ghs (fr 42 [(1,(pt 0 0))]) (hp 1 [(oC [zI x0,Sl.v 1 s0])]) (.k0 [] [.tmp 1 false] [1]) ?_
  refine .then (.rK ?_)
  refine .ghs (fr 42 [(1,(pt 0 0)),(5,(.slice none 0 0))]) (hp 1 [(oC [zI x0,Sl.v 1 s0])]) (.k0 [] [.tmp 1 false] [1,5]) ?_
  refine .join (v:=v) (fun y:Nat×Nat×LV=>((fr 42 [(5,(sc 0 0 1 y.1 y.2.1))]),(hp 1 [(oC y.2.2)]))) (fun y=>m43_0 pu n y.1 y.2.1 y.2.2) ?_ ?_
  ·rintro ⟨n0, c0, q1⟩ hm
   exact w43_0 pu n n0 c0 q1 hm
  ·refine .then (.rK ?_)
   refine .ghs (fr 42 [(1,(pt 0 0)),(5,(.slice none 0 0)),(6,(zI (1:Int)))]) (hp 1 [(oC [zI x0,Sl.v 1 s0])]) (.k0 [] [.tmp 1 false] [1,5,6]) ?_
   refine .block ?_
   refine .loopM (v:=v) (fun y:Nat×Nat×Int×Int×Sl×LV=>((fr 42 [(1,(pt 0 0)),(5,(sc 1 0 1 y.1 y.2.1)),(6,(zI y.2.2.1))]),(hp 2 [(oC [(zI y.2.2.2.1),(Sl.v 1 y.2.2.2.2.1)]),(oC y.2.2.2.2.2)]))) (fun w y=>l43_1 pu n w y.1 y.2.1 y.2.2.1 y.2.2.2.1 y.2.2.2.2.1 y.2.2.2.2.2) n ⟨(0,0,(1:Int),x0,s0,([]:LV)),hm,(.thaw 5 1 (by kernel_rfl) (.k0 [] [.tmp 1 false,.tmp 5 false] [1,5,6]))⟩ (fun _=>rfl) ?_
   rintro w0 ⟨n1,c1,z0,z1,s1,q2⟩ hm
   replace hm:b43_1 pu n (l43_1 pu n w0) n1 c1 z0 z1 s1 q2 = some v:=hm
   unfold b43_1 at hm
   refine .then ?_
   refine .then (.rK ?_)
   replace hm:=bb_inv hm;obtain ⟨h2,hm⟩:=hm
   refine .ghs (fr 42 [(1,(pt 0 0)),(5,sc 1 0 1 n1 c1),(6,zI z0),(17,(zB (nt (ilt z1 z0))))]) (hp 2 [(oC [zI z1,Sl.v 1 s1]),oC q2]) (.k [1] [] [.tmp 1 false,.tmp 5 false] [1,5,6,17] ⟨trF h2,trivial⟩) ?_
   replace hm:=bb_cases hm;rcases hm with ⟨h3,hm⟩ | ⟨h3,hm⟩
   ·refine .ifT (nt (ilt z1 z0)) (by kernel_rfl) h3 ?_
    refine .skip ?_
    refine .ghs (fr 42 [(1,(pt 0 0)),(5,sc 1 0 1 n1 c1),(6,zI z0)]) (hp 2 [(oC [zI z1,Sl.v 1 s1]),oC q2]) (.k [1] [] [.tmp 1 false,.tmp 5 false] [1,5,6] ⟨trF h2,trivial⟩) ?_
    refine .join (v:=v) (fun y:Nat×Nat×Int×Int×Sl×LV=>((fr 42 [(1,(pt 0 0)),(5,(sc 1 0 1 y.1 y.2.1)),(6,(zI y.2.2.1))]),(hp 2 [(oC [(zI y.2.2.2.1),(Sl.v 1 y.2.2.2.2.1)]),(oC y.2.2.2.2.2)]))) (fun y=>m43_2 pu n (l43_1 pu n w0) y.1 y.2.1 y.2.2.1 y.2.2.2.1 y.2.2.2.2.1 y.2.2.2.2.2) ?_ ?_
    ·rintro ⟨n2, c2, z2, z3, s2, q3⟩ hm
     unfold m43_2 at hm
     refine .rK ?_
     replace hm:=bb_inv hm;obtain ⟨h4,hm⟩:=hm
     exact ⟨(n2,c2,(wrapF .i64 (Int.add z2 (1:Int))),z3,s2,q3),hm,(.k [1] [] [.tmp 1 false,.tmp 5 false] [1,5,6] ⟨trF h4,trivial⟩)⟩
    ·refine .block ?_
     refine .then ?_
     replace hm:=oo_inv hm;obtain ⟨v3,h5,hm⟩:=hm
     replace hm:=inv_vTup hm;obtain ⟨l1,rfl,hm⟩:=hm
     replace hm:=ll_uncons hm;obtain ⟨v4,l2720_0,rfl,hm⟩:=hm
     replace hm:=ll_uncons hm;obtain ⟨v5,l2720_1,rfl,hm⟩:=hm
     replace hm:=ll_end hm;obtain ⟨rfl,hm⟩:=hm
     replace hm:=inv_vAgg hm;obtain ⟨l2,rfl,hm⟩:=hm
     replace hm:=ll_uncons hm;obtain ⟨v6,l2724_0,rfl,hm⟩:=hm
     replace hm:=ll_uncons hm;obtain ⟨v7,l2724_1,rfl,hm⟩:=hm
     replace hm:=ll_end hm;obtain ⟨rfl,hm⟩:=hm
     replace hm:=inv_toI hm;obtain ⟨x2,rfl,hm⟩:=hm
     replace hm:=inv_toSl hm;obtain ⟨s3,rfl,hm⟩:=hm
     replace hm:=inv_toI hm;obtain ⟨x3,rfl,hm⟩:=hm
     refine .reg (eC 2 ((oo (pu 41 [(.agg ⟨[zI z1,Sl.v 1 s1]⟩),zI z0]) none fun v=>some (v,(hp 2 [(oC [zI z1,Sl.v 1 s1]),oC q2])))) (call_eq h5) (eE)) ?_
     refine .ghs (fr 42 [(1,(pt 0 0)),(5,sc 1 0 1 n1 c1),(6,zI z0),(7,(pt 2 0)),(8,zI x3)]) (hp 3 [(oC [zI z1,Sl.v 1 s1]),oC q2,(oC [zI x2,Sl.v 1 s3])]) (.k [1] [] [.tmp 1 false,.tmp 5 false,.tmp 7 false] [1,5,6,7,8] ⟨trF h2,trivial⟩) ?_
     refine .join (v:=v) (fun y:Nat×Nat×Int×Bool×Int×Sl×LV=>((fr 42 [(1,(pt 0 0)),(5,(sc 1 0 1 y.1 y.2.1)),(6,(zI y.2.2.1)),(36,(zB y.2.2.2.1))]),(hp 2 [(oC [(zI y.2.2.2.2.1),(Sl.v 1 y.2.2.2.2.2.1)]),(oC y.2.2.2.2.2.2)]))) (fun y=>m43_3 pu n (l43_1 pu n w0) y.1 y.2.1 y.2.2.1 y.2.2.2.1 y.2.2.2.2.1 y.2.2.2.2.2.1 y.2.2.2.2.2.2) ?_ ?_
     ·rintro ⟨n3, c3, z4, b0, z5, s4, q4⟩ hm
      unfold m43_3 at hm
      replace hm:=bb_cases hm;rcases hm with ⟨h6,hm⟩ | ⟨h6,hm⟩
      ·refine .ifT b0 (by kernel_rfl) h6 ?_
       replace hm:=bb_inv hm;obtain ⟨h7,hm⟩:=hm
       refine .reg (eC 3 (growD 1 8 n3 c3 1 1 q4 [zI z4] [] (hp 3 [(oC [zI z5,Sl.v 1 s4]),oC q4,(oC [zI z4])])) (growD_eq h7) (eE)) ?_
       replace hm:=bb_inv hm;obtain ⟨h8,hm⟩:=hm
       exact ⟨((n3 + 1),(d2 (n3 + 1)),z4,z5,s4,(appL (dropL 0 q4) [zI z4])),hm,(.k [3] [] [.tmp 1 false,.tmp 5 false] [1,5,6] ⟨trF h8,trivial⟩)⟩
      ·refine .ifF b0 (by kernel_rfl) h6 ?_
       refine .skip ?_
       replace hm:=bb_inv hm;obtain ⟨h9,hm⟩:=hm
       exact ⟨(n3,c3,z4,z5,s4,q4),hm,(.k [1] [] [.tmp 1 false,.tmp 5 false] [1,5,6] ⟨trF h9,trivial⟩)⟩
     ·replace hm := bb_cases hm; rcases hm with ⟨h10, hm⟩ | ⟨h10, hm⟩
      ·replace hm := oo_inv hm; obtain ⟨v8, h11, hm⟩ := hm
       replace hm:=inv_vAgg hm;obtain ⟨l3,rfl,hm⟩:=hm
       replace hm:=ll_uncons hm;obtain ⟨v9,l2824_0,rfl,hm⟩:=hm
       replace hm:=ll_uncons hm;obtain ⟨v10,l2824_1,rfl,hm⟩:=hm
       replace hm:=ll_end hm;obtain ⟨rfl,hm⟩:=hm
       replace hm:=inv_toI hm;obtain ⟨x4,rfl,hm⟩:=hm
       replace hm:=inv_toSl hm;obtain ⟨s5,rfl,hm⟩:=hm
       replace hm:=oo_inv hm;obtain ⟨v11,h12,hm⟩:=hm
       replace hm:=inv_vAgg hm;obtain ⟨l4,rfl,hm⟩:=hm
       replace hm:=ll_uncons hm;obtain ⟨v12,l2834_0,rfl,hm⟩:=hm
       replace hm:=ll_uncons hm;obtain ⟨v13,l2834_1,rfl,hm⟩:=hm
       replace hm:=ll_end hm;obtain ⟨rfl,hm⟩:=hm
       replace hm:=inv_toI hm;obtain ⟨x5,rfl,hm⟩:=hm
       replace hm:=inv_toSl hm;obtain ⟨s6,rfl,hm⟩:=hm
       replace hm:=oo_inv hm;obtain ⟨v14,h13,hm⟩:=hm
       replace hm:=inv_vBool hm;obtain ⟨b1,rfl,hm⟩:=hm
       refine .reg (eC 1 (some ((zB (ieq x3 (0:Int))),(hp 3 [(oC [zI z1,Sl.v 1 s1]),oC q2,(oC [zI x2,Sl.v 1 s3])]))) (show _ = some ((zB true),_) from (by rw [h10])) (eC 3 ((oo (pu 69 [(.agg ⟨[zI x2,Sl.v 1 s3]⟩)]) none fun v=>some (v,(hp 3 [(oC [zI z1,Sl.v 1 s1]),oC q2,(oC [zI x2,Sl.v 1 s3])])))) (call_eq h11) (eC 1 ((oo (pu 69 [(.agg ⟨[zI z1,Sl.v 1 s1]⟩)]) none fun v=>some (v,(hp 3 [(oC [zI z1,Sl.v 1 s1]),oC q2,(oC [zI x2,Sl.v 1 s3])])))) (call_eq h12) (eC 1 ((oo (pu 72 [Sl.v 1 s5,Sl.v 1 s6]) none fun v=>some (v,(hp 3 [(oC [zI z1,Sl.v 1 s1]),oC q2,(oC [zI x2,Sl.v 1 s3])])))) (call_eq h13) (eE))))) ?_
       exact ⟨(n1,c1,z0,b1,z1,s1,q2),hm,(.k [1] [] [.tmp 1 false,.tmp 5 false] [1,5,6,36] ⟨trF h2,trivial⟩)⟩
      ·refine .reg (eC 1 (some ((zB (ieq x3 (0 : Int))), (hp 3 [(oC [zI z1, Sl.v 1 s1]), oC q2, (oC [zI x2, Sl.v 1 s3])]))) (show _ = some ((zB false), _) from (by rw [h10])) (eE)) ?_
       exact ⟨(n1,c1,z0,false,z1,s1,q2),hm,(.k [1] [] [.tmp 1 false,.tmp 5 false] [1,5,6,36] ⟨trF h2,trivial⟩)⟩
   ·refine .ifF (nt (ilt z1 z0)) (by kernel_rfl) h3 ?_
    refine .exit ?_
    exact ⟨(n1,c1,q2),hm,(.k [1] [] [.tmp 5 false] [5] ⟨trF h2,trivial⟩)⟩
def m44_0 (pu:PureF) (n n0 c0:Nat) (q1:LV):OV:=
 (bb (allL closed1 q1) (bb (an (Nat.ble (0 + n0 * 1) (len q1)) (allL closed1 (takeL (n0 * 1) (dropL 0 q1)))) (some (.tuple ⟨[(Sl.v 1 (Sl.mk n0 0 (takeL (n0 * 1) (dropL 0 q1)))),(.int .i64 (0:Int))]⟩)) none) none)
def m44_2 (pu:PureF) (n:Nat) (ih0:Nat→Nat→Int→Int→Int→Int→LV→OV) (n0 c0:Nat) (z0 z1 z2 z3:Int) (q1:LV):OV:=
 (bb (allL closed1 q1) (ih0 n0 c0 z0 (wrapF .i64 (Int.add z1 (1:Int))) z2 z3 q1) none)
def m44_3 (pu:PureF) (n:Nat) (ih0:Nat→Nat→Int→Int→Int→Int→LV→OV) (n0 c0:Nat) (z0 z1 z2:Int) (b0:Bool) (z3 z4:Int) (q1:LV):OV:=
 (bb b0 (bb (growC 1 8 n0 c0 1 q1) (bb (allL closed1 (appL (dropL 0 q1) [.int .i64 z0])) (m44_2 pu n ih0 (n0 + 1) (2 * (n0 + 1) + bb false 1 0) z1 z2 z3 z4 (appL (dropL 0 q1) [.int .i64 z0])) none) none) (bb (allL closed1 q1) (m44_2 pu n ih0 n0 c0 z1 z2 z3 z4 q1) none))
def b44_1 (pu:PureF) (n:Nat) (ih0:Nat→Nat→Int→Int→Int→Int→LV→OV) (n0 c0:Nat) (z0 z1 z2 z3:Int) (q1:LV):OV:=
 (bb (allL closed1 q1) (bb (ilt z1 z0) (oo (toN z1) none fun k1=>(oo (pu 91 [(.agg ⟨[.int .i64 z2,.int .u32 z3]⟩),(.int .i64 (Int.ofNat k1))]) none fun v0=>(oo (vBool v0) none fun b0=>(bb (nt b0) (oo (pu 76 [(.agg ⟨[.int .i64 z2,(.int .u32 (aor .u32 z3 (shlI .u32 (1:Int) k1)))]⟩)]) none fun v1=>(oo (toI .i64 v1) none fun x0=>(m44_3 pu n ih0 n0 c0 (Int.ofNat k1) z0 (Int.ofNat k1) (ieq x0 (0:Int)) z2 z3 q1))) (m44_3 pu n ih0 n0 c0 (Int.ofNat k1) z0 (Int.ofNat k1) false z2 z3 q1))))) (m44_0 pu n n0 c0 q1)) none)
def l44_1 (pu:PureF) (n w:Nat):Nat→Nat→Int→Int→Int→Int→LV→OV:=
 Nat.rec (motive:=fun _=>Nat→Nat→Int→Int→Int→Int→LV→OV) (fun _ _ _ _ _ _ _=>none) (fun _ ih0=>b44_1 pu n ih0) w
def m44_ (pu:PureF) (n:Nat) (x0:Int) (s0:Sl):OV:=
 (oo (pu 61 [(.agg ⟨[.int .i64 x0,Sl.v 1 s0]⟩)]) none fun v0=>(oo (vTup v0) none fun l0=>(ll l0 none fun v1 l0=>(ll l0 none fun v2 l0=>(ll l0 (oo (vAgg v1) none fun l1=>(ll l1 none fun v3 l1=>(ll l1 none fun v4 l1=>(ll l1 (oo (toI .i64 v3) none fun x1=>(oo (toI .u32 v4) none fun x2=>(oo (toI .i64 v2) none fun x3=>(bb (nt (ieq x3 (0:Int))) (some (.tuple ⟨[(Sl.v 1 (Sl.mk 0 2 [])),.int .i64 x3]⟩)) (oo (pu 50 [.int .u32 x2]) none fun v5=>(oo (toI .i64 v5) none fun x4=>(bb (ieq x4 (6:Int)) (some (.tuple ⟨[(Sl.v 1 (Sl.mk 0 2 [])),(.int .i64 (3:Int))]⟩)) (oo (pu 76 [(.agg ⟨[.int .i64 x1,.int .u32 x2]⟩)]) none fun v6=>(oo (toI .i64 v6) none fun x5=>(bb (ilt (0:Int) x5) (some (.tuple ⟨[(Sl.v 1 (Sl.mk 0 2 [])),(.int .i64 (14:Int))]⟩)) (l44_1 pu n n 0 0 x1 (0:Int) x1 x2 ([]:LV)))))))))))) fun _ _=>none)))) fun _ _=>none)))))
def m44 (pu:PureF) (n:Nat) (args:LV):OV:=
 (ll args none fun a0 args=>(ll args (oo (vAgg a0) none fun l0=>(ll l0 none fun v0 l0=>(ll l0 none fun v1 l0=>(ll l0 (oo (toI .i64 v0) none fun x0=>(oo (toSl 1 v1) none fun s0=>(m44_ pu n x0 s0))) fun _ _=>none)))) fun _ _=>none))
theorem w44_0 (pu:PureF) (n n0 c0:Nat) (q1:LV) {v:Value} (hm:m44_0 pu n n0 c0 q1 = some v):Run tt (callP tabs isP pu (inl pu)) 0 c44_41 (fr 54 [(6,sc 0 0 1 n0 c0)]) (hp 1 [oC q1]) (Fin tt 0 [.tmp 2,.tmp 3] v):=by
 unfold m44_0 at hm
 refine .then (.rK ?_)
 replace hm:=bb_inv hm;obtain ⟨h0,hm⟩:=hm
 refine .ghs (fr 54 [(2,sc 0 0 1 n0 c0),(3,(zI (0:Int)))]) (hp 1 [oC q1]) (.k [0] [] [.tmp 2 false] [2,3] ⟨trF h0,trivial⟩) ?_
 replace hm:=bb_inv hm;obtain ⟨h1,hm⟩:=hm
 refine .ghs (Fr.puts (fr 54 [(2,sc 0 0 1 n0 c0),(3,(zI (0:Int)))]) [(2,(Sl.v 1 (Sl.mk n0 0 (takeL (n0 * 1) (dropL 0 q1)))))]) (hp 1 [.dead]) (.freezeC 0 2 1 (an (Nat.ble (0 + n0 * 1) (len q1)) (allL closed1 (takeL (n0 * 1) (dropL 0 q1)))) (F1:=(Fr.puts (fr 54 [(2,sc 0 0 1 n0 c0),(3,(zI (0:Int)))]) [(2,(Sl.v 1 (Sl.mk n0 0 (takeL (n0 * 1) (dropL 0 q1)))))])) (H1:=(hp 1 [.dead])) (by kernel_rfl) (by kernel_rfl) h1 (GhS.id _ _)) ?_
 refine .ret ?_
 exact fin_ret (.tuple ⟨[(Sl.v 1 (Sl.mk n0 0 (takeL (n0 * 1) (dropL 0 q1)))),(zI (0:Int))]⟩) (by kernel_rfl) (by kernel_rfl) hm
theorem r44 {call:CallF} (pu:PureF) (n:Nat) (hcall:call = callP tabs isP pu (inl pu)) {args:LV} {v:Value} (hm:m44 pu n args = some v) (_:∀ x ∈ args,closed2 x = true):args.length≤54∧Run tt call 0 c44_46 (Fr.made 54 args) (pureHeap tabs) (Fin tt 0 [.tmp 2,.tmp 3] v):=by
 subst hcall
 unfold m44 at hm
 replace hm:=ll_uncons hm;obtain ⟨a0,args_0,rfl,hm⟩:=hm
 replace hm:=ll_end hm;obtain ⟨rfl,hm⟩:=hm
 replace hm:=inv_vAgg hm;obtain ⟨l0,rfl,hm⟩:=hm
 replace hm:=ll_uncons hm;obtain ⟨v0,l2846_0,rfl,hm⟩:=hm
 replace hm:=ll_uncons hm;obtain ⟨v1,l2846_1,rfl,hm⟩:=hm
 replace hm:=ll_end hm;obtain ⟨rfl,hm⟩:=hm
 replace hm:=inv_toI hm;obtain ⟨x0,rfl,hm⟩:=hm
 replace hm:=inv_toSl hm;obtain ⟨s0,rfl,hm⟩:=hm
 unfold m44_ at hm
 refine ⟨by simp,?_⟩
 refine .same (F':=(fr 54 [(0,(.agg ⟨[zI x0,Sl.v 1 s0]⟩))])) (H':=(hp 0 [])) (by kernel_rfl) (by kernel_rfl) ?_
 refine .then (.rK ?_)
 refine .ghs (fr 54 [(1,(pt 0 0))]) (hp 1 [(oC [zI x0,Sl.v 1 s0])]) (.k0 [] [.tmp 1 false] [1]) ?_
 refine .then ?_
 replace hm:=oo_inv hm;obtain ⟨v2,h0,hm⟩:=hm
 replace hm:=inv_vTup hm;obtain ⟨l1,rfl,hm⟩:=hm
 replace hm:=ll_uncons hm;obtain ⟨v3,l2872_0,rfl,hm⟩:=hm
 replace hm:=ll_uncons hm;obtain ⟨v4,l2872_1,rfl,hm⟩:=hm
 replace hm:=ll_end hm;obtain ⟨rfl,hm⟩:=hm
 replace hm:=inv_vAgg hm;obtain ⟨l2,rfl,hm⟩:=hm
 replace hm:=ll_uncons hm;obtain ⟨v5,l2876_0,rfl,hm⟩:=hm
 replace hm:=ll_uncons hm;obtain ⟨v6,l2876_1,rfl,hm⟩:=hm
 replace hm:=ll_end hm;obtain ⟨rfl,hm⟩:=hm
 replace hm:=inv_toI hm;obtain ⟨x1,rfl,hm⟩:=hm
 replace hm:=inv_toI hm;obtain ⟨x2,rfl,hm⟩:=hm
 replace hm:=inv_toI hm;obtain ⟨x3,rfl,hm⟩:=hm
 refine .reg (eC 1 ((oo (pu 61 [(.agg ⟨[zI x0,Sl.v 1 s0]⟩)]) none fun v=>some (v,(hp 1 [(oC [zI x0,Sl.v 1 s0])])))) (call_eq h0) (eE)) ?_
 refine .ghs (fr 54 [(4,(pt 0 0)),(5,zI x3)]) (hp 1 [(oC [zI x1,.int .u32 x2])]) (.k0 [] [.tmp 4 false] [4,5]) ?_
 refine .then ?_
 refine .block ?_
 refine .then (.rK ?_)
 refine .ghs (fr 54 [(4,(pt 0 0)),(5,zI x3),(14,(zB (nt (ieq x3 (0:Int)))))]) (hp 1 [(oC [zI x1,.int .u32 x2])]) (.k0 [] [.tmp 4 false] [4,5,14]) ?_
 replace hm:=bb_cases hm;rcases hm with ⟨h1,hm⟩ | ⟨h1,hm⟩
 ·refine .ifT (nt (ieq x3 (0 : Int))) (by kernel_rfl) h1 ?_
  refine .then (.rK ?_)
  refine .ghs (fr 54 [(2,(.slice none 0 0)),(3,zI x3)]) (hp 0 []) (.k0 [] [] [2,3]) ?_
  refine .ghs (Fr.puts (fr 54 [(2,(.slice none 0 0)),(3,zI x3)]) [(2,(Sl.v 1 (Sl.mk 0 2 [])))]) (hp 0 []) (.freeze 0 2 1 (by kernel_rfl) (by kernel_rfl) (GhS.id _ _)) ?_
  refine .ret ?_
  exact fin_ret (.tuple ⟨[(Sl.v 1 (Sl.mk 0 2 [])),zI x3]⟩) (by kernel_rfl) (by kernel_rfl) hm
 ·refine .ifF (nt (ieq x3 (0 : Int))) (by kernel_rfl) h1 ?_
  refine .then ?_
  replace hm:=oo_inv hm;obtain ⟨v7,h2,hm⟩:=hm
  replace hm:=inv_toI hm;obtain ⟨x4,rfl,hm⟩:=hm
  refine .reg (eC 2 ((oo (pu 50 [.int .u32 x2]) none fun v=>some (v,(hp 1 [(oC [zI x1,.int .u32 x2])])))) (call_eq h2) (eE)) ?_
  refine .ghs (fr 54 [(4,(pt 0 0)),(18,(zB (ieq x4 (6:Int))))]) (hp 1 [(oC [zI x1,.int .u32 x2])]) (.k0 [] [.tmp 4 false] [4,18]) ?_
  replace hm:=bb_cases hm;rcases hm with ⟨h3,hm⟩ | ⟨h3,hm⟩
  ·refine .ifT (ieq x4 (6 : Int)) (by kernel_rfl) h3 ?_
   refine .then (.rK ?_)
   refine .ghs (fr 54 [(2,(.slice none 0 0)),(3,(zI (3:Int)))]) (hp 0 []) (.k0 [] [] [2,3]) ?_
   refine .ghs (Fr.puts (fr 54 [(2,(.slice none 0 0)),(3,(zI (3:Int)))]) [(2,(Sl.v 1 (Sl.mk 0 2 [])))]) (hp 0 []) (.freeze 0 2 1 (by kernel_rfl) (by kernel_rfl) (GhS.id _ _)) ?_
   refine .ret ?_
   exact fin_ret (.tuple ⟨[(Sl.v 1 (Sl.mk 0 2 [])),(zI (3:Int))]⟩) (by kernel_rfl) (by kernel_rfl) hm
  ·refine .ifF (ieq x4 (6 : Int)) (by kernel_rfl) h3 ?_
   refine .then ?_
   replace hm:=oo_inv hm;obtain ⟨v8,h4,hm⟩:=hm
   replace hm:=inv_toI hm;obtain ⟨x5,rfl,hm⟩:=hm
   refine .reg (eC 1 ((oo (pu 76 [(.agg ⟨[zI x1,.int .u32 x2]⟩)]) none fun v=>some (v,(hp 1 [(oC [zI x1,.int .u32 x2])])))) (call_eq h4) (eE)) ?_
   refine .ghs (fr 54 [(4,(pt 0 0)),(23,(zB (ilt (0:Int) x5)))]) (hp 1 [(oC [zI x1,.int .u32 x2])]) (.k0 [] [.tmp 4 false] [4,23]) ?_
   replace hm:=bb_cases hm;rcases hm with ⟨h5,hm⟩ | ⟨h5,hm⟩
   ·refine .ifT (ilt (0 : Int) x5) (by kernel_rfl) h5 ?_
    refine .then (.rK ?_)
    refine .ghs (fr 54 [(2,(.slice none 0 0)),(3,(zI (14:Int)))]) (hp 0 []) (.k0 [] [] [2,3]) ?_
    refine .ghs (Fr.puts (fr 54 [(2,(.slice none 0 0)),(3,(zI (14:Int)))]) [(2,(Sl.v 1 (Sl.mk 0 2 [])))]) (hp 0 []) (.freeze 0 2 1 (by kernel_rfl) (by kernel_rfl) (GhS.id _ _)) ?_
    refine .ret ?_
    exact fin_ret (.tuple ⟨[(Sl.v 1 (Sl.mk 0 2 [])),(zI (14:Int))]⟩) (by kernel_rfl) (by kernel_rfl) hm
   ·refine .ifF (ilt (0 : Int) x5) (by kernel_rfl) h5 ?_
    refine .skip ?_
    refine .ghs (fr 54 [(4,(pt 0 0))]) (hp 1 [(oC [zI x1,.int .u32 x2])]) (.k0 [] [.tmp 4 false] [4]) ?_
    refine .then (.rK ?_)
    refine .ghs (fr 54 [(4,(pt 0 0)),(6,(.slice none 0 0))]) (hp 1 [(oC [zI x1,.int .u32 x2])]) (.k0 [] [.tmp 4 false] [4,6]) ?_
    refine .join (v:=v) (fun y:Nat×Nat×LV=>((fr 54 [(6,(sc 0 0 1 y.1 y.2.1))]),(hp 1 [(oC y.2.2)]))) (fun y=>m44_0 pu n y.1 y.2.1 y.2.2) ?_ ?_
    ·rintro ⟨n0, c0, q1⟩ hm
     exact w44_0 pu n n0 c0 q1 hm
    ·refine .then (.rK ?_)
     refine .ghs (fr 54 [(4,(pt 0 0)),(6,(.slice none 0 0)),(28,zI x1),(29,(zI (0:Int)))]) (hp 1 [(oC [zI x1,.int .u32 x2])]) (.k0 [] [.tmp 4 false] [4,6,28,29]) ?_
     refine .block ?_
     refine .loopM (v:=v) (fun y:Nat×Nat×Int×Int×Int×Int×LV=>((fr 54 [(4,(pt 0 0)),(6,(sc 1 0 1 y.1 y.2.1)),(28,(zI y.2.2.1)),(29,(zI y.2.2.2.1))]),(hp 2 [(oC [(zI y.2.2.2.2.1),(.int .u32 y.2.2.2.2.2.1)]),(oC y.2.2.2.2.2.2)]))) (fun w y=>l44_1 pu n w y.1 y.2.1 y.2.2.1 y.2.2.2.1 y.2.2.2.2.1 y.2.2.2.2.2.1 y.2.2.2.2.2.2) n ⟨(0,0,x1,(0:Int),x1,x2,([]:LV)),hm,(.thaw 6 1 (by kernel_rfl) (.k0 [] [.tmp 4 false,.tmp 6 false] [4,6,28,29]))⟩ (fun _=>rfl) ?_
     rintro w0 ⟨n1,c1,z0,z1,z2,z3,q2⟩ hm
     replace hm:b44_1 pu n (l44_1 pu n w0) n1 c1 z0 z1 z2 z3 q2 = some v:=hm
     unfold b44_1 at hm
     refine .then (.rK ?_)
     replace hm:=bb_inv hm;obtain ⟨h6,hm⟩:=hm
     refine .ghs (fr 54 [(4,(pt 0 0)),(6,sc 1 0 1 n1 c1),(28,zI z0),(29,zI z1),(30,(zB (ilt z1 z0)))]) (hp 2 [(oC [zI z2,.int .u32 z3]),oC q2]) (.k [1] [] [.tmp 4 false,.tmp 6 false] [4,6,28,29,30] ⟨trF h6,trivial⟩) ?_
     refine .then ?_
     replace hm:=bb_cases hm;rcases hm with ⟨h7,hm⟩ | ⟨h7,hm⟩
     ·refine .ifT (ilt z1 z0) (by kernel_rfl) h7 ?_
      refine .skip ?_
      refine .ghs (fr 54 [(4,(pt 0 0)),(6,sc 1 0 1 n1 c1),(28,zI z0),(29,zI z1)]) (hp 2 [(oC [zI z2,.int .u32 z3]),oC q2]) (.k [1] [] [.tmp 4 false,.tmp 6 false] [4,6,28,29] ⟨trF h6,trivial⟩) ?_
      refine .join (v:=v) (fun y:Nat×Nat×Int×Int×Int×Int×LV=>((fr 54 [(4,(pt 0 0)),(6,(sc 1 0 1 y.1 y.2.1)),(28,(zI y.2.2.1)),(29,(zI y.2.2.2.1))]),(hp 2 [(oC [(zI y.2.2.2.2.1),(.int .u32 y.2.2.2.2.2.1)]),(oC y.2.2.2.2.2.2)]))) (fun y=>m44_2 pu n (l44_1 pu n w0) y.1 y.2.1 y.2.2.1 y.2.2.2.1 y.2.2.2.2.1 y.2.2.2.2.2.1 y.2.2.2.2.2.2) ?_ ?_
      ·rintro ⟨n2, c2, z4, z5, z6, z7, q3⟩ hm
       unfold m44_2 at hm
       refine .rK ?_
       replace hm:=bb_inv hm;obtain ⟨h8,hm⟩:=hm
       exact ⟨(n2,c2,z4,(wrapF .i64 (Int.add z5 (1:Int))),z6,z7,q3),hm,(.k [1] [] [.tmp 4 false,.tmp 6 false] [4,6,28,29] ⟨trF h8,trivial⟩)⟩
      ·refine .block ?_
       refine .then (.rK ?_)
       refine .ghs (fr 54 [(4,(pt 0 0)),(6,sc 1 0 1 n1 c1),(7,zI z1),(28,zI z0),(29,zI z1)]) (hp 2 [(oC [zI z2,.int .u32 z3]),oC q2]) (.k [1] [] [.tmp 4 false,.tmp 6 false] [4,6,7,28,29] ⟨trF h6,trivial⟩) ?_
       refine .then (.rK ?_)
       refine .ghs (fr 54 [(4,(pt 0 0)),(6,sc 1 0 1 n1 c1),(7,zI z1),(8,(pt 2 0)),(28,zI z0),(29,zI z1)]) (hp 3 [(oC [zI z2,.int .u32 z3]),oC q2,(oC [zI z2,.int .u32 z3])]) (.k [1] [] [.tmp 4 false,.tmp 6 false,.tmp 8 false] [4,6,7,8,28,29] ⟨trF h6,trivial⟩) ?_
       refine .then ?_
       replace hm:=oo_inv hm;obtain ⟨k1,h9,hm⟩:=hm
       obtain rfl:=toN_some h9
       refine .rK ?_
       refine .ghs (fr 54 [(4,(pt 0 0)),(6,sc 1 0 1 n1 c1),(7,(zI (Int.ofNat k1))),(8,(pt 2 0)),(28,zI z0),(29,(zI (Int.ofNat k1)))]) (hp 3 [(oC [zI z2,.int .u32 z3]),oC q2,(oC [zI z2,(.int .u32 (aor .u32 z3 (shlI .u32 (1:Int) k1)))])]) (.k [1] [] [.tmp 4 false,.tmp 6 false,.tmp 8 false] [4,6,7,8,28,29] ⟨trF h6,trivial⟩) ?_
       refine .join (v:=v) (fun y:Nat×Nat×Int×Int×Int×Bool×Int×Int×LV=>((fr 54 [(4,(pt 0 0)),(6,(sc 1 0 1 y.1 y.2.1)),(7,(zI y.2.2.1)),(28,(zI y.2.2.2.1)),(29,(zI y.2.2.2.2.1)),(47,(zB y.2.2.2.2.2.1))]),(hp 2 [(oC [(zI y.2.2.2.2.2.2.1),(.int .u32 y.2.2.2.2.2.2.2.1)]),(oC y.2.2.2.2.2.2.2.2)]))) (fun y=>m44_3 pu n (l44_1 pu n w0) y.1 y.2.1 y.2.2.1 y.2.2.2.1 y.2.2.2.2.1 y.2.2.2.2.2.1 y.2.2.2.2.2.2.1 y.2.2.2.2.2.2.2.1 y.2.2.2.2.2.2.2.2) ?_ ?_
       ·rintro ⟨n3, c3, z8, z9, z10, b0, z11, z12, q4⟩ hm
        unfold m44_3 at hm
        replace hm:=bb_cases hm;rcases hm with ⟨h10,hm⟩ | ⟨h10,hm⟩
        ·refine .ifT b0 (by kernel_rfl) h10 ?_
         replace hm:=bb_inv hm;obtain ⟨h11,hm⟩:=hm
         refine .reg (eC 3 (growD 1 8 n3 c3 1 1 q4 [zI z8] [] (hp 3 [(oC [zI z11,.int .u32 z12]),oC q4,(oC [zI z8])])) (growD_eq h11) (eE)) ?_
         replace hm:=bb_inv hm;obtain ⟨h12,hm⟩:=hm
         exact ⟨((n3 + 1),(d2 (n3 + 1)),z9,z10,z11,z12,(appL (dropL 0 q4) [zI z8])),hm,(.k [3] [] [.tmp 4 false,.tmp 6 false] [4,6,28,29] ⟨trF h12,trivial⟩)⟩
        ·refine .ifF b0 (by kernel_rfl) h10 ?_
         refine .skip ?_
         replace hm:=bb_inv hm;obtain ⟨h13,hm⟩:=hm
         exact ⟨(n3,c3,z9,z10,z11,z12,q4),hm,(.k [1] [] [.tmp 4 false,.tmp 6 false] [4,6,28,29] ⟨trF h13,trivial⟩)⟩
       ·replace hm := oo_inv hm; obtain ⟨v9, h14, hm⟩ := hm
        replace hm:=inv_vBool hm;obtain ⟨b1,rfl,hm⟩:=hm
        replace hm:=bb_cases hm;rcases hm with ⟨h15,hm⟩ | ⟨h15,hm⟩
        ·replace hm := oo_inv hm; obtain ⟨v10, h16, hm⟩ := hm
         replace hm:=inv_toI hm;obtain ⟨x6,rfl,hm⟩:=hm
         refine .reg (eC 2 ((oo (pu 91 [(.agg ⟨[zI z2,.int .u32 z3]⟩),(zI (Int.ofNat k1))]) none fun v=>some (v,(hp 3 [(oC [zI z2,.int .u32 z3]),oC q2,(oC [zI z2,(.int .u32 (aor .u32 z3 (shlI .u32 (1:Int) k1)))])])))) (call_eq h14) (eD (some ((zB (nt b1)),(hp 3 [(oC [zI z2,.int .u32 z3]),oC q2,(oC [zI z2,(.int .u32 (aor .u32 z3 (shlI .u32 (1:Int) k1)))])]))) (show _ = some ((zB true),_) from (by rw [h15])) (eC 2 ((oo (pu 76 [(.agg ⟨[zI z2,(.int .u32 (aor .u32 z3 (shlI .u32 (1:Int) k1)))]⟩)]) none fun v=>some (v,(hp 3 [(oC [zI z2,.int .u32 z3]),oC q2,(oC [zI z2,(.int .u32 (aor .u32 z3 (shlI .u32 (1:Int) k1)))])])))) (call_eq h16) (eE)))) ?_
         exact ⟨(n1,c1,(Int.ofNat k1),z0,(Int.ofNat k1),(ieq x6 (0:Int)),z2,z3,q2),hm,(.k [1] [] [.tmp 4 false,.tmp 6 false] [4,6,7,28,29,47] ⟨trF h6,trivial⟩)⟩
        ·refine .reg (eC 2 ((oo (pu 91 [(.agg ⟨[zI z2, .int .u32 z3]⟩), (zI (Int.ofNat k1))]) none fun v => some (v, (hp 3 [(oC [zI z2, .int .u32 z3]), oC q2, (oC [zI z2, (.int .u32 (aor .u32 z3 (shlI .u32 (1 : Int) k1)))])])))) (call_eq h14) (eD (some ((zB (nt b1)), (hp 3 [(oC [zI z2, .int .u32 z3]), oC q2, (oC [zI z2, (.int .u32 (aor .u32 z3 (shlI .u32 (1 : Int) k1)))])]))) (show _ = some ((zB false), _) from (by rw [h15])) (eE))) ?_
         exact ⟨(n1,c1,(Int.ofNat k1),z0,(Int.ofNat k1),false,z2,z3,q2),hm,(.k [1] [] [.tmp 4 false,.tmp 6 false] [4,6,7,28,29,47] ⟨trF h6,trivial⟩)⟩
     ·refine .ifF (ilt z1 z0) (by kernel_rfl) h7 ?_
      refine .exit ?_
      exact ⟨(n1,c1,q2),hm,(.k [1] [] [.tmp 6 false] [6] ⟨trF h6,trivial⟩)⟩
def m45_2 (pu:PureF) (n n0 c0:Nat) (q1:LV):OV:=
 (bb (allL closed1 q1) (bb (an (Nat.ble (0 + n0 * 1) (len q1)) (allL closed1 (takeL (n0 * 1) (dropL 0 q1)))) (some (.tuple ⟨[(Sl.v 1 (Sl.mk n0 0 (takeL (n0 * 1) (dropL 0 q1)))),(.int .i64 (0:Int))]⟩)) none) none)
def m45_4 (pu:PureF) (n:Nat) (ih0:Nat→Nat→Int→Int→Sl→LV→OV) (n0 c0:Nat) (z0 z1:Int) (s0:Sl) (q1:LV):OV:=
 (bb (allL closed1 q1) (ih0 n0 c0 (wrapF .i64 (Int.add z0 (1:Int))) z1 s0 q1) none)
def m45_5 (pu:PureF) (n:Nat) (ih0:Nat→Nat→Int→Int→Sl→LV→OV) (n0 c0:Nat) (z0:Int) (b0:Bool) (z1:Int) (s0:Sl) (q1:LV):OV:=
 (bb b0 (bb (growC 1 8 n0 c0 1 q1) (bb (allL closed1 (appL (dropL 0 q1) [.int .i64 z0])) (m45_4 pu n ih0 (n0 + 1) (2 * (n0 + 1) + bb false 1 0) z0 z1 s0 (appL (dropL 0 q1) [.int .i64 z0])) none) none) (bb (allL closed1 q1) (m45_4 pu n ih0 n0 c0 z0 z1 s0 q1) none))
def b45_3 (pu:PureF) (n:Nat) (ih0:Nat→Nat→Int→Int→Sl→LV→OV) (n0 c0:Nat) (z0 z1:Int) (s0:Sl) (q1:LV):OV:=
 (bb (allL closed1 q1) (bb (ilt z0 z1) (oo (pu 63 [(.agg ⟨[.int .i64 z1,Sl.v 1 s0]⟩),.int .i64 z0]) none fun v0=>(oo (vBool v0) none fun b0=>(bb (nt b0) (bb (Nat.beq (Sl.n s0) 0) (oo (pu 77 [(.agg ⟨[.int .i64 z1,(Sl.v 1 (Sl.mk 1 0 (takeL (1 * 1) (dropL 0 ([.int .i64 z0]:LV)))))]⟩)]) none fun v1=>(oo (toI .i64 v1) none fun x0=>(m45_5 pu n ih0 n0 c0 z0 (ieq x0 (0:Int)) z1 s0 q1))) (bb (roomy (0 + (Sl.n s0)) 8) (bb (growC 1 8 (0 + (Sl.n s0)) (2 * (0 + (Sl.n s0)) + bb false 1 0) 1 (takeL ((Sl.n s0) * 1) (Sl.cs s0))) (bb (an (Nat.ble (0 + ((0 + (Sl.n s0)) + 1) * 1) (len (appL (dropL 0 (takeL ((Sl.n s0) * 1) (Sl.cs s0))) [.int .i64 z0]))) (allL closed1 (takeL (((0 + (Sl.n s0)) + 1) * 1) (dropL 0 (appL (dropL 0 (takeL ((Sl.n s0) * 1) (Sl.cs s0))) [.int .i64 z0]))))) (oo (pu 77 [(.agg ⟨[.int .i64 z1,(Sl.v 1 (Sl.mk ((0 + (Sl.n s0)) + 1) 0 (takeL (((0 + (Sl.n s0)) + 1) * 1) (dropL 0 (appL (dropL 0 (takeL ((Sl.n s0) * 1) (Sl.cs s0))) [.int .i64 z0])))))]⟩)]) none fun v2=>(oo (toI .i64 v2) none fun x1=>(m45_5 pu n ih0 n0 c0 z0 (ieq x1 (0:Int)) z1 s0 q1))) none) none) none)) (m45_5 pu n ih0 n0 c0 z0 false z1 s0 q1)))) (m45_2 pu n n0 c0 q1)) none)
def l45_3 (pu:PureF) (n w:Nat):Nat→Nat→Int→Int→Sl→LV→OV:=
 Nat.rec (motive:=fun _=>Nat→Nat→Int→Int→Sl→LV→OV) (fun _ _ _ _ _ _=>none) (fun _ ih0=>b45_3 pu n ih0) w
def m45_1 (pu:PureF) (n:Nat) (z0 z1:Int) (s0:Sl):OV:=
 (bb (nt (ieq z0 (0:Int))) (some (.tuple ⟨[(Sl.v 1 (Sl.mk 0 2 [])),.int .i64 z0]⟩)) (l45_3 pu n n 0 0 (0:Int) z1 s0 ([]:LV)))
def m45_6 (pu:PureF) (n:Nat) (z0:Int) (b0:Bool) (z1:Int) (s0:Sl):OV:=
 (bb b0 (m45_1 pu n (14:Int) z1 s0) (m45_1 pu n z0 z1 s0))
def m45_0 (pu:PureF) (n:Nat) (z0 z1:Int) (s0:Sl):OV:=
 (bb (ieq z0 (0:Int)) (oo (pu 77 [(.agg ⟨[.int .i64 z1,Sl.v 1 s0]⟩)]) none fun v0=>(oo (toI .i64 v0) none fun x0=>(m45_6 pu n z0 (ilt (0:Int) x0) z1 s0))) (m45_6 pu n z0 false z1 s0))
def m45_7 (pu:PureF) (n:Nat) (z0:Int) (b0:Bool) (z1:Int) (s0:Sl):OV:=
 (bb b0 (m45_0 pu n (3:Int) z1 s0) (m45_0 pu n z0 z1 s0))
def m45_ (pu:PureF) (n:Nat) (x0:Int) (s0:Sl):OV:=
 (oo (pu 26 [(.agg ⟨[.int .i64 x0,Sl.v 1 s0]⟩)]) none fun v0=>(oo (toI .i64 v0) none fun x1=>(bb (ieq x1 (0:Int)) (m45_7 pu n x1 (ieq (Int.ofNat (Sl.n s0)) (6:Int)) x0 s0) (m45_7 pu n x1 false x0 s0))))
def m45 (pu:PureF) (n:Nat) (args:LV):OV:=
 (ll args none fun a0 args=>(ll args (oo (vAgg a0) none fun l0=>(ll l0 none fun v0 l0=>(ll l0 none fun v1 l0=>(ll l0 (oo (toI .i64 v0) none fun x0=>(oo (toSl 1 v1) none fun s0=>(m45_ pu n x0 s0))) fun _ _=>none)))) fun _ _=>none))
theorem w45_2 (pu:PureF) (n n0 c0:Nat) (q1:LV) {v:Value} (hm:m45_2 pu n n0 c0 q1 = some v):Run tt (callP tabs isP pu (inl pu)) 0 c45_32 (fr 56 [(5,sc 0 0 1 n0 c0)]) (hp 1 [oC q1]) (Fin tt 0 [.tmp 2,.tmp 3] v):=by
 unfold m45_2 at hm
 refine .then (.rK ?_)
 replace hm:=bb_inv hm;obtain ⟨h0,hm⟩:=hm
 refine .ghs (fr 56 [(2,sc 0 0 1 n0 c0),(3,(zI (0:Int)))]) (hp 1 [oC q1]) (.k [0] [] [.tmp 2 false] [2,3] ⟨trF h0,trivial⟩) ?_
 replace hm:=bb_inv hm;obtain ⟨h1,hm⟩:=hm
 refine .ghs (Fr.puts (fr 56 [(2,sc 0 0 1 n0 c0),(3,(zI (0:Int)))]) [(2,(Sl.v 1 (Sl.mk n0 0 (takeL (n0 * 1) (dropL 0 q1)))))]) (hp 1 [.dead]) (.freezeC 0 2 1 (an (Nat.ble (0 + n0 * 1) (len q1)) (allL closed1 (takeL (n0 * 1) (dropL 0 q1)))) (F1:=(Fr.puts (fr 56 [(2,sc 0 0 1 n0 c0),(3,(zI (0:Int)))]) [(2,(Sl.v 1 (Sl.mk n0 0 (takeL (n0 * 1) (dropL 0 q1)))))])) (H1:=(hp 1 [.dead])) (by kernel_rfl) (by kernel_rfl) h1 (GhS.id _ _)) ?_
 refine .ret ?_
 exact fin_ret (.tuple ⟨[(Sl.v 1 (Sl.mk n0 0 (takeL (n0 * 1) (dropL 0 q1)))),(zI (0:Int))]⟩) (by kernel_rfl) (by kernel_rfl) hm
theorem w45_1 (pu:PureF) (n:Nat) (z0 z1:Int) (s0:Sl) {v:Value} (hm:m45_1 pu n z0 z1 s0 = some v):Run tt (callP tabs isP pu (inl pu)) 0 c45_35 (fr 56 [(1,(pt 0 0)),(4,zI z0)]) (hp 1 [(oC [zI z1,Sl.v 1 s0])]) (Fin tt 0 [.tmp 2,.tmp 3] v):=by
 unfold m45_1 at hm
 refine .then ?_
 refine .then (.rK ?_)
 refine .ghs (fr 56 [(1,(pt 0 0)),(4,zI z0),(25,(zB (nt (ieq z0 (0:Int)))))]) (hp 1 [(oC [zI z1,Sl.v 1 s0])]) (.k0 [] [.tmp 1 false] [1,4,25]) ?_
 replace hm:=bb_cases hm;rcases hm with ⟨h0,hm⟩ | ⟨h0,hm⟩
 ·refine .ifT (nt (ieq z0 (0 : Int))) (by kernel_rfl) h0 ?_
  refine .then (.rK ?_)
  refine .ghs (fr 56 [(2,(.slice none 0 0)),(3,zI z0)]) (hp 0 []) (.k0 [] [] [2,3]) ?_
  refine .ghs (Fr.puts (fr 56 [(2,(.slice none 0 0)),(3,zI z0)]) [(2,(Sl.v 1 (Sl.mk 0 2 [])))]) (hp 0 []) (.freeze 0 2 1 (by kernel_rfl) (by kernel_rfl) (GhS.id _ _)) ?_
  refine .ret ?_
  exact fin_ret (.tuple ⟨[(Sl.v 1 (Sl.mk 0 2 [])),zI z0]⟩) (by kernel_rfl) (by kernel_rfl) hm
 ·refine .ifF (nt (ieq z0 (0 : Int))) (by kernel_rfl) h0 ?_
  refine .skip ?_
  refine .ghs (fr 56 [(1,(pt 0 0))]) (hp 1 [(oC [zI z1,Sl.v 1 s0])]) (.k0 [] [.tmp 1 false] [1]) ?_
  refine .then (.rK ?_)
  refine .ghs (fr 56 [(1,(pt 0 0)),(5,(.slice none 0 0))]) (hp 1 [(oC [zI z1,Sl.v 1 s0])]) (.k0 [] [.tmp 1 false] [1,5]) ?_
  refine .join (v:=v) (fun y:Nat×Nat×LV=>((fr 56 [(5,(sc 0 0 1 y.1 y.2.1))]),(hp 1 [(oC y.2.2)]))) (fun y=>m45_2 pu n y.1 y.2.1 y.2.2) ?_ ?_
  ·rintro ⟨n0, c0, q1⟩ hm
   exact w45_2 pu n n0 c0 q1 hm
  ·refine .then (.rK ?_)
   refine .ghs (fr 56 [(1,(pt 0 0)),(5,(.slice none 0 0)),(6,(zI (0:Int)))]) (hp 1 [(oC [zI z1,Sl.v 1 s0])]) (.k0 [] [.tmp 1 false] [1,5,6]) ?_
   refine .block ?_
   refine .loopM (v:=v) (fun y:Nat×Nat×Int×Int×Sl×LV=>((fr 56 [(1,(pt 0 0)),(5,(sc 1 0 1 y.1 y.2.1)),(6,(zI y.2.2.1))]),(hp 2 [(oC [(zI y.2.2.2.1),(Sl.v 1 y.2.2.2.2.1)]),(oC y.2.2.2.2.2)]))) (fun w y=>l45_3 pu n w y.1 y.2.1 y.2.2.1 y.2.2.2.1 y.2.2.2.2.1 y.2.2.2.2.2) n ⟨(0,0,(0:Int),z1,s0,([]:LV)),hm,(.thaw 5 1 (by kernel_rfl) (.k0 [] [.tmp 1 false,.tmp 5 false] [1,5,6]))⟩ (fun _=>rfl) ?_
   rintro w0 ⟨n1,c1,z2,z3,s1,q2⟩ hm
   replace hm:b45_3 pu n (l45_3 pu n w0) n1 c1 z2 z3 s1 q2 = some v:=hm
   unfold b45_3 at hm
   refine .then ?_
   refine .then (.rK ?_)
   replace hm:=bb_inv hm;obtain ⟨h1,hm⟩:=hm
   refine .ghs (fr 56 [(1,(pt 0 0)),(5,sc 1 0 1 n1 c1),(6,zI z2),(30,(zB (ilt z2 z3)))]) (hp 2 [(oC [zI z3,Sl.v 1 s1]),oC q2]) (.k [1] [] [.tmp 1 false,.tmp 5 false] [1,5,6,30] ⟨trF h1,trivial⟩) ?_
   replace hm:=bb_cases hm;rcases hm with ⟨h2,hm⟩ | ⟨h2,hm⟩
   ·refine .ifT (ilt z2 z3) (by kernel_rfl) h2 ?_
    refine .skip ?_
    refine .ghs (fr 56 [(1,(pt 0 0)),(5,sc 1 0 1 n1 c1),(6,zI z2)]) (hp 2 [(oC [zI z3,Sl.v 1 s1]),oC q2]) (.k [1] [] [.tmp 1 false,.tmp 5 false] [1,5,6] ⟨trF h1,trivial⟩) ?_
    refine .join (v:=v) (fun y:Nat×Nat×Int×Int×Sl×LV=>((fr 56 [(1,(pt 0 0)),(5,(sc 1 0 1 y.1 y.2.1)),(6,(zI y.2.2.1))]),(hp 2 [(oC [(zI y.2.2.2.1),(Sl.v 1 y.2.2.2.2.1)]),(oC y.2.2.2.2.2)]))) (fun y=>m45_4 pu n (l45_3 pu n w0) y.1 y.2.1 y.2.2.1 y.2.2.2.1 y.2.2.2.2.1 y.2.2.2.2.2) ?_ ?_
    ·rintro ⟨n2, c2, z4, z5, s2, q3⟩ hm
     unfold m45_4 at hm
     refine .rK ?_
     replace hm:=bb_inv hm;obtain ⟨h3,hm⟩:=hm
     exact ⟨(n2,c2,(wrapF .i64 (Int.add z4 (1:Int))),z5,s2,q3),hm,(.k [1] [] [.tmp 1 false,.tmp 5 false] [1,5,6] ⟨trF h3,trivial⟩)⟩
    ·refine .block ?_
     refine .join (v:=v) (fun y:Nat×Nat×Int×Bool×Int×Sl×LV=>((fr 56 [(1,(pt 0 0)),(5,(sc 1 0 1 y.1 y.2.1)),(6,(zI y.2.2.1)),(50,(zB y.2.2.2.1))]),(hp 2 [(oC [(zI y.2.2.2.2.1),(Sl.v 1 y.2.2.2.2.2.1)]),(oC y.2.2.2.2.2.2)]))) (fun y=>m45_5 pu n (l45_3 pu n w0) y.1 y.2.1 y.2.2.1 y.2.2.2.1 y.2.2.2.2.1 y.2.2.2.2.2.1 y.2.2.2.2.2.2) ?_ ?_
     ·rintro ⟨n3, c3, z6, b0, z7, s3, q4⟩ hm
      unfold m45_5 at hm
      replace hm:=bb_cases hm;rcases hm with ⟨h4,hm⟩ | ⟨h4,hm⟩
      ·refine .ifT b0 (by kernel_rfl) h4 ?_
       replace hm:=bb_inv hm;obtain ⟨h5,hm⟩:=hm
       refine .reg (eC 3 (growD 1 8 n3 c3 1 1 q4 [zI z6] [] (hp 3 [(oC [zI z7,Sl.v 1 s3]),oC q4,(oC [zI z6])])) (growD_eq h5) (eE)) ?_
       replace hm:=bb_inv hm;obtain ⟨h6,hm⟩:=hm
       exact ⟨((n3 + 1),(d2 (n3 + 1)),z6,z7,s3,(appL (dropL 0 q4) [zI z6])),hm,(.k [3] [] [.tmp 1 false,.tmp 5 false] [1,5,6] ⟨trF h6,trivial⟩)⟩
      ·refine .ifF b0 (by kernel_rfl) h4 ?_
       refine .skip ?_
       replace hm:=bb_inv hm;obtain ⟨h7,hm⟩:=hm
       exact ⟨(n3,c3,z6,z7,s3,q4),hm,(.k [1] [] [.tmp 1 false,.tmp 5 false] [1,5,6] ⟨trF h7,trivial⟩)⟩
     ·replace hm := oo_inv hm; obtain ⟨v0, h8, hm⟩ := hm
      replace hm:=inv_vBool hm;obtain ⟨b1,rfl,hm⟩:=hm
      replace hm:=bb_cases hm;rcases hm with ⟨h9,hm⟩ | ⟨h9,hm⟩
      ·replace hm := bb_cases hm; rcases hm with ⟨h10, hm⟩ | ⟨h10, hm⟩
       ·replace hm := oo_inv hm; obtain ⟨v1, h11, hm⟩ := hm
        replace hm:=inv_toI hm;obtain ⟨x0,rfl,hm⟩:=hm
        refine .reg (eC 2 ((oo (pu 63 [(.agg ⟨[zI z3,Sl.v 1 s1]⟩),zI z2]) none fun v=>some (v,(hp 2 [(oC [zI z3,Sl.v 1 s1]),oC q2])))) (call_eq h8) (eD (some ((zB (nt b1)),(hp 2 [(oC [zI z3,Sl.v 1 s1]),oC q2]))) (show _ = some ((zB true),_) from (by rw [h9])) (eC 8 (appFs (hp 4 [(oC [zI z3,Sl.v 1 s1]),oC q2,(oC []),(oC [zI z2])]) 1 8 (sc 2 0 1 0 1) s1) (appFs_sl0 h10) (eD (some ((sc 4 0 1 1 (d2 1)),(hp 5 [(oC [zI z3,Sl.v 1 s1]),oC q2,(oC []),(oC [zI z2]),(oC [zI z2])]))) rfl (eC 1 (oo (mapO (purify (hp 5 [(oC [zI z3,Sl.v 1 s1]),oC q2,(oC []),(oC [zI z2]),(oC [zI z2])])) [(.agg ⟨[zI z3,(sc 4 0 1 1 (d2 1))]⟩)]) none (fun l1=>oo (pu 77 l1) none fun v=>bb (plainT v) (some (v,(hp 5 [(oC [zI z3,Sl.v 1 s1]),oC q2,(oC []),(oC [zI z2]),(oC [zI z2])]))) none)) (callp_eq (f:=pu 77) (pur_cons (pur_agg (pur_cons (pur1_cl (by kernel_rfl) (by kernel_rfl)) (pur_cons (pur1_sl 4 0 1 1 (d2 1) ([zI z2]:LV) false false [] (by kernel_rfl) (by kernel_rfl) (by kernel_rfl)) pur_nil))) pur_nil) h11 (by kernel_rfl)) (eE)))))) ?_
        exact ⟨(n1,c1,z2,(ieq x0 (0:Int)),z3,s1,q2),hm,(.k [1] [] [.tmp 1 false,.tmp 5 false] [1,5,6,50] ⟨trF h1,trivial⟩)⟩
       ·replace hm := bb_inv hm; obtain ⟨h12, hm⟩ := hm
        replace hm:=bb_inv hm;obtain ⟨h11,hm⟩:=hm
        replace hm:=bb_inv hm;obtain ⟨h13,hm⟩:=hm
        replace hm:=oo_inv hm;obtain ⟨v2,h14,hm⟩:=hm
        replace hm:=inv_toI hm;obtain ⟨x1,rfl,hm⟩:=hm
        refine .reg (eC 2 ((oo (pu 63 [(.agg ⟨[zI z3,Sl.v 1 s1]⟩),zI z2]) none fun v=>some (v,(hp 2 [(oC [zI z3,Sl.v 1 s1]),oC q2])))) (call_eq h8) (eD (some ((zB (nt b1)),(hp 2 [(oC [zI z3,Sl.v 1 s1]),oC q2]))) (show _ = some ((zB true),_) from (by rw [h9])) (eC 8 (appFs (hp 4 [(oC [zI z3,Sl.v 1 s1]),oC q2,(oC []),(oC [zI z2])]) 1 8 (sc 2 0 1 0 1) s1) (appFs_new h10 h12 (by kernel_rfl)) (eD (growD 1 8 (0 + (Sl.n s1)) (d2 (0 + (Sl.n s1))) 1 4 (takeL ((Sl.n s1) * 1) (Sl.cs s1)) [zI z2] [] (hp 5 [(oC [zI z3,Sl.v 1 s1]),oC q2,(oC []),(oC [zI z2]),(oC (takeL ((Sl.n s1) * 1) (Sl.cs s1)))])) (growD_eq h11) (eC 1 (oo (mapO (purify (hp 6 [(oC [zI z3,Sl.v 1 s1]),oC q2,(oC []),(oC [zI z2]),(oS (takeL ((Sl.n s1) * 1) (Sl.cs s1))),(.cells (appL (dropL 0 (takeL ((Sl.n s1) * 1) (Sl.cs s1))) [zI z2]) false false [4])])) [(.agg ⟨[zI z3,(sc 5 0 1 ((0 + (Sl.n s1)) + 1) (d2 ((0 + (Sl.n s1)) + 1)))]⟩)]) none (fun l1=>oo (pu 77 l1) none fun v=>bb (plainT v) (some (v,(hp 6 [(oC [zI z3,Sl.v 1 s1]),oC q2,(oC []),(oC [zI z2]),(oS (takeL ((Sl.n s1) * 1) (Sl.cs s1))),(.cells (appL (dropL 0 (takeL ((Sl.n s1) * 1) (Sl.cs s1))) [zI z2]) false false [4])]))) none)) (callp_eq (f:=pu 77) (pur_cons (pur_agg (pur_cons (pur1_cl (by kernel_rfl) (by kernel_rfl)) (pur_cons (pur1_sl 5 0 1 ((0 + (Sl.n s1)) + 1) (d2 ((0 + (Sl.n s1)) + 1)) (appL (dropL 0 (takeL ((Sl.n s1) * 1) (Sl.cs s1))) [zI z2]) false false [4] (by kernel_rfl) (by kernel_rfl) h13) pur_nil))) pur_nil) h14 (by kernel_rfl)) (eE)))))) ?_
        exact ⟨(n1,c1,z2,(ieq x1 (0:Int)),z3,s1,q2),hm,(.k [1] [] [.tmp 1 false,.tmp 5 false] [1,5,6,50] ⟨trF h1,trivial⟩)⟩
      ·refine .reg (eC 2 ((oo (pu 63 [(.agg ⟨[zI z3, Sl.v 1 s1]⟩), zI z2]) none fun v => some (v, (hp 2 [(oC [zI z3, Sl.v 1 s1]), oC q2])))) (call_eq h8) (eD (some ((zB (nt b1)), (hp 2 [(oC [zI z3, Sl.v 1 s1]), oC q2]))) (show _ = some ((zB false), _) from (by rw [h9])) (eE))) ?_
       exact ⟨(n1,c1,z2,false,z3,s1,q2),hm,(.k [1] [] [.tmp 1 false,.tmp 5 false] [1,5,6,50] ⟨trF h1,trivial⟩)⟩
   ·refine .ifF (ilt z2 z3) (by kernel_rfl) h2 ?_
    refine .exit ?_
    exact ⟨(n1,c1,q2),hm,(.k [1] [] [.tmp 5 false] [5] ⟨trF h1,trivial⟩)⟩
theorem w45_0 (pu:PureF) (n:Nat) (z0 z1:Int) (s0:Sl) {v:Value} (hm:m45_0 pu n z0 z1 s0 = some v):Run tt (callP tabs isP pu (inl pu)) 0 c45_36 (fr 56 [(1,(pt 0 0)),(4,zI z0)]) (hp 1 [(oC [zI z1,Sl.v 1 s0])]) (Fin tt 0 [.tmp 2,.tmp 3] v):=by
 unfold m45_0 at hm
 refine .join (v:=v) (fun y:Int×Int×Sl=>((fr 56 [(1,(pt 0 0)),(4,(zI y.1))]),(hp 1 [(oC [(zI y.2.1),(Sl.v 1 y.2.2)])]))) (fun y=>m45_1 pu n y.1 y.2.1 y.2.2) ?_ ?_
 ·rintro ⟨z2, z3, s1⟩ hm
  exact w45_1 pu n z2 z3 s1 hm
 ·refine .join (v := v) (fun y : Int × Bool × Int × Sl => ((fr 56 [(1, (pt 0 0)), (4, (zI y.1)), (23, (zB y.2.1))]), (hp 1 [(oC [(zI y.2.2.1), (Sl.v 1 y.2.2.2)])]))) (fun y => m45_6 pu n y.1 y.2.1 y.2.2.1 y.2.2.2) ?_ ?_
  ·rintro ⟨z4, b0, z5, s2⟩ hm
   unfold m45_6 at hm
   replace hm:=bb_cases hm;rcases hm with ⟨h0,hm⟩ | ⟨h0,hm⟩
   ·refine .ifT b0 (by kernel_rfl) h0 ?_
    refine .rK ?_
    exact ⟨((14:Int),z5,s2),hm,(.k0 [] [.tmp 1 false] [1,4])⟩
   ·refine .ifF b0 (by kernel_rfl) h0 ?_
    refine .skip ?_
    exact ⟨(z4,z5,s2),hm,(.k0 [] [.tmp 1 false] [1,4])⟩
  ·replace hm := bb_cases hm; rcases hm with ⟨h1, hm⟩ | ⟨h1, hm⟩
   ·replace hm := oo_inv hm; obtain ⟨v0, h2, hm⟩ := hm
    replace hm:=inv_toI hm;obtain ⟨x0,rfl,hm⟩:=hm
    refine .reg (eC 1 (some ((zB (ieq z0 (0:Int))),(hp 1 [(oC [zI z1,Sl.v 1 s0])]))) (show _ = some ((zB true),_) from (by rw [h1])) (eC 2 ((oo (pu 77 [(.agg ⟨[zI z1,Sl.v 1 s0]⟩)]) none fun v=>some (v,(hp 1 [(oC [zI z1,Sl.v 1 s0])])))) (call_eq h2) (eE))) ?_
    exact ⟨(z0,(ilt (0:Int) x0),z1,s0),hm,(.k0 [] [.tmp 1 false] [1,4,23])⟩
   ·refine .reg (eC 1 (some ((zB (ieq z0 (0 : Int))), (hp 1 [(oC [zI z1, Sl.v 1 s0])]))) (show _ = some ((zB false), _) from (by rw [h1])) (eE)) ?_
    exact ⟨(z0,false,z1,s0),hm,(.k0 [] [.tmp 1 false] [1,4,23])⟩
theorem r45 {call:CallF} (pu:PureF) (n:Nat) (hcall:call = callP tabs isP pu (inl pu)) {args:LV} {v:Value} (hm:m45 pu n args = some v) (_:∀ x ∈ args,closed2 x = true):args.length≤56∧Run tt call 0 c45_39 (Fr.made 56 args) (pureHeap tabs) (Fin tt 0 [.tmp 2,.tmp 3] v):=by
 subst hcall
 unfold m45 at hm
 replace hm:=ll_uncons hm;obtain ⟨a0,args_0,rfl,hm⟩:=hm
 replace hm:=ll_end hm;obtain ⟨rfl,hm⟩:=hm
 replace hm:=inv_vAgg hm;obtain ⟨l0,rfl,hm⟩:=hm
 replace hm:=ll_uncons hm;obtain ⟨v0,l3158_0,rfl,hm⟩:=hm
 replace hm:=ll_uncons hm;obtain ⟨v1,l3158_1,rfl,hm⟩:=hm
 replace hm:=ll_end hm;obtain ⟨rfl,hm⟩:=hm
 replace hm:=inv_toI hm;obtain ⟨x0,rfl,hm⟩:=hm
 replace hm:=inv_toSl hm;obtain ⟨s0,rfl,hm⟩:=hm
 unfold m45_ at hm
 refine ⟨by simp,?_⟩
 refine .same (F':=(fr 56 [(0,(.agg ⟨[zI x0,Sl.v 1 s0]⟩))])) (H':=(hp 0 [])) (by kernel_rfl) (by kernel_rfl) ?_
 refine .then (.rK ?_)
 refine .ghs (fr 56 [(1,(pt 0 0))]) (hp 1 [(oC [zI x0,Sl.v 1 s0])]) (.k0 [] [.tmp 1 false] [1]) ?_
 refine .then ?_
 replace hm:=oo_inv hm;obtain ⟨v2,h0,hm⟩:=hm
 replace hm:=inv_toI hm;obtain ⟨x1,rfl,hm⟩:=hm
 refine .reg (eC 1 ((oo (pu 26 [(.agg ⟨[zI x0,Sl.v 1 s0]⟩)]) none fun v=>some (v,(hp 1 [(oC [zI x0,Sl.v 1 s0])])))) (call_eq h0) (eE)) ?_
 refine .ghs (fr 56 [(1,(pt 0 0)),(4,zI x1)]) (hp 1 [(oC [zI x0,Sl.v 1 s0])]) (.k0 [] [.tmp 1 false] [1,4]) ?_
 refine .join (v:=v) (fun y:Int×Int×Sl=>((fr 56 [(1,(pt 0 0)),(4,(zI y.1))]),(hp 1 [(oC [(zI y.2.1),(Sl.v 1 y.2.2)])]))) (fun y=>m45_0 pu n y.1 y.2.1 y.2.2) ?_ ?_
 ·rintro ⟨z0, z1, s1⟩ hm
  exact w45_0 pu n z0 z1 s1 hm
 ·refine .join (v := v) (fun y : Int × Bool × Int × Sl => ((fr 56 [(1, (pt 0 0)), (4, (zI y.1)), (16, (zB y.2.1))]), (hp 1 [(oC [(zI y.2.2.1), (Sl.v 1 y.2.2.2)])]))) (fun y => m45_7 pu n y.1 y.2.1 y.2.2.1 y.2.2.2) ?_ ?_
  ·rintro ⟨z2, b0, z3, s2⟩ hm
   unfold m45_7 at hm
   replace hm:=bb_cases hm;rcases hm with ⟨h1,hm⟩ | ⟨h1,hm⟩
   ·refine .ifT b0 (by kernel_rfl) h1 ?_
    refine .rK ?_
    exact ⟨((3:Int),z3,s2),hm,(.k0 [] [.tmp 1 false] [1,4])⟩
   ·refine .ifF b0 (by kernel_rfl) h1 ?_
    refine .skip ?_
    exact ⟨(z2,z3,s2),hm,(.k0 [] [.tmp 1 false] [1,4])⟩
  ·replace hm := bb_cases hm; rcases hm with ⟨h2, hm⟩ | ⟨h2, hm⟩
   ·refine .reg (eC 1 (some ((zB (ieq x1 (0 : Int))), (hp 1 [(oC [zI x0, Sl.v 1 s0])]))) (show _ = some ((zB true), _) from (by rw [h2])) (eE)) ?_
    exact ⟨(x1,(ieq (Int.ofNat (Sl.n s0)) (6:Int)),x0,s0),hm,(.k0 [] [.tmp 1 false] [1,4,16])⟩
   ·refine .reg (eC 1 (some ((zB (ieq x1 (0 : Int))), (hp 1 [(oC [zI x0, Sl.v 1 s0])]))) (show _ = some ((zB false), _) from (by rw [h2])) (eE)) ?_
    exact ⟨(x1,false,x0,s0),hm,(.k0 [] [.tmp 1 false] [1,4,16])⟩
end
end Go.RgFM
