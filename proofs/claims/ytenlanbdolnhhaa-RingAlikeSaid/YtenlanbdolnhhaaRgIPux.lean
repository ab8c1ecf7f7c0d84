/- Made from wip. -/
import Derived.Test.YtenlanbdolnhhaaRgIMod0x
import Derived.Test.YtenlanbdolnhhaaRgIMod1
import Derived.Test.YtenlanbdolnhhaaRgIMod2

set_option maxRecDepth 100000
set_option maxHeartbeats 20000000
set_option linter.unusedVariables false
namespace Go.RgIM
open Go.Sp Go.RgI
noncomputable section
def m25_1 (pu:PureF) (n:Nat):OV:=
 (some (.int .i64 (0:Int)))
def m25_3 (pu:PureF) (n:Nat) (ih0:Int→Sl→Int→Int→Int→Sl→OV) (z0 z1:Int) (s0:Sl) (z2 z3:Int) (b0:Bool) (z4:Int) (s1:Sl):OV:=
 (bb b0 (some (.int .i64 (2:Int))) (bb (nt (ilt z0 z1)) (some (.int .i64 (7:Int))) (ih0 z1 s0 z2 (wrapF .i64 (Int.add z3 (1:Int))) z4 s1)))
def b25_2 (pu:PureF) (n:Nat) (ih0:Int→Sl→Int→Int→Int→Sl→OV) (z0:Int) (s0:Sl) (z1 z2 z3:Int) (s1:Sl):OV:=
 (bb (ilt z2 z1) (oo (toN z2) none fun k1=>(bb (an (Nat.blt k1 (Sl.n s0)) true) (oo (nthL (Sl.cs s0) (k1 * 1)) none fun v0=>(oo (toI .i64 v0) none fun x0=>(bb (ilt x0 (0:Int)) (m25_3 pu n ih0 z0 x0 s0 z1 (Int.ofNat k1) true z3 s1) (m25_3 pu n ih0 z0 x0 s0 z1 (Int.ofNat k1) (nt (ilt x0 z3)) z3 s1)))) none)) (m25_1 pu n))
def l25_2 (pu:PureF) (n w:Nat):Int→Sl→Int→Int→Int→Sl→OV:=
 Nat.rec (motive:=fun _=>Int→Sl→Int→Int→Int→Sl→OV) (fun _ _ _ _ _ _=>none) (fun _ ih0=>b25_2 pu n ih0) w
def m25_0 (pu:PureF) (n:Nat) (b0:Bool) (z0:Int) (s0:Sl):OV:=
 (bb b0 (some (.int .i64 (1:Int))) (bb (ilt (6:Int) (Int.ofNat (Sl.n s0))) (some (.int .i64 (3:Int))) (l25_2 pu n n (-1:Int) s0 (Int.ofNat (Sl.n s0)) (0:Int) z0 s0)))
def m25_ (pu:PureF) (n:Nat) (x0:Int) (s0:Sl):OV:=
 (bb (ilt x0 (1:Int)) (m25_0 pu n true x0 s0) (m25_0 pu n (ilt (21:Int) x0) x0 s0))
def m25 (pu:PureF) (n:Nat) (args:LV):OV:=
 (ll args none fun a0 args=>(ll args (oo (vAgg a0) none fun l0=>(ll l0 none fun v0 l0=>(ll l0 none fun v1 l0=>(ll l0 (oo (toI .i64 v0) none fun x0=>(oo (toSl 1 v1) none fun s0=>(m25_ pu n x0 s0))) fun _ _=>none)))) fun _ _=>none))
theorem w25_1 (pu:PureF) (n:Nat) {v:Value} (hm:m25_1 pu n = some v):Run tt (callP tabs isP pu (inl pu)) 0 c25_40 (fr 42 []) (hp 0 []) (Fin tt 0 [.tmp 2] v):=by
 unfold m25_1 at hm
 refine .then (.rK ?_)
 refine .ghs (fr 42 [(2,(zI (0:Int)))]) (hp 0 []) (.k0 [] [] [2]) ?_
 refine .ret ?_
 exact fin_ret (zI (0:Int)) (by kernel_rfl) (by kernel_rfl) hm
theorem r25 {call:CallF} (pu:PureF) (n:Nat) (hcall:call = callP tabs isP pu (inl pu)) {args:LV} {v:Value} (hm:m25 pu n args = some v) (_:∀ x ∈ args,closed2 x = true):args.length≤42∧Run tt call 0 c25_44 (Fr.made 42 args) (pureHeap tabs) (Fin tt 0 [.tmp 2] v):=by
 subst hcall
 unfold m25 at hm
 replace hm:=ll_uncons hm;obtain ⟨a0,args_0,rfl,hm⟩:=hm
 replace hm:=ll_end hm;obtain ⟨rfl,hm⟩:=hm
 replace hm:=inv_vAgg hm;obtain ⟨l0,rfl,hm⟩:=hm
 replace hm:=ll_uncons hm;obtain ⟨v0,l2889_0,rfl,hm⟩:=hm
 replace hm:=ll_uncons hm;obtain ⟨v1,l2889_1,rfl,hm⟩:=hm
 replace hm:=ll_end hm;obtain ⟨rfl,hm⟩:=hm
 replace hm:=inv_toI hm;obtain ⟨x0,rfl,hm⟩:=hm
 replace hm:=inv_toSl hm;obtain ⟨s0,rfl,hm⟩:=hm
 unfold m25_ at hm
 refine ⟨by simp,?_⟩
 refine .same (F':=(fr 42 [(0,(.agg ⟨[zI x0,Sl.v 1 s0]⟩))])) (H':=(hp 0 [])) (by kernel_rfl) (by kernel_rfl) ?_
 refine .then (.rK ?_)
 refine .ghs (fr 42 [(1,(pt 0 0))]) (hp 1 [(oC [zI x0,Sl.v 1 s0])]) (.k0 [] [.tmp 1 false] [1]) ?_
 refine .then ?_
 refine .block ?_
 refine .join (v:=v) (fun y:Bool×Int×Sl=>((fr 42 [(1,(pt 0 0)),(6,(zB y.1))]),(hp 1 [(oC [(zI y.2.1),(Sl.v 1 y.2.2)])]))) (fun y=>m25_0 pu n y.1 y.2.1 y.2.2) ?_ ?_
 ·rintro ⟨b0, z0, s1⟩ hm
  unfold m25_0 at hm
  replace hm:=bb_cases hm;rcases hm with ⟨h0,hm⟩ | ⟨h0,hm⟩
  ·refine .ifT b0 (by kernel_rfl) h0 ?_
   refine .then (.rK ?_)
   refine .ghs (fr 42 [(2,(zI (1:Int)))]) (hp 0 []) (.k0 [] [] [2]) ?_
   refine .ret ?_
   exact fin_ret (zI (1:Int)) (by kernel_rfl) (by kernel_rfl) hm
  ·refine .ifF b0 (by kernel_rfl) h0 ?_
   refine .then (.rK ?_)
   refine .ghs (fr 42 [(1,(pt 0 0)),(15,(zB (ilt (6:Int) (Int.ofNat (Sl.n s1)))))]) (hp 1 [(oC [zI z0,Sl.v 1 s1])]) (.k0 [] [.tmp 1 false] [1,15]) ?_
   replace hm:=bb_cases hm;rcases hm with ⟨h1,hm⟩ | ⟨h1,hm⟩
   ·refine .ifT (ilt (6 : Int) (Int.ofNat (Sl.n s1))) (by kernel_rfl) h1 ?_
    refine .then (.rK ?_)
    refine .ghs (fr 42 [(2,(zI (3:Int)))]) (hp 0 []) (.k0 [] [] [2]) ?_
    refine .ret ?_
    exact fin_ret (zI (3:Int)) (by kernel_rfl) (by kernel_rfl) hm
   ·refine .ifF (ilt (6 : Int) (Int.ofNat (Sl.n s1))) (by kernel_rfl) h1 ?_
    refine .skip ?_
    refine .ghs (fr 42 [(1,(pt 0 0))]) (hp 1 [(oC [zI z0,Sl.v 1 s1])]) (.k0 [] [.tmp 1 false] [1]) ?_
    refine .then (.rK ?_)
    refine .ghs (fr 42 [(1,(pt 0 0)),(3,(zI (-1:Int)))]) (hp 1 [(oC [zI z0,Sl.v 1 s1])]) (.k0 [] [.tmp 1 false] [1,3]) ?_
    refine .join (v:=v) (fun y:Unit=>((fr 42 []),(hp 0 []))) (fun y=>m25_1 pu n) ?_ ?_
    ·rintro _ hm
     exact w25_1 pu n hm
    ·refine .then (.rK ?_)
     refine .ghs (fr 42 [(1,(pt 0 0)),(3,(zI (-1:Int))),(21,Sl.v 1 s1),(22,(zI (Int.ofNat (Sl.n s1)))),(23,(zI (0:Int)))]) (hp 1 [(oC [zI z0,Sl.v 1 s1])]) (.k0 [] [.tmp 1 false] [1,3,21,22,23]) ?_
     refine .block ?_
     refine .loopM (v:=v) (fun y:Int×Sl×Int×Int×Int×Sl=>((fr 42 [(1,(pt 0 0)),(3,(zI y.1)),(21,(Sl.v 1 y.2.1)),(22,(zI y.2.2.1)),(23,(zI y.2.2.2.1))]),(hp 1 [(oC [(zI y.2.2.2.2.1),(Sl.v 1 y.2.2.2.2.2)])]))) (fun w y=>l25_2 pu n w y.1 y.2.1 y.2.2.1 y.2.2.2.1 y.2.2.2.2.1 y.2.2.2.2.2) n ⟨((-1:Int),s1,(Int.ofNat (Sl.n s1)),(0:Int),z0,s1),hm,(.k0 [] [.tmp 1 false] [1,3,21,22,23])⟩ (fun _=>rfl) ?_
     rintro w0 ⟨z1,s2,z2,z3,z4,s3⟩ hm
     replace hm:b25_2 pu n (l25_2 pu n w0) z1 s2 z2 z3 z4 s3 = some v:=hm
     unfold b25_2 at hm
     refine .then (.rK ?_)
     refine .ghs (fr 42 [(1,(pt 0 0)),(3,zI z1),(21,Sl.v 1 s2),(22,zI z2),(23,zI z3),(24,(zB (ilt z3 z2)))]) (hp 1 [(oC [zI z4,Sl.v 1 s3])]) (.k0 [] [.tmp 1 false] [1,3,21,22,23,24]) ?_
     refine .then ?_
     replace hm:=bb_cases hm;rcases hm with ⟨h2,hm⟩ | ⟨h2,hm⟩
     ·refine .ifT (ilt z3 z2) (by kernel_rfl) h2 ?_
      refine .skip ?_
      refine .ghs (fr 42 [(1,(pt 0 0)),(3,zI z1),(21,Sl.v 1 s2),(22,zI z2),(23,zI z3)]) (hp 1 [(oC [zI z4,Sl.v 1 s3])]) (.k0 [] [.tmp 1 false] [1,3,21,22,23]) ?_
      refine .then ?_
      refine .block ?_
      refine .then ?_
      replace hm:=oo_inv hm;obtain ⟨k1,h3,hm⟩:=hm
      obtain rfl:=toN_some h3
      replace hm:=bb_inv hm;obtain ⟨h4,hm⟩:=hm
      replace hm:=oo_inv hm;obtain ⟨v2,h5,hm⟩:=hm
      replace hm:=inv_toI hm;obtain ⟨x1,rfl,hm⟩:=hm
      refine .reg (eD (keep (hp 1 [(oC [zI z4,Sl.v 1 s3])]) (bb (an (Nat.blt k1 (Sl.n s2)) true) (some (fpV (k1 * 1) (Sl.cs s2))) none)) (keep_bb h4) (eD (keep (hp 1 [(oC [zI z4,Sl.v 1 s3])]) (nthL (Sl.cs s2) (k1 * 1))) (keep_eq h5) (eE))) ?_
      refine .ghs (fr 42 [(1,(pt 0 0)),(3,zI z1),(5,zI x1),(21,Sl.v 1 s2),(22,zI z2),(23,(zI (Int.ofNat k1)))]) (hp 1 [(oC [zI z4,Sl.v 1 s3])]) (.k0 [] [.tmp 1 false] [1,3,5,21,22,23]) ?_
      refine .then ?_
      refine .block ?_
      refine .join (v:=v) (fun y:Int×Int×Sl×Int×Int×Bool×Int×Sl=>((fr 42 [(1,(pt 0 0)),(3,(zI y.1)),(5,(zI y.2.1)),(21,(Sl.v 1 y.2.2.1)),(22,(zI y.2.2.2.1)),(23,(zI y.2.2.2.2.1)),(27,(zB y.2.2.2.2.2.1))]),(hp 1 [(oC [(zI y.2.2.2.2.2.2.1),(Sl.v 1 y.2.2.2.2.2.2.2)])]))) (fun y=>m25_3 pu n (l25_2 pu n w0) y.1 y.2.1 y.2.2.1 y.2.2.2.1 y.2.2.2.2.1 y.2.2.2.2.2.1 y.2.2.2.2.2.2.1 y.2.2.2.2.2.2.2) ?_ ?_
      ·rintro ⟨z5, z6, s4, z7, z8, b1, z9, s5⟩ hm
       unfold m25_3 at hm
       replace hm:=bb_cases hm;rcases hm with ⟨h6,hm⟩ | ⟨h6,hm⟩
       ·refine .ifT b1 (by kernel_rfl) h6 ?_
        refine .then (.rK ?_)
        refine .ghs (fr 42 [(2,(zI (2:Int)))]) (hp 0 []) (.k0 [] [] [2]) ?_
        refine .ret ?_
        exact fin_ret (zI (2:Int)) (by kernel_rfl) (by kernel_rfl) hm
       ·refine .ifF b1 (by kernel_rfl) h6 ?_
        refine .then (.rK ?_)
        refine .ghs (fr 42 [(1,(pt 0 0)),(5,zI z6),(21,Sl.v 1 s4),(22,zI z7),(23,zI z8),(36,(zB (nt (ilt z5 z6))))]) (hp 1 [(oC [zI z9,Sl.v 1 s5])]) (.k0 [] [.tmp 1 false] [1,5,21,22,23,36]) ?_
        replace hm:=bb_cases hm;rcases hm with ⟨h7,hm⟩ | ⟨h7,hm⟩
        ·refine .ifT (nt (ilt z5 z6)) (by kernel_rfl) h7 ?_
         refine .then (.rK ?_)
         refine .ghs (fr 42 [(2,(zI (7:Int)))]) (hp 0 []) (.k0 [] [] [2]) ?_
         refine .ret ?_
         exact fin_ret (zI (7:Int)) (by kernel_rfl) (by kernel_rfl) hm
        ·refine .ifF (nt (ilt z5 z6)) (by kernel_rfl) h7 ?_
         refine .skip ?_
         refine .ghs (fr 42 [(1,(pt 0 0)),(5,zI z6),(21,Sl.v 1 s4),(22,zI z7),(23,zI z8)]) (hp 1 [(oC [zI z9,Sl.v 1 s5])]) (.k0 [] [.tmp 1 false] [1,5,21,22,23]) ?_
         refine .rK ?_
         refine .ghs (fr 42 [(1,(pt 0 0)),(3,zI z6),(21,Sl.v 1 s4),(22,zI z7),(23,zI z8)]) (hp 1 [(oC [zI z9,Sl.v 1 s5])]) (.k0 [] [.tmp 1 false] [1,3,21,22,23]) ?_
         refine .rK ?_
         exact ⟨(z6,s4,z7,(wrapF .i64 (Int.add z8 (1:Int))),z9,s5),hm,(.k0 [] [.tmp 1 false] [1,3,21,22,23])⟩
      ·replace hm := bb_cases hm; rcases hm with ⟨h8, hm⟩ | ⟨h8, hm⟩
       ·refine .reg (eC 1 (some ((zB (ilt x1 (0 : Int))), (hp 1 [(oC [zI z4, Sl.v 1 s3])]))) (show _ = some ((zB true), _) from (by rw [show (ilt x1 (0 : Int)) = true from h8])) (eE)) ?_
        exact ⟨(z1,x1,s2,z2,(Int.ofNat k1),true,z4,s3),hm,(.k0 [] [.tmp 1 false] [1,3,5,21,22,23,27])⟩
       ·refine .reg (eC 1 (some ((zB (ilt x1 (0 : Int))), (hp 1 [(oC [zI z4, Sl.v 1 s3])]))) (show _ = some ((zB false), _) from (by rw [show (ilt x1 (0 : Int)) = false from h8])) (eE)) ?_
        exact ⟨(z1,x1,s2,z2,(Int.ofNat k1),(nt (ilt x1 z4)),z4,s3),hm,(.k0 [] [.tmp 1 false] [1,3,5,21,22,23,27])⟩
     ·refine .ifF (ilt z3 z2) (by kernel_rfl) h2 ?_
      refine .exit ?_
      exact ⟨(),hm,(.k0 [] [] [])⟩
 ·replace hm := bb_cases hm; rcases hm with ⟨h9, hm⟩ | ⟨h9, hm⟩
  ·refine .reg (eC 2 (some ((zB (ilt x0 (1 : Int))), (hp 1 [(oC [zI x0, Sl.v 1 s0])]))) (show _ = some ((zB true), _) from (by rw [show (ilt x0 (1 : Int)) = true from h9])) (eE)) ?_
   exact ⟨(true,x0,s0),hm,(.k0 [] [.tmp 1 false] [1,6])⟩
  ·refine .reg (eC 2 (some ((zB (ilt x0 (1 : Int))), (hp 1 [(oC [zI x0, Sl.v 1 s0])]))) (show _ = some ((zB false), _) from (by rw [show (ilt x0 (1 : Int)) = false from h9])) (eE)) ?_
   exact ⟨((ilt (21:Int) x0),x0,s0),hm,(.k0 [] [.tmp 1 false] [1,6])⟩

def m61_ (pu:PureF) (n:Nat) (x0:Int) (s0:Sl):OV:=
 (oo (pu 25 [(.agg ⟨[.int .i64 x0,Sl.v 1 s0]⟩)]) none fun v0=>(oo (toI .i64 v0) none fun x1=>(bb (nt (ieq x1 (0:Int))) (some (.tuple ⟨[(.agg ⟨[(.int .i64 (0:Int)),(.int .u32 (0:Int))]⟩),.int .i64 x1]⟩)) (oo (pu 96 [.int .i64 x0,Sl.v 1 s0]) none fun v1=>(oo (vAgg v1) none fun l0=>(ll l0 none fun v2 l0=>(ll l0 none fun v3 l0=>(ll l0 (oo (toI .i64 v2) none fun x2=>(oo (toI .u32 v3) none fun x3=>(some (.tuple ⟨[(.agg ⟨[.int .i64 x2,.int .u32 x3]⟩),(.int .i64 (0:Int))]⟩)))) fun _ _=>none))))))))
def m61 (pu:PureF) (n:Nat) (args:LV):OV:=
 (ll args none fun a0 args=>(ll args (oo (vAgg a0) none fun l0=>(ll l0 none fun v0 l0=>(ll l0 none fun v1 l0=>(ll l0 (oo (toI .i64 v0) none fun x0=>(oo (toSl 1 v1) none fun s0=>(m61_ pu n x0 s0))) fun _ _=>none)))) fun _ _=>none))
theorem r61 {call:CallF} (pu:PureF) (n:Nat) (hcall:call = callP tabs isP pu (inl pu)) {args:LV} {v:Value} (hm:m61 pu n args = some v) (_:∀ x ∈ args,closed2 x = true):args.length≤16∧Run tt call 0 c61_11 (Fr.made 16 args) (pureHeap tabs) (Fin tt 0 [.cell 2 92,.tmp 3] v):=by
 subst hcall
 unfold m61 at hm
 replace hm:=ll_uncons hm;obtain ⟨a0,args_0,rfl,hm⟩:=hm
 replace hm:=ll_end hm;obtain ⟨rfl,hm⟩:=hm
 replace hm:=inv_vAgg hm;obtain ⟨l0,rfl,hm⟩:=hm
 replace hm:=ll_uncons hm;obtain ⟨v0,l2976_0,rfl,hm⟩:=hm
 replace hm:=ll_uncons hm;obtain ⟨v1,l2976_1,rfl,hm⟩:=hm
 replace hm:=ll_end hm;obtain ⟨rfl,hm⟩:=hm
 replace hm:=inv_toI hm;obtain ⟨x0,rfl,hm⟩:=hm
 replace hm:=inv_toSl hm;obtain ⟨s0,rfl,hm⟩:=hm
 unfold m61_ at hm
 refine ⟨by simp,?_⟩
 refine .same (F':=(fr 16 [(0,(.agg ⟨[zI x0,Sl.v 1 s0]⟩))])) (H':=(hp 0 [])) (by kernel_rfl) (by kernel_rfl) ?_
 refine .then (.rK ?_)
 refine .ghs (fr 16 [(1,(pt 0 0)),(2,pt 1 0)]) (hp 2 [(oC [zI x0,Sl.v 1 s0]),(oC [(zI (0:Int)),(.int .u32 (0:Int))])]) (.k0 [] [.tmp 1 false,.tmp 2 false] [1,2]) ?_
 refine .then ?_
 refine .then ?_
 replace hm:=oo_inv hm;obtain ⟨v2,h0,hm⟩:=hm
 replace hm:=inv_toI hm;obtain ⟨x1,rfl,hm⟩:=hm
 refine .reg (eC 1 ((oo (pu 25 [(.agg ⟨[zI x0,Sl.v 1 s0]⟩)]) none fun v=>some (v,(hp 2 [(oC [zI x0,Sl.v 1 s0]),(oC [(zI (0:Int)),(.int .u32 (0:Int))])])))) (call_eq h0) (eE)) ?_
 refine .ghs (fr 16 [(1,(pt 0 0)),(2,pt 1 0),(4,zI x1)]) (hp 2 [(oC [zI x0,Sl.v 1 s0]),(oC [(zI (0:Int)),(.int .u32 (0:Int))])]) (.k0 [] [.tmp 1 false,.tmp 2 false] [1,2,4]) ?_
 refine .then (.rK ?_)
 refine .ghs (fr 16 [(1,(pt 0 0)),(2,pt 1 0),(4,zI x1),(8,(zB (nt (ieq x1 (0:Int)))))]) (hp 2 [(oC [zI x0,Sl.v 1 s0]),(oC [(zI (0:Int)),(.int .u32 (0:Int))])]) (.k0 [] [.tmp 1 false,.tmp 2 false] [1,2,4,8]) ?_
 replace hm:=bb_cases hm;rcases hm with ⟨h1,hm⟩ | ⟨h1,hm⟩
 ·refine .ifT (nt (ieq x1 (0 : Int))) (by kernel_rfl) h1 ?_
  refine .then (.rK ?_)
  refine .ghs (fr 16 [(2,(pt 0 0)),(3,zI x1)]) (hp 1 [(oC [(zI (0:Int)),(.int .u32 (0:Int))])]) (.k0 [] [.tmp 2 false] [2,3]) ?_
  refine .ret ?_
  exact fin_ret (.tuple ⟨[(.agg ⟨[(zI (0:Int)),(.int .u32 (0:Int))]⟩),zI x1]⟩) (by kernel_rfl) (by kernel_rfl) hm
 ·refine .ifF (nt (ieq x1 (0 : Int))) (by kernel_rfl) h1 ?_
  refine .skip ?_
  refine .ghs (fr 16 [(1,(pt 0 0)),(2,pt 1 0)]) (hp 2 [(oC [zI x0,Sl.v 1 s0]),(oC [(zI (0:Int)),(.int .u32 (0:Int))])]) (.k0 [] [.tmp 1 false,.tmp 2 false] [1,2]) ?_
  refine .then ?_
  replace hm:=oo_inv hm;obtain ⟨v3,h2,hm⟩:=hm
  replace hm:=inv_vAgg hm;obtain ⟨l1,rfl,hm⟩:=hm
  replace hm:=ll_uncons hm;obtain ⟨v4,l3005_0,rfl,hm⟩:=hm
  replace hm:=ll_uncons hm;obtain ⟨v5,l3005_1,rfl,hm⟩:=hm
  replace hm:=ll_end hm;obtain ⟨rfl,hm⟩:=hm
  replace hm:=inv_toI hm;obtain ⟨x2,rfl,hm⟩:=hm
  replace hm:=inv_toI hm;obtain ⟨x3,rfl,hm⟩:=hm
  refine .reg (eC 4 ((oo (pu 96 [zI x0,Sl.v 1 s0]) none fun v=>some (v,(hp 2 [(oC [zI x0,Sl.v 1 s0]),(oC [(zI (0:Int)),(.int .u32 (0:Int))])])))) (call_eq h2) (eE)) ?_
  refine .ghs (fr 16 [(2,(pt 0 0)),(3,(zI (0:Int)))]) (hp 1 [(oC [zI x2,.int .u32 x3])]) (.k0 [] [.tmp 2 false] [2,3]) ?_
  refine .ret ?_
  exact fin_ret (.tuple ⟨[(.agg ⟨[zI x2,.int .u32 x3]⟩),(zI (0:Int))]⟩) (by kernel_rfl) (by kernel_rfl) hm

def m65_ (pu:PureF) (n:Nat) (x0 x1 x2:Int):OV:=
 (oo (toN x0) none fun k1=>(oo (toN x2) none fun k2=>(oo (toN (wrapF .i64 (Int.sub (Int.ofNat k1) (Int.ofNat k2)))) none fun k3=>(some (.agg ⟨[(.int .i64 (Int.ofNat k1)),(.int .u32 (aand .u32 (aor .u32 (shlI .u32 x1 k2) (shrI .u32 x1 k3)) (wrapF .u32 (Int.sub (shlI .u32 (1:Int) k1) (1:Int)))))]⟩)))))
def m65 (pu:PureF) (n:Nat) (args:LV):OV:=
 (ll args none fun a0 args=>(ll args none fun a1 args=>(ll args (oo (vAgg a0) none fun l0=>(ll l0 none fun v0 l0=>(ll l0 none fun v1 l0=>(ll l0 (oo (toI .i64 v0) none fun x0=>(oo (toI .u32 v1) none fun x1=>(oo (toI .i64 a1) none fun x2=>(m65_ pu n x0 x1 x2)))) fun _ _=>none)))) fun _ _=>none)))
theorem r65 {call:CallF} (pu:PureF) (n:Nat) (hcall:call = callP tabs isP pu (inl pu)) {args:LV} {v:Value} (hm:m65 pu n args = some v) (_:∀ x ∈ args,closed2 x = true):args.length≤26∧Run tt call 0 c65_7 (Fr.made 26 args) (pureHeap tabs) (Fin tt 0 [.cell 4 92] v):=by
 subst hcall
 unfold m65 at hm
 replace hm:=ll_uncons hm;obtain ⟨a0,args_0,rfl,hm⟩:=hm
 replace hm:=ll_uncons hm;obtain ⟨a1,args_1,rfl,hm⟩:=hm
 replace hm:=ll_end hm;obtain ⟨rfl,hm⟩:=hm
 replace hm:=inv_vAgg hm;obtain ⟨l0,rfl,hm⟩:=hm
 replace hm:=ll_uncons hm;obtain ⟨v0,l3013_0,rfl,hm⟩:=hm
 replace hm:=ll_uncons hm;obtain ⟨v1,l3013_1,rfl,hm⟩:=hm
 replace hm:=ll_end hm;obtain ⟨rfl,hm⟩:=hm
 replace hm:=inv_toI hm;obtain ⟨x0,rfl,hm⟩:=hm
 replace hm:=inv_toI hm;obtain ⟨x1,rfl,hm⟩:=hm
 replace hm:=inv_toI hm;obtain ⟨x2,rfl,hm⟩:=hm
 unfold m65_ at hm
 refine ⟨by simp,?_⟩
 refine .same (F':=(fr 26 [(0,(.agg ⟨[zI x0,.int .u32 x1]⟩)),(1,zI x2)])) (H':=(hp 0 [])) (by kernel_rfl) (by kernel_rfl) ?_
 refine .then (.rK ?_)
 refine .ghs (fr 26 [(1,zI x2),(2,(pt 0 0)),(4,pt 1 0)]) (hp 2 [(oC [zI x0,.int .u32 x1]),(oC [(zI (0:Int)),(.int .u32 (0:Int))])]) (.k0 [] [.tmp 2 false,.tmp 4 false] [1,2,4]) ?_
 refine .then ?_
 replace hm:=oo_inv hm;obtain ⟨k1,h0,hm⟩:=hm
 obtain rfl:=toN_some h0
 refine .rK ?_
 refine .ghs (fr 26 [(1,zI x2),(2,(pt 0 0)),(4,pt 1 0),(5,(.int .u32 (wrapF .u32 (Int.sub (shlI .u32 (1:Int) k1) (1:Int)))))]) (hp 2 [(oC [(zI (Int.ofNat k1)),.int .u32 x1]),(oC [(zI (0:Int)),(.int .u32 (0:Int))])]) (.k0 [] [.tmp 2 false,.tmp 4 false] [1,2,4,5]) ?_
 refine .then ?_
 replace hm:=oo_inv hm;obtain ⟨k2,h1,hm⟩:=hm
 obtain rfl:=toN_some h1
 replace hm:=oo_inv hm;obtain ⟨k3,h2,hm⟩:=hm
 refine .reg (eC 9 (some ((zI (wrapF .i64 (Int.sub (Int.ofNat k1) (Int.ofNat k2)))),(hp 2 [(oC [(zI (Int.ofNat k1)),.int .u32 x1]),(oC [(zI (0:Int)),(.int .u32 (0:Int))])]))) (show _ = some ((zI (Int.ofNat k3)),_) from (by rw [toN_some h2])) (eE)) ?_
 refine .ghs (fr 26 [(2,(pt 0 0)),(4,pt 1 0)]) (hp 2 [(oC [(zI (Int.ofNat k1)),(.int .u32 (aand .u32 (aor .u32 (shlI .u32 x1 k2) (shrI .u32 x1 k3)) (wrapF .u32 (Int.sub (shlI .u32 (1:Int) k1) (1:Int)))))]),(oC [(zI (0:Int)),(.int .u32 (0:Int))])]) (.k0 [] [.tmp 2 false,.tmp 4 false] [2,4]) ?_
 refine .then (.rK ?_)
 refine .ghs (fr 26 [(4,(pt 0 0))]) (hp 1 [(oC [(zI (Int.ofNat k1)),(.int .u32 (aand .u32 (aor .u32 (shlI .u32 x1 k2) (shrI .u32 x1 k3)) (wrapF .u32 (Int.sub (shlI .u32 (1:Int) k1) (1:Int)))))])]) (.k0 [] [.tmp 4 false] [4]) ?_
 refine .ret ?_
 exact fin_ret (.agg ⟨[(zI (Int.ofNat k1)),(.int .u32 (aand .u32 (aor .u32 (shlI .u32 x1 k2) (shrI .u32 x1 k3)) (wrapF .u32 (Int.sub (shlI .u32 (1:Int) k1) (1:Int)))))]⟩) (by kernel_rfl) (by kernel_rfl) hm

def m66_ (pu:PureF) (n:Nat) (x0 x1:Int):OV:=
 (oo (pu 80 [(.agg ⟨[.int .i64 x0,.int .u32 x1]⟩)]) none fun v0=>(oo (toSl 1 v0) none fun s0=>(some (.agg ⟨[.int .i64 x0,Sl.v 1 s0]⟩))))
def m66 (pu:PureF) (n:Nat) (args:LV):OV:=
 (ll args none fun a0 args=>(ll args (oo (vAgg a0) none fun l0=>(ll l0 none fun v0 l0=>(ll l0 none fun v1 l0=>(ll l0 (oo (toI .i64 v0) none fun x0=>(oo (toI .u32 v1) none fun x1=>(m66_ pu n x0 x1))) fun _ _=>none)))) fun _ _=>none))
theorem r66 {call:CallF} (pu:PureF) (n:Nat) (hcall:call = callP tabs isP pu (inl pu)) {args:LV} {v:Value} (hm:m66 pu n args = some v) (_:∀ x ∈ args,closed2 x = true):args.length≤8∧Run tt call 0 c66_3 (Fr.made 8 args) (pureHeap tabs) (Fin tt 0 [.cell 2 24] v):=by
 subst hcall
 unfold m66 at hm
 replace hm:=ll_uncons hm;obtain ⟨a0,args_0,rfl,hm⟩:=hm
 replace hm:=ll_end hm;obtain ⟨rfl,hm⟩:=hm
 replace hm:=inv_vAgg hm;obtain ⟨l0,rfl,hm⟩:=hm
 replace hm:=ll_uncons hm;obtain ⟨v0,l3035_0,rfl,hm⟩:=hm
 replace hm:=ll_uncons hm;obtain ⟨v1,l3035_1,rfl,hm⟩:=hm
 replace hm:=ll_end hm;obtain ⟨rfl,hm⟩:=hm
 replace hm:=inv_toI hm;obtain ⟨x0,rfl,hm⟩:=hm
 replace hm:=inv_toI hm;obtain ⟨x1,rfl,hm⟩:=hm
 unfold m66_ at hm
 refine ⟨by simp,?_⟩
 refine .same (F':=(fr 8 [(0,(.agg ⟨[zI x0,.int .u32 x1]⟩))])) (H':=(hp 0 [])) (by kernel_rfl) (by kernel_rfl) ?_
 refine .then (.rK ?_)
 refine .ghs (fr 8 [(1,(pt 0 0)),(2,pt 1 0)]) (hp 2 [(oC [zI x0,.int .u32 x1]),(oC [(zI (0:Int)),(.slice none 0 0)])]) (.k0 [] [.tmp 1 false,.tmp 2 false] [1,2]) ?_
 refine .then ?_
 replace hm:=oo_inv hm;obtain ⟨v2,h0,hm⟩:=hm
 replace hm:=inv_toSl hm;obtain ⟨s0,rfl,hm⟩:=hm
 refine .reg (eC 3 ((oo (pu 80 [(.agg ⟨[zI x0,.int .u32 x1]⟩)]) none fun v=>some (v,(hp 2 [(oC [zI x0,.int .u32 x1]),(oC [(zI (0:Int)),(.slice none 0 0)])])))) (call_eq h0) (eE)) ?_
 refine .ghs (fr 8 [(2,(pt 0 0))]) (hp 1 [(oC [zI x0,Sl.v 1 s0])]) (.k0 [] [.tmp 2 false] [2]) ?_
 refine .ret ?_
 exact fin_ret (.agg ⟨[zI x0,Sl.v 1 s0]⟩) (by kernel_rfl) (by kernel_rfl) hm
def m70_0 (pu:PureF) (n:Nat):OV:=
 (some (.tuple ⟨[(.int .i64 (0:Int)),(.bool false)]⟩))
def b70_1 (pu:PureF) (n:Nat) (ih0:Int→Int→Int→Int→Int→Int→OV) (z0 z1 z2 z3 z4 z5:Int):OV:=
 (bb (ilt z1 z0) (oo (pu 65 [(.agg ⟨[.int .i64 z2,.int .u32 z3]⟩),.int .i64 z1]) none fun v0=>(oo (vAgg v0) none fun l0=>(ll l0 none fun v1 l0=>(ll l0 none fun v2 l0=>(ll l0 (oo (toI .i64 v1) none fun x0=>(oo (toI .u32 v2) none fun x1=>(bb (bq true (an (ieq x0 z4) (an (ieq x1 z5) true))) (some (.tuple ⟨[.int .i64 z1,(.bool true)]⟩)) (ih0 z0 (wrapF .i64 (Int.add z1 (1:Int))) z2 z3 z4 z5)))) fun _ _=>none))))) (m70_0 pu n))
def l70_1 (pu:PureF) (n w:Nat):Int→Int→Int→Int→Int→Int→OV:=
 Nat.rec (motive:=fun _=>Int→Int→Int→Int→Int→Int→OV) (fun _ _ _ _ _ _=>none) (fun _ ih0=>b70_1 pu n ih0) w
def m70_ (pu:PureF) (n:Nat) (x0 x1 x2 x3:Int):OV:=
 (l70_1 pu n n x0 (0:Int) x0 x1 x2 x3)
def m70 (pu:PureF) (n:Nat) (args:LV):OV:=
 (ll args none fun a0 args=>(ll args none fun a1 args=>(ll args (oo (vAgg a0) none fun l0=>(ll l0 none fun v0 l0=>(ll l0 none fun v1 l0=>(ll l0 (oo (toI .i64 v0) none fun x0=>(oo (toI .u32 v1) none fun x1=>(oo (vAgg a1) none fun l1=>(ll l1 none fun v2 l1=>(ll l1 none fun v3 l1=>(ll l1 (oo (toI .i64 v2) none fun x2=>(oo (toI .u32 v3) none fun x3=>(m70_ pu n x0 x1 x2 x3))) fun _ _=>none)))))) fun _ _=>none)))) fun _ _=>none)))
theorem w70_0 (pu:PureF) (n:Nat) {v:Value} (hm:m70_0 pu n = some v):Run tt (callP tabs isP pu (inl pu)) 0 c70_20 (fr 19 []) (hp 0 []) (Fin tt 0 [.tmp 4,.tmp 5] v):=by
 unfold m70_0 at hm
 refine .then (.rK ?_)
 refine .ghs (fr 19 [(4,(zI (0:Int))),(5,zB false)]) (hp 0 []) (.k0 [] [] [4,5]) ?_
 refine .ret ?_
 exact fin_ret (.tuple ⟨[(zI (0:Int)),zB false]⟩) (by kernel_rfl) (by kernel_rfl) hm
theorem r70 {call:CallF} (pu:PureF) (n:Nat) (hcall:call = callP tabs isP pu (inl pu)) {args:LV} {v:Value} (hm:m70 pu n args = some v) (_:∀ x ∈ args,closed2 x = true):args.length≤19∧Run tt call 0 c70_22 (Fr.made 19 args) (pureHeap tabs) (Fin tt 0 [.tmp 4,.tmp 5] v):=by
 subst hcall
 unfold m70 at hm
 replace hm:=ll_uncons hm;obtain ⟨a0,args_0,rfl,hm⟩:=hm
 replace hm:=ll_uncons hm;obtain ⟨a1,args_1,rfl,hm⟩:=hm
 replace hm:=ll_end hm;obtain ⟨rfl,hm⟩:=hm
 replace hm:=inv_vAgg hm;obtain ⟨l0,rfl,hm⟩:=hm
 replace hm:=ll_uncons hm;obtain ⟨v0,l3051_0,rfl,hm⟩:=hm
 replace hm:=ll_uncons hm;obtain ⟨v1,l3051_1,rfl,hm⟩:=hm
 replace hm:=ll_end hm;obtain ⟨rfl,hm⟩:=hm
 replace hm:=inv_toI hm;obtain ⟨x0,rfl,hm⟩:=hm
 replace hm:=inv_toI hm;obtain ⟨x1,rfl,hm⟩:=hm
 replace hm:=inv_vAgg hm;obtain ⟨l1,rfl,hm⟩:=hm
 replace hm:=ll_uncons hm;obtain ⟨v2,l3059_0,rfl,hm⟩:=hm
 replace hm:=ll_uncons hm;obtain ⟨v3,l3059_1,rfl,hm⟩:=hm
 replace hm:=ll_end hm;obtain ⟨rfl,hm⟩:=hm
 replace hm:=inv_toI hm;obtain ⟨x2,rfl,hm⟩:=hm
 replace hm:=inv_toI hm;obtain ⟨x3,rfl,hm⟩:=hm
 unfold m70_ at hm
 refine ⟨by simp,?_⟩
 refine .same (F':=(fr 19 [(0,(.agg ⟨[zI x0,.int .u32 x1]⟩)),(1,(.agg ⟨[zI x2,.int .u32 x3]⟩))])) (H':=(hp 0 [])) (by kernel_rfl) (by kernel_rfl) ?_
 refine .then (.rK ?_)
 refine .ghs (fr 19 [(2,(pt 0 0)),(3,pt 1 0)]) (hp 2 [(oC [zI x0,.int .u32 x1]),(oC [zI x2,.int .u32 x3])]) (.k0 [] [.tmp 2 false,.tmp 3 false] [2,3]) ?_
 refine .join (v:=v) (fun y:Unit=>((fr 19 []),(hp 0 []))) (fun y=>m70_0 pu n) ?_ ?_
 ·rintro _ hm
  exact w70_0 pu n hm
 ·refine .then (.rK ?_)
  refine .ghs (fr 19 [(2,(pt 0 0)),(3,pt 1 0),(8,zI x0),(9,(zI (0:Int)))]) (hp 2 [(oC [zI x0,.int .u32 x1]),(oC [zI x2,.int .u32 x3])]) (.k0 [] [.tmp 2 false,.tmp 3 false] [2,3,8,9]) ?_
  refine .block ?_
  refine .loopM (v:=v) (fun y:Int×Int×Int×Int×Int×Int=>((fr 19 [(2,(pt 0 0)),(3,pt 1 0),(8,(zI y.1)),(9,(zI y.2.1))]),(hp 2 [(oC [(zI y.2.2.1),(.int .u32 y.2.2.2.1)]),(oC [(zI y.2.2.2.2.1),(.int .u32 y.2.2.2.2.2)])]))) (fun w y=>l70_1 pu n w y.1 y.2.1 y.2.2.1 y.2.2.2.1 y.2.2.2.2.1 y.2.2.2.2.2) n ⟨(x0,(0:Int),x0,x1,x2,x3),hm,(.k0 [] [.tmp 2 false,.tmp 3 false] [2,3,8,9])⟩ (fun _=>rfl) ?_
  rintro w0 ⟨z0,z1,z2,z3,z4,z5⟩ hm
  replace hm:b70_1 pu n (l70_1 pu n w0) z0 z1 z2 z3 z4 z5 = some v:=hm
  unfold b70_1 at hm
  refine .then (.rK ?_)
  refine .ghs (fr 19 [(2,(pt 0 0)),(3,pt 1 0),(8,zI z0),(9,zI z1),(10,(zB (ilt z1 z0)))]) (hp 2 [(oC [zI z2,.int .u32 z3]),(oC [zI z4,.int .u32 z5])]) (.k0 [] [.tmp 2 false,.tmp 3 false] [2,3,8,9,10]) ?_
  refine .then ?_
  replace hm:=bb_cases hm;rcases hm with ⟨h0,hm⟩ | ⟨h0,hm⟩
  ·refine .ifT (ilt z1 z0) (by kernel_rfl) h0 ?_
   refine .skip ?_
   refine .ghs (fr 19 [(2,(pt 0 0)),(3,pt 1 0),(8,zI z0),(9,zI z1)]) (hp 2 [(oC [zI z2,.int .u32 z3]),(oC [zI z4,.int .u32 z5])]) (.k0 [] [.tmp 2 false,.tmp 3 false] [2,3,8,9]) ?_
   refine .then ?_
   refine .block ?_
   refine .then (.rK ?_)
   refine .ghs (fr 19 [(2,(pt 0 0)),(3,pt 1 0),(6,zI z1),(8,zI z0),(9,zI z1)]) (hp 2 [(oC [zI z2,.int .u32 z3]),(oC [zI z4,.int .u32 z5])]) (.k0 [] [.tmp 2 false,.tmp 3 false] [2,3,6,8,9]) ?_
   refine .then ?_
   replace hm:=oo_inv hm;obtain ⟨v4,h1,hm⟩:=hm
   replace hm:=inv_vAgg hm;obtain ⟨l2,rfl,hm⟩:=hm
   replace hm:=ll_uncons hm;obtain ⟨v5,l3114_0,rfl,hm⟩:=hm
   replace hm:=ll_uncons hm;obtain ⟨v6,l3114_1,rfl,hm⟩:=hm
   replace hm:=ll_end hm;obtain ⟨rfl,hm⟩:=hm
   replace hm:=inv_toI hm;obtain ⟨x4,rfl,hm⟩:=hm
   replace hm:=inv_toI hm;obtain ⟨x5,rfl,hm⟩:=hm
   refine .reg (eC 3 ((oo (pu 65 [(.agg ⟨[zI z2,.int .u32 z3]⟩),zI z1]) none fun v=>some (v,(hp 2 [(oC [zI z2,.int .u32 z3]),(oC [zI z4,.int .u32 z5])])))) (call_eq h1) (eE)) ?_
   refine .ghs (fr 19 [(2,(pt 0 0)),(3,pt 1 0),(6,zI z1),(8,zI z0),(9,zI z1),(16,(zB (bq true (an (ieq x4 z4) (an (ieq x5 z5) true)))))]) (hp 2 [(oC [zI z2,.int .u32 z3]),(oC [zI z4,.int .u32 z5])]) (.k0 [] [.tmp 2 false,.tmp 3 false] [2,3,6,8,9,16]) ?_
   replace hm:=bb_cases hm;rcases hm with ⟨h2,hm⟩ | ⟨h2,hm⟩
   ·refine .ifT (bq true (an (ieq x4 z4) (an (ieq x5 z5) true))) (by kernel_rfl) h2 ?_
    refine .then (.rK ?_)
    refine .ghs (fr 19 [(4,zI z1),(5,zB true)]) (hp 0 []) (.k0 [] [] [4,5]) ?_
    refine .ret ?_
    exact fin_ret (.tuple ⟨[zI z1,zB true]⟩) (by kernel_rfl) (by kernel_rfl) hm
   ·refine .ifF (bq true (an (ieq x4 z4) (an (ieq x5 z5) true))) (by kernel_rfl) h2 ?_
    refine .skip ?_
    refine .ghs (fr 19 [(2,(pt 0 0)),(3,pt 1 0),(8,zI z0),(9,zI z1)]) (hp 2 [(oC [zI z2,.int .u32 z3]),(oC [zI z4,.int .u32 z5])]) (.k0 [] [.tmp 2 false,.tmp 3 false] [2,3,8,9]) ?_
    refine .rK ?_
    exact ⟨(z0,(wrapF .i64 (Int.add z1 (1:Int))),z2,z3,z4,z5),hm,(.k0 [] [.tmp 2 false,.tmp 3 false] [2,3,8,9])⟩
  ·refine .ifF (ilt z1 z0) (by kernel_rfl) h0 ?_
   refine .exit ?_
   exact ⟨(),hm,(.k0 [] [] [])⟩
def m71_0 (pu:PureF) (n:Nat) (z0 z1 z2 z3:Int):OV:=
 (some (.agg ⟨[.int .i64 z2,.int .u32 z3]⟩))
def b71_1 (pu:PureF) (n:Nat) (ih0:Int→Sl→Int→Int→Int→Int→Int→Int→Int→Int→OV) (z0:Int) (s0:Sl) (z1 z2 z3 z4 z5 z6 z7 z8:Int):OV:=
 (bb (ilt z2 z1) (oo (toN z2) none fun k1=>(bb (an (Nat.blt k1 (Sl.n s0)) true) (oo (nthL (Sl.cs s0) (k1 * 1)) none fun v0=>(oo (toI .i64 v0) none fun x0=>(oo (pu 62 [(.agg ⟨[.int .i64 z3,.int .u32 z4]⟩),(.int .i64 (wrapF .i64 (Int.mul x0 z0)))]) none fun v1=>(oo (toI .i64 v1) none fun x1=>(oo (toN x1) none fun k2=>(ih0 z0 s0 z1 (wrapF .i64 (Int.add (Int.ofNat k1) (1:Int))) z3 z4 z5 z6 z7 (aor .u32 z8 (shlI .u32 (1:Int) k2)))))))) none)) (m71_0 pu n z5 z6 z7 z8))
def l71_1 (pu:PureF) (n w:Nat):Int→Sl→Int→Int→Int→Int→Int→Int→Int→Int→OV:=
 Nat.rec (motive:=fun _=>Int→Sl→Int→Int→Int→Int→Int→Int→Int→Int→OV) (fun _ _ _ _ _ _ _ _ _ _=>none) (fun _ ih0=>b71_1 pu n ih0) w
def m71_ (pu:PureF) (n:Nat) (x0 x1 x2:Int):OV:=
 (oo (pu 80 [(.agg ⟨[.int .i64 x0,.int .u32 x1]⟩)]) none fun v0=>(oo (toSl 1 v0) none fun s0=>(l71_1 pu n n x2 s0 (Int.ofNat (Sl.n s0)) (0:Int) x0 x1 (0:Int) (0:Int) x0 (0:Int))))
def m71 (pu:PureF) (n:Nat) (args:LV):OV:=
 (ll args none fun a0 args=>(ll args none fun a1 args=>(ll args (oo (vAgg a0) none fun l0=>(ll l0 none fun v0 l0=>(ll l0 none fun v1 l0=>(ll l0 (oo (toI .i64 v0) none fun x0=>(oo (toI .u32 v1) none fun x1=>(oo (toI .i64 a1) none fun x2=>(m71_ pu n x0 x1 x2)))) fun _ _=>none)))) fun _ _=>none)))
theorem w71_0 (pu:PureF) (n:Nat) (z0 z1 z2 z3:Int) {v:Value} (hm:m71_0 pu n z0 z1 z2 z3 = some v):Run tt (callP tabs isP pu (inl pu)) 0 c71_17 (fr 30 [(4,(pt 0 0)),(5,pt 1 0)]) (hp 2 [(oC [zI z0,.int .u32 z1]),(oC [zI z2,.int .u32 z3])]) (Fin tt 0 [.cell 4 92] v):=by
 unfold m71_0 at hm
 refine .then (.rK ?_)
 refine .ghs (fr 30 [(4,(pt 0 0))]) (hp 1 [(oC [zI z2,.int .u32 z3])]) (.k0 [] [.tmp 4 false] [4]) ?_
 refine .ret ?_
 exact fin_ret (.agg ⟨[zI z2,.int .u32 z3]⟩) (by kernel_rfl) (by kernel_rfl) hm
theorem r71 {call:CallF} (pu:PureF) (n:Nat) (hcall:call = callP tabs isP pu (inl pu)) {args:LV} {v:Value} (hm:m71 pu n args = some v) (_:∀ x ∈ args,closed2 x = true):args.length≤30∧Run tt call 0 c71_20 (Fr.made 30 args) (pureHeap tabs) (Fin tt 0 [.cell 4 92] v):=by
 subst hcall
 unfold m71 at hm
 replace hm:=ll_uncons hm;obtain ⟨a0,args_0,rfl,hm⟩:=hm
 replace hm:=ll_uncons hm;obtain ⟨a1,args_1,rfl,hm⟩:=hm
 replace hm:=ll_end hm;obtain ⟨rfl,hm⟩:=hm
 replace hm:=inv_vAgg hm;obtain ⟨l0,rfl,hm⟩:=hm
 replace hm:=ll_uncons hm;obtain ⟨v0,l3123_0,rfl,hm⟩:=hm
 replace hm:=ll_uncons hm;obtain ⟨v1,l3123_1,rfl,hm⟩:=hm
 replace hm:=ll_end hm;obtain ⟨rfl,hm⟩:=hm
 replace hm:=inv_toI hm;obtain ⟨x0,rfl,hm⟩:=hm
 replace hm:=inv_toI hm;obtain ⟨x1,rfl,hm⟩:=hm
 replace hm:=inv_toI hm;obtain ⟨x2,rfl,hm⟩:=hm
 unfold m71_ at hm
 refine ⟨by simp,?_⟩
 refine .same (F':=(fr 30 [(0,(.agg ⟨[zI x0,.int .u32 x1]⟩)),(1,zI x2)])) (H':=(hp 0 [])) (by kernel_rfl) (by kernel_rfl) ?_
 refine .then (.rK ?_)
 refine .ghs (fr 30 [(1,zI x2),(2,(pt 0 0)),(4,pt 1 0)]) (hp 2 [(oC [zI x0,.int .u32 x1]),(oC [(zI (0:Int)),(.int .u32 (0:Int))])]) (.k0 [] [.tmp 2 false,.tmp 4 false] [1,2,4]) ?_
 refine .then (.rK ?_)
 refine .ghs (fr 30 [(1,zI x2),(2,(pt 0 0)),(4,pt 1 0),(5,(pt 2 0))]) (hp 3 [(oC [zI x0,.int .u32 x1]),(oC [(zI (0:Int)),(.int .u32 (0:Int))]),(oC [zI x0,(.int .u32 (0:Int))])]) (.k0 [] [.tmp 2 false,.tmp 4 false,.tmp 5 false] [1,2,4,5]) ?_
 refine .join (v:=v) (fun y:Int×Int×Int×Int=>((fr 30 [(4,(pt 0 0)),(5,pt 1 0)]),(hp 2 [(oC [(zI y.1),(.int .u32 y.2.1)]),(oC [(zI y.2.2.1),(.int .u32 y.2.2.2)])]))) (fun y=>m71_0 pu n y.1 y.2.1 y.2.2.1 y.2.2.2) ?_ ?_
 ·rintro ⟨z0, z1, z2, z3⟩ hm
  exact w71_0 pu n z0 z1 z2 z3 hm
 ·refine .then ?_
  replace hm:=oo_inv hm;obtain ⟨v2,h0,hm⟩:=hm
  replace hm:=inv_toSl hm;obtain ⟨s0,rfl,hm⟩:=hm
  refine .reg (eC 1 ((oo (pu 80 [(.agg ⟨[zI x0,.int .u32 x1]⟩)]) none fun v=>some (v,(hp 3 [(oC [zI x0,.int .u32 x1]),(oC [(zI (0:Int)),(.int .u32 (0:Int))]),(oC [zI x0,(.int .u32 (0:Int))])])))) (call_eq h0) (eE)) ?_
  refine .ghs (fr 30 [(1,zI x2),(2,(pt 0 0)),(4,pt 1 0),(5,(pt 2 0)),(12,Sl.v 1 s0),(13,(zI (Int.ofNat (Sl.n s0)))),(14,(zI (0:Int)))]) (hp 3 [(oC [zI x0,.int .u32 x1]),(oC [(zI (0:Int)),(.int .u32 (0:Int))]),(oC [zI x0,(.int .u32 (0:Int))])]) (.k0 [] [.tmp 2 false,.tmp 4 false,.tmp 5 false] [1,2,4,5,12,13,14]) ?_
  refine .block ?_
  refine .loopM (v:=v) (fun y:Int×Sl×Int×Int×Int×Int×Int×Int×Int×Int=>((fr 30 [(1,(zI y.1)),(2,(pt 0 0)),(4,pt 1 0),(5,(pt 2 0)),(12,(Sl.v 1 y.2.1)),(13,(zI y.2.2.1)),(14,(zI y.2.2.2.1))]),(hp 3 [(oC [(zI y.2.2.2.2.1),(.int .u32 y.2.2.2.2.2.1)]),(oC [(zI y.2.2.2.2.2.2.1),(.int .u32 y.2.2.2.2.2.2.2.1)]),(oC [(zI y.2.2.2.2.2.2.2.2.1),(.int .u32 y.2.2.2.2.2.2.2.2.2)])]))) (fun w y=>l71_1 pu n w y.1 y.2.1 y.2.2.1 y.2.2.2.1 y.2.2.2.2.1 y.2.2.2.2.2.1 y.2.2.2.2.2.2.1 y.2.2.2.2.2.2.2.1 y.2.2.2.2.2.2.2.2.1 y.2.2.2.2.2.2.2.2.2) n ⟨(x2,s0,(Int.ofNat (Sl.n s0)),(0:Int),x0,x1,(0:Int),(0:Int),x0,(0:Int)),hm,(.k0 [] [.tmp 2 false,.tmp 4 false,.tmp 5 false] [1,2,4,5,12,13,14])⟩ (fun _=>rfl) ?_
  rintro w0 ⟨z4,s1,z5,z6,z7,z8,z9,z10,z11,z12⟩ hm
  replace hm:b71_1 pu n (l71_1 pu n w0) z4 s1 z5 z6 z7 z8 z9 z10 z11 z12 = some v:=hm
  unfold b71_1 at hm
  refine .then (.rK ?_)
  refine .ghs (fr 30 [(1,zI z4),(2,(pt 0 0)),(4,pt 1 0),(5,(pt 2 0)),(12,Sl.v 1 s1),(13,zI z5),(14,zI z6),(15,(zB (ilt z6 z5)))]) (hp 3 [(oC [zI z7,.int .u32 z8]),(oC [zI z9,.int .u32 z10]),(oC [zI z11,.int .u32 z12])]) (.k0 [] [.tmp 2 false,.tmp 4 false,.tmp 5 false] [1,2,4,5,12,13,14,15]) ?_
  refine .then ?_
  replace hm:=bb_cases hm;rcases hm with ⟨h1,hm⟩ | ⟨h1,hm⟩
  ·refine .ifT (ilt z6 z5) (by kernel_rfl) h1 ?_
   refine .skip ?_
   refine .ghs (fr 30 [(1,zI z4),(2,(pt 0 0)),(4,pt 1 0),(5,(pt 2 0)),(12,Sl.v 1 s1),(13,zI z5),(14,zI z6)]) (hp 3 [(oC [zI z7,.int .u32 z8]),(oC [zI z9,.int .u32 z10]),(oC [zI z11,.int .u32 z12])]) (.k0 [] [.tmp 2 false,.tmp 4 false,.tmp 5 false] [1,2,4,5,12,13,14]) ?_
   refine .then ?_
   refine .block ?_
   refine .then ?_
   replace hm:=oo_inv hm;obtain ⟨k1,h2,hm⟩:=hm
   obtain rfl:=toN_some h2
   replace hm:=bb_inv hm;obtain ⟨h3,hm⟩:=hm
   replace hm:=oo_inv hm;obtain ⟨v3,h4,hm⟩:=hm
   replace hm:=inv_toI hm;obtain ⟨x3,rfl,hm⟩:=hm
   refine .reg (eD (keep (hp 3 [(oC [zI z7,.int .u32 z8]),(oC [zI z9,.int .u32 z10]),(oC [zI z11,.int .u32 z12])]) (bb (an (Nat.blt k1 (Sl.n s1)) true) (some (fpV (k1 * 1) (Sl.cs s1))) none)) (keep_bb h3) (eD (keep (hp 3 [(oC [zI z7,.int .u32 z8]),(oC [zI z9,.int .u32 z10]),(oC [zI z11,.int .u32 z12])]) (nthL (Sl.cs s1) (k1 * 1))) (keep_eq h4) (eE))) ?_
   refine .ghs (fr 30 [(1,zI z4),(2,(pt 0 0)),(4,pt 1 0),(5,(pt 2 0)),(7,zI x3),(12,Sl.v 1 s1),(13,zI z5),(14,(zI (Int.ofNat k1)))]) (hp 3 [(oC [zI z7,.int .u32 z8]),(oC [zI z9,.int .u32 z10]),(oC [zI z11,.int .u32 z12])]) (.k0 [] [.tmp 2 false,.tmp 4 false,.tmp 5 false] [1,2,4,5,7,12,13,14]) ?_
   replace hm:=oo_inv hm;obtain ⟨v4,h5,hm⟩:=hm
   replace hm:=inv_toI hm;obtain ⟨x4,rfl,hm⟩:=hm
   replace hm:=oo_inv hm;obtain ⟨k2,h6,hm⟩:=hm
   obtain rfl:=toN_some h6
   refine .reg (eC 6 ((oo (pu 62 [(.agg ⟨[zI z7,.int .u32 z8]⟩),(zI (wrapF .i64 (Int.mul x3 z4)))]) none fun v=>some (v,(hp 3 [(oC [zI z7,.int .u32 z8]),(oC [zI z9,.int .u32 z10]),(oC [zI z11,.int .u32 z12])])))) (call_eq h5) (eE)) ?_
   refine .ghs (fr 30 [(1,zI z4),(2,(pt 0 0)),(4,pt 1 0),(5,(pt 2 0)),(12,Sl.v 1 s1),(13,zI z5),(14,(zI (Int.ofNat k1)))]) (hp 3 [(oC [zI z7,.int .u32 z8]),(oC [zI z9,.int .u32 z10]),(oC [zI z11,(.int .u32 (aor .u32 z12 (shlI .u32 (1:Int) k2)))])]) (.k0 [] [.tmp 2 false,.tmp 4 false,.tmp 5 false] [1,2,4,5,12,13,14]) ?_
   refine .rK ?_
   exact ⟨(z4,s1,z5,(wrapF .i64 (Int.add (Int.ofNat k1) (1:Int))),z7,z8,z9,z10,z11,(aor .u32 z12 (shlI .u32 (1:Int) k2))),hm,(.k0 [] [.tmp 2 false,.tmp 4 false,.tmp 5 false] [1,2,4,5,12,13,14])⟩
  ·refine .ifF (ilt z6 z5) (by kernel_rfl) h1 ?_
   refine .exit ?_
   exact ⟨(z9,z10,z11,z12),hm,(.k0 [] [.tmp 4 false,.tmp 5 false] [4,5])⟩
def m96_0 (pu:PureF) (n:Nat) (z0 z1 z2 z3:Int):OV:=
 (some (.agg ⟨[.int .i64 z2,.int .u32 z3]⟩))
def b96_1 (pu:PureF) (n:Nat) (ih0:Sl→Int→Int→Int→Int→Int→Int→OV) (s0:Sl) (z0 z1 z2 z3 z4 z5:Int):OV:=
 (bb (ilt z1 z0) (oo (toN z1) none fun k1=>(bb (an (Nat.blt k1 (Sl.n s0)) true) (oo (nthL (Sl.cs s0) (k1 * 1)) none fun v0=>(oo (toI .i64 v0) none fun x0=>(oo (toN x0) none fun k2=>(ih0 s0 z0 (wrapF .i64 (Int.add (Int.ofNat k1) (1:Int))) z2 z3 z4 (aor .u32 z5 (shlI .u32 (1:Int) k2)))))) none)) (m96_0 pu n z2 z3 z4 z5))
def l96_1 (pu:PureF) (n w:Nat):Sl→Int→Int→Int→Int→Int→Int→OV:=
 Nat.rec (motive:=fun _=>Sl→Int→Int→Int→Int→Int→Int→OV) (fun _ _ _ _ _ _ _=>none) (fun _ ih0=>b96_1 pu n ih0) w
def m96_ (pu:PureF) (n:Nat) (x0:Int) (s0:Sl):OV:=
 (l96_1 pu n n s0 (Int.ofNat (Sl.n s0)) (0:Int) (0:Int) (0:Int) x0 (0:Int))
def m96 (pu:PureF) (n:Nat) (args:LV):OV:=
 (ll args none fun a0 args=>(ll args none fun a1 args=>(ll args (oo (toI .i64 a0) none fun x0=>(oo (toSl 1 a1) none fun s0=>(m96_ pu n x0 s0))) fun _ _=>none)))
theorem w96_0 (pu:PureF) (n:Nat) (z0 z1 z2 z3:Int) {v:Value} (hm:m96_0 pu n z0 z1 z2 z3 = some v):Run tt (callP tabs isP pu (inl pu)) 0 c96_17 (fr 24 [(4,(pt 0 0)),(5,pt 1 0)]) (hp 2 [(oC [zI z0,.int .u32 z1]),(oC [zI z2,.int .u32 z3])]) (Fin tt 0 [.cell 4 92] v):=by
 unfold m96_0 at hm
 refine .then (.rK ?_)
 refine .ghs (fr 24 [(4,(pt 0 0))]) (hp 1 [(oC [zI z2,.int .u32 z3])]) (.k0 [] [.tmp 4 false] [4]) ?_
 refine .ret ?_
 exact fin_ret (.agg ⟨[zI z2,.int .u32 z3]⟩) (by kernel_rfl) (by kernel_rfl) hm
theorem r96 {call:CallF} (pu:PureF) (n:Nat) (hcall:call = callP tabs isP pu (inl pu)) {args:LV} {v:Value} (hm:m96 pu n args = some v) (_:∀ x ∈ args,closed2 x = true):args.length≤24∧Run tt call 0 c96_20 (Fr.made 24 args) (pureHeap tabs) (Fin tt 0 [.cell 4 92] v):=by
 subst hcall
 unfold m96 at hm
 replace hm:=ll_uncons hm;obtain ⟨a0,args_0,rfl,hm⟩:=hm
 replace hm:=ll_uncons hm;obtain ⟨a1,args_1,rfl,hm⟩:=hm
 replace hm:=ll_end hm;obtain ⟨rfl,hm⟩:=hm
 replace hm:=inv_toI hm;obtain ⟨x0,rfl,hm⟩:=hm
 replace hm:=inv_toSl hm;obtain ⟨s0,rfl,hm⟩:=hm
 unfold m96_ at hm
 refine ⟨by simp,?_⟩
 refine .same (F':=(fr 24 [(0,zI x0),(1,Sl.v 1 s0)])) (H':=(hp 0 [])) (by kernel_rfl) (by kernel_rfl) ?_
 refine .then (.rK ?_)
 refine .ghs (fr 24 [(0,zI x0),(1,Sl.v 1 s0),(4,(pt 0 0))]) (hp 1 [(oC [(zI (0:Int)),(.int .u32 (0:Int))])]) (.k0 [] [.tmp 4 false] [0,1,4]) ?_
 refine .then (.rK ?_)
 refine .ghs (fr 24 [(1,Sl.v 1 s0),(4,(pt 0 0)),(5,pt 1 0)]) (hp 2 [(oC [(zI (0:Int)),(.int .u32 (0:Int))]),(oC [zI x0,(.int .u32 (0:Int))])]) (.k0 [] [.tmp 4 false,.tmp 5 false] [1,4,5]) ?_
 refine .join (v:=v) (fun y:Int×Int×Int×Int=>((fr 24 [(4,(pt 0 0)),(5,pt 1 0)]),(hp 2 [(oC [(zI y.1),(.int .u32 y.2.1)]),(oC [(zI y.2.2.1),(.int .u32 y.2.2.2)])]))) (fun y=>m96_0 pu n y.1 y.2.1 y.2.2.1 y.2.2.2) ?_ ?_
 ·rintro ⟨z0, z1, z2, z3⟩ hm
  exact w96_0 pu n z0 z1 z2 z3 hm
 ·refine .then (.rK ?_)
  refine .ghs (fr 24 [(4,(pt 0 0)),(5,pt 1 0),(10,Sl.v 1 s0),(11,(zI (Int.ofNat (Sl.n s0)))),(12,(zI (0:Int)))]) (hp 2 [(oC [(zI (0:Int)),(.int .u32 (0:Int))]),(oC [zI x0,(.int .u32 (0:Int))])]) (.k0 [] [.tmp 4 false,.tmp 5 false] [4,5,10,11,12]) ?_
  refine .block ?_
  refine .loopM (v:=v) (fun y:Sl×Int×Int×Int×Int×Int×Int=>((fr 24 [(4,(pt 0 0)),(5,pt 1 0),(10,(Sl.v 1 y.1)),(11,(zI y.2.1)),(12,(zI y.2.2.1))]),(hp 2 [(oC [(zI y.2.2.2.1),(.int .u32 y.2.2.2.2.1)]),(oC [(zI y.2.2.2.2.2.1),(.int .u32 y.2.2.2.2.2.2)])]))) (fun w y=>l96_1 pu n w y.1 y.2.1 y.2.2.1 y.2.2.2.1 y.2.2.2.2.1 y.2.2.2.2.2.1 y.2.2.2.2.2.2) n ⟨(s0,(Int.ofNat (Sl.n s0)),(0:Int),(0:Int),(0:Int),x0,(0:Int)),hm,(.k0 [] [.tmp 4 false,.tmp 5 false] [4,5,10,11,12])⟩ (fun _=>rfl) ?_
  rintro w0 ⟨s1,z4,z5,z6,z7,z8,z9⟩ hm
  replace hm:b96_1 pu n (l96_1 pu n w0) s1 z4 z5 z6 z7 z8 z9 = some v:=hm
  unfold b96_1 at hm
  refine .then (.rK ?_)
  refine .ghs (fr 24 [(4,(pt 0 0)),(5,pt 1 0),(10,Sl.v 1 s1),(11,zI z4),(12,zI z5),(13,(zB (ilt z5 z4)))]) (hp 2 [(oC [zI z6,.int .u32 z7]),(oC [zI z8,.int .u32 z9])]) (.k0 [] [.tmp 4 false,.tmp 5 false] [4,5,10,11,12,13]) ?_
  refine .then ?_
  replace hm:=bb_cases hm;rcases hm with ⟨h0,hm⟩ | ⟨h0,hm⟩
  ·refine .ifT (ilt z5 z4) (by kernel_rfl) h0 ?_
   refine .skip ?_
   refine .ghs (fr 24 [(4,(pt 0 0)),(5,pt 1 0),(10,Sl.v 1 s1),(11,zI z4),(12,zI z5)]) (hp 2 [(oC [zI z6,.int .u32 z7]),(oC [zI z8,.int .u32 z9])]) (.k0 [] [.tmp 4 false,.tmp 5 false] [4,5,10,11,12]) ?_
   refine .then ?_
   refine .block ?_
   refine .then ?_
   replace hm:=oo_inv hm;obtain ⟨k1,h1,hm⟩:=hm
   obtain rfl:=toN_some h1
   replace hm:=bb_inv hm;obtain ⟨h2,hm⟩:=hm
   replace hm:=oo_inv hm;obtain ⟨v0,h3,hm⟩:=hm
   replace hm:=inv_toI hm;obtain ⟨x1,rfl,hm⟩:=hm
   refine .reg (eD (keep (hp 2 [(oC [zI z6,.int .u32 z7]),(oC [zI z8,.int .u32 z9])]) (bb (an (Nat.blt k1 (Sl.n s1)) true) (some (fpV (k1 * 1) (Sl.cs s1))) none)) (keep_bb h2) (eD (keep (hp 2 [(oC [zI z6,.int .u32 z7]),(oC [zI z8,.int .u32 z9])]) (nthL (Sl.cs s1) (k1 * 1))) (keep_eq h3) (eE))) ?_
   refine .ghs (fr 24 [(4,(pt 0 0)),(5,pt 1 0),(7,zI x1),(10,Sl.v 1 s1),(11,zI z4),(12,(zI (Int.ofNat k1)))]) (hp 2 [(oC [zI z6,.int .u32 z7]),(oC [zI z8,.int .u32 z9])]) (.k0 [] [.tmp 4 false,.tmp 5 false] [4,5,7,10,11,12]) ?_
   replace hm:=oo_inv hm;obtain ⟨k2,h4,hm⟩:=hm
   obtain rfl:=toN_some h4
   refine .rK ?_
   refine .ghs (fr 24 [(4,(pt 0 0)),(5,pt 1 0),(10,Sl.v 1 s1),(11,zI z4),(12,(zI (Int.ofNat k1)))]) (hp 2 [(oC [zI z6,.int .u32 z7]),(oC [zI z8,(.int .u32 (aor .u32 z9 (shlI .u32 (1:Int) k2)))])]) (.k0 [] [.tmp 4 false,.tmp 5 false] [4,5,10,11,12]) ?_
   refine .rK ?_
   exact ⟨(s1,z4,(wrapF .i64 (Int.add (Int.ofNat k1) (1:Int))),z6,z7,z8,(aor .u32 z9 (shlI .u32 (1:Int) k2))),hm,(.k0 [] [.tmp 4 false,.tmp 5 false] [4,5,10,11,12])⟩
  ·refine .ifF (ilt z5 z4) (by kernel_rfl) h0 ?_
   refine .exit ?_
   exact ⟨(z6,z7,z8,z9),hm,(.k0 [] [.tmp 4 false,.tmp 5 false] [4,5])⟩
def m10860_0 (pu:PureF) (n:Nat) (e0:List Ent) (k1:Nat):OV:=
 (bb (allL entClosed e0) (some (.tuple ⟨[(.map (some 0)),(encO (.map e0 k1))]⟩)) none)
def m10860_2 (pu:PureF) (n:Nat) (ih0:Sl→Sl→Int→Int→Int→Int→List Ent→Nat→OV) (s0 s1:Sl) (z0 z1 z2 z3:Int) (e0:List Ent) (k1:Nat):OV:=
 (bb (allL entClosed e0) (ih0 s0 s1 z0 (wrapF .i64 (Int.add z1 (1:Int))) z2 z3 e0 k1) none)
def m10860_4 (pu:PureF) (n:Nat) (ih0:Sl→Sl→Int→Int→Int→Int→List Ent→Nat→OV) (ih1:Sl→Int→Sl→Int→Int→Sl→Int→Int→Int→Int→List Ent→Nat→OV) (s0:Sl) (z0:Int) (s1:Sl) (z1 z2:Int) (s2:Sl) (z3 z4 z5 z6:Int) (e0:List Ent) (k1:Nat):OV:=
 (bb (allL entClosed e0) (ih1 s0 z0 s1 z1 z2 s2 z3 (wrapF .i64 (Int.add z4 (1:Int))) z5 z6 e0 k1) none)
def b10860_3 (pu:PureF) (n:Nat) (ih0:Sl→Sl→Int→Int→Int→Int→List Ent→Nat→OV) (ih1:Sl→Int→Sl→Int→Int→Sl→Int→Int→Int→Int→List Ent→Nat→OV) (s0:Sl) (z0:Int) (s1:Sl) (z1 z2:Int) (s2:Sl) (z3 z4 z5 z6:Int) (e0:List Ent) (k1:Nat):OV:=
 (bb (allL entClosed e0) (bb (ilt z4 z3) (oo (toN z4) none fun k2=>(bb (an (Nat.blt k2 (Sl.n s2)) true) (oo (nthL (Sl.cs s2) (k2 * 1)) none fun v0=>(oo (toI .i64 v0) none fun x0=>(bb (nt (ieq z0 x0)) (oo (pu 62 [(.agg ⟨[.int .i64 z5,.int .u32 z6]⟩),(.int .i64 (wrapF .i64 (Int.sub x0 z0)))]) none fun v1=>(oo (toI .i64 v1) none fun x1=>(oo (findE (.int .i64 x1) e0 0) none fun r0=>(oo (toI .i64 (getE r0 (.int .i64 (0:Int)))) none fun x2=>(oo (findE (.int .i64 x1) e0 0) none fun r1=>(bb (allL entClosed (updE (.int .i64 x1) (.int .i64 (wrapF .i64 (Int.add x2 (1:Int)))) k1 e0 r1)) (m10860_4 pu n ih0 ih1 s0 z0 s1 z1 z2 s2 z3 (Int.ofNat k2) z5 z6 (updE (.int .i64 x1) (.int .i64 (wrapF .i64 (Int.add x2 (1:Int)))) k1 e0 r1) (updC k1 r1)) none)))))) (m10860_4 pu n ih0 ih1 s0 z0 s1 z1 z2 s2 z3 (Int.ofNat k2) z5 z6 e0 k1)))) none)) (m10860_2 pu n ih0 s0 s1 z1 z2 z5 z6 e0 k1)) none)
def l10860_3 (pu:PureF) (n:Nat) (ih0:Sl→Sl→Int→Int→Int→Int→List Ent→Nat→OV) (w:Nat):Sl→Int→Sl→Int→Int→Sl→Int→Int→Int→Int→List Ent→Nat→OV:=
 Nat.rec (motive:=fun _=>Sl→Int→Sl→Int→Int→Sl→Int→Int→Int→Int→List Ent→Nat→OV) (fun _ _ _ _ _ _ _ _ _ _ _ _=>none) (fun _ ih1=>b10860_3 pu n ih0 ih1) w
def b10860_1 (pu:PureF) (n:Nat) (ih0:Sl→Sl→Int→Int→Int→Int→List Ent→Nat→OV) (s0 s1:Sl) (z0 z1 z2 z3:Int) (e0:List Ent) (k1:Nat):OV:=
 (bb (allL entClosed e0) (bb (ilt z1 z0) (oo (toN z1) none fun k2=>(bb (an (Nat.blt k2 (Sl.n s1)) true) (oo (nthL (Sl.cs s1) (k2 * 1)) none fun v0=>(oo (toI .i64 v0) none fun x0=>(l10860_3 pu n ih0 n s0 x0 s1 z0 (Int.ofNat k2) s0 (Int.ofNat (Sl.n s0)) (0:Int) z2 z3 e0 k1))) none)) (m10860_0 pu n e0 k1)) none)
def l10860_1 (pu:PureF) (n w:Nat):Sl→Sl→Int→Int→Int→Int→List Ent→Nat→OV:=
 Nat.rec (motive:=fun _=>Sl→Sl→Int→Int→Int→Int→List Ent→Nat→OV) (fun _ _ _ _ _ _ _ _=>none) (fun _ ih0=>b10860_1 pu n ih0) w
def m10860_ (pu:PureF) (n:Nat) (z0 z1:Int):OV:=
 (bb (allL entClosed ([]:List Ent)) (oo (pu 80 [(.agg ⟨[.int .i64 z0,.int .u32 z1]⟩)]) none fun v0=>(oo (toSl 1 v0) none fun s0=>(l10860_1 pu n n s0 s0 (Int.ofNat (Sl.n s0)) (0:Int) z0 z1 ([]:List Ent) 0))) none)
def m10860 (pu:PureF) (n:Nat) (args:LV):OV:=
 (ll args none fun a0 args=>(ll args (oo (vAgg a0) none fun l0=>(ll l0 none fun v0 l0=>(ll l0 none fun v1 l0=>(ll l0 (oo (toI .i64 v0) none fun x0=>(oo (toI .u32 v1) none fun x1=>(m10860_ pu n x0 x1))) fun _ _=>none)))) fun _ _=>none))
theorem w10860_0 (pu:PureF) (n:Nat) (e0:List Ent) (k1:Nat) {v:Value} (hm:m10860_0 pu n e0 k1 = some v):Run tt (callP tabs isP pu (inl pu)) 0 c86_34 (fr 38 [(3,(.map (some 0)))]) (hp 1 [(.map e0 k1)]) (FinO tt 0 0 [.tmp 2] v):=by
 unfold m10860_0 at hm
 refine .then (.rK ?_)
 replace hm:=bb_inv hm;obtain ⟨h0,hm⟩:=hm
 refine .ghs (fr 38 [(2,(.map (some 0)))]) (hp 1 [(.map e0 k1)]) (.k [0] [] [.tmp 2 false] [2] ⟨trF h0,trivial⟩) ?_
 refine .ghs (fr 38 [(2,(.map (some 0)))]) (hp 1 [(.map e0 k1)]) (.k [0] [] [.tmp 2 false] [2] ⟨trF h0,trivial⟩) ?_
 refine .ret ?_
 exact finO_ret (.map (some 0)) [(.map e0 k1)] (by kernel_rfl) hm (Nat.le_of_ble_eq_true rfl) (ooAt_cons (pO_m _ _) ooAt_nil)
theorem q10860 (pu:PureF) (n:Nat) (z0 z1:Int) {v:Value} (hm:m10860_ pu n z0 z1 = some v):Run tt (callP tabs isP pu (inl pu)) 0 c86_38 (fr 38 [(0,(.agg ⟨[zI z0,.int .u32 z1]⟩))]) (hp 0 []) (FinO tt 0 0 [.tmp 2] v):=by
 unfold m10860_ at hm
 refine .then (.rK ?_)
 refine .ghs (fr 38 [(1,(pt 0 0))]) (hp 1 [(oC [zI z0,.int .u32 z1])]) (.k0 [] [.tmp 1 false] [1]) ?_
 refine .then (.rK ?_)
 replace hm:=bb_inv hm;obtain ⟨h0,hm⟩:=hm
 refine .ghs (fr 38 [(1,(pt 0 0)),(3,(.map (some 1)))]) (hp 2 [(oC [zI z0,.int .u32 z1]),(.map ([]:List Ent) 0)]) (.k [1] [] [.tmp 1 false,.tmp 3 false] [1,3] ⟨trF h0,trivial⟩) ?_
 refine .then ?_
 replace hm:=oo_inv hm;obtain ⟨v0,h1,hm⟩:=hm
 replace hm:=inv_toSl hm;obtain ⟨s0,rfl,hm⟩:=hm
 refine .reg (eC 1 ((oo (pu 80 [(.agg ⟨[zI z0,.int .u32 z1]⟩)]) none fun v=>some (v,(hp 2 [(oC [zI z0,.int .u32 z1]),(.map ([]:List Ent) 0)])))) (call_eq h1) (eE)) ?_
 refine .ghs (fr 38 [(1,(pt 0 0)),(3,(.map (some 1))),(4,Sl.v 1 s0)]) (hp 2 [(oC [zI z0,.int .u32 z1]),(.map ([]:List Ent) 0)]) (.k [1] [] [.tmp 1 false,.tmp 3 false] [1,3,4] ⟨trF h0,trivial⟩) ?_
 refine .join (v:=v) (fun y:List Ent×Nat=>((fr 38 [(3,(.map (some 0)))]),(hp 1 [(.map y.1 y.2)]))) (fun y=>m10860_0 pu n y.1 y.2) ?_ ?_
 ·rintro ⟨e0, k1⟩ hm
  exact w10860_0 pu n e0 k1 hm
 ·refine .then (.rK ?_)
  refine .ghs (fr 38 [(1,(pt 0 0)),(3,(.map (some 1))),(4,Sl.v 1 s0),(12,Sl.v 1 s0),(13,(zI (Int.ofNat (Sl.n s0)))),(14,(zI (0:Int)))]) (hp 2 [(oC [zI z0,.int .u32 z1]),(.map ([]:List Ent) 0)]) (.k [1] [] [.tmp 1 false,.tmp 3 false] [1,3,4,12,13,14] ⟨trF h0,trivial⟩) ?_
  refine .block ?_
  refine .loopM (v:=v) (fun y:Sl×Sl×Int×Int×Int×Int×List Ent×Nat=>((fr 38 [(1,(pt 0 0)),(3,(.map (some 1))),(4,(Sl.v 1 y.1)),(12,(Sl.v 1 y.2.1)),(13,(zI y.2.2.1)),(14,(zI y.2.2.2.1))]),(hp 2 [(oC [(zI y.2.2.2.2.1),(.int .u32 y.2.2.2.2.2.1)]),(.map y.2.2.2.2.2.2.1 y.2.2.2.2.2.2.2)]))) (fun w y=>l10860_1 pu n w y.1 y.2.1 y.2.2.1 y.2.2.2.1 y.2.2.2.2.1 y.2.2.2.2.2.1 y.2.2.2.2.2.2.1 y.2.2.2.2.2.2.2) n ⟨(s0,s0,(Int.ofNat (Sl.n s0)),(0:Int),z0,z1,([]:List Ent),0),hm,(.k [1] [] [.tmp 1 false,.tmp 3 false] [1,3,4,12,13,14] ⟨trF h0,trivial⟩)⟩ (fun _=>rfl) ?_
  rintro w0 ⟨s1,s2,z2,z3,z4,z5,e1,k2⟩ hm
  replace hm:b10860_1 pu n (l10860_1 pu n w0) s1 s2 z2 z3 z4 z5 e1 k2 = some v:=hm
  unfold b10860_1 at hm
  refine .then (.rK ?_)
  replace hm:=bb_inv hm;obtain ⟨h2,hm⟩:=hm
  refine .ghs (fr 38 [(1,(pt 0 0)),(3,(.map (some 1))),(4,Sl.v 1 s1),(12,Sl.v 1 s2),(13,zI z2),(14,zI z3),(15,(zB (ilt z3 z2)))]) (hp 2 [(oC [zI z4,.int .u32 z5]),(.map e1 k2)]) (.k [1] [] [.tmp 1 false,.tmp 3 false] [1,3,4,12,13,14,15] ⟨trF h2,trivial⟩) ?_
  refine .then ?_
  replace hm:=bb_cases hm;rcases hm with ⟨h3,hm⟩ | ⟨h3,hm⟩
  ·refine .ifT (ilt z3 z2) (by kernel_rfl) h3 ?_
   refine .skip ?_
   refine .ghs (fr 38 [(1,(pt 0 0)),(3,(.map (some 1))),(4,Sl.v 1 s1),(12,Sl.v 1 s2),(13,zI z2),(14,zI z3)]) (hp 2 [(oC [zI z4,.int .u32 z5]),(.map e1 k2)]) (.k [1] [] [.tmp 1 false,.tmp 3 false] [1,3,4,12,13,14] ⟨trF h2,trivial⟩) ?_
   refine .join (v:=v) (fun y:Sl×Sl×Int×Int×Int×Int×List Ent×Nat=>((fr 38 [(1,(pt 0 0)),(3,(.map (some 1))),(4,(Sl.v 1 y.1)),(12,(Sl.v 1 y.2.1)),(13,(zI y.2.2.1)),(14,(zI y.2.2.2.1))]),(hp 2 [(oC [(zI y.2.2.2.2.1),(.int .u32 y.2.2.2.2.2.1)]),(.map y.2.2.2.2.2.2.1 y.2.2.2.2.2.2.2)]))) (fun y=>m10860_2 pu n (l10860_1 pu n w0) y.1 y.2.1 y.2.2.1 y.2.2.2.1 y.2.2.2.2.1 y.2.2.2.2.2.1 y.2.2.2.2.2.2.1 y.2.2.2.2.2.2.2) ?_ ?_
   ·rintro ⟨s3, s4, z6, z7, z8, z9, e2, k3⟩ hm
    unfold m10860_2 at hm
    refine .rK ?_
    replace hm:=bb_inv hm;obtain ⟨h4,hm⟩:=hm
    exact ⟨(s3,s4,z6,(wrapF .i64 (Int.add z7 (1:Int))),z8,z9,e2,k3),hm,(.k [1] [] [.tmp 1 false,.tmp 3 false] [1,3,4,12,13,14] ⟨trF h4,trivial⟩)⟩
   ·refine .block ?_
    refine .then ?_
    replace hm:=oo_inv hm;obtain ⟨k4,h5,hm⟩:=hm
    obtain rfl:=toN_some h5
    replace hm:=bb_inv hm;obtain ⟨h6,hm⟩:=hm
    replace hm:=oo_inv hm;obtain ⟨v1,h7,hm⟩:=hm
    replace hm:=inv_toI hm;obtain ⟨x0,rfl,hm⟩:=hm
    refine .reg (eD (keep (hp 2 [(oC [zI z4,.int .u32 z5]),(.map e1 k2)]) (bb (an (Nat.blt k4 (Sl.n s2)) true) (some (fpV (k4 * 1) (Sl.cs s2))) none)) (keep_bb h6) (eD (keep (hp 2 [(oC [zI z4,.int .u32 z5]),(.map e1 k2)]) (nthL (Sl.cs s2) (k4 * 1))) (keep_eq h7) (eE))) ?_
    refine .ghs (fr 38 [(1,(pt 0 0)),(3,(.map (some 1))),(4,Sl.v 1 s1),(6,zI x0),(12,Sl.v 1 s2),(13,zI z2),(14,(zI (Int.ofNat k4)))]) (hp 2 [(oC [zI z4,.int .u32 z5]),(.map e1 k2)]) (.k [1] [] [.tmp 1 false,.tmp 3 false] [1,3,4,6,12,13,14] ⟨trF h2,trivial⟩) ?_
    refine .then (.rK ?_)
    refine .ghs (fr 38 [(1,(pt 0 0)),(3,(.map (some 1))),(4,Sl.v 1 s1),(6,zI x0),(12,Sl.v 1 s2),(13,zI z2),(14,(zI (Int.ofNat k4))),(18,Sl.v 1 s1),(19,(zI (Int.ofNat (Sl.n s1)))),(20,(zI (0:Int)))]) (hp 2 [(oC [zI z4,.int .u32 z5]),(.map e1 k2)]) (.k [1] [] [.tmp 1 false,.tmp 3 false] [1,3,4,6,12,13,14,18,19,20] ⟨trF h2,trivial⟩) ?_
    refine .block ?_
    refine .loopM (v:=v) (fun y:Sl×Int×Sl×Int×Int×Sl×Int×Int×Int×Int×List Ent×Nat=>((fr 38 [(1,(pt 0 0)),(3,(.map (some 1))),(4,(Sl.v 1 y.1)),(6,(zI y.2.1)),(12,(Sl.v 1 y.2.2.1)),(13,(zI y.2.2.2.1)),(14,(zI y.2.2.2.2.1)),(18,(Sl.v 1 y.2.2.2.2.2.1)),(19,(zI y.2.2.2.2.2.2.1)),(20,(zI y.2.2.2.2.2.2.2.1))]),(hp 2 [(oC [(zI y.2.2.2.2.2.2.2.2.1),(.int .u32 y.2.2.2.2.2.2.2.2.2.1)]),(.map y.2.2.2.2.2.2.2.2.2.2.1 y.2.2.2.2.2.2.2.2.2.2.2)]))) (fun w y=>l10860_3 pu n (l10860_1 pu n w0) w y.1 y.2.1 y.2.2.1 y.2.2.2.1 y.2.2.2.2.1 y.2.2.2.2.2.1 y.2.2.2.2.2.2.1 y.2.2.2.2.2.2.2.1 y.2.2.2.2.2.2.2.2.1 y.2.2.2.2.2.2.2.2.2.1 y.2.2.2.2.2.2.2.2.2.2.1 y.2.2.2.2.2.2.2.2.2.2.2) n ⟨(s1,x0,s2,z2,(Int.ofNat k4),s1,(Int.ofNat (Sl.n s1)),(0:Int),z4,z5,e1,k2),hm,(.k [1] [] [.tmp 1 false,.tmp 3 false] [1,3,4,6,12,13,14,18,19,20] ⟨trF h2,trivial⟩)⟩ (fun _=>rfl) ?_
    rintro w1 ⟨s5,z10,s6,z11,z12,s7,z13,z14,z15,z16,e3,k5⟩ hm
    replace hm:b10860_3 pu n (l10860_1 pu n w0) (l10860_3 pu n (l10860_1 pu n w0) w1) s5 z10 s6 z11 z12 s7 z13 z14 z15 z16 e3 k5 = some v:=hm
    unfold b10860_3 at hm
    refine .then (.rK ?_)
    replace hm:=bb_inv hm;obtain ⟨h8,hm⟩:=hm
    refine .ghs (fr 38 [(1,(pt 0 0)),(3,(.map (some 1))),(4,Sl.v 1 s5),(6,zI z10),(12,Sl.v 1 s6),(13,zI z11),(14,zI z12),(18,Sl.v 1 s7),(19,zI z13),(20,zI z14),(21,(zB (ilt z14 z13)))]) (hp 2 [(oC [zI z15,.int .u32 z16]),(.map e3 k5)]) (.k [1] [] [.tmp 1 false,.tmp 3 false] [1,3,4,6,12,13,14,18,19,20,21] ⟨trF h8,trivial⟩) ?_
    refine .then ?_
    replace hm:=bb_cases hm;rcases hm with ⟨h9,hm⟩ | ⟨h9,hm⟩
    ·refine .ifT (ilt z14 z13) (by kernel_rfl) h9 ?_
     refine .skip ?_
     refine .ghs (fr 38 [(1,(pt 0 0)),(3,(.map (some 1))),(4,Sl.v 1 s5),(6,zI z10),(12,Sl.v 1 s6),(13,zI z11),(14,zI z12),(18,Sl.v 1 s7),(19,zI z13),(20,zI z14)]) (hp 2 [(oC [zI z15,.int .u32 z16]),(.map e3 k5)]) (.k [1] [] [.tmp 1 false,.tmp 3 false] [1,3,4,6,12,13,14,18,19,20] ⟨trF h8,trivial⟩) ?_
     refine .join (v:=v) (fun y:Sl×Int×Sl×Int×Int×Sl×Int×Int×Int×Int×List Ent×Nat=>((fr 38 [(1,(pt 0 0)),(3,(.map (some 1))),(4,(Sl.v 1 y.1)),(6,(zI y.2.1)),(12,(Sl.v 1 y.2.2.1)),(13,(zI y.2.2.2.1)),(14,(zI y.2.2.2.2.1)),(18,(Sl.v 1 y.2.2.2.2.2.1)),(19,(zI y.2.2.2.2.2.2.1)),(20,(zI y.2.2.2.2.2.2.2.1))]),(hp 2 [(oC [(zI y.2.2.2.2.2.2.2.2.1),(.int .u32 y.2.2.2.2.2.2.2.2.2.1)]),(.map y.2.2.2.2.2.2.2.2.2.2.1 y.2.2.2.2.2.2.2.2.2.2.2)]))) (fun y=>m10860_4 pu n (l10860_1 pu n w0) (l10860_3 pu n (l10860_1 pu n w0) w1) y.1 y.2.1 y.2.2.1 y.2.2.2.1 y.2.2.2.2.1 y.2.2.2.2.2.1 y.2.2.2.2.2.2.1 y.2.2.2.2.2.2.2.1 y.2.2.2.2.2.2.2.2.1 y.2.2.2.2.2.2.2.2.2.1 y.2.2.2.2.2.2.2.2.2.2.1 y.2.2.2.2.2.2.2.2.2.2.2) ?_ ?_
     ·rintro ⟨s8, z17, s9, z18, z19, s10, z20, z21, z22, z23, e4, k6⟩ hm
      unfold m10860_4 at hm
      refine .rK ?_
      replace hm:=bb_inv hm;obtain ⟨h10,hm⟩:=hm
      exact ⟨(s8,z17,s9,z18,z19,s10,z20,(wrapF .i64 (Int.add z21 (1:Int))),z22,z23,e4,k6),hm,(.k [1] [] [.tmp 1 false,.tmp 3 false] [1,3,4,6,12,13,14,18,19,20] ⟨trF h10,trivial⟩)⟩
     ·refine .block ?_
      refine .then ?_
      replace hm:=oo_inv hm;obtain ⟨k7,h11,hm⟩:=hm
      obtain rfl:=toN_some h11
      replace hm:=bb_inv hm;obtain ⟨h12,hm⟩:=hm
      replace hm:=oo_inv hm;obtain ⟨v2,h13,hm⟩:=hm
      replace hm:=inv_toI hm;obtain ⟨x1,rfl,hm⟩:=hm
      refine .reg (eD (keep (hp 2 [(oC [zI z15,.int .u32 z16]),(.map e3 k5)]) (bb (an (Nat.blt k7 (Sl.n s7)) true) (some (fpV (k7 * 1) (Sl.cs s7))) none)) (keep_bb h12) (eD (keep (hp 2 [(oC [zI z15,.int .u32 z16]),(.map e3 k5)]) (nthL (Sl.cs s7) (k7 * 1))) (keep_eq h13) (eE))) ?_
      refine .ghs (fr 38 [(1,(pt 0 0)),(3,(.map (some 1))),(4,Sl.v 1 s5),(6,zI z10),(8,zI x1),(12,Sl.v 1 s6),(13,zI z11),(14,zI z12),(18,Sl.v 1 s7),(19,zI z13),(20,(zI (Int.ofNat k7)))]) (hp 2 [(oC [zI z15,.int .u32 z16]),(.map e3 k5)]) (.k [1] [] [.tmp 1 false,.tmp 3 false] [1,3,4,6,8,12,13,14,18,19,20] ⟨trF h8,trivial⟩) ?_
      refine .then (.rK ?_)
      refine .ghs (fr 38 [(1,(pt 0 0)),(3,(.map (some 1))),(4,Sl.v 1 s5),(6,zI z10),(8,zI x1),(12,Sl.v 1 s6),(13,zI z11),(14,zI z12),(18,Sl.v 1 s7),(19,zI z13),(20,(zI (Int.ofNat k7))),(26,(zB (nt (ieq z10 x1))))]) (hp 2 [(oC [zI z15,.int .u32 z16]),(.map e3 k5)]) (.k [1] [] [.tmp 1 false,.tmp 3 false] [1,3,4,6,8,12,13,14,18,19,20,26] ⟨trF h8,trivial⟩) ?_
      replace hm:=bb_cases hm;rcases hm with ⟨h14,hm⟩ | ⟨h14,hm⟩
      ·refine .ifT (nt (ieq z10 x1)) (by kernel_rfl) h14 ?_
       replace hm:=oo_inv hm;obtain ⟨v3,h15,hm⟩:=hm
       replace hm:=inv_toI hm;obtain ⟨x2,rfl,hm⟩:=hm
       replace hm:=oo_inv hm;obtain ⟨r0,h16,hm⟩:=hm
       replace hm:=oo_inv hm;obtain ⟨x3,h17,hm⟩:=hm
       replace hm:=oo_inv hm;obtain ⟨r1,h18,hm⟩:=hm
       refine .reg (eC 5 ((oo (pu 62 [(.agg ⟨[zI z15,.int .u32 z16]⟩),(zI (wrapF .i64 (Int.sub x1 z10)))]) none fun v=>some (v,(hp 2 [(oC [zI z15,.int .u32 z16]),(.map e3 k5)])))) (call_eq h15) (eD (keep (hp 2 [(oC [zI z15,.int .u32 z16]),(.map e3 k5)]) (oo (findE (zI x2) e3 0) none fun r=>oo r (okV false (zI (0:Int)) false) fun p=>pp p fun _ v=>okV false v true)) (look_vv h16 (toI_some h17)) (eC 1 (done (oo (findE (zI x2) e3 0) none fun r=>oo r (some (AHeap.set (hp 2 [(oC [zI z15,.int .u32 z16]),(.map e3 k5)]) 1 (.map (appL e3 [⟨zI x2,(zI (wrapF .i64 (Int.add x3 (1:Int)))),k5⟩]) (k5 + 1)))) fun p=>pp p fun j _=>some (AHeap.set (hp 2 [(oC [zI z15,.int .u32 z16]),(.map e3 k5)]) 1 (.map (modL (fun e=>⟨zI x2,(zI (wrapF .i64 (Int.add x3 (1:Int)))),e.born⟩) j e3) k5))) undef) (upd_eq (H2:=(hp 2 [(oC [zI z15,.int .u32 z16]),(.map (updE (zI x2) (zI (wrapF .i64 (Int.add x3 (1:Int)))) k5 e3 r1) (updC k5 r1))])) h18) (eE)))) ?_
       replace hm:=bb_inv hm;obtain ⟨h19,hm⟩:=hm
       exact ⟨(s5,z10,s6,z11,z12,s7,z13,(Int.ofNat k7),z15,z16,(updE (zI x2) (zI (wrapF .i64 (Int.add x3 (1:Int)))) k5 e3 r1),(updC k5 r1)),hm,(.k [1] [] [.tmp 1 false,.tmp 3 false] [1,3,4,6,12,13,14,18,19,20] ⟨trF h19,trivial⟩)⟩
      ·refine .ifF (nt (ieq z10 x1)) (by kernel_rfl) h14 ?_
       refine .skip ?_
       exact ⟨(s5,z10,s6,z11,z12,s7,z13,(Int.ofNat k7),z15,z16,e3,k5),hm,(.k [1] [] [.tmp 1 false,.tmp 3 false] [1,3,4,6,12,13,14,18,19,20] ⟨trF h8,trivial⟩)⟩
    ·refine .ifF (ilt z14 z13) (by kernel_rfl) h9 ?_
     refine .exit ?_
     exact ⟨(s5,s6,z11,z12,z15,z16,e3,k5),hm,(.k [1] [] [.tmp 1 false,.tmp 3 false] [1,3,4,12,13,14] ⟨trF h8,trivial⟩)⟩
  ·refine .ifF (ilt z3 z2) (by kernel_rfl) h3 ?_
   refine .exit ?_
   exact ⟨(e1,k2),hm,(.k [1] [] [.tmp 3 false] [3] ⟨trF h2,trivial⟩)⟩
theorem r10860 {call:CallF} (pu:PureF) (n:Nat) (hcall:call = callP tabs isP pu (inl pu)) {args:LV} {os:List AObj} {z:Value} (ha:args.length = 1) (hk:os.length = 0) (hpl:∀ o ∈ os,plainO o) (hm:m10860 pu n (args ++ os.map encO) = some z):args.length≤38∧Run tt call (tabs.length + 0) c86_38 (Fr.made 38 args) (subHeap tabs os) (FinO tt tabs.length 0 [.tmp 2] z):=by
 subst hcall
 have hq:=len_cons ha;clear ha;obtain ⟨a0,args,rfl,ha⟩:=hq
 obtain rfl:=len_nil ha
 obtain rfl:=len_nil hk
 replace hm:m10860 pu n [a0] = some z:=hm
 unfold m10860 at hm
 replace hm:(oo (vAgg a0) none fun l0=>(ll l0 none fun v0 l0=>(ll l0 none fun v1 l0=>(ll l0 (oo (toI .i64 v0) none fun x0=>(oo (toI .u32 v1) none fun x1=>(m10860_ pu n x0 x1))) fun _ _=>none)))) = some z:=hm
 replace hm:=inv_vAgg hm;obtain ⟨l0,rfl,hm⟩:=hm
 replace hm:=ll_uncons hm;obtain ⟨v0,l645_0,rfl,hm⟩:=hm
 replace hm:=ll_uncons hm;obtain ⟨v1,l645_1,rfl,hm⟩:=hm
 replace hm:=ll_end hm;obtain ⟨rfl,hm⟩:=hm
 replace hm:=inv_toI hm;obtain ⟨x0,rfl,hm⟩:=hm
 replace hm:=inv_toI hm;obtain ⟨x1,rfl,hm⟩:=hm
 refine ⟨by simp,?_⟩
 exact .same (F':=(fr 38 [(0,(.agg ⟨[zI x0,.int .u32 x1]⟩))])) (H':=(hp 0 [])) (by kernel_rfl) (by kernel_rfl) (q10860 pu n x0 x1 hm)
end
end Go.RgIM
set_option maxRecDepth 100000
set_option maxHeartbeats 20000000
set_option linter.unusedVariables false
namespace Go.RgIM
open Go.Sp Go.RgI
noncomputable section
def m10230_0 (pu:PureF) (n:Nat):OV:=
 (some (.tuple ⟨[(.bool true)]⟩))
def b10230_1 (pu:PureF) (n:Nat) (ih0:Sl→Sl→Int→OV) (s0 s1:Sl) (z0:Int):OV:=
 (bb (ilt z0 (Int.ofNat (Sl.n s0))) (oo (toN z0) none fun k1=>(bb (an (Nat.blt k1 (Sl.n s0)) true) (oo (nthL (Sl.cs s0) (k1 * 1)) none fun v0=>(oo (toI .i64 v0) none fun x0=>(bb (an (Nat.blt k1 (Sl.n s1)) true) (oo (nthL (Sl.cs s1) (k1 * 1)) none fun v1=>(oo (toI .i64 v1) none fun x1=>(bb (nt (ieq x0 x1)) (some (.tuple ⟨[(.bool false)]⟩)) (ih0 s0 s1 (wrapF .i64 (Int.add (Int.ofNat k1) (1:Int))))))) none))) none)) (m10230_0 pu n))
def l10230_1 (pu:PureF) (n w:Nat):Sl→Sl→Int→OV:=
 Nat.rec (motive:=fun _=>Sl→Sl→Int→OV) (fun _ _ _=>none) (fun _ ih0=>b10230_1 pu n ih0) w
def m10230_ (pu:PureF) (n:Nat) (s0 s1:Sl):OV:=
 (bb (nt (ieq (Int.ofNat (Sl.n s0)) (Int.ofNat (Sl.n s1)))) (some (.tuple ⟨[(.bool false)]⟩)) (l10230_1 pu n n s0 s1 (0:Int)))
def m10230 (pu:PureF) (n:Nat) (args:LV):OV:=
 (ll args none fun a0 args=>(ll args none fun a1 args=>(ll args (oo (toSl 1 a0) none fun s0=>(oo (toSl 1 a1) none fun s1=>(m10230_ pu n s0 s1))) fun _ _=>none)))
theorem w10230_0 (pu:PureF) (n:Nat) {v:Value} (hm:m10230_0 pu n = some v):Run tt (callP tabs isP pu (inl pu)) 0 c23_23 (fr 26 []) (hp 0 []) (FinO tt 0 0 [.tmp 4] v):=by
 unfold m10230_0 at hm
 refine .then (.rK ?_)
 refine .ghs (fr 26 [(4,zB true)]) (hp 0 []) (.k0 [] [] [4]) ?_
 refine .ghs (fr 26 [(4,zB true)]) (hp 0 []) (.k0 [] [] [4]) ?_
 refine .ret ?_
 exact finO_ret (zB true) [] (by kernel_rfl) hm (Nat.le_of_ble_eq_true rfl) ooAt_nil
theorem q10230 (pu:PureF) (n:Nat) (s0 s1:Sl) {v:Value} (hm:m10230_ pu n s0 s1 = some v):Run tt (callP tabs isP pu (inl pu)) 0 c23_26 (fr 26 [(0,Sl.v 1 s0),(1,Sl.v 1 s1)]) (hp 0 []) (FinO tt 0 0 [.tmp 4] v):=by
 unfold m10230_ at hm
 refine .then (.rK ?_)
 refine .ghs (fr 26 [(0,Sl.v 1 s0),(1,Sl.v 1 s1)]) (hp 0 []) (.k0 [] [] [0,1]) ?_
 refine .then ?_
 refine .then (.rK ?_)
 refine .ghs (fr 26 [(0,Sl.v 1 s0),(1,Sl.v 1 s1),(10,(zB (nt (ieq (Int.ofNat (Sl.n s0)) (Int.ofNat (Sl.n s1))))))]) (hp 0 []) (.k0 [] [] [0,1,10]) ?_
 replace hm:=bb_cases hm;rcases hm with ⟨h0,hm⟩ | ⟨h0,hm⟩
 ·refine .ifT (nt (ieq (Int.ofNat (Sl.n s0)) (Int.ofNat (Sl.n s1)))) (by kernel_rfl) h0 ?_
  refine .then (.rK ?_)
  refine .ghs (fr 26 [(4,zB false)]) (hp 0 []) (.k0 [] [] [4]) ?_
  refine .ghs (fr 26 [(4,zB false)]) (hp 0 []) (.k0 [] [] [4]) ?_
  refine .ret ?_
  exact finO_ret (zB false) [] (by kernel_rfl) hm (Nat.le_of_ble_eq_true rfl) ooAt_nil
 ·refine .ifF (nt (ieq (Int.ofNat (Sl.n s0)) (Int.ofNat (Sl.n s1)))) (by kernel_rfl) h0 ?_
  refine .skip ?_
  refine .ghs (fr 26 [(0,Sl.v 1 s0),(1,Sl.v 1 s1)]) (hp 0 []) (.k0 [] [] [0,1]) ?_
  refine .join (v:=v) (fun y:Unit=>((fr 26 []),(hp 0 []))) (fun y=>m10230_0 pu n) ?_ ?_
  ·rintro _ hm
   exact w10230_0 pu n hm
  ·refine .then (.rK ?_)
   refine .ghs (fr 26 [(0,Sl.v 1 s0),(1,Sl.v 1 s1),(5,(zI (0:Int)))]) (hp 0 []) (.k0 [] [] [0,1,5]) ?_
   refine .block ?_
   refine .loopM (v:=v) (fun y:Sl×Sl×Int=>((fr 26 [(0,(Sl.v 1 y.1)),(1,(Sl.v 1 y.2.1)),(5,(zI y.2.2))]),(hp 0 []))) (fun w y=>l10230_1 pu n w y.1 y.2.1 y.2.2) n ⟨(s0,s1,(0:Int)),hm,(.k0 [] [] [0,1,5])⟩ (fun _=>rfl) ?_
   rintro w0 ⟨s2,s3,z0⟩ hm
   replace hm:b10230_1 pu n (l10230_1 pu n w0) s2 s3 z0 = some v:=hm
   unfold b10230_1 at hm
   refine .then ?_
   refine .then (.rK ?_)
   refine .ghs (fr 26 [(0,Sl.v 1 s2),(1,Sl.v 1 s3),(5,zI z0),(14,(zB (ilt z0 (Int.ofNat (Sl.n s2)))))]) (hp 0 []) (.k0 [] [] [0,1,5,14]) ?_
   replace hm:=bb_cases hm;rcases hm with ⟨h1,hm⟩ | ⟨h1,hm⟩
   ·refine .ifT (ilt z0 (Int.ofNat (Sl.n s2))) (by kernel_rfl) h1 ?_
    refine .skip ?_
    refine .ghs (fr 26 [(0,Sl.v 1 s2),(1,Sl.v 1 s3),(5,zI z0)]) (hp 0 []) (.k0 [] [] [0,1,5]) ?_
    refine .then ?_
    refine .block ?_
    refine .then ?_
    replace hm:=oo_inv hm;obtain ⟨k1,h2,hm⟩:=hm
    obtain rfl:=toN_some h2
    replace hm:=bb_inv hm;obtain ⟨h3,hm⟩:=hm
    replace hm:=oo_inv hm;obtain ⟨v0,h4,hm⟩:=hm
    replace hm:=inv_toI hm;obtain ⟨x0,rfl,hm⟩:=hm
    replace hm:=bb_inv hm;obtain ⟨h5,hm⟩:=hm
    replace hm:=oo_inv hm;obtain ⟨v1,h6,hm⟩:=hm
    replace hm:=inv_toI hm;obtain ⟨x1,rfl,hm⟩:=hm
    refine .reg (eC 2 (keep (hp 0 []) (bb (an (Nat.blt k1 (Sl.n s2)) true) (some (fpV (k1 * 1) (Sl.cs s2))) none)) (keep_bb h3) (eD (keep (hp 0 []) (nthL (Sl.cs s2) (k1 * 1))) (keep_eq h4) (eC 2 (keep (hp 0 []) (bb (an (Nat.blt k1 (Sl.n s3)) true) (some (fpV (k1 * 1) (Sl.cs s3))) none)) (keep_bb h5) (eD (keep (hp 0 []) (nthL (Sl.cs s3) (k1 * 1))) (keep_eq h6) (eE))))) ?_
    refine .ghs (fr 26 [(0,Sl.v 1 s2),(1,Sl.v 1 s3),(5,(zI (Int.ofNat k1))),(25,(zB (nt (ieq x0 x1))))]) (hp 0 []) (.k0 [] [] [0,1,5,25]) ?_
    replace hm:=bb_cases hm;rcases hm with ⟨h7,hm⟩ | ⟨h7,hm⟩
    ·refine .ifT (nt (ieq x0 x1)) (by kernel_rfl) h7 ?_
     refine .then (.rK ?_)
     refine .ghs (fr 26 [(4,zB false)]) (hp 0 []) (.k0 [] [] [4]) ?_
     refine .ghs (fr 26 [(4,zB false)]) (hp 0 []) (.k0 [] [] [4]) ?_
     refine .ret ?_
     exact finO_ret (zB false) [] (by kernel_rfl) hm (Nat.le_of_ble_eq_true rfl) ooAt_nil
    ·refine .ifF (nt (ieq x0 x1)) (by kernel_rfl) h7 ?_
     refine .skip ?_
     refine .ghs (fr 26 [(0,Sl.v 1 s2),(1,Sl.v 1 s3),(5,(zI (Int.ofNat k1)))]) (hp 0 []) (.k0 [] [] [0,1,5]) ?_
     refine .rK ?_
     exact ⟨(s2,s3,(wrapF .i64 (Int.add (Int.ofNat k1) (1:Int)))),hm,(.k0 [] [] [0,1,5])⟩
   ·refine .ifF (ilt z0 (Int.ofNat (Sl.n s2))) (by kernel_rfl) h1 ?_
    refine .exit ?_
    exact ⟨(),hm,(.k0 [] [] [])⟩
theorem r10230 {call:CallF} (pu:PureF) (n:Nat) (hcall:call = callP tabs isP pu (inl pu)) {args:LV} {os:List AObj} {z:Value} (ha:args.length = 2) (hk:os.length = 0) (hpl:∀ o ∈ os,plainO o) (hm:m10230 pu n (args ++ os.map encO) = some z):args.length≤26∧Run tt call (tabs.length + 0) c23_26 (Fr.made 26 args) (subHeap tabs os) (FinO tt tabs.length 0 [.tmp 4] z):=by
 subst hcall
 have hq:=len_cons ha;clear ha;obtain ⟨a0,args,rfl,ha⟩:=hq
 have hq:=len_cons ha;clear ha;obtain ⟨a1,args,rfl,ha⟩:=hq
 obtain rfl:=len_nil ha
 obtain rfl:=len_nil hk
 replace hm:m10230 pu n [a0,a1] = some z:=hm
 unfold m10230 at hm
 replace hm:(oo (toSl 1 a0) none fun s0=>(oo (toSl 1 a1) none fun s1=>(m10230_ pu n s0 s1))) = some z:=hm
 replace hm:=inv_toSl hm;obtain ⟨s0,rfl,hm⟩:=hm
 replace hm:=inv_toSl hm;obtain ⟨s1,rfl,hm⟩:=hm
 refine ⟨by simp,?_⟩
 exact .same (F':=(fr 26 [(0,Sl.v 1 s0),(1,Sl.v 1 s1)])) (H':=(hp 0 [])) (by kernel_rfl) (by kernel_rfl) (q10230 pu n s0 s1 hm)
def m10850_0 (pu:PureF) (n:Nat) (s0:Sl) (z0 z1:Int):OV:=
 (some (.tuple ⟨[(.bool (ieq (aand .u32 z1 (1:Int)) (1:Int))),(.agg ⟨[Sl.v 1 s0]⟩)]⟩))
def b10850_1 (pu:PureF) (n:Nat) (ih0:Sl→Int→Int→Nat→List Nat→Nat→List Ent→Nat→OV) (s0:Sl) (z0 z1:Int) (k1:Nat) (l0:List Nat) (k2:Nat) (e0:List Ent) (k3:Nat):OV:=
 (bb (allL (fun e=>Nat.blt (Ent.born e) k1) e0) (bb (Nat.ble k1 k2) (nxt e0 l0 (bb (allL entClosed e0) (m10850_0 pu n s0 z0 z1) none) (fun e1:Ent=>(bb (allL entClosed e0) (oo (entT e0 k3 (appL l0 [(Ent.born e1)]) k3) none fun v0=>(oo (vTup v0) none fun l1=>(ll l1 none fun v1 l1=>(ll l1 none fun v2 l1=>(ll l1 (oo (toI .i64 v1) none fun x0=>(oo (toI .i64 v2) none fun x1=>(oo (toN (wrapF .i64 (Int.sub x0 (1:Int)))) none fun k4=>(bb (an (Nat.blt k4 (Sl.n s0)) true) (oo (nthL (Sl.cs s0) (k4 * 1)) none fun v3=>(oo (toI .i64 v3) none fun x2=>(bb (ilt x2 x1) (some (.tuple ⟨[(.bool false),(.agg ⟨[Sl.v 1 s0]⟩)]⟩)) (ih0 s0 z0 z1 k1 (appL l0 [(Ent.born e1)]) k3 e0 k3)))) none)))) fun _ _=>none))))) none))) none) none)
def l10850_1 (pu:PureF) (n w:Nat):Sl→Int→Int→Nat→List Nat→Nat→List Ent→Nat→OV:=
 Nat.rec (motive:=fun _=>Sl→Int→Int→Nat→List Nat→Nat→List Ent→Nat→OV) (fun _ _ _ _ _ _ _ _=>none) (fun _ ih0=>b10850_1 pu n ih0) w
def m10850_ (pu:PureF) (n:Nat) (z0 z1:Int) (s0:Sl):OV:=
 (oo (pu 10860 [(.agg ⟨[.int .i64 z0,.int .u32 z1]⟩)]) none fun v0=>(oo (vTup v0) none fun l0=>(ll l0 none fun v1 l0=>(ll l0 none fun v2 l0=>(ll l0 (bb (isMp v1 0) (oo (vMapO v2) none fun y0=>(bb (allL entClosed (MapV.es y0)) (bb (allL entClosed (MapV.es y0)) (l10850_1 pu n n s0 z0 z1 (MapV.clock y0) ([]:List Nat) (MapV.clock y0) (MapV.es y0) (MapV.clock y0)) none) none)) none) fun _ _=>none)))))
def m10850 (pu:PureF) (n:Nat) (args:LV):OV:=
 (ll args none fun a0 args=>(ll args none fun a1 args=>(ll args none fun o0 args=>(ll args (oo (vAgg a0) none fun l0=>(ll l0 none fun v0 l0=>(ll l0 none fun v1 l0=>(ll l0 (oo (toI .i64 v0) none fun x0=>(oo (toI .u32 v1) none fun x1=>(bb (isPt a1 0 0) (oo (vAgg o0) none fun l1=>(ll l1 none fun v2 l1=>(ll l1 (oo (toSl 1 v2) none fun s0=>(m10850_ pu n x0 x1 s0)) fun _ _=>none))) none))) fun _ _=>none)))) fun _ _=>none))))
theorem w10850_0 (pu:PureF) (n:Nat) (s0:Sl) (z0 z1:Int) {v:Value} (hm:m10850_0 pu n s0 z0 z1 = some v):Run tt (callP tabs isP pu (inl pu)) 1 c85_18 (fr 25 [(2,pt 1 0)]) (hp 2 [(oC [Sl.v 1 s0]),(oC [zI z0,.int .u32 z1])]) (FinO tt 0 1 [.tmp 3] v):=by
 unfold m10850_0 at hm
 refine .then (.rK ?_)
 refine .ghs (fr 25 [(3,(zB (ieq (aand .u32 z1 (1:Int)) (1:Int))))]) (hp 1 [(oC [Sl.v 1 s0])]) (.k0 [false] [] [3]) ?_
 refine .ghs (fr 25 [(3,(zB (ieq (aand .u32 z1 (1:Int)) (1:Int))))]) (hp 1 [(oC [Sl.v 1 s0])]) (.k0 [false] [] [3]) ?_
 refine .ret ?_
 exact finO_ret (zB (ieq (aand .u32 z1 (1:Int)) (1:Int))) [(oC [Sl.v 1 s0])] (by kernel_rfl) hm (Nat.le_of_ble_eq_true rfl) (ooAt_cons (pO_c _) ooAt_nil)
theorem q10850 (pu:PureF) (n:Nat) (z0 z1:Int) (s0:Sl) {v:Value} (hm:m10850_ pu n z0 z1 s0 = some v):Run tt (callP tabs isP pu (inl pu)) 1 c85_20 (fr 25 [(0,(.agg ⟨[zI z0,.int .u32 z1]⟩)),(1,(pt 0 0))]) (hp 1 [(oC [Sl.v 1 s0])]) (FinO tt 0 1 [.tmp 3] v):=by
 unfold m10850_ at hm
 refine .then (.rK ?_)
 refine .ghs (fr 25 [(1,(pt 0 0)),(2,pt 1 0)]) (hp 2 [(oC [Sl.v 1 s0]),(oC [zI z0,.int .u32 z1])]) (.k0 [false] [.tmp 2 false] [1,2]) ?_
 refine .join (v:=v) (fun y:Sl×Int×Int=>((fr 25 [(2,pt 1 0)]),(hp 2 [(oC [(Sl.v 1 y.1)]),(oC [(zI y.2.1),(.int .u32 y.2.2)])]))) (fun y=>m10850_0 pu n y.1 y.2.1 y.2.2) ?_ ?_
 ·rintro ⟨s1, z2, z3⟩ hm
  exact w10850_0 pu n s1 z2 z3 hm
 ·refine .then ?_
  replace hm:=oo_inv hm;obtain ⟨v0,h0,hm⟩:=hm
  replace hm:=inv_vTup hm;obtain ⟨l0,rfl,hm⟩:=hm
  replace hm:=ll_uncons hm;obtain ⟨v1,l3920_0,rfl,hm⟩:=hm
  replace hm:=ll_uncons hm;obtain ⟨v2,l3920_1,rfl,hm⟩:=hm
  replace hm:=ll_end hm;obtain ⟨rfl,hm⟩:=hm
  replace hm:=bb_inv hm;obtain ⟨h1,hm⟩:=hm
  obtain rfl:=isMp_ok h1
  replace hm:=oo_inv hm;obtain ⟨y0,h2,hm⟩:=hm
  replace hm:=bb_inv hm;obtain ⟨h3,hm⟩:=hm
  refine .reg (eC 1 (objG tabs [[none,none]] 1 [] [false] (pu 10860) [(.agg ⟨[zI z0,.int .u32 z1]⟩)] (hp 2 [(oC [Sl.v 1 s0]),(oC [zI z0,.int .u32 z1])])) (objG_eq (as:=[(.agg ⟨[zI z0,.int .u32 z1]⟩)]) (H1:=(hp 2 [(oC [Sl.v 1 s0]),(oC [zI z0,.int .u32 z1])])) (gvAL_c (gvA_a (gvL_c gv_n (gvL_c gv_n gvL_n))) gvAL_n) (objF_eq (H2:=(hp 3 [(oC [Sl.v 1 s0]),(oC [zI z0,.int .u32 z1]),(.map (MapV.es y0) (MapV.clock y0))])) (v:=(.map (some 0))) (v':=(.map (some 2))) [] [] [] [(.agg ⟨[zI z0,.int .u32 z1]⟩)] [v2] [(.map (MapV.es y0) (MapV.clock y0))] [none,none,some 0] [(false,(.map (MapV.es y0) (MapV.clock y0)))] [(.map (MapV.es y0) (MapV.clock y0))] (by kernel_rfl) mapO_n (Eq.trans (by kernel_rfl) h0) (mapO_c (vMapO_some h2) mapO_n) (mapO_c (bO_map h3) mapO_n))) (eE)) ?_
  replace hm:=bb_inv hm;obtain ⟨h4,hm⟩:=hm
  refine .ghs (fr 25 [(1,(pt 0 0)),(2,pt 1 0),(8,(pt 2 0))]) (hp 4 [(oC [Sl.v 1 s0]),(oC [zI z0,.int .u32 z1]),(.iter (some 3) (MapV.clock y0) ([]:List Nat) (MapV.clock y0)),(.map (MapV.es y0) (MapV.clock y0))]) (.k [2] [false] [.tmp 2 false,.tmp 8 false,.itm 2 false] [1,2,8] ⟨trF h4,trivial⟩) ?_
  refine .block ?_
  refine .loopM (v:=v) (fun y:Sl×Int×Int×Nat×List Nat×Nat×List Ent×Nat=>((fr 25 [(1,(pt 0 0)),(2,pt 1 0),(8,(pt 2 0))]),(hp 4 [(oC [(Sl.v 1 y.1)]),(oC [(zI y.2.1),(.int .u32 y.2.2.1)]),(.iter (some 3) y.2.2.2.1 y.2.2.2.2.1 y.2.2.2.2.2.1),(.map y.2.2.2.2.2.2.1 y.2.2.2.2.2.2.2)]))) (fun w y=>l10850_1 pu n w y.1 y.2.1 y.2.2.1 y.2.2.2.1 y.2.2.2.2.1 y.2.2.2.2.2.1 y.2.2.2.2.2.2.1 y.2.2.2.2.2.2.2) n ⟨(s0,z0,z1,(MapV.clock y0),([]:List Nat),(MapV.clock y0),(MapV.es y0),(MapV.clock y0)),hm,(.k [3] [false] [.tmp 2 false,.tmp 8 false,.itm 2 false] [1,2,8] ⟨trF h4,trivial⟩)⟩ (fun _=>rfl) ?_
  rintro w0 ⟨s2,z4,z5,k1,l1,k2,e0,k3⟩ hm
  replace hm:b10850_1 pu n (l10850_1 pu n w0) s2 z4 z5 k1 l1 k2 e0 k3 = some v:=hm
  unfold b10850_1 at hm
  refine .then ?_
  replace hm:=bb_inv hm;obtain ⟨h5,hm⟩:=hm
  replace hm:=bb_inv hm;obtain ⟨h6,hm⟩:=hm
  refine .nextK (id:=2) (mid:=3) (since:=k1) (st:=k2) (clock:=k3) (seen:=l1) (es:=e0) (d:=some 9) (x:=(tp 8)) (ty:=0) (os:=[rq 10 (.extract (tp 9) 0) 4]) (by kernel_rfl) (by kernel_rfl) (by kernel_rfl) (by kernel_rfl) h5 h6 (by kernel_rfl) (fun _=>by kernel_rfl) (fun h7=>?_) (fun e1 h8=>?_)
  ·replace hm := nxt_0 hm h7
   replace hm:=bb_inv hm;obtain ⟨h9,hm⟩:=hm
   refine .ghs (fr 25 [(1,(pt 0 0)),(2,pt 1 0),(8,(pt 2 0)),(10,zB false)]) (hp 4 [(oC [Sl.v 1 s2]),(oC [zI z4,.int .u32 z5]),(.iter (some 3) k1 l1 k2),(.map e0 k3)]) (.k [3] [false] [.tmp 2 false,.tmp 8 false,.itm 2 false] [1,2,8,10] ⟨trF h9,trivial⟩) ?_
   refine .then ?_
   refine .condF (by kernel_rfl) ?_
   refine .exit ?_
   exact ⟨(s2,z4,z5),hm,(.k0 [false] [.tmp 2 false] [2])⟩
  ·replace hm := nxt_1 hm h8
   replace hm:=bb_inv hm;obtain ⟨h10,hm⟩:=hm
   refine .ghs (fr 25 [(1,(pt 0 0)),(2,pt 1 0),(8,(pt 2 0)),(10,zB true)]) (hp 4 [(oC [Sl.v 1 s2]),(oC [zI z4,.int .u32 z5]),(.iter (some 3) k1 (appL l1 [(Ent.born e1)]) k3),(.map e0 k3)]) (.k [3] [false] [.tmp 2 false,.tmp 8 false,.itm 2 false] [1,2,8,10] ⟨trF h10,trivial⟩) ?_
   refine .then ?_
   refine .condT (by kernel_rfl) ?_
   refine .skip ?_
   refine .ghs (fr 25 [(1,(pt 0 0)),(2,pt 1 0),(8,(pt 2 0))]) (hp 4 [(oC [Sl.v 1 s2]),(oC [zI z4,.int .u32 z5]),(.iter (some 3) k1 (appL l1 [(Ent.born e1)]) k3),(.map e0 k3)]) (.k [3] [false] [.tmp 2 false,.tmp 8 false,.itm 2 false] [1,2,8] ⟨trF h10,trivial⟩) ?_
   refine .block ?_
   refine .then ?_
   replace hm:=oo_inv hm;obtain ⟨v3,h11,hm⟩:=hm
   replace hm:=inv_vTup hm;obtain ⟨l2,rfl,hm⟩:=hm
   replace hm:=ll_uncons hm;obtain ⟨v4,l3956_0,rfl,hm⟩:=hm
   replace hm:=ll_uncons hm;obtain ⟨v5,l3956_1,rfl,hm⟩:=hm
   replace hm:=ll_end hm;obtain ⟨rfl,hm⟩:=hm
   replace hm:=inv_toI hm;obtain ⟨x0,rfl,hm⟩:=hm
   replace hm:=inv_toI hm;obtain ⟨x1,rfl,hm⟩:=hm
   refine .reg (eD (keep (hp 4 [(oC [Sl.v 1 s2]),(oC [zI z4,.int .u32 z5]),(.iter (some 3) k1 (appL l1 [(Ent.born e1)]) k3),(.map e0 k3)]) (entT e0 k3 (appL l1 [(Ent.born e1)]) k3)) (keep_eq h11) (eE)) ?_
   refine .ghs (fr 25 [(1,(pt 0 0)),(2,pt 1 0),(4,zI x0),(5,zI x1),(8,(pt 2 0))]) (hp 4 [(oC [Sl.v 1 s2]),(oC [zI z4,.int .u32 z5]),(.iter (some 3) k1 (appL l1 [(Ent.born e1)]) k3),(.map e0 k3)]) (.k [3] [false] [.tmp 2 false,.tmp 8 false,.itm 2 false] [1,2,4,5,8] ⟨trF h10,trivial⟩) ?_
   refine .then ?_
   replace hm:=oo_inv hm;obtain ⟨k4,h12,hm⟩:=hm
   replace hm:=bb_inv hm;obtain ⟨h13,hm⟩:=hm
   replace hm:=oo_inv hm;obtain ⟨v6,h14,hm⟩:=hm
   replace hm:=inv_toI hm;obtain ⟨x2,rfl,hm⟩:=hm
   refine .reg (eC 3 (some ((zI (wrapF .i64 (Int.sub x0 (1:Int)))),(hp 4 [(oC [Sl.v 1 s2]),(oC [zI z4,.int .u32 z5]),(.iter (some 3) k1 (appL l1 [(Ent.born e1)]) k3),(.map e0 k3)]))) (show _ = some ((zI (Int.ofNat k4)),_) from (by rw [toN_some h12])) (eD (keep (hp 4 [(oC [Sl.v 1 s2]),(oC [zI z4,.int .u32 z5]),(.iter (some 3) k1 (appL l1 [(Ent.born e1)]) k3),(.map e0 k3)]) (bb (an (Nat.blt k4 (Sl.n s2)) true) (some (fpV (k4 * 1) (Sl.cs s2))) none)) (keep_bb h13) (eD (keep (hp 4 [(oC [Sl.v 1 s2]),(oC [zI z4,.int .u32 z5]),(.iter (some 3) k1 (appL l1 [(Ent.born e1)]) k3),(.map e0 k3)]) (nthL (Sl.cs s2) (k4 * 1))) (keep_eq h14) (eE)))) ?_
   refine .ghs (fr 25 [(1,(pt 0 0)),(2,pt 1 0),(8,(pt 2 0)),(20,(zB (ilt x2 x1)))]) (hp 4 [(oC [Sl.v 1 s2]),(oC [zI z4,.int .u32 z5]),(.iter (some 3) k1 (appL l1 [(Ent.born e1)]) k3),(.map e0 k3)]) (.k [3] [false] [.tmp 2 false,.tmp 8 false,.itm 2 false] [1,2,8,20] ⟨trF h10,trivial⟩) ?_
   replace hm:=bb_cases hm;rcases hm with ⟨h15,hm⟩ | ⟨h15,hm⟩
   ·refine .ifT (ilt x2 x1) (by kernel_rfl) h15 ?_
    refine .then (.rK ?_)
    refine .ghs (fr 25 [(3,zB false)]) (hp 1 [(oC [Sl.v 1 s2])]) (.k0 [false] [] [3]) ?_
    refine .ghs (fr 25 [(3,zB false)]) (hp 1 [(oC [Sl.v 1 s2])]) (.k0 [false] [] [3]) ?_
    refine .ret ?_
    exact finO_ret (zB false) [(oC [Sl.v 1 s2])] (by kernel_rfl) hm (Nat.le_of_ble_eq_true rfl) (ooAt_cons (pO_c _) ooAt_nil)
   ·refine .ifF (ilt x2 x1) (by kernel_rfl) h15 ?_
    refine .skip ?_
    exact ⟨(s2,z4,z5,k1,(appL l1 [(Ent.born e1)]),k3,e0,k3),hm,(.k [3] [false] [.tmp 2 false,.tmp 8 false,.itm 2 false] [1,2,8] ⟨trF h10,trivial⟩)⟩
theorem r10850 {call:CallF} (pu:PureF) (n:Nat) (hcall:call = callP tabs isP pu (inl pu)) {args:LV} {os:List AObj} {z:Value} (ha:args.length = 2) (hk:os.length = 1) (hpl:∀ o ∈ os,plainO o) (hm:m10850 pu n (args ++ os.map encO) = some z):args.length≤25∧Run tt call (tabs.length + 1) c85_20 (Fr.made 25 args) (subHeap tabs os) (FinO tt tabs.length 1 [.tmp 3] z):=by
 subst hcall
 have hq:=len_cons ha;clear ha;obtain ⟨a0,args,rfl,ha⟩:=hq
 have hq:=len_cons ha;clear ha;obtain ⟨a1,args,rfl,ha⟩:=hq
 obtain rfl:=len_nil ha
 have hq:=len_cons hk;clear hk;obtain ⟨b0,os,rfl,hk⟩:=hq
 have hp0:plainO b0:=hpl b0 (by simp)
 obtain rfl:=len_nil hk
 replace hm:m10850 pu n [a0,a1,encO b0] = some z:=hm
 unfold m10850 at hm
 replace hm:(oo (vAgg a0) none fun l0=>(ll l0 none fun v0 l0=>(ll l0 none fun v1 l0=>(ll l0 (oo (toI .i64 v0) none fun x0=>(oo (toI .u32 v1) none fun x1=>(bb (isPt a1 0 0) (oo (vAgg (encO b0)) none fun l1=>(ll l1 none fun v2 l1=>(ll l1 (oo (toSl 1 v2) none fun s0=>(m10850_ pu n x0 x1 s0)) fun _ _=>none))) none))) fun _ _=>none)))) = some z:=hm
 replace hm:=inv_vAgg hm;obtain ⟨l0,rfl,hm⟩:=hm
 replace hm:=ll_uncons hm;obtain ⟨v0,l3981_0,rfl,hm⟩:=hm
 replace hm:=ll_uncons hm;obtain ⟨v1,l3981_1,rfl,hm⟩:=hm
 replace hm:=ll_end hm;obtain ⟨rfl,hm⟩:=hm
 replace hm:=inv_toI hm;obtain ⟨x0,rfl,hm⟩:=hm
 replace hm:=inv_toI hm;obtain ⟨x1,rfl,hm⟩:=hm
 replace hm:=bb_inv hm;obtain ⟨h0,hm⟩:=hm
 obtain rfl:=isPt_ok h0
 replace hm:=oo_inv hm;obtain ⟨l1,h1,hm⟩:=hm
 obtain rfl:=vAgg_enc hp0 h1
 replace hm:=ll_uncons hm;obtain ⟨v2,l3990_0,rfl,hm⟩:=hm
 replace hm:=ll_end hm;obtain ⟨rfl,hm⟩:=hm
 replace hm:=inv_toSl hm;obtain ⟨s0,rfl,hm⟩:=hm
 refine ⟨by simp,?_⟩
 exact .same (F':=(fr 25 [(0,(.agg ⟨[zI x0,.int .u32 x1]⟩)),(1,(pt 0 0))])) (H':=(hp 1 [(oC [Sl.v 1 s0])])) (by kernel_rfl) (by kernel_rfl) (q10850 pu n x0 x1 s0 hm)
end
end Go.RgIM
set_option maxRecDepth 100000
namespace Go.RgIM
open Go.Sp Go.RgI
noncomputable section
def L:Nat:=1000000
def disp (pu:PureF):PureF:=fun g args=>
 bb (Nat.beq g 62) (m62 pu L args) (bb (Nat.beq g 91) (m91 pu L args) (bb (Nat.beq g 80) (m80 pu L args) (bb (Nat.beq g 74) (m74 pu L args) (bb (Nat.beq g 76) (m76 pu L args) (bb (Nat.beq g 78) (m78 pu L args) (bb (Nat.beq g 55) (m55 pu L args) (bb (Nat.beq g 11) (m11 pu L args) (bb (Nat.beq g 46) (m46 pu L args) (bb (Nat.beq g 47) (m47 pu L args) (bb (Nat.beq g 48) (m48 pu L args) (bb (Nat.beq g 49) (m49 pu L args) (bb (Nat.beq g 50) (m50 pu L args) (bb (Nat.beq g 15) (m15 pu L args) (bb (Nat.beq g 21) (m21 pu L args) (bb (Nat.beq g 25) (m25 pu L args) (bb (Nat.beq g 61) (m61 pu L args) (bb (Nat.beq g 65) (m65 pu L args) (bb (Nat.beq g 66) (m66 pu L args) (bb (Nat.beq g 70) (m70 pu L args) (bb (Nat.beq g 71) (m71 pu L args) (bb (Nat.beq g 96) (m96 pu L args) (bb (Nat.beq g 10860) (m10860 pu L args) (bb (Nat.beq g 10230) (m10230 pu L args) (bb (Nat.beq g 10850) (m10850 pu L args) (bb (Nat.beq g 14) (orc14 args) (bb (Nat.beq g 35) (orc35 args) (bb (Nat.beq g 37) (orc37 args) (none))))))))))))))))))))))))))))
def puN:Nat→PureF:=fun n=>Nat.rec (motive:=fun _=>PureF) (fun _ _=>none) (fun _ ih=>disp ih) n
end
end Go.RgIM
