/- Made from wip. -/
import Derived.Test.YtenlanbdolnhhaaRgIMod0x

set_option maxRecDepth 100000
set_option maxHeartbeats 20000000
set_option linter.unusedVariables false
namespace Go.RgIM
open Go.Sp Go.RgI
noncomputable section
def m46_0 (pu:PureF) (n:Nat) (z0 z1:Int):OV:=
 (some (.tuple ⟨[.int .i64 z0,.int .u32 z1]⟩))
def b46_1 (pu:PureF) (n:Nat) (ih0:Int→Int→OV) (z0 z1:Int):OV:=
 (oo (pu 50 [.int .u32 z1]) none fun v0=>(oo (toI .i64 v0) none fun x0=>(bb (ilt (6:Int) x0) (ih0 z0 (aand .u32 z1 (wrapF .u32 (Int.sub z1 (1:Int))))) (m46_0 pu n z0 z1))))
def l46_1 (pu:PureF) (n w:Nat):Int→Int→OV:=
 Nat.rec (motive:=fun _=>Int→Int→OV) (fun _ _=>none) (fun _ ih0=>b46_1 pu n ih0) w
def m46_ (pu:PureF) (n:Nat) (x0 x1 x2:Int):OV:=
 (bb (nt (ieq x2 (0:Int))) (oo (toN (wrapF .i64 (Int.add (1:Int) (Int.tmod (wrapF .i64 x0) x2)))) none fun k1=>(l46_1 pu n n (wrapF .i64 (Int.add (1:Int) (Int.tmod (wrapF .i64 x0) x2))) (aand .u32 x1 (wrapF .u32 (Int.sub (shlI .u32 (1:Int) k1) (1:Int)))))) none)
def m46 (pu:PureF) (n:Nat) (args:LV):OV:=
 (ll args none fun a0 args=>(ll args none fun a1 args=>(ll args (oo (vAgg a0) none fun l0=>(ll l0 none fun v0 l0=>(ll l0 none fun v1 l0=>(ll l0 (oo (toI .u8 v0) none fun x0=>(oo (toI .u32 v1) none fun x1=>(oo (toI .i64 a1) none fun x2=>(m46_ pu n x0 x1 x2)))) fun _ _=>none)))) fun _ _=>none)))
theorem w46_0 (pu:PureF) (n:Nat) (z0 z1:Int) {v:Value} (hm:m46_0 pu n z0 z1 = some v):Run tt (callP tabs isP pu (inl pu)) 0 c46_12 (fr 29 [(6,zI z0),(7,.int .u32 z1)]) (hp 0 []) (Fin tt 0 [.tmp 4,.tmp 5] v):=by
 unfold m46_0 at hm
 refine .then (.rK ?_)
 refine .ghs (fr 29 [(4,zI z0),(5,.int .u32 z1)]) (hp 0 []) (.k0 [] [] [4,5]) ?_
 refine .ret ?_
 exact fin_ret (.tuple ⟨[zI z0,.int .u32 z1]⟩) (by kernel_rfl) (by kernel_rfl) hm
theorem r46 {call:CallF} (pu:PureF) (n:Nat) (hcall:call = callP tabs isP pu (inl pu)) {args:LV} {v:Value} (hm:m46 pu n args = some v) (_:∀ x ∈ args,closed2 x = true):args.length≤29∧Run tt call 0 c46_16 (Fr.made 29 args) (pureHeap tabs) (Fin tt 0 [.tmp 4,.tmp 5] v):=by
 subst hcall
 unfold m46 at hm
 replace hm:=ll_uncons hm;obtain ⟨a0,args_0,rfl,hm⟩:=hm
 replace hm:=ll_uncons hm;obtain ⟨a1,args_1,rfl,hm⟩:=hm
 replace hm:=ll_end hm;obtain ⟨rfl,hm⟩:=hm
 replace hm:=inv_vAgg hm;obtain ⟨l0,rfl,hm⟩:=hm
 replace hm:=ll_uncons hm;obtain ⟨v0,l2346_0,rfl,hm⟩:=hm
 replace hm:=ll_uncons hm;obtain ⟨v1,l2346_1,rfl,hm⟩:=hm
 replace hm:=ll_end hm;obtain ⟨rfl,hm⟩:=hm
 replace hm:=inv_toI hm;obtain ⟨x0,rfl,hm⟩:=hm
 replace hm:=inv_toI hm;obtain ⟨x1,rfl,hm⟩:=hm
 replace hm:=inv_toI hm;obtain ⟨x2,rfl,hm⟩:=hm
 unfold m46_ at hm
 refine ⟨by simp,?_⟩
 refine .same (F':=(fr 29 [(0,(.agg ⟨[(zY x0),.int .u32 x1]⟩)),(1,zI x2)])) (H':=(hp 0 [])) (by kernel_rfl) (by kernel_rfl) ?_
 refine .then (.rK ?_)
 refine .ghs (fr 29 [(1,zI x2),(2,(pt 0 0))]) (hp 1 [(oC [(zY x0),.int .u32 x1])]) (.k0 [] [.tmp 2 false] [1,2]) ?_
 refine .then ?_
 replace hm:=bb_inv hm;obtain ⟨h0,hm⟩:=hm
 refine .reg (eC 4 (keep (hp 1 [(oC [(zY x0),.int .u32 x1])]) (bb (ieq x2 (0:Int)) none (some (zI (Int.tmod (wrapF .i64 x0) x2))))) (keep_nb h0) (eE)) ?_
 refine .ghs (fr 29 [(2,(pt 0 0)),(6,(zI (wrapF .i64 (Int.add (1:Int) (Int.tmod (wrapF .i64 x0) x2)))))]) (hp 1 [(oC [(zY x0),.int .u32 x1])]) (.k0 [] [.tmp 2 false] [2,6]) ?_
 refine .then ?_
 replace hm:=oo_inv hm;obtain ⟨k1,h1,hm⟩:=hm
 refine .reg (eC 2 (some ((zI (wrapF .i64 (Int.add (1:Int) (Int.tmod (wrapF .i64 x0) x2)))),(hp 1 [(oC [(zY x0),.int .u32 x1])]))) (show _ = some ((zI (Int.ofNat k1)),_) from (by rw [toN_some h1])) (eE)) ?_
 refine .ghs (fr 29 [(6,(zI (wrapF .i64 (Int.add (1:Int) (Int.tmod (wrapF .i64 x0) x2))))),(7,(.int .u32 (aand .u32 x1 (wrapF .u32 (Int.sub (shlI .u32 (1:Int) k1) (1:Int))))))]) (hp 0 []) (.k0 [] [] [6,7]) ?_
 refine .join (v:=v) (fun y:Int×Int=>((fr 29 [(6,(zI y.1)),(7,(.int .u32 y.2))]),(hp 0 []))) (fun y=>m46_0 pu n y.1 y.2) ?_ ?_
 ·rintro ⟨z0, z1⟩ hm
  exact w46_0 pu n z0 z1 hm
 ·refine .block ?_
  refine .loopM (v:=v) (fun y:Int×Int=>((fr 29 [(6,(zI y.1)),(7,(.int .u32 y.2))]),(hp 0 []))) (fun w y=>l46_1 pu n w y.1 y.2) n ⟨((wrapF .i64 (Int.add (1:Int) (Int.tmod (wrapF .i64 x0) x2))),(aand .u32 x1 (wrapF .u32 (Int.sub (shlI .u32 (1:Int) k1) (1:Int))))),hm,(.k0 [] [] [6,7])⟩ (fun _=>rfl) ?_
  rintro w0 ⟨z2,z3⟩ hm
  replace hm:b46_1 pu n (l46_1 pu n w0) z2 z3 = some v:=hm
  unfold b46_1 at hm
  refine .then ?_
  refine .then ?_
  replace hm:=oo_inv hm;obtain ⟨v2,h2,hm⟩:=hm
  replace hm:=inv_toI hm;obtain ⟨x3,rfl,hm⟩:=hm
  refine .reg (eC 1 ((oo (pu 50 [.int .u32 z3]) none fun v=>some (v,(hp 0 [])))) (call_eq h2) (eE)) ?_
  refine .ghs (fr 29 [(6,zI z2),(7,.int .u32 z3),(22,(zB (ilt (6:Int) x3)))]) (hp 0 []) (.k0 [] [] [6,7,22]) ?_
  replace hm:=bb_cases hm;rcases hm with ⟨h3,hm⟩ | ⟨h3,hm⟩
  ·refine .ifT (ilt (6 : Int) x3) (by kernel_rfl) h3 ?_
   refine .skip ?_
   refine .ghs (fr 29 [(6,zI z2),(7,.int .u32 z3)]) (hp 0 []) (.k0 [] [] [6,7]) ?_
   refine .block ?_
   refine .rK ?_
   exact ⟨(z2,(aand .u32 z3 (wrapF .u32 (Int.sub z3 (1:Int))))),hm,(.k0 [] [] [6,7])⟩
  ·refine .ifF (ilt (6 : Int) x3) (by kernel_rfl) h3 ?_
   refine .exit ?_
   exact ⟨(z2,z3),hm,(.k0 [] [] [6,7])⟩

def m47_ (pu:PureF) (n:Nat) (x0 x1:Int):OV:=
 (oo (pu 48 [.int .u32 x1]) none fun v0=>(oo (toSl 1 v0) none fun s0=>(some (.agg ⟨[.int .i64 x0,Sl.v 1 s0]⟩))))
def m47 (pu:PureF) (n:Nat) (args:LV):OV:=
 (ll args none fun a0 args=>(ll args none fun a1 args=>(ll args (oo (toI .i64 a0) none fun x0=>(oo (toI .u32 a1) none fun x1=>(m47_ pu n x0 x1))) fun _ _=>none)))
theorem r47 {call:CallF} (pu:PureF) (n:Nat) (hcall:call = callP tabs isP pu (inl pu)) {args:LV} {v:Value} (hm:m47 pu n args = some v) (_:∀ x ∈ args,closed2 x = true):args.length≤9∧Run tt call 0 c47_3 (Fr.made 9 args) (pureHeap tabs) (Fin tt 0 [.cell 4 24] v):=by
 subst hcall
 unfold m47 at hm
 replace hm:=ll_uncons hm;obtain ⟨a0,args_0,rfl,hm⟩:=hm
 replace hm:=ll_uncons hm;obtain ⟨a1,args_1,rfl,hm⟩:=hm
 replace hm:=ll_end hm;obtain ⟨rfl,hm⟩:=hm
 replace hm:=inv_toI hm;obtain ⟨x0,rfl,hm⟩:=hm
 replace hm:=inv_toI hm;obtain ⟨x1,rfl,hm⟩:=hm
 unfold m47_ at hm
 refine ⟨by simp,?_⟩
 refine .same (F':=(fr 9 [(0,zI x0),(1,.int .u32 x1)])) (H':=(hp 0 [])) (by kernel_rfl) (by kernel_rfl) ?_
 refine .then (.rK ?_)
 refine .ghs (fr 9 [(0,zI x0),(1,.int .u32 x1),(4,(pt 0 0))]) (hp 1 [(oC [(zI (0:Int)),(.slice none 0 0)])]) (.k0 [] [.tmp 4 false] [0,1,4]) ?_
 refine .then ?_
 replace hm:=oo_inv hm;obtain ⟨v0,h0,hm⟩:=hm
 replace hm:=inv_toSl hm;obtain ⟨s0,rfl,hm⟩:=hm
 refine .reg (eC 2 ((oo (pu 48 [.int .u32 x1]) none fun v=>some (v,(hp 1 [(oC [(zI (0:Int)),(.slice none 0 0)])])))) (call_eq h0) (eE)) ?_
 refine .ghs (fr 9 [(4,(pt 0 0))]) (hp 1 [(oC [zI x0,Sl.v 1 s0])]) (.k0 [] [.tmp 4 false] [4]) ?_
 refine .ret ?_
 exact fin_ret (.agg ⟨[zI x0,Sl.v 1 s0]⟩) (by kernel_rfl) (by kernel_rfl) hm
def m48_0 (pu:PureF) (n n0 c0:Nat) (q1:LV):OV:=
 (bb (allL closed1 q1) (bb (an (Nat.ble (0 + n0 * 1) (len q1)) (allL closed1 (takeL (n0 * 1) (dropL 0 q1)))) (some (Sl.v 1 (Sl.mk n0 0 (takeL (n0 * 1) (dropL 0 q1))))) none) none)
def m48_2 (pu:PureF) (n:Nat) (ih0:Int→Nat→Nat→Int→LV→OV) (z0:Int) (n0 c0:Nat) (z1:Int) (q1:LV):OV:=
 (bb (allL closed1 q1) (ih0 z0 n0 c0 (wrapF .i64 (Int.add z1 (1:Int))) q1) none)
def b48_1 (pu:PureF) (n:Nat) (ih0:Int→Nat→Nat→Int→LV→OV) (z0:Int) (n0 c0:Nat) (z1:Int) (q1:LV):OV:=
 (bb (allL closed1 q1) (bb (ilt z1 (21:Int)) (oo (toN z1) none fun k1=>(bb (ieq (aand .u32 (shrI .u32 z0 k1) (1:Int)) (1:Int)) (bb (growC 1 8 n0 c0 1 q1) (bb (allL closed1 (appL (dropL 0 q1) [(.int .i64 (Int.ofNat k1))])) (m48_2 pu n ih0 z0 (n0 + 1) (2 * (n0 + 1) + bb false 1 0) (Int.ofNat k1) (appL (dropL 0 q1) [(.int .i64 (Int.ofNat k1))])) none) none) (m48_2 pu n ih0 z0 n0 c0 (Int.ofNat k1) q1))) (m48_0 pu n n0 c0 q1)) none)
def l48_1 (pu:PureF) (n w:Nat):Int→Nat→Nat→Int→LV→OV:=
 Nat.rec (motive:=fun _=>Int→Nat→Nat→Int→LV→OV) (fun _ _ _ _ _=>none) (fun _ ih0=>b48_1 pu n ih0) w
def m48_ (pu:PureF) (n:Nat) (x0:Int):OV:=
 (l48_1 pu n n x0 0 0 (0:Int) ([]:LV))
def m48 (pu:PureF) (n:Nat) (args:LV):OV:=
 (ll args none fun a0 args=>(ll args (oo (toI .u32 a0) none fun x0=>(m48_ pu n x0)) fun _ _=>none))
theorem w48_0 (pu:PureF) (n n0 c0:Nat) (q1:LV) {v:Value} (hm:m48_0 pu n n0 c0 q1 = some v):Run tt (callP tabs isP pu (inl pu)) 0 c48_20 (fr 19 [(3,sc 0 0 1 n0 c0)]) (hp 1 [oC q1]) (Fin tt 0 [.tmp 2] v):=by
 unfold m48_0 at hm
 refine .then (.rK ?_)
 replace hm:=bb_inv hm;obtain ⟨h0,hm⟩:=hm
 refine .ghs (fr 19 [(2,sc 0 0 1 n0 c0)]) (hp 1 [oC q1]) (.k [0] [] [.tmp 2 false] [2] ⟨trF h0,trivial⟩) ?_
 replace hm:=bb_inv hm;obtain ⟨h1,hm⟩:=hm
 refine .ghs (Fr.puts (fr 19 [(2,sc 0 0 1 n0 c0)]) [(2,(Sl.v 1 (Sl.mk n0 0 (takeL (n0 * 1) (dropL 0 q1)))))]) (hp 1 [.dead]) (.freezeC 0 2 1 (an (Nat.ble (0 + n0 * 1) (len q1)) (allL closed1 (takeL (n0 * 1) (dropL 0 q1)))) (F1:=(Fr.puts (fr 19 [(2,sc 0 0 1 n0 c0)]) [(2,(Sl.v 1 (Sl.mk n0 0 (takeL (n0 * 1) (dropL 0 q1)))))])) (H1:=(hp 1 [.dead])) (by kernel_rfl) (by kernel_rfl) h1 (GhS.id _ _)) ?_
 refine .ret ?_
 exact fin_ret (Sl.v 1 (Sl.mk n0 0 (takeL (n0 * 1) (dropL 0 q1)))) (by kernel_rfl) (by kernel_rfl) hm
theorem r48 {call:CallF} (pu:PureF) (n:Nat) (hcall:call = callP tabs isP pu (inl pu)) {args:LV} {v:Value} (hm:m48 pu n args = some v) (_:∀ x ∈ args,closed2 x = true):args.length≤19∧Run tt call 0 c48_23 (Fr.made 19 args) (pureHeap tabs) (Fin tt 0 [.tmp 2] v):=by
 subst hcall
 unfold m48 at hm
 replace hm:=ll_uncons hm;obtain ⟨a0,args_0,rfl,hm⟩:=hm
 replace hm:=ll_end hm;obtain ⟨rfl,hm⟩:=hm
 replace hm:=inv_toI hm;obtain ⟨x0,rfl,hm⟩:=hm
 unfold m48_ at hm
 refine ⟨by simp,?_⟩
 refine .same (F':=(fr 19 [(0,.int .u32 x0)])) (H':=(hp 0 [])) (by kernel_rfl) (by kernel_rfl) ?_
 refine .then (.rK ?_)
 refine .ghs (fr 19 [(0,.int .u32 x0)]) (hp 0 []) (.k0 [] [] [0]) ?_
 refine .then (.rK ?_)
 refine .ghs (fr 19 [(0,.int .u32 x0),(3,(.slice none 0 0))]) (hp 0 []) (.k0 [] [] [0,3]) ?_
 refine .join (v:=v) (fun y:Nat×Nat×LV=>((fr 19 [(3,(sc 0 0 1 y.1 y.2.1))]),(hp 1 [(oC y.2.2)]))) (fun y=>m48_0 pu n y.1 y.2.1 y.2.2) ?_ ?_
 ·rintro ⟨n0, c0, q1⟩ hm
  exact w48_0 pu n n0 c0 q1 hm
 ·refine .then (.rK ?_)
  refine .ghs (fr 19 [(0,.int .u32 x0),(3,(.slice none 0 0)),(5,(zI (0:Int)))]) (hp 0 []) (.k0 [] [] [0,3,5]) ?_
  refine .block ?_
  refine .loopM (v:=v) (fun y:Int×Nat×Nat×Int×LV=>((fr 19 [(0,(.int .u32 y.1)),(3,(sc 0 0 1 y.2.1 y.2.2.1)),(5,(zI y.2.2.2.1))]),(hp 1 [(oC y.2.2.2.2)]))) (fun w y=>l48_1 pu n w y.1 y.2.1 y.2.2.1 y.2.2.2.1 y.2.2.2.2) n ⟨(x0,0,0,(0:Int),([]:LV)),hm,(.thaw 3 1 (by kernel_rfl) (.k0 [] [.tmp 3 false] [0,3,5]))⟩ (fun _=>rfl) ?_
  rintro w0 ⟨z0,n1,c1,z1,q2⟩ hm
  replace hm:b48_1 pu n (l48_1 pu n w0) z0 n1 c1 z1 q2 = some v:=hm
  unfold b48_1 at hm
  refine .then (.rK ?_)
  replace hm:=bb_inv hm;obtain ⟨h0,hm⟩:=hm
  refine .ghs (fr 19 [(0,.int .u32 z0),(3,sc 0 0 1 n1 c1),(5,zI z1),(6,(zB (ilt z1 (21:Int))))]) (hp 1 [oC q2]) (.k [0] [] [.tmp 3 false] [0,3,5,6] ⟨trF h0,trivial⟩) ?_
  refine .then ?_
  replace hm:=bb_cases hm;rcases hm with ⟨h1,hm⟩ | ⟨h1,hm⟩
  ·refine .ifT (ilt z1 (21 : Int)) (by kernel_rfl) h1 ?_
   refine .skip ?_
   refine .ghs (fr 19 [(0,.int .u32 z0),(3,sc 0 0 1 n1 c1),(5,zI z1)]) (hp 1 [oC q2]) (.k [0] [] [.tmp 3 false] [0,3,5] ⟨trF h0,trivial⟩) ?_
   refine .join (v:=v) (fun y:Int×Nat×Nat×Int×LV=>((fr 19 [(0,(.int .u32 y.1)),(3,(sc 0 0 1 y.2.1 y.2.2.1)),(5,(zI y.2.2.2.1))]),(hp 1 [(oC y.2.2.2.2)]))) (fun y=>m48_2 pu n (l48_1 pu n w0) y.1 y.2.1 y.2.2.1 y.2.2.2.1 y.2.2.2.2) ?_ ?_
   ·rintro ⟨z2, n2, c2, z3, q3⟩ hm
    unfold m48_2 at hm
    refine .rK ?_
    replace hm:=bb_inv hm;obtain ⟨h2,hm⟩:=hm
    exact ⟨(z2,n2,c2,(wrapF .i64 (Int.add z3 (1:Int))),q3),hm,(.k [0] [] [.tmp 3 false] [0,3,5] ⟨trF h2,trivial⟩)⟩
   ·refine .block ?_
    refine .then (.rK ?_)
    refine .ghs (fr 19 [(0,.int .u32 z0),(3,sc 0 0 1 n1 c1),(4,zI z1),(5,zI z1)]) (hp 1 [oC q2]) (.k [0] [] [.tmp 3 false] [0,3,4,5] ⟨trF h0,trivial⟩) ?_
    refine .then ?_
    replace hm:=oo_inv hm;obtain ⟨k1,h3,hm⟩:=hm
    obtain rfl:=toN_some h3
    refine .rK ?_
    refine .ghs (fr 19 [(0,.int .u32 z0),(3,sc 0 0 1 n1 c1),(4,(zI (Int.ofNat k1))),(5,(zI (Int.ofNat k1))),(12,(zB (ieq (aand .u32 (shrI .u32 z0 k1) (1:Int)) (1:Int))))]) (hp 1 [oC q2]) (.k [0] [] [.tmp 3 false] [0,3,4,5,12] ⟨trF h0,trivial⟩) ?_
    replace hm:=bb_cases hm;rcases hm with ⟨h4,hm⟩ | ⟨h4,hm⟩
    ·refine .ifT (ieq (aand .u32 (shrI .u32 z0 k1) (1 : Int)) (1 : Int)) (by kernel_rfl) h4 ?_
     replace hm:=bb_inv hm;obtain ⟨h5,hm⟩:=hm
     refine .reg (eC 3 (growD 1 8 n1 c1 1 0 q2 [(zI (Int.ofNat k1))] [] (hp 2 [oC q2,(oC [(zI (Int.ofNat k1))])])) (growD_eq h5) (eE)) ?_
     replace hm:=bb_inv hm;obtain ⟨h6,hm⟩:=hm
     exact ⟨(z0,(n1 + 1),(d2 (n1 + 1)),(Int.ofNat k1),(appL (dropL 0 q2) [(zI (Int.ofNat k1))])),hm,(.k [2] [] [.tmp 3 false] [0,3,5] ⟨trF h6,trivial⟩)⟩
    ·refine .ifF (ieq (aand .u32 (shrI .u32 z0 k1) (1 : Int)) (1 : Int)) (by kernel_rfl) h4 ?_
     refine .skip ?_
     exact ⟨(z0,n1,c1,(Int.ofNat k1),q2),hm,(.k [0] [] [.tmp 3 false] [0,3,5] ⟨trF h0,trivial⟩)⟩
  ·refine .ifF (ilt z1 (21 : Int)) (by kernel_rfl) h1 ?_
   refine .exit ?_
   exact ⟨(n1,c1,q2),hm,(.k [0] [] [.tmp 3 false] [3] ⟨trF h0,trivial⟩)⟩
def m49_0 (pu:PureF) (n:Nat) (z0:Int):OV:=
 (some (.int .u32 z0))
def b49_1 (pu:PureF) (n:Nat) (ih0:Int→Int→Int→Int→Sl→Int→Int→OV) (z0 z1 z2 z3:Int) (s0:Sl) (z4 z5:Int):OV:=
 (bb (ilt z5 z4) (oo (toN z5) none fun k1=>(bb (an (Nat.blt k1 (Sl.n s0)) true) (oo (nthL (Sl.cs s0) (k1 * 1)) none fun v0=>(oo (toI .i64 v0) none fun x0=>(bb (nt (ieq z0 (0:Int))) (bb (nt (ieq z0 (0:Int))) (oo (toN (Int.tmod (wrapF .i64 (Int.add (Int.tmod (wrapF .i64 (Int.add (wrapF .i64 (Int.mul x0 z1)) z2)) z0) z0)) z0)) none fun k2=>(ih0 z0 z1 z2 (aor .u32 z3 (shlI .u32 (1:Int) k2)) s0 z4 (wrapF .i64 (Int.add (Int.ofNat k1) (1:Int))))) none) none))) none)) (m49_0 pu n z3))
def l49_1 (pu:PureF) (n w:Nat):Int→Int→Int→Int→Sl→Int→Int→OV:=
 Nat.rec (motive:=fun _=>Int→Int→Int→Int→Sl→Int→Int→OV) (fun _ _ _ _ _ _ _=>none) (fun _ ih0=>b49_1 pu n ih0) w
def m49_ (pu:PureF) (n:Nat) (x0 x1 x2 x3:Int):OV:=
 (oo (pu 48 [.int .u32 x1]) none fun v0=>(oo (toSl 1 v0) none fun s0=>(l49_1 pu n n x0 x2 x3 (0:Int) s0 (Int.ofNat (Sl.n s0)) (0:Int))))
def m49 (pu:PureF) (n:Nat) (args:LV):OV:=
 (ll args none fun a0 args=>(ll args none fun a1 args=>(ll args none fun a2 args=>(ll args none fun a3 args=>(ll args (oo (toI .i64 a0) none fun x0=>(oo (toI .u32 a1) none fun x1=>(oo (toI .i64 a2) none fun x2=>(oo (toI .i64 a3) none fun x3=>(m49_ pu n x0 x1 x2 x3))))) fun _ _=>none)))))
theorem w49_0 (pu:PureF) (n:Nat) (z0:Int) {v:Value} (hm:m49_0 pu n z0 = some v):Run tt (callP tabs isP pu (inl pu)) 0 c49_17 (fr 35 [(9,.int .u32 z0)]) (hp 0 []) (Fin tt 0 [.tmp 8] v):=by
 unfold m49_0 at hm
 refine .then (.rK ?_)
 refine .ghs (fr 35 [(8,.int .u32 z0)]) (hp 0 []) (.k0 [] [] [8]) ?_
 refine .ret ?_
 exact fin_ret (.int .u32 z0) (by kernel_rfl) (by kernel_rfl) hm
theorem r49 {call:CallF} (pu:PureF) (n:Nat) (hcall:call = callP tabs isP pu (inl pu)) {args:LV} {v:Value} (hm:m49 pu n args = some v) (_:∀ x ∈ args,closed2 x = true):args.length≤35∧Run tt call 0 c49_20 (Fr.made 35 args) (pureHeap tabs) (Fin tt 0 [.tmp 8] v):=by
 subst hcall
 unfold m49 at hm
 replace hm:=ll_uncons hm;obtain ⟨a0,args_0,rfl,hm⟩:=hm
 replace hm:=ll_uncons hm;obtain ⟨a1,args_1,rfl,hm⟩:=hm
 replace hm:=ll_uncons hm;obtain ⟨a2,args_2,rfl,hm⟩:=hm
 replace hm:=ll_uncons hm;obtain ⟨a3,args_3,rfl,hm⟩:=hm
 replace hm:=ll_end hm;obtain ⟨rfl,hm⟩:=hm
 replace hm:=inv_toI hm;obtain ⟨x0,rfl,hm⟩:=hm
 replace hm:=inv_toI hm;obtain ⟨x1,rfl,hm⟩:=hm
 replace hm:=inv_toI hm;obtain ⟨x2,rfl,hm⟩:=hm
 replace hm:=inv_toI hm;obtain ⟨x3,rfl,hm⟩:=hm
 unfold m49_ at hm
 refine ⟨by simp,?_⟩
 refine .same (F':=(fr 35 [(0,zI x0),(1,.int .u32 x1),(2,zI x2),(3,zI x3)])) (H':=(hp 0 [])) (by kernel_rfl) (by kernel_rfl) ?_
 refine .then (.rK ?_)
 refine .ghs (fr 35 [(0,zI x0),(1,.int .u32 x1),(2,zI x2),(3,zI x3)]) (hp 0 []) (.k0 [] [] [0,1,2,3]) ?_
 refine .then (.rK ?_)
 refine .ghs (fr 35 [(0,zI x0),(1,.int .u32 x1),(2,zI x2),(3,zI x3),(9,(.int .u32 (0:Int)))]) (hp 0 []) (.k0 [] [] [0,1,2,3,9]) ?_
 refine .join (v:=v) (fun y:Int=>((fr 35 [(9,.int .u32 y)]),(hp 0 []))) (fun y=>m49_0 pu n y) ?_ ?_
 ·rintro z0 hm
  exact w49_0 pu n z0 hm
 ·refine .then ?_
  replace hm:=oo_inv hm;obtain ⟨v0,h0,hm⟩:=hm
  replace hm:=inv_toSl hm;obtain ⟨s0,rfl,hm⟩:=hm
  refine .reg (eC 1 ((oo (pu 48 [.int .u32 x1]) none fun v=>some (v,(hp 0 [])))) (call_eq h0) (eE)) ?_
  refine .ghs (fr 35 [(0,zI x0),(2,zI x2),(3,zI x3),(9,(.int .u32 (0:Int))),(13,Sl.v 1 s0),(14,(zI (Int.ofNat (Sl.n s0)))),(15,(zI (0:Int)))]) (hp 0 []) (.k0 [] [] [0,2,3,9,13,14,15]) ?_
  refine .block ?_
  refine .loopM (v:=v) (fun y:Int×Int×Int×Int×Sl×Int×Int=>((fr 35 [(0,(zI y.1)),(2,(zI y.2.1)),(3,(zI y.2.2.1)),(9,(.int .u32 y.2.2.2.1)),(13,(Sl.v 1 y.2.2.2.2.1)),(14,(zI y.2.2.2.2.2.1)),(15,(zI y.2.2.2.2.2.2))]),(hp 0 []))) (fun w y=>l49_1 pu n w y.1 y.2.1 y.2.2.1 y.2.2.2.1 y.2.2.2.2.1 y.2.2.2.2.2.1 y.2.2.2.2.2.2) n ⟨(x0,x2,x3,(0:Int),s0,(Int.ofNat (Sl.n s0)),(0:Int)),hm,(.k0 [] [] [0,2,3,9,13,14,15])⟩ (fun _=>rfl) ?_
  rintro w0 ⟨z1,z2,z3,z4,s1,z5,z6⟩ hm
  replace hm:b49_1 pu n (l49_1 pu n w0) z1 z2 z3 z4 s1 z5 z6 = some v:=hm
  unfold b49_1 at hm
  refine .then (.rK ?_)
  refine .ghs (fr 35 [(0,zI z1),(2,zI z2),(3,zI z3),(9,.int .u32 z4),(13,Sl.v 1 s1),(14,zI z5),(15,zI z6),(16,(zB (ilt z6 z5)))]) (hp 0 []) (.k0 [] [] [0,2,3,9,13,14,15,16]) ?_
  refine .then ?_
  replace hm:=bb_cases hm;rcases hm with ⟨h1,hm⟩ | ⟨h1,hm⟩
  ·refine .ifT (ilt z6 z5) (by kernel_rfl) h1 ?_
   refine .skip ?_
   refine .ghs (fr 35 [(0,zI z1),(2,zI z2),(3,zI z3),(9,.int .u32 z4),(13,Sl.v 1 s1),(14,zI z5),(15,zI z6)]) (hp 0 []) (.k0 [] [] [0,2,3,9,13,14,15]) ?_
   refine .then ?_
   refine .block ?_
   refine .then ?_
   replace hm:=oo_inv hm;obtain ⟨k1,h2,hm⟩:=hm
   obtain rfl:=toN_some h2
   replace hm:=bb_inv hm;obtain ⟨h3,hm⟩:=hm
   replace hm:=oo_inv hm;obtain ⟨v1,h4,hm⟩:=hm
   replace hm:=inv_toI hm;obtain ⟨x4,rfl,hm⟩:=hm
   refine .reg (eD (keep (hp 0 []) (bb (an (Nat.blt k1 (Sl.n s1)) true) (some (fpV (k1 * 1) (Sl.cs s1))) none)) (keep_bb h3) (eD (keep (hp 0 []) (nthL (Sl.cs s1) (k1 * 1))) (keep_eq h4) (eE))) ?_
   refine .ghs (fr 35 [(0,zI z1),(2,zI z2),(3,zI z3),(9,.int .u32 z4),(11,zI x4),(13,Sl.v 1 s1),(14,zI z5),(15,(zI (Int.ofNat k1)))]) (hp 0 []) (.k0 [] [] [0,2,3,9,11,13,14,15]) ?_
   replace hm:=bb_inv hm;obtain ⟨h5,hm⟩:=hm
   replace hm:=bb_inv hm;obtain ⟨h6,hm⟩:=hm
   replace hm:=oo_inv hm;obtain ⟨k2,h7,hm⟩:=hm
   refine .reg (eC 7 (keep (hp 0 []) (bb (ieq z1 (0:Int)) none (some (zI (Int.tmod (wrapF .i64 (Int.add (wrapF .i64 (Int.mul x4 z2)) z3)) z1))))) (keep_nb h5) (eC 3 (keep (hp 0 []) (bb (ieq z1 (0:Int)) none (some (zI (Int.tmod (wrapF .i64 (Int.add (Int.tmod (wrapF .i64 (Int.add (wrapF .i64 (Int.mul x4 z2)) z3)) z1) z1)) z1))))) (show _ = some ((zI (Int.ofNat k2)),_) from (nat_eq (X:=(Int.tmod (wrapF .i64 (Int.add (Int.tmod (wrapF .i64 (Int.add (wrapF .i64 (Int.mul x4 z2)) z3)) z1) z1)) z1)) (keep_nb h6) h7)) (eE))) ?_
   refine .ghs (fr 35 [(0,zI z1),(2,zI z2),(3,zI z3),(9,(.int .u32 (aor .u32 z4 (shlI .u32 (1:Int) k2)))),(13,Sl.v 1 s1),(14,zI z5),(15,(zI (Int.ofNat k1)))]) (hp 0 []) (.k0 [] [] [0,2,3,9,13,14,15]) ?_
   refine .rK ?_
   exact ⟨(z1,z2,z3,(aor .u32 z4 (shlI .u32 (1:Int) k2)),s1,z5,(wrapF .i64 (Int.add (Int.ofNat k1) (1:Int)))),hm,(.k0 [] [] [0,2,3,9,13,14,15])⟩
  ·refine .ifF (ilt z6 z5) (by kernel_rfl) h1 ?_
   refine .exit ?_
   exact ⟨z4,hm,(.k0 [] [] [9])⟩

def m50_ (pu:PureF) (n:Nat) (x0:Int):OV:=
 (oo (toN (shrI .u32 x0 24)) none fun k1=>(oo (str0[k1]?) none fun c0=>(oo (toN (aand .u32 (shrI .u32 x0 16) (255:Int))) none fun k2=>(oo (str0[k2]?) none fun c1=>(oo (toN (aand .u32 (shrI .u32 x0 8) (255:Int))) none fun k3=>(oo (str0[k3]?) none fun c2=>(oo (toN (aand .u32 x0 (255:Int))) none fun k4=>(oo (str0[k4]?) none fun c3=>(some (.int .i64 (wrapF .i64 (wrapF .u8 (Int.add (wrapF .u8 (Int.add (wrapF .u8 (Int.add (Int.ofNat (UInt8.toNat c0)) (Int.ofNat (UInt8.toNat c1)))) (Int.ofNat (UInt8.toNat c2)))) (Int.ofNat (UInt8.toNat c3)))))))))))))))
def m50 (pu:PureF) (n:Nat) (args:LV):OV:=
 (ll args none fun a0 args=>(ll args (oo (toI .u32 a0) none fun x0=>(m50_ pu n x0)) fun _ _=>none))
theorem r50 {call:CallF} (pu:PureF) (n:Nat) (hcall:call = callP tabs isP pu (inl pu)) {args:LV} {v:Value} (hm:m50 pu n args = some v) (_:∀ x ∈ args,closed2 x = true):args.length≤21∧Run tt call 0 c50_3 (Fr.made 21 args) (pureHeap tabs) (Fin tt 0 [.tmp 2] v):=by
 subst hcall
 unfold m50 at hm
 replace hm:=ll_uncons hm;obtain ⟨a0,args_0,rfl,hm⟩:=hm
 replace hm:=ll_end hm;obtain ⟨rfl,hm⟩:=hm
 replace hm:=inv_toI hm;obtain ⟨x0,rfl,hm⟩:=hm
 unfold m50_ at hm
 refine ⟨by simp,?_⟩
 refine .same (F':=(fr 21 [(0,.int .u32 x0)])) (H':=(hp 0 [])) (by kernel_rfl) (by kernel_rfl) ?_
 refine .then (.rK ?_)
 refine .ghs (fr 21 [(0,.int .u32 x0)]) (hp 0 []) (.k0 [] [] [0]) ?_
 refine .then ?_
 replace hm:=oo_inv hm;obtain ⟨k1,h0,hm⟩:=hm
 replace hm:=oo_inv hm;obtain ⟨c0,h1,hm⟩:=hm
 replace hm:=oo_inv hm;obtain ⟨k2,h2,hm⟩:=hm
 replace hm:=oo_inv hm;obtain ⟨c1,h3,hm⟩:=hm
 replace hm:=oo_inv hm;obtain ⟨k3,h4,hm⟩:=hm
 replace hm:=oo_inv hm;obtain ⟨c2,h5,hm⟩:=hm
 replace hm:=oo_inv hm;obtain ⟨k4,h6,hm⟩:=hm
 replace hm:=oo_inv hm;obtain ⟨c3,h7,hm⟩:=hm
 refine .reg (eN 6 (Fr.puts (fr 21 [(0,.int .u32 x0)]) [(3,.int .u32 x0),(4,(.int .u32 (Int.ofNat k1))),(5,(zY (Int.ofNat (UInt8.toNat c0)))),(6,.int .u32 x0),(7,(.int .u32 (shrI .u32 x0 16))),(8,(.int .u32 (Int.ofNat k2)))]) (hp 0 []) (eC 1 (some ((.int .u32 (shrI .u32 x0 24)),(hp 0 []))) (show _ = some ((.int .u32 (Int.ofNat k1)),_) from (by rw [toN_some h0])) (eD (keep (hp 0 []) (oo (str0[k1]?) none fun b=>iv .u8 (.ofNat b.toNat))) (ix_eq h1) (eC 2 (some ((.int .u32 (aand .u32 (shrI .u32 x0 16) (255:Int))),(hp 0 []))) (show _ = some ((.int .u32 (Int.ofNat k2)),_) from (by rw [toN_some h2])) (by kernel_rfl)))) (eD (keep (hp 0 []) (oo (str0[k2]?) none fun b=>iv .u8 (.ofNat b.toNat))) (ix_eq h3) (eC 3 (some ((.int .u32 (aand .u32 (shrI .u32 x0 8) (255:Int))),(hp 0 []))) (show _ = some ((.int .u32 (Int.ofNat k3)),_) from (by rw [toN_some h4])) (eD (keep (hp 0 []) (oo (str0[k3]?) none fun b=>iv .u8 (.ofNat b.toNat))) (ix_eq h5) (eC 2 (some ((.int .u32 (aand .u32 x0 (255:Int))),(hp 0 []))) (show _ = some ((.int .u32 (Int.ofNat k4)),_) from (by rw [toN_some h6])) (eD (keep (hp 0 []) (oo (str0[k4]?) none fun b=>iv .u8 (.ofNat b.toNat))) (ix_eq h7) (eE))))))) ?_
 refine .ghs (fr 21 [(2,(zI (wrapF .i64 (wrapF .u8 (Int.add (wrapF .u8 (Int.add (wrapF .u8 (Int.add (Int.ofNat (UInt8.toNat c0)) (Int.ofNat (UInt8.toNat c1)))) (Int.ofNat (UInt8.toNat c2)))) (Int.ofNat (UInt8.toNat c3)))))))]) (hp 0 []) (.k0 [] [] [2]) ?_
 refine .ret ?_
 exact fin_ret (zI (wrapF .i64 (wrapF .u8 (Int.add (wrapF .u8 (Int.add (wrapF .u8 (Int.add (Int.ofNat (UInt8.toNat c0)) (Int.ofNat (UInt8.toNat c1)))) (Int.ofNat (UInt8.toNat c2)))) (Int.ofNat (UInt8.toNat c3)))))) (by kernel_rfl) (by kernel_rfl) hm
def m15_0 (pu:PureF) (n n0 c0:Nat) (q1:LV):OV:=
 (bb (allL closed1 q1) (bb (an (Nat.ble (0 + n0 * 1) (len q1)) (allL closed1 (takeL (n0 * 1) (dropL 0 q1)))) (some (.tuple ⟨[(Sl.v 1 (Sl.mk n0 0 (takeL (n0 * 1) (dropL 0 q1)))),(.int .i64 (0:Int))]⟩)) none) none)
def b15_1 (pu:PureF) (n:Nat) (ih0:Nat→Nat→Sl→Int→Int→Int→Sl→Int→Int→LV→OV) (n0 c0:Nat) (s0:Sl) (z0 z1 z2:Int) (s1:Sl) (z3 z4:Int) (q1:LV):OV:=
 (bb (allL closed1 q1) (bb (ilt z1 z0) (oo (toN z1) none fun k1=>(bb (an (Nat.blt k1 (Sl.n s0)) true) (oo (nthL (Sl.cs s0) (k1 * 1)) none fun v0=>(oo (toI .i64 v0) none fun x0=>(bb (nt (ieq (Int.ofNat (Sl.n s1)) (0:Int))) (oo (toN (Int.tmod (wrapF .i64 (Int.add (Int.ofNat k1) (1:Int))) (Int.ofNat (Sl.n s1)))) none fun k2=>(bb (an (Nat.blt k2 (Sl.n s1)) true) (oo (nthL (Sl.cs s1) (k2 * 1)) none fun v1=>(oo (toI .i64 v1) none fun x1=>(oo (pu 62 [(.agg ⟨[.int .i64 z3,.int .u32 z4]⟩),(.int .i64 (wrapF .i64 (Int.sub (wrapF .i64 (Int.sub x1 x0)) (1:Int))))]) none fun v2=>(oo (toI .i64 v2) none fun x2=>(bb (growC 1 8 n0 c0 1 q1) (bb (allL closed1 (appL (dropL 0 q1) [(.int .i64 (wrapF .i64 (Int.add x2 (1:Int))))])) (ih0 (n0 + 1) (2 * (n0 + 1) + bb false 1 0) s0 z0 (wrapF .i64 (Int.add (Int.ofNat k1) (1:Int))) z2 s1 z3 z4 (appL (dropL 0 q1) [(.int .i64 (wrapF .i64 (Int.add x2 (1:Int))))])) none) none))))) none)) none))) none)) (m15_0 pu n n0 c0 q1)) none)
def l15_1 (pu:PureF) (n w:Nat):Nat→Nat→Sl→Int→Int→Int→Sl→Int→Int→LV→OV:=
 Nat.rec (motive:=fun _=>Nat→Nat→Sl→Int→Int→Int→Sl→Int→Int→LV→OV) (fun _ _ _ _ _ _ _ _ _ _=>none) (fun _ ih0=>b15_1 pu n ih0) w
def m15_ (pu:PureF) (n:Nat) (x0:Int) (s0:Sl):OV:=
 (oo (pu 61 [(.agg ⟨[.int .i64 x0,Sl.v 1 s0]⟩)]) none fun v0=>(oo (vTup v0) none fun l0=>(ll l0 none fun v1 l0=>(ll l0 none fun v2 l0=>(ll l0 (oo (vAgg v1) none fun l1=>(ll l1 none fun v3 l1=>(ll l1 none fun v4 l1=>(ll l1 (oo (toI .i64 v3) none fun x1=>(oo (toI .u32 v4) none fun x2=>(oo (toI .i64 v2) none fun x3=>(bb (nt (ieq x3 (0:Int))) (some (.tuple ⟨[(Sl.v 1 (Sl.mk 0 2 [])),.int .i64 x3]⟩)) (bb (ieq x2 (0:Int)) (some (.tuple ⟨[(Sl.v 1 (Sl.mk 0 2 [])),(.int .i64 (4:Int))]⟩)) (l15_1 pu n n 0 0 s0 (Int.ofNat (Sl.n s0)) (0:Int) x0 s0 x1 x2 ([]:LV))))))) fun _ _=>none)))) fun _ _=>none)))))
def m15 (pu:PureF) (n:Nat) (args:LV):OV:=
 (ll args none fun a0 args=>(ll args (oo (vAgg a0) none fun l0=>(ll l0 none fun v0 l0=>(ll l0 none fun v1 l0=>(ll l0 (oo (toI .i64 v0) none fun x0=>(oo (toSl 1 v1) none fun s0=>(m15_ pu n x0 s0))) fun _ _=>none)))) fun _ _=>none))
theorem w15_0 (pu:PureF) (n n0 c0:Nat) (q1:LV) {v:Value} (hm:m15_0 pu n n0 c0 q1 = some v):Run tt (callP tabs isP pu (inl pu)) 0 c15_31 (fr 53 [(6,sc 0 0 1 n0 c0)]) (hp 1 [oC q1]) (Fin tt 0 [.tmp 2,.tmp 3] v):=by
 unfold m15_0 at hm
 refine .then (.rK ?_)
 replace hm:=bb_inv hm;obtain ⟨h0,hm⟩:=hm
 refine .ghs (fr 53 [(2,sc 0 0 1 n0 c0),(3,(zI (0:Int)))]) (hp 1 [oC q1]) (.k [0] [] [.tmp 2 false] [2,3] ⟨trF h0,trivial⟩) ?_
 replace hm:=bb_inv hm;obtain ⟨h1,hm⟩:=hm
 refine .ghs (Fr.puts (fr 53 [(2,sc 0 0 1 n0 c0),(3,(zI (0:Int)))]) [(2,(Sl.v 1 (Sl.mk n0 0 (takeL (n0 * 1) (dropL 0 q1)))))]) (hp 1 [.dead]) (.freezeC 0 2 1 (an (Nat.ble (0 + n0 * 1) (len q1)) (allL closed1 (takeL (n0 * 1) (dropL 0 q1)))) (F1:=(Fr.puts (fr 53 [(2,sc 0 0 1 n0 c0),(3,(zI (0:Int)))]) [(2,(Sl.v 1 (Sl.mk n0 0 (takeL (n0 * 1) (dropL 0 q1)))))])) (H1:=(hp 1 [.dead])) (by kernel_rfl) (by kernel_rfl) h1 (GhS.id _ _)) ?_
 refine .ret ?_
 exact fin_ret (.tuple ⟨[(Sl.v 1 (Sl.mk n0 0 (takeL (n0 * 1) (dropL 0 q1)))),(zI (0:Int))]⟩) (by kernel_rfl) (by kernel_rfl) hm
theorem r15 {call:CallF} (pu:PureF) (n:Nat) (hcall:call = callP tabs isP pu (inl pu)) {args:LV} {v:Value} (hm:m15 pu n args = some v) (_:∀ x ∈ args,closed2 x = true):args.length≤53∧Run tt call 0 c15_36 (Fr.made 53 args) (pureHeap tabs) (Fin tt 0 [.tmp 2,.tmp 3] v):=by
 subst hcall
 unfold m15 at hm
 replace hm:=ll_uncons hm;obtain ⟨a0,args_0,rfl,hm⟩:=hm
 replace hm:=ll_end hm;obtain ⟨rfl,hm⟩:=hm
 replace hm:=inv_vAgg hm;obtain ⟨l0,rfl,hm⟩:=hm
 replace hm:=ll_uncons hm;obtain ⟨v0,l2582_0,rfl,hm⟩:=hm
 replace hm:=ll_uncons hm;obtain ⟨v1,l2582_1,rfl,hm⟩:=hm
 replace hm:=ll_end hm;obtain ⟨rfl,hm⟩:=hm
 replace hm:=inv_toI hm;obtain ⟨x0,rfl,hm⟩:=hm
 replace hm:=inv_toSl hm;obtain ⟨s0,rfl,hm⟩:=hm
 unfold m15_ at hm
 refine ⟨by simp,?_⟩
 refine .same (F':=(fr 53 [(0,(.agg ⟨[zI x0,Sl.v 1 s0]⟩))])) (H':=(hp 0 [])) (by kernel_rfl) (by kernel_rfl) ?_
 refine .then (.rK ?_)
 refine .ghs (fr 53 [(1,(pt 0 0))]) (hp 1 [(oC [zI x0,Sl.v 1 s0])]) (.k0 [] [.tmp 1 false] [1]) ?_
 refine .then ?_
 replace hm:=oo_inv hm;obtain ⟨v2,h0,hm⟩:=hm
 replace hm:=inv_vTup hm;obtain ⟨l1,rfl,hm⟩:=hm
 replace hm:=ll_uncons hm;obtain ⟨v3,l2608_0,rfl,hm⟩:=hm
 replace hm:=ll_uncons hm;obtain ⟨v4,l2608_1,rfl,hm⟩:=hm
 replace hm:=ll_end hm;obtain ⟨rfl,hm⟩:=hm
 replace hm:=inv_vAgg hm;obtain ⟨l2,rfl,hm⟩:=hm
 replace hm:=ll_uncons hm;obtain ⟨v5,l2612_0,rfl,hm⟩:=hm
 replace hm:=ll_uncons hm;obtain ⟨v6,l2612_1,rfl,hm⟩:=hm
 replace hm:=ll_end hm;obtain ⟨rfl,hm⟩:=hm
 replace hm:=inv_toI hm;obtain ⟨x1,rfl,hm⟩:=hm
 replace hm:=inv_toI hm;obtain ⟨x2,rfl,hm⟩:=hm
 replace hm:=inv_toI hm;obtain ⟨x3,rfl,hm⟩:=hm
 refine .reg (eC 1 ((oo (pu 61 [(.agg ⟨[zI x0,Sl.v 1 s0]⟩)]) none fun v=>some (v,(hp 1 [(oC [zI x0,Sl.v 1 s0])])))) (call_eq h0) (eE)) ?_
 refine .ghs (fr 53 [(1,(pt 0 0)),(4,pt 1 0),(5,zI x3)]) (hp 2 [(oC [zI x0,Sl.v 1 s0]),(oC [zI x1,.int .u32 x2])]) (.k0 [] [.tmp 1 false,.tmp 4 false] [1,4,5]) ?_
 refine .then ?_
 refine .block ?_
 refine .then (.rK ?_)
 refine .ghs (fr 53 [(1,(pt 0 0)),(4,pt 1 0),(5,zI x3),(15,(zB (nt (ieq x3 (0:Int)))))]) (hp 2 [(oC [zI x0,Sl.v 1 s0]),(oC [zI x1,.int .u32 x2])]) (.k0 [] [.tmp 1 false,.tmp 4 false] [1,4,5,15]) ?_
 replace hm:=bb_cases hm;rcases hm with ⟨h1,hm⟩ | ⟨h1,hm⟩
 ·refine .ifT (nt (ieq x3 (0 : Int))) (by kernel_rfl) h1 ?_
  refine .then (.rK ?_)
  refine .ghs (fr 53 [(2,(.slice none 0 0)),(3,zI x3)]) (hp 0 []) (.k0 [] [] [2,3]) ?_
  refine .ghs (Fr.puts (fr 53 [(2,(.slice none 0 0)),(3,zI x3)]) [(2,(Sl.v 1 (Sl.mk 0 2 [])))]) (hp 0 []) (.freeze 0 2 1 (by kernel_rfl) (by kernel_rfl) (GhS.id _ _)) ?_
  refine .ret ?_
  exact fin_ret (.tuple ⟨[(Sl.v 1 (Sl.mk 0 2 [])),zI x3]⟩) (by kernel_rfl) (by kernel_rfl) hm
 ·refine .ifF (nt (ieq x3 (0 : Int))) (by kernel_rfl) h1 ?_
  refine .then (.rK ?_)
  refine .ghs (fr 53 [(1,(pt 0 0)),(4,pt 1 0),(19,(zB (ieq x2 (0:Int))))]) (hp 2 [(oC [zI x0,Sl.v 1 s0]),(oC [zI x1,.int .u32 x2])]) (.k0 [] [.tmp 1 false,.tmp 4 false] [1,4,19]) ?_
  replace hm:=bb_cases hm;rcases hm with ⟨h2,hm⟩ | ⟨h2,hm⟩
  ·refine .ifT (ieq x2 (0 : Int)) (by kernel_rfl) h2 ?_
   refine .then (.rK ?_)
   refine .ghs (fr 53 [(2,(.slice none 0 0)),(3,(zI (4:Int)))]) (hp 0 []) (.k0 [] [] [2,3]) ?_
   refine .ghs (Fr.puts (fr 53 [(2,(.slice none 0 0)),(3,(zI (4:Int)))]) [(2,(Sl.v 1 (Sl.mk 0 2 [])))]) (hp 0 []) (.freeze 0 2 1 (by kernel_rfl) (by kernel_rfl) (GhS.id _ _)) ?_
   refine .ret ?_
   exact fin_ret (.tuple ⟨[(Sl.v 1 (Sl.mk 0 2 [])),(zI (4:Int))]⟩) (by kernel_rfl) (by kernel_rfl) hm
  ·refine .ifF (ieq x2 (0 : Int)) (by kernel_rfl) h2 ?_
   refine .skip ?_
   refine .ghs (fr 53 [(1,(pt 0 0)),(4,pt 1 0)]) (hp 2 [(oC [zI x0,Sl.v 1 s0]),(oC [zI x1,.int .u32 x2])]) (.k0 [] [.tmp 1 false,.tmp 4 false] [1,4]) ?_
   refine .then (.rK ?_)
   refine .ghs (fr 53 [(1,(pt 0 0)),(4,pt 1 0),(6,(.slice none 0 0))]) (hp 2 [(oC [zI x0,Sl.v 1 s0]),(oC [zI x1,.int .u32 x2])]) (.k0 [] [.tmp 1 false,.tmp 4 false] [1,4,6]) ?_
   refine .join (v:=v) (fun y:Nat×Nat×LV=>((fr 53 [(6,(sc 0 0 1 y.1 y.2.1))]),(hp 1 [(oC y.2.2)]))) (fun y=>m15_0 pu n y.1 y.2.1 y.2.2) ?_ ?_
   ·rintro ⟨n0, c0, q1⟩ hm
    exact w15_0 pu n n0 c0 q1 hm
   ·refine .then (.rK ?_)
    refine .ghs (fr 53 [(1,(pt 0 0)),(4,pt 1 0),(6,(.slice none 0 0)),(24,Sl.v 1 s0),(25,(zI (Int.ofNat (Sl.n s0)))),(26,(zI (0:Int)))]) (hp 2 [(oC [zI x0,Sl.v 1 s0]),(oC [zI x1,.int .u32 x2])]) (.k0 [] [.tmp 1 false,.tmp 4 false] [1,4,6,24,25,26]) ?_
    refine .block ?_
    refine .loopM (v:=v) (fun y:Nat×Nat×Sl×Int×Int×Int×Sl×Int×Int×LV=>((fr 53 [(1,(pt 0 0)),(4,pt 1 0),(6,(sc 2 0 1 y.1 y.2.1)),(24,(Sl.v 1 y.2.2.1)),(25,(zI y.2.2.2.1)),(26,(zI y.2.2.2.2.1))]),(hp 3 [(oC [(zI y.2.2.2.2.2.1),(Sl.v 1 y.2.2.2.2.2.2.1)]),(oC [(zI y.2.2.2.2.2.2.2.1),(.int .u32 y.2.2.2.2.2.2.2.2.1)]),(oC y.2.2.2.2.2.2.2.2.2)]))) (fun w y=>l15_1 pu n w y.1 y.2.1 y.2.2.1 y.2.2.2.1 y.2.2.2.2.1 y.2.2.2.2.2.1 y.2.2.2.2.2.2.1 y.2.2.2.2.2.2.2.1 y.2.2.2.2.2.2.2.2.1 y.2.2.2.2.2.2.2.2.2) n ⟨(0,0,s0,(Int.ofNat (Sl.n s0)),(0:Int),x0,s0,x1,x2,([]:LV)),hm,(.thaw 6 1 (by kernel_rfl) (.k0 [] [.tmp 1 false,.tmp 4 false,.tmp 6 false] [1,4,6,24,25,26]))⟩ (fun _=>rfl) ?_
    rintro w0 ⟨n1,c1,s1,z0,z1,z2,s2,z3,z4,q2⟩ hm
    replace hm:b15_1 pu n (l15_1 pu n w0) n1 c1 s1 z0 z1 z2 s2 z3 z4 q2 = some v:=hm
    unfold b15_1 at hm
    refine .then (.rK ?_)
    replace hm:=bb_inv hm;obtain ⟨h3,hm⟩:=hm
    refine .ghs (fr 53 [(1,(pt 0 0)),(4,pt 1 0),(6,sc 2 0 1 n1 c1),(24,Sl.v 1 s1),(25,zI z0),(26,zI z1),(27,(zB (ilt z1 z0)))]) (hp 3 [(oC [zI z2,Sl.v 1 s2]),(oC [zI z3,.int .u32 z4]),oC q2]) (.k [2] [] [.tmp 1 false,.tmp 4 false,.tmp 6 false] [1,4,6,24,25,26,27] ⟨trF h3,trivial⟩) ?_
    refine .then ?_
    replace hm:=bb_cases hm;rcases hm with ⟨h4,hm⟩ | ⟨h4,hm⟩
    ·refine .ifT (ilt z1 z0) (by kernel_rfl) h4 ?_
     refine .skip ?_
     refine .ghs (fr 53 [(1,(pt 0 0)),(4,pt 1 0),(6,sc 2 0 1 n1 c1),(24,Sl.v 1 s1),(25,zI z0),(26,zI z1)]) (hp 3 [(oC [zI z2,Sl.v 1 s2]),(oC [zI z3,.int .u32 z4]),oC q2]) (.k [2] [] [.tmp 1 false,.tmp 4 false,.tmp 6 false] [1,4,6,24,25,26] ⟨trF h3,trivial⟩) ?_
     refine .then ?_
     refine .block ?_
     refine .then ?_
     replace hm:=oo_inv hm;obtain ⟨k1,h5,hm⟩:=hm
     obtain rfl:=toN_some h5
     replace hm:=bb_inv hm;obtain ⟨h6,hm⟩:=hm
     replace hm:=oo_inv hm;obtain ⟨v7,h7,hm⟩:=hm
     replace hm:=inv_toI hm;obtain ⟨x4,rfl,hm⟩:=hm
     refine .reg (eC 1 (keep (hp 3 [(oC [zI z2,Sl.v 1 s2]),(oC [zI z3,.int .u32 z4]),oC q2]) (bb (an (Nat.blt k1 (Sl.n s1)) true) (some (fpV (k1 * 1) (Sl.cs s1))) none)) (keep_bb h6) (eD (keep (hp 3 [(oC [zI z2,Sl.v 1 s2]),(oC [zI z3,.int .u32 z4]),oC q2]) (nthL (Sl.cs s1) (k1 * 1))) (keep_eq h7) (eE))) ?_
     refine .ghs (fr 53 [(1,(pt 0 0)),(4,pt 1 0),(6,sc 2 0 1 n1 c1),(7,(zI (Int.ofNat k1))),(8,zI x4),(24,Sl.v 1 s1),(25,zI z0),(26,(zI (Int.ofNat k1)))]) (hp 3 [(oC [zI z2,Sl.v 1 s2]),(oC [zI z3,.int .u32 z4]),oC q2]) (.k [2] [] [.tmp 1 false,.tmp 4 false,.tmp 6 false] [1,4,6,7,8,24,25,26] ⟨trF h3,trivial⟩) ?_
     refine .then ?_
     replace hm:=bb_inv hm;obtain ⟨h8,hm⟩:=hm
     replace hm:=oo_inv hm;obtain ⟨k2,h9,hm⟩:=hm
     replace hm:=bb_inv hm;obtain ⟨h10,hm⟩:=hm
     replace hm:=oo_inv hm;obtain ⟨v8,h11,hm⟩:=hm
     replace hm:=inv_toI hm;obtain ⟨x5,rfl,hm⟩:=hm
     refine .reg (eC 7 (keep (hp 3 [(oC [zI z2,Sl.v 1 s2]),(oC [zI z3,.int .u32 z4]),oC q2]) (bb (ieq (Int.ofNat (Sl.n s2)) (0:Int)) none (some (zI (Int.tmod (wrapF .i64 (Int.add (Int.ofNat k1) (1:Int))) (Int.ofNat (Sl.n s2))))))) (show _ = some ((zI (Int.ofNat k2)),_) from (nat_eq (X:=(Int.tmod (wrapF .i64 (Int.add (Int.ofNat k1) (1:Int))) (Int.ofNat (Sl.n s2)))) (keep_nb h8) h9)) (eD (keep (hp 3 [(oC [zI z2,Sl.v 1 s2]),(oC [zI z3,.int .u32 z4]),oC q2]) (bb (an (Nat.blt k2 (Sl.n s2)) true) (some (fpV (k2 * 1) (Sl.cs s2))) none)) (keep_bb h10) (eD (keep (hp 3 [(oC [zI z2,Sl.v 1 s2]),(oC [zI z3,.int .u32 z4]),oC q2]) (nthL (Sl.cs s2) (k2 * 1))) (keep_eq h11) (eE)))) ?_
     refine .ghs (fr 53 [(1,(pt 0 0)),(4,pt 1 0),(6,sc 2 0 1 n1 c1),(8,zI x4),(9,zI x5),(24,Sl.v 1 s1),(25,zI z0),(26,(zI (Int.ofNat k1)))]) (hp 3 [(oC [zI z2,Sl.v 1 s2]),(oC [zI z3,.int .u32 z4]),oC q2]) (.k [2] [] [.tmp 1 false,.tmp 4 false,.tmp 6 false] [1,4,6,8,9,24,25,26] ⟨trF h3,trivial⟩) ?_
     replace hm:=oo_inv hm;obtain ⟨v9,h12,hm⟩:=hm
     replace hm:=inv_toI hm;obtain ⟨x6,rfl,hm⟩:=hm
     replace hm:=bb_inv hm;obtain ⟨h13,hm⟩:=hm
     refine .reg (eC 6 ((oo (pu 62 [(.agg ⟨[zI z3,.int .u32 z4]⟩),(zI (wrapF .i64 (Int.sub (wrapF .i64 (Int.sub x5 x4)) (1:Int))))]) none fun v=>some (v,(hp 3 [(oC [zI z2,Sl.v 1 s2]),(oC [zI z3,.int .u32 z4]),oC q2])))) (call_eq h12) (eC 2 (growD 1 8 n1 c1 1 2 q2 [(zI (wrapF .i64 (Int.add x6 (1:Int))))] [] (hp 4 [(oC [zI z2,Sl.v 1 s2]),(oC [zI z3,.int .u32 z4]),oC q2,(oC [(zI (wrapF .i64 (Int.add x6 (1:Int))))])])) (growD_eq h13) (eE))) ?_
     replace hm:=bb_inv hm;obtain ⟨h14,hm⟩:=hm
     refine .ghs (fr 53 [(1,(pt 0 0)),(4,pt 1 0),(6,(sc 2 0 1 (n1 + 1) (d2 (n1 + 1)))),(24,Sl.v 1 s1),(25,zI z0),(26,(zI (Int.ofNat k1)))]) (hp 3 [(oC [zI z2,Sl.v 1 s2]),(oC [zI z3,.int .u32 z4]),(oC (appL (dropL 0 q2) [(zI (wrapF .i64 (Int.add x6 (1:Int))))]))]) (.k [4] [] [.tmp 1 false,.tmp 4 false,.tmp 6 false] [1,4,6,24,25,26] ⟨trF h14,trivial⟩) ?_
     refine .rK ?_
     exact ⟨((n1 + 1),(d2 (n1 + 1)),s1,z0,(wrapF .i64 (Int.add (Int.ofNat k1) (1:Int))),z2,s2,z3,z4,(appL (dropL 0 q2) [(zI (wrapF .i64 (Int.add x6 (1:Int))))])),hm,(.k [2] [] [.tmp 1 false,.tmp 4 false,.tmp 6 false] [1,4,6,24,25,26] ⟨trF h14,trivial⟩)⟩
    ·refine .ifF (ilt z1 z0) (by kernel_rfl) h4 ?_
     refine .exit ?_
     exact ⟨(n1,c1,q2),hm,(.k [2] [] [.tmp 6 false] [6] ⟨trF h3,trivial⟩)⟩
def m21_0 (pu:PureF) (n:Nat) (b0:Bool) (z0 z1 z2 z3:Int):OV:=
 (bb b0 (some (.tuple ⟨[(.int .i64 (0:Int)),(.bool false),(.int .i64 (5:Int))]⟩)) (oo (pu 70 [(.agg ⟨[.int .i64 z0,.int .u32 z1]⟩),(.agg ⟨[.int .i64 z2,.int .u32 z3]⟩)]) none fun v0=>(oo (vTup v0) none fun l0=>(ll l0 none fun v1 l0=>(ll l0 none fun v2 l0=>(ll l0 (oo (toI .i64 v1) none fun x0=>(oo (vBool v2) none fun b1=>(bb b1 (some (.tuple ⟨[.int .i64 x0,(.bool false),(.int .i64 (0:Int))]⟩)) (oo (pu 71 [(.agg ⟨[.int .i64 z0,.int .u32 z1]⟩),(.int .i64 (-1:Int))]) none fun v3=>(oo (vAgg v3) none fun l1=>(ll l1 none fun v4 l1=>(ll l1 none fun v5 l1=>(ll l1 (oo (toI .i64 v4) none fun x1=>(oo (toI .u32 v5) none fun x2=>(oo (pu 70 [(.agg ⟨[.int .i64 x1,.int .u32 x2]⟩),(.agg ⟨[.int .i64 z2,.int .u32 z3]⟩)]) none fun v6=>(oo (vTup v6) none fun l2=>(ll l2 none fun v7 l2=>(ll l2 none fun v8 l2=>(ll l2 (oo (toI .i64 v7) none fun x3=>(oo (vBool v8) none fun b2=>(bb b2 (some (.tuple ⟨[.int .i64 x3,(.bool true),(.int .i64 (0:Int))]⟩)) (some (.tuple ⟨[(.int .i64 (0:Int)),(.bool false),(.int .i64 (12:Int))]⟩))))) fun _ _=>none))))))) fun _ _=>none)))))))) fun _ _=>none))))))
def m21_ (pu:PureF) (n:Nat) (x0:Int) (s0:Sl) (x1:Int) (s1:Sl):OV:=
 (oo (pu 61 [(.agg ⟨[.int .i64 x0,Sl.v 1 s0]⟩)]) none fun v0=>(oo (vTup v0) none fun l0=>(ll l0 none fun v1 l0=>(ll l0 none fun v2 l0=>(ll l0 (oo (vAgg v1) none fun l1=>(ll l1 none fun v3 l1=>(ll l1 none fun v4 l1=>(ll l1 (oo (toI .i64 v3) none fun x2=>(oo (toI .u32 v4) none fun x3=>(oo (toI .i64 v2) none fun x4=>(bb (nt (ieq x4 (0:Int))) (some (.tuple ⟨[(.int .i64 (0:Int)),(.bool false),.int .i64 x4]⟩)) (oo (pu 61 [(.agg ⟨[.int .i64 x1,Sl.v 1 s1]⟩)]) none fun v5=>(oo (vTup v5) none fun l2=>(ll l2 none fun v6 l2=>(ll l2 none fun v7 l2=>(ll l2 (oo (vAgg v6) none fun l3=>(ll l3 none fun v8 l3=>(ll l3 none fun v9 l3=>(ll l3 (oo (toI .i64 v8) none fun x5=>(oo (toI .u32 v9) none fun x6=>(oo (toI .i64 v7) none fun x7=>(bb (nt (ieq x7 (0:Int))) (some (.tuple ⟨[(.int .i64 (0:Int)),(.bool false),.int .i64 x7]⟩)) (bb (nt (ieq x2 x5)) (m21_0 pu n true x2 x3 x5 x6) (m21_0 pu n (nt (ieq (Int.ofNat (Sl.n s0)) (Int.ofNat (Sl.n s1)))) x2 x3 x5 x6)))))) fun _ _=>none)))) fun _ _=>none))))))))) fun _ _=>none)))) fun _ _=>none)))))
def m21 (pu:PureF) (n:Nat) (args:LV):OV:=
 (ll args none fun a0 args=>(ll args none fun a1 args=>(ll args (oo (vAgg a0) none fun l0=>(ll l0 none fun v0 l0=>(ll l0 none fun v1 l0=>(ll l0 (oo (toI .i64 v0) none fun x0=>(oo (toSl 1 v1) none fun s0=>(oo (vAgg a1) none fun l1=>(ll l1 none fun v2 l1=>(ll l1 none fun v3 l1=>(ll l1 (oo (toI .i64 v2) none fun x1=>(oo (toSl 1 v3) none fun s1=>(m21_ pu n x0 s0 x1 s1))) fun _ _=>none)))))) fun _ _=>none)))) fun _ _=>none)))
theorem r21 {call:CallF} (pu:PureF) (n:Nat) (hcall:call = callP tabs isP pu (inl pu)) {args:LV} {v:Value} (hm:m21 pu n args = some v) (_:∀ x ∈ args,closed2 x = true):args.length≤62∧Run tt call 0 c21_41 (Fr.made 62 args) (pureHeap tabs) (Fin tt 0 [.tmp 4,.tmp 5,.tmp 6] v):=by
 subst hcall
 unfold m21 at hm
 replace hm:=ll_uncons hm;obtain ⟨a0,args_0,rfl,hm⟩:=hm
 replace hm:=ll_uncons hm;obtain ⟨a1,args_1,rfl,hm⟩:=hm
 replace hm:=ll_end hm;obtain ⟨rfl,hm⟩:=hm
 replace hm:=inv_vAgg hm;obtain ⟨l0,rfl,hm⟩:=hm
 replace hm:=ll_uncons hm;obtain ⟨v0,l2735_0,rfl,hm⟩:=hm
 replace hm:=ll_uncons hm;obtain ⟨v1,l2735_1,rfl,hm⟩:=hm
 replace hm:=ll_end hm;obtain ⟨rfl,hm⟩:=hm
 replace hm:=inv_toI hm;obtain ⟨x0,rfl,hm⟩:=hm
 replace hm:=inv_toSl hm;obtain ⟨s0,rfl,hm⟩:=hm
 replace hm:=inv_vAgg hm;obtain ⟨l1,rfl,hm⟩:=hm
 replace hm:=ll_uncons hm;obtain ⟨v2,l2743_0,rfl,hm⟩:=hm
 replace hm:=ll_uncons hm;obtain ⟨v3,l2743_1,rfl,hm⟩:=hm
 replace hm:=ll_end hm;obtain ⟨rfl,hm⟩:=hm
 replace hm:=inv_toI hm;obtain ⟨x1,rfl,hm⟩:=hm
 replace hm:=inv_toSl hm;obtain ⟨s1,rfl,hm⟩:=hm
 unfold m21_ at hm
 refine ⟨by simp,?_⟩
 refine .same (F':=(fr 62 [(0,(.agg ⟨[zI x0,Sl.v 1 s0]⟩)),(1,(.agg ⟨[zI x1,Sl.v 1 s1]⟩))])) (H':=(hp 0 [])) (by kernel_rfl) (by kernel_rfl) ?_
 refine .then (.rK ?_)
 refine .ghs (fr 62 [(2,(pt 0 0)),(3,pt 1 0)]) (hp 2 [(oC [zI x0,Sl.v 1 s0]),(oC [zI x1,Sl.v 1 s1])]) (.k0 [] [.tmp 2 false,.tmp 3 false] [2,3]) ?_
 refine .then ?_
 replace hm:=oo_inv hm;obtain ⟨v4,h0,hm⟩:=hm
 replace hm:=inv_vTup hm;obtain ⟨l2,rfl,hm⟩:=hm
 replace hm:=ll_uncons hm;obtain ⟨v5,l2769_0,rfl,hm⟩:=hm
 replace hm:=ll_uncons hm;obtain ⟨v6,l2769_1,rfl,hm⟩:=hm
 replace hm:=ll_end hm;obtain ⟨rfl,hm⟩:=hm
 replace hm:=inv_vAgg hm;obtain ⟨l3,rfl,hm⟩:=hm
 replace hm:=ll_uncons hm;obtain ⟨v7,l2773_0,rfl,hm⟩:=hm
 replace hm:=ll_uncons hm;obtain ⟨v8,l2773_1,rfl,hm⟩:=hm
 replace hm:=ll_end hm;obtain ⟨rfl,hm⟩:=hm
 replace hm:=inv_toI hm;obtain ⟨x2,rfl,hm⟩:=hm
 replace hm:=inv_toI hm;obtain ⟨x3,rfl,hm⟩:=hm
 replace hm:=inv_toI hm;obtain ⟨x4,rfl,hm⟩:=hm
 refine .reg (eC 1 ((oo (pu 61 [(.agg ⟨[zI x0,Sl.v 1 s0]⟩)]) none fun v=>some (v,(hp 2 [(oC [zI x0,Sl.v 1 s0]),(oC [zI x1,Sl.v 1 s1])])))) (call_eq h0) (eE)) ?_
 refine .ghs (fr 62 [(2,(pt 0 0)),(3,pt 1 0),(6,zI x4),(7,(pt 2 0))]) (hp 3 [(oC [zI x0,Sl.v 1 s0]),(oC [zI x1,Sl.v 1 s1]),(oC [zI x2,.int .u32 x3])]) (.k0 [] [.tmp 2 false,.tmp 3 false,.tmp 7 false] [2,3,6,7]) ?_
 refine .then ?_
 refine .then (.rK ?_)
 refine .ghs (fr 62 [(2,(pt 0 0)),(3,pt 1 0),(6,zI x4),(7,(pt 2 0)),(19,(zB (nt (ieq x4 (0:Int)))))]) (hp 3 [(oC [zI x0,Sl.v 1 s0]),(oC [zI x1,Sl.v 1 s1]),(oC [zI x2,.int .u32 x3])]) (.k0 [] [.tmp 2 false,.tmp 3 false,.tmp 7 false] [2,3,6,7,19]) ?_
 replace hm:=bb_cases hm;rcases hm with ⟨h1,hm⟩ | ⟨h1,hm⟩
 ·refine .ifT (nt (ieq x4 (0 : Int))) (by kernel_rfl) h1 ?_
  refine .then (.rK ?_)
  refine .ghs (fr 62 [(4,(zI (0:Int))),(5,zB false),(6,zI x4)]) (hp 0 []) (.k0 [] [] [4,5,6]) ?_
  refine .ret ?_
  exact fin_ret (.tuple ⟨[(zI (0:Int)),zB false,zI x4]⟩) (by kernel_rfl) (by kernel_rfl) hm
 ·refine .ifF (nt (ieq x4 (0 : Int))) (by kernel_rfl) h1 ?_
  refine .skip ?_
  refine .ghs (fr 62 [(2,(pt 0 0)),(3,pt 1 0),(7,(pt 2 0))]) (hp 3 [(oC [zI x0,Sl.v 1 s0]),(oC [zI x1,Sl.v 1 s1]),(oC [zI x2,.int .u32 x3])]) (.k0 [] [.tmp 2 false,.tmp 3 false,.tmp 7 false] [2,3,7]) ?_
  refine .then ?_
  replace hm:=oo_inv hm;obtain ⟨v9,h2,hm⟩:=hm
  replace hm:=inv_vTup hm;obtain ⟨l4,rfl,hm⟩:=hm
  replace hm:=ll_uncons hm;obtain ⟨v10,l2802_0,rfl,hm⟩:=hm
  replace hm:=ll_uncons hm;obtain ⟨v11,l2802_1,rfl,hm⟩:=hm
  replace hm:=ll_end hm;obtain ⟨rfl,hm⟩:=hm
  replace hm:=inv_vAgg hm;obtain ⟨l5,rfl,hm⟩:=hm
  replace hm:=ll_uncons hm;obtain ⟨v12,l2806_0,rfl,hm⟩:=hm
  replace hm:=ll_uncons hm;obtain ⟨v13,l2806_1,rfl,hm⟩:=hm
  replace hm:=ll_end hm;obtain ⟨rfl,hm⟩:=hm
  replace hm:=inv_toI hm;obtain ⟨x5,rfl,hm⟩:=hm
  replace hm:=inv_toI hm;obtain ⟨x6,rfl,hm⟩:=hm
  replace hm:=inv_toI hm;obtain ⟨x7,rfl,hm⟩:=hm
  refine .reg (eC 1 ((oo (pu 61 [(.agg ⟨[zI x1,Sl.v 1 s1]⟩)]) none fun v=>some (v,(hp 3 [(oC [zI x0,Sl.v 1 s0]),(oC [zI x1,Sl.v 1 s1]),(oC [zI x2,.int .u32 x3])])))) (call_eq h2) (eE)) ?_
  refine .ghs (fr 62 [(2,(pt 0 0)),(3,pt 1 0),(6,zI x7),(7,(pt 2 0)),(8,(pt 3 0))]) (hp 4 [(oC [zI x0,Sl.v 1 s0]),(oC [zI x1,Sl.v 1 s1]),(oC [zI x2,.int .u32 x3]),(oC [zI x5,.int .u32 x6])]) (.k0 [] [.tmp 2 false,.tmp 3 false,.tmp 7 false,.tmp 8 false] [2,3,6,7,8]) ?_
  refine .then ?_
  refine .block ?_
  refine .then (.rK ?_)
  refine .ghs (fr 62 [(2,(pt 0 0)),(3,pt 1 0),(6,zI x7),(7,(pt 2 0)),(8,(pt 3 0)),(26,(zB (nt (ieq x7 (0:Int)))))]) (hp 4 [(oC [zI x0,Sl.v 1 s0]),(oC [zI x1,Sl.v 1 s1]),(oC [zI x2,.int .u32 x3]),(oC [zI x5,.int .u32 x6])]) (.k0 [] [.tmp 2 false,.tmp 3 false,.tmp 7 false,.tmp 8 false] [2,3,6,7,8,26]) ?_
  replace hm:=bb_cases hm;rcases hm with ⟨h3,hm⟩ | ⟨h3,hm⟩
  ·refine .ifT (nt (ieq x7 (0 : Int))) (by kernel_rfl) h3 ?_
   refine .then (.rK ?_)
   refine .ghs (fr 62 [(4,(zI (0:Int))),(5,zB false),(6,zI x7)]) (hp 0 []) (.k0 [] [] [4,5,6]) ?_
   refine .ret ?_
   exact fin_ret (.tuple ⟨[(zI (0:Int)),zB false,zI x7]⟩) (by kernel_rfl) (by kernel_rfl) hm
  ·refine .ifF (nt (ieq x7 (0 : Int))) (by kernel_rfl) h3 ?_
   refine .join (v:=v) (fun y:Bool×Int×Int×Int×Int=>((fr 62 [(7,(pt 0 0)),(8,pt 1 0),(30,(zB y.1))]),(hp 2 [(oC [(zI y.2.1),(.int .u32 y.2.2.1)]),(oC [(zI y.2.2.2.1),(.int .u32 y.2.2.2.2)])]))) (fun y=>m21_0 pu n y.1 y.2.1 y.2.2.1 y.2.2.2.1 y.2.2.2.2) ?_ ?_
   ·rintro ⟨b0, z0, z1, z2, z3⟩ hm
    unfold m21_0 at hm
    replace hm:=bb_cases hm;rcases hm with ⟨h4,hm⟩ | ⟨h4,hm⟩
    ·refine .ifT b0 (by kernel_rfl) h4 ?_
     refine .then (.rK ?_)
     refine .ghs (fr 62 [(4,(zI (0:Int))),(5,zB false),(6,(zI (5:Int)))]) (hp 0 []) (.k0 [] [] [4,5,6]) ?_
     refine .ret ?_
     exact fin_ret (.tuple ⟨[(zI (0:Int)),zB false,(zI (5:Int))]⟩) (by kernel_rfl) (by kernel_rfl) hm
    ·refine .ifF b0 (by kernel_rfl) h4 ?_
     refine .skip ?_
     refine .ghs (fr 62 [(7,(pt 0 0)),(8,pt 1 0)]) (hp 2 [(oC [zI z0,.int .u32 z1]),(oC [zI z2,.int .u32 z3])]) (.k0 [] [.tmp 7 false,.tmp 8 false] [7,8]) ?_
     refine .then ?_
     refine .then ?_
     replace hm:=oo_inv hm;obtain ⟨v14,h5,hm⟩:=hm
     replace hm:=inv_vTup hm;obtain ⟨l6,rfl,hm⟩:=hm
     replace hm:=ll_uncons hm;obtain ⟨v15,l2837_0,rfl,hm⟩:=hm
     replace hm:=ll_uncons hm;obtain ⟨v16,l2837_1,rfl,hm⟩:=hm
     replace hm:=ll_end hm;obtain ⟨rfl,hm⟩:=hm
     replace hm:=inv_toI hm;obtain ⟨x8,rfl,hm⟩:=hm
     replace hm:=inv_vBool hm;obtain ⟨b1,rfl,hm⟩:=hm
     refine .reg (eC 2 ((oo (pu 70 [(.agg ⟨[zI z0,.int .u32 z1]⟩),(.agg ⟨[zI z2,.int .u32 z3]⟩)]) none fun v=>some (v,(hp 2 [(oC [zI z0,.int .u32 z1]),(oC [zI z2,.int .u32 z3])])))) (call_eq h5) (eE)) ?_
     refine .ghs (fr 62 [(7,(pt 0 0)),(8,pt 1 0),(9,zI x8),(10,zB b1)]) (hp 2 [(oC [zI z0,.int .u32 z1]),(oC [zI z2,.int .u32 z3])]) (.k0 [] [.tmp 7 false,.tmp 8 false] [7,8,9,10]) ?_
     refine .then (.rK ?_)
     refine .ghs (fr 62 [(7,(pt 0 0)),(8,pt 1 0),(9,zI x8),(51,zB b1)]) (hp 2 [(oC [zI z0,.int .u32 z1]),(oC [zI z2,.int .u32 z3])]) (.k0 [] [.tmp 7 false,.tmp 8 false] [7,8,9,51]) ?_
     replace hm:=bb_cases hm;rcases hm with ⟨h6,hm⟩ | ⟨h6,hm⟩
     ·refine .ifT b1 (by kernel_rfl) h6 ?_
      refine .then (.rK ?_)
      refine .ghs (fr 62 [(4,zI x8),(5,zB false),(6,(zI (0:Int)))]) (hp 0 []) (.k0 [] [] [4,5,6]) ?_
      refine .ret ?_
      exact fin_ret (.tuple ⟨[zI x8,zB false,(zI (0:Int))]⟩) (by kernel_rfl) (by kernel_rfl) hm
     ·refine .ifF b1 (by kernel_rfl) h6 ?_
      refine .skip ?_
      refine .ghs (fr 62 [(7,(pt 0 0)),(8,pt 1 0)]) (hp 2 [(oC [zI z0,.int .u32 z1]),(oC [zI z2,.int .u32 z3])]) (.k0 [] [.tmp 7 false,.tmp 8 false] [7,8]) ?_
      refine .then ?_
      refine .then ?_
      replace hm:=oo_inv hm;obtain ⟨v17,h7,hm⟩:=hm
      replace hm:=inv_vAgg hm;obtain ⟨l7,rfl,hm⟩:=hm
      replace hm:=ll_uncons hm;obtain ⟨v18,l2868_0,rfl,hm⟩:=hm
      replace hm:=ll_uncons hm;obtain ⟨v19,l2868_1,rfl,hm⟩:=hm
      replace hm:=ll_end hm;obtain ⟨rfl,hm⟩:=hm
      replace hm:=inv_toI hm;obtain ⟨x9,rfl,hm⟩:=hm
      replace hm:=inv_toI hm;obtain ⟨x10,rfl,hm⟩:=hm
      replace hm:=oo_inv hm;obtain ⟨v20,h8,hm⟩:=hm
      replace hm:=inv_vTup hm;obtain ⟨l8,rfl,hm⟩:=hm
      replace hm:=ll_uncons hm;obtain ⟨v21,l2878_0,rfl,hm⟩:=hm
      replace hm:=ll_uncons hm;obtain ⟨v22,l2878_1,rfl,hm⟩:=hm
      replace hm:=ll_end hm;obtain ⟨rfl,hm⟩:=hm
      replace hm:=inv_toI hm;obtain ⟨x11,rfl,hm⟩:=hm
      replace hm:=inv_vBool hm;obtain ⟨b2,rfl,hm⟩:=hm
      refine .reg (eC 2 ((oo (pu 71 [(.agg ⟨[zI z0,.int .u32 z1]⟩),(zI (-1:Int))]) none fun v=>some (v,(hp 2 [(oC [zI z0,.int .u32 z1]),(oC [zI z2,.int .u32 z3])])))) (call_eq h7) (eD ((oo (pu 70 [(.agg ⟨[zI x9,.int .u32 x10]⟩),(.agg ⟨[zI z2,.int .u32 z3]⟩)]) none fun v=>some (v,(hp 2 [(oC [zI z0,.int .u32 z1]),(oC [zI z2,.int .u32 z3])])))) (call_eq h8) (eE))) ?_
      refine .ghs (fr 62 [(11,zI x11),(12,zB b2)]) (hp 0 []) (.k0 [] [] [11,12]) ?_
      refine .then (.rK ?_)
      refine .ghs (fr 62 [(11,zI x11),(60,zB b2)]) (hp 0 []) (.k0 [] [] [11,60]) ?_
      replace hm:=bb_cases hm;rcases hm with ⟨h9,hm⟩ | ⟨h9,hm⟩
      ·refine .ifT b2 (by kernel_rfl) h9 ?_
       refine .then (.rK ?_)
       refine .ghs (fr 62 [(4,zI x11),(5,zB true),(6,(zI (0:Int)))]) (hp 0 []) (.k0 [] [] [4,5,6]) ?_
       refine .ret ?_
       exact fin_ret (.tuple ⟨[zI x11,zB true,(zI (0:Int))]⟩) (by kernel_rfl) (by kernel_rfl) hm
      ·refine .ifF b2 (by kernel_rfl) h9 ?_
       refine .skip ?_
       refine .ghs (fr 62 []) (hp 0 []) (.k0 [] [] []) ?_
       refine .then (.rK ?_)
       refine .ghs (fr 62 [(4,(zI (0:Int))),(5,zB false),(6,(zI (12:Int)))]) (hp 0 []) (.k0 [] [] [4,5,6]) ?_
       refine .ret ?_
       exact fin_ret (.tuple ⟨[(zI (0:Int)),zB false,(zI (12:Int))]⟩) (by kernel_rfl) (by kernel_rfl) hm
   ·replace hm := bb_cases hm; rcases hm with ⟨h10, hm⟩ | ⟨h10, hm⟩
    ·refine .reg (eC 4 (some ((zB (nt (ieq x2 x5))), (hp 4 [(oC [zI x0, Sl.v 1 s0]), (oC [zI x1, Sl.v 1 s1]), (oC [zI x2, .int .u32 x3]), (oC [zI x5, .int .u32 x6])]))) (show _ = some ((zB true), _) from (by rw [show (nt (ieq x2 x5)) = true from h10])) (eE)) ?_
     exact ⟨(true,x2,x3,x5,x6),hm,(.k0 [] [.tmp 7 false,.tmp 8 false] [7,8,30])⟩
    ·refine .reg (eC 4 (some ((zB (nt (ieq x2 x5))), (hp 4 [(oC [zI x0, Sl.v 1 s0]), (oC [zI x1, Sl.v 1 s1]), (oC [zI x2, .int .u32 x3]), (oC [zI x5, .int .u32 x6])]))) (show _ = some ((zB false), _) from (by rw [show (nt (ieq x2 x5)) = false from h10])) (eE)) ?_
     exact ⟨((nt (ieq (Int.ofNat (Sl.n s0)) (Int.ofNat (Sl.n s1)))),x2,x3,x5,x6),hm,(.k0 [] [.tmp 7 false,.tmp 8 false] [7,8,30])⟩
end
end Go.RgIM
