/- Made from wip. -/
import Derived.Test.YtkhedoaiejjcfaaHvRMod1x

set_option maxRecDepth 100000
set_option maxHeartbeats 20000000
set_option linter.unusedVariables false
namespace Go.HvRM
open Go.Sp Go.HvR
noncomputable section
def m29_0 (pu:PureF) (n n0 c0:Nat) (q1:LV):OV:=
 (bb (allL closed1 q1) (bb (an (Nat.ble (0 + n0 * 1) (len q1)) (allL closed1 (takeL (n0 * 1) (dropL 0 q1)))) (some (Sl.v 1 (Sl.mk n0 0 (takeL (n0 * 1) (dropL 0 q1))))) none) none)
def m29_3 (pu:PureF) (n:Nat) (ih0:Int→Int→Nat→Nat→Int→LV→OV) (z0 z1:Int) (n0 c0:Nat) (z2:Int) (q1:LV):OV:=
 (bb (allL closed1 q1) (ih0 z0 z1 n0 c0 (wrapF .i64 (Int.add z2 (1:Int))) q1) none)
def b29_4 (pu:PureF) (n:Nat) (ih0:Int→Int→Nat→Nat→Int→LV→OV) (ih1:Int→Int→Nat→Nat→Int→Sl→Int→LV→OV) (z0 z1:Int) (n0 c0:Nat) (z2:Int) (s0:Sl) (z3:Int) (q1:LV):OV:=
 (bb (allL closed1 q1) (bb (ilt z3 (Int.ofNat (Sl.n s0))) (oo (toN z3) none fun k1=>(bb (an (Nat.blt k1 (Sl.n s0)) true) (oo (nthL (Sl.cs s0) (k1 * 1)) none fun v0=>(oo (toSl 1 v0) none fun s1=>(bb (Nat.beq (Sl.n s1) 0) (bb (growC 1 24 n0 c0 1 q1) (bb (allL closed1 (appL (dropL 0 q1) [(Sl.v 1 (Sl.mk 1 0 (takeL (1 * 1) (dropL 0 ([.int .i64 z2]:LV)))))])) (ih1 z0 z1 (n0 + 1) (2 * (n0 + 1) + bb false 1 0) z2 s0 (wrapF .i64 (Int.add (Int.ofNat k1) (1:Int))) (appL (dropL 0 q1) [(Sl.v 1 (Sl.mk 1 0 (takeL (1 * 1) (dropL 0 ([.int .i64 z2]:LV)))))])) none) none) (bb (roomy (1 + (Sl.n s1)) 8) (bb (an (Nat.ble (0 + (1 + (Sl.n s1)) * 1) (len (appL (takeL (1 * 1) (dropL 0 ([.int .i64 z2]:LV))) (takeL ((Sl.n s1) * 1) (Sl.cs s1))))) (allL closed1 (takeL ((1 + (Sl.n s1)) * 1) (dropL 0 (appL (takeL (1 * 1) (dropL 0 ([.int .i64 z2]:LV))) (takeL ((Sl.n s1) * 1) (Sl.cs s1))))))) (bb (growC 1 24 n0 c0 1 q1) (bb (allL closed1 (appL (dropL 0 q1) [(Sl.v 1 (Sl.mk (1 + (Sl.n s1)) 0 (takeL ((1 + (Sl.n s1)) * 1) (dropL 0 (appL (takeL (1 * 1) (dropL 0 ([.int .i64 z2]:LV))) (takeL ((Sl.n s1) * 1) (Sl.cs s1)))))))])) (ih1 z0 z1 (n0 + 1) (2 * (n0 + 1) + bb false 1 0) z2 s0 (wrapF .i64 (Int.add (Int.ofNat k1) (1:Int))) (appL (dropL 0 q1) [(Sl.v 1 (Sl.mk (1 + (Sl.n s1)) 0 (takeL ((1 + (Sl.n s1)) * 1) (dropL 0 (appL (takeL (1 * 1) (dropL 0 ([.int .i64 z2]:LV))) (takeL ((Sl.n s1) * 1) (Sl.cs s1)))))))])) none) none) none) none)))) none)) (m29_3 pu n ih0 z0 z1 n0 c0 z2 q1)) none)
def l29_4 (pu:PureF) (n:Nat) (ih0:Int→Int→Nat→Nat→Int→LV→OV) (w:Nat):Int→Int→Nat→Nat→Int→Sl→Int→LV→OV:=
 Nat.rec (motive:=fun _=>Int→Int→Nat→Nat→Int→Sl→Int→LV→OV) (fun _ _ _ _ _ _ _ _=>none) (fun _ ih1=>b29_4 pu n ih0 ih1) w
def m29_2 (pu:PureF) (n:Nat) (ih0:Int→Int→Nat→Nat→Int→LV→OV) (z0 z1:Int) (n0 c0:Nat) (z2:Int) (b0:Bool) (q1:LV):OV:=
 (bb b0 (bb (allL closed1 q1) (oo (pu 29 [(.int .i64 (wrapF .i64 (Int.sub z0 z2))),.int .i64 z2]) none fun v0=>(oo (toSl 1 v0) none fun s0=>(l29_4 pu n ih0 n z0 z1 n0 c0 z2 s0 (0:Int) q1))) none) (bb (allL closed1 q1) (m29_0 pu n n0 c0 q1) none))
def b29_1 (pu:PureF) (n:Nat) (ih0:Int→Int→Nat→Nat→Int→LV→OV) (z0 z1:Int) (n0 c0:Nat) (z2:Int) (q1:LV):OV:=
 (bb (nt (ilt z1 z2)) (bb (allL closed1 q1) (m29_2 pu n ih0 z0 z1 n0 c0 z2 (nt (ilt z0 z2)) q1) none) (bb (allL closed1 q1) (m29_2 pu n ih0 z0 z1 n0 c0 z2 false q1) none))
def l29_1 (pu:PureF) (n w:Nat):Int→Int→Nat→Nat→Int→LV→OV:=
 Nat.rec (motive:=fun _=>Int→Int→Nat→Nat→Int→LV→OV) (fun _ _ _ _ _ _=>none) (fun _ ih0=>b29_1 pu n ih0) w
def m29_ (pu:PureF) (n:Nat) (x0 x1:Int):OV:=
 (bb (ieq x0 (0:Int)) (some (Sl.v 1 (Sl.mk 1 0 (takeL (1 * 1) (dropL 0 ([(Sl.v 1 (Sl.mk 0 2 []))]:LV)))))) (l29_1 pu n n x0 x1 0 0 (1:Int) ([]:LV)))
def m29 (pu:PureF) (n:Nat) (args:LV):OV:=
 (ll args none fun a0 args=>(ll args none fun a1 args=>(ll args (oo (toI .i64 a0) none fun x0=>(oo (toI .i64 a1) none fun x1=>(m29_ pu n x0 x1))) fun _ _=>none)))
theorem w29_0 (pu:PureF) (n n0 c0:Nat) (q1:LV) {v:Value} (hm:m29_0 pu n n0 c0 q1 = some v):Run tt (callP tabs isP pu (inl pu)) 0 c29_33 (fr 44 [(5,sc 0 0 1 n0 c0)]) (hp 1 [oC q1]) (Fin tt 0 [.tmp 4] v):=by
 unfold m29_0 at hm
 refine .then (.rK ?_)
 replace hm:=bb_inv hm;obtain ⟨h0,hm⟩:=hm
 refine .ghs (fr 44 [(4,sc 0 0 1 n0 c0)]) (hp 1 [oC q1]) (.k [0] [] [.tmp 4 false] [4] ⟨trF h0,trivial⟩) ?_
 replace hm:=bb_inv hm;obtain ⟨h1,hm⟩:=hm
 refine .ghs (Fr.puts (fr 44 [(4,sc 0 0 1 n0 c0)]) [(4,(Sl.v 1 (Sl.mk n0 0 (takeL (n0 * 1) (dropL 0 q1)))))]) (hp 1 [.dead]) (.freezeC 0 4 1 (an (Nat.ble (0 + n0 * 1) (len q1)) (allL closed1 (takeL (n0 * 1) (dropL 0 q1)))) (F1:=(Fr.puts (fr 44 [(4,sc 0 0 1 n0 c0)]) [(4,(Sl.v 1 (Sl.mk n0 0 (takeL (n0 * 1) (dropL 0 q1)))))])) (H1:=(hp 1 [.dead])) (by kernel_rfl) (by kernel_rfl) h1 (GhS.id _ _)) ?_
 refine .ret ?_
 exact fin_ret (Sl.v 1 (Sl.mk n0 0 (takeL (n0 * 1) (dropL 0 q1)))) (by kernel_rfl) (by kernel_rfl) hm
theorem r29 {call:CallF} (pu:PureF) (n:Nat) (hcall:call = callP tabs isP pu (inl pu)) {args:LV} {v:Value} (hm:m29 pu n args = some v) (_:∀ x ∈ args,closed2 x = true):args.length≤44∧Run tt call 0 c29_37 (Fr.made 44 args) (pureHeap tabs) (Fin tt 0 [.tmp 4] v):=by
 subst hcall
 unfold m29 at hm
 replace hm:=ll_uncons hm;obtain ⟨a0,args_0,rfl,hm⟩:=hm
 replace hm:=ll_uncons hm;obtain ⟨a1,args_1,rfl,hm⟩:=hm
 replace hm:=ll_end hm;obtain ⟨rfl,hm⟩:=hm
 replace hm:=inv_toI hm;obtain ⟨x0,rfl,hm⟩:=hm
 replace hm:=inv_toI hm;obtain ⟨x1,rfl,hm⟩:=hm
 unfold m29_ at hm
 refine ⟨by simp,?_⟩
 refine .same (F':=(fr 44 [(0,zI x0),(1,zI x1)])) (H':=(hp 0 [])) (by kernel_rfl) (by kernel_rfl) ?_
 refine .then (.rK ?_)
 refine .ghs (fr 44 [(0,zI x0),(1,zI x1)]) (hp 0 []) (.k0 [] [] [0,1]) ?_
 refine .then ?_
 refine .then (.rK ?_)
 refine .ghs (fr 44 [(0,zI x0),(1,zI x1),(10,(zB (ieq x0 (0:Int))))]) (hp 0 []) (.k0 [] [] [0,1,10]) ?_
 replace hm:=bb_cases hm;rcases hm with ⟨h0,hm⟩ | ⟨h0,hm⟩
 ·refine .ifT (ieq x0 (0 : Int)) (by kernel_rfl) h0 ?_
  refine .then ?_
  refine .rG (OpsG.seg 1 (Fr.puts (fr 44 [(0,zI x0),(1,zI x1),(10,(zB (ieq x0 (0:Int))))]) [(11,sc 0 0 1 1 3)]) (hp 1 [(oC [(.slice none 0 0)])]) (by kernel_rfl) (OpsG.ghs (Fr.puts (fr 44 [(0,zI x0),(1,zI x1),(10,(zB (ieq x0 (0:Int))))]) [(11,sc 0 0 1 1 3)]) (hp 1 [(oC [(Sl.v 1 (Sl.mk 0 2 []))])]) (.nilC 0 0 1 [(.slice none 0 0)] (imm:=false) (spent:=false) (anc:=[]) (by kernel_rfl) (by kernel_rfl) (by kernel_rfl) (GhS.id _ _)) (OpsG.fin eE))) ?_
  refine .ghs (fr 44 [(4,sc 0 0 1 1 3)]) (hp 1 [(oC [(Sl.v 1 (Sl.mk 0 2 []))])]) (.k0 [] [.tmp 4 false] [4]) ?_
  refine .ghs (Fr.puts (fr 44 [(4,sc 0 0 1 1 3)]) [(4,(Sl.v 1 (Sl.mk 1 0 (takeL (1 * 1) (dropL 0 ([(Sl.v 1 (Sl.mk 0 2 []))]:LV))))))]) (hp 1 [.dead]) (.freeze 0 4 1 (by kernel_rfl) (by kernel_rfl) (GhS.id _ _)) ?_
  refine .ret ?_
  exact fin_ret (Sl.v 1 (Sl.mk 1 0 (takeL (1 * 1) (dropL 0 ([(Sl.v 1 (Sl.mk 0 2 []))]:LV))))) (by kernel_rfl) (by kernel_rfl) hm
 ·refine .ifF (ieq x0 (0 : Int)) (by kernel_rfl) h0 ?_
  refine .skip ?_
  refine .ghs (fr 44 [(0,zI x0),(1,zI x1)]) (hp 0 []) (.k0 [] [] [0,1]) ?_
  refine .then (.rK ?_)
  refine .ghs (fr 44 [(0,zI x0),(1,zI x1),(5,(.slice none 0 0))]) (hp 0 []) (.k0 [] [] [0,1,5]) ?_
  refine .join (v:=v) (fun y:Nat×Nat×LV=>((fr 44 [(5,(sc 0 0 1 y.1 y.2.1))]),(hp 1 [(oC y.2.2)]))) (fun y=>m29_0 pu n y.1 y.2.1 y.2.2) ?_ ?_
  ·rintro ⟨n0, c0, q1⟩ hm
   exact w29_0 pu n n0 c0 q1 hm
  ·refine .then (.rK ?_)
   refine .ghs (fr 44 [(0,zI x0),(1,zI x1),(5,(.slice none 0 0)),(6,(zI (1:Int)))]) (hp 0 []) (.k0 [] [] [0,1,5,6]) ?_
   refine .block ?_
   refine .loopM (v:=v) (fun y:Int×Int×Nat×Nat×Int×LV=>((fr 44 [(0,(zI y.1)),(1,(zI y.2.1)),(5,(sc 0 0 1 y.2.2.1 y.2.2.2.1)),(6,(zI y.2.2.2.2.1))]),(hp 1 [(oC y.2.2.2.2.2)]))) (fun w y=>l29_1 pu n w y.1 y.2.1 y.2.2.1 y.2.2.2.1 y.2.2.2.2.1 y.2.2.2.2.2) n ⟨(x0,x1,0,0,(1:Int),([]:LV)),hm,(.thaw 5 1 (by kernel_rfl) (.k0 [] [.tmp 5 false] [0,1,5,6]))⟩ (fun _=>rfl) ?_
   rintro w0 ⟨z0,z1,n1,c1,z2,q2⟩ hm
   replace hm:b29_1 pu n (l29_1 pu n w0) z0 z1 n1 c1 z2 q2 = some v:=hm
   unfold b29_1 at hm
   refine .then ?_
   refine .join (v:=v) (fun y:Int×Int×Nat×Nat×Int×Bool×LV=>((fr 44 [(0,(zI y.1)),(1,(zI y.2.1)),(5,(sc 0 0 1 y.2.2.1 y.2.2.2.1)),(6,(zI y.2.2.2.2.1)),(19,(zB y.2.2.2.2.2.1))]),(hp 1 [(oC y.2.2.2.2.2.2)]))) (fun y=>m29_2 pu n (l29_1 pu n w0) y.1 y.2.1 y.2.2.1 y.2.2.2.1 y.2.2.2.2.1 y.2.2.2.2.2.1 y.2.2.2.2.2.2) ?_ ?_
   ·rintro ⟨z3, z4, n2, c2, z5, b0, q3⟩ hm
    unfold m29_2 at hm
    replace hm:=bb_cases hm;rcases hm with ⟨h1,hm⟩ | ⟨h1,hm⟩
    ·refine .ifT b0 (by kernel_rfl) h1 ?_
     refine .skip ?_
     replace hm:=bb_inv hm;obtain ⟨h2,hm⟩:=hm
     refine .ghs (fr 44 [(0,zI z3),(1,zI z4),(5,sc 0 0 1 n2 c2),(6,zI z5)]) (hp 1 [oC q3]) (.k [0] [] [.tmp 5 false] [0,1,5,6] ⟨trF h2,trivial⟩) ?_
     refine .join (v:=v) (fun y:Int×Int×Nat×Nat×Int×LV=>((fr 44 [(0,(zI y.1)),(1,(zI y.2.1)),(5,(sc 0 0 1 y.2.2.1 y.2.2.2.1)),(6,(zI y.2.2.2.2.1))]),(hp 1 [(oC y.2.2.2.2.2)]))) (fun y=>m29_3 pu n (l29_1 pu n w0) y.1 y.2.1 y.2.2.1 y.2.2.2.1 y.2.2.2.2.1 y.2.2.2.2.2) ?_ ?_
     ·rintro ⟨z6, z7, n3, c99, z8, q4⟩ hm
      unfold m29_3 at hm
      refine .rK ?_
      replace hm:=bb_inv hm;obtain ⟨h3,hm⟩:=hm
      exact ⟨(z6,z7,n3,c99,(wrapF .i64 (Int.add z8 (1:Int))),q4),hm,(.k [0] [] [.tmp 5 false] [0,1,5,6] ⟨trF h3,trivial⟩)⟩
     ·refine .block ?_
      refine .then ?_
      replace hm:=oo_inv hm;obtain ⟨v0,h4,hm⟩:=hm
      replace hm:=inv_toSl hm;obtain ⟨s0,rfl,hm⟩:=hm
      refine .reg (eC 4 ((oo (pu 29 [(zI (wrapF .i64 (Int.sub z3 z5))),zI z5]) none fun v=>some (v,(hp 1 [oC q3])))) (call_eq h4) (eE)) ?_
      refine .ghs (fr 44 [(0,zI z3),(1,zI z4),(5,sc 0 0 1 n2 c2),(6,zI z5),(7,Sl.v 1 s0)]) (hp 1 [oC q3]) (.k [0] [] [.tmp 5 false] [0,1,5,6,7] ⟨trF h2,trivial⟩) ?_
      refine .then (.rK ?_)
      refine .ghs (fr 44 [(0,zI z3),(1,zI z4),(5,sc 0 0 1 n2 c2),(6,zI z5),(7,Sl.v 1 s0),(8,(zI (0:Int)))]) (hp 1 [oC q3]) (.k [0] [] [.tmp 5 false] [0,1,5,6,7,8] ⟨trF h2,trivial⟩) ?_
      refine .block ?_
      refine .loopM (v:=v) (fun y:Int×Int×Nat×Nat×Int×Sl×Int×LV=>((fr 44 [(0,(zI y.1)),(1,(zI y.2.1)),(5,(sc 0 0 1 y.2.2.1 y.2.2.2.1)),(6,(zI y.2.2.2.2.1)),(7,(Sl.v 1 y.2.2.2.2.2.1)),(8,(zI y.2.2.2.2.2.2.1))]),(hp 1 [(oC y.2.2.2.2.2.2.2)]))) (fun w y=>l29_4 pu n (l29_1 pu n w0) w y.1 y.2.1 y.2.2.1 y.2.2.2.1 y.2.2.2.2.1 y.2.2.2.2.2.1 y.2.2.2.2.2.2.1 y.2.2.2.2.2.2.2) n ⟨(z3,z4,n2,c2,z5,s0,(0:Int),q3),hm,(.k [0] [] [.tmp 5 false] [0,1,5,6,7,8] ⟨trF h2,trivial⟩)⟩ (fun _=>rfl) ?_
      rintro w1 ⟨z9,z10,n4,c100,z11,s1,z12,q5⟩ hm
      replace hm:b29_4 pu n (l29_1 pu n w0) (l29_4 pu n (l29_1 pu n w0) w1) z9 z10 n4 c100 z11 s1 z12 q5 = some v:=hm
      unfold b29_4 at hm
      refine .then ?_
      refine .then (.rK ?_)
      replace hm:=bb_inv hm;obtain ⟨h5,hm⟩:=hm
      refine .ghs (fr 44 [(0,zI z9),(1,zI z10),(5,sc 0 0 1 n4 c100),(6,zI z11),(7,Sl.v 1 s1),(8,zI z12),(30,(zB (ilt z12 (Int.ofNat (Sl.n s1)))))]) (hp 1 [oC q5]) (.k [0] [] [.tmp 5 false] [0,1,5,6,7,8,30] ⟨trF h5,trivial⟩) ?_
      replace hm:=bb_cases hm;rcases hm with ⟨h6,hm⟩ | ⟨h6,hm⟩
      ·refine .ifT (ilt z12 (Int.ofNat (Sl.n s1))) (by kernel_rfl) h6 ?_
       refine .skip ?_
       refine .ghs (fr 44 [(0,zI z9),(1,zI z10),(5,sc 0 0 1 n4 c100),(6,zI z11),(7,Sl.v 1 s1),(8,zI z12)]) (hp 1 [oC q5]) (.k [0] [] [.tmp 5 false] [0,1,5,6,7,8] ⟨trF h5,trivial⟩) ?_
       refine .then ?_
       refine .block ?_
       replace hm:=oo_inv hm;obtain ⟨k1,h7,hm⟩:=hm
       obtain rfl:=toN_some h7
       replace hm:=bb_inv hm;obtain ⟨h8,hm⟩:=hm
       replace hm:=oo_inv hm;obtain ⟨v1,h9,hm⟩:=hm
       replace hm:=inv_toSl hm;obtain ⟨s2,rfl,hm⟩:=hm
       replace hm:=bb_cases hm;rcases hm with ⟨h10,hm⟩ | ⟨h10,hm⟩
       ·replace hm := bb_inv hm; obtain ⟨h11, hm⟩ := hm
        refine .rG (OpsG.seg 8 (Fr.puts (fr 44 [(0,zI z9),(1,zI z10),(5,sc 0 0 1 n4 c100),(6,zI z11),(7,Sl.v 1 s1),(8,(zI (Int.ofNat k1)))]) [(33,sc 0 0 1 n4 c100),(34,zI z11),(35,sc 1 0 1 1 3),(36,Sl.v 1 s1),(37,(zI (Int.ofNat k1))),(38,(fpV (k1 * 1) (Sl.cs s1))),(39,Sl.v 1 s2),(40,sc 1 0 1 1 3)]) (hp 2 [oC q5,(oC [zI z11])]) (eC 5 (keep (hp 2 [oC q5,(oC [zI z11])]) (bb (an (Nat.blt k1 (Sl.n s1)) true) (some (fpV (k1 * 1) (Sl.cs s1))) none)) (keep_bb h8) (eD (keep (hp 2 [oC q5,(oC [zI z11])]) (nthL (Sl.cs s1) (k1 * 1))) (keep_eq h9) (eD (appFs (hp 2 [oC q5,(oC [zI z11])]) 1 8 (sc 1 0 1 1 3) s2) (appFs_sl0 h10) (by kernel_rfl)))) (OpsG.ghs (Fr.puts (fr 44 [(0,zI z9),(1,zI z10),(5,sc 0 0 1 n4 c100),(6,zI z11),(7,Sl.v 1 s1),(8,(zI (Int.ofNat k1)))]) [(33,sc 0 0 1 n4 c100),(34,zI z11),(35,sc 1 0 1 1 3),(36,Sl.v 1 s1),(37,(zI (Int.ofNat k1))),(38,(fpV (k1 * 1) (Sl.cs s1))),(39,Sl.v 1 s2),(40,(Sl.v 1 (Sl.mk 1 0 (takeL (1 * 1) (dropL 0 ([zI z11]:LV))))))]) (hp 2 [oC q5,.dead]) (.freeze 0 40 1 (by kernel_rfl) (by kernel_rfl) (GhS.id _ _)) (OpsG.fin (eC 1 (growD 1 24 n4 c100 1 0 q5 [(Sl.v 1 (Sl.mk 1 0 (takeL (1 * 1) (dropL 0 ([zI z11]:LV)))))] [] (hp 3 [oC q5,.dead,(oC [(Sl.v 1 (Sl.mk 1 0 (takeL (1 * 1) (dropL 0 ([zI z11]:LV)))))])])) (growD_eq h11) (eE))))) ?_
        replace hm:=bb_inv hm;obtain ⟨h12,hm⟩:=hm
        refine .ghs (fr 44 [(0,zI z9),(1,zI z10),(5,(sc 0 0 1 (n4 + 1) (d2 (n4 + 1)))),(6,zI z11),(7,Sl.v 1 s1),(8,(zI (Int.ofNat k1)))]) (hp 1 [(oC (appL (dropL 0 q5) [(Sl.v 1 (Sl.mk 1 0 (takeL (1 * 1) (dropL 0 ([zI z11]:LV)))))]))]) (.k [3] [] [.tmp 5 false] [0,1,5,6,7,8] ⟨trF h12,trivial⟩) ?_
        refine .rK ?_
        exact ⟨(z9,z10,(n4 + 1),(d2 (n4 + 1)),z11,s1,(wrapF .i64 (Int.add (Int.ofNat k1) (1:Int))),(appL (dropL 0 q5) [(Sl.v 1 (Sl.mk 1 0 (takeL (1 * 1) (dropL 0 ([zI z11]:LV)))))])),hm,(.k [0] [] [.tmp 5 false] [0,1,5,6,7,8] ⟨trF h12,trivial⟩)⟩
       ·replace hm := bb_inv hm; obtain ⟨h11, hm⟩ := hm
        replace hm:=bb_inv hm;obtain ⟨h13,hm⟩:=hm
        replace hm:=bb_inv hm;obtain ⟨h14,hm⟩:=hm
        refine .rG (OpsG.seg 8 (Fr.puts (fr 44 [(0,zI z9),(1,zI z10),(5,sc 0 0 1 n4 c100),(6,zI z11),(7,Sl.v 1 s1),(8,(zI (Int.ofNat k1)))]) [(33,sc 0 0 1 n4 c100),(34,zI z11),(35,sc 1 0 1 1 3),(36,Sl.v 1 s1),(37,(zI (Int.ofNat k1))),(38,(fpV (k1 * 1) (Sl.cs s1))),(39,Sl.v 1 s2),(40,(sc 2 0 1 (1 + (Sl.n s2)) (d2 (1 + (Sl.n s2)))))]) (hp 3 [oC q5,(oC [zI z11]),(oC (appL (takeL (1 * 1) (dropL 0 ([zI z11]:LV))) (takeL ((Sl.n s2) * 1) (Sl.cs s2))))]) (eC 5 (keep (hp 2 [oC q5,(oC [zI z11])]) (bb (an (Nat.blt k1 (Sl.n s1)) true) (some (fpV (k1 * 1) (Sl.cs s1))) none)) (keep_bb h8) (eD (keep (hp 2 [oC q5,(oC [zI z11])]) (nthL (Sl.cs s1) (k1 * 1))) (keep_eq h9) (eD (appFs (hp 2 [oC q5,(oC [zI z11])]) 1 8 (sc 1 0 1 1 3) s2) (appFs_full (H:=(hp 2 [oC q5,(oC [zI z11])])) (id:=1) (n:=1) (xs:=([zI z11]:LV)) (imm:=false) (sp:=false) (anc:=[]) h10 h11 (by kernel_rfl) (by kernel_rfl)) (by kernel_rfl)))) (OpsG.ghs (Fr.puts (fr 44 [(0,zI z9),(1,zI z10),(5,sc 0 0 1 n4 c100),(6,zI z11),(7,Sl.v 1 s1),(8,(zI (Int.ofNat k1)))]) [(33,sc 0 0 1 n4 c100),(34,zI z11),(35,sc 1 0 1 1 3),(36,Sl.v 1 s1),(37,(zI (Int.ofNat k1))),(38,(fpV (k1 * 1) (Sl.cs s1))),(39,Sl.v 1 s2),(40,(Sl.v 1 (Sl.mk (1 + (Sl.n s2)) 0 (takeL ((1 + (Sl.n s2)) * 1) (dropL 0 (appL (takeL (1 * 1) (dropL 0 ([zI z11]:LV))) (takeL ((Sl.n s2) * 1) (Sl.cs s2))))))))]) (hp 3 [oC q5,(oC [zI z11]),.dead]) (.freezeC 0 40 1 (an (Nat.ble (0 + (1 + (Sl.n s2)) * 1) (len (appL (takeL (1 * 1) (dropL 0 ([zI z11]:LV))) (takeL ((Sl.n s2) * 1) (Sl.cs s2))))) (allL closed1 (takeL ((1 + (Sl.n s2)) * 1) (dropL 0 (appL (takeL (1 * 1) (dropL 0 ([zI z11]:LV))) (takeL ((Sl.n s2) * 1) (Sl.cs s2))))))) (F1:=(Fr.puts (fr 44 [(0,zI z9),(1,zI z10),(5,sc 0 0 1 n4 c100),(6,zI z11),(7,Sl.v 1 s1),(8,(zI (Int.ofNat k1)))]) [(33,sc 0 0 1 n4 c100),(34,zI z11),(35,sc 1 0 1 1 3),(36,Sl.v 1 s1),(37,(zI (Int.ofNat k1))),(38,(fpV (k1 * 1) (Sl.cs s1))),(39,Sl.v 1 s2),(40,(Sl.v 1 (Sl.mk (1 + (Sl.n s2)) 0 (takeL ((1 + (Sl.n s2)) * 1) (dropL 0 (appL (takeL (1 * 1) (dropL 0 ([zI z11]:LV))) (takeL ((Sl.n s2) * 1) (Sl.cs s2))))))))])) (H1:=(hp 3 [oC q5,(oC [zI z11]),.dead])) (by kernel_rfl) (by kernel_rfl) h13 (GhS.id _ _)) (OpsG.fin (eC 1 (growD 1 24 n4 c100 1 0 q5 [(Sl.v 1 (Sl.mk (1 + (Sl.n s2)) 0 (takeL ((1 + (Sl.n s2)) * 1) (dropL 0 (appL (takeL (1 * 1) (dropL 0 ([zI z11]:LV))) (takeL ((Sl.n s2) * 1) (Sl.cs s2)))))))] [] (hp 4 [oC q5,(oC [zI z11]),.dead,(oC [(Sl.v 1 (Sl.mk (1 + (Sl.n s2)) 0 (takeL ((1 + (Sl.n s2)) * 1) (dropL 0 (appL (takeL (1 * 1) (dropL 0 ([zI z11]:LV))) (takeL ((Sl.n s2) * 1) (Sl.cs s2)))))))])])) (growD_eq h14) (eE))))) ?_
        replace hm:=bb_inv hm;obtain ⟨h15,hm⟩:=hm
        refine .ghs (fr 44 [(0,zI z9),(1,zI z10),(5,(sc 0 0 1 (n4 + 1) (d2 (n4 + 1)))),(6,zI z11),(7,Sl.v 1 s1),(8,(zI (Int.ofNat k1)))]) (hp 1 [(oC (appL (dropL 0 q5) [(Sl.v 1 (Sl.mk (1 + (Sl.n s2)) 0 (takeL ((1 + (Sl.n s2)) * 1) (dropL 0 (appL (takeL (1 * 1) (dropL 0 ([zI z11]:LV))) (takeL ((Sl.n s2) * 1) (Sl.cs s2)))))))]))]) (.k [4] [] [.tmp 5 false] [0,1,5,6,7,8] ⟨trF h15,trivial⟩) ?_
        refine .rK ?_
        exact ⟨(z9,z10,(n4 + 1),(d2 (n4 + 1)),z11,s1,(wrapF .i64 (Int.add (Int.ofNat k1) (1:Int))),(appL (dropL 0 q5) [(Sl.v 1 (Sl.mk (1 + (Sl.n s2)) 0 (takeL ((1 + (Sl.n s2)) * 1) (dropL 0 (appL (takeL (1 * 1) (dropL 0 ([zI z11]:LV))) (takeL ((Sl.n s2) * 1) (Sl.cs s2)))))))])),hm,(.k [0] [] [.tmp 5 false] [0,1,5,6,7,8] ⟨trF h15,trivial⟩)⟩
      ·refine .ifF (ilt z12 (Int.ofNat (Sl.n s1))) (by kernel_rfl) h6 ?_
       refine .exit ?_
       exact ⟨(z9,z10,n4,c100,z11,q5),hm,(.k [0] [] [.tmp 5 false] [0,1,5,6] ⟨trF h5,trivial⟩)⟩
    ·refine .ifF b0 (by kernel_rfl) h1 ?_
     refine .exit ?_
     replace hm:=bb_inv hm;obtain ⟨h16,hm⟩:=hm
     exact ⟨(n2,c2,q3),hm,(.k [0] [] [.tmp 5 false] [5] ⟨trF h16,trivial⟩)⟩
   ·replace hm := bb_cases hm; rcases hm with ⟨h17, hm⟩ | ⟨h17, hm⟩
    ·refine .reg (eC 2 (some ((zB (nt (ilt z1 z2))), (hp 1 [oC q2]))) (show _ = some ((zB true), _) from (by rw [h17])) (eE)) ?_
     replace hm:=bb_inv hm;obtain ⟨h18,hm⟩:=hm
     exact ⟨(z0,z1,n1,c1,z2,(nt (ilt z0 z2)),q2),hm,(.k [0] [] [.tmp 5 false] [0,1,5,6,19] ⟨trF h18,trivial⟩)⟩
    ·refine .reg (eC 2 (some ((zB (nt (ilt z1 z2))), (hp 1 [oC q2]))) (show _ = some ((zB false), _) from (by rw [h17])) (eE)) ?_
     replace hm:=bb_inv hm;obtain ⟨h19,hm⟩:=hm
     exact ⟨(z0,z1,n1,c1,z2,false,q2),hm,(.k [0] [] [.tmp 5 false] [0,1,5,6,19] ⟨trF h19,trivial⟩)⟩
def m30_0 (pu:PureF) (n:Nat) (z0:Int):OV:=
 (some (.int .i64 z0))
def b30_1 (pu:PureF) (n:Nat) (ih0:Sl→Int→Int→OV) (s0:Sl) (z0 z1:Int):OV:=
 (bb (ilt z1 (Int.ofNat (Sl.n s0))) (oo (toN z1) none fun k1=>(bb (an (Nat.blt k1 (Sl.n s0)) true) (oo (nthL (Sl.cs s0) (k1 * 1)) none fun v0=>(oo (toI .i64 v0) none fun x0=>(ih0 s0 (wrapF .i64 (Int.add z0 x0)) (wrapF .i64 (Int.add (Int.ofNat k1) (1:Int)))))) none)) (m30_0 pu n z0))
def l30_1 (pu:PureF) (n w:Nat):Sl→Int→Int→OV:=
 Nat.rec (motive:=fun _=>Sl→Int→Int→OV) (fun _ _ _=>none) (fun _ ih0=>b30_1 pu n ih0) w
def m30_ (pu:PureF) (n:Nat) (s0:Sl):OV:=
 (l30_1 pu n n s0 (0:Int) (0:Int))
def m30 (pu:PureF) (n:Nat) (args:LV):OV:=
 (ll args none fun a0 args=>(ll args (oo (toSl 1 a0) none fun s0=>(m30_ pu n s0)) fun _ _=>none))
theorem w30_0 (pu:PureF) (n:Nat) (z0:Int) {v:Value} (hm:m30_0 pu n z0 = some v):Run tt (callP tabs isP pu (inl pu)) 0 c30_15 (fr 18 [(3,zI z0)]) (hp 0 []) (Fin tt 0 [.tmp 2] v):=by
 unfold m30_0 at hm
 refine .then (.rK ?_)
 refine .ghs (fr 18 [(2,zI z0)]) (hp 0 []) (.k0 [] [] [2]) ?_
 refine .ret ?_
 exact fin_ret (zI z0) (by kernel_rfl) (by kernel_rfl) hm
theorem r30 {call:CallF} (pu:PureF) (n:Nat) (hcall:call = callP tabs isP pu (inl pu)) {args:LV} {v:Value} (hm:m30 pu n args = some v) (_:∀ x ∈ args,closed2 x = true):args.length≤18∧Run tt call 0 c30_18 (Fr.made 18 args) (pureHeap tabs) (Fin tt 0 [.tmp 2] v):=by
 subst hcall
 unfold m30 at hm
 replace hm:=ll_uncons hm;obtain ⟨a0,args_0,rfl,hm⟩:=hm
 replace hm:=ll_end hm;obtain ⟨rfl,hm⟩:=hm
 replace hm:=inv_toSl hm;obtain ⟨s0,rfl,hm⟩:=hm
 unfold m30_ at hm
 refine ⟨by simp,?_⟩
 refine .same (F':=(fr 18 [(0,Sl.v 1 s0)])) (H':=(hp 0 [])) (by kernel_rfl) (by kernel_rfl) ?_
 refine .then (.rK ?_)
 refine .ghs (fr 18 [(0,Sl.v 1 s0)]) (hp 0 []) (.k0 [] [] [0]) ?_
 refine .then (.rK ?_)
 refine .ghs (fr 18 [(0,Sl.v 1 s0),(3,(zI (0:Int)))]) (hp 0 []) (.k0 [] [] [0,3]) ?_
 refine .join (v:=v) (fun y:Int=>((fr 18 [(3,zI y)]),(hp 0 []))) (fun y=>m30_0 pu n y) ?_ ?_
 ·rintro z0 hm
  exact w30_0 pu n z0 hm
 ·refine .then (.rK ?_)
  refine .ghs (fr 18 [(0,Sl.v 1 s0),(3,(zI (0:Int))),(4,(zI (0:Int)))]) (hp 0 []) (.k0 [] [] [0,3,4]) ?_
  refine .block ?_
  refine .loopM (v:=v) (fun y:Sl×Int×Int=>((fr 18 [(0,(Sl.v 1 y.1)),(3,(zI y.2.1)),(4,(zI y.2.2))]),(hp 0 []))) (fun w y=>l30_1 pu n w y.1 y.2.1 y.2.2) n ⟨(s0,(0:Int),(0:Int)),hm,(.k0 [] [] [0,3,4])⟩ (fun _=>rfl) ?_
  rintro w0 ⟨s1,z1,z2⟩ hm
  replace hm:b30_1 pu n (l30_1 pu n w0) s1 z1 z2 = some v:=hm
  unfold b30_1 at hm
  refine .then ?_
  refine .then (.rK ?_)
  refine .ghs (fr 18 [(0,Sl.v 1 s1),(3,zI z1),(4,zI z2),(8,(zB (ilt z2 (Int.ofNat (Sl.n s1)))))]) (hp 0 []) (.k0 [] [] [0,3,4,8]) ?_
  replace hm:=bb_cases hm;rcases hm with ⟨h0,hm⟩ | ⟨h0,hm⟩
  ·refine .ifT (ilt z2 (Int.ofNat (Sl.n s1))) (by kernel_rfl) h0 ?_
   refine .skip ?_
   refine .ghs (fr 18 [(0,Sl.v 1 s1),(3,zI z1),(4,zI z2)]) (hp 0 []) (.k0 [] [] [0,3,4]) ?_
   refine .then ?_
   refine .block ?_
   replace hm:=oo_inv hm;obtain ⟨k1,h1,hm⟩:=hm
   obtain rfl:=toN_some h1
   replace hm:=bb_inv hm;obtain ⟨h2,hm⟩:=hm
   replace hm:=oo_inv hm;obtain ⟨v0,h3,hm⟩:=hm
   replace hm:=inv_toI hm;obtain ⟨x0,rfl,hm⟩:=hm
   refine .reg (eC 3 (keep (hp 0 []) (bb (an (Nat.blt k1 (Sl.n s1)) true) (some (fpV (k1 * 1) (Sl.cs s1))) none)) (keep_bb h2) (eD (keep (hp 0 []) (nthL (Sl.cs s1) (k1 * 1))) (keep_eq h3) (eE))) ?_
   refine .ghs (fr 18 [(0,Sl.v 1 s1),(3,(zI (wrapF .i64 (Int.add z1 x0)))),(4,(zI (Int.ofNat k1)))]) (hp 0 []) (.k0 [] [] [0,3,4]) ?_
   refine .rK ?_
   exact ⟨(s1,(wrapF .i64 (Int.add z1 x0)),(wrapF .i64 (Int.add (Int.ofNat k1) (1:Int)))),hm,(.k0 [] [] [0,3,4])⟩
  ·refine .ifF (ilt z2 (Int.ofNat (Sl.n s1))) (by kernel_rfl) h0 ?_
   refine .exit ?_
   exact ⟨z1,hm,(.k0 [] [] [3])⟩
def m31_0 (pu:PureF) (n:Nat):OV:=
 (some (.bool true))
def b31_1 (pu:PureF) (n:Nat) (ih0:Sl→Sl→Int→OV) (s0 s1:Sl) (z0:Int):OV:=
 (bb (ilt z0 (Int.ofNat (Sl.n s0))) (oo (toN z0) none fun k1=>(bb (an (Nat.blt k1 (Sl.n s0)) true) (oo (nthL (Sl.cs s0) (k1 * 1)) none fun v0=>(oo (toI .i64 v0) none fun x0=>(bb (an (Nat.blt k1 (Sl.n s1)) true) (oo (nthL (Sl.cs s1) (k1 * 1)) none fun v1=>(oo (toI .i64 v1) none fun x1=>(bb (nt (ieq x0 x1)) (some (.bool false)) (ih0 s0 s1 (wrapF .i64 (Int.add (Int.ofNat k1) (1:Int))))))) none))) none)) (m31_0 pu n))
def l31_1 (pu:PureF) (n w:Nat):Sl→Sl→Int→OV:=
 Nat.rec (motive:=fun _=>Sl→Sl→Int→OV) (fun _ _ _=>none) (fun _ ih0=>b31_1 pu n ih0) w
def m31_ (pu:PureF) (n:Nat) (s0 s1:Sl):OV:=
 (bb (nt (ieq (Int.ofNat (Sl.n s0)) (Int.ofNat (Sl.n s1)))) (some (.bool false)) (l31_1 pu n n s0 s1 (0:Int)))
def m31 (pu:PureF) (n:Nat) (args:LV):OV:=
 (ll args none fun a0 args=>(ll args none fun a1 args=>(ll args (oo (toSl 1 a0) none fun s0=>(oo (toSl 1 a1) none fun s1=>(m31_ pu n s0 s1))) fun _ _=>none)))
theorem w31_0 (pu:PureF) (n:Nat) {v:Value} (hm:m31_0 pu n = some v):Run tt (callP tabs isP pu (inl pu)) 0 c31_23 (fr 26 []) (hp 0 []) (Fin tt 0 [.tmp 4] v):=by
 unfold m31_0 at hm
 refine .then (.rK ?_)
 refine .ghs (fr 26 [(4,zB true)]) (hp 0 []) (.k0 [] [] [4]) ?_
 refine .ret ?_
 exact fin_ret (zB true) (by kernel_rfl) (by kernel_rfl) hm
theorem r31 {call:CallF} (pu:PureF) (n:Nat) (hcall:call = callP tabs isP pu (inl pu)) {args:LV} {v:Value} (hm:m31 pu n args = some v) (_:∀ x ∈ args,closed2 x = true):args.length≤26∧Run tt call 0 c31_26 (Fr.made 26 args) (pureHeap tabs) (Fin tt 0 [.tmp 4] v):=by
 subst hcall
 unfold m31 at hm
 replace hm:=ll_uncons hm;obtain ⟨a0,args_0,rfl,hm⟩:=hm
 replace hm:=ll_uncons hm;obtain ⟨a1,args_1,rfl,hm⟩:=hm
 replace hm:=ll_end hm;obtain ⟨rfl,hm⟩:=hm
 replace hm:=inv_toSl hm;obtain ⟨s0,rfl,hm⟩:=hm
 replace hm:=inv_toSl hm;obtain ⟨s1,rfl,hm⟩:=hm
 unfold m31_ at hm
 refine ⟨by simp,?_⟩
 refine .same (F':=(fr 26 [(0,Sl.v 1 s0),(1,Sl.v 1 s1)])) (H':=(hp 0 [])) (by kernel_rfl) (by kernel_rfl) ?_
 refine .then (.rK ?_)
 refine .ghs (fr 26 [(0,Sl.v 1 s0),(1,Sl.v 1 s1)]) (hp 0 []) (.k0 [] [] [0,1]) ?_
 refine .then ?_
 refine .then (.rK ?_)
 refine .ghs (fr 26 [(0,Sl.v 1 s0),(1,Sl.v 1 s1),(10,(zB (nt (ieq (Int.ofNat (Sl.n s0)) (Int.ofNat (Sl.n s1))))))]) (hp 0 []) (.k0 [] [] [0,1,10]) ?_
 replace hm:=bb_cases hm;rcases hm with ⟨h0,hm⟩ | ⟨h0,hm⟩
 ·refine .ifT (nt (ieq (Int.ofNat (Sl.n s0)) (Int.ofNat (Sl.n s1)))) (by kernel_rfl) h0 ?_
  refine .then (.rK ?_)
  refine .ghs (fr 26 [(4,zB false)]) (hp 0 []) (.k0 [] [] [4]) ?_
  refine .ret ?_
  exact fin_ret (zB false) (by kernel_rfl) (by kernel_rfl) hm
 ·refine .ifF (nt (ieq (Int.ofNat (Sl.n s0)) (Int.ofNat (Sl.n s1)))) (by kernel_rfl) h0 ?_
  refine .skip ?_
  refine .ghs (fr 26 [(0,Sl.v 1 s0),(1,Sl.v 1 s1)]) (hp 0 []) (.k0 [] [] [0,1]) ?_
  refine .join (v:=v) (fun y:Unit=>((fr 26 []),(hp 0 []))) (fun y=>m31_0 pu n) ?_ ?_
  ·rintro _ hm
   exact w31_0 pu n hm
  ·refine .then (.rK ?_)
   refine .ghs (fr 26 [(0,Sl.v 1 s0),(1,Sl.v 1 s1),(5,(zI (0:Int)))]) (hp 0 []) (.k0 [] [] [0,1,5]) ?_
   refine .block ?_
   refine .loopM (v:=v) (fun y:Sl×Sl×Int=>((fr 26 [(0,(Sl.v 1 y.1)),(1,(Sl.v 1 y.2.1)),(5,(zI y.2.2))]),(hp 0 []))) (fun w y=>l31_1 pu n w y.1 y.2.1 y.2.2) n ⟨(s0,s1,(0:Int)),hm,(.k0 [] [] [0,1,5])⟩ (fun _=>rfl) ?_
   rintro w0 ⟨s2,s3,z0⟩ hm
   replace hm:b31_1 pu n (l31_1 pu n w0) s2 s3 z0 = some v:=hm
   unfold b31_1 at hm
   refine .then ?_
   refine .then (.rK ?_)
   refine .ghs (fr 26 [(0,Sl.v 1 s2),(1,Sl.v 1 s3),(5,zI z0),(14,(zB (ilt z0 (Int.ofNat (Sl.n s2)))))]) (hp 0 []) (.k0 [] [] [0,1,5,14]) ?_
   replace hm:=bb_cases hm;rcases hm with ⟨h1,hm⟩ | ⟨h1,hm⟩
   ·refine .ifT (ilt z0 (Int.ofNat (Sl.n s2))) (by kernel_rfl) h1 ?_
    refine .skip ?_
    refine .ghs (fr 26 [(0,Sl.v 1 s2),(1,Sl.v 1 s3),(5,zI z0)]) (hp 0 []) (.k0 [] [] [0,1,5]) ?_
    refine .then ?_
    refine .block ?_
    refine .then ?_
    replace hm:=oo_inv hm;obtain ⟨k1,h2,hm⟩:=hm
    obtain rfl:=toN_some h2
    replace hm:=bb_inv hm;obtain ⟨h3,hm⟩:=hm
    replace hm:=oo_inv hm;obtain ⟨v0,h4,hm⟩:=hm
    replace hm:=inv_toI hm;obtain ⟨x0,rfl,hm⟩:=hm
    replace hm:=bb_inv hm;obtain ⟨h5,hm⟩:=hm
    replace hm:=oo_inv hm;obtain ⟨v1,h6,hm⟩:=hm
    replace hm:=inv_toI hm;obtain ⟨x1,rfl,hm⟩:=hm
    refine .reg (eC 2 (keep (hp 0 []) (bb (an (Nat.blt k1 (Sl.n s2)) true) (some (fpV (k1 * 1) (Sl.cs s2))) none)) (keep_bb h3) (eD (keep (hp 0 []) (nthL (Sl.cs s2) (k1 * 1))) (keep_eq h4) (eC 2 (keep (hp 0 []) (bb (an (Nat.blt k1 (Sl.n s3)) true) (some (fpV (k1 * 1) (Sl.cs s3))) none)) (keep_bb h5) (eD (keep (hp 0 []) (nthL (Sl.cs s3) (k1 * 1))) (keep_eq h6) (eE))))) ?_
    refine .ghs (fr 26 [(0,Sl.v 1 s2),(1,Sl.v 1 s3),(5,(zI (Int.ofNat k1))),(25,(zB (nt (ieq x0 x1))))]) (hp 0 []) (.k0 [] [] [0,1,5,25]) ?_
    replace hm:=bb_cases hm;rcases hm with ⟨h7,hm⟩ | ⟨h7,hm⟩
    ·refine .ifT (nt (ieq x0 x1)) (by kernel_rfl) h7 ?_
     refine .then (.rK ?_)
     refine .ghs (fr 26 [(4,zB false)]) (hp 0 []) (.k0 [] [] [4]) ?_
     refine .ret ?_
     exact fin_ret (zB false) (by kernel_rfl) (by kernel_rfl) hm
    ·refine .ifF (nt (ieq x0 x1)) (by kernel_rfl) h7 ?_
     refine .skip ?_
     refine .ghs (fr 26 [(0,Sl.v 1 s2),(1,Sl.v 1 s3),(5,(zI (Int.ofNat k1)))]) (hp 0 []) (.k0 [] [] [0,1,5]) ?_
     refine .rK ?_
     exact ⟨(s2,s3,(wrapF .i64 (Int.add (Int.ofNat k1) (1:Int)))),hm,(.k0 [] [] [0,1,5])⟩
   ·refine .ifF (ilt z0 (Int.ofNat (Sl.n s2))) (by kernel_rfl) h1 ?_
    refine .exit ?_
    exact ⟨(),hm,(.k0 [] [] [])⟩
def m32_0 (pu:PureF) (n:Nat) (b0:Bool):OV:=
 (some (.bool b0))
def m32_ (pu:PureF) (n:Nat) (x0 x1 x2:Int):OV:=
 (bb (nt (ilt x1 x0)) (m32_0 pu n (nt (ilt x2 x1))) (m32_0 pu n false))
def m32 (pu:PureF) (n:Nat) (args:LV):OV:=
 (ll args none fun a0 args=>(ll args none fun a1 args=>(ll args none fun a2 args=>(ll args (oo (toI .i64 a0) none fun x0=>(oo (toI .i64 a1) none fun x1=>(oo (toI .i64 a2) none fun x2=>(m32_ pu n x0 x1 x2)))) fun _ _=>none))))
theorem w32_0 (pu:PureF) (n:Nat) (b0:Bool) {v:Value} (hm:m32_0 pu n b0 = some v):Run tt (callP tabs isP pu (inl pu)) 0 .ret (fr 15 [(6,zB b0)]) (hp 0 []) (Fin tt 0 [.tmp 6] v):=by
 unfold m32_0 at hm
 refine .ret ?_
 exact fin_ret (zB b0) (by kernel_rfl) (by kernel_rfl) hm
theorem r32 {call:CallF} (pu:PureF) (n:Nat) (hcall:call = callP tabs isP pu (inl pu)) {args:LV} {v:Value} (hm:m32 pu n args = some v) (_:∀ x ∈ args,closed2 x = true):args.length≤15∧Run tt call 0 c32_3 (Fr.made 15 args) (pureHeap tabs) (Fin tt 0 [.tmp 6] v):=by
 subst hcall
 unfold m32 at hm
 replace hm:=ll_uncons hm;obtain ⟨a0,args_0,rfl,hm⟩:=hm
 replace hm:=ll_uncons hm;obtain ⟨a1,args_1,rfl,hm⟩:=hm
 replace hm:=ll_uncons hm;obtain ⟨a2,args_2,rfl,hm⟩:=hm
 replace hm:=ll_end hm;obtain ⟨rfl,hm⟩:=hm
 replace hm:=inv_toI hm;obtain ⟨x0,rfl,hm⟩:=hm
 replace hm:=inv_toI hm;obtain ⟨x1,rfl,hm⟩:=hm
 replace hm:=inv_toI hm;obtain ⟨x2,rfl,hm⟩:=hm
 unfold m32_ at hm
 refine ⟨by simp,?_⟩
 refine .same (F':=(fr 15 [(0,zI x0),(1,zI x1),(2,zI x2)])) (H':=(hp 0 [])) (by kernel_rfl) (by kernel_rfl) ?_
 refine .then (.rK ?_)
 refine .ghs (fr 15 [(0,zI x0),(1,zI x1),(2,zI x2)]) (hp 0 []) (.k0 [] [] [0,1,2]) ?_
 refine .join (v:=v) (fun y:Bool=>((fr 15 [(6,zB y)]),(hp 0 []))) (fun y=>m32_0 pu n y) ?_ ?_
 ·rintro b0 hm
  exact w32_0 pu n b0 hm
 ·replace hm := bb_cases hm; rcases hm with ⟨h0, hm⟩ | ⟨h0, hm⟩
  ·refine .reg (eC 2 (some ((zB (nt (ilt x1 x0))), (hp 0 []))) (show _ = some ((zB true), _) from (by rw [h0])) (eE)) ?_
   exact ⟨(nt (ilt x2 x1)),hm,(.k0 [] [] [6])⟩
  ·refine .reg (eC 2 (some ((zB (nt (ilt x1 x0))), (hp 0 []))) (show _ = some ((zB false), _) from (by rw [h0])) (eE)) ?_
   exact ⟨false,hm,(.k0 [] [] [6])⟩
def m33_0 (pu:PureF) (n:Nat) (z0 z1:Int):OV:=
 (some (.tuple ⟨[.int .i64 z0,.int .i64 z1]⟩))
def b33_1 (pu:PureF) (n:Nat) (ih0:Int→Int→OV) (z0 z1:Int):OV:=
 (bb (ilt z0 z1) (ih0 (wrapF .i64 (Int.add z0 (1:Int))) (wrapF .i64 (Int.sub z1 (wrapF .i64 (Int.add z0 (1:Int)))))) (m33_0 pu n z0 z1))
def l33_1 (pu:PureF) (n w:Nat):Int→Int→OV:=
 Nat.rec (motive:=fun _=>Int→Int→OV) (fun _ _=>none) (fun _ ih0=>b33_1 pu n ih0) w
def m33_ (pu:PureF) (n:Nat) (x0:Int):OV:=
 (l33_1 pu n n (0:Int) x0)
def m33 (pu:PureF) (n:Nat) (args:LV):OV:=
 (ll args none fun a0 args=>(ll args (oo (toI .i64 a0) none fun x0=>(m33_ pu n x0)) fun _ _=>none))
theorem w33_0 (pu:PureF) (n:Nat) (z0 z1:Int) {v:Value} (hm:m33_0 pu n z0 z1 = some v):Run tt (callP tabs isP pu (inl pu)) 0 c33_14 (fr 15 [(2,zI z0),(3,zI z1)]) (hp 0 []) (Fin tt 0 [.tmp 2,.tmp 3] v):=by
 unfold m33_0 at hm
 refine .then (.rK ?_)
 refine .ghs (fr 15 [(2,zI z0),(3,zI z1)]) (hp 0 []) (.k0 [] [] [2,3]) ?_
 refine .ret ?_
 exact fin_ret (.tuple ⟨[zI z0,zI z1]⟩) (by kernel_rfl) (by kernel_rfl) hm
theorem r33 {call:CallF} (pu:PureF) (n:Nat) (hcall:call = callP tabs isP pu (inl pu)) {args:LV} {v:Value} (hm:m33 pu n args = some v) (_:∀ x ∈ args,closed2 x = true):args.length≤15∧Run tt call 0 c33_16 (Fr.made 15 args) (pureHeap tabs) (Fin tt 0 [.tmp 2,.tmp 3] v):=by
 subst hcall
 unfold m33 at hm
 replace hm:=ll_uncons hm;obtain ⟨a0,args_0,rfl,hm⟩:=hm
 replace hm:=ll_end hm;obtain ⟨rfl,hm⟩:=hm
 replace hm:=inv_toI hm;obtain ⟨x0,rfl,hm⟩:=hm
 unfold m33_ at hm
 refine ⟨by simp,?_⟩
 refine .same (F':=(fr 15 [(0,zI x0)])) (H':=(hp 0 [])) (by kernel_rfl) (by kernel_rfl) ?_
 refine .then (.rK ?_)
 refine .ghs (fr 15 [(0,zI x0),(2,(zI (0:Int)))]) (hp 0 []) (.k0 [] [] [0,2]) ?_
 refine .join (v:=v) (fun y:Int×Int=>((fr 15 [(2,(zI y.1)),(3,(zI y.2))]),(hp 0 []))) (fun y=>m33_0 pu n y.1 y.2) ?_ ?_
 ·rintro ⟨z0, z1⟩ hm
  exact w33_0 pu n z0 z1 hm
 ·refine .then (.rK ?_)
  refine .ghs (fr 15 [(2,(zI (0:Int))),(3,zI x0)]) (hp 0 []) (.k0 [] [] [2,3]) ?_
  refine .block ?_
  refine .loopM (v:=v) (fun y:Int×Int=>((fr 15 [(2,(zI y.1)),(3,(zI y.2))]),(hp 0 []))) (fun w y=>l33_1 pu n w y.1 y.2) n ⟨((0:Int),x0),hm,(.k0 [] [] [2,3])⟩ (fun _=>rfl) ?_
  rintro w0 ⟨z2,z3⟩ hm
  replace hm:b33_1 pu n (l33_1 pu n w0) z2 z3 = some v:=hm
  unfold b33_1 at hm
  refine .then ?_
  refine .then (.rK ?_)
  refine .ghs (fr 15 [(2,zI z2),(3,zI z3),(7,(zB (ilt z2 z3)))]) (hp 0 []) (.k0 [] [] [2,3,7]) ?_
  replace hm:=bb_cases hm;rcases hm with ⟨h0,hm⟩ | ⟨h0,hm⟩
  ·refine .ifT (ilt z2 z3) (by kernel_rfl) h0 ?_
   refine .skip ?_
   refine .ghs (fr 15 [(2,zI z2),(3,zI z3)]) (hp 0 []) (.k0 [] [] [2,3]) ?_
   refine .block ?_
   refine .then (.rK ?_)
   refine .ghs (fr 15 [(2,(zI (wrapF .i64 (Int.add z2 (1:Int))))),(3,zI z3)]) (hp 0 []) (.k0 [] [] [2,3]) ?_
   refine .rK ?_
   exact ⟨((wrapF .i64 (Int.add z2 (1:Int))),(wrapF .i64 (Int.sub z3 (wrapF .i64 (Int.add z2 (1:Int)))))),hm,(.k0 [] [] [2,3])⟩
  ·refine .ifF (ilt z2 z3) (by kernel_rfl) h0 ?_
   refine .exit ?_
   exact ⟨(z2,z3),hm,(.k0 [] [] [2,3])⟩
def m42_0 (pu:PureF) (n:Nat) (s0 s1:Sl):OV:=
 (bb (ilt (Int.ofNat (Sl.n s0)) (Int.ofNat (Sl.n s1))) (some (.int .i64 (-1:Int))) (some (.int .i64 (0:Int))))
def b42_1 (pu:PureF) (n:Nat) (ih0:Sl→Sl→Sl→Int→Int→OV) (s0 s1 s2:Sl) (z0 z1:Int):OV:=
 (bb (ilt z1 z0) (oo (toN z1) none fun k1=>(bb (an (Nat.blt k1 (Sl.n s2)) true) (oo (nthL (Sl.cs s2) (k1 * 1)) none fun v0=>(oo (toI .i64 v0) none fun x0=>(bb (nt (ilt (Int.ofNat k1) (Int.ofNat (Sl.n s1)))) (some (.int .i64 (1:Int))) (bb (an (Nat.blt k1 (Sl.n s1)) true) (oo (nthL (Sl.cs s1) (k1 * 1)) none fun v1=>(oo (toI .i64 v1) none fun x1=>(oo (pu 62 [.int .i64 x0,.int .i64 x1]) none fun v2=>(oo (toI .i64 v2) none fun x2=>(bb (nt (ieq x2 (0:Int))) (some (.int .i64 x2)) (ih0 s0 s1 s2 z0 (wrapF .i64 (Int.add (Int.ofNat k1) (1:Int))))))))) none)))) none)) (m42_0 pu n s0 s1))
def l42_1 (pu:PureF) (n w:Nat):Sl→Sl→Sl→Int→Int→OV:=
 Nat.rec (motive:=fun _=>Sl→Sl→Sl→Int→Int→OV) (fun _ _ _ _ _=>none) (fun _ ih0=>b42_1 pu n ih0) w
def m42_ (pu:PureF) (n:Nat) (s0 s1:Sl):OV:=
 (l42_1 pu n n s0 s1 s0 (Int.ofNat (Sl.n s0)) (0:Int))
def m42 (pu:PureF) (n:Nat) (args:LV):OV:=
 (ll args none fun a0 args=>(ll args none fun a1 args=>(ll args (oo (toSl 1 a0) none fun s0=>(oo (toSl 1 a1) none fun s1=>(m42_ pu n s0 s1))) fun _ _=>none)))
theorem w42_0 (pu:PureF) (n:Nat) (s0 s1:Sl) {v:Value} (hm:m42_0 pu n s0 s1 = some v):Run tt (callP tabs isP pu (inl pu)) 0 c42_36 (fr 36 [(0,Sl.v 1 s0),(1,Sl.v 1 s1)]) (hp 0 []) (Fin tt 0 [.tmp 4] v):=by
 unfold m42_0 at hm
 refine .then ?_
 refine .then (.rK ?_)
 refine .ghs (fr 36 [(35,(zB (ilt (Int.ofNat (Sl.n s0)) (Int.ofNat (Sl.n s1)))))]) (hp 0 []) (.k0 [] [] [35]) ?_
 replace hm:=bb_cases hm;rcases hm with ⟨h0,hm⟩ | ⟨h0,hm⟩
 ·refine .ifT (ilt (Int.ofNat (Sl.n s0)) (Int.ofNat (Sl.n s1))) (by kernel_rfl) h0 ?_
  refine .then (.rK ?_)
  refine .ghs (fr 36 [(4,(zI (-1:Int)))]) (hp 0 []) (.k0 [] [] [4]) ?_
  refine .ret ?_
  exact fin_ret (zI (-1:Int)) (by kernel_rfl) (by kernel_rfl) hm
 ·refine .ifF (ilt (Int.ofNat (Sl.n s0)) (Int.ofNat (Sl.n s1))) (by kernel_rfl) h0 ?_
  refine .skip ?_
  refine .ghs (fr 36 []) (hp 0 []) (.k0 [] [] []) ?_
  refine .then (.rK ?_)
  refine .ghs (fr 36 [(4,(zI (0:Int)))]) (hp 0 []) (.k0 [] [] [4]) ?_
  refine .ret ?_
  exact fin_ret (zI (0:Int)) (by kernel_rfl) (by kernel_rfl) hm
theorem r42 {call:CallF} (pu:PureF) (n:Nat) (hcall:call = callP tabs isP pu (inl pu)) {args:LV} {v:Value} (hm:m42 pu n args = some v) (_:∀ x ∈ args,closed2 x = true):args.length≤36∧Run tt call 0 c42_38 (Fr.made 36 args) (pureHeap tabs) (Fin tt 0 [.tmp 4] v):=by
 subst hcall
 unfold m42 at hm
 replace hm:=ll_uncons hm;obtain ⟨a0,args_0,rfl,hm⟩:=hm
 replace hm:=ll_uncons hm;obtain ⟨a1,args_1,rfl,hm⟩:=hm
 replace hm:=ll_end hm;obtain ⟨rfl,hm⟩:=hm
 replace hm:=inv_toSl hm;obtain ⟨s0,rfl,hm⟩:=hm
 replace hm:=inv_toSl hm;obtain ⟨s1,rfl,hm⟩:=hm
 unfold m42_ at hm
 refine ⟨by simp,?_⟩
 refine .same (F':=(fr 36 [(0,Sl.v 1 s0),(1,Sl.v 1 s1)])) (H':=(hp 0 [])) (by kernel_rfl) (by kernel_rfl) ?_
 refine .then (.rK ?_)
 refine .ghs (fr 36 [(0,Sl.v 1 s0),(1,Sl.v 1 s1)]) (hp 0 []) (.k0 [] [] [0,1]) ?_
 refine .join (v:=v) (fun y:Sl×Sl=>((fr 36 [(0,(Sl.v 1 y.1)),(1,(Sl.v 1 y.2))]),(hp 0 []))) (fun y=>m42_0 pu n y.1 y.2) ?_ ?_
 ·rintro ⟨s2, s3⟩ hm
  exact w42_0 pu n s2 s3 hm
 ·refine .then (.rK ?_)
  refine .ghs (fr 36 [(0,Sl.v 1 s0),(1,Sl.v 1 s1),(9,Sl.v 1 s0),(10,(zI (Int.ofNat (Sl.n s0)))),(11,(zI (0:Int)))]) (hp 0 []) (.k0 [] [] [0,1,9,10,11]) ?_
  refine .block ?_
  refine .loopM (v:=v) (fun y:Sl×Sl×Sl×Int×Int=>((fr 36 [(0,(Sl.v 1 y.1)),(1,(Sl.v 1 y.2.1)),(9,(Sl.v 1 y.2.2.1)),(10,(zI y.2.2.2.1)),(11,(zI y.2.2.2.2))]),(hp 0 []))) (fun w y=>l42_1 pu n w y.1 y.2.1 y.2.2.1 y.2.2.2.1 y.2.2.2.2) n ⟨(s0,s1,s0,(Int.ofNat (Sl.n s0)),(0:Int)),hm,(.k0 [] [] [0,1,9,10,11])⟩ (fun _=>rfl) ?_
  rintro w0 ⟨s4,s5,s6,z0,z1⟩ hm
  replace hm:b42_1 pu n (l42_1 pu n w0) s4 s5 s6 z0 z1 = some v:=hm
  unfold b42_1 at hm
  refine .then (.rK ?_)
  refine .ghs (fr 36 [(0,Sl.v 1 s4),(1,Sl.v 1 s5),(9,Sl.v 1 s6),(10,zI z0),(11,zI z1),(12,(zB (ilt z1 z0)))]) (hp 0 []) (.k0 [] [] [0,1,9,10,11,12]) ?_
  refine .then ?_
  replace hm:=bb_cases hm;rcases hm with ⟨h0,hm⟩ | ⟨h0,hm⟩
  ·refine .ifT (ilt z1 z0) (by kernel_rfl) h0 ?_
   refine .skip ?_
   refine .ghs (fr 36 [(0,Sl.v 1 s4),(1,Sl.v 1 s5),(9,Sl.v 1 s6),(10,zI z0),(11,zI z1)]) (hp 0 []) (.k0 [] [] [0,1,9,10,11]) ?_
   refine .then ?_
   refine .block ?_
   refine .then ?_
   replace hm:=oo_inv hm;obtain ⟨k1,h1,hm⟩:=hm
   obtain rfl:=toN_some h1
   replace hm:=bb_inv hm;obtain ⟨h2,hm⟩:=hm
   replace hm:=oo_inv hm;obtain ⟨v0,h3,hm⟩:=hm
   replace hm:=inv_toI hm;obtain ⟨x0,rfl,hm⟩:=hm
   refine .reg (eC 1 (keep (hp 0 []) (bb (an (Nat.blt k1 (Sl.n s6)) true) (some (fpV (k1 * 1) (Sl.cs s6))) none)) (keep_bb h2) (eD (keep (hp 0 []) (nthL (Sl.cs s6) (k1 * 1))) (keep_eq h3) (eE))) ?_
   refine .ghs (fr 36 [(0,Sl.v 1 s4),(1,Sl.v 1 s5),(5,(zI (Int.ofNat k1))),(6,zI x0),(9,Sl.v 1 s6),(10,zI z0),(11,(zI (Int.ofNat k1)))]) (hp 0 []) (.k0 [] [] [0,1,5,6,9,10,11]) ?_
   refine .then ?_
   refine .then (.rK ?_)
   refine .ghs (fr 36 [(0,Sl.v 1 s4),(1,Sl.v 1 s5),(5,(zI (Int.ofNat k1))),(6,zI x0),(9,Sl.v 1 s6),(10,zI z0),(11,(zI (Int.ofNat k1))),(19,(zB (nt (ilt (Int.ofNat k1) (Int.ofNat (Sl.n s5))))))]) (hp 0 []) (.k0 [] [] [0,1,5,6,9,10,11,19]) ?_
   replace hm:=bb_cases hm;rcases hm with ⟨h4,hm⟩ | ⟨h4,hm⟩
   ·refine .ifT (nt (ilt (Int.ofNat k1) (Int.ofNat (Sl.n s5)))) (by kernel_rfl) h4 ?_
    refine .then (.rK ?_)
    refine .ghs (fr 36 [(4,(zI (1:Int)))]) (hp 0 []) (.k0 [] [] [4]) ?_
    refine .ret ?_
    exact fin_ret (zI (1:Int)) (by kernel_rfl) (by kernel_rfl) hm
   ·refine .ifF (nt (ilt (Int.ofNat k1) (Int.ofNat (Sl.n s5)))) (by kernel_rfl) h4 ?_
    refine .skip ?_
    refine .ghs (fr 36 [(0,Sl.v 1 s4),(1,Sl.v 1 s5),(5,(zI (Int.ofNat k1))),(6,zI x0),(9,Sl.v 1 s6),(10,zI z0),(11,(zI (Int.ofNat k1)))]) (hp 0 []) (.k0 [] [] [0,1,5,6,9,10,11]) ?_
    refine .then ?_
    replace hm:=bb_inv hm;obtain ⟨h5,hm⟩:=hm
    replace hm:=oo_inv hm;obtain ⟨v1,h6,hm⟩:=hm
    replace hm:=inv_toI hm;obtain ⟨x1,rfl,hm⟩:=hm
    refine .reg (eC 2 (keep (hp 0 []) (bb (an (Nat.blt k1 (Sl.n s5)) true) (some (fpV (k1 * 1) (Sl.cs s5))) none)) (keep_bb h5) (eD (keep (hp 0 []) (nthL (Sl.cs s5) (k1 * 1))) (keep_eq h6) (eE))) ?_
    refine .ghs (fr 36 [(0,Sl.v 1 s4),(1,Sl.v 1 s5),(6,zI x0),(7,zI x1),(9,Sl.v 1 s6),(10,zI z0),(11,(zI (Int.ofNat k1)))]) (hp 0 []) (.k0 [] [] [0,1,6,7,9,10,11]) ?_
    refine .then ?_
    replace hm:=oo_inv hm;obtain ⟨v2,h7,hm⟩:=hm
    replace hm:=inv_toI hm;obtain ⟨x2,rfl,hm⟩:=hm
    refine .reg (eC 2 ((oo (pu 62 [zI x0,zI x1]) none fun v=>some (v,(hp 0 [])))) (call_eq h7) (eE)) ?_
    refine .ghs (fr 36 [(0,Sl.v 1 s4),(1,Sl.v 1 s5),(8,zI x2),(9,Sl.v 1 s6),(10,zI z0),(11,(zI (Int.ofNat k1)))]) (hp 0 []) (.k0 [] [] [0,1,8,9,10,11]) ?_
    refine .then (.rK ?_)
    refine .ghs (fr 36 [(0,Sl.v 1 s4),(1,Sl.v 1 s5),(8,zI x2),(9,Sl.v 1 s6),(10,zI z0),(11,(zI (Int.ofNat k1))),(28,(zB (nt (ieq x2 (0:Int)))))]) (hp 0 []) (.k0 [] [] [0,1,8,9,10,11,28]) ?_
    replace hm:=bb_cases hm;rcases hm with ⟨h8,hm⟩ | ⟨h8,hm⟩
    ·refine .ifT (nt (ieq x2 (0 : Int))) (by kernel_rfl) h8 ?_
     refine .then (.rK ?_)
     refine .ghs (fr 36 [(4,zI x2)]) (hp 0 []) (.k0 [] [] [4]) ?_
     refine .ret ?_
     exact fin_ret (zI x2) (by kernel_rfl) (by kernel_rfl) hm
    ·refine .ifF (nt (ieq x2 (0 : Int))) (by kernel_rfl) h8 ?_
     refine .skip ?_
     refine .ghs (fr 36 [(0,Sl.v 1 s4),(1,Sl.v 1 s5),(9,Sl.v 1 s6),(10,zI z0),(11,(zI (Int.ofNat k1)))]) (hp 0 []) (.k0 [] [] [0,1,9,10,11]) ?_
     refine .rK ?_
     exact ⟨(s4,s5,s6,z0,(wrapF .i64 (Int.add (Int.ofNat k1) (1:Int)))),hm,(.k0 [] [] [0,1,9,10,11])⟩
  ·refine .ifF (ilt z1 z0) (by kernel_rfl) h0 ?_
   refine .exit ?_
   exact ⟨(s4,s5),hm,(.k0 [] [] [0,1])⟩
def m43_0 (pu:PureF) (n:Nat) (b0:Bool):OV:=
 (some (.bool b0))
def m43_ (pu:PureF) (n:Nat) (x0 x1 x2:Int):OV:=
 (bb (nt (ilt x0 x1)) (m43_0 pu n (nt (ilt x2 x0))) (m43_0 pu n false))
def m43 (pu:PureF) (n:Nat) (args:LV):OV:=
 (ll args none fun a0 args=>(ll args none fun a1 args=>(ll args none fun a2 args=>(ll args (oo (toI .i64 a0) none fun x0=>(oo (toI .i64 a1) none fun x1=>(oo (toI .i64 a2) none fun x2=>(m43_ pu n x0 x1 x2)))) fun _ _=>none))))
theorem w43_0 (pu:PureF) (n:Nat) (b0:Bool) {v:Value} (hm:m43_0 pu n b0 = some v):Run tt (callP tabs isP pu (inl pu)) 0 .ret (fr 15 [(6,zB b0)]) (hp 0 []) (Fin tt 0 [.tmp 6] v):=by
 unfold m43_0 at hm
 refine .ret ?_
 exact fin_ret (zB b0) (by kernel_rfl) (by kernel_rfl) hm
theorem r43 {call:CallF} (pu:PureF) (n:Nat) (hcall:call = callP tabs isP pu (inl pu)) {args:LV} {v:Value} (hm:m43 pu n args = some v) (_:∀ x ∈ args,closed2 x = true):args.length≤15∧Run tt call 0 c43_3 (Fr.made 15 args) (pureHeap tabs) (Fin tt 0 [.tmp 6] v):=by
 subst hcall
 unfold m43 at hm
 replace hm:=ll_uncons hm;obtain ⟨a0,args_0,rfl,hm⟩:=hm
 replace hm:=ll_uncons hm;obtain ⟨a1,args_1,rfl,hm⟩:=hm
 replace hm:=ll_uncons hm;obtain ⟨a2,args_2,rfl,hm⟩:=hm
 replace hm:=ll_end hm;obtain ⟨rfl,hm⟩:=hm
 replace hm:=inv_toI hm;obtain ⟨x0,rfl,hm⟩:=hm
 replace hm:=inv_toI hm;obtain ⟨x1,rfl,hm⟩:=hm
 replace hm:=inv_toI hm;obtain ⟨x2,rfl,hm⟩:=hm
 unfold m43_ at hm
 refine ⟨by simp,?_⟩
 refine .same (F':=(fr 15 [(0,zI x0),(1,zI x1),(2,zI x2)])) (H':=(hp 0 [])) (by kernel_rfl) (by kernel_rfl) ?_
 refine .then (.rK ?_)
 refine .ghs (fr 15 [(0,zI x0),(1,zI x1),(2,zI x2)]) (hp 0 []) (.k0 [] [] [0,1,2]) ?_
 refine .join (v:=v) (fun y:Bool=>((fr 15 [(6,zB y)]),(hp 0 []))) (fun y=>m43_0 pu n y) ?_ ?_
 ·rintro b0 hm
  exact w43_0 pu n b0 hm
 ·replace hm := bb_cases hm; rcases hm with ⟨h0, hm⟩ | ⟨h0, hm⟩
  ·refine .reg (eC 2 (some ((zB (nt (ilt x0 x1))), (hp 0 []))) (show _ = some ((zB true), _) from (by rw [h0])) (eE)) ?_
   exact ⟨(nt (ilt x2 x0)),hm,(.k0 [] [] [6])⟩
  ·refine .reg (eC 2 (some ((zB (nt (ilt x0 x1))), (hp 0 []))) (show _ = some ((zB false), _) from (by rw [h0])) (eE)) ?_
   exact ⟨false,hm,(.k0 [] [] [6])⟩
def m44_0 (pu:PureF) (n:Nat):OV:=
 (some (.bool false))
def b44_1 (pu:PureF) (n:Nat) (ih0:Sl→Sl→Int→OV) (s0 s1:Sl) (z0:Int):OV:=
 (bb (ilt z0 (21:Int)) (oo (pu 57 [Sl.v 1 s1]) none fun v0=>(oo (toSl 1 v0) none fun s2=>(oo (pu 31 [Sl.v 1 s2,Sl.v 1 s0]) none fun v1=>(oo (vBool v1) none fun b0=>(bb b0 (some (.bool true)) (ih0 s0 s2 (wrapF .i64 (Int.add z0 (1:Int))))))))) (m44_0 pu n))
def l44_1 (pu:PureF) (n w:Nat):Sl→Sl→Int→OV:=
 Nat.rec (motive:=fun _=>Sl→Sl→Int→OV) (fun _ _ _=>none) (fun _ ih0=>b44_1 pu n ih0) w
def m44_ (pu:PureF) (n:Nat) (s0:Sl):OV:=
 (l44_1 pu n n s0 s0 (0:Int))
def m44 (pu:PureF) (n:Nat) (args:LV):OV:=
 (ll args none fun a0 args=>(ll args (oo (toSl 1 a0) none fun s0=>(m44_ pu n s0)) fun _ _=>none))
theorem w44_0 (pu:PureF) (n:Nat) {v:Value} (hm:m44_0 pu n = some v):Run tt (callP tabs isP pu (inl pu)) 0 c44_21 (fr 15 []) (hp 0 []) (Fin tt 0 [.tmp 2] v):=by
 unfold m44_0 at hm
 refine .then (.rK ?_)
 refine .ghs (fr 15 [(2,zB false)]) (hp 0 []) (.k0 [] [] [2]) ?_
 refine .ret ?_
 exact fin_ret (zB false) (by kernel_rfl) (by kernel_rfl) hm
theorem r44 {call:CallF} (pu:PureF) (n:Nat) (hcall:call = callP tabs isP pu (inl pu)) {args:LV} {v:Value} (hm:m44 pu n args = some v) (_:∀ x ∈ args,closed2 x = true):args.length≤15∧Run tt call 0 c44_24 (Fr.made 15 args) (pureHeap tabs) (Fin tt 0 [.tmp 2] v):=by
 subst hcall
 unfold m44 at hm
 replace hm:=ll_uncons hm;obtain ⟨a0,args_0,rfl,hm⟩:=hm
 replace hm:=ll_end hm;obtain ⟨rfl,hm⟩:=hm
 replace hm:=inv_toSl hm;obtain ⟨s0,rfl,hm⟩:=hm
 unfold m44_ at hm
 refine ⟨by simp,?_⟩
 refine .same (F':=(fr 15 [(0,Sl.v 1 s0)])) (H':=(hp 0 [])) (by kernel_rfl) (by kernel_rfl) ?_
 refine .then (.rK ?_)
 refine .ghs (fr 15 [(0,Sl.v 1 s0)]) (hp 0 []) (.k0 [] [] [0]) ?_
 refine .then (.rK ?_)
 refine .ghs (fr 15 [(0,Sl.v 1 s0),(3,Sl.v 1 s0)]) (hp 0 []) (.k0 [] [] [0,3]) ?_
 refine .join (v:=v) (fun y:Unit=>((fr 15 []),(hp 0 []))) (fun y=>m44_0 pu n) ?_ ?_
 ·rintro _ hm
  exact w44_0 pu n hm
 ·refine .then (.rK ?_)
  refine .ghs (fr 15 [(0,Sl.v 1 s0),(3,Sl.v 1 s0),(4,(zI (0:Int)))]) (hp 0 []) (.k0 [] [] [0,3,4]) ?_
  refine .block ?_
  refine .loopM (v:=v) (fun y:Sl×Sl×Int=>((fr 15 [(0,(Sl.v 1 y.1)),(3,(Sl.v 1 y.2.1)),(4,(zI y.2.2))]),(hp 0 []))) (fun w y=>l44_1 pu n w y.1 y.2.1 y.2.2) n ⟨(s0,s0,(0:Int)),hm,(.k0 [] [] [0,3,4])⟩ (fun _=>rfl) ?_
  rintro w0 ⟨s1,s2,z0⟩ hm
  replace hm:b44_1 pu n (l44_1 pu n w0) s1 s2 z0 = some v:=hm
  unfold b44_1 at hm
  refine .then ?_
  refine .then (.rK ?_)
  refine .ghs (fr 15 [(0,Sl.v 1 s1),(3,Sl.v 1 s2),(4,zI z0),(7,(zB (ilt z0 (21:Int))))]) (hp 0 []) (.k0 [] [] [0,3,4,7]) ?_
  replace hm:=bb_cases hm;rcases hm with ⟨h0,hm⟩ | ⟨h0,hm⟩
  ·refine .ifT (ilt z0 (21 : Int)) (by kernel_rfl) h0 ?_
   refine .skip ?_
   refine .ghs (fr 15 [(0,Sl.v 1 s1),(3,Sl.v 1 s2),(4,zI z0)]) (hp 0 []) (.k0 [] [] [0,3,4]) ?_
   refine .then ?_
   refine .block ?_
   refine .then ?_
   replace hm:=oo_inv hm;obtain ⟨v0,h1,hm⟩:=hm
   replace hm:=inv_toSl hm;obtain ⟨s3,rfl,hm⟩:=hm
   refine .reg (eC 1 ((oo (pu 57 [Sl.v 1 s2]) none fun v=>some (v,(hp 0 [])))) (call_eq h1) (eE)) ?_
   refine .ghs (fr 15 [(0,Sl.v 1 s1),(3,Sl.v 1 s3),(4,zI z0)]) (hp 0 []) (.k0 [] [] [0,3,4]) ?_
   refine .then ?_
   replace hm:=oo_inv hm;obtain ⟨v1,h2,hm⟩:=hm
   replace hm:=inv_vBool hm;obtain ⟨b0,rfl,hm⟩:=hm
   refine .reg (eC 2 ((oo (pu 31 [Sl.v 1 s3,Sl.v 1 s1]) none fun v=>some (v,(hp 0 [])))) (call_eq h2) (eE)) ?_
   refine .ghs (fr 15 [(0,Sl.v 1 s1),(3,Sl.v 1 s3),(4,zI z0),(14,zB b0)]) (hp 0 []) (.k0 [] [] [0,3,4,14]) ?_
   replace hm:=bb_cases hm;rcases hm with ⟨h3,hm⟩ | ⟨h3,hm⟩
   ·refine .ifT b0 (by kernel_rfl) h3 ?_
    refine .then (.rK ?_)
    refine .ghs (fr 15 [(2,zB true)]) (hp 0 []) (.k0 [] [] [2]) ?_
    refine .ret ?_
    exact fin_ret (zB true) (by kernel_rfl) (by kernel_rfl) hm
   ·refine .ifF b0 (by kernel_rfl) h3 ?_
    refine .skip ?_
    refine .ghs (fr 15 [(0,Sl.v 1 s1),(3,Sl.v 1 s3),(4,zI z0)]) (hp 0 []) (.k0 [] [] [0,3,4]) ?_
    refine .rK ?_
    exact ⟨(s1,s3,(wrapF .i64 (Int.add z0 (1:Int)))),hm,(.k0 [] [] [0,3,4])⟩
  ·refine .ifF (ilt z0 (21 : Int)) (by kernel_rfl) h0 ?_
   refine .exit ?_
   exact ⟨(),hm,(.k0 [] [] [])⟩
end
end Go.HvRM
