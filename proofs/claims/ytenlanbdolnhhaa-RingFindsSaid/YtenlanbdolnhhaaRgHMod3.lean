/- Made from wip. -/
import Derived.Test.YtenlanbdolnhhaaRgHMod0x

set_option maxRecDepth 100000
set_option maxHeartbeats 20000000
set_option linter.unusedVariables false
namespace Go.RgHM
open Go.Sp Go.RgH
noncomputable section
def m38_1 (pu:PureF) (n n0 c0:Nat) (q1:LV):OV:=
 (bb (allL closed1 q1) (bb (an (Nat.ble (0+n0*2) (len q1)) (allL closed1 (takeL (n0*2) (dropL 0 q1)))) (some (.tuple ⟨[(Sl.v 2 (Sl.mk n0 0 (takeL (n0*2) (dropL 0 q1)))),(.int .i64 (0:Int))]⟩)) none) none)
def m38_4 (pu:PureF) (n:Nat) (ih0:Int→Sl→Int→Nat→Nat→Int→LV→OV) (z1:Int) (s0:Sl) (z2:Int) (n0 c0:Nat) (z3:Int) (q1:LV):OV:=
 (bb (allL closed1 q1) (ih0 z1 s0 z2 n0 c0 (wrapF .i64 (Int.add z3 (1:Int))) q1) none)
def m38_6 (pu:PureF) (n:Nat) (ih0:Int→Sl→Int→Nat→Nat→Int→LV→OV) (ih1:Int→Sl→Int→Nat→Nat→Int→Sl→Int→LV→OV) (z1:Int) (s0:Sl) (z2:Int) (n0 c0:Nat) (z3:Int) (s1:Sl) (z4:Int) (q1:LV):OV:=
 (bb (allL closed1 q1) (ih1 z1 s0 z2 n0 c0 z3 s1 (wrapF .i64 (Int.add z4 (1:Int))) q1) none)
def m38_7 (pu:PureF) (n:Nat) (ih0:Int→Sl→Int→Nat→Nat→Int→LV→OV) (ih1:Int→Sl→Int→Nat→Nat→Int→Sl→Int→LV→OV) (z1:Int) (s0:Sl) (z2:Int) (n0 c0:Nat) (z3:Int) (s1:Sl) (z4:Int) (b0:Bool) (q1:LV):OV:=
 (bb b0 (oo (toN z4) none fun k1=>(bb (an (Nat.blt k1 (Sl.n s1)) true) (bb (Nat.ble ((k1*2)+2) (len (Sl.cs s1))) (oo (nthL (Sl.cs s1) (k1*2)) none fun v0=>(oo (toI .i64 v0) none fun x0=>(oo (nthL (Sl.cs s1) ((k1*2)+1)) none fun v1=>(oo (toSl 1 v1) none fun s2=>(bb (growC 2 32 n0 c0 1 q1) (bb (allL closed1 (appL (dropL 0 q1) [.int .i64 x0,Sl.v 1 s2])) (m38_6 pu n ih0 ih1 z1 s0 z2 (n0+1) (2*(n0+1)+bb false 1 0) z3 s1 (Int.ofNat k1) (appL (dropL 0 q1) [.int .i64 x0,Sl.v 1 s2])) none) none))))) none) none)) (bb (allL closed1 q1) (m38_6 pu n ih0 ih1 z1 s0 z2 n0 c0 z3 s1 z4 q1) none))
def b38_5 (pu:PureF) (n:Nat) (ih0:Int→Sl→Int→Nat→Nat→Int→LV→OV) (ih1:Int→Sl→Int→Nat→Nat→Int→Sl→Int→LV→OV) (z1:Int) (s0:Sl) (z2:Int) (n0 c0:Nat) (z3:Int) (s1:Sl) (z4:Int) (q1:LV):OV:=
 (bb (allL closed1 q1) (bb (ilt z4 (Int.ofNat (Sl.n s1))) (oo (toN z4) none fun k1=>(bb (an (Nat.blt k1 (Sl.n s1)) true) (bb (Nat.ble ((k1*2)+2) (len (Sl.cs s1))) (oo (nthL (Sl.cs s1) (k1*2)) none fun v0=>(oo (toI .i64 v0) none fun x0=>(oo (nthL (Sl.cs s1) ((k1*2)+1)) none fun v1=>(oo (toSl 1 v1) none fun s2=>(oo (pu 75 [(.agg ⟨[.int .i64 x0,Sl.v 1 s2]⟩)]) none fun v2=>(oo (toSl 1 v2) none fun s3=>(oo (pu 72 [Sl.v 1 s3,Sl.v 1 s0]) none fun v3=>(oo (vBool v3) none fun b0=>(bb b0 (bb (an (Nat.blt k1 (Sl.n s1)) true) (bb (Nat.ble ((k1*2)+2) (len (Sl.cs s1))) (oo (nthL (Sl.cs s1) (k1*2)) none fun v4=>(oo (toI .i64 v4) none fun x1=>(oo (nthL (Sl.cs s1) ((k1*2)+1)) none fun v5=>(oo (toSl 1 v5) none fun s4=>(bb (an (Nat.blt k1 (Sl.n s1)) true) (oo (nthL (Sl.cs s1) ((k1*2)+1)) none fun v6=>(oo (toSl 1 v6) none fun s5=>(oo (pu 69 [(.agg ⟨[.int .i64 x1,Sl.v 1 s4]⟩)]) none fun v7=>(oo (vAgg v7) none fun l0=>(ll l0 none fun v8 l0=>(ll l0 none fun v9 l0=>(ll l0 (oo (toI .i64 v8) none fun x2=>(oo (toSl 1 v9) none fun s6=>(oo (pu 72 [Sl.v 1 s6,Sl.v 1 s5]) none fun v10=>(oo (vBool v10) none fun b1=>(m38_7 pu n ih0 ih1 z1 s0 z2 n0 c0 z3 s1 (Int.ofNat k1) b1 q1))))) fun _ _=>none))))))) none))))) none) none) (m38_7 pu n ih0 ih1 z1 s0 z2 n0 c0 z3 s1 (Int.ofNat k1) false q1)))))))))) none) none)) (m38_4 pu n ih0 z1 s0 z2 n0 c0 z3 q1)) none)
def l38_5 (pu:PureF) (n:Nat) (ih0:Int→Sl→Int→Nat→Nat→Int→LV→OV) (w:Nat):Int→Sl→Int→Nat→Nat→Int→Sl→Int→LV→OV:=
 Nat.rec (motive:=fun _=>Int→Sl→Int→Nat→Nat→Int→Sl→Int→LV→OV) (fun _ _ _ _ _ _ _ _ _=>none) (fun _ ih1=>b38_5 pu n ih0 ih1) w
def m38_3 (pu:PureF) (n:Nat) (ih0:Int→Sl→Int→Nat→Nat→Int→LV→OV) (z1:Int) (s0:Sl) (z2:Int) (n0 c0:Nat) (z3:Int) (b0:Bool) (q1:LV):OV:=
 (bb b0 (bb (allL closed1 q1) (bb (nt (ieq (wrapF .i64 (Int.mul z3 (wrapF .i64 (Int.sub z3 (1:Int))))) z2)) (m38_4 pu n ih0 z1 s0 z2 n0 c0 z3 q1) (oo (pu 10840 [(.agg ⟨[.int .i64 z1,(Sl.v 1 (Sl.mk 0 2 []))]⟩),.int .i64 z3]) none fun v0=>(oo (vTup v0) none fun l0=>(ll l0 none fun v1 l0=>(ll l0 (oo (toSl 2 v1) none fun s1=>(l38_5 pu n ih0 n z1 s0 z2 n0 c0 z3 s1 (0:Int) q1)) fun _ _=>none))))) none) (bb (allL closed1 q1) (m38_1 pu n n0 c0 q1) none))
def b38_2 (pu:PureF) (n:Nat) (ih0:Int→Sl→Int→Nat→Nat→Int→LV→OV) (z1:Int) (s0:Sl) (z2:Int) (n0 c0:Nat) (z3:Int) (q1:LV):OV:=
 (bb (nt (ilt (6:Int) z3)) (bb (allL closed1 q1) (m38_3 pu n ih0 z1 s0 z2 n0 c0 z3 (nt (ilt z1 z3)) q1) none) (bb (allL closed1 q1) (m38_3 pu n ih0 z1 s0 z2 n0 c0 z3 false q1) none))
def l38_2 (pu:PureF) (n w:Nat):Int→Sl→Int→Nat→Nat→Int→LV→OV:=
 Nat.rec (motive:=fun _=>Int→Sl→Int→Nat→Nat→Int→LV→OV) (fun _ _ _ _ _ _ _=>none) (fun _ ih0=>b38_2 pu n ih0) w
def m38_0 (pu:PureF) (n:Nat) (z1:Int) (s0:Sl) (z2:Int):OV:=
 (l38_2 pu n n z1 s0 z2 0 0 (0:Int) ([]:LV))
def b38_8 (pu:PureF) (n:Nat) (ih0:Int→Sl→Int→Int→OV) (z1:Int) (s0:Sl) (z2 z3:Int):OV:=
 (bb (ilt z3 (Int.ofNat (Sl.n s0))) (oo (toN z3) none fun k1=>(bb (an (Nat.blt k1 (Sl.n s0)) true) (oo (nthL (Sl.cs s0) (k1*1)) none fun v0=>(oo (toI .i64 v0) none fun x0=>(oo (pu 73 [.int .i64 x0,(.int .i64 (0:Int)),(.int .i64 (6:Int))]) none fun v1=>(oo (vBool v1) none fun b0=>(bb (nt b0) (some (.tuple ⟨[(Sl.v 2 (Sl.mk 0 2 [])),(.int .i64 (1:Int))]⟩)) (bb (an (Nat.blt k1 (Sl.n s0)) true) (oo (nthL (Sl.cs s0) (k1*1)) none fun v2=>(oo (toI .i64 v2) none fun x1=>(ih0 z1 s0 (wrapF .i64 (Int.add z2 x1)) (wrapF .i64 (Int.add (Int.ofNat k1) (1:Int)))))) none)))))) none)) (m38_0 pu n z1 s0 z2))
def l38_8 (pu:PureF) (n w:Nat):Int→Sl→Int→Int→OV:=
 Nat.rec (motive:=fun _=>Int→Sl→Int→Int→OV) (fun _ _ _ _=>none) (fun _ ih0=>b38_8 pu n ih0) w
def m38_ (pu:PureF) (n:Nat) (x0:Int) (s0:Sl):OV:=
 (oo (pu 73 [.int .i64 x0,(.int .i64 (1:Int)),(.int .i64 (21:Int))]) none fun v0=>(oo (vBool v0) none fun b0=>(bb (nt b0) (some (.tuple ⟨[(Sl.v 2 (Sl.mk 0 2 [])),(.int .i64 (1:Int))]⟩)) (bb (nt (ieq (Int.ofNat (Sl.n s0)) (wrapF .i64 (Int.sub x0 (1:Int))))) (some (.tuple ⟨[(Sl.v 2 (Sl.mk 0 2 [])),(.int .i64 (5:Int))]⟩)) (l38_8 pu n n x0 s0 (0:Int) (0:Int))))))
def m38 (pu:PureF) (n:Nat) (args:LV):OV:=
 (ll args none fun a0 args=>(ll args none fun a1 args=>(ll args (oo (toI .i64 a0) none fun x0=>(oo (toSl 1 a1) none fun s0=>(m38_ pu n x0 s0))) fun _ _=>none)))
theorem w38_1 (pu:PureF) (n n0 c0:Nat) (q1:LV) {v:Value} (hm:m38_1 pu n n0 c0 q1=some v):Run tt (callP tabs isP pu (inl pu)) 0 c38_64 (fr 92 [(8,sc 0 0 2 n0 c0)]) (hp 1 [oC q1]) (Fin tt 0 [.tmp 4,.tmp 5] v):=by
 unfold m38_1 at hm
 refine .then (.rK ?_)
 replace hm:=bb_inv hm;obtain⟨h0,hm⟩:=hm
 refine .ghs (fr 92 [(4,sc 0 0 2 n0 c0),(5,(zI (0:Int)))]) (hp 1 [oC q1]) (.k [0] [] [.tmp 4 false] [4,5] ⟨trF h0,trivial⟩) ?_
 replace hm:=bb_inv hm;obtain⟨h1,hm⟩:=hm
 refine .ghs (Fr.puts (fr 92 [(4,sc 0 0 2 n0 c0),(5,(zI (0:Int)))]) [(4,(Sl.v 2 (Sl.mk n0 0 (takeL (n0*2) (dropL 0 q1)))))]) (hp 1 [.dead]) (.freezeC 0 4 2 (an (Nat.ble (0+n0*2) (len q1)) (allL closed1 (takeL (n0*2) (dropL 0 q1)))) (F1:=(Fr.puts (fr 92 [(4,sc 0 0 2 n0 c0),(5,(zI (0:Int)))]) [(4,(Sl.v 2 (Sl.mk n0 0 (takeL (n0*2) (dropL 0 q1)))))])) (H1:=(hp 1 [.dead])) (by kernel_rfl) (by kernel_rfl) h1 (GhS.id _ _)) ?_
 refine .ret ?_
 exact fin_rt (.tuple ⟨[(Sl.v 2 (Sl.mk n0 0 (takeL (n0*2) (dropL 0 q1)))),(zI (0:Int))]⟩) hm
theorem w38_0 (pu:PureF) (n:Nat) (z1:Int) (s0:Sl) (z2:Int) {v:Value} (hm:m38_0 pu n z1 s0 z2=some v):Run tt (callP tabs isP pu (inl pu)) 0 c38_66 (fr 92 [(0,zI z1),(1,Sl.v 1 s0),(6,zI z2)]) (hp 0 []) (Fin tt 0 [.tmp 4,.tmp 5] v):=by
 unfold m38_0 at hm
 refine .then (.rK (.ghs (fr 92 [(0,zI z1),(1,Sl.v 1 s0),(6,zI z2),(8,(.slice none 0 0))]) (hp 0 []) (.k0 [] [] [0,1,6,8]) ?_))
 refine .join (v:=v) (fun y:Nat×Nat×LV=>((fr 92 [(8,(sc 0 0 2 y.1 y.2.1))]),(hp 1 [(oC y.2.2)]))) (fun y=>m38_1 pu n y.1 y.2.1 y.2.2) ?_ ?_
 ·rintro⟨n0,c0,q1⟩ hm
  exact w38_1 pu n n0 c0 q1 hm
 ·refine .then (.rK (.ghs (fr 92 [(0,zI z1),(1,Sl.v 1 s0),(6,zI z2),(8,(.slice none 0 0)),(9,(zI (0:Int)))]) (hp 0 []) (.k0 [] [] [0,1,6,8,9]) ?_))
  refine .block (.loopM (v:=v) (fun y:Int×Sl×Int×Nat×Nat×Int×LV=>((fr 92 [(0,(zI y.1)),(1,(Sl.v 1 y.2.1)),(6,(zI y.2.2.1)),(8,(sc 0 0 2 y.2.2.2.1 y.2.2.2.2.1)),(9,(zI y.2.2.2.2.2.1))]),(hp 1 [(oC y.2.2.2.2.2.2)]))) (fun w y=>l38_2 pu n w y.1 y.2.1 y.2.2.1 y.2.2.2.1 y.2.2.2.2.1 y.2.2.2.2.2.1 y.2.2.2.2.2.2) n ⟨(z1,s0,z2,0,0,(0:Int),([]:LV)),hm,(.thaw 8 2 (by kernel_rfl) (.k0 [] [.tmp 8 false] [0,1,6,8,9]))⟩ (fun _=>rfl) ?_)
  rintro w0 ⟨z3,s1,z4,n1,c1,z5,q2⟩ hm
  replace hm:b38_2 pu n (l38_2 pu n w0) z3 s1 z4 n1 c1 z5 q2=some v:=hm
  unfold b38_2 at hm
  refine .then (.join (v:=v) (fun y:Int×Sl×Int×Nat×Nat×Int×Bool×LV=>((fr 92 [(0,(zI y.1)),(1,(Sl.v 1 y.2.1)),(6,(zI y.2.2.1)),(8,(sc 0 0 2 y.2.2.2.1 y.2.2.2.2.1)),(9,(zI y.2.2.2.2.2.1)),(44,(zB y.2.2.2.2.2.2.1))]),(hp 1 [(oC y.2.2.2.2.2.2.2)]))) (fun y=>m38_3 pu n (l38_2 pu n w0) y.1 y.2.1 y.2.2.1 y.2.2.2.1 y.2.2.2.2.1 y.2.2.2.2.2.1 y.2.2.2.2.2.2.1 y.2.2.2.2.2.2.2) ?_ ?_)
  ·rintro⟨z6,s2,z7,n2,c2,z8,b0,q3⟩ hm
   unfold m38_3 at hm
   replace hm:=bb_cases hm;rcases hm with⟨h0,hm⟩ | ⟨h0,hm⟩
   ·refine .ifT b0 (by kernel_rfl) h0 ?_
    refine .skip ?_
    replace hm:=bb_inv hm;obtain⟨h1,hm⟩:=hm
    refine .ghs (fr 92 [(0,zI z6),(1,Sl.v 1 s2),(6,zI z7),(8,sc 0 0 2 n2 c2),(9,zI z8)]) (hp 1 [oC q3]) (.k [0] [] [.tmp 8 false] [0,1,6,8,9] ⟨trF h1,trivial⟩) ?_
    refine .join (v:=v) (fun y:Int×Sl×Int×Nat×Nat×Int×LV=>((fr 92 [(0,(zI y.1)),(1,(Sl.v 1 y.2.1)),(6,(zI y.2.2.1)),(8,(sc 0 0 2 y.2.2.2.1 y.2.2.2.2.1)),(9,(zI y.2.2.2.2.2.1))]),(hp 1 [(oC y.2.2.2.2.2.2)]))) (fun y=>m38_4 pu n (l38_2 pu n w0) y.1 y.2.1 y.2.2.1 y.2.2.2.1 y.2.2.2.2.1 y.2.2.2.2.2.1 y.2.2.2.2.2.2) ?_ ?_
    ·rintro⟨z9,s3,z10,n3,c3,z11,q4⟩ hm
     unfold m38_4 at hm
     refine .rK ?_
     replace hm:=bb_inv hm;obtain⟨h2,hm⟩:=hm
     exact⟨(z9,s3,z10,n3,c3,(wrapF .i64 (Int.add z11 (1:Int))),q4),hm,(.k [0] [] [.tmp 8 false] [0,1,6,8,9] ⟨trF h2,trivial⟩)⟩
    ·refine .block (.then (.then (.rK (.ghs (fr 92 [(0,zI z6),(1,Sl.v 1 s2),(6,zI z7),(8,sc 0 0 2 n2 c2),(9,zI z8),(52,(zB (nt (ieq (wrapF .i64 (Int.mul z8 (wrapF .i64 (Int.sub z8 (1:Int))))) z7))))]) (hp 1 [oC q3]) (.k [0] [] [.tmp 8 false] [0,1,6,8,9,52] ⟨trF h1,trivial⟩) ?_))))
     replace hm:=bb_cases hm;rcases hm with⟨h3,hm⟩ | ⟨h3,hm⟩
     ·refine ifTt (nt (ieq (wrapF .i64 (Int.mul z8 (wrapF .i64 (Int.sub z8 (1:Int))))) z7)) h3 ?_
      refine .exit ?_
      exact⟨(z6,s2,z7,n2,c2,z8,q3),hm,(.k [0] [] [.tmp 8 false] [0,1,6,8,9] ⟨trF h1,trivial⟩)⟩
     ·refine ifFt (nt (ieq (wrapF .i64 (Int.mul z8 (wrapF .i64 (Int.sub z8 (1:Int))))) z7)) h3 ?_
      refine .skip (.ghs (fr 92 [(0,zI z6),(1,Sl.v 1 s2),(6,zI z7),(8,sc 0 0 2 n2 c2),(9,zI z8)]) (hp 1 [oC q3]) (.k [0] [] [.tmp 8 false] [0,1,6,8,9] ⟨trF h1,trivial⟩) ?_)
      refine .then ?_
      replace hm:=oo_inv hm;obtain⟨v0,h4,hm⟩:=hm
      replace hm:=inv_vTup hm;obtain⟨l0,rfl,hm⟩:=hm
      replace hm:=ll_uncons hm;obtain⟨v1,l15754_0,rfl,hm⟩:=hm
      replace hm:=ll_end hm;obtain⟨rfl,hm⟩:=hm
      replace hm:=inv_toSl hm;obtain⟨s4,rfl,hm⟩:=hm
      refine .reg (eC 3 (objG tabs [[none,some 1],[none]] 2 [] [] (pu 10840) [(.agg ⟨[zI z6,(.slice none 0 0)]⟩),zI z8] (hp 1 [oC q3])) (objG_eq (as:=[(.agg ⟨[zI z6,(Sl.v 1 (Sl.mk 0 2 []))]⟩),zI z8]) (H1:=(hp 1 [oC q3])) (gvAL_c (gvA_a (gvL_c gv_n (gvL_c (gv_s (giveV_nil (z:=1) (H:=(hp 1 [oC q3])))) gvL_n))) (gvAL_c (gvA_1 gv_n) gvAL_n)) (objF_eq (H2:=(hp 1 [oC q3])) (v:=(Sl.v 2 s4)) (v':=(Sl.v 2 s4)) [] [] [] [(.agg ⟨[zI z6,(Sl.v 1 (Sl.mk 0 2 []))]⟩),zI z8] [] [] [none] [] [] (by kernel_rfl) mapO_n (Eq.trans (by kernel_rfl) h4) mapO_n mapO_n)) (eE)) ?_
      refine .ghs (fr 92 [(0,zI z6),(1,Sl.v 1 s2),(6,zI z7),(8,sc 0 0 2 n2 c2),(9,zI z8),(10,(Sl.v 2 s4))]) (hp 1 [oC q3]) (.k [0] [] [.tmp 8 false] [0,1,6,8,9,10] ⟨trF h1,trivial⟩) ?_
      refine .then (.rK (.ghs (fr 92 [(0,zI z6),(1,Sl.v 1 s2),(6,zI z7),(8,sc 0 0 2 n2 c2),(9,zI z8),(10,(Sl.v 2 s4)),(11,(zI (0:Int)))]) (hp 1 [oC q3]) (.k [0] [] [.tmp 8 false] [0,1,6,8,9,10,11] ⟨trF h1,trivial⟩) ?_))
      refine .block (.loopM (v:=v) (fun y:Int×Sl×Int×Nat×Nat×Int×Sl×Int×LV=>((fr 92 [(0,(zI y.1)),(1,(Sl.v 1 y.2.1)),(6,(zI y.2.2.1)),(8,(sc 0 0 2 y.2.2.2.1 y.2.2.2.2.1)),(9,(zI y.2.2.2.2.2.1)),(10,(Sl.v 2 y.2.2.2.2.2.2.1)),(11,(zI y.2.2.2.2.2.2.2.1))]),(hp 1 [(oC y.2.2.2.2.2.2.2.2)]))) (fun w y=>l38_5 pu n (l38_2 pu n w0) w y.1 y.2.1 y.2.2.1 y.2.2.2.1 y.2.2.2.2.1 y.2.2.2.2.2.1 y.2.2.2.2.2.2.1 y.2.2.2.2.2.2.2.1 y.2.2.2.2.2.2.2.2) n ⟨(z6,s2,z7,n2,c2,z8,s4,(0:Int),q3),hm,(.k [0] [] [.tmp 8 false] [0,1,6,8,9,10,11] ⟨trF h1,trivial⟩)⟩ (fun _=>rfl) ?_)
      rintro w1 ⟨z12,s5,z13,n4,c4,z14,s6,z15,q5⟩ hm
      replace hm:b38_5 pu n (l38_2 pu n w0) (l38_5 pu n (l38_2 pu n w0) w1) z12 s5 z13 n4 c4 z14 s6 z15 q5=some v:=hm
      unfold b38_5 at hm
      refine .then (.then (.rK ?_))
      replace hm:=bb_inv hm;obtain⟨h5,hm⟩:=hm
      refine .ghs (fr 92 [(0,zI z12),(1,Sl.v 1 s5),(6,zI z13),(8,sc 0 0 2 n4 c4),(9,zI z14),(10,(Sl.v 2 s6)),(11,zI z15),(60,(zB (ilt z15 (Int.ofNat (Sl.n s6)))))]) (hp 1 [oC q5]) (.k [0] [] [.tmp 8 false] [0,1,6,8,9,10,11,60] ⟨trF h5,trivial⟩) ?_
      replace hm:=bb_cases hm;rcases hm with⟨h6,hm⟩ | ⟨h6,hm⟩
      ·refine ifTt (ilt z15 (Int.ofNat (Sl.n s6))) h6 ?_
       refine .skip (.ghs (fr 92 [(0,zI z12),(1,Sl.v 1 s5),(6,zI z13),(8,sc 0 0 2 n4 c4),(9,zI z14),(10,(Sl.v 2 s6)),(11,zI z15)]) (hp 1 [oC q5]) (.k [0] [] [.tmp 8 false] [0,1,6,8,9,10,11] ⟨trF h5,trivial⟩) ?_)
       refine .join (v:=v) (fun y:Int×Sl×Int×Nat×Nat×Int×Sl×Int×LV=>((fr 92 [(0,(zI y.1)),(1,(Sl.v 1 y.2.1)),(6,(zI y.2.2.1)),(8,(sc 0 0 2 y.2.2.2.1 y.2.2.2.2.1)),(9,(zI y.2.2.2.2.2.1)),(10,(Sl.v 2 y.2.2.2.2.2.2.1)),(11,(zI y.2.2.2.2.2.2.2.1))]),(hp 1 [(oC y.2.2.2.2.2.2.2.2)]))) (fun y=>m38_6 pu n (l38_2 pu n w0) (l38_5 pu n (l38_2 pu n w0) w1) y.1 y.2.1 y.2.2.1 y.2.2.2.1 y.2.2.2.2.1 y.2.2.2.2.2.1 y.2.2.2.2.2.2.1 y.2.2.2.2.2.2.2.1 y.2.2.2.2.2.2.2.2) ?_ ?_
       ·rintro⟨z16,s7,z17,n5,c6,z18,s8,z19,q6⟩ hm
        unfold m38_6 at hm
        refine .rK ?_
        replace hm:=bb_inv hm;obtain⟨h7,hm⟩:=hm
        exact⟨(z16,s7,z17,n5,c6,z18,s8,(wrapF .i64 (Int.add z19 (1:Int))),q6),hm,(.k [0] [] [.tmp 8 false] [0,1,6,8,9,10,11] ⟨trF h7,trivial⟩)⟩
       ·refine .block (.join (v:=v) (fun y:Int×Sl×Int×Nat×Nat×Int×Sl×Int×Bool×LV=>((fr 92 [(0,(zI y.1)),(1,(Sl.v 1 y.2.1)),(6,(zI y.2.2.1)),(8,(sc 0 0 2 y.2.2.2.1 y.2.2.2.2.1)),(9,(zI y.2.2.2.2.2.1)),(10,(Sl.v 2 y.2.2.2.2.2.2.1)),(11,(zI y.2.2.2.2.2.2.2.1)),(83,(zB y.2.2.2.2.2.2.2.2.1))]),(hp 1 [(oC y.2.2.2.2.2.2.2.2.2)]))) (fun y=>m38_7 pu n (l38_2 pu n w0) (l38_5 pu n (l38_2 pu n w0) w1) y.1 y.2.1 y.2.2.1 y.2.2.2.1 y.2.2.2.2.1 y.2.2.2.2.2.1 y.2.2.2.2.2.2.1 y.2.2.2.2.2.2.2.1 y.2.2.2.2.2.2.2.2.1 y.2.2.2.2.2.2.2.2.2) ?_ ?_)
        ·rintro⟨z20,s9,z21,n6,c7,z22,s10,z23,b1,q7⟩ hm
         unfold m38_7 at hm
         replace hm:=bb_cases hm;rcases hm with⟨h8,hm⟩ | ⟨h8,hm⟩
         ·refine .ifT b1 (by kernel_rfl) h8 ?_
          replace hm:=oo_inv hm;obtain⟨k1,h9,hm⟩:=hm
          obtain rfl:=toN_some h9
          replace hm:=bb_inv hm;obtain⟨h10,hm⟩:=hm
          replace hm:=bb_inv hm;obtain⟨h11,hm⟩:=hm
          replace hm:=oQI hm;obtain⟨x0,h12,hm⟩:=hm
          replace hm:=oQS hm;obtain⟨s11,h13,hm⟩:=hm
          replace hm:=bb_inv hm;obtain⟨h14,hm⟩:=hm
          refine .reg (eC 3 (keep (hp 1 [oC q7]) (bb (an (Nat.blt k1 (Sl.n s10)) true) (some (fpV (k1*2) (Sl.cs s10))) none)) (keep_bb h10) (eD (keep (hp 1 [oC q7]) (bb (Nat.ble ((k1*2)+2) (len (Sl.cs s10))) (some (.agg ⟨takeL 2 (dropL (k1*2) (Sl.cs s10))⟩)) none)) (keep_agg h11 (takeL_cons h12 (takeL_cons h13 rfl))) (eC 1 (growD 2 32 n6 c7 1 0 q7 [zI x0,Sl.v 1 s11] [] (hp 2 [oC q7,(oC [zI x0,Sl.v 1 s11])])) (growD_eq h14) (eE)))) ?_
          replace hm:=bb_inv hm;obtain⟨h15,hm⟩:=hm
          exact⟨(z20,s9,z21,(n6+1),(d2 (n6+1)),z22,s10,(Int.ofNat k1),(appL (dropL 0 q7) [zI x0,Sl.v 1 s11])),hm,(.k [2] [] [.tmp 8 false] [0,1,6,8,9,10,11] ⟨trF h15,trivial⟩)⟩
         ·refine .ifF b1 (by kernel_rfl) h8 ?_
          refine .skip ?_
          replace hm:=bb_inv hm;obtain⟨h16,hm⟩:=hm
          exact⟨(z20,s9,z21,n6,c7,z22,s10,z23,q7),hm,(.k [0] [] [.tmp 8 false] [0,1,6,8,9,10,11] ⟨trF h16,trivial⟩)⟩
        ·replace hm:=oo_inv hm;obtain⟨k2,h17,hm⟩:=hm
         obtain rfl:=toN_some h17
         replace hm:=bb_inv hm;obtain⟨h18,hm⟩:=hm
         replace hm:=bb_inv hm;obtain⟨h19,hm⟩:=hm
         replace hm:=oQI hm;obtain⟨x1,h20,hm⟩:=hm
         replace hm:=oQS hm;obtain⟨s12,h21,hm⟩:=hm
         replace hm:=oQS hm;obtain⟨s13,h22,hm⟩:=hm
         replace hm:=oQB hm;obtain⟨b2,h23,hm⟩:=hm
         replace hm:=bb_cases hm;rcases hm with⟨h24,hm⟩ | ⟨h24,hm⟩
         ·replace hm:=bb_inv hm;obtain⟨h25,hm⟩:=hm
          replace hm:=bb_inv hm;obtain⟨h26,hm⟩:=hm
          replace hm:=oQI hm;obtain⟨x2,h27,hm⟩:=hm
          replace hm:=oQS hm;obtain⟨s14,h28,hm⟩:=hm
          replace hm:=bb_inv hm;obtain⟨h29,hm⟩:=hm
          replace hm:=oQS hm;obtain⟨s15,h30,hm⟩:=hm
          replace hm:=oo_inv hm;obtain⟨v2,h31,hm⟩:=hm
          replace hm:=inv_vAgg hm;obtain⟨l1,rfl,hm⟩:=hm
          replace hm:=ll_uncons hm;obtain⟨v3,l16782_0,rfl,hm⟩:=hm
          replace hm:=ll_uncons hm;obtain⟨v4,l16782_1,rfl,hm⟩:=hm
          replace hm:=ll_end hm;obtain⟨rfl,hm⟩:=hm
          replace hm:=inv_toI hm;obtain⟨x3,rfl,hm⟩:=hm
          replace hm:=inv_toSl hm;obtain⟨s16,rfl,hm⟩:=hm
          replace hm:=oQB hm;obtain⟨b3,h32,hm⟩:=hm
          refine .reg (eN 6 (Fr.puts (fr 92 [(0,zI z12),(1,Sl.v 1 s5),(6,zI z13),(8,sc 0 0 2 n4 c4),(9,zI z14),(10,(Sl.v 2 s6)),(11,(zI (Int.ofNat k2)))]) [(63,(Sl.v 2 s6)),(64,(zI (Int.ofNat k2))),(65,(fpV (k2*2) (Sl.cs s6))),(66,(.agg ⟨[zI x1,Sl.v 1 s12]⟩)),(68,Sl.v 1 s5),(67,Sl.v 1 s13)]) (hp 1 [oC q5]) (eC 2 (keep (hp 1 [oC q5]) (bb (an (Nat.blt k2 (Sl.n s6)) true) (some (fpV (k2*2) (Sl.cs s6))) none)) (keep_bb h18) (eD (keep (hp 1 [oC q5]) (bb (Nat.ble ((k2*2)+2) (len (Sl.cs s6))) (some (.agg ⟨takeL 2 (dropL (k2*2) (Sl.cs s6))⟩)) none)) (keep_agg h19 (takeL_cons h20 (takeL_cons h21 rfl))) (eC 1 ((oo (pu 75 [(.agg ⟨[zI x1,Sl.v 1 s12]⟩)]) none fun v=>some (v,(hp 1 [oC q5])))) (call_eq h22) (by kernel_rfl)))) (eN 6 (Fr.puts (fr 92 [(0,zI z12),(1,Sl.v 1 s5),(6,zI z13),(8,sc 0 0 2 n4 c4),(9,zI z14),(10,(Sl.v 2 s6)),(11,(zI (Int.ofNat k2)))]) [(63,(Sl.v 2 s6)),(64,(zI (Int.ofNat k2))),(65,(fpV (k2*2) (Sl.cs s6))),(66,(.agg ⟨[zI x1,Sl.v 1 s12]⟩)),(68,Sl.v 1 s5),(67,Sl.v 1 s13),(69,zB true),(70,zB true),(71,(Sl.v 2 s6)),(72,(zI (Int.ofNat k2))),(73,(fpV (k2*2) (Sl.cs s6))),(74,(.agg ⟨[zI x2,Sl.v 1 s14]⟩))]) (hp 1 [oC q5]) (eD ((oo (pu 72 [Sl.v 1 s13,Sl.v 1 s5]) none fun v=>some (v,(hp 1 [oC q5])))) (show _=some ((zB true),_) from (by have hz:(oo (pu 72 [Sl.v 1 s13,Sl.v 1 s5]) none fun v=>some (v,(hp 1 [oC q5])))=some ((zB b2),(hp 1 [oC q5])):=(call_eq h23);rw[h24] at hz;exact hz)) (eC 3 (keep (hp 1 [oC q5]) (bb (an (Nat.blt k2 (Sl.n s6)) true) (some (fpV (k2*2) (Sl.cs s6))) none)) (keep_bb h25) (eD (keep (hp 1 [oC q5]) (bb (Nat.ble ((k2*2)+2) (len (Sl.cs s6))) (some (.agg ⟨takeL 2 (dropL (k2*2) (Sl.cs s6))⟩)) none)) (keep_agg h26 (takeL_cons h27 (takeL_cons h28 rfl))) (by kernel_rfl)))) (eC 2 (keep (hp 1 [oC q5]) (bb (an (Nat.blt k2 (Sl.n s6)) true) (some (fpV (k2*2) (Sl.cs s6))) none)) (keep_bb h29) (eC 1 (keep (hp 1 [oC q5]) (nthL (Sl.cs s6) ((k2*2)+1))) (keep_eq h30) (eD ((oo (pu 69 [(.agg ⟨[zI x2,Sl.v 1 s14]⟩)]) none fun v=>some (v,(hp 1 [oC q5])))) (call_eq h31) (eC 1 ((oo (pu 72 [Sl.v 1 s16,Sl.v 1 s15]) none fun v=>some (v,(hp 1 [oC q5])))) (call_eq h32) (eE))))))) ?_
          exact⟨(z12,s5,z13,n4,c4,z14,s6,(Int.ofNat k2),b3,q5),hm,(.k [0] [] [.tmp 8 false] [0,1,6,8,9,10,11,83] ⟨trF h5,trivial⟩)⟩
         ·refine .reg (eC 2 (keep (hp 1 [oC q5]) (bb (an (Nat.blt k2 (Sl.n s6)) true) (some (fpV (k2*2) (Sl.cs s6))) none)) (keep_bb h18) (eD (keep (hp 1 [oC q5]) (bb (Nat.ble ((k2*2)+2) (len (Sl.cs s6))) (some (.agg ⟨takeL 2 (dropL (k2*2) (Sl.cs s6))⟩)) none)) (keep_agg h19 (takeL_cons h20 (takeL_cons h21 rfl))) (eC 1 ((oo (pu 75 [(.agg ⟨[zI x1,Sl.v 1 s12]⟩)]) none fun v=>some (v,(hp 1 [oC q5])))) (call_eq h22) (eD ((oo (pu 72 [Sl.v 1 s13,Sl.v 1 s5]) none fun v=>some (v,(hp 1 [oC q5])))) (show _=some ((zB false),_) from (by have hz:(oo (pu 72 [Sl.v 1 s13,Sl.v 1 s5]) none fun v=>some (v,(hp 1 [oC q5])))=some ((zB b2),(hp 1 [oC q5])):=(call_eq h23);rw[h24] at hz;exact hz)) (eE))))) ?_
          exact⟨(z12,s5,z13,n4,c4,z14,s6,(Int.ofNat k2),false,q5),hm,(.k [0] [] [.tmp 8 false] [0,1,6,8,9,10,11,83] ⟨trF h5,trivial⟩)⟩
      ·refine ifFt (ilt z15 (Int.ofNat (Sl.n s6))) h6 ?_
       refine .exit ?_
       exact⟨(z12,s5,z13,n4,c4,z14,q5),hm,(.k [0] [] [.tmp 8 false] [0,1,6,8,9] ⟨trF h5,trivial⟩)⟩
   ·refine .ifF b0 (by kernel_rfl) h0 ?_
    refine .exit ?_
    replace hm:=bb_inv hm;obtain⟨h33,hm⟩:=hm
    exact⟨(n2,c2,q3),hm,(.k [0] [] [.tmp 8 false] [8] ⟨trF h33,trivial⟩)⟩
  ·replace hm:=bb_cases hm;rcases hm with⟨h34,hm⟩ | ⟨h34,hm⟩
   ·refine .reg (eC 1 (some ((zB (nt (ilt (6:Int) z5))),(hp 1 [oC q2]))) (show _=some ((zB true),_) from (by rw[show (nt (ilt (6:Int) z5))=true from h34])) (eE)) ?_
    replace hm:=bb_inv hm;obtain⟨h35,hm⟩:=hm
    exact⟨(z3,s1,z4,n1,c1,z5,(nt (ilt z3 z5)),q2),hm,(.k [0] [] [.tmp 8 false] [0,1,6,8,9,44] ⟨trF h35,trivial⟩)⟩
   ·refine .reg (eC 1 (some ((zB (nt (ilt (6:Int) z5))),(hp 1 [oC q2]))) (show _=some ((zB false),_) from (by rw[show (nt (ilt (6:Int) z5))=false from h34])) (eE)) ?_
    replace hm:=bb_inv hm;obtain⟨h36,hm⟩:=hm
    exact⟨(z3,s1,z4,n1,c1,z5,false,q2),hm,(.k [0] [] [.tmp 8 false] [0,1,6,8,9,44] ⟨trF h36,trivial⟩)⟩
theorem r38 {call:CallF} (pu:PureF) (n:Nat) (hcall:call=callP tabs isP pu (inl pu)) {args:LV} {v:Value} (hm:m38 pu n args=some v) (_:∀ x∈args,closed2 x=true):args.length≤92∧Run tt call 0 c38_71 (Fr.made 92 args) (pureHeap tabs) (Fin tt 0 [.tmp 4,.tmp 5] v):=by
 subst hcall
 unfold m38 at hm
 replace hm:=ll_uncons hm;obtain⟨a0,args_0,rfl,hm⟩:=hm
 replace hm:=ll_uncons hm;obtain⟨a1,args_1,rfl,hm⟩:=hm
 replace hm:=ll_end hm;obtain⟨rfl,hm⟩:=hm
 replace hm:=inv_toI hm;obtain⟨x0,rfl,hm⟩:=hm
 replace hm:=inv_toSl hm;obtain⟨s0,rfl,hm⟩:=hm
 unfold m38_ at hm
 refine⟨by simp,?_⟩
 refine .same (F':=(fr 92 [(0,zI x0),(1,Sl.v 1 s0)])) (H':=(hp 0 [])) (by kernel_rfl) (by kernel_rfl) ?_
 refine .then (.rK (.ghs (fr 92 [(0,zI x0),(1,Sl.v 1 s0)]) (hp 0 []) (.k0 [] [] [0,1]) ?_))
 refine .then (.then ?_)
 replace hm:=oQB hm;obtain⟨b0,h0,hm⟩:=hm
 refine .reg (eC 1 ((oo (pu 73 [zI x0,(zI (1:Int)),(zI (21:Int))]) none fun v=>some (v,(hp 0 [])))) (call_eq h0) (eE)) ?_
 refine .ghs (fr 92 [(0,zI x0),(1,Sl.v 1 s0),(14,(zB (nt b0)))]) (hp 0 []) (.k0 [] [] [0,1,14]) ?_
 replace hm:=bb_cases hm;rcases hm with⟨h1,hm⟩ | ⟨h1,hm⟩
 ·refine ifTt (nt b0) h1 ?_
  refine .then (.rK (.ghs (fr 92 [(4,(.slice none 0 0)),(5,(zI (1:Int)))]) (hp 0 []) (.k0 [] [] [4,5]) ?_))
  refine .ghs (Fr.puts (fr 92 [(4,(.slice none 0 0)),(5,(zI (1:Int)))]) [(4,(Sl.v 2 (Sl.mk 0 2 [])))]) (hp 0 []) (.freeze 0 4 2 (by kernel_rfl) (by kernel_rfl) (GhS.id _ _)) ?_
  refine .ret ?_
  exact fin_rt (.tuple ⟨[(Sl.v 2 (Sl.mk 0 2 [])),(zI (1:Int))]⟩) hm
 ·refine ifFt (nt b0) h1 ?_
  refine .skip (.ghs (fr 92 [(0,zI x0),(1,Sl.v 1 s0)]) (hp 0 []) (.k0 [] [] [0,1]) ?_)
  refine .then (.then (.rK (.ghs (fr 92 [(0,zI x0),(1,Sl.v 1 s0),(19,(zB (nt (ieq (Int.ofNat (Sl.n s0)) (wrapF .i64 (Int.sub x0 (1:Int)))))))]) (hp 0 []) (.k0 [] [] [0,1,19]) ?_)))
  replace hm:=bb_cases hm;rcases hm with⟨h2,hm⟩ | ⟨h2,hm⟩
  ·refine ifTt (nt (ieq (Int.ofNat (Sl.n s0)) (wrapF .i64 (Int.sub x0 (1:Int))))) h2 ?_
   refine .then (.rK (.ghs (fr 92 [(4,(.slice none 0 0)),(5,(zI (5:Int)))]) (hp 0 []) (.k0 [] [] [4,5]) ?_))
   refine .ghs (Fr.puts (fr 92 [(4,(.slice none 0 0)),(5,(zI (5:Int)))]) [(4,(Sl.v 2 (Sl.mk 0 2 [])))]) (hp 0 []) (.freeze 0 4 2 (by kernel_rfl) (by kernel_rfl) (GhS.id _ _)) ?_
   refine .ret ?_
   exact fin_rt (.tuple ⟨[(Sl.v 2 (Sl.mk 0 2 [])),(zI (5:Int))]⟩) hm
  ·refine ifFt (nt (ieq (Int.ofNat (Sl.n s0)) (wrapF .i64 (Int.sub x0 (1:Int))))) h2 ?_
   refine .skip (.ghs (fr 92 [(0,zI x0),(1,Sl.v 1 s0)]) (hp 0 []) (.k0 [] [] [0,1]) ?_)
   refine .then (.rK (.ghs (fr 92 [(0,zI x0),(1,Sl.v 1 s0),(6,(zI (0:Int)))]) (hp 0 []) (.k0 [] [] [0,1,6]) ?_))
   refine .join (v:=v) (fun y:Int×Sl×Int=>((fr 92 [(0,(zI y.1)),(1,(Sl.v 1 y.2.1)),(6,(zI y.2.2))]),(hp 0 []))) (fun y=>m38_0 pu n y.1 y.2.1 y.2.2) ?_ ?_
   ·rintro⟨z1,s1,z2⟩ hm
    exact w38_0 pu n z1 s1 z2 hm
   ·refine .then (.rK (.ghs (fr 92 [(0,zI x0),(1,Sl.v 1 s0),(6,(zI (0:Int))),(7,(zI (0:Int)))]) (hp 0 []) (.k0 [] [] [0,1,6,7]) ?_))
    refine .block (.loopM (v:=v) (fun y:Int×Sl×Int×Int=>((fr 92 [(0,(zI y.1)),(1,(Sl.v 1 y.2.1)),(6,(zI y.2.2.1)),(7,(zI y.2.2.2))]),(hp 0 []))) (fun w y=>l38_8 pu n w y.1 y.2.1 y.2.2.1 y.2.2.2) n ⟨(x0,s0,(0:Int),(0:Int)),hm,(.k0 [] [] [0,1,6,7])⟩ (fun _=>rfl) ?_)
    rintro w0 ⟨z3,s2,z4,z5⟩ hm
    replace hm:b38_8 pu n (l38_8 pu n w0) z3 s2 z4 z5=some v:=hm
    unfold b38_8 at hm
    refine .then (.then (.rK (.ghs (fr 92 [(0,zI z3),(1,Sl.v 1 s2),(6,zI z4),(7,zI z5),(23,(zB (ilt z5 (Int.ofNat (Sl.n s2)))))]) (hp 0 []) (.k0 [] [] [0,1,6,7,23]) ?_)))
    replace hm:=bb_cases hm;rcases hm with⟨h3,hm⟩ | ⟨h3,hm⟩
    ·refine ifTt (ilt z5 (Int.ofNat (Sl.n s2))) h3 ?_
     refine .skip (.ghs (fr 92 [(0,zI z3),(1,Sl.v 1 s2),(6,zI z4),(7,zI z5)]) (hp 0 []) (.k0 [] [] [0,1,6,7]) ?_)
     refine .then (.block (.then (.then ?_)))
     replace hm:=oo_inv hm;obtain⟨k1,h4,hm⟩:=hm
     obtain rfl:=toN_some h4
     replace hm:=bb_inv hm;obtain⟨h5,hm⟩:=hm
     replace hm:=oQI hm;obtain⟨x1,h6,hm⟩:=hm
     replace hm:=oQB hm;obtain⟨b1,h7,hm⟩:=hm
     refine .reg (eC 2 (keep (hp 0 []) (bb (an (Nat.blt k1 (Sl.n s2)) true) (some (fpV (k1*1) (Sl.cs s2))) none)) (keep_bb h5) (eD (keep (hp 0 []) (nthL (Sl.cs s2) (k1*1))) (keep_eq h6) (eD ((oo (pu 73 [zI x1,(zI (0:Int)),(zI (6:Int))]) none fun v=>some (v,(hp 0 [])))) (call_eq h7) (eE)))) ?_
     refine .ghs (fr 92 [(0,zI z3),(1,Sl.v 1 s2),(6,zI z4),(7,(zI (Int.ofNat k1))),(31,(zB (nt b1)))]) (hp 0 []) (.k0 [] [] [0,1,6,7,31]) ?_
     replace hm:=bb_cases hm;rcases hm with⟨h8,hm⟩ | ⟨h8,hm⟩
     ·refine ifTt (nt b1) h8 ?_
      refine .then (.rK (.ghs (fr 92 [(4,(.slice none 0 0)),(5,(zI (1:Int)))]) (hp 0 []) (.k0 [] [] [4,5]) ?_))
      refine .ghs (Fr.puts (fr 92 [(4,(.slice none 0 0)),(5,(zI (1:Int)))]) [(4,(Sl.v 2 (Sl.mk 0 2 [])))]) (hp 0 []) (.freeze 0 4 2 (by kernel_rfl) (by kernel_rfl) (GhS.id _ _)) ?_
      refine .ret ?_
      exact fin_rt (.tuple ⟨[(Sl.v 2 (Sl.mk 0 2 [])),(zI (1:Int))]⟩) hm
     ·refine ifFt (nt b1) h8 ?_
      refine .skip (.ghs (fr 92 [(0,zI z3),(1,Sl.v 1 s2),(6,zI z4),(7,(zI (Int.ofNat k1)))]) (hp 0 []) (.k0 [] [] [0,1,6,7]) ?_)
      replace hm:=bb_inv hm;obtain⟨h9,hm⟩:=hm
      replace hm:=oQI hm;obtain⟨x2,h10,hm⟩:=hm
      refine .reg (eC 3 (keep (hp 0 []) (bb (an (Nat.blt k1 (Sl.n s2)) true) (some (fpV (k1*1) (Sl.cs s2))) none)) (keep_bb h9) (eD (keep (hp 0 []) (nthL (Sl.cs s2) (k1*1))) (keep_eq h10) (eE))) ?_
      refine .ghs (fr 92 [(0,zI z3),(1,Sl.v 1 s2),(6,(zI (wrapF .i64 (Int.add z4 x2)))),(7,(zI (Int.ofNat k1)))]) (hp 0 []) (.k0 [] [] [0,1,6,7]) ?_
      refine .rK ?_
      exact⟨(z3,s2,(wrapF .i64 (Int.add z4 x2)),(wrapF .i64 (Int.add (Int.ofNat k1) (1:Int)))),hm,(.k0 [] [] [0,1,6,7])⟩
    ·refine ifFt (ilt z5 (Int.ofNat (Sl.n s2))) h3 ?_
     refine .exit ?_
     exact⟨(z3,s2,z4),hm,(.k0 [] [] [0,1,6])⟩
def m39_0 (pu:PureF) (n:Nat):OV:=
 (some (.bool true))
def b39_1 (pu:PureF) (n:Nat) (ih0:Sl→Sl→Int→OV) (s0 s1:Sl) (z1:Int):OV:=
 (bb (ilt z1 (Int.ofNat (Sl.n s0))) (oo (toN z1) none fun k1=>(bb (an (Nat.blt k1 (Sl.n s0)) true) (bb (Nat.ble ((k1*2)+2) (len (Sl.cs s0))) (oo (nthL (Sl.cs s0) (k1*2)) none fun v0=>(oo (toI .i64 v0) none fun x0=>(oo (nthL (Sl.cs s0) ((k1*2)+1)) none fun v1=>(oo (toSl 1 v1) none fun s2=>(bb (an (Nat.blt k1 (Sl.n s1)) true) (bb (Nat.ble ((k1*2)+2) (len (Sl.cs s1))) (oo (nthL (Sl.cs s1) (k1*2)) none fun v2=>(oo (toI .i64 v2) none fun x1=>(oo (nthL (Sl.cs s1) ((k1*2)+1)) none fun v3=>(oo (toSl 1 v3) none fun s3=>(oo (pu 24 [(.agg ⟨[.int .i64 x0,Sl.v 1 s2]⟩),(.agg ⟨[.int .i64 x1,Sl.v 1 s3]⟩)]) none fun v4=>(oo (vBool v4) none fun b0=>(bb (nt b0) (some (.bool false)) (ih0 s0 s1 (wrapF .i64 (Int.add (Int.ofNat k1) (1:Int))))))))))) none) none))))) none) none)) (m39_0 pu n))
def l39_1 (pu:PureF) (n w:Nat):Sl→Sl→Int→OV:=
 Nat.rec (motive:=fun _=>Sl→Sl→Int→OV) (fun _ _ _=>none) (fun _ ih0=>b39_1 pu n ih0) w
def m39_ (pu:PureF) (n:Nat) (s0 s1:Sl):OV:=
 (bb (nt (ieq (Int.ofNat (Sl.n s0)) (Int.ofNat (Sl.n s1)))) (some (.bool false)) (l39_1 pu n n s0 s1 (0:Int)))
def m39 (pu:PureF) (n:Nat) (args:LV):OV:=
 (ll args none fun a0 args=>(ll args none fun a1 args=>(ll args (oo (toSl 2 a0) none fun s0=>(oo (toSl 2 a1) none fun s1=>(m39_ pu n s0 s1))) fun _ _=>none)))
theorem w39_0 (pu:PureF) (n:Nat) {v:Value} (hm:m39_0 pu n=some v):Run tt (callP tabs isP pu (inl pu)) 0 c39_23 (fr 27 []) (hp 0 []) (Fin tt 0 [.tmp 4] v):=by
 unfold m39_0 at hm
 refine .then (.rK (.ghs (fr 27 [(4,zB true)]) (hp 0 []) (.k0 [] [] [4]) ?_))
 refine .ret ?_
 exact fin_rt (zB true) hm
theorem r39 {call:CallF} (pu:PureF) (n:Nat) (hcall:call=callP tabs isP pu (inl pu)) {args:LV} {v:Value} (hm:m39 pu n args=some v) (_:∀ x∈args,closed2 x=true):args.length≤27∧Run tt call 0 c39_26 (Fr.made 27 args) (pureHeap tabs) (Fin tt 0 [.tmp 4] v):=by
 subst hcall
 unfold m39 at hm
 replace hm:=ll_uncons hm;obtain⟨a0,args_0,rfl,hm⟩:=hm
 replace hm:=ll_uncons hm;obtain⟨a1,args_1,rfl,hm⟩:=hm
 replace hm:=ll_end hm;obtain⟨rfl,hm⟩:=hm
 replace hm:=inv_toSl hm;obtain⟨s0,rfl,hm⟩:=hm
 replace hm:=inv_toSl hm;obtain⟨s1,rfl,hm⟩:=hm
 unfold m39_ at hm
 refine⟨by simp,?_⟩
 refine .same (F':=(fr 27 [(0,(Sl.v 2 s0)),(1,(Sl.v 2 s1))])) (H':=(hp 0 [])) (by kernel_rfl) (by kernel_rfl) ?_
 refine .then (.rK (.ghs (fr 27 [(0,(Sl.v 2 s0)),(1,(Sl.v 2 s1))]) (hp 0 []) (.k0 [] [] [0,1]) ?_))
 refine .then (.then (.rK (.ghs (fr 27 [(0,(Sl.v 2 s0)),(1,(Sl.v 2 s1)),(10,(zB (nt (ieq (Int.ofNat (Sl.n s0)) (Int.ofNat (Sl.n s1))))))]) (hp 0 []) (.k0 [] [] [0,1,10]) ?_)))
 replace hm:=bb_cases hm;rcases hm with⟨h0,hm⟩ | ⟨h0,hm⟩
 ·refine ifTt (nt (ieq (Int.ofNat (Sl.n s0)) (Int.ofNat (Sl.n s1)))) h0 ?_
  refine .then (.rK (.ghs (fr 27 [(4,zB false)]) (hp 0 []) (.k0 [] [] [4]) ?_))
  refine .ret ?_
  exact fin_rt (zB false) hm
 ·refine ifFt (nt (ieq (Int.ofNat (Sl.n s0)) (Int.ofNat (Sl.n s1)))) h0 ?_
  refine .skip (.ghs (fr 27 [(0,(Sl.v 2 s0)),(1,(Sl.v 2 s1))]) (hp 0 []) (.k0 [] [] [0,1]) ?_)
  refine .join (v:=v) (fun y:Unit=>((fr 27 []),(hp 0 []))) (fun y=>m39_0 pu n) ?_ ?_
  ·rintro _ hm
   exact w39_0 pu n hm
  ·refine .then (.rK (.ghs (fr 27 [(0,(Sl.v 2 s0)),(1,(Sl.v 2 s1)),(5,(zI (0:Int)))]) (hp 0 []) (.k0 [] [] [0,1,5]) ?_))
   refine .block (.loopM (v:=v) (fun y:Sl×Sl×Int=>((fr 27 [(0,(Sl.v 2 y.1)),(1,(Sl.v 2 y.2.1)),(5,(zI y.2.2))]),(hp 0 []))) (fun w y=>l39_1 pu n w y.1 y.2.1 y.2.2) n ⟨(s0,s1,(0:Int)),hm,(.k0 [] [] [0,1,5])⟩ (fun _=>rfl) ?_)
   rintro w0 ⟨s2,s3,z1⟩ hm
   replace hm:b39_1 pu n (l39_1 pu n w0) s2 s3 z1=some v:=hm
   unfold b39_1 at hm
   refine .then (.then (.rK (.ghs (fr 27 [(0,(Sl.v 2 s2)),(1,(Sl.v 2 s3)),(5,zI z1),(14,(zB (ilt z1 (Int.ofNat (Sl.n s2)))))]) (hp 0 []) (.k0 [] [] [0,1,5,14]) ?_)))
   replace hm:=bb_cases hm;rcases hm with⟨h1,hm⟩ | ⟨h1,hm⟩
   ·refine ifTt (ilt z1 (Int.ofNat (Sl.n s2))) h1 ?_
    refine .skip (.ghs (fr 27 [(0,(Sl.v 2 s2)),(1,(Sl.v 2 s3)),(5,zI z1)]) (hp 0 []) (.k0 [] [] [0,1,5]) ?_)
    refine .then (.block (.then ?_))
    replace hm:=oo_inv hm;obtain⟨k1,h2,hm⟩:=hm
    obtain rfl:=toN_some h2
    replace hm:=bb_inv hm;obtain⟨h3,hm⟩:=hm
    replace hm:=bb_inv hm;obtain⟨h4,hm⟩:=hm
    replace hm:=oQI hm;obtain⟨x0,h5,hm⟩:=hm
    replace hm:=oQS hm;obtain⟨s4,h6,hm⟩:=hm
    replace hm:=bb_inv hm;obtain⟨h7,hm⟩:=hm
    replace hm:=bb_inv hm;obtain⟨h8,hm⟩:=hm
    replace hm:=oQI hm;obtain⟨x1,h9,hm⟩:=hm
    replace hm:=oQS hm;obtain⟨s5,h10,hm⟩:=hm
    replace hm:=oQB hm;obtain⟨b0,h11,hm⟩:=hm
    refine .reg (eC 2 (keep (hp 0 []) (bb (an (Nat.blt k1 (Sl.n s2)) true) (some (fpV (k1*2) (Sl.cs s2))) none)) (keep_bb h3) (eD (keep (hp 0 []) (bb (Nat.ble ((k1*2)+2) (len (Sl.cs s2))) (some (.agg ⟨takeL 2 (dropL (k1*2) (Sl.cs s2))⟩)) none)) (keep_agg h4 (takeL_cons h5 (takeL_cons h6 rfl))) (eC 2 (keep (hp 0 []) (bb (an (Nat.blt k1 (Sl.n s3)) true) (some (fpV (k1*2) (Sl.cs s3))) none)) (keep_bb h7) (eD (keep (hp 0 []) (bb (Nat.ble ((k1*2)+2) (len (Sl.cs s3))) (some (.agg ⟨takeL 2 (dropL (k1*2) (Sl.cs s3))⟩)) none)) (keep_agg h8 (takeL_cons h9 (takeL_cons h10 rfl))) (eD ((oo (pu 24 [(.agg ⟨[zI x0,Sl.v 1 s4]⟩),(.agg ⟨[zI x1,Sl.v 1 s5]⟩)]) none fun v=>some (v,(hp 0 [])))) (call_eq h11) (eE)))))) ?_
    refine .ghs (fr 27 [(0,(Sl.v 2 s2)),(1,(Sl.v 2 s3)),(5,(zI (Int.ofNat k1))),(26,(zB (nt b0)))]) (hp 0 []) (.k0 [] [] [0,1,5,26]) ?_
    replace hm:=bb_cases hm;rcases hm with⟨h12,hm⟩ | ⟨h12,hm⟩
    ·refine ifTt (nt b0) h12 ?_
     refine .then (.rK (.ghs (fr 27 [(4,zB false)]) (hp 0 []) (.k0 [] [] [4]) ?_))
     refine .ret ?_
     exact fin_rt (zB false) hm
    ·refine ifFt (nt b0) h12 ?_
     refine .skip (.ghs (fr 27 [(0,(Sl.v 2 s2)),(1,(Sl.v 2 s3)),(5,(zI (Int.ofNat k1)))]) (hp 0 []) (.k0 [] [] [0,1,5]) ?_)
     refine .rK ?_
     exact⟨(s2,s3,(wrapF .i64 (Int.add (Int.ofNat k1) (1:Int)))),hm,(.k0 [] [] [0,1,5])⟩
   ·refine ifFt (ilt z1 (Int.ofNat (Sl.n s2))) h1 ?_
    refine .exit ?_
    exact⟨(),hm,(.k0 [] [] [])⟩
def m52_0 (pu:PureF) (n:Nat) (s0 s1:Sl):OV:=
 (bb (ilt (Int.ofNat (Sl.n s0)) (Int.ofNat (Sl.n s1))) (some (.int .i64 (-1:Int))) (some (.int .i64 (0:Int))))
def b52_1 (pu:PureF) (n:Nat) (ih0:Sl→Sl→Sl→Int→Int→OV) (s0 s1 s2:Sl) (z1 z2:Int):OV:=
 (bb (ilt z2 z1) (oo (toN z2) none fun k1=>(bb (an (Nat.blt k1 (Sl.n s2)) true) (oo (nthL (Sl.cs s2) (k1*1)) none fun v0=>(oo (toI .i64 v0) none fun x0=>(bb (nt (ilt (Int.ofNat k1) (Int.ofNat (Sl.n s1)))) (some (.int .i64 (1:Int))) (bb (an (Nat.blt k1 (Sl.n s1)) true) (oo (nthL (Sl.cs s1) (k1*1)) none fun v1=>(oo (toI .i64 v1) none fun x1=>(oo (pu 92 [.int .i64 x0,.int .i64 x1]) none fun v2=>(oo (toI .i64 v2) none fun x2=>(bb (nt (ieq x2 (0:Int))) (some (.int .i64 x2)) (ih0 s0 s1 s2 z1 (wrapF .i64 (Int.add (Int.ofNat k1) (1:Int))))))))) none)))) none)) (m52_0 pu n s0 s1))
def l52_1 (pu:PureF) (n w:Nat):Sl→Sl→Sl→Int→Int→OV:=
 Nat.rec (motive:=fun _=>Sl→Sl→Sl→Int→Int→OV) (fun _ _ _ _ _=>none) (fun _ ih0=>b52_1 pu n ih0) w
def m52_ (pu:PureF) (n:Nat) (s0 s1:Sl):OV:=
 (l52_1 pu n n s0 s1 s0 (Int.ofNat (Sl.n s0)) (0:Int))
def m52 (pu:PureF) (n:Nat) (args:LV):OV:=
 (ll args none fun a0 args=>(ll args none fun a1 args=>(ll args (oo (toSl 1 a0) none fun s0=>(oo (toSl 1 a1) none fun s1=>(m52_ pu n s0 s1))) fun _ _=>none)))
theorem w52_0 (pu:PureF) (n:Nat) (s0 s1:Sl) {v:Value} (hm:m52_0 pu n s0 s1=some v):Run tt (callP tabs isP pu (inl pu)) 0 c52_36 (fr 36 [(0,Sl.v 1 s0),(1,Sl.v 1 s1)]) (hp 0 []) (Fin tt 0 [.tmp 4] v):=by
 unfold m52_0 at hm
 refine .then (.then (.rK (.ghs (fr 36 [(35,(zB (ilt (Int.ofNat (Sl.n s0)) (Int.ofNat (Sl.n s1)))))]) (hp 0 []) (.k0 [] [] [35]) ?_)))
 replace hm:=bb_cases hm;rcases hm with⟨h0,hm⟩ | ⟨h0,hm⟩
 ·refine ifTt (ilt (Int.ofNat (Sl.n s0)) (Int.ofNat (Sl.n s1))) h0 ?_
  refine .then (.rK (.ghs (fr 36 [(4,(zI (-1:Int)))]) (hp 0 []) (.k0 [] [] [4]) ?_))
  refine .ret ?_
  exact fin_rt (zI (-1:Int)) hm
 ·refine ifFt (ilt (Int.ofNat (Sl.n s0)) (Int.ofNat (Sl.n s1))) h0 ?_
  refine .skip (.ghs (fr 36 []) (hp 0 []) (.k0 [] [] []) ?_)
  refine .then (.rK (.ghs (fr 36 [(4,(zI (0:Int)))]) (hp 0 []) (.k0 [] [] [4]) ?_))
  refine .ret ?_
  exact fin_rt (zI (0:Int)) hm
theorem r52 {call:CallF} (pu:PureF) (n:Nat) (hcall:call=callP tabs isP pu (inl pu)) {args:LV} {v:Value} (hm:m52 pu n args=some v) (_:∀ x∈args,closed2 x=true):args.length≤36∧Run tt call 0 c52_38 (Fr.made 36 args) (pureHeap tabs) (Fin tt 0 [.tmp 4] v):=by
 subst hcall
 unfold m52 at hm
 replace hm:=ll_uncons hm;obtain⟨a0,args_0,rfl,hm⟩:=hm
 replace hm:=ll_uncons hm;obtain⟨a1,args_1,rfl,hm⟩:=hm
 replace hm:=ll_end hm;obtain⟨rfl,hm⟩:=hm
 replace hm:=inv_toSl hm;obtain⟨s0,rfl,hm⟩:=hm
 replace hm:=inv_toSl hm;obtain⟨s1,rfl,hm⟩:=hm
 unfold m52_ at hm
 refine⟨by simp,?_⟩
 refine .same (F':=(fr 36 [(0,Sl.v 1 s0),(1,Sl.v 1 s1)])) (H':=(hp 0 [])) (by kernel_rfl) (by kernel_rfl) ?_
 refine .then (.rK (.ghs (fr 36 [(0,Sl.v 1 s0),(1,Sl.v 1 s1)]) (hp 0 []) (.k0 [] [] [0,1]) ?_))
 refine .join (v:=v) (fun y:Sl×Sl=>((fr 36 [(0,(Sl.v 1 y.1)),(1,(Sl.v 1 y.2))]),(hp 0 []))) (fun y=>m52_0 pu n y.1 y.2) ?_ ?_
 ·rintro⟨s2,s3⟩ hm
  exact w52_0 pu n s2 s3 hm
 ·refine .then (.rK (.ghs (fr 36 [(0,Sl.v 1 s0),(1,Sl.v 1 s1),(9,Sl.v 1 s0),(10,(zI (Int.ofNat (Sl.n s0)))),(11,(zI (0:Int)))]) (hp 0 []) (.k0 [] [] [0,1,9,10,11]) ?_))
  refine .block (.loopM (v:=v) (fun y:Sl×Sl×Sl×Int×Int=>((fr 36 [(0,(Sl.v 1 y.1)),(1,(Sl.v 1 y.2.1)),(9,(Sl.v 1 y.2.2.1)),(10,(zI y.2.2.2.1)),(11,(zI y.2.2.2.2))]),(hp 0 []))) (fun w y=>l52_1 pu n w y.1 y.2.1 y.2.2.1 y.2.2.2.1 y.2.2.2.2) n ⟨(s0,s1,s0,(Int.ofNat (Sl.n s0)),(0:Int)),hm,(.k0 [] [] [0,1,9,10,11])⟩ (fun _=>rfl) ?_)
  rintro w0 ⟨s4,s5,s6,z1,z2⟩ hm
  replace hm:b52_1 pu n (l52_1 pu n w0) s4 s5 s6 z1 z2=some v:=hm
  unfold b52_1 at hm
  refine .then (.rK (.ghs (fr 36 [(0,Sl.v 1 s4),(1,Sl.v 1 s5),(9,Sl.v 1 s6),(10,zI z1),(11,zI z2),(12,(zB (ilt z2 z1)))]) (hp 0 []) (.k0 [] [] [0,1,9,10,11,12]) ?_))
  refine .then ?_
  replace hm:=bb_cases hm;rcases hm with⟨h0,hm⟩ | ⟨h0,hm⟩
  ·refine ifTt (ilt z2 z1) h0 ?_
   refine .skip (.ghs (fr 36 [(0,Sl.v 1 s4),(1,Sl.v 1 s5),(9,Sl.v 1 s6),(10,zI z1),(11,zI z2)]) (hp 0 []) (.k0 [] [] [0,1,9,10,11]) ?_)
   refine .then (.block (.then ?_))
   replace hm:=oo_inv hm;obtain⟨k1,h1,hm⟩:=hm
   obtain rfl:=toN_some h1
   replace hm:=bb_inv hm;obtain⟨h2,hm⟩:=hm
   replace hm:=oQI hm;obtain⟨x0,h3,hm⟩:=hm
   refine .reg (eC 1 (keep (hp 0 []) (bb (an (Nat.blt k1 (Sl.n s6)) true) (some (fpV (k1*1) (Sl.cs s6))) none)) (keep_bb h2) (eD (keep (hp 0 []) (nthL (Sl.cs s6) (k1*1))) (keep_eq h3) (eE))) ?_
   refine .ghs (fr 36 [(0,Sl.v 1 s4),(1,Sl.v 1 s5),(5,(zI (Int.ofNat k1))),(6,zI x0),(9,Sl.v 1 s6),(10,zI z1),(11,(zI (Int.ofNat k1)))]) (hp 0 []) (.k0 [] [] [0,1,5,6,9,10,11]) ?_
   refine .then (.then (.rK (.ghs (fr 36 [(0,Sl.v 1 s4),(1,Sl.v 1 s5),(5,(zI (Int.ofNat k1))),(6,zI x0),(9,Sl.v 1 s6),(10,zI z1),(11,(zI (Int.ofNat k1))),(19,(zB (nt (ilt (Int.ofNat k1) (Int.ofNat (Sl.n s5))))))]) (hp 0 []) (.k0 [] [] [0,1,5,6,9,10,11,19]) ?_)))
   replace hm:=bb_cases hm;rcases hm with⟨h4,hm⟩ | ⟨h4,hm⟩
   ·refine ifTt (nt (ilt (Int.ofNat k1) (Int.ofNat (Sl.n s5)))) h4 ?_
    refine .then (.rK (.ghs (fr 36 [(4,(zI (1:Int)))]) (hp 0 []) (.k0 [] [] [4]) ?_))
    refine .ret ?_
    exact fin_rt (zI (1:Int)) hm
   ·refine ifFt (nt (ilt (Int.ofNat k1) (Int.ofNat (Sl.n s5)))) h4 ?_
    refine .skip (.ghs (fr 36 [(0,Sl.v 1 s4),(1,Sl.v 1 s5),(5,(zI (Int.ofNat k1))),(6,zI x0),(9,Sl.v 1 s6),(10,zI z1),(11,(zI (Int.ofNat k1)))]) (hp 0 []) (.k0 [] [] [0,1,5,6,9,10,11]) ?_)
    refine .then ?_
    replace hm:=bb_inv hm;obtain⟨h5,hm⟩:=hm
    replace hm:=oQI hm;obtain⟨x1,h6,hm⟩:=hm
    refine .reg (eC 2 (keep (hp 0 []) (bb (an (Nat.blt k1 (Sl.n s5)) true) (some (fpV (k1*1) (Sl.cs s5))) none)) (keep_bb h5) (eD (keep (hp 0 []) (nthL (Sl.cs s5) (k1*1))) (keep_eq h6) (eE))) ?_
    refine .ghs (fr 36 [(0,Sl.v 1 s4),(1,Sl.v 1 s5),(6,zI x0),(7,zI x1),(9,Sl.v 1 s6),(10,zI z1),(11,(zI (Int.ofNat k1)))]) (hp 0 []) (.k0 [] [] [0,1,6,7,9,10,11]) ?_
    refine .then ?_
    replace hm:=oQI hm;obtain⟨x2,h7,hm⟩:=hm
    refine .reg (eC 2 ((oo (pu 92 [zI x0,zI x1]) none fun v=>some (v,(hp 0 [])))) (call_eq h7) (eE)) ?_
    refine .ghs (fr 36 [(0,Sl.v 1 s4),(1,Sl.v 1 s5),(8,zI x2),(9,Sl.v 1 s6),(10,zI z1),(11,(zI (Int.ofNat k1)))]) (hp 0 []) (.k0 [] [] [0,1,8,9,10,11]) ?_
    refine .then (.rK (.ghs (fr 36 [(0,Sl.v 1 s4),(1,Sl.v 1 s5),(8,zI x2),(9,Sl.v 1 s6),(10,zI z1),(11,(zI (Int.ofNat k1))),(28,(zB (nt (ieq x2 (0:Int)))))]) (hp 0 []) (.k0 [] [] [0,1,8,9,10,11,28]) ?_))
    replace hm:=bb_cases hm;rcases hm with⟨h8,hm⟩ | ⟨h8,hm⟩
    ·refine ifTt (nt (ieq x2 (0:Int))) h8 ?_
     refine .then (.rK (.ghs (fr 36 [(4,zI x2)]) (hp 0 []) (.k0 [] [] [4]) ?_))
     refine .ret ?_
     exact fin_rt (zI x2) hm
    ·refine ifFt (nt (ieq x2 (0:Int))) h8 ?_
     refine .skip (.ghs (fr 36 [(0,Sl.v 1 s4),(1,Sl.v 1 s5),(9,Sl.v 1 s6),(10,zI z1),(11,(zI (Int.ofNat k1)))]) (hp 0 []) (.k0 [] [] [0,1,9,10,11]) ?_)
     refine .rK ?_
     exact⟨(s4,s5,s6,z1,(wrapF .i64 (Int.add (Int.ofNat k1) (1:Int)))),hm,(.k0 [] [] [0,1,9,10,11])⟩
  ·refine ifFt (ilt z2 z1) h0 ?_
   refine .exit ?_
   exact⟨(s4,s5),hm,(.k0 [] [] [0,1])⟩

def m61_ (pu:PureF) (n:Nat) (x0:Int) (s0:Sl):OV:=
 (oo (pu 25 [(.agg ⟨[.int .i64 x0,Sl.v 1 s0]⟩)]) none fun v0=>(oo (toI .i64 v0) none fun x1=>(bb (nt (ieq x1 (0:Int))) (some (.tuple ⟨[(.agg ⟨[(.int .i64 (0:Int)),(.int .u32 (0:Int))]⟩),.int .i64 x1]⟩)) (oo (pu 96 [.int .i64 x0,Sl.v 1 s0]) none fun v1=>(oo (vAgg v1) none fun l0=>(ll l0 none fun v2 l0=>(ll l0 none fun v3 l0=>(ll l0 (oo (toI .i64 v2) none fun x2=>(oo (toI .u32 v3) none fun x3=>(some (.tuple ⟨[(.agg ⟨[.int .i64 x2,.int .u32 x3]⟩),(.int .i64 (0:Int))]⟩)))) fun _ _=>none))))))))
def m61 (pu:PureF) (n:Nat) (args:LV):OV:=
 (ll args none fun a0 args=>(ll args (oo (vAgg a0) none fun l0=>(ll l0 none fun v0 l0=>(ll l0 none fun v1 l0=>(ll l0 (oo (toI .i64 v0) none fun x0=>(oo (toSl 1 v1) none fun s0=>(m61_ pu n x0 s0))) fun _ _=>none)))) fun _ _=>none))
theorem r61 {call:CallF} (pu:PureF) (n:Nat) (hcall:call=callP tabs isP pu (inl pu)) {args:LV} {v:Value} (hm:m61 pu n args=some v) (_:∀ x∈args,closed2 x=true):args.length≤16∧Run tt call 0 c61_11 (Fr.made 16 args) (pureHeap tabs) (Fin tt 0 [.cell 2 92,.tmp 3] v):=by
 subst hcall
 unfold m61 at hm
 replace hm:=ll_uncons hm;obtain⟨a0,args_0,rfl,hm⟩:=hm
 replace hm:=ll_end hm;obtain⟨rfl,hm⟩:=hm
 replace hm:=inv_vAgg hm;obtain⟨l0,rfl,hm⟩:=hm
 replace hm:=ll_uncons hm;obtain⟨v0,l17140_0,rfl,hm⟩:=hm
 replace hm:=ll_uncons hm;obtain⟨v1,l17140_1,rfl,hm⟩:=hm
 replace hm:=ll_end hm;obtain⟨rfl,hm⟩:=hm
 replace hm:=inv_toI hm;obtain⟨x0,rfl,hm⟩:=hm
 replace hm:=inv_toSl hm;obtain⟨s0,rfl,hm⟩:=hm
 unfold m61_ at hm
 refine⟨by simp,?_⟩
 refine .same (F':=(fr 16 [(0,(.agg ⟨[zI x0,Sl.v 1 s0]⟩))])) (H':=(hp 0 [])) (by kernel_rfl) (by kernel_rfl) ?_
 refine .then (.rK (.ghs (fr 16 [(1,(pt 0 0)),(2,pt 1 0)]) (hp 2 [(oC [zI x0,Sl.v 1 s0]),(oC [(zI (0:Int)),(.int .u32 (0:Int))])]) (.k0 [] [.tmp 1 false,.tmp 2 false] [1,2]) ?_))
 refine .then (.then ?_)
 replace hm:=oQI hm;obtain⟨x1,h0,hm⟩:=hm
 refine .reg (eC 1 ((oo (pu 25 [(.agg ⟨[zI x0,Sl.v 1 s0]⟩)]) none fun v=>some (v,(hp 2 [(oC [zI x0,Sl.v 1 s0]),(oC [(zI (0:Int)),(.int .u32 (0:Int))])])))) (call_eq h0) (eE)) ?_
 refine .ghs (fr 16 [(1,(pt 0 0)),(2,pt 1 0),(4,zI x1)]) (hp 2 [(oC [zI x0,Sl.v 1 s0]),(oC [(zI (0:Int)),(.int .u32 (0:Int))])]) (.k0 [] [.tmp 1 false,.tmp 2 false] [1,2,4]) ?_
 refine .then (.rK (.ghs (fr 16 [(1,(pt 0 0)),(2,pt 1 0),(4,zI x1),(8,(zB (nt (ieq x1 (0:Int)))))]) (hp 2 [(oC [zI x0,Sl.v 1 s0]),(oC [(zI (0:Int)),(.int .u32 (0:Int))])]) (.k0 [] [.tmp 1 false,.tmp 2 false] [1,2,4,8]) ?_))
 replace hm:=bb_cases hm;rcases hm with⟨h1,hm⟩ | ⟨h1,hm⟩
 ·refine ifTt (nt (ieq x1 (0:Int))) h1 ?_
  refine .then (.rK (.ghs (fr 16 [(2,(pt 0 0)),(3,zI x1)]) (hp 1 [(oC [(zI (0:Int)),(.int .u32 (0:Int))])]) (.k0 [] [.tmp 2 false] [2,3]) ?_))
  refine .ret ?_
  exact fin_rt (.tuple ⟨[(.agg ⟨[(zI (0:Int)),(.int .u32 (0:Int))]⟩),zI x1]⟩) hm
 ·refine ifFt (nt (ieq x1 (0:Int))) h1 ?_
  refine .skip (.ghs (fr 16 [(1,(pt 0 0)),(2,pt 1 0)]) (hp 2 [(oC [zI x0,Sl.v 1 s0]),(oC [(zI (0:Int)),(.int .u32 (0:Int))])]) (.k0 [] [.tmp 1 false,.tmp 2 false] [1,2]) ?_)
  refine .then ?_
  replace hm:=oo_inv hm;obtain⟨v2,h2,hm⟩:=hm
  replace hm:=inv_vAgg hm;obtain⟨l1,rfl,hm⟩:=hm
  replace hm:=ll_uncons hm;obtain⟨v3,l17169_0,rfl,hm⟩:=hm
  replace hm:=ll_uncons hm;obtain⟨v4,l17169_1,rfl,hm⟩:=hm
  replace hm:=ll_end hm;obtain⟨rfl,hm⟩:=hm
  replace hm:=inv_toI hm;obtain⟨x2,rfl,hm⟩:=hm
  replace hm:=inv_toI hm;obtain⟨x3,rfl,hm⟩:=hm
  refine .reg (eC 4 ((oo (pu 96 [zI x0,Sl.v 1 s0]) none fun v=>some (v,(hp 2 [(oC [zI x0,Sl.v 1 s0]),(oC [(zI (0:Int)),(.int .u32 (0:Int))])])))) (call_eq h2) (eE)) ?_
  refine .ghs (fr 16 [(2,(pt 0 0)),(3,(zI (0:Int)))]) (hp 1 [(oC [zI x2,.int .u32 x3])]) (.k0 [] [.tmp 2 false] [2,3]) ?_
  refine .ret ?_
  exact fin_rt (.tuple ⟨[(.agg ⟨[zI x2,.int .u32 x3]⟩),(zI (0:Int))]⟩) hm
end
end Go.RgHM
