/- Made from wip. -/
import Derived.Test.YtenlanbdolnhhaaRgHMod0x

set_option maxRecDepth 100000
set_option maxHeartbeats 20000000
set_option linter.unusedVariables false
namespace Go.RgHM
open Go.Sp Go.RgH
noncomputable section
def m72_0 (pu:PureF) (n:Nat) (b0:Bool):OV:=
 (some (.bool b0))
def m72_ (pu:PureF) (n:Nat) (s0 s1:Sl):OV:=
 (oo (pu 97 [Sl.v 1 s0,Sl.v 1 s1]) none fun v0=>(oo (vBool v0) none fun b0=>(bb (nt b0) (oo (pu 97 [Sl.v 1 s1,Sl.v 1 s0]) none fun v1=>(oo (vBool v1) none fun b1=>(m72_0 pu n (nt b1)))) (m72_0 pu n false))))
def m72 (pu:PureF) (n:Nat) (args:LV):OV:=
 (ll args none fun a0 args=>(ll args none fun a1 args=>(ll args (oo (toSl 1 a0) none fun s0=>(oo (toSl 1 a1) none fun s1=>(m72_ pu n s0 s1))) fun _ _=>none)))
theorem w72_0 (pu:PureF) (n:Nat) (b0:Bool) {v:Value} (hm:m72_0 pu n b0=some v):Run tt (callP tabs isP pu (inl pu)) 0 .ret (fr 15 [(4,zB b0)]) (hp 0 []) (Fin tt 0 [.tmp 4] v):=by
 unfold m72_0 at hm
 refine .ret ?_
 exact fin_rt (zB b0) hm
theorem r72 {call:CallF} (pu:PureF) (n:Nat) (hcall:call=callP tabs isP pu (inl pu)) {args:LV} {v:Value} (hm:m72 pu n args=some v) (_:∀ x∈args,closed2 x=true):args.length≤15∧Run tt call 0 c72_3 (Fr.made 15 args) (pureHeap tabs) (Fin tt 0 [.tmp 4] v):=by
 subst hcall
 unfold m72 at hm
 replace hm:=ll_uncons hm;obtain⟨a0,args_0,rfl,hm⟩:=hm
 replace hm:=ll_uncons hm;obtain⟨a1,args_1,rfl,hm⟩:=hm
 replace hm:=ll_end hm;obtain⟨rfl,hm⟩:=hm
 replace hm:=inv_toSl hm;obtain⟨s0,rfl,hm⟩:=hm
 replace hm:=inv_toSl hm;obtain⟨s1,rfl,hm⟩:=hm
 unfold m72_ at hm
 refine⟨by simp,?_⟩
 refine .same (F':=(fr 15 [(0,Sl.v 1 s0),(1,Sl.v 1 s1)])) (H':=(hp 0 [])) (by kernel_rfl) (by kernel_rfl) ?_
 refine .then (.rK (.ghs (fr 15 [(0,Sl.v 1 s0),(1,Sl.v 1 s1)]) (hp 0 []) (.k0 [] [] [0,1]) ?_))
 refine .join (v:=v) (fun y:Bool=>((fr 15 [(4,zB y)]),(hp 0 []))) (fun y=>m72_0 pu n y) ?_ ?_
 ·rintro b0 hm
  exact w72_0 pu n b0 hm
 ·replace hm:=oQB hm;obtain⟨b1,h0,hm⟩:=hm
  replace hm:=bb_cases hm;rcases hm with⟨h1,hm⟩ | ⟨h1,hm⟩
  ·replace hm:=oQB hm;obtain⟨b2,h2,hm⟩:=hm
   refine .reg (eC 2 ((oo (pu 97 [Sl.v 1 s0,Sl.v 1 s1]) none fun v=>some (v,(hp 0 [])))) (call_eq h0) (eD (some ((zB (nt b1)),(hp 0 []))) (show _=some ((zB true),_) from (by rw[show (nt b1)=true from h1])) (eC 3 ((oo (pu 97 [Sl.v 1 s1,Sl.v 1 s0]) none fun v=>some (v,(hp 0 [])))) (call_eq h2) (eE)))) ?_
   exact⟨(nt b2),hm,(.k0 [] [] [4])⟩
  ·refine .reg (eC 2 ((oo (pu 97 [Sl.v 1 s0,Sl.v 1 s1]) none fun v=>some (v,(hp 0 [])))) (call_eq h0) (eD (some ((zB (nt b1)),(hp 0 []))) (show _=some ((zB false),_) from (by rw[show (nt b1)=false from h1])) (eE))) ?_
   exact⟨false,hm,(.k0 [] [] [4])⟩
def m73_0 (pu:PureF) (n:Nat) (b0:Bool):OV:=
 (some (.bool b0))
def m73_ (pu:PureF) (n:Nat) (x0 x1 x2:Int):OV:=
 (bb (nt (ilt x0 x1)) (m73_0 pu n (nt (ilt x2 x0))) (m73_0 pu n false))
def m73 (pu:PureF) (n:Nat) (args:LV):OV:=
 (ll args none fun a0 args=>(ll args none fun a1 args=>(ll args none fun a2 args=>(ll args (oo (toI .i64 a0) none fun x0=>(oo (toI .i64 a1) none fun x1=>(oo (toI .i64 a2) none fun x2=>(m73_ pu n x0 x1 x2)))) fun _ _=>none))))
theorem w73_0 (pu:PureF) (n:Nat) (b0:Bool) {v:Value} (hm:m73_0 pu n b0=some v):Run tt (callP tabs isP pu (inl pu)) 0 .ret (fr 15 [(6,zB b0)]) (hp 0 []) (Fin tt 0 [.tmp 6] v):=by
 unfold m73_0 at hm
 refine .ret ?_
 exact fin_rt (zB b0) hm
theorem r73 {call:CallF} (pu:PureF) (n:Nat) (hcall:call=callP tabs isP pu (inl pu)) {args:LV} {v:Value} (hm:m73 pu n args=some v) (_:∀ x∈args,closed2 x=true):args.length≤15∧Run tt call 0 c73_3 (Fr.made 15 args) (pureHeap tabs) (Fin tt 0 [.tmp 6] v):=by
 subst hcall
 unfold m73 at hm
 replace hm:=ll_uncons hm;obtain⟨a0,args_0,rfl,hm⟩:=hm
 replace hm:=ll_uncons hm;obtain⟨a1,args_1,rfl,hm⟩:=hm
 replace hm:=ll_uncons hm;obtain⟨a2,args_2,rfl,hm⟩:=hm
 replace hm:=ll_end hm;obtain⟨rfl,hm⟩:=hm
 replace hm:=inv_toI hm;obtain⟨x0,rfl,hm⟩:=hm
 replace hm:=inv_toI hm;obtain⟨x1,rfl,hm⟩:=hm
 replace hm:=inv_toI hm;obtain⟨x2,rfl,hm⟩:=hm
 unfold m73_ at hm
 refine⟨by simp,?_⟩
 refine .same (F':=(fr 15 [(0,zI x0),(1,zI x1),(2,zI x2)])) (H':=(hp 0 [])) (by kernel_rfl) (by kernel_rfl) ?_
 refine .then (.rK (.ghs (fr 15 [(0,zI x0),(1,zI x1),(2,zI x2)]) (hp 0 []) (.k0 [] [] [0,1,2]) ?_))
 refine .join (v:=v) (fun y:Bool=>((fr 15 [(6,zB y)]),(hp 0 []))) (fun y=>m73_0 pu n y) ?_ ?_
 ·rintro b0 hm
  exact w73_0 pu n b0 hm
 ·replace hm:=bb_cases hm;rcases hm with⟨h0,hm⟩ | ⟨h0,hm⟩
  ·refine .reg (eC 2 (some ((zB (nt (ilt x0 x1))),(hp 0 []))) (show _=some ((zB true),_) from (by rw[show (nt (ilt x0 x1))=true from h0])) (eE)) ?_
   exact⟨(nt (ilt x2 x0)),hm,(.k0 [] [] [6])⟩
  ·refine .reg (eC 2 (some ((zB (nt (ilt x0 x1))),(hp 0 []))) (show _=some ((zB false),_) from (by rw[show (nt (ilt x0 x1))=false from h0])) (eE)) ?_
   exact⟨false,hm,(.k0 [] [] [6])⟩
def m75_0 (pu:PureF) (n n0 c0:Nat) (q1:LV):OV:=
 (bb (allL closed1 q1) (bb (an (Nat.ble (0+n0*1) (len q1)) (allL closed1 (takeL (n0*1) (dropL 0 q1)))) (some (Sl.v 1 (Sl.mk n0 0 (takeL (n0*1) (dropL 0 q1))))) none) none)
def m75_2 (pu:PureF) (n:Nat) (ih0:Nat→Nat→Int→Int→Sl→LV→OV) (n0 c0:Nat) (z1 z2:Int) (s0:Sl) (q1:LV):OV:=
 (bb (allL closed1 q1) (ih0 n0 c0 (wrapF .i64 (Int.add z1 (1:Int))) z2 s0 q1) none)
def m75_3 (pu:PureF) (n:Nat) (ih0:Nat→Nat→Int→Int→Sl→LV→OV) (n0 c0:Nat) (z1 z2 z3:Int) (s0:Sl) (q1:LV):OV:=
 (bb (growC 1 8 n0 c0 1 q1) (bb (allL closed1 (appL (dropL 0 q1) [.int .i64 z2])) (m75_2 pu n ih0 (n0+1) (2*(n0+1)+bb false 1 0) z1 z3 s0 (appL (dropL 0 q1) [.int .i64 z2])) none) none)
def m75_5 (pu:PureF) (n:Nat) (ih0:Nat→Nat→Int→Int→Sl→LV→OV) (ih1:Nat→Nat→Int→Int→Int→Int→Sl→LV→OV) (n0 c0:Nat) (z1 z2 z3 z4:Int) (s0:Sl) (q1:LV):OV:=
 (bb (allL closed1 q1) (ih1 n0 c0 z1 z2 (wrapF .i64 (Int.add z3 (1:Int))) z4 s0 q1) none)
def b75_4 (pu:PureF) (n:Nat) (ih0:Nat→Nat→Int→Int→Sl→LV→OV) (ih1:Nat→Nat→Int→Int→Int→Int→Sl→LV→OV) (n0 c0:Nat) (z1 z2 z3 z4:Int) (s0:Sl) (q1:LV):OV:=
 (bb (allL closed1 q1) (bb (ilt z3 (Int.ofNat (Sl.n s0))) (oo (toN z3) none fun k1=>(bb (an (Nat.blt k1 (Sl.n s0)) true) (oo (nthL (Sl.cs s0) (k1*1)) none fun v0=>(oo (toI .i64 v0) none fun x0=>(oo (pu 64 [(.int .i64 (wrapF .i64 (Int.add x0 z1))),.int .i64 z4]) none fun v1=>(oo (toI .i64 v1) none fun x1=>(oo (pu 63 [(.agg ⟨[.int .i64 z4,Sl.v 1 s0]⟩),.int .i64 x1]) none fun v2=>(oo (vBool v2) none fun b0=>(bb b0 (m75_5 pu n ih0 ih1 n0 c0 z1 (wrapF .i64 (Int.add z2 (1:Int))) (Int.ofNat k1) z4 s0 q1) (m75_5 pu n ih0 ih1 n0 c0 z1 z2 (Int.ofNat k1) z4 s0 q1)))))))) none)) (m75_3 pu n ih0 n0 c0 z1 z2 z4 s0 q1)) none)
def l75_4 (pu:PureF) (n:Nat) (ih0:Nat→Nat→Int→Int→Sl→LV→OV) (w:Nat):Nat→Nat→Int→Int→Int→Int→Sl→LV→OV:=
 Nat.rec (motive:=fun _=>Nat→Nat→Int→Int→Int→Int→Sl→LV→OV) (fun _ _ _ _ _ _ _ _=>none) (fun _ ih1=>b75_4 pu n ih0 ih1) w
def b75_1 (pu:PureF) (n:Nat) (ih0:Nat→Nat→Int→Int→Sl→LV→OV) (n0 c0:Nat) (z1 z2:Int) (s0:Sl) (q1:LV):OV:=
 (bb (allL closed1 q1) (bb (ilt z1 z2) (l75_4 pu n ih0 n n0 c0 z1 (0:Int) (0:Int) z2 s0 q1) (m75_0 pu n n0 c0 q1)) none)
def l75_1 (pu:PureF) (n w:Nat):Nat→Nat→Int→Int→Sl→LV→OV:=
 Nat.rec (motive:=fun _=>Nat→Nat→Int→Int→Sl→LV→OV) (fun _ _ _ _ _ _=>none) (fun _ ih0=>b75_1 pu n ih0) w
def m75_ (pu:PureF) (n:Nat) (x0:Int) (s0:Sl):OV:=
 (l75_1 pu n n 0 0 (1:Int) x0 s0 ([]:LV))
def m75 (pu:PureF) (n:Nat) (args:LV):OV:=
 (ll args none fun a0 args=>(ll args (oo (vAgg a0) none fun l0=>(ll l0 none fun v0 l0=>(ll l0 none fun v1 l0=>(ll l0 (oo (toI .i64 v0) none fun x0=>(oo (toSl 1 v1) none fun s0=>(m75_ pu n x0 s0))) fun _ _=>none)))) fun _ _=>none))
theorem w75_0 (pu:PureF) (n n0 c0:Nat) (q1:LV) {v:Value} (hm:m75_0 pu n n0 c0 q1=some v):Run tt (callP tabs isP pu (inl pu)) 0 c75_33 (fr 39 [(3,sc 0 0 1 n0 c0)]) (hp 1 [oC q1]) (Fin tt 0 [.tmp 2] v):=by
 unfold m75_0 at hm
 refine .then (.rK ?_)
 replace hm:=bb_inv hm;obtain⟨h0,hm⟩:=hm
 refine .ghs (fr 39 [(2,sc 0 0 1 n0 c0)]) (hp 1 [oC q1]) (.k [0] [] [.tmp 2 false] [2] ⟨trF h0,trivial⟩) ?_
 replace hm:=bb_inv hm;obtain⟨h1,hm⟩:=hm
 refine .ghs (Fr.puts (fr 39 [(2,sc 0 0 1 n0 c0)]) [(2,(Sl.v 1 (Sl.mk n0 0 (takeL (n0*1) (dropL 0 q1)))))]) (hp 1 [.dead]) (.freezeC 0 2 1 (an (Nat.ble (0+n0*1) (len q1)) (allL closed1 (takeL (n0*1) (dropL 0 q1)))) (F1:=(Fr.puts (fr 39 [(2,sc 0 0 1 n0 c0)]) [(2,(Sl.v 1 (Sl.mk n0 0 (takeL (n0*1) (dropL 0 q1)))))])) (H1:=(hp 1 [.dead])) (by kernel_rfl) (by kernel_rfl) h1 (GhS.id _ _)) ?_
 refine .ret ?_
 exact fin_rt (Sl.v 1 (Sl.mk n0 0 (takeL (n0*1) (dropL 0 q1)))) hm
theorem r75 {call:CallF} (pu:PureF) (n:Nat) (hcall:call=callP tabs isP pu (inl pu)) {args:LV} {v:Value} (hm:m75 pu n args=some v) (_:∀ x∈args,closed2 x=true):args.length≤39∧Run tt call 0 c75_36 (Fr.made 39 args) (pureHeap tabs) (Fin tt 0 [.tmp 2] v):=by
 subst hcall
 unfold m75 at hm
 replace hm:=ll_uncons hm;obtain⟨a0,args_0,rfl,hm⟩:=hm
 replace hm:=ll_end hm;obtain⟨rfl,hm⟩:=hm
 replace hm:=inv_vAgg hm;obtain⟨l0,rfl,hm⟩:=hm
 replace hm:=ll_uncons hm;obtain⟨v0,l21065_0,rfl,hm⟩:=hm
 replace hm:=ll_uncons hm;obtain⟨v1,l21065_1,rfl,hm⟩:=hm
 replace hm:=ll_end hm;obtain⟨rfl,hm⟩:=hm
 replace hm:=inv_toI hm;obtain⟨x0,rfl,hm⟩:=hm
 replace hm:=inv_toSl hm;obtain⟨s0,rfl,hm⟩:=hm
 unfold m75_ at hm
 refine⟨by simp,?_⟩
 refine .same (F':=(fr 39 [(0,(.agg ⟨[zI x0,Sl.v 1 s0]⟩))])) (H':=(hp 0 [])) (by kernel_rfl) (by kernel_rfl) ?_
 refine .then (.rK (.ghs (fr 39 [(1,(pt 0 0))]) (hp 1 [(oC [zI x0,Sl.v 1 s0])]) (.k0 [] [.tmp 1 false] [1]) ?_))
 refine .then (.rK (.ghs (fr 39 [(1,(pt 0 0)),(3,(.slice none 0 0))]) (hp 1 [(oC [zI x0,Sl.v 1 s0])]) (.k0 [] [.tmp 1 false] [1,3]) ?_))
 refine .join (v:=v) (fun y:Nat×Nat×LV=>((fr 39 [(3,(sc 0 0 1 y.1 y.2.1))]),(hp 1 [(oC y.2.2)]))) (fun y=>m75_0 pu n y.1 y.2.1 y.2.2) ?_ ?_
 ·rintro⟨n0,c0,q1⟩ hm
  exact w75_0 pu n n0 c0 q1 hm
 ·refine .then (.rK (.ghs (fr 39 [(1,(pt 0 0)),(3,(.slice none 0 0)),(4,(zI (1:Int)))]) (hp 1 [(oC [zI x0,Sl.v 1 s0])]) (.k0 [] [.tmp 1 false] [1,3,4]) ?_))
  refine .block (.loopM (v:=v) (fun y:Nat×Nat×Int×Int×Sl×LV=>((fr 39 [(1,(pt 0 0)),(3,(sc 1 0 1 y.1 y.2.1)),(4,(zI y.2.2.1))]),(hp 2 [(oC [(zI y.2.2.2.1),(Sl.v 1 y.2.2.2.2.1)]),(oC y.2.2.2.2.2)]))) (fun w y=>l75_1 pu n w y.1 y.2.1 y.2.2.1 y.2.2.2.1 y.2.2.2.2.1 y.2.2.2.2.2) n ⟨(0,0,(1:Int),x0,s0,([]:LV)),hm,(.thaw 3 1 (by kernel_rfl) (.k0 [] [.tmp 1 false,.tmp 3 false] [1,3,4]))⟩ (fun _=>rfl) ?_)
  rintro w0 ⟨n1,c1,z1,z2,s1,q2⟩ hm
  replace hm:b75_1 pu n (l75_1 pu n w0) n1 c1 z1 z2 s1 q2=some v:=hm
  unfold b75_1 at hm
  refine .then (.then (.rK ?_))
  replace hm:=bb_inv hm;obtain⟨h0,hm⟩:=hm
  refine .ghs (fr 39 [(1,(pt 0 0)),(3,sc 1 0 1 n1 c1),(4,zI z1),(10,(zB (ilt z1 z2)))]) (hp 2 [(oC [zI z2,Sl.v 1 s1]),oC q2]) (.k [1] [] [.tmp 1 false,.tmp 3 false] [1,3,4,10] ⟨trF h0,trivial⟩) ?_
  replace hm:=bb_cases hm;rcases hm with⟨h1,hm⟩ | ⟨h1,hm⟩
  ·refine ifTt (ilt z1 z2) h1 ?_
   refine .skip (.ghs (fr 39 [(1,(pt 0 0)),(3,sc 1 0 1 n1 c1),(4,zI z1)]) (hp 2 [(oC [zI z2,Sl.v 1 s1]),oC q2]) (.k [1] [] [.tmp 1 false,.tmp 3 false] [1,3,4] ⟨trF h0,trivial⟩) ?_)
   refine .join (v:=v) (fun y:Nat×Nat×Int×Int×Sl×LV=>((fr 39 [(1,(pt 0 0)),(3,(sc 1 0 1 y.1 y.2.1)),(4,(zI y.2.2.1))]),(hp 2 [(oC [(zI y.2.2.2.1),(Sl.v 1 y.2.2.2.2.1)]),(oC y.2.2.2.2.2)]))) (fun y=>m75_2 pu n (l75_1 pu n w0) y.1 y.2.1 y.2.2.1 y.2.2.2.1 y.2.2.2.2.1 y.2.2.2.2.2) ?_ ?_
   ·rintro⟨n2,c2,z3,z4,s2,q3⟩ hm
    unfold m75_2 at hm
    refine .rK ?_
    replace hm:=bb_inv hm;obtain⟨h2,hm⟩:=hm
    exact⟨(n2,c2,(wrapF .i64 (Int.add z3 (1:Int))),z4,s2,q3),hm,(.k [1] [] [.tmp 1 false,.tmp 3 false] [1,3,4] ⟨trF h2,trivial⟩)⟩
   ·refine .block (.then (.rK (.ghs (fr 39 [(1,(pt 0 0)),(3,sc 1 0 1 n1 c1),(4,zI z1),(5,(zI (0:Int)))]) (hp 2 [(oC [zI z2,Sl.v 1 s1]),oC q2]) (.k [1] [] [.tmp 1 false,.tmp 3 false] [1,3,4,5] ⟨trF h0,trivial⟩) ?_)))
    refine .join (v:=v) (fun y:Nat×Nat×Int×Int×Int×Sl×LV=>((fr 39 [(1,(pt 0 0)),(3,(sc 1 0 1 y.1 y.2.1)),(4,(zI y.2.2.1)),(5,(zI y.2.2.2.1))]),(hp 2 [(oC [(zI y.2.2.2.2.1),(Sl.v 1 y.2.2.2.2.2.1)]),(oC y.2.2.2.2.2.2)]))) (fun y=>m75_3 pu n (l75_1 pu n w0) y.1 y.2.1 y.2.2.1 y.2.2.2.1 y.2.2.2.2.1 y.2.2.2.2.2.1 y.2.2.2.2.2.2) ?_ ?_
    ·rintro⟨n3,c3,z5,z6,z7,s3,q4⟩ hm
     unfold m75_3 at hm
     replace hm:=bb_inv hm;obtain⟨h3,hm⟩:=hm
     refine .reg (eC 3 (growD 1 8 n3 c3 1 1 q4 [zI z6] [] (hp 3 [(oC [zI z7,Sl.v 1 s3]),oC q4,(oC [zI z6])])) (growD_eq h3) (eE)) ?_
     replace hm:=bb_inv hm;obtain⟨h4,hm⟩:=hm
     exact⟨((n3+1),(d2 (n3+1)),z5,z7,s3,(appL (dropL 0 q4) [zI z6])),hm,(.k [3] [] [.tmp 1 false,.tmp 3 false] [1,3,4] ⟨trF h4,trivial⟩)⟩
    ·refine .then (.rK (.ghs (fr 39 [(1,(pt 0 0)),(3,sc 1 0 1 n1 c1),(4,zI z1),(5,(zI (0:Int))),(6,(zI (0:Int)))]) (hp 2 [(oC [zI z2,Sl.v 1 s1]),oC q2]) (.k [1] [] [.tmp 1 false,.tmp 3 false] [1,3,4,5,6] ⟨trF h0,trivial⟩) ?_))
     refine .block (.loopM (v:=v) (fun y:Nat×Nat×Int×Int×Int×Int×Sl×LV=>((fr 39 [(1,(pt 0 0)),(3,(sc 1 0 1 y.1 y.2.1)),(4,(zI y.2.2.1)),(5,(zI y.2.2.2.1)),(6,(zI y.2.2.2.2.1))]),(hp 2 [(oC [(zI y.2.2.2.2.2.1),(Sl.v 1 y.2.2.2.2.2.2.1)]),(oC y.2.2.2.2.2.2.2)]))) (fun w y=>l75_4 pu n (l75_1 pu n w0) w y.1 y.2.1 y.2.2.1 y.2.2.2.1 y.2.2.2.2.1 y.2.2.2.2.2.1 y.2.2.2.2.2.2.1 y.2.2.2.2.2.2.2) n ⟨(n1,c1,z1,(0:Int),(0:Int),z2,s1,q2),hm,(.k [1] [] [.tmp 1 false,.tmp 3 false] [1,3,4,5,6] ⟨trF h0,trivial⟩)⟩ (fun _=>rfl) ?_)
     rintro w1 ⟨n4,c4,z8,z9,z10,z11,s4,q5⟩ hm
     replace hm:b75_4 pu n (l75_1 pu n w0) (l75_4 pu n (l75_1 pu n w0) w1) n4 c4 z8 z9 z10 z11 s4 q5=some v:=hm
     unfold b75_4 at hm
     refine .then (.then (.rK ?_))
     replace hm:=bb_inv hm;obtain⟨h5,hm⟩:=hm
     refine .ghs (fr 39 [(1,(pt 0 0)),(3,sc 1 0 1 n4 c4),(4,zI z8),(5,zI z9),(6,zI z10),(17,(zB (ilt z10 (Int.ofNat (Sl.n s4)))))]) (hp 2 [(oC [zI z11,Sl.v 1 s4]),oC q5]) (.k [1] [] [.tmp 1 false,.tmp 3 false] [1,3,4,5,6,17] ⟨trF h5,trivial⟩) ?_
     replace hm:=bb_cases hm;rcases hm with⟨h6,hm⟩ | ⟨h6,hm⟩
     ·refine ifTt (ilt z10 (Int.ofNat (Sl.n s4))) h6 ?_
      refine .skip (.ghs (fr 39 [(1,(pt 0 0)),(3,sc 1 0 1 n4 c4),(4,zI z8),(5,zI z9),(6,zI z10)]) (hp 2 [(oC [zI z11,Sl.v 1 s4]),oC q5]) (.k [1] [] [.tmp 1 false,.tmp 3 false] [1,3,4,5,6] ⟨trF h5,trivial⟩) ?_)
      refine .join (v:=v) (fun y:Nat×Nat×Int×Int×Int×Int×Sl×LV=>((fr 39 [(1,(pt 0 0)),(3,(sc 1 0 1 y.1 y.2.1)),(4,(zI y.2.2.1)),(5,(zI y.2.2.2.1)),(6,(zI y.2.2.2.2.1))]),(hp 2 [(oC [(zI y.2.2.2.2.2.1),(Sl.v 1 y.2.2.2.2.2.2.1)]),(oC y.2.2.2.2.2.2.2)]))) (fun y=>m75_5 pu n (l75_1 pu n w0) (l75_4 pu n (l75_1 pu n w0) w1) y.1 y.2.1 y.2.2.1 y.2.2.2.1 y.2.2.2.2.1 y.2.2.2.2.2.1 y.2.2.2.2.2.2.1 y.2.2.2.2.2.2.2) ?_ ?_
      ·rintro⟨n5,c6,z12,z13,z14,z15,s5,q6⟩ hm
       unfold m75_5 at hm
       refine .rK ?_
       replace hm:=bb_inv hm;obtain⟨h7,hm⟩:=hm
       exact⟨(n5,c6,z12,z13,(wrapF .i64 (Int.add z14 (1:Int))),z15,s5,q6),hm,(.k [1] [] [.tmp 1 false,.tmp 3 false] [1,3,4,5,6] ⟨trF h7,trivial⟩)⟩
      ·refine .block (.then ?_)
       replace hm:=oo_inv hm;obtain⟨k1,h8,hm⟩:=hm
       obtain rfl:=toN_some h8
       replace hm:=bb_inv hm;obtain⟨h9,hm⟩:=hm
       replace hm:=oQI hm;obtain⟨x1,h10,hm⟩:=hm
       replace hm:=oQI hm;obtain⟨x2,h11,hm⟩:=hm
       replace hm:=oQB hm;obtain⟨b0,h12,hm⟩:=hm
       refine .reg (eC 4 (keep (hp 2 [(oC [zI z11,Sl.v 1 s4]),oC q5]) (bb (an (Nat.blt k1 (Sl.n s4)) true) (some (fpV (k1*1) (Sl.cs s4))) none)) (keep_bb h9) (eD (keep (hp 2 [(oC [zI z11,Sl.v 1 s4]),oC q5]) (nthL (Sl.cs s4) (k1*1))) (keep_eq h10) (eC 4 ((oo (pu 64 [(zI (wrapF .i64 (Int.add x1 z8))),zI z11]) none fun v=>some (v,(hp 2 [(oC [zI z11,Sl.v 1 s4]),oC q5])))) (call_eq h11) (eD ((oo (pu 63 [(.agg ⟨[zI z11,Sl.v 1 s4]⟩),zI x2]) none fun v=>some (v,(hp 2 [(oC [zI z11,Sl.v 1 s4]),oC q5])))) (call_eq h12) (eE))))) ?_
       refine .ghs (fr 39 [(1,(pt 0 0)),(3,sc 1 0 1 n4 c4),(4,zI z8),(5,zI z9),(6,(zI (Int.ofNat k1))),(31,zB b0)]) (hp 2 [(oC [zI z11,Sl.v 1 s4]),oC q5]) (.k [1] [] [.tmp 1 false,.tmp 3 false] [1,3,4,5,6,31] ⟨trF h5,trivial⟩) ?_
       replace hm:=bb_cases hm;rcases hm with⟨h13,hm⟩ | ⟨h13,hm⟩
       ·refine .ifT b0 (by kernel_rfl) h13 ?_
        refine .rK ?_
        exact⟨(n4,c4,z8,(wrapF .i64 (Int.add z9 (1:Int))),(Int.ofNat k1),z11,s4,q5),hm,(.k [1] [] [.tmp 1 false,.tmp 3 false] [1,3,4,5,6] ⟨trF h5,trivial⟩)⟩
       ·refine .ifF b0 (by kernel_rfl) h13 ?_
        refine .skip ?_
        exact⟨(n4,c4,z8,z9,(Int.ofNat k1),z11,s4,q5),hm,(.k [1] [] [.tmp 1 false,.tmp 3 false] [1,3,4,5,6] ⟨trF h5,trivial⟩)⟩
     ·refine ifFt (ilt z10 (Int.ofNat (Sl.n s4))) h6 ?_
      refine .exit ?_
      exact⟨(n4,c4,z8,z9,z11,s4,q5),hm,(.k [1] [] [.tmp 1 false,.tmp 3 false] [1,3,4,5] ⟨trF h5,trivial⟩)⟩
  ·refine ifFt (ilt z1 z2) h1 ?_
   refine .exit ?_
   exact⟨(n1,c1,q2),hm,(.k [1] [] [.tmp 3 false] [3] ⟨trF h0,trivial⟩)⟩
def m79_0 (pu:PureF) (n:Nat):OV:=
 (some (.bool true))
def b79_1 (pu:PureF) (n:Nat) (ih0:Sl→Int→OV) (s0:Sl) (z1:Int):OV:=
 (bb (ilt z1 (Int.ofNat (Sl.n s0))) (oo (toN z1) none fun k1=>(bb (an (Nat.blt k1 (Sl.n s0)) true) (oo (nthL (Sl.cs s0) (k1*1)) none fun v0=>(oo (toI .i64 v0) none fun x0=>(bb (nt (ieq x0 (1:Int))) (some (.bool false)) (ih0 s0 (wrapF .i64 (Int.add (Int.ofNat k1) (1:Int))))))) none)) (m79_0 pu n))
def l79_1 (pu:PureF) (n w:Nat):Sl→Int→OV:=
 Nat.rec (motive:=fun _=>Sl→Int→OV) (fun _ _=>none) (fun _ ih0=>b79_1 pu n ih0) w
def m79_ (pu:PureF) (n:Nat) (x0:Int) (s0:Sl):OV:=
 (oo (pu 75 [(.agg ⟨[.int .i64 x0,Sl.v 1 s0]⟩)]) none fun v0=>(oo (toSl 1 v0) none fun s1=>(l79_1 pu n n s1 (0:Int))))
def m79 (pu:PureF) (n:Nat) (args:LV):OV:=
 (ll args none fun a0 args=>(ll args (oo (vAgg a0) none fun l0=>(ll l0 none fun v0 l0=>(ll l0 none fun v1 l0=>(ll l0 (oo (toI .i64 v0) none fun x0=>(oo (toSl 1 v1) none fun s0=>(m79_ pu n x0 s0))) fun _ _=>none)))) fun _ _=>none))
theorem w79_0 (pu:PureF) (n:Nat) {v:Value} (hm:m79_0 pu n=some v):Run tt (callP tabs isP pu (inl pu)) 0 c79_19 (fr 18 []) (hp 0 []) (Fin tt 0 [.tmp 2] v):=by
 unfold m79_0 at hm
 refine .then (.rK (.ghs (fr 18 [(2,zB true)]) (hp 0 []) (.k0 [] [] [2]) ?_))
 refine .ret ?_
 exact fin_rt (zB true) hm
theorem r79 {call:CallF} (pu:PureF) (n:Nat) (hcall:call=callP tabs isP pu (inl pu)) {args:LV} {v:Value} (hm:m79 pu n args=some v) (_:∀ x∈args,closed2 x=true):args.length≤18∧Run tt call 0 c79_22 (Fr.made 18 args) (pureHeap tabs) (Fin tt 0 [.tmp 2] v):=by
 subst hcall
 unfold m79 at hm
 replace hm:=ll_uncons hm;obtain⟨a0,args_0,rfl,hm⟩:=hm
 replace hm:=ll_end hm;obtain⟨rfl,hm⟩:=hm
 replace hm:=inv_vAgg hm;obtain⟨l0,rfl,hm⟩:=hm
 replace hm:=ll_uncons hm;obtain⟨v0,l24234_0,rfl,hm⟩:=hm
 replace hm:=ll_uncons hm;obtain⟨v1,l24234_1,rfl,hm⟩:=hm
 replace hm:=ll_end hm;obtain⟨rfl,hm⟩:=hm
 replace hm:=inv_toI hm;obtain⟨x0,rfl,hm⟩:=hm
 replace hm:=inv_toSl hm;obtain⟨s0,rfl,hm⟩:=hm
 unfold m79_ at hm
 refine⟨by simp,?_⟩
 refine .same (F':=(fr 18 [(0,(.agg ⟨[zI x0,Sl.v 1 s0]⟩))])) (H':=(hp 0 [])) (by kernel_rfl) (by kernel_rfl) ?_
 refine .then (.rK (.ghs (fr 18 [(1,(pt 0 0))]) (hp 1 [(oC [zI x0,Sl.v 1 s0])]) (.k0 [] [.tmp 1 false] [1]) ?_))
 refine .then ?_
 replace hm:=oQS hm;obtain⟨s1,h0,hm⟩:=hm
 refine .reg (eC 1 ((oo (pu 75 [(.agg ⟨[zI x0,Sl.v 1 s0]⟩)]) none fun v=>some (v,(hp 1 [(oC [zI x0,Sl.v 1 s0])])))) (call_eq h0) (eE)) ?_
 refine .ghs (fr 18 [(3,Sl.v 1 s1)]) (hp 0 []) (.k0 [] [] [3]) ?_
 refine .join (v:=v) (fun y:Unit=>((fr 18 []),(hp 0 []))) (fun y=>m79_0 pu n) ?_ ?_
 ·rintro _ hm
  exact w79_0 pu n hm
 ·refine .then (.rK (.ghs (fr 18 [(3,Sl.v 1 s1),(4,(zI (0:Int)))]) (hp 0 []) (.k0 [] [] [3,4]) ?_))
  refine .block (.loopM (v:=v) (fun y:Sl×Int=>((fr 18 [(3,(Sl.v 1 y.1)),(4,(zI y.2))]),(hp 0 []))) (fun w y=>l79_1 pu n w y.1 y.2) n ⟨(s1,(0:Int)),hm,(.k0 [] [] [3,4])⟩ (fun _=>rfl) ?_)
  rintro w0 ⟨s2,z1⟩ hm
  replace hm:b79_1 pu n (l79_1 pu n w0) s2 z1=some v:=hm
  unfold b79_1 at hm
  refine .then (.then (.rK (.ghs (fr 18 [(3,Sl.v 1 s2),(4,zI z1),(10,(zB (ilt z1 (Int.ofNat (Sl.n s2)))))]) (hp 0 []) (.k0 [] [] [3,4,10]) ?_)))
  replace hm:=bb_cases hm;rcases hm with⟨h1,hm⟩ | ⟨h1,hm⟩
  ·refine ifTt (ilt z1 (Int.ofNat (Sl.n s2))) h1 ?_
   refine .skip (.ghs (fr 18 [(3,Sl.v 1 s2),(4,zI z1)]) (hp 0 []) (.k0 [] [] [3,4]) ?_)
   refine .then (.block (.then ?_))
   replace hm:=oo_inv hm;obtain⟨k1,h2,hm⟩:=hm
   obtain rfl:=toN_some h2
   replace hm:=bb_inv hm;obtain⟨h3,hm⟩:=hm
   replace hm:=oQI hm;obtain⟨x1,h4,hm⟩:=hm
   refine .reg (eC 2 (keep (hp 0 []) (bb (an (Nat.blt k1 (Sl.n s2)) true) (some (fpV (k1*1) (Sl.cs s2))) none)) (keep_bb h3) (eD (keep (hp 0 []) (nthL (Sl.cs s2) (k1*1))) (keep_eq h4) (eE))) ?_
   refine .ghs (fr 18 [(3,Sl.v 1 s2),(4,(zI (Int.ofNat k1))),(17,(zB (nt (ieq x1 (1:Int)))))]) (hp 0 []) (.k0 [] [] [3,4,17]) ?_
   replace hm:=bb_cases hm;rcases hm with⟨h5,hm⟩ | ⟨h5,hm⟩
   ·refine ifTt (nt (ieq x1 (1:Int))) h5 ?_
    refine .then (.rK (.ghs (fr 18 [(2,zB false)]) (hp 0 []) (.k0 [] [] [2]) ?_))
    refine .ret ?_
    exact fin_rt (zB false) hm
   ·refine ifFt (nt (ieq x1 (1:Int))) h5 ?_
    refine .skip (.ghs (fr 18 [(3,Sl.v 1 s2),(4,(zI (Int.ofNat k1)))]) (hp 0 []) (.k0 [] [] [3,4]) ?_)
    refine .rK ?_
    exact⟨(s2,(wrapF .i64 (Int.add (Int.ofNat k1) (1:Int)))),hm,(.k0 [] [] [3,4])⟩
  ·refine ifFt (ilt z1 (Int.ofNat (Sl.n s2))) h1 ?_
   refine .exit ?_
   exact⟨(),hm,(.k0 [] [] [])⟩

def m82_ (pu:PureF) (n:Nat) (x0 x1:Int):OV:=
 (oo (pu 76 [(.agg ⟨[.int .i64 x0,.int .u32 x1]⟩)]) none fun v0=>(oo (toI .i64 v0) none fun x2=>(some (.bool (ieq x2 (0:Int))))))
def m82 (pu:PureF) (n:Nat) (args:LV):OV:=
 (ll args none fun a0 args=>(ll args (oo (vAgg a0) none fun l0=>(ll l0 none fun v0 l0=>(ll l0 none fun v1 l0=>(ll l0 (oo (toI .i64 v0) none fun x0=>(oo (toI .u32 v1) none fun x1=>(m82_ pu n x0 x1))) fun _ _=>none)))) fun _ _=>none))
theorem r82 {call:CallF} (pu:PureF) (n:Nat) (hcall:call=callP tabs isP pu (inl pu)) {args:LV} {v:Value} (hm:m82 pu n args=some v) (_:∀ x∈args,closed2 x=true):args.length≤6∧Run tt call 0 c82_3 (Fr.made 6 args) (pureHeap tabs) (Fin tt 0 [.tmp 2] v):=by
 subst hcall
 unfold m82 at hm
 replace hm:=ll_uncons hm;obtain⟨a0,args_0,rfl,hm⟩:=hm
 replace hm:=ll_end hm;obtain⟨rfl,hm⟩:=hm
 replace hm:=inv_vAgg hm;obtain⟨l0,rfl,hm⟩:=hm
 replace hm:=ll_uncons hm;obtain⟨v0,l24304_0,rfl,hm⟩:=hm
 replace hm:=ll_uncons hm;obtain⟨v1,l24304_1,rfl,hm⟩:=hm
 replace hm:=ll_end hm;obtain⟨rfl,hm⟩:=hm
 replace hm:=inv_toI hm;obtain⟨x0,rfl,hm⟩:=hm
 replace hm:=inv_toI hm;obtain⟨x1,rfl,hm⟩:=hm
 unfold m82_ at hm
 refine⟨by simp,?_⟩
 refine .same (F':=(fr 6 [(0,(.agg ⟨[zI x0,.int .u32 x1]⟩))])) (H':=(hp 0 [])) (by kernel_rfl) (by kernel_rfl) ?_
 refine .then (.rK (.ghs (fr 6 [(1,(pt 0 0))]) (hp 1 [(oC [zI x0,.int .u32 x1])]) (.k0 [] [.tmp 1 false] [1]) ?_))
 refine .then ?_
 replace hm:=oQI hm;obtain⟨x2,h0,hm⟩:=hm
 refine .reg (eC 1 ((oo (pu 76 [(.agg ⟨[zI x0,.int .u32 x1]⟩)]) none fun v=>some (v,(hp 1 [(oC [zI x0,.int .u32 x1])])))) (call_eq h0) (eE)) ?_
 refine .ghs (fr 6 [(2,(zB (ieq x2 (0:Int))))]) (hp 0 []) (.k0 [] [] [2]) ?_
 refine .ret ?_
 exact fin_rt (zB (ieq x2 (0:Int))) hm
def m88_0 (pu:PureF) (n:Nat):OV:=
 (some (.bool true))
def b88_1 (pu:PureF) (n:Nat) (ih0:Sl→Sl→Int→Int→OV) (s0 s1:Sl) (z1 z2:Int):OV:=
 (bb (ilt z2 z1) (oo (toN z2) none fun k1=>(bb (an (Nat.blt k1 (Sl.n s0)) true) (oo (nthL (Sl.cs s0) (k1*1)) none fun v0=>(oo (toI .i64 v0) none fun x0=>(bb (an (Nat.blt k1 (Sl.n s1)) true) (oo (nthL (Sl.cs s1) (k1*1)) none fun v1=>(oo (toI .i64 v1) none fun x1=>(bb (nt (ieq x0 x1)) (some (.bool false)) (ih0 s0 s1 z1 (wrapF .i64 (Int.add (Int.ofNat k1) (1:Int))))))) none))) none)) (m88_0 pu n))
def l88_1 (pu:PureF) (n w:Nat):Sl→Sl→Int→Int→OV:=
 Nat.rec (motive:=fun _=>Sl→Sl→Int→Int→OV) (fun _ _ _ _=>none) (fun _ ih0=>b88_1 pu n ih0) w
def m88_ (pu:PureF) (n:Nat) (s0 s1:Sl):OV:=
 (bb (nt (ieq (Int.ofNat (Sl.n s0)) (Int.ofNat (Sl.n s1)))) (some (.bool false)) (l88_1 pu n n s0 s1 (Int.ofNat (Sl.n s0)) (0:Int)))
def m88 (pu:PureF) (n:Nat) (args:LV):OV:=
 (ll args none fun a0 args=>(ll args none fun a1 args=>(ll args (oo (toSl 1 a0) none fun s0=>(oo (toSl 1 a1) none fun s1=>(m88_ pu n s0 s1))) fun _ _=>none)))
theorem w88_0 (pu:PureF) (n:Nat) {v:Value} (hm:m88_0 pu n=some v):Run tt (callP tabs isP pu (inl pu)) 0 c88_25 (fr 26 []) (hp 0 []) (Fin tt 0 [.tmp 4] v):=by
 unfold m88_0 at hm
 refine .then (.rK (.ghs (fr 26 [(4,zB true)]) (hp 0 []) (.k0 [] [] [4]) ?_))
 refine .ret ?_
 exact fin_rt (zB true) hm
theorem r88 {call:CallF} (pu:PureF) (n:Nat) (hcall:call=callP tabs isP pu (inl pu)) {args:LV} {v:Value} (hm:m88 pu n args=some v) (_:∀ x∈args,closed2 x=true):args.length≤26∧Run tt call 0 c88_28 (Fr.made 26 args) (pureHeap tabs) (Fin tt 0 [.tmp 4] v):=by
 subst hcall
 unfold m88 at hm
 replace hm:=ll_uncons hm;obtain⟨a0,args_0,rfl,hm⟩:=hm
 replace hm:=ll_uncons hm;obtain⟨a1,args_1,rfl,hm⟩:=hm
 replace hm:=ll_end hm;obtain⟨rfl,hm⟩:=hm
 replace hm:=inv_toSl hm;obtain⟨s0,rfl,hm⟩:=hm
 replace hm:=inv_toSl hm;obtain⟨s1,rfl,hm⟩:=hm
 unfold m88_ at hm
 refine⟨by simp,?_⟩
 refine .same (F':=(fr 26 [(0,Sl.v 1 s0),(1,Sl.v 1 s1)])) (H':=(hp 0 [])) (by kernel_rfl) (by kernel_rfl) ?_
 refine .then (.rK (.ghs (fr 26 [(0,Sl.v 1 s0),(1,Sl.v 1 s1)]) (hp 0 []) (.k0 [] [] [0,1]) ?_))
 refine .then (.then (.rK (.ghs (fr 26 [(0,Sl.v 1 s0),(1,Sl.v 1 s1),(10,(zB (nt (ieq (Int.ofNat (Sl.n s0)) (Int.ofNat (Sl.n s1))))))]) (hp 0 []) (.k0 [] [] [0,1,10]) ?_)))
 replace hm:=bb_cases hm;rcases hm with⟨h0,hm⟩ | ⟨h0,hm⟩
 ·refine ifTt (nt (ieq (Int.ofNat (Sl.n s0)) (Int.ofNat (Sl.n s1)))) h0 ?_
  refine .then (.rK (.ghs (fr 26 [(4,zB false)]) (hp 0 []) (.k0 [] [] [4]) ?_))
  refine .ret ?_
  exact fin_rt (zB false) hm
 ·refine ifFt (nt (ieq (Int.ofNat (Sl.n s0)) (Int.ofNat (Sl.n s1)))) h0 ?_
  refine .skip (.ghs (fr 26 [(0,Sl.v 1 s0),(1,Sl.v 1 s1)]) (hp 0 []) (.k0 [] [] [0,1]) ?_)
  refine .join (v:=v) (fun y:Unit=>((fr 26 []),(hp 0 []))) (fun y=>m88_0 pu n) ?_ ?_
  ·rintro _ hm
   exact w88_0 pu n hm
  ·refine .then (.rK (.ghs (fr 26 [(0,Sl.v 1 s0),(1,Sl.v 1 s1),(12,(zI (Int.ofNat (Sl.n s0)))),(13,(zI (0:Int)))]) (hp 0 []) (.k0 [] [] [0,1,12,13]) ?_))
   refine .block (.loopM (v:=v) (fun y:Sl×Sl×Int×Int=>((fr 26 [(0,(Sl.v 1 y.1)),(1,(Sl.v 1 y.2.1)),(12,(zI y.2.2.1)),(13,(zI y.2.2.2))]),(hp 0 []))) (fun w y=>l88_1 pu n w y.1 y.2.1 y.2.2.1 y.2.2.2) n ⟨(s0,s1,(Int.ofNat (Sl.n s0)),(0:Int)),hm,(.k0 [] [] [0,1,12,13])⟩ (fun _=>rfl) ?_)
   rintro w0 ⟨s2,s3,z1,z2⟩ hm
   replace hm:b88_1 pu n (l88_1 pu n w0) s2 s3 z1 z2=some v:=hm
   unfold b88_1 at hm
   refine .then (.rK (.ghs (fr 26 [(0,Sl.v 1 s2),(1,Sl.v 1 s3),(12,zI z1),(13,zI z2),(14,(zB (ilt z2 z1)))]) (hp 0 []) (.k0 [] [] [0,1,12,13,14]) ?_))
   refine .then ?_
   replace hm:=bb_cases hm;rcases hm with⟨h1,hm⟩ | ⟨h1,hm⟩
   ·refine ifTt (ilt z2 z1) h1 ?_
    refine .skip (.ghs (fr 26 [(0,Sl.v 1 s2),(1,Sl.v 1 s3),(12,zI z1),(13,zI z2)]) (hp 0 []) (.k0 [] [] [0,1,12,13]) ?_)
    refine .then (.block (.then (.rK (.ghs (fr 26 [(0,Sl.v 1 s2),(1,Sl.v 1 s3),(5,zI z2),(12,zI z1),(13,zI z2)]) (hp 0 []) (.k0 [] [] [0,1,5,12,13]) ?_))))
    refine .then ?_
    replace hm:=oo_inv hm;obtain⟨k1,h2,hm⟩:=hm
    obtain rfl:=toN_some h2
    replace hm:=bb_inv hm;obtain⟨h3,hm⟩:=hm
    replace hm:=oQI hm;obtain⟨x0,h4,hm⟩:=hm
    replace hm:=bb_inv hm;obtain⟨h5,hm⟩:=hm
    replace hm:=oQI hm;obtain⟨x1,h6,hm⟩:=hm
    refine .reg (eC 2 (keep (hp 0 []) (bb (an (Nat.blt k1 (Sl.n s2)) true) (some (fpV (k1*1) (Sl.cs s2))) none)) (keep_bb h3) (eD (keep (hp 0 []) (nthL (Sl.cs s2) (k1*1))) (keep_eq h4) (eC 2 (keep (hp 0 []) (bb (an (Nat.blt k1 (Sl.n s3)) true) (some (fpV (k1*1) (Sl.cs s3))) none)) (keep_bb h5) (eD (keep (hp 0 []) (nthL (Sl.cs s3) (k1*1))) (keep_eq h6) (eE))))) ?_
    refine .ghs (fr 26 [(0,Sl.v 1 s2),(1,Sl.v 1 s3),(12,zI z1),(13,(zI (Int.ofNat k1))),(24,(zB (nt (ieq x0 x1))))]) (hp 0 []) (.k0 [] [] [0,1,12,13,24]) ?_
    replace hm:=bb_cases hm;rcases hm with⟨h7,hm⟩ | ⟨h7,hm⟩
    ·refine ifTt (nt (ieq x0 x1)) h7 ?_
     refine .then (.rK (.ghs (fr 26 [(4,zB false)]) (hp 0 []) (.k0 [] [] [4]) ?_))
     refine .ret ?_
     exact fin_rt (zB false) hm
    ·refine ifFt (nt (ieq x0 x1)) h7 ?_
     refine .skip (.ghs (fr 26 [(0,Sl.v 1 s2),(1,Sl.v 1 s3),(12,zI z1),(13,(zI (Int.ofNat k1)))]) (hp 0 []) (.k0 [] [] [0,1,12,13]) ?_)
     refine .rK ?_
     exact⟨(s2,s3,z1,(wrapF .i64 (Int.add (Int.ofNat k1) (1:Int)))),hm,(.k0 [] [] [0,1,12,13])⟩
   ·refine ifFt (ilt z2 z1) h1 ?_
    refine .exit ?_
    exact⟨(),hm,(.k0 [] [] [])⟩

def m92_ (pu:PureF) (n:Nat) (x0 x1:Int):OV:=
 (oo (pu 98 [.int .i64 x0]) none fun v0=>(oo (vBool v0) none fun b0=>(oo (pu 98 [.int .i64 x1]) none fun v1=>(oo (vBool v1) none fun b1=>(bb b0 (bb b1 (some (.int .i64 (0:Int))) (some (.int .i64 (-1:Int)))) (bb b1 (some (.int .i64 (1:Int))) (bb (ilt x0 x1) (some (.int .i64 (-1:Int))) (bb (ilt x1 x0) (some (.int .i64 (1:Int))) (some (.int .i64 (0:Int)))))))))))
def m92 (pu:PureF) (n:Nat) (args:LV):OV:=
 (ll args none fun a0 args=>(ll args none fun a1 args=>(ll args (oo (toI .i64 a0) none fun x0=>(oo (toI .i64 a1) none fun x1=>(m92_ pu n x0 x1))) fun _ _=>none)))
theorem r92 {call:CallF} (pu:PureF) (n:Nat) (hcall:call=callP tabs isP pu (inl pu)) {args:LV} {v:Value} (hm:m92 pu n args=some v) (_:∀ x∈args,closed2 x=true):args.length≤20∧Run tt call 0 c92_37 (Fr.made 20 args) (pureHeap tabs) (Fin tt 0 [.tmp 4] v):=by
 subst hcall
 unfold m92 at hm
 replace hm:=ll_uncons hm;obtain⟨a0,args_0,rfl,hm⟩:=hm
 replace hm:=ll_uncons hm;obtain⟨a1,args_1,rfl,hm⟩:=hm
 replace hm:=ll_end hm;obtain⟨rfl,hm⟩:=hm
 replace hm:=inv_toI hm;obtain⟨x0,rfl,hm⟩:=hm
 replace hm:=inv_toI hm;obtain⟨x1,rfl,hm⟩:=hm
 unfold m92_ at hm
 refine⟨by simp,?_⟩
 refine .same (F':=(fr 20 [(0,zI x0),(1,zI x1)])) (H':=(hp 0 [])) (by kernel_rfl) (by kernel_rfl) ?_
 refine .then (.rK (.ghs (fr 20 [(0,zI x0),(1,zI x1)]) (hp 0 []) (.k0 [] [] [0,1]) ?_))
 refine .then ?_
 replace hm:=oQB hm;obtain⟨b0,h0,hm⟩:=hm
 refine .reg (eC 1 ((oo (pu 98 [zI x0]) none fun v=>some (v,(hp 0 [])))) (call_eq h0) (eE)) ?_
 refine .ghs (fr 20 [(0,zI x0),(1,zI x1),(5,zB b0)]) (hp 0 []) (.k0 [] [] [0,1,5]) ?_
 refine .then ?_
 replace hm:=oQB hm;obtain⟨b1,h1,hm⟩:=hm
 refine .reg (eC 1 ((oo (pu 98 [zI x1]) none fun v=>some (v,(hp 0 [])))) (call_eq h1) (eE)) ?_
 refine .ghs (fr 20 [(0,zI x0),(1,zI x1),(5,zB b0),(6,zB b1)]) (hp 0 []) (.k0 [] [] [0,1,5,6]) ?_
 refine .then (.then (.rK (.ghs (fr 20 [(0,zI x0),(1,zI x1),(6,zB b1),(11,zB b0)]) (hp 0 []) (.k0 [] [] [0,1,6,11]) ?_)))
 replace hm:=bb_cases hm;rcases hm with⟨h2,hm⟩ | ⟨h2,hm⟩
 ·refine .ifT b0 (by kernel_rfl) h2 ?_
  refine .then (.then (.rK (.ghs (fr 20 [(12,zB b1)]) (hp 0 []) (.k0 [] [] [12]) ?_)))
  replace hm:=bb_cases hm;rcases hm with⟨h3,hm⟩ | ⟨h3,hm⟩
  ·refine .ifT b1 (by kernel_rfl) h3 ?_
   refine .then (.rK (.ghs (fr 20 [(4,(zI (0:Int)))]) (hp 0 []) (.k0 [] [] [4]) ?_))
   refine .ret ?_
   exact fin_rt (zI (0:Int)) hm
  ·refine .ifF b1 (by kernel_rfl) h3 ?_
   refine .skip (.ghs (fr 20 []) (hp 0 []) (.k0 [] [] []) ?_)
   refine .then (.rK (.ghs (fr 20 [(4,(zI (-1:Int)))]) (hp 0 []) (.k0 [] [] [4]) ?_))
   refine .ret ?_
   exact fin_rt (zI (-1:Int)) hm
 ·refine .ifF b0 (by kernel_rfl) h2 ?_
  refine .skip (.ghs (fr 20 [(0,zI x0),(1,zI x1),(6,zB b1)]) (hp 0 []) (.k0 [] [] [0,1,6]) ?_)
  refine .then (.then (.rK (.ghs (fr 20 [(0,zI x0),(1,zI x1),(13,zB b1)]) (hp 0 []) (.k0 [] [] [0,1,13]) ?_)))
  replace hm:=bb_cases hm;rcases hm with⟨h4,hm⟩ | ⟨h4,hm⟩
  ·refine .ifT b1 (by kernel_rfl) h4 ?_
   refine .then (.rK (.ghs (fr 20 [(4,(zI (1:Int)))]) (hp 0 []) (.k0 [] [] [4]) ?_))
   refine .ret ?_
   exact fin_rt (zI (1:Int)) hm
  ·refine .ifF b1 (by kernel_rfl) h4 ?_
   refine .skip (.ghs (fr 20 [(0,zI x0),(1,zI x1)]) (hp 0 []) (.k0 [] [] [0,1]) ?_)
   refine .then (.then (.rK (.ghs (fr 20 [(0,zI x0),(1,zI x1),(16,(zB (ilt x0 x1)))]) (hp 0 []) (.k0 [] [] [0,1,16]) ?_)))
   replace hm:=bb_cases hm;rcases hm with⟨h5,hm⟩ | ⟨h5,hm⟩
   ·refine ifTt (ilt x0 x1) h5 ?_
    refine .then (.rK (.ghs (fr 20 [(4,(zI (-1:Int)))]) (hp 0 []) (.k0 [] [] [4]) ?_))
    refine .ret ?_
    exact fin_rt (zI (-1:Int)) hm
   ·refine ifFt (ilt x0 x1) h5 ?_
    refine .skip (.ghs (fr 20 [(0,zI x0),(1,zI x1)]) (hp 0 []) (.k0 [] [] [0,1]) ?_)
    refine .then (.then (.rK (.ghs (fr 20 [(19,(zB (ilt x1 x0)))]) (hp 0 []) (.k0 [] [] [19]) ?_)))
    replace hm:=bb_cases hm;rcases hm with⟨h6,hm⟩ | ⟨h6,hm⟩
    ·refine ifTt (ilt x1 x0) h6 ?_
     refine .then (.rK (.ghs (fr 20 [(4,(zI (1:Int)))]) (hp 0 []) (.k0 [] [] [4]) ?_))
     refine .ret ?_
     exact fin_rt (zI (1:Int)) hm
    ·refine ifFt (ilt x1 x0) h6 ?_
     refine .skip (.ghs (fr 20 []) (hp 0 []) (.k0 [] [] []) ?_)
     refine .then (.rK (.ghs (fr 20 [(4,(zI (0:Int)))]) (hp 0 []) (.k0 [] [] [4]) ?_))
     refine .ret ?_
     exact fin_rt (zI (0:Int)) hm
def m96_0 (pu:PureF) (n:Nat) (z1 z2 z3 z4:Int):OV:=
 (some (.agg ⟨[.int .i64 z3,.int .u32 z4]⟩))
def b96_1 (pu:PureF) (n:Nat) (ih0:Sl→Int→Int→Int→Int→Int→Int→OV) (s0:Sl) (z1 z2 z3 z4 z5 z6:Int):OV:=
 (bb (ilt z2 z1) (oo (toN z2) none fun k1=>(bb (an (Nat.blt k1 (Sl.n s0)) true) (oo (nthL (Sl.cs s0) (k1*1)) none fun v0=>(oo (toI .i64 v0) none fun x0=>(oo (toN x0) none fun k2=>(ih0 s0 z1 (wrapF .i64 (Int.add (Int.ofNat k1) (1:Int))) z3 z4 z5 (aor .u32 z6 (shlI .u32 (1:Int) k2)))))) none)) (m96_0 pu n z3 z4 z5 z6))
def l96_1 (pu:PureF) (n w:Nat):Sl→Int→Int→Int→Int→Int→Int→OV:=
 Nat.rec (motive:=fun _=>Sl→Int→Int→Int→Int→Int→Int→OV) (fun _ _ _ _ _ _ _=>none) (fun _ ih0=>b96_1 pu n ih0) w
def m96_ (pu:PureF) (n:Nat) (x0:Int) (s0:Sl):OV:=
 (l96_1 pu n n s0 (Int.ofNat (Sl.n s0)) (0:Int) (0:Int) (0:Int) x0 (0:Int))
def m96 (pu:PureF) (n:Nat) (args:LV):OV:=
 (ll args none fun a0 args=>(ll args none fun a1 args=>(ll args (oo (toI .i64 a0) none fun x0=>(oo (toSl 1 a1) none fun s0=>(m96_ pu n x0 s0))) fun _ _=>none)))
theorem w96_0 (pu:PureF) (n:Nat) (z1 z2 z3 z4:Int) {v:Value} (hm:m96_0 pu n z1 z2 z3 z4=some v):Run tt (callP tabs isP pu (inl pu)) 0 c96_17 (fr 24 [(4,(pt 0 0)),(5,pt 1 0)]) (hp 2 [(oC [zI z1,.int .u32 z2]),(oC [zI z3,.int .u32 z4])]) (Fin tt 0 [.cell 4 92] v):=by
 unfold m96_0 at hm
 refine .then (.rK (.ghs (fr 24 [(4,(pt 0 0))]) (hp 1 [(oC [zI z3,.int .u32 z4])]) (.k0 [] [.tmp 4 false] [4]) ?_))
 refine .ret ?_
 exact fin_rt (.agg ⟨[zI z3,.int .u32 z4]⟩) hm
theorem r96 {call:CallF} (pu:PureF) (n:Nat) (hcall:call=callP tabs isP pu (inl pu)) {args:LV} {v:Value} (hm:m96 pu n args=some v) (_:∀ x∈args,closed2 x=true):args.length≤24∧Run tt call 0 c96_20 (Fr.made 24 args) (pureHeap tabs) (Fin tt 0 [.cell 4 92] v):=by
 subst hcall
 unfold m96 at hm
 replace hm:=ll_uncons hm;obtain⟨a0,args_0,rfl,hm⟩:=hm
 replace hm:=ll_uncons hm;obtain⟨a1,args_1,rfl,hm⟩:=hm
 replace hm:=ll_end hm;obtain⟨rfl,hm⟩:=hm
 replace hm:=inv_toI hm;obtain⟨x0,rfl,hm⟩:=hm
 replace hm:=inv_toSl hm;obtain⟨s0,rfl,hm⟩:=hm
 unfold m96_ at hm
 refine⟨by simp,?_⟩
 refine .same (F':=(fr 24 [(0,zI x0),(1,Sl.v 1 s0)])) (H':=(hp 0 [])) (by kernel_rfl) (by kernel_rfl) ?_
 refine .then (.rK (.ghs (fr 24 [(0,zI x0),(1,Sl.v 1 s0),(4,(pt 0 0))]) (hp 1 [(oC [(zI (0:Int)),(.int .u32 (0:Int))])]) (.k0 [] [.tmp 4 false] [0,1,4]) ?_))
 refine .then (.rK (.ghs (fr 24 [(1,Sl.v 1 s0),(4,(pt 0 0)),(5,pt 1 0)]) (hp 2 [(oC [(zI (0:Int)),(.int .u32 (0:Int))]),(oC [zI x0,(.int .u32 (0:Int))])]) (.k0 [] [.tmp 4 false,.tmp 5 false] [1,4,5]) ?_))
 refine .join (v:=v) (fun y:Int×Int×Int×Int=>((fr 24 [(4,(pt 0 0)),(5,pt 1 0)]),(hp 2 [(oC [(zI y.1),(.int .u32 y.2.1)]),(oC [(zI y.2.2.1),(.int .u32 y.2.2.2)])]))) (fun y=>m96_0 pu n y.1 y.2.1 y.2.2.1 y.2.2.2) ?_ ?_
 ·rintro⟨z1,z2,z3,z4⟩ hm
  exact w96_0 pu n z1 z2 z3 z4 hm
 ·refine .then (.rK (.ghs (fr 24 [(4,(pt 0 0)),(5,pt 1 0),(10,Sl.v 1 s0),(11,(zI (Int.ofNat (Sl.n s0)))),(12,(zI (0:Int)))]) (hp 2 [(oC [(zI (0:Int)),(.int .u32 (0:Int))]),(oC [zI x0,(.int .u32 (0:Int))])]) (.k0 [] [.tmp 4 false,.tmp 5 false] [4,5,10,11,12]) ?_))
  refine .block (.loopM (v:=v) (fun y:Sl×Int×Int×Int×Int×Int×Int=>((fr 24 [(4,(pt 0 0)),(5,pt 1 0),(10,(Sl.v 1 y.1)),(11,(zI y.2.1)),(12,(zI y.2.2.1))]),(hp 2 [(oC [(zI y.2.2.2.1),(.int .u32 y.2.2.2.2.1)]),(oC [(zI y.2.2.2.2.2.1),(.int .u32 y.2.2.2.2.2.2)])]))) (fun w y=>l96_1 pu n w y.1 y.2.1 y.2.2.1 y.2.2.2.1 y.2.2.2.2.1 y.2.2.2.2.2.1 y.2.2.2.2.2.2) n ⟨(s0,(Int.ofNat (Sl.n s0)),(0:Int),(0:Int),(0:Int),x0,(0:Int)),hm,(.k0 [] [.tmp 4 false,.tmp 5 false] [4,5,10,11,12])⟩ (fun _=>rfl) ?_)
  rintro w0 ⟨s1,z5,z6,z7,z8,z9,z10⟩ hm
  replace hm:b96_1 pu n (l96_1 pu n w0) s1 z5 z6 z7 z8 z9 z10=some v:=hm
  unfold b96_1 at hm
  refine .then (.rK (.ghs (fr 24 [(4,(pt 0 0)),(5,pt 1 0),(10,Sl.v 1 s1),(11,zI z5),(12,zI z6),(13,(zB (ilt z6 z5)))]) (hp 2 [(oC [zI z7,.int .u32 z8]),(oC [zI z9,.int .u32 z10])]) (.k0 [] [.tmp 4 false,.tmp 5 false] [4,5,10,11,12,13]) ?_))
  refine .then ?_
  replace hm:=bb_cases hm;rcases hm with⟨h0,hm⟩ | ⟨h0,hm⟩
  ·refine ifTt (ilt z6 z5) h0 ?_
   refine .skip (.ghs (fr 24 [(4,(pt 0 0)),(5,pt 1 0),(10,Sl.v 1 s1),(11,zI z5),(12,zI z6)]) (hp 2 [(oC [zI z7,.int .u32 z8]),(oC [zI z9,.int .u32 z10])]) (.k0 [] [.tmp 4 false,.tmp 5 false] [4,5,10,11,12]) ?_)
   refine .then (.block (.then ?_))
   replace hm:=oo_inv hm;obtain⟨k1,h1,hm⟩:=hm
   obtain rfl:=toN_some h1
   replace hm:=bb_inv hm;obtain⟨h2,hm⟩:=hm
   replace hm:=oQI hm;obtain⟨x1,h3,hm⟩:=hm
   refine .reg (eD (keep (hp 2 [(oC [zI z7,.int .u32 z8]),(oC [zI z9,.int .u32 z10])]) (bb (an (Nat.blt k1 (Sl.n s1)) true) (some (fpV (k1*1) (Sl.cs s1))) none)) (keep_bb h2) (eD (keep (hp 2 [(oC [zI z7,.int .u32 z8]),(oC [zI z9,.int .u32 z10])]) (nthL (Sl.cs s1) (k1*1))) (keep_eq h3) (eE))) ?_
   refine .ghs (fr 24 [(4,(pt 0 0)),(5,pt 1 0),(7,zI x1),(10,Sl.v 1 s1),(11,zI z5),(12,(zI (Int.ofNat k1)))]) (hp 2 [(oC [zI z7,.int .u32 z8]),(oC [zI z9,.int .u32 z10])]) (.k0 [] [.tmp 4 false,.tmp 5 false] [4,5,7,10,11,12]) ?_
   replace hm:=oo_inv hm;obtain⟨k2,h4,hm⟩:=hm
   obtain rfl:=toN_some h4
   refine .rK (.ghs (fr 24 [(4,(pt 0 0)),(5,pt 1 0),(10,Sl.v 1 s1),(11,zI z5),(12,(zI (Int.ofNat k1)))]) (hp 2 [(oC [zI z7,.int .u32 z8]),(oC [zI z9,(.int .u32 (aor .u32 z10 (shlI .u32 (1:Int) k2)))])]) (.k0 [] [.tmp 4 false,.tmp 5 false] [4,5,10,11,12]) ?_)
   refine .rK ?_
   exact⟨(s1,z5,(wrapF .i64 (Int.add (Int.ofNat k1) (1:Int))),z7,z8,z9,(aor .u32 z10 (shlI .u32 (1:Int) k2))),hm,(.k0 [] [.tmp 4 false,.tmp 5 false] [4,5,10,11,12])⟩
  ·refine ifFt (ilt z6 z5) h0 ?_
   refine .exit ?_
   exact⟨(z7,z8,z9,z10),hm,(.k0 [] [.tmp 4 false,.tmp 5 false] [4,5])⟩
def m97_0 (pu:PureF) (n:Nat) (s0 s1:Sl):OV:=
 (some (.bool (ilt (Int.ofNat (Sl.n s0)) (Int.ofNat (Sl.n s1)))))
def m97_2 (pu:PureF) (n:Nat) (ih0:Sl→Sl→Int→OV) (s0 s1:Sl) (z1:Int) (b0:Bool):OV:=
 (bb b0 (oo (toN z1) none fun k1=>(bb (an (Nat.blt k1 (Sl.n s0)) true) (oo (nthL (Sl.cs s0) (k1*1)) none fun v0=>(oo (toI .i64 v0) none fun x0=>(bb (an (Nat.blt k1 (Sl.n s1)) true) (oo (nthL (Sl.cs s1) (k1*1)) none fun v1=>(oo (toI .i64 v1) none fun x1=>(bb (nt (ieq x0 x1)) (bb (an (Nat.blt k1 (Sl.n s0)) true) (oo (nthL (Sl.cs s0) (k1*1)) none fun v2=>(oo (toI .i64 v2) none fun x2=>(bb (an (Nat.blt k1 (Sl.n s1)) true) (oo (nthL (Sl.cs s1) (k1*1)) none fun v3=>(oo (toI .i64 v3) none fun x3=>(some (.bool (ilt x2 x3))))) none))) none) (ih0 s0 s1 (wrapF .i64 (Int.add (Int.ofNat k1) (1:Int))))))) none))) none)) (m97_0 pu n s0 s1))
def b97_1 (pu:PureF) (n:Nat) (ih0:Sl→Sl→Int→OV) (s0 s1:Sl) (z1:Int):OV:=
 (bb (ilt z1 (Int.ofNat (Sl.n s0))) (m97_2 pu n ih0 s0 s1 z1 (ilt z1 (Int.ofNat (Sl.n s1)))) (m97_2 pu n ih0 s0 s1 z1 false))
def l97_1 (pu:PureF) (n w:Nat):Sl→Sl→Int→OV:=
 Nat.rec (motive:=fun _=>Sl→Sl→Int→OV) (fun _ _ _=>none) (fun _ ih0=>b97_1 pu n ih0) w
def m97_ (pu:PureF) (n:Nat) (s0 s1:Sl):OV:=
 (l97_1 pu n n s0 s1 (0:Int))
def m97 (pu:PureF) (n:Nat) (args:LV):OV:=
 (ll args none fun a0 args=>(ll args none fun a1 args=>(ll args (oo (toSl 1 a0) none fun s0=>(oo (toSl 1 a1) none fun s1=>(m97_ pu n s0 s1))) fun _ _=>none)))
theorem w97_0 (pu:PureF) (n:Nat) (s0 s1:Sl) {v:Value} (hm:m97_0 pu n s0 s1=some v):Run tt (callP tabs isP pu (inl pu)) 0 c97_18 (fr 41 [(0,Sl.v 1 s0),(1,Sl.v 1 s1)]) (hp 0 []) (Fin tt 0 [.tmp 4] v):=by
 unfold m97_0 at hm
 refine .then (.rK (.ghs (fr 41 [(4,(zB (ilt (Int.ofNat (Sl.n s0)) (Int.ofNat (Sl.n s1)))))]) (hp 0 []) (.k0 [] [] [4]) ?_))
 refine .ret ?_
 exact fin_rt (zB (ilt (Int.ofNat (Sl.n s0)) (Int.ofNat (Sl.n s1)))) hm
theorem r97 {call:CallF} (pu:PureF) (n:Nat) (hcall:call=callP tabs isP pu (inl pu)) {args:LV} {v:Value} (hm:m97 pu n args=some v) (_:∀ x∈args,closed2 x=true):args.length≤41∧Run tt call 0 c97_20 (Fr.made 41 args) (pureHeap tabs) (Fin tt 0 [.tmp 4] v):=by
 subst hcall
 unfold m97 at hm
 replace hm:=ll_uncons hm;obtain⟨a0,args_0,rfl,hm⟩:=hm
 replace hm:=ll_uncons hm;obtain⟨a1,args_1,rfl,hm⟩:=hm
 replace hm:=ll_end hm;obtain⟨rfl,hm⟩:=hm
 replace hm:=inv_toSl hm;obtain⟨s0,rfl,hm⟩:=hm
 replace hm:=inv_toSl hm;obtain⟨s1,rfl,hm⟩:=hm
 unfold m97_ at hm
 refine⟨by simp,?_⟩
 refine .same (F':=(fr 41 [(0,Sl.v 1 s0),(1,Sl.v 1 s1)])) (H':=(hp 0 [])) (by kernel_rfl) (by kernel_rfl) ?_
 refine .then (.rK (.ghs (fr 41 [(0,Sl.v 1 s0),(1,Sl.v 1 s1)]) (hp 0 []) (.k0 [] [] [0,1]) ?_))
 refine .join (v:=v) (fun y:Sl×Sl=>((fr 41 [(0,(Sl.v 1 y.1)),(1,(Sl.v 1 y.2))]),(hp 0 []))) (fun y=>m97_0 pu n y.1 y.2) ?_ ?_
 ·rintro⟨s2,s3⟩ hm
  exact w97_0 pu n s2 s3 hm
 ·refine .then (.rK (.ghs (fr 41 [(0,Sl.v 1 s0),(1,Sl.v 1 s1),(5,(zI (0:Int)))]) (hp 0 []) (.k0 [] [] [0,1,5]) ?_))
  refine .block (.loopM (v:=v) (fun y:Sl×Sl×Int=>((fr 41 [(0,(Sl.v 1 y.1)),(1,(Sl.v 1 y.2.1)),(5,(zI y.2.2))]),(hp 0 []))) (fun w y=>l97_1 pu n w y.1 y.2.1 y.2.2) n ⟨(s0,s1,(0:Int)),hm,(.k0 [] [] [0,1,5])⟩ (fun _=>rfl) ?_)
  rintro w0 ⟨s4,s5,z1⟩ hm
  replace hm:b97_1 pu n (l97_1 pu n w0) s4 s5 z1=some v:=hm
  unfold b97_1 at hm
  refine .then (.join (v:=v) (fun y:Sl×Sl×Int×Bool=>((fr 41 [(0,(Sl.v 1 y.1)),(1,(Sl.v 1 y.2.1)),(5,(zI y.2.2.1)),(15,(zB y.2.2.2))]),(hp 0 []))) (fun y=>m97_2 pu n (l97_1 pu n w0) y.1 y.2.1 y.2.2.1 y.2.2.2) ?_ ?_)
  ·rintro⟨s6,s7,z2,b0⟩ hm
   unfold m97_2 at hm
   replace hm:=bb_cases hm;rcases hm with⟨h0,hm⟩ | ⟨h0,hm⟩
   ·refine .ifT b0 (by kernel_rfl) h0 ?_
    refine .skip (.ghs (fr 41 [(0,Sl.v 1 s6),(1,Sl.v 1 s7),(5,zI z2)]) (hp 0 []) (.k0 [] [] [0,1,5]) ?_)
    refine .then (.block (.then ?_))
    replace hm:=oo_inv hm;obtain⟨k1,h1,hm⟩:=hm
    obtain rfl:=toN_some h1
    replace hm:=bb_inv hm;obtain⟨h2,hm⟩:=hm
    replace hm:=oQI hm;obtain⟨x0,h3,hm⟩:=hm
    replace hm:=bb_inv hm;obtain⟨h4,hm⟩:=hm
    replace hm:=oQI hm;obtain⟨x1,h5,hm⟩:=hm
    refine .reg (eC 2 (keep (hp 0 []) (bb (an (Nat.blt k1 (Sl.n s6)) true) (some (fpV (k1*1) (Sl.cs s6))) none)) (keep_bb h2) (eD (keep (hp 0 []) (nthL (Sl.cs s6) (k1*1))) (keep_eq h3) (eC 2 (keep (hp 0 []) (bb (an (Nat.blt k1 (Sl.n s7)) true) (some (fpV (k1*1) (Sl.cs s7))) none)) (keep_bb h4) (eD (keep (hp 0 []) (nthL (Sl.cs s7) (k1*1))) (keep_eq h5) (eE))))) ?_
    refine .ghs (fr 41 [(0,Sl.v 1 s6),(1,Sl.v 1 s7),(5,(zI (Int.ofNat k1))),(26,(zB (nt (ieq x0 x1))))]) (hp 0 []) (.k0 [] [] [0,1,5,26]) ?_
    replace hm:=bb_cases hm;rcases hm with⟨h6,hm⟩ | ⟨h6,hm⟩
    ·refine ifTt (nt (ieq x0 x1)) h6 ?_
     refine .then ?_
     replace hm:=bb_inv hm;obtain⟨h7,hm⟩:=hm
     replace hm:=oQI hm;obtain⟨x2,h8,hm⟩:=hm
     replace hm:=bb_inv hm;obtain⟨h9,hm⟩:=hm
     replace hm:=oQI hm;obtain⟨x3,h10,hm⟩:=hm
     refine .reg (eC 2 (keep (hp 0 []) (bb (an (Nat.blt k1 (Sl.n s6)) true) (some (fpV (k1*1) (Sl.cs s6))) none)) (keep_bb h7) (eD (keep (hp 0 []) (nthL (Sl.cs s6) (k1*1))) (keep_eq h8) (eC 2 (keep (hp 0 []) (bb (an (Nat.blt k1 (Sl.n s7)) true) (some (fpV (k1*1) (Sl.cs s7))) none)) (keep_bb h9) (eD (keep (hp 0 []) (nthL (Sl.cs s7) (k1*1))) (keep_eq h10) (eE))))) ?_
     refine .ghs (fr 41 [(4,(zB (ilt x2 x3)))]) (hp 0 []) (.k0 [] [] [4]) ?_
     refine .ret ?_
     exact fin_rt (zB (ilt x2 x3)) hm
    ·refine ifFt (nt (ieq x0 x1)) h6 ?_
     refine .skip (.ghs (fr 41 [(0,Sl.v 1 s6),(1,Sl.v 1 s7),(5,(zI (Int.ofNat k1)))]) (hp 0 []) (.k0 [] [] [0,1,5]) ?_)
     refine .rK ?_
     exact⟨(s6,s7,(wrapF .i64 (Int.add (Int.ofNat k1) (1:Int)))),hm,(.k0 [] [] [0,1,5])⟩
   ·refine .ifF b0 (by kernel_rfl) h0 ?_
    refine .exit ?_
    exact⟨(s6,s7),hm,(.k0 [] [] [0,1])⟩
  ·replace hm:=bb_cases hm;rcases hm with⟨h11,hm⟩ | ⟨h11,hm⟩
   ·refine .reg (eC 3 (some ((zB (ilt z1 (Int.ofNat (Sl.n s4)))),(hp 0 []))) (show _=some ((zB true),_) from (by rw[show (ilt z1 (Int.ofNat (Sl.n s4)))=true from h11])) (eE)) ?_
    exact⟨(s4,s5,z1,(ilt z1 (Int.ofNat (Sl.n s5)))),hm,(.k0 [] [] [0,1,5,15])⟩
   ·refine .reg (eC 3 (some ((zB (ilt z1 (Int.ofNat (Sl.n s4)))),(hp 0 []))) (show _=some ((zB false),_) from (by rw[show (ilt z1 (Int.ofNat (Sl.n s4)))=false from h11])) (eE)) ?_
    exact⟨(s4,s5,z1,false),hm,(.k0 [] [] [0,1,5,15])⟩
end
end Go.RgHM
