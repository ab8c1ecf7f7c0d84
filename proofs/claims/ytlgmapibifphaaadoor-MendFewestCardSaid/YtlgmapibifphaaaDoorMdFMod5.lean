/- Made from wip. -/
import Derived.Test.YtlgmapibifphaaaDoorMdFMod0x

set_option maxRecDepth 100000
set_option maxHeartbeats 20000000
set_option linter.unusedVariables false
namespace Go.MdFM
open Go.Sp Go.MdF
noncomputable section

def m72_ (pu:PureF) (n:Nat) (s0:Sl):OV:=
 (bb (orr (nt (Nat.beq (Sl.fl s0) 2)) (Nat.beq (Sl.n s0) 0)) (some (Sl.v 1 (clipS 1 s0))) none)
def m72 (pu:PureF) (n:Nat) (args:LV):OV:=
 (ll args none fun a0 args=>(ll args (oo (toSl 1 a0) none fun s0=>(m72_ pu n s0)) fun _ _=>none))
theorem r72 {call:CallF} (pu:PureF) (n:Nat) (hcall:call = callP tabs isP pu (inl pu)) {args:LV} {v:Value} (hm:m72 pu n args = some v) (_:∀ x ∈ args,closed2 x = true):args.length≤9∧Run tt call 1 c72_3 (Fr.made 9 args) (pureHeap tabs) (Fin tt 1 [.tmp 2] v):=by
 subst hcall
 unfold m72 at hm
 replace hm:=ll_uncons hm;obtain ⟨a0,args_0,rfl,hm⟩:=hm
 replace hm:=ll_end hm;obtain ⟨rfl,hm⟩:=hm
 replace hm:=inv_toSl hm;obtain ⟨s0,rfl,hm⟩:=hm
 unfold m72_ at hm
 refine ⟨by simp,?_⟩
 refine .same (F':=(fr 9 [(0,Sl.v 1 s0)])) (H':=(hp 1 [(oT tab0)])) (by kernel_rfl) (by kernel_rfl) ?_
 refine .then (.rK ?_)
 refine .ghs (fr 9 [(0,Sl.v 1 s0)]) (hp 1 [(oT tab0)]) (.k0 [false] [] [0]) ?_
 refine .then ?_
 replace hm:=bb_inv hm;obtain ⟨h0,hm⟩:=hm
 refine .reg (eC 5 (clipD (hp 1 [(oT tab0)]) ti3 1 s0) (clip_eq h0) (eE)) ?_
 refine .ghs (fr 9 [(2,(Sl.v 1 (clipS 1 s0)))]) (hp 1 [(oT tab0)]) (.k0 [false] [] [2]) ?_
 refine .ret ?_
 exact fin_ret (Sl.v 1 (clipS 1 s0)) (by kernel_rfl) (by kernel_rfl) hm
def m73_0 (pu:PureF) (n n0 c0:Nat) (q0:LV):OV:=
 (bb (allL closed1 q0) (bb (an (Nat.ble (0 + n0 * 1) (len q0)) (allL closed1 (takeL (n0 * 1) (dropL 0 q0)))) (some (Sl.v 1 (Sl.mk n0 0 (takeL (n0 * 1) (dropL 0 q0))))) none) none)
def m73_2 (pu:PureF) (n:Nat) (ih0:Sl→Sl→Nat→Nat→Nat→Nat→Int→LV→LV→OV) (s0 s1:Sl) (n0 c0 n1 c1:Nat) (z0:Int) (q0:LV) (q1:LV):OV:=
 (bb (allL closed1 q0) (bb (allL closed1 q1) (ih0 s0 s1 n0 c0 n1 c1 (wrapF .i64 (Int.add z0 (1:Int))) q0 q1) none) none)
def m73_3 (pu:PureF) (n:Nat) (ih0:Sl→Sl→Nat→Nat→Nat→Nat→Int→LV→LV→OV) (s0 s1:Sl) (n0 c0 n1 c1:Nat) (z0:Int) (n2 c2:Nat) (q0:LV) (q1:LV) (q2:LV):OV:=
 (bb (an (Nat.ble (0 + n2 * 1) (len q2)) (allL closed1 (takeL (n2 * 1) (dropL 0 q2)))) (bb (growC 1 24 n0 c0 1 q0) (bb (allL closed1 (appL (dropL 0 q0) [(Sl.v 1 (Sl.mk n2 0 (takeL (n2 * 1) (dropL 0 q2))))])) (bb (allL closed1 q1) (bb (Nat.beq (Sl.n (Sl.mk n2 0 (takeL (n2 * 1) (dropL 0 q2)))) 0) (m73_2 pu n ih0 s0 s1 (n0 + 1) (2 * (n0 + 1) + bb false 1 0) n1 c1 z0 (appL (dropL 0 q0) [(Sl.v 1 (Sl.mk n2 0 (takeL (n2 * 1) (dropL 0 q2))))]) q1) (bb (an (allL scalarB (takeL ((Sl.n (Sl.mk n2 0 (takeL (n2 * 1) (dropL 0 q2)))) * 1) (Sl.cs (Sl.mk n2 0 (takeL (n2 * 1) (dropL 0 q2)))))) (growC 1 8 n1 c1 (Sl.n (Sl.mk n2 0 (takeL (n2 * 1) (dropL 0 q2)))) q1)) (bb (allL closed1 (appL (dropL 0 q1) (takeL ((Sl.n (Sl.mk n2 0 (takeL (n2 * 1) (dropL 0 q2)))) * 1) (Sl.cs (Sl.mk n2 0 (takeL (n2 * 1) (dropL 0 q2))))))) (m73_2 pu n ih0 s0 s1 (n0 + 1) (2 * (n0 + 1) + bb false 1 0) (n1 + (Sl.n (Sl.mk n2 0 (takeL (n2 * 1) (dropL 0 q2))))) (2 * (n1 + (Sl.n (Sl.mk n2 0 (takeL (n2 * 1) (dropL 0 q2))))) + bb false 1 0) z0 (appL (dropL 0 q0) [(Sl.v 1 (Sl.mk n2 0 (takeL (n2 * 1) (dropL 0 q2))))]) (appL (dropL 0 q1) (takeL ((Sl.n (Sl.mk n2 0 (takeL (n2 * 1) (dropL 0 q2)))) * 1) (Sl.cs (Sl.mk n2 0 (takeL (n2 * 1) (dropL 0 q2))))))) none) none)) none) none) none) none)
def m73_5 (pu:PureF) (n:Nat) (ih0:Sl→Sl→Nat→Nat→Nat→Nat→Int→LV→LV→OV) (ih1:Sl→Sl→Nat→Nat→Nat→Nat→Int→Nat→Nat→Int→LV→LV→LV→OV) (s0 s1:Sl) (n0 c0 n1 c1:Nat) (z0:Int) (n2 c2:Nat) (z1:Int) (q0:LV) (q1:LV) (q2:LV):OV:=
 (oo (toN z1) none fun k1=>(bb (an (Nat.blt k1 (Sl.n s1)) true) (oo (nthL (Sl.cs s1) (k1 * 1)) none fun v0=>(oo (toI .i64 v0) none fun x0=>(bb (allL closed1 q0) (bb (allL closed1 q1) (bb (allL closed1 q2) (ih1 s0 s1 n0 c0 n1 c1 z0 n2 c2 x0 q0 q1 q2) none) none) none))) none))
def b73_6 (pu:PureF) (n:Nat) (ih0:Sl→Sl→Nat→Nat→Nat→Nat→Int→LV→LV→OV) (ih1:Sl→Sl→Nat→Nat→Nat→Nat→Int→Nat→Nat→Int→LV→LV→LV→OV) (ih2:Sl→Sl→Nat→Nat→Nat→Nat→Int→Nat→Nat→Int→Int→LV→LV→LV→OV) (s0 s1:Sl) (n0 c0 n1 c1:Nat) (z0:Int) (n2 c2:Nat) (z1 z2:Int) (q0:LV) (q1:LV) (q2:LV):OV:=
 (oo (toN z2) none fun k1=>(bb (an (Nat.blt k1 (Sl.n s0)) true) (oo (nthL (Sl.cs s0) (k1 * 1)) none fun v0=>(oo (toI .i64 v0) none fun x0=>(bb (allL closed1 q0) (bb (allL closed1 q1) (bb (allL closed1 q2) (bb (nt (ieq x0 z1)) (ih2 s0 s1 n0 c0 n1 c1 z0 n2 c2 z1 (wrapF .i64 (Int.add (Int.ofNat k1) (1:Int))) q0 q1 q2) (m73_5 pu n ih0 ih1 s0 s1 n0 c0 n1 c1 z0 n2 c2 (Int.ofNat k1) q0 q1 q2)) none) none) none))) none))
def l73_6 (pu:PureF) (n:Nat) (ih0:Sl→Sl→Nat→Nat→Nat→Nat→Int→LV→LV→OV) (ih1:Sl→Sl→Nat→Nat→Nat→Nat→Int→Nat→Nat→Int→LV→LV→LV→OV) (w:Nat):Sl→Sl→Nat→Nat→Nat→Nat→Int→Nat→Nat→Int→Int→LV→LV→LV→OV:=
 Nat.rec (motive:=fun _=>Sl→Sl→Nat→Nat→Nat→Nat→Int→Nat→Nat→Int→Int→LV→LV→LV→OV) (fun _ _ _ _ _ _ _ _ _ _ _ _ _ _=>none) (fun _ ih2=>b73_6 pu n ih0 ih1 ih2) w
def b73_4 (pu:PureF) (n:Nat) (ih0:Sl→Sl→Nat→Nat→Nat→Nat→Int→LV→LV→OV) (ih1:Sl→Sl→Nat→Nat→Nat→Nat→Int→Nat→Nat→Int→LV→LV→LV→OV) (s0 s1:Sl) (n0 c0 n1 c1:Nat) (z0:Int) (n2 c2:Nat) (z1:Int) (q0:LV) (q1:LV) (q2:LV):OV:=
 (bb (orr (Nat.ble 2 c2) (nilL q2)) (bb (allL closed1 q2) (oo (pu 10551 [(.slice (some ⟨1,0,some 1⟩) n2 c2),.int .i64 z1,(.agg ⟨q2⟩)]) none fun v0=>(oo (vTup v0) none fun l0=>(ll l0 none fun v1 l0=>(ll l0 none fun v2 l0=>(ll l0 (oo (vBool v1) none fun b0=>(oo (vAgg v2) none fun q3=>(bb (allL closed1 q3) (bb (allL closed1 q0) (bb (allL closed1 q1) (bb (allL closed1 q3) (bb (nt b0) (bb (growC 1 8 n2 c2 1 q3) (bb (allL closed1 (appL (dropL 0 q3) [.int .i64 z1])) (l73_6 pu n ih0 ih1 n s0 s1 n0 c0 n1 c1 z0 (n2 + 1) (2 * (n2 + 1) + bb false 1 0) z1 (0:Int) q0 q1 (appL (dropL 0 q3) [.int .i64 z1])) none) none) (m73_3 pu n ih0 s0 s1 n0 c0 n1 c1 z0 n2 c2 q0 q1 q3)) none) none) none) none))) fun _ _=>none))))) none) none)
def l73_4 (pu:PureF) (n:Nat) (ih0:Sl→Sl→Nat→Nat→Nat→Nat→Int→LV→LV→OV) (w:Nat):Sl→Sl→Nat→Nat→Nat→Nat→Int→Nat→Nat→Int→LV→LV→LV→OV:=
 Nat.rec (motive:=fun _=>Sl→Sl→Nat→Nat→Nat→Nat→Int→Nat→Nat→Int→LV→LV→LV→OV) (fun _ _ _ _ _ _ _ _ _ _ _ _ _=>none) (fun _ ih1=>b73_4 pu n ih0 ih1) w
def b73_1 (pu:PureF) (n:Nat) (ih0:Sl→Sl→Nat→Nat→Nat→Nat→Int→LV→LV→OV) (s0 s1:Sl) (n0 c0 n1 c1:Nat) (z0:Int) (q0:LV) (q1:LV):OV:=
 (bb (allL closed1 q0) (bb (allL closed1 q1) (bb (ilt z0 (Int.ofNat (Sl.n s0))) (oo (toN z0) none fun k1=>(bb (an (Nat.blt k1 (Sl.n s0)) true) (oo (nthL (Sl.cs s0) (k1 * 1)) none fun v0=>(oo (toI .i64 v0) none fun x0=>(bb (orr (Nat.ble 2 c1) (nilL q1)) (bb (allL closed1 q1) (oo (pu 10551 [(.slice (some ⟨1,0,some 1⟩) n1 c1),.int .i64 x0,(.agg ⟨q1⟩)]) none fun v1=>(oo (vTup v1) none fun l0=>(ll l0 none fun v2 l0=>(ll l0 none fun v3 l0=>(ll l0 (oo (vBool v2) none fun b0=>(oo (vAgg v3) none fun q2=>(bb (allL closed1 q2) (bb (allL closed1 q2) (bb b0 (m73_2 pu n ih0 s0 s1 n0 c0 n1 c1 (Int.ofNat k1) q0 q2) (bb (an (Nat.blt k1 (Sl.n s0)) true) (oo (nthL (Sl.cs s0) (k1 * 1)) none fun v4=>(oo (toI .i64 v4) none fun x1=>(l73_4 pu n ih0 n s0 s1 n0 c0 n1 c1 (Int.ofNat k1) 0 0 x1 q0 q2 ([]:LV)))) none)) none) none))) fun _ _=>none))))) none) none))) none)) (m73_0 pu n n0 c0 q0)) none) none)
def l73_1 (pu:PureF) (n w:Nat):Sl→Sl→Nat→Nat→Nat→Nat→Int→LV→LV→OV:=
 Nat.rec (motive:=fun _=>Sl→Sl→Nat→Nat→Nat→Nat→Int→LV→LV→OV) (fun _ _ _ _ _ _ _ _ _=>none) (fun _ ih0=>b73_1 pu n ih0) w
def m73_ (pu:PureF) (n:Nat) (s0 s1:Sl):OV:=
 (l73_1 pu n n s0 s1 0 0 0 0 (0:Int) ([]:LV) ([]:LV))
def m73 (pu:PureF) (n:Nat) (args:LV):OV:=
 (ll args none fun a0 args=>(ll args none fun a1 args=>(ll args (oo (toSl 1 a0) none fun s0=>(oo (toSl 1 a1) none fun s1=>(m73_ pu n s0 s1))) fun _ _=>none)))
theorem w73_0 (pu:PureF) (n n0 c0:Nat) (q0:LV) {v:Value} (hm:m73_0 pu n n0 c0 q0 = some v):Run tt (callP tabs isP pu (inl pu)) 1 c73_48 (fr 55 [(5,sc 1 0 1 n0 c0)]) (hT 2 [oC q0]) (Fin tt 1 [.tmp 4] v):=by
 unfold m73_0 at hm
 refine .then (.rK ?_)
 replace hm:=bb_inv hm;obtain ⟨h0,hm⟩:=hm
 refine .ghs (fr 55 [(4,sc 1 0 1 n0 c0)]) (hT 2 [oC q0]) (.k [1] [false] [.tmp 4 false] [4] ⟨trF h0,trivial⟩) ?_
 replace hm:=bb_inv hm;obtain ⟨h1,hm⟩:=hm
 refine .ghs (Fr.puts (fr 55 [(4,sc 1 0 1 n0 c0)]) [(4,(Sl.v 1 (Sl.mk n0 0 (takeL (n0 * 1) (dropL 0 q0)))))]) (hT 2 [.dead]) (.freezeC 1 4 1 (an (Nat.ble (0 + n0 * 1) (len q0)) (allL closed1 (takeL (n0 * 1) (dropL 0 q0)))) (F1:=(Fr.puts (fr 55 [(4,sc 1 0 1 n0 c0)]) [(4,(Sl.v 1 (Sl.mk n0 0 (takeL (n0 * 1) (dropL 0 q0)))))])) (H1:=(hT 2 [.dead])) (by kernel_rfl) (by kernel_rfl) h1 (GhS.id _ _)) ?_
 refine .ret ?_
 exact fin_ret (Sl.v 1 (Sl.mk n0 0 (takeL (n0 * 1) (dropL 0 q0)))) (by kernel_rfl) (by kernel_rfl) hm
theorem r73 {call:CallF} (pu:PureF) (n:Nat) (hcall:call = callP tabs isP pu (inl pu)) {args:LV} {v:Value} (hm:m73 pu n args = some v) (_:∀ x ∈ args,closed2 x = true):args.length≤55∧Run tt call 1 c73_52 (Fr.made 55 args) (pureHeap tabs) (Fin tt 1 [.tmp 4] v):=by
 subst hcall
 unfold m73 at hm
 replace hm:=ll_uncons hm;obtain ⟨a0,args_0,rfl,hm⟩:=hm
 replace hm:=ll_uncons hm;obtain ⟨a1,args_1,rfl,hm⟩:=hm
 replace hm:=ll_end hm;obtain ⟨rfl,hm⟩:=hm
 replace hm:=inv_toSl hm;obtain ⟨s0,rfl,hm⟩:=hm
 replace hm:=inv_toSl hm;obtain ⟨s1,rfl,hm⟩:=hm
 unfold m73_ at hm
 refine ⟨by simp,?_⟩
 refine .same (F':=(fr 55 [(0,Sl.v 1 s0),(1,Sl.v 1 s1)])) (H':=(hp 1 [(oT tab0)])) (by kernel_rfl) (by kernel_rfl) ?_
 refine .then (.rK ?_)
 refine .ghs (fr 55 [(0,Sl.v 1 s0),(1,Sl.v 1 s1)]) (hp 1 [(oT tab0)]) (.k0 [false] [] [0,1]) ?_
 refine .then (.rK ?_)
 refine .ghs (fr 55 [(0,Sl.v 1 s0),(1,Sl.v 1 s1),(5,(.slice none 0 0))]) (hp 1 [(oT tab0)]) (.k0 [false] [] [0,1,5]) ?_
 refine .then (.rK ?_)
 refine .ghs (fr 55 [(0,Sl.v 1 s0),(1,Sl.v 1 s1),(5,(.slice none 0 0)),(6,(.slice none 0 0))]) (hp 1 [(oT tab0)]) (.k0 [false] [] [0,1,5,6]) ?_
 refine .join (v:=v) (fun y:Nat×Nat×LV=>((fr 55 [(5,(sc 1 0 1 y.1 y.2.1))]),(hT 2 [(oC y.2.2)]))) (fun y=>m73_0 pu n y.1 y.2.1 y.2.2) ?_ ?_
 ·rintro ⟨n0, c0, q0⟩ hm
  exact w73_0 pu n n0 c0 q0 hm
 ·refine .then (.rK ?_)
  refine .ghs (fr 55 [(0,Sl.v 1 s0),(1,Sl.v 1 s1),(5,(.slice none 0 0)),(6,(.slice none 0 0)),(7,(zI (0:Int)))]) (hp 1 [(oT tab0)]) (.k0 [false] [] [0,1,5,6,7]) ?_
  refine .block ?_
  refine .loopM (v:=v) (fun y:Sl×Sl×Nat×Nat×Nat×Nat×Int×LV×LV=>((fr 55 [(0,(Sl.v 1 y.1)),(1,(Sl.v 1 y.2.1)),(5,(sc 1 0 1 y.2.2.1 y.2.2.2.1)),(6,(sc 2 0 1 y.2.2.2.2.1 y.2.2.2.2.2.1)),(7,(zI y.2.2.2.2.2.2.1))]),(hT 3 [(oC y.2.2.2.2.2.2.2.1),(oC y.2.2.2.2.2.2.2.2)]))) (fun w y=>l73_1 pu n w y.1 y.2.1 y.2.2.1 y.2.2.2.1 y.2.2.2.2.1 y.2.2.2.2.2.1 y.2.2.2.2.2.2.1 y.2.2.2.2.2.2.2.1 y.2.2.2.2.2.2.2.2) n ⟨(s0,s1,0,0,0,0,(0:Int),([]:LV),([]:LV)),hm,(.thaw 5 1 (by kernel_rfl) (.thaw 6 1 (by kernel_rfl) (.k0 [false] [.tmp 5 false,.tmp 6 false] [0,1,5,6,7])))⟩ (fun _=>rfl) ?_
  rintro w0 ⟨s2,s3,n1,c1,n2,c3,z0,q1,q2⟩ hm
  replace hm:b73_1 pu n (l73_1 pu n w0) s2 s3 n1 c1 n2 c3 z0 q1 q2 = some v:=hm
  unfold b73_1 at hm
  refine .then ?_
  refine .then (.rK ?_)
  replace hm:=bb_inv hm;obtain ⟨h0,hm⟩:=hm
  replace hm:=bb_inv hm;obtain ⟨h1,hm⟩:=hm
  refine .ghs (fr 55 [(0,Sl.v 1 s2),(1,Sl.v 1 s3),(5,sc 1 0 1 n1 c1),(6,sc 2 0 1 n2 c3),(7,zI z0),(14,(zB (ilt z0 (Int.ofNat (Sl.n s2)))))]) (hT 3 [oC q1,oC q2]) (.k [1,2] [false] [.tmp 5 false,.tmp 6 false] [0,1,5,6,7,14] ⟨trF h0,trF h1,trivial⟩) ?_
  replace hm:=bb_cases hm;rcases hm with ⟨h2,hm⟩ | ⟨h2,hm⟩
  ·refine .ifT (ilt z0 (Int.ofNat (Sl.n s2))) (by kernel_rfl) h2 ?_
   refine .skip ?_
   refine .ghs (fr 55 [(0,Sl.v 1 s2),(1,Sl.v 1 s3),(5,sc 1 0 1 n1 c1),(6,sc 2 0 1 n2 c3),(7,zI z0)]) (hT 3 [oC q1,oC q2]) (.k [1,2] [false] [.tmp 5 false,.tmp 6 false] [0,1,5,6,7] ⟨trF h0,trF h1,trivial⟩) ?_
   refine .join (v:=v) (fun y:Sl×Sl×Nat×Nat×Nat×Nat×Int×LV×LV=>((fr 55 [(0,(Sl.v 1 y.1)),(1,(Sl.v 1 y.2.1)),(5,(sc 1 0 1 y.2.2.1 y.2.2.2.1)),(6,(sc 2 0 1 y.2.2.2.2.1 y.2.2.2.2.2.1)),(7,(zI y.2.2.2.2.2.2.1))]),(hT 3 [(oC y.2.2.2.2.2.2.2.1),(oC y.2.2.2.2.2.2.2.2)]))) (fun y=>m73_2 pu n (l73_1 pu n w0) y.1 y.2.1 y.2.2.1 y.2.2.2.1 y.2.2.2.2.1 y.2.2.2.2.2.1 y.2.2.2.2.2.2.1 y.2.2.2.2.2.2.2.1 y.2.2.2.2.2.2.2.2) ?_ ?_
   ·rintro ⟨s4, s5, n3, c4, n4, c5, z1, q3, q4⟩ hm
    unfold m73_2 at hm
    refine .rK ?_
    replace hm:=bb_inv hm;obtain ⟨h3,hm⟩:=hm
    replace hm:=bb_inv hm;obtain ⟨h4,hm⟩:=hm
    exact ⟨(s4,s5,n3,c4,n4,c5,(wrapF .i64 (Int.add z1 (1:Int))),q3,q4),hm,(.k [1,2] [false] [.tmp 5 false,.tmp 6 false] [0,1,5,6,7] ⟨trF h3,trF h4,trivial⟩)⟩
   ·refine .block ?_
    refine .then ?_
    refine .then ?_
    replace hm:=oo_inv hm;obtain ⟨k1,h5,hm⟩:=hm
    obtain rfl:=toN_some h5
    replace hm:=bb_inv hm;obtain ⟨h6,hm⟩:=hm
    replace hm:=oo_inv hm;obtain ⟨v0,h7,hm⟩:=hm
    replace hm:=inv_toI hm;obtain ⟨x0,rfl,hm⟩:=hm
    replace hm:=bb_inv hm;obtain ⟨h8,hm⟩:=hm
    replace hm:=bb_inv hm;obtain ⟨h9,hm⟩:=hm
    replace hm:=oo_inv hm;obtain ⟨v1,h10,hm⟩:=hm
    replace hm:=inv_vTup hm;obtain ⟨l0,rfl,hm⟩:=hm
    replace hm:=ll_uncons hm;obtain ⟨v2,l21690_0,rfl,hm⟩:=hm
    replace hm:=ll_uncons hm;obtain ⟨v3,l21690_1,rfl,hm⟩:=hm
    replace hm:=ll_end hm;obtain ⟨rfl,hm⟩:=hm
    replace hm:=inv_vBool hm;obtain ⟨b0,rfl,hm⟩:=hm
    replace hm:=inv_vAgg hm;obtain ⟨q5,rfl,hm⟩:=hm
    replace hm:=bb_inv hm;obtain ⟨h11,hm⟩:=hm
    refine .reg (eC 3 (keep (hT 3 [oC q1,oC q2]) (bb (an (Nat.blt k1 (Sl.n s2)) true) (some (fpV (k1 * 1) (Sl.cs s2))) none)) (keep_bb h6) (eD (keep (hT 3 [oC q1,oC q2]) (nthL (Sl.cs s2) (k1 * 1))) (keep_eq h7) (eD (objG tabs [[none],[none]] 2 [.tmp 0 false] [false] (pu 10551) [sc 2 0 1 n2 c3,zI x0] (hT 3 [oC q1,oC q2])) (objG_eq (as:=[sc 2 0 1 n2 c3,zI x0]) (H1:=(hT 3 [oC q1,oC q2])) (gvAL_c (gvA_1 gv_n) (gvAL_c (gvA_1 gv_n) gvAL_n)) (objF_eq (H2:=(hT 3 [oC q1,oC q5])) (v:=(zB b0)) (v':=(zB b0)) [some 0,some 2] [(false,some 2)] [oC q2] [sc 1 0 1 n2 c3,zI x0] [(.agg ⟨q5⟩)] [oC q5] [some 0,none,some 1] [(false,oC q5)] [oC q5] (trE (by kernel_rfl) (rootL h8 rfl)) (mapO_c (nO_list (anc:=[]) h9) mapO_n) (Eq.trans (by kernel_rfl) h10) (mapO_c rfl mapO_n) (mapO_c (bO_list h11) mapO_n))) (eE)))) ?_
    replace hm:=bb_inv hm;obtain ⟨h12,hm⟩:=hm
    refine .ghs (fr 55 [(0,Sl.v 1 s2),(1,Sl.v 1 s3),(5,sc 1 0 1 n1 c1),(6,sc 2 0 1 n2 c3),(7,(zI (Int.ofNat k1))),(22,zB b0)]) (hT 3 [oC q1,oC q5]) (.k [1,2] [false] [.tmp 5 false,.tmp 6 false] [0,1,5,6,7,22] ⟨trF h0,trF h12,trivial⟩) ?_
    replace hm:=bb_cases hm;rcases hm with ⟨h13,hm⟩ | ⟨h13,hm⟩
    ·refine .ifT b0 (by kernel_rfl) h13 ?_
     refine .exit ?_
     exact ⟨(s2,s3,n1,c1,n2,c3,(Int.ofNat k1),q1,q5),hm,(.k [1,2] [false] [.tmp 5 false,.tmp 6 false] [0,1,5,6,7] ⟨trF h0,trF h12,trivial⟩)⟩
    ·refine .ifF b0 (by kernel_rfl) h13 ?_
     refine .skip ?_
     refine .ghs (fr 55 [(0,Sl.v 1 s2),(1,Sl.v 1 s3),(5,sc 1 0 1 n1 c1),(6,sc 2 0 1 n2 c3),(7,(zI (Int.ofNat k1)))]) (hT 3 [oC q1,oC q5]) (.k [1,2] [false] [.tmp 5 false,.tmp 6 false] [0,1,5,6,7] ⟨trF h0,trF h12,trivial⟩) ?_
     refine .then (.rK ?_)
     refine .ghs (fr 55 [(0,Sl.v 1 s2),(1,Sl.v 1 s3),(5,sc 1 0 1 n1 c1),(6,sc 2 0 1 n2 c3),(7,(zI (Int.ofNat k1))),(8,(.slice none 0 0))]) (hT 3 [oC q1,oC q5]) (.k [1,2] [false] [.tmp 5 false,.tmp 6 false] [0,1,5,6,7,8] ⟨trF h0,trF h12,trivial⟩) ?_
     refine .join (v:=v) (fun y:Sl×Sl×Nat×Nat×Nat×Nat×Int×Nat×Nat×LV×LV×LV=>((fr 55 [(0,(Sl.v 1 y.1)),(1,(Sl.v 1 y.2.1)),(5,(sc 1 0 1 y.2.2.1 y.2.2.2.1)),(6,(sc 2 0 1 y.2.2.2.2.1 y.2.2.2.2.2.1)),(7,(zI y.2.2.2.2.2.2.1)),(8,(sc 3 0 1 y.2.2.2.2.2.2.2.1 y.2.2.2.2.2.2.2.2.1))]),(hT 4 [(oC y.2.2.2.2.2.2.2.2.2.1),(oC y.2.2.2.2.2.2.2.2.2.2.1),(oC y.2.2.2.2.2.2.2.2.2.2.2)]))) (fun y=>m73_3 pu n (l73_1 pu n w0) y.1 y.2.1 y.2.2.1 y.2.2.2.1 y.2.2.2.2.1 y.2.2.2.2.2.1 y.2.2.2.2.2.2.1 y.2.2.2.2.2.2.2.1 y.2.2.2.2.2.2.2.2.1 y.2.2.2.2.2.2.2.2.2.1 y.2.2.2.2.2.2.2.2.2.2.1 y.2.2.2.2.2.2.2.2.2.2.2) ?_ ?_
     ·rintro ⟨s6, s7, n5, c6, n6, c7, z2, n7, c8, q6, q7, q8⟩ hm
      unfold m73_3 at hm
      refine .then ?_
      replace hm:=bb_inv hm;obtain ⟨h14,hm⟩:=hm
      refine .ghs (Fr.puts (fr 55 [(0,Sl.v 1 s6),(1,Sl.v 1 s7),(5,sc 1 0 1 n5 c6),(6,sc 2 0 1 n6 c7),(7,zI z2),(8,sc 3 0 1 n7 c8)]) [(8,(Sl.v 1 (Sl.mk n7 0 (takeL (n7 * 1) (dropL 0 q8)))))]) (hT 4 [oC q6,oC q7,.dead]) (.freezeC 1 8 1 (an (Nat.ble (0 + n7 * 1) (len q8)) (allL closed1 (takeL (n7 * 1) (dropL 0 q8)))) (F1:=(Fr.puts (fr 55 [(0,Sl.v 1 s6),(1,Sl.v 1 s7),(5,sc 1 0 1 n5 c6),(6,sc 2 0 1 n6 c7),(7,zI z2),(8,sc 3 0 1 n7 c8)]) [(8,(Sl.v 1 (Sl.mk n7 0 (takeL (n7 * 1) (dropL 0 q8)))))])) (H1:=(hT 4 [oC q6,oC q7,.dead])) (by kernel_rfl) (by kernel_rfl) h14 (GhS.id _ _)) ?_
      replace hm:=bb_inv hm;obtain ⟨h15,hm⟩:=hm
      refine .reg (eC 3 (growD 1 24 n5 c6 1 1 q6 [(Sl.v 1 (Sl.mk n7 0 (takeL (n7 * 1) (dropL 0 q8))))] [] (hT 5 [oC q6,oC q7,.dead,(oC [(Sl.v 1 (Sl.mk n7 0 (takeL (n7 * 1) (dropL 0 q8))))])])) (growD_eq h15) (eE)) ?_
      replace hm:=bb_inv hm;obtain ⟨h16,hm⟩:=hm
      replace hm:=bb_inv hm;obtain ⟨h17,hm⟩:=hm
      refine .ghs (fr 55 [(0,Sl.v 1 s6),(1,Sl.v 1 s7),(5,(sc 1 0 1 (n5 + 1) (d2 (n5 + 1)))),(6,sc 2 0 1 n6 c7),(7,zI z2),(8,(Sl.v 1 (Sl.mk n7 0 (takeL (n7 * 1) (dropL 0 q8)))))]) (hT 3 [(oC (appL (dropL 0 q6) [(Sl.v 1 (Sl.mk n7 0 (takeL (n7 * 1) (dropL 0 q8))))])),oC q7]) (.k [5,2] [false] [.tmp 5 false,.tmp 6 false] [0,1,5,6,7,8] ⟨trF h16,trF h17,trivial⟩) ?_
      replace hm:=bb_cases hm;rcases hm with ⟨h18,hm⟩ | ⟨h18,hm⟩
      ·refine .reg (eC 2 (appFs (hT 3 [(oC (appL (dropL 0 q6) [(Sl.v 1 (Sl.mk n7 0 (takeL (n7 * 1) (dropL 0 q8))))])), oC q7]) 1 8 (sc 2 0 1 n6 c7) (Sl.mk n7 0 (takeL (n7 * 1) (dropL 0 q8)))) (appFs_sl0 h18) (eE)) ?_
       exact ⟨(s6,s7,(n5 + 1),(d2 (n5 + 1)),n6,c7,z2,(appL (dropL 0 q6) [(Sl.v 1 (Sl.mk n7 0 (takeL (n7 * 1) (dropL 0 q8))))]),q7),hm,(.k [1,2] [false] [.tmp 5 false,.tmp 6 false] [0,1,5,6,7] ⟨trF h16,trF h17,trivial⟩)⟩
      ·replace hm := bb_inv hm; obtain ⟨h19, hm⟩ := hm
       refine .reg (eC 2 (appFs (hT 3 [(oC (appL (dropL 0 q6) [(Sl.v 1 (Sl.mk n7 0 (takeL (n7 * 1) (dropL 0 q8))))])),oC q7]) 1 8 (sc 2 0 1 n6 c7) (Sl.mk n7 0 (takeL (n7 * 1) (dropL 0 q8)))) (appFs_grow (H:=(hT 3 [(oC (appL (dropL 0 q6) [(Sl.v 1 (Sl.mk n7 0 (takeL (n7 * 1) (dropL 0 q8))))])),oC q7])) (id:=2) (n:=n6) (c2:=c7) (xs:=q7) (anc:=[]) h18 (by kernel_rfl) (by kernel_rfl) h19) (eE)) ?_
       replace hm:=bb_inv hm;obtain ⟨h20,hm⟩:=hm
       exact ⟨(s6,s7,(n5 + 1),(d2 (n5 + 1)),(n6 + (Sl.n (Sl.mk n7 0 (takeL (n7 * 1) (dropL 0 q8))))),(d2 (n6 + (Sl.n (Sl.mk n7 0 (takeL (n7 * 1) (dropL 0 q8)))))),z2,(appL (dropL 0 q6) [(Sl.v 1 (Sl.mk n7 0 (takeL (n7 * 1) (dropL 0 q8))))]),(appL (dropL 0 q7) (takeL ((Sl.n (Sl.mk n7 0 (takeL (n7 * 1) (dropL 0 q8)))) * 1) (Sl.cs (Sl.mk n7 0 (takeL (n7 * 1) (dropL 0 q8))))))),hm,(.k [1,3] [false] [.tmp 5 false,.tmp 6 false] [0,1,5,6,7] ⟨trF h16,trF h20,trivial⟩)⟩
     ·refine .then ?_
      replace hm:=bb_inv hm;obtain ⟨h21,hm⟩:=hm
      replace hm:=oo_inv hm;obtain ⟨v4,h22,hm⟩:=hm
      replace hm:=inv_toI hm;obtain ⟨x1,rfl,hm⟩:=hm
      refine .reg (eC 2 (keep (hT 3 [oC q1,oC q5]) (bb (an (Nat.blt k1 (Sl.n s2)) true) (some (fpV (k1 * 1) (Sl.cs s2))) none)) (keep_bb h21) (eD (keep (hT 3 [oC q1,oC q5]) (nthL (Sl.cs s2) (k1 * 1))) (keep_eq h22) (eE))) ?_
      refine .ghs (fr 55 [(0,Sl.v 1 s2),(1,Sl.v 1 s3),(5,sc 1 0 1 n1 c1),(6,sc 2 0 1 n2 c3),(7,(zI (Int.ofNat k1))),(8,(.slice none 0 0)),(9,zI x1)]) (hT 3 [oC q1,oC q5]) (.k [1,2] [false] [.tmp 5 false,.tmp 6 false] [0,1,5,6,7,8,9] ⟨trF h0,trF h12,trivial⟩) ?_
      refine .block ?_
      refine .loopM (v:=v) (fun y:Sl×Sl×Nat×Nat×Nat×Nat×Int×Nat×Nat×Int×LV×LV×LV=>((fr 55 [(0,(Sl.v 1 y.1)),(1,(Sl.v 1 y.2.1)),(5,(sc 1 0 1 y.2.2.1 y.2.2.2.1)),(6,(sc 2 0 1 y.2.2.2.2.1 y.2.2.2.2.2.1)),(7,(zI y.2.2.2.2.2.2.1)),(8,(sc 3 0 1 y.2.2.2.2.2.2.2.1 y.2.2.2.2.2.2.2.2.1)),(9,(zI y.2.2.2.2.2.2.2.2.2.1))]),(hT 4 [(oC y.2.2.2.2.2.2.2.2.2.2.1),(oC y.2.2.2.2.2.2.2.2.2.2.2.1),(oC y.2.2.2.2.2.2.2.2.2.2.2.2)]))) (fun w y=>l73_4 pu n (l73_1 pu n w0) w y.1 y.2.1 y.2.2.1 y.2.2.2.1 y.2.2.2.2.1 y.2.2.2.2.2.1 y.2.2.2.2.2.2.1 y.2.2.2.2.2.2.2.1 y.2.2.2.2.2.2.2.2.1 y.2.2.2.2.2.2.2.2.2.1 y.2.2.2.2.2.2.2.2.2.2.1 y.2.2.2.2.2.2.2.2.2.2.2.1 y.2.2.2.2.2.2.2.2.2.2.2.2) n ⟨(s2,s3,n1,c1,n2,c3,(Int.ofNat k1),0,0,x1,q1,q5,([]:LV)),hm,(.thaw 8 1 (by kernel_rfl) (.k [1,2] [false] [.tmp 5 false,.tmp 6 false,.tmp 8 false] [0,1,5,6,7,8,9] ⟨trF h0,trF h12,trivial⟩))⟩ (fun _=>rfl) ?_
      rintro w1 ⟨s8,s9,n8,c10,n9,c14,z3,n10,c17,z4,q9,q10,q11⟩ hm
      replace hm:b73_4 pu n (l73_1 pu n w0) (l73_4 pu n (l73_1 pu n w0) w1) s8 s9 n8 c10 n9 c14 z3 n10 c17 z4 q9 q10 q11 = some v:=hm
      unfold b73_4 at hm
      refine .then ?_
      refine .then ?_
      replace hm:=bb_inv hm;obtain ⟨h23,hm⟩:=hm
      replace hm:=bb_inv hm;obtain ⟨h24,hm⟩:=hm
      replace hm:=oo_inv hm;obtain ⟨v5,h25,hm⟩:=hm
      replace hm:=inv_vTup hm;obtain ⟨l1,rfl,hm⟩:=hm
      replace hm:=ll_uncons hm;obtain ⟨v6,l21929_0,rfl,hm⟩:=hm
      replace hm:=ll_uncons hm;obtain ⟨v7,l21929_1,rfl,hm⟩:=hm
      replace hm:=ll_end hm;obtain ⟨rfl,hm⟩:=hm
      replace hm:=inv_vBool hm;obtain ⟨b1,rfl,hm⟩:=hm
      replace hm:=inv_vAgg hm;obtain ⟨q12,rfl,hm⟩:=hm
      replace hm:=bb_inv hm;obtain ⟨h26,hm⟩:=hm
      refine .reg (eC 2 (objG tabs [[none],[none]] 2 [.tmp 0 false] [false] (pu 10551) [sc 3 0 1 n10 c17,zI z4] (hT 4 [oC q9,oC q10,oC q11])) (objG_eq (as:=[sc 3 0 1 n10 c17,zI z4]) (H1:=(hT 4 [oC q9,oC q10,oC q11])) (gvAL_c (gvA_1 gv_n) (gvAL_c (gvA_1 gv_n) gvAL_n)) (objF_eq (H2:=(hT 4 [oC q9,oC q10,oC q12])) (v:=(zB b1)) (v':=(zB b1)) [some 0,some 3] [(false,some 3)] [oC q11] [sc 1 0 1 n10 c17,zI z4] [(.agg ⟨q12⟩)] [oC q12] [some 0,none,none,some 1] [(false,oC q12)] [oC q12] (trE (by kernel_rfl) (rootL h23 rfl)) (mapO_c (nO_list (anc:=[]) h24) mapO_n) (Eq.trans (by kernel_rfl) h25) (mapO_c rfl mapO_n) (mapO_c (bO_list h26) mapO_n))) (eE)) ?_
      replace hm:=bb_inv hm;obtain ⟨h27,hm⟩:=hm
      replace hm:=bb_inv hm;obtain ⟨h28,hm⟩:=hm
      replace hm:=bb_inv hm;obtain ⟨h29,hm⟩:=hm
      refine .ghs (fr 55 [(0,Sl.v 1 s8),(1,Sl.v 1 s9),(5,sc 1 0 1 n8 c10),(6,sc 2 0 1 n9 c14),(7,zI z3),(8,sc 3 0 1 n10 c17),(9,zI z4),(30,(zB (nt b1)))]) (hT 4 [oC q9,oC q10,oC q12]) (.k [1,2,3] [false] [.tmp 5 false,.tmp 6 false,.tmp 8 false] [0,1,5,6,7,8,9,30] ⟨trF h27,trF h28,trF h29,trivial⟩) ?_
      replace hm:=bb_cases hm;rcases hm with ⟨h30,hm⟩ | ⟨h30,hm⟩
      ·refine .ifT (nt b1) (by kernel_rfl) h30 ?_
       refine .skip ?_
       refine .ghs (fr 55 [(0,Sl.v 1 s8),(1,Sl.v 1 s9),(5,sc 1 0 1 n8 c10),(6,sc 2 0 1 n9 c14),(7,zI z3),(8,sc 3 0 1 n10 c17),(9,zI z4)]) (hT 4 [oC q9,oC q10,oC q12]) (.k [1,2,3] [false] [.tmp 5 false,.tmp 6 false,.tmp 8 false] [0,1,5,6,7,8,9] ⟨trF h27,trF h28,trF h29,trivial⟩) ?_
       refine .block ?_
       refine .then ?_
       replace hm:=bb_inv hm;obtain ⟨h31,hm⟩:=hm
       refine .reg (eC 3 (growD 1 8 n10 c17 1 3 q12 [zI z4] [] (hT 5 [oC q9,oC q10,oC q12,(oC [zI z4])])) (growD_eq h31) (eE)) ?_
       replace hm:=bb_inv hm;obtain ⟨h32,hm⟩:=hm
       refine .ghs (fr 55 [(0,Sl.v 1 s8),(1,Sl.v 1 s9),(5,sc 1 0 1 n8 c10),(6,sc 2 0 1 n9 c14),(7,zI z3),(8,(sc 3 0 1 (n10 + 1) (d2 (n10 + 1)))),(9,zI z4)]) (hT 4 [oC q9,oC q10,(oC (appL (dropL 0 q12) [zI z4]))]) (.k [1,2,5] [false] [.tmp 5 false,.tmp 6 false,.tmp 8 false] [0,1,5,6,7,8,9] ⟨trF h27,trF h28,trF h32,trivial⟩) ?_
       refine .then (.rK ?_)
       refine .ghs (fr 55 [(0,Sl.v 1 s8),(1,Sl.v 1 s9),(5,sc 1 0 1 n8 c10),(6,sc 2 0 1 n9 c14),(7,zI z3),(8,(sc 3 0 1 (n10 + 1) (d2 (n10 + 1)))),(9,zI z4),(10,(zI (0:Int)))]) (hT 4 [oC q9,oC q10,(oC (appL (dropL 0 q12) [zI z4]))]) (.k [1,2,3] [false] [.tmp 5 false,.tmp 6 false,.tmp 8 false] [0,1,5,6,7,8,9,10] ⟨trF h27,trF h28,trF h32,trivial⟩) ?_
       refine .join (v:=v) (fun y:Sl×Sl×Nat×Nat×Nat×Nat×Int×Nat×Nat×Int×LV×LV×LV=>((fr 55 [(0,(Sl.v 1 y.1)),(1,(Sl.v 1 y.2.1)),(5,(sc 1 0 1 y.2.2.1 y.2.2.2.1)),(6,(sc 2 0 1 y.2.2.2.2.1 y.2.2.2.2.2.1)),(7,(zI y.2.2.2.2.2.2.1)),(8,(sc 3 0 1 y.2.2.2.2.2.2.2.1 y.2.2.2.2.2.2.2.2.1)),(10,(zI y.2.2.2.2.2.2.2.2.2.1))]),(hT 4 [(oC y.2.2.2.2.2.2.2.2.2.2.1),(oC y.2.2.2.2.2.2.2.2.2.2.2.1),(oC y.2.2.2.2.2.2.2.2.2.2.2.2)]))) (fun y=>m73_5 pu n (l73_1 pu n w0) (l73_4 pu n (l73_1 pu n w0) w1) y.1 y.2.1 y.2.2.1 y.2.2.2.1 y.2.2.2.2.1 y.2.2.2.2.2.1 y.2.2.2.2.2.2.1 y.2.2.2.2.2.2.2.1 y.2.2.2.2.2.2.2.2.1 y.2.2.2.2.2.2.2.2.2.1 y.2.2.2.2.2.2.2.2.2.2.1 y.2.2.2.2.2.2.2.2.2.2.2.1 y.2.2.2.2.2.2.2.2.2.2.2.2) ?_ ?_
       ·rintro ⟨s10, s11, n11, c19, n12, c21, z5, n13, c22, z6, q13, q14, q15⟩ hm
        unfold m73_5 at hm
        replace hm:=oo_inv hm;obtain ⟨k2,h33,hm⟩:=hm
        obtain rfl:=toN_some h33
        replace hm:=bb_inv hm;obtain ⟨h34,hm⟩:=hm
        replace hm:=oo_inv hm;obtain ⟨v8,h35,hm⟩:=hm
        replace hm:=inv_toI hm;obtain ⟨x2,rfl,hm⟩:=hm
        refine .reg (eC 2 (keep (hT 4 [oC q13,oC q14,oC q15]) (bb (an (Nat.blt k2 (Sl.n s11)) true) (some (fpV (k2 * 1) (Sl.cs s11))) none)) (keep_bb h34) (eD (keep (hT 4 [oC q13,oC q14,oC q15]) (nthL (Sl.cs s11) (k2 * 1))) (keep_eq h35) (eE))) ?_
        replace hm:=bb_inv hm;obtain ⟨h36,hm⟩:=hm
        replace hm:=bb_inv hm;obtain ⟨h37,hm⟩:=hm
        replace hm:=bb_inv hm;obtain ⟨h38,hm⟩:=hm
        exact ⟨(s10,s11,n11,c19,n12,c21,z5,n13,c22,x2,q13,q14,q15),hm,(.k [1,2,3] [false] [.tmp 5 false,.tmp 6 false,.tmp 8 false] [0,1,5,6,7,8,9] ⟨trF h36,trF h37,trF h38,trivial⟩)⟩
       ·refine .block ?_
        refine .loopM (v:=v) (fun y:Sl×Sl×Nat×Nat×Nat×Nat×Int×Nat×Nat×Int×Int×LV×LV×LV=>((fr 55 [(0,(Sl.v 1 y.1)),(1,(Sl.v 1 y.2.1)),(5,(sc 1 0 1 y.2.2.1 y.2.2.2.1)),(6,(sc 2 0 1 y.2.2.2.2.1 y.2.2.2.2.2.1)),(7,(zI y.2.2.2.2.2.2.1)),(8,(sc 3 0 1 y.2.2.2.2.2.2.2.1 y.2.2.2.2.2.2.2.2.1)),(9,(zI y.2.2.2.2.2.2.2.2.2.1)),(10,(zI y.2.2.2.2.2.2.2.2.2.2.1))]),(hT 4 [(oC y.2.2.2.2.2.2.2.2.2.2.2.1),(oC y.2.2.2.2.2.2.2.2.2.2.2.2.1),(oC y.2.2.2.2.2.2.2.2.2.2.2.2.2)]))) (fun w y=>l73_6 pu n (l73_1 pu n w0) (l73_4 pu n (l73_1 pu n w0) w1) w y.1 y.2.1 y.2.2.1 y.2.2.2.1 y.2.2.2.2.1 y.2.2.2.2.2.1 y.2.2.2.2.2.2.1 y.2.2.2.2.2.2.2.1 y.2.2.2.2.2.2.2.2.1 y.2.2.2.2.2.2.2.2.2.1 y.2.2.2.2.2.2.2.2.2.2.1 y.2.2.2.2.2.2.2.2.2.2.2.1 y.2.2.2.2.2.2.2.2.2.2.2.2.1 y.2.2.2.2.2.2.2.2.2.2.2.2.2) n ⟨(s8,s9,n8,c10,n9,c14,z3,(n10 + 1),(d2 (n10 + 1)),z4,(0:Int),q9,q10,(appL (dropL 0 q12) [zI z4])),hm,(.k [1,2,3] [false] [.tmp 5 false,.tmp 6 false,.tmp 8 false] [0,1,5,6,7,8,9,10] ⟨trF h27,trF h28,trF h32,trivial⟩)⟩ (fun _=>rfl) ?_
        rintro w2 ⟨s12,s13,n14,c23,n15,c24,z7,n16,c28,z8,z9,q16,q17,q18⟩ hm
        replace hm:b73_6 pu n (l73_1 pu n w0) (l73_4 pu n (l73_1 pu n w0) w1) (l73_6 pu n (l73_1 pu n w0) (l73_4 pu n (l73_1 pu n w0) w1) w2) s12 s13 n14 c23 n15 c24 z7 n16 c28 z8 z9 q16 q17 q18 = some v:=hm
        unfold b73_6 at hm
        refine .then ?_
        refine .then ?_
        replace hm:=oo_inv hm;obtain ⟨k3,h39,hm⟩:=hm
        obtain rfl:=toN_some h39
        replace hm:=bb_inv hm;obtain ⟨h40,hm⟩:=hm
        replace hm:=oo_inv hm;obtain ⟨v9,h41,hm⟩:=hm
        replace hm:=inv_toI hm;obtain ⟨x3,rfl,hm⟩:=hm
        refine .reg (eC 2 (keep (hT 4 [oC q16,oC q17,oC q18]) (bb (an (Nat.blt k3 (Sl.n s12)) true) (some (fpV (k3 * 1) (Sl.cs s12))) none)) (keep_bb h40) (eD (keep (hT 4 [oC q16,oC q17,oC q18]) (nthL (Sl.cs s12) (k3 * 1))) (keep_eq h41) (eE))) ?_
        replace hm:=bb_inv hm;obtain ⟨h42,hm⟩:=hm
        replace hm:=bb_inv hm;obtain ⟨h43,hm⟩:=hm
        replace hm:=bb_inv hm;obtain ⟨h44,hm⟩:=hm
        refine .ghs (fr 55 [(0,Sl.v 1 s12),(1,Sl.v 1 s13),(5,sc 1 0 1 n14 c23),(6,sc 2 0 1 n15 c24),(7,zI z7),(8,sc 3 0 1 n16 c28),(9,zI z8),(10,(zI (Int.ofNat k3))),(40,(zB (nt (ieq x3 z8))))]) (hT 4 [oC q16,oC q17,oC q18]) (.k [1,2,3] [false] [.tmp 5 false,.tmp 6 false,.tmp 8 false] [0,1,5,6,7,8,9,10,40] ⟨trF h42,trF h43,trF h44,trivial⟩) ?_
        replace hm:=bb_cases hm;rcases hm with ⟨h45,hm⟩ | ⟨h45,hm⟩
        ·refine .ifT (nt (ieq x3 z8)) (by kernel_rfl) h45 ?_
         refine .skip ?_
         refine .ghs (fr 55 [(0,Sl.v 1 s12),(1,Sl.v 1 s13),(5,sc 1 0 1 n14 c23),(6,sc 2 0 1 n15 c24),(7,zI z7),(8,sc 3 0 1 n16 c28),(9,zI z8),(10,(zI (Int.ofNat k3)))]) (hT 4 [oC q16,oC q17,oC q18]) (.k [1,2,3] [false] [.tmp 5 false,.tmp 6 false,.tmp 8 false] [0,1,5,6,7,8,9,10] ⟨trF h42,trF h43,trF h44,trivial⟩) ?_
         refine .block ?_
         refine .rK ?_
         exact ⟨(s12,s13,n14,c23,n15,c24,z7,n16,c28,z8,(wrapF .i64 (Int.add (Int.ofNat k3) (1:Int))),q16,q17,q18),hm,(.k [1,2,3] [false] [.tmp 5 false,.tmp 6 false,.tmp 8 false] [0,1,5,6,7,8,9,10] ⟨trF h42,trF h43,trF h44,trivial⟩)⟩
        ·refine .ifF (nt (ieq x3 z8)) (by kernel_rfl) h45 ?_
         refine .exit ?_
         exact ⟨(s12,s13,n14,c23,n15,c24,z7,n16,c28,(Int.ofNat k3),q16,q17,q18),hm,(.k [1,2,3] [false] [.tmp 5 false,.tmp 6 false,.tmp 8 false] [0,1,5,6,7,8,10] ⟨trF h42,trF h43,trF h44,trivial⟩)⟩
      ·refine .ifF (nt b1) (by kernel_rfl) h30 ?_
       refine .exit ?_
       exact ⟨(s8,s9,n8,c10,n9,c14,z3,n10,c17,q9,q10,q12),hm,(.k [1,2,3] [false] [.tmp 5 false,.tmp 6 false,.tmp 8 false] [0,1,5,6,7,8] ⟨trF h27,trF h28,trF h29,trivial⟩)⟩
  ·refine .ifF (ilt z0 (Int.ofNat (Sl.n s2))) (by kernel_rfl) h2 ?_
   refine .exit ?_
   exact ⟨(n1,c1,q1),hm,(.k [1] [false] [.tmp 5 false] [5] ⟨trF h0,trivial⟩)⟩
def m74_0 (pu:PureF) (n:Nat):OV:=
 (some (.bool false))
def m74_2 (pu:PureF) (n:Nat) (ih0:Sl→Sl→Int→OV) (s0 s1:Sl) (z0:Int):OV:=
 (ih0 s0 s1 (wrapF .i64 (Int.add z0 (1:Int))))
def m74_3 (pu:PureF) (n:Nat) (ih0:Sl→Sl→Int→OV) (s0 s1:Sl) (z0:Int):OV:=
 (oo (toN z0) none fun k1=>(bb (an (Nat.blt k1 (Sl.n s0)) true) (oo (nthL (Sl.cs s0) (k1 * 1)) none fun v0=>(oo (toSl 1 v0) none fun s2=>(bb (an (Nat.blt k1 (Sl.n s1)) true) (oo (nthL (Sl.cs s1) (k1 * 1)) none fun v1=>(oo (toSl 1 v1) none fun s3=>(bb (nt (ieq (Int.ofNat (Sl.n s2)) (Int.ofNat (Sl.n s3)))) (bb (an (Nat.blt k1 (Sl.n s0)) true) (oo (nthL (Sl.cs s0) (k1 * 1)) none fun v2=>(oo (toSl 1 v2) none fun s4=>(bb (an (Nat.blt k1 (Sl.n s1)) true) (oo (nthL (Sl.cs s1) (k1 * 1)) none fun v3=>(oo (toSl 1 v3) none fun s5=>(some (.bool (ilt (Int.ofNat (Sl.n s4)) (Int.ofNat (Sl.n s5))))))) none))) none) (m74_2 pu n ih0 s0 s1 (Int.ofNat k1))))) none))) none))
def m74_5 (pu:PureF) (n:Nat) (ih0:Sl→Sl→Int→OV) (ih1:Sl→Sl→Int→Int→OV) (s0 s1:Sl) (z0 z1:Int) (b0:Bool):OV:=
 (bb b0 (oo (toN z0) none fun k1=>(bb (an (Nat.blt k1 (Sl.n s0)) true) (oo (nthL (Sl.cs s0) (k1 * 1)) none fun v0=>(oo (toSl 1 v0) none fun s2=>(oo (toN z1) none fun k2=>(bb (an (Nat.blt k2 (Sl.n s2)) true) (oo (nthL (Sl.cs s2) (k2 * 1)) none fun v1=>(oo (toI .i64 v1) none fun x0=>(bb (an (Nat.blt k1 (Sl.n s1)) true) (oo (nthL (Sl.cs s1) (k1 * 1)) none fun v2=>(oo (toSl 1 v2) none fun s3=>(bb (an (Nat.blt k2 (Sl.n s3)) true) (oo (nthL (Sl.cs s3) (k2 * 1)) none fun v3=>(oo (toI .i64 v3) none fun x1=>(bb (nt (ieq x0 x1)) (bb (an (Nat.blt k1 (Sl.n s0)) true) (oo (nthL (Sl.cs s0) (k1 * 1)) none fun v4=>(oo (toSl 1 v4) none fun s4=>(bb (an (Nat.blt k2 (Sl.n s4)) true) (oo (nthL (Sl.cs s4) (k2 * 1)) none fun v5=>(oo (toI .i64 v5) none fun x2=>(bb (an (Nat.blt k1 (Sl.n s1)) true) (oo (nthL (Sl.cs s1) (k1 * 1)) none fun v6=>(oo (toSl 1 v6) none fun s5=>(bb (an (Nat.blt k2 (Sl.n s5)) true) (oo (nthL (Sl.cs s5) (k2 * 1)) none fun v7=>(oo (toI .i64 v7) none fun x3=>(some (.bool (ilt x2 x3))))) none))) none))) none))) none) (ih1 s0 s1 (Int.ofNat k1) (wrapF .i64 (Int.add (Int.ofNat k2) (1:Int))))))) none))) none))) none)))) none)) (m74_3 pu n ih0 s0 s1 z0))
def b74_4 (pu:PureF) (n:Nat) (ih0:Sl→Sl→Int→OV) (ih1:Sl→Sl→Int→Int→OV) (s0 s1:Sl) (z0 z1:Int):OV:=
 (oo (toN z0) none fun k1=>(bb (an (Nat.blt k1 (Sl.n s0)) true) (oo (nthL (Sl.cs s0) (k1 * 1)) none fun v0=>(oo (toSl 1 v0) none fun s2=>(bb (ilt z1 (Int.ofNat (Sl.n s2))) (bb (an (Nat.blt k1 (Sl.n s1)) true) (oo (nthL (Sl.cs s1) (k1 * 1)) none fun v1=>(oo (toSl 1 v1) none fun s3=>(m74_5 pu n ih0 ih1 s0 s1 (Int.ofNat k1) z1 (ilt z1 (Int.ofNat (Sl.n s3)))))) none) (m74_5 pu n ih0 ih1 s0 s1 (Int.ofNat k1) z1 false)))) none))
def l74_4 (pu:PureF) (n:Nat) (ih0:Sl→Sl→Int→OV) (w:Nat):Sl→Sl→Int→Int→OV:=
 Nat.rec (motive:=fun _=>Sl→Sl→Int→Int→OV) (fun _ _ _ _=>none) (fun _ ih1=>b74_4 pu n ih0 ih1) w
def b74_1 (pu:PureF) (n:Nat) (ih0:Sl→Sl→Int→OV) (s0 s1:Sl) (z0:Int):OV:=
 (bb (ilt z0 (Int.ofNat (Sl.n s0))) (l74_4 pu n ih0 n s0 s1 z0 (0:Int)) (m74_0 pu n))
def l74_1 (pu:PureF) (n w:Nat):Sl→Sl→Int→OV:=
 Nat.rec (motive:=fun _=>Sl→Sl→Int→OV) (fun _ _ _=>none) (fun _ ih0=>b74_1 pu n ih0) w
def m74_ (pu:PureF) (n:Nat) (s0 s1:Sl):OV:=
 (l74_1 pu n n s0 s1 (0:Int))
def m74 (pu:PureF) (n:Nat) (args:LV):OV:=
 (ll args none fun a0 args=>(ll args none fun a1 args=>(ll args (oo (toSl 1 a0) none fun s0=>(oo (toSl 1 a1) none fun s1=>(m74_ pu n s0 s1))) fun _ _=>none)))
theorem w74_0 (pu:PureF) (n:Nat) {v:Value} (hm:m74_0 pu n = some v):Run tt (callP tabs isP pu (inl pu)) 1 c74_35 (fr 83 []) (hp 1 [(oT tab0)]) (Fin tt 1 [.tmp 4] v):=by
 unfold m74_0 at hm
 refine .then (.rK ?_)
 refine .ghs (fr 83 [(4,zB false)]) (hp 1 [(oT tab0)]) (.k0 [false] [] [4]) ?_
 refine .ret ?_
 exact fin_ret (zB false) (by kernel_rfl) (by kernel_rfl) hm
theorem r74 {call:CallF} (pu:PureF) (n:Nat) (hcall:call = callP tabs isP pu (inl pu)) {args:LV} {v:Value} (hm:m74 pu n args = some v) (_:∀ x ∈ args,closed2 x = true):args.length≤83∧Run tt call 1 c74_37 (Fr.made 83 args) (pureHeap tabs) (Fin tt 1 [.tmp 4] v):=by
 subst hcall
 unfold m74 at hm
 replace hm:=ll_uncons hm;obtain ⟨a0,args_0,rfl,hm⟩:=hm
 replace hm:=ll_uncons hm;obtain ⟨a1,args_1,rfl,hm⟩:=hm
 replace hm:=ll_end hm;obtain ⟨rfl,hm⟩:=hm
 replace hm:=inv_toSl hm;obtain ⟨s0,rfl,hm⟩:=hm
 replace hm:=inv_toSl hm;obtain ⟨s1,rfl,hm⟩:=hm
 unfold m74_ at hm
 refine ⟨by simp,?_⟩
 refine .same (F':=(fr 83 [(0,Sl.v 1 s0),(1,Sl.v 1 s1)])) (H':=(hp 1 [(oT tab0)])) (by kernel_rfl) (by kernel_rfl) ?_
 refine .then (.rK ?_)
 refine .ghs (fr 83 [(0,Sl.v 1 s0),(1,Sl.v 1 s1)]) (hp 1 [(oT tab0)]) (.k0 [false] [] [0,1]) ?_
 refine .join (v:=v) (fun y:Unit=>((fr 83 []),(hp 1 [(oT tab0)]))) (fun y=>m74_0 pu n) ?_ ?_
 ·rintro _ hm
  exact w74_0 pu n hm
 ·refine .then (.rK ?_)
  refine .ghs (fr 83 [(0,Sl.v 1 s0),(1,Sl.v 1 s1),(5,(zI (0:Int)))]) (hp 1 [(oT tab0)]) (.k0 [false] [] [0,1,5]) ?_
  refine .block ?_
  refine .loopM (v:=v) (fun y:Sl×Sl×Int=>((fr 83 [(0,(Sl.v 1 y.1)),(1,(Sl.v 1 y.2.1)),(5,(zI y.2.2))]),(hp 1 [(oT tab0)]))) (fun w y=>l74_1 pu n w y.1 y.2.1 y.2.2) n ⟨(s0,s1,(0:Int)),hm,(.k0 [false] [] [0,1,5])⟩ (fun _=>rfl) ?_
  rintro w0 ⟨s2,s3,z0⟩ hm
  replace hm:b74_1 pu n (l74_1 pu n w0) s2 s3 z0 = some v:=hm
  unfold b74_1 at hm
  refine .then ?_
  refine .then (.rK ?_)
  refine .ghs (fr 83 [(0,Sl.v 1 s2),(1,Sl.v 1 s3),(5,zI z0),(10,(zB (ilt z0 (Int.ofNat (Sl.n s2)))))]) (hp 1 [(oT tab0)]) (.k0 [false] [] [0,1,5,10]) ?_
  replace hm:=bb_cases hm;rcases hm with ⟨h0,hm⟩ | ⟨h0,hm⟩
  ·refine .ifT (ilt z0 (Int.ofNat (Sl.n s2))) (by kernel_rfl) h0 ?_
   refine .skip ?_
   refine .ghs (fr 83 [(0,Sl.v 1 s2),(1,Sl.v 1 s3),(5,zI z0)]) (hp 1 [(oT tab0)]) (.k0 [false] [] [0,1,5]) ?_
   refine .join (v:=v) (fun y:Sl×Sl×Int=>((fr 83 [(0,(Sl.v 1 y.1)),(1,(Sl.v 1 y.2.1)),(5,(zI y.2.2))]),(hp 1 [(oT tab0)]))) (fun y=>m74_2 pu n (l74_1 pu n w0) y.1 y.2.1 y.2.2) ?_ ?_
   ·rintro ⟨s4, s5, z1⟩ hm
    unfold m74_2 at hm
    refine .rK ?_
    exact ⟨(s4,s5,(wrapF .i64 (Int.add z1 (1:Int)))),hm,(.k0 [false] [] [0,1,5])⟩
   ·refine .block ?_
    refine .join (v:=v) (fun y:Sl×Sl×Int=>((fr 83 [(0,(Sl.v 1 y.1)),(1,(Sl.v 1 y.2.1)),(5,(zI y.2.2))]),(hp 1 [(oT tab0)]))) (fun y=>m74_3 pu n (l74_1 pu n w0) y.1 y.2.1 y.2.2) ?_ ?_
    ·rintro ⟨s6, s7, z2⟩ hm
     unfold m74_3 at hm
     refine .then ?_
     replace hm:=oo_inv hm;obtain ⟨k1,h1,hm⟩:=hm
     obtain rfl:=toN_some h1
     replace hm:=bb_inv hm;obtain ⟨h2,hm⟩:=hm
     replace hm:=oo_inv hm;obtain ⟨v0,h3,hm⟩:=hm
     replace hm:=inv_toSl hm;obtain ⟨s8,rfl,hm⟩:=hm
     replace hm:=bb_inv hm;obtain ⟨h4,hm⟩:=hm
     replace hm:=oo_inv hm;obtain ⟨v1,h5,hm⟩:=hm
     replace hm:=inv_toSl hm;obtain ⟨s9,rfl,hm⟩:=hm
     refine .reg (eC 2 (keep (hp 1 [(oT tab0)]) (bb (an (Nat.blt k1 (Sl.n s6)) true) (some (fpV (k1 * 1) (Sl.cs s6))) none)) (keep_bb h2) (eD (keep (hp 1 [(oT tab0)]) (nthL (Sl.cs s6) (k1 * 1))) (keep_eq h3) (eC 3 (keep (hp 1 [(oT tab0)]) (bb (an (Nat.blt k1 (Sl.n s7)) true) (some (fpV (k1 * 1) (Sl.cs s7))) none)) (keep_bb h4) (eD (keep (hp 1 [(oT tab0)]) (nthL (Sl.cs s7) (k1 * 1))) (keep_eq h5) (eE))))) ?_
     refine .ghs (fr 83 [(0,Sl.v 1 s6),(1,Sl.v 1 s7),(5,(zI (Int.ofNat k1))),(71,(zB (nt (ieq (Int.ofNat (Sl.n s8)) (Int.ofNat (Sl.n s9))))))]) (hp 1 [(oT tab0)]) (.k0 [false] [] [0,1,5,71]) ?_
     replace hm:=bb_cases hm;rcases hm with ⟨h6,hm⟩ | ⟨h6,hm⟩
     ·refine .ifT (nt (ieq (Int.ofNat (Sl.n s8)) (Int.ofNat (Sl.n s9)))) (by kernel_rfl) h6 ?_
      refine .then ?_
      replace hm:=bb_inv hm;obtain ⟨h7,hm⟩:=hm
      replace hm:=oo_inv hm;obtain ⟨v2,h8,hm⟩:=hm
      replace hm:=inv_toSl hm;obtain ⟨s10,rfl,hm⟩:=hm
      replace hm:=bb_inv hm;obtain ⟨h9,hm⟩:=hm
      replace hm:=oo_inv hm;obtain ⟨v3,h10,hm⟩:=hm
      replace hm:=inv_toSl hm;obtain ⟨s11,rfl,hm⟩:=hm
      refine .reg (eC 2 (keep (hp 1 [(oT tab0)]) (bb (an (Nat.blt k1 (Sl.n s6)) true) (some (fpV (k1 * 1) (Sl.cs s6))) none)) (keep_bb h7) (eD (keep (hp 1 [(oT tab0)]) (nthL (Sl.cs s6) (k1 * 1))) (keep_eq h8) (eC 3 (keep (hp 1 [(oT tab0)]) (bb (an (Nat.blt k1 (Sl.n s7)) true) (some (fpV (k1 * 1) (Sl.cs s7))) none)) (keep_bb h9) (eD (keep (hp 1 [(oT tab0)]) (nthL (Sl.cs s7) (k1 * 1))) (keep_eq h10) (eE))))) ?_
      refine .ghs (fr 83 [(4,(zB (ilt (Int.ofNat (Sl.n s10)) (Int.ofNat (Sl.n s11)))))]) (hp 1 [(oT tab0)]) (.k0 [false] [] [4]) ?_
      refine .ret ?_
      exact fin_ret (zB (ilt (Int.ofNat (Sl.n s10)) (Int.ofNat (Sl.n s11)))) (by kernel_rfl) (by kernel_rfl) hm
     ·refine .ifF (nt (ieq (Int.ofNat (Sl.n s8)) (Int.ofNat (Sl.n s9)))) (by kernel_rfl) h6 ?_
      refine .skip ?_
      exact ⟨(s6,s7,(Int.ofNat k1)),hm,(.k0 [false] [] [0,1,5])⟩
    ·refine .then (.rK ?_)
     refine .ghs (fr 83 [(0,Sl.v 1 s2),(1,Sl.v 1 s3),(5,zI z0),(6,(zI (0:Int)))]) (hp 1 [(oT tab0)]) (.k0 [false] [] [0,1,5,6]) ?_
     refine .block ?_
     refine .loopM (v:=v) (fun y:Sl×Sl×Int×Int=>((fr 83 [(0,(Sl.v 1 y.1)),(1,(Sl.v 1 y.2.1)),(5,(zI y.2.2.1)),(6,(zI y.2.2.2))]),(hp 1 [(oT tab0)]))) (fun w y=>l74_4 pu n (l74_1 pu n w0) w y.1 y.2.1 y.2.2.1 y.2.2.2) n ⟨(s2,s3,z0,(0:Int)),hm,(.k0 [false] [] [0,1,5,6])⟩ (fun _=>rfl) ?_
     rintro w1 ⟨s12,s13,z3,z4⟩ hm
     replace hm:b74_4 pu n (l74_1 pu n w0) (l74_4 pu n (l74_1 pu n w0) w1) s12 s13 z3 z4 = some v:=hm
     unfold b74_4 at hm
     refine .then ?_
     refine .join (v:=v) (fun y:Sl×Sl×Int×Int×Bool=>((fr 83 [(0,(Sl.v 1 y.1)),(1,(Sl.v 1 y.2.1)),(5,(zI y.2.2.1)),(6,(zI y.2.2.2.1)),(28,(zB y.2.2.2.2))]),(hp 1 [(oT tab0)]))) (fun y=>m74_5 pu n (l74_1 pu n w0) (l74_4 pu n (l74_1 pu n w0) w1) y.1 y.2.1 y.2.2.1 y.2.2.2.1 y.2.2.2.2) ?_ ?_
     ·rintro ⟨s14, s15, z5, z6, b0⟩ hm
      unfold m74_5 at hm
      replace hm:=bb_cases hm;rcases hm with ⟨h11,hm⟩ | ⟨h11,hm⟩
      ·refine .ifT b0 (by kernel_rfl) h11 ?_
       refine .skip ?_
       refine .ghs (fr 83 [(0,Sl.v 1 s14),(1,Sl.v 1 s15),(5,zI z5),(6,zI z6)]) (hp 1 [(oT tab0)]) (.k0 [false] [] [0,1,5,6]) ?_
       refine .then ?_
       refine .block ?_
       refine .then ?_
       replace hm:=oo_inv hm;obtain ⟨k2,h12,hm⟩:=hm
       obtain rfl:=toN_some h12
       replace hm:=bb_inv hm;obtain ⟨h13,hm⟩:=hm
       replace hm:=oo_inv hm;obtain ⟨v4,h14,hm⟩:=hm
       replace hm:=inv_toSl hm;obtain ⟨s16,rfl,hm⟩:=hm
       replace hm:=oo_inv hm;obtain ⟨k3,h15,hm⟩:=hm
       obtain rfl:=toN_some h15
       replace hm:=bb_inv hm;obtain ⟨h16,hm⟩:=hm
       replace hm:=oo_inv hm;obtain ⟨v5,h17,hm⟩:=hm
       replace hm:=inv_toI hm;obtain ⟨x0,rfl,hm⟩:=hm
       replace hm:=bb_inv hm;obtain ⟨h18,hm⟩:=hm
       replace hm:=oo_inv hm;obtain ⟨v6,h19,hm⟩:=hm
       replace hm:=inv_toSl hm;obtain ⟨s17,rfl,hm⟩:=hm
       replace hm:=bb_inv hm;obtain ⟨h20,hm⟩:=hm
       replace hm:=oo_inv hm;obtain ⟨v7,h21,hm⟩:=hm
       replace hm:=inv_toI hm;obtain ⟨x1,rfl,hm⟩:=hm
       refine .reg (eN 6 (Fr.puts (fr 83 [(0,Sl.v 1 s14),(1,Sl.v 1 s15),(5,(zI (Int.ofNat k2))),(6,(zI (Int.ofNat k3)))]) [(31,Sl.v 1 s14),(32,(zI (Int.ofNat k2))),(33,(fpV (k2 * 1) (Sl.cs s14))),(34,Sl.v 1 s16),(35,(zI (Int.ofNat k3))),(36,(fpV (k3 * 1) (Sl.cs s16)))]) (hp 1 [(oT tab0)]) (eC 2 (keep (hp 1 [(oT tab0)]) (bb (an (Nat.blt k2 (Sl.n s14)) true) (some (fpV (k2 * 1) (Sl.cs s14))) none)) (keep_bb h13) (eD (keep (hp 1 [(oT tab0)]) (nthL (Sl.cs s14) (k2 * 1))) (keep_eq h14) (eC 1 (keep (hp 1 [(oT tab0)]) (bb (an (Nat.blt k3 (Sl.n s16)) true) (some (fpV (k3 * 1) (Sl.cs s16))) none)) (keep_bb h16) (by kernel_rfl)))) (eD (keep (hp 1 [(oT tab0)]) (nthL (Sl.cs s16) (k3 * 1))) (keep_eq h17) (eC 2 (keep (hp 1 [(oT tab0)]) (bb (an (Nat.blt k2 (Sl.n s15)) true) (some (fpV (k2 * 1) (Sl.cs s15))) none)) (keep_bb h18) (eD (keep (hp 1 [(oT tab0)]) (nthL (Sl.cs s15) (k2 * 1))) (keep_eq h19) (eC 1 (keep (hp 1 [(oT tab0)]) (bb (an (Nat.blt k3 (Sl.n s17)) true) (some (fpV (k3 * 1) (Sl.cs s17))) none)) (keep_bb h20) (eD (keep (hp 1 [(oT tab0)]) (nthL (Sl.cs s17) (k3 * 1))) (keep_eq h21) (eE))))))) ?_
       refine .ghs (fr 83 [(0,Sl.v 1 s14),(1,Sl.v 1 s15),(5,(zI (Int.ofNat k2))),(6,(zI (Int.ofNat k3))),(45,(zB (nt (ieq x0 x1))))]) (hp 1 [(oT tab0)]) (.k0 [false] [] [0,1,5,6,45]) ?_
       replace hm:=bb_cases hm;rcases hm with ⟨h22,hm⟩ | ⟨h22,hm⟩
       ·refine .ifT (nt (ieq x0 x1)) (by kernel_rfl) h22 ?_
        refine .then ?_
        replace hm:=bb_inv hm;obtain ⟨h23,hm⟩:=hm
        replace hm:=oo_inv hm;obtain ⟨v8,h24,hm⟩:=hm
        replace hm:=inv_toSl hm;obtain ⟨s18,rfl,hm⟩:=hm
        replace hm:=bb_inv hm;obtain ⟨h25,hm⟩:=hm
        replace hm:=oo_inv hm;obtain ⟨v9,h26,hm⟩:=hm
        replace hm:=inv_toI hm;obtain ⟨x2,rfl,hm⟩:=hm
        replace hm:=bb_inv hm;obtain ⟨h27,hm⟩:=hm
        replace hm:=oo_inv hm;obtain ⟨v10,h28,hm⟩:=hm
        replace hm:=inv_toSl hm;obtain ⟨s19,rfl,hm⟩:=hm
        replace hm:=bb_inv hm;obtain ⟨h29,hm⟩:=hm
        replace hm:=oo_inv hm;obtain ⟨v11,h30,hm⟩:=hm
        replace hm:=inv_toI hm;obtain ⟨x3,rfl,hm⟩:=hm
        refine .reg (eN 6 (Fr.puts (fr 83 [(0,Sl.v 1 s14),(1,Sl.v 1 s15),(5,(zI (Int.ofNat k2))),(6,(zI (Int.ofNat k3))),(45,(zB (nt (ieq x0 x1))))]) [(46,Sl.v 1 s14),(47,(zI (Int.ofNat k2))),(48,(fpV (k2 * 1) (Sl.cs s14))),(49,Sl.v 1 s18),(50,(zI (Int.ofNat k3))),(51,(fpV (k3 * 1) (Sl.cs s18)))]) (hp 1 [(oT tab0)]) (eC 2 (keep (hp 1 [(oT tab0)]) (bb (an (Nat.blt k2 (Sl.n s14)) true) (some (fpV (k2 * 1) (Sl.cs s14))) none)) (keep_bb h23) (eD (keep (hp 1 [(oT tab0)]) (nthL (Sl.cs s14) (k2 * 1))) (keep_eq h24) (eC 1 (keep (hp 1 [(oT tab0)]) (bb (an (Nat.blt k3 (Sl.n s18)) true) (some (fpV (k3 * 1) (Sl.cs s18))) none)) (keep_bb h25) (by kernel_rfl)))) (eD (keep (hp 1 [(oT tab0)]) (nthL (Sl.cs s18) (k3 * 1))) (keep_eq h26) (eC 2 (keep (hp 1 [(oT tab0)]) (bb (an (Nat.blt k2 (Sl.n s15)) true) (some (fpV (k2 * 1) (Sl.cs s15))) none)) (keep_bb h27) (eD (keep (hp 1 [(oT tab0)]) (nthL (Sl.cs s15) (k2 * 1))) (keep_eq h28) (eC 1 (keep (hp 1 [(oT tab0)]) (bb (an (Nat.blt k3 (Sl.n s19)) true) (some (fpV (k3 * 1) (Sl.cs s19))) none)) (keep_bb h29) (eD (keep (hp 1 [(oT tab0)]) (nthL (Sl.cs s19) (k3 * 1))) (keep_eq h30) (eE))))))) ?_
        refine .ghs (fr 83 [(4,(zB (ilt x2 x3)))]) (hp 1 [(oT tab0)]) (.k0 [false] [] [4]) ?_
        refine .ret ?_
        exact fin_ret (zB (ilt x2 x3)) (by kernel_rfl) (by kernel_rfl) hm
       ·refine .ifF (nt (ieq x0 x1)) (by kernel_rfl) h22 ?_
        refine .skip ?_
        refine .ghs (fr 83 [(0,Sl.v 1 s14),(1,Sl.v 1 s15),(5,(zI (Int.ofNat k2))),(6,(zI (Int.ofNat k3)))]) (hp 1 [(oT tab0)]) (.k0 [false] [] [0,1,5,6]) ?_
        refine .rK ?_
        exact ⟨(s14,s15,(Int.ofNat k2),(wrapF .i64 (Int.add (Int.ofNat k3) (1:Int)))),hm,(.k0 [false] [] [0,1,5,6])⟩
      ·refine .ifF b0 (by kernel_rfl) h11 ?_
       refine .exit ?_
       exact ⟨(s14,s15,z5),hm,(.k0 [false] [] [0,1,5])⟩
     ·replace hm := oo_inv hm; obtain ⟨k4, h31, hm⟩ := hm
      obtain rfl:=toN_some h31
      replace hm:=bb_inv hm;obtain ⟨h32,hm⟩:=hm
      replace hm:=oo_inv hm;obtain ⟨v12,h33,hm⟩:=hm
      replace hm:=inv_toSl hm;obtain ⟨s20,rfl,hm⟩:=hm
      replace hm:=bb_cases hm;rcases hm with ⟨h34,hm⟩ | ⟨h34,hm⟩
      ·replace hm := bb_inv hm; obtain ⟨h35, hm⟩ := hm
       replace hm:=oo_inv hm;obtain ⟨v13,h36,hm⟩:=hm
       replace hm:=inv_toSl hm;obtain ⟨s21,rfl,hm⟩:=hm
       refine .reg (eC 3 (keep (hp 1 [(oT tab0)]) (bb (an (Nat.blt k4 (Sl.n s12)) true) (some (fpV (k4 * 1) (Sl.cs s12))) none)) (keep_bb h32) (eD (keep (hp 1 [(oT tab0)]) (nthL (Sl.cs s12) (k4 * 1))) (keep_eq h33) (eC 1 (some ((zB (ilt z4 (Int.ofNat (Sl.n s20)))),(hp 1 [(oT tab0)]))) (show _ = some ((zB true),_) from (by rw [h34])) (eC 4 (keep (hp 1 [(oT tab0)]) (bb (an (Nat.blt k4 (Sl.n s13)) true) (some (fpV (k4 * 1) (Sl.cs s13))) none)) (keep_bb h35) (eD (keep (hp 1 [(oT tab0)]) (nthL (Sl.cs s13) (k4 * 1))) (keep_eq h36) (eE)))))) ?_
       exact ⟨(s12,s13,(Int.ofNat k4),z4,(ilt z4 (Int.ofNat (Sl.n s21)))),hm,(.k0 [false] [] [0,1,5,6,28])⟩
      ·refine .reg (eC 3 (keep (hp 1 [(oT tab0)]) (bb (an (Nat.blt k4 (Sl.n s12)) true) (some (fpV (k4 * 1) (Sl.cs s12))) none)) (keep_bb h32) (eD (keep (hp 1 [(oT tab0)]) (nthL (Sl.cs s12) (k4 * 1))) (keep_eq h33) (eC 1 (some ((zB (ilt z4 (Int.ofNat (Sl.n s20)))), (hp 1 [(oT tab0)]))) (show _ = some ((zB false), _) from (by rw [h34])) (eE)))) ?_
       exact ⟨(s12,s13,(Int.ofNat k4),z4,false),hm,(.k0 [false] [] [0,1,5,6,28])⟩
  ·refine .ifF (ilt z0 (Int.ofNat (Sl.n s2))) (by kernel_rfl) h0 ?_
   refine .exit ?_
   exact ⟨(),hm,(.k0 [false] [] [])⟩
end
end Go.MdFM
