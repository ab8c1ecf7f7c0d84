/- Made from wip. -/
import Derived.Test.YtlgmapibifphaaaDoorMdFMod0x

set_option maxRecDepth 100000
set_option maxHeartbeats 20000000
set_option linter.unusedVariables false
namespace Go.MdFM
open Go.Sp Go.MdF
noncomputable section

def m10650_ (pu:PureF) (n:Nat) (z0:Int) (s0 s1:Sl):OV:=
 (oo (findE (.int .u16 (0:Int)) ([]:List Ent) 0) none fun r0=>(bb (allL entClosed (updE (.int .u16 (0:Int)) (.int .i64 (0:Int)) 0 ([]:List Ent) r0)) (some (.tuple ⟨[(.pointer (some ⟨1,0,none⟩)),(.agg ⟨[.int .i64 z0,Sl.v 1 s0,Sl.v 1 s1,(.map (some 2))]⟩),(encO (.map (updE (.int .u16 (0:Int)) (.int .i64 (0:Int)) 0 ([]:List Ent) r0) (updC 0 r0)))]⟩)) none))
def m10650 (pu:PureF) (n:Nat) (args:LV):OV:=
 (ll args none fun a0 args=>(ll args (oo (vAgg a0) none fun l0=>(ll l0 none fun v0 l0=>(ll l0 none fun v1 l0=>(ll l0 none fun v2 l0=>(ll l0 (oo (toI .i64 v0) none fun x0=>(oo (toSl 1 v1) none fun s0=>(oo (toSl 1 v2) none fun s1=>(m10650_ pu n x0 s0 s1)))) fun _ _=>none))))) fun _ _=>none))
theorem q10650 (pu:PureF) (n:Nat) (z0:Int) (s0 s1:Sl) {v:Value} (hm:m10650_ pu n z0 s0 s1 = some v):Run tt (callP tabs isP pu (inl pu)) 1 c65_3 (fr 8 [(0,(.agg ⟨[zI z0,Sl.v 1 s0,Sl.v 1 s1]⟩))]) (hp 1 [(oT tab0)]) (FinO tt 1 0 [.tmp 2] v):=by
 unfold m10650_ at hm
 refine .then (.rK ?_)
 refine .ghs (fr 8 [(1,pt 1 0)]) (hT 2 [(oC [zI z0,Sl.v 1 s0,Sl.v 1 s1])]) (.k0 [false] [.tmp 1 false] [1]) ?_
 refine .then ?_
 replace hm:=oo_inv hm;obtain ⟨r0,h0,hm⟩:=hm
 refine .reg (eC 2 (done (oo (findE (.int .u16 (0:Int)) ([]:List Ent) 0) none fun r=>oo r (some (AHeap.set (hT 3 [(oC [zI z0,Sl.v 1 s0,Sl.v 1 s1]),(.map ([]:List Ent) 0)]) 2 (.map (appL ([]:List Ent) [⟨(.int .u16 (0:Int)),(zI (0:Int)),0⟩]) (0 + 1)))) fun p=>pp p fun j _=>some (AHeap.set (hT 3 [(oC [zI z0,Sl.v 1 s0,Sl.v 1 s1]),(.map ([]:List Ent) 0)]) 2 (.map (modL (fun e=>⟨(.int .u16 (0:Int)),(zI (0:Int)),e.born⟩) j ([]:List Ent)) 0))) undef) (upd_eq (H2:=(hT 3 [(oC [zI z0,Sl.v 1 s0,Sl.v 1 s1]),(.map (updE (.int .u16 (0:Int)) (zI (0:Int)) 0 ([]:List Ent) r0) (updC 0 r0))])) h0) (eE)) ?_
 replace hm:=bb_inv hm;obtain ⟨h1,hm⟩:=hm
 refine .ghs (fr 8 [(2,pt 1 0)]) (hT 3 [(oC [zI z0,Sl.v 1 s0,Sl.v 1 s1,(.map (some 2))]),(.map (updE (.int .u16 (0:Int)) (zI (0:Int)) 0 ([]:List Ent) r0) (updC 0 r0))]) (.k [2] [false] [.tmp 2 true,.cell 1 3 false] [2] ⟨trF h1,trivial⟩) ?_
 refine .ghs (fr 8 [(2,pt 1 0)]) (hT 3 [(oC [zI z0,Sl.v 1 s0,Sl.v 1 s1,(.map (some 2))]),(.map (updE (.int .u16 (0:Int)) (zI (0:Int)) 0 ([]:List Ent) r0) (updC 0 r0))]) (.k [2] [false] [.tmp 2 true,.cell 1 3 false] [2] ⟨trF h1,trivial⟩) ?_
 refine .ret ?_
 exact finO_ret (pt 1 0) [(oC [zI z0,Sl.v 1 s0,Sl.v 1 s1,(.map (some 2))]),(.map (updE (.int .u16 (0:Int)) (zI (0:Int)) 0 ([]:List Ent) r0) (updC 0 r0))] (by kernel_rfl) hm (Nat.le_of_ble_eq_true rfl) (ooAt_cons (pO_c _) (ooAt_cons (pO_m _ _) ooAt_nil))
theorem r10650 {call:CallF} (pu:PureF) (n:Nat) (hcall:call = callP tabs isP pu (inl pu)) {args:LV} {os:List AObj} {z:Value} (ha:args.length = 1) (hk:os.length = 0) (hpl:∀ o ∈ os,plainO o) (hm:m10650 pu n (args ++ os.map encO) = some z):args.length≤8∧Run tt call (tabs.length + 0) c65_3 (Fr.made 8 args) (subHeap tabs os) (FinO tt tabs.length 0 [.tmp 2] z):=by
 subst hcall
 have hq:=len_cons ha;clear ha;obtain ⟨a0,args,rfl,ha⟩:=hq
 obtain rfl:=len_nil ha
 obtain rfl:=len_nil hk
 replace hm:m10650 pu n [a0] = some z:=hm
 unfold m10650 at hm
 replace hm:(oo (vAgg a0) none fun l0=>(ll l0 none fun v0 l0=>(ll l0 none fun v1 l0=>(ll l0 none fun v2 l0=>(ll l0 (oo (toI .i64 v0) none fun x0=>(oo (toSl 1 v1) none fun s0=>(oo (toSl 1 v2) none fun s1=>(m10650_ pu n x0 s0 s1)))) fun _ _=>none))))) = some z:=hm
 replace hm:=inv_vAgg hm;obtain ⟨l0,rfl,hm⟩:=hm
 replace hm:=ll_uncons hm;obtain ⟨v0,l2077_0,rfl,hm⟩:=hm
 replace hm:=ll_uncons hm;obtain ⟨v1,l2077_1,rfl,hm⟩:=hm
 replace hm:=ll_uncons hm;obtain ⟨v2,l2077_2,rfl,hm⟩:=hm
 replace hm:=ll_end hm;obtain ⟨rfl,hm⟩:=hm
 replace hm:=inv_toI hm;obtain ⟨x0,rfl,hm⟩:=hm
 replace hm:=inv_toSl hm;obtain ⟨s0,rfl,hm⟩:=hm
 replace hm:=inv_toSl hm;obtain ⟨s1,rfl,hm⟩:=hm
 refine ⟨by simp,?_⟩
 exact .same (F':=(fr 8 [(0,(.agg ⟨[zI x0,Sl.v 1 s0,Sl.v 1 s1]⟩))])) (H':=(hp 1 [(oT tab0)])) (by kernel_rfl) (by kernel_rfl) (q10650 pu n x0 s0 s1 hm)
def m10660_1 (pu:PureF) (n:Nat) (z0 z1 z2:Int) (s0 s1:Sl) (e0:List Ent) (k1:Nat):OV:=
 (oo (findE (.int .u16 z0) e0 0) none fun r0=>(bb (allL entClosed (updE (.int .u16 z0) (.int .i64 z1) k1 e0 r0)) (some (.tuple ⟨[.int .i64 z1,(.agg ⟨[.int .i64 z2,Sl.v 1 s0,Sl.v 1 s1,(.map (some 2))]⟩),(encO (.map (updE (.int .u16 z0) (.int .i64 z1) k1 e0 r0) (updC k1 r0)))]⟩)) none))
def m10660_0 (pu:PureF) (n:Nat) (z0 z1 z2:Int) (s0 s1:Sl) (e0:List Ent) (k1:Nat):OV:=
 (oo (pu 71 [(.agg ⟨[.int .i64 z2,Sl.v 1 s0,Sl.v 1 s1]⟩),.int .u16 z0]) none fun v0=>(oo (vBool v0) none fun b0=>(bb (allL entClosed e0) (bb b0 (m10660_1 pu n z0 (wrapF .i64 (Int.add z1 (1:Int))) z2 s0 s1 e0 k1) (m10660_1 pu n z0 z1 z2 s0 s1 e0 k1)) none)))
def b10660_2 (pu:PureF) (n:Nat) (ih0:Int→Int→Sl→Int→Int→Int→Sl→Sl→List Ent→Nat→OV) (z0 z1:Int) (s0:Sl) (z2 z3 z4:Int) (s1 s2:Sl) (e0:List Ent) (k1:Nat):OV:=
 (bb (allL entClosed e0) (bb (ilt z3 z2) (oo (toN z3) none fun k2=>(bb (an (Nat.blt k2 (Sl.n s0)) true) (oo (nthL (Sl.cs s0) (k2 * 1)) none fun v0=>(oo (toI .i64 v0) none fun x0=>(oo (toN x0) none fun k3=>(bb (allL entClosed e0) (oo (pu 10660 [(.pointer (some ⟨1,0,none⟩)),(.int .u16 (aandNot .u16 z0 (shlI .u16 (1:Int) k3))),(.agg ⟨[.int .i64 z4,Sl.v 1 s1,Sl.v 1 s2,(.map (some 2))]⟩),(encO (.map e0 k1))]) none fun v1=>(oo (vTup v1) none fun l0=>(ll l0 none fun v2 l0=>(ll l0 none fun v3 l0=>(ll l0 none fun v4 l0=>(ll l0 (oo (toI .i64 v2) none fun x1=>(oo (vAgg v3) none fun l1=>(ll l1 none fun v5 l1=>(ll l1 none fun v6 l1=>(ll l1 none fun v7 l1=>(ll l1 none fun v8 l1=>(ll l1 (oo (toI .i64 v5) none fun x2=>(oo (toSl 1 v6) none fun s3=>(oo (toSl 1 v7) none fun s4=>(bb (isMp v8 2) (oo (vMapO v4) none fun y0=>(bb (allL entClosed (MapV.es y0)) (bb (allL entClosed (MapV.es y0)) (ih0 z0 (bb (ilt z1 x1) x1 z1) s0 z2 (wrapF .i64 (Int.add (Int.ofNat k2) (1:Int))) x2 s3 s4 (MapV.es y0) (MapV.clock y0)) none) none)) none)))) fun _ _=>none))))))) fun _ _=>none)))))) none)))) none)) (m10660_0 pu n z0 z1 z4 s1 s2 e0 k1)) none)
def l10660_2 (pu:PureF) (n w:Nat):Int→Int→Sl→Int→Int→Int→Sl→Sl→List Ent→Nat→OV:=
 Nat.rec (motive:=fun _=>Int→Int→Sl→Int→Int→Int→Sl→Sl→List Ent→Nat→OV) (fun _ _ _ _ _ _ _ _ _ _=>none) (fun _ ih0=>b10660_2 pu n ih0) w
def m10660_ (pu:PureF) (n:Nat) (z0 z1:Int) (s0 s1:Sl) (e0:List Ent) (k1:Nat):OV:=
 (bb (allL entClosed e0) (oo (findE (.int .u16 z0) e0 0) none fun r0=>(oo (toI .i64 (getE r0 (.int .i64 (0:Int)))) none fun x0=>(bb (isS r0) (some (.tuple ⟨[.int .i64 x0,(.agg ⟨[.int .i64 z1,Sl.v 1 s0,Sl.v 1 s1,(.map (some 2))]⟩),(encO (.map e0 k1))]⟩)) (oo (pu 62 [.int .u16 z0]) none fun v0=>(oo (toSl 1 v0) none fun s2=>(l10660_2 pu n n z0 (0:Int) s2 (Int.ofNat (Sl.n s2)) (0:Int) z1 s0 s1 e0 k1)))))) none)
def m10660 (pu:PureF) (n:Nat) (args:LV):OV:=
 (ll args none fun a0 args=>(ll args none fun a1 args=>(ll args none fun o0 args=>(ll args none fun o1 args=>(ll args (bb (isPt a0 1 0) (oo (toI .u16 a1) none fun x0=>(oo (vAgg o0) none fun l0=>(ll l0 none fun v0 l0=>(ll l0 none fun v1 l0=>(ll l0 none fun v2 l0=>(ll l0 none fun v3 l0=>(ll l0 (oo (toI .i64 v0) none fun x1=>(oo (toSl 1 v1) none fun s0=>(oo (toSl 1 v2) none fun s1=>(bb (isMp v3 2) (oo (vMapO o1) none fun y0=>(m10660_ pu n x0 x1 s0 s1 (MapV.es y0) (MapV.clock y0))) none)))) fun _ _=>none))))))) none) fun _ _=>none)))))
theorem w10660_1 (pu:PureF) (n:Nat) (z0 z1 z2:Int) (s0 s1:Sl) (e0:List Ent) (k1:Nat) {v:Value} (hm:m10660_1 pu n z0 z1 z2 s0 s1 e0 k1 = some v):Run tt (callP tabs isP pu (inl pu)) 3 c66_30 (fr 52 [(0,pt 1 0),(1,.int .u16 z0),(7,zI z1)]) (hT 3 [(oC [zI z2,Sl.v 1 s0,Sl.v 1 s1,(.map (some 2))]),(.map e0 k1)]) (FinO tt 1 2 [.tmp 4] v):=by
 unfold m10660_1 at hm
 refine .then ?_
 replace hm:=oo_inv hm;obtain ⟨r0,h0,hm⟩:=hm
 refine .reg (eC 6 (done (oo (findE (.int .u16 z0) e0 0) none fun r=>oo r (some (AHeap.set (hT 3 [(oC [zI z2,Sl.v 1 s0,Sl.v 1 s1,(.map (some 2))]),(.map e0 k1)]) 2 (.map (appL e0 [⟨.int .u16 z0,zI z1,k1⟩]) (k1 + 1)))) fun p=>pp p fun j _=>some (AHeap.set (hT 3 [(oC [zI z2,Sl.v 1 s0,Sl.v 1 s1,(.map (some 2))]),(.map e0 k1)]) 2 (.map (modL (fun e=>⟨.int .u16 z0,zI z1,e.born⟩) j e0) k1))) undef) (upd_eq (H2:=(hT 3 [(oC [zI z2,Sl.v 1 s0,Sl.v 1 s1,(.map (some 2))]),(.map (updE (.int .u16 z0) (zI z1) k1 e0 r0) (updC k1 r0))])) h0) (eE)) ?_
 replace hm:=bb_inv hm;obtain ⟨h1,hm⟩:=hm
 refine .ghs (fr 52 [(7,zI z1)]) (hT 3 [(oC [zI z2,Sl.v 1 s0,Sl.v 1 s1,(.map (some 2))]),(.map (updE (.int .u16 z0) (zI z1) k1 e0 r0) (updC k1 r0))]) (.k [2] [false,true,false] [] [7] ⟨trF h1,trivial⟩) ?_
 refine .then (.rK ?_)
 refine .ghs (fr 52 [(4,zI z1)]) (hT 3 [(oC [zI z2,Sl.v 1 s0,Sl.v 1 s1,(.map (some 2))]),(.map (updE (.int .u16 z0) (zI z1) k1 e0 r0) (updC k1 r0))]) (.k [2] [false,true,false] [] [4] ⟨trF h1,trivial⟩) ?_
 refine .ghs (fr 52 [(4,zI z1)]) (hT 3 [(oC [zI z2,Sl.v 1 s0,Sl.v 1 s1,(.map (some 2))]),(.map (updE (.int .u16 z0) (zI z1) k1 e0 r0) (updC k1 r0))]) (.k [2] [false,true,false] [] [4] ⟨trF h1,trivial⟩) ?_
 refine .ret ?_
 exact finO_ret (zI z1) [(oC [zI z2,Sl.v 1 s0,Sl.v 1 s1,(.map (some 2))]),(.map (updE (.int .u16 z0) (zI z1) k1 e0 r0) (updC k1 r0))] (by kernel_rfl) hm (Nat.le_of_ble_eq_true rfl) (ooAt_cons (pO_c _) (ooAt_cons (pO_m _ _) ooAt_nil))
theorem w10660_0 (pu:PureF) (n:Nat) (z0 z1 z2:Int) (s0 s1:Sl) (e0:List Ent) (k1:Nat) {v:Value} (hm:m10660_0 pu n z0 z1 z2 s0 s1 e0 k1 = some v):Run tt (callP tabs isP pu (inl pu)) 3 c66_31 (fr 52 [(0,pt 1 0),(1,.int .u16 z0),(7,zI z1)]) (hT 3 [(oC [zI z2,Sl.v 1 s0,Sl.v 1 s1,(.map (some 2))]),(.map e0 k1)]) (FinO tt 1 2 [.tmp 4] v):=by
 unfold m10660_0 at hm
 refine .join (v:=v) (fun y:Int×Int×Int×Sl×Sl×List Ent×Nat=>((fr 52 [(0,pt 1 0),(1,(.int .u16 y.1)),(7,(zI y.2.1))]),(hT 3 [(oC [(zI y.2.2.1),(Sl.v 1 y.2.2.2.1),(Sl.v 1 y.2.2.2.2.1),(.map (some 2))]),(.map y.2.2.2.2.2.1 y.2.2.2.2.2.2)]))) (fun y=>m10660_1 pu n y.1 y.2.1 y.2.2.1 y.2.2.2.1 y.2.2.2.2.1 y.2.2.2.2.2.1 y.2.2.2.2.2.2) ?_ ?_
 ·rintro ⟨z3, z4, z5, s2, s3, e1, k2⟩ hm
  exact w10660_1 pu n z3 z4 z5 s2 s3 e1 k2 hm
 ·refine .then ?_
  replace hm:=oo_inv hm;obtain ⟨v0,h0,hm⟩:=hm
  replace hm:=inv_vBool hm;obtain ⟨b0,rfl,hm⟩:=hm
  refine .reg (eC 5 ((oo (pu 71 [(.agg ⟨[zI z2,Sl.v 1 s0,Sl.v 1 s1]⟩),.int .u16 z0]) none fun v=>some (v,(hT 3 [(oC [zI z2,Sl.v 1 s0,Sl.v 1 s1,(.map (some 2))]),(.map e0 k1)])))) (call_eq h0) (eE)) ?_
  replace hm:=bb_inv hm;obtain ⟨h1,hm⟩:=hm
  refine .ghs (fr 52 [(0,pt 1 0),(1,.int .u16 z0),(7,zI z1),(42,zB b0)]) (hT 3 [(oC [zI z2,Sl.v 1 s0,Sl.v 1 s1,(.map (some 2))]),(.map e0 k1)]) (.k [2] [false,true,false] [] [0,1,7,42] ⟨trF h1,trivial⟩) ?_
  replace hm:=bb_cases hm;rcases hm with ⟨h2,hm⟩ | ⟨h2,hm⟩
  ·refine .ifT b0 (by kernel_rfl) h2 ?_
   refine .rK ?_
   exact ⟨(z0,(wrapF .i64 (Int.add z1 (1:Int))),z2,s0,s1,e0,k1),hm,(.k [2] [false,true,false] [] [0,1,7] ⟨trF h1,trivial⟩)⟩
  ·refine .ifF b0 (by kernel_rfl) h2 ?_
   refine .skip ?_
   exact ⟨(z0,z1,z2,s0,s1,e0,k1),hm,(.k [2] [false,true,false] [] [0,1,7] ⟨trF h1,trivial⟩)⟩
theorem q10660 (pu:PureF) (n:Nat) (z0 z1:Int) (s0 s1:Sl) (e0:List Ent) (k1:Nat) {v:Value} (hm:m10660_ pu n z0 z1 s0 s1 e0 k1 = some v):Run tt (callP tabs isP pu (inl pu)) 3 c66_35 (fr 52 [(0,pt 1 0),(1,.int .u16 z0)]) (hT 3 [(oC [zI z1,Sl.v 1 s0,Sl.v 1 s1,(.map (some 2))]),(.map e0 k1)]) (FinO tt 1 2 [.tmp 4] v):=by
 unfold m10660_ at hm
 refine .then (.rK ?_)
 replace hm:=bb_inv hm;obtain ⟨h0,hm⟩:=hm
 refine .ghs (fr 52 [(0,pt 1 0),(1,.int .u16 z0)]) (hT 3 [(oC [zI z1,Sl.v 1 s0,Sl.v 1 s1,(.map (some 2))]),(.map e0 k1)]) (.k [2] [false,true,false] [] [0,1] ⟨trF h0,trivial⟩) ?_
 refine .then ?_
 refine .then ?_
 replace hm:=oo_inv hm;obtain ⟨r0,h1,hm⟩:=hm
 replace hm:=oo_inv hm;obtain ⟨x0,h2,hm⟩:=hm
 refine .reg (eC 5 (keep (hT 3 [(oC [zI z1,Sl.v 1 s0,Sl.v 1 s1,(.map (some 2))]),(.map e0 k1)]) (oo (findE (.int .u16 z0) e0 0) none fun r=>oo r (okV true (zI (0:Int)) false) fun p=>pp p fun _ v=>okV true v true)) (look_okv h1 (toI_some h2)) (eE)) ?_
 refine .ghs (fr 52 [(0,pt 1 0),(1,.int .u16 z0),(5,zI x0),(6,(zB (isS r0)))]) (hT 3 [(oC [zI z1,Sl.v 1 s0,Sl.v 1 s1,(.map (some 2))]),(.map e0 k1)]) (.k [2] [false,true,false] [] [0,1,5,6] ⟨trF h0,trivial⟩) ?_
 refine .then (.rK ?_)
 refine .ghs (fr 52 [(0,pt 1 0),(1,.int .u16 z0),(5,zI x0),(19,(zB (isS r0)))]) (hT 3 [(oC [zI z1,Sl.v 1 s0,Sl.v 1 s1,(.map (some 2))]),(.map e0 k1)]) (.k [2] [false,true,false] [] [0,1,5,19] ⟨trF h0,trivial⟩) ?_
 replace hm:=bb_cases hm;rcases hm with ⟨h3,hm⟩ | ⟨h3,hm⟩
 ·refine .ifT (isS r0) (by kernel_rfl) h3 ?_
  refine .then (.rK ?_)
  refine .ghs (fr 52 [(4,zI x0)]) (hT 3 [(oC [zI z1,Sl.v 1 s0,Sl.v 1 s1,(.map (some 2))]),(.map e0 k1)]) (.k [2] [false,true,false] [] [4] ⟨trF h0,trivial⟩) ?_
  refine .ghs (fr 52 [(4,zI x0)]) (hT 3 [(oC [zI z1,Sl.v 1 s0,Sl.v 1 s1,(.map (some 2))]),(.map e0 k1)]) (.k [2] [false,true,false] [] [4] ⟨trF h0,trivial⟩) ?_
  refine .ret ?_
  exact finO_ret (zI x0) [(oC [zI z1,Sl.v 1 s0,Sl.v 1 s1,(.map (some 2))]),(.map e0 k1)] (by kernel_rfl) hm (Nat.le_of_ble_eq_true rfl) (ooAt_cons (pO_c _) (ooAt_cons (pO_m _ _) ooAt_nil))
 ·refine .ifF (isS r0) (by kernel_rfl) h3 ?_
  refine .skip ?_
  refine .ghs (fr 52 [(0,pt 1 0),(1,.int .u16 z0)]) (hT 3 [(oC [zI z1,Sl.v 1 s0,Sl.v 1 s1,(.map (some 2))]),(.map e0 k1)]) (.k [2] [false,true,false] [] [0,1] ⟨trF h0,trivial⟩) ?_
  refine .then (.rK ?_)
  refine .ghs (fr 52 [(0,pt 1 0),(1,.int .u16 z0),(7,(zI (0:Int)))]) (hT 3 [(oC [zI z1,Sl.v 1 s0,Sl.v 1 s1,(.map (some 2))]),(.map e0 k1)]) (.k [2] [false,true,false] [] [0,1,7] ⟨trF h0,trivial⟩) ?_
  refine .join (v:=v) (fun y:Int×Int×Int×Sl×Sl×List Ent×Nat=>((fr 52 [(0,pt 1 0),(1,(.int .u16 y.1)),(7,(zI y.2.1))]),(hT 3 [(oC [(zI y.2.2.1),(Sl.v 1 y.2.2.2.1),(Sl.v 1 y.2.2.2.2.1),(.map (some 2))]),(.map y.2.2.2.2.2.1 y.2.2.2.2.2.2)]))) (fun y=>m10660_0 pu n y.1 y.2.1 y.2.2.1 y.2.2.2.1 y.2.2.2.2.1 y.2.2.2.2.2.1 y.2.2.2.2.2.2) ?_ ?_
  ·rintro ⟨z2, z3, z4, s2, s3, e1, k2⟩ hm
   exact w10660_0 pu n z2 z3 z4 s2 s3 e1 k2 hm
  ·refine .then ?_
   replace hm:=oo_inv hm;obtain ⟨v0,h4,hm⟩:=hm
   replace hm:=inv_toSl hm;obtain ⟨s4,rfl,hm⟩:=hm
   refine .reg (eC 1 ((oo (pu 62 [.int .u16 z0]) none fun v=>some (v,(hT 3 [(oC [zI z1,Sl.v 1 s0,Sl.v 1 s1,(.map (some 2))]),(.map e0 k1)])))) (call_eq h4) (eE)) ?_
   refine .ghs (fr 52 [(0,pt 1 0),(1,.int .u16 z0),(7,(zI (0:Int))),(22,Sl.v 1 s4),(23,(zI (Int.ofNat (Sl.n s4)))),(24,(zI (0:Int)))]) (hT 3 [(oC [zI z1,Sl.v 1 s0,Sl.v 1 s1,(.map (some 2))]),(.map e0 k1)]) (.k [2] [false,true,false] [] [0,1,7,22,23,24] ⟨trF h0,trivial⟩) ?_
   refine .block ?_
   refine .loopM (v:=v) (fun y:Int×Int×Sl×Int×Int×Int×Sl×Sl×List Ent×Nat=>((fr 52 [(0,pt 1 0),(1,(.int .u16 y.1)),(7,(zI y.2.1)),(22,(Sl.v 1 y.2.2.1)),(23,(zI y.2.2.2.1)),(24,(zI y.2.2.2.2.1))]),(hT 3 [(oC [(zI y.2.2.2.2.2.1),(Sl.v 1 y.2.2.2.2.2.2.1),(Sl.v 1 y.2.2.2.2.2.2.2.1),(.map (some 2))]),(.map y.2.2.2.2.2.2.2.2.1 y.2.2.2.2.2.2.2.2.2)]))) (fun w y=>l10660_2 pu n w y.1 y.2.1 y.2.2.1 y.2.2.2.1 y.2.2.2.2.1 y.2.2.2.2.2.1 y.2.2.2.2.2.2.1 y.2.2.2.2.2.2.2.1 y.2.2.2.2.2.2.2.2.1 y.2.2.2.2.2.2.2.2.2) n ⟨(z0,(0:Int),s4,(Int.ofNat (Sl.n s4)),(0:Int),z1,s0,s1,e0,k1),hm,(.k [2] [false,true,false] [] [0,1,7,22,23,24] ⟨trF h0,trivial⟩)⟩ (fun _=>rfl) ?_
   rintro w0 ⟨z5,z6,s5,z7,z8,z9,s6,s7,e2,k3⟩ hm
   replace hm:b10660_2 pu n (l10660_2 pu n w0) z5 z6 s5 z7 z8 z9 s6 s7 e2 k3 = some v:=hm
   unfold b10660_2 at hm
   refine .then (.rK ?_)
   replace hm:=bb_inv hm;obtain ⟨h5,hm⟩:=hm
   refine .ghs (fr 52 [(0,pt 1 0),(1,.int .u16 z5),(7,zI z6),(22,Sl.v 1 s5),(23,zI z7),(24,zI z8),(25,(zB (ilt z8 z7)))]) (hT 3 [(oC [zI z9,Sl.v 1 s6,Sl.v 1 s7,(.map (some 2))]),(.map e2 k3)]) (.k [2] [false,true,false] [] [0,1,7,22,23,24,25] ⟨trF h5,trivial⟩) ?_
   refine .then ?_
   replace hm:=bb_cases hm;rcases hm with ⟨h6,hm⟩ | ⟨h6,hm⟩
   ·refine .ifT (ilt z8 z7) (by kernel_rfl) h6 ?_
    refine .skip ?_
    refine .ghs (fr 52 [(0,pt 1 0),(1,.int .u16 z5),(7,zI z6),(22,Sl.v 1 s5),(23,zI z7),(24,zI z8)]) (hT 3 [(oC [zI z9,Sl.v 1 s6,Sl.v 1 s7,(.map (some 2))]),(.map e2 k3)]) (.k [2] [false,true,false] [] [0,1,7,22,23,24] ⟨trF h5,trivial⟩) ?_
    refine .then ?_
    refine .block ?_
    refine .then ?_
    replace hm:=oo_inv hm;obtain ⟨k4,h7,hm⟩:=hm
    obtain rfl:=toN_some h7
    replace hm:=bb_inv hm;obtain ⟨h8,hm⟩:=hm
    replace hm:=oo_inv hm;obtain ⟨v1,h9,hm⟩:=hm
    replace hm:=inv_toI hm;obtain ⟨x1,rfl,hm⟩:=hm
    refine .reg (eD (keep (hT 3 [(oC [zI z9,Sl.v 1 s6,Sl.v 1 s7,(.map (some 2))]),(.map e2 k3)]) (bb (an (Nat.blt k4 (Sl.n s5)) true) (some (fpV (k4 * 1) (Sl.cs s5))) none)) (keep_bb h8) (eD (keep (hT 3 [(oC [zI z9,Sl.v 1 s6,Sl.v 1 s7,(.map (some 2))]),(.map e2 k3)]) (nthL (Sl.cs s5) (k4 * 1))) (keep_eq h9) (eE))) ?_
    refine .ghs (fr 52 [(0,pt 1 0),(1,.int .u16 z5),(7,zI z6),(9,zI x1),(22,Sl.v 1 s5),(23,zI z7),(24,(zI (Int.ofNat k4)))]) (hT 3 [(oC [zI z9,Sl.v 1 s6,Sl.v 1 s7,(.map (some 2))]),(.map e2 k3)]) (.k [2] [false,true,false] [] [0,1,7,9,22,23,24] ⟨trF h5,trivial⟩) ?_
    replace hm:=oo_inv hm;obtain ⟨k5,h10,hm⟩:=hm
    obtain rfl:=toN_some h10
    replace hm:=bb_inv hm;obtain ⟨h11,hm⟩:=hm
    replace hm:=oo_inv hm;obtain ⟨v2,h12,hm⟩:=hm
    replace hm:=inv_vTup hm;obtain ⟨l0,rfl,hm⟩:=hm
    replace hm:=ll_uncons hm;obtain ⟨v3,l2361_0,rfl,hm⟩:=hm
    replace hm:=ll_uncons hm;obtain ⟨v4,l2361_1,rfl,hm⟩:=hm
    replace hm:=ll_uncons hm;obtain ⟨v5,l2361_2,rfl,hm⟩:=hm
    replace hm:=ll_end hm;obtain ⟨rfl,hm⟩:=hm
    replace hm:=inv_toI hm;obtain ⟨x2,rfl,hm⟩:=hm
    replace hm:=inv_vAgg hm;obtain ⟨l1,rfl,hm⟩:=hm
    replace hm:=ll_uncons hm;obtain ⟨v6,l2368_0,rfl,hm⟩:=hm
    replace hm:=ll_uncons hm;obtain ⟨v7,l2368_1,rfl,hm⟩:=hm
    replace hm:=ll_uncons hm;obtain ⟨v8,l2368_2,rfl,hm⟩:=hm
    replace hm:=ll_uncons hm;obtain ⟨v9,l2368_3,rfl,hm⟩:=hm
    replace hm:=ll_end hm;obtain ⟨rfl,hm⟩:=hm
    replace hm:=inv_toI hm;obtain ⟨x3,rfl,hm⟩:=hm
    replace hm:=inv_toSl hm;obtain ⟨s8,rfl,hm⟩:=hm
    replace hm:=inv_toSl hm;obtain ⟨s9,rfl,hm⟩:=hm
    replace hm:=bb_inv hm;obtain ⟨h13,hm⟩:=hm
    obtain rfl:=isMp_ok h13
    replace hm:=oo_inv hm;obtain ⟨y0,h14,hm⟩:=hm
    replace hm:=bb_inv hm;obtain ⟨h15,hm⟩:=hm
    refine .reg (eC 6 (objG tabs [[none],[none]] 2 [.tmp 0 true,.cell 1 3 false] [true,false] (pu 10660) [pt 1 0,(.int .u16 (aandNot .u16 z5 (shlI .u16 (1:Int) k5)))] (hT 3 [(oC [zI z9,Sl.v 1 s6,Sl.v 1 s7,(.map (some 2))]),(.map e2 k3)])) (objG_eq (as:=[pt 1 0,(.int .u16 (aandNot .u16 z5 (shlI .u16 (1:Int) k5)))]) (H1:=(hT 3 [(oC [zI z9,Sl.v 1 s6,Sl.v 1 s7,(.map (some 2))]),(.map e2 k3)])) (gvAL_c (gvA_1 gv_n) (gvAL_c (gvA_1 gv_n) gvAL_n)) (objF_eq (H2:=(hT 3 [(oC [zI x3,Sl.v 1 s8,Sl.v 1 s9,(.map (some 2))]),(.map (MapV.es y0) (MapV.clock y0))])) (v:=(zI x2)) (v':=(zI x2)) [some 0,some 1,some 2] [(true,some 1),(false,some 2)] [(oC [zI z9,Sl.v 1 s6,Sl.v 1 s7,(.map (some 2))]),(.map e2 k3)] [pt 1 0,(.int .u16 (aandNot .u16 z5 (shlI .u16 (1:Int) k5)))] [(.agg ⟨[zI x3,Sl.v 1 s8,Sl.v 1 s9,(.map (some 2))]⟩),v5] [(oC [zI x3,Sl.v 1 s8,Sl.v 1 s9,(.map (some 2))]),(.map (MapV.es y0) (MapV.clock y0))] [some 0,some 1,some 2] [(true,(oC [zI x3,Sl.v 1 s8,Sl.v 1 s9,(.map (some 2))])),(false,(.map (MapV.es y0) (MapV.clock y0)))] [(oC [zI x3,Sl.v 1 s8,Sl.v 1 s9,(.map (some 2))]),(.map (MapV.es y0) (MapV.clock y0))] (by kernel_rfl) (mapO_c (by kernel_rfl) (mapO_c (nO_map h11) mapO_n)) (Eq.trans (by kernel_rfl) h12) (mapO_c rfl (mapO_c (vMapO_some h14) mapO_n)) (mapO_c (by kernel_rfl) (mapO_c (bO_map h15) mapO_n)))) (eE)) ?_
    replace hm:=bb_inv hm;obtain ⟨h16,hm⟩:=hm
    refine .ghs (fr 52 [(0,pt 1 0),(1,.int .u16 z5),(7,(zI (bb (ilt z6 x2) x2 z6))),(22,Sl.v 1 s5),(23,zI z7),(24,(zI (Int.ofNat k4)))]) (hT 3 [(oC [zI x3,Sl.v 1 s8,Sl.v 1 s9,(.map (some 2))]),(.map (MapV.es y0) (MapV.clock y0))]) (.k [2] [false,true,false] [] [0,1,7,22,23,24] ⟨trF h16,trivial⟩) ?_
    refine .rK ?_
    exact ⟨(z5,(bb (ilt z6 x2) x2 z6),s5,z7,(wrapF .i64 (Int.add (Int.ofNat k4) (1:Int))),x3,s8,s9,(MapV.es y0),(MapV.clock y0)),hm,(.k [2] [false,true,false] [] [0,1,7,22,23,24] ⟨trF h16,trivial⟩)⟩
   ·refine .ifF (ilt z8 z7) (by kernel_rfl) h6 ?_
    refine .exit ?_
    exact ⟨(z5,z6,z9,s6,s7,e2,k3),hm,(.k [2] [false,true,false] [] [0,1,7] ⟨trF h5,trivial⟩)⟩
theorem r10660 {call:CallF} (pu:PureF) (n:Nat) (hcall:call = callP tabs isP pu (inl pu)) {args:LV} {os:List AObj} {z:Value} (ha:args.length = 2) (hk:os.length = 2) (hpl:∀ o ∈ os,plainO o) (hm:m10660 pu n (args ++ os.map encO) = some z):args.length≤52∧Run tt call (tabs.length + 2) c66_35 (Fr.made 52 args) (subHeap tabs os) (FinO tt tabs.length 2 [.tmp 4] z):=by
 subst hcall
 have hq:=len_cons ha;clear ha;obtain ⟨a0,args,rfl,ha⟩:=hq
 have hq:=len_cons ha;clear ha;obtain ⟨a1,args,rfl,ha⟩:=hq
 obtain rfl:=len_nil ha
 have hq:=len_cons hk;clear hk;obtain ⟨b0,os,rfl,hk⟩:=hq
 have hp0:plainO b0:=hpl b0 (by simp)
 have hq:=len_cons hk;clear hk;obtain ⟨b1,os,rfl,hk⟩:=hq
 have hp1:plainO b1:=hpl b1 (by simp)
 obtain rfl:=len_nil hk
 replace hm:m10660 pu n [a0,a1,encO b0,encO b1] = some z:=hm
 unfold m10660 at hm
 replace hm:(bb (isPt a0 1 0) (oo (toI .u16 a1) none fun x0=>(oo (vAgg (encO b0)) none fun l0=>(ll l0 none fun v0 l0=>(ll l0 none fun v1 l0=>(ll l0 none fun v2 l0=>(ll l0 none fun v3 l0=>(ll l0 (oo (toI .i64 v0) none fun x1=>(oo (toSl 1 v1) none fun s0=>(oo (toSl 1 v2) none fun s1=>(bb (isMp v3 2) (oo (vMapO (encO b1)) none fun y0=>(m10660_ pu n x0 x1 s0 s1 (MapV.es y0) (MapV.clock y0))) none)))) fun _ _=>none))))))) none) = some z:=hm
 replace hm:=bb_inv hm;obtain ⟨h0,hm⟩:=hm
 obtain rfl:=isPt_ok h0
 replace hm:=inv_toI hm;obtain ⟨x0,rfl,hm⟩:=hm
 replace hm:=oo_inv hm;obtain ⟨l0,h1,hm⟩:=hm
 obtain rfl:=vAgg_enc hp0 h1
 replace hm:=ll_uncons hm;obtain ⟨v0,l2388_0,rfl,hm⟩:=hm
 replace hm:=ll_uncons hm;obtain ⟨v1,l2388_1,rfl,hm⟩:=hm
 replace hm:=ll_uncons hm;obtain ⟨v2,l2388_2,rfl,hm⟩:=hm
 replace hm:=ll_uncons hm;obtain ⟨v3,l2388_3,rfl,hm⟩:=hm
 replace hm:=ll_end hm;obtain ⟨rfl,hm⟩:=hm
 replace hm:=inv_toI hm;obtain ⟨x1,rfl,hm⟩:=hm
 replace hm:=inv_toSl hm;obtain ⟨s0,rfl,hm⟩:=hm
 replace hm:=inv_toSl hm;obtain ⟨s1,rfl,hm⟩:=hm
 replace hm:=bb_inv hm;obtain ⟨h2,hm⟩:=hm
 obtain rfl:=isMp_ok h2
 replace hm:=oo_inv hm;obtain ⟨y0,h3,hm⟩:=hm
 obtain rfl:=vMapO_enc hp1 h3
 refine ⟨by simp,?_⟩
 exact .same (F':=(fr 52 [(0,pt 1 0),(1,.int .u16 x0)])) (H':=(hT 3 [(oC [zI x1,Sl.v 1 s0,Sl.v 1 s1,(.map (some 2))]),(.map (MapV.es y0) (MapV.clock y0))])) (by kernel_rfl) (by kernel_rfl) (q10660 pu n x0 x1 s0 s1 (MapV.es y0) (MapV.clock y0) hm)
def m10680_1 (pu:PureF) (n:Nat) (z0:Int) (s0 s1:Sl) (e0:List Ent) (k1:Nat):OV:=
 (bb (allL entClosed e0) (some (.tuple ⟨[(Sl.v 1 (Sl.mk 0 2 [])),(.agg ⟨[.int .i64 z0,Sl.v 1 s0,Sl.v 1 s1,(.map (some 2))]⟩),(encO (.map e0 k1))]⟩)) none)
def m10680_3 (pu:PureF) (n:Nat) (ih0:Sl→Int→Int→Int→Sl→Int→Int→Int→Sl→Sl→List Ent→Nat→OV) (s0:Sl) (z0 z1 z2:Int) (s1:Sl) (z3 z4 z5:Int) (s2 s3:Sl) (e0:List Ent) (k1:Nat):OV:=
 (bb (allL entClosed e0) (ih0 s0 z0 z1 z2 s1 z3 (wrapF .i64 (Int.add z4 (1:Int))) z5 s2 s3 e0 k1) none)
def b10680_2 (pu:PureF) (n:Nat) (ih0:Sl→Int→Int→Int→Sl→Int→Int→Int→Sl→Sl→List Ent→Nat→OV) (s0:Sl) (z0 z1 z2:Int) (s1:Sl) (z3 z4 z5:Int) (s2 s3:Sl) (e0:List Ent) (k1:Nat):OV:=
 (bb (allL entClosed e0) (bb (ilt z4 z3) (oo (toN z4) none fun k2=>(bb (an (Nat.blt k2 (Sl.n s1)) true) (oo (nthL (Sl.cs s1) (k2 * 1)) none fun v0=>(oo (toI .i64 v0) none fun x0=>(oo (toN x0) none fun k3=>(bb (an (Nat.blt k3 (Sl.n s2)) true) (oo (nthL (Sl.cs s2) (k3 * 1)) none fun v1=>(oo (toI .i64 v1) none fun x1=>(oo (toN z2) none fun k4=>(bb (an (Nat.blt k4 (Sl.n s3)) true) (oo (nthL (Sl.cs s3) (k4 * 1)) none fun v2=>(oo (toI .i64 v2) none fun x2=>(bb (ieq x1 x2) (oo (pu 72 [Sl.v 1 s0]) none fun v3=>(oo (toSl 1 v3) none fun s4=>(bb (an (orr (Nat.beq (Sl.fl s4) 1) (Nat.beq (Sl.fl s4) 2)) (roomy ((Sl.n s4) + 1) 8)) (bb (an (Nat.ble (0 + ((Sl.n s4) + 1) * 1) (len (appL (Sl.cs s4) ([(.int .i64 (Int.ofNat k3))]:LV)))) (allL closed1 (takeL (((Sl.n s4) + 1) * 1) (dropL 0 (appL (Sl.cs s4) ([(.int .i64 (Int.ofNat k3))]:LV)))))) (bb (allL entClosed e0) (oo (pu 10680 [(.pointer (some ⟨1,0,none⟩)),(Sl.v 1 (Sl.mk ((Sl.n s4) + 1) 0 (takeL (((Sl.n s4) + 1) * 1) (dropL 0 (appL (Sl.cs s4) ([(.int .i64 (Int.ofNat k3))]:LV)))))),(.int .u16 (aandNot .u16 z0 (shlI .u16 (1:Int) k3))),.int .i64 z1,(.agg ⟨[.int .i64 z5,Sl.v 1 s2,Sl.v 1 s3,(.map (some 2))]⟩),(encO (.map e0 k1))]) none fun v4=>(oo (vTup v4) none fun l0=>(ll l0 none fun v5 l0=>(ll l0 none fun v6 l0=>(ll l0 none fun v7 l0=>(ll l0 (oo (toSl 1 v5) none fun s5=>(oo (vAgg v6) none fun l1=>(ll l1 none fun v8 l1=>(ll l1 none fun v9 l1=>(ll l1 none fun v10 l1=>(ll l1 none fun v11 l1=>(ll l1 (oo (toI .i64 v8) none fun x3=>(oo (toSl 1 v9) none fun s6=>(oo (toSl 1 v10) none fun s7=>(bb (isMp v11 2) (oo (vMapO v7) none fun y0=>(bb (allL entClosed (MapV.es y0)) (bb (allL entClosed (MapV.es y0)) (bb (orr (Nat.beq (Sl.fl s5) 2) (orr (Nat.beq (Sl.fl s5) 3) (Nat.ble 1 (Sl.n s5)))) (bb (bq false (Nat.beq (Sl.fl s5) 2)) (some (.tuple ⟨[Sl.v 1 s5,(.agg ⟨[.int .i64 x3,Sl.v 1 s6,Sl.v 1 s7,(.map (some 2))]⟩),(encO (.map (MapV.es y0) (MapV.clock y0)))]⟩)) (m10680_3 pu n ih0 s0 z0 z1 (Int.ofNat k4) s1 z3 (Int.ofNat k2) x3 s6 s7 (MapV.es y0) (MapV.clock y0))) none) none) none)) none)))) fun _ _=>none))))))) fun _ _=>none)))))) none) none) none))) (m10680_3 pu n ih0 s0 z0 z1 (Int.ofNat k4) s1 z3 (Int.ofNat k2) z5 s2 s3 e0 k1)))) none)))) none)))) none)) (m10680_1 pu n z5 s2 s3 e0 k1)) none)
def l10680_2 (pu:PureF) (n w:Nat):Sl→Int→Int→Int→Sl→Int→Int→Int→Sl→Sl→List Ent→Nat→OV:=
 Nat.rec (motive:=fun _=>Sl→Int→Int→Int→Sl→Int→Int→Int→Sl→Sl→List Ent→Nat→OV) (fun _ _ _ _ _ _ _ _ _ _ _ _=>none) (fun _ ih0=>b10680_2 pu n ih0) w
def m10680_0 (pu:PureF) (n:Nat) (s0:Sl) (z0 z1 z2:Int) (b0:Bool) (z3:Int) (s1 s2:Sl) (e0:List Ent) (k1:Nat):OV:=
 (bb b0 (bb (allL entClosed e0) (some (.tuple ⟨[Sl.v 1 s0,(.agg ⟨[.int .i64 z3,Sl.v 1 s1,Sl.v 1 s2,(.map (some 2))]⟩),(encO (.map e0 k1))]⟩)) none) (bb (allL entClosed e0) (oo (pu 62 [.int .u16 z0]) none fun v0=>(oo (toSl 1 v0) none fun s3=>(l10680_2 pu n n s0 z0 z1 z2 s3 (Int.ofNat (Sl.n s3)) (0:Int) z3 s1 s2 e0 k1))) none))
def m10680_ (pu:PureF) (n:Nat) (s0:Sl) (z0 z1 z2:Int) (s1 s2:Sl) (e0:List Ent) (k1:Nat):OV:=
 (bb (allL entClosed e0) (oo (toN (wrapF .i64 (Int.sub (Int.ofNat (Sl.n s0)) (1:Int)))) none fun k2=>(bb (an (Nat.blt k2 (Sl.n s0)) true) (oo (nthL (Sl.cs s0) (k2 * 1)) none fun v0=>(oo (toI .i64 v0) none fun x0=>(oo (toN x0) none fun k3=>(bb (an (Nat.blt k3 (Sl.n s2)) true) (oo (nthL (Sl.cs s2) (k3 * 1)) none fun v1=>(oo (toI .i64 v1) none fun x1=>(bb (an (Nat.blt 0 (Sl.n s0)) true) (oo (nthL (Sl.cs s0) (0 * 1)) none fun v2=>(oo (toI .i64 v2) none fun x2=>(oo (toN x2) none fun k4=>(bb (an (Nat.blt k4 (Sl.n s1)) true) (oo (nthL (Sl.cs s1) (k4 * 1)) none fun v3=>(oo (toI .i64 v3) none fun x3=>(bb (ieq x1 x3) (oo (pu 71 [(.agg ⟨[.int .i64 z2,Sl.v 1 s1,Sl.v 1 s2]⟩),.int .u16 z0]) none fun v4=>(oo (vBool v4) none fun b0=>(bb b0 (bb (allL entClosed e0) (oo (pu 10660 [(.pointer (some ⟨1,0,none⟩)),.int .u16 z0,(.agg ⟨[.int .i64 z2,Sl.v 1 s1,Sl.v 1 s2,(.map (some 2))]⟩),(encO (.map e0 k1))]) none fun v5=>(oo (vTup v5) none fun l0=>(ll l0 none fun v6 l0=>(ll l0 none fun v7 l0=>(ll l0 none fun v8 l0=>(ll l0 (oo (toI .i64 v6) none fun x4=>(oo (vAgg v7) none fun l1=>(ll l1 none fun v9 l1=>(ll l1 none fun v10 l1=>(ll l1 none fun v11 l1=>(ll l1 none fun v12 l1=>(ll l1 (oo (toI .i64 v9) none fun x5=>(oo (toSl 1 v10) none fun s3=>(oo (toSl 1 v11) none fun s4=>(bb (isMp v12 2) (oo (vMapO v8) none fun y0=>(bb (allL entClosed (MapV.es y0)) (bb (allL entClosed (MapV.es y0)) (m10680_0 pu n s0 z0 z1 (Int.ofNat k3) (ieq x4 z1) x5 s3 s4 (MapV.es y0) (MapV.clock y0)) none) none)) none)))) fun _ _=>none))))))) fun _ _=>none)))))) none) (m10680_0 pu n s0 z0 z1 (Int.ofNat k3) false z2 s1 s2 e0 k1)))) (m10680_0 pu n s0 z0 z1 (Int.ofNat k3) false z2 s1 s2 e0 k1)))) none)))) none))) none)))) none)) none)
def m10680 (pu:PureF) (n:Nat) (args:LV):OV:=
 (ll args none fun a0 args=>(ll args none fun a1 args=>(ll args none fun a2 args=>(ll args none fun a3 args=>(ll args none fun o0 args=>(ll args none fun o1 args=>(ll args (bb (isPt a0 1 0) (oo (toSl 1 a1) none fun s0=>(oo (toI .u16 a2) none fun x0=>(oo (toI .i64 a3) none fun x1=>(oo (vAgg o0) none fun l0=>(ll l0 none fun v0 l0=>(ll l0 none fun v1 l0=>(ll l0 none fun v2 l0=>(ll l0 none fun v3 l0=>(ll l0 (oo (toI .i64 v0) none fun x2=>(oo (toSl 1 v1) none fun s1=>(oo (toSl 1 v2) none fun s2=>(bb (isMp v3 2) (oo (vMapO o1) none fun y0=>(m10680_ pu n s0 x0 x1 x2 s1 s2 (MapV.es y0) (MapV.clock y0))) none)))) fun _ _=>none))))))))) none) fun _ _=>none)))))))
theorem w10680_1 (pu:PureF) (n:Nat) (z0:Int) (s0 s1:Sl) (e0:List Ent) (k1:Nat) {v:Value} (hm:m10680_1 pu n z0 s0 s1 e0 k1 = some v):Run tt (callP tabs isP pu (inl pu)) 3 c68_31 (fr 94 []) (hT 3 [(oC [zI z0,Sl.v 1 s0,Sl.v 1 s1,(.map (some 2))]),(.map e0 k1)]) (FinO tt 1 2 [.tmp 8] v):=by
 unfold m10680_1 at hm
 refine .then (.rK ?_)
 replace hm:=bb_inv hm;obtain ⟨h0,hm⟩:=hm
 refine .ghs (fr 94 [(8,(.slice none 0 0))]) (hT 3 [(oC [zI z0,Sl.v 1 s0,Sl.v 1 s1,(.map (some 2))]),(.map e0 k1)]) (.k [2] [false,true,false] [] [8] ⟨trF h0,trivial⟩) ?_
 refine .ghs (fr 94 [(8,(Sl.v 1 (Sl.mk 0 2 [])))]) (hT 3 [(oC [zI z0,Sl.v 1 s0,Sl.v 1 s1,(.map (some 2))]),(.map e0 k1)]) (.freeze 3 8 1 (by kernel_rfl) (by kernel_rfl) (.k [2] [false,true,false] [] [8] ⟨trF h0,trivial⟩)) ?_
 refine .ret ?_
 exact finO_ret (Sl.v 1 (Sl.mk 0 2 [])) [(oC [zI z0,Sl.v 1 s0,Sl.v 1 s1,(.map (some 2))]),(.map e0 k1)] (by kernel_rfl) hm (Nat.le_of_ble_eq_true rfl) (ooAt_cons (pO_c _) (ooAt_cons (pO_m _ _) ooAt_nil))
theorem q10680 (pu:PureF) (n:Nat) (s0:Sl) (z0 z1 z2:Int) (s1 s2:Sl) (e0:List Ent) (k1:Nat) {v:Value} (hm:m10680_ pu n s0 z0 z1 z2 s1 s2 e0 k1 = some v):Run tt (callP tabs isP pu (inl pu)) 3 c68_35 (fr 94 [(0,pt 1 0),(1,Sl.v 1 s0),(2,.int .u16 z0),(3,zI z1)]) (hT 3 [(oC [zI z2,Sl.v 1 s1,Sl.v 1 s2,(.map (some 2))]),(.map e0 k1)]) (FinO tt 1 2 [.tmp 8] v):=by
 unfold m10680_ at hm
 refine .then (.rK ?_)
 replace hm:=bb_inv hm;obtain ⟨h0,hm⟩:=hm
 refine .ghs (fr 94 [(0,pt 1 0),(1,Sl.v 1 s0),(2,.int .u16 z0),(3,zI z1)]) (hT 3 [(oC [zI z2,Sl.v 1 s1,Sl.v 1 s2,(.map (some 2))]),(.map e0 k1)]) (.k [2] [false,true,false] [] [0,1,2,3] ⟨trF h0,trivial⟩) ?_
 refine .then ?_
 replace hm:=oo_inv hm;obtain ⟨k2,h1,hm⟩:=hm
 replace hm:=bb_inv hm;obtain ⟨h2,hm⟩:=hm
 replace hm:=oo_inv hm;obtain ⟨v0,h3,hm⟩:=hm
 replace hm:=inv_toI hm;obtain ⟨x0,rfl,hm⟩:=hm
 refine .reg (eC 3 (some ((zI (wrapF .i64 (Int.sub (Int.ofNat (Sl.n s0)) (1:Int)))),(hT 3 [(oC [zI z2,Sl.v 1 s1,Sl.v 1 s2,(.map (some 2))]),(.map e0 k1)]))) (show _ = some ((zI (Int.ofNat k2)),_) from (by rw [toN_some h1])) (eD (keep (hT 3 [(oC [zI z2,Sl.v 1 s1,Sl.v 1 s2,(.map (some 2))]),(.map e0 k1)]) (bb (an (Nat.blt k2 (Sl.n s0)) true) (some (fpV (k2 * 1) (Sl.cs s0))) none)) (keep_bb h2) (eD (keep (hT 3 [(oC [zI z2,Sl.v 1 s1,Sl.v 1 s2,(.map (some 2))]),(.map e0 k1)]) (nthL (Sl.cs s0) (k2 * 1))) (keep_eq h3) (eE)))) ?_
 refine .ghs (fr 94 [(0,pt 1 0),(1,Sl.v 1 s0),(2,.int .u16 z0),(3,zI z1),(9,zI x0)]) (hT 3 [(oC [zI z2,Sl.v 1 s1,Sl.v 1 s2,(.map (some 2))]),(.map e0 k1)]) (.k [2] [false,true,false] [] [0,1,2,3,9] ⟨trF h0,trivial⟩) ?_
 refine .then ?_
 refine .join (v:=v) (fun y:Sl×Int×Int×Int×Bool×Int×Sl×Sl×List Ent×Nat=>((fr 94 [(0,pt 1 0),(1,(Sl.v 1 y.1)),(2,(.int .u16 y.2.1)),(3,(zI y.2.2.1)),(9,(zI y.2.2.2.1)),(52,(zB y.2.2.2.2.1))]),(hT 3 [(oC [(zI y.2.2.2.2.2.1),(Sl.v 1 y.2.2.2.2.2.2.1),(Sl.v 1 y.2.2.2.2.2.2.2.1),(.map (some 2))]),(.map y.2.2.2.2.2.2.2.2.1 y.2.2.2.2.2.2.2.2.2)]))) (fun y=>m10680_0 pu n y.1 y.2.1 y.2.2.1 y.2.2.2.1 y.2.2.2.2.1 y.2.2.2.2.2.1 y.2.2.2.2.2.2.1 y.2.2.2.2.2.2.2.1 y.2.2.2.2.2.2.2.2.1 y.2.2.2.2.2.2.2.2.2) ?_ ?_
 ·rintro ⟨s3, z3, z4, z5, b0, z6, s4, s5, e1, k3⟩ hm
  unfold m10680_0 at hm
  replace hm:=bb_cases hm;rcases hm with ⟨h4,hm⟩ | ⟨h4,hm⟩
  ·refine .ifT b0 (by kernel_rfl) h4 ?_
   refine .then (.rK ?_)
   replace hm:=bb_inv hm;obtain ⟨h5,hm⟩:=hm
   refine .ghs (fr 94 [(8,Sl.v 1 s3)]) (hT 3 [(oC [zI z6,Sl.v 1 s4,Sl.v 1 s5,(.map (some 2))]),(.map e1 k3)]) (.k [2] [false,true,false] [] [8] ⟨trF h5,trivial⟩) ?_
   refine .ghs (fr 94 [(8,Sl.v 1 s3)]) (hT 3 [(oC [zI z6,Sl.v 1 s4,Sl.v 1 s5,(.map (some 2))]),(.map e1 k3)]) (.k [2] [false,true,false] [] [8] ⟨trF h5,trivial⟩) ?_
   refine .ret ?_
   exact finO_ret (Sl.v 1 s3) [(oC [zI z6,Sl.v 1 s4,Sl.v 1 s5,(.map (some 2))]),(.map e1 k3)] (by kernel_rfl) hm (Nat.le_of_ble_eq_true rfl) (ooAt_cons (pO_c _) (ooAt_cons (pO_m _ _) ooAt_nil))
  ·refine .ifF b0 (by kernel_rfl) h4 ?_
   refine .skip ?_
   replace hm:=bb_inv hm;obtain ⟨h6,hm⟩:=hm
   refine .ghs (fr 94 [(0,pt 1 0),(1,Sl.v 1 s3),(2,.int .u16 z3),(3,zI z4),(9,zI z5)]) (hT 3 [(oC [zI z6,Sl.v 1 s4,Sl.v 1 s5,(.map (some 2))]),(.map e1 k3)]) (.k [2] [false,true,false] [] [0,1,2,3,9] ⟨trF h6,trivial⟩) ?_
   refine .join (v:=v) (fun y:Int×Sl×Sl×List Ent×Nat=>((fr 94 []),(hT 3 [(oC [(zI y.1),(Sl.v 1 y.2.1),(Sl.v 1 y.2.2.1),(.map (some 2))]),(.map y.2.2.2.1 y.2.2.2.2)]))) (fun y=>m10680_1 pu n y.1 y.2.1 y.2.2.1 y.2.2.2.1 y.2.2.2.2) ?_ ?_
   ·rintro ⟨z7, s6, s7, e2, k4⟩ hm
    exact w10680_1 pu n z7 s6 s7 e2 k4 hm
   ·refine .then ?_
    replace hm:=oo_inv hm;obtain ⟨v1,h7,hm⟩:=hm
    replace hm:=inv_toSl hm;obtain ⟨s8,rfl,hm⟩:=hm
    refine .reg (eC 1 ((oo (pu 62 [.int .u16 z3]) none fun v=>some (v,(hT 3 [(oC [zI z6,Sl.v 1 s4,Sl.v 1 s5,(.map (some 2))]),(.map e1 k3)])))) (call_eq h7) (eE)) ?_
    refine .ghs (fr 94 [(0,pt 1 0),(1,Sl.v 1 s3),(2,.int .u16 z3),(3,zI z4),(9,zI z5),(55,Sl.v 1 s8),(56,(zI (Int.ofNat (Sl.n s8)))),(57,(zI (0:Int)))]) (hT 3 [(oC [zI z6,Sl.v 1 s4,Sl.v 1 s5,(.map (some 2))]),(.map e1 k3)]) (.k [2] [false,true,false] [] [0,1,2,3,9,55,56,57] ⟨trF h6,trivial⟩) ?_
    refine .block ?_
    refine .loopM (v:=v) (fun y:Sl×Int×Int×Int×Sl×Int×Int×Int×Sl×Sl×List Ent×Nat=>((fr 94 [(0,pt 1 0),(1,(Sl.v 1 y.1)),(2,(.int .u16 y.2.1)),(3,(zI y.2.2.1)),(9,(zI y.2.2.2.1)),(55,(Sl.v 1 y.2.2.2.2.1)),(56,(zI y.2.2.2.2.2.1)),(57,(zI y.2.2.2.2.2.2.1))]),(hT 3 [(oC [(zI y.2.2.2.2.2.2.2.1),(Sl.v 1 y.2.2.2.2.2.2.2.2.1),(Sl.v 1 y.2.2.2.2.2.2.2.2.2.1),(.map (some 2))]),(.map y.2.2.2.2.2.2.2.2.2.2.1 y.2.2.2.2.2.2.2.2.2.2.2)]))) (fun w y=>l10680_2 pu n w y.1 y.2.1 y.2.2.1 y.2.2.2.1 y.2.2.2.2.1 y.2.2.2.2.2.1 y.2.2.2.2.2.2.1 y.2.2.2.2.2.2.2.1 y.2.2.2.2.2.2.2.2.1 y.2.2.2.2.2.2.2.2.2.1 y.2.2.2.2.2.2.2.2.2.2.1 y.2.2.2.2.2.2.2.2.2.2.2) n ⟨(s3,z3,z4,z5,s8,(Int.ofNat (Sl.n s8)),(0:Int),z6,s4,s5,e1,k3),hm,(.k [2] [false,true,false] [] [0,1,2,3,9,55,56,57] ⟨trF h6,trivial⟩)⟩ (fun _=>rfl) ?_
    rintro w0 ⟨s9,z8,z9,z10,s10,z11,z12,z13,s11,s12,e3,k5⟩ hm
    replace hm:b10680_2 pu n (l10680_2 pu n w0) s9 z8 z9 z10 s10 z11 z12 z13 s11 s12 e3 k5 = some v:=hm
    unfold b10680_2 at hm
    refine .then (.rK ?_)
    replace hm:=bb_inv hm;obtain ⟨h8,hm⟩:=hm
    refine .ghs (fr 94 [(0,pt 1 0),(1,Sl.v 1 s9),(2,.int .u16 z8),(3,zI z9),(9,zI z10),(55,Sl.v 1 s10),(56,zI z11),(57,zI z12),(58,(zB (ilt z12 z11)))]) (hT 3 [(oC [zI z13,Sl.v 1 s11,Sl.v 1 s12,(.map (some 2))]),(.map e3 k5)]) (.k [2] [false,true,false] [] [0,1,2,3,9,55,56,57,58] ⟨trF h8,trivial⟩) ?_
    refine .then ?_
    replace hm:=bb_cases hm;rcases hm with ⟨h9,hm⟩ | ⟨h9,hm⟩
    ·refine .ifT (ilt z12 z11) (by kernel_rfl) h9 ?_
     refine .skip ?_
     refine .ghs (fr 94 [(0,pt 1 0),(1,Sl.v 1 s9),(2,.int .u16 z8),(3,zI z9),(9,zI z10),(55,Sl.v 1 s10),(56,zI z11),(57,zI z12)]) (hT 3 [(oC [zI z13,Sl.v 1 s11,Sl.v 1 s12,(.map (some 2))]),(.map e3 k5)]) (.k [2] [false,true,false] [] [0,1,2,3,9,55,56,57] ⟨trF h8,trivial⟩) ?_
     refine .join (v:=v) (fun y:Sl×Int×Int×Int×Sl×Int×Int×Int×Sl×Sl×List Ent×Nat=>((fr 94 [(0,pt 1 0),(1,(Sl.v 1 y.1)),(2,(.int .u16 y.2.1)),(3,(zI y.2.2.1)),(9,(zI y.2.2.2.1)),(55,(Sl.v 1 y.2.2.2.2.1)),(56,(zI y.2.2.2.2.2.1)),(57,(zI y.2.2.2.2.2.2.1))]),(hT 3 [(oC [(zI y.2.2.2.2.2.2.2.1),(Sl.v 1 y.2.2.2.2.2.2.2.2.1),(Sl.v 1 y.2.2.2.2.2.2.2.2.2.1),(.map (some 2))]),(.map y.2.2.2.2.2.2.2.2.2.2.1 y.2.2.2.2.2.2.2.2.2.2.2)]))) (fun y=>m10680_3 pu n (l10680_2 pu n w0) y.1 y.2.1 y.2.2.1 y.2.2.2.1 y.2.2.2.2.1 y.2.2.2.2.2.1 y.2.2.2.2.2.2.1 y.2.2.2.2.2.2.2.1 y.2.2.2.2.2.2.2.2.1 y.2.2.2.2.2.2.2.2.2.1 y.2.2.2.2.2.2.2.2.2.2.1 y.2.2.2.2.2.2.2.2.2.2.2) ?_ ?_
     ·rintro ⟨s13, z14, z15, z16, s14, z17, z18, z19, s15, s16, e4, k6⟩ hm
      unfold m10680_3 at hm
      refine .rK ?_
      replace hm:=bb_inv hm;obtain ⟨h10,hm⟩:=hm
      exact ⟨(s13,z14,z15,z16,s14,z17,(wrapF .i64 (Int.add z18 (1:Int))),z19,s15,s16,e4,k6),hm,(.k [2] [false,true,false] [] [0,1,2,3,9,55,56,57] ⟨trF h10,trivial⟩)⟩
     ·refine .block ?_
      refine .then ?_
      replace hm:=oo_inv hm;obtain ⟨k7,h11,hm⟩:=hm
      obtain rfl:=toN_some h11
      replace hm:=bb_inv hm;obtain ⟨h12,hm⟩:=hm
      replace hm:=oo_inv hm;obtain ⟨v2,h13,hm⟩:=hm
      replace hm:=inv_toI hm;obtain ⟨x1,rfl,hm⟩:=hm
      refine .reg (eD (keep (hT 3 [(oC [zI z13,Sl.v 1 s11,Sl.v 1 s12,(.map (some 2))]),(.map e3 k5)]) (bb (an (Nat.blt k7 (Sl.n s10)) true) (some (fpV (k7 * 1) (Sl.cs s10))) none)) (keep_bb h12) (eD (keep (hT 3 [(oC [zI z13,Sl.v 1 s11,Sl.v 1 s12,(.map (some 2))]),(.map e3 k5)]) (nthL (Sl.cs s10) (k7 * 1))) (keep_eq h13) (eE))) ?_
      refine .ghs (fr 94 [(0,pt 1 0),(1,Sl.v 1 s9),(2,.int .u16 z8),(3,zI z9),(9,zI z10),(11,zI x1),(55,Sl.v 1 s10),(56,zI z11),(57,(zI (Int.ofNat k7)))]) (hT 3 [(oC [zI z13,Sl.v 1 s11,Sl.v 1 s12,(.map (some 2))]),(.map e3 k5)]) (.k [2] [false,true,false] [] [0,1,2,3,9,11,55,56,57] ⟨trF h8,trivial⟩) ?_
      refine .then ?_
      replace hm:=oo_inv hm;obtain ⟨k8,h14,hm⟩:=hm
      obtain rfl:=toN_some h14
      replace hm:=bb_inv hm;obtain ⟨h15,hm⟩:=hm
      replace hm:=oo_inv hm;obtain ⟨v3,h16,hm⟩:=hm
      replace hm:=inv_toI hm;obtain ⟨x2,rfl,hm⟩:=hm
      replace hm:=oo_inv hm;obtain ⟨k9,h17,hm⟩:=hm
      obtain rfl:=toN_some h17
      replace hm:=bb_inv hm;obtain ⟨h18,hm⟩:=hm
      replace hm:=oo_inv hm;obtain ⟨v4,h19,hm⟩:=hm
      replace hm:=inv_toI hm;obtain ⟨x3,rfl,hm⟩:=hm
      refine .reg (eC 6 (keep (hT 3 [(oC [zI z13,Sl.v 1 s11,Sl.v 1 s12,(.map (some 2))]),(.map e3 k5)]) (bb (an (Nat.blt k8 (Sl.n s11)) true) (some (fpV (k8 * 1) (Sl.cs s11))) none)) (keep_bb h15) (eD (keep (hT 3 [(oC [zI z13,Sl.v 1 s11,Sl.v 1 s12,(.map (some 2))]),(.map e3 k5)]) (nthL (Sl.cs s11) (k8 * 1))) (keep_eq h16) (eC 6 (keep (hT 3 [(oC [zI z13,Sl.v 1 s11,Sl.v 1 s12,(.map (some 2))]),(.map e3 k5)]) (bb (an (Nat.blt k9 (Sl.n s12)) true) (some (fpV (k9 * 1) (Sl.cs s12))) none)) (keep_bb h18) (eD (keep (hT 3 [(oC [zI z13,Sl.v 1 s11,Sl.v 1 s12,(.map (some 2))]),(.map e3 k5)]) (nthL (Sl.cs s12) (k9 * 1))) (keep_eq h19) (eE))))) ?_
      refine .ghs (fr 94 [(0,pt 1 0),(1,Sl.v 1 s9),(2,.int .u16 z8),(3,zI z9),(9,(zI (Int.ofNat k9))),(11,(zI (Int.ofNat k8))),(55,Sl.v 1 s10),(56,zI z11),(57,(zI (Int.ofNat k7))),(77,(zB (ieq x2 x3)))]) (hT 3 [(oC [zI z13,Sl.v 1 s11,Sl.v 1 s12,(.map (some 2))]),(.map e3 k5)]) (.k [2] [false,true,false] [] [0,1,2,3,9,11,55,56,57,77] ⟨trF h8,trivial⟩) ?_
      replace hm:=bb_cases hm;rcases hm with ⟨h20,hm⟩ | ⟨h20,hm⟩
      ·refine .ifT (ieq x2 x3) (by kernel_rfl) h20 ?_
       refine .then ?_
       replace hm:=oo_inv hm;obtain ⟨v5,h21,hm⟩:=hm
       replace hm:=inv_toSl hm;obtain ⟨s17,rfl,hm⟩:=hm
       replace hm:=bb_inv hm;obtain ⟨h22,hm⟩:=hm
       replace hm:=bb_inv hm;obtain ⟨h23,hm⟩:=hm
       replace hm:=bb_inv hm;obtain ⟨h24,hm⟩:=hm
       replace hm:=oo_inv hm;obtain ⟨v6,h25,hm⟩:=hm
       replace hm:=inv_vTup hm;obtain ⟨l0,rfl,hm⟩:=hm
       replace hm:=ll_uncons hm;obtain ⟨v7,l4019_0,rfl,hm⟩:=hm
       replace hm:=ll_uncons hm;obtain ⟨v8,l4019_1,rfl,hm⟩:=hm
       replace hm:=ll_uncons hm;obtain ⟨v9,l4019_2,rfl,hm⟩:=hm
       replace hm:=ll_end hm;obtain ⟨rfl,hm⟩:=hm
       replace hm:=inv_toSl hm;obtain ⟨s18,rfl,hm⟩:=hm
       replace hm:=inv_vAgg hm;obtain ⟨l1,rfl,hm⟩:=hm
       replace hm:=ll_uncons hm;obtain ⟨v10,l4026_0,rfl,hm⟩:=hm
       replace hm:=ll_uncons hm;obtain ⟨v11,l4026_1,rfl,hm⟩:=hm
       replace hm:=ll_uncons hm;obtain ⟨v12,l4026_2,rfl,hm⟩:=hm
       replace hm:=ll_uncons hm;obtain ⟨v13,l4026_3,rfl,hm⟩:=hm
       replace hm:=ll_end hm;obtain ⟨rfl,hm⟩:=hm
       replace hm:=inv_toI hm;obtain ⟨x4,rfl,hm⟩:=hm
       replace hm:=inv_toSl hm;obtain ⟨s19,rfl,hm⟩:=hm
       replace hm:=inv_toSl hm;obtain ⟨s20,rfl,hm⟩:=hm
       replace hm:=bb_inv hm;obtain ⟨h26,hm⟩:=hm
       obtain rfl:=isMp_ok h26
       replace hm:=oo_inv hm;obtain ⟨y0,h27,hm⟩:=hm
       replace hm:=bb_inv hm;obtain ⟨h28,hm⟩:=hm
       refine .reg (eC 9 ((oo (pu 72 [Sl.v 1 s9]) none fun v=>some (v,(hT 4 [(oC [zI z13,Sl.v 1 s11,Sl.v 1 s12,(.map (some 2))]),(.map e3 k5),(oC [(zI (Int.ofNat k8))])])))) (call_eq h21) (eD (appTD (hT 4 [(oC [zI z13,Sl.v 1 s11,Sl.v 1 s12,(.map (some 2))]),(.map e3 k5),(oC [(zI (Int.ofNat k8))])]) 1 8 s17 1 ([(zI (Int.ofNat k8))]:LV)) (appT_eq h22) (eD (objG tabs [[none],[some 1],[none],[none]] 4 [.tmp 0 true,.cell 1 3 false] [true,false] (pu 10680) [pt 1 0,(sc 4 0 1 ((Sl.n s17) + 1) (d2 ((Sl.n s17) + 1))),(.int .u16 (aandNot .u16 z8 (shlI .u16 (1:Int) k8))),zI z9] (hT 5 [(oC [zI z13,Sl.v 1 s11,Sl.v 1 s12,(.map (some 2))]),(.map e3 k5),(oC [(zI (Int.ofNat k8))]),(oC (appL (Sl.cs s17) ([(zI (Int.ofNat k8))]:LV)))])) (objG_eq (as:=[pt 1 0,(Sl.v 1 (Sl.mk ((Sl.n s17) + 1) 0 (takeL (((Sl.n s17) + 1) * 1) (dropL 0 (appL (Sl.cs s17) ([(zI (Int.ofNat k8))]:LV)))))),(.int .u16 (aandNot .u16 z8 (shlI .u16 (1:Int) k8))),zI z9]) (H1:=(hT 5 [(oC [zI z13,Sl.v 1 s11,Sl.v 1 s12,(.map (some 2))]),(.map e3 k5),(oC [(zI (Int.ofNat k8))]),.dead])) (gvAL_c (gvA_1 gv_n) (gvAL_c (gvA_1 (gv_s (show giveV 1 (sc 4 0 1 ((Sl.n s17) + 1) (d2 ((Sl.n s17) + 1))) (hT 5 [(oC [zI z13,Sl.v 1 s11,Sl.v 1 s12,(.map (some 2))]),(.map e3 k5),(oC [(zI (Int.ofNat k8))]),(oC (appL (Sl.cs s17) ([(zI (Int.ofNat k8))]:LV)))]) = some ((Sl.v 1 (Sl.mk ((Sl.n s17) + 1) 0 (takeL (((Sl.n s17) + 1) * 1) (dropL 0 (appL (Sl.cs s17) ([(zI (Int.ofNat k8))]:LV)))))),(hT 5 [(oC [zI z13,Sl.v 1 s11,Sl.v 1 s12,(.map (some 2))]),(.map e3 k5),(oC [(zI (Int.ofNat k8))]),.dead])) from giveV_sl 4 0 1 ((Sl.n s17) + 1) (d2 ((Sl.n s17) + 1)) (appL (Sl.cs s17) ([(zI (Int.ofNat k8))]:LV)) [] (by kernel_rfl) (by kernel_rfl) h23))) (gvAL_c (gvA_1 gv_n) (gvAL_c (gvA_1 gv_n) gvAL_n)))) (objF_eq (H2:=(hT 5 [(oC [zI x4,Sl.v 1 s19,Sl.v 1 s20,(.map (some 2))]),(.map (MapV.es y0) (MapV.clock y0)),(oC [(zI (Int.ofNat k8))]),.dead])) (v:=(Sl.v 1 s18)) (v':=(Sl.v 1 s18)) [some 0,some 1,some 2] [(true,some 1),(false,some 2)] [(oC [zI z13,Sl.v 1 s11,Sl.v 1 s12,(.map (some 2))]),(.map e3 k5)] [pt 1 0,(Sl.v 1 (Sl.mk ((Sl.n s17) + 1) 0 (takeL (((Sl.n s17) + 1) * 1) (dropL 0 (appL (Sl.cs s17) ([(zI (Int.ofNat k8))]:LV)))))),(.int .u16 (aandNot .u16 z8 (shlI .u16 (1:Int) k8))),zI z9] [(.agg ⟨[zI x4,Sl.v 1 s19,Sl.v 1 s20,(.map (some 2))]⟩),v9] [(oC [zI x4,Sl.v 1 s19,Sl.v 1 s20,(.map (some 2))]),(.map (MapV.es y0) (MapV.clock y0))] [some 0,some 1,some 2,none,none] [(true,(oC [zI x4,Sl.v 1 s19,Sl.v 1 s20,(.map (some 2))])),(false,(.map (MapV.es y0) (MapV.clock y0)))] [(oC [zI x4,Sl.v 1 s19,Sl.v 1 s20,(.map (some 2))]),(.map (MapV.es y0) (MapV.clock y0))] (by kernel_rfl) (mapO_c (by kernel_rfl) (mapO_c (nO_map h24) mapO_n)) (Eq.trans (by kernel_rfl) h25) (mapO_c rfl (mapO_c (vMapO_some h27) mapO_n)) (mapO_c (by kernel_rfl) (mapO_c (bO_map h28) mapO_n)))) (eE)))) ?_
       replace hm:=bb_inv hm;obtain ⟨h29,hm⟩:=hm
       refine .ghs (fr 94 [(0,pt 1 0),(1,Sl.v 1 s9),(2,.int .u16 z8),(3,zI z9),(9,(zI (Int.ofNat k9))),(12,Sl.v 1 s18),(55,Sl.v 1 s10),(56,zI z11),(57,(zI (Int.ofNat k7)))]) (hT 3 [(oC [zI x4,Sl.v 1 s19,Sl.v 1 s20,(.map (some 2))]),(.map (MapV.es y0) (MapV.clock y0))]) (.k [2] [false,true,false] [] [0,1,2,3,9,12,55,56,57] ⟨trF h29,trivial⟩) ?_
       refine .then ?_
       replace hm:=bb_inv hm;obtain ⟨h30,hm⟩:=hm
       refine .reg (eC 1 (keep (hT 3 [(oC [zI x4,Sl.v 1 s19,Sl.v 1 s20,(.map (some 2))]),(.map (MapV.es y0) (MapV.clock y0))]) (nilS false 1 s18)) (nilS_eq h30) (eE)) ?_
       refine .ghs (fr 94 [(0,pt 1 0),(1,Sl.v 1 s9),(2,.int .u16 z8),(3,zI z9),(9,(zI (Int.ofNat k9))),(12,Sl.v 1 s18),(55,Sl.v 1 s10),(56,zI z11),(57,(zI (Int.ofNat k7))),(91,(zB (bq false (Nat.beq (Sl.fl s18) 2))))]) (hT 3 [(oC [zI x4,Sl.v 1 s19,Sl.v 1 s20,(.map (some 2))]),(.map (MapV.es y0) (MapV.clock y0))]) (.k [2] [false,true,false] [] [0,1,2,3,9,12,55,56,57,91] ⟨trF h29,trivial⟩) ?_
       replace hm:=bb_cases hm;rcases hm with ⟨h31,hm⟩ | ⟨h31,hm⟩
       ·refine .ifT (bq false (Nat.beq (Sl.fl s18) 2)) (by kernel_rfl) h31 ?_
        refine .then (.rK ?_)
        refine .ghs (fr 94 [(8,Sl.v 1 s18)]) (hT 3 [(oC [zI x4,Sl.v 1 s19,Sl.v 1 s20,(.map (some 2))]),(.map (MapV.es y0) (MapV.clock y0))]) (.k [2] [false,true,false] [] [8] ⟨trF h29,trivial⟩) ?_
        refine .ghs (fr 94 [(8,Sl.v 1 s18)]) (hT 3 [(oC [zI x4,Sl.v 1 s19,Sl.v 1 s20,(.map (some 2))]),(.map (MapV.es y0) (MapV.clock y0))]) (.k [2] [false,true,false] [] [8] ⟨trF h29,trivial⟩) ?_
        refine .ret ?_
        exact finO_ret (Sl.v 1 s18) [(oC [zI x4,Sl.v 1 s19,Sl.v 1 s20,(.map (some 2))]),(.map (MapV.es y0) (MapV.clock y0))] (by kernel_rfl) hm (Nat.le_of_ble_eq_true rfl) (ooAt_cons (pO_c _) (ooAt_cons (pO_m _ _) ooAt_nil))
       ·refine .ifF (bq false (Nat.beq (Sl.fl s18) 2)) (by kernel_rfl) h31 ?_
        refine .skip ?_
        exact ⟨(s9,z8,z9,(Int.ofNat k9),s10,z11,(Int.ofNat k7),x4,s19,s20,(MapV.es y0),(MapV.clock y0)),hm,(.k [2] [false,true,false] [] [0,1,2,3,9,55,56,57] ⟨trF h29,trivial⟩)⟩
      ·refine .ifF (ieq x2 x3) (by kernel_rfl) h20 ?_
       refine .skip ?_
       exact ⟨(s9,z8,z9,(Int.ofNat k9),s10,z11,(Int.ofNat k7),z13,s11,s12,e3,k5),hm,(.k [2] [false,true,false] [] [0,1,2,3,9,55,56,57] ⟨trF h8,trivial⟩)⟩
    ·refine .ifF (ilt z12 z11) (by kernel_rfl) h9 ?_
     refine .exit ?_
     exact ⟨(z13,s11,s12,e3,k5),hm,(.k [2] [false,true,false] [] [] ⟨trF h8,trivial⟩)⟩
 ·replace hm := oo_inv hm; obtain ⟨k10, h32, hm⟩ := hm
  obtain rfl:=toN_some h32
  replace hm:=bb_inv hm;obtain ⟨h33,hm⟩:=hm
  replace hm:=oo_inv hm;obtain ⟨v14,h34,hm⟩:=hm
  replace hm:=inv_toI hm;obtain ⟨x5,rfl,hm⟩:=hm
  replace hm:=bb_inv hm;obtain ⟨h35,hm⟩:=hm
  replace hm:=oo_inv hm;obtain ⟨v15,h36,hm⟩:=hm
  replace hm:=inv_toI hm;obtain ⟨x6,rfl,hm⟩:=hm
  replace hm:=oo_inv hm;obtain ⟨k11,h37,hm⟩:=hm
  obtain rfl:=toN_some h37
  replace hm:=bb_inv hm;obtain ⟨h38,hm⟩:=hm
  replace hm:=oo_inv hm;obtain ⟨v16,h39,hm⟩:=hm
  replace hm:=inv_toI hm;obtain ⟨x7,rfl,hm⟩:=hm
  replace hm:=bb_cases hm;rcases hm with ⟨h40,hm⟩ | ⟨h40,hm⟩
  ·replace hm := oo_inv hm; obtain ⟨v17, h41, hm⟩ := hm
   replace hm:=inv_vBool hm;obtain ⟨b1,rfl,hm⟩:=hm
   replace hm:=bb_cases hm;rcases hm with ⟨h42,hm⟩ | ⟨h42,hm⟩
   ·replace hm := bb_inv hm; obtain ⟨h43, hm⟩ := hm
    replace hm:=oo_inv hm;obtain ⟨v18,h44,hm⟩:=hm
    replace hm:=inv_vTup hm;obtain ⟨l2,rfl,hm⟩:=hm
    replace hm:=ll_uncons hm;obtain ⟨v19,l4143_0,rfl,hm⟩:=hm
    replace hm:=ll_uncons hm;obtain ⟨v20,l4143_1,rfl,hm⟩:=hm
    replace hm:=ll_uncons hm;obtain ⟨v21,l4143_2,rfl,hm⟩:=hm
    replace hm:=ll_end hm;obtain ⟨rfl,hm⟩:=hm
    replace hm:=inv_toI hm;obtain ⟨x8,rfl,hm⟩:=hm
    replace hm:=inv_vAgg hm;obtain ⟨l3,rfl,hm⟩:=hm
    replace hm:=ll_uncons hm;obtain ⟨v22,l4150_0,rfl,hm⟩:=hm
    replace hm:=ll_uncons hm;obtain ⟨v23,l4150_1,rfl,hm⟩:=hm
    replace hm:=ll_uncons hm;obtain ⟨v24,l4150_2,rfl,hm⟩:=hm
    replace hm:=ll_uncons hm;obtain ⟨v25,l4150_3,rfl,hm⟩:=hm
    replace hm:=ll_end hm;obtain ⟨rfl,hm⟩:=hm
    replace hm:=inv_toI hm;obtain ⟨x9,rfl,hm⟩:=hm
    replace hm:=inv_toSl hm;obtain ⟨s21,rfl,hm⟩:=hm
    replace hm:=inv_toSl hm;obtain ⟨s22,rfl,hm⟩:=hm
    replace hm:=bb_inv hm;obtain ⟨h45,hm⟩:=hm
    obtain rfl:=isMp_ok h45
    replace hm:=oo_inv hm;obtain ⟨y1,h46,hm⟩:=hm
    replace hm:=bb_inv hm;obtain ⟨h47,hm⟩:=hm
    refine .reg (eN 15 (Fr.puts (fr 94 [(0,pt 1 0),(1,Sl.v 1 s0),(2,.int .u16 z0),(3,zI z1),(9,(zI (Int.ofNat k10)))]) [(19,pt 1 0),(20,pt 1 0),(21,pt 1 0),(22,pt 1 2),(23,Sl.v 1 s2),(24,(zI (Int.ofNat k10))),(25,(fpV (k10 * 1) (Sl.cs s2))),(26,zI x5),(27,pt 1 0),(28,pt 1 0),(29,pt 1 0),(30,pt 1 1),(31,Sl.v 1 s1),(32,Sl.v 1 s0),(33,(fpV (0 * 1) (Sl.cs s0)))]) (hT 3 [(oC [zI z2,Sl.v 1 s1,Sl.v 1 s2,(.map (some 2))]),(.map e0 k1)]) (eC 6 (keep (hT 3 [(oC [zI z2,Sl.v 1 s1,Sl.v 1 s2,(.map (some 2))]),(.map e0 k1)]) (bb (an (Nat.blt k10 (Sl.n s2)) true) (some (fpV (k10 * 1) (Sl.cs s2))) none)) (keep_bb h33) (eD (keep (hT 3 [(oC [zI z2,Sl.v 1 s1,Sl.v 1 s2,(.map (some 2))]),(.map e0 k1)]) (nthL (Sl.cs s2) (k10 * 1))) (keep_eq h34) (eC 6 (keep (hT 3 [(oC [zI z2,Sl.v 1 s1,Sl.v 1 s2,(.map (some 2))]),(.map e0 k1)]) (bb (an (Nat.blt 0 (Sl.n s0)) true) (some (fpV (0 * 1) (Sl.cs s0))) none)) (keep_bb h35) (by kernel_rfl)))) (eN 3 (Fr.puts (fr 94 [(0,pt 1 0),(1,Sl.v 1 s0),(2,.int .u16 z0),(3,zI z1),(9,(zI (Int.ofNat k10)))]) [(19,pt 1 0),(20,pt 1 0),(21,pt 1 0),(22,pt 1 2),(23,Sl.v 1 s2),(24,(zI (Int.ofNat k10))),(25,(fpV (k10 * 1) (Sl.cs s2))),(26,zI x5),(27,pt 1 0),(28,pt 1 0),(29,pt 1 0),(30,pt 1 1),(31,Sl.v 1 s1),(32,Sl.v 1 s0),(33,(fpV (0 * 1) (Sl.cs s0))),(34,(zI (Int.ofNat k11))),(35,(fpV (k11 * 1) (Sl.cs s1))),(36,zI x7)]) (hT 3 [(oC [zI z2,Sl.v 1 s1,Sl.v 1 s2,(.map (some 2))]),(.map e0 k1)]) (eD (keep (hT 3 [(oC [zI z2,Sl.v 1 s1,Sl.v 1 s2,(.map (some 2))]),(.map e0 k1)]) (nthL (Sl.cs s0) (0 * 1))) (keep_eq h36) (eD (keep (hT 3 [(oC [zI z2,Sl.v 1 s1,Sl.v 1 s2,(.map (some 2))]),(.map e0 k1)]) (bb (an (Nat.blt k11 (Sl.n s1)) true) (some (fpV (k11 * 1) (Sl.cs s1))) none)) (keep_bb h38) (eD (keep (hT 3 [(oC [zI z2,Sl.v 1 s1,Sl.v 1 s2,(.map (some 2))]),(.map e0 k1)]) (nthL (Sl.cs s1) (k11 * 1))) (keep_eq h39) (by kernel_rfl)))) (eD (some ((zB (ieq x5 x7)),(hT 3 [(oC [zI z2,Sl.v 1 s1,Sl.v 1 s2,(.map (some 2))]),(.map e0 k1)]))) (show _ = some ((zB true),_) from (by rw [h40])) (eC 6 ((oo (pu 71 [(.agg ⟨[zI z2,Sl.v 1 s1,Sl.v 1 s2]⟩),.int .u16 z0]) none fun v=>some (v,(hT 3 [(oC [zI z2,Sl.v 1 s1,Sl.v 1 s2,(.map (some 2))]),(.map e0 k1)])))) (show _ = some ((zB true),_) from (by have hz:(oo (pu 71 [(.agg ⟨[zI z2,Sl.v 1 s1,Sl.v 1 s2]⟩),.int .u16 z0]) none fun v=>some (v,(hT 3 [(oC [zI z2,Sl.v 1 s1,Sl.v 1 s2,(.map (some 2))]),(.map e0 k1)]))) = some ((zB b1),(hT 3 [(oC [zI z2,Sl.v 1 s1,Sl.v 1 s2,(.map (some 2))]),(.map e0 k1)])):=(call_eq h41);rw [h42] at hz;exact hz)) (eC 5 (objG tabs [[none],[none]] 2 [.tmp 0 true,.cell 1 3 false] [true,false] (pu 10660) [pt 1 0,.int .u16 z0] (hT 3 [(oC [zI z2,Sl.v 1 s1,Sl.v 1 s2,(.map (some 2))]),(.map e0 k1)])) (objG_eq (as:=[pt 1 0,.int .u16 z0]) (H1:=(hT 3 [(oC [zI z2,Sl.v 1 s1,Sl.v 1 s2,(.map (some 2))]),(.map e0 k1)])) (gvAL_c (gvA_1 gv_n) (gvAL_c (gvA_1 gv_n) gvAL_n)) (objF_eq (H2:=(hT 3 [(oC [zI x9,Sl.v 1 s21,Sl.v 1 s22,(.map (some 2))]),(.map (MapV.es y1) (MapV.clock y1))])) (v:=(zI x8)) (v':=(zI x8)) [some 0,some 1,some 2] [(true,some 1),(false,some 2)] [(oC [zI z2,Sl.v 1 s1,Sl.v 1 s2,(.map (some 2))]),(.map e0 k1)] [pt 1 0,.int .u16 z0] [(.agg ⟨[zI x9,Sl.v 1 s21,Sl.v 1 s22,(.map (some 2))]⟩),v21] [(oC [zI x9,Sl.v 1 s21,Sl.v 1 s22,(.map (some 2))]),(.map (MapV.es y1) (MapV.clock y1))] [some 0,some 1,some 2] [(true,(oC [zI x9,Sl.v 1 s21,Sl.v 1 s22,(.map (some 2))])),(false,(.map (MapV.es y1) (MapV.clock y1)))] [(oC [zI x9,Sl.v 1 s21,Sl.v 1 s22,(.map (some 2))]),(.map (MapV.es y1) (MapV.clock y1))] (by kernel_rfl) (mapO_c (by kernel_rfl) (mapO_c (nO_map h43) mapO_n)) (Eq.trans (by kernel_rfl) h44) (mapO_c rfl (mapO_c (vMapO_some h46) mapO_n)) (mapO_c (by kernel_rfl) (mapO_c (bO_map h47) mapO_n)))) (eE)))))) ?_
    replace hm:=bb_inv hm;obtain ⟨h48,hm⟩:=hm
    exact ⟨(s0,z0,z1,(Int.ofNat k10),(ieq x8 z1),x9,s21,s22,(MapV.es y1),(MapV.clock y1)),hm,(.k [2] [false,true,false] [] [0,1,2,3,9,52] ⟨trF h48,trivial⟩)⟩
   ·refine .reg (eN 15 (Fr.puts (fr 94 [(0, pt 1 0), (1, Sl.v 1 s0), (2, .int .u16 z0), (3, zI z1), (9, (zI (Int.ofNat k10)))]) [(19, pt 1 0), (20, pt 1 0), (21, pt 1 0), (22, pt 1 2), (23, Sl.v 1 s2), (24, (zI (Int.ofNat k10))), (25, (fpV (k10 * 1) (Sl.cs s2))), (26, zI x5), (27, pt 1 0), (28, pt 1 0), (29, pt 1 0), (30, pt 1 1), (31, Sl.v 1 s1), (32, Sl.v 1 s0), (33, (fpV (0 * 1) (Sl.cs s0)))]) (hT 3 [(oC [zI z2, Sl.v 1 s1, Sl.v 1 s2, (.map (some 2))]), (.map e0 k1)]) (eC 6 (keep (hT 3 [(oC [zI z2, Sl.v 1 s1, Sl.v 1 s2, (.map (some 2))]), (.map e0 k1)]) (bb (an (Nat.blt k10 (Sl.n s2)) true) (some (fpV (k10 * 1) (Sl.cs s2))) none)) (keep_bb h33) (eD (keep (hT 3 [(oC [zI z2, Sl.v 1 s1, Sl.v 1 s2, (.map (some 2))]), (.map e0 k1)]) (nthL (Sl.cs s2) (k10 * 1))) (keep_eq h34) (eC 6 (keep (hT 3 [(oC [zI z2, Sl.v 1 s1, Sl.v 1 s2, (.map (some 2))]), (.map e0 k1)]) (bb (an (Nat.blt 0 (Sl.n s0)) true) (some (fpV (0 * 1) (Sl.cs s0))) none)) (keep_bb h35) (by kernel_rfl)))) (eD (keep (hT 3 [(oC [zI z2, Sl.v 1 s1, Sl.v 1 s2, (.map (some 2))]), (.map e0 k1)]) (nthL (Sl.cs s0) (0 * 1))) (keep_eq h36) (eD (keep (hT 3 [(oC [zI z2, Sl.v 1 s1, Sl.v 1 s2, (.map (some 2))]), (.map e0 k1)]) (bb (an (Nat.blt k11 (Sl.n s1)) true) (some (fpV (k11 * 1) (Sl.cs s1))) none)) (keep_bb h38) (eD (keep (hT 3 [(oC [zI z2, Sl.v 1 s1, Sl.v 1 s2, (.map (some 2))]), (.map e0 k1)]) (nthL (Sl.cs s1) (k11 * 1))) (keep_eq h39) (eD (some ((zB (ieq x5 x7)), (hT 3 [(oC [zI z2, Sl.v 1 s1, Sl.v 1 s2, (.map (some 2))]), (.map e0 k1)]))) (show _ = some ((zB true), _) from (by rw [h40])) (eC 6 ((oo (pu 71 [(.agg ⟨[zI z2, Sl.v 1 s1, Sl.v 1 s2]⟩), .int .u16 z0]) none fun v => some (v, (hT 3 [(oC [zI z2, Sl.v 1 s1, Sl.v 1 s2, (.map (some 2))]), (.map e0 k1)])))) (show _ = some ((zB false), _) from (by have hz : (oo (pu 71 [(.agg ⟨[zI z2, Sl.v 1 s1, Sl.v 1 s2]⟩), .int .u16 z0]) none fun v => some (v, (hT 3 [(oC [zI z2, Sl.v 1 s1, Sl.v 1 s2, (.map (some 2))]), (.map e0 k1)]))) = some ((zB b1), (hT 3 [(oC [zI z2, Sl.v 1 s1, Sl.v 1 s2, (.map (some 2))]), (.map e0 k1)])) := (call_eq h41); rw [h42] at hz; exact hz)) (eE))))))) ?_
    exact ⟨(s0,z0,z1,(Int.ofNat k10),false,z2,s1,s2,e0,k1),hm,(.k [2] [false,true,false] [] [0,1,2,3,9,52] ⟨trF h0,trivial⟩)⟩
  ·refine .reg (eN 15 (Fr.puts (fr 94 [(0, pt 1 0), (1, Sl.v 1 s0), (2, .int .u16 z0), (3, zI z1), (9, (zI (Int.ofNat k10)))]) [(19, pt 1 0), (20, pt 1 0), (21, pt 1 0), (22, pt 1 2), (23, Sl.v 1 s2), (24, (zI (Int.ofNat k10))), (25, (fpV (k10 * 1) (Sl.cs s2))), (26, zI x5), (27, pt 1 0), (28, pt 1 0), (29, pt 1 0), (30, pt 1 1), (31, Sl.v 1 s1), (32, Sl.v 1 s0), (33, (fpV (0 * 1) (Sl.cs s0)))]) (hT 3 [(oC [zI z2, Sl.v 1 s1, Sl.v 1 s2, (.map (some 2))]), (.map e0 k1)]) (eC 6 (keep (hT 3 [(oC [zI z2, Sl.v 1 s1, Sl.v 1 s2, (.map (some 2))]), (.map e0 k1)]) (bb (an (Nat.blt k10 (Sl.n s2)) true) (some (fpV (k10 * 1) (Sl.cs s2))) none)) (keep_bb h33) (eD (keep (hT 3 [(oC [zI z2, Sl.v 1 s1, Sl.v 1 s2, (.map (some 2))]), (.map e0 k1)]) (nthL (Sl.cs s2) (k10 * 1))) (keep_eq h34) (eC 6 (keep (hT 3 [(oC [zI z2, Sl.v 1 s1, Sl.v 1 s2, (.map (some 2))]), (.map e0 k1)]) (bb (an (Nat.blt 0 (Sl.n s0)) true) (some (fpV (0 * 1) (Sl.cs s0))) none)) (keep_bb h35) (by kernel_rfl)))) (eD (keep (hT 3 [(oC [zI z2, Sl.v 1 s1, Sl.v 1 s2, (.map (some 2))]), (.map e0 k1)]) (nthL (Sl.cs s0) (0 * 1))) (keep_eq h36) (eD (keep (hT 3 [(oC [zI z2, Sl.v 1 s1, Sl.v 1 s2, (.map (some 2))]), (.map e0 k1)]) (bb (an (Nat.blt k11 (Sl.n s1)) true) (some (fpV (k11 * 1) (Sl.cs s1))) none)) (keep_bb h38) (eD (keep (hT 3 [(oC [zI z2, Sl.v 1 s1, Sl.v 1 s2, (.map (some 2))]), (.map e0 k1)]) (nthL (Sl.cs s1) (k11 * 1))) (keep_eq h39) (eD (some ((zB (ieq x5 x7)), (hT 3 [(oC [zI z2, Sl.v 1 s1, Sl.v 1 s2, (.map (some 2))]), (.map e0 k1)]))) (show _ = some ((zB false), _) from (by rw [h40])) (eE)))))) ?_
   exact ⟨(s0,z0,z1,(Int.ofNat k10),false,z2,s1,s2,e0,k1),hm,(.k [2] [false,true,false] [] [0,1,2,3,9,52] ⟨trF h0,trivial⟩)⟩
theorem r10680 {call:CallF} (pu:PureF) (n:Nat) (hcall:call = callP tabs isP pu (inl pu)) {args:LV} {os:List AObj} {z:Value} (ha:args.length = 4) (hk:os.length = 2) (hpl:∀ o ∈ os,plainO o) (hm:m10680 pu n (args ++ os.map encO) = some z):args.length≤94∧Run tt call (tabs.length + 2) c68_35 (Fr.made 94 args) (subHeap tabs os) (FinO tt tabs.length 2 [.tmp 8] z):=by
 subst hcall
 have hq:=len_cons ha;clear ha;obtain ⟨a0,args,rfl,ha⟩:=hq
 have hq:=len_cons ha;clear ha;obtain ⟨a1,args,rfl,ha⟩:=hq
 have hq:=len_cons ha;clear ha;obtain ⟨a2,args,rfl,ha⟩:=hq
 have hq:=len_cons ha;clear ha;obtain ⟨a3,args,rfl,ha⟩:=hq
 obtain rfl:=len_nil ha
 have hq:=len_cons hk;clear hk;obtain ⟨b0,os,rfl,hk⟩:=hq
 have hp0:plainO b0:=hpl b0 (by simp)
 have hq:=len_cons hk;clear hk;obtain ⟨b1,os,rfl,hk⟩:=hq
 have hp1:plainO b1:=hpl b1 (by simp)
 obtain rfl:=len_nil hk
 replace hm:m10680 pu n [a0,a1,a2,a3,encO b0,encO b1] = some z:=hm
 unfold m10680 at hm
 replace hm:(bb (isPt a0 1 0) (oo (toSl 1 a1) none fun s0=>(oo (toI .u16 a2) none fun x0=>(oo (toI .i64 a3) none fun x1=>(oo (vAgg (encO b0)) none fun l0=>(ll l0 none fun v0 l0=>(ll l0 none fun v1 l0=>(ll l0 none fun v2 l0=>(ll l0 none fun v3 l0=>(ll l0 (oo (toI .i64 v0) none fun x2=>(oo (toSl 1 v1) none fun s1=>(oo (toSl 1 v2) none fun s2=>(bb (isMp v3 2) (oo (vMapO (encO b1)) none fun y0=>(m10680_ pu n s0 x0 x1 x2 s1 s2 (MapV.es y0) (MapV.clock y0))) none)))) fun _ _=>none))))))))) none) = some z:=hm
 replace hm:=bb_inv hm;obtain ⟨h0,hm⟩:=hm
 obtain rfl:=isPt_ok h0
 replace hm:=inv_toSl hm;obtain ⟨s0,rfl,hm⟩:=hm
 replace hm:=inv_toI hm;obtain ⟨x0,rfl,hm⟩:=hm
 replace hm:=inv_toI hm;obtain ⟨x1,rfl,hm⟩:=hm
 replace hm:=oo_inv hm;obtain ⟨l0,h1,hm⟩:=hm
 obtain rfl:=vAgg_enc hp0 h1
 replace hm:=ll_uncons hm;obtain ⟨v0,l4174_0,rfl,hm⟩:=hm
 replace hm:=ll_uncons hm;obtain ⟨v1,l4174_1,rfl,hm⟩:=hm
 replace hm:=ll_uncons hm;obtain ⟨v2,l4174_2,rfl,hm⟩:=hm
 replace hm:=ll_uncons hm;obtain ⟨v3,l4174_3,rfl,hm⟩:=hm
 replace hm:=ll_end hm;obtain ⟨rfl,hm⟩:=hm
 replace hm:=inv_toI hm;obtain ⟨x2,rfl,hm⟩:=hm
 replace hm:=inv_toSl hm;obtain ⟨s1,rfl,hm⟩:=hm
 replace hm:=inv_toSl hm;obtain ⟨s2,rfl,hm⟩:=hm
 replace hm:=bb_inv hm;obtain ⟨h2,hm⟩:=hm
 obtain rfl:=isMp_ok h2
 replace hm:=oo_inv hm;obtain ⟨y0,h3,hm⟩:=hm
 obtain rfl:=vMapO_enc hp1 h3
 refine ⟨by simp,?_⟩
 exact .same (F':=(fr 94 [(0,pt 1 0),(1,Sl.v 1 s0),(2,.int .u16 x0),(3,zI x1)])) (H':=(hT 3 [(oC [zI x2,Sl.v 1 s1,Sl.v 1 s2,(.map (some 2))]),(.map (MapV.es y0) (MapV.clock y0))])) (by kernel_rfl) (by kernel_rfl) (q10680 pu n s0 x0 x1 x2 s1 s2 (MapV.es y0) (MapV.clock y0) hm)
end
end Go.MdFM
