/- Made from wip. -/
import Derived.Test.YtokbaaeimejjlaaDoorBkPMod1x

set_option maxRecDepth 100000
set_option maxHeartbeats 20000000
set_option linter.unusedVariables false
namespace Go.BkPM
open Go.Sp Go.BkP
noncomputable section

def m11_ (pu:PureF) (n:Nat) (x0 x1 x2:Int) (s0 s1:Sl) (x3:Int):OV:=
 (oo (pu 32 [(.agg ⟨[.int .i64 x0,.int .i64 x1,.int .i64 x2,Sl.v 1 s0]⟩),(Sl.v 1 (Sl.mk 1 0 (takeL (1 * 1) (dropL 0 ([Sl.v 1 s1]:LV)))))]) none fun v0=>(oo (vTup v0) none fun l0=>(ll l0 none fun v1 l0=>(ll l0 none fun v2 l0=>(ll l0 (bb (isS (vFp v1)) (oo (vFp v1) none fun p0=>(oo (toI .i64 v2) none fun x4=>(bb (nt (ieq x4 (0:Int))) (some (.tuple ⟨[(Sl.v 1 (Sl.mk 0 2 [])),.int .i64 x4]⟩)) (oo (nthL (FpV.cs p0) (((FpV.off p0) + 0) + 3)) none fun v3=>(oo (toSl 1 v3) none fun s2=>(oo (pu 33 [Sl.v 1 s2,.int .i64 x3]) none fun v4=>(oo (toI .i64 v4) none fun x5=>(bb (ilt x5 (0:Int)) (some (.tuple ⟨[(Sl.v 1 (Sl.mk 0 2 [])),(.int .i64 (2:Int))]⟩)) (oo (pu 34 [(fpV (FpV.off p0) (FpV.cs p0)),Sl.v 1 s1,.int .i64 x5]) none fun v5=>(oo (toSl 1 v5) none fun s3=>(some (.tuple ⟨[Sl.v 1 s3,(.int .i64 (0:Int))]⟩)))))))))))) (bb (isP0 v1) (oo (toI .i64 v2) none fun x6=>(bb (nt (ieq x6 (0:Int))) (some (.tuple ⟨[(Sl.v 1 (Sl.mk 0 2 [])),.int .i64 x6]⟩)) none)) none)) fun _ _=>none)))))
def m11 (pu:PureF) (n:Nat) (args:LV):OV:=
 (ll args none fun a0 args=>(ll args none fun a1 args=>(ll args none fun a2 args=>(ll args (oo (vAgg a0) none fun l0=>(ll l0 none fun v0 l0=>(ll l0 none fun v1 l0=>(ll l0 none fun v2 l0=>(ll l0 none fun v3 l0=>(ll l0 (oo (toI .i64 v0) none fun x0=>(oo (toI .i64 v1) none fun x1=>(oo (toI .i64 v2) none fun x2=>(oo (toSl 1 v3) none fun s0=>(oo (toSl 1 a1) none fun s1=>(oo (toI .i64 a2) none fun x3=>(m11_ pu n x0 x1 x2 s0 s1 x3))))))) fun _ _=>none)))))) fun _ _=>none))))
theorem r11 {call:CallF} (pu:PureF) (n:Nat) (hcall:call = callP tabs isP pu (inl pu)) {args:LV} {v:Value} (hm:m11 pu n args = some v) (_:∀ x ∈ args,closed2 x = true):args.length≤34∧Run tt call 1 c11_19 (Fr.made 34 args) (pureHeap tabs) (Fin tt 1 [.tmp 6,.tmp 7] v):=by
 subst hcall
 unfold m11 at hm
 replace hm:=ll_uncons hm;obtain ⟨a0,args_0,rfl,hm⟩:=hm
 replace hm:=ll_uncons hm;obtain ⟨a1,args_1,rfl,hm⟩:=hm
 replace hm:=ll_uncons hm;obtain ⟨a2,args_2,rfl,hm⟩:=hm
 replace hm:=ll_end hm;obtain ⟨rfl,hm⟩:=hm
 replace hm:=inv_vAgg hm;obtain ⟨l0,rfl,hm⟩:=hm
 replace hm:=ll_uncons hm;obtain ⟨v0,l4785_0,rfl,hm⟩:=hm
 replace hm:=ll_uncons hm;obtain ⟨v1,l4785_1,rfl,hm⟩:=hm
 replace hm:=ll_uncons hm;obtain ⟨v2,l4785_2,rfl,hm⟩:=hm
 replace hm:=ll_uncons hm;obtain ⟨v3,l4785_3,rfl,hm⟩:=hm
 replace hm:=ll_end hm;obtain ⟨rfl,hm⟩:=hm
 replace hm:=inv_toI hm;obtain ⟨x0,rfl,hm⟩:=hm
 replace hm:=inv_toI hm;obtain ⟨x1,rfl,hm⟩:=hm
 replace hm:=inv_toI hm;obtain ⟨x2,rfl,hm⟩:=hm
 replace hm:=inv_toSl hm;obtain ⟨s0,rfl,hm⟩:=hm
 replace hm:=inv_toSl hm;obtain ⟨s1,rfl,hm⟩:=hm
 replace hm:=inv_toI hm;obtain ⟨x3,rfl,hm⟩:=hm
 unfold m11_ at hm
 refine ⟨by simp,?_⟩
 refine .same (F':=(fr 34 [(0,(.agg ⟨[zI x0,zI x1,zI x2,Sl.v 1 s0]⟩)),(1,Sl.v 1 s1),(2,zI x3)])) (H':=(hp 1 [(oT tab0)])) (by kernel_rfl) (by kernel_rfl) ?_
 refine .then (.rK ?_)
 refine .ghs (fr 34 [(1,Sl.v 1 s1),(2,zI x3),(3,pt 1 0)]) (hT 2 [(oC [zI x0,zI x1,zI x2,Sl.v 1 s0])]) (.k0 [false] [.tmp 3 false] [1,2,3]) ?_
 refine .then ?_
 replace hm:=oo_inv hm;obtain ⟨v4,h0,hm⟩:=hm
 replace hm:=inv_vTup hm;obtain ⟨l1,rfl,hm⟩:=hm
 replace hm:=ll_uncons hm;obtain ⟨v5,l4816_0,rfl,hm⟩:=hm
 replace hm:=ll_uncons hm;obtain ⟨v6,l4816_1,rfl,hm⟩:=hm
 replace hm:=ll_end hm;obtain ⟨rfl,hm⟩:=hm
 replace hm:=bb_cases hm;rcases hm with ⟨h1,hm⟩ | ⟨h1,hm⟩
 ·replace hm := oo_inv hm; obtain ⟨p0, h2, hm⟩ := hm
  obtain rfl:=vFp_some h2
  replace hm:=inv_toI hm;obtain ⟨x4,rfl,hm⟩:=hm
  refine .reg (eC 3 (giveF tabs 1 (pu 32) [(.agg ⟨[zI x0,zI x1,zI x2,Sl.v 1 s0]⟩),sc 2 0 1 1 3] (hT 3 [(oC [zI x0,zI x1,zI x2,Sl.v 1 s0]),(oC [Sl.v 1 s1])])) (giveF_eq (giveL_cons (giveV_cl (z:=1) (v:=(.agg ⟨[zI x0,zI x1,zI x2,Sl.v 1 s0]⟩)) (H:=(hT 3 [(oC [zI x0,zI x1,zI x2,Sl.v 1 s0]),(oC [Sl.v 1 s1])])) (by kernel_rfl) (by kernel_rfl) (by kernel_rfl)) (giveL_cons (show giveV 1 (sc 2 0 1 1 3) (hT 3 [(oC [zI x0,zI x1,zI x2,Sl.v 1 s0]),(oC [Sl.v 1 s1])]) = some ((Sl.v 1 (Sl.mk 1 0 (takeL (1 * 1) (dropL 0 ([Sl.v 1 s1]:LV))))),(hT 3 [(oC [zI x0,zI x1,zI x2,Sl.v 1 s0]),.dead])) from giveV_sl 2 0 1 1 3 ([Sl.v 1 s1]:LV) [] (by kernel_rfl) (by kernel_rfl) (by kernel_rfl)) giveL_nil)) (by kernel_rfl) h0) (eE)) ?_
  refine .ghs (fr 34 [(1,Sl.v 1 s1),(2,zI x3),(8,(fpV (FpV.off p0) (FpV.cs p0))),(9,zI x4)]) (hp 1 [(oT tab0)]) (.k0 [false] [] [1,2,8,9]) ?_
  refine .then ?_
  refine .then (.rK ?_)
  refine .ghs (fr 34 [(1,Sl.v 1 s1),(2,zI x3),(8,(fpV (FpV.off p0) (FpV.cs p0))),(9,zI x4),(19,(zB (nt (ieq x4 (0:Int)))))]) (hp 1 [(oT tab0)]) (.k0 [false] [] [1,2,8,9,19]) ?_
  replace hm:=bb_cases hm;rcases hm with ⟨h3,hm⟩ | ⟨h3,hm⟩
  ·refine .ifT (nt (ieq x4 (0 : Int))) (by kernel_rfl) h3 ?_
   refine .then (.rK ?_)
   refine .ghs (fr 34 [(6,(.slice none 0 0)),(7,zI x4)]) (hp 1 [(oT tab0)]) (.k0 [false] [] [6,7]) ?_
   refine .ghs (Fr.puts (fr 34 [(6,(.slice none 0 0)),(7,zI x4)]) [(6,(Sl.v 1 (Sl.mk 0 2 [])))]) (hp 1 [(oT tab0)]) (.freeze 1 6 1 (by kernel_rfl) (by kernel_rfl) (GhS.id _ _)) ?_
   refine .ret ?_
   exact fin_ret (.tuple ⟨[(Sl.v 1 (Sl.mk 0 2 [])),zI x4]⟩) (by kernel_rfl) (by kernel_rfl) hm
  ·refine .ifF (nt (ieq x4 (0 : Int))) (by kernel_rfl) h3 ?_
   refine .skip ?_
   refine .ghs (fr 34 [(1,Sl.v 1 s1),(2,zI x3),(8,(fpV (FpV.off p0) (FpV.cs p0)))]) (hp 1 [(oT tab0)]) (.k0 [false] [] [1,2,8]) ?_
   refine .then ?_
   replace hm:=oo_inv hm;obtain ⟨v7,h4,hm⟩:=hm
   replace hm:=inv_toSl hm;obtain ⟨s2,rfl,hm⟩:=hm
   replace hm:=oo_inv hm;obtain ⟨v8,h5,hm⟩:=hm
   replace hm:=inv_toI hm;obtain ⟨x5,rfl,hm⟩:=hm
   refine .reg (eC 4 (keep (hp 1 [(oT tab0)]) (nthL (FpV.cs p0) (((FpV.off p0) + 0) + 3))) (keep_eq h4) (eC 1 ((oo (pu 33 [Sl.v 1 s2,zI x3]) none fun v=>some (v,(hp 1 [(oT tab0)])))) (call_eq h5) (eE))) ?_
   refine .ghs (fr 34 [(1,Sl.v 1 s1),(8,(fpV (FpV.off p0) (FpV.cs p0))),(10,zI x5)]) (hp 1 [(oT tab0)]) (.k0 [false] [] [1,8,10]) ?_
   refine .then ?_
   refine .then (.rK ?_)
   refine .ghs (fr 34 [(1,Sl.v 1 s1),(8,(fpV (FpV.off p0) (FpV.cs p0))),(10,zI x5),(29,(zB (ilt x5 (0:Int))))]) (hp 1 [(oT tab0)]) (.k0 [false] [] [1,8,10,29]) ?_
   replace hm:=bb_cases hm;rcases hm with ⟨h6,hm⟩ | ⟨h6,hm⟩
   ·refine .ifT (ilt x5 (0 : Int)) (by kernel_rfl) h6 ?_
    refine .then (.rK ?_)
    refine .ghs (fr 34 [(6,(.slice none 0 0)),(7,(zI (2:Int)))]) (hp 1 [(oT tab0)]) (.k0 [false] [] [6,7]) ?_
    refine .ghs (Fr.puts (fr 34 [(6,(.slice none 0 0)),(7,(zI (2:Int)))]) [(6,(Sl.v 1 (Sl.mk 0 2 [])))]) (hp 1 [(oT tab0)]) (.freeze 1 6 1 (by kernel_rfl) (by kernel_rfl) (GhS.id _ _)) ?_
    refine .ret ?_
    exact fin_ret (.tuple ⟨[(Sl.v 1 (Sl.mk 0 2 [])),(zI (2:Int))]⟩) (by kernel_rfl) (by kernel_rfl) hm
   ·refine .ifF (ilt x5 (0 : Int)) (by kernel_rfl) h6 ?_
    refine .skip ?_
    refine .ghs (fr 34 [(1,Sl.v 1 s1),(8,(fpV (FpV.off p0) (FpV.cs p0))),(10,zI x5)]) (hp 1 [(oT tab0)]) (.k0 [false] [] [1,8,10]) ?_
    refine .then ?_
    replace hm:=oo_inv hm;obtain ⟨v9,h7,hm⟩:=hm
    replace hm:=inv_toSl hm;obtain ⟨s3,rfl,hm⟩:=hm
    refine .reg (eC 3 ((oo (pu 34 [(fpV (FpV.off p0) (FpV.cs p0)),Sl.v 1 s1,zI x5]) none fun v=>some (v,(hp 1 [(oT tab0)])))) (call_eq h7) (eE)) ?_
    refine .ghs (fr 34 [(6,Sl.v 1 s3),(7,(zI (0:Int)))]) (hp 1 [(oT tab0)]) (.k0 [false] [] [6,7]) ?_
    refine .ret ?_
    exact fin_ret (.tuple ⟨[Sl.v 1 s3,(zI (0:Int))]⟩) (by kernel_rfl) (by kernel_rfl) hm
 ·replace hm := bb_inv hm; obtain ⟨h8, hm⟩ := hm
  obtain rfl:=isP0_ok h8
  replace hm:=inv_toI hm;obtain ⟨x6,rfl,hm⟩:=hm
  refine .reg (eC 3 (giveF tabs 1 (pu 32) [(.agg ⟨[zI x0,zI x1,zI x2,Sl.v 1 s0]⟩),sc 2 0 1 1 3] (hT 3 [(oC [zI x0,zI x1,zI x2,Sl.v 1 s0]),(oC [Sl.v 1 s1])])) (giveF_eq (giveL_cons (giveV_cl (z:=1) (v:=(.agg ⟨[zI x0,zI x1,zI x2,Sl.v 1 s0]⟩)) (H:=(hT 3 [(oC [zI x0,zI x1,zI x2,Sl.v 1 s0]),(oC [Sl.v 1 s1])])) (by kernel_rfl) (by kernel_rfl) (by kernel_rfl)) (giveL_cons (show giveV 1 (sc 2 0 1 1 3) (hT 3 [(oC [zI x0,zI x1,zI x2,Sl.v 1 s0]),(oC [Sl.v 1 s1])]) = some ((Sl.v 1 (Sl.mk 1 0 (takeL (1 * 1) (dropL 0 ([Sl.v 1 s1]:LV))))),(hT 3 [(oC [zI x0,zI x1,zI x2,Sl.v 1 s0]),.dead])) from giveV_sl 2 0 1 1 3 ([Sl.v 1 s1]:LV) [] (by kernel_rfl) (by kernel_rfl) (by kernel_rfl)) giveL_nil)) (by kernel_rfl) h0) (eE)) ?_
  refine .ghs (fr 34 [(1,Sl.v 1 s1),(2,zI x3),(8,(.pointer none)),(9,zI x6)]) (hp 1 [(oT tab0)]) (.k0 [false] [] [1,2,8,9]) ?_
  refine .then ?_
  refine .then (.rK ?_)
  refine .ghs (fr 34 [(1,Sl.v 1 s1),(2,zI x3),(8,(.pointer none)),(9,zI x6),(19,(zB (nt (ieq x6 (0:Int)))))]) (hp 1 [(oT tab0)]) (.k0 [false] [] [1,2,8,9,19]) ?_
  replace hm:=bb_cases hm;rcases hm with ⟨h9,hm⟩ | ⟨h9,hm⟩
  ·refine .ifT (nt (ieq x6 (0 : Int))) (by kernel_rfl) h9 ?_
   refine .then (.rK ?_)
   refine .ghs (fr 34 [(6,(.slice none 0 0)),(7,zI x6)]) (hp 1 [(oT tab0)]) (.k0 [false] [] [6,7]) ?_
   refine .ghs (Fr.puts (fr 34 [(6,(.slice none 0 0)),(7,zI x6)]) [(6,(Sl.v 1 (Sl.mk 0 2 [])))]) (hp 1 [(oT tab0)]) (.freeze 1 6 1 (by kernel_rfl) (by kernel_rfl) (GhS.id _ _)) ?_
   refine .ret ?_
   exact fin_ret (.tuple ⟨[(Sl.v 1 (Sl.mk 0 2 [])),zI x6]⟩) (by kernel_rfl) (by kernel_rfl) hm
  ·refine .ifF (nt (ieq x6 (0 : Int))) (by kernel_rfl) h9 ?_
   refine .skip ?_
   refine .ghs (fr 34 [(1,Sl.v 1 s1),(2,zI x3),(8,(.pointer none))]) (hp 1 [(oT tab0)]) (.k0 [false] [] [1,2,8]) ?_
   refine .then ?_
   cases hm
def m12_0 (pu:PureF) (n:Nat):OV:=
 (some (.bool true))
def b12_1 (pu:PureF) (n:Nat) (ih0:Sl→Sl→Int→OV) (s0 s1:Sl) (z0:Int):OV:=
 (bb (ilt z0 (Int.ofNat (Sl.n s0))) (oo (toN z0) none fun k1=>(bb (an (Nat.blt k1 (Sl.n s0)) true) (oo (nthL (Sl.cs s0) (k1 * 1)) none fun v0=>(oo (toI .i64 v0) none fun x0=>(bb (an (Nat.blt k1 (Sl.n s1)) true) (oo (nthL (Sl.cs s1) (k1 * 1)) none fun v1=>(oo (toI .i64 v1) none fun x1=>(bb (nt (ieq x0 x1)) (some (.bool false)) (ih0 s0 s1 (wrapF .i64 (Int.add (Int.ofNat k1) (1:Int))))))) none))) none)) (m12_0 pu n))
def l12_1 (pu:PureF) (n w:Nat):Sl→Sl→Int→OV:=
 Nat.rec (motive:=fun _=>Sl→Sl→Int→OV) (fun _ _ _=>none) (fun _ ih0=>b12_1 pu n ih0) w
def m12_ (pu:PureF) (n:Nat) (s0 s1:Sl):OV:=
 (bb (nt (ieq (Int.ofNat (Sl.n s0)) (Int.ofNat (Sl.n s1)))) (some (.bool false)) (l12_1 pu n n s0 s1 (0:Int)))
def m12 (pu:PureF) (n:Nat) (args:LV):OV:=
 (ll args none fun a0 args=>(ll args none fun a1 args=>(ll args (oo (toSl 1 a0) none fun s0=>(oo (toSl 1 a1) none fun s1=>(m12_ pu n s0 s1))) fun _ _=>none)))
theorem w12_0 (pu:PureF) (n:Nat) {v:Value} (hm:m12_0 pu n = some v):Run tt (callP tabs isP pu (inl pu)) 1 c12_23 (fr 26 []) (hp 1 [(oT tab0)]) (Fin tt 1 [.tmp 4] v):=by
 unfold m12_0 at hm
 refine .then (.rK ?_)
 refine .ghs (fr 26 [(4,zB true)]) (hp 1 [(oT tab0)]) (.k0 [false] [] [4]) ?_
 refine .ret ?_
 exact fin_ret (zB true) (by kernel_rfl) (by kernel_rfl) hm
theorem r12 {call:CallF} (pu:PureF) (n:Nat) (hcall:call = callP tabs isP pu (inl pu)) {args:LV} {v:Value} (hm:m12 pu n args = some v) (_:∀ x ∈ args,closed2 x = true):args.length≤26∧Run tt call 1 c12_26 (Fr.made 26 args) (pureHeap tabs) (Fin tt 1 [.tmp 4] v):=by
 subst hcall
 unfold m12 at hm
 replace hm:=ll_uncons hm;obtain ⟨a0,args_0,rfl,hm⟩:=hm
 replace hm:=ll_uncons hm;obtain ⟨a1,args_1,rfl,hm⟩:=hm
 replace hm:=ll_end hm;obtain ⟨rfl,hm⟩:=hm
 replace hm:=inv_toSl hm;obtain ⟨s0,rfl,hm⟩:=hm
 replace hm:=inv_toSl hm;obtain ⟨s1,rfl,hm⟩:=hm
 unfold m12_ at hm
 refine ⟨by simp,?_⟩
 refine .same (F':=(fr 26 [(0,Sl.v 1 s0),(1,Sl.v 1 s1)])) (H':=(hp 1 [(oT tab0)])) (by kernel_rfl) (by kernel_rfl) ?_
 refine .then (.rK ?_)
 refine .ghs (fr 26 [(0,Sl.v 1 s0),(1,Sl.v 1 s1)]) (hp 1 [(oT tab0)]) (.k0 [false] [] [0,1]) ?_
 refine .then ?_
 refine .then (.rK ?_)
 refine .ghs (fr 26 [(0,Sl.v 1 s0),(1,Sl.v 1 s1),(10,(zB (nt (ieq (Int.ofNat (Sl.n s0)) (Int.ofNat (Sl.n s1))))))]) (hp 1 [(oT tab0)]) (.k0 [false] [] [0,1,10]) ?_
 replace hm:=bb_cases hm;rcases hm with ⟨h0,hm⟩ | ⟨h0,hm⟩
 ·refine .ifT (nt (ieq (Int.ofNat (Sl.n s0)) (Int.ofNat (Sl.n s1)))) (by kernel_rfl) h0 ?_
  refine .then (.rK ?_)
  refine .ghs (fr 26 [(4,zB false)]) (hp 1 [(oT tab0)]) (.k0 [false] [] [4]) ?_
  refine .ret ?_
  exact fin_ret (zB false) (by kernel_rfl) (by kernel_rfl) hm
 ·refine .ifF (nt (ieq (Int.ofNat (Sl.n s0)) (Int.ofNat (Sl.n s1)))) (by kernel_rfl) h0 ?_
  refine .skip ?_
  refine .ghs (fr 26 [(0,Sl.v 1 s0),(1,Sl.v 1 s1)]) (hp 1 [(oT tab0)]) (.k0 [false] [] [0,1]) ?_
  refine .join (v:=v) (fun y:Unit=>((fr 26 []),(hp 1 [(oT tab0)]))) (fun y=>m12_0 pu n) ?_ ?_
  ·rintro _ hm
   exact w12_0 pu n hm
  ·refine .then (.rK ?_)
   refine .ghs (fr 26 [(0,Sl.v 1 s0),(1,Sl.v 1 s1),(5,(zI (0:Int)))]) (hp 1 [(oT tab0)]) (.k0 [false] [] [0,1,5]) ?_
   refine .block ?_
   refine .loopM (v:=v) (fun y:Sl×Sl×Int=>((fr 26 [(0,(Sl.v 1 y.1)),(1,(Sl.v 1 y.2.1)),(5,(zI y.2.2))]),(hp 1 [(oT tab0)]))) (fun w y=>l12_1 pu n w y.1 y.2.1 y.2.2) n ⟨(s0,s1,(0:Int)),hm,(.k0 [false] [] [0,1,5])⟩ (fun _=>rfl) ?_
   rintro w0 ⟨s2,s3,z0⟩ hm
   replace hm:b12_1 pu n (l12_1 pu n w0) s2 s3 z0 = some v:=hm
   unfold b12_1 at hm
   refine .then ?_
   refine .then (.rK ?_)
   refine .ghs (fr 26 [(0,Sl.v 1 s2),(1,Sl.v 1 s3),(5,zI z0),(14,(zB (ilt z0 (Int.ofNat (Sl.n s2)))))]) (hp 1 [(oT tab0)]) (.k0 [false] [] [0,1,5,14]) ?_
   replace hm:=bb_cases hm;rcases hm with ⟨h1,hm⟩ | ⟨h1,hm⟩
   ·refine .ifT (ilt z0 (Int.ofNat (Sl.n s2))) (by kernel_rfl) h1 ?_
    refine .skip ?_
    refine .ghs (fr 26 [(0,Sl.v 1 s2),(1,Sl.v 1 s3),(5,zI z0)]) (hp 1 [(oT tab0)]) (.k0 [false] [] [0,1,5]) ?_
    refine .then ?_
    refine .block ?_
    refine .then ?_
    replace hm:=oo_inv hm;obtain ⟨k1,h2,hm⟩:=hm
    obtain rfl:=toN_some h2
    replace hm:=bb_inv hm;obtain ⟨h3,hm⟩:=hm
    replace hm:=oo_inv hm;obtain ⟨v0,h4,hm⟩:=hm
    replace hm:=inv_toI hm;obtain ⟨x0,rfl,hm⟩:=hm
    replace hm:=bb_inv hm;obtain ⟨h5,hm⟩:=hm
    replace hm:=oo_inv hm;obtain ⟨v1,h6,hm⟩:=hm
    replace hm:=inv_toI hm;obtain ⟨x1,rfl,hm⟩:=hm
    refine .reg (eC 2 (keep (hp 1 [(oT tab0)]) (bb (an (Nat.blt k1 (Sl.n s2)) true) (some (fpV (k1 * 1) (Sl.cs s2))) none)) (keep_bb h3) (eD (keep (hp 1 [(oT tab0)]) (nthL (Sl.cs s2) (k1 * 1))) (keep_eq h4) (eC 2 (keep (hp 1 [(oT tab0)]) (bb (an (Nat.blt k1 (Sl.n s3)) true) (some (fpV (k1 * 1) (Sl.cs s3))) none)) (keep_bb h5) (eD (keep (hp 1 [(oT tab0)]) (nthL (Sl.cs s3) (k1 * 1))) (keep_eq h6) (eE))))) ?_
    refine .ghs (fr 26 [(0,Sl.v 1 s2),(1,Sl.v 1 s3),(5,(zI (Int.ofNat k1))),(25,(zB (nt (ieq x0 x1))))]) (hp 1 [(oT tab0)]) (.k0 [false] [] [0,1,5,25]) ?_
    replace hm:=bb_cases hm;rcases hm with ⟨h7,hm⟩ | ⟨h7,hm⟩
    ·refine .ifT (nt (ieq x0 x1)) (by kernel_rfl) h7 ?_
     refine .then (.rK ?_)
     refine .ghs (fr 26 [(4,zB false)]) (hp 1 [(oT tab0)]) (.k0 [false] [] [4]) ?_
     refine .ret ?_
     exact fin_ret (zB false) (by kernel_rfl) (by kernel_rfl) hm
    ·refine .ifF (nt (ieq x0 x1)) (by kernel_rfl) h7 ?_
     refine .skip ?_
     refine .ghs (fr 26 [(0,Sl.v 1 s2),(1,Sl.v 1 s3),(5,(zI (Int.ofNat k1)))]) (hp 1 [(oT tab0)]) (.k0 [false] [] [0,1,5]) ?_
     refine .rK ?_
     exact ⟨(s2,s3,(wrapF .i64 (Int.add (Int.ofNat k1) (1:Int)))),hm,(.k0 [false] [] [0,1,5])⟩
   ·refine .ifF (ilt z0 (Int.ofNat (Sl.n s2))) (by kernel_rfl) h1 ?_
    refine .exit ?_
    exact ⟨(),hm,(.k0 [false] [] [])⟩

def m22_ (pu:PureF) (n:Nat) (s0:Sl):OV:=
 (some (Sl.v 1 s0))
def m22 (pu:PureF) (n:Nat) (args:LV):OV:=
 (ll args none fun a0 args=>(ll args (oo (toSl 1 a0) none fun s0=>(m22_ pu n s0)) fun _ _=>none))
theorem r22 {call:CallF} (pu:PureF) (n:Nat) (hcall:call = callP tabs isP pu (inl pu)) {args:LV} {v:Value} (hm:m22 pu n args = some v) (_:∀ x ∈ args,closed2 x = true):args.length≤4∧Run tt call 1 c22_3 (Fr.made 4 args) (pureHeap tabs) (Fin tt 1 [.tmp 2] v):=by
 subst hcall
 unfold m22 at hm
 replace hm:=ll_uncons hm;obtain ⟨a0,args_0,rfl,hm⟩:=hm
 replace hm:=ll_end hm;obtain ⟨rfl,hm⟩:=hm
 replace hm:=inv_toSl hm;obtain ⟨s0,rfl,hm⟩:=hm
 unfold m22_ at hm
 refine ⟨by simp,?_⟩
 refine .same (F':=(fr 4 [(0,Sl.v 1 s0)])) (H':=(hp 1 [(oT tab0)])) (by kernel_rfl) (by kernel_rfl) ?_
 refine .then (.rK ?_)
 refine .ghs (fr 4 [(0,Sl.v 1 s0)]) (hp 1 [(oT tab0)]) (.k0 [false] [] [0]) ?_
 refine .then (.rK ?_)
 refine .ghs (fr 4 [(2,Sl.v 1 s0)]) (hp 1 [(oT tab0)]) (.k0 [false] [] [2]) ?_
 refine .ret ?_
 exact fin_ret (Sl.v 1 s0) (by kernel_rfl) (by kernel_rfl) hm
def m24_0 (pu:PureF) (n:Nat) (z0 z1:Int) (b0:Bool):OV:=
 (bb b0 (some (.tuple ⟨[(.int .i64 (0:Int)),(.int .i64 (2:Int))]⟩)) (oo (pu 51 [.int .i64 z0]) none fun v0=>(oo (vAgg v0) none fun l0=>(ll l0 none fun v1 l0=>(ll l0 none fun v2 l0=>(ll l0 (oo (toI .i64 v1) none fun x0=>(oo (vBool v2) none fun b1=>(oo (pu 51 [.int .i64 z1]) none fun v3=>(oo (vAgg v3) none fun l1=>(ll l1 none fun v4 l1=>(ll l1 none fun v5 l1=>(ll l1 (oo (toI .i64 v4) none fun x1=>(oo (vBool v5) none fun b2=>(oo (pu 52 [(.agg ⟨[.int .i64 x0,(.bool b1)]⟩),(.agg ⟨[.int .i64 x1,(.bool b2)]⟩)]) none fun v6=>(oo (vAgg v6) none fun l2=>(ll l2 none fun v7 l2=>(ll l2 none fun v8 l2=>(ll l2 (oo (toI .i64 v7) none fun x2=>(oo (vBool v8) none fun b3=>(oo (pu 53 [(.agg ⟨[.int .i64 x2,(.bool b3)]⟩)]) none fun v9=>(oo (toI .i64 v9) none fun x3=>(some (.tuple ⟨[.int .i64 x3,(.int .i64 (0:Int))]⟩)))))) fun _ _=>none))))))) fun _ _=>none))))))) fun _ _=>none))))))
def m24_ (pu:PureF) (n:Nat) (x0 x1:Int):OV:=
 (oo (pu 48 [(.int .i64 (0:Int)),.int .i64 x0,(.int .i64 (7:Int))]) none fun v0=>(oo (vBool v0) none fun b0=>(bb (nt b0) (m24_0 pu n x0 x1 true) (oo (pu 48 [(.int .i64 (0:Int)),.int .i64 x1,(.int .i64 (7:Int))]) none fun v1=>(oo (vBool v1) none fun b1=>(m24_0 pu n x0 x1 (nt b1)))))))
def m24 (pu:PureF) (n:Nat) (args:LV):OV:=
 (ll args none fun a0 args=>(ll args none fun a1 args=>(ll args (oo (toI .i64 a0) none fun x0=>(oo (toI .i64 a1) none fun x1=>(m24_ pu n x0 x1))) fun _ _=>none)))
theorem r24 {call:CallF} (pu:PureF) (n:Nat) (hcall:call = callP tabs isP pu (inl pu)) {args:LV} {v:Value} (hm:m24 pu n args = some v) (_:∀ x ∈ args,closed2 x = true):args.length≤20∧Run tt call 1 c24_9 (Fr.made 20 args) (pureHeap tabs) (Fin tt 1 [.tmp 4,.tmp 5] v):=by
 subst hcall
 unfold m24 at hm
 replace hm:=ll_uncons hm;obtain ⟨a0,args_0,rfl,hm⟩:=hm
 replace hm:=ll_uncons hm;obtain ⟨a1,args_1,rfl,hm⟩:=hm
 replace hm:=ll_end hm;obtain ⟨rfl,hm⟩:=hm
 replace hm:=inv_toI hm;obtain ⟨x0,rfl,hm⟩:=hm
 replace hm:=inv_toI hm;obtain ⟨x1,rfl,hm⟩:=hm
 unfold m24_ at hm
 refine ⟨by simp,?_⟩
 refine .same (F':=(fr 20 [(0,zI x0),(1,zI x1)])) (H':=(hp 1 [(oT tab0)])) (by kernel_rfl) (by kernel_rfl) ?_
 refine .then (.rK ?_)
 refine .ghs (fr 20 [(0,zI x0),(1,zI x1)]) (hp 1 [(oT tab0)]) (.k0 [false] [] [0,1]) ?_
 refine .then ?_
 refine .join (v:=v) (fun y:Int×Int×Bool=>((fr 20 [(0,(zI y.1)),(1,(zI y.2.1)),(13,(zB y.2.2))]),(hp 1 [(oT tab0)]))) (fun y=>m24_0 pu n y.1 y.2.1 y.2.2) ?_ ?_
 ·rintro ⟨z0, z1, b0⟩ hm
  unfold m24_0 at hm
  replace hm:=bb_cases hm;rcases hm with ⟨h0,hm⟩ | ⟨h0,hm⟩
  ·refine .ifT b0 (by kernel_rfl) h0 ?_
   refine .then (.rK ?_)
   refine .ghs (fr 20 [(4,(zI (0:Int))),(5,(zI (2:Int)))]) (hp 1 [(oT tab0)]) (.k0 [false] [] [4,5]) ?_
   refine .ret ?_
   exact fin_ret (.tuple ⟨[(zI (0:Int)),(zI (2:Int))]⟩) (by kernel_rfl) (by kernel_rfl) hm
  ·refine .ifF b0 (by kernel_rfl) h0 ?_
   refine .skip ?_
   refine .ghs (fr 20 [(0,zI z0),(1,zI z1)]) (hp 1 [(oT tab0)]) (.k0 [false] [] [0,1]) ?_
   refine .then ?_
   replace hm:=oo_inv hm;obtain ⟨v0,h1,hm⟩:=hm
   replace hm:=inv_vAgg hm;obtain ⟨l0,rfl,hm⟩:=hm
   replace hm:=ll_uncons hm;obtain ⟨v1,l4979_0,rfl,hm⟩:=hm
   replace hm:=ll_uncons hm;obtain ⟨v2,l4979_1,rfl,hm⟩:=hm
   replace hm:=ll_end hm;obtain ⟨rfl,hm⟩:=hm
   replace hm:=inv_toI hm;obtain ⟨x2,rfl,hm⟩:=hm
   replace hm:=inv_vBool hm;obtain ⟨b1,rfl,hm⟩:=hm
   replace hm:=oo_inv hm;obtain ⟨v3,h2,hm⟩:=hm
   replace hm:=inv_vAgg hm;obtain ⟨l1,rfl,hm⟩:=hm
   replace hm:=ll_uncons hm;obtain ⟨v4,l4989_0,rfl,hm⟩:=hm
   replace hm:=ll_uncons hm;obtain ⟨v5,l4989_1,rfl,hm⟩:=hm
   replace hm:=ll_end hm;obtain ⟨rfl,hm⟩:=hm
   replace hm:=inv_toI hm;obtain ⟨x3,rfl,hm⟩:=hm
   replace hm:=inv_vBool hm;obtain ⟨b2,rfl,hm⟩:=hm
   replace hm:=oo_inv hm;obtain ⟨v6,h3,hm⟩:=hm
   replace hm:=inv_vAgg hm;obtain ⟨l2,rfl,hm⟩:=hm
   replace hm:=ll_uncons hm;obtain ⟨v7,l4999_0,rfl,hm⟩:=hm
   replace hm:=ll_uncons hm;obtain ⟨v8,l4999_1,rfl,hm⟩:=hm
   replace hm:=ll_end hm;obtain ⟨rfl,hm⟩:=hm
   replace hm:=inv_toI hm;obtain ⟨x4,rfl,hm⟩:=hm
   replace hm:=inv_vBool hm;obtain ⟨b3,rfl,hm⟩:=hm
   replace hm:=oo_inv hm;obtain ⟨v9,h4,hm⟩:=hm
   replace hm:=inv_toI hm;obtain ⟨x5,rfl,hm⟩:=hm
   refine .reg (eC 1 ((oo (pu 51 [zI z0]) none fun v=>some (v,(hp 1 [(oT tab0)])))) (call_eq h1) (eC 1 ((oo (pu 51 [zI z1]) none fun v=>some (v,(hp 1 [(oT tab0)])))) (call_eq h2) (eD ((oo (pu 52 [(.agg ⟨[zI x2,zB b1]⟩),(.agg ⟨[zI x3,zB b2]⟩)]) none fun v=>some (v,(hp 1 [(oT tab0)])))) (call_eq h3) (eD ((oo (pu 53 [(.agg ⟨[zI x4,zB b3]⟩)]) none fun v=>some (v,(hp 1 [(oT tab0)])))) (call_eq h4) (eE))))) ?_
   refine .ghs (fr 20 [(4,zI x5),(5,(zI (0:Int)))]) (hp 1 [(oT tab0)]) (.k0 [false] [] [4,5]) ?_
   refine .ret ?_
   exact fin_ret (.tuple ⟨[zI x5,(zI (0:Int))]⟩) (by kernel_rfl) (by kernel_rfl) hm
 ·replace hm := oo_inv hm; obtain ⟨v10, h5, hm⟩ := hm
  replace hm:=inv_vBool hm;obtain ⟨b4,rfl,hm⟩:=hm
  replace hm:=bb_cases hm;rcases hm with ⟨h6,hm⟩ | ⟨h6,hm⟩
  ·refine .reg (eC 1 ((oo (pu 48 [(zI (0 : Int)), zI x0, (zI (7 : Int))]) none fun v => some (v, (hp 1 [(oT tab0)])))) (call_eq h5) (eD (some ((zB (nt b4)), (hp 1 [(oT tab0)]))) (show _ = some ((zB true), _) from (by rw [show (nt b4) = true from h6])) (eE))) ?_
   exact ⟨(x0,x1,true),hm,(.k0 [false] [] [0,1,13])⟩
  ·replace hm := oo_inv hm; obtain ⟨v11, h7, hm⟩ := hm
   replace hm:=inv_vBool hm;obtain ⟨b5,rfl,hm⟩:=hm
   refine .reg (eC 1 ((oo (pu 48 [(zI (0:Int)),zI x0,(zI (7:Int))]) none fun v=>some (v,(hp 1 [(oT tab0)])))) (call_eq h5) (eD (some ((zB (nt b4)),(hp 1 [(oT tab0)]))) (show _ = some ((zB false),_) from (by rw [show (nt b4) = false from h6])) (eC 2 ((oo (pu 48 [(zI (0:Int)),zI x1,(zI (7:Int))]) none fun v=>some (v,(hp 1 [(oT tab0)])))) (call_eq h7) (eE)))) ?_
   exact ⟨(x0,x1,(nt b5)),hm,(.k0 [false] [] [0,1,13])⟩
def m32_0 (pu:PureF) (n n0:Nat) (q0:LV):OV:=
 (some (.tuple ⟨[(fpV n0 q0),(.int .i64 (0:Int))]⟩))
def b32_1 (pu:PureF) (n:Nat) (ih0:Nat→LV→Sl→Int→Int→OV) (n0:Nat) (q0:LV) (s0:Sl) (z0 z1:Int):OV:=
 (bb (ilt z1 z0) (oo (toN z1) none fun k1=>(bb (an (Nat.blt k1 (Sl.n s0)) true) (oo (nthL (Sl.cs s0) (k1 * 1)) none fun v0=>(oo (toSl 1 v0) none fun s1=>(oo (pu 58 [(fpV n0 q0),Sl.v 1 s1]) none fun v1=>(oo (toI .i64 v1) none fun x0=>(bb (nt (ieq x0 (0:Int))) (some (.tuple ⟨[(.pointer none),.int .i64 x0]⟩)) (ih0 n0 q0 s0 z0 (wrapF .i64 (Int.add (Int.ofNat k1) (1:Int))))))))) none)) (m32_0 pu n n0 q0))
def l32_1 (pu:PureF) (n w:Nat):Nat→LV→Sl→Int→Int→OV:=
 Nat.rec (motive:=fun _=>Nat→LV→Sl→Int→Int→OV) (fun _ _ _ _ _=>none) (fun _ ih0=>b32_1 pu n ih0) w
def m32_2 (pu:PureF) (n:Nat):OV:=
 (some (.tuple ⟨[(.pointer none),(.int .i64 (0:Int))]⟩))
def b32_3 (pu:PureF) (n:Nat) (ih0:Sl→Int→Int→OV) (s0:Sl) (z0 z1:Int):OV:=
 (bb (ilt z1 z0) (oo (toN z1) none fun k1=>(bb (an (Nat.blt k1 (Sl.n s0)) true) (oo (nthL (Sl.cs s0) (k1 * 1)) none fun v0=>(oo (toSl 1 v0) none fun s1=>(oo (pu 58 [(.pointer none),Sl.v 1 s1]) none fun v1=>(oo (toI .i64 v1) none fun x0=>(bb (nt (ieq x0 (0:Int))) (some (.tuple ⟨[(.pointer none),.int .i64 x0]⟩)) (ih0 s0 z0 (wrapF .i64 (Int.add (Int.ofNat k1) (1:Int))))))))) none)) (m32_2 pu n))
def l32_3 (pu:PureF) (n w:Nat):Sl→Int→Int→OV:=
 Nat.rec (motive:=fun _=>Sl→Int→Int→OV) (fun _ _ _=>none) (fun _ ih0=>b32_3 pu n ih0) w
def m32_ (pu:PureF) (n:Nat) (x0 x1 x2:Int) (s0 s1:Sl):OV:=
 (oo (pu 49 [(.agg ⟨[.int .i64 x0,.int .i64 x1,.int .i64 x2,Sl.v 1 s0]⟩)]) none fun v0=>(oo (vTup v0) none fun l0=>(ll l0 none fun v1 l0=>(ll l0 none fun v2 l0=>(ll l0 (bb (isS (vFp v1)) (oo (vFp v1) none fun p0=>(oo (toI .i64 v2) none fun x3=>(bb (nt (ieq x3 (0:Int))) (some (.tuple ⟨[(.pointer none),.int .i64 x3]⟩)) (l32_1 pu n n (FpV.off p0) (FpV.cs p0) s1 (Int.ofNat (Sl.n s1)) (0:Int))))) (bb (isP0 v1) (oo (toI .i64 v2) none fun x4=>(bb (nt (ieq x4 (0:Int))) (some (.tuple ⟨[(.pointer none),.int .i64 x4]⟩)) (l32_3 pu n n s1 (Int.ofNat (Sl.n s1)) (0:Int)))) none)) fun _ _=>none)))))
def m32 (pu:PureF) (n:Nat) (args:LV):OV:=
 (ll args none fun a0 args=>(ll args none fun a1 args=>(ll args (oo (vAgg a0) none fun l0=>(ll l0 none fun v0 l0=>(ll l0 none fun v1 l0=>(ll l0 none fun v2 l0=>(ll l0 none fun v3 l0=>(ll l0 (oo (toI .i64 v0) none fun x0=>(oo (toI .i64 v1) none fun x1=>(oo (toI .i64 v2) none fun x2=>(oo (toSl 1 v3) none fun s0=>(oo (toSl 1 a1) none fun s1=>(m32_ pu n x0 x1 x2 s0 s1)))))) fun _ _=>none)))))) fun _ _=>none)))
theorem w32_0 (pu:PureF) (n n0:Nat) (q0:LV) {v:Value} (hm:m32_0 pu n n0 q0 = some v):Run tt (callP tabs isP pu (inl pu)) 1 c32_28 (fr 33 [(6,(fpV n0 q0))]) (hp 1 [(oT tab0)]) (Fin tt 1 [.tmp 4,.tmp 5] v):=by
 unfold m32_0 at hm
 refine .then (.rK ?_)
 refine .ghs (fr 33 [(4,(fpV n0 q0)),(5,(zI (0:Int)))]) (hp 1 [(oT tab0)]) (.k0 [false] [] [4,5]) ?_
 refine .ret ?_
 exact fin_ret (.tuple ⟨[(fpV n0 q0),(zI (0:Int))]⟩) (by kernel_rfl) (by kernel_rfl) hm
theorem w32_2 (pu:PureF) (n:Nat) {v:Value} (hm:m32_2 pu n = some v):Run tt (callP tabs isP pu (inl pu)) 1 c32_28 (fr 33 [(6,(.pointer none))]) (hp 1 [(oT tab0)]) (Fin tt 1 [.tmp 4,.tmp 5] v):=by
 unfold m32_2 at hm
 refine .then (.rK ?_)
 refine .ghs (fr 33 [(4,(.pointer none)),(5,(zI (0:Int)))]) (hp 1 [(oT tab0)]) (.k0 [false] [] [4,5]) ?_
 refine .ret ?_
 exact fin_ret (.tuple ⟨[(.pointer none),(zI (0:Int))]⟩) (by kernel_rfl) (by kernel_rfl) hm
theorem r32 {call:CallF} (pu:PureF) (n:Nat) (hcall:call = callP tabs isP pu (inl pu)) {args:LV} {v:Value} (hm:m32 pu n args = some v) (_:∀ x ∈ args,closed2 x = true):args.length≤33∧Run tt call 1 c32_32 (Fr.made 33 args) (pureHeap tabs) (Fin tt 1 [.tmp 4,.tmp 5] v):=by
 subst hcall
 unfold m32 at hm
 replace hm:=ll_uncons hm;obtain ⟨a0,args_0,rfl,hm⟩:=hm
 replace hm:=ll_uncons hm;obtain ⟨a1,args_1,rfl,hm⟩:=hm
 replace hm:=ll_end hm;obtain ⟨rfl,hm⟩:=hm
 replace hm:=inv_vAgg hm;obtain ⟨l0,rfl,hm⟩:=hm
 replace hm:=ll_uncons hm;obtain ⟨v0,l5029_0,rfl,hm⟩:=hm
 replace hm:=ll_uncons hm;obtain ⟨v1,l5029_1,rfl,hm⟩:=hm
 replace hm:=ll_uncons hm;obtain ⟨v2,l5029_2,rfl,hm⟩:=hm
 replace hm:=ll_uncons hm;obtain ⟨v3,l5029_3,rfl,hm⟩:=hm
 replace hm:=ll_end hm;obtain ⟨rfl,hm⟩:=hm
 replace hm:=inv_toI hm;obtain ⟨x0,rfl,hm⟩:=hm
 replace hm:=inv_toI hm;obtain ⟨x1,rfl,hm⟩:=hm
 replace hm:=inv_toI hm;obtain ⟨x2,rfl,hm⟩:=hm
 replace hm:=inv_toSl hm;obtain ⟨s0,rfl,hm⟩:=hm
 replace hm:=inv_toSl hm;obtain ⟨s1,rfl,hm⟩:=hm
 unfold m32_ at hm
 refine ⟨by simp,?_⟩
 refine .same (F':=(fr 33 [(0,(.agg ⟨[zI x0,zI x1,zI x2,Sl.v 1 s0]⟩)),(1,Sl.v 1 s1)])) (H':=(hp 1 [(oT tab0)])) (by kernel_rfl) (by kernel_rfl) ?_
 refine .then (.rK ?_)
 refine .ghs (fr 33 [(1,Sl.v 1 s1),(2,pt 1 0)]) (hT 2 [(oC [zI x0,zI x1,zI x2,Sl.v 1 s0])]) (.k0 [false] [.tmp 2 false] [1,2]) ?_
 refine .then ?_
 replace hm:=oo_inv hm;obtain ⟨v4,h0,hm⟩:=hm
 replace hm:=inv_vTup hm;obtain ⟨l1,rfl,hm⟩:=hm
 replace hm:=ll_uncons hm;obtain ⟨v5,l5058_0,rfl,hm⟩:=hm
 replace hm:=ll_uncons hm;obtain ⟨v6,l5058_1,rfl,hm⟩:=hm
 replace hm:=ll_end hm;obtain ⟨rfl,hm⟩:=hm
 replace hm:=bb_cases hm;rcases hm with ⟨h1,hm⟩ | ⟨h1,hm⟩
 ·replace hm := oo_inv hm; obtain ⟨p0, h2, hm⟩ := hm
  obtain rfl:=vFp_some h2
  replace hm:=inv_toI hm;obtain ⟨x3,rfl,hm⟩:=hm
  refine .reg (eC 1 ((oo (pu 49 [(.agg ⟨[zI x0,zI x1,zI x2,Sl.v 1 s0]⟩)]) none fun v=>some (v,(hT 2 [(oC [zI x0,zI x1,zI x2,Sl.v 1 s0])])))) (call_eq h0) (eE)) ?_
  refine .ghs (fr 33 [(1,Sl.v 1 s1),(6,(fpV (FpV.off p0) (FpV.cs p0))),(7,zI x3)]) (hp 1 [(oT tab0)]) (.k0 [false] [] [1,6,7]) ?_
  refine .then ?_
  refine .then (.rK ?_)
  refine .ghs (fr 33 [(1,Sl.v 1 s1),(6,(fpV (FpV.off p0) (FpV.cs p0))),(7,zI x3),(17,(zB (nt (ieq x3 (0:Int)))))]) (hp 1 [(oT tab0)]) (.k0 [false] [] [1,6,7,17]) ?_
  replace hm:=bb_cases hm;rcases hm with ⟨h3,hm⟩ | ⟨h3,hm⟩
  ·refine .ifT (nt (ieq x3 (0 : Int))) (by kernel_rfl) h3 ?_
   refine .then (.rK ?_)
   refine .ghs (fr 33 [(4,(.pointer none)),(5,zI x3)]) (hp 1 [(oT tab0)]) (.k0 [false] [] [4,5]) ?_
   refine .ret ?_
   exact fin_ret (.tuple ⟨[(.pointer none),zI x3]⟩) (by kernel_rfl) (by kernel_rfl) hm
  ·refine .ifF (nt (ieq x3 (0 : Int))) (by kernel_rfl) h3 ?_
   refine .skip ?_
   refine .ghs (fr 33 [(1,Sl.v 1 s1),(6,(fpV (FpV.off p0) (FpV.cs p0)))]) (hp 1 [(oT tab0)]) (.k0 [false] [] [1,6]) ?_
   refine .join (v:=v) (fun y:Nat×LV=>((fr 33 [(6,(fpV y.1 y.2))]),(hp 1 [(oT tab0)]))) (fun y=>m32_0 pu n y.1 y.2) ?_ ?_
   ·rintro ⟨n0, q0⟩ hm
    exact w32_0 pu n n0 q0 hm
   ·refine .then (.rK ?_)
    refine .ghs (fr 33 [(6,(fpV (FpV.off p0) (FpV.cs p0))),(19,Sl.v 1 s1),(20,(zI (Int.ofNat (Sl.n s1)))),(21,(zI (0:Int)))]) (hp 1 [(oT tab0)]) (.k0 [false] [] [6,19,20,21]) ?_
    refine .block ?_
    refine .loopM (v:=v) (fun y:Nat×LV×Sl×Int×Int=>((fr 33 [(6,(fpV y.1 y.2.1)),(19,(Sl.v 1 y.2.2.1)),(20,(zI y.2.2.2.1)),(21,(zI y.2.2.2.2))]),(hp 1 [(oT tab0)]))) (fun w y=>l32_1 pu n w y.1 y.2.1 y.2.2.1 y.2.2.2.1 y.2.2.2.2) n ⟨((FpV.off p0),(FpV.cs p0),s1,(Int.ofNat (Sl.n s1)),(0:Int)),hm,(.k0 [false] [] [6,19,20,21])⟩ (fun _=>rfl) ?_
    rintro w0 ⟨n1,q1,s2,z0,z1⟩ hm
    replace hm:b32_1 pu n (l32_1 pu n w0) n1 q1 s2 z0 z1 = some v:=hm
    unfold b32_1 at hm
    refine .then (.rK ?_)
    refine .ghs (fr 33 [(6,(fpV n1 q1)),(19,Sl.v 1 s2),(20,zI z0),(21,zI z1),(22,(zB (ilt z1 z0)))]) (hp 1 [(oT tab0)]) (.k0 [false] [] [6,19,20,21,22]) ?_
    refine .then ?_
    replace hm:=bb_cases hm;rcases hm with ⟨h4,hm⟩ | ⟨h4,hm⟩
    ·refine .ifT (ilt z1 z0) (by kernel_rfl) h4 ?_
     refine .skip ?_
     refine .ghs (fr 33 [(6,(fpV n1 q1)),(19,Sl.v 1 s2),(20,zI z0),(21,zI z1)]) (hp 1 [(oT tab0)]) (.k0 [false] [] [6,19,20,21]) ?_
     refine .then ?_
     refine .block ?_
     refine .then ?_
     replace hm:=oo_inv hm;obtain ⟨k1,h5,hm⟩:=hm
     obtain rfl:=toN_some h5
     replace hm:=bb_inv hm;obtain ⟨h6,hm⟩:=hm
     replace hm:=oo_inv hm;obtain ⟨v7,h7,hm⟩:=hm
     replace hm:=inv_toSl hm;obtain ⟨s3,rfl,hm⟩:=hm
     refine .reg (eD (keep (hp 1 [(oT tab0)]) (bb (an (Nat.blt k1 (Sl.n s2)) true) (some (fpV (k1 * 1) (Sl.cs s2))) none)) (keep_bb h6) (eD (keep (hp 1 [(oT tab0)]) (nthL (Sl.cs s2) (k1 * 1))) (keep_eq h7) (eE))) ?_
     refine .ghs (fr 33 [(6,(fpV n1 q1)),(9,Sl.v 1 s3),(19,Sl.v 1 s2),(20,zI z0),(21,(zI (Int.ofNat k1)))]) (hp 1 [(oT tab0)]) (.k0 [false] [] [6,9,19,20,21]) ?_
     refine .then ?_
     replace hm:=oo_inv hm;obtain ⟨v8,h8,hm⟩:=hm
     replace hm:=inv_toI hm;obtain ⟨x4,rfl,hm⟩:=hm
     refine .reg (eC 2 ((oo (pu 58 [(fpV n1 q1),Sl.v 1 s3]) none fun v=>some (v,(hp 1 [(oT tab0)])))) (call_eq h8) (eE)) ?_
     refine .ghs (fr 33 [(6,(fpV n1 q1)),(10,zI x4),(19,Sl.v 1 s2),(20,zI z0),(21,(zI (Int.ofNat k1)))]) (hp 1 [(oT tab0)]) (.k0 [false] [] [6,10,19,20,21]) ?_
     refine .then (.rK ?_)
     refine .ghs (fr 33 [(6,(fpV n1 q1)),(10,zI x4),(19,Sl.v 1 s2),(20,zI z0),(21,(zI (Int.ofNat k1))),(29,(zB (nt (ieq x4 (0:Int)))))]) (hp 1 [(oT tab0)]) (.k0 [false] [] [6,10,19,20,21,29]) ?_
     replace hm:=bb_cases hm;rcases hm with ⟨h9,hm⟩ | ⟨h9,hm⟩
     ·refine .ifT (nt (ieq x4 (0 : Int))) (by kernel_rfl) h9 ?_
      refine .then (.rK ?_)
      refine .ghs (fr 33 [(4,(.pointer none)),(5,zI x4)]) (hp 1 [(oT tab0)]) (.k0 [false] [] [4,5]) ?_
      refine .ret ?_
      exact fin_ret (.tuple ⟨[(.pointer none),zI x4]⟩) (by kernel_rfl) (by kernel_rfl) hm
     ·refine .ifF (nt (ieq x4 (0 : Int))) (by kernel_rfl) h9 ?_
      refine .skip ?_
      refine .ghs (fr 33 [(6,(fpV n1 q1)),(19,Sl.v 1 s2),(20,zI z0),(21,(zI (Int.ofNat k1)))]) (hp 1 [(oT tab0)]) (.k0 [false] [] [6,19,20,21]) ?_
      refine .rK ?_
      exact ⟨(n1,q1,s2,z0,(wrapF .i64 (Int.add (Int.ofNat k1) (1:Int)))),hm,(.k0 [false] [] [6,19,20,21])⟩
    ·refine .ifF (ilt z1 z0) (by kernel_rfl) h4 ?_
     refine .exit ?_
     exact ⟨(n1,q1),hm,(.k0 [false] [] [6])⟩
 ·replace hm := bb_inv hm; obtain ⟨h10, hm⟩ := hm
  obtain rfl:=isP0_ok h10
  replace hm:=inv_toI hm;obtain ⟨x5,rfl,hm⟩:=hm
  refine .reg (eC 1 ((oo (pu 49 [(.agg ⟨[zI x0,zI x1,zI x2,Sl.v 1 s0]⟩)]) none fun v=>some (v,(hT 2 [(oC [zI x0,zI x1,zI x2,Sl.v 1 s0])])))) (call_eq h0) (eE)) ?_
  refine .ghs (fr 33 [(1,Sl.v 1 s1),(6,(.pointer none)),(7,zI x5)]) (hp 1 [(oT tab0)]) (.k0 [false] [] [1,6,7]) ?_
  refine .then ?_
  refine .then (.rK ?_)
  refine .ghs (fr 33 [(1,Sl.v 1 s1),(6,(.pointer none)),(7,zI x5),(17,(zB (nt (ieq x5 (0:Int)))))]) (hp 1 [(oT tab0)]) (.k0 [false] [] [1,6,7,17]) ?_
  replace hm:=bb_cases hm;rcases hm with ⟨h11,hm⟩ | ⟨h11,hm⟩
  ·refine .ifT (nt (ieq x5 (0 : Int))) (by kernel_rfl) h11 ?_
   refine .then (.rK ?_)
   refine .ghs (fr 33 [(4,(.pointer none)),(5,zI x5)]) (hp 1 [(oT tab0)]) (.k0 [false] [] [4,5]) ?_
   refine .ret ?_
   exact fin_ret (.tuple ⟨[(.pointer none),zI x5]⟩) (by kernel_rfl) (by kernel_rfl) hm
  ·refine .ifF (nt (ieq x5 (0 : Int))) (by kernel_rfl) h11 ?_
   refine .skip ?_
   refine .ghs (fr 33 [(1,Sl.v 1 s1),(6,(.pointer none))]) (hp 1 [(oT tab0)]) (.k0 [false] [] [1,6]) ?_
   refine .join (v:=v) (fun y:Unit=>((fr 33 [(6,(.pointer none))]),(hp 1 [(oT tab0)]))) (fun y=>m32_2 pu n) ?_ ?_
   ·rintro _ hm
    exact w32_2 pu n hm
   ·refine .then (.rK ?_)
    refine .ghs (fr 33 [(6,(.pointer none)),(19,Sl.v 1 s1),(20,(zI (Int.ofNat (Sl.n s1)))),(21,(zI (0:Int)))]) (hp 1 [(oT tab0)]) (.k0 [false] [] [6,19,20,21]) ?_
    refine .block ?_
    refine .loopM (v:=v) (fun y:Sl×Int×Int=>((fr 33 [(6,(.pointer none)),(19,(Sl.v 1 y.1)),(20,(zI y.2.1)),(21,(zI y.2.2))]),(hp 1 [(oT tab0)]))) (fun w y=>l32_3 pu n w y.1 y.2.1 y.2.2) n ⟨(s1,(Int.ofNat (Sl.n s1)),(0:Int)),hm,(.k0 [false] [] [6,19,20,21])⟩ (fun _=>rfl) ?_
    rintro w0 ⟨s4,z2,z3⟩ hm
    replace hm:b32_3 pu n (l32_3 pu n w0) s4 z2 z3 = some v:=hm
    unfold b32_3 at hm
    refine .then (.rK ?_)
    refine .ghs (fr 33 [(6,(.pointer none)),(19,Sl.v 1 s4),(20,zI z2),(21,zI z3),(22,(zB (ilt z3 z2)))]) (hp 1 [(oT tab0)]) (.k0 [false] [] [6,19,20,21,22]) ?_
    refine .then ?_
    replace hm:=bb_cases hm;rcases hm with ⟨h12,hm⟩ | ⟨h12,hm⟩
    ·refine .ifT (ilt z3 z2) (by kernel_rfl) h12 ?_
     refine .skip ?_
     refine .ghs (fr 33 [(6,(.pointer none)),(19,Sl.v 1 s4),(20,zI z2),(21,zI z3)]) (hp 1 [(oT tab0)]) (.k0 [false] [] [6,19,20,21]) ?_
     refine .then ?_
     refine .block ?_
     refine .then ?_
     replace hm:=oo_inv hm;obtain ⟨k2,h13,hm⟩:=hm
     obtain rfl:=toN_some h13
     replace hm:=bb_inv hm;obtain ⟨h14,hm⟩:=hm
     replace hm:=oo_inv hm;obtain ⟨v9,h15,hm⟩:=hm
     replace hm:=inv_toSl hm;obtain ⟨s5,rfl,hm⟩:=hm
     refine .reg (eD (keep (hp 1 [(oT tab0)]) (bb (an (Nat.blt k2 (Sl.n s4)) true) (some (fpV (k2 * 1) (Sl.cs s4))) none)) (keep_bb h14) (eD (keep (hp 1 [(oT tab0)]) (nthL (Sl.cs s4) (k2 * 1))) (keep_eq h15) (eE))) ?_
     refine .ghs (fr 33 [(6,(.pointer none)),(9,Sl.v 1 s5),(19,Sl.v 1 s4),(20,zI z2),(21,(zI (Int.ofNat k2)))]) (hp 1 [(oT tab0)]) (.k0 [false] [] [6,9,19,20,21]) ?_
     refine .then ?_
     replace hm:=oo_inv hm;obtain ⟨v10,h16,hm⟩:=hm
     replace hm:=inv_toI hm;obtain ⟨x6,rfl,hm⟩:=hm
     refine .reg (eC 2 ((oo (pu 58 [(.pointer none),Sl.v 1 s5]) none fun v=>some (v,(hp 1 [(oT tab0)])))) (call_eq h16) (eE)) ?_
     refine .ghs (fr 33 [(6,(.pointer none)),(10,zI x6),(19,Sl.v 1 s4),(20,zI z2),(21,(zI (Int.ofNat k2)))]) (hp 1 [(oT tab0)]) (.k0 [false] [] [6,10,19,20,21]) ?_
     refine .then (.rK ?_)
     refine .ghs (fr 33 [(6,(.pointer none)),(10,zI x6),(19,Sl.v 1 s4),(20,zI z2),(21,(zI (Int.ofNat k2))),(29,(zB (nt (ieq x6 (0:Int)))))]) (hp 1 [(oT tab0)]) (.k0 [false] [] [6,10,19,20,21,29]) ?_
     replace hm:=bb_cases hm;rcases hm with ⟨h17,hm⟩ | ⟨h17,hm⟩
     ·refine .ifT (nt (ieq x6 (0 : Int))) (by kernel_rfl) h17 ?_
      refine .then (.rK ?_)
      refine .ghs (fr 33 [(4,(.pointer none)),(5,zI x6)]) (hp 1 [(oT tab0)]) (.k0 [false] [] [4,5]) ?_
      refine .ret ?_
      exact fin_ret (.tuple ⟨[(.pointer none),zI x6]⟩) (by kernel_rfl) (by kernel_rfl) hm
     ·refine .ifF (nt (ieq x6 (0 : Int))) (by kernel_rfl) h17 ?_
      refine .skip ?_
      refine .ghs (fr 33 [(6,(.pointer none)),(19,Sl.v 1 s4),(20,zI z2),(21,(zI (Int.ofNat k2)))]) (hp 1 [(oT tab0)]) (.k0 [false] [] [6,19,20,21]) ?_
      refine .rK ?_
      exact ⟨(s4,z2,(wrapF .i64 (Int.add (Int.ofNat k2) (1:Int)))),hm,(.k0 [false] [] [6,19,20,21])⟩
    ·refine .ifF (ilt z3 z2) (by kernel_rfl) h12 ?_
     refine .exit ?_
     exact ⟨(),hm,(.k0 [false] [] [6])⟩
def m33_0 (pu:PureF) (n:Nat):OV:=
 (some (.int .i64 (-1:Int)))
def b33_1 (pu:PureF) (n:Nat) (ih0:Sl→Int→Int→Int→OV) (s0:Sl) (z0 z1 z2:Int):OV:=
 (bb (ilt z2 z1) (oo (toN z2) none fun k1=>(bb (an (Nat.blt k1 (Sl.n s0)) true) (oo (nthL (Sl.cs s0) (k1 * 1)) none fun v0=>(oo (toI .i64 v0) none fun x0=>(bb (ieq z0 x0) (some (.int .i64 (Int.ofNat k1))) (ih0 s0 z0 z1 (wrapF .i64 (Int.add (Int.ofNat k1) (1:Int))))))) none)) (m33_0 pu n))
def l33_1 (pu:PureF) (n w:Nat):Sl→Int→Int→Int→OV:=
 Nat.rec (motive:=fun _=>Sl→Int→Int→Int→OV) (fun _ _ _ _=>none) (fun _ ih0=>b33_1 pu n ih0) w
def m33_ (pu:PureF) (n:Nat) (s0:Sl) (x0:Int):OV:=
 (l33_1 pu n n s0 x0 (Int.ofNat (Sl.n s0)) (0:Int))
def m33 (pu:PureF) (n:Nat) (args:LV):OV:=
 (ll args none fun a0 args=>(ll args none fun a1 args=>(ll args (oo (toSl 1 a0) none fun s0=>(oo (toI .i64 a1) none fun x0=>(m33_ pu n s0 x0))) fun _ _=>none)))
theorem w33_0 (pu:PureF) (n:Nat) {v:Value} (hm:m33_0 pu n = some v):Run tt (callP tabs isP pu (inl pu)) 1 c33_20 (fr 19 []) (hp 1 [(oT tab0)]) (Fin tt 1 [.tmp 4] v):=by
 unfold m33_0 at hm
 refine .then (.rK ?_)
 refine .ghs (fr 19 [(4,(zI (-1:Int)))]) (hp 1 [(oT tab0)]) (.k0 [false] [] [4]) ?_
 refine .ret ?_
 exact fin_ret (zI (-1:Int)) (by kernel_rfl) (by kernel_rfl) hm
theorem r33 {call:CallF} (pu:PureF) (n:Nat) (hcall:call = callP tabs isP pu (inl pu)) {args:LV} {v:Value} (hm:m33 pu n args = some v) (_:∀ x ∈ args,closed2 x = true):args.length≤19∧Run tt call 1 c33_22 (Fr.made 19 args) (pureHeap tabs) (Fin tt 1 [.tmp 4] v):=by
 subst hcall
 unfold m33 at hm
 replace hm:=ll_uncons hm;obtain ⟨a0,args_0,rfl,hm⟩:=hm
 replace hm:=ll_uncons hm;obtain ⟨a1,args_1,rfl,hm⟩:=hm
 replace hm:=ll_end hm;obtain ⟨rfl,hm⟩:=hm
 replace hm:=inv_toSl hm;obtain ⟨s0,rfl,hm⟩:=hm
 replace hm:=inv_toI hm;obtain ⟨x0,rfl,hm⟩:=hm
 unfold m33_ at hm
 refine ⟨by simp,?_⟩
 refine .same (F':=(fr 19 [(0,Sl.v 1 s0),(1,zI x0)])) (H':=(hp 1 [(oT tab0)])) (by kernel_rfl) (by kernel_rfl) ?_
 refine .then (.rK ?_)
 refine .ghs (fr 19 [(0,Sl.v 1 s0),(1,zI x0)]) (hp 1 [(oT tab0)]) (.k0 [false] [] [0,1]) ?_
 refine .join (v:=v) (fun y:Unit=>((fr 19 []),(hp 1 [(oT tab0)]))) (fun y=>m33_0 pu n) ?_ ?_
 ·rintro _ hm
  exact w33_0 pu n hm
 ·refine .then (.rK ?_)
  refine .ghs (fr 19 [(0,Sl.v 1 s0),(1,zI x0),(7,(zI (Int.ofNat (Sl.n s0)))),(8,(zI (0:Int)))]) (hp 1 [(oT tab0)]) (.k0 [false] [] [0,1,7,8]) ?_
  refine .block ?_
  refine .loopM (v:=v) (fun y:Sl×Int×Int×Int=>((fr 19 [(0,(Sl.v 1 y.1)),(1,(zI y.2.1)),(7,(zI y.2.2.1)),(8,(zI y.2.2.2))]),(hp 1 [(oT tab0)]))) (fun w y=>l33_1 pu n w y.1 y.2.1 y.2.2.1 y.2.2.2) n ⟨(s0,x0,(Int.ofNat (Sl.n s0)),(0:Int)),hm,(.k0 [false] [] [0,1,7,8])⟩ (fun _=>rfl) ?_
  rintro w0 ⟨s1,z0,z1,z2⟩ hm
  replace hm:b33_1 pu n (l33_1 pu n w0) s1 z0 z1 z2 = some v:=hm
  unfold b33_1 at hm
  refine .then (.rK ?_)
  refine .ghs (fr 19 [(0,Sl.v 1 s1),(1,zI z0),(7,zI z1),(8,zI z2),(9,(zB (ilt z2 z1)))]) (hp 1 [(oT tab0)]) (.k0 [false] [] [0,1,7,8,9]) ?_
  refine .then ?_
  replace hm:=bb_cases hm;rcases hm with ⟨h0,hm⟩ | ⟨h0,hm⟩
  ·refine .ifT (ilt z2 z1) (by kernel_rfl) h0 ?_
   refine .skip ?_
   refine .ghs (fr 19 [(0,Sl.v 1 s1),(1,zI z0),(7,zI z1),(8,zI z2)]) (hp 1 [(oT tab0)]) (.k0 [false] [] [0,1,7,8]) ?_
   refine .then ?_
   refine .block ?_
   refine .then (.rK ?_)
   refine .ghs (fr 19 [(0,Sl.v 1 s1),(1,zI z0),(5,zI z2),(7,zI z1),(8,zI z2)]) (hp 1 [(oT tab0)]) (.k0 [false] [] [0,1,5,7,8]) ?_
   refine .then ?_
   replace hm:=oo_inv hm;obtain ⟨k1,h1,hm⟩:=hm
   obtain rfl:=toN_some h1
   replace hm:=bb_inv hm;obtain ⟨h2,hm⟩:=hm
   replace hm:=oo_inv hm;obtain ⟨v0,h3,hm⟩:=hm
   replace hm:=inv_toI hm;obtain ⟨x1,rfl,hm⟩:=hm
   refine .reg (eC 3 (keep (hp 1 [(oT tab0)]) (bb (an (Nat.blt k1 (Sl.n s1)) true) (some (fpV (k1 * 1) (Sl.cs s1))) none)) (keep_bb h2) (eD (keep (hp 1 [(oT tab0)]) (nthL (Sl.cs s1) (k1 * 1))) (keep_eq h3) (eE))) ?_
   refine .ghs (fr 19 [(0,Sl.v 1 s1),(1,zI z0),(5,(zI (Int.ofNat k1))),(7,zI z1),(8,(zI (Int.ofNat k1))),(16,(zB (ieq z0 x1)))]) (hp 1 [(oT tab0)]) (.k0 [false] [] [0,1,5,7,8,16]) ?_
   replace hm:=bb_cases hm;rcases hm with ⟨h4,hm⟩ | ⟨h4,hm⟩
   ·refine .ifT (ieq z0 x1) (by kernel_rfl) h4 ?_
    refine .then (.rK ?_)
    refine .ghs (fr 19 [(4,(zI (Int.ofNat k1)))]) (hp 1 [(oT tab0)]) (.k0 [false] [] [4]) ?_
    refine .ret ?_
    exact fin_ret (zI (Int.ofNat k1)) (by kernel_rfl) (by kernel_rfl) hm
   ·refine .ifF (ieq z0 x1) (by kernel_rfl) h4 ?_
    refine .skip ?_
    refine .ghs (fr 19 [(0,Sl.v 1 s1),(1,zI z0),(7,zI z1),(8,(zI (Int.ofNat k1)))]) (hp 1 [(oT tab0)]) (.k0 [false] [] [0,1,7,8]) ?_
    refine .rK ?_
    exact ⟨(s1,z0,z1,(wrapF .i64 (Int.add (Int.ofNat k1) (1:Int)))),hm,(.k0 [false] [] [0,1,7,8])⟩
  ·refine .ifF (ilt z2 z1) (by kernel_rfl) h0 ?_
   refine .exit ?_
   exact ⟨(),hm,(.k0 [false] [] [])⟩
def m34_0 (pu:PureF) (n n0 c0:Nat) (q0:LV):OV:=
 (bb (allL closed1 q0) (bb (an (Nat.ble (0 + n0 * 1) (len q0)) (allL closed1 (takeL (n0 * 1) (dropL 0 q0)))) (some (Sl.v 1 (Sl.mk n0 0 (takeL (n0 * 1) (dropL 0 q0))))) none) none)
def b34_1 (pu:PureF) (n:Nat) (ih0:Sl→Nat→Nat→Sl→Int→Int→LV→OV) (s0:Sl) (n0 c0:Nat) (s1:Sl) (z0 z1:Int) (q0:LV):OV:=
 (bb (allL closed1 q0) (bb (ilt z1 z0) (oo (toN z1) none fun k1=>(bb (an (Nat.blt k1 (Sl.n s1)) true) (oo (nthL (Sl.cs s1) (k1 * 1)) none fun v0=>(oo (toI .i64 v0) none fun x0=>(oo (toN x0) none fun k2=>(bb (an (Nat.blt k2 (Sl.n s0)) true) (oo (nthL (Sl.cs s0) (k2 * 1)) none fun v1=>(oo (toI .i64 v1) none fun x1=>(bb (an (Nat.blt k1 n0) true) (bb (an (Nat.ble ((0 + k1 * 1) + 1) (len q0)) true) (bb (allL closed1 (setL ([.int .i64 x1]:LV) (0 + k1 * 1) q0)) (ih0 s0 n0 c0 s1 z0 (wrapF .i64 (Int.add (Int.ofNat k1) (1:Int))) (setL ([.int .i64 x1]:LV) (0 + k1 * 1) q0)) none) none) none))) none)))) none)) (m34_0 pu n n0 c0 q0)) none)
def l34_1 (pu:PureF) (n w:Nat):Sl→Nat→Nat→Sl→Int→Int→LV→OV:=
 Nat.rec (motive:=fun _=>Sl→Nat→Nat→Sl→Int→Int→LV→OV) (fun _ _ _ _ _ _ _=>none) (fun _ ih0=>b34_1 pu n ih0) w
def m34_ (pu:PureF) (n:Nat) (p0:FpV) (s0:Sl) (x0:Int):OV:=
 (bb (an (Nat.ble (Sl.n s0) (Sl.n s0)) (an (Nat.ble ((Sl.n s0) * 8) 1099511627776) (an (Nat.ble (Sl.n s0) 1099511627776) true))) (bb (allL closed1 (zeroRow ([(.int .i64 (0:Int))]:LV) (Sl.n s0))) (oo (nthL (FpV.cs p0) ((FpV.off p0) + 4)) none fun v0=>(oo (toSl 1 v0) none fun s1=>(oo (toN x0) none fun k1=>(bb (an (Nat.blt k1 (Sl.n s1)) true) (oo (nthL (Sl.cs s1) (k1 * 1)) none fun v1=>(oo (toSl 1 v1) none fun s2=>(l34_1 pu n n s0 (Sl.n s0) (2 * (Sl.n s0) + bb true 1 0) s2 (Int.ofNat (Sl.n s2)) (0:Int) (zeroRow ([(.int .i64 (0:Int))]:LV) (Sl.n s0))))) none)))) none) none)
def m34 (pu:PureF) (n:Nat) (args:LV):OV:=
 (ll args none fun a0 args=>(ll args none fun a1 args=>(ll args none fun a2 args=>(ll args (oo (vFp a0) none fun p0=>(oo (toSl 1 a1) none fun s0=>(oo (toI .i64 a2) none fun x0=>(m34_ pu n p0 s0 x0)))) fun _ _=>none))))
theorem w34_0 (pu:PureF) (n n0 c0:Nat) (q0:LV) {v:Value} (hm:m34_0 pu n n0 c0 q0 = some v):Run tt (callP tabs isP pu (inl pu)) 1 c34_17 (fr 35 [(7,sc 1 0 1 n0 c0)]) (hT 2 [oC q0]) (Fin tt 1 [.tmp 6] v):=by
 unfold m34_0 at hm
 refine .then (.rK ?_)
 replace hm:=bb_inv hm;obtain ⟨h0,hm⟩:=hm
 refine .ghs (fr 35 [(6,sc 1 0 1 n0 c0)]) (hT 2 [oC q0]) (.k [1] [false] [.tmp 6 false] [6] ⟨trF h0,trivial⟩) ?_
 replace hm:=bb_inv hm;obtain ⟨h1,hm⟩:=hm
 refine .ghs (Fr.puts (fr 35 [(6,sc 1 0 1 n0 c0)]) [(6,(Sl.v 1 (Sl.mk n0 0 (takeL (n0 * 1) (dropL 0 q0)))))]) (hT 2 [.dead]) (.freezeC 1 6 1 (an (Nat.ble (0 + n0 * 1) (len q0)) (allL closed1 (takeL (n0 * 1) (dropL 0 q0)))) (F1:=(Fr.puts (fr 35 [(6,sc 1 0 1 n0 c0)]) [(6,(Sl.v 1 (Sl.mk n0 0 (takeL (n0 * 1) (dropL 0 q0)))))])) (H1:=(hT 2 [.dead])) (by kernel_rfl) (by kernel_rfl) h1 (GhS.id _ _)) ?_
 refine .ret ?_
 exact fin_ret (Sl.v 1 (Sl.mk n0 0 (takeL (n0 * 1) (dropL 0 q0)))) (by kernel_rfl) (by kernel_rfl) hm
theorem r34 {call:CallF} (pu:PureF) (n:Nat) (hcall:call = callP tabs isP pu (inl pu)) {args:LV} {v:Value} (hm:m34 pu n args = some v) (_:∀ x ∈ args,closed2 x = true):args.length≤35∧Run tt call 1 c34_20 (Fr.made 35 args) (pureHeap tabs) (Fin tt 1 [.tmp 6] v):=by
 subst hcall
 unfold m34 at hm
 replace hm:=ll_uncons hm;obtain ⟨a0,args_0,rfl,hm⟩:=hm
 replace hm:=ll_uncons hm;obtain ⟨a1,args_1,rfl,hm⟩:=hm
 replace hm:=ll_uncons hm;obtain ⟨a2,args_2,rfl,hm⟩:=hm
 replace hm:=ll_end hm;obtain ⟨rfl,hm⟩:=hm
 replace hm:=oo_inv hm;obtain ⟨p0,h0,hm⟩:=hm
 obtain rfl:=vFp_some h0
 replace hm:=inv_toSl hm;obtain ⟨s0,rfl,hm⟩:=hm
 replace hm:=inv_toI hm;obtain ⟨x0,rfl,hm⟩:=hm
 unfold m34_ at hm
 refine ⟨by simp,?_⟩
 refine .same (F':=(fr 35 [(0,(fpV (FpV.off p0) (FpV.cs p0))),(1,Sl.v 1 s0),(2,zI x0)])) (H':=(hp 1 [(oT tab0)])) (by kernel_rfl) (by kernel_rfl) ?_
 refine .then (.rK ?_)
 refine .ghs (fr 35 [(0,(fpV (FpV.off p0) (FpV.cs p0))),(1,Sl.v 1 s0),(2,zI x0)]) (hp 1 [(oT tab0)]) (.k0 [false] [] [0,1,2]) ?_
 refine .then ?_
 replace hm:=bb_inv hm;obtain ⟨h1,hm⟩:=hm
 refine .reg (eC 2 (bb (an (Nat.ble (Sl.n s0) (Sl.n s0)) (an (Nat.ble ((Sl.n s0) * 8) 1099511627776) (an (Nat.ble (Sl.n s0) 1099511627776) true))) (some ((sc 1 0 1 (Sl.n s0) (2 * (Sl.n s0) + bb true 1 0)),(hT 2 [(oC (zeroRow ([(zI (0:Int))]:LV) (Sl.n s0)))]))) none) (bb_some h1) (eE)) ?_
 replace hm:=bb_inv hm;obtain ⟨h2,hm⟩:=hm
 refine .ghs (fr 35 [(0,(fpV (FpV.off p0) (FpV.cs p0))),(1,Sl.v 1 s0),(2,zI x0),(7,(sc 1 0 1 (Sl.n s0) (2 * (Sl.n s0) + bb true 1 0)))]) (hT 2 [(oC (zeroRow ([(zI (0:Int))]:LV) (Sl.n s0)))]) (.k [1] [false] [.tmp 7 false] [0,1,2,7] ⟨trF h2,trivial⟩) ?_
 refine .join (v:=v) (fun y:Nat×Nat×LV=>((fr 35 [(7,(sc 1 0 1 y.1 y.2.1))]),(hT 2 [(oC y.2.2)]))) (fun y=>m34_0 pu n y.1 y.2.1 y.2.2) ?_ ?_
 ·rintro ⟨n0, c0, q0⟩ hm
  exact w34_0 pu n n0 c0 q0 hm
 ·refine .then ?_
  replace hm:=oo_inv hm;obtain ⟨v0,h3,hm⟩:=hm
  replace hm:=inv_toSl hm;obtain ⟨s1,rfl,hm⟩:=hm
  replace hm:=oo_inv hm;obtain ⟨k1,h4,hm⟩:=hm
  obtain rfl:=toN_some h4
  replace hm:=bb_inv hm;obtain ⟨h5,hm⟩:=hm
  replace hm:=oo_inv hm;obtain ⟨v1,h6,hm⟩:=hm
  replace hm:=inv_toSl hm;obtain ⟨s2,rfl,hm⟩:=hm
  refine .reg (eC 3 (keep (hT 2 [(oC (zeroRow ([(zI (0:Int))]:LV) (Sl.n s0)))]) (nthL (FpV.cs p0) ((FpV.off p0) + 4))) (keep_eq h3) (eC 1 (keep (hT 2 [(oC (zeroRow ([(zI (0:Int))]:LV) (Sl.n s0)))]) (bb (an (Nat.blt k1 (Sl.n s1)) true) (some (fpV (k1 * 1) (Sl.cs s1))) none)) (keep_bb h5) (eD (keep (hT 2 [(oC (zeroRow ([(zI (0:Int))]:LV) (Sl.n s0)))]) (nthL (Sl.cs s1) (k1 * 1))) (keep_eq h6) (eE)))) ?_
  refine .ghs (fr 35 [(1,Sl.v 1 s0),(7,(sc 1 0 1 (Sl.n s0) (2 * (Sl.n s0) + bb true 1 0))),(19,Sl.v 1 s2),(20,(zI (Int.ofNat (Sl.n s2)))),(21,(zI (0:Int)))]) (hT 2 [(oC (zeroRow ([(zI (0:Int))]:LV) (Sl.n s0)))]) (.k [1] [false] [.tmp 7 false] [1,7,19,20,21] ⟨trF h2,trivial⟩) ?_
  refine .block ?_
  refine .loopM (v:=v) (fun y:Sl×Nat×Nat×Sl×Int×Int×LV=>((fr 35 [(1,(Sl.v 1 y.1)),(7,(sc 1 0 1 y.2.1 y.2.2.1)),(19,(Sl.v 1 y.2.2.2.1)),(20,(zI y.2.2.2.2.1)),(21,(zI y.2.2.2.2.2.1))]),(hT 2 [(oC y.2.2.2.2.2.2)]))) (fun w y=>l34_1 pu n w y.1 y.2.1 y.2.2.1 y.2.2.2.1 y.2.2.2.2.1 y.2.2.2.2.2.1 y.2.2.2.2.2.2) n ⟨(s0,(Sl.n s0),(2 * (Sl.n s0) + bb true 1 0),s2,(Int.ofNat (Sl.n s2)),(0:Int),(zeroRow ([(zI (0:Int))]:LV) (Sl.n s0))),hm,(.k [1] [false] [.tmp 7 false] [1,7,19,20,21] ⟨trF h2,trivial⟩)⟩ (fun _=>rfl) ?_
  rintro w0 ⟨s3,n1,c1,s4,z0,z1,q1⟩ hm
  replace hm:b34_1 pu n (l34_1 pu n w0) s3 n1 c1 s4 z0 z1 q1 = some v:=hm
  unfold b34_1 at hm
  refine .then (.rK ?_)
  replace hm:=bb_inv hm;obtain ⟨h7,hm⟩:=hm
  refine .ghs (fr 35 [(1,Sl.v 1 s3),(7,sc 1 0 1 n1 c1),(19,Sl.v 1 s4),(20,zI z0),(21,zI z1),(22,(zB (ilt z1 z0)))]) (hT 2 [oC q1]) (.k [1] [false] [.tmp 7 false] [1,7,19,20,21,22] ⟨trF h7,trivial⟩) ?_
  refine .then ?_
  replace hm:=bb_cases hm;rcases hm with ⟨h8,hm⟩ | ⟨h8,hm⟩
  ·refine .ifT (ilt z1 z0) (by kernel_rfl) h8 ?_
   refine .skip ?_
   refine .ghs (fr 35 [(1,Sl.v 1 s3),(7,sc 1 0 1 n1 c1),(19,Sl.v 1 s4),(20,zI z0),(21,zI z1)]) (hT 2 [oC q1]) (.k [1] [false] [.tmp 7 false] [1,7,19,20,21] ⟨trF h7,trivial⟩) ?_
   refine .then ?_
   refine .block ?_
   refine .then ?_
   replace hm:=oo_inv hm;obtain ⟨k2,h9,hm⟩:=hm
   obtain rfl:=toN_some h9
   replace hm:=bb_inv hm;obtain ⟨h10,hm⟩:=hm
   replace hm:=oo_inv hm;obtain ⟨v2,h11,hm⟩:=hm
   replace hm:=inv_toI hm;obtain ⟨x1,rfl,hm⟩:=hm
   refine .reg (eC 1 (keep (hT 2 [oC q1]) (bb (an (Nat.blt k2 (Sl.n s4)) true) (some (fpV (k2 * 1) (Sl.cs s4))) none)) (keep_bb h10) (eD (keep (hT 2 [oC q1]) (nthL (Sl.cs s4) (k2 * 1))) (keep_eq h11) (eE))) ?_
   refine .ghs (fr 35 [(1,Sl.v 1 s3),(7,sc 1 0 1 n1 c1),(8,(zI (Int.ofNat k2))),(9,zI x1),(19,Sl.v 1 s4),(20,zI z0),(21,(zI (Int.ofNat k2)))]) (hT 2 [oC q1]) (.k [1] [false] [.tmp 7 false] [1,7,8,9,19,20,21] ⟨trF h7,trivial⟩) ?_
   replace hm:=oo_inv hm;obtain ⟨k3,h12,hm⟩:=hm
   obtain rfl:=toN_some h12
   replace hm:=bb_inv hm;obtain ⟨h13,hm⟩:=hm
   replace hm:=oo_inv hm;obtain ⟨v3,h14,hm⟩:=hm
   replace hm:=inv_toI hm;obtain ⟨x2,rfl,hm⟩:=hm
   replace hm:=bb_inv hm;obtain ⟨h15,hm⟩:=hm
   replace hm:=bb_inv hm;obtain ⟨h16,hm⟩:=hm
   refine .reg (eC 4 (keep (hT 2 [oC q1]) (bb (an (Nat.blt k3 (Sl.n s3)) true) (some (fpV (k3 * 1) (Sl.cs s3))) none)) (keep_bb h13) (eD (keep (hT 2 [oC q1]) (nthL (Sl.cs s3) (k3 * 1))) (keep_eq h14) (eD (keep (hT 2 [oC q1]) (bb (an (Nat.blt k2 n1) true) (some (.pointer (some ⟨1,(0 + k2 * 1),none⟩))) none)) (keep_bb h15) (eD (done (bb (an (Nat.ble ((0 + k2 * 1) + 1) (len q1)) true) (some (hT 2 [(oC (setL ([zI x2]:LV) (0 + k2 * 1) q1))])) none) undef) (done_bb h16) (eE))))) ?_
   replace hm:=bb_inv hm;obtain ⟨h17,hm⟩:=hm
   refine .ghs (fr 35 [(1,Sl.v 1 s3),(7,sc 1 0 1 n1 c1),(19,Sl.v 1 s4),(20,zI z0),(21,(zI (Int.ofNat k2)))]) (hT 2 [(oC (setL ([zI x2]:LV) (0 + k2 * 1) q1))]) (.k [1] [false] [.tmp 7 false] [1,7,19,20,21] ⟨trF h17,trivial⟩) ?_
   refine .rK ?_
   exact ⟨(s3,n1,c1,s4,z0,(wrapF .i64 (Int.add (Int.ofNat k2) (1:Int))),(setL ([zI x2]:LV) (0 + k2 * 1) q1)),hm,(.k [1] [false] [.tmp 7 false] [1,7,19,20,21] ⟨trF h17,trivial⟩)⟩
  ·refine .ifF (ilt z1 z0) (by kernel_rfl) h8 ?_
   refine .exit ?_
   exact ⟨(n1,c1,q1),hm,(.k [1] [false] [.tmp 7 false] [7] ⟨trF h7,trivial⟩)⟩
end
end Go.BkPM
