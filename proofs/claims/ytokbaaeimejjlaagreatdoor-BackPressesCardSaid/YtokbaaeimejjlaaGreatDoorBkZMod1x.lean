/- Words for the models. -/
import Derived.Test.YtokbaaeimejjlaaGreatDoorSpClo3x
import Derived.Test.YtokbaaeimejjlaaGreatDoorBkZNodesx
import Derived.Test.YtokbaaeimejjlaaGreatDoorBkZCode
import Derived.KernelRfl

set_option maxRecDepth 100000
namespace Go.BkZM
open Go.Sp Go.BkZ
noncomputable section
def orc10:List Value→Option Value:=Go.BkQ.trueF
def orc84:List Value→Option Value:=Go.BkQ.cellsM
def orc98:List Value→Option Value:=fun _=>none
end
end Go.BkZM
set_option maxRecDepth 100000
set_option maxHeartbeats 20000000
set_option linter.unusedVariables false
namespace Go.BkZM
open Go.Sp Go.BkZ
noncomputable section
def tab0:List Value:=[.int .u8 0,.int .u8 1,.int .u8 28,.int .u8 2,.int .u8 29,.int .u8 14,.int .u8 24,.int .u8 3,.int .u8 30,.int .u8 22,.int .u8 20,.int .u8 15,.int .u8 25,.int .u8 17,.int .u8 4,.int .u8 8,.int .u8 31,.int .u8 27,.int .u8 13,.int .u8 23,.int .u8 21,.int .u8 19,.int .u8 16,.int .u8 7,.int .u8 26,.int .u8 12,.int .u8 18,.int .u8 6,.int .u8 11,.int .u8 5,.int .u8 10,.int .u8 9]
def tabs:List (List Value):=[tab0]
abbrev hT (n:Nat) (l:List AObj):AHeap:=hp n (oT tab0 :: l)
theorem trF {a b:Bool} (h:b = true) (e:a = b:=by kernel_rfl):a = true:=e.trans h
abbrev OV:=Option Value
abbrev LV:=List Value
def plist:List Nat:=[3,7,10,11,12,13,14,15,16,17,33,34,35,36,44,45,46,47,49,50,51,55,59,62,75,76,77,80,81,84,91,92,93]
def isP:FuncId→Bool:=fun g=>memN g plist
def inl (pu:PureF):CallF:=fun g args H=>bb (Nat.beq g 98) (giveF tabs 1 (pu 98) args H) (bb (Nat.beq g 43) (giveF tabs 1 (pu 43) args H) (bb (Nat.beq g 9) (objG tabs [[none,none,none,some 1],[some 1],[some 1]] 3 [] [] (pu 10090) args H) (bb (Nat.beq g 48) (bb (an (oo (nthL args 1) false (fun v=>nt (isS (vSl v)))) true) (objG tabs [[none,none,none,some 1],[some 1],[none]] 3 [] [] (pu 10480) args H) (objG tabs [[none,none,none,some 1],[none],[none]] 3 [.tmp 1 false] [false] (pu 10481) args H)) (none))))
end
end Go.BkZM
set_option maxRecDepth 100000
set_option maxHeartbeats 20000000
set_option linter.unusedVariables false
namespace Go.BkZM
open Go.Sp Go.BkZ
noncomputable section
def m3_0 (pu:PureF) (n:Nat) (b0:Bool):OV:=
 (some (.bool b0))
def m3_ (pu:PureF) (n:Nat) (x7 x9 x11:Int) (s13 s15 s17:Sl) (x19:Int):OV:=
 (oo (pu 10090 [(.agg ⟨[.int .i64 x7,.int .i64 x9,.int .i64 x11,Sl.v 1 s13]⟩),Sl.v 1 s15,Sl.v 1 s17]) none fun v72=>(oo (vTup v72) none fun l74=>(ll l74 none fun v76 l74=>(ll l74 (oo (vBool v76) none fun b77=>(bb b77 (oo (pu 10 []) none fun v84=>(oo (vBool v84) none fun b86=>(some (.bool b86)))) (oo (pu 11 [(.agg ⟨[.int .i64 x7,.int .i64 x9,.int .i64 x11,Sl.v 1 s13]⟩),Sl.v 1 s15,.int .i64 x19]) none fun v98=>(oo (vTup v98) none fun l0=>(ll l0 none fun v0 l0=>(ll l0 none fun v1 l0=>(ll l0 (oo (toSl 1 v0) none fun s0=>(oo (toI .i64 v1) none fun x0=>(oo (pu 12 [(.agg ⟨[.int .i64 x7,.int .i64 x9,.int .i64 x11,Sl.v 1 s13]⟩),Sl.v 1 s15,.int .i64 x19]) none fun v2=>(oo (vTup v2) none fun l1=>(ll l1 none fun v3 l1=>(ll l1 none fun v4 l1=>(ll l1 (oo (toSl 1 v3) none fun s1=>(oo (toI .i64 v4) none fun x1=>(oo (pu 13 [(.agg ⟨[.int .i64 x7,.int .i64 x9,.int .i64 x11,Sl.v 1 s13]⟩),Sl.v 1 s15,Sl.v 1 s17]) none fun v5=>(oo (vTup v5) none fun l2=>(ll l2 none fun v6 l2=>(ll l2 none fun v7 l2=>(ll l2 (oo (toI .i64 v6) none fun x2=>(oo (toI .i64 v7) none fun x3=>(oo (pu 14 [(.agg ⟨[.int .i64 x7,.int .i64 x9,.int .i64 x11,Sl.v 1 s13]⟩),Sl.v 1 s15,Sl.v 1 s17]) none fun v8=>(oo (vTup v8) none fun l3=>(ll l3 none fun v9 l3=>(ll l3 none fun v10 l3=>(ll l3 (oo (toI .i64 v9) none fun x4=>(oo (toI .i64 v10) none fun x5=>(oo (pu 15 [(.agg ⟨[.int .i64 x7,.int .i64 x9,.int .i64 x11,Sl.v 1 s13]⟩),Sl.v 1 s15]) none fun v11=>(oo (vTup v11) none fun l4=>(ll l4 none fun v12 l4=>(ll l4 none fun v13 l4=>(ll l4 (oo (toSl 1 v12) none fun s2=>(oo (toI .i64 v13) none fun x6=>(oo (pu 16 [(.agg ⟨[.int .i64 x7,.int .i64 x9,.int .i64 x11,Sl.v 1 s13]⟩),Sl.v 1 s15]) none fun v14=>(oo (vTup v14) none fun l5=>(ll l5 none fun v15 l5=>(ll l5 none fun v16 l5=>(ll l5 (oo (toSl 1 v15) none fun s3=>(oo (toI .i64 v16) none fun x8=>(oo (pu 17 [Sl.v 1 s0,Sl.v 1 s1]) none fun v17=>(oo (vBool v17) none fun b0=>(bb b0 (bb (ieq x0 x1) (bb (ieq x2 x4) (bb (ieq x3 x5) (oo (pu 17 [Sl.v 1 s2,Sl.v 1 s3]) none fun v18=>(oo (vBool v18) none fun b1=>(bb b1 (bb (ieq x6 x8) (oo (pu 10 []) none fun v19=>(oo (vBool v19) none fun b2=>(m3_0 pu n b2))) (m3_0 pu n false)) (m3_0 pu n false)))) (m3_0 pu n false)) (m3_0 pu n false)) (m3_0 pu n false)) (m3_0 pu n false)))))) fun _ _=>none))))))) fun _ _=>none))))))) fun _ _=>none))))))) fun _ _=>none))))))) fun _ _=>none))))))) fun _ _=>none))))))) fun _ _=>none))))
def m3 (pu:PureF) (n:Nat) (args:LV):OV:=
 (ll args none fun a0 args=>(ll args none fun a1 args=>(ll args none fun a2 args=>(ll args none fun a3 args=>(ll args (oo (vAgg a0) none fun l1=>(ll l1 none fun v3 l1=>(ll l1 none fun v4 l1=>(ll l1 none fun v5 l1=>(ll l1 none fun v6 l1=>(ll l1 (oo (toI .i64 v3) none fun x7=>(oo (toI .i64 v4) none fun x9=>(oo (toI .i64 v5) none fun x11=>(oo (toSl 1 v6) none fun s13=>(oo (toSl 1 a1) none fun s15=>(oo (toSl 1 a2) none fun s17=>(oo (toI .i64 a3) none fun x19=>(m3_ pu n x7 x9 x11 s13 s15 s17 x19)))))))) fun _ _=>none)))))) fun _ _=>none)))))
theorem w3_0 (pu:PureF) (n:Nat) (b0:Bool) {v:Value} (hm:m3_0 pu n b0 = some v):Run tt (callP tabs isP pu (inl pu)) 1 .ret (fr 99 [(8,zB b0)]) (hp 1 [(oT tab0)]) (Fin tt 1 [.tmp 8] v):=by
 unfold m3_0 at hm
 refine .ret ?_
 exact fin_ret (zB b0) (by kernel_rfl) (by kernel_rfl) hm
theorem r3 {call:CallF} (pu:PureF) (n:Nat) (hcall:call = callP tabs isP pu (inl pu)) {args:LV} {v:Value} (hm:m3 pu n args = some v) (_:∀ x ∈ args,closed2 x = true):args.length≤99∧Run tt call 1 c3_23 (Fr.made 99 args) (pureHeap tabs) (Fin tt 1 [.tmp 8] v):=by
 subst hcall
 unfold m3 at hm
 replace hm:=ll_uncons hm;obtain ⟨a0,args_0,rfl,hm⟩:=hm
 replace hm:=ll_uncons hm;obtain ⟨a1,args_1,rfl,hm⟩:=hm
 replace hm:=ll_uncons hm;obtain ⟨a2,args_2,rfl,hm⟩:=hm
 replace hm:=ll_uncons hm;obtain ⟨a3,args_3,rfl,hm⟩:=hm
 replace hm:=ll_end hm;obtain ⟨rfl,hm⟩:=hm
 replace hm:=inv_vAgg hm;obtain ⟨l1,rfl,hm⟩:=hm
 replace hm:=ll_uncons hm;obtain ⟨v3,l1_0,rfl,hm⟩:=hm
 replace hm:=ll_uncons hm;obtain ⟨v4,l1_1,rfl,hm⟩:=hm
 replace hm:=ll_uncons hm;obtain ⟨v5,l1_2,rfl,hm⟩:=hm
 replace hm:=ll_uncons hm;obtain ⟨v6,l1_3,rfl,hm⟩:=hm
 replace hm:=ll_end hm;obtain ⟨rfl,hm⟩:=hm
 replace hm:=inv_toI hm;obtain ⟨x7,rfl,hm⟩:=hm
 replace hm:=inv_toI hm;obtain ⟨x9,rfl,hm⟩:=hm
 replace hm:=inv_toI hm;obtain ⟨x11,rfl,hm⟩:=hm
 replace hm:=inv_toSl hm;obtain ⟨s13,rfl,hm⟩:=hm
 replace hm:=inv_toSl hm;obtain ⟨s15,rfl,hm⟩:=hm
 replace hm:=inv_toSl hm;obtain ⟨s17,rfl,hm⟩:=hm
 replace hm:=inv_toI hm;obtain ⟨x19,rfl,hm⟩:=hm
 unfold m3_ at hm
 refine ⟨by simp,?_⟩
 refine .same (F':=(fr 99 [(0,(.agg ⟨[zI x7,zI x9,zI x11,Sl.v 1 s13]⟩)),(1,Sl.v 1 s15),(2,Sl.v 1 s17),(3,zI x19)])) (H':=(hp 1 [(oT tab0)])) (by kernel_rfl) (by kernel_rfl) ?_
 refine .then (.rK ?_)
 refine .ghs (fr 99 [(1,Sl.v 1 s15),(2,Sl.v 1 s17),(3,zI x19),(4,pt 1 0)]) (hT 2 [(oC [zI x7,zI x9,zI x11,Sl.v 1 s13])]) (.k0 [false] [.tmp 4 false] [1,2,3,4]) ?_
 refine .then ?_
 refine .then ?_
 replace hm:=oo_inv hm;obtain ⟨v72,h73,hm⟩:=hm
 replace hm:=inv_vTup hm;obtain ⟨l74,rfl,hm⟩:=hm
 replace hm:=ll_uncons hm;obtain ⟨v76,l74_0,rfl,hm⟩:=hm
 replace hm:=ll_end hm;obtain ⟨rfl,hm⟩:=hm
 replace hm:=inv_vBool hm;obtain ⟨b77,rfl,hm⟩:=hm
 refine .reg (eC 3 (objG tabs [[none,none,none,some 1],[some 1],[some 1]] 3 [] [] (pu 10090) [(.agg ⟨[zI x7,zI x9,zI x11,Sl.v 1 s13]⟩),Sl.v 1 s15,Sl.v 1 s17] (hT 2 [(oC [zI x7,zI x9,zI x11,Sl.v 1 s13])])) (objG_eq (as:=[(.agg ⟨[zI x7,zI x9,zI x11,Sl.v 1 s13]⟩),Sl.v 1 s15,Sl.v 1 s17]) (H1:=(hT 2 [(oC [zI x7,zI x9,zI x11,Sl.v 1 s13])])) (gvAL_c (gvA_a (gvL_c gv_n (gvL_c gv_n (gvL_c gv_n (gvL_c (gv_s (giveV_cl (z:=1) (v:=(Sl.v 1 s13)) (H:=(hT 2 [(oC [zI x7,zI x9,zI x11,Sl.v 1 s13])])) (by kernel_rfl) (by kernel_rfl) (by kernel_rfl))) gvL_n))))) (gvAL_c (gvA_1 (gv_s (giveV_cl (z:=1) (v:=(Sl.v 1 s15)) (H:=(hT 2 [(oC [zI x7,zI x9,zI x11,Sl.v 1 s13])])) (by kernel_rfl) (by kernel_rfl) (by kernel_rfl)))) (gvAL_c (gvA_1 (gv_s (giveV_cl (z:=1) (v:=(Sl.v 1 s17)) (H:=(hT 2 [(oC [zI x7,zI x9,zI x11,Sl.v 1 s13])])) (by kernel_rfl) (by kernel_rfl) (by kernel_rfl)))) gvAL_n))) (objF_eq (H2:=(hT 2 [(oC [zI x7,zI x9,zI x11,Sl.v 1 s13])])) (v:=(zB b77)) (v':=(zB b77)) [some 0] [] [] [(.agg ⟨[zI x7,zI x9,zI x11,Sl.v 1 s13]⟩),Sl.v 1 s15,Sl.v 1 s17] [] [] [some 0,none] [] [] (by kernel_rfl) mapO_n (Eq.trans (by kernel_rfl) h73) mapO_n mapO_n)) (eE)) ?_
 refine .ghs (fr 99 [(1,Sl.v 1 s15),(2,Sl.v 1 s17),(3,zI x19),(4,pt 1 0),(25,zB b77)]) (hT 2 [(oC [zI x7,zI x9,zI x11,Sl.v 1 s13])]) (.k0 [false] [.tmp 4 false] [1,2,3,4,25]) ?_
 replace hm:=bb_cases hm;rcases hm with ⟨h79,hm⟩ | ⟨h79,hm⟩
 ·refine .ifT b77 (by kernel_rfl) h79 ?_
  refine .then ?_
  replace hm:=oo_inv hm;obtain ⟨v84,h85,hm⟩:=hm
  replace hm:=inv_vBool hm;obtain ⟨b86,rfl,hm⟩:=hm
  refine .reg (eD ((oo (pu 10 []) none fun v=>some (v,(hT 2 [(oC [zI x7,zI x9,zI x11,Sl.v 1 s13])])))) (call_eq h85) (eE)) ?_
  refine .ghs (fr 99 [(8,zB b86)]) (hp 1 [(oT tab0)]) (.k0 [false] [] [8]) ?_
  refine .ret ?_
  exact fin_ret (zB b86) (by kernel_rfl) (by kernel_rfl) hm
 ·refine .ifF b77 (by kernel_rfl) h79 ?_
  refine .skip ?_
  refine .ghs (fr 99 [(1,Sl.v 1 s15),(2,Sl.v 1 s17),(3,zI x19),(4,pt 1 0)]) (hT 2 [(oC [zI x7,zI x9,zI x11,Sl.v 1 s13])]) (.k0 [false] [.tmp 4 false] [1,2,3,4]) ?_
  refine .then (.rK ?_)
  refine .ghs (fr 99 [(1,Sl.v 1 s15),(2,Sl.v 1 s17),(3,zI x19),(4,pt 1 0),(9,(pt 2 0))]) (hT 3 [(oC [zI x7,zI x9,zI x11,Sl.v 1 s13]),(oC [zI x7,zI x9,zI x11,Sl.v 1 s13])]) (.k0 [false] [.tmp 4 false,.tmp 9 false] [1,2,3,4,9]) ?_
  refine .then ?_
  replace hm:=oo_inv hm;obtain ⟨v98,h99,hm⟩:=hm
  replace hm:=inv_vTup hm;obtain ⟨l0,rfl,hm⟩:=hm
  replace hm:=ll_uncons hm;obtain ⟨v0,l100_0,rfl,hm⟩:=hm
  replace hm:=ll_uncons hm;obtain ⟨v1,l100_1,rfl,hm⟩:=hm
  replace hm:=ll_end hm;obtain ⟨rfl,hm⟩:=hm
  replace hm:=inv_toSl hm;obtain ⟨s0,rfl,hm⟩:=hm
  replace hm:=inv_toI hm;obtain ⟨x0,rfl,hm⟩:=hm
  refine .reg (eC 3 ((oo (pu 11 [(.agg ⟨[zI x7,zI x9,zI x11,Sl.v 1 s13]⟩),Sl.v 1 s15,zI x19]) none fun v=>some (v,(hT 3 [(oC [zI x7,zI x9,zI x11,Sl.v 1 s13]),(oC [zI x7,zI x9,zI x11,Sl.v 1 s13])])))) (call_eq h99) (eE)) ?_
  refine .ghs (fr 99 [(1,Sl.v 1 s15),(2,Sl.v 1 s17),(3,zI x19),(4,pt 1 0),(9,(pt 2 0)),(10,Sl.v 1 s0),(11,zI x0)]) (hT 3 [(oC [zI x7,zI x9,zI x11,Sl.v 1 s13]),(oC [zI x7,zI x9,zI x11,Sl.v 1 s13])]) (.k0 [false] [.tmp 4 false,.tmp 9 false] [1,2,3,4,9,10,11]) ?_
  refine .then ?_
  replace hm:=oo_inv hm;obtain ⟨v2,h0,hm⟩:=hm
  replace hm:=inv_vTup hm;obtain ⟨l2,rfl,hm⟩:=hm
  replace hm:=ll_uncons hm;obtain ⟨v7,l120_0,rfl,hm⟩:=hm
  replace hm:=ll_uncons hm;obtain ⟨v8,l120_1,rfl,hm⟩:=hm
  replace hm:=ll_end hm;obtain ⟨rfl,hm⟩:=hm
  replace hm:=inv_toSl hm;obtain ⟨s1,rfl,hm⟩:=hm
  replace hm:=inv_toI hm;obtain ⟨x1,rfl,hm⟩:=hm
  refine .reg (eC 3 ((oo (pu 12 [(.agg ⟨[zI x7,zI x9,zI x11,Sl.v 1 s13]⟩),Sl.v 1 s15,zI x19]) none fun v=>some (v,(hT 3 [(oC [zI x7,zI x9,zI x11,Sl.v 1 s13]),(oC [zI x7,zI x9,zI x11,Sl.v 1 s13])])))) (call_eq h0) (eE)) ?_
  refine .ghs (fr 99 [(1,Sl.v 1 s15),(2,Sl.v 1 s17),(4,pt 1 0),(9,(pt 2 0)),(10,Sl.v 1 s0),(11,zI x0),(12,Sl.v 1 s1),(13,zI x1)]) (hT 3 [(oC [zI x7,zI x9,zI x11,Sl.v 1 s13]),(oC [zI x7,zI x9,zI x11,Sl.v 1 s13])]) (.k0 [false] [.tmp 4 false,.tmp 9 false] [1,2,4,9,10,11,12,13]) ?_
  refine .then ?_
  replace hm:=oo_inv hm;obtain ⟨v9,h1,hm⟩:=hm
  replace hm:=inv_vTup hm;obtain ⟨l3,rfl,hm⟩:=hm
  replace hm:=ll_uncons hm;obtain ⟨v10,l140_0,rfl,hm⟩:=hm
  replace hm:=ll_uncons hm;obtain ⟨v11,l140_1,rfl,hm⟩:=hm
  replace hm:=ll_end hm;obtain ⟨rfl,hm⟩:=hm
  replace hm:=inv_toI hm;obtain ⟨x2,rfl,hm⟩:=hm
  replace hm:=inv_toI hm;obtain ⟨x3,rfl,hm⟩:=hm
  refine .reg (eC 3 ((oo (pu 13 [(.agg ⟨[zI x7,zI x9,zI x11,Sl.v 1 s13]⟩),Sl.v 1 s15,Sl.v 1 s17]) none fun v=>some (v,(hT 3 [(oC [zI x7,zI x9,zI x11,Sl.v 1 s13]),(oC [zI x7,zI x9,zI x11,Sl.v 1 s13])])))) (call_eq h1) (eE)) ?_
  refine .ghs (fr 99 [(1,Sl.v 1 s15),(2,Sl.v 1 s17),(4,pt 1 0),(9,(pt 2 0)),(10,Sl.v 1 s0),(11,zI x0),(12,Sl.v 1 s1),(13,zI x1),(14,zI x2),(15,zI x3)]) (hT 3 [(oC [zI x7,zI x9,zI x11,Sl.v 1 s13]),(oC [zI x7,zI x9,zI x11,Sl.v 1 s13])]) (.k0 [false] [.tmp 4 false,.tmp 9 false] [1,2,4,9,10,11,12,13,14,15]) ?_
  refine .then ?_
  replace hm:=oo_inv hm;obtain ⟨v12,h2,hm⟩:=hm
  replace hm:=inv_vTup hm;obtain ⟨l4,rfl,hm⟩:=hm
  replace hm:=ll_uncons hm;obtain ⟨v13,l160_0,rfl,hm⟩:=hm
  replace hm:=ll_uncons hm;obtain ⟨v14,l160_1,rfl,hm⟩:=hm
  replace hm:=ll_end hm;obtain ⟨rfl,hm⟩:=hm
  replace hm:=inv_toI hm;obtain ⟨x4,rfl,hm⟩:=hm
  replace hm:=inv_toI hm;obtain ⟨x5,rfl,hm⟩:=hm
  refine .reg (eC 3 ((oo (pu 14 [(.agg ⟨[zI x7,zI x9,zI x11,Sl.v 1 s13]⟩),Sl.v 1 s15,Sl.v 1 s17]) none fun v=>some (v,(hT 3 [(oC [zI x7,zI x9,zI x11,Sl.v 1 s13]),(oC [zI x7,zI x9,zI x11,Sl.v 1 s13])])))) (call_eq h2) (eE)) ?_
  refine .ghs (fr 99 [(1,Sl.v 1 s15),(4,pt 1 0),(9,(pt 2 0)),(10,Sl.v 1 s0),(11,zI x0),(12,Sl.v 1 s1),(13,zI x1),(14,zI x2),(15,zI x3),(16,zI x4),(17,zI x5)]) (hT 3 [(oC [zI x7,zI x9,zI x11,Sl.v 1 s13]),(oC [zI x7,zI x9,zI x11,Sl.v 1 s13])]) (.k0 [false] [.tmp 4 false,.tmp 9 false] [1,4,9,10,11,12,13,14,15,16,17]) ?_
  refine .then ?_
  replace hm:=oo_inv hm;obtain ⟨v15,h3,hm⟩:=hm
  replace hm:=inv_vTup hm;obtain ⟨l5,rfl,hm⟩:=hm
  replace hm:=ll_uncons hm;obtain ⟨v16,l180_0,rfl,hm⟩:=hm
  replace hm:=ll_uncons hm;obtain ⟨v17,l180_1,rfl,hm⟩:=hm
  replace hm:=ll_end hm;obtain ⟨rfl,hm⟩:=hm
  replace hm:=inv_toSl hm;obtain ⟨s2,rfl,hm⟩:=hm
  replace hm:=inv_toI hm;obtain ⟨x6,rfl,hm⟩:=hm
  refine .reg (eC 2 ((oo (pu 15 [(.agg ⟨[zI x7,zI x9,zI x11,Sl.v 1 s13]⟩),Sl.v 1 s15]) none fun v=>some (v,(hT 3 [(oC [zI x7,zI x9,zI x11,Sl.v 1 s13]),(oC [zI x7,zI x9,zI x11,Sl.v 1 s13])])))) (call_eq h3) (eE)) ?_
  refine .ghs (fr 99 [(1,Sl.v 1 s15),(9,pt 1 0),(10,Sl.v 1 s0),(11,zI x0),(12,Sl.v 1 s1),(13,zI x1),(14,zI x2),(15,zI x3),(16,zI x4),(17,zI x5),(18,Sl.v 1 s2),(19,zI x6)]) (hT 2 [(oC [zI x7,zI x9,zI x11,Sl.v 1 s13])]) (.k0 [false] [.tmp 9 false] [1,9,10,11,12,13,14,15,16,17,18,19]) ?_
  refine .then ?_
  replace hm:=oo_inv hm;obtain ⟨v18,h4,hm⟩:=hm
  replace hm:=inv_vTup hm;obtain ⟨l6,rfl,hm⟩:=hm
  replace hm:=ll_uncons hm;obtain ⟨v19,l200_0,rfl,hm⟩:=hm
  replace hm:=ll_uncons hm;obtain ⟨v20,l200_1,rfl,hm⟩:=hm
  replace hm:=ll_end hm;obtain ⟨rfl,hm⟩:=hm
  replace hm:=inv_toSl hm;obtain ⟨s3,rfl,hm⟩:=hm
  replace hm:=inv_toI hm;obtain ⟨x8,rfl,hm⟩:=hm
  refine .reg (eC 2 ((oo (pu 16 [(.agg ⟨[zI x7,zI x9,zI x11,Sl.v 1 s13]⟩),Sl.v 1 s15]) none fun v=>some (v,(hT 2 [(oC [zI x7,zI x9,zI x11,Sl.v 1 s13])])))) (call_eq h4) (eE)) ?_
  refine .ghs (fr 99 [(10,Sl.v 1 s0),(11,zI x0),(12,Sl.v 1 s1),(13,zI x1),(14,zI x2),(15,zI x3),(16,zI x4),(17,zI x5),(18,Sl.v 1 s2),(19,zI x6),(20,Sl.v 1 s3),(21,zI x8)]) (hp 1 [(oT tab0)]) (.k0 [false] [] [10,11,12,13,14,15,16,17,18,19,20,21]) ?_
  refine .join (v:=v) (fun y:Bool=>((fr 99 [(8,zB y)]),(hp 1 [(oT tab0)]))) (fun y=>m3_0 pu n y) ?_ ?_
  ·rintro b0 hm
   exact w3_0 pu n b0 hm
  ·replace hm := oo_inv hm; obtain ⟨v21, h5, hm⟩ := hm
   replace hm:=inv_vBool hm;obtain ⟨b1,rfl,hm⟩:=hm
   replace hm:=bb_cases hm;rcases hm with ⟨h6,hm⟩ | ⟨h6,hm⟩
   ·replace hm := bb_cases hm; rcases hm with ⟨h7, hm⟩ | ⟨h7, hm⟩
    ·replace hm := bb_cases hm; rcases hm with ⟨h8, hm⟩ | ⟨h8, hm⟩
     ·replace hm := bb_cases hm; rcases hm with ⟨h9, hm⟩ | ⟨h9, hm⟩
      ·replace hm := oo_inv hm; obtain ⟨v22, h10, hm⟩ := hm
       replace hm:=inv_vBool hm;obtain ⟨b2,rfl,hm⟩:=hm
       replace hm:=bb_cases hm;rcases hm with ⟨h11,hm⟩ | ⟨h11,hm⟩
       ·replace hm := bb_cases hm; rcases hm with ⟨h12, hm⟩ | ⟨h12, hm⟩
        ·replace hm := oo_inv hm; obtain ⟨v23, h13, hm⟩ := hm
         replace hm:=inv_vBool hm;obtain ⟨b4,rfl,hm⟩:=hm
         refine .reg (eN 12 (Fr.puts (fr 99 [(10,Sl.v 1 s0),(11,zI x0),(12,Sl.v 1 s1),(13,zI x1),(14,zI x2),(15,zI x3),(16,zI x4),(17,zI x5),(18,Sl.v 1 s2),(19,zI x6),(20,Sl.v 1 s3),(21,zI x8)]) [(68,Sl.v 1 s0),(69,Sl.v 1 s1),(70,zB true),(71,zB true),(72,zI x0),(73,zI x1),(74,zB true),(75,zB true),(76,zB true),(77,zI x2),(78,zI x4),(79,zB true)]) (hp 1 [(oT tab0)]) (eC 2 ((oo (pu 17 [Sl.v 1 s0,Sl.v 1 s1]) none fun v=>some (v,(hp 1 [(oT tab0)])))) (show _ = some ((zB true),_) from (by have hz:(oo (pu 17 [Sl.v 1 s0,Sl.v 1 s1]) none fun v=>some (v,(hp 1 [(oT tab0)]))) = some ((zB b1),(hp 1 [(oT tab0)])):=(call_eq h5);rw [h6] at hz;exact hz)) (eC 3 (some ((zB (ieq x0 x1)),(hp 1 [(oT tab0)]))) (show _ = some ((zB true),_) from (by rw [show (ieq x0 x1) = true from h7])) (eC 4 (some ((zB (ieq x2 x4)),(hp 1 [(oT tab0)]))) (show _ = some ((zB true),_) from (by rw [show (ieq x2 x4) = true from h8])) (by kernel_rfl)))) (eC 4 (some ((zB (ieq x3 x5)),(hp 1 [(oT tab0)]))) (show _ = some ((zB true),_) from (by rw [show (ieq x3 x5) = true from h9])) (eC 4 ((oo (pu 17 [Sl.v 1 s2,Sl.v 1 s3]) none fun v=>some (v,(hp 1 [(oT tab0)])))) (show _ = some ((zB true),_) from (by have hz:(oo (pu 17 [Sl.v 1 s2,Sl.v 1 s3]) none fun v=>some (v,(hp 1 [(oT tab0)]))) = some ((zB b2),(hp 1 [(oT tab0)])):=(call_eq h10);rw [h11] at hz;exact hz)) (eC 4 (some ((zB (ieq x6 x8)),(hp 1 [(oT tab0)]))) (show _ = some ((zB true),_) from (by rw [show (ieq x6 x8) = true from h12])) (eC 2 ((oo (pu 10 []) none fun v=>some (v,(hp 1 [(oT tab0)])))) (call_eq h13) (eE)))))) ?_
         exact ⟨b4,hm,(.k0 [false] [] [8])⟩
        ·refine .reg (eN 12 (Fr.puts (fr 99 [(10, Sl.v 1 s0), (11, zI x0), (12, Sl.v 1 s1), (13, zI x1), (14, zI x2), (15, zI x3), (16, zI x4), (17, zI x5), (18, Sl.v 1 s2), (19, zI x6), (20, Sl.v 1 s3), (21, zI x8)]) [(68, Sl.v 1 s0), (69, Sl.v 1 s1), (70, zB true), (71, zB true), (72, zI x0), (73, zI x1), (74, zB true), (75, zB true), (76, zB true), (77, zI x2), (78, zI x4), (79, zB true)]) (hp 1 [(oT tab0)]) (eC 2 ((oo (pu 17 [Sl.v 1 s0, Sl.v 1 s1]) none fun v => some (v, (hp 1 [(oT tab0)])))) (show _ = some ((zB true), _) from (by have hz : (oo (pu 17 [Sl.v 1 s0, Sl.v 1 s1]) none fun v => some (v, (hp 1 [(oT tab0)]))) = some ((zB b1), (hp 1 [(oT tab0)])) := (call_eq h5); rw [h6] at hz; exact hz)) (eC 3 (some ((zB (ieq x0 x1)), (hp 1 [(oT tab0)]))) (show _ = some ((zB true), _) from (by rw [show (ieq x0 x1) = true from h7])) (eC 4 (some ((zB (ieq x2 x4)), (hp 1 [(oT tab0)]))) (show _ = some ((zB true), _) from (by rw [show (ieq x2 x4) = true from h8])) (by kernel_rfl)))) (eC 4 (some ((zB (ieq x3 x5)), (hp 1 [(oT tab0)]))) (show _ = some ((zB true), _) from (by rw [show (ieq x3 x5) = true from h9])) (eC 4 ((oo (pu 17 [Sl.v 1 s2, Sl.v 1 s3]) none fun v => some (v, (hp 1 [(oT tab0)])))) (show _ = some ((zB true), _) from (by have hz : (oo (pu 17 [Sl.v 1 s2, Sl.v 1 s3]) none fun v => some (v, (hp 1 [(oT tab0)]))) = some ((zB b2), (hp 1 [(oT tab0)])) := (call_eq h10); rw [h11] at hz; exact hz)) (eC 4 (some ((zB (ieq x6 x8)), (hp 1 [(oT tab0)]))) (show _ = some ((zB false), _) from (by rw [show (ieq x6 x8) = false from h12])) (eE))))) ?_
         exact ⟨false,hm,(.k0 [false] [] [8])⟩
       ·refine .reg (eC 2 ((oo (pu 17 [Sl.v 1 s0, Sl.v 1 s1]) none fun v => some (v, (hp 1 [(oT tab0)])))) (show _ = some ((zB true), _) from (by have hz : (oo (pu 17 [Sl.v 1 s0, Sl.v 1 s1]) none fun v => some (v, (hp 1 [(oT tab0)]))) = some ((zB b1), (hp 1 [(oT tab0)])) := (call_eq h5); rw [h6] at hz; exact hz)) (eC 3 (some ((zB (ieq x0 x1)), (hp 1 [(oT tab0)]))) (show _ = some ((zB true), _) from (by rw [show (ieq x0 x1) = true from h7])) (eC 4 (some ((zB (ieq x2 x4)), (hp 1 [(oT tab0)]))) (show _ = some ((zB true), _) from (by rw [show (ieq x2 x4) = true from h8])) (eC 4 (some ((zB (ieq x3 x5)), (hp 1 [(oT tab0)]))) (show _ = some ((zB true), _) from (by rw [show (ieq x3 x5) = true from h9])) (eC 4 ((oo (pu 17 [Sl.v 1 s2, Sl.v 1 s3]) none fun v => some (v, (hp 1 [(oT tab0)])))) (show _ = some ((zB false), _) from (by have hz : (oo (pu 17 [Sl.v 1 s2, Sl.v 1 s3]) none fun v => some (v, (hp 1 [(oT tab0)]))) = some ((zB b2), (hp 1 [(oT tab0)])) := (call_eq h10); rw [h11] at hz; exact hz)) (eE)))))) ?_
        exact ⟨false,hm,(.k0 [false] [] [8])⟩
      ·refine .reg (eC 2 ((oo (pu 17 [Sl.v 1 s0, Sl.v 1 s1]) none fun v => some (v, (hp 1 [(oT tab0)])))) (show _ = some ((zB true), _) from (by have hz : (oo (pu 17 [Sl.v 1 s0, Sl.v 1 s1]) none fun v => some (v, (hp 1 [(oT tab0)]))) = some ((zB b1), (hp 1 [(oT tab0)])) := (call_eq h5); rw [h6] at hz; exact hz)) (eC 3 (some ((zB (ieq x0 x1)), (hp 1 [(oT tab0)]))) (show _ = some ((zB true), _) from (by rw [show (ieq x0 x1) = true from h7])) (eC 4 (some ((zB (ieq x2 x4)), (hp 1 [(oT tab0)]))) (show _ = some ((zB true), _) from (by rw [show (ieq x2 x4) = true from h8])) (eC 4 (some ((zB (ieq x3 x5)), (hp 1 [(oT tab0)]))) (show _ = some ((zB false), _) from (by rw [show (ieq x3 x5) = false from h9])) (eE))))) ?_
       exact ⟨false,hm,(.k0 [false] [] [8])⟩
     ·refine .reg (eC 2 ((oo (pu 17 [Sl.v 1 s0, Sl.v 1 s1]) none fun v => some (v, (hp 1 [(oT tab0)])))) (show _ = some ((zB true), _) from (by have hz : (oo (pu 17 [Sl.v 1 s0, Sl.v 1 s1]) none fun v => some (v, (hp 1 [(oT tab0)]))) = some ((zB b1), (hp 1 [(oT tab0)])) := (call_eq h5); rw [h6] at hz; exact hz)) (eC 3 (some ((zB (ieq x0 x1)), (hp 1 [(oT tab0)]))) (show _ = some ((zB true), _) from (by rw [show (ieq x0 x1) = true from h7])) (eC 4 (some ((zB (ieq x2 x4)), (hp 1 [(oT tab0)]))) (show _ = some ((zB false), _) from (by rw [show (ieq x2 x4) = false from h8])) (eE)))) ?_
      exact ⟨false,hm,(.k0 [false] [] [8])⟩
    ·refine .reg (eC 2 ((oo (pu 17 [Sl.v 1 s0, Sl.v 1 s1]) none fun v => some (v, (hp 1 [(oT tab0)])))) (show _ = some ((zB true), _) from (by have hz : (oo (pu 17 [Sl.v 1 s0, Sl.v 1 s1]) none fun v => some (v, (hp 1 [(oT tab0)]))) = some ((zB b1), (hp 1 [(oT tab0)])) := (call_eq h5); rw [h6] at hz; exact hz)) (eC 3 (some ((zB (ieq x0 x1)), (hp 1 [(oT tab0)]))) (show _ = some ((zB false), _) from (by rw [show (ieq x0 x1) = false from h7])) (eE))) ?_
     exact ⟨false,hm,(.k0 [false] [] [8])⟩
   ·refine .reg (eC 2 ((oo (pu 17 [Sl.v 1 s0, Sl.v 1 s1]) none fun v => some (v, (hp 1 [(oT tab0)])))) (show _ = some ((zB false), _) from (by have hz : (oo (pu 17 [Sl.v 1 s0, Sl.v 1 s1]) none fun v => some (v, (hp 1 [(oT tab0)]))) = some ((zB b1), (hp 1 [(oT tab0)])) := (call_eq h5); rw [h6] at hz; exact hz)) (eE)) ?_
    exact ⟨false,hm,(.k0 [false] [] [8])⟩
def m7_0 (pu:PureF) (n:Nat) (b0:Bool):OV:=
 (some (.bool b0))
def m7_ (pu:PureF) (n:Nat) (x0 x1 x2:Int) (s0:Sl) (x3 x4:Int):OV:=
 (oo (pu 10090 [(.agg ⟨[.int .i64 x0,.int .i64 x1,.int .i64 x2,Sl.v 1 s0]⟩),(Sl.v 1 (Sl.mk 0 2 [])),(Sl.v 1 (Sl.mk 0 2 []))]) none fun v0=>(oo (vTup v0) none fun l0=>(ll l0 none fun v1 l0=>(ll l0 (oo (vBool v1) none fun b0=>(bb b0 (oo (pu 10 []) none fun v2=>(oo (vBool v2) none fun b1=>(some (.bool b1)))) (oo (pu 33 [.int .i64 x3,.int .i64 x4]) none fun v3=>(oo (vTup v3) none fun l1=>(ll l1 none fun v4 l1=>(ll l1 none fun v5 l1=>(ll l1 (oo (toI .i64 v4) none fun x5=>(oo (toI .i64 v5) none fun x6=>(oo (pu 34 [.int .i64 x3,.int .i64 x4]) none fun v6=>(oo (vTup v6) none fun l2=>(ll l2 none fun v7 l2=>(ll l2 none fun v8 l2=>(ll l2 (oo (toI .i64 v7) none fun x7=>(oo (toI .i64 v8) none fun x8=>(bb (ieq x5 x7) (bb (ieq x6 x8) (oo (pu 35 [(.agg ⟨[.int .i64 x0,.int .i64 x1,.int .i64 x2,Sl.v 1 s0]⟩)]) none fun v9=>(oo (toI .i64 v9) none fun x9=>(oo (pu 36 [(.agg ⟨[.int .i64 x0,.int .i64 x1,.int .i64 x2,Sl.v 1 s0]⟩)]) none fun v10=>(oo (toI .i64 v10) none fun x10=>(bb (ieq x9 x10) (oo (pu 10 []) none fun v11=>(oo (vBool v11) none fun b2=>(m7_0 pu n b2))) (m7_0 pu n false)))))) (m7_0 pu n false)) (m7_0 pu n false)))) fun _ _=>none))))))) fun _ _=>none))))))) fun _ _=>none))))
def m7 (pu:PureF) (n:Nat) (args:LV):OV:=
 (ll args none fun a0 args=>(ll args none fun a1 args=>(ll args none fun a2 args=>(ll args (oo (vAgg a0) none fun l0=>(ll l0 none fun v0 l0=>(ll l0 none fun v1 l0=>(ll l0 none fun v2 l0=>(ll l0 none fun v3 l0=>(ll l0 (oo (toI .i64 v0) none fun x0=>(oo (toI .i64 v1) none fun x1=>(oo (toI .i64 v2) none fun x2=>(oo (toSl 1 v3) none fun s0=>(oo (toI .i64 a1) none fun x3=>(oo (toI .i64 a2) none fun x4=>(m7_ pu n x0 x1 x2 s0 x3 x4))))))) fun _ _=>none)))))) fun _ _=>none))))
theorem w7_0 (pu:PureF) (n:Nat) (b0:Bool) {v:Value} (hm:m7_0 pu n b0 = some v):Run tt (callP tabs isP pu (inl pu)) 1 .ret (fr 44 [(6,zB b0)]) (hp 1 [(oT tab0)]) (Fin tt 1 [.tmp 6] v):=by
 unfold m7_0 at hm
 refine .ret ?_
 exact fin_ret (zB b0) (by kernel_rfl) (by kernel_rfl) hm
theorem r7 {call:CallF} (pu:PureF) (n:Nat) (hcall:call = callP tabs isP pu (inl pu)) {args:LV} {v:Value} (hm:m7 pu n args = some v) (_:∀ x ∈ args,closed2 x = true):args.length≤44∧Run tt call 1 c7_13 (Fr.made 44 args) (pureHeap tabs) (Fin tt 1 [.tmp 6] v):=by
 subst hcall
 unfold m7 at hm
 replace hm:=ll_uncons hm;obtain ⟨a0,args_0,rfl,hm⟩:=hm
 replace hm:=ll_uncons hm;obtain ⟨a1,args_1,rfl,hm⟩:=hm
 replace hm:=ll_uncons hm;obtain ⟨a2,args_2,rfl,hm⟩:=hm
 replace hm:=ll_end hm;obtain ⟨rfl,hm⟩:=hm
 replace hm:=inv_vAgg hm;obtain ⟨l0,rfl,hm⟩:=hm
 replace hm:=ll_uncons hm;obtain ⟨v0,l317_0,rfl,hm⟩:=hm
 replace hm:=ll_uncons hm;obtain ⟨v1,l317_1,rfl,hm⟩:=hm
 replace hm:=ll_uncons hm;obtain ⟨v2,l317_2,rfl,hm⟩:=hm
 replace hm:=ll_uncons hm;obtain ⟨v3,l317_3,rfl,hm⟩:=hm
 replace hm:=ll_end hm;obtain ⟨rfl,hm⟩:=hm
 replace hm:=inv_toI hm;obtain ⟨x0,rfl,hm⟩:=hm
 replace hm:=inv_toI hm;obtain ⟨x1,rfl,hm⟩:=hm
 replace hm:=inv_toI hm;obtain ⟨x2,rfl,hm⟩:=hm
 replace hm:=inv_toSl hm;obtain ⟨s0,rfl,hm⟩:=hm
 replace hm:=inv_toI hm;obtain ⟨x3,rfl,hm⟩:=hm
 replace hm:=inv_toI hm;obtain ⟨x4,rfl,hm⟩:=hm
 unfold m7_ at hm
 refine ⟨by simp,?_⟩
 refine .same (F':=(fr 44 [(0,(.agg ⟨[zI x0,zI x1,zI x2,Sl.v 1 s0]⟩)),(1,zI x3),(2,zI x4)])) (H':=(hp 1 [(oT tab0)])) (by kernel_rfl) (by kernel_rfl) ?_
 refine .then (.rK ?_)
 refine .ghs (fr 44 [(1,zI x3),(2,zI x4),(3,pt 1 0)]) (hT 2 [(oC [zI x0,zI x1,zI x2,Sl.v 1 s0])]) (.k0 [false] [.tmp 3 false] [1,2,3]) ?_
 refine .then ?_
 refine .then ?_
 replace hm:=oo_inv hm;obtain ⟨v4,h0,hm⟩:=hm
 replace hm:=inv_vTup hm;obtain ⟨l1,rfl,hm⟩:=hm
 replace hm:=ll_uncons hm;obtain ⟨v5,l356_0,rfl,hm⟩:=hm
 replace hm:=ll_end hm;obtain ⟨rfl,hm⟩:=hm
 replace hm:=inv_vBool hm;obtain ⟨b0,rfl,hm⟩:=hm
 refine .reg (eC 1 (objG tabs [[none,none,none,some 1],[some 1],[some 1]] 3 [] [] (pu 10090) [(.agg ⟨[zI x0,zI x1,zI x2,Sl.v 1 s0]⟩),(.slice none 0 0),(.slice none 0 0)] (hT 2 [(oC [zI x0,zI x1,zI x2,Sl.v 1 s0])])) (objG_eq (as:=[(.agg ⟨[zI x0,zI x1,zI x2,Sl.v 1 s0]⟩),(Sl.v 1 (Sl.mk 0 2 [])),(Sl.v 1 (Sl.mk 0 2 []))]) (H1:=(hT 2 [(oC [zI x0,zI x1,zI x2,Sl.v 1 s0])])) (gvAL_c (gvA_a (gvL_c gv_n (gvL_c gv_n (gvL_c gv_n (gvL_c (gv_s (giveV_cl (z:=1) (v:=(Sl.v 1 s0)) (H:=(hT 2 [(oC [zI x0,zI x1,zI x2,Sl.v 1 s0])])) (by kernel_rfl) (by kernel_rfl) (by kernel_rfl))) gvL_n))))) (gvAL_c (gvA_1 (gv_s (giveV_nil (z:=1) (H:=(hT 2 [(oC [zI x0,zI x1,zI x2,Sl.v 1 s0])]))))) (gvAL_c (gvA_1 (gv_s (giveV_nil (z:=1) (H:=(hT 2 [(oC [zI x0,zI x1,zI x2,Sl.v 1 s0])]))))) gvAL_n))) (objF_eq (H2:=(hT 2 [(oC [zI x0,zI x1,zI x2,Sl.v 1 s0])])) (v:=(zB b0)) (v':=(zB b0)) [some 0] [] [] [(.agg ⟨[zI x0,zI x1,zI x2,Sl.v 1 s0]⟩),(Sl.v 1 (Sl.mk 0 2 [])),(Sl.v 1 (Sl.mk 0 2 []))] [] [] [some 0,none] [] [] (by kernel_rfl) mapO_n (Eq.trans (by kernel_rfl) h0) mapO_n mapO_n)) (eE)) ?_
 refine .ghs (fr 44 [(1,zI x3),(2,zI x4),(3,pt 1 0),(12,zB b0)]) (hT 2 [(oC [zI x0,zI x1,zI x2,Sl.v 1 s0])]) (.k0 [false] [.tmp 3 false] [1,2,3,12]) ?_
 replace hm:=bb_cases hm;rcases hm with ⟨h1,hm⟩ | ⟨h1,hm⟩
 ·refine .ifT b0 (by kernel_rfl) h1 ?_
  refine .then ?_
  replace hm:=oo_inv hm;obtain ⟨v6,h2,hm⟩:=hm
  replace hm:=inv_vBool hm;obtain ⟨b1,rfl,hm⟩:=hm
  refine .reg (eD ((oo (pu 10 []) none fun v=>some (v,(hT 2 [(oC [zI x0,zI x1,zI x2,Sl.v 1 s0])])))) (call_eq h2) (eE)) ?_
  refine .ghs (fr 44 [(6,zB b1)]) (hp 1 [(oT tab0)]) (.k0 [false] [] [6]) ?_
  refine .ret ?_
  exact fin_ret (zB b1) (by kernel_rfl) (by kernel_rfl) hm
 ·refine .ifF b0 (by kernel_rfl) h1 ?_
  refine .skip ?_
  refine .ghs (fr 44 [(1,zI x3),(2,zI x4),(3,pt 1 0)]) (hT 2 [(oC [zI x0,zI x1,zI x2,Sl.v 1 s0])]) (.k0 [false] [.tmp 3 false] [1,2,3]) ?_
  refine .then ?_
  replace hm:=oo_inv hm;obtain ⟨v7,h3,hm⟩:=hm
  replace hm:=inv_vTup hm;obtain ⟨l2,rfl,hm⟩:=hm
  replace hm:=ll_uncons hm;obtain ⟨v8,l382_0,rfl,hm⟩:=hm
  replace hm:=ll_uncons hm;obtain ⟨v9,l382_1,rfl,hm⟩:=hm
  replace hm:=ll_end hm;obtain ⟨rfl,hm⟩:=hm
  replace hm:=inv_toI hm;obtain ⟨x5,rfl,hm⟩:=hm
  replace hm:=inv_toI hm;obtain ⟨x6,rfl,hm⟩:=hm
  refine .reg (eC 2 ((oo (pu 33 [zI x3,zI x4]) none fun v=>some (v,(hT 2 [(oC [zI x0,zI x1,zI x2,Sl.v 1 s0])])))) (call_eq h3) (eE)) ?_
  refine .ghs (fr 44 [(1,zI x3),(2,zI x4),(3,pt 1 0),(7,zI x5),(8,zI x6)]) (hT 2 [(oC [zI x0,zI x1,zI x2,Sl.v 1 s0])]) (.k0 [false] [.tmp 3 false] [1,2,3,7,8]) ?_
  refine .then ?_
  replace hm:=oo_inv hm;obtain ⟨v10,h4,hm⟩:=hm
  replace hm:=inv_vTup hm;obtain ⟨l3,rfl,hm⟩:=hm
  replace hm:=ll_uncons hm;obtain ⟨v11,l402_0,rfl,hm⟩:=hm
  replace hm:=ll_uncons hm;obtain ⟨v12,l402_1,rfl,hm⟩:=hm
  replace hm:=ll_end hm;obtain ⟨rfl,hm⟩:=hm
  replace hm:=inv_toI hm;obtain ⟨x7,rfl,hm⟩:=hm
  replace hm:=inv_toI hm;obtain ⟨x8,rfl,hm⟩:=hm
  refine .reg (eC 2 ((oo (pu 34 [zI x3,zI x4]) none fun v=>some (v,(hT 2 [(oC [zI x0,zI x1,zI x2,Sl.v 1 s0])])))) (call_eq h4) (eE)) ?_
  refine .ghs (fr 44 [(3,pt 1 0),(7,zI x5),(8,zI x6),(9,zI x7),(10,zI x8)]) (hT 2 [(oC [zI x0,zI x1,zI x2,Sl.v 1 s0])]) (.k0 [false] [.tmp 3 false] [3,7,8,9,10]) ?_
  refine .join (v:=v) (fun y:Bool=>((fr 44 [(6,zB y)]),(hp 1 [(oT tab0)]))) (fun y=>m7_0 pu n y) ?_ ?_
  ·rintro b2 hm
   exact w7_0 pu n b2 hm
  ·replace hm := bb_cases hm; rcases hm with ⟨h5, hm⟩ | ⟨h5, hm⟩
   ·replace hm := bb_cases hm; rcases hm with ⟨h6, hm⟩ | ⟨h6, hm⟩
    ·replace hm := oo_inv hm; obtain ⟨v13, h7, hm⟩ := hm
     replace hm:=inv_toI hm;obtain ⟨x9,rfl,hm⟩:=hm
     replace hm:=oo_inv hm;obtain ⟨v14,h8,hm⟩:=hm
     replace hm:=inv_toI hm;obtain ⟨x10,rfl,hm⟩:=hm
     replace hm:=bb_cases hm;rcases hm with ⟨h9,hm⟩ | ⟨h9,hm⟩
     ·replace hm := oo_inv hm; obtain ⟨v15, h10, hm⟩ := hm
      replace hm:=inv_vBool hm;obtain ⟨b4,rfl,hm⟩:=hm
      refine .reg (eN 12 (Fr.puts (fr 44 [(3,pt 1 0),(7,zI x5),(8,zI x6),(9,zI x7),(10,zI x8)]) [(26,zI x5),(27,zI x7),(28,zB true),(29,zB true),(30,zI x6),(31,zI x8),(32,zB true),(33,zB true),(34,zB true),(35,(.agg ⟨[zI x0,zI x1,zI x2,Sl.v 1 s0]⟩)),(37,(.agg ⟨[zI x0,zI x1,zI x2,Sl.v 1 s0]⟩)),(36,zI x9)]) (hT 2 [(oC [zI x0,zI x1,zI x2,Sl.v 1 s0])]) (eC 2 (some ((zB (ieq x5 x7)),(hT 2 [(oC [zI x0,zI x1,zI x2,Sl.v 1 s0])]))) (show _ = some ((zB true),_) from (by rw [show (ieq x5 x7) = true from h5])) (eC 3 (some ((zB (ieq x6 x8)),(hT 2 [(oC [zI x0,zI x1,zI x2,Sl.v 1 s0])]))) (show _ = some ((zB true),_) from (by rw [show (ieq x6 x8) = true from h6])) (eC 4 ((oo (pu 35 [(.agg ⟨[zI x0,zI x1,zI x2,Sl.v 1 s0]⟩)]) none fun v=>some (v,(hT 2 [(oC [zI x0,zI x1,zI x2,Sl.v 1 s0])])))) (call_eq h7) (by kernel_rfl)))) (eD ((oo (pu 36 [(.agg ⟨[zI x0,zI x1,zI x2,Sl.v 1 s0]⟩)]) none fun v=>some (v,(hT 2 [(oC [zI x0,zI x1,zI x2,Sl.v 1 s0])])))) (call_eq h8) (eD (some ((zB (ieq x9 x10)),(hT 2 [(oC [zI x0,zI x1,zI x2,Sl.v 1 s0])]))) (show _ = some ((zB true),_) from (by rw [show (ieq x9 x10) = true from h9])) (eC 2 ((oo (pu 10 []) none fun v=>some (v,(hT 2 [(oC [zI x0,zI x1,zI x2,Sl.v 1 s0])])))) (call_eq h10) (eE))))) ?_
      exact ⟨b4,hm,(.k0 [false] [] [6])⟩
     ·refine .reg (eC 2 (some ((zB (ieq x5 x7)), (hT 2 [(oC [zI x0, zI x1, zI x2, Sl.v 1 s0])]))) (show _ = some ((zB true), _) from (by rw [show (ieq x5 x7) = true from h5])) (eC 3 (some ((zB (ieq x6 x8)), (hT 2 [(oC [zI x0, zI x1, zI x2, Sl.v 1 s0])]))) (show _ = some ((zB true), _) from (by rw [show (ieq x6 x8) = true from h6])) (eC 4 ((oo (pu 35 [(.agg ⟨[zI x0, zI x1, zI x2, Sl.v 1 s0]⟩)]) none fun v => some (v, (hT 2 [(oC [zI x0, zI x1, zI x2, Sl.v 1 s0])])))) (call_eq h7) (eD ((oo (pu 36 [(.agg ⟨[zI x0, zI x1, zI x2, Sl.v 1 s0]⟩)]) none fun v => some (v, (hT 2 [(oC [zI x0, zI x1, zI x2, Sl.v 1 s0])])))) (call_eq h8) (eD (some ((zB (ieq x9 x10)), (hT 2 [(oC [zI x0, zI x1, zI x2, Sl.v 1 s0])]))) (show _ = some ((zB false), _) from (by rw [show (ieq x9 x10) = false from h9])) (eE)))))) ?_
      exact ⟨false,hm,(.k0 [false] [] [6])⟩
    ·refine .reg (eC 2 (some ((zB (ieq x5 x7)), (hT 2 [(oC [zI x0, zI x1, zI x2, Sl.v 1 s0])]))) (show _ = some ((zB true), _) from (by rw [show (ieq x5 x7) = true from h5])) (eC 3 (some ((zB (ieq x6 x8)), (hT 2 [(oC [zI x0, zI x1, zI x2, Sl.v 1 s0])]))) (show _ = some ((zB false), _) from (by rw [show (ieq x6 x8) = false from h6])) (eE))) ?_
     exact ⟨false,hm,(.k0 [false] [] [6])⟩
   ·refine .reg (eC 2 (some ((zB (ieq x5 x7)), (hT 2 [(oC [zI x0, zI x1, zI x2, Sl.v 1 s0])]))) (show _ = some ((zB false), _) from (by rw [show (ieq x5 x7) = false from h5])) (eE)) ?_
    exact ⟨false,hm,(.k0 [false] [] [6])⟩

def m11_ (pu:PureF) (n:Nat) (x0 x1 x2:Int) (s0 s1:Sl) (x3:Int):OV:=
 (oo (pu 43 [(.agg ⟨[.int .i64 x0,.int .i64 x1,.int .i64 x2,Sl.v 1 s0]⟩),(Sl.v 1 (Sl.mk 1 0 (takeL (1 * 1) (dropL 0 ([Sl.v 1 s1]:LV)))))]) none fun v0=>(oo (vTup v0) none fun l0=>(ll l0 none fun v1 l0=>(ll l0 none fun v2 l0=>(ll l0 (bb (isS (vFp v1)) (oo (vFp v1) none fun p0=>(oo (toI .i64 v2) none fun x4=>(bb (nt (ieq x4 (0:Int))) (some (.tuple ⟨[(Sl.v 1 (Sl.mk 0 2 [])),.int .i64 x4]⟩)) (oo (nthL (FpV.cs p0) (((FpV.off p0) + 0) + 3)) none fun v3=>(oo (toSl 1 v3) none fun s2=>(oo (pu 44 [Sl.v 1 s2,.int .i64 x3]) none fun v4=>(oo (toI .i64 v4) none fun x5=>(bb (ilt x5 (0:Int)) (some (.tuple ⟨[(Sl.v 1 (Sl.mk 0 2 [])),(.int .i64 (2:Int))]⟩)) (oo (pu 45 [(fpV (FpV.off p0) (FpV.cs p0)),Sl.v 1 s1,.int .i64 x5]) none fun v5=>(oo (toSl 1 v5) none fun s3=>(some (.tuple ⟨[Sl.v 1 s3,(.int .i64 (0:Int))]⟩)))))))))))) (bb (isP0 v1) (oo (toI .i64 v2) none fun x6=>(bb (nt (ieq x6 (0:Int))) (some (.tuple ⟨[(Sl.v 1 (Sl.mk 0 2 [])),.int .i64 x6]⟩)) none)) none)) fun _ _=>none)))))
def m11 (pu:PureF) (n:Nat) (args:LV):OV:=
 (ll args none fun a0 args=>(ll args none fun a1 args=>(ll args none fun a2 args=>(ll args (oo (vAgg a0) none fun l0=>(ll l0 none fun v0 l0=>(ll l0 none fun v1 l0=>(ll l0 none fun v2 l0=>(ll l0 none fun v3 l0=>(ll l0 (oo (toI .i64 v0) none fun x0=>(oo (toI .i64 v1) none fun x1=>(oo (toI .i64 v2) none fun x2=>(oo (toSl 1 v3) none fun s0=>(oo (toSl 1 a1) none fun s1=>(oo (toI .i64 a2) none fun x3=>(m11_ pu n x0 x1 x2 s0 s1 x3))))))) fun _ _=>none)))))) fun _ _=>none))))
theorem r11 {call:CallF} (pu:PureF) (n:Nat) (hcall:call = callP tabs isP pu (inl pu)) {args:LV} {v:Value} (hm:m11 pu n args = some v) (_:∀ x ∈ args,closed2 x = true):args.length≤34∧Run tt call 1 c11_19 (Fr.made 34 args) (pureHeap tabs) (Fin tt 1 [.tmp 6,.tmp 7] v):=by
 subst hcall
 unfold m11 at hm
 replace hm:=ll_uncons hm;obtain ⟨a0,args_0,rfl,hm⟩:=hm
 replace hm:=ll_uncons hm;obtain ⟨a1,args_1,rfl,hm⟩:=hm
 replace hm:=ll_uncons hm;obtain ⟨a2,args_2,rfl,hm⟩:=hm
 replace hm:=ll_end hm;obtain ⟨rfl,hm⟩:=hm
 replace hm:=inv_vAgg hm;obtain ⟨l0,rfl,hm⟩:=hm
 replace hm:=ll_uncons hm;obtain ⟨v0,l501_0,rfl,hm⟩:=hm
 replace hm:=ll_uncons hm;obtain ⟨v1,l501_1,rfl,hm⟩:=hm
 replace hm:=ll_uncons hm;obtain ⟨v2,l501_2,rfl,hm⟩:=hm
 replace hm:=ll_uncons hm;obtain ⟨v3,l501_3,rfl,hm⟩:=hm
 replace hm:=ll_end hm;obtain ⟨rfl,hm⟩:=hm
 replace hm:=inv_toI hm;obtain ⟨x0,rfl,hm⟩:=hm
 replace hm:=inv_toI hm;obtain ⟨x1,rfl,hm⟩:=hm
 replace hm:=inv_toI hm;obtain ⟨x2,rfl,hm⟩:=hm
 replace hm:=inv_toSl hm;obtain ⟨s0,rfl,hm⟩:=hm
 replace hm:=inv_toSl hm;obtain ⟨s1,rfl,hm⟩:=hm
 replace hm:=inv_toI hm;obtain ⟨x3,rfl,hm⟩:=hm
 unfold m11_ at hm
 refine ⟨by simp,?_⟩
 refine .same (F':=(fr 34 [(0,(.agg ⟨[zI x0,zI x1,zI x2,Sl.v 1 s0]⟩)),(1,Sl.v 1 s1),(2,zI x3)])) (H':=(hp 1 [(oT tab0)])) (by kernel_rfl) (by kernel_rfl) ?_
 refine .then (.rK ?_)
 refine .ghs (fr 34 [(1,Sl.v 1 s1),(2,zI x3),(3,pt 1 0)]) (hT 2 [(oC [zI x0,zI x1,zI x2,Sl.v 1 s0])]) (.k0 [false] [.tmp 3 false] [1,2,3]) ?_
 refine .then ?_
 replace hm:=oo_inv hm;obtain ⟨v4,h0,hm⟩:=hm
 replace hm:=inv_vTup hm;obtain ⟨l1,rfl,hm⟩:=hm
 replace hm:=ll_uncons hm;obtain ⟨v5,l532_0,rfl,hm⟩:=hm
 replace hm:=ll_uncons hm;obtain ⟨v6,l532_1,rfl,hm⟩:=hm
 replace hm:=ll_end hm;obtain ⟨rfl,hm⟩:=hm
 replace hm:=bb_cases hm;rcases hm with ⟨h1,hm⟩ | ⟨h1,hm⟩
 ·replace hm := oo_inv hm; obtain ⟨p0, h2, hm⟩ := hm
  obtain rfl:=vFp_some h2
  replace hm:=inv_toI hm;obtain ⟨x4,rfl,hm⟩:=hm
  refine .reg (eC 3 (giveF tabs 1 (pu 43) [(.agg ⟨[zI x0,zI x1,zI x2,Sl.v 1 s0]⟩),sc 2 0 1 1 3] (hT 3 [(oC [zI x0,zI x1,zI x2,Sl.v 1 s0]),(oC [Sl.v 1 s1])])) (giveF_eq (giveL_cons (giveV_cl (z:=1) (v:=(.agg ⟨[zI x0,zI x1,zI x2,Sl.v 1 s0]⟩)) (H:=(hT 3 [(oC [zI x0,zI x1,zI x2,Sl.v 1 s0]),(oC [Sl.v 1 s1])])) (by kernel_rfl) (by kernel_rfl) (by kernel_rfl)) (giveL_cons (show giveV 1 (sc 2 0 1 1 3) (hT 3 [(oC [zI x0,zI x1,zI x2,Sl.v 1 s0]),(oC [Sl.v 1 s1])]) = some ((Sl.v 1 (Sl.mk 1 0 (takeL (1 * 1) (dropL 0 ([Sl.v 1 s1]:LV))))),(hT 3 [(oC [zI x0,zI x1,zI x2,Sl.v 1 s0]),.dead])) from giveV_sl 2 0 1 1 3 ([Sl.v 1 s1]:LV) [] (by kernel_rfl) (by kernel_rfl) (by kernel_rfl)) giveL_nil)) (by kernel_rfl) h0) (eE)) ?_
  refine .ghs (fr 34 [(1,Sl.v 1 s1),(2,zI x3),(8,(fpV (FpV.off p0) (FpV.cs p0))),(9,zI x4)]) (hp 1 [(oT tab0)]) (.k0 [false] [] [1,2,8,9]) ?_
  refine .then ?_
  refine .then (.rK ?_)
  refine .ghs (fr 34 [(1,Sl.v 1 s1),(2,zI x3),(8,(fpV (FpV.off p0) (FpV.cs p0))),(9,zI x4),(19,(zB (nt (ieq x4 (0:Int)))))]) (hp 1 [(oT tab0)]) (.k0 [false] [] [1,2,8,9,19]) ?_
  replace hm:=bb_cases hm;rcases hm with ⟨h3,hm⟩ | ⟨h3,hm⟩
  ·refine .ifT (nt (ieq x4 (0 : Int))) (by kernel_rfl) h3 ?_
   refine .then (.rK ?_)
   refine .ghs (fr 34 [(6,(.slice none 0 0)),(7,zI x4)]) (hp 1 [(oT tab0)]) (.k0 [false] [] [6,7]) ?_
   refine .ghs (Fr.puts (fr 34 [(6,(.slice none 0 0)),(7,zI x4)]) [(6,(Sl.v 1 (Sl.mk 0 2 [])))]) (hp 1 [(oT tab0)]) (.freeze 1 6 1 (by kernel_rfl) (by kernel_rfl) (GhS.id _ _)) ?_
   refine .ret ?_
   exact fin_ret (.tuple ⟨[(Sl.v 1 (Sl.mk 0 2 [])),zI x4]⟩) (by kernel_rfl) (by kernel_rfl) hm
  ·refine .ifF (nt (ieq x4 (0 : Int))) (by kernel_rfl) h3 ?_
   refine .skip ?_
   refine .ghs (fr 34 [(1,Sl.v 1 s1),(2,zI x3),(8,(fpV (FpV.off p0) (FpV.cs p0)))]) (hp 1 [(oT tab0)]) (.k0 [false] [] [1,2,8]) ?_
   refine .then ?_
   replace hm:=oo_inv hm;obtain ⟨v7,h4,hm⟩:=hm
   replace hm:=inv_toSl hm;obtain ⟨s2,rfl,hm⟩:=hm
   replace hm:=oo_inv hm;obtain ⟨v8,h5,hm⟩:=hm
   replace hm:=inv_toI hm;obtain ⟨x5,rfl,hm⟩:=hm
   refine .reg (eC 4 (keep (hp 1 [(oT tab0)]) (nthL (FpV.cs p0) (((FpV.off p0) + 0) + 3))) (keep_eq h4) (eC 1 ((oo (pu 44 [Sl.v 1 s2,zI x3]) none fun v=>some (v,(hp 1 [(oT tab0)])))) (call_eq h5) (eE))) ?_
   refine .ghs (fr 34 [(1,Sl.v 1 s1),(8,(fpV (FpV.off p0) (FpV.cs p0))),(10,zI x5)]) (hp 1 [(oT tab0)]) (.k0 [false] [] [1,8,10]) ?_
   refine .then ?_
   refine .then (.rK ?_)
   refine .ghs (fr 34 [(1,Sl.v 1 s1),(8,(fpV (FpV.off p0) (FpV.cs p0))),(10,zI x5),(29,(zB (ilt x5 (0:Int))))]) (hp 1 [(oT tab0)]) (.k0 [false] [] [1,8,10,29]) ?_
   replace hm:=bb_cases hm;rcases hm with ⟨h6,hm⟩ | ⟨h6,hm⟩
   ·refine .ifT (ilt x5 (0 : Int)) (by kernel_rfl) h6 ?_
    refine .then (.rK ?_)
    refine .ghs (fr 34 [(6,(.slice none 0 0)),(7,(zI (2:Int)))]) (hp 1 [(oT tab0)]) (.k0 [false] [] [6,7]) ?_
    refine .ghs (Fr.puts (fr 34 [(6,(.slice none 0 0)),(7,(zI (2:Int)))]) [(6,(Sl.v 1 (Sl.mk 0 2 [])))]) (hp 1 [(oT tab0)]) (.freeze 1 6 1 (by kernel_rfl) (by kernel_rfl) (GhS.id _ _)) ?_
    refine .ret ?_
    exact fin_ret (.tuple ⟨[(Sl.v 1 (Sl.mk 0 2 [])),(zI (2:Int))]⟩) (by kernel_rfl) (by kernel_rfl) hm
   ·refine .ifF (ilt x5 (0 : Int)) (by kernel_rfl) h6 ?_
    refine .skip ?_
    refine .ghs (fr 34 [(1,Sl.v 1 s1),(8,(fpV (FpV.off p0) (FpV.cs p0))),(10,zI x5)]) (hp 1 [(oT tab0)]) (.k0 [false] [] [1,8,10]) ?_
    refine .then ?_
    replace hm:=oo_inv hm;obtain ⟨v9,h7,hm⟩:=hm
    replace hm:=inv_toSl hm;obtain ⟨s3,rfl,hm⟩:=hm
    refine .reg (eC 3 ((oo (pu 45 [(fpV (FpV.off p0) (FpV.cs p0)),Sl.v 1 s1,zI x5]) none fun v=>some (v,(hp 1 [(oT tab0)])))) (call_eq h7) (eE)) ?_
    refine .ghs (fr 34 [(6,Sl.v 1 s3),(7,(zI (0:Int)))]) (hp 1 [(oT tab0)]) (.k0 [false] [] [6,7]) ?_
    refine .ret ?_
    exact fin_ret (.tuple ⟨[Sl.v 1 s3,(zI (0:Int))]⟩) (by kernel_rfl) (by kernel_rfl) hm
 ·replace hm := bb_inv hm; obtain ⟨h8, hm⟩ := hm
  obtain rfl:=isP0_ok h8
  replace hm:=inv_toI hm;obtain ⟨x6,rfl,hm⟩:=hm
  refine .reg (eC 3 (giveF tabs 1 (pu 43) [(.agg ⟨[zI x0,zI x1,zI x2,Sl.v 1 s0]⟩),sc 2 0 1 1 3] (hT 3 [(oC [zI x0,zI x1,zI x2,Sl.v 1 s0]),(oC [Sl.v 1 s1])])) (giveF_eq (giveL_cons (giveV_cl (z:=1) (v:=(.agg ⟨[zI x0,zI x1,zI x2,Sl.v 1 s0]⟩)) (H:=(hT 3 [(oC [zI x0,zI x1,zI x2,Sl.v 1 s0]),(oC [Sl.v 1 s1])])) (by kernel_rfl) (by kernel_rfl) (by kernel_rfl)) (giveL_cons (show giveV 1 (sc 2 0 1 1 3) (hT 3 [(oC [zI x0,zI x1,zI x2,Sl.v 1 s0]),(oC [Sl.v 1 s1])]) = some ((Sl.v 1 (Sl.mk 1 0 (takeL (1 * 1) (dropL 0 ([Sl.v 1 s1]:LV))))),(hT 3 [(oC [zI x0,zI x1,zI x2,Sl.v 1 s0]),.dead])) from giveV_sl 2 0 1 1 3 ([Sl.v 1 s1]:LV) [] (by kernel_rfl) (by kernel_rfl) (by kernel_rfl)) giveL_nil)) (by kernel_rfl) h0) (eE)) ?_
  refine .ghs (fr 34 [(1,Sl.v 1 s1),(2,zI x3),(8,(.pointer none)),(9,zI x6)]) (hp 1 [(oT tab0)]) (.k0 [false] [] [1,2,8,9]) ?_
  refine .then ?_
  refine .then (.rK ?_)
  refine .ghs (fr 34 [(1,Sl.v 1 s1),(2,zI x3),(8,(.pointer none)),(9,zI x6),(19,(zB (nt (ieq x6 (0:Int)))))]) (hp 1 [(oT tab0)]) (.k0 [false] [] [1,2,8,9,19]) ?_
  replace hm:=bb_cases hm;rcases hm with ⟨h9,hm⟩ | ⟨h9,hm⟩
  ·refine .ifT (nt (ieq x6 (0 : Int))) (by kernel_rfl) h9 ?_
   refine .then (.rK ?_)
   refine .ghs (fr 34 [(6,(.slice none 0 0)),(7,zI x6)]) (hp 1 [(oT tab0)]) (.k0 [false] [] [6,7]) ?_
   refine .ghs (Fr.puts (fr 34 [(6,(.slice none 0 0)),(7,zI x6)]) [(6,(Sl.v 1 (Sl.mk 0 2 [])))]) (hp 1 [(oT tab0)]) (.freeze 1 6 1 (by kernel_rfl) (by kernel_rfl) (GhS.id _ _)) ?_
   refine .ret ?_
   exact fin_ret (.tuple ⟨[(Sl.v 1 (Sl.mk 0 2 [])),zI x6]⟩) (by kernel_rfl) (by kernel_rfl) hm
  ·refine .ifF (nt (ieq x6 (0 : Int))) (by kernel_rfl) h9 ?_
   refine .skip ?_
   refine .ghs (fr 34 [(1,Sl.v 1 s1),(2,zI x3),(8,(.pointer none))]) (hp 1 [(oT tab0)]) (.k0 [false] [] [1,2,8]) ?_
   refine .then ?_
   cases hm
def m12_0 (pu:PureF) (n:Nat) (s0:Sl) (z0 z1 z2 z3 z4:Int) (s1:Sl):OV:=
 (bb (nt (ieq z1 (0:Int))) (some (.tuple ⟨[(Sl.v 1 (Sl.mk 0 2 [])),.int .i64 z1]⟩)) (oo (pu 10480 [(.agg ⟨[.int .i64 z2,.int .i64 z3,.int .i64 z4,Sl.v 1 s1]⟩),Sl.v 1 s0,.int .i64 z0]) none fun v0=>(oo (vTup v0) none fun l0=>(ll l0 none fun v1 l0=>(ll l0 (oo (toSl 1 v1) none fun s2=>(some (.tuple ⟨[Sl.v 1 s2,(.int .i64 (0:Int))]⟩))) fun _ _=>none)))))
def m12_1 (pu:PureF) (n:Nat) (s0:Sl) (z0 z1:Int) (b0:Bool) (z2 z3 z4:Int) (s1:Sl):OV:=
 (bb b0 (m12_0 pu n s0 z0 (2:Int) z2 z3 z4 s1) (m12_0 pu n s0 z0 z1 z2 z3 z4 s1))
def m12_ (pu:PureF) (n:Nat) (x0 x1 x2:Int) (s0 s1:Sl) (x3:Int):OV:=
 (oo (pu 46 [(.agg ⟨[.int .i64 x0,.int .i64 x1,.int .i64 x2,Sl.v 1 s0]⟩),Sl.v 1 s1]) none fun v0=>(oo (toI .i64 v0) none fun x4=>(bb (ieq x4 (0:Int)) (oo (pu 47 [Sl.v 1 s0,.int .i64 x3]) none fun v1=>(oo (vBool v1) none fun b0=>(m12_1 pu n s1 x3 x4 (nt b0) x0 x1 x2 s0))) (m12_1 pu n s1 x3 x4 false x0 x1 x2 s0))))
def m12 (pu:PureF) (n:Nat) (args:LV):OV:=
 (ll args none fun a0 args=>(ll args none fun a1 args=>(ll args none fun a2 args=>(ll args (oo (vAgg a0) none fun l0=>(ll l0 none fun v0 l0=>(ll l0 none fun v1 l0=>(ll l0 none fun v2 l0=>(ll l0 none fun v3 l0=>(ll l0 (oo (toI .i64 v0) none fun x0=>(oo (toI .i64 v1) none fun x1=>(oo (toI .i64 v2) none fun x2=>(oo (toSl 1 v3) none fun s0=>(oo (toSl 1 a1) none fun s1=>(oo (toI .i64 a2) none fun x3=>(m12_ pu n x0 x1 x2 s0 s1 x3))))))) fun _ _=>none)))))) fun _ _=>none))))
theorem w12_0 (pu:PureF) (n:Nat) (s0:Sl) (z0 z1 z2 z3 z4:Int) (s1:Sl) {v:Value} (hm:m12_0 pu n s0 z0 z1 z2 z3 z4 s1 = some v):Run tt (callP tabs isP pu (inl pu)) 1 c12_13 (fr 28 [(1,Sl.v 1 s0),(2,zI z0),(3,pt 1 0),(8,zI z1)]) (hT 2 [(oC [zI z2,zI z3,zI z4,Sl.v 1 s1])]) (Fin tt 1 [.tmp 6,.tmp 7] v):=by
 unfold m12_0 at hm
 refine .then ?_
 refine .then (.rK ?_)
 refine .ghs (fr 28 [(1,Sl.v 1 s0),(2,zI z0),(3,pt 1 0),(8,zI z1),(22,(zB (nt (ieq z1 (0:Int)))))]) (hT 2 [(oC [zI z2,zI z3,zI z4,Sl.v 1 s1])]) (.k0 [false] [.tmp 3 false] [1,2,3,8,22]) ?_
 replace hm:=bb_cases hm;rcases hm with ⟨h0,hm⟩ | ⟨h0,hm⟩
 ·refine .ifT (nt (ieq z1 (0 : Int))) (by kernel_rfl) h0 ?_
  refine .then (.rK ?_)
  refine .ghs (fr 28 [(6,(.slice none 0 0)),(7,zI z1)]) (hp 1 [(oT tab0)]) (.k0 [false] [] [6,7]) ?_
  refine .ghs (Fr.puts (fr 28 [(6,(.slice none 0 0)),(7,zI z1)]) [(6,(Sl.v 1 (Sl.mk 0 2 [])))]) (hp 1 [(oT tab0)]) (.freeze 1 6 1 (by kernel_rfl) (by kernel_rfl) (GhS.id _ _)) ?_
  refine .ret ?_
  exact fin_ret (.tuple ⟨[(Sl.v 1 (Sl.mk 0 2 [])),zI z1]⟩) (by kernel_rfl) (by kernel_rfl) hm
 ·refine .ifF (nt (ieq z1 (0 : Int))) (by kernel_rfl) h0 ?_
  refine .skip ?_
  refine .ghs (fr 28 [(1,Sl.v 1 s0),(2,zI z0),(3,pt 1 0)]) (hT 2 [(oC [zI z2,zI z3,zI z4,Sl.v 1 s1])]) (.k0 [false] [.tmp 3 false] [1,2,3]) ?_
  refine .then ?_
  replace hm:=oo_inv hm;obtain ⟨v0,h1,hm⟩:=hm
  replace hm:=inv_vTup hm;obtain ⟨l0,rfl,hm⟩:=hm
  replace hm:=ll_uncons hm;obtain ⟨v1,l836_0,rfl,hm⟩:=hm
  replace hm:=ll_end hm;obtain ⟨rfl,hm⟩:=hm
  replace hm:=inv_toSl hm;obtain ⟨s2,rfl,hm⟩:=hm
  refine .reg (eC 3 (objG tabs [[none,none,none,some 1],[some 1],[none]] 3 [] [] (pu 10480) [(.agg ⟨[zI z2,zI z3,zI z4,Sl.v 1 s1]⟩),Sl.v 1 s0,zI z0] (hT 2 [(oC [zI z2,zI z3,zI z4,Sl.v 1 s1])])) (objG_eq (as:=[(.agg ⟨[zI z2,zI z3,zI z4,Sl.v 1 s1]⟩),Sl.v 1 s0,zI z0]) (H1:=(hT 2 [(oC [zI z2,zI z3,zI z4,Sl.v 1 s1])])) (gvAL_c (gvA_a (gvL_c gv_n (gvL_c gv_n (gvL_c gv_n (gvL_c (gv_s (giveV_cl (z:=1) (v:=(Sl.v 1 s1)) (H:=(hT 2 [(oC [zI z2,zI z3,zI z4,Sl.v 1 s1])])) (by kernel_rfl) (by kernel_rfl) (by kernel_rfl))) gvL_n))))) (gvAL_c (gvA_1 (gv_s (giveV_cl (z:=1) (v:=(Sl.v 1 s0)) (H:=(hT 2 [(oC [zI z2,zI z3,zI z4,Sl.v 1 s1])])) (by kernel_rfl) (by kernel_rfl) (by kernel_rfl)))) (gvAL_c (gvA_1 gv_n) gvAL_n))) (objF_eq (H2:=(hT 2 [(oC [zI z2,zI z3,zI z4,Sl.v 1 s1])])) (v:=(Sl.v 1 s2)) (v':=(Sl.v 1 s2)) [some 0] [] [] [(.agg ⟨[zI z2,zI z3,zI z4,Sl.v 1 s1]⟩),Sl.v 1 s0,zI z0] [] [] [some 0,none] [] [] (by kernel_rfl) mapO_n (Eq.trans (by kernel_rfl) h1) mapO_n mapO_n)) (eE)) ?_
  refine .ghs (fr 28 [(6,Sl.v 1 s2),(7,(zI (0:Int)))]) (hp 1 [(oT tab0)]) (.k0 [false] [] [6,7]) ?_
  refine .ret ?_
  exact fin_ret (.tuple ⟨[Sl.v 1 s2,(zI (0:Int))]⟩) (by kernel_rfl) (by kernel_rfl) hm
theorem r12 {call:CallF} (pu:PureF) (n:Nat) (hcall:call = callP tabs isP pu (inl pu)) {args:LV} {v:Value} (hm:m12 pu n args = some v) (_:∀ x ∈ args,closed2 x = true):args.length≤28∧Run tt call 1 c12_16 (Fr.made 28 args) (pureHeap tabs) (Fin tt 1 [.tmp 6,.tmp 7] v):=by
 subst hcall
 unfold m12 at hm
 replace hm:=ll_uncons hm;obtain ⟨a0,args_0,rfl,hm⟩:=hm
 replace hm:=ll_uncons hm;obtain ⟨a1,args_1,rfl,hm⟩:=hm
 replace hm:=ll_uncons hm;obtain ⟨a2,args_2,rfl,hm⟩:=hm
 replace hm:=ll_end hm;obtain ⟨rfl,hm⟩:=hm
 replace hm:=inv_vAgg hm;obtain ⟨l0,rfl,hm⟩:=hm
 replace hm:=ll_uncons hm;obtain ⟨v0,l568_0,rfl,hm⟩:=hm
 replace hm:=ll_uncons hm;obtain ⟨v1,l568_1,rfl,hm⟩:=hm
 replace hm:=ll_uncons hm;obtain ⟨v2,l568_2,rfl,hm⟩:=hm
 replace hm:=ll_uncons hm;obtain ⟨v3,l568_3,rfl,hm⟩:=hm
 replace hm:=ll_end hm;obtain ⟨rfl,hm⟩:=hm
 replace hm:=inv_toI hm;obtain ⟨x0,rfl,hm⟩:=hm
 replace hm:=inv_toI hm;obtain ⟨x1,rfl,hm⟩:=hm
 replace hm:=inv_toI hm;obtain ⟨x2,rfl,hm⟩:=hm
 replace hm:=inv_toSl hm;obtain ⟨s0,rfl,hm⟩:=hm
 replace hm:=inv_toSl hm;obtain ⟨s1,rfl,hm⟩:=hm
 replace hm:=inv_toI hm;obtain ⟨x3,rfl,hm⟩:=hm
 unfold m12_ at hm
 refine ⟨by simp,?_⟩
 refine .same (F':=(fr 28 [(0,(.agg ⟨[zI x0,zI x1,zI x2,Sl.v 1 s0]⟩)),(1,Sl.v 1 s1),(2,zI x3)])) (H':=(hp 1 [(oT tab0)])) (by kernel_rfl) (by kernel_rfl) ?_
 refine .then (.rK ?_)
 refine .ghs (fr 28 [(1,Sl.v 1 s1),(2,zI x3),(3,pt 1 0)]) (hT 2 [(oC [zI x0,zI x1,zI x2,Sl.v 1 s0])]) (.k0 [false] [.tmp 3 false] [1,2,3]) ?_
 refine .then ?_
 replace hm:=oo_inv hm;obtain ⟨v4,h0,hm⟩:=hm
 replace hm:=inv_toI hm;obtain ⟨x4,rfl,hm⟩:=hm
 refine .reg (eC 2 ((oo (pu 46 [(.agg ⟨[zI x0,zI x1,zI x2,Sl.v 1 s0]⟩),Sl.v 1 s1]) none fun v=>some (v,(hT 2 [(oC [zI x0,zI x1,zI x2,Sl.v 1 s0])])))) (call_eq h0) (eE)) ?_
 refine .ghs (fr 28 [(1,Sl.v 1 s1),(2,zI x3),(3,pt 1 0),(8,zI x4)]) (hT 2 [(oC [zI x0,zI x1,zI x2,Sl.v 1 s0])]) (.k0 [false] [.tmp 3 false] [1,2,3,8]) ?_
 refine .join (v:=v) (fun y:Sl×Int×Int×Int×Int×Int×Sl=>((fr 28 [(1,(Sl.v 1 y.1)),(2,(zI y.2.1)),(3,pt 1 0),(8,(zI y.2.2.1))]),(hT 2 [(oC [(zI y.2.2.2.1),(zI y.2.2.2.2.1),(zI y.2.2.2.2.2.1),(Sl.v 1 y.2.2.2.2.2.2)])]))) (fun y=>m12_0 pu n y.1 y.2.1 y.2.2.1 y.2.2.2.1 y.2.2.2.2.1 y.2.2.2.2.2.1 y.2.2.2.2.2.2) ?_ ?_
 ·rintro ⟨s2, z0, z1, z2, z3, z4, s3⟩ hm
  exact w12_0 pu n s2 z0 z1 z2 z3 z4 s3 hm
 ·refine .join (v := v) (fun y : Sl × Int × Int × Bool × Int × Int × Int × Sl => ((fr 28 [(1, (Sl.v 1 y.1)), (2, (zI y.2.1)), (3, pt 1 0), (8, (zI y.2.2.1)), (20, (zB y.2.2.2.1))]), (hT 2 [(oC [(zI y.2.2.2.2.1), (zI y.2.2.2.2.2.1), (zI y.2.2.2.2.2.2.1), (Sl.v 1 y.2.2.2.2.2.2.2)])]))) (fun y => m12_1 pu n y.1 y.2.1 y.2.2.1 y.2.2.2.1 y.2.2.2.2.1 y.2.2.2.2.2.1 y.2.2.2.2.2.2.1 y.2.2.2.2.2.2.2) ?_ ?_
  ·rintro ⟨s4, z5, z6, b0, z7, z8, z9, s5⟩ hm
   unfold m12_1 at hm
   replace hm:=bb_cases hm;rcases hm with ⟨h1,hm⟩ | ⟨h1,hm⟩
   ·refine .ifT b0 (by kernel_rfl) h1 ?_
    refine .rK ?_
    exact ⟨(s4,z5,(2:Int),z7,z8,z9,s5),hm,(.k0 [false] [.tmp 3 false] [1,2,3,8])⟩
   ·refine .ifF b0 (by kernel_rfl) h1 ?_
    refine .skip ?_
    exact ⟨(s4,z5,z6,z7,z8,z9,s5),hm,(.k0 [false] [.tmp 3 false] [1,2,3,8])⟩
  ·replace hm := bb_cases hm; rcases hm with ⟨h2, hm⟩ | ⟨h2, hm⟩
   ·replace hm := oo_inv hm; obtain ⟨v5, h3, hm⟩ := hm
    replace hm:=inv_vBool hm;obtain ⟨b1,rfl,hm⟩:=hm
    refine .reg (eC 1 (some ((zB (ieq x4 (0:Int))),(hT 2 [(oC [zI x0,zI x1,zI x2,Sl.v 1 s0])]))) (show _ = some ((zB true),_) from (by rw [show (ieq x4 (0:Int)) = true from h2])) (eC 4 ((oo (pu 47 [Sl.v 1 s0,zI x3]) none fun v=>some (v,(hT 2 [(oC [zI x0,zI x1,zI x2,Sl.v 1 s0])])))) (call_eq h3) (eE))) ?_
    exact ⟨(s1,x3,x4,(nt b1),x0,x1,x2,s0),hm,(.k0 [false] [.tmp 3 false] [1,2,3,8,20])⟩
   ·refine .reg (eC 1 (some ((zB (ieq x4 (0 : Int))), (hT 2 [(oC [zI x0, zI x1, zI x2, Sl.v 1 s0])]))) (show _ = some ((zB false), _) from (by rw [show (ieq x4 (0 : Int)) = false from h2])) (eE)) ?_
    exact ⟨(s1,x3,x4,false,x0,x1,x2,s0),hm,(.k0 [false] [.tmp 3 false] [1,2,3,8,20])⟩
end
end Go.BkZM
