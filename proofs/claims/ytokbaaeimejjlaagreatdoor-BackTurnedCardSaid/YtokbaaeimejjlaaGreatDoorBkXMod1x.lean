/- Words for the models. -/
import Derived.Test.YtokbaaeimejjlaaGreatDoorSpClo3x
import Derived.Test.YtokbaaeimejjlaaGreatDoorBkXNodesx
import Derived.Test.YtokbaaeimejjlaaGreatDoorBkXCode
import Derived.KernelRfl

set_option maxRecDepth 100000
namespace Go.BkXM
open Go.Sp Go.BkX
noncomputable section
def orc10:List Value→Option Value:=Go.BkQ.trueF
def orc84:List Value→Option Value:=Go.BkQ.cellsM
def orc98:List Value→Option Value:=fun _=>none
end
end Go.BkXM
set_option maxRecDepth 100000
set_option maxHeartbeats 20000000
set_option linter.unusedVariables false
namespace Go.BkXM
open Go.Sp Go.BkX
noncomputable section
def tab0:List Value:=[.int .u8 0,.int .u8 1,.int .u8 28,.int .u8 2,.int .u8 29,.int .u8 14,.int .u8 24,.int .u8 3,.int .u8 30,.int .u8 22,.int .u8 20,.int .u8 15,.int .u8 25,.int .u8 17,.int .u8 4,.int .u8 8,.int .u8 31,.int .u8 27,.int .u8 13,.int .u8 23,.int .u8 21,.int .u8 19,.int .u8 16,.int .u8 7,.int .u8 26,.int .u8 12,.int .u8 18,.int .u8 6,.int .u8 11,.int .u8 5,.int .u8 10,.int .u8 9]
def tabs:List (List Value):=[tab0]
abbrev hT (n:Nat) (l:List AObj):AHeap:=hp n (oT tab0 :: l)
theorem trF {a b:Bool} (h:b = true) (e:a = b:=by kernel_rfl):a = true:=e.trans h
abbrev OV:=Option Value
abbrev LV:=List Value
def plist:List Nat:=[3,9,10,11,12,13,14,15,16,17,34,36,44,45,46,47,49,50,51,55,59,62,75,76,77,80,81,84,91,92,93]
def isP:FuncId→Bool:=fun g=>memN g plist
def inl (pu:PureF):CallF:=fun g args H=>bb (Nat.beq g 98) (giveF tabs 1 (pu 98) args H) (bb (Nat.beq g 43) (giveF tabs 1 (pu 43) args H) (bb (Nat.beq g 48) (bb (an (oo (nthL args 1) false (fun v=>nt (isS (vSl v)))) true) (objG tabs [[none,none,none,some 1],[some 1],[none]] 3 [] [] (pu 10480) args H) (objG tabs [[none,none,none,some 1],[none],[none]] 3 [.tmp 1 false] [false] (pu 10481) args H)) (none)))
end
end Go.BkXM
set_option maxRecDepth 100000
set_option maxHeartbeats 20000000
set_option linter.unusedVariables false
namespace Go.BkXM
open Go.Sp Go.BkX
noncomputable section
def m3_0 (pu:PureF) (n:Nat) (b0:Bool):OV:=
 (some (.bool b0))
def m3_ (pu:PureF) (n:Nat) (x7 x9 x11:Int) (s13 s15 s17:Sl) (x19:Int):OV:=
 (oo (pu 9 [(.agg ⟨[.int .i64 x7,.int .i64 x9,.int .i64 x11,Sl.v 1 s13]⟩),Sl.v 1 s15,Sl.v 1 s17]) none fun v25=>(oo (vBool v25) none fun b27=>(bb b27 (oo (pu 10 []) none fun v34=>(oo (vBool v34) none fun b36=>(some (.bool b36)))) (oo (pu 11 [(.agg ⟨[.int .i64 x7,.int .i64 x9,.int .i64 x11,Sl.v 1 s13]⟩),Sl.v 1 s15,.int .i64 x19]) none fun v48=>(oo (vTup v48) none fun l50=>(ll l50 none fun v52 l50=>(ll l50 none fun v53 l50=>(ll l50 (oo (toSl 1 v52) none fun s54=>(oo (toI .i64 v53) none fun x56=>(oo (pu 12 [(.agg ⟨[.int .i64 x7,.int .i64 x9,.int .i64 x11,Sl.v 1 s13]⟩),Sl.v 1 s15,.int .i64 x19]) none fun v68=>(oo (vTup v68) none fun l70=>(ll l70 none fun v72 l70=>(ll l70 none fun v73 l70=>(ll l70 (oo (toSl 1 v72) none fun s74=>(oo (toI .i64 v73) none fun x76=>(oo (pu 13 [(.agg ⟨[.int .i64 x7,.int .i64 x9,.int .i64 x11,Sl.v 1 s13]⟩),Sl.v 1 s15,Sl.v 1 s17]) none fun v88=>(oo (vTup v88) none fun l90=>(ll l90 none fun v92 l90=>(ll l90 none fun v93 l90=>(ll l90 (oo (toI .i64 v92) none fun x94=>(oo (toI .i64 v93) none fun x96=>(oo (pu 14 [(.agg ⟨[.int .i64 x7,.int .i64 x9,.int .i64 x11,Sl.v 1 s13]⟩),Sl.v 1 s15,Sl.v 1 s17]) none fun v0=>(oo (vTup v0) none fun l0=>(ll l0 none fun v1 l0=>(ll l0 none fun v2 l0=>(ll l0 (oo (toI .i64 v1) none fun x0=>(oo (toI .i64 v2) none fun x1=>(oo (pu 15 [(.agg ⟨[.int .i64 x7,.int .i64 x9,.int .i64 x11,Sl.v 1 s13]⟩),Sl.v 1 s15]) none fun v3=>(oo (vTup v3) none fun l1=>(ll l1 none fun v4 l1=>(ll l1 none fun v5 l1=>(ll l1 (oo (toSl 1 v4) none fun s0=>(oo (toI .i64 v5) none fun x2=>(oo (pu 16 [(.agg ⟨[.int .i64 x7,.int .i64 x9,.int .i64 x11,Sl.v 1 s13]⟩),Sl.v 1 s15]) none fun v6=>(oo (vTup v6) none fun l2=>(ll l2 none fun v7 l2=>(ll l2 none fun v8 l2=>(ll l2 (oo (toSl 1 v7) none fun s1=>(oo (toI .i64 v8) none fun x3=>(oo (pu 17 [Sl.v 1 s54,Sl.v 1 s74]) none fun v9=>(oo (vBool v9) none fun b0=>(bb b0 (bb (ieq x56 x76) (bb (ieq x94 x0) (bb (ieq x96 x1) (oo (pu 17 [Sl.v 1 s0,Sl.v 1 s1]) none fun v10=>(oo (vBool v10) none fun b1=>(bb b1 (bb (ieq x2 x3) (oo (pu 10 []) none fun v11=>(oo (vBool v11) none fun b2=>(m3_0 pu n b2))) (m3_0 pu n false)) (m3_0 pu n false)))) (m3_0 pu n false)) (m3_0 pu n false)) (m3_0 pu n false)) (m3_0 pu n false)))))) fun _ _=>none))))))) fun _ _=>none))))))) fun _ _=>none))))))) fun _ _=>none))))))) fun _ _=>none))))))) fun _ _=>none))))))))
def m3 (pu:PureF) (n:Nat) (args:LV):OV:=
 (ll args none fun a0 args=>(ll args none fun a1 args=>(ll args none fun a2 args=>(ll args none fun a3 args=>(ll args (oo (vAgg a0) none fun l1=>(ll l1 none fun v3 l1=>(ll l1 none fun v4 l1=>(ll l1 none fun v5 l1=>(ll l1 none fun v6 l1=>(ll l1 (oo (toI .i64 v3) none fun x7=>(oo (toI .i64 v4) none fun x9=>(oo (toI .i64 v5) none fun x11=>(oo (toSl 1 v6) none fun s13=>(oo (toSl 1 a1) none fun s15=>(oo (toSl 1 a2) none fun s17=>(oo (toI .i64 a3) none fun x19=>(m3_ pu n x7 x9 x11 s13 s15 s17 x19)))))))) fun _ _=>none)))))) fun _ _=>none)))))
theorem w3_0 (pu:PureF) (n:Nat) (b0:Bool) {v:Value} (hm:m3_0 pu n b0 = some v):Run tt (callP tabs isP pu (inl pu)) 1 .ret (fr 99 [(8,zB b0)]) (hp 1 [(oT tab0)]) (Fin tt 1 [.tmp 8] v):=by
 unfold m3_0 at hm
 refine .ret ?_
 exact fin_ret (zB b0) (by kernel_rfl) (by kernel_rfl) hm
theorem r3 {call:CallF} (pu:PureF) (n:Nat) (hcall:call = callP tabs isP pu (inl pu)) {args:LV} {v:Value} (hm:m3 pu n args = some v) (_:∀ x ∈ args,closed2 x = true):args.length≤99∧Run tt call 1 c3_23 (Fr.made 99 args) (pureHeap tabs) (Fin tt 1 [.tmp 8] v):=by
 subst hcall
 unfold m3 at hm
 replace hm:=ll_uncons hm;obtain ⟨a0,args_0,rfl,hm⟩:=hm
 replace hm:=ll_uncons hm;obtain ⟨a1,args_1,rfl,hm⟩:=hm
 replace hm:=ll_uncons hm;obtain ⟨a2,args_2,rfl,hm⟩:=hm
 replace hm:=ll_uncons hm;obtain ⟨a3,args_3,rfl,hm⟩:=hm
 replace hm:=ll_end hm;obtain ⟨rfl,hm⟩:=hm
 replace hm:=inv_vAgg hm;obtain ⟨l1,rfl,hm⟩:=hm
 replace hm:=ll_uncons hm;obtain ⟨v3,l1_0,rfl,hm⟩:=hm
 replace hm:=ll_uncons hm;obtain ⟨v4,l1_1,rfl,hm⟩:=hm
 replace hm:=ll_uncons hm;obtain ⟨v5,l1_2,rfl,hm⟩:=hm
 replace hm:=ll_uncons hm;obtain ⟨v6,l1_3,rfl,hm⟩:=hm
 replace hm:=ll_end hm;obtain ⟨rfl,hm⟩:=hm
 replace hm:=inv_toI hm;obtain ⟨x7,rfl,hm⟩:=hm
 replace hm:=inv_toI hm;obtain ⟨x9,rfl,hm⟩:=hm
 replace hm:=inv_toI hm;obtain ⟨x11,rfl,hm⟩:=hm
 replace hm:=inv_toSl hm;obtain ⟨s13,rfl,hm⟩:=hm
 replace hm:=inv_toSl hm;obtain ⟨s15,rfl,hm⟩:=hm
 replace hm:=inv_toSl hm;obtain ⟨s17,rfl,hm⟩:=hm
 replace hm:=inv_toI hm;obtain ⟨x19,rfl,hm⟩:=hm
 unfold m3_ at hm
 refine ⟨by simp,?_⟩
 refine .same (F':=(fr 99 [(0,(.agg ⟨[zI x7,zI x9,zI x11,Sl.v 1 s13]⟩)),(1,Sl.v 1 s15),(2,Sl.v 1 s17),(3,zI x19)])) (H':=(hp 1 [(oT tab0)])) (by kernel_rfl) (by kernel_rfl) ?_
 refine .then (.rK ?_)
 refine .ghs (fr 99 [(1,Sl.v 1 s15),(2,Sl.v 1 s17),(3,zI x19),(4,pt 1 0)]) (hT 2 [(oC [zI x7,zI x9,zI x11,Sl.v 1 s13])]) (.k0 [false] [.tmp 4 false] [1,2,3,4]) ?_
 refine .then ?_
 refine .then ?_
 replace hm:=oo_inv hm;obtain ⟨v25,h26,hm⟩:=hm
 replace hm:=inv_vBool hm;obtain ⟨b27,rfl,hm⟩:=hm
 refine .reg (eC 3 ((oo (pu 9 [(.agg ⟨[zI x7,zI x9,zI x11,Sl.v 1 s13]⟩),Sl.v 1 s15,Sl.v 1 s17]) none fun v=>some (v,(hT 2 [(oC [zI x7,zI x9,zI x11,Sl.v 1 s13])])))) (call_eq h26) (eE)) ?_
 refine .ghs (fr 99 [(1,Sl.v 1 s15),(2,Sl.v 1 s17),(3,zI x19),(4,pt 1 0),(25,zB b27)]) (hT 2 [(oC [zI x7,zI x9,zI x11,Sl.v 1 s13])]) (.k0 [false] [.tmp 4 false] [1,2,3,4,25]) ?_
 replace hm:=bb_cases hm;rcases hm with ⟨h29,hm⟩ | ⟨h29,hm⟩
 ·refine .ifT b27 (by kernel_rfl) h29 ?_
  refine .then ?_
  replace hm:=oo_inv hm;obtain ⟨v34,h35,hm⟩:=hm
  replace hm:=inv_vBool hm;obtain ⟨b36,rfl,hm⟩:=hm
  refine .reg (eD ((oo (pu 10 []) none fun v=>some (v,(hT 2 [(oC [zI x7,zI x9,zI x11,Sl.v 1 s13])])))) (call_eq h35) (eE)) ?_
  refine .ghs (fr 99 [(8,zB b36)]) (hp 1 [(oT tab0)]) (.k0 [false] [] [8]) ?_
  refine .ret ?_
  exact fin_ret (zB b36) (by kernel_rfl) (by kernel_rfl) hm
 ·refine .ifF b27 (by kernel_rfl) h29 ?_
  refine .skip ?_
  refine .ghs (fr 99 [(1,Sl.v 1 s15),(2,Sl.v 1 s17),(3,zI x19),(4,pt 1 0)]) (hT 2 [(oC [zI x7,zI x9,zI x11,Sl.v 1 s13])]) (.k0 [false] [.tmp 4 false] [1,2,3,4]) ?_
  refine .then (.rK ?_)
  refine .ghs (fr 99 [(1,Sl.v 1 s15),(2,Sl.v 1 s17),(3,zI x19),(4,pt 1 0),(9,(pt 2 0))]) (hT 3 [(oC [zI x7,zI x9,zI x11,Sl.v 1 s13]),(oC [zI x7,zI x9,zI x11,Sl.v 1 s13])]) (.k0 [false] [.tmp 4 false,.tmp 9 false] [1,2,3,4,9]) ?_
  refine .then ?_
  replace hm:=oo_inv hm;obtain ⟨v48,h49,hm⟩:=hm
  replace hm:=inv_vTup hm;obtain ⟨l50,rfl,hm⟩:=hm
  replace hm:=ll_uncons hm;obtain ⟨v52,l50_0,rfl,hm⟩:=hm
  replace hm:=ll_uncons hm;obtain ⟨v53,l50_1,rfl,hm⟩:=hm
  replace hm:=ll_end hm;obtain ⟨rfl,hm⟩:=hm
  replace hm:=inv_toSl hm;obtain ⟨s54,rfl,hm⟩:=hm
  replace hm:=inv_toI hm;obtain ⟨x56,rfl,hm⟩:=hm
  refine .reg (eC 3 ((oo (pu 11 [(.agg ⟨[zI x7,zI x9,zI x11,Sl.v 1 s13]⟩),Sl.v 1 s15,zI x19]) none fun v=>some (v,(hT 3 [(oC [zI x7,zI x9,zI x11,Sl.v 1 s13]),(oC [zI x7,zI x9,zI x11,Sl.v 1 s13])])))) (call_eq h49) (eE)) ?_
  refine .ghs (fr 99 [(1,Sl.v 1 s15),(2,Sl.v 1 s17),(3,zI x19),(4,pt 1 0),(9,(pt 2 0)),(10,Sl.v 1 s54),(11,zI x56)]) (hT 3 [(oC [zI x7,zI x9,zI x11,Sl.v 1 s13]),(oC [zI x7,zI x9,zI x11,Sl.v 1 s13])]) (.k0 [false] [.tmp 4 false,.tmp 9 false] [1,2,3,4,9,10,11]) ?_
  refine .then ?_
  replace hm:=oo_inv hm;obtain ⟨v68,h69,hm⟩:=hm
  replace hm:=inv_vTup hm;obtain ⟨l70,rfl,hm⟩:=hm
  replace hm:=ll_uncons hm;obtain ⟨v72,l70_0,rfl,hm⟩:=hm
  replace hm:=ll_uncons hm;obtain ⟨v73,l70_1,rfl,hm⟩:=hm
  replace hm:=ll_end hm;obtain ⟨rfl,hm⟩:=hm
  replace hm:=inv_toSl hm;obtain ⟨s74,rfl,hm⟩:=hm
  replace hm:=inv_toI hm;obtain ⟨x76,rfl,hm⟩:=hm
  refine .reg (eC 3 ((oo (pu 12 [(.agg ⟨[zI x7,zI x9,zI x11,Sl.v 1 s13]⟩),Sl.v 1 s15,zI x19]) none fun v=>some (v,(hT 3 [(oC [zI x7,zI x9,zI x11,Sl.v 1 s13]),(oC [zI x7,zI x9,zI x11,Sl.v 1 s13])])))) (call_eq h69) (eE)) ?_
  refine .ghs (fr 99 [(1,Sl.v 1 s15),(2,Sl.v 1 s17),(4,pt 1 0),(9,(pt 2 0)),(10,Sl.v 1 s54),(11,zI x56),(12,Sl.v 1 s74),(13,zI x76)]) (hT 3 [(oC [zI x7,zI x9,zI x11,Sl.v 1 s13]),(oC [zI x7,zI x9,zI x11,Sl.v 1 s13])]) (.k0 [false] [.tmp 4 false,.tmp 9 false] [1,2,4,9,10,11,12,13]) ?_
  refine .then ?_
  replace hm:=oo_inv hm;obtain ⟨v88,h89,hm⟩:=hm
  replace hm:=inv_vTup hm;obtain ⟨l90,rfl,hm⟩:=hm
  replace hm:=ll_uncons hm;obtain ⟨v92,l90_0,rfl,hm⟩:=hm
  replace hm:=ll_uncons hm;obtain ⟨v93,l90_1,rfl,hm⟩:=hm
  replace hm:=ll_end hm;obtain ⟨rfl,hm⟩:=hm
  replace hm:=inv_toI hm;obtain ⟨x94,rfl,hm⟩:=hm
  replace hm:=inv_toI hm;obtain ⟨x96,rfl,hm⟩:=hm
  refine .reg (eC 3 ((oo (pu 13 [(.agg ⟨[zI x7,zI x9,zI x11,Sl.v 1 s13]⟩),Sl.v 1 s15,Sl.v 1 s17]) none fun v=>some (v,(hT 3 [(oC [zI x7,zI x9,zI x11,Sl.v 1 s13]),(oC [zI x7,zI x9,zI x11,Sl.v 1 s13])])))) (call_eq h89) (eE)) ?_
  refine .ghs (fr 99 [(1,Sl.v 1 s15),(2,Sl.v 1 s17),(4,pt 1 0),(9,(pt 2 0)),(10,Sl.v 1 s54),(11,zI x56),(12,Sl.v 1 s74),(13,zI x76),(14,zI x94),(15,zI x96)]) (hT 3 [(oC [zI x7,zI x9,zI x11,Sl.v 1 s13]),(oC [zI x7,zI x9,zI x11,Sl.v 1 s13])]) (.k0 [false] [.tmp 4 false,.tmp 9 false] [1,2,4,9,10,11,12,13,14,15]) ?_
  refine .then ?_
  replace hm:=oo_inv hm;obtain ⟨v0,h0,hm⟩:=hm
  replace hm:=inv_vTup hm;obtain ⟨l0,rfl,hm⟩:=hm
  replace hm:=ll_uncons hm;obtain ⟨v1,l110_0,rfl,hm⟩:=hm
  replace hm:=ll_uncons hm;obtain ⟨v2,l110_1,rfl,hm⟩:=hm
  replace hm:=ll_end hm;obtain ⟨rfl,hm⟩:=hm
  replace hm:=inv_toI hm;obtain ⟨x0,rfl,hm⟩:=hm
  replace hm:=inv_toI hm;obtain ⟨x1,rfl,hm⟩:=hm
  refine .reg (eC 3 ((oo (pu 14 [(.agg ⟨[zI x7,zI x9,zI x11,Sl.v 1 s13]⟩),Sl.v 1 s15,Sl.v 1 s17]) none fun v=>some (v,(hT 3 [(oC [zI x7,zI x9,zI x11,Sl.v 1 s13]),(oC [zI x7,zI x9,zI x11,Sl.v 1 s13])])))) (call_eq h0) (eE)) ?_
  refine .ghs (fr 99 [(1,Sl.v 1 s15),(4,pt 1 0),(9,(pt 2 0)),(10,Sl.v 1 s54),(11,zI x56),(12,Sl.v 1 s74),(13,zI x76),(14,zI x94),(15,zI x96),(16,zI x0),(17,zI x1)]) (hT 3 [(oC [zI x7,zI x9,zI x11,Sl.v 1 s13]),(oC [zI x7,zI x9,zI x11,Sl.v 1 s13])]) (.k0 [false] [.tmp 4 false,.tmp 9 false] [1,4,9,10,11,12,13,14,15,16,17]) ?_
  refine .then ?_
  replace hm:=oo_inv hm;obtain ⟨v7,h1,hm⟩:=hm
  replace hm:=inv_vTup hm;obtain ⟨l2,rfl,hm⟩:=hm
  replace hm:=ll_uncons hm;obtain ⟨v8,l130_0,rfl,hm⟩:=hm
  replace hm:=ll_uncons hm;obtain ⟨v9,l130_1,rfl,hm⟩:=hm
  replace hm:=ll_end hm;obtain ⟨rfl,hm⟩:=hm
  replace hm:=inv_toSl hm;obtain ⟨s0,rfl,hm⟩:=hm
  replace hm:=inv_toI hm;obtain ⟨x2,rfl,hm⟩:=hm
  refine .reg (eC 2 ((oo (pu 15 [(.agg ⟨[zI x7,zI x9,zI x11,Sl.v 1 s13]⟩),Sl.v 1 s15]) none fun v=>some (v,(hT 3 [(oC [zI x7,zI x9,zI x11,Sl.v 1 s13]),(oC [zI x7,zI x9,zI x11,Sl.v 1 s13])])))) (call_eq h1) (eE)) ?_
  refine .ghs (fr 99 [(1,Sl.v 1 s15),(9,pt 1 0),(10,Sl.v 1 s54),(11,zI x56),(12,Sl.v 1 s74),(13,zI x76),(14,zI x94),(15,zI x96),(16,zI x0),(17,zI x1),(18,Sl.v 1 s0),(19,zI x2)]) (hT 2 [(oC [zI x7,zI x9,zI x11,Sl.v 1 s13])]) (.k0 [false] [.tmp 9 false] [1,9,10,11,12,13,14,15,16,17,18,19]) ?_
  refine .then ?_
  replace hm:=oo_inv hm;obtain ⟨v10,h2,hm⟩:=hm
  replace hm:=inv_vTup hm;obtain ⟨l3,rfl,hm⟩:=hm
  replace hm:=ll_uncons hm;obtain ⟨v11,l150_0,rfl,hm⟩:=hm
  replace hm:=ll_uncons hm;obtain ⟨v12,l150_1,rfl,hm⟩:=hm
  replace hm:=ll_end hm;obtain ⟨rfl,hm⟩:=hm
  replace hm:=inv_toSl hm;obtain ⟨s1,rfl,hm⟩:=hm
  replace hm:=inv_toI hm;obtain ⟨x3,rfl,hm⟩:=hm
  refine .reg (eC 2 ((oo (pu 16 [(.agg ⟨[zI x7,zI x9,zI x11,Sl.v 1 s13]⟩),Sl.v 1 s15]) none fun v=>some (v,(hT 2 [(oC [zI x7,zI x9,zI x11,Sl.v 1 s13])])))) (call_eq h2) (eE)) ?_
  refine .ghs (fr 99 [(10,Sl.v 1 s54),(11,zI x56),(12,Sl.v 1 s74),(13,zI x76),(14,zI x94),(15,zI x96),(16,zI x0),(17,zI x1),(18,Sl.v 1 s0),(19,zI x2),(20,Sl.v 1 s1),(21,zI x3)]) (hp 1 [(oT tab0)]) (.k0 [false] [] [10,11,12,13,14,15,16,17,18,19,20,21]) ?_
  refine .join (v:=v) (fun y:Bool=>((fr 99 [(8,zB y)]),(hp 1 [(oT tab0)]))) (fun y=>m3_0 pu n y) ?_ ?_
  ·rintro b0 hm
   exact w3_0 pu n b0 hm
  ·replace hm := oo_inv hm; obtain ⟨v13, h3, hm⟩ := hm
   replace hm:=inv_vBool hm;obtain ⟨b1,rfl,hm⟩:=hm
   replace hm:=bb_cases hm;rcases hm with ⟨h4,hm⟩ | ⟨h4,hm⟩
   ·replace hm := bb_cases hm; rcases hm with ⟨h5, hm⟩ | ⟨h5, hm⟩
    ·replace hm := bb_cases hm; rcases hm with ⟨h6, hm⟩ | ⟨h6, hm⟩
     ·replace hm := bb_cases hm; rcases hm with ⟨h7, hm⟩ | ⟨h7, hm⟩
      ·replace hm := oo_inv hm; obtain ⟨v14, h8, hm⟩ := hm
       replace hm:=inv_vBool hm;obtain ⟨b2,rfl,hm⟩:=hm
       replace hm:=bb_cases hm;rcases hm with ⟨h9,hm⟩ | ⟨h9,hm⟩
       ·replace hm := bb_cases hm; rcases hm with ⟨h10, hm⟩ | ⟨h10, hm⟩
        ·replace hm := oo_inv hm; obtain ⟨v15, h11, hm⟩ := hm
         replace hm:=inv_vBool hm;obtain ⟨b4,rfl,hm⟩:=hm
         refine .reg (eN 12 (Fr.puts (fr 99 [(10,Sl.v 1 s54),(11,zI x56),(12,Sl.v 1 s74),(13,zI x76),(14,zI x94),(15,zI x96),(16,zI x0),(17,zI x1),(18,Sl.v 1 s0),(19,zI x2),(20,Sl.v 1 s1),(21,zI x3)]) [(68,Sl.v 1 s54),(69,Sl.v 1 s74),(70,zB true),(71,zB true),(72,zI x56),(73,zI x76),(74,zB true),(75,zB true),(76,zB true),(77,zI x94),(78,zI x0),(79,zB true)]) (hp 1 [(oT tab0)]) (eC 2 ((oo (pu 17 [Sl.v 1 s54,Sl.v 1 s74]) none fun v=>some (v,(hp 1 [(oT tab0)])))) (show _ = some ((zB true),_) from (by have hz:(oo (pu 17 [Sl.v 1 s54,Sl.v 1 s74]) none fun v=>some (v,(hp 1 [(oT tab0)]))) = some ((zB b1),(hp 1 [(oT tab0)])):=(call_eq h3);rw [h4] at hz;exact hz)) (eC 3 (some ((zB (ieq x56 x76)),(hp 1 [(oT tab0)]))) (show _ = some ((zB true),_) from (by rw [show (ieq x56 x76) = true from h5])) (eC 4 (some ((zB (ieq x94 x0)),(hp 1 [(oT tab0)]))) (show _ = some ((zB true),_) from (by rw [show (ieq x94 x0) = true from h6])) (by kernel_rfl)))) (eC 4 (some ((zB (ieq x96 x1)),(hp 1 [(oT tab0)]))) (show _ = some ((zB true),_) from (by rw [show (ieq x96 x1) = true from h7])) (eC 4 ((oo (pu 17 [Sl.v 1 s0,Sl.v 1 s1]) none fun v=>some (v,(hp 1 [(oT tab0)])))) (show _ = some ((zB true),_) from (by have hz:(oo (pu 17 [Sl.v 1 s0,Sl.v 1 s1]) none fun v=>some (v,(hp 1 [(oT tab0)]))) = some ((zB b2),(hp 1 [(oT tab0)])):=(call_eq h8);rw [h9] at hz;exact hz)) (eC 4 (some ((zB (ieq x2 x3)),(hp 1 [(oT tab0)]))) (show _ = some ((zB true),_) from (by rw [show (ieq x2 x3) = true from h10])) (eC 2 ((oo (pu 10 []) none fun v=>some (v,(hp 1 [(oT tab0)])))) (call_eq h11) (eE)))))) ?_
         exact ⟨b4,hm,(.k0 [false] [] [8])⟩
        ·refine .reg (eN 12 (Fr.puts (fr 99 [(10, Sl.v 1 s54), (11, zI x56), (12, Sl.v 1 s74), (13, zI x76), (14, zI x94), (15, zI x96), (16, zI x0), (17, zI x1), (18, Sl.v 1 s0), (19, zI x2), (20, Sl.v 1 s1), (21, zI x3)]) [(68, Sl.v 1 s54), (69, Sl.v 1 s74), (70, zB true), (71, zB true), (72, zI x56), (73, zI x76), (74, zB true), (75, zB true), (76, zB true), (77, zI x94), (78, zI x0), (79, zB true)]) (hp 1 [(oT tab0)]) (eC 2 ((oo (pu 17 [Sl.v 1 s54, Sl.v 1 s74]) none fun v => some (v, (hp 1 [(oT tab0)])))) (show _ = some ((zB true), _) from (by have hz : (oo (pu 17 [Sl.v 1 s54, Sl.v 1 s74]) none fun v => some (v, (hp 1 [(oT tab0)]))) = some ((zB b1), (hp 1 [(oT tab0)])) := (call_eq h3); rw [h4] at hz; exact hz)) (eC 3 (some ((zB (ieq x56 x76)), (hp 1 [(oT tab0)]))) (show _ = some ((zB true), _) from (by rw [show (ieq x56 x76) = true from h5])) (eC 4 (some ((zB (ieq x94 x0)), (hp 1 [(oT tab0)]))) (show _ = some ((zB true), _) from (by rw [show (ieq x94 x0) = true from h6])) (by kernel_rfl)))) (eC 4 (some ((zB (ieq x96 x1)), (hp 1 [(oT tab0)]))) (show _ = some ((zB true), _) from (by rw [show (ieq x96 x1) = true from h7])) (eC 4 ((oo (pu 17 [Sl.v 1 s0, Sl.v 1 s1]) none fun v => some (v, (hp 1 [(oT tab0)])))) (show _ = some ((zB true), _) from (by have hz : (oo (pu 17 [Sl.v 1 s0, Sl.v 1 s1]) none fun v => some (v, (hp 1 [(oT tab0)]))) = some ((zB b2), (hp 1 [(oT tab0)])) := (call_eq h8); rw [h9] at hz; exact hz)) (eC 4 (some ((zB (ieq x2 x3)), (hp 1 [(oT tab0)]))) (show _ = some ((zB false), _) from (by rw [show (ieq x2 x3) = false from h10])) (eE))))) ?_
         exact ⟨false,hm,(.k0 [false] [] [8])⟩
       ·refine .reg (eC 2 ((oo (pu 17 [Sl.v 1 s54, Sl.v 1 s74]) none fun v => some (v, (hp 1 [(oT tab0)])))) (show _ = some ((zB true), _) from (by have hz : (oo (pu 17 [Sl.v 1 s54, Sl.v 1 s74]) none fun v => some (v, (hp 1 [(oT tab0)]))) = some ((zB b1), (hp 1 [(oT tab0)])) := (call_eq h3); rw [h4] at hz; exact hz)) (eC 3 (some ((zB (ieq x56 x76)), (hp 1 [(oT tab0)]))) (show _ = some ((zB true), _) from (by rw [show (ieq x56 x76) = true from h5])) (eC 4 (some ((zB (ieq x94 x0)), (hp 1 [(oT tab0)]))) (show _ = some ((zB true), _) from (by rw [show (ieq x94 x0) = true from h6])) (eC 4 (some ((zB (ieq x96 x1)), (hp 1 [(oT tab0)]))) (show _ = some ((zB true), _) from (by rw [show (ieq x96 x1) = true from h7])) (eC 4 ((oo (pu 17 [Sl.v 1 s0, Sl.v 1 s1]) none fun v => some (v, (hp 1 [(oT tab0)])))) (show _ = some ((zB false), _) from (by have hz : (oo (pu 17 [Sl.v 1 s0, Sl.v 1 s1]) none fun v => some (v, (hp 1 [(oT tab0)]))) = some ((zB b2), (hp 1 [(oT tab0)])) := (call_eq h8); rw [h9] at hz; exact hz)) (eE)))))) ?_
        exact ⟨false,hm,(.k0 [false] [] [8])⟩
      ·refine .reg (eC 2 ((oo (pu 17 [Sl.v 1 s54, Sl.v 1 s74]) none fun v => some (v, (hp 1 [(oT tab0)])))) (show _ = some ((zB true), _) from (by have hz : (oo (pu 17 [Sl.v 1 s54, Sl.v 1 s74]) none fun v => some (v, (hp 1 [(oT tab0)]))) = some ((zB b1), (hp 1 [(oT tab0)])) := (call_eq h3); rw [h4] at hz; exact hz)) (eC 3 (some ((zB (ieq x56 x76)), (hp 1 [(oT tab0)]))) (show _ = some ((zB true), _) from (by rw [show (ieq x56 x76) = true from h5])) (eC 4 (some ((zB (ieq x94 x0)), (hp 1 [(oT tab0)]))) (show _ = some ((zB true), _) from (by rw [show (ieq x94 x0) = true from h6])) (eC 4 (some ((zB (ieq x96 x1)), (hp 1 [(oT tab0)]))) (show _ = some ((zB false), _) from (by rw [show (ieq x96 x1) = false from h7])) (eE))))) ?_
       exact ⟨false,hm,(.k0 [false] [] [8])⟩
     ·refine .reg (eC 2 ((oo (pu 17 [Sl.v 1 s54, Sl.v 1 s74]) none fun v => some (v, (hp 1 [(oT tab0)])))) (show _ = some ((zB true), _) from (by have hz : (oo (pu 17 [Sl.v 1 s54, Sl.v 1 s74]) none fun v => some (v, (hp 1 [(oT tab0)]))) = some ((zB b1), (hp 1 [(oT tab0)])) := (call_eq h3); rw [h4] at hz; exact hz)) (eC 3 (some ((zB (ieq x56 x76)), (hp 1 [(oT tab0)]))) (show _ = some ((zB true), _) from (by rw [show (ieq x56 x76) = true from h5])) (eC 4 (some ((zB (ieq x94 x0)), (hp 1 [(oT tab0)]))) (show _ = some ((zB false), _) from (by rw [show (ieq x94 x0) = false from h6])) (eE)))) ?_
      exact ⟨false,hm,(.k0 [false] [] [8])⟩
    ·refine .reg (eC 2 ((oo (pu 17 [Sl.v 1 s54, Sl.v 1 s74]) none fun v => some (v, (hp 1 [(oT tab0)])))) (show _ = some ((zB true), _) from (by have hz : (oo (pu 17 [Sl.v 1 s54, Sl.v 1 s74]) none fun v => some (v, (hp 1 [(oT tab0)]))) = some ((zB b1), (hp 1 [(oT tab0)])) := (call_eq h3); rw [h4] at hz; exact hz)) (eC 3 (some ((zB (ieq x56 x76)), (hp 1 [(oT tab0)]))) (show _ = some ((zB false), _) from (by rw [show (ieq x56 x76) = false from h5])) (eE))) ?_
     exact ⟨false,hm,(.k0 [false] [] [8])⟩
   ·refine .reg (eC 2 ((oo (pu 17 [Sl.v 1 s54, Sl.v 1 s74]) none fun v => some (v, (hp 1 [(oT tab0)])))) (show _ = some ((zB false), _) from (by have hz : (oo (pu 17 [Sl.v 1 s54, Sl.v 1 s74]) none fun v => some (v, (hp 1 [(oT tab0)]))) = some ((zB b1), (hp 1 [(oT tab0)])) := (call_eq h3); rw [h4] at hz; exact hz)) (eE)) ?_
    exact ⟨false,hm,(.k0 [false] [] [8])⟩
def m9_0 (pu:PureF) (n:Nat) (b0:Bool):OV:=
 (some (.bool b0))
def m9_ (pu:PureF) (n:Nat) (x0 x1 x2:Int) (s0 s1 s2:Sl):OV:=
 (bb (ilt (30:Int) (Int.ofNat (Sl.n s0))) (m9_0 pu n true) (bb (ilt (60:Int) (Int.ofNat (Sl.n s1))) (m9_0 pu n true) (m9_0 pu n (ilt (60:Int) (Int.ofNat (Sl.n s2))))))
def m9 (pu:PureF) (n:Nat) (args:LV):OV:=
 (ll args none fun a0 args=>(ll args none fun a1 args=>(ll args none fun a2 args=>(ll args (oo (vAgg a0) none fun l0=>(ll l0 none fun v0 l0=>(ll l0 none fun v1 l0=>(ll l0 none fun v2 l0=>(ll l0 none fun v3 l0=>(ll l0 (oo (toI .i64 v0) none fun x0=>(oo (toI .i64 v1) none fun x1=>(oo (toI .i64 v2) none fun x2=>(oo (toSl 1 v3) none fun s0=>(oo (toSl 1 a1) none fun s1=>(oo (toSl 1 a2) none fun s2=>(m9_ pu n x0 x1 x2 s0 s1 s2))))))) fun _ _=>none)))))) fun _ _=>none))))
theorem w9_0 (pu:PureF) (n:Nat) (b0:Bool) {v:Value} (hm:m9_0 pu n b0 = some v):Run tt (callP tabs isP pu (inl pu)) 1 .ret (fr 21 [(6,zB b0)]) (hp 1 [(oT tab0)]) (Fin tt 1 [.tmp 6] v):=by
 unfold m9_0 at hm
 refine .ret ?_
 exact fin_ret (zB b0) (by kernel_rfl) (by kernel_rfl) hm
theorem r9 {call:CallF} (pu:PureF) (n:Nat) (hcall:call = callP tabs isP pu (inl pu)) {args:LV} {v:Value} (hm:m9 pu n args = some v) (_:∀ x ∈ args,closed2 x = true):args.length≤21∧Run tt call 1 c9_3 (Fr.made 21 args) (pureHeap tabs) (Fin tt 1 [.tmp 6] v):=by
 subst hcall
 unfold m9 at hm
 replace hm:=ll_uncons hm;obtain ⟨a0,args_0,rfl,hm⟩:=hm
 replace hm:=ll_uncons hm;obtain ⟨a1,args_1,rfl,hm⟩:=hm
 replace hm:=ll_uncons hm;obtain ⟨a2,args_2,rfl,hm⟩:=hm
 replace hm:=ll_end hm;obtain ⟨rfl,hm⟩:=hm
 replace hm:=inv_vAgg hm;obtain ⟨l0,rfl,hm⟩:=hm
 replace hm:=ll_uncons hm;obtain ⟨v0,l267_0,rfl,hm⟩:=hm
 replace hm:=ll_uncons hm;obtain ⟨v1,l267_1,rfl,hm⟩:=hm
 replace hm:=ll_uncons hm;obtain ⟨v2,l267_2,rfl,hm⟩:=hm
 replace hm:=ll_uncons hm;obtain ⟨v3,l267_3,rfl,hm⟩:=hm
 replace hm:=ll_end hm;obtain ⟨rfl,hm⟩:=hm
 replace hm:=inv_toI hm;obtain ⟨x0,rfl,hm⟩:=hm
 replace hm:=inv_toI hm;obtain ⟨x1,rfl,hm⟩:=hm
 replace hm:=inv_toI hm;obtain ⟨x2,rfl,hm⟩:=hm
 replace hm:=inv_toSl hm;obtain ⟨s0,rfl,hm⟩:=hm
 replace hm:=inv_toSl hm;obtain ⟨s1,rfl,hm⟩:=hm
 replace hm:=inv_toSl hm;obtain ⟨s2,rfl,hm⟩:=hm
 unfold m9_ at hm
 refine ⟨by simp,?_⟩
 refine .same (F':=(fr 21 [(0,(.agg ⟨[zI x0,zI x1,zI x2,Sl.v 1 s0]⟩)),(1,Sl.v 1 s1),(2,Sl.v 1 s2)])) (H':=(hp 1 [(oT tab0)])) (by kernel_rfl) (by kernel_rfl) ?_
 refine .then (.rK ?_)
 refine .ghs (fr 21 [(1,Sl.v 1 s1),(2,Sl.v 1 s2),(3,pt 1 0)]) (hT 2 [(oC [zI x0,zI x1,zI x2,Sl.v 1 s0])]) (.k0 [false] [.tmp 3 false] [1,2,3]) ?_
 refine .join (v:=v) (fun y:Bool=>((fr 21 [(6,zB y)]),(hp 1 [(oT tab0)]))) (fun y=>m9_0 pu n y) ?_ ?_
 ·rintro b0 hm
  exact w9_0 pu n b0 hm
 ·replace hm := bb_cases hm; rcases hm with ⟨h0, hm⟩ | ⟨h0, hm⟩
  ·refine .reg (eC 3 (some ((zB (ilt (30 : Int) (Int.ofNat (Sl.n s0)))), (hT 2 [(oC [zI x0, zI x1, zI x2, Sl.v 1 s0])]))) (show _ = some ((zB true), _) from (by rw [show (ilt (30 : Int) (Int.ofNat (Sl.n s0))) = true from h0])) (eE)) ?_
   exact ⟨true,hm,(.k0 [false] [] [6])⟩
  ·replace hm := bb_cases hm; rcases hm with ⟨h1, hm⟩ | ⟨h1, hm⟩
   ·refine .reg (eC 3 (some ((zB (ilt (30 : Int) (Int.ofNat (Sl.n s0)))), (hT 2 [(oC [zI x0, zI x1, zI x2, Sl.v 1 s0])]))) (show _ = some ((zB false), _) from (by rw [show (ilt (30 : Int) (Int.ofNat (Sl.n s0))) = false from h0])) (eC 3 (some ((zB (ilt (60 : Int) (Int.ofNat (Sl.n s1)))), (hT 2 [(oC [zI x0, zI x1, zI x2, Sl.v 1 s0])]))) (show _ = some ((zB true), _) from (by rw [show (ilt (60 : Int) (Int.ofNat (Sl.n s1))) = true from h1])) (eE))) ?_
    exact ⟨true,hm,(.k0 [false] [] [6])⟩
   ·refine .reg (eC 3 (some ((zB (ilt (30 : Int) (Int.ofNat (Sl.n s0)))), (hT 2 [(oC [zI x0, zI x1, zI x2, Sl.v 1 s0])]))) (show _ = some ((zB false), _) from (by rw [show (ilt (30 : Int) (Int.ofNat (Sl.n s0))) = false from h0])) (eC 3 (some ((zB (ilt (60 : Int) (Int.ofNat (Sl.n s1)))), (hT 2 [(oC [zI x0, zI x1, zI x2, Sl.v 1 s0])]))) (show _ = some ((zB false), _) from (by rw [show (ilt (60 : Int) (Int.ofNat (Sl.n s1))) = false from h1])) (eE))) ?_
    exact ⟨(ilt (60:Int) (Int.ofNat (Sl.n s2))),hm,(.k0 [false] [] [6])⟩

def m11_ (pu:PureF) (n:Nat) (x0 x1 x2:Int) (s0 s1:Sl) (x3:Int):OV:=
 (oo (pu 43 [(.agg ⟨[.int .i64 x0,.int .i64 x1,.int .i64 x2,Sl.v 1 s0]⟩),(Sl.v 1 (Sl.mk 1 0 (takeL (1 * 1) (dropL 0 ([Sl.v 1 s1]:LV)))))]) none fun v0=>(oo (vTup v0) none fun l0=>(ll l0 none fun v1 l0=>(ll l0 none fun v2 l0=>(ll l0 (bb (isS (vFp v1)) (oo (vFp v1) none fun p0=>(oo (toI .i64 v2) none fun x4=>(bb (nt (ieq x4 (0:Int))) (some (.tuple ⟨[(Sl.v 1 (Sl.mk 0 2 [])),.int .i64 x4]⟩)) (oo (nthL (FpV.cs p0) (((FpV.off p0) + 0) + 3)) none fun v3=>(oo (toSl 1 v3) none fun s2=>(oo (pu 44 [Sl.v 1 s2,.int .i64 x3]) none fun v4=>(oo (toI .i64 v4) none fun x5=>(bb (ilt x5 (0:Int)) (some (.tuple ⟨[(Sl.v 1 (Sl.mk 0 2 [])),(.int .i64 (2:Int))]⟩)) (oo (pu 45 [(fpV (FpV.off p0) (FpV.cs p0)),Sl.v 1 s1,.int .i64 x5]) none fun v5=>(oo (toSl 1 v5) none fun s3=>(some (.tuple ⟨[Sl.v 1 s3,(.int .i64 (0:Int))]⟩)))))))))))) (bb (isP0 v1) (oo (toI .i64 v2) none fun x6=>(bb (nt (ieq x6 (0:Int))) (some (.tuple ⟨[(Sl.v 1 (Sl.mk 0 2 [])),.int .i64 x6]⟩)) none)) none)) fun _ _=>none)))))
def m11 (pu:PureF) (n:Nat) (args:LV):OV:=
 (ll args none fun a0 args=>(ll args none fun a1 args=>(ll args none fun a2 args=>(ll args (oo (vAgg a0) none fun l0=>(ll l0 none fun v0 l0=>(ll l0 none fun v1 l0=>(ll l0 none fun v2 l0=>(ll l0 none fun v3 l0=>(ll l0 (oo (toI .i64 v0) none fun x0=>(oo (toI .i64 v1) none fun x1=>(oo (toI .i64 v2) none fun x2=>(oo (toSl 1 v3) none fun s0=>(oo (toSl 1 a1) none fun s1=>(oo (toI .i64 a2) none fun x3=>(m11_ pu n x0 x1 x2 s0 s1 x3))))))) fun _ _=>none)))))) fun _ _=>none))))
theorem r11 {call:CallF} (pu:PureF) (n:Nat) (hcall:call = callP tabs isP pu (inl pu)) {args:LV} {v:Value} (hm:m11 pu n args = some v) (_:∀ x ∈ args,closed2 x = true):args.length≤34∧Run tt call 1 c11_19 (Fr.made 34 args) (pureHeap tabs) (Fin tt 1 [.tmp 6,.tmp 7] v):=by
 subst hcall
 unfold m11 at hm
 replace hm:=ll_uncons hm;obtain ⟨a0,args_0,rfl,hm⟩:=hm
 replace hm:=ll_uncons hm;obtain ⟨a1,args_1,rfl,hm⟩:=hm
 replace hm:=ll_uncons hm;obtain ⟨a2,args_2,rfl,hm⟩:=hm
 replace hm:=ll_end hm;obtain ⟨rfl,hm⟩:=hm
 replace hm:=inv_vAgg hm;obtain ⟨l0,rfl,hm⟩:=hm
 replace hm:=ll_uncons hm;obtain ⟨v0,l298_0,rfl,hm⟩:=hm
 replace hm:=ll_uncons hm;obtain ⟨v1,l298_1,rfl,hm⟩:=hm
 replace hm:=ll_uncons hm;obtain ⟨v2,l298_2,rfl,hm⟩:=hm
 replace hm:=ll_uncons hm;obtain ⟨v3,l298_3,rfl,hm⟩:=hm
 replace hm:=ll_end hm;obtain ⟨rfl,hm⟩:=hm
 replace hm:=inv_toI hm;obtain ⟨x0,rfl,hm⟩:=hm
 replace hm:=inv_toI hm;obtain ⟨x1,rfl,hm⟩:=hm
 replace hm:=inv_toI hm;obtain ⟨x2,rfl,hm⟩:=hm
 replace hm:=inv_toSl hm;obtain ⟨s0,rfl,hm⟩:=hm
 replace hm:=inv_toSl hm;obtain ⟨s1,rfl,hm⟩:=hm
 replace hm:=inv_toI hm;obtain ⟨x3,rfl,hm⟩:=hm
 unfold m11_ at hm
 refine ⟨by simp,?_⟩
 refine .same (F':=(fr 34 [(0,(.agg ⟨[zI x0,zI x1,zI x2,Sl.v 1 s0]⟩)),(1,Sl.v 1 s1),(2,zI x3)])) (H':=(hp 1 [(oT tab0)])) (by kernel_rfl) (by kernel_rfl) ?_
 refine .then (.rK ?_)
 refine .ghs (fr 34 [(1,Sl.v 1 s1),(2,zI x3),(3,pt 1 0)]) (hT 2 [(oC [zI x0,zI x1,zI x2,Sl.v 1 s0])]) (.k0 [false] [.tmp 3 false] [1,2,3]) ?_
 refine .then ?_
 replace hm:=oo_inv hm;obtain ⟨v4,h0,hm⟩:=hm
 replace hm:=inv_vTup hm;obtain ⟨l1,rfl,hm⟩:=hm
 replace hm:=ll_uncons hm;obtain ⟨v5,l329_0,rfl,hm⟩:=hm
 replace hm:=ll_uncons hm;obtain ⟨v6,l329_1,rfl,hm⟩:=hm
 replace hm:=ll_end hm;obtain ⟨rfl,hm⟩:=hm
 replace hm:=bb_cases hm;rcases hm with ⟨h1,hm⟩ | ⟨h1,hm⟩
 ·replace hm := oo_inv hm; obtain ⟨p0, h2, hm⟩ := hm
  obtain rfl:=vFp_some h2
  replace hm:=inv_toI hm;obtain ⟨x4,rfl,hm⟩:=hm
  refine .reg (eC 3 (giveF tabs 1 (pu 43) [(.agg ⟨[zI x0,zI x1,zI x2,Sl.v 1 s0]⟩),sc 2 0 1 1 3] (hT 3 [(oC [zI x0,zI x1,zI x2,Sl.v 1 s0]),(oC [Sl.v 1 s1])])) (giveF_eq (giveL_cons (giveV_cl (z:=1) (v:=(.agg ⟨[zI x0,zI x1,zI x2,Sl.v 1 s0]⟩)) (H:=(hT 3 [(oC [zI x0,zI x1,zI x2,Sl.v 1 s0]),(oC [Sl.v 1 s1])])) (by kernel_rfl) (by kernel_rfl) (by kernel_rfl)) (giveL_cons (show giveV 1 (sc 2 0 1 1 3) (hT 3 [(oC [zI x0,zI x1,zI x2,Sl.v 1 s0]),(oC [Sl.v 1 s1])]) = some ((Sl.v 1 (Sl.mk 1 0 (takeL (1 * 1) (dropL 0 ([Sl.v 1 s1]:LV))))),(hT 3 [(oC [zI x0,zI x1,zI x2,Sl.v 1 s0]),.dead])) from giveV_sl 2 0 1 1 3 ([Sl.v 1 s1]:LV) [] (by kernel_rfl) (by kernel_rfl) (by kernel_rfl)) giveL_nil)) (by kernel_rfl) h0) (eE)) ?_
  refine .ghs (fr 34 [(1,Sl.v 1 s1),(2,zI x3),(8,(fpV (FpV.off p0) (FpV.cs p0))),(9,zI x4)]) (hp 1 [(oT tab0)]) (.k0 [false] [] [1,2,8,9]) ?_
  refine .then ?_
  refine .then (.rK ?_)
  refine .ghs (fr 34 [(1,Sl.v 1 s1),(2,zI x3),(8,(fpV (FpV.off p0) (FpV.cs p0))),(9,zI x4),(19,(zB (nt (ieq x4 (0:Int)))))]) (hp 1 [(oT tab0)]) (.k0 [false] [] [1,2,8,9,19]) ?_
  replace hm:=bb_cases hm;rcases hm with ⟨h3,hm⟩ | ⟨h3,hm⟩
  ·refine .ifT (nt (ieq x4 (0 : Int))) (by kernel_rfl) h3 ?_
   refine .then (.rK ?_)
   refine .ghs (fr 34 [(6,(.slice none 0 0)),(7,zI x4)]) (hp 1 [(oT tab0)]) (.k0 [false] [] [6,7]) ?_
   refine .ghs (Fr.puts (fr 34 [(6,(.slice none 0 0)),(7,zI x4)]) [(6,(Sl.v 1 (Sl.mk 0 2 [])))]) (hp 1 [(oT tab0)]) (.freeze 1 6 1 (by kernel_rfl) (by kernel_rfl) (GhS.id _ _)) ?_
   refine .ret ?_
   exact fin_ret (.tuple ⟨[(Sl.v 1 (Sl.mk 0 2 [])),zI x4]⟩) (by kernel_rfl) (by kernel_rfl) hm
  ·refine .ifF (nt (ieq x4 (0 : Int))) (by kernel_rfl) h3 ?_
   refine .skip ?_
   refine .ghs (fr 34 [(1,Sl.v 1 s1),(2,zI x3),(8,(fpV (FpV.off p0) (FpV.cs p0)))]) (hp 1 [(oT tab0)]) (.k0 [false] [] [1,2,8]) ?_
   refine .then ?_
   replace hm:=oo_inv hm;obtain ⟨v7,h4,hm⟩:=hm
   replace hm:=inv_toSl hm;obtain ⟨s2,rfl,hm⟩:=hm
   replace hm:=oo_inv hm;obtain ⟨v8,h5,hm⟩:=hm
   replace hm:=inv_toI hm;obtain ⟨x5,rfl,hm⟩:=hm
   refine .reg (eC 4 (keep (hp 1 [(oT tab0)]) (nthL (FpV.cs p0) (((FpV.off p0) + 0) + 3))) (keep_eq h4) (eC 1 ((oo (pu 44 [Sl.v 1 s2,zI x3]) none fun v=>some (v,(hp 1 [(oT tab0)])))) (call_eq h5) (eE))) ?_
   refine .ghs (fr 34 [(1,Sl.v 1 s1),(8,(fpV (FpV.off p0) (FpV.cs p0))),(10,zI x5)]) (hp 1 [(oT tab0)]) (.k0 [false] [] [1,8,10]) ?_
   refine .then ?_
   refine .then (.rK ?_)
   refine .ghs (fr 34 [(1,Sl.v 1 s1),(8,(fpV (FpV.off p0) (FpV.cs p0))),(10,zI x5),(29,(zB (ilt x5 (0:Int))))]) (hp 1 [(oT tab0)]) (.k0 [false] [] [1,8,10,29]) ?_
   replace hm:=bb_cases hm;rcases hm with ⟨h6,hm⟩ | ⟨h6,hm⟩
   ·refine .ifT (ilt x5 (0 : Int)) (by kernel_rfl) h6 ?_
    refine .then (.rK ?_)
    refine .ghs (fr 34 [(6,(.slice none 0 0)),(7,(zI (2:Int)))]) (hp 1 [(oT tab0)]) (.k0 [false] [] [6,7]) ?_
    refine .ghs (Fr.puts (fr 34 [(6,(.slice none 0 0)),(7,(zI (2:Int)))]) [(6,(Sl.v 1 (Sl.mk 0 2 [])))]) (hp 1 [(oT tab0)]) (.freeze 1 6 1 (by kernel_rfl) (by kernel_rfl) (GhS.id _ _)) ?_
    refine .ret ?_
    exact fin_ret (.tuple ⟨[(Sl.v 1 (Sl.mk 0 2 [])),(zI (2:Int))]⟩) (by kernel_rfl) (by kernel_rfl) hm
   ·refine .ifF (ilt x5 (0 : Int)) (by kernel_rfl) h6 ?_
    refine .skip ?_
    refine .ghs (fr 34 [(1,Sl.v 1 s1),(8,(fpV (FpV.off p0) (FpV.cs p0))),(10,zI x5)]) (hp 1 [(oT tab0)]) (.k0 [false] [] [1,8,10]) ?_
    refine .then ?_
    replace hm:=oo_inv hm;obtain ⟨v9,h7,hm⟩:=hm
    replace hm:=inv_toSl hm;obtain ⟨s3,rfl,hm⟩:=hm
    refine .reg (eC 3 ((oo (pu 45 [(fpV (FpV.off p0) (FpV.cs p0)),Sl.v 1 s1,zI x5]) none fun v=>some (v,(hp 1 [(oT tab0)])))) (call_eq h7) (eE)) ?_
    refine .ghs (fr 34 [(6,Sl.v 1 s3),(7,(zI (0:Int)))]) (hp 1 [(oT tab0)]) (.k0 [false] [] [6,7]) ?_
    refine .ret ?_
    exact fin_ret (.tuple ⟨[Sl.v 1 s3,(zI (0:Int))]⟩) (by kernel_rfl) (by kernel_rfl) hm
 ·replace hm := bb_inv hm; obtain ⟨h8, hm⟩ := hm
  obtain rfl:=isP0_ok h8
  replace hm:=inv_toI hm;obtain ⟨x6,rfl,hm⟩:=hm
  refine .reg (eC 3 (giveF tabs 1 (pu 43) [(.agg ⟨[zI x0,zI x1,zI x2,Sl.v 1 s0]⟩),sc 2 0 1 1 3] (hT 3 [(oC [zI x0,zI x1,zI x2,Sl.v 1 s0]),(oC [Sl.v 1 s1])])) (giveF_eq (giveL_cons (giveV_cl (z:=1) (v:=(.agg ⟨[zI x0,zI x1,zI x2,Sl.v 1 s0]⟩)) (H:=(hT 3 [(oC [zI x0,zI x1,zI x2,Sl.v 1 s0]),(oC [Sl.v 1 s1])])) (by kernel_rfl) (by kernel_rfl) (by kernel_rfl)) (giveL_cons (show giveV 1 (sc 2 0 1 1 3) (hT 3 [(oC [zI x0,zI x1,zI x2,Sl.v 1 s0]),(oC [Sl.v 1 s1])]) = some ((Sl.v 1 (Sl.mk 1 0 (takeL (1 * 1) (dropL 0 ([Sl.v 1 s1]:LV))))),(hT 3 [(oC [zI x0,zI x1,zI x2,Sl.v 1 s0]),.dead])) from giveV_sl 2 0 1 1 3 ([Sl.v 1 s1]:LV) [] (by kernel_rfl) (by kernel_rfl) (by kernel_rfl)) giveL_nil)) (by kernel_rfl) h0) (eE)) ?_
  refine .ghs (fr 34 [(1,Sl.v 1 s1),(2,zI x3),(8,(.pointer none)),(9,zI x6)]) (hp 1 [(oT tab0)]) (.k0 [false] [] [1,2,8,9]) ?_
  refine .then ?_
  refine .then (.rK ?_)
  refine .ghs (fr 34 [(1,Sl.v 1 s1),(2,zI x3),(8,(.pointer none)),(9,zI x6),(19,(zB (nt (ieq x6 (0:Int)))))]) (hp 1 [(oT tab0)]) (.k0 [false] [] [1,2,8,9,19]) ?_
  replace hm:=bb_cases hm;rcases hm with ⟨h9,hm⟩ | ⟨h9,hm⟩
  ·refine .ifT (nt (ieq x6 (0 : Int))) (by kernel_rfl) h9 ?_
   refine .then (.rK ?_)
   refine .ghs (fr 34 [(6,(.slice none 0 0)),(7,zI x6)]) (hp 1 [(oT tab0)]) (.k0 [false] [] [6,7]) ?_
   refine .ghs (Fr.puts (fr 34 [(6,(.slice none 0 0)),(7,zI x6)]) [(6,(Sl.v 1 (Sl.mk 0 2 [])))]) (hp 1 [(oT tab0)]) (.freeze 1 6 1 (by kernel_rfl) (by kernel_rfl) (GhS.id _ _)) ?_
   refine .ret ?_
   exact fin_ret (.tuple ⟨[(Sl.v 1 (Sl.mk 0 2 [])),zI x6]⟩) (by kernel_rfl) (by kernel_rfl) hm
  ·refine .ifF (nt (ieq x6 (0 : Int))) (by kernel_rfl) h9 ?_
   refine .skip ?_
   refine .ghs (fr 34 [(1,Sl.v 1 s1),(2,zI x3),(8,(.pointer none))]) (hp 1 [(oT tab0)]) (.k0 [false] [] [1,2,8]) ?_
   refine .then ?_
   cases hm
def m12_0 (pu:PureF) (n:Nat) (s0:Sl) (z0 z1 z2 z3 z4:Int) (s1:Sl):OV:=
 (bb (nt (ieq z1 (0:Int))) (some (.tuple ⟨[(Sl.v 1 (Sl.mk 0 2 [])),.int .i64 z1]⟩)) (oo (pu 10480 [(.agg ⟨[.int .i64 z2,.int .i64 z3,.int .i64 z4,Sl.v 1 s1]⟩),Sl.v 1 s0,.int .i64 z0]) none fun v0=>(oo (vTup v0) none fun l0=>(ll l0 none fun v1 l0=>(ll l0 (oo (toSl 1 v1) none fun s2=>(some (.tuple ⟨[Sl.v 1 s2,(.int .i64 (0:Int))]⟩))) fun _ _=>none)))))
def m12_1 (pu:PureF) (n:Nat) (s0:Sl) (z0 z1:Int) (b0:Bool) (z2 z3 z4:Int) (s1:Sl):OV:=
 (bb b0 (m12_0 pu n s0 z0 (2:Int) z2 z3 z4 s1) (m12_0 pu n s0 z0 z1 z2 z3 z4 s1))
def m12_ (pu:PureF) (n:Nat) (x0 x1 x2:Int) (s0 s1:Sl) (x3:Int):OV:=
 (oo (pu 46 [(.agg ⟨[.int .i64 x0,.int .i64 x1,.int .i64 x2,Sl.v 1 s0]⟩),Sl.v 1 s1]) none fun v0=>(oo (toI .i64 v0) none fun x4=>(bb (ieq x4 (0:Int)) (oo (pu 47 [Sl.v 1 s0,.int .i64 x3]) none fun v1=>(oo (vBool v1) none fun b0=>(m12_1 pu n s1 x3 x4 (nt b0) x0 x1 x2 s0))) (m12_1 pu n s1 x3 x4 false x0 x1 x2 s0))))
def m12 (pu:PureF) (n:Nat) (args:LV):OV:=
 (ll args none fun a0 args=>(ll args none fun a1 args=>(ll args none fun a2 args=>(ll args (oo (vAgg a0) none fun l0=>(ll l0 none fun v0 l0=>(ll l0 none fun v1 l0=>(ll l0 none fun v2 l0=>(ll l0 none fun v3 l0=>(ll l0 (oo (toI .i64 v0) none fun x0=>(oo (toI .i64 v1) none fun x1=>(oo (toI .i64 v2) none fun x2=>(oo (toSl 1 v3) none fun s0=>(oo (toSl 1 a1) none fun s1=>(oo (toI .i64 a2) none fun x3=>(m12_ pu n x0 x1 x2 s0 s1 x3))))))) fun _ _=>none)))))) fun _ _=>none))))
theorem w12_0 (pu:PureF) (n:Nat) (s0:Sl) (z0 z1 z2 z3 z4:Int) (s1:Sl) {v:Value} (hm:m12_0 pu n s0 z0 z1 z2 z3 z4 s1 = some v):Run tt (callP tabs isP pu (inl pu)) 1 c12_13 (fr 28 [(1,Sl.v 1 s0),(2,zI z0),(3,pt 1 0),(8,zI z1)]) (hT 2 [(oC [zI z2,zI z3,zI z4,Sl.v 1 s1])]) (Fin tt 1 [.tmp 6,.tmp 7] v):=by
 unfold m12_0 at hm
 refine .then ?_
 refine .then (.rK ?_)
 refine .ghs (fr 28 [(1,Sl.v 1 s0),(2,zI z0),(3,pt 1 0),(8,zI z1),(22,(zB (nt (ieq z1 (0:Int)))))]) (hT 2 [(oC [zI z2,zI z3,zI z4,Sl.v 1 s1])]) (.k0 [false] [.tmp 3 false] [1,2,3,8,22]) ?_
 replace hm:=bb_cases hm;rcases hm with ⟨h0,hm⟩ | ⟨h0,hm⟩
 ·refine .ifT (nt (ieq z1 (0 : Int))) (by kernel_rfl) h0 ?_
  refine .then (.rK ?_)
  refine .ghs (fr 28 [(6,(.slice none 0 0)),(7,zI z1)]) (hp 1 [(oT tab0)]) (.k0 [false] [] [6,7]) ?_
  refine .ghs (Fr.puts (fr 28 [(6,(.slice none 0 0)),(7,zI z1)]) [(6,(Sl.v 1 (Sl.mk 0 2 [])))]) (hp 1 [(oT tab0)]) (.freeze 1 6 1 (by kernel_rfl) (by kernel_rfl) (GhS.id _ _)) ?_
  refine .ret ?_
  exact fin_ret (.tuple ⟨[(Sl.v 1 (Sl.mk 0 2 [])),zI z1]⟩) (by kernel_rfl) (by kernel_rfl) hm
 ·refine .ifF (nt (ieq z1 (0 : Int))) (by kernel_rfl) h0 ?_
  refine .skip ?_
  refine .ghs (fr 28 [(1,Sl.v 1 s0),(2,zI z0),(3,pt 1 0)]) (hT 2 [(oC [zI z2,zI z3,zI z4,Sl.v 1 s1])]) (.k0 [false] [.tmp 3 false] [1,2,3]) ?_
  refine .then ?_
  replace hm:=oo_inv hm;obtain ⟨v0,h1,hm⟩:=hm
  replace hm:=inv_vTup hm;obtain ⟨l0,rfl,hm⟩:=hm
  replace hm:=ll_uncons hm;obtain ⟨v1,l633_0,rfl,hm⟩:=hm
  replace hm:=ll_end hm;obtain ⟨rfl,hm⟩:=hm
  replace hm:=inv_toSl hm;obtain ⟨s2,rfl,hm⟩:=hm
  refine .reg (eC 3 (objG tabs [[none,none,none,some 1],[some 1],[none]] 3 [] [] (pu 10480) [(.agg ⟨[zI z2,zI z3,zI z4,Sl.v 1 s1]⟩),Sl.v 1 s0,zI z0] (hT 2 [(oC [zI z2,zI z3,zI z4,Sl.v 1 s1])])) (objG_eq (as:=[(.agg ⟨[zI z2,zI z3,zI z4,Sl.v 1 s1]⟩),Sl.v 1 s0,zI z0]) (H1:=(hT 2 [(oC [zI z2,zI z3,zI z4,Sl.v 1 s1])])) (gvAL_c (gvA_a (gvL_c gv_n (gvL_c gv_n (gvL_c gv_n (gvL_c (gv_s (giveV_cl (z:=1) (v:=(Sl.v 1 s1)) (H:=(hT 2 [(oC [zI z2,zI z3,zI z4,Sl.v 1 s1])])) (by kernel_rfl) (by kernel_rfl) (by kernel_rfl))) gvL_n))))) (gvAL_c (gvA_1 (gv_s (giveV_cl (z:=1) (v:=(Sl.v 1 s0)) (H:=(hT 2 [(oC [zI z2,zI z3,zI z4,Sl.v 1 s1])])) (by kernel_rfl) (by kernel_rfl) (by kernel_rfl)))) (gvAL_c (gvA_1 gv_n) gvAL_n))) (objF_eq (H2:=(hT 2 [(oC [zI z2,zI z3,zI z4,Sl.v 1 s1])])) (v:=(Sl.v 1 s2)) (v':=(Sl.v 1 s2)) [some 0] [] [] [(.agg ⟨[zI z2,zI z3,zI z4,Sl.v 1 s1]⟩),Sl.v 1 s0,zI z0] [] [] [some 0,none] [] [] (by kernel_rfl) mapO_n (Eq.trans (by kernel_rfl) h1) mapO_n mapO_n)) (eE)) ?_
  refine .ghs (fr 28 [(6,Sl.v 1 s2),(7,(zI (0:Int)))]) (hp 1 [(oT tab0)]) (.k0 [false] [] [6,7]) ?_
  refine .ret ?_
  exact fin_ret (.tuple ⟨[Sl.v 1 s2,(zI (0:Int))]⟩) (by kernel_rfl) (by kernel_rfl) hm
theorem r12 {call:CallF} (pu:PureF) (n:Nat) (hcall:call = callP tabs isP pu (inl pu)) {args:LV} {v:Value} (hm:m12 pu n args = some v) (_:∀ x ∈ args,closed2 x = true):args.length≤28∧Run tt call 1 c12_16 (Fr.made 28 args) (pureHeap tabs) (Fin tt 1 [.tmp 6,.tmp 7] v):=by
 subst hcall
 unfold m12 at hm
 replace hm:=ll_uncons hm;obtain ⟨a0,args_0,rfl,hm⟩:=hm
 replace hm:=ll_uncons hm;obtain ⟨a1,args_1,rfl,hm⟩:=hm
 replace hm:=ll_uncons hm;obtain ⟨a2,args_2,rfl,hm⟩:=hm
 replace hm:=ll_end hm;obtain ⟨rfl,hm⟩:=hm
 replace hm:=inv_vAgg hm;obtain ⟨l0,rfl,hm⟩:=hm
 replace hm:=ll_uncons hm;obtain ⟨v0,l365_0,rfl,hm⟩:=hm
 replace hm:=ll_uncons hm;obtain ⟨v1,l365_1,rfl,hm⟩:=hm
 replace hm:=ll_uncons hm;obtain ⟨v2,l365_2,rfl,hm⟩:=hm
 replace hm:=ll_uncons hm;obtain ⟨v3,l365_3,rfl,hm⟩:=hm
 replace hm:=ll_end hm;obtain ⟨rfl,hm⟩:=hm
 replace hm:=inv_toI hm;obtain ⟨x0,rfl,hm⟩:=hm
 replace hm:=inv_toI hm;obtain ⟨x1,rfl,hm⟩:=hm
 replace hm:=inv_toI hm;obtain ⟨x2,rfl,hm⟩:=hm
 replace hm:=inv_toSl hm;obtain ⟨s0,rfl,hm⟩:=hm
 replace hm:=inv_toSl hm;obtain ⟨s1,rfl,hm⟩:=hm
 replace hm:=inv_toI hm;obtain ⟨x3,rfl,hm⟩:=hm
 unfold m12_ at hm
 refine ⟨by simp,?_⟩
 refine .same (F':=(fr 28 [(0,(.agg ⟨[zI x0,zI x1,zI x2,Sl.v 1 s0]⟩)),(1,Sl.v 1 s1),(2,zI x3)])) (H':=(hp 1 [(oT tab0)])) (by kernel_rfl) (by kernel_rfl) ?_
 refine .then (.rK ?_)
 refine .ghs (fr 28 [(1,Sl.v 1 s1),(2,zI x3),(3,pt 1 0)]) (hT 2 [(oC [zI x0,zI x1,zI x2,Sl.v 1 s0])]) (.k0 [false] [.tmp 3 false] [1,2,3]) ?_
 refine .then ?_
 replace hm:=oo_inv hm;obtain ⟨v4,h0,hm⟩:=hm
 replace hm:=inv_toI hm;obtain ⟨x4,rfl,hm⟩:=hm
 refine .reg (eC 2 ((oo (pu 46 [(.agg ⟨[zI x0,zI x1,zI x2,Sl.v 1 s0]⟩),Sl.v 1 s1]) none fun v=>some (v,(hT 2 [(oC [zI x0,zI x1,zI x2,Sl.v 1 s0])])))) (call_eq h0) (eE)) ?_
 refine .ghs (fr 28 [(1,Sl.v 1 s1),(2,zI x3),(3,pt 1 0),(8,zI x4)]) (hT 2 [(oC [zI x0,zI x1,zI x2,Sl.v 1 s0])]) (.k0 [false] [.tmp 3 false] [1,2,3,8]) ?_
 refine .join (v:=v) (fun y:Sl×Int×Int×Int×Int×Int×Sl=>((fr 28 [(1,(Sl.v 1 y.1)),(2,(zI y.2.1)),(3,pt 1 0),(8,(zI y.2.2.1))]),(hT 2 [(oC [(zI y.2.2.2.1),(zI y.2.2.2.2.1),(zI y.2.2.2.2.2.1),(Sl.v 1 y.2.2.2.2.2.2)])]))) (fun y=>m12_0 pu n y.1 y.2.1 y.2.2.1 y.2.2.2.1 y.2.2.2.2.1 y.2.2.2.2.2.1 y.2.2.2.2.2.2) ?_ ?_
 ·rintro ⟨s2, z0, z1, z2, z3, z4, s3⟩ hm
  exact w12_0 pu n s2 z0 z1 z2 z3 z4 s3 hm
 ·refine .join (v := v) (fun y : Sl × Int × Int × Bool × Int × Int × Int × Sl => ((fr 28 [(1, (Sl.v 1 y.1)), (2, (zI y.2.1)), (3, pt 1 0), (8, (zI y.2.2.1)), (20, (zB y.2.2.2.1))]), (hT 2 [(oC [(zI y.2.2.2.2.1), (zI y.2.2.2.2.2.1), (zI y.2.2.2.2.2.2.1), (Sl.v 1 y.2.2.2.2.2.2.2)])]))) (fun y => m12_1 pu n y.1 y.2.1 y.2.2.1 y.2.2.2.1 y.2.2.2.2.1 y.2.2.2.2.2.1 y.2.2.2.2.2.2.1 y.2.2.2.2.2.2.2) ?_ ?_
  ·rintro ⟨s4, z5, z6, b0, z7, z8, z9, s5⟩ hm
   unfold m12_1 at hm
   replace hm:=bb_cases hm;rcases hm with ⟨h1,hm⟩ | ⟨h1,hm⟩
   ·refine .ifT b0 (by kernel_rfl) h1 ?_
    refine .rK ?_
    exact ⟨(s4,z5,(2:Int),z7,z8,z9,s5),hm,(.k0 [false] [.tmp 3 false] [1,2,3,8])⟩
   ·refine .ifF b0 (by kernel_rfl) h1 ?_
    refine .skip ?_
    exact ⟨(s4,z5,z6,z7,z8,z9,s5),hm,(.k0 [false] [.tmp 3 false] [1,2,3,8])⟩
  ·replace hm := bb_cases hm; rcases hm with ⟨h2, hm⟩ | ⟨h2, hm⟩
   ·replace hm := oo_inv hm; obtain ⟨v5, h3, hm⟩ := hm
    replace hm:=inv_vBool hm;obtain ⟨b1,rfl,hm⟩:=hm
    refine .reg (eC 1 (some ((zB (ieq x4 (0:Int))),(hT 2 [(oC [zI x0,zI x1,zI x2,Sl.v 1 s0])]))) (show _ = some ((zB true),_) from (by rw [show (ieq x4 (0:Int)) = true from h2])) (eC 4 ((oo (pu 47 [Sl.v 1 s0,zI x3]) none fun v=>some (v,(hT 2 [(oC [zI x0,zI x1,zI x2,Sl.v 1 s0])])))) (call_eq h3) (eE))) ?_
    exact ⟨(s1,x3,x4,(nt b1),x0,x1,x2,s0),hm,(.k0 [false] [.tmp 3 false] [1,2,3,8,20])⟩
   ·refine .reg (eC 1 (some ((zB (ieq x4 (0 : Int))), (hT 2 [(oC [zI x0, zI x1, zI x2, Sl.v 1 s0])]))) (show _ = some ((zB false), _) from (by rw [show (ieq x4 (0 : Int)) = false from h2])) (eE)) ?_
    exact ⟨(s1,x3,x4,false,x0,x1,x2,s0),hm,(.k0 [false] [.tmp 3 false] [1,2,3,8,20])⟩
def m13_0 (pu:PureF) (n:Nat):OV:=
 (some (.tuple ⟨[(.int .i64 (0:Int)),(.int .i64 (12:Int))]⟩))
def b13_1 (pu:PureF) (n:Nat) (ih0:Sl→Sl→Nat→LV→Sl→Int→Int→OV) (s0 s1:Sl) (n0:Nat) (q0:LV) (s2:Sl) (z0 z1:Int):OV:=
 (bb (ilt z1 z0) (oo (toN z1) none fun k1=>(bb (an (Nat.blt k1 (Sl.n s2)) true) (oo (nthL (Sl.cs s2) (k1 * 1)) none fun v0=>(oo (toI .i64 v0) none fun x0=>(oo (pu 45 [(fpV n0 q0),Sl.v 1 s0,(.int .i64 (Int.ofNat k1))]) none fun v1=>(oo (toSl 1 v1) none fun s3=>(oo (pu 49 [Sl.v 1 s3,Sl.v 1 s1]) none fun v2=>(oo (vBool v2) none fun b0=>(bb b0 (some (.tuple ⟨[.int .i64 x0,(.int .i64 (0:Int))]⟩)) (ih0 s0 s1 n0 q0 s2 z0 (wrapF .i64 (Int.add (Int.ofNat k1) (1:Int))))))))))) none)) (m13_0 pu n))
def l13_1 (pu:PureF) (n w:Nat):Sl→Sl→Nat→LV→Sl→Int→Int→OV:=
 Nat.rec (motive:=fun _=>Sl→Sl→Nat→LV→Sl→Int→Int→OV) (fun _ _ _ _ _ _ _=>none) (fun _ ih0=>b13_1 pu n ih0) w
def m13_ (pu:PureF) (n:Nat) (x0 x1 x2:Int) (s0 s1 s2:Sl):OV:=
 (oo (pu 43 [(.agg ⟨[.int .i64 x0,.int .i64 x1,.int .i64 x2,Sl.v 1 s0]⟩),(Sl.v 1 (Sl.mk 2 0 (takeL (2 * 1) (dropL 0 ([Sl.v 1 s1,Sl.v 1 s2]:LV)))))]) none fun v0=>(oo (vTup v0) none fun l0=>(ll l0 none fun v1 l0=>(ll l0 none fun v2 l0=>(ll l0 (bb (isS (vFp v1)) (oo (vFp v1) none fun p0=>(oo (toI .i64 v2) none fun x3=>(bb (nt (ieq x3 (0:Int))) (some (.tuple ⟨[(.int .i64 (0:Int)),.int .i64 x3]⟩)) (oo (nthL (FpV.cs p0) (((FpV.off p0) + 0) + 3)) none fun v3=>(oo (toSl 1 v3) none fun s3=>(l13_1 pu n n s1 s2 (FpV.off p0) (FpV.cs p0) s3 (Int.ofNat (Sl.n s3)) (0:Int))))))) (bb (isP0 v1) (oo (toI .i64 v2) none fun x4=>(bb (nt (ieq x4 (0:Int))) (some (.tuple ⟨[(.int .i64 (0:Int)),.int .i64 x4]⟩)) none)) none)) fun _ _=>none)))))
def m13 (pu:PureF) (n:Nat) (args:LV):OV:=
 (ll args none fun a0 args=>(ll args none fun a1 args=>(ll args none fun a2 args=>(ll args (oo (vAgg a0) none fun l0=>(ll l0 none fun v0 l0=>(ll l0 none fun v1 l0=>(ll l0 none fun v2 l0=>(ll l0 none fun v3 l0=>(ll l0 (oo (toI .i64 v0) none fun x0=>(oo (toI .i64 v1) none fun x1=>(oo (toI .i64 v2) none fun x2=>(oo (toSl 1 v3) none fun s0=>(oo (toSl 1 a1) none fun s1=>(oo (toSl 1 a2) none fun s2=>(m13_ pu n x0 x1 x2 s0 s1 s2))))))) fun _ _=>none)))))) fun _ _=>none))))
theorem w13_0 (pu:PureF) (n:Nat) {v:Value} (hm:m13_0 pu n = some v):Run tt (callP tabs isP pu (inl pu)) 1 c13_26 (fr 42 []) (hp 1 [(oT tab0)]) (Fin tt 1 [.tmp 6,.tmp 7] v):=by
 unfold m13_0 at hm
 refine .then (.rK ?_)
 refine .ghs (fr 42 [(6,(zI (0:Int))),(7,(zI (12:Int)))]) (hp 1 [(oT tab0)]) (.k0 [false] [] [6,7]) ?_
 refine .ret ?_
 exact fin_ret (.tuple ⟨[(zI (0:Int)),(zI (12:Int))]⟩) (by kernel_rfl) (by kernel_rfl) hm
theorem r13 {call:CallF} (pu:PureF) (n:Nat) (hcall:call = callP tabs isP pu (inl pu)) {args:LV} {v:Value} (hm:m13 pu n args = some v) (_:∀ x ∈ args,closed2 x = true):args.length≤42∧Run tt call 1 c13_30 (Fr.made 42 args) (pureHeap tabs) (Fin tt 1 [.tmp 6,.tmp 7] v):=by
 subst hcall
 unfold m13 at hm
 replace hm:=ll_uncons hm;obtain ⟨a0,args_0,rfl,hm⟩:=hm
 replace hm:=ll_uncons hm;obtain ⟨a1,args_1,rfl,hm⟩:=hm
 replace hm:=ll_uncons hm;obtain ⟨a2,args_2,rfl,hm⟩:=hm
 replace hm:=ll_end hm;obtain ⟨rfl,hm⟩:=hm
 replace hm:=inv_vAgg hm;obtain ⟨l0,rfl,hm⟩:=hm
 replace hm:=ll_uncons hm;obtain ⟨v0,l677_0,rfl,hm⟩:=hm
 replace hm:=ll_uncons hm;obtain ⟨v1,l677_1,rfl,hm⟩:=hm
 replace hm:=ll_uncons hm;obtain ⟨v2,l677_2,rfl,hm⟩:=hm
 replace hm:=ll_uncons hm;obtain ⟨v3,l677_3,rfl,hm⟩:=hm
 replace hm:=ll_end hm;obtain ⟨rfl,hm⟩:=hm
 replace hm:=inv_toI hm;obtain ⟨x0,rfl,hm⟩:=hm
 replace hm:=inv_toI hm;obtain ⟨x1,rfl,hm⟩:=hm
 replace hm:=inv_toI hm;obtain ⟨x2,rfl,hm⟩:=hm
 replace hm:=inv_toSl hm;obtain ⟨s0,rfl,hm⟩:=hm
 replace hm:=inv_toSl hm;obtain ⟨s1,rfl,hm⟩:=hm
 replace hm:=inv_toSl hm;obtain ⟨s2,rfl,hm⟩:=hm
 unfold m13_ at hm
 refine ⟨by simp,?_⟩
 refine .same (F':=(fr 42 [(0,(.agg ⟨[zI x0,zI x1,zI x2,Sl.v 1 s0]⟩)),(1,Sl.v 1 s1),(2,Sl.v 1 s2)])) (H':=(hp 1 [(oT tab0)])) (by kernel_rfl) (by kernel_rfl) ?_
 refine .then (.rK ?_)
 refine .ghs (fr 42 [(1,Sl.v 1 s1),(2,Sl.v 1 s2),(3,pt 1 0)]) (hT 2 [(oC [zI x0,zI x1,zI x2,Sl.v 1 s0])]) (.k0 [false] [.tmp 3 false] [1,2,3]) ?_
 refine .then ?_
 replace hm:=oo_inv hm;obtain ⟨v4,h0,hm⟩:=hm
 replace hm:=inv_vTup hm;obtain ⟨l1,rfl,hm⟩:=hm
 replace hm:=ll_uncons hm;obtain ⟨v5,l708_0,rfl,hm⟩:=hm
 replace hm:=ll_uncons hm;obtain ⟨v6,l708_1,rfl,hm⟩:=hm
 replace hm:=ll_end hm;obtain ⟨rfl,hm⟩:=hm
 replace hm:=bb_cases hm;rcases hm with ⟨h1,hm⟩ | ⟨h1,hm⟩
 ·replace hm := oo_inv hm; obtain ⟨p0, h2, hm⟩ := hm
  obtain rfl:=vFp_some h2
  replace hm:=inv_toI hm;obtain ⟨x3,rfl,hm⟩:=hm
  refine .reg (eC 4 (giveF tabs 1 (pu 43) [(.agg ⟨[zI x0,zI x1,zI x2,Sl.v 1 s0]⟩),sc 2 0 1 2 5] (hT 3 [(oC [zI x0,zI x1,zI x2,Sl.v 1 s0]),(oC [Sl.v 1 s1,Sl.v 1 s2])])) (giveF_eq (giveL_cons (giveV_cl (z:=1) (v:=(.agg ⟨[zI x0,zI x1,zI x2,Sl.v 1 s0]⟩)) (H:=(hT 3 [(oC [zI x0,zI x1,zI x2,Sl.v 1 s0]),(oC [Sl.v 1 s1,Sl.v 1 s2])])) (by kernel_rfl) (by kernel_rfl) (by kernel_rfl)) (giveL_cons (show giveV 1 (sc 2 0 1 2 5) (hT 3 [(oC [zI x0,zI x1,zI x2,Sl.v 1 s0]),(oC [Sl.v 1 s1,Sl.v 1 s2])]) = some ((Sl.v 1 (Sl.mk 2 0 (takeL (2 * 1) (dropL 0 ([Sl.v 1 s1,Sl.v 1 s2]:LV))))),(hT 3 [(oC [zI x0,zI x1,zI x2,Sl.v 1 s0]),.dead])) from giveV_sl 2 0 1 2 5 ([Sl.v 1 s1,Sl.v 1 s2]:LV) [] (by kernel_rfl) (by kernel_rfl) (by kernel_rfl)) giveL_nil)) (by kernel_rfl) h0) (eE)) ?_
  refine .ghs (fr 42 [(1,Sl.v 1 s1),(2,Sl.v 1 s2),(8,(fpV (FpV.off p0) (FpV.cs p0))),(9,zI x3)]) (hp 1 [(oT tab0)]) (.k0 [false] [] [1,2,8,9]) ?_
  refine .then ?_
  refine .then (.rK ?_)
  refine .ghs (fr 42 [(1,Sl.v 1 s1),(2,Sl.v 1 s2),(8,(fpV (FpV.off p0) (FpV.cs p0))),(9,zI x3),(21,(zB (nt (ieq x3 (0:Int)))))]) (hp 1 [(oT tab0)]) (.k0 [false] [] [1,2,8,9,21]) ?_
  replace hm:=bb_cases hm;rcases hm with ⟨h3,hm⟩ | ⟨h3,hm⟩
  ·refine .ifT (nt (ieq x3 (0 : Int))) (by kernel_rfl) h3 ?_
   refine .then (.rK ?_)
   refine .ghs (fr 42 [(6,(zI (0:Int))),(7,zI x3)]) (hp 1 [(oT tab0)]) (.k0 [false] [] [6,7]) ?_
   refine .ret ?_
   exact fin_ret (.tuple ⟨[(zI (0:Int)),zI x3]⟩) (by kernel_rfl) (by kernel_rfl) hm
  ·refine .ifF (nt (ieq x3 (0 : Int))) (by kernel_rfl) h3 ?_
   refine .skip ?_
   refine .ghs (fr 42 [(1,Sl.v 1 s1),(2,Sl.v 1 s2),(8,(fpV (FpV.off p0) (FpV.cs p0)))]) (hp 1 [(oT tab0)]) (.k0 [false] [] [1,2,8]) ?_
   refine .join (v:=v) (fun y:Unit=>((fr 42 []),(hp 1 [(oT tab0)]))) (fun y=>m13_0 pu n) ?_ ?_
   ·rintro _ hm
    exact w13_0 pu n hm
   ·refine .then ?_
    replace hm:=oo_inv hm;obtain ⟨v7,h4,hm⟩:=hm
    replace hm:=inv_toSl hm;obtain ⟨s3,rfl,hm⟩:=hm
    refine .reg (eC 4 (keep (hp 1 [(oT tab0)]) (nthL (FpV.cs p0) (((FpV.off p0) + 0) + 3))) (keep_eq h4) (eE)) ?_
    refine .ghs (fr 42 [(1,Sl.v 1 s1),(2,Sl.v 1 s2),(8,(fpV (FpV.off p0) (FpV.cs p0))),(27,Sl.v 1 s3),(28,(zI (Int.ofNat (Sl.n s3)))),(29,(zI (0:Int)))]) (hp 1 [(oT tab0)]) (.k0 [false] [] [1,2,8,27,28,29]) ?_
    refine .block ?_
    refine .loopM (v:=v) (fun y:Sl×Sl×Nat×LV×Sl×Int×Int=>((fr 42 [(1,(Sl.v 1 y.1)),(2,(Sl.v 1 y.2.1)),(8,(fpV y.2.2.1 y.2.2.2.1)),(27,(Sl.v 1 y.2.2.2.2.1)),(28,(zI y.2.2.2.2.2.1)),(29,(zI y.2.2.2.2.2.2))]),(hp 1 [(oT tab0)]))) (fun w y=>l13_1 pu n w y.1 y.2.1 y.2.2.1 y.2.2.2.1 y.2.2.2.2.1 y.2.2.2.2.2.1 y.2.2.2.2.2.2) n ⟨(s1,s2,(FpV.off p0),(FpV.cs p0),s3,(Int.ofNat (Sl.n s3)),(0:Int)),hm,(.k0 [false] [] [1,2,8,27,28,29])⟩ (fun _=>rfl) ?_
    rintro w0 ⟨s4,s5,n0,q0,s6,z0,z1⟩ hm
    replace hm:b13_1 pu n (l13_1 pu n w0) s4 s5 n0 q0 s6 z0 z1 = some v:=hm
    unfold b13_1 at hm
    refine .then (.rK ?_)
    refine .ghs (fr 42 [(1,Sl.v 1 s4),(2,Sl.v 1 s5),(8,(fpV n0 q0)),(27,Sl.v 1 s6),(28,zI z0),(29,zI z1),(30,(zB (ilt z1 z0)))]) (hp 1 [(oT tab0)]) (.k0 [false] [] [1,2,8,27,28,29,30]) ?_
    refine .then ?_
    replace hm:=bb_cases hm;rcases hm with ⟨h5,hm⟩ | ⟨h5,hm⟩
    ·refine .ifT (ilt z1 z0) (by kernel_rfl) h5 ?_
     refine .skip ?_
     refine .ghs (fr 42 [(1,Sl.v 1 s4),(2,Sl.v 1 s5),(8,(fpV n0 q0)),(27,Sl.v 1 s6),(28,zI z0),(29,zI z1)]) (hp 1 [(oT tab0)]) (.k0 [false] [] [1,2,8,27,28,29]) ?_
     refine .then ?_
     refine .block ?_
     refine .then ?_
     replace hm:=oo_inv hm;obtain ⟨k1,h6,hm⟩:=hm
     obtain rfl:=toN_some h6
     replace hm:=bb_inv hm;obtain ⟨h7,hm⟩:=hm
     replace hm:=oo_inv hm;obtain ⟨v8,h8,hm⟩:=hm
     replace hm:=inv_toI hm;obtain ⟨x4,rfl,hm⟩:=hm
     refine .reg (eC 1 (keep (hp 1 [(oT tab0)]) (bb (an (Nat.blt k1 (Sl.n s6)) true) (some (fpV (k1 * 1) (Sl.cs s6))) none)) (keep_bb h7) (eD (keep (hp 1 [(oT tab0)]) (nthL (Sl.cs s6) (k1 * 1))) (keep_eq h8) (eE))) ?_
     refine .ghs (fr 42 [(1,Sl.v 1 s4),(2,Sl.v 1 s5),(8,(fpV n0 q0)),(10,(zI (Int.ofNat k1))),(11,zI x4),(27,Sl.v 1 s6),(28,zI z0),(29,(zI (Int.ofNat k1)))]) (hp 1 [(oT tab0)]) (.k0 [false] [] [1,2,8,10,11,27,28,29]) ?_
     refine .then ?_
     replace hm:=oo_inv hm;obtain ⟨v9,h9,hm⟩:=hm
     replace hm:=inv_toSl hm;obtain ⟨s7,rfl,hm⟩:=hm
     replace hm:=oo_inv hm;obtain ⟨v10,h10,hm⟩:=hm
     replace hm:=inv_vBool hm;obtain ⟨b0,rfl,hm⟩:=hm
     refine .reg (eC 3 ((oo (pu 45 [(fpV n0 q0),Sl.v 1 s4,(zI (Int.ofNat k1))]) none fun v=>some (v,(hp 1 [(oT tab0)])))) (call_eq h9) (eC 1 ((oo (pu 49 [Sl.v 1 s7,Sl.v 1 s5]) none fun v=>some (v,(hp 1 [(oT tab0)])))) (call_eq h10) (eE))) ?_
     refine .ghs (fr 42 [(1,Sl.v 1 s4),(2,Sl.v 1 s5),(8,(fpV n0 q0)),(11,zI x4),(27,Sl.v 1 s6),(28,zI z0),(29,(zI (Int.ofNat k1))),(39,zB b0)]) (hp 1 [(oT tab0)]) (.k0 [false] [] [1,2,8,11,27,28,29,39]) ?_
     replace hm:=bb_cases hm;rcases hm with ⟨h11,hm⟩ | ⟨h11,hm⟩
     ·refine .ifT b0 (by kernel_rfl) h11 ?_
      refine .then (.rK ?_)
      refine .ghs (fr 42 [(6,zI x4),(7,(zI (0:Int)))]) (hp 1 [(oT tab0)]) (.k0 [false] [] [6,7]) ?_
      refine .ret ?_
      exact fin_ret (.tuple ⟨[zI x4,(zI (0:Int))]⟩) (by kernel_rfl) (by kernel_rfl) hm
     ·refine .ifF b0 (by kernel_rfl) h11 ?_
      refine .skip ?_
      refine .ghs (fr 42 [(1,Sl.v 1 s4),(2,Sl.v 1 s5),(8,(fpV n0 q0)),(27,Sl.v 1 s6),(28,zI z0),(29,(zI (Int.ofNat k1)))]) (hp 1 [(oT tab0)]) (.k0 [false] [] [1,2,8,27,28,29]) ?_
      refine .rK ?_
      exact ⟨(s4,s5,n0,q0,s6,z0,(wrapF .i64 (Int.add (Int.ofNat k1) (1:Int)))),hm,(.k0 [false] [] [1,2,8,27,28,29])⟩
    ·refine .ifF (ilt z1 z0) (by kernel_rfl) h5 ?_
     refine .exit ?_
     exact ⟨(),hm,(.k0 [false] [] [])⟩
 ·replace hm := bb_inv hm; obtain ⟨h12, hm⟩ := hm
  obtain rfl:=isP0_ok h12
  replace hm:=inv_toI hm;obtain ⟨x5,rfl,hm⟩:=hm
  refine .reg (eC 4 (giveF tabs 1 (pu 43) [(.agg ⟨[zI x0,zI x1,zI x2,Sl.v 1 s0]⟩),sc 2 0 1 2 5] (hT 3 [(oC [zI x0,zI x1,zI x2,Sl.v 1 s0]),(oC [Sl.v 1 s1,Sl.v 1 s2])])) (giveF_eq (giveL_cons (giveV_cl (z:=1) (v:=(.agg ⟨[zI x0,zI x1,zI x2,Sl.v 1 s0]⟩)) (H:=(hT 3 [(oC [zI x0,zI x1,zI x2,Sl.v 1 s0]),(oC [Sl.v 1 s1,Sl.v 1 s2])])) (by kernel_rfl) (by kernel_rfl) (by kernel_rfl)) (giveL_cons (show giveV 1 (sc 2 0 1 2 5) (hT 3 [(oC [zI x0,zI x1,zI x2,Sl.v 1 s0]),(oC [Sl.v 1 s1,Sl.v 1 s2])]) = some ((Sl.v 1 (Sl.mk 2 0 (takeL (2 * 1) (dropL 0 ([Sl.v 1 s1,Sl.v 1 s2]:LV))))),(hT 3 [(oC [zI x0,zI x1,zI x2,Sl.v 1 s0]),.dead])) from giveV_sl 2 0 1 2 5 ([Sl.v 1 s1,Sl.v 1 s2]:LV) [] (by kernel_rfl) (by kernel_rfl) (by kernel_rfl)) giveL_nil)) (by kernel_rfl) h0) (eE)) ?_
  refine .ghs (fr 42 [(1,Sl.v 1 s1),(2,Sl.v 1 s2),(8,(.pointer none)),(9,zI x5)]) (hp 1 [(oT tab0)]) (.k0 [false] [] [1,2,8,9]) ?_
  refine .then ?_
  refine .then (.rK ?_)
  refine .ghs (fr 42 [(1,Sl.v 1 s1),(2,Sl.v 1 s2),(8,(.pointer none)),(9,zI x5),(21,(zB (nt (ieq x5 (0:Int)))))]) (hp 1 [(oT tab0)]) (.k0 [false] [] [1,2,8,9,21]) ?_
  replace hm:=bb_cases hm;rcases hm with ⟨h13,hm⟩ | ⟨h13,hm⟩
  ·refine .ifT (nt (ieq x5 (0 : Int))) (by kernel_rfl) h13 ?_
   refine .then (.rK ?_)
   refine .ghs (fr 42 [(6,(zI (0:Int))),(7,zI x5)]) (hp 1 [(oT tab0)]) (.k0 [false] [] [6,7]) ?_
   refine .ret ?_
   exact fin_ret (.tuple ⟨[(zI (0:Int)),zI x5]⟩) (by kernel_rfl) (by kernel_rfl) hm
  ·refine .ifF (nt (ieq x5 (0 : Int))) (by kernel_rfl) h13 ?_
   refine .skip ?_
   refine .ghs (fr 42 [(1,Sl.v 1 s1),(2,Sl.v 1 s2),(8,(.pointer none))]) (hp 1 [(oT tab0)]) (.k0 [false] [] [1,2,8]) ?_
   refine .then ?_
   refine .then ?_
   cases hm
end
end Go.BkXM
