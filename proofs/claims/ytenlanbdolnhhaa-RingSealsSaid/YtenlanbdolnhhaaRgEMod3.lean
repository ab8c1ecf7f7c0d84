/- Made from wip. -/
import Derived.Test.YtenlanbdolnhhaaRgEMod0x

set_option maxRecDepth 100000
set_option maxHeartbeats 20000000
set_option linter.unusedVariables false
namespace Go.RgEM
open Go.Sp Go.RgE
noncomputable section

def m18_ (pu:PureF) (n:Nat) (x0:Int) (s0:Sl) (x1:Int):OV:=
 (oo (pu 26 [(.agg ⟨[.int .i64 x0,Sl.v 1 s0]⟩)]) none fun v0=>(oo (toI .i64 v0) none fun x2=>(bb (nt (ieq x2 (0:Int))) (some (.tuple ⟨[(.agg ⟨[(.int .i64 (0:Int)),(Sl.v 1 (Sl.mk 0 2 []))]⟩),.int .i64 x2]⟩)) (oo (pu 64 [.int .i64 x1,.int .i64 x0]) none fun v1=>(oo (toI .i64 v1) none fun x3=>(oo (pu 67 [(.agg ⟨[.int .i64 x0,Sl.v 1 s0]⟩),(.int .i64 (1:Int)),.int .i64 x3]) none fun v2=>(oo (vAgg v2) none fun l0=>(ll l0 none fun v3 l0=>(ll l0 none fun v4 l0=>(ll l0 (oo (toI .i64 v3) none fun x4=>(oo (toSl 1 v4) none fun s1=>(some (.tuple ⟨[(.agg ⟨[.int .i64 x4,Sl.v 1 s1]⟩),(.int .i64 (0:Int))]⟩)))) fun _ _=>none))))))))))
def m18 (pu:PureF) (n:Nat) (args:LV):OV:=
 (ll args none fun a0 args=>(ll args none fun a1 args=>(ll args (oo (vAgg a0) none fun l0=>(ll l0 none fun v0 l0=>(ll l0 none fun v1 l0=>(ll l0 (oo (toI .i64 v0) none fun x0=>(oo (toSl 1 v1) none fun s0=>(oo (toI .i64 a1) none fun x1=>(m18_ pu n x0 s0 x1)))) fun _ _=>none)))) fun _ _=>none)))
theorem r18 {call:CallF} (pu:PureF) (n:Nat) (hcall:call = callP tabs isP pu (inl pu)) {args:LV} {v:Value} (hm:m18 pu n args = some v) (_:∀ x ∈ args,closed2 x = true):args.length≤19∧Run tt call 0 c18_11 (Fr.made 19 args) (pureHeap tabs) (Fin tt 0 [.cell 4 26,.tmp 5] v):=by
 subst hcall
 unfold m18 at hm
 replace hm:=ll_uncons hm;obtain ⟨a0,args_0,rfl,hm⟩:=hm
 replace hm:=ll_uncons hm;obtain ⟨a1,args_1,rfl,hm⟩:=hm
 replace hm:=ll_end hm;obtain ⟨rfl,hm⟩:=hm
 replace hm:=inv_vAgg hm;obtain ⟨l0,rfl,hm⟩:=hm
 replace hm:=ll_uncons hm;obtain ⟨v0,l2462_0,rfl,hm⟩:=hm
 replace hm:=ll_uncons hm;obtain ⟨v1,l2462_1,rfl,hm⟩:=hm
 replace hm:=ll_end hm;obtain ⟨rfl,hm⟩:=hm
 replace hm:=inv_toI hm;obtain ⟨x0,rfl,hm⟩:=hm
 replace hm:=inv_toSl hm;obtain ⟨s0,rfl,hm⟩:=hm
 replace hm:=inv_toI hm;obtain ⟨x1,rfl,hm⟩:=hm
 unfold m18_ at hm
 refine ⟨by simp,?_⟩
 refine .same (F':=(fr 19 [(0,(.agg ⟨[zI x0,Sl.v 1 s0]⟩)),(1,zI x1)])) (H':=(hp 0 [])) (by kernel_rfl) (by kernel_rfl) ?_
 refine .then (.rK ?_)
 refine .ghs (fr 19 [(1,zI x1),(2,(pt 0 0)),(4,pt 1 0)]) (hp 2 [(oC [zI x0,Sl.v 1 s0]),(oC [(zI (0:Int)),(.slice none 0 0)])]) (.k0 [] [.tmp 2 false,.tmp 4 false] [1,2,4]) ?_
 refine .then ?_
 replace hm:=oo_inv hm;obtain ⟨v2,h0,hm⟩:=hm
 replace hm:=inv_toI hm;obtain ⟨x2,rfl,hm⟩:=hm
 refine .reg (eC 1 ((oo (pu 26 [(.agg ⟨[zI x0,Sl.v 1 s0]⟩)]) none fun v=>some (v,(hp 2 [(oC [zI x0,Sl.v 1 s0]),(oC [(zI (0:Int)),(.slice none 0 0)])])))) (call_eq h0) (eE)) ?_
 refine .ghs (fr 19 [(1,zI x1),(2,(pt 0 0)),(4,pt 1 0),(6,zI x2)]) (hp 2 [(oC [zI x0,Sl.v 1 s0]),(oC [(zI (0:Int)),(.slice none 0 0)])]) (.k0 [] [.tmp 2 false,.tmp 4 false] [1,2,4,6]) ?_
 refine .then ?_
 refine .then (.rK ?_)
 refine .ghs (fr 19 [(1,zI x1),(2,(pt 0 0)),(4,pt 1 0),(6,zI x2),(10,(zB (nt (ieq x2 (0:Int)))))]) (hp 2 [(oC [zI x0,Sl.v 1 s0]),(oC [(zI (0:Int)),(.slice none 0 0)])]) (.k0 [] [.tmp 2 false,.tmp 4 false] [1,2,4,6,10]) ?_
 replace hm:=bb_cases hm;rcases hm with ⟨h1,hm⟩ | ⟨h1,hm⟩
 ·refine .ifT (nt (ieq x2 (0 : Int))) (by kernel_rfl) h1 ?_
  refine .then (.rK ?_)
  refine .ghs (fr 19 [(4,(pt 0 0)),(5,zI x2)]) (hp 1 [(oC [(zI (0:Int)),(.slice none 0 0)])]) (.k0 [] [.tmp 4 false] [4,5]) ?_
  refine .ret ?_
  exact finT_ret (.tuple ⟨[(.agg ⟨[(zI (0:Int)),(.slice none 0 0)]⟩),zI x2]⟩) (.tuple ⟨[(.agg ⟨[(zI (0:Int)),(Sl.v 1 (Sl.mk 0 2 []))]⟩),zI x2]⟩) (by kernel_rfl) (Tell.tup (.cons (Tell.agg (.cons (Tell.refl _ _ _) (.cons (.weak (Weak.nil 1 2)) (TellL.nil _)))) (.cons (Tell.refl _ _ _) (TellL.nil _)))) (by kernel_rfl) hm
 ·refine .ifF (nt (ieq x2 (0 : Int))) (by kernel_rfl) h1 ?_
  refine .skip ?_
  refine .ghs (fr 19 [(1,zI x1),(2,(pt 0 0)),(4,pt 1 0)]) (hp 2 [(oC [zI x0,Sl.v 1 s0]),(oC [(zI (0:Int)),(.slice none 0 0)])]) (.k0 [] [.tmp 2 false,.tmp 4 false] [1,2,4]) ?_
  refine .then ?_
  replace hm:=oo_inv hm;obtain ⟨v3,h2,hm⟩:=hm
  replace hm:=inv_toI hm;obtain ⟨x3,rfl,hm⟩:=hm
  replace hm:=oo_inv hm;obtain ⟨v4,h3,hm⟩:=hm
  replace hm:=inv_vAgg hm;obtain ⟨l1,rfl,hm⟩:=hm
  replace hm:=ll_uncons hm;obtain ⟨v5,l2501_0,rfl,hm⟩:=hm
  replace hm:=ll_uncons hm;obtain ⟨v6,l2501_1,rfl,hm⟩:=hm
  replace hm:=ll_end hm;obtain ⟨rfl,hm⟩:=hm
  replace hm:=inv_toI hm;obtain ⟨x4,rfl,hm⟩:=hm
  replace hm:=inv_toSl hm;obtain ⟨s1,rfl,hm⟩:=hm
  refine .reg (eC 4 ((oo (pu 64 [zI x1,zI x0]) none fun v=>some (v,(hp 2 [(oC [zI x0,Sl.v 1 s0]),(oC [(zI (0:Int)),(.slice none 0 0)])])))) (call_eq h2) (eD ((oo (pu 67 [(.agg ⟨[zI x0,Sl.v 1 s0]⟩),(zI (1:Int)),zI x3]) none fun v=>some (v,(hp 2 [(oC [zI x0,Sl.v 1 s0]),(oC [(zI (0:Int)),(.slice none 0 0)])])))) (call_eq h3) (eE))) ?_
  refine .ghs (fr 19 [(4,(pt 0 0)),(5,(zI (0:Int)))]) (hp 1 [(oC [zI x4,Sl.v 1 s1])]) (.k0 [] [.tmp 4 false] [4,5]) ?_
  refine .ret ?_
  exact fin_ret (.tuple ⟨[(.agg ⟨[zI x4,Sl.v 1 s1]⟩),(zI (0:Int))]⟩) (by kernel_rfl) (by kernel_rfl) hm

def m19_ (pu:PureF) (n:Nat) (x0:Int) (s0:Sl):OV:=
 (oo (pu 61 [(.agg ⟨[.int .i64 x0,Sl.v 1 s0]⟩)]) none fun v0=>(oo (vTup v0) none fun l0=>(ll l0 none fun v1 l0=>(ll l0 none fun v2 l0=>(ll l0 (oo (vAgg v1) none fun l1=>(ll l1 none fun v3 l1=>(ll l1 none fun v4 l1=>(ll l1 (oo (toI .i64 v3) none fun x1=>(oo (toI .u32 v4) none fun x2=>(oo (toI .i64 v2) none fun x3=>(bb (nt (ieq x3 (0:Int))) (some (.tuple ⟨[(.agg ⟨[(.int .i64 (0:Int)),(Sl.v 1 (Sl.mk 0 2 []))]⟩),.int .i64 x3]⟩)) (oo (pu 68 [(.agg ⟨[.int .i64 x1,.int .u32 x2]⟩)]) none fun v5=>(oo (vAgg v5) none fun l2=>(ll l2 none fun v6 l2=>(ll l2 none fun v7 l2=>(ll l2 (oo (toI .i64 v6) none fun x4=>(oo (toI .u32 v7) none fun x5=>(oo (pu 66 [(.agg ⟨[.int .i64 x4,.int .u32 x5]⟩)]) none fun v8=>(oo (vAgg v8) none fun l3=>(ll l3 none fun v9 l3=>(ll l3 none fun v10 l3=>(ll l3 (oo (toI .i64 v9) none fun x6=>(oo (toSl 1 v10) none fun s1=>(some (.tuple ⟨[(.agg ⟨[.int .i64 x6,Sl.v 1 s1]⟩),(.int .i64 (0:Int))]⟩)))) fun _ _=>none))))))) fun _ _=>none))))))))) fun _ _=>none)))) fun _ _=>none)))))
def m19 (pu:PureF) (n:Nat) (args:LV):OV:=
 (ll args none fun a0 args=>(ll args (oo (vAgg a0) none fun l0=>(ll l0 none fun v0 l0=>(ll l0 none fun v1 l0=>(ll l0 (oo (toI .i64 v0) none fun x0=>(oo (toSl 1 v1) none fun s0=>(m19_ pu n x0 s0))) fun _ _=>none)))) fun _ _=>none))
theorem r19 {call:CallF} (pu:PureF) (n:Nat) (hcall:call = callP tabs isP pu (inl pu)) {args:LV} {v:Value} (hm:m19 pu n args = some v) (_:∀ x ∈ args,closed2 x = true):args.length≤18∧Run tt call 0 c19_11 (Fr.made 18 args) (pureHeap tabs) (Fin tt 0 [.cell 2 24,.tmp 3] v):=by
 subst hcall
 unfold m19 at hm
 replace hm:=ll_uncons hm;obtain ⟨a0,args_0,rfl,hm⟩:=hm
 replace hm:=ll_end hm;obtain ⟨rfl,hm⟩:=hm
 replace hm:=inv_vAgg hm;obtain ⟨l0,rfl,hm⟩:=hm
 replace hm:=ll_uncons hm;obtain ⟨v0,l2509_0,rfl,hm⟩:=hm
 replace hm:=ll_uncons hm;obtain ⟨v1,l2509_1,rfl,hm⟩:=hm
 replace hm:=ll_end hm;obtain ⟨rfl,hm⟩:=hm
 replace hm:=inv_toI hm;obtain ⟨x0,rfl,hm⟩:=hm
 replace hm:=inv_toSl hm;obtain ⟨s0,rfl,hm⟩:=hm
 unfold m19_ at hm
 refine ⟨by simp,?_⟩
 refine .same (F':=(fr 18 [(0,(.agg ⟨[zI x0,Sl.v 1 s0]⟩))])) (H':=(hp 0 [])) (by kernel_rfl) (by kernel_rfl) ?_
 refine .then (.rK ?_)
 refine .ghs (fr 18 [(1,(pt 0 0)),(2,pt 1 0)]) (hp 2 [(oC [zI x0,Sl.v 1 s0]),(oC [(zI (0:Int)),(.slice none 0 0)])]) (.k0 [] [.tmp 1 false,.tmp 2 false] [1,2]) ?_
 refine .then ?_
 replace hm:=oo_inv hm;obtain ⟨v2,h0,hm⟩:=hm
 replace hm:=inv_vTup hm;obtain ⟨l1,rfl,hm⟩:=hm
 replace hm:=ll_uncons hm;obtain ⟨v3,l2535_0,rfl,hm⟩:=hm
 replace hm:=ll_uncons hm;obtain ⟨v4,l2535_1,rfl,hm⟩:=hm
 replace hm:=ll_end hm;obtain ⟨rfl,hm⟩:=hm
 replace hm:=inv_vAgg hm;obtain ⟨l2,rfl,hm⟩:=hm
 replace hm:=ll_uncons hm;obtain ⟨v5,l2539_0,rfl,hm⟩:=hm
 replace hm:=ll_uncons hm;obtain ⟨v6,l2539_1,rfl,hm⟩:=hm
 replace hm:=ll_end hm;obtain ⟨rfl,hm⟩:=hm
 replace hm:=inv_toI hm;obtain ⟨x1,rfl,hm⟩:=hm
 replace hm:=inv_toI hm;obtain ⟨x2,rfl,hm⟩:=hm
 replace hm:=inv_toI hm;obtain ⟨x3,rfl,hm⟩:=hm
 refine .reg (eC 1 ((oo (pu 61 [(.agg ⟨[zI x0,Sl.v 1 s0]⟩)]) none fun v=>some (v,(hp 2 [(oC [zI x0,Sl.v 1 s0]),(oC [(zI (0:Int)),(.slice none 0 0)])])))) (call_eq h0) (eE)) ?_
 refine .ghs (fr 18 [(2,(pt 0 0)),(4,pt 1 0),(5,zI x3)]) (hp 2 [(oC [(zI (0:Int)),(.slice none 0 0)]),(oC [zI x1,.int .u32 x2])]) (.k0 [] [.tmp 2 false,.tmp 4 false] [2,4,5]) ?_
 refine .then ?_
 refine .then (.rK ?_)
 refine .ghs (fr 18 [(2,(pt 0 0)),(4,pt 1 0),(5,zI x3),(12,(zB (nt (ieq x3 (0:Int)))))]) (hp 2 [(oC [(zI (0:Int)),(.slice none 0 0)]),(oC [zI x1,.int .u32 x2])]) (.k0 [] [.tmp 2 false,.tmp 4 false] [2,4,5,12]) ?_
 replace hm:=bb_cases hm;rcases hm with ⟨h1,hm⟩ | ⟨h1,hm⟩
 ·refine .ifT (nt (ieq x3 (0 : Int))) (by kernel_rfl) h1 ?_
  refine .then (.rK ?_)
  refine .ghs (fr 18 [(2,(pt 0 0)),(3,zI x3)]) (hp 1 [(oC [(zI (0:Int)),(.slice none 0 0)])]) (.k0 [] [.tmp 2 false] [2,3]) ?_
  refine .ret ?_
  exact finT_ret (.tuple ⟨[(.agg ⟨[(zI (0:Int)),(.slice none 0 0)]⟩),zI x3]⟩) (.tuple ⟨[(.agg ⟨[(zI (0:Int)),(Sl.v 1 (Sl.mk 0 2 []))]⟩),zI x3]⟩) (by kernel_rfl) (Tell.tup (.cons (Tell.agg (.cons (Tell.refl _ _ _) (.cons (.weak (Weak.nil 1 2)) (TellL.nil _)))) (.cons (Tell.refl _ _ _) (TellL.nil _)))) (by kernel_rfl) hm
 ·refine .ifF (nt (ieq x3 (0 : Int))) (by kernel_rfl) h1 ?_
  refine .skip ?_
  refine .ghs (fr 18 [(2,(pt 0 0)),(4,pt 1 0)]) (hp 2 [(oC [(zI (0:Int)),(.slice none 0 0)]),(oC [zI x1,.int .u32 x2])]) (.k0 [] [.tmp 2 false,.tmp 4 false] [2,4]) ?_
  refine .then ?_
  replace hm:=oo_inv hm;obtain ⟨v7,h2,hm⟩:=hm
  replace hm:=inv_vAgg hm;obtain ⟨l3,rfl,hm⟩:=hm
  replace hm:=ll_uncons hm;obtain ⟨v8,l2572_0,rfl,hm⟩:=hm
  replace hm:=ll_uncons hm;obtain ⟨v9,l2572_1,rfl,hm⟩:=hm
  replace hm:=ll_end hm;obtain ⟨rfl,hm⟩:=hm
  replace hm:=inv_toI hm;obtain ⟨x4,rfl,hm⟩:=hm
  replace hm:=inv_toI hm;obtain ⟨x5,rfl,hm⟩:=hm
  replace hm:=oo_inv hm;obtain ⟨v10,h3,hm⟩:=hm
  replace hm:=inv_vAgg hm;obtain ⟨l4,rfl,hm⟩:=hm
  replace hm:=ll_uncons hm;obtain ⟨v11,l2582_0,rfl,hm⟩:=hm
  replace hm:=ll_uncons hm;obtain ⟨v12,l2582_1,rfl,hm⟩:=hm
  replace hm:=ll_end hm;obtain ⟨rfl,hm⟩:=hm
  replace hm:=inv_toI hm;obtain ⟨x6,rfl,hm⟩:=hm
  replace hm:=inv_toSl hm;obtain ⟨s1,rfl,hm⟩:=hm
  refine .reg (eC 1 ((oo (pu 68 [(.agg ⟨[zI x1,.int .u32 x2]⟩)]) none fun v=>some (v,(hp 2 [(oC [(zI (0:Int)),(.slice none 0 0)]),(oC [zI x1,.int .u32 x2])])))) (call_eq h2) (eD ((oo (pu 66 [(.agg ⟨[zI x4,.int .u32 x5]⟩)]) none fun v=>some (v,(hp 2 [(oC [(zI (0:Int)),(.slice none 0 0)]),(oC [zI x1,.int .u32 x2])])))) (call_eq h3) (eE))) ?_
  refine .ghs (fr 18 [(2,(pt 0 0)),(3,(zI (0:Int)))]) (hp 1 [(oC [zI x6,Sl.v 1 s1])]) (.k0 [] [.tmp 2 false] [2,3]) ?_
  refine .ret ?_
  exact fin_ret (.tuple ⟨[(.agg ⟨[zI x6,Sl.v 1 s1]⟩),(zI (0:Int))]⟩) (by kernel_rfl) (by kernel_rfl) hm

def m20_ (pu:PureF) (n:Nat) (x0:Int) (s0:Sl):OV:=
 (oo (pu 26 [(.agg ⟨[.int .i64 x0,Sl.v 1 s0]⟩)]) none fun v0=>(oo (toI .i64 v0) none fun x1=>(bb (nt (ieq x1 (0:Int))) (some (.tuple ⟨[(.agg ⟨[(.int .i64 (0:Int)),(Sl.v 1 (Sl.mk 0 2 []))]⟩),.int .i64 x1]⟩)) (oo (pu 69 [(.agg ⟨[.int .i64 x0,Sl.v 1 s0]⟩)]) none fun v1=>(oo (vAgg v1) none fun l0=>(ll l0 none fun v2 l0=>(ll l0 none fun v3 l0=>(ll l0 (oo (toI .i64 v2) none fun x2=>(oo (toSl 1 v3) none fun s1=>(some (.tuple ⟨[(.agg ⟨[.int .i64 x2,Sl.v 1 s1]⟩),(.int .i64 (0:Int))]⟩)))) fun _ _=>none))))))))
def m20 (pu:PureF) (n:Nat) (args:LV):OV:=
 (ll args none fun a0 args=>(ll args (oo (vAgg a0) none fun l0=>(ll l0 none fun v0 l0=>(ll l0 none fun v1 l0=>(ll l0 (oo (toI .i64 v0) none fun x0=>(oo (toSl 1 v1) none fun s0=>(m20_ pu n x0 s0))) fun _ _=>none)))) fun _ _=>none))
theorem r20 {call:CallF} (pu:PureF) (n:Nat) (hcall:call = callP tabs isP pu (inl pu)) {args:LV} {v:Value} (hm:m20 pu n args = some v) (_:∀ x ∈ args,closed2 x = true):args.length≤13∧Run tt call 0 c20_11 (Fr.made 13 args) (pureHeap tabs) (Fin tt 0 [.cell 2 26,.tmp 3] v):=by
 subst hcall
 unfold m20 at hm
 replace hm:=ll_uncons hm;obtain ⟨a0,args_0,rfl,hm⟩:=hm
 replace hm:=ll_end hm;obtain ⟨rfl,hm⟩:=hm
 replace hm:=inv_vAgg hm;obtain ⟨l0,rfl,hm⟩:=hm
 replace hm:=ll_uncons hm;obtain ⟨v0,l2590_0,rfl,hm⟩:=hm
 replace hm:=ll_uncons hm;obtain ⟨v1,l2590_1,rfl,hm⟩:=hm
 replace hm:=ll_end hm;obtain ⟨rfl,hm⟩:=hm
 replace hm:=inv_toI hm;obtain ⟨x0,rfl,hm⟩:=hm
 replace hm:=inv_toSl hm;obtain ⟨s0,rfl,hm⟩:=hm
 unfold m20_ at hm
 refine ⟨by simp,?_⟩
 refine .same (F':=(fr 13 [(0,(.agg ⟨[zI x0,Sl.v 1 s0]⟩))])) (H':=(hp 0 [])) (by kernel_rfl) (by kernel_rfl) ?_
 refine .then (.rK ?_)
 refine .ghs (fr 13 [(1,(pt 0 0)),(2,pt 1 0)]) (hp 2 [(oC [zI x0,Sl.v 1 s0]),(oC [(zI (0:Int)),(.slice none 0 0)])]) (.k0 [] [.tmp 1 false,.tmp 2 false] [1,2]) ?_
 refine .then ?_
 replace hm:=oo_inv hm;obtain ⟨v2,h0,hm⟩:=hm
 replace hm:=inv_toI hm;obtain ⟨x1,rfl,hm⟩:=hm
 refine .reg (eC 1 ((oo (pu 26 [(.agg ⟨[zI x0,Sl.v 1 s0]⟩)]) none fun v=>some (v,(hp 2 [(oC [zI x0,Sl.v 1 s0]),(oC [(zI (0:Int)),(.slice none 0 0)])])))) (call_eq h0) (eE)) ?_
 refine .ghs (fr 13 [(1,(pt 0 0)),(2,pt 1 0),(4,zI x1)]) (hp 2 [(oC [zI x0,Sl.v 1 s0]),(oC [(zI (0:Int)),(.slice none 0 0)])]) (.k0 [] [.tmp 1 false,.tmp 2 false] [1,2,4]) ?_
 refine .then ?_
 refine .then (.rK ?_)
 refine .ghs (fr 13 [(1,(pt 0 0)),(2,pt 1 0),(4,zI x1),(8,(zB (nt (ieq x1 (0:Int)))))]) (hp 2 [(oC [zI x0,Sl.v 1 s0]),(oC [(zI (0:Int)),(.slice none 0 0)])]) (.k0 [] [.tmp 1 false,.tmp 2 false] [1,2,4,8]) ?_
 replace hm:=bb_cases hm;rcases hm with ⟨h1,hm⟩ | ⟨h1,hm⟩
 ·refine .ifT (nt (ieq x1 (0 : Int))) (by kernel_rfl) h1 ?_
  refine .then (.rK ?_)
  refine .ghs (fr 13 [(2,(pt 0 0)),(3,zI x1)]) (hp 1 [(oC [(zI (0:Int)),(.slice none 0 0)])]) (.k0 [] [.tmp 2 false] [2,3]) ?_
  refine .ret ?_
  exact finT_ret (.tuple ⟨[(.agg ⟨[(zI (0:Int)),(.slice none 0 0)]⟩),zI x1]⟩) (.tuple ⟨[(.agg ⟨[(zI (0:Int)),(Sl.v 1 (Sl.mk 0 2 []))]⟩),zI x1]⟩) (by kernel_rfl) (Tell.tup (.cons (Tell.agg (.cons (Tell.refl _ _ _) (.cons (.weak (Weak.nil 1 2)) (TellL.nil _)))) (.cons (Tell.refl _ _ _) (TellL.nil _)))) (by kernel_rfl) hm
 ·refine .ifF (nt (ieq x1 (0 : Int))) (by kernel_rfl) h1 ?_
  refine .skip ?_
  refine .ghs (fr 13 [(1,(pt 0 0)),(2,pt 1 0)]) (hp 2 [(oC [zI x0,Sl.v 1 s0]),(oC [(zI (0:Int)),(.slice none 0 0)])]) (.k0 [] [.tmp 1 false,.tmp 2 false] [1,2]) ?_
  refine .then ?_
  replace hm:=oo_inv hm;obtain ⟨v3,h2,hm⟩:=hm
  replace hm:=inv_vAgg hm;obtain ⟨l1,rfl,hm⟩:=hm
  replace hm:=ll_uncons hm;obtain ⟨v4,l2619_0,rfl,hm⟩:=hm
  replace hm:=ll_uncons hm;obtain ⟨v5,l2619_1,rfl,hm⟩:=hm
  replace hm:=ll_end hm;obtain ⟨rfl,hm⟩:=hm
  replace hm:=inv_toI hm;obtain ⟨x2,rfl,hm⟩:=hm
  replace hm:=inv_toSl hm;obtain ⟨s1,rfl,hm⟩:=hm
  refine .reg (eC 1 ((oo (pu 69 [(.agg ⟨[zI x0,Sl.v 1 s0]⟩)]) none fun v=>some (v,(hp 2 [(oC [zI x0,Sl.v 1 s0]),(oC [(zI (0:Int)),(.slice none 0 0)])])))) (call_eq h2) (eE)) ?_
  refine .ghs (fr 13 [(2,(pt 0 0)),(3,(zI (0:Int)))]) (hp 1 [(oC [zI x2,Sl.v 1 s1])]) (.k0 [] [.tmp 2 false] [2,3]) ?_
  refine .ret ?_
  exact fin_ret (.tuple ⟨[(.agg ⟨[zI x2,Sl.v 1 s1]⟩),(zI (0:Int))]⟩) (by kernel_rfl) (by kernel_rfl) hm
def m21_0 (pu:PureF) (n:Nat) (b0:Bool) (z0 z1 z2 z3:Int):OV:=
 (bb b0 (some (.tuple ⟨[(.int .i64 (0:Int)),(.bool false),(.int .i64 (5:Int))]⟩)) (oo (pu 70 [(.agg ⟨[.int .i64 z0,.int .u32 z1]⟩),(.agg ⟨[.int .i64 z2,.int .u32 z3]⟩)]) none fun v0=>(oo (vTup v0) none fun l0=>(ll l0 none fun v1 l0=>(ll l0 none fun v2 l0=>(ll l0 (oo (toI .i64 v1) none fun x0=>(oo (vBool v2) none fun b1=>(bb b1 (some (.tuple ⟨[.int .i64 x0,(.bool false),(.int .i64 (0:Int))]⟩)) (oo (pu 71 [(.agg ⟨[.int .i64 z0,.int .u32 z1]⟩),(.int .i64 (-1:Int))]) none fun v3=>(oo (vAgg v3) none fun l1=>(ll l1 none fun v4 l1=>(ll l1 none fun v5 l1=>(ll l1 (oo (toI .i64 v4) none fun x1=>(oo (toI .u32 v5) none fun x2=>(oo (pu 70 [(.agg ⟨[.int .i64 x1,.int .u32 x2]⟩),(.agg ⟨[.int .i64 z2,.int .u32 z3]⟩)]) none fun v6=>(oo (vTup v6) none fun l2=>(ll l2 none fun v7 l2=>(ll l2 none fun v8 l2=>(ll l2 (oo (toI .i64 v7) none fun x3=>(oo (vBool v8) none fun b2=>(bb b2 (some (.tuple ⟨[.int .i64 x3,(.bool true),(.int .i64 (0:Int))]⟩)) (some (.tuple ⟨[(.int .i64 (0:Int)),(.bool false),(.int .i64 (12:Int))]⟩))))) fun _ _=>none))))))) fun _ _=>none)))))))) fun _ _=>none))))))
def m21_ (pu:PureF) (n:Nat) (x0:Int) (s0:Sl) (x1:Int) (s1:Sl):OV:=
 (oo (pu 61 [(.agg ⟨[.int .i64 x0,Sl.v 1 s0]⟩)]) none fun v0=>(oo (vTup v0) none fun l0=>(ll l0 none fun v1 l0=>(ll l0 none fun v2 l0=>(ll l0 (oo (vAgg v1) none fun l1=>(ll l1 none fun v3 l1=>(ll l1 none fun v4 l1=>(ll l1 (oo (toI .i64 v3) none fun x2=>(oo (toI .u32 v4) none fun x3=>(oo (toI .i64 v2) none fun x4=>(bb (nt (ieq x4 (0:Int))) (some (.tuple ⟨[(.int .i64 (0:Int)),(.bool false),.int .i64 x4]⟩)) (oo (pu 61 [(.agg ⟨[.int .i64 x1,Sl.v 1 s1]⟩)]) none fun v5=>(oo (vTup v5) none fun l2=>(ll l2 none fun v6 l2=>(ll l2 none fun v7 l2=>(ll l2 (oo (vAgg v6) none fun l3=>(ll l3 none fun v8 l3=>(ll l3 none fun v9 l3=>(ll l3 (oo (toI .i64 v8) none fun x5=>(oo (toI .u32 v9) none fun x6=>(oo (toI .i64 v7) none fun x7=>(bb (nt (ieq x7 (0:Int))) (some (.tuple ⟨[(.int .i64 (0:Int)),(.bool false),.int .i64 x7]⟩)) (bb (nt (ieq x2 x5)) (m21_0 pu n true x2 x3 x5 x6) (m21_0 pu n (nt (ieq (Int.ofNat (Sl.n s0)) (Int.ofNat (Sl.n s1)))) x2 x3 x5 x6)))))) fun _ _=>none)))) fun _ _=>none))))))))) fun _ _=>none)))) fun _ _=>none)))))
def m21 (pu:PureF) (n:Nat) (args:LV):OV:=
 (ll args none fun a0 args=>(ll args none fun a1 args=>(ll args (oo (vAgg a0) none fun l0=>(ll l0 none fun v0 l0=>(ll l0 none fun v1 l0=>(ll l0 (oo (toI .i64 v0) none fun x0=>(oo (toSl 1 v1) none fun s0=>(oo (vAgg a1) none fun l1=>(ll l1 none fun v2 l1=>(ll l1 none fun v3 l1=>(ll l1 (oo (toI .i64 v2) none fun x1=>(oo (toSl 1 v3) none fun s1=>(m21_ pu n x0 s0 x1 s1))) fun _ _=>none)))))) fun _ _=>none)))) fun _ _=>none)))
theorem r21 {call:CallF} (pu:PureF) (n:Nat) (hcall:call = callP tabs isP pu (inl pu)) {args:LV} {v:Value} (hm:m21 pu n args = some v) (_:∀ x ∈ args,closed2 x = true):args.length≤62∧Run tt call 0 c21_41 (Fr.made 62 args) (pureHeap tabs) (Fin tt 0 [.tmp 4,.tmp 5,.tmp 6] v):=by
 subst hcall
 unfold m21 at hm
 replace hm:=ll_uncons hm;obtain ⟨a0,args_0,rfl,hm⟩:=hm
 replace hm:=ll_uncons hm;obtain ⟨a1,args_1,rfl,hm⟩:=hm
 replace hm:=ll_end hm;obtain ⟨rfl,hm⟩:=hm
 replace hm:=inv_vAgg hm;obtain ⟨l0,rfl,hm⟩:=hm
 replace hm:=ll_uncons hm;obtain ⟨v0,l2627_0,rfl,hm⟩:=hm
 replace hm:=ll_uncons hm;obtain ⟨v1,l2627_1,rfl,hm⟩:=hm
 replace hm:=ll_end hm;obtain ⟨rfl,hm⟩:=hm
 replace hm:=inv_toI hm;obtain ⟨x0,rfl,hm⟩:=hm
 replace hm:=inv_toSl hm;obtain ⟨s0,rfl,hm⟩:=hm
 replace hm:=inv_vAgg hm;obtain ⟨l1,rfl,hm⟩:=hm
 replace hm:=ll_uncons hm;obtain ⟨v2,l2635_0,rfl,hm⟩:=hm
 replace hm:=ll_uncons hm;obtain ⟨v3,l2635_1,rfl,hm⟩:=hm
 replace hm:=ll_end hm;obtain ⟨rfl,hm⟩:=hm
 replace hm:=inv_toI hm;obtain ⟨x1,rfl,hm⟩:=hm
 replace hm:=inv_toSl hm;obtain ⟨s1,rfl,hm⟩:=hm
 unfold m21_ at hm
 refine ⟨by simp,?_⟩
 refine .same (F':=(fr 62 [(0,(.agg ⟨[zI x0,Sl.v 1 s0]⟩)),(1,(.agg ⟨[zI x1,Sl.v 1 s1]⟩))])) (H':=(hp 0 [])) (by kernel_rfl) (by kernel_rfl) ?_
 refine .then (.rK ?_)
 refine .ghs (fr 62 [(2,(pt 0 0)),(3,pt 1 0)]) (hp 2 [(oC [zI x0,Sl.v 1 s0]),(oC [zI x1,Sl.v 1 s1])]) (.k0 [] [.tmp 2 false,.tmp 3 false] [2,3]) ?_
 refine .then ?_
 replace hm:=oo_inv hm;obtain ⟨v4,h0,hm⟩:=hm
 replace hm:=inv_vTup hm;obtain ⟨l2,rfl,hm⟩:=hm
 replace hm:=ll_uncons hm;obtain ⟨v5,l2661_0,rfl,hm⟩:=hm
 replace hm:=ll_uncons hm;obtain ⟨v6,l2661_1,rfl,hm⟩:=hm
 replace hm:=ll_end hm;obtain ⟨rfl,hm⟩:=hm
 replace hm:=inv_vAgg hm;obtain ⟨l3,rfl,hm⟩:=hm
 replace hm:=ll_uncons hm;obtain ⟨v7,l2665_0,rfl,hm⟩:=hm
 replace hm:=ll_uncons hm;obtain ⟨v8,l2665_1,rfl,hm⟩:=hm
 replace hm:=ll_end hm;obtain ⟨rfl,hm⟩:=hm
 replace hm:=inv_toI hm;obtain ⟨x2,rfl,hm⟩:=hm
 replace hm:=inv_toI hm;obtain ⟨x3,rfl,hm⟩:=hm
 replace hm:=inv_toI hm;obtain ⟨x4,rfl,hm⟩:=hm
 refine .reg (eC 1 ((oo (pu 61 [(.agg ⟨[zI x0,Sl.v 1 s0]⟩)]) none fun v=>some (v,(hp 2 [(oC [zI x0,Sl.v 1 s0]),(oC [zI x1,Sl.v 1 s1])])))) (call_eq h0) (eE)) ?_
 refine .ghs (fr 62 [(2,(pt 0 0)),(3,pt 1 0),(6,zI x4),(7,(pt 2 0))]) (hp 3 [(oC [zI x0,Sl.v 1 s0]),(oC [zI x1,Sl.v 1 s1]),(oC [zI x2,.int .u32 x3])]) (.k0 [] [.tmp 2 false,.tmp 3 false,.tmp 7 false] [2,3,6,7]) ?_
 refine .then ?_
 refine .then (.rK ?_)
 refine .ghs (fr 62 [(2,(pt 0 0)),(3,pt 1 0),(6,zI x4),(7,(pt 2 0)),(19,(zB (nt (ieq x4 (0:Int)))))]) (hp 3 [(oC [zI x0,Sl.v 1 s0]),(oC [zI x1,Sl.v 1 s1]),(oC [zI x2,.int .u32 x3])]) (.k0 [] [.tmp 2 false,.tmp 3 false,.tmp 7 false] [2,3,6,7,19]) ?_
 replace hm:=bb_cases hm;rcases hm with ⟨h1,hm⟩ | ⟨h1,hm⟩
 ·refine .ifT (nt (ieq x4 (0 : Int))) (by kernel_rfl) h1 ?_
  refine .then (.rK ?_)
  refine .ghs (fr 62 [(4,(zI (0:Int))),(5,zB false),(6,zI x4)]) (hp 0 []) (.k0 [] [] [4,5,6]) ?_
  refine .ret ?_
  exact fin_ret (.tuple ⟨[(zI (0:Int)),zB false,zI x4]⟩) (by kernel_rfl) (by kernel_rfl) hm
 ·refine .ifF (nt (ieq x4 (0 : Int))) (by kernel_rfl) h1 ?_
  refine .skip ?_
  refine .ghs (fr 62 [(2,(pt 0 0)),(3,pt 1 0),(7,(pt 2 0))]) (hp 3 [(oC [zI x0,Sl.v 1 s0]),(oC [zI x1,Sl.v 1 s1]),(oC [zI x2,.int .u32 x3])]) (.k0 [] [.tmp 2 false,.tmp 3 false,.tmp 7 false] [2,3,7]) ?_
  refine .then ?_
  replace hm:=oo_inv hm;obtain ⟨v9,h2,hm⟩:=hm
  replace hm:=inv_vTup hm;obtain ⟨l4,rfl,hm⟩:=hm
  replace hm:=ll_uncons hm;obtain ⟨v10,l2694_0,rfl,hm⟩:=hm
  replace hm:=ll_uncons hm;obtain ⟨v11,l2694_1,rfl,hm⟩:=hm
  replace hm:=ll_end hm;obtain ⟨rfl,hm⟩:=hm
  replace hm:=inv_vAgg hm;obtain ⟨l5,rfl,hm⟩:=hm
  replace hm:=ll_uncons hm;obtain ⟨v12,l2698_0,rfl,hm⟩:=hm
  replace hm:=ll_uncons hm;obtain ⟨v13,l2698_1,rfl,hm⟩:=hm
  replace hm:=ll_end hm;obtain ⟨rfl,hm⟩:=hm
  replace hm:=inv_toI hm;obtain ⟨x5,rfl,hm⟩:=hm
  replace hm:=inv_toI hm;obtain ⟨x6,rfl,hm⟩:=hm
  replace hm:=inv_toI hm;obtain ⟨x7,rfl,hm⟩:=hm
  refine .reg (eC 1 ((oo (pu 61 [(.agg ⟨[zI x1,Sl.v 1 s1]⟩)]) none fun v=>some (v,(hp 3 [(oC [zI x0,Sl.v 1 s0]),(oC [zI x1,Sl.v 1 s1]),(oC [zI x2,.int .u32 x3])])))) (call_eq h2) (eE)) ?_
  refine .ghs (fr 62 [(2,(pt 0 0)),(3,pt 1 0),(6,zI x7),(7,(pt 2 0)),(8,(pt 3 0))]) (hp 4 [(oC [zI x0,Sl.v 1 s0]),(oC [zI x1,Sl.v 1 s1]),(oC [zI x2,.int .u32 x3]),(oC [zI x5,.int .u32 x6])]) (.k0 [] [.tmp 2 false,.tmp 3 false,.tmp 7 false,.tmp 8 false] [2,3,6,7,8]) ?_
  refine .then ?_
  refine .block ?_
  refine .then (.rK ?_)
  refine .ghs (fr 62 [(2,(pt 0 0)),(3,pt 1 0),(6,zI x7),(7,(pt 2 0)),(8,(pt 3 0)),(26,(zB (nt (ieq x7 (0:Int)))))]) (hp 4 [(oC [zI x0,Sl.v 1 s0]),(oC [zI x1,Sl.v 1 s1]),(oC [zI x2,.int .u32 x3]),(oC [zI x5,.int .u32 x6])]) (.k0 [] [.tmp 2 false,.tmp 3 false,.tmp 7 false,.tmp 8 false] [2,3,6,7,8,26]) ?_
  replace hm:=bb_cases hm;rcases hm with ⟨h3,hm⟩ | ⟨h3,hm⟩
  ·refine .ifT (nt (ieq x7 (0 : Int))) (by kernel_rfl) h3 ?_
   refine .then (.rK ?_)
   refine .ghs (fr 62 [(4,(zI (0:Int))),(5,zB false),(6,zI x7)]) (hp 0 []) (.k0 [] [] [4,5,6]) ?_
   refine .ret ?_
   exact fin_ret (.tuple ⟨[(zI (0:Int)),zB false,zI x7]⟩) (by kernel_rfl) (by kernel_rfl) hm
  ·refine .ifF (nt (ieq x7 (0 : Int))) (by kernel_rfl) h3 ?_
   refine .join (v:=v) (fun y:Bool×Int×Int×Int×Int=>((fr 62 [(7,(pt 0 0)),(8,pt 1 0),(30,(zB y.1))]),(hp 2 [(oC [(zI y.2.1),(.int .u32 y.2.2.1)]),(oC [(zI y.2.2.2.1),(.int .u32 y.2.2.2.2)])]))) (fun y=>m21_0 pu n y.1 y.2.1 y.2.2.1 y.2.2.2.1 y.2.2.2.2) ?_ ?_
   ·rintro ⟨b0, z0, z1, z2, z3⟩ hm
    unfold m21_0 at hm
    replace hm:=bb_cases hm;rcases hm with ⟨h4,hm⟩ | ⟨h4,hm⟩
    ·refine .ifT b0 (by kernel_rfl) h4 ?_
     refine .then (.rK ?_)
     refine .ghs (fr 62 [(4,(zI (0:Int))),(5,zB false),(6,(zI (5:Int)))]) (hp 0 []) (.k0 [] [] [4,5,6]) ?_
     refine .ret ?_
     exact fin_ret (.tuple ⟨[(zI (0:Int)),zB false,(zI (5:Int))]⟩) (by kernel_rfl) (by kernel_rfl) hm
    ·refine .ifF b0 (by kernel_rfl) h4 ?_
     refine .skip ?_
     refine .ghs (fr 62 [(7,(pt 0 0)),(8,pt 1 0)]) (hp 2 [(oC [zI z0,.int .u32 z1]),(oC [zI z2,.int .u32 z3])]) (.k0 [] [.tmp 7 false,.tmp 8 false] [7,8]) ?_
     refine .then ?_
     refine .then ?_
     replace hm:=oo_inv hm;obtain ⟨v14,h5,hm⟩:=hm
     replace hm:=inv_vTup hm;obtain ⟨l6,rfl,hm⟩:=hm
     replace hm:=ll_uncons hm;obtain ⟨v15,l2729_0,rfl,hm⟩:=hm
     replace hm:=ll_uncons hm;obtain ⟨v16,l2729_1,rfl,hm⟩:=hm
     replace hm:=ll_end hm;obtain ⟨rfl,hm⟩:=hm
     replace hm:=inv_toI hm;obtain ⟨x8,rfl,hm⟩:=hm
     replace hm:=inv_vBool hm;obtain ⟨b1,rfl,hm⟩:=hm
     refine .reg (eC 2 ((oo (pu 70 [(.agg ⟨[zI z0,.int .u32 z1]⟩),(.agg ⟨[zI z2,.int .u32 z3]⟩)]) none fun v=>some (v,(hp 2 [(oC [zI z0,.int .u32 z1]),(oC [zI z2,.int .u32 z3])])))) (call_eq h5) (eE)) ?_
     refine .ghs (fr 62 [(7,(pt 0 0)),(8,pt 1 0),(9,zI x8),(10,zB b1)]) (hp 2 [(oC [zI z0,.int .u32 z1]),(oC [zI z2,.int .u32 z3])]) (.k0 [] [.tmp 7 false,.tmp 8 false] [7,8,9,10]) ?_
     refine .then (.rK ?_)
     refine .ghs (fr 62 [(7,(pt 0 0)),(8,pt 1 0),(9,zI x8),(51,zB b1)]) (hp 2 [(oC [zI z0,.int .u32 z1]),(oC [zI z2,.int .u32 z3])]) (.k0 [] [.tmp 7 false,.tmp 8 false] [7,8,9,51]) ?_
     replace hm:=bb_cases hm;rcases hm with ⟨h6,hm⟩ | ⟨h6,hm⟩
     ·refine .ifT b1 (by kernel_rfl) h6 ?_
      refine .then (.rK ?_)
      refine .ghs (fr 62 [(4,zI x8),(5,zB false),(6,(zI (0:Int)))]) (hp 0 []) (.k0 [] [] [4,5,6]) ?_
      refine .ret ?_
      exact fin_ret (.tuple ⟨[zI x8,zB false,(zI (0:Int))]⟩) (by kernel_rfl) (by kernel_rfl) hm
     ·refine .ifF b1 (by kernel_rfl) h6 ?_
      refine .skip ?_
      refine .ghs (fr 62 [(7,(pt 0 0)),(8,pt 1 0)]) (hp 2 [(oC [zI z0,.int .u32 z1]),(oC [zI z2,.int .u32 z3])]) (.k0 [] [.tmp 7 false,.tmp 8 false] [7,8]) ?_
      refine .then ?_
      refine .then ?_
      replace hm:=oo_inv hm;obtain ⟨v17,h7,hm⟩:=hm
      replace hm:=inv_vAgg hm;obtain ⟨l7,rfl,hm⟩:=hm
      replace hm:=ll_uncons hm;obtain ⟨v18,l2760_0,rfl,hm⟩:=hm
      replace hm:=ll_uncons hm;obtain ⟨v19,l2760_1,rfl,hm⟩:=hm
      replace hm:=ll_end hm;obtain ⟨rfl,hm⟩:=hm
      replace hm:=inv_toI hm;obtain ⟨x9,rfl,hm⟩:=hm
      replace hm:=inv_toI hm;obtain ⟨x10,rfl,hm⟩:=hm
      replace hm:=oo_inv hm;obtain ⟨v20,h8,hm⟩:=hm
      replace hm:=inv_vTup hm;obtain ⟨l8,rfl,hm⟩:=hm
      replace hm:=ll_uncons hm;obtain ⟨v21,l2770_0,rfl,hm⟩:=hm
      replace hm:=ll_uncons hm;obtain ⟨v22,l2770_1,rfl,hm⟩:=hm
      replace hm:=ll_end hm;obtain ⟨rfl,hm⟩:=hm
      replace hm:=inv_toI hm;obtain ⟨x11,rfl,hm⟩:=hm
      replace hm:=inv_vBool hm;obtain ⟨b2,rfl,hm⟩:=hm
      refine .reg (eC 2 ((oo (pu 71 [(.agg ⟨[zI z0,.int .u32 z1]⟩),(zI (-1:Int))]) none fun v=>some (v,(hp 2 [(oC [zI z0,.int .u32 z1]),(oC [zI z2,.int .u32 z3])])))) (call_eq h7) (eD ((oo (pu 70 [(.agg ⟨[zI x9,.int .u32 x10]⟩),(.agg ⟨[zI z2,.int .u32 z3]⟩)]) none fun v=>some (v,(hp 2 [(oC [zI z0,.int .u32 z1]),(oC [zI z2,.int .u32 z3])])))) (call_eq h8) (eE))) ?_
      refine .ghs (fr 62 [(11,zI x11),(12,zB b2)]) (hp 0 []) (.k0 [] [] [11,12]) ?_
      refine .then (.rK ?_)
      refine .ghs (fr 62 [(11,zI x11),(60,zB b2)]) (hp 0 []) (.k0 [] [] [11,60]) ?_
      replace hm:=bb_cases hm;rcases hm with ⟨h9,hm⟩ | ⟨h9,hm⟩
      ·refine .ifT b2 (by kernel_rfl) h9 ?_
       refine .then (.rK ?_)
       refine .ghs (fr 62 [(4,zI x11),(5,zB true),(6,(zI (0:Int)))]) (hp 0 []) (.k0 [] [] [4,5,6]) ?_
       refine .ret ?_
       exact fin_ret (.tuple ⟨[zI x11,zB true,(zI (0:Int))]⟩) (by kernel_rfl) (by kernel_rfl) hm
      ·refine .ifF b2 (by kernel_rfl) h9 ?_
       refine .skip ?_
       refine .ghs (fr 62 []) (hp 0 []) (.k0 [] [] []) ?_
       refine .then (.rK ?_)
       refine .ghs (fr 62 [(4,(zI (0:Int))),(5,zB false),(6,(zI (12:Int)))]) (hp 0 []) (.k0 [] [] [4,5,6]) ?_
       refine .ret ?_
       exact fin_ret (.tuple ⟨[(zI (0:Int)),zB false,(zI (12:Int))]⟩) (by kernel_rfl) (by kernel_rfl) hm
   ·replace hm := bb_cases hm; rcases hm with ⟨h10, hm⟩ | ⟨h10, hm⟩
    ·refine .reg (eC 4 (some ((zB (nt (ieq x2 x5))), (hp 4 [(oC [zI x0, Sl.v 1 s0]), (oC [zI x1, Sl.v 1 s1]), (oC [zI x2, .int .u32 x3]), (oC [zI x5, .int .u32 x6])]))) (show _ = some ((zB true), _) from (by rw [h10])) (eE)) ?_
     exact ⟨(true,x2,x3,x5,x6),hm,(.k0 [] [.tmp 7 false,.tmp 8 false] [7,8,30])⟩
    ·refine .reg (eC 4 (some ((zB (nt (ieq x2 x5))), (hp 4 [(oC [zI x0, Sl.v 1 s0]), (oC [zI x1, Sl.v 1 s1]), (oC [zI x2, .int .u32 x3]), (oC [zI x5, .int .u32 x6])]))) (show _ = some ((zB false), _) from (by rw [h10])) (eE)) ?_
     exact ⟨((nt (ieq (Int.ofNat (Sl.n s0)) (Int.ofNat (Sl.n s1)))),x2,x3,x5,x6),hm,(.k0 [] [.tmp 7 false,.tmp 8 false] [7,8,30])⟩
def m22_3 (pu:PureF) (n:Nat):OV:=
 (some (.tuple ⟨[(.int .i64 (0:Int)),(.bool false),(.int .i64 (12:Int))]⟩))
def b22_4 (pu:PureF) (n:Nat) (ih0:Int→Int→Sl→Int→Sl→OV) (z0 z1:Int) (s0:Sl) (z2:Int) (s1:Sl):OV:=
 (bb (ilt z0 z1) (oo (pu 67 [(.agg ⟨[.int .i64 z1,Sl.v 1 s0]⟩),(.int .i64 (-1:Int)),.int .i64 z0]) none fun v0=>(oo (vAgg v0) none fun l0=>(ll l0 none fun v1 l0=>(ll l0 none fun v2 l0=>(ll l0 (oo (toI .i64 v1) none fun x0=>(oo (toSl 1 v2) none fun s2=>(oo (pu 72 [Sl.v 1 s2,Sl.v 1 s1]) none fun v3=>(oo (vBool v3) none fun b0=>(bb b0 (some (.tuple ⟨[.int .i64 z0,(.bool true),(.int .i64 (0:Int))]⟩)) (ih0 (wrapF .i64 (Int.add z0 (1:Int))) z1 s0 z2 s1)))))) fun _ _=>none))))) (m22_3 pu n))
def l22_4 (pu:PureF) (n w:Nat):Int→Int→Sl→Int→Sl→OV:=
 Nat.rec (motive:=fun _=>Int→Int→Sl→Int→Sl→OV) (fun _ _ _ _ _=>none) (fun _ ih0=>b22_4 pu n ih0) w
def m22_2 (pu:PureF) (n:Nat) (z0:Int) (s0:Sl) (z1:Int) (s1:Sl):OV:=
 (l22_4 pu n n (0:Int) z0 s0 z1 s1)
def b22_5 (pu:PureF) (n:Nat) (ih0:Int→Int→Sl→Int→Sl→OV) (z0 z1:Int) (s0:Sl) (z2:Int) (s1:Sl):OV:=
 (bb (ilt z0 z1) (oo (pu 67 [(.agg ⟨[.int .i64 z1,Sl.v 1 s0]⟩),(.int .i64 (1:Int)),.int .i64 z0]) none fun v0=>(oo (vAgg v0) none fun l0=>(ll l0 none fun v1 l0=>(ll l0 none fun v2 l0=>(ll l0 (oo (toI .i64 v1) none fun x0=>(oo (toSl 1 v2) none fun s2=>(oo (pu 72 [Sl.v 1 s2,Sl.v 1 s1]) none fun v3=>(oo (vBool v3) none fun b0=>(bb b0 (some (.tuple ⟨[.int .i64 z0,(.bool false),(.int .i64 (0:Int))]⟩)) (ih0 (wrapF .i64 (Int.add z0 (1:Int))) z1 s0 z2 s1)))))) fun _ _=>none))))) (m22_2 pu n z1 s0 z2 s1))
def l22_5 (pu:PureF) (n w:Nat):Int→Int→Sl→Int→Sl→OV:=
 Nat.rec (motive:=fun _=>Int→Int→Sl→Int→Sl→OV) (fun _ _ _ _ _=>none) (fun _ ih0=>b22_5 pu n ih0) w
def m22_1 (pu:PureF) (n:Nat) (z0 z1:Int) (s0:Sl) (z2:Int) (s1:Sl):OV:=
 (bb (nt (ieq z0 (0:Int))) (some (.tuple ⟨[(.int .i64 (0:Int)),(.bool false),.int .i64 z0]⟩)) (l22_5 pu n n (0:Int) z1 s0 z2 s1))
def m22_6 (pu:PureF) (n:Nat) (z0:Int) (b0:Bool) (z1:Int) (s0:Sl) (z2:Int) (s1:Sl):OV:=
 (bb b0 (m22_1 pu n (5:Int) z1 s0 z2 s1) (m22_1 pu n z0 z1 s0 z2 s1))
def m22_0 (pu:PureF) (n:Nat) (z0 z1:Int) (s0:Sl) (z2:Int) (s1:Sl):OV:=
 (bb (ieq z0 (0:Int)) (bb (nt (ieq z1 z2)) (m22_6 pu n z0 true z1 s0 z2 s1) (m22_6 pu n z0 (nt (ieq (Int.ofNat (Sl.n s0)) (Int.ofNat (Sl.n s1)))) z1 s0 z2 s1)) (m22_6 pu n z0 false z1 s0 z2 s1))
def m22_ (pu:PureF) (n:Nat) (x0:Int) (s0:Sl) (x1:Int) (s1:Sl):OV:=
 (oo (pu 26 [(.agg ⟨[.int .i64 x0,Sl.v 1 s0]⟩)]) none fun v0=>(oo (toI .i64 v0) none fun x2=>(bb (ieq x2 (0:Int)) (oo (pu 26 [(.agg ⟨[.int .i64 x1,Sl.v 1 s1]⟩)]) none fun v1=>(oo (toI .i64 v1) none fun x3=>(m22_0 pu n x3 x0 s0 x1 s1))) (m22_0 pu n x2 x0 s0 x1 s1))))
def m22 (pu:PureF) (n:Nat) (args:LV):OV:=
 (ll args none fun a0 args=>(ll args none fun a1 args=>(ll args (oo (vAgg a0) none fun l0=>(ll l0 none fun v0 l0=>(ll l0 none fun v1 l0=>(ll l0 (oo (toI .i64 v0) none fun x0=>(oo (toSl 1 v1) none fun s0=>(oo (vAgg a1) none fun l1=>(ll l1 none fun v2 l1=>(ll l1 none fun v3 l1=>(ll l1 (oo (toI .i64 v2) none fun x1=>(oo (toSl 1 v3) none fun s1=>(m22_ pu n x0 s0 x1 s1))) fun _ _=>none)))))) fun _ _=>none)))) fun _ _=>none)))
theorem w22_3 (pu:PureF) (n:Nat) {v:Value} (hm:m22_3 pu n = some v):Run tt (callP tabs isP pu (inl pu)) 0 c22_48 (fr 65 []) (hp 0 []) (Fin tt 0 [.tmp 4,.tmp 5,.tmp 6] v):=by
 unfold m22_3 at hm
 refine .then (.rK ?_)
 refine .ghs (fr 65 [(4,(zI (0:Int))),(5,zB false),(6,(zI (12:Int)))]) (hp 0 []) (.k0 [] [] [4,5,6]) ?_
 refine .ret ?_
 exact fin_ret (.tuple ⟨[(zI (0:Int)),zB false,(zI (12:Int))]⟩) (by kernel_rfl) (by kernel_rfl) hm
theorem w22_2 (pu:PureF) (n:Nat) (z0:Int) (s0:Sl) (z1:Int) (s1:Sl) {v:Value} (hm:m22_2 pu n z0 s0 z1 s1 = some v):Run tt (callP tabs isP pu (inl pu)) 0 c22_49 (fr 65 [(2,(pt 0 0)),(3,pt 1 0)]) (hp 2 [(oC [zI z0,Sl.v 1 s0]),(oC [zI z1,Sl.v 1 s1])]) (Fin tt 0 [.tmp 4,.tmp 5,.tmp 6] v):=by
 unfold m22_2 at hm
 refine .join (v:=v) (fun y:Unit=>((fr 65 []),(hp 0 []))) (fun y=>m22_3 pu n) ?_ ?_
 ·rintro _ hm
  exact w22_3 pu n hm
 ·refine .then (.rK ?_)
  refine .ghs (fr 65 [(2,(pt 0 0)),(3,pt 1 0),(9,(zI (0:Int)))]) (hp 2 [(oC [zI z0,Sl.v 1 s0]),(oC [zI z1,Sl.v 1 s1])]) (.k0 [] [.tmp 2 false,.tmp 3 false] [2,3,9]) ?_
  refine .block ?_
  refine .loopM (v:=v) (fun y:Int×Int×Sl×Int×Sl=>((fr 65 [(2,(pt 0 0)),(3,pt 1 0),(9,(zI y.1))]),(hp 2 [(oC [(zI y.2.1),(Sl.v 1 y.2.2.1)]),(oC [(zI y.2.2.2.1),(Sl.v 1 y.2.2.2.2)])]))) (fun w y=>l22_4 pu n w y.1 y.2.1 y.2.2.1 y.2.2.2.1 y.2.2.2.2) n ⟨((0:Int),z0,s0,z1,s1),hm,(.k0 [] [.tmp 2 false,.tmp 3 false] [2,3,9])⟩ (fun _=>rfl) ?_
  rintro w0 ⟨z2,z3,s2,z4,s3⟩ hm
  replace hm:b22_4 pu n (l22_4 pu n w0) z2 z3 s2 z4 s3 = some v:=hm
  unfold b22_4 at hm
  refine .then ?_
  refine .then (.rK ?_)
  refine .ghs (fr 65 [(2,(pt 0 0)),(3,pt 1 0),(9,zI z2),(54,(zB (ilt z2 z3)))]) (hp 2 [(oC [zI z3,Sl.v 1 s2]),(oC [zI z4,Sl.v 1 s3])]) (.k0 [] [.tmp 2 false,.tmp 3 false] [2,3,9,54]) ?_
  replace hm:=bb_cases hm;rcases hm with ⟨h0,hm⟩ | ⟨h0,hm⟩
  ·refine .ifT (ilt z2 z3) (by kernel_rfl) h0 ?_
   refine .skip ?_
   refine .ghs (fr 65 [(2,(pt 0 0)),(3,pt 1 0),(9,zI z2)]) (hp 2 [(oC [zI z3,Sl.v 1 s2]),(oC [zI z4,Sl.v 1 s3])]) (.k0 [] [.tmp 2 false,.tmp 3 false] [2,3,9]) ?_
   refine .then ?_
   refine .block ?_
   refine .then ?_
   replace hm:=oo_inv hm;obtain ⟨v0,h1,hm⟩:=hm
   replace hm:=inv_vAgg hm;obtain ⟨l0,rfl,hm⟩:=hm
   replace hm:=ll_uncons hm;obtain ⟨v1,l2936_0,rfl,hm⟩:=hm
   replace hm:=ll_uncons hm;obtain ⟨v2,l2936_1,rfl,hm⟩:=hm
   replace hm:=ll_end hm;obtain ⟨rfl,hm⟩:=hm
   replace hm:=inv_toI hm;obtain ⟨x0,rfl,hm⟩:=hm
   replace hm:=inv_toSl hm;obtain ⟨s4,rfl,hm⟩:=hm
   replace hm:=oo_inv hm;obtain ⟨v3,h2,hm⟩:=hm
   replace hm:=inv_vBool hm;obtain ⟨b0,rfl,hm⟩:=hm
   refine .reg (eC 4 ((oo (pu 67 [(.agg ⟨[zI z3,Sl.v 1 s2]⟩),(zI (-1:Int)),zI z2]) none fun v=>some (v,(hp 2 [(oC [zI z3,Sl.v 1 s2]),(oC [zI z4,Sl.v 1 s3])])))) (call_eq h1) (eC 1 ((oo (pu 72 [Sl.v 1 s4,Sl.v 1 s3]) none fun v=>some (v,(hp 2 [(oC [zI z3,Sl.v 1 s2]),(oC [zI z4,Sl.v 1 s3])])))) (call_eq h2) (eE))) ?_
   refine .ghs (fr 65 [(2,(pt 0 0)),(3,pt 1 0),(9,zI z2),(63,zB b0)]) (hp 2 [(oC [zI z3,Sl.v 1 s2]),(oC [zI z4,Sl.v 1 s3])]) (.k0 [] [.tmp 2 false,.tmp 3 false] [2,3,9,63]) ?_
   replace hm:=bb_cases hm;rcases hm with ⟨h3,hm⟩ | ⟨h3,hm⟩
   ·refine .ifT b0 (by kernel_rfl) h3 ?_
    refine .then (.rK ?_)
    refine .ghs (fr 65 [(4,zI z2),(5,zB true),(6,(zI (0:Int)))]) (hp 0 []) (.k0 [] [] [4,5,6]) ?_
    refine .ret ?_
    exact fin_ret (.tuple ⟨[zI z2,zB true,(zI (0:Int))]⟩) (by kernel_rfl) (by kernel_rfl) hm
   ·refine .ifF b0 (by kernel_rfl) h3 ?_
    refine .skip ?_
    refine .ghs (fr 65 [(2,(pt 0 0)),(3,pt 1 0),(9,zI z2)]) (hp 2 [(oC [zI z3,Sl.v 1 s2]),(oC [zI z4,Sl.v 1 s3])]) (.k0 [] [.tmp 2 false,.tmp 3 false] [2,3,9]) ?_
    refine .rK ?_
    exact ⟨((wrapF .i64 (Int.add z2 (1:Int))),z3,s2,z4,s3),hm,(.k0 [] [.tmp 2 false,.tmp 3 false] [2,3,9])⟩
  ·refine .ifF (ilt z2 z3) (by kernel_rfl) h0 ?_
   refine .exit ?_
   exact ⟨(),hm,(.k0 [] [] [])⟩
theorem w22_1 (pu:PureF) (n:Nat) (z0 z1:Int) (s0:Sl) (z2:Int) (s1:Sl) {v:Value} (hm:m22_1 pu n z0 z1 s0 z2 s1 = some v):Run tt (callP tabs isP pu (inl pu)) 0 c22_51 (fr 65 [(2,(pt 0 0)),(3,pt 1 0),(7,zI z0)]) (hp 2 [(oC [zI z1,Sl.v 1 s0]),(oC [zI z2,Sl.v 1 s1])]) (Fin tt 0 [.tmp 4,.tmp 5,.tmp 6] v):=by
 unfold m22_1 at hm
 refine .then ?_
 refine .then (.rK ?_)
 refine .ghs (fr 65 [(2,(pt 0 0)),(3,pt 1 0),(7,zI z0),(35,(zB (nt (ieq z0 (0:Int)))))]) (hp 2 [(oC [zI z1,Sl.v 1 s0]),(oC [zI z2,Sl.v 1 s1])]) (.k0 [] [.tmp 2 false,.tmp 3 false] [2,3,7,35]) ?_
 replace hm:=bb_cases hm;rcases hm with ⟨h0,hm⟩ | ⟨h0,hm⟩
 ·refine .ifT (nt (ieq z0 (0 : Int))) (by kernel_rfl) h0 ?_
  refine .then (.rK ?_)
  refine .ghs (fr 65 [(4,(zI (0:Int))),(5,zB false),(6,zI z0)]) (hp 0 []) (.k0 [] [] [4,5,6]) ?_
  refine .ret ?_
  exact fin_ret (.tuple ⟨[(zI (0:Int)),zB false,zI z0]⟩) (by kernel_rfl) (by kernel_rfl) hm
 ·refine .ifF (nt (ieq z0 (0 : Int))) (by kernel_rfl) h0 ?_
  refine .skip ?_
  refine .ghs (fr 65 [(2,(pt 0 0)),(3,pt 1 0)]) (hp 2 [(oC [zI z1,Sl.v 1 s0]),(oC [zI z2,Sl.v 1 s1])]) (.k0 [] [.tmp 2 false,.tmp 3 false] [2,3]) ?_
  refine .join (v:=v) (fun y:Int×Sl×Int×Sl=>((fr 65 [(2,(pt 0 0)),(3,pt 1 0)]),(hp 2 [(oC [(zI y.1),(Sl.v 1 y.2.1)]),(oC [(zI y.2.2.1),(Sl.v 1 y.2.2.2)])]))) (fun y=>m22_2 pu n y.1 y.2.1 y.2.2.1 y.2.2.2) ?_ ?_
  ·rintro ⟨z3, s2, z4, s3⟩ hm
   exact w22_2 pu n z3 s2 z4 s3 hm
  ·refine .then (.rK ?_)
   refine .ghs (fr 65 [(2,(pt 0 0)),(3,pt 1 0),(8,(zI (0:Int)))]) (hp 2 [(oC [zI z1,Sl.v 1 s0]),(oC [zI z2,Sl.v 1 s1])]) (.k0 [] [.tmp 2 false,.tmp 3 false] [2,3,8]) ?_
   refine .block ?_
   refine .loopM (v:=v) (fun y:Int×Int×Sl×Int×Sl=>((fr 65 [(2,(pt 0 0)),(3,pt 1 0),(8,(zI y.1))]),(hp 2 [(oC [(zI y.2.1),(Sl.v 1 y.2.2.1)]),(oC [(zI y.2.2.2.1),(Sl.v 1 y.2.2.2.2)])]))) (fun w y=>l22_5 pu n w y.1 y.2.1 y.2.2.1 y.2.2.2.1 y.2.2.2.2) n ⟨((0:Int),z1,s0,z2,s1),hm,(.k0 [] [.tmp 2 false,.tmp 3 false] [2,3,8])⟩ (fun _=>rfl) ?_
   rintro w0 ⟨z5,z6,s4,z7,s5⟩ hm
   replace hm:b22_5 pu n (l22_5 pu n w0) z5 z6 s4 z7 s5 = some v:=hm
   unfold b22_5 at hm
   refine .then ?_
   refine .then (.rK ?_)
   refine .ghs (fr 65 [(2,(pt 0 0)),(3,pt 1 0),(8,zI z5),(40,(zB (ilt z5 z6)))]) (hp 2 [(oC [zI z6,Sl.v 1 s4]),(oC [zI z7,Sl.v 1 s5])]) (.k0 [] [.tmp 2 false,.tmp 3 false] [2,3,8,40]) ?_
   replace hm:=bb_cases hm;rcases hm with ⟨h1,hm⟩ | ⟨h1,hm⟩
   ·refine .ifT (ilt z5 z6) (by kernel_rfl) h1 ?_
    refine .skip ?_
    refine .ghs (fr 65 [(2,(pt 0 0)),(3,pt 1 0),(8,zI z5)]) (hp 2 [(oC [zI z6,Sl.v 1 s4]),(oC [zI z7,Sl.v 1 s5])]) (.k0 [] [.tmp 2 false,.tmp 3 false] [2,3,8]) ?_
    refine .then ?_
    refine .block ?_
    refine .then ?_
    replace hm:=oo_inv hm;obtain ⟨v0,h2,hm⟩:=hm
    replace hm:=inv_vAgg hm;obtain ⟨l0,rfl,hm⟩:=hm
    replace hm:=ll_uncons hm;obtain ⟨v1,l2971_0,rfl,hm⟩:=hm
    replace hm:=ll_uncons hm;obtain ⟨v2,l2971_1,rfl,hm⟩:=hm
    replace hm:=ll_end hm;obtain ⟨rfl,hm⟩:=hm
    replace hm:=inv_toI hm;obtain ⟨x0,rfl,hm⟩:=hm
    replace hm:=inv_toSl hm;obtain ⟨s6,rfl,hm⟩:=hm
    replace hm:=oo_inv hm;obtain ⟨v3,h3,hm⟩:=hm
    replace hm:=inv_vBool hm;obtain ⟨b0,rfl,hm⟩:=hm
    refine .reg (eC 4 ((oo (pu 67 [(.agg ⟨[zI z6,Sl.v 1 s4]⟩),(zI (1:Int)),zI z5]) none fun v=>some (v,(hp 2 [(oC [zI z6,Sl.v 1 s4]),(oC [zI z7,Sl.v 1 s5])])))) (call_eq h2) (eC 1 ((oo (pu 72 [Sl.v 1 s6,Sl.v 1 s5]) none fun v=>some (v,(hp 2 [(oC [zI z6,Sl.v 1 s4]),(oC [zI z7,Sl.v 1 s5])])))) (call_eq h3) (eE))) ?_
    refine .ghs (fr 65 [(2,(pt 0 0)),(3,pt 1 0),(8,zI z5),(49,zB b0)]) (hp 2 [(oC [zI z6,Sl.v 1 s4]),(oC [zI z7,Sl.v 1 s5])]) (.k0 [] [.tmp 2 false,.tmp 3 false] [2,3,8,49]) ?_
    replace hm:=bb_cases hm;rcases hm with ⟨h4,hm⟩ | ⟨h4,hm⟩
    ·refine .ifT b0 (by kernel_rfl) h4 ?_
     refine .then (.rK ?_)
     refine .ghs (fr 65 [(4,zI z5),(5,zB false),(6,(zI (0:Int)))]) (hp 0 []) (.k0 [] [] [4,5,6]) ?_
     refine .ret ?_
     exact fin_ret (.tuple ⟨[zI z5,zB false,(zI (0:Int))]⟩) (by kernel_rfl) (by kernel_rfl) hm
    ·refine .ifF b0 (by kernel_rfl) h4 ?_
     refine .skip ?_
     refine .ghs (fr 65 [(2,(pt 0 0)),(3,pt 1 0),(8,zI z5)]) (hp 2 [(oC [zI z6,Sl.v 1 s4]),(oC [zI z7,Sl.v 1 s5])]) (.k0 [] [.tmp 2 false,.tmp 3 false] [2,3,8]) ?_
     refine .rK ?_
     exact ⟨((wrapF .i64 (Int.add z5 (1:Int))),z6,s4,z7,s5),hm,(.k0 [] [.tmp 2 false,.tmp 3 false] [2,3,8])⟩
   ·refine .ifF (ilt z5 z6) (by kernel_rfl) h1 ?_
    refine .exit ?_
    exact ⟨(z6,s4,z7,s5),hm,(.k0 [] [.tmp 2 false,.tmp 3 false] [2,3])⟩
theorem w22_0 (pu:PureF) (n:Nat) (z0 z1:Int) (s0:Sl) (z2:Int) (s1:Sl) {v:Value} (hm:m22_0 pu n z0 z1 s0 z2 s1 = some v):Run tt (callP tabs isP pu (inl pu)) 0 c22_52 (fr 65 [(2,(pt 0 0)),(3,pt 1 0),(7,zI z0)]) (hp 2 [(oC [zI z1,Sl.v 1 s0]),(oC [zI z2,Sl.v 1 s1])]) (Fin tt 0 [.tmp 4,.tmp 5,.tmp 6] v):=by
 unfold m22_0 at hm
 refine .join (v:=v) (fun y:Int×Int×Sl×Int×Sl=>((fr 65 [(2,(pt 0 0)),(3,pt 1 0),(7,(zI y.1))]),(hp 2 [(oC [(zI y.2.1),(Sl.v 1 y.2.2.1)]),(oC [(zI y.2.2.2.1),(Sl.v 1 y.2.2.2.2)])]))) (fun y=>m22_1 pu n y.1 y.2.1 y.2.2.1 y.2.2.2.1 y.2.2.2.2) ?_ ?_
 ·rintro ⟨z3, z4, s2, z5, s3⟩ hm
  exact w22_1 pu n z3 z4 s2 z5 s3 hm
 ·refine .join (v := v) (fun y : Int × Bool × Int × Sl × Int × Sl => ((fr 65 [(2, (pt 0 0)), (3, pt 1 0), (7, (zI y.1)), (33, (zB y.2.1))]), (hp 2 [(oC [(zI y.2.2.1), (Sl.v 1 y.2.2.2.1)]), (oC [(zI y.2.2.2.2.1), (Sl.v 1 y.2.2.2.2.2)])]))) (fun y => m22_6 pu n y.1 y.2.1 y.2.2.1 y.2.2.2.1 y.2.2.2.2.1 y.2.2.2.2.2) ?_ ?_
  ·rintro ⟨z6, b0, z7, s4, z8, s5⟩ hm
   unfold m22_6 at hm
   replace hm:=bb_cases hm;rcases hm with ⟨h0,hm⟩ | ⟨h0,hm⟩
   ·refine .ifT b0 (by kernel_rfl) h0 ?_
    refine .rK ?_
    exact ⟨((5:Int),z7,s4,z8,s5),hm,(.k0 [] [.tmp 2 false,.tmp 3 false] [2,3,7])⟩
   ·refine .ifF b0 (by kernel_rfl) h0 ?_
    refine .skip ?_
    exact ⟨(z6,z7,s4,z8,s5),hm,(.k0 [] [.tmp 2 false,.tmp 3 false] [2,3,7])⟩
  ·replace hm := bb_cases hm; rcases hm with ⟨h1, hm⟩ | ⟨h1, hm⟩
   ·replace hm := bb_cases hm; rcases hm with ⟨h2, hm⟩ | ⟨h2, hm⟩
    ·refine .reg (eC 1 (some ((zB (ieq z0 (0 : Int))), (hp 2 [(oC [zI z1, Sl.v 1 s0]), (oC [zI z2, Sl.v 1 s1])]))) (show _ = some ((zB true), _) from (by rw [h1])) (eC 5 (some ((zB (nt (ieq z1 z2))), (hp 2 [(oC [zI z1, Sl.v 1 s0]), (oC [zI z2, Sl.v 1 s1])]))) (show _ = some ((zB true), _) from (by rw [h2])) (eE))) ?_
     exact ⟨(z0,true,z1,s0,z2,s1),hm,(.k0 [] [.tmp 2 false,.tmp 3 false] [2,3,7,33])⟩
    ·refine .reg (eC 1 (some ((zB (ieq z0 (0 : Int))), (hp 2 [(oC [zI z1, Sl.v 1 s0]), (oC [zI z2, Sl.v 1 s1])]))) (show _ = some ((zB true), _) from (by rw [h1])) (eC 5 (some ((zB (nt (ieq z1 z2))), (hp 2 [(oC [zI z1, Sl.v 1 s0]), (oC [zI z2, Sl.v 1 s1])]))) (show _ = some ((zB false), _) from (by rw [h2])) (eE))) ?_
     exact ⟨(z0,(nt (ieq (Int.ofNat (Sl.n s0)) (Int.ofNat (Sl.n s1)))),z1,s0,z2,s1),hm,(.k0 [] [.tmp 2 false,.tmp 3 false] [2,3,7,33])⟩
   ·refine .reg (eC 1 (some ((zB (ieq z0 (0 : Int))), (hp 2 [(oC [zI z1, Sl.v 1 s0]), (oC [zI z2, Sl.v 1 s1])]))) (show _ = some ((zB false), _) from (by rw [h1])) (eE)) ?_
    exact ⟨(z0,false,z1,s0,z2,s1),hm,(.k0 [] [.tmp 2 false,.tmp 3 false] [2,3,7,33])⟩
theorem r22 {call:CallF} (pu:PureF) (n:Nat) (hcall:call = callP tabs isP pu (inl pu)) {args:LV} {v:Value} (hm:m22 pu n args = some v) (_:∀ x ∈ args,closed2 x = true):args.length≤65∧Run tt call 0 c22_55 (Fr.made 65 args) (pureHeap tabs) (Fin tt 0 [.tmp 4,.tmp 5,.tmp 6] v):=by
 subst hcall
 unfold m22 at hm
 replace hm:=ll_uncons hm;obtain ⟨a0,args_0,rfl,hm⟩:=hm
 replace hm:=ll_uncons hm;obtain ⟨a1,args_1,rfl,hm⟩:=hm
 replace hm:=ll_end hm;obtain ⟨rfl,hm⟩:=hm
 replace hm:=inv_vAgg hm;obtain ⟨l0,rfl,hm⟩:=hm
 replace hm:=ll_uncons hm;obtain ⟨v0,l2781_0,rfl,hm⟩:=hm
 replace hm:=ll_uncons hm;obtain ⟨v1,l2781_1,rfl,hm⟩:=hm
 replace hm:=ll_end hm;obtain ⟨rfl,hm⟩:=hm
 replace hm:=inv_toI hm;obtain ⟨x0,rfl,hm⟩:=hm
 replace hm:=inv_toSl hm;obtain ⟨s0,rfl,hm⟩:=hm
 replace hm:=inv_vAgg hm;obtain ⟨l1,rfl,hm⟩:=hm
 replace hm:=ll_uncons hm;obtain ⟨v2,l2789_0,rfl,hm⟩:=hm
 replace hm:=ll_uncons hm;obtain ⟨v3,l2789_1,rfl,hm⟩:=hm
 replace hm:=ll_end hm;obtain ⟨rfl,hm⟩:=hm
 replace hm:=inv_toI hm;obtain ⟨x1,rfl,hm⟩:=hm
 replace hm:=inv_toSl hm;obtain ⟨s1,rfl,hm⟩:=hm
 unfold m22_ at hm
 refine ⟨by simp,?_⟩
 refine .same (F':=(fr 65 [(0,(.agg ⟨[zI x0,Sl.v 1 s0]⟩)),(1,(.agg ⟨[zI x1,Sl.v 1 s1]⟩))])) (H':=(hp 0 [])) (by kernel_rfl) (by kernel_rfl) ?_
 refine .then (.rK ?_)
 refine .ghs (fr 65 [(2,(pt 0 0)),(3,pt 1 0)]) (hp 2 [(oC [zI x0,Sl.v 1 s0]),(oC [zI x1,Sl.v 1 s1])]) (.k0 [] [.tmp 2 false,.tmp 3 false] [2,3]) ?_
 refine .then ?_
 replace hm:=oo_inv hm;obtain ⟨v4,h0,hm⟩:=hm
 replace hm:=inv_toI hm;obtain ⟨x2,rfl,hm⟩:=hm
 refine .reg (eC 1 ((oo (pu 26 [(.agg ⟨[zI x0,Sl.v 1 s0]⟩)]) none fun v=>some (v,(hp 2 [(oC [zI x0,Sl.v 1 s0]),(oC [zI x1,Sl.v 1 s1])])))) (call_eq h0) (eE)) ?_
 refine .ghs (fr 65 [(2,(pt 0 0)),(3,pt 1 0),(7,zI x2)]) (hp 2 [(oC [zI x0,Sl.v 1 s0]),(oC [zI x1,Sl.v 1 s1])]) (.k0 [] [.tmp 2 false,.tmp 3 false] [2,3,7]) ?_
 refine .join (v:=v) (fun y:Int×Int×Sl×Int×Sl=>((fr 65 [(2,(pt 0 0)),(3,pt 1 0),(7,(zI y.1))]),(hp 2 [(oC [(zI y.2.1),(Sl.v 1 y.2.2.1)]),(oC [(zI y.2.2.2.1),(Sl.v 1 y.2.2.2.2)])]))) (fun y=>m22_0 pu n y.1 y.2.1 y.2.2.1 y.2.2.2.1 y.2.2.2.2) ?_ ?_
 ·rintro ⟨z0, z1, s2, z2, s3⟩ hm
  exact w22_0 pu n z0 z1 s2 z2 s3 hm
 ·refine .then (.rK ?_)
  refine .ghs (fr 65 [(2,(pt 0 0)),(3,pt 1 0),(7,zI x2),(13,(zB (ieq x2 (0:Int))))]) (hp 2 [(oC [zI x0,Sl.v 1 s0]),(oC [zI x1,Sl.v 1 s1])]) (.k0 [] [.tmp 2 false,.tmp 3 false] [2,3,7,13]) ?_
  replace hm:=bb_cases hm;rcases hm with ⟨h1,hm⟩ | ⟨h1,hm⟩
  ·refine .ifT (ieq x2 (0 : Int)) (by kernel_rfl) h1 ?_
   replace hm:=oo_inv hm;obtain ⟨v5,h2,hm⟩:=hm
   replace hm:=inv_toI hm;obtain ⟨x3,rfl,hm⟩:=hm
   refine .reg (eC 1 ((oo (pu 26 [(.agg ⟨[zI x1,Sl.v 1 s1]⟩)]) none fun v=>some (v,(hp 2 [(oC [zI x0,Sl.v 1 s0]),(oC [zI x1,Sl.v 1 s1])])))) (call_eq h2) (eE)) ?_
   exact ⟨(x3,x0,s0,x1,s1),hm,(.k0 [] [.tmp 2 false,.tmp 3 false] [2,3,7])⟩
  ·refine .ifF (ieq x2 (0 : Int)) (by kernel_rfl) h1 ?_
   refine .skip ?_
   exact ⟨(x2,x0,s0,x1,s1),hm,(.k0 [] [.tmp 2 false,.tmp 3 false] [2,3,7])⟩
def m26_0 (pu:PureF) (n:Nat):OV:=
 (some (.int .i64 (0:Int)))
def m26_2 (pu:PureF) (n:Nat) (ih0:Int→Int→Sl→OV) (z0:Int) (b0:Bool) (z1:Int) (s0:Sl):OV:=
 (bb b0 (some (.int .i64 (7:Int))) (ih0 (wrapF .i64 (Int.add z0 (1:Int))) z1 s0))
def b26_1 (pu:PureF) (n:Nat) (ih0:Int→Int→Sl→OV) (z0 z1:Int) (s0:Sl):OV:=
 (bb (ilt z0 (Int.ofNat (Sl.n s0))) (oo (toN z0) none fun k1=>(bb (an (Nat.blt k1 (Sl.n s0)) true) (oo (nthL (Sl.cs s0) (k1 * 1)) none fun v0=>(oo (toI .i64 v0) none fun x0=>(oo (pu 73 [.int .i64 x0,(.int .i64 (0:Int)),(.int .i64 (wrapF .i64 (Int.sub z1 (1:Int))))]) none fun v1=>(oo (vBool v1) none fun b0=>(bb (nt b0) (some (.int .i64 (2:Int))) (bb (ilt (0:Int) (Int.ofNat k1)) (bb (an (Nat.blt k1 (Sl.n s0)) true) (oo (nthL (Sl.cs s0) (k1 * 1)) none fun v2=>(oo (toI .i64 v2) none fun x1=>(oo (toN (wrapF .i64 (Int.sub (Int.ofNat k1) (1:Int)))) none fun k2=>(bb (an (Nat.blt k2 (Sl.n s0)) true) (oo (nthL (Sl.cs s0) (k2 * 1)) none fun v3=>(oo (toI .i64 v3) none fun x2=>(m26_2 pu n ih0 (Int.ofNat k1) (nt (ilt x2 x1)) z1 s0))) none)))) none) (m26_2 pu n ih0 (Int.ofNat k1) false z1 s0))))))) none)) (m26_0 pu n))
def l26_1 (pu:PureF) (n w:Nat):Int→Int→Sl→OV:=
 Nat.rec (motive:=fun _=>Int→Int→Sl→OV) (fun _ _ _=>none) (fun _ ih0=>b26_1 pu n ih0) w
def m26_ (pu:PureF) (n:Nat) (x0:Int) (s0:Sl):OV:=
 (oo (pu 73 [.int .i64 x0,(.int .i64 (1:Int)),(.int .i64 (21:Int))]) none fun v0=>(oo (vBool v0) none fun b0=>(bb (nt b0) (some (.int .i64 (1:Int))) (bb (ilt (6:Int) (Int.ofNat (Sl.n s0))) (some (.int .i64 (3:Int))) (l26_1 pu n n (0:Int) x0 s0)))))
def m26 (pu:PureF) (n:Nat) (args:LV):OV:=
 (ll args none fun a0 args=>(ll args (oo (vAgg a0) none fun l0=>(ll l0 none fun v0 l0=>(ll l0 none fun v1 l0=>(ll l0 (oo (toI .i64 v0) none fun x0=>(oo (toSl 1 v1) none fun s0=>(m26_ pu n x0 s0))) fun _ _=>none)))) fun _ _=>none))
theorem w26_0 (pu:PureF) (n:Nat) {v:Value} (hm:m26_0 pu n = some v):Run tt (callP tabs isP pu (inl pu)) 0 c26_34 (fr 45 []) (hp 0 []) (Fin tt 0 [.tmp 2] v):=by
 unfold m26_0 at hm
 refine .then (.rK ?_)
 refine .ghs (fr 45 [(2,(zI (0:Int)))]) (hp 0 []) (.k0 [] [] [2]) ?_
 refine .ret ?_
 exact fin_ret (zI (0:Int)) (by kernel_rfl) (by kernel_rfl) hm
theorem r26 {call:CallF} (pu:PureF) (n:Nat) (hcall:call = callP tabs isP pu (inl pu)) {args:LV} {v:Value} (hm:m26 pu n args = some v) (_:∀ x ∈ args,closed2 x = true):args.length≤45∧Run tt call 0 c26_38 (Fr.made 45 args) (pureHeap tabs) (Fin tt 0 [.tmp 2] v):=by
 subst hcall
 unfold m26 at hm
 replace hm:=ll_uncons hm;obtain ⟨a0,args_0,rfl,hm⟩:=hm
 replace hm:=ll_end hm;obtain ⟨rfl,hm⟩:=hm
 replace hm:=inv_vAgg hm;obtain ⟨l0,rfl,hm⟩:=hm
 replace hm:=ll_uncons hm;obtain ⟨v0,l3008_0,rfl,hm⟩:=hm
 replace hm:=ll_uncons hm;obtain ⟨v1,l3008_1,rfl,hm⟩:=hm
 replace hm:=ll_end hm;obtain ⟨rfl,hm⟩:=hm
 replace hm:=inv_toI hm;obtain ⟨x0,rfl,hm⟩:=hm
 replace hm:=inv_toSl hm;obtain ⟨s0,rfl,hm⟩:=hm
 unfold m26_ at hm
 refine ⟨by simp,?_⟩
 refine .same (F':=(fr 45 [(0,(.agg ⟨[zI x0,Sl.v 1 s0]⟩))])) (H':=(hp 0 [])) (by kernel_rfl) (by kernel_rfl) ?_
 refine .then (.rK ?_)
 refine .ghs (fr 45 [(1,(pt 0 0))]) (hp 1 [(oC [zI x0,Sl.v 1 s0])]) (.k0 [] [.tmp 1 false] [1]) ?_
 refine .then ?_
 refine .then ?_
 replace hm:=oo_inv hm;obtain ⟨v2,h0,hm⟩:=hm
 replace hm:=inv_vBool hm;obtain ⟨b0,rfl,hm⟩:=hm
 refine .reg (eC 2 ((oo (pu 73 [zI x0,(zI (1:Int)),(zI (21:Int))]) none fun v=>some (v,(hp 1 [(oC [zI x0,Sl.v 1 s0])])))) (call_eq h0) (eE)) ?_
 refine .ghs (fr 45 [(1,(pt 0 0)),(7,(zB (nt b0)))]) (hp 1 [(oC [zI x0,Sl.v 1 s0])]) (.k0 [] [.tmp 1 false] [1,7]) ?_
 replace hm:=bb_cases hm;rcases hm with ⟨h1,hm⟩ | ⟨h1,hm⟩
 ·refine .ifT (nt b0) (by kernel_rfl) h1 ?_
  refine .then (.rK ?_)
  refine .ghs (fr 45 [(2,(zI (1:Int)))]) (hp 0 []) (.k0 [] [] [2]) ?_
  refine .ret ?_
  exact fin_ret (zI (1:Int)) (by kernel_rfl) (by kernel_rfl) hm
 ·refine .ifF (nt b0) (by kernel_rfl) h1 ?_
  refine .skip ?_
  refine .ghs (fr 45 [(1,(pt 0 0))]) (hp 1 [(oC [zI x0,Sl.v 1 s0])]) (.k0 [] [.tmp 1 false] [1]) ?_
  refine .then ?_
  refine .then (.rK ?_)
  refine .ghs (fr 45 [(1,(pt 0 0)),(11,(zB (ilt (6:Int) (Int.ofNat (Sl.n s0)))))]) (hp 1 [(oC [zI x0,Sl.v 1 s0])]) (.k0 [] [.tmp 1 false] [1,11]) ?_
  replace hm:=bb_cases hm;rcases hm with ⟨h2,hm⟩ | ⟨h2,hm⟩
  ·refine .ifT (ilt (6 : Int) (Int.ofNat (Sl.n s0))) (by kernel_rfl) h2 ?_
   refine .then (.rK ?_)
   refine .ghs (fr 45 [(2,(zI (3:Int)))]) (hp 0 []) (.k0 [] [] [2]) ?_
   refine .ret ?_
   exact fin_ret (zI (3:Int)) (by kernel_rfl) (by kernel_rfl) hm
  ·refine .ifF (ilt (6 : Int) (Int.ofNat (Sl.n s0))) (by kernel_rfl) h2 ?_
   refine .skip ?_
   refine .ghs (fr 45 [(1,(pt 0 0))]) (hp 1 [(oC [zI x0,Sl.v 1 s0])]) (.k0 [] [.tmp 1 false] [1]) ?_
   refine .join (v:=v) (fun y:Unit=>((fr 45 []),(hp 0 []))) (fun y=>m26_0 pu n) ?_ ?_
   ·rintro _ hm
    exact w26_0 pu n hm
   ·refine .then (.rK ?_)
    refine .ghs (fr 45 [(1,(pt 0 0)),(3,(zI (0:Int)))]) (hp 1 [(oC [zI x0,Sl.v 1 s0])]) (.k0 [] [.tmp 1 false] [1,3]) ?_
    refine .block ?_
    refine .loopM (v:=v) (fun y:Int×Int×Sl=>((fr 45 [(1,(pt 0 0)),(3,(zI y.1))]),(hp 1 [(oC [(zI y.2.1),(Sl.v 1 y.2.2)])]))) (fun w y=>l26_1 pu n w y.1 y.2.1 y.2.2) n ⟨((0:Int),x0,s0),hm,(.k0 [] [.tmp 1 false] [1,3])⟩ (fun _=>rfl) ?_
    rintro w0 ⟨z0,z1,s1⟩ hm
    replace hm:b26_1 pu n (l26_1 pu n w0) z0 z1 s1 = some v:=hm
    unfold b26_1 at hm
    refine .then ?_
    refine .then (.rK ?_)
    refine .ghs (fr 45 [(1,(pt 0 0)),(3,zI z0),(16,(zB (ilt z0 (Int.ofNat (Sl.n s1)))))]) (hp 1 [(oC [zI z1,Sl.v 1 s1])]) (.k0 [] [.tmp 1 false] [1,3,16]) ?_
    replace hm:=bb_cases hm;rcases hm with ⟨h3,hm⟩ | ⟨h3,hm⟩
    ·refine .ifT (ilt z0 (Int.ofNat (Sl.n s1))) (by kernel_rfl) h3 ?_
     refine .skip ?_
     refine .ghs (fr 45 [(1,(pt 0 0)),(3,zI z0)]) (hp 1 [(oC [zI z1,Sl.v 1 s1])]) (.k0 [] [.tmp 1 false] [1,3]) ?_
     refine .then ?_
     refine .block ?_
     refine .then ?_
     refine .then ?_
     replace hm:=oo_inv hm;obtain ⟨k1,h4,hm⟩:=hm
     obtain rfl:=toN_some h4
     replace hm:=bb_inv hm;obtain ⟨h5,hm⟩:=hm
     replace hm:=oo_inv hm;obtain ⟨v3,h6,hm⟩:=hm
     replace hm:=inv_toI hm;obtain ⟨x1,rfl,hm⟩:=hm
     replace hm:=oo_inv hm;obtain ⟨v4,h7,hm⟩:=hm
     replace hm:=inv_vBool hm;obtain ⟨b1,rfl,hm⟩:=hm
     refine .reg (eC 3 (keep (hp 1 [(oC [zI z1,Sl.v 1 s1])]) (bb (an (Nat.blt k1 (Sl.n s1)) true) (some (fpV (k1 * 1) (Sl.cs s1))) none)) (keep_bb h5) (eD (keep (hp 1 [(oC [zI z1,Sl.v 1 s1])]) (nthL (Sl.cs s1) (k1 * 1))) (keep_eq h6) (eC 3 ((oo (pu 73 [zI x1,(zI (0:Int)),(zI (wrapF .i64 (Int.sub z1 (1:Int))))]) none fun v=>some (v,(hp 1 [(oC [zI z1,Sl.v 1 s1])])))) (call_eq h7) (eE)))) ?_
     refine .ghs (fr 45 [(1,(pt 0 0)),(3,(zI (Int.ofNat k1))),(28,(zB (nt b1)))]) (hp 1 [(oC [zI z1,Sl.v 1 s1])]) (.k0 [] [.tmp 1 false] [1,3,28]) ?_
     replace hm:=bb_cases hm;rcases hm with ⟨h8,hm⟩ | ⟨h8,hm⟩
     ·refine .ifT (nt b1) (by kernel_rfl) h8 ?_
      refine .then (.rK ?_)
      refine .ghs (fr 45 [(2,(zI (2:Int)))]) (hp 0 []) (.k0 [] [] [2]) ?_
      refine .ret ?_
      exact fin_ret (zI (2:Int)) (by kernel_rfl) (by kernel_rfl) hm
     ·refine .ifF (nt b1) (by kernel_rfl) h8 ?_
      refine .skip ?_
      refine .ghs (fr 45 [(1,(pt 0 0)),(3,(zI (Int.ofNat k1)))]) (hp 1 [(oC [zI z1,Sl.v 1 s1])]) (.k0 [] [.tmp 1 false] [1,3]) ?_
      refine .join (v:=v) (fun y:Int×Bool×Int×Sl=>((fr 45 [(1,(pt 0 0)),(3,(zI y.1)),(44,(zB y.2.1))]),(hp 1 [(oC [(zI y.2.2.1),(Sl.v 1 y.2.2.2)])]))) (fun y=>m26_2 pu n (l26_1 pu n w0) y.1 y.2.1 y.2.2.1 y.2.2.2) ?_ ?_
      ·rintro ⟨z2, b2, z3, s2⟩ hm
       unfold m26_2 at hm
       replace hm:=bb_cases hm;rcases hm with ⟨h9,hm⟩ | ⟨h9,hm⟩
       ·refine .ifT b2 (by kernel_rfl) h9 ?_
        refine .then (.rK ?_)
        refine .ghs (fr 45 [(2,(zI (7:Int)))]) (hp 0 []) (.k0 [] [] [2]) ?_
        refine .ret ?_
        exact fin_ret (zI (7:Int)) (by kernel_rfl) (by kernel_rfl) hm
       ·refine .ifF b2 (by kernel_rfl) h9 ?_
        refine .skip ?_
        refine .ghs (fr 45 [(1,(pt 0 0)),(3,zI z2)]) (hp 1 [(oC [zI z3,Sl.v 1 s2])]) (.k0 [] [.tmp 1 false] [1,3]) ?_
        refine .rK ?_
        exact ⟨((wrapF .i64 (Int.add z2 (1:Int))),z3,s2),hm,(.k0 [] [.tmp 1 false] [1,3])⟩
      ·replace hm := bb_cases hm; rcases hm with ⟨h10, hm⟩ | ⟨h10, hm⟩
       ·replace hm := bb_inv hm; obtain ⟨h11, hm⟩ := hm
        replace hm:=oo_inv hm;obtain ⟨v5,h12,hm⟩:=hm
        replace hm:=inv_toI hm;obtain ⟨x2,rfl,hm⟩:=hm
        replace hm:=oo_inv hm;obtain ⟨k2,h13,hm⟩:=hm
        replace hm:=bb_inv hm;obtain ⟨h14,hm⟩:=hm
        replace hm:=oo_inv hm;obtain ⟨v6,h15,hm⟩:=hm
        replace hm:=inv_toI hm;obtain ⟨x3,rfl,hm⟩:=hm
        refine .reg (eN 8 (Fr.puts (fr 45 [(1,(pt 0 0)),(3,(zI (Int.ofNat k1)))]) [(29,(zI (Int.ofNat k1))),(30,zB true),(31,zB true),(32,(pt 0 1)),(33,Sl.v 1 s1),(34,(zI (Int.ofNat k1))),(35,(fpV (k1 * 1) (Sl.cs s1))),(36,zI x2)]) (hp 1 [(oC [zI z1,Sl.v 1 s1])]) (eC 1 (some ((zB (ilt (0:Int) (Int.ofNat k1))),(hp 1 [(oC [zI z1,Sl.v 1 s1])]))) (show _ = some ((zB true),_) from (by rw [h10])) (eC 4 (keep (hp 1 [(oC [zI z1,Sl.v 1 s1])]) (bb (an (Nat.blt k1 (Sl.n s1)) true) (some (fpV (k1 * 1) (Sl.cs s1))) none)) (keep_bb h11) (eD (keep (hp 1 [(oC [zI z1,Sl.v 1 s1])]) (nthL (Sl.cs s1) (k1 * 1))) (keep_eq h12) (by kernel_rfl)))) (eC 3 (some ((zI (wrapF .i64 (Int.sub (Int.ofNat k1) (1:Int)))),(hp 1 [(oC [zI z1,Sl.v 1 s1])]))) (show _ = some ((zI (Int.ofNat k2)),_) from (by rw [toN_some h13])) (eD (keep (hp 1 [(oC [zI z1,Sl.v 1 s1])]) (bb (an (Nat.blt k2 (Sl.n s1)) true) (some (fpV (k2 * 1) (Sl.cs s1))) none)) (keep_bb h14) (eD (keep (hp 1 [(oC [zI z1,Sl.v 1 s1])]) (nthL (Sl.cs s1) (k2 * 1))) (keep_eq h15) (eE))))) ?_
        exact ⟨((Int.ofNat k1),(nt (ilt x3 x2)),z1,s1),hm,(.k0 [] [.tmp 1 false] [1,3,44])⟩
       ·refine .reg (eC 1 (some ((zB (ilt (0 : Int) (Int.ofNat k1))), (hp 1 [(oC [zI z1, Sl.v 1 s1])]))) (show _ = some ((zB false), _) from (by rw [h10])) (eE)) ?_
        exact ⟨((Int.ofNat k1),false,z1,s1),hm,(.k0 [] [.tmp 1 false] [1,3,44])⟩
    ·refine .ifF (ilt z0 (Int.ofNat (Sl.n s1))) (by kernel_rfl) h3 ?_
     refine .exit ?_
     exact ⟨(),hm,(.k0 [] [] [])⟩
end
end Go.RgEM
