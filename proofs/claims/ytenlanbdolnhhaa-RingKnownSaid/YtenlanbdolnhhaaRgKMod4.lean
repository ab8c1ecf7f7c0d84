/- Made from wip. -/
import Derived.Test.YtenlanbdolnhhaaRgKMod0x

set_option maxRecDepth 100000
set_option maxHeartbeats 20000000
set_option linter.unusedVariables false
namespace Go.RgKM
open Go.Sp Go.RgK
noncomputable section

def m27_ (pu:PureF) (n:Nat) (x0:Int) (s0:Sl):OV:=
 (oo (pu 61 [(.agg ⟨[.int .i64 x0,Sl.v 1 s0]⟩)]) none fun v0=>(oo (vTup v0) none fun l0=>(ll l0 none fun v1 l0=>(ll l0 none fun v2 l0=>(ll l0 (oo (vAgg v1) none fun l1=>(ll l1 none fun v3 l1=>(ll l1 none fun v4 l1=>(ll l1 (oo (toI .i64 v3) none fun x1=>(oo (toI .u32 v4) none fun x2=>(oo (toI .i64 v2) none fun x3=>(bb (nt (ieq x3 (0:Int))) (some (.tuple ⟨[(Sl.v 1 (Sl.mk 0 2 [])),.int .i64 x3]⟩)) (oo (pu 74 [(.agg ⟨[.int .i64 x1,.int .u32 x2]⟩)]) none fun v5=>(oo (toSl 1 v5) none fun s1=>(some (.tuple ⟨[Sl.v 1 s1,(.int .i64 (0:Int))]⟩)))))))) fun _ _=>none)))) fun _ _=>none)))))
def m27 (pu:PureF) (n:Nat) (args:LV):OV:=
 (ll args none fun a0 args=>(ll args (oo (vAgg a0) none fun l0=>(ll l0 none fun v0 l0=>(ll l0 none fun v1 l0=>(ll l0 (oo (toI .i64 v0) none fun x0=>(oo (toSl 1 v1) none fun s0=>(m27_ pu n x0 s0))) fun _ _=>none)))) fun _ _=>none))
theorem r27 {call:CallF} (pu:PureF) (n:Nat) (hcall:call = callP tabs isP pu (inl pu)) {args:LV} {v:Value} (hm:m27 pu n args = some v) (_:∀ x ∈ args,closed2 x = true):args.length≤16∧Run tt call 0 c27_11 (Fr.made 16 args) (pureHeap tabs) (Fin tt 0 [.tmp 2,.tmp 3] v):=by
 subst hcall
 unfold m27 at hm
 replace hm:=ll_uncons hm;obtain ⟨a0,args_0,rfl,hm⟩:=hm
 replace hm:=ll_end hm;obtain ⟨rfl,hm⟩:=hm
 replace hm:=inv_vAgg hm;obtain ⟨l0,rfl,hm⟩:=hm
 replace hm:=ll_uncons hm;obtain ⟨v0,l2996_0,rfl,hm⟩:=hm
 replace hm:=ll_uncons hm;obtain ⟨v1,l2996_1,rfl,hm⟩:=hm
 replace hm:=ll_end hm;obtain ⟨rfl,hm⟩:=hm
 replace hm:=inv_toI hm;obtain ⟨x0,rfl,hm⟩:=hm
 replace hm:=inv_toSl hm;obtain ⟨s0,rfl,hm⟩:=hm
 unfold m27_ at hm
 refine ⟨by simp,?_⟩
 refine .same (F':=(fr 16 [(0,(.agg ⟨[zI x0,Sl.v 1 s0]⟩))])) (H':=(hp 0 [])) (by kernel_rfl) (by kernel_rfl) ?_
 refine .then (.rK ?_)
 refine .ghs (fr 16 [(1,(pt 0 0))]) (hp 1 [(oC [zI x0,Sl.v 1 s0])]) (.k0 [] [.tmp 1 false] [1]) ?_
 refine .then ?_
 replace hm:=oo_inv hm;obtain ⟨v2,h0,hm⟩:=hm
 replace hm:=inv_vTup hm;obtain ⟨l1,rfl,hm⟩:=hm
 replace hm:=ll_uncons hm;obtain ⟨v3,l3022_0,rfl,hm⟩:=hm
 replace hm:=ll_uncons hm;obtain ⟨v4,l3022_1,rfl,hm⟩:=hm
 replace hm:=ll_end hm;obtain ⟨rfl,hm⟩:=hm
 replace hm:=inv_vAgg hm;obtain ⟨l2,rfl,hm⟩:=hm
 replace hm:=ll_uncons hm;obtain ⟨v5,l3026_0,rfl,hm⟩:=hm
 replace hm:=ll_uncons hm;obtain ⟨v6,l3026_1,rfl,hm⟩:=hm
 replace hm:=ll_end hm;obtain ⟨rfl,hm⟩:=hm
 replace hm:=inv_toI hm;obtain ⟨x1,rfl,hm⟩:=hm
 replace hm:=inv_toI hm;obtain ⟨x2,rfl,hm⟩:=hm
 replace hm:=inv_toI hm;obtain ⟨x3,rfl,hm⟩:=hm
 refine .reg (eC 1 ((oo (pu 61 [(.agg ⟨[zI x0,Sl.v 1 s0]⟩)]) none fun v=>some (v,(hp 1 [(oC [zI x0,Sl.v 1 s0])])))) (call_eq h0) (eE)) ?_
 refine .ghs (fr 16 [(4,(pt 0 0)),(5,zI x3)]) (hp 1 [(oC [zI x1,.int .u32 x2])]) (.k0 [] [.tmp 4 false] [4,5]) ?_
 refine .then ?_
 refine .then (.rK ?_)
 refine .ghs (fr 16 [(4,(pt 0 0)),(5,zI x3),(12,(zB (nt (ieq x3 (0:Int)))))]) (hp 1 [(oC [zI x1,.int .u32 x2])]) (.k0 [] [.tmp 4 false] [4,5,12]) ?_
 replace hm:=bb_cases hm;rcases hm with ⟨h1,hm⟩ | ⟨h1,hm⟩
 ·refine .ifT (nt (ieq x3 (0 : Int))) (by kernel_rfl) h1 ?_
  refine .then (.rK ?_)
  refine .ghs (fr 16 [(2,(.slice none 0 0)),(3,zI x3)]) (hp 0 []) (.k0 [] [] [2,3]) ?_
  refine .ghs (Fr.puts (fr 16 [(2,(.slice none 0 0)),(3,zI x3)]) [(2,(Sl.v 1 (Sl.mk 0 2 [])))]) (hp 0 []) (.freeze 0 2 1 (by kernel_rfl) (by kernel_rfl) (GhS.id _ _)) ?_
  refine .ret ?_
  exact fin_ret (.tuple ⟨[(Sl.v 1 (Sl.mk 0 2 [])),zI x3]⟩) (by kernel_rfl) (by kernel_rfl) hm
 ·refine .ifF (nt (ieq x3 (0 : Int))) (by kernel_rfl) h1 ?_
  refine .skip ?_
  refine .ghs (fr 16 [(4,(pt 0 0))]) (hp 1 [(oC [zI x1,.int .u32 x2])]) (.k0 [] [.tmp 4 false] [4]) ?_
  refine .then ?_
  replace hm:=oo_inv hm;obtain ⟨v7,h2,hm⟩:=hm
  replace hm:=inv_toSl hm;obtain ⟨s1,rfl,hm⟩:=hm
  refine .reg (eC 1 ((oo (pu 74 [(.agg ⟨[zI x1,.int .u32 x2]⟩)]) none fun v=>some (v,(hp 1 [(oC [zI x1,.int .u32 x2])])))) (call_eq h2) (eE)) ?_
  refine .ghs (fr 16 [(2,Sl.v 1 s1),(3,(zI (0:Int)))]) (hp 0 []) (.k0 [] [] [2,3]) ?_
  refine .ret ?_
  exact fin_ret (.tuple ⟨[Sl.v 1 s1,(zI (0:Int))]⟩) (by kernel_rfl) (by kernel_rfl) hm

def m29_ (pu:PureF) (n:Nat) (x0:Int) (s0:Sl):OV:=
 (oo (pu 61 [(.agg ⟨[.int .i64 x0,Sl.v 1 s0]⟩)]) none fun v0=>(oo (vTup v0) none fun l0=>(ll l0 none fun v1 l0=>(ll l0 none fun v2 l0=>(ll l0 (oo (vAgg v1) none fun l1=>(ll l1 none fun v3 l1=>(ll l1 none fun v4 l1=>(ll l1 (oo (toI .i64 v3) none fun x1=>(oo (toI .u32 v4) none fun x2=>(oo (toI .i64 v2) none fun x3=>(bb (nt (ieq x3 (0:Int))) (some (.tuple ⟨[(.int .i64 (0:Int)),.int .i64 x3]⟩)) (oo (pu 76 [(.agg ⟨[.int .i64 x1,.int .u32 x2]⟩)]) none fun v5=>(oo (toI .i64 v5) none fun x4=>(bb (ilt (0:Int) x4) (some (.tuple ⟨[.int .i64 x4,(.int .i64 (13:Int))]⟩)) (some (.tuple ⟨[(.int .i64 (0:Int)),(.int .i64 (0:Int))]⟩))))))))) fun _ _=>none)))) fun _ _=>none)))))
def m29 (pu:PureF) (n:Nat) (args:LV):OV:=
 (ll args none fun a0 args=>(ll args (oo (vAgg a0) none fun l0=>(ll l0 none fun v0 l0=>(ll l0 none fun v1 l0=>(ll l0 (oo (toI .i64 v0) none fun x0=>(oo (toSl 1 v1) none fun s0=>(m29_ pu n x0 s0))) fun _ _=>none)))) fun _ _=>none))
theorem r29 {call:CallF} (pu:PureF) (n:Nat) (hcall:call = callP tabs isP pu (inl pu)) {args:LV} {v:Value} (hm:m29 pu n args = some v) (_:∀ x ∈ args,closed2 x = true):args.length≤19∧Run tt call 0 c29_19 (Fr.made 19 args) (pureHeap tabs) (Fin tt 0 [.tmp 2,.tmp 3] v):=by
 subst hcall
 unfold m29 at hm
 replace hm:=ll_uncons hm;obtain ⟨a0,args_0,rfl,hm⟩:=hm
 replace hm:=ll_end hm;obtain ⟨rfl,hm⟩:=hm
 replace hm:=inv_vAgg hm;obtain ⟨l0,rfl,hm⟩:=hm
 replace hm:=ll_uncons hm;obtain ⟨v0,l3045_0,rfl,hm⟩:=hm
 replace hm:=ll_uncons hm;obtain ⟨v1,l3045_1,rfl,hm⟩:=hm
 replace hm:=ll_end hm;obtain ⟨rfl,hm⟩:=hm
 replace hm:=inv_toI hm;obtain ⟨x0,rfl,hm⟩:=hm
 replace hm:=inv_toSl hm;obtain ⟨s0,rfl,hm⟩:=hm
 unfold m29_ at hm
 refine ⟨by simp,?_⟩
 refine .same (F':=(fr 19 [(0,(.agg ⟨[zI x0,Sl.v 1 s0]⟩))])) (H':=(hp 0 [])) (by kernel_rfl) (by kernel_rfl) ?_
 refine .then (.rK ?_)
 refine .ghs (fr 19 [(1,(pt 0 0))]) (hp 1 [(oC [zI x0,Sl.v 1 s0])]) (.k0 [] [.tmp 1 false] [1]) ?_
 refine .then ?_
 replace hm:=oo_inv hm;obtain ⟨v2,h0,hm⟩:=hm
 replace hm:=inv_vTup hm;obtain ⟨l1,rfl,hm⟩:=hm
 replace hm:=ll_uncons hm;obtain ⟨v3,l3071_0,rfl,hm⟩:=hm
 replace hm:=ll_uncons hm;obtain ⟨v4,l3071_1,rfl,hm⟩:=hm
 replace hm:=ll_end hm;obtain ⟨rfl,hm⟩:=hm
 replace hm:=inv_vAgg hm;obtain ⟨l2,rfl,hm⟩:=hm
 replace hm:=ll_uncons hm;obtain ⟨v5,l3075_0,rfl,hm⟩:=hm
 replace hm:=ll_uncons hm;obtain ⟨v6,l3075_1,rfl,hm⟩:=hm
 replace hm:=ll_end hm;obtain ⟨rfl,hm⟩:=hm
 replace hm:=inv_toI hm;obtain ⟨x1,rfl,hm⟩:=hm
 replace hm:=inv_toI hm;obtain ⟨x2,rfl,hm⟩:=hm
 replace hm:=inv_toI hm;obtain ⟨x3,rfl,hm⟩:=hm
 refine .reg (eC 1 ((oo (pu 61 [(.agg ⟨[zI x0,Sl.v 1 s0]⟩)]) none fun v=>some (v,(hp 1 [(oC [zI x0,Sl.v 1 s0])])))) (call_eq h0) (eE)) ?_
 refine .ghs (fr 19 [(3,zI x3),(4,(pt 0 0))]) (hp 1 [(oC [zI x1,.int .u32 x2])]) (.k0 [] [.tmp 4 false] [3,4]) ?_
 refine .then ?_
 refine .then (.rK ?_)
 refine .ghs (fr 19 [(3,zI x3),(4,(pt 0 0)),(12,(zB (nt (ieq x3 (0:Int)))))]) (hp 1 [(oC [zI x1,.int .u32 x2])]) (.k0 [] [.tmp 4 false] [3,4,12]) ?_
 replace hm:=bb_cases hm;rcases hm with ⟨h1,hm⟩ | ⟨h1,hm⟩
 ·refine .ifT (nt (ieq x3 (0 : Int))) (by kernel_rfl) h1 ?_
  refine .then (.rK ?_)
  refine .ghs (fr 19 [(2,(zI (0:Int))),(3,zI x3)]) (hp 0 []) (.k0 [] [] [2,3]) ?_
  refine .ret ?_
  exact fin_ret (.tuple ⟨[(zI (0:Int)),zI x3]⟩) (by kernel_rfl) (by kernel_rfl) hm
 ·refine .ifF (nt (ieq x3 (0 : Int))) (by kernel_rfl) h1 ?_
  refine .skip ?_
  refine .ghs (fr 19 [(4,(pt 0 0))]) (hp 1 [(oC [zI x1,.int .u32 x2])]) (.k0 [] [.tmp 4 false] [4]) ?_
  refine .then ?_
  refine .then ?_
  replace hm:=oo_inv hm;obtain ⟨v7,h2,hm⟩:=hm
  replace hm:=inv_toI hm;obtain ⟨x4,rfl,hm⟩:=hm
  refine .reg (eC 1 ((oo (pu 76 [(.agg ⟨[zI x1,.int .u32 x2]⟩)]) none fun v=>some (v,(hp 1 [(oC [zI x1,.int .u32 x2])])))) (call_eq h2) (eE)) ?_
  refine .ghs (fr 19 [(5,zI x4)]) (hp 0 []) (.k0 [] [] [5]) ?_
  refine .then (.rK ?_)
  refine .ghs (fr 19 [(5,zI x4),(17,(zB (ilt (0:Int) x4)))]) (hp 0 []) (.k0 [] [] [5,17]) ?_
  replace hm:=bb_cases hm;rcases hm with ⟨h3,hm⟩ | ⟨h3,hm⟩
  ·refine .ifT (ilt (0 : Int) x4) (by kernel_rfl) h3 ?_
   refine .then (.rK ?_)
   refine .ghs (fr 19 [(2,zI x4),(3,(zI (13:Int)))]) (hp 0 []) (.k0 [] [] [2,3]) ?_
   refine .ret ?_
   exact fin_ret (.tuple ⟨[zI x4,(zI (13:Int))]⟩) (by kernel_rfl) (by kernel_rfl) hm
  ·refine .ifF (ilt (0 : Int) x4) (by kernel_rfl) h3 ?_
   refine .skip ?_
   refine .ghs (fr 19 []) (hp 0 []) (.k0 [] [] []) ?_
   refine .then (.rK ?_)
   refine .ghs (fr 19 [(2,(zI (0:Int))),(3,(zI (0:Int)))]) (hp 0 []) (.k0 [] [] [2,3]) ?_
   refine .ret ?_
   exact fin_ret (.tuple ⟨[(zI (0:Int)),(zI (0:Int))]⟩) (by kernel_rfl) (by kernel_rfl) hm

def m31_ (pu:PureF) (n:Nat) (x0:Int) (s0:Sl):OV:=
 (oo (pu 61 [(.agg ⟨[.int .i64 x0,Sl.v 1 s0]⟩)]) none fun v0=>(oo (vTup v0) none fun l0=>(ll l0 none fun v1 l0=>(ll l0 none fun v2 l0=>(ll l0 (oo (vAgg v1) none fun l1=>(ll l1 none fun v3 l1=>(ll l1 none fun v4 l1=>(ll l1 (oo (toI .i64 v3) none fun x1=>(oo (toI .u32 v4) none fun x2=>(oo (toI .i64 v2) none fun x3=>(bb (nt (ieq x3 (0:Int))) (some (.tuple ⟨[(.bool false),.int .i64 x3]⟩)) (oo (pu 78 [(.agg ⟨[.int .i64 x1,.int .u32 x2]⟩)]) none fun v5=>(oo (vBool v5) none fun b0=>(some (.tuple ⟨[(.bool b0),(.int .i64 (0:Int))]⟩)))))))) fun _ _=>none)))) fun _ _=>none)))))
def m31 (pu:PureF) (n:Nat) (args:LV):OV:=
 (ll args none fun a0 args=>(ll args (oo (vAgg a0) none fun l0=>(ll l0 none fun v0 l0=>(ll l0 none fun v1 l0=>(ll l0 (oo (toI .i64 v0) none fun x0=>(oo (toSl 1 v1) none fun s0=>(m31_ pu n x0 s0))) fun _ _=>none)))) fun _ _=>none))
theorem r31 {call:CallF} (pu:PureF) (n:Nat) (hcall:call = callP tabs isP pu (inl pu)) {args:LV} {v:Value} (hm:m31 pu n args = some v) (_:∀ x ∈ args,closed2 x = true):args.length≤16∧Run tt call 0 c31_11 (Fr.made 16 args) (pureHeap tabs) (Fin tt 0 [.tmp 2,.tmp 3] v):=by
 subst hcall
 unfold m31 at hm
 replace hm:=ll_uncons hm;obtain ⟨a0,args_0,rfl,hm⟩:=hm
 replace hm:=ll_end hm;obtain ⟨rfl,hm⟩:=hm
 replace hm:=inv_vAgg hm;obtain ⟨l0,rfl,hm⟩:=hm
 replace hm:=ll_uncons hm;obtain ⟨v0,l3095_0,rfl,hm⟩:=hm
 replace hm:=ll_uncons hm;obtain ⟨v1,l3095_1,rfl,hm⟩:=hm
 replace hm:=ll_end hm;obtain ⟨rfl,hm⟩:=hm
 replace hm:=inv_toI hm;obtain ⟨x0,rfl,hm⟩:=hm
 replace hm:=inv_toSl hm;obtain ⟨s0,rfl,hm⟩:=hm
 unfold m31_ at hm
 refine ⟨by simp,?_⟩
 refine .same (F':=(fr 16 [(0,(.agg ⟨[zI x0,Sl.v 1 s0]⟩))])) (H':=(hp 0 [])) (by kernel_rfl) (by kernel_rfl) ?_
 refine .then (.rK ?_)
 refine .ghs (fr 16 [(1,(pt 0 0))]) (hp 1 [(oC [zI x0,Sl.v 1 s0])]) (.k0 [] [.tmp 1 false] [1]) ?_
 refine .then ?_
 replace hm:=oo_inv hm;obtain ⟨v2,h0,hm⟩:=hm
 replace hm:=inv_vTup hm;obtain ⟨l1,rfl,hm⟩:=hm
 replace hm:=ll_uncons hm;obtain ⟨v3,l3121_0,rfl,hm⟩:=hm
 replace hm:=ll_uncons hm;obtain ⟨v4,l3121_1,rfl,hm⟩:=hm
 replace hm:=ll_end hm;obtain ⟨rfl,hm⟩:=hm
 replace hm:=inv_vAgg hm;obtain ⟨l2,rfl,hm⟩:=hm
 replace hm:=ll_uncons hm;obtain ⟨v5,l3125_0,rfl,hm⟩:=hm
 replace hm:=ll_uncons hm;obtain ⟨v6,l3125_1,rfl,hm⟩:=hm
 replace hm:=ll_end hm;obtain ⟨rfl,hm⟩:=hm
 replace hm:=inv_toI hm;obtain ⟨x1,rfl,hm⟩:=hm
 replace hm:=inv_toI hm;obtain ⟨x2,rfl,hm⟩:=hm
 replace hm:=inv_toI hm;obtain ⟨x3,rfl,hm⟩:=hm
 refine .reg (eC 1 ((oo (pu 61 [(.agg ⟨[zI x0,Sl.v 1 s0]⟩)]) none fun v=>some (v,(hp 1 [(oC [zI x0,Sl.v 1 s0])])))) (call_eq h0) (eE)) ?_
 refine .ghs (fr 16 [(4,(pt 0 0)),(5,zI x3)]) (hp 1 [(oC [zI x1,.int .u32 x2])]) (.k0 [] [.tmp 4 false] [4,5]) ?_
 refine .then ?_
 refine .then (.rK ?_)
 refine .ghs (fr 16 [(4,(pt 0 0)),(5,zI x3),(12,(zB (nt (ieq x3 (0:Int)))))]) (hp 1 [(oC [zI x1,.int .u32 x2])]) (.k0 [] [.tmp 4 false] [4,5,12]) ?_
 replace hm:=bb_cases hm;rcases hm with ⟨h1,hm⟩ | ⟨h1,hm⟩
 ·refine .ifT (nt (ieq x3 (0 : Int))) (by kernel_rfl) h1 ?_
  refine .then (.rK ?_)
  refine .ghs (fr 16 [(2,zB false),(3,zI x3)]) (hp 0 []) (.k0 [] [] [2,3]) ?_
  refine .ret ?_
  exact fin_ret (.tuple ⟨[zB false,zI x3]⟩) (by kernel_rfl) (by kernel_rfl) hm
 ·refine .ifF (nt (ieq x3 (0 : Int))) (by kernel_rfl) h1 ?_
  refine .skip ?_
  refine .ghs (fr 16 [(4,(pt 0 0))]) (hp 1 [(oC [zI x1,.int .u32 x2])]) (.k0 [] [.tmp 4 false] [4]) ?_
  refine .then ?_
  replace hm:=oo_inv hm;obtain ⟨v7,h2,hm⟩:=hm
  replace hm:=inv_vBool hm;obtain ⟨b0,rfl,hm⟩:=hm
  refine .reg (eC 1 ((oo (pu 78 [(.agg ⟨[zI x1,.int .u32 x2]⟩)]) none fun v=>some (v,(hp 1 [(oC [zI x1,.int .u32 x2])])))) (call_eq h2) (eE)) ?_
  refine .ghs (fr 16 [(2,zB b0),(3,(zI (0:Int)))]) (hp 0 []) (.k0 [] [] [2,3]) ?_
  refine .ret ?_
  exact fin_ret (.tuple ⟨[zB b0,(zI (0:Int))]⟩) (by kernel_rfl) (by kernel_rfl) hm
def m33_0 (pu:PureF) (n:Nat) (z0 z1:Int):OV:=
 (oo (pu 80 [(.agg ⟨[.int .i64 z0,.int .u32 z1]⟩)]) none fun v0=>(oo (toSl 1 v0) none fun s0=>(some (.tuple ⟨[Sl.v 1 s0,(.int .i64 (0:Int))]⟩))))
def b33_1 (pu:PureF) (n:Nat) (ih0:Sl→Int→Int→Int→Int→Int→Int→OV) (s0:Sl) (z0 z1 z2 z3 z4 z5:Int):OV:=
 (bb (ilt z1 z0) (oo (toN z1) none fun k1=>(bb (an (Nat.blt k1 (Sl.n s0)) true) (oo (nthL (Sl.cs s0) (k1 * 1)) none fun v0=>(oo (toI .i64 v0) none fun x0=>(oo (pu 62 [(.agg ⟨[.int .i64 z2,.int .u32 z3]⟩),.int .i64 x0]) none fun v1=>(oo (toI .i64 v1) none fun x1=>(oo (pu 65 [(.agg ⟨[.int .i64 z2,.int .u32 z3]⟩),.int .i64 x1]) none fun v2=>(oo (vAgg v2) none fun l0=>(ll l0 none fun v3 l0=>(ll l0 none fun v4 l0=>(ll l0 (oo (toI .i64 v3) none fun x2=>(oo (toI .u32 v4) none fun x3=>(ih0 s0 z0 (wrapF .i64 (Int.add (Int.ofNat k1) (1:Int))) z2 z3 z4 (aand .u32 z5 x3)))) fun _ _=>none))))))))) none)) (m33_0 pu n z4 z5))
def l33_1 (pu:PureF) (n w:Nat):Sl→Int→Int→Int→Int→Int→Int→OV:=
 Nat.rec (motive:=fun _=>Sl→Int→Int→Int→Int→Int→Int→OV) (fun _ _ _ _ _ _ _=>none) (fun _ ih0=>b33_1 pu n ih0) w
def m33_ (pu:PureF) (n:Nat) (x0:Int) (s0 s1:Sl):OV:=
 (oo (pu 61 [(.agg ⟨[.int .i64 x0,Sl.v 1 s0]⟩)]) none fun v0=>(oo (vTup v0) none fun l0=>(ll l0 none fun v1 l0=>(ll l0 none fun v2 l0=>(ll l0 (oo (vAgg v1) none fun l1=>(ll l1 none fun v3 l1=>(ll l1 none fun v4 l1=>(ll l1 (oo (toI .i64 v3) none fun x1=>(oo (toI .u32 v4) none fun x2=>(oo (toI .i64 v2) none fun x3=>(bb (nt (ieq x3 (0:Int))) (some (.tuple ⟨[(Sl.v 1 (Sl.mk 0 2 [])),.int .i64 x3]⟩)) (l33_1 pu n n s1 (Int.ofNat (Sl.n s1)) (0:Int) x1 x2 x1 x2))))) fun _ _=>none)))) fun _ _=>none)))))
def m33 (pu:PureF) (n:Nat) (args:LV):OV:=
 (ll args none fun a0 args=>(ll args none fun a1 args=>(ll args (oo (vAgg a0) none fun l0=>(ll l0 none fun v0 l0=>(ll l0 none fun v1 l0=>(ll l0 (oo (toI .i64 v0) none fun x0=>(oo (toSl 1 v1) none fun s0=>(oo (toSl 1 a1) none fun s1=>(m33_ pu n x0 s0 s1)))) fun _ _=>none)))) fun _ _=>none)))
theorem w33_0 (pu:PureF) (n:Nat) (z0 z1:Int) {v:Value} (hm:m33_0 pu n z0 z1 = some v):Run tt (callP tabs isP pu (inl pu)) 0 c33_23 (fr 39 [(8,(pt 0 0))]) (hp 1 [(oC [zI z0,.int .u32 z1])]) (Fin tt 0 [.tmp 4,.tmp 5] v):=by
 unfold m33_0 at hm
 refine .then ?_
 replace hm:=oo_inv hm;obtain ⟨v0,h0,hm⟩:=hm
 replace hm:=inv_toSl hm;obtain ⟨s0,rfl,hm⟩:=hm
 refine .reg (eC 1 ((oo (pu 80 [(.agg ⟨[zI z0,.int .u32 z1]⟩)]) none fun v=>some (v,(hp 1 [(oC [zI z0,.int .u32 z1])])))) (call_eq h0) (eE)) ?_
 refine .ghs (fr 39 [(4,Sl.v 1 s0),(5,(zI (0:Int)))]) (hp 0 []) (.k0 [] [] [4,5]) ?_
 refine .ret ?_
 exact fin_ret (.tuple ⟨[Sl.v 1 s0,(zI (0:Int))]⟩) (by kernel_rfl) (by kernel_rfl) hm
theorem r33 {call:CallF} (pu:PureF) (n:Nat) (hcall:call = callP tabs isP pu (inl pu)) {args:LV} {v:Value} (hm:m33 pu n args = some v) (_:∀ x ∈ args,closed2 x = true):args.length≤39∧Run tt call 0 c33_28 (Fr.made 39 args) (pureHeap tabs) (Fin tt 0 [.tmp 4,.tmp 5] v):=by
 subst hcall
 unfold m33 at hm
 replace hm:=ll_uncons hm;obtain ⟨a0,args_0,rfl,hm⟩:=hm
 replace hm:=ll_uncons hm;obtain ⟨a1,args_1,rfl,hm⟩:=hm
 replace hm:=ll_end hm;obtain ⟨rfl,hm⟩:=hm
 replace hm:=inv_vAgg hm;obtain ⟨l0,rfl,hm⟩:=hm
 replace hm:=ll_uncons hm;obtain ⟨v0,l3144_0,rfl,hm⟩:=hm
 replace hm:=ll_uncons hm;obtain ⟨v1,l3144_1,rfl,hm⟩:=hm
 replace hm:=ll_end hm;obtain ⟨rfl,hm⟩:=hm
 replace hm:=inv_toI hm;obtain ⟨x0,rfl,hm⟩:=hm
 replace hm:=inv_toSl hm;obtain ⟨s0,rfl,hm⟩:=hm
 replace hm:=inv_toSl hm;obtain ⟨s1,rfl,hm⟩:=hm
 unfold m33_ at hm
 refine ⟨by simp,?_⟩
 refine .same (F':=(fr 39 [(0,(.agg ⟨[zI x0,Sl.v 1 s0]⟩)),(1,Sl.v 1 s1)])) (H':=(hp 0 [])) (by kernel_rfl) (by kernel_rfl) ?_
 refine .then (.rK ?_)
 refine .ghs (fr 39 [(1,Sl.v 1 s1),(2,(pt 0 0))]) (hp 1 [(oC [zI x0,Sl.v 1 s0])]) (.k0 [] [.tmp 2 false] [1,2]) ?_
 refine .then ?_
 replace hm:=oo_inv hm;obtain ⟨v2,h0,hm⟩:=hm
 replace hm:=inv_vTup hm;obtain ⟨l1,rfl,hm⟩:=hm
 replace hm:=ll_uncons hm;obtain ⟨v3,l3172_0,rfl,hm⟩:=hm
 replace hm:=ll_uncons hm;obtain ⟨v4,l3172_1,rfl,hm⟩:=hm
 replace hm:=ll_end hm;obtain ⟨rfl,hm⟩:=hm
 replace hm:=inv_vAgg hm;obtain ⟨l2,rfl,hm⟩:=hm
 replace hm:=ll_uncons hm;obtain ⟨v5,l3176_0,rfl,hm⟩:=hm
 replace hm:=ll_uncons hm;obtain ⟨v6,l3176_1,rfl,hm⟩:=hm
 replace hm:=ll_end hm;obtain ⟨rfl,hm⟩:=hm
 replace hm:=inv_toI hm;obtain ⟨x1,rfl,hm⟩:=hm
 replace hm:=inv_toI hm;obtain ⟨x2,rfl,hm⟩:=hm
 replace hm:=inv_toI hm;obtain ⟨x3,rfl,hm⟩:=hm
 refine .reg (eC 1 ((oo (pu 61 [(.agg ⟨[zI x0,Sl.v 1 s0]⟩)]) none fun v=>some (v,(hp 1 [(oC [zI x0,Sl.v 1 s0])])))) (call_eq h0) (eE)) ?_
 refine .ghs (fr 39 [(1,Sl.v 1 s1),(6,(pt 0 0)),(7,zI x3)]) (hp 1 [(oC [zI x1,.int .u32 x2])]) (.k0 [] [.tmp 6 false] [1,6,7]) ?_
 refine .then ?_
 refine .then (.rK ?_)
 refine .ghs (fr 39 [(1,Sl.v 1 s1),(6,(pt 0 0)),(7,zI x3),(17,(zB (nt (ieq x3 (0:Int)))))]) (hp 1 [(oC [zI x1,.int .u32 x2])]) (.k0 [] [.tmp 6 false] [1,6,7,17]) ?_
 replace hm:=bb_cases hm;rcases hm with ⟨h1,hm⟩ | ⟨h1,hm⟩
 ·refine .ifT (nt (ieq x3 (0 : Int))) (by kernel_rfl) h1 ?_
  refine .then (.rK ?_)
  refine .ghs (fr 39 [(4,(.slice none 0 0)),(5,zI x3)]) (hp 0 []) (.k0 [] [] [4,5]) ?_
  refine .ghs (Fr.puts (fr 39 [(4,(.slice none 0 0)),(5,zI x3)]) [(4,(Sl.v 1 (Sl.mk 0 2 [])))]) (hp 0 []) (.freeze 0 4 1 (by kernel_rfl) (by kernel_rfl) (GhS.id _ _)) ?_
  refine .ret ?_
  exact fin_ret (.tuple ⟨[(Sl.v 1 (Sl.mk 0 2 [])),zI x3]⟩) (by kernel_rfl) (by kernel_rfl) hm
 ·refine .ifF (nt (ieq x3 (0 : Int))) (by kernel_rfl) h1 ?_
  refine .skip ?_
  refine .ghs (fr 39 [(1,Sl.v 1 s1),(6,(pt 0 0))]) (hp 1 [(oC [zI x1,.int .u32 x2])]) (.k0 [] [.tmp 6 false] [1,6]) ?_
  refine .then (.rK ?_)
  refine .ghs (fr 39 [(1,Sl.v 1 s1),(6,(pt 0 0)),(8,pt 1 0)]) (hp 2 [(oC [zI x1,.int .u32 x2]),(oC [zI x1,.int .u32 x2])]) (.k0 [] [.tmp 6 false,.tmp 8 false] [1,6,8]) ?_
  refine .join (v:=v) (fun y:Int×Int=>((fr 39 [(8,(pt 0 0))]),(hp 1 [(oC [(zI y.1),(.int .u32 y.2)])]))) (fun y=>m33_0 pu n y.1 y.2) ?_ ?_
  ·rintro ⟨z0, z1⟩ hm
   exact w33_0 pu n z0 z1 hm
  ·refine .then (.rK ?_)
   refine .ghs (fr 39 [(6,(pt 0 0)),(8,pt 1 0),(20,Sl.v 1 s1),(21,(zI (Int.ofNat (Sl.n s1)))),(22,(zI (0:Int)))]) (hp 2 [(oC [zI x1,.int .u32 x2]),(oC [zI x1,.int .u32 x2])]) (.k0 [] [.tmp 6 false,.tmp 8 false] [6,8,20,21,22]) ?_
   refine .block ?_
   refine .loopM (v:=v) (fun y:Sl×Int×Int×Int×Int×Int×Int=>((fr 39 [(6,(pt 0 0)),(8,pt 1 0),(20,(Sl.v 1 y.1)),(21,(zI y.2.1)),(22,(zI y.2.2.1))]),(hp 2 [(oC [(zI y.2.2.2.1),(.int .u32 y.2.2.2.2.1)]),(oC [(zI y.2.2.2.2.2.1),(.int .u32 y.2.2.2.2.2.2)])]))) (fun w y=>l33_1 pu n w y.1 y.2.1 y.2.2.1 y.2.2.2.1 y.2.2.2.2.1 y.2.2.2.2.2.1 y.2.2.2.2.2.2) n ⟨(s1,(Int.ofNat (Sl.n s1)),(0:Int),x1,x2,x1,x2),hm,(.k0 [] [.tmp 6 false,.tmp 8 false] [6,8,20,21,22])⟩ (fun _=>rfl) ?_
   rintro w0 ⟨s2,z2,z3,z4,z5,z6,z7⟩ hm
   replace hm:b33_1 pu n (l33_1 pu n w0) s2 z2 z3 z4 z5 z6 z7 = some v:=hm
   unfold b33_1 at hm
   refine .then (.rK ?_)
   refine .ghs (fr 39 [(6,(pt 0 0)),(8,pt 1 0),(20,Sl.v 1 s2),(21,zI z2),(22,zI z3),(23,(zB (ilt z3 z2)))]) (hp 2 [(oC [zI z4,.int .u32 z5]),(oC [zI z6,.int .u32 z7])]) (.k0 [] [.tmp 6 false,.tmp 8 false] [6,8,20,21,22,23]) ?_
   refine .then ?_
   replace hm:=bb_cases hm;rcases hm with ⟨h2,hm⟩ | ⟨h2,hm⟩
   ·refine .ifT (ilt z3 z2) (by kernel_rfl) h2 ?_
    refine .skip ?_
    refine .ghs (fr 39 [(6,(pt 0 0)),(8,pt 1 0),(20,Sl.v 1 s2),(21,zI z2),(22,zI z3)]) (hp 2 [(oC [zI z4,.int .u32 z5]),(oC [zI z6,.int .u32 z7])]) (.k0 [] [.tmp 6 false,.tmp 8 false] [6,8,20,21,22]) ?_
    refine .then ?_
    refine .block ?_
    refine .then ?_
    replace hm:=oo_inv hm;obtain ⟨k1,h3,hm⟩:=hm
    obtain rfl:=toN_some h3
    replace hm:=bb_inv hm;obtain ⟨h4,hm⟩:=hm
    replace hm:=oo_inv hm;obtain ⟨v7,h5,hm⟩:=hm
    replace hm:=inv_toI hm;obtain ⟨x4,rfl,hm⟩:=hm
    refine .reg (eD (keep (hp 2 [(oC [zI z4,.int .u32 z5]),(oC [zI z6,.int .u32 z7])]) (bb (an (Nat.blt k1 (Sl.n s2)) true) (some (fpV (k1 * 1) (Sl.cs s2))) none)) (keep_bb h4) (eD (keep (hp 2 [(oC [zI z4,.int .u32 z5]),(oC [zI z6,.int .u32 z7])]) (nthL (Sl.cs s2) (k1 * 1))) (keep_eq h5) (eE))) ?_
    refine .ghs (fr 39 [(6,(pt 0 0)),(8,pt 1 0),(10,zI x4),(20,Sl.v 1 s2),(21,zI z2),(22,(zI (Int.ofNat k1)))]) (hp 2 [(oC [zI z4,.int .u32 z5]),(oC [zI z6,.int .u32 z7])]) (.k0 [] [.tmp 6 false,.tmp 8 false] [6,8,10,20,21,22]) ?_
    replace hm:=oo_inv hm;obtain ⟨v8,h6,hm⟩:=hm
    replace hm:=inv_toI hm;obtain ⟨x5,rfl,hm⟩:=hm
    replace hm:=oo_inv hm;obtain ⟨v9,h7,hm⟩:=hm
    replace hm:=inv_vAgg hm;obtain ⟨l3,rfl,hm⟩:=hm
    replace hm:=ll_uncons hm;obtain ⟨v10,l3289_0,rfl,hm⟩:=hm
    replace hm:=ll_uncons hm;obtain ⟨v11,l3289_1,rfl,hm⟩:=hm
    replace hm:=ll_end hm;obtain ⟨rfl,hm⟩:=hm
    replace hm:=inv_toI hm;obtain ⟨x6,rfl,hm⟩:=hm
    replace hm:=inv_toI hm;obtain ⟨x7,rfl,hm⟩:=hm
    refine .reg (eC 5 ((oo (pu 62 [(.agg ⟨[zI z4,.int .u32 z5]⟩),zI x4]) none fun v=>some (v,(hp 2 [(oC [zI z4,.int .u32 z5]),(oC [zI z6,.int .u32 z7])])))) (call_eq h6) (eD ((oo (pu 65 [(.agg ⟨[zI z4,.int .u32 z5]⟩),zI x5]) none fun v=>some (v,(hp 2 [(oC [zI z4,.int .u32 z5]),(oC [zI z6,.int .u32 z7])])))) (call_eq h7) (eE))) ?_
    refine .ghs (fr 39 [(6,(pt 0 0)),(8,pt 1 0),(20,Sl.v 1 s2),(21,zI z2),(22,(zI (Int.ofNat k1)))]) (hp 2 [(oC [zI z4,.int .u32 z5]),(oC [zI z6,(.int .u32 (aand .u32 z7 x7))])]) (.k0 [] [.tmp 6 false,.tmp 8 false] [6,8,20,21,22]) ?_
    refine .rK ?_
    exact ⟨(s2,z2,(wrapF .i64 (Int.add (Int.ofNat k1) (1:Int))),z4,z5,z6,(aand .u32 z7 x7)),hm,(.k0 [] [.tmp 6 false,.tmp 8 false] [6,8,20,21,22])⟩
   ·refine .ifF (ilt z3 z2) (by kernel_rfl) h2 ?_
    refine .exit ?_
    exact ⟨(z6,z7),hm,(.k0 [] [.tmp 8 false] [8])⟩
def m40_0 (pu:PureF) (n:Nat) (z0:Int) (b0:Bool) (z1:Int) (s0:Sl) (z2 z3 z4:Int):OV:=
 (bb b0 (some (.tuple ⟨[(.agg ⟨[(.int .i64 (0:Int)),(Sl.v 1 (Sl.mk 0 2 []))]⟩),(.int .i64 (1:Int))]⟩)) (oo (pu 89 [.int .i64 z0,.int .i64 z1]) none fun v0=>(oo (vBool v0) none fun b1=>(bb (nt b1) (some (.tuple ⟨[(.agg ⟨[(.int .i64 (0:Int)),(Sl.v 1 (Sl.mk 0 2 []))]⟩),(.int .i64 (13:Int))]⟩)) (oo (pu 71 [(.agg ⟨[.int .i64 z3,.int .u32 z4]⟩),.int .i64 z0]) none fun v1=>(oo (vAgg v1) none fun l0=>(ll l0 none fun v2 l0=>(ll l0 none fun v3 l0=>(ll l0 (oo (toI .i64 v2) none fun x0=>(oo (toI .u32 v3) none fun x1=>(oo (pu 66 [(.agg ⟨[.int .i64 x0,.int .u32 x1]⟩)]) none fun v4=>(oo (vAgg v4) none fun l1=>(ll l1 none fun v5 l1=>(ll l1 none fun v6 l1=>(ll l1 (oo (toI .i64 v5) none fun x2=>(oo (toSl 1 v6) none fun s1=>(some (.tuple ⟨[(.agg ⟨[.int .i64 x2,Sl.v 1 s1]⟩),(.int .i64 (0:Int))]⟩)))) fun _ _=>none))))))) fun _ _=>none)))))))))
def m40_ (pu:PureF) (n:Nat) (x0:Int) (s0:Sl) (x1:Int):OV:=
 (oo (pu 61 [(.agg ⟨[.int .i64 x0,Sl.v 1 s0]⟩)]) none fun v0=>(oo (vTup v0) none fun l0=>(ll l0 none fun v1 l0=>(ll l0 none fun v2 l0=>(ll l0 (oo (vAgg v1) none fun l1=>(ll l1 none fun v3 l1=>(ll l1 none fun v4 l1=>(ll l1 (oo (toI .i64 v3) none fun x2=>(oo (toI .u32 v4) none fun x3=>(oo (toI .i64 v2) none fun x4=>(bb (nt (ieq x4 (0:Int))) (some (.tuple ⟨[(.agg ⟨[(.int .i64 (0:Int)),(Sl.v 1 (Sl.mk 0 2 []))]⟩),.int .i64 x4]⟩)) (bb (ilt x1 (1:Int)) (m40_0 pu n x1 true x0 s0 (0:Int) x2 x3) (m40_0 pu n x1 (ilt x0 x1) x0 s0 (0:Int) x2 x3)))))) fun _ _=>none)))) fun _ _=>none)))))
def m40 (pu:PureF) (n:Nat) (args:LV):OV:=
 (ll args none fun a0 args=>(ll args none fun a1 args=>(ll args (oo (vAgg a0) none fun l0=>(ll l0 none fun v0 l0=>(ll l0 none fun v1 l0=>(ll l0 (oo (toI .i64 v0) none fun x0=>(oo (toSl 1 v1) none fun s0=>(oo (toI .i64 a1) none fun x1=>(m40_ pu n x0 s0 x1)))) fun _ _=>none)))) fun _ _=>none)))
theorem r40 {call:CallF} (pu:PureF) (n:Nat) (hcall:call = callP tabs isP pu (inl pu)) {args:LV} {v:Value} (hm:m40 pu n args = some v) (_:∀ x ∈ args,closed2 x = true):args.length≤39∧Run tt call 0 c40_22 (Fr.made 39 args) (pureHeap tabs) (Fin tt 0 [.cell 4 24,.tmp 5] v):=by
 subst hcall
 unfold m40 at hm
 replace hm:=ll_uncons hm;obtain ⟨a0,args_0,rfl,hm⟩:=hm
 replace hm:=ll_uncons hm;obtain ⟨a1,args_1,rfl,hm⟩:=hm
 replace hm:=ll_end hm;obtain ⟨rfl,hm⟩:=hm
 replace hm:=inv_vAgg hm;obtain ⟨l0,rfl,hm⟩:=hm
 replace hm:=ll_uncons hm;obtain ⟨v0,l3297_0,rfl,hm⟩:=hm
 replace hm:=ll_uncons hm;obtain ⟨v1,l3297_1,rfl,hm⟩:=hm
 replace hm:=ll_end hm;obtain ⟨rfl,hm⟩:=hm
 replace hm:=inv_toI hm;obtain ⟨x0,rfl,hm⟩:=hm
 replace hm:=inv_toSl hm;obtain ⟨s0,rfl,hm⟩:=hm
 replace hm:=inv_toI hm;obtain ⟨x1,rfl,hm⟩:=hm
 unfold m40_ at hm
 refine ⟨by simp,?_⟩
 refine .same (F':=(fr 39 [(0,(.agg ⟨[zI x0,Sl.v 1 s0]⟩)),(1,zI x1)])) (H':=(hp 0 [])) (by kernel_rfl) (by kernel_rfl) ?_
 refine .then (.rK ?_)
 refine .ghs (fr 39 [(1,zI x1),(2,(pt 0 0)),(4,pt 1 0)]) (hp 2 [(oC [zI x0,Sl.v 1 s0]),(oC [(zI (0:Int)),(.slice none 0 0)])]) (.k0 [] [.tmp 2 false,.tmp 4 false] [1,2,4]) ?_
 refine .then ?_
 replace hm:=oo_inv hm;obtain ⟨v2,h0,hm⟩:=hm
 replace hm:=inv_vTup hm;obtain ⟨l1,rfl,hm⟩:=hm
 replace hm:=ll_uncons hm;obtain ⟨v3,l3325_0,rfl,hm⟩:=hm
 replace hm:=ll_uncons hm;obtain ⟨v4,l3325_1,rfl,hm⟩:=hm
 replace hm:=ll_end hm;obtain ⟨rfl,hm⟩:=hm
 replace hm:=inv_vAgg hm;obtain ⟨l2,rfl,hm⟩:=hm
 replace hm:=ll_uncons hm;obtain ⟨v5,l3329_0,rfl,hm⟩:=hm
 replace hm:=ll_uncons hm;obtain ⟨v6,l3329_1,rfl,hm⟩:=hm
 replace hm:=ll_end hm;obtain ⟨rfl,hm⟩:=hm
 replace hm:=inv_toI hm;obtain ⟨x2,rfl,hm⟩:=hm
 replace hm:=inv_toI hm;obtain ⟨x3,rfl,hm⟩:=hm
 replace hm:=inv_toI hm;obtain ⟨x4,rfl,hm⟩:=hm
 refine .reg (eC 1 ((oo (pu 61 [(.agg ⟨[zI x0,Sl.v 1 s0]⟩)]) none fun v=>some (v,(hp 2 [(oC [zI x0,Sl.v 1 s0]),(oC [(zI (0:Int)),(.slice none 0 0)])])))) (call_eq h0) (eE)) ?_
 refine .ghs (fr 39 [(1,zI x1),(2,(pt 0 0)),(4,pt 1 0),(6,(pt 2 0)),(7,zI x4)]) (hp 3 [(oC [zI x0,Sl.v 1 s0]),(oC [(zI (0:Int)),(.slice none 0 0)]),(oC [zI x2,.int .u32 x3])]) (.k0 [] [.tmp 2 false,.tmp 4 false,.tmp 6 false] [1,2,4,6,7]) ?_
 refine .then ?_
 refine .block ?_
 refine .then (.rK ?_)
 refine .ghs (fr 39 [(1,zI x1),(2,(pt 0 0)),(4,pt 1 0),(6,(pt 2 0)),(7,zI x4),(13,(zB (nt (ieq x4 (0:Int)))))]) (hp 3 [(oC [zI x0,Sl.v 1 s0]),(oC [(zI (0:Int)),(.slice none 0 0)]),(oC [zI x2,.int .u32 x3])]) (.k0 [] [.tmp 2 false,.tmp 4 false,.tmp 6 false] [1,2,4,6,7,13]) ?_
 replace hm:=bb_cases hm;rcases hm with ⟨h1,hm⟩ | ⟨h1,hm⟩
 ·refine .ifT (nt (ieq x4 (0 : Int))) (by kernel_rfl) h1 ?_
  refine .then (.rK ?_)
  refine .ghs (fr 39 [(4,(pt 0 0)),(5,zI x4)]) (hp 1 [(oC [(zI (0:Int)),(.slice none 0 0)])]) (.k0 [] [.tmp 4 false] [4,5]) ?_
  refine .ret ?_
  exact finT_ret (.tuple ⟨[(.agg ⟨[(zI (0:Int)),(.slice none 0 0)]⟩),zI x4]⟩) (.tuple ⟨[(.agg ⟨[(zI (0:Int)),(Sl.v 1 (Sl.mk 0 2 []))]⟩),zI x4]⟩) (by kernel_rfl) (Tell.tup (.cons (Tell.agg (.cons (Tell.refl _ _ _) (.cons (.weak (Weak.nil 1 2)) (TellL.nil _)))) (.cons (Tell.refl _ _ _) (TellL.nil _)))) (by kernel_rfl) hm
 ·refine .ifF (nt (ieq x4 (0 : Int))) (by kernel_rfl) h1 ?_
  refine .join (v:=v) (fun y:Int×Bool×Int×Sl×Int×Int×Int=>((fr 39 [(1,(zI y.1)),(2,(pt 0 0)),(4,pt 1 0),(6,(pt 2 0)),(18,(zB y.2.1))]),(hp 3 [(oC [(zI y.2.2.1),(Sl.v 1 y.2.2.2.1)]),(oC [(zI y.2.2.2.2.1),(.slice none 0 0)]),(oC [(zI y.2.2.2.2.2.1),(.int .u32 y.2.2.2.2.2.2)])]))) (fun y=>m40_0 pu n y.1 y.2.1 y.2.2.1 y.2.2.2.1 y.2.2.2.2.1 y.2.2.2.2.2.1 y.2.2.2.2.2.2) ?_ ?_
  ·rintro ⟨z0, b0, z1, s1, z2, z3, z4⟩ hm
   unfold m40_0 at hm
   replace hm:=bb_cases hm;rcases hm with ⟨h2,hm⟩ | ⟨h2,hm⟩
   ·refine .ifT b0 (by kernel_rfl) h2 ?_
    refine .then (.rK ?_)
    refine .ghs (fr 39 [(4,(pt 0 0)),(5,(zI (1:Int)))]) (hp 1 [(oC [(zI (0:Int)),(.slice none 0 0)])]) (.k0 [] [.tmp 4 false] [4,5]) ?_
    refine .ret ?_
    exact finT_ret (.tuple ⟨[(.agg ⟨[(zI (0:Int)),(.slice none 0 0)]⟩),(zI (1:Int))]⟩) (.tuple ⟨[(.agg ⟨[(zI (0:Int)),(Sl.v 1 (Sl.mk 0 2 []))]⟩),(zI (1:Int))]⟩) (by kernel_rfl) (Tell.tup (.cons (Tell.agg (.cons (Tell.refl _ _ _) (.cons (.weak (Weak.nil 1 2)) (TellL.nil _)))) (.cons (Tell.refl _ _ _) (TellL.nil _)))) (by kernel_rfl) hm
   ·refine .ifF b0 (by kernel_rfl) h2 ?_
    refine .then ?_
    replace hm:=oo_inv hm;obtain ⟨v7,h3,hm⟩:=hm
    replace hm:=inv_vBool hm;obtain ⟨b1,rfl,hm⟩:=hm
    refine .reg (eC 3 ((oo (pu 89 [zI z0,zI z1]) none fun v=>some (v,(hp 3 [(oC [zI z1,Sl.v 1 s1]),(oC [zI z2,(.slice none 0 0)]),(oC [zI z3,.int .u32 z4])])))) (call_eq h3) (eE)) ?_
    refine .ghs (fr 39 [(1,zI z0),(4,(pt 0 0)),(6,pt 1 0),(28,(zB (nt b1)))]) (hp 2 [(oC [zI z2,(.slice none 0 0)]),(oC [zI z3,.int .u32 z4])]) (.k0 [] [.tmp 4 false,.tmp 6 false] [1,4,6,28]) ?_
    replace hm:=bb_cases hm;rcases hm with ⟨h4,hm⟩ | ⟨h4,hm⟩
    ·refine .ifT (nt b1) (by kernel_rfl) h4 ?_
     refine .then (.rK ?_)
     refine .ghs (fr 39 [(4,(pt 0 0)),(5,(zI (13:Int)))]) (hp 1 [(oC [(zI (0:Int)),(.slice none 0 0)])]) (.k0 [] [.tmp 4 false] [4,5]) ?_
     refine .ret ?_
     exact finT_ret (.tuple ⟨[(.agg ⟨[(zI (0:Int)),(.slice none 0 0)]⟩),(zI (13:Int))]⟩) (.tuple ⟨[(.agg ⟨[(zI (0:Int)),(Sl.v 1 (Sl.mk 0 2 []))]⟩),(zI (13:Int))]⟩) (by kernel_rfl) (Tell.tup (.cons (Tell.agg (.cons (Tell.refl _ _ _) (.cons (.weak (Weak.nil 1 2)) (TellL.nil _)))) (.cons (Tell.refl _ _ _) (TellL.nil _)))) (by kernel_rfl) hm
    ·refine .ifF (nt b1) (by kernel_rfl) h4 ?_
     refine .skip ?_
     refine .ghs (fr 39 [(1,zI z0),(4,(pt 0 0)),(6,pt 1 0)]) (hp 2 [(oC [zI z2,(.slice none 0 0)]),(oC [zI z3,.int .u32 z4])]) (.k0 [] [.tmp 4 false,.tmp 6 false] [1,4,6]) ?_
     refine .then ?_
     replace hm:=oo_inv hm;obtain ⟨v8,h5,hm⟩:=hm
     replace hm:=inv_vAgg hm;obtain ⟨l3,rfl,hm⟩:=hm
     replace hm:=ll_uncons hm;obtain ⟨v9,l3381_0,rfl,hm⟩:=hm
     replace hm:=ll_uncons hm;obtain ⟨v10,l3381_1,rfl,hm⟩:=hm
     replace hm:=ll_end hm;obtain ⟨rfl,hm⟩:=hm
     replace hm:=inv_toI hm;obtain ⟨x5,rfl,hm⟩:=hm
     replace hm:=inv_toI hm;obtain ⟨x6,rfl,hm⟩:=hm
     replace hm:=oo_inv hm;obtain ⟨v11,h6,hm⟩:=hm
     replace hm:=inv_vAgg hm;obtain ⟨l4,rfl,hm⟩:=hm
     replace hm:=ll_uncons hm;obtain ⟨v12,l3391_0,rfl,hm⟩:=hm
     replace hm:=ll_uncons hm;obtain ⟨v13,l3391_1,rfl,hm⟩:=hm
     replace hm:=ll_end hm;obtain ⟨rfl,hm⟩:=hm
     replace hm:=inv_toI hm;obtain ⟨x7,rfl,hm⟩:=hm
     replace hm:=inv_toSl hm;obtain ⟨s2,rfl,hm⟩:=hm
     refine .reg (eC 2 ((oo (pu 71 [(.agg ⟨[zI z3,.int .u32 z4]⟩),zI z0]) none fun v=>some (v,(hp 2 [(oC [zI z2,(.slice none 0 0)]),(oC [zI z3,.int .u32 z4])])))) (call_eq h5) (eD ((oo (pu 66 [(.agg ⟨[zI x5,.int .u32 x6]⟩)]) none fun v=>some (v,(hp 2 [(oC [zI z2,(.slice none 0 0)]),(oC [zI z3,.int .u32 z4])])))) (call_eq h6) (eE))) ?_
     refine .ghs (fr 39 [(4,(pt 0 0)),(5,(zI (0:Int)))]) (hp 1 [(oC [zI x7,Sl.v 1 s2])]) (.k0 [] [.tmp 4 false] [4,5]) ?_
     refine .ret ?_
     exact fin_ret (.tuple ⟨[(.agg ⟨[zI x7,Sl.v 1 s2]⟩),(zI (0:Int))]⟩) (by kernel_rfl) (by kernel_rfl) hm
  ·replace hm := bb_cases hm; rcases hm with ⟨h7, hm⟩ | ⟨h7, hm⟩
   ·refine .reg (eC 1 (some ((zB (ilt x1 (1 : Int))), (hp 3 [(oC [zI x0, Sl.v 1 s0]), (oC [(zI (0 : Int)), (.slice none 0 0)]), (oC [zI x2, .int .u32 x3])]))) (show _ = some ((zB true), _) from (by rw [h7])) (eE)) ?_
    exact ⟨(x1,true,x0,s0,(0:Int),x2,x3),hm,(.k0 [] [.tmp 2 false,.tmp 4 false,.tmp 6 false] [1,2,4,6,18])⟩
   ·refine .reg (eC 1 (some ((zB (ilt x1 (1 : Int))), (hp 3 [(oC [zI x0, Sl.v 1 s0]), (oC [(zI (0 : Int)), (.slice none 0 0)]), (oC [zI x2, .int .u32 x3])]))) (show _ = some ((zB false), _) from (by rw [h7])) (eE)) ?_
    exact ⟨(x1,(ilt x0 x1),x0,s0,(0:Int),x2,x3),hm,(.k0 [] [.tmp 2 false,.tmp 4 false,.tmp 6 false] [1,2,4,6,18])⟩
def m42_0 (pu:PureF) (n n0 c0:Nat) (q1:LV):OV:=
 (bb (allL closed1 q1) (bb (an (Nat.ble (0 + n0 * 1) (len q1)) (allL closed1 (takeL (n0 * 1) (dropL 0 q1)))) (some (.tuple ⟨[(Sl.v 1 (Sl.mk n0 0 (takeL (n0 * 1) (dropL 0 q1)))),(.int .i64 (0:Int))]⟩)) none) none)
def m42_2 (pu:PureF) (n:Nat) (ih0:Nat→Nat→Int→Int→Sl→Int→Int→LV→OV) (n0 c0:Nat) (z0 z1:Int) (s0:Sl) (z2 z3:Int) (q1:LV):OV:=
 (bb (allL closed1 q1) (ih0 n0 c0 (wrapF .i64 (Int.add z0 (1:Int))) z1 s0 z2 z3 q1) none)
def b42_1 (pu:PureF) (n:Nat) (ih0:Nat→Nat→Int→Int→Sl→Int→Int→LV→OV) (n0 c0:Nat) (z0 z1:Int) (s0:Sl) (z2 z3:Int) (q1:LV):OV:=
 (bb (allL closed1 q1) (bb (nt (ilt z1 z0)) (oo (pu 89 [.int .i64 z0,.int .i64 z1]) none fun v0=>(oo (vBool v0) none fun b0=>(bb (nt b0) (m42_2 pu n ih0 n0 c0 z0 z1 s0 z2 z3 q1) (oo (pu 71 [(.agg ⟨[.int .i64 z2,.int .u32 z3]⟩),.int .i64 z0]) none fun v1=>(oo (vAgg v1) none fun l0=>(ll l0 none fun v2 l0=>(ll l0 none fun v3 l0=>(ll l0 (oo (toI .i64 v2) none fun x0=>(oo (toI .u32 v3) none fun x1=>(oo (pu 70 [(.agg ⟨[.int .i64 x0,.int .u32 x1]⟩),(.agg ⟨[.int .i64 z2,.int .u32 z3]⟩)]) none fun v4=>(oo (vTup v4) none fun l1=>(ll l1 none fun v5 l1=>(ll l1 none fun v6 l1=>(ll l1 (oo (toI .i64 v5) none fun x2=>(oo (vBool v6) none fun b1=>(bb b1 (bb (growC 1 8 n0 c0 1 q1) (bb (allL closed1 (appL (dropL 0 q1) [.int .i64 z0])) (m42_2 pu n ih0 (n0 + 1) (2 * (n0 + 1) + bb false 1 0) z0 z1 s0 z2 z3 (appL (dropL 0 q1) [.int .i64 z0])) none) none) (m42_2 pu n ih0 n0 c0 z0 z1 s0 z2 z3 q1)))) fun _ _=>none))))))) fun _ _=>none)))))))) (m42_0 pu n n0 c0 q1)) none)
def l42_1 (pu:PureF) (n w:Nat):Nat→Nat→Int→Int→Sl→Int→Int→LV→OV:=
 Nat.rec (motive:=fun _=>Nat→Nat→Int→Int→Sl→Int→Int→LV→OV) (fun _ _ _ _ _ _ _ _=>none) (fun _ ih0=>b42_1 pu n ih0) w
def m42_ (pu:PureF) (n:Nat) (x0:Int) (s0:Sl):OV:=
 (oo (pu 61 [(.agg ⟨[.int .i64 x0,Sl.v 1 s0]⟩)]) none fun v0=>(oo (vTup v0) none fun l0=>(ll l0 none fun v1 l0=>(ll l0 none fun v2 l0=>(ll l0 (oo (vAgg v1) none fun l1=>(ll l1 none fun v3 l1=>(ll l1 none fun v4 l1=>(ll l1 (oo (toI .i64 v3) none fun x1=>(oo (toI .u32 v4) none fun x2=>(oo (toI .i64 v2) none fun x3=>(bb (nt (ieq x3 (0:Int))) (some (.tuple ⟨[(Sl.v 1 (Sl.mk 0 2 [])),.int .i64 x3]⟩)) (l42_1 pu n n 0 0 (1:Int) x0 s0 x1 x2 ([]:LV)))))) fun _ _=>none)))) fun _ _=>none)))))
def m42 (pu:PureF) (n:Nat) (args:LV):OV:=
 (ll args none fun a0 args=>(ll args (oo (vAgg a0) none fun l0=>(ll l0 none fun v0 l0=>(ll l0 none fun v1 l0=>(ll l0 (oo (toI .i64 v0) none fun x0=>(oo (toSl 1 v1) none fun s0=>(m42_ pu n x0 s0))) fun _ _=>none)))) fun _ _=>none))
theorem w42_0 (pu:PureF) (n n0 c0:Nat) (q1:LV) {v:Value} (hm:m42_0 pu n n0 c0 q1 = some v):Run tt (callP tabs isP pu (inl pu)) 0 c42_30 (fr 43 [(6,sc 0 0 1 n0 c0)]) (hp 1 [oC q1]) (Fin tt 0 [.tmp 2,.tmp 3] v):=by
 unfold m42_0 at hm
 refine .then (.rK ?_)
 replace hm:=bb_inv hm;obtain ⟨h0,hm⟩:=hm
 refine .ghs (fr 43 [(2,sc 0 0 1 n0 c0),(3,(zI (0:Int)))]) (hp 1 [oC q1]) (.k [0] [] [.tmp 2 false] [2,3] ⟨trF h0,trivial⟩) ?_
 replace hm:=bb_inv hm;obtain ⟨h1,hm⟩:=hm
 refine .ghs (Fr.puts (fr 43 [(2,sc 0 0 1 n0 c0),(3,(zI (0:Int)))]) [(2,(Sl.v 1 (Sl.mk n0 0 (takeL (n0 * 1) (dropL 0 q1)))))]) (hp 1 [.dead]) (.freezeC 0 2 1 (an (Nat.ble (0 + n0 * 1) (len q1)) (allL closed1 (takeL (n0 * 1) (dropL 0 q1)))) (F1:=(Fr.puts (fr 43 [(2,sc 0 0 1 n0 c0),(3,(zI (0:Int)))]) [(2,(Sl.v 1 (Sl.mk n0 0 (takeL (n0 * 1) (dropL 0 q1)))))])) (H1:=(hp 1 [.dead])) (by kernel_rfl) (by kernel_rfl) h1 (GhS.id _ _)) ?_
 refine .ret ?_
 exact fin_ret (.tuple ⟨[(Sl.v 1 (Sl.mk n0 0 (takeL (n0 * 1) (dropL 0 q1)))),(zI (0:Int))]⟩) (by kernel_rfl) (by kernel_rfl) hm
theorem r42 {call:CallF} (pu:PureF) (n:Nat) (hcall:call = callP tabs isP pu (inl pu)) {args:LV} {v:Value} (hm:m42 pu n args = some v) (_:∀ x ∈ args,closed2 x = true):args.length≤43∧Run tt call 0 c42_35 (Fr.made 43 args) (pureHeap tabs) (Fin tt 0 [.tmp 2,.tmp 3] v):=by
 subst hcall
 unfold m42 at hm
 replace hm:=ll_uncons hm;obtain ⟨a0,args_0,rfl,hm⟩:=hm
 replace hm:=ll_end hm;obtain ⟨rfl,hm⟩:=hm
 replace hm:=inv_vAgg hm;obtain ⟨l0,rfl,hm⟩:=hm
 replace hm:=ll_uncons hm;obtain ⟨v0,l3401_0,rfl,hm⟩:=hm
 replace hm:=ll_uncons hm;obtain ⟨v1,l3401_1,rfl,hm⟩:=hm
 replace hm:=ll_end hm;obtain ⟨rfl,hm⟩:=hm
 replace hm:=inv_toI hm;obtain ⟨x0,rfl,hm⟩:=hm
 replace hm:=inv_toSl hm;obtain ⟨s0,rfl,hm⟩:=hm
 unfold m42_ at hm
 refine ⟨by simp,?_⟩
 refine .same (F':=(fr 43 [(0,(.agg ⟨[zI x0,Sl.v 1 s0]⟩))])) (H':=(hp 0 [])) (by kernel_rfl) (by kernel_rfl) ?_
 refine .then (.rK ?_)
 refine .ghs (fr 43 [(1,(pt 0 0))]) (hp 1 [(oC [zI x0,Sl.v 1 s0])]) (.k0 [] [.tmp 1 false] [1]) ?_
 refine .then ?_
 replace hm:=oo_inv hm;obtain ⟨v2,h0,hm⟩:=hm
 replace hm:=inv_vTup hm;obtain ⟨l1,rfl,hm⟩:=hm
 replace hm:=ll_uncons hm;obtain ⟨v3,l3427_0,rfl,hm⟩:=hm
 replace hm:=ll_uncons hm;obtain ⟨v4,l3427_1,rfl,hm⟩:=hm
 replace hm:=ll_end hm;obtain ⟨rfl,hm⟩:=hm
 replace hm:=inv_vAgg hm;obtain ⟨l2,rfl,hm⟩:=hm
 replace hm:=ll_uncons hm;obtain ⟨v5,l3431_0,rfl,hm⟩:=hm
 replace hm:=ll_uncons hm;obtain ⟨v6,l3431_1,rfl,hm⟩:=hm
 replace hm:=ll_end hm;obtain ⟨rfl,hm⟩:=hm
 replace hm:=inv_toI hm;obtain ⟨x1,rfl,hm⟩:=hm
 replace hm:=inv_toI hm;obtain ⟨x2,rfl,hm⟩:=hm
 replace hm:=inv_toI hm;obtain ⟨x3,rfl,hm⟩:=hm
 refine .reg (eC 1 ((oo (pu 61 [(.agg ⟨[zI x0,Sl.v 1 s0]⟩)]) none fun v=>some (v,(hp 1 [(oC [zI x0,Sl.v 1 s0])])))) (call_eq h0) (eE)) ?_
 refine .ghs (fr 43 [(1,(pt 0 0)),(4,pt 1 0),(5,zI x3)]) (hp 2 [(oC [zI x0,Sl.v 1 s0]),(oC [zI x1,.int .u32 x2])]) (.k0 [] [.tmp 1 false,.tmp 4 false] [1,4,5]) ?_
 refine .then ?_
 refine .then (.rK ?_)
 refine .ghs (fr 43 [(1,(pt 0 0)),(4,pt 1 0),(5,zI x3),(16,(zB (nt (ieq x3 (0:Int)))))]) (hp 2 [(oC [zI x0,Sl.v 1 s0]),(oC [zI x1,.int .u32 x2])]) (.k0 [] [.tmp 1 false,.tmp 4 false] [1,4,5,16]) ?_
 replace hm:=bb_cases hm;rcases hm with ⟨h1,hm⟩ | ⟨h1,hm⟩
 ·refine .ifT (nt (ieq x3 (0 : Int))) (by kernel_rfl) h1 ?_
  refine .then (.rK ?_)
  refine .ghs (fr 43 [(2,(.slice none 0 0)),(3,zI x3)]) (hp 0 []) (.k0 [] [] [2,3]) ?_
  refine .ghs (Fr.puts (fr 43 [(2,(.slice none 0 0)),(3,zI x3)]) [(2,(Sl.v 1 (Sl.mk 0 2 [])))]) (hp 0 []) (.freeze 0 2 1 (by kernel_rfl) (by kernel_rfl) (GhS.id _ _)) ?_
  refine .ret ?_
  exact fin_ret (.tuple ⟨[(Sl.v 1 (Sl.mk 0 2 [])),zI x3]⟩) (by kernel_rfl) (by kernel_rfl) hm
 ·refine .ifF (nt (ieq x3 (0 : Int))) (by kernel_rfl) h1 ?_
  refine .skip ?_
  refine .ghs (fr 43 [(1,(pt 0 0)),(4,pt 1 0)]) (hp 2 [(oC [zI x0,Sl.v 1 s0]),(oC [zI x1,.int .u32 x2])]) (.k0 [] [.tmp 1 false,.tmp 4 false] [1,4]) ?_
  refine .then (.rK ?_)
  refine .ghs (fr 43 [(1,(pt 0 0)),(4,pt 1 0),(6,(.slice none 0 0))]) (hp 2 [(oC [zI x0,Sl.v 1 s0]),(oC [zI x1,.int .u32 x2])]) (.k0 [] [.tmp 1 false,.tmp 4 false] [1,4,6]) ?_
  refine .join (v:=v) (fun y:Nat×Nat×LV=>((fr 43 [(6,(sc 0 0 1 y.1 y.2.1))]),(hp 1 [(oC y.2.2)]))) (fun y=>m42_0 pu n y.1 y.2.1 y.2.2) ?_ ?_
  ·rintro ⟨n0, c0, q1⟩ hm
   exact w42_0 pu n n0 c0 q1 hm
  ·refine .then (.rK ?_)
   refine .ghs (fr 43 [(1,(pt 0 0)),(4,pt 1 0),(6,(.slice none 0 0)),(7,(zI (1:Int)))]) (hp 2 [(oC [zI x0,Sl.v 1 s0]),(oC [zI x1,.int .u32 x2])]) (.k0 [] [.tmp 1 false,.tmp 4 false] [1,4,6,7]) ?_
   refine .block ?_
   refine .loopM (v:=v) (fun y:Nat×Nat×Int×Int×Sl×Int×Int×LV=>((fr 43 [(1,(pt 0 0)),(4,pt 1 0),(6,(sc 2 0 1 y.1 y.2.1)),(7,(zI y.2.2.1))]),(hp 3 [(oC [(zI y.2.2.2.1),(Sl.v 1 y.2.2.2.2.1)]),(oC [(zI y.2.2.2.2.2.1),(.int .u32 y.2.2.2.2.2.2.1)]),(oC y.2.2.2.2.2.2.2)]))) (fun w y=>l42_1 pu n w y.1 y.2.1 y.2.2.1 y.2.2.2.1 y.2.2.2.2.1 y.2.2.2.2.2.1 y.2.2.2.2.2.2.1 y.2.2.2.2.2.2.2) n ⟨(0,0,(1:Int),x0,s0,x1,x2,([]:LV)),hm,(.thaw 6 1 (by kernel_rfl) (.k0 [] [.tmp 1 false,.tmp 4 false,.tmp 6 false] [1,4,6,7]))⟩ (fun _=>rfl) ?_
   rintro w0 ⟨n1,c1,z0,z1,s1,z2,z3,q2⟩ hm
   replace hm:b42_1 pu n (l42_1 pu n w0) n1 c1 z0 z1 s1 z2 z3 q2 = some v:=hm
   unfold b42_1 at hm
   refine .then ?_
   refine .then (.rK ?_)
   replace hm:=bb_inv hm;obtain ⟨h2,hm⟩:=hm
   refine .ghs (fr 43 [(1,(pt 0 0)),(4,pt 1 0),(6,sc 2 0 1 n1 c1),(7,zI z0),(21,(zB (nt (ilt z1 z0))))]) (hp 3 [(oC [zI z1,Sl.v 1 s1]),(oC [zI z2,.int .u32 z3]),oC q2]) (.k [2] [] [.tmp 1 false,.tmp 4 false,.tmp 6 false] [1,4,6,7,21] ⟨trF h2,trivial⟩) ?_
   replace hm:=bb_cases hm;rcases hm with ⟨h3,hm⟩ | ⟨h3,hm⟩
   ·refine .ifT (nt (ilt z1 z0)) (by kernel_rfl) h3 ?_
    refine .skip ?_
    refine .ghs (fr 43 [(1,(pt 0 0)),(4,pt 1 0),(6,sc 2 0 1 n1 c1),(7,zI z0)]) (hp 3 [(oC [zI z1,Sl.v 1 s1]),(oC [zI z2,.int .u32 z3]),oC q2]) (.k [2] [] [.tmp 1 false,.tmp 4 false,.tmp 6 false] [1,4,6,7] ⟨trF h2,trivial⟩) ?_
    refine .join (v:=v) (fun y:Nat×Nat×Int×Int×Sl×Int×Int×LV=>((fr 43 [(1,(pt 0 0)),(4,pt 1 0),(6,(sc 2 0 1 y.1 y.2.1)),(7,(zI y.2.2.1))]),(hp 3 [(oC [(zI y.2.2.2.1),(Sl.v 1 y.2.2.2.2.1)]),(oC [(zI y.2.2.2.2.2.1),(.int .u32 y.2.2.2.2.2.2.1)]),(oC y.2.2.2.2.2.2.2)]))) (fun y=>m42_2 pu n (l42_1 pu n w0) y.1 y.2.1 y.2.2.1 y.2.2.2.1 y.2.2.2.2.1 y.2.2.2.2.2.1 y.2.2.2.2.2.2.1 y.2.2.2.2.2.2.2) ?_ ?_
    ·rintro ⟨n2, c2, z4, z5, s2, z6, z7, q3⟩ hm
     unfold m42_2 at hm
     refine .rK ?_
     replace hm:=bb_inv hm;obtain ⟨h4,hm⟩:=hm
     exact ⟨(n2,c2,(wrapF .i64 (Int.add z4 (1:Int))),z5,s2,z6,z7,q3),hm,(.k [2] [] [.tmp 1 false,.tmp 4 false,.tmp 6 false] [1,4,6,7] ⟨trF h4,trivial⟩)⟩
    ·refine .block ?_
     refine .then ?_
     refine .then ?_
     replace hm:=oo_inv hm;obtain ⟨v7,h5,hm⟩:=hm
     replace hm:=inv_vBool hm;obtain ⟨b0,rfl,hm⟩:=hm
     refine .reg (eC 3 ((oo (pu 89 [zI z0,zI z1]) none fun v=>some (v,(hp 3 [(oC [zI z1,Sl.v 1 s1]),(oC [zI z2,.int .u32 z3]),oC q2])))) (call_eq h5) (eE)) ?_
     refine .ghs (fr 43 [(1,(pt 0 0)),(4,pt 1 0),(6,sc 2 0 1 n1 c1),(7,zI z0),(28,(zB (nt b0)))]) (hp 3 [(oC [zI z1,Sl.v 1 s1]),(oC [zI z2,.int .u32 z3]),oC q2]) (.k [2] [] [.tmp 1 false,.tmp 4 false,.tmp 6 false] [1,4,6,7,28] ⟨trF h2,trivial⟩) ?_
     replace hm:=bb_cases hm;rcases hm with ⟨h6,hm⟩ | ⟨h6,hm⟩
     ·refine .ifT (nt b0) (by kernel_rfl) h6 ?_
      refine .exit ?_
      exact ⟨(n1,c1,z0,z1,s1,z2,z3,q2),hm,(.k [2] [] [.tmp 1 false,.tmp 4 false,.tmp 6 false] [1,4,6,7] ⟨trF h2,trivial⟩)⟩
     ·refine .ifF (nt b0) (by kernel_rfl) h6 ?_
      refine .skip ?_
      refine .ghs (fr 43 [(1,(pt 0 0)),(4,pt 1 0),(6,sc 2 0 1 n1 c1),(7,zI z0)]) (hp 3 [(oC [zI z1,Sl.v 1 s1]),(oC [zI z2,.int .u32 z3]),oC q2]) (.k [2] [] [.tmp 1 false,.tmp 4 false,.tmp 6 false] [1,4,6,7] ⟨trF h2,trivial⟩) ?_
      refine .then ?_
      replace hm:=oo_inv hm;obtain ⟨v8,h7,hm⟩:=hm
      replace hm:=inv_vAgg hm;obtain ⟨l3,rfl,hm⟩:=hm
      replace hm:=ll_uncons hm;obtain ⟨v9,l3673_0,rfl,hm⟩:=hm
      replace hm:=ll_uncons hm;obtain ⟨v10,l3673_1,rfl,hm⟩:=hm
      replace hm:=ll_end hm;obtain ⟨rfl,hm⟩:=hm
      replace hm:=inv_toI hm;obtain ⟨x4,rfl,hm⟩:=hm
      replace hm:=inv_toI hm;obtain ⟨x5,rfl,hm⟩:=hm
      replace hm:=oo_inv hm;obtain ⟨v11,h8,hm⟩:=hm
      replace hm:=inv_vTup hm;obtain ⟨l4,rfl,hm⟩:=hm
      replace hm:=ll_uncons hm;obtain ⟨v12,l3683_0,rfl,hm⟩:=hm
      replace hm:=ll_uncons hm;obtain ⟨v13,l3683_1,rfl,hm⟩:=hm
      replace hm:=ll_end hm;obtain ⟨rfl,hm⟩:=hm
      replace hm:=inv_toI hm;obtain ⟨x6,rfl,hm⟩:=hm
      replace hm:=inv_vBool hm;obtain ⟨b1,rfl,hm⟩:=hm
      refine .reg (eC 3 ((oo (pu 71 [(.agg ⟨[zI z2,.int .u32 z3]⟩),zI z0]) none fun v=>some (v,(hp 3 [(oC [zI z1,Sl.v 1 s1]),(oC [zI z2,.int .u32 z3]),oC q2])))) (call_eq h7) (eD ((oo (pu 70 [(.agg ⟨[zI x4,.int .u32 x5]⟩),(.agg ⟨[zI z2,.int .u32 z3]⟩)]) none fun v=>some (v,(hp 3 [(oC [zI z1,Sl.v 1 s1]),(oC [zI z2,.int .u32 z3]),oC q2])))) (call_eq h8) (eE))) ?_
      refine .ghs (fr 43 [(1,(pt 0 0)),(4,pt 1 0),(6,sc 2 0 1 n1 c1),(7,zI z0),(9,zB b1)]) (hp 3 [(oC [zI z1,Sl.v 1 s1]),(oC [zI z2,.int .u32 z3]),oC q2]) (.k [2] [] [.tmp 1 false,.tmp 4 false,.tmp 6 false] [1,4,6,7,9] ⟨trF h2,trivial⟩) ?_
      refine .then (.rK ?_)
      refine .ghs (fr 43 [(1,(pt 0 0)),(4,pt 1 0),(6,sc 2 0 1 n1 c1),(7,zI z0),(37,zB b1)]) (hp 3 [(oC [zI z1,Sl.v 1 s1]),(oC [zI z2,.int .u32 z3]),oC q2]) (.k [2] [] [.tmp 1 false,.tmp 4 false,.tmp 6 false] [1,4,6,7,37] ⟨trF h2,trivial⟩) ?_
      replace hm:=bb_cases hm;rcases hm with ⟨h9,hm⟩ | ⟨h9,hm⟩
      ·refine .ifT b1 (by kernel_rfl) h9 ?_
       replace hm:=bb_inv hm;obtain ⟨h10,hm⟩:=hm
       refine .reg (eC 3 (growD 1 8 n1 c1 1 2 q2 [zI z0] [] (hp 4 [(oC [zI z1,Sl.v 1 s1]),(oC [zI z2,.int .u32 z3]),oC q2,(oC [zI z0])])) (growD_eq h10) (eE)) ?_
       replace hm:=bb_inv hm;obtain ⟨h11,hm⟩:=hm
       exact ⟨((n1 + 1),(d2 (n1 + 1)),z0,z1,s1,z2,z3,(appL (dropL 0 q2) [zI z0])),hm,(.k [4] [] [.tmp 1 false,.tmp 4 false,.tmp 6 false] [1,4,6,7] ⟨trF h11,trivial⟩)⟩
      ·refine .ifF b1 (by kernel_rfl) h9 ?_
       refine .skip ?_
       exact ⟨(n1,c1,z0,z1,s1,z2,z3,q2),hm,(.k [2] [] [.tmp 1 false,.tmp 4 false,.tmp 6 false] [1,4,6,7] ⟨trF h2,trivial⟩)⟩
   ·refine .ifF (nt (ilt z1 z0)) (by kernel_rfl) h3 ?_
    refine .exit ?_
    exact ⟨(n1,c1,q2),hm,(.k [2] [] [.tmp 6 false] [6] ⟨trF h2,trivial⟩)⟩
def m44_0 (pu:PureF) (n n0 c0:Nat) (q1:LV):OV:=
 (bb (allL closed1 q1) (bb (an (Nat.ble (0 + n0 * 1) (len q1)) (allL closed1 (takeL (n0 * 1) (dropL 0 q1)))) (some (.tuple ⟨[(Sl.v 1 (Sl.mk n0 0 (takeL (n0 * 1) (dropL 0 q1)))),(.int .i64 (0:Int))]⟩)) none) none)
def m44_2 (pu:PureF) (n:Nat) (ih0:Nat→Nat→Int→Int→Int→Int→LV→OV) (n0 c0:Nat) (z0 z1 z2 z3:Int) (q1:LV):OV:=
 (bb (allL closed1 q1) (ih0 n0 c0 z0 (wrapF .i64 (Int.add z1 (1:Int))) z2 z3 q1) none)
def m44_3 (pu:PureF) (n:Nat) (ih0:Nat→Nat→Int→Int→Int→Int→LV→OV) (n0 c0:Nat) (z0 z1 z2:Int) (b0:Bool) (z3 z4:Int) (q1:LV):OV:=
 (bb b0 (bb (growC 1 8 n0 c0 1 q1) (bb (allL closed1 (appL (dropL 0 q1) [.int .i64 z0])) (m44_2 pu n ih0 (n0 + 1) (2 * (n0 + 1) + bb false 1 0) z1 z2 z3 z4 (appL (dropL 0 q1) [.int .i64 z0])) none) none) (bb (allL closed1 q1) (m44_2 pu n ih0 n0 c0 z1 z2 z3 z4 q1) none))
def b44_1 (pu:PureF) (n:Nat) (ih0:Nat→Nat→Int→Int→Int→Int→LV→OV) (n0 c0:Nat) (z0 z1 z2 z3:Int) (q1:LV):OV:=
 (bb (allL closed1 q1) (bb (ilt z1 z0) (oo (toN z1) none fun k1=>(oo (pu 91 [(.agg ⟨[.int .i64 z2,.int .u32 z3]⟩),(.int .i64 (Int.ofNat k1))]) none fun v0=>(oo (vBool v0) none fun b0=>(bb (nt b0) (oo (pu 76 [(.agg ⟨[.int .i64 z2,(.int .u32 (aor .u32 z3 (shlI .u32 (1:Int) k1)))]⟩)]) none fun v1=>(oo (toI .i64 v1) none fun x0=>(m44_3 pu n ih0 n0 c0 (Int.ofNat k1) z0 (Int.ofNat k1) (ieq x0 (0:Int)) z2 z3 q1))) (m44_3 pu n ih0 n0 c0 (Int.ofNat k1) z0 (Int.ofNat k1) false z2 z3 q1))))) (m44_0 pu n n0 c0 q1)) none)
def l44_1 (pu:PureF) (n w:Nat):Nat→Nat→Int→Int→Int→Int→LV→OV:=
 Nat.rec (motive:=fun _=>Nat→Nat→Int→Int→Int→Int→LV→OV) (fun _ _ _ _ _ _ _=>none) (fun _ ih0=>b44_1 pu n ih0) w
def m44_ (pu:PureF) (n:Nat) (x0:Int) (s0:Sl):OV:=
 (oo (pu 61 [(.agg ⟨[.int .i64 x0,Sl.v 1 s0]⟩)]) none fun v0=>(oo (vTup v0) none fun l0=>(ll l0 none fun v1 l0=>(ll l0 none fun v2 l0=>(ll l0 (oo (vAgg v1) none fun l1=>(ll l1 none fun v3 l1=>(ll l1 none fun v4 l1=>(ll l1 (oo (toI .i64 v3) none fun x1=>(oo (toI .u32 v4) none fun x2=>(oo (toI .i64 v2) none fun x3=>(bb (nt (ieq x3 (0:Int))) (some (.tuple ⟨[(Sl.v 1 (Sl.mk 0 2 [])),.int .i64 x3]⟩)) (oo (pu 50 [.int .u32 x2]) none fun v5=>(oo (toI .i64 v5) none fun x4=>(bb (ieq x4 (6:Int)) (some (.tuple ⟨[(Sl.v 1 (Sl.mk 0 2 [])),(.int .i64 (3:Int))]⟩)) (oo (pu 76 [(.agg ⟨[.int .i64 x1,.int .u32 x2]⟩)]) none fun v6=>(oo (toI .i64 v6) none fun x5=>(bb (ilt (0:Int) x5) (some (.tuple ⟨[(Sl.v 1 (Sl.mk 0 2 [])),(.int .i64 (14:Int))]⟩)) (l44_1 pu n n 0 0 x1 (0:Int) x1 x2 ([]:LV)))))))))))) fun _ _=>none)))) fun _ _=>none)))))
def m44 (pu:PureF) (n:Nat) (args:LV):OV:=
 (ll args none fun a0 args=>(ll args (oo (vAgg a0) none fun l0=>(ll l0 none fun v0 l0=>(ll l0 none fun v1 l0=>(ll l0 (oo (toI .i64 v0) none fun x0=>(oo (toSl 1 v1) none fun s0=>(m44_ pu n x0 s0))) fun _ _=>none)))) fun _ _=>none))
theorem w44_0 (pu:PureF) (n n0 c0:Nat) (q1:LV) {v:Value} (hm:m44_0 pu n n0 c0 q1 = some v):Run tt (callP tabs isP pu (inl pu)) 0 c44_41 (fr 54 [(6,sc 0 0 1 n0 c0)]) (hp 1 [oC q1]) (Fin tt 0 [.tmp 2,.tmp 3] v):=by
 unfold m44_0 at hm
 refine .then (.rK ?_)
 replace hm:=bb_inv hm;obtain ⟨h0,hm⟩:=hm
 refine .ghs (fr 54 [(2,sc 0 0 1 n0 c0),(3,(zI (0:Int)))]) (hp 1 [oC q1]) (.k [0] [] [.tmp 2 false] [2,3] ⟨trF h0,trivial⟩) ?_
 replace hm:=bb_inv hm;obtain ⟨h1,hm⟩:=hm
 refine .ghs (Fr.puts (fr 54 [(2,sc 0 0 1 n0 c0),(3,(zI (0:Int)))]) [(2,(Sl.v 1 (Sl.mk n0 0 (takeL (n0 * 1) (dropL 0 q1)))))]) (hp 1 [.dead]) (.freezeC 0 2 1 (an (Nat.ble (0 + n0 * 1) (len q1)) (allL closed1 (takeL (n0 * 1) (dropL 0 q1)))) (F1:=(Fr.puts (fr 54 [(2,sc 0 0 1 n0 c0),(3,(zI (0:Int)))]) [(2,(Sl.v 1 (Sl.mk n0 0 (takeL (n0 * 1) (dropL 0 q1)))))])) (H1:=(hp 1 [.dead])) (by kernel_rfl) (by kernel_rfl) h1 (GhS.id _ _)) ?_
 refine .ret ?_
 exact fin_ret (.tuple ⟨[(Sl.v 1 (Sl.mk n0 0 (takeL (n0 * 1) (dropL 0 q1)))),(zI (0:Int))]⟩) (by kernel_rfl) (by kernel_rfl) hm
theorem r44 {call:CallF} (pu:PureF) (n:Nat) (hcall:call = callP tabs isP pu (inl pu)) {args:LV} {v:Value} (hm:m44 pu n args = some v) (_:∀ x ∈ args,closed2 x = true):args.length≤54∧Run tt call 0 c44_46 (Fr.made 54 args) (pureHeap tabs) (Fin tt 0 [.tmp 2,.tmp 3] v):=by
 subst hcall
 unfold m44 at hm
 replace hm:=ll_uncons hm;obtain ⟨a0,args_0,rfl,hm⟩:=hm
 replace hm:=ll_end hm;obtain ⟨rfl,hm⟩:=hm
 replace hm:=inv_vAgg hm;obtain ⟨l0,rfl,hm⟩:=hm
 replace hm:=ll_uncons hm;obtain ⟨v0,l3695_0,rfl,hm⟩:=hm
 replace hm:=ll_uncons hm;obtain ⟨v1,l3695_1,rfl,hm⟩:=hm
 replace hm:=ll_end hm;obtain ⟨rfl,hm⟩:=hm
 replace hm:=inv_toI hm;obtain ⟨x0,rfl,hm⟩:=hm
 replace hm:=inv_toSl hm;obtain ⟨s0,rfl,hm⟩:=hm
 unfold m44_ at hm
 refine ⟨by simp,?_⟩
 refine .same (F':=(fr 54 [(0,(.agg ⟨[zI x0,Sl.v 1 s0]⟩))])) (H':=(hp 0 [])) (by kernel_rfl) (by kernel_rfl) ?_
 refine .then (.rK ?_)
 refine .ghs (fr 54 [(1,(pt 0 0))]) (hp 1 [(oC [zI x0,Sl.v 1 s0])]) (.k0 [] [.tmp 1 false] [1]) ?_
 refine .then ?_
 replace hm:=oo_inv hm;obtain ⟨v2,h0,hm⟩:=hm
 replace hm:=inv_vTup hm;obtain ⟨l1,rfl,hm⟩:=hm
 replace hm:=ll_uncons hm;obtain ⟨v3,l3721_0,rfl,hm⟩:=hm
 replace hm:=ll_uncons hm;obtain ⟨v4,l3721_1,rfl,hm⟩:=hm
 replace hm:=ll_end hm;obtain ⟨rfl,hm⟩:=hm
 replace hm:=inv_vAgg hm;obtain ⟨l2,rfl,hm⟩:=hm
 replace hm:=ll_uncons hm;obtain ⟨v5,l3725_0,rfl,hm⟩:=hm
 replace hm:=ll_uncons hm;obtain ⟨v6,l3725_1,rfl,hm⟩:=hm
 replace hm:=ll_end hm;obtain ⟨rfl,hm⟩:=hm
 replace hm:=inv_toI hm;obtain ⟨x1,rfl,hm⟩:=hm
 replace hm:=inv_toI hm;obtain ⟨x2,rfl,hm⟩:=hm
 replace hm:=inv_toI hm;obtain ⟨x3,rfl,hm⟩:=hm
 refine .reg (eC 1 ((oo (pu 61 [(.agg ⟨[zI x0,Sl.v 1 s0]⟩)]) none fun v=>some (v,(hp 1 [(oC [zI x0,Sl.v 1 s0])])))) (call_eq h0) (eE)) ?_
 refine .ghs (fr 54 [(4,(pt 0 0)),(5,zI x3)]) (hp 1 [(oC [zI x1,.int .u32 x2])]) (.k0 [] [.tmp 4 false] [4,5]) ?_
 refine .then ?_
 refine .block ?_
 refine .then (.rK ?_)
 refine .ghs (fr 54 [(4,(pt 0 0)),(5,zI x3),(14,(zB (nt (ieq x3 (0:Int)))))]) (hp 1 [(oC [zI x1,.int .u32 x2])]) (.k0 [] [.tmp 4 false] [4,5,14]) ?_
 replace hm:=bb_cases hm;rcases hm with ⟨h1,hm⟩ | ⟨h1,hm⟩
 ·refine .ifT (nt (ieq x3 (0 : Int))) (by kernel_rfl) h1 ?_
  refine .then (.rK ?_)
  refine .ghs (fr 54 [(2,(.slice none 0 0)),(3,zI x3)]) (hp 0 []) (.k0 [] [] [2,3]) ?_
  refine .ghs (Fr.puts (fr 54 [(2,(.slice none 0 0)),(3,zI x3)]) [(2,(Sl.v 1 (Sl.mk 0 2 [])))]) (hp 0 []) (.freeze 0 2 1 (by kernel_rfl) (by kernel_rfl) (GhS.id _ _)) ?_
  refine .ret ?_
  exact fin_ret (.tuple ⟨[(Sl.v 1 (Sl.mk 0 2 [])),zI x3]⟩) (by kernel_rfl) (by kernel_rfl) hm
 ·refine .ifF (nt (ieq x3 (0 : Int))) (by kernel_rfl) h1 ?_
  refine .then ?_
  replace hm:=oo_inv hm;obtain ⟨v7,h2,hm⟩:=hm
  replace hm:=inv_toI hm;obtain ⟨x4,rfl,hm⟩:=hm
  refine .reg (eC 2 ((oo (pu 50 [.int .u32 x2]) none fun v=>some (v,(hp 1 [(oC [zI x1,.int .u32 x2])])))) (call_eq h2) (eE)) ?_
  refine .ghs (fr 54 [(4,(pt 0 0)),(18,(zB (ieq x4 (6:Int))))]) (hp 1 [(oC [zI x1,.int .u32 x2])]) (.k0 [] [.tmp 4 false] [4,18]) ?_
  replace hm:=bb_cases hm;rcases hm with ⟨h3,hm⟩ | ⟨h3,hm⟩
  ·refine .ifT (ieq x4 (6 : Int)) (by kernel_rfl) h3 ?_
   refine .then (.rK ?_)
   refine .ghs (fr 54 [(2,(.slice none 0 0)),(3,(zI (3:Int)))]) (hp 0 []) (.k0 [] [] [2,3]) ?_
   refine .ghs (Fr.puts (fr 54 [(2,(.slice none 0 0)),(3,(zI (3:Int)))]) [(2,(Sl.v 1 (Sl.mk 0 2 [])))]) (hp 0 []) (.freeze 0 2 1 (by kernel_rfl) (by kernel_rfl) (GhS.id _ _)) ?_
   refine .ret ?_
   exact fin_ret (.tuple ⟨[(Sl.v 1 (Sl.mk 0 2 [])),(zI (3:Int))]⟩) (by kernel_rfl) (by kernel_rfl) hm
  ·refine .ifF (ieq x4 (6 : Int)) (by kernel_rfl) h3 ?_
   refine .then ?_
   replace hm:=oo_inv hm;obtain ⟨v8,h4,hm⟩:=hm
   replace hm:=inv_toI hm;obtain ⟨x5,rfl,hm⟩:=hm
   refine .reg (eC 1 ((oo (pu 76 [(.agg ⟨[zI x1,.int .u32 x2]⟩)]) none fun v=>some (v,(hp 1 [(oC [zI x1,.int .u32 x2])])))) (call_eq h4) (eE)) ?_
   refine .ghs (fr 54 [(4,(pt 0 0)),(23,(zB (ilt (0:Int) x5)))]) (hp 1 [(oC [zI x1,.int .u32 x2])]) (.k0 [] [.tmp 4 false] [4,23]) ?_
   replace hm:=bb_cases hm;rcases hm with ⟨h5,hm⟩ | ⟨h5,hm⟩
   ·refine .ifT (ilt (0 : Int) x5) (by kernel_rfl) h5 ?_
    refine .then (.rK ?_)
    refine .ghs (fr 54 [(2,(.slice none 0 0)),(3,(zI (14:Int)))]) (hp 0 []) (.k0 [] [] [2,3]) ?_
    refine .ghs (Fr.puts (fr 54 [(2,(.slice none 0 0)),(3,(zI (14:Int)))]) [(2,(Sl.v 1 (Sl.mk 0 2 [])))]) (hp 0 []) (.freeze 0 2 1 (by kernel_rfl) (by kernel_rfl) (GhS.id _ _)) ?_
    refine .ret ?_
    exact fin_ret (.tuple ⟨[(Sl.v 1 (Sl.mk 0 2 [])),(zI (14:Int))]⟩) (by kernel_rfl) (by kernel_rfl) hm
   ·refine .ifF (ilt (0 : Int) x5) (by kernel_rfl) h5 ?_
    refine .skip ?_
    refine .ghs (fr 54 [(4,(pt 0 0))]) (hp 1 [(oC [zI x1,.int .u32 x2])]) (.k0 [] [.tmp 4 false] [4]) ?_
    refine .then (.rK ?_)
    refine .ghs (fr 54 [(4,(pt 0 0)),(6,(.slice none 0 0))]) (hp 1 [(oC [zI x1,.int .u32 x2])]) (.k0 [] [.tmp 4 false] [4,6]) ?_
    refine .join (v:=v) (fun y:Nat×Nat×LV=>((fr 54 [(6,(sc 0 0 1 y.1 y.2.1))]),(hp 1 [(oC y.2.2)]))) (fun y=>m44_0 pu n y.1 y.2.1 y.2.2) ?_ ?_
    ·rintro ⟨n0, c0, q1⟩ hm
     exact w44_0 pu n n0 c0 q1 hm
    ·refine .then (.rK ?_)
     refine .ghs (fr 54 [(4,(pt 0 0)),(6,(.slice none 0 0)),(28,zI x1),(29,(zI (0:Int)))]) (hp 1 [(oC [zI x1,.int .u32 x2])]) (.k0 [] [.tmp 4 false] [4,6,28,29]) ?_
     refine .block ?_
     refine .loopM (v:=v) (fun y:Nat×Nat×Int×Int×Int×Int×LV=>((fr 54 [(4,(pt 0 0)),(6,(sc 1 0 1 y.1 y.2.1)),(28,(zI y.2.2.1)),(29,(zI y.2.2.2.1))]),(hp 2 [(oC [(zI y.2.2.2.2.1),(.int .u32 y.2.2.2.2.2.1)]),(oC y.2.2.2.2.2.2)]))) (fun w y=>l44_1 pu n w y.1 y.2.1 y.2.2.1 y.2.2.2.1 y.2.2.2.2.1 y.2.2.2.2.2.1 y.2.2.2.2.2.2) n ⟨(0,0,x1,(0:Int),x1,x2,([]:LV)),hm,(.thaw 6 1 (by kernel_rfl) (.k0 [] [.tmp 4 false,.tmp 6 false] [4,6,28,29]))⟩ (fun _=>rfl) ?_
     rintro w0 ⟨n1,c1,z0,z1,z2,z3,q2⟩ hm
     replace hm:b44_1 pu n (l44_1 pu n w0) n1 c1 z0 z1 z2 z3 q2 = some v:=hm
     unfold b44_1 at hm
     refine .then (.rK ?_)
     replace hm:=bb_inv hm;obtain ⟨h6,hm⟩:=hm
     refine .ghs (fr 54 [(4,(pt 0 0)),(6,sc 1 0 1 n1 c1),(28,zI z0),(29,zI z1),(30,(zB (ilt z1 z0)))]) (hp 2 [(oC [zI z2,.int .u32 z3]),oC q2]) (.k [1] [] [.tmp 4 false,.tmp 6 false] [4,6,28,29,30] ⟨trF h6,trivial⟩) ?_
     refine .then ?_
     replace hm:=bb_cases hm;rcases hm with ⟨h7,hm⟩ | ⟨h7,hm⟩
     ·refine .ifT (ilt z1 z0) (by kernel_rfl) h7 ?_
      refine .skip ?_
      refine .ghs (fr 54 [(4,(pt 0 0)),(6,sc 1 0 1 n1 c1),(28,zI z0),(29,zI z1)]) (hp 2 [(oC [zI z2,.int .u32 z3]),oC q2]) (.k [1] [] [.tmp 4 false,.tmp 6 false] [4,6,28,29] ⟨trF h6,trivial⟩) ?_
      refine .join (v:=v) (fun y:Nat×Nat×Int×Int×Int×Int×LV=>((fr 54 [(4,(pt 0 0)),(6,(sc 1 0 1 y.1 y.2.1)),(28,(zI y.2.2.1)),(29,(zI y.2.2.2.1))]),(hp 2 [(oC [(zI y.2.2.2.2.1),(.int .u32 y.2.2.2.2.2.1)]),(oC y.2.2.2.2.2.2)]))) (fun y=>m44_2 pu n (l44_1 pu n w0) y.1 y.2.1 y.2.2.1 y.2.2.2.1 y.2.2.2.2.1 y.2.2.2.2.2.1 y.2.2.2.2.2.2) ?_ ?_
      ·rintro ⟨n2, c2, z4, z5, z6, z7, q3⟩ hm
       unfold m44_2 at hm
       refine .rK ?_
       replace hm:=bb_inv hm;obtain ⟨h8,hm⟩:=hm
       exact ⟨(n2,c2,z4,(wrapF .i64 (Int.add z5 (1:Int))),z6,z7,q3),hm,(.k [1] [] [.tmp 4 false,.tmp 6 false] [4,6,28,29] ⟨trF h8,trivial⟩)⟩
      ·refine .block ?_
       refine .then (.rK ?_)
       refine .ghs (fr 54 [(4,(pt 0 0)),(6,sc 1 0 1 n1 c1),(7,zI z1),(28,zI z0),(29,zI z1)]) (hp 2 [(oC [zI z2,.int .u32 z3]),oC q2]) (.k [1] [] [.tmp 4 false,.tmp 6 false] [4,6,7,28,29] ⟨trF h6,trivial⟩) ?_
       refine .then (.rK ?_)
       refine .ghs (fr 54 [(4,(pt 0 0)),(6,sc 1 0 1 n1 c1),(7,zI z1),(8,(pt 2 0)),(28,zI z0),(29,zI z1)]) (hp 3 [(oC [zI z2,.int .u32 z3]),oC q2,(oC [zI z2,.int .u32 z3])]) (.k [1] [] [.tmp 4 false,.tmp 6 false,.tmp 8 false] [4,6,7,8,28,29] ⟨trF h6,trivial⟩) ?_
       refine .then ?_
       replace hm:=oo_inv hm;obtain ⟨k1,h9,hm⟩:=hm
       obtain rfl:=toN_some h9
       refine .rK ?_
       refine .ghs (fr 54 [(4,(pt 0 0)),(6,sc 1 0 1 n1 c1),(7,(zI (Int.ofNat k1))),(8,(pt 2 0)),(28,zI z0),(29,(zI (Int.ofNat k1)))]) (hp 3 [(oC [zI z2,.int .u32 z3]),oC q2,(oC [zI z2,(.int .u32 (aor .u32 z3 (shlI .u32 (1:Int) k1)))])]) (.k [1] [] [.tmp 4 false,.tmp 6 false,.tmp 8 false] [4,6,7,8,28,29] ⟨trF h6,trivial⟩) ?_
       refine .join (v:=v) (fun y:Nat×Nat×Int×Int×Int×Bool×Int×Int×LV=>((fr 54 [(4,(pt 0 0)),(6,(sc 1 0 1 y.1 y.2.1)),(7,(zI y.2.2.1)),(28,(zI y.2.2.2.1)),(29,(zI y.2.2.2.2.1)),(47,(zB y.2.2.2.2.2.1))]),(hp 2 [(oC [(zI y.2.2.2.2.2.2.1),(.int .u32 y.2.2.2.2.2.2.2.1)]),(oC y.2.2.2.2.2.2.2.2)]))) (fun y=>m44_3 pu n (l44_1 pu n w0) y.1 y.2.1 y.2.2.1 y.2.2.2.1 y.2.2.2.2.1 y.2.2.2.2.2.1 y.2.2.2.2.2.2.1 y.2.2.2.2.2.2.2.1 y.2.2.2.2.2.2.2.2) ?_ ?_
       ·rintro ⟨n3, c3, z8, z9, z10, b0, z11, z12, q4⟩ hm
        unfold m44_3 at hm
        replace hm:=bb_cases hm;rcases hm with ⟨h10,hm⟩ | ⟨h10,hm⟩
        ·refine .ifT b0 (by kernel_rfl) h10 ?_
         replace hm:=bb_inv hm;obtain ⟨h11,hm⟩:=hm
         refine .reg (eC 3 (growD 1 8 n3 c3 1 1 q4 [zI z8] [] (hp 3 [(oC [zI z11,.int .u32 z12]),oC q4,(oC [zI z8])])) (growD_eq h11) (eE)) ?_
         replace hm:=bb_inv hm;obtain ⟨h12,hm⟩:=hm
         exact ⟨((n3 + 1),(d2 (n3 + 1)),z9,z10,z11,z12,(appL (dropL 0 q4) [zI z8])),hm,(.k [3] [] [.tmp 4 false,.tmp 6 false] [4,6,28,29] ⟨trF h12,trivial⟩)⟩
        ·refine .ifF b0 (by kernel_rfl) h10 ?_
         refine .skip ?_
         replace hm:=bb_inv hm;obtain ⟨h13,hm⟩:=hm
         exact ⟨(n3,c3,z9,z10,z11,z12,q4),hm,(.k [1] [] [.tmp 4 false,.tmp 6 false] [4,6,28,29] ⟨trF h13,trivial⟩)⟩
       ·replace hm := oo_inv hm; obtain ⟨v9, h14, hm⟩ := hm
        replace hm:=inv_vBool hm;obtain ⟨b1,rfl,hm⟩:=hm
        replace hm:=bb_cases hm;rcases hm with ⟨h15,hm⟩ | ⟨h15,hm⟩
        ·replace hm := oo_inv hm; obtain ⟨v10, h16, hm⟩ := hm
         replace hm:=inv_toI hm;obtain ⟨x6,rfl,hm⟩:=hm
         refine .reg (eC 2 ((oo (pu 91 [(.agg ⟨[zI z2,.int .u32 z3]⟩),(zI (Int.ofNat k1))]) none fun v=>some (v,(hp 3 [(oC [zI z2,.int .u32 z3]),oC q2,(oC [zI z2,(.int .u32 (aor .u32 z3 (shlI .u32 (1:Int) k1)))])])))) (call_eq h14) (eD (some ((zB (nt b1)),(hp 3 [(oC [zI z2,.int .u32 z3]),oC q2,(oC [zI z2,(.int .u32 (aor .u32 z3 (shlI .u32 (1:Int) k1)))])]))) (show _ = some ((zB true),_) from (by rw [h15])) (eC 2 ((oo (pu 76 [(.agg ⟨[zI z2,(.int .u32 (aor .u32 z3 (shlI .u32 (1:Int) k1)))]⟩)]) none fun v=>some (v,(hp 3 [(oC [zI z2,.int .u32 z3]),oC q2,(oC [zI z2,(.int .u32 (aor .u32 z3 (shlI .u32 (1:Int) k1)))])])))) (call_eq h16) (eE)))) ?_
         exact ⟨(n1,c1,(Int.ofNat k1),z0,(Int.ofNat k1),(ieq x6 (0:Int)),z2,z3,q2),hm,(.k [1] [] [.tmp 4 false,.tmp 6 false] [4,6,7,28,29,47] ⟨trF h6,trivial⟩)⟩
        ·refine .reg (eC 2 ((oo (pu 91 [(.agg ⟨[zI z2, .int .u32 z3]⟩), (zI (Int.ofNat k1))]) none fun v => some (v, (hp 3 [(oC [zI z2, .int .u32 z3]), oC q2, (oC [zI z2, (.int .u32 (aor .u32 z3 (shlI .u32 (1 : Int) k1)))])])))) (call_eq h14) (eD (some ((zB (nt b1)), (hp 3 [(oC [zI z2, .int .u32 z3]), oC q2, (oC [zI z2, (.int .u32 (aor .u32 z3 (shlI .u32 (1 : Int) k1)))])]))) (show _ = some ((zB false), _) from (by rw [h15])) (eE))) ?_
         exact ⟨(n1,c1,(Int.ofNat k1),z0,(Int.ofNat k1),false,z2,z3,q2),hm,(.k [1] [] [.tmp 4 false,.tmp 6 false] [4,6,7,28,29,47] ⟨trF h6,trivial⟩)⟩
     ·refine .ifF (ilt z1 z0) (by kernel_rfl) h7 ?_
      refine .exit ?_
      exact ⟨(n1,c1,q2),hm,(.k [1] [] [.tmp 6 false] [6] ⟨trF h6,trivial⟩)⟩
end
end Go.RgKM
