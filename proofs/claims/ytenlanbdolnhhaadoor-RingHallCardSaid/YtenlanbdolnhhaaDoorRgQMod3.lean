/- Made from wip. -/
import Derived.Test.YtenlanbdolnhhaaDoorRgQMod0x

set_option maxRecDepth 100000
set_option maxHeartbeats 20000000
set_option linter.unusedVariables false
namespace Go.RgQM
open Go.Sp Go.RgQ
noncomputable section

def m8_ (pu:Af) (n:Nat) (s0:Sl) (x0:Int):OV:=
 (oo (pu 29 [Sl.v 1 s0,.int .i64 x0]) none fun v0=>(oo (Bi .i64 v0) none fun x1=>(some (.bool (nt (AY x1 (0:Int)))))))
def m8 (pu:Af) (n:Nat) (args:LV):OV:=
 (ll args none fun a0 args=>(ll args none fun a1 args=>(ll args (oo (Bj 1 a0) none fun s0=>(oo (Bi .i64 a1) none fun x0=>(m8_ pu n s0 x0))) fun _ _=>none)))
theorem r8 {call:A8} (pu:Af) (n:Nat) (hcall:call=Bb tabs isP pu (inl pu)) {args:LV} {v:Value} (hm:m8 pu n args=some v) (_:∀ x∈args,closed2 x=true):args.length≤9∧BN tt call 1 eF (Fr.made 9 args) (Ao tabs) (Fin tt 1 [.tmp 4] v):=by
 subst hcall
 unfold m8 at hm
 replace hm:=Ad hm;obtain⟨a0,args_0,rfl,hm⟩:=hm
 replace hm:=Ad hm;obtain⟨a1,args_1,rfl,hm⟩:=hm
 replace hm:=AC hm;obtain⟨rfl,hm⟩:=hm
 replace hm:=Al hm;obtain⟨s0,rfl,hm⟩:=hm
 replace hm:=Ai hm;obtain⟨x0,rfl,hm⟩:=hm
 unfold m8_ at hm
 refine⟨by simp,?_⟩
 refine .same (F':=(fr 9 [(0,Sl.v 1 s0),(1,zI x0)])) (H':=AO) (by kernel_rfl) (by kernel_rfl) ?_
 refine .then (.rK (.ghs (fr 9 [(0,Sl.v 1 s0),(1,zI x0)]) AO (.k0 [false] [] [0,1]) ?_))
 refine .then ?_
 replace hm:=K8 hm;obtain⟨x1,h0,hm⟩:=hm
 refine .reg (eC 2 ((oo (pu 29 [Sl.v 1 s0,zI x0]) none fun v=>some (v,AO))) (AB h0) (eE)) ?_
 refine .ghs (fr 9 [(4,(zB (nt (AY x1 (0:Int)))))]) AO (.k0 [false] [] [4]) ?_
 refine .ret ?_
 exact A7 (zB (nt (AY x1 (0:Int)))) hm
def fD (pu:Af) (n:Nat) (z1:Int) (b0:Bool) (z2:Int) (s0:Sl) (z3 z4 z5:Int):OV:=
 (bb b0 (some (.tuple ⟨[(.agg ⟨[(.int .i64 (0:Int)),(Sl.v 1 (Sl.mk 0 2 []))]⟩),(.int .i64 (1:Int))]⟩)) (oo (pu 25 [.int .i64 z1,.int .i64 z2]) none fun v0=>(oo (Bf v0) none fun b1=>(bb (nt b1) (some (.tuple ⟨[(.agg ⟨[(.int .i64 (0:Int)),(Sl.v 1 (Sl.mk 0 2 []))]⟩),(.int .i64 (13:Int))]⟩)) (oo (pu 26 [(.agg ⟨[.int .i64 z4,.int .u32 z5]⟩),.int .i64 z1]) none fun v1=>(oo (Bt v1) none fun l0=>(ll l0 none fun v2 l0=>(ll l0 none fun v3 l0=>(ll l0 (oo (Bi .i64 v2) none fun x0=>(oo (Bi .u32 v3) none fun x1=>(oo (pu 23 [(.agg ⟨[.int .i64 x0,.int .u32 x1]⟩)]) none fun v4=>(oo (Bt v4) none fun l1=>(ll l1 none fun v5 l1=>(ll l1 none fun v6 l1=>(ll l1 (oo (Bi .i64 v5) none fun x2=>(oo (Bj 1 v6) none fun s1=>(some (.tuple ⟨[(.agg ⟨[.int .i64 x2,Sl.v 1 s1]⟩),(.int .i64 (0:Int))]⟩)))) fun _ _=>none))))))) fun _ _=>none)))))))))
def m9_ (pu:Af) (n:Nat) (x0:Int) (s0:Sl) (x1:Int):OV:=
 (oo (pu 24 [(.agg ⟨[.int .i64 x0,Sl.v 1 s0]⟩)]) none fun v0=>(oo (CQ v0) none fun l0=>(ll l0 none fun v1 l0=>(ll l0 none fun v2 l0=>(ll l0 (oo (Bt v1) none fun l1=>(ll l1 none fun v3 l1=>(ll l1 none fun v4 l1=>(ll l1 (oo (Bi .i64 v3) none fun x2=>(oo (Bi .u32 v4) none fun x3=>(oo (Bi .i64 v2) none fun x4=>(bb (nt (Bd x4 (0:Int))) (some (.tuple ⟨[(.agg ⟨[(.int .i64 (0:Int)),(Sl.v 1 (Sl.mk 0 2 []))]⟩),.int .i64 x4]⟩)) (bb (AY x1 (1:Int)) (fD pu n x1 true x0 s0 (0:Int) x2 x3) (fD pu n x1 (AY x0 x1) x0 s0 (0:Int) x2 x3)))))) fun _ _=>none)))) fun _ _=>none)))))
def m9 (pu:Af) (n:Nat) (args:LV):OV:=
 (ll args none fun a0 args=>(ll args none fun a1 args=>(ll args (oo (Bt a0) none fun l0=>(ll l0 none fun v0 l0=>(ll l0 none fun v1 l0=>(ll l0 (oo (Bi .i64 v0) none fun x0=>(oo (Bj 1 v1) none fun s0=>(oo (Bi .i64 a1) none fun x1=>(m9_ pu n x0 s0 x1)))) fun _ _=>none)))) fun _ _=>none)))
theorem r9 {call:A8} (pu:Af) (n:Nat) (hcall:call=Bb tabs isP pu (inl pu)) {args:LV} {v:Value} (hm:m9 pu n args=some v) (_:∀ x∈args,closed2 x=true):args.length≤39∧BN tt call 1 Wn (Fr.made 39 args) (Ao tabs) (Fin tt 1 [.cell 4 28,.tmp 5] v):=by
 subst hcall
 unfold m9 at hm
 replace hm:=Ad hm;obtain⟨a0,args_0,rfl,hm⟩:=hm
 replace hm:=Ad hm;obtain⟨a1,args_1,rfl,hm⟩:=hm
 replace hm:=AC hm;obtain⟨rfl,hm⟩:=hm
 replace hm:=BG hm;obtain⟨l0,rfl,hm⟩:=hm
 replace hm:=Ad hm;obtain⟨v0,l6701_0,rfl,hm⟩:=hm
 replace hm:=Ad hm;obtain⟨v1,l6701_1,rfl,hm⟩:=hm
 replace hm:=AC hm;obtain⟨rfl,hm⟩:=hm
 replace hm:=Ai hm;obtain⟨x0,rfl,hm⟩:=hm
 replace hm:=Al hm;obtain⟨s0,rfl,hm⟩:=hm
 replace hm:=Ai hm;obtain⟨x1,rfl,hm⟩:=hm
 unfold m9_ at hm
 refine⟨by simp,?_⟩
 refine .same (F':=(fr 39 [(0,(.agg ⟨[zI x0,Sl.v 1 s0]⟩)),(1,zI x1)])) (H':=AO) (by kernel_rfl) (by kernel_rfl) ?_
 refine .then (.rK (.ghs (fr 39 [(1,zI x1),(2,pt 1 0),(4,(pt 2 0))]) (hT 3 [(oC [zI x0,Sl.v 1 s0]),(oC [(zI (0:Int)),(.slice none 0 0)])]) (.k0 [false] [.tmp 2 false,.tmp 4 false] [1,2,4]) ?_))
 refine .then ?_
 replace hm:=Ab hm;obtain⟨v2,h0,hm⟩:=hm
 replace hm:=Ch hm;obtain⟨l1,rfl,hm⟩:=hm
 replace hm:=Ad hm;obtain⟨v3,l6729_0,rfl,hm⟩:=hm
 replace hm:=Ad hm;obtain⟨v4,l6729_1,rfl,hm⟩:=hm
 replace hm:=AC hm;obtain⟨rfl,hm⟩:=hm
 replace hm:=BG hm;obtain⟨l2,rfl,hm⟩:=hm
 replace hm:=Ad hm;obtain⟨v5,l6733_0,rfl,hm⟩:=hm
 replace hm:=Ad hm;obtain⟨v6,l6733_1,rfl,hm⟩:=hm
 replace hm:=AC hm;obtain⟨rfl,hm⟩:=hm
 replace hm:=Ai hm;obtain⟨x2,rfl,hm⟩:=hm
 replace hm:=Ai hm;obtain⟨x3,rfl,hm⟩:=hm
 replace hm:=Ai hm;obtain⟨x4,rfl,hm⟩:=hm
 refine .reg (eC 1 ((oo (pu 24 [(.agg ⟨[zI x0,Sl.v 1 s0]⟩)]) none fun v=>some (v,(hT 3 [(oC [zI x0,Sl.v 1 s0]),(oC [(zI (0:Int)),(.slice none 0 0)])])))) (AB h0) (eE)) ?_
 refine .ghs (fr 39 [(1,zI x1),(2,pt 1 0),(4,(pt 2 0)),(6,(pt 3 0)),(7,zI x4)]) (hT 4 [(oC [zI x0,Sl.v 1 s0]),(oC [(zI (0:Int)),(.slice none 0 0)]),(oC [zI x2,.int .u32 x3])]) (.k0 [false] [.tmp 2 false,.tmp 4 false,.tmp 6 false] [1,2,4,6,7]) ?_
 refine .then (.block (.then (.rK (.ghs (fr 39 [(1,zI x1),(2,pt 1 0),(4,(pt 2 0)),(6,(pt 3 0)),(7,zI x4),(13,(zB (nt (Bd x4 (0:Int)))))]) (hT 4 [(oC [zI x0,Sl.v 1 s0]),(oC [(zI (0:Int)),(.slice none 0 0)]),(oC [zI x2,.int .u32 x3])]) (.k0 [false] [.tmp 2 false,.tmp 4 false,.tmp 6 false] [1,2,4,6,7,13]) ?_))))
 replace hm:=Ag hm;rcases hm with⟨h1,hm⟩ | ⟨h1,hm⟩
 ·refine DT (nt (Bd x4 (0:Int))) h1 ?_
  refine .then (.rK (.ghs (fr 39 [(4,pt 1 0),(5,zI x4)]) (hT 2 [(oC [(zI (0:Int)),(.slice none 0 0)])]) (.k0 [false] [.tmp 4 false] [4,5]) ?_))
  refine .ret ?_
  exact Uc (.tuple ⟨[(.agg ⟨[(zI (0:Int)),(.slice none 0 0)]⟩),zI x4]⟩) (.tuple ⟨[(.agg ⟨[(zI (0:Int)),(Sl.v 1 (Sl.mk 0 2 []))]⟩),zI x4]⟩) (by kernel_rfl) (FU.tup (.cons (FU.agg (.cons (FU.refl _ _ _) (.cons (.weak (PG.nil 1 2)) (Mr.nil _)))) (.cons (FU.refl _ _ _) (Mr.nil _)))) (by kernel_rfl) hm
 ·refine Eb (nt (Bd x4 (0:Int))) h1 ?_
  refine .join (v:=v) (fun y:Int×Bool×Int×Sl×Int×Int×Int=>((fr 39 [(1,(zI y.1)),(2,pt 1 0),(4,(pt 2 0)),(6,(pt 3 0)),(18,(zB y.2.1))]),(hT 4 [(oC [(zI y.2.2.1),(Sl.v 1 y.2.2.2.1)]),(oC [(zI y.2.2.2.2.1),(.slice none 0 0)]),(oC [(zI y.2.2.2.2.2.1),(.int .u32 y.2.2.2.2.2.2)])]))) (fun y=>fD pu n y.1 y.2.1 y.2.2.1 y.2.2.2.1 y.2.2.2.2.1 y.2.2.2.2.2.1 y.2.2.2.2.2.2) ?_ ?_
  ·rintro⟨z1,b0,z2,s1,z3,z4,z5⟩ hm
   unfold fD at hm
   replace hm:=Ag hm;rcases hm with⟨h2,hm⟩ | ⟨h2,hm⟩
   ·refine .ifT b0 (by kernel_rfl) h2 ?_
    refine .then (.rK (.ghs (fr 39 [(4,pt 1 0),(5,(zI (1:Int)))]) (hT 2 [(oC [(zI (0:Int)),(.slice none 0 0)])]) (.k0 [false] [.tmp 4 false] [4,5]) ?_))
    refine .ret ?_
    exact Uc (.tuple ⟨[(.agg ⟨[(zI (0:Int)),(.slice none 0 0)]⟩),(zI (1:Int))]⟩) (.tuple ⟨[(.agg ⟨[(zI (0:Int)),(Sl.v 1 (Sl.mk 0 2 []))]⟩),(zI (1:Int))]⟩) (by kernel_rfl) (FU.tup (.cons (FU.agg (.cons (FU.refl _ _ _) (.cons (.weak (PG.nil 1 2)) (Mr.nil _)))) (.cons (FU.refl _ _ _) (Mr.nil _)))) (by kernel_rfl) hm
   ·refine .ifF b0 (by kernel_rfl) h2 ?_
    refine .then ?_
    replace hm:=Yd hm;obtain⟨b1,h3,hm⟩:=hm
    refine .reg (eC 3 ((oo (pu 25 [zI z1,zI z2]) none fun v=>some (v,(hT 4 [(oC [zI z2,Sl.v 1 s1]),(oC [zI z3,(.slice none 0 0)]),(oC [zI z4,.int .u32 z5])])))) (AB h3) (eE)) ?_
    refine .ghs (fr 39 [(1,zI z1),(4,pt 1 0),(6,(pt 2 0)),(28,(zB (nt b1)))]) (hT 3 [(oC [zI z3,(.slice none 0 0)]),(oC [zI z4,.int .u32 z5])]) (.k0 [false] [.tmp 4 false,.tmp 6 false] [1,4,6,28]) ?_
    replace hm:=Ag hm;rcases hm with⟨h4,hm⟩ | ⟨h4,hm⟩
    ·refine DT (nt b1) h4 ?_
     refine .then (.rK (.ghs (fr 39 [(4,pt 1 0),(5,(zI (13:Int)))]) (hT 2 [(oC [(zI (0:Int)),(.slice none 0 0)])]) (.k0 [false] [.tmp 4 false] [4,5]) ?_))
     refine .ret ?_
     exact Uc (.tuple ⟨[(.agg ⟨[(zI (0:Int)),(.slice none 0 0)]⟩),(zI (13:Int))]⟩) (.tuple ⟨[(.agg ⟨[(zI (0:Int)),(Sl.v 1 (Sl.mk 0 2 []))]⟩),(zI (13:Int))]⟩) (by kernel_rfl) (FU.tup (.cons (FU.agg (.cons (FU.refl _ _ _) (.cons (.weak (PG.nil 1 2)) (Mr.nil _)))) (.cons (FU.refl _ _ _) (Mr.nil _)))) (by kernel_rfl) hm
    ·refine Eb (nt b1) h4 ?_
     refine .skip (.ghs (fr 39 [(1,zI z1),(4,pt 1 0),(6,(pt 2 0))]) (hT 3 [(oC [zI z3,(.slice none 0 0)]),(oC [zI z4,.int .u32 z5])]) (.k0 [false] [.tmp 4 false,.tmp 6 false] [1,4,6]) ?_)
     refine .then ?_
     replace hm:=Ab hm;obtain⟨v7,h5,hm⟩:=hm
     replace hm:=BG hm;obtain⟨l3,rfl,hm⟩:=hm
     replace hm:=Ad hm;obtain⟨v8,l6787_0,rfl,hm⟩:=hm
     replace hm:=Ad hm;obtain⟨v9,l6787_1,rfl,hm⟩:=hm
     replace hm:=AC hm;obtain⟨rfl,hm⟩:=hm
     replace hm:=Ai hm;obtain⟨x5,rfl,hm⟩:=hm
     replace hm:=Ai hm;obtain⟨x6,rfl,hm⟩:=hm
     replace hm:=Ab hm;obtain⟨v10,h6,hm⟩:=hm
     replace hm:=BG hm;obtain⟨l4,rfl,hm⟩:=hm
     replace hm:=Ad hm;obtain⟨v11,l6797_0,rfl,hm⟩:=hm
     replace hm:=Ad hm;obtain⟨v12,l6797_1,rfl,hm⟩:=hm
     replace hm:=AC hm;obtain⟨rfl,hm⟩:=hm
     replace hm:=Ai hm;obtain⟨x7,rfl,hm⟩:=hm
     replace hm:=Al hm;obtain⟨s2,rfl,hm⟩:=hm
     refine .reg (eC 2 ((oo (pu 26 [(.agg ⟨[zI z4,.int .u32 z5]⟩),zI z1]) none fun v=>some (v,(hT 3 [(oC [zI z3,(.slice none 0 0)]),(oC [zI z4,.int .u32 z5])])))) (AB h5) (eD ((oo (pu 23 [(.agg ⟨[zI x5,.int .u32 x6]⟩)]) none fun v=>some (v,(hT 3 [(oC [zI z3,(.slice none 0 0)]),(oC [zI z4,.int .u32 z5])])))) (AB h6) (eE))) ?_
     refine .ghs (fr 39 [(4,pt 1 0),(5,(zI (0:Int)))]) (hT 2 [(oC [zI x7,Sl.v 1 s2])]) (.k0 [false] [.tmp 4 false] [4,5]) ?_
     refine .ret ?_
     exact A7 (.tuple ⟨[(.agg ⟨[zI x7,Sl.v 1 s2]⟩),(zI (0:Int))]⟩) hm
  ·replace hm:=Ag hm;rcases hm with⟨h7,hm⟩ | ⟨h7,hm⟩
   ·refine .reg (eC 1 (some ((zB (AY x1 (1:Int))),(hT 4 [(oC [zI x0,Sl.v 1 s0]),(oC [(zI (0:Int)),(.slice none 0 0)]),(oC [zI x2,.int .u32 x3])]))) (show _=some ((zB true),_) from (by rw[show (AY x1 (1:Int))=true from h7])) (eE)) ?_
    exact⟨(x1,true,x0,s0,(0:Int),x2,x3),hm,(.k0 [false] [.tmp 2 false,.tmp 4 false,.tmp 6 false] [1,2,4,6,18])⟩
   ·refine .reg (eC 1 (some ((zB (AY x1 (1:Int))),(hT 4 [(oC [zI x0,Sl.v 1 s0]),(oC [(zI (0:Int)),(.slice none 0 0)]),(oC [zI x2,.int .u32 x3])]))) (show _=some ((zB false),_) from (by rw[show (AY x1 (1:Int))=false from h7])) (eE)) ?_
    exact⟨(x1,(AY x0 x1),x0,s0,(0:Int),x2,x3),hm,(.k0 [false] [.tmp 2 false,.tmp 4 false,.tmp 6 false] [1,2,4,6,18])⟩

def AcK (pu:Af) (n:Nat) (x0:Int) (s0:Sl):OV:=
 (oo (pu 24 [(.agg ⟨[.int .i64 x0,Sl.v 1 s0]⟩)]) none fun v0=>(oo (CQ v0) none fun l0=>(ll l0 none fun v1 l0=>(ll l0 none fun v2 l0=>(ll l0 (oo (Bt v1) none fun l1=>(ll l1 none fun v3 l1=>(ll l1 none fun v4 l1=>(ll l1 (oo (Bi .i64 v3) none fun x1=>(oo (Bi .u32 v4) none fun x2=>(oo (Bi .i64 v2) none fun x3=>(bb (nt (Bd x3 (0:Int))) (some (.tuple ⟨[(.bool false),.int .i64 x3]⟩)) (oo (pu 30 [(.agg ⟨[.int .i64 x1,.int .u32 x2]⟩)]) none fun v5=>(oo (Bf v5) none fun b0=>(some (.tuple ⟨[(.bool b0),(.int .i64 (0:Int))]⟩)))))))) fun _ _=>none)))) fun _ _=>none)))))
def kW (pu:Af) (n:Nat) (args:LV):OV:=
 (ll args none fun a0 args=>(ll args (oo (Bt a0) none fun l0=>(ll l0 none fun v0 l0=>(ll l0 none fun v1 l0=>(ll l0 (oo (Bi .i64 v0) none fun x0=>(oo (Bj 1 v1) none fun s0=>(AcK pu n x0 s0))) fun _ _=>none)))) fun _ _=>none))
theorem r10 {call:A8} (pu:Af) (n:Nat) (hcall:call=Bb tabs isP pu (inl pu)) {args:LV} {v:Value} (hm:kW pu n args=some v) (_:∀ x∈args,closed2 x=true):args.length≤16∧BN tt call 1 RY (Fr.made 16 args) (Ao tabs) (Fin tt 1 [.tmp 2,.tmp 3] v):=by
 subst hcall
 unfold kW at hm
 replace hm:=Ad hm;obtain⟨a0,args_0,rfl,hm⟩:=hm
 replace hm:=AC hm;obtain⟨rfl,hm⟩:=hm
 replace hm:=BG hm;obtain⟨l0,rfl,hm⟩:=hm
 replace hm:=Ad hm;obtain⟨v0,l6807_0,rfl,hm⟩:=hm
 replace hm:=Ad hm;obtain⟨v1,l6807_1,rfl,hm⟩:=hm
 replace hm:=AC hm;obtain⟨rfl,hm⟩:=hm
 replace hm:=Ai hm;obtain⟨x0,rfl,hm⟩:=hm
 replace hm:=Al hm;obtain⟨s0,rfl,hm⟩:=hm
 unfold AcK at hm
 refine⟨by simp,?_⟩
 refine .same (F':=(fr 16 [(0,(.agg ⟨[zI x0,Sl.v 1 s0]⟩))])) (H':=AO) (by kernel_rfl) (by kernel_rfl) ?_
 refine .then (.rK (.ghs (fr 16 [(1,pt 1 0)]) (hT 2 [(oC [zI x0,Sl.v 1 s0])]) (.k0 [false] [.tmp 1 false] [1]) ?_))
 refine .then ?_
 replace hm:=Ab hm;obtain⟨v2,h0,hm⟩:=hm
 replace hm:=Ch hm;obtain⟨l1,rfl,hm⟩:=hm
 replace hm:=Ad hm;obtain⟨v3,l6833_0,rfl,hm⟩:=hm
 replace hm:=Ad hm;obtain⟨v4,l6833_1,rfl,hm⟩:=hm
 replace hm:=AC hm;obtain⟨rfl,hm⟩:=hm
 replace hm:=BG hm;obtain⟨l2,rfl,hm⟩:=hm
 replace hm:=Ad hm;obtain⟨v5,l6837_0,rfl,hm⟩:=hm
 replace hm:=Ad hm;obtain⟨v6,l6837_1,rfl,hm⟩:=hm
 replace hm:=AC hm;obtain⟨rfl,hm⟩:=hm
 replace hm:=Ai hm;obtain⟨x1,rfl,hm⟩:=hm
 replace hm:=Ai hm;obtain⟨x2,rfl,hm⟩:=hm
 replace hm:=Ai hm;obtain⟨x3,rfl,hm⟩:=hm
 refine .reg (eC 1 ((oo (pu 24 [(.agg ⟨[zI x0,Sl.v 1 s0]⟩)]) none fun v=>some (v,(hT 2 [(oC [zI x0,Sl.v 1 s0])])))) (AB h0) (eE)) ?_
 refine .ghs (fr 16 [(4,pt 1 0),(5,zI x3)]) (hT 2 [(oC [zI x1,.int .u32 x2])]) (.k0 [false] [.tmp 4 false] [4,5]) ?_
 refine .then (.then (.rK (.ghs (fr 16 [(4,pt 1 0),(5,zI x3),(12,(zB (nt (Bd x3 (0:Int)))))]) (hT 2 [(oC [zI x1,.int .u32 x2])]) (.k0 [false] [.tmp 4 false] [4,5,12]) ?_)))
 replace hm:=Ag hm;rcases hm with⟨h1,hm⟩ | ⟨h1,hm⟩
 ·refine DT (nt (Bd x3 (0:Int))) h1 ?_
  refine .then (.rK (.ghs (fr 16 [(2,zB false),(3,zI x3)]) AO (.k0 [false] [] [2,3]) ?_))
  refine .ret ?_
  exact A7 (.tuple ⟨[zB false,zI x3]⟩) hm
 ·refine Eb (nt (Bd x3 (0:Int))) h1 ?_
  refine .skip (.ghs (fr 16 [(4,pt 1 0)]) (hT 2 [(oC [zI x1,.int .u32 x2])]) (.k0 [false] [.tmp 4 false] [4]) ?_)
  refine .then ?_
  replace hm:=Yd hm;obtain⟨b0,h2,hm⟩:=hm
  refine .reg (eC 1 ((oo (pu 30 [(.agg ⟨[zI x1,.int .u32 x2]⟩)]) none fun v=>some (v,(hT 2 [(oC [zI x1,.int .u32 x2])])))) (AB h2) (eE)) ?_
  refine .ghs (fr 16 [(2,zB b0),(3,(zI (0:Int)))]) AO (.k0 [false] [] [2,3]) ?_
  refine .ret ?_
  exact A7 (.tuple ⟨[zB b0,(zI (0:Int))]⟩) hm
def Wy (pu:Af) (n n0 c0:Nat) (q0:LV):OV:=
 (bb (Au Ah q0) (bb (an (Nat.ble (0+n0*1) (len q0)) (Au Ah (Aq (n0*1) (Am 0 q0)))) (some (.tuple ⟨[(Sl.v 1 (Sl.mk n0 0 (Aq (n0*1) (Am 0 q0)))),(.int .i64 (0:Int))]⟩)) none) none)
def Wz (pu:Af) (n:Nat) (ih0:Nat→Nat→Int→Int→Int→Int→LV→OV) (n0 c0:Nat) (z1 z2 z3 z4:Int) (q0:LV):OV:=
 (bb (Au Ah q0) (ih0 n0 c0 z1 (Aj .i64 (Int.add z2 (1:Int))) z3 z4 q0) none)
def WA (pu:Af) (n:Nat) (ih0:Nat→Nat→Int→Int→Int→Int→LV→OV) (n0 c0:Nat) (z1 z2 z3:Int) (b0:Bool) (z4 z5:Int) (q0:LV):OV:=
 (bb b0 (bb (GV 1 8 n0 c0 1 q0) (bb (Au Ah (Br (Am 0 q0) [.int .i64 z1])) (Wz pu n ih0 (n0+1) (2*(n0+1)+bb false 1 0) z2 z3 z4 z5 (Br (Am 0 q0) [.int .i64 z1])) none) none) (bb (Au Ah q0) (Wz pu n ih0 n0 c0 z2 z3 z4 z5 q0) none))
def Zv (pu:Af) (n:Nat) (ih0:Nat→Nat→Int→Int→Int→Int→LV→OV) (n0 c0:Nat) (z1 z2 z3 z4:Int) (q0:LV):OV:=
 (bb (Au Ah q0) (bb (AY z2 z1) (oo (EA z2) none fun k1=>(oo (pu 32 [(.agg ⟨[.int .i64 z3,.int .u32 z4]⟩),(.int .i64 (Int.ofNat k1))]) none fun v0=>(oo (Bf v0) none fun b0=>(bb (nt b0) (oo (pu 31 [(.agg ⟨[.int .i64 z3,(.int .u32 (jF .u32 z4 (QW .u32 (1:Int) k1)))]⟩)]) none fun v1=>(oo (Bi .i64 v1) none fun x0=>(WA pu n ih0 n0 c0 (Int.ofNat k1) z1 (Int.ofNat k1) (Bd x0 (0:Int)) z3 z4 q0))) (WA pu n ih0 n0 c0 (Int.ofNat k1) z1 (Int.ofNat k1) false z3 z4 q0))))) (Wy pu n n0 c0 q0)) none)
def Ug (pu:Af) (n w:Nat):Nat→Nat→Int→Int→Int→Int→LV→OV:=
 Nat.rec (motive:=fun _=>Nat→Nat→Int→Int→Int→Int→LV→OV) (fun _ _ _ _ _ _ _=>none) (fun _ ih0=>Zv pu n ih0) w
def AcL (pu:Af) (n:Nat) (x0:Int) (s0:Sl):OV:=
 (oo (pu 24 [(.agg ⟨[.int .i64 x0,Sl.v 1 s0]⟩)]) none fun v0=>(oo (CQ v0) none fun l0=>(ll l0 none fun v1 l0=>(ll l0 none fun v2 l0=>(ll l0 (oo (Bt v1) none fun l1=>(ll l1 none fun v3 l1=>(ll l1 none fun v4 l1=>(ll l1 (oo (Bi .i64 v3) none fun x1=>(oo (Bi .u32 v4) none fun x2=>(oo (Bi .i64 v2) none fun x3=>(bb (nt (Bd x3 (0:Int))) (some (.tuple ⟨[(Sl.v 1 (Sl.mk 0 2 [])),.int .i64 x3]⟩)) (oo (pu 28 [.int .u32 x2]) none fun v5=>(oo (Bi .i64 v5) none fun x4=>(bb (Bd x4 (6:Int)) (some (.tuple ⟨[(Sl.v 1 (Sl.mk 0 2 [])),(.int .i64 (3:Int))]⟩)) (oo (pu 31 [(.agg ⟨[.int .i64 x1,.int .u32 x2]⟩)]) none fun v6=>(oo (Bi .i64 v6) none fun x5=>(bb (AY (0:Int) x5) (some (.tuple ⟨[(Sl.v 1 (Sl.mk 0 2 [])),(.int .i64 (14:Int))]⟩)) (Ug pu n n 0 0 x1 (0:Int) x1 x2 ([]:LV)))))))))))) fun _ _=>none)))) fun _ _=>none)))))
def fE (pu:Af) (n:Nat) (args:LV):OV:=
 (ll args none fun a0 args=>(ll args (oo (Bt a0) none fun l0=>(ll l0 none fun v0 l0=>(ll l0 none fun v1 l0=>(ll l0 (oo (Bi .i64 v0) none fun x0=>(oo (Bj 1 v1) none fun s0=>(AcL pu n x0 s0))) fun _ _=>none)))) fun _ _=>none))
theorem AcM (pu:Af) (n n0 c0:Nat) (q0:LV) {v:Value} (hm:Wy pu n n0 c0 q0=some v):BN tt (Bb tabs isP pu (inl pu)) 1 Yh (fr 54 [(6,sc 1 0 1 n0 c0)]) (hT 2 [oC q0]) (Fin tt 1 [.tmp 2,.tmp 3] v):=by
 unfold Wy at hm
 refine .then (.rK ?_)
 replace hm:=Ae hm;obtain⟨h0,hm⟩:=hm
 refine .ghs (fr 54 [(2,sc 1 0 1 n0 c0),(3,(zI (0:Int)))]) (hT 2 [oC q0]) (.k [1] [false] [.tmp 2 false] [2,3] ⟨Cs h0,trivial⟩) ?_
 replace hm:=Ae hm;obtain⟨h1,hm⟩:=hm
 refine .ghs (Fr.puts (fr 54 [(2,sc 1 0 1 n0 c0),(3,(zI (0:Int)))]) [(2,(Sl.v 1 (Sl.mk n0 0 (Aq (n0*1) (Am 0 q0)))))]) (hT 2 [.dead]) (.freezeC 1 2 1 (an (Nat.ble (0+n0*1) (len q0)) (Au Ah (Aq (n0*1) (Am 0 q0)))) (F1:=(Fr.puts (fr 54 [(2,sc 1 0 1 n0 c0),(3,(zI (0:Int)))]) [(2,(Sl.v 1 (Sl.mk n0 0 (Aq (n0*1) (Am 0 q0)))))])) (H1:=(hT 2 [.dead])) (by kernel_rfl) (by kernel_rfl) h1 (E9.id _ _)) ?_
 refine .ret ?_
 exact A7 (.tuple ⟨[(Sl.v 1 (Sl.mk n0 0 (Aq (n0*1) (Am 0 q0)))),(zI (0:Int))]⟩) hm
theorem r11 {call:A8} (pu:Af) (n:Nat) (hcall:call=Bb tabs isP pu (inl pu)) {args:LV} {v:Value} (hm:fE pu n args=some v) (_:∀ x∈args,closed2 x=true):args.length≤54∧BN tt call 1 RZ (Fr.made 54 args) (Ao tabs) (Fin tt 1 [.tmp 2,.tmp 3] v):=by
 subst hcall
 unfold fE at hm
 replace hm:=Ad hm;obtain⟨a0,args_0,rfl,hm⟩:=hm
 replace hm:=AC hm;obtain⟨rfl,hm⟩:=hm
 replace hm:=BG hm;obtain⟨l0,rfl,hm⟩:=hm
 replace hm:=Ad hm;obtain⟨v0,l6856_0,rfl,hm⟩:=hm
 replace hm:=Ad hm;obtain⟨v1,l6856_1,rfl,hm⟩:=hm
 replace hm:=AC hm;obtain⟨rfl,hm⟩:=hm
 replace hm:=Ai hm;obtain⟨x0,rfl,hm⟩:=hm
 replace hm:=Al hm;obtain⟨s0,rfl,hm⟩:=hm
 unfold AcL at hm
 refine⟨by simp,?_⟩
 refine .same (F':=(fr 54 [(0,(.agg ⟨[zI x0,Sl.v 1 s0]⟩))])) (H':=AO) (by kernel_rfl) (by kernel_rfl) ?_
 refine .then (.rK (.ghs (fr 54 [(1,pt 1 0)]) (hT 2 [(oC [zI x0,Sl.v 1 s0])]) (.k0 [false] [.tmp 1 false] [1]) ?_))
 refine .then ?_
 replace hm:=Ab hm;obtain⟨v2,h0,hm⟩:=hm
 replace hm:=Ch hm;obtain⟨l1,rfl,hm⟩:=hm
 replace hm:=Ad hm;obtain⟨v3,l6882_0,rfl,hm⟩:=hm
 replace hm:=Ad hm;obtain⟨v4,l6882_1,rfl,hm⟩:=hm
 replace hm:=AC hm;obtain⟨rfl,hm⟩:=hm
 replace hm:=BG hm;obtain⟨l2,rfl,hm⟩:=hm
 replace hm:=Ad hm;obtain⟨v5,l6886_0,rfl,hm⟩:=hm
 replace hm:=Ad hm;obtain⟨v6,l6886_1,rfl,hm⟩:=hm
 replace hm:=AC hm;obtain⟨rfl,hm⟩:=hm
 replace hm:=Ai hm;obtain⟨x1,rfl,hm⟩:=hm
 replace hm:=Ai hm;obtain⟨x2,rfl,hm⟩:=hm
 replace hm:=Ai hm;obtain⟨x3,rfl,hm⟩:=hm
 refine .reg (eC 1 ((oo (pu 24 [(.agg ⟨[zI x0,Sl.v 1 s0]⟩)]) none fun v=>some (v,(hT 2 [(oC [zI x0,Sl.v 1 s0])])))) (AB h0) (eE)) ?_
 refine .ghs (fr 54 [(4,pt 1 0),(5,zI x3)]) (hT 2 [(oC [zI x1,.int .u32 x2])]) (.k0 [false] [.tmp 4 false] [4,5]) ?_
 refine .then (.block (.then (.rK (.ghs (fr 54 [(4,pt 1 0),(5,zI x3),(14,(zB (nt (Bd x3 (0:Int)))))]) (hT 2 [(oC [zI x1,.int .u32 x2])]) (.k0 [false] [.tmp 4 false] [4,5,14]) ?_))))
 replace hm:=Ag hm;rcases hm with⟨h1,hm⟩ | ⟨h1,hm⟩
 ·refine DT (nt (Bd x3 (0:Int))) h1 ?_
  refine .then (.rK (.ghs (fr 54 [(2,(.slice none 0 0)),(3,zI x3)]) AO (.k0 [false] [] [2,3]) ?_))
  refine .ghs (Fr.puts (fr 54 [(2,(.slice none 0 0)),(3,zI x3)]) [(2,(Sl.v 1 (Sl.mk 0 2 [])))]) AO (.freeze 1 2 1 (by kernel_rfl) (by kernel_rfl) (E9.id _ _)) ?_
  refine .ret ?_
  exact A7 (.tuple ⟨[(Sl.v 1 (Sl.mk 0 2 [])),zI x3]⟩) hm
 ·refine Eb (nt (Bd x3 (0:Int))) h1 ?_
  refine .then ?_
  replace hm:=K8 hm;obtain⟨x4,h2,hm⟩:=hm
  refine .reg (eC 2 ((oo (pu 28 [.int .u32 x2]) none fun v=>some (v,(hT 2 [(oC [zI x1,.int .u32 x2])])))) (AB h2) (eE)) ?_
  refine .ghs (fr 54 [(4,pt 1 0),(18,(zB (Bd x4 (6:Int))))]) (hT 2 [(oC [zI x1,.int .u32 x2])]) (.k0 [false] [.tmp 4 false] [4,18]) ?_
  replace hm:=Ag hm;rcases hm with⟨h3,hm⟩ | ⟨h3,hm⟩
  ·refine DT (Bd x4 (6:Int)) h3 ?_
   refine .then (.rK (.ghs (fr 54 [(2,(.slice none 0 0)),(3,(zI (3:Int)))]) AO (.k0 [false] [] [2,3]) ?_))
   refine .ghs (Fr.puts (fr 54 [(2,(.slice none 0 0)),(3,(zI (3:Int)))]) [(2,(Sl.v 1 (Sl.mk 0 2 [])))]) AO (.freeze 1 2 1 (by kernel_rfl) (by kernel_rfl) (E9.id _ _)) ?_
   refine .ret ?_
   exact A7 (.tuple ⟨[(Sl.v 1 (Sl.mk 0 2 [])),(zI (3:Int))]⟩) hm
  ·refine Eb (Bd x4 (6:Int)) h3 ?_
   refine .then ?_
   replace hm:=K8 hm;obtain⟨x5,h4,hm⟩:=hm
   refine .reg (eC 1 ((oo (pu 31 [(.agg ⟨[zI x1,.int .u32 x2]⟩)]) none fun v=>some (v,(hT 2 [(oC [zI x1,.int .u32 x2])])))) (AB h4) (eE)) ?_
   refine .ghs (fr 54 [(4,pt 1 0),(23,(zB (AY (0:Int) x5)))]) (hT 2 [(oC [zI x1,.int .u32 x2])]) (.k0 [false] [.tmp 4 false] [4,23]) ?_
   replace hm:=Ag hm;rcases hm with⟨h5,hm⟩ | ⟨h5,hm⟩
   ·refine DT (AY (0:Int) x5) h5 ?_
    refine .then (.rK (.ghs (fr 54 [(2,(.slice none 0 0)),(3,(zI (14:Int)))]) AO (.k0 [false] [] [2,3]) ?_))
    refine .ghs (Fr.puts (fr 54 [(2,(.slice none 0 0)),(3,(zI (14:Int)))]) [(2,(Sl.v 1 (Sl.mk 0 2 [])))]) AO (.freeze 1 2 1 (by kernel_rfl) (by kernel_rfl) (E9.id _ _)) ?_
    refine .ret ?_
    exact A7 (.tuple ⟨[(Sl.v 1 (Sl.mk 0 2 [])),(zI (14:Int))]⟩) hm
   ·refine Eb (AY (0:Int) x5) h5 ?_
    refine .skip (.ghs (fr 54 [(4,pt 1 0)]) (hT 2 [(oC [zI x1,.int .u32 x2])]) (.k0 [false] [.tmp 4 false] [4]) ?_)
    refine .then (.rK (.ghs (fr 54 [(4,pt 1 0),(6,(.slice none 0 0))]) (hT 2 [(oC [zI x1,.int .u32 x2])]) (.k0 [false] [.tmp 4 false] [4,6]) ?_))
    refine .join (v:=v) (fun y:Nat×Nat×LV=>((fr 54 [(6,(sc 1 0 1 y.1 y.2.1))]),(hT 2 [(oC y.2.2)]))) (fun y=>Wy pu n y.1 y.2.1 y.2.2) ?_ ?_
    ·rintro⟨n0,c0,q0⟩ hm
     exact AcM pu n n0 c0 q0 hm
    ·refine .then (.rK (.ghs (fr 54 [(4,pt 1 0),(6,(.slice none 0 0)),(28,zI x1),(29,(zI (0:Int)))]) (hT 2 [(oC [zI x1,.int .u32 x2])]) (.k0 [false] [.tmp 4 false] [4,6,28,29]) ?_))
     refine .block (.loopM (v:=v) (fun y:Nat×Nat×Int×Int×Int×Int×LV=>((fr 54 [(4,pt 1 0),(6,(sc 2 0 1 y.1 y.2.1)),(28,(zI y.2.2.1)),(29,(zI y.2.2.2.1))]),(hT 3 [(oC [(zI y.2.2.2.2.1),(.int .u32 y.2.2.2.2.2.1)]),(oC y.2.2.2.2.2.2)]))) (fun w y=>Ug pu n w y.1 y.2.1 y.2.2.1 y.2.2.2.1 y.2.2.2.2.1 y.2.2.2.2.2.1 y.2.2.2.2.2.2) n ⟨(0,0,x1,(0:Int),x1,x2,([]:LV)),hm,(.thaw 6 1 (by kernel_rfl) (.k0 [false] [.tmp 4 false,.tmp 6 false] [4,6,28,29]))⟩ (fun _=>rfl) ?_)
     rintro w0 ⟨n1,c1,z1,z2,z3,z4,q1⟩ hm
     replace hm:Zv pu n (Ug pu n w0) n1 c1 z1 z2 z3 z4 q1=some v:=hm
     unfold Zv at hm
     refine .then (.rK ?_)
     replace hm:=Ae hm;obtain⟨h6,hm⟩:=hm
     refine .ghs (fr 54 [(4,pt 1 0),(6,sc 2 0 1 n1 c1),(28,zI z1),(29,zI z2),(30,(zB (AY z2 z1)))]) (hT 3 [(oC [zI z3,.int .u32 z4]),oC q1]) (.k [2] [false] [.tmp 4 false,.tmp 6 false] [4,6,28,29,30] ⟨Cs h6,trivial⟩) ?_
     refine .then ?_
     replace hm:=Ag hm;rcases hm with⟨h7,hm⟩ | ⟨h7,hm⟩
     ·refine DT (AY z2 z1) h7 ?_
      refine .skip (.ghs (fr 54 [(4,pt 1 0),(6,sc 2 0 1 n1 c1),(28,zI z1),(29,zI z2)]) (hT 3 [(oC [zI z3,.int .u32 z4]),oC q1]) (.k [2] [false] [.tmp 4 false,.tmp 6 false] [4,6,28,29] ⟨Cs h6,trivial⟩) ?_)
      refine .join (v:=v) (fun y:Nat×Nat×Int×Int×Int×Int×LV=>((fr 54 [(4,pt 1 0),(6,(sc 2 0 1 y.1 y.2.1)),(28,(zI y.2.2.1)),(29,(zI y.2.2.2.1))]),(hT 3 [(oC [(zI y.2.2.2.2.1),(.int .u32 y.2.2.2.2.2.1)]),(oC y.2.2.2.2.2.2)]))) (fun y=>Wz pu n (Ug pu n w0) y.1 y.2.1 y.2.2.1 y.2.2.2.1 y.2.2.2.2.1 y.2.2.2.2.2.1 y.2.2.2.2.2.2) ?_ ?_
      ·rintro⟨n2,c2,z5,z6,z7,z8,q2⟩ hm
       unfold Wz at hm
       refine .rK ?_
       replace hm:=Ae hm;obtain⟨h8,hm⟩:=hm
       exact⟨(n2,c2,z5,(Aj .i64 (Int.add z6 (1:Int))),z7,z8,q2),hm,(.k [2] [false] [.tmp 4 false,.tmp 6 false] [4,6,28,29] ⟨Cs h8,trivial⟩)⟩
      ·refine .block (.then (.rK (.ghs (fr 54 [(4,pt 1 0),(6,sc 2 0 1 n1 c1),(7,zI z2),(28,zI z1),(29,zI z2)]) (hT 3 [(oC [zI z3,.int .u32 z4]),oC q1]) (.k [2] [false] [.tmp 4 false,.tmp 6 false] [4,6,7,28,29] ⟨Cs h6,trivial⟩) ?_)))
       refine .then (.rK (.ghs (fr 54 [(4,pt 1 0),(6,sc 2 0 1 n1 c1),(7,zI z2),(8,(pt 3 0)),(28,zI z1),(29,zI z2)]) (hT 4 [(oC [zI z3,.int .u32 z4]),oC q1,(oC [zI z3,.int .u32 z4])]) (.k [2] [false] [.tmp 4 false,.tmp 6 false,.tmp 8 false] [4,6,7,8,28,29] ⟨Cs h6,trivial⟩) ?_))
       refine .then ?_
       replace hm:=Ab hm;obtain⟨k1,h9,hm⟩:=hm
       obtain rfl:=AR h9
       refine .rK (.ghs (fr 54 [(4,pt 1 0),(6,sc 2 0 1 n1 c1),(7,(zI (Int.ofNat k1))),(8,(pt 3 0)),(28,zI z1),(29,(zI (Int.ofNat k1)))]) (hT 4 [(oC [zI z3,.int .u32 z4]),oC q1,(oC [zI z3,(.int .u32 (jF .u32 z4 (QW .u32 (1:Int) k1)))])]) (.k [2] [false] [.tmp 4 false,.tmp 6 false,.tmp 8 false] [4,6,7,8,28,29] ⟨Cs h6,trivial⟩) ?_)
       refine .join (v:=v) (fun y:Nat×Nat×Int×Int×Int×Bool×Int×Int×LV=>((fr 54 [(4,pt 1 0),(6,(sc 2 0 1 y.1 y.2.1)),(7,(zI y.2.2.1)),(28,(zI y.2.2.2.1)),(29,(zI y.2.2.2.2.1)),(47,(zB y.2.2.2.2.2.1))]),(hT 3 [(oC [(zI y.2.2.2.2.2.2.1),(.int .u32 y.2.2.2.2.2.2.2.1)]),(oC y.2.2.2.2.2.2.2.2)]))) (fun y=>WA pu n (Ug pu n w0) y.1 y.2.1 y.2.2.1 y.2.2.2.1 y.2.2.2.2.1 y.2.2.2.2.2.1 y.2.2.2.2.2.2.1 y.2.2.2.2.2.2.2.1 y.2.2.2.2.2.2.2.2) ?_ ?_
       ·rintro⟨n3,c57,z9,z10,z11,b0,z12,z13,q3⟩ hm
        unfold WA at hm
        replace hm:=Ag hm;rcases hm with⟨h10,hm⟩ | ⟨h10,hm⟩
        ·refine .ifT b0 (by kernel_rfl) h10 ?_
         replace hm:=Ae hm;obtain⟨h11,hm⟩:=hm
         refine .reg (eC 3 (Oc 1 8 n3 c57 1 2 q3 [zI z9] [] (hT 4 [(oC [zI z12,.int .u32 z13]),oC q3,(oC [zI z9])])) (I1 h11) (eE)) ?_
         replace hm:=Ae hm;obtain⟨h12,hm⟩:=hm
         exact⟨((n3+1),(d2 (n3+1)),z10,z11,z12,z13,(Br (Am 0 q3) [zI z9])),hm,(.k [4] [false] [.tmp 4 false,.tmp 6 false] [4,6,28,29] ⟨Cs h12,trivial⟩)⟩
        ·refine .ifF b0 (by kernel_rfl) h10 ?_
         refine .skip ?_
         replace hm:=Ae hm;obtain⟨h13,hm⟩:=hm
         exact⟨(n3,c57,z10,z11,z12,z13,q3),hm,(.k [2] [false] [.tmp 4 false,.tmp 6 false] [4,6,28,29] ⟨Cs h13,trivial⟩)⟩
       ·replace hm:=Yd hm;obtain⟨b1,h14,hm⟩:=hm
        replace hm:=Ag hm;rcases hm with⟨h15,hm⟩ | ⟨h15,hm⟩
        ·replace hm:=K8 hm;obtain⟨x6,h16,hm⟩:=hm
         refine .reg (eC 2 ((oo (pu 32 [(.agg ⟨[zI z3,.int .u32 z4]⟩),(zI (Int.ofNat k1))]) none fun v=>some (v,(hT 4 [(oC [zI z3,.int .u32 z4]),oC q1,(oC [zI z3,(.int .u32 (jF .u32 z4 (QW .u32 (1:Int) k1)))])])))) (AB h14) (eD (some ((zB (nt b1)),(hT 4 [(oC [zI z3,.int .u32 z4]),oC q1,(oC [zI z3,(.int .u32 (jF .u32 z4 (QW .u32 (1:Int) k1)))])]))) (show _=some ((zB true),_) from (by rw[show (nt b1)=true from h15])) (eC 2 ((oo (pu 31 [(.agg ⟨[zI z3,(.int .u32 (jF .u32 z4 (QW .u32 (1:Int) k1)))]⟩)]) none fun v=>some (v,(hT 4 [(oC [zI z3,.int .u32 z4]),oC q1,(oC [zI z3,(.int .u32 (jF .u32 z4 (QW .u32 (1:Int) k1)))])])))) (AB h16) (eE)))) ?_
         exact⟨(n1,c1,(Int.ofNat k1),z1,(Int.ofNat k1),(Bd x6 (0:Int)),z3,z4,q1),hm,(.k [2] [false] [.tmp 4 false,.tmp 6 false] [4,6,7,28,29,47] ⟨Cs h6,trivial⟩)⟩
        ·refine .reg (eC 2 ((oo (pu 32 [(.agg ⟨[zI z3,.int .u32 z4]⟩),(zI (Int.ofNat k1))]) none fun v=>some (v,(hT 4 [(oC [zI z3,.int .u32 z4]),oC q1,(oC [zI z3,(.int .u32 (jF .u32 z4 (QW .u32 (1:Int) k1)))])])))) (AB h14) (eD (some ((zB (nt b1)),(hT 4 [(oC [zI z3,.int .u32 z4]),oC q1,(oC [zI z3,(.int .u32 (jF .u32 z4 (QW .u32 (1:Int) k1)))])]))) (show _=some ((zB false),_) from (by rw[show (nt b1)=false from h15])) (eE))) ?_
         exact⟨(n1,c1,(Int.ofNat k1),z1,(Int.ofNat k1),false,z3,z4,q1),hm,(.k [2] [false] [.tmp 4 false,.tmp 6 false] [4,6,7,28,29,47] ⟨Cs h6,trivial⟩)⟩
     ·refine Eb (AY z2 z1) h7 ?_
      refine .exit ?_
      exact⟨(n1,c1,q1),hm,(.k [2] [false] [.tmp 6 false] [6] ⟨Cs h6,trivial⟩)⟩

def AcN (pu:Af) (n:Nat) (x0 x1:Int):OV:=
 (oo (pu 33 [.int .u32 x1]) none fun v0=>(oo (Bj 1 v0) none fun s0=>(some (.agg ⟨[.int .i64 x0,Sl.v 1 s0]⟩))))
def m12 (pu:Af) (n:Nat) (args:LV):OV:=
 (ll args none fun a0 args=>(ll args none fun a1 args=>(ll args (oo (Bi .i64 a0) none fun x0=>(oo (Bi .u32 a1) none fun x1=>(AcN pu n x0 x1))) fun _ _=>none)))
theorem r12 {call:A8} (pu:Af) (n:Nat) (hcall:call=Bb tabs isP pu (inl pu)) {args:LV} {v:Value} (hm:m12 pu n args=some v) (_:∀ x∈args,closed2 x=true):args.length≤9∧BN tt call 1 Wo (Fr.made 9 args) (Ao tabs) (Fin tt 1 [.cell 4 28] v):=by
 subst hcall
 unfold m12 at hm
 replace hm:=Ad hm;obtain⟨a0,args_0,rfl,hm⟩:=hm
 replace hm:=Ad hm;obtain⟨a1,args_1,rfl,hm⟩:=hm
 replace hm:=AC hm;obtain⟨rfl,hm⟩:=hm
 replace hm:=Ai hm;obtain⟨x0,rfl,hm⟩:=hm
 replace hm:=Ai hm;obtain⟨x1,rfl,hm⟩:=hm
 unfold AcN at hm
 refine⟨by simp,?_⟩
 refine .same (F':=(fr 9 [(0,zI x0),(1,.int .u32 x1)])) (H':=AO) (by kernel_rfl) (by kernel_rfl) ?_
 refine .then (.rK (.ghs (fr 9 [(0,zI x0),(1,.int .u32 x1),(4,pt 1 0)]) (hT 2 [(oC [(zI (0:Int)),(.slice none 0 0)])]) (.k0 [false] [.tmp 4 false] [0,1,4]) ?_))
 refine .then ?_
 replace hm:=Yy hm;obtain⟨s0,h0,hm⟩:=hm
 refine .reg (eC 2 ((oo (pu 33 [.int .u32 x1]) none fun v=>some (v,(hT 2 [(oC [(zI (0:Int)),(.slice none 0 0)])])))) (AB h0) (eE)) ?_
 refine .ghs (fr 9 [(4,pt 1 0)]) (hT 2 [(oC [zI x0,Sl.v 1 s0])]) (.k0 [false] [.tmp 4 false] [4]) ?_
 refine .ret ?_
 exact A7 (.agg ⟨[zI x0,Sl.v 1 s0]⟩) hm
def WB (pu:Af) (n:Nat) (z1:Int):OV:=
 (some (.int .u32 z1))
def O3 (pu:Af) (n:Nat) (ih0:Int→Int→Int→Int→Sl→Int→Int→OV) (z1 z2 z3 z4:Int) (s0:Sl) (z5 z6:Int):OV:=
 (bb (AY z6 z5) (oo (EA z6) none fun k1=>(bb (an (Nat.blt k1 (Sl.n s0)) true) (oo (AL (Sl.cs s0) (k1*1)) none fun v0=>(oo (Bi .i64 v0) none fun x0=>(bb (nt (Bd z1 (0:Int))) (bb (nt (Bd z1 (0:Int))) (oo (EA (Int.tmod (Aj .i64 (Int.add (Int.tmod (Aj .i64 (Int.add (Aj .i64 (Int.mul x0 z2)) z3)) z1) z1)) z1)) none fun k2=>(ih0 z1 z2 z3 (jF .u32 z4 (QW .u32 (1:Int) k2)) s0 z5 (Aj .i64 (Int.add (Int.ofNat k1) (1:Int))))) none) none))) none)) (WB pu n z4))
def Qw (pu:Af) (n w:Nat):Int→Int→Int→Int→Sl→Int→Int→OV:=
 Nat.rec (motive:=fun _=>Int→Int→Int→Int→Sl→Int→Int→OV) (fun _ _ _ _ _ _ _=>none) (fun _ ih0=>O3 pu n ih0) w
def AcP (pu:Af) (n:Nat) (x0 x1 x2 x3:Int):OV:=
 (oo (pu 33 [.int .u32 x1]) none fun v0=>(oo (Bj 1 v0) none fun s0=>(Qw pu n n x0 x2 x3 (0:Int) s0 (Int.ofNat (Sl.n s0)) (0:Int))))
def m13 (pu:Af) (n:Nat) (args:LV):OV:=
 (ll args none fun a0 args=>(ll args none fun a1 args=>(ll args none fun a2 args=>(ll args none fun a3 args=>(ll args (oo (Bi .i64 a0) none fun x0=>(oo (Bi .u32 a1) none fun x1=>(oo (Bi .i64 a2) none fun x2=>(oo (Bi .i64 a3) none fun x3=>(AcP pu n x0 x1 x2 x3))))) fun _ _=>none)))))
theorem AcR (pu:Af) (n:Nat) (z1:Int) {v:Value} (hm:WB pu n z1=some v):BN tt (Bb tabs isP pu (inl pu)) 1 Yi (fr 35 [(9,.int .u32 z1)]) AO (Fin tt 1 [.tmp 8] v):=by
 unfold WB at hm
 refine .then (.rK (.ghs (fr 35 [(8,.int .u32 z1)]) AO (.k0 [false] [] [8]) ?_))
 refine .ret ?_
 exact A7 (.int .u32 z1) hm
theorem r13 {call:A8} (pu:Af) (n:Nat) (hcall:call=Bb tabs isP pu (inl pu)) {args:LV} {v:Value} (hm:m13 pu n args=some v) (_:∀ x∈args,closed2 x=true):args.length≤35∧BN tt call 1 R3 (Fr.made 35 args) (Ao tabs) (Fin tt 1 [.tmp 8] v):=by
 subst hcall
 unfold m13 at hm
 replace hm:=Ad hm;obtain⟨a0,args_0,rfl,hm⟩:=hm
 replace hm:=Ad hm;obtain⟨a1,args_1,rfl,hm⟩:=hm
 replace hm:=Ad hm;obtain⟨a2,args_2,rfl,hm⟩:=hm
 replace hm:=Ad hm;obtain⟨a3,args_3,rfl,hm⟩:=hm
 replace hm:=AC hm;obtain⟨rfl,hm⟩:=hm
 replace hm:=Ai hm;obtain⟨x0,rfl,hm⟩:=hm
 replace hm:=Ai hm;obtain⟨x1,rfl,hm⟩:=hm
 replace hm:=Ai hm;obtain⟨x2,rfl,hm⟩:=hm
 replace hm:=Ai hm;obtain⟨x3,rfl,hm⟩:=hm
 unfold AcP at hm
 refine⟨by simp,?_⟩
 refine .same (F':=(fr 35 [(0,zI x0),(1,.int .u32 x1),(2,zI x2),(3,zI x3)])) (H':=AO) (by kernel_rfl) (by kernel_rfl) ?_
 refine .then (.rK (.ghs (fr 35 [(0,zI x0),(1,.int .u32 x1),(2,zI x2),(3,zI x3)]) AO (.k0 [false] [] [0,1,2,3]) ?_))
 refine .then (.rK (.ghs (fr 35 [(0,zI x0),(1,.int .u32 x1),(2,zI x2),(3,zI x3),(9,(.int .u32 (0:Int)))]) AO (.k0 [false] [] [0,1,2,3,9]) ?_))
 refine .join (v:=v) (fun y:Int=>((fr 35 [(9,.int .u32 y)]),AO)) (fun y=>WB pu n y) ?_ ?_
 ·rintro z1 hm
  exact AcR pu n z1 hm
 ·refine .then ?_
  replace hm:=Yy hm;obtain⟨s0,h0,hm⟩:=hm
  refine .reg (eC 1 ((oo (pu 33 [.int .u32 x1]) none fun v=>some (v,AO))) (AB h0) (eE)) ?_
  refine .ghs (fr 35 [(0,zI x0),(2,zI x2),(3,zI x3),(9,(.int .u32 (0:Int))),(13,Sl.v 1 s0),(14,(zI (Int.ofNat (Sl.n s0)))),(15,(zI (0:Int)))]) AO (.k0 [false] [] [0,2,3,9,13,14,15]) ?_
  refine .block (.loopM (v:=v) (fun y:Int×Int×Int×Int×Sl×Int×Int=>((fr 35 [(0,(zI y.1)),(2,(zI y.2.1)),(3,(zI y.2.2.1)),(9,(.int .u32 y.2.2.2.1)),(13,(Sl.v 1 y.2.2.2.2.1)),(14,(zI y.2.2.2.2.2.1)),(15,(zI y.2.2.2.2.2.2))]),AO)) (fun w y=>Qw pu n w y.1 y.2.1 y.2.2.1 y.2.2.2.1 y.2.2.2.2.1 y.2.2.2.2.2.1 y.2.2.2.2.2.2) n ⟨(x0,x2,x3,(0:Int),s0,(Int.ofNat (Sl.n s0)),(0:Int)),hm,(.k0 [false] [] [0,2,3,9,13,14,15])⟩ (fun _=>rfl) ?_)
  rintro w0 ⟨z2,z3,z4,z5,s1,z6,z7⟩ hm
  replace hm:O3 pu n (Qw pu n w0) z2 z3 z4 z5 s1 z6 z7=some v:=hm
  unfold O3 at hm
  refine .then (.rK (.ghs (fr 35 [(0,zI z2),(2,zI z3),(3,zI z4),(9,.int .u32 z5),(13,Sl.v 1 s1),(14,zI z6),(15,zI z7),(16,(zB (AY z7 z6)))]) AO (.k0 [false] [] [0,2,3,9,13,14,15,16]) ?_))
  refine .then ?_
  replace hm:=Ag hm;rcases hm with⟨h1,hm⟩ | ⟨h1,hm⟩
  ·refine DT (AY z7 z6) h1 ?_
   refine .skip (.ghs (fr 35 [(0,zI z2),(2,zI z3),(3,zI z4),(9,.int .u32 z5),(13,Sl.v 1 s1),(14,zI z6),(15,zI z7)]) AO (.k0 [false] [] [0,2,3,9,13,14,15]) ?_)
   refine .then (.block (.then ?_))
   replace hm:=Ab hm;obtain⟨k1,h2,hm⟩:=hm
   obtain rfl:=AR h2
   replace hm:=Ae hm;obtain⟨h3,hm⟩:=hm
   replace hm:=K8 hm;obtain⟨x4,h4,hm⟩:=hm
   refine .reg (eD (keep AO (bb (an (Nat.blt k1 (Sl.n s1)) true) (some (Cv (k1*1) (Sl.cs s1))) none)) (AX h3) (eD (keep AO (AL (Sl.cs s1) (k1*1))) (AZ h4) (eE))) ?_
   refine .ghs (fr 35 [(0,zI z2),(2,zI z3),(3,zI z4),(9,.int .u32 z5),(11,zI x4),(13,Sl.v 1 s1),(14,zI z6),(15,(zI (Int.ofNat k1)))]) AO (.k0 [false] [] [0,2,3,9,11,13,14,15]) ?_
   replace hm:=Ae hm;obtain⟨h5,hm⟩:=hm
   replace hm:=Ae hm;obtain⟨h6,hm⟩:=hm
   replace hm:=Ab hm;obtain⟨k2,h7,hm⟩:=hm
   refine .reg (eC 7 (keep AO (bb (Bd z2 (0:Int)) none (some (zI (Int.tmod (Aj .i64 (Int.add (Aj .i64 (Int.mul x4 z3)) z4)) z2))))) (XH h5) (eC 3 (keep AO (bb (Bd z2 (0:Int)) none (some (zI (Int.tmod (Aj .i64 (Int.add (Int.tmod (Aj .i64 (Int.add (Aj .i64 (Int.mul x4 z3)) z4)) z2) z2)) z2))))) (show _=some ((zI (Int.ofNat k2)),_) from (nat_eq (X:=(Int.tmod (Aj .i64 (Int.add (Int.tmod (Aj .i64 (Int.add (Aj .i64 (Int.mul x4 z3)) z4)) z2) z2)) z2)) (XH h6) h7)) (eE))) ?_
   refine .ghs (fr 35 [(0,zI z2),(2,zI z3),(3,zI z4),(9,(.int .u32 (jF .u32 z5 (QW .u32 (1:Int) k2)))),(13,Sl.v 1 s1),(14,zI z6),(15,(zI (Int.ofNat k1)))]) AO (.k0 [false] [] [0,2,3,9,13,14,15]) ?_
   refine .rK ?_
   exact⟨(z2,z3,z4,(jF .u32 z5 (QW .u32 (1:Int) k2)),s1,z6,(Aj .i64 (Int.add (Int.ofNat k1) (1:Int)))),hm,(.k0 [false] [] [0,2,3,9,13,14,15])⟩
  ·refine Eb (AY z7 z6) h1 ?_
   refine .exit ?_
   exact⟨z5,hm,(.k0 [false] [] [9])⟩

def AcS (pu:Af) (n:Nat) (x0:Int):OV:=
 (bb (Bd x0 (0:Int)) (some (.int .i64 (32:Int))) (oo (EA (G6 .u32 (Aj .u32 (Int.mul (Np .u32 x0 (Aj .u32 (Int.sub (.ofNat 0) x0))) (125613361:Int))) 27)) none fun k1=>(bb (Nat.blt k1 32) (oo (AL SK (0+k1*1)) none fun v0=>(oo (Bi .u8 v0) none fun x1=>(some (.int .i64 (Aj .i64 x1))))) none)))
def m14 (pu:Af) (n:Nat) (args:LV):OV:=
 (ll args none fun a0 args=>(ll args (oo (Bi .u32 a0) none fun x0=>(AcS pu n x0)) fun _ _=>none))
theorem r14 {call:A8} (pu:Af) (n:Nat) (hcall:call=Bb tabs isP pu (inl pu)) {args:LV} {v:Value} (hm:m14 pu n args=some v) (_:∀ x∈args,closed2 x=true):args.length≤14∧BN tt call 1 Wp (Fr.made 14 args) (Ao tabs) (Fin tt 1 [.tmp 2] v):=by
 subst hcall
 unfold m14 at hm
 replace hm:=Ad hm;obtain⟨a0,args_0,rfl,hm⟩:=hm
 replace hm:=AC hm;obtain⟨rfl,hm⟩:=hm
 replace hm:=Ai hm;obtain⟨x0,rfl,hm⟩:=hm
 unfold AcS at hm
 refine⟨by simp,?_⟩
 refine .same (F':=(fr 14 [(0,.int .u32 x0)])) (H':=AO) (by kernel_rfl) (by kernel_rfl) ?_
 refine .then (.rK (.ghs (fr 14 [(0,.int .u32 x0)]) AO (.k0 [false] [] [0]) ?_))
 refine .then (.then (.rK (.ghs (fr 14 [(0,.int .u32 x0),(4,(zB (Bd x0 (0:Int))))]) AO (.k0 [false] [] [0,4]) ?_)))
 replace hm:=Ag hm;rcases hm with⟨h0,hm⟩ | ⟨h0,hm⟩
 ·refine DT (Bd x0 (0:Int)) h0 ?_
  refine .then (.rK (.ghs (fr 14 [(2,(zI (32:Int)))]) AO (.k0 [false] [] [2]) ?_))
  refine .ret ?_
  exact A7 (zI (32:Int)) hm
 ·refine Eb (Bd x0 (0:Int)) h0 ?_
  refine .skip (.ghs (fr 14 [(0,.int .u32 x0)]) AO (.k0 [false] [] [0]) ?_)
  refine .then ?_
  replace hm:=Ab hm;obtain⟨k1,h1,hm⟩:=hm
  replace hm:=Ae hm;obtain⟨h2,hm⟩:=hm
  replace hm:=K8 hm;obtain⟨x1,h3,hm⟩:=hm
  refine .reg (eC 5 (some ((.int .u32 (G6 .u32 (Aj .u32 (Int.mul (Np .u32 x0 (Aj .u32 (Int.sub (.ofNat 0) x0))) (125613361:Int))) 27)),AO)) (show _=some ((.int .u32 (Int.ofNat k1)),_) from (by rw[AR h1])) (eD (keep AO (bb (Nat.blt k1 32) (some (.pointer (some ⟨0,(0+k1*1),none⟩))) none)) (AX h2) (eD (keep AO (AL SK (0+k1*1))) (AZ h3) (eE)))) ?_
  refine .ghs (fr 14 [(2,(zI (Aj .i64 x1)))]) AO (.k0 [false] [] [2]) ?_
  refine .ret ?_
  exact A7 (zI (Aj .i64 x1)) hm
def WC (pu:Af) (n:Nat) (z1 z2 z3 z4:Int):OV:=
 (some (.agg ⟨[.int .i64 z3,.int .u32 z4]⟩))
def Uh (pu:Af) (n:Nat) (ih0:Sl→Int→Int→Int→Int→Int→Int→Int→Int→OV) (s0:Sl) (z1 z2 z3 z4 z5 z6 z7 z8:Int):OV:=
 (ih0 s0 z1 (Aj .i64 (Int.add z2 (1:Int))) z3 z4 z5 z6 z7 z8)
def OG (pu:Af) (n:Nat) (ih0:Sl→Int→Int→Int→Int→Int→Int→Int→Int→OV) (s0:Sl) (z1 z2:Int) (b0:Bool) (z3 z4 z5 z6 z7 z8 z9 z10:Int):OV:=
 (bb b0 (Uh pu n ih0 s0 z1 z2 z3 z4 z5 z6 z9 z10) (Uh pu n ih0 s0 z1 z2 z3 z4 z5 z6 z7 z8))
def O4 (pu:Af) (n:Nat) (ih0:Sl→Int→Int→Int→Int→Int→Int→Int→Int→OV) (s0:Sl) (z1 z2 z3 z4 z5 z6 z7 z8:Int):OV:=
 (bb (AY z2 z1) (oo (EA z2) none fun k1=>(bb (an (Nat.blt k1 (Sl.n s0)) true) (oo (AL (Sl.cs s0) (k1*1)) none fun v0=>(oo (Bi .i64 v0) none fun x0=>(oo (pu 47 [(.agg ⟨[.int .i64 z3,.int .u32 z4]⟩),(.int .i64 (Aj .i64 (Int.sub (.ofNat 0) x0)))]) none fun v1=>(oo (Bi .i64 v1) none fun x1=>(oo (pu 48 [(.agg ⟨[.int .i64 z3,.int .u32 z4]⟩),.int .i64 x1]) none fun v2=>(oo (Bt v2) none fun l0=>(ll l0 none fun v3 l0=>(ll l0 none fun v4 l0=>(ll l0 (oo (Bi .i64 v3) none fun x2=>(oo (Bi .u32 v4) none fun x3=>(bb (Bd (Np .u32 z8 (1:Int)) (0:Int)) (OG pu n ih0 s0 z1 (Int.ofNat k1) true z3 z4 z5 z6 z7 z8 x2 x3) (oo (pu 46 [(.agg ⟨[.int .i64 x2,.int .u32 x3]⟩)]) none fun v5=>(oo (Bj 1 v5) none fun s1=>(oo (pu 46 [(.agg ⟨[.int .i64 z7,.int .u32 z8]⟩)]) none fun v6=>(oo (Bj 1 v6) none fun s2=>(oo (pu 49 [Sl.v 1 s1,Sl.v 1 s2]) none fun v7=>(oo (Bi .i64 v7) none fun x4=>(OG pu n ih0 s0 z1 (Int.ofNat k1) (AY x4 (0:Int)) z3 z4 z5 z6 z7 z8 x2 x3)))))))))) fun _ _=>none))))))))) none)) (WC pu n z5 z6 z7 z8))
def KJ (pu:Af) (n w:Nat):Sl→Int→Int→Int→Int→Int→Int→Int→Int→OV:=
 Nat.rec (motive:=fun _=>Sl→Int→Int→Int→Int→Int→Int→Int→Int→OV) (fun _ _ _ _ _ _ _ _ _=>none) (fun _ ih0=>O4 pu n ih0) w
def AcT (pu:Af) (n:Nat) (x0 x1:Int):OV:=
 (oo (pu 46 [(.agg ⟨[.int .i64 x0,.int .u32 x1]⟩)]) none fun v0=>(oo (Bj 1 v0) none fun s0=>(KJ pu n n s0 (Int.ofNat (Sl.n s0)) (0:Int) x0 x1 (0:Int) (0:Int) x0 x1)))
def m20 (pu:Af) (n:Nat) (args:LV):OV:=
 (ll args none fun a0 args=>(ll args (oo (Bt a0) none fun l0=>(ll l0 none fun v0 l0=>(ll l0 none fun v1 l0=>(ll l0 (oo (Bi .i64 v0) none fun x0=>(oo (Bi .u32 v1) none fun x1=>(AcT pu n x0 x1))) fun _ _=>none)))) fun _ _=>none))
theorem AcV (pu:Af) (n:Nat) (z1 z2 z3 z4:Int) {v:Value} (hm:WC pu n z1 z2 z3 z4=some v):BN tt (Bb tabs isP pu (inl pu)) 1 Yj (fr 36 [(2,pt 1 0),(3,(pt 2 0))]) (hT 3 [(oC [zI z1,.int .u32 z2]),(oC [zI z3,.int .u32 z4])]) (Fin tt 1 [.cell 2 45] v):=by
 unfold WC at hm
 refine .then (.rK (.ghs (fr 36 [(2,pt 1 0)]) (hT 2 [(oC [zI z3,.int .u32 z4])]) (.k0 [false] [.tmp 2 false] [2]) ?_))
 refine .ret ?_
 exact A7 (.agg ⟨[zI z3,.int .u32 z4]⟩) hm
theorem r20 {call:A8} (pu:Af) (n:Nat) (hcall:call=Bb tabs isP pu (inl pu)) {args:LV} {v:Value} (hm:m20 pu n args=some v) (_:∀ x∈args,closed2 x=true):args.length≤36∧BN tt call 1 R4 (Fr.made 36 args) (Ao tabs) (Fin tt 1 [.cell 2 45] v):=by
 subst hcall
 unfold m20 at hm
 replace hm:=Ad hm;obtain⟨a0,args_0,rfl,hm⟩:=hm
 replace hm:=AC hm;obtain⟨rfl,hm⟩:=hm
 replace hm:=BG hm;obtain⟨l0,rfl,hm⟩:=hm
 replace hm:=Ad hm;obtain⟨v0,l7762_0,rfl,hm⟩:=hm
 replace hm:=Ad hm;obtain⟨v1,l7762_1,rfl,hm⟩:=hm
 replace hm:=AC hm;obtain⟨rfl,hm⟩:=hm
 replace hm:=Ai hm;obtain⟨x0,rfl,hm⟩:=hm
 replace hm:=Ai hm;obtain⟨x1,rfl,hm⟩:=hm
 unfold AcT at hm
 refine⟨by simp,?_⟩
 refine .same (F':=(fr 36 [(0,(.agg ⟨[zI x0,.int .u32 x1]⟩))])) (H':=AO) (by kernel_rfl) (by kernel_rfl) ?_
 refine .then (.rK (.ghs (fr 36 [(1,pt 1 0),(2,(pt 2 0))]) (hT 3 [(oC [zI x0,.int .u32 x1]),(oC [(zI (0:Int)),(.int .u32 (0:Int))])]) (.k0 [false] [.tmp 1 false,.tmp 2 false] [1,2]) ?_))
 refine .then (.rK (.ghs (fr 36 [(1,pt 1 0),(2,(pt 2 0)),(3,(pt 3 0))]) (hT 4 [(oC [zI x0,.int .u32 x1]),(oC [(zI (0:Int)),(.int .u32 (0:Int))]),(oC [zI x0,.int .u32 x1])]) (.k0 [false] [.tmp 1 false,.tmp 2 false,.tmp 3 false] [1,2,3]) ?_))
 refine .join (v:=v) (fun y:Int×Int×Int×Int=>((fr 36 [(2,pt 1 0),(3,(pt 2 0))]),(hT 3 [(oC [(zI y.1),(.int .u32 y.2.1)]),(oC [(zI y.2.2.1),(.int .u32 y.2.2.2)])]))) (fun y=>WC pu n y.1 y.2.1 y.2.2.1 y.2.2.2) ?_ ?_
 ·rintro⟨z1,z2,z3,z4⟩ hm
  exact AcV pu n z1 z2 z3 z4 hm
 ·refine .then ?_
  replace hm:=Yy hm;obtain⟨s0,h0,hm⟩:=hm
  refine .reg (eC 1 ((oo (pu 46 [(.agg ⟨[zI x0,.int .u32 x1]⟩)]) none fun v=>some (v,(hT 4 [(oC [zI x0,.int .u32 x1]),(oC [(zI (0:Int)),(.int .u32 (0:Int))]),(oC [zI x0,.int .u32 x1])])))) (AB h0) (eE)) ?_
  refine .ghs (fr 36 [(1,pt 1 0),(2,(pt 2 0)),(3,(pt 3 0)),(9,Sl.v 1 s0),(10,(zI (Int.ofNat (Sl.n s0)))),(11,(zI (0:Int)))]) (hT 4 [(oC [zI x0,.int .u32 x1]),(oC [(zI (0:Int)),(.int .u32 (0:Int))]),(oC [zI x0,.int .u32 x1])]) (.k0 [false] [.tmp 1 false,.tmp 2 false,.tmp 3 false] [1,2,3,9,10,11]) ?_
  refine .block (.loopM (v:=v) (fun y:Sl×Int×Int×Int×Int×Int×Int×Int×Int=>((fr 36 [(1,pt 1 0),(2,(pt 2 0)),(3,(pt 3 0)),(9,(Sl.v 1 y.1)),(10,(zI y.2.1)),(11,(zI y.2.2.1))]),(hT 4 [(oC [(zI y.2.2.2.1),(.int .u32 y.2.2.2.2.1)]),(oC [(zI y.2.2.2.2.2.1),(.int .u32 y.2.2.2.2.2.2.1)]),(oC [(zI y.2.2.2.2.2.2.2.1),(.int .u32 y.2.2.2.2.2.2.2.2)])]))) (fun w y=>KJ pu n w y.1 y.2.1 y.2.2.1 y.2.2.2.1 y.2.2.2.2.1 y.2.2.2.2.2.1 y.2.2.2.2.2.2.1 y.2.2.2.2.2.2.2.1 y.2.2.2.2.2.2.2.2) n ⟨(s0,(Int.ofNat (Sl.n s0)),(0:Int),x0,x1,(0:Int),(0:Int),x0,x1),hm,(.k0 [false] [.tmp 1 false,.tmp 2 false,.tmp 3 false] [1,2,3,9,10,11])⟩ (fun _=>rfl) ?_)
  rintro w0 ⟨s1,z5,z6,z7,z8,z9,z10,z11,z12⟩ hm
  replace hm:O4 pu n (KJ pu n w0) s1 z5 z6 z7 z8 z9 z10 z11 z12=some v:=hm
  unfold O4 at hm
  refine .then (.rK (.ghs (fr 36 [(1,pt 1 0),(2,(pt 2 0)),(3,(pt 3 0)),(9,Sl.v 1 s1),(10,zI z5),(11,zI z6),(12,(zB (AY z6 z5)))]) (hT 4 [(oC [zI z7,.int .u32 z8]),(oC [zI z9,.int .u32 z10]),(oC [zI z11,.int .u32 z12])]) (.k0 [false] [.tmp 1 false,.tmp 2 false,.tmp 3 false] [1,2,3,9,10,11,12]) ?_))
  refine .then ?_
  replace hm:=Ag hm;rcases hm with⟨h1,hm⟩ | ⟨h1,hm⟩
  ·refine DT (AY z6 z5) h1 ?_
   refine .skip (.ghs (fr 36 [(1,pt 1 0),(2,(pt 2 0)),(3,(pt 3 0)),(9,Sl.v 1 s1),(10,zI z5),(11,zI z6)]) (hT 4 [(oC [zI z7,.int .u32 z8]),(oC [zI z9,.int .u32 z10]),(oC [zI z11,.int .u32 z12])]) (.k0 [false] [.tmp 1 false,.tmp 2 false,.tmp 3 false] [1,2,3,9,10,11]) ?_)
   refine .join (v:=v) (fun y:Sl×Int×Int×Int×Int×Int×Int×Int×Int=>((fr 36 [(1,pt 1 0),(2,(pt 2 0)),(3,(pt 3 0)),(9,(Sl.v 1 y.1)),(10,(zI y.2.1)),(11,(zI y.2.2.1))]),(hT 4 [(oC [(zI y.2.2.2.1),(.int .u32 y.2.2.2.2.1)]),(oC [(zI y.2.2.2.2.2.1),(.int .u32 y.2.2.2.2.2.2.1)]),(oC [(zI y.2.2.2.2.2.2.2.1),(.int .u32 y.2.2.2.2.2.2.2.2)])]))) (fun y=>Uh pu n (KJ pu n w0) y.1 y.2.1 y.2.2.1 y.2.2.2.1 y.2.2.2.2.1 y.2.2.2.2.2.1 y.2.2.2.2.2.2.1 y.2.2.2.2.2.2.2.1 y.2.2.2.2.2.2.2.2) ?_ ?_
   ·rintro⟨s2,z13,z14,z15,z16,z17,z18,z19,z20⟩ hm
    unfold Uh at hm
    refine .rK ?_
    exact⟨(s2,z13,(Aj .i64 (Int.add z14 (1:Int))),z15,z16,z17,z18,z19,z20),hm,(.k0 [false] [.tmp 1 false,.tmp 2 false,.tmp 3 false] [1,2,3,9,10,11])⟩
   ·refine .block (.then ?_)
    replace hm:=Ab hm;obtain⟨k1,h2,hm⟩:=hm
    obtain rfl:=AR h2
    replace hm:=Ae hm;obtain⟨h3,hm⟩:=hm
    replace hm:=K8 hm;obtain⟨x2,h4,hm⟩:=hm
    refine .reg (eD (keep (hT 4 [(oC [zI z7,.int .u32 z8]),(oC [zI z9,.int .u32 z10]),(oC [zI z11,.int .u32 z12])]) (bb (an (Nat.blt k1 (Sl.n s1)) true) (some (Cv (k1*1) (Sl.cs s1))) none)) (AX h3) (eD (keep (hT 4 [(oC [zI z7,.int .u32 z8]),(oC [zI z9,.int .u32 z10]),(oC [zI z11,.int .u32 z12])]) (AL (Sl.cs s1) (k1*1))) (AZ h4) (eE))) ?_
    refine .ghs (fr 36 [(1,pt 1 0),(2,(pt 2 0)),(3,(pt 3 0)),(5,zI x2),(9,Sl.v 1 s1),(10,zI z5),(11,(zI (Int.ofNat k1)))]) (hT 4 [(oC [zI z7,.int .u32 z8]),(oC [zI z9,.int .u32 z10]),(oC [zI z11,.int .u32 z12])]) (.k0 [false] [.tmp 1 false,.tmp 2 false,.tmp 3 false] [1,2,3,5,9,10,11]) ?_
    refine .then ?_
    replace hm:=K8 hm;obtain⟨x3,h5,hm⟩:=hm
    replace hm:=Ab hm;obtain⟨v2,h6,hm⟩:=hm
    replace hm:=BG hm;obtain⟨l1,rfl,hm⟩:=hm
    replace hm:=Ad hm;obtain⟨v3,l8953_0,rfl,hm⟩:=hm
    replace hm:=Ad hm;obtain⟨v4,l8953_1,rfl,hm⟩:=hm
    replace hm:=AC hm;obtain⟨rfl,hm⟩:=hm
    replace hm:=Ai hm;obtain⟨x4,rfl,hm⟩:=hm
    replace hm:=Ai hm;obtain⟨x5,rfl,hm⟩:=hm
    refine .reg (eC 5 ((oo (pu 47 [(.agg ⟨[zI z7,.int .u32 z8]⟩),(zI (Aj .i64 (Int.sub (.ofNat 0) x2)))]) none fun v=>some (v,(hT 5 [(oC [zI z7,.int .u32 z8]),(oC [zI z9,.int .u32 z10]),(oC [zI z11,.int .u32 z12]),(oC [(zI (0:Int)),(.int .u32 (0:Int))])])))) (AB h5) (eD ((oo (pu 48 [(.agg ⟨[zI z7,.int .u32 z8]⟩),zI x3]) none fun v=>some (v,(hT 5 [(oC [zI z7,.int .u32 z8]),(oC [zI z9,.int .u32 z10]),(oC [zI z11,.int .u32 z12]),(oC [(zI (0:Int)),(.int .u32 (0:Int))])])))) (AB h6) (eE))) ?_
    refine .ghs (fr 36 [(1,pt 1 0),(2,(pt 2 0)),(3,(pt 3 0)),(6,(pt 4 0)),(9,Sl.v 1 s1),(10,zI z5),(11,(zI (Int.ofNat k1)))]) (hT 5 [(oC [zI z7,.int .u32 z8]),(oC [zI z9,.int .u32 z10]),(oC [zI z11,.int .u32 z12]),(oC [zI x4,.int .u32 x5])]) (.k0 [false] [.tmp 1 false,.tmp 2 false,.tmp 3 false,.tmp 6 false] [1,2,3,6,9,10,11]) ?_
    refine .join (v:=v) (fun y:Sl×Int×Int×Bool×Int×Int×Int×Int×Int×Int×Int×Int=>((fr 36 [(1,pt 1 0),(2,(pt 2 0)),(3,(pt 3 0)),(6,(pt 4 0)),(9,(Sl.v 1 y.1)),(10,(zI y.2.1)),(11,(zI y.2.2.1)),(32,(zB y.2.2.2.1))]),(hT 5 [(oC [(zI y.2.2.2.2.1),(.int .u32 y.2.2.2.2.2.1)]),(oC [(zI y.2.2.2.2.2.2.1),(.int .u32 y.2.2.2.2.2.2.2.1)]),(oC [(zI y.2.2.2.2.2.2.2.2.1),(.int .u32 y.2.2.2.2.2.2.2.2.2.1)]),(oC [(zI y.2.2.2.2.2.2.2.2.2.2.1),(.int .u32 y.2.2.2.2.2.2.2.2.2.2.2)])]))) (fun y=>OG pu n (KJ pu n w0) y.1 y.2.1 y.2.2.1 y.2.2.2.1 y.2.2.2.2.1 y.2.2.2.2.2.1 y.2.2.2.2.2.2.1 y.2.2.2.2.2.2.2.1 y.2.2.2.2.2.2.2.2.1 y.2.2.2.2.2.2.2.2.2.1 y.2.2.2.2.2.2.2.2.2.2.1 y.2.2.2.2.2.2.2.2.2.2.2) ?_ ?_
    ·rintro⟨s3,z21,z22,b0,z23,z24,z25,z26,z27,z28,z29,z30⟩ hm
     unfold OG at hm
     replace hm:=Ag hm;rcases hm with⟨h7,hm⟩ | ⟨h7,hm⟩
     ·refine .ifT b0 (by kernel_rfl) h7 ?_
      refine .rK ?_
      exact⟨(s3,z21,z22,z23,z24,z25,z26,z29,z30),hm,(.k0 [false] [.tmp 1 false,.tmp 2 false,.tmp 3 false] [1,2,3,9,10,11])⟩
     ·refine .ifF b0 (by kernel_rfl) h7 ?_
      refine .skip ?_
      exact⟨(s3,z21,z22,z23,z24,z25,z26,z27,z28),hm,(.k0 [false] [.tmp 1 false,.tmp 2 false,.tmp 3 false] [1,2,3,9,10,11])⟩
    ·replace hm:=Ag hm;rcases hm with⟨h8,hm⟩ | ⟨h8,hm⟩
     ·refine .reg (eC 3 (some ((zB (Bd (Np .u32 z12 (1:Int)) (0:Int))),(hT 5 [(oC [zI z7,.int .u32 z8]),(oC [zI z9,.int .u32 z10]),(oC [zI z11,.int .u32 z12]),(oC [zI x4,.int .u32 x5])]))) (show _=some ((zB true),_) from (by rw[show (Bd (Np .u32 z12 (1:Int)) (0:Int))=true from h8])) (eE)) ?_
      exact⟨(s1,z5,(Int.ofNat k1),true,z7,z8,z9,z10,z11,z12,x4,x5),hm,(.k0 [false] [.tmp 1 false,.tmp 2 false,.tmp 3 false,.tmp 6 false] [1,2,3,6,9,10,11,32])⟩
     ·replace hm:=Yy hm;obtain⟨s4,h9,hm⟩:=hm
      replace hm:=Yy hm;obtain⟨s5,h10,hm⟩:=hm
      replace hm:=K8 hm;obtain⟨x6,h11,hm⟩:=hm
      refine .reg (eC 3 (some ((zB (Bd (Np .u32 z12 (1:Int)) (0:Int))),(hT 5 [(oC [zI z7,.int .u32 z8]),(oC [zI z9,.int .u32 z10]),(oC [zI z11,.int .u32 z12]),(oC [zI x4,.int .u32 x5])]))) (show _=some ((zB false),_) from (by rw[show (Bd (Np .u32 z12 (1:Int)) (0:Int))=false from h8])) (eC 3 ((oo (pu 46 [(.agg ⟨[zI x4,.int .u32 x5]⟩)]) none fun v=>some (v,(hT 5 [(oC [zI z7,.int .u32 z8]),(oC [zI z9,.int .u32 z10]),(oC [zI z11,.int .u32 z12]),(oC [zI x4,.int .u32 x5])])))) (AB h9) (eD ((oo (pu 46 [(.agg ⟨[zI z11,.int .u32 z12]⟩)]) none fun v=>some (v,(hT 5 [(oC [zI z7,.int .u32 z8]),(oC [zI z9,.int .u32 z10]),(oC [zI z11,.int .u32 z12]),(oC [zI x4,.int .u32 x5])])))) (AB h10) (eD ((oo (pu 49 [Sl.v 1 s4,Sl.v 1 s5]) none fun v=>some (v,(hT 5 [(oC [zI z7,.int .u32 z8]),(oC [zI z9,.int .u32 z10]),(oC [zI z11,.int .u32 z12]),(oC [zI x4,.int .u32 x5])])))) (AB h11) (eE))))) ?_
      exact⟨(s1,z5,(Int.ofNat k1),(AY x6 (0:Int)),z7,z8,z9,z10,z11,z12,x4,x5),hm,(.k0 [false] [.tmp 1 false,.tmp 2 false,.tmp 3 false,.tmp 6 false] [1,2,3,6,9,10,11,32])⟩
  ·refine Eb (AY z6 z5) h1 ?_
   refine .exit ?_
   exact⟨(z9,z10,z11,z12),hm,(.k0 [false] [.tmp 2 false,.tmp 3 false] [2,3])⟩
end
end Go.RgQM
