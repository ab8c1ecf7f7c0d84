/- Made from wip. -/
import Derived.Test.YtflonlkiajhhjaaGreatDoorTpFMod0x

set_option maxRecDepth 100000
set_option maxHeartbeats 20000000
set_option linter.unusedVariables false
namespace Go.TpFM
open Go.Sp Go.TpF
noncomputable section

def AiV (pu:Af) (n:Nat) (x0:Int) (s0:Sl):OV:=
 (oo (pu 114 [(.agg ⟨[.int .i64 x0,Sl.v 1 s0]⟩)]) none fun v0=>(oo (Bi .i64 v0) none fun x1=>(bb (nt (Bd x1 (0:Int))) (some (.tuple ⟨[(.agg ⟨[(.int .i64 (0:Int)),(.int .u32 (0:Int))]⟩),.int .i64 x1]⟩)) (oo (pu 115 [.int .i64 x0,Sl.v 1 s0]) none fun v1=>(oo (Bt v1) none fun l0=>(ll l0 none fun v2 l0=>(ll l0 none fun v3 l0=>(ll l0 (oo (Bi .i64 v2) none fun x2=>(oo (Bi .u32 v3) none fun x3=>(some (.tuple ⟨[(.agg ⟨[.int .i64 x2,.int .u32 x3]⟩),(.int .i64 (0:Int))]⟩)))) fun _ _=>none))))))))
def m54 (pu:Af) (n:Nat) (args:LV):OV:=
 (ll args none fun a0 args=>(ll args (oo (Bt a0) none fun l0=>(ll l0 none fun v0 l0=>(ll l0 none fun v1 l0=>(ll l0 (oo (Bi .i64 v0) none fun x0=>(oo (Bj 1 v1) none fun s0=>(AiV pu n x0 s0))) fun _ _=>none)))) fun _ _=>none))
theorem r54 {call:A8} (pu:Af) (n:Nat) (hcall:call=Bb tabs isP pu (inl pu)) {args:LV} {v:Value} (hm:m54 pu n args=some v) (_:∀ x∈args,closed2 x=true):args.length≤16∧BN tt call 2 QR (Fr.made 16 args) (Ao tabs) (Fin tt 2 [.cell 2 99,.tmp 3] v):=by
 subst hcall
 unfold m54 at hm
 replace hm:=Ad hm;obtain⟨a0,args_0,rfl,hm⟩:=hm
 replace hm:=AC hm;obtain⟨rfl,hm⟩:=hm
 replace hm:=BG hm;obtain⟨l0,rfl,hm⟩:=hm
 replace hm:=Ad hm;obtain⟨v0,l112949_0,rfl,hm⟩:=hm
 replace hm:=Ad hm;obtain⟨v1,l112949_1,rfl,hm⟩:=hm
 replace hm:=AC hm;obtain⟨rfl,hm⟩:=hm
 replace hm:=Ai hm;obtain⟨x0,rfl,hm⟩:=hm
 replace hm:=Al hm;obtain⟨s0,rfl,hm⟩:=hm
 unfold AiV at hm
 refine⟨by simp,?_⟩
 refine .same (F':=(fr 16 [(0,(.agg ⟨[zI x0,Sl.v 1 s0]⟩))])) (H':=(hT 2 [(.cells Ay true false [])])) (by kernel_rfl) (by kernel_rfl) ?_
 refine .then (.rK (.ghs (fr 16 [(1,(pt 2 0)),(2,(pt 3 0))]) (hT 4 [(.cells Ay true false []),(oC [zI x0,Sl.v 1 s0]),(oC [(zI (0:Int)),(.int .u32 (0:Int))])]) (.k0 [false,false] [.tmp 1 false,.tmp 2 false] [1,2]) ?_))
 refine .then (.then ?_)
 replace hm:=K6 hm;obtain⟨x1,h0,hm⟩:=hm
 refine .reg (eC 1 ((oo (pu 114 [(.agg ⟨[zI x0,Sl.v 1 s0]⟩)]) none fun v=>some (v,(hT 4 [(.cells Ay true false []),(oC [zI x0,Sl.v 1 s0]),(oC [(zI (0:Int)),(.int .u32 (0:Int))])])))) (AB h0) (eE)) ?_
 refine .ghs (fr 16 [(1,(pt 2 0)),(2,(pt 3 0)),(4,zI x1)]) (hT 4 [(.cells Ay true false []),(oC [zI x0,Sl.v 1 s0]),(oC [(zI (0:Int)),(.int .u32 (0:Int))])]) (.k0 [false,false] [.tmp 1 false,.tmp 2 false] [1,2,4]) ?_
 refine .then (.rK (.ghs (fr 16 [(1,(pt 2 0)),(2,(pt 3 0)),(4,zI x1),(8,(zB (nt (Bd x1 (0:Int)))))]) (hT 4 [(.cells Ay true false []),(oC [zI x0,Sl.v 1 s0]),(oC [(zI (0:Int)),(.int .u32 (0:Int))])]) (.k0 [false,false] [.tmp 1 false,.tmp 2 false] [1,2,4,8]) ?_))
 replace hm:=Ag hm;rcases hm with⟨h1,hm⟩ | ⟨h1,hm⟩
 ·refine C8 (nt (Bd x1 (0:Int))) h1 ?_
  refine .then (.rK (.ghs (fr 16 [(2,(pt 2 0)),(3,zI x1)]) (hT 3 [(.cells Ay true false []),(oC [(zI (0:Int)),(.int .u32 (0:Int))])]) (.k0 [false,false] [.tmp 2 false] [2,3]) ?_))
  refine .ret ?_
  exact Bq (.tuple ⟨[(.agg ⟨[(zI (0:Int)),(.int .u32 (0:Int))]⟩),zI x1]⟩) hm
 ·refine Dn (nt (Bd x1 (0:Int))) h1 ?_
  refine .skip (.ghs (fr 16 [(1,(pt 2 0)),(2,(pt 3 0))]) (hT 4 [(.cells Ay true false []),(oC [zI x0,Sl.v 1 s0]),(oC [(zI (0:Int)),(.int .u32 (0:Int))])]) (.k0 [false,false] [.tmp 1 false,.tmp 2 false] [1,2]) ?_)
  refine .then ?_
  replace hm:=Ab hm;obtain⟨v2,h2,hm⟩:=hm
  replace hm:=BG hm;obtain⟨l1,rfl,hm⟩:=hm
  replace hm:=Ad hm;obtain⟨v3,l112978_0,rfl,hm⟩:=hm
  replace hm:=Ad hm;obtain⟨v4,l112978_1,rfl,hm⟩:=hm
  replace hm:=AC hm;obtain⟨rfl,hm⟩:=hm
  replace hm:=Ai hm;obtain⟨x2,rfl,hm⟩:=hm
  replace hm:=Ai hm;obtain⟨x3,rfl,hm⟩:=hm
  refine .reg (eC 4 ((oo (pu 115 [zI x0,Sl.v 1 s0]) none fun v=>some (v,(hT 4 [(.cells Ay true false []),(oC [zI x0,Sl.v 1 s0]),(oC [(zI (0:Int)),(.int .u32 (0:Int))])])))) (AB h2) (eE)) ?_
  refine .ghs (fr 16 [(2,(pt 2 0)),(3,(zI (0:Int)))]) (hT 3 [(.cells Ay true false []),(oC [zI x2,.int .u32 x3])]) (.k0 [false,false] [.tmp 2 false] [2,3]) ?_
  refine .ret ?_
  exact Bq (.tuple ⟨[(.agg ⟨[zI x2,.int .u32 x3]⟩),(zI (0:Int))]⟩) hm

def rM (pu:Af) (n:Nat) (x0 x1 x2:Int):OV:=
 (bb (nt (Bd x0 (0:Int))) (bb (nt (Bd x0 (0:Int))) (some (.int .i64 (Int.tmod (Aj .i64 (Int.add (Int.tmod x2 x0) x0)) x0))) none) none)
def m56 (pu:Af) (n:Nat) (args:LV):OV:=
 (ll args none fun a0 args=>(ll args none fun a1 args=>(ll args (oo (Bt a0) none fun l0=>(ll l0 none fun v0 l0=>(ll l0 none fun v1 l0=>(ll l0 (oo (Bi .i64 v0) none fun x0=>(oo (Bi .u32 v1) none fun x1=>(oo (Bi .i64 a1) none fun x2=>(rM pu n x0 x1 x2)))) fun _ _=>none)))) fun _ _=>none)))
theorem r56 {call:A8} (pu:Af) (n:Nat) (hcall:call=Bb tabs isP pu (inl pu)) {args:LV} {v:Value} (hm:m56 pu n args=some v) (_:∀ x∈args,closed2 x=true):args.length≤15∧BN tt call 2 UT (Fr.made 15 args) (Ao tabs) (Fin tt 2 [.tmp 4] v):=by
 subst hcall
 unfold m56 at hm
 replace hm:=Ad hm;obtain⟨a0,args_0,rfl,hm⟩:=hm
 replace hm:=Ad hm;obtain⟨a1,args_1,rfl,hm⟩:=hm
 replace hm:=AC hm;obtain⟨rfl,hm⟩:=hm
 replace hm:=BG hm;obtain⟨l0,rfl,hm⟩:=hm
 replace hm:=Ad hm;obtain⟨v0,l112986_0,rfl,hm⟩:=hm
 replace hm:=Ad hm;obtain⟨v1,l112986_1,rfl,hm⟩:=hm
 replace hm:=AC hm;obtain⟨rfl,hm⟩:=hm
 replace hm:=Ai hm;obtain⟨x0,rfl,hm⟩:=hm
 replace hm:=Ai hm;obtain⟨x1,rfl,hm⟩:=hm
 replace hm:=Ai hm;obtain⟨x2,rfl,hm⟩:=hm
 unfold rM at hm
 refine⟨by simp,?_⟩
 refine .same (F':=(fr 15 [(0,(.agg ⟨[zI x0,.int .u32 x1]⟩)),(1,zI x2)])) (H':=(hT 2 [(.cells Ay true false [])])) (by kernel_rfl) (by kernel_rfl) ?_
 refine .then (.rK (.ghs (fr 15 [(1,zI x2),(2,(pt 2 0))]) (hT 3 [(.cells Ay true false []),(oC [zI x0,.int .u32 x1])]) (.k0 [false,false] [.tmp 2 false] [1,2]) ?_))
 refine .then ?_
 replace hm:=Ae hm;obtain⟨h0,hm⟩:=hm
 replace hm:=Ae hm;obtain⟨h1,hm⟩:=hm
 refine .reg (eC 3 (keep (hT 3 [(.cells Ay true false []),(oC [zI x0,.int .u32 x1])]) (bb (Bd x0 (0:Int)) none (some (zI (Int.tmod x2 x0))))) (XH h0) (eC 5 (keep (hT 3 [(.cells Ay true false []),(oC [zI x0,.int .u32 x1])]) (bb (Bd x0 (0:Int)) none (some (zI (Int.tmod (Aj .i64 (Int.add (Int.tmod x2 x0) x0)) x0))))) (XH h1) (eE))) ?_
 refine .ghs (fr 15 [(4,(zI (Int.tmod (Aj .i64 (Int.add (Int.tmod x2 x0) x0)) x0)))]) (hT 2 [(.cells Ay true false [])]) (.k0 [false,false] [] [4]) ?_
 refine .ret ?_
 exact Bq (zI (Int.tmod (Aj .i64 (Int.add (Int.tmod x2 x0) x0)) x0)) hm

def AiW (pu:Af) (n:Nat) (x0 x1:Int):OV:=
 (oo (pu 116 [(.agg ⟨[.int .i64 x0,.int .u32 x1]⟩)]) none fun v0=>(oo (Bj 1 v0) none fun s0=>(some (.agg ⟨[.int .i64 x0,Sl.v 1 s0]⟩))))
def m57 (pu:Af) (n:Nat) (args:LV):OV:=
 (ll args none fun a0 args=>(ll args (oo (Bt a0) none fun l0=>(ll l0 none fun v0 l0=>(ll l0 none fun v1 l0=>(ll l0 (oo (Bi .i64 v0) none fun x0=>(oo (Bi .u32 v1) none fun x1=>(AiW pu n x0 x1))) fun _ _=>none)))) fun _ _=>none))
theorem r57 {call:A8} (pu:Af) (n:Nat) (hcall:call=Bb tabs isP pu (inl pu)) {args:LV} {v:Value} (hm:m57 pu n args=some v) (_:∀ x∈args,closed2 x=true):args.length≤8∧BN tt call 2 UU (Fr.made 8 args) (Ao tabs) (Fin tt 2 [.cell 2 41] v):=by
 subst hcall
 unfold m57 at hm
 replace hm:=Ad hm;obtain⟨a0,args_0,rfl,hm⟩:=hm
 replace hm:=AC hm;obtain⟨rfl,hm⟩:=hm
 replace hm:=BG hm;obtain⟨l0,rfl,hm⟩:=hm
 replace hm:=Ad hm;obtain⟨v0,l113000_0,rfl,hm⟩:=hm
 replace hm:=Ad hm;obtain⟨v1,l113000_1,rfl,hm⟩:=hm
 replace hm:=AC hm;obtain⟨rfl,hm⟩:=hm
 replace hm:=Ai hm;obtain⟨x0,rfl,hm⟩:=hm
 replace hm:=Ai hm;obtain⟨x1,rfl,hm⟩:=hm
 unfold AiW at hm
 refine⟨by simp,?_⟩
 refine .same (F':=(fr 8 [(0,(.agg ⟨[zI x0,.int .u32 x1]⟩))])) (H':=(hT 2 [(.cells Ay true false [])])) (by kernel_rfl) (by kernel_rfl) ?_
 refine .then (.rK (.ghs (fr 8 [(1,(pt 2 0)),(2,(pt 3 0))]) (hT 4 [(.cells Ay true false []),(oC [zI x0,.int .u32 x1]),(oC [(zI (0:Int)),(.slice none 0 0)])]) (.k0 [false,false] [.tmp 1 false,.tmp 2 false] [1,2]) ?_))
 refine .then ?_
 replace hm:=oQS hm;obtain⟨s0,h0,hm⟩:=hm
 refine .reg (eC 3 ((oo (pu 116 [(.agg ⟨[zI x0,.int .u32 x1]⟩)]) none fun v=>some (v,(hT 4 [(.cells Ay true false []),(oC [zI x0,.int .u32 x1]),(oC [(zI (0:Int)),(.slice none 0 0)])])))) (AB h0) (eE)) ?_
 refine .ghs (fr 8 [(2,(pt 2 0))]) (hT 3 [(.cells Ay true false []),(oC [zI x0,Sl.v 1 s0])]) (.k0 [false,false] [.tmp 2 false] [2]) ?_
 refine .ret ?_
 exact Bq (.agg ⟨[zI x0,Sl.v 1 s0]⟩) hm
def Wo (pu:Af) (n:Nat) (z0 z1 z2 z3:Int):OV:=
 (some (.agg ⟨[.int .i64 z2,.int .u32 z3]⟩))
def Yz (pu:Af) (n:Nat) (ih0:Int→Sl→Int→Int→Int→Int→Int→Int→Int→Int→OV) (z0:Int) (s0:Sl) (z1 z2 z3 z4 z5 z6 z7 z8:Int):OV:=
 (bb (AY z2 z1) (oo (EA z2) none fun k1=>(bb (an (Nat.blt k1 (Sl.n s0)) true) (oo (AL (Sl.cs s0) (k1*1)) none fun v0=>(oo (Bi .i64 v0) none fun x0=>(oo (pu 56 [(.agg ⟨[.int .i64 z3,.int .u32 z4]⟩),(.int .i64 (Aj .i64 (Int.mul x0 z0)))]) none fun v1=>(oo (Bi .i64 v1) none fun x1=>(oo (EA x1) none fun k2=>(ih0 z0 s0 z1 (Aj .i64 (Int.add (Int.ofNat k1) (1:Int))) z3 z4 z5 z6 z7 (jF .u32 z8 (QW .u32 (1:Int) k2)))))))) none)) (Wo pu n z5 z6 z7 z8))
def YA (pu:Af) (n w:Nat):Int→Sl→Int→Int→Int→Int→Int→Int→Int→Int→OV:=
 Nat.rec (motive:=fun _=>Int→Sl→Int→Int→Int→Int→Int→Int→Int→Int→OV) (fun _ _ _ _ _ _ _ _ _ _=>none) (fun _ ih0=>Yz pu n ih0) w
def AiX (pu:Af) (n:Nat) (x0 x1 x2:Int):OV:=
 (oo (pu 116 [(.agg ⟨[.int .i64 x0,.int .u32 x1]⟩)]) none fun v0=>(oo (Bj 1 v0) none fun s0=>(YA pu n n x2 s0 (Int.ofNat (Sl.n s0)) (0:Int) x0 x1 (0:Int) (0:Int) x0 (0:Int))))
def m61 (pu:Af) (n:Nat) (args:LV):OV:=
 (ll args none fun a0 args=>(ll args none fun a1 args=>(ll args (oo (Bt a0) none fun l0=>(ll l0 none fun v0 l0=>(ll l0 none fun v1 l0=>(ll l0 (oo (Bi .i64 v0) none fun x0=>(oo (Bi .u32 v1) none fun x1=>(oo (Bi .i64 a1) none fun x2=>(AiX pu n x0 x1 x2)))) fun _ _=>none)))) fun _ _=>none)))
theorem AiY (pu:Af) (n:Nat) (z0 z1 z2 z3:Int) {v:Value} (hm:Wo pu n z0 z1 z2 z3=some v):BN tt (Bb tabs isP pu (inl pu)) 2 X0 (fr 30 [(4,(pt 2 0)),(5,(pt 3 0))]) (hT 4 [(.cells Ay true false []),(oC [zI z0,.int .u32 z1]),(oC [zI z2,.int .u32 z3])]) (Fin tt 2 [.cell 4 99] v):=by
 unfold Wo at hm
 refine .then (.rK (.ghs (fr 30 [(4,(pt 2 0))]) (hT 3 [(.cells Ay true false []),(oC [zI z2,.int .u32 z3])]) (.k0 [false,false] [.tmp 4 false] [4]) ?_))
 refine .ret ?_
 exact Bq (.agg ⟨[zI z2,.int .u32 z3]⟩) hm
theorem r61 {call:A8} (pu:Af) (n:Nat) (hcall:call=Bb tabs isP pu (inl pu)) {args:LV} {v:Value} (hm:m61 pu n args=some v) (_:∀ x∈args,closed2 x=true):args.length≤30∧BN tt call 2 QS (Fr.made 30 args) (Ao tabs) (Fin tt 2 [.cell 4 99] v):=by
 subst hcall
 unfold m61 at hm
 replace hm:=Ad hm;obtain⟨a0,args_0,rfl,hm⟩:=hm
 replace hm:=Ad hm;obtain⟨a1,args_1,rfl,hm⟩:=hm
 replace hm:=AC hm;obtain⟨rfl,hm⟩:=hm
 replace hm:=BG hm;obtain⟨l0,rfl,hm⟩:=hm
 replace hm:=Ad hm;obtain⟨v0,l113016_0,rfl,hm⟩:=hm
 replace hm:=Ad hm;obtain⟨v1,l113016_1,rfl,hm⟩:=hm
 replace hm:=AC hm;obtain⟨rfl,hm⟩:=hm
 replace hm:=Ai hm;obtain⟨x0,rfl,hm⟩:=hm
 replace hm:=Ai hm;obtain⟨x1,rfl,hm⟩:=hm
 replace hm:=Ai hm;obtain⟨x2,rfl,hm⟩:=hm
 unfold AiX at hm
 refine⟨by simp,?_⟩
 refine .same (F':=(fr 30 [(0,(.agg ⟨[zI x0,.int .u32 x1]⟩)),(1,zI x2)])) (H':=(hT 2 [(.cells Ay true false [])])) (by kernel_rfl) (by kernel_rfl) ?_
 refine .then (.rK (.ghs (fr 30 [(1,zI x2),(2,(pt 2 0)),(4,(pt 3 0))]) (hT 4 [(.cells Ay true false []),(oC [zI x0,.int .u32 x1]),(oC [(zI (0:Int)),(.int .u32 (0:Int))])]) (.k0 [false,false] [.tmp 2 false,.tmp 4 false] [1,2,4]) ?_))
 refine .then (.rK (.ghs (fr 30 [(1,zI x2),(2,(pt 2 0)),(4,(pt 3 0)),(5,(pt 4 0))]) (hT 5 [(.cells Ay true false []),(oC [zI x0,.int .u32 x1]),(oC [(zI (0:Int)),(.int .u32 (0:Int))]),(oC [zI x0,(.int .u32 (0:Int))])]) (.k0 [false,false] [.tmp 2 false,.tmp 4 false,.tmp 5 false] [1,2,4,5]) ?_))
 refine .join (v:=v) (fun y:Int×Int×Int×Int=>((fr 30 [(4,(pt 2 0)),(5,(pt 3 0))]),(hT 4 [(.cells Ay true false []),(oC [(zI y.1),(.int .u32 y.2.1)]),(oC [(zI y.2.2.1),(.int .u32 y.2.2.2)])]))) (fun y=>Wo pu n y.1 y.2.1 y.2.2.1 y.2.2.2) ?_ ?_
 ·rintro⟨z0,z1,z2,z3⟩ hm
  exact AiY pu n z0 z1 z2 z3 hm
 ·refine .then ?_
  replace hm:=oQS hm;obtain⟨s0,h0,hm⟩:=hm
  refine .reg (eC 1 ((oo (pu 116 [(.agg ⟨[zI x0,.int .u32 x1]⟩)]) none fun v=>some (v,(hT 5 [(.cells Ay true false []),(oC [zI x0,.int .u32 x1]),(oC [(zI (0:Int)),(.int .u32 (0:Int))]),(oC [zI x0,(.int .u32 (0:Int))])])))) (AB h0) (eE)) ?_
  refine .ghs (fr 30 [(1,zI x2),(2,(pt 2 0)),(4,(pt 3 0)),(5,(pt 4 0)),(12,Sl.v 1 s0),(13,(zI (Int.ofNat (Sl.n s0)))),(14,(zI (0:Int)))]) (hT 5 [(.cells Ay true false []),(oC [zI x0,.int .u32 x1]),(oC [(zI (0:Int)),(.int .u32 (0:Int))]),(oC [zI x0,(.int .u32 (0:Int))])]) (.k0 [false,false] [.tmp 2 false,.tmp 4 false,.tmp 5 false] [1,2,4,5,12,13,14]) ?_
  refine .block (.loopM (v:=v) (fun y:Int×Sl×Int×Int×Int×Int×Int×Int×Int×Int=>((fr 30 [(1,(zI y.1)),(2,(pt 2 0)),(4,(pt 3 0)),(5,(pt 4 0)),(12,(Sl.v 1 y.2.1)),(13,(zI y.2.2.1)),(14,(zI y.2.2.2.1))]),(hT 5 [(.cells Ay true false []),(oC [(zI y.2.2.2.2.1),(.int .u32 y.2.2.2.2.2.1)]),(oC [(zI y.2.2.2.2.2.2.1),(.int .u32 y.2.2.2.2.2.2.2.1)]),(oC [(zI y.2.2.2.2.2.2.2.2.1),(.int .u32 y.2.2.2.2.2.2.2.2.2)])]))) (fun w y=>YA pu n w y.1 y.2.1 y.2.2.1 y.2.2.2.1 y.2.2.2.2.1 y.2.2.2.2.2.1 y.2.2.2.2.2.2.1 y.2.2.2.2.2.2.2.1 y.2.2.2.2.2.2.2.2.1 y.2.2.2.2.2.2.2.2.2) n ⟨(x2,s0,(Int.ofNat (Sl.n s0)),(0:Int),x0,x1,(0:Int),(0:Int),x0,(0:Int)),hm,(.k0 [false,false] [.tmp 2 false,.tmp 4 false,.tmp 5 false] [1,2,4,5,12,13,14])⟩ (fun _=>rfl) ?_)
  rintro w0 ⟨z4,s1,z5,z6,z7,z8,z9,z10,z11,z12⟩ hm
  replace hm:Yz pu n (YA pu n w0) z4 s1 z5 z6 z7 z8 z9 z10 z11 z12=some v:=hm
  unfold Yz at hm
  refine .then (.rK (.ghs (fr 30 [(1,zI z4),(2,(pt 2 0)),(4,(pt 3 0)),(5,(pt 4 0)),(12,Sl.v 1 s1),(13,zI z5),(14,zI z6),(15,(zB (AY z6 z5)))]) (hT 5 [(.cells Ay true false []),(oC [zI z7,.int .u32 z8]),(oC [zI z9,.int .u32 z10]),(oC [zI z11,.int .u32 z12])]) (.k0 [false,false] [.tmp 2 false,.tmp 4 false,.tmp 5 false] [1,2,4,5,12,13,14,15]) ?_))
  refine .then ?_
  replace hm:=Ag hm;rcases hm with⟨h1,hm⟩ | ⟨h1,hm⟩
  ·refine C8 (AY z6 z5) h1 ?_
   refine .skip (.ghs (fr 30 [(1,zI z4),(2,(pt 2 0)),(4,(pt 3 0)),(5,(pt 4 0)),(12,Sl.v 1 s1),(13,zI z5),(14,zI z6)]) (hT 5 [(.cells Ay true false []),(oC [zI z7,.int .u32 z8]),(oC [zI z9,.int .u32 z10]),(oC [zI z11,.int .u32 z12])]) (.k0 [false,false] [.tmp 2 false,.tmp 4 false,.tmp 5 false] [1,2,4,5,12,13,14]) ?_)
   refine .then (.block (.then ?_))
   replace hm:=Ab hm;obtain⟨k1,h2,hm⟩:=hm
   obtain rfl:=AR h2
   replace hm:=Ae hm;obtain⟨h3,hm⟩:=hm
   replace hm:=K6 hm;obtain⟨x3,h4,hm⟩:=hm
   refine .reg (eD (keep (hT 5 [(.cells Ay true false []),(oC [zI z7,.int .u32 z8]),(oC [zI z9,.int .u32 z10]),(oC [zI z11,.int .u32 z12])]) (bb (an (Nat.blt k1 (Sl.n s1)) true) (some (Cv (k1*1) (Sl.cs s1))) none)) (AX h3) (eD (keep (hT 5 [(.cells Ay true false []),(oC [zI z7,.int .u32 z8]),(oC [zI z9,.int .u32 z10]),(oC [zI z11,.int .u32 z12])]) (AL (Sl.cs s1) (k1*1))) (AZ h4) (eE))) ?_
   refine .ghs (fr 30 [(1,zI z4),(2,(pt 2 0)),(4,(pt 3 0)),(5,(pt 4 0)),(7,zI x3),(12,Sl.v 1 s1),(13,zI z5),(14,(zI (Int.ofNat k1)))]) (hT 5 [(.cells Ay true false []),(oC [zI z7,.int .u32 z8]),(oC [zI z9,.int .u32 z10]),(oC [zI z11,.int .u32 z12])]) (.k0 [false,false] [.tmp 2 false,.tmp 4 false,.tmp 5 false] [1,2,4,5,7,12,13,14]) ?_
   replace hm:=K6 hm;obtain⟨x4,h5,hm⟩:=hm
   replace hm:=Ab hm;obtain⟨k2,h6,hm⟩:=hm
   obtain rfl:=AR h6
   refine .reg (eC 6 ((oo (pu 56 [(.agg ⟨[zI z7,.int .u32 z8]⟩),(zI (Aj .i64 (Int.mul x3 z4)))]) none fun v=>some (v,(hT 5 [(.cells Ay true false []),(oC [zI z7,.int .u32 z8]),(oC [zI z9,.int .u32 z10]),(oC [zI z11,.int .u32 z12])])))) (AB h5) (eE)) ?_
   refine .ghs (fr 30 [(1,zI z4),(2,(pt 2 0)),(4,(pt 3 0)),(5,(pt 4 0)),(12,Sl.v 1 s1),(13,zI z5),(14,(zI (Int.ofNat k1)))]) (hT 5 [(.cells Ay true false []),(oC [zI z7,.int .u32 z8]),(oC [zI z9,.int .u32 z10]),(oC [zI z11,(.int .u32 (jF .u32 z12 (QW .u32 (1:Int) k2)))])]) (.k0 [false,false] [.tmp 2 false,.tmp 4 false,.tmp 5 false] [1,2,4,5,12,13,14]) ?_
   refine .rK ?_
   exact⟨(z4,s1,z5,(Aj .i64 (Int.add (Int.ofNat k1) (1:Int))),z7,z8,z9,z10,z11,(jF .u32 z12 (QW .u32 (1:Int) k2))),hm,(.k0 [false,false] [.tmp 2 false,.tmp 4 false,.tmp 5 false] [1,2,4,5,12,13,14])⟩
  ·refine Dn (AY z6 z5) h1 ?_
   refine .exit ?_
   exact⟨(z9,z10,z11,z12),hm,(.k0 [false,false] [.tmp 4 false,.tmp 5 false] [4,5])⟩
def Wp (pu:Af) (n:Nat):OV:=
 (some (.int .i64 (0:Int)))
def YB (pu:Af) (n:Nat) (ih0:Sl→Int→Sl→Int→Int→OV) (s0:Sl) (z0:Int) (s1:Sl) (z1 z2:Int):OV:=
 (bb (AY z2 z1) (oo (EA z2) none fun k1=>(bb (an (Nat.blt k1 (Sl.n s1)) true) (oo (AL (Sl.cs s1) (k1*1)) none fun v0=>(oo (Bi .i64 v0) none fun x0=>(oo (pu 100 [(.int .i64 (0:Int)),.int .i64 x0,(.int .i64 (Aj .i64 (Int.sub (Int.ofNat (Sl.n s0)) (1:Int))))]) none fun v1=>(oo (Bf v1) none fun b0=>(bb (nt b0) (some (.int .i64 (2:Int))) (oo (EA x0) none fun k2=>(bb (Bd (Np .u16 (G6 .u16 z0 k2) (1:Int)) (1:Int)) (some (.int .i64 (6:Int))) (ih0 s0 (jF .u16 z0 (QW .u16 (1:Int) k2)) s1 z1 (Aj .i64 (Int.add (Int.ofNat k1) (1:Int))))))))))) none)) (Wp pu n))
def YC (pu:Af) (n w:Nat):Sl→Int→Sl→Int→Int→OV:=
 Nat.rec (motive:=fun _=>Sl→Int→Sl→Int→Int→OV) (fun _ _ _ _ _=>none) (fun _ ih0=>YB pu n ih0) w
def AiZ (pu:Af) (n:Nat) (s0:Sl):OV:=
 (bb (Bd (Int.ofNat (Sl.n s0)) (0:Int)) (some (.int .i64 (4:Int))) (bb (AY (10:Int) (Int.ofNat (Sl.n s0))) (some (.int .i64 (3:Int))) (YC pu n n s0 (0:Int) s0 (Int.ofNat (Sl.n s0)) (0:Int))))
def m76 (pu:Af) (n:Nat) (args:LV):OV:=
 (ll args none fun a0 args=>(ll args (oo (Bj 1 a0) none fun s0=>(AiZ pu n s0)) fun _ _=>none))
theorem Ai0 (pu:Af) (n:Nat) {v:Value} (hm:Wp pu n=some v):BN tt (Bb tabs isP pu (inl pu)) 2 X3 (fr 39 []) (hT 2 [(.cells Ay true false [])]) (Fin tt 2 [.tmp 2] v):=by
 unfold Wp at hm
 refine .then (.rK (.ghs (fr 39 [(2,(zI (0:Int)))]) (hT 2 [(.cells Ay true false [])]) (.k0 [false,false] [] [2]) ?_))
 refine .ret ?_
 exact Bq (zI (0:Int)) hm
theorem r76 {call:A8} (pu:Af) (n:Nat) (hcall:call=Bb tabs isP pu (inl pu)) {args:LV} {v:Value} (hm:m76 pu n args=some v) (_:∀ x∈args,closed2 x=true):args.length≤39∧BN tt call 2 RO (Fr.made 39 args) (Ao tabs) (Fin tt 2 [.tmp 2] v):=by
 subst hcall
 unfold m76 at hm
 replace hm:=Ad hm;obtain⟨a0,args_0,rfl,hm⟩:=hm
 replace hm:=AC hm;obtain⟨rfl,hm⟩:=hm
 replace hm:=Al hm;obtain⟨s0,rfl,hm⟩:=hm
 unfold AiZ at hm
 refine⟨by simp,?_⟩
 refine .same (F':=(fr 39 [(0,Sl.v 1 s0)])) (H':=(hT 2 [(.cells Ay true false [])])) (by kernel_rfl) (by kernel_rfl) ?_
 refine .then (.rK (.ghs (fr 39 [(0,Sl.v 1 s0)]) (hT 2 [(.cells Ay true false [])]) (.k0 [false,false] [] [0]) ?_))
 refine .then (.then (.rK (.ghs (fr 39 [(0,Sl.v 1 s0),(3,(zI (Int.ofNat (Sl.n s0))))]) (hT 2 [(.cells Ay true false [])]) (.k0 [false,false] [] [0,3]) ?_)))
 refine .block (.then (.rK (.ghs (fr 39 [(0,Sl.v 1 s0),(3,(zI (Int.ofNat (Sl.n s0)))),(9,(zB (Bd (Int.ofNat (Sl.n s0)) (0:Int))))]) (hT 2 [(.cells Ay true false [])]) (.k0 [false,false] [] [0,3,9]) ?_)))
 replace hm:=Ag hm;rcases hm with⟨h0,hm⟩ | ⟨h0,hm⟩
 ·refine C8 (Bd (Int.ofNat (Sl.n s0)) (0:Int)) h0 ?_
  refine .then (.rK (.ghs (fr 39 [(2,(zI (4:Int)))]) (hT 2 [(.cells Ay true false [])]) (.k0 [false,false] [] [2]) ?_))
  refine .ret ?_
  exact Bq (zI (4:Int)) hm
 ·refine Dn (Bd (Int.ofNat (Sl.n s0)) (0:Int)) h0 ?_
  refine .then (.rK (.ghs (fr 39 [(0,Sl.v 1 s0),(12,(zB (AY (10:Int) (Int.ofNat (Sl.n s0)))))]) (hT 2 [(.cells Ay true false [])]) (.k0 [false,false] [] [0,12]) ?_))
  replace hm:=Ag hm;rcases hm with⟨h1,hm⟩ | ⟨h1,hm⟩
  ·refine C8 (AY (10:Int) (Int.ofNat (Sl.n s0))) h1 ?_
   refine .then (.rK (.ghs (fr 39 [(2,(zI (3:Int)))]) (hT 2 [(.cells Ay true false [])]) (.k0 [false,false] [] [2]) ?_))
   refine .ret ?_
   exact Bq (zI (3:Int)) hm
  ·refine Dn (AY (10:Int) (Int.ofNat (Sl.n s0))) h1 ?_
   refine .skip (.ghs (fr 39 [(0,Sl.v 1 s0)]) (hT 2 [(.cells Ay true false [])]) (.k0 [false,false] [] [0]) ?_)
   refine .then (.rK (.ghs (fr 39 [(0,Sl.v 1 s0),(4,(.int .u16 (0:Int)))]) (hT 2 [(.cells Ay true false [])]) (.k0 [false,false] [] [0,4]) ?_))
   refine .join (v:=v) (fun y:Unit=>((fr 39 []),(hT 2 [(.cells Ay true false [])]))) (fun y=>Wp pu n) ?_ ?_
   ·rintro _ hm
    exact Ai0 pu n hm
   ·refine .then (.rK (.ghs (fr 39 [(0,Sl.v 1 s0),(4,(.int .u16 (0:Int))),(15,Sl.v 1 s0),(16,(zI (Int.ofNat (Sl.n s0)))),(17,(zI (0:Int)))]) (hT 2 [(.cells Ay true false [])]) (.k0 [false,false] [] [0,4,15,16,17]) ?_))
    refine .block (.loopM (v:=v) (fun y:Sl×Int×Sl×Int×Int=>((fr 39 [(0,(Sl.v 1 y.1)),(4,(.int .u16 y.2.1)),(15,(Sl.v 1 y.2.2.1)),(16,(zI y.2.2.2.1)),(17,(zI y.2.2.2.2))]),(hT 2 [(.cells Ay true false [])]))) (fun w y=>YC pu n w y.1 y.2.1 y.2.2.1 y.2.2.2.1 y.2.2.2.2) n ⟨(s0,(0:Int),s0,(Int.ofNat (Sl.n s0)),(0:Int)),hm,(.k0 [false,false] [] [0,4,15,16,17])⟩ (fun _=>rfl) ?_)
    rintro w0 ⟨s1,z0,s2,z1,z2⟩ hm
    replace hm:YB pu n (YC pu n w0) s1 z0 s2 z1 z2=some v:=hm
    unfold YB at hm
    refine .then (.rK (.ghs (fr 39 [(0,Sl.v 1 s1),(4,.int .u16 z0),(15,Sl.v 1 s2),(16,zI z1),(17,zI z2),(18,(zB (AY z2 z1)))]) (hT 2 [(.cells Ay true false [])]) (.k0 [false,false] [] [0,4,15,16,17,18]) ?_))
    refine .then ?_
    replace hm:=Ag hm;rcases hm with⟨h2,hm⟩ | ⟨h2,hm⟩
    ·refine C8 (AY z2 z1) h2 ?_
     refine .skip (.ghs (fr 39 [(0,Sl.v 1 s1),(4,.int .u16 z0),(15,Sl.v 1 s2),(16,zI z1),(17,zI z2)]) (hT 2 [(.cells Ay true false [])]) (.k0 [false,false] [] [0,4,15,16,17]) ?_)
     refine .then (.block (.then ?_))
     replace hm:=Ab hm;obtain⟨k1,h3,hm⟩:=hm
     obtain rfl:=AR h3
     replace hm:=Ae hm;obtain⟨h4,hm⟩:=hm
     replace hm:=K6 hm;obtain⟨x0,h5,hm⟩:=hm
     refine .reg (eD (keep (hT 2 [(.cells Ay true false [])]) (bb (an (Nat.blt k1 (Sl.n s2)) true) (some (Cv (k1*1) (Sl.cs s2))) none)) (AX h4) (eD (keep (hT 2 [(.cells Ay true false [])]) (AL (Sl.cs s2) (k1*1))) (AZ h5) (eE))) ?_
     refine .ghs (fr 39 [(0,Sl.v 1 s1),(4,.int .u16 z0),(6,zI x0),(15,Sl.v 1 s2),(16,zI z1),(17,(zI (Int.ofNat k1)))]) (hT 2 [(.cells Ay true false [])]) (.k0 [false,false] [] [0,4,6,15,16,17]) ?_
     refine .then (.block (.then ?_))
     replace hm:=Yn hm;obtain⟨b0,h6,hm⟩:=hm
     refine .reg (eC 4 ((oo (pu 100 [(zI (0:Int)),zI x0,(zI (Aj .i64 (Int.sub (Int.ofNat (Sl.n s1)) (1:Int))))]) none fun v=>some (v,(hT 2 [(.cells Ay true false [])])))) (AB h6) (eE)) ?_
     refine .ghs (fr 39 [(0,Sl.v 1 s1),(4,.int .u16 z0),(6,zI x0),(15,Sl.v 1 s2),(16,zI z1),(17,(zI (Int.ofNat k1))),(21,(zB (nt b0)))]) (hT 2 [(.cells Ay true false [])]) (.k0 [false,false] [] [0,4,6,15,16,17,21]) ?_
     replace hm:=Ag hm;rcases hm with⟨h7,hm⟩ | ⟨h7,hm⟩
     ·refine C8 (nt b0) h7 ?_
      refine .then (.rK (.ghs (fr 39 [(2,(zI (2:Int)))]) (hT 2 [(.cells Ay true false [])]) (.k0 [false,false] [] [2]) ?_))
      refine .ret ?_
      exact Bq (zI (2:Int)) hm
     ·refine Dn (nt b0) h7 ?_
      refine .then ?_
      replace hm:=Ab hm;obtain⟨k2,h8,hm⟩:=hm
      obtain rfl:=AR h8
      refine .rK (.ghs (fr 39 [(0,Sl.v 1 s1),(4,.int .u16 z0),(6,(zI (Int.ofNat k2))),(15,Sl.v 1 s2),(16,zI z1),(17,(zI (Int.ofNat k1))),(28,(zB (Bd (Np .u16 (G6 .u16 z0 k2) (1:Int)) (1:Int))))]) (hT 2 [(.cells Ay true false [])]) (.k0 [false,false] [] [0,4,6,15,16,17,28]) ?_)
      replace hm:=Ag hm;rcases hm with⟨h9,hm⟩ | ⟨h9,hm⟩
      ·refine C8 (Bd (Np .u16 (G6 .u16 z0 k2) (1:Int)) (1:Int)) h9 ?_
       refine .then (.rK (.ghs (fr 39 [(2,(zI (6:Int)))]) (hT 2 [(.cells Ay true false [])]) (.k0 [false,false] [] [2]) ?_))
       refine .ret ?_
       exact Bq (zI (6:Int)) hm
      ·refine Dn (Bd (Np .u16 (G6 .u16 z0 k2) (1:Int)) (1:Int)) h9 ?_
       refine .skip (.ghs (fr 39 [(0,Sl.v 1 s1),(4,.int .u16 z0),(6,(zI (Int.ofNat k2))),(15,Sl.v 1 s2),(16,zI z1),(17,(zI (Int.ofNat k1)))]) (hT 2 [(.cells Ay true false [])]) (.k0 [false,false] [] [0,4,6,15,16,17]) ?_)
       refine .rK (.ghs (fr 39 [(0,Sl.v 1 s1),(4,(.int .u16 (jF .u16 z0 (QW .u16 (1:Int) k2)))),(15,Sl.v 1 s2),(16,zI z1),(17,(zI (Int.ofNat k1)))]) (hT 2 [(.cells Ay true false [])]) (.k0 [false,false] [] [0,4,15,16,17]) ?_)
       refine .rK ?_
       exact⟨(s1,(jF .u16 z0 (QW .u16 (1:Int) k2)),s2,z1,(Aj .i64 (Int.add (Int.ofNat k1) (1:Int)))),hm,(.k0 [false,false] [] [0,4,15,16,17])⟩
    ·refine Dn (AY z2 z1) h2 ?_
     refine .exit ?_
     exact⟨(),hm,(.k0 [false,false] [] [])⟩

def Ai1 (pu:Af) (n:Nat) (x0:Int):OV:=
 (oo (pu 137 [.int .u64 x0]) none fun v0=>(oo (Bi .i64 v0) none fun x1=>(some (.int .i64 x1))))
def m82 (pu:Af) (n:Nat) (args:LV):OV:=
 (ll args none fun a0 args=>(ll args (oo (Bi .u64 a0) none fun x0=>(Ai1 pu n x0)) fun _ _=>none))
theorem r82 {call:A8} (pu:Af) (n:Nat) (hcall:call=Bb tabs isP pu (inl pu)) {args:LV} {v:Value} (hm:m82 pu n args=some v) (_:∀ x∈args,closed2 x=true):args.length≤8∧BN tt call 2 UV (Fr.made 8 args) (Ao tabs) (Fin tt 2 [.tmp 2] v):=by
 subst hcall
 unfold m82 at hm
 replace hm:=Ad hm;obtain⟨a0,args_0,rfl,hm⟩:=hm
 replace hm:=AC hm;obtain⟨rfl,hm⟩:=hm
 replace hm:=Ai hm;obtain⟨x0,rfl,hm⟩:=hm
 unfold Ai1 at hm
 refine⟨by simp,?_⟩
 refine .same (F':=(fr 8 [(0,(zU x0))])) (H':=(hT 2 [(.cells Ay true false [])])) (by kernel_rfl) (by kernel_rfl) ?_
 refine .then (.rK (.ghs (fr 8 [(0,(zU x0))]) (hT 2 [(.cells Ay true false [])]) (.k0 [false,false] [] [0]) ?_))
 refine .then (.condF (by kernel_rfl) ?_)
 refine .skip (.ghs (fr 8 [(0,(zU x0))]) (hT 2 [(.cells Ay true false [])]) (.k0 [false,false] [] [0]) ?_)
 refine .then ?_
 replace hm:=K6 hm;obtain⟨x1,h0,hm⟩:=hm
 refine .reg (eC 1 ((oo (pu 137 [(zU x0)]) none fun v=>some (v,(hT 2 [(.cells Ay true false [])])))) (AB h0) (eE)) ?_
 refine .ghs (fr 8 [(2,zI x1)]) (hT 2 [(.cells Ay true false [])]) (.k0 [false,false] [] [2]) ?_
 refine .ret ?_
 exact Bq (zI x1) hm

def Ai2 (pu:Af) (n:Nat) (x0:Int):OV:=
 (oo (pu 100 [(.int .i64 (2:Int)),.int .i64 x0,(.int .i64 (10:Int))]) none fun v0=>(oo (Bf v0) none fun b0=>(bb (nt b0) (some (.int .i64 (1:Int))) (bb (Bd (Int.tmod x0 (2:Int)) (1:Int)) (some (.int .i64 (5:Int))) (some (.int .i64 (0:Int)))))))
def m99 (pu:Af) (n:Nat) (args:LV):OV:=
 (ll args none fun a0 args=>(ll args (oo (Bi .i64 a0) none fun x0=>(Ai2 pu n x0)) fun _ _=>none))
theorem r99 {call:A8} (pu:Af) (n:Nat) (hcall:call=Bb tabs isP pu (inl pu)) {args:LV} {v:Value} (hm:m99 pu n args=some v) (_:∀ x∈args,closed2 x=true):args.length≤11∧BN tt call 2 RP (Fr.made 11 args) (Ao tabs) (Fin tt 2 [.tmp 2] v):=by
 subst hcall
 unfold m99 at hm
 replace hm:=Ad hm;obtain⟨a0,args_0,rfl,hm⟩:=hm
 replace hm:=AC hm;obtain⟨rfl,hm⟩:=hm
 replace hm:=Ai hm;obtain⟨x0,rfl,hm⟩:=hm
 unfold Ai2 at hm
 refine⟨by simp,?_⟩
 refine .same (F':=(fr 11 [(0,zI x0)])) (H':=(hT 2 [(.cells Ay true false [])])) (by kernel_rfl) (by kernel_rfl) ?_
 refine .then (.rK (.ghs (fr 11 [(0,zI x0)]) (hT 2 [(.cells Ay true false [])]) (.k0 [false,false] [] [0]) ?_))
 refine .then (.block (.then ?_))
 replace hm:=Yn hm;obtain⟨b0,h0,hm⟩:=hm
 refine .reg (eC 1 ((oo (pu 100 [(zI (2:Int)),zI x0,(zI (10:Int))]) none fun v=>some (v,(hT 2 [(.cells Ay true false [])])))) (AB h0) (eE)) ?_
 refine .ghs (fr 11 [(0,zI x0),(3,(zB (nt b0)))]) (hT 2 [(.cells Ay true false [])]) (.k0 [false,false] [] [0,3]) ?_
 replace hm:=Ag hm;rcases hm with⟨h1,hm⟩ | ⟨h1,hm⟩
 ·refine C8 (nt b0) h1 ?_
  refine .then (.rK (.ghs (fr 11 [(2,(zI (1:Int)))]) (hT 2 [(.cells Ay true false [])]) (.k0 [false,false] [] [2]) ?_))
  refine .ret ?_
  exact Bq (zI (1:Int)) hm
 ·refine Dn (nt b0) h1 ?_
  refine .then (.rK (.ghs (fr 11 [(7,(zB (Bd (Int.tmod x0 (2:Int)) (1:Int))))]) (hT 2 [(.cells Ay true false [])]) (.k0 [false,false] [] [7]) ?_))
  replace hm:=Ag hm;rcases hm with⟨h2,hm⟩ | ⟨h2,hm⟩
  ·refine C8 (Bd (Int.tmod x0 (2:Int)) (1:Int)) h2 ?_
   refine .then (.rK (.ghs (fr 11 [(2,(zI (5:Int)))]) (hT 2 [(.cells Ay true false [])]) (.k0 [false,false] [] [2]) ?_))
   refine .ret ?_
   exact Bq (zI (5:Int)) hm
  ·refine Dn (Bd (Int.tmod x0 (2:Int)) (1:Int)) h2 ?_
   refine .skip (.ghs (fr 11 []) (hT 2 [(.cells Ay true false [])]) (.k0 [false,false] [] []) ?_)
   refine .then (.rK (.ghs (fr 11 [(2,(zI (0:Int)))]) (hT 2 [(.cells Ay true false [])]) (.k0 [false,false] [] [2]) ?_))
   refine .ret ?_
   exact Bq (zI (0:Int)) hm
def OG (pu:Af) (n:Nat) (b0:Bool):OV:=
 (some (.bool b0))
def vH (pu:Af) (n:Nat) (x0 x1 x2:Int):OV:=
 (bb (nt (AY x1 x0)) (OG pu n (nt (AY x2 x1))) (OG pu n false))
def rO (pu:Af) (n:Nat) (args:LV):OV:=
 (ll args none fun a0 args=>(ll args none fun a1 args=>(ll args none fun a2 args=>(ll args (oo (Bi .i64 a0) none fun x0=>(oo (Bi .i64 a1) none fun x1=>(oo (Bi .i64 a2) none fun x2=>(vH pu n x0 x1 x2)))) fun _ _=>none))))
theorem AbC (pu:Af) (n:Nat) (b0:Bool) {v:Value} (hm:OG pu n b0=some v):BN tt (Bb tabs isP pu (inl pu)) 2 .ret (fr 15 [(6,zB b0)]) (hT 2 [(.cells Ay true false [])]) (Fin tt 2 [.tmp 6] v):=by
 unfold OG at hm
 refine .ret ?_
 exact Bq (zB b0) hm
theorem Alz {call:A8} (pu:Af) (n:Nat) (hcall:call=Bb tabs isP pu (inl pu)) {args:LV} {v:Value} (hm:rO pu n args=some v) (_:∀ x∈args,closed2 x=true):args.length≤15∧BN tt call 2 RQ (Fr.made 15 args) (Ao tabs) (Fin tt 2 [.tmp 6] v):=by
 subst hcall
 unfold rO at hm
 replace hm:=Ad hm;obtain⟨a0,args_0,rfl,hm⟩:=hm
 replace hm:=Ad hm;obtain⟨a1,args_1,rfl,hm⟩:=hm
 replace hm:=Ad hm;obtain⟨a2,args_2,rfl,hm⟩:=hm
 replace hm:=AC hm;obtain⟨rfl,hm⟩:=hm
 replace hm:=Ai hm;obtain⟨x0,rfl,hm⟩:=hm
 replace hm:=Ai hm;obtain⟨x1,rfl,hm⟩:=hm
 replace hm:=Ai hm;obtain⟨x2,rfl,hm⟩:=hm
 unfold vH at hm
 refine⟨by simp,?_⟩
 refine .same (F':=(fr 15 [(0,zI x0),(1,zI x1),(2,zI x2)])) (H':=(hT 2 [(.cells Ay true false [])])) (by kernel_rfl) (by kernel_rfl) ?_
 refine .then (.rK (.ghs (fr 15 [(0,zI x0),(1,zI x1),(2,zI x2)]) (hT 2 [(.cells Ay true false [])]) (.k0 [false,false] [] [0,1,2]) ?_))
 refine .join (v:=v) (fun y:Bool=>((fr 15 [(6,zB y)]),(hT 2 [(.cells Ay true false [])]))) (fun y=>OG pu n y) ?_ ?_
 ·rintro b0 hm
  exact AbC pu n b0 hm
 ·replace hm:=Ag hm;rcases hm with⟨h0,hm⟩ | ⟨h0,hm⟩
  ·refine .reg (eC 2 (some ((zB (nt (AY x1 x0))),(hT 2 [(.cells Ay true false [])]))) (show _=some ((zB true),_) from (by rw[show (nt (AY x1 x0))=true from h0])) (eE)) ?_
   exact⟨(nt (AY x2 x1)),hm,(.k0 [false,false] [] [6])⟩
  ·refine .reg (eC 2 (some ((zB (nt (AY x1 x0))),(hT 2 [(.cells Ay true false [])]))) (show _=some ((zB false),_) from (by rw[show (nt (AY x1 x0))=false from h0])) (eE)) ?_
   exact⟨false,hm,(.k0 [false,false] [] [6])⟩

def vI (pu:Af) (n:Nat) (x0 x1 x2:Int):OV:=
 (bb (AY x2 (Aj .i64 (Int.tdiv x0 (2:Int)))) (some (.int .i64 (Aj .i64 (Int.add (Aj .i64 (Int.mul (2:Int) x2)) x1)))) (some (.int .i64 (Aj .i64 (Int.sub (Aj .i64 (Int.add (Aj .i64 (Int.mul (2:Int) (Aj .i64 (Int.sub x2 (Aj .i64 (Int.tdiv x0 (2:Int))))))) (1:Int))) x1)))))
def rP (pu:Af) (n:Nat) (args:LV):OV:=
 (ll args none fun a0 args=>(ll args none fun a1 args=>(ll args none fun a2 args=>(ll args (oo (Bi .i64 a0) none fun x0=>(oo (Bi .i64 a1) none fun x1=>(oo (Bi .i64 a2) none fun x2=>(vI pu n x0 x1 x2)))) fun _ _=>none))))
theorem AlA {call:A8} (pu:Af) (n:Nat) (hcall:call=Bb tabs isP pu (inl pu)) {args:LV} {v:Value} (hm:rP pu n args=some v) (_:∀ x∈args,closed2 x=true):args.length≤24∧BN tt call 2 MG (Fr.made 24 args) (Ao tabs) (Fin tt 2 [.tmp 6] v):=by
 subst hcall
 unfold rP at hm
 replace hm:=Ad hm;obtain⟨a0,args_0,rfl,hm⟩:=hm
 replace hm:=Ad hm;obtain⟨a1,args_1,rfl,hm⟩:=hm
 replace hm:=Ad hm;obtain⟨a2,args_2,rfl,hm⟩:=hm
 replace hm:=AC hm;obtain⟨rfl,hm⟩:=hm
 replace hm:=Ai hm;obtain⟨x0,rfl,hm⟩:=hm
 replace hm:=Ai hm;obtain⟨x1,rfl,hm⟩:=hm
 replace hm:=Ai hm;obtain⟨x2,rfl,hm⟩:=hm
 unfold vI at hm
 refine⟨by simp,?_⟩
 refine .same (F':=(fr 24 [(0,zI x0),(1,zI x1),(2,zI x2)])) (H':=(hT 2 [(.cells Ay true false [])])) (by kernel_rfl) (by kernel_rfl) ?_
 refine .then (.rK (.ghs (fr 24 [(0,zI x0),(1,zI x1),(2,zI x2)]) (hT 2 [(.cells Ay true false [])]) (.k0 [false,false] [] [0,1,2]) ?_))
 refine .then (.rK (.ghs (fr 24 [(1,zI x1),(2,zI x2),(7,(zI (Aj .i64 (Int.tdiv x0 (2:Int)))))]) (hT 2 [(.cells Ay true false [])]) (.k0 [false,false] [] [1,2,7]) ?_))
 refine .then (.then (.rK (.ghs (fr 24 [(1,zI x1),(2,zI x2),(7,(zI (Aj .i64 (Int.tdiv x0 (2:Int))))),(12,(zB (AY x2 (Aj .i64 (Int.tdiv x0 (2:Int))))))]) (hT 2 [(.cells Ay true false [])]) (.k0 [false,false] [] [1,2,7,12]) ?_)))
 replace hm:=Ag hm;rcases hm with⟨h0,hm⟩ | ⟨h0,hm⟩
 ·refine C8 (AY x2 (Aj .i64 (Int.tdiv x0 (2:Int)))) h0 ?_
  refine .then (.rK (.ghs (fr 24 [(6,(zI (Aj .i64 (Int.add (Aj .i64 (Int.mul (2:Int) x2)) x1))))]) (hT 2 [(.cells Ay true false [])]) (.k0 [false,false] [] [6]) ?_))
  refine .ret ?_
  exact Bq (zI (Aj .i64 (Int.add (Aj .i64 (Int.mul (2:Int) x2)) x1))) hm
 ·refine Dn (AY x2 (Aj .i64 (Int.tdiv x0 (2:Int)))) h0 ?_
  refine .skip (.ghs (fr 24 [(1,zI x1),(2,zI x2),(7,(zI (Aj .i64 (Int.tdiv x0 (2:Int)))))]) (hT 2 [(.cells Ay true false [])]) (.k0 [false,false] [] [1,2,7]) ?_)
  refine .then (.rK (.ghs (fr 24 [(6,(zI (Aj .i64 (Int.sub (Aj .i64 (Int.add (Aj .i64 (Int.mul (2:Int) (Aj .i64 (Int.sub x2 (Aj .i64 (Int.tdiv x0 (2:Int))))))) (1:Int))) x1))))]) (hT 2 [(.cells Ay true false [])]) (.k0 [false,false] [] [6]) ?_))
  refine .ret ?_
  exact Bq (zI (Aj .i64 (Int.sub (Aj .i64 (Int.add (Aj .i64 (Int.mul (2:Int) (Aj .i64 (Int.sub x2 (Aj .i64 (Int.tdiv x0 (2:Int))))))) (1:Int))) x1))) hm
def R8 (pu:Af) (n:Nat):OV:=
 (some (.bool true))
def R9 (pu:Af) (n:Nat) (ih0:Int→Int→Int→OV) (z0 z1 z2:Int) (b0:Bool):OV:=
 (bb b0 (some (.bool false)) (ih0 z0 z1 (Aj .i64 (Int.add z2 (1:Int)))))
def Uz (pu:Af) (n:Nat) (ih0:Int→Int→Int→OV) (z0 z1 z2:Int):OV:=
 (bb (nt (AY (bb (AY z1 z0) z1 z0) z2)) (bb (nt (Bd z2 (0:Int))) (bb (Bd (Int.tmod z0 z2) (0:Int)) (bb (nt (Bd z2 (0:Int))) (R9 pu n ih0 z0 z1 z2 (Bd (Int.tmod z1 z2) (0:Int))) none) (R9 pu n ih0 z0 z1 z2 false)) none) (R8 pu n))
def Sa (pu:Af) (n w:Nat):Int→Int→Int→OV:=
 Nat.rec (motive:=fun _=>Int→Int→Int→OV) (fun _ _ _=>none) (fun _ ih0=>Uz pu n ih0) w
def vJ (pu:Af) (n:Nat) (x0 x1:Int):OV:=
 (Sa pu n n x0 x1 (2:Int))
def rQ (pu:Af) (n:Nat) (args:LV):OV:=
 (ll args none fun a0 args=>(ll args none fun a1 args=>(ll args (oo (Bi .i64 a0) none fun x0=>(oo (Bi .i64 a1) none fun x1=>(vJ pu n x0 x1))) fun _ _=>none)))
theorem AbD (pu:Af) (n:Nat) {v:Value} (hm:R8 pu n=some v):BN tt (Bb tabs isP pu (inl pu)) 2 UW (fr 23 []) (hT 2 [(.cells Ay true false [])]) (Fin tt 2 [.tmp 4] v):=by
 unfold R8 at hm
 refine .then (.rK (.ghs (fr 23 [(4,zB true)]) (hT 2 [(.cells Ay true false [])]) (.k0 [false,false] [] [4]) ?_))
 refine .ret ?_
 exact Bq (zB true) hm
theorem AlB {call:A8} (pu:Af) (n:Nat) (hcall:call=Bb tabs isP pu (inl pu)) {args:LV} {v:Value} (hm:rQ pu n args=some v) (_:∀ x∈args,closed2 x=true):args.length≤23∧BN tt call 2 MH (Fr.made 23 args) (Ao tabs) (Fin tt 2 [.tmp 4] v):=by
 subst hcall
 unfold rQ at hm
 replace hm:=Ad hm;obtain⟨a0,args_0,rfl,hm⟩:=hm
 replace hm:=Ad hm;obtain⟨a1,args_1,rfl,hm⟩:=hm
 replace hm:=AC hm;obtain⟨rfl,hm⟩:=hm
 replace hm:=Ai hm;obtain⟨x0,rfl,hm⟩:=hm
 replace hm:=Ai hm;obtain⟨x1,rfl,hm⟩:=hm
 unfold vJ at hm
 refine⟨by simp,?_⟩
 refine .same (F':=(fr 23 [(0,zI x0),(1,zI x1)])) (H':=(hT 2 [(.cells Ay true false [])])) (by kernel_rfl) (by kernel_rfl) ?_
 refine .then (.rK (.ghs (fr 23 [(0,zI x0),(1,zI x1)]) (hT 2 [(.cells Ay true false [])]) (.k0 [false,false] [] [0,1]) ?_))
 refine .join (v:=v) (fun y:Unit=>((fr 23 []),(hT 2 [(.cells Ay true false [])]))) (fun y=>R8 pu n) ?_ ?_
 ·rintro _ hm
  exact AbD pu n hm
 ·refine .then (.rK (.ghs (fr 23 [(0,zI x0),(1,zI x1),(5,(zI (2:Int)))]) (hT 2 [(.cells Ay true false [])]) (.k0 [false,false] [] [0,1,5]) ?_))
  refine .block (.loopM (v:=v) (fun y:Int×Int×Int=>((fr 23 [(0,(zI y.1)),(1,(zI y.2.1)),(5,(zI y.2.2))]),(hT 2 [(.cells Ay true false [])]))) (fun w y=>Sa pu n w y.1 y.2.1 y.2.2) n ⟨(x0,x1,(2:Int)),hm,(.k0 [false,false] [] [0,1,5])⟩ (fun _=>rfl) ?_)
  rintro w0 ⟨z0,z1,z2⟩ hm
  replace hm:Uz pu n (Sa pu n w0) z0 z1 z2=some v:=hm
  unfold Uz at hm
  refine .then (.then (.rK (.ghs (fr 23 [(0,zI z0),(1,zI z1),(5,zI z2),(10,(zB (nt (AY (bb (AY z1 z0) z1 z0) z2))))]) (hT 2 [(.cells Ay true false [])]) (.k0 [false,false] [] [0,1,5,10]) ?_)))
  replace hm:=Ag hm;rcases hm with⟨h0,hm⟩ | ⟨h0,hm⟩
  ·refine C8 (nt (AY (bb (AY z1 z0) z1 z0) z2)) h0 ?_
   refine .skip (.ghs (fr 23 [(0,zI z0),(1,zI z1),(5,zI z2)]) (hT 2 [(.cells Ay true false [])]) (.k0 [false,false] [] [0,1,5]) ?_)
   refine .then (.block (.join (v:=v) (fun y:Int×Int×Int×Bool=>((fr 23 [(0,(zI y.1)),(1,(zI y.2.1)),(5,(zI y.2.2.1)),(22,(zB y.2.2.2))]),(hT 2 [(.cells Ay true false [])]))) (fun y=>R9 pu n (Sa pu n w0) y.1 y.2.1 y.2.2.1 y.2.2.2) ?_ ?_))
   ·rintro⟨z3,z4,z5,b0⟩ hm
    unfold R9 at hm
    replace hm:=Ag hm;rcases hm with⟨h1,hm⟩ | ⟨h1,hm⟩
    ·refine .ifT b0 (by kernel_rfl) h1 ?_
     refine .then (.rK (.ghs (fr 23 [(4,zB false)]) (hT 2 [(.cells Ay true false [])]) (.k0 [false,false] [] [4]) ?_))
     refine .ret ?_
     exact Bq (zB false) hm
    ·refine .ifF b0 (by kernel_rfl) h1 ?_
     refine .skip (.ghs (fr 23 [(0,zI z3),(1,zI z4),(5,zI z5)]) (hT 2 [(.cells Ay true false [])]) (.k0 [false,false] [] [0,1,5]) ?_)
     refine .rK ?_
     exact⟨(z3,z4,(Aj .i64 (Int.add z5 (1:Int)))),hm,(.k0 [false,false] [] [0,1,5])⟩
   ·replace hm:=Ae hm;obtain⟨h2,hm⟩:=hm
    replace hm:=Ag hm;rcases hm with⟨h3,hm⟩ | ⟨h3,hm⟩
    ·replace hm:=Ae hm;obtain⟨h4,hm⟩:=hm
     refine .reg (eC 2 (keep (hT 2 [(.cells Ay true false [])]) (bb (Bd z2 (0:Int)) none (some (zI (Int.tmod z0 z2))))) (XH h2) (eD (some ((zB (Bd (Int.tmod z0 z2) (0:Int))),(hT 2 [(.cells Ay true false [])]))) (show _=some ((zB true),_) from (by rw[show (Bd (Int.tmod z0 z2) (0:Int))=true from h3])) (eC 3 (keep (hT 2 [(.cells Ay true false [])]) (bb (Bd z2 (0:Int)) none (some (zI (Int.tmod z1 z2))))) (XH h4) (eE)))) ?_
     exact⟨(z0,z1,z2,(Bd (Int.tmod z1 z2) (0:Int))),hm,(.k0 [false,false] [] [0,1,5,22])⟩
    ·refine .reg (eC 2 (keep (hT 2 [(.cells Ay true false [])]) (bb (Bd z2 (0:Int)) none (some (zI (Int.tmod z0 z2))))) (XH h2) (eD (some ((zB (Bd (Int.tmod z0 z2) (0:Int))),(hT 2 [(.cells Ay true false [])]))) (show _=some ((zB false),_) from (by rw[show (Bd (Int.tmod z0 z2) (0:Int))=false from h3])) (eE))) ?_
     exact⟨(z0,z1,z2,false),hm,(.k0 [false,false] [] [0,1,5,22])⟩
  ·refine Dn (nt (AY (bb (AY z1 z0) z1 z0) z2)) h0 ?_
   refine .exit ?_
   exact⟨(),hm,(.k0 [false,false] [] [])⟩
def Sb (pu:Af) (n:Nat):OV:=
 (some (.int .i64 (0:Int)))
def Sc (pu:Af) (n:Nat) (ih0:Int→Sl→Int→Int→Int→Sl→OV) (z0 z1:Int) (s0:Sl) (z2 z3:Int) (b0:Bool) (z4:Int) (s1:Sl):OV:=
 (bb b0 (some (.int .i64 (2:Int))) (bb (nt (AY z0 z1)) (some (.int .i64 (7:Int))) (ih0 z1 s0 z2 (Aj .i64 (Int.add z3 (1:Int))) z4 s1)))
def UA (pu:Af) (n:Nat) (ih0:Int→Sl→Int→Int→Int→Sl→OV) (z0:Int) (s0:Sl) (z1 z2 z3:Int) (s1:Sl):OV:=
 (bb (AY z2 z1) (oo (EA z2) none fun k1=>(bb (an (Nat.blt k1 (Sl.n s0)) true) (oo (AL (Sl.cs s0) (k1*1)) none fun v0=>(oo (Bi .i64 v0) none fun x0=>(bb (AY x0 (0:Int)) (Sc pu n ih0 z0 x0 s0 z1 (Int.ofNat k1) true z3 s1) (Sc pu n ih0 z0 x0 s0 z1 (Int.ofNat k1) (nt (AY x0 z3)) z3 s1)))) none)) (Sb pu n))
def Sd (pu:Af) (n w:Nat):Int→Sl→Int→Int→Int→Sl→OV:=
 Nat.rec (motive:=fun _=>Int→Sl→Int→Int→Int→Sl→OV) (fun _ _ _ _ _ _=>none) (fun _ ih0=>UA pu n ih0) w
def Sg (pu:Af) (n:Nat) (b0:Bool) (z0:Int) (s0:Sl):OV:=
 (bb b0 (some (.int .i64 (1:Int))) (bb (AY (6:Int) (Int.ofNat (Sl.n s0))) (some (.int .i64 (3:Int))) (Sd pu n n (-1:Int) s0 (Int.ofNat (Sl.n s0)) (0:Int) z0 s0)))
def vK (pu:Af) (n:Nat) (x0:Int) (s0:Sl):OV:=
 (bb (AY x0 (1:Int)) (Sg pu n true x0 s0) (Sg pu n (AY (21:Int) x0) x0 s0))
def rR (pu:Af) (n:Nat) (args:LV):OV:=
 (ll args none fun a0 args=>(ll args (oo (Bt a0) none fun l0=>(ll l0 none fun v0 l0=>(ll l0 none fun v1 l0=>(ll l0 (oo (Bi .i64 v0) none fun x0=>(oo (Bj 1 v1) none fun s0=>(vK pu n x0 s0))) fun _ _=>none)))) fun _ _=>none))
theorem AbE (pu:Af) (n:Nat) {v:Value} (hm:Sb pu n=some v):BN tt (Bb tabs isP pu (inl pu)) 2 UX (fr 42 []) (hT 2 [(.cells Ay true false [])]) (Fin tt 2 [.tmp 2] v):=by
 unfold Sb at hm
 refine .then (.rK (.ghs (fr 42 [(2,(zI (0:Int)))]) (hT 2 [(.cells Ay true false [])]) (.k0 [false,false] [] [2]) ?_))
 refine .ret ?_
 exact Bq (zI (0:Int)) hm
theorem AlC {call:A8} (pu:Af) (n:Nat) (hcall:call=Bb tabs isP pu (inl pu)) {args:LV} {v:Value} (hm:rR pu n args=some v) (_:∀ x∈args,closed2 x=true):args.length≤42∧BN tt call 2 MR (Fr.made 42 args) (Ao tabs) (Fin tt 2 [.tmp 2] v):=by
 subst hcall
 unfold rR at hm
 replace hm:=Ad hm;obtain⟨a0,args_0,rfl,hm⟩:=hm
 replace hm:=AC hm;obtain⟨rfl,hm⟩:=hm
 replace hm:=BG hm;obtain⟨l0,rfl,hm⟩:=hm
 replace hm:=Ad hm;obtain⟨v0,l113398_0,rfl,hm⟩:=hm
 replace hm:=Ad hm;obtain⟨v1,l113398_1,rfl,hm⟩:=hm
 replace hm:=AC hm;obtain⟨rfl,hm⟩:=hm
 replace hm:=Ai hm;obtain⟨x0,rfl,hm⟩:=hm
 replace hm:=Al hm;obtain⟨s0,rfl,hm⟩:=hm
 unfold vK at hm
 refine⟨by simp,?_⟩
 refine .same (F':=(fr 42 [(0,(.agg ⟨[zI x0,Sl.v 1 s0]⟩))])) (H':=(hT 2 [(.cells Ay true false [])])) (by kernel_rfl) (by kernel_rfl) ?_
 refine .then (.rK (.ghs (fr 42 [(1,(pt 2 0))]) (hT 3 [(.cells Ay true false []),(oC [zI x0,Sl.v 1 s0])]) (.k0 [false,false] [.tmp 1 false] [1]) ?_))
 refine .then (.block (.join (v:=v) (fun y:Bool×Int×Sl=>((fr 42 [(1,(pt 2 0)),(6,(zB y.1))]),(hT 3 [(.cells Ay true false []),(oC [(zI y.2.1),(Sl.v 1 y.2.2)])]))) (fun y=>Sg pu n y.1 y.2.1 y.2.2) ?_ ?_))
 ·rintro⟨b0,z0,s1⟩ hm
  unfold Sg at hm
  replace hm:=Ag hm;rcases hm with⟨h0,hm⟩ | ⟨h0,hm⟩
  ·refine .ifT b0 (by kernel_rfl) h0 ?_
   refine .then (.rK (.ghs (fr 42 [(2,(zI (1:Int)))]) (hT 2 [(.cells Ay true false [])]) (.k0 [false,false] [] [2]) ?_))
   refine .ret ?_
   exact Bq (zI (1:Int)) hm
  ·refine .ifF b0 (by kernel_rfl) h0 ?_
   refine .then (.rK (.ghs (fr 42 [(1,(pt 2 0)),(15,(zB (AY (6:Int) (Int.ofNat (Sl.n s1)))))]) (hT 3 [(.cells Ay true false []),(oC [zI z0,Sl.v 1 s1])]) (.k0 [false,false] [.tmp 1 false] [1,15]) ?_))
   replace hm:=Ag hm;rcases hm with⟨h1,hm⟩ | ⟨h1,hm⟩
   ·refine C8 (AY (6:Int) (Int.ofNat (Sl.n s1))) h1 ?_
    refine .then (.rK (.ghs (fr 42 [(2,(zI (3:Int)))]) (hT 2 [(.cells Ay true false [])]) (.k0 [false,false] [] [2]) ?_))
    refine .ret ?_
    exact Bq (zI (3:Int)) hm
   ·refine Dn (AY (6:Int) (Int.ofNat (Sl.n s1))) h1 ?_
    refine .skip (.ghs (fr 42 [(1,(pt 2 0))]) (hT 3 [(.cells Ay true false []),(oC [zI z0,Sl.v 1 s1])]) (.k0 [false,false] [.tmp 1 false] [1]) ?_)
    refine .then (.rK (.ghs (fr 42 [(1,(pt 2 0)),(3,(zI (-1:Int)))]) (hT 3 [(.cells Ay true false []),(oC [zI z0,Sl.v 1 s1])]) (.k0 [false,false] [.tmp 1 false] [1,3]) ?_))
    refine .join (v:=v) (fun y:Unit=>((fr 42 []),(hT 2 [(.cells Ay true false [])]))) (fun y=>Sb pu n) ?_ ?_
    ·rintro _ hm
     exact AbE pu n hm
    ·refine .then (.rK (.ghs (fr 42 [(1,(pt 2 0)),(3,(zI (-1:Int))),(21,Sl.v 1 s1),(22,(zI (Int.ofNat (Sl.n s1)))),(23,(zI (0:Int)))]) (hT 3 [(.cells Ay true false []),(oC [zI z0,Sl.v 1 s1])]) (.k0 [false,false] [.tmp 1 false] [1,3,21,22,23]) ?_))
     refine .block (.loopM (v:=v) (fun y:Int×Sl×Int×Int×Int×Sl=>((fr 42 [(1,(pt 2 0)),(3,(zI y.1)),(21,(Sl.v 1 y.2.1)),(22,(zI y.2.2.1)),(23,(zI y.2.2.2.1))]),(hT 3 [(.cells Ay true false []),(oC [(zI y.2.2.2.2.1),(Sl.v 1 y.2.2.2.2.2)])]))) (fun w y=>Sd pu n w y.1 y.2.1 y.2.2.1 y.2.2.2.1 y.2.2.2.2.1 y.2.2.2.2.2) n ⟨((-1:Int),s1,(Int.ofNat (Sl.n s1)),(0:Int),z0,s1),hm,(.k0 [false,false] [.tmp 1 false] [1,3,21,22,23])⟩ (fun _=>rfl) ?_)
     rintro w0 ⟨z1,s2,z2,z3,z4,s3⟩ hm
     replace hm:UA pu n (Sd pu n w0) z1 s2 z2 z3 z4 s3=some v:=hm
     unfold UA at hm
     refine .then (.rK (.ghs (fr 42 [(1,(pt 2 0)),(3,zI z1),(21,Sl.v 1 s2),(22,zI z2),(23,zI z3),(24,(zB (AY z3 z2)))]) (hT 3 [(.cells Ay true false []),(oC [zI z4,Sl.v 1 s3])]) (.k0 [false,false] [.tmp 1 false] [1,3,21,22,23,24]) ?_))
     refine .then ?_
     replace hm:=Ag hm;rcases hm with⟨h2,hm⟩ | ⟨h2,hm⟩
     ·refine C8 (AY z3 z2) h2 ?_
      refine .skip (.ghs (fr 42 [(1,(pt 2 0)),(3,zI z1),(21,Sl.v 1 s2),(22,zI z2),(23,zI z3)]) (hT 3 [(.cells Ay true false []),(oC [zI z4,Sl.v 1 s3])]) (.k0 [false,false] [.tmp 1 false] [1,3,21,22,23]) ?_)
      refine .then (.block (.then ?_))
      replace hm:=Ab hm;obtain⟨k1,h3,hm⟩:=hm
      obtain rfl:=AR h3
      replace hm:=Ae hm;obtain⟨h4,hm⟩:=hm
      replace hm:=K6 hm;obtain⟨x1,h5,hm⟩:=hm
      refine .reg (eD (keep (hT 3 [(.cells Ay true false []),(oC [zI z4,Sl.v 1 s3])]) (bb (an (Nat.blt k1 (Sl.n s2)) true) (some (Cv (k1*1) (Sl.cs s2))) none)) (AX h4) (eD (keep (hT 3 [(.cells Ay true false []),(oC [zI z4,Sl.v 1 s3])]) (AL (Sl.cs s2) (k1*1))) (AZ h5) (eE))) ?_
      refine .ghs (fr 42 [(1,(pt 2 0)),(3,zI z1),(5,zI x1),(21,Sl.v 1 s2),(22,zI z2),(23,(zI (Int.ofNat k1)))]) (hT 3 [(.cells Ay true false []),(oC [zI z4,Sl.v 1 s3])]) (.k0 [false,false] [.tmp 1 false] [1,3,5,21,22,23]) ?_
      refine .then (.block (.join (v:=v) (fun y:Int×Int×Sl×Int×Int×Bool×Int×Sl=>((fr 42 [(1,(pt 2 0)),(3,(zI y.1)),(5,(zI y.2.1)),(21,(Sl.v 1 y.2.2.1)),(22,(zI y.2.2.2.1)),(23,(zI y.2.2.2.2.1)),(27,(zB y.2.2.2.2.2.1))]),(hT 3 [(.cells Ay true false []),(oC [(zI y.2.2.2.2.2.2.1),(Sl.v 1 y.2.2.2.2.2.2.2)])]))) (fun y=>Sc pu n (Sd pu n w0) y.1 y.2.1 y.2.2.1 y.2.2.2.1 y.2.2.2.2.1 y.2.2.2.2.2.1 y.2.2.2.2.2.2.1 y.2.2.2.2.2.2.2) ?_ ?_))
      ·rintro⟨z5,z6,s4,z7,z8,b1,z9,s5⟩ hm
       unfold Sc at hm
       replace hm:=Ag hm;rcases hm with⟨h6,hm⟩ | ⟨h6,hm⟩
       ·refine .ifT b1 (by kernel_rfl) h6 ?_
        refine .then (.rK (.ghs (fr 42 [(2,(zI (2:Int)))]) (hT 2 [(.cells Ay true false [])]) (.k0 [false,false] [] [2]) ?_))
        refine .ret ?_
        exact Bq (zI (2:Int)) hm
       ·refine .ifF b1 (by kernel_rfl) h6 ?_
        refine .then (.rK (.ghs (fr 42 [(1,(pt 2 0)),(5,zI z6),(21,Sl.v 1 s4),(22,zI z7),(23,zI z8),(36,(zB (nt (AY z5 z6))))]) (hT 3 [(.cells Ay true false []),(oC [zI z9,Sl.v 1 s5])]) (.k0 [false,false] [.tmp 1 false] [1,5,21,22,23,36]) ?_))
        replace hm:=Ag hm;rcases hm with⟨h7,hm⟩ | ⟨h7,hm⟩
        ·refine C8 (nt (AY z5 z6)) h7 ?_
         refine .then (.rK (.ghs (fr 42 [(2,(zI (7:Int)))]) (hT 2 [(.cells Ay true false [])]) (.k0 [false,false] [] [2]) ?_))
         refine .ret ?_
         exact Bq (zI (7:Int)) hm
        ·refine Dn (nt (AY z5 z6)) h7 ?_
         refine .skip (.ghs (fr 42 [(1,(pt 2 0)),(5,zI z6),(21,Sl.v 1 s4),(22,zI z7),(23,zI z8)]) (hT 3 [(.cells Ay true false []),(oC [zI z9,Sl.v 1 s5])]) (.k0 [false,false] [.tmp 1 false] [1,5,21,22,23]) ?_)
         refine .rK (.ghs (fr 42 [(1,(pt 2 0)),(3,zI z6),(21,Sl.v 1 s4),(22,zI z7),(23,zI z8)]) (hT 3 [(.cells Ay true false []),(oC [zI z9,Sl.v 1 s5])]) (.k0 [false,false] [.tmp 1 false] [1,3,21,22,23]) ?_)
         refine .rK ?_
         exact⟨(z6,s4,z7,(Aj .i64 (Int.add z8 (1:Int))),z9,s5),hm,(.k0 [false,false] [.tmp 1 false] [1,3,21,22,23])⟩
      ·replace hm:=Ag hm;rcases hm with⟨h8,hm⟩ | ⟨h8,hm⟩
       ·refine .reg (eC 1 (some ((zB (AY x1 (0:Int))),(hT 3 [(.cells Ay true false []),(oC [zI z4,Sl.v 1 s3])]))) (show _=some ((zB true),_) from (by rw[show (AY x1 (0:Int))=true from h8])) (eE)) ?_
        exact⟨(z1,x1,s2,z2,(Int.ofNat k1),true,z4,s3),hm,(.k0 [false,false] [.tmp 1 false] [1,3,5,21,22,23,27])⟩
       ·refine .reg (eC 1 (some ((zB (AY x1 (0:Int))),(hT 3 [(.cells Ay true false []),(oC [zI z4,Sl.v 1 s3])]))) (show _=some ((zB false),_) from (by rw[show (AY x1 (0:Int))=false from h8])) (eE)) ?_
        exact⟨(z1,x1,s2,z2,(Int.ofNat k1),(nt (AY x1 z4)),z4,s3),hm,(.k0 [false,false] [.tmp 1 false] [1,3,5,21,22,23,27])⟩
     ·refine Dn (AY z3 z2) h2 ?_
      refine .exit ?_
      exact⟨(),hm,(.k0 [false,false] [] [])⟩
 ·replace hm:=Ag hm;rcases hm with⟨h9,hm⟩ | ⟨h9,hm⟩
  ·refine .reg (eC 2 (some ((zB (AY x0 (1:Int))),(hT 3 [(.cells Ay true false []),(oC [zI x0,Sl.v 1 s0])]))) (show _=some ((zB true),_) from (by rw[show (AY x0 (1:Int))=true from h9])) (eE)) ?_
   exact⟨(true,x0,s0),hm,(.k0 [false,false] [.tmp 1 false] [1,6])⟩
  ·refine .reg (eC 2 (some ((zB (AY x0 (1:Int))),(hT 3 [(.cells Ay true false []),(oC [zI x0,Sl.v 1 s0])]))) (show _=some ((zB false),_) from (by rw[show (AY x0 (1:Int))=false from h9])) (eE)) ?_
   exact⟨((AY (21:Int) x0),x0,s0),hm,(.k0 [false,false] [.tmp 1 false] [1,6])⟩
end
end Go.TpFM
