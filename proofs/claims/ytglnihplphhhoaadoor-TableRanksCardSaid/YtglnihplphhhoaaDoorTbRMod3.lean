/- Made from wip. -/
import Derived.Test.YtglnihplphhhoaaDoorTbRMod1x

set_option maxRecDepth 100000
set_option maxHeartbeats 20000000
set_option linter.unusedVariables false
namespace Go.TbRM
open Go.Sp Go.TbR
noncomputable section

def UL (pu:Af) (n:Nat) (s0:Sl):OV:=
 (bb (Dp (nt (Nat.beq (Sl.fl s0) 2)) (Nat.beq (Sl.n s0) 0)) (some (Sl.v 1 (KY 1 s0))) none)
def uC (pu:Af) (n:Nat) (args:LV):OV:=
 (ll args none fun a0 args=>(ll args (oo (Bj 1 a0) none fun s0=>(UL pu n s0)) fun _ _=>none))
theorem r17 {call:A8} (pu:Af) (n:Nat) (hcall:call=Bb tabs Fb pu (inl pu)) {args:LV} {v:Value} (hm:uC pu n args=some v) (_:∀ x∈args,closed2 x=true):args.length≤9∧BN tt call 1 Qp (Fr.made 9 args) (Ao tabs) (Fin tt 1 [.tmp 2] v):=by
 subst hcall
 unfold uC at hm
 replace hm:=Ad hm;obtain⟨a0,args_0,rfl,hm⟩:=hm
 replace hm:=AC hm;obtain⟨rfl,hm⟩:=hm
 replace hm:=Al hm;obtain⟨s0,rfl,hm⟩:=hm
 unfold UL at hm
 refine⟨by simp,?_⟩
 refine .same (F':=(fr 9 [(0,Sl.v 1 s0)])) (H':=BB) (by kernel_rfl) (by kernel_rfl) ?_
 refine .then (.rK (.ghs (fr 9 [(0,Sl.v 1 s0)]) BB (.k0 [false] [] [0]) ?_))
 refine .then ?_
 replace hm:=Ae hm;obtain⟨h0,hm⟩:=hm
 refine .reg (eC 5 (Ut BB xA 1 s0) (Wh h0) (eE)) ?_
 refine .ghs (fr 9 [(2,(Sl.v 1 (KY 1 s0)))]) BB (.k0 [false] [] [2]) ?_
 refine .ret ?_
 exact BO (Sl.v 1 (KY 1 s0)) hm

def UM (pu:Af) (n:Nat) (x0:Int) (s0:Sl):OV:=
 (bb (Au Ah Bq) (oo (pu 40 [(.agg ⟨[.int .i64 x0,(Sl.v 2 s0)]⟩)]) none fun v0=>(oo (Bi .i64 v0) none fun x1=>(bb (nt (Bd x1 (0:Int))) (bb (an (Nat.ble (0+14) (len Bq)) true) (bb (Au Ah (BM ([(.int .u64 (0:Int)),(.int .u64 (0:Int)),(.int .u64 (0:Int)),(.int .u64 (0:Int)),(.int .u64 (0:Int)),(.int .u64 (0:Int)),(.int .u64 (0:Int)),(.int .u64 (0:Int)),(.int .u64 (0:Int)),(.int .u64 (0:Int)),(.int .u64 (0:Int)),(.int .u64 (0:Int)),(.int .u64 (0:Int)),(.int .u64 (0:Int))]:LV) 0 Bq)) (bb (Nat.ble (0+14) (len (BM ([(.int .u64 (0:Int)),(.int .u64 (0:Int)),(.int .u64 (0:Int)),(.int .u64 (0:Int)),(.int .u64 (0:Int)),(.int .u64 (0:Int)),(.int .u64 (0:Int)),(.int .u64 (0:Int)),(.int .u64 (0:Int)),(.int .u64 (0:Int)),(.int .u64 (0:Int)),(.int .u64 (0:Int)),(.int .u64 (0:Int)),(.int .u64 (0:Int))]:LV) 0 Bq))) (bb (Fe (.tuple ⟨[(.agg ⟨(Aq 14 (Am 0 (BM ([(.int .u64 (0:Int)),(.int .u64 (0:Int)),(.int .u64 (0:Int)),(.int .u64 (0:Int)),(.int .u64 (0:Int)),(.int .u64 (0:Int)),(.int .u64 (0:Int)),(.int .u64 (0:Int)),(.int .u64 (0:Int)),(.int .u64 (0:Int)),(.int .u64 (0:Int)),(.int .u64 (0:Int)),(.int .u64 (0:Int)),(.int .u64 (0:Int))]:LV) 0 Bq)))⟩),.int .i64 x1]⟩)) (some (.tuple ⟨[(.agg ⟨(Aq 14 (Am 0 (BM ([(.int .u64 (0:Int)),(.int .u64 (0:Int)),(.int .u64 (0:Int)),(.int .u64 (0:Int)),(.int .u64 (0:Int)),(.int .u64 (0:Int)),(.int .u64 (0:Int)),(.int .u64 (0:Int)),(.int .u64 (0:Int)),(.int .u64 (0:Int)),(.int .u64 (0:Int)),(.int .u64 (0:Int)),(.int .u64 (0:Int)),(.int .u64 (0:Int))]:LV) 0 Bq)))⟩),.int .i64 x1]⟩)) none) none) none) none) (oo (pu 43 [.int .i64 x0]) none fun v1=>(oo (Bt v1) none fun q0=>(bb (an (Nat.beq (len q0) 14) (Au Ah q0)) (oo (pu 44 [(.agg ⟨q0⟩),(Sl.v 2 s0)]) none fun v2=>(oo (Bt v2) none fun q1=>(bb (an (Nat.beq (len q1) 14) (Au Ah q1)) (bb (Au closed2 [(.agg ⟨q0⟩),(Sl.v 2 s0)]) (bb (Nat.beq (len q1) 14) (bb (an (Nat.ble (0+len q1) (len Bq)) (Au D6 q1)) (bb (Au Ah (BM q1 0 Bq)) (bb (Nat.ble (0+14) (len (BM q1 0 Bq))) (bb (Fe (.tuple ⟨[(.agg ⟨(Aq 14 (Am 0 (BM q1 0 Bq)))⟩),(.int .i64 (0:Int))]⟩)) (some (.tuple ⟨[(.agg ⟨(Aq 14 (Am 0 (BM q1 0 Bq)))⟩),(.int .i64 (0:Int))]⟩)) none) none) none) none) none) none) none))) none)))))) none)
def uD (pu:Af) (n:Nat) (args:LV):OV:=
 (ll args none fun a0 args=>(ll args (oo (Bt a0) none fun l0=>(ll l0 none fun v0 l0=>(ll l0 none fun v1 l0=>(ll l0 (oo (Bi .i64 v0) none fun x0=>(oo (Bj 2 v1) none fun s0=>(UM pu n x0 s0))) fun _ _=>none)))) fun _ _=>none))
theorem r19 {call:A8} (pu:Af) (n:Nat) (hcall:call=Bb tabs Fb pu (inl pu)) {args:LV} {v:Value} (hm:uD pu n args=some v) (_:∀ x∈args,closed2 x=true):args.length≤17∧BN tt call 1 M9 (Fr.made 17 args) (Ao tabs) (Fin tt 1 [.cell 2 52,.tmp 3] v):=by
 subst hcall
 unfold uD at hm
 replace hm:=Ad hm;obtain⟨a0,args_0,rfl,hm⟩:=hm
 replace hm:=AC hm;obtain⟨rfl,hm⟩:=hm
 replace hm:=BG hm;obtain⟨l0,rfl,hm⟩:=hm
 replace hm:=Ad hm;obtain⟨v0,l5192_0,rfl,hm⟩:=hm
 replace hm:=Ad hm;obtain⟨v1,l5192_1,rfl,hm⟩:=hm
 replace hm:=AC hm;obtain⟨rfl,hm⟩:=hm
 replace hm:=Ai hm;obtain⟨x0,rfl,hm⟩:=hm
 replace hm:=Al hm;obtain⟨s0,rfl,hm⟩:=hm
 unfold UM at hm
 refine⟨by simp,?_⟩
 refine .same (F':=(fr 17 [(0,(.agg ⟨[zI x0,(Sl.v 2 s0)]⟩))])) (H':=BB) (by kernel_rfl) (by kernel_rfl) ?_
 refine .then (.rK ?_)
 replace hm:=Ae hm;obtain⟨h0,hm⟩:=hm
 refine .ghs (fr 17 [(1,pt 1 0),(2,(pt 2 0))]) (hT 3 [(oC [zI x0,(Sl.v 2 s0)]),oC Bq]) (.k [2] [false] [.tmp 1 false,.tmp 2 false] [1,2] ⟨Bp h0,trivial⟩) ?_
 refine .then (.then ?_)
 replace hm:=IV hm;obtain⟨x1,h1,hm⟩:=hm
 refine .reg (eC 1 ((oo (pu 40 [(.agg ⟨[zI x0,(Sl.v 2 s0)]⟩)]) none fun v=>some (v,(hT 3 [(oC [zI x0,(Sl.v 2 s0)]),oC Bq])))) (AB h1) (eE)) ?_
 refine .ghs (fr 17 [(1,pt 1 0),(2,(pt 2 0)),(4,zI x1)]) (hT 3 [(oC [zI x0,(Sl.v 2 s0)]),oC Bq]) (.k [2] [false] [.tmp 1 false,.tmp 2 false] [1,2,4] ⟨Bp h0,trivial⟩) ?_
 refine .then (.rK (.ghs (fr 17 [(1,pt 1 0),(2,(pt 2 0)),(4,zI x1),(8,(zB (nt (Bd x1 (0:Int)))))]) (hT 3 [(oC [zI x0,(Sl.v 2 s0)]),oC Bq]) (.k [2] [false] [.tmp 1 false,.tmp 2 false] [1,2,4,8] ⟨Bp h0,trivial⟩) ?_))
 replace hm:=Ag hm;rcases hm with⟨h2,hm⟩ | ⟨h2,hm⟩
 ·refine DL (nt (Bd x1 (0:Int))) h2 ?_
  refine .then ?_
  replace hm:=Ae hm;obtain⟨h3,hm⟩:=hm
  refine .reg (eC 2 (done (bb (an (Nat.ble (0+14) (len Bq)) true) (some (hT 3 [(oC [zI x0,(Sl.v 2 s0)]),(oC (BM ([(zU (0:Int)),(zU (0:Int)),(zU (0:Int)),(zU (0:Int)),(zU (0:Int)),(zU (0:Int)),(zU (0:Int)),(zU (0:Int)),(zU (0:Int)),(zU (0:Int)),(zU (0:Int)),(zU (0:Int)),(zU (0:Int)),(zU (0:Int))]:LV) 0 Bq))])) none) undef) (Js h3) (eE)) ?_
  replace hm:=Ae hm;obtain⟨h4,hm⟩:=hm
  refine .ghs (fr 17 [(2,pt 1 0),(3,zI x1)]) (hT 2 [(oC (BM ([(zU (0:Int)),(zU (0:Int)),(zU (0:Int)),(zU (0:Int)),(zU (0:Int)),(zU (0:Int)),(zU (0:Int)),(zU (0:Int)),(zU (0:Int)),(zU (0:Int)),(zU (0:Int)),(zU (0:Int)),(zU (0:Int)),(zU (0:Int))]:LV) 0 Bq))]) (.k [2] [false] [.tmp 2 false] [2,3] ⟨Bp h4,trivial⟩) ?_
  refine .ret ?_
  replace hm:=Ae hm;obtain⟨h5,hm⟩:=hm
  replace hm:=Ae hm;obtain⟨h6,hm⟩:=hm
  exact kI (.tuple ⟨[(.agg ⟨(Aq 14 (Am 0 (BM ([(zU (0:Int)),(zU (0:Int)),(zU (0:Int)),(zU (0:Int)),(zU (0:Int)),(zU (0:Int)),(zU (0:Int)),(zU (0:Int)),(zU (0:Int)),(zU (0:Int)),(zU (0:Int)),(zU (0:Int)),(zU (0:Int)),(zU (0:Int))]:LV) 0 Bq)))⟩),zI x1]⟩) (SN (Oh (show Q6 _ _ _ _=some (.agg ⟨(Aq 14 (Am 0 (BM ([(zU (0:Int)),(zU (0:Int)),(zU (0:Int)),(zU (0:Int)),(zU (0:Int)),(zU (0:Int)),(zU (0:Int)),(zU (0:Int)),(zU (0:Int)),(zU (0:Int)),(zU (0:Int)),(zU (0:Int)),(zU (0:Int)),(zU (0:Int))]:LV) 0 Bq)))⟩) from (Aex (c:=(Nat.ble (0+14) (len (BM ([(zU (0:Int)),(zU (0:Int)),(zU (0:Int)),(zU (0:Int)),(zU (0:Int)),(zU (0:Int)),(zU (0:Int)),(zU (0:Int)),(zU (0:Int)),(zU (0:Int)),(zU (0:Int)),(zU (0:Int)),(zU (0:Int)),(zU (0:Int))]:LV) 0 Bq)))) (by kernel_rfl) h5)) (Oh (show Q6 _ _ _ _=some (zI x1) from (by kernel_rfl)) rfl)) (by kernel_rfl)) h6 hm
 ·refine DT (nt (Bd x1 (0:Int))) h2 ?_
  refine .skip (.ghs (fr 17 [(1,pt 1 0),(2,(pt 2 0))]) (hT 3 [(oC [zI x0,(Sl.v 2 s0)]),oC Bq]) (.k [2] [false] [.tmp 1 false,.tmp 2 false] [1,2] ⟨Bp h0,trivial⟩) ?_)
  refine .then ?_
  replace hm:=Ab hm;obtain⟨v2,h7,hm⟩:=hm
  replace hm:=BG hm;obtain⟨q0,rfl,hm⟩:=hm
  replace hm:=Ae hm;obtain⟨h8,hm⟩:=hm
  replace hm:=Ab hm;obtain⟨v3,h9,hm⟩:=hm
  replace hm:=BG hm;obtain⟨q1,rfl,hm⟩:=hm
  replace hm:=Ae hm;obtain⟨h10,hm⟩:=hm
  replace hm:=Ae hm;obtain⟨h11,hm⟩:=hm
  replace hm:=Ae hm;obtain⟨h12,hm⟩:=hm
  replace hm:=Ae hm;obtain⟨h13,hm⟩:=hm
  refine .reg (eC 4 ((oo (pu 43 [zI x0]) none fun v=>some (v,(hT 3 [(oC [zI x0,(Sl.v 2 s0)]),oC Bq])))) (AB h7) (eD (bb (Au closed2 [(.agg ⟨q0⟩),(Sl.v 2 s0)]) (oo (pu 44 [(.agg ⟨q0⟩),(Sl.v 2 s0)]) none fun v=>some (v,(hT 3 [(oC [zI x0,(Sl.v 2 s0)]),oC Bq]))) (oo (CG (RG (hT 3 [(oC [zI x0,(Sl.v 2 s0)]),oC Bq])) [(.agg ⟨q0⟩),(Sl.v 2 s0)]) none fun l1=>oo (pu 44 l1) none fun v=>bb (RH v) (some (v,(hT 3 [(oC [zI x0,(Sl.v 2 s0)]),oC Bq]))) none)) (SL h11 h9) (eD (done (bb (Nat.beq (len q1) 14) (bb (an (Nat.ble (0+len q1) (len Bq)) (Au D6 q1)) (some (hT 3 [(oC [zI x0,(Sl.v 2 s0)]),(oC (BM q1 0 Bq))])) none) none) undef) (bH h12 h13) (eE)))) ?_
  replace hm:=Ae hm;obtain⟨h14,hm⟩:=hm
  refine .ghs (fr 17 [(2,pt 1 0),(3,(zI (0:Int)))]) (hT 2 [(oC (BM q1 0 Bq))]) (.k [2] [false] [.tmp 2 false] [2,3] ⟨Bp h14,trivial⟩) ?_
  refine .ret ?_
  replace hm:=Ae hm;obtain⟨h15,hm⟩:=hm
  replace hm:=Ae hm;obtain⟨h16,hm⟩:=hm
  exact kI (.tuple ⟨[(.agg ⟨(Aq 14 (Am 0 (BM q1 0 Bq)))⟩),(zI (0:Int))]⟩) (SN (Oh (show Q6 _ _ _ _=some (.agg ⟨(Aq 14 (Am 0 (BM q1 0 Bq)))⟩) from (Aex (c:=(Nat.ble (0+14) (len (BM q1 0 Bq)))) (by kernel_rfl) h15)) (Oh (show Q6 _ _ _ _=some (zI (0:Int)) from (by kernel_rfl)) rfl)) (by kernel_rfl)) h16 hm
def OU (pu:Af) (n:Nat) (b0:Bool):OV:=
 (some (.bool b0))
def lM (pu:Af) (n:Nat) (x0 x1 x2:Int):OV:=
 (bb (nt (AY x1 x0)) (OU pu n (nt (AY x2 x1))) (OU pu n false))
def uE (pu:Af) (n:Nat) (args:LV):OV:=
 (ll args none fun a0 args=>(ll args none fun a1 args=>(ll args none fun a2 args=>(ll args (oo (Bi .i64 a0) none fun x0=>(oo (Bi .i64 a1) none fun x1=>(oo (Bi .i64 a2) none fun x2=>(lM pu n x0 x1 x2)))) fun _ _=>none))))
theorem lN (pu:Af) (n:Nat) (b0:Bool) {v:Value} (hm:OU pu n b0=some v):BN tt (Bb tabs Fb pu (inl pu)) 1 .ret (fr 15 [(6,zB b0)]) BB (Fin tt 1 [.tmp 6] v):=by
 unfold OU at hm
 refine .ret ?_
 exact BO (zB b0) hm
theorem r20 {call:A8} (pu:Af) (n:Nat) (hcall:call=Bb tabs Fb pu (inl pu)) {args:LV} {v:Value} (hm:uE pu n args=some v) (_:∀ x∈args,closed2 x=true):args.length≤15∧BN tt call 1 Qq (Fr.made 15 args) (Ao tabs) (Fin tt 1 [.tmp 6] v):=by
 subst hcall
 unfold uE at hm
 replace hm:=Ad hm;obtain⟨a0,args_0,rfl,hm⟩:=hm
 replace hm:=Ad hm;obtain⟨a1,args_1,rfl,hm⟩:=hm
 replace hm:=Ad hm;obtain⟨a2,args_2,rfl,hm⟩:=hm
 replace hm:=AC hm;obtain⟨rfl,hm⟩:=hm
 replace hm:=Ai hm;obtain⟨x0,rfl,hm⟩:=hm
 replace hm:=Ai hm;obtain⟨x1,rfl,hm⟩:=hm
 replace hm:=Ai hm;obtain⟨x2,rfl,hm⟩:=hm
 unfold lM at hm
 refine⟨by simp,?_⟩
 refine .same (F':=(fr 15 [(0,zI x0),(1,zI x1),(2,zI x2)])) (H':=BB) (by kernel_rfl) (by kernel_rfl) ?_
 refine .then (.rK (.ghs (fr 15 [(0,zI x0),(1,zI x1),(2,zI x2)]) BB (.k0 [false] [] [0,1,2]) ?_))
 refine .join (v:=v) (fun y:Bool=>((fr 15 [(6,zB y)]),BB)) (fun y=>OU pu n y) ?_ ?_
 ·rintro b0 hm
  exact lN pu n b0 hm
 ·replace hm:=Ag hm;rcases hm with⟨h0,hm⟩ | ⟨h0,hm⟩
  ·refine .reg (eC 2 (some ((zB (nt (AY x1 x0))),BB)) (show _=some ((zB true),_) from (by rw[show (nt (AY x1 x0))=true from h0])) (eE)) ?_
   exact⟨(nt (AY x2 x1)),hm,(.k0 [false] [] [6])⟩
  ·refine .reg (eC 2 (some ((zB (nt (AY x1 x0))),BB)) (show _=some ((zB false),_) from (by rw[show (nt (AY x1 x0))=false from h0])) (eE)) ?_
   exact⟨false,hm,(.k0 [false] [] [6])⟩

def lQ (pu:Af) (n:Nat) (x0:Int):OV:=
 (oo (pu 46 [.int .u64 x0]) none fun v0=>(oo (Bi .i64 v0) none fun x1=>(some (.int .i64 x1))))
def uF (pu:Af) (n:Nat) (args:LV):OV:=
 (ll args none fun a0 args=>(ll args (oo (Bi .u64 a0) none fun x0=>(lQ pu n x0)) fun _ _=>none))
theorem r21 {call:A8} (pu:Af) (n:Nat) (hcall:call=Bb tabs Fb pu (inl pu)) {args:LV} {v:Value} (hm:uF pu n args=some v) (_:∀ x∈args,closed2 x=true):args.length≤8∧BN tt call 1 Qr (Fr.made 8 args) (Ao tabs) (Fin tt 1 [.tmp 2] v):=by
 subst hcall
 unfold uF at hm
 replace hm:=Ad hm;obtain⟨a0,args_0,rfl,hm⟩:=hm
 replace hm:=AC hm;obtain⟨rfl,hm⟩:=hm
 replace hm:=Ai hm;obtain⟨x0,rfl,hm⟩:=hm
 unfold lQ at hm
 refine⟨by simp,?_⟩
 refine .same (F':=(fr 8 [(0,(zU x0))])) (H':=BB) (by kernel_rfl) (by kernel_rfl) ?_
 refine .then (.rK (.ghs (fr 8 [(0,(zU x0))]) BB (.k0 [false] [] [0]) ?_))
 refine .then (.condF (by kernel_rfl) ?_)
 refine .skip (.ghs (fr 8 [(0,(zU x0))]) BB (.k0 [false] [] [0]) ?_)
 refine .then ?_
 replace hm:=IV hm;obtain⟨x1,h0,hm⟩:=hm
 refine .reg (eC 1 ((oo (pu 46 [(zU x0)]) none fun v=>some (v,BB))) (AB h0) (eE)) ?_
 refine .ghs (fr 8 [(2,zI x1)]) BB (.k0 [false] [] [2]) ?_
 refine .ret ?_
 exact BO (zI x1) hm
def Qz (pu:Af) (n:Nat):OV:=
 (some (.int .i64 (-1:Int)))
def QA (pu:Af) (n:Nat) (ih0:Int→Int→LV→OV) (z0 z1:Int) (q0:LV):OV:=
 (bb (Au Ah q0) (ih0 z0 (Aj .i64 (Int.add z1 (1:Int))) q0) none)
def I8 (pu:Af) (n:Nat) (ih0:Int→Int→LV→OV) (z0 z1 z2 z3:Int) (q0:LV):OV:=
 (bb (Au Ah q0) (bb (nt (Bd z2 (0:Int))) (oo (pu 47 [.int .u64 z2]) none fun v0=>(oo (Bi .i64 v0) none fun x0=>(some (.int .i64 (Aj .i64 (Int.add (Aj .i64 (Int.mul (64:Int) z1)) x0)))))) (QA pu n ih0 z0 z3 q0)) none)
def OW (pu:Af) (n:Nat) (ih0:Int→Int→LV→OV) (ih1:Int→Int→Int→Int→Int→LV→OV) (z0 z1 z2 z3 z4:Int) (q0:LV):OV:=
 (bb (Au Ah q0) (bb (AY z3 z0) (oo (EA (Aj .i64 (Int.sub z3 (1:Int)))) none fun k1=>(bb (Nat.blt k1 7) (oo (EA z1) none fun k2=>(bb (Nat.blt k2 2) (oo (AL q0 ((0+k1*2)+k2*1)) none fun v0=>(oo (Bi .u64 v0) none fun x0=>(oo (EA z3) none fun k3=>(bb (Nat.blt k3 7) (bb (Nat.blt k2 2) (oo (AL q0 ((0+k3*2)+k2*1)) none fun v1=>(oo (Bi .u64 v1) none fun x1=>(ih1 z0 (Int.ofNat k2) (jF .u64 z2 (QV .u64 x0 x1)) (Aj .i64 (Int.add (Int.ofNat k3) (1:Int))) z4 q0))) none) none)))) none)) none)) (I8 pu n ih0 z0 z1 z2 z4 q0)) none)
def OX (pu:Af) (n:Nat) (ih0:Int→Int→LV→OV) (w:Nat):Int→Int→Int→Int→Int→LV→OV:=
 Nat.rec (motive:=fun _=>Int→Int→Int→Int→Int→LV→OV) (fun _ _ _ _ _ _=>none) (fun _ ih1=>OW pu n ih0 ih1) w
def K5 (pu:Af) (n:Nat) (ih0:Int→Int→LV→OV) (z0 z1:Int) (q0:LV):OV:=
 (bb (Au Ah q0) (bb (AY z1 (2:Int)) (OX pu n ih0 n z0 z1 (0:Int) (1:Int) z1 q0) (Qz pu n)) none)
def FD (pu:Af) (n w:Nat):Int→Int→LV→OV:=
 Nat.rec (motive:=fun _=>Int→Int→LV→OV) (fun _ _ _=>none) (fun _ ih0=>K5 pu n ih0) w
def UN (pu:Af) (n:Nat) (q0:LV) (x0:Int):OV:=
 (bb (Au Ah q0) (FD pu n n x0 (0:Int) q0) none)
def uG (pu:Af) (n:Nat) (args:LV):OV:=
 (ll args none fun a0 args=>(ll args none fun a1 args=>(ll args (oo (Bt a0) none fun q0=>(bb (an (Nat.beq (len q0) 14) (Au Ah q0)) (oo (Bi .i64 a1) none fun x0=>(UN pu n q0 x0)) none)) fun _ _=>none)))
theorem lS (pu:Af) (n:Nat) {v:Value} (hm:Qz pu n=some v):BN tt (Bb tabs Fb pu (inl pu)) 1 R3 (fr 38 []) BB (Fin tt 1 [.tmp 4] v):=by
 unfold Qz at hm
 refine .then (.rK (.ghs (fr 38 [(4,(zI (-1:Int)))]) BB (.k0 [false] [] [4]) ?_))
 refine .ret ?_
 exact BO (zI (-1:Int)) hm
theorem r22 {call:A8} (pu:Af) (n:Nat) (hcall:call=Bb tabs Fb pu (inl pu)) {args:LV} {v:Value} (hm:uG pu n args=some v) (_:∀ x∈args,closed2 x=true):args.length≤38∧BN tt call 1 Nc (Fr.made 38 args) (Ao tabs) (Fin tt 1 [.tmp 4] v):=by
 subst hcall
 unfold uG at hm
 replace hm:=Ad hm;obtain⟨a0,args_0,rfl,hm⟩:=hm
 replace hm:=Ad hm;obtain⟨a1,args_1,rfl,hm⟩:=hm
 replace hm:=AC hm;obtain⟨rfl,hm⟩:=hm
 replace hm:=BG hm;obtain⟨q0,rfl,hm⟩:=hm
 replace hm:=Ae hm;obtain⟨h0,hm⟩:=hm
 replace hm:=Ai hm;obtain⟨x0,rfl,hm⟩:=hm
 unfold UN at hm
 refine⟨by simp,?_⟩
 refine .same (F':=(fr 38 [(0,(.agg ⟨q0⟩)),(1,zI x0)])) (H':=BB) (by kernel_rfl) (by kernel_rfl) ?_
 refine .then (.rK ?_)
 replace hm:=Ae hm;obtain⟨h1,hm⟩:=hm
 refine .ghs (fr 38 [(1,zI x0),(2,pt 1 0)]) (hT 2 [oC q0]) (.k [1] [false] [.tmp 2 false] [1,2] ⟨Bp h1,trivial⟩) ?_
 refine .join (v:=v) (fun y:Unit=>((fr 38 []),BB)) (fun y=>Qz pu n) ?_ ?_
 ·rintro _ hm
  exact lS pu n hm
 ·refine .then (.rK (.ghs (fr 38 [(1,zI x0),(2,pt 1 0),(8,(zI (0:Int)))]) (hT 2 [oC q0]) (.k [1] [false] [.tmp 2 false] [1,2,8] ⟨Bp h1,trivial⟩) ?_))
  refine .block (.loopM (v:=v) (fun y:Int×Int×LV=>((fr 38 [(1,(zI y.1)),(2,pt 1 0),(8,(zI y.2.1))]),(hT 2 [(oC y.2.2)]))) (fun w y=>FD pu n w y.1 y.2.1 y.2.2) n ⟨(x0,(0:Int),q0),hm,(.k [1] [false] [.tmp 2 false] [1,2,8] ⟨Bp h1,trivial⟩)⟩ (fun _=>rfl) ?_)
  rintro w0 ⟨z0,z1,q1⟩ hm
  replace hm:K5 pu n (FD pu n w0) z0 z1 q1=some v:=hm
  unfold K5 at hm
  refine .then (.rK ?_)
  replace hm:=Ae hm;obtain⟨h2,hm⟩:=hm
  refine .ghs (fr 38 [(1,zI z0),(2,pt 1 0),(8,zI z1),(9,(zB (AY z1 (2:Int))))]) (hT 2 [oC q1]) (.k [1] [false] [.tmp 2 false] [1,2,8,9] ⟨Bp h2,trivial⟩) ?_
  refine .then ?_
  replace hm:=Ag hm;rcases hm with⟨h3,hm⟩ | ⟨h3,hm⟩
  ·refine DL (AY z1 (2:Int)) h3 ?_
   refine .skip (.ghs (fr 38 [(1,zI z0),(2,pt 1 0),(8,zI z1)]) (hT 2 [oC q1]) (.k [1] [false] [.tmp 2 false] [1,2,8] ⟨Bp h2,trivial⟩) ?_)
   refine .join (v:=v) (fun y:Int×Int×LV=>((fr 38 [(1,(zI y.1)),(2,pt 1 0),(8,(zI y.2.1))]),(hT 2 [(oC y.2.2)]))) (fun y=>QA pu n (FD pu n w0) y.1 y.2.1 y.2.2) ?_ ?_
   ·rintro⟨z2,z3,q2⟩ hm
    unfold QA at hm
    refine .rK ?_
    replace hm:=Ae hm;obtain⟨h4,hm⟩:=hm
    exact⟨(z2,(Aj .i64 (Int.add z3 (1:Int))),q2),hm,(.k [1] [false] [.tmp 2 false] [1,2,8] ⟨Bp h4,trivial⟩)⟩
   ·refine .block (.then (.rK (.ghs (fr 38 [(1,zI z0),(2,pt 1 0),(5,zI z1),(8,zI z1)]) (hT 2 [oC q1]) (.k [1] [false] [.tmp 2 false] [1,2,5,8] ⟨Bp h2,trivial⟩) ?_)))
    refine .then (.rK (.ghs (fr 38 [(1,zI z0),(2,pt 1 0),(5,zI z1),(6,(zU (0:Int))),(8,zI z1)]) (hT 2 [oC q1]) (.k [1] [false] [.tmp 2 false] [1,2,5,6,8] ⟨Bp h2,trivial⟩) ?_))
    refine .join (v:=v) (fun y:Int×Int×Int×Int×LV=>((fr 38 [(1,(zI y.1)),(2,pt 1 0),(5,(zI y.2.1)),(6,(zU y.2.2.1)),(8,(zI y.2.2.2.1))]),(hT 2 [(oC y.2.2.2.2)]))) (fun y=>I8 pu n (FD pu n w0) y.1 y.2.1 y.2.2.1 y.2.2.2.1 y.2.2.2.2) ?_ ?_
    ·rintro⟨z4,z5,z6,z7,q3⟩ hm
     unfold I8 at hm
     refine .then (.rK ?_)
     replace hm:=Ae hm;obtain⟨h5,hm⟩:=hm
     refine .ghs (fr 38 [(1,zI z4),(2,pt 1 0),(5,zI z5),(6,(zU z6)),(8,zI z7),(31,(zB (nt (Bd z6 (0:Int)))))]) (hT 2 [oC q3]) (.k [1] [false] [.tmp 2 false] [1,2,5,6,8,31] ⟨Bp h5,trivial⟩) ?_
     replace hm:=Ag hm;rcases hm with⟨h6,hm⟩ | ⟨h6,hm⟩
     ·refine DL (nt (Bd z6 (0:Int))) h6 ?_
      refine .then ?_
      replace hm:=IV hm;obtain⟨x1,h7,hm⟩:=hm
      refine .reg (eC 3 ((oo (pu 47 [(zU z6)]) none fun v=>some (v,(hT 2 [oC q3])))) (AB h7) (eE)) ?_
      refine .ghs (fr 38 [(4,(zI (Aj .i64 (Int.add (Aj .i64 (Int.mul (64:Int) z5)) x1))))]) BB (.k0 [false] [] [4]) ?_
      refine .ret ?_
      exact BO (zI (Aj .i64 (Int.add (Aj .i64 (Int.mul (64:Int) z5)) x1))) hm
     ·refine DT (nt (Bd z6 (0:Int))) h6 ?_
      refine .skip ?_
      exact⟨(z4,z7,q3),hm,(.k [1] [false] [.tmp 2 false] [1,2,8] ⟨Bp h5,trivial⟩)⟩
    ·refine .then (.rK (.ghs (fr 38 [(1,zI z0),(2,pt 1 0),(5,zI z1),(6,(zU (0:Int))),(7,(zI (1:Int))),(8,zI z1)]) (hT 2 [oC q1]) (.k [1] [false] [.tmp 2 false] [1,2,5,6,7,8] ⟨Bp h2,trivial⟩) ?_))
     refine .block (.loopM (v:=v) (fun y:Int×Int×Int×Int×Int×LV=>((fr 38 [(1,(zI y.1)),(2,pt 1 0),(5,(zI y.2.1)),(6,(zU y.2.2.1)),(7,(zI y.2.2.2.1)),(8,(zI y.2.2.2.2.1))]),(hT 2 [(oC y.2.2.2.2.2)]))) (fun w y=>OX pu n (FD pu n w0) w y.1 y.2.1 y.2.2.1 y.2.2.2.1 y.2.2.2.2.1 y.2.2.2.2.2) n ⟨(z0,z1,(0:Int),(1:Int),z1,q1),hm,(.k [1] [false] [.tmp 2 false] [1,2,5,6,7,8] ⟨Bp h2,trivial⟩)⟩ (fun _=>rfl) ?_)
     rintro w1 ⟨z8,z9,z10,z11,z12,q4⟩ hm
     replace hm:OW pu n (FD pu n w0) (OX pu n (FD pu n w0) w1) z8 z9 z10 z11 z12 q4=some v:=hm
     unfold OW at hm
     refine .then (.then (.rK ?_))
     replace hm:=Ae hm;obtain⟨h8,hm⟩:=hm
     refine .ghs (fr 38 [(1,zI z8),(2,pt 1 0),(5,zI z9),(6,(zU z10)),(7,zI z11),(8,zI z12),(13,(zB (AY z11 z8)))]) (hT 2 [oC q4]) (.k [1] [false] [.tmp 2 false] [1,2,5,6,7,8,13] ⟨Bp h8,trivial⟩) ?_
     replace hm:=Ag hm;rcases hm with⟨h9,hm⟩ | ⟨h9,hm⟩
     ·refine DL (AY z11 z8) h9 ?_
      refine .skip (.ghs (fr 38 [(1,zI z8),(2,pt 1 0),(5,zI z9),(6,(zU z10)),(7,zI z11),(8,zI z12)]) (hT 2 [oC q4]) (.k [1] [false] [.tmp 2 false] [1,2,5,6,7,8] ⟨Bp h8,trivial⟩) ?_)
      refine .then (.block ?_)
      replace hm:=Ab hm;obtain⟨k1,h10,hm⟩:=hm
      replace hm:=Ae hm;obtain⟨h11,hm⟩:=hm
      replace hm:=Ab hm;obtain⟨k2,h12,hm⟩:=hm
      obtain rfl:=AR h12
      replace hm:=Ae hm;obtain⟨h13,hm⟩:=hm
      replace hm:=IV hm;obtain⟨x2,h14,hm⟩:=hm
      replace hm:=Ab hm;obtain⟨k3,h15,hm⟩:=hm
      obtain rfl:=AR h15
      replace hm:=Ae hm;obtain⟨h16,hm⟩:=hm
      replace hm:=Ae hm;obtain⟨h17,hm⟩:=hm
      replace hm:=IV hm;obtain⟨x3,h18,hm⟩:=hm
      refine .reg (eN 6 (Fr.puts (fr 38 [(1,zI z8),(2,pt 1 0),(5,(zI (Int.ofNat k2))),(6,(zU z10)),(7,(zI (Int.ofNat k3))),(8,zI z12)]) [(16,(zU z10)),(17,(zI (Int.ofNat k3))),(18,(zI (Int.ofNat k1))),(19,(zI (Int.ofNat k2))),(20,(.pointer (some ⟨1,(0+k1*2),none⟩))),(21,(.pointer (some ⟨1,((0+k1*2)+k2*1),none⟩)))]) (hT 2 [oC q4]) (eC 2 (some ((zI (Aj .i64 (Int.sub (Int.ofNat k3) (1:Int)))),(hT 2 [oC q4]))) (show _=some ((zI (Int.ofNat k1)),_) from (by rw[AR h10])) (eC 1 (keep (hT 2 [oC q4]) (bb (Nat.blt k1 7) (some (.pointer (some ⟨1,(0+k1*2),none⟩))) none)) (AX h11) (eD (keep (hT 2 [oC q4]) (bb (Nat.blt k2 2) (some (.pointer (some ⟨1,((0+k1*2)+k2*1),none⟩))) none)) (AX h13) (by kernel_rfl)))) (eD (keep (hT 2 [oC q4]) (AL q4 ((0+k1*2)+k2*1))) (AZ h14) (eC 2 (keep (hT 2 [oC q4]) (bb (Nat.blt k3 7) (some (.pointer (some ⟨1,(0+k3*2),none⟩))) none)) (AX h16) (eD (keep (hT 2 [oC q4]) (bb (Nat.blt k2 2) (some (.pointer (some ⟨1,((0+k3*2)+k2*1),none⟩))) none)) (AX h17) (eD (keep (hT 2 [oC q4]) (AL q4 ((0+k3*2)+k2*1))) (AZ h18) (eE)))))) ?_
      refine .ghs (fr 38 [(1,zI z8),(2,pt 1 0),(5,(zI (Int.ofNat k2))),(6,(zU (jF .u64 z10 (QV .u64 x2 x3)))),(7,(zI (Int.ofNat k3))),(8,zI z12)]) (hT 2 [oC q4]) (.k [1] [false] [.tmp 2 false] [1,2,5,6,7,8] ⟨Bp h8,trivial⟩) ?_
      refine .rK ?_
      exact⟨(z8,(Int.ofNat k2),(jF .u64 z10 (QV .u64 x2 x3)),(Aj .i64 (Int.add (Int.ofNat k3) (1:Int))),z12,q4),hm,(.k [1] [false] [.tmp 2 false] [1,2,5,6,7,8] ⟨Bp h8,trivial⟩)⟩
     ·refine DT (AY z11 z8) h9 ?_
      refine .exit ?_
      exact⟨(z8,z9,z10,z12,q4),hm,(.k [1] [false] [.tmp 2 false] [1,2,5,6,8] ⟨Bp h8,trivial⟩)⟩
  ·refine DT (AY z1 (2:Int)) h3 ?_
   refine .exit ?_
   exact⟨(),hm,(.k0 [false] [] [])⟩
def MG (pu:Af) (n:Nat) (b0:Bool):OV:=
 (some (.bool b0))
def UO (pu:Af) (n:Nat) (x0 x1:Int):OV:=
 (oo (pu 53 [.int .i64 x0]) none fun v0=>(oo (Bf v0) none fun b0=>(bb b0 (oo (pu 53 [.int .i64 x1]) none fun v1=>(oo (Bf v1) none fun b1=>(bb (nt b1) (MG pu n true) (MG pu n (AY x0 x1))))) (MG pu n (AY x0 x1)))))
def uH (pu:Af) (n:Nat) (args:LV):OV:=
 (ll args none fun a0 args=>(ll args none fun a1 args=>(ll args (oo (Bi .i64 a0) none fun x0=>(oo (Bi .i64 a1) none fun x1=>(UO pu n x0 x1))) fun _ _=>none)))
theorem lT (pu:Af) (n:Nat) (b0:Bool) {v:Value} (hm:MG pu n b0=some v):BN tt (Bb tabs Fb pu (inl pu)) 1 .ret (fr 17 [(4,zB b0)]) BB (Fin tt 1 [.tmp 4] v):=by
 unfold MG at hm
 refine .ret ?_
 exact BO (zB b0) hm
theorem r39 {call:A8} (pu:Af) (n:Nat) (hcall:call=Bb tabs Fb pu (inl pu)) {args:LV} {v:Value} (hm:uH pu n args=some v) (_:∀ x∈args,closed2 x=true):args.length≤17∧BN tt call 1 Qs (Fr.made 17 args) (Ao tabs) (Fin tt 1 [.tmp 4] v):=by
 subst hcall
 unfold uH at hm
 replace hm:=Ad hm;obtain⟨a0,args_0,rfl,hm⟩:=hm
 replace hm:=Ad hm;obtain⟨a1,args_1,rfl,hm⟩:=hm
 replace hm:=AC hm;obtain⟨rfl,hm⟩:=hm
 replace hm:=Ai hm;obtain⟨x0,rfl,hm⟩:=hm
 replace hm:=Ai hm;obtain⟨x1,rfl,hm⟩:=hm
 unfold UO at hm
 refine⟨by simp,?_⟩
 refine .same (F':=(fr 17 [(0,zI x0),(1,zI x1)])) (H':=BB) (by kernel_rfl) (by kernel_rfl) ?_
 refine .then (.rK (.ghs (fr 17 [(0,zI x0),(1,zI x1)]) BB (.k0 [false] [] [0,1]) ?_))
 refine .join (v:=v) (fun y:Bool=>((fr 17 [(4,zB y)]),BB)) (fun y=>MG pu n y) ?_ ?_
 ·rintro b0 hm
  exact lT pu n b0 hm
 ·replace hm:=Yq hm;obtain⟨b1,h0,hm⟩:=hm
  replace hm:=Ag hm;rcases hm with⟨h1,hm⟩ | ⟨h1,hm⟩
  ·replace hm:=Yq hm;obtain⟨b2,h2,hm⟩:=hm
   replace hm:=Ag hm;rcases hm with⟨h3,hm⟩ | ⟨h3,hm⟩
   ·refine .reg (eC 1 ((oo (pu 53 [zI x0]) none fun v=>some (v,BB))) (show _=some ((zB true),_) from (by have hz:(oo (pu 53 [zI x0]) none fun v=>some (v,BB))=some ((zB b1),BB):=(AB h0);rw[h1] at hz;exact hz)) (eC 2 ((oo (pu 53 [zI x1]) none fun v=>some (v,BB))) (AB h2) (eD (some ((zB (nt b2)),BB)) (show _=some ((zB true),_) from (by rw[show (nt b2)=true from h3])) (eE)))) ?_
    exact⟨true,hm,(.k0 [false] [] [4])⟩
   ·refine .reg (eC 1 ((oo (pu 53 [zI x0]) none fun v=>some (v,BB))) (show _=some ((zB true),_) from (by have hz:(oo (pu 53 [zI x0]) none fun v=>some (v,BB))=some ((zB b1),BB):=(AB h0);rw[h1] at hz;exact hz)) (eC 2 ((oo (pu 53 [zI x1]) none fun v=>some (v,BB))) (AB h2) (eD (some ((zB (nt b2)),BB)) (show _=some ((zB false),_) from (by rw[show (nt b2)=false from h3])) (eE)))) ?_
    exact⟨(AY x0 x1),hm,(.k0 [false] [] [4])⟩
  ·refine .reg (eC 1 ((oo (pu 53 [zI x0]) none fun v=>some (v,BB))) (show _=some ((zB false),_) from (by have hz:(oo (pu 53 [zI x0]) none fun v=>some (v,BB))=some ((zB b1),BB):=(AB h0);rw[h1] at hz;exact hz)) (eE)) ?_
   exact⟨(AY x0 x1),hm,(.k0 [false] [] [4])⟩
def QB (pu:Af) (n:Nat):OV:=
 (some (.int .i64 (0:Int)))
def OY (pu:Af) (n:Nat) (ih0:Sl→Int→Int→Int→Sl→OV) (s0:Sl) (z0 z1:Int) (b0:Bool) (z2:Int) (s1:Sl) (z3 z4:Int):OV:=
 (bb b0 (some (.int .i64 (2:Int))) (bb (nt (AY z3 z4)) (some (.int .i64 (7:Int))) (ih0 s0 z0 (Aj .i64 (Int.add z1 (1:Int))) z2 s1)))
def OZ (pu:Af) (n:Nat) (ih0:Sl→Int→Int→Int→Sl→OV) (s0:Sl) (z0 z1 z2:Int) (s1:Sl):OV:=
 (bb (AY z1 z0) (oo (EA z1) none fun k1=>(bb (an (Nat.blt k1 (Sl.n s0)) true) (bb (Nat.ble ((k1*2)+2) (len (Sl.cs s0))) (oo (AL (Sl.cs s0) (k1*2)) none fun v0=>(oo (Bi .i64 v0) none fun x0=>(oo (AL (Sl.cs s0) ((k1*2)+1)) none fun v1=>(oo (Bi .i64 v1) none fun x1=>(bb (AY (bb (AY x1 x0) x1 x0) (0:Int)) (OY pu n ih0 s0 z0 (Int.ofNat k1) true z2 s1 x0 x1) (OY pu n ih0 s0 z0 (Int.ofNat k1) (nt (AY (bb (AY x0 x1) x1 x0) z2)) z2 s1 x0 x1)))))) none) none)) (QB pu n))
def K6 (pu:Af) (n w:Nat):Sl→Int→Int→Int→Sl→OV:=
 Nat.rec (motive:=fun _=>Sl→Int→Int→Int→Sl→OV) (fun _ _ _ _ _=>none) (fun _ ih0=>OZ pu n ih0) w
def lU (pu:Af) (n:Nat) (x0:Int) (s0:Sl):OV:=
 (oo (pu 20 [(.int .i64 (1:Int)),.int .i64 x0,(.int .i64 (7:Int))]) none fun v0=>(oo (Bf v0) none fun b0=>(bb (nt b0) (some (.int .i64 (1:Int))) (bb (AY (24:Int) (Int.ofNat (Sl.n s0))) (some (.int .i64 (3:Int))) (K6 pu n n s0 (Int.ofNat (Sl.n s0)) (0:Int) x0 s0)))))
def uI (pu:Af) (n:Nat) (args:LV):OV:=
 (ll args none fun a0 args=>(ll args (oo (Bt a0) none fun l0=>(ll l0 none fun v0 l0=>(ll l0 none fun v1 l0=>(ll l0 (oo (Bi .i64 v0) none fun x0=>(oo (Bj 2 v1) none fun s0=>(lU pu n x0 s0))) fun _ _=>none)))) fun _ _=>none))
theorem lV (pu:Af) (n:Nat) {v:Value} (hm:QB pu n=some v):BN tt (Bb tabs Fb pu (inl pu)) 1 R4 (fr 46 []) BB (Fin tt 1 [.tmp 2] v):=by
 unfold QB at hm
 refine .then (.rK (.ghs (fr 46 [(2,(zI (0:Int)))]) BB (.k0 [false] [] [2]) ?_))
 refine .ret ?_
 exact BO (zI (0:Int)) hm
theorem r40 {call:A8} (pu:Af) (n:Nat) (hcall:call=Bb tabs Fb pu (inl pu)) {args:LV} {v:Value} (hm:uI pu n args=some v) (_:∀ x∈args,closed2 x=true):args.length≤46∧BN tt call 1 Nf (Fr.made 46 args) (Ao tabs) (Fin tt 1 [.tmp 2] v):=by
 subst hcall
 unfold uI at hm
 replace hm:=Ad hm;obtain⟨a0,args_0,rfl,hm⟩:=hm
 replace hm:=AC hm;obtain⟨rfl,hm⟩:=hm
 replace hm:=BG hm;obtain⟨l0,rfl,hm⟩:=hm
 replace hm:=Ad hm;obtain⟨v0,l6688_0,rfl,hm⟩:=hm
 replace hm:=Ad hm;obtain⟨v1,l6688_1,rfl,hm⟩:=hm
 replace hm:=AC hm;obtain⟨rfl,hm⟩:=hm
 replace hm:=Ai hm;obtain⟨x0,rfl,hm⟩:=hm
 replace hm:=Al hm;obtain⟨s0,rfl,hm⟩:=hm
 unfold lU at hm
 refine⟨by simp,?_⟩
 refine .same (F':=(fr 46 [(0,(.agg ⟨[zI x0,(Sl.v 2 s0)]⟩))])) (H':=BB) (by kernel_rfl) (by kernel_rfl) ?_
 refine .then (.rK (.ghs (fr 46 [(1,pt 1 0)]) (hT 2 [(oC [zI x0,(Sl.v 2 s0)])]) (.k0 [false] [.tmp 1 false] [1]) ?_))
 refine .then (.block (.then ?_))
 replace hm:=Yq hm;obtain⟨b0,h0,hm⟩:=hm
 refine .reg (eC 2 ((oo (pu 20 [(zI (1:Int)),zI x0,(zI (7:Int))]) none fun v=>some (v,(hT 2 [(oC [zI x0,(Sl.v 2 s0)])])))) (AB h0) (eE)) ?_
 refine .ghs (fr 46 [(1,pt 1 0),(5,(zB (nt b0)))]) (hT 2 [(oC [zI x0,(Sl.v 2 s0)])]) (.k0 [false] [.tmp 1 false] [1,5]) ?_
 replace hm:=Ag hm;rcases hm with⟨h1,hm⟩ | ⟨h1,hm⟩
 ·refine DL (nt b0) h1 ?_
  refine .then (.rK (.ghs (fr 46 [(2,(zI (1:Int)))]) BB (.k0 [false] [] [2]) ?_))
  refine .ret ?_
  exact BO (zI (1:Int)) hm
 ·refine DT (nt b0) h1 ?_
  refine .then (.rK (.ghs (fr 46 [(1,pt 1 0),(10,(zB (AY (24:Int) (Int.ofNat (Sl.n s0)))))]) (hT 2 [(oC [zI x0,(Sl.v 2 s0)])]) (.k0 [false] [.tmp 1 false] [1,10]) ?_))
  replace hm:=Ag hm;rcases hm with⟨h2,hm⟩ | ⟨h2,hm⟩
  ·refine DL (AY (24:Int) (Int.ofNat (Sl.n s0))) h2 ?_
   refine .then (.rK (.ghs (fr 46 [(2,(zI (3:Int)))]) BB (.k0 [false] [] [2]) ?_))
   refine .ret ?_
   exact BO (zI (3:Int)) hm
  ·refine DT (AY (24:Int) (Int.ofNat (Sl.n s0))) h2 ?_
   refine .skip (.ghs (fr 46 [(1,pt 1 0)]) (hT 2 [(oC [zI x0,(Sl.v 2 s0)])]) (.k0 [false] [.tmp 1 false] [1]) ?_)
   refine .join (v:=v) (fun y:Unit=>((fr 46 []),BB)) (fun y=>QB pu n) ?_ ?_
   ·rintro _ hm
    exact lV pu n hm
   ·refine .then (.rK (.ghs (fr 46 [(1,pt 1 0),(16,(Sl.v 2 s0)),(17,(zI (Int.ofNat (Sl.n s0)))),(18,(zI (0:Int)))]) (hT 2 [(oC [zI x0,(Sl.v 2 s0)])]) (.k0 [false] [.tmp 1 false] [1,16,17,18]) ?_))
    refine .block (.loopM (v:=v) (fun y:Sl×Int×Int×Int×Sl=>((fr 46 [(1,pt 1 0),(16,(Sl.v 2 y.1)),(17,(zI y.2.1)),(18,(zI y.2.2.1))]),(hT 2 [(oC [(zI y.2.2.2.1),(Sl.v 2 y.2.2.2.2)])]))) (fun w y=>K6 pu n w y.1 y.2.1 y.2.2.1 y.2.2.2.1 y.2.2.2.2) n ⟨(s0,(Int.ofNat (Sl.n s0)),(0:Int),x0,s0),hm,(.k0 [false] [.tmp 1 false] [1,16,17,18])⟩ (fun _=>rfl) ?_)
    rintro w0 ⟨s1,z0,z1,z2,s2⟩ hm
    replace hm:OZ pu n (K6 pu n w0) s1 z0 z1 z2 s2=some v:=hm
    unfold OZ at hm
    refine .then (.rK (.ghs (fr 46 [(1,pt 1 0),(16,(Sl.v 2 s1)),(17,zI z0),(18,zI z1),(19,(zB (AY z1 z0)))]) (hT 2 [(oC [zI z2,(Sl.v 2 s2)])]) (.k0 [false] [.tmp 1 false] [1,16,17,18,19]) ?_))
    refine .then ?_
    replace hm:=Ag hm;rcases hm with⟨h3,hm⟩ | ⟨h3,hm⟩
    ·refine DL (AY z1 z0) h3 ?_
     refine .skip (.ghs (fr 46 [(1,pt 1 0),(16,(Sl.v 2 s1)),(17,zI z0),(18,zI z1)]) (hT 2 [(oC [zI z2,(Sl.v 2 s2)])]) (.k0 [false] [.tmp 1 false] [1,16,17,18]) ?_)
     refine .then (.block (.then ?_))
     replace hm:=Ab hm;obtain⟨k1,h4,hm⟩:=hm
     obtain rfl:=AR h4
     replace hm:=Ae hm;obtain⟨h5,hm⟩:=hm
     replace hm:=Ae hm;obtain⟨h6,hm⟩:=hm
     replace hm:=IV hm;obtain⟨x1,h7,hm⟩:=hm
     replace hm:=IV hm;obtain⟨x2,h8,hm⟩:=hm
     refine .reg (eD (keep (hT 2 [(oC [zI z2,(Sl.v 2 s2)])]) (bb (an (Nat.blt k1 (Sl.n s1)) true) (some (Cv (k1*2) (Sl.cs s1))) none)) (AX h5) (eD (keep (hT 2 [(oC [zI z2,(Sl.v 2 s2)])]) (bb (Nat.ble ((k1*2)+2) (len (Sl.cs s1))) (some (.agg ⟨Aq 2 (Am (k1*2) (Sl.cs s1))⟩)) none)) (Pd h6 (Ca h7 (Ca h8 rfl))) (eE))) ?_
     refine .ghs (fr 46 [(1,pt 1 0),(4,(pt 2 0)),(16,(Sl.v 2 s1)),(17,zI z0),(18,(zI (Int.ofNat k1)))]) (hT 3 [(oC [zI z2,(Sl.v 2 s2)]),(oC [zI x1,zI x2])]) (.k0 [false] [.tmp 1 false,.tmp 4 false] [1,4,16,17,18]) ?_
     refine .block (.join (v:=v) (fun y:Sl×Int×Int×Bool×Int×Sl×Int×Int=>((fr 46 [(1,pt 1 0),(4,(pt 2 0)),(16,(Sl.v 2 y.1)),(17,(zI y.2.1)),(18,(zI y.2.2.1)),(22,(zB y.2.2.2.1))]),(hT 3 [(oC [(zI y.2.2.2.2.1),(Sl.v 2 y.2.2.2.2.2.1)]),(oC [(zI y.2.2.2.2.2.2.1),(zI y.2.2.2.2.2.2.2)])]))) (fun y=>OY pu n (K6 pu n w0) y.1 y.2.1 y.2.2.1 y.2.2.2.1 y.2.2.2.2.1 y.2.2.2.2.2.1 y.2.2.2.2.2.2.1 y.2.2.2.2.2.2.2) ?_ ?_)
     ·rintro⟨s3,z3,z4,b1,z5,s4,z6,z7⟩ hm
      unfold OY at hm
      replace hm:=Ag hm;rcases hm with⟨h9,hm⟩ | ⟨h9,hm⟩
      ·refine .ifT b1 (by kernel_rfl) h9 ?_
       refine .then (.rK (.ghs (fr 46 [(2,(zI (2:Int)))]) BB (.k0 [false] [] [2]) ?_))
       refine .ret ?_
       exact BO (zI (2:Int)) hm
      ·refine .ifF b1 (by kernel_rfl) h9 ?_
       refine .then (.rK (.ghs (fr 46 [(1,pt 1 0),(16,(Sl.v 2 s3)),(17,zI z3),(18,zI z4),(39,(zB (nt (AY z6 z7))))]) (hT 2 [(oC [zI z5,(Sl.v 2 s4)])]) (.k0 [false] [.tmp 1 false] [1,16,17,18,39]) ?_))
       replace hm:=Ag hm;rcases hm with⟨h10,hm⟩ | ⟨h10,hm⟩
       ·refine DL (nt (AY z6 z7)) h10 ?_
        refine .then (.rK (.ghs (fr 46 [(2,(zI (7:Int)))]) BB (.k0 [false] [] [2]) ?_))
        refine .ret ?_
        exact BO (zI (7:Int)) hm
       ·refine DT (nt (AY z6 z7)) h10 ?_
        refine .skip (.ghs (fr 46 [(1,pt 1 0),(16,(Sl.v 2 s3)),(17,zI z3),(18,zI z4)]) (hT 2 [(oC [zI z5,(Sl.v 2 s4)])]) (.k0 [false] [.tmp 1 false] [1,16,17,18]) ?_)
        refine .rK ?_
        exact⟨(s3,z3,(Aj .i64 (Int.add z4 (1:Int))),z5,s4),hm,(.k0 [false] [.tmp 1 false] [1,16,17,18])⟩
     ·replace hm:=Ag hm;rcases hm with⟨h11,hm⟩ | ⟨h11,hm⟩
      ·refine .reg (eC 5 (some ((zB (AY (bb (AY x2 x1) x2 x1) (0:Int))),(hT 3 [(oC [zI z2,(Sl.v 2 s2)]),(oC [zI x1,zI x2])]))) (show _=some ((zB true),_) from (by rw[show (AY (bb (AY x2 x1) x2 x1) (0:Int))=true from h11])) (eE)) ?_
       exact⟨(s1,z0,(Int.ofNat k1),true,z2,s2,x1,x2),hm,(.k0 [false] [.tmp 1 false,.tmp 4 false] [1,4,16,17,18,22])⟩
      ·refine .reg (eC 5 (some ((zB (AY (bb (AY x2 x1) x2 x1) (0:Int))),(hT 3 [(oC [zI z2,(Sl.v 2 s2)]),(oC [zI x1,zI x2])]))) (show _=some ((zB false),_) from (by rw[show (AY (bb (AY x2 x1) x2 x1) (0:Int))=false from h11])) (eE)) ?_
       exact⟨(s1,z0,(Int.ofNat k1),(nt (AY (bb (AY x1 x2) x2 x1) z2)),z2,s2,x1,x2),hm,(.k0 [false] [.tmp 1 false,.tmp 4 false] [1,4,16,17,18,22])⟩
    ·refine DT (AY z1 z0) h3 ?_
     refine .exit ?_
     exact⟨(),hm,(.k0 [false] [] [])⟩
def QC (pu:Af) (n:Nat):OV:=
 (some (.int .i64 (-1:Int)))
def K7 (pu:Af) (n:Nat) (ih0:Sl→Int→Int→Int→OV) (s0:Sl) (z0 z1 z2:Int):OV:=
 (bb (AY z2 z1) (oo (EA z2) none fun k1=>(bb (an (Nat.blt k1 (Sl.n s0)) true) (oo (AL (Sl.cs s0) (k1*1)) none fun v0=>(oo (Bi .i64 v0) none fun x0=>(bb (Bd z0 x0) (some (.int .i64 (Int.ofNat k1))) (ih0 s0 z0 z1 (Aj .i64 (Int.add (Int.ofNat k1) (1:Int))))))) none)) (QC pu n))
def K8 (pu:Af) (n w:Nat):Sl→Int→Int→Int→OV:=
 Nat.rec (motive:=fun _=>Sl→Int→Int→Int→OV) (fun _ _ _ _=>none) (fun _ ih0=>K7 pu n ih0) w
def lW (pu:Af) (n:Nat) (s0:Sl) (x0:Int):OV:=
 (K8 pu n n s0 x0 (Int.ofNat (Sl.n s0)) (0:Int))
def uJ (pu:Af) (n:Nat) (args:LV):OV:=
 (ll args none fun a0 args=>(ll args none fun a1 args=>(ll args (oo (Bj 1 a0) none fun s0=>(oo (Bi .i64 a1) none fun x0=>(lW pu n s0 x0))) fun _ _=>none)))
theorem lX (pu:Af) (n:Nat) {v:Value} (hm:QC pu n=some v):BN tt (Bb tabs Fb pu (inl pu)) 1 R5 (fr 19 []) BB (Fin tt 1 [.tmp 4] v):=by
 unfold QC at hm
 refine .then (.rK (.ghs (fr 19 [(4,(zI (-1:Int)))]) BB (.k0 [false] [] [4]) ?_))
 refine .ret ?_
 exact BO (zI (-1:Int)) hm
theorem r42 {call:A8} (pu:Af) (n:Nat) (hcall:call=Bb tabs Fb pu (inl pu)) {args:LV} {v:Value} (hm:uJ pu n args=some v) (_:∀ x∈args,closed2 x=true):args.length≤19∧BN tt call 1 Ng (Fr.made 19 args) (Ao tabs) (Fin tt 1 [.tmp 4] v):=by
 subst hcall
 unfold uJ at hm
 replace hm:=Ad hm;obtain⟨a0,args_0,rfl,hm⟩:=hm
 replace hm:=Ad hm;obtain⟨a1,args_1,rfl,hm⟩:=hm
 replace hm:=AC hm;obtain⟨rfl,hm⟩:=hm
 replace hm:=Al hm;obtain⟨s0,rfl,hm⟩:=hm
 replace hm:=Ai hm;obtain⟨x0,rfl,hm⟩:=hm
 unfold lW at hm
 refine⟨by simp,?_⟩
 refine .same (F':=(fr 19 [(0,Sl.v 1 s0),(1,zI x0)])) (H':=BB) (by kernel_rfl) (by kernel_rfl) ?_
 refine .then (.rK (.ghs (fr 19 [(0,Sl.v 1 s0),(1,zI x0)]) BB (.k0 [false] [] [0,1]) ?_))
 refine .join (v:=v) (fun y:Unit=>((fr 19 []),BB)) (fun y=>QC pu n) ?_ ?_
 ·rintro _ hm
  exact lX pu n hm
 ·refine .then (.rK (.ghs (fr 19 [(0,Sl.v 1 s0),(1,zI x0),(7,(zI (Int.ofNat (Sl.n s0)))),(8,(zI (0:Int)))]) BB (.k0 [false] [] [0,1,7,8]) ?_))
  refine .block (.loopM (v:=v) (fun y:Sl×Int×Int×Int=>((fr 19 [(0,(Sl.v 1 y.1)),(1,(zI y.2.1)),(7,(zI y.2.2.1)),(8,(zI y.2.2.2))]),BB)) (fun w y=>K8 pu n w y.1 y.2.1 y.2.2.1 y.2.2.2) n ⟨(s0,x0,(Int.ofNat (Sl.n s0)),(0:Int)),hm,(.k0 [false] [] [0,1,7,8])⟩ (fun _=>rfl) ?_)
  rintro w0 ⟨s1,z0,z1,z2⟩ hm
  replace hm:K7 pu n (K8 pu n w0) s1 z0 z1 z2=some v:=hm
  unfold K7 at hm
  refine .then (.rK (.ghs (fr 19 [(0,Sl.v 1 s1),(1,zI z0),(7,zI z1),(8,zI z2),(9,(zB (AY z2 z1)))]) BB (.k0 [false] [] [0,1,7,8,9]) ?_))
  refine .then ?_
  replace hm:=Ag hm;rcases hm with⟨h0,hm⟩ | ⟨h0,hm⟩
  ·refine DL (AY z2 z1) h0 ?_
   refine .skip (.ghs (fr 19 [(0,Sl.v 1 s1),(1,zI z0),(7,zI z1),(8,zI z2)]) BB (.k0 [false] [] [0,1,7,8]) ?_)
   refine .then (.block (.then (.rK (.ghs (fr 19 [(0,Sl.v 1 s1),(1,zI z0),(5,zI z2),(7,zI z1),(8,zI z2)]) BB (.k0 [false] [] [0,1,5,7,8]) ?_))))
   refine .then ?_
   replace hm:=Ab hm;obtain⟨k1,h1,hm⟩:=hm
   obtain rfl:=AR h1
   replace hm:=Ae hm;obtain⟨h2,hm⟩:=hm
   replace hm:=IV hm;obtain⟨x1,h3,hm⟩:=hm
   refine .reg (eC 3 (keep BB (bb (an (Nat.blt k1 (Sl.n s1)) true) (some (Cv (k1*1) (Sl.cs s1))) none)) (AX h2) (eD (keep BB (AL (Sl.cs s1) (k1*1))) (AZ h3) (eE))) ?_
   refine .ghs (fr 19 [(0,Sl.v 1 s1),(1,zI z0),(5,(zI (Int.ofNat k1))),(7,zI z1),(8,(zI (Int.ofNat k1))),(16,(zB (Bd z0 x1)))]) BB (.k0 [false] [] [0,1,5,7,8,16]) ?_
   replace hm:=Ag hm;rcases hm with⟨h4,hm⟩ | ⟨h4,hm⟩
   ·refine DL (Bd z0 x1) h4 ?_
    refine .then (.rK (.ghs (fr 19 [(4,(zI (Int.ofNat k1)))]) BB (.k0 [false] [] [4]) ?_))
    refine .ret ?_
    exact BO (zI (Int.ofNat k1)) hm
   ·refine DT (Bd z0 x1) h4 ?_
    refine .skip (.ghs (fr 19 [(0,Sl.v 1 s1),(1,zI z0),(7,zI z1),(8,(zI (Int.ofNat k1)))]) BB (.k0 [false] [] [0,1,7,8]) ?_)
    refine .rK ?_
    exact⟨(s1,z0,z1,(Aj .i64 (Int.add (Int.ofNat k1) (1:Int)))),hm,(.k0 [false] [] [0,1,7,8])⟩
  ·refine DT (AY z2 z1) h0 ?_
   refine .exit ?_
   exact⟨(),hm,(.k0 [false] [] [])⟩
def QD (pu:Af) (n:Nat) (q0:LV) (q1:LV):OV:=
 (bb (Nat.ble (0+14) (len q1)) (bb (Nat.beq (len (Aq 14 (Am 0 q1))) 14) (bb (an (Nat.ble (0+len (Aq 14 (Am 0 q1))) (len q0)) (Au D6 (Aq 14 (Am 0 q1)))) (bb (Au Ah (BM (Aq 14 (Am 0 q1)) 0 q0)) (bb (Nat.ble (0+14) (len (BM (Aq 14 (Am 0 q1)) 0 q0))) (bb (Fe (.agg ⟨(Aq 14 (Am 0 (BM (Aq 14 (Am 0 q1)) 0 q0)))⟩)) (some (.agg ⟨(Aq 14 (Am 0 (BM (Aq 14 (Am 0 q1)) 0 q0)))⟩)) none) none) none) none) none) none)
def Si (pu:Af) (n:Nat) (ih0:Int→Int→Int→LV→LV→OV) (z0 z1 z2:Int) (q0:LV) (q1:LV):OV:=
 (bb (Au Ah q0) (bb (Au Ah q1) (ih0 z0 z1 (Aj .i64 (Int.add z2 (1:Int))) q0 q1) none) none)
def Sj (pu:Af) (n:Nat) (ih0:Int→Int→Int→LV→LV→OV) (ih1:Int→Int→Int→Int→Int→Int→LV→LV→OV) (z0 z1 z2 z3 z4 z5:Int) (q0:LV) (q1:LV):OV:=
 (bb (Au Ah q0) (bb (Au Ah q1) (bb (AY z5 z4) (oo (EA (Aj .i64 (Int.tdiv z1 (64:Int)))) none fun k1=>(oo (EA z5) none fun k2=>(bb (Nat.blt k2 7) (bb (Nat.blt k1 2) (oo (AL q1 ((0+k2*2)+k1*1)) none fun v0=>(oo (Bi .u64 v0) none fun x0=>(oo (EA (Aj .i64 (Int.sub (Aj .i64 (Int.sub z0 (1:Int))) (Int.ofNat k2)))) none fun k3=>(oo (EA (Int.tmod z1 (64:Int))) none fun k4=>(bb (Nat.blt k2 7) (bb (Nat.blt k1 2) (bb (an (Nat.ble (((0+k2*2)+k1*1)+1) (len q1)) true) (bb (Au Ah (BM ([(.int .u64 (jF .u64 x0 (QW .u64 (Aj .u64 (Np .i64 (G6 .i64 z1 k3) (1:Int))) k4)))]:LV) ((0+k2*2)+k1*1) q1)) (ih1 z0 z1 z2 z3 z4 (Aj .i64 (Int.add (Int.ofNat k2) (1:Int))) q0 (BM ([(.int .u64 (jF .u64 x0 (QW .u64 (Aj .u64 (Np .i64 (G6 .i64 z1 k3) (1:Int))) k4)))]:LV) ((0+k2*2)+k1*1) q1)) none) none) none) none))))) none) none))) (Si pu n ih0 z0 z2 z3 q0 q1)) none) none)
def Sk (pu:Af) (n:Nat) (ih0:Int→Int→Int→LV→LV→OV) (w:Nat):Int→Int→Int→Int→Int→Int→LV→LV→OV:=
 Nat.rec (motive:=fun _=>Int→Int→Int→Int→Int→Int→LV→LV→OV) (fun _ _ _ _ _ _ _ _=>none) (fun _ ih1=>Sj pu n ih0 ih1) w
def Sm (pu:Af) (n:Nat) (ih0:Int→Int→Int→LV→LV→OV) (z0 z1 z2:Int) (q0:LV) (q1:LV):OV:=
 (bb (Au Ah q0) (bb (Au Ah q1) (bb (AY z2 z1) (Sk pu n ih0 n z0 z2 z1 z2 z0 (0:Int) q0 q1) (QD pu n q0 q1)) none) none)
def K9 (pu:Af) (n w:Nat):Int→Int→Int→LV→LV→OV:=
 Nat.rec (motive:=fun _=>Int→Int→Int→LV→LV→OV) (fun _ _ _ _ _=>none) (fun _ ih0=>Sm pu n ih0) w
def lY (pu:Af) (n:Nat) (x0:Int):OV:=
 (bb (Au Ah Bq) (oo (EA x0) none fun k1=>(K9 pu n n (Int.ofNat k1) (QW .i64 (1:Int) k1) (0:Int) Bq Bq)) none)
def uK (pu:Af) (n:Nat) (args:LV):OV:=
 (ll args none fun a0 args=>(ll args (oo (Bi .i64 a0) none fun x0=>(lY pu n x0)) fun _ _=>none))
theorem lZ (pu:Af) (n:Nat) (q0:LV) (q1:LV) {v:Value} (hm:QD pu n q0 q1=some v):BN tt (Bb tabs Fb pu (inl pu)) 1 R6 (fr 38 [(2,pt 1 0),(3,(pt 2 0))]) (hT 3 [oC q0,oC q1]) (Fin tt 1 [.cell 2 52] v):=by
 unfold QD at hm
 refine .then ?_
 replace hm:=Ae hm;obtain⟨h0,hm⟩:=hm
 replace hm:=Ae hm;obtain⟨h1,hm⟩:=hm
 replace hm:=Ae hm;obtain⟨h2,hm⟩:=hm
 refine .reg (eD (keep (hT 3 [oC q0,oC q1]) (bb (Nat.ble (0+14) (len q1)) (some (.agg ⟨(Aq 14 (Am 0 q1))⟩)) none)) (AX h0) (eD (done (bb (Nat.beq (len (Aq 14 (Am 0 q1))) 14) (bb (an (Nat.ble (0+len (Aq 14 (Am 0 q1))) (len q0)) (Au D6 (Aq 14 (Am 0 q1)))) (some (hT 3 [(oC (BM (Aq 14 (Am 0 q1)) 0 q0)),oC q1])) none) none) undef) (bH h1 h2) (eE))) ?_
 replace hm:=Ae hm;obtain⟨h3,hm⟩:=hm
 refine .ghs (fr 38 [(2,pt 1 0)]) (hT 2 [(oC (BM (Aq 14 (Am 0 q1)) 0 q0))]) (.k [1] [false] [.tmp 2 false] [2] ⟨Bp h3,trivial⟩) ?_
 refine .ret ?_
 replace hm:=Ae hm;obtain⟨h4,hm⟩:=hm
 replace hm:=Ae hm;obtain⟨h5,hm⟩:=hm
 exact kI (.agg ⟨(Aq 14 (Am 0 (BM (Aq 14 (Am 0 q1)) 0 q0)))⟩) (SN (Oh (show Q6 _ _ _ _=some (.agg ⟨(Aq 14 (Am 0 (BM (Aq 14 (Am 0 q1)) 0 q0)))⟩) from (Aex (c:=(Nat.ble (0+14) (len (BM (Aq 14 (Am 0 q1)) 0 q0)))) (by kernel_rfl) h4)) rfl) (by kernel_rfl)) h5 hm
theorem r43 {call:A8} (pu:Af) (n:Nat) (hcall:call=Bb tabs Fb pu (inl pu)) {args:LV} {v:Value} (hm:uK pu n args=some v) (_:∀ x∈args,closed2 x=true):args.length≤38∧BN tt call 1 Nh (Fr.made 38 args) (Ao tabs) (Fin tt 1 [.cell 2 52] v):=by
 subst hcall
 unfold uK at hm
 replace hm:=Ad hm;obtain⟨a0,args_0,rfl,hm⟩:=hm
 replace hm:=AC hm;obtain⟨rfl,hm⟩:=hm
 replace hm:=Ai hm;obtain⟨x0,rfl,hm⟩:=hm
 unfold lY at hm
 refine⟨by simp,?_⟩
 refine .same (F':=(fr 38 [(0,zI x0)])) (H':=BB) (by kernel_rfl) (by kernel_rfl) ?_
 refine .then (.rK ?_)
 replace hm:=Ae hm;obtain⟨h0,hm⟩:=hm
 refine .ghs (fr 38 [(0,zI x0),(2,pt 1 0)]) (hT 2 [oC Bq]) (.k [1] [false] [.tmp 2 false] [0,2] ⟨Bp h0,trivial⟩) ?_
 refine .then (.rK (.ghs (fr 38 [(0,zI x0),(2,pt 1 0),(3,(pt 2 0))]) (hT 3 [oC Bq,oC Bq]) (.k [1,2] [false] [.tmp 2 false,.tmp 3 false] [0,2,3] ⟨Bp h0,Bp h0,trivial⟩) ?_))
 refine .join (v:=v) (fun y:LV×LV=>((fr 38 [(2,pt 1 0),(3,(pt 2 0))]),(hT 3 [(oC y.1),(oC y.2)]))) (fun y=>QD pu n y.1 y.2) ?_ ?_
 ·rintro⟨q0,q1⟩ hm
  exact lZ pu n q0 q1 hm
 ·refine .then ?_
  replace hm:=Ab hm;obtain⟨k1,h1,hm⟩:=hm
  obtain rfl:=AR h1
  refine .rK (.ghs (fr 38 [(0,(zI (Int.ofNat k1))),(2,pt 1 0),(3,(pt 2 0)),(7,(zI (QW .i64 (1:Int) k1))),(8,(zI (0:Int)))]) (hT 3 [oC Bq,oC Bq]) (.k [1,2] [false] [.tmp 2 false,.tmp 3 false] [0,2,3,7,8] ⟨Bp h0,Bp h0,trivial⟩) ?_)
  refine .block (.loopM (v:=v) (fun y:Int×Int×Int×LV×LV=>((fr 38 [(0,(zI y.1)),(2,pt 1 0),(3,(pt 2 0)),(7,(zI y.2.1)),(8,(zI y.2.2.1))]),(hT 3 [(oC y.2.2.2.1),(oC y.2.2.2.2)]))) (fun w y=>K9 pu n w y.1 y.2.1 y.2.2.1 y.2.2.2.1 y.2.2.2.2) n ⟨((Int.ofNat k1),(QW .i64 (1:Int) k1),(0:Int),Bq,Bq),hm,(.k [1,2] [false] [.tmp 2 false,.tmp 3 false] [0,2,3,7,8] ⟨Bp h0,Bp h0,trivial⟩)⟩ (fun _=>rfl) ?_)
  rintro w0 ⟨z0,z1,z2,q2,q3⟩ hm
  replace hm:Sm pu n (K9 pu n w0) z0 z1 z2 q2 q3=some v:=hm
  unfold Sm at hm
  refine .then (.rK ?_)
  replace hm:=Ae hm;obtain⟨h2,hm⟩:=hm
  replace hm:=Ae hm;obtain⟨h3,hm⟩:=hm
  refine .ghs (fr 38 [(0,zI z0),(2,pt 1 0),(3,(pt 2 0)),(7,zI z1),(8,zI z2),(9,(zB (AY z2 z1)))]) (hT 3 [oC q2,oC q3]) (.k [1,2] [false] [.tmp 2 false,.tmp 3 false] [0,2,3,7,8,9] ⟨Bp h2,Bp h3,trivial⟩) ?_
  refine .then ?_
  replace hm:=Ag hm;rcases hm with⟨h4,hm⟩ | ⟨h4,hm⟩
  ·refine DL (AY z2 z1) h4 ?_
   refine .skip (.ghs (fr 38 [(0,zI z0),(2,pt 1 0),(3,(pt 2 0)),(7,zI z1),(8,zI z2)]) (hT 3 [oC q2,oC q3]) (.k [1,2] [false] [.tmp 2 false,.tmp 3 false] [0,2,3,7,8] ⟨Bp h2,Bp h3,trivial⟩) ?_)
   refine .join (v:=v) (fun y:Int×Int×Int×LV×LV=>((fr 38 [(0,(zI y.1)),(2,pt 1 0),(3,(pt 2 0)),(7,(zI y.2.1)),(8,(zI y.2.2.1))]),(hT 3 [(oC y.2.2.2.1),(oC y.2.2.2.2)]))) (fun y=>Si pu n (K9 pu n w0) y.1 y.2.1 y.2.2.1 y.2.2.2.1 y.2.2.2.2) ?_ ?_
   ·rintro⟨z3,z4,z5,q4,q5⟩ hm
    unfold Si at hm
    refine .rK ?_
    replace hm:=Ae hm;obtain⟨h5,hm⟩:=hm
    replace hm:=Ae hm;obtain⟨h6,hm⟩:=hm
    exact⟨(z3,z4,(Aj .i64 (Int.add z5 (1:Int))),q4,q5),hm,(.k [1,2] [false] [.tmp 2 false,.tmp 3 false] [0,2,3,7,8] ⟨Bp h5,Bp h6,trivial⟩)⟩
   ·refine .block (.then (.rK (.ghs (fr 38 [(0,zI z0),(2,pt 1 0),(3,(pt 2 0)),(4,zI z2),(7,zI z1),(8,zI z2)]) (hT 3 [oC q2,oC q3]) (.k [1,2] [false] [.tmp 2 false,.tmp 3 false] [0,2,3,4,7,8] ⟨Bp h2,Bp h3,trivial⟩) ?_)))
    refine .then (.rK (.ghs (fr 38 [(0,zI z0),(2,pt 1 0),(3,(pt 2 0)),(4,zI z2),(7,zI z1),(8,zI z2),(11,zI z0),(12,(zI (0:Int)))]) (hT 3 [oC q2,oC q3]) (.k [1,2] [false] [.tmp 2 false,.tmp 3 false] [0,2,3,4,7,8,11,12] ⟨Bp h2,Bp h3,trivial⟩) ?_))
    refine .block (.loopM (v:=v) (fun y:Int×Int×Int×Int×Int×Int×LV×LV=>((fr 38 [(0,(zI y.1)),(2,pt 1 0),(3,(pt 2 0)),(4,(zI y.2.1)),(7,(zI y.2.2.1)),(8,(zI y.2.2.2.1)),(11,(zI y.2.2.2.2.1)),(12,(zI y.2.2.2.2.2.1))]),(hT 3 [(oC y.2.2.2.2.2.2.1),(oC y.2.2.2.2.2.2.2)]))) (fun w y=>Sk pu n (K9 pu n w0) w y.1 y.2.1 y.2.2.1 y.2.2.2.1 y.2.2.2.2.1 y.2.2.2.2.2.1 y.2.2.2.2.2.2.1 y.2.2.2.2.2.2.2) n ⟨(z0,z2,z1,z2,z0,(0:Int),q2,q3),hm,(.k [1,2] [false] [.tmp 2 false,.tmp 3 false] [0,2,3,4,7,8,11,12] ⟨Bp h2,Bp h3,trivial⟩)⟩ (fun _=>rfl) ?_)
    rintro w1 ⟨z6,z7,z8,z9,z10,z11,q6,q7⟩ hm
    replace hm:Sj pu n (K9 pu n w0) (Sk pu n (K9 pu n w0) w1) z6 z7 z8 z9 z10 z11 q6 q7=some v:=hm
    unfold Sj at hm
    refine .then (.rK ?_)
    replace hm:=Ae hm;obtain⟨h7,hm⟩:=hm
    replace hm:=Ae hm;obtain⟨h8,hm⟩:=hm
    refine .ghs (fr 38 [(0,zI z6),(2,pt 1 0),(3,(pt 2 0)),(4,zI z7),(7,zI z8),(8,zI z9),(11,zI z10),(12,zI z11),(13,(zB (AY z11 z10)))]) (hT 3 [oC q6,oC q7]) (.k [1,2] [false] [.tmp 2 false,.tmp 3 false] [0,2,3,4,7,8,11,12,13] ⟨Bp h7,Bp h8,trivial⟩) ?_
    refine .then ?_
    replace hm:=Ag hm;rcases hm with⟨h9,hm⟩ | ⟨h9,hm⟩
    ·refine DL (AY z11 z10) h9 ?_
     refine .skip (.ghs (fr 38 [(0,zI z6),(2,pt 1 0),(3,(pt 2 0)),(4,zI z7),(7,zI z8),(8,zI z9),(11,zI z10),(12,zI z11)]) (hT 3 [oC q6,oC q7]) (.k [1,2] [false] [.tmp 2 false,.tmp 3 false] [0,2,3,4,7,8,11,12] ⟨Bp h7,Bp h8,trivial⟩) ?_)
     refine .then (.block (.then (.rK (.ghs (fr 38 [(0,zI z6),(2,pt 1 0),(3,(pt 2 0)),(4,zI z7),(5,zI z11),(7,zI z8),(8,zI z9),(11,zI z10),(12,zI z11)]) (hT 3 [oC q6,oC q7]) (.k [1,2] [false] [.tmp 2 false,.tmp 3 false] [0,2,3,4,5,7,8,11,12] ⟨Bp h7,Bp h8,trivial⟩) ?_))))
     replace hm:=Ab hm;obtain⟨k2,h10,hm⟩:=hm
     replace hm:=Ab hm;obtain⟨k3,h11,hm⟩:=hm
     obtain rfl:=AR h11
     replace hm:=Ae hm;obtain⟨h12,hm⟩:=hm
     replace hm:=Ae hm;obtain⟨h13,hm⟩:=hm
     replace hm:=IV hm;obtain⟨x1,h14,hm⟩:=hm
     replace hm:=Ab hm;obtain⟨k4,h15,hm⟩:=hm
     replace hm:=Ab hm;obtain⟨k5,h16,hm⟩:=hm
     replace hm:=Ae hm;obtain⟨h17,hm⟩:=hm
     replace hm:=Ae hm;obtain⟨h18,hm⟩:=hm
     replace hm:=Ae hm;obtain⟨h19,hm⟩:=hm
     refine .reg (eN 5 (Fr.puts (fr 38 [(0,zI z6),(2,pt 1 0),(3,(pt 2 0)),(4,zI z7),(5,(zI (Int.ofNat k3))),(7,zI z8),(8,zI z9),(11,zI z10),(12,(zI (Int.ofNat k3)))]) [(15,(zI (Int.ofNat k3))),(16,zI z7),(17,(zI (Int.ofNat k2))),(18,(.pointer (some ⟨2,(0+k3*2),none⟩))),(19,(.pointer (some ⟨2,((0+k3*2)+k2*1),none⟩)))]) (hT 3 [oC q6,oC q7]) (eC 2 (some ((zI (Aj .i64 (Int.tdiv z7 (64:Int)))),(hT 3 [oC q6,oC q7]))) (show _=some ((zI (Int.ofNat k2)),_) from (by rw[AR h10])) (eD (keep (hT 3 [oC q6,oC q7]) (bb (Nat.blt k3 7) (some (.pointer (some ⟨2,(0+k3*2),none⟩))) none)) (AX h12) (eD (keep (hT 3 [oC q6,oC q7]) (bb (Nat.blt k2 2) (some (.pointer (some ⟨2,((0+k3*2)+k2*1),none⟩))) none)) (AX h13) (by kernel_rfl)))) (eN 11 (Fr.puts (fr 38 [(0,zI z6),(2,pt 1 0),(3,(pt 2 0)),(4,zI z7),(5,(zI (Int.ofNat k3))),(7,zI z8),(8,zI z9),(11,zI z10),(12,(zI (Int.ofNat k3)))]) [(15,(zI (Int.ofNat k3))),(16,zI z7),(17,(zI (Int.ofNat k2))),(18,(.pointer (some ⟨2,(0+k3*2),none⟩))),(19,(.pointer (some ⟨2,((0+k3*2)+k2*1),none⟩))),(20,(zU x1)),(21,zI z7),(22,zI z6),(23,(zI (Aj .i64 (Int.sub z6 (1:Int))))),(24,(zI (Int.ofNat k3))),(25,(zI (Int.ofNat k4))),(26,(zI (G6 .i64 z7 k4))),(27,(zI (Np .i64 (G6 .i64 z7 k4) (1:Int)))),(28,(zU (Aj .u64 (Np .i64 (G6 .i64 z7 k4) (1:Int))))),(29,zI z7),(30,(zI (Int.ofNat k5)))]) (hT 3 [oC q6,oC q7]) (eD (keep (hT 3 [oC q6,oC q7]) (AL q7 ((0+k3*2)+k2*1))) (AZ h14) (eC 4 (some ((zI (Aj .i64 (Int.sub (Aj .i64 (Int.sub z6 (1:Int))) (Int.ofNat k3)))),(hT 3 [oC q6,oC q7]))) (show _=some ((zI (Int.ofNat k4)),_) from (by rw[AR h15])) (eC 4 (some ((zI (Int.tmod z7 (64:Int))),(hT 3 [oC q6,oC q7]))) (show _=some ((zI (Int.ofNat k5)),_) from (by rw[AR h16])) (by kernel_rfl)))) (eC 2 (keep (hT 3 [oC q6,oC q7]) (bb (Nat.blt k3 7) (some (.pointer (some ⟨2,(0+k3*2),none⟩))) none)) (AX h17) (eD (keep (hT 3 [oC q6,oC q7]) (bb (Nat.blt k2 2) (some (.pointer (some ⟨2,((0+k3*2)+k2*1),none⟩))) none)) (AX h18) (eD (done (bb (an (Nat.ble (((0+k3*2)+k2*1)+1) (len q7)) true) (some (hT 3 [oC q6,(oC (BM ([(zU (jF .u64 x1 (QW .u64 (Aj .u64 (Np .i64 (G6 .i64 z7 k4) (1:Int))) k5)))]:LV) ((0+k3*2)+k2*1) q7))])) none) undef) (Js h19) (eE)))))) ?_
     replace hm:=Ae hm;obtain⟨h20,hm⟩:=hm
     refine .ghs (fr 38 [(0,zI z6),(2,pt 1 0),(3,(pt 2 0)),(4,zI z7),(7,zI z8),(8,zI z9),(11,zI z10),(12,(zI (Int.ofNat k3)))]) (hT 3 [oC q6,(oC (BM ([(zU (jF .u64 x1 (QW .u64 (Aj .u64 (Np .i64 (G6 .i64 z7 k4) (1:Int))) k5)))]:LV) ((0+k3*2)+k2*1) q7))]) (.k [1,2] [false] [.tmp 2 false,.tmp 3 false] [0,2,3,4,7,8,11,12] ⟨Bp h7,Bp h20,trivial⟩) ?_
     refine .rK ?_
     exact⟨(z6,z7,z8,z9,z10,(Aj .i64 (Int.add (Int.ofNat k3) (1:Int))),q6,(BM ([(zU (jF .u64 x1 (QW .u64 (Aj .u64 (Np .i64 (G6 .i64 z7 k4) (1:Int))) k5)))]:LV) ((0+k3*2)+k2*1) q7)),hm,(.k [1,2] [false] [.tmp 2 false,.tmp 3 false] [0,2,3,4,7,8,11,12] ⟨Bp h7,Bp h20,trivial⟩)⟩
    ·refine DT (AY z11 z10) h9 ?_
     refine .exit ?_
     exact⟨(z6,z8,z9,q6,q7),hm,(.k [1,2] [false] [.tmp 2 false,.tmp 3 false] [0,2,3,7,8] ⟨Bp h7,Bp h8,trivial⟩)⟩
  ·refine DT (AY z2 z1) h4 ?_
   refine .exit ?_
   exact⟨(q2,q3),hm,(.k [1,2] [false] [.tmp 2 false,.tmp 3 false] [2,3] ⟨Bp h2,Bp h3,trivial⟩)⟩
end
end Go.TbRM
