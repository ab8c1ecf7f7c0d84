/- Made from wip. -/
import Derived.Test.YtpfpakeeaehmhaaDoorTbWMod0x

set_option maxRecDepth 100000
set_option maxHeartbeats 20000000
set_option linter.unusedVariables false
namespace Go.TbWM
open Go.Sp Go.TbW
noncomputable section

def XN (pu:Af) (n:Nat) (x0:Int) (s0:Sl):OV:=
 (bb (Au Ah BB) (oo (pu 55 [(.agg ⟨[.int .i64 x0,(Sl.v 2 s0)]⟩)]) none fun v0=>(oo (Bi .i64 v0) none fun x1=>(bb (nt (Bd x1 (0:Int))) (bb (an (Nat.ble (0+14) (len BB)) true) (bb (Au Ah (BM ([(.int .u64 (0:Int)),(.int .u64 (0:Int)),(.int .u64 (0:Int)),(.int .u64 (0:Int)),(.int .u64 (0:Int)),(.int .u64 (0:Int)),(.int .u64 (0:Int)),(.int .u64 (0:Int)),(.int .u64 (0:Int)),(.int .u64 (0:Int)),(.int .u64 (0:Int)),(.int .u64 (0:Int)),(.int .u64 (0:Int)),(.int .u64 (0:Int))]:LV) 0 BB)) (bb (Nat.ble (0+14) (len (BM ([(.int .u64 (0:Int)),(.int .u64 (0:Int)),(.int .u64 (0:Int)),(.int .u64 (0:Int)),(.int .u64 (0:Int)),(.int .u64 (0:Int)),(.int .u64 (0:Int)),(.int .u64 (0:Int)),(.int .u64 (0:Int)),(.int .u64 (0:Int)),(.int .u64 (0:Int)),(.int .u64 (0:Int)),(.int .u64 (0:Int)),(.int .u64 (0:Int))]:LV) 0 BB))) (bb (Fe (.tuple ⟨[(.agg ⟨(Aq 14 (Am 0 (BM ([(.int .u64 (0:Int)),(.int .u64 (0:Int)),(.int .u64 (0:Int)),(.int .u64 (0:Int)),(.int .u64 (0:Int)),(.int .u64 (0:Int)),(.int .u64 (0:Int)),(.int .u64 (0:Int)),(.int .u64 (0:Int)),(.int .u64 (0:Int)),(.int .u64 (0:Int)),(.int .u64 (0:Int)),(.int .u64 (0:Int)),(.int .u64 (0:Int))]:LV) 0 BB)))⟩),.int .i64 x1]⟩)) (some (.tuple ⟨[(.agg ⟨(Aq 14 (Am 0 (BM ([(.int .u64 (0:Int)),(.int .u64 (0:Int)),(.int .u64 (0:Int)),(.int .u64 (0:Int)),(.int .u64 (0:Int)),(.int .u64 (0:Int)),(.int .u64 (0:Int)),(.int .u64 (0:Int)),(.int .u64 (0:Int)),(.int .u64 (0:Int)),(.int .u64 (0:Int)),(.int .u64 (0:Int)),(.int .u64 (0:Int)),(.int .u64 (0:Int))]:LV) 0 BB)))⟩),.int .i64 x1]⟩)) none) none) none) none) (oo (pu 56 [.int .i64 x0]) none fun v1=>(oo (Bt v1) none fun q0=>(bb (an (Nat.beq (len q0) 14) (Au Ah q0)) (oo (pu 60 [(.agg ⟨q0⟩),(Sl.v 2 s0)]) none fun v2=>(oo (Bt v2) none fun q1=>(bb (an (Nat.beq (len q1) 14) (Au Ah q1)) (bb (Au closed2 [(.agg ⟨q0⟩),(Sl.v 2 s0)]) (bb (Nat.beq (len q1) 14) (bb (an (Nat.ble (0+len q1) (len BB)) (Au D6 q1)) (bb (Au Ah (BM q1 0 BB)) (bb (Nat.ble (0+14) (len (BM q1 0 BB))) (bb (Fe (.tuple ⟨[(.agg ⟨(Aq 14 (Am 0 (BM q1 0 BB)))⟩),(.int .i64 (0:Int))]⟩)) (some (.tuple ⟨[(.agg ⟨(Aq 14 (Am 0 (BM q1 0 BB)))⟩),(.int .i64 (0:Int))]⟩)) none) none) none) none) none) none) none))) none)))))) none)
def m64 (pu:Af) (n:Nat) (args:LV):OV:=
 (ll args none fun a0 args=>(ll args (oo (Bt a0) none fun l0=>(ll l0 none fun v0 l0=>(ll l0 none fun v1 l0=>(ll l0 (oo (Bi .i64 v0) none fun x0=>(oo (Bj 2 v1) none fun s0=>(XN pu n x0 s0))) fun _ _=>none)))) fun _ _=>none))
theorem r64 {call:A8} (pu:Af) (n:Nat) (hcall:call=Bb tabs FM pu (inl pu)) {args:LV} {v:Value} (hm:m64 pu n args=some v) (_:∀ x∈args,closed2 x=true):args.length≤17∧BN tt call 1 Qu (Fr.made 17 args) (Ao tabs) (Fin tt 1 [.cell 2 86,.tmp 3] v):=by
 subst hcall
 unfold m64 at hm
 replace hm:=Ad hm;obtain⟨a0,args_0,rfl,hm⟩:=hm
 replace hm:=AC hm;obtain⟨rfl,hm⟩:=hm
 replace hm:=BG hm;obtain⟨l0,rfl,hm⟩:=hm
 replace hm:=Ad hm;obtain⟨v0,l11166_0,rfl,hm⟩:=hm
 replace hm:=Ad hm;obtain⟨v1,l11166_1,rfl,hm⟩:=hm
 replace hm:=AC hm;obtain⟨rfl,hm⟩:=hm
 replace hm:=Ai hm;obtain⟨x0,rfl,hm⟩:=hm
 replace hm:=Al hm;obtain⟨s0,rfl,hm⟩:=hm
 unfold XN at hm
 refine⟨by simp,?_⟩
 refine .same (F':=(fr 17 [(0,(.agg ⟨[zI x0,(Sl.v 2 s0)]⟩))])) (H':=Co) (by kernel_rfl) (by kernel_rfl) ?_
 refine .then (.rK ?_)
 replace hm:=Ae hm;obtain⟨h0,hm⟩:=hm
 refine .ghs (fr 17 [(1,pt 1 0),(2,(pt 2 0))]) (hT 3 [(oC [zI x0,(Sl.v 2 s0)]),oC BB]) (.k [2] [false] [.tmp 1 false,.tmp 2 false] [1,2] ⟨Bq h0,trivial⟩) ?_
 refine .then (.then ?_)
 replace hm:=I9 hm;obtain⟨x1,h1,hm⟩:=hm
 refine .reg (eC 1 ((oo (pu 55 [(.agg ⟨[zI x0,(Sl.v 2 s0)]⟩)]) none fun v=>some (v,(hT 3 [(oC [zI x0,(Sl.v 2 s0)]),oC BB])))) (AB h1) (eE)) ?_
 refine .ghs (fr 17 [(1,pt 1 0),(2,(pt 2 0)),(4,zI x1)]) (hT 3 [(oC [zI x0,(Sl.v 2 s0)]),oC BB]) (.k [2] [false] [.tmp 1 false,.tmp 2 false] [1,2,4] ⟨Bq h0,trivial⟩) ?_
 refine .then (.rK (.ghs (fr 17 [(1,pt 1 0),(2,(pt 2 0)),(4,zI x1),(8,(zB (nt (Bd x1 (0:Int)))))]) (hT 3 [(oC [zI x0,(Sl.v 2 s0)]),oC BB]) (.k [2] [false] [.tmp 1 false,.tmp 2 false] [1,2,4,8] ⟨Bq h0,trivial⟩) ?_))
 replace hm:=Ag hm;rcases hm with⟨h2,hm⟩ | ⟨h2,hm⟩
 ·refine DL (nt (Bd x1 (0:Int))) h2 ?_
  refine .then ?_
  replace hm:=Ae hm;obtain⟨h3,hm⟩:=hm
  refine .reg (eC 2 (done (bb (an (Nat.ble (0+14) (len BB)) true) (some (hT 3 [(oC [zI x0,(Sl.v 2 s0)]),(oC (BM ([(zU (0:Int)),(zU (0:Int)),(zU (0:Int)),(zU (0:Int)),(zU (0:Int)),(zU (0:Int)),(zU (0:Int)),(zU (0:Int)),(zU (0:Int)),(zU (0:Int)),(zU (0:Int)),(zU (0:Int)),(zU (0:Int)),(zU (0:Int))]:LV) 0 BB))])) none) undef) (Js h3) (eE)) ?_
  replace hm:=Ae hm;obtain⟨h4,hm⟩:=hm
  refine .ghs (fr 17 [(2,pt 1 0),(3,zI x1)]) (hT 2 [(oC (BM ([(zU (0:Int)),(zU (0:Int)),(zU (0:Int)),(zU (0:Int)),(zU (0:Int)),(zU (0:Int)),(zU (0:Int)),(zU (0:Int)),(zU (0:Int)),(zU (0:Int)),(zU (0:Int)),(zU (0:Int)),(zU (0:Int)),(zU (0:Int))]:LV) 0 BB))]) (.k [2] [false] [.tmp 2 false] [2,3] ⟨Bq h4,trivial⟩) ?_
  refine .ret ?_
  replace hm:=Ae hm;obtain⟨h5,hm⟩:=hm
  replace hm:=Ae hm;obtain⟨h6,hm⟩:=hm
  exact kI (.tuple ⟨[(.agg ⟨(Aq 14 (Am 0 (BM ([(zU (0:Int)),(zU (0:Int)),(zU (0:Int)),(zU (0:Int)),(zU (0:Int)),(zU (0:Int)),(zU (0:Int)),(zU (0:Int)),(zU (0:Int)),(zU (0:Int)),(zU (0:Int)),(zU (0:Int)),(zU (0:Int)),(zU (0:Int))]:LV) 0 BB)))⟩),zI x1]⟩) (SN (Oh (show Q6 _ _ _ _=some (.agg ⟨(Aq 14 (Am 0 (BM ([(zU (0:Int)),(zU (0:Int)),(zU (0:Int)),(zU (0:Int)),(zU (0:Int)),(zU (0:Int)),(zU (0:Int)),(zU (0:Int)),(zU (0:Int)),(zU (0:Int)),(zU (0:Int)),(zU (0:Int)),(zU (0:Int)),(zU (0:Int))]:LV) 0 BB)))⟩) from (Aex (c:=(Nat.ble (0+14) (len (BM ([(zU (0:Int)),(zU (0:Int)),(zU (0:Int)),(zU (0:Int)),(zU (0:Int)),(zU (0:Int)),(zU (0:Int)),(zU (0:Int)),(zU (0:Int)),(zU (0:Int)),(zU (0:Int)),(zU (0:Int)),(zU (0:Int)),(zU (0:Int))]:LV) 0 BB)))) (by kernel_rfl) h5)) (Oh (show Q6 _ _ _ _=some (zI x1) from (by kernel_rfl)) rfl)) (by kernel_rfl)) h6 hm
 ·refine DT (nt (Bd x1 (0:Int))) h2 ?_
  refine .skip (.ghs (fr 17 [(1,pt 1 0),(2,(pt 2 0))]) (hT 3 [(oC [zI x0,(Sl.v 2 s0)]),oC BB]) (.k [2] [false] [.tmp 1 false,.tmp 2 false] [1,2] ⟨Bq h0,trivial⟩) ?_)
  refine .then ?_
  replace hm:=Ab hm;obtain⟨v2,h7,hm⟩:=hm
  replace hm:=BG hm;obtain⟨q0,rfl,hm⟩:=hm
  replace hm:=Ae hm;obtain⟨h8,hm⟩:=hm
  replace hm:=Ab hm;obtain⟨v3,h9,hm⟩:=hm
  replace hm:=BG hm;obtain⟨q1,rfl,hm⟩:=hm
  replace hm:=Ae hm;obtain⟨h10,hm⟩:=hm
  replace hm:=Ae hm;obtain⟨h11,hm⟩:=hm
  replace hm:=Ae hm;obtain⟨h12,hm⟩:=hm
  replace hm:=Ae hm;obtain⟨h13,hm⟩:=hm
  refine .reg (eC 4 ((oo (pu 56 [zI x0]) none fun v=>some (v,(hT 3 [(oC [zI x0,(Sl.v 2 s0)]),oC BB])))) (AB h7) (eD (bb (Au closed2 [(.agg ⟨q0⟩),(Sl.v 2 s0)]) (oo (pu 60 [(.agg ⟨q0⟩),(Sl.v 2 s0)]) none fun v=>some (v,(hT 3 [(oC [zI x0,(Sl.v 2 s0)]),oC BB]))) (oo (CG (RG (hT 3 [(oC [zI x0,(Sl.v 2 s0)]),oC BB])) [(.agg ⟨q0⟩),(Sl.v 2 s0)]) none fun l1=>oo (pu 60 l1) none fun v=>bb (RH v) (some (v,(hT 3 [(oC [zI x0,(Sl.v 2 s0)]),oC BB]))) none)) (SL h11 h9) (eD (done (bb (Nat.beq (len q1) 14) (bb (an (Nat.ble (0+len q1) (len BB)) (Au D6 q1)) (some (hT 3 [(oC [zI x0,(Sl.v 2 s0)]),(oC (BM q1 0 BB))])) none) none) undef) (bH h12 h13) (eE)))) ?_
  replace hm:=Ae hm;obtain⟨h14,hm⟩:=hm
  refine .ghs (fr 17 [(2,pt 1 0),(3,(zI (0:Int)))]) (hT 2 [(oC (BM q1 0 BB))]) (.k [2] [false] [.tmp 2 false] [2,3] ⟨Bq h14,trivial⟩) ?_
  refine .ret ?_
  replace hm:=Ae hm;obtain⟨h15,hm⟩:=hm
  replace hm:=Ae hm;obtain⟨h16,hm⟩:=hm
  exact kI (.tuple ⟨[(.agg ⟨(Aq 14 (Am 0 (BM q1 0 BB)))⟩),(zI (0:Int))]⟩) (SN (Oh (show Q6 _ _ _ _=some (.agg ⟨(Aq 14 (Am 0 (BM q1 0 BB)))⟩) from (Aex (c:=(Nat.ble (0+14) (len (BM q1 0 BB)))) (by kernel_rfl) h15)) (Oh (show Q6 _ _ _ _=some (zI (0:Int)) from (by kernel_rfl)) rfl)) (by kernel_rfl)) h16 hm
def RY (pu:Af) (n:Nat) (b0:Bool):OV:=
 (some (.bool b0))
def xO (pu:Af) (n:Nat) (x0 x1 x2:Int):OV:=
 (bb (nt (AY x1 x0)) (RY pu n (nt (AY x2 x1))) (RY pu n false))
def m65 (pu:Af) (n:Nat) (args:LV):OV:=
 (ll args none fun a0 args=>(ll args none fun a1 args=>(ll args none fun a2 args=>(ll args (oo (Bi .i64 a0) none fun x0=>(oo (Bi .i64 a1) none fun x1=>(oo (Bi .i64 a2) none fun x2=>(xO pu n x0 x1 x2)))) fun _ _=>none))))
theorem xP (pu:Af) (n:Nat) (b0:Bool) {v:Value} (hm:RY pu n b0=some v):BN tt (Bb tabs FM pu (inl pu)) 1 .ret (fr 15 [(6,zB b0)]) Co (Fin tt 1 [.tmp 6] v):=by
 unfold RY at hm
 refine .ret ?_
 exact Cs (zB b0) hm
theorem r65 {call:A8} (pu:Af) (n:Nat) (hcall:call=Bb tabs FM pu (inl pu)) {args:LV} {v:Value} (hm:m65 pu n args=some v) (_:∀ x∈args,closed2 x=true):args.length≤15∧BN tt call 1 SQ (Fr.made 15 args) (Ao tabs) (Fin tt 1 [.tmp 6] v):=by
 subst hcall
 unfold m65 at hm
 replace hm:=Ad hm;obtain⟨a0,args_0,rfl,hm⟩:=hm
 replace hm:=Ad hm;obtain⟨a1,args_1,rfl,hm⟩:=hm
 replace hm:=Ad hm;obtain⟨a2,args_2,rfl,hm⟩:=hm
 replace hm:=AC hm;obtain⟨rfl,hm⟩:=hm
 replace hm:=Ai hm;obtain⟨x0,rfl,hm⟩:=hm
 replace hm:=Ai hm;obtain⟨x1,rfl,hm⟩:=hm
 replace hm:=Ai hm;obtain⟨x2,rfl,hm⟩:=hm
 unfold xO at hm
 refine⟨by simp,?_⟩
 refine .same (F':=(fr 15 [(0,zI x0),(1,zI x1),(2,zI x2)])) (H':=Co) (by kernel_rfl) (by kernel_rfl) ?_
 refine .then (.rK (.ghs (fr 15 [(0,zI x0),(1,zI x1),(2,zI x2)]) Co (.k0 [false] [] [0,1,2]) ?_))
 refine .join (v:=v) (fun y:Bool=>((fr 15 [(6,zB y)]),Co)) (fun y=>RY pu n y) ?_ ?_
 ·rintro b0 hm
  exact xP pu n b0 hm
 ·replace hm:=Ag hm;rcases hm with⟨h0,hm⟩ | ⟨h0,hm⟩
  ·refine .reg (eC 2 (some ((zB (nt (AY x1 x0))),Co)) (show _=some ((zB true),_) from (by rw[show (nt (AY x1 x0))=true from h0])) (eE)) ?_
   exact⟨(nt (AY x2 x1)),hm,(.k0 [false] [] [6])⟩
  ·refine .reg (eC 2 (some ((zB (nt (AY x1 x0))),Co)) (show _=some ((zB false),_) from (by rw[show (nt (AY x1 x0))=false from h0])) (eE)) ?_
   exact⟨false,hm,(.k0 [false] [] [6])⟩
def Pq (pu:Af) (n:Nat) (b0:Bool):OV:=
 (some (.bool b0))
def XO (pu:Af) (n:Nat) (x0 x1:Int):OV:=
 (oo (pu 89 [.int .i64 x0]) none fun v0=>(oo (Bf v0) none fun b0=>(bb b0 (oo (pu 89 [.int .i64 x1]) none fun v1=>(oo (Bf v1) none fun b1=>(bb (nt b1) (Pq pu n true) (Pq pu n (AY x0 x1))))) (Pq pu n (AY x0 x1)))))
def m74 (pu:Af) (n:Nat) (args:LV):OV:=
 (ll args none fun a0 args=>(ll args none fun a1 args=>(ll args (oo (Bi .i64 a0) none fun x0=>(oo (Bi .i64 a1) none fun x1=>(XO pu n x0 x1))) fun _ _=>none)))
theorem xQ (pu:Af) (n:Nat) (b0:Bool) {v:Value} (hm:Pq pu n b0=some v):BN tt (Bb tabs FM pu (inl pu)) 1 .ret (fr 17 [(4,zB b0)]) Co (Fin tt 1 [.tmp 4] v):=by
 unfold Pq at hm
 refine .ret ?_
 exact Cs (zB b0) hm
theorem r74 {call:A8} (pu:Af) (n:Nat) (hcall:call=Bb tabs FM pu (inl pu)) {args:LV} {v:Value} (hm:m74 pu n args=some v) (_:∀ x∈args,closed2 x=true):args.length≤17∧BN tt call 1 TV (Fr.made 17 args) (Ao tabs) (Fin tt 1 [.tmp 4] v):=by
 subst hcall
 unfold m74 at hm
 replace hm:=Ad hm;obtain⟨a0,args_0,rfl,hm⟩:=hm
 replace hm:=Ad hm;obtain⟨a1,args_1,rfl,hm⟩:=hm
 replace hm:=AC hm;obtain⟨rfl,hm⟩:=hm
 replace hm:=Ai hm;obtain⟨x0,rfl,hm⟩:=hm
 replace hm:=Ai hm;obtain⟨x1,rfl,hm⟩:=hm
 unfold XO at hm
 refine⟨by simp,?_⟩
 refine .same (F':=(fr 17 [(0,zI x0),(1,zI x1)])) (H':=Co) (by kernel_rfl) (by kernel_rfl) ?_
 refine .then (.rK (.ghs (fr 17 [(0,zI x0),(1,zI x1)]) Co (.k0 [false] [] [0,1]) ?_))
 refine .join (v:=v) (fun y:Bool=>((fr 17 [(4,zB y)]),Co)) (fun y=>Pq pu n y) ?_ ?_
 ·rintro b0 hm
  exact xQ pu n b0 hm
 ·replace hm:=Sm hm;obtain⟨b1,h0,hm⟩:=hm
  replace hm:=Ag hm;rcases hm with⟨h1,hm⟩ | ⟨h1,hm⟩
  ·replace hm:=Sm hm;obtain⟨b2,h2,hm⟩:=hm
   replace hm:=Ag hm;rcases hm with⟨h3,hm⟩ | ⟨h3,hm⟩
   ·refine .reg (eC 1 ((oo (pu 89 [zI x0]) none fun v=>some (v,Co))) (show _=some ((zB true),_) from (by have hz:(oo (pu 89 [zI x0]) none fun v=>some (v,Co))=some ((zB b1),Co):=(AB h0);rw[h1] at hz;exact hz)) (eC 2 ((oo (pu 89 [zI x1]) none fun v=>some (v,Co))) (AB h2) (eD (some ((zB (nt b2)),Co)) (show _=some ((zB true),_) from (by rw[show (nt b2)=true from h3])) (eE)))) ?_
    exact⟨true,hm,(.k0 [false] [] [4])⟩
   ·refine .reg (eC 1 ((oo (pu 89 [zI x0]) none fun v=>some (v,Co))) (show _=some ((zB true),_) from (by have hz:(oo (pu 89 [zI x0]) none fun v=>some (v,Co))=some ((zB b1),Co):=(AB h0);rw[h1] at hz;exact hz)) (eC 2 ((oo (pu 89 [zI x1]) none fun v=>some (v,Co))) (AB h2) (eD (some ((zB (nt b2)),Co)) (show _=some ((zB false),_) from (by rw[show (nt b2)=false from h3])) (eE)))) ?_
    exact⟨(AY x0 x1),hm,(.k0 [false] [] [4])⟩
  ·refine .reg (eC 1 ((oo (pu 89 [zI x0]) none fun v=>some (v,Co))) (show _=some ((zB false),_) from (by have hz:(oo (pu 89 [zI x0]) none fun v=>some (v,Co))=some ((zB b1),Co):=(AB h0);rw[h1] at hz;exact hz)) (eE)) ?_
   exact⟨(AY x0 x1),hm,(.k0 [false] [] [4])⟩

def XP (pu:Af) (n:Nat) (s0:Sl):OV:=
 (bb (Dp (nt (Nat.beq (Sl.fl s0) 2)) (Nat.beq (Sl.n s0) 0)) (some (Sl.v 1 (KY 1 s0))) none)
def m76 (pu:Af) (n:Nat) (args:LV):OV:=
 (ll args none fun a0 args=>(ll args (oo (Bj 1 a0) none fun s0=>(XP pu n s0)) fun _ _=>none))
theorem r76 {call:A8} (pu:Af) (n:Nat) (hcall:call=Bb tabs FM pu (inl pu)) {args:LV} {v:Value} (hm:m76 pu n args=some v) (_:∀ x∈args,closed2 x=true):args.length≤9∧BN tt call 1 TW (Fr.made 9 args) (Ao tabs) (Fin tt 1 [.tmp 2] v):=by
 subst hcall
 unfold m76 at hm
 replace hm:=Ad hm;obtain⟨a0,args_0,rfl,hm⟩:=hm
 replace hm:=AC hm;obtain⟨rfl,hm⟩:=hm
 replace hm:=Al hm;obtain⟨s0,rfl,hm⟩:=hm
 unfold XP at hm
 refine⟨by simp,?_⟩
 refine .same (F':=(fr 9 [(0,Sl.v 1 s0)])) (H':=Co) (by kernel_rfl) (by kernel_rfl) ?_
 refine .then (.rK (.ghs (fr 9 [(0,Sl.v 1 s0)]) Co (.k0 [false] [] [0]) ?_))
 refine .then ?_
 replace hm:=Ae hm;obtain⟨h0,hm⟩:=hm
 refine .reg (eC 5 (Ut Co ti3 1 s0) (Wh h0) (eE)) ?_
 refine .ghs (fr 9 [(2,(Sl.v 1 (KY 1 s0)))]) Co (.k0 [false] [] [2]) ?_
 refine .ret ?_
 exact Cs (Sl.v 1 (KY 1 s0)) hm
def Uh (pu:Af) (n:Nat):OV:=
 (some (.int .i64 (-1:Int)))
def OH (pu:Af) (n:Nat) (ih0:Sl→Int→Int→Int→OV) (s0:Sl) (z0 z1 z2:Int):OV:=
 (bb (AY z2 z1) (oo (EA z2) none fun k1=>(bb (an (Nat.blt k1 (Sl.n s0)) true) (oo (AL (Sl.cs s0) (k1*1)) none fun v0=>(oo (Bi .i64 v0) none fun x0=>(bb (Bd z0 x0) (some (.int .i64 (Int.ofNat k1))) (ih0 s0 z0 z1 (Aj .i64 (Int.add (Int.ofNat k1) (1:Int))))))) none)) (Uh pu n))
def OJ (pu:Af) (n w:Nat):Sl→Int→Int→Int→OV:=
 Nat.rec (motive:=fun _=>Sl→Int→Int→Int→OV) (fun _ _ _ _=>none) (fun _ ih0=>OH pu n ih0) w
def xR (pu:Af) (n:Nat) (s0:Sl) (x0:Int):OV:=
 (OJ pu n n s0 x0 (Int.ofNat (Sl.n s0)) (0:Int))
def m77 (pu:Af) (n:Nat) (args:LV):OV:=
 (ll args none fun a0 args=>(ll args none fun a1 args=>(ll args (oo (Bj 1 a0) none fun s0=>(oo (Bi .i64 a1) none fun x0=>(xR pu n s0 x0))) fun _ _=>none)))
theorem xS (pu:Af) (n:Nat) {v:Value} (hm:Uh pu n=some v):BN tt (Bb tabs FM pu (inl pu)) 1 VW (fr 19 []) Co (Fin tt 1 [.tmp 4] v):=by
 unfold Uh at hm
 refine .then (.rK (.ghs (fr 19 [(4,(zI (-1:Int)))]) Co (.k0 [false] [] [4]) ?_))
 refine .ret ?_
 exact Cs (zI (-1:Int)) hm
theorem r77 {call:A8} (pu:Af) (n:Nat) (hcall:call=Bb tabs FM pu (inl pu)) {args:LV} {v:Value} (hm:m77 pu n args=some v) (_:∀ x∈args,closed2 x=true):args.length≤19∧BN tt call 1 Qv (Fr.made 19 args) (Ao tabs) (Fin tt 1 [.tmp 4] v):=by
 subst hcall
 unfold m77 at hm
 replace hm:=Ad hm;obtain⟨a0,args_0,rfl,hm⟩:=hm
 replace hm:=Ad hm;obtain⟨a1,args_1,rfl,hm⟩:=hm
 replace hm:=AC hm;obtain⟨rfl,hm⟩:=hm
 replace hm:=Al hm;obtain⟨s0,rfl,hm⟩:=hm
 replace hm:=Ai hm;obtain⟨x0,rfl,hm⟩:=hm
 unfold xR at hm
 refine⟨by simp,?_⟩
 refine .same (F':=(fr 19 [(0,Sl.v 1 s0),(1,zI x0)])) (H':=Co) (by kernel_rfl) (by kernel_rfl) ?_
 refine .then (.rK (.ghs (fr 19 [(0,Sl.v 1 s0),(1,zI x0)]) Co (.k0 [false] [] [0,1]) ?_))
 refine .join (v:=v) (fun y:Unit=>((fr 19 []),Co)) (fun y=>Uh pu n) ?_ ?_
 ·rintro _ hm
  exact xS pu n hm
 ·refine .then (.rK (.ghs (fr 19 [(0,Sl.v 1 s0),(1,zI x0),(7,(zI (Int.ofNat (Sl.n s0)))),(8,(zI (0:Int)))]) Co (.k0 [false] [] [0,1,7,8]) ?_))
  refine .block (.loopM (v:=v) (fun y:Sl×Int×Int×Int=>((fr 19 [(0,(Sl.v 1 y.1)),(1,(zI y.2.1)),(7,(zI y.2.2.1)),(8,(zI y.2.2.2))]),Co)) (fun w y=>OJ pu n w y.1 y.2.1 y.2.2.1 y.2.2.2) n ⟨(s0,x0,(Int.ofNat (Sl.n s0)),(0:Int)),hm,(.k0 [false] [] [0,1,7,8])⟩ (fun _=>rfl) ?_)
  rintro w0 ⟨s1,z0,z1,z2⟩ hm
  replace hm:OH pu n (OJ pu n w0) s1 z0 z1 z2=some v:=hm
  unfold OH at hm
  refine .then (.rK (.ghs (fr 19 [(0,Sl.v 1 s1),(1,zI z0),(7,zI z1),(8,zI z2),(9,(zB (AY z2 z1)))]) Co (.k0 [false] [] [0,1,7,8,9]) ?_))
  refine .then ?_
  replace hm:=Ag hm;rcases hm with⟨h0,hm⟩ | ⟨h0,hm⟩
  ·refine DL (AY z2 z1) h0 ?_
   refine .skip (.ghs (fr 19 [(0,Sl.v 1 s1),(1,zI z0),(7,zI z1),(8,zI z2)]) Co (.k0 [false] [] [0,1,7,8]) ?_)
   refine .then (.block (.then (.rK (.ghs (fr 19 [(0,Sl.v 1 s1),(1,zI z0),(5,zI z2),(7,zI z1),(8,zI z2)]) Co (.k0 [false] [] [0,1,5,7,8]) ?_))))
   refine .then ?_
   replace hm:=Ab hm;obtain⟨k1,h1,hm⟩:=hm
   obtain rfl:=AR h1
   replace hm:=Ae hm;obtain⟨h2,hm⟩:=hm
   replace hm:=I9 hm;obtain⟨x1,h3,hm⟩:=hm
   refine .reg (eC 3 (keep Co (bb (an (Nat.blt k1 (Sl.n s1)) true) (some (Cv (k1*1) (Sl.cs s1))) none)) (AX h2) (eD (keep Co (AL (Sl.cs s1) (k1*1))) (AZ h3) (eE))) ?_
   refine .ghs (fr 19 [(0,Sl.v 1 s1),(1,zI z0),(5,(zI (Int.ofNat k1))),(7,zI z1),(8,(zI (Int.ofNat k1))),(16,(zB (Bd z0 x1)))]) Co (.k0 [false] [] [0,1,5,7,8,16]) ?_
   replace hm:=Ag hm;rcases hm with⟨h4,hm⟩ | ⟨h4,hm⟩
   ·refine DL (Bd z0 x1) h4 ?_
    refine .then (.rK (.ghs (fr 19 [(4,(zI (Int.ofNat k1)))]) Co (.k0 [false] [] [4]) ?_))
    refine .ret ?_
    exact Cs (zI (Int.ofNat k1)) hm
   ·refine DT (Bd z0 x1) h4 ?_
    refine .skip (.ghs (fr 19 [(0,Sl.v 1 s1),(1,zI z0),(7,zI z1),(8,(zI (Int.ofNat k1)))]) Co (.k0 [false] [] [0,1,7,8]) ?_)
    refine .rK ?_
    exact⟨(s1,z0,z1,(Aj .i64 (Int.add (Int.ofNat k1) (1:Int)))),hm,(.k0 [false] [] [0,1,7,8])⟩
  ·refine DT (AY z2 z1) h0 ?_
   refine .exit ?_
   exact⟨(),hm,(.k0 [false] [] [])⟩

def XQ (pu:Af) (n:Nat) (x0:Int):OV:=
 (bb (Bd x0 (0:Int)) (some (.int .i64 (64:Int))) (oo (EA (G6 .u64 (Aj .u64 (Int.mul (Np .u64 x0 (Aj .u64 (Int.sub (.ofNat 0) x0))) (285870213051353865:Int))) 58)) none fun k1=>(bb (Nat.blt k1 64) (oo (AL Pe (0+k1*1)) none fun v0=>(oo (Bi .u8 v0) none fun x1=>(some (.int .i64 (Aj .i64 x1))))) none)))
def m85 (pu:Af) (n:Nat) (args:LV):OV:=
 (ll args none fun a0 args=>(ll args (oo (Bi .u64 a0) none fun x0=>(XQ pu n x0)) fun _ _=>none))
theorem r85 {call:A8} (pu:Af) (n:Nat) (hcall:call=Bb tabs FM pu (inl pu)) {args:LV} {v:Value} (hm:m85 pu n args=some v) (_:∀ x∈args,closed2 x=true):args.length≤14∧BN tt call 1 TY (Fr.made 14 args) (Ao tabs) (Fin tt 1 [.tmp 2] v):=by
 subst hcall
 unfold m85 at hm
 replace hm:=Ad hm;obtain⟨a0,args_0,rfl,hm⟩:=hm
 replace hm:=AC hm;obtain⟨rfl,hm⟩:=hm
 replace hm:=Ai hm;obtain⟨x0,rfl,hm⟩:=hm
 unfold XQ at hm
 refine⟨by simp,?_⟩
 refine .same (F':=(fr 14 [(0,(zU x0))])) (H':=Co) (by kernel_rfl) (by kernel_rfl) ?_
 refine .then (.rK (.ghs (fr 14 [(0,(zU x0))]) Co (.k0 [false] [] [0]) ?_))
 refine .then (.then (.rK (.ghs (fr 14 [(0,(zU x0)),(4,(zB (Bd x0 (0:Int))))]) Co (.k0 [false] [] [0,4]) ?_)))
 replace hm:=Ag hm;rcases hm with⟨h0,hm⟩ | ⟨h0,hm⟩
 ·refine DL (Bd x0 (0:Int)) h0 ?_
  refine .then (.rK (.ghs (fr 14 [(2,(zI (64:Int)))]) Co (.k0 [false] [] [2]) ?_))
  refine .ret ?_
  exact Cs (zI (64:Int)) hm
 ·refine DT (Bd x0 (0:Int)) h0 ?_
  refine .skip (.ghs (fr 14 [(0,(zU x0))]) Co (.k0 [false] [] [0]) ?_)
  refine .then ?_
  replace hm:=Ab hm;obtain⟨k1,h1,hm⟩:=hm
  replace hm:=Ae hm;obtain⟨h2,hm⟩:=hm
  replace hm:=I9 hm;obtain⟨x1,h3,hm⟩:=hm
  refine .reg (eC 5 (some ((zU (G6 .u64 (Aj .u64 (Int.mul (Np .u64 x0 (Aj .u64 (Int.sub (.ofNat 0) x0))) (285870213051353865:Int))) 58)),Co)) (show _=some ((zU (Int.ofNat k1)),_) from (by rw[AR h1])) (eD (keep Co (bb (Nat.blt k1 64) (some (.pointer (some ⟨0,(0+k1*1),none⟩))) none)) (AX h2) (eD (keep Co (AL Pe (0+k1*1))) (AZ h3) (eE)))) ?_
  refine .ghs (fr 14 [(2,(zI (Aj .i64 x1)))]) Co (.k0 [false] [] [2]) ?_
  refine .ret ?_
  exact Cs (zI (Aj .i64 x1)) hm

def XR (pu:Af) (n:Nat) (x0:Int):OV:=
 (some (.bool (nt (Bd x0 x0))))
def m89 (pu:Af) (n:Nat) (args:LV):OV:=
 (ll args none fun a0 args=>(ll args (oo (Bi .i64 a0) none fun x0=>(XR pu n x0)) fun _ _=>none))
theorem r89 {call:A8} (pu:Af) (n:Nat) (hcall:call=Bb tabs FM pu (inl pu)) {args:LV} {v:Value} (hm:m89 pu n args=some v) (_:∀ x∈args,closed2 x=true):args.length≤6∧BN tt call 1 TZ (Fr.made 6 args) (Ao tabs) (Fin tt 1 [.tmp 2] v):=by
 subst hcall
 unfold m89 at hm
 replace hm:=Ad hm;obtain⟨a0,args_0,rfl,hm⟩:=hm
 replace hm:=AC hm;obtain⟨rfl,hm⟩:=hm
 replace hm:=Ai hm;obtain⟨x0,rfl,hm⟩:=hm
 unfold XR at hm
 refine⟨by simp,?_⟩
 refine .same (F':=(fr 6 [(0,zI x0)])) (H':=Co) (by kernel_rfl) (by kernel_rfl) ?_
 refine .then (.rK (.ghs (fr 6 [(0,zI x0)]) Co (.k0 [false] [] [0]) ?_))
 refine .then (.rK (.ghs (fr 6 [(2,(zB (nt (Bd x0 x0))))]) Co (.k0 [false] [] [2]) ?_))
 refine .ret ?_
 exact Cs (zB (nt (Bd x0 x0))) hm

def Ke (pu:Af) (n:Nat) (z42 z43:Int) (s44:Sl) (n45 Sk n47 Sn:Nat) (q49:LV) (q50:LV):OV:=
 (bb (Au Ah q49) (bb (Au Ah q50) (bb (Dp (Nat.ble 2 Sk) (MQ q49)) (bb (Dp (Nat.ble 2 Sn) (MQ q50)) (bb (Au Ah q49) (bb (Au Ah q50) (oo (pu 10750 [(Sl.v 1 (Sl.mk 0 2 [])),(.pointer (some ⟨1,0,none⟩)),(.pointer (some ⟨2,0,none⟩)),(.pointer (some ⟨3,0,none⟩)),(.agg ⟨[.int .i64 z42]⟩),(.agg ⟨[(.func (.func 37) ⟨[]⟩ ⟨[(.pointer (some ⟨4,0,none⟩)),(.pointer (some ⟨5,0,none⟩)),(.pointer (some ⟨6,0,none⟩))]⟩)]⟩),(.agg ⟨[(.func (.func 75) ⟨[]⟩ ⟨[(.pointer (some ⟨1,0,none⟩)),(.pointer (some ⟨2,0,none⟩)),(.pointer (some ⟨3,0,none⟩))]⟩)]⟩),(.agg ⟨[.int .i64 z43,(Sl.v 2 s44)]⟩),(.agg ⟨[(.slice (some ⟨7,0,some 1⟩) n45 Sk)]⟩),(.agg ⟨[(.slice (some ⟨8,0,some 1⟩) n47 Sn)]⟩),(.agg ⟨q49⟩),(.agg ⟨q50⟩)]) none fun v0=>(oo (CQ v0) none fun l0=>(ll l0 none fun v1 l0=>(ll l0 none fun v2 l0=>(ll l0 none fun v3 l0=>(ll l0 none fun v4 l0=>(ll l0 none fun v5 l0=>(ll l0 none fun v6 l0=>(ll l0 none fun v7 l0=>(ll l0 none fun v8 l0=>(ll l0 none fun v9 l0=>(ll l0 (bb (MC v1) (oo (Bt v2) none fun l1=>(ll l1 none fun v10 l1=>(ll l1 (oo (Bi .i64 v10) none fun x0=>(oo (Bt v3) none fun l2=>(ll l2 none fun v11 l2=>(ll l2 (oo (Om 37 0 v11) none fun l3=>(ll l3 none fun v12 l3=>(ll l3 none fun v13 l3=>(ll l3 none fun v14 l3=>(ll l3 (bb (MK v12 4 0) (bb (MK v13 5 0) (bb (MK v14 6 0) (oo (Bt v4) none fun l4=>(ll l4 none fun v15 l4=>(ll l4 (oo (Om 75 0 v15) none fun l5=>(ll l5 none fun v16 l5=>(ll l5 none fun v17 l5=>(ll l5 none fun v18 l5=>(ll l5 (bb (MK v16 1 0) (bb (MK v17 2 0) (bb (MK v18 3 0) (oo (Bt v5) none fun l6=>(ll l6 none fun v19 l6=>(ll l6 none fun v20 l6=>(ll l6 (oo (Bi .i64 v19) none fun x1=>(oo (Bj 2 v20) none fun s0=>(oo (Bt v6) none fun l7=>(ll l7 none fun v21 l7=>(ll l7 (oo (KP 7 0 1 v21) none fun y0=>(oo (Bt v7) none fun l8=>(ll l8 none fun v22 l8=>(ll l8 (oo (KP 8 0 1 v22) none fun y1=>(oo (Bt v8) none fun q0=>(oo (Bt v9) none fun q1=>(bb (Au Ah q0) (bb (Au Ah q1) (bb (Au Ah q0) (bb (Au Ah q1) (some (.tuple ⟨[(.tuple ⟨[]⟩),(.agg ⟨[.int .i64 x1,(Sl.v 2 s0)]⟩),(.agg ⟨[(.slice (some ⟨4,0,some 1⟩) (NC.n y0) (NC.c y0))]⟩),(.agg ⟨[(.slice (some ⟨5,0,some 1⟩) (NC.n y1) (NC.c y1))]⟩),(.agg ⟨q0⟩),(.agg ⟨q1⟩)]⟩)) none) none) none) none)))) fun _ _=>none)))) fun _ _=>none))))) fun _ _=>none)))) none) none) none) fun _ _=>none))))) fun _ _=>none))) none) none) none) fun _ _=>none))))) fun _ _=>none)))) fun _ _=>none))) none) fun _ _=>none)))))))))))) none) none) none) none) none) none)
def OL (pu:Af) (n:Nat) (args:LV):OV:=
 (ll args none fun a0 args=>(ll args none fun a1 args=>(ll args none fun o0 args=>(ll args none fun o1 args=>(ll args none fun o2 args=>(ll args none fun o3 args=>(ll args none fun o4 args=>(ll args (oo (Bi .i64 a0) none fun x0=>(oo (Om 37 0 a1) none fun l0=>(ll l0 none fun v0 l0=>(ll l0 none fun v1 l0=>(ll l0 none fun v2 l0=>(ll l0 (bb (MK v0 1 0) (bb (MK v1 2 0) (bb (MK v2 3 0) (oo (Bt o0) none fun l1=>(ll l1 none fun v3 l1=>(ll l1 none fun v4 l1=>(ll l1 (oo (Bi .i64 v3) none fun x1=>(oo (Bj 2 v4) none fun s0=>(oo (Bt o1) none fun l2=>(ll l2 none fun v5 l2=>(ll l2 (oo (KP 4 0 1 v5) none fun y0=>(oo (Bt o2) none fun l3=>(ll l3 none fun v6 l3=>(ll l3 (oo (KP 5 0 1 v6) none fun y1=>(oo (Bt o3) none fun q0=>(oo (Bt o4) none fun q1=>(Ke pu n x0 x1 s0 (NC.n y0) (NC.c y0) (NC.n y1) (NC.c y1) q0 q1)))) fun _ _=>none)))) fun _ _=>none))))) fun _ _=>none)))) none) none) none) fun _ _=>none)))))) fun _ _=>none))))))))
theorem lJ (pu:Af) (n:Nat) (z42 z43:Int) (s44:Sl) (n45 Sk n47 Sn:Nat) (q49:LV) (q50:LV) {v:Value} (hm:Ke pu n z42 z43 s44 n45 Sk n47 Sn q49 q50=some v):BN tt (Bb tabs FM pu (inl pu)) 6 Nh (fr 8 [(0,zI z42),(1,(.func (.func 37) ⟨[]⟩ ⟨[pt 1 0,(pt 2 0),(pt 3 0)]⟩))]) (hT 6 [(oC [zI z43,(Sl.v 2 s44)]),(oC [sc 4 0 1 n45 Sk]),(oC [sc 5 0 1 n47 Sn]),oC q49,oC q50]) (FJ tt 1 5 [] v):=by
 unfold Ke at hm
 refine .then (.rK ?_)
 replace hm:=Ae hm;obtain⟨h51,hm⟩:=hm
 replace hm:=Ae hm;obtain⟨h52,hm⟩:=hm
 refine .ghs (fr 8 [(2,(pt 6 0)),(3,(pt 7 0))]) (hT 8 [(oC [zI z43,(Sl.v 2 s44)]),(oC [sc 4 0 1 n45 Sk]),(oC [sc 5 0 1 n47 Sn]),oC q49,oC q50,(oC [zI z42]),(oC [(.func (.func 37) ⟨[]⟩ ⟨[pt 1 0,(pt 2 0),(pt 3 0)]⟩)])]) (.k [4,5] [false,false,true,true,false,false] [.tmp 2 false,.tmp 3 true] [2,3] ⟨Bq h51,Bq h52,trivial⟩) ?_
 refine .then (.rK (.ghs (fr 8 [(2,(pt 6 0)),(3,(pt 7 0)),(4,(pt 8 0))]) (hT 9 [(oC [zI z43,(Sl.v 2 s44)]),(oC [sc 4 0 1 n45 Sk]),(oC [sc 5 0 1 n47 Sn]),oC q49,oC q50,(oC [zI z42]),(oC [(.func (.func 37) ⟨[]⟩ ⟨[pt 1 0,(pt 2 0),(pt 3 0)]⟩)]),(oC [.nilFunc])]) (.k [4,5] [false,false,true,true,false,false] [.tmp 2 false,.tmp 3 true,.tmp 4 false] [2,3,4] ⟨Bq h51,Bq h52,trivial⟩) ?_))
 refine .then (.rK (.ghs (fr 8 [(4,(pt 6 0))]) (hT 9 [(oC [zI z43,(Sl.v 2 s44)]),(oC [sc 4 0 1 n45 Sk]),(oC [sc 5 0 1 n47 Sn]),oC q49,oC q50,(oC [(.func (.func 75) ⟨[]⟩ ⟨[(pt 7 0),(pt 8 0),(pt 6 0)]⟩)]),(oC [zI z42]),(oC [(.func (.func 37) ⟨[]⟩ ⟨[pt 1 0,(pt 2 0),(pt 3 0)]⟩)])]) (.k [4,5] [false,false,true,true,false,false] [.tmp 4 true,.ccap 6 0 0 false,.ccap 6 0 1 true] [4] ⟨Bq h51,Bq h52,trivial⟩) ?_))
 replace hm:=Ae hm;obtain⟨h0,hm⟩:=hm
 replace hm:=Ae hm;obtain⟨h1,hm⟩:=hm
 replace hm:=Ae hm;obtain⟨h2,hm⟩:=hm
 replace hm:=Ae hm;obtain⟨h3,hm⟩:=hm
 replace hm:=Ab hm;obtain⟨v0,h4,hm⟩:=hm
 replace hm:=Ch hm;obtain⟨l0,rfl,hm⟩:=hm
 replace hm:=Ad hm;obtain⟨v1,l1500_0,rfl,hm⟩:=hm
 replace hm:=Ad hm;obtain⟨v2,l1500_1,rfl,hm⟩:=hm
 replace hm:=Ad hm;obtain⟨v3,l1500_2,rfl,hm⟩:=hm
 replace hm:=Ad hm;obtain⟨v4,l1500_3,rfl,hm⟩:=hm
 replace hm:=Ad hm;obtain⟨v5,l1500_4,rfl,hm⟩:=hm
 replace hm:=Ad hm;obtain⟨v6,l1500_5,rfl,hm⟩:=hm
 replace hm:=Ad hm;obtain⟨v7,l1500_6,rfl,hm⟩:=hm
 replace hm:=Ad hm;obtain⟨v8,l1500_7,rfl,hm⟩:=hm
 replace hm:=Ad hm;obtain⟨v9,l1500_8,rfl,hm⟩:=hm
 replace hm:=AC hm;obtain⟨rfl,hm⟩:=hm
 replace hm:=Ae hm;obtain⟨h5,hm⟩:=hm
 obtain rfl:=Oo h5
 replace hm:=BG hm;obtain⟨l1,rfl,hm⟩:=hm
 replace hm:=Ad hm;obtain⟨v10,l1512_0,rfl,hm⟩:=hm
 replace hm:=AC hm;obtain⟨rfl,hm⟩:=hm
 replace hm:=Ai hm;obtain⟨x0,rfl,hm⟩:=hm
 replace hm:=BG hm;obtain⟨l2,rfl,hm⟩:=hm
 replace hm:=Ad hm;obtain⟨v11,l1517_0,rfl,hm⟩:=hm
 replace hm:=AC hm;obtain⟨rfl,hm⟩:=hm
 replace hm:=Ab hm;obtain⟨l3,h6,hm⟩:=hm
 obtain rfl:=Hu h6
 replace hm:=Ad hm;obtain⟨v12,l1520_0,rfl,hm⟩:=hm
 replace hm:=Ad hm;obtain⟨v13,l1520_1,rfl,hm⟩:=hm
 replace hm:=Ad hm;obtain⟨v14,l1520_2,rfl,hm⟩:=hm
 replace hm:=AC hm;obtain⟨rfl,hm⟩:=hm
 replace hm:=Ae hm;obtain⟨h7,hm⟩:=hm
 obtain rfl:=KR h7
 replace hm:=Ae hm;obtain⟨h8,hm⟩:=hm
 obtain rfl:=KR h8
 replace hm:=Ae hm;obtain⟨h9,hm⟩:=hm
 obtain rfl:=KR h9
 replace hm:=BG hm;obtain⟨l4,rfl,hm⟩:=hm
 replace hm:=Ad hm;obtain⟨v15,l1528_0,rfl,hm⟩:=hm
 replace hm:=AC hm;obtain⟨rfl,hm⟩:=hm
 replace hm:=Ab hm;obtain⟨l5,h10,hm⟩:=hm
 obtain rfl:=Hu h10
 replace hm:=Ad hm;obtain⟨v16,l1531_0,rfl,hm⟩:=hm
 replace hm:=Ad hm;obtain⟨v17,l1531_1,rfl,hm⟩:=hm
 replace hm:=Ad hm;obtain⟨v18,l1531_2,rfl,hm⟩:=hm
 replace hm:=AC hm;obtain⟨rfl,hm⟩:=hm
 replace hm:=Ae hm;obtain⟨h11,hm⟩:=hm
 obtain rfl:=KR h11
 replace hm:=Ae hm;obtain⟨h12,hm⟩:=hm
 obtain rfl:=KR h12
 replace hm:=Ae hm;obtain⟨h13,hm⟩:=hm
 obtain rfl:=KR h13
 replace hm:=BG hm;obtain⟨l6,rfl,hm⟩:=hm
 replace hm:=Ad hm;obtain⟨v19,l1539_0,rfl,hm⟩:=hm
 replace hm:=Ad hm;obtain⟨v20,l1539_1,rfl,hm⟩:=hm
 replace hm:=AC hm;obtain⟨rfl,hm⟩:=hm
 replace hm:=Ai hm;obtain⟨x1,rfl,hm⟩:=hm
 replace hm:=Al hm;obtain⟨s0,rfl,hm⟩:=hm
 replace hm:=BG hm;obtain⟨l7,rfl,hm⟩:=hm
 replace hm:=Ad hm;obtain⟨v21,l1547_0,rfl,hm⟩:=hm
 replace hm:=AC hm;obtain⟨rfl,hm⟩:=hm
 replace hm:=Ab hm;obtain⟨y0,h14,hm⟩:=hm
 obtain rfl:=F5 h14
 replace hm:=BG hm;obtain⟨l8,rfl,hm⟩:=hm
 replace hm:=Ad hm;obtain⟨v22,l1552_0,rfl,hm⟩:=hm
 replace hm:=AC hm;obtain⟨rfl,hm⟩:=hm
 replace hm:=Ab hm;obtain⟨y1,h15,hm⟩:=hm
 obtain rfl:=F5 h15
 replace hm:=BG hm;obtain⟨q0,rfl,hm⟩:=hm
 replace hm:=BG hm;obtain⟨q1,rfl,hm⟩:=hm
 replace hm:=Ae hm;obtain⟨h16,hm⟩:=hm
 replace hm:=Ae hm;obtain⟨h17,hm⟩:=hm
 refine .reg (eC 1 (EK tabs [[some 1],[none],[none],[none]] 4 [.tmp 1 false,.tmp 2 true,.tmp 3 true,.ccap 2 0 0 false,.ccap 2 0 1 true,.ccap 2 0 2 true,.cell 5 0 false,.cell 6 0 false] [false,true,true,false,true,true,false,false] (pu 10750) [(.slice none 0 0),(pt 7 0),(pt 8 0),(pt 6 0)] (hT 9 [(oC [zI z43,(Sl.v 2 s44)]),(oC [sc 4 0 1 n45 Sk]),(oC [sc 5 0 1 n47 Sn]),oC q49,oC q50,(oC [(.func (.func 75) ⟨[]⟩ ⟨[(pt 7 0),(pt 8 0),(pt 6 0)]⟩)]),(oC [zI z42]),(oC [(.func (.func 37) ⟨[]⟩ ⟨[pt 1 0,(pt 2 0),(pt 3 0)]⟩)])])) (EL (as:=[(Sl.v 1 (Sl.mk 0 2 [])),(pt 7 0),(pt 8 0),(pt 6 0)]) (H1:=(hT 9 [(oC [zI z43,(Sl.v 2 s44)]),(oC [sc 4 0 1 n45 Sk]),(oC [sc 5 0 1 n47 Sn]),oC q49,oC q50,(oC [(.func (.func 75) ⟨[]⟩ ⟨[(pt 7 0),(pt 8 0),(pt 6 0)]⟩)]),(oC [zI z42]),(oC [(.func (.func 37) ⟨[]⟩ ⟨[pt 1 0,(pt 2 0),(pt 3 0)]⟩)])])) (BS (Dm (KQ (Ju (z:=1) (H:=(hT 9 [(oC [zI z43,(Sl.v 2 s44)]),(oC [sc 4 0 1 n45 Sk]),(oC [sc 5 0 1 n47 Sn]),oC q49,oC q50,(oC [(.func (.func 75) ⟨[]⟩ ⟨[(pt 7 0),(pt 8 0),(pt 6 0)]⟩)]),(oC [zI z42]),(oC [(.func (.func 37) ⟨[]⟩ ⟨[pt 1 0,(pt 2 0),(pt 3 0)]⟩)])]))))) (BS (Dm Dk) (BS (Dm Dk) (BS (Dm Dk) Gj)))) (EI (H2:=(hT 9 [(oC [zI x1,(Sl.v 2 s0)]),(oC [(sc 4 0 1 (NC.n y0) (NC.c y0))]),(oC [(sc 5 0 1 (NC.n y1) (NC.c y1))]),oC q0,oC q1,(oC [(.func (.func 75) ⟨[]⟩ ⟨[(pt 7 0),(pt 8 0),(pt 6 0)]⟩)]),(oC [zI x0]),(oC [(.func (.func 37) ⟨[]⟩ ⟨[pt 1 0,(pt 2 0),(pt 3 0)]⟩)])])) (v:=(.tuple ⟨[]⟩)) (v':=(.tuple ⟨[]⟩)) [some 0,some 7,some 8,some 6,some 1,some 2,some 3,some 4,some 5] [(false,some 7),(true,some 8),(true,some 6),(false,some 1),(true,some 2),(true,some 3),(false,some 4),(false,some 5)] [(oC [zI z42]),(oC [(.func (.func 37) ⟨[]⟩ ⟨[(pt 4 0),(pt 5 0),(pt 6 0)]⟩)]),(oC [(.func (.func 75) ⟨[]⟩ ⟨[pt 1 0,(pt 2 0),(pt 3 0)]⟩)]),(oC [zI z43,(Sl.v 2 s44)]),(oC [sc 7 0 1 n45 Sk]),(oC [sc 8 0 1 n47 Sn]),oC q49,oC q50] [(Sl.v 1 (Sl.mk 0 2 [])),pt 1 0,(pt 2 0),(pt 3 0)] [(.agg ⟨[zI x0]⟩),(.agg ⟨[(.func (.func 37) ⟨[]⟩ ⟨[(pt 4 0),(pt 5 0),(pt 6 0)]⟩)]⟩),(.agg ⟨[(.func (.func 75) ⟨[]⟩ ⟨[pt 1 0,(pt 2 0),(pt 3 0)]⟩)]⟩),(.agg ⟨[zI x1,(Sl.v 2 s0)]⟩),(.agg ⟨[(sc 7 0 1 (NC.n y0) (NC.c y0))]⟩),(.agg ⟨[(sc 8 0 1 (NC.n y1) (NC.c y1))]⟩),(.agg ⟨q0⟩),(.agg ⟨q1⟩)] [(oC [zI x0]),(oC [(.func (.func 37) ⟨[]⟩ ⟨[(pt 4 0),(pt 5 0),(pt 6 0)]⟩)]),(oC [(.func (.func 75) ⟨[]⟩ ⟨[pt 1 0,(pt 2 0),(pt 3 0)]⟩)]),(oC [zI x1,(Sl.v 2 s0)]),(oC [(sc 7 0 1 (NC.n y0) (NC.c y0))]),(oC [(sc 8 0 1 (NC.n y1) (NC.c y1))]),oC q0,oC q1] [some 0,some 4,some 5,some 6,some 7,some 8,some 3,some 1,some 2] [(false,(oC [zI x0])),(true,(oC [(.func (.func 37) ⟨[]⟩ ⟨[(pt 4 0),(pt 5 0),(pt 6 0)]⟩)])),(true,(oC [(.func (.func 75) ⟨[]⟩ ⟨[pt 1 0,(pt 2 0),(pt 3 0)]⟩)])),(false,(oC [zI x1,(Sl.v 2 s0)])),(true,(oC [(sc 7 0 1 (NC.n y0) (NC.c y0))])),(true,(oC [(sc 8 0 1 (NC.n y1) (NC.c y1))])),(false,oC q0),(false,oC q1)] [(oC [zI x0]),(oC [(.func (.func 37) ⟨[]⟩ ⟨[pt 1 0,(pt 2 0),(pt 3 0)]⟩)]),(oC [(.func (.func 75) ⟨[]⟩ ⟨[(pt 7 0),(pt 8 0),(pt 6 0)]⟩)]),(oC [zI x1,(Sl.v 2 s0)]),(oC [(sc 4 0 1 (NC.n y0) (NC.c y0))]),(oC [(sc 5 0 1 (NC.n y1) (NC.c y1))]),oC q0,oC q1] (sF (by kernel_rfl) (XX h0 (XX h1 rfl))) (En (by kernel_rfl) (En (by kernel_rfl) (En (by kernel_rfl) (En (by kernel_rfl) (En (by kernel_rfl) (En (by kernel_rfl) (En (Nb (anc:=[]) h2) (En (Nb (anc:=[]) h3) BX)))))))) (Eq.trans (by kernel_rfl) h4) (En rfl (En rfl (En rfl (En rfl (En rfl (En rfl (En rfl (En rfl BX)))))))) (En (by kernel_rfl) (En (by kernel_rfl) (En (by kernel_rfl) (En (by kernel_rfl) (En (by kernel_rfl) (En (by kernel_rfl) (En (KO h16) (En (KO h17) BX)))))))))) (eE)) ?_
 replace hm:=Ae hm;obtain⟨h18,hm⟩:=hm
 replace hm:=Ae hm;obtain⟨h19,hm⟩:=hm
 refine .ghs (fr 8 []) (hT 6 [(oC [zI x1,(Sl.v 2 s0)]),(oC [(sc 4 0 1 (NC.n y0) (NC.c y0))]),(oC [(sc 5 0 1 (NC.n y1) (NC.c y1))]),oC q0,oC q1]) (.k [4,5] [false,false,true,true,false,false] [] [] ⟨Bq h18,Bq h19,trivial⟩) ?_
 exact TU (.tuple ⟨[]⟩) [(oC [zI x1,(Sl.v 2 s0)]),(oC [(sc 4 0 1 (NC.n y0) (NC.c y0))]),(oC [(sc 5 0 1 (NC.n y1) (NC.c y1))]),oC q0,oC q1] (by kernel_rfl) hm (Nat.le_of_ble_eq_true rfl) (Fa (VT _) (Fa (VT _) (Fa (VT _) (Fa (VT _) (Fa (VT _) EJ)))))
theorem lK {call:A8} (pu:Af) (n:Nat) (hcall:call=Bb tabs FM pu (inl pu)) {args:LV} {os:List AJ} {z:Value} (ha:args.length=2) (hk:os.length=5) (hpl:∀ o∈os,plainO o) (hm:OL pu n (args++os.map Ef)=some z):args.length≤8∧BN tt call (tabs.length+5) Nh (Fr.made 8 args) (BK tabs os) (FJ tt tabs.length 5 [] z):=by
 subst hcall
 have hq:=BC ha;clear ha;obtain⟨a0,args,rfl,ha⟩:=hq
 have hq:=BC ha;clear ha;obtain⟨a1,args,rfl,ha⟩:=hq
 obtain rfl:=len_nil ha
 have hq:=BC hk;clear hk;obtain⟨b0,os,rfl,hk⟩:=hq
 have hp0:plainO b0:=hpl b0 (by simp)
 have hq:=BC hk;clear hk;obtain⟨b1,os,rfl,hk⟩:=hq
 have hp1:plainO b1:=hpl b1 (by simp)
 have hq:=BC hk;clear hk;obtain⟨b2,os,rfl,hk⟩:=hq
 have hp2:plainO b2:=hpl b2 (by simp)
 have hq:=BC hk;clear hk;obtain⟨b3,os,rfl,hk⟩:=hq
 have hp3:plainO b3:=hpl b3 (by simp)
 have hq:=BC hk;clear hk;obtain⟨b4,os,rfl,hk⟩:=hq
 have hp4:plainO b4:=hpl b4 (by simp)
 obtain rfl:=len_nil hk
 replace hm:OL pu n [a0,a1,Ef b0,Ef b1,Ef b2,Ef b3,Ef b4]=some z:=hm
 unfold OL at hm
 replace hm:(oo (Bi .i64 a0) none fun x0=>(oo (Om 37 0 a1) none fun l0=>(ll l0 none fun v0 l0=>(ll l0 none fun v1 l0=>(ll l0 none fun v2 l0=>(ll l0 (bb (MK v0 1 0) (bb (MK v1 2 0) (bb (MK v2 3 0) (oo (Bt (Ef b0)) none fun l1=>(ll l1 none fun v3 l1=>(ll l1 none fun v4 l1=>(ll l1 (oo (Bi .i64 v3) none fun x1=>(oo (Bj 2 v4) none fun s0=>(oo (Bt (Ef b1)) none fun l2=>(ll l2 none fun v5 l2=>(ll l2 (oo (KP 4 0 1 v5) none fun y0=>(oo (Bt (Ef b2)) none fun l3=>(ll l3 none fun v6 l3=>(ll l3 (oo (KP 5 0 1 v6) none fun y1=>(oo (Bt (Ef b3)) none fun q0=>(oo (Bt (Ef b4)) none fun q1=>(Ke pu n x0 x1 s0 (NC.n y0) (NC.c y0) (NC.n y1) (NC.c y1) q0 q1)))) fun _ _=>none)))) fun _ _=>none))))) fun _ _=>none)))) none) none) none) fun _ _=>none))))))=some z:=hm
 replace hm:=Ai hm;obtain⟨x0,rfl,hm⟩:=hm
 replace hm:=Ab hm;obtain⟨l0,h0,hm⟩:=hm
 obtain rfl:=Hu h0
 replace hm:=Ad hm;obtain⟨v0,l1575_0,rfl,hm⟩:=hm
 replace hm:=Ad hm;obtain⟨v1,l1575_1,rfl,hm⟩:=hm
 replace hm:=Ad hm;obtain⟨v2,l1575_2,rfl,hm⟩:=hm
 replace hm:=AC hm;obtain⟨rfl,hm⟩:=hm
 replace hm:=Ae hm;obtain⟨h1,hm⟩:=hm
 obtain rfl:=KR h1
 replace hm:=Ae hm;obtain⟨h2,hm⟩:=hm
 obtain rfl:=KR h2
 replace hm:=Ae hm;obtain⟨h3,hm⟩:=hm
 obtain rfl:=KR h3
 replace hm:=Ab hm;obtain⟨l1,h4,hm⟩:=hm
 obtain rfl:=I7 hp0 h4
 replace hm:=Ad hm;obtain⟨v3,l1583_0,rfl,hm⟩:=hm
 replace hm:=Ad hm;obtain⟨v4,l1583_1,rfl,hm⟩:=hm
 replace hm:=AC hm;obtain⟨rfl,hm⟩:=hm
 replace hm:=Ai hm;obtain⟨x1,rfl,hm⟩:=hm
 replace hm:=Al hm;obtain⟨s0,rfl,hm⟩:=hm
 replace hm:=Ab hm;obtain⟨l2,h5,hm⟩:=hm
 obtain rfl:=I7 hp1 h5
 replace hm:=Ad hm;obtain⟨v5,l1591_0,rfl,hm⟩:=hm
 replace hm:=AC hm;obtain⟨rfl,hm⟩:=hm
 replace hm:=Ab hm;obtain⟨y0,h6,hm⟩:=hm
 obtain rfl:=F5 h6
 replace hm:=Ab hm;obtain⟨l3,h7,hm⟩:=hm
 obtain rfl:=I7 hp2 h7
 replace hm:=Ad hm;obtain⟨v6,l1596_0,rfl,hm⟩:=hm
 replace hm:=AC hm;obtain⟨rfl,hm⟩:=hm
 replace hm:=Ab hm;obtain⟨y1,h8,hm⟩:=hm
 obtain rfl:=F5 h8
 replace hm:=Ab hm;obtain⟨q0,h9,hm⟩:=hm
 obtain rfl:=I7 hp3 h9
 replace hm:=Ab hm;obtain⟨q1,h10,hm⟩:=hm
 obtain rfl:=I7 hp4 h10
 refine⟨by simp,?_⟩
 exact .same (F':=(fr 8 [(0,zI x0),(1,(.func (.func 37) ⟨[]⟩ ⟨[pt 1 0,(pt 2 0),(pt 3 0)]⟩))])) (H':=(hT 6 [(oC [zI x1,(Sl.v 2 s0)]),(oC [(sc 4 0 1 (NC.n y0) (NC.c y0))]),(oC [(sc 5 0 1 (NC.n y1) (NC.c y1))]),oC q0,oC q1])) (by kernel_rfl) (by kernel_rfl) (lJ pu n x0 x1 s0 (NC.n y0) (NC.c y0) (NC.n y1) (NC.c y1) q0 q1 hm)
def G5 (pu:Af) (n:Nat) (ih0:Sl→Int→Int→Int→Sl→Nat→Nat→Nat→Nat→LV→LV→OV) (s0:Sl) (z0 z1 z2:Int) (s1:Sl) (n0 c0 n1 c1:Nat) (q0:LV) (q1:LV):OV:=
 (bb (Au Ah q0) (bb (Au Ah q1) (ih0 s0 (Aj .i64 (Int.add z0 (1:Int))) z1 z2 s1 n0 c0 n1 c1 q0 q1) none) none)
def G9 (pu:Af) (n:Nat) (ih0:Sl→Int→Int→Int→Sl→Nat→Nat→Nat→Nat→LV→LV→OV) (s0:Sl) (z0 z1 z2:Int) (s1:Sl) (n0 c0 n1 c1:Nat) (q0:LV) (q1:LV):OV:=
 (bb (Au Ah q0) (bb (Au Ah q1) (bb (AY z0 z1) (oo (pu 38 [Sl.v 1 s0,.int .i64 z0]) none fun v0=>(oo (Bf v0) none fun b0=>(bb (nt b0) (oo (pu 76 [Sl.v 1 s0]) none fun v1=>(oo (Bj 1 v1) none fun s2=>(bb (an (Dp (Nat.beq (Sl.fl s2) 1) (Nat.beq (Sl.fl s2) 2)) (EQ ((Sl.n s2)+1) 8)) (bb (an (Nat.ble (0+((Sl.n s2)+1)*1) (len (Br (Sl.cs s2) ([.int .i64 z0]:LV)))) (Au Ah (Aq (((Sl.n s2)+1)*1) (Am 0 (Br (Sl.cs s2) ([.int .i64 z0]:LV)))))) (bb (Dp (Nat.ble 2 c0) (MQ q0)) (bb (Dp (Nat.ble 2 c1) (MQ q1)) (bb (Au Ah q0) (bb (Au Ah q1) (oo (pu 10750 [(Sl.v 1 (Sl.mk ((Sl.n s2)+1) 0 (Aq (((Sl.n s2)+1)*1) (Am 0 (Br (Sl.cs s2) ([.int .i64 z0]:LV)))))),(.pointer (some ⟨1,0,none⟩)),(.pointer (some ⟨2,0,none⟩)),(.pointer (some ⟨3,0,none⟩)),(.agg ⟨[.int .i64 z1]⟩),(.agg ⟨[(.func (.func 37) ⟨[]⟩ ⟨[(.pointer (some ⟨4,0,none⟩)),(.pointer (some ⟨5,0,none⟩)),(.pointer (some ⟨6,0,none⟩))]⟩)]⟩),(.agg ⟨[(.func (.func 75) ⟨[]⟩ ⟨[(.pointer (some ⟨1,0,none⟩)),(.pointer (some ⟨2,0,none⟩)),(.pointer (some ⟨3,0,none⟩))]⟩)]⟩),(.agg ⟨[.int .i64 z2,(Sl.v 2 s1)]⟩),(.agg ⟨[(.slice (some ⟨7,0,some 1⟩) n0 c0)]⟩),(.agg ⟨[(.slice (some ⟨8,0,some 1⟩) n1 c1)]⟩),(.agg ⟨q0⟩),(.agg ⟨q1⟩)]) none fun v2=>(oo (CQ v2) none fun l0=>(ll l0 none fun v3 l0=>(ll l0 none fun v4 l0=>(ll l0 none fun v5 l0=>(ll l0 none fun v6 l0=>(ll l0 none fun v7 l0=>(ll l0 none fun v8 l0=>(ll l0 none fun v9 l0=>(ll l0 none fun v10 l0=>(ll l0 none fun v11 l0=>(ll l0 (bb (MC v3) (oo (Bt v4) none fun l1=>(ll l1 none fun v12 l1=>(ll l1 (oo (Bi .i64 v12) none fun x0=>(oo (Bt v5) none fun l2=>(ll l2 none fun v13 l2=>(ll l2 (oo (Om 37 0 v13) none fun l3=>(ll l3 none fun v14 l3=>(ll l3 none fun v15 l3=>(ll l3 none fun v16 l3=>(ll l3 (bb (MK v14 4 0) (bb (MK v15 5 0) (bb (MK v16 6 0) (oo (Bt v6) none fun l4=>(ll l4 none fun v17 l4=>(ll l4 (oo (Om 75 0 v17) none fun l5=>(ll l5 none fun v18 l5=>(ll l5 none fun v19 l5=>(ll l5 none fun v20 l5=>(ll l5 (bb (MK v18 1 0) (bb (MK v19 2 0) (bb (MK v20 3 0) (oo (Bt v7) none fun l6=>(ll l6 none fun v21 l6=>(ll l6 none fun v22 l6=>(ll l6 (oo (Bi .i64 v21) none fun x1=>(oo (Bj 2 v22) none fun s3=>(oo (Bt v8) none fun l7=>(ll l7 none fun v23 l7=>(ll l7 (oo (KP 7 0 1 v23) none fun y0=>(oo (Bt v9) none fun l8=>(ll l8 none fun v24 l8=>(ll l8 (oo (KP 8 0 1 v24) none fun y1=>(oo (Bt v10) none fun q2=>(oo (Bt v11) none fun q3=>(bb (Au Ah q2) (bb (Au Ah q3) (bb (Au Ah q2) (bb (Au Ah q3) (G5 pu n ih0 s0 z0 x0 x1 s3 (NC.n y0) (NC.c y0) (NC.n y1) (NC.c y1) q2 q3) none) none) none) none)))) fun _ _=>none)))) fun _ _=>none))))) fun _ _=>none)))) none) none) none) fun _ _=>none))))) fun _ _=>none))) none) none) none) fun _ _=>none))))) fun _ _=>none)))) fun _ _=>none))) none) fun _ _=>none)))))))))))) none) none) none) none) none) none))) (G5 pu n ih0 s0 z0 z1 z2 s1 n0 c0 n1 c1 q0 q1)))) (some (.tuple ⟨[(.tuple ⟨[]⟩),(.agg ⟨[.int .i64 z1]⟩),(.agg ⟨[(.func (.func 37) ⟨[]⟩ ⟨[(.pointer (some ⟨4,0,none⟩)),(.pointer (some ⟨5,0,none⟩)),(.pointer (some ⟨6,0,none⟩))]⟩)]⟩),(.agg ⟨[(.func (.func 75) ⟨[]⟩ ⟨[(.pointer (some ⟨1,0,none⟩)),(.pointer (some ⟨2,0,none⟩)),(.pointer (some ⟨3,0,none⟩))]⟩)]⟩),(.agg ⟨[.int .i64 z2,(Sl.v 2 s1)]⟩),(.agg ⟨[(.slice (some ⟨7,0,some 1⟩) n0 c0)]⟩),(.agg ⟨[(.slice (some ⟨8,0,some 1⟩) n1 c1)]⟩),(.agg ⟨q0⟩),(.agg ⟨q1⟩)]⟩))) none) none)
def Gq (pu:Af) (n w:Nat):Sl→Int→Int→Int→Sl→Nat→Nat→Nat→Nat→LV→LV→OV:=
 Nat.rec (motive:=fun _=>Sl→Int→Int→Int→Sl→Nat→Nat→Nat→Nat→LV→LV→OV) (fun _ _ _ _ _ _ _ _ _ _ _=>none) (fun _ ih0=>G9 pu n ih0) w
def Jg (pu:Af) (n:Nat) (s53:Sl) (z54 z55:Int) (s56:Sl) (n57 c58 n59 QJ:Nat) (q61:LV) (q62:LV):OV:=
 (bb (Au Ah q61) (bb (Au Ah q62) (bb (Bd (Int.ofNat (Sl.n s53)) z54) (bb (Dp (Nat.ble 2 c58) (MQ q61)) (bb (Dp (Nat.ble 2 QJ) (MQ q62)) (bb (Au Ah q61) (bb (Au Ah q62) (oo (pu 10370 [Sl.v 1 s53,(.pointer (some ⟨1,0,none⟩)),(.pointer (some ⟨2,0,none⟩)),(.pointer (some ⟨3,0,none⟩)),(.agg ⟨[.int .i64 z55,(Sl.v 2 s56)]⟩),(.agg ⟨[(.slice (some ⟨4,0,some 1⟩) n57 c58)]⟩),(.agg ⟨[(.slice (some ⟨5,0,some 1⟩) n59 QJ)]⟩),(.agg ⟨q61⟩),(.agg ⟨q62⟩)]) none fun v0=>(oo (CQ v0) none fun l0=>(ll l0 none fun v1 l0=>(ll l0 none fun v2 l0=>(ll l0 none fun v3 l0=>(ll l0 none fun v4 l0=>(ll l0 none fun v5 l0=>(ll l0 none fun v6 l0=>(ll l0 (bb (MC v1) (oo (Bt v2) none fun l1=>(ll l1 none fun v7 l1=>(ll l1 none fun v8 l1=>(ll l1 (oo (Bi .i64 v7) none fun x0=>(oo (Bj 2 v8) none fun s0=>(oo (Bt v3) none fun l2=>(ll l2 none fun v9 l2=>(ll l2 (oo (KP 4 0 1 v9) none fun y0=>(oo (Bt v4) none fun l3=>(ll l3 none fun v10 l3=>(ll l3 (oo (KP 5 0 1 v10) none fun y1=>(oo (Bt v5) none fun q0=>(oo (Bt v6) none fun q1=>(bb (Au Ah q0) (bb (Au Ah q1) (bb (Au Ah q0) (bb (Au Ah q1) (some (.tuple ⟨[(.tuple ⟨[]⟩),(.agg ⟨[.int .i64 z54]⟩),(.agg ⟨[(.func (.func 37) ⟨[]⟩ ⟨[(.pointer (some ⟨4,0,none⟩)),(.pointer (some ⟨5,0,none⟩)),(.pointer (some ⟨6,0,none⟩))]⟩)]⟩),(.agg ⟨[(.func (.func 75) ⟨[]⟩ ⟨[(.pointer (some ⟨1,0,none⟩)),(.pointer (some ⟨2,0,none⟩)),(.pointer (some ⟨3,0,none⟩))]⟩)]⟩),(.agg ⟨[.int .i64 x0,(Sl.v 2 s0)]⟩),(.agg ⟨[(.slice (some ⟨7,0,some 1⟩) (NC.n y0) (NC.c y0))]⟩),(.agg ⟨[(.slice (some ⟨8,0,some 1⟩) (NC.n y1) (NC.c y1))]⟩),(.agg ⟨q0⟩),(.agg ⟨q1⟩)]⟩)) none) none) none) none)))) fun _ _=>none)))) fun _ _=>none))))) fun _ _=>none)))) none) fun _ _=>none))))))))) none) none) none) none) (Gq pu n n s53 (0:Int) z54 z55 s56 n57 c58 n59 QJ q61 q62)) none) none)
def OM (pu:Af) (n:Nat) (args:LV):OV:=
 (ll args none fun a0 args=>(ll args none fun a1 args=>(ll args none fun a2 args=>(ll args none fun a3 args=>(ll args none fun o0 args=>(ll args none fun o1 args=>(ll args none fun o2 args=>(ll args none fun o3 args=>(ll args none fun o4 args=>(ll args none fun o5 args=>(ll args none fun o6 args=>(ll args none fun o7 args=>(ll args (oo (Bj 1 a0) none fun s0=>(bb (MK a1 1 0) (bb (MK a2 2 0) (bb (MK a3 3 0) (oo (Bt o0) none fun l0=>(ll l0 none fun v0 l0=>(ll l0 (oo (Bi .i64 v0) none fun x0=>(oo (Bt o1) none fun l1=>(ll l1 none fun v1 l1=>(ll l1 (oo (Om 37 0 v1) none fun l2=>(ll l2 none fun v2 l2=>(ll l2 none fun v3 l2=>(ll l2 none fun v4 l2=>(ll l2 (bb (MK v2 4 0) (bb (MK v3 5 0) (bb (MK v4 6 0) (oo (Bt o2) none fun l3=>(ll l3 none fun v5 l3=>(ll l3 (oo (Om 75 0 v5) none fun l4=>(ll l4 none fun v6 l4=>(ll l4 none fun v7 l4=>(ll l4 none fun v8 l4=>(ll l4 (bb (MK v6 1 0) (bb (MK v7 2 0) (bb (MK v8 3 0) (oo (Bt o3) none fun l5=>(ll l5 none fun v9 l5=>(ll l5 none fun v10 l5=>(ll l5 (oo (Bi .i64 v9) none fun x1=>(oo (Bj 2 v10) none fun s1=>(oo (Bt o4) none fun l6=>(ll l6 none fun v11 l6=>(ll l6 (oo (KP 7 0 1 v11) none fun y0=>(oo (Bt o5) none fun l7=>(ll l7 none fun v12 l7=>(ll l7 (oo (KP 8 0 1 v12) none fun y1=>(oo (Bt o6) none fun q0=>(oo (Bt o7) none fun q1=>(Jg pu n s0 x0 x1 s1 (NC.n y0) (NC.c y0) (NC.n y1) (NC.c y1) q0 q1)))) fun _ _=>none)))) fun _ _=>none))))) fun _ _=>none)))) none) none) none) fun _ _=>none))))) fun _ _=>none))) none) none) none) fun _ _=>none))))) fun _ _=>none)))) fun _ _=>none))) none) none) none)) fun _ _=>none)))))))))))))
theorem lL (pu:Af) (n:Nat) (s53:Sl) (z54 z55:Int) (s56:Sl) (n57 c58 n59 QJ:Nat) (q61:LV) (q62:LV) {v:Value} (hm:Jg pu n s53 z54 z55 s56 n57 c58 n59 QJ q61 q62=some v):BN tt (Bb tabs FM pu (inl pu)) 9 KX (fr 29 [(0,Sl.v 1 s53),(1,pt 1 0),(2,(pt 2 0)),(3,(pt 3 0))]) (hT 9 [(oC [zI z54]),(oC [(.func (.func 37) ⟨[]⟩ ⟨[(pt 4 0),(pt 5 0),(pt 6 0)]⟩)]),(oC [(.func (.func 75) ⟨[]⟩ ⟨[pt 1 0,(pt 2 0),(pt 3 0)]⟩)]),(oC [zI z55,(Sl.v 2 s56)]),(oC [sc 7 0 1 n57 c58]),(oC [sc 8 0 1 n59 QJ]),oC q61,oC q62]) (FJ tt 1 8 [] v):=by
 unfold Jg at hm
 refine .then (.then (.rK ?_))
 replace hm:=Ae hm;obtain⟨h63,hm⟩:=hm
 replace hm:=Ae hm;obtain⟨h64,hm⟩:=hm
 refine .ghs (fr 29 [(0,Sl.v 1 s53),(1,pt 1 0),(2,(pt 2 0)),(3,(pt 3 0)),(9,(zB (Bd (Int.ofNat (Sl.n s53)) z54)))]) (hT 9 [(oC [zI z54]),(oC [(.func (.func 37) ⟨[]⟩ ⟨[(pt 4 0),(pt 5 0),(pt 6 0)]⟩)]),(oC [(.func (.func 75) ⟨[]⟩ ⟨[pt 1 0,(pt 2 0),(pt 3 0)]⟩)]),(oC [zI z55,(Sl.v 2 s56)]),(oC [sc 7 0 1 n57 c58]),(oC [sc 8 0 1 n59 QJ]),oC q61,oC q62]) (.k [7,8] [false,false,true,true,false,true,true,false,false] [] [0,1,2,3,9] ⟨Bq h63,Bq h64,trivial⟩) ?_
 replace hm:=Ag hm;rcases hm with⟨h65,hm⟩ | ⟨h65,hm⟩
 ·refine DL (Bd (Int.ofNat (Sl.n s53)) z54) h65 ?_
  refine .then ?_
  replace hm:=Ae hm;obtain⟨h0,hm⟩:=hm
  replace hm:=Ae hm;obtain⟨h1,hm⟩:=hm
  replace hm:=Ae hm;obtain⟨h2,hm⟩:=hm
  replace hm:=Ae hm;obtain⟨h3,hm⟩:=hm
  replace hm:=Ab hm;obtain⟨v0,h4,hm⟩:=hm
  replace hm:=Ch hm;obtain⟨l0,rfl,hm⟩:=hm
  replace hm:=Ad hm;obtain⟨v1,l740_0,rfl,hm⟩:=hm
  replace hm:=Ad hm;obtain⟨v2,l740_1,rfl,hm⟩:=hm
  replace hm:=Ad hm;obtain⟨v3,l740_2,rfl,hm⟩:=hm
  replace hm:=Ad hm;obtain⟨v4,l740_3,rfl,hm⟩:=hm
  replace hm:=Ad hm;obtain⟨v5,l740_4,rfl,hm⟩:=hm
  replace hm:=Ad hm;obtain⟨v6,l740_5,rfl,hm⟩:=hm
  replace hm:=AC hm;obtain⟨rfl,hm⟩:=hm
  replace hm:=Ae hm;obtain⟨h5,hm⟩:=hm
  obtain rfl:=Oo h5
  replace hm:=BG hm;obtain⟨l1,rfl,hm⟩:=hm
  replace hm:=Ad hm;obtain⟨v7,l749_0,rfl,hm⟩:=hm
  replace hm:=Ad hm;obtain⟨v8,l749_1,rfl,hm⟩:=hm
  replace hm:=AC hm;obtain⟨rfl,hm⟩:=hm
  replace hm:=Ai hm;obtain⟨x0,rfl,hm⟩:=hm
  replace hm:=Al hm;obtain⟨s0,rfl,hm⟩:=hm
  replace hm:=BG hm;obtain⟨l2,rfl,hm⟩:=hm
  replace hm:=Ad hm;obtain⟨v9,l757_0,rfl,hm⟩:=hm
  replace hm:=AC hm;obtain⟨rfl,hm⟩:=hm
  replace hm:=Ab hm;obtain⟨y0,h6,hm⟩:=hm
  obtain rfl:=F5 h6
  replace hm:=BG hm;obtain⟨l3,rfl,hm⟩:=hm
  replace hm:=Ad hm;obtain⟨v10,l762_0,rfl,hm⟩:=hm
  replace hm:=AC hm;obtain⟨rfl,hm⟩:=hm
  replace hm:=Ab hm;obtain⟨y1,h7,hm⟩:=hm
  obtain rfl:=F5 h7
  replace hm:=BG hm;obtain⟨q0,rfl,hm⟩:=hm
  replace hm:=BG hm;obtain⟨q1,rfl,hm⟩:=hm
  replace hm:=Ae hm;obtain⟨h8,hm⟩:=hm
  replace hm:=Ae hm;obtain⟨h9,hm⟩:=hm
  refine .reg (eC 2 (EK tabs [[some 1],[none],[none],[none]] 4 [.tmp 1 false,.tmp 2 true,.tmp 3 true,.cell 2 0 false,.cell 3 0 false] [false,true,true,false,false] (pu 10370) [Sl.v 1 s53,(pt 4 0),(pt 5 0),(pt 6 0)] (hT 9 [(oC [zI z54]),(oC [(.func (.func 37) ⟨[]⟩ ⟨[(pt 4 0),(pt 5 0),(pt 6 0)]⟩)]),(oC [(.func (.func 75) ⟨[]⟩ ⟨[pt 1 0,(pt 2 0),(pt 3 0)]⟩)]),(oC [zI z55,(Sl.v 2 s56)]),(oC [sc 7 0 1 n57 c58]),(oC [sc 8 0 1 n59 QJ]),oC q61,oC q62])) (EL (as:=[Sl.v 1 s53,(pt 4 0),(pt 5 0),(pt 6 0)]) (H1:=(hT 9 [(oC [zI z54]),(oC [(.func (.func 37) ⟨[]⟩ ⟨[(pt 4 0),(pt 5 0),(pt 6 0)]⟩)]),(oC [(.func (.func 75) ⟨[]⟩ ⟨[pt 1 0,(pt 2 0),(pt 3 0)]⟩)]),(oC [zI z55,(Sl.v 2 s56)]),(oC [sc 7 0 1 n57 c58]),(oC [sc 8 0 1 n59 QJ]),oC q61,oC q62])) (BS (Dm (KQ (CV (z:=1) (v:=(Sl.v 1 s53)) (H:=(hT 9 [(oC [zI z54]),(oC [(.func (.func 37) ⟨[]⟩ ⟨[(pt 4 0),(pt 5 0),(pt 6 0)]⟩)]),(oC [(.func (.func 75) ⟨[]⟩ ⟨[pt 1 0,(pt 2 0),(pt 3 0)]⟩)]),(oC [zI z55,(Sl.v 2 s56)]),(oC [sc 7 0 1 n57 c58]),(oC [sc 8 0 1 n59 QJ]),oC q61,oC q62])) (by kernel_rfl) (by kernel_rfl) (by kernel_rfl)))) (BS (Dm Dk) (BS (Dm Dk) (BS (Dm Dk) Gj)))) (EI (H2:=(hT 9 [(oC [zI z54]),(oC [(.func (.func 37) ⟨[]⟩ ⟨[(pt 4 0),(pt 5 0),(pt 6 0)]⟩)]),(oC [(.func (.func 75) ⟨[]⟩ ⟨[pt 1 0,(pt 2 0),(pt 3 0)]⟩)]),(oC [zI x0,(Sl.v 2 s0)]),(oC [(sc 7 0 1 (NC.n y0) (NC.c y0))]),(oC [(sc 8 0 1 (NC.n y1) (NC.c y1))]),oC q0,oC q1])) (v:=(.tuple ⟨[]⟩)) (v':=(.tuple ⟨[]⟩)) [some 0,some 4,some 5,some 6,some 7,some 8] [(false,some 4),(true,some 5),(true,some 6),(false,some 7),(false,some 8)] [(oC [zI z55,(Sl.v 2 s56)]),(oC [sc 4 0 1 n57 c58]),(oC [sc 5 0 1 n59 QJ]),oC q61,oC q62] [Sl.v 1 s53,pt 1 0,(pt 2 0),(pt 3 0)] [(.agg ⟨[zI x0,(Sl.v 2 s0)]⟩),(.agg ⟨[(sc 4 0 1 (NC.n y0) (NC.c y0))]⟩),(.agg ⟨[(sc 5 0 1 (NC.n y1) (NC.c y1))]⟩),(.agg ⟨q0⟩),(.agg ⟨q1⟩)] [(oC [zI x0,(Sl.v 2 s0)]),(oC [(sc 4 0 1 (NC.n y0) (NC.c y0))]),(oC [(sc 5 0 1 (NC.n y1) (NC.c y1))]),oC q0,oC q1] [some 0,none,none,none,some 1,some 2,some 3,some 4,some 5] [(false,(oC [zI x0,(Sl.v 2 s0)])),(true,(oC [(sc 4 0 1 (NC.n y0) (NC.c y0))])),(true,(oC [(sc 5 0 1 (NC.n y1) (NC.c y1))])),(false,oC q0),(false,oC q1)] [(oC [zI x0,(Sl.v 2 s0)]),(oC [(sc 7 0 1 (NC.n y0) (NC.c y0))]),(oC [(sc 8 0 1 (NC.n y1) (NC.c y1))]),oC q0,oC q1] (sF (by kernel_rfl) (XX h0 (XX h1 rfl))) (En (by kernel_rfl) (En (by kernel_rfl) (En (by kernel_rfl) (En (Nb (anc:=[]) h2) (En (Nb (anc:=[]) h3) BX))))) (Eq.trans (by kernel_rfl) h4) (En rfl (En rfl (En rfl (En rfl (En rfl BX))))) (En (by kernel_rfl) (En (by kernel_rfl) (En (by kernel_rfl) (En (KO h8) (En (KO h9) BX))))))) (eE)) ?_
  replace hm:=Ae hm;obtain⟨h10,hm⟩:=hm
  replace hm:=Ae hm;obtain⟨h11,hm⟩:=hm
  refine .ghs (fr 29 []) (hT 9 [(oC [zI z54]),(oC [(.func (.func 37) ⟨[]⟩ ⟨[(pt 4 0),(pt 5 0),(pt 6 0)]⟩)]),(oC [(.func (.func 75) ⟨[]⟩ ⟨[pt 1 0,(pt 2 0),(pt 3 0)]⟩)]),(oC [zI x0,(Sl.v 2 s0)]),(oC [(sc 7 0 1 (NC.n y0) (NC.c y0))]),(oC [(sc 8 0 1 (NC.n y1) (NC.c y1))]),oC q0,oC q1]) (.k [7,8] [false,false,true,true,false,true,true,false,false] [] [] ⟨Bq h10,Bq h11,trivial⟩) ?_
  refine .ghs (fr 29 []) (hT 9 [(oC [zI z54]),(oC [(.func (.func 37) ⟨[]⟩ ⟨[(pt 4 0),(pt 5 0),(pt 6 0)]⟩)]),(oC [(.func (.func 75) ⟨[]⟩ ⟨[pt 1 0,(pt 2 0),(pt 3 0)]⟩)]),(oC [zI x0,(Sl.v 2 s0)]),(oC [(sc 7 0 1 (NC.n y0) (NC.c y0))]),(oC [(sc 8 0 1 (NC.n y1) (NC.c y1))]),oC q0,oC q1]) (.k [7,8] [false,false,true,true,false,true,true,false,false] [] [] ⟨Bq h10,Bq h11,trivial⟩) ?_
  refine .ret ?_
  exact Gi (.tuple ⟨[]⟩) [(oC [zI z54]),(oC [(.func (.func 37) ⟨[]⟩ ⟨[(pt 4 0),(pt 5 0),(pt 6 0)]⟩)]),(oC [(.func (.func 75) ⟨[]⟩ ⟨[pt 1 0,(pt 2 0),(pt 3 0)]⟩)]),(oC [zI x0,(Sl.v 2 s0)]),(oC [(sc 7 0 1 (NC.n y0) (NC.c y0))]),(oC [(sc 8 0 1 (NC.n y1) (NC.c y1))]),oC q0,oC q1] (by kernel_rfl) hm (Nat.le_of_ble_eq_true rfl) (Fa (VT _) (Fa (VT _) (Fa (VT _) (Fa (VT _) (Fa (VT _) (Fa (VT _) (Fa (VT _) (Fa (VT _) EJ))))))))
 ·refine DT (Bd (Int.ofNat (Sl.n s53)) z54) h65 ?_
  refine .skip (.ghs (fr 29 [(0,Sl.v 1 s53),(1,pt 1 0),(3,(pt 3 0))]) (hT 9 [(oC [zI z54]),(oC [(.func (.func 37) ⟨[]⟩ ⟨[(pt 4 0),(pt 5 0),(pt 6 0)]⟩)]),(oC [(.func (.func 75) ⟨[]⟩ ⟨[pt 1 0,(pt 2 0),(pt 3 0)]⟩)]),(oC [zI z55,(Sl.v 2 s56)]),(oC [sc 7 0 1 n57 c58]),(oC [sc 8 0 1 n59 QJ]),oC q61,oC q62]) (.k [7,8] [false,false,true,true,false,true,true,false,false] [] [0,1,3] ⟨Bq h63,Bq h64,trivial⟩) ?_)
  refine .then (.rK (.ghs (fr 29 [(0,Sl.v 1 s53),(1,pt 1 0),(3,(pt 3 0)),(5,(zI (0:Int)))]) (hT 9 [(oC [zI z54]),(oC [(.func (.func 37) ⟨[]⟩ ⟨[(pt 4 0),(pt 5 0),(pt 6 0)]⟩)]),(oC [(.func (.func 75) ⟨[]⟩ ⟨[pt 1 0,(pt 2 0),(pt 3 0)]⟩)]),(oC [zI z55,(Sl.v 2 s56)]),(oC [sc 7 0 1 n57 c58]),(oC [sc 8 0 1 n59 QJ]),oC q61,oC q62]) (.k [7,8] [false,false,true,true,false,true,true,false,false] [] [0,1,3,5] ⟨Bq h63,Bq h64,trivial⟩) ?_))
  refine .block (.loopM (v:=v) (fun y:Sl×Int×Int×Int×Sl×Nat×Nat×Nat×Nat×LV×LV=>((fr 29 [(0,(Sl.v 1 y.1)),(1,pt 1 0),(3,(pt 3 0)),(5,(zI y.2.1))]),(hT 9 [(oC [(zI y.2.2.1)]),(oC [(.func (.func 37) ⟨[]⟩ ⟨[(pt 4 0),(pt 5 0),(pt 6 0)]⟩)]),(oC [(.func (.func 75) ⟨[]⟩ ⟨[pt 1 0,(pt 2 0),(pt 3 0)]⟩)]),(oC [(zI y.2.2.2.1),(Sl.v 2 y.2.2.2.2.1)]),(oC [(sc 7 0 1 y.2.2.2.2.2.1 y.2.2.2.2.2.2.1)]),(oC [(sc 8 0 1 y.2.2.2.2.2.2.2.1 y.2.2.2.2.2.2.2.2.1)]),(oC y.2.2.2.2.2.2.2.2.2.1),(oC y.2.2.2.2.2.2.2.2.2.2)]))) (fun w y=>Gq pu n w y.1 y.2.1 y.2.2.1 y.2.2.2.1 y.2.2.2.2.1 y.2.2.2.2.2.1 y.2.2.2.2.2.2.1 y.2.2.2.2.2.2.2.1 y.2.2.2.2.2.2.2.2.1 y.2.2.2.2.2.2.2.2.2.1 y.2.2.2.2.2.2.2.2.2.2) n ⟨(s53,(0:Int),z54,z55,s56,n57,c58,n59,QJ,q61,q62),hm,(.k [7,8] [false,false,true,true,false,true,true,false,false] [] [0,1,3,5] ⟨Bq h63,Bq h64,trivial⟩)⟩ (fun _=>rfl) ?_)
  rintro w0 ⟨s1,z0,z1,z2,s2,n0,c0,n1,c1,q2,q3⟩ hm
  replace hm:G9 pu n (Gq pu n w0) s1 z0 z1 z2 s2 n0 c0 n1 c1 q2 q3=some v:=hm
  unfold G9 at hm
  refine .then (.then (.rK ?_))
  replace hm:=Ae hm;obtain⟨h12,hm⟩:=hm
  replace hm:=Ae hm;obtain⟨h13,hm⟩:=hm
  refine .ghs (fr 29 [(0,Sl.v 1 s1),(1,pt 1 0),(3,(pt 3 0)),(5,zI z0),(15,(zB (AY z0 z1)))]) (hT 9 [(oC [zI z1]),(oC [(.func (.func 37) ⟨[]⟩ ⟨[(pt 4 0),(pt 5 0),(pt 6 0)]⟩)]),(oC [(.func (.func 75) ⟨[]⟩ ⟨[pt 1 0,(pt 2 0),(pt 3 0)]⟩)]),(oC [zI z2,(Sl.v 2 s2)]),(oC [sc 7 0 1 n0 c0]),(oC [sc 8 0 1 n1 c1]),oC q2,oC q3]) (.k [7,8] [false,false,true,true,false,true,true,false,false] [] [0,1,3,5,15] ⟨Bq h12,Bq h13,trivial⟩) ?_
  replace hm:=Ag hm;rcases hm with⟨h14,hm⟩ | ⟨h14,hm⟩
  ·refine DL (AY z0 z1) h14 ?_
   refine .skip (.ghs (fr 29 [(0,Sl.v 1 s1),(1,pt 1 0),(3,(pt 3 0)),(5,zI z0)]) (hT 9 [(oC [zI z1]),(oC [(.func (.func 37) ⟨[]⟩ ⟨[(pt 4 0),(pt 5 0),(pt 6 0)]⟩)]),(oC [(.func (.func 75) ⟨[]⟩ ⟨[pt 1 0,(pt 2 0),(pt 3 0)]⟩)]),(oC [zI z2,(Sl.v 2 s2)]),(oC [sc 7 0 1 n0 c0]),(oC [sc 8 0 1 n1 c1]),oC q2,oC q3]) (.k [7,8] [false,false,true,true,false,true,true,false,false] [] [0,1,3,5] ⟨Bq h12,Bq h13,trivial⟩) ?_)
   refine .join (v:=v) (fun y:Sl×Int×Int×Int×Sl×Nat×Nat×Nat×Nat×LV×LV=>((fr 29 [(0,(Sl.v 1 y.1)),(1,pt 1 0),(3,(pt 3 0)),(5,(zI y.2.1))]),(hT 9 [(oC [(zI y.2.2.1)]),(oC [(.func (.func 37) ⟨[]⟩ ⟨[(pt 4 0),(pt 5 0),(pt 6 0)]⟩)]),(oC [(.func (.func 75) ⟨[]⟩ ⟨[pt 1 0,(pt 2 0),(pt 3 0)]⟩)]),(oC [(zI y.2.2.2.1),(Sl.v 2 y.2.2.2.2.1)]),(oC [(sc 7 0 1 y.2.2.2.2.2.1 y.2.2.2.2.2.2.1)]),(oC [(sc 8 0 1 y.2.2.2.2.2.2.2.1 y.2.2.2.2.2.2.2.2.1)]),(oC y.2.2.2.2.2.2.2.2.2.1),(oC y.2.2.2.2.2.2.2.2.2.2)]))) (fun y=>G5 pu n (Gq pu n w0) y.1 y.2.1 y.2.2.1 y.2.2.2.1 y.2.2.2.2.1 y.2.2.2.2.2.1 y.2.2.2.2.2.2.1 y.2.2.2.2.2.2.2.1 y.2.2.2.2.2.2.2.2.1 y.2.2.2.2.2.2.2.2.2.1 y.2.2.2.2.2.2.2.2.2.2) ?_ ?_
   ·rintro⟨s3,z3,z4,z5,s4,n2,c2,n3,c3,q4,q5⟩ hm
    unfold G5 at hm
    refine .rK ?_
    replace hm:=Ae hm;obtain⟨h15,hm⟩:=hm
    replace hm:=Ae hm;obtain⟨h16,hm⟩:=hm
    exact⟨(s3,(Aj .i64 (Int.add z3 (1:Int))),z4,z5,s4,n2,c2,n3,c3,q4,q5),hm,(.k [7,8] [false,false,true,true,false,true,true,false,false] [] [0,1,3,5] ⟨Bq h15,Bq h16,trivial⟩)⟩
   ·refine .block (.then ?_)
    replace hm:=Sm hm;obtain⟨b0,h17,hm⟩:=hm
    refine .reg (eC 2 ((oo (pu 38 [Sl.v 1 s1,zI z0]) none fun v=>some (v,(hT 9 [(oC [zI z1]),(oC [(.func (.func 37) ⟨[]⟩ ⟨[(pt 4 0),(pt 5 0),(pt 6 0)]⟩)]),(oC [(.func (.func 75) ⟨[]⟩ ⟨[pt 1 0,(pt 2 0),(pt 3 0)]⟩)]),(oC [zI z2,(Sl.v 2 s2)]),(oC [sc 7 0 1 n0 c0]),(oC [sc 8 0 1 n1 c1]),oC q2,oC q3])))) (AB h17) (eE)) ?_
    refine .ghs (fr 29 [(0,Sl.v 1 s1),(1,pt 1 0),(3,(pt 3 0)),(5,zI z0),(21,(zB (nt b0)))]) (hT 9 [(oC [zI z1]),(oC [(.func (.func 37) ⟨[]⟩ ⟨[(pt 4 0),(pt 5 0),(pt 6 0)]⟩)]),(oC [(.func (.func 75) ⟨[]⟩ ⟨[pt 1 0,(pt 2 0),(pt 3 0)]⟩)]),(oC [zI z2,(Sl.v 2 s2)]),(oC [sc 7 0 1 n0 c0]),(oC [sc 8 0 1 n1 c1]),oC q2,oC q3]) (.k [7,8] [false,false,true,true,false,true,true,false,false] [] [0,1,3,5,21] ⟨Bq h12,Bq h13,trivial⟩) ?_
    replace hm:=Ag hm;rcases hm with⟨h18,hm⟩ | ⟨h18,hm⟩
    ·refine DL (nt b0) h18 ?_
     replace hm:=oQS hm;obtain⟨s5,h19,hm⟩:=hm
     replace hm:=Ae hm;obtain⟨h20,hm⟩:=hm
     replace hm:=Ae hm;obtain⟨h21,hm⟩:=hm
     replace hm:=Ae hm;obtain⟨h22,hm⟩:=hm
     replace hm:=Ae hm;obtain⟨h23,hm⟩:=hm
     replace hm:=Ae hm;obtain⟨h24,hm⟩:=hm
     replace hm:=Ae hm;obtain⟨h25,hm⟩:=hm
     replace hm:=Ab hm;obtain⟨v11,h26,hm⟩:=hm
     replace hm:=Ch hm;obtain⟨l4,rfl,hm⟩:=hm
     replace hm:=Ad hm;obtain⟨v12,l1287_0,rfl,hm⟩:=hm
     replace hm:=Ad hm;obtain⟨v13,l1287_1,rfl,hm⟩:=hm
     replace hm:=Ad hm;obtain⟨v14,l1287_2,rfl,hm⟩:=hm
     replace hm:=Ad hm;obtain⟨v15,l1287_3,rfl,hm⟩:=hm
     replace hm:=Ad hm;obtain⟨v16,l1287_4,rfl,hm⟩:=hm
     replace hm:=Ad hm;obtain⟨v17,l1287_5,rfl,hm⟩:=hm
     replace hm:=Ad hm;obtain⟨v18,l1287_6,rfl,hm⟩:=hm
     replace hm:=Ad hm;obtain⟨v19,l1287_7,rfl,hm⟩:=hm
     replace hm:=Ad hm;obtain⟨v20,l1287_8,rfl,hm⟩:=hm
     replace hm:=AC hm;obtain⟨rfl,hm⟩:=hm
     replace hm:=Ae hm;obtain⟨h27,hm⟩:=hm
     obtain rfl:=Oo h27
     replace hm:=BG hm;obtain⟨l5,rfl,hm⟩:=hm
     replace hm:=Ad hm;obtain⟨v21,l1299_0,rfl,hm⟩:=hm
     replace hm:=AC hm;obtain⟨rfl,hm⟩:=hm
     replace hm:=Ai hm;obtain⟨x1,rfl,hm⟩:=hm
     replace hm:=BG hm;obtain⟨l6,rfl,hm⟩:=hm
     replace hm:=Ad hm;obtain⟨v22,l1304_0,rfl,hm⟩:=hm
     replace hm:=AC hm;obtain⟨rfl,hm⟩:=hm
     replace hm:=Ab hm;obtain⟨l7,h28,hm⟩:=hm
     obtain rfl:=Hu h28
     replace hm:=Ad hm;obtain⟨v23,l1307_0,rfl,hm⟩:=hm
     replace hm:=Ad hm;obtain⟨v24,l1307_1,rfl,hm⟩:=hm
     replace hm:=Ad hm;obtain⟨v25,l1307_2,rfl,hm⟩:=hm
     replace hm:=AC hm;obtain⟨rfl,hm⟩:=hm
     replace hm:=Ae hm;obtain⟨h29,hm⟩:=hm
     obtain rfl:=KR h29
     replace hm:=Ae hm;obtain⟨h30,hm⟩:=hm
     obtain rfl:=KR h30
     replace hm:=Ae hm;obtain⟨h31,hm⟩:=hm
     obtain rfl:=KR h31
     replace hm:=BG hm;obtain⟨l8,rfl,hm⟩:=hm
     replace hm:=Ad hm;obtain⟨v26,l1315_0,rfl,hm⟩:=hm
     replace hm:=AC hm;obtain⟨rfl,hm⟩:=hm
     replace hm:=Ab hm;obtain⟨l9,h32,hm⟩:=hm
     obtain rfl:=Hu h32
     replace hm:=Ad hm;obtain⟨v27,l1318_0,rfl,hm⟩:=hm
     replace hm:=Ad hm;obtain⟨v28,l1318_1,rfl,hm⟩:=hm
     replace hm:=Ad hm;obtain⟨v29,l1318_2,rfl,hm⟩:=hm
     replace hm:=AC hm;obtain⟨rfl,hm⟩:=hm
     replace hm:=Ae hm;obtain⟨h33,hm⟩:=hm
     obtain rfl:=KR h33
     replace hm:=Ae hm;obtain⟨h34,hm⟩:=hm
     obtain rfl:=KR h34
     replace hm:=Ae hm;obtain⟨h35,hm⟩:=hm
     obtain rfl:=KR h35
     replace hm:=BG hm;obtain⟨l10,rfl,hm⟩:=hm
     replace hm:=Ad hm;obtain⟨v30,l1326_0,rfl,hm⟩:=hm
     replace hm:=Ad hm;obtain⟨v31,l1326_1,rfl,hm⟩:=hm
     replace hm:=AC hm;obtain⟨rfl,hm⟩:=hm
     replace hm:=Ai hm;obtain⟨x2,rfl,hm⟩:=hm
     replace hm:=Al hm;obtain⟨s6,rfl,hm⟩:=hm
     replace hm:=BG hm;obtain⟨l12,rfl,hm⟩:=hm
     replace hm:=Ad hm;obtain⟨v32,l1334_0,rfl,hm⟩:=hm
     replace hm:=AC hm;obtain⟨rfl,hm⟩:=hm
     replace hm:=Ab hm;obtain⟨y2,h36,hm⟩:=hm
     obtain rfl:=F5 h36
     replace hm:=BG hm;obtain⟨l14,rfl,hm⟩:=hm
     replace hm:=Ad hm;obtain⟨v33,l1339_0,rfl,hm⟩:=hm
     replace hm:=AC hm;obtain⟨rfl,hm⟩:=hm
     replace hm:=Ab hm;obtain⟨y3,h37,hm⟩:=hm
     obtain rfl:=F5 h37
     replace hm:=BG hm;obtain⟨q6,rfl,hm⟩:=hm
     replace hm:=BG hm;obtain⟨q7,rfl,hm⟩:=hm
     replace hm:=Ae hm;obtain⟨h38,hm⟩:=hm
     replace hm:=Ae hm;obtain⟨h39,hm⟩:=hm
     refine .reg (eC 4 ((oo (pu 76 [Sl.v 1 s1]) none fun v=>some (v,(hT 10 [(oC [zI z1]),(oC [(.func (.func 37) ⟨[]⟩ ⟨[(pt 4 0),(pt 5 0),(pt 6 0)]⟩)]),(oC [(.func (.func 75) ⟨[]⟩ ⟨[pt 1 0,(pt 2 0),(pt 3 0)]⟩)]),(oC [zI z2,(Sl.v 2 s2)]),(oC [sc 7 0 1 n0 c0]),(oC [sc 8 0 1 n1 c1]),oC q2,oC q3,(oC [zI z0])])))) (AB h19) (eD (Uu (hT 10 [(oC [zI z1]),(oC [(.func (.func 37) ⟨[]⟩ ⟨[(pt 4 0),(pt 5 0),(pt 6 0)]⟩)]),(oC [(.func (.func 75) ⟨[]⟩ ⟨[pt 1 0,(pt 2 0),(pt 3 0)]⟩)]),(oC [zI z2,(Sl.v 2 s2)]),(oC [sc 7 0 1 n0 c0]),(oC [sc 8 0 1 n1 c1]),oC q2,oC q3,(oC [zI z0])]) 1 8 s5 1 ([zI z0]:LV)) (Wi h20) (eD (EK tabs [[some 1],[none],[none],[none]] 4 [.tmp 1 false,.tmp 2 true,.tmp 3 true,.ccap 2 0 0 false,.ccap 2 0 1 true,.ccap 2 0 2 true,.cell 5 0 false,.cell 6 0 false] [false,true,true,false,true,true,false,false] (pu 10750) [(sc 10 0 1 ((Sl.n s5)+1) (d2 ((Sl.n s5)+1))),pt 1 0,(pt 2 0),(pt 3 0)] (hT 11 [(oC [zI z1]),(oC [(.func (.func 37) ⟨[]⟩ ⟨[(pt 4 0),(pt 5 0),(pt 6 0)]⟩)]),(oC [(.func (.func 75) ⟨[]⟩ ⟨[pt 1 0,(pt 2 0),(pt 3 0)]⟩)]),(oC [zI z2,(Sl.v 2 s2)]),(oC [sc 7 0 1 n0 c0]),(oC [sc 8 0 1 n1 c1]),oC q2,oC q3,(oC [zI z0]),(oC (Br (Sl.cs s5) ([zI z0]:LV)))])) (EL (as:=[(Sl.v 1 (Sl.mk ((Sl.n s5)+1) 0 (Aq (((Sl.n s5)+1)*1) (Am 0 (Br (Sl.cs s5) ([zI z0]:LV)))))),pt 1 0,(pt 2 0),(pt 3 0)]) (H1:=(hT 11 [(oC [zI z1]),(oC [(.func (.func 37) ⟨[]⟩ ⟨[(pt 4 0),(pt 5 0),(pt 6 0)]⟩)]),(oC [(.func (.func 75) ⟨[]⟩ ⟨[pt 1 0,(pt 2 0),(pt 3 0)]⟩)]),(oC [zI z2,(Sl.v 2 s2)]),(oC [sc 7 0 1 n0 c0]),(oC [sc 8 0 1 n1 c1]),oC q2,oC q3,(oC [zI z0]),.dead])) (BS (Dm (KQ (show ER 1 (sc 10 0 1 ((Sl.n s5)+1) (d2 ((Sl.n s5)+1))) (hT 11 [(oC [zI z1]),(oC [(.func (.func 37) ⟨[]⟩ ⟨[(pt 4 0),(pt 5 0),(pt 6 0)]⟩)]),(oC [(.func (.func 75) ⟨[]⟩ ⟨[pt 1 0,(pt 2 0),(pt 3 0)]⟩)]),(oC [zI z2,(Sl.v 2 s2)]),(oC [sc 7 0 1 n0 c0]),(oC [sc 8 0 1 n1 c1]),oC q2,oC q3,(oC [zI z0]),(oC (Br (Sl.cs s5) ([zI z0]:LV)))])=some ((Sl.v 1 (Sl.mk ((Sl.n s5)+1) 0 (Aq (((Sl.n s5)+1)*1) (Am 0 (Br (Sl.cs s5) ([zI z0]:LV)))))),(hT 11 [(oC [zI z1]),(oC [(.func (.func 37) ⟨[]⟩ ⟨[(pt 4 0),(pt 5 0),(pt 6 0)]⟩)]),(oC [(.func (.func 75) ⟨[]⟩ ⟨[pt 1 0,(pt 2 0),(pt 3 0)]⟩)]),(oC [zI z2,(Sl.v 2 s2)]),(oC [sc 7 0 1 n0 c0]),(oC [sc 8 0 1 n1 c1]),oC q2,oC q3,(oC [zI z0]),.dead])) from KH 10 0 1 ((Sl.n s5)+1) (d2 ((Sl.n s5)+1)) (Br (Sl.cs s5) ([zI z0]:LV)) [] (by kernel_rfl) (by kernel_rfl) h21))) (BS (Dm Dk) (BS (Dm Dk) (BS (Dm Dk) Gj)))) (EI (H2:=(hT 11 [(oC [zI x1]),(oC [(.func (.func 37) ⟨[]⟩ ⟨[(pt 4 0),(pt 5 0),(pt 6 0)]⟩)]),(oC [(.func (.func 75) ⟨[]⟩ ⟨[pt 1 0,(pt 2 0),(pt 3 0)]⟩)]),(oC [zI x2,(Sl.v 2 s6)]),(oC [(sc 7 0 1 (NC.n y2) (NC.c y2))]),(oC [(sc 8 0 1 (NC.n y3) (NC.c y3))]),oC q6,oC q7,(oC [zI z0]),.dead])) (v:=(.tuple ⟨[]⟩)) (v':=(.tuple ⟨[]⟩)) [some 0,some 1,some 2,some 3,some 4,some 5,some 6,some 7,some 8] [(false,some 1),(true,some 2),(true,some 3),(false,some 4),(true,some 5),(true,some 6),(false,some 7),(false,some 8)] [(oC [zI z1]),(oC [(.func (.func 37) ⟨[]⟩ ⟨[(pt 4 0),(pt 5 0),(pt 6 0)]⟩)]),(oC [(.func (.func 75) ⟨[]⟩ ⟨[pt 1 0,(pt 2 0),(pt 3 0)]⟩)]),(oC [zI z2,(Sl.v 2 s2)]),(oC [sc 7 0 1 n0 c0]),(oC [sc 8 0 1 n1 c1]),oC q2,oC q3] [(Sl.v 1 (Sl.mk ((Sl.n s5)+1) 0 (Aq (((Sl.n s5)+1)*1) (Am 0 (Br (Sl.cs s5) ([zI z0]:LV)))))),pt 1 0,(pt 2 0),(pt 3 0)] [(.agg ⟨[zI x1]⟩),(.agg ⟨[(.func (.func 37) ⟨[]⟩ ⟨[(pt 4 0),(pt 5 0),(pt 6 0)]⟩)]⟩),(.agg ⟨[(.func (.func 75) ⟨[]⟩ ⟨[pt 1 0,(pt 2 0),(pt 3 0)]⟩)]⟩),(.agg ⟨[zI x2,(Sl.v 2 s6)]⟩),(.agg ⟨[(sc 7 0 1 (NC.n y2) (NC.c y2))]⟩),(.agg ⟨[(sc 8 0 1 (NC.n y3) (NC.c y3))]⟩),(.agg ⟨q6⟩),(.agg ⟨q7⟩)] [(oC [zI x1]),(oC [(.func (.func 37) ⟨[]⟩ ⟨[(pt 4 0),(pt 5 0),(pt 6 0)]⟩)]),(oC [(.func (.func 75) ⟨[]⟩ ⟨[pt 1 0,(pt 2 0),(pt 3 0)]⟩)]),(oC [zI x2,(Sl.v 2 s6)]),(oC [(sc 7 0 1 (NC.n y2) (NC.c y2))]),(oC [(sc 8 0 1 (NC.n y3) (NC.c y3))]),oC q6,oC q7] [some 0,some 1,some 2,some 3,some 4,some 5,some 6,some 7,some 8,none,none] [(false,(oC [zI x1])),(true,(oC [(.func (.func 37) ⟨[]⟩ ⟨[(pt 4 0),(pt 5 0),(pt 6 0)]⟩)])),(true,(oC [(.func (.func 75) ⟨[]⟩ ⟨[pt 1 0,(pt 2 0),(pt 3 0)]⟩)])),(false,(oC [zI x2,(Sl.v 2 s6)])),(true,(oC [(sc 7 0 1 (NC.n y2) (NC.c y2))])),(true,(oC [(sc 8 0 1 (NC.n y3) (NC.c y3))])),(false,oC q6),(false,oC q7)] [(oC [zI x1]),(oC [(.func (.func 37) ⟨[]⟩ ⟨[(pt 4 0),(pt 5 0),(pt 6 0)]⟩)]),(oC [(.func (.func 75) ⟨[]⟩ ⟨[pt 1 0,(pt 2 0),(pt 3 0)]⟩)]),(oC [zI x2,(Sl.v 2 s6)]),(oC [(sc 7 0 1 (NC.n y2) (NC.c y2))]),(oC [(sc 8 0 1 (NC.n y3) (NC.c y3))]),oC q6,oC q7] (sF (by kernel_rfl) (XX h22 (XX h23 rfl))) (En (by kernel_rfl) (En (by kernel_rfl) (En (by kernel_rfl) (En (by kernel_rfl) (En (by kernel_rfl) (En (by kernel_rfl) (En (Nb (anc:=[]) h24) (En (Nb (anc:=[]) h25) BX)))))))) (Eq.trans (by kernel_rfl) h26) (En rfl (En rfl (En rfl (En rfl (En rfl (En rfl (En rfl (En rfl BX)))))))) (En (by kernel_rfl) (En (by kernel_rfl) (En (by kernel_rfl) (En (by kernel_rfl) (En (by kernel_rfl) (En (by kernel_rfl) (En (KO h38) (En (KO h39) BX)))))))))) (eE)))) ?_
     replace hm:=Ae hm;obtain⟨h40,hm⟩:=hm
     replace hm:=Ae hm;obtain⟨h41,hm⟩:=hm
     exact⟨(s1,z0,x1,x2,s6,(NC.n y2),(NC.c y2),(NC.n y3),(NC.c y3),q6,q7),hm,(.k [7,8] [false,false,true,true,false,true,true,false,false] [] [0,1,3,5] ⟨Bq h40,Bq h41,trivial⟩)⟩
    ·refine DT (nt b0) h18 ?_
     refine .skip ?_
     exact⟨(s1,z0,z1,z2,s2,n0,c0,n1,c1,q2,q3),hm,(.k [7,8] [false,false,true,true,false,true,true,false,false] [] [0,1,3,5] ⟨Bq h12,Bq h13,trivial⟩)⟩
  ·refine DT (AY z0 z1) h14 ?_
   refine .exit ?_
   refine .ghs (fr 29 []) (hT 9 [(oC [zI z1]),(oC [(.func (.func 37) ⟨[]⟩ ⟨[(pt 4 0),(pt 5 0),(pt 6 0)]⟩)]),(oC [(.func (.func 75) ⟨[]⟩ ⟨[pt 1 0,(pt 2 0),(pt 3 0)]⟩)]),(oC [zI z2,(Sl.v 2 s2)]),(oC [sc 7 0 1 n0 c0]),(oC [sc 8 0 1 n1 c1]),oC q2,oC q3]) (.k [7,8] [false,false,true,true,false,true,true,false,false] [] [] ⟨Bq h12,Bq h13,trivial⟩) ?_
   exact TU (.tuple ⟨[]⟩) [(oC [zI z1]),(oC [(.func (.func 37) ⟨[]⟩ ⟨[(pt 4 0),(pt 5 0),(pt 6 0)]⟩)]),(oC [(.func (.func 75) ⟨[]⟩ ⟨[pt 1 0,(pt 2 0),(pt 3 0)]⟩)]),(oC [zI z2,(Sl.v 2 s2)]),(oC [sc 7 0 1 n0 c0]),(oC [sc 8 0 1 n1 c1]),oC q2,oC q3] (by kernel_rfl) hm (Nat.le_of_ble_eq_true rfl) (Fa (VT _) (Fa (VT _) (Fa (VT _) (Fa (VT _) (Fa (VT _) (Fa (VT _) (Fa (VT _) (Fa (VT _) EJ))))))))
theorem lM {call:A8} (pu:Af) (n:Nat) (hcall:call=Bb tabs FM pu (inl pu)) {args:LV} {os:List AJ} {z:Value} (ha:args.length=4) (hk:os.length=8) (hpl:∀ o∈os,plainO o) (hm:OM pu n (args++os.map Ef)=some z):args.length≤29∧BN tt call (tabs.length+8) KX (Fr.made 29 args) (BK tabs os) (FJ tt tabs.length 8 [] z):=by
 subst hcall
 have hq:=BC ha;clear ha;obtain⟨a0,args,rfl,ha⟩:=hq
 have hq:=BC ha;clear ha;obtain⟨a1,args,rfl,ha⟩:=hq
 have hq:=BC ha;clear ha;obtain⟨a2,args,rfl,ha⟩:=hq
 have hq:=BC ha;clear ha;obtain⟨a3,args,rfl,ha⟩:=hq
 obtain rfl:=len_nil ha
 have hq:=BC hk;clear hk;obtain⟨b0,os,rfl,hk⟩:=hq
 have hp0:plainO b0:=hpl b0 (by simp)
 have hq:=BC hk;clear hk;obtain⟨b1,os,rfl,hk⟩:=hq
 have hp1:plainO b1:=hpl b1 (by simp)
 have hq:=BC hk;clear hk;obtain⟨b2,os,rfl,hk⟩:=hq
 have hp2:plainO b2:=hpl b2 (by simp)
 have hq:=BC hk;clear hk;obtain⟨b3,os,rfl,hk⟩:=hq
 have hp3:plainO b3:=hpl b3 (by simp)
 have hq:=BC hk;clear hk;obtain⟨b4,os,rfl,hk⟩:=hq
 have hp4:plainO b4:=hpl b4 (by simp)
 have hq:=BC hk;clear hk;obtain⟨b5,os,rfl,hk⟩:=hq
 have hp5:plainO b5:=hpl b5 (by simp)
 have hq:=BC hk;clear hk;obtain⟨b6,os,rfl,hk⟩:=hq
 have hp6:plainO b6:=hpl b6 (by simp)
 have hq:=BC hk;clear hk;obtain⟨b7,os,rfl,hk⟩:=hq
 have hp7:plainO b7:=hpl b7 (by simp)
 obtain rfl:=len_nil hk
 replace hm:OM pu n [a0,a1,a2,a3,Ef b0,Ef b1,Ef b2,Ef b3,Ef b4,Ef b5,Ef b6,Ef b7]=some z:=hm
 unfold OM at hm
 replace hm:(oo (Bj 1 a0) none fun s0=>(bb (MK a1 1 0) (bb (MK a2 2 0) (bb (MK a3 3 0) (oo (Bt (Ef b0)) none fun l0=>(ll l0 none fun v0 l0=>(ll l0 (oo (Bi .i64 v0) none fun x0=>(oo (Bt (Ef b1)) none fun l1=>(ll l1 none fun v1 l1=>(ll l1 (oo (Om 37 0 v1) none fun l2=>(ll l2 none fun v2 l2=>(ll l2 none fun v3 l2=>(ll l2 none fun v4 l2=>(ll l2 (bb (MK v2 4 0) (bb (MK v3 5 0) (bb (MK v4 6 0) (oo (Bt (Ef b2)) none fun l3=>(ll l3 none fun v5 l3=>(ll l3 (oo (Om 75 0 v5) none fun l4=>(ll l4 none fun v6 l4=>(ll l4 none fun v7 l4=>(ll l4 none fun v8 l4=>(ll l4 (bb (MK v6 1 0) (bb (MK v7 2 0) (bb (MK v8 3 0) (oo (Bt (Ef b3)) none fun l5=>(ll l5 none fun v9 l5=>(ll l5 none fun v10 l5=>(ll l5 (oo (Bi .i64 v9) none fun x1=>(oo (Bj 2 v10) none fun s1=>(oo (Bt (Ef b4)) none fun l6=>(ll l6 none fun v11 l6=>(ll l6 (oo (KP 7 0 1 v11) none fun y0=>(oo (Bt (Ef b5)) none fun l7=>(ll l7 none fun v12 l7=>(ll l7 (oo (KP 8 0 1 v12) none fun y1=>(oo (Bt (Ef b6)) none fun q0=>(oo (Bt (Ef b7)) none fun q1=>(Jg pu n s0 x0 x1 s1 (NC.n y0) (NC.c y0) (NC.n y1) (NC.c y1) q0 q1)))) fun _ _=>none)))) fun _ _=>none))))) fun _ _=>none)))) none) none) none) fun _ _=>none))))) fun _ _=>none))) none) none) none) fun _ _=>none))))) fun _ _=>none)))) fun _ _=>none))) none) none) none))=some z:=hm
 replace hm:=Al hm;obtain⟨s0,rfl,hm⟩:=hm
 replace hm:=Ae hm;obtain⟨h0,hm⟩:=hm
 obtain rfl:=KR h0
 replace hm:=Ae hm;obtain⟨h1,hm⟩:=hm
 obtain rfl:=KR h1
 replace hm:=Ae hm;obtain⟨h2,hm⟩:=hm
 obtain rfl:=KR h2
 replace hm:=Ab hm;obtain⟨l0,h3,hm⟩:=hm
 obtain rfl:=I7 hp0 h3
 replace hm:=Ad hm;obtain⟨v0,l1366_0,rfl,hm⟩:=hm
 replace hm:=AC hm;obtain⟨rfl,hm⟩:=hm
 replace hm:=Ai hm;obtain⟨x0,rfl,hm⟩:=hm
 replace hm:=Ab hm;obtain⟨l1,h4,hm⟩:=hm
 obtain rfl:=I7 hp1 h4
 replace hm:=Ad hm;obtain⟨v1,l1371_0,rfl,hm⟩:=hm
 replace hm:=AC hm;obtain⟨rfl,hm⟩:=hm
 replace hm:=Ab hm;obtain⟨l2,h5,hm⟩:=hm
 obtain rfl:=Hu h5
 replace hm:=Ad hm;obtain⟨v2,l1374_0,rfl,hm⟩:=hm
 replace hm:=Ad hm;obtain⟨v3,l1374_1,rfl,hm⟩:=hm
 replace hm:=Ad hm;obtain⟨v4,l1374_2,rfl,hm⟩:=hm
 replace hm:=AC hm;obtain⟨rfl,hm⟩:=hm
 replace hm:=Ae hm;obtain⟨h6,hm⟩:=hm
 obtain rfl:=KR h6
 replace hm:=Ae hm;obtain⟨h7,hm⟩:=hm
 obtain rfl:=KR h7
 replace hm:=Ae hm;obtain⟨h8,hm⟩:=hm
 obtain rfl:=KR h8
 replace hm:=Ab hm;obtain⟨l3,h9,hm⟩:=hm
 obtain rfl:=I7 hp2 h9
 replace hm:=Ad hm;obtain⟨v5,l1382_0,rfl,hm⟩:=hm
 replace hm:=AC hm;obtain⟨rfl,hm⟩:=hm
 replace hm:=Ab hm;obtain⟨l4,h10,hm⟩:=hm
 obtain rfl:=Hu h10
 replace hm:=Ad hm;obtain⟨v6,l1385_0,rfl,hm⟩:=hm
 replace hm:=Ad hm;obtain⟨v7,l1385_1,rfl,hm⟩:=hm
 replace hm:=Ad hm;obtain⟨v8,l1385_2,rfl,hm⟩:=hm
 replace hm:=AC hm;obtain⟨rfl,hm⟩:=hm
 replace hm:=Ae hm;obtain⟨h11,hm⟩:=hm
 obtain rfl:=KR h11
 replace hm:=Ae hm;obtain⟨h12,hm⟩:=hm
 obtain rfl:=KR h12
 replace hm:=Ae hm;obtain⟨h13,hm⟩:=hm
 obtain rfl:=KR h13
 replace hm:=Ab hm;obtain⟨l5,h14,hm⟩:=hm
 obtain rfl:=I7 hp3 h14
 replace hm:=Ad hm;obtain⟨v9,l1393_0,rfl,hm⟩:=hm
 replace hm:=Ad hm;obtain⟨v10,l1393_1,rfl,hm⟩:=hm
 replace hm:=AC hm;obtain⟨rfl,hm⟩:=hm
 replace hm:=Ai hm;obtain⟨x1,rfl,hm⟩:=hm
 replace hm:=Al hm;obtain⟨s1,rfl,hm⟩:=hm
 replace hm:=Ab hm;obtain⟨l6,h15,hm⟩:=hm
 obtain rfl:=I7 hp4 h15
 replace hm:=Ad hm;obtain⟨v11,l1401_0,rfl,hm⟩:=hm
 replace hm:=AC hm;obtain⟨rfl,hm⟩:=hm
 replace hm:=Ab hm;obtain⟨y0,h16,hm⟩:=hm
 obtain rfl:=F5 h16
 replace hm:=Ab hm;obtain⟨l7,h17,hm⟩:=hm
 obtain rfl:=I7 hp5 h17
 replace hm:=Ad hm;obtain⟨v12,l1406_0,rfl,hm⟩:=hm
 replace hm:=AC hm;obtain⟨rfl,hm⟩:=hm
 replace hm:=Ab hm;obtain⟨y1,h18,hm⟩:=hm
 obtain rfl:=F5 h18
 replace hm:=Ab hm;obtain⟨q0,h19,hm⟩:=hm
 obtain rfl:=I7 hp6 h19
 replace hm:=Ab hm;obtain⟨q1,h20,hm⟩:=hm
 obtain rfl:=I7 hp7 h20
 refine⟨by simp,?_⟩
 exact .same (F':=(fr 29 [(0,Sl.v 1 s0),(1,pt 1 0),(2,(pt 2 0)),(3,(pt 3 0))])) (H':=(hT 9 [(oC [zI x0]),(oC [(.func (.func 37) ⟨[]⟩ ⟨[(pt 4 0),(pt 5 0),(pt 6 0)]⟩)]),(oC [(.func (.func 75) ⟨[]⟩ ⟨[pt 1 0,(pt 2 0),(pt 3 0)]⟩)]),(oC [zI x1,(Sl.v 2 s1)]),(oC [(sc 7 0 1 (NC.n y0) (NC.c y0))]),(oC [(sc 8 0 1 (NC.n y1) (NC.c y1))]),oC q0,oC q1])) (by kernel_rfl) (by kernel_rfl) (lL pu n s0 x0 x1 s1 (NC.n y0) (NC.c y0) (NC.n y1) (NC.c y1) q0 q1 hm)
end
end Go.TbWM
