/- Made from wip. -/
import Derived.Test.YtflonlkiajhhjaaGreatDoorTpDMod1x

set_option maxRecDepth 100000
set_option maxHeartbeats 20000000
set_option linter.unusedVariables false
namespace Go.TpDM
open Go.Sp Go.TpD
noncomputable section

def Aby (pu:Af) (n:Nat) (x0:Int) (s0 s1:Sl):OV:=
 (oo (pu 47 [(.agg ⟨[.int .i64 x0,Sl.v 1 s0,Sl.v 1 s1]⟩)]) none fun v0=>(oo (Bi .i64 v0) none fun x1=>(bb (nt (Bd x1 (0:Int))) (some (.tuple ⟨[(.int .i64 (0:Int)),.int .i64 x1]⟩)) (oo (pu 49 [(.agg ⟨[.int .i64 x0,Sl.v 1 s0,Sl.v 1 s1]⟩)]) none fun v1=>(oo (Bi .i64 v1) none fun x2=>(some (.tuple ⟨[.int .i64 x2,(.int .i64 (0:Int))]⟩)))))))
def m13 (pu:Af) (n:Nat) (args:LV):OV:=
 (ll args none fun a0 args=>(ll args (oo (Bt a0) none fun l0=>(ll l0 none fun v0 l0=>(ll l0 none fun v1 l0=>(ll l0 none fun v2 l0=>(ll l0 (oo (Bi .i64 v0) none fun x0=>(oo (Bj 1 v1) none fun s0=>(oo (Bj 1 v2) none fun s1=>(Aby pu n x0 s0 s1)))) fun _ _=>none))))) fun _ _=>none))
theorem r13 {call:A8} (pu:Af) (n:Nat) (hcall:call=Bb tabs isP pu (inl pu)) {args:LV} {v:Value} (hm:m13 pu n args=some v) (_:∀ x∈args,closed2 x=true):args.length≤12∧BN tt call 2 Nh (Fr.made 12 args) (Ao tabs) (Fin tt 2 [.tmp 2,.tmp 3] v):=by
 subst hcall
 unfold m13 at hm
 replace hm:=Ad hm;obtain⟨a0,args_0,rfl,hm⟩:=hm
 replace hm:=AC hm;obtain⟨rfl,hm⟩:=hm
 replace hm:=BG hm;obtain⟨l0,rfl,hm⟩:=hm
 replace hm:=Ad hm;obtain⟨v0,l6270_0,rfl,hm⟩:=hm
 replace hm:=Ad hm;obtain⟨v1,l6270_1,rfl,hm⟩:=hm
 replace hm:=Ad hm;obtain⟨v2,l6270_2,rfl,hm⟩:=hm
 replace hm:=AC hm;obtain⟨rfl,hm⟩:=hm
 replace hm:=Ai hm;obtain⟨x0,rfl,hm⟩:=hm
 replace hm:=Al hm;obtain⟨s0,rfl,hm⟩:=hm
 replace hm:=Al hm;obtain⟨s1,rfl,hm⟩:=hm
 unfold Aby at hm
 refine⟨by simp,?_⟩
 refine .same (F':=(fr 12 [(0,(.agg ⟨[zI x0,Sl.v 1 s0,Sl.v 1 s1]⟩))])) (H':=(hT 2 [(.cells Ay true false [])])) (by kernel_rfl) (by kernel_rfl) ?_
 refine .then (.rK (.ghs (fr 12 [(1,(pt 2 0))]) (hT 3 [(.cells Ay true false []),(oC [zI x0,Sl.v 1 s0,Sl.v 1 s1])]) (.k0 [false,false] [.tmp 1 false] [1]) ?_))
 refine .then (.then ?_)
 replace hm:=FK hm;obtain⟨x1,h0,hm⟩:=hm
 refine .reg (eC 1 ((oo (pu 47 [(.agg ⟨[zI x0,Sl.v 1 s0,Sl.v 1 s1]⟩)]) none fun v=>some (v,(hT 3 [(.cells Ay true false []),(oC [zI x0,Sl.v 1 s0,Sl.v 1 s1])])))) (AB h0) (eE)) ?_
 refine .ghs (fr 12 [(1,(pt 2 0)),(4,zI x1)]) (hT 3 [(.cells Ay true false []),(oC [zI x0,Sl.v 1 s0,Sl.v 1 s1])]) (.k0 [false,false] [.tmp 1 false] [1,4]) ?_
 refine .then (.rK (.ghs (fr 12 [(1,(pt 2 0)),(4,zI x1),(8,(zB (nt (Bd x1 (0:Int)))))]) (hT 3 [(.cells Ay true false []),(oC [zI x0,Sl.v 1 s0,Sl.v 1 s1])]) (.k0 [false,false] [.tmp 1 false] [1,4,8]) ?_))
 replace hm:=Ag hm;rcases hm with⟨h1,hm⟩ | ⟨h1,hm⟩
 ·refine Dr (nt (Bd x1 (0:Int))) h1 ?_
  refine .then (.rK (.ghs (fr 12 [(2,(zI (0:Int))),(3,zI x1)]) (hT 2 [(.cells Ay true false [])]) (.k0 [false,false] [] [2,3]) ?_))
  refine .ret ?_
  exact BB (.tuple ⟨[(zI (0:Int)),zI x1]⟩) hm
 ·refine Dy (nt (Bd x1 (0:Int))) h1 ?_
  refine .skip (.ghs (fr 12 [(1,(pt 2 0))]) (hT 3 [(.cells Ay true false []),(oC [zI x0,Sl.v 1 s0,Sl.v 1 s1])]) (.k0 [false,false] [.tmp 1 false] [1]) ?_)
  refine .then ?_
  replace hm:=FK hm;obtain⟨x2,h2,hm⟩:=hm
  refine .reg (eC 1 ((oo (pu 49 [(.agg ⟨[zI x0,Sl.v 1 s0,Sl.v 1 s1]⟩)]) none fun v=>some (v,(hT 3 [(.cells Ay true false []),(oC [zI x0,Sl.v 1 s0,Sl.v 1 s1])])))) (AB h2) (eE)) ?_
  refine .ghs (fr 12 [(2,zI x2),(3,(zI (0:Int)))]) (hT 2 [(.cells Ay true false [])]) (.k0 [false,false] [] [2,3]) ?_
  refine .ret ?_
  exact BB (.tuple ⟨[zI x2,(zI (0:Int))]⟩) hm

def Abz (pu:Af) (n:Nat) (s0:Sl):OV:=
 (bb (Bd (Int.ofNat (Sl.n s0)) (0:Int)) (some (.int .i64 (4:Int))) (bb (AY (9:Int) (Int.ofNat (Sl.n s0))) (some (.int .i64 (3:Int))) (oo (pu 104 [Sl.v 1 s0]) none fun v0=>(oo (Bi .i64 v0) none fun x0=>(some (.int .i64 x0))))))
def m45 (pu:Af) (n:Nat) (args:LV):OV:=
 (ll args none fun a0 args=>(ll args (oo (Bj 1 a0) none fun s0=>(Abz pu n s0)) fun _ _=>none))
theorem r45 {call:A8} (pu:Af) (n:Nat) (hcall:call=Bb tabs isP pu (inl pu)) {args:LV} {v:Value} (hm:m45 pu n args=some v) (_:∀ x∈args,closed2 x=true):args.length≤13∧BN tt call 2 Ni (Fr.made 13 args) (Ao tabs) (Fin tt 2 [.tmp 2] v):=by
 subst hcall
 unfold m45 at hm
 replace hm:=Ad hm;obtain⟨a0,args_0,rfl,hm⟩:=hm
 replace hm:=AC hm;obtain⟨rfl,hm⟩:=hm
 replace hm:=Al hm;obtain⟨s0,rfl,hm⟩:=hm
 unfold Abz at hm
 refine⟨by simp,?_⟩
 refine .same (F':=(fr 13 [(0,Sl.v 1 s0)])) (H':=(hT 2 [(.cells Ay true false [])])) (by kernel_rfl) (by kernel_rfl) ?_
 refine .then (.rK (.ghs (fr 13 [(0,Sl.v 1 s0)]) (hT 2 [(.cells Ay true false [])]) (.k0 [false,false] [] [0]) ?_))
 refine .then (.block (.then (.rK (.ghs (fr 13 [(0,Sl.v 1 s0),(3,(zB (Bd (Int.ofNat (Sl.n s0)) (0:Int))))]) (hT 2 [(.cells Ay true false [])]) (.k0 [false,false] [] [0,3]) ?_))))
 replace hm:=Ag hm;rcases hm with⟨h0,hm⟩ | ⟨h0,hm⟩
 ·refine Dr (Bd (Int.ofNat (Sl.n s0)) (0:Int)) h0 ?_
  refine .then (.rK (.ghs (fr 13 [(2,(zI (4:Int)))]) (hT 2 [(.cells Ay true false [])]) (.k0 [false,false] [] [2]) ?_))
  refine .ret ?_
  exact BB (zI (4:Int)) hm
 ·refine Dy (Bd (Int.ofNat (Sl.n s0)) (0:Int)) h0 ?_
  refine .then (.rK (.ghs (fr 13 [(0,Sl.v 1 s0),(7,(zB (AY (9:Int) (Int.ofNat (Sl.n s0)))))]) (hT 2 [(.cells Ay true false [])]) (.k0 [false,false] [] [0,7]) ?_))
  replace hm:=Ag hm;rcases hm with⟨h1,hm⟩ | ⟨h1,hm⟩
  ·refine Dr (AY (9:Int) (Int.ofNat (Sl.n s0))) h1 ?_
   refine .then (.rK (.ghs (fr 13 [(2,(zI (3:Int)))]) (hT 2 [(.cells Ay true false [])]) (.k0 [false,false] [] [2]) ?_))
   refine .ret ?_
   exact BB (zI (3:Int)) hm
  ·refine Dy (AY (9:Int) (Int.ofNat (Sl.n s0))) h1 ?_
   refine .skip (.ghs (fr 13 [(0,Sl.v 1 s0)]) (hT 2 [(.cells Ay true false [])]) (.k0 [false,false] [] [0]) ?_)
   refine .then ?_
   replace hm:=FK hm;obtain⟨x0,h2,hm⟩:=hm
   refine .reg (eC 1 ((oo (pu 104 [Sl.v 1 s0]) none fun v=>some (v,(hT 2 [(.cells Ay true false [])])))) (AB h2) (eE)) ?_
   refine .ghs (fr 13 [(2,zI x0)]) (hT 2 [(.cells Ay true false [])]) (.k0 [false,false] [] [2]) ?_
   refine .ret ?_
   exact BB (zI x0) hm
def RP (pu:Af) (n:Nat) (q0:LV):OV:=
 (bb (Nat.ble (0+5) (len q0)) (oo (AL q0 0) none fun v0=>(oo (Bi .i64 v0) none fun x0=>(oo (AL q0 (0+1)) none fun v1=>(oo (Bi .i64 v1) none fun x1=>(oo (AL q0 ((0+1)+1)) none fun v2=>(oo (Bi .i64 v2) none fun x2=>(oo (AL q0 (((0+1)+1)+1)) none fun v3=>(oo (Bi .i64 v3) none fun x3=>(oo (AL q0 ((((0+1)+1)+1)+1)) none fun v4=>(oo (Bi .i64 v4) none fun x4=>(bb (bq false (an (Bd x0 (0:Int)) (an (Bd x1 (0:Int)) (an (Bd x2 (0:Int)) (an (Bd x3 (0:Int)) (an (Bd x4 (0:Int)) true)))))) (some (.int .i64 (17:Int))) (some (.int .i64 (0:Int)))))))))))))) none)
def RQ (pu:Af) (n:Nat) (ih0:Sl→Int→Int→Int→Sl→Sl→LV→OV) (z0 z1:Int) (s0:Sl) (z2 z3:Int) (b0:Bool) (z4:Int) (s1 s2:Sl) (q0:LV):OV:=
 (bb b0 (some (.int .i64 (2:Int))) (bb (Au Ah q0) (oo (EA z0) none fun k1=>(bb (Nat.blt k1 5) (oo (AL q0 (0+k1*1)) none fun v0=>(oo (Bi .i64 v0) none fun x0=>(bb (Nat.blt k1 5) (bb (an (Nat.ble ((0+k1*1)+1) (len q0)) true) (bb (Au Ah (BM ([(.int .i64 (Aj .i64 (Int.add x0 (1:Int))))]:LV) (0+k1*1) q0)) (oo (EA z1) none fun k2=>(bb (Nat.blt k2 5) (oo (AL (BM ([(.int .i64 (Aj .i64 (Int.add x0 (1:Int))))]:LV) (0+k1*1) q0) (0+k2*1)) none fun v1=>(oo (Bi .i64 v1) none fun x1=>(bb (Nat.blt k2 5) (bb (an (Nat.ble ((0+k2*1)+1) (len (BM ([(.int .i64 (Aj .i64 (Int.add x0 (1:Int))))]:LV) (0+k1*1) q0))) true) (bb (Au Ah (BM ([(.int .i64 (Aj .i64 (Int.sub x1 (1:Int))))]:LV) (0+k2*1) (BM ([(.int .i64 (Aj .i64 (Int.add x0 (1:Int))))]:LV) (0+k1*1) q0))) (ih0 s0 z2 (Aj .i64 (Int.add z3 (1:Int))) z4 s1 s2 (BM ([(.int .i64 (Aj .i64 (Int.sub x1 (1:Int))))]:LV) (0+k2*1) (BM ([(.int .i64 (Aj .i64 (Int.add x0 (1:Int))))]:LV) (0+k1*1) q0))) none) none) none))) none)) none) none) none))) none)) none))
def UB (pu:Af) (n:Nat) (ih0:Sl→Int→Int→Int→Sl→Sl→LV→OV) (s0:Sl) (z0 z1 z2:Int) (s1 s2:Sl) (q0:LV):OV:=
 (bb (Au Ah q0) (bb (AY z1 z0) (oo (EA z1) none fun k1=>(bb (an (Nat.blt k1 (Sl.n s0)) true) (oo (AL (Sl.cs s0) (k1*1)) none fun v0=>(oo (Bi .i64 v0) none fun x0=>(bb (an (Nat.blt k1 (Sl.n s2)) true) (oo (AL (Sl.cs s2) (k1*1)) none fun v1=>(oo (Bi .i64 v1) none fun x1=>(oo (pu 105 [(.int .i64 (0:Int)),(.int .i64 (bb (AY x1 x0) x1 x0)),(.int .i64 (Aj .i64 (Int.sub z2 (1:Int))))]) none fun v2=>(oo (Bf v2) none fun b0=>(bb (nt b0) (RQ pu n ih0 x0 x1 s0 z0 (Int.ofNat k1) true z2 s1 s2 q0) (RQ pu n ih0 x0 x1 s0 z0 (Int.ofNat k1) (nt (AY (bb (AY x0 x1) x1 x0) z2)) z2 s1 s2 q0)))))) none))) none)) (RP pu n q0)) none)
def RS (pu:Af) (n w:Nat):Sl→Int→Int→Int→Sl→Sl→LV→OV:=
 Nat.rec (motive:=fun _=>Sl→Int→Int→Int→Sl→Sl→LV→OV) (fun _ _ _ _ _ _ _=>none) (fun _ ih0=>UB pu n ih0) w
def AbA (pu:Af) (n:Nat) (x0:Int) (s0 s1:Sl):OV:=
 (oo (pu 105 [(.int .i64 (1:Int)),.int .i64 x0,(.int .i64 (5:Int))]) none fun v0=>(oo (Bf v0) none fun b0=>(bb (nt b0) (some (.int .i64 (1:Int))) (bb (Bd (Int.ofNat (Sl.n s0)) (0:Int)) (some (.int .i64 (4:Int))) (bb (AY (10:Int) (Int.ofNat (Sl.n s0))) (some (.int .i64 (3:Int))) (bb (nt (Bd (Int.ofNat (Sl.n s1)) (Int.ofNat (Sl.n s0)))) (some (.int .i64 (5:Int))) (RS pu n n s0 (Int.ofNat (Sl.n s0)) (0:Int) x0 s0 s1 ([(.int .i64 (0:Int)),(.int .i64 (0:Int)),(.int .i64 (0:Int)),(.int .i64 (0:Int)),(.int .i64 (0:Int))]:LV))))))))
def m47 (pu:Af) (n:Nat) (args:LV):OV:=
 (ll args none fun a0 args=>(ll args (oo (Bt a0) none fun l0=>(ll l0 none fun v0 l0=>(ll l0 none fun v1 l0=>(ll l0 none fun v2 l0=>(ll l0 (oo (Bi .i64 v0) none fun x0=>(oo (Bj 1 v1) none fun s0=>(oo (Bj 1 v2) none fun s1=>(AbA pu n x0 s0 s1)))) fun _ _=>none))))) fun _ _=>none))
theorem AbB (pu:Af) (n:Nat) (q0:LV) {v:Value} (hm:RP pu n q0=some v):BN tt (Bb tabs isP pu (inl pu)) 2 SF (fr 73 [(3,(pt 2 0))]) (hT 3 [(.cells Ay true false []),oC q0]) (Fin tt 2 [.tmp 2] v):=by
 unfold RP at hm
 refine .then (.then ?_)
 replace hm:=Ae hm;obtain⟨h0,hm⟩:=hm
 replace hm:=FK hm;obtain⟨x0,h1,hm⟩:=hm
 replace hm:=FK hm;obtain⟨x1,h2,hm⟩:=hm
 replace hm:=FK hm;obtain⟨x2,h3,hm⟩:=hm
 replace hm:=FK hm;obtain⟨x3,h4,hm⟩:=hm
 replace hm:=FK hm;obtain⟨x4,h5,hm⟩:=hm
 refine .reg (eD (keep (hT 3 [(.cells Ay true false []),oC q0]) (bb (Nat.ble (0+5) (len q0)) (some (.agg ⟨Aq 5 (Am 0 q0)⟩)) none)) (Pd h0 (Ca h1 (Ca h2 (Ca h3 (Ca h4 (Ca h5 rfl)))))) (eE)) ?_
 refine .ghs (fr 73 [(72,(zB (bq false (an (Bd x0 (0:Int)) (an (Bd x1 (0:Int)) (an (Bd x2 (0:Int)) (an (Bd x3 (0:Int)) (an (Bd x4 (0:Int)) true))))))))]) (hT 2 [(.cells Ay true false [])]) (.k0 [false,false] [] [72]) ?_
 replace hm:=Ag hm;rcases hm with⟨h6,hm⟩ | ⟨h6,hm⟩
 ·refine Dr (bq false (an (Bd x0 (0:Int)) (an (Bd x1 (0:Int)) (an (Bd x2 (0:Int)) (an (Bd x3 (0:Int)) (an (Bd x4 (0:Int)) true)))))) h6 ?_
  refine .then (.rK (.ghs (fr 73 [(2,(zI (17:Int)))]) (hT 2 [(.cells Ay true false [])]) (.k0 [false,false] [] [2]) ?_))
  refine .ret ?_
  exact BB (zI (17:Int)) hm
 ·refine Dy (bq false (an (Bd x0 (0:Int)) (an (Bd x1 (0:Int)) (an (Bd x2 (0:Int)) (an (Bd x3 (0:Int)) (an (Bd x4 (0:Int)) true)))))) h6 ?_
  refine .skip (.ghs (fr 73 []) (hT 2 [(.cells Ay true false [])]) (.k0 [false,false] [] []) ?_)
  refine .then (.rK (.ghs (fr 73 [(2,(zI (0:Int)))]) (hT 2 [(.cells Ay true false [])]) (.k0 [false,false] [] [2]) ?_))
  refine .ret ?_
  exact BB (zI (0:Int)) hm
theorem r47 {call:A8} (pu:Af) (n:Nat) (hcall:call=Bb tabs isP pu (inl pu)) {args:LV} {v:Value} (hm:m47 pu n args=some v) (_:∀ x∈args,closed2 x=true):args.length≤73∧BN tt call 2 Oi (Fr.made 73 args) (Ao tabs) (Fin tt 2 [.tmp 2] v):=by
 subst hcall
 unfold m47 at hm
 replace hm:=Ad hm;obtain⟨a0,args_0,rfl,hm⟩:=hm
 replace hm:=AC hm;obtain⟨rfl,hm⟩:=hm
 replace hm:=BG hm;obtain⟨l0,rfl,hm⟩:=hm
 replace hm:=Ad hm;obtain⟨v0,l6310_0,rfl,hm⟩:=hm
 replace hm:=Ad hm;obtain⟨v1,l6310_1,rfl,hm⟩:=hm
 replace hm:=Ad hm;obtain⟨v2,l6310_2,rfl,hm⟩:=hm
 replace hm:=AC hm;obtain⟨rfl,hm⟩:=hm
 replace hm:=Ai hm;obtain⟨x0,rfl,hm⟩:=hm
 replace hm:=Al hm;obtain⟨s0,rfl,hm⟩:=hm
 replace hm:=Al hm;obtain⟨s1,rfl,hm⟩:=hm
 unfold AbA at hm
 refine⟨by simp,?_⟩
 refine .same (F':=(fr 73 [(0,(.agg ⟨[zI x0,Sl.v 1 s0,Sl.v 1 s1]⟩))])) (H':=(hT 2 [(.cells Ay true false [])])) (by kernel_rfl) (by kernel_rfl) ?_
 refine .then (.rK (.ghs (fr 73 [(1,(pt 2 0))]) (hT 3 [(.cells Ay true false []),(oC [zI x0,Sl.v 1 s0,Sl.v 1 s1])]) (.k0 [false,false] [.tmp 1 false] [1]) ?_))
 refine .then (.block (.then ?_))
 replace hm:=zT hm;obtain⟨b0,h0,hm⟩:=hm
 refine .reg (eC 2 ((oo (pu 105 [(zI (1:Int)),zI x0,(zI (5:Int))]) none fun v=>some (v,(hT 3 [(.cells Ay true false []),(oC [zI x0,Sl.v 1 s0,Sl.v 1 s1])])))) (AB h0) (eE)) ?_
 refine .ghs (fr 73 [(1,(pt 2 0)),(7,(zB (nt b0)))]) (hT 3 [(.cells Ay true false []),(oC [zI x0,Sl.v 1 s0,Sl.v 1 s1])]) (.k0 [false,false] [.tmp 1 false] [1,7]) ?_
 replace hm:=Ag hm;rcases hm with⟨h1,hm⟩ | ⟨h1,hm⟩
 ·refine Dr (nt b0) h1 ?_
  refine .then (.rK (.ghs (fr 73 [(2,(zI (1:Int)))]) (hT 2 [(.cells Ay true false [])]) (.k0 [false,false] [] [2]) ?_))
  refine .ret ?_
  exact BB (zI (1:Int)) hm
 ·refine Dy (nt b0) h1 ?_
  refine .then (.rK (.ghs (fr 73 [(1,(pt 2 0)),(12,(zB (Bd (Int.ofNat (Sl.n s0)) (0:Int))))]) (hT 3 [(.cells Ay true false []),(oC [zI x0,Sl.v 1 s0,Sl.v 1 s1])]) (.k0 [false,false] [.tmp 1 false] [1,12]) ?_))
  replace hm:=Ag hm;rcases hm with⟨h2,hm⟩ | ⟨h2,hm⟩
  ·refine Dr (Bd (Int.ofNat (Sl.n s0)) (0:Int)) h2 ?_
   refine .then (.rK (.ghs (fr 73 [(2,(zI (4:Int)))]) (hT 2 [(.cells Ay true false [])]) (.k0 [false,false] [] [2]) ?_))
   refine .ret ?_
   exact BB (zI (4:Int)) hm
  ·refine Dy (Bd (Int.ofNat (Sl.n s0)) (0:Int)) h2 ?_
   refine .then (.rK (.ghs (fr 73 [(1,(pt 2 0)),(17,(zB (AY (10:Int) (Int.ofNat (Sl.n s0)))))]) (hT 3 [(.cells Ay true false []),(oC [zI x0,Sl.v 1 s0,Sl.v 1 s1])]) (.k0 [false,false] [.tmp 1 false] [1,17]) ?_))
   replace hm:=Ag hm;rcases hm with⟨h3,hm⟩ | ⟨h3,hm⟩
   ·refine Dr (AY (10:Int) (Int.ofNat (Sl.n s0))) h3 ?_
    refine .then (.rK (.ghs (fr 73 [(2,(zI (3:Int)))]) (hT 2 [(.cells Ay true false [])]) (.k0 [false,false] [] [2]) ?_))
    refine .ret ?_
    exact BB (zI (3:Int)) hm
   ·refine Dy (AY (10:Int) (Int.ofNat (Sl.n s0))) h3 ?_
    refine .then (.rK (.ghs (fr 73 [(1,(pt 2 0)),(22,(zB (nt (Bd (Int.ofNat (Sl.n s1)) (Int.ofNat (Sl.n s0))))))]) (hT 3 [(.cells Ay true false []),(oC [zI x0,Sl.v 1 s0,Sl.v 1 s1])]) (.k0 [false,false] [.tmp 1 false] [1,22]) ?_))
    replace hm:=Ag hm;rcases hm with⟨h4,hm⟩ | ⟨h4,hm⟩
    ·refine Dr (nt (Bd (Int.ofNat (Sl.n s1)) (Int.ofNat (Sl.n s0)))) h4 ?_
     refine .then (.rK (.ghs (fr 73 [(2,(zI (5:Int)))]) (hT 2 [(.cells Ay true false [])]) (.k0 [false,false] [] [2]) ?_))
     refine .ret ?_
     exact BB (zI (5:Int)) hm
    ·refine Dy (nt (Bd (Int.ofNat (Sl.n s1)) (Int.ofNat (Sl.n s0)))) h4 ?_
     refine .skip (.ghs (fr 73 [(1,(pt 2 0))]) (hT 3 [(.cells Ay true false []),(oC [zI x0,Sl.v 1 s0,Sl.v 1 s1])]) (.k0 [false,false] [.tmp 1 false] [1]) ?_)
     refine .then (.rK (.ghs (fr 73 [(1,(pt 2 0)),(3,(pt 3 0))]) (hT 4 [(.cells Ay true false []),(oC [zI x0,Sl.v 1 s0,Sl.v 1 s1]),(oC [(zI (0:Int)),(zI (0:Int)),(zI (0:Int)),(zI (0:Int)),(zI (0:Int))])]) (.k0 [false,false] [.tmp 1 false,.tmp 3 false] [1,3]) ?_))
     refine .join (v:=v) (fun y:LV=>((fr 73 [(3,(pt 2 0))]),(hT 3 [(.cells Ay true false []),oC y]))) (fun y=>RP pu n y) ?_ ?_
     ·rintro q0 hm
      exact AbB pu n q0 hm
     ·refine .then (.rK (.ghs (fr 73 [(1,(pt 2 0)),(3,(pt 3 0)),(31,Sl.v 1 s0),(32,(zI (Int.ofNat (Sl.n s0)))),(33,(zI (0:Int)))]) (hT 4 [(.cells Ay true false []),(oC [zI x0,Sl.v 1 s0,Sl.v 1 s1]),(oC [(zI (0:Int)),(zI (0:Int)),(zI (0:Int)),(zI (0:Int)),(zI (0:Int))])]) (.k0 [false,false] [.tmp 1 false,.tmp 3 false] [1,3,31,32,33]) ?_))
      refine .block (.loopM (v:=v) (fun y:Sl×Int×Int×Int×Sl×Sl×LV=>((fr 73 [(1,(pt 2 0)),(3,(pt 3 0)),(31,(Sl.v 1 y.1)),(32,(zI y.2.1)),(33,(zI y.2.2.1))]),(hT 4 [(.cells Ay true false []),(oC [(zI y.2.2.2.1),(Sl.v 1 y.2.2.2.2.1),(Sl.v 1 y.2.2.2.2.2.1)]),(oC y.2.2.2.2.2.2)]))) (fun w y=>RS pu n w y.1 y.2.1 y.2.2.1 y.2.2.2.1 y.2.2.2.2.1 y.2.2.2.2.2.1 y.2.2.2.2.2.2) n ⟨(s0,(Int.ofNat (Sl.n s0)),(0:Int),x0,s0,s1,([(zI (0:Int)),(zI (0:Int)),(zI (0:Int)),(zI (0:Int)),(zI (0:Int))]:LV)),hm,(.k0 [false,false] [.tmp 1 false,.tmp 3 false] [1,3,31,32,33])⟩ (fun _=>rfl) ?_)
      rintro w0 ⟨s2,z0,z1,z2,s3,s4,q1⟩ hm
      replace hm:UB pu n (RS pu n w0) s2 z0 z1 z2 s3 s4 q1=some v:=hm
      unfold UB at hm
      refine .then (.rK ?_)
      replace hm:=Ae hm;obtain⟨h5,hm⟩:=hm
      refine .ghs (fr 73 [(1,(pt 2 0)),(3,(pt 3 0)),(31,Sl.v 1 s2),(32,zI z0),(33,zI z1),(34,(zB (AY z1 z0)))]) (hT 4 [(.cells Ay true false []),(oC [zI z2,Sl.v 1 s3,Sl.v 1 s4]),oC q1]) (.k [3] [false,false] [.tmp 1 false,.tmp 3 false] [1,3,31,32,33,34] ⟨AO h5,trivial⟩) ?_
      refine .then ?_
      replace hm:=Ag hm;rcases hm with⟨h6,hm⟩ | ⟨h6,hm⟩
      ·refine Dr (AY z1 z0) h6 ?_
       refine .skip (.ghs (fr 73 [(1,(pt 2 0)),(3,(pt 3 0)),(31,Sl.v 1 s2),(32,zI z0),(33,zI z1)]) (hT 4 [(.cells Ay true false []),(oC [zI z2,Sl.v 1 s3,Sl.v 1 s4]),oC q1]) (.k [3] [false,false] [.tmp 1 false,.tmp 3 false] [1,3,31,32,33] ⟨AO h5,trivial⟩) ?_)
       refine .then (.block (.then ?_))
       replace hm:=Ab hm;obtain⟨k1,h7,hm⟩:=hm
       obtain rfl:=AR h7
       replace hm:=Ae hm;obtain⟨h8,hm⟩:=hm
       replace hm:=FK hm;obtain⟨x1,h9,hm⟩:=hm
       refine .reg (eC 1 (keep (hT 4 [(.cells Ay true false []),(oC [zI z2,Sl.v 1 s3,Sl.v 1 s4]),oC q1]) (bb (an (Nat.blt k1 (Sl.n s2)) true) (some (Cv (k1*1) (Sl.cs s2))) none)) (AX h8) (eD (keep (hT 4 [(.cells Ay true false []),(oC [zI z2,Sl.v 1 s3,Sl.v 1 s4]),oC q1]) (AL (Sl.cs s2) (k1*1))) (AZ h9) (eE))) ?_
       refine .ghs (fr 73 [(1,(pt 2 0)),(3,(pt 3 0)),(4,(zI (Int.ofNat k1))),(5,zI x1),(31,Sl.v 1 s2),(32,zI z0),(33,(zI (Int.ofNat k1)))]) (hT 4 [(.cells Ay true false []),(oC [zI z2,Sl.v 1 s3,Sl.v 1 s4]),oC q1]) (.k [3] [false,false] [.tmp 1 false,.tmp 3 false] [1,3,4,5,31,32,33] ⟨AO h5,trivial⟩) ?_
       refine .then ?_
       replace hm:=Ae hm;obtain⟨h10,hm⟩:=hm
       replace hm:=FK hm;obtain⟨x2,h11,hm⟩:=hm
       refine .reg (eC 3 (keep (hT 4 [(.cells Ay true false []),(oC [zI z2,Sl.v 1 s3,Sl.v 1 s4]),oC q1]) (bb (an (Nat.blt k1 (Sl.n s4)) true) (some (Cv (k1*1) (Sl.cs s4))) none)) (AX h10) (eD (keep (hT 4 [(.cells Ay true false []),(oC [zI z2,Sl.v 1 s3,Sl.v 1 s4]),oC q1]) (AL (Sl.cs s4) (k1*1))) (AZ h11) (eE))) ?_
       refine .ghs (fr 73 [(1,(pt 2 0)),(3,(pt 3 0)),(5,zI x1),(6,zI x2),(31,Sl.v 1 s2),(32,zI z0),(33,(zI (Int.ofNat k1)))]) (hT 4 [(.cells Ay true false []),(oC [zI z2,Sl.v 1 s3,Sl.v 1 s4]),oC q1]) (.k [3] [false,false] [.tmp 1 false,.tmp 3 false] [1,3,5,6,31,32,33] ⟨AO h5,trivial⟩) ?_
       refine .then (.join (v:=v) (fun y:Int×Int×Sl×Int×Int×Bool×Int×Sl×Sl×LV=>((fr 73 [(1,(pt 2 0)),(3,(pt 3 0)),(5,(zI y.1)),(6,(zI y.2.1)),(31,(Sl.v 1 y.2.2.1)),(32,(zI y.2.2.2.1)),(33,(zI y.2.2.2.2.1)),(58,(zB y.2.2.2.2.2.1))]),(hT 4 [(.cells Ay true false []),(oC [(zI y.2.2.2.2.2.2.1),(Sl.v 1 y.2.2.2.2.2.2.2.1),(Sl.v 1 y.2.2.2.2.2.2.2.2.1)]),(oC y.2.2.2.2.2.2.2.2.2)]))) (fun y=>RQ pu n (RS pu n w0) y.1 y.2.1 y.2.2.1 y.2.2.2.1 y.2.2.2.2.1 y.2.2.2.2.2.1 y.2.2.2.2.2.2.1 y.2.2.2.2.2.2.2.1 y.2.2.2.2.2.2.2.2.1 y.2.2.2.2.2.2.2.2.2) ?_ ?_)
       ·rintro⟨z3,z4,s5,z5,z6,b1,z7,s6,s7,q2⟩ hm
        unfold RQ at hm
        replace hm:=Ag hm;rcases hm with⟨h12,hm⟩ | ⟨h12,hm⟩
        ·refine .ifT b1 (by kernel_rfl) h12 ?_
         refine .then (.rK (.ghs (fr 73 [(2,(zI (2:Int)))]) (hT 2 [(.cells Ay true false [])]) (.k0 [false,false] [] [2]) ?_))
         refine .ret ?_
         exact BB (zI (2:Int)) hm
        ·refine .ifF b1 (by kernel_rfl) h12 ?_
         refine .skip ?_
         replace hm:=Ae hm;obtain⟨h13,hm⟩:=hm
         refine .ghs (fr 73 [(1,(pt 2 0)),(3,(pt 3 0)),(5,zI z3),(6,zI z4),(31,Sl.v 1 s5),(32,zI z5),(33,zI z6)]) (hT 4 [(.cells Ay true false []),(oC [zI z7,Sl.v 1 s6,Sl.v 1 s7]),oC q2]) (.k [3] [false,false] [.tmp 1 false,.tmp 3 false] [1,3,5,6,31,32,33] ⟨AO h13,trivial⟩) ?_
         refine .then ?_
         replace hm:=Ab hm;obtain⟨k2,h14,hm⟩:=hm
         obtain rfl:=AR h14
         replace hm:=Ae hm;obtain⟨h15,hm⟩:=hm
         replace hm:=FK hm;obtain⟨x3,h16,hm⟩:=hm
         replace hm:=Ae hm;obtain⟨h17,hm⟩:=hm
         replace hm:=Ae hm;obtain⟨h18,hm⟩:=hm
         refine .reg (eC 1 (keep (hT 4 [(.cells Ay true false []),(oC [zI z7,Sl.v 1 s6,Sl.v 1 s7]),oC q2]) (bb (Nat.blt k2 5) (some (.pointer (some ⟨3,(0+k2*1),none⟩))) none)) (AX h15) (eD (keep (hT 4 [(.cells Ay true false []),(oC [zI z7,Sl.v 1 s6,Sl.v 1 s7]),oC q2]) (AL q2 (0+k2*1))) (AZ h16) (eC 1 (keep (hT 4 [(.cells Ay true false []),(oC [zI z7,Sl.v 1 s6,Sl.v 1 s7]),oC q2]) (bb (Nat.blt k2 5) (some (.pointer (some ⟨3,(0+k2*1),none⟩))) none)) (AX h17) (eD (done (bb (an (Nat.ble ((0+k2*1)+1) (len q2)) true) (some (hT 4 [(.cells Ay true false []),(oC [zI z7,Sl.v 1 s6,Sl.v 1 s7]),(oC (BM ([(zI (Aj .i64 (Int.add x3 (1:Int))))]:LV) (0+k2*1) q2))])) none) undef) (Js h18) (eE))))) ?_
         replace hm:=Ae hm;obtain⟨h19,hm⟩:=hm
         refine .ghs (fr 73 [(1,(pt 2 0)),(3,(pt 3 0)),(6,zI z4),(31,Sl.v 1 s5),(32,zI z5),(33,zI z6)]) (hT 4 [(.cells Ay true false []),(oC [zI z7,Sl.v 1 s6,Sl.v 1 s7]),(oC (BM ([(zI (Aj .i64 (Int.add x3 (1:Int))))]:LV) (0+k2*1) q2))]) (.k [3] [false,false] [.tmp 1 false,.tmp 3 false] [1,3,6,31,32,33] ⟨AO h19,trivial⟩) ?_
         replace hm:=Ab hm;obtain⟨k3,h20,hm⟩:=hm
         obtain rfl:=AR h20
         replace hm:=Ae hm;obtain⟨h21,hm⟩:=hm
         replace hm:=FK hm;obtain⟨x4,h22,hm⟩:=hm
         replace hm:=Ae hm;obtain⟨h23,hm⟩:=hm
         replace hm:=Ae hm;obtain⟨h24,hm⟩:=hm
         refine .reg (eC 1 (keep (hT 4 [(.cells Ay true false []),(oC [zI z7,Sl.v 1 s6,Sl.v 1 s7]),(oC (BM ([(zI (Aj .i64 (Int.add x3 (1:Int))))]:LV) (0+k2*1) q2))]) (bb (Nat.blt k3 5) (some (.pointer (some ⟨3,(0+k3*1),none⟩))) none)) (AX h21) (eD (keep (hT 4 [(.cells Ay true false []),(oC [zI z7,Sl.v 1 s6,Sl.v 1 s7]),(oC (BM ([(zI (Aj .i64 (Int.add x3 (1:Int))))]:LV) (0+k2*1) q2))]) (AL (BM ([(zI (Aj .i64 (Int.add x3 (1:Int))))]:LV) (0+k2*1) q2) (0+k3*1))) (AZ h22) (eC 1 (keep (hT 4 [(.cells Ay true false []),(oC [zI z7,Sl.v 1 s6,Sl.v 1 s7]),(oC (BM ([(zI (Aj .i64 (Int.add x3 (1:Int))))]:LV) (0+k2*1) q2))]) (bb (Nat.blt k3 5) (some (.pointer (some ⟨3,(0+k3*1),none⟩))) none)) (AX h23) (eD (done (bb (an (Nat.ble ((0+k3*1)+1) (len (BM ([(zI (Aj .i64 (Int.add x3 (1:Int))))]:LV) (0+k2*1) q2))) true) (some (hT 4 [(.cells Ay true false []),(oC [zI z7,Sl.v 1 s6,Sl.v 1 s7]),(oC (BM ([(zI (Aj .i64 (Int.sub x4 (1:Int))))]:LV) (0+k3*1) (BM ([(zI (Aj .i64 (Int.add x3 (1:Int))))]:LV) (0+k2*1) q2)))])) none) undef) (Js h24) (eE))))) ?_
         replace hm:=Ae hm;obtain⟨h25,hm⟩:=hm
         refine .ghs (fr 73 [(1,(pt 2 0)),(3,(pt 3 0)),(31,Sl.v 1 s5),(32,zI z5),(33,zI z6)]) (hT 4 [(.cells Ay true false []),(oC [zI z7,Sl.v 1 s6,Sl.v 1 s7]),(oC (BM ([(zI (Aj .i64 (Int.sub x4 (1:Int))))]:LV) (0+k3*1) (BM ([(zI (Aj .i64 (Int.add x3 (1:Int))))]:LV) (0+k2*1) q2)))]) (.k [3] [false,false] [.tmp 1 false,.tmp 3 false] [1,3,31,32,33] ⟨AO h25,trivial⟩) ?_
         refine .rK ?_
         exact⟨(s5,z5,(Aj .i64 (Int.add z6 (1:Int))),z7,s6,s7,(BM ([(zI (Aj .i64 (Int.sub x4 (1:Int))))]:LV) (0+k3*1) (BM ([(zI (Aj .i64 (Int.add x3 (1:Int))))]:LV) (0+k2*1) q2))),hm,(.k [3] [false,false] [.tmp 1 false,.tmp 3 false] [1,3,31,32,33] ⟨AO h25,trivial⟩)⟩
       ·replace hm:=zT hm;obtain⟨b2,h26,hm⟩:=hm
        replace hm:=Ag hm;rcases hm with⟨h27,hm⟩ | ⟨h27,hm⟩
        ·refine .reg (eC 6 ((oo (pu 105 [(zI (0:Int)),(zI (bb (AY x2 x1) x2 x1)),(zI (Aj .i64 (Int.sub z2 (1:Int))))]) none fun v=>some (v,(hT 4 [(.cells Ay true false []),(oC [zI z2,Sl.v 1 s3,Sl.v 1 s4]),oC q1])))) (AB h26) (eD (some ((zB (nt b2)),(hT 4 [(.cells Ay true false []),(oC [zI z2,Sl.v 1 s3,Sl.v 1 s4]),oC q1]))) (show _=some ((zB true),_) from (by rw[show (nt b2)=true from h27])) (eE))) ?_
         exact⟨(x1,x2,s2,z0,(Int.ofNat k1),true,z2,s3,s4,q1),hm,(.k [3] [false,false] [.tmp 1 false,.tmp 3 false] [1,3,5,6,31,32,33,58] ⟨AO h5,trivial⟩)⟩
        ·refine .reg (eC 6 ((oo (pu 105 [(zI (0:Int)),(zI (bb (AY x2 x1) x2 x1)),(zI (Aj .i64 (Int.sub z2 (1:Int))))]) none fun v=>some (v,(hT 4 [(.cells Ay true false []),(oC [zI z2,Sl.v 1 s3,Sl.v 1 s4]),oC q1])))) (AB h26) (eD (some ((zB (nt b2)),(hT 4 [(.cells Ay true false []),(oC [zI z2,Sl.v 1 s3,Sl.v 1 s4]),oC q1]))) (show _=some ((zB false),_) from (by rw[show (nt b2)=false from h27])) (eE))) ?_
         exact⟨(x1,x2,s2,z0,(Int.ofNat k1),(nt (AY (bb (AY x1 x2) x2 x1) z2)),z2,s3,s4,q1),hm,(.k [3] [false,false] [.tmp 1 false,.tmp 3 false] [1,3,5,6,31,32,33,58] ⟨AO h5,trivial⟩)⟩
      ·refine Dy (AY z1 z0) h6 ?_
       refine .exit ?_
       exact⟨q1,hm,(.k [3] [false,false] [.tmp 3 false] [3] ⟨AO h5,trivial⟩)⟩
def RU (pu:Af) (n n0 c0:Nat) (q0:LV):OV:=
 (bb (Au Ah q0) (bb (an (Nat.ble (0+n0*1) (len q0)) (Au Ah (Aq (n0*1) (Am 0 q0)))) (some (Sl.v 1 (Sl.mk n0 0 (Aq (n0*1) (Am 0 q0))))) none) none)
def UC (pu:Af) (n:Nat) (ih0:Nat→Nat→Sl→Int→Int→Nat→Nat→Nat→Nat→Nat→Nat→Nat→Nat→Nat→Nat→Nat→Nat→Nat→Nat→Nat→LV→LV→LV→LV→LV→LV→OV) (n0 c0:Nat) (s0:Sl) (z0 z1:Int) (n1 n2 c1 n3 n4 c2 n5 n6 c4 n7 n8 c5 n9 n10 c6:Nat) (q0:LV) (q1:LV) (q2:LV) (q3:LV) (q4:LV) (q5:LV):OV:=
 (bb (Au Ah q0) (bb (Au Ah q1) (bb (Au Ah q2) (bb (Au Ah q3) (bb (Au Ah q4) (bb (Au Ah q5) (bb (AY z1 z0) (oo (EA z1) none fun k1=>(bb (an (Nat.blt k1 (Sl.n s0)) true) (oo (AL (Sl.cs s0) (k1*1)) none fun v0=>(oo (Bi .i64 v0) none fun x0=>(oo (EA x0) none fun k2=>(bb (Nat.beq k2 0) (bb (an (Nat.blt 0 n2) true) (oo (AL q1 (n1+0*1)) none fun v1=>(oo (Bi .i64 v1) none fun x1=>(bb (Nat.ble 1 n2) (bb (GV 1 8 n0 c0 1 q0) (bb (Au Ah (Br (Am 0 q0) [.int .i64 x1])) (ih0 (n0+1) (2*(n0+1)+bb false 1 0) s0 z0 (Aj .i64 (Int.add (Int.ofNat k1) (1:Int))) (n1+1*1) (n2 - 1) (2*(c1 / 2 - 1)+bb (Dp false (Nat.beq (c1 % 2) 1)) 1 0) n3 n4 c2 n5 n6 c4 n7 n8 c5 n9 n10 c6 (Br (Am 0 q0) [.int .i64 x1]) q1 q2 q3 q4 q5) none) none) none))) none) (bb (Nat.beq k2 1) (bb (an (Nat.blt 0 n4) true) (oo (AL q2 (n3+0*1)) none fun v2=>(oo (Bi .i64 v2) none fun x2=>(bb (Nat.ble 1 n4) (bb (GV 1 8 n0 c0 1 q0) (bb (Au Ah (Br (Am 0 q0) [.int .i64 x2])) (ih0 (n0+1) (2*(n0+1)+bb false 1 0) s0 z0 (Aj .i64 (Int.add (Int.ofNat k1) (1:Int))) n1 n2 c1 (n3+1*1) (n4 - 1) (2*(c2 / 2 - 1)+bb (Dp false (Nat.beq (c2 % 2) 1)) 1 0) n5 n6 c4 n7 n8 c5 n9 n10 c6 (Br (Am 0 q0) [.int .i64 x2]) q1 q2 q3 q4 q5) none) none) none))) none) (bb (Nat.beq k2 2) (bb (an (Nat.blt 0 n6) true) (oo (AL q3 (n5+0*1)) none fun v3=>(oo (Bi .i64 v3) none fun x3=>(bb (Nat.ble 1 n6) (bb (GV 1 8 n0 c0 1 q0) (bb (Au Ah (Br (Am 0 q0) [.int .i64 x3])) (ih0 (n0+1) (2*(n0+1)+bb false 1 0) s0 z0 (Aj .i64 (Int.add (Int.ofNat k1) (1:Int))) n1 n2 c1 n3 n4 c2 (n5+1*1) (n6 - 1) (2*(c4 / 2 - 1)+bb (Dp false (Nat.beq (c4 % 2) 1)) 1 0) n7 n8 c5 n9 n10 c6 (Br (Am 0 q0) [.int .i64 x3]) q1 q2 q3 q4 q5) none) none) none))) none) (bb (Nat.beq k2 3) (bb (an (Nat.blt 0 n8) true) (oo (AL q4 (n7+0*1)) none fun v4=>(oo (Bi .i64 v4) none fun x4=>(bb (Nat.ble 1 n8) (bb (GV 1 8 n0 c0 1 q0) (bb (Au Ah (Br (Am 0 q0) [.int .i64 x4])) (ih0 (n0+1) (2*(n0+1)+bb false 1 0) s0 z0 (Aj .i64 (Int.add (Int.ofNat k1) (1:Int))) n1 n2 c1 n3 n4 c2 n5 n6 c4 (n7+1*1) (n8 - 1) (2*(c5 / 2 - 1)+bb (Dp false (Nat.beq (c5 % 2) 1)) 1 0) n9 n10 c6 (Br (Am 0 q0) [.int .i64 x4]) q1 q2 q3 q4 q5) none) none) none))) none) (bb (Nat.beq k2 4) (bb (an (Nat.blt 0 n10) true) (oo (AL q5 (n9+0*1)) none fun v5=>(oo (Bi .i64 v5) none fun x5=>(bb (Nat.ble 1 n10) (bb (GV 1 8 n0 c0 1 q0) (bb (Au Ah (Br (Am 0 q0) [.int .i64 x5])) (ih0 (n0+1) (2*(n0+1)+bb false 1 0) s0 z0 (Aj .i64 (Int.add (Int.ofNat k1) (1:Int))) n1 n2 c1 n3 n4 c2 n5 n6 c4 n7 n8 c5 (n9+1*1) (n10 - 1) (2*(c6 / 2 - 1)+bb (Dp false (Nat.beq (c6 % 2) 1)) 1 0) (Br (Am 0 q0) [.int .i64 x5]) q1 q2 q3 q4 q5) none) none) none))) none) none)))))))) none)) (RU pu n n0 c0 q0)) none) none) none) none) none) none)
def UD (pu:Af) (n w:Nat):Nat→Nat→Sl→Int→Int→Nat→Nat→Nat→Nat→Nat→Nat→Nat→Nat→Nat→Nat→Nat→Nat→Nat→Nat→Nat→LV→LV→LV→LV→LV→LV→OV:=
 Nat.rec (motive:=fun _=>Nat→Nat→Sl→Int→Int→Nat→Nat→Nat→Nat→Nat→Nat→Nat→Nat→Nat→Nat→Nat→Nat→Nat→Nat→Nat→LV→LV→LV→LV→LV→LV→OV) (fun _ _ _ _ _ _ _ _ _ _ _ _ _ _ _ _ _ _ _ _ _ _ _ _ _ _=>none) (fun _ ih0=>UC pu n ih0) w
def RX (pu:Af) (n:Nat) (z0:Int) (s0 s1:Sl) (n0 c0 n1 c1 n2 c2 n3 c4 n4 c5:Nat) (q0:LV) (q1:LV) (q2:LV) (q3:LV) (q4:LV):OV:=
 (bb (Au Ah q0) (bb (Au Ah q1) (bb (Au Ah q2) (bb (Au Ah q3) (bb (Au Ah q4) (UD pu n n 0 0 s1 (Int.ofNat (Sl.n s1)) (0:Int) 0 n0 c0 0 n1 c1 0 n2 c2 0 n3 c4 0 n4 c5 ([]:LV) q0 q1 q2 q3 q4) none) none) none) none) none)
def UE (pu:Af) (n:Nat) (ih0:Sl→Int→Int→Int→Sl→Sl→Nat→Nat→Nat→Nat→Nat→Nat→Nat→Nat→Nat→Nat→LV→LV→LV→LV→LV→OV) (s0:Sl) (z0 z1 z2:Int) (s1 s2:Sl) (n0 c0 n1 c1 n2 c2 n3 c4 n4 c5:Nat) (q0:LV) (q1:LV) (q2:LV) (q3:LV) (q4:LV):OV:=
 (bb (Au Ah q0) (bb (Au Ah q1) (bb (Au Ah q2) (bb (Au Ah q3) (bb (Au Ah q4) (bb (AY z1 z0) (oo (EA z1) none fun k1=>(bb (an (Nat.blt k1 (Sl.n s0)) true) (oo (AL (Sl.cs s0) (k1*1)) none fun v0=>(oo (Bi .i64 v0) none fun x0=>(oo (EA x0) none fun k2=>(bb (Nat.beq k2 0) (bb (GV 1 8 n0 c0 1 q0) (bb (Au Ah (Br (Am 0 q0) [(.int .i64 (Int.ofNat k1))])) (ih0 s0 z0 (Aj .i64 (Int.add (Int.ofNat k1) (1:Int))) z2 s1 s2 (n0+1) (2*(n0+1)+bb false 1 0) n1 c1 n2 c2 n3 c4 n4 c5 (Br (Am 0 q0) [(.int .i64 (Int.ofNat k1))]) q1 q2 q3 q4) none) none) (bb (Nat.beq k2 1) (bb (GV 1 8 n1 c1 1 q1) (bb (Au Ah (Br (Am 0 q1) [(.int .i64 (Int.ofNat k1))])) (ih0 s0 z0 (Aj .i64 (Int.add (Int.ofNat k1) (1:Int))) z2 s1 s2 n0 c0 (n1+1) (2*(n1+1)+bb false 1 0) n2 c2 n3 c4 n4 c5 q0 (Br (Am 0 q1) [(.int .i64 (Int.ofNat k1))]) q2 q3 q4) none) none) (bb (Nat.beq k2 2) (bb (GV 1 8 n2 c2 1 q2) (bb (Au Ah (Br (Am 0 q2) [(.int .i64 (Int.ofNat k1))])) (ih0 s0 z0 (Aj .i64 (Int.add (Int.ofNat k1) (1:Int))) z2 s1 s2 n0 c0 n1 c1 (n2+1) (2*(n2+1)+bb false 1 0) n3 c4 n4 c5 q0 q1 (Br (Am 0 q2) [(.int .i64 (Int.ofNat k1))]) q3 q4) none) none) (bb (Nat.beq k2 3) (bb (GV 1 8 n3 c4 1 q3) (bb (Au Ah (Br (Am 0 q3) [(.int .i64 (Int.ofNat k1))])) (ih0 s0 z0 (Aj .i64 (Int.add (Int.ofNat k1) (1:Int))) z2 s1 s2 n0 c0 n1 c1 n2 c2 (n3+1) (2*(n3+1)+bb false 1 0) n4 c5 q0 q1 q2 (Br (Am 0 q3) [(.int .i64 (Int.ofNat k1))]) q4) none) none) (bb (Nat.beq k2 4) (bb (GV 1 8 n4 c5 1 q4) (bb (Au Ah (Br (Am 0 q4) [(.int .i64 (Int.ofNat k1))])) (ih0 s0 z0 (Aj .i64 (Int.add (Int.ofNat k1) (1:Int))) z2 s1 s2 n0 c0 n1 c1 n2 c2 n3 c4 (n4+1) (2*(n4+1)+bb false 1 0) q0 q1 q2 q3 (Br (Am 0 q4) [(.int .i64 (Int.ofNat k1))])) none) none) none)))))))) none)) (RX pu n z2 s1 s2 n0 c0 n1 c1 n2 c2 n3 c4 n4 c5 q0 q1 q2 q3 q4)) none) none) none) none) none)
def UF (pu:Af) (n w:Nat):Sl→Int→Int→Int→Sl→Sl→Nat→Nat→Nat→Nat→Nat→Nat→Nat→Nat→Nat→Nat→LV→LV→LV→LV→LV→OV:=
 Nat.rec (motive:=fun _=>Sl→Int→Int→Int→Sl→Sl→Nat→Nat→Nat→Nat→Nat→Nat→Nat→Nat→Nat→Nat→LV→LV→LV→LV→LV→OV) (fun _ _ _ _ _ _ _ _ _ _ _ _ _ _ _ _ _ _ _ _ _=>none) (fun _ ih0=>UE pu n ih0) w
def AbC (pu:Af) (n:Nat) (x0:Int) (s0 s1:Sl):OV:=
 (UF pu n n s0 (Int.ofNat (Sl.n s0)) (0:Int) x0 s0 s1 0 0 0 0 0 0 0 0 0 0 ([]:LV) ([]:LV) ([]:LV) ([]:LV) ([]:LV))
def m48 (pu:Af) (n:Nat) (args:LV):OV:=
 (ll args none fun a0 args=>(ll args (oo (Bt a0) none fun l0=>(ll l0 none fun v0 l0=>(ll l0 none fun v1 l0=>(ll l0 none fun v2 l0=>(ll l0 (oo (Bi .i64 v0) none fun x0=>(oo (Bj 1 v1) none fun s0=>(oo (Bj 1 v2) none fun s1=>(AbC pu n x0 s0 s1)))) fun _ _=>none))))) fun _ _=>none))
theorem AbD (pu:Af) (n n0 c0:Nat) (q0:LV) {v:Value} (hm:RU pu n n0 c0 q0=some v):BN tt (Bb tabs isP pu (inl pu)) 2 SG (fr 49 [(6,sc 2 0 1 n0 c0)]) (hT 3 [(.cells Ay true false []),oC q0]) (Fin tt 2 [.tmp 2] v):=by
 unfold RU at hm
 refine .then (.rK ?_)
 replace hm:=Ae hm;obtain⟨h0,hm⟩:=hm
 refine .ghs (fr 49 [(2,sc 2 0 1 n0 c0)]) (hT 3 [(.cells Ay true false []),oC q0]) (.k [2] [false,false] [.tmp 2 false] [2] ⟨AO h0,trivial⟩) ?_
 replace hm:=Ae hm;obtain⟨h1,hm⟩:=hm
 refine .ghs (Fr.puts (fr 49 [(2,sc 2 0 1 n0 c0)]) [(2,(Sl.v 1 (Sl.mk n0 0 (Aq (n0*1) (Am 0 q0)))))]) (hT 3 [(.cells Ay true false []),.dead]) (.freezeC 2 2 1 (an (Nat.ble (0+n0*1) (len q0)) (Au Ah (Aq (n0*1) (Am 0 q0)))) (F1:=(Fr.puts (fr 49 [(2,sc 2 0 1 n0 c0)]) [(2,(Sl.v 1 (Sl.mk n0 0 (Aq (n0*1) (Am 0 q0)))))])) (H1:=(hT 3 [(.cells Ay true false []),.dead])) (by kernel_rfl) (by kernel_rfl) h1 (E9.id _ _)) ?_
 refine .ret ?_
 exact BB (Sl.v 1 (Sl.mk n0 0 (Aq (n0*1) (Am 0 q0)))) hm
theorem AbE (pu:Af) (n:Nat) (z0:Int) (s0 s1:Sl) (n0 c0 n1 c1 n2 c2 n3 c4 n4 c5:Nat) (q0:LV) (q1:LV) (q2:LV) (q3:LV) (q4:LV) {v:Value} (hm:RX pu n z0 s0 s1 n0 c0 n1 c1 n2 c2 n3 c4 n4 c5 q0 q1 q2 q3 q4=some v):BN tt (Bb tabs isP pu (inl pu)) 2 SK (fr 49 [(1,(pt 2 0)),(3,(pt 3 0))]) (hT 9 [(.cells Ay true false []),(oC [zI z0,Sl.v 1 s0,Sl.v 1 s1]),(oC [sc 4 0 1 n0 c0,sc 5 0 1 n1 c1,sc 6 0 1 n2 c2,sc 7 0 1 n3 c4,sc 8 0 1 n4 c5]),oC q0,oC q1,oC q2,oC q3,oC q4]) (Fin tt 2 [.tmp 2] v):=by
 unfold RX at hm
 refine .then (.rK ?_)
 replace hm:=Ae hm;obtain⟨h0,hm⟩:=hm
 replace hm:=Ae hm;obtain⟨h1,hm⟩:=hm
 replace hm:=Ae hm;obtain⟨h2,hm⟩:=hm
 replace hm:=Ae hm;obtain⟨h3,hm⟩:=hm
 replace hm:=Ae hm;obtain⟨h4,hm⟩:=hm
 refine .ghs (fr 49 [(1,(pt 2 0)),(3,(pt 3 0)),(6,(.slice none 0 0))]) (hT 9 [(.cells Ay true false []),(oC [zI z0,Sl.v 1 s0,Sl.v 1 s1]),(oC [sc 4 0 1 n0 c0,sc 5 0 1 n1 c1,sc 6 0 1 n2 c2,sc 7 0 1 n3 c4,sc 8 0 1 n4 c5]),oC q0,oC q1,oC q2,oC q3,oC q4]) (.k [4,5,6,7,8] [false,false] [.tmp 1 false,.tmp 3 true,.cell 3 0 false,.cell 3 1 false,.cell 3 2 false,.cell 3 3 false,.cell 3 4 false] [1,3,6] ⟨AO h0,AO h1,AO h2,AO h3,AO h4,trivial⟩) ?_
 refine .join (v:=v) (fun y:Nat×Nat×LV=>((fr 49 [(6,(sc 2 0 1 y.1 y.2.1))]),(hT 3 [(.cells Ay true false []),(oC y.2.2)]))) (fun y=>RU pu n y.1 y.2.1 y.2.2) ?_ ?_
 ·rintro⟨n5,c6,q5⟩ hm
  exact AbD pu n n5 c6 q5 hm
 ·refine .then (.rK (.ghs (fr 49 [(3,(pt 2 0)),(6,(.slice none 0 0)),(27,Sl.v 1 s1),(28,(zI (Int.ofNat (Sl.n s1)))),(29,(zI (0:Int)))]) (hT 8 [(.cells Ay true false []),(oC [sc 3 0 1 n0 c0,sc 4 0 1 n1 c1,sc 5 0 1 n2 c2,sc 6 0 1 n3 c4,sc 7 0 1 n4 c5]),oC q0,oC q1,oC q2,oC q3,oC q4]) (.k [4,5,6,7,8] [false,false] [.tmp 3 true,.cell 2 0 false,.cell 2 1 false,.cell 2 2 false,.cell 2 3 false,.cell 2 4 false] [3,6,27,28,29] ⟨AO h0,AO h1,AO h2,AO h3,AO h4,trivial⟩) ?_))
  refine .block (.loopM (v:=v) (fun y:Nat×Nat×Sl×Int×Int×Nat×Nat×Nat×Nat×Nat×Nat×Nat×Nat×Nat×Nat×Nat×Nat×Nat×Nat×Nat×LV×LV×LV×LV×LV×LV=>((fr 49 [(3,(pt 2 0)),(6,(sc 3 0 1 y.1 y.2.1)),(27,(Sl.v 1 y.2.2.1)),(28,(zI y.2.2.2.1)),(29,(zI y.2.2.2.2.1))]),(hT 9 [(.cells Ay true false []),(oC [(.slice (some ⟨4,y.2.2.2.2.2.1,some 1⟩) y.2.2.2.2.2.2.1 y.2.2.2.2.2.2.2.1),(.slice (some ⟨5,y.2.2.2.2.2.2.2.2.1,some 1⟩) y.2.2.2.2.2.2.2.2.2.1 y.2.2.2.2.2.2.2.2.2.2.1),(.slice (some ⟨6,y.2.2.2.2.2.2.2.2.2.2.2.1,some 1⟩) y.2.2.2.2.2.2.2.2.2.2.2.2.1 y.2.2.2.2.2.2.2.2.2.2.2.2.2.1),(.slice (some ⟨7,y.2.2.2.2.2.2.2.2.2.2.2.2.2.2.1,some 1⟩) y.2.2.2.2.2.2.2.2.2.2.2.2.2.2.2.1 y.2.2.2.2.2.2.2.2.2.2.2.2.2.2.2.2.1),(.slice (some ⟨8,y.2.2.2.2.2.2.2.2.2.2.2.2.2.2.2.2.2.1,some 1⟩) y.2.2.2.2.2.2.2.2.2.2.2.2.2.2.2.2.2.2.1 y.2.2.2.2.2.2.2.2.2.2.2.2.2.2.2.2.2.2.2.1)]),(oC y.2.2.2.2.2.2.2.2.2.2.2.2.2.2.2.2.2.2.2.2.1),(oC y.2.2.2.2.2.2.2.2.2.2.2.2.2.2.2.2.2.2.2.2.2.1),(oC y.2.2.2.2.2.2.2.2.2.2.2.2.2.2.2.2.2.2.2.2.2.2.1),(oC y.2.2.2.2.2.2.2.2.2.2.2.2.2.2.2.2.2.2.2.2.2.2.2.1),(oC y.2.2.2.2.2.2.2.2.2.2.2.2.2.2.2.2.2.2.2.2.2.2.2.2.1),(oC y.2.2.2.2.2.2.2.2.2.2.2.2.2.2.2.2.2.2.2.2.2.2.2.2.2)]))) (fun w y=>UD pu n w y.1 y.2.1 y.2.2.1 y.2.2.2.1 y.2.2.2.2.1 y.2.2.2.2.2.1 y.2.2.2.2.2.2.1 y.2.2.2.2.2.2.2.1 y.2.2.2.2.2.2.2.2.1 y.2.2.2.2.2.2.2.2.2.1 y.2.2.2.2.2.2.2.2.2.2.1 y.2.2.2.2.2.2.2.2.2.2.2.1 y.2.2.2.2.2.2.2.2.2.2.2.2.1 y.2.2.2.2.2.2.2.2.2.2.2.2.2.1 y.2.2.2.2.2.2.2.2.2.2.2.2.2.2.1 y.2.2.2.2.2.2.2.2.2.2.2.2.2.2.2.1 y.2.2.2.2.2.2.2.2.2.2.2.2.2.2.2.2.1 y.2.2.2.2.2.2.2.2.2.2.2.2.2.2.2.2.2.1 y.2.2.2.2.2.2.2.2.2.2.2.2.2.2.2.2.2.2.1 y.2.2.2.2.2.2.2.2.2.2.2.2.2.2.2.2.2.2.2.1 y.2.2.2.2.2.2.2.2.2.2.2.2.2.2.2.2.2.2.2.2.1 y.2.2.2.2.2.2.2.2.2.2.2.2.2.2.2.2.2.2.2.2.2.1 y.2.2.2.2.2.2.2.2.2.2.2.2.2.2.2.2.2.2.2.2.2.2.1 y.2.2.2.2.2.2.2.2.2.2.2.2.2.2.2.2.2.2.2.2.2.2.2.1 y.2.2.2.2.2.2.2.2.2.2.2.2.2.2.2.2.2.2.2.2.2.2.2.2.1 y.2.2.2.2.2.2.2.2.2.2.2.2.2.2.2.2.2.2.2.2.2.2.2.2.2) n ⟨(0,0,s1,(Int.ofNat (Sl.n s1)),(0:Int),0,n0,c0,0,n1,c1,0,n2,c2,0,n3,c4,0,n4,c5,([]:LV),q0,q1,q2,q3,q4),hm,(.thaw 6 1 (by kernel_rfl) (.k [3,4,5,6,7] [false,false] [.tmp 3 true,.tmp 6 false,.cell 2 0 false,.cell 2 1 false,.cell 2 2 false,.cell 2 3 false,.cell 2 4 false] [3,6,27,28,29] ⟨AO h0,AO h1,AO h2,AO h3,AO h4,trivial⟩))⟩ (fun _=>rfl) ?_)
  rintro w0 ⟨n6,c7,s2,z1,z2,n7,n8,c8,n9,n10,c9,n11,n12,c16,n13,n14,c17,n15,n16,c18,q6,q7,q8,q9,q10,q11⟩ hm
  replace hm:UC pu n (UD pu n w0) n6 c7 s2 z1 z2 n7 n8 c8 n9 n10 c9 n11 n12 c16 n13 n14 c17 n15 n16 c18 q6 q7 q8 q9 q10 q11=some v:=hm
  unfold UC at hm
  refine .then (.rK ?_)
  replace hm:=Ae hm;obtain⟨h5,hm⟩:=hm
  replace hm:=Ae hm;obtain⟨h6,hm⟩:=hm
  replace hm:=Ae hm;obtain⟨h7,hm⟩:=hm
  replace hm:=Ae hm;obtain⟨h8,hm⟩:=hm
  replace hm:=Ae hm;obtain⟨h9,hm⟩:=hm
  replace hm:=Ae hm;obtain⟨h10,hm⟩:=hm
  refine .ghs (fr 49 [(3,(pt 2 0)),(6,sc 3 0 1 n6 c7),(27,Sl.v 1 s2),(28,zI z1),(29,zI z2),(30,(zB (AY z2 z1)))]) (hT 9 [(.cells Ay true false []),(oC [(.slice (some ⟨4,n7,some 1⟩) n8 c8),(.slice (some ⟨5,n9,some 1⟩) n10 c9),(.slice (some ⟨6,n11,some 1⟩) n12 c16),(.slice (some ⟨7,n13,some 1⟩) n14 c17),(.slice (some ⟨8,n15,some 1⟩) n16 c18)]),oC q6,oC q7,oC q8,oC q9,oC q10,oC q11]) (.k [3,4,5,6,7,8] [false,false] [.tmp 3 true,.tmp 6 false,.cell 2 0 false,.cell 2 1 false,.cell 2 2 false,.cell 2 3 false,.cell 2 4 false] [3,6,27,28,29,30] ⟨AO h5,AO h6,AO h7,AO h8,AO h9,AO h10,trivial⟩) ?_
  refine .then ?_
  replace hm:=Ag hm;rcases hm with⟨h11,hm⟩ | ⟨h11,hm⟩
  ·refine Dr (AY z2 z1) h11 ?_
   refine .skip (.ghs (fr 49 [(3,(pt 2 0)),(6,sc 3 0 1 n6 c7),(27,Sl.v 1 s2),(28,zI z1),(29,zI z2)]) (hT 9 [(.cells Ay true false []),(oC [(.slice (some ⟨4,n7,some 1⟩) n8 c8),(.slice (some ⟨5,n9,some 1⟩) n10 c9),(.slice (some ⟨6,n11,some 1⟩) n12 c16),(.slice (some ⟨7,n13,some 1⟩) n14 c17),(.slice (some ⟨8,n15,some 1⟩) n16 c18)]),oC q6,oC q7,oC q8,oC q9,oC q10,oC q11]) (.k [3,4,5,6,7,8] [false,false] [.tmp 3 true,.tmp 6 false,.cell 2 0 false,.cell 2 1 false,.cell 2 2 false,.cell 2 3 false,.cell 2 4 false] [3,6,27,28,29] ⟨AO h5,AO h6,AO h7,AO h8,AO h9,AO h10,trivial⟩) ?_)
   refine .then (.block (.then ?_))
   replace hm:=Ab hm;obtain⟨k1,h12,hm⟩:=hm
   obtain rfl:=AR h12
   replace hm:=Ae hm;obtain⟨h13,hm⟩:=hm
   replace hm:=FK hm;obtain⟨x0,h14,hm⟩:=hm
   refine .reg (eD (keep (hT 9 [(.cells Ay true false []),(oC [(.slice (some ⟨4,n7,some 1⟩) n8 c8),(.slice (some ⟨5,n9,some 1⟩) n10 c9),(.slice (some ⟨6,n11,some 1⟩) n12 c16),(.slice (some ⟨7,n13,some 1⟩) n14 c17),(.slice (some ⟨8,n15,some 1⟩) n16 c18)]),oC q6,oC q7,oC q8,oC q9,oC q10,oC q11]) (bb (an (Nat.blt k1 (Sl.n s2)) true) (some (Cv (k1*1) (Sl.cs s2))) none)) (AX h13) (eD (keep (hT 9 [(.cells Ay true false []),(oC [(.slice (some ⟨4,n7,some 1⟩) n8 c8),(.slice (some ⟨5,n9,some 1⟩) n10 c9),(.slice (some ⟨6,n11,some 1⟩) n12 c16),(.slice (some ⟨7,n13,some 1⟩) n14 c17),(.slice (some ⟨8,n15,some 1⟩) n16 c18)]),oC q6,oC q7,oC q8,oC q9,oC q10,oC q11]) (AL (Sl.cs s2) (k1*1))) (AZ h14) (eE))) ?_
   refine .ghs (fr 49 [(3,(pt 2 0)),(6,sc 3 0 1 n6 c7),(8,zI x0),(27,Sl.v 1 s2),(28,zI z1),(29,(zI (Int.ofNat k1)))]) (hT 9 [(.cells Ay true false []),(oC [(.slice (some ⟨4,n7,some 1⟩) n8 c8),(.slice (some ⟨5,n9,some 1⟩) n10 c9),(.slice (some ⟨6,n11,some 1⟩) n12 c16),(.slice (some ⟨7,n13,some 1⟩) n14 c17),(.slice (some ⟨8,n15,some 1⟩) n16 c18)]),oC q6,oC q7,oC q8,oC q9,oC q10,oC q11]) (.k [3,4,5,6,7,8] [false,false] [.tmp 3 true,.tmp 6 false,.cell 2 0 false,.cell 2 1 false,.cell 2 2 false,.cell 2 3 false,.cell 2 4 false] [3,6,8,27,28,29] ⟨AO h5,AO h6,AO h7,AO h8,AO h9,AO h10,trivial⟩) ?_
   replace hm:=Ab hm;obtain⟨k2,h15,hm⟩:=hm
   obtain rfl:=AR h15
   replace hm:=Ag hm;rcases hm with⟨h16,hm⟩ | ⟨h16,hm⟩
   ·obtain rfl:=Nat.eq_of_beq_eq_true h16
    replace hm:=Ae hm;obtain⟨h17,hm⟩:=hm
    replace hm:=Ab hm;obtain⟨v0,h18,hm⟩:=hm
    replace hm:=Ab hm;obtain⟨x1,h19,hm⟩:=hm
    obtain rfl:=Eh h19
    replace hm:=Ae hm;obtain⟨h20,hm⟩:=hm
    replace hm:=Ae hm;obtain⟨h21,hm⟩:=hm
    refine .reg (eC 5 (keep (hT 9 [(.cells Ay true false []),(oC [(.slice (some ⟨4,n7,some 1⟩) n8 c8),(.slice (some ⟨5,n9,some 1⟩) n10 c9),(.slice (some ⟨6,n11,some 1⟩) n12 c16),(.slice (some ⟨7,n13,some 1⟩) n14 c17),(.slice (some ⟨8,n15,some 1⟩) n16 c18)]),oC q6,oC q7,oC q8,oC q9,oC q10,oC q11]) (bb (an (Nat.blt 0 n8) true) (some (.pointer (some ⟨4,(n7+0*1),none⟩))) none)) (AX h17) (eD (keep (hT 9 [(.cells Ay true false []),(oC [(.slice (some ⟨4,n7,some 1⟩) n8 c8),(.slice (some ⟨5,n9,some 1⟩) n10 c9),(.slice (some ⟨6,n11,some 1⟩) n12 c16),(.slice (some ⟨7,n13,some 1⟩) n14 c17),(.slice (some ⟨8,n15,some 1⟩) n16 c18)]),oC q6,oC q7,oC q8,oC q9,oC q10,oC q11]) (AL q7 (n7+0*1))) (AZ h18) (eC 4 (keep (hT 10 [(.cells Ay true false []),(oC [(.slice (some ⟨4,n7,some 1⟩) n8 c8),(.slice (some ⟨5,n9,some 1⟩) n10 c9),(.slice (some ⟨6,n11,some 1⟩) n12 c16),(.slice (some ⟨7,n13,some 1⟩) n14 c17),(.slice (some ⟨8,n15,some 1⟩) n16 c18)]),oC q6,oC q7,oC q8,oC q9,oC q10,oC q11,(oC [zI x1])]) (oo (bb (Nat.ble 1 n8) (some 1) none) none fun l=>some (sliceAt 4 (n7+l*1) 1 (n8 - l) (c8 / 2 - l) (Dp false (Nat.beq (c8 % 2) 1))))) (show _=some ((.slice (some ⟨4,(n7+1*1),some 1⟩) (n8 - 1) (2*(c8 / 2 - 1)+bb (Dp false (Nat.beq (c8 % 2) 1)) 1 0)),(hT 10 [(.cells Ay true false []),(oC [(.slice (some ⟨4,n7,some 1⟩) n8 c8),(.slice (some ⟨5,n9,some 1⟩) n10 c9),(.slice (some ⟨6,n11,some 1⟩) n12 c16),(.slice (some ⟨7,n13,some 1⟩) n14 c17),(.slice (some ⟨8,n15,some 1⟩) n16 c18)]),oC q6,oC q7,oC q8,oC q9,oC q10,oC q11,(oC [zI x1])])) from (RJ h20).trans (by kernel_rfl)) (eD (Oc 1 8 n6 c7 1 3 q6 [zI x1] [] (hT 10 [(.cells Ay true false []),(oC [(.slice (some ⟨4,n7,some 1⟩) n8 c8),(.slice (some ⟨5,n9,some 1⟩) n10 c9),(.slice (some ⟨6,n11,some 1⟩) n12 c16),(.slice (some ⟨7,n13,some 1⟩) n14 c17),(.slice (some ⟨8,n15,some 1⟩) n16 c18)]),oC q6,oC q7,oC q8,oC q9,oC q10,oC q11,(oC [zI x1])])) (I1 h21) (eE))))) ?_
    replace hm:=Ae hm;obtain⟨h22,hm⟩:=hm
    refine .ghs (fr 49 [(3,(pt 2 0)),(6,(sc 3 0 1 (n6+1) (d2 (n6+1)))),(27,Sl.v 1 s2),(28,zI z1),(29,(zI (Int.ofNat k1)))]) (hT 9 [(.cells Ay true false []),(oC [(.slice (some ⟨4,(n7+1*1),some 1⟩) (n8 - 1) (2*(c8 / 2 - 1)+bb (Dp false (Nat.beq (c8 % 2) 1)) 1 0)),(.slice (some ⟨5,n9,some 1⟩) n10 c9),(.slice (some ⟨6,n11,some 1⟩) n12 c16),(.slice (some ⟨7,n13,some 1⟩) n14 c17),(.slice (some ⟨8,n15,some 1⟩) n16 c18)]),(oC (Br (Am 0 q6) [zI x1])),oC q7,oC q8,oC q9,oC q10,oC q11]) (.k [10,4,5,6,7,8] [false,false] [.tmp 3 true,.tmp 6 false,.cell 2 0 false,.cell 2 1 false,.cell 2 2 false,.cell 2 3 false,.cell 2 4 false] [3,6,27,28,29] ⟨AO h22,AO h6,AO h7,AO h8,AO h9,AO h10,trivial⟩) ?_
    refine .rK ?_
    exact⟨((n6+1),(d2 (n6+1)),s2,z1,(Aj .i64 (Int.add (Int.ofNat k1) (1:Int))),(n7+1*1),(n8 - 1),(2*(c8 / 2 - 1)+bb (Dp false (Nat.beq (c8 % 2) 1)) 1 0),n9,n10,c9,n11,n12,c16,n13,n14,c17,n15,n16,c18,(Br (Am 0 q6) [zI x1]),q7,q8,q9,q10,q11),hm,(.k [3,4,5,6,7,8] [false,false] [.tmp 3 true,.tmp 6 false,.cell 2 0 false,.cell 2 1 false,.cell 2 2 false,.cell 2 3 false,.cell 2 4 false] [3,6,27,28,29] ⟨AO h22,AO h6,AO h7,AO h8,AO h9,AO h10,trivial⟩)⟩
   ·replace hm:=Ag hm;rcases hm with⟨h17,hm⟩ | ⟨h17,hm⟩
    ·obtain rfl:=Nat.eq_of_beq_eq_true h17
     replace hm:=Ae hm;obtain⟨h23,hm⟩:=hm
     replace hm:=Ab hm;obtain⟨v1,h24,hm⟩:=hm
     replace hm:=Ab hm;obtain⟨x2,h20,hm⟩:=hm
     obtain rfl:=Eh h20
     replace hm:=Ae hm;obtain⟨h21,hm⟩:=hm
     replace hm:=Ae hm;obtain⟨h25,hm⟩:=hm
     refine .reg (eC 5 (keep (hT 9 [(.cells Ay true false []),(oC [(.slice (some ⟨4,n7,some 1⟩) n8 c8),(.slice (some ⟨5,n9,some 1⟩) n10 c9),(.slice (some ⟨6,n11,some 1⟩) n12 c16),(.slice (some ⟨7,n13,some 1⟩) n14 c17),(.slice (some ⟨8,n15,some 1⟩) n16 c18)]),oC q6,oC q7,oC q8,oC q9,oC q10,oC q11]) (bb (an (Nat.blt 0 n10) true) (some (.pointer (some ⟨5,(n9+0*1),none⟩))) none)) (AX h23) (eD (keep (hT 9 [(.cells Ay true false []),(oC [(.slice (some ⟨4,n7,some 1⟩) n8 c8),(.slice (some ⟨5,n9,some 1⟩) n10 c9),(.slice (some ⟨6,n11,some 1⟩) n12 c16),(.slice (some ⟨7,n13,some 1⟩) n14 c17),(.slice (some ⟨8,n15,some 1⟩) n16 c18)]),oC q6,oC q7,oC q8,oC q9,oC q10,oC q11]) (AL q8 (n9+0*1))) (AZ h24) (eC 4 (keep (hT 10 [(.cells Ay true false []),(oC [(.slice (some ⟨4,n7,some 1⟩) n8 c8),(.slice (some ⟨5,n9,some 1⟩) n10 c9),(.slice (some ⟨6,n11,some 1⟩) n12 c16),(.slice (some ⟨7,n13,some 1⟩) n14 c17),(.slice (some ⟨8,n15,some 1⟩) n16 c18)]),oC q6,oC q7,oC q8,oC q9,oC q10,oC q11,(oC [zI x2])]) (oo (bb (Nat.ble 1 n10) (some 1) none) none fun l=>some (sliceAt 5 (n9+l*1) 1 (n10 - l) (c9 / 2 - l) (Dp false (Nat.beq (c9 % 2) 1))))) (show _=some ((.slice (some ⟨5,(n9+1*1),some 1⟩) (n10 - 1) (2*(c9 / 2 - 1)+bb (Dp false (Nat.beq (c9 % 2) 1)) 1 0)),(hT 10 [(.cells Ay true false []),(oC [(.slice (some ⟨4,n7,some 1⟩) n8 c8),(.slice (some ⟨5,n9,some 1⟩) n10 c9),(.slice (some ⟨6,n11,some 1⟩) n12 c16),(.slice (some ⟨7,n13,some 1⟩) n14 c17),(.slice (some ⟨8,n15,some 1⟩) n16 c18)]),oC q6,oC q7,oC q8,oC q9,oC q10,oC q11,(oC [zI x2])])) from (RJ h21).trans (by kernel_rfl)) (eD (Oc 1 8 n6 c7 1 3 q6 [zI x2] [] (hT 10 [(.cells Ay true false []),(oC [(.slice (some ⟨4,n7,some 1⟩) n8 c8),(.slice (some ⟨5,n9,some 1⟩) n10 c9),(.slice (some ⟨6,n11,some 1⟩) n12 c16),(.slice (some ⟨7,n13,some 1⟩) n14 c17),(.slice (some ⟨8,n15,some 1⟩) n16 c18)]),oC q6,oC q7,oC q8,oC q9,oC q10,oC q11,(oC [zI x2])])) (I1 h25) (eE))))) ?_
     replace hm:=Ae hm;obtain⟨h26,hm⟩:=hm
     refine .ghs (fr 49 [(3,(pt 2 0)),(6,(sc 3 0 1 (n6+1) (d2 (n6+1)))),(27,Sl.v 1 s2),(28,zI z1),(29,(zI (Int.ofNat k1)))]) (hT 9 [(.cells Ay true false []),(oC [(.slice (some ⟨4,n7,some 1⟩) n8 c8),(.slice (some ⟨5,(n9+1*1),some 1⟩) (n10 - 1) (2*(c9 / 2 - 1)+bb (Dp false (Nat.beq (c9 % 2) 1)) 1 0)),(.slice (some ⟨6,n11,some 1⟩) n12 c16),(.slice (some ⟨7,n13,some 1⟩) n14 c17),(.slice (some ⟨8,n15,some 1⟩) n16 c18)]),(oC (Br (Am 0 q6) [zI x2])),oC q7,oC q8,oC q9,oC q10,oC q11]) (.k [10,4,5,6,7,8] [false,false] [.tmp 3 true,.tmp 6 false,.cell 2 0 false,.cell 2 1 false,.cell 2 2 false,.cell 2 3 false,.cell 2 4 false] [3,6,27,28,29] ⟨AO h26,AO h6,AO h7,AO h8,AO h9,AO h10,trivial⟩) ?_
     refine .rK ?_
     exact⟨((n6+1),(d2 (n6+1)),s2,z1,(Aj .i64 (Int.add (Int.ofNat k1) (1:Int))),n7,n8,c8,(n9+1*1),(n10 - 1),(2*(c9 / 2 - 1)+bb (Dp false (Nat.beq (c9 % 2) 1)) 1 0),n11,n12,c16,n13,n14,c17,n15,n16,c18,(Br (Am 0 q6) [zI x2]),q7,q8,q9,q10,q11),hm,(.k [3,4,5,6,7,8] [false,false] [.tmp 3 true,.tmp 6 false,.cell 2 0 false,.cell 2 1 false,.cell 2 2 false,.cell 2 3 false,.cell 2 4 false] [3,6,27,28,29] ⟨AO h26,AO h6,AO h7,AO h8,AO h9,AO h10,trivial⟩)⟩
    ·replace hm:=Ag hm;rcases hm with⟨h23,hm⟩ | ⟨h23,hm⟩
     ·obtain rfl:=Nat.eq_of_beq_eq_true h23
      replace hm:=Ae hm;obtain⟨h18,hm⟩:=hm
      replace hm:=Ab hm;obtain⟨v2,h19,hm⟩:=hm
      replace hm:=Ab hm;obtain⟨x3,h21,hm⟩:=hm
      obtain rfl:=Eh h21
      replace hm:=Ae hm;obtain⟨h25,hm⟩:=hm
      replace hm:=Ae hm;obtain⟨h27,hm⟩:=hm
      refine .reg (eC 5 (keep (hT 9 [(.cells Ay true false []),(oC [(.slice (some ⟨4,n7,some 1⟩) n8 c8),(.slice (some ⟨5,n9,some 1⟩) n10 c9),(.slice (some ⟨6,n11,some 1⟩) n12 c16),(.slice (some ⟨7,n13,some 1⟩) n14 c17),(.slice (some ⟨8,n15,some 1⟩) n16 c18)]),oC q6,oC q7,oC q8,oC q9,oC q10,oC q11]) (bb (an (Nat.blt 0 n12) true) (some (.pointer (some ⟨6,(n11+0*1),none⟩))) none)) (AX h18) (eD (keep (hT 9 [(.cells Ay true false []),(oC [(.slice (some ⟨4,n7,some 1⟩) n8 c8),(.slice (some ⟨5,n9,some 1⟩) n10 c9),(.slice (some ⟨6,n11,some 1⟩) n12 c16),(.slice (some ⟨7,n13,some 1⟩) n14 c17),(.slice (some ⟨8,n15,some 1⟩) n16 c18)]),oC q6,oC q7,oC q8,oC q9,oC q10,oC q11]) (AL q9 (n11+0*1))) (AZ h19) (eC 4 (keep (hT 10 [(.cells Ay true false []),(oC [(.slice (some ⟨4,n7,some 1⟩) n8 c8),(.slice (some ⟨5,n9,some 1⟩) n10 c9),(.slice (some ⟨6,n11,some 1⟩) n12 c16),(.slice (some ⟨7,n13,some 1⟩) n14 c17),(.slice (some ⟨8,n15,some 1⟩) n16 c18)]),oC q6,oC q7,oC q8,oC q9,oC q10,oC q11,(oC [zI x3])]) (oo (bb (Nat.ble 1 n12) (some 1) none) none fun l=>some (sliceAt 6 (n11+l*1) 1 (n12 - l) (c16 / 2 - l) (Dp false (Nat.beq (c16 % 2) 1))))) (show _=some ((.slice (some ⟨6,(n11+1*1),some 1⟩) (n12 - 1) (2*(c16 / 2 - 1)+bb (Dp false (Nat.beq (c16 % 2) 1)) 1 0)),(hT 10 [(.cells Ay true false []),(oC [(.slice (some ⟨4,n7,some 1⟩) n8 c8),(.slice (some ⟨5,n9,some 1⟩) n10 c9),(.slice (some ⟨6,n11,some 1⟩) n12 c16),(.slice (some ⟨7,n13,some 1⟩) n14 c17),(.slice (some ⟨8,n15,some 1⟩) n16 c18)]),oC q6,oC q7,oC q8,oC q9,oC q10,oC q11,(oC [zI x3])])) from (RJ h25).trans (by kernel_rfl)) (eD (Oc 1 8 n6 c7 1 3 q6 [zI x3] [] (hT 10 [(.cells Ay true false []),(oC [(.slice (some ⟨4,n7,some 1⟩) n8 c8),(.slice (some ⟨5,n9,some 1⟩) n10 c9),(.slice (some ⟨6,n11,some 1⟩) n12 c16),(.slice (some ⟨7,n13,some 1⟩) n14 c17),(.slice (some ⟨8,n15,some 1⟩) n16 c18)]),oC q6,oC q7,oC q8,oC q9,oC q10,oC q11,(oC [zI x3])])) (I1 h27) (eE))))) ?_
      replace hm:=Ae hm;obtain⟨h28,hm⟩:=hm
      refine .ghs (fr 49 [(3,(pt 2 0)),(6,(sc 3 0 1 (n6+1) (d2 (n6+1)))),(27,Sl.v 1 s2),(28,zI z1),(29,(zI (Int.ofNat k1)))]) (hT 9 [(.cells Ay true false []),(oC [(.slice (some ⟨4,n7,some 1⟩) n8 c8),(.slice (some ⟨5,n9,some 1⟩) n10 c9),(.slice (some ⟨6,(n11+1*1),some 1⟩) (n12 - 1) (2*(c16 / 2 - 1)+bb (Dp false (Nat.beq (c16 % 2) 1)) 1 0)),(.slice (some ⟨7,n13,some 1⟩) n14 c17),(.slice (some ⟨8,n15,some 1⟩) n16 c18)]),(oC (Br (Am 0 q6) [zI x3])),oC q7,oC q8,oC q9,oC q10,oC q11]) (.k [10,4,5,6,7,8] [false,false] [.tmp 3 true,.tmp 6 false,.cell 2 0 false,.cell 2 1 false,.cell 2 2 false,.cell 2 3 false,.cell 2 4 false] [3,6,27,28,29] ⟨AO h28,AO h6,AO h7,AO h8,AO h9,AO h10,trivial⟩) ?_
      refine .rK ?_
      exact⟨((n6+1),(d2 (n6+1)),s2,z1,(Aj .i64 (Int.add (Int.ofNat k1) (1:Int))),n7,n8,c8,n9,n10,c9,(n11+1*1),(n12 - 1),(2*(c16 / 2 - 1)+bb (Dp false (Nat.beq (c16 % 2) 1)) 1 0),n13,n14,c17,n15,n16,c18,(Br (Am 0 q6) [zI x3]),q7,q8,q9,q10,q11),hm,(.k [3,4,5,6,7,8] [false,false] [.tmp 3 true,.tmp 6 false,.cell 2 0 false,.cell 2 1 false,.cell 2 2 false,.cell 2 3 false,.cell 2 4 false] [3,6,27,28,29] ⟨AO h28,AO h6,AO h7,AO h8,AO h9,AO h10,trivial⟩)⟩
     ·replace hm:=Ag hm;rcases hm with⟨h18,hm⟩ | ⟨h18,hm⟩
      ·obtain rfl:=Nat.eq_of_beq_eq_true h18
       replace hm:=Ae hm;obtain⟨h24,hm⟩:=hm
       replace hm:=FK hm;obtain⟨x4,h20,hm⟩:=hm
       replace hm:=Ae hm;obtain⟨h27,hm⟩:=hm
       replace hm:=Ae hm;obtain⟨h29,hm⟩:=hm
       refine .reg (eC 5 (keep (hT 9 [(.cells Ay true false []),(oC [(.slice (some ⟨4,n7,some 1⟩) n8 c8),(.slice (some ⟨5,n9,some 1⟩) n10 c9),(.slice (some ⟨6,n11,some 1⟩) n12 c16),(.slice (some ⟨7,n13,some 1⟩) n14 c17),(.slice (some ⟨8,n15,some 1⟩) n16 c18)]),oC q6,oC q7,oC q8,oC q9,oC q10,oC q11]) (bb (an (Nat.blt 0 n14) true) (some (.pointer (some ⟨7,(n13+0*1),none⟩))) none)) (AX h24) (eD (keep (hT 9 [(.cells Ay true false []),(oC [(.slice (some ⟨4,n7,some 1⟩) n8 c8),(.slice (some ⟨5,n9,some 1⟩) n10 c9),(.slice (some ⟨6,n11,some 1⟩) n12 c16),(.slice (some ⟨7,n13,some 1⟩) n14 c17),(.slice (some ⟨8,n15,some 1⟩) n16 c18)]),oC q6,oC q7,oC q8,oC q9,oC q10,oC q11]) (AL q10 (n13+0*1))) (AZ h20) (eC 4 (keep (hT 10 [(.cells Ay true false []),(oC [(.slice (some ⟨4,n7,some 1⟩) n8 c8),(.slice (some ⟨5,n9,some 1⟩) n10 c9),(.slice (some ⟨6,n11,some 1⟩) n12 c16),(.slice (some ⟨7,n13,some 1⟩) n14 c17),(.slice (some ⟨8,n15,some 1⟩) n16 c18)]),oC q6,oC q7,oC q8,oC q9,oC q10,oC q11,(oC [zI x4])]) (oo (bb (Nat.ble 1 n14) (some 1) none) none fun l=>some (sliceAt 7 (n13+l*1) 1 (n14 - l) (c17 / 2 - l) (Dp false (Nat.beq (c17 % 2) 1))))) (show _=some ((.slice (some ⟨7,(n13+1*1),some 1⟩) (n14 - 1) (2*(c17 / 2 - 1)+bb (Dp false (Nat.beq (c17 % 2) 1)) 1 0)),(hT 10 [(.cells Ay true false []),(oC [(.slice (some ⟨4,n7,some 1⟩) n8 c8),(.slice (some ⟨5,n9,some 1⟩) n10 c9),(.slice (some ⟨6,n11,some 1⟩) n12 c16),(.slice (some ⟨7,n13,some 1⟩) n14 c17),(.slice (some ⟨8,n15,some 1⟩) n16 c18)]),oC q6,oC q7,oC q8,oC q9,oC q10,oC q11,(oC [zI x4])])) from (RJ h27).trans (by kernel_rfl)) (eD (Oc 1 8 n6 c7 1 3 q6 [zI x4] [] (hT 10 [(.cells Ay true false []),(oC [(.slice (some ⟨4,n7,some 1⟩) n8 c8),(.slice (some ⟨5,n9,some 1⟩) n10 c9),(.slice (some ⟨6,n11,some 1⟩) n12 c16),(.slice (some ⟨7,n13,some 1⟩) n14 c17),(.slice (some ⟨8,n15,some 1⟩) n16 c18)]),oC q6,oC q7,oC q8,oC q9,oC q10,oC q11,(oC [zI x4])])) (I1 h29) (eE))))) ?_
       replace hm:=Ae hm;obtain⟨h30,hm⟩:=hm
       refine .ghs (fr 49 [(3,(pt 2 0)),(6,(sc 3 0 1 (n6+1) (d2 (n6+1)))),(27,Sl.v 1 s2),(28,zI z1),(29,(zI (Int.ofNat k1)))]) (hT 9 [(.cells Ay true false []),(oC [(.slice (some ⟨4,n7,some 1⟩) n8 c8),(.slice (some ⟨5,n9,some 1⟩) n10 c9),(.slice (some ⟨6,n11,some 1⟩) n12 c16),(.slice (some ⟨7,(n13+1*1),some 1⟩) (n14 - 1) (2*(c17 / 2 - 1)+bb (Dp false (Nat.beq (c17 % 2) 1)) 1 0)),(.slice (some ⟨8,n15,some 1⟩) n16 c18)]),(oC (Br (Am 0 q6) [zI x4])),oC q7,oC q8,oC q9,oC q10,oC q11]) (.k [10,4,5,6,7,8] [false,false] [.tmp 3 true,.tmp 6 false,.cell 2 0 false,.cell 2 1 false,.cell 2 2 false,.cell 2 3 false,.cell 2 4 false] [3,6,27,28,29] ⟨AO h30,AO h6,AO h7,AO h8,AO h9,AO h10,trivial⟩) ?_
       refine .rK ?_
       exact⟨((n6+1),(d2 (n6+1)),s2,z1,(Aj .i64 (Int.add (Int.ofNat k1) (1:Int))),n7,n8,c8,n9,n10,c9,n11,n12,c16,(n13+1*1),(n14 - 1),(2*(c17 / 2 - 1)+bb (Dp false (Nat.beq (c17 % 2) 1)) 1 0),n15,n16,c18,(Br (Am 0 q6) [zI x4]),q7,q8,q9,q10,q11),hm,(.k [3,4,5,6,7,8] [false,false] [.tmp 3 true,.tmp 6 false,.cell 2 0 false,.cell 2 1 false,.cell 2 2 false,.cell 2 3 false,.cell 2 4 false] [3,6,27,28,29] ⟨AO h30,AO h6,AO h7,AO h8,AO h9,AO h10,trivial⟩)⟩
      ·replace hm:=Ag hm;rcases hm with⟨h24,hm⟩ | ⟨h24,hm⟩
       ·obtain rfl:=Nat.eq_of_beq_eq_true h24
        replace hm:=Ae hm;obtain⟨h19,hm⟩:=hm
        replace hm:=FK hm;obtain⟨x5,h21,hm⟩:=hm
        replace hm:=Ae hm;obtain⟨h29,hm⟩:=hm
        replace hm:=Ae hm;obtain⟨h31,hm⟩:=hm
        refine .reg (eC 5 (keep (hT 9 [(.cells Ay true false []),(oC [(.slice (some ⟨4,n7,some 1⟩) n8 c8),(.slice (some ⟨5,n9,some 1⟩) n10 c9),(.slice (some ⟨6,n11,some 1⟩) n12 c16),(.slice (some ⟨7,n13,some 1⟩) n14 c17),(.slice (some ⟨8,n15,some 1⟩) n16 c18)]),oC q6,oC q7,oC q8,oC q9,oC q10,oC q11]) (bb (an (Nat.blt 0 n16) true) (some (.pointer (some ⟨8,(n15+0*1),none⟩))) none)) (AX h19) (eD (keep (hT 9 [(.cells Ay true false []),(oC [(.slice (some ⟨4,n7,some 1⟩) n8 c8),(.slice (some ⟨5,n9,some 1⟩) n10 c9),(.slice (some ⟨6,n11,some 1⟩) n12 c16),(.slice (some ⟨7,n13,some 1⟩) n14 c17),(.slice (some ⟨8,n15,some 1⟩) n16 c18)]),oC q6,oC q7,oC q8,oC q9,oC q10,oC q11]) (AL q11 (n15+0*1))) (AZ h21) (eC 4 (keep (hT 10 [(.cells Ay true false []),(oC [(.slice (some ⟨4,n7,some 1⟩) n8 c8),(.slice (some ⟨5,n9,some 1⟩) n10 c9),(.slice (some ⟨6,n11,some 1⟩) n12 c16),(.slice (some ⟨7,n13,some 1⟩) n14 c17),(.slice (some ⟨8,n15,some 1⟩) n16 c18)]),oC q6,oC q7,oC q8,oC q9,oC q10,oC q11,(oC [zI x5])]) (oo (bb (Nat.ble 1 n16) (some 1) none) none fun l=>some (sliceAt 8 (n15+l*1) 1 (n16 - l) (c18 / 2 - l) (Dp false (Nat.beq (c18 % 2) 1))))) (show _=some ((.slice (some ⟨8,(n15+1*1),some 1⟩) (n16 - 1) (2*(c18 / 2 - 1)+bb (Dp false (Nat.beq (c18 % 2) 1)) 1 0)),(hT 10 [(.cells Ay true false []),(oC [(.slice (some ⟨4,n7,some 1⟩) n8 c8),(.slice (some ⟨5,n9,some 1⟩) n10 c9),(.slice (some ⟨6,n11,some 1⟩) n12 c16),(.slice (some ⟨7,n13,some 1⟩) n14 c17),(.slice (some ⟨8,n15,some 1⟩) n16 c18)]),oC q6,oC q7,oC q8,oC q9,oC q10,oC q11,(oC [zI x5])])) from (RJ h29).trans (by kernel_rfl)) (eD (Oc 1 8 n6 c7 1 3 q6 [zI x5] [] (hT 10 [(.cells Ay true false []),(oC [(.slice (some ⟨4,n7,some 1⟩) n8 c8),(.slice (some ⟨5,n9,some 1⟩) n10 c9),(.slice (some ⟨6,n11,some 1⟩) n12 c16),(.slice (some ⟨7,n13,some 1⟩) n14 c17),(.slice (some ⟨8,n15,some 1⟩) n16 c18)]),oC q6,oC q7,oC q8,oC q9,oC q10,oC q11,(oC [zI x5])])) (I1 h31) (eE))))) ?_
        replace hm:=Ae hm;obtain⟨h32,hm⟩:=hm
        refine .ghs (fr 49 [(3,(pt 2 0)),(6,(sc 3 0 1 (n6+1) (d2 (n6+1)))),(27,Sl.v 1 s2),(28,zI z1),(29,(zI (Int.ofNat k1)))]) (hT 9 [(.cells Ay true false []),(oC [(.slice (some ⟨4,n7,some 1⟩) n8 c8),(.slice (some ⟨5,n9,some 1⟩) n10 c9),(.slice (some ⟨6,n11,some 1⟩) n12 c16),(.slice (some ⟨7,n13,some 1⟩) n14 c17),(.slice (some ⟨8,(n15+1*1),some 1⟩) (n16 - 1) (2*(c18 / 2 - 1)+bb (Dp false (Nat.beq (c18 % 2) 1)) 1 0))]),(oC (Br (Am 0 q6) [zI x5])),oC q7,oC q8,oC q9,oC q10,oC q11]) (.k [10,4,5,6,7,8] [false,false] [.tmp 3 true,.tmp 6 false,.cell 2 0 false,.cell 2 1 false,.cell 2 2 false,.cell 2 3 false,.cell 2 4 false] [3,6,27,28,29] ⟨AO h32,AO h6,AO h7,AO h8,AO h9,AO h10,trivial⟩) ?_
        refine .rK ?_
        exact⟨((n6+1),(d2 (n6+1)),s2,z1,(Aj .i64 (Int.add (Int.ofNat k1) (1:Int))),n7,n8,c8,n9,n10,c9,n11,n12,c16,n13,n14,c17,(n15+1*1),(n16 - 1),(2*(c18 / 2 - 1)+bb (Dp false (Nat.beq (c18 % 2) 1)) 1 0),(Br (Am 0 q6) [zI x5]),q7,q8,q9,q10,q11),hm,(.k [3,4,5,6,7,8] [false,false] [.tmp 3 true,.tmp 6 false,.cell 2 0 false,.cell 2 1 false,.cell 2 2 false,.cell 2 3 false,.cell 2 4 false] [3,6,27,28,29] ⟨AO h32,AO h6,AO h7,AO h8,AO h9,AO h10,trivial⟩)⟩
       ·cases hm
  ·refine Dy (AY z2 z1) h11 ?_
   refine .exit ?_
   exact⟨(n6,c7,q6),hm,(.k [3] [false,false] [.tmp 6 false] [6] ⟨AO h5,trivial⟩)⟩
theorem r48 {call:A8} (pu:Af) (n:Nat) (hcall:call=Bb tabs isP pu (inl pu)) {args:LV} {v:Value} (hm:m48 pu n args=some v) (_:∀ x∈args,closed2 x=true):args.length≤49∧BN tt call 2 Ov (Fr.made 49 args) (Ao tabs) (Fin tt 2 [.tmp 2] v):=by
 subst hcall
 unfold m48 at hm
 replace hm:=Ad hm;obtain⟨a0,args_0,rfl,hm⟩:=hm
 replace hm:=AC hm;obtain⟨rfl,hm⟩:=hm
 replace hm:=BG hm;obtain⟨l0,rfl,hm⟩:=hm
 replace hm:=Ad hm;obtain⟨v0,l7043_0,rfl,hm⟩:=hm
 replace hm:=Ad hm;obtain⟨v1,l7043_1,rfl,hm⟩:=hm
 replace hm:=Ad hm;obtain⟨v2,l7043_2,rfl,hm⟩:=hm
 replace hm:=AC hm;obtain⟨rfl,hm⟩:=hm
 replace hm:=Ai hm;obtain⟨x0,rfl,hm⟩:=hm
 replace hm:=Al hm;obtain⟨s0,rfl,hm⟩:=hm
 replace hm:=Al hm;obtain⟨s1,rfl,hm⟩:=hm
 unfold AbC at hm
 refine⟨by simp,?_⟩
 refine .same (F':=(fr 49 [(0,(.agg ⟨[zI x0,Sl.v 1 s0,Sl.v 1 s1]⟩))])) (H':=(hT 2 [(.cells Ay true false [])])) (by kernel_rfl) (by kernel_rfl) ?_
 refine .then (.rK (.ghs (fr 49 [(1,(pt 2 0))]) (hT 3 [(.cells Ay true false []),(oC [zI x0,Sl.v 1 s0,Sl.v 1 s1])]) (.k0 [false,false] [.tmp 1 false] [1]) ?_))
 refine .then (.rK (.ghs (fr 49 [(1,(pt 2 0)),(3,(pt 3 0))]) (hT 4 [(.cells Ay true false []),(oC [zI x0,Sl.v 1 s0,Sl.v 1 s1]),(oC [(.slice none 0 0),(.slice none 0 0),(.slice none 0 0),(.slice none 0 0),(.slice none 0 0)])]) (.k0 [false,false] [.tmp 1 false,.tmp 3 false] [1,3]) ?_))
 refine .join (v:=v) (fun y:Int×Sl×Sl×Nat×Nat×Nat×Nat×Nat×Nat×Nat×Nat×Nat×Nat×LV×LV×LV×LV×LV=>((fr 49 [(1,(pt 2 0)),(3,(pt 3 0))]),(hT 9 [(.cells Ay true false []),(oC [(zI y.1),(Sl.v 1 y.2.1),(Sl.v 1 y.2.2.1)]),(oC [(sc 4 0 1 y.2.2.2.1 y.2.2.2.2.1),(sc 5 0 1 y.2.2.2.2.2.1 y.2.2.2.2.2.2.1),(sc 6 0 1 y.2.2.2.2.2.2.2.1 y.2.2.2.2.2.2.2.2.1),(sc 7 0 1 y.2.2.2.2.2.2.2.2.2.1 y.2.2.2.2.2.2.2.2.2.2.1),(sc 8 0 1 y.2.2.2.2.2.2.2.2.2.2.2.1 y.2.2.2.2.2.2.2.2.2.2.2.2.1)]),(oC y.2.2.2.2.2.2.2.2.2.2.2.2.2.1),(oC y.2.2.2.2.2.2.2.2.2.2.2.2.2.2.1),(oC y.2.2.2.2.2.2.2.2.2.2.2.2.2.2.2.1),(oC y.2.2.2.2.2.2.2.2.2.2.2.2.2.2.2.2.1),(oC y.2.2.2.2.2.2.2.2.2.2.2.2.2.2.2.2.2)]))) (fun y=>RX pu n y.1 y.2.1 y.2.2.1 y.2.2.2.1 y.2.2.2.2.1 y.2.2.2.2.2.1 y.2.2.2.2.2.2.1 y.2.2.2.2.2.2.2.1 y.2.2.2.2.2.2.2.2.1 y.2.2.2.2.2.2.2.2.2.1 y.2.2.2.2.2.2.2.2.2.2.1 y.2.2.2.2.2.2.2.2.2.2.2.1 y.2.2.2.2.2.2.2.2.2.2.2.2.1 y.2.2.2.2.2.2.2.2.2.2.2.2.2.1 y.2.2.2.2.2.2.2.2.2.2.2.2.2.2.1 y.2.2.2.2.2.2.2.2.2.2.2.2.2.2.2.1 y.2.2.2.2.2.2.2.2.2.2.2.2.2.2.2.2.1 y.2.2.2.2.2.2.2.2.2.2.2.2.2.2.2.2.2) ?_ ?_
 ·rintro⟨z0,s2,s3,n0,c0,n1,c1,n2,c2,n3,c4,n4,c5,q0,q1,q2,q3,q4⟩ hm
  exact AbE pu n z0 s2 s3 n0 c0 n1 c1 n2 c2 n3 c4 n4 c5 q0 q1 q2 q3 q4 hm
 ·refine .then (.rK (.ghs (fr 49 [(1,(pt 2 0)),(3,(pt 3 0)),(10,Sl.v 1 s0),(11,(zI (Int.ofNat (Sl.n s0)))),(12,(zI (0:Int)))]) (hT 4 [(.cells Ay true false []),(oC [zI x0,Sl.v 1 s0,Sl.v 1 s1]),(oC [(.slice none 0 0),(.slice none 0 0),(.slice none 0 0),(.slice none 0 0),(.slice none 0 0)])]) (.k0 [false,false] [.tmp 1 false,.tmp 3 false] [1,3,10,11,12]) ?_))
  refine .block (.loopM (v:=v) (fun y:Sl×Int×Int×Int×Sl×Sl×Nat×Nat×Nat×Nat×Nat×Nat×Nat×Nat×Nat×Nat×LV×LV×LV×LV×LV=>((fr 49 [(1,(pt 2 0)),(3,(pt 3 0)),(10,(Sl.v 1 y.1)),(11,(zI y.2.1)),(12,(zI y.2.2.1))]),(hT 9 [(.cells Ay true false []),(oC [(zI y.2.2.2.1),(Sl.v 1 y.2.2.2.2.1),(Sl.v 1 y.2.2.2.2.2.1)]),(oC [(sc 4 0 1 y.2.2.2.2.2.2.1 y.2.2.2.2.2.2.2.1),(sc 5 0 1 y.2.2.2.2.2.2.2.2.1 y.2.2.2.2.2.2.2.2.2.1),(sc 6 0 1 y.2.2.2.2.2.2.2.2.2.2.1 y.2.2.2.2.2.2.2.2.2.2.2.1),(sc 7 0 1 y.2.2.2.2.2.2.2.2.2.2.2.2.1 y.2.2.2.2.2.2.2.2.2.2.2.2.2.1),(sc 8 0 1 y.2.2.2.2.2.2.2.2.2.2.2.2.2.2.1 y.2.2.2.2.2.2.2.2.2.2.2.2.2.2.2.1)]),(oC y.2.2.2.2.2.2.2.2.2.2.2.2.2.2.2.2.1),(oC y.2.2.2.2.2.2.2.2.2.2.2.2.2.2.2.2.2.1),(oC y.2.2.2.2.2.2.2.2.2.2.2.2.2.2.2.2.2.2.1),(oC y.2.2.2.2.2.2.2.2.2.2.2.2.2.2.2.2.2.2.2.1),(oC y.2.2.2.2.2.2.2.2.2.2.2.2.2.2.2.2.2.2.2.2)]))) (fun w y=>UF pu n w y.1 y.2.1 y.2.2.1 y.2.2.2.1 y.2.2.2.2.1 y.2.2.2.2.2.1 y.2.2.2.2.2.2.1 y.2.2.2.2.2.2.2.1 y.2.2.2.2.2.2.2.2.1 y.2.2.2.2.2.2.2.2.2.1 y.2.2.2.2.2.2.2.2.2.2.1 y.2.2.2.2.2.2.2.2.2.2.2.1 y.2.2.2.2.2.2.2.2.2.2.2.2.1 y.2.2.2.2.2.2.2.2.2.2.2.2.2.1 y.2.2.2.2.2.2.2.2.2.2.2.2.2.2.1 y.2.2.2.2.2.2.2.2.2.2.2.2.2.2.2.1 y.2.2.2.2.2.2.2.2.2.2.2.2.2.2.2.2.1 y.2.2.2.2.2.2.2.2.2.2.2.2.2.2.2.2.2.1 y.2.2.2.2.2.2.2.2.2.2.2.2.2.2.2.2.2.2.1 y.2.2.2.2.2.2.2.2.2.2.2.2.2.2.2.2.2.2.2.1 y.2.2.2.2.2.2.2.2.2.2.2.2.2.2.2.2.2.2.2.2) n ⟨(s0,(Int.ofNat (Sl.n s0)),(0:Int),x0,s0,s1,0,0,0,0,0,0,0,0,0,0,([]:LV),([]:LV),([]:LV),([]:LV),([]:LV)),hm,(.thawC 3 0 1 [(.slice none 0 0),(.slice none 0 0),(.slice none 0 0),(.slice none 0 0),(.slice none 0 0)] (imm:=false) (spent:=false) (anc:=[]) (by kernel_rfl) (by kernel_rfl) (by kernel_rfl) (by kernel_rfl) (.thawC 3 1 1 [sc 4 0 1 0 0,(.slice none 0 0),(.slice none 0 0),(.slice none 0 0),(.slice none 0 0)] (imm:=false) (spent:=false) (anc:=[]) (by kernel_rfl) (by kernel_rfl) (by kernel_rfl) (by kernel_rfl) (.thawC 3 2 1 [sc 4 0 1 0 0,sc 5 0 1 0 0,(.slice none 0 0),(.slice none 0 0),(.slice none 0 0)] (imm:=false) (spent:=false) (anc:=[]) (by kernel_rfl) (by kernel_rfl) (by kernel_rfl) (by kernel_rfl) (.thawC 3 3 1 [sc 4 0 1 0 0,sc 5 0 1 0 0,sc 6 0 1 0 0,(.slice none 0 0),(.slice none 0 0)] (imm:=false) (spent:=false) (anc:=[]) (by kernel_rfl) (by kernel_rfl) (by kernel_rfl) (by kernel_rfl) (.thawC 3 4 1 [sc 4 0 1 0 0,sc 5 0 1 0 0,sc 6 0 1 0 0,sc 7 0 1 0 0,(.slice none 0 0)] (imm:=false) (spent:=false) (anc:=[]) (by kernel_rfl) (by kernel_rfl) (by kernel_rfl) (by kernel_rfl) (.k0 [false,false] [.tmp 1 false,.tmp 3 true,.cell 3 0 false,.cell 3 1 false,.cell 3 2 false,.cell 3 3 false,.cell 3 4 false] [1,3,10,11,12]))))))⟩ (fun _=>rfl) ?_)
  rintro w0 ⟨s4,z1,z2,z3,s5,s6,n5,c6,n6,c7,n7,c8,n8,c9,n9,c16,q5,q6,q7,q8,q9⟩ hm
  replace hm:UE pu n (UF pu n w0) s4 z1 z2 z3 s5 s6 n5 c6 n6 c7 n7 c8 n8 c9 n9 c16 q5 q6 q7 q8 q9=some v:=hm
  unfold UE at hm
  refine .then (.rK ?_)
  replace hm:=Ae hm;obtain⟨h0,hm⟩:=hm
  replace hm:=Ae hm;obtain⟨h1,hm⟩:=hm
  replace hm:=Ae hm;obtain⟨h2,hm⟩:=hm
  replace hm:=Ae hm;obtain⟨h3,hm⟩:=hm
  replace hm:=Ae hm;obtain⟨h4,hm⟩:=hm
  refine .ghs (fr 49 [(1,(pt 2 0)),(3,(pt 3 0)),(10,Sl.v 1 s4),(11,zI z1),(12,zI z2),(13,(zB (AY z2 z1)))]) (hT 9 [(.cells Ay true false []),(oC [zI z3,Sl.v 1 s5,Sl.v 1 s6]),(oC [sc 4 0 1 n5 c6,sc 5 0 1 n6 c7,sc 6 0 1 n7 c8,sc 7 0 1 n8 c9,sc 8 0 1 n9 c16]),oC q5,oC q6,oC q7,oC q8,oC q9]) (.k [4,5,6,7,8] [false,false] [.tmp 1 false,.tmp 3 true,.cell 3 0 false,.cell 3 1 false,.cell 3 2 false,.cell 3 3 false,.cell 3 4 false] [1,3,10,11,12,13] ⟨AO h0,AO h1,AO h2,AO h3,AO h4,trivial⟩) ?_
  refine .then ?_
  replace hm:=Ag hm;rcases hm with⟨h5,hm⟩ | ⟨h5,hm⟩
  ·refine Dr (AY z2 z1) h5 ?_
   refine .skip (.ghs (fr 49 [(1,(pt 2 0)),(3,(pt 3 0)),(10,Sl.v 1 s4),(11,zI z1),(12,zI z2)]) (hT 9 [(.cells Ay true false []),(oC [zI z3,Sl.v 1 s5,Sl.v 1 s6]),(oC [sc 4 0 1 n5 c6,sc 5 0 1 n6 c7,sc 6 0 1 n7 c8,sc 7 0 1 n8 c9,sc 8 0 1 n9 c16]),oC q5,oC q6,oC q7,oC q8,oC q9]) (.k [4,5,6,7,8] [false,false] [.tmp 1 false,.tmp 3 true,.cell 3 0 false,.cell 3 1 false,.cell 3 2 false,.cell 3 3 false,.cell 3 4 false] [1,3,10,11,12] ⟨AO h0,AO h1,AO h2,AO h3,AO h4,trivial⟩) ?_)
   refine .then (.block (.then ?_))
   replace hm:=Ab hm;obtain⟨k1,h6,hm⟩:=hm
   obtain rfl:=AR h6
   replace hm:=Ae hm;obtain⟨h7,hm⟩:=hm
   replace hm:=FK hm;obtain⟨x1,h8,hm⟩:=hm
   refine .reg (eC 1 (keep (hT 9 [(.cells Ay true false []),(oC [zI z3,Sl.v 1 s5,Sl.v 1 s6]),(oC [sc 4 0 1 n5 c6,sc 5 0 1 n6 c7,sc 6 0 1 n7 c8,sc 7 0 1 n8 c9,sc 8 0 1 n9 c16]),oC q5,oC q6,oC q7,oC q8,oC q9]) (bb (an (Nat.blt k1 (Sl.n s4)) true) (some (Cv (k1*1) (Sl.cs s4))) none)) (AX h7) (eD (keep (hT 9 [(.cells Ay true false []),(oC [zI z3,Sl.v 1 s5,Sl.v 1 s6]),(oC [sc 4 0 1 n5 c6,sc 5 0 1 n6 c7,sc 6 0 1 n7 c8,sc 7 0 1 n8 c9,sc 8 0 1 n9 c16]),oC q5,oC q6,oC q7,oC q8,oC q9]) (AL (Sl.cs s4) (k1*1))) (AZ h8) (eE))) ?_
   refine .ghs (fr 49 [(1,(pt 2 0)),(3,(pt 3 0)),(4,(zI (Int.ofNat k1))),(5,zI x1),(10,Sl.v 1 s4),(11,zI z1),(12,(zI (Int.ofNat k1)))]) (hT 9 [(.cells Ay true false []),(oC [zI z3,Sl.v 1 s5,Sl.v 1 s6]),(oC [sc 4 0 1 n5 c6,sc 5 0 1 n6 c7,sc 6 0 1 n7 c8,sc 7 0 1 n8 c9,sc 8 0 1 n9 c16]),oC q5,oC q6,oC q7,oC q8,oC q9]) (.k [4,5,6,7,8] [false,false] [.tmp 1 false,.tmp 3 true,.cell 3 0 false,.cell 3 1 false,.cell 3 2 false,.cell 3 3 false,.cell 3 4 false] [1,3,4,5,10,11,12] ⟨AO h0,AO h1,AO h2,AO h3,AO h4,trivial⟩) ?_
   replace hm:=Ab hm;obtain⟨k2,h9,hm⟩:=hm
   obtain rfl:=AR h9
   replace hm:=Ag hm;rcases hm with⟨h10,hm⟩ | ⟨h10,hm⟩
   ·obtain rfl:=Nat.eq_of_beq_eq_true h10
    replace hm:=Ae hm;obtain⟨h11,hm⟩:=hm
    refine .reg (eC 6 (Oc 1 8 n5 c6 1 4 q5 [(zI (Int.ofNat k1))] [] (hT 10 [(.cells Ay true false []),(oC [zI z3,Sl.v 1 s5,Sl.v 1 s6]),(oC [sc 4 0 1 n5 c6,sc 5 0 1 n6 c7,sc 6 0 1 n7 c8,sc 7 0 1 n8 c9,sc 8 0 1 n9 c16]),oC q5,oC q6,oC q7,oC q8,oC q9,(oC [(zI (Int.ofNat k1))])])) (I1 h11) (eE)) ?_
    replace hm:=Ae hm;obtain⟨h12,hm⟩:=hm
    refine .ghs (fr 49 [(1,(pt 2 0)),(3,(pt 3 0)),(10,Sl.v 1 s4),(11,zI z1),(12,(zI (Int.ofNat k1)))]) (hT 9 [(.cells Ay true false []),(oC [zI z3,Sl.v 1 s5,Sl.v 1 s6]),(oC [(sc 4 0 1 (n5+1) (d2 (n5+1))),sc 5 0 1 n6 c7,sc 6 0 1 n7 c8,sc 7 0 1 n8 c9,sc 8 0 1 n9 c16]),(oC (Br (Am 0 q5) [(zI (Int.ofNat k1))])),oC q6,oC q7,oC q8,oC q9]) (.k [10,5,6,7,8] [false,false] [.tmp 1 false,.tmp 3 true,.cell 3 0 false,.cell 3 1 false,.cell 3 2 false,.cell 3 3 false,.cell 3 4 false] [1,3,10,11,12] ⟨AO h12,AO h1,AO h2,AO h3,AO h4,trivial⟩) ?_
    refine .rK ?_
    exact⟨(s4,z1,(Aj .i64 (Int.add (Int.ofNat k1) (1:Int))),z3,s5,s6,(n5+1),(d2 (n5+1)),n6,c7,n7,c8,n8,c9,n9,c16,(Br (Am 0 q5) [(zI (Int.ofNat k1))]),q6,q7,q8,q9),hm,(.k [4,5,6,7,8] [false,false] [.tmp 1 false,.tmp 3 true,.cell 3 0 false,.cell 3 1 false,.cell 3 2 false,.cell 3 3 false,.cell 3 4 false] [1,3,10,11,12] ⟨AO h12,AO h1,AO h2,AO h3,AO h4,trivial⟩)⟩
   ·replace hm:=Ag hm;rcases hm with⟨h11,hm⟩ | ⟨h11,hm⟩
    ·obtain rfl:=Nat.eq_of_beq_eq_true h11
     replace hm:=Ae hm;obtain⟨h13,hm⟩:=hm
     refine .reg (eC 6 (Oc 1 8 n6 c7 1 5 q6 [(zI (Int.ofNat k1))] [] (hT 10 [(.cells Ay true false []),(oC [zI z3,Sl.v 1 s5,Sl.v 1 s6]),(oC [sc 4 0 1 n5 c6,sc 5 0 1 n6 c7,sc 6 0 1 n7 c8,sc 7 0 1 n8 c9,sc 8 0 1 n9 c16]),oC q5,oC q6,oC q7,oC q8,oC q9,(oC [(zI (Int.ofNat k1))])])) (I1 h13) (eE)) ?_
     replace hm:=Ae hm;obtain⟨h14,hm⟩:=hm
     refine .ghs (fr 49 [(1,(pt 2 0)),(3,(pt 3 0)),(10,Sl.v 1 s4),(11,zI z1),(12,(zI (Int.ofNat k1)))]) (hT 9 [(.cells Ay true false []),(oC [zI z3,Sl.v 1 s5,Sl.v 1 s6]),(oC [sc 4 0 1 n5 c6,(sc 5 0 1 (n6+1) (d2 (n6+1))),sc 6 0 1 n7 c8,sc 7 0 1 n8 c9,sc 8 0 1 n9 c16]),oC q5,(oC (Br (Am 0 q6) [(zI (Int.ofNat k1))])),oC q7,oC q8,oC q9]) (.k [4,10,6,7,8] [false,false] [.tmp 1 false,.tmp 3 true,.cell 3 0 false,.cell 3 1 false,.cell 3 2 false,.cell 3 3 false,.cell 3 4 false] [1,3,10,11,12] ⟨AO h0,AO h14,AO h2,AO h3,AO h4,trivial⟩) ?_
     refine .rK ?_
     exact⟨(s4,z1,(Aj .i64 (Int.add (Int.ofNat k1) (1:Int))),z3,s5,s6,n5,c6,(n6+1),(d2 (n6+1)),n7,c8,n8,c9,n9,c16,q5,(Br (Am 0 q6) [(zI (Int.ofNat k1))]),q7,q8,q9),hm,(.k [4,5,6,7,8] [false,false] [.tmp 1 false,.tmp 3 true,.cell 3 0 false,.cell 3 1 false,.cell 3 2 false,.cell 3 3 false,.cell 3 4 false] [1,3,10,11,12] ⟨AO h0,AO h14,AO h2,AO h3,AO h4,trivial⟩)⟩
    ·replace hm:=Ag hm;rcases hm with⟨h13,hm⟩ | ⟨h13,hm⟩
     ·obtain rfl:=Nat.eq_of_beq_eq_true h13
      replace hm:=Ae hm;obtain⟨h15,hm⟩:=hm
      refine .reg (eC 6 (Oc 1 8 n7 c8 1 6 q7 [(zI (Int.ofNat k1))] [] (hT 10 [(.cells Ay true false []),(oC [zI z3,Sl.v 1 s5,Sl.v 1 s6]),(oC [sc 4 0 1 n5 c6,sc 5 0 1 n6 c7,sc 6 0 1 n7 c8,sc 7 0 1 n8 c9,sc 8 0 1 n9 c16]),oC q5,oC q6,oC q7,oC q8,oC q9,(oC [(zI (Int.ofNat k1))])])) (I1 h15) (eE)) ?_
      replace hm:=Ae hm;obtain⟨h16,hm⟩:=hm
      refine .ghs (fr 49 [(1,(pt 2 0)),(3,(pt 3 0)),(10,Sl.v 1 s4),(11,zI z1),(12,(zI (Int.ofNat k1)))]) (hT 9 [(.cells Ay true false []),(oC [zI z3,Sl.v 1 s5,Sl.v 1 s6]),(oC [sc 4 0 1 n5 c6,sc 5 0 1 n6 c7,(sc 6 0 1 (n7+1) (d2 (n7+1))),sc 7 0 1 n8 c9,sc 8 0 1 n9 c16]),oC q5,oC q6,(oC (Br (Am 0 q7) [(zI (Int.ofNat k1))])),oC q8,oC q9]) (.k [4,5,10,7,8] [false,false] [.tmp 1 false,.tmp 3 true,.cell 3 0 false,.cell 3 1 false,.cell 3 2 false,.cell 3 3 false,.cell 3 4 false] [1,3,10,11,12] ⟨AO h0,AO h1,AO h16,AO h3,AO h4,trivial⟩) ?_
      refine .rK ?_
      exact⟨(s4,z1,(Aj .i64 (Int.add (Int.ofNat k1) (1:Int))),z3,s5,s6,n5,c6,n6,c7,(n7+1),(d2 (n7+1)),n8,c9,n9,c16,q5,q6,(Br (Am 0 q7) [(zI (Int.ofNat k1))]),q8,q9),hm,(.k [4,5,6,7,8] [false,false] [.tmp 1 false,.tmp 3 true,.cell 3 0 false,.cell 3 1 false,.cell 3 2 false,.cell 3 3 false,.cell 3 4 false] [1,3,10,11,12] ⟨AO h0,AO h1,AO h16,AO h3,AO h4,trivial⟩)⟩
     ·replace hm:=Ag hm;rcases hm with⟨h15,hm⟩ | ⟨h15,hm⟩
      ·obtain rfl:=Nat.eq_of_beq_eq_true h15
       replace hm:=Ae hm;obtain⟨h17,hm⟩:=hm
       refine .reg (eC 6 (Oc 1 8 n8 c9 1 7 q8 [(zI (Int.ofNat k1))] [] (hT 10 [(.cells Ay true false []),(oC [zI z3,Sl.v 1 s5,Sl.v 1 s6]),(oC [sc 4 0 1 n5 c6,sc 5 0 1 n6 c7,sc 6 0 1 n7 c8,sc 7 0 1 n8 c9,sc 8 0 1 n9 c16]),oC q5,oC q6,oC q7,oC q8,oC q9,(oC [(zI (Int.ofNat k1))])])) (I1 h17) (eE)) ?_
       replace hm:=Ae hm;obtain⟨h18,hm⟩:=hm
       refine .ghs (fr 49 [(1,(pt 2 0)),(3,(pt 3 0)),(10,Sl.v 1 s4),(11,zI z1),(12,(zI (Int.ofNat k1)))]) (hT 9 [(.cells Ay true false []),(oC [zI z3,Sl.v 1 s5,Sl.v 1 s6]),(oC [sc 4 0 1 n5 c6,sc 5 0 1 n6 c7,sc 6 0 1 n7 c8,(sc 7 0 1 (n8+1) (d2 (n8+1))),sc 8 0 1 n9 c16]),oC q5,oC q6,oC q7,(oC (Br (Am 0 q8) [(zI (Int.ofNat k1))])),oC q9]) (.k [4,5,6,10,8] [false,false] [.tmp 1 false,.tmp 3 true,.cell 3 0 false,.cell 3 1 false,.cell 3 2 false,.cell 3 3 false,.cell 3 4 false] [1,3,10,11,12] ⟨AO h0,AO h1,AO h2,AO h18,AO h4,trivial⟩) ?_
       refine .rK ?_
       exact⟨(s4,z1,(Aj .i64 (Int.add (Int.ofNat k1) (1:Int))),z3,s5,s6,n5,c6,n6,c7,n7,c8,(n8+1),(d2 (n8+1)),n9,c16,q5,q6,q7,(Br (Am 0 q8) [(zI (Int.ofNat k1))]),q9),hm,(.k [4,5,6,7,8] [false,false] [.tmp 1 false,.tmp 3 true,.cell 3 0 false,.cell 3 1 false,.cell 3 2 false,.cell 3 3 false,.cell 3 4 false] [1,3,10,11,12] ⟨AO h0,AO h1,AO h2,AO h18,AO h4,trivial⟩)⟩
      ·replace hm:=Ag hm;rcases hm with⟨h17,hm⟩ | ⟨h17,hm⟩
       ·obtain rfl:=Nat.eq_of_beq_eq_true h17
        replace hm:=Ae hm;obtain⟨h19,hm⟩:=hm
        refine .reg (eC 6 (Oc 1 8 n9 c16 1 8 q9 [(zI (Int.ofNat k1))] [] (hT 10 [(.cells Ay true false []),(oC [zI z3,Sl.v 1 s5,Sl.v 1 s6]),(oC [sc 4 0 1 n5 c6,sc 5 0 1 n6 c7,sc 6 0 1 n7 c8,sc 7 0 1 n8 c9,sc 8 0 1 n9 c16]),oC q5,oC q6,oC q7,oC q8,oC q9,(oC [(zI (Int.ofNat k1))])])) (I1 h19) (eE)) ?_
        replace hm:=Ae hm;obtain⟨h20,hm⟩:=hm
        refine .ghs (fr 49 [(1,(pt 2 0)),(3,(pt 3 0)),(10,Sl.v 1 s4),(11,zI z1),(12,(zI (Int.ofNat k1)))]) (hT 9 [(.cells Ay true false []),(oC [zI z3,Sl.v 1 s5,Sl.v 1 s6]),(oC [sc 4 0 1 n5 c6,sc 5 0 1 n6 c7,sc 6 0 1 n7 c8,sc 7 0 1 n8 c9,(sc 8 0 1 (n9+1) (d2 (n9+1)))]),oC q5,oC q6,oC q7,oC q8,(oC (Br (Am 0 q9) [(zI (Int.ofNat k1))]))]) (.k [4,5,6,7,10] [false,false] [.tmp 1 false,.tmp 3 true,.cell 3 0 false,.cell 3 1 false,.cell 3 2 false,.cell 3 3 false,.cell 3 4 false] [1,3,10,11,12] ⟨AO h0,AO h1,AO h2,AO h3,AO h20,trivial⟩) ?_
        refine .rK ?_
        exact⟨(s4,z1,(Aj .i64 (Int.add (Int.ofNat k1) (1:Int))),z3,s5,s6,n5,c6,n6,c7,n7,c8,n8,c9,(n9+1),(d2 (n9+1)),q5,q6,q7,q8,(Br (Am 0 q9) [(zI (Int.ofNat k1))])),hm,(.k [4,5,6,7,8] [false,false] [.tmp 1 false,.tmp 3 true,.cell 3 0 false,.cell 3 1 false,.cell 3 2 false,.cell 3 3 false,.cell 3 4 false] [1,3,10,11,12] ⟨AO h0,AO h1,AO h2,AO h3,AO h20,trivial⟩)⟩
       ·cases hm
  ·refine Dy (AY z2 z1) h5 ?_
   refine .exit ?_
   exact⟨(z3,s5,s6,n5,c6,n6,c7,n7,c8,n8,c9,n9,c16,q5,q6,q7,q8,q9),hm,(.k [4,5,6,7,8] [false,false] [.tmp 1 false,.tmp 3 true,.cell 3 0 false,.cell 3 1 false,.cell 3 2 false,.cell 3 3 false,.cell 3 4 false] [1,3] ⟨AO h0,AO h1,AO h2,AO h3,AO h4,trivial⟩)⟩
end
end Go.TpDM
