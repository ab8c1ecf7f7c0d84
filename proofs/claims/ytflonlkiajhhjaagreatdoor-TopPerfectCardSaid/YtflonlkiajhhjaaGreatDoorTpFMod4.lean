/- Made from wip. -/
import Derived.Test.YtflonlkiajhhjaaGreatDoorTpFMod0x

set_option maxRecDepth 100000
set_option maxHeartbeats 20000000
set_option linter.unusedVariables false
namespace Go.TpFM
open Go.Sp Go.TpF
noncomputable section
def Si (pu:Af) (n:Nat) (z0 z1 z2 z3:Int):OV:=
 (some (.agg ⟨[.int .i64 z2,.int .u32 z3]⟩))
def UB (pu:Af) (n:Nat) (ih0:Sl→Int→Int→Int→Int→Int→Int→OV) (s0:Sl) (z0 z1 z2 z3 z4 z5:Int):OV:=
 (bb (AY z1 z0) (oo (EA z1) none fun k1=>(bb (an (Nat.blt k1 (Sl.n s0)) true) (oo (AL (Sl.cs s0) (k1*1)) none fun v0=>(oo (Bi .i64 v0) none fun x0=>(oo (EA x0) none fun k2=>(ih0 s0 z0 (Aj .i64 (Int.add (Int.ofNat k1) (1:Int))) z2 z3 z4 (jF .u32 z5 (QW .u32 (1:Int) k2)))))) none)) (Si pu n z2 z3 z4 z5))
def UC (pu:Af) (n w:Nat):Sl→Int→Int→Int→Int→Int→Int→OV:=
 Nat.rec (motive:=fun _=>Sl→Int→Int→Int→Int→Int→Int→OV) (fun _ _ _ _ _ _ _=>none) (fun _ ih0=>UB pu n ih0) w
def vM (pu:Af) (n:Nat) (x0:Int) (s0:Sl):OV:=
 (UC pu n n s0 (Int.ofNat (Sl.n s0)) (0:Int) (0:Int) (0:Int) x0 (0:Int))
def rT (pu:Af) (n:Nat) (args:LV):OV:=
 (ll args none fun a0 args=>(ll args none fun a1 args=>(ll args (oo (Bi .i64 a0) none fun x0=>(oo (Bj 1 a1) none fun s0=>(vM pu n x0 s0))) fun _ _=>none)))
theorem AbF (pu:Af) (n:Nat) (z0 z1 z2 z3:Int) {v:Value} (hm:Si pu n z0 z1 z2 z3=some v):BN tt (Bb tabs isP pu (inl pu)) 2 UY (fr 24 [(4,(pt 2 0)),(5,(pt 3 0))]) (hT 4 [(.cells Ay true false []),(oC [zI z0,.int .u32 z1]),(oC [zI z2,.int .u32 z3])]) (Fin tt 2 [.cell 4 99] v):=by
 unfold Si at hm
 refine .then (.rK (.ghs (fr 24 [(4,(pt 2 0))]) (hT 3 [(.cells Ay true false []),(oC [zI z2,.int .u32 z3])]) (.k0 [false,false] [.tmp 4 false] [4]) ?_))
 refine .ret ?_
 exact Bq (.agg ⟨[zI z2,.int .u32 z3]⟩) hm
theorem AlD {call:A8} (pu:Af) (n:Nat) (hcall:call=Bb tabs isP pu (inl pu)) {args:LV} {v:Value} (hm:rT pu n args=some v) (_:∀ x∈args,closed2 x=true):args.length≤24∧BN tt call 2 MU (Fr.made 24 args) (Ao tabs) (Fin tt 2 [.cell 4 99] v):=by
 subst hcall
 unfold rT at hm
 replace hm:=Ad hm;obtain⟨a0,args_0,rfl,hm⟩:=hm
 replace hm:=Ad hm;obtain⟨a1,args_1,rfl,hm⟩:=hm
 replace hm:=AC hm;obtain⟨rfl,hm⟩:=hm
 replace hm:=Ai hm;obtain⟨x0,rfl,hm⟩:=hm
 replace hm:=Al hm;obtain⟨s0,rfl,hm⟩:=hm
 unfold vM at hm
 refine⟨by simp,?_⟩
 refine .same (F':=(fr 24 [(0,zI x0),(1,Sl.v 1 s0)])) (H':=(hT 2 [(.cells Ay true false [])])) (by kernel_rfl) (by kernel_rfl) ?_
 refine .then (.rK (.ghs (fr 24 [(0,zI x0),(1,Sl.v 1 s0),(4,(pt 2 0))]) (hT 3 [(.cells Ay true false []),(oC [(zI (0:Int)),(.int .u32 (0:Int))])]) (.k0 [false,false] [.tmp 4 false] [0,1,4]) ?_))
 refine .then (.rK (.ghs (fr 24 [(1,Sl.v 1 s0),(4,(pt 2 0)),(5,(pt 3 0))]) (hT 4 [(.cells Ay true false []),(oC [(zI (0:Int)),(.int .u32 (0:Int))]),(oC [zI x0,(.int .u32 (0:Int))])]) (.k0 [false,false] [.tmp 4 false,.tmp 5 false] [1,4,5]) ?_))
 refine .join (v:=v) (fun y:Int×Int×Int×Int=>((fr 24 [(4,(pt 2 0)),(5,(pt 3 0))]),(hT 4 [(.cells Ay true false []),(oC [(zI y.1),(.int .u32 y.2.1)]),(oC [(zI y.2.2.1),(.int .u32 y.2.2.2)])]))) (fun y=>Si pu n y.1 y.2.1 y.2.2.1 y.2.2.2) ?_ ?_
 ·rintro⟨z0,z1,z2,z3⟩ hm
  exact AbF pu n z0 z1 z2 z3 hm
 ·refine .then (.rK (.ghs (fr 24 [(4,(pt 2 0)),(5,(pt 3 0)),(10,Sl.v 1 s0),(11,(zI (Int.ofNat (Sl.n s0)))),(12,(zI (0:Int)))]) (hT 4 [(.cells Ay true false []),(oC [(zI (0:Int)),(.int .u32 (0:Int))]),(oC [zI x0,(.int .u32 (0:Int))])]) (.k0 [false,false] [.tmp 4 false,.tmp 5 false] [4,5,10,11,12]) ?_))
  refine .block (.loopM (v:=v) (fun y:Sl×Int×Int×Int×Int×Int×Int=>((fr 24 [(4,(pt 2 0)),(5,(pt 3 0)),(10,(Sl.v 1 y.1)),(11,(zI y.2.1)),(12,(zI y.2.2.1))]),(hT 4 [(.cells Ay true false []),(oC [(zI y.2.2.2.1),(.int .u32 y.2.2.2.2.1)]),(oC [(zI y.2.2.2.2.2.1),(.int .u32 y.2.2.2.2.2.2)])]))) (fun w y=>UC pu n w y.1 y.2.1 y.2.2.1 y.2.2.2.1 y.2.2.2.2.1 y.2.2.2.2.2.1 y.2.2.2.2.2.2) n ⟨(s0,(Int.ofNat (Sl.n s0)),(0:Int),(0:Int),(0:Int),x0,(0:Int)),hm,(.k0 [false,false] [.tmp 4 false,.tmp 5 false] [4,5,10,11,12])⟩ (fun _=>rfl) ?_)
  rintro w0 ⟨s1,z4,z5,z6,z7,z8,z9⟩ hm
  replace hm:UB pu n (UC pu n w0) s1 z4 z5 z6 z7 z8 z9=some v:=hm
  unfold UB at hm
  refine .then (.rK (.ghs (fr 24 [(4,(pt 2 0)),(5,(pt 3 0)),(10,Sl.v 1 s1),(11,zI z4),(12,zI z5),(13,(zB (AY z5 z4)))]) (hT 4 [(.cells Ay true false []),(oC [zI z6,.int .u32 z7]),(oC [zI z8,.int .u32 z9])]) (.k0 [false,false] [.tmp 4 false,.tmp 5 false] [4,5,10,11,12,13]) ?_))
  refine .then ?_
  replace hm:=Ag hm;rcases hm with⟨h0,hm⟩ | ⟨h0,hm⟩
  ·refine C8 (AY z5 z4) h0 ?_
   refine .skip (.ghs (fr 24 [(4,(pt 2 0)),(5,(pt 3 0)),(10,Sl.v 1 s1),(11,zI z4),(12,zI z5)]) (hT 4 [(.cells Ay true false []),(oC [zI z6,.int .u32 z7]),(oC [zI z8,.int .u32 z9])]) (.k0 [false,false] [.tmp 4 false,.tmp 5 false] [4,5,10,11,12]) ?_)
   refine .then (.block (.then ?_))
   replace hm:=Ab hm;obtain⟨k1,h1,hm⟩:=hm
   obtain rfl:=AR h1
   replace hm:=Ae hm;obtain⟨h2,hm⟩:=hm
   replace hm:=K6 hm;obtain⟨x1,h3,hm⟩:=hm
   refine .reg (eD (keep (hT 4 [(.cells Ay true false []),(oC [zI z6,.int .u32 z7]),(oC [zI z8,.int .u32 z9])]) (bb (an (Nat.blt k1 (Sl.n s1)) true) (some (Cv (k1*1) (Sl.cs s1))) none)) (AX h2) (eD (keep (hT 4 [(.cells Ay true false []),(oC [zI z6,.int .u32 z7]),(oC [zI z8,.int .u32 z9])]) (AL (Sl.cs s1) (k1*1))) (AZ h3) (eE))) ?_
   refine .ghs (fr 24 [(4,(pt 2 0)),(5,(pt 3 0)),(7,zI x1),(10,Sl.v 1 s1),(11,zI z4),(12,(zI (Int.ofNat k1)))]) (hT 4 [(.cells Ay true false []),(oC [zI z6,.int .u32 z7]),(oC [zI z8,.int .u32 z9])]) (.k0 [false,false] [.tmp 4 false,.tmp 5 false] [4,5,7,10,11,12]) ?_
   replace hm:=Ab hm;obtain⟨k2,h4,hm⟩:=hm
   obtain rfl:=AR h4
   refine .rK (.ghs (fr 24 [(4,(pt 2 0)),(5,(pt 3 0)),(10,Sl.v 1 s1),(11,zI z4),(12,(zI (Int.ofNat k1)))]) (hT 4 [(.cells Ay true false []),(oC [zI z6,.int .u32 z7]),(oC [zI z8,(.int .u32 (jF .u32 z9 (QW .u32 (1:Int) k2)))])]) (.k0 [false,false] [.tmp 4 false,.tmp 5 false] [4,5,10,11,12]) ?_)
   refine .rK ?_
   exact⟨(s1,z4,(Aj .i64 (Int.add (Int.ofNat k1) (1:Int))),z6,z7,z8,(jF .u32 z9 (QW .u32 (1:Int) k2))),hm,(.k0 [false,false] [.tmp 4 false,.tmp 5 false] [4,5,10,11,12])⟩
  ·refine Dn (AY z5 z4) h0 ?_
   refine .exit ?_
   exact⟨(z6,z7,z8,z9),hm,(.k0 [false,false] [.tmp 4 false,.tmp 5 false] [4,5])⟩
def OH (pu:Af) (n n0 c0:Nat) (q0:LV):OV:=
 (bb (Au Ah q0) (bb (an (Nat.ble (0+n0*1) (len q0)) (Au Ah (Aq (n0*1) (Am 0 q0)))) (some (Sl.v 1 (Sl.mk n0 0 (Aq (n0*1) (Am 0 q0))))) none) none)
def K8 (pu:Af) (n:Nat) (ih0:Nat→Nat→Int→Int→Int→Int→LV→OV) (n0 c0:Nat) (z0 z1 z2 z3:Int) (q0:LV):OV:=
 (bb (Au Ah q0) (ih0 n0 c0 z0 (Aj .i64 (Int.add z1 (1:Int))) z2 z3 q0) none)
def Kb (pu:Af) (n:Nat) (ih0:Nat→Nat→Int→Int→Int→Int→LV→OV) (n0 c0:Nat) (z0 z1 z2 z3:Int) (q0:LV):OV:=
 (bb (Au Ah q0) (bb (AY z1 z0) (oo (pu 169 [(.agg ⟨[.int .i64 z2,.int .u32 z3]⟩),.int .i64 z1]) none fun v0=>(oo (Bf v0) none fun b0=>(bb b0 (bb (GV 1 8 n0 c0 1 q0) (bb (Au Ah (Br (Am 0 q0) [.int .i64 z1])) (K8 pu n ih0 (n0+1) (2*(n0+1)+bb false 1 0) z0 z1 z2 z3 (Br (Am 0 q0) [.int .i64 z1])) none) none) (K8 pu n ih0 n0 c0 z0 z1 z2 z3 q0)))) (OH pu n n0 c0 q0)) none)
def Jd (pu:Af) (n w:Nat):Nat→Nat→Int→Int→Int→Int→LV→OV:=
 Nat.rec (motive:=fun _=>Nat→Nat→Int→Int→Int→Int→LV→OV) (fun _ _ _ _ _ _ _=>none) (fun _ ih0=>Kb pu n ih0) w
def vN (pu:Af) (n:Nat) (x0 x1:Int):OV:=
 (Jd pu n n 0 0 x0 (0:Int) x0 x1 ([]:LV))
def WJ (pu:Af) (n:Nat) (args:LV):OV:=
 (ll args none fun a0 args=>(ll args (oo (Bt a0) none fun l0=>(ll l0 none fun v0 l0=>(ll l0 none fun v1 l0=>(ll l0 (oo (Bi .i64 v0) none fun x0=>(oo (Bi .u32 v1) none fun x1=>(vN pu n x0 x1))) fun _ _=>none)))) fun _ _=>none))
theorem AbG (pu:Af) (n n0 c0:Nat) (q0:LV) {v:Value} (hm:OH pu n n0 c0 q0=some v):BN tt (Bb tabs isP pu (inl pu)) 2 UZ (fr 19 [(3,sc 2 0 1 n0 c0)]) (hT 3 [(.cells Ay true false []),oC q0]) (Fin tt 2 [.tmp 2] v):=by
 unfold OH at hm
 refine .then (.rK ?_)
 replace hm:=Ae hm;obtain⟨h0,hm⟩:=hm
 refine .ghs (fr 19 [(2,sc 2 0 1 n0 c0)]) (hT 3 [(.cells Ay true false []),oC q0]) (.k [2] [false,false] [.tmp 2 false] [2] ⟨BB h0,trivial⟩) ?_
 replace hm:=Ae hm;obtain⟨h1,hm⟩:=hm
 refine .ghs (Fr.puts (fr 19 [(2,sc 2 0 1 n0 c0)]) [(2,(Sl.v 1 (Sl.mk n0 0 (Aq (n0*1) (Am 0 q0)))))]) (hT 3 [(.cells Ay true false []),.dead]) (.freezeC 2 2 1 (an (Nat.ble (0+n0*1) (len q0)) (Au Ah (Aq (n0*1) (Am 0 q0)))) (F1:=(Fr.puts (fr 19 [(2,sc 2 0 1 n0 c0)]) [(2,(Sl.v 1 (Sl.mk n0 0 (Aq (n0*1) (Am 0 q0)))))])) (H1:=(hT 3 [(.cells Ay true false []),.dead])) (by kernel_rfl) (by kernel_rfl) h1 (E9.id _ _)) ?_
 refine .ret ?_
 exact Bq (Sl.v 1 (Sl.mk n0 0 (Aq (n0*1) (Am 0 q0)))) hm
theorem AlE {call:A8} (pu:Af) (n:Nat) (hcall:call=Bb tabs isP pu (inl pu)) {args:LV} {v:Value} (hm:WJ pu n args=some v) (_:∀ x∈args,closed2 x=true):args.length≤19∧BN tt call 2 M8 (Fr.made 19 args) (Ao tabs) (Fin tt 2 [.tmp 2] v):=by
 subst hcall
 unfold WJ at hm
 replace hm:=Ad hm;obtain⟨a0,args_0,rfl,hm⟩:=hm
 replace hm:=AC hm;obtain⟨rfl,hm⟩:=hm
 replace hm:=BG hm;obtain⟨l0,rfl,hm⟩:=hm
 replace hm:=Ad hm;obtain⟨v0,l113614_0,rfl,hm⟩:=hm
 replace hm:=Ad hm;obtain⟨v1,l113614_1,rfl,hm⟩:=hm
 replace hm:=AC hm;obtain⟨rfl,hm⟩:=hm
 replace hm:=Ai hm;obtain⟨x0,rfl,hm⟩:=hm
 replace hm:=Ai hm;obtain⟨x1,rfl,hm⟩:=hm
 unfold vN at hm
 refine⟨by simp,?_⟩
 refine .same (F':=(fr 19 [(0,(.agg ⟨[zI x0,.int .u32 x1]⟩))])) (H':=(hT 2 [(.cells Ay true false [])])) (by kernel_rfl) (by kernel_rfl) ?_
 refine .then (.rK (.ghs (fr 19 [(1,(pt 2 0))]) (hT 3 [(.cells Ay true false []),(oC [zI x0,.int .u32 x1])]) (.k0 [false,false] [.tmp 1 false] [1]) ?_))
 refine .then (.rK (.ghs (fr 19 [(1,(pt 2 0)),(3,(.slice none 0 0))]) (hT 3 [(.cells Ay true false []),(oC [zI x0,.int .u32 x1])]) (.k0 [false,false] [.tmp 1 false] [1,3]) ?_))
 refine .join (v:=v) (fun y:Nat×Nat×LV=>((fr 19 [(3,(sc 2 0 1 y.1 y.2.1))]),(hT 3 [(.cells Ay true false []),(oC y.2.2)]))) (fun y=>OH pu n y.1 y.2.1 y.2.2) ?_ ?_
 ·rintro⟨n0,c0,q0⟩ hm
  exact AbG pu n n0 c0 q0 hm
 ·refine .then (.rK (.ghs (fr 19 [(1,(pt 2 0)),(3,(.slice none 0 0)),(6,zI x0),(7,(zI (0:Int)))]) (hT 3 [(.cells Ay true false []),(oC [zI x0,.int .u32 x1])]) (.k0 [false,false] [.tmp 1 false] [1,3,6,7]) ?_))
  refine .block (.loopM (v:=v) (fun y:Nat×Nat×Int×Int×Int×Int×LV=>((fr 19 [(1,(pt 2 0)),(3,(sc 3 0 1 y.1 y.2.1)),(6,(zI y.2.2.1)),(7,(zI y.2.2.2.1))]),(hT 4 [(.cells Ay true false []),(oC [(zI y.2.2.2.2.1),(.int .u32 y.2.2.2.2.2.1)]),(oC y.2.2.2.2.2.2)]))) (fun w y=>Jd pu n w y.1 y.2.1 y.2.2.1 y.2.2.2.1 y.2.2.2.2.1 y.2.2.2.2.2.1 y.2.2.2.2.2.2) n ⟨(0,0,x0,(0:Int),x0,x1,([]:LV)),hm,(.thaw 3 1 (by kernel_rfl) (.k0 [false,false] [.tmp 1 false,.tmp 3 false] [1,3,6,7]))⟩ (fun _=>rfl) ?_)
  rintro w0 ⟨n1,c1,z0,z1,z2,z3,q1⟩ hm
  replace hm:Kb pu n (Jd pu n w0) n1 c1 z0 z1 z2 z3 q1=some v:=hm
  unfold Kb at hm
  refine .then (.rK ?_)
  replace hm:=Ae hm;obtain⟨h0,hm⟩:=hm
  refine .ghs (fr 19 [(1,(pt 2 0)),(3,sc 3 0 1 n1 c1),(6,zI z0),(7,zI z1),(8,(zB (AY z1 z0)))]) (hT 4 [(.cells Ay true false []),(oC [zI z2,.int .u32 z3]),oC q1]) (.k [3] [false,false] [.tmp 1 false,.tmp 3 false] [1,3,6,7,8] ⟨BB h0,trivial⟩) ?_
  refine .then ?_
  replace hm:=Ag hm;rcases hm with⟨h1,hm⟩ | ⟨h1,hm⟩
  ·refine C8 (AY z1 z0) h1 ?_
   refine .skip (.ghs (fr 19 [(1,(pt 2 0)),(3,sc 3 0 1 n1 c1),(6,zI z0),(7,zI z1)]) (hT 4 [(.cells Ay true false []),(oC [zI z2,.int .u32 z3]),oC q1]) (.k [3] [false,false] [.tmp 1 false,.tmp 3 false] [1,3,6,7] ⟨BB h0,trivial⟩) ?_)
   refine .join (v:=v) (fun y:Nat×Nat×Int×Int×Int×Int×LV=>((fr 19 [(1,(pt 2 0)),(3,(sc 3 0 1 y.1 y.2.1)),(6,(zI y.2.2.1)),(7,(zI y.2.2.2.1))]),(hT 4 [(.cells Ay true false []),(oC [(zI y.2.2.2.2.1),(.int .u32 y.2.2.2.2.2.1)]),(oC y.2.2.2.2.2.2)]))) (fun y=>K8 pu n (Jd pu n w0) y.1 y.2.1 y.2.2.1 y.2.2.2.1 y.2.2.2.2.1 y.2.2.2.2.2.1 y.2.2.2.2.2.2) ?_ ?_
   ·rintro⟨n2,c2,z4,z5,z6,z7,q2⟩ hm
    unfold K8 at hm
    refine .rK ?_
    replace hm:=Ae hm;obtain⟨h2,hm⟩:=hm
    exact⟨(n2,c2,z4,(Aj .i64 (Int.add z5 (1:Int))),z6,z7,q2),hm,(.k [3] [false,false] [.tmp 1 false,.tmp 3 false] [1,3,6,7] ⟨BB h2,trivial⟩)⟩
   ·refine .block (.then (.rK (.ghs (fr 19 [(1,(pt 2 0)),(3,sc 3 0 1 n1 c1),(4,zI z1),(6,zI z0),(7,zI z1)]) (hT 4 [(.cells Ay true false []),(oC [zI z2,.int .u32 z3]),oC q1]) (.k [3] [false,false] [.tmp 1 false,.tmp 3 false] [1,3,4,6,7] ⟨BB h0,trivial⟩) ?_)))
    refine .then ?_
    replace hm:=Yn hm;obtain⟨b0,h3,hm⟩:=hm
    refine .reg (eC 2 ((oo (pu 169 [(.agg ⟨[zI z2,.int .u32 z3]⟩),zI z1]) none fun v=>some (v,(hT 4 [(.cells Ay true false []),(oC [zI z2,.int .u32 z3]),oC q1])))) (AB h3) (eE)) ?_
    refine .ghs (fr 19 [(1,(pt 2 0)),(3,sc 3 0 1 n1 c1),(4,zI z1),(6,zI z0),(7,zI z1),(12,zB b0)]) (hT 4 [(.cells Ay true false []),(oC [zI z2,.int .u32 z3]),oC q1]) (.k [3] [false,false] [.tmp 1 false,.tmp 3 false] [1,3,4,6,7,12] ⟨BB h0,trivial⟩) ?_
    replace hm:=Ag hm;rcases hm with⟨h4,hm⟩ | ⟨h4,hm⟩
    ·refine .ifT b0 (by kernel_rfl) h4 ?_
     replace hm:=Ae hm;obtain⟨h5,hm⟩:=hm
     refine .reg (eC 3 (Oc 1 8 n1 c1 1 3 q1 [zI z1] [] (hT 5 [(.cells Ay true false []),(oC [zI z2,.int .u32 z3]),oC q1,(oC [zI z1])])) (I1 h5) (eE)) ?_
     replace hm:=Ae hm;obtain⟨h6,hm⟩:=hm
     exact⟨((n1+1),(d2 (n1+1)),z0,z1,z2,z3,(Br (Am 0 q1) [zI z1])),hm,(.k [5] [false,false] [.tmp 1 false,.tmp 3 false] [1,3,6,7] ⟨BB h6,trivial⟩)⟩
    ·refine .ifF b0 (by kernel_rfl) h4 ?_
     refine .skip ?_
     exact⟨(n1,c1,z0,z1,z2,z3,q1),hm,(.k [3] [false,false] [.tmp 1 false,.tmp 3 false] [1,3,6,7] ⟨BB h0,trivial⟩)⟩
  ·refine Dn (AY z1 z0) h1 ?_
   refine .exit ?_
   exact⟨(n1,c1,q1),hm,(.k [3] [false,false] [.tmp 3 false] [3] ⟨BB h0,trivial⟩)⟩
def Sj (pu:Af) (n:Nat) (z0:Int):OV:=
 (some (.int .i64 z0))
def I8 (pu:Af) (n:Nat) (ih0:Int→Nat→List Nat→Nat→List EO→Nat→OV) (z0 z1:Int) (b0:Bool) (k1:Nat) (l0:List Nat) (k2:Nat) (e0:List EO) (k3:Nat):OV:=
 (bb b0 (bb (Au F4 e0) (ih0 z1 k1 l0 k2 e0 k3) none) (bb (Au F4 e0) (ih0 z0 k1 l0 k2 e0 k3) none))
def OJ (pu:Af) (n:Nat) (ih0:Int→Nat→List Nat→Nat→List EO→Nat→OV) (z0:Int) (k1:Nat) (l0:List Nat) (k2:Nat) (e0:List EO) (k3:Nat):OV:=
 (bb (Au (fun e=>Nat.blt (EO.born e) k1) e0) (bb (Nat.ble k1 k2) (yC e0 l0 (bb (Au F4 e0) (Sj pu n z0) none) (fun e1:EO=>(bb (Au F4 e0) (oo (XL e0 k3 (Br l0 [(EO.born e1)]) k3) none fun v0=>(oo (CQ v0) none fun l1=>(ll l1 none fun v1 l1=>(ll l1 none fun v2 l1=>(ll l1 (oo (Bi .i64 v1) none fun x0=>(oo (Bi .i64 v2) none fun x1=>(bb (AY (1:Int) x1) (bb (Bd z0 (0:Int)) (I8 pu n ih0 z0 x0 true k1 (Br l0 [(EO.born e1)]) k3 e0 k3) (I8 pu n ih0 z0 x0 (AY x0 z0) k1 (Br l0 [(EO.born e1)]) k3 e0 k3)) (I8 pu n ih0 z0 x0 false k1 (Br l0 [(EO.born e1)]) k3 e0 k3)))) fun _ _=>none))))) none))) none) none)
def HV (pu:Af) (n w:Nat):Int→Nat→List Nat→Nat→List EO→Nat→OV:=
 Nat.rec (motive:=fun _=>Int→Nat→List Nat→Nat→List EO→Nat→OV) (fun _ _ _ _ _ _=>none) (fun _ ih0=>OJ pu n ih0) w
def Wq (pu:Af) (n:Nat) (x0 x1:Int):OV:=
 (oo (pu 11700 [(.agg ⟨[.int .i64 x0,.int .u32 x1]⟩)]) none fun v0=>(oo (CQ v0) none fun l0=>(ll l0 none fun v1 l0=>(ll l0 none fun v2 l0=>(ll l0 (bb (WA v1 2) (oo (Fj v2) none fun y0=>(bb (Au F4 (Akd.es y0)) (bb (Au F4 (Akd.es y0)) (HV pu n n (0:Int) (Akd.clock y0) ([]:List Nat) (Akd.clock y0) (Akd.es y0) (Akd.clock y0)) none) none)) none) fun _ _=>none)))))
def WK (pu:Af) (n:Nat) (args:LV):OV:=
 (ll args none fun a0 args=>(ll args (oo (Bt a0) none fun l0=>(ll l0 none fun v0 l0=>(ll l0 none fun v1 l0=>(ll l0 (oo (Bi .i64 v0) none fun x0=>(oo (Bi .u32 v1) none fun x1=>(Wq pu n x0 x1))) fun _ _=>none)))) fun _ _=>none))
theorem AbH (pu:Af) (n:Nat) (z0:Int) {v:Value} (hm:Sj pu n z0=some v):BN tt (Bb tabs isP pu (inl pu)) 2 U0 (fr 27 [(3,zI z0)]) (hT 2 [(.cells Ay true false [])]) (Fin tt 2 [.tmp 2] v):=by
 unfold Sj at hm
 refine .then (.rK (.ghs (fr 27 [(2,zI z0)]) (hT 2 [(.cells Ay true false [])]) (.k0 [false,false] [] [2]) ?_))
 refine .ret ?_
 exact Bq (zI z0) hm
theorem AlF {call:A8} (pu:Af) (n:Nat) (hcall:call=Bb tabs isP pu (inl pu)) {args:LV} {v:Value} (hm:WK pu n args=some v) (_:∀ x∈args,closed2 x=true):args.length≤27∧BN tt call 2 M9 (Fr.made 27 args) (Ao tabs) (Fin tt 2 [.tmp 2] v):=by
 subst hcall
 unfold WK at hm
 replace hm:=Ad hm;obtain⟨a0,args_0,rfl,hm⟩:=hm
 replace hm:=AC hm;obtain⟨rfl,hm⟩:=hm
 replace hm:=BG hm;obtain⟨l0,rfl,hm⟩:=hm
 replace hm:=Ad hm;obtain⟨v0,l113783_0,rfl,hm⟩:=hm
 replace hm:=Ad hm;obtain⟨v1,l113783_1,rfl,hm⟩:=hm
 replace hm:=AC hm;obtain⟨rfl,hm⟩:=hm
 replace hm:=Ai hm;obtain⟨x0,rfl,hm⟩:=hm
 replace hm:=Ai hm;obtain⟨x1,rfl,hm⟩:=hm
 unfold Wq at hm
 refine⟨by simp,?_⟩
 refine .same (F':=(fr 27 [(0,(.agg ⟨[zI x0,.int .u32 x1]⟩))])) (H':=(hT 2 [(.cells Ay true false [])])) (by kernel_rfl) (by kernel_rfl) ?_
 refine .then (.rK (.ghs (fr 27 [(1,(pt 2 0))]) (hT 3 [(.cells Ay true false []),(oC [zI x0,.int .u32 x1])]) (.k0 [false,false] [.tmp 1 false] [1]) ?_))
 refine .then (.rK (.ghs (fr 27 [(1,(pt 2 0)),(3,(zI (0:Int)))]) (hT 3 [(.cells Ay true false []),(oC [zI x0,.int .u32 x1])]) (.k0 [false,false] [.tmp 1 false] [1,3]) ?_))
 refine .join (v:=v) (fun y:Int=>((fr 27 [(3,zI y)]),(hT 2 [(.cells Ay true false [])]))) (fun y=>Sj pu n y) ?_ ?_
 ·rintro z0 hm
  exact AbH pu n z0 hm
 ·refine .then ?_
  replace hm:=Ab hm;obtain⟨v2,h0,hm⟩:=hm
  replace hm:=Ch hm;obtain⟨l1,rfl,hm⟩:=hm
  replace hm:=Ad hm;obtain⟨v3,l115381_0,rfl,hm⟩:=hm
  replace hm:=Ad hm;obtain⟨v4,l115381_1,rfl,hm⟩:=hm
  replace hm:=AC hm;obtain⟨rfl,hm⟩:=hm
  replace hm:=Ae hm;obtain⟨h1,hm⟩:=hm
  obtain rfl:=QE h1
  replace hm:=Ab hm;obtain⟨y0,h2,hm⟩:=hm
  replace hm:=Ae hm;obtain⟨h3,hm⟩:=hm
  refine .reg (eC 1 (Gu tabs [[none,none]] 1 [] [false] (pu 11700) [(.agg ⟨[zI x0,.int .u32 x1]⟩)] (hT 3 [(.cells Ay true false []),(oC [zI x0,.int .u32 x1])])) (G9 (as:=[(.agg ⟨[zI x0,.int .u32 x1]⟩)]) (H1:=(hT 3 [(.cells Ay true false []),(oC [zI x0,.int .u32 x1])])) (Fh (sW (UQ L6 (UQ L6 sV))) Iz) (G5 (H2:=(hT 4 [(.cells Ay true false []),(oC [zI x0,.int .u32 x1]),(.map (Akd.es y0) (Akd.clock y0))])) (v:=(.map (some 2))) (v':=(.map (some 3))) [some 0,some 1] [] [] [(.agg ⟨[zI x0,.int .u32 x1]⟩)] [v4] [(.map (Akd.es y0) (Akd.clock y0))] [some 0,some 1,none,some 2] [(false,(.map (Akd.es y0) (Akd.clock y0)))] [(.map (Akd.es y0) (Akd.clock y0))] (by kernel_rfl) Cs (Eq.trans (by kernel_rfl) h0) (Gn (JP h2) Cs) (Gn (Xb h3) Cs))) (eE)) ?_
  replace hm:=Ae hm;obtain⟨h4,hm⟩:=hm
  refine .ghs (fr 27 [(3,(zI (0:Int))),(8,(pt 2 0))]) (hT 4 [(.cells Ay true false []),(.iter (some 3) (Akd.clock y0) ([]:List Nat) (Akd.clock y0)),(.map (Akd.es y0) (Akd.clock y0))]) (.k [3] [false,false] [.tmp 8 false,.itm 2 false] [3,8] ⟨BB h4,trivial⟩) ?_
  refine .block (.loopM (v:=v) (fun y:Int×Nat×List Nat×Nat×List EO×Nat=>((fr 27 [(3,(zI y.1)),(8,(pt 2 0))]),(hT 4 [(.cells Ay true false []),(.iter (some 3) y.2.1 y.2.2.1 y.2.2.2.1),(.map y.2.2.2.2.1 y.2.2.2.2.2)]))) (fun w y=>HV pu n w y.1 y.2.1 y.2.2.1 y.2.2.2.1 y.2.2.2.2.1 y.2.2.2.2.2) n ⟨((0:Int),(Akd.clock y0),([]:List Nat),(Akd.clock y0),(Akd.es y0),(Akd.clock y0)),hm,(.k [3] [false,false] [.tmp 8 false,.itm 2 false] [3,8] ⟨BB h4,trivial⟩)⟩ (fun _=>rfl) ?_)
  rintro w0 ⟨z1,k1,l2,k2,e0,k3⟩ hm
  replace hm:OJ pu n (HV pu n w0) z1 k1 l2 k2 e0 k3=some v:=hm
  unfold OJ at hm
  refine .then ?_
  replace hm:=Ae hm;obtain⟨h5,hm⟩:=hm
  replace hm:=Ae hm;obtain⟨h6,hm⟩:=hm
  refine .nextK (id:=2) (mid:=3) (since:=k1) (st:=k2) (clock:=k3) (seen:=l2) (es:=e0) (d:=some 9) (x:=(tp 8)) (ty:=0) (os:=[EM 10 9 0 4]) (by kernel_rfl) (by kernel_rfl) (by kernel_rfl) (by kernel_rfl) h5 h6 (by kernel_rfl) (fun _=>by kernel_rfl) (fun h7=>?_) (fun e1 h8=>?_)
  ·replace hm:=AgE hm h7
   replace hm:=Ae hm;obtain⟨h9,hm⟩:=hm
   refine .ghs (fr 27 [(3,zI z1),(8,(pt 2 0)),(10,zB false)]) (hT 4 [(.cells Ay true false []),(.iter (some 3) k1 l2 k2),(.map e0 k3)]) (.k [3] [false,false] [.tmp 8 false,.itm 2 false] [3,8,10] ⟨BB h9,trivial⟩) ?_
   refine .then (.condF (by kernel_rfl) ?_)
   refine .exit ?_
   exact⟨z1,hm,(.k0 [false,false] [] [3])⟩
  ·replace hm:=AgF hm h8
   replace hm:=Ae hm;obtain⟨h10,hm⟩:=hm
   refine .ghs (fr 27 [(3,zI z1),(8,(pt 2 0)),(10,zB true)]) (hT 4 [(.cells Ay true false []),(.iter (some 3) k1 (Br l2 [(EO.born e1)]) k3),(.map e0 k3)]) (.k [3] [false,false] [.tmp 8 false,.itm 2 false] [3,8,10] ⟨BB h10,trivial⟩) ?_
   refine .then (.condT (by kernel_rfl) ?_)
   refine .skip (.ghs (fr 27 [(3,zI z1),(8,(pt 2 0))]) (hT 4 [(.cells Ay true false []),(.iter (some 3) k1 (Br l2 [(EO.born e1)]) k3),(.map e0 k3)]) (.k [3] [false,false] [.tmp 8 false,.itm 2 false] [3,8] ⟨BB h10,trivial⟩) ?_)
   refine .block (.then ?_)
   replace hm:=Ab hm;obtain⟨v5,h11,hm⟩:=hm
   replace hm:=Ch hm;obtain⟨l3,rfl,hm⟩:=hm
   replace hm:=Ad hm;obtain⟨v6,l115415_0,rfl,hm⟩:=hm
   replace hm:=Ad hm;obtain⟨v7,l115415_1,rfl,hm⟩:=hm
   replace hm:=AC hm;obtain⟨rfl,hm⟩:=hm
   replace hm:=Ai hm;obtain⟨x2,rfl,hm⟩:=hm
   replace hm:=Ai hm;obtain⟨x3,rfl,hm⟩:=hm
   refine .reg (eD (keep (hT 4 [(.cells Ay true false []),(.iter (some 3) k1 (Br l2 [(EO.born e1)]) k3),(.map e0 k3)]) (XL e0 k3 (Br l2 [(EO.born e1)]) k3)) (AZ h11) (eE)) ?_
   refine .ghs (fr 27 [(3,zI z1),(4,zI x2),(5,zI x3),(8,(pt 2 0))]) (hT 4 [(.cells Ay true false []),(.iter (some 3) k1 (Br l2 [(EO.born e1)]) k3),(.map e0 k3)]) (.k [3] [false,false] [.tmp 8 false,.itm 2 false] [3,4,5,8] ⟨BB h10,trivial⟩) ?_
   refine .join (v:=v) (fun y:Int×Int×Bool×Nat×List Nat×Nat×List EO×Nat=>((fr 27 [(3,(zI y.1)),(4,(zI y.2.1)),(8,(pt 2 0)),(24,(zB y.2.2.1))]),(hT 4 [(.cells Ay true false []),(.iter (some 3) y.2.2.2.1 y.2.2.2.2.1 y.2.2.2.2.2.1),(.map y.2.2.2.2.2.2.1 y.2.2.2.2.2.2.2)]))) (fun y=>I8 pu n (HV pu n w0) y.1 y.2.1 y.2.2.1 y.2.2.2.1 y.2.2.2.2.1 y.2.2.2.2.2.1 y.2.2.2.2.2.2.1 y.2.2.2.2.2.2.2) ?_ ?_
   ·rintro⟨z2,z3,b0,k4,l4,k5,e2,k6⟩ hm
    unfold I8 at hm
    replace hm:=Ag hm;rcases hm with⟨h12,hm⟩ | ⟨h12,hm⟩
    ·refine .ifT b0 (by kernel_rfl) h12 ?_
     refine .rK ?_
     replace hm:=Ae hm;obtain⟨h13,hm⟩:=hm
     exact⟨(z3,k4,l4,k5,e2,k6),hm,(.k [3] [false,false] [.tmp 8 false,.itm 2 false] [3,8] ⟨BB h13,trivial⟩)⟩
    ·refine .ifF b0 (by kernel_rfl) h12 ?_
     refine .skip ?_
     replace hm:=Ae hm;obtain⟨h14,hm⟩:=hm
     exact⟨(z2,k4,l4,k5,e2,k6),hm,(.k [3] [false,false] [.tmp 8 false,.itm 2 false] [3,8] ⟨BB h14,trivial⟩)⟩
   ·replace hm:=Ag hm;rcases hm with⟨h15,hm⟩ | ⟨h15,hm⟩
    ·replace hm:=Ag hm;rcases hm with⟨h17,hm⟩ | ⟨h17,hm⟩
     ·refine .reg (eC 1 (some ((zB (AY (1:Int) x3)),(hT 4 [(.cells Ay true false []),(.iter (some 3) k1 (Br l2 [(EO.born e1)]) k3),(.map e0 k3)]))) (show _=some ((zB true),_) from (by rw[show (AY (1:Int) x3)=true from h15])) (eC 2 (some ((zB (Bd z1 (0:Int))),(hT 4 [(.cells Ay true false []),(.iter (some 3) k1 (Br l2 [(EO.born e1)]) k3),(.map e0 k3)]))) (show _=some ((zB true),_) from (by rw[show (Bd z1 (0:Int))=true from h17])) (eE))) ?_
      exact⟨(z1,x2,true,k1,(Br l2 [(EO.born e1)]),k3,e0,k3),hm,(.k [3] [false,false] [.tmp 8 false,.itm 2 false] [3,4,8,24] ⟨BB h10,trivial⟩)⟩
     ·refine .reg (eC 1 (some ((zB (AY (1:Int) x3)),(hT 4 [(.cells Ay true false []),(.iter (some 3) k1 (Br l2 [(EO.born e1)]) k3),(.map e0 k3)]))) (show _=some ((zB true),_) from (by rw[show (AY (1:Int) x3)=true from h15])) (eC 2 (some ((zB (Bd z1 (0:Int))),(hT 4 [(.cells Ay true false []),(.iter (some 3) k1 (Br l2 [(EO.born e1)]) k3),(.map e0 k3)]))) (show _=some ((zB false),_) from (by rw[show (Bd z1 (0:Int))=false from h17])) (eE))) ?_
      exact⟨(z1,x2,(AY x2 z1),k1,(Br l2 [(EO.born e1)]),k3,e0,k3),hm,(.k [3] [false,false] [.tmp 8 false,.itm 2 false] [3,4,8,24] ⟨BB h10,trivial⟩)⟩
    ·refine .reg (eC 1 (some ((zB (AY (1:Int) x3)),(hT 4 [(.cells Ay true false []),(.iter (some 3) k1 (Br l2 [(EO.born e1)]) k3),(.map e0 k3)]))) (show _=some ((zB false),_) from (by rw[show (AY (1:Int) x3)=false from h15])) (eE)) ?_
     exact⟨(z1,x2,false,k1,(Br l2 [(EO.born e1)]),k3,e0,k3),hm,(.k [3] [false,false] [.tmp 8 false,.itm 2 false] [3,4,8,24] ⟨BB h10,trivial⟩)⟩
def K9 (pu:Af) (n:Nat) (b0:Bool):OV:=
 (some (.bool b0))
def Ws (pu:Af) (n:Nat) (x0 x1:Int):OV:=
 (oo (pu 119 [(.agg ⟨[.int .i64 x0,.int .u32 x1]⟩)]) none fun v0=>(oo (Bi .i64 v0) none fun x2=>(bb (Bd x2 (0:Int)) (oo (pu 11700 [(.agg ⟨[.int .i64 x0,.int .u32 x1]⟩)]) none fun v1=>(oo (CQ v1) none fun l0=>(ll l0 none fun v2 l0=>(ll l0 none fun v3 l0=>(ll l0 (bb (WA v2 2) (oo (Fj v3) none fun y0=>(bb (Au F4 (Akd.es y0)) (K9 pu n (Bd (Int.ofNat (len (Akd.es y0))) (Aj .i64 (Int.sub x0 (1:Int))))) none)) none) fun _ _=>none))))) (K9 pu n false))))
def WL (pu:Af) (n:Nat) (args:LV):OV:=
 (ll args none fun a0 args=>(ll args (oo (Bt a0) none fun l0=>(ll l0 none fun v0 l0=>(ll l0 none fun v1 l0=>(ll l0 (oo (Bi .i64 v0) none fun x0=>(oo (Bi .u32 v1) none fun x1=>(Ws pu n x0 x1))) fun _ _=>none)))) fun _ _=>none))
theorem AbP (pu:Af) (n:Nat) (b0:Bool) {v:Value} (hm:K9 pu n b0=some v):BN tt (Bb tabs isP pu (inl pu)) 2 .ret (fr 15 [(2,zB b0)]) (hT 2 [(.cells Ay true false [])]) (Fin tt 2 [.tmp 2] v):=by
 unfold K9 at hm
 refine .ret ?_
 exact Bq (zB b0) hm
theorem AlG {call:A8} (pu:Af) (n:Nat) (hcall:call=Bb tabs isP pu (inl pu)) {args:LV} {v:Value} (hm:WL pu n args=some v) (_:∀ x∈args,closed2 x=true):args.length≤15∧BN tt call 2 RX (Fr.made 15 args) (Ao tabs) (Fin tt 2 [.tmp 2] v):=by
 subst hcall
 unfold WL at hm
 replace hm:=Ad hm;obtain⟨a0,args_0,rfl,hm⟩:=hm
 replace hm:=AC hm;obtain⟨rfl,hm⟩:=hm
 replace hm:=BG hm;obtain⟨l0,rfl,hm⟩:=hm
 replace hm:=Ad hm;obtain⟨v0,l115446_0,rfl,hm⟩:=hm
 replace hm:=Ad hm;obtain⟨v1,l115446_1,rfl,hm⟩:=hm
 replace hm:=AC hm;obtain⟨rfl,hm⟩:=hm
 replace hm:=Ai hm;obtain⟨x0,rfl,hm⟩:=hm
 replace hm:=Ai hm;obtain⟨x1,rfl,hm⟩:=hm
 unfold Ws at hm
 refine⟨by simp,?_⟩
 refine .same (F':=(fr 15 [(0,(.agg ⟨[zI x0,.int .u32 x1]⟩))])) (H':=(hT 2 [(.cells Ay true false [])])) (by kernel_rfl) (by kernel_rfl) ?_
 refine .then (.rK (.ghs (fr 15 [(1,(pt 2 0))]) (hT 3 [(.cells Ay true false []),(oC [zI x0,.int .u32 x1])]) (.k0 [false,false] [.tmp 1 false] [1]) ?_))
 refine .join (v:=v) (fun y:Bool=>((fr 15 [(2,zB y)]),(hT 2 [(.cells Ay true false [])]))) (fun y=>K9 pu n y) ?_ ?_
 ·rintro b0 hm
  exact AbP pu n b0 hm
 ·replace hm:=K6 hm;obtain⟨x2,h0,hm⟩:=hm
  replace hm:=Ag hm;rcases hm with⟨h1,hm⟩ | ⟨h1,hm⟩
  ·replace hm:=Ab hm;obtain⟨v2,h2,hm⟩:=hm
   replace hm:=Ch hm;obtain⟨l1,rfl,hm⟩:=hm
   replace hm:=Ad hm;obtain⟨v3,l115549_0,rfl,hm⟩:=hm
   replace hm:=Ad hm;obtain⟨v4,l115549_1,rfl,hm⟩:=hm
   replace hm:=AC hm;obtain⟨rfl,hm⟩:=hm
   replace hm:=Ae hm;obtain⟨h3,hm⟩:=hm
   obtain rfl:=QE h3
   replace hm:=Ab hm;obtain⟨y0,h4,hm⟩:=hm
   replace hm:=Ae hm;obtain⟨h5,hm⟩:=hm
   refine .reg (eC 1 ((oo (pu 119 [(.agg ⟨[zI x0,.int .u32 x1]⟩)]) none fun v=>some (v,(hT 3 [(.cells Ay true false []),(oC [zI x0,.int .u32 x1])])))) (AB h0) (eD (some ((zB (Bd x2 (0:Int))),(hT 3 [(.cells Ay true false []),(oC [zI x0,.int .u32 x1])]))) (show _=some ((zB true),_) from (by rw[show (Bd x2 (0:Int))=true from h1])) (eC 5 (Gu tabs [[none,none]] 1 [] [false] (pu 11700) [(.agg ⟨[zI x0,.int .u32 x1]⟩)] (hT 3 [(.cells Ay true false []),(oC [zI x0,.int .u32 x1])])) (G9 (as:=[(.agg ⟨[zI x0,.int .u32 x1]⟩)]) (H1:=(hT 3 [(.cells Ay true false []),(oC [zI x0,.int .u32 x1])])) (Fh (sW (UQ L6 (UQ L6 sV))) Iz) (G5 (H2:=(hT 4 [(.cells Ay true false []),(oC [zI x0,.int .u32 x1]),(.map (Akd.es y0) (Akd.clock y0))])) (v:=(.map (some 2))) (v':=(.map (some 3))) [some 0,some 1] [] [] [(.agg ⟨[zI x0,.int .u32 x1]⟩)] [v4] [(.map (Akd.es y0) (Akd.clock y0))] [some 0,some 1,none,some 2] [(false,(.map (Akd.es y0) (Akd.clock y0)))] [(.map (Akd.es y0) (Akd.clock y0))] (by kernel_rfl) Cs (Eq.trans (by kernel_rfl) h2) (Gn (JP h4) Cs) (Gn (Xb h5) Cs))) (eE)))) ?_
   exact⟨(Bd (Int.ofNat (len (Akd.es y0))) (Aj .i64 (Int.sub x0 (1:Int)))),hm,(.k0 [false,false] [] [2])⟩
  ·refine .reg (eC 1 ((oo (pu 119 [(.agg ⟨[zI x0,.int .u32 x1]⟩)]) none fun v=>some (v,(hT 3 [(.cells Ay true false []),(oC [zI x0,.int .u32 x1])])))) (AB h0) (eD (some ((zB (Bd x2 (0:Int))),(hT 3 [(.cells Ay true false []),(oC [zI x0,.int .u32 x1])]))) (show _=some ((zB false),_) from (by rw[show (Bd x2 (0:Int))=false from h1])) (eE))) ?_
   exact⟨false,hm,(.k0 [false,false] [] [2])⟩
def LJ (pu:Af) (n:Nat) (b0:Bool):OV:=
 (some (.bool b0))
def vO (pu:Af) (n:Nat) (x0 x1:Int):OV:=
 (oo (pu 176 [.int .i64 x0]) none fun v0=>(oo (Bf v0) none fun b0=>(bb b0 (oo (pu 176 [.int .i64 x1]) none fun v1=>(oo (Bf v1) none fun b1=>(bb (nt b1) (LJ pu n true) (LJ pu n (AY x0 x1))))) (LJ pu n (AY x0 x1)))))
def rU (pu:Af) (n:Nat) (args:LV):OV:=
 (ll args none fun a0 args=>(ll args none fun a1 args=>(ll args (oo (Bi .i64 a0) none fun x0=>(oo (Bi .i64 a1) none fun x1=>(vO pu n x0 x1))) fun _ _=>none)))
theorem AbQ (pu:Af) (n:Nat) (b0:Bool) {v:Value} (hm:LJ pu n b0=some v):BN tt (Bb tabs isP pu (inl pu)) 2 .ret (fr 17 [(4,zB b0)]) (hT 2 [(.cells Ay true false [])]) (Fin tt 2 [.tmp 4] v):=by
 unfold LJ at hm
 refine .ret ?_
 exact Bq (zB b0) hm
theorem AlH {call:A8} (pu:Af) (n:Nat) (hcall:call=Bb tabs isP pu (inl pu)) {args:LV} {v:Value} (hm:rU pu n args=some v) (_:∀ x∈args,closed2 x=true):args.length≤17∧BN tt call 2 RY (Fr.made 17 args) (Ao tabs) (Fin tt 2 [.tmp 4] v):=by
 subst hcall
 unfold rU at hm
 replace hm:=Ad hm;obtain⟨a0,args_0,rfl,hm⟩:=hm
 replace hm:=Ad hm;obtain⟨a1,args_1,rfl,hm⟩:=hm
 replace hm:=AC hm;obtain⟨rfl,hm⟩:=hm
 replace hm:=Ai hm;obtain⟨x0,rfl,hm⟩:=hm
 replace hm:=Ai hm;obtain⟨x1,rfl,hm⟩:=hm
 unfold vO at hm
 refine⟨by simp,?_⟩
 refine .same (F':=(fr 17 [(0,zI x0),(1,zI x1)])) (H':=(hT 2 [(.cells Ay true false [])])) (by kernel_rfl) (by kernel_rfl) ?_
 refine .then (.rK (.ghs (fr 17 [(0,zI x0),(1,zI x1)]) (hT 2 [(.cells Ay true false [])]) (.k0 [false,false] [] [0,1]) ?_))
 refine .join (v:=v) (fun y:Bool=>((fr 17 [(4,zB y)]),(hT 2 [(.cells Ay true false [])]))) (fun y=>LJ pu n y) ?_ ?_
 ·rintro b0 hm
  exact AbQ pu n b0 hm
 ·replace hm:=Yn hm;obtain⟨b1,h0,hm⟩:=hm
  replace hm:=Ag hm;rcases hm with⟨h1,hm⟩ | ⟨h1,hm⟩
  ·replace hm:=Yn hm;obtain⟨b2,h2,hm⟩:=hm
   replace hm:=Ag hm;rcases hm with⟨h3,hm⟩ | ⟨h3,hm⟩
   ·refine .reg (eC 1 ((oo (pu 176 [zI x0]) none fun v=>some (v,(hT 2 [(.cells Ay true false [])])))) (show _=some ((zB true),_) from (by have hz:(oo (pu 176 [zI x0]) none fun v=>some (v,(hT 2 [(.cells Ay true false [])])))=some ((zB b1),(hT 2 [(.cells Ay true false [])])):=(AB h0);rw[h1] at hz;exact hz)) (eC 2 ((oo (pu 176 [zI x1]) none fun v=>some (v,(hT 2 [(.cells Ay true false [])])))) (AB h2) (eD (some ((zB (nt b2)),(hT 2 [(.cells Ay true false [])]))) (show _=some ((zB true),_) from (by rw[show (nt b2)=true from h3])) (eE)))) ?_
    exact⟨true,hm,(.k0 [false,false] [] [4])⟩
   ·refine .reg (eC 1 ((oo (pu 176 [zI x0]) none fun v=>some (v,(hT 2 [(.cells Ay true false [])])))) (show _=some ((zB true),_) from (by have hz:(oo (pu 176 [zI x0]) none fun v=>some (v,(hT 2 [(.cells Ay true false [])])))=some ((zB b1),(hT 2 [(.cells Ay true false [])])):=(AB h0);rw[h1] at hz;exact hz)) (eC 2 ((oo (pu 176 [zI x1]) none fun v=>some (v,(hT 2 [(.cells Ay true false [])])))) (AB h2) (eD (some ((zB (nt b2)),(hT 2 [(.cells Ay true false [])]))) (show _=some ((zB false),_) from (by rw[show (nt b2)=false from h3])) (eE)))) ?_
    exact⟨(AY x0 x1),hm,(.k0 [false,false] [] [4])⟩
  ·refine .reg (eC 1 ((oo (pu 176 [zI x0]) none fun v=>some (v,(hT 2 [(.cells Ay true false [])])))) (show _=some ((zB false),_) from (by have hz:(oo (pu 176 [zI x0]) none fun v=>some (v,(hT 2 [(.cells Ay true false [])])))=some ((zB b1),(hT 2 [(.cells Ay true false [])])):=(AB h0);rw[h1] at hz;exact hz)) (eE)) ?_
   exact⟨(AY x0 x1),hm,(.k0 [false,false] [] [4])⟩
def OL (pu:Af) (n:Nat) (z0 z1:Int):OV:=
 (oo (EA (Aj .u8 z0)) none fun k1=>(oo (rH[k1]?) none fun c0=>(some (.int .i64 (Aj .i64 (Int.add z1 (Aj .i64 (Int.ofNat (UInt8.toNat c0)))))))))
def OM (pu:Af) (n:Nat) (z0 z1:Int):OV:=
 (bb (nt (AY z0 (256:Int))) (OL pu n (G6 .u32 z0 8) (Aj .i64 (Int.add z1 (8:Int)))) (OL pu n z0 z1))
def vP (pu:Af) (n:Nat) (x0:Int):OV:=
 (bb (nt (AY x0 (65536:Int))) (OM pu n (G6 .u32 x0 16) (16:Int)) (OM pu n x0 (0:Int)))
def rV (pu:Af) (n:Nat) (args:LV):OV:=
 (ll args none fun a0 args=>(ll args (oo (Bi .u32 a0) none fun x0=>(vP pu n x0)) fun _ _=>none))
theorem AbR (pu:Af) (n:Nat) (z0 z1:Int) {v:Value} (hm:OL pu n z0 z1=some v):BN tt (Bb tabs isP pu (inl pu)) 2 VL (fr 19 [(0,.int .u32 z0),(2,zI z1)]) (hT 2 [(.cells Ay true false [])]) (Fin tt 2 [.tmp 2] v):=by
 unfold OL at hm
 refine .then ?_
 replace hm:=Ab hm;obtain⟨k1,h0,hm⟩:=hm
 replace hm:=Ab hm;obtain⟨c0,h1,hm⟩:=hm
 refine .reg (eC 2 (some ((zY (Aj .u8 z0)),(hT 2 [(.cells Ay true false [])]))) (show _=some ((zY (Int.ofNat k1)),_) from (by rw[AR h0])) (eD (keep (hT 2 [(.cells Ay true false [])]) (oo (rH[k1]?) none fun b=>iv .u8 (.ofNat b.toNat))) (sU h1) (eE))) ?_
 refine .ghs (fr 19 [(2,(zI (Aj .i64 (Int.add z1 (Aj .i64 (Int.ofNat (UInt8.toNat c0)))))))]) (hT 2 [(.cells Ay true false [])]) (.k0 [false,false] [] [2]) ?_
 refine .ret ?_
 exact Bq (zI (Aj .i64 (Int.add z1 (Aj .i64 (Int.ofNat (UInt8.toNat c0)))))) hm
theorem AbS (pu:Af) (n:Nat) (z0 z1:Int) {v:Value} (hm:OM pu n z0 z1=some v):BN tt (Bb tabs isP pu (inl pu)) 2 VM (fr 19 [(0,.int .u32 z0),(2,zI z1)]) (hT 2 [(.cells Ay true false [])]) (Fin tt 2 [.tmp 2] v):=by
 unfold OM at hm
 refine .join (v:=v) (fun y:Int×Int=>((fr 19 [(0,(.int .u32 y.1)),(2,(zI y.2))]),(hT 2 [(.cells Ay true false [])]))) (fun y=>OL pu n y.1 y.2) ?_ ?_
 ·rintro⟨z2,z3⟩ hm
  exact AbR pu n z2 z3 hm
 ·refine .then (.rK (.ghs (fr 19 [(0,.int .u32 z0),(2,zI z1),(8,(zB (nt (AY z0 (256:Int)))))]) (hT 2 [(.cells Ay true false [])]) (.k0 [false,false] [] [0,2,8]) ?_))
  replace hm:=Ag hm;rcases hm with⟨h0,hm⟩ | ⟨h0,hm⟩
  ·refine C8 (nt (AY z0 (256:Int))) h0 ?_
   refine .then (.rK (.ghs (fr 19 [(0,(.int .u32 (G6 .u32 z0 8))),(2,zI z1)]) (hT 2 [(.cells Ay true false [])]) (.k0 [false,false] [] [0,2]) ?_))
   refine .rK ?_
   exact⟨((G6 .u32 z0 8),(Aj .i64 (Int.add z1 (8:Int)))),hm,(.k0 [false,false] [] [0,2])⟩
  ·refine Dn (nt (AY z0 (256:Int))) h0 ?_
   refine .skip ?_
   exact⟨(z0,z1),hm,(.k0 [false,false] [] [0,2])⟩
theorem AlI {call:A8} (pu:Af) (n:Nat) (hcall:call=Bb tabs isP pu (inl pu)) {args:LV} {v:Value} (hm:rV pu n args=some v) (_:∀ x∈args,closed2 x=true):args.length≤19∧BN tt call 2 Nc (Fr.made 19 args) (Ao tabs) (Fin tt 2 [.tmp 2] v):=by
 subst hcall
 unfold rV at hm
 replace hm:=Ad hm;obtain⟨a0,args_0,rfl,hm⟩:=hm
 replace hm:=AC hm;obtain⟨rfl,hm⟩:=hm
 replace hm:=Ai hm;obtain⟨x0,rfl,hm⟩:=hm
 unfold vP at hm
 refine⟨by simp,?_⟩
 refine .same (F':=(fr 19 [(0,.int .u32 x0)])) (H':=(hT 2 [(.cells Ay true false [])])) (by kernel_rfl) (by kernel_rfl) ?_
 refine .then (.rK (.ghs (fr 19 [(0,.int .u32 x0),(2,(zI (0:Int)))]) (hT 2 [(.cells Ay true false [])]) (.k0 [false,false] [] [0,2]) ?_))
 refine .join (v:=v) (fun y:Int×Int=>((fr 19 [(0,(.int .u32 y.1)),(2,(zI y.2))]),(hT 2 [(.cells Ay true false [])]))) (fun y=>OM pu n y.1 y.2) ?_ ?_
 ·rintro⟨z0,z1⟩ hm
  exact AbS pu n z0 z1 hm
 ·refine .then (.rK (.ghs (fr 19 [(0,.int .u32 x0),(2,(zI (0:Int))),(4,(zB (nt (AY x0 (65536:Int)))))]) (hT 2 [(.cells Ay true false [])]) (.k0 [false,false] [] [0,2,4]) ?_))
  replace hm:=Ag hm;rcases hm with⟨h0,hm⟩ | ⟨h0,hm⟩
  ·refine C8 (nt (AY x0 (65536:Int))) h0 ?_
   refine .then (.rK (.ghs (fr 19 [(0,(.int .u32 (G6 .u32 x0 16)))]) (hT 2 [(.cells Ay true false [])]) (.k0 [false,false] [] [0]) ?_))
   refine .rK ?_
   exact⟨((G6 .u32 x0 16),(16:Int)),hm,(.k0 [false,false] [] [0,2])⟩
  ·refine Dn (nt (AY x0 (65536:Int))) h0 ?_
   refine .skip ?_
   exact⟨(x0,(0:Int)),hm,(.k0 [false,false] [] [0,2])⟩
def OO (pu:Af) (n:Nat) (z0 z1:Int):OV:=
 (oo (EA (Aj .u8 z0)) none fun k1=>(oo (rH[k1]?) none fun c0=>(some (.int .i64 (Aj .i64 (Int.add z1 (Aj .i64 (Int.ofNat (UInt8.toNat c0)))))))))
def OP (pu:Af) (n:Nat) (z0 z1:Int):OV:=
 (bb (nt (AY z0 (256:Int))) (OO pu n (G6 .u64 z0 8) (Aj .i64 (Int.add z1 (8:Int)))) (OO pu n z0 z1))
def OQ (pu:Af) (n:Nat) (z0 z1:Int):OV:=
 (bb (nt (AY z0 (65536:Int))) (OP pu n (G6 .u64 z0 16) (Aj .i64 (Int.add z1 (16:Int)))) (OP pu n z0 z1))
def vQ (pu:Af) (n:Nat) (x0:Int):OV:=
 (bb (nt (AY x0 (4294967296:Int))) (OQ pu n (G6 .u64 x0 32) (32:Int)) (OQ pu n x0 (0:Int)))
def rW (pu:Af) (n:Nat) (args:LV):OV:=
 (ll args none fun a0 args=>(ll args (oo (Bi .u64 a0) none fun x0=>(vQ pu n x0)) fun _ _=>none))
theorem Ab0 (pu:Af) (n:Nat) (z0 z1:Int) {v:Value} (hm:OO pu n z0 z1=some v):BN tt (Bb tabs isP pu (inl pu)) 2 VU (fr 25 [(0,(zU z0)),(2,zI z1)]) (hT 2 [(.cells Ay true false [])]) (Fin tt 2 [.tmp 2] v):=by
 unfold OO at hm
 refine .then ?_
 replace hm:=Ab hm;obtain⟨k1,h0,hm⟩:=hm
 replace hm:=Ab hm;obtain⟨c0,h1,hm⟩:=hm
 refine .reg (eC 2 (some ((zY (Aj .u8 z0)),(hT 2 [(.cells Ay true false [])]))) (show _=some ((zY (Int.ofNat k1)),_) from (by rw[AR h0])) (eD (keep (hT 2 [(.cells Ay true false [])]) (oo (rH[k1]?) none fun b=>iv .u8 (.ofNat b.toNat))) (sU h1) (eE))) ?_
 refine .ghs (fr 25 [(2,(zI (Aj .i64 (Int.add z1 (Aj .i64 (Int.ofNat (UInt8.toNat c0)))))))]) (hT 2 [(.cells Ay true false [])]) (.k0 [false,false] [] [2]) ?_
 refine .ret ?_
 exact Bq (zI (Aj .i64 (Int.add z1 (Aj .i64 (Int.ofNat (UInt8.toNat c0)))))) hm
theorem Ab4 (pu:Af) (n:Nat) (z0 z1:Int) {v:Value} (hm:OP pu n z0 z1=some v):BN tt (Bb tabs isP pu (inl pu)) 2 VZ (fr 25 [(0,(zU z0)),(2,zI z1)]) (hT 2 [(.cells Ay true false [])]) (Fin tt 2 [.tmp 2] v):=by
 unfold OP at hm
 refine .join (v:=v) (fun y:Int×Int=>((fr 25 [(0,(zU y.1)),(2,(zI y.2))]),(hT 2 [(.cells Ay true false [])]))) (fun y=>OO pu n y.1 y.2) ?_ ?_
 ·rintro⟨z2,z3⟩ hm
  exact Ab0 pu n z2 z3 hm
 ·refine .then (.rK (.ghs (fr 25 [(0,(zU z0)),(2,zI z1),(14,(zB (nt (AY z0 (256:Int)))))]) (hT 2 [(.cells Ay true false [])]) (.k0 [false,false] [] [0,2,14]) ?_))
  replace hm:=Ag hm;rcases hm with⟨h0,hm⟩ | ⟨h0,hm⟩
  ·refine C8 (nt (AY z0 (256:Int))) h0 ?_
   refine .then (.rK (.ghs (fr 25 [(0,(zU (G6 .u64 z0 8))),(2,zI z1)]) (hT 2 [(.cells Ay true false [])]) (.k0 [false,false] [] [0,2]) ?_))
   refine .rK ?_
   exact⟨((G6 .u64 z0 8),(Aj .i64 (Int.add z1 (8:Int)))),hm,(.k0 [false,false] [] [0,2])⟩
  ·refine Dn (nt (AY z0 (256:Int))) h0 ?_
   refine .skip ?_
   exact⟨(z0,z1),hm,(.k0 [false,false] [] [0,2])⟩
theorem Ab8 (pu:Af) (n:Nat) (z0 z1:Int) {v:Value} (hm:OQ pu n z0 z1=some v):BN tt (Bb tabs isP pu (inl pu)) 2 V3 (fr 25 [(0,(zU z0)),(2,zI z1)]) (hT 2 [(.cells Ay true false [])]) (Fin tt 2 [.tmp 2] v):=by
 unfold OQ at hm
 refine .join (v:=v) (fun y:Int×Int=>((fr 25 [(0,(zU y.1)),(2,(zI y.2))]),(hT 2 [(.cells Ay true false [])]))) (fun y=>OP pu n y.1 y.2) ?_ ?_
 ·rintro⟨z2,z3⟩ hm
  exact Ab4 pu n z2 z3 hm
 ·refine .then (.rK (.ghs (fr 25 [(0,(zU z0)),(2,zI z1),(8,(zB (nt (AY z0 (65536:Int)))))]) (hT 2 [(.cells Ay true false [])]) (.k0 [false,false] [] [0,2,8]) ?_))
  replace hm:=Ag hm;rcases hm with⟨h0,hm⟩ | ⟨h0,hm⟩
  ·refine C8 (nt (AY z0 (65536:Int))) h0 ?_
   refine .then (.rK (.ghs (fr 25 [(0,(zU (G6 .u64 z0 16))),(2,zI z1)]) (hT 2 [(.cells Ay true false [])]) (.k0 [false,false] [] [0,2]) ?_))
   refine .rK ?_
   exact⟨((G6 .u64 z0 16),(Aj .i64 (Int.add z1 (16:Int)))),hm,(.k0 [false,false] [] [0,2])⟩
  ·refine Dn (nt (AY z0 (65536:Int))) h0 ?_
   refine .skip ?_
   exact⟨(z0,z1),hm,(.k0 [false,false] [] [0,2])⟩
theorem AlJ {call:A8} (pu:Af) (n:Nat) (hcall:call=Bb tabs isP pu (inl pu)) {args:LV} {v:Value} (hm:rW pu n args=some v) (_:∀ x∈args,closed2 x=true):args.length≤25∧BN tt call 2 Nf (Fr.made 25 args) (Ao tabs) (Fin tt 2 [.tmp 2] v):=by
 subst hcall
 unfold rW at hm
 replace hm:=Ad hm;obtain⟨a0,args_0,rfl,hm⟩:=hm
 replace hm:=AC hm;obtain⟨rfl,hm⟩:=hm
 replace hm:=Ai hm;obtain⟨x0,rfl,hm⟩:=hm
 unfold vQ at hm
 refine⟨by simp,?_⟩
 refine .same (F':=(fr 25 [(0,(zU x0))])) (H':=(hT 2 [(.cells Ay true false [])])) (by kernel_rfl) (by kernel_rfl) ?_
 refine .then (.rK (.ghs (fr 25 [(0,(zU x0)),(2,(zI (0:Int)))]) (hT 2 [(.cells Ay true false [])]) (.k0 [false,false] [] [0,2]) ?_))
 refine .join (v:=v) (fun y:Int×Int=>((fr 25 [(0,(zU y.1)),(2,(zI y.2))]),(hT 2 [(.cells Ay true false [])]))) (fun y=>OQ pu n y.1 y.2) ?_ ?_
 ·rintro⟨z0,z1⟩ hm
  exact Ab8 pu n z0 z1 hm
 ·refine .then (.rK (.ghs (fr 25 [(0,(zU x0)),(2,(zI (0:Int))),(4,(zB (nt (AY x0 (4294967296:Int)))))]) (hT 2 [(.cells Ay true false [])]) (.k0 [false,false] [] [0,2,4]) ?_))
  replace hm:=Ag hm;rcases hm with⟨h0,hm⟩ | ⟨h0,hm⟩
  ·refine C8 (nt (AY x0 (4294967296:Int))) h0 ?_
   refine .then (.rK (.ghs (fr 25 [(0,(zU (G6 .u64 x0 32)))]) (hT 2 [(.cells Ay true false [])]) (.k0 [false,false] [] [0]) ?_))
   refine .rK ?_
   exact⟨((G6 .u64 x0 32),(32:Int)),hm,(.k0 [false,false] [] [0,2])⟩
  ·refine Dn (nt (AY x0 (4294967296:Int))) h0 ?_
   refine .skip ?_
   exact⟨(x0,(0:Int)),hm,(.k0 [false,false] [] [0,2])⟩

def vR (pu:Af) (n:Nat) (x0 x1 x2:Int):OV:=
 (oo (EA x2) none fun k1=>(some (.bool (Bd (Np .u32 (G6 .u32 x1 k1) (1:Int)) (1:Int)))))
def WM (pu:Af) (n:Nat) (args:LV):OV:=
 (ll args none fun a0 args=>(ll args none fun a1 args=>(ll args (oo (Bt a0) none fun l0=>(ll l0 none fun v0 l0=>(ll l0 none fun v1 l0=>(ll l0 (oo (Bi .i64 v0) none fun x0=>(oo (Bi .u32 v1) none fun x1=>(oo (Bi .i64 a1) none fun x2=>(vR pu n x0 x1 x2)))) fun _ _=>none)))) fun _ _=>none)))
theorem AlK {call:A8} (pu:Af) (n:Nat) (hcall:call=Bb tabs isP pu (inl pu)) {args:LV} {v:Value} (hm:WM pu n args=some v) (_:∀ x∈args,closed2 x=true):args.length≤11∧BN tt call 2 RZ (Fr.made 11 args) (Ao tabs) (Fin tt 2 [.tmp 4] v):=by
 subst hcall
 unfold WM at hm
 replace hm:=Ad hm;obtain⟨a0,args_0,rfl,hm⟩:=hm
 replace hm:=Ad hm;obtain⟨a1,args_1,rfl,hm⟩:=hm
 replace hm:=AC hm;obtain⟨rfl,hm⟩:=hm
 replace hm:=BG hm;obtain⟨l0,rfl,hm⟩:=hm
 replace hm:=Ad hm;obtain⟨v0,l115667_0,rfl,hm⟩:=hm
 replace hm:=Ad hm;obtain⟨v1,l115667_1,rfl,hm⟩:=hm
 replace hm:=AC hm;obtain⟨rfl,hm⟩:=hm
 replace hm:=Ai hm;obtain⟨x0,rfl,hm⟩:=hm
 replace hm:=Ai hm;obtain⟨x1,rfl,hm⟩:=hm
 replace hm:=Ai hm;obtain⟨x2,rfl,hm⟩:=hm
 unfold vR at hm
 refine⟨by simp,?_⟩
 refine .same (F':=(fr 11 [(0,(.agg ⟨[zI x0,.int .u32 x1]⟩)),(1,zI x2)])) (H':=(hT 2 [(.cells Ay true false [])])) (by kernel_rfl) (by kernel_rfl) ?_
 refine .then (.rK (.ghs (fr 11 [(1,zI x2),(2,(pt 2 0))]) (hT 3 [(.cells Ay true false []),(oC [zI x0,.int .u32 x1])]) (.k0 [false,false] [.tmp 2 false] [1,2]) ?_))
 refine .then ?_
 replace hm:=Ab hm;obtain⟨k1,h0,hm⟩:=hm
 obtain rfl:=AR h0
 refine .rK (.ghs (fr 11 [(4,(zB (Bd (Np .u32 (G6 .u32 x1 k1) (1:Int)) (1:Int))))]) (hT 2 [(.cells Ay true false [])]) (.k0 [false,false] [] [4]) ?_)
 refine .ret ?_
 exact Bq (zB (Bd (Np .u32 (G6 .u32 x1 k1) (1:Int)) (1:Int))) hm
end
end Go.TpFM
